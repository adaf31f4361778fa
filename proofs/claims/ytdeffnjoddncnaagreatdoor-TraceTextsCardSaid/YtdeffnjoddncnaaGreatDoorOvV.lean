/- What the evaluator makes of the functions that the statements reach: one equation for each run of operations, by the kernel. No statement of the seat stands here. No condition. By an AI agent. -/
import Derived.Test.YtdeffnjoddncnaaGreatDoorOvA
import Derived.Test.YtdeffnjoddncnaaGreatDoorProg
import Derived.KernelRfl
namespace Go.Proofs.YtdeffnjoddncnaaGreatDoor.oev
open Go.Ev Go.Proofs
set_option maxRecDepth 100000
noncomputable def pc (hooks : List Hook) : PC := PC.of Tryz.prog hooks [0, 0, 1, 1099511594496, 1296806564033478677730576547414016, 137438952368,
 9007199254740864, 18173038859800650772081576269053952, 3894222643750004992257193737551872, 548680039936, 20282099816270809591328080922624, 262140,
 1329227960466752515772223035306663936, 4094, 590295810358705634240, 33536960, 262136, 16352, 24, 24, 524224, 248, 16376, 268434352, 34358624000,
 1099243191968, 480, 56, 3541774857960345829344, 267384832, 523776, 2032, 232, 56, 4032, 56, 50301888, 576390383559237888, 2032, 1008,
 1200051780682055981924352, 548681513920, 33536960, 194560, 2093016, 4186560, 480, 2032, 24, 524220, 16777176, 392640, 268431040, 457792, 504, 2040,
 163332877655759086281603379116418208301056, 13194131142656, 2032, 120, 65344, 17587890957440, 457792, 18014381321090304, 0, 17163025152, 1016, 24,
 504, 16777184, 16352, 68215103488, 112, 130816, 50329600, 32752, 4032, 65408, 4194272, 126, 1054972812980224, 9223299606459154432, 262112, 32744,
 32752, 184149205606795480238948490449146349755637850570752, 5050176389969560855884357697536, 4294966176, 262120, 24, 6228864,
 10384593407414639918073416691740640, 6228864, 1044424, 480, 240, 2032, 134152096, 129984, 248, 17873660895281152, 24, 16352, 1125835478138368,
 65507200, 246284026954752, 128, 244736, 444288, 131040, 131040, 261952, 8, 262016, 268434928, 130944, 1152885188510730240, 562947805802496, 480,
 523248, 56, 33537768, 0, 248, 248, 8362779444256686664798559507192695465114624, 1073602816, 4194302, 504, 504, 103582791362410496, 457792, 14680032,
 12574592, 549755813824, 140736414117888, 7936, 356811880641193946689691826088336933575983104, 248, 1125348137512960, 4277141376, 56, 248, 48640,
 166153182560275531675699597790863360, 16360, 16360, 7904, 32736, 148754255977818640873472, 17171475456, 928, 4835703260440209768046592, 398655360,
 31745151725696, 8, 16328, 1952, 8, 456, 134156032, 36, 4064, 4064, 104, 484, 65008, 8386568, 144114672678729728, 70368744168960, 17591682693120,
 17179868864, 484, 34587645138138185600, 8164, 65504, 590293839423849099264, 4503591037304448, 309182776060598402215280384, 532668352,
 21778071482618506735861013308488957231104, 16328, 79228162513074824341929064448, 1008, 1008, 1008, 34662321095378961161338743808, 16352,
 2199023189888, 2194224446208, 9007182074854400, 1152921496014807040, 147573917370944446464, 7890306461253730304, 17179835392,
 2787571881499075797774052896007796375347200, 1237938821800130672580354048, 383123885193474569774374055887950278561850630313328640, 524008, 1984, 8064,
 103048806384, 34342829312, 4186048, 258016, 260013824, 274877644160, 1504, 2080760, 2417851639198471889600512, 2, 4080, 56, 504, 4080, 33554400,
 2305825412699119296, 496, 8, 8589934528, 1056964592, 1032128, 132120064, 18887160055355137835008, 0, 32, 16128, 4543259750641845459761594177158656,
 268428272, 24, 64, 19342813112848872164551680, 64, 132120064, 8935141660702932864, 89794636423602880087156592636474722530567799319756800, 12574592,
 4294934272, 649037029945047576837886721114112, 16352, 4501336175669248, 3568, 30, 262080, 79225895778352558100046659584,
 158446644767534338890306928640, 4835702990227041035218944, 120, 8589934584, 261632, 2199023247360, 32192, 8384256, 20282409471425404962397755244544,
 17163084480, 224, 7696579557248, 224, 2040, 7904, 15856, 24, 2040, 48640, 17996745120149504, 524224, 504, 16304, 16304, 3114368, 248,
 288230376143288320, 480, 56, 16368, 192, 192, 192, 35764913150590976, 240, 240, 281337470646784, 4290768896, 262112,
 10448029773009037967681152029858612457160704, 224, 182686308445276092278898780960839177993124249600, 224, 42524890909723710779775849120990470144,
 9007190629408768, 261632, 444288, 1048064, 56, 30, 7936, 21778061098346189844478291628122334298112, 2097120, 240, 457792, 65264, 1073740800, 224, 0,
 56, 2266735911759287759665152, 523264, 4294961792, 224, 31457136, 56, 469761536, 1984, 48, 515848, 1984, 2064064, 1016, 1016, 48, 562948879675136,
 72057592963659776, 36893479342736111616, 123286018324422656, 4294958848, 10888952654262176519432384150372830132224, 131040,
 19342794090620444689299456, 374144419134252505651064520051920053992477580849152, 130944, 2251799813668864, 0, 548648513024, 1073741792, 4177344,
 4160745472, 4398046510976, 1030792150528, 134217696, 1984, 128960, 75557859222245976505344, 32640, 68719474688, 0, 2016, 240, 261952, 8796093022080,
 134217696, 268172288, 500, 520048, 2147155456, 0, 0, 0, 0, 0, 0, 0, 0, 0, 0, 0, 0, 0, 0, 0, 0, 0, 0, 0, 0, 0, 0, 0, 0, 0, 511] [(64, 1), (331, 2)]
 [(7, [7, 7, 0, 7]), (8, [7, 7, 0, 7]), (45, [7, 7]), (46, [7, 7]), (58, [7, 7, 7]), (59, [7, 7, 7]), (185, [7, 7, 7]), (186, [7, 7, 7]), (198, [7, 7,
 8, 7]), (199, [7, 7, 8, 7]), (207, [0, 8, 8]), (208, [0, 8, 8]), (215, [7]), (216, [7]), (245, [7, 7]), (246, [7, 7]), (254, []), (255, []), (287, [7,
 7, 0]), (288, [7, 7, 0]), (295, [7, 7]), (296, [7, 7]), (330, [7]), (331, [7]), (349, [8, 8, 8])] []
noncomputable def pc0 : PC := pc []
/- abugida/symbols.Text: parameters 2, slots in the frame: [(0, 0), (1, 1), (2, 2), (3, 3), (4, 4), (5, 5), (6, 6), (7, 7), (8, 8), (9, 16), (10, 17), (11, 18), (12, 19), (13, 20), (14, 30)] -/
def fiSText : FI := ⟨548680039936, 39, 6⟩
noncomputable def bodySText := bodyOf Tryz.prog 9
noncomputable def cSText_1 := comp pc0 fiSText (subC [0] bodySText)
noncomputable def uSText_4 := subC [1, 0, 0] bodySText
noncomputable def cSText_4 := comp pc0 fiSText uSText_4
noncomputable def qSText_4_7 := qOf pc0 fiSText uSText_4 7 1 [16, 15, 14, 13, 12, 11, 10]
noncomputable def qSText_4_4 := qOf pc0 fiSText uSText_4 4 3 [13, 12, 11, 10]
noncomputable def qSText_4_0 := qOf pc0 fiSText uSText_4 0 4 []
noncomputable def cSText_7 := comp pc0 fiSText (subC [1, 0, 1, 0, 0] bodySText)
noncomputable def cSText_11 := comp pc0 fiSText (subC [1, 1, 0] bodySText)
noncomputable def cSText_14 := comp pc0 fiSText (subC [1, 1, 1, 0, 0] bodySText)
noncomputable def cSText_18 := comp pc0 fiSText (subC [1, 1, 1, 0, 1, 0, 0, 0] bodySText)
noncomputable def cSText_26 := comp pc0 fiSText (subC [1, 1, 1, 0, 1, 0, 0, 1, 1, 0, 0, 0] bodySText)
noncomputable def uSText_29 := subC [1, 1, 1, 0, 1, 0, 0, 1, 1, 0, 0, 1, 0, 0] bodySText
noncomputable def cSText_29 := comp pc0 fiSText uSText_29
noncomputable def qSText_29_7 := qOf pc0 fiSText uSText_29 7 1 [30, 29, 28, 27, 26, 25, 24]
noncomputable def qSText_29_3 := qOf pc0 fiSText uSText_29 3 4 [26, 25, 24]
noncomputable def qSText_29_0 := qOf pc0 fiSText uSText_29 0 3 []
noncomputable def cSText_32 := comp pc0 fiSText (subC [1, 1, 1, 0, 1, 0, 0, 1, 1, 0, 0, 1, 0, 1, 0, 0] bodySText)
noncomputable def cSText_35 := comp pc0 fiSText (subC [1, 1, 1, 0, 1, 0, 0, 1, 1, 0, 0, 1, 1] bodySText)
noncomputable def cSText_36 := comp pc0 fiSText (subC [1, 1, 1, 0, 1, 0, 0, 1, 1, 1] bodySText)
noncomputable def uSText_16 := subC [1, 1, 1, 0, 1, 0] bodySText
noncomputable def cSText_16 := comp pc0 fiSText uSText_16
noncomputable def cSText_38 := comp pc0 fiSText (subC [1, 1, 1, 1, 0] bodySText)
noncomputable def cSText_0 := comp pc0 fiSText bodySText
noncomputable def finSText := finN (resC pc0 fiSText (resOf Tryz.prog 9)).run
theorem eSTextx :
 ((((∀ r s x0 x1, (fnC pc0 9).run r [x0, x1] s = outF (bindR (fun tm s => finSText tm s) (cSText_0.run r (sp 1 x1 (sp 0 x0 T.new)) s))) ∧
 (∀ s tm, finSText tm s = finV (gp 240 tm) (resV [(gp 4 tm), (gp 5 tm)] s))) ∧
 ((∀ r s tm, cSText_0.run r tm s = seqA (fun tm s => seqA (fun tm s => seqA (fun tm s => seqA (fun tm s => seqA (fun tm s => .ret tm s) (cSText_38.run r tm s)) (seqA (fun tm s => blockA 0 (cSText_16.run r tm s)) (cSText_14.run r tm s))) (cSText_11.run r tm s)) (seqA (fun tm s => condV (gp 9 tm) (seqA (fun tm s => .ret tm s) (cSText_7.run r tm s)) (.nrm tm s)) (cSText_4.run r tm s))) (cSText_1.run r tm s)) ∧
 ((∀ g r s tm le, (qSText_4_0 g).run r tm (le) s = foldF (r.call 16 [(gp 0 tm)] s) fun v1 s => xUn .not v1 fun v2 => g.run r tm (v2 :: v2 :: v1 :: (gp 0 tm) :: le) s) ∧
 (∀ g r s tm le, (qSText_4_4 g).run r tm ((.bool true) :: le) s = g.run r tm (Go.Ev.undef :: Go.Ev.undef :: Go.Ev.undef :: (.bool true) :: le) s)))) ∧
 (((∀ g r s tm le, (qSText_4_4 g).run r tm ((.bool false) :: le) s = xLenS (gp 1 tm) fun v5 => xBin ⟨9, []⟩ false .gtr v5 (V.nat .i64 200) fun v6 => g.run r tm (v6 :: v5 :: (gp 1 tm) :: (.bool false) :: le) s) ∧
 ((∀ g r s tm le x0_ x1_ x2_ x3_, (qSText_4_7 g).run r tm (x0_ :: x1_ :: x2_ :: x3_ :: le) s = xPick x3_ (fun _ => g.run r (sp 9 (V.bool true) tm) ((V.bool true) :: x0_ :: x1_ :: x2_ :: x3_ :: le) s) (fun _ => g.run r (sp 9 x0_ tm) (x0_ :: x0_ :: x1_ :: x2_ :: x3_ :: le) s)) ∧
 (∀ g r s tm le, (qSText_29_0 g).run r tm (le) s = xBin ⟨9, []⟩ false .lss (gp 8 tm) (V.nat .i64 1) fun v1 => g.run r tm (v1 :: v1 :: (gp 8 tm) :: le) s))) ∧
 ((∀ g r s tm le, (qSText_29_3 g).run r tm ((.bool true) :: le) s = g.run r tm (Go.Ev.undef :: Go.Ev.undef :: Go.Ev.undef :: Go.Ev.undef :: (.bool true) :: le) s) ∧
 ((∀ g r s tm le, (qSText_29_3 g).run r tm ((.bool false) :: le) s = xLenS (gp 0 tm) fun v5 => xBin ⟨9, []⟩ false .gtr (gp 8 tm) v5 fun v6 => g.run r tm (v6 :: v5 :: (gp 0 tm) :: (gp 8 tm) :: (.bool false) :: le) s) ∧
 (∀ g r s tm le x0_ x1_ x2_ x3_ x4_, (qSText_29_7 g).run r tm (x0_ :: x1_ :: x2_ :: x3_ :: x4_ :: le) s = xPick x4_ (fun _ => g.run r (sp 14 (V.bool true) tm) ((V.bool true) :: x0_ :: x1_ :: x2_ :: x3_ :: x4_ :: le) s) (fun _ => g.run r (sp 14 x0_ tm) (x0_ :: x0_ :: x1_ :: x2_ :: x3_ :: x4_ :: le) s)))))) := by
 and_intros <;> (intros; kernel_rfl)
theorem rgSText_1 : ∀ r s tm, cSText_1.run r tm s = .nrm (sp 5 (V.nat .i64 0) (sp 4 (V.str []) tm)) s := reg1 2
theorem rgSText_4 : ∀ r s tm, cSText_4.run r tm s = (qSText_4_0 (qSText_4_4 (qSText_4_7 nilL))).run r tm [] s := reg_run (by kernel_rfl) (chS rfl (by kernel_rfl) (chS rfl (by kernel_rfl) chL))
theorem rgSText_7 : ∀ r s tm, cSText_7.run r tm s = .nrm (sp 5 (V.nat .i64 1) (sp 4 (V.str []) tm)) s := reg1 2
theorem rgSText_11 : ∀ r s tm, cSText_11.run r tm s = Go.Ev.newRow s 52 [(V.nil 0), (V.nil 1)] false fun a0k _ s => .nrm (sp 6 (V.ptr a0k 0 0) tm) s := reg1 1
theorem rgSText_14 : ∀ r s tm, cSText_14.run r tm s = xLenS (gp 1 tm) fun v1 => .nrm (sp 12 (V.nat .i64 0) (sp 11 v1 (sp 10 (gp 1 tm) tm))) s := reg1 3
theorem rgSText_18 : ∀ r s tm, cSText_18.run r tm s = xBin ⟨9, []⟩ false .lss (gp 12 tm) (gp 11 tm) fun v0 => .nrm (sp 13 v0 tm) s := reg1 1
theorem rgSText_26 : ∀ r s tm, cSText_26.run r tm s = xIdxAddrS 1 (gp 10 tm) (gp 12 tm) fun v0 => xLoad false 1 v0 s fun v1 s => .nrm (sp 8 v1 tm) s := reg1 3
theorem rgSText_29 : ∀ r s tm, cSText_29.run r tm s = (qSText_29_0 (qSText_29_3 (qSText_29_7 nilL))).run r tm [] s := reg_run (by kernel_rfl) (chS rfl (by kernel_rfl) (chS rfl (by kernel_rfl) chL))
theorem rgSText_32 : ∀ r s tm, cSText_32.run r tm s = .nrm (sp 5 (V.nat .i64 1) (sp 4 (V.str []) tm)) s := reg1 2
theorem rgSText_35 : ∀ r s tm, cSText_35.run r tm s = xBin ⟨9, []⟩ false .sub (gp 8 tm) (V.nat .i64 1) fun v2 => xIdxAddrS 1 (gp 0 tm) v2 fun v3 => xLoad false 1 v3 s fun v4 s => foldF (r.call 20 [(gp 6 tm), v4] s) fun _ s => .nrm tm s := reg1 6
theorem rgSText_36 : ∀ r s tm, cSText_36.run r tm s = xBin ⟨9, []⟩ false .add (gp 12 tm) (V.nat .i64 1) fun v0 => .nrm (sp 12 v0 tm) s := reg1 2
theorem rgSText_38 : ∀ r s tm, cSText_38.run r tm s = foldF (r.call 22 [(gp 6 tm)] s) fun v0 s => .nrm (sp 5 (V.nat .i64 0) (sp 4 v0 tm)) s := reg1 3
theorem szSText_16 : sizeC uSText_16 = 43 := by kernel_rfl
theorem lpSText_16 : ∀ r s tm, cSText_16.run r tm s = seqA (fun tm s => r.code fiSText uSText_16 tm s) (seqA (fun tm s => seqA (fun tm s => seqA (fun tm s => cSText_36.run r tm s) (blockA 1 (seqA (fun tm s => seqA (fun tm s => cSText_35.run r tm s) (seqA (fun tm s => condV (gp 14 tm) (seqA (fun tm s => .ret tm s) (cSText_32.run r tm s)) (.nrm tm s)) (cSText_29.run r tm s))) (cSText_26.run r tm s)))) (condV (gp 13 tm) (.nrm tm s) (.ext 0 tm s))) (cSText_18.run r tm s)) := by intros; kernel_rfl
theorem allSText : type_of% (And.intro rgSText_1 <| And.intro rgSText_4 <| And.intro rgSText_7 <| And.intro rgSText_11 <| And.intro rgSText_14 <| And.intro rgSText_18 <| And.intro rgSText_26 <| And.intro rgSText_29 <| And.intro rgSText_32 <| And.intro rgSText_35 <| And.intro rgSText_36 <| And.intro rgSText_38 <| eSTextx) := And.intro rgSText_1 <| And.intro rgSText_4 <| And.intro rgSText_7 <| And.intro rgSText_11 <| And.intro rgSText_14 <| And.intro rgSText_18 <| And.intro rgSText_26 <| And.intro rgSText_29 <| And.intro rgSText_32 <| And.intro rgSText_35 <| And.intro rgSText_36 <| And.intro rgSText_38 <| eSTextx
/- abugida/symbols.Valid: parameters 1, slots in the frame: [(0, 0), (1, 1), (2, 2)] -/
def fiSValid : FI := ⟨262136, 18, 6⟩
noncomputable def bodySValid := bodyOf Tryz.prog 16
noncomputable def cSValid_1 := comp pc0 fiSValid (subC [0] bodySValid)
noncomputable def uSValid_3 := subC [1, 0] bodySValid
noncomputable def cSValid_3 := comp pc0 fiSValid uSValid_3
noncomputable def qSValid_3_14 := qOf pc0 fiSValid uSValid_3 14 2 [17, 16, 15, 14, 13, 12, 11, 10, 9, 8, 7, 6, 5, 4]
noncomputable def qSValid_3_8 := qOf pc0 fiSValid uSValid_3 8 6 [11, 10, 9, 8, 7, 6, 5, 4]
noncomputable def qSValid_3_6 := qOf pc0 fiSValid uSValid_3 6 2 [9, 8, 7, 6, 5, 4]
noncomputable def qSValid_3_4 := qOf pc0 fiSValid uSValid_3 4 2 [7, 6, 5, 4]
noncomputable def qSValid_3_0 := qOf pc0 fiSValid uSValid_3 0 4 []
noncomputable def cSValid_0 := comp pc0 fiSValid bodySValid
noncomputable def finSValid := finN (resC pc0 fiSValid (resOf Tryz.prog 16)).run
theorem eSValidx :
 ((((∀ r s x0, (fnC pc0 16).run r [x0] s = outF (bindR (fun tm s => finSValid tm s) (cSValid_0.run r (sp 0 x0 T.new) s))) ∧
 (∀ s tm, finSValid tm s = finV (gp 240 tm) (resV [(gp 2 tm)] s))) ∧
 ((∀ r s tm, cSValid_0.run r tm s = seqA (fun tm s => seqA (fun tm s => .ret tm s) (cSValid_3.run r tm s)) (cSValid_1.run r tm s)) ∧
 ((∀ g r s tm le, (qSValid_3_0 g).run r tm (le) s = xLenS (gp 0 tm) fun v1 => xBin ⟨9, []⟩ false .leq v1 (V.nat .i64 500) fun v2 => g.run r tm (v2 :: v2 :: v1 :: (gp 0 tm) :: le) s) ∧
 (∀ g r s tm le, (qSValid_3_4 g).run r tm ((.bool true) :: le) s = foldF (r.call 43 [(gp 0 tm), (V.fn (.func 44) [] [])] s) fun v5 s => g.run r tm (v5 :: (gp 0 tm) :: (.bool true) :: le) s)))) ∧
 (((∀ g r s tm le, (qSValid_3_4 g).run r tm ((.bool false) :: le) s = g.run r tm (Go.Ev.undef :: Go.Ev.undef :: (.bool false) :: le) s) ∧
 (∀ g r s tm le x0_ x1_ x2_, (qSValid_3_6 g).run r tm (x0_ :: x1_ :: x2_ :: le) s = xPick x2_ (fun _ => g.run r tm (x0_ :: x0_ :: x0_ :: x1_ :: x2_ :: le) s) (fun _ => g.run r tm ((V.bool false) :: (V.bool false) :: x0_ :: x1_ :: x2_ :: le) s))) ∧
 ((∀ g r s tm le, (qSValid_3_8 g).run r tm ((.bool true) :: le) s = foldF (r.call 45 [(gp 0 tm)] s) fun v9 s => xLenM v9 s fun v10 => xLenS (gp 0 tm) fun v12 => xBin ⟨7, []⟩ false .eql v10 v12 fun v13 => g.run r tm (v13 :: v12 :: (gp 0 tm) :: v10 :: v9 :: (gp 0 tm) :: (.bool true) :: le) s) ∧
 ((∀ g r s tm le, (qSValid_3_8 g).run r tm ((.bool false) :: le) s = g.run r tm (Go.Ev.undef :: Go.Ev.undef :: Go.Ev.undef :: Go.Ev.undef :: Go.Ev.undef :: Go.Ev.undef :: (.bool false) :: le) s) ∧
 (∀ g r s tm le x0_ x1_ x2_ x3_ x4_ x5_ x6_, (qSValid_3_14 g).run r tm (x0_ :: x1_ :: x2_ :: x3_ :: x4_ :: x5_ :: x6_ :: le) s = xPick x6_ (fun _ => g.run r (sp 2 x0_ tm) (x0_ :: x0_ :: x0_ :: x1_ :: x2_ :: x3_ :: x4_ :: x5_ :: x6_ :: le) s) (fun _ => g.run r (sp 2 (V.bool false) tm) ((V.bool false) :: (V.bool false) :: x0_ :: x1_ :: x2_ :: x3_ :: x4_ :: x5_ :: x6_ :: le) s)))))) := by
 and_intros <;> (intros; kernel_rfl)
theorem rgSValid_1 : ∀ r s tm, cSValid_1.run r tm s = .nrm (sp 2 (V.bool false) tm) s := reg1 1
theorem rgSValid_3 : ∀ r s tm, cSValid_3.run r tm s = (qSValid_3_0 (qSValid_3_4 (qSValid_3_6 (qSValid_3_8 (qSValid_3_14 nilL))))).run r tm [] s := reg_run (by kernel_rfl) (chS rfl (by kernel_rfl) (chS rfl (by kernel_rfl) (chS rfl (by kernel_rfl) (chS rfl (by kernel_rfl) chL))))
theorem allSValid : type_of% (And.intro rgSValid_1 <| And.intro rgSValid_3 <| eSValidx) := And.intro rgSValid_1 <| And.intro rgSValid_3 <| eSValidx
/- (*strings.Builder).WriteString: parameters 2, slots in the frame: [(0, 0), (1, 1), (2, 2), (3, 3), (4, 4), (5, 5)] -/
def fiBWrite : FI := ⟨524224, 19, 6⟩
noncomputable def bodyBWrite := bodyOf Tryz.prog 20
noncomputable def cBWrite_1 := comp pc0 fiBWrite (subC [0] bodyBWrite)
noncomputable def cBWrite_3 := comp pc0 fiBWrite (subC [1, 0] bodyBWrite)
noncomputable def cBWrite_5 := comp pc0 fiBWrite (subC [1, 1, 0] bodyBWrite)
noncomputable def cBWrite_7 := comp pc0 fiBWrite (subC [1, 1, 1, 0] bodyBWrite)
noncomputable def cBWrite_0 := comp pc0 fiBWrite bodyBWrite
noncomputable def finBWrite := finN (resC pc0 fiBWrite (resOf Tryz.prog 20)).run
theorem eBWritex :
 ((∀ r s x0 x1, (fnC pc0 20).run r [x0, x1] s = outF (bindR (fun tm s => finBWrite tm s) (cBWrite_0.run r (sp 1 x1 (sp 0 x0 T.new)) s))) ∧
 ((∀ s tm, finBWrite tm s = finV (gp 240 tm) (resV [(gp 4 tm), (gp 5 tm)] s)) ∧
 (∀ r s tm, cBWrite_0.run r tm s = seqA (fun tm s => seqA (fun tm s => seqA (fun tm s => seqA (fun tm s => .ret tm s) (cBWrite_7.run r tm s)) (cBWrite_5.run r tm s)) (cBWrite_3.run r tm s)) (cBWrite_1.run r tm s)))) := by
 and_intros <;> (intros; kernel_rfl)
theorem rgBWrite_1 : ∀ r s tm, cBWrite_1.run r tm s = .nrm (sp 5 (V.nil 4) (sp 4 (V.nat .i64 0) tm)) s := reg1 2
theorem rgBWrite_3 : ∀ r s tm, cBWrite_3.run r tm s = foldF (r.call 49 [(gp 0 tm)] s) fun _ s => .nrm tm s := reg1 2
theorem rgBWrite_5 : ∀ r s tm, cBWrite_5.run r tm s = xNilCheck (gp 0 tm) fun v2 => xFieldAddr 1 v2 fun v3 => xLoad false 1 v3 s fun v4 s => xAppend 5 1 v4 (gp 1 tm) s fun v6 s => xNilCheck (gp 0 tm) fun v7 => xFieldAddr 1 v7 fun v8 => xStore 1 v8 v6 s fun _ s => .nrm tm s := reg1 10
theorem rgBWrite_7 : ∀ r s tm, cBWrite_7.run r tm s = xLenT (gp 1 tm) fun v1 => .nrm (sp 5 (V.nil 4) (sp 4 v1 tm)) s := reg1 4
theorem allBWrite : type_of% (And.intro rgBWrite_1 <| And.intro rgBWrite_3 <| And.intro rgBWrite_5 <| And.intro rgBWrite_7 <| eBWritex) := And.intro rgBWrite_1 <| And.intro rgBWrite_3 <| And.intro rgBWrite_5 <| And.intro rgBWrite_7 <| eBWritex
/- (*strings.Builder).Len: parameters 1, slots in the frame: [(0, 0), (1, 1), (2, 2)] -/
def fiBLen : FI := ⟨248, 8, 6⟩
noncomputable def bodyBLen := bodyOf Tryz.prog 21
noncomputable def cBLen_1 := comp pc0 fiBLen (subC [0] bodyBLen)
noncomputable def cBLen_3 := comp pc0 fiBLen (subC [1, 0] bodyBLen)
noncomputable def cBLen_0 := comp pc0 fiBLen bodyBLen
noncomputable def finBLen := finN (resC pc0 fiBLen (resOf Tryz.prog 21)).run
theorem eBLenx :
 ((∀ r s x0, (fnC pc0 21).run r [x0] s = outF (bindR (fun tm s => finBLen tm s) (cBLen_0.run r (sp 0 x0 T.new) s))) ∧
 ((∀ s tm, finBLen tm s = finV (gp 240 tm) (resV [(gp 2 tm)] s)) ∧
 (∀ r s tm, cBLen_0.run r tm s = seqA (fun tm s => seqA (fun tm s => .ret tm s) (cBLen_3.run r tm s)) (cBLen_1.run r tm s)))) := by
 and_intros <;> (intros; kernel_rfl)
theorem rgBLen_1 : ∀ r s tm, cBLen_1.run r tm s = .nrm (sp 2 (V.nat .i64 0) tm) s := reg1 1
theorem rgBLen_3 : ∀ r s tm, cBLen_3.run r tm s = xNilCheck (gp 0 tm) fun v1 => xFieldAddr 1 v1 fun v2 => xLoad false 1 v2 s fun v3 s => xLenS v3 fun v4 => .nrm (sp 2 v4 tm) s := reg1 6
theorem allBLen : type_of% (And.intro rgBLen_1 <| And.intro rgBLen_3 <| eBLenx) := And.intro rgBLen_1 <| And.intro rgBLen_3 <| eBLenx
/- (*strings.Builder).String: parameters 1, slots in the frame: [(0, 0), (1, 1), (2, 2)] -/
def fiBString : FI := ⟨16376, 14, 6⟩
noncomputable def bodyBString := bodyOf Tryz.prog 22
noncomputable def cBString_1 := comp pc0 fiBString (subC [0] bodyBString)
noncomputable def cBString_3 := comp pc0 fiBString (subC [1, 0] bodyBString)
noncomputable def cBString_0 := comp pc0 fiBString bodyBString
noncomputable def finBString := finN (resC pc0 fiBString (resOf Tryz.prog 22)).run
theorem eBStringx :
 ((∀ r s x0, (fnC pc0 22).run r [x0] s = outF (bindR (fun tm s => finBString tm s) (cBString_0.run r (sp 0 x0 T.new) s))) ∧
 ((∀ s tm, finBString tm s = finV (gp 240 tm) (resV [(gp 2 tm)] s)) ∧
 (∀ r s tm, cBString_0.run r tm s = seqA (fun tm s => seqA (fun tm s => .ret tm s) (cBString_3.run r tm s)) (cBString_1.run r tm s)))) := by
 and_intros <;> (intros; kernel_rfl)
theorem rgBString_1 : ∀ r s tm, cBString_1.run r tm s = .nrm (sp 2 (V.str []) tm) s := reg1 1
theorem rgBString_3 : ∀ r s tm, cBString_3.run r tm s = xNilCheck (gp 0 tm) fun v1 => xFieldAddr 1 v1 fun v2 => xLoad false 1 v2 s fun v3 s => xNilCheck (gp 0 tm) fun v5 => xFieldAddr 1 v5 fun v6 => xLoad false 1 v6 s fun v7 s => xLenS v7 fun v8 => xSliceData v3 fun v9 => xLoad false 1 v6 s fun v10 s => boolA (beqV v10 v7) (xLenS v7 fun v11 => boolA (beqV v11 v8) (xUStr 5 v9 v8 s fun v12 s => .nrm (sp 2 v12 tm) s) (.bad 194)) (.bad 194) := dreg1 14
theorem allBString : type_of% (And.intro rgBString_1 <| And.intro rgBString_3 <| eBStringx) := And.intro rgBString_1 <| And.intro rgBString_3 <| eBStringx
/- abugida/symbols.all: parameters 2, slots in the frame: [(0, 0), (1, 1), (2, 2), (3, 3), (4, 4), (5, 5), (6, 6), (7, 7), (8, 8), (9, 9), (10, 10), (11, 16)] -/
def fiAllS : FI := ⟨194560, 18, 6⟩
noncomputable def bodyAllS := bodyOf Tryz.prog 43
noncomputable def cAllS_1 := comp pc0 fiAllS (subC [0] bodyAllS)
noncomputable def cAllS_4 := comp pc0 fiAllS (subC [1, 0, 0] bodyAllS)
noncomputable def cAllS_8 := comp pc0 fiAllS (subC [1, 0, 1, 0, 0, 0] bodyAllS)
noncomputable def cAllS_16 := comp pc0 fiAllS (subC [1, 0, 1, 0, 0, 1, 1, 0, 0, 0] bodyAllS)
noncomputable def cAllS_18 := comp pc0 fiAllS (subC [1, 0, 1, 0, 0, 1, 1, 0, 0, 1, 0] bodyAllS)
noncomputable def cAllS_21 := comp pc0 fiAllS (subC [1, 0, 1, 0, 0, 1, 1, 0, 0, 1, 1, 0, 0] bodyAllS)
noncomputable def cAllS_24 := comp pc0 fiAllS (subC [1, 0, 1, 0, 0, 1, 1, 1] bodyAllS)
noncomputable def uAllS_6 := subC [1, 0, 1, 0] bodyAllS
noncomputable def cAllS_6 := comp pc0 fiAllS uAllS_6
noncomputable def cAllS_26 := comp pc0 fiAllS (subC [1, 1, 0] bodyAllS)
noncomputable def cAllS_0 := comp pc0 fiAllS bodyAllS
noncomputable def finAllS := finN (resC pc0 fiAllS (resOf Tryz.prog 43)).run
theorem eAllSx :
 ((∀ r s x0 x1, (fnC pc0 43).run r [x0, x1] s = outF (bindR (fun tm s => finAllS tm s) (cAllS_0.run r (sp 1 x1 (sp 0 x0 T.new)) s))) ∧
 ((∀ s tm, finAllS tm s = finV (gp 240 tm) (resV [(gp 4 tm)] s)) ∧
 (∀ r s tm, cAllS_0.run r tm s = seqA (fun tm s => seqA (fun tm s => seqA (fun tm s => .ret tm s) (cAllS_26.run r tm s)) (seqA (fun tm s => blockA 0 (cAllS_6.run r tm s)) (cAllS_4.run r tm s))) (cAllS_1.run r tm s)))) := by
 and_intros <;> (intros; kernel_rfl)
theorem rgAllS_1 : ∀ r s tm, cAllS_1.run r tm s = .nrm (sp 4 (V.bool false) tm) s := reg1 1
theorem rgAllS_4 : ∀ r s tm, cAllS_4.run r tm s = xLenS (gp 0 tm) fun v1 => .nrm (sp 9 (V.nat .i64 0) (sp 8 v1 (sp 7 (gp 0 tm) tm))) s := reg1 3
theorem rgAllS_8 : ∀ r s tm, cAllS_8.run r tm s = xBin ⟨9, []⟩ false .lss (gp 9 tm) (gp 8 tm) fun v0 => .nrm (sp 10 v0 tm) s := reg1 1
theorem rgAllS_16 : ∀ r s tm, cAllS_16.run r tm s = xIdxAddrS 1 (gp 7 tm) (gp 9 tm) fun v0 => xLoad false 1 v0 s fun v1 s => .nrm (sp 6 v1 tm) s := reg1 3
theorem rgAllS_18 : ∀ r s tm, cAllS_18.run r tm s = callV r (gp 1 tm) [(gp 6 tm)] tm s fun v2 s => xUn .not v2 fun v3 => .nrm (sp 11 v3 tm) s := reg1 4
theorem rgAllS_21 : ∀ r s tm, cAllS_21.run r tm s = .nrm (sp 4 (V.bool false) tm) s := reg1 1
theorem rgAllS_24 : ∀ r s tm, cAllS_24.run r tm s = xBin ⟨9, []⟩ false .add (gp 9 tm) (V.nat .i64 1) fun v0 => .nrm (sp 9 v0 tm) s := reg1 2
theorem rgAllS_26 : ∀ r s tm, cAllS_26.run r tm s = .nrm (sp 4 (V.bool true) tm) s := reg1 1
theorem szAllS_6 : sizeC uAllS_6 = 30 := by kernel_rfl
theorem lpAllS_6 : ∀ r s tm, cAllS_6.run r tm s = seqA (fun tm s => r.code fiAllS uAllS_6 tm s) (seqA (fun tm s => seqA (fun tm s => seqA (fun tm s => cAllS_24.run r tm s) (blockA 1 (seqA (fun tm s => seqA (fun tm s => condV (gp 11 tm) (seqA (fun tm s => .ret tm s) (cAllS_21.run r tm s)) (.nrm tm s)) (cAllS_18.run r tm s)) (cAllS_16.run r tm s)))) (condV (gp 10 tm) (.nrm tm s) (.ext 0 tm s))) (cAllS_8.run r tm s)) := by intros; kernel_rfl
theorem allAllS : type_of% (And.intro rgAllS_1 <| And.intro rgAllS_4 <| And.intro rgAllS_8 <| And.intro rgAllS_16 <| And.intro rgAllS_18 <| And.intro rgAllS_21 <| And.intro rgAllS_24 <| And.intro rgAllS_26 <| eAllSx) := And.intro rgAllS_1 <| And.intro rgAllS_4 <| And.intro rgAllS_8 <| And.intro rgAllS_16 <| And.intro rgAllS_18 <| And.intro rgAllS_21 <| And.intro rgAllS_24 <| And.intro rgAllS_26 <| eAllSx
/- abugida/symbols.isName: parameters 1, slots in the frame: [(0, 0), (1, 1), (2, 2), (3, 5), (4, 12)] -/
def fiIsName : FI := ⟨2093016, 21, 6⟩
noncomputable def bodyIsName := bodyOf Tryz.prog 44
noncomputable def cIsName_1 := comp pc0 fiIsName (subC [0] bodyIsName)
noncomputable def uIsName_4 := subC [1, 0, 0] bodyIsName
noncomputable def cIsName_4 := comp pc0 fiIsName uIsName_4
noncomputable def qIsName_4_6 := qOf pc0 fiIsName uIsName_4 6 1 [12, 11, 10, 9, 8, 7]
noncomputable def qIsName_4_3 := qOf pc0 fiIsName uIsName_4 3 3 [9, 8, 7]
noncomputable def qIsName_4_0 := qOf pc0 fiIsName uIsName_4 0 3 []
noncomputable def cIsName_7 := comp pc0 fiIsName (subC [1, 0, 1, 0, 0] bodyIsName)
noncomputable def cIsName_11 := comp pc0 fiIsName (subC [1, 1, 0] bodyIsName)
noncomputable def cIsName_13 := comp pc0 fiIsName (subC [1, 1, 1, 0] bodyIsName)
noncomputable def cIsName_0 := comp pc0 fiIsName bodyIsName
noncomputable def finIsName := finN (resC pc0 fiIsName (resOf Tryz.prog 44)).run
theorem eIsNamex :
 (((∀ r s x0, (fnC pc0 44).run r [x0] s = outF (bindR (fun tm s => finIsName tm s) (cIsName_0.run r (sp 0 x0 T.new) s))) ∧
 ((∀ s tm, finIsName tm s = finV (gp 240 tm) (resV [(gp 2 tm)] s)) ∧
 (∀ r s tm, cIsName_0.run r tm s = seqA (fun tm s => seqA (fun tm s => seqA (fun tm s => seqA (fun tm s => .ret tm s) (cIsName_13.run r tm s)) (cIsName_11.run r tm s)) (seqA (fun tm s => condV (gp 4 tm) (seqA (fun tm s => .ret tm s) (cIsName_7.run r tm s)) (.nrm tm s)) (cIsName_4.run r tm s))) (cIsName_1.run r tm s)))) ∧
 (((∀ g r s tm le, (qIsName_4_0 g).run r tm (le) s = xBin ⟨8, []⟩ true .eql (gp 0 tm) (V.str []) fun v1 => g.run r tm (v1 :: v1 :: (gp 0 tm) :: le) s) ∧
 (∀ g r s tm le, (qIsName_4_3 g).run r tm ((.bool true) :: le) s = g.run r tm (Go.Ev.undef :: Go.Ev.undef :: Go.Ev.undef :: (.bool true) :: le) s)) ∧
 ((∀ g r s tm le, (qIsName_4_3 g).run r tm ((.bool false) :: le) s = xLenT (gp 0 tm) fun v4 => xBin ⟨9, []⟩ false .gtr v4 (V.nat .i64 40) fun v5 => g.run r tm (v5 :: v4 :: (gp 0 tm) :: (.bool false) :: le) s) ∧
 (∀ g r s tm le x0_ x1_ x2_ x3_, (qIsName_4_6 g).run r tm (x0_ :: x1_ :: x2_ :: x3_ :: le) s = xPick x3_ (fun _ => g.run r (sp 4 (V.bool true) tm) ((V.bool true) :: x0_ :: x1_ :: x2_ :: x3_ :: le) s) (fun _ => g.run r (sp 4 x0_ tm) (x0_ :: x0_ :: x1_ :: x2_ :: x3_ :: le) s))))) := by
 and_intros <;> (intros; kernel_rfl)
theorem rgIsName_1 : ∀ r s tm, cIsName_1.run r tm s = .nrm (sp 2 (V.bool false) tm) s := reg1 1
theorem rgIsName_4 : ∀ r s tm, cIsName_4.run r tm s = (qIsName_4_0 (qIsName_4_3 (qIsName_4_6 nilL))).run r tm [] s := reg_run (by kernel_rfl) (chS rfl (by kernel_rfl) (chS rfl (by kernel_rfl) chL))
theorem rgIsName_7 : ∀ r s tm, cIsName_7.run r tm s = .nrm (sp 2 (V.bool false) tm) s := reg1 1
theorem rgIsName_11 : ∀ r s tm, cIsName_11.run r tm s = foldF (r.call 61 [(gp 0 tm)] s) fun v1 s => xExtract 0 v1 fun _ => xExtract 1 v1 fun _ => xExtract 2 v1 fun v5 => .nrm (sp 3 v5 tm) s := reg1 9
theorem rgIsName_13 : ∀ r s tm, cIsName_13.run r tm s = xBin ⟨7, []⟩ true .eql (gp 3 tm) (V.nat .i64 0) fun v1 => .nrm (sp 2 v1 tm) s := reg1 3
theorem allIsName : type_of% (And.intro rgIsName_1 <| And.intro rgIsName_4 <| And.intro rgIsName_7 <| And.intro rgIsName_11 <| And.intro rgIsName_13 <| eIsNamex) := And.intro rgIsName_1 <| And.intro rgIsName_4 <| And.intro rgIsName_7 <| And.intro rgIsName_11 <| And.intro rgIsName_13 <| eIsNamex
/- abugida/symbols.numbers: parameters 1, slots in the frame: [(0, 0), (1, 1), (2, 2), (3, 3), (4, 4), (5, 5), (6, 9), (7, 10), (8, 11), (9, 12)] -/
def fiNumbers : FI := ⟨4186560, 22, 6⟩
noncomputable def bodyNumbers := bodyOf Tryz.prog 45
noncomputable def cNumbers_1 := comp pc0 fiNumbers (subC [0] bodyNumbers)
noncomputable def cNumbers_3 := comp pc0 fiNumbers (subC [1, 0] bodyNumbers)
noncomputable def cNumbers_6 := comp pc0 fiNumbers (subC [1, 1, 0, 0] bodyNumbers)
noncomputable def cNumbers_10 := comp pc0 fiNumbers (subC [1, 1, 0, 1, 0, 0, 0] bodyNumbers)
noncomputable def cNumbers_18 := comp pc0 fiNumbers (subC [1, 1, 0, 1, 0, 0, 1, 1, 0, 0, 0] bodyNumbers)
noncomputable def cNumbers_19 := comp pc0 fiNumbers (subC [1, 1, 0, 1, 0, 0, 1, 1, 0, 0, 1] bodyNumbers)
noncomputable def cNumbers_20 := comp pc0 fiNumbers (subC [1, 1, 0, 1, 0, 0, 1, 1, 1] bodyNumbers)
noncomputable def uNumbers_8 := subC [1, 1, 0, 1, 0] bodyNumbers
noncomputable def cNumbers_8 := comp pc0 fiNumbers uNumbers_8
noncomputable def cNumbers_22 := comp pc0 fiNumbers (subC [1, 1, 1, 0] bodyNumbers)
noncomputable def cNumbers_0 := comp pc0 fiNumbers bodyNumbers
noncomputable def finNumbers := finN (resC pc0 fiNumbers (resOf Tryz.prog 45)).run
theorem eNumbersx :
 ((∀ r s x0, (fnC pc0 45).run r [x0] s = outF (bindR (fun tm s => finNumbers tm s) (cNumbers_0.run r (sp 0 x0 T.new) s))) ∧
 ((∀ s tm, finNumbers tm s = finV (gp 240 tm) (resV [(gp 2 tm)] s)) ∧
 (∀ r s tm, cNumbers_0.run r tm s = seqA (fun tm s => seqA (fun tm s => seqA (fun tm s => seqA (fun tm s => .ret tm s) (cNumbers_22.run r tm s)) (seqA (fun tm s => blockA 0 (cNumbers_8.run r tm s)) (cNumbers_6.run r tm s))) (cNumbers_3.run r tm s)) (cNumbers_1.run r tm s)))) := by
 and_intros <;> (intros; kernel_rfl)
theorem rgNumbers_1 : ∀ r s tm, cNumbers_1.run r tm s = .nrm (sp 2 (V.nil 2) tm) s := reg1 1
theorem rgNumbers_3 : ∀ r s tm, cNumbers_3.run r tm s = xLenS (gp 0 tm) fun v1 => xMakeMap v1 s fun v2 s => .nrm (sp 3 v2 tm) s := reg1 4
theorem rgNumbers_6 : ∀ r s tm, cNumbers_6.run r tm s = xLenS (gp 0 tm) fun v1 => .nrm (sp 8 (V.nat .i64 0) (sp 7 v1 (sp 6 (gp 0 tm) tm))) s := reg1 3
theorem rgNumbers_10 : ∀ r s tm, cNumbers_10.run r tm s = xBin ⟨9, []⟩ false .lss (gp 8 tm) (gp 7 tm) fun v0 => .nrm (sp 9 v0 tm) s := reg1 1
theorem rgNumbers_18 : ∀ r s tm, cNumbers_18.run r tm s = xIdxAddrS 1 (gp 6 tm) (gp 8 tm) fun v1 => xLoad false 1 v1 s fun v2 s => .nrm (sp 5 v2 (sp 4 (gp 8 tm) tm)) s := reg1 5
theorem rgNumbers_19 : ∀ r s tm, cNumbers_19.run r tm s = xBin ⟨9, []⟩ false .add (gp 4 tm) (V.nat .i64 1) fun v3 => xMapUpd ⟨8, []⟩ (gp 3 tm) (gp 5 tm) v3 s fun _ s => .nrm tm s := reg1 5
theorem rgNumbers_20 : ∀ r s tm, cNumbers_20.run r tm s = xBin ⟨9, []⟩ false .add (gp 8 tm) (V.nat .i64 1) fun v0 => .nrm (sp 8 v0 tm) s := reg1 2
theorem rgNumbers_22 : ∀ r s tm, cNumbers_22.run r tm s = .nrm (sp 2 (gp 3 tm) tm) s := reg1 2
theorem szNumbers_8 : sizeC uNumbers_8 = 26 := by kernel_rfl
theorem lpNumbers_8 : ∀ r s tm, cNumbers_8.run r tm s = seqA (fun tm s => r.code fiNumbers uNumbers_8 tm s) (seqA (fun tm s => seqA (fun tm s => seqA (fun tm s => cNumbers_20.run r tm s) (blockA 1 (seqA (fun tm s => cNumbers_19.run r tm s) (cNumbers_18.run r tm s)))) (condV (gp 9 tm) (.nrm tm s) (.ext 0 tm s))) (cNumbers_10.run r tm s)) := by intros; kernel_rfl
theorem allNumbers : type_of% (And.intro rgNumbers_1 <| And.intro rgNumbers_3 <| And.intro rgNumbers_6 <| And.intro rgNumbers_10 <| And.intro rgNumbers_18 <| And.intro rgNumbers_19 <| And.intro rgNumbers_20 <| And.intro rgNumbers_22 <| eNumbersx) := And.intro rgNumbers_1 <| And.intro rgNumbers_3 <| And.intro rgNumbers_6 <| And.intro rgNumbers_10 <| And.intro rgNumbers_18 <| And.intro rgNumbers_19 <| And.intro rgNumbers_20 <| And.intro rgNumbers_22 <| eNumbersx
/- (*strings.Builder).copyCheck: parameters 1, slots in the frame: [(0, 0), (1, 1), (2, 6), (3, 19)] -/
def fiBCheck : FI := ⟨524220, 20, 6⟩
noncomputable def bodyBCheck := bodyOf Tryz.prog 49
noncomputable def cBCheck_1 := comp pc0 fiBCheck (subC [0] bodyBCheck)
noncomputable def cBCheck_3 := comp pc0 fiBCheck (subC [1, 0] bodyBCheck)
noncomputable def cBCheck_5 := comp pc0 fiBCheck (subC [1, 1, 0] bodyBCheck)
noncomputable def uBCheck_7 := subC [1, 1, 1, 0] bodyBCheck
noncomputable def cBCheck_7 := comp pc0 fiBCheck uBCheck_7
noncomputable def cBCheck_0 := comp pc0 fiBCheck bodyBCheck
noncomputable def finBCheck := finN (resC pc0 fiBCheck (resOf Tryz.prog 49)).run
theorem eBCheckx :
 ((∀ r s x0, (fnC pc0 49).run r [x0] s = outF (bindR (fun tm s => finBCheck tm s) (cBCheck_0.run r (sp 0 x0 T.new) s))) ∧
 ((∀ s tm, finBCheck tm s = finV (gp 240 tm) (resV [] s)) ∧
 (∀ r s tm, cBCheck_0.run r tm s = seqA (fun tm s => condV (gp 2 tm) (cBCheck_3.run r tm s) (seqA (fun tm s => condV (gp 3 tm) (cBCheck_7.run r tm s) (.nrm tm s)) (cBCheck_5.run r tm s))) (cBCheck_1.run r tm s)))) := by
 and_intros <;> (intros; kernel_rfl)
theorem rgBCheck_1 : ∀ r s tm, cBCheck_1.run r tm s = xNilCheck (gp 0 tm) fun v1 => xFieldAddr 0 v1 fun v2 => xLoad false 1 v2 s fun v3 s => xBin ⟨1, []⟩ true .eql v3 (V.nil 0) fun v4 => .nrm (sp 2 v4 tm) s := reg1 5
theorem rgBCheck_3 : ∀ r s tm, cBCheck_3.run r tm s = xToUnsafe (gp 0 tm) s fun v2 s => xExt 0 [v2] s fun v3 s => xOfUnsafe 52 2 v3 s fun v4 s => xNilCheck (gp 0 tm) fun v5 => xFieldAddr 0 v5 fun v6 => xStore 1 v6 v4 s fun _ s => .nrm tm s := reg1 8
theorem rgBCheck_5 : ∀ r s tm, cBCheck_5.run r tm s = xNilCheck (gp 0 tm) fun v1 => xFieldAddr 0 v1 fun v2 => xLoad false 1 v2 s fun v3 s => xBin ⟨1, []⟩ false .neq v3 (gp 0 tm) fun v5 => .nrm (sp 3 v5 tm) s := reg1 6
theorem allBCheck : type_of% (And.intro rgBCheck_1 <| And.intro rgBCheck_3 <| And.intro rgBCheck_5 <| eBCheckx) := And.intro rgBCheck_1 <| And.intro rgBCheck_3 <| And.intro rgBCheck_5 <| eBCheckx
/- abugida/letters.Split: parameters 1, slots in the frame: [(0, 0), (1, 1), (2, 2), (3, 3), (4, 4), (5, 5), (6, 6), (7, 8), (8, 9), (9, 12), (10, 14), (11, 15), (12, 16), (13, 32)] -/
def fiSplit : FI := ⟨17587890957440, 44, 6⟩
noncomputable def bodySplit := bodyOf Tryz.prog 61
noncomputable def cSplit_1 := comp pc0 fiSplit (subC [0] bodySplit)
noncomputable def cSplit_4 := comp pc0 fiSplit (subC [1, 0, 0] bodySplit)
noncomputable def cSplit_7 := comp pc0 fiSplit (subC [1, 0, 1, 0, 0] bodySplit)
noncomputable def cSplit_12 := comp pc0 fiSplit (subC [1, 1, 0, 0] bodySplit)
noncomputable def cSplit_16 := comp pc0 fiSplit (subC [1, 1, 0, 1, 0, 0, 0] bodySplit)
noncomputable def cSplit_23 := comp pc0 fiSplit (subC [1, 1, 0, 1, 0, 0, 1, 1, 0, 0] bodySplit)
noncomputable def cSplit_25 := comp pc0 fiSplit (subC [1, 1, 0, 1, 0, 0, 1, 1, 0, 1, 0] bodySplit)
noncomputable def uSplit_28 := subC [1, 1, 0, 1, 0, 0, 1, 1, 0, 1, 1, 0, 0] bodySplit
noncomputable def cSplit_28 := comp pc0 fiSplit uSplit_28
noncomputable def qSplit_28_5 := qOf pc0 fiSplit uSplit_28 5 1 [32, 31, 30, 29, 28]
noncomputable def qSplit_28_3 := qOf pc0 fiSplit uSplit_28 3 2 [30, 29, 28]
noncomputable def qSplit_28_0 := qOf pc0 fiSplit uSplit_28 0 3 []
noncomputable def cSplit_31 := comp pc0 fiSplit (subC [1, 1, 0, 1, 0, 0, 1, 1, 0, 1, 1, 0, 1, 0, 0] bodySplit)
noncomputable def cSplit_34 := comp pc0 fiSplit (subC [1, 1, 0, 1, 0, 0, 1, 1, 0, 1, 1, 1] bodySplit)
noncomputable def uSplit_14 := subC [1, 1, 0, 1, 0] bodySplit
noncomputable def cSplit_14 := comp pc0 fiSplit uSplit_14
noncomputable def cSplit_36 := comp pc0 fiSplit (subC [1, 1, 1, 0] bodySplit)
noncomputable def cSplit_0 := comp pc0 fiSplit bodySplit
noncomputable def finSplit := finN (resC pc0 fiSplit (resOf Tryz.prog 61)).run
theorem eSplitx :
 (((∀ r s x0, (fnC pc0 61).run r [x0] s = outF (bindR (fun tm s => finSplit tm s) (cSplit_0.run r (sp 0 x0 T.new) s))) ∧
 ((∀ s tm, finSplit tm s = finV (gp 240 tm) (resV [(gp 2 tm), (gp 3 tm), (gp 4 tm)] s)) ∧
 (∀ r s tm, cSplit_0.run r tm s = seqA (fun tm s => seqA (fun tm s => seqA (fun tm s => seqA (fun tm s => .ret tm s) (cSplit_36.run r tm s)) (seqA (fun tm s => blockA 0 (cSplit_14.run r tm s)) (cSplit_12.run r tm s))) (seqA (fun tm s => condV (gp 9 tm) (seqA (fun tm s => .ret tm s) (cSplit_7.run r tm s)) (.nrm tm s)) (cSplit_4.run r tm s))) (cSplit_1.run r tm s)))) ∧
 (((∀ g r s tm le, (qSplit_28_0 g).run r tm (le) s = xBin ⟨7, []⟩ true .eql (gp 6 tm) (V.nat .i32 65533) fun v1 => g.run r tm (v1 :: v1 :: (gp 6 tm) :: le) s) ∧
 (∀ g r s tm le, (qSplit_28_3 g).run r tm ((.bool true) :: le) s = xUn .not (gp 8 tm) fun v4 => g.run r tm (v4 :: (gp 8 tm) :: (.bool true) :: le) s)) ∧
 ((∀ g r s tm le, (qSplit_28_3 g).run r tm ((.bool false) :: le) s = g.run r tm (Go.Ev.undef :: Go.Ev.undef :: (.bool false) :: le) s) ∧
 (∀ g r s tm le x0_ x1_ x2_, (qSplit_28_5 g).run r tm (x0_ :: x1_ :: x2_ :: le) s = xPick x2_ (fun _ => g.run r (sp 13 x0_ tm) (x0_ :: x0_ :: x1_ :: x2_ :: le) s) (fun _ => g.run r (sp 13 (V.bool false) tm) ((V.bool false) :: x0_ :: x1_ :: x2_ :: le) s))))) := by
 and_intros <;> (intros; kernel_rfl)
theorem rgSplit_1 : ∀ r s tm, cSplit_1.run r tm s = .nrm (sp 4 (V.nat .i64 0) (sp 3 (V.nat .i64 0) (sp 2 (V.nil 1) tm))) s := reg1 3
theorem rgSplit_4 : ∀ r s tm, cSplit_4.run r tm s = xLenT (gp 0 tm) fun v1 => xBin ⟨9, []⟩ false .gtr v1 (V.nat .i64 16384) fun v2 => .nrm (sp 9 v2 tm) s := reg1 3
theorem rgSplit_7 : ∀ r s tm, cSplit_7.run r tm s = .nrm (sp 4 (V.nat .i64 2) (sp 3 (V.nat .i64 0) (sp 2 (V.nil 1) tm))) s := reg1 3
theorem rgSplit_12 : ∀ r s tm, cSplit_12.run r tm s = xRangeS (gp 0 tm) s fun v1 s => .nrm (sp 10 v1 tm) s := reg1 2
theorem rgSplit_16 : ∀ r s tm, cSplit_16.run r tm s = xNextS (gp 10 tm) s fun v0 s => xExtract 0 v0 fun v1 => .nrm (sp 12 v1 (sp 11 v0 tm)) s := reg1 2
theorem rgSplit_23 : ∀ r s tm, cSplit_23.run r tm s = xExtract 1 (gp 11 tm) fun v0 => xExtract 2 (gp 11 tm) fun v1 => .nrm (sp 6 v1 (sp 5 v0 tm)) s := reg1 4
theorem rgSplit_25 : ∀ r s tm, cSplit_25.run r tm s = xSliceT (gp 0 tm) (some (gp 5 tm)) none fun v2 => foldF (r.call 82 [v2] s) fun v3 s => xExtract 0 v3 fun _ => xExtract 1 v3 fun v6 => xExtract 2 v3 fun v7 => .nrm (sp 8 v7 (sp 7 v6 tm)) s := reg1 11
theorem rgSplit_28 : ∀ r s tm, cSplit_28.run r tm s = (qSplit_28_0 (qSplit_28_3 (qSplit_28_5 nilL))).run r tm [] s := reg_run (by kernel_rfl) (chS rfl (by kernel_rfl) (chS rfl (by kernel_rfl) chL))
theorem rgSplit_31 : ∀ r s tm, cSplit_31.run r tm s = .nrm (sp 4 (V.nat .i64 3) (sp 3 (gp 5 tm) (sp 2 (V.nil 1) tm))) s := reg1 4
theorem rgSplit_34 : ∀ r s tm, cSplit_34.run r tm s = xBin ⟨9, []⟩ false .add (gp 5 tm) (gp 7 tm) fun v5 => xSliceT (gp 0 tm) (some (gp 5 tm)) (some v5) fun v6 => repL [(V.str [])] 1 fun l7z => cellsC 1 v6 fun x7_0 => updL x7_0 0 l7z fun l7_0 => Go.Ev.newRow s 9 l7_0 false fun a7k _ s => xAppend 9 1 (gp 2 tm) (V.sl a7k 0 0 1 1) s fun v8 s => .nrm (sp 2 v8 tm) s := reg1 10
theorem rgSplit_36 : ∀ r s tm, cSplit_36.run r tm s = .nrm (sp 4 (V.nat .i64 0) (sp 3 (V.nat .i64 0) (sp 2 (gp 2 tm) tm))) s := reg1 4
theorem szSplit_14 : sizeC uSplit_14 = 58 := by kernel_rfl
theorem lpSplit_14 : ∀ r s tm, cSplit_14.run r tm s = seqA (fun tm s => r.code fiSplit uSplit_14 tm s) (seqA (fun tm s => seqA (fun tm s => blockA 1 (seqA (fun tm s => seqA (fun tm s => seqA (fun tm s => cSplit_34.run r tm s) (seqA (fun tm s => condV (gp 13 tm) (seqA (fun tm s => .ret tm s) (cSplit_31.run r tm s)) (.nrm tm s)) (cSplit_28.run r tm s))) (cSplit_25.run r tm s)) (cSplit_23.run r tm s))) (condV (gp 12 tm) (.nrm tm s) (.ext 0 tm s))) (cSplit_16.run r tm s)) := by intros; kernel_rfl
theorem allSplit : type_of% (And.intro rgSplit_1 <| And.intro rgSplit_4 <| And.intro rgSplit_7 <| And.intro rgSplit_12 <| And.intro rgSplit_16 <| And.intro rgSplit_23 <| And.intro rgSplit_25 <| And.intro rgSplit_28 <| And.intro rgSplit_31 <| And.intro rgSplit_34 <| And.intro rgSplit_36 <| eSplitx) := And.intro rgSplit_1 <| And.intro rgSplit_4 <| And.intro rgSplit_7 <| And.intro rgSplit_12 <| And.intro rgSplit_16 <| And.intro rgSplit_23 <| And.intro rgSplit_25 <| And.intro rgSplit_28 <| And.intro rgSplit_31 <| And.intro rgSplit_34 <| And.intro rgSplit_36 <| eSplitx
/- abugida/letters.piece: parameters 1, slots in the frame: [(0, 0), (1, 1), (2, 2), (3, 3), (4, 4)] -/
def fiPiece : FI := ⟨262112, 18, 6⟩
noncomputable def bodyPiece := bodyOf Tryz.prog 82
noncomputable def cPiece_1 := comp pc0 fiPiece (subC [0] bodyPiece)
noncomputable def cPiece_3 := comp pc0 fiPiece (subC [1, 0] bodyPiece)
noncomputable def uPiece_5 := subC [1, 1, 0] bodyPiece
noncomputable def cPiece_5 := comp pc0 fiPiece uPiece_5
noncomputable def qPiece_5_7 := qOf pc0 fiPiece uPiece_5 7 4 [17, 16, 15, 14, 13, 12, 11]
noncomputable def qPiece_5_5 := qOf pc0 fiPiece uPiece_5 5 2 [15, 14, 13, 12, 11]
noncomputable def qPiece_5_0 := qOf pc0 fiPiece uPiece_5 0 5 []
noncomputable def cPiece_0 := comp pc0 fiPiece bodyPiece
noncomputable def finPiece := finN (resC pc0 fiPiece (resOf Tryz.prog 82)).run
theorem ePiecex :
 (((∀ r s x0, (fnC pc0 82).run r [x0] s = outF (bindR (fun tm s => finPiece tm s) (cPiece_0.run r (sp 0 x0 T.new) s))) ∧
 ((∀ s tm, finPiece tm s = finV (gp 240 tm) (resV [(gp 2 tm), (gp 3 tm), (gp 4 tm)] s)) ∧
 (∀ r s tm, cPiece_0.run r tm s = seqA (fun tm s => seqA (fun tm s => seqA (fun tm s => .ret tm s) (cPiece_5.run r tm s)) (cPiece_3.run r tm s)) (cPiece_1.run r tm s)))) ∧
 (((∀ g r s tm le, (qPiece_5_0 g).run r tm (le) s = xBin ⟨7, []⟩ true .neq (gp 2 tm) (V.nat .i32 65533) fun v3 => g.run r tm (v3 :: v3 :: (gp 2 tm) :: (gp 3 tm) :: (gp 2 tm) :: le) s) ∧
 (∀ g r s tm le, (qPiece_5_5 g).run r tm ((.bool true) :: le) s = g.run r tm (Go.Ev.undef :: Go.Ev.undef :: (.bool true) :: le) s)) ∧
 ((∀ g r s tm le, (qPiece_5_5 g).run r tm ((.bool false) :: le) s = xBin ⟨9, []⟩ false .gtr (gp 3 tm) (V.nat .i64 1) fun v6 => g.run r tm (v6 :: (gp 3 tm) :: (.bool false) :: le) s) ∧
 (∀ g r s tm le x0_ x1_ x2_ x3_ x4_ x5_ x6_, (qPiece_5_7 g).run r tm (x0_ :: x1_ :: x2_ :: x3_ :: x4_ :: x5_ :: x6_ :: le) s = xPick x2_ (fun _ => g.run r (sp 4 (V.bool true) (sp 3 x5_ (sp 2 x6_ tm))) ((V.bool true) :: x5_ :: x6_ :: (V.bool true) :: x0_ :: x1_ :: x2_ :: x3_ :: x4_ :: x5_ :: x6_ :: le) s) (fun _ => g.run r (sp 4 x0_ (sp 3 x5_ (sp 2 x6_ tm))) (x0_ :: x5_ :: x6_ :: x0_ :: x0_ :: x1_ :: x2_ :: x3_ :: x4_ :: x5_ :: x6_ :: le) s))))) := by
 and_intros <;> (intros; kernel_rfl)
theorem rgPiece_1 : ∀ r s tm, cPiece_1.run r tm s = .nrm (sp 4 (V.bool false) (sp 3 (V.nat .i64 0) (sp 2 (V.nat .i32 0) tm))) s := reg1 3
theorem rgPiece_3 : ∀ r s tm, cPiece_3.run r tm s = foldF (r.call 119 [(gp 0 tm)] s) fun v1 s => xExtract 0 v1 fun v3 => xExtract 1 v1 fun v4 => .nrm (sp 3 v4 (sp 2 v3 tm)) s := reg1 7
theorem rgPiece_5 : ∀ r s tm, cPiece_5.run r tm s = (qPiece_5_0 (qPiece_5_5 (qPiece_5_7 nilL))).run r tm [] s := reg_run (by kernel_rfl) (chS rfl (by kernel_rfl) (chS rfl (by kernel_rfl) chL))
theorem allPiece : type_of% (And.intro rgPiece_1 <| And.intro rgPiece_3 <| And.intro rgPiece_5 <| ePiecex) := And.intro rgPiece_1 <| And.intro rgPiece_3 <| And.intro rgPiece_5 <| ePiecex
/- unicode/utf8.DecodeRuneInString: parameters 1, slots in the frame: [(0, 0), (1, 1), (2, 2), (3, 3), (4, 10)] -/
def fiDec : FI := ⟨523248, 19, 6⟩
noncomputable def bodyDec := bodyOf Tryz.prog 119
noncomputable def cDec_1 := comp pc0 fiDec (subC [0] bodyDec)
noncomputable def uDec_4 := subC [1, 0, 0] bodyDec
noncomputable def cDec_4 := comp pc0 fiDec uDec_4
noncomputable def qDec_4_6 := qOf pc0 fiDec uDec_4 6 1 [10, 9, 8, 7, 6, 5]
noncomputable def qDec_4_3 := qOf pc0 fiDec uDec_4 3 3 [7, 6, 5]
noncomputable def qDec_4_0 := qOf pc0 fiDec uDec_4 0 3 []
noncomputable def cDec_7 := comp pc0 fiDec (subC [1, 0, 1, 0, 0] bodyDec)
noncomputable def cDec_9 := comp pc0 fiDec (subC [1, 0, 1, 1] bodyDec)
noncomputable def cDec_0 := comp pc0 fiDec bodyDec
noncomputable def finDec := finN (resC pc0 fiDec (resOf Tryz.prog 119)).run
theorem eDecx :
 (((∀ r s x0, (fnC pc0 119).run r [x0] s = outF (bindR (fun tm s => finDec tm s) (cDec_0.run r (sp 0 x0 T.new) s))) ∧
 ((∀ s tm, finDec tm s = finV (gp 240 tm) (resV [(gp 2 tm), (gp 3 tm)] s)) ∧
 (∀ r s tm, cDec_0.run r tm s = seqA (fun tm s => seqA (fun tm s => .ret tm s) (seqA (fun tm s => condV (gp 4 tm) (seqA (fun tm s => .ret tm s) (cDec_7.run r tm s)) (cDec_9.run r tm s)) (cDec_4.run r tm s))) (cDec_1.run r tm s)))) ∧
 (((∀ g r s tm le, (qDec_4_0 g).run r tm (le) s = xBin ⟨8, []⟩ true .neq (gp 0 tm) (V.str []) fun v1 => g.run r tm (v1 :: v1 :: (gp 0 tm) :: le) s) ∧
 (∀ g r s tm le, (qDec_4_3 g).run r tm ((.bool true) :: le) s = xIndexS (gp 0 tm) (V.nat .i64 0) fun v4 => xBin ⟨9, []⟩ false .lss v4 (V.nat .u8 128) fun v5 => g.run r tm (v5 :: v4 :: (gp 0 tm) :: (.bool true) :: le) s)) ∧
 ((∀ g r s tm le, (qDec_4_3 g).run r tm ((.bool false) :: le) s = g.run r tm (Go.Ev.undef :: Go.Ev.undef :: Go.Ev.undef :: (.bool false) :: le) s) ∧
 (∀ g r s tm le x0_ x1_ x2_ x3_, (qDec_4_6 g).run r tm (x0_ :: x1_ :: x2_ :: x3_ :: le) s = xPick x3_ (fun _ => g.run r (sp 4 x0_ tm) (x0_ :: x0_ :: x1_ :: x2_ :: x3_ :: le) s) (fun _ => g.run r (sp 4 (V.bool false) tm) ((V.bool false) :: x0_ :: x1_ :: x2_ :: x3_ :: le) s))))) := by
 and_intros <;> (intros; kernel_rfl)
theorem rgDec_1 : ∀ r s tm, cDec_1.run r tm s = .nrm (sp 3 (V.nat .i64 0) (sp 2 (V.nat .i32 0) tm)) s := reg1 2
theorem rgDec_4 : ∀ r s tm, cDec_4.run r tm s = (qDec_4_0 (qDec_4_3 (qDec_4_6 nilL))).run r tm [] s := reg_run (by kernel_rfl) (chS rfl (by kernel_rfl) (chS rfl (by kernel_rfl) chL))
theorem rgDec_7 : ∀ r s tm, cDec_7.run r tm s = xIndexS (gp 0 tm) (V.nat .i64 0) fun v1 => xIntConv .i32 v1 fun v2 => .nrm (sp 3 (V.nat .i64 1) (sp 2 v2 tm)) s := reg1 5
theorem rgDec_9 : ∀ r s tm, cDec_9.run r tm s = foldF (r.call 144 [(gp 0 tm)] s) fun v1 s => xExtract 0 v1 fun v3 => xExtract 1 v1 fun v4 => .nrm (sp 3 v4 (sp 2 v3 tm)) s := reg1 7
theorem allDec : type_of% (And.intro rgDec_1 <| And.intro rgDec_4 <| And.intro rgDec_7 <| And.intro rgDec_9 <| eDecx) := And.intro rgDec_1 <| And.intro rgDec_4 <| And.intro rgDec_7 <| And.intro rgDec_9 <| eDecx
/- unicode/utf8.decodeRuneInStringSlow: parameters 1, slots in the frame: [(0, 0), (1, 1), (2, 2), (3, 3), (4, 4), (5, 5), (6, 6), (7, 7), (8, 8), (9, 9), (10, 10), (11, 11), (12, 12), (13, 16), (14, 23), (15, 45), (16, 57), (17, 59), (18, 75), (19, 77), (20, 98)] -/
def fiDecS : FI := ⟨166153182560275531675699597790863360, 117, 6⟩
noncomputable def bodyDecS := bodyOf Tryz.prog 144
noncomputable def cDecS_1 := comp pc0 fiDecS (subC [0] bodyDecS)
noncomputable def cDecS_3 := comp pc0 fiDecS (subC [1, 0] bodyDecS)
noncomputable def cDecS_6 := comp pc0 fiDecS (subC [1, 1, 0, 0] bodyDecS)
noncomputable def cDecS_9 := comp pc0 fiDecS (subC [1, 1, 0, 1, 0, 0] bodyDecS)
noncomputable def cDecS_13 := comp pc0 fiDecS (subC [1, 1, 1, 0] bodyDecS)
noncomputable def cDecS_15 := comp pc0 fiDecS (subC [1, 1, 1, 1, 0] bodyDecS)
noncomputable def cDecS_18 := comp pc0 fiDecS (subC [1, 1, 1, 1, 1, 0, 0] bodyDecS)
noncomputable def cDecS_21 := comp pc0 fiDecS (subC [1, 1, 1, 1, 1, 0, 1, 0, 0] bodyDecS)
noncomputable def cDecS_23 := comp pc0 fiDecS (subC [1, 1, 1, 1, 1, 0, 1, 0, 1, 0] bodyDecS)
noncomputable def cDecS_27 := comp pc0 fiDecS (subC [1, 1, 1, 1, 1, 1, 0] bodyDecS)
noncomputable def cDecS_29 := comp pc0 fiDecS (subC [1, 1, 1, 1, 1, 1, 1, 0] bodyDecS)
noncomputable def cDecS_32 := comp pc0 fiDecS (subC [1, 1, 1, 1, 1, 1, 1, 1, 0, 0] bodyDecS)
noncomputable def cDecS_35 := comp pc0 fiDecS (subC [1, 1, 1, 1, 1, 1, 1, 1, 0, 1, 0, 0] bodyDecS)
noncomputable def cDecS_39 := comp pc0 fiDecS (subC [1, 1, 1, 1, 1, 1, 1, 1, 1, 0] bodyDecS)
noncomputable def uDecS_42 := subC [1, 1, 1, 1, 1, 1, 1, 1, 1, 1, 0, 0] bodyDecS
noncomputable def cDecS_42 := comp pc0 fiDecS uDecS_42
noncomputable def qDecS_42_9 := qOf pc0 fiDecS uDecS_42 9 1 [57, 56, 55, 54, 53, 52, 51, 50, 49]
noncomputable def qDecS_42_5 := qOf pc0 fiDecS uDecS_42 5 4 [53, 52, 51, 50, 49]
noncomputable def qDecS_42_0 := qOf pc0 fiDecS uDecS_42 0 5 []
noncomputable def cDecS_45 := comp pc0 fiDecS (subC [1, 1, 1, 1, 1, 1, 1, 1, 1, 1, 0, 1, 0, 0] bodyDecS)
noncomputable def cDecS_50 := comp pc0 fiDecS (subC [1, 1, 1, 1, 1, 1, 1, 1, 1, 1, 1, 0, 0] bodyDecS)
noncomputable def cDecS_53 := comp pc0 fiDecS (subC [1, 1, 1, 1, 1, 1, 1, 1, 1, 1, 1, 0, 1, 0, 0] bodyDecS)
noncomputable def cDecS_57 := comp pc0 fiDecS (subC [1, 1, 1, 1, 1, 1, 1, 1, 1, 1, 1, 1, 0] bodyDecS)
noncomputable def uDecS_60 := subC [1, 1, 1, 1, 1, 1, 1, 1, 1, 1, 1, 1, 1, 0, 0] bodyDecS
noncomputable def cDecS_60 := comp pc0 fiDecS uDecS_60
noncomputable def qDecS_60_5 := qOf pc0 fiDecS uDecS_60 5 1 [75, 74, 73, 72, 71]
noncomputable def qDecS_60_3 := qOf pc0 fiDecS uDecS_60 3 2 [73, 72, 71]
noncomputable def qDecS_60_0 := qOf pc0 fiDecS uDecS_60 0 3 []
noncomputable def cDecS_63 := comp pc0 fiDecS (subC [1, 1, 1, 1, 1, 1, 1, 1, 1, 1, 1, 1, 1, 0, 1, 0, 0] bodyDecS)
noncomputable def cDecS_68 := comp pc0 fiDecS (subC [1, 1, 1, 1, 1, 1, 1, 1, 1, 1, 1, 1, 1, 1, 0, 0] bodyDecS)
noncomputable def cDecS_71 := comp pc0 fiDecS (subC [1, 1, 1, 1, 1, 1, 1, 1, 1, 1, 1, 1, 1, 1, 0, 1, 0, 0] bodyDecS)
noncomputable def cDecS_75 := comp pc0 fiDecS (subC [1, 1, 1, 1, 1, 1, 1, 1, 1, 1, 1, 1, 1, 1, 1, 0] bodyDecS)
noncomputable def uDecS_78 := subC [1, 1, 1, 1, 1, 1, 1, 1, 1, 1, 1, 1, 1, 1, 1, 1, 0, 0] bodyDecS
noncomputable def cDecS_78 := comp pc0 fiDecS uDecS_78
noncomputable def qDecS_78_5 := qOf pc0 fiDecS uDecS_78 5 1 [98, 97, 96, 95, 94]
noncomputable def qDecS_78_3 := qOf pc0 fiDecS uDecS_78 3 2 [96, 95, 94]
noncomputable def qDecS_78_0 := qOf pc0 fiDecS uDecS_78 0 3 []
noncomputable def cDecS_81 := comp pc0 fiDecS (subC [1, 1, 1, 1, 1, 1, 1, 1, 1, 1, 1, 1, 1, 1, 1, 1, 0, 1, 0, 0] bodyDecS)
noncomputable def cDecS_85 := comp pc0 fiDecS (subC [1, 1, 1, 1, 1, 1, 1, 1, 1, 1, 1, 1, 1, 1, 1, 1, 1, 0] bodyDecS)
noncomputable def cDecS_0 := comp pc0 fiDecS bodyDecS
noncomputable def finDecS := finN (resC pc0 fiDecS (resOf Tryz.prog 144)).run
theorem eDecSx :
 ((((∀ r s x0, (fnC pc0 144).run r [x0] s = outF (bindR (fun tm s => finDecS tm s) (cDecS_0.run r (sp 0 x0 T.new) s))) ∧
 ((∀ s tm, finDecS tm s = finV (gp 240 tm) (resV [(gp 2 tm), (gp 3 tm)] s)) ∧
 (∀ r s tm, cDecS_0.run r tm s = seqA (fun tm s => seqA (fun tm s => seqA (fun tm s => seqA (fun tm s => seqA (fun tm s => seqA (fun tm s => seqA (fun tm s => seqA (fun tm s => seqA (fun tm s => seqA (fun tm s => seqA (fun tm s => seqA (fun tm s => seqA (fun tm s => seqA (fun tm s => seqA (fun tm s => seqA (fun tm s => seqA (fun tm s => seqA (fun tm s => .ret tm s) (cDecS_85.run r tm s)) (seqA (fun tm s => condV (gp 20 tm) (seqA (fun tm s => .ret tm s) (cDecS_81.run r tm s)) (.nrm tm s)) (cDecS_78.run r tm s))) (cDecS_75.run r tm s)) (seqA (fun tm s => condV (gp 19 tm) (seqA (fun tm s => .ret tm s) (cDecS_71.run r tm s)) (.nrm tm s)) (cDecS_68.run r tm s))) (seqA (fun tm s => condV (gp 18 tm) (seqA (fun tm s => .ret tm s) (cDecS_63.run r tm s)) (.nrm tm s)) (cDecS_60.run r tm s))) (cDecS_57.run r tm s)) (seqA (fun tm s => condV (gp 17 tm) (seqA (fun tm s => .ret tm s) (cDecS_53.run r tm s)) (.nrm tm s)) (cDecS_50.run r tm s))) (seqA (fun tm s => condV (gp 16 tm) (seqA (fun tm s => .ret tm s) (cDecS_45.run r tm s)) (.nrm tm s)) (cDecS_42.run r tm s))) (cDecS_39.run r tm s)) (seqA (fun tm s => condV (gp 15 tm) (seqA (fun tm s => .ret tm s) (cDecS_35.run r tm s)) (.nrm tm s)) (cDecS_32.run r tm s))) (cDecS_29.run r tm s)) (cDecS_27.run r tm s)) (seqA (fun tm s => condV (gp 14 tm) (seqA (fun tm s => seqA (fun tm s => .ret tm s) (cDecS_23.run r tm s)) (cDecS_21.run r tm s)) (.nrm tm s)) (cDecS_18.run r tm s))) (cDecS_15.run r tm s)) (cDecS_13.run r tm s)) (seqA (fun tm s => condV (gp 13 tm) (seqA (fun tm s => .ret tm s) (cDecS_9.run r tm s)) (.nrm tm s)) (cDecS_6.run r tm s))) (cDecS_3.run r tm s)) (cDecS_1.run r tm s)))) ∧
 (((∀ g r s tm le, (qDecS_42_0 g).run r tm (le) s = xFieldAddr 0 (gp 9 tm) fun v1 => xLoad false 1 v1 s fun v2 s => xBin ⟨9, []⟩ false .lss (gp 10 tm) v2 fun v3 => g.run r tm (v3 :: v3 :: v2 :: v1 :: (gp 10 tm) :: le) s) ∧
 (∀ g r s tm le, (qDecS_42_5 g).run r tm ((.bool true) :: le) s = g.run r tm (Go.Ev.undef :: Go.Ev.undef :: Go.Ev.undef :: Go.Ev.undef :: (.bool true) :: le) s)) ∧
 ((∀ g r s tm le, (qDecS_42_5 g).run r tm ((.bool false) :: le) s = xFieldAddr 1 (gp 9 tm) fun v5 => xLoad false 1 v5 s fun v6 s => xBin ⟨9, []⟩ false .lss v6 (gp 10 tm) fun v8 => g.run r tm (v8 :: (gp 10 tm) :: v6 :: v5 :: (.bool false) :: le) s) ∧
 (∀ g r s tm le x0_ x1_ x2_ x3_ x4_, (qDecS_42_9 g).run r tm (x0_ :: x1_ :: x2_ :: x3_ :: x4_ :: le) s = xPick x4_ (fun _ => g.run r (sp 16 (V.bool true) tm) ((V.bool true) :: x0_ :: x1_ :: x2_ :: x3_ :: x4_ :: le) s) (fun _ => g.run r (sp 16 x0_ tm) (x0_ :: x0_ :: x1_ :: x2_ :: x3_ :: x4_ :: le) s))))) ∧
 ((((∀ g r s tm le, (qDecS_60_0 g).run r tm (le) s = xBin ⟨9, []⟩ false .lss (gp 11 tm) (V.nat .u8 128) fun v1 => g.run r tm (v1 :: v1 :: (gp 11 tm) :: le) s) ∧
 (∀ g r s tm le, (qDecS_60_3 g).run r tm ((.bool true) :: le) s = g.run r tm (Go.Ev.undef :: Go.Ev.undef :: (.bool true) :: le) s)) ∧
 ((∀ g r s tm le, (qDecS_60_3 g).run r tm ((.bool false) :: le) s = xBin ⟨9, []⟩ false .lss (V.nat .u8 191) (gp 11 tm) fun v4 => g.run r tm (v4 :: (gp 11 tm) :: (.bool false) :: le) s) ∧
 (∀ g r s tm le x0_ x1_ x2_, (qDecS_60_5 g).run r tm (x0_ :: x1_ :: x2_ :: le) s = xPick x2_ (fun _ => g.run r (sp 18 (V.bool true) tm) ((V.bool true) :: x0_ :: x1_ :: x2_ :: le) s) (fun _ => g.run r (sp 18 x0_ tm) (x0_ :: x0_ :: x1_ :: x2_ :: le) s)))) ∧
 (((∀ g r s tm le, (qDecS_78_0 g).run r tm (le) s = xBin ⟨9, []⟩ false .lss (gp 12 tm) (V.nat .u8 128) fun v1 => g.run r tm (v1 :: v1 :: (gp 12 tm) :: le) s) ∧
 (∀ g r s tm le, (qDecS_78_3 g).run r tm ((.bool true) :: le) s = g.run r tm (Go.Ev.undef :: Go.Ev.undef :: (.bool true) :: le) s)) ∧
 ((∀ g r s tm le, (qDecS_78_3 g).run r tm ((.bool false) :: le) s = xBin ⟨9, []⟩ false .lss (V.nat .u8 191) (gp 12 tm) fun v4 => g.run r tm (v4 :: (gp 12 tm) :: (.bool false) :: le) s) ∧
 (∀ g r s tm le x0_ x1_ x2_, (qDecS_78_5 g).run r tm (x0_ :: x1_ :: x2_ :: le) s = xPick x2_ (fun _ => g.run r (sp 20 (V.bool true) tm) ((V.bool true) :: x0_ :: x1_ :: x2_ :: le) s) (fun _ => g.run r (sp 20 x0_ tm) (x0_ :: x0_ :: x1_ :: x2_ :: le) s)))))) := by
 and_intros <;> (intros; kernel_rfl)
theorem rgDecS_1 : ∀ r s tm, cDecS_1.run r tm s = .nrm (sp 3 (V.nat .i64 0) (sp 2 (V.nat .i32 0) tm)) s := reg1 2
theorem rgDecS_3 : ∀ r s tm, cDecS_3.run r tm s = xLenT (gp 0 tm) fun v1 => .nrm (sp 4 v1 tm) s := reg1 3
theorem rgDecS_6 : ∀ r s tm, cDecS_6.run r tm s = xBin ⟨9, []⟩ false .lss (gp 4 tm) (V.nat .i64 1) fun v1 => .nrm (sp 13 v1 tm) s := reg1 2
theorem rgDecS_9 : ∀ r s tm, cDecS_9.run r tm s = .nrm (sp 3 (V.nat .i64 0) (sp 2 (V.nat .i32 65533) tm)) s := reg1 2
theorem rgDecS_13 : ∀ r s tm, cDecS_13.run r tm s = xIndexS (gp 0 tm) (V.nat .i64 0) fun v1 => .nrm (sp 5 v1 tm) s := reg1 3
theorem rgDecS_15 : ∀ r s tm, cDecS_15.run r tm s = xIdxAddrA 256 1 (V.ptr (.o .h) 0 0) (gp 5 tm) fun v1 => xLoad false 1 v1 s fun v2 s => .nrm (sp 6 v2 tm) s := reg1 4
theorem rgDecS_18 : ∀ r s tm, cDecS_18.run r tm s = xBin ⟨9, []⟩ false .geq (gp 6 tm) (V.nat .u8 240) fun v1 => .nrm (sp 14 v1 tm) s := reg1 2
theorem rgDecS_21 : ∀ r s tm, cDecS_21.run r tm s = xIntConv .i32 (gp 6 tm) fun v1 => xShift .shl v1 (V.nat .u64 31) fun v2 => xShift .shr v2 (V.nat .u64 31) fun v3 => .nrm (sp 7 v3 tm) s := reg1 5
theorem rgDecS_23 : ∀ r s tm, cDecS_23.run r tm s = xIndexS (gp 0 tm) (V.nat .i64 0) fun v1 => xIntConv .i32 v1 fun v2 => xBin ⟨9, []⟩ false .andNot v2 (gp 7 tm) fun v4 => xBin ⟨9, []⟩ false .and (V.nat .i32 65533) (gp 7 tm) fun v6 => xBin ⟨9, []⟩ false .or v4 v6 fun v7 => .nrm (sp 3 (V.nat .i64 1) (sp 2 v7 tm)) s := reg1 10
theorem rgDecS_27 : ∀ r s tm, cDecS_27.run r tm s = xBin ⟨9, []⟩ false .and (gp 6 tm) (V.nat .u8 7) fun v1 => xIntConv .i64 v1 fun v2 => .nrm (sp 8 v2 tm) s := reg1 4
theorem rgDecS_29 : ∀ r s tm, cDecS_29.run r tm s = xShift .shr (gp 6 tm) (V.nat .u64 4) fun v1 => xIdxAddrA 16 2 (V.ptr (.i .h) 0 0) v1 fun v2 => xLoad true 2 v2 s fun v3 s => Go.Ev.newRow s 246 [(V.nat .u8 0), (V.nat .u8 0)] false fun a4k _ s => xStore 2 (V.ptr a4k 0 0) v3 s fun _ s => .nrm (sp 9 (V.ptr a4k 0 0) tm) s := reg1 6
theorem rgDecS_32 : ∀ r s tm, cDecS_32.run r tm s = xBin ⟨9, []⟩ false .lss (gp 4 tm) (gp 8 tm) fun v2 => .nrm (sp 15 v2 tm) s := reg1 3
theorem rgDecS_35 : ∀ r s tm, cDecS_35.run r tm s = .nrm (sp 3 (V.nat .i64 1) (sp 2 (V.nat .i32 65533) tm)) s := reg1 2
theorem rgDecS_39 : ∀ r s tm, cDecS_39.run r tm s = xIndexS (gp 0 tm) (V.nat .i64 1) fun v1 => .nrm (sp 10 v1 tm) s := reg1 3
theorem rgDecS_42 : ∀ r s tm, cDecS_42.run r tm s = (qDecS_42_0 (qDecS_42_5 (qDecS_42_9 nilL))).run r tm [] s := reg_run (by kernel_rfl) (chS rfl (by kernel_rfl) (chS rfl (by kernel_rfl) chL))
theorem rgDecS_45 : ∀ r s tm, cDecS_45.run r tm s = .nrm (sp 3 (V.nat .i64 1) (sp 2 (V.nat .i32 65533) tm)) s := reg1 2
theorem rgDecS_50 : ∀ r s tm, cDecS_50.run r tm s = xBin ⟨9, []⟩ false .leq (gp 8 tm) (V.nat .i64 2) fun v1 => .nrm (sp 17 v1 tm) s := reg1 2
theorem rgDecS_53 : ∀ r s tm, cDecS_53.run r tm s = xBin ⟨9, []⟩ false .and (gp 5 tm) (V.nat .u8 31) fun v1 => xIntConv .i32 v1 fun v2 => xShift .shl v2 (V.nat .u64 6) fun v3 => xBin ⟨9, []⟩ false .and (gp 10 tm) (V.nat .u8 63) fun v5 => xIntConv .i32 v5 fun v6 => xBin ⟨9, []⟩ false .or v3 v6 fun v7 => .nrm (sp 3 (V.nat .i64 2) (sp 2 v7 tm)) s := reg1 10
theorem rgDecS_57 : ∀ r s tm, cDecS_57.run r tm s = xIndexS (gp 0 tm) (V.nat .i64 2) fun v1 => .nrm (sp 11 v1 tm) s := reg1 3
theorem rgDecS_60 : ∀ r s tm, cDecS_60.run r tm s = (qDecS_60_0 (qDecS_60_3 (qDecS_60_5 nilL))).run r tm [] s := reg_run (by kernel_rfl) (chS rfl (by kernel_rfl) (chS rfl (by kernel_rfl) chL))
theorem rgDecS_63 : ∀ r s tm, cDecS_63.run r tm s = .nrm (sp 3 (V.nat .i64 1) (sp 2 (V.nat .i32 65533) tm)) s := reg1 2
theorem rgDecS_68 : ∀ r s tm, cDecS_68.run r tm s = xBin ⟨9, []⟩ false .leq (gp 8 tm) (V.nat .i64 3) fun v1 => .nrm (sp 19 v1 tm) s := reg1 2
theorem rgDecS_71 : ∀ r s tm, cDecS_71.run r tm s = xBin ⟨9, []⟩ false .and (gp 5 tm) (V.nat .u8 15) fun v1 => xIntConv .i32 v1 fun v2 => xShift .shl v2 (V.nat .u64 12) fun v3 => xBin ⟨9, []⟩ false .and (gp 10 tm) (V.nat .u8 63) fun v5 => xIntConv .i32 v5 fun v6 => xShift .shl v6 (V.nat .u64 6) fun v7 => xBin ⟨9, []⟩ false .or v3 v7 fun v8 => xBin ⟨9, []⟩ false .and (gp 11 tm) (V.nat .u8 63) fun v10 => xIntConv .i32 v10 fun v11 => xBin ⟨9, []⟩ false .or v8 v11 fun v12 => .nrm (sp 3 (V.nat .i64 3) (sp 2 v12 tm)) s := reg1 15
theorem rgDecS_75 : ∀ r s tm, cDecS_75.run r tm s = xIndexS (gp 0 tm) (V.nat .i64 3) fun v1 => .nrm (sp 12 v1 tm) s := reg1 3
theorem rgDecS_78 : ∀ r s tm, cDecS_78.run r tm s = (qDecS_78_0 (qDecS_78_3 (qDecS_78_5 nilL))).run r tm [] s := reg_run (by kernel_rfl) (chS rfl (by kernel_rfl) (chS rfl (by kernel_rfl) chL))
theorem rgDecS_81 : ∀ r s tm, cDecS_81.run r tm s = .nrm (sp 3 (V.nat .i64 1) (sp 2 (V.nat .i32 65533) tm)) s := reg1 2
theorem rgDecS_85 : ∀ r s tm, cDecS_85.run r tm s = xBin ⟨9, []⟩ false .and (gp 5 tm) (V.nat .u8 7) fun v1 => xIntConv .i32 v1 fun v2 => xShift .shl v2 (V.nat .u64 18) fun v3 => xBin ⟨9, []⟩ false .and (gp 10 tm) (V.nat .u8 63) fun v5 => xIntConv .i32 v5 fun v6 => xShift .shl v6 (V.nat .u64 12) fun v7 => xBin ⟨9, []⟩ false .or v3 v7 fun v8 => xBin ⟨9, []⟩ false .and (gp 11 tm) (V.nat .u8 63) fun v10 => xIntConv .i32 v10 fun v11 => xShift .shl v11 (V.nat .u64 6) fun v12 => xBin ⟨9, []⟩ false .or v8 v12 fun v13 => xBin ⟨9, []⟩ false .and (gp 12 tm) (V.nat .u8 63) fun v15 => xIntConv .i32 v15 fun v16 => xBin ⟨9, []⟩ false .or v13 v16 fun v17 => .nrm (sp 3 (V.nat .i64 4) (sp 2 v17 tm)) s := reg1 20
theorem allDecS : type_of% (And.intro rgDecS_1 <| And.intro rgDecS_3 <| And.intro rgDecS_6 <| And.intro rgDecS_9 <| And.intro rgDecS_13 <| And.intro rgDecS_15 <| And.intro rgDecS_18 <| And.intro rgDecS_21 <| And.intro rgDecS_23 <| And.intro rgDecS_27 <| And.intro rgDecS_29 <| And.intro rgDecS_32 <| And.intro rgDecS_35 <| And.intro rgDecS_39 <| And.intro rgDecS_42 <| And.intro rgDecS_45 <| And.intro rgDecS_50 <| And.intro rgDecS_53 <| And.intro rgDecS_57 <| And.intro rgDecS_60 <| And.intro rgDecS_63 <| And.intro rgDecS_68 <| And.intro rgDecS_71 <| And.intro rgDecS_75 <| And.intro rgDecS_78 <| And.intro rgDecS_81 <| And.intro rgDecS_85 <| eDecSx) := And.intro rgDecS_1 <| And.intro rgDecS_3 <| And.intro rgDecS_6 <| And.intro rgDecS_9 <| And.intro rgDecS_13 <| And.intro rgDecS_15 <| And.intro rgDecS_18 <| And.intro rgDecS_21 <| And.intro rgDecS_23 <| And.intro rgDecS_27 <| And.intro rgDecS_29 <| And.intro rgDecS_32 <| And.intro rgDecS_35 <| And.intro rgDecS_39 <| And.intro rgDecS_42 <| And.intro rgDecS_45 <| And.intro rgDecS_50 <| And.intro rgDecS_53 <| And.intro rgDecS_57 <| And.intro rgDecS_60 <| And.intro rgDecS_63 <| And.intro rgDecS_68 <| And.intro rgDecS_71 <| And.intro rgDecS_75 <| And.intro rgDecS_78 <| And.intro rgDecS_81 <| And.intro rgDecS_85 <| eDecSx

end Go.Proofs.YtdeffnjoddncnaaGreatDoor.oev
