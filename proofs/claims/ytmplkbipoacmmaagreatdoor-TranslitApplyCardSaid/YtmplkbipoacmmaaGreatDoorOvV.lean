/- What the evaluator makes of the functions that the statements reach: one equation for each run of operations, by the kernel. No statement of the seat stands here. No condition. By an AI agent. -/
import Derived.Test.YtmplkbipoacmmaaGreatDoorOvA
import Derived.Test.YtmplkbipoacmmaaGreatDoorProg
import Derived.KernelRfl
namespace Go.Proofs.YtmplkbipoacmmaaGreatDoor.oev
open Go.Ev Go.Proofs
set_option maxRecDepth 100000
noncomputable def pc (hooks : List Hook) : PC := PC.of Tryz.prog hooks [0, 0, 1, 16360, 1099511610880, 9444730711739362442752,
  10633821430978126508324907198923653120, 2535301200456458802993389630784, 56, 1208925819614629174706144, 32213685184627228544,
  302210702316574370361312, 56, 14507091314321806566879232, 3129216, 548681513920, 33536960, 16776112, 576443159102871552, 35449079480712192, 254,
  4193792, 3458623252329365504, 8388096, 480, 50301888, 72057559552112640, 16775936, 232, 348448518217211894145344806537083159052288,
  220208007379905674240, 163332877655759086281603379116418208301056, 13194131142656, 72057559678156800, 16352, 32736, 244736, 444288, 34090770432,
  73786413310256577280, 480, 2032, 252, 4503324749429760, 68215103488, 2251250057377792, 40564816780594953975647513346048,
  39534442678181013841036427264, 18013282889759744, 1147292005072486400, 1124800395213824, 8184, 3541774857960345829344, 16777184, 16352, 112, 130816,
  50329600, 32752, 4032, 65408, 4194272, 126, 1054972812980224, 9223299606459154432, 356811880641193946689691826088336933575983104, 248, 56, 457792,
  33536960, 134152096, 16352, 16352, 2305825412699119296, 24, 4398046510976, 232, 2130705408, 504, 2040, 480, 240, 2032, 129984, 248, 17873660895281152,
  24, 16352, 1125835478138368, 65507200, 246284026954752, 128, 131040, 131040, 261952, 8, 262016, 268434928, 130944, 1152885188510730240, 232,
  562947805802496, 480, 9007182074854400, 1152921496014807040, 147573917370944446464, 7890306461253730304, 17179835392,
  2787571881499075797774052896007796375347200, 1237938821800130672580354048, 383123885193474569774374055887950278561850630313328640, 524008, 33537768,
  356811880641193946689691826088336933575983104, 24, 1016, 24, 504, 457792, 14680032, 12574592, 549755813824, 140736414117888, 7936,
  356811880641193946689691826088336933575983104, 1125348137512960, 4277141376, 248, 48640, 4835702990227041035218944, 120, 8589934584, 261632,
  2199023247360, 9007182074854400, 1152921496014807040, 147573917370944446464, 7890306461253730304, 17179835392,
  2787571881499075797774052896007796375347200, 1237938821800130672580354048, 383123885193474569774374055887950278561850630313328640, 18014381321090304,
  24, 6228864, 10384593407414639918073416691740640, 6228864, 1044424, 398655360, 31745151725696, 8, 16328, 1952, 8, 456, 134156032, 36, 4064, 4064, 104,
  484, 65008, 8386568, 144114672678729728, 70368744168960, 17591682693120, 17179868864, 484, 34587645138138185600, 8164, 65504, 590293839423849099264,
  4503591037304448, 309182776060598402215280384, 532668352, 21778071482618506735861013308488957231104, 16328, 79228162513074824341929064448, 1008, 1008,
  1008, 34662321095378961161338743808, 16352, 2199023189888, 2194224446208, 9007182074854400, 1152921496014807040, 147573917370944446464,
  7890306461253730304, 17179835392, 2787571881499075797774052896007796375347200, 1237938821800130672580354048,
  383123885193474569774374055887950278561850630313328640, 4290768896, 4835702990227041035218944, 261632, 2199023247360, 32744, 32752,
  184149205606795480238948490449146349755637850570752, 5050176389969560855884357697536, 1073602816, 4194302, 504, 504, 103582791362410496,
  2417851639198471889600512, 2, 4080, 56, 504, 4080, 33554400, 2305825412699119296, 496, 8, 8589934528, 1056964592, 1032128, 132120064,
  18887160055355137835008, 0, 32, 16128, 4543259750641845459761594177158656, 268428272, 24, 64, 19342813112848872164551680, 64, 132120064,
  8935141660702932864, 89794636423602880087156592636474722530567799319756800, 12574592, 4294934272, 649037029945047576837886721114112, 16352,
  4501336175669248, 3568, 30, 262080, 79225895778352558100046659584, 158446644767534338890306928640, 4835702990227041035218944, 261632, 2199023247360,
  4290768896, 56, 0, 248, 248, 148754255977818640873472, 17171475456, 928, 4835703260440209768046592, 2040, 7904, 15856, 24, 2040, 48640,
  17996745120149504, 524224, 504, 16304, 16304, 3114368, 248, 288230376143288320, 480, 56, 524224, 16376, 16368, 192, 192, 192, 35764913150590976, 240,
  240, 281337470646784, 4290768896, 16360, 16360, 1984, 8064, 103048806384, 34342829312, 4186048, 258016, 260013824, 274877644160, 1504, 2080760, 56,
  30, 7936, 21778061098346189844478291628122334298112, 2097120, 240, 457792, 524220, 65264, 1073740800, 32192, 8384256,
  20282409471425404962397755244544, 17163084480, 224, 7696579557248, 224, 469761536, 1984, 48, 515848, 1984, 2064064, 1016, 1016, 48, 562948879675136,
  72057592963659776, 36893479342736111616, 123286018324422656, 4294958848, 10888952654262176519432384150372830132224, 131040,
  19342794090620444689299456, 374144419134252505651064520051920053992477580849152, 0, 130944, 2251799813668864, 262112,
  10448029773009037967681152029858612457160704, 224, 182686308445276092278898780960839177993124249600, 224, 42524890909723710779775849120990470144,
  9007190629408768, 261632, 444288, 1048064, 4177344, 4160745472, 4398046510976, 1030792150528, 134217696, 1984, 128960, 75557859222245976505344, 32640,
  68719474688, 224, 0, 56, 2266735911759287759665152, 523264, 4294961792, 224, 31457136, 248, 56, 2016, 240, 261952, 8796093022080, 134217696,
  268172288, 0, 548648513024, 1073741792, 500, 520048, 2147155456, 0, 0, 0, 0, 0, 0, 0, 0, 0, 0, 0, 0, 0, 0, 0, 0, 0, 0, 0, 0, 0, 0, 0, 0, 7] [(329, 1),
  (368, 2)] [(7, [7, 7, 0, 7]), (8, [7, 7, 0, 7]), (99, [7, 7]), (100, [7, 7]), (116, [7, 7, 7]), (117, [7, 7, 7]), (187, [7, 7, 8, 7]), (188, [7, 7, 8,
  7]), (207, [7]), (208, [7]), (245, [7, 7, 7]), (246, [7, 7, 7]), (279, [7, 7, 0]), (280, [7, 7, 0]), (287, [7, 7]), (288, [7, 7]), (304, [0, 8, 8]),
  (305, [0, 8, 8]), (328, [7]), (329, [7]), (344, []), (345, []), (354, [8, 8, 8])] []
noncomputable def pc0 : PC := pc []
/- abugida/abugidalaw40.TranslitValid: parameters 1, slots in the frame: [(0, 0), (1, 1), (2, 2), (3, 4)] -/
def fiLValid : FI := ⟨16360, 14, 4⟩
noncomputable def bodyLValid : Code := bodyOf Tryz.prog 3
noncomputable def uLValid_1 : Code := subC [0] bodyLValid
noncomputable def cLValid_1 : CoC := comp pc0 fiLValid uLValid_1
noncomputable def qLValid_1_0 : LoC → LoC := qOf pc0 fiLValid uLValid_1 0 1 []
noncomputable def uLValid_4 : Code := subC [1, 0, 0] bodyLValid
noncomputable def cLValid_4 : CoC := comp pc0 fiLValid uLValid_4
noncomputable def qLValid_4_0 : LoC → LoC := qOf pc0 fiLValid uLValid_4 0 2 []
noncomputable def uLValid_7 : Code := subC [1, 0, 1, 0, 0] bodyLValid
noncomputable def cLValid_7 : CoC := comp pc0 fiLValid uLValid_7
noncomputable def qLValid_7_0 : LoC → LoC := qOf pc0 fiLValid uLValid_7 0 2 []
noncomputable def uLValid_11 : Code := subC [1, 1, 0] bodyLValid
noncomputable def cLValid_11 : CoC := comp pc0 fiLValid uLValid_11
noncomputable def qLValid_11_7 : LoC → LoC := qOf pc0 fiLValid uLValid_11 7 2 [13, 12, 11, 10, 9, 8, 7]
noncomputable def qLValid_11_6 : LoC → LoC := qOf pc0 fiLValid uLValid_11 6 1 [12, 11, 10, 9, 8, 7]
noncomputable def qLValid_11_0 : LoC → LoC := qOf pc0 fiLValid uLValid_11 0 6 []
noncomputable def cLValid_0 : CoC := comp pc0 fiLValid bodyLValid
noncomputable def finLValid : T → S → A := finN (resC pc0 fiLValid (resOf Tryz.prog 3)).run
theorem allLValidx :
  ((((regPlain uLValid_1 = true ∧
  (((regOps uLValid_1).drop 1).isEmpty = true ∧
  pushes (((regOps uLValid_1).drop 0).take 1) [] = [3])) ∧
  ((regPlain uLValid_4 = true ∧
  ((regOps uLValid_4).drop 2).isEmpty = true) ∧
  (pushes (((regOps uLValid_4).drop 0).take 2) [] = [5, 4] ∧
  regPlain uLValid_7 = true))) ∧
  ((((regOps uLValid_7).drop 2).isEmpty = true ∧
  (pushes (((regOps uLValid_7).drop 0).take 2) [] = [3, 6] ∧
  regPlain uLValid_11 = true)) ∧
  ((((regOps uLValid_11).drop 9).isEmpty = true ∧
  pushes (((regOps uLValid_11).drop 7).take 2) [13, 12, 11, 10, 9, 8, 7] = [3, 14, 13, 12, 11, 10, 9, 8, 7]) ∧
  (pushes (((regOps uLValid_11).drop 6).take 1) [12, 11, 10, 9, 8, 7] = [13, 12, 11, 10, 9, 8, 7] ∧
  pushes (((regOps uLValid_11).drop 0).take 6) [] = [12, 11, 10, 9, 8, 7]))))) ∧ (True) ∧ (True) ∧ (((((∀ (r : R) (s : S) (x0 : V), (fnC pc0 3).run r [x0] s = outF (bindR (fun tm s => finLValid tm s) (cLValid_0.run r (sp 0 x0 T.new) s))) ∧
  (∀ (s : S) (tm : T), finLValid tm s = finV (gp 240 tm) (resV [(gp 2 tm)] s))) ∧
  ((∀ (r : R) (s : S) (tm : T), cLValid_0.run r tm s = seqA (fun tm s => seqA (fun tm s => seqA (fun tm s => .ret tm s) (cLValid_11.run r tm s)) (seqA (fun tm s => condV (gp 3 tm) (seqA (fun tm s => .ret tm s) (cLValid_7.run r tm s)) (.nrm tm s)) (cLValid_4.run r tm s))) (cLValid_1.run r tm s)) ∧
  ((∀ (g : LoC) (r : R) (s : S) (tm : T) (le : List V), (qLValid_1_0 g).run r tm (le) s = g.run r (sp 2 (V.bool false) tm) ((V.bool false) :: le) s) ∧
  (∀ (g : LoC) (r : R) (s : S) (tm : T) (le : List V), (qLValid_4_0 g).run r tm (le) s = foldF (r.call 8 [(gp 0 tm)] s) fun v1 s => g.run r (sp 3 v1 tm) (v1 :: (gp 0 tm) :: le) s)))) ∧
  (((∀ (g : LoC) (r : R) (s : S) (tm : T) (le : List V), (qLValid_7_0 g).run r tm (le) s = foldF (r.call 9 [] s) fun v0 s => g.run r (sp 2 v0 tm) (v0 :: v0 :: le) s) ∧
  (∀ (g : LoC) (r : R) (s : S) (tm : T) (le : List V), (qLValid_11_0 g).run r tm (le) s = foldF (r.call 10 [(gp 0 tm)] s) fun v1 s => foldF (r.call 11 [(gp 0 tm)] s) fun v3 s => xBin ⟨0, []⟩ false .eql v1 v3 fun v4 => g.run r tm (v4 :: v4 :: v3 :: (gp 0 tm) :: v1 :: (gp 0 tm) :: le) s)) ∧
  ((∀ (g : LoC) (r : R) (s : S) (tm : T) (le : List V), (qLValid_11_6 g).run r tm ((.bool true) :: le) s = foldF (r.call 9 [] s) fun v6 s => g.run r tm (v6 :: (.bool true) :: le) s) ∧
  ((∀ (g : LoC) (r : R) (s : S) (tm : T) (le : List V), (qLValid_11_6 g).run r tm ((.bool false) :: le) s = g.run r tm (Go.Ev.undef :: (.bool false) :: le) s) ∧
  (∀ (g : LoC) (r : R) (s : S) (tm : T) (le : List V) (x0_ x1_ : V), (qLValid_11_7 g).run r tm (x0_ :: x1_ :: le) s = xPick x1_ (fun _ => g.run r (sp 2 x0_ tm) (x0_ :: x0_ :: x0_ :: x1_ :: le) s) (fun _ => g.run r (sp 2 (V.bool false) tm) ((V.bool false) :: (V.bool false) :: x0_ :: x1_ :: le) s))))))) := by
  and_intros <;> first | trivial | (intros; kernel_rfl)
theorem chLValid_1_1 : Ch pc0 fiLValid uLValid_1 1 [3] nilL := chE allLValidx.1.1.1.2.1
theorem chLValid_1_0 : Ch pc0 fiLValid uLValid_1 0 [] (qLValid_1_0 nilL) := chS rfl allLValidx.1.1.1.2.2 chLValid_1_1
theorem rgLValid_1 (r : R) (s : S) (tm : T) : cLValid_1.run r tm s = (qLValid_1_0 nilL).run r tm [] s := reg_run allLValidx.1.1.1.1 chLValid_1_0 r s tm
theorem chLValid_4_2 : Ch pc0 fiLValid uLValid_4 2 [5, 4] nilL := chE allLValidx.1.1.2.1.2
theorem chLValid_4_0 : Ch pc0 fiLValid uLValid_4 0 [] (qLValid_4_0 nilL) := chS rfl allLValidx.1.1.2.2.1 chLValid_4_2
theorem rgLValid_4 (r : R) (s : S) (tm : T) : cLValid_4.run r tm s = (qLValid_4_0 nilL).run r tm [] s := reg_run allLValidx.1.1.2.1.1 chLValid_4_0 r s tm
theorem chLValid_7_2 : Ch pc0 fiLValid uLValid_7 2 [3, 6] nilL := chE allLValidx.1.2.1.1
theorem chLValid_7_0 : Ch pc0 fiLValid uLValid_7 0 [] (qLValid_7_0 nilL) := chS rfl allLValidx.1.2.1.2.1 chLValid_7_2
theorem rgLValid_7 (r : R) (s : S) (tm : T) : cLValid_7.run r tm s = (qLValid_7_0 nilL).run r tm [] s := reg_run allLValidx.1.1.2.2.2 chLValid_7_0 r s tm
theorem chLValid_11_9 : Ch pc0 fiLValid uLValid_11 9 [3, 14, 13, 12, 11, 10, 9, 8, 7] nilL := chE allLValidx.1.2.2.1.1
theorem chLValid_11_7 : Ch pc0 fiLValid uLValid_11 7 [13, 12, 11, 10, 9, 8, 7] (qLValid_11_7 nilL) := chS rfl allLValidx.1.2.2.1.2 chLValid_11_9
theorem chLValid_11_6 : Ch pc0 fiLValid uLValid_11 6 [12, 11, 10, 9, 8, 7] (qLValid_11_6 (qLValid_11_7 nilL)) := chS rfl allLValidx.1.2.2.2.1 chLValid_11_7
theorem chLValid_11_0 : Ch pc0 fiLValid uLValid_11 0 [] (qLValid_11_0 (qLValid_11_6 (qLValid_11_7 nilL))) := chS rfl allLValidx.1.2.2.2.2 chLValid_11_6
theorem rgLValid_11 (r : R) (s : S) (tm : T) : cLValid_11.run r tm s = (qLValid_11_0 (qLValid_11_6 (qLValid_11_7 nilL))).run r tm [] s := reg_run allLValidx.1.2.1.2.2 chLValid_11_0 r s tm
theorem allLValid : type_of% (And.intro rgLValid_1 (And.intro rgLValid_4 (And.intro rgLValid_7 (And.intro rgLValid_11 allLValidx.2.2.2)))) := (And.intro rgLValid_1 (And.intro rgLValid_4 (And.intro rgLValid_7 (And.intro rgLValid_11 allLValidx.2.2.2))))
/- abugida/abugidalaw40.large: parameters 1, slots in the frame: [(0, 0), (1, 1), (2, 2)] -/
def fiLarge : FI := ⟨56, 6, 4⟩
noncomputable def bodyLarge : Code := bodyOf Tryz.prog 8
noncomputable def uLarge_1 : Code := subC [0] bodyLarge
noncomputable def cLarge_1 : CoC := comp pc0 fiLarge uLarge_1
noncomputable def qLarge_1_0 : LoC → LoC := qOf pc0 fiLarge uLarge_1 0 1 []
noncomputable def uLarge_3 : Code := subC [1, 0] bodyLarge
noncomputable def cLarge_3 : CoC := comp pc0 fiLarge uLarge_3
noncomputable def qLarge_3_0 : LoC → LoC := qOf pc0 fiLarge uLarge_3 0 4 []
noncomputable def cLarge_0 : CoC := comp pc0 fiLarge bodyLarge
noncomputable def finLarge : T → S → A := finN (resC pc0 fiLarge (resOf Tryz.prog 8)).run
theorem allLargex :
  (((regPlain uLarge_1 = true ∧
  (((regOps uLarge_1).drop 1).isEmpty = true ∧
  pushes (((regOps uLarge_1).drop 0).take 1) [] = [3])) ∧
  (regPlain uLarge_3 = true ∧
  (((regOps uLarge_3).drop 4).isEmpty = true ∧
  pushes (((regOps uLarge_3).drop 0).take 4) [] = [3, 6, 5, 4])))) ∧ (True) ∧ (True) ∧ ((((∀ (r : R) (s : S) (x0 : V), (fnC pc0 8).run r [x0] s = outF (bindR (fun tm s => finLarge tm s) (cLarge_0.run r (sp 0 x0 T.new) s))) ∧
  (∀ (s : S) (tm : T), finLarge tm s = finV (gp 240 tm) (resV [(gp 2 tm)] s))) ∧
  ((∀ (r : R) (s : S) (tm : T), cLarge_0.run r tm s = seqA (fun tm s => seqA (fun tm s => .ret tm s) (cLarge_3.run r tm s)) (cLarge_1.run r tm s)) ∧
  ((∀ (g : LoC) (r : R) (s : S) (tm : T) (le : List V), (qLarge_1_0 g).run r tm (le) s = g.run r (sp 2 (V.bool false) tm) ((V.bool false) :: le) s) ∧
  (∀ (g : LoC) (r : R) (s : S) (tm : T) (le : List V), (qLarge_3_0 g).run r tm (le) s = xLenS (gp 0 tm) fun v1 => xBin ⟨9, []⟩ false .gtr v1 (V.nat .i64 30) fun v2 => g.run r (sp 2 v2 tm) (v2 :: v2 :: v1 :: (gp 0 tm) :: le) s))))) := by
  and_intros <;> first | trivial | (intros; kernel_rfl)
theorem chLarge_1_1 : Ch pc0 fiLarge uLarge_1 1 [3] nilL := chE allLargex.1.1.2.1
theorem chLarge_1_0 : Ch pc0 fiLarge uLarge_1 0 [] (qLarge_1_0 nilL) := chS rfl allLargex.1.1.2.2 chLarge_1_1
theorem rgLarge_1 (r : R) (s : S) (tm : T) : cLarge_1.run r tm s = (qLarge_1_0 nilL).run r tm [] s := reg_run allLargex.1.1.1 chLarge_1_0 r s tm
theorem chLarge_3_4 : Ch pc0 fiLarge uLarge_3 4 [3, 6, 5, 4] nilL := chE allLargex.1.2.2.1
theorem chLarge_3_0 : Ch pc0 fiLarge uLarge_3 0 [] (qLarge_3_0 nilL) := chS rfl allLargex.1.2.2.2 chLarge_3_4
theorem rgLarge_3 (r : R) (s : S) (tm : T) : cLarge_3.run r tm s = (qLarge_3_0 nilL).run r tm [] s := reg_run allLargex.1.2.1 chLarge_3_0 r s tm
theorem allLarge : type_of% (And.intro rgLarge_1 (And.intro rgLarge_3 allLargex.2.2.2)) := (And.intro rgLarge_1 (And.intro rgLarge_3 allLargex.2.2.2))
/- abugida/translit.Valid: parameters 1, slots in the frame: [(0, 0), (1, 1), (2, 2), (3, 3), (4, 4), (5, 5), (6, 6), (7, 14), (8, 15), (9, 16), (10, 17), (11, 18), (12, 49), (13, 52), (14, 53), (15, 54), (16, 55), (17, 62)] -/
def fiValid : FI := ⟨32213685184627228544, 65, 4⟩
noncomputable def bodyValid : Code := bodyOf Tryz.prog 10
noncomputable def uValid_1 : Code := subC [0] bodyValid
noncomputable def cValid_1 : CoC := comp pc0 fiValid uValid_1
noncomputable def qValid_1_0 : LoC → LoC := qOf pc0 fiValid uValid_1 0 1 []
noncomputable def uValid_4 : Code := subC [1, 0, 0] bodyValid
noncomputable def cValid_4 : CoC := comp pc0 fiValid uValid_4
noncomputable def qValid_4_7 : LoC → LoC := qOf pc0 fiValid uValid_4 7 1 [14, 13, 12, 11, 10, 9, 8]
noncomputable def qValid_4_4 : LoC → LoC := qOf pc0 fiValid uValid_4 4 3 [11, 10, 9, 8]
noncomputable def qValid_4_0 : LoC → LoC := qOf pc0 fiValid uValid_4 0 4 []
noncomputable def uValid_7 : Code := subC [1, 0, 1, 0, 0] bodyValid
noncomputable def cValid_7 : CoC := comp pc0 fiValid uValid_7
noncomputable def qValid_7_0 : LoC → LoC := qOf pc0 fiValid uValid_7 0 1 []
noncomputable def uValid_12 : Code := subC [1, 1, 0, 0] bodyValid
noncomputable def cValid_12 : CoC := comp pc0 fiValid uValid_12
noncomputable def qValid_12_0 : LoC → LoC := qOf pc0 fiValid uValid_12 0 3 []
noncomputable def uValid_16 : Code := subC [1, 1, 0, 1, 0, 0, 0] bodyValid
noncomputable def cValid_16 : CoC := comp pc0 fiValid uValid_16
noncomputable def qValid_16_0 : LoC → LoC := qOf pc0 fiValid uValid_16 0 1 []
noncomputable def uValid_24 : Code := subC [1, 1, 0, 1, 0, 0, 1, 1, 0, 0, 0] bodyValid
noncomputable def cValid_24 : CoC := comp pc0 fiValid uValid_24
noncomputable def qValid_24_0 : LoC → LoC := qOf pc0 fiValid uValid_24 0 6 []
noncomputable def uValid_27 : Code := subC [1, 1, 0, 1, 0, 0, 1, 1, 0, 0, 1, 0, 0] bodyValid
noncomputable def cValid_27 : CoC := comp pc0 fiValid uValid_27
noncomputable def qValid_27_27 : LoC → LoC := qOf pc0 fiValid uValid_27 27 1 [49, 48, 47, 46, 45, 44, 43, 42, 41, 40, 39, 38, 37, 36, 35, 34, 33, 32, 31, 30, 29, 28, 27, 26, 25, 24, 23]
noncomputable def qValid_27_23 : LoC → LoC := qOf pc0 fiValid uValid_27 23 4 [45, 44, 43, 42, 41, 40, 39, 38, 37, 36, 35, 34, 33, 32, 31, 30, 29, 28, 27, 26, 25, 24, 23]
noncomputable def qValid_27_21 : LoC → LoC := qOf pc0 fiValid uValid_27 21 2 [43, 42, 41, 40, 39, 38, 37, 36, 35, 34, 33, 32, 31, 30, 29, 28, 27, 26, 25, 24, 23]
noncomputable def qValid_27_17 : LoC → LoC := qOf pc0 fiValid uValid_27 17 4 [39, 38, 37, 36, 35, 34, 33, 32, 31, 30, 29, 28, 27, 26, 25, 24, 23]
noncomputable def qValid_27_15 : LoC → LoC := qOf pc0 fiValid uValid_27 15 2 [37, 36, 35, 34, 33, 32, 31, 30, 29, 28, 27, 26, 25, 24, 23]
noncomputable def qValid_27_11 : LoC → LoC := qOf pc0 fiValid uValid_27 11 4 [33, 32, 31, 30, 29, 28, 27, 26, 25, 24, 23]
noncomputable def qValid_27_9 : LoC → LoC := qOf pc0 fiValid uValid_27 9 2 [31, 30, 29, 28, 27, 26, 25, 24, 23]
noncomputable def qValid_27_5 : LoC → LoC := qOf pc0 fiValid uValid_27 5 4 [27, 26, 25, 24, 23]
noncomputable def qValid_27_0 : LoC → LoC := qOf pc0 fiValid uValid_27 0 5 []
noncomputable def uValid_30 : Code := subC [1, 1, 0, 1, 0, 0, 1, 1, 0, 0, 1, 0, 1, 0, 0] bodyValid
noncomputable def cValid_30 : CoC := comp pc0 fiValid uValid_30
noncomputable def qValid_30_0 : LoC → LoC := qOf pc0 fiValid uValid_30 0 1 []
noncomputable def uValid_34 : Code := subC [1, 1, 0, 1, 0, 0, 1, 1, 0, 0, 1, 1, 0] bodyValid
noncomputable def cValid_34 : CoC := comp pc0 fiValid uValid_34
noncomputable def qValid_34_0 : LoC → LoC := qOf pc0 fiValid uValid_34 0 5 []
noncomputable def uValid_38 : Code := subC [1, 1, 0, 1, 0, 0, 1, 1, 0, 0, 1, 1, 1, 0, 0, 0] bodyValid
noncomputable def cValid_38 : CoC := comp pc0 fiValid uValid_38
noncomputable def qValid_38_0 : LoC → LoC := qOf pc0 fiValid uValid_38 0 1 []
noncomputable def uValid_46 : Code := subC [1, 1, 0, 1, 0, 0, 1, 1, 0, 0, 1, 1, 1, 0, 0, 1, 1, 0, 0, 0] bodyValid
noncomputable def cValid_46 : CoC := comp pc0 fiValid uValid_46
noncomputable def qValid_46_0 : LoC → LoC := qOf pc0 fiValid uValid_46 0 4 []
noncomputable def uValid_48 : Code := subC [1, 1, 0, 1, 0, 0, 1, 1, 0, 0, 1, 1, 1, 0, 0, 1, 1, 0, 0, 1, 0] bodyValid
noncomputable def cValid_48 : CoC := comp pc0 fiValid uValid_48
noncomputable def qValid_48_0 : LoC → LoC := qOf pc0 fiValid uValid_48 0 5 []
noncomputable def uValid_51 : Code := subC [1, 1, 0, 1, 0, 0, 1, 1, 0, 0, 1, 1, 1, 0, 0, 1, 1, 0, 0, 1, 1, 0, 0] bodyValid
noncomputable def cValid_51 : CoC := comp pc0 fiValid uValid_51
noncomputable def qValid_51_0 : LoC → LoC := qOf pc0 fiValid uValid_51 0 1 []
noncomputable def uValid_54 : Code := subC [1, 1, 0, 1, 0, 0, 1, 1, 0, 0, 1, 1, 1, 0, 0, 1, 1, 1] bodyValid
noncomputable def cValid_54 : CoC := comp pc0 fiValid uValid_54
noncomputable def qValid_54_0 : LoC → LoC := qOf pc0 fiValid uValid_54 0 2 []
noncomputable def uValid_36 : Code := subC [1, 1, 0, 1, 0, 0, 1, 1, 0, 0, 1, 1, 1, 0] bodyValid
noncomputable def cValid_36 : CoC := comp pc0 fiValid uValid_36
noncomputable def uValid_55 : Code := subC [1, 1, 0, 1, 0, 0, 1, 1, 1] bodyValid
noncomputable def cValid_55 : CoC := comp pc0 fiValid uValid_55
noncomputable def qValid_55_0 : LoC → LoC := qOf pc0 fiValid uValid_55 0 2 []
noncomputable def uValid_14 : Code := subC [1, 1, 0, 1, 0] bodyValid
noncomputable def cValid_14 : CoC := comp pc0 fiValid uValid_14
noncomputable def uValid_57 : Code := subC [1, 1, 1, 0] bodyValid
noncomputable def cValid_57 : CoC := comp pc0 fiValid uValid_57
noncomputable def qValid_57_0 : LoC → LoC := qOf pc0 fiValid uValid_57 0 1 []
noncomputable def cValid_0 : CoC := comp pc0 fiValid bodyValid
noncomputable def finValid : T → S → A := finN (resC pc0 fiValid (resOf Tryz.prog 10)).run
theorem allValidx :
  ((((((regPlain uValid_1 = true ∧
  (((regOps uValid_1).drop 1).isEmpty = true ∧
  pushes (((regOps uValid_1).drop 0).take 1) [] = [3])) ∧
  ((regPlain uValid_4 = true ∧
  ((regOps uValid_4).drop 8).isEmpty = true) ∧
  (pushes (((regOps uValid_4).drop 7).take 1) [14, 13, 12, 11, 10, 9, 8] = [15, 14, 13, 12, 11, 10, 9, 8] ∧
  pushes (((regOps uValid_4).drop 4).take 3) [11, 10, 9, 8] = [14, 13, 12, 11, 10, 9, 8]))) ∧
  ((pushes (((regOps uValid_4).drop 0).take 4) [] = [11, 10, 9, 8] ∧
  (regPlain uValid_7 = true ∧
  ((regOps uValid_7).drop 1).isEmpty = true)) ∧
  ((pushes (((regOps uValid_7).drop 0).take 1) [] = [3] ∧
  regPlain uValid_12 = true) ∧
  (((regOps uValid_12).drop 3).isEmpty = true ∧
  pushes (((regOps uValid_12).drop 0).take 3) [] = [18, 17, 16])))) ∧
  (((regPlain uValid_16 = true ∧
  (((regOps uValid_16).drop 1).isEmpty = true ∧
  pushes (((regOps uValid_16).drop 0).take 1) [] = [19])) ∧
  ((regPlain uValid_24 = true ∧
  ((regOps uValid_24).drop 6).isEmpty = true) ∧
  (pushes (((regOps uValid_24).drop 0).take 6) [] = [4, 5, 22, 21, 20] ∧
  regPlain uValid_27 = true))) ∧
  (((((regOps uValid_27).drop 28).isEmpty = true ∧
  pushes (((regOps uValid_27).drop 27).take 1) [49, 48, 47, 46, 45, 44, 43, 42, 41, 40, 39, 38, 37, 36, 35, 34, 33, 32, 31, 30, 29, 28, 27, 26, 25, 24, 23] = [50, 49, 48, 47, 46, 45, 44, 43, 42, 41, 40, 39, 38, 37, 36, 35, 34, 33, 32, 31, 30, 29, 28, 27, 26, 25, 24, 23]) ∧
  (pushes (((regOps uValid_27).drop 23).take 4) [45, 44, 43, 42, 41, 40, 39, 38, 37, 36, 35, 34, 33, 32, 31, 30, 29, 28, 27, 26, 25, 24, 23] = [49, 48, 47, 46, 45, 44, 43, 42, 41, 40, 39, 38, 37, 36, 35, 34, 33, 32, 31, 30, 29, 28, 27, 26, 25, 24, 23] ∧
  pushes (((regOps uValid_27).drop 21).take 2) [43, 42, 41, 40, 39, 38, 37, 36, 35, 34, 33, 32, 31, 30, 29, 28, 27, 26, 25, 24, 23] = [45, 44, 43, 42, 41, 40, 39, 38, 37, 36, 35, 34, 33, 32, 31, 30, 29, 28, 27, 26, 25, 24, 23])) ∧
  ((pushes (((regOps uValid_27).drop 17).take 4) [39, 38, 37, 36, 35, 34, 33, 32, 31, 30, 29, 28, 27, 26, 25, 24, 23] = [43, 42, 41, 40, 39, 38, 37, 36, 35, 34, 33, 32, 31, 30, 29, 28, 27, 26, 25, 24, 23] ∧
  pushes (((regOps uValid_27).drop 15).take 2) [37, 36, 35, 34, 33, 32, 31, 30, 29, 28, 27, 26, 25, 24, 23] = [39, 38, 37, 36, 35, 34, 33, 32, 31, 30, 29, 28, 27, 26, 25, 24, 23]) ∧
  (pushes (((regOps uValid_27).drop 11).take 4) [33, 32, 31, 30, 29, 28, 27, 26, 25, 24, 23] = [37, 36, 35, 34, 33, 32, 31, 30, 29, 28, 27, 26, 25, 24, 23] ∧
  pushes (((regOps uValid_27).drop 9).take 2) [31, 30, 29, 28, 27, 26, 25, 24, 23] = [33, 32, 31, 30, 29, 28, 27, 26, 25, 24, 23]))))) ∧
  ((((pushes (((regOps uValid_27).drop 5).take 4) [27, 26, 25, 24, 23] = [31, 30, 29, 28, 27, 26, 25, 24, 23] ∧
  (pushes (((regOps uValid_27).drop 0).take 5) [] = [27, 26, 25, 24, 23] ∧
  regPlain uValid_30 = true)) ∧
  ((((regOps uValid_30).drop 1).isEmpty = true ∧
  pushes (((regOps uValid_30).drop 0).take 1) [] = [3]) ∧
  (regPlain uValid_34 = true ∧
  ((regOps uValid_34).drop 5).isEmpty = true))) ∧
  ((pushes (((regOps uValid_34).drop 0).take 5) [] = [55, 54, 53, 52, 51] ∧
  (regPlain uValid_38 = true ∧
  ((regOps uValid_38).drop 1).isEmpty = true)) ∧
  ((pushes (((regOps uValid_38).drop 0).take 1) [] = [56] ∧
  regPlain uValid_46 = true) ∧
  (((regOps uValid_46).drop 4).isEmpty = true ∧
  pushes (((regOps uValid_46).drop 0).take 4) [] = [7, 58, 57])))) ∧
  (((regPlain uValid_48 = true ∧
  (((regOps uValid_48).drop 5).isEmpty = true ∧
  pushes (((regOps uValid_48).drop 0).take 5) [] = [63, 62, 61, 60, 59])) ∧
  ((regPlain uValid_51 = true ∧
  ((regOps uValid_51).drop 1).isEmpty = true) ∧
  (pushes (((regOps uValid_51).drop 0).take 1) [] = [3] ∧
  regPlain uValid_54 = true))) ∧
  (((((regOps uValid_54).drop 2).isEmpty = true ∧
  pushes (((regOps uValid_54).drop 0).take 2) [] = [55, 64]) ∧
  (regPlain uValid_55 = true ∧
  ((regOps uValid_55).drop 2).isEmpty = true)) ∧
  ((pushes (((regOps uValid_55).drop 0).take 2) [] = [18, 65] ∧
  regPlain uValid_57 = true) ∧
  (((regOps uValid_57).drop 1).isEmpty = true ∧
  pushes (((regOps uValid_57).drop 0).take 1) [] = [3]))))))) ∧ ((sizeC uValid_36 = 32 ∧
  sizeC uValid_14 = 98)) ∧ (((∀ (r : R) (s : S) (tm : T), cValid_36.run r tm s = seqA (fun tm s => r.code fiValid uValid_36 tm s) (seqA (fun tm s => seqA (fun tm s => seqA (fun tm s => cValid_54.run r tm s) (blockA 3 (seqA (fun tm s => seqA (fun tm s => condV (gp 17 tm) (seqA (fun tm s => .ret tm s) (cValid_51.run r tm s)) (.nrm tm s)) (cValid_48.run r tm s)) (cValid_46.run r tm s)))) (condV (gp 16 tm) (.nrm tm s) (.ext 2 tm s))) (cValid_38.run r tm s))) ∧
  (∀ (r : R) (s : S) (tm : T), cValid_14.run r tm s = seqA (fun tm s => r.code fiValid uValid_14 tm s) (seqA (fun tm s => seqA (fun tm s => seqA (fun tm s => cValid_55.run r tm s) (blockA 1 (seqA (fun tm s => seqA (fun tm s => seqA (fun tm s => blockA 2 (cValid_36.run r tm s)) (cValid_34.run r tm s)) (seqA (fun tm s => condV (gp 12 tm) (seqA (fun tm s => .ret tm s) (cValid_30.run r tm s)) (.nrm tm s)) (cValid_27.run r tm s))) (cValid_24.run r tm s)))) (condV (gp 11 tm) (.nrm tm s) (.ext 0 tm s))) (cValid_16.run r tm s))))) ∧ (((((((∀ (r : R) (s : S) (x0 : V), (fnC pc0 10).run r [x0] s = outF (bindR (fun tm s => finValid tm s) (cValid_0.run r (sp 0 x0 T.new) s))) ∧
  (∀ (s : S) (tm : T), finValid tm s = finV (gp 240 tm) (resV [(gp 2 tm)] s))) ∧
  ((∀ (r : R) (s : S) (tm : T), cValid_0.run r tm s = seqA (fun tm s => seqA (fun tm s => seqA (fun tm s => seqA (fun tm s => .ret tm s) (cValid_57.run r tm s)) (seqA (fun tm s => blockA 0 (cValid_14.run r tm s)) (cValid_12.run r tm s))) (seqA (fun tm s => condV (gp 7 tm) (seqA (fun tm s => .ret tm s) (cValid_7.run r tm s)) (.nrm tm s)) (cValid_4.run r tm s))) (cValid_1.run r tm s)) ∧
  (∀ (g : LoC) (r : R) (s : S) (tm : T) (le : List V), (qValid_1_0 g).run r tm (le) s = g.run r (sp 2 (V.bool false) tm) ((V.bool false) :: le) s))) ∧
  (((∀ (g : LoC) (r : R) (s : S) (tm : T) (le : List V), (qValid_4_0 g).run r tm (le) s = xLenS (gp 0 tm) fun v1 => xBin ⟨9, []⟩ false .lss v1 (V.nat .i64 1) fun v2 => g.run r tm (v2 :: v2 :: v1 :: (gp 0 tm) :: le) s) ∧
  (∀ (g : LoC) (r : R) (s : S) (tm : T) (le : List V), (qValid_4_4 g).run r tm ((.bool true) :: le) s = g.run r tm (Go.Ev.undef :: Go.Ev.undef :: Go.Ev.undef :: (.bool true) :: le) s)) ∧
  ((∀ (g : LoC) (r : R) (s : S) (tm : T) (le : List V), (qValid_4_4 g).run r tm ((.bool false) :: le) s = xLenS (gp 0 tm) fun v5 => xBin ⟨9, []⟩ false .gtr v5 (V.nat .i64 20) fun v6 => g.run r tm (v6 :: v5 :: (gp 0 tm) :: (.bool false) :: le) s) ∧
  (∀ (g : LoC) (r : R) (s : S) (tm : T) (le : List V) (x0_ x1_ x2_ x3_ : V), (qValid_4_7 g).run r tm (x0_ :: x1_ :: x2_ :: x3_ :: le) s = xPick x3_ (fun _ => g.run r (sp 7 (V.bool true) tm) ((V.bool true) :: x0_ :: x1_ :: x2_ :: x3_ :: le) s) (fun _ => g.run r (sp 7 x0_ tm) (x0_ :: x0_ :: x1_ :: x2_ :: x3_ :: le) s))))) ∧
  ((((∀ (g : LoC) (r : R) (s : S) (tm : T) (le : List V), (qValid_7_0 g).run r tm (le) s = g.run r (sp 2 (V.bool false) tm) ((V.bool false) :: le) s) ∧
  (∀ (g : LoC) (r : R) (s : S) (tm : T) (le : List V), (qValid_12_0 g).run r tm (le) s = xLenS (gp 0 tm) fun v1 => g.run r (sp 10 (V.nat .i64 0) (sp 9 v1 (sp 8 (gp 0 tm) tm))) ((V.nat .i64 0) :: v1 :: (gp 0 tm) :: le) s)) ∧
  ((∀ (g : LoC) (r : R) (s : S) (tm : T) (le : List V), (qValid_16_0 g).run r tm (le) s = xBin ⟨9, []⟩ false .lss (gp 10 tm) (gp 9 tm) fun v0 => g.run r (sp 11 v0 tm) (v0 :: le) s) ∧
  (∀ (g : LoC) (r : R) (s : S) (tm : T) (le : List V), (qValid_24_0 g).run r tm (le) s = xIdxAddrS 2 (gp 8 tm) (gp 10 tm) fun v1 => xLoad true 2 v1 s fun v2 s => Go.Ev.newRow s 34 [(V.nil 1), (V.nil 1)] false fun a3k _ s => xStore 2 (V.ptr a3k 0 0) v2 s fun v5 s => g.run r (sp 3 (gp 10 tm) (sp 4 (V.ptr a3k 0 0) tm)) ((gp 10 tm) :: (V.ptr a3k 0 0) :: v2 :: v1 :: (gp 10 tm) :: le) s))) ∧
  (((∀ (g : LoC) (r : R) (s : S) (tm : T) (le : List V), (qValid_27_0 g).run r tm (le) s = xFieldAddr 0 (gp 4 tm) fun v0 => xLoad false 1 v0 s fun v1 s => xLenS v1 fun v2 => xBin ⟨9, []⟩ false .lss v2 (V.nat .i64 1) fun v3 => g.run r tm (v3 :: v3 :: v2 :: v1 :: v0 :: le) s) ∧
  (∀ (g : LoC) (r : R) (s : S) (tm : T) (le : List V), (qValid_27_5 g).run r tm ((.bool true) :: le) s = g.run r tm (Go.Ev.undef :: Go.Ev.undef :: Go.Ev.undef :: Go.Ev.undef :: (.bool true) :: le) s)) ∧
  ((∀ (g : LoC) (r : R) (s : S) (tm : T) (le : List V), (qValid_27_5 g).run r tm ((.bool false) :: le) s = xFieldAddr 0 (gp 4 tm) fun v5 => xLoad false 1 v5 s fun v6 s => xLenS v6 fun v7 => xBin ⟨9, []⟩ false .gtr v7 (V.nat .i64 20) fun v8 => g.run r tm (v8 :: v7 :: v6 :: v5 :: (.bool false) :: le) s) ∧
  ((∀ (g : LoC) (r : R) (s : S) (tm : T) (le : List V) (x0_ x1_ x2_ x3_ x4_ : V), (qValid_27_9 g).run r tm (x0_ :: x1_ :: x2_ :: x3_ :: x4_ :: le) s = xPick x4_ (fun _ => g.run r tm ((V.bool true) :: (V.bool true) :: x0_ :: x1_ :: x2_ :: x3_ :: x4_ :: le) s) (fun _ => g.run r tm (x0_ :: x0_ :: x0_ :: x1_ :: x2_ :: x3_ :: x4_ :: le) s)) ∧
  (∀ (g : LoC) (r : R) (s : S) (tm : T) (le : List V), (qValid_27_11 g).run r tm ((.bool true) :: le) s = g.run r tm (Go.Ev.undef :: Go.Ev.undef :: Go.Ev.undef :: Go.Ev.undef :: (.bool true) :: le) s)))))) ∧
  (((((∀ (g : LoC) (r : R) (s : S) (tm : T) (le : List V), (qValid_27_11 g).run r tm ((.bool false) :: le) s = xFieldAddr 1 (gp 4 tm) fun v11 => xLoad false 1 v11 s fun v12 s => xLenS v12 fun v13 => xBin ⟨9, []⟩ false .gtr v13 (V.nat .i64 20) fun v14 => g.run r tm (v14 :: v13 :: v12 :: v11 :: (.bool false) :: le) s) ∧
  (∀ (g : LoC) (r : R) (s : S) (tm : T) (le : List V) (x0_ x1_ x2_ x3_ x4_ : V), (qValid_27_15 g).run r tm (x0_ :: x1_ :: x2_ :: x3_ :: x4_ :: le) s = xPick x4_ (fun _ => g.run r tm ((V.bool true) :: (V.bool true) :: x0_ :: x1_ :: x2_ :: x3_ :: x4_ :: le) s) (fun _ => g.run r tm (x0_ :: x0_ :: x0_ :: x1_ :: x2_ :: x3_ :: x4_ :: le) s))) ∧
  ((∀ (g : LoC) (r : R) (s : S) (tm : T) (le : List V), (qValid_27_17 g).run r tm ((.bool true) :: le) s = g.run r tm (Go.Ev.undef :: Go.Ev.undef :: Go.Ev.undef :: Go.Ev.undef :: (.bool true) :: le) s) ∧
  (∀ (g : LoC) (r : R) (s : S) (tm : T) (le : List V), (qValid_27_17 g).run r tm ((.bool false) :: le) s = xFieldAddr 0 (gp 4 tm) fun v17 => xLoad false 1 v17 s fun v18 s => foldF (r.call 24 [v18, (V.nat .i64 500)] s) fun v19 s => xUn .not v19 fun v20 => g.run r tm (v20 :: v19 :: v18 :: v17 :: (.bool false) :: le) s))) ∧
  (((∀ (g : LoC) (r : R) (s : S) (tm : T) (le : List V) (x0_ x1_ x2_ x3_ x4_ : V), (qValid_27_21 g).run r tm (x0_ :: x1_ :: x2_ :: x3_ :: x4_ :: le) s = xPick x4_ (fun _ => g.run r tm ((V.bool true) :: (V.bool true) :: x0_ :: x1_ :: x2_ :: x3_ :: x4_ :: le) s) (fun _ => g.run r tm (x0_ :: x0_ :: x0_ :: x1_ :: x2_ :: x3_ :: x4_ :: le) s)) ∧
  (∀ (g : LoC) (r : R) (s : S) (tm : T) (le : List V), (qValid_27_23 g).run r tm ((.bool true) :: le) s = g.run r tm (Go.Ev.undef :: Go.Ev.undef :: Go.Ev.undef :: Go.Ev.undef :: (.bool true) :: le) s)) ∧
  ((∀ (g : LoC) (r : R) (s : S) (tm : T) (le : List V), (qValid_27_23 g).run r tm ((.bool false) :: le) s = xFieldAddr 1 (gp 4 tm) fun v23 => xLoad false 1 v23 s fun v24 s => foldF (r.call 24 [v24, (V.nat .i64 500)] s) fun v25 s => xUn .not v25 fun v26 => g.run r tm (v26 :: v25 :: v24 :: v23 :: (.bool false) :: le) s) ∧
  (∀ (g : LoC) (r : R) (s : S) (tm : T) (le : List V) (x0_ x1_ x2_ x3_ x4_ : V), (qValid_27_27 g).run r tm (x0_ :: x1_ :: x2_ :: x3_ :: x4_ :: le) s = xPick x4_ (fun _ => g.run r (sp 12 (V.bool true) tm) ((V.bool true) :: x0_ :: x1_ :: x2_ :: x3_ :: x4_ :: le) s) (fun _ => g.run r (sp 12 x0_ tm) (x0_ :: x0_ :: x1_ :: x2_ :: x3_ :: x4_ :: le) s))))) ∧
  ((((∀ (g : LoC) (r : R) (s : S) (tm : T) (le : List V), (qValid_30_0 g).run r tm (le) s = g.run r (sp 2 (V.bool false) tm) ((V.bool false) :: le) s) ∧
  (∀ (g : LoC) (r : R) (s : S) (tm : T) (le : List V), (qValid_34_0 g).run r tm (le) s = xSlice 34 2 (gp 0 tm) none (some (gp 3 tm)) none s fun v2 => xLenS v2 fun v3 => g.run r (sp 15 (V.nat .i64 0) (sp 14 v3 (sp 13 v2 tm))) ((V.nat .i64 0) :: v3 :: v2 :: (gp 3 tm) :: (gp 0 tm) :: le) s)) ∧
  ((∀ (g : LoC) (r : R) (s : S) (tm : T) (le : List V), (qValid_38_0 g).run r tm (le) s = xBin ⟨9, []⟩ false .lss (gp 15 tm) (gp 14 tm) fun v0 => g.run r (sp 16 v0 tm) (v0 :: le) s) ∧
  (∀ (g : LoC) (r : R) (s : S) (tm : T) (le : List V), (qValid_46_0 g).run r tm (le) s = xIdxAddrS 2 (gp 13 tm) (gp 15 tm) fun v0 => xLoad true 2 v0 s fun v1 s => Go.Ev.newRow s 34 [(V.nil 1), (V.nil 1)] false fun a2k _ s => xStore 2 (V.ptr a2k 0 0) v1 s fun v3 s => g.run r (sp 6 (V.ptr a2k 0 0) tm) ((V.ptr a2k 0 0) :: v1 :: v0 :: le) s))) ∧
  (((∀ (g : LoC) (r : R) (s : S) (tm : T) (le : List V), (qValid_48_0 g).run r tm (le) s = xFieldAddr 0 (gp 4 tm) fun v0 => xLoad false 1 v0 s fun v1 s => xFieldAddr 0 (gp 6 tm) fun v2 => xLoad false 1 v2 s fun v3 s => foldF (r.call 25 [v1, v3] s) fun v4 s => g.run r (sp 17 v4 tm) (v4 :: v3 :: v2 :: v1 :: v0 :: le) s) ∧
  (∀ (g : LoC) (r : R) (s : S) (tm : T) (le : List V), (qValid_51_0 g).run r tm (le) s = g.run r (sp 2 (V.bool false) tm) ((V.bool false) :: le) s)) ∧
  ((∀ (g : LoC) (r : R) (s : S) (tm : T) (le : List V), (qValid_54_0 g).run r tm (le) s = xBin ⟨9, []⟩ false .add (gp 15 tm) (V.nat .i64 1) fun v0 => g.run r (sp 15 v0 tm) (v0 :: v0 :: le) s) ∧
  ((∀ (g : LoC) (r : R) (s : S) (tm : T) (le : List V), (qValid_55_0 g).run r tm (le) s = xBin ⟨9, []⟩ false .add (gp 10 tm) (V.nat .i64 1) fun v0 => g.run r (sp 10 v0 tm) (v0 :: v0 :: le) s) ∧
  (∀ (g : LoC) (r : R) (s : S) (tm : T) (le : List V), (qValid_57_0 g).run r tm (le) s = g.run r (sp 2 (V.bool true) tm) ((V.bool true) :: le) s)))))))) := by
  and_intros <;> first | trivial | (intros; kernel_rfl)
theorem chValid_1_1 : Ch pc0 fiValid uValid_1 1 [3] nilL := chE allValidx.1.1.1.1.1.2.1
theorem chValid_1_0 : Ch pc0 fiValid uValid_1 0 [] (qValid_1_0 nilL) := chS rfl allValidx.1.1.1.1.1.2.2 chValid_1_1
theorem rgValid_1 (r : R) (s : S) (tm : T) : cValid_1.run r tm s = (qValid_1_0 nilL).run r tm [] s := reg_run allValidx.1.1.1.1.1.1 chValid_1_0 r s tm
theorem chValid_4_8 : Ch pc0 fiValid uValid_4 8 [15, 14, 13, 12, 11, 10, 9, 8] nilL := chE allValidx.1.1.1.1.2.1.2
theorem chValid_4_7 : Ch pc0 fiValid uValid_4 7 [14, 13, 12, 11, 10, 9, 8] (qValid_4_7 nilL) := chS rfl allValidx.1.1.1.1.2.2.1 chValid_4_8
theorem chValid_4_4 : Ch pc0 fiValid uValid_4 4 [11, 10, 9, 8] (qValid_4_4 (qValid_4_7 nilL)) := chS rfl allValidx.1.1.1.1.2.2.2 chValid_4_7
theorem chValid_4_0 : Ch pc0 fiValid uValid_4 0 [] (qValid_4_0 (qValid_4_4 (qValid_4_7 nilL))) := chS rfl allValidx.1.1.1.2.1.1 chValid_4_4
theorem rgValid_4 (r : R) (s : S) (tm : T) : cValid_4.run r tm s = (qValid_4_0 (qValid_4_4 (qValid_4_7 nilL))).run r tm [] s := reg_run allValidx.1.1.1.1.2.1.1 chValid_4_0 r s tm
theorem chValid_7_1 : Ch pc0 fiValid uValid_7 1 [3] nilL := chE allValidx.1.1.1.2.1.2.2
theorem chValid_7_0 : Ch pc0 fiValid uValid_7 0 [] (qValid_7_0 nilL) := chS rfl allValidx.1.1.1.2.2.1.1 chValid_7_1
theorem rgValid_7 (r : R) (s : S) (tm : T) : cValid_7.run r tm s = (qValid_7_0 nilL).run r tm [] s := reg_run allValidx.1.1.1.2.1.2.1 chValid_7_0 r s tm
theorem chValid_12_3 : Ch pc0 fiValid uValid_12 3 [18, 17, 16] nilL := chE allValidx.1.1.1.2.2.2.1
theorem chValid_12_0 : Ch pc0 fiValid uValid_12 0 [] (qValid_12_0 nilL) := chS rfl allValidx.1.1.1.2.2.2.2 chValid_12_3
theorem rgValid_12 (r : R) (s : S) (tm : T) : cValid_12.run r tm s = (qValid_12_0 nilL).run r tm [] s := reg_run allValidx.1.1.1.2.2.1.2 chValid_12_0 r s tm
theorem chValid_16_1 : Ch pc0 fiValid uValid_16 1 [19] nilL := chE allValidx.1.1.2.1.1.2.1
theorem chValid_16_0 : Ch pc0 fiValid uValid_16 0 [] (qValid_16_0 nilL) := chS rfl allValidx.1.1.2.1.1.2.2 chValid_16_1
theorem rgValid_16 (r : R) (s : S) (tm : T) : cValid_16.run r tm s = (qValid_16_0 nilL).run r tm [] s := reg_run allValidx.1.1.2.1.1.1 chValid_16_0 r s tm
theorem chValid_24_6 : Ch pc0 fiValid uValid_24 6 [4, 5, 22, 21, 20] nilL := chE allValidx.1.1.2.1.2.1.2
theorem chValid_24_0 : Ch pc0 fiValid uValid_24 0 [] (qValid_24_0 nilL) := chS rfl allValidx.1.1.2.1.2.2.1 chValid_24_6
theorem rgValid_24 (r : R) (s : S) (tm : T) : cValid_24.run r tm s = (qValid_24_0 nilL).run r tm [] s := reg_run allValidx.1.1.2.1.2.1.1 chValid_24_0 r s tm
theorem chValid_27_28 : Ch pc0 fiValid uValid_27 28 [50, 49, 48, 47, 46, 45, 44, 43, 42, 41, 40, 39, 38, 37, 36, 35, 34, 33, 32, 31, 30, 29, 28, 27, 26, 25, 24, 23] nilL := chE allValidx.1.1.2.2.1.1.1
theorem chValid_27_27 : Ch pc0 fiValid uValid_27 27 [49, 48, 47, 46, 45, 44, 43, 42, 41, 40, 39, 38, 37, 36, 35, 34, 33, 32, 31, 30, 29, 28, 27, 26, 25, 24, 23] (qValid_27_27 nilL) := chS rfl allValidx.1.1.2.2.1.1.2 chValid_27_28
theorem chValid_27_23 : Ch pc0 fiValid uValid_27 23 [45, 44, 43, 42, 41, 40, 39, 38, 37, 36, 35, 34, 33, 32, 31, 30, 29, 28, 27, 26, 25, 24, 23] (qValid_27_23 (qValid_27_27 nilL)) := chS rfl allValidx.1.1.2.2.1.2.1 chValid_27_27
theorem chValid_27_21 : Ch pc0 fiValid uValid_27 21 [43, 42, 41, 40, 39, 38, 37, 36, 35, 34, 33, 32, 31, 30, 29, 28, 27, 26, 25, 24, 23] (qValid_27_21 (qValid_27_23 (qValid_27_27 nilL))) := chS rfl allValidx.1.1.2.2.1.2.2 chValid_27_23
theorem chValid_27_17 : Ch pc0 fiValid uValid_27 17 [39, 38, 37, 36, 35, 34, 33, 32, 31, 30, 29, 28, 27, 26, 25, 24, 23] (qValid_27_17 (qValid_27_21 (qValid_27_23 (qValid_27_27 nilL)))) := chS rfl allValidx.1.1.2.2.2.1.1 chValid_27_21
theorem chValid_27_15 : Ch pc0 fiValid uValid_27 15 [37, 36, 35, 34, 33, 32, 31, 30, 29, 28, 27, 26, 25, 24, 23] (qValid_27_15 (qValid_27_17 (qValid_27_21 (qValid_27_23 (qValid_27_27 nilL))))) := chS rfl allValidx.1.1.2.2.2.1.2 chValid_27_17
theorem chValid_27_11 : Ch pc0 fiValid uValid_27 11 [33, 32, 31, 30, 29, 28, 27, 26, 25, 24, 23] (qValid_27_11 (qValid_27_15 (qValid_27_17 (qValid_27_21 (qValid_27_23 (qValid_27_27 nilL)))))) := chS rfl allValidx.1.1.2.2.2.2.1 chValid_27_15
theorem chValid_27_9 : Ch pc0 fiValid uValid_27 9 [31, 30, 29, 28, 27, 26, 25, 24, 23] (qValid_27_9 (qValid_27_11 (qValid_27_15 (qValid_27_17 (qValid_27_21 (qValid_27_23 (qValid_27_27 nilL))))))) := chS rfl allValidx.1.1.2.2.2.2.2 chValid_27_11
theorem chValid_27_5 : Ch pc0 fiValid uValid_27 5 [27, 26, 25, 24, 23] (qValid_27_5 (qValid_27_9 (qValid_27_11 (qValid_27_15 (qValid_27_17 (qValid_27_21 (qValid_27_23 (qValid_27_27 nilL)))))))) := chS rfl allValidx.1.2.1.1.1.1 chValid_27_9
theorem chValid_27_0 : Ch pc0 fiValid uValid_27 0 [] (qValid_27_0 (qValid_27_5 (qValid_27_9 (qValid_27_11 (qValid_27_15 (qValid_27_17 (qValid_27_21 (qValid_27_23 (qValid_27_27 nilL))))))))) := chS rfl allValidx.1.2.1.1.1.2.1 chValid_27_5
theorem rgValid_27 (r : R) (s : S) (tm : T) : cValid_27.run r tm s = (qValid_27_0 (qValid_27_5 (qValid_27_9 (qValid_27_11 (qValid_27_15 (qValid_27_17 (qValid_27_21 (qValid_27_23 (qValid_27_27 nilL))))))))).run r tm [] s := reg_run allValidx.1.1.2.1.2.2.2 chValid_27_0 r s tm
theorem chValid_30_1 : Ch pc0 fiValid uValid_30 1 [3] nilL := chE allValidx.1.2.1.1.2.1.1
theorem chValid_30_0 : Ch pc0 fiValid uValid_30 0 [] (qValid_30_0 nilL) := chS rfl allValidx.1.2.1.1.2.1.2 chValid_30_1
theorem rgValid_30 (r : R) (s : S) (tm : T) : cValid_30.run r tm s = (qValid_30_0 nilL).run r tm [] s := reg_run allValidx.1.2.1.1.1.2.2 chValid_30_0 r s tm
theorem chValid_34_5 : Ch pc0 fiValid uValid_34 5 [55, 54, 53, 52, 51] nilL := chE allValidx.1.2.1.1.2.2.2
theorem chValid_34_0 : Ch pc0 fiValid uValid_34 0 [] (qValid_34_0 nilL) := chS rfl allValidx.1.2.1.2.1.1 chValid_34_5
theorem rgValid_34 (r : R) (s : S) (tm : T) : cValid_34.run r tm s = (qValid_34_0 nilL).run r tm [] s := reg_run allValidx.1.2.1.1.2.2.1 chValid_34_0 r s tm
theorem chValid_38_1 : Ch pc0 fiValid uValid_38 1 [56] nilL := chE allValidx.1.2.1.2.1.2.2
theorem chValid_38_0 : Ch pc0 fiValid uValid_38 0 [] (qValid_38_0 nilL) := chS rfl allValidx.1.2.1.2.2.1.1 chValid_38_1
theorem rgValid_38 (r : R) (s : S) (tm : T) : cValid_38.run r tm s = (qValid_38_0 nilL).run r tm [] s := reg_run allValidx.1.2.1.2.1.2.1 chValid_38_0 r s tm
theorem chValid_46_4 : Ch pc0 fiValid uValid_46 4 [7, 58, 57] nilL := chE allValidx.1.2.1.2.2.2.1
theorem chValid_46_0 : Ch pc0 fiValid uValid_46 0 [] (qValid_46_0 nilL) := chS rfl allValidx.1.2.1.2.2.2.2 chValid_46_4
theorem rgValid_46 (r : R) (s : S) (tm : T) : cValid_46.run r tm s = (qValid_46_0 nilL).run r tm [] s := reg_run allValidx.1.2.1.2.2.1.2 chValid_46_0 r s tm
theorem chValid_48_5 : Ch pc0 fiValid uValid_48 5 [63, 62, 61, 60, 59] nilL := chE allValidx.1.2.2.1.1.2.1
theorem chValid_48_0 : Ch pc0 fiValid uValid_48 0 [] (qValid_48_0 nilL) := chS rfl allValidx.1.2.2.1.1.2.2 chValid_48_5
theorem rgValid_48 (r : R) (s : S) (tm : T) : cValid_48.run r tm s = (qValid_48_0 nilL).run r tm [] s := reg_run allValidx.1.2.2.1.1.1 chValid_48_0 r s tm
theorem chValid_51_1 : Ch pc0 fiValid uValid_51 1 [3] nilL := chE allValidx.1.2.2.1.2.1.2
theorem chValid_51_0 : Ch pc0 fiValid uValid_51 0 [] (qValid_51_0 nilL) := chS rfl allValidx.1.2.2.1.2.2.1 chValid_51_1
theorem rgValid_51 (r : R) (s : S) (tm : T) : cValid_51.run r tm s = (qValid_51_0 nilL).run r tm [] s := reg_run allValidx.1.2.2.1.2.1.1 chValid_51_0 r s tm
theorem chValid_54_2 : Ch pc0 fiValid uValid_54 2 [55, 64] nilL := chE allValidx.1.2.2.2.1.1.1
theorem chValid_54_0 : Ch pc0 fiValid uValid_54 0 [] (qValid_54_0 nilL) := chS rfl allValidx.1.2.2.2.1.1.2 chValid_54_2
theorem rgValid_54 (r : R) (s : S) (tm : T) : cValid_54.run r tm s = (qValid_54_0 nilL).run r tm [] s := reg_run allValidx.1.2.2.1.2.2.2 chValid_54_0 r s tm
theorem chValid_55_2 : Ch pc0 fiValid uValid_55 2 [18, 65] nilL := chE allValidx.1.2.2.2.1.2.2
theorem chValid_55_0 : Ch pc0 fiValid uValid_55 0 [] (qValid_55_0 nilL) := chS rfl allValidx.1.2.2.2.2.1.1 chValid_55_2
theorem rgValid_55 (r : R) (s : S) (tm : T) : cValid_55.run r tm s = (qValid_55_0 nilL).run r tm [] s := reg_run allValidx.1.2.2.2.1.2.1 chValid_55_0 r s tm
theorem chValid_57_1 : Ch pc0 fiValid uValid_57 1 [3] nilL := chE allValidx.1.2.2.2.2.2.1
theorem chValid_57_0 : Ch pc0 fiValid uValid_57 0 [] (qValid_57_0 nilL) := chS rfl allValidx.1.2.2.2.2.2.2 chValid_57_1
theorem rgValid_57 (r : R) (s : S) (tm : T) : cValid_57.run r tm s = (qValid_57_0 nilL).run r tm [] s := reg_run allValidx.1.2.2.2.2.1.2 chValid_57_0 r s tm
theorem szValid_36 : sizeC uValid_36 = 32 := allValidx.2.1.1
theorem szValid_14 : sizeC uValid_14 = 98 := allValidx.2.1.2
theorem lpValid_36 : type_of% allValidx.2.2.1.1 := allValidx.2.2.1.1
theorem lpValid_14 : type_of% allValidx.2.2.1.2 := allValidx.2.2.1.2
theorem allValid : type_of% (And.intro rgValid_1 (And.intro rgValid_4 (And.intro rgValid_7 (And.intro rgValid_12 (And.intro rgValid_16 (And.intro rgValid_24 (And.intro rgValid_27 (And.intro rgValid_30 (And.intro rgValid_34 (And.intro rgValid_38 (And.intro rgValid_46 (And.intro rgValid_48 (And.intro rgValid_51 (And.intro rgValid_54 (And.intro rgValid_55 (And.intro rgValid_57 allValidx.2.2.2)))))))))))))))) := (And.intro rgValid_1 (And.intro rgValid_4 (And.intro rgValid_7 (And.intro rgValid_12 (And.intro rgValid_16 (And.intro rgValid_24 (And.intro rgValid_27 (And.intro rgValid_30 (And.intro rgValid_34 (And.intro rgValid_38 (And.intro rgValid_46 (And.intro rgValid_48 (And.intro rgValid_51 (And.intro rgValid_54 (And.intro rgValid_55 (And.intro rgValid_57 allValidx.2.2.2))))))))))))))))
/- abugida/abugidaref40.Valid: parameters 1, slots in the frame: [(0, 0), (1, 1), (2, 2), (3, 3), (4, 4), (5, 12), (6, 16), (7, 61), (8, 64), (9, 78)] -/
def fiRValid : FI := ⟨302210702316574370361312, 79, 4⟩
noncomputable def bodyRValid : Code := bodyOf Tryz.prog 11
noncomputable def uRValid_1 : Code := subC [0] bodyRValid
noncomputable def cRValid_1 : CoC := comp pc0 fiRValid uRValid_1
noncomputable def qRValid_1_0 : LoC → LoC := qOf pc0 fiRValid uRValid_1 0 1 []
noncomputable def uRValid_4 : Code := subC [1, 0, 0] bodyRValid
noncomputable def cRValid_4 : CoC := comp pc0 fiRValid uRValid_4
noncomputable def qRValid_4_7 : LoC → LoC := qOf pc0 fiRValid uRValid_4 7 1 [12, 11, 10, 9, 8, 7, 6]
noncomputable def qRValid_4_4 : LoC → LoC := qOf pc0 fiRValid uRValid_4 4 3 [9, 8, 7, 6]
noncomputable def qRValid_4_0 : LoC → LoC := qOf pc0 fiRValid uRValid_4 0 4 []
noncomputable def uRValid_7 : Code := subC [1, 0, 1, 0, 0] bodyRValid
noncomputable def cRValid_7 : CoC := comp pc0 fiRValid uRValid_7
noncomputable def qRValid_7_0 : LoC → LoC := qOf pc0 fiRValid uRValid_7 0 1 []
noncomputable def uRValid_12 : Code := subC [1, 1, 0, 0] bodyRValid
noncomputable def cRValid_12 : CoC := comp pc0 fiRValid uRValid_12
noncomputable def qRValid_12_0 : LoC → LoC := qOf pc0 fiRValid uRValid_12 0 1 []
noncomputable def uRValid_17 : Code := subC [1, 1, 0, 1, 0, 0, 0, 0] bodyRValid
noncomputable def cRValid_17 : CoC := comp pc0 fiRValid uRValid_17
noncomputable def qRValid_17_0 : LoC → LoC := qOf pc0 fiRValid uRValid_17 0 4 []
noncomputable def uRValid_25 : Code := subC [1, 1, 0, 1, 0, 0, 1, 0, 0, 0, 0] bodyRValid
noncomputable def cRValid_25 : CoC := comp pc0 fiRValid uRValid_25
noncomputable def qRValid_25_42 : LoC → LoC := qOf pc0 fiRValid uRValid_25 42 1 [61, 60, 59, 58, 57, 56, 55, 54, 53, 52, 51, 50, 49, 48, 47, 46, 45, 44, 43, 42, 41, 40, 39, 38, 37, 36, 35, 34, 33, 32, 31, 30, 29, 28, 27, 26, 25, 24, 23, 22, 21, 20]
noncomputable def qRValid_25_35 : LoC → LoC := qOf pc0 fiRValid uRValid_25 35 7 [54, 53, 52, 51, 50, 49, 48, 47, 46, 45, 44, 43, 42, 41, 40, 39, 38, 37, 36, 35, 34, 33, 32, 31, 30, 29, 28, 27, 26, 25, 24, 23, 22, 21, 20]
noncomputable def qRValid_25_33 : LoC → LoC := qOf pc0 fiRValid uRValid_25 33 2 [52, 51, 50, 49, 48, 47, 46, 45, 44, 43, 42, 41, 40, 39, 38, 37, 36, 35, 34, 33, 32, 31, 30, 29, 28, 27, 26, 25, 24, 23, 22, 21, 20]
noncomputable def qRValid_25_26 : LoC → LoC := qOf pc0 fiRValid uRValid_25 26 7 [45, 44, 43, 42, 41, 40, 39, 38, 37, 36, 35, 34, 33, 32, 31, 30, 29, 28, 27, 26, 25, 24, 23, 22, 21, 20]
noncomputable def qRValid_25_24 : LoC → LoC := qOf pc0 fiRValid uRValid_25 24 2 [43, 42, 41, 40, 39, 38, 37, 36, 35, 34, 33, 32, 31, 30, 29, 28, 27, 26, 25, 24, 23, 22, 21, 20]
noncomputable def qRValid_25_17 : LoC → LoC := qOf pc0 fiRValid uRValid_25 17 7 [36, 35, 34, 33, 32, 31, 30, 29, 28, 27, 26, 25, 24, 23, 22, 21, 20]
noncomputable def qRValid_25_15 : LoC → LoC := qOf pc0 fiRValid uRValid_25 15 2 [34, 33, 32, 31, 30, 29, 28, 27, 26, 25, 24, 23, 22, 21, 20]
noncomputable def qRValid_25_8 : LoC → LoC := qOf pc0 fiRValid uRValid_25 8 7 [27, 26, 25, 24, 23, 22, 21, 20]
noncomputable def qRValid_25_0 : LoC → LoC := qOf pc0 fiRValid uRValid_25 0 8 []
noncomputable def uRValid_28 : Code := subC [1, 1, 0, 1, 0, 0, 1, 0, 0, 0, 1, 0, 0] bodyRValid
noncomputable def cRValid_28 : CoC := comp pc0 fiRValid uRValid_28
noncomputable def qRValid_28_0 : LoC → LoC := qOf pc0 fiRValid uRValid_28 0 1 []
noncomputable def uRValid_32 : Code := subC [1, 1, 0, 1, 0, 0, 1, 0, 0, 1, 0] bodyRValid
noncomputable def cRValid_32 : CoC := comp pc0 fiRValid uRValid_32
noncomputable def qRValid_32_0 : LoC → LoC := qOf pc0 fiRValid uRValid_32 0 1 []
noncomputable def uRValid_37 : Code := subC [1, 1, 0, 1, 0, 0, 1, 0, 0, 1, 1, 0, 0, 0, 0] bodyRValid
noncomputable def cRValid_37 : CoC := comp pc0 fiRValid uRValid_37
noncomputable def qRValid_37_0 : LoC → LoC := qOf pc0 fiRValid uRValid_37 0 3 []
noncomputable def uRValid_44 : Code := subC [1, 1, 0, 1, 0, 0, 1, 0, 0, 1, 1, 0, 0, 1, 0, 0, 0] bodyRValid
noncomputable def cRValid_44 : CoC := comp pc0 fiRValid uRValid_44
noncomputable def qRValid_44_0 : LoC → LoC := dqOf pc0 fiRValid uRValid_44 0 12 []
noncomputable def uRValid_47 : Code := subC [1, 1, 0, 1, 0, 0, 1, 0, 0, 1, 1, 0, 0, 1, 0, 0, 1, 0, 0] bodyRValid
noncomputable def cRValid_47 : CoC := comp pc0 fiRValid uRValid_47
noncomputable def qRValid_47_0 : LoC → LoC := qOf pc0 fiRValid uRValid_47 0 1 []
noncomputable def uRValid_50 : Code := subC [1, 1, 0, 1, 0, 0, 1, 0, 0, 1, 1, 0, 0, 1, 1] bodyRValid
noncomputable def cRValid_50 : CoC := comp pc0 fiRValid uRValid_50
noncomputable def qRValid_50_0 : LoC → LoC := qOf pc0 fiRValid uRValid_50 0 3 []
noncomputable def uRValid_34 : Code := subC [1, 1, 0, 1, 0, 0, 1, 0, 0, 1, 1, 0] bodyRValid
noncomputable def cRValid_34 : CoC := comp pc0 fiRValid uRValid_34
noncomputable def uRValid_51 : Code := subC [1, 1, 0, 1, 0, 0, 1, 1] bodyRValid
noncomputable def cRValid_51 : CoC := comp pc0 fiRValid uRValid_51
noncomputable def qRValid_51_0 : LoC → LoC := qOf pc0 fiRValid uRValid_51 0 3 []
noncomputable def uRValid_14 : Code := subC [1, 1, 0, 1, 0] bodyRValid
noncomputable def cRValid_14 : CoC := comp pc0 fiRValid uRValid_14
noncomputable def uRValid_53 : Code := subC [1, 1, 1, 0] bodyRValid
noncomputable def cRValid_53 : CoC := comp pc0 fiRValid uRValid_53
noncomputable def qRValid_53_0 : LoC → LoC := qOf pc0 fiRValid uRValid_53 0 1 []
noncomputable def cRValid_0 : CoC := comp pc0 fiRValid bodyRValid
noncomputable def finRValid : T → S → A := finN (resC pc0 fiRValid (resOf Tryz.prog 11)).run
theorem allRValidx :
  ((((((regPlain uRValid_1 = true ∧
  (((regOps uRValid_1).drop 1).isEmpty = true ∧
  pushes (((regOps uRValid_1).drop 0).take 1) [] = [3])) ∧
  (regPlain uRValid_4 = true ∧
  (((regOps uRValid_4).drop 8).isEmpty = true ∧
  pushes (((regOps uRValid_4).drop 7).take 1) [12, 11, 10, 9, 8, 7, 6] = [13, 12, 11, 10, 9, 8, 7, 6]))) ∧
  ((pushes (((regOps uRValid_4).drop 4).take 3) [9, 8, 7, 6] = [12, 11, 10, 9, 8, 7, 6] ∧
  (pushes (((regOps uRValid_4).drop 0).take 4) [] = [9, 8, 7, 6] ∧
  regPlain uRValid_7 = true)) ∧
  ((((regOps uRValid_7).drop 1).isEmpty = true ∧
  pushes (((regOps uRValid_7).drop 0).take 1) [] = [3]) ∧
  (regPlain uRValid_12 = true ∧
  ((regOps uRValid_12).drop 1).isEmpty = true)))) ∧
  (((pushes (((regOps uRValid_12).drop 0).take 1) [] = [4] ∧
  (regPlain uRValid_17 = true ∧
  ((regOps uRValid_17).drop 4).isEmpty = true)) ∧
  (pushes (((regOps uRValid_17).drop 0).take 4) [] = [17, 16, 15, 14] ∧
  (regPlain uRValid_25 = true ∧
  ((regOps uRValid_25).drop 43).isEmpty = true))) ∧
  ((pushes (((regOps uRValid_25).drop 42).take 1) [61, 60, 59, 58, 57, 56, 55, 54, 53, 52, 51, 50, 49, 48, 47, 46, 45, 44, 43, 42, 41, 40, 39, 38, 37, 36, 35, 34, 33, 32, 31, 30, 29, 28, 27, 26, 25, 24, 23, 22, 21, 20] = [62, 61, 60, 59, 58, 57, 56, 55, 54, 53, 52, 51, 50, 49, 48, 47, 46, 45, 44, 43, 42, 41, 40, 39, 38, 37, 36, 35, 34, 33, 32, 31, 30, 29, 28, 27, 26, 25, 24, 23, 22, 21, 20] ∧
  (pushes (((regOps uRValid_25).drop 35).take 7) [54, 53, 52, 51, 50, 49, 48, 47, 46, 45, 44, 43, 42, 41, 40, 39, 38, 37, 36, 35, 34, 33, 32, 31, 30, 29, 28, 27, 26, 25, 24, 23, 22, 21, 20] = [61, 60, 59, 58, 57, 56, 55, 54, 53, 52, 51, 50, 49, 48, 47, 46, 45, 44, 43, 42, 41, 40, 39, 38, 37, 36, 35, 34, 33, 32, 31, 30, 29, 28, 27, 26, 25, 24, 23, 22, 21, 20] ∧
  pushes (((regOps uRValid_25).drop 33).take 2) [52, 51, 50, 49, 48, 47, 46, 45, 44, 43, 42, 41, 40, 39, 38, 37, 36, 35, 34, 33, 32, 31, 30, 29, 28, 27, 26, 25, 24, 23, 22, 21, 20] = [54, 53, 52, 51, 50, 49, 48, 47, 46, 45, 44, 43, 42, 41, 40, 39, 38, 37, 36, 35, 34, 33, 32, 31, 30, 29, 28, 27, 26, 25, 24, 23, 22, 21, 20])) ∧
  ((pushes (((regOps uRValid_25).drop 26).take 7) [45, 44, 43, 42, 41, 40, 39, 38, 37, 36, 35, 34, 33, 32, 31, 30, 29, 28, 27, 26, 25, 24, 23, 22, 21, 20] = [52, 51, 50, 49, 48, 47, 46, 45, 44, 43, 42, 41, 40, 39, 38, 37, 36, 35, 34, 33, 32, 31, 30, 29, 28, 27, 26, 25, 24, 23, 22, 21, 20] ∧
  pushes (((regOps uRValid_25).drop 24).take 2) [43, 42, 41, 40, 39, 38, 37, 36, 35, 34, 33, 32, 31, 30, 29, 28, 27, 26, 25, 24, 23, 22, 21, 20] = [45, 44, 43, 42, 41, 40, 39, 38, 37, 36, 35, 34, 33, 32, 31, 30, 29, 28, 27, 26, 25, 24, 23, 22, 21, 20]) ∧
  (pushes (((regOps uRValid_25).drop 17).take 7) [36, 35, 34, 33, 32, 31, 30, 29, 28, 27, 26, 25, 24, 23, 22, 21, 20] = [43, 42, 41, 40, 39, 38, 37, 36, 35, 34, 33, 32, 31, 30, 29, 28, 27, 26, 25, 24, 23, 22, 21, 20] ∧
  pushes (((regOps uRValid_25).drop 15).take 2) [34, 33, 32, 31, 30, 29, 28, 27, 26, 25, 24, 23, 22, 21, 20] = [36, 35, 34, 33, 32, 31, 30, 29, 28, 27, 26, 25, 24, 23, 22, 21, 20]))))) ∧
  ((((pushes (((regOps uRValid_25).drop 8).take 7) [27, 26, 25, 24, 23, 22, 21, 20] = [34, 33, 32, 31, 30, 29, 28, 27, 26, 25, 24, 23, 22, 21, 20] ∧
  (pushes (((regOps uRValid_25).drop 0).take 8) [] = [27, 26, 25, 24, 23, 22, 21, 20] ∧
  regPlain uRValid_28 = true)) ∧
  (((regOps uRValid_28).drop 1).isEmpty = true ∧
  (pushes (((regOps uRValid_28).drop 0).take 1) [] = [3] ∧
  regPlain uRValid_32 = true))) ∧
  ((((regOps uRValid_32).drop 1).isEmpty = true ∧
  (pushes (((regOps uRValid_32).drop 0).take 1) [] = [5] ∧
  regPlain uRValid_37 = true)) ∧
  ((((regOps uRValid_37).drop 3).isEmpty = true ∧
  pushes (((regOps uRValid_37).drop 0).take 3) [] = [65, 64, 63]) ∧
  (regDraw pc0.mixed uRValid_44 = true ∧
  ((drawSteps (regOps uRValid_44)).drop 12).isEmpty = true)))) ∧
  (((dpushes (regOps uRValid_44) (((drawSteps (regOps uRValid_44)).drop 0).take 12) [] = [79, 78, 77, 76, 75, 74, 73, 72, 71, 70, 69, 68] ∧
  (regPlain uRValid_47 = true ∧
  ((regOps uRValid_47).drop 1).isEmpty = true)) ∧
  (pushes (((regOps uRValid_47).drop 0).take 1) [] = [3] ∧
  (regPlain uRValid_50 = true ∧
  ((regOps uRValid_50).drop 3).isEmpty = true))) ∧
  ((pushes (((regOps uRValid_50).drop 0).take 3) [] = [5, 67, 66] ∧
  (regPlain uRValid_51 = true ∧
  ((regOps uRValid_51).drop 3).isEmpty = true)) ∧
  ((pushes (((regOps uRValid_51).drop 0).take 3) [] = [4, 19, 18] ∧
  regPlain uRValid_53 = true) ∧
  (((regOps uRValid_53).drop 1).isEmpty = true ∧
  pushes (((regOps uRValid_53).drop 0).take 1) [] = [3]))))))) ∧ ((sizeC uRValid_34 = 36 ∧
  sizeC uRValid_14 = 109)) ∧ (((∀ (r : R) (s : S) (tm : T), cRValid_34.run r tm s = seqA (fun tm s => r.code fiRValid uRValid_34 tm s) (seqA (fun tm s => seqA (fun tm s => cRValid_50.run r tm s) (blockA 3 (seqA (fun tm s => condV (gp 9 tm) (seqA (fun tm s => .ret tm s) (cRValid_47.run r tm s)) (.nrm tm s)) (cRValid_44.run r tm s)))) (seqA (fun tm s => condV (gp 8 tm) (.nrm tm s) (.ext 2 tm s)) (cRValid_37.run r tm s)))) ∧
  (∀ (r : R) (s : S) (tm : T), cRValid_14.run r tm s = seqA (fun tm s => r.code fiRValid uRValid_14 tm s) (seqA (fun tm s => seqA (fun tm s => cRValid_51.run r tm s) (blockA 1 (seqA (fun tm s => seqA (fun tm s => blockA 2 (cRValid_34.run r tm s)) (cRValid_32.run r tm s)) (seqA (fun tm s => condV (gp 7 tm) (seqA (fun tm s => .ret tm s) (cRValid_28.run r tm s)) (.nrm tm s)) (cRValid_25.run r tm s))))) (seqA (fun tm s => condV (gp 6 tm) (.nrm tm s) (.ext 0 tm s)) (cRValid_17.run r tm s)))))) ∧ (((((((∀ (r : R) (s : S) (x0 : V), (fnC pc0 11).run r [x0] s = outF (bindR (fun tm s => finRValid tm s) (cRValid_0.run r (sp 0 x0 T.new) s))) ∧
  (∀ (s : S) (tm : T), finRValid tm s = finV (gp 240 tm) (resV [(gp 2 tm)] s))) ∧
  ((∀ (r : R) (s : S) (tm : T), cRValid_0.run r tm s = seqA (fun tm s => seqA (fun tm s => seqA (fun tm s => seqA (fun tm s => .ret tm s) (cRValid_53.run r tm s)) (seqA (fun tm s => blockA 0 (cRValid_14.run r tm s)) (cRValid_12.run r tm s))) (seqA (fun tm s => condV (gp 5 tm) (seqA (fun tm s => .ret tm s) (cRValid_7.run r tm s)) (.nrm tm s)) (cRValid_4.run r tm s))) (cRValid_1.run r tm s)) ∧
  (∀ (g : LoC) (r : R) (s : S) (tm : T) (le : List V), (qRValid_1_0 g).run r tm (le) s = g.run r (sp 2 (V.bool false) tm) ((V.bool false) :: le) s))) ∧
  (((∀ (g : LoC) (r : R) (s : S) (tm : T) (le : List V), (qRValid_4_0 g).run r tm (le) s = xLenS (gp 0 tm) fun v1 => xBin ⟨9, []⟩ false .lss v1 (V.nat .i64 1) fun v2 => g.run r tm (v2 :: v2 :: v1 :: (gp 0 tm) :: le) s) ∧
  (∀ (g : LoC) (r : R) (s : S) (tm : T) (le : List V), (qRValid_4_4 g).run r tm ((.bool true) :: le) s = g.run r tm (Go.Ev.undef :: Go.Ev.undef :: Go.Ev.undef :: (.bool true) :: le) s)) ∧
  ((∀ (g : LoC) (r : R) (s : S) (tm : T) (le : List V), (qRValid_4_4 g).run r tm ((.bool false) :: le) s = xLenS (gp 0 tm) fun v5 => xBin ⟨9, []⟩ false .gtr v5 (V.nat .i64 20) fun v6 => g.run r tm (v6 :: v5 :: (gp 0 tm) :: (.bool false) :: le) s) ∧
  (∀ (g : LoC) (r : R) (s : S) (tm : T) (le : List V) (x0_ x1_ x2_ x3_ : V), (qRValid_4_7 g).run r tm (x0_ :: x1_ :: x2_ :: x3_ :: le) s = xPick x3_ (fun _ => g.run r (sp 5 (V.bool true) tm) ((V.bool true) :: x0_ :: x1_ :: x2_ :: x3_ :: le) s) (fun _ => g.run r (sp 5 x0_ tm) (x0_ :: x0_ :: x1_ :: x2_ :: x3_ :: le) s))))) ∧
  ((((∀ (g : LoC) (r : R) (s : S) (tm : T) (le : List V), (qRValid_7_0 g).run r tm (le) s = g.run r (sp 2 (V.bool false) tm) ((V.bool false) :: le) s) ∧
  (∀ (g : LoC) (r : R) (s : S) (tm : T) (le : List V), (qRValid_12_0 g).run r tm (le) s = g.run r (sp 3 (V.nat .i64 0) tm) ((V.nat .i64 0) :: le) s)) ∧
  ((∀ (g : LoC) (r : R) (s : S) (tm : T) (le : List V), (qRValid_17_0 g).run r tm (le) s = xLenS (gp 0 tm) fun v2 => xBin ⟨9, []⟩ false .lss (gp 3 tm) v2 fun v3 => g.run r (sp 6 v3 tm) (v3 :: v2 :: (gp 0 tm) :: (gp 3 tm) :: le) s) ∧
  (∀ (g : LoC) (r : R) (s : S) (tm : T) (le : List V), (qRValid_25_0 g).run r tm (le) s = xIdxAddrS 2 (gp 0 tm) (gp 3 tm) fun v2 => xFieldAddr 0 v2 fun v3 => xLoad false 1 v3 s fun v4 s => xLenS v4 fun v5 => xBin ⟨9, []⟩ false .lss v5 (V.nat .i64 1) fun v6 => g.run r tm (v6 :: v6 :: v5 :: v4 :: v3 :: v2 :: (gp 3 tm) :: (gp 0 tm) :: le) s))) ∧
  (((∀ (g : LoC) (r : R) (s : S) (tm : T) (le : List V), (qRValid_25_8 g).run r tm ((.bool true) :: le) s = g.run r tm (Go.Ev.undef :: Go.Ev.undef :: Go.Ev.undef :: Go.Ev.undef :: Go.Ev.undef :: Go.Ev.undef :: Go.Ev.undef :: (.bool true) :: le) s) ∧
  (∀ (g : LoC) (r : R) (s : S) (tm : T) (le : List V), (qRValid_25_8 g).run r tm ((.bool false) :: le) s = xIdxAddrS 2 (gp 0 tm) (gp 3 tm) fun v10 => xFieldAddr 0 v10 fun v11 => xLoad false 1 v11 s fun v12 s => xLenS v12 fun v13 => xBin ⟨9, []⟩ false .gtr v13 (V.nat .i64 20) fun v14 => g.run r tm (v14 :: v13 :: v12 :: v11 :: v10 :: (gp 3 tm) :: (gp 0 tm) :: (.bool false) :: le) s)) ∧
  ((∀ (g : LoC) (r : R) (s : S) (tm : T) (le : List V) (x0_ x1_ x2_ x3_ x4_ x5_ x6_ x7_ : V), (qRValid_25_15 g).run r tm (x0_ :: x1_ :: x2_ :: x3_ :: x4_ :: x5_ :: x6_ :: x7_ :: le) s = xPick x7_ (fun _ => g.run r tm ((V.bool true) :: (V.bool true) :: x0_ :: x1_ :: x2_ :: x3_ :: x4_ :: x5_ :: x6_ :: x7_ :: le) s) (fun _ => g.run r tm (x0_ :: x0_ :: x0_ :: x1_ :: x2_ :: x3_ :: x4_ :: x5_ :: x6_ :: x7_ :: le) s)) ∧
  (∀ (g : LoC) (r : R) (s : S) (tm : T) (le : List V), (qRValid_25_17 g).run r tm ((.bool true) :: le) s = g.run r tm (Go.Ev.undef :: Go.Ev.undef :: Go.Ev.undef :: Go.Ev.undef :: Go.Ev.undef :: Go.Ev.undef :: Go.Ev.undef :: (.bool true) :: le) s))))) ∧
  (((((∀ (g : LoC) (r : R) (s : S) (tm : T) (le : List V), (qRValid_25_17 g).run r tm ((.bool false) :: le) s = xIdxAddrS 2 (gp 0 tm) (gp 3 tm) fun v19 => xFieldAddr 1 v19 fun v20 => xLoad false 1 v20 s fun v21 s => xLenS v21 fun v22 => xBin ⟨9, []⟩ false .gtr v22 (V.nat .i64 20) fun v23 => g.run r tm (v23 :: v22 :: v21 :: v20 :: v19 :: (gp 3 tm) :: (gp 0 tm) :: (.bool false) :: le) s) ∧
  (∀ (g : LoC) (r : R) (s : S) (tm : T) (le : List V) (x0_ x1_ x2_ x3_ x4_ x5_ x6_ x7_ : V), (qRValid_25_24 g).run r tm (x0_ :: x1_ :: x2_ :: x3_ :: x4_ :: x5_ :: x6_ :: x7_ :: le) s = xPick x7_ (fun _ => g.run r tm ((V.bool true) :: (V.bool true) :: x0_ :: x1_ :: x2_ :: x3_ :: x4_ :: x5_ :: x6_ :: x7_ :: le) s) (fun _ => g.run r tm (x0_ :: x0_ :: x0_ :: x1_ :: x2_ :: x3_ :: x4_ :: x5_ :: x6_ :: x7_ :: le) s))) ∧
  ((∀ (g : LoC) (r : R) (s : S) (tm : T) (le : List V), (qRValid_25_26 g).run r tm ((.bool true) :: le) s = g.run r tm (Go.Ev.undef :: Go.Ev.undef :: Go.Ev.undef :: Go.Ev.undef :: Go.Ev.undef :: Go.Ev.undef :: Go.Ev.undef :: (.bool true) :: le) s) ∧
  (∀ (g : LoC) (r : R) (s : S) (tm : T) (le : List V), (qRValid_25_26 g).run r tm ((.bool false) :: le) s = xIdxAddrS 2 (gp 0 tm) (gp 3 tm) fun v28 => xFieldAddr 0 v28 fun v29 => xLoad false 1 v29 s fun v30 s => foldF (r.call 17 [v30] s) fun v31 s => xUn .not v31 fun v32 => g.run r tm (v32 :: v31 :: v30 :: v29 :: v28 :: (gp 3 tm) :: (gp 0 tm) :: (.bool false) :: le) s))) ∧
  (((∀ (g : LoC) (r : R) (s : S) (tm : T) (le : List V) (x0_ x1_ x2_ x3_ x4_ x5_ x6_ x7_ : V), (qRValid_25_33 g).run r tm (x0_ :: x1_ :: x2_ :: x3_ :: x4_ :: x5_ :: x6_ :: x7_ :: le) s = xPick x7_ (fun _ => g.run r tm ((V.bool true) :: (V.bool true) :: x0_ :: x1_ :: x2_ :: x3_ :: x4_ :: x5_ :: x6_ :: x7_ :: le) s) (fun _ => g.run r tm (x0_ :: x0_ :: x0_ :: x1_ :: x2_ :: x3_ :: x4_ :: x5_ :: x6_ :: x7_ :: le) s)) ∧
  (∀ (g : LoC) (r : R) (s : S) (tm : T) (le : List V), (qRValid_25_35 g).run r tm ((.bool true) :: le) s = g.run r tm (Go.Ev.undef :: Go.Ev.undef :: Go.Ev.undef :: Go.Ev.undef :: Go.Ev.undef :: Go.Ev.undef :: Go.Ev.undef :: (.bool true) :: le) s)) ∧
  ((∀ (g : LoC) (r : R) (s : S) (tm : T) (le : List V), (qRValid_25_35 g).run r tm ((.bool false) :: le) s = xIdxAddrS 2 (gp 0 tm) (gp 3 tm) fun v37 => xFieldAddr 1 v37 fun v38 => xLoad false 1 v38 s fun v39 s => foldF (r.call 17 [v39] s) fun v40 s => xUn .not v40 fun v41 => g.run r tm (v41 :: v40 :: v39 :: v38 :: v37 :: (gp 3 tm) :: (gp 0 tm) :: (.bool false) :: le) s) ∧
  (∀ (g : LoC) (r : R) (s : S) (tm : T) (le : List V) (x0_ x1_ x2_ x3_ x4_ x5_ x6_ x7_ : V), (qRValid_25_42 g).run r tm (x0_ :: x1_ :: x2_ :: x3_ :: x4_ :: x5_ :: x6_ :: x7_ :: le) s = xPick x7_ (fun _ => g.run r (sp 7 (V.bool true) tm) ((V.bool true) :: x0_ :: x1_ :: x2_ :: x3_ :: x4_ :: x5_ :: x6_ :: x7_ :: le) s) (fun _ => g.run r (sp 7 x0_ tm) (x0_ :: x0_ :: x1_ :: x2_ :: x3_ :: x4_ :: x5_ :: x6_ :: x7_ :: le) s))))) ∧
  ((((∀ (g : LoC) (r : R) (s : S) (tm : T) (le : List V), (qRValid_28_0 g).run r tm (le) s = g.run r (sp 2 (V.bool false) tm) ((V.bool false) :: le) s) ∧
  (∀ (g : LoC) (r : R) (s : S) (tm : T) (le : List V), (qRValid_32_0 g).run r tm (le) s = g.run r (sp 4 (V.nat .i64 0) tm) ((V.nat .i64 0) :: le) s)) ∧
  ((∀ (g : LoC) (r : R) (s : S) (tm : T) (le : List V), (qRValid_37_0 g).run r tm (le) s = xBin ⟨9, []⟩ false .lss (gp 4 tm) (gp 3 tm) fun v2 => g.run r (sp 8 v2 tm) (v2 :: (gp 3 tm) :: (gp 4 tm) :: le) s) ∧
  (∀ (g : LoC) (r : R) (s : S) (tm : T) (le : List V), (qRValid_44_0 g).run r tm (le) s = xIdxAddrS 2 (gp 0 tm) (gp 3 tm) fun v2 => xFieldAddr 0 v2 fun v3 => xLoad false 1 v3 s fun v4 s => xIdxAddrS 2 (gp 0 tm) (gp 4 tm) fun v7 => xFieldAddr 0 v7 fun v8 => xLoad false 1 v8 s fun v9 s => foldF (r.call 15 [v4, v9] s) fun v10 s => xBin ⟨7, []⟩ true .eql v10 (V.nat .i64 0) fun v11 => g.run r (sp 9 v11 tm) (v11 :: v10 :: v9 :: v8 :: v7 :: (gp 4 tm) :: (gp 0 tm) :: v4 :: v3 :: v2 :: (gp 3 tm) :: (gp 0 tm) :: le) s))) ∧
  (((∀ (g : LoC) (r : R) (s : S) (tm : T) (le : List V), (qRValid_47_0 g).run r tm (le) s = g.run r (sp 2 (V.bool false) tm) ((V.bool false) :: le) s) ∧
  (∀ (g : LoC) (r : R) (s : S) (tm : T) (le : List V), (qRValid_50_0 g).run r tm (le) s = xBin ⟨9, []⟩ false .add (gp 4 tm) (V.nat .i64 1) fun v1 => g.run r (sp 4 v1 tm) (v1 :: v1 :: (gp 4 tm) :: le) s)) ∧
  ((∀ (g : LoC) (r : R) (s : S) (tm : T) (le : List V), (qRValid_51_0 g).run r tm (le) s = xBin ⟨9, []⟩ false .add (gp 3 tm) (V.nat .i64 1) fun v1 => g.run r (sp 3 v1 tm) (v1 :: v1 :: (gp 3 tm) :: le) s) ∧
  (∀ (g : LoC) (r : R) (s : S) (tm : T) (le : List V), (qRValid_53_0 g).run r tm (le) s = g.run r (sp 2 (V.bool true) tm) ((V.bool true) :: le) s))))))) := by
  and_intros <;> first | trivial | (intros; kernel_rfl)
theorem chRValid_1_1 : Ch pc0 fiRValid uRValid_1 1 [3] nilL := chE allRValidx.1.1.1.1.1.2.1
theorem chRValid_1_0 : Ch pc0 fiRValid uRValid_1 0 [] (qRValid_1_0 nilL) := chS rfl allRValidx.1.1.1.1.1.2.2 chRValid_1_1
theorem rgRValid_1 (r : R) (s : S) (tm : T) : cRValid_1.run r tm s = (qRValid_1_0 nilL).run r tm [] s := reg_run allRValidx.1.1.1.1.1.1 chRValid_1_0 r s tm
theorem chRValid_4_8 : Ch pc0 fiRValid uRValid_4 8 [13, 12, 11, 10, 9, 8, 7, 6] nilL := chE allRValidx.1.1.1.1.2.2.1
theorem chRValid_4_7 : Ch pc0 fiRValid uRValid_4 7 [12, 11, 10, 9, 8, 7, 6] (qRValid_4_7 nilL) := chS rfl allRValidx.1.1.1.1.2.2.2 chRValid_4_8
theorem chRValid_4_4 : Ch pc0 fiRValid uRValid_4 4 [9, 8, 7, 6] (qRValid_4_4 (qRValid_4_7 nilL)) := chS rfl allRValidx.1.1.1.2.1.1 chRValid_4_7
theorem chRValid_4_0 : Ch pc0 fiRValid uRValid_4 0 [] (qRValid_4_0 (qRValid_4_4 (qRValid_4_7 nilL))) := chS rfl allRValidx.1.1.1.2.1.2.1 chRValid_4_4
theorem rgRValid_4 (r : R) (s : S) (tm : T) : cRValid_4.run r tm s = (qRValid_4_0 (qRValid_4_4 (qRValid_4_7 nilL))).run r tm [] s := reg_run allRValidx.1.1.1.1.2.1 chRValid_4_0 r s tm
theorem chRValid_7_1 : Ch pc0 fiRValid uRValid_7 1 [3] nilL := chE allRValidx.1.1.1.2.2.1.1
theorem chRValid_7_0 : Ch pc0 fiRValid uRValid_7 0 [] (qRValid_7_0 nilL) := chS rfl allRValidx.1.1.1.2.2.1.2 chRValid_7_1
theorem rgRValid_7 (r : R) (s : S) (tm : T) : cRValid_7.run r tm s = (qRValid_7_0 nilL).run r tm [] s := reg_run allRValidx.1.1.1.2.1.2.2 chRValid_7_0 r s tm
theorem chRValid_12_1 : Ch pc0 fiRValid uRValid_12 1 [4] nilL := chE allRValidx.1.1.1.2.2.2.2
theorem chRValid_12_0 : Ch pc0 fiRValid uRValid_12 0 [] (qRValid_12_0 nilL) := chS rfl allRValidx.1.1.2.1.1.1 chRValid_12_1
theorem rgRValid_12 (r : R) (s : S) (tm : T) : cRValid_12.run r tm s = (qRValid_12_0 nilL).run r tm [] s := reg_run allRValidx.1.1.1.2.2.2.1 chRValid_12_0 r s tm
theorem chRValid_17_4 : Ch pc0 fiRValid uRValid_17 4 [17, 16, 15, 14] nilL := chE allRValidx.1.1.2.1.1.2.2
theorem chRValid_17_0 : Ch pc0 fiRValid uRValid_17 0 [] (qRValid_17_0 nilL) := chS rfl allRValidx.1.1.2.1.2.1 chRValid_17_4
theorem rgRValid_17 (r : R) (s : S) (tm : T) : cRValid_17.run r tm s = (qRValid_17_0 nilL).run r tm [] s := reg_run allRValidx.1.1.2.1.1.2.1 chRValid_17_0 r s tm
theorem chRValid_25_43 : Ch pc0 fiRValid uRValid_25 43 [62, 61, 60, 59, 58, 57, 56, 55, 54, 53, 52, 51, 50, 49, 48, 47, 46, 45, 44, 43, 42, 41, 40, 39, 38, 37, 36, 35, 34, 33, 32, 31, 30, 29, 28, 27, 26, 25, 24, 23, 22, 21, 20] nilL := chE allRValidx.1.1.2.1.2.2.2
theorem chRValid_25_42 : Ch pc0 fiRValid uRValid_25 42 [61, 60, 59, 58, 57, 56, 55, 54, 53, 52, 51, 50, 49, 48, 47, 46, 45, 44, 43, 42, 41, 40, 39, 38, 37, 36, 35, 34, 33, 32, 31, 30, 29, 28, 27, 26, 25, 24, 23, 22, 21, 20] (qRValid_25_42 nilL) := chS rfl allRValidx.1.1.2.2.1.1 chRValid_25_43
theorem chRValid_25_35 : Ch pc0 fiRValid uRValid_25 35 [54, 53, 52, 51, 50, 49, 48, 47, 46, 45, 44, 43, 42, 41, 40, 39, 38, 37, 36, 35, 34, 33, 32, 31, 30, 29, 28, 27, 26, 25, 24, 23, 22, 21, 20] (qRValid_25_35 (qRValid_25_42 nilL)) := chS rfl allRValidx.1.1.2.2.1.2.1 chRValid_25_42
theorem chRValid_25_33 : Ch pc0 fiRValid uRValid_25 33 [52, 51, 50, 49, 48, 47, 46, 45, 44, 43, 42, 41, 40, 39, 38, 37, 36, 35, 34, 33, 32, 31, 30, 29, 28, 27, 26, 25, 24, 23, 22, 21, 20] (qRValid_25_33 (qRValid_25_35 (qRValid_25_42 nilL))) := chS rfl allRValidx.1.1.2.2.1.2.2 chRValid_25_35
theorem chRValid_25_26 : Ch pc0 fiRValid uRValid_25 26 [45, 44, 43, 42, 41, 40, 39, 38, 37, 36, 35, 34, 33, 32, 31, 30, 29, 28, 27, 26, 25, 24, 23, 22, 21, 20] (qRValid_25_26 (qRValid_25_33 (qRValid_25_35 (qRValid_25_42 nilL)))) := chS rfl allRValidx.1.1.2.2.2.1.1 chRValid_25_33
theorem chRValid_25_24 : Ch pc0 fiRValid uRValid_25 24 [43, 42, 41, 40, 39, 38, 37, 36, 35, 34, 33, 32, 31, 30, 29, 28, 27, 26, 25, 24, 23, 22, 21, 20] (qRValid_25_24 (qRValid_25_26 (qRValid_25_33 (qRValid_25_35 (qRValid_25_42 nilL))))) := chS rfl allRValidx.1.1.2.2.2.1.2 chRValid_25_26
theorem chRValid_25_17 : Ch pc0 fiRValid uRValid_25 17 [36, 35, 34, 33, 32, 31, 30, 29, 28, 27, 26, 25, 24, 23, 22, 21, 20] (qRValid_25_17 (qRValid_25_24 (qRValid_25_26 (qRValid_25_33 (qRValid_25_35 (qRValid_25_42 nilL)))))) := chS rfl allRValidx.1.1.2.2.2.2.1 chRValid_25_24
theorem chRValid_25_15 : Ch pc0 fiRValid uRValid_25 15 [34, 33, 32, 31, 30, 29, 28, 27, 26, 25, 24, 23, 22, 21, 20] (qRValid_25_15 (qRValid_25_17 (qRValid_25_24 (qRValid_25_26 (qRValid_25_33 (qRValid_25_35 (qRValid_25_42 nilL))))))) := chS rfl allRValidx.1.1.2.2.2.2.2 chRValid_25_17
theorem chRValid_25_8 : Ch pc0 fiRValid uRValid_25 8 [27, 26, 25, 24, 23, 22, 21, 20] (qRValid_25_8 (qRValid_25_15 (qRValid_25_17 (qRValid_25_24 (qRValid_25_26 (qRValid_25_33 (qRValid_25_35 (qRValid_25_42 nilL)))))))) := chS rfl allRValidx.1.2.1.1.1.1 chRValid_25_15
theorem chRValid_25_0 : Ch pc0 fiRValid uRValid_25 0 [] (qRValid_25_0 (qRValid_25_8 (qRValid_25_15 (qRValid_25_17 (qRValid_25_24 (qRValid_25_26 (qRValid_25_33 (qRValid_25_35 (qRValid_25_42 nilL))))))))) := chS rfl allRValidx.1.2.1.1.1.2.1 chRValid_25_8
theorem rgRValid_25 (r : R) (s : S) (tm : T) : cRValid_25.run r tm s = (qRValid_25_0 (qRValid_25_8 (qRValid_25_15 (qRValid_25_17 (qRValid_25_24 (qRValid_25_26 (qRValid_25_33 (qRValid_25_35 (qRValid_25_42 nilL))))))))).run r tm [] s := reg_run allRValidx.1.1.2.1.2.2.1 chRValid_25_0 r s tm
theorem chRValid_28_1 : Ch pc0 fiRValid uRValid_28 1 [3] nilL := chE allRValidx.1.2.1.1.2.1
theorem chRValid_28_0 : Ch pc0 fiRValid uRValid_28 0 [] (qRValid_28_0 nilL) := chS rfl allRValidx.1.2.1.1.2.2.1 chRValid_28_1
theorem rgRValid_28 (r : R) (s : S) (tm : T) : cRValid_28.run r tm s = (qRValid_28_0 nilL).run r tm [] s := reg_run allRValidx.1.2.1.1.1.2.2 chRValid_28_0 r s tm
theorem chRValid_32_1 : Ch pc0 fiRValid uRValid_32 1 [5] nilL := chE allRValidx.1.2.1.2.1.1
theorem chRValid_32_0 : Ch pc0 fiRValid uRValid_32 0 [] (qRValid_32_0 nilL) := chS rfl allRValidx.1.2.1.2.1.2.1 chRValid_32_1
theorem rgRValid_32 (r : R) (s : S) (tm : T) : cRValid_32.run r tm s = (qRValid_32_0 nilL).run r tm [] s := reg_run allRValidx.1.2.1.1.2.2.2 chRValid_32_0 r s tm
theorem chRValid_37_3 : Ch pc0 fiRValid uRValid_37 3 [65, 64, 63] nilL := chE allRValidx.1.2.1.2.2.1.1
theorem chRValid_37_0 : Ch pc0 fiRValid uRValid_37 0 [] (qRValid_37_0 nilL) := chS rfl allRValidx.1.2.1.2.2.1.2 chRValid_37_3
theorem rgRValid_37 (r : R) (s : S) (tm : T) : cRValid_37.run r tm s = (qRValid_37_0 nilL).run r tm [] s := reg_run allRValidx.1.2.1.2.1.2.2 chRValid_37_0 r s tm
theorem chRValid_44_12 : DCh pc0 fiRValid uRValid_44 12 [79, 78, 77, 76, 75, 74, 73, 72, 71, 70, 69, 68] nilL := dchE allRValidx.1.2.1.2.2.2.2
theorem chRValid_44_0 : DCh pc0 fiRValid uRValid_44 0 [] (qRValid_44_0 nilL) := dchS rfl allRValidx.1.2.2.1.1.1 chRValid_44_12
theorem rgRValid_44 (r : R) (s : S) (tm : T) : cRValid_44.run r tm s = (qRValid_44_0 nilL).run r.det tm [] s := reg_drun allRValidx.1.2.1.2.2.2.1 chRValid_44_0 r s tm
theorem chRValid_47_1 : Ch pc0 fiRValid uRValid_47 1 [3] nilL := chE allRValidx.1.2.2.1.1.2.2
theorem chRValid_47_0 : Ch pc0 fiRValid uRValid_47 0 [] (qRValid_47_0 nilL) := chS rfl allRValidx.1.2.2.1.2.1 chRValid_47_1
theorem rgRValid_47 (r : R) (s : S) (tm : T) : cRValid_47.run r tm s = (qRValid_47_0 nilL).run r tm [] s := reg_run allRValidx.1.2.2.1.1.2.1 chRValid_47_0 r s tm
theorem chRValid_50_3 : Ch pc0 fiRValid uRValid_50 3 [5, 67, 66] nilL := chE allRValidx.1.2.2.1.2.2.2
theorem chRValid_50_0 : Ch pc0 fiRValid uRValid_50 0 [] (qRValid_50_0 nilL) := chS rfl allRValidx.1.2.2.2.1.1 chRValid_50_3
theorem rgRValid_50 (r : R) (s : S) (tm : T) : cRValid_50.run r tm s = (qRValid_50_0 nilL).run r tm [] s := reg_run allRValidx.1.2.2.1.2.2.1 chRValid_50_0 r s tm
theorem chRValid_51_3 : Ch pc0 fiRValid uRValid_51 3 [4, 19, 18] nilL := chE allRValidx.1.2.2.2.1.2.2
theorem chRValid_51_0 : Ch pc0 fiRValid uRValid_51 0 [] (qRValid_51_0 nilL) := chS rfl allRValidx.1.2.2.2.2.1.1 chRValid_51_3
theorem rgRValid_51 (r : R) (s : S) (tm : T) : cRValid_51.run r tm s = (qRValid_51_0 nilL).run r tm [] s := reg_run allRValidx.1.2.2.2.1.2.1 chRValid_51_0 r s tm
theorem chRValid_53_1 : Ch pc0 fiRValid uRValid_53 1 [3] nilL := chE allRValidx.1.2.2.2.2.2.1
theorem chRValid_53_0 : Ch pc0 fiRValid uRValid_53 0 [] (qRValid_53_0 nilL) := chS rfl allRValidx.1.2.2.2.2.2.2 chRValid_53_1
theorem rgRValid_53 (r : R) (s : S) (tm : T) : cRValid_53.run r tm s = (qRValid_53_0 nilL).run r tm [] s := reg_run allRValidx.1.2.2.2.2.1.2 chRValid_53_0 r s tm
theorem szRValid_34 : sizeC uRValid_34 = 36 := allRValidx.2.1.1
theorem szRValid_14 : sizeC uRValid_14 = 109 := allRValidx.2.1.2
theorem lpRValid_34 : type_of% allRValidx.2.2.1.1 := allRValidx.2.2.1.1
theorem lpRValid_14 : type_of% allRValidx.2.2.1.2 := allRValidx.2.2.1.2
theorem allRValid : type_of% (And.intro rgRValid_1 (And.intro rgRValid_4 (And.intro rgRValid_7 (And.intro rgRValid_12 (And.intro rgRValid_17 (And.intro rgRValid_25 (And.intro rgRValid_28 (And.intro rgRValid_32 (And.intro rgRValid_37 (And.intro rgRValid_44 (And.intro rgRValid_47 (And.intro rgRValid_50 (And.intro rgRValid_51 (And.intro rgRValid_53 allRValidx.2.2.2)))))))))))))) := (And.intro rgRValid_1 (And.intro rgRValid_4 (And.intro rgRValid_7 (And.intro rgRValid_12 (And.intro rgRValid_17 (And.intro rgRValid_25 (And.intro rgRValid_28 (And.intro rgRValid_32 (And.intro rgRValid_37 (And.intro rgRValid_44 (And.intro rgRValid_47 (And.intro rgRValid_50 (And.intro rgRValid_51 (And.intro rgRValid_53 allRValidx.2.2.2))))))))))))))
/- abugida/abugidaref06.Compare: parameters 2, slots in the frame: [(0, 0), (1, 1), (2, 2), (3, 3), (4, 4), (5, 5), (6, 10), (7, 15), (8, 19), (9, 30), (10, 39)] -/
def fiCompare : FI := ⟨548681513920, 40, 4⟩
noncomputable def bodyCompare : Code := bodyOf Tryz.prog 15
noncomputable def uCompare_1 : Code := subC [0] bodyCompare
noncomputable def cCompare_1 : CoC := comp pc0 fiCompare uCompare_1
noncomputable def qCompare_1_0 : LoC → LoC := qOf pc0 fiCompare uCompare_1 0 1 []
noncomputable def uCompare_4 : Code := subC [1, 0, 0] bodyCompare
noncomputable def cCompare_4 : CoC := comp pc0 fiCompare uCompare_4
noncomputable def qCompare_4_0 : LoC → LoC := qOf pc0 fiCompare uCompare_4 0 5 []
noncomputable def uCompare_8 : Code := subC [1, 0, 1, 0, 0, 0] bodyCompare
noncomputable def cCompare_8 : CoC := comp pc0 fiCompare uCompare_8
noncomputable def qCompare_8_0 : LoC → LoC := qOf pc0 fiCompare uCompare_8 0 5 []
noncomputable def uCompare_11 : Code := subC [1, 0, 1, 0, 0, 1, 0, 0] bodyCompare
noncomputable def cCompare_11 : CoC := comp pc0 fiCompare uCompare_11
noncomputable def qCompare_11_0 : LoC → LoC := qOf pc0 fiCompare uCompare_11 0 1 []
noncomputable def uCompare_15 : Code := subC [1, 0, 1, 0, 1, 0] bodyCompare
noncomputable def cCompare_15 : CoC := comp pc0 fiCompare uCompare_15
noncomputable def qCompare_15_0 : LoC → LoC := qOf pc0 fiCompare uCompare_15 0 1 []
noncomputable def uCompare_20 : Code := subC [1, 1, 0, 0] bodyCompare
noncomputable def cCompare_20 : CoC := comp pc0 fiCompare uCompare_20
noncomputable def qCompare_20_0 : LoC → LoC := qOf pc0 fiCompare uCompare_20 0 1 []
noncomputable def uCompare_25 : Code := subC [1, 1, 0, 1, 0, 0, 0, 0] bodyCompare
noncomputable def cCompare_25 : CoC := comp pc0 fiCompare uCompare_25
noncomputable def qCompare_25_0 : LoC → LoC := qOf pc0 fiCompare uCompare_25 0 4 []
noncomputable def uCompare_33 : Code := subC [1, 1, 0, 1, 0, 0, 1, 0, 0, 0, 0] bodyCompare
noncomputable def cCompare_33 : CoC := comp pc0 fiCompare uCompare_33
noncomputable def qCompare_33_0 : LoC → LoC := dqOf pc0 fiCompare uCompare_33 0 9 []
noncomputable def uCompare_36 : Code := subC [1, 1, 0, 1, 0, 0, 1, 0, 0, 0, 1, 0, 0] bodyCompare
noncomputable def cCompare_36 : CoC := comp pc0 fiCompare uCompare_36
noncomputable def qCompare_36_0 : LoC → LoC := qOf pc0 fiCompare uCompare_36 0 1 []
noncomputable def uCompare_40 : Code := subC [1, 1, 0, 1, 0, 0, 1, 0, 0, 1, 0] bodyCompare
noncomputable def cCompare_40 : CoC := comp pc0 fiCompare uCompare_40
noncomputable def qCompare_40_0 : LoC → LoC := dqOf pc0 fiCompare uCompare_40 0 9 []
noncomputable def uCompare_43 : Code := subC [1, 1, 0, 1, 0, 0, 1, 0, 0, 1, 1, 0, 0] bodyCompare
noncomputable def cCompare_43 : CoC := comp pc0 fiCompare uCompare_43
noncomputable def qCompare_43_0 : LoC → LoC := qOf pc0 fiCompare uCompare_43 0 1 []
noncomputable def uCompare_46 : Code := subC [1, 1, 0, 1, 0, 0, 1, 1] bodyCompare
noncomputable def cCompare_46 : CoC := comp pc0 fiCompare uCompare_46
noncomputable def qCompare_46_0 : LoC → LoC := qOf pc0 fiCompare uCompare_46 0 3 []
noncomputable def uCompare_22 : Code := subC [1, 1, 0, 1, 0] bodyCompare
noncomputable def cCompare_22 : CoC := comp pc0 fiCompare uCompare_22
noncomputable def uCompare_48 : Code := subC [1, 1, 1, 0] bodyCompare
noncomputable def cCompare_48 : CoC := comp pc0 fiCompare uCompare_48
noncomputable def qCompare_48_0 : LoC → LoC := qOf pc0 fiCompare uCompare_48 0 1 []
noncomputable def cCompare_0 : CoC := comp pc0 fiCompare bodyCompare
noncomputable def finCompare : T → S → A := finN (resC pc0 fiCompare (resOf Tryz.prog 15)).run
theorem allComparex :
  ((((((regPlain uCompare_1 = true ∧
  ((regOps uCompare_1).drop 1).isEmpty = true) ∧
  (pushes (((regOps uCompare_1).drop 0).take 1) [] = [5] ∧
  regPlain uCompare_4 = true)) ∧
  ((((regOps uCompare_4).drop 5).isEmpty = true ∧
  pushes (((regOps uCompare_4).drop 0).take 5) [] = [11, 10, 9, 8, 7]) ∧
  (regPlain uCompare_8 = true ∧
  (((regOps uCompare_8).drop 5).isEmpty = true ∧
  pushes (((regOps uCompare_8).drop 0).take 5) [] = [16, 15, 14, 13, 12])))) ∧
  (((regPlain uCompare_11 = true ∧
  ((regOps uCompare_11).drop 1).isEmpty = true) ∧
  (pushes (((regOps uCompare_11).drop 0).take 1) [] = [5] ∧
  (regPlain uCompare_15 = true ∧
  ((regOps uCompare_15).drop 1).isEmpty = true))) ∧
  ((pushes (((regOps uCompare_15).drop 0).take 1) [] = [5] ∧
  regPlain uCompare_20 = true) ∧
  (((regOps uCompare_20).drop 1).isEmpty = true ∧
  (pushes (((regOps uCompare_20).drop 0).take 1) [] = [6] ∧
  regPlain uCompare_25 = true))))) ∧
  ((((((regOps uCompare_25).drop 4).isEmpty = true ∧
  pushes (((regOps uCompare_25).drop 0).take 4) [] = [20, 19, 18, 17]) ∧
  (regDraw pc0.mixed uCompare_33 = true ∧
  (((drawSteps (regOps uCompare_33)).drop 9).isEmpty = true ∧
  dpushes (regOps uCompare_33) (((drawSteps (regOps uCompare_33)).drop 0).take 9) [] = [31, 30, 29, 28, 27, 26, 25, 24, 23]))) ∧
  ((regPlain uCompare_36 = true ∧
  ((regOps uCompare_36).drop 1).isEmpty = true) ∧
  (pushes (((regOps uCompare_36).drop 0).take 1) [] = [5] ∧
  (regDraw pc0.mixed uCompare_40 = true ∧
  ((drawSteps (regOps uCompare_40)).drop 9).isEmpty = true)))) ∧
  (((dpushes (regOps uCompare_40) (((drawSteps (regOps uCompare_40)).drop 0).take 9) [] = [40, 39, 38, 37, 36, 35, 34, 33, 32] ∧
  regPlain uCompare_43 = true) ∧
  (((regOps uCompare_43).drop 1).isEmpty = true ∧
  (pushes (((regOps uCompare_43).drop 0).take 1) [] = [5] ∧
  regPlain uCompare_46 = true))) ∧
  ((((regOps uCompare_46).drop 3).isEmpty = true ∧
  pushes (((regOps uCompare_46).drop 0).take 3) [] = [6, 22, 21]) ∧
  (regPlain uCompare_48 = true ∧
  (((regOps uCompare_48).drop 1).isEmpty = true ∧
  pushes (((regOps uCompare_48).drop 0).take 1) [] = [5]))))))) ∧ (sizeC uCompare_22 = 52) ∧ ((∀ (r : R) (s : S) (tm : T), cCompare_22.run r tm s = seqA (fun tm s => r.code fiCompare uCompare_22 tm s) (seqA (fun tm s => seqA (fun tm s => cCompare_46.run r tm s) (blockA 1 (seqA (fun tm s => seqA (fun tm s => condV (gp 10 tm) (seqA (fun tm s => .ret tm s) (cCompare_43.run r tm s)) (.nrm tm s)) (cCompare_40.run r tm s)) (seqA (fun tm s => condV (gp 9 tm) (seqA (fun tm s => .ret tm s) (cCompare_36.run r tm s)) (.nrm tm s)) (cCompare_33.run r tm s))))) (seqA (fun tm s => condV (gp 8 tm) (.nrm tm s) (.ext 0 tm s)) (cCompare_25.run r tm s))))) ∧ ((((((∀ (r : R) (s : S) (x0 x1 : V), (fnC pc0 15).run r [x0, x1] s = outF (bindR (fun tm s => finCompare tm s) (cCompare_0.run r (sp 1 x1 (sp 0 x0 T.new)) s))) ∧
  (∀ (s : S) (tm : T), finCompare tm s = finV (gp 240 tm) (resV [(gp 4 tm)] s))) ∧
  ((∀ (r : R) (s : S) (tm : T), cCompare_0.run r tm s = seqA (fun tm s => seqA (fun tm s => seqA (fun tm s => seqA (fun tm s => .ret tm s) (cCompare_48.run r tm s)) (seqA (fun tm s => blockA 0 (cCompare_22.run r tm s)) (cCompare_20.run r tm s))) (seqA (fun tm s => condV (gp 6 tm) (seqA (fun tm s => seqA (fun tm s => .ret tm s) (cCompare_15.run r tm s)) (seqA (fun tm s => condV (gp 7 tm) (seqA (fun tm s => .ret tm s) (cCompare_11.run r tm s)) (.nrm tm s)) (cCompare_8.run r tm s))) (.nrm tm s)) (cCompare_4.run r tm s))) (cCompare_1.run r tm s)) ∧
  (∀ (g : LoC) (r : R) (s : S) (tm : T) (le : List V), (qCompare_1_0 g).run r tm (le) s = g.run r (sp 4 (V.nat .i64 0) tm) ((V.nat .i64 0) :: le) s))) ∧
  (((∀ (g : LoC) (r : R) (s : S) (tm : T) (le : List V), (qCompare_4_0 g).run r tm (le) s = xLenS (gp 0 tm) fun v1 => xLenS (gp 1 tm) fun v3 => xBin ⟨7, []⟩ false .neq v1 v3 fun v4 => g.run r (sp 6 v4 tm) (v4 :: v3 :: (gp 1 tm) :: v1 :: (gp 0 tm) :: le) s) ∧
  (∀ (g : LoC) (r : R) (s : S) (tm : T) (le : List V), (qCompare_8_0 g).run r tm (le) s = xLenS (gp 0 tm) fun v1 => xLenS (gp 1 tm) fun v3 => xBin ⟨9, []⟩ false .lss v1 v3 fun v4 => g.run r (sp 7 v4 tm) (v4 :: v3 :: (gp 1 tm) :: v1 :: (gp 0 tm) :: le) s)) ∧
  ((∀ (g : LoC) (r : R) (s : S) (tm : T) (le : List V), (qCompare_11_0 g).run r tm (le) s = g.run r (sp 4 (V.neg .i64 0) tm) ((V.neg .i64 0) :: le) s) ∧
  (∀ (g : LoC) (r : R) (s : S) (tm : T) (le : List V), (qCompare_15_0 g).run r tm (le) s = g.run r (sp 4 (V.nat .i64 1) tm) ((V.nat .i64 1) :: le) s)))) ∧
  ((((∀ (g : LoC) (r : R) (s : S) (tm : T) (le : List V), (qCompare_20_0 g).run r tm (le) s = g.run r (sp 5 (V.nat .i64 0) tm) ((V.nat .i64 0) :: le) s) ∧
  (∀ (g : LoC) (r : R) (s : S) (tm : T) (le : List V), (qCompare_25_0 g).run r tm (le) s = xLenS (gp 0 tm) fun v2 => xBin ⟨9, []⟩ false .lss (gp 5 tm) v2 fun v3 => g.run r (sp 8 v3 tm) (v3 :: v2 :: (gp 0 tm) :: (gp 5 tm) :: le) s)) ∧
  ((∀ (g : LoC) (r : R) (s : S) (tm : T) (le : List V), (qCompare_33_0 g).run r tm (le) s = xIdxAddrS 1 (gp 0 tm) (gp 5 tm) fun v2 => xLoad false 1 v2 s fun v3 s => xIdxAddrS 1 (gp 1 tm) (gp 5 tm) fun v6 => xLoad false 1 v6 s fun v7 s => xBin ⟨9, []⟩ false .lss v3 v7 fun v8 => g.run r (sp 9 v8 tm) (v8 :: v7 :: v6 :: (gp 5 tm) :: (gp 1 tm) :: v3 :: v2 :: (gp 5 tm) :: (gp 0 tm) :: le) s) ∧
  (∀ (g : LoC) (r : R) (s : S) (tm : T) (le : List V), (qCompare_36_0 g).run r tm (le) s = g.run r (sp 4 (V.neg .i64 0) tm) ((V.neg .i64 0) :: le) s))) ∧
  (((∀ (g : LoC) (r : R) (s : S) (tm : T) (le : List V), (qCompare_40_0 g).run r tm (le) s = xIdxAddrS 1 (gp 0 tm) (gp 5 tm) fun v2 => xLoad false 1 v2 s fun v3 s => xIdxAddrS 1 (gp 1 tm) (gp 5 tm) fun v6 => xLoad false 1 v6 s fun v7 s => xBin ⟨9, []⟩ false .gtr v3 v7 fun v8 => g.run r (sp 10 v8 tm) (v8 :: v7 :: v6 :: (gp 5 tm) :: (gp 1 tm) :: v3 :: v2 :: (gp 5 tm) :: (gp 0 tm) :: le) s) ∧
  (∀ (g : LoC) (r : R) (s : S) (tm : T) (le : List V), (qCompare_43_0 g).run r tm (le) s = g.run r (sp 4 (V.nat .i64 1) tm) ((V.nat .i64 1) :: le) s)) ∧
  ((∀ (g : LoC) (r : R) (s : S) (tm : T) (le : List V), (qCompare_46_0 g).run r tm (le) s = xBin ⟨9, []⟩ false .add (gp 5 tm) (V.nat .i64 1) fun v1 => g.run r (sp 5 v1 tm) (v1 :: v1 :: (gp 5 tm) :: le) s) ∧
  (∀ (g : LoC) (r : R) (s : S) (tm : T) (le : List V), (qCompare_48_0 g).run r tm (le) s = g.run r (sp 4 (V.nat .i64 0) tm) ((V.nat .i64 0) :: le) s)))))) := by
  and_intros <;> first | trivial | (intros; kernel_rfl)
theorem chCompare_1_1 : Ch pc0 fiCompare uCompare_1 1 [5] nilL := chE allComparex.1.1.1.1.1.2
theorem chCompare_1_0 : Ch pc0 fiCompare uCompare_1 0 [] (qCompare_1_0 nilL) := chS rfl allComparex.1.1.1.1.2.1 chCompare_1_1
theorem rgCompare_1 (r : R) (s : S) (tm : T) : cCompare_1.run r tm s = (qCompare_1_0 nilL).run r tm [] s := reg_run allComparex.1.1.1.1.1.1 chCompare_1_0 r s tm
theorem chCompare_4_5 : Ch pc0 fiCompare uCompare_4 5 [11, 10, 9, 8, 7] nilL := chE allComparex.1.1.1.2.1.1
theorem chCompare_4_0 : Ch pc0 fiCompare uCompare_4 0 [] (qCompare_4_0 nilL) := chS rfl allComparex.1.1.1.2.1.2 chCompare_4_5
theorem rgCompare_4 (r : R) (s : S) (tm : T) : cCompare_4.run r tm s = (qCompare_4_0 nilL).run r tm [] s := reg_run allComparex.1.1.1.1.2.2 chCompare_4_0 r s tm
theorem chCompare_8_5 : Ch pc0 fiCompare uCompare_8 5 [16, 15, 14, 13, 12] nilL := chE allComparex.1.1.1.2.2.2.1
theorem chCompare_8_0 : Ch pc0 fiCompare uCompare_8 0 [] (qCompare_8_0 nilL) := chS rfl allComparex.1.1.1.2.2.2.2 chCompare_8_5
theorem rgCompare_8 (r : R) (s : S) (tm : T) : cCompare_8.run r tm s = (qCompare_8_0 nilL).run r tm [] s := reg_run allComparex.1.1.1.2.2.1 chCompare_8_0 r s tm
theorem chCompare_11_1 : Ch pc0 fiCompare uCompare_11 1 [5] nilL := chE allComparex.1.1.2.1.1.2
theorem chCompare_11_0 : Ch pc0 fiCompare uCompare_11 0 [] (qCompare_11_0 nilL) := chS rfl allComparex.1.1.2.1.2.1 chCompare_11_1
theorem rgCompare_11 (r : R) (s : S) (tm : T) : cCompare_11.run r tm s = (qCompare_11_0 nilL).run r tm [] s := reg_run allComparex.1.1.2.1.1.1 chCompare_11_0 r s tm
theorem chCompare_15_1 : Ch pc0 fiCompare uCompare_15 1 [5] nilL := chE allComparex.1.1.2.1.2.2.2
theorem chCompare_15_0 : Ch pc0 fiCompare uCompare_15 0 [] (qCompare_15_0 nilL) := chS rfl allComparex.1.1.2.2.1.1 chCompare_15_1
theorem rgCompare_15 (r : R) (s : S) (tm : T) : cCompare_15.run r tm s = (qCompare_15_0 nilL).run r tm [] s := reg_run allComparex.1.1.2.1.2.2.1 chCompare_15_0 r s tm
theorem chCompare_20_1 : Ch pc0 fiCompare uCompare_20 1 [6] nilL := chE allComparex.1.1.2.2.2.1
theorem chCompare_20_0 : Ch pc0 fiCompare uCompare_20 0 [] (qCompare_20_0 nilL) := chS rfl allComparex.1.1.2.2.2.2.1 chCompare_20_1
theorem rgCompare_20 (r : R) (s : S) (tm : T) : cCompare_20.run r tm s = (qCompare_20_0 nilL).run r tm [] s := reg_run allComparex.1.1.2.2.1.2 chCompare_20_0 r s tm
theorem chCompare_25_4 : Ch pc0 fiCompare uCompare_25 4 [20, 19, 18, 17] nilL := chE allComparex.1.2.1.1.1.1
theorem chCompare_25_0 : Ch pc0 fiCompare uCompare_25 0 [] (qCompare_25_0 nilL) := chS rfl allComparex.1.2.1.1.1.2 chCompare_25_4
theorem rgCompare_25 (r : R) (s : S) (tm : T) : cCompare_25.run r tm s = (qCompare_25_0 nilL).run r tm [] s := reg_run allComparex.1.1.2.2.2.2.2 chCompare_25_0 r s tm
theorem chCompare_33_9 : DCh pc0 fiCompare uCompare_33 9 [31, 30, 29, 28, 27, 26, 25, 24, 23] nilL := dchE allComparex.1.2.1.1.2.2.1
theorem chCompare_33_0 : DCh pc0 fiCompare uCompare_33 0 [] (qCompare_33_0 nilL) := dchS rfl allComparex.1.2.1.1.2.2.2 chCompare_33_9
theorem rgCompare_33 (r : R) (s : S) (tm : T) : cCompare_33.run r tm s = (qCompare_33_0 nilL).run r.det tm [] s := reg_drun allComparex.1.2.1.1.2.1 chCompare_33_0 r s tm
theorem chCompare_36_1 : Ch pc0 fiCompare uCompare_36 1 [5] nilL := chE allComparex.1.2.1.2.1.2
theorem chCompare_36_0 : Ch pc0 fiCompare uCompare_36 0 [] (qCompare_36_0 nilL) := chS rfl allComparex.1.2.1.2.2.1 chCompare_36_1
theorem rgCompare_36 (r : R) (s : S) (tm : T) : cCompare_36.run r tm s = (qCompare_36_0 nilL).run r tm [] s := reg_run allComparex.1.2.1.2.1.1 chCompare_36_0 r s tm
theorem chCompare_40_9 : DCh pc0 fiCompare uCompare_40 9 [40, 39, 38, 37, 36, 35, 34, 33, 32] nilL := dchE allComparex.1.2.1.2.2.2.2
theorem chCompare_40_0 : DCh pc0 fiCompare uCompare_40 0 [] (qCompare_40_0 nilL) := dchS rfl allComparex.1.2.2.1.1.1 chCompare_40_9
theorem rgCompare_40 (r : R) (s : S) (tm : T) : cCompare_40.run r tm s = (qCompare_40_0 nilL).run r.det tm [] s := reg_drun allComparex.1.2.1.2.2.2.1 chCompare_40_0 r s tm
theorem chCompare_43_1 : Ch pc0 fiCompare uCompare_43 1 [5] nilL := chE allComparex.1.2.2.1.2.1
theorem chCompare_43_0 : Ch pc0 fiCompare uCompare_43 0 [] (qCompare_43_0 nilL) := chS rfl allComparex.1.2.2.1.2.2.1 chCompare_43_1
theorem rgCompare_43 (r : R) (s : S) (tm : T) : cCompare_43.run r tm s = (qCompare_43_0 nilL).run r tm [] s := reg_run allComparex.1.2.2.1.1.2 chCompare_43_0 r s tm
theorem chCompare_46_3 : Ch pc0 fiCompare uCompare_46 3 [6, 22, 21] nilL := chE allComparex.1.2.2.2.1.1
theorem chCompare_46_0 : Ch pc0 fiCompare uCompare_46 0 [] (qCompare_46_0 nilL) := chS rfl allComparex.1.2.2.2.1.2 chCompare_46_3
theorem rgCompare_46 (r : R) (s : S) (tm : T) : cCompare_46.run r tm s = (qCompare_46_0 nilL).run r tm [] s := reg_run allComparex.1.2.2.1.2.2.2 chCompare_46_0 r s tm
theorem chCompare_48_1 : Ch pc0 fiCompare uCompare_48 1 [5] nilL := chE allComparex.1.2.2.2.2.2.1
theorem chCompare_48_0 : Ch pc0 fiCompare uCompare_48 0 [] (qCompare_48_0 nilL) := chS rfl allComparex.1.2.2.2.2.2.2 chCompare_48_1
theorem rgCompare_48 (r : R) (s : S) (tm : T) : cCompare_48.run r tm s = (qCompare_48_0 nilL).run r tm [] s := reg_run allComparex.1.2.2.2.2.1 chCompare_48_0 r s tm
theorem szCompare_22 : sizeC uCompare_22 = 52 := allComparex.2.1
theorem lpCompare_22 : type_of% allComparex.2.2.1 := allComparex.2.2.1
theorem allCompare : type_of% (And.intro rgCompare_1 (And.intro rgCompare_4 (And.intro rgCompare_8 (And.intro rgCompare_11 (And.intro rgCompare_15 (And.intro rgCompare_20 (And.intro rgCompare_25 (And.intro rgCompare_33 (And.intro rgCompare_36 (And.intro rgCompare_40 (And.intro rgCompare_43 (And.intro rgCompare_46 (And.intro rgCompare_48 allComparex.2.2.2))))))))))))) := (And.intro rgCompare_1 (And.intro rgCompare_4 (And.intro rgCompare_8 (And.intro rgCompare_11 (And.intro rgCompare_15 (And.intro rgCompare_20 (And.intro rgCompare_25 (And.intro rgCompare_33 (And.intro rgCompare_36 (And.intro rgCompare_40 (And.intro rgCompare_43 (And.intro rgCompare_46 (And.intro rgCompare_48 allComparex.2.2.2)))))))))))))
/- abugida/abugidaref06.Word: parameters 1, slots in the frame: [(0, 0), (1, 1), (2, 2), (3, 3), (4, 6), (5, 10), (6, 24)] -/
def fiRWord : FI := ⟨16776112, 25, 4⟩
noncomputable def bodyRWord : Code := bodyOf Tryz.prog 17
noncomputable def uRWord_1 : Code := subC [0] bodyRWord
noncomputable def cRWord_1 : CoC := comp pc0 fiRWord uRWord_1
noncomputable def qRWord_1_0 : LoC → LoC := qOf pc0 fiRWord uRWord_1 0 1 []
noncomputable def uRWord_4 : Code := subC [1, 0, 0] bodyRWord
noncomputable def cRWord_4 : CoC := comp pc0 fiRWord uRWord_4
noncomputable def qRWord_4_0 : LoC → LoC := qOf pc0 fiRWord uRWord_4 0 3 []
noncomputable def uRWord_7 : Code := subC [1, 0, 1, 0, 0] bodyRWord
noncomputable def cRWord_7 : CoC := comp pc0 fiRWord uRWord_7
noncomputable def qRWord_7_0 : LoC → LoC := qOf pc0 fiRWord uRWord_7 0 1 []
noncomputable def uRWord_12 : Code := subC [1, 1, 0, 0] bodyRWord
noncomputable def cRWord_12 : CoC := comp pc0 fiRWord uRWord_12
noncomputable def qRWord_12_0 : LoC → LoC := qOf pc0 fiRWord uRWord_12 0 1 []
noncomputable def uRWord_17 : Code := subC [1, 1, 0, 1, 0, 0, 0, 0] bodyRWord
noncomputable def cRWord_17 : CoC := comp pc0 fiRWord uRWord_17
noncomputable def qRWord_17_0 : LoC → LoC := qOf pc0 fiRWord uRWord_17 0 4 []
noncomputable def uRWord_24 : Code := subC [1, 1, 0, 1, 0, 0, 1, 0, 0, 0] bodyRWord
noncomputable def cRWord_24 : CoC := comp pc0 fiRWord uRWord_24
noncomputable def qRWord_24_11 : LoC → LoC := qOf pc0 fiRWord uRWord_24 11 1 [24, 23, 22, 21, 20, 19, 18, 17, 16, 15, 14]
noncomputable def qRWord_24_6 : LoC → LoC := qOf pc0 fiRWord uRWord_24 6 5 [19, 18, 17, 16, 15, 14]
noncomputable def qRWord_24_0 : LoC → LoC := qOf pc0 fiRWord uRWord_24 0 6 []
noncomputable def uRWord_27 : Code := subC [1, 1, 0, 1, 0, 0, 1, 0, 0, 1, 0, 0] bodyRWord
noncomputable def cRWord_27 : CoC := comp pc0 fiRWord uRWord_27
noncomputable def qRWord_27_0 : LoC → LoC := qOf pc0 fiRWord uRWord_27 0 1 []
noncomputable def uRWord_30 : Code := subC [1, 1, 0, 1, 0, 0, 1, 1] bodyRWord
noncomputable def cRWord_30 : CoC := comp pc0 fiRWord uRWord_30
noncomputable def qRWord_30_0 : LoC → LoC := qOf pc0 fiRWord uRWord_30 0 3 []
noncomputable def uRWord_14 : Code := subC [1, 1, 0, 1, 0] bodyRWord
noncomputable def cRWord_14 : CoC := comp pc0 fiRWord uRWord_14
noncomputable def uRWord_32 : Code := subC [1, 1, 1, 0] bodyRWord
noncomputable def cRWord_32 : CoC := comp pc0 fiRWord uRWord_32
noncomputable def qRWord_32_0 : LoC → LoC := qOf pc0 fiRWord uRWord_32 0 1 []
noncomputable def cRWord_0 : CoC := comp pc0 fiRWord bodyRWord
noncomputable def finRWord : T → S → A := finN (resC pc0 fiRWord (resOf Tryz.prog 17)).run
theorem allRWordx :
  (((((regPlain uRWord_1 = true ∧
  (((regOps uRWord_1).drop 1).isEmpty = true ∧
  pushes (((regOps uRWord_1).drop 0).take 1) [] = [3])) ∧
  ((regPlain uRWord_4 = true ∧
  ((regOps uRWord_4).drop 3).isEmpty = true) ∧
  (pushes (((regOps uRWord_4).drop 0).take 3) [] = [7, 6, 5] ∧
  regPlain uRWord_7 = true))) ∧
  ((((regOps uRWord_7).drop 1).isEmpty = true ∧
  (pushes (((regOps uRWord_7).drop 0).take 1) [] = [3] ∧
  regPlain uRWord_12 = true)) ∧
  ((((regOps uRWord_12).drop 1).isEmpty = true ∧
  pushes (((regOps uRWord_12).drop 0).take 1) [] = [4]) ∧
  (regPlain uRWord_17 = true ∧
  ((regOps uRWord_17).drop 4).isEmpty = true)))) ∧
  (((pushes (((regOps uRWord_17).drop 0).take 4) [] = [11, 10, 9, 8] ∧
  (regPlain uRWord_24 = true ∧
  ((regOps uRWord_24).drop 12).isEmpty = true)) ∧
  ((pushes (((regOps uRWord_24).drop 11).take 1) [24, 23, 22, 21, 20, 19, 18, 17, 16, 15, 14] = [25, 24, 23, 22, 21, 20, 19, 18, 17, 16, 15, 14] ∧
  pushes (((regOps uRWord_24).drop 6).take 5) [19, 18, 17, 16, 15, 14] = [24, 23, 22, 21, 20, 19, 18, 17, 16, 15, 14]) ∧
  (pushes (((regOps uRWord_24).drop 0).take 6) [] = [19, 18, 17, 16, 15, 14] ∧
  regPlain uRWord_27 = true))) ∧
  (((((regOps uRWord_27).drop 1).isEmpty = true ∧
  pushes (((regOps uRWord_27).drop 0).take 1) [] = [3]) ∧
  (regPlain uRWord_30 = true ∧
  ((regOps uRWord_30).drop 3).isEmpty = true)) ∧
  ((pushes (((regOps uRWord_30).drop 0).take 3) [] = [4, 13, 12] ∧
  regPlain uRWord_32 = true) ∧
  (((regOps uRWord_32).drop 1).isEmpty = true ∧
  pushes (((regOps uRWord_32).drop 0).take 1) [] = [3])))))) ∧ (sizeC uRWord_14 = 37) ∧ ((∀ (r : R) (s : S) (tm : T), cRWord_14.run r tm s = seqA (fun tm s => r.code fiRWord uRWord_14 tm s) (seqA (fun tm s => seqA (fun tm s => cRWord_30.run r tm s) (blockA 1 (seqA (fun tm s => condV (gp 6 tm) (seqA (fun tm s => .ret tm s) (cRWord_27.run r tm s)) (.nrm tm s)) (cRWord_24.run r tm s)))) (seqA (fun tm s => condV (gp 5 tm) (.nrm tm s) (.ext 0 tm s)) (cRWord_17.run r tm s))))) ∧ (((((∀ (r : R) (s : S) (x0 : V), (fnC pc0 17).run r [x0] s = outF (bindR (fun tm s => finRWord tm s) (cRWord_0.run r (sp 0 x0 T.new) s))) ∧
  ((∀ (s : S) (tm : T), finRWord tm s = finV (gp 240 tm) (resV [(gp 2 tm)] s)) ∧
  (∀ (r : R) (s : S) (tm : T), cRWord_0.run r tm s = seqA (fun tm s => seqA (fun tm s => seqA (fun tm s => seqA (fun tm s => .ret tm s) (cRWord_32.run r tm s)) (seqA (fun tm s => blockA 0 (cRWord_14.run r tm s)) (cRWord_12.run r tm s))) (seqA (fun tm s => condV (gp 4 tm) (seqA (fun tm s => .ret tm s) (cRWord_7.run r tm s)) (.nrm tm s)) (cRWord_4.run r tm s))) (cRWord_1.run r tm s)))) ∧
  (((∀ (g : LoC) (r : R) (s : S) (tm : T) (le : List V), (qRWord_1_0 g).run r tm (le) s = g.run r (sp 2 (V.bool false) tm) ((V.bool false) :: le) s) ∧
  (∀ (g : LoC) (r : R) (s : S) (tm : T) (le : List V), (qRWord_4_0 g).run r tm (le) s = xLenS (gp 0 tm) fun v1 => xBin ⟨9, []⟩ false .gtr v1 (V.nat .i64 200) fun v2 => g.run r (sp 4 v2 tm) (v2 :: v1 :: (gp 0 tm) :: le) s)) ∧
  ((∀ (g : LoC) (r : R) (s : S) (tm : T) (le : List V), (qRWord_7_0 g).run r tm (le) s = g.run r (sp 2 (V.bool false) tm) ((V.bool false) :: le) s) ∧
  (∀ (g : LoC) (r : R) (s : S) (tm : T) (le : List V), (qRWord_12_0 g).run r tm (le) s = g.run r (sp 3 (V.nat .i64 0) tm) ((V.nat .i64 0) :: le) s)))) ∧
  ((((∀ (g : LoC) (r : R) (s : S) (tm : T) (le : List V), (qRWord_17_0 g).run r tm (le) s = xLenS (gp 0 tm) fun v2 => xBin ⟨9, []⟩ false .lss (gp 3 tm) v2 fun v3 => g.run r (sp 5 v3 tm) (v3 :: v2 :: (gp 0 tm) :: (gp 3 tm) :: le) s) ∧
  (∀ (g : LoC) (r : R) (s : S) (tm : T) (le : List V), (qRWord_24_0 g).run r tm (le) s = xIdxAddrS 1 (gp 0 tm) (gp 3 tm) fun v2 => xLoad false 1 v2 s fun v3 s => xBin ⟨9, []⟩ false .lss v3 (V.nat .i64 1) fun v4 => g.run r tm (v4 :: v4 :: v3 :: v2 :: (gp 3 tm) :: (gp 0 tm) :: le) s)) ∧
  ((∀ (g : LoC) (r : R) (s : S) (tm : T) (le : List V), (qRWord_24_6 g).run r tm ((.bool true) :: le) s = g.run r tm (Go.Ev.undef :: Go.Ev.undef :: Go.Ev.undef :: Go.Ev.undef :: Go.Ev.undef :: (.bool true) :: le) s) ∧
  (∀ (g : LoC) (r : R) (s : S) (tm : T) (le : List V), (qRWord_24_6 g).run r tm ((.bool false) :: le) s = xIdxAddrS 1 (gp 0 tm) (gp 3 tm) fun v8 => xLoad false 1 v8 s fun v9 s => xBin ⟨9, []⟩ false .gtr v9 (V.nat .i64 500) fun v10 => g.run r tm (v10 :: v9 :: v8 :: (gp 3 tm) :: (gp 0 tm) :: (.bool false) :: le) s))) ∧
  (((∀ (g : LoC) (r : R) (s : S) (tm : T) (le : List V) (x0_ x1_ x2_ x3_ x4_ x5_ : V), (qRWord_24_11 g).run r tm (x0_ :: x1_ :: x2_ :: x3_ :: x4_ :: x5_ :: le) s = xPick x5_ (fun _ => g.run r (sp 6 (V.bool true) tm) ((V.bool true) :: x0_ :: x1_ :: x2_ :: x3_ :: x4_ :: x5_ :: le) s) (fun _ => g.run r (sp 6 x0_ tm) (x0_ :: x0_ :: x1_ :: x2_ :: x3_ :: x4_ :: x5_ :: le) s)) ∧
  (∀ (g : LoC) (r : R) (s : S) (tm : T) (le : List V), (qRWord_27_0 g).run r tm (le) s = g.run r (sp 2 (V.bool false) tm) ((V.bool false) :: le) s)) ∧
  ((∀ (g : LoC) (r : R) (s : S) (tm : T) (le : List V), (qRWord_30_0 g).run r tm (le) s = xBin ⟨9, []⟩ false .add (gp 3 tm) (V.nat .i64 1) fun v1 => g.run r (sp 3 v1 tm) (v1 :: v1 :: (gp 3 tm) :: le) s) ∧
  (∀ (g : LoC) (r : R) (s : S) (tm : T) (le : List V), (qRWord_32_0 g).run r tm (le) s = g.run r (sp 2 (V.bool true) tm) ((V.bool true) :: le) s)))))) := by
  and_intros <;> first | trivial | (intros; kernel_rfl)
theorem chRWord_1_1 : Ch pc0 fiRWord uRWord_1 1 [3] nilL := chE allRWordx.1.1.1.1.2.1
theorem chRWord_1_0 : Ch pc0 fiRWord uRWord_1 0 [] (qRWord_1_0 nilL) := chS rfl allRWordx.1.1.1.1.2.2 chRWord_1_1
theorem rgRWord_1 (r : R) (s : S) (tm : T) : cRWord_1.run r tm s = (qRWord_1_0 nilL).run r tm [] s := reg_run allRWordx.1.1.1.1.1 chRWord_1_0 r s tm
theorem chRWord_4_3 : Ch pc0 fiRWord uRWord_4 3 [7, 6, 5] nilL := chE allRWordx.1.1.1.2.1.2
theorem chRWord_4_0 : Ch pc0 fiRWord uRWord_4 0 [] (qRWord_4_0 nilL) := chS rfl allRWordx.1.1.1.2.2.1 chRWord_4_3
theorem rgRWord_4 (r : R) (s : S) (tm : T) : cRWord_4.run r tm s = (qRWord_4_0 nilL).run r tm [] s := reg_run allRWordx.1.1.1.2.1.1 chRWord_4_0 r s tm
theorem chRWord_7_1 : Ch pc0 fiRWord uRWord_7 1 [3] nilL := chE allRWordx.1.1.2.1.1
theorem chRWord_7_0 : Ch pc0 fiRWord uRWord_7 0 [] (qRWord_7_0 nilL) := chS rfl allRWordx.1.1.2.1.2.1 chRWord_7_1
theorem rgRWord_7 (r : R) (s : S) (tm : T) : cRWord_7.run r tm s = (qRWord_7_0 nilL).run r tm [] s := reg_run allRWordx.1.1.1.2.2.2 chRWord_7_0 r s tm
theorem chRWord_12_1 : Ch pc0 fiRWord uRWord_12 1 [4] nilL := chE allRWordx.1.1.2.2.1.1
theorem chRWord_12_0 : Ch pc0 fiRWord uRWord_12 0 [] (qRWord_12_0 nilL) := chS rfl allRWordx.1.1.2.2.1.2 chRWord_12_1
theorem rgRWord_12 (r : R) (s : S) (tm : T) : cRWord_12.run r tm s = (qRWord_12_0 nilL).run r tm [] s := reg_run allRWordx.1.1.2.1.2.2 chRWord_12_0 r s tm
theorem chRWord_17_4 : Ch pc0 fiRWord uRWord_17 4 [11, 10, 9, 8] nilL := chE allRWordx.1.1.2.2.2.2
theorem chRWord_17_0 : Ch pc0 fiRWord uRWord_17 0 [] (qRWord_17_0 nilL) := chS rfl allRWordx.1.2.1.1.1 chRWord_17_4
theorem rgRWord_17 (r : R) (s : S) (tm : T) : cRWord_17.run r tm s = (qRWord_17_0 nilL).run r tm [] s := reg_run allRWordx.1.1.2.2.2.1 chRWord_17_0 r s tm
theorem chRWord_24_12 : Ch pc0 fiRWord uRWord_24 12 [25, 24, 23, 22, 21, 20, 19, 18, 17, 16, 15, 14] nilL := chE allRWordx.1.2.1.1.2.2
theorem chRWord_24_11 : Ch pc0 fiRWord uRWord_24 11 [24, 23, 22, 21, 20, 19, 18, 17, 16, 15, 14] (qRWord_24_11 nilL) := chS rfl allRWordx.1.2.1.2.1.1 chRWord_24_12
theorem chRWord_24_6 : Ch pc0 fiRWord uRWord_24 6 [19, 18, 17, 16, 15, 14] (qRWord_24_6 (qRWord_24_11 nilL)) := chS rfl allRWordx.1.2.1.2.1.2 chRWord_24_11
theorem chRWord_24_0 : Ch pc0 fiRWord uRWord_24 0 [] (qRWord_24_0 (qRWord_24_6 (qRWord_24_11 nilL))) := chS rfl allRWordx.1.2.1.2.2.1 chRWord_24_6
theorem rgRWord_24 (r : R) (s : S) (tm : T) : cRWord_24.run r tm s = (qRWord_24_0 (qRWord_24_6 (qRWord_24_11 nilL))).run r tm [] s := reg_run allRWordx.1.2.1.1.2.1 chRWord_24_0 r s tm
theorem chRWord_27_1 : Ch pc0 fiRWord uRWord_27 1 [3] nilL := chE allRWordx.1.2.2.1.1.1
theorem chRWord_27_0 : Ch pc0 fiRWord uRWord_27 0 [] (qRWord_27_0 nilL) := chS rfl allRWordx.1.2.2.1.1.2 chRWord_27_1
theorem rgRWord_27 (r : R) (s : S) (tm : T) : cRWord_27.run r tm s = (qRWord_27_0 nilL).run r tm [] s := reg_run allRWordx.1.2.1.2.2.2 chRWord_27_0 r s tm
theorem chRWord_30_3 : Ch pc0 fiRWord uRWord_30 3 [4, 13, 12] nilL := chE allRWordx.1.2.2.1.2.2
theorem chRWord_30_0 : Ch pc0 fiRWord uRWord_30 0 [] (qRWord_30_0 nilL) := chS rfl allRWordx.1.2.2.2.1.1 chRWord_30_3
theorem rgRWord_30 (r : R) (s : S) (tm : T) : cRWord_30.run r tm s = (qRWord_30_0 nilL).run r tm [] s := reg_run allRWordx.1.2.2.1.2.1 chRWord_30_0 r s tm
theorem chRWord_32_1 : Ch pc0 fiRWord uRWord_32 1 [3] nilL := chE allRWordx.1.2.2.2.2.1
theorem chRWord_32_0 : Ch pc0 fiRWord uRWord_32 0 [] (qRWord_32_0 nilL) := chS rfl allRWordx.1.2.2.2.2.2 chRWord_32_1
theorem rgRWord_32 (r : R) (s : S) (tm : T) : cRWord_32.run r tm s = (qRWord_32_0 nilL).run r tm [] s := reg_run allRWordx.1.2.2.2.1.2 chRWord_32_0 r s tm
theorem szRWord_14 : sizeC uRWord_14 = 37 := allRWordx.2.1
theorem lpRWord_14 : type_of% allRWordx.2.2.1 := allRWordx.2.2.1
theorem allRWord : type_of% (And.intro rgRWord_1 (And.intro rgRWord_4 (And.intro rgRWord_7 (And.intro rgRWord_12 (And.intro rgRWord_17 (And.intro rgRWord_24 (And.intro rgRWord_27 (And.intro rgRWord_30 (And.intro rgRWord_32 allRWordx.2.2.2))))))))) := (And.intro rgRWord_1 (And.intro rgRWord_4 (And.intro rgRWord_7 (And.intro rgRWord_12 (And.intro rgRWord_17 (And.intro rgRWord_24 (And.intro rgRWord_27 (And.intro rgRWord_30 (And.intro rgRWord_32 allRWordx.2.2.2)))))))))
/- abugida/translit.symbols: parameters 2, slots in the frame: [(0, 0), (1, 1), (2, 2), (3, 3), (4, 4)] -/
def fiSymbols : FI := ⟨480, 9, 4⟩
noncomputable def bodySymbols : Code := bodyOf Tryz.prog 24
noncomputable def uSymbols_1 : Code := subC [0] bodySymbols
noncomputable def cSymbols_1 : CoC := comp pc0 fiSymbols uSymbols_1
noncomputable def qSymbols_1_0 : LoC → LoC := qOf pc0 fiSymbols uSymbols_1 0 2 []
noncomputable def uSymbols_3 : Code := subC [1, 0] bodySymbols
noncomputable def cSymbols_3 : CoC := comp pc0 fiSymbols uSymbols_3
noncomputable def qSymbols_3_0 : LoC → LoC := qOf pc0 fiSymbols uSymbols_3 0 5 []
noncomputable def cSymbols_0 : CoC := comp pc0 fiSymbols bodySymbols
noncomputable def finSymbols : T → S → A := finN (resC pc0 fiSymbols (resOf Tryz.prog 24)).run
theorem allSymbolsx :
  (((regPlain uSymbols_1 = true ∧
  (((regOps uSymbols_1).drop 2).isEmpty = true ∧
  pushes (((regOps uSymbols_1).drop 0).take 2) [] = [5, 4])) ∧
  (regPlain uSymbols_3 = true ∧
  (((regOps uSymbols_3).drop 5).isEmpty = true ∧
  pushes (((regOps uSymbols_3).drop 0).take 5) [] = [5, 9, 8, 7, 6])))) ∧ (True) ∧ (True) ∧ ((((∀ (r : R) (s : S) (x0 x1 : V), (fnC pc0 24).run r [x0, x1] s = outF (bindR (fun tm s => finSymbols tm s) (cSymbols_0.run r (sp 1 x1 (sp 0 x0 T.new)) s))) ∧
  (∀ (s : S) (tm : T), finSymbols tm s = finV (gp 240 tm) (resV [(gp 4 tm)] s))) ∧
  ((∀ (r : R) (s : S) (tm : T), cSymbols_0.run r tm s = seqA (fun tm s => seqA (fun tm s => .ret tm s) (cSymbols_3.run r tm s)) (cSymbols_1.run r tm s)) ∧
  ((∀ (g : LoC) (r : R) (s : S) (tm : T) (le : List V), (qSymbols_1_0 g).run r tm (le) s = cellsC 1 (gp 1 tm) fun l0 => Go.Ev.newRow s 3 l0 false fun a0k _ s => g.run r (sp 4 (V.bool false) (sp 3 (V.ptr a0k 0 0) tm)) ((V.bool false) :: (V.ptr a0k 0 0) :: le) s) ∧
  (∀ (g : LoC) (r : R) (s : S) (tm : T) (le : List V), (qSymbols_3_0 g).run r tm (le) s = foldF (r.call 40 [(gp 0 tm), (V.fn (.func 41) [] [(gp 3 tm)])] s) fun v2 s => xUn .not v2 fun v3 => g.run r (sp 4 v3 tm) (v3 :: v3 :: v2 :: (V.fn (.func 41) [] [(gp 3 tm)]) :: (gp 0 tm) :: le) s))))) := by
  and_intros <;> first | trivial | (intros; kernel_rfl)
theorem chSymbols_1_2 : Ch pc0 fiSymbols uSymbols_1 2 [5, 4] nilL := chE allSymbolsx.1.1.2.1
theorem chSymbols_1_0 : Ch pc0 fiSymbols uSymbols_1 0 [] (qSymbols_1_0 nilL) := chS rfl allSymbolsx.1.1.2.2 chSymbols_1_2
theorem rgSymbols_1 (r : R) (s : S) (tm : T) : cSymbols_1.run r tm s = (qSymbols_1_0 nilL).run r tm [] s := reg_run allSymbolsx.1.1.1 chSymbols_1_0 r s tm
theorem chSymbols_3_5 : Ch pc0 fiSymbols uSymbols_3 5 [5, 9, 8, 7, 6] nilL := chE allSymbolsx.1.2.2.1
theorem chSymbols_3_0 : Ch pc0 fiSymbols uSymbols_3 0 [] (qSymbols_3_0 nilL) := chS rfl allSymbolsx.1.2.2.2 chSymbols_3_5
theorem rgSymbols_3 (r : R) (s : S) (tm : T) : cSymbols_3.run r tm s = (qSymbols_3_0 nilL).run r tm [] s := reg_run allSymbolsx.1.2.1 chSymbols_3_0 r s tm
theorem allSymbols : type_of% (And.intro rgSymbols_1 (And.intro rgSymbols_3 allSymbolsx.2.2.2)) := (And.intro rgSymbols_1 (And.intro rgSymbols_3 allSymbolsx.2.2.2))
/- slices.Equal[[]int,int]: parameters 2, slots in the frame: [(0, 0), (1, 1), (2, 2), (3, 3), (4, 4), (5, 5), (6, 10), (7, 12), (8, 13), (9, 14), (10, 24)] -/
def fiEqual : FI := ⟨50301888, 26, 4⟩
noncomputable def bodyEqual : Code := bodyOf Tryz.prog 25
noncomputable def uEqual_1 : Code := subC [0] bodyEqual
noncomputable def cEqual_1 : CoC := comp pc0 fiEqual uEqual_1
noncomputable def qEqual_1_0 : LoC → LoC := qOf pc0 fiEqual uEqual_1 0 1 []
noncomputable def uEqual_4 : Code := subC [1, 0, 0] bodyEqual
noncomputable def cEqual_4 : CoC := comp pc0 fiEqual uEqual_4
noncomputable def qEqual_4_0 : LoC → LoC := qOf pc0 fiEqual uEqual_4 0 5 []
noncomputable def uEqual_7 : Code := subC [1, 0, 1, 0, 0] bodyEqual
noncomputable def cEqual_7 : CoC := comp pc0 fiEqual uEqual_7
noncomputable def qEqual_7_0 : LoC → LoC := qOf pc0 fiEqual uEqual_7 0 1 []
noncomputable def uEqual_12 : Code := subC [1, 1, 0, 0] bodyEqual
noncomputable def cEqual_12 : CoC := comp pc0 fiEqual uEqual_12
noncomputable def qEqual_12_0 : LoC → LoC := qOf pc0 fiEqual uEqual_12 0 3 []
noncomputable def uEqual_16 : Code := subC [1, 1, 0, 1, 0, 0, 0] bodyEqual
noncomputable def cEqual_16 : CoC := comp pc0 fiEqual uEqual_16
noncomputable def qEqual_16_0 : LoC → LoC := qOf pc0 fiEqual uEqual_16 0 1 []
noncomputable def uEqual_24 : Code := subC [1, 1, 0, 1, 0, 0, 1, 1, 0, 0, 0] bodyEqual
noncomputable def cEqual_24 : CoC := comp pc0 fiEqual uEqual_24
noncomputable def qEqual_24_0 : LoC → LoC := qOf pc0 fiEqual uEqual_24 0 2 []
noncomputable def uEqual_26 : Code := subC [1, 1, 0, 1, 0, 0, 1, 1, 0, 0, 1, 0] bodyEqual
noncomputable def cEqual_26 : CoC := comp pc0 fiEqual uEqual_26
noncomputable def qEqual_26_0 : LoC → LoC := dqOf pc0 fiEqual uEqual_26 0 9 []
noncomputable def uEqual_29 : Code := subC [1, 1, 0, 1, 0, 0, 1, 1, 0, 0, 1, 1, 0, 0] bodyEqual
noncomputable def cEqual_29 : CoC := comp pc0 fiEqual uEqual_29
noncomputable def qEqual_29_0 : LoC → LoC := qOf pc0 fiEqual uEqual_29 0 1 []
noncomputable def uEqual_32 : Code := subC [1, 1, 0, 1, 0, 0, 1, 1, 1] bodyEqual
noncomputable def cEqual_32 : CoC := comp pc0 fiEqual uEqual_32
noncomputable def qEqual_32_0 : LoC → LoC := qOf pc0 fiEqual uEqual_32 0 2 []
noncomputable def uEqual_14 : Code := subC [1, 1, 0, 1, 0] bodyEqual
noncomputable def cEqual_14 : CoC := comp pc0 fiEqual uEqual_14
noncomputable def uEqual_34 : Code := subC [1, 1, 1, 0] bodyEqual
noncomputable def cEqual_34 : CoC := comp pc0 fiEqual uEqual_34
noncomputable def qEqual_34_0 : LoC → LoC := qOf pc0 fiEqual uEqual_34 0 1 []
noncomputable def cEqual_0 : CoC := comp pc0 fiEqual bodyEqual
noncomputable def finEqual : T → S → A := finN (resC pc0 fiEqual (resOf Tryz.prog 25)).run
theorem allEqualx :
  (((((regPlain uEqual_1 = true ∧
  (((regOps uEqual_1).drop 1).isEmpty = true ∧
  pushes (((regOps uEqual_1).drop 0).take 1) [] = [5])) ∧
  ((regPlain uEqual_4 = true ∧
  ((regOps uEqual_4).drop 5).isEmpty = true) ∧
  (pushes (((regOps uEqual_4).drop 0).take 5) [] = [11, 10, 9, 8, 7] ∧
  regPlain uEqual_7 = true))) ∧
  (((((regOps uEqual_7).drop 1).isEmpty = true ∧
  pushes (((regOps uEqual_7).drop 0).take 1) [] = [5]) ∧
  (regPlain uEqual_12 = true ∧
  ((regOps uEqual_12).drop 3).isEmpty = true)) ∧
  ((pushes (((regOps uEqual_12).drop 0).take 3) [] = [14, 13, 12] ∧
  regPlain uEqual_16 = true) ∧
  (((regOps uEqual_16).drop 1).isEmpty = true ∧
  pushes (((regOps uEqual_16).drop 0).take 1) [] = [15])))) ∧
  (((regPlain uEqual_24 = true ∧
  (((regOps uEqual_24).drop 2).isEmpty = true ∧
  pushes (((regOps uEqual_24).drop 0).take 2) [] = [6, 16])) ∧
  ((regDraw pc0.mixed uEqual_26 = true ∧
  ((drawSteps (regOps uEqual_26)).drop 9).isEmpty = true) ∧
  (dpushes (regOps uEqual_26) (((drawSteps (regOps uEqual_26)).drop 0).take 9) [] = [25, 24, 23, 22, 21, 20, 19, 18, 17] ∧
  regPlain uEqual_29 = true))) ∧
  (((((regOps uEqual_29).drop 1).isEmpty = true ∧
  pushes (((regOps uEqual_29).drop 0).take 1) [] = [5]) ∧
  (regPlain uEqual_32 = true ∧
  ((regOps uEqual_32).drop 2).isEmpty = true)) ∧
  ((pushes (((regOps uEqual_32).drop 0).take 2) [] = [14, 26] ∧
  regPlain uEqual_34 = true) ∧
  (((regOps uEqual_34).drop 1).isEmpty = true ∧
  pushes (((regOps uEqual_34).drop 0).take 1) [] = [5])))))) ∧ (sizeC uEqual_14 = 34) ∧ ((∀ (r : R) (s : S) (tm : T), cEqual_14.run r tm s = seqA (fun tm s => r.code fiEqual uEqual_14 tm s) (seqA (fun tm s => seqA (fun tm s => seqA (fun tm s => cEqual_32.run r tm s) (blockA 1 (seqA (fun tm s => seqA (fun tm s => condV (gp 10 tm) (seqA (fun tm s => .ret tm s) (cEqual_29.run r tm s)) (.nrm tm s)) (cEqual_26.run r tm s)) (cEqual_24.run r tm s)))) (condV (gp 9 tm) (.nrm tm s) (.ext 0 tm s))) (cEqual_16.run r tm s)))) ∧ (((((∀ (r : R) (s : S) (x0 x1 : V), (fnC pc0 25).run r [x0, x1] s = outF (bindR (fun tm s => finEqual tm s) (cEqual_0.run r (sp 1 x1 (sp 0 x0 T.new)) s))) ∧
  ((∀ (s : S) (tm : T), finEqual tm s = finV (gp 240 tm) (resV [(gp 4 tm)] s)) ∧
  (∀ (r : R) (s : S) (tm : T), cEqual_0.run r tm s = seqA (fun tm s => seqA (fun tm s => seqA (fun tm s => seqA (fun tm s => .ret tm s) (cEqual_34.run r tm s)) (seqA (fun tm s => blockA 0 (cEqual_14.run r tm s)) (cEqual_12.run r tm s))) (seqA (fun tm s => condV (gp 6 tm) (seqA (fun tm s => .ret tm s) (cEqual_7.run r tm s)) (.nrm tm s)) (cEqual_4.run r tm s))) (cEqual_1.run r tm s)))) ∧
  ((∀ (g : LoC) (r : R) (s : S) (tm : T) (le : List V), (qEqual_1_0 g).run r tm (le) s = g.run r (sp 4 (V.bool false) tm) ((V.bool false) :: le) s) ∧
  ((∀ (g : LoC) (r : R) (s : S) (tm : T) (le : List V), (qEqual_4_0 g).run r tm (le) s = xLenS (gp 0 tm) fun v1 => xLenS (gp 1 tm) fun v3 => xBin ⟨7, []⟩ false .neq v1 v3 fun v4 => g.run r (sp 6 v4 tm) (v4 :: v3 :: (gp 1 tm) :: v1 :: (gp 0 tm) :: le) s) ∧
  (∀ (g : LoC) (r : R) (s : S) (tm : T) (le : List V), (qEqual_7_0 g).run r tm (le) s = g.run r (sp 4 (V.bool false) tm) ((V.bool false) :: le) s)))) ∧
  (((∀ (g : LoC) (r : R) (s : S) (tm : T) (le : List V), (qEqual_12_0 g).run r tm (le) s = xLenS (gp 0 tm) fun v1 => g.run r (sp 8 (V.nat .i64 0) (sp 7 v1 tm)) ((V.nat .i64 0) :: v1 :: (gp 0 tm) :: le) s) ∧
  ((∀ (g : LoC) (r : R) (s : S) (tm : T) (le : List V), (qEqual_16_0 g).run r tm (le) s = xBin ⟨9, []⟩ false .lss (gp 8 tm) (gp 7 tm) fun v0 => g.run r (sp 9 v0 tm) (v0 :: le) s) ∧
  (∀ (g : LoC) (r : R) (s : S) (tm : T) (le : List V), (qEqual_24_0 g).run r tm (le) s = g.run r (sp 5 (gp 8 tm) tm) ((gp 8 tm) :: (gp 8 tm) :: le) s))) ∧
  (((∀ (g : LoC) (r : R) (s : S) (tm : T) (le : List V), (qEqual_26_0 g).run r tm (le) s = xIdxAddrS 1 (gp 0 tm) (gp 5 tm) fun v2 => xLoad false 1 v2 s fun v3 s => xIdxAddrS 1 (gp 1 tm) (gp 5 tm) fun v6 => xLoad false 1 v6 s fun v7 s => xBin ⟨7, []⟩ false .neq v3 v7 fun v8 => g.run r (sp 10 v8 tm) (v8 :: v7 :: v6 :: (gp 5 tm) :: (gp 1 tm) :: v3 :: v2 :: (gp 5 tm) :: (gp 0 tm) :: le) s) ∧
  (∀ (g : LoC) (r : R) (s : S) (tm : T) (le : List V), (qEqual_29_0 g).run r tm (le) s = g.run r (sp 4 (V.bool false) tm) ((V.bool false) :: le) s)) ∧
  ((∀ (g : LoC) (r : R) (s : S) (tm : T) (le : List V), (qEqual_32_0 g).run r tm (le) s = xBin ⟨9, []⟩ false .add (gp 8 tm) (V.nat .i64 1) fun v0 => g.run r (sp 8 v0 tm) (v0 :: v0 :: le) s) ∧
  (∀ (g : LoC) (r : R) (s : S) (tm : T) (le : List V), (qEqual_34_0 g).run r tm (le) s = g.run r (sp 4 (V.bool true) tm) ((V.bool true) :: le) s)))))) := by
  and_intros <;> first | trivial | (intros; kernel_rfl)
theorem chEqual_1_1 : Ch pc0 fiEqual uEqual_1 1 [5] nilL := chE allEqualx.1.1.1.1.2.1
theorem chEqual_1_0 : Ch pc0 fiEqual uEqual_1 0 [] (qEqual_1_0 nilL) := chS rfl allEqualx.1.1.1.1.2.2 chEqual_1_1
theorem rgEqual_1 (r : R) (s : S) (tm : T) : cEqual_1.run r tm s = (qEqual_1_0 nilL).run r tm [] s := reg_run allEqualx.1.1.1.1.1 chEqual_1_0 r s tm
theorem chEqual_4_5 : Ch pc0 fiEqual uEqual_4 5 [11, 10, 9, 8, 7] nilL := chE allEqualx.1.1.1.2.1.2
theorem chEqual_4_0 : Ch pc0 fiEqual uEqual_4 0 [] (qEqual_4_0 nilL) := chS rfl allEqualx.1.1.1.2.2.1 chEqual_4_5
theorem rgEqual_4 (r : R) (s : S) (tm : T) : cEqual_4.run r tm s = (qEqual_4_0 nilL).run r tm [] s := reg_run allEqualx.1.1.1.2.1.1 chEqual_4_0 r s tm
theorem chEqual_7_1 : Ch pc0 fiEqual uEqual_7 1 [5] nilL := chE allEqualx.1.1.2.1.1.1
theorem chEqual_7_0 : Ch pc0 fiEqual uEqual_7 0 [] (qEqual_7_0 nilL) := chS rfl allEqualx.1.1.2.1.1.2 chEqual_7_1
theorem rgEqual_7 (r : R) (s : S) (tm : T) : cEqual_7.run r tm s = (qEqual_7_0 nilL).run r tm [] s := reg_run allEqualx.1.1.1.2.2.2 chEqual_7_0 r s tm
theorem chEqual_12_3 : Ch pc0 fiEqual uEqual_12 3 [14, 13, 12] nilL := chE allEqualx.1.1.2.1.2.2
theorem chEqual_12_0 : Ch pc0 fiEqual uEqual_12 0 [] (qEqual_12_0 nilL) := chS rfl allEqualx.1.1.2.2.1.1 chEqual_12_3
theorem rgEqual_12 (r : R) (s : S) (tm : T) : cEqual_12.run r tm s = (qEqual_12_0 nilL).run r tm [] s := reg_run allEqualx.1.1.2.1.2.1 chEqual_12_0 r s tm
theorem chEqual_16_1 : Ch pc0 fiEqual uEqual_16 1 [15] nilL := chE allEqualx.1.1.2.2.2.1
theorem chEqual_16_0 : Ch pc0 fiEqual uEqual_16 0 [] (qEqual_16_0 nilL) := chS rfl allEqualx.1.1.2.2.2.2 chEqual_16_1
theorem rgEqual_16 (r : R) (s : S) (tm : T) : cEqual_16.run r tm s = (qEqual_16_0 nilL).run r tm [] s := reg_run allEqualx.1.1.2.2.1.2 chEqual_16_0 r s tm
theorem chEqual_24_2 : Ch pc0 fiEqual uEqual_24 2 [6, 16] nilL := chE allEqualx.1.2.1.1.2.1
theorem chEqual_24_0 : Ch pc0 fiEqual uEqual_24 0 [] (qEqual_24_0 nilL) := chS rfl allEqualx.1.2.1.1.2.2 chEqual_24_2
theorem rgEqual_24 (r : R) (s : S) (tm : T) : cEqual_24.run r tm s = (qEqual_24_0 nilL).run r tm [] s := reg_run allEqualx.1.2.1.1.1 chEqual_24_0 r s tm
theorem chEqual_26_9 : DCh pc0 fiEqual uEqual_26 9 [25, 24, 23, 22, 21, 20, 19, 18, 17] nilL := dchE allEqualx.1.2.1.2.1.2
theorem chEqual_26_0 : DCh pc0 fiEqual uEqual_26 0 [] (qEqual_26_0 nilL) := dchS rfl allEqualx.1.2.1.2.2.1 chEqual_26_9
theorem rgEqual_26 (r : R) (s : S) (tm : T) : cEqual_26.run r tm s = (qEqual_26_0 nilL).run r.det tm [] s := reg_drun allEqualx.1.2.1.2.1.1 chEqual_26_0 r s tm
theorem chEqual_29_1 : Ch pc0 fiEqual uEqual_29 1 [5] nilL := chE allEqualx.1.2.2.1.1.1
theorem chEqual_29_0 : Ch pc0 fiEqual uEqual_29 0 [] (qEqual_29_0 nilL) := chS rfl allEqualx.1.2.2.1.1.2 chEqual_29_1
theorem rgEqual_29 (r : R) (s : S) (tm : T) : cEqual_29.run r tm s = (qEqual_29_0 nilL).run r tm [] s := reg_run allEqualx.1.2.1.2.2.2 chEqual_29_0 r s tm
theorem chEqual_32_2 : Ch pc0 fiEqual uEqual_32 2 [14, 26] nilL := chE allEqualx.1.2.2.1.2.2
theorem chEqual_32_0 : Ch pc0 fiEqual uEqual_32 0 [] (qEqual_32_0 nilL) := chS rfl allEqualx.1.2.2.2.1.1 chEqual_32_2
theorem rgEqual_32 (r : R) (s : S) (tm : T) : cEqual_32.run r tm s = (qEqual_32_0 nilL).run r tm [] s := reg_run allEqualx.1.2.2.1.2.1 chEqual_32_0 r s tm
theorem chEqual_34_1 : Ch pc0 fiEqual uEqual_34 1 [5] nilL := chE allEqualx.1.2.2.2.2.1
theorem chEqual_34_0 : Ch pc0 fiEqual uEqual_34 0 [] (qEqual_34_0 nilL) := chS rfl allEqualx.1.2.2.2.2.2 chEqual_34_1
theorem rgEqual_34 (r : R) (s : S) (tm : T) : cEqual_34.run r tm s = (qEqual_34_0 nilL).run r tm [] s := reg_run allEqualx.1.2.2.2.1.2 chEqual_34_0 r s tm
theorem szEqual_14 : sizeC uEqual_14 = 34 := allEqualx.2.1
theorem lpEqual_14 : type_of% allEqualx.2.2.1 := allEqualx.2.2.1
theorem allEqual : type_of% (And.intro rgEqual_1 (And.intro rgEqual_4 (And.intro rgEqual_7 (And.intro rgEqual_12 (And.intro rgEqual_16 (And.intro rgEqual_24 (And.intro rgEqual_26 (And.intro rgEqual_29 (And.intro rgEqual_32 (And.intro rgEqual_34 allEqualx.2.2.2)))))))))) := (And.intro rgEqual_1 (And.intro rgEqual_4 (And.intro rgEqual_7 (And.intro rgEqual_12 (And.intro rgEqual_16 (And.intro rgEqual_24 (And.intro rgEqual_26 (And.intro rgEqual_29 (And.intro rgEqual_32 (And.intro rgEqual_34 allEqualx.2.2.2))))))))))
/- slices.ContainsFunc[[]int,int]: parameters 2, slots in the frame: [(0, 0), (1, 1), (2, 2), (3, 3), (4, 4)] -/
def fiContainsFunc : FI := ⟨480, 9, 4⟩
noncomputable def bodyContainsFunc : Code := bodyOf Tryz.prog 40
noncomputable def uContainsFunc_1 : Code := subC [0] bodyContainsFunc
noncomputable def cContainsFunc_1 : CoC := comp pc0 fiContainsFunc uContainsFunc_1
noncomputable def qContainsFunc_1_0 : LoC → LoC := qOf pc0 fiContainsFunc uContainsFunc_1 0 1 []
noncomputable def uContainsFunc_3 : Code := subC [1, 0] bodyContainsFunc
noncomputable def cContainsFunc_3 : CoC := comp pc0 fiContainsFunc uContainsFunc_3
noncomputable def qContainsFunc_3_0 : LoC → LoC := qOf pc0 fiContainsFunc uContainsFunc_3 0 5 []
noncomputable def cContainsFunc_0 : CoC := comp pc0 fiContainsFunc bodyContainsFunc
noncomputable def finContainsFunc : T → S → A := finN (resC pc0 fiContainsFunc (resOf Tryz.prog 40)).run
theorem allContainsFuncx :
  (((regPlain uContainsFunc_1 = true ∧
  (((regOps uContainsFunc_1).drop 1).isEmpty = true ∧
  pushes (((regOps uContainsFunc_1).drop 0).take 1) [] = [5])) ∧
  (regPlain uContainsFunc_3 = true ∧
  (((regOps uContainsFunc_3).drop 5).isEmpty = true ∧
  pushes (((regOps uContainsFunc_3).drop 0).take 5) [] = [5, 9, 8, 7, 6])))) ∧ (True) ∧ (True) ∧ ((((∀ (r : R) (s : S) (x0 x1 : V), (fnC pc0 40).run r [x0, x1] s = outF (bindR (fun tm s => finContainsFunc tm s) (cContainsFunc_0.run r (sp 1 x1 (sp 0 x0 T.new)) s))) ∧
  (∀ (s : S) (tm : T), finContainsFunc tm s = finV (gp 240 tm) (resV [(gp 4 tm)] s))) ∧
  ((∀ (r : R) (s : S) (tm : T), cContainsFunc_0.run r tm s = seqA (fun tm s => seqA (fun tm s => .ret tm s) (cContainsFunc_3.run r tm s)) (cContainsFunc_1.run r tm s)) ∧
  ((∀ (g : LoC) (r : R) (s : S) (tm : T) (le : List V), (qContainsFunc_1_0 g).run r tm (le) s = g.run r (sp 4 (V.bool false) tm) ((V.bool false) :: le) s) ∧
  (∀ (g : LoC) (r : R) (s : S) (tm : T) (le : List V), (qContainsFunc_3_0 g).run r tm (le) s = foldF (r.call 68 [(gp 0 tm), (gp 1 tm)] s) fun v2 s => xBin ⟨9, []⟩ false .geq v2 (V.nat .i64 0) fun v3 => g.run r (sp 4 v3 tm) (v3 :: v3 :: v2 :: (gp 1 tm) :: (gp 0 tm) :: le) s))))) := by
  and_intros <;> first | trivial | (intros; kernel_rfl)
theorem chContainsFunc_1_1 : Ch pc0 fiContainsFunc uContainsFunc_1 1 [5] nilL := chE allContainsFuncx.1.1.2.1
theorem chContainsFunc_1_0 : Ch pc0 fiContainsFunc uContainsFunc_1 0 [] (qContainsFunc_1_0 nilL) := chS rfl allContainsFuncx.1.1.2.2 chContainsFunc_1_1
theorem rgContainsFunc_1 (r : R) (s : S) (tm : T) : cContainsFunc_1.run r tm s = (qContainsFunc_1_0 nilL).run r tm [] s := reg_run allContainsFuncx.1.1.1 chContainsFunc_1_0 r s tm
theorem chContainsFunc_3_5 : Ch pc0 fiContainsFunc uContainsFunc_3 5 [5, 9, 8, 7, 6] nilL := chE allContainsFuncx.1.2.2.1
theorem chContainsFunc_3_0 : Ch pc0 fiContainsFunc uContainsFunc_3 0 [] (qContainsFunc_3_0 nilL) := chS rfl allContainsFuncx.1.2.2.2 chContainsFunc_3_5
theorem rgContainsFunc_3 (r : R) (s : S) (tm : T) : cContainsFunc_3.run r tm s = (qContainsFunc_3_0 nilL).run r tm [] s := reg_run allContainsFuncx.1.2.1 chContainsFunc_3_0 r s tm
theorem allContainsFunc : type_of% (And.intro rgContainsFunc_1 (And.intro rgContainsFunc_3 allContainsFuncx.2.2.2)) := (And.intro rgContainsFunc_1 (And.intro rgContainsFunc_3 allContainsFuncx.2.2.2))
/- abugida/translit.symbols$1: parameters 1, slots in the frame: [(0, 0), (1, 1), (2, 2), (3, 3)] -/
def fiSymbolsC : FI := ⟨2032, 11, 4⟩
noncomputable def bodySymbolsC : Code := bodyOf Tryz.prog 41
noncomputable def uSymbolsC_1 : Code := subC [0] bodySymbolsC
noncomputable def cSymbolsC_1 : CoC := comp pc0 fiSymbolsC uSymbolsC_1
noncomputable def qSymbolsC_1_0 : LoC → LoC := qOf pc0 fiSymbolsC uSymbolsC_1 0 1 []
noncomputable def uSymbolsC_3 : Code := subC [1, 0] bodySymbolsC
noncomputable def cSymbolsC_3 : CoC := comp pc0 fiSymbolsC uSymbolsC_3
noncomputable def qSymbolsC_3_6 : LoC → LoC := qOf pc0 fiSymbolsC uSymbolsC_3 6 2 [10, 9, 8, 7, 6, 5]
noncomputable def qSymbolsC_3_3 : LoC → LoC := qOf pc0 fiSymbolsC uSymbolsC_3 3 3 [7, 6, 5]
noncomputable def qSymbolsC_3_0 : LoC → LoC := qOf pc0 fiSymbolsC uSymbolsC_3 0 3 []
noncomputable def cSymbolsC_0 : CoC := comp pc0 fiSymbolsC bodySymbolsC
noncomputable def finSymbolsC : T → S → A := finN (resC pc0 fiSymbolsC (resOf Tryz.prog 41)).run
theorem allSymbolsCx :
  ((((regPlain uSymbolsC_1 = true ∧
  ((regOps uSymbolsC_1).drop 1).isEmpty = true) ∧
  (pushes (((regOps uSymbolsC_1).drop 0).take 1) [] = [4] ∧
  regPlain uSymbolsC_3 = true)) ∧
  ((((regOps uSymbolsC_3).drop 8).isEmpty = true ∧
  pushes (((regOps uSymbolsC_3).drop 6).take 2) [10, 9, 8, 7, 6, 5] = [4, 11, 10, 9, 8, 7, 6, 5]) ∧
  (pushes (((regOps uSymbolsC_3).drop 3).take 3) [7, 6, 5] = [10, 9, 8, 7, 6, 5] ∧
  pushes (((regOps uSymbolsC_3).drop 0).take 3) [] = [7, 6, 5])))) ∧ (True) ∧ (True) ∧ (((((∀ (r : R) (s : S) (x0 x1 : V), (fnC pc0 41).run r [x0, x1] s = outF (bindR (fun tm s => finSymbolsC tm s) (cSymbolsC_0.run r (sp 1 x1 (sp 0 x0 T.new)) s))) ∧
  (∀ (s : S) (tm : T), finSymbolsC tm s = finV (gp 240 tm) (resV [(gp 3 tm)] s))) ∧
  ((∀ (r : R) (s : S) (tm : T), cSymbolsC_0.run r tm s = seqA (fun tm s => seqA (fun tm s => .ret tm s) (cSymbolsC_3.run r tm s)) (cSymbolsC_1.run r tm s)) ∧
  (∀ (g : LoC) (r : R) (s : S) (tm : T) (le : List V), (qSymbolsC_1_0 g).run r tm (le) s = g.run r (sp 3 (V.bool false) tm) ((V.bool false) :: le) s))) ∧
  (((∀ (g : LoC) (r : R) (s : S) (tm : T) (le : List V), (qSymbolsC_3_0 g).run r tm (le) s = xBin ⟨9, []⟩ false .lss (gp 0 tm) (V.nat .i64 1) fun v1 => g.run r tm (v1 :: v1 :: (gp 0 tm) :: le) s) ∧
  (∀ (g : LoC) (r : R) (s : S) (tm : T) (le : List V), (qSymbolsC_3_3 g).run r tm ((.bool true) :: le) s = g.run r tm (Go.Ev.undef :: Go.Ev.undef :: Go.Ev.undef :: (.bool true) :: le) s)) ∧
  ((∀ (g : LoC) (r : R) (s : S) (tm : T) (le : List V), (qSymbolsC_3_3 g).run r tm ((.bool false) :: le) s = xLoad false 1 (gp 1 tm) s fun v4 s => xBin ⟨9, []⟩ false .gtr (gp 0 tm) v4 fun v5 => g.run r tm (v5 :: v4 :: (gp 0 tm) :: (.bool false) :: le) s) ∧
  (∀ (g : LoC) (r : R) (s : S) (tm : T) (le : List V) (x0_ x1_ x2_ x3_ : V), (qSymbolsC_3_6 g).run r tm (x0_ :: x1_ :: x2_ :: x3_ :: le) s = xPick x3_ (fun _ => g.run r (sp 3 (V.bool true) tm) ((V.bool true) :: (V.bool true) :: x0_ :: x1_ :: x2_ :: x3_ :: le) s) (fun _ => g.run r (sp 3 x0_ tm) (x0_ :: x0_ :: x0_ :: x1_ :: x2_ :: x3_ :: le) s)))))) := by
  and_intros <;> first | trivial | (intros; kernel_rfl)
theorem chSymbolsC_1_1 : Ch pc0 fiSymbolsC uSymbolsC_1 1 [4] nilL := chE allSymbolsCx.1.1.1.2
theorem chSymbolsC_1_0 : Ch pc0 fiSymbolsC uSymbolsC_1 0 [] (qSymbolsC_1_0 nilL) := chS rfl allSymbolsCx.1.1.2.1 chSymbolsC_1_1
theorem rgSymbolsC_1 (r : R) (s : S) (tm : T) : cSymbolsC_1.run r tm s = (qSymbolsC_1_0 nilL).run r tm [] s := reg_run allSymbolsCx.1.1.1.1 chSymbolsC_1_0 r s tm
theorem chSymbolsC_3_8 : Ch pc0 fiSymbolsC uSymbolsC_3 8 [4, 11, 10, 9, 8, 7, 6, 5] nilL := chE allSymbolsCx.1.2.1.1
theorem chSymbolsC_3_6 : Ch pc0 fiSymbolsC uSymbolsC_3 6 [10, 9, 8, 7, 6, 5] (qSymbolsC_3_6 nilL) := chS rfl allSymbolsCx.1.2.1.2 chSymbolsC_3_8
theorem chSymbolsC_3_3 : Ch pc0 fiSymbolsC uSymbolsC_3 3 [7, 6, 5] (qSymbolsC_3_3 (qSymbolsC_3_6 nilL)) := chS rfl allSymbolsCx.1.2.2.1 chSymbolsC_3_6
theorem chSymbolsC_3_0 : Ch pc0 fiSymbolsC uSymbolsC_3 0 [] (qSymbolsC_3_0 (qSymbolsC_3_3 (qSymbolsC_3_6 nilL))) := chS rfl allSymbolsCx.1.2.2.2 chSymbolsC_3_3
theorem rgSymbolsC_3 (r : R) (s : S) (tm : T) : cSymbolsC_3.run r tm s = (qSymbolsC_3_0 (qSymbolsC_3_3 (qSymbolsC_3_6 nilL))).run r tm [] s := reg_run allSymbolsCx.1.1.2.2 chSymbolsC_3_0 r s tm
theorem allSymbolsC : type_of% (And.intro rgSymbolsC_1 (And.intro rgSymbolsC_3 allSymbolsCx.2.2.2)) := (And.intro rgSymbolsC_1 (And.intro rgSymbolsC_3 allSymbolsCx.2.2.2))
/- slices.IndexFunc[[]int,int]: parameters 2, slots in the frame: [(0, 0), (1, 1), (2, 2), (3, 3), (4, 4), (5, 5), (6, 7), (7, 8), (8, 9), (9, 16)] -/
def fiIndexFunc : FI := ⟨457792, 19, 4⟩
noncomputable def bodyIndexFunc : Code := bodyOf Tryz.prog 68
noncomputable def uIndexFunc_1 : Code := subC [0] bodyIndexFunc
noncomputable def cIndexFunc_1 : CoC := comp pc0 fiIndexFunc uIndexFunc_1
noncomputable def qIndexFunc_1_0 : LoC → LoC := qOf pc0 fiIndexFunc uIndexFunc_1 0 1 []
noncomputable def uIndexFunc_4 : Code := subC [1, 0, 0] bodyIndexFunc
noncomputable def cIndexFunc_4 : CoC := comp pc0 fiIndexFunc uIndexFunc_4
noncomputable def qIndexFunc_4_0 : LoC → LoC := qOf pc0 fiIndexFunc uIndexFunc_4 0 3 []
noncomputable def uIndexFunc_8 : Code := subC [1, 0, 1, 0, 0, 0] bodyIndexFunc
noncomputable def cIndexFunc_8 : CoC := comp pc0 fiIndexFunc uIndexFunc_8
noncomputable def qIndexFunc_8_0 : LoC → LoC := qOf pc0 fiIndexFunc uIndexFunc_8 0 1 []
noncomputable def uIndexFunc_16 : Code := subC [1, 0, 1, 0, 0, 1, 1, 0, 0, 0] bodyIndexFunc
noncomputable def cIndexFunc_16 : CoC := comp pc0 fiIndexFunc uIndexFunc_16
noncomputable def qIndexFunc_16_0 : LoC → LoC := qOf pc0 fiIndexFunc uIndexFunc_16 0 2 []
noncomputable def uIndexFunc_18 : Code := subC [1, 0, 1, 0, 0, 1, 1, 0, 0, 1, 0] bodyIndexFunc
noncomputable def cIndexFunc_18 : CoC := comp pc0 fiIndexFunc uIndexFunc_18
noncomputable def qIndexFunc_18_0 : LoC → LoC := qOf pc0 fiIndexFunc uIndexFunc_18 0 6 []
noncomputable def uIndexFunc_21 : Code := subC [1, 0, 1, 0, 0, 1, 1, 0, 0, 1, 1, 0, 0] bodyIndexFunc
noncomputable def cIndexFunc_21 : CoC := comp pc0 fiIndexFunc uIndexFunc_21
noncomputable def qIndexFunc_21_0 : LoC → LoC := qOf pc0 fiIndexFunc uIndexFunc_21 0 2 []
noncomputable def uIndexFunc_24 : Code := subC [1, 0, 1, 0, 0, 1, 1, 1] bodyIndexFunc
noncomputable def cIndexFunc_24 : CoC := comp pc0 fiIndexFunc uIndexFunc_24
noncomputable def qIndexFunc_24_0 : LoC → LoC := qOf pc0 fiIndexFunc uIndexFunc_24 0 2 []
noncomputable def uIndexFunc_6 : Code := subC [1, 0, 1, 0] bodyIndexFunc
noncomputable def cIndexFunc_6 : CoC := comp pc0 fiIndexFunc uIndexFunc_6
noncomputable def uIndexFunc_26 : Code := subC [1, 1, 0] bodyIndexFunc
noncomputable def cIndexFunc_26 : CoC := comp pc0 fiIndexFunc uIndexFunc_26
noncomputable def qIndexFunc_26_0 : LoC → LoC := qOf pc0 fiIndexFunc uIndexFunc_26 0 1 []
noncomputable def cIndexFunc_0 : CoC := comp pc0 fiIndexFunc bodyIndexFunc
noncomputable def finIndexFunc : T → S → A := finN (resC pc0 fiIndexFunc (resOf Tryz.prog 68)).run
theorem allIndexFuncx :
  (((((regPlain uIndexFunc_1 = true ∧
  (((regOps uIndexFunc_1).drop 1).isEmpty = true ∧
  pushes (((regOps uIndexFunc_1).drop 0).take 1) [] = [5])) ∧
  (regPlain uIndexFunc_4 = true ∧
  (((regOps uIndexFunc_4).drop 3).isEmpty = true ∧
  pushes (((regOps uIndexFunc_4).drop 0).take 3) [] = [9, 8, 7]))) ∧
  ((regPlain uIndexFunc_8 = true ∧
  (((regOps uIndexFunc_8).drop 1).isEmpty = true ∧
  pushes (((regOps uIndexFunc_8).drop 0).take 1) [] = [10])) ∧
  (regPlain uIndexFunc_16 = true ∧
  (((regOps uIndexFunc_16).drop 2).isEmpty = true ∧
  pushes (((regOps uIndexFunc_16).drop 0).take 2) [] = [6, 11])))) ∧
  (((regPlain uIndexFunc_18 = true ∧
  (((regOps uIndexFunc_18).drop 6).isEmpty = true ∧
  pushes (((regOps uIndexFunc_18).drop 0).take 6) [] = [17, 16, 15, 14, 13, 12])) ∧
  (regPlain uIndexFunc_21 = true ∧
  (((regOps uIndexFunc_21).drop 2).isEmpty = true ∧
  pushes (((regOps uIndexFunc_21).drop 0).take 2) [] = [5, 18]))) ∧
  ((regPlain uIndexFunc_24 = true ∧
  (((regOps uIndexFunc_24).drop 2).isEmpty = true ∧
  pushes (((regOps uIndexFunc_24).drop 0).take 2) [] = [9, 19])) ∧
  (regPlain uIndexFunc_26 = true ∧
  (((regOps uIndexFunc_26).drop 1).isEmpty = true ∧
  pushes (((regOps uIndexFunc_26).drop 0).take 1) [] = [5])))))) ∧ (sizeC uIndexFunc_6 = 32) ∧ ((∀ (r : R) (s : S) (tm : T), cIndexFunc_6.run r tm s = seqA (fun tm s => r.code fiIndexFunc uIndexFunc_6 tm s) (seqA (fun tm s => seqA (fun tm s => seqA (fun tm s => cIndexFunc_24.run r tm s) (blockA 1 (seqA (fun tm s => seqA (fun tm s => condV (gp 9 tm) (seqA (fun tm s => .ret tm s) (cIndexFunc_21.run r tm s)) (.nrm tm s)) (cIndexFunc_18.run r tm s)) (cIndexFunc_16.run r tm s)))) (condV (gp 8 tm) (.nrm tm s) (.ext 0 tm s))) (cIndexFunc_8.run r tm s)))) ∧ (((((∀ (r : R) (s : S) (x0 x1 : V), (fnC pc0 68).run r [x0, x1] s = outF (bindR (fun tm s => finIndexFunc tm s) (cIndexFunc_0.run r (sp 1 x1 (sp 0 x0 T.new)) s))) ∧
  (∀ (s : S) (tm : T), finIndexFunc tm s = finV (gp 240 tm) (resV [(gp 4 tm)] s))) ∧
  ((∀ (r : R) (s : S) (tm : T), cIndexFunc_0.run r tm s = seqA (fun tm s => seqA (fun tm s => seqA (fun tm s => .ret tm s) (cIndexFunc_26.run r tm s)) (seqA (fun tm s => blockA 0 (cIndexFunc_6.run r tm s)) (cIndexFunc_4.run r tm s))) (cIndexFunc_1.run r tm s)) ∧
  ((∀ (g : LoC) (r : R) (s : S) (tm : T) (le : List V), (qIndexFunc_1_0 g).run r tm (le) s = g.run r (sp 4 (V.nat .i64 0) tm) ((V.nat .i64 0) :: le) s) ∧
  (∀ (g : LoC) (r : R) (s : S) (tm : T) (le : List V), (qIndexFunc_4_0 g).run r tm (le) s = xLenS (gp 0 tm) fun v1 => g.run r (sp 7 (V.nat .i64 0) (sp 6 v1 tm)) ((V.nat .i64 0) :: v1 :: (gp 0 tm) :: le) s)))) ∧
  (((∀ (g : LoC) (r : R) (s : S) (tm : T) (le : List V), (qIndexFunc_8_0 g).run r tm (le) s = xBin ⟨9, []⟩ false .lss (gp 7 tm) (gp 6 tm) fun v0 => g.run r (sp 8 v0 tm) (v0 :: le) s) ∧
  ((∀ (g : LoC) (r : R) (s : S) (tm : T) (le : List V), (qIndexFunc_16_0 g).run r tm (le) s = g.run r (sp 5 (gp 7 tm) tm) ((gp 7 tm) :: (gp 7 tm) :: le) s) ∧
  (∀ (g : LoC) (r : R) (s : S) (tm : T) (le : List V), (qIndexFunc_18_0 g).run r tm (le) s = xIdxAddrS 1 (gp 0 tm) (gp 5 tm) fun v3 => xLoad false 1 v3 s fun v4 s => callV r (gp 1 tm) [v4] tm s fun v5 s => g.run r (sp 9 v5 tm) (v5 :: v4 :: v3 :: (gp 5 tm) :: (gp 0 tm) :: (gp 1 tm) :: le) s))) ∧
  ((∀ (g : LoC) (r : R) (s : S) (tm : T) (le : List V), (qIndexFunc_21_0 g).run r tm (le) s = g.run r (sp 4 (gp 5 tm) tm) ((gp 5 tm) :: (gp 5 tm) :: le) s) ∧
  ((∀ (g : LoC) (r : R) (s : S) (tm : T) (le : List V), (qIndexFunc_24_0 g).run r tm (le) s = xBin ⟨9, []⟩ false .add (gp 7 tm) (V.nat .i64 1) fun v0 => g.run r (sp 7 v0 tm) (v0 :: v0 :: le) s) ∧
  (∀ (g : LoC) (r : R) (s : S) (tm : T) (le : List V), (qIndexFunc_26_0 g).run r tm (le) s = g.run r (sp 4 (V.neg .i64 0) tm) ((V.neg .i64 0) :: le) s)))))) := by
  and_intros <;> first | trivial | (intros; kernel_rfl)
theorem chIndexFunc_1_1 : Ch pc0 fiIndexFunc uIndexFunc_1 1 [5] nilL := chE allIndexFuncx.1.1.1.1.2.1
theorem chIndexFunc_1_0 : Ch pc0 fiIndexFunc uIndexFunc_1 0 [] (qIndexFunc_1_0 nilL) := chS rfl allIndexFuncx.1.1.1.1.2.2 chIndexFunc_1_1
theorem rgIndexFunc_1 (r : R) (s : S) (tm : T) : cIndexFunc_1.run r tm s = (qIndexFunc_1_0 nilL).run r tm [] s := reg_run allIndexFuncx.1.1.1.1.1 chIndexFunc_1_0 r s tm
theorem chIndexFunc_4_3 : Ch pc0 fiIndexFunc uIndexFunc_4 3 [9, 8, 7] nilL := chE allIndexFuncx.1.1.1.2.2.1
theorem chIndexFunc_4_0 : Ch pc0 fiIndexFunc uIndexFunc_4 0 [] (qIndexFunc_4_0 nilL) := chS rfl allIndexFuncx.1.1.1.2.2.2 chIndexFunc_4_3
theorem rgIndexFunc_4 (r : R) (s : S) (tm : T) : cIndexFunc_4.run r tm s = (qIndexFunc_4_0 nilL).run r tm [] s := reg_run allIndexFuncx.1.1.1.2.1 chIndexFunc_4_0 r s tm
theorem chIndexFunc_8_1 : Ch pc0 fiIndexFunc uIndexFunc_8 1 [10] nilL := chE allIndexFuncx.1.1.2.1.2.1
theorem chIndexFunc_8_0 : Ch pc0 fiIndexFunc uIndexFunc_8 0 [] (qIndexFunc_8_0 nilL) := chS rfl allIndexFuncx.1.1.2.1.2.2 chIndexFunc_8_1
theorem rgIndexFunc_8 (r : R) (s : S) (tm : T) : cIndexFunc_8.run r tm s = (qIndexFunc_8_0 nilL).run r tm [] s := reg_run allIndexFuncx.1.1.2.1.1 chIndexFunc_8_0 r s tm
theorem chIndexFunc_16_2 : Ch pc0 fiIndexFunc uIndexFunc_16 2 [6, 11] nilL := chE allIndexFuncx.1.1.2.2.2.1
theorem chIndexFunc_16_0 : Ch pc0 fiIndexFunc uIndexFunc_16 0 [] (qIndexFunc_16_0 nilL) := chS rfl allIndexFuncx.1.1.2.2.2.2 chIndexFunc_16_2
theorem rgIndexFunc_16 (r : R) (s : S) (tm : T) : cIndexFunc_16.run r tm s = (qIndexFunc_16_0 nilL).run r tm [] s := reg_run allIndexFuncx.1.1.2.2.1 chIndexFunc_16_0 r s tm
theorem chIndexFunc_18_6 : Ch pc0 fiIndexFunc uIndexFunc_18 6 [17, 16, 15, 14, 13, 12] nilL := chE allIndexFuncx.1.2.1.1.2.1
theorem chIndexFunc_18_0 : Ch pc0 fiIndexFunc uIndexFunc_18 0 [] (qIndexFunc_18_0 nilL) := chS rfl allIndexFuncx.1.2.1.1.2.2 chIndexFunc_18_6
theorem rgIndexFunc_18 (r : R) (s : S) (tm : T) : cIndexFunc_18.run r tm s = (qIndexFunc_18_0 nilL).run r tm [] s := reg_run allIndexFuncx.1.2.1.1.1 chIndexFunc_18_0 r s tm
theorem chIndexFunc_21_2 : Ch pc0 fiIndexFunc uIndexFunc_21 2 [5, 18] nilL := chE allIndexFuncx.1.2.1.2.2.1
theorem chIndexFunc_21_0 : Ch pc0 fiIndexFunc uIndexFunc_21 0 [] (qIndexFunc_21_0 nilL) := chS rfl allIndexFuncx.1.2.1.2.2.2 chIndexFunc_21_2
theorem rgIndexFunc_21 (r : R) (s : S) (tm : T) : cIndexFunc_21.run r tm s = (qIndexFunc_21_0 nilL).run r tm [] s := reg_run allIndexFuncx.1.2.1.2.1 chIndexFunc_21_0 r s tm
theorem chIndexFunc_24_2 : Ch pc0 fiIndexFunc uIndexFunc_24 2 [9, 19] nilL := chE allIndexFuncx.1.2.2.1.2.1
theorem chIndexFunc_24_0 : Ch pc0 fiIndexFunc uIndexFunc_24 0 [] (qIndexFunc_24_0 nilL) := chS rfl allIndexFuncx.1.2.2.1.2.2 chIndexFunc_24_2
theorem rgIndexFunc_24 (r : R) (s : S) (tm : T) : cIndexFunc_24.run r tm s = (qIndexFunc_24_0 nilL).run r tm [] s := reg_run allIndexFuncx.1.2.2.1.1 chIndexFunc_24_0 r s tm
theorem chIndexFunc_26_1 : Ch pc0 fiIndexFunc uIndexFunc_26 1 [5] nilL := chE allIndexFuncx.1.2.2.2.2.1
theorem chIndexFunc_26_0 : Ch pc0 fiIndexFunc uIndexFunc_26 0 [] (qIndexFunc_26_0 nilL) := chS rfl allIndexFuncx.1.2.2.2.2.2 chIndexFunc_26_1
theorem rgIndexFunc_26 (r : R) (s : S) (tm : T) : cIndexFunc_26.run r tm s = (qIndexFunc_26_0 nilL).run r tm [] s := reg_run allIndexFuncx.1.2.2.2.1 chIndexFunc_26_0 r s tm
theorem szIndexFunc_6 : sizeC uIndexFunc_6 = 32 := allIndexFuncx.2.1
theorem lpIndexFunc_6 : type_of% allIndexFuncx.2.2.1 := allIndexFuncx.2.2.1
theorem allIndexFunc : type_of% (And.intro rgIndexFunc_1 (And.intro rgIndexFunc_4 (And.intro rgIndexFunc_8 (And.intro rgIndexFunc_16 (And.intro rgIndexFunc_18 (And.intro rgIndexFunc_21 (And.intro rgIndexFunc_24 (And.intro rgIndexFunc_26 allIndexFuncx.2.2.2)))))))) := (And.intro rgIndexFunc_1 (And.intro rgIndexFunc_4 (And.intro rgIndexFunc_8 (And.intro rgIndexFunc_16 (And.intro rgIndexFunc_18 (And.intro rgIndexFunc_21 (And.intro rgIndexFunc_24 (And.intro rgIndexFunc_26 allIndexFuncx.2.2.2))))))))

end Go.Proofs.YtmplkbipoacmmaaGreatDoor.oev
