/- What the evaluator makes of the functions that the statements reach: one equation for each run of operations, by the kernel. No statement of the seat stands here. No condition. By an AI agent. -/
import Derived.Test.YtlklljjppambpaaGreatDoorOvA
import Derived.Test.YtlklljjppambpaaGreatDoorProg
import Derived.KernelRfl
namespace Go.Proofs.YtlklljjppambpaaGreatDoor.oev
open Go.Ev Go.Proofs
set_option maxRecDepth 100000
noncomputable section
def pcM (hooks:List Hook) (mg:List Nat):PC:=PC.of Tryz.prog hooks [0,0,1,18889465368527553685504,40564818602692856525040285376512,
 22300660086400496993622782311581891087564800,5191663033196925340545171079495680,56,1208925819614629174706144,302210702316574370361312,536870336,
 35449079480712192,4064,532676544,16776112,130496,576443159102871552,14507091314321806566879232,37778931860689418977248,843256564531200,
 548681513920,56,32213685184627228544,254,3458623252329365504,8388096,4193792,480,348448518217211894145344806537083159052288,
 220208007379905674240,134217440,2475577252208360506781464576,39604409850503194169327730688,232,72057559552112640,504,503314416,1099511627264,
 69805789929205760,33549824,50301888,163332877655759086281603379116418208301056,13194131142656,72057559678156800,16352,32736,244736,444288,
 34090770432,73786413310256577280,480,2032,68215103488,2251250057377792,40564816780594953975647513346048,39534442678181013841036427264,
 18013282889759744,1147292005072486400,1124800395213824,8184,72053187400956672,
 1766840324791516674570538865549245336328782187702180493141811471333654528,2147417856,137434757056,5192296858515864375622722910089216,16775936,
 252,1016,140454020513776,268418496,1044160,42452218798465682763143301720761171968,43556141302722535823874969358092048728064,
 1298073905148697081283938550218624,2251791223488448,1180591618518388029440,3541774857960345829344,16777184,16352,112,130816,50329600,32752,
 4032,65408,4194272,126,1054972812980224,9223299606459154432,356811880641193946689691826088336933575983104,248,56,457792,134152096,16352,
 16352,2305825412699119296,24,4398046510976,232,2130705408,170141183460466738322183768001071808256,1073733568,8112,151115583319048317820928,
 2787593148518253049416813158539444535410688,536870336,4503324749429760,24,1046448,2304717040586850048,87111610932532326191870328324693962981376,
 137436855808,536868608,504,2040,480,240,2032,129984,248,17873660895281152,24,16352,1125835478138368,65507200,246284026954752,128,
 131040,131040,261952,8,262016,268434928,130944,1152885188510730240,232,562947805802496,480,9007182074854400,1152921496014807040,
 147573917370944446464,7890306461253730304,17179835392,2787571881499075797774052896007796375347200,1237938821800130672580354048,
 383123885193474569774374055887950278561850630313328640,524008,33537768,356811880641193946689691826088336933575983104,24,504,16777184,
 2301339375224487680,647769379326483302334111015759872,88,33536960,2147417984,2721885089993692897886287760060074426112,67092448,24,523744,
 36893487597654834688,281474972483328,8555330560,1047520,713275394550715778319802418023468735560876032,1016,24,504,457792,14680032,12574592,
 549755813824,140736414117888,7936,356811880641193946689691826088336933575983104,1125348137512960,4277141376,248,48640,
 4835702990227041035218944,120,8589934584,261632,2199023247360,9007182074854400,1152921496014807040,147573917370944446464,7890306461253730304,
 17179835392,2787571881499075797774052896007796375347200,1237938821800130672580354048,383123885193474569774374055887950278561850630313328640,
 18014381321090304,2147475296,33519488,32696,1048032,24,6228864,10384593407414639918073416691740640,6228864,1044424,398655360,
 31745151725696,8,16328,1952,8,456,134156032,36,4064,4064,104,484,65008,8386568,144114672678729728,70368744168960,17591682693120,
 17179868864,484,34587645138138185600,8164,65504,590293839423849099264,4503591037304448,309182776060598402215280384,532668352,
 21778071482618506735861013308488957231104,16328,79228162513074824341929064448,1008,1008,1008,34662321095378961161338743808,16352,
 2199023189888,2194224446208,9007182074854400,1152921496014807040,147573917370944446464,7890306461253730304,17179835392,
 2787571881499075797774052896007796375347200,1237938821800130672580354048,383123885193474569774374055887950278561850630313328640,4290768896,
 4835702990227041035218944,261632,2199023247360,32744,32752,184149205606795480238948490449146349755637850570752,5050176389969560855884357697536,
 6473907284443136,2266699018289282147153920,1073602816,4194302,504,504,103582791362410496,2417851639198471889600512,2,4080,56,504,4080,
 33554400,2305825412699119296,496,8,8589934528,1056964592,1032128,132120064,18887160055355137835008,0,32,16128,
 4543259750641845459761594177158656,268428272,24,64,19342813112848872164551680,64,132120064,8935141660702932864,
 89794636423602880087156592636474722530567799319756800,12574592,4294934272,649037029945047576837886721114112,16352,4501336175669248,3568,30,
 262080,79225895778352558100046659584,158446644767534338890306928640,4835702990227041035218944,261632,2199023247360,4290768896,56,0,248,248,
 140736414328832,16320,196032,1016,536543040,148754255977818640873472,17171475456,928,4835703260440209768046592,2040,7904,15856,24,2040,
 48640,17996745120149504,524224,504,16304,16304,3114368,248,288230376143288320,480,56,524224,16376,16368,192,192,192,
 35764913150590976,240,240,281337470646784,4290768896,16360,16360,144115179485392896,61408,16637888,37778931860723777658880,137403301872,
 150525431606284996046848,1984,8064,103048806384,34342829312,4186048,258016,260013824,274877644160,1504,2080760,56,30,7936,
 21778061098346189844478291628122334298112,2097120,240,457792,524220,65264,1073740800,2096608,7904,176,962064154560,34090744768,8556375552,
 32192,8384256,20282409471425404962397755244544,17163084480,224,7696579557248,224,469761536,1984,48,515848,1984,2064064,1016,1016,48,
 562948879675136,72057592963659776,36893479342736111616,123286018324422656,4294958848,10888952654262176519432384150372830132224,131040,
 19342794090620444689299456,374144419134252505651064520051920053992477580849152,0,130944,2251799813668864,262112,
 10448029773009037967681152029858612457160704,224,182686308445276092278898780960839177993124249600,224,42524890909723710779775849120990470144,
 9007190629408768,261632,444288,1048064,4177344,4160745472,4398046510976,1030792150528,134217696,1984,128960,75557859222245976505344,32640,
 68719474688,224,0,56,2266735911759287759665152,523264,4294961792,224,31457136,248,56,2016,240,261952,8796093022080,134217696,
 268172288,0,548648513024,1073741792,500,520048,2147155456,0,0,0,0,0,0,0,0,0,0,0,0,0,0,0,0,0,0,0,0,0,0,0,0,7] [(404,1),
 (443,2)] [(7,[7,7,0,7]),(8,[7,7,0,7]),(106,[7,7]),(107,[7,7]),(118,[7,7,7,7]),(119,[7,7,7,7]),(153,[7,7,7]),(154,[7,
 7,7]),(186,[7,7,8,7]),(187,[7,7,8,7]),(190,[7,7,7,7,7]),(191,[7,7,7,7,7]),(265,[7]),(266,[7]),(303,[7,7,7]),(304,[7,
 7,7]),(334,[7,7,0]),(335,[7,7,0]),(342,[7,7]),(343,[7,7]),(362,[0,8,8]),(363,[0,8,8]),(382,[7]),(383,[7]),(400,[]),(401,
 []),(410,[8,8,8])] mg
def pc (hooks:List Hook):PC:=pcM hooks []
def pc0:PC:=pc []
def zmI:FI:=⟨56,6,4⟩
def zi9:=qe Tryz.prog 7
def zBR:=zk pc0 zmI (zI [0] zi9)
def zBD:=zk pc0 zmI (zI [1,0] zi9)
def zBC:=zk pc0 zmI zi9
def zB2:=yb (qm pc0 zmI (qy Tryz.prog 7)).run
theorem zGc :
 ((∀ r s x0,(fnC pc0 7).run r [x0] s=ql (z4 (fun t s=>zB2 t s) (zBC.run r (sp 0 x0 T.new) s))) ∧
 ((∀ s t,zB2 t s=yU (gp 240 t) (yj [gp 2 t] s)) ∧
 (∀ r s t,zBC.run r t s=za (fun t s=>za (fun t s=>.ret t s) (zBD.run r t s)) (zBR.run r t s)))):=by
 and_intros<;>(intros;kernel_rfl)
theorem zyu:∀ r s t,zBR.run r t s=.nrm (sp 2 (V.bool false) t) s:=ze 1
theorem ztE:∀ r s t,zBD.run r t s=zt (gp 0 t) fun v1=>zj ⟨9,[]⟩ false .gtr v1 (V.nat .i64 30) fun v2=>.nrm (sp 2 v2 t) s:=ze 4
theorem zz7:type_of% (aI zyu <| aI ztE <| zGc):=aI zyu <| aI ztE <| zGc
def wB:FI:=⟨14507091314321806566879232,84,4⟩
def zca:=qe Tryz.prog 17
def qV (l:List Nat):=zk pc0 wB (zI l zca)
def zDe:=qV [0]
def zBW:=zI [1,0,0] zca
def zD8:=zk pc0 wB zBW
def zbh:=qOf pc0 wB zBW
def zj5:=zbh 12 1 (dn 24 12)
def zgZ:=zbh 9 3 (dn 21 9)
def zpo:=zbh 7 2 (dn 19 7)
def zgF:=zbh 4 3 (dn 16 4)
def zp6:=zbh 0 4 []
def zAV:=qV [1,0,1,0,0]
def zsW:=qV [1,1,0]
def ztn:=qV [1,1,1,0,0]
def zxG:=qV [1,1,1,0,1,0,0,0,0]
def ztG:=qV [1,1,1,0,1,0,0,1,0,0]
def zvx:=qV [1,1,1,0,1,0,0,1,0,1,0]
def zsZ:=qV [1,1,1,0,1,0,0,1,0,1,1,0,0]
def zvN:=qV [1,1,1,0,1,0,0,1,0,1,1,0,1,0,0,0,0]
def ztQ:=qV [1,1,1,0,1,0,0,1,0,1,1,0,1,0,0,1,0,0,0,0]
def zvC:=qV [1,1,1,0,1,0,0,1,0,1,1,0,1,0,0,1,0,0,0,1,0]
def ztL:=qV [1,1,1,0,1,0,0,1,0,1,1,0,1,0,0,1,0,0,1,0]
def zsR:=qV [1,1,1,0,1,0,0,1,0,1,1,0,1,0,0,1,0,0,1,1,0]
def zxU:=qV [1,1,1,0,1,0,0,1,0,1,1,0,1,0,0,1,1]
def ze3:=zI [1,1,1,0,1,0,0,1,0,1,1,0,1,0] zca
def zcb:=zk pc0 wB ze3
def zvG:=qV [1,1,1,0,1,0,0,1,0,1,1,1,0,0]
def zuD:=qV [1,1,1,0,1,0,0,1,0,1,1,1,0,1,0]
def ztq:=qV [1,1,1,0,1,0,0,1,0,1,1,1,0,1,1]
def zwJ:=qV [1,1,1,0,1,0,0,1,0,1,1,1,1]
def zfg:=zI [1,1,1,0,1,0] zca
def zcL:=zk pc0 wB zfg
def ztj:=qV [1,1,1,1,0,0]
def zw9:=qV [1,1,1,1,0,1,0,0]
def zu4:=qV [1,1,1,1,1,0]
def zDX:=zk pc0 wB zca
def zAZ:=yb (qm pc0 wB (qy Tryz.prog 17)).run
theorem zHl :
 ((((∀ r s x0 x1,(fnC pc0 17).run r [x0,x1] s=ql (z4 (fun t s=>zAZ t s) (zDX.run r (sp 1 x1 (sp 0 x0 T.new)) s))) ∧
 (∀ s t,zAZ t s=yU (gp 240 t) (yj [gp 4 t,gp 5 t] s))) ∧
 ((∀ r s t,zDX.run r t s=za (fun t s=>za (fun t s=>za (fun t s=>za (fun t s=>za (fun t s=>za (fun t s=>.ret t s) (zu4.run r t s)) (za (fun t s=>zw (gp 18 t) (za (fun t s=>.ret t s) (zw9.run r t s)) (.nrm t s)) (ztj.run r t s))) (za (fun t s=>yT 0 (zcL.run r t s)) (ztn.run r t s))) (zsW.run r t s)) (za (fun t s=>zw (gp 12 t) (za (fun t s=>.ret t s) (zAV.run r t s)) (.nrm t s)) (zD8.run r t s))) (zDe.run r t s)) ∧
 ((∀ g r s t le,(zp6 g).run r t (le) s=zG (r.call 22 [gp 0 t] s) fun v1 s=>xUn .not v1 fun v2=>g.run r t (v2::v2::v1::gp 0 t::le) s) ∧
 (∀ g r s t le,(zgF g).run r t (.bool true::le) s=g.run r t (Go.Ev.undef::Go.Ev.undef::Go.Ev.undef::.bool true::le) s)))) ∧
 (((∀ g r s t le,(zgF g).run r t (.bool false::le) s=zt (gp 1 t) fun v5=>zj ⟨9,[]⟩ false .gtr v5 (V.nat .i64 200) fun v6=>g.run r t (v6::v5::gp 1 t::.bool false::le) s) ∧
 (∀ g r s t le x0 x1 x2 x3,(zpo g).run r t (x0::x1::x2::x3::le) s=qx x3 (fun _=>g.run r t (V.bool true::V.bool true::x0::x1::x2::x3::le) s) (fun _=>g.run r t (x0::x0::x0::x1::x2::x3::le) s))) ∧
 ((∀ g r s t le,(zgZ g).run r t (.bool true::le) s=g.run r t (Go.Ev.undef::Go.Ev.undef::Go.Ev.undef::.bool true::le) s) ∧
 ((∀ g r s t le,(zgZ g).run r t (.bool false::le) s=zG (r.call 27 [gp 1 t,V.nat .i64 500] s) fun v10 s=>xUn .not v10 fun v11=>g.run r t (v11::v10::gp 1 t::.bool false::le) s) ∧
 (∀ g r s t le x0 x1 x2 x3,(zj5 g).run r t (x0::x1::x2::x3::le) s=qx x3 (fun _=>g.run r (sp 12 (V.bool true) t) (V.bool true::x0::x1::x2::x3::le) s) (fun _=>g.run r (sp 12 x0 t) (x0::x0::x1::x2::x3::le) s)))))):=by
 and_intros<;>(intros;kernel_rfl)
theorem zu5:∀ r s t,zDe.run r t s=.nrm (sp 5 (V.nat .i64 0) (sp 4 (V.nil 1) t)) s:=ze 2
theorem zxE:∀ r s t,zD8.run r t s=(zp6 (zgF (zpo (zgZ (zj5 yx))))).run r t [] s:=yE (by kernel_rfl) (chS rfl (by kernel_rfl) (chS rfl (by kernel_rfl) (chS rfl (by kernel_rfl) (chS rfl (by kernel_rfl) chL))))
theorem zxF:∀ r s t,zAV.run r t s=.nrm (sp 5 (V.nat .i64 1) (sp 4 (V.nil 1) t)) s:=ze 2
theorem zpI:∀ r s t,zsW.run r t s=zG (r.call 34 [gp 0 t] s) fun v1 s=>.nrm (sp 6 v1 t) s:=ze 3
theorem znf:∀ r s t,ztn.run r t s=.nrm (sp 7 (V.nat .i64 0) t) s:=ze 1
theorem zoY:∀ r s t,zxG.run r t s=zt (gp 1 t) fun v2=>zj ⟨9,[]⟩ false .lss (gp 7 t) v2 fun v3=>.nrm (sp 13 v3 t) s:=ze 4
theorem zpg:∀ r s t,ztG.run r t s=zj ⟨9,[]⟩ false .add (gp 7 t) (V.nat .i64 1) fun v1=>.nrm (sp 9 v1 (sp 8 (V.neg .i64 0) t)) s:=ze 4
theorem znR:∀ r s t,zvx.run r t s=.nrm (sp 10 (gp 6 t) t) s:=ze 2
theorem zsj:∀ r s t,zsZ.run r t s=.nrm (sp 11 (gp 7 t) t) s:=ze 2
theorem zne:∀ r s t,zvN.run r t s=zt (gp 1 t) fun v2=>zj ⟨9,[]⟩ false .lss (gp 11 t) v2 fun v3=>.nrm (sp 14 v3 t) s:=ze 4
theorem zqQ:∀ r s t,ztQ.run r t s=zB (gp 10 t) fun v1=>zf 0 v1 fun v2=>zb false 1 v2 s fun v3 s=>zg 1 (gp 1 t) (gp 11 t) fun v6=>zb false 1 v6 s fun v7 s=>zY ⟨7,[]⟩ (V.nil 0) false v3 v7 s fun v8=>.nrm (sp 10 v8 t) s:=zak 10
theorem znv:∀ r s t,zvC.run r t s=zj ⟨1,[]⟩ true .eql (gp 10 t) (V.nil 0) fun v1=>.nrm (sp 15 v1 t) s:=ze 2
theorem zrf:∀ r s t,ztL.run r t s=zB (gp 10 t) fun v1=>zf 1 v1 fun v2=>zb false 1 v2 s fun v3 s=>zj ⟨9,[]⟩ false .geq v3 (V.nat .i64 0) fun v4=>.nrm (sp 16 v4 t) s:=ze 5
theorem zpP:∀ r s t,zsR.run r t s=zB (gp 10 t) fun v1=>zf 1 v1 fun v2=>zb false 1 v2 s fun v3 s=>zj ⟨9,[]⟩ false .add (gp 11 t) (V.nat .i64 1) fun v5=>.nrm (sp 9 v5 (sp 8 v3 t)) s:=ze 8
theorem zqR:∀ r s t,zxU.run r t s=zj ⟨9,[]⟩ false .add (gp 11 t) (V.nat .i64 1) fun v1=>.nrm (sp 11 v1 t) s:=ze 3
theorem zsi:∀ r s t,zvG.run r t s=zj ⟨9,[]⟩ false .geq (gp 8 t) (V.nat .i64 0) fun v1=>.nrm (sp 17 v1 t) s:=ze 2
theorem zr7:∀ r s t,zuD.run r t s=zg 2 (gp 0 t) (gp 8 t) fun v3=>zf 1 v3 fun v4=>zb false 1 v4 s fun v5 s=>zX 3 1 (gp 4 t) v5 s fun v6 s=>.nrm (sp 4 v6 t) s:=ze 8
theorem znB:∀ r s t,ztq.run r t s=zg 1 (gp 1 t) (gp 7 t) fun v3=>zb false 1 v3 s fun v4 s=>wY [V.nat .i64 0] 1 fun l5z=>zq 1 v4 fun x5_0=>ye x5_0 0 l5z fun l5_0=>Go.Ev.newRow s 3 l5_0 false fun a5k _ s=>zX 3 1 (gp 4 t) (V.sl a5k 0 0 1 1) s fun v6 s=>.nrm (sp 4 v6 t) s:=ze 8
theorem zqc:∀ r s t,zwJ.run r t s=.nrm (sp 7 (gp 9 t) t) s:=ze 2
theorem zqP:∀ r s t,ztj.run r t s=zt (gp 4 t) fun v1=>zj ⟨9,[]⟩ false .gtr v1 (V.nat .i64 200) fun v2=>.nrm (sp 18 v2 t) s:=ze 3
theorem zr5:∀ r s t,zw9.run r t s=.nrm (sp 5 (V.nat .i64 2) (sp 4 (V.nil 1) t)) s:=ze 2
theorem zrg:∀ r s t,zu4.run r t s=.nrm (sp 5 (V.nat .i64 0) (sp 4 (gp 4 t) t)) s:=ze 3
theorem zEI:zW ze3=55:=by kernel_rfl
theorem zEN:zW zfg=110:=by kernel_rfl
theorem zdq:∀ r s t,zcb.run r t s=za (fun t s=>r.code wB ze3 t s) (za (fun t s=>za (fun t s=>zxU.run r t s) (yT 3 (za (fun t s=>za (fun t s=>zw (gp 16 t) (zsR.run r t s) (.nrm t s)) (ztL.run r t s)) (za (fun t s=>za (fun t s=>zw (gp 15 t) (.ext 2 t s) (.nrm t s)) (zvC.run r t s)) (ztQ.run r t s))))) (za (fun t s=>zw (gp 14 t) (.nrm t s) (.ext 2 t s)) (zvN.run r t s))):=by intros;kernel_rfl
theorem zp0:∀ r s t,zcL.run r t s=za (fun t s=>r.code wB zfg t s) (za (fun t s=>yT 1 (za (fun t s=>za (fun t s=>za (fun t s=>za (fun t s=>zwJ.run r t s) (za (fun t s=>zw (gp 17 t) (zuD.run r t s) (ztq.run r t s)) (zvG.run r t s))) (za (fun t s=>yT 2 (zcb.run r t s)) (zsZ.run r t s))) (zvx.run r t s)) (ztG.run r t s))) (za (fun t s=>zw (gp 13 t) (.nrm t s) (.ext 0 t s)) (zxG.run r t s))):=by intros;kernel_rfl
theorem jX:type_of% (aI zu5 <| aI zxE <| aI zxF <| aI zpI <| aI znf <| aI zoY <| aI zpg <| aI znR <| aI zsj <| aI zne <| aI zqQ <| aI znv <| aI zrf <| aI zpP <| aI zqR <| aI zsi <| aI zr7 <| aI znB <| aI zqc <| aI zqP <| aI zr5 <| aI zrg <| zHl):=aI zu5 <| aI zxE <| aI zxF <| aI zpI <| aI znf <| aI zoY <| aI zpg <| aI znR <| aI zsj <| aI zne <| aI zqQ <| aI znv <| aI zrf <| aI zpP <| aI zqR <| aI zsi <| aI zr7 <| aI znB <| aI zqc <| aI zqP <| aI zr5 <| aI zrg <| zHl
def wT:FI:=⟨548681513920,40,4⟩
def zeY:=qe Tryz.prog 20
def yi (l:List Nat):=zk pc0 wT (zI l zeY)
def zon:=yi [0]
def zoN:=yi [1,0,0]
def zmX:=yi [1,0,1,0,0,0]
def zkg:=yi [1,0,1,0,0,1,0,0]
def zke:=yi [1,0,1,0,1,0]
def zkE:=yi [1,1,0,0]
def zlX:=yi [1,1,0,1,0,0,0,0]
def zmi:=yi [1,1,0,1,0,0,1,0,0,0,0]
def zkp:=yi [1,1,0,1,0,0,1,0,0,0,1,0,0]
def zku:=yi [1,1,0,1,0,0,1,0,0,1,0]
def zlv:=yi [1,1,0,1,0,0,1,0,0,1,1,0,0]
def zmn:=yi [1,1,0,1,0,0,1,1]
def zbM:=zI [1,1,0,1,0] zeY
def y6:=zk pc0 wT zbM
def zkw:=yi [1,1,1,0]
def zqw:=zk pc0 wT zeY
def zoR:=yb (qm pc0 wT (qy Tryz.prog 20)).run
theorem zt7 :
 ((∀ r s x0 x1,(fnC pc0 20).run r [x0,x1] s=ql (z4 (fun t s=>zoR t s) (zqw.run r (sp 1 x1 (sp 0 x0 T.new)) s))) ∧
 ((∀ s t,zoR t s=yU (gp 240 t) (yj [gp 4 t] s)) ∧
 (∀ r s t,zqw.run r t s=za (fun t s=>za (fun t s=>za (fun t s=>za (fun t s=>.ret t s) (zkw.run r t s)) (za (fun t s=>yT 0 (y6.run r t s)) (zkE.run r t s))) (za (fun t s=>zw (gp 6 t) (za (fun t s=>za (fun t s=>.ret t s) (zke.run r t s)) (za (fun t s=>zw (gp 7 t) (za (fun t s=>.ret t s) (zkg.run r t s)) (.nrm t s)) (zmX.run r t s))) (.nrm t s)) (zoN.run r t s))) (zon.run r t s)))):=by
 and_intros<;>(intros;kernel_rfl)
theorem zkd:∀ r s t,zon.run r t s=.nrm (sp 4 (V.nat .i64 0) t) s:=ze 1
theorem zl6:∀ r s t,zoN.run r t s=zt (gp 0 t) fun v1=>zt (gp 1 t) fun v3=>zj ⟨7,[]⟩ false .neq v1 v3 fun v4=>.nrm (sp 6 v4 t) s:=ze 5
theorem zkO:∀ r s t,zmX.run r t s=zt (gp 0 t) fun v1=>zt (gp 1 t) fun v3=>zj ⟨9,[]⟩ false .lss v1 v3 fun v4=>.nrm (sp 7 v4 t) s:=ze 5
theorem zim:∀ r s t,zkg.run r t s=.nrm (sp 4 (V.neg .i64 0) t) s:=ze 1
theorem zhA:∀ r s t,zke.run r t s=.nrm (sp 4 (V.nat .i64 1) t) s:=ze 1
theorem ziG:∀ r s t,zkE.run r t s=.nrm (sp 5 (V.nat .i64 0) t) s:=ze 1
theorem zhp:∀ r s t,zlX.run r t s=zt (gp 0 t) fun v2=>zj ⟨9,[]⟩ false .lss (gp 5 t) v2 fun v3=>.nrm (sp 8 v3 t) s:=ze 4
theorem ziA:∀ r s t,zmi.run r t s=zg 1 (gp 0 t) (gp 5 t) fun v2=>zb false 1 v2 s fun v3 s=>zg 1 (gp 1 t) (gp 5 t) fun v6=>zb false 1 v6 s fun v7 s=>zj ⟨9,[]⟩ false .lss v3 v7 fun v8=>.nrm (sp 9 v8 t) s:=zak 9
theorem ziu:∀ r s t,zkp.run r t s=.nrm (sp 4 (V.neg .i64 0) t) s:=ze 1
theorem ziR:∀ r s t,zku.run r t s=zg 1 (gp 0 t) (gp 5 t) fun v2=>zb false 1 v2 s fun v3 s=>zg 1 (gp 1 t) (gp 5 t) fun v6=>zb false 1 v6 s fun v7 s=>zj ⟨9,[]⟩ false .gtr v3 v7 fun v8=>.nrm (sp 10 v8 t) s:=zak 9
theorem ziC:∀ r s t,zlv.run r t s=.nrm (sp 4 (V.nat .i64 1) t) s:=ze 1
theorem zhZ:∀ r s t,zmn.run r t s=zj ⟨9,[]⟩ false .add (gp 5 t) (V.nat .i64 1) fun v1=>.nrm (sp 5 v1 t) s:=ze 3
theorem ziP:∀ r s t,zkw.run r t s=.nrm (sp 4 (V.nat .i64 0) t) s:=ze 1
theorem zaH:∀ r s t,y6.run r t s=za (fun t s=>r.code wT zbM t s) (za (fun t s=>za (fun t s=>zmn.run r t s) (yT 1 (za (fun t s=>za (fun t s=>zw (gp 10 t) (za (fun t s=>.ret t s) (zlv.run r t s)) (.nrm t s)) (zku.run r t s)) (za (fun t s=>zw (gp 9 t) (za (fun t s=>.ret t s) (zkp.run r t s)) (.nrm t s)) (zmi.run r t s))))) (za (fun t s=>zw (gp 8 t) (.nrm t s) (.ext 0 t s)) (zlX.run r t s))):=by intros;kernel_rfl
theorem j5:type_of% (aI zkd <| aI zl6 <| aI zkO <| aI zim <| aI zhA <| aI ziG <| aI zhp <| aI ziA <| aI ziu <| aI ziR <| aI ziC <| aI zhZ <| aI ziP <| zt7):=aI zkd <| aI zl6 <| aI zkO <| aI zim <| aI zhA <| aI ziG <| aI zhp <| aI ziA <| aI ziu <| aI ziR <| aI ziC <| aI zhZ <| aI ziP <| zt7
def wL:FI:=⟨32213685184627228544,65,4⟩
def zaO:=qe Tryz.prog 22
def ji (l:List Nat):=zk pc0 wL (zI l zaO)
def zAz:=ji [0]
def zzX:=zI [1,0,0] zaO
def zAm:=zk pc0 wL zzX
def zgx:=qOf pc0 wL zzX
def zpD:=zgx 7 1 (dn 14 7)
def zgv:=zgx 4 3 (dn 11 4)
def zni:=zgx 0 4 []
def zBi:=ji [1,0,1,0,0]
def ztf:=ji [1,1,0,0]
def zwl:=ji [1,1,0,1,0,0,0]
def zxL:=ji [1,1,0,1,0,0,1,1,0,0,0]
def ztd:=zI [1,1,0,1,0,0,1,1,0,0,1,0,0] zaO
def zuH:=zk pc0 wL ztd
def yM:=qOf pc0 wL ztd
def zhG:=yM 27 1 (dn 49 27)
def zdk:=yM 23 4 (dn 45 23)
def zhE:=yM 21 2 (dn 43 21)
def zde:=yM 17 4 (dn 39 17)
def ziM:=yM 15 2 (dn 37 15)
def zc6:=yM 11 4 (dn 33 11)
def zkZ:=yM 9 2 (dn 31 9)
def zeW:=yM 5 4 (dn 27 5)
def zkt:=yM 0 5 []
def zx4:=ji [1,1,0,1,0,0,1,1,0,0,1,0,1,0,0]
def zxd:=ji [1,1,0,1,0,0,1,1,0,0,1,1,0]
def zuC:=ji [1,1,0,1,0,0,1,1,0,0,1,1,1,0,0,0]
def zv0:=ji [1,1,0,1,0,0,1,1,0,0,1,1,1,0,0,1,1,0,0,0]
def zwB:=ji [1,1,0,1,0,0,1,1,0,0,1,1,1,0,0,1,1,0,0,1,0]
def zwU:=ji [1,1,0,1,0,0,1,1,0,0,1,1,1,0,0,1,1,0,0,1,1,0,0]
def ztr:=ji [1,1,0,1,0,0,1,1,0,0,1,1,1,0,0,1,1,1]
def zi4:=zI [1,1,0,1,0,0,1,1,0,0,1,1,1,0] zaO
def zcz:=zk pc0 wL zi4
def zuw:=ji [1,1,0,1,0,0,1,1,1]
def zjC:=zI [1,1,0,1,0] zaO
def zcA:=zk pc0 wL zjC
def zyg:=ji [1,1,1,0]
def zEh:=zk pc0 wL zaO
def zCn:=yb (qm pc0 wL (qy Tryz.prog 22)).run
theorem zGh :
 (((((∀ r s x0,(fnC pc0 22).run r [x0] s=ql (z4 (fun t s=>zCn t s) (zEh.run r (sp 0 x0 T.new) s))) ∧
 (∀ s t,zCn t s=yU (gp 240 t) (yj [gp 2 t] s))) ∧
 ((∀ r s t,zEh.run r t s=za (fun t s=>za (fun t s=>za (fun t s=>za (fun t s=>.ret t s) (zyg.run r t s)) (za (fun t s=>yT 0 (zcA.run r t s)) (ztf.run r t s))) (za (fun t s=>zw (gp 7 t) (za (fun t s=>.ret t s) (zBi.run r t s)) (.nrm t s)) (zAm.run r t s))) (zAz.run r t s)) ∧
 ((∀ g r s t le,(zni g).run r t (le) s=zt (gp 0 t) fun v1=>zj ⟨9,[]⟩ false .lss v1 (V.nat .i64 1) fun v2=>g.run r t (v2::v2::v1::gp 0 t::le) s) ∧
 (∀ g r s t le,(zgv g).run r t (.bool true::le) s=g.run r t (Go.Ev.undef::Go.Ev.undef::Go.Ev.undef::.bool true::le) s)))) ∧
 (((∀ g r s t le,(zgv g).run r t (.bool false::le) s=zt (gp 0 t) fun v5=>zj ⟨9,[]⟩ false .gtr v5 (V.nat .i64 20) fun v6=>g.run r t (v6::v5::gp 0 t::.bool false::le) s) ∧
 (∀ g r s t le x0 x1 x2 x3,(zpD g).run r t (x0::x1::x2::x3::le) s=qx x3 (fun _=>g.run r (sp 7 (V.bool true) t) (V.bool true::x0::x1::x2::x3::le) s) (fun _=>g.run r (sp 7 x0 t) (x0::x0::x1::x2::x3::le) s))) ∧
 ((∀ g r s t le,(zkt g).run r t (le) s=zf 0 (gp 4 t) fun v0=>zb false 1 v0 s fun v1 s=>zt v1 fun v2=>zj ⟨9,[]⟩ false .lss v2 (V.nat .i64 1) fun v3=>g.run r t (v3::v3::v2::v1::v0::le) s) ∧
 ((∀ g r s t le,(zeW g).run r t (.bool true::le) s=g.run r t (Go.Ev.undef::Go.Ev.undef::Go.Ev.undef::Go.Ev.undef::.bool true::le) s) ∧
 (∀ g r s t le,(zeW g).run r t (.bool false::le) s=zf 0 (gp 4 t) fun v5=>zb false 1 v5 s fun v6 s=>zt v6 fun v7=>zj ⟨9,[]⟩ false .gtr v7 (V.nat .i64 20) fun v8=>g.run r t (v8::v7::v6::v5::.bool false::le) s))))) ∧
 ((((∀ g r s t le x0 x1 x2 x3 x4,(zkZ g).run r t (x0::x1::x2::x3::x4::le) s=qx x4 (fun _=>g.run r t (V.bool true::V.bool true::x0::x1::x2::x3::x4::le) s) (fun _=>g.run r t (x0::x0::x0::x1::x2::x3::x4::le) s)) ∧
 (∀ g r s t le,(zc6 g).run r t (.bool true::le) s=g.run r t (Go.Ev.undef::Go.Ev.undef::Go.Ev.undef::Go.Ev.undef::.bool true::le) s)) ∧
 ((∀ g r s t le,(zc6 g).run r t (.bool false::le) s=zf 1 (gp 4 t) fun v11=>zb false 1 v11 s fun v12 s=>zt v12 fun v13=>zj ⟨9,[]⟩ false .gtr v13 (V.nat .i64 20) fun v14=>g.run r t (v14::v13::v12::v11::.bool false::le) s) ∧
 ((∀ g r s t le x0 x1 x2 x3 x4,(ziM g).run r t (x0::x1::x2::x3::x4::le) s=qx x4 (fun _=>g.run r t (V.bool true::V.bool true::x0::x1::x2::x3::x4::le) s) (fun _=>g.run r t (x0::x0::x0::x1::x2::x3::x4::le) s)) ∧
 (∀ g r s t le,(zde g).run r t (.bool true::le) s=g.run r t (Go.Ev.undef::Go.Ev.undef::Go.Ev.undef::Go.Ev.undef::.bool true::le) s)))) ∧
 (((∀ g r s t le,(zde g).run r t (.bool false::le) s=zf 0 (gp 4 t) fun v17=>zb false 1 v17 s fun v18 s=>zG (r.call 27 [v18,V.nat .i64 500] s) fun v19 s=>xUn .not v19 fun v20=>g.run r t (v20::v19::v18::v17::.bool false::le) s) ∧
 (∀ g r s t le x0 x1 x2 x3 x4,(zhE g).run r t (x0::x1::x2::x3::x4::le) s=qx x4 (fun _=>g.run r t (V.bool true::V.bool true::x0::x1::x2::x3::x4::le) s) (fun _=>g.run r t (x0::x0::x0::x1::x2::x3::x4::le) s))) ∧
 ((∀ g r s t le,(zdk g).run r t (.bool true::le) s=g.run r t (Go.Ev.undef::Go.Ev.undef::Go.Ev.undef::Go.Ev.undef::.bool true::le) s) ∧
 ((∀ g r s t le,(zdk g).run r t (.bool false::le) s=zf 1 (gp 4 t) fun v23=>zb false 1 v23 s fun v24 s=>zG (r.call 27 [v24,V.nat .i64 500] s) fun v25 s=>xUn .not v25 fun v26=>g.run r t (v26::v25::v24::v23::.bool false::le) s) ∧
 (∀ g r s t le x0 x1 x2 x3 x4,(zhG g).run r t (x0::x1::x2::x3::x4::le) s=qx x4 (fun _=>g.run r (sp 12 (V.bool true) t) (V.bool true::x0::x1::x2::x3::x4::le) s) (fun _=>g.run r (sp 12 x0 t) (x0::x0::x1::x2::x3::x4::le) s))))))):=by
 and_intros<;>(intros;kernel_rfl)
theorem ztN:∀ r s t,zAz.run r t s=.nrm (sp 2 (V.bool false) t) s:=ze 1
theorem zxo:∀ r s t,zAm.run r t s=(zni (zgv (zpD yx))).run r t [] s:=yE (by kernel_rfl) (chS rfl (by kernel_rfl) (chS rfl (by kernel_rfl) chL))
theorem zxq:∀ r s t,zBi.run r t s=.nrm (sp 2 (V.bool false) t) s:=ze 1
theorem zq9:∀ r s t,ztf.run r t s=zt (gp 0 t) fun v1=>.nrm (sp 10 (V.nat .i64 0) (sp 9 v1 (sp 8 (gp 0 t) t))) s:=ze 3
theorem zoc:∀ r s t,zwl.run r t s=zj ⟨9,[]⟩ false .lss (gp 10 t) (gp 9 t) fun v0=>.nrm (sp 11 v0 t) s:=ze 1
theorem zpc:∀ r s t,zxL.run r t s=zg 2 (gp 8 t) (gp 10 t) fun v1=>zb true 2 v1 s fun v2 s=>Go.Ev.newRow s 49 [V.nil 1,V.nil 1] false fun a3k _ s=>zH 2 (V.ptr a3k 0 0) v2 s fun _ s=>.nrm (sp 3 (gp 10 t) (sp 4 (V.ptr a3k 0 0) t)) s:=ze 6
theorem zoC:∀ r s t,zuH.run r t s=(zkt (zeW (zkZ (zc6 (ziM (zde (zhE (zdk (zhG yx))))))))).run r t [] s:=yE (by kernel_rfl) (chS rfl (by kernel_rfl) (chS rfl (by kernel_rfl) (chS rfl (by kernel_rfl) (chS rfl (by kernel_rfl) (chS rfl (by kernel_rfl) (chS rfl (by kernel_rfl) (chS rfl (by kernel_rfl) (chS rfl (by kernel_rfl) chL))))))))
theorem znP:∀ r s t,zx4.run r t s=.nrm (sp 2 (V.bool false) t) s:=ze 1
theorem zm5:∀ r s t,zxd.run r t s=yr 49 2 (gp 0 t) none (some (gp 3 t)) none s fun v2=>zt v2 fun v3=>.nrm (sp 15 (V.nat .i64 0) (sp 14 v3 (sp 13 v2 t))) s:=ze 5
theorem zq3:∀ r s t,zuC.run r t s=zj ⟨9,[]⟩ false .lss (gp 15 t) (gp 14 t) fun v0=>.nrm (sp 16 v0 t) s:=ze 1
theorem zpN:∀ r s t,zv0.run r t s=zg 2 (gp 13 t) (gp 15 t) fun v0=>zb true 2 v0 s fun v1 s=>Go.Ev.newRow s 49 [V.nil 1,V.nil 1] false fun a2k _ s=>zH 2 (V.ptr a2k 0 0) v1 s fun _ s=>.nrm (sp 6 (V.ptr a2k 0 0) t) s:=ze 4
theorem zqT:∀ r s t,zwB.run r t s=zf 0 (gp 4 t) fun v0=>zb false 1 v0 s fun v1 s=>zf 0 (gp 6 t) fun v2=>zb false 1 v2 s fun v3 s=>zG (r.call 40 [v1,v3] s) fun v4 s=>.nrm (sp 17 v4 t) s:=ze 5
theorem zqf:∀ r s t,zwU.run r t s=.nrm (sp 2 (V.bool false) t) s:=ze 1
theorem zq2:∀ r s t,ztr.run r t s=zj ⟨9,[]⟩ false .add (gp 15 t) (V.nat .i64 1) fun v0=>.nrm (sp 15 v0 t) s:=ze 2
theorem zqk:∀ r s t,zuw.run r t s=zj ⟨9,[]⟩ false .add (gp 10 t) (V.nat .i64 1) fun v0=>.nrm (sp 10 v0 t) s:=ze 2
theorem zrd:∀ r s t,zyg.run r t s=.nrm (sp 2 (V.bool true) t) s:=ze 1
theorem zFt:zW zi4=32:=by kernel_rfl
theorem zEX:zW zjC=98:=by kernel_rfl
theorem zgz:∀ r s t,zcz.run r t s=za (fun t s=>r.code wL zi4 t s) (za (fun t s=>za (fun t s=>za (fun t s=>ztr.run r t s) (yT 3 (za (fun t s=>za (fun t s=>zw (gp 17 t) (za (fun t s=>.ret t s) (zwU.run r t s)) (.nrm t s)) (zwB.run r t s)) (zv0.run r t s)))) (zw (gp 16 t) (.nrm t s) (.ext 2 t s))) (zuC.run r t s)):=by intros;kernel_rfl
theorem j8:∀ r s t,zcA.run r t s=za (fun t s=>r.code wL zjC t s) (za (fun t s=>za (fun t s=>za (fun t s=>zuw.run r t s) (yT 1 (za (fun t s=>za (fun t s=>za (fun t s=>yT 2 (zcz.run r t s)) (zxd.run r t s)) (za (fun t s=>zw (gp 12 t) (za (fun t s=>.ret t s) (zx4.run r t s)) (.nrm t s)) (zuH.run r t s))) (zxL.run r t s)))) (zw (gp 11 t) (.nrm t s) (.ext 0 t s))) (zwl.run r t s)):=by intros;kernel_rfl
theorem yN:type_of% (aI ztN <| aI zxo <| aI zxq <| aI zq9 <| aI zoc <| aI zpc <| aI zoC <| aI znP <| aI zm5 <| aI zq3 <| aI zpN <| aI zqT <| aI zqf <| aI zq2 <| aI zqk <| aI zrd <| zGh):=aI ztN <| aI zxo <| aI zxq <| aI zq9 <| aI zoc <| aI zpc <| aI zoC <| aI znP <| aI zm5 <| aI zq3 <| aI zpN <| aI zqT <| aI zqf <| aI zq2 <| aI zqk <| aI zrd <| zGh
def zfr:FI:=⟨480,9,4⟩
def zeq:=qe Tryz.prog 27
def zq5:=zk pc0 zfr (zI [0] zeq)
def zmP:=zk pc0 zfr (zI [1,0] zeq)
def znM:=zk pc0 zfr zeq
def zpS:=yb (qm pc0 zfr (qy Tryz.prog 27)).run
theorem zxX :
 ((∀ r s x0 x1,(fnC pc0 27).run r [x0,x1] s=ql (z4 (fun t s=>zpS t s) (znM.run r (sp 1 x1 (sp 0 x0 T.new)) s))) ∧
 ((∀ s t,zpS t s=yU (gp 240 t) (yj [gp 4 t] s)) ∧
 (∀ r s t,znM.run r t s=za (fun t s=>za (fun t s=>.ret t s) (zmP.run r t s)) (zq5.run r t s)))):=by
 and_intros<;>(intros;kernel_rfl)
theorem zjT:∀ r s t,zq5.run r t s=zq 1 (gp 1 t) fun l0=>Go.Ev.newRow s 3 l0 false fun a0k _ s=>.nrm (sp 4 (V.bool false) (sp 3 (V.ptr a0k 0 0) t)) s:=ze 2
theorem zlN:∀ r s t,zmP.run r t s=zG (r.call 50 [gp 0 t,(V.fn (.func 51) [] [gp 3 t])] s) fun v2 s=>xUn .not v2 fun v3=>.nrm (sp 4 v3 t) s:=ze 5
theorem zqi:type_of% (aI zjT <| aI zlN <| zxX):=aI zjT <| aI zlN <| zxX
def ze0:FI:=⟨72057559552112640,56,4⟩
def zhk:=qe Tryz.prog 34
def jh (l:List Nat):=zk pc0 ze0 (zI l zhk)
def zHD:=jh [0]
def zGt:=jh [1,0]
def zHr:=jh [1,1,0]
def zGC:=jh [1,1,1,0]
def zBE:=jh [1,1,1,1,0,0]
def zA5:=jh [1,1,1,1,0,1,0,0,0]
def zAS:=jh [1,1,1,1,0,1,0,0,1,1,0,0,0]
def zDY:=jh [1,1,1,1,0,1,0,0,1,1,0,0,1,0]
def zA3:=jh [1,1,1,1,0,1,0,0,1,1,0,0,1,1,0,0]
def zC2:=jh [1,1,1,1,0,1,0,0,1,1,0,0,1,1,0,1,0,0,0]
def zBO:=jh [1,1,1,1,0,1,0,0,1,1,0,0,1,1,0,1,0,0,1,1,0,0,0]
def zzS:=jh [1,1,1,1,0,1,0,0,1,1,0,0,1,1,0,1,0,0,1,1,0,0,1,0,0]
def zBe:=jh [1,1,1,1,0,1,0,0,1,1,0,0,1,1,0,1,0,0,1,1,0,0,1,0,1,0]
def zAk:=jh [1,1,1,1,0,1,0,0,1,1,0,0,1,1,0,1,0,0,1,1,0,0,1,1]
def zA6:=jh [1,1,1,1,0,1,0,0,1,1,0,0,1,1,0,1,0,0,1,1,1]
def zhW:=zI [1,1,1,1,0,1,0,0,1,1,0,0,1,1,0,1,0] zhk
def zek:=zk pc0 ze0 zhW
def zAj:=jh [1,1,1,1,0,1,0,0,1,1,0,0,1,1,1]
def zCe:=jh [1,1,1,1,0,1,0,0,1,1,1]
def zqF:=zI [1,1,1,1,0,1,0] zhk
def zdL:=zk pc0 ze0 zqF
def zEq:=jh [1,1,1,1,1,0]
def zGD:=zk pc0 ze0 zhk
def zGI:=yb (qm pc0 ze0 (qy Tryz.prog 34)).run
theorem zKs :
 ((∀ r s x0,(fnC pc0 34).run r [x0] s=ql (z4 (fun t s=>zGI t s) (zGD.run r (sp 0 x0 T.new) s))) ∧
 ((∀ s t,zGI t s=yU (gp 240 t) (yj [gp 2 t] s)) ∧
 (∀ r s t,zGD.run r t s=za (fun t s=>za (fun t s=>za (fun t s=>za (fun t s=>za (fun t s=>za (fun t s=>.ret t s) (zEq.run r t s)) (za (fun t s=>yT 0 (zdL.run r t s)) (zBE.run r t s))) (zGC.run r t s)) (zHr.run r t s)) (zGt.run r t s)) (zHD.run r t s)))):=by
 and_intros<;>(intros;kernel_rfl)
theorem zCh:∀ r s t,zHD.run r t s=.nrm (sp 2 (V.nil 0) t) s:=ze 1
theorem zzW:∀ r s t,zGt.run r t s=Go.Ev.newRow s 3 [V.nat .i64 0] false fun a0k _ s=>zH 1 (V.ptr a0k 0 0) (V.nat .i64 0) s fun _ s=>.nrm (sp 3 (V.ptr a0k 0 0) t) s:=ze 2
theorem zAD:∀ r s t,zHr.run r t s=.nrm (sp 4 (V.fn (.func 66) [] [gp 3 t]) t) s:=ze 2
theorem zAT:∀ r s t,zGC.run r t s=jy r (gp 4 t) [] t s fun v1 s=>.nrm (sp 5 v1 t) s:=ze 3
theorem zvU:∀ r s t,zBE.run r t s=zt (gp 0 t) fun v1=>.nrm (sp 13 (V.nat .i64 0) (sp 12 v1 (sp 11 (gp 0 t) t))) s:=ze 3
theorem zww:∀ r s t,zA5.run r t s=zj ⟨9,[]⟩ false .lss (gp 13 t) (gp 12 t) fun v0=>.nrm (sp 14 v0 t) s:=ze 1
theorem zya:∀ r s t,zAS.run r t s=zg 2 (gp 11 t) (gp 13 t) fun v1=>zb true 2 v1 s fun v2 s=>Go.Ev.newRow s 49 [V.nil 1,V.nil 1] false fun a3k _ s=>zH 2 (V.ptr a3k 0 0) v2 s fun _ s=>.nrm (sp 6 (gp 13 t) (sp 7 (V.ptr a3k 0 0) t)) s:=ze 6
theorem zyq:∀ r s t,zDY.run r t s=.nrm (sp 8 (gp 5 t) t) s:=ze 2
theorem zxP:∀ r s t,zA3.run r t s=zf 0 (gp 7 t) fun v0=>zb false 1 v0 s fun v1 s=>zt v1 fun v2=>.nrm (sp 17 (V.nat .i64 0) (sp 16 v2 (sp 15 v1 t))) s:=ze 4
theorem zsN:∀ r s t,zC2.run r t s=zj ⟨9,[]⟩ false .lss (gp 17 t) (gp 16 t) fun v0=>.nrm (sp 18 v0 t) s:=ze 1
theorem zwI:∀ r s t,zBO.run r t s=zg 1 (gp 15 t) (gp 17 t) fun v0=>zb false 1 v0 s fun v1 s=>.nrm (sp 10 v1 t) s:=ze 3
theorem zsS:∀ r s t,zzS.run r t s=zB (gp 8 t) fun v1=>zf 0 v1 fun v2=>zb false 1 v2 s fun v3 s=>zY ⟨7,[]⟩ (V.nil 0) false v3 (gp 10 t) s fun v5=>zj ⟨1,[]⟩ true .eql v5 (V.nil 0) fun v6=>.nrm (sp 19 v6 t) s:=ze 7
theorem ztm:∀ r s t,zBe.run r t s=zB (gp 8 t) fun v1=>zf 0 v1 fun v2=>zb false 1 v2 s fun v3 s=>jy r.det (gp 4 t) [] t s fun v6 s=>zb false 1 v2 s fun v7 s=>zei (yQ v7 v3) (qw ⟨7,[]⟩ v3 (gp 10 t) v6 s fun _ s=>.nrm t s) eA:=zak 9
theorem zx3:∀ r s t,zAk.run r t s=zB (gp 8 t) fun v1=>zf 0 v1 fun v2=>zb false 1 v2 s fun v3 s=>zY ⟨7,[]⟩ (V.nil 0) false v3 (gp 10 t) s fun v5=>.nrm (sp 8 v5 t) s:=ze 7
theorem zuS:∀ r s t,zA6.run r t s=zj ⟨9,[]⟩ false .add (gp 17 t) (V.nat .i64 1) fun v0=>.nrm (sp 17 v0 t) s:=ze 2
theorem zx8:∀ r s t,zAj.run r t s=zB (gp 8 t) fun v2=>zf 1 v2 fun v3=>zH 1 v3 (gp 6 t) s fun _ s=>.nrm t s:=ze 5
theorem zw4:∀ r s t,zCe.run r t s=zj ⟨9,[]⟩ false .add (gp 13 t) (V.nat .i64 1) fun v0=>.nrm (sp 13 v0 t) s:=ze 2
theorem zs4:∀ r s t,zEq.run r t s=.nrm (sp 2 (gp 5 t) t) s:=ze 2
theorem zIG:zW zhW=47:=by kernel_rfl
theorem zIH:zW zqF=86:=by kernel_rfl
theorem zjm:∀ r s t,zek.run r t s=za (fun t s=>r.code ze0 zhW t s) (za (fun t s=>za (fun t s=>za (fun t s=>zA6.run r t s) (yT 3 (za (fun t s=>za (fun t s=>zAk.run r t s) (za (fun t s=>zw (gp 19 t) (zBe.run r t s) (.nrm t s)) (zzS.run r t s))) (zBO.run r t s)))) (zw (gp 18 t) (.nrm t s) (.ext 2 t s))) (zC2.run r t s)):=by intros;kernel_rfl
theorem ztP:∀ r s t,zdL.run r t s=za (fun t s=>r.code ze0 zqF t s) (za (fun t s=>za (fun t s=>za (fun t s=>zCe.run r t s) (yT 1 (za (fun t s=>za (fun t s=>za (fun t s=>zAj.run r t s) (za (fun t s=>yT 2 (zek.run r t s)) (zA3.run r t s))) (zDY.run r t s)) (zAS.run r t s)))) (zw (gp 14 t) (.nrm t s) (.ext 0 t s))) (zA5.run r t s)):=by intros;kernel_rfl
theorem ze7:type_of% (aI zCh <| aI zzW <| aI zAD <| aI zAT <| aI zvU <| aI zww <| aI zya <| aI zyq <| aI zxP <| aI zsN <| aI zwI <| aI zsS <| aI ztm <| aI zx3 <| aI zuS <| aI zx8 <| aI zw4 <| aI zs4 <| zKs):=aI zCh <| aI zzW <| aI zAD <| aI zAT <| aI zvU <| aI zww <| aI zya <| aI zyq <| aI zxP <| aI zsN <| aI zwI <| aI zsS <| aI ztm <| aI zx3 <| aI zuS <| aI zx8 <| aI zw4 <| aI zs4 <| zKs
def zhB:FI:=⟨50301888,26,4⟩
def ziY:=qe Tryz.prog 40
def zae (l:List Nat):=zk pc0 zhB (zI l ziY)
def zAU:=zae [0]
def zA9:=zae [1,0,0]
def zC3:=zae [1,0,1,0,0]
def zvL:=zae [1,1,0,0]
def zuG:=zae [1,1,0,1,0,0,0]
def zvh:=zae [1,1,0,1,0,0,1,1,0,0,0]
def zyt:=zae [1,1,0,1,0,0,1,1,0,0,1,0]
def zwR:=zae [1,1,0,1,0,0,1,1,0,0,1,1,0,0]
def zyb:=zae [1,1,0,1,0,0,1,1,1]
def zjF:=zI [1,1,0,1,0] ziY
def zcQ:=zk pc0 zhB zjF
def zv4:=zae [1,1,1,0]
def zCC:=zk pc0 zhB ziY
def zC5:=yb (qm pc0 zhB (qy Tryz.prog 40)).run
theorem zGW :
 ((∀ r s x0 x1,(fnC pc0 40).run r [x0,x1] s=ql (z4 (fun t s=>zC5 t s) (zCC.run r (sp 1 x1 (sp 0 x0 T.new)) s))) ∧
 ((∀ s t,zC5 t s=yU (gp 240 t) (yj [gp 4 t] s)) ∧
 (∀ r s t,zCC.run r t s=za (fun t s=>za (fun t s=>za (fun t s=>za (fun t s=>.ret t s) (zv4.run r t s)) (za (fun t s=>yT 0 (zcQ.run r t s)) (zvL.run r t s))) (za (fun t s=>zw (gp 6 t) (za (fun t s=>.ret t s) (zC3.run r t s)) (.nrm t s)) (zA9.run r t s))) (zAU.run r t s)))):=by
 and_intros<;>(intros;kernel_rfl)
theorem ztw:∀ r s t,zAU.run r t s=.nrm (sp 4 (V.bool false) t) s:=ze 1
theorem zt2:∀ r s t,zA9.run r t s=zt (gp 0 t) fun v1=>zt (gp 1 t) fun v3=>zj ⟨7,[]⟩ false .neq v1 v3 fun v4=>.nrm (sp 6 v4 t) s:=ze 5
theorem zwZ:∀ r s t,zC3.run r t s=.nrm (sp 4 (V.bool false) t) s:=ze 1
theorem zoB:∀ r s t,zvL.run r t s=zt (gp 0 t) fun v1=>.nrm (sp 8 (V.nat .i64 0) (sp 7 v1 t)) s:=ze 3
theorem zr1:∀ r s t,zuG.run r t s=zj ⟨9,[]⟩ false .lss (gp 8 t) (gp 7 t) fun v0=>.nrm (sp 9 v0 t) s:=ze 1
theorem zpq:∀ r s t,zvh.run r t s=.nrm (sp 5 (gp 8 t) t) s:=ze 2
theorem zoZ:∀ r s t,zyt.run r t s=zg 1 (gp 0 t) (gp 5 t) fun v2=>zb false 1 v2 s fun v3 s=>zg 1 (gp 1 t) (gp 5 t) fun v6=>zb false 1 v6 s fun v7 s=>zj ⟨7,[]⟩ false .neq v3 v7 fun v8=>.nrm (sp 10 v8 t) s:=zak 9
theorem zpA:∀ r s t,zwR.run r t s=.nrm (sp 4 (V.bool false) t) s:=ze 1
theorem zoP:∀ r s t,zyb.run r t s=zj ⟨9,[]⟩ false .add (gp 8 t) (V.nat .i64 1) fun v0=>.nrm (sp 8 v0 t) s:=ze 2
theorem zqN:∀ r s t,zv4.run r t s=.nrm (sp 4 (V.bool true) t) s:=ze 1
theorem zEE:zW zjF=34:=by kernel_rfl
theorem zgn:∀ r s t,zcQ.run r t s=za (fun t s=>r.code zhB zjF t s) (za (fun t s=>za (fun t s=>za (fun t s=>zyb.run r t s) (yT 1 (za (fun t s=>za (fun t s=>zw (gp 10 t) (za (fun t s=>.ret t s) (zwR.run r t s)) (.nrm t s)) (zyt.run r t s)) (zvh.run r t s)))) (zw (gp 9 t) (.nrm t s) (.ext 0 t s))) (zuG.run r t s)):=by intros;kernel_rfl
theorem zdK:type_of% (aI ztw <| aI zt2 <| aI zwZ <| aI zoB <| aI zr1 <| aI zpq <| aI zoZ <| aI zpA <| aI zoP <| aI zqN <| zGW):=aI ztw <| aI zt2 <| aI zwZ <| aI zoB <| aI zr1 <| aI zpq <| aI zoZ <| aI zpA <| aI zoP <| aI zqN <| zGW
def wM:FI:=⟨480,9,4⟩
def zac:=qe Tryz.prog 50
def zds:=zk pc0 wM (zI [0] zac)
def zdz:=zk pc0 wM (zI [1,0] zac)
def zdy:=zk pc0 wM zac
def zdx:=yb (qm pc0 wM (qy Tryz.prog 50)).run
theorem zed :
 ((∀ r s x0 x1,(fnC pc0 50).run r [x0,x1] s=ql (z4 (fun t s=>zdx t s) (zdy.run r (sp 1 x1 (sp 0 x0 T.new)) s))) ∧
 ((∀ s t,zdx t s=yU (gp 240 t) (yj [gp 4 t] s)) ∧
 (∀ r s t,zdy.run r t s=za (fun t s=>za (fun t s=>.ret t s) (zdz.run r t s)) (zds.run r t s)))):=by
 and_intros<;>(intros;kernel_rfl)
theorem zcD:∀ r s t,zds.run r t s=.nrm (sp 4 (V.bool false) t) s:=ze 1
theorem zcI:∀ r s t,zdz.run r t s=zG (r.call 92 [gp 0 t,gp 1 t] s) fun v2 s=>zj ⟨9,[]⟩ false .geq v2 (V.nat .i64 0) fun v3=>.nrm (sp 4 v3 t) s:=ze 5
theorem zms:type_of% (aI zcD <| aI zcI <| zed):=aI zcD <| aI zcI <| zed
def za0:FI:=⟨2032,11,4⟩
def zcT:=qe Tryz.prog 51
def zlY:=zk pc0 za0 (zI [0] zcT)
def zlz:=zI [1,0] zcT
def zmp:=zk pc0 za0 zlz
def zbW:=qOf pc0 za0 zlz
def zfX:=zbW 6 2 (dn 10 6)
def zbZ:=zbW 3 3 [7,6,5]
def zf3:=zbW 0 3 []
def zkk:=zk pc0 za0 zcT
def zkz:=yb (qm pc0 za0 (qy Tryz.prog 51)).run
theorem znJ :
 (((∀ r s x0 x1,(fnC pc0 51).run r [x0,x1] s=ql (z4 (fun t s=>zkz t s) (zkk.run r (sp 1 x1 (sp 0 x0 T.new)) s))) ∧
 ((∀ s t,zkz t s=yU (gp 240 t) (yj [gp 3 t] s)) ∧
 (∀ r s t,zkk.run r t s=za (fun t s=>za (fun t s=>.ret t s) (zmp.run r t s)) (zlY.run r t s)))) ∧
 (((∀ g r s t le,(zf3 g).run r t (le) s=zj ⟨9,[]⟩ false .lss (gp 0 t) (V.nat .i64 1) fun v1=>g.run r t (v1::v1::gp 0 t::le) s) ∧
 (∀ g r s t le,(zbZ g).run r t (.bool true::le) s=g.run r t (Go.Ev.undef::Go.Ev.undef::Go.Ev.undef::.bool true::le) s)) ∧
 ((∀ g r s t le,(zbZ g).run r t (.bool false::le) s=zb false 1 (gp 1 t) s fun v4 s=>zj ⟨9,[]⟩ false .gtr (gp 0 t) v4 fun v5=>g.run r t (v5::v4::gp 0 t::.bool false::le) s) ∧
 (∀ g r s t le x0 x1 x2 x3,(zfX g).run r t (x0::x1::x2::x3::le) s=qx x3 (fun _=>g.run r (sp 3 (V.bool true) t) (V.bool true::V.bool true::x0::x1::x2::x3::le) s) (fun _=>g.run r (sp 3 x0 t) (x0::x0::x0::x1::x2::x3::le) s))))):=by
 and_intros<;>(intros;kernel_rfl)
theorem ziO:∀ r s t,zlY.run r t s=.nrm (sp 3 (V.bool false) t) s:=ze 1
theorem zhr:∀ r s t,zmp.run r t s=(zf3 (zbZ (zfX yx))).run r t [] s:=yE (by kernel_rfl) (chS rfl (by kernel_rfl) (chS rfl (by kernel_rfl) chL))
theorem zkx:type_of% (aI ziO <| aI zhr <| znJ):=aI ziO <| aI zhr <| znJ
def zzo:FI:=⟨252,8,4⟩
def zwn:=qe Tryz.prog 66
def zzp (l:List Nat):=zk pc0 zzo (zI l zwn)
def zzV:=zzp [0]
def zBy:=zzp [1,0]
def zAW:=zzp [1,1,0]
def zAo:=zk pc0 zzo zwn
def zC9:=yb (qm pc0 zzo (qy Tryz.prog 66)).run
theorem zGP :
 ((∀ r s x0,(fnC pc0 66).run r [x0] s=ql (z4 (fun t s=>zC9 t s) (zAo.run r (sp 0 x0 T.new) s))) ∧
 ((∀ s t,zC9 t s=yU (gp 240 t) (yj [gp 1 t] s)) ∧
 (∀ r s t,zAo.run r t s=za (fun t s=>za (fun t s=>za (fun t s=>.ret t s) (zAW.run r t s)) (zBy.run r t s)) (zzV.run r t s)))):=by
 and_intros<;>(intros;kernel_rfl)
theorem zuK:∀ r s t,zzV.run r t s=.nrm (sp 1 (V.nil 0) t) s:=ze 1
theorem zuY:∀ r s t,zBy.run r t s=zb false 1 (gp 0 t) s fun v0 s=>zj ⟨9,[]⟩ false .add v0 (V.nat .i64 1) fun v1=>zH 1 (gp 0 t) v1 s fun _ s=>.nrm t s:=ze 3
theorem zxa:∀ r s t,zAW.run r t s=jT s (.map [] 0) fun a0k s=>zb false 1 (gp 0 t) s fun v1 s=>zq 1 (V.ref 0 a0k) fun x2_0=>ye x2_0 0 [V.nil 2,V.nat .i64 0,V.nat .i64 0] fun l2_0=>zq 1 (V.neg .i64 0) fun x2_1=>ye x2_1 1 l2_0 fun l2_1=>zq 1 v1 fun x2_2=>ye x2_2 2 l2_1 fun l2_2=>zq 3 (V.ls 0 l2_2) fun l3=>Go.Ev.newRow s 70 l3 false fun a3k _ s=>.nrm (sp 1 (V.ptr a3k 0 0) t) s:=ze 5
theorem zKE:type_of% (aI zuK <| aI zuY <| aI zxa <| zGP):=aI zuK <| aI zuY <| aI zxa <| zGP
def ju:FI:=⟨457792,19,4⟩
def zbX:=qe Tryz.prog 92
def y5 (l:List Nat):=zk pc0 ju (zI l zbX)
def zh6:=y5 [0]
def zg4:=y5 [1,0,0]
def zit:=y5 [1,0,1,0,0,0]
def zfV:=y5 [1,0,1,0,0,1,1,0,0,0]
def zfI:=y5 [1,0,1,0,0,1,1,0,0,1,0]
def zfR:=y5 [1,0,1,0,0,1,1,0,0,1,1,0,0]
def zfN:=y5 [1,0,1,0,0,1,1,1]
def zaK:=zI [1,0,1,0] zbX
def yI:=zk pc0 ju zaK
def zfC:=y5 [1,1,0]
def zhY:=zk pc0 ju zbX
def zhz:=yb (qm pc0 ju (qy Tryz.prog 92)).run
theorem zlH :
 ((∀ r s x0 x1,(fnC pc0 92).run r [x0,x1] s=ql (z4 (fun t s=>zhz t s) (zhY.run r (sp 1 x1 (sp 0 x0 T.new)) s))) ∧
 ((∀ s t,zhz t s=yU (gp 240 t) (yj [gp 4 t] s)) ∧
 (∀ r s t,zhY.run r t s=za (fun t s=>za (fun t s=>za (fun t s=>.ret t s) (zfC.run r t s)) (za (fun t s=>yT 0 (yI.run r t s)) (zg4.run r t s))) (zh6.run r t s)))):=by
 and_intros<;>(intros;kernel_rfl)
theorem zfP:∀ r s t,zh6.run r t s=.nrm (sp 4 (V.nat .i64 0) t) s:=ze 1
theorem zf0:∀ r s t,zg4.run r t s=zt (gp 0 t) fun v1=>.nrm (sp 7 (V.nat .i64 0) (sp 6 v1 t)) s:=ze 3
theorem zfD:∀ r s t,zit.run r t s=zj ⟨9,[]⟩ false .lss (gp 7 t) (gp 6 t) fun v0=>.nrm (sp 8 v0 t) s:=ze 1
theorem zd0:∀ r s t,zfV.run r t s=.nrm (sp 5 (gp 7 t) t) s:=ze 2
theorem zdE:∀ r s t,zfI.run r t s=zg 1 (gp 0 t) (gp 5 t) fun v3=>zb false 1 v3 s fun v4 s=>jy r (gp 1 t) [v4] t s fun v5 s=>.nrm (sp 9 v5 t) s:=ze 6
theorem zeG:∀ r s t,zfR.run r t s=.nrm (sp 4 (gp 5 t) t) s:=ze 2
theorem zdF:∀ r s t,zfN.run r t s=zj ⟨9,[]⟩ false .add (gp 7 t) (V.nat .i64 1) fun v0=>.nrm (sp 7 v0 t) s:=ze 2
theorem zdM:∀ r s t,zfC.run r t s=.nrm (sp 4 (V.neg .i64 0) t) s:=ze 1
theorem zb3:∀ r s t,yI.run r t s=za (fun t s=>r.code ju zaK t s) (za (fun t s=>za (fun t s=>za (fun t s=>zfN.run r t s) (yT 1 (za (fun t s=>za (fun t s=>zw (gp 9 t) (za (fun t s=>.ret t s) (zfR.run r t s)) (.nrm t s)) (zfI.run r t s)) (zfV.run r t s)))) (zw (gp 8 t) (.nrm t s) (.ext 0 t s))) (zit.run r t s)):=by intros;kernel_rfl
theorem zaC:type_of% (aI zfP <| aI zf0 <| aI zfD <| aI zd0 <| aI zdE <| aI zeG <| aI zdF <| aI zdM <| zlH):=aI zfP <| aI zf0 <| aI zfD <| aI zd0 <| aI zdE <| aI zeG <| aI zdF <| aI zdM <| zlH
end
end Go.Proofs.YtlklljjppambpaaGreatDoor.oev
