/- What the evaluator makes of the functions that the statements reach: one equation for each run of operations, by the kernel. No statement of the seat stands here. No condition. By an AI agent. -/
import Derived.Test.YtlklljjppambpaaGreatDoorOvA
import Derived.Test.YtlklljjppambpaaGreatDoorProg
import Derived.KernelRfl
namespace Go.Proofs.YtlklljjppambpaaGreatDoor.oev
open Go.Ev Go.Proofs
set_option maxRecDepth 100000
noncomputable section
def pcM (hooks:List Hook) (mg:List Nat):PC:=PC.of Tryz.prog hooks [0,0,1,18889465368527553685504,40564818602692856525040285376512,
 22300660086400496993622782311581891087564800,5191663033196925340545171079495680,56,1208925819614629174706144,302210702316574370361312,536870336,
 35449079480712192,4064,532676544,16776112,130496,576443159102871552,14507091314321806566879232,37778931860689418977248,843256564531200,
 548681513920,56,32213685184627228544,254,3458623252329365504,8388096,4193792,480,348448518217211894145344806537083159052288,
 220208007379905674240,134217440,2475577252208360506781464576,39604409850503194169327730688,232,72057559552112640,504,503314416,1099511627264,
 69805789929205760,33549824,50301888,163332877655759086281603379116418208301056,13194131142656,72057559678156800,16352,32736,244736,444288,
 34090770432,73786413310256577280,480,2032,68215103488,2251250057377792,40564816780594953975647513346048,39534442678181013841036427264,
 18013282889759744,1147292005072486400,1124800395213824,8184,72053187400956672,
 1766840324791516674570538865549245336328782187702180493141811471333654528,2147417856,137434757056,5192296858515864375622722910089216,16775936,
 252,1016,140454020513776,268418496,1044160,42452218798465682763143301720761171968,43556141302722535823874969358092048728064,
 1298073905148697081283938550218624,2251791223488448,1180591618518388029440,3541774857960345829344,16777184,16352,112,130816,50329600,32752,
 4032,65408,4194272,126,1054972812980224,9223299606459154432,356811880641193946689691826088336933575983104,248,56,457792,134152096,16352,
 16352,2305825412699119296,24,4398046510976,232,2130705408,170141183460466738322183768001071808256,1073733568,8112,151115583319048317820928,
 2787593148518253049416813158539444535410688,536870336,4503324749429760,24,1046448,2304717040586850048,87111610932532326191870328324693962981376,
 137436855808,536868608,504,2040,480,240,2032,129984,248,17873660895281152,24,16352,1125835478138368,65507200,246284026954752,128,
 131040,131040,261952,8,262016,268434928,130944,1152885188510730240,232,562947805802496,480,9007182074854400,1152921496014807040,
 147573917370944446464,7890306461253730304,17179835392,2787571881499075797774052896007796375347200,1237938821800130672580354048,
 383123885193474569774374055887950278561850630313328640,524008,33537768,356811880641193946689691826088336933575983104,24,504,16777184,
 2301339375224487680,647769379326483302334111015759872,88,33536960,2147417984,2721885089993692897886287760060074426112,67092448,24,523744,
 36893487597654834688,281474972483328,8555330560,1047520,713275394550715778319802418023468735560876032,1016,24,504,457792,14680032,12574592,
 549755813824,140736414117888,7936,356811880641193946689691826088336933575983104,1125348137512960,4277141376,248,48640,
 4835702990227041035218944,120,8589934584,261632,2199023247360,9007182074854400,1152921496014807040,147573917370944446464,7890306461253730304,
 17179835392,2787571881499075797774052896007796375347200,1237938821800130672580354048,383123885193474569774374055887950278561850630313328640,
 18014381321090304,2147475296,33519488,32696,1048032,24,6228864,10384593407414639918073416691740640,6228864,1044424,398655360,
 31745151725696,8,16328,1952,8,456,134156032,36,4064,4064,104,484,65008,8386568,144114672678729728,70368744168960,17591682693120,
 17179868864,484,34587645138138185600,8164,65504,590293839423849099264,4503591037304448,309182776060598402215280384,532668352,
 21778071482618506735861013308488957231104,16328,79228162513074824341929064448,1008,1008,1008,34662321095378961161338743808,16352,
 2199023189888,2194224446208,9007182074854400,1152921496014807040,147573917370944446464,7890306461253730304,17179835392,
 2787571881499075797774052896007796375347200,1237938821800130672580354048,383123885193474569774374055887950278561850630313328640,4290768896,
 4835702990227041035218944,261632,2199023247360,32744,32752,184149205606795480238948490449146349755637850570752,5050176389969560855884357697536,
 6473907284443136,2266699018289282147153920,1073602816,4194302,504,504,103582791362410496,2417851639198471889600512,2,4080,56,504,4080,
 33554400,2305825412699119296,496,8,8589934528,1056964592,1032128,132120064,18887160055355137835008,0,32,16128,
 4543259750641845459761594177158656,268428272,24,64,19342813112848872164551680,64,132120064,8935141660702932864,
 89794636423602880087156592636474722530567799319756800,12574592,4294934272,649037029945047576837886721114112,16352,4501336175669248,3568,30,
 262080,79225895778352558100046659584,158446644767534338890306928640,4835702990227041035218944,261632,2199023247360,4290768896,56,0,248,248,
 140736414328832,16320,196032,1016,536543040,148754255977818640873472,17171475456,928,4835703260440209768046592,2040,7904,15856,24,2040,
 48640,17996745120149504,524224,504,16304,16304,3114368,248,288230376143288320,480,56,524224,16376,16368,192,192,192,
 35764913150590976,240,240,281337470646784,4290768896,16360,16360,144115179485392896,61408,16637888,37778931860723777658880,137403301872,
 150525431606284996046848,1984,8064,103048806384,34342829312,4186048,258016,260013824,274877644160,1504,2080760,56,30,7936,
 21778061098346189844478291628122334298112,2097120,240,457792,524220,65264,1073740800,2096608,7904,176,962064154560,34090744768,8556375552,
 32192,8384256,20282409471425404962397755244544,17163084480,224,7696579557248,224,469761536,1984,48,515848,1984,2064064,1016,1016,48,
 562948879675136,72057592963659776,36893479342736111616,123286018324422656,4294958848,10888952654262176519432384150372830132224,131040,
 19342794090620444689299456,374144419134252505651064520051920053992477580849152,0,130944,2251799813668864,262112,
 10448029773009037967681152029858612457160704,224,182686308445276092278898780960839177993124249600,224,42524890909723710779775849120990470144,
 9007190629408768,261632,444288,1048064,4177344,4160745472,4398046510976,1030792150528,134217696,1984,128960,75557859222245976505344,32640,
 68719474688,224,0,56,2266735911759287759665152,523264,4294961792,224,31457136,248,56,2016,240,261952,8796093022080,134217696,
 268172288,0,548648513024,1073741792,500,520048,2147155456,0,0,0,0,0,0,0,0,0,0,0,0,0,0,0,0,0,0,0,0,0,0,0,0,7] [(404,1),
 (443,2)] [(7,[7,7,0,7]),(8,[7,7,0,7]),(106,[7,7]),(107,[7,7]),(118,[7,7,7,7]),(119,[7,7,7,7]),(153,[7,7,7]),(154,[7,
 7,7]),(186,[7,7,8,7]),(187,[7,7,8,7]),(190,[7,7,7,7,7]),(191,[7,7,7,7,7]),(265,[7]),(266,[7]),(303,[7,7,7]),(304,[7,
 7,7]),(334,[7,7,0]),(335,[7,7,0]),(342,[7,7]),(343,[7,7]),(362,[0,8,8]),(363,[0,8,8]),(382,[7]),(383,[7]),(400,[]),(401,
 []),(410,[8,8,8])] mg
def pc (hooks:List Hook):PC:=pcM hooks []
def pc0:PC:=pc []
def zm8:FI:=⟨56,6,4⟩
def zjl:=qe Tryz.prog 7
def zCi:=zl pc0 zm8 (zI [0] zjl)
def zB3:=zl pc0 zm8 (zI [1,0] zjl)
def zB1:=zl pc0 zm8 zjl
def zCs:=yi (ql pc0 zm8 (qz Tryz.prog 7)).run
theorem zGA :
 ((∀ r s x0,(fnC pc0 7).run r [x0] s=qk (z7 (fun t s=>zCs t s) (zB1.run r (sp 0 x0 T.new) s))) ∧
 ((∀ s t,zCs t s=yW (gp 240 t) (yp [gp 2 t] s)) ∧
 (∀ r s t,zB1.run r t s=za (fun t s=>za (fun t s=>.ret t s) (zB3.run r t s)) (zCi.run r t s)))):=by
 and_intros<;>(intros;kernel_rfl)
theorem zyS:∀ r s t,zCi.run r t s=.nrm (sp 2 (V.bool false) t) s:=ze 1
theorem zue:∀ r s t,zB3.run r t s=zz (gp 0 t) fun v1=>zk ⟨9,[]⟩ false .gtr v1 (V.nat .i64 30) fun v2=>.nrm (sp 2 v2 t) s:=ze 4
theorem zAx:type_of% (aI zyS <| aI zue <| zGA):=aI zyS <| aI zue <| zGA
def wG:FI:=⟨14507091314321806566879232,84,4⟩
def zce:=qe Tryz.prog 17
def q9 (l:List Nat):=zl pc0 wG (zI l zce)
def zDC:=q9 [0]
def zCn:=zI [1,0,0] zce
def zEv:=zl pc0 wG zCn
def zbk:=qOf pc0 wG zCn
def zkj:=zbk 12 1 (dn 24 12)
def zgZ:=zbk 9 3 (dn 21 9)
def zpT:=zbk 7 2 (dn 19 7)
def zgG:=zbk 4 3 (dn 16 4)
def zqD:=zbk 0 4 []
def zBk:=q9 [1,0,1,0,0]
def ztz:=q9 [1,1,0]
def ztX:=q9 [1,1,1,0,0]
def zx6:=q9 [1,1,1,0,1,0,0,0,0]
def zug:=q9 [1,1,1,0,1,0,0,1,0,0]
def zv2:=q9 [1,1,1,0,1,0,0,1,0,1,0]
def ztC:=q9 [1,1,1,0,1,0,0,1,0,1,1,0,0]
def zwi:=q9 [1,1,1,0,1,0,0,1,0,1,1,0,1,0,0,0,0]
def zuq:=q9 [1,1,1,0,1,0,0,1,0,1,1,0,1,0,0,1,0,0,0,0]
def zv8:=q9 [1,1,1,0,1,0,0,1,0,1,1,0,1,0,0,1,0,0,0,1,0]
def zul:=q9 [1,1,1,0,1,0,0,1,0,1,1,0,1,0,0,1,0,0,1,0]
def ztu:=q9 [1,1,1,0,1,0,0,1,0,1,1,0,1,0,0,1,0,0,1,1,0]
def zyj:=q9 [1,1,1,0,1,0,0,1,0,1,1,0,1,0,0,1,1]
def ze6:=zI [1,1,1,0,1,0,0,1,0,1,1,0,1,0] zce
def zcf:=zl pc0 wG ze6
def zwc:=q9 [1,1,1,0,1,0,0,1,0,1,1,1,0,0]
def zvb:=q9 [1,1,1,0,1,0,0,1,0,1,1,1,0,1,0]
def zt0:=q9 [1,1,1,0,1,0,0,1,0,1,1,1,0,1,1]
def zxb:=q9 [1,1,1,0,1,0,0,1,0,1,1,1,1]
def zfk:=zI [1,1,1,0,1,0] zce
def zcN:=zl pc0 wG zfk
def ztT:=q9 [1,1,1,1,0,0]
def zxB:=q9 [1,1,1,1,0,1,0,0]
def zvD:=q9 [1,1,1,1,1,0]
def zEl:=zl pc0 wG zce
def zBn:=yi (ql pc0 wG (qz Tryz.prog 17)).run
theorem zHJ :
 ((((∀ r s x0 x1,(fnC pc0 17).run r [x0,x1] s=qk (z7 (fun t s=>zBn t s) (zEl.run r (sp 1 x1 (sp 0 x0 T.new)) s))) ∧
 (∀ s t,zBn t s=yW (gp 240 t) (yp [gp 4 t,gp 5 t] s))) ∧
 ((∀ r s t,zEl.run r t s=za (fun t s=>za (fun t s=>za (fun t s=>za (fun t s=>za (fun t s=>za (fun t s=>.ret t s) (zvD.run r t s)) (za (fun t s=>zu (gp 18 t) (za (fun t s=>.ret t s) (zxB.run r t s)) (.nrm t s)) (ztT.run r t s))) (za (fun t s=>yV 0 (zcN.run r t s)) (ztX.run r t s))) (ztz.run r t s)) (za (fun t s=>zu (gp 12 t) (za (fun t s=>.ret t s) (zBk.run r t s)) (.nrm t s)) (zEv.run r t s))) (zDC.run r t s)) ∧
 ((∀ g r s t le,(zqD g).run r t (le) s=zD (r.call 22 [gp 0 t] s) fun v1 s=>xUn .not v1 fun v2=>g.run r t (v2::v2::v1::gp 0 t::le) s) ∧
 (∀ g r s t le,(zgG g).run r t (.bool true::le) s=g.run r t (Go.Ev.undef::Go.Ev.undef::Go.Ev.undef::.bool true::le) s)))) ∧
 (((∀ g r s t le,(zgG g).run r t (.bool false::le) s=zz (gp 1 t) fun v5=>zk ⟨9,[]⟩ false .gtr v5 (V.nat .i64 200) fun v6=>g.run r t (v6::v5::gp 1 t::.bool false::le) s) ∧
 (∀ g r s t le x0 x1 x2 x3,(zpT g).run r t (x0::x1::x2::x3::le) s=qL x3 (fun _=>g.run r t (V.bool true::V.bool true::x0::x1::x2::x3::le) s) (fun _=>g.run r t (x0::x0::x0::x1::x2::x3::le) s))) ∧
 ((∀ g r s t le,(zgZ g).run r t (.bool true::le) s=g.run r t (Go.Ev.undef::Go.Ev.undef::Go.Ev.undef::.bool true::le) s) ∧
 ((∀ g r s t le,(zgZ g).run r t (.bool false::le) s=zD (r.call 27 [gp 1 t,V.nat .i64 500] s) fun v10 s=>xUn .not v10 fun v11=>g.run r t (v11::v10::gp 1 t::.bool false::le) s) ∧
 (∀ g r s t le x0 x1 x2 x3,(zkj g).run r t (x0::x1::x2::x3::le) s=qL x3 (fun _=>g.run r (sp 12 (V.bool true) t) (V.bool true::x0::x1::x2::x3::le) s) (fun _=>g.run r (sp 12 x0 t) (x0::x0::x1::x2::x3::le) s)))))):=by
 and_intros<;>(intros;kernel_rfl)
theorem zvE:∀ r s t,zDC.run r t s=.nrm (sp 5 (V.nat .i64 0) (sp 4 (V.nil 1) t)) s:=ze 2
theorem zx4:∀ r s t,zEv.run r t s=(zqD (zgG (zpT (zgZ (zkj yk))))).run r t [] s:=ye (by kernel_rfl) (chS rfl (by kernel_rfl) (chS rfl (by kernel_rfl) (chS rfl (by kernel_rfl) (chS rfl (by kernel_rfl) chL))))
theorem zx5:∀ r s t,zBk.run r t s=.nrm (sp 5 (V.nat .i64 1) (sp 4 (V.nil 1) t)) s:=ze 2
theorem zqg:∀ r s t,ztz.run r t s=zD (r.call 34 [gp 0 t] s) fun v1 s=>.nrm (sp 6 v1 t) s:=ze 3
theorem znI:∀ r s t,ztX.run r t s=.nrm (sp 7 (V.nat .i64 0) t) s:=ze 1
theorem zpv:∀ r s t,zx6.run r t s=zz (gp 1 t) fun v2=>zk ⟨9,[]⟩ false .lss (gp 7 t) v2 fun v3=>.nrm (sp 13 v3 t) s:=ze 4
theorem zpL:∀ r s t,zug.run r t s=zk ⟨9,[]⟩ false .add (gp 7 t) (V.nat .i64 1) fun v1=>.nrm (sp 9 v1 (sp 8 (V.neg .i64 0) t)) s:=ze 4
theorem zom:∀ r s t,zv2.run r t s=.nrm (sp 10 (gp 6 t) t) s:=ze 2
theorem zsY:∀ r s t,ztC.run r t s=.nrm (sp 11 (gp 7 t) t) s:=ze 2
theorem znG:∀ r s t,zwi.run r t s=zz (gp 1 t) fun v2=>zk ⟨9,[]⟩ false .lss (gp 11 t) v2 fun v3=>.nrm (sp 14 v3 t) s:=ze 4
theorem zrp:∀ r s t,zuq.run r t s=zB (gp 10 t) fun v1=>zf 0 v1 fun v2=>zd false 1 v2 s fun v3 s=>zg 1 (gp 1 t) (gp 11 t) fun v6=>zd false 1 v6 s fun v7 s=>z4 ⟨7,[]⟩ (V.nil 0) false v3 v7 s fun v8=>.nrm (sp 10 v8 t) s:=zaq 10
theorem znZ:∀ r s t,zv8.run r t s=zk ⟨1,[]⟩ true .eql (gp 10 t) (V.nil 0) fun v1=>.nrm (sp 15 v1 t) s:=ze 2
theorem zrS:∀ r s t,zul.run r t s=zB (gp 10 t) fun v1=>zf 1 v1 fun v2=>zd false 1 v2 s fun v3 s=>zk ⟨9,[]⟩ false .geq v3 (V.nat .i64 0) fun v4=>.nrm (sp 16 v4 t) s:=ze 5
theorem zqn:∀ r s t,ztu.run r t s=zB (gp 10 t) fun v1=>zf 1 v1 fun v2=>zd false 1 v2 s fun v3 s=>zk ⟨9,[]⟩ false .add (gp 11 t) (V.nat .i64 1) fun v5=>.nrm (sp 9 v5 (sp 8 v3 t)) s:=ze 8
theorem zrr:∀ r s t,zyj.run r t s=zk ⟨9,[]⟩ false .add (gp 11 t) (V.nat .i64 1) fun v1=>.nrm (sp 11 v1 t) s:=ze 3
theorem zsW:∀ r s t,zwc.run r t s=zk ⟨9,[]⟩ false .geq (gp 8 t) (V.nat .i64 0) fun v1=>.nrm (sp 17 v1 t) s:=ze 2
theorem zsJ:∀ r s t,zvb.run r t s=zg 2 (gp 0 t) (gp 8 t) fun v3=>zf 1 v3 fun v4=>zd false 1 v4 s fun v5 s=>zP 3 1 (gp 4 t) v5 s fun v6 s=>.nrm (sp 4 v6 t) s:=ze 8
theorem zn5:∀ r s t,zt0.run r t s=zg 1 (gp 1 t) (gp 7 t) fun v3=>zd false 1 v3 s fun v4 s=>j4 [V.nat .i64 0] 1 fun l5z=>zp 1 v4 fun x5_0=>qY x5_0 0 l5z fun l5_0=>Go.Ev.newRow s 3 l5_0 false fun a5k _ s=>zP 3 1 (gp 4 t) (V.sl a5k 0 0 1 1) s fun v6 s=>.nrm (sp 4 v6 t) s:=ze 8
theorem zqK:∀ r s t,zxb.run r t s=.nrm (sp 7 (gp 9 t) t) s:=ze 2
theorem zro:∀ r s t,ztT.run r t s=zz (gp 4 t) fun v1=>zk ⟨9,[]⟩ false .gtr v1 (V.nat .i64 200) fun v2=>.nrm (sp 18 v2 t) s:=ze 3
theorem zsI:∀ r s t,zxB.run r t s=.nrm (sp 5 (V.nat .i64 2) (sp 4 (V.nil 1) t)) s:=ze 2
theorem zrT:∀ r s t,zvD.run r t s=.nrm (sp 5 (V.nat .i64 0) (sp 4 (gp 4 t) t)) s:=ze 3
theorem zE6:z3 ze6=55:=by kernel_rfl
theorem zFb:z3 zfk=110:=by kernel_rfl
theorem zdD:∀ r s t,zcf.run r t s=za (fun t s=>r.code wG ze6 t s) (za (fun t s=>za (fun t s=>zyj.run r t s) (yV 3 (za (fun t s=>za (fun t s=>zu (gp 16 t) (ztu.run r t s) (.nrm t s)) (zul.run r t s)) (za (fun t s=>za (fun t s=>zu (gp 15 t) (.ext 2 t s) (.nrm t s)) (zv8.run r t s)) (zuq.run r t s))))) (za (fun t s=>zu (gp 14 t) (.nrm t s) (.ext 2 t s)) (zwi.run r t s))):=by intros;kernel_rfl
theorem zqx:∀ r s t,zcN.run r t s=za (fun t s=>r.code wG zfk t s) (za (fun t s=>yV 1 (za (fun t s=>za (fun t s=>za (fun t s=>za (fun t s=>zxb.run r t s) (za (fun t s=>zu (gp 17 t) (zvb.run r t s) (zt0.run r t s)) (zwc.run r t s))) (za (fun t s=>yV 2 (zcf.run r t s)) (ztC.run r t s))) (zv2.run r t s)) (zug.run r t s))) (za (fun t s=>zu (gp 13 t) (.nrm t s) (.ext 0 t s)) (zx6.run r t s))):=by intros;kernel_rfl
theorem jY:type_of% (aI zvE <| aI zx4 <| aI zx5 <| aI zqg <| aI znI <| aI zpv <| aI zpL <| aI zom <| aI zsY <| aI znG <| aI zrp <| aI znZ <| aI zrS <| aI zqn <| aI zrr <| aI zsW <| aI zsJ <| aI zn5 <| aI zqK <| aI zro <| aI zsI <| aI zrT <| zHJ):=aI zvE <| aI zx4 <| aI zx5 <| aI zqg <| aI znI <| aI zpv <| aI zpL <| aI zom <| aI zsY <| aI znG <| aI zrp <| aI znZ <| aI zrS <| aI zqn <| aI zrr <| aI zsW <| aI zsJ <| aI zn5 <| aI zqK <| aI zro <| aI zsI <| aI zrT <| zHJ
def wZ:FI:=⟨548681513920,40,4⟩
def ze2:=qe Tryz.prog 20
def yn (l:List Nat):=zl pc0 wZ (zI l ze2)
def zoT:=yn [0]
def zpk:=yn [1,0,0]
def znp:=yn [1,0,1,0,0,0]
def zkv:=yn [1,0,1,0,0,1,0,0]
def zkt:=yn [1,0,1,0,1,0]
def zkW:=yn [1,1,0,0]
def zmj:=yn [1,1,0,1,0,0,0,0]
def zmJ:=yn [1,1,0,1,0,0,1,0,0,0,0]
def zkG:=yn [1,1,0,1,0,0,1,0,0,0,1,0,0]
def zkM:=yn [1,1,0,1,0,0,1,0,0,1,0]
def zlP:=yn [1,1,0,1,0,0,1,0,0,1,1,0,0]
def zmM:=yn [1,1,0,1,0,0,1,1]
def zbQ:=zI [1,1,0,1,0] ze2
def y7:=zl pc0 wZ zbQ
def zkO:=yn [1,1,1,0]
def zq5:=zl pc0 wZ ze2
def zpo:=yi (ql pc0 wZ (qz Tryz.prog 20)).run
theorem zuG :
 ((∀ r s x0 x1,(fnC pc0 20).run r [x0,x1] s=qk (z7 (fun t s=>zpo t s) (zq5.run r (sp 1 x1 (sp 0 x0 T.new)) s))) ∧
 ((∀ s t,zpo t s=yW (gp 240 t) (yp [gp 4 t] s)) ∧
 (∀ r s t,zq5.run r t s=za (fun t s=>za (fun t s=>za (fun t s=>za (fun t s=>.ret t s) (zkO.run r t s)) (za (fun t s=>yV 0 (y7.run r t s)) (zkW.run r t s))) (za (fun t s=>zu (gp 6 t) (za (fun t s=>za (fun t s=>.ret t s) (zkt.run r t s)) (za (fun t s=>zu (gp 7 t) (za (fun t s=>.ret t s) (zkv.run r t s)) (.nrm t s)) (znp.run r t s))) (.nrm t s)) (zpk.run r t s))) (zoT.run r t s)))):=by
 and_intros<;>(intros;kernel_rfl)
theorem zks:∀ r s t,zoT.run r t s=.nrm (sp 4 (V.nat .i64 0) t) s:=ze 1
theorem zmt:∀ r s t,zpk.run r t s=zz (gp 0 t) fun v1=>zz (gp 1 t) fun v3=>zk ⟨7,[]⟩ false .neq v1 v3 fun v4=>.nrm (sp 6 v4 t) s:=ze 5
theorem zk7:∀ r s t,znp.run r t s=zz (gp 0 t) fun v1=>zz (gp 1 t) fun v3=>zk ⟨9,[]⟩ false .lss v1 v3 fun v4=>.nrm (sp 7 v4 t) s:=ze 5
theorem ziw:∀ r s t,zkv.run r t s=.nrm (sp 4 (V.neg .i64 0) t) s:=ze 1
theorem zhG:∀ r s t,zkt.run r t s=.nrm (sp 4 (V.nat .i64 1) t) s:=ze 1
theorem ziP:∀ r s t,zkW.run r t s=.nrm (sp 5 (V.nat .i64 0) t) s:=ze 1
theorem zht:∀ r s t,zmj.run r t s=zz (gp 0 t) fun v2=>zk ⟨9,[]⟩ false .lss (gp 5 t) v2 fun v3=>.nrm (sp 8 v3 t) s:=ze 4
theorem ziI:∀ r s t,zmJ.run r t s=zg 1 (gp 0 t) (gp 5 t) fun v2=>zd false 1 v2 s fun v3 s=>zg 1 (gp 1 t) (gp 5 t) fun v6=>zd false 1 v6 s fun v7 s=>zk ⟨9,[]⟩ false .lss v3 v7 fun v8=>.nrm (sp 9 v8 t) s:=zaq 9
theorem ziD:∀ r s t,zkG.run r t s=.nrm (sp 4 (V.neg .i64 0) t) s:=ze 1
theorem zi3:∀ r s t,zkM.run r t s=zg 1 (gp 0 t) (gp 5 t) fun v2=>zd false 1 v2 s fun v3 s=>zg 1 (gp 1 t) (gp 5 t) fun v6=>zd false 1 v6 s fun v7 s=>zk ⟨9,[]⟩ false .gtr v3 v7 fun v8=>.nrm (sp 10 v8 t) s:=zaq 9
theorem ziK:∀ r s t,zlP.run r t s=.nrm (sp 4 (V.nat .i64 1) t) s:=ze 1
theorem zh8:∀ r s t,zmM.run r t s=zk ⟨9,[]⟩ false .add (gp 5 t) (V.nat .i64 1) fun v1=>.nrm (sp 5 v1 t) s:=ze 3
theorem zi0:∀ r s t,zkO.run r t s=.nrm (sp 4 (V.nat .i64 0) t) s:=ze 1
theorem zaM:∀ r s t,y7.run r t s=za (fun t s=>r.code wZ zbQ t s) (za (fun t s=>za (fun t s=>zmM.run r t s) (yV 1 (za (fun t s=>za (fun t s=>zu (gp 10 t) (za (fun t s=>.ret t s) (zlP.run r t s)) (.nrm t s)) (zkM.run r t s)) (za (fun t s=>zu (gp 9 t) (za (fun t s=>.ret t s) (zkG.run r t s)) (.nrm t s)) (zmJ.run r t s))))) (za (fun t s=>zu (gp 8 t) (.nrm t s) (.ext 0 t s)) (zmj.run r t s))):=by intros;kernel_rfl
theorem j6:type_of% (aI zks <| aI zmt <| aI zk7 <| aI ziw <| aI zhG <| aI ziP <| aI zht <| aI ziI <| aI ziD <| aI zi3 <| aI ziK <| aI zh8 <| aI zi0 <| zuG):=aI zks <| aI zmt <| aI zk7 <| aI ziw <| aI zhG <| aI ziP <| aI zht <| aI ziI <| aI ziD <| aI zi3 <| aI ziK <| aI zh8 <| aI zi0 <| zuG
def zG1:FI:=⟨56,6,4⟩
def zzg:=qe Tryz.prog 21
def zLm:=zl pc0 zG1 (zI [0] zzg)
def zKZ:=zl pc0 zG1 (zI [1,0] zzg)
def zLi:=zl pc0 zG1 zzg
def zLh:=yi (ql pc0 zG1 (qz Tryz.prog 21)).run
theorem zNb :
 ((∀ r s x0,(fnC pc0 21).run r [x0] s=qk (z7 (fun t s=>zLh t s) (zLi.run r (sp 0 x0 T.new) s))) ∧
 ((∀ s t,zLh t s=yW (gp 240 t) (yp [gp 2 t] s)) ∧
 (∀ r s t,zLi.run r t s=za (fun t s=>za (fun t s=>.ret t s) (zKZ.run r t s)) (zLm.run r t s)))):=by
 and_intros<;>(intros;kernel_rfl)
theorem zHK:∀ r s t,zLm.run r t s=.nrm (sp 2 (V.bool false) t) s:=ze 1
theorem zGk:∀ r s t,zKZ.run r t s=zz (gp 0 t) fun v1=>zk ⟨9,[]⟩ false .gtr v1 (V.nat .i64 250) fun v2=>.nrm (sp 2 v2 t) s:=ze 4
theorem zLl:type_of% (aI zHK <| aI zGk <| zNb):=aI zHK <| aI zGk <| zNb
def wR:FI:=⟨32213685184627228544,65,4⟩
def zaT:=qe Tryz.prog 22
def jk (l:List Nat):=zl pc0 wR (zI l zaT)
def zAZ:=jk [0]
def zAn:=zI [1,0,0] zaT
def zAM:=zl pc0 wR zAn
def zgB:=qOf pc0 wR zAn
def zqa:=zgB 7 1 (dn 14 7)
def zgz:=zgB 4 3 (dn 11 4)
def znM:=zgB 0 4 []
def zBH:=jk [1,0,1,0,0]
def ztR:=jk [1,1,0,0]
def zwN:=jk [1,1,0,1,0,0,0]
def zyb:=jk [1,1,0,1,0,0,1,1,0,0,0]
def ztP:=zI [1,1,0,1,0,0,1,1,0,0,1,0,0] zaT
def zvg:=zl pc0 wR ztP
def yO:=qOf pc0 wR ztP
def zhN:=yO 27 1 (dn 49 27)
def zdv:=yO 23 4 (dn 45 23)
def zhL:=yO 21 2 (dn 43 21)
def zdn:=yO 17 4 (dn 39 17)
def ziW:=yO 15 2 (dn 37 15)
def zdd:=yO 11 4 (dn 33 11)
def zlh:=yO 9 2 (dn 31 9)
def ze0:=yO 5 4 (dn 27 5)
def zkL:=yO 0 5 []
def zyt:=jk [1,1,0,1,0,0,1,1,0,0,1,0,1,0,0]
def zxF:=jk [1,1,0,1,0,0,1,1,0,0,1,1,0]
def zva:=jk [1,1,0,1,0,0,1,1,0,0,1,1,1,0,0,0]
def zwu:=jk [1,1,0,1,0,0,1,1,0,0,1,1,1,0,0,1,1,0,0,0]
def zw4:=jk [1,1,0,1,0,0,1,1,0,0,1,1,1,0,0,1,1,0,0,1,0]
def zxm:=jk [1,1,0,1,0,0,1,1,0,0,1,1,1,0,0,1,1,0,0,1,1,0,0]
def zt1:=jk [1,1,0,1,0,0,1,1,0,0,1,1,1,0,0,1,1,1]
def zjg:=zI [1,1,0,1,0,0,1,1,0,0,1,1,1,0] zaT
def zcB:=zl pc0 wR zjg
def zu4:=jk [1,1,0,1,0,0,1,1,1]
def zjQ:=zI [1,1,0,1,0] zaT
def zcC:=zl pc0 wR zjQ
def zyF:=jk [1,1,1,0]
def zEE:=zl pc0 wR zaT
def zCM:=yi (ql pc0 wR (qz Tryz.prog 22)).run
theorem zGF :
 (((((∀ r s x0,(fnC pc0 22).run r [x0] s=qk (z7 (fun t s=>zCM t s) (zEE.run r (sp 0 x0 T.new) s))) ∧
 (∀ s t,zCM t s=yW (gp 240 t) (yp [gp 2 t] s))) ∧
 ((∀ r s t,zEE.run r t s=za (fun t s=>za (fun t s=>za (fun t s=>za (fun t s=>.ret t s) (zyF.run r t s)) (za (fun t s=>yV 0 (zcC.run r t s)) (ztR.run r t s))) (za (fun t s=>zu (gp 7 t) (za (fun t s=>.ret t s) (zBH.run r t s)) (.nrm t s)) (zAM.run r t s))) (zAZ.run r t s)) ∧
 ((∀ g r s t le,(znM g).run r t (le) s=zz (gp 0 t) fun v1=>zk ⟨9,[]⟩ false .lss v1 (V.nat .i64 1) fun v2=>g.run r t (v2::v2::v1::gp 0 t::le) s) ∧
 (∀ g r s t le,(zgz g).run r t (.bool true::le) s=g.run r t (Go.Ev.undef::Go.Ev.undef::Go.Ev.undef::.bool true::le) s)))) ∧
 (((∀ g r s t le,(zgz g).run r t (.bool false::le) s=zz (gp 0 t) fun v5=>zk ⟨9,[]⟩ false .gtr v5 (V.nat .i64 20) fun v6=>g.run r t (v6::v5::gp 0 t::.bool false::le) s) ∧
 (∀ g r s t le x0 x1 x2 x3,(zqa g).run r t (x0::x1::x2::x3::le) s=qL x3 (fun _=>g.run r (sp 7 (V.bool true) t) (V.bool true::x0::x1::x2::x3::le) s) (fun _=>g.run r (sp 7 x0 t) (x0::x0::x1::x2::x3::le) s))) ∧
 ((∀ g r s t le,(zkL g).run r t (le) s=zf 0 (gp 4 t) fun v0=>zd false 1 v0 s fun v1 s=>zz v1 fun v2=>zk ⟨9,[]⟩ false .lss v2 (V.nat .i64 1) fun v3=>g.run r t (v3::v3::v2::v1::v0::le) s) ∧
 ((∀ g r s t le,(ze0 g).run r t (.bool true::le) s=g.run r t (Go.Ev.undef::Go.Ev.undef::Go.Ev.undef::Go.Ev.undef::.bool true::le) s) ∧
 (∀ g r s t le,(ze0 g).run r t (.bool false::le) s=zf 0 (gp 4 t) fun v5=>zd false 1 v5 s fun v6 s=>zz v6 fun v7=>zk ⟨9,[]⟩ false .gtr v7 (V.nat .i64 20) fun v8=>g.run r t (v8::v7::v6::v5::.bool false::le) s))))) ∧
 ((((∀ g r s t le x0 x1 x2 x3 x4,(zlh g).run r t (x0::x1::x2::x3::x4::le) s=qL x4 (fun _=>g.run r t (V.bool true::V.bool true::x0::x1::x2::x3::x4::le) s) (fun _=>g.run r t (x0::x0::x0::x1::x2::x3::x4::le) s)) ∧
 (∀ g r s t le,(zdd g).run r t (.bool true::le) s=g.run r t (Go.Ev.undef::Go.Ev.undef::Go.Ev.undef::Go.Ev.undef::.bool true::le) s)) ∧
 ((∀ g r s t le,(zdd g).run r t (.bool false::le) s=zf 1 (gp 4 t) fun v11=>zd false 1 v11 s fun v12 s=>zz v12 fun v13=>zk ⟨9,[]⟩ false .gtr v13 (V.nat .i64 20) fun v14=>g.run r t (v14::v13::v12::v11::.bool false::le) s) ∧
 ((∀ g r s t le x0 x1 x2 x3 x4,(ziW g).run r t (x0::x1::x2::x3::x4::le) s=qL x4 (fun _=>g.run r t (V.bool true::V.bool true::x0::x1::x2::x3::x4::le) s) (fun _=>g.run r t (x0::x0::x0::x1::x2::x3::x4::le) s)) ∧
 (∀ g r s t le,(zdn g).run r t (.bool true::le) s=g.run r t (Go.Ev.undef::Go.Ev.undef::Go.Ev.undef::Go.Ev.undef::.bool true::le) s)))) ∧
 (((∀ g r s t le,(zdn g).run r t (.bool false::le) s=zf 0 (gp 4 t) fun v17=>zd false 1 v17 s fun v18 s=>zD (r.call 27 [v18,V.nat .i64 500] s) fun v19 s=>xUn .not v19 fun v20=>g.run r t (v20::v19::v18::v17::.bool false::le) s) ∧
 (∀ g r s t le x0 x1 x2 x3 x4,(zhL g).run r t (x0::x1::x2::x3::x4::le) s=qL x4 (fun _=>g.run r t (V.bool true::V.bool true::x0::x1::x2::x3::x4::le) s) (fun _=>g.run r t (x0::x0::x0::x1::x2::x3::x4::le) s))) ∧
 ((∀ g r s t le,(zdv g).run r t (.bool true::le) s=g.run r t (Go.Ev.undef::Go.Ev.undef::Go.Ev.undef::Go.Ev.undef::.bool true::le) s) ∧
 ((∀ g r s t le,(zdv g).run r t (.bool false::le) s=zf 1 (gp 4 t) fun v23=>zd false 1 v23 s fun v24 s=>zD (r.call 27 [v24,V.nat .i64 500] s) fun v25 s=>xUn .not v25 fun v26=>g.run r t (v26::v25::v24::v23::.bool false::le) s) ∧
 (∀ g r s t le x0 x1 x2 x3 x4,(zhN g).run r t (x0::x1::x2::x3::x4::le) s=qL x4 (fun _=>g.run r (sp 12 (V.bool true) t) (V.bool true::x0::x1::x2::x3::x4::le) s) (fun _=>g.run r (sp 12 x0 t) (x0::x0::x1::x2::x3::x4::le) s))))))):=by
 and_intros<;>(intros;kernel_rfl)
theorem zun:∀ r s t,zAZ.run r t s=.nrm (sp 2 (V.bool false) t) s:=ze 1
theorem zxQ:∀ r s t,zAM.run r t s=(znM (zgz (zqa yk))).run r t [] s:=ye (by kernel_rfl) (chS rfl (by kernel_rfl) (chS rfl (by kernel_rfl) chL))
theorem zxS:∀ r s t,zBH.run r t s=.nrm (sp 2 (V.bool false) t) s:=ze 1
theorem zrL:∀ r s t,ztR.run r t s=zz (gp 0 t) fun v1=>.nrm (sp 10 (V.nat .i64 0) (sp 9 v1 (sp 8 (gp 0 t) t))) s:=ze 3
theorem zoF:∀ r s t,zwN.run r t s=zk ⟨9,[]⟩ false .lss (gp 10 t) (gp 9 t) fun v0=>.nrm (sp 11 v0 t) s:=ze 1
theorem zpH:∀ r s t,zyb.run r t s=zg 2 (gp 8 t) (gp 10 t) fun v1=>zd true 2 v1 s fun v2 s=>Go.Ev.newRow s 49 [V.nil 1,V.nil 1] false fun a3k _ s=>zJ 2 (V.ptr a3k 0 0) v2 s fun _ s=>.nrm (sp 3 (gp 10 t) (sp 4 (V.ptr a3k 0 0) t)) s:=ze 6
theorem zo9:∀ r s t,zvg.run r t s=(zkL (ze0 (zlh (zdd (ziW (zdn (zhL (zdv (zhN yk))))))))).run r t [] s:=ye (by kernel_rfl) (chS rfl (by kernel_rfl) (chS rfl (by kernel_rfl) (chS rfl (by kernel_rfl) (chS rfl (by kernel_rfl) (chS rfl (by kernel_rfl) (chS rfl (by kernel_rfl) (chS rfl (by kernel_rfl) (chS rfl (by kernel_rfl) chL))))))))
theorem zok:∀ r s t,zyt.run r t s=.nrm (sp 2 (V.bool false) t) s:=ze 1
theorem znw:∀ r s t,zxF.run r t s=yg 49 2 (gp 0 t) none (some (gp 3 t)) none s fun v2=>zz v2 fun v3=>.nrm (sp 15 (V.nat .i64 0) (sp 14 v3 (sp 13 v2 t))) s:=ze 5
theorem zrG:∀ r s t,zva.run r t s=zk ⟨9,[]⟩ false .lss (gp 15 t) (gp 14 t) fun v0=>.nrm (sp 16 v0 t) s:=ze 1
theorem zqk:∀ r s t,zwu.run r t s=zg 2 (gp 13 t) (gp 15 t) fun v0=>zd true 2 v0 s fun v1 s=>Go.Ev.newRow s 49 [V.nil 1,V.nil 1] false fun a2k _ s=>zJ 2 (V.ptr a2k 0 0) v1 s fun _ s=>.nrm (sp 6 (V.ptr a2k 0 0) t) s:=ze 4
theorem zrt:∀ r s t,zw4.run r t s=zf 0 (gp 4 t) fun v0=>zd false 1 v0 s fun v1 s=>zf 0 (gp 6 t) fun v2=>zd false 1 v2 s fun v3 s=>zD (r.call 40 [v1,v3] s) fun v4 s=>.nrm (sp 17 v4 t) s:=ze 5
theorem zqN:∀ r s t,zxm.run r t s=.nrm (sp 2 (V.bool false) t) s:=ze 1
theorem zrF:∀ r s t,zt1.run r t s=zk ⟨9,[]⟩ false .add (gp 15 t) (V.nat .i64 1) fun v0=>.nrm (sp 15 v0 t) s:=ze 2
theorem zqU:∀ r s t,zu4.run r t s=zk ⟨9,[]⟩ false .add (gp 10 t) (V.nat .i64 1) fun v0=>.nrm (sp 10 v0 t) s:=ze 2
theorem zrP:∀ r s t,zyF.run r t s=.nrm (sp 2 (V.bool true) t) s:=ze 1
theorem zFQ:z3 zjg=32:=by kernel_rfl
theorem zFm:z3 zjQ=98:=by kernel_rfl
theorem zgC:∀ r s t,zcB.run r t s=za (fun t s=>r.code wR zjg t s) (za (fun t s=>za (fun t s=>za (fun t s=>zt1.run r t s) (yV 3 (za (fun t s=>za (fun t s=>zu (gp 17 t) (za (fun t s=>.ret t s) (zxm.run r t s)) (.nrm t s)) (zw4.run r t s)) (zwu.run r t s)))) (zu (gp 16 t) (.nrm t s) (.ext 2 t s))) (zva.run r t s)):=by intros;kernel_rfl
theorem wb:∀ r s t,zcC.run r t s=za (fun t s=>r.code wR zjQ t s) (za (fun t s=>za (fun t s=>za (fun t s=>zu4.run r t s) (yV 1 (za (fun t s=>za (fun t s=>za (fun t s=>yV 2 (zcB.run r t s)) (zxF.run r t s)) (za (fun t s=>zu (gp 12 t) (za (fun t s=>.ret t s) (zyt.run r t s)) (.nrm t s)) (zvg.run r t s))) (zyb.run r t s)))) (zu (gp 11 t) (.nrm t s) (.ext 0 t s))) (zwN.run r t s)):=by intros;kernel_rfl
theorem yP:type_of% (aI zun <| aI zxQ <| aI zxS <| aI zrL <| aI zoF <| aI zpH <| aI zo9 <| aI zok <| aI znw <| aI zrG <| aI zqk <| aI zrt <| aI zqN <| aI zrF <| aI zqU <| aI zrP <| zGF):=aI zun <| aI zxQ <| aI zxS <| aI zrL <| aI zoF <| aI zpH <| aI zo9 <| aI zok <| aI znw <| aI zrG <| aI zqk <| aI zrt <| aI zqN <| aI zrF <| aI zqU <| aI zrP <| zGF
def zfw:FI:=⟨480,9,4⟩
def zeB:=qe Tryz.prog 27
def zrI:=zl pc0 zfw (zI [0] zeB)
def znh:=zl pc0 zfw (zI [1,0] zeB)
def zoi:=zl pc0 zfw zeB
def zqq:=yi (ql pc0 zfw (qz Tryz.prog 27)).run
theorem zym :
 ((∀ r s x0 x1,(fnC pc0 27).run r [x0,x1] s=qk (z7 (fun t s=>zqq t s) (zoi.run r (sp 1 x1 (sp 0 x0 T.new)) s))) ∧
 ((∀ s t,zqq t s=yW (gp 240 t) (yp [gp 4 t] s)) ∧
 (∀ r s t,zoi.run r t s=za (fun t s=>za (fun t s=>.ret t s) (znh.run r t s)) (zrI.run r t s)))):=by
 and_intros<;>(intros;kernel_rfl)
theorem zj7:∀ r s t,zrI.run r t s=zp 1 (gp 1 t) fun l0=>Go.Ev.newRow s 3 l0 false fun a0k _ s=>.nrm (sp 4 (V.bool false) (sp 3 (V.ptr a0k 0 0) t)) s:=ze 2
theorem zl7:∀ r s t,znh.run r t s=zD (r.call 50 [gp 0 t,(V.fn (.func 51) [] [gp 3 t])] s) fun v2 s=>xUn .not v2 fun v3=>.nrm (sp 4 v3 t) s:=ze 5
theorem zqS:type_of% (aI zj7 <| aI zl7 <| zym):=aI zj7 <| aI zl7 <| zym
def ze4:FI:=⟨72057559552112640,56,4⟩
def zhn:=qe Tryz.prog 34
def jj (l:List Nat):=zl pc0 ze4 (zI l zhn)
def zH3:=jj [0]
def zGR:=jj [1,0]
def zHQ:=jj [1,1,0]
def zG0:=jj [1,1,1,0]
def zB4:=jj [1,1,1,1,0,0]
def zBu:=jj [1,1,1,1,0,1,0,0,0]
def zBh:=jj [1,1,1,1,0,1,0,0,1,1,0,0,0]
def zEm:=jj [1,1,1,1,0,1,0,0,1,1,0,0,1,0]
def zBr:=jj [1,1,1,1,0,1,0,0,1,1,0,0,1,1,0,0]
def zDp:=jj [1,1,1,1,0,1,0,0,1,1,0,0,1,1,0,1,0,0,0]
def zCf:=jj [1,1,1,1,0,1,0,0,1,1,0,0,1,1,0,1,0,0,1,1,0,0,0]
def zAi:=jj [1,1,1,1,0,1,0,0,1,1,0,0,1,1,0,1,0,0,1,1,0,0,1,0,0]
def zBD:=jj [1,1,1,1,0,1,0,0,1,1,0,0,1,1,0,1,0,0,1,1,0,0,1,0,1,0]
def zAK:=jj [1,1,1,1,0,1,0,0,1,1,0,0,1,1,0,1,0,0,1,1,0,0,1,1]
def zBv:=jj [1,1,1,1,0,1,0,0,1,1,0,0,1,1,0,1,0,0,1,1,1]
def zh5:=zI [1,1,1,1,0,1,0,0,1,1,0,0,1,1,0,1,0] zhn
def zev:=zl pc0 ze4 zh5
def zAJ:=jj [1,1,1,1,0,1,0,0,1,1,0,0,1,1,1]
def zCD:=jj [1,1,1,1,0,1,0,0,1,1,1]
def zre:=zI [1,1,1,1,0,1,0] zhn
def zdZ:=zl pc0 ze4 zre
def zEO:=jj [1,1,1,1,1,0]
def zG2:=zl pc0 ze4 zhn
def zG7:=yi (ql pc0 ze4 (qz Tryz.prog 34)).run
theorem zK1 :
 ((∀ r s x0,(fnC pc0 34).run r [x0] s=qk (z7 (fun t s=>zG7 t s) (zG2.run r (sp 0 x0 T.new) s))) ∧
 ((∀ s t,zG7 t s=yW (gp 240 t) (yp [gp 2 t] s)) ∧
 (∀ r s t,zG2.run r t s=za (fun t s=>za (fun t s=>za (fun t s=>za (fun t s=>za (fun t s=>za (fun t s=>.ret t s) (zEO.run r t s)) (za (fun t s=>yV 0 (zdZ.run r t s)) (zB4.run r t s))) (zG0.run r t s)) (zHQ.run r t s)) (zGR.run r t s)) (zH3.run r t s)))):=by
 and_intros<;>(intros;kernel_rfl)
theorem zCG:∀ r s t,zH3.run r t s=.nrm (sp 2 (V.nil 0) t) s:=ze 1
theorem zAm:∀ r s t,zGR.run r t s=Go.Ev.newRow s 3 [V.nat .i64 0] false fun a0k _ s=>zJ 1 (V.ptr a0k 0 0) (V.nat .i64 0) s fun _ s=>.nrm (sp 3 (V.ptr a0k 0 0) t) s:=ze 2
theorem zA3:∀ r s t,zHQ.run r t s=.nrm (sp 4 (V.fn (.func 66) [] [gp 3 t]) t) s:=ze 2
theorem zBi:∀ r s t,zG0.run r t s=jz r (gp 4 t) [] t s fun v1 s=>.nrm (sp 5 v1 t) s:=ze 3
theorem zwo:∀ r s t,zB4.run r t s=zz (gp 0 t) fun v1=>.nrm (sp 13 (V.nat .i64 0) (sp 12 v1 (sp 11 (gp 0 t) t))) s:=ze 3
theorem zwY:∀ r s t,zBu.run r t s=zk ⟨9,[]⟩ false .lss (gp 13 t) (gp 12 t) fun v0=>.nrm (sp 14 v0 t) s:=ze 1
theorem zyy:∀ r s t,zBh.run r t s=zg 2 (gp 11 t) (gp 13 t) fun v1=>zd true 2 v1 s fun v2 s=>Go.Ev.newRow s 49 [V.nil 1,V.nil 1] false fun a3k _ s=>zJ 2 (V.ptr a3k 0 0) v2 s fun _ s=>.nrm (sp 6 (gp 13 t) (sp 7 (V.ptr a3k 0 0) t)) s:=ze 6
theorem zyO:∀ r s t,zEm.run r t s=.nrm (sp 8 (gp 5 t) t) s:=ze 2
theorem zyf:∀ r s t,zBr.run r t s=zf 0 (gp 7 t) fun v0=>zd false 1 v0 s fun v1 s=>zz v1 fun v2=>.nrm (sp 17 (V.nat .i64 0) (sp 16 v2 (sp 15 v1 t))) s:=ze 4
theorem ztr:∀ r s t,zDp.run r t s=zk ⟨9,[]⟩ false .lss (gp 17 t) (gp 16 t) fun v0=>.nrm (sp 18 v0 t) s:=ze 1
theorem zxa:∀ r s t,zCf.run r t s=zg 1 (gp 15 t) (gp 17 t) fun v0=>zd false 1 v0 s fun v1 s=>.nrm (sp 10 v1 t) s:=ze 3
theorem ztv:∀ r s t,zAi.run r t s=zB (gp 8 t) fun v1=>zf 0 v1 fun v2=>zd false 1 v2 s fun v3 s=>z4 ⟨7,[]⟩ (V.nil 0) false v3 (gp 10 t) s fun v5=>zk ⟨1,[]⟩ true .eql v5 (V.nil 0) fun v6=>.nrm (sp 19 v6 t) s:=ze 7
theorem ztW:∀ r s t,zBD.run r t s=zB (gp 8 t) fun v1=>zf 0 v1 fun v2=>zd false 1 v2 s fun v3 s=>jz r.det (gp 4 t) [] t s fun v6 s=>zd false 1 v2 s fun v7 s=>zet (yS v7 v3) (qw ⟨7,[]⟩ v3 (gp 10 t) v6 s fun _ s=>.nrm t s) eA:=zaq 9
theorem zys:∀ r s t,zAK.run r t s=zB (gp 8 t) fun v1=>zf 0 v1 fun v2=>zd false 1 v2 s fun v3 s=>z4 ⟨7,[]⟩ (V.nil 0) false v3 (gp 10 t) s fun v5=>.nrm (sp 8 v5 t) s:=ze 7
theorem zvr:∀ r s t,zBv.run r t s=zk ⟨9,[]⟩ false .add (gp 17 t) (V.nat .i64 1) fun v0=>.nrm (sp 17 v0 t) s:=ze 2
theorem zyw:∀ r s t,zAJ.run r t s=zB (gp 8 t) fun v2=>zf 1 v2 fun v3=>zJ 1 v3 (gp 6 t) s fun _ s=>.nrm t s:=ze 5
theorem zxv:∀ r s t,zCD.run r t s=zk ⟨9,[]⟩ false .add (gp 13 t) (V.nat .i64 1) fun v0=>.nrm (sp 13 v0 t) s:=ze 2
theorem ztG:∀ r s t,zEO.run r t s=.nrm (sp 2 (gp 5 t) t) s:=ze 2
theorem zI7:z3 zh5=47:=by kernel_rfl
theorem zI8:z3 zre=86:=by kernel_rfl
theorem zjy:∀ r s t,zev.run r t s=za (fun t s=>r.code ze4 zh5 t s) (za (fun t s=>za (fun t s=>za (fun t s=>zBv.run r t s) (yV 3 (za (fun t s=>za (fun t s=>zAK.run r t s) (za (fun t s=>zu (gp 19 t) (zBD.run r t s) (.nrm t s)) (zAi.run r t s))) (zCf.run r t s)))) (zu (gp 18 t) (.nrm t s) (.ext 2 t s))) (zDp.run r t s)):=by intros;kernel_rfl
theorem zup:∀ r s t,zdZ.run r t s=za (fun t s=>r.code ze4 zre t s) (za (fun t s=>za (fun t s=>za (fun t s=>zCD.run r t s) (yV 1 (za (fun t s=>za (fun t s=>za (fun t s=>zAJ.run r t s) (za (fun t s=>yV 2 (zev.run r t s)) (zBr.run r t s))) (zEm.run r t s)) (zBh.run r t s)))) (zu (gp 14 t) (.nrm t s) (.ext 0 t s))) (zBu.run r t s)):=by intros;kernel_rfl
theorem zfb:type_of% (aI zCG <| aI zAm <| aI zA3 <| aI zBi <| aI zwo <| aI zwY <| aI zyy <| aI zyO <| aI zyf <| aI ztr <| aI zxa <| aI ztv <| aI ztW <| aI zys <| aI zvr <| aI zyw <| aI zxv <| aI ztG <| zK1):=aI zCG <| aI zAm <| aI zA3 <| aI zBi <| aI zwo <| aI zwY <| aI zyy <| aI zyO <| aI zyf <| aI ztr <| aI zxa <| aI ztv <| aI ztW <| aI zys <| aI zvr <| aI zyw <| aI zxv <| aI ztG <| zK1
def zhH:FI:=⟨50301888,26,4⟩
def zja:=qe Tryz.prog 40
def zal (l:List Nat):=zl pc0 zhH (zI l zja)
def zBj:=zal [0]
def zBy:=zal [1,0,0]
def zDq:=zal [1,0,1,0,0]
def zwg:=zal [1,1,0,0]
def zve:=zal [1,1,0,1,0,0,0]
def zvQ:=zal [1,1,0,1,0,0,1,1,0,0,0]
def zyR:=zal [1,1,0,1,0,0,1,1,0,0,1,0]
def zxj:=zal [1,1,0,1,0,0,1,1,0,0,1,1,0,0]
def zyz:=zal [1,1,0,1,0,0,1,1,1]
def zjT:=zI [1,1,0,1,0] zja
def zcR:=zl pc0 zhH zjT
def zwy:=zal [1,1,1,0]
def zC0:=zl pc0 zhH zja
def zDs:=yi (ql pc0 zhH (qz Tryz.prog 40)).run
theorem zHl :
 ((∀ r s x0 x1,(fnC pc0 40).run r [x0,x1] s=qk (z7 (fun t s=>zDs t s) (zC0.run r (sp 1 x1 (sp 0 x0 T.new)) s))) ∧
 ((∀ s t,zDs t s=yW (gp 240 t) (yp [gp 4 t] s)) ∧
 (∀ r s t,zC0.run r t s=za (fun t s=>za (fun t s=>za (fun t s=>za (fun t s=>.ret t s) (zwy.run r t s)) (za (fun t s=>yV 0 (zcR.run r t s)) (zwg.run r t s))) (za (fun t s=>zu (gp 6 t) (za (fun t s=>.ret t s) (zDq.run r t s)) (.nrm t s)) (zBy.run r t s))) (zBj.run r t s)))):=by
 and_intros<;>(intros;kernel_rfl)
theorem zt6:∀ r s t,zBj.run r t s=.nrm (sp 4 (V.bool false) t) s:=ze 1
theorem zuB:∀ r s t,zBy.run r t s=zz (gp 0 t) fun v1=>zz (gp 1 t) fun v3=>zk ⟨7,[]⟩ false .neq v1 v3 fun v4=>.nrm (sp 6 v4 t) s:=ze 5
theorem zxq:∀ r s t,zDq.run r t s=.nrm (sp 4 (V.bool false) t) s:=ze 1
theorem zo8:∀ r s t,zwg.run r t s=zz (gp 0 t) fun v1=>.nrm (sp 8 (V.nat .i64 0) (sp 7 v1 t)) s:=ze 3
theorem zsE:∀ r s t,zve.run r t s=zk ⟨9,[]⟩ false .lss (gp 8 t) (gp 7 t) fun v0=>.nrm (sp 9 v0 t) s:=ze 1
theorem zpV:∀ r s t,zvQ.run r t s=.nrm (sp 5 (gp 8 t) t) s:=ze 2
theorem zpw:∀ r s t,zyR.run r t s=zg 1 (gp 0 t) (gp 5 t) fun v2=>zd false 1 v2 s fun v3 s=>zg 1 (gp 1 t) (gp 5 t) fun v6=>zd false 1 v6 s fun v7 s=>zk ⟨7,[]⟩ false .neq v3 v7 fun v8=>.nrm (sp 10 v8 t) s:=zaq 9
theorem zp7:∀ r s t,zxj.run r t s=.nrm (sp 4 (V.bool false) t) s:=ze 1
theorem zpm:∀ r s t,zyz.run r t s=zk ⟨9,[]⟩ false .add (gp 8 t) (V.nat .i64 1) fun v0=>.nrm (sp 8 v0 t) s:=ze 2
theorem zrm:∀ r s t,zwy.run r t s=.nrm (sp 4 (V.bool true) t) s:=ze 1
theorem zE3:z3 zjT=34:=by kernel_rfl
theorem zgt:∀ r s t,zcR.run r t s=za (fun t s=>r.code zhH zjT t s) (za (fun t s=>za (fun t s=>za (fun t s=>zyz.run r t s) (yV 1 (za (fun t s=>za (fun t s=>zu (gp 10 t) (za (fun t s=>.ret t s) (zxj.run r t s)) (.nrm t s)) (zyR.run r t s)) (zvQ.run r t s)))) (zu (gp 9 t) (.nrm t s) (.ext 0 t s))) (zve.run r t s)):=by intros;kernel_rfl
theorem zdY:type_of% (aI zt6 <| aI zuB <| aI zxq <| aI zo8 <| aI zsE <| aI zpV <| aI zpw <| aI zp7 <| aI zpm <| aI zrm <| zHl):=aI zt6 <| aI zuB <| aI zxq <| aI zo8 <| aI zsE <| aI zpV <| aI zpw <| aI zp7 <| aI zpm <| aI zrm <| zHl
def wS:FI:=⟨480,9,4⟩
def zai:=qe Tryz.prog 50
def zdG:=zl pc0 wS (zI [0] zai)
def zdN:=zl pc0 wS (zI [1,0] zai)
def zdM:=zl pc0 wS zai
def zdL:=yi (ql pc0 wS (qz Tryz.prog 50)).run
theorem zeo :
 ((∀ r s x0 x1,(fnC pc0 50).run r [x0,x1] s=qk (z7 (fun t s=>zdL t s) (zdM.run r (sp 1 x1 (sp 0 x0 T.new)) s))) ∧
 ((∀ s t,zdL t s=yW (gp 240 t) (yp [gp 4 t] s)) ∧
 (∀ r s t,zdM.run r t s=za (fun t s=>za (fun t s=>.ret t s) (zdN.run r t s)) (zdG.run r t s)))):=by
 and_intros<;>(intros;kernel_rfl)
theorem zcF:∀ r s t,zdG.run r t s=.nrm (sp 4 (V.bool false) t) s:=ze 1
theorem zcK:∀ r s t,zdN.run r t s=zD (r.call 92 [gp 0 t,gp 1 t] s) fun v2 s=>zk ⟨9,[]⟩ false .geq v2 (V.nat .i64 0) fun v3=>.nrm (sp 4 v3 t) s:=ze 5
theorem zmR:type_of% (aI zcF <| aI zcK <| zeo):=aI zcF <| aI zcK <| zeo
def za5:FI:=⟨2032,11,4⟩
def zcV:=qe Tryz.prog 51
def zmk:=zl pc0 za5 (zI [0] zcV)
def zlT:=zI [1,0] zcV
def zmO:=zl pc0 za5 zlT
def zb0:=qOf pc0 za5 zlT
def zf3:=zb0 6 2 (dn 10 6)
def zb3:=zb0 3 3 [7,6,5]
def zf9:=zb0 0 3 []
def zky:=zl pc0 za5 zcV
def zkR:=yi (ql pc0 za5 (qz Tryz.prog 51)).run
theorem zof :
 (((∀ r s x0 x1,(fnC pc0 51).run r [x0,x1] s=qk (z7 (fun t s=>zkR t s) (zky.run r (sp 1 x1 (sp 0 x0 T.new)) s))) ∧
 ((∀ s t,zkR t s=yW (gp 240 t) (yp [gp 3 t] s)) ∧
 (∀ r s t,zky.run r t s=za (fun t s=>za (fun t s=>.ret t s) (zmO.run r t s)) (zmk.run r t s)))) ∧
 (((∀ g r s t le,(zf9 g).run r t (le) s=zk ⟨9,[]⟩ false .lss (gp 0 t) (V.nat .i64 1) fun v1=>g.run r t (v1::v1::gp 0 t::le) s) ∧
 (∀ g r s t le,(zb3 g).run r t (.bool true::le) s=g.run r t (Go.Ev.undef::Go.Ev.undef::Go.Ev.undef::.bool true::le) s)) ∧
 ((∀ g r s t le,(zb3 g).run r t (.bool false::le) s=zd false 1 (gp 1 t) s fun v4 s=>zk ⟨9,[]⟩ false .gtr (gp 0 t) v4 fun v5=>g.run r t (v5::v4::gp 0 t::.bool false::le) s) ∧
 (∀ g r s t le x0 x1 x2 x3,(zf3 g).run r t (x0::x1::x2::x3::le) s=qL x3 (fun _=>g.run r (sp 3 (V.bool true) t) (V.bool true::V.bool true::x0::x1::x2::x3::le) s) (fun _=>g.run r (sp 3 x0 t) (x0::x0::x0::x1::x2::x3::le) s))))):=by
 and_intros<;>(intros;kernel_rfl)
theorem ziY:∀ r s t,zmk.run r t s=.nrm (sp 3 (V.bool false) t) s:=ze 1
theorem zhv:∀ r s t,zmO.run r t s=(zf9 (zb3 (zf3 yk))).run r t [] s:=ye (by kernel_rfl) (chS rfl (by kernel_rfl) (chS rfl (by kernel_rfl) chL))
theorem zkP:type_of% (aI ziY <| aI zhv <| zof):=aI ziY <| aI zhv <| zof
def zzO:FI:=⟨252,8,4⟩
def zwP:=qe Tryz.prog 66
def zzP (l:List Nat):=zl pc0 zzO (zI l zwP)
def zAl:=zzP [0]
def zBX:=zzP [1,0]
def zBl:=zzP [1,1,0]
def zAO:=zl pc0 zzO zwP
def zDw:=yi (ql pc0 zzO (qz Tryz.prog 66)).run
theorem zHe :
 ((∀ r s x0,(fnC pc0 66).run r [x0] s=qk (z7 (fun t s=>zDw t s) (zAO.run r (sp 0 x0 T.new) s))) ∧
 ((∀ s t,zDw t s=yW (gp 240 t) (yp [gp 1 t] s)) ∧
 (∀ r s t,zAO.run r t s=za (fun t s=>za (fun t s=>za (fun t s=>.ret t s) (zBl.run r t s)) (zBX.run r t s)) (zAl.run r t s)))):=by
 and_intros<;>(intros;kernel_rfl)
theorem zvj:∀ r s t,zAl.run r t s=.nrm (sp 1 (V.nil 0) t) s:=ze 1
theorem zvx:∀ r s t,zBX.run r t s=zd false 1 (gp 0 t) s fun v0 s=>zk ⟨9,[]⟩ false .add v0 (V.nat .i64 1) fun v1=>zJ 1 (gp 0 t) v1 s fun _ s=>.nrm t s:=ze 3
theorem zxC:∀ r s t,zBl.run r t s=jU s (.map [] 0) fun a0k s=>zd false 1 (gp 0 t) s fun v1 s=>zp 1 (V.ref 0 a0k) fun x2_0=>qY x2_0 0 [V.nil 2,V.nat .i64 0,V.nat .i64 0] fun l2_0=>zp 1 (V.neg .i64 0) fun x2_1=>qY x2_1 1 l2_0 fun l2_1=>zp 1 v1 fun x2_2=>qY x2_2 2 l2_1 fun l2_2=>zp 3 (V.ls 0 l2_2) fun l3=>Go.Ev.newRow s 70 l3 false fun a3k _ s=>.nrm (sp 1 (V.ptr a3k 0 0) t) s:=ze 5
theorem zLd:type_of% (aI zvj <| aI zvx <| aI zxC <| zHe):=aI zvj <| aI zvx <| aI zxC <| zHe
def jv:FI:=⟨457792,19,4⟩
def zb1:=qe Tryz.prog 92
def y6 (l:List Nat):=zl pc0 jv (zI l zb1)
def zig:=y6 [0]
def zg5:=y6 [1,0,0]
def ziC:=y6 [1,0,1,0,0,0]
def zf1:=y6 [1,0,1,0,0,1,1,0,0,0]
def zfO:=y6 [1,0,1,0,0,1,1,0,0,1,0]
def zfX:=y6 [1,0,1,0,0,1,1,0,0,1,1,0,0]
def zfT:=y6 [1,0,1,0,0,1,1,1]
def zaP:=zI [1,0,1,0] zb1
def yK:=zl pc0 jv zaP
def zfH:=y6 [1,1,0]
def zh7:=zl pc0 jv zb1
def zhF:=yi (ql pc0 jv (qz Tryz.prog 92)).run
theorem zl1 :
 ((∀ r s x0 x1,(fnC pc0 92).run r [x0,x1] s=qk (z7 (fun t s=>zhF t s) (zh7.run r (sp 1 x1 (sp 0 x0 T.new)) s))) ∧
 ((∀ s t,zhF t s=yW (gp 240 t) (yp [gp 4 t] s)) ∧
 (∀ r s t,zh7.run r t s=za (fun t s=>za (fun t s=>za (fun t s=>.ret t s) (zfH.run r t s)) (za (fun t s=>yV 0 (yK.run r t s)) (zg5.run r t s))) (zig.run r t s)))):=by
 and_intros<;>(intros;kernel_rfl)
theorem zfV:∀ r s t,zig.run r t s=.nrm (sp 4 (V.nat .i64 0) t) s:=ze 1
theorem zf6:∀ r s t,zg5.run r t s=zz (gp 0 t) fun v1=>.nrm (sp 7 (V.nat .i64 0) (sp 6 v1 t)) s:=ze 3
theorem zfI:∀ r s t,ziC.run r t s=zk ⟨9,[]⟩ false .lss (gp 7 t) (gp 6 t) fun v0=>.nrm (sp 8 v0 t) s:=ze 1
theorem zec:∀ r s t,zf1.run r t s=.nrm (sp 5 (gp 7 t) t) s:=ze 2
theorem zdS:∀ r s t,zfO.run r t s=zg 1 (gp 0 t) (gp 5 t) fun v3=>zd false 1 v3 s fun v4 s=>jz r (gp 1 t) [v4] t s fun v5 s=>.nrm (sp 9 v5 t) s:=ze 6
theorem zeO:∀ r s t,zfX.run r t s=.nrm (sp 4 (gp 5 t) t) s:=ze 2
theorem zdT:∀ r s t,zfT.run r t s=zk ⟨9,[]⟩ false .add (gp 7 t) (V.nat .i64 1) fun v0=>.nrm (sp 7 v0 t) s:=ze 2
theorem zd0:∀ r s t,zfH.run r t s=.nrm (sp 4 (V.neg .i64 0) t) s:=ze 1
theorem zb7:∀ r s t,yK.run r t s=za (fun t s=>r.code jv zaP t s) (za (fun t s=>za (fun t s=>za (fun t s=>zfT.run r t s) (yV 1 (za (fun t s=>za (fun t s=>zu (gp 9 t) (za (fun t s=>.ret t s) (zfX.run r t s)) (.nrm t s)) (zfO.run r t s)) (zf1.run r t s)))) (zu (gp 8 t) (.nrm t s) (.ext 0 t s))) (ziC.run r t s)):=by intros;kernel_rfl
theorem zaH:type_of% (aI zfV <| aI zf6 <| aI zfI <| aI zec <| aI zdS <| aI zeO <| aI zdT <| aI zd0 <| zl1):=aI zfV <| aI zf6 <| aI zfI <| aI zec <| aI zdS <| aI zeO <| aI zdT <| aI zd0 <| zl1
end
end Go.Proofs.YtlklljjppambpaaGreatDoor.oev
