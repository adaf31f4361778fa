/- What the evaluator makes of the functions that the statements reach: one equation for each run of operations, by the kernel. No statement of the seat stands here. No condition. By an AI agent. -/
import Derived.Test.YtlklljjppambpaaGreatDoorOvA
import Derived.Test.YtlklljjppambpaaGreatDoorProg
import Derived.KernelRfl
namespace Go.Proofs.YtlklljjppambpaaGreatDoor.oev
open Go.Ev Go.Proofs
set_option maxRecDepth 100000
noncomputable section
def pc (hooks:List Hook):PC:=PC.of Tryz.prog hooks [0,0,1,18889465368527553685504,40564818602692856525040285376512,
 22300660086400496993622782311581891087564800,5191663033196925340545171079495680,56,1208925819614629174706144,302210702316574370361312,536870336,
 35449079480712192,4064,532676544,16776112,130496,576443159102871552,14507091314321806566879232,37778931860689418977248,843256564531200,
 548681513920,56,32213685184627228544,254,3458623252329365504,8388096,4193792,480,348448518217211894145344806537083159052288,
 220208007379905674240,134217440,2475577252208360506781464576,39604409850503194169327730688,232,72057559552112640,504,503314416,1099511627264,
 69805789929205760,33549824,50301888,163332877655759086281603379116418208301056,13194131142656,72057559678156800,16352,32736,244736,444288,
 34090770432,73786413310256577280,480,2032,68215103488,2251250057377792,40564816780594953975647513346048,39534442678181013841036427264,
 18013282889759744,1147292005072486400,1124800395213824,8184,72053187400956672,
 1766840324791516674570538865549245336328782187702180493141811471333654528,2147417856,137434757056,5192296858515864375622722910089216,16775936,
 252,1016,140454020513776,268418496,1044160,42452218798465682763143301720761171968,43556141302722535823874969358092048728064,
 1298073905148697081283938550218624,2251791223488448,1180591618518388029440,3541774857960345829344,16777184,16352,112,130816,50329600,32752,
 4032,65408,4194272,126,1054972812980224,9223299606459154432,356811880641193946689691826088336933575983104,248,56,457792,134152096,16352,
 16352,2305825412699119296,24,4398046510976,232,2130705408,170141183460466738322183768001071808256,1073733568,8112,151115583319048317820928,
 2787593148518253049416813158539444535410688,536870336,4503324749429760,24,1046448,2304717040586850048,87111610932532326191870328324693962981376,
 137436855808,536868608,504,2040,480,240,2032,129984,248,17873660895281152,24,16352,1125835478138368,65507200,246284026954752,128,
 131040,131040,261952,8,262016,268434928,130944,1152885188510730240,232,562947805802496,480,9007182074854400,1152921496014807040,
 147573917370944446464,7890306461253730304,17179835392,2787571881499075797774052896007796375347200,1237938821800130672580354048,
 383123885193474569774374055887950278561850630313328640,524008,33537768,356811880641193946689691826088336933575983104,24,504,16777184,
 2301339375224487680,647769379326483302334111015759872,88,33536960,2147417984,2721885089993692897886287760060074426112,67092448,24,523744,
 36893487597654834688,281474972483328,8555330560,1047520,713275394550715778319802418023468735560876032,1016,24,504,457792,14680032,12574592,
 549755813824,140736414117888,7936,356811880641193946689691826088336933575983104,1125348137512960,4277141376,248,48640,
 4835702990227041035218944,120,8589934584,261632,2199023247360,9007182074854400,1152921496014807040,147573917370944446464,7890306461253730304,
 17179835392,2787571881499075797774052896007796375347200,1237938821800130672580354048,383123885193474569774374055887950278561850630313328640,
 18014381321090304,2147475296,33519488,32696,1048032,24,6228864,10384593407414639918073416691740640,6228864,1044424,398655360,
 31745151725696,8,16328,1952,8,456,134156032,36,4064,4064,104,484,65008,8386568,144114672678729728,70368744168960,17591682693120,
 17179868864,484,34587645138138185600,8164,65504,590293839423849099264,4503591037304448,309182776060598402215280384,532668352,
 21778071482618506735861013308488957231104,16328,79228162513074824341929064448,1008,1008,1008,34662321095378961161338743808,16352,
 2199023189888,2194224446208,9007182074854400,1152921496014807040,147573917370944446464,7890306461253730304,17179835392,
 2787571881499075797774052896007796375347200,1237938821800130672580354048,383123885193474569774374055887950278561850630313328640,4290768896,
 4835702990227041035218944,261632,2199023247360,32744,32752,184149205606795480238948490449146349755637850570752,5050176389969560855884357697536,
 6473907284443136,2266699018289282147153920,1073602816,4194302,504,504,103582791362410496,2417851639198471889600512,2,4080,56,504,4080,
 33554400,2305825412699119296,496,8,8589934528,1056964592,1032128,132120064,18887160055355137835008,0,32,16128,
 4543259750641845459761594177158656,268428272,24,64,19342813112848872164551680,64,132120064,8935141660702932864,
 89794636423602880087156592636474722530567799319756800,12574592,4294934272,649037029945047576837886721114112,16352,4501336175669248,3568,30,
 262080,79225895778352558100046659584,158446644767534338890306928640,4835702990227041035218944,261632,2199023247360,4290768896,56,0,248,248,
 140736414328832,16320,196032,1016,536543040,148754255977818640873472,17171475456,928,4835703260440209768046592,2040,7904,15856,24,2040,
 48640,17996745120149504,524224,504,16304,16304,3114368,248,288230376143288320,480,56,524224,16376,16368,192,192,192,
 35764913150590976,240,240,281337470646784,4290768896,16360,16360,144115179485392896,61408,16637888,37778931860723777658880,137403301872,
 150525431606284996046848,1984,8064,103048806384,34342829312,4186048,258016,260013824,274877644160,1504,2080760,56,30,7936,
 21778061098346189844478291628122334298112,2097120,240,457792,524220,65264,1073740800,2096608,7904,176,962064154560,34090744768,8556375552,
 32192,8384256,20282409471425404962397755244544,17163084480,224,7696579557248,224,469761536,1984,48,515848,1984,2064064,1016,1016,48,
 562948879675136,72057592963659776,36893479342736111616,123286018324422656,4294958848,10888952654262176519432384150372830132224,131040,
 19342794090620444689299456,374144419134252505651064520051920053992477580849152,0,130944,2251799813668864,262112,
 10448029773009037967681152029858612457160704,224,182686308445276092278898780960839177993124249600,224,42524890909723710779775849120990470144,
 9007190629408768,261632,444288,1048064,4177344,4160745472,4398046510976,1030792150528,134217696,1984,128960,75557859222245976505344,32640,
 68719474688,224,0,56,2266735911759287759665152,523264,4294961792,224,31457136,248,56,2016,240,261952,8796093022080,134217696,
 268172288,0,548648513024,1073741792,500,520048,2147155456,0,0,0,0,0,0,0,0,0,0,0,0,0,0,0,0,0,0,0,0,0,0,0,0,7] [(404,1),
 (443,2)] [(7,[7,7,0,7]),(8,[7,7,0,7]),(106,[7,7]),(107,[7,7]),(118,[7,7,7,7]),(119,[7,7,7,7]),(153,[7,7,7]),(154,[7,
 7,7]),(186,[7,7,8,7]),(187,[7,7,8,7]),(190,[7,7,7,7,7]),(191,[7,7,7,7,7]),(265,[7]),(266,[7]),(303,[7,7,7]),(304,[7,
 7,7]),(334,[7,7,0]),(335,[7,7,0]),(342,[7,7]),(343,[7,7]),(362,[0,8,8]),(363,[0,8,8]),(382,[7]),(383,[7]),(400,[]),(401,
 []),(410,[8,8,8])] []
def pc0:PC:=pc []
def zq2:FI:=⟨56,6,4⟩
def zms:=zA Tryz.prog 7
def zEq:=comp pc0 zq2 (subC [0] zms)
def zGw:=comp pc0 zq2 (subC [1,0] zms)
def zF7:=comp pc0 zq2 zms
def zFu:=finN (resC pc0 zq2 (resOf Tryz.prog 7)).run
theorem zII :
 ((∀ r s x0,(fnC pc0 7).run r [x0] s=outF (bindR (fun t s=>zFu t s) (zF7.run r (sp 0 x0 T.new) s))) ∧
 ((∀ s t,zFu t s=finV (gp 240 t) (resV [gp 2 t] s)) ∧
 (∀ r s t,zF7.run r t s=seqA (fun t s=>seqA (fun t s=>.ret t s) (zGw.run r t s)) (zEq.run r t s)))):=by
 and_intros<;>(intros;kernel_rfl)
theorem zyf:∀ r s t,zEq.run r t s=.nrm (sp 2 (V.bool false) t) s:=reg1 1
theorem zAt:∀ r s t,zGw.run r t s=xLenS (gp 0 t) fun v1=>xBin ⟨9,[]⟩ false .gtr v1 (V.nat .i64 30) fun v2=>.nrm (sp 2 v2 t) s:=reg1 4
theorem zFy:type_of% (aI zyf <| aI zAt <| zII):=aI zyf <| aI zAt <| zII
def yr:FI:=⟨302210702316574370361312,79,4⟩
def jJ:=zA Tryz.prog 9
def yd (l:List Nat):=comp pc0 yr (subC l jJ)
def zyG:=yd [0]
def zAd:=subC [1,0,0] jJ
def zCh:=comp pc0 yr zAd
def zd9:=qOf pc0 yr zAd
def zns:=zd9 7 1 (dn 12 7)
def zdU:=zd9 4 3 (dn 9 4)
def zqB:=zd9 0 4 []
def zzL:=yd [1,0,1,0,0]
def zsV:=yd [1,1,0,0]
def zsA:=yd [1,1,0,1,0,0,0,0]
def ztB:=subC [1,1,0,1,0,0,1,0,0,0,0] jJ
def zsB:=comp pc0 yr ztB
def qj:=qOf pc0 yr ztB
def zgP:=qj 42 1 (dn 61 42)
def zbr:=qj 35 7 (dn 54 35)
def zgH:=qj 33 2 (dn 52 33)
def zbh:=qj 26 7 (dn 45 26)
def zf4:=qj 24 2 (dn 43 24)
def zbE:=qj 17 7 (dn 36 17)
def zgj:=qj 15 2 (dn 34 15)
def zdp:=qj 8 7 (dn 27 8)
def zkV:=qj 0 8 []
def zwA:=yd [1,1,0,1,0,0,1,0,0,0,1,0,0]
def zwU:=yd [1,1,0,1,0,0,1,0,0,1,0]
def zwZ:=yd [1,1,0,1,0,0,1,0,0,1,1,0,0,0,0]
def zwN:=yd [1,1,0,1,0,0,1,0,0,1,1,0,0,1,0,0,0]
def zri:=yd [1,1,0,1,0,0,1,0,0,1,1,0,0,1,0,0,1,0,0]
def zsr:=yd [1,1,0,1,0,0,1,0,0,1,1,0,0,1,1]
def zhz:=subC [1,1,0,1,0,0,1,0,0,1,1,0] jJ
def zam:=comp pc0 yr zhz
def zrl:=yd [1,1,0,1,0,0,1,1]
def zhX:=subC [1,1,0,1,0] jJ
def wZ:=comp pc0 yr zhX
def zrw:=yd [1,1,1,0]
def zzl:=comp pc0 yr jJ
def zz0:=finN (resC pc0 yr (resOf Tryz.prog 9)).run
theorem zEg :
 (((((∀ r s x0,(fnC pc0 9).run r [x0] s=outF (bindR (fun t s=>zz0 t s) (zzl.run r (sp 0 x0 T.new) s))) ∧
 (∀ s t,zz0 t s=finV (gp 240 t) (resV [gp 2 t] s))) ∧
 ((∀ r s t,zzl.run r t s=seqA (fun t s=>seqA (fun t s=>seqA (fun t s=>seqA (fun t s=>.ret t s) (zrw.run r t s)) (seqA (fun t s=>zh 0 (wZ.run r t s)) (zsV.run r t s))) (seqA (fun t s=>condV (gp 5 t) (seqA (fun t s=>.ret t s) (zzL.run r t s)) (.nrm t s)) (zCh.run r t s))) (zyG.run r t s)) ∧
 ((∀ g r s t le,(zqB g).run r t (le) s=xLenS (gp 0 t) fun v1=>xBin ⟨9,[]⟩ false .lss v1 (V.nat .i64 1) fun v2=>g.run r t (v2::v2::v1::gp 0 t::le) s) ∧
 (∀ g r s t le,(zdU g).run r t (.bool true::le) s=g.run r t (Go.Ev.undef::Go.Ev.undef::Go.Ev.undef::.bool true::le) s)))) ∧
 (((∀ g r s t le,(zdU g).run r t (.bool false::le) s=xLenS (gp 0 t) fun v5=>xBin ⟨9,[]⟩ false .gtr v5 (V.nat .i64 20) fun v6=>g.run r t (v6::v5::gp 0 t::.bool false::le) s) ∧
 (∀ g r s t le x0 x1 x2 x3,(zns g).run r t (x0::x1::x2::x3::le) s=xPick x3 (fun _=>g.run r (sp 5 (V.bool true) t) (V.bool true::x0::x1::x2::x3::le) s) (fun _=>g.run r (sp 5 x0 t) (x0::x0::x1::x2::x3::le) s))) ∧
 ((∀ g r s t le,(zkV g).run r t (le) s=zb 2 (gp 0 t) (gp 3 t) fun v2=>za 0 v2 fun v3=>xLoad false 1 v3 s fun v4 s=>xLenS v4 fun v5=>xBin ⟨9,[]⟩ false .lss v5 (V.nat .i64 1) fun v6=>g.run r t (v6::v6::v5::v4::v3::v2::gp 3 t::gp 0 t::le) s) ∧
 ((∀ g r s t le,(zdp g).run r t (.bool true::le) s=g.run r t (Go.Ev.undef::Go.Ev.undef::Go.Ev.undef::Go.Ev.undef::Go.Ev.undef::Go.Ev.undef::Go.Ev.undef::.bool true::le) s) ∧
 (∀ g r s t le,(zdp g).run r t (.bool false::le) s=zb 2 (gp 0 t) (gp 3 t) fun v10=>za 0 v10 fun v11=>xLoad false 1 v11 s fun v12 s=>xLenS v12 fun v13=>xBin ⟨9,[]⟩ false .gtr v13 (V.nat .i64 20) fun v14=>g.run r t (v14::v13::v12::v11::v10::gp 3 t::gp 0 t::.bool false::le) s))))) ∧
 ((((∀ g r s t le x0 x1 x2 x3 x4 x5 x6 x7,(zgj g).run r t (x0::x1::x2::x3::x4::x5::x6::x7::le) s=xPick x7 (fun _=>g.run r t (V.bool true::V.bool true::x0::x1::x2::x3::x4::x5::x6::x7::le) s) (fun _=>g.run r t (x0::x0::x0::x1::x2::x3::x4::x5::x6::x7::le) s)) ∧
 (∀ g r s t le,(zbE g).run r t (.bool true::le) s=g.run r t (Go.Ev.undef::Go.Ev.undef::Go.Ev.undef::Go.Ev.undef::Go.Ev.undef::Go.Ev.undef::Go.Ev.undef::.bool true::le) s)) ∧
 ((∀ g r s t le,(zbE g).run r t (.bool false::le) s=zb 2 (gp 0 t) (gp 3 t) fun v19=>za 1 v19 fun v20=>xLoad false 1 v20 s fun v21 s=>xLenS v21 fun v22=>xBin ⟨9,[]⟩ false .gtr v22 (V.nat .i64 20) fun v23=>g.run r t (v23::v22::v21::v20::v19::gp 3 t::gp 0 t::.bool false::le) s) ∧
 ((∀ g r s t le x0 x1 x2 x3 x4 x5 x6 x7,(zf4 g).run r t (x0::x1::x2::x3::x4::x5::x6::x7::le) s=xPick x7 (fun _=>g.run r t (V.bool true::V.bool true::x0::x1::x2::x3::x4::x5::x6::x7::le) s) (fun _=>g.run r t (x0::x0::x0::x1::x2::x3::x4::x5::x6::x7::le) s)) ∧
 (∀ g r s t le,(zbh g).run r t (.bool true::le) s=g.run r t (Go.Ev.undef::Go.Ev.undef::Go.Ev.undef::Go.Ev.undef::Go.Ev.undef::Go.Ev.undef::Go.Ev.undef::.bool true::le) s)))) ∧
 (((∀ g r s t le,(zbh g).run r t (.bool false::le) s=zb 2 (gp 0 t) (gp 3 t) fun v28=>za 0 v28 fun v29=>xLoad false 1 v29 s fun v30 s=>foldF (r.call 14 [v30] s) fun v31 s=>xUn .not v31 fun v32=>g.run r t (v32::v31::v30::v29::v28::gp 3 t::gp 0 t::.bool false::le) s) ∧
 (∀ g r s t le x0 x1 x2 x3 x4 x5 x6 x7,(zgH g).run r t (x0::x1::x2::x3::x4::x5::x6::x7::le) s=xPick x7 (fun _=>g.run r t (V.bool true::V.bool true::x0::x1::x2::x3::x4::x5::x6::x7::le) s) (fun _=>g.run r t (x0::x0::x0::x1::x2::x3::x4::x5::x6::x7::le) s))) ∧
 ((∀ g r s t le,(zbr g).run r t (.bool true::le) s=g.run r t (Go.Ev.undef::Go.Ev.undef::Go.Ev.undef::Go.Ev.undef::Go.Ev.undef::Go.Ev.undef::Go.Ev.undef::.bool true::le) s) ∧
 ((∀ g r s t le,(zbr g).run r t (.bool false::le) s=zb 2 (gp 0 t) (gp 3 t) fun v37=>za 1 v37 fun v38=>xLoad false 1 v38 s fun v39 s=>foldF (r.call 14 [v39] s) fun v40 s=>xUn .not v40 fun v41=>g.run r t (v41::v40::v39::v38::v37::gp 3 t::gp 0 t::.bool false::le) s) ∧
 (∀ g r s t le x0 x1 x2 x3 x4 x5 x6 x7,(zgP g).run r t (x0::x1::x2::x3::x4::x5::x6::x7::le) s=xPick x7 (fun _=>g.run r (sp 7 (V.bool true) t) (V.bool true::x0::x1::x2::x3::x4::x5::x6::x7::le) s) (fun _=>g.run r (sp 7 x0 t) (x0::x0::x1::x2::x3::x4::x5::x6::x7::le) s))))))):=by
 and_intros<;>(intros;kernel_rfl)
theorem zuj:∀ r s t,zyG.run r t s=.nrm (sp 2 (V.bool false) t) s:=reg1 1
theorem zrU:∀ r s t,zCh.run r t s=(zqB (zdU (zns nilL))).run r t [] s:=zt (by kernel_rfl) (chS rfl (by kernel_rfl) (chS rfl (by kernel_rfl) chL))
theorem zwb:∀ r s t,zzL.run r t s=.nrm (sp 2 (V.bool false) t) s:=reg1 1
theorem zm7:∀ r s t,zsV.run r t s=.nrm (sp 3 (V.nat .i64 0) t) s:=reg1 1
theorem zmY:∀ r s t,zsA.run r t s=xLenS (gp 0 t) fun v2=>xBin ⟨9,[]⟩ false .lss (gp 3 t) v2 fun v3=>.nrm (sp 6 v3 t) s:=reg1 4
theorem zpk:∀ r s t,zsB.run r t s=(zkV (zdp (zgj (zbE (zf4 (zbh (zgH (zbr (zgP nilL))))))))).run r t [] s:=zt (by kernel_rfl) (chS rfl (by kernel_rfl) (chS rfl (by kernel_rfl) (chS rfl (by kernel_rfl) (chS rfl (by kernel_rfl) (chS rfl (by kernel_rfl) (chS rfl (by kernel_rfl) (chS rfl (by kernel_rfl) (chS rfl (by kernel_rfl) chL))))))))
theorem znS:∀ r s t,zwA.run r t s=.nrm (sp 2 (V.bool false) t) s:=reg1 1
theorem znt:∀ r s t,zwU.run r t s=.nrm (sp 4 (V.nat .i64 0) t) s:=reg1 1
theorem zpD:∀ r s t,zwZ.run r t s=xBin ⟨9,[]⟩ false .lss (gp 4 t) (gp 3 t) fun v2=>.nrm (sp 8 v2 t) s:=reg1 3
theorem zqF:∀ r s t,zwN.run r t s=zb 2 (gp 0 t) (gp 3 t) fun v2=>za 0 v2 fun v3=>xLoad false 1 v3 s fun v4 s=>zb 2 (gp 0 t) (gp 4 t) fun v7=>za 0 v7 fun v8=>xLoad false 1 v8 s fun v9 s=>foldF (r.det.call 20 [v4,v9] s) fun v10 s=>xBin ⟨7,[]⟩ true .eql v10 (V.nat .i64 0) fun v11=>.nrm (sp 9 v11 t) s:=dreg1 12
theorem zpQ:∀ r s t,zri.run r t s=.nrm (sp 2 (V.bool false) t) s:=reg1 1
theorem zqd:∀ r s t,zsr.run r t s=xBin ⟨9,[]⟩ false .add (gp 4 t) (V.nat .i64 1) fun v1=>.nrm (sp 4 v1 t) s:=reg1 3
theorem zqC:∀ r s t,zrl.run r t s=xBin ⟨9,[]⟩ false .add (gp 3 t) (V.nat .i64 1) fun v1=>.nrm (sp 3 v1 t) s:=reg1 3
theorem zoH:∀ r s t,zrw.run r t s=.nrm (sp 2 (V.bool true) t) s:=reg1 1
theorem zEM:sizeC zhz=36:=by kernel_rfl
theorem zE6:sizeC zhX=109:=by kernel_rfl
theorem zd4:∀ r s t,zam.run r t s=seqA (fun t s=>r.code yr zhz t s) (seqA (fun t s=>seqA (fun t s=>zsr.run r t s) (zh 3 (seqA (fun t s=>condV (gp 9 t) (seqA (fun t s=>.ret t s) (zri.run r t s)) (.nrm t s)) (zwN.run r t s)))) (seqA (fun t s=>condV (gp 8 t) (.nrm t s) (.ext 2 t s)) (zwZ.run r t s))):=by intros;kernel_rfl
theorem yI:∀ r s t,wZ.run r t s=seqA (fun t s=>r.code yr zhX t s) (seqA (fun t s=>seqA (fun t s=>zrl.run r t s) (zh 1 (seqA (fun t s=>seqA (fun t s=>zh 2 (zam.run r t s)) (zwU.run r t s)) (seqA (fun t s=>condV (gp 7 t) (seqA (fun t s=>.ret t s) (zwA.run r t s)) (.nrm t s)) (zsB.run r t s))))) (seqA (fun t s=>condV (gp 6 t) (.nrm t s) (.ext 0 t s)) (zsA.run r t s))):=by intros;kernel_rfl
theorem qq:type_of% (aI zuj <| aI zrU <| aI zwb <| aI zm7 <| aI zmY <| aI zpk <| aI znS <| aI znt <| aI zpD <| aI zqF <| aI zpQ <| aI zqd <| aI zqC <| aI zoH <| zEg):=aI zuj <| aI zrU <| aI zwb <| aI zm7 <| aI zmY <| aI zpk <| aI znS <| aI znt <| aI zpD <| aI zqF <| aI zpQ <| aI zqd <| aI zqC <| aI zoH <| zEg
def zcz:FI:=⟨16776112,25,4⟩
def zfM:=zA Tryz.prog 14
def zaX (l:List Nat):=comp pc0 zcz (subC l zfM)
def zEl:=zaX [0]
def zGg:=zaX [1,0,0]
def zD3:=zaX [1,0,1,0,0]
def zzY:=zaX [1,1,0,0]
def zCl:=zaX [1,1,0,1,0,0,0,0]
def zAA:=subC [1,1,0,1,0,0,1,0,0,0] zfM
def zBx:=comp pc0 zcz zAA
def zd6:=qOf pc0 zcz zAA
def zkQ:=zd6 11 1 (dn 24 11)
def zd5:=zd6 6 5 (dn 19 6)
def zmL:=zd6 0 6 []
def zCQ:=zaX [1,1,0,1,0,0,1,0,0,1,0,0]
def zxZ:=zaX [1,1,0,1,0,0,1,1]
def zmn:=subC [1,1,0,1,0] zfM
def zbG:=comp pc0 zcz zmn
def zyZ:=zaX [1,1,1,0]
def zE1:=comp pc0 zcz zfM
def zGs:=finN (resC pc0 zcz (resOf Tryz.prog 14)).run
theorem zJn :
 (((∀ r s x0,(fnC pc0 14).run r [x0] s=outF (bindR (fun t s=>zGs t s) (zE1.run r (sp 0 x0 T.new) s))) ∧
 ((∀ s t,zGs t s=finV (gp 240 t) (resV [gp 2 t] s)) ∧
 (∀ r s t,zE1.run r t s=seqA (fun t s=>seqA (fun t s=>seqA (fun t s=>seqA (fun t s=>.ret t s) (zyZ.run r t s)) (seqA (fun t s=>zh 0 (zbG.run r t s)) (zzY.run r t s))) (seqA (fun t s=>condV (gp 4 t) (seqA (fun t s=>.ret t s) (zD3.run r t s)) (.nrm t s)) (zGg.run r t s))) (zEl.run r t s)))) ∧
 (((∀ g r s t le,(zmL g).run r t (le) s=zb 1 (gp 0 t) (gp 3 t) fun v2=>xLoad false 1 v2 s fun v3 s=>xBin ⟨9,[]⟩ false .lss v3 (V.nat .i64 1) fun v4=>g.run r t (v4::v4::v3::v2::gp 3 t::gp 0 t::le) s) ∧
 (∀ g r s t le,(zd5 g).run r t (.bool true::le) s=g.run r t (Go.Ev.undef::Go.Ev.undef::Go.Ev.undef::Go.Ev.undef::Go.Ev.undef::.bool true::le) s)) ∧
 ((∀ g r s t le,(zd5 g).run r t (.bool false::le) s=zb 1 (gp 0 t) (gp 3 t) fun v8=>xLoad false 1 v8 s fun v9 s=>xBin ⟨9,[]⟩ false .gtr v9 (V.nat .i64 500) fun v10=>g.run r t (v10::v9::v8::gp 3 t::gp 0 t::.bool false::le) s) ∧
 (∀ g r s t le x0 x1 x2 x3 x4 x5,(zkQ g).run r t (x0::x1::x2::x3::x4::x5::le) s=xPick x5 (fun _=>g.run r (sp 6 (V.bool true) t) (V.bool true::x0::x1::x2::x3::x4::x5::le) s) (fun _=>g.run r (sp 6 x0 t) (x0::x0::x1::x2::x3::x4::x5::le) s))))):=by
 and_intros<;>(intros;kernel_rfl)
theorem zAr:∀ r s t,zEl.run r t s=.nrm (sp 2 (V.bool false) t) s:=reg1 1
theorem zyr:∀ r s t,zGg.run r t s=xLenS (gp 0 t) fun v1=>xBin ⟨9,[]⟩ false .gtr v1 (V.nat .i64 200) fun v2=>.nrm (sp 4 v2 t) s:=reg1 3
theorem zx7:∀ r s t,zD3.run r t s=.nrm (sp 2 (V.bool false) t) s:=reg1 1
theorem zxc:∀ r s t,zzY.run r t s=.nrm (sp 3 (V.nat .i64 0) t) s:=reg1 1
theorem zvP:∀ r s t,zCl.run r t s=xLenS (gp 0 t) fun v2=>xBin ⟨9,[]⟩ false .lss (gp 3 t) v2 fun v3=>.nrm (sp 5 v3 t) s:=reg1 4
theorem zvI:∀ r s t,zBx.run r t s=(zmL (zd5 (zkQ nilL))).run r t [] s:=zt (by kernel_rfl) (chS rfl (by kernel_rfl) (chS rfl (by kernel_rfl) chL))
theorem zxd:∀ r s t,zCQ.run r t s=.nrm (sp 2 (V.bool false) t) s:=reg1 1
theorem zry:∀ r s t,zxZ.run r t s=xBin ⟨9,[]⟩ false .add (gp 3 t) (V.nat .i64 1) fun v1=>.nrm (sp 3 v1 t) s:=reg1 3
theorem zvr:∀ r s t,zyZ.run r t s=.nrm (sp 2 (V.bool true) t) s:=reg1 1
theorem zHY:sizeC zmn=37:=by kernel_rfl
theorem zcp:∀ r s t,zbG.run r t s=seqA (fun t s=>r.code zcz zmn t s) (seqA (fun t s=>seqA (fun t s=>zxZ.run r t s) (zh 1 (seqA (fun t s=>condV (gp 6 t) (seqA (fun t s=>.ret t s) (zCQ.run r t s)) (.nrm t s)) (zBx.run r t s)))) (seqA (fun t s=>condV (gp 5 t) (.nrm t s) (.ext 0 t s)) (zCl.run r t s))):=by intros;kernel_rfl
theorem zb6:type_of% (aI zAr <| aI zyr <| aI zx7 <| aI zxc <| aI zvP <| aI zvI <| aI zxd <| aI zry <| aI zvr <| zJn):=aI zAr <| aI zyr <| aI zx7 <| aI zxc <| aI zvP <| aI zvI <| aI zxd <| aI zry <| aI zvr <| zJn
def js:FI:=⟨14507091314321806566879232,84,4⟩
def zb8:=zA Tryz.prog 17
def z5 (l:List Nat):=comp pc0 js (subC l zb8)
def zFB:=z5 [0]
def zEO:=subC [1,0,0] zb8
def zFR:=comp pc0 js zEO
def zaF:=qOf pc0 js zEO
def zpV:=zaF 12 1 (dn 24 12)
def zhJ:=zaF 9 3 (dn 21 9)
def zxz:=zaF 7 2 (dn 19 7)
def zh4:=zaF 4 3 (dn 16 4)
def zvZ:=zaF 0 4 []
def zGe:=z5 [1,0,1,0,0]
def zBI:=z5 [1,1,0]
def zyb:=z5 [1,1,1,0,0]
def zxR:=z5 [1,1,1,0,1,0,0,0,0]
def zzD:=z5 [1,1,1,0,1,0,0,1,0,0]
def zAQ:=z5 [1,1,1,0,1,0,0,1,0,1,0]
def zCU:=z5 [1,1,1,0,1,0,0,1,0,1,1,0,0]
def zAc:=z5 [1,1,1,0,1,0,0,1,0,1,1,0,1,0,0,0,0]
def zBB:=z5 [1,1,1,0,1,0,0,1,0,1,1,0,1,0,0,1,0,0,0,0]
def zCw:=z5 [1,1,1,0,1,0,0,1,0,1,1,0,1,0,0,1,0,0,0,1,0]
def zA0:=z5 [1,1,1,0,1,0,0,1,0,1,1,0,1,0,0,1,0,0,1,0]
def zyB:=z5 [1,1,1,0,1,0,0,1,0,1,1,0,1,0,0,1,0,0,1,1,0]
def zzk:=z5 [1,1,1,0,1,0,0,1,0,1,1,0,1,0,0,1,1]
def zfL:=subC [1,1,1,0,1,0,0,1,0,1,1,0,1,0] zb8
def zbQ:=comp pc0 js zfL
def zyJ:=z5 [1,1,1,0,1,0,0,1,0,1,1,1,0,0]
def zx6:=z5 [1,1,1,0,1,0,0,1,0,1,1,1,0,1,0]
def zA3:=z5 [1,1,1,0,1,0,0,1,0,1,1,1,0,1,1]
def zzv:=z5 [1,1,1,0,1,0,0,1,0,1,1,1,1]
def zfK:=subC [1,1,1,0,1,0] zb8
def zcj:=comp pc0 js zfK
def zBZ:=z5 [1,1,1,1,0,0]
def zy3:=z5 [1,1,1,1,0,1,0,0]
def zzj:=z5 [1,1,1,1,1,0]
def zG1:=comp pc0 js zb8
def zFw:=finN (resC pc0 js (resOf Tryz.prog 17)).run
theorem zIC :
 ((((∀ r s x0 x1,(fnC pc0 17).run r [x0,x1] s=outF (bindR (fun t s=>zFw t s) (zG1.run r (sp 1 x1 (sp 0 x0 T.new)) s))) ∧
 (∀ s t,zFw t s=finV (gp 240 t) (resV [gp 4 t,gp 5 t] s))) ∧
 ((∀ r s t,zG1.run r t s=seqA (fun t s=>seqA (fun t s=>seqA (fun t s=>seqA (fun t s=>seqA (fun t s=>seqA (fun t s=>.ret t s) (zzj.run r t s)) (seqA (fun t s=>condV (gp 18 t) (seqA (fun t s=>.ret t s) (zy3.run r t s)) (.nrm t s)) (zBZ.run r t s))) (seqA (fun t s=>zh 0 (zcj.run r t s)) (zyb.run r t s))) (zBI.run r t s)) (seqA (fun t s=>condV (gp 12 t) (seqA (fun t s=>.ret t s) (zGe.run r t s)) (.nrm t s)) (zFR.run r t s))) (zFB.run r t s)) ∧
 ((∀ g r s t le,(zvZ g).run r t (le) s=foldF (r.call 22 [gp 0 t] s) fun v1 s=>xUn .not v1 fun v2=>g.run r t (v2::v2::v1::gp 0 t::le) s) ∧
 (∀ g r s t le,(zh4 g).run r t (.bool true::le) s=g.run r t (Go.Ev.undef::Go.Ev.undef::Go.Ev.undef::.bool true::le) s)))) ∧
 (((∀ g r s t le,(zh4 g).run r t (.bool false::le) s=xLenS (gp 1 t) fun v5=>xBin ⟨9,[]⟩ false .gtr v5 (V.nat .i64 200) fun v6=>g.run r t (v6::v5::gp 1 t::.bool false::le) s) ∧
 (∀ g r s t le x0 x1 x2 x3,(zxz g).run r t (x0::x1::x2::x3::le) s=xPick x3 (fun _=>g.run r t (V.bool true::V.bool true::x0::x1::x2::x3::le) s) (fun _=>g.run r t (x0::x0::x0::x1::x2::x3::le) s))) ∧
 ((∀ g r s t le,(zhJ g).run r t (.bool true::le) s=g.run r t (Go.Ev.undef::Go.Ev.undef::Go.Ev.undef::.bool true::le) s) ∧
 ((∀ g r s t le,(zhJ g).run r t (.bool false::le) s=foldF (r.call 27 [gp 1 t,V.nat .i64 500] s) fun v10 s=>xUn .not v10 fun v11=>g.run r t (v11::v10::gp 1 t::.bool false::le) s) ∧
 (∀ g r s t le x0 x1 x2 x3,(zpV g).run r t (x0::x1::x2::x3::le) s=xPick x3 (fun _=>g.run r (sp 12 (V.bool true) t) (V.bool true::x0::x1::x2::x3::le) s) (fun _=>g.run r (sp 12 x0 t) (x0::x0::x1::x2::x3::le) s)))))):=by
 and_intros<;>(intros;kernel_rfl)
theorem zB1:∀ r s t,zFB.run r t s=.nrm (sp 5 (V.nat .i64 0) (sp 4 (V.nil 1) t)) s:=reg1 2
theorem zxW:∀ r s t,zFR.run r t s=(zvZ (zh4 (zxz (zhJ (zpV nilL))))).run r t [] s:=zt (by kernel_rfl) (chS rfl (by kernel_rfl) (chS rfl (by kernel_rfl) (chS rfl (by kernel_rfl) (chS rfl (by kernel_rfl) chL))))
theorem zCu:∀ r s t,zGe.run r t s=.nrm (sp 5 (V.nat .i64 1) (sp 4 (V.nil 1) t)) s:=reg1 2
theorem ztV:∀ r s t,zBI.run r t s=foldF (r.call 34 [gp 0 t] s) fun v1 s=>.nrm (sp 6 v1 t) s:=reg1 3
theorem zuw:∀ r s t,zyb.run r t s=.nrm (sp 7 (V.nat .i64 0) t) s:=reg1 1
theorem zvy:∀ r s t,zxR.run r t s=xLenS (gp 1 t) fun v2=>xBin ⟨9,[]⟩ false .lss (gp 7 t) v2 fun v3=>.nrm (sp 13 v3 t) s:=reg1 4
theorem zuu:∀ r s t,zzD.run r t s=xBin ⟨9,[]⟩ false .add (gp 7 t) (V.nat .i64 1) fun v1=>.nrm (sp 9 v1 (sp 8 (V.neg .i64 0) t)) s:=reg1 4
theorem zsz:∀ r s t,zAQ.run r t s=.nrm (sp 10 (gp 6 t) t) s:=reg1 2
theorem zt4:∀ r s t,zCU.run r t s=.nrm (sp 11 (gp 7 t) t) s:=reg1 2
theorem zvc:∀ r s t,zAc.run r t s=xLenS (gp 1 t) fun v2=>xBin ⟨9,[]⟩ false .lss (gp 11 t) v2 fun v3=>.nrm (sp 14 v3 t) s:=reg1 4
theorem ztO:∀ r s t,zBB.run r t s=z1 (gp 10 t) fun v1=>za 0 v1 fun v2=>xLoad false 1 v2 s fun v3 s=>zb 1 (gp 1 t) (gp 11 t) fun v6=>xLoad false 1 v6 s fun v7 s=>j7 ⟨7,[]⟩ (V.nil 0) false v3 v7 s fun v8=>.nrm (sp 10 v8 t) s:=dreg1 10
theorem ztx:∀ r s t,zCw.run r t s=xBin ⟨1,[]⟩ true .eql (gp 10 t) (V.nil 0) fun v1=>.nrm (sp 15 v1 t) s:=reg1 2
theorem ztD:∀ r s t,zA0.run r t s=z1 (gp 10 t) fun v1=>za 1 v1 fun v2=>xLoad false 1 v2 s fun v3 s=>xBin ⟨9,[]⟩ false .geq v3 (V.nat .i64 0) fun v4=>.nrm (sp 16 v4 t) s:=reg1 5
theorem zvL:∀ r s t,zyB.run r t s=z1 (gp 10 t) fun v1=>za 1 v1 fun v2=>xLoad false 1 v2 s fun v3 s=>xBin ⟨9,[]⟩ false .add (gp 11 t) (V.nat .i64 1) fun v5=>.nrm (sp 9 v5 (sp 8 v3 t)) s:=reg1 8
theorem zr7:∀ r s t,zzk.run r t s=xBin ⟨9,[]⟩ false .add (gp 11 t) (V.nat .i64 1) fun v1=>.nrm (sp 11 v1 t) s:=reg1 3
theorem zwP:∀ r s t,zyJ.run r t s=xBin ⟨9,[]⟩ false .geq (gp 8 t) (V.nat .i64 0) fun v1=>.nrm (sp 17 v1 t) s:=reg1 2
theorem zsP:∀ r s t,zx6.run r t s=zb 2 (gp 0 t) (gp 8 t) fun v3=>za 1 v3 fun v4=>xLoad false 1 v4 s fun v5 s=>zM 3 1 (gp 4 t) v5 s fun v6 s=>.nrm (sp 4 v6 t) s:=reg1 8
theorem zvz:∀ r s t,zA3.run r t s=zb 1 (gp 1 t) (gp 7 t) fun v3=>xLoad false 1 v3 s fun v4 s=>repL [V.nat .i64 0] 1 fun l5z=>zk 1 v4 fun x5_0=>updL x5_0 0 l5z fun l5_0=>Go.Ev.newRow s 3 l5_0 false fun a5k _ s=>zM 3 1 (gp 4 t) (V.sl a5k 0 0 1 1) s fun v6 s=>.nrm (sp 4 v6 t) s:=reg1 8
theorem zvj:∀ r s t,zzv.run r t s=.nrm (sp 7 (gp 9 t) t) s:=reg1 2
theorem zvY:∀ r s t,zBZ.run r t s=xLenS (gp 4 t) fun v1=>xBin ⟨9,[]⟩ false .gtr v1 (V.nat .i64 200) fun v2=>.nrm (sp 18 v2 t) s:=reg1 3
theorem zrz:∀ r s t,zy3.run r t s=.nrm (sp 5 (V.nat .i64 2) (sp 4 (V.nil 1) t)) s:=reg1 2
theorem zsF:∀ r s t,zzj.run r t s=.nrm (sp 5 (V.nat .i64 0) (sp 4 (gp 4 t) t)) s:=reg1 3
theorem zHI:sizeC zfL=55:=by kernel_rfl
theorem zHU:sizeC zfK=110:=by kernel_rfl
theorem zcL:∀ r s t,zbQ.run r t s=seqA (fun t s=>r.code js zfL t s) (seqA (fun t s=>seqA (fun t s=>zzk.run r t s) (zh 3 (seqA (fun t s=>seqA (fun t s=>condV (gp 16 t) (zyB.run r t s) (.nrm t s)) (zA0.run r t s)) (seqA (fun t s=>seqA (fun t s=>condV (gp 15 t) (.ext 2 t s) (.nrm t s)) (zCw.run r t s)) (zBB.run r t s))))) (seqA (fun t s=>condV (gp 14 t) (.nrm t s) (.ext 2 t s)) (zAc.run r t s))):=by intros;kernel_rfl
theorem zsT:∀ r s t,zcj.run r t s=seqA (fun t s=>r.code js zfK t s) (seqA (fun t s=>zh 1 (seqA (fun t s=>seqA (fun t s=>seqA (fun t s=>seqA (fun t s=>zzv.run r t s) (seqA (fun t s=>condV (gp 17 t) (zx6.run r t s) (zA3.run r t s)) (zyJ.run r t s))) (seqA (fun t s=>zh 2 (zbQ.run r t s)) (zCU.run r t s))) (zAQ.run r t s)) (zzD.run r t s))) (seqA (fun t s=>condV (gp 13 t) (.nrm t s) (.ext 0 t s)) (zxR.run r t s))):=by intros;kernel_rfl
theorem ja:type_of% (aI zB1 <| aI zxW <| aI zCu <| aI ztV <| aI zuw <| aI zvy <| aI zuu <| aI zsz <| aI zt4 <| aI zvc <| aI ztO <| aI ztx <| aI ztD <| aI zvL <| aI zr7 <| aI zwP <| aI zsP <| aI zvz <| aI zvj <| aI zvY <| aI zrz <| aI zsF <| zIC):=aI zB1 <| aI zxW <| aI zCu <| aI ztV <| aI zuw <| aI zvy <| aI zuu <| aI zsz <| aI zt4 <| aI zvc <| aI ztO <| aI ztx <| aI ztD <| aI zvL <| aI zr7 <| aI zwP <| aI zsP <| aI zvz <| aI zvj <| aI zvY <| aI zrz <| aI zsF <| zIC
def jT:FI:=⟨548681513920,40,4⟩
def zfc:=zA Tryz.prog 20
def qr (l:List Nat):=comp pc0 jT (subC l zfc)
def zrn:=qr [0]
def zwV:=qr [1,0,0]
def zwH:=qr [1,0,1,0,0,0]
def zql:=qr [1,0,1,0,0,1,0,0]
def zot:=qr [1,0,1,0,1,0]
def zpK:=qr [1,1,0,0]
def zmS:=qr [1,1,0,1,0,0,0,0]
def zp7:=qr [1,1,0,1,0,0,1,0,0,0,0]
def zn4:=qr [1,1,0,1,0,0,1,0,0,0,1,0,0]
def zqL:=qr [1,1,0,1,0,0,1,0,0,1,0]
def zoy:=qr [1,1,0,1,0,0,1,0,0,1,1,0,0]
def zoE:=qr [1,1,0,1,0,0,1,1]
def za4:=subC [1,1,0,1,0] zfc
def qV:=comp pc0 jT za4
def zo9:=qr [1,1,1,0]
def zsj:=comp pc0 jT zfc
def zrx:=finN (resC pc0 jT (resOf Tryz.prog 20)).run
theorem zCp :
 ((∀ r s x0 x1,(fnC pc0 20).run r [x0,x1] s=outF (bindR (fun t s=>zrx t s) (zsj.run r (sp 1 x1 (sp 0 x0 T.new)) s))) ∧
 ((∀ s t,zrx t s=finV (gp 240 t) (resV [gp 4 t] s)) ∧
 (∀ r s t,zsj.run r t s=seqA (fun t s=>seqA (fun t s=>seqA (fun t s=>seqA (fun t s=>.ret t s) (zo9.run r t s)) (seqA (fun t s=>zh 0 (qV.run r t s)) (zpK.run r t s))) (seqA (fun t s=>condV (gp 6 t) (seqA (fun t s=>seqA (fun t s=>.ret t s) (zot.run r t s)) (seqA (fun t s=>condV (gp 7 t) (seqA (fun t s=>.ret t s) (zql.run r t s)) (.nrm t s)) (zwH.run r t s))) (.nrm t s)) (zwV.run r t s))) (zrn.run r t s)))):=by
 and_intros<;>(intros;kernel_rfl)
theorem zoi:∀ r s t,zrn.run r t s=.nrm (sp 4 (V.nat .i64 0) t) s:=reg1 1
theorem zqc:∀ r s t,zwV.run r t s=xLenS (gp 0 t) fun v1=>xLenS (gp 1 t) fun v3=>xBin ⟨7,[]⟩ false .neq v1 v3 fun v4=>.nrm (sp 6 v4 t) s:=reg1 5
theorem zpu:∀ r s t,zwH.run r t s=xLenS (gp 0 t) fun v1=>xLenS (gp 1 t) fun v3=>xBin ⟨9,[]⟩ false .lss v1 v3 fun v4=>.nrm (sp 7 v4 t) s:=reg1 5
theorem zlb:∀ r s t,zql.run r t s=.nrm (sp 4 (V.neg .i64 0) t) s:=reg1 1
theorem ziJ:∀ r s t,zot.run r t s=.nrm (sp 4 (V.nat .i64 1) t) s:=reg1 1
theorem zjq:∀ r s t,zpK.run r t s=.nrm (sp 5 (V.nat .i64 0) t) s:=reg1 1
theorem zkg:∀ r s t,zmS.run r t s=xLenS (gp 0 t) fun v2=>xBin ⟨9,[]⟩ false .lss (gp 5 t) v2 fun v3=>.nrm (sp 8 v3 t) s:=reg1 4
theorem zkX:∀ r s t,zp7.run r t s=zb 1 (gp 0 t) (gp 5 t) fun v2=>xLoad false 1 v2 s fun v3 s=>zb 1 (gp 1 t) (gp 5 t) fun v6=>xLoad false 1 v6 s fun v7 s=>xBin ⟨9,[]⟩ false .lss v3 v7 fun v8=>.nrm (sp 9 v8 t) s:=dreg1 9
theorem zid:∀ r s t,zn4.run r t s=.nrm (sp 4 (V.neg .i64 0) t) s:=reg1 1
theorem zjz:∀ r s t,zqL.run r t s=zb 1 (gp 0 t) (gp 5 t) fun v2=>xLoad false 1 v2 s fun v3 s=>zb 1 (gp 1 t) (gp 5 t) fun v6=>xLoad false 1 v6 s fun v7 s=>xBin ⟨9,[]⟩ false .gtr v3 v7 fun v8=>.nrm (sp 10 v8 t) s:=dreg1 9
theorem zlh:∀ r s t,zoy.run r t s=.nrm (sp 4 (V.nat .i64 1) t) s:=reg1 1
theorem ziP:∀ r s t,zoE.run r t s=xBin ⟨9,[]⟩ false .add (gp 5 t) (V.nat .i64 1) fun v1=>.nrm (sp 5 v1 t) s:=reg1 3
theorem zlC:∀ r s t,zo9.run r t s=.nrm (sp 4 (V.nat .i64 0) t) s:=reg1 1
theorem wF:∀ r s t,qV.run r t s=seqA (fun t s=>r.code jT za4 t s) (seqA (fun t s=>seqA (fun t s=>zoE.run r t s) (zh 1 (seqA (fun t s=>seqA (fun t s=>condV (gp 10 t) (seqA (fun t s=>.ret t s) (zoy.run r t s)) (.nrm t s)) (zqL.run r t s)) (seqA (fun t s=>condV (gp 9 t) (seqA (fun t s=>.ret t s) (zn4.run r t s)) (.nrm t s)) (zp7.run r t s))))) (seqA (fun t s=>condV (gp 8 t) (.nrm t s) (.ext 0 t s)) (zmS.run r t s))):=by intros;kernel_rfl
theorem jh:type_of% (aI zoi <| aI zqc <| aI zpu <| aI zlb <| aI ziJ <| aI zjq <| aI zkg <| aI zkX <| aI zid <| aI zjz <| aI zlh <| aI ziP <| aI zlC <| zCp):=aI zoi <| aI zqc <| aI zpu <| aI zlb <| aI ziJ <| aI zjq <| aI zkg <| aI zkX <| aI zid <| aI zjz <| aI zlh <| aI ziP <| aI zlC <| zCp
def jv:FI:=⟨32213685184627228544,65,4⟩
def wO:=zA Tryz.prog 22
def yl (l:List Nat):=comp pc0 jv (subC l wO)
def zEU:=yl [0]
def zGU:=subC [1,0,0] wO
def zGQ:=comp pc0 jv zGU
def zhL:=qOf pc0 jv zGU
def ztA:=zhL 7 1 (dn 14 7)
def zhI:=zhL 4 3 (dn 11 4)
def zw2:=zhL 0 4 []
def zGz:=yl [1,0,1,0,0]
def zx1:=yl [1,1,0,0]
def zAx:=yl [1,1,0,1,0,0,0]
def zCv:=yl [1,1,0,1,0,0,1,1,0,0,0]
def zAq:=subC [1,1,0,1,0,0,1,1,0,0,1,0,0] wO
def zBo:=comp pc0 jv zAq
def qH:=qOf pc0 jv zAq
def zln:=qH 27 1 (dn 49 27)
def zdu:=qH 23 4 (dn 45 23)
def zlx:=qH 21 2 (dn 43 21)
def zds:=qH 17 4 (dn 39 17)
def zju:=qH 15 2 (dn 37 15)
def zdf:=qH 11 4 (dn 33 11)
def zpO:=qH 9 2 (dn 31 9)
def zeU:=qH 5 4 (dn 27 5)
def znp:=qH 0 5 []
def zyE:=yl [1,1,0,1,0,0,1,1,0,0,1,0,1,0,0]
def zyl:=yl [1,1,0,1,0,0,1,1,0,0,1,1,0]
def zyV:=yl [1,1,0,1,0,0,1,1,0,0,1,1,1,0,0,0]
def zyc:=yl [1,1,0,1,0,0,1,1,0,0,1,1,1,0,0,1,1,0,0,0]
def zA9:=yl [1,1,0,1,0,0,1,1,0,0,1,1,1,0,0,1,1,0,0,1,0]
def zBr:=yl [1,1,0,1,0,0,1,1,0,0,1,1,1,0,0,1,1,0,0,1,1,0,0]
def zCs:=yl [1,1,0,1,0,0,1,1,0,0,1,1,1,0,0,1,1,1]
def zlT:=subC [1,1,0,1,0,0,1,1,0,0,1,1,1,0] wO
def zb0:=comp pc0 jv zlT
def zzy:=yl [1,1,0,1,0,0,1,1,1]
def zmI:=subC [1,1,0,1,0] wO
def zbN:=comp pc0 jv zmI
def zyY:=yl [1,1,1,0]
def zFM:=comp pc0 jv wO
def zEv:=finN (resC pc0 jv (resOf Tryz.prog 22)).run
theorem zJx :
 (((((∀ r s x0,(fnC pc0 22).run r [x0] s=outF (bindR (fun t s=>zEv t s) (zFM.run r (sp 0 x0 T.new) s))) ∧
 (∀ s t,zEv t s=finV (gp 240 t) (resV [gp 2 t] s))) ∧
 ((∀ r s t,zFM.run r t s=seqA (fun t s=>seqA (fun t s=>seqA (fun t s=>seqA (fun t s=>.ret t s) (zyY.run r t s)) (seqA (fun t s=>zh 0 (zbN.run r t s)) (zx1.run r t s))) (seqA (fun t s=>condV (gp 7 t) (seqA (fun t s=>.ret t s) (zGz.run r t s)) (.nrm t s)) (zGQ.run r t s))) (zEU.run r t s)) ∧
 ((∀ g r s t le,(zw2 g).run r t (le) s=xLenS (gp 0 t) fun v1=>xBin ⟨9,[]⟩ false .lss v1 (V.nat .i64 1) fun v2=>g.run r t (v2::v2::v1::gp 0 t::le) s) ∧
 (∀ g r s t le,(zhI g).run r t (.bool true::le) s=g.run r t (Go.Ev.undef::Go.Ev.undef::Go.Ev.undef::.bool true::le) s)))) ∧
 (((∀ g r s t le,(zhI g).run r t (.bool false::le) s=xLenS (gp 0 t) fun v5=>xBin ⟨9,[]⟩ false .gtr v5 (V.nat .i64 20) fun v6=>g.run r t (v6::v5::gp 0 t::.bool false::le) s) ∧
 (∀ g r s t le x0 x1 x2 x3,(ztA g).run r t (x0::x1::x2::x3::le) s=xPick x3 (fun _=>g.run r (sp 7 (V.bool true) t) (V.bool true::x0::x1::x2::x3::le) s) (fun _=>g.run r (sp 7 x0 t) (x0::x0::x1::x2::x3::le) s))) ∧
 ((∀ g r s t le,(znp g).run r t (le) s=za 0 (gp 4 t) fun v0=>xLoad false 1 v0 s fun v1 s=>xLenS v1 fun v2=>xBin ⟨9,[]⟩ false .lss v2 (V.nat .i64 1) fun v3=>g.run r t (v3::v3::v2::v1::v0::le) s) ∧
 ((∀ g r s t le,(zeU g).run r t (.bool true::le) s=g.run r t (Go.Ev.undef::Go.Ev.undef::Go.Ev.undef::Go.Ev.undef::.bool true::le) s) ∧
 (∀ g r s t le,(zeU g).run r t (.bool false::le) s=za 0 (gp 4 t) fun v5=>xLoad false 1 v5 s fun v6 s=>xLenS v6 fun v7=>xBin ⟨9,[]⟩ false .gtr v7 (V.nat .i64 20) fun v8=>g.run r t (v8::v7::v6::v5::.bool false::le) s))))) ∧
 ((((∀ g r s t le x0 x1 x2 x3 x4,(zpO g).run r t (x0::x1::x2::x3::x4::le) s=xPick x4 (fun _=>g.run r t (V.bool true::V.bool true::x0::x1::x2::x3::x4::le) s) (fun _=>g.run r t (x0::x0::x0::x1::x2::x3::x4::le) s)) ∧
 (∀ g r s t le,(zdf g).run r t (.bool true::le) s=g.run r t (Go.Ev.undef::Go.Ev.undef::Go.Ev.undef::Go.Ev.undef::.bool true::le) s)) ∧
 ((∀ g r s t le,(zdf g).run r t (.bool false::le) s=za 1 (gp 4 t) fun v11=>xLoad false 1 v11 s fun v12 s=>xLenS v12 fun v13=>xBin ⟨9,[]⟩ false .gtr v13 (V.nat .i64 20) fun v14=>g.run r t (v14::v13::v12::v11::.bool false::le) s) ∧
 ((∀ g r s t le x0 x1 x2 x3 x4,(zju g).run r t (x0::x1::x2::x3::x4::le) s=xPick x4 (fun _=>g.run r t (V.bool true::V.bool true::x0::x1::x2::x3::x4::le) s) (fun _=>g.run r t (x0::x0::x0::x1::x2::x3::x4::le) s)) ∧
 (∀ g r s t le,(zds g).run r t (.bool true::le) s=g.run r t (Go.Ev.undef::Go.Ev.undef::Go.Ev.undef::Go.Ev.undef::.bool true::le) s)))) ∧
 (((∀ g r s t le,(zds g).run r t (.bool false::le) s=za 0 (gp 4 t) fun v17=>xLoad false 1 v17 s fun v18 s=>foldF (r.call 27 [v18,V.nat .i64 500] s) fun v19 s=>xUn .not v19 fun v20=>g.run r t (v20::v19::v18::v17::.bool false::le) s) ∧
 (∀ g r s t le x0 x1 x2 x3 x4,(zlx g).run r t (x0::x1::x2::x3::x4::le) s=xPick x4 (fun _=>g.run r t (V.bool true::V.bool true::x0::x1::x2::x3::x4::le) s) (fun _=>g.run r t (x0::x0::x0::x1::x2::x3::x4::le) s))) ∧
 ((∀ g r s t le,(zdu g).run r t (.bool true::le) s=g.run r t (Go.Ev.undef::Go.Ev.undef::Go.Ev.undef::Go.Ev.undef::.bool true::le) s) ∧
 ((∀ g r s t le,(zdu g).run r t (.bool false::le) s=za 1 (gp 4 t) fun v23=>xLoad false 1 v23 s fun v24 s=>foldF (r.call 27 [v24,V.nat .i64 500] s) fun v25 s=>xUn .not v25 fun v26=>g.run r t (v26::v25::v24::v23::.bool false::le) s) ∧
 (∀ g r s t le x0 x1 x2 x3 x4,(zln g).run r t (x0::x1::x2::x3::x4::le) s=xPick x4 (fun _=>g.run r (sp 12 (V.bool true) t) (V.bool true::x0::x1::x2::x3::x4::le) s) (fun _=>g.run r (sp 12 x0 t) (x0::x0::x1::x2::x3::x4::le) s))))))):=by
 and_intros<;>(intros;kernel_rfl)
theorem zCA:∀ r s t,zEU.run r t s=.nrm (sp 2 (V.bool false) t) s:=reg1 1
theorem zzC:∀ r s t,zGQ.run r t s=(zw2 (zhI (ztA nilL))).run r t [] s:=zt (by kernel_rfl) (chS rfl (by kernel_rfl) (chS rfl (by kernel_rfl) chL))
theorem zzS:∀ r s t,zGz.run r t s=.nrm (sp 2 (V.bool false) t) s:=reg1 1
theorem ztl:∀ r s t,zx1.run r t s=xLenS (gp 0 t) fun v1=>.nrm (sp 10 (V.nat .i64 0) (sp 9 v1 (sp 8 (gp 0 t) t))) s:=reg1 3
theorem zu8:∀ r s t,zAx.run r t s=xBin ⟨9,[]⟩ false .lss (gp 10 t) (gp 9 t) fun v0=>.nrm (sp 11 v0 t) s:=reg1 1
theorem zwK:∀ r s t,zCv.run r t s=zb 2 (gp 8 t) (gp 10 t) fun v1=>xLoad true 2 v1 s fun v2 s=>Go.Ev.newRow s 49 [V.nil 1,V.nil 1] false fun a3k _ s=>zK 2 (V.ptr a3k 0 0) v2 s fun v5 s=>.nrm (sp 3 (gp 10 t) (sp 4 (V.ptr a3k 0 0) t)) s:=reg1 6
theorem zvR:∀ r s t,zBo.run r t s=(znp (zeU (zpO (zdf (zju (zds (zlx (zdu (zln nilL))))))))).run r t [] s:=zt (by kernel_rfl) (chS rfl (by kernel_rfl) (chS rfl (by kernel_rfl) (chS rfl (by kernel_rfl) (chS rfl (by kernel_rfl) (chS rfl (by kernel_rfl) (chS rfl (by kernel_rfl) (chS rfl (by kernel_rfl) (chS rfl (by kernel_rfl) chL))))))))
theorem zsJ:∀ r s t,zyE.run r t s=.nrm (sp 2 (V.bool false) t) s:=reg1 1
theorem zwq:∀ r s t,zyl.run r t s=qX 49 2 (gp 0 t) none (some (gp 3 t)) none s fun v2=>xLenS v2 fun v3=>.nrm (sp 15 (V.nat .i64 0) (sp 14 v3 (sp 13 v2 t))) s:=reg1 5
theorem zv2:∀ r s t,zyV.run r t s=xBin ⟨9,[]⟩ false .lss (gp 15 t) (gp 14 t) fun v0=>.nrm (sp 16 v0 t) s:=reg1 1
theorem zuL:∀ r s t,zyc.run r t s=zb 2 (gp 13 t) (gp 15 t) fun v0=>xLoad true 2 v0 s fun v1 s=>Go.Ev.newRow s 49 [V.nil 1,V.nil 1] false fun a2k _ s=>zK 2 (V.ptr a2k 0 0) v1 s fun v3 s=>.nrm (sp 6 (V.ptr a2k 0 0) t) s:=reg1 4
theorem zsb:∀ r s t,zA9.run r t s=za 0 (gp 4 t) fun v0=>xLoad false 1 v0 s fun v1 s=>za 0 (gp 6 t) fun v2=>xLoad false 1 v2 s fun v3 s=>foldF (r.call 40 [v1,v3] s) fun v4 s=>.nrm (sp 17 v4 t) s:=reg1 5
theorem zrM:∀ r s t,zBr.run r t s=.nrm (sp 2 (V.bool false) t) s:=reg1 1
theorem zvV:∀ r s t,zCs.run r t s=xBin ⟨9,[]⟩ false .add (gp 15 t) (V.nat .i64 1) fun v0=>.nrm (sp 15 v0 t) s:=reg1 2
theorem zuJ:∀ r s t,zzy.run r t s=xBin ⟨9,[]⟩ false .add (gp 10 t) (V.nat .i64 1) fun v0=>.nrm (sp 10 v0 t) s:=reg1 2
theorem zvw:∀ r s t,zyY.run r t s=.nrm (sp 2 (V.bool true) t) s:=reg1 1
theorem zHT:sizeC zlT=32:=by kernel_rfl
theorem zHH:sizeC zmI=98:=by kernel_rfl
theorem zh3:∀ r s t,zb0.run r t s=seqA (fun t s=>r.code jv zlT t s) (seqA (fun t s=>seqA (fun t s=>seqA (fun t s=>zCs.run r t s) (zh 3 (seqA (fun t s=>seqA (fun t s=>condV (gp 17 t) (seqA (fun t s=>.ret t s) (zBr.run r t s)) (.nrm t s)) (zA9.run r t s)) (zyc.run r t s)))) (condV (gp 16 t) (.nrm t s) (.ext 2 t s))) (zyV.run r t s)):=by intros;kernel_rfl
theorem jf:∀ r s t,zbN.run r t s=seqA (fun t s=>r.code jv zmI t s) (seqA (fun t s=>seqA (fun t s=>seqA (fun t s=>zzy.run r t s) (zh 1 (seqA (fun t s=>seqA (fun t s=>seqA (fun t s=>zh 2 (zb0.run r t s)) (zyl.run r t s)) (seqA (fun t s=>condV (gp 12 t) (seqA (fun t s=>.ret t s) (zyE.run r t s)) (.nrm t s)) (zBo.run r t s))) (zCv.run r t s)))) (condV (gp 11 t) (.nrm t s) (.ext 0 t s))) (zAx.run r t s)):=by intros;kernel_rfl
theorem qG:type_of% (aI zCA <| aI zzC <| aI zzS <| aI ztl <| aI zu8 <| aI zwK <| aI zvR <| aI zsJ <| aI zwq <| aI zv2 <| aI zuL <| aI zsb <| aI zrM <| aI zvV <| aI zuJ <| aI zvw <| zJx):=aI zCA <| aI zzC <| aI zzS <| aI ztl <| aI zu8 <| aI zwK <| aI zvR <| aI zsJ <| aI zwq <| aI zv2 <| aI zuL <| aI zsb <| aI zrM <| aI zvV <| aI zuJ <| aI zvw <| zJx
def zfo:FI:=⟨480,9,4⟩
def zdK:=zA Tryz.prog 27
def ztv:=comp pc0 zfo (subC [0] zdK)
def zxy:=comp pc0 zfo (subC [1,0] zdK)
def zwS:=comp pc0 zfo zdK
def zr1:=finN (resC pc0 zfo (resOf Tryz.prog 27)).run
theorem zBf :
 ((∀ r s x0 x1,(fnC pc0 27).run r [x0,x1] s=outF (bindR (fun t s=>zr1 t s) (zwS.run r (sp 1 x1 (sp 0 x0 T.new)) s))) ∧
 ((∀ s t,zr1 t s=finV (gp 240 t) (resV [gp 4 t] s)) ∧
 (∀ r s t,zwS.run r t s=seqA (fun t s=>seqA (fun t s=>.ret t s) (zxy.run r t s)) (ztv.run r t s)))):=by
 and_intros<;>(intros;kernel_rfl)
theorem znW:∀ r s t,ztv.run r t s=zk 1 (gp 1 t) fun l0=>Go.Ev.newRow s 3 l0 false fun a0k _ s=>.nrm (sp 4 (V.bool false) (sp 3 (V.ptr a0k 0 0) t)) s:=reg1 2
theorem zqk:∀ r s t,zxy.run r t s=foldF (r.call 50 [gp 0 t,(V.fn (.func 51) [] [gp 3 t])] s) fun v2 s=>xUn .not v2 fun v3=>.nrm (sp 4 v3 t) s:=reg1 5
theorem zsC:type_of% (aI znW <| aI zqk <| zBf):=aI znW <| aI zqk <| zBf
def zdT:FI:=⟨72057559552112640,56,4⟩
def ziQ:=zA Tryz.prog 34
def yh (l:List Nat):=comp pc0 zdT (subC l ziQ)
def zIH:=yh [0]
def zJG:=yh [1,0]
def zI0:=yh [1,1,0]
def zIU:=yh [1,1,1,0]
def zEz:=yh [1,1,1,1,0,0]
def zG7:=yh [1,1,1,1,0,1,0,0,0]
def zGI:=yh [1,1,1,1,0,1,0,0,1,1,0,0,0]
def zFZ:=yh [1,1,1,1,0,1,0,0,1,1,0,0,1,0]
def zFn:=yh [1,1,1,1,0,1,0,0,1,1,0,0,1,1,0,0]
def zE4:=yh [1,1,1,1,0,1,0,0,1,1,0,0,1,1,0,1,0,0,0]
def zGR:=yh [1,1,1,1,0,1,0,0,1,1,0,0,1,1,0,1,0,0,1,1,0,0,0]
def zGF:=yh [1,1,1,1,0,1,0,0,1,1,0,0,1,1,0,1,0,0,1,1,0,0,1,0,0]
def zFS:=yh [1,1,1,1,0,1,0,0,1,1,0,0,1,1,0,1,0,0,1,1,0,0,1,0,1,0]
def zEe:=yh [1,1,1,1,0,1,0,0,1,1,0,0,1,1,0,1,0,0,1,1,0,0,1,1]
def zFf:=yh [1,1,1,1,0,1,0,0,1,1,0,0,1,1,0,1,0,0,1,1,1]
def zjF:=subC [1,1,1,1,0,1,0,0,1,1,0,0,1,1,0,1,0] ziQ
def zeM:=comp pc0 zdT zjF
def zGC:=yh [1,1,1,1,0,1,0,0,1,1,0,0,1,1,1]
def zE7:=yh [1,1,1,1,0,1,0,0,1,1,1]
def zrR:=subC [1,1,1,1,0,1,0] ziQ
def zdX:=comp pc0 zdT zrR
def zEL:=yh [1,1,1,1,1,0]
def zJp:=comp pc0 zdT ziQ
def zIA:=finN (resC pc0 zdT (resOf Tryz.prog 34)).run
theorem zLI :
 ((∀ r s x0,(fnC pc0 34).run r [x0] s=outF (bindR (fun t s=>zIA t s) (zJp.run r (sp 0 x0 T.new) s))) ∧
 ((∀ s t,zIA t s=finV (gp 240 t) (resV [gp 2 t] s)) ∧
 (∀ r s t,zJp.run r t s=seqA (fun t s=>seqA (fun t s=>seqA (fun t s=>seqA (fun t s=>seqA (fun t s=>seqA (fun t s=>.ret t s) (zEL.run r t s)) (seqA (fun t s=>zh 0 (zdX.run r t s)) (zEz.run r t s))) (zIU.run r t s)) (zI0.run r t s)) (zJG.run r t s)) (zIH.run r t s)))):=by
 and_intros<;>(intros;kernel_rfl)
theorem zD9:∀ r s t,zIH.run r t s=.nrm (sp 2 (V.nil 0) t) s:=reg1 1
theorem zGL:∀ r s t,zJG.run r t s=Go.Ev.newRow s 3 [V.nat .i64 0] false fun a0k _ s=>zK 1 (V.ptr a0k 0 0) (V.nat .i64 0) s fun v1 s=>.nrm (sp 3 (V.ptr a0k 0 0) t) s:=reg1 2
theorem zEn:∀ r s t,zI0.run r t s=.nrm (sp 4 (V.fn (.func 66) [] [gp 3 t]) t) s:=reg1 2
theorem zEw:∀ r s t,zIU.run r t s=callV r (gp 4 t) [] t s fun v1 s=>.nrm (sp 5 v1 t) s:=reg1 3
theorem zz9:∀ r s t,zEz.run r t s=xLenS (gp 0 t) fun v1=>.nrm (sp 13 (V.nat .i64 0) (sp 12 v1 (sp 11 (gp 0 t) t))) s:=reg1 3
theorem zAJ:∀ r s t,zG7.run r t s=xBin ⟨9,[]⟩ false .lss (gp 13 t) (gp 12 t) fun v0=>.nrm (sp 14 v0 t) s:=reg1 1
theorem zy1:∀ r s t,zGI.run r t s=zb 2 (gp 11 t) (gp 13 t) fun v1=>xLoad true 2 v1 s fun v2 s=>Go.Ev.newRow s 49 [V.nil 1,V.nil 1] false fun a3k _ s=>zK 2 (V.ptr a3k 0 0) v2 s fun v5 s=>.nrm (sp 6 (gp 13 t) (sp 7 (V.ptr a3k 0 0) t)) s:=reg1 6
theorem zAz:∀ r s t,zFZ.run r t s=.nrm (sp 8 (gp 5 t) t) s:=reg1 2
theorem zBT:∀ r s t,zFn.run r t s=za 0 (gp 7 t) fun v0=>xLoad false 1 v0 s fun v1 s=>xLenS v1 fun v2=>.nrm (sp 17 (V.nat .i64 0) (sp 16 v2 (sp 15 v1 t))) s:=reg1 4
theorem zz3:∀ r s t,zE4.run r t s=xBin ⟨9,[]⟩ false .lss (gp 17 t) (gp 16 t) fun v0=>.nrm (sp 18 v0 t) s:=reg1 1
theorem zyR:∀ r s t,zGR.run r t s=zb 1 (gp 15 t) (gp 17 t) fun v0=>xLoad false 1 v0 s fun v1 s=>.nrm (sp 10 v1 t) s:=reg1 3
theorem zzU:∀ r s t,zGF.run r t s=z1 (gp 8 t) fun v1=>za 0 v1 fun v2=>xLoad false 1 v2 s fun v3 s=>j7 ⟨7,[]⟩ (V.nil 0) false v3 (gp 10 t) s fun v5=>xBin ⟨1,[]⟩ true .eql v5 (V.nil 0) fun v6=>.nrm (sp 19 v6 t) s:=reg1 7
theorem zAL:∀ r s t,zFS.run r t s=z1 (gp 8 t) fun v1=>za 0 v1 fun v2=>xLoad false 1 v2 s fun v3 s=>callV r.det (gp 4 t) [] t s fun v6 s=>xLoad false 1 v2 s fun v7 s=>boolA (beqV v7 v3) (zc7 ⟨7,[]⟩ v3 (gp 10 t) v6 s fun v8 s=>.nrm t s) (.bad 194):=dreg1 9
theorem zAa:∀ r s t,zEe.run r t s=z1 (gp 8 t) fun v1=>za 0 v1 fun v2=>xLoad false 1 v2 s fun v3 s=>j7 ⟨7,[]⟩ (V.nil 0) false v3 (gp 10 t) s fun v5=>.nrm (sp 8 v5 t) s:=reg1 7
theorem zy0:∀ r s t,zFf.run r t s=xBin ⟨9,[]⟩ false .add (gp 17 t) (V.nat .i64 1) fun v0=>.nrm (sp 17 v0 t) s:=reg1 2
theorem zCF:∀ r s t,zGC.run r t s=z1 (gp 8 t) fun v2=>za 1 v2 fun v3=>zK 1 v3 (gp 6 t) s fun v4 s=>.nrm t s:=reg1 5
theorem zzn:∀ r s t,zE7.run r t s=xBin ⟨9,[]⟩ false .add (gp 13 t) (V.nat .i64 1) fun v0=>.nrm (sp 13 v0 t) s:=reg1 2
theorem zBb:∀ r s t,zEL.run r t s=.nrm (sp 2 (gp 5 t) t) s:=reg1 2
theorem zJW:sizeC zjF=47:=by kernel_rfl
theorem zKc:sizeC zrR=86:=by kernel_rfl
theorem zmE:∀ r s t,zeM.run r t s=seqA (fun t s=>r.code zdT zjF t s) (seqA (fun t s=>seqA (fun t s=>seqA (fun t s=>zFf.run r t s) (zh 3 (seqA (fun t s=>seqA (fun t s=>zEe.run r t s) (seqA (fun t s=>condV (gp 19 t) (zFS.run r t s) (.nrm t s)) (zGF.run r t s))) (zGR.run r t s)))) (condV (gp 18 t) (.nrm t s) (.ext 2 t s))) (zE4.run r t s)):=by intros;kernel_rfl
theorem zAZ:∀ r s t,zdX.run r t s=seqA (fun t s=>r.code zdT zrR t s) (seqA (fun t s=>seqA (fun t s=>seqA (fun t s=>zE7.run r t s) (zh 1 (seqA (fun t s=>seqA (fun t s=>seqA (fun t s=>zGC.run r t s) (seqA (fun t s=>zh 2 (zeM.run r t s)) (zFn.run r t s))) (zFZ.run r t s)) (zGI.run r t s)))) (condV (gp 14 t) (.nrm t s) (.ext 0 t s))) (zG7.run r t s)):=by intros;kernel_rfl
theorem zfN:type_of% (aI zD9 <| aI zGL <| aI zEn <| aI zEw <| aI zz9 <| aI zAJ <| aI zy1 <| aI zAz <| aI zBT <| aI zz3 <| aI zyR <| aI zzU <| aI zAL <| aI zAa <| aI zy0 <| aI zCF <| aI zzn <| aI zBb <| zLI):=aI zD9 <| aI zGL <| aI zEn <| aI zEw <| aI zz9 <| aI zAJ <| aI zy1 <| aI zAz <| aI zBT <| aI zz3 <| aI zyR <| aI zzU <| aI zAL <| aI zAa <| aI zy0 <| aI zCF <| aI zzn <| aI zBb <| zLI
def zin:FI:=⟨50301888,26,4⟩
def zmf:=zA Tryz.prog 40
def j8 (l:List Nat):=comp pc0 zin (subC l zmf)
def zFX:=j8 [0]
def zGH:=j8 [1,0,0]
def zG6:=j8 [1,0,1,0,0]
def zBw:=j8 [1,1,0,0]
def zCf:=j8 [1,1,0,1,0,0,0]
def zCM:=j8 [1,1,0,1,0,0,1,1,0,0,0]
def zBj:=j8 [1,1,0,1,0,0,1,1,0,0,1,0]
def zzg:=j8 [1,1,0,1,0,0,1,1,0,0,1,1,0,0]
def zAn:=j8 [1,1,0,1,0,0,1,1,1]
def zlX:=subC [1,1,0,1,0] zmf
def zb5:=comp pc0 zin zlX
def zzM:=j8 [1,1,1,0]
def zGh:=comp pc0 zin zmf
def zEh:=finN (resC pc0 zin (resOf Tryz.prog 40)).run
theorem zJa :
 ((∀ r s x0 x1,(fnC pc0 40).run r [x0,x1] s=outF (bindR (fun t s=>zEh t s) (zGh.run r (sp 1 x1 (sp 0 x0 T.new)) s))) ∧
 ((∀ s t,zEh t s=finV (gp 240 t) (resV [gp 4 t] s)) ∧
 (∀ r s t,zGh.run r t s=seqA (fun t s=>seqA (fun t s=>seqA (fun t s=>seqA (fun t s=>.ret t s) (zzM.run r t s)) (seqA (fun t s=>zh 0 (zb5.run r t s)) (zBw.run r t s))) (seqA (fun t s=>condV (gp 6 t) (seqA (fun t s=>.ret t s) (zG6.run r t s)) (.nrm t s)) (zGH.run r t s))) (zFX.run r t s)))):=by
 and_intros<;>(intros;kernel_rfl)
theorem zAB:∀ r s t,zFX.run r t s=.nrm (sp 4 (V.bool false) t) s:=reg1 1
theorem zyW:∀ r s t,zGH.run r t s=xLenS (gp 0 t) fun v1=>xLenS (gp 1 t) fun v3=>xBin ⟨7,[]⟩ false .neq v1 v3 fun v4=>.nrm (sp 6 v4 t) s:=reg1 5
theorem zyC:∀ r s t,zG6.run r t s=.nrm (sp 4 (V.bool false) t) s:=reg1 1
theorem zuo:∀ r s t,zBw.run r t s=xLenS (gp 0 t) fun v1=>.nrm (sp 8 (V.nat .i64 0) (sp 7 v1 t)) s:=reg1 3
theorem zw6:∀ r s t,zCf.run r t s=xBin ⟨9,[]⟩ false .lss (gp 8 t) (gp 7 t) fun v0=>.nrm (sp 9 v0 t) s:=reg1 1
theorem zre:∀ r s t,zCM.run r t s=.nrm (sp 5 (gp 8 t) t) s:=reg1 2
theorem zsq:∀ r s t,zBj.run r t s=zb 1 (gp 0 t) (gp 5 t) fun v2=>xLoad false 1 v2 s fun v3 s=>zb 1 (gp 1 t) (gp 5 t) fun v6=>xLoad false 1 v6 s fun v7 s=>xBin ⟨7,[]⟩ false .neq v3 v7 fun v8=>.nrm (sp 10 v8 t) s:=dreg1 9
theorem zxD:∀ r s t,zzg.run r t s=.nrm (sp 4 (V.bool false) t) s:=reg1 1
theorem zt0:∀ r s t,zAn.run r t s=xBin ⟨9,[]⟩ false .add (gp 8 t) (V.nat .i64 1) fun v0=>.nrm (sp 8 v0 t) s:=reg1 2
theorem zrv:∀ r s t,zzM.run r t s=.nrm (sp 4 (V.bool true) t) s:=reg1 1
theorem zH6:sizeC zlX=34:=by kernel_rfl
theorem zhN:∀ r s t,zb5.run r t s=seqA (fun t s=>r.code zin zlX t s) (seqA (fun t s=>seqA (fun t s=>seqA (fun t s=>zAn.run r t s) (zh 1 (seqA (fun t s=>seqA (fun t s=>condV (gp 10 t) (seqA (fun t s=>.ret t s) (zzg.run r t s)) (.nrm t s)) (zBj.run r t s)) (zCM.run r t s)))) (condV (gp 9 t) (.nrm t s) (.ext 0 t s))) (zCf.run r t s)):=by intros;kernel_rfl
theorem ze5:type_of% (aI zAB <| aI zyW <| aI zyC <| aI zuo <| aI zw6 <| aI zre <| aI zsq <| aI zxD <| aI zt0 <| aI zrv <| zJa):=aI zAB <| aI zyW <| aI zyC <| aI zuo <| aI zw6 <| aI zre <| aI zsq <| aI zxD <| aI zt0 <| aI zrv <| zJa
def jE:FI:=⟨480,9,4⟩
def jK:=zA Tryz.prog 50
def zdF:=comp pc0 jE (subC [0] jK)
def zdC:=comp pc0 jE (subC [1,0] jK)
def zdD:=comp pc0 jE jK
def zdA:=finN (resC pc0 jE (resOf Tryz.prog 50)).run
theorem zeN :
 ((∀ r s x0 x1,(fnC pc0 50).run r [x0,x1] s=outF (bindR (fun t s=>zdA t s) (zdD.run r (sp 1 x1 (sp 0 x0 T.new)) s))) ∧
 ((∀ s t,zdA t s=finV (gp 240 t) (resV [gp 4 t] s)) ∧
 (∀ r s t,zdD.run r t s=seqA (fun t s=>seqA (fun t s=>.ret t s) (zdC.run r t s)) (zdF.run r t s)))):=by
 and_intros<;>(intros;kernel_rfl)
theorem zb7:∀ r s t,zdF.run r t s=.nrm (sp 4 (V.bool false) t) s:=reg1 1
theorem zch:∀ r s t,zdC.run r t s=foldF (r.call 92 [gp 0 t,gp 1 t] s) fun v2 s=>xBin ⟨9,[]⟩ false .geq v2 (V.nat .i64 0) fun v3=>.nrm (sp 4 v3 t) s:=reg1 5
theorem zqW:type_of% (aI zb7 <| aI zch <| zeN):=aI zb7 <| aI zch <| zeN
def wW:FI:=⟨2032,11,4⟩
def zcX:=zA Tryz.prog 51
def zox:=comp pc0 wW (subC [0] zcX)
def zoI:=subC [1,0] zcX
def zob:=comp pc0 wW zoI
def zbC:=qOf pc0 wW zoI
def zhb:=zbC 6 2 (dn 10 6)
def zbi:=zbC 3 3 [7,6,5]
def zgG:=zbC 0 3 []
def znF:=comp pc0 wW zcX
def zmQ:=finN (resC pc0 wW (resOf Tryz.prog 51)).run
theorem zuk :
 (((∀ r s x0 x1,(fnC pc0 51).run r [x0,x1] s=outF (bindR (fun t s=>zmQ t s) (znF.run r (sp 1 x1 (sp 0 x0 T.new)) s))) ∧
 ((∀ s t,zmQ t s=finV (gp 240 t) (resV [gp 3 t] s)) ∧
 (∀ r s t,znF.run r t s=seqA (fun t s=>seqA (fun t s=>.ret t s) (zob.run r t s)) (zox.run r t s)))) ∧
 (((∀ g r s t le,(zgG g).run r t (le) s=xBin ⟨9,[]⟩ false .lss (gp 0 t) (V.nat .i64 1) fun v1=>g.run r t (v1::v1::gp 0 t::le) s) ∧
 (∀ g r s t le,(zbi g).run r t (.bool true::le) s=g.run r t (Go.Ev.undef::Go.Ev.undef::Go.Ev.undef::.bool true::le) s)) ∧
 ((∀ g r s t le,(zbi g).run r t (.bool false::le) s=xLoad false 1 (gp 1 t) s fun v4 s=>xBin ⟨9,[]⟩ false .gtr (gp 0 t) v4 fun v5=>g.run r t (v5::v4::gp 0 t::.bool false::le) s) ∧
 (∀ g r s t le x0 x1 x2 x3,(zhb g).run r t (x0::x1::x2::x3::le) s=xPick x3 (fun _=>g.run r (sp 3 (V.bool true) t) (V.bool true::V.bool true::x0::x1::x2::x3::le) s) (fun _=>g.run r (sp 3 x0 t) (x0::x0::x0::x1::x2::x3::le) s))))):=by
 and_intros<;>(intros;kernel_rfl)
theorem zjG:∀ r s t,zox.run r t s=.nrm (sp 3 (V.bool false) t) s:=reg1 1
theorem zkj:∀ r s t,zob.run r t s=(zgG (zbi (zhb nilL))).run r t [] s:=zt (by kernel_rfl) (chS rfl (by kernel_rfl) (chS rfl (by kernel_rfl) chL))
theorem znP:type_of% (aI zjG <| aI zkj <| zuk):=aI zjG <| aI zkj <| zuk
def zDq:FI:=⟨252,8,4⟩
def zx4:=zA Tryz.prog 66
def zDV (l:List Nat):=comp pc0 zDq (subC l zx4)
def zFr:=zDV [0]
def zEP:=zDV [1,0]
def zD8:=zDV [1,1,0]
def zGr:=comp pc0 zDq zx4
def zFK:=finN (resC pc0 zDq (resOf Tryz.prog 66)).run
theorem zJL :
 ((∀ r s x0,(fnC pc0 66).run r [x0] s=outF (bindR (fun t s=>zFK t s) (zGr.run r (sp 0 x0 T.new) s))) ∧
 ((∀ s t,zFK t s=finV (gp 240 t) (resV [gp 1 t] s)) ∧
 (∀ r s t,zGr.run r t s=seqA (fun t s=>seqA (fun t s=>seqA (fun t s=>.ret t s) (zD8.run r t s)) (zEP.run r t s)) (zFr.run r t s)))):=by
 and_intros<;>(intros;kernel_rfl)
theorem zAM:∀ r s t,zFr.run r t s=.nrm (sp 1 (V.nil 0) t) s:=reg1 1
theorem zA7:∀ r s t,zEP.run r t s=xLoad false 1 (gp 0 t) s fun v0 s=>xBin ⟨9,[]⟩ false .add v0 (V.nat .i64 1) fun v1=>zK 1 (gp 0 t) v1 s fun v2 s=>.nrm t s:=reg1 3
theorem zAG:∀ r s t,zD8.run r t s=hnew s (.map [] 0) fun a0k s=>xLoad false 1 (gp 0 t) s fun v1 s=>zk 1 (V.ref 0 a0k) fun x2_0=>updL x2_0 0 [V.nil 2,V.nat .i64 0,V.nat .i64 0] fun l2_0=>zk 1 (V.neg .i64 0) fun x2_1=>updL x2_1 1 l2_0 fun l2_1=>zk 1 v1 fun x2_2=>updL x2_2 2 l2_1 fun l2_2=>zk 3 (V.ls 0 l2_2) fun l3=>Go.Ev.newRow s 70 l3 false fun a3k _ s=>.nrm (sp 1 (V.ptr a3k 0 0) t) s:=reg1 5
theorem zLB:type_of% (aI zAM <| aI zA7 <| aI zAG <| zJL):=aI zAM <| aI zA7 <| aI zAG <| zJL
def yH:FI:=⟨457792,19,4⟩
def zbg:=zA Tryz.prog 92
def qW (l:List Nat):=comp pc0 yH (subC l zbg)
def zks:=qW [0]
def zkO:=qW [1,0,0]
def zkJ:=qW [1,0,1,0,0,0]
def zgW:=qW [1,0,1,0,0,1,1,0,0,0]
def zhg:=qW [1,0,1,0,0,1,1,0,0,1,0]
def zf6:=qW [1,0,1,0,0,1,1,0,0,1,1,0,0]
def zhi:=qW [1,0,1,0,0,1,1,1]
def wH:=subC [1,0,1,0] zbg
def qI:=comp pc0 yH wH
def zgV:=qW [1,1,0]
def ziI:=comp pc0 yH zbg
def ziD:=finN (resC pc0 yH (resOf Tryz.prog 92)).run
theorem zn3 :
 ((∀ r s x0 x1,(fnC pc0 92).run r [x0,x1] s=outF (bindR (fun t s=>ziD t s) (ziI.run r (sp 1 x1 (sp 0 x0 T.new)) s))) ∧
 ((∀ s t,ziD t s=finV (gp 240 t) (resV [gp 4 t] s)) ∧
 (∀ r s t,ziI.run r t s=seqA (fun t s=>seqA (fun t s=>seqA (fun t s=>.ret t s) (zgV.run r t s)) (seqA (fun t s=>zh 0 (qI.run r t s)) (zkO.run r t s))) (zks.run r t s)))):=by
 and_intros<;>(intros;kernel_rfl)
theorem zfV:∀ r s t,zks.run r t s=.nrm (sp 4 (V.nat .i64 0) t) s:=reg1 1
theorem zha:∀ r s t,zkO.run r t s=xLenS (gp 0 t) fun v1=>.nrm (sp 7 (V.nat .i64 0) (sp 6 v1 t)) s:=reg1 3
theorem zgu:∀ r s t,zkJ.run r t s=xBin ⟨9,[]⟩ false .lss (gp 7 t) (gp 6 t) fun v0=>.nrm (sp 8 v0 t) s:=reg1 1
theorem ze8:∀ r s t,zgW.run r t s=.nrm (sp 5 (gp 7 t) t) s:=reg1 2
theorem zeA:∀ r s t,zhg.run r t s=zb 1 (gp 0 t) (gp 5 t) fun v3=>xLoad false 1 v3 s fun v4 s=>callV r (gp 1 t) [v4] t s fun v5 s=>.nrm (sp 9 v5 t) s:=reg1 6
theorem zeG:∀ r s t,zf6.run r t s=.nrm (sp 4 (gp 5 t) t) s:=reg1 2
theorem ze3:∀ r s t,zhi.run r t s=xBin ⟨9,[]⟩ false .add (gp 7 t) (V.nat .i64 1) fun v0=>.nrm (sp 7 v0 t) s:=reg1 2
theorem zec:∀ r s t,zgV.run r t s=.nrm (sp 4 (V.neg .i64 0) t) s:=reg1 1
theorem zbb:∀ r s t,qI.run r t s=seqA (fun t s=>r.code yH wH t s) (seqA (fun t s=>seqA (fun t s=>seqA (fun t s=>zhi.run r t s) (zh 1 (seqA (fun t s=>seqA (fun t s=>condV (gp 9 t) (seqA (fun t s=>.ret t s) (zf6.run r t s)) (.nrm t s)) (zhg.run r t s)) (zgW.run r t s)))) (condV (gp 8 t) (.nrm t s) (.ext 0 t s))) (zkJ.run r t s)):=by intros;kernel_rfl
theorem wN:type_of% (aI zfV <| aI zha <| aI zgu <| aI ze8 <| aI zeA <| aI zeG <| aI ze3 <| aI zec <| zn3):=aI zfV <| aI zha <| aI zgu <| aI ze8 <| aI zeA <| aI zeG <| aI ze3 <| aI zec <| zn3
end
end Go.Proofs.YtlklljjppambpaaGreatDoor.oev
