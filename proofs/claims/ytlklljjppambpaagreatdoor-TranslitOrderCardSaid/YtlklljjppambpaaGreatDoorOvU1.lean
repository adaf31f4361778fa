/- What the evaluator makes of the functions that the statements reach: one equation for each run of operations, by the kernel. No statement of the seat stands here. No condition. By an AI agent. -/
import Derived.Test.YtlklljjppambpaaGreatDoorOvV
import Derived.Test.YtlklljjppambpaaGreatDoorProg
import Derived.KernelRfl
namespace Go.Proofs.YtlklljjppambpaaGreatDoor.oev
open Go.Ev Go.Proofs
set_option maxRecDepth 100000
noncomputable section
def pcN (hooks:List Hook):PC:=pcM hooks [999999]
def zj:PC:=pcN []
def qM:FI:=⟨22300660086400496993622782311581891087564800,144,4⟩
def yQ:=qe Tryz.prog 5
def qA (l:List Nat):=zl zj qM (zI l yQ)
def zv4:=qA [0]
def zxy:=zI [1,0,0] yQ
def zuP:=zl zj qM zxy
def zeY:=qOf zj qM zxy
def zlu:=zeY 5 1 (dn 25 5)
def zeg:=zeY 3 2 [23,22,21]
def zkq:=zeY 0 3 []
def zt2:=qA [1,0,1,0,0]
def zpY:=qA [1,1,0]
def zsL:=qA [1,1,1,0,0]
def zqR:=qA [1,1,1,0,1,0,0,0,0]
def zs1:=qA [1,1,1,0,1,0,0,1,0,0]
def zny:=qA [1,1,1,0,1,0,0,1,1]
def zgn:=zI [1,1,1,0,1,0] yQ
def zbx:=zl zj qM zgn
def znS:=qA [1,1,1,1,0]
def zrv:=qA [1,1,1,1,1,0]
def zsP:=zI [1,1,1,1,1,1,0,0] yQ
def zrU:=zl zj qM zsP
def zdr:=qOf zj qM zsP
def zhB:=zdr 8 1 (dn 61 8)
def zcX:=zdr 4 4 (dn 57 4)
def zhJ:=zdr 0 4 []
def zoN:=qA [1,1,1,1,1,1,0,1,0,0]
def zra:=qA [1,1,1,1,1,1,1,0]
def zsN:=zI [1,1,1,1,1,1,1,1,0,0] yQ
def zsl:=zl zj qM zsN
def zcY:=qOf zj qM zsN
def zhC:=zcY 5 1 (dn 75 5)
def zc8:=zcY 3 2 [73,72,71]
def zg9:=zcY 0 3 []
def zr7:=qA [1,1,1,1,1,1,1,1,0,1,0,0]
def zqI:=zI [1,1,1,1,1,1,1,1,0,1,0,1,0] yQ
def znH:=zl zj qM zqI
def zc2:=qOf zj qM zqI
def ziZ:=zc2 8 1 (dn 90 8)
def zdB:=zc2 4 4 (dn 86 4)
def zhs:=zc2 0 4 []
def znL:=qA [1,1,1,1,1,1,1,1,0,1,0,1,1,0,0]
def zrN:=qA [1,1,1,1,1,1,1,1,1,0,0]
def znk:=qA [1,1,1,1,1,1,1,1,1,0,1,0,0]
def zrQ:=qA [1,1,1,1,1,1,1,1,1,1,0]
def zri:=qA [1,1,1,1,1,1,1,1,1,1,1,0]
def znR:=zI [1,1,1,1,1,1,1,1,1,1,1,1,0,0] yQ
def zp4:=zl zj qM znR
def zdu:=qOf zj qM znR
def zh9:=zdu 7 1 (dn 115 7)
def zdt:=zdu 4 3 (dn 112 4)
def zi1:=zdu 0 4 []
def zo3:=qA [1,1,1,1,1,1,1,1,1,1,1,1,0,1,0,0]
def zrq:=zI [1,1,1,1,1,1,1,1,1,1,1,1,1,0,0] yQ
def zqP:=zl zj qM zrq
def wu:=qOf zj qM zrq
def zfJ:=wu 10 1 (dn 126 10)
def zdF:=wu 7 3 (dn 123 7)
def zii:=wu 5 2 (dn 121 5)
def zdk:=wu 3 2 [119,118,117]
def zh3:=wu 0 3 []
def znC:=qA [1,1,1,1,1,1,1,1,1,1,1,1,1,0,1,0,0]
def zsX:=zI [1,1,1,1,1,1,1,1,1,1,1,1,1,0,1,0,1,0] yQ
def zoG:=zl zj qM zsX
def wJ:=qOf zj qM zsX
def zg3:=wJ 9 2 (dn 142 9)
def zcU:=wJ 8 1 (dn 141 8)
def ziL:=wJ 6 2 (dn 139 6)
def zc3:=wJ 4 2 (dn 137 4)
def ziQ:=wJ 0 4 []
def zrx:=qA [1,1,1,1,1,1,1,1,1,1,1,1,1,1,0]
def zxr:=zl zj qM yQ
def zw2:=yi (ql zj qM (qz Tryz.prog 5)).run
theorem zDy :
 ((((((∀ r s x0 x1 x2 x3,(fnC zj 5).run r [x0,x1,x2,x3] s=qk (z7 (fun t s=>zw2 t s) (zxr.run r (sp 3 x3 (sp 2 x2 (sp 1 x1 (sp 0 x0 T.new)))) s))) ∧
 (∀ s t,zw2 t s=yW (gp 240 t) (yp [gp 8 t] s))) ∧
 ((∀ r s t,zxr.run r t s=za (fun t s=>za (fun t s=>za (fun t s=>za (fun t s=>za (fun t s=>za (fun t s=>za (fun t s=>za (fun t s=>za (fun t s=>za (fun t s=>za (fun t s=>za (fun t s=>za (fun t s=>za (fun t s=>za (fun t s=>.ret t s) (zrx.run r t s)) (za (fun t s=>zu (gp 27 t) (za (fun t s=>za (fun t s=>.ret t s) (zoG.run r t s)) (znC.run r t s)) (.nrm t s)) (zqP.run r t s))) (za (fun t s=>zu (gp 26 t) (za (fun t s=>.ret t s) (zo3.run r t s)) (.nrm t s)) (zp4.run r t s))) (zri.run r t s)) (zrQ.run r t s)) (za (fun t s=>zu (gp 25 t) (za (fun t s=>.ret t s) (znk.run r t s)) (.nrm t s)) (zrN.run r t s))) (za (fun t s=>zu (gp 23 t) (za (fun t s=>za (fun t s=>zu (gp 24 t) (za (fun t s=>.ret t s) (znL.run r t s)) (.nrm t s)) (znH.run r t s)) (zr7.run r t s)) (.nrm t s)) (zsl.run r t s))) (zra.run r t s)) (za (fun t s=>zu (gp 22 t) (za (fun t s=>.ret t s) (zoN.run r t s)) (.nrm t s)) (zrU.run r t s))) (zrv.run r t s)) (znS.run r t s)) (za (fun t s=>zE 0 (zbx.run r t s)) (zsL.run r t s))) (zpY.run r t s)) (za (fun t s=>zu (gp 20 t) (za (fun t s=>.ret t s) (zt2.run r t s)) (.nrm t s)) (zuP.run r t s))) (zv4.run r t s)) ∧
 (∀ g r s t le,(zkq g).run r t (le) s=zD (r.call 7 [gp 0 t] s) fun v1 s=>g.run r t (v1::v1::gp 0 t::le) s))) ∧
 (((∀ g r s t le,(zeg g).run r t (.bool true::le) s=g.run r t (Go.Ev.undef::Go.Ev.undef::.bool true::le) s) ∧
 (∀ g r s t le,(zeg g).run r t (.bool false::le) s=zD (r.call 21 [gp 1 t] s) fun v4 s=>g.run r t (v4::gp 1 t::.bool false::le) s)) ∧
 ((∀ g r s t le x0 x1 x2,(zlu g).run r t (x0::x1::x2::le) s=qL x2 (fun _=>g.run r (sp 20 (V.bool true) t) (V.bool true::x0::x1::x2::le) s) (fun _=>g.run r (sp 20 x0 t) (x0::x0::x1::x2::le) s)) ∧
 ((∀ g r s t le,(zhJ g).run r t (le) s=zk ⟨7,[]⟩ false .neq (gp 12 t) (gp 14 t) fun v2=>g.run r t (v2::v2::gp 14 t::gp 12 t::le) s) ∧
 (∀ g r s t le,(zcX g).run r t (.bool true::le) s=g.run r t (Go.Ev.undef::Go.Ev.undef::Go.Ev.undef::Go.Ev.undef::.bool true::le) s))))) ∧
 ((((∀ g r s t le,(zcX g).run r t (.bool false::le) s=zD (r.call 20 [gp 11 t,gp 13 t] s) fun v6 s=>zk ⟨7,[]⟩ true .neq v6 (V.nat .i64 0) fun v7=>g.run r t (v7::v6::gp 13 t::gp 11 t::.bool false::le) s) ∧
 (∀ g r s t le x0 x1 x2 x3 x4,(zhB g).run r t (x0::x1::x2::x3::x4::le) s=qL x4 (fun _=>g.run r (sp 22 (V.bool true) t) (V.bool true::x0::x1::x2::x3::x4::le) s) (fun _=>g.run r (sp 22 x0 t) (x0::x0::x1::x2::x3::x4::le) s))) ∧
 ((∀ g r s t le,(zg9 g).run r t (le) s=zD (r.call 22 [gp 0 t] s) fun v1 s=>g.run r t (v1::v1::gp 0 t::le) s) ∧
 (∀ g r s t le,(zc8 g).run r t (.bool true::le) s=zD (r.call 22 [gp 15 t] s) fun v4 s=>g.run r t (v4::gp 15 t::.bool true::le) s))) ∧
 (((∀ g r s t le,(zc8 g).run r t (.bool false::le) s=g.run r t (Go.Ev.undef::Go.Ev.undef::.bool false::le) s) ∧
 (∀ g r s t le x0 x1 x2,(zhC g).run r t (x0::x1::x2::le) s=qL x2 (fun _=>g.run r (sp 23 x0 t) (x0::x0::x1::x2::le) s) (fun _=>g.run r (sp 23 (V.bool false) t) (V.bool false::x0::x1::x2::le) s))) ∧
 ((∀ g r s t le,(zhs g).run r t (le) s=zk ⟨7,[]⟩ false .neq (gp 12 t) (gp 14 t) fun v2=>g.run r t (v2::v2::gp 14 t::gp 12 t::le) s) ∧
 ((∀ g r s t le,(zdB g).run r t (.bool true::le) s=g.run r t (Go.Ev.undef::Go.Ev.undef::Go.Ev.undef::Go.Ev.undef::.bool true::le) s) ∧
 (∀ g r s t le,(zdB g).run r t (.bool false::le) s=zD (r.call 20 [gp 11 t,gp 13 t] s) fun v6 s=>zk ⟨7,[]⟩ true .neq v6 (V.nat .i64 0) fun v7=>g.run r t (v7::v6::gp 13 t::gp 11 t::.bool false::le) s)))))) ∧
 (((((∀ g r s t le x0 x1 x2 x3 x4,(ziZ g).run r t (x0::x1::x2::x3::x4::le) s=qL x4 (fun _=>g.run r (sp 24 (V.bool true) t) (V.bool true::x0::x1::x2::x3::x4::le) s) (fun _=>g.run r (sp 24 x0 t) (x0::x0::x1::x2::x3::x4::le) s)) ∧
 (∀ g r s t le,(zi1 g).run r t (le) s=zk ⟨0,[]⟩ false .neq (gp 16 t) (gp 18 t) fun v2=>g.run r t (v2::v2::gp 18 t::gp 16 t::le) s)) ∧
 ((∀ g r s t le,(zdt g).run r t (.bool true::le) s=g.run r t (Go.Ev.undef::Go.Ev.undef::Go.Ev.undef::.bool true::le) s) ∧
 (∀ g r s t le,(zdt g).run r t (.bool false::le) s=zk ⟨7,[]⟩ false .neq (gp 17 t) (gp 19 t) fun v6=>g.run r t (v6::gp 19 t::gp 17 t::.bool false::le) s))) ∧
 (((∀ g r s t le x0 x1 x2 x3,(zh9 g).run r t (x0::x1::x2::x3::le) s=qL x3 (fun _=>g.run r (sp 26 (V.bool true) t) (V.bool true::x0::x1::x2::x3::le) s) (fun _=>g.run r (sp 26 x0 t) (x0::x0::x1::x2::x3::le) s)) ∧
 (∀ g r s t le,(zh3 g).run r t (le) s=zk ⟨7,[]⟩ true .eql (gp 17 t) (V.nat .i64 0) fun v1=>g.run r t (v1::v1::gp 17 t::le) s)) ∧
 ((∀ g r s t le,(zdk g).run r t (.bool true::le) s=zD (r.call 22 [gp 15 t] s) fun v4 s=>g.run r t (v4::gp 15 t::.bool true::le) s) ∧
 ((∀ g r s t le,(zdk g).run r t (.bool false::le) s=g.run r t (Go.Ev.undef::Go.Ev.undef::.bool false::le) s) ∧
 (∀ g r s t le x0 x1 x2,(zii g).run r t (x0::x1::x2::le) s=qL x2 (fun _=>g.run r t (x0::x0::x0::x1::x2::le) s) (fun _=>g.run r t (V.bool false::V.bool false::x0::x1::x2::le) s)))))) ∧
 ((((∀ g r s t le,(zdF g).run r t (.bool true::le) s=zk ⟨9,[]⟩ false .leq (gp 2 t) (gp 3 t) fun v9=>g.run r t (v9::gp 3 t::gp 2 t::.bool true::le) s) ∧
 (∀ g r s t le,(zdF g).run r t (.bool false::le) s=g.run r t (Go.Ev.undef::Go.Ev.undef::Go.Ev.undef::.bool false::le) s)) ∧
 ((∀ g r s t le x0 x1 x2 x3,(zfJ g).run r t (x0::x1::x2::x3::le) s=qL x3 (fun _=>g.run r (sp 27 x0 t) (x0::x0::x1::x2::x3::le) s) (fun _=>g.run r (sp 27 (V.bool false) t) (V.bool false::x0::x1::x2::x3::le) s)) ∧
 ((∀ g r s t le,(ziQ g).run r t (le) s=zk ⟨0,[]⟩ false .eql (gp 16 t) (gp 18 t) fun v2=>g.run r t (v2::v2::gp 18 t::gp 16 t::le) s) ∧
 (∀ g r s t le,(zc3 g).run r t (.bool true::le) s=zk ⟨7,[]⟩ true .eql (gp 19 t) (V.nat .i64 0) fun v5=>g.run r t (v5::gp 19 t::.bool true::le) s)))) ∧
 (((∀ g r s t le,(zc3 g).run r t (.bool false::le) s=g.run r t (Go.Ev.undef::Go.Ev.undef::.bool false::le) s) ∧
 (∀ g r s t le x0 x1 x2,(ziL g).run r t (x0::x1::x2::le) s=qL x2 (fun _=>g.run r t (x0::x0::x0::x1::x2::le) s) (fun _=>g.run r t (V.bool false::V.bool false::x0::x1::x2::le) s))) ∧
 ((∀ g r s t le,(zcU g).run r t (.bool true::le) s=zD (r.call 8 [] s) fun v8 s=>g.run r t (v8::.bool true::le) s) ∧
 ((∀ g r s t le,(zcU g).run r t (.bool false::le) s=g.run r t (Go.Ev.undef::.bool false::le) s) ∧
 (∀ g r s t le x0 x1,(zg3 g).run r t (x0::x1::le) s=qL x1 (fun _=>g.run r (sp 8 x0 t) (x0::x0::x0::x1::le) s) (fun _=>g.run r (sp 8 (V.bool false) t) (V.bool false::V.bool false::x0::x1::le) s)))))))):=by
 and_intros<;>(intros;kernel_rfl)
theorem zqf:∀ r s t,zv4.run r t s=.nrm (sp 8 (V.bool false) t) s:=ze 1
theorem zoc:∀ r s t,zuP.run r t s=(zkq (zeg (zlu yk))).run r t [] s:=ye (by kernel_rfl) (chS rfl (by kernel_rfl) (chS rfl (by kernel_rfl) chL))
theorem zrw:∀ r s t,zt2.run r t s=zD (r.call 8 [] s) fun v0 s=>.nrm (sp 8 v0 t) s:=ze 2
theorem zkE:∀ r s t,zpY.run r t s=.nrm (sp 9 (V.nil 1) t) s:=ze 1
theorem zmA:∀ r s t,zsL.run r t s=zz (gp 0 t) fun v1=>zk ⟨9,[]⟩ false .sub v1 (V.nat .i64 1) fun v2=>.nrm (sp 10 v2 t) s:=ze 4
theorem zlW:∀ r s t,zqR.run r t s=zk ⟨9,[]⟩ false .geq (gp 10 t) (V.nat .i64 0) fun v1=>.nrm (sp 21 v1 t) s:=ze 2
theorem zmf:∀ r s t,zs1.run r t s=zg 2 (gp 0 t) (gp 10 t) fun v3=>zd true 2 v3 s fun v4 s=>j4 [V.nil 1,V.nil 1] 1 fun l5z=>zp 2 v4 fun x5_0=>qY x5_0 0 l5z fun l5_0=>Go.Ev.newRow s 49 l5_0 false fun a5k _ s=>zP 49 2 (gp 9 t) (V.sl a5k 0 0 1 1) s fun v6 s=>.nrm (sp 9 v6 t) s:=ze 8
theorem zlw:∀ r s t,zny.run r t s=zk ⟨9,[]⟩ false .sub (gp 10 t) (V.nat .i64 1) fun v1=>.nrm (sp 10 v1 t) s:=ze 3
theorem zmg:∀ r s t,znS.run r t s=zD (r.call 17 [gp 0 t,gp 1 t] s) fun v2 s=>zU 0 v2 fun v4=>zU 1 v2 fun v5=>.nrm (sp 12 v5 (sp 11 v4 t)) s:=ze 8
theorem zk1:∀ r s t,zrv.run r t s=zD (r.call 17 [gp 9 t,gp 1 t] s) fun v2 s=>zU 0 v2 fun v4=>zU 1 v2 fun v5=>.nrm (sp 14 v5 (sp 13 v4 t)) s:=ze 8
theorem zkD:∀ r s t,zrU.run r t s=(zhJ (zcX (zhB yk))).run r t [] s:=ye (by kernel_rfl) (chS rfl (by kernel_rfl) (chS rfl (by kernel_rfl) chL))
theorem zkF:∀ r s t,zoN.run r t s=.nrm (sp 8 (V.bool false) t) s:=ze 1
theorem zlq:∀ r s t,zra.run r t s=j4 [V.nat .i64 0] 1 fun l2z=>zp 1 (gp 2 t) fun x2_0=>qY x2_0 0 l2z fun l2_0=>Go.Ev.newRow s 3 l2_0 false fun a2k _ s=>j4 [V.nat .i64 0] 1 fun l4z=>zp 1 (gp 2 t) fun x4_0=>qY x4_0 0 l4z fun l4_0=>Go.Ev.newRow s 3 l4_0 false fun a4k _ s=>zp 1 (V.sl a2k 0 0 1 1) fun x5_0=>qY x5_0 0 [V.nil 1,V.nil 1] fun l5_0=>zp 1 (V.sl a4k 0 0 1 1) fun x5_1=>qY x5_1 1 l5_0 fun l5_1=>j4 [V.nil 1,V.nil 1] 1 fun l6z=>zp 2 (V.ls 0 l5_1) fun x6_0=>qY x6_0 0 l6z fun l6_0=>Go.Ev.newRow s 49 l6_0 false fun a6k _ s=>zP 49 2 (gp 9 t) (V.sl a6k 0 0 1 1) s fun v7 s=>.nrm (sp 15 v7 t) s:=ze 9
theorem zlU:∀ r s t,zsl.run r t s=(zg9 (zc8 (zhC yk))).run r t [] s:=ye (by kernel_rfl) (chS rfl (by kernel_rfl) (chS rfl (by kernel_rfl) chL))
theorem zls:∀ r s t,zr7.run r t s=zD (r.call 17 [gp 15 t,gp 1 t] s) fun v2 s=>zU 0 v2 fun v4=>zU 1 v2 fun v5=>.nrm (sp 14 v5 (sp 13 v4 t)) s:=ze 8
theorem zlF:∀ r s t,znH.run r t s=(zhs (zdB (ziZ yk))).run r t [] s:=ye (by kernel_rfl) (chS rfl (by kernel_rfl) (chS rfl (by kernel_rfl) chL))
theorem zl8:∀ r s t,znL.run r t s=.nrm (sp 8 (V.bool false) t) s:=ze 1
theorem zms:∀ r s t,zrN.run r t s=zD (r.call 12 [gp 0 t,gp 3 t] s) fun v2 s=>xUn .not v2 fun v3=>.nrm (sp 25 v3 t) s:=ze 4
theorem zmE:∀ r s t,znk.run r t s=zD (r.call 8 [] s) fun v0 s=>.nrm (sp 8 v0 t) s:=ze 2
theorem zmy:∀ r s t,zrQ.run r t s=zD (r.call 11 [gp 0 t,gp 3 t] s) fun v2 s=>zU 0 v2 fun v4=>zU 1 v2 fun v5=>.nrm (sp 17 v5 (sp 16 v4 t)) s:=ze 8
theorem zmi:∀ r s t,zri.run r t s=zD (r.call 11 [gp 9 t,gp 3 t] s) fun v2 s=>zU 0 v2 fun v4=>zU 1 v2 fun v5=>.nrm (sp 19 v5 (sp 18 v4 t)) s:=ze 8
theorem zkK:∀ r s t,zp4.run r t s=(zi1 (zdt (zh9 yk))).run r t [] s:=ye (by kernel_rfl) (chS rfl (by kernel_rfl) (chS rfl (by kernel_rfl) chL))
theorem zmz:∀ r s t,zo3.run r t s=.nrm (sp 8 (V.bool false) t) s:=ze 1
theorem zlM:∀ r s t,zqP.run r t s=(zh3 (zdk (zii (zdF (zfJ yk))))).run r t [] s:=ye (by kernel_rfl) (chS rfl (by kernel_rfl) (chS rfl (by kernel_rfl) (chS rfl (by kernel_rfl) (chS rfl (by kernel_rfl) chL))))
theorem zmH:∀ r s t,znC.run r t s=zD (r.call 11 [gp 15 t,gp 3 t] s) fun v2 s=>zU 0 v2 fun v4=>zU 1 v2 fun v5=>.nrm (sp 19 v5 (sp 18 v4 t)) s:=ze 8
theorem zkS:∀ r s t,zoG.run r t s=(ziQ (zc3 (ziL (zcU (zg3 yk))))).run r t [] s:=ye (by kernel_rfl) (chS rfl (by kernel_rfl) (chS rfl (by kernel_rfl) (chS rfl (by kernel_rfl) (chS rfl (by kernel_rfl) chL))))
theorem zj9:∀ r s t,zrx.run r t s=zD (r.call 8 [] s) fun v0 s=>.nrm (sp 8 v0 t) s:=ze 2
theorem zAG:z3 zgn=24:=by kernel_rfl
theorem zlA:∀ r s t,zbx.run r t s=za (fun t s=>r.code qM zgn t s) (za (fun t s=>za (fun t s=>zny.run r t s) (zE 1 (zs1.run r t s))) (za (fun t s=>zu (gp 21 t) (.nrm t s) (.ext 0 t s)) (zqR.run r t s))):=by intros;kernel_rfl
theorem je:type_of% (aI zqf <| aI zoc <| aI zrw <| aI zkE <| aI zmA <| aI zlW <| aI zmf <| aI zlw <| aI zmg <| aI zk1 <| aI zkD <| aI zkF <| aI zlq <| aI zlU <| aI zls <| aI zlF <| aI zl8 <| aI zms <| aI zmE <| aI zmy <| aI zmi <| aI zkK <| aI zmz <| aI zlM <| aI zmH <| aI zkS <| aI zj9 <| zDy):=aI zqf <| aI zoc <| aI zrw <| aI zkE <| aI zmA <| aI zlW <| aI zmf <| aI zlw <| aI zmg <| aI zk1 <| aI zkD <| aI zkF <| aI zlq <| aI zlU <| aI zls <| aI zlF <| aI zl8 <| aI zms <| aI zmE <| aI zmy <| aI zmi <| aI zkK <| aI zmz <| aI zlM <| aI zmH <| aI zkS <| aI zj9 <| zDy
def wC:FI:=⟨35449079480712192,55,4⟩
def zaS:=qe Tryz.prog 11
def jo (l:List Nat):=zl zj wC (zI l zaS)
def zDX:=jo [0]
def zEp:=zI [1,0,0] zaS
def zC7:=zl zj wC zEp
def zbr:=qOf zj wC zEp
def zmu:=zbr 10 1 (dn 20 10)
def zgm:=zbr 8 2 (dn 18 8)
def znP:=zbr 6 2 (dn 16 6)
def zgU:=zbr 4 2 (dn 14 4)
def zsq:=zbr 0 4 []
def zAb:=jo [1,0,1,0,0]
def zvG:=jo [1,1,0,0]
def zua:=jo [1,1,0,1,0,0,0]
def ztJ:=jo [1,1,0,1,0,0,1,1,0,0,0]
def zwG:=zI [1,1,0,1,0,0,1,1,0,0,1,0] zaS
def zuX:=zl zj wC zwG
def zeh:=qOf zj wC zwG
def zir:=zeh 11 1 (dn 38 11)
def zeL:=zeh 6 5 (dn 33 6)
def zkn:=zeh 0 6 []
def zuO:=jo [1,1,0,1,0,0,1,1,0,0,1,1,0,0]
def zvy:=jo [1,1,0,1,0,0,1,1,1]
def zjf:=zI [1,1,0,1,0] zaS
def zcO:=zl zj wC zjf
def zyr:=jo [1,1,1,0,0]
def zxs:=jo [1,1,1,0,1,0,0,0]
def zv3:=jo [1,1,1,0,1,0,0,1,1,0,0,0]
def zv7:=jo [1,1,1,0,1,0,0,1,1,0,0,1,0]
def zvk:=jo [1,1,1,0,1,0,0,1,1,0,0,1,1,0,0]
def zvA:=jo [1,1,1,0,1,0,0,1,1,1]
def zj1:=zI [1,1,1,0,1,0] zaS
def zca:=zl zj wC zj1
def zxn:=jo [1,1,1,1,0]
def zhf:=zl zj wC zaS
def zg6:=yi (ql zj wC (qz Tryz.prog 11)).run
theorem zHa :
 ((((∀ r s x0 x1,(fnC zj 11).run r [x0,x1] s=qk (z7 (fun t s=>zg6 t s) (zhf.run r (sp 1 x1 (sp 0 x0 T.new)) s))) ∧
 ((∀ s t,zg6 t s=yW (gp 240 t) (yp [gp 4 t,gp 5 t] s)) ∧
 (∀ r s t,zhf.run r t s=za (fun t s=>za (fun t s=>za (fun t s=>za (fun t s=>za (fun t s=>.ret t s) (zxn.run r t s)) (za (fun t s=>zE 2 (zca.run r t s)) (zyr.run r t s))) (za (fun t s=>zE 0 (zcO.run r t s)) (zvG.run r t s))) (za (fun t s=>zu (gp 10 t) (za (fun t s=>.ret t s) (zAb.run r t s)) (.nrm t s)) (zC7.run r t s))) (zDX.run r t s)))) ∧
 (((∀ g r s t le,(zsq g).run r t (le) s=zD (r.call 22 [gp 0 t] s) fun v1 s=>xUn .not v1 fun v2=>g.run r t (v2::v2::v1::gp 0 t::le) s) ∧
 (∀ g r s t le,(zgU g).run r t (.bool true::le) s=g.run r t (Go.Ev.undef::Go.Ev.undef::.bool true::le) s)) ∧
 ((∀ g r s t le,(zgU g).run r t (.bool false::le) s=zk ⟨9,[]⟩ false .lss (gp 1 t) (V.nat .i64 0) fun v5=>g.run r t (v5::gp 1 t::.bool false::le) s) ∧
 (∀ g r s t le x0 x1 x2,(znP g).run r t (x0::x1::x2::le) s=qL x2 (fun _=>g.run r t (V.bool true::V.bool true::x0::x1::x2::le) s) (fun _=>g.run r t (x0::x0::x0::x1::x2::le) s))))) ∧
 (((∀ g r s t le,(zgm g).run r t (.bool true::le) s=g.run r t (Go.Ev.undef::Go.Ev.undef::.bool true::le) s) ∧
 ((∀ g r s t le,(zgm g).run r t (.bool false::le) s=zk ⟨9,[]⟩ false .gtr (gp 1 t) (V.nat .i64 500) fun v9=>g.run r t (v9::gp 1 t::.bool false::le) s) ∧
 (∀ g r s t le x0 x1 x2,(zmu g).run r t (x0::x1::x2::le) s=qL x2 (fun _=>g.run r (sp 10 (V.bool true) t) (V.bool true::x0::x1::x2::le) s) (fun _=>g.run r (sp 10 x0 t) (x0::x0::x1::x2::le) s)))) ∧
 (((∀ g r s t le,(zkn g).run r t (le) s=zf 0 (gp 7 t) fun v0=>zd false 1 v0 s fun v1 s=>zD (r.call 27 [v1,gp 1 t] s) fun v3 s=>xUn .not v3 fun v4=>g.run r t (v4::v4::v3::gp 1 t::v1::v0::le) s) ∧
 (∀ g r s t le,(zeL g).run r t (.bool true::le) s=g.run r t (Go.Ev.undef::Go.Ev.undef::Go.Ev.undef::Go.Ev.undef::Go.Ev.undef::.bool true::le) s)) ∧
 ((∀ g r s t le,(zeL g).run r t (.bool false::le) s=zf 1 (gp 7 t) fun v6=>zd false 1 v6 s fun v7 s=>zD (r.call 27 [v7,gp 1 t] s) fun v9 s=>xUn .not v9 fun v10=>g.run r t (v10::v9::gp 1 t::v7::v6::.bool false::le) s) ∧
 (∀ g r s t le x0 x1 x2 x3 x4 x5,(zir g).run r t (x0::x1::x2::x3::x4::x5::le) s=qL x5 (fun _=>g.run r (sp 15 (V.bool true) t) (V.bool true::x0::x1::x2::x3::x4::x5::le) s) (fun _=>g.run r (sp 15 x0 t) (x0::x0::x1::x2::x3::x4::x5::le) s)))))):=by
 and_intros<;>(intros;kernel_rfl)
theorem zw9:∀ r s t,zDX.run r t s=.nrm (sp 5 (V.nat .i64 0) (sp 4 (V.bool false) t)) s:=ze 2
theorem zyL:∀ r s t,zC7.run r t s=(zsq (zgU (znP (zgm (zmu yk))))).run r t [] s:=ye (by kernel_rfl) (chS rfl (by kernel_rfl) (chS rfl (by kernel_rfl) (chS rfl (by kernel_rfl) (chS rfl (by kernel_rfl) chL))))
theorem zvY:∀ r s t,zAb.run r t s=.nrm (sp 5 (V.nat .i64 1) (sp 4 (V.bool false) t)) s:=ze 2
theorem znE:∀ r s t,zvG.run r t s=zz (gp 0 t) fun v1=>.nrm (sp 13 (V.nat .i64 0) (sp 12 v1 (sp 11 (gp 0 t) t))) s:=ze 3
theorem zph:∀ r s t,zua.run r t s=zk ⟨9,[]⟩ false .lss (gp 13 t) (gp 12 t) fun v0=>.nrm (sp 14 v0 t) s:=ze 1
theorem zoD:∀ r s t,ztJ.run r t s=zg 2 (gp 11 t) (gp 13 t) fun v0=>zd true 2 v0 s fun v1 s=>Go.Ev.newRow s 49 [V.nil 1,V.nil 1] false fun a2k _ s=>zJ 2 (V.ptr a2k 0 0) v1 s fun _ s=>.nrm (sp 7 (V.ptr a2k 0 0) t) s:=ze 4
theorem zno:∀ r s t,zuX.run r t s=(zkn (zeL (zir yk))).run r t [] s:=ye (by kernel_rfl) (chS rfl (by kernel_rfl) (chS rfl (by kernel_rfl) chL))
theorem zob:∀ r s t,zuO.run r t s=.nrm (sp 5 (V.nat .i64 1) (sp 4 (V.bool false) t)) s:=ze 2
theorem zpP:∀ r s t,zvy.run r t s=zk ⟨9,[]⟩ false .add (gp 13 t) (V.nat .i64 1) fun v0=>.nrm (sp 13 v0 t) s:=ze 2
theorem zpB:∀ r s t,zyr.run r t s=zz (gp 0 t) fun v1=>.nrm (sp 18 (V.nat .i64 0) (sp 17 v1 (sp 16 (gp 0 t) t))) s:=ze 3
theorem zpf:∀ r s t,zxs.run r t s=zk ⟨9,[]⟩ false .lss (gp 18 t) (gp 17 t) fun v0=>.nrm (sp 19 v0 t) s:=ze 1
theorem zoW:∀ r s t,zv3.run r t s=zg 2 (gp 16 t) (gp 18 t) fun v0=>zd true 2 v0 s fun v1 s=>Go.Ev.newRow s 49 [V.nil 1,V.nil 1] false fun a2k _ s=>zJ 2 (V.ptr a2k 0 0) v1 s fun _ s=>.nrm (sp 9 (V.ptr a2k 0 0) t) s:=ze 4
theorem zsf:∀ r s t,zv7.run r t s=zf 1 (gp 9 t) fun v0=>zd false 1 v0 s fun v1 s=>zz v1 fun v2=>zk ⟨7,[]⟩ true .eql v2 (V.nat .i64 0) fun v3=>.nrm (sp 20 v3 t) s:=ze 4
theorem zpZ:∀ r s t,zvk.run r t s=.nrm (sp 5 (V.nat .i64 0) (sp 4 (V.bool false) t)) s:=ze 2
theorem znN:∀ r s t,zvA.run r t s=zk ⟨9,[]⟩ false .add (gp 18 t) (V.nat .i64 1) fun v0=>.nrm (sp 18 v0 t) s:=ze 2
theorem zqG:∀ r s t,zxn.run r t s=zD (r.call 28 [gp 0 t,gp 1 t] s) fun v2 s=>zD (r.call 29 [v2] s) fun v3 s=>.nrm (sp 5 (V.nat .i64 0) (sp 4 v3 t)) s:=ze 6
theorem zFw:z3 zjf=40:=by kernel_rfl
theorem zET:z3 zj1=32:=by kernel_rfl
theorem zc0:∀ r s t,zcO.run r t s=za (fun t s=>r.code wC zjf t s) (za (fun t s=>za (fun t s=>za (fun t s=>zvy.run r t s) (zE 1 (za (fun t s=>za (fun t s=>zu (gp 15 t) (za (fun t s=>.ret t s) (zuO.run r t s)) (.nrm t s)) (zuX.run r t s)) (ztJ.run r t s)))) (zu (gp 14 t) (.nrm t s) (.ext 0 t s))) (zua.run r t s)):=by intros;kernel_rfl
theorem zgD:∀ r s t,zca.run r t s=za (fun t s=>r.code wC zj1 t s) (za (fun t s=>za (fun t s=>za (fun t s=>zvA.run r t s) (zE 3 (za (fun t s=>za (fun t s=>zu (gp 20 t) (za (fun t s=>.ret t s) (zvk.run r t s)) (.nrm t s)) (zv7.run r t s)) (zv3.run r t s)))) (zu (gp 19 t) (.nrm t s) (.ext 2 t s))) (zxs.run r t s)):=by intros;kernel_rfl
theorem y3:type_of% (aI zw9 <| aI zyL <| aI zvY <| aI znE <| aI zph <| aI zoD <| aI zno <| aI zob <| aI zpP <| aI zpB <| aI zpf <| aI zoW <| aI zsf <| aI zpZ <| aI znN <| aI zqG <| zHa):=aI zw9 <| aI zyL <| aI zvY <| aI znE <| aI zph <| aI zoD <| aI zno <| aI zob <| aI zpP <| aI zpB <| aI zpf <| aI zoW <| aI zsf <| aI zpZ <| aI znN <| aI zqG <| zHa
def zct:FI:=⟨4064,12,4⟩
def zej:=qe Tryz.prog 12
def zsz:=zl zj zct (zI [0] zej)
def zrb:=zI [1,0] zej
def zpp:=zl zj zct zrb
def zdj:=qOf zj zct zrb
def zhx:=zdj 6 2 (dn 11 6)
def zdo:=zdj 4 2 (dn 9 4)
def zg7:=zdj 0 4 []
def zpq:=zl zj zct zej
def zqy:=yi (ql zj zct (qz Tryz.prog 12)).run
theorem zyK :
 (((∀ r s x0 x1,(fnC zj 12).run r [x0,x1] s=qk (z7 (fun t s=>zqy t s) (zpq.run r (sp 1 x1 (sp 0 x0 T.new)) s))) ∧
 ((∀ s t,zqy t s=yW (gp 240 t) (yp [gp 4 t] s)) ∧
 (∀ r s t,zpq.run r t s=za (fun t s=>za (fun t s=>.ret t s) (zpp.run r t s)) (zsz.run r t s)))) ∧
 (((∀ g r s t le,(zg7 g).run r t (le) s=zD (r.call 30 [gp 0 t] s) fun v1 s=>zk ⟨9,[]⟩ false .leq v1 (V.nat .i64 14) fun v2=>g.run r t (v2::v2::v1::gp 0 t::le) s) ∧
 (∀ g r s t le,(zdo g).run r t (.bool true::le) s=zk ⟨9,[]⟩ false .leq (gp 1 t) (V.nat .i64 4) fun v5=>g.run r t (v5::gp 1 t::.bool true::le) s)) ∧
 ((∀ g r s t le,(zdo g).run r t (.bool false::le) s=g.run r t (Go.Ev.undef::Go.Ev.undef::.bool false::le) s) ∧
 (∀ g r s t le x0 x1 x2,(zhx g).run r t (x0::x1::x2::le) s=qL x2 (fun _=>g.run r (sp 4 x0 t) (x0::x0::x0::x1::x2::le) s) (fun _=>g.run r (sp 4 (V.bool false) t) (V.bool false::V.bool false::x0::x1::x2::le) s))))):=by
 and_intros<;>(intros;kernel_rfl)
theorem zll:∀ r s t,zsz.run r t s=.nrm (sp 4 (V.bool false) t) s:=ze 1
theorem zlQ:∀ r s t,zpp.run r t s=(zg7 (zdo (zhx yk))).run r t [] s:=ye (by kernel_rfl) (chS rfl (by kernel_rfl) (chS rfl (by kernel_rfl) chL))
theorem zgP:type_of% (aI zll <| aI zlQ <| zyK):=aI zll <| aI zlQ <| zyK
def q8:FI:=⟨348448518217211894145344806537083159052288,138,4⟩
def jg:=qe Tryz.prog 28
def zT (l:List Nat):=zl zj q8 (zI l jg)
def zCI:=zT [0]
def zC1:=zT [1,0]
def zB0:=zT [1,1,0]
def zC2:=zT [1,1,1,0,0]
def zuK:=zT [1,1,1,0,1,0,0,0]
def zyx:=zT [1,1,1,0,1,0,0,1,1,0,0,0]
def zwX:=zT [1,1,1,0,1,0,0,1,1,0,0,1,0]
def zu2:=zT [1,1,1,0,1,0,0,1,1,0,0,1,1,0,0,0]
def zuZ:=zT [1,1,1,0,1,0,0,1,1,0,0,1,1,0,0,1,1,0,0,0]
def zuh:=zT [1,1,1,0,1,0,0,1,1,0,0,1,1,0,0,1,1,0,0,1]
def zyP:=zT [1,1,1,0,1,0,0,1,1,0,0,1,1,0,0,1,1,1]
def zjn:=zI [1,1,1,0,1,0,0,1,1,0,0,1,1,0] jg
def zcg:=zl zj q8 zjn
def zvh:=zT [1,1,1,0,1,0,0,1,1,1]
def zjH:=zI [1,1,1,0,1,0] jg
def zcP:=zl zj q8 zjH
def zxE:=zT [1,1,1,1,0,0]
def zu7:=zT [1,1,1,1,0,1,0,0,0,0]
def zxl:=zT [1,1,1,1,0,1,0,0,1,0,0,0]
def zyn:=zT [1,1,1,1,0,1,0,0,1,0,0,1,0,0]
def zuV:=zT [1,1,1,1,0,1,0,0,1,1]
def zi7:=zI [1,1,1,1,0,1,0] jg
def zcD:=zl zj q8 zi7
def ztQ:=zT [1,1,1,1,1,0]
def zx8:=zT [1,1,1,1,1,1,0]
def zxD:=zT [1,1,1,1,1,1,1,0,0]
def zur:=zT [1,1,1,1,1,1,1,0,1,0,0,0,0]
def zyc:=zT [1,1,1,1,1,1,1,0,1,0,0,1,0,0,0,0]
def zw1:=zT [1,1,1,1,1,1,1,0,1,0,0,1,0,0,1,0,0]
def zx2:=zT [1,1,1,1,1,1,1,0,1,0,0,1,0,0,1,0,1,0,0,0]
def zyC:=zT [1,1,1,1,1,1,1,0,1,0,0,1,0,0,1,0,1,0,0,1,1,0,0]
def zwC:=zT [1,1,1,1,1,1,1,0,1,0,0,1,0,0,1,0,1,0,0,1,1,0,1,0]
def zwR:=zI [1,1,1,1,1,1,1,0,1,0,0,1,0,0,1,0,1,0,0,1,1,0,1,1,0] jg
def ztp:=zl zj q8 zwR
def zeF:=qOf zj q8 zwR
def zj8:=zeF 8 1 (dn 98 8)
def zeW:=zeF 3 5 [93,92,91]
def zkV:=zeF 0 3 []
def zqd:=zT [1,1,1,1,1,1,1,0,1,0,0,1,0,0,1,0,1,0,0,1,1,0,1,1,1,0]
def zcL:=zI [1,1,1,1,1,1,1,0,1,0,0,1,0,0,1,0,1,0] jg
def zcs:=zl zj q8 zcL
def zsn:=zT [1,1,1,1,1,1,1,0,1,0,0,1,0,0,1,1,0]
def zrc:=zT [1,1,1,1,1,1,1,0,1,0,0,1,0,0,1,1,1,0,0,0]
def zrs:=zT [1,1,1,1,1,1,1,0,1,0,0,1,0,0,1,1,1,0,0,1,1,0,0,0]
def zp2:=zT [1,1,1,1,1,1,1,0,1,0,0,1,0,0,1,1,1,0,0,1,1,0,0,1,0]
def zsw:=zT [1,1,1,1,1,1,1,0,1,0,0,1,0,0,1,1,1,0,0,1,1,0,0,1,1,0,0]
def zq9:=zT [1,1,1,1,1,1,1,0,1,0,0,1,0,0,1,1,1,0,0,1,1,0,0,1,1,0,1,0,0,0]
def znB:=zT [1,1,1,1,1,1,1,0,1,0,0,1,0,0,1,1,1,0,0,1,1,0,0,1,1,0,1,0,0,1,1,0,0,0]
def zpy:=zT [1,1,1,1,1,1,1,0,1,0,0,1,0,0,1,1,1,0,0,1,1,0,0,1,1,0,1,0,0,1,1,0,0,1]
def zpK:=zT [1,1,1,1,1,1,1,0,1,0,0,1,0,0,1,1,1,0,0,1,1,0,0,1,1,0,1,0,0,1,1,1]
def zgK:=zI [1,1,1,1,1,1,1,0,1,0,0,1,0,0,1,1,1,0,0,1,1,0,0,1,1,0,1,0] jg
def zbf:=zl zj q8 zgK
def zpd:=zT [1,1,1,1,1,1,1,0,1,0,0,1,0,0,1,1,1,0,0,1,1,0,0,1,1,1]
def zoX:=zT [1,1,1,1,1,1,1,0,1,0,0,1,0,0,1,1,1,0,0,1,1,1]
def zgq:=zI [1,1,1,1,1,1,1,0,1,0,0,1,0,0,1,1,1,0] jg
def za7:=zl zj q8 zgq
def zs3:=zT [1,1,1,1,1,1,1,0,1,0,0,1,1]
def zjW:=zI [1,1,1,1,1,1,1,0,1,0] jg
def zck:=zl zj q8 zjW
def zpQ:=zT [1,1,1,1,1,1,1,1,0]
def zik:=zl zj q8 jg
def ziS:=yi (ql zj q8 (qz Tryz.prog 28)).run
theorem zHg :
 (((∀ r s x0 x1,(fnC zj 28).run r [x0,x1] s=qk (z7 (fun t s=>ziS t s) (zik.run r (sp 1 x1 (sp 0 x0 T.new)) s))) ∧
 ((∀ s t,ziS t s=yW (gp 240 t) (yp [gp 4 t] s)) ∧
 (∀ r s t,zik.run r t s=za (fun t s=>za (fun t s=>za (fun t s=>za (fun t s=>za (fun t s=>za (fun t s=>za (fun t s=>za (fun t s=>za (fun t s=>.ret t s) (zpQ.run r t s)) (za (fun t s=>zE 6 (zck.run r t s)) (zxD.run r t s))) (zx8.run r t s)) (ztQ.run r t s)) (za (fun t s=>zE 4 (zcD.run r t s)) (zxE.run r t s))) (za (fun t s=>zE 0 (zcP.run r t s)) (zC2.run r t s))) (zB0.run r t s)) (zC1.run r t s)) (zCI.run r t s)))) ∧
 (((∀ g r s t le,(zkV g).run r t (le) s=zk ⟨1,[]⟩ true .eql (gp 15 t) (V.nil 0) fun v1=>g.run r t (v1::v1::gp 15 t::le) s) ∧
 (∀ g r s t le,(zeW g).run r t (.bool true::le) s=g.run r t (Go.Ev.undef::Go.Ev.undef::Go.Ev.undef::Go.Ev.undef::Go.Ev.undef::.bool true::le) s)) ∧
 ((∀ g r s t le,(zeW g).run r t (.bool false::le) s=zB (gp 15 t) fun v4=>zf 1 v4 fun v5=>zd false 1 v5 s fun v6 s=>zk ⟨9,[]⟩ false .lss v6 (V.nat .i64 0) fun v7=>g.run r t (v7::v6::v5::v4::gp 15 t::.bool false::le) s) ∧
 (∀ g r s t le x0 x1 x2 x3 x4 x5,(zj8 g).run r t (x0::x1::x2::x3::x4::x5::le) s=qL x5 (fun _=>g.run r (sp 35 (V.bool true) t) (V.bool true::x0::x1::x2::x3::x4::x5::le) s) (fun _=>g.run r (sp 35 x0 t) (x0::x0::x1::x2::x3::x4::x5::le) s))))):=by
 and_intros<;>(intros;kernel_rfl)
theorem ztU:∀ r s t,zCI.run r t s=.nrm (sp 4 (V.nil 0) t) s:=ze 1
theorem zty:∀ r s t,zC1.run r t s=zD (r.call 34 [gp 0 t] s) fun v1 s=>.nrm (sp 5 v1 t) s:=ze 3
theorem zvO:∀ r s t,zB0.run r t s=jU s (.map [] 0) fun a0k s=>.nrm (sp 6 (V.ref 0 a0k) t) s:=ze 2
theorem zx3:∀ r s t,zC2.run r t s=zz (gp 0 t) fun v1=>.nrm (sp 23 (V.nat .i64 0) (sp 22 v1 (sp 21 (gp 0 t) t))) s:=ze 3
theorem zo0:∀ r s t,zuK.run r t s=zk ⟨9,[]⟩ false .lss (gp 23 t) (gp 22 t) fun v0=>.nrm (sp 24 v0 t) s:=ze 1
theorem znx:∀ r s t,zyx.run r t s=zg 2 (gp 21 t) (gp 23 t) fun v0=>zd true 2 v0 s fun v1 s=>Go.Ev.newRow s 49 [V.nil 1,V.nil 1] false fun a2k _ s=>zJ 2 (V.ptr a2k 0 0) v1 s fun _ s=>.nrm (sp 8 (V.ptr a2k 0 0) t) s:=ze 4
theorem zq0:∀ r s t,zwX.run r t s=zf 0 (gp 8 t) fun v0=>zd false 1 v0 s fun v1 s=>zf 1 (gp 8 t) fun v2=>zd false 1 v2 s fun v3 s=>j4 [V.nil 1] 2 fun l4z=>zp 1 v1 fun x4_0=>qY x4_0 0 l4z fun l4_0=>zp 1 v3 fun x4_1=>qY x4_1 1 l4_0 fun l4_1=>Go.Ev.newRow s 29 l4_1 false fun a4k _ s=>zD (r.call 52 [(V.sl a4k 0 0 2 2)] s) fun v5 s=>zz v5 fun v6=>.nrm (sp 27 (V.nat .i64 0) (sp 26 v6 (sp 25 v5 t))) s:=ze 8
theorem zrM:∀ r s t,zu2.run r t s=zk ⟨9,[]⟩ false .lss (gp 27 t) (gp 26 t) fun v0=>.nrm (sp 28 v0 t) s:=ze 1
theorem zpF:∀ r s t,zuZ.run r t s=zg 1 (gp 25 t) (gp 27 t) fun v0=>zd false 1 v0 s fun v1 s=>.nrm (sp 10 v1 t) s:=ze 3
theorem znl:∀ r s t,zuh.run r t s=qw ⟨7,[]⟩ (gp 6 t) (gp 10 t) (V.nat .i64 1) s fun _ s=>.nrm t s:=ze 3
theorem zpW:∀ r s t,zyP.run r t s=zk ⟨9,[]⟩ false .add (gp 27 t) (V.nat .i64 1) fun v0=>.nrm (sp 27 v0 t) s:=ze 2
theorem zr1:∀ r s t,zvh.run r t s=zk ⟨9,[]⟩ false .add (gp 23 t) (V.nat .i64 1) fun v0=>.nrm (sp 23 v0 t) s:=ze 2
theorem zsy:∀ r s t,zxE.run r t s=.nrm (sp 11 (V.nat .i64 1) t) s:=ze 1
theorem zn9:∀ r s t,zu7.run r t s=zk ⟨9,[]⟩ false .leq (gp 11 t) (gp 1 t) fun v2=>.nrm (sp 29 v2 t) s:=ze 3
theorem zq1:∀ r s t,zxl.run r t s=z4 ⟨7,[]⟩ (V.nat .i64 0) false (gp 6 t) (gp 11 t) s fun v2=>zk ⟨7,[]⟩ true .eql v2 (V.nat .i64 0) fun v3=>.nrm (sp 30 v3 t) s:=ze 4
theorem znr:∀ r s t,zyn.run r t s=qw ⟨7,[]⟩ (gp 6 t) (gp 11 t) (V.nat .i64 1) s fun _ s=>.nrm t s:=ze 3
theorem zsQ:∀ r s t,zuV.run r t s=zk ⟨9,[]⟩ false .add (gp 11 t) (V.nat .i64 1) fun v1=>.nrm (sp 11 v1 t) s:=ze 3
theorem zoI:∀ r s t,ztQ.run r t s=jU s (.map [] 0) fun a0k s=>zp 1 (V.ref 0 a0k) fun x1_0=>qY x1_0 3 [V.nil 1,V.nil 1,V.nil 1,V.nil 2] fun l1_0=>zp 4 (V.ls 0 l1_0) fun l2=>Go.Ev.newRow s 101 l2 false fun a2k _ s=>.nrm (sp 12 (V.ptr a2k 0 0) t) s:=ze 4
theorem zr5:∀ r s t,zx8.run r t s=zD (r.call 53 [gp 12 t,V.nil 1] s) fun _ s=>.nrm t s:=ze 2
theorem zqF:∀ r s t,zxD.run r t s=.nrm (sp 13 (V.nat .i64 0) t) s:=ze 1
theorem znn:∀ r s t,zur.run r t s=zB (gp 12 t) fun v2=>zf 1 v2 fun v3=>zd false 1 v3 s fun v4 s=>zz v4 fun v5=>zk ⟨9,[]⟩ false .lss (gp 13 t) v5 fun v6=>.nrm (sp 31 v6 t) s:=ze 7
theorem zqb:∀ r s t,zyc.run r t s=zB (gp 12 t) fun v1=>zf 1 v1 fun v2=>zd false 1 v2 s fun v3 s=>zg 1 v3 (gp 13 t) fun v5=>zd false 1 v5 s fun v6 s=>xUn .not v6 fun v7=>.nrm (sp 32 v7 t) s:=ze 8
theorem znX:∀ r s t,zw1.run r t s=zm3 (gp 6 t) s fun v1 s=>.nrm (sp 33 v1 t) s:=ze 2
theorem zgX:∀ r s t,zx2.run r t s=zcW (gp 33 t) s fun v0 s=>zU 0 v0 fun v1=>.nrm (sp 34 v1 t) s:=by intros;kernel_rfl
theorem zn4:∀ r s t,zyC.run r t s=zoY (gp 33 t) s fun v0=>zU 0 v0 fun v1=>.nrm (sp 14 v1 t) s:=ze 3
theorem zoB:∀ r s t,zwC.run r t s=zB (gp 5 t) fun v1=>zf 0 v1 fun v2=>zd false 1 v2 s fun v3 s=>z4 ⟨7,[]⟩ (V.nil 0) false v3 (gp 14 t) s fun v5=>.nrm (sp 15 v5 t) s:=ze 7
theorem zrH:∀ r s t,ztp.run r t s=(zkV (zeW (zj8 yk))).run r t [] s:=ye (by kernel_rfl) (chS rfl (by kernel_rfl) (chS rfl (by kernel_rfl) chL))
theorem zku:∀ r s t,zqd.run r t s=j4 [V.nat .i64 0] 1 fun l3z=>zp 1 (gp 14 t) fun x3_0=>qY x3_0 0 l3z fun l3_0=>Go.Ev.newRow s 3 l3_0 false fun a3k _ s=>j4 [V.nat .i64 0] 1 fun l5z=>zp 1 (gp 14 t) fun x5_0=>qY x5_0 0 l5z fun l5_0=>Go.Ev.newRow s 3 l5_0 false fun a5k _ s=>zD (r.call 54 [gp 12 t,gp 13 t,(V.sl a3k 0 0 1 1),(V.sl a5k 0 0 1 1),gp 15 t] s) fun _ s=>.nrm t s:=ze 8
theorem zlf:∀ r s t,zsn.run r t s=zz (gp 0 t) fun v1=>.nrm (sp 38 (V.nat .i64 0) (sp 37 v1 (sp 36 (gp 0 t) t))) s:=ze 3
theorem zl3:∀ r s t,zrc.run r t s=zk ⟨9,[]⟩ false .lss (gp 38 t) (gp 37 t) fun v0=>.nrm (sp 39 v0 t) s:=ze 1
theorem zkU:∀ r s t,zrs.run r t s=zg 2 (gp 36 t) (gp 38 t) fun v0=>zd true 2 v0 s fun v1 s=>Go.Ev.newRow s 49 [V.nil 1,V.nil 1] false fun a2k _ s=>zJ 2 (V.ptr a2k 0 0) v1 s fun _ s=>.nrm (sp 17 (V.ptr a2k 0 0) t) s:=ze 4
theorem zlb:∀ r s t,zp2.run r t s=.nrm (sp 18 (gp 5 t) t) s:=ze 2
theorem zlZ:∀ r s t,zsw.run r t s=zf 0 (gp 17 t) fun v0=>zd false 1 v0 s fun v1 s=>zz v1 fun v2=>.nrm (sp 42 (V.nat .i64 0) (sp 41 v2 (sp 40 v1 t))) s:=ze 4
theorem zkN:∀ r s t,zq9.run r t s=zk ⟨9,[]⟩ false .lss (gp 42 t) (gp 41 t) fun v0=>.nrm (sp 43 v0 t) s:=ze 1
theorem zlv:∀ r s t,znB.run r t s=zg 1 (gp 40 t) (gp 42 t) fun v0=>zd false 1 v0 s fun v1 s=>.nrm (sp 20 v1 t) s:=ze 3
theorem zlz:∀ r s t,zpy.run r t s=zB (gp 18 t) fun v1=>zf 0 v1 fun v2=>zd false 1 v2 s fun v3 s=>z4 ⟨7,[]⟩ (V.nil 0) false v3 (gp 20 t) s fun v5=>.nrm (sp 18 v5 t) s:=ze 7
theorem zlJ:∀ r s t,zpK.run r t s=zk ⟨9,[]⟩ false .add (gp 42 t) (V.nat .i64 1) fun v0=>.nrm (sp 42 v0 t) s:=ze 2
theorem zkd:∀ r s t,zpd.run r t s=zf 0 (gp 17 t) fun v2=>zd false 1 v2 s fun v3 s=>zf 1 (gp 17 t) fun v4=>zd false 1 v4 s fun v5 s=>zD (r.call 54 [gp 12 t,gp 13 t,v3,v5,gp 18 t] s) fun _ s=>.nrm t s:=ze 8
theorem zmw:∀ r s t,zoX.run r t s=zk ⟨9,[]⟩ false .add (gp 38 t) (V.nat .i64 1) fun v0=>.nrm (sp 38 v0 t) s:=ze 2
theorem zmC:∀ r s t,zs3.run r t s=zk ⟨9,[]⟩ false .add (gp 13 t) (V.nat .i64 1) fun v1=>.nrm (sp 13 v1 t) s:=ze 3
theorem zmv:∀ r s t,zpQ.run r t s=.nrm (sp 4 (gp 12 t) t) s:=ze 2
theorem zGa:z3 zjn=22:=by kernel_rfl
theorem zE0:z3 zjH=52:=by kernel_rfl
theorem zFO:z3 zi7=30:=by kernel_rfl
theorem zF9:z3 zcL=46:=by kernel_rfl
theorem zDF:z3 zgK=26:=by kernel_rfl
theorem zCF:z3 zgq=66:=by kernel_rfl
theorem zFR:z3 zjW=158:=by kernel_rfl
theorem zq7:∀ r s t,zcg.run r t s=za (fun t s=>r.code q8 zjn t s) (za (fun t s=>za (fun t s=>za (fun t s=>zyP.run r t s) (zE 3 (za (fun t s=>zuh.run r t s) (zuZ.run r t s)))) (zu (gp 28 t) (.nrm t s) (.ext 2 t s))) (zu2.run r t s)):=by intros;kernel_rfl
theorem zoA:∀ r s t,zcP.run r t s=za (fun t s=>r.code q8 zjH t s) (za (fun t s=>za (fun t s=>za (fun t s=>zvh.run r t s) (zE 1 (za (fun t s=>za (fun t s=>zE 2 (zcg.run r t s)) (zwX.run r t s)) (zyx.run r t s)))) (zu (gp 24 t) (.nrm t s) (.ext 0 t s))) (zuK.run r t s)):=by intros;kernel_rfl
theorem zgu:∀ r s t,zcD.run r t s=za (fun t s=>r.code q8 zi7 t s) (za (fun t s=>za (fun t s=>zuV.run r t s) (zE 5 (za (fun t s=>zu (gp 30 t) (za (fun t s=>.ext 4 t s) (zyn.run r t s)) (.nrm t s)) (zxl.run r t s)))) (za (fun t s=>zu (gp 29 t) (.nrm t s) (.ext 4 t s)) (zu7.run r t s))):=by intros;kernel_rfl
theorem zn1:∀ r s t,zcs.run r t s=za (fun t s=>r.code q8 zcL t s) (za (fun t s=>za (fun t s=>zE 9 (za (fun t s=>za (fun t s=>za (fun t s=>zu (gp 35 t) (zqd.run r t s) (.nrm t s)) (ztp.run r t s)) (zwC.run r t s)) (zyC.run r t s))) (zu (gp 34 t) (.nrm t s) (.ext 8 t s))) (zx2.run r t s)):=by intros;kernel_rfl
theorem zlr:∀ r s t,zbf.run r t s=za (fun t s=>r.code q8 zgK t s) (za (fun t s=>za (fun t s=>za (fun t s=>zpK.run r t s) (zE 13 (za (fun t s=>zpy.run r t s) (znB.run r t s)))) (zu (gp 43 t) (.nrm t s) (.ext 12 t s))) (zq9.run r t s)):=by intros;kernel_rfl
theorem zml:∀ r s t,za7.run r t s=za (fun t s=>r.code q8 zgq t s) (za (fun t s=>za (fun t s=>za (fun t s=>zoX.run r t s) (zE 11 (za (fun t s=>za (fun t s=>za (fun t s=>zpd.run r t s) (za (fun t s=>zE 12 (zbf.run r t s)) (zsw.run r t s))) (zp2.run r t s)) (zrs.run r t s)))) (zu (gp 39 t) (.nrm t s) (.ext 10 t s))) (zrc.run r t s)):=by intros;kernel_rfl
theorem zgv:∀ r s t,zck.run r t s=za (fun t s=>r.code q8 zjW t s) (za (fun t s=>za (fun t s=>zs3.run r t s) (zE 7 (za (fun t s=>za (fun t s=>za (fun t s=>zE 10 (za7.run r t s)) (zsn.run r t s)) (za (fun t s=>zE 8 (zcs.run r t s)) (zw1.run r t s))) (za (fun t s=>zu (gp 32 t) (.ext 7 t s) (.nrm t s)) (zyc.run r t s))))) (za (fun t s=>zu (gp 31 t) (.nrm t s) (.ext 6 t s)) (zur.run r t s))):=by intros;kernel_rfl
theorem qt:type_of% (aI ztU <| aI zty <| aI zvO <| aI zx3 <| aI zo0 <| aI znx <| aI zq0 <| aI zrM <| aI zpF <| aI znl <| aI zpW <| aI zr1 <| aI zsy <| aI zn9 <| aI zq1 <| aI znr <| aI zsQ <| aI zoI <| aI zr5 <| aI zqF <| aI znn <| aI zqb <| aI znX <| aI zgX <| aI zn4 <| aI zoB <| aI zrH <| aI zku <| aI zlf <| aI zl3 <| aI zkU <| aI zlb <| aI zlZ <| aI zkN <| aI zlv <| aI zlz <| aI zlJ <| aI zkd <| aI zmw <| aI zmC <| aI zmv <| zHg):=aI ztU <| aI zty <| aI zvO <| aI zx3 <| aI zo0 <| aI znx <| aI zq0 <| aI zrM <| aI zpF <| aI znl <| aI zpW <| aI zr1 <| aI zsy <| aI zn9 <| aI zq1 <| aI znr <| aI zsQ <| aI zoI <| aI zr5 <| aI zqF <| aI znn <| aI zqb <| aI znX <| aI zgX <| aI zn4 <| aI zoB <| aI zrH <| aI zku <| aI zlf <| aI zl3 <| aI zkU <| aI zlb <| aI zlZ <| aI zkN <| aI zlv <| aI zlz <| aI zlJ <| aI zkd <| aI zmw <| aI zmC <| aI zmv <| zHg
def wz:FI:=⟨220208007379905674240,68,4⟩
def zh6:=qe Tryz.prog 29
def wI (l:List Nat):=zl zj wz (zI l zh6)
def zGB:=wI [0]
def zGp:=wI [1,0,0]
def zGI:=wI [1,0,1,0]
def zGM:=wI [1,0,1,1,0]
def zAI:=wI [1,0,1,1,1,0]
def zEr:=wI [1,0,1,1,1,1,1,0,0]
def zCc:=wI [1,0,1,1,1,1,1,0,1,0,0,0,0]
def zDi:=wI [1,0,1,1,1,1,1,0,1,0,0,1,0,0,0]
def zAs:=wI [1,0,1,1,1,1,1,0,1,0,0,1,0,0,1,0,0]
def zar:=zI [1,0,1,1,1,1,1,0,1,0,0,1,0,0,1,0,1,0] zh6
def zBB:=zl zj wz zar
def zk4:=zaD zj wz zar 29 1 [60,59,58,57,56,55,54,53,52,51,50,49,48,47,46,45,44,43,42,41,40,39,38,37,36,35,34,33,32]
def zd3:=zaD zj wz zar 28 1 [59,58,57,56,55,54,53,52,51,50,49,48,47,46,45,44,43,42,41,40,39,38,37,36,35,34,33,32]
def zbM:=zaD zj wz zar 24 4 [55,54,53,52,51,50,49,48,47,46,45,44,43,42,41,40,39,38,37,36,35,34,33,32]
def zeJ:=zaD zj wz zar 19 5 [50,49,48,47,46,45,44,43,42,41,40,39,38,37,36,35,34,33,32]
def zmD:=zaD zj wz zar 17 2 [48,47,46,45,44,43,42,41,40,39,38,37,36,35,34,33,32]
def zg0:=zaD zj wz zar 9 8 [40,39,38,37,36,35,34,33,32]
def zpU:=zaD zj wz zar 0 9 []
def zBd:=wI [1,0,1,1,1,1,1,0,1,0,0,1,0,0,1,0,1,1,0,0]
def zAS:=wI [1,0,1,1,1,1,1,0,1,0,0,1,0,0,1,1,0]
def zDn:=wI [1,0,1,1,1,1,1,0,1,0,0,1,0,0,1,1,1,0]
def zDu:=wI [1,0,1,1,1,1,1,0,1,0,0,1,1]
def ziU:=zI [1,0,1,1,1,1,1,0,1,0] zh6
def zdX:=zl zj wz ziU
def zAw:=wI [1,0,1,1,1,1,1,1,0]
def zGl:=zl zj wz zh6
def zHZ:=yi (ql zj wz (qz Tryz.prog 29)).run
theorem zK8 :
 ((((∀ r s x0,(fnC zj 29).run r [x0] s=qk (z7 (fun t s=>zHZ t s) (zGl.run r (sp 0 x0 T.new) s))) ∧
 ((∀ s t,zHZ t s=yW (gp 240 t) (yp [gp 2 t] s)) ∧
 (∀ r s t,zGl.run r t s=za (fun t s=>za (fun t s=>za (fun t s=>za (fun t s=>za (fun t s=>za (fun t s=>za (fun t s=>za (fun t s=>.ret t s) (zAw.run r t s)) (za (fun t s=>zE 0 (zdX.run r t s)) (zEr.run r t s))) (.nrm t s)) (zAI.run r t s)) (zGM.run r t s)) (zGI.run r t s)) (zGp.run r t s)) (zGB.run r t s)))) ∧
 (((∀ g r s t le,(zpU g).run r t (le) s=zB (gp 0 t) fun v1=>zf 1 v1 fun v2=>zd false 1 v2 s fun v3 s=>zf 0 (gp 8 t) fun v4=>zd false 1 v4 s fun v5 s=>zg 1 v3 v5 fun v6=>zd false 1 v6 s fun v7 s=>g.run r t (v7::v7::v6::v5::v4::v3::v2::v1::gp 0 t::le) s) ∧
 (∀ g r s t le,(zg0 g).run r t (.bool true::le) s=zB (gp 0 t) fun v10=>zf 1 v10 fun v11=>zd false 1 v11 s fun v12 s=>zf 1 (gp 8 t) fun v13=>zd false 1 v13 s fun v14 s=>zg 1 v12 v14 fun v15=>zd false 1 v15 s fun v16 s=>g.run r t (v16::v15::v14::v13::v12::v11::v10::gp 0 t::.bool true::le) s)) ∧
 ((∀ g r s t le,(zg0 g).run r t (.bool false::le) s=g.run r t (Go.Ev.undef::Go.Ev.undef::Go.Ev.undef::Go.Ev.undef::Go.Ev.undef::Go.Ev.undef::Go.Ev.undef::Go.Ev.undef::.bool false::le) s) ∧
 (∀ g r s t le x0 x1 x2 x3 x4 x5 x6 x7 x8,(zmD g).run r t (x0::x1::x2::x3::x4::x5::x6::x7::x8::le) s=qL x8 (fun _=>g.run r t (x0::x0::x0::x1::x2::x3::x4::x5::x6::x7::x8::le) s) (fun _=>g.run r t (V.bool false::V.bool false::x0::x1::x2::x3::x4::x5::x6::x7::x8::le) s))))) ∧
 ((((∀ g r s t le,(zeJ g).run r t (.bool true::le) s=zf 0 (gp 9 t) fun v19=>zd false 1 v19 s fun v20 s=>zz v20 fun v21=>zk ⟨9,[]⟩ false .gtr v21 (V.nat .i64 0) fun v22=>g.run r t (v22::v22::v21::v20::v19::.bool true::le) s) ∧
 (∀ g r s t le,(zeJ g).run r t (.bool false::le) s=g.run r t (Go.Ev.undef::Go.Ev.undef::Go.Ev.undef::Go.Ev.undef::Go.Ev.undef::.bool false::le) s)) ∧
 ((∀ g r s t le,(zbM g).run r t (.bool true::le) s=g.run r t (Go.Ev.undef::Go.Ev.undef::Go.Ev.undef::Go.Ev.undef::.bool true::le) s) ∧
 (∀ g r s t le,(zbM g).run r t (.bool false::le) s=zf 1 (gp 9 t) fun v24=>zd false 1 v24 s fun v25 s=>zz v25 fun v26=>zk ⟨9,[]⟩ false .gtr v26 (V.nat .i64 0) fun v27=>g.run r t (v27::v26::v25::v24::.bool false::le) s))) ∧
 (((∀ g r s t le,(zbM g).run r t (Go.Ev.undef::le) s=g.run r t (Go.Ev.undef::Go.Ev.undef::Go.Ev.undef::Go.Ev.undef::Go.Ev.undef::le) s) ∧
 (∀ g r s t le x0 x1 x2 x3 x4 x5 x6 x7 x8,(zd3 g).run r t (x0::x1::x2::x3::x4::x5::x6::x7::x8::.bool true::le) s=qL x4 (fun _=>g.run r t (V.bool true::x0::x1::x2::x3::x4::x5::x6::x7::x8::.bool true::le) s) (fun _=>g.run r t (x0::x0::x1::x2::x3::x4::x5::x6::x7::x8::.bool true::le) s))) ∧
 ((∀ g r s t le x0 x1 x2 x3 x4 x5 x6 x7 x8,(zd3 g).run r t (x0::x1::x2::x3::x4::x5::x6::x7::x8::.bool false::le) s=g.run r t (Go.Ev.undef::x0::x1::x2::x3::x4::x5::x6::x7::x8::.bool false::le) s) ∧
 (∀ g r s t le x0 x1 x2 x3 x4 x5 x6 x7 x8 x9 x10,(zk4 g).run r t (x0::x1::x2::x3::x4::x5::x6::x7::x8::x9::x10::le) s=qL x10 (fun _=>g.run r (sp 11 x0 t) (x0::x0::x1::x2::x3::x4::x5::x6::x7::x8::x9::x10::le) s) (fun _=>g.run r (sp 11 (V.bool false) t) (V.bool false::x0::x1::x2::x3::x4::x5::x6::x7::x8::x9::x10::le) s)))))):=by
 and_intros<;>(intros;kernel_rfl)
theorem zCg:∀ r s t,zGB.run r t s=.nrm (sp 2 (V.bool false) t) s:=ze 1
theorem zAt:∀ r s t,zGp.run r t s=zD (r.call 55 [gp 0 t] s) fun v1 s=>Go.Ev.newRow s 104 [V.nil 2] false fun a2k _ s=>zJ 1 (V.ptr a2k 0 0) v1 s fun _ s=>.nrm (sp 3 (V.ptr a2k 0 0) t) s:=ze 4
theorem zCY:∀ r s t,zGI.run r t s=jU s (.map [] 0) fun a0k s=>zp 1 (V.nat .i64 0) fun x1_0=>qY x1_0 0 [V.nat .i64 0,V.nat .i64 0] fun l1_0=>zp 1 (V.nat .i64 0) fun x1_1=>qY x1_1 1 l1_0 fun l1_1=>qw ⟨6,[7,7]⟩ (V.ref 0 a0k) (V.ls 0 l1_1) (V.ls 0 [V.nil 1,V.nil 1]) s fun _ s=>Go.Ev.newRow s 110 [V.nil 2] false fun a5k _ s=>zJ 1 (V.ptr a5k 0 0) (V.ref 0 a0k) s fun _ s=>.nrm (sp 4 (V.ptr a5k 0 0) t) s:=ze 7
theorem zAW:∀ r s t,zGM.run r t s=zp 1 (V.nat .i64 0) fun x0_0=>qY x0_0 0 [V.nat .i64 0,V.nat .i64 0] fun l0_0=>zp 1 (V.nat .i64 0) fun x0_1=>qY x0_1 1 l0_0 fun l0_1=>j4 [V.nat .i64 0,V.nat .i64 0] 1 fun l1z=>zp 2 (V.ls 0 l0_1) fun x1_0=>qY x1_0 0 l1z fun l1_0=>Go.Ev.newRow s 107 l1_0 false fun a1k _ s=>Go.Ev.newRow s 111 [V.nil 1] false fun a2k _ s=>zJ 1 (V.ptr a2k 0 0) (V.sl a1k 0 0 1 1) s fun _ s=>.nrm (sp 5 (V.ptr a2k 0 0) t) s:=ze 4
theorem zt5:∀ r s t,zAI.run r t s=Go.Ev.newRow s 4 [V.bool false] false fun a0k _ s=>zJ 1 (V.ptr a0k 0 0) (V.bool true) s fun _ s=>.nrm (sp 6 (V.ptr a0k 0 0) t) s:=ze 2
theorem zuu:∀ r s t,zEr.run r t s=.nrm (sp 7 (V.nat .i64 0) t) s:=ze 1
theorem zwd:∀ r s t,zCc.run r t s=zd false 1 (gp 5 t) s fun v1 s=>zz v1 fun v2=>zk ⟨9,[]⟩ false .lss (gp 7 t) v2 fun v3=>.nrm (sp 10 v3 t) s:=ze 4
theorem ztY:∀ r s t,zDi.run r t s=zd false 1 (gp 5 t) s fun v0 s=>zg 2 v0 (gp 7 t) fun v2=>zd true 2 v2 s fun v3 s=>Go.Ev.newRow s 107 [V.nat .i64 0,V.nat .i64 0] false fun a4k _ s=>zJ 2 (V.ptr a4k 0 0) v3 s fun _ s=>.nrm (sp 8 (V.ptr a4k 0 0) t) s:=ze 6
theorem zvF:∀ r s t,zAs.run r t s=zd false 1 (gp 4 t) s fun v0 s=>zd true 2 (gp 8 t) s fun v1 s=>z4 ⟨6,[7,7]⟩ (V.ls 0 [V.nil 1,V.nil 1]) false v0 v1 s fun v2=>Go.Ev.newRow s 109 [V.nil 1,V.nil 1] false fun a3k _ s=>zJ 2 (V.ptr a3k 0 0) v2 s fun _ s=>.nrm (sp 9 (V.ptr a3k 0 0) t) s:=ze 5
theorem zwU:∀ r s t,zBB.run r t s=(zpU (zg0 (zmD (zeJ (zbM (zd3 (zk4 yk))))))).run r.det t [] s:=zcb (by kernel_rfl) (zdQ rfl (by kernel_rfl) (zdQ rfl (by kernel_rfl) (zdQ rfl (by kernel_rfl) (zdQ rfl (by kernel_rfl) (zdQ rfl (by kernel_rfl) (zdQ rfl (by kernel_rfl) zKO))))))
theorem zt4:∀ r s t,zBd.run r t s=zJ 1 (gp 6 t) (V.bool false) s fun _ s=>.nrm t s:=ze 1
theorem zxA:∀ r s t,zAS.run r t s=zd true 2 (gp 8 t) s fun v1 s=>zD (r.call 56 [gp 0 t,v1,(V.fn (.func 57) [] [gp 3 t,gp 4 t,gp 8 t,gp 6 t,gp 5 t])] s) fun _ s=>.nrm t s:=ze 4
theorem zwq:∀ r s t,zDn.run r t s=zd false 1 (gp 6 t) s fun v0 s=>xUn .not v0 fun v1=>.nrm (sp 12 v1 t) s:=ze 2
theorem zu1:∀ r s t,zDu.run r t s=zk ⟨9,[]⟩ false .add (gp 7 t) (V.nat .i64 1) fun v1=>.nrm (sp 7 v1 t) s:=ze 3
theorem zub:∀ r s t,zAw.run r t s=zd false 1 (gp 6 t) s fun v0 s=>.nrm (sp 2 v0 t) s:=ze 2
theorem zJa:z3 ziU=84:=by kernel_rfl
theorem jG:∀ r s t,zdX.run r t s=za (fun t s=>r.code wz ziU t s) (za (fun t s=>za (fun t s=>zDu.run r t s) (zE 1 (za (fun t s=>za (fun t s=>za (fun t s=>za (fun t s=>zu (gp 12 t) (.ext 0 t s) (.nrm t s)) (zDn.run r t s)) (zAS.run r t s)) (za (fun t s=>za (fun t s=>zu (gp 11 t) (za (fun t s=>.ext 0 t s) (zBd.run r t s)) (.nrm t s)) (zBB.run r t s)) (zAs.run r t s))) (zDi.run r t s)))) (za (fun t s=>zu (gp 10 t) (.nrm t s) (.ext 0 t s)) (zCc.run r t s))):=by intros;kernel_rfl
theorem zak:type_of% (aI zCg <| aI zAt <| aI zCY <| aI zAW <| aI zt5 <| aI zuu <| aI zwd <| aI ztY <| aI zvF <| aI zwU <| aI zt4 <| aI zxA <| aI zwq <| aI zu1 <| aI zub <| zK8):=aI zCg <| aI zAt <| aI zCY <| aI zAW <| aI zt5 <| aI zuu <| aI zwd <| aI ztY <| aI zvF <| aI zwU <| aI zt4 <| aI zxA <| aI zwq <| aI zu1 <| aI zub <| zK8
def zh4:FI:=⟨134217440,27,4⟩
def zjG:=qe Tryz.prog 30
def zdz (l:List Nat):=zl zj zh4 (zI l zjG)
def zDG:=zdz [0]
def zAV:=zdz [1,0]
def zBo:=zdz [1,1,0,0]
def zvo:=zdz [1,1,0,1,0,0,0,0]
def zvR:=zdz [1,1,0,1,0,0,1,0,0]
def zwJ:=zdz [1,1,0,1,0,0,1,1]
def zsk:=zI [1,1,0,1,0] zjG
def zeU:=zl zj zh4 zsk
def zwA:=zdz [1,1,1,0]
def zCq:=zl zj zh4 zjG
def zD0:=yi (ql zj zh4 (qz Tryz.prog 30)).run
theorem zGm :
 ((∀ r s x0,(fnC zj 30).run r [x0] s=qk (z7 (fun t s=>zD0 t s) (zCq.run r (sp 0 x0 T.new) s))) ∧
 ((∀ s t,zD0 t s=yW (gp 240 t) (yp [gp 2 t] s)) ∧
 (∀ r s t,zCq.run r t s=za (fun t s=>za (fun t s=>za (fun t s=>za (fun t s=>.ret t s) (zwA.run r t s)) (za (fun t s=>zE 0 (zeU.run r t s)) (zBo.run r t s))) (zAV.run r t s)) (zDG.run r t s)))):=by
 and_intros<;>(intros;kernel_rfl)
theorem zyN:∀ r s t,zDG.run r t s=.nrm (sp 2 (V.nat .i64 0) t) s:=ze 1
theorem zw3:∀ r s t,zAV.run r t s=.nrm (sp 3 (V.nat .i64 0) t) s:=ze 1
theorem zww:∀ r s t,zBo.run r t s=.nrm (sp 4 (V.nat .i64 0) t) s:=ze 1
theorem zp0:∀ r s t,zvo.run r t s=zz (gp 0 t) fun v2=>zk ⟨9,[]⟩ false .lss (gp 4 t) v2 fun v3=>.nrm (sp 5 v3 t) s:=ze 4
theorem znU:∀ r s t,zvR.run r t s=zg 2 (gp 0 t) (gp 4 t) fun v3=>zf 0 v3 fun v4=>zd false 1 v4 s fun v5 s=>zz v5 fun v6=>zk ⟨9,[]⟩ false .add (gp 3 t) v6 fun v7=>zg 2 (gp 0 t) (gp 4 t) fun v10=>zf 1 v10 fun v11=>zd false 1 v11 s fun v12 s=>zz v12 fun v13=>zk ⟨9,[]⟩ false .add v7 v13 fun v14=>.nrm (sp 3 v14 t) s:=zaq 16
theorem zpA:∀ r s t,zwJ.run r t s=zk ⟨9,[]⟩ false .add (gp 4 t) (V.nat .i64 1) fun v1=>.nrm (sp 4 v1 t) s:=ze 3
theorem zos:∀ r s t,zwA.run r t s=.nrm (sp 2 (gp 3 t) t) s:=ze 2
theorem zIu:z3 zsk=34:=by kernel_rfl
theorem ztZ:∀ r s t,zeU.run r t s=za (fun t s=>r.code zh4 zsk t s) (za (fun t s=>za (fun t s=>zwJ.run r t s) (zE 1 (zvR.run r t s))) (za (fun t s=>zu (gp 5 t) (.nrm t s) (.ext 0 t s)) (zvo.run r t s))):=by intros;kernel_rfl
theorem zq4:type_of% (aI zyN <| aI zw3 <| aI zww <| aI zp0 <| aI znU <| aI zpA <| aI zos <| zGm):=aI zyN <| aI zw3 <| aI zww <| aI zp0 <| aI znU <| aI zpA <| aI zos <| zGm
def w8:FI:=⟨68215103488,36,4⟩
def zbU:=qe Tryz.prog 52
def qQ (l:List Nat):=zl zj w8 (zI l zbU)
def zpO:=qQ [0]
def zni:=qQ [1,0]
def zoo:=qQ [1,1,0,0]
def zmn:=qQ [1,1,0,1,0,0,0]
def zkr:=qQ [1,1,0,1,0,0,1,1,0,0,0]
def zlC:=qQ [1,1,0,1,0,0,1,1,0,0,1,0]
def zl0:=qQ [1,1,0,1,0,0,1,1,0,0,1,1,0]
def zCl:=qQ [1,1,0,1,0,0,1,1,0,0,1,1,1,0]
def zkA:=qQ [1,1,0,1,0,0,1,1,1]
def zgf:=zI [1,1,0,1,0] zbU
def zbn:=zl zj w8 zgf
def zk3:=qQ [1,1,1,0]
def zl2:=qQ [1,1,1,1,0,0]
def zkf:=qQ [1,1,1,1,0,1,0,0,0]
def zkw:=qQ [1,1,1,1,0,1,0,0,1,1,0,0,0]
def zlk:=qQ [1,1,1,1,0,1,0,0,1,1,0,0,1]
def zmo:=qQ [1,1,1,1,0,1,0,0,1,1,1]
def zeD:=zI [1,1,1,1,0,1,0] zbU
def zav:=zl zj w8 zeD
def zkZ:=qQ [1,1,1,1,1,0]
def zo1:=zl zj w8 zbU
def zps:=yi (ql zj w8 (qz Tryz.prog 52)).run
theorem zyh :
 ((∀ r s x0,(fnC zj 52).run r [x0] s=qk (z7 (fun t s=>zps t s) (zo1.run r (sp 0 x0 T.new) s))) ∧
 ((∀ s t,zps t s=yW (gp 240 t) (yp [gp 2 t] s)) ∧
 (∀ r s t,zo1.run r t s=za (fun t s=>za (fun t s=>za (fun t s=>za (fun t s=>za (fun t s=>za (fun t s=>.ret t s) (zkZ.run r t s)) (za (fun t s=>zE 2 (zav.run r t s)) (zl2.run r t s))) (zk3.run r t s)) (za (fun t s=>zE 0 (zbn.run r t s)) (zoo.run r t s))) (zni.run r t s)) (zpO.run r t s)))):=by
 and_intros<;>(intros;kernel_rfl)
theorem zlH:∀ r s t,zpO.run r t s=.nrm (sp 2 (V.nil 1) t) s:=ze 1
theorem zmm:∀ r s t,zni.run r t s=.nrm (sp 3 (V.nat .i64 0) t) s:=ze 1
theorem zl9:∀ r s t,zoo.run r t s=zz (gp 0 t) fun v1=>.nrm (sp 11 (V.nat .i64 0) (sp 10 v1 (sp 9 (gp 0 t) t))) s:=ze 3
theorem zhV:∀ r s t,zmn.run r t s=zk ⟨9,[]⟩ false .lss (gp 11 t) (gp 10 t) fun v0=>.nrm (sp 12 v0 t) s:=ze 1
theorem ziT:∀ r s t,zkr.run r t s=zg 1 (gp 9 t) (gp 11 t) fun v0=>zd false 1 v0 s fun v1 s=>.nrm (sp 5 v1 t) s:=ze 3
theorem zhk:∀ r s t,zlC.run r t s=zz (gp 5 t) fun v2=>zk ⟨9,[]⟩ false .add (gp 3 t) v2 fun v3=>.nrm (sp 3 v3 t) s:=ze 5
theorem zhK:∀ r s t,zl0.run r t s=zk ⟨9,[]⟩ false .lss (gp 3 t) (V.nat .i64 0) fun v1=>.nrm (sp 13 v1 t) s:=ze 2
theorem zhU:∀ r s t,zkA.run r t s=zk ⟨9,[]⟩ false .add (gp 11 t) (V.nat .i64 1) fun v0=>.nrm (sp 11 v0 t) s:=ze 2
theorem zio:∀ r s t,zk3.run r t s=zD (r.call 93 [V.nil 1,gp 3 t] s) fun v1 s=>.nrm (sp 6 v1 t) s:=ze 3
theorem zij:∀ r s t,zl2.run r t s=zz (gp 0 t) fun v1=>.nrm (sp 16 (V.nat .i64 0) (sp 15 v1 (sp 14 (gp 0 t) t))) s:=ze 3
theorem zhm:∀ r s t,zkf.run r t s=zk ⟨9,[]⟩ false .lss (gp 16 t) (gp 15 t) fun v0=>.nrm (sp 17 v0 t) s:=ze 1
theorem zi5:∀ r s t,zkw.run r t s=zg 1 (gp 14 t) (gp 16 t) fun v0=>zd false 1 v0 s fun v1 s=>.nrm (sp 8 v1 t) s:=ze 3
theorem ziq:∀ r s t,zlk.run r t s=zP 3 1 (gp 6 t) (gp 8 t) s fun v2 s=>.nrm (sp 6 v2 t) s:=ze 4
theorem zhd:∀ r s t,zmo.run r t s=zk ⟨9,[]⟩ false .add (gp 16 t) (V.nat .i64 1) fun v0=>.nrm (sp 16 v0 t) s:=ze 2
theorem zhu:∀ r s t,zkZ.run r t s=.nrm (sp 2 (gp 6 t) t) s:=ze 2
theorem zCH:z3 zgf=34:=by kernel_rfl
theorem zz8:z3 zeD=23:=by kernel_rfl
theorem zkQ:∀ r s t,zbn.run r t s=za (fun t s=>r.code w8 zgf t s) (za (fun t s=>za (fun t s=>za (fun t s=>zkA.run r t s) (zE 1 (za (fun t s=>za (fun t s=>za (fun t s=>zu (gp 13 t) (zCl.run r t s) (.nrm t s)) (zl0.run r t s)) (zlC.run r t s)) (zkr.run r t s)))) (zu (gp 12 t) (.nrm t s) (.ext 0 t s))) (zmn.run r t s)):=by intros;kernel_rfl
theorem zhS:∀ r s t,zav.run r t s=za (fun t s=>r.code w8 zeD t s) (za (fun t s=>za (fun t s=>za (fun t s=>zmo.run r t s) (zE 3 (za (fun t s=>zlk.run r t s) (zkw.run r t s)))) (zu (gp 17 t) (.nrm t s) (.ext 2 t s))) (zkf.run r t s)):=by intros;kernel_rfl
theorem zbp:type_of% (aI zlH <| aI zmm <| aI zl9 <| aI zhV <| aI ziT <| aI zhk <| aI zhK <| aI zhU <| aI zio <| aI zij <| aI zhm <| aI zi5 <| aI ziq <| aI zhd <| aI zhu <| zyh):=aI zlH <| aI zmm <| aI zl9 <| aI zhV <| aI ziT <| aI zhk <| aI zhK <| aI zhU <| aI zio <| aI zij <| aI zhm <| aI zi5 <| aI ziq <| aI zhd <| aI zhu <| zyh
def zix:FI:=⟨2251250057377792,51,4⟩
def zjI:=qe Tryz.prog 53
def ja (l:List Nat):=zl zj zix (zI l zjI)
def zBU:=ja [0]
def zEL:=ja [1,0]
def zCX:=ja [1,1,0]
def zED:=ja [1,1,1,0]
def zt7:=ja [1,1,1,1,0,0]
def zyV:=ja [1,1,1,1,0,1,0,0,0]
def zxG:=ja [1,1,1,1,0,1,0,0,1,1,0,0,0]
def zxz:=ja [1,1,1,1,0,1,0,0,1,1,0,0,1]
def zxt:=ja [1,1,1,1,0,1,0,0,1,1,1]
def zjY:=zI [1,1,1,1,0,1,0] zjI
def zcA:=zl zj zix zjY
def zu6:=ja [1,1,1,1,1,0,0]
def zxP:=ja [1,1,1,1,1,0,1,0]
def zyI:=ja [1,1,1,1,1,0,1,1,0,0]
def zui:=ja [1,1,1,1,1,1,0]
def zxJ:=ja [1,1,1,1,1,1,1,0]
def zvz:=ja [1,1,1,1,1,1,1,1,0]
def zAu:=zl zj zix zjI
def zBZ:=yi (ql zj zix (qz Tryz.prog 53)).run
theorem zHr :
 ((∀ r s x0 x1,(fnC zj 53).run r [x0,x1] s=qk (z7 (fun t s=>zBZ t s) (zAu.run r (sp 1 x1 (sp 0 x0 T.new)) s))) ∧
 ((∀ s t,zBZ t s=yW (gp 240 t) (yp [gp 4 t] s)) ∧
 (∀ r s t,zAu.run r t s=za (fun t s=>za (fun t s=>za (fun t s=>za (fun t s=>za (fun t s=>za (fun t s=>za (fun t s=>za (fun t s=>za (fun t s=>.ret t s) (zvz.run r t s)) (zxJ.run r t s)) (zui.run r t s)) (za (fun t s=>za (fun t s=>zu (gp 15 t) (za (fun t s=>.ret t s) (zyI.run r t s)) (.nrm t s)) (zxP.run r t s)) (zu6.run r t s))) (za (fun t s=>zE 0 (zcA.run r t s)) (zt7.run r t s))) (zED.run r t s)) (zCX.run r t s)) (zEL.run r t s)) (zBU.run r t s)))):=by
 and_intros<;>(intros;kernel_rfl)
theorem zwj:∀ r s t,zBU.run r t s=.nrm (sp 4 (V.nat .i64 0) t) s:=ze 1
theorem zwO:∀ r s t,zEL.run r t s=zD (r.call 94 [gp 1 t,(V.fn (.func 95) [] [])] s) fun _ s=>.nrm t s:=ze 2
theorem zuk:∀ r s t,zCX.run r t s=zD (r.call 96 [gp 1 t] s) fun v1 s=>.nrm (sp 1 v1 t) s:=ze 3
theorem zuF:∀ r s t,zED.run r t s=.nrm (sp 5 (V.str []) t) s:=ze 1
theorem znF:∀ r s t,zt7.run r t s=zz (gp 1 t) fun v1=>.nrm (sp 13 (V.nat .i64 0) (sp 12 v1 (sp 11 (gp 1 t) t))) s:=ze 3
theorem zrE:∀ r s t,zyV.run r t s=zk ⟨9,[]⟩ false .lss (gp 13 t) (gp 12 t) fun v0=>.nrm (sp 14 v0 t) s:=ze 1
theorem zs5:∀ r s t,zxG.run r t s=zg 1 (gp 11 t) (gp 13 t) fun v0=>zd false 1 v0 s fun v1 s=>.nrm (sp 7 v1 t) s:=ze 3
theorem zsu:∀ r s t,zxz.run r t s=zB (gp 7 t) fun v2=>zf 2 v2 fun v3=>zd false 1 v3 s fun v4 s=>zD (r.call 97 [v4] s) fun v5 s=>zk ⟨9,[]⟩ false .add v5 (V.str [32]) fun v6=>zk ⟨9,[]⟩ false .add (gp 5 t) v6 fun v7=>.nrm (sp 5 v7 t) s:=ze 9
theorem zo4:∀ r s t,zxt.run r t s=zk ⟨9,[]⟩ false .add (gp 13 t) (V.nat .i64 1) fun v0=>.nrm (sp 13 v0 t) s:=ze 2
theorem zr8:∀ r s t,zu6.run r t s=zB (gp 0 t) fun v1=>zf 3 v1 fun v2=>zd false 1 v2 s fun v3 s=>z4 ⟨8,[]⟩ (V.nat .i64 0) true v3 (gp 5 t) s fun v5=>zU 0 v5 fun v7=>zU 1 v5 fun v8=>.nrm (sp 9 v8 (sp 8 v7 t)) s:=ze 11
theorem zsa:∀ r s t,zxP.run r t s=.nrm (sp 15 (gp 9 t) t) s:=ze 1
theorem zqW:∀ r s t,zyI.run r t s=.nrm (sp 4 (gp 8 t) t) s:=ze 2
theorem zrA:∀ r s t,zui.run r t s=zD (r.call 98 [gp 0 t,V.bool true,gp 1 t] s) fun v2 s=>.nrm (sp 10 v2 t) s:=ze 4
theorem zqc:∀ r s t,zxJ.run r t s=zB (gp 0 t) fun v1=>zf 3 v1 fun v2=>zd false 1 v2 s fun v3 s=>qw ⟨8,[]⟩ v3 (gp 5 t) (gp 10 t) s fun _ s=>.nrm t s:=ze 7
theorem znT:∀ r s t,zvz.run r t s=.nrm (sp 4 (gp 10 t) t) s:=ze 2
theorem zE1:z3 zjY=28:=by kernel_rfl
theorem znJ:∀ r s t,zcA.run r t s=za (fun t s=>r.code zix zjY t s) (za (fun t s=>za (fun t s=>za (fun t s=>zxt.run r t s) (zE 1 (za (fun t s=>zxz.run r t s) (zxG.run r t s)))) (zu (gp 14 t) (.nrm t s) (.ext 0 t s))) (zyV.run r t s)):=by intros;kernel_rfl
theorem zsK:type_of% (aI zwj <| aI zwO <| aI zuk <| aI zuF <| aI znF <| aI zrE <| aI zs5 <| aI zsu <| aI zo4 <| aI zr8 <| aI zsa <| aI zqW <| aI zrA <| aI zqc <| aI znT <| zHr):=aI zwj <| aI zwO <| aI zuk <| aI zuF <| aI znF <| aI zrE <| aI zs5 <| aI zsu <| aI zo4 <| aI zr8 <| aI zsa <| aI zqW <| aI zrA <| aI zqc <| aI znT <| zHr
def ws:FI:=⟨40564816780594953975647513346048,105,4⟩
def zcl:=qe Tryz.prog 54
def qo (l:List Nat):=zl zj ws (zI l zcl)
def zBM:=qo [0]
def zA4:=qo [1,0,0]
def zDN:=qo [1,0,1,0,0,0]
def zxX:=qo [1,0,1,0,0,1,1,0,0,0]
def zxH:=qo [1,0,1,0,0,1,1,0,0,1,0]
def zvu:=qo [1,0,1,0,0,1,1,0,0,1,1,0,0]
def zwQ:=qo [1,0,1,0,0,1,1,0,0,1,1,0,1,0,0,0]
def zw0:=qo [1,0,1,0,0,1,1,0,0,1,1,0,1,0,0,1,1,0,0,0]
def zxZ:=qo [1,0,1,0,0,1,1,0,0,1,1,0,1,0,0,1,1,0,0,1,0,0]
def zuW:=qo [1,0,1,0,0,1,1,0,0,1,1,0,1,0,0,1,1,0,0,1,0,1,0]
def zv0:=qo [1,0,1,0,0,1,1,0,0,1,1,0,1,0,0,1,1,0,0,1,1,0,0]
def zu9:=qo [1,0,1,0,0,1,1,0,0,1,1,0,1,0,0,1,1,0,0,1,1,1]
def zxO:=qo [1,0,1,0,0,1,1,0,0,1,1,0,1,0,0,1,1,1]
def zfd:=zI [1,0,1,0,0,1,1,0,0,1,1,0,1,0] zcl
def zcM:=zl zj ws zfd
def zwf:=qo [1,0,1,0,0,1,1,0,0,1,1,1]
def zuR:=qo [1,0,1,0,0,1,1,1]
def zn2:=zI [1,0,1,0] zcl
def zew:=zl zj ws zn2
def zvi:=qo [1,1,0,0]
def zwt:=qo [1,1,0,1,0]
def zts:=qo [1,1,1,0]
def zx9:=qo [1,1,1,1,0]
def zuT:=qo [1,1,1,1,1,0,0,0]
def zuo:=qo [1,1,1,1,1,0,0,1,1,0,0,0]
def ztH:=qo [1,1,1,1,1,0,0,1,1,0,0,1,0]
def zyU:=qo [1,1,1,1,1,0,0,1,1,0,0,1,1,0,0]
def zx1:=qo [1,1,1,1,1,0,0,1,1,0,0,1,1,0,1,0]
def zyp:=qo [1,1,1,1,1,0,0,1,1,0,0,1,1,1,0]
def ztK:=qo [1,1,1,1,1,0,0,1,1,0,0,1,1,1,1]
def zxg:=qo [1,1,1,1,1,0,0,1,1,1]
def zfc:=zI [1,1,1,1,1,0] zcl
def zad:=zl zj ws zfc
def zBe:=zl zj ws zcl
def zEb:=yi (ql zj ws (qz Tryz.prog 54)).run
theorem zGV :
 ((∀ r s x0 x1 x2 x3 x4,(fnC zj 54).run r [x0,x1,x2,x3,x4] s=qk (z7 (fun t s=>zEb t s) (zBe.run r (sp 4 x4 (sp 3 x3 (sp 2 x2 (sp 1 x1 (sp 0 x0 T.new))))) s))) ∧
 ((∀ s t,zEb t s=yW (gp 240 t) (yp [] s)) ∧
 (∀ r s t,zBe.run r t s=za (fun t s=>za (fun t s=>za (fun t s=>za (fun t s=>za (fun t s=>zE 4 (zad.run r t s)) (zx9.run r t s)) (zts.run r t s)) (za (fun t s=>zu (gp 30 t) (zwt.run r t s) (.nrm t s)) (zvi.run r t s))) (za (fun t s=>zE 0 (zew.run r t s)) (zA4.run r t s))) (zBM.run r t s)))):=by
 and_intros<;>(intros;kernel_rfl)
theorem ztL:∀ r s t,zBM.run r t s=zB (gp 0 t) fun v1=>zf 2 v1 fun v2=>zd false 1 v2 s fun v3 s=>zg 1 v3 (gp 1 t) fun v5=>zd false 1 v5 s fun v6 s=>zD (r.call 99 [v6] s) fun v7 s=>.nrm (sp 10 v7 t) s:=ze 9
theorem zux:∀ r s t,zA4.run r t s=zz (gp 2 t) fun v1=>.nrm (sp 22 (V.nat .i64 0) (sp 21 v1 (sp 20 (gp 2 t) t))) s:=ze 3
theorem zwH:∀ r s t,zDN.run r t s=zk ⟨9,[]⟩ false .lss (gp 22 t) (gp 21 t) fun v0=>.nrm (sp 23 v0 t) s:=ze 1
theorem zqV:∀ r s t,zxX.run r t s=zg 1 (gp 20 t) (gp 22 t) fun v0=>zd false 1 v0 s fun v1 s=>.nrm (sp 12 v1 t) s:=ze 3
theorem zpC:∀ r s t,zxH.run r t s=.nrm (sp 13 (V.nil 1) t) s:=ze 1
theorem znt:∀ r s t,zvu.run r t s=zz (gp 10 t) fun v1=>.nrm (sp 26 (V.nat .i64 0) (sp 25 v1 (sp 24 (gp 10 t) t))) s:=ze 3
theorem zpi:∀ r s t,zwQ.run r t s=zk ⟨9,[]⟩ false .lss (gp 26 t) (gp 25 t) fun v0=>.nrm (sp 27 v0 t) s:=ze 1
theorem zqe:∀ r s t,zw0.run r t s=zg 1 (gp 24 t) (gp 26 t) fun v0=>zd false 1 v0 s fun v1 s=>.nrm (sp 15 v1 t) s:=ze 3
theorem zpG:∀ r s t,zxZ.run r t s=zB (gp 15 t) fun v1=>zf 0 v1 fun v2=>zd false 1 v2 s fun v3 s=>z4 ⟨7,[]⟩ (V.nil 0) false v3 (gp 12 t) s fun v5=>.nrm (sp 15 v5 t) s:=ze 7
theorem zqB:∀ r s t,zuW.run r t s=zk ⟨1,[]⟩ true .eql (gp 15 t) (V.nil 0) fun v1=>.nrm (sp 28 v1 t) s:=ze 2
theorem zoz:∀ r s t,zv0.run r t s=zB (gp 15 t) fun v1=>zf 1 v1 fun v2=>zd false 1 v2 s fun v3 s=>zk ⟨9,[]⟩ false .geq v3 (V.nat .i64 0) fun v4=>.nrm (sp 29 v4 t) s:=ze 5
theorem zpM:∀ r s t,zu9.run r t s=j4 [V.nil 0] 1 fun l2z=>zp 1 (gp 15 t) fun x2_0=>qY x2_0 0 l2z fun l2_0=>Go.Ev.newRow s 66 l2_0 false fun a2k _ s=>zP 66 1 (gp 13 t) (V.sl a2k 0 0 1 1) s fun v3 s=>.nrm (sp 13 v3 t) s:=ze 5
theorem zoS:∀ r s t,zxO.run r t s=zk ⟨9,[]⟩ false .add (gp 26 t) (V.nat .i64 1) fun v0=>.nrm (sp 26 v0 t) s:=ze 2
theorem zr3:∀ r s t,zwf.run r t s=.nrm (sp 10 (gp 13 t) t) s:=ze 2
theorem zpx:∀ r s t,zuR.run r t s=zk ⟨9,[]⟩ false .add (gp 22 t) (V.nat .i64 1) fun v0=>.nrm (sp 22 v0 t) s:=ze 2
theorem zq2:∀ r s t,zvi.run r t s=zk ⟨1,[]⟩ true .neq (gp 4 t) (V.nil 0) fun v1=>.nrm (sp 30 v1 t) s:=ze 2
theorem zrn:∀ r s t,zwt.run r t s=j4 [V.nil 0] 1 fun l2z=>zp 1 (gp 4 t) fun x2_0=>qY x2_0 0 l2z fun l2_0=>Go.Ev.newRow s 66 l2_0 false fun a2k _ s=>zP 66 1 (gp 10 t) (V.sl a2k 0 0 1 1) s fun v3 s=>.nrm (sp 10 v3 t) s:=ze 5
theorem zn3:∀ r s t,zts.run r t s=zD (r.call 53 [gp 0 t,gp 10 t] s) fun v2 s=>.nrm (sp 16 v2 t) s:=ze 4
theorem zqO:∀ r s t,zx9.run r t s=zz (gp 3 t) fun v1=>.nrm (sp 33 (V.nat .i64 0) (sp 32 v1 (sp 31 (gp 3 t) t))) s:=ze 3
theorem zow:∀ r s t,zuT.run r t s=zk ⟨9,[]⟩ false .lss (gp 33 t) (gp 32 t) fun v0=>.nrm (sp 34 v0 t) s:=ze 1
theorem zsA:∀ r s t,zuo.run r t s=zg 1 (gp 31 t) (gp 33 t) fun v1=>zd false 1 v1 s fun v2 s=>.nrm (sp 18 v2 (sp 17 (gp 33 t) t)) s:=ze 5
theorem zoV:∀ r s t,ztH.run r t s=.nrm (sp 19 (gp 16 t) t) s:=ze 2
theorem zrD:∀ r s t,zyU.run r t s=zz (gp 3 t) fun v2=>zk ⟨9,[]⟩ false .sub v2 (V.nat .i64 1) fun v3=>zk ⟨9,[]⟩ false .lss (gp 17 t) v3 fun v4=>.nrm (sp 35 v4 t) s:=ze 5
theorem zqZ:∀ r s t,zx1.run r t s=zD (r.call 98 [gp 0 t,V.bool false,V.nil 1] s) fun v1 s=>.nrm (sp 19 v1 t) s:=ze 3
theorem zo5:∀ r s t,zyp.run r t s=zB (gp 0 t) fun v1=>zf 0 v1 fun v2=>zd false 1 v2 s fun v3 s=>zB (gp 0 t) fun v6=>zf 0 v6 fun v7=>zd false 1 v7 s fun v8 s=>zg 1 v8 (gp 1 t) fun v10=>zd false 1 v10 s fun v11 s=>zp 1 (gp 2 t) fun x15_0=>qY x15_0 0 [V.nil 1,V.nat .i64 0,V.nat .i64 0] fun l15_0=>zp 1 (gp 18 t) fun x15_1=>qY x15_1 1 l15_0 fun l15_1=>zp 1 (gp 19 t) fun x15_2=>qY x15_2 2 l15_1 fun l15_2=>j4 [V.nil 1,V.nat .i64 0,V.nat .i64 0] 1 fun l16z=>zp 3 (V.ls 0 l15_2) fun x16_0=>qY x16_0 0 l16z fun l16_0=>Go.Ev.newRow s 180 l16_0 false fun a16k _ s=>zP 180 3 v11 (V.sl a16k 0 0 1 1) s fun v17 s=>zd false 1 v2 s fun v18 s=>zet (yS v18 v3) (zg 1 v3 (gp 1 t) fun v19=>zJ 1 v19 v17 s fun _ s=>.nrm t s) eA:=zaq 21
theorem zsR:∀ r s t,ztK.run r t s=.nrm (sp 2 (V.nil 1) (sp 1 (gp 19 t) t)) s:=ze 3
theorem zn8:∀ r s t,zxg.run r t s=zk ⟨9,[]⟩ false .add (gp 33 t) (V.nat .i64 1) fun v0=>.nrm (sp 33 v0 t) s:=ze 2
theorem zFC:z3 zfd=52:=by kernel_rfl
theorem zI2:z3 zn2=83:=by kernel_rfl
theorem zEW:z3 zfc=64:=by kernel_rfl
theorem zdm:∀ r s t,zcM.run r t s=za (fun t s=>r.code ws zfd t s) (za (fun t s=>za (fun t s=>za (fun t s=>zxO.run r t s) (zE 3 (za (fun t s=>za (fun t s=>za (fun t s=>zu9.run r t s) (za (fun t s=>zu (gp 29 t) (.ret t s) (.nrm t s)) (zv0.run r t s))) (za (fun t s=>za (fun t s=>zu (gp 28 t) (.ext 3 t s) (.nrm t s)) (zuW.run r t s)) (zxZ.run r t s))) (zw0.run r t s)))) (zu (gp 27 t) (.nrm t s) (.ext 2 t s))) (zwQ.run r t s)):=by intros;kernel_rfl
theorem zyQ:∀ r s t,zew.run r t s=za (fun t s=>r.code ws zn2 t s) (za (fun t s=>za (fun t s=>za (fun t s=>zuR.run r t s) (zE 1 (za (fun t s=>za (fun t s=>za (fun t s=>zwf.run r t s) (za (fun t s=>zE 2 (zcM.run r t s)) (zvu.run r t s))) (zxH.run r t s)) (zxX.run r t s)))) (zu (gp 23 t) (.nrm t s) (.ext 0 t s))) (zDN.run r t s)):=by intros;kernel_rfl
theorem zgQ:∀ r s t,zad.run r t s=za (fun t s=>r.code ws zfc t s) (za (fun t s=>za (fun t s=>za (fun t s=>zxg.run r t s) (zE 5 (za (fun t s=>za (fun t s=>za (fun t s=>za (fun t s=>ztK.run r t s) (zyp.run r t s)) (za (fun t s=>zu (gp 35 t) (zx1.run r t s) (.nrm t s)) (zyU.run r t s))) (ztH.run r t s)) (zuo.run r t s)))) (zu (gp 34 t) (.nrm t s) (.ext 4 t s))) (zuT.run r t s)):=by intros;kernel_rfl
theorem jV:type_of% (aI ztL <| aI zux <| aI zwH <| aI zqV <| aI zpC <| aI znt <| aI zpi <| aI zqe <| aI zpG <| aI zqB <| aI zoz <| aI zpM <| aI zoS <| aI zr3 <| aI zpx <| aI zq2 <| aI zrn <| aI zn3 <| aI zqO <| aI zow <| aI zsA <| aI zoV <| aI zrD <| aI zqZ <| aI zo5 <| aI zsR <| aI zn8 <| zGV):=aI ztL <| aI zux <| aI zwH <| aI zqV <| aI zpC <| aI znt <| aI zpi <| aI zqe <| aI zpG <| aI zqB <| aI zoz <| aI zpM <| aI zoS <| aI zr3 <| aI zpx <| aI zq2 <| aI zrn <| aI zn3 <| aI zqO <| aI zow <| aI zsA <| aI zoV <| aI zrD <| aI zqZ <| aI zo5 <| aI zsR <| aI zn8 <| zGV
def yx:FI:=⟨39534442678181013841036427264,95,4⟩
def wd:=qe Tryz.prog 55
def qb (l:List Nat):=zl zj yx (zI l wd)
def zvH:=qb [0]
def zu5:=qb [1,0]
def zxe:=qb [1,1,0]
def zyd:=qb [1,1,1,0]
def zod:=qb [1,1,1,1,0,0]
def zoq:=qb [1,1,1,1,0,1,0,0,0,0]
def znu:=qb [1,1,1,1,0,1,0,0,1,0,0]
def zsF:=qb [1,1,1,1,0,1,0,0,1,1,0,0]
def zsi:=qb [1,1,1,1,0,1,0,0,1,1,0,1]
def zse:=qb [1,1,1,1,0,1,0,0,1,1,1]
def zgO:=zI [1,1,1,1,0,1,0] wd
def zby:=zl zj yx zgO
def zqw:=qb [1,1,1,1,1,0]
def zoZ:=qb [1,1,1,1,1,1,0]
def znv:=qb [1,1,1,1,1,1,1,0,0]
def znO:=qb [1,1,1,1,1,1,1,0,1,0,0,0]
def zp5:=qb [1,1,1,1,1,1,1,0,1,0,0,1,1,0,0,0]
def zc1:=zI [1,1,1,1,1,1,1,0,1,0,0,1,1,0,0,1,0] wd
def zor:=zl zj yx zc1
def zfU:=zaD zj yx zc1 17 1 [58,57,56,55,54,53,52,51,50,49,48,47,46,45,44,43,42]
def zcZ:=zaD zj yx zc1 9 8 [50,49,48,47,46,45,44,43,42]
def ziz:=zaD zj yx zc1 0 9 []
def zst:=qb [1,1,1,1,1,1,1,0,1,0,0,1,1,0,0,1,1,0,0]
def zrC:=qb [1,1,1,1,1,1,1,0,1,0,0,1,1,0,0,1,1,0,1]
def zo7:=qb [1,1,1,1,1,1,1,0,1,0,0,1,1,1]
def zgp:=zI [1,1,1,1,1,1,1,0,1,0] wd
def zbl:=zl zj yx zgp
def zsd:=qb [1,1,1,1,1,1,1,1,0,0]
def zsD:=qb [1,1,1,1,1,1,1,1,0,1,0,0,0,0]
def zsG:=qb [1,1,1,1,1,1,1,1,0,1,0,0,1,0,0,0]
def zqL:=qb [1,1,1,1,1,1,1,1,0,1,0,0,1,0,0,1,0,0,0]
def zn6:=qb [1,1,1,1,1,1,1,1,0,1,0,0,1,0,0,1,0,0,1,1,0,0,0]
def zrz:=qb [1,1,1,1,1,1,1,1,0,1,0,0,1,0,0,1,0,0,1,1,0,0,1,0]
def zpE:=qb [1,1,1,1,1,1,1,1,0,1,0,0,1,0,0,1,0,0,1,1,0,0,1,1,0,0]
def zqi:=qb [1,1,1,1,1,1,1,1,0,1,0,0,1,0,0,1,0,0,1,1,0,0,1,1,0,1]
def zso:=qb [1,1,1,1,1,1,1,1,0,1,0,0,1,0,0,1,0,0,1,1,1]
def zgy:=zI [1,1,1,1,1,1,1,1,0,1,0,0,1,0,0,1,0] wd
def za4:=zl zj yx zgy
def zr2:=qb [1,1,1,1,1,1,1,1,0,1,0,0,1,1]
def zge:=zI [1,1,1,1,1,1,1,1,0,1,0] wd
def za2:=zl zj yx zge
def zp3:=qb [1,1,1,1,1,1,1,1,1,0]
def zvd:=zl zj yx wd
def zxR:=yi (ql zj yx (qz Tryz.prog 55)).run
theorem zCU :
 (((∀ r s x0,(fnC zj 55).run r [x0] s=qk (z7 (fun t s=>zxR t s) (zvd.run r (sp 0 x0 T.new) s))) ∧
 ((∀ s t,zxR t s=yW (gp 240 t) (yp [gp 2 t] s)) ∧
 (∀ r s t,zvd.run r t s=za (fun t s=>za (fun t s=>za (fun t s=>za (fun t s=>za (fun t s=>za (fun t s=>za (fun t s=>za (fun t s=>za (fun t s=>za (fun t s=>.ret t s) (zp3.run r t s)) (za (fun t s=>zE 4 (za2.run r t s)) (zsd.run r t s))) (za (fun t s=>zE 2 (zbl.run r t s)) (znv.run r t s))) (zoZ.run r t s)) (zqw.run r t s)) (za (fun t s=>zE 0 (zby.run r t s)) (zod.run r t s))) (zyd.run r t s)) (zxe.run r t s)) (zu5.run r t s)) (zvH.run r t s)))) ∧
 (((∀ g r s t le,(ziz g).run r t (le) s=zB (gp 0 t) fun v1=>zf 1 v1 fun v2=>zd false 1 v2 s fun v3 s=>zf 0 (gp 10 t) fun v4=>zd false 1 v4 s fun v5 s=>zg 1 v3 v5 fun v6=>zd false 1 v6 s fun v7 s=>g.run r t (v7::v7::v6::v5::v4::v3::v2::v1::gp 0 t::le) s) ∧
 (∀ g r s t le,(zcZ g).run r t (.bool true::le) s=zB (gp 0 t) fun v10=>zf 1 v10 fun v11=>zd false 1 v11 s fun v12 s=>zf 1 (gp 10 t) fun v13=>zd false 1 v13 s fun v14 s=>zg 1 v12 v14 fun v15=>zd false 1 v15 s fun v16 s=>g.run r t (v16::v15::v14::v13::v12::v11::v10::gp 0 t::.bool true::le) s)) ∧
 ((∀ g r s t le,(zcZ g).run r t (.bool false::le) s=g.run r t (Go.Ev.undef::Go.Ev.undef::Go.Ev.undef::Go.Ev.undef::Go.Ev.undef::Go.Ev.undef::Go.Ev.undef::Go.Ev.undef::.bool false::le) s) ∧
 (∀ g r s t le x0 x1 x2 x3 x4 x5 x6 x7 x8,(zfU g).run r t (x0::x1::x2::x3::x4::x5::x6::x7::x8::le) s=qL x8 (fun _=>g.run r (sp 20 x0 t) (x0::x0::x1::x2::x3::x4::x5::x6::x7::x8::le) s) (fun _=>g.run r (sp 20 (V.bool false) t) (V.bool false::x0::x1::x2::x3::x4::x5::x6::x7::x8::le) s))))):=by
 and_intros<;>(intros;kernel_rfl)
theorem zql:∀ r s t,zvH.run r t s=.nrm (sp 2 (V.nil 2) t) s:=ze 1
theorem zoQ:∀ r s t,zu5.run r t s=jU s (.map [] 0) fun a0k s=>Go.Ev.newRow s 181 [V.nil 2] false fun a1k _ s=>zJ 1 (V.ptr a1k 0 0) (V.ref 0 a0k) s fun _ s=>.nrm (sp 3 (V.ptr a1k 0 0) t) s:=ze 3
theorem zsO:∀ r s t,zxe.run r t s=jU s (.map [] 0) fun a0k s=>zp 1 (V.nat .i64 0) fun x1_0=>qY x1_0 0 [V.nat .i64 0,V.nat .i64 0] fun l1_0=>zp 1 (V.nat .i64 0) fun x1_1=>qY x1_1 1 l1_0 fun l1_1=>qw ⟨6,[7,7]⟩ (V.ref 0 a0k) (V.ls 0 l1_1) (V.nat .i64 1) s fun _ s=>Go.Ev.newRow s 104 [V.nil 2] false fun a4k _ s=>zJ 1 (V.ptr a4k 0 0) (V.ref 0 a0k) s fun _ s=>.nrm (sp 4 (V.ptr a4k 0 0) t) s:=ze 6
theorem zn0:∀ r s t,zyd.run r t s=zp 1 (V.nat .i64 0) fun x0_0=>qY x0_0 0 [V.nat .i64 0,V.nat .i64 0] fun l0_0=>zp 1 (V.nat .i64 0) fun x0_1=>qY x0_1 1 l0_0 fun l0_1=>j4 [V.nat .i64 0,V.nat .i64 0] 1 fun l1z=>zp 2 (V.ls 0 l0_1) fun x1_0=>qY x1_0 0 l1z fun l1_0=>Go.Ev.newRow s 107 l1_0 false fun a1k _ s=>Go.Ev.newRow s 111 [V.nil 1] false fun a2k _ s=>zJ 1 (V.ptr a2k 0 0) (V.sl a1k 0 0 1 1) s fun _ s=>.nrm (sp 5 (V.ptr a2k 0 0) t) s:=ze 4
theorem zlI:∀ r s t,zod.run r t s=Go.Ev.newRow s 3 [V.nat .i64 0] false fun a0k _ s=>zJ 1 (V.ptr a0k 0 0) (V.nat .i64 0) s fun _ s=>.nrm (sp 6 (V.ptr a0k 0 0) t) s:=ze 2
theorem zkb:∀ r s t,zoq.run r t s=zd false 1 (gp 6 t) s fun v0 s=>zd false 1 (gp 5 t) s fun v1 s=>zz v1 fun v2=>zk ⟨9,[]⟩ false .lss v0 v2 fun v3=>.nrm (sp 14 v3 t) s:=ze 4
theorem zj5:∀ r s t,znu.run r t s=zd false 1 (gp 5 t) s fun v1 s=>zd false 1 (gp 6 t) s fun v2 s=>zg 2 v1 v2 fun v3=>zd true 2 v3 s fun v4 s=>zD (r.call 56 [gp 0 t,v4,(V.fn (.func 100) [] [gp 3 t,gp 5 t,gp 6 t,gp 4 t])] s) fun _ s=>.nrm t s:=ze 7
theorem zlG:∀ r s t,zsF.run r t s=zd false 1 (gp 6 t) s fun v0 s=>.nrm (sp 15 v0 t) s:=ze 1
theorem zmb:∀ r s t,zsi.run r t s=Go.Ev.newRow s 3 [V.nat .i64 0] false fun a0k _ s=>zJ 1 (V.ptr a0k 0 0) (gp 15 t) s fun _ s=>.nrm (sp 6 (V.ptr a0k 0 0) t) s:=ze 2
theorem zlg:∀ r s t,zse.run r t s=zd false 1 (gp 6 t) s fun v0 s=>zk ⟨9,[]⟩ false .add v0 (V.nat .i64 1) fun v1=>zJ 1 (gp 6 t) v1 s fun _ s=>.nrm t s:=ze 3
theorem zmd:∀ r s t,zqw.run r t s=jU s (.map [] 0) fun a0k s=>.nrm (sp 7 (V.ref 0 a0k) t) s:=ze 2
theorem zko:∀ r s t,zoZ.run r t s=.nrm (sp 8 (V.nil 1) t) s:=ze 1
theorem zkm:∀ r s t,znv.run r t s=zd false 1 (gp 5 t) s fun v0 s=>zz v0 fun v1=>.nrm (sp 18 (V.nat .i64 0) (sp 17 v1 (sp 16 v0 t))) s:=ze 3
theorem zkk:∀ r s t,znO.run r t s=zk ⟨9,[]⟩ false .lss (gp 18 t) (gp 17 t) fun v0=>.nrm (sp 19 v0 t) s:=ze 1
theorem zmB:∀ r s t,zp5.run r t s=zg 2 (gp 16 t) (gp 18 t) fun v0=>zd true 2 v0 s fun v1 s=>Go.Ev.newRow s 107 [V.nat .i64 0,V.nat .i64 0] false fun a2k _ s=>zJ 2 (V.ptr a2k 0 0) v1 s fun _ s=>.nrm (sp 10 (V.ptr a2k 0 0) t) s:=ze 4
theorem zlx:∀ r s t,zor.run r t s=(ziz (zcZ (zfU yk))).run r.det t [] s:=zcb (by kernel_rfl) (zdQ rfl (by kernel_rfl) (zdQ rfl (by kernel_rfl) zKO))
theorem zlR:∀ r s t,zst.run r t s=zd true 2 (gp 10 t) s fun v1 s=>qw ⟨6,[7,7]⟩ (gp 7 t) v1 (V.nat .i64 1) s fun _ s=>.nrm t s:=ze 3
theorem zmc:∀ r s t,zrC.run r t s=zd true 2 (gp 10 t) s fun v1 s=>j4 [V.nat .i64 0,V.nat .i64 0] 1 fun l2z=>zp 2 v1 fun x2_0=>qY x2_0 0 l2z fun l2_0=>Go.Ev.newRow s 107 l2_0 false fun a2k _ s=>zP 107 2 (gp 8 t) (V.sl a2k 0 0 1 1) s fun v3 s=>.nrm (sp 8 v3 t) s:=ze 5
theorem zmG:∀ r s t,zo7.run r t s=zk ⟨9,[]⟩ false .add (gp 18 t) (V.nat .i64 1) fun v0=>.nrm (sp 18 v0 t) s:=ze 2
theorem zlY:∀ r s t,zsd.run r t s=.nrm (sp 11 (V.nat .i64 0) t) s:=ze 1
theorem zmp:∀ r s t,zsD.run r t s=zz (gp 8 t) fun v2=>zk ⟨9,[]⟩ false .lss (gp 11 t) v2 fun v3=>.nrm (sp 21 v3 t) s:=ze 4
theorem zk9:∀ r s t,zsG.run r t s=zd false 1 (gp 3 t) s fun v0 s=>zg 2 (gp 8 t) (gp 11 t) fun v3=>zd true 2 v3 s fun v4 s=>z4 ⟨6,[7,7]⟩ (V.nil 1) false v0 v4 s fun v5=>zz v5 fun v6=>.nrm (sp 24 (V.nat .i64 0) (sp 23 v6 (sp 22 v5 t))) s:=zaq 8
theorem zmL:∀ r s t,zqL.run r t s=zk ⟨9,[]⟩ false .lss (gp 24 t) (gp 23 t) fun v0=>.nrm (sp 25 v0 t) s:=ze 1
theorem zlp:∀ r s t,zn6.run r t s=zg 2 (gp 22 t) (gp 24 t) fun v0=>zd true 2 v0 s fun v1 s=>Go.Ev.newRow s 107 [V.nat .i64 0,V.nat .i64 0] false fun a2k _ s=>zJ 2 (V.ptr a2k 0 0) v1 s fun _ s=>.nrm (sp 13 (V.ptr a2k 0 0) t) s:=ze 4
theorem zkB:∀ r s t,zrz.run r t s=zd true 2 (gp 13 t) s fun v1 s=>z4 ⟨6,[7,7]⟩ (V.nat .i64 0) false (gp 7 t) v1 s fun v2=>zk ⟨7,[]⟩ true .eql v2 (V.nat .i64 0) fun v3=>.nrm (sp 26 v3 t) s:=ze 4
theorem zla:∀ r s t,zpE.run r t s=zd true 2 (gp 13 t) s fun v1 s=>qw ⟨6,[7,7]⟩ (gp 7 t) v1 (V.nat .i64 1) s fun _ s=>.nrm t s:=ze 3
theorem zk0:∀ r s t,zqi.run r t s=zd true 2 (gp 13 t) s fun v1 s=>j4 [V.nat .i64 0,V.nat .i64 0] 1 fun l2z=>zp 2 v1 fun x2_0=>qY x2_0 0 l2z fun l2_0=>Go.Ev.newRow s 107 l2_0 false fun a2k _ s=>zP 107 2 (gp 8 t) (V.sl a2k 0 0 1 1) s fun v3 s=>.nrm (sp 8 v3 t) s:=ze 5
theorem zli:∀ r s t,zso.run r t s=zk ⟨9,[]⟩ false .add (gp 24 t) (V.nat .i64 1) fun v0=>.nrm (sp 24 v0 t) s:=ze 2
theorem zly:∀ r s t,zr2.run r t s=zk ⟨9,[]⟩ false .add (gp 11 t) (V.nat .i64 1) fun v1=>.nrm (sp 11 v1 t) s:=ze 3
theorem zj6:∀ r s t,zp3.run r t s=.nrm (sp 2 (gp 7 t) t) s:=ze 2
theorem zCy:z3 zgO=32:=by kernel_rfl
theorem zBs:z3 zgp=52:=by kernel_rfl
theorem zEG:z3 zgy=38:=by kernel_rfl
theorem zDK:z3 zge=66:=by kernel_rfl
theorem zlj:∀ r s t,zby.run r t s=za (fun t s=>r.code yx zgO t s) (za (fun t s=>za (fun t s=>za (fun t s=>zse.run r t s) (za (fun t s=>zsi.run r t s) (zsF.run r t s))) (zE 1 (znu.run r t s))) (za (fun t s=>zu (gp 14 t) (.nrm t s) (.ext 0 t s)) (zoq.run r t s))):=by intros;kernel_rfl
theorem zbH:∀ r s t,zbl.run r t s=za (fun t s=>r.code yx zgp t s) (za (fun t s=>za (fun t s=>za (fun t s=>zo7.run r t s) (zE 3 (za (fun t s=>za (fun t s=>zu (gp 20 t) (za (fun t s=>zrC.run r t s) (zst.run r t s)) (.nrm t s)) (zor.run r t s)) (zp5.run r t s)))) (zu (gp 19 t) (.nrm t s) (.ext 2 t s))) (znO.run r t s)):=by intros;kernel_rfl
theorem zeZ:∀ r s t,za4.run r t s=za (fun t s=>r.code yx zgy t s) (za (fun t s=>za (fun t s=>za (fun t s=>zso.run r t s) (zE 7 (za (fun t s=>za (fun t s=>zu (gp 26 t) (za (fun t s=>zqi.run r t s) (zpE.run r t s)) (.nrm t s)) (zrz.run r t s)) (zn6.run r t s)))) (zu (gp 25 t) (.nrm t s) (.ext 6 t s))) (zqL.run r t s)):=by intros;kernel_rfl
theorem zlo:∀ r s t,za2.run r t s=za (fun t s=>r.code yx zge t s) (za (fun t s=>za (fun t s=>zr2.run r t s) (zE 5 (za (fun t s=>zE 6 (za4.run r t s)) (zsG.run r t s)))) (za (fun t s=>zu (gp 21 t) (.nrm t s) (.ext 4 t s)) (zsD.run r t s))):=by intros;kernel_rfl
theorem yI:type_of% (aI zql <| aI zoQ <| aI zsO <| aI zn0 <| aI zlI <| aI zkb <| aI zj5 <| aI zlG <| aI zmb <| aI zlg <| aI zmd <| aI zko <| aI zkm <| aI zkk <| aI zmB <| aI zlx <| aI zlR <| aI zmc <| aI zmG <| aI zlY <| aI zmp <| aI zk9 <| aI zmL <| aI zlp <| aI zkB <| aI zla <| aI zk0 <| aI zli <| aI zly <| aI zj6 <| zCU):=aI zql <| aI zoQ <| aI zsO <| aI zn0 <| aI zlI <| aI zkb <| aI zj5 <| aI zlG <| aI zmb <| aI zlg <| aI zmd <| aI zko <| aI zkm <| aI zkk <| aI zmB <| aI zlx <| aI zlR <| aI zmc <| aI zmG <| aI zlY <| aI zmp <| aI zk9 <| aI zmL <| aI zlp <| aI zkB <| aI zla <| aI zk0 <| aI zli <| aI zly <| aI zj6 <| zCU
def zgR:FI:=⟨18013282889759744,54,4⟩
def zhh:=qe Tryz.prog 56
def zbs (l:List Nat):=zl zj zgR (zI l zhh)
def zHC:=zbs [0]
def zGC:=zbs [1,0]
def zGN:=zbs [1,1,0,0,0]
def zDT:=zbs [1,1,0,0,1,1,0,0,0]
def zDU:=zbs [1,1,0,0,1,1,0,0,1,0]
def zBF:=zbs [1,1,0,0,1,1,0,0,1,1,0,0,0]
def zEK:=zbs [1,1,0,0,1,1,0,0,1,1,0,0,1,1,0,0,0]
def zBR:=zbs [1,1,0,0,1,1,0,0,1,1,0,0,1,1,0,0,1,0]
def zB8:=zbs [1,1,0,0,1,1,0,0,1,1,0,0,1,1,0,0,1,1,0]
def zDm:=zbs [1,1,0,0,1,1,0,0,1,1,0,0,1,1,1]
def zoe:=zI [1,1,0,0,1,1,0,0,1,1,0] zhh
def zdU:=zl zj zgR zoe
def zBE:=zbs [1,1,0,0,1,1,1]
def zzx:=zI [1,1,0] zhh
def zit:=zl zj zgR zzx
def zH9:=zl zj zgR zhh
def zGU:=yi (ql zj zgR (qz Tryz.prog 56)).run
theorem zKF :
 ((∀ r s x0 x1 x2,(fnC zj 56).run r [x0,x1,x2] s=qk (z7 (fun t s=>zGU t s) (zH9.run r (sp 2 x2 (sp 1 x1 (sp 0 x0 T.new))) s))) ∧
 ((∀ s t,zGU t s=yW (gp 240 t) (yp [] s)) ∧
 (∀ r s t,zH9.run r t s=za (fun t s=>za (fun t s=>zE 0 (zit.run r t s)) (zGC.run r t s)) (zHC.run r t s)))):=by
 and_intros<;>(intros;kernel_rfl)
theorem zAh:∀ r s t,zHC.run r t s=zp 2 (gp 1 t) fun l0=>Go.Ev.newRow s 107 l0 false fun a0k _ s=>.nrm (sp 4 (V.ptr a0k 0 0) t) s:=ze 1
theorem zD6:∀ r s t,zGC.run r t s=zB (gp 0 t) fun v1=>zf 0 v1 fun v2=>zd false 1 v2 s fun v3 s=>zf 0 (gp 4 t) fun v4=>zd false 1 v4 s fun v5 s=>zg 1 v3 v5 fun v6=>zd false 1 v6 s fun v7 s=>zz v7 fun v8=>.nrm (sp 12 (V.nat .i64 0) (sp 11 v8 (sp 10 v7 t))) s:=zaq 10
theorem zCe:∀ r s t,zGN.run r t s=zk ⟨9,[]⟩ false .lss (gp 12 t) (gp 11 t) fun v0=>.nrm (sp 13 v0 t) s:=ze 1
theorem zwb:∀ r s t,zDT.run r t s=zg 3 (gp 10 t) (gp 12 t) fun v0=>zd true 3 v0 s fun v1 s=>Go.Ev.newRow s 180 [V.nil 1,V.nat .i64 0,V.nat .i64 0] false fun a2k _ s=>zJ 3 (V.ptr a2k 0 0) v1 s fun _ s=>.nrm (sp 7 (V.ptr a2k 0 0) t) s:=ze 4
theorem zw8:∀ r s t,zDU.run r t s=zB (gp 0 t) fun v1=>zf 0 v1 fun v2=>zd false 1 v2 s fun v3 s=>zf 1 (gp 4 t) fun v4=>zd false 1 v4 s fun v5 s=>zg 1 v3 v5 fun v6=>zd false 1 v6 s fun v7 s=>zz v7 fun v8=>.nrm (sp 16 (V.nat .i64 0) (sp 15 v8 (sp 14 v7 t))) s:=zaq 10
theorem zxf:∀ r s t,zBF.run r t s=zk ⟨9,[]⟩ false .lss (gp 16 t) (gp 15 t) fun v0=>.nrm (sp 17 v0 t) s:=ze 1
theorem zwx:∀ r s t,zEK.run r t s=zg 3 (gp 14 t) (gp 16 t) fun v0=>zd true 3 v0 s fun v1 s=>Go.Ev.newRow s 180 [V.nil 1,V.nat .i64 0,V.nat .i64 0] false fun a2k _ s=>zJ 3 (V.ptr a2k 0 0) v1 s fun _ s=>.nrm (sp 9 (V.ptr a2k 0 0) t) s:=ze 4
theorem zuf:∀ r s t,zBR.run r t s=zf 1 (gp 7 t) fun v0=>zd false 1 v0 s fun v1 s=>zf 1 (gp 9 t) fun v2=>zd false 1 v2 s fun v3 s=>zk ⟨7,[]⟩ false .eql v1 v3 fun v4=>.nrm (sp 18 v4 t) s:=ze 5
theorem ztA:∀ r s t,zB8.run r t s=zf 2 (gp 7 t) fun v1=>zd false 1 v1 s fun v2 s=>zf 2 (gp 9 t) fun v3=>zd false 1 v3 s fun v4 s=>zp 1 v2 fun x5_0=>qY x5_0 0 [V.nat .i64 0,V.nat .i64 0] fun l5_0=>zp 1 v4 fun x5_1=>qY x5_1 1 l5_0 fun l5_1=>zf 0 (gp 7 t) fun v6=>zd false 1 v6 s fun v7 s=>zf 0 (gp 9 t) fun v8=>zd false 1 v8 s fun v9 s=>jz r (gp 2 t) [(V.ls 0 l5_1),v7,v9] t s fun _ s=>.nrm t s:=ze 11
theorem zwh:∀ r s t,zDm.run r t s=zk ⟨9,[]⟩ false .add (gp 16 t) (V.nat .i64 1) fun v0=>.nrm (sp 16 v0 t) s:=ze 2
theorem zvs:∀ r s t,zBE.run r t s=zk ⟨9,[]⟩ false .add (gp 12 t) (V.nat .i64 1) fun v0=>.nrm (sp 12 v0 t) s:=ze 2
theorem zIr:z3 zoe=40:=by kernel_rfl
theorem zKi:z3 zzx=72:=by kernel_rfl
theorem zi8:∀ r s t,zdU.run r t s=za (fun t s=>r.code zgR zoe t s) (za (fun t s=>za (fun t s=>za (fun t s=>zDm.run r t s) (zE 3 (za (fun t s=>za (fun t s=>zu (gp 18 t) (zB8.run r t s) (.nrm t s)) (zBR.run r t s)) (zEK.run r t s)))) (zu (gp 17 t) (.nrm t s) (.ext 2 t s))) (zBF.run r t s)):=by intros;kernel_rfl
theorem zDH:∀ r s t,zit.run r t s=za (fun t s=>r.code zgR zzx t s) (za (fun t s=>za (fun t s=>za (fun t s=>zBE.run r t s) (zE 1 (za (fun t s=>za (fun t s=>zE 2 (zdU.run r t s)) (zDU.run r t s)) (zDT.run r t s)))) (zu (gp 13 t) (.nrm t s) (.ext 0 t s))) (zGN.run r t s)):=by intros;kernel_rfl
theorem zft:type_of% (aI zAh <| aI zD6 <| aI zCe <| aI zwb <| aI zw8 <| aI zxf <| aI zwx <| aI zuf <| aI ztA <| aI zwh <| aI zvs <| zKF):=aI zAh <| aI zD6 <| aI zCe <| aI zwb <| aI zw8 <| aI zxf <| aI zwx <| aI zuf <| aI ztA <| aI zwh <| aI zvs <| zKF
def ziV:FI:=⟨1147292005072486400,60,4⟩
def zjt:=qe Tryz.prog 57
def zbC (l:List Nat):=zl zj ziV (zI l zjt)
def zAQ:=zbC [0]
def zBa:=zbC [1,0,0]
def zAB:=zbC [1,1,0]
def zvU:=zbC [1,1,1,0]
def zwe:=zI [1,1,1,1,0,0] zjt
def zum:=zl zj ziV zwe
def jt:=qOf zj ziV zwe
def zh1:=jt 20 1 (dn 50 20)
def zda:=jt 19 1 (dn 49 19)
def zaG:=jt 18 1 (dn 48 18)
def zaQ:=jt 12 6 (dn 42 12)
def zbE:=jt 5 7 (dn 35 5)
def zdR:=jt 3 2 [33,32,31]
def zlX:=jt 0 3 []
def zvT:=zbC [1,1,1,1,0,1,0]
def zv5:=zbC [1,1,1,1,1,0]
def zxI:=zbC [1,1,1,1,1,1,0,0]
def zvN:=zbC [1,1,1,1,1,1,0,1]
def zA7:=zl zj ziV zjt
def zAc:=yi (ql zj ziV (qz Tryz.prog 57)).run
theorem zGs :
 (((((∀ r s x0 x1 x2 x3 x4 x5 x6 x7,(fnC zj 57).run r [x0,x1,x2,x3,x4,x5,x6,x7] s=qk (z7 (fun t s=>zAc t s) (zA7.run r (sp 7 x7 (sp 6 x6 (sp 5 x5 (sp 4 x4 (sp 3 x3 (sp 2 x2 (sp 1 x1 (sp 0 x0 T.new)))))))) s))) ∧
 (∀ s t,zAc t s=yW (gp 240 t) (yp [] s))) ∧
 ((∀ r s t,zA7.run r t s=za (fun t s=>za (fun t s=>za (fun t s=>za (fun t s=>za (fun t s=>za (fun t s=>zu (gp 16 t) (za (fun t s=>zvN.run r t s) (zxI.run r t s)) (.nrm t s)) (zv5.run r t s)) (za (fun t s=>zu (gp 15 t) (zvT.run r t s) (.nrm t s)) (zum.run r t s))) (zvU.run r t s)) (zAB.run r t s)) (za (fun t s=>zu (gp 14 t) (.ret t s) (.nrm t s)) (zBa.run r t s))) (zAQ.run r t s)) ∧
 (∀ g r s t le,(zlX g).run r t (le) s=zd true 2 (gp 11 t) s fun v0 s=>zD (r.call 59 [v0] s) fun v1 s=>g.run r t (v1::v1::v0::le) s))) ∧
 (((∀ g r s t le,(zdR g).run r t (.bool true::le) s=g.run r t (Go.Ev.undef::Go.Ev.undef::.bool true::le) s) ∧
 (∀ g r s t le,(zdR g).run r t (.bool false::le) s=g.run r t (gp 13 t::gp 13 t::.bool false::le) s)) ∧
 ((∀ g r s t le,(zbE g).run r t (.bool true::le) s=zf 0 (gp 11 t) fun v5=>zd false 1 v5 s fun v6 s=>zf 0 (gp 12 t) fun v7=>zd false 1 v7 s fun v8 s=>zD (r.call 40 [v6,v8] s) fun v9 s=>xUn .not v9 fun v10=>g.run r t (v10::v10::v9::v8::v7::v6::v5::.bool true::le) s) ∧
 ((∀ g r s t le,(zbE g).run r t (.bool false::le) s=g.run r t (Go.Ev.undef::Go.Ev.undef::Go.Ev.undef::Go.Ev.undef::Go.Ev.undef::Go.Ev.undef::Go.Ev.undef::.bool false::le) s) ∧
 (∀ g r s t le,(zbE g).run r t (Go.Ev.undef::le) s=g.run r t (Go.Ev.undef::Go.Ev.undef::Go.Ev.undef::Go.Ev.undef::Go.Ev.undef::Go.Ev.undef::Go.Ev.undef::Go.Ev.undef::le) s))))) ∧
 ((((∀ g r s t le,(zaQ g).run r t (.bool true::le) s=g.run r t (Go.Ev.undef::Go.Ev.undef::Go.Ev.undef::Go.Ev.undef::Go.Ev.undef::Go.Ev.undef::.bool true::le) s) ∧
 (∀ g r s t le,(zaQ g).run r t (.bool false::le) s=zf 1 (gp 11 t) fun v12=>zd false 1 v12 s fun v13 s=>zf 1 (gp 12 t) fun v14=>zd false 1 v14 s fun v15 s=>zD (r.call 40 [v13,v15] s) fun v16 s=>xUn .not v16 fun v17=>g.run r t (v17::v16::v15::v14::v13::v12::.bool false::le) s)) ∧
 ((∀ g r s t le,(zaQ g).run r t (Go.Ev.undef::le) s=g.run r t (Go.Ev.undef::Go.Ev.undef::Go.Ev.undef::Go.Ev.undef::Go.Ev.undef::Go.Ev.undef::Go.Ev.undef::le) s) ∧
 (∀ g r s t le x0 x1 x2 x3 x4 x5 x6 x7 x8 x9 x10 x11 x12,(zaG g).run r t (x0::x1::x2::x3::x4::x5::x6::x7::x8::x9::x10::x11::x12::.bool true::le) s=qL x6 (fun _=>g.run r t (V.bool true::x0::x1::x2::x3::x4::x5::x6::x7::x8::x9::x10::x11::x12::.bool true::le) s) (fun _=>g.run r t (x0::x0::x1::x2::x3::x4::x5::x6::x7::x8::x9::x10::x11::x12::.bool true::le) s)))) ∧
 (((∀ g r s t le x0 x1 x2 x3 x4 x5 x6 x7 x8 x9 x10 x11 x12,(zaG g).run r t (x0::x1::x2::x3::x4::x5::x6::x7::x8::x9::x10::x11::x12::.bool false::le) s=g.run r t (Go.Ev.undef::x0::x1::x2::x3::x4::x5::x6::x7::x8::x9::x10::x11::x12::.bool false::le) s) ∧
 (∀ g r s t le x0 x1 x2 x3 x4 x5 x6 x7 x8 x9 x10 x11 x12,(zaG g).run r t (x0::x1::x2::x3::x4::x5::x6::x7::x8::x9::x10::x11::x12::Go.Ev.undef::le) s=g.run r t (Go.Ev.undef::x0::x1::x2::x3::x4::x5::x6::x7::x8::x9::x10::x11::x12::Go.Ev.undef::le) s)) ∧
 ((∀ g r s t le x0 x1 x2 x3 x4 x5 x6 x7 x8 x9 x10 x11 x12 x13 x14 x15,(zda g).run r t (x0::x1::x2::x3::x4::x5::x6::x7::x8::x9::x10::x11::x12::x13::x14::x15::.bool true::le) s=g.run r t (Go.Ev.undef::x0::x1::x2::x3::x4::x5::x6::x7::x8::x9::x10::x11::x12::x13::x14::x15::.bool true::le) s) ∧
 ((∀ g r s t le x0 x1 x2 x3 x4 x5 x6 x7 x8 x9 x10 x11 x12 x13 x14 x15,(zda g).run r t (x0::x1::x2::x3::x4::x5::x6::x7::x8::x9::x10::x11::x12::x13::x14::x15::.bool false::le) s=qL x14 (fun _=>g.run r t (x0::x0::x1::x2::x3::x4::x5::x6::x7::x8::x9::x10::x11::x12::x13::x14::x15::.bool false::le) s) (fun _=>g.run r t (V.bool false::x0::x1::x2::x3::x4::x5::x6::x7::x8::x9::x10::x11::x12::x13::x14::x15::.bool false::le) s)) ∧
 (∀ g r s t le x0 x1 x2 x3 x4 x5 x6 x7 x8 x9 x10 x11 x12 x13 x14 x15 x16 x17,(zh1 g).run r t (x0::x1::x2::x3::x4::x5::x6::x7::x8::x9::x10::x11::x12::x13::x14::x15::x16::x17::le) s=qL x17 (fun _=>g.run r (sp 15 (V.bool true) t) (V.bool true::x0::x1::x2::x3::x4::x5::x6::x7::x8::x9::x10::x11::x12::x13::x14::x15::x16::x17::le) s) (fun _=>g.run r (sp 15 x0 t) (x0::x0::x1::x2::x3::x4::x5::x6::x7::x8::x9::x10::x11::x12::x13::x14::x15::x16::x17::le) s))))))):=by
 and_intros<;>(intros;kernel_rfl)
theorem zvB:∀ r s t,zAQ.run r t s=zp 2 (gp 0 t) fun l0=>Go.Ev.newRow s 107 l0 false fun a0k _ s=>.nrm (sp 8 (V.ptr a0k 0 0) t) s:=ze 1
theorem zyq:∀ r s t,zBa.run r t s=zd false 1 (gp 3 t) s fun v0 s=>zd true 2 (gp 8 t) s fun v1 s=>z4 ⟨6,[7,7]⟩ (V.nat .i64 0) false v0 v1 s fun v2=>zk ⟨7,[]⟩ true .eql v2 (V.nat .i64 0) fun v3=>.nrm (sp 14 v3 t) s:=ze 4
theorem zuM:∀ r s t,zAB.run r t s=zd false 1 (gp 4 t) s fun v0 s=>zd true 2 (gp 5 t) s fun v1 s=>z4 ⟨6,[7,7]⟩ (V.ls 0 [V.nil 1,V.nil 1]) false v0 v1 s fun v2=>zD (r.call 58 [v2,gp 1 t,gp 2 t] s) fun v5 s=>Go.Ev.newRow s 109 [V.nil 1,V.nil 1] false fun a6k _ s=>zJ 2 (V.ptr a6k 0 0) v5 s fun _ s=>.nrm (sp 11 (V.ptr a6k 0 0) t) s:=ze 8
theorem zo2:∀ r s t,zvU.run r t s=zd false 1 (gp 4 t) s fun v0 s=>zd true 2 (gp 8 t) s fun v1 s=>z4 ⟨6,[7,7]⟩ (V.ls 0 [V.nil 1,V.nil 1]) true v0 v1 s fun v2=>zU 0 v2 fun v4=>zU 1 v2 fun v5=>Go.Ev.newRow s 109 [V.nil 1,V.nil 1] false fun a6k _ s=>zJ 2 (V.ptr a6k 0 0) v4 s fun _ s=>.nrm (sp 13 v5 (sp 12 (V.ptr a6k 0 0) t)) s:=ze 9
theorem znm:∀ r s t,zum.run r t s=(zlX (zdR (zbE (zaQ (zaG (zda (zh1 yk))))))).run r t [] s:=ye (by kernel_rfl) (chS rfl (by kernel_rfl) (chS rfl (by kernel_rfl) (chS rfl (by kernel_rfl) (chS rfl (by kernel_rfl) (chS rfl (by kernel_rfl) (chS rfl (by kernel_rfl) chL))))))
theorem zqQ:∀ r s t,zvT.run r t s=zJ 1 (gp 6 t) (V.bool false) s fun _ s=>.nrm t s:=ze 1
theorem zss:∀ r s t,zv5.run r t s=xUn .not (gp 13 t) fun v1=>.nrm (sp 16 v1 t) s:=ze 2
theorem zoE:∀ r s t,zxI.run r t s=zd false 1 (gp 4 t) s fun v0 s=>zd true 2 (gp 8 t) s fun v1 s=>zd true 2 (gp 11 t) s fun v2 s=>qw ⟨6,[7,7]⟩ v0 v1 v2 s fun _ s=>.nrm t s:=ze 4
theorem zpl:∀ r s t,zvN.run r t s=zd false 1 (gp 7 t) s fun v0 s=>zd true 2 (gp 8 t) s fun v1 s=>j4 [V.nat .i64 0,V.nat .i64 0] 1 fun l2z=>zp 2 v1 fun x2_0=>qY x2_0 0 l2z fun l2_0=>Go.Ev.newRow s 107 l2_0 false fun a2k _ s=>zP 107 2 v0 (V.sl a2k 0 0 1 1) s fun v3 s=>zJ 1 (gp 7 t) v3 s fun _ s=>.nrm t s:=ze 5
theorem za8:type_of% (aI zvB <| aI zyq <| aI zuM <| aI zo2 <| aI znm <| aI zqQ <| aI zss <| aI zoE <| aI zpl <| zGs):=aI zvB <| aI zyq <| aI zuM <| aI zo2 <| aI znm <| aI zqQ <| aI zss <| aI zoE <| aI zpl <| zGs
def zbA:FI:=⟨1124800395213824,50,4⟩
def zhD:=qe Tryz.prog 58
def zqp (l:List Nat):=zl zj zbA (zI l zhD)
def zHq:=zqp [0]
def zHv:=zqp [1,0]
def zGE:=zqp [1,1,0]
def zcJ:=zI [1,1,1,0,0,0,0,0] zhD
def zAF:=zl zj zbA zcJ
def zlS:=zaD zj zbA zcJ 20 1 [40,39,38,37,36,35,34,33,32,31,30,29,28,27,26,25,24,23,22,21]
def zez:=zaD zj zbA zcJ 11 9 [31,30,29,28,27,26,25,24,23,22,21]
def zqH:=zaD zj zbA zcJ 9 2 [29,28,27,26,25,24,23,22,21]
def zgW:=zaD zj zbA zcJ 5 4 [25,24,23,22,21]
def zru:=zaD zj zbA zcJ 0 5 []
def zC3:=zqp [1,1,1,0,0,0,1,0]
def zza:=zI [1,1,1,0,0] zhD
def zid:=zl zj zbA zza
def zCt:=zqp [1,1,1,1,0]
def zHV:=zl zj zbA zhD
def zHY:=yi (ql zj zbA (qz Tryz.prog 58)).run
theorem zLF :
 ((((∀ r s x0 x1 x2,(fnC zj 58).run r [x0,x1,x2] s=qk (z7 (fun t s=>zHY t s) (zHV.run r (sp 2 x2 (sp 1 x1 (sp 0 x0 T.new))) s))) ∧
 (∀ s t,zHY t s=yW (gp 240 t) (zd true 2 (gp 6 t) s fun v0 _=>yp [v0] s))) ∧
 ((∀ r s t,zHV.run r t s=za (fun t s=>za (fun t s=>za (fun t s=>za (fun t s=>za (fun t s=>.ret t s) (zCt.run r t s)) (zE 0 (zid.run r t s))) (zGE.run r t s)) (zHv.run r t s)) (zHq.run r t s)) ∧
 ((∀ g r s t le,(zru g).run r t (le) s=zz (gp 7 t) fun v2=>zk ⟨9,[]⟩ false .lss (gp 9 t) v2 fun v3=>g.run r t (v3::v3::v2::gp 7 t::gp 9 t::le) s) ∧
 (∀ g r s t le,(zgW g).run r t (.bool true::le) s=zz (gp 8 t) fun v7=>zk ⟨9,[]⟩ false .lss (gp 9 t) v7 fun v8=>g.run r t (v8::v7::gp 8 t::gp 9 t::.bool true::le) s)))) ∧
 (((∀ g r s t le,(zgW g).run r t (.bool false::le) s=g.run r t (Go.Ev.undef::Go.Ev.undef::Go.Ev.undef::Go.Ev.undef::.bool false::le) s) ∧
 (∀ g r s t le x0 x1 x2 x3 x4,(zqH g).run r t (x0::x1::x2::x3::x4::le) s=qL x4 (fun _=>g.run r t (x0::x0::x0::x1::x2::x3::x4::le) s) (fun _=>g.run r t (V.bool false::V.bool false::x0::x1::x2::x3::x4::le) s))) ∧
 ((∀ g r s t le,(zez g).run r t (.bool true::le) s=zg 1 (gp 7 t) (gp 9 t) fun v13=>zd false 1 v13 s fun v14 s=>zg 1 (gp 8 t) (gp 9 t) fun v17=>zd false 1 v17 s fun v18 s=>zk ⟨7,[]⟩ false .eql v14 v18 fun v19=>g.run r t (v19::v18::v17::gp 9 t::gp 8 t::v14::v13::gp 9 t::gp 7 t::.bool true::le) s) ∧
 ((∀ g r s t le,(zez g).run r t (.bool false::le) s=g.run r t (Go.Ev.undef::Go.Ev.undef::Go.Ev.undef::Go.Ev.undef::Go.Ev.undef::Go.Ev.undef::Go.Ev.undef::Go.Ev.undef::Go.Ev.undef::.bool false::le) s) ∧
 (∀ g r s t le x0 x1 x2 x3 x4 x5 x6 x7 x8 x9,(zlS g).run r t (x0::x1::x2::x3::x4::x5::x6::x7::x8::x9::le) s=qL x9 (fun _=>g.run r (sp 10 x0 t) (x0::x0::x1::x2::x3::x4::x5::x6::x7::x8::x9::le) s) (fun _=>g.run r (sp 10 (V.bool false) t) (V.bool false::x0::x1::x2::x3::x4::x5::x6::x7::x8::x9::le) s)))))):=by
 and_intros<;>(intros;kernel_rfl)
theorem zCS:∀ r s t,zHq.run r t s=zp 2 (gp 0 t) fun l0=>Go.Ev.newRow s 109 l0 false fun a0k _ s=>Go.Ev.newRow s 109 [V.nil 1,V.nil 1] false fun a1k _ s=>.nrm (sp 6 (V.ptr a1k 0 0) (sp 3 (V.ptr a0k 0 0) t)) s:=ze 2
theorem zEk:∀ r s t,zHv.run r t s=zf 0 (gp 3 t) fun v0=>zd false 1 v0 s fun v1 s=>j4 [V.nil 1] 2 fun l3z=>zp 1 v1 fun x3_0=>qY x3_0 0 l3z fun l3_0=>zp 1 (gp 1 t) fun x3_1=>qY x3_1 1 l3_0 fun l3_1=>Go.Ev.newRow s 29 l3_1 false fun a3k _ s=>zf 1 (gp 3 t) fun v4=>zd false 1 v4 s fun v5 s=>j4 [V.nil 1] 2 fun l7z=>zp 1 v5 fun x7_0=>qY x7_0 0 l7z fun l7_0=>zp 1 (gp 2 t) fun x7_1=>qY x7_1 1 l7_0 fun l7_1=>Go.Ev.newRow s 29 l7_1 false fun a7k _ s=>zD (r.det.call 52 [(V.sl a3k 0 0 2 2)] s) fun v8 s=>zd false 1 v4 s fun v9 s=>zet (yS v9 v5) (zD (r.det.call 52 [(V.sl a7k 0 0 2 2)] s) fun v10 s=>.nrm (sp 8 v10 (sp 7 v8 t)) s) eA:=zaq 13
theorem zCO:∀ r s t,zGE.run r t s=.nrm (sp 9 (V.nat .i64 0) t) s:=ze 1
theorem zws:∀ r s t,zAF.run r t s=(zru (zgW (zqH (zez (zlS yk))))).run r.det t [] s:=zcb (by kernel_rfl) (zdQ rfl (by kernel_rfl) (zdQ rfl (by kernel_rfl) (zdQ rfl (by kernel_rfl) (zdQ rfl (by kernel_rfl) zKO))))
theorem zwv:∀ r s t,zC3.run r t s=zk ⟨9,[]⟩ false .add (gp 9 t) (V.nat .i64 1) fun v1=>.nrm (sp 9 v1 t) s:=ze 3
theorem zyk:∀ r s t,zCt.run r t s=yg 3 1 (gp 7 t) (some (gp 9 t)) none none s fun v2=>yg 3 1 (gp 8 t) (some (gp 9 t)) none none s fun v5=>zp 1 v2 fun x6_0=>qY x6_0 0 [V.nil 1,V.nil 1] fun l6_0=>zp 1 v5 fun x6_1=>qY x6_1 1 l6_0 fun l6_1=>zJ 2 (gp 6 t) (V.ls 0 l6_1) s fun _ s=>.nrm t s:=zaq 8
theorem zLA:z3 zza=33:=by kernel_rfl
theorem zh2:∀ r s t,zid.run r t s=za (fun t s=>r.code zbA zza t s) (za (fun t s=>zE 1 (zC3.run r t s)) (za (fun t s=>zu (gp 10 t) (.nrm t s) (.ext 0 t s)) (zAF.run r t s))):=by intros;kernel_rfl
theorem zhw:type_of% (aI zCS <| aI zEk <| aI zCO <| aI zws <| aI zwv <| aI zyk <| zLF):=aI zCS <| aI zEk <| aI zCO <| aI zws <| aI zwv <| aI zyk <| zLF
def zeK:FI:=⟨8184,13,4⟩
def zgo:=qe Tryz.prog 59
def zu0:=zl zj zeK (zI [0] zgo)
def zxM:=zI [1,0] zgo
def zxp:=zl zj zeK zxM
def zei:=qOf zj zeK zxM
def zmq:=zei 9 2 (dn 12 9)
def zey:=zei 5 4 (dn 8 5)
def zmN:=zei 0 5 []
def zt3:=zl zj zeK zgo
def ztV:=yi (ql zj zeK (qz Tryz.prog 59)).run
theorem zEf :
 (((∀ r s x0,(fnC zj 59).run r [x0] s=qk (z7 (fun t s=>ztV t s) (zt3.run r (sp 0 x0 T.new) s))) ∧
 ((∀ s t,ztV t s=yW (gp 240 t) (yp [gp 2 t] s)) ∧
 (∀ r s t,zt3.run r t s=za (fun t s=>za (fun t s=>.ret t s) (zxp.run r t s)) (zu0.run r t s)))) ∧
 (((∀ g r s t le,(zmN g).run r t (le) s=zf 0 (gp 1 t) fun v0=>zd false 1 v0 s fun v1 s=>zz v1 fun v2=>zk ⟨9,[]⟩ false .gtr v2 (V.nat .i64 0) fun v3=>g.run r t (v3::v3::v2::v1::v0::le) s) ∧
 (∀ g r s t le,(zey g).run r t (.bool true::le) s=zf 1 (gp 1 t) fun v5=>zd false 1 v5 s fun v6 s=>zz v6 fun v7=>zk ⟨9,[]⟩ false .gtr v7 (V.nat .i64 0) fun v8=>g.run r t (v8::v7::v6::v5::.bool true::le) s)) ∧
 ((∀ g r s t le,(zey g).run r t (.bool false::le) s=g.run r t (Go.Ev.undef::Go.Ev.undef::Go.Ev.undef::Go.Ev.undef::.bool false::le) s) ∧
 (∀ g r s t le x0 x1 x2 x3 x4,(zmq g).run r t (x0::x1::x2::x3::x4::le) s=qL x4 (fun _=>g.run r (sp 2 x0 t) (x0::x0::x0::x1::x2::x3::x4::le) s) (fun _=>g.run r (sp 2 (V.bool false) t) (V.bool false::V.bool false::x0::x1::x2::x3::x4::le) s))))):=by
 and_intros<;>(intros;kernel_rfl)
theorem zrl:∀ r s t,zu0.run r t s=zp 2 (gp 0 t) fun l0=>Go.Ev.newRow s 109 l0 false fun a0k _ s=>.nrm (sp 2 (V.bool false) (sp 1 (V.ptr a0k 0 0) t)) s:=ze 2
theorem znQ:∀ r s t,zxp.run r t s=(zmN (zey (zmq yk))).run r t [] s:=ye (by kernel_rfl) (chS rfl (by kernel_rfl) (chS rfl (by kernel_rfl) chL))
theorem zjZ:type_of% (aI zrl <| aI znQ <| zEf):=aI zrl <| aI znQ <| zEf
def zLe:FI:=⟨248,8,4⟩
def zGT:=qe Tryz.prog 90
def zKq (l:List Nat):=zl zj zLe (zI l zGT)
def zLI:=zKq [0]
def zKu:=zKq [1,0,0,0]
def zLq:=zKq [1,1,0]
def zLc:=zl zj zLe zGT
def zK7:=yi (ql zj zLe (qz Tryz.prog 90)).run
theorem zNi :
 ((∀ r s x0,(fnC zj 90).run r [x0] s=qk (z7 (fun t s=>zK7 t s) (zLc.run r (sp 0 x0 T.new) s))) ∧
 ((∀ s t,zK7 t s=yW (gp 240 t) (yp [gp 2 t] s)) ∧
 (∀ r s t,zLc.run r t s=za (fun t s=>za (fun t s=>za (fun t s=>.ret t s) (zLq.run r t s)) (zu (V.bool false) (za (fun t s=>.ret t s) (zKu.run r t s)) (.nrm t s))) (zLI.run r t s)))):=by
 and_intros<;>(intros;kernel_rfl)
theorem zGe:∀ r s t,zLI.run r t s=.nrm (sp 2 (V.nat .i64 0) t) s:=ze 1
theorem zHM:∀ r s t,zKu.run r t s=yL .u32 (gp 0 t) fun v1=>zD (r.call 147 [v1] s) fun v2 s=>.nrm (sp 2 v2 t) s:=ze 4
theorem zGn:∀ r s t,zLq.run r t s=zD (r.call 148 [gp 0 t] s) fun v1 s=>.nrm (sp 2 v1 t) s:=ze 3
theorem zNx:type_of% (aI zGe <| aI zHM <| aI zGn <| zNi):=aI zGe <| aI zHM <| aI zGn <| zNi
def zzW:FI:=⟨134152096,27,4⟩
def zwE:=qe Tryz.prog 93
def zde (l:List Nat):=zl zj zzW (zI l zwE)
def zEy:=zde [0]
def zCz:=zde [1,0,0]
def zK3:=zde [1,0,1,0]
def zwK:=zde [1,1,0,0]
def zxN:=zde [1,1,0,1,0]
def zyu:=zde [1,1,0,1,1,0]
def ztn:=zde [1,1,1,0]
def zBY:=zl zj zzW zwE
def zDe:=yi (ql zj zzW (qz Tryz.prog 93)).run
theorem zH8 :
 ((∀ r s x0 x1,(fnC zj 93).run r [x0,x1] s=qk (z7 (fun t s=>zDe t s) (zBY.run r (sp 1 x1 (sp 0 x0 T.new)) s))) ∧
 ((∀ s t,zDe t s=yW (gp 240 t) (yp [gp 4 t] s)) ∧
 (∀ r s t,zBY.run r t s=za (fun t s=>za (fun t s=>za (fun t s=>za (fun t s=>.ret t s) (ztn.run r t s)) (za (fun t s=>za (fun t s=>zu (gp 6 t) (zyu.run r t s) (.nrm t s)) (zxN.run r t s)) (zwK.run r t s))) (za (fun t s=>zu (gp 5 t) (zK3.run r t s) (.nrm t s)) (zCz.run r t s))) (zEy.run r t s)))):=by
 and_intros<;>(intros;kernel_rfl)
theorem zyE:∀ r s t,zEy.run r t s=.nrm (sp 4 (V.nil 1) t) s:=ze 1
theorem zxh:∀ r s t,zCz.run r t s=zk ⟨9,[]⟩ false .lss (gp 1 t) (V.nat .i64 0) fun v1=>.nrm (sp 5 v1 t) s:=ze 2
theorem zox:∀ r s t,zwK.run r t s=zKh (gp 0 t) fun v2=>zz (gp 0 t) fun v4=>zk ⟨9,[]⟩ false .sub v2 v4 fun v5=>zk ⟨9,[]⟩ false .sub (gp 1 t) v5 fun v6=>.nrm (sp 1 v6 t) s:=ze 8
theorem zrd:∀ r s t,zxN.run r t s=zk ⟨9,[]⟩ false .gtr (gp 1 t) (V.nat .i64 0) fun v1=>.nrm (sp 6 v1 t) s:=ze 2
theorem zpn:∀ r s t,zyu.run r t s=zKh (gp 0 t) fun v2=>yg 3 1 (gp 0 t) none (some v2) none s fun v3=>zdV 3 1 [V.nat .i64 0] v3 (gp 1 t) s fun v5 s=>zz (gp 0 t) fun v7=>yg 3 1 v5 none (some v7) none s fun v8=>.nrm (sp 0 v8 t) s:=ze 10
theorem znK:∀ r s t,ztn.run r t s=.nrm (sp 4 (gp 0 t) t) s:=ze 2
theorem zCV:type_of% (aI zyE <| aI zxh <| aI zox <| aI zrd <| aI zpn <| aI znK <| zH8):=aI zyE <| aI zxh <| aI zox <| aI zrd <| aI zpn <| aI znK <| zH8
def znf:FI:=⟨16352,14,4⟩
def zjp:=qe Tryz.prog 94
def zCm:=zl zj znf (zI [0] zjp)
def zCj:=zl zj znf (zI [1] zjp)
def zAU:=zl zj znf zjp
def zCw:=yi (ql zj znf (qz Tryz.prog 94)).run
theorem zGx :
 ((∀ r s x0 x1,(fnC zj 94).run r [x0,x1] s=qk (z7 (fun t s=>zCw t s) (zAU.run r (sp 1 x1 (sp 0 x0 T.new)) s))) ∧
 ((∀ s t,zCw t s=yW (gp 240 t) (yp [] s)) ∧
 (∀ r s t,zAU.run r t s=za (fun t s=>zCj.run r t s) (zCm.run r t s)))):=by
 and_intros<;>(intros;kernel_rfl)
theorem zuQ:∀ r s t,zCm.run r t s=zz (gp 0 t) fun v1=>.nrm (sp 4 v1 t) s:=ze 3
theorem zxu:∀ r s t,zCj.run r t s=yL .u64 (gp 4 t) fun v3=>zD (r.call 90 [v3] s) fun v4 s=>zD (r.call 149 [gp 0 t,V.nat .i64 0,gp 4 t,v4,gp 1 t] s) fun _ s=>.nrm t s:=ze 7
theorem zKv:type_of% (aI zuQ <| aI zxu <| zGx):=aI zuQ <| aI zxu <| zGx
def ziH:FI:=⟨16352,14,4⟩
def zgj:=qe Tryz.prog 95
def ztB:=zl zj ziH (zI [0] zgj)
def zvn:=zl zj ziH (zI [1,0] zgj)
def zyl:=zl zj ziH zgj
def ztq:=yi (ql zj ziH (qz Tryz.prog 95)).run
theorem zAP :
 ((∀ r s x0 x1,(fnC zj 95).run r [x0,x1] s=qk (z7 (fun t s=>ztq t s) (zyl.run r (sp 1 x1 (sp 0 x0 T.new)) s))) ∧
 ((∀ s t,ztq t s=yW (gp 240 t) (yp [gp 4 t] s)) ∧
 (∀ r s t,zyl.run r t s=za (fun t s=>za (fun t s=>.ret t s) (zvn.run r t s)) (ztB.run r t s)))):=by
 and_intros<;>(intros;kernel_rfl)
theorem zrj:∀ r s t,ztB.run r t s=.nrm (sp 4 (V.nat .i64 0) t) s:=ze 1
theorem zrB:∀ r s t,zvn.run r t s=zB (gp 0 t) fun v1=>zf 2 v1 fun v2=>zd false 1 v2 s fun v3 s=>zB (gp 1 t) fun v5=>zf 2 v5 fun v6=>zd false 1 v6 s fun v7 s=>zk ⟨9,[]⟩ false .sub v3 v7 fun v8=>.nrm (sp 4 v8 t) s:=zaq 10
theorem zIN:type_of% (aI zrj <| aI zrB <| zAP):=aI zrj <| aI zrB <| zAP
def zaf:FI:=⟨2305825412699119296,61,4⟩
def zaI:=qe Tryz.prog 96
def qn (l:List Nat):=zl zj zaf (zI l zaI)
def zk8:=qn [0]
def zkX:=qn [1,0,0]
def zkC:=qn [1,0,1,0,0]
def zhr:=qn [1,1,0,0]
def zh0:=qn [1,1,0,1,0,0,0,0]
def ziy:=qn [1,1,0,1,0,0,1,0,0,0]
def zho:=qn [1,1,0,1,0,0,1,0,0,1,0,0]
def zim:=qn [1,1,0,1,0,0,1,0,0,1,0,1,0,0]
def zzF:=qn [1,1,0,1,0,0,1,0,0,1,0,1,0,1,0,0,0,0]
def zzA:=qn [1,1,0,1,0,0,1,0,0,1,0,1,0,1,0,0,1,0,0,0]
def zzD:=qn [1,1,0,1,0,0,1,0,0,1,0,1,0,1,0,0,1,0,0,1,0,0]
def zy1:=qn [1,1,0,1,0,0,1,0,0,1,0,1,0,1,0,0,1,0,0,1,0,1]
def zz5:=qn [1,1,0,1,0,0,1,0,0,1,0,1,0,1,0,0,1,1]
def zzm:=zI [1,1,0,1,0,0,1,0,0,1,0,1,0,1,0] zaI
def zzV:=zl zj zaf zzm
def zhp:=qn [1,1,0,1,0,0,1,0,0,1,0,1,1,0]
def zg4:=qn [1,1,0,1,0,0,1,0,0,1,0,1,1,1,0]
def zi4:=qn [1,1,0,1,0,0,1,1]
def zc4:=zI [1,1,0,1,0] zaI
def wO:=zl zj zaf zc4
def zi2:=qn [1,1,1,0]
def zl6:=zl zj zaf zaI
def zmh:=yi (ql zj zaf (qz Tryz.prog 96)).run
theorem zn7 :
 ((∀ r s x0,(fnC zj 96).run r [x0] s=qk (z7 (fun t s=>zmh t s) (zl6.run r (sp 0 x0 T.new) s))) ∧
 ((∀ s t,zmh t s=yW (gp 240 t) (yp [gp 2 t] s)) ∧
 (∀ r s t,zl6.run r t s=za (fun t s=>za (fun t s=>za (fun t s=>za (fun t s=>.ret t s) (zi2.run r t s)) (za (fun t s=>zE 0 (wO.run r t s)) (zhr.run r t s))) (za (fun t s=>zu (gp 6 t) (za (fun t s=>.ret t s) (zkC.run r t s)) (.nrm t s)) (zkX.run r t s))) (zk8.run r t s)))):=by
 and_intros<;>(intros;kernel_rfl)
theorem zhi:∀ r s t,zk8.run r t s=.nrm (sp 2 (V.nil 1) t) s:=ze 1
theorem zib:∀ r s t,zkX.run r t s=zz (gp 0 t) fun v1=>zk ⟨9,[]⟩ false .lss v1 (V.nat .i64 2) fun v2=>.nrm (sp 6 v2 t) s:=ze 3
theorem zhZ:∀ r s t,zkC.run r t s=.nrm (sp 2 (gp 0 t) t) s:=ze 2
theorem zfP:∀ r s t,zhr.run r t s=.nrm (sp 3 (V.nat .i64 1) t) s:=ze 1
theorem zfD:∀ r s t,zh0.run r t s=zz (gp 0 t) fun v2=>zk ⟨9,[]⟩ false .lss (gp 3 t) v2 fun v3=>.nrm (sp 7 v3 t) s:=ze 4
theorem zf5:∀ r s t,ziy.run r t s=zg 1 (gp 0 t) (gp 3 t) fun v2=>zd false 1 v2 s fun v3 s=>zk ⟨9,[]⟩ false .sub (gp 3 t) (V.nat .i64 1) fun v6=>zg 1 (gp 0 t) v6 fun v7=>zd false 1 v7 s fun v8 s=>zbj ⟨1,[]⟩ false v3 v8 s fun v9=>.nrm (sp 8 v9 t) s:=zaq 10
theorem zf4:∀ r s t,zho.run r t s=yg 66 1 (gp 0 t) (some (gp 3 t)) none none s fun v2=>.nrm (sp 4 v2 t) s:=ze 4
theorem zfY:∀ r s t,zim.run r t s=.nrm (sp 5 (V.nat .i64 1) t) s:=ze 1
theorem zf8:∀ r s t,zzF.run r t s=zz (gp 4 t) fun v2=>zk ⟨9,[]⟩ false .lss (gp 5 t) v2 fun v3=>.nrm (sp 9 v3 t) s:=ze 4
theorem zfW:∀ r s t,zzA.run r t s=zg 1 (gp 4 t) (gp 5 t) fun v2=>zd false 1 v2 s fun v3 s=>zk ⟨9,[]⟩ false .sub (gp 5 t) (V.nat .i64 1) fun v6=>zg 1 (gp 4 t) v6 fun v7=>zd false 1 v7 s fun v8 s=>zbj ⟨1,[]⟩ true v3 v8 s fun v9=>.nrm (sp 10 v9 t) s:=zaq 10
theorem zfG:∀ r s t,zzD.run r t s=zg 1 (gp 4 t) (gp 5 t) fun v4=>zd false 1 v4 s fun v5 s=>zg 1 (gp 0 t) (gp 3 t) fun v6=>zJ 1 v6 v5 s fun _ s=>.nrm t s:=ze 8
theorem zf0:∀ r s t,zy1.run r t s=zk ⟨9,[]⟩ false .add (gp 3 t) (V.nat .i64 1) fun v1=>.nrm (sp 3 v1 t) s:=ze 3
theorem zfE:∀ r s t,zz5.run r t s=zk ⟨9,[]⟩ false .add (gp 5 t) (V.nat .i64 1) fun v1=>.nrm (sp 5 v1 t) s:=ze 3
theorem zfM:∀ r s t,zhp.run r t s=yg 66 1 (gp 0 t) (some (gp 3 t)) none none s fun v2=>zEZ 1 [V.nil 0] v2 s fun _ s=>.nrm t s:=ze 4
theorem zfL:∀ r s t,zg4.run r t s=yg 66 1 (gp 0 t) none (some (gp 3 t)) none s fun v2=>.nrm (sp 2 v2 t) s:=ze 4
theorem zf2:∀ r s t,zi4.run r t s=zk ⟨9,[]⟩ false .add (gp 3 t) (V.nat .i64 1) fun v1=>.nrm (sp 3 v1 t) s:=ze 3
theorem zfQ:∀ r s t,zi2.run r t s=.nrm (sp 2 (gp 0 t) t) s:=ze 2
theorem ztk:z3 zc4=100:=by kernel_rfl
theorem zfN:∀ r s t,wO.run r t s=za (fun t s=>r.code zaf zc4 t s) (za (fun t s=>za (fun t s=>zi4.run r t s) (zE 1 (za (fun t s=>zu (gp 8 t) (za (fun t s=>za (fun t s=>za (fun t s=>za (fun t s=>.ret t s) (zg4.run r t s)) (zhp.run r t s)) (za (fun t s=>zE 2 (zzV.run r t s)) (zim.run r t s))) (zho.run r t s)) (.nrm t s)) (ziy.run r t s)))) (za (fun t s=>zu (gp 7 t) (.nrm t s) (.ext 0 t s)) (zh0.run r t s))):=by intros;kernel_rfl
theorem zbJ:type_of% (aI zhi <| aI zib <| aI zhZ <| aI zfP <| aI zfD <| aI zf5 <| aI zf4 <| aI zfY <| aI zf8 <| aI zfW <| aI zfG <| aI zf0 <| aI zfE <| aI zfM <| aI zfL <| aI zf2 <| aI zfQ <| zn7):=aI zhi <| aI zib <| aI zhZ <| aI zfP <| aI zfD <| aI zf5 <| aI zf4 <| aI zfY <| aI zf8 <| aI zfW <| aI zfG <| aI zf0 <| aI zfE <| aI zfM <| aI zfL <| aI zf2 <| aI zfQ <| zn7
def zE5:FI:=⟨4398046510976,42,4⟩
def zEe:=qe Tryz.prog 98
def zry (l:List Nat):=zl zj zE5 (zI l zEe)
def zGq:=zry [0]
def zHT:=zry [1,0]
def zGL:=zry [1,1,0]
def zGu:=zry [1,1,1,0]
def zHX:=zry [1,1,1,1,0]
def zHy:=zl zj zE5 zEe
def zHN:=yi (ql zj zE5 (qz Tryz.prog 98)).run
theorem zKV :
 ((∀ r s x0 x1 x2,(fnC zj 98).run r [x0,x1,x2] s=qk (z7 (fun t s=>zHN t s) (zHy.run r (sp 2 x2 (sp 1 x1 (sp 0 x0 T.new))) s))) ∧
 ((∀ s t,zHN t s=yW (gp 240 t) (yp [gp 6 t] s)) ∧
 (∀ r s t,zHy.run r t s=za (fun t s=>za (fun t s=>za (fun t s=>za (fun t s=>za (fun t s=>.ret t s) (zHX.run r t s)) (zGu.run r t s)) (zGL.run r t s)) (zHT.run r t s)) (zGq.run r t s)))):=by
 and_intros<;>(intros;kernel_rfl)
theorem zAT:∀ r s t,zGq.run r t s=.nrm (sp 6 (V.nat .i64 0) t) s:=ze 1
theorem zEP:∀ r s t,zHT.run r t s=zB (gp 0 t) fun v2=>zf 0 v2 fun v3=>zd false 1 v3 s fun v4 s=>j4 [V.nil 1] 1 fun l5z=>zp 1 (V.nil 1) fun x5_0=>qY x5_0 0 l5z fun l5_0=>Go.Ev.newRow s 178 l5_0 false fun a5k _ s=>zP 178 1 v4 (V.sl a5k 0 0 1 1) s fun v6 s=>zB (gp 0 t) fun v7=>zf 0 v7 fun v8=>zJ 1 v8 v6 s fun _ s=>.nrm t s:=ze 10
theorem zDZ:∀ r s t,zGL.run r t s=zB (gp 0 t) fun v2=>zf 1 v2 fun v3=>zd false 1 v3 s fun v4 s=>j4 [V.bool false] 1 fun l6z=>zp 1 (gp 1 t) fun x6_0=>qY x6_0 0 l6z fun l6_0=>Go.Ev.newRow s 4 l6_0 false fun a6k _ s=>zP 4 1 v4 (V.sl a6k 0 0 1 1) s fun v7 s=>zB (gp 0 t) fun v8=>zf 1 v8 fun v9=>zJ 1 v9 v7 s fun _ s=>.nrm t s:=ze 11
theorem zAC:∀ r s t,zGu.run r t s=zB (gp 0 t) fun v2=>zf 2 v2 fun v3=>zd false 1 v3 s fun v4 s=>j4 [V.nil 1] 1 fun l6z=>zp 1 (gp 2 t) fun x6_0=>qY x6_0 0 l6z fun l6_0=>Go.Ev.newRow s 171 l6_0 false fun a6k _ s=>zP 171 1 v4 (V.sl a6k 0 0 1 1) s fun v7 s=>zB (gp 0 t) fun v8=>zf 2 v8 fun v9=>zJ 1 v9 v7 s fun _ s=>.nrm t s:=ze 11
theorem zA9:∀ r s t,zHX.run r t s=zB (gp 0 t) fun v1=>zf 1 v1 fun v2=>zd false 1 v2 s fun v3 s=>zz v3 fun v4=>zk ⟨9,[]⟩ false .sub v4 (V.nat .i64 1) fun v5=>.nrm (sp 6 v5 t) s:=ze 7
theorem zMr:type_of% (aI zAT <| aI zEP <| aI zDZ <| aI zAC <| aI zA9 <| zKV):=aI zAT <| aI zEP <| aI zDZ <| aI zAC <| aI zA9 <| zKV
def zq3:FI:=⟨232,8,4⟩
def zoU:=qe Tryz.prog 99
def zih (l:List Nat):=zl zj zq3 (zI l zoU)
def zxo:=zih [0]
def zxW:=zih [1,0,0]
def zw5:=zih [1,0,1,0,0]
def zsh:=zih [1,1,0]
def zt8:=zl zj zq3 zoU
def zuv:=yi (ql zj zq3 (qz Tryz.prog 99)).run
theorem zBP :
 ((∀ r s x0,(fnC zj 99).run r [x0] s=qk (z7 (fun t s=>zuv t s) (zt8.run r (sp 0 x0 T.new) s))) ∧
 ((∀ s t,zuv t s=yW (gp 240 t) (yp [gp 2 t] s)) ∧
 (∀ r s t,zt8.run r t s=za (fun t s=>za (fun t s=>za (fun t s=>.ret t s) (zsh.run r t s)) (za (fun t s=>zu (gp 3 t) (za (fun t s=>.ret t s) (zw5.run r t s)) (.nrm t s)) (zxW.run r t s))) (zxo.run r t s)))):=by
 and_intros<;>(intros;kernel_rfl)
theorem zpr:∀ r s t,zxo.run r t s=.nrm (sp 2 (V.nil 1) t) s:=ze 1
theorem zoL:∀ r s t,zxW.run r t s=zk ⟨2,[]⟩ true .eql (gp 0 t) (V.nil 1) fun v1=>.nrm (sp 3 v1 t) s:=ze 2
theorem zpI:∀ r s t,zw5.run r t s=.nrm (sp 2 (V.nil 1) t) s:=ze 1
theorem zlV:∀ r s t,zsh.run r t s=j4 [V.nil 0] 0 fun l0z=>Go.Ev.newRow s 66 l0z false fun a0k _ s=>zP 66 1 (V.sl a0k 0 0 0 0) (gp 0 t) s fun v2 s=>.nrm (sp 2 v2 t) s:=ze 4
theorem zvX:type_of% (aI zpr <| aI zoL <| aI zpI <| aI zlV <| zBP):=aI zpr <| aI zoL <| aI zpI <| aI zlV <| zBP
def zjP:FI:=⟨2130705408,31,4⟩
def zk2:=qe Tryz.prog 100
def zcy (l:List Nat):=zl zj zjP (zI l zk2)
def zq8:=zcy [0]
def zoJ:=zcy [1,0]
def zsT:=zcy [1,1,0]
def zr6:=zcy [1,1,1,0,0]
def zs6:=zcy [1,1,1,0,1]
def znV:=zl zj zjP zk2
def zot:=yi (ql zj zjP (qz Tryz.prog 100)).run
theorem zyA :
 ((∀ r s x0 x1 x2 x3 x4 x5 x6,(fnC zj 100).run r [x0,x1,x2,x3,x4,x5,x6] s=qk (z7 (fun t s=>zot t s) (znV.run r (sp 6 x6 (sp 5 x5 (sp 4 x4 (sp 3 x3 (sp 2 x2 (sp 1 x1 (sp 0 x0 T.new))))))) s))) ∧
 ((∀ s t,zot t s=yW (gp 240 t) (yp [] s)) ∧
 (∀ r s t,znV.run r t s=za (fun t s=>za (fun t s=>za (fun t s=>zu (gp 10 t) (za (fun t s=>zs6.run r t s) (zr6.run r t s)) (.nrm t s)) (zsT.run r t s)) (zoJ.run r t s)) (zq8.run r t s)))):=by
 and_intros<;>(intros;kernel_rfl)
theorem zkh:∀ r s t,zq8.run r t s=zp 2 (gp 0 t) fun l0=>Go.Ev.newRow s 107 l0 false fun a0k _ s=>.nrm (sp 7 (V.ptr a0k 0 0) t) s:=ze 1
theorem zmx:∀ r s t,zoJ.run r t s=zd false 1 (gp 3 t) s fun v0 s=>zd true 2 (gp 7 t) s fun v1 s=>zd false 1 (gp 4 t) s fun v2 s=>zd false 1 (gp 5 t) s fun v3 s=>zg 2 v2 v3 fun v4=>zd true 2 v4 s fun v5 s=>j4 [V.nat .i64 0,V.nat .i64 0] 1 fun l6z=>zp 2 v5 fun x6_0=>qY x6_0 0 l6z fun l6_0=>Go.Ev.newRow s 107 l6_0 false fun a6k _ s=>zaa ⟨6,[7,7]⟩ (V.nil 1) v0 v1 s fun v7 s=>zU 0 v7 fun v8=>zU 1 v7 fun v9=>zP 107 2 v8 (V.sl a6k 0 0 1 1) s fun v10 s=>wh v0 v9 v10 s fun _ s=>.nrm t s:=zaq 12
theorem zkz:∀ r s t,zsT.run r t s=zd false 1 (gp 6 t) s fun v0 s=>zd true 2 (gp 7 t) s fun v1 s=>z4 ⟨6,[7,7]⟩ (V.nat .i64 0) false v0 v1 s fun v2=>zk ⟨7,[]⟩ true .eql v2 (V.nat .i64 0) fun v3=>.nrm (sp 10 v3 t) s:=ze 4
theorem zl5:∀ r s t,zr6.run r t s=zd false 1 (gp 6 t) s fun v0 s=>zd true 2 (gp 7 t) s fun v1 s=>qw ⟨6,[7,7]⟩ v0 v1 (V.nat .i64 1) s fun _ s=>.nrm t s:=ze 3
theorem zmr:∀ r s t,zs6.run r t s=zd false 1 (gp 4 t) s fun v0 s=>zd true 2 (gp 7 t) s fun v1 s=>j4 [V.nat .i64 0,V.nat .i64 0] 1 fun l2z=>zp 2 v1 fun x2_0=>qY x2_0 0 l2z fun l2_0=>Go.Ev.newRow s 107 l2_0 false fun a2k _ s=>zP 107 2 v0 (V.sl a2k 0 0 1 1) s fun v3 s=>zJ 1 (gp 4 t) v3 s fun _ s=>.nrm t s:=ze 5
theorem zpb:type_of% (aI zkh <| aI zmx <| aI zkz <| aI zl5 <| aI zmr <| zyA):=aI zkh <| aI zmx <| aI zkz <| aI zl5 <| aI zmr <| zyA
def zz2:FI:=⟨33537768,25,4⟩
def zvZ:=qe Tryz.prog 148
def wP (l:List Nat):=zl zj zz2 (zI l zvZ)
def zA2:=wP [0]
def zBI:=wP [1,0,0]
def zBx:=wP [1,0,1,0,0]
def zDx:=wP [1,0,1,0,1]
def zvM:=wP [1,1,0,0]
def zv9:=wP [1,1,0,1,0,0]
def zuC:=wP [1,1,0,1,0,1]
def zvw:=wP [1,1,1,0,0]
def zvp:=wP [1,1,1,0,1,0,0]
def zwB:=wP [1,1,1,0,1,0,1]
def zv1:=wP [1,1,1,1,0]
def zD4:=zl zj zz2 zvZ
def zDb:=yi (ql zj zz2 (qz Tryz.prog 148)).run
theorem zHk :
 ((∀ r s x0,(fnC zj 148).run r [x0] s=qk (z7 (fun t s=>zDb t s) (zD4.run r (sp 0 x0 T.new) s))) ∧
 ((∀ s t,zDb t s=yW (gp 240 t) (yp [gp 2 t] s)) ∧
 (∀ r s t,zD4.run r t s=za (fun t s=>za (fun t s=>za (fun t s=>za (fun t s=>za (fun t s=>.ret t s) (zv1.run r t s)) (za (fun t s=>zu (gp 5 t) (za (fun t s=>zwB.run r t s) (zvp.run r t s)) (.nrm t s)) (zvw.run r t s))) (za (fun t s=>zu (gp 4 t) (za (fun t s=>zuC.run r t s) (zv9.run r t s)) (.nrm t s)) (zvM.run r t s))) (za (fun t s=>zu (gp 3 t) (za (fun t s=>zDx.run r t s) (zBx.run r t s)) (.nrm t s)) (zBI.run r t s))) (zA2.run r t s)))):=by
 and_intros<;>(intros;kernel_rfl)
theorem zud:∀ r s t,zA2.run r t s=.nrm (sp 2 (V.nat .i64 0) t) s:=ze 1
theorem ztm:∀ r s t,zBI.run r t s=zk ⟨9,[]⟩ false .geq (gp 0 t) (V.nat .u64 4294967296) fun v1=>.nrm (sp 3 v1 t) s:=ze 2
theorem zxi:∀ r s t,zBx.run r t s=zdg .shr (gp 0 t) (V.nat .u64 32) fun v1=>.nrm (sp 0 v1 t) s:=ze 3
theorem ztw:∀ r s t,zDx.run r t s=.nrm (sp 2 (V.nat .i64 32) t) s:=ze 1
theorem zqh:∀ r s t,zvM.run r t s=zk ⟨9,[]⟩ false .geq (gp 0 t) (V.nat .u64 65536) fun v1=>.nrm (sp 4 v1 t) s:=ze 2
theorem zpz:∀ r s t,zv9.run r t s=zdg .shr (gp 0 t) (V.nat .u64 16) fun v1=>.nrm (sp 0 v1 t) s:=ze 3
theorem zr9:∀ r s t,zuC.run r t s=zk ⟨9,[]⟩ false .add (gp 2 t) (V.nat .i64 16) fun v1=>.nrm (sp 2 v1 t) s:=ze 3
theorem znA:∀ r s t,zvw.run r t s=zk ⟨9,[]⟩ false .geq (gp 0 t) (V.nat .u64 256) fun v1=>.nrm (sp 5 v1 t) s:=ze 2
theorem zpe:∀ r s t,zvp.run r t s=zdg .shr (gp 0 t) (V.nat .u64 8) fun v1=>.nrm (sp 0 v1 t) s:=ze 3
theorem zoj:∀ r s t,zwB.run r t s=zk ⟨9,[]⟩ false .add (gp 2 t) (V.nat .i64 8) fun v1=>.nrm (sp 2 v1 t) s:=ze 3
theorem zsj:∀ r s t,zv1.run r t s=yL .u8 (gp 0 t) fun v2=>zhQ (V.str [0,1,2,2,3,3,3,3,4,4,4,4,4,4,4,4,5,5,5,5,5,5,5,5,5,5,5,5,5,5,5,5,6,6,6,6,6,6,6,6,6,6,6,6,6,6,6,6,6,6,6,6,6,6,6,6,6,6,6,6,6,6,6,6,7,7,7,7,7,7,7,7,7,7,7,7,7,7,7,7,7,7,7,7,7,7,7,7,7,7,7,7,7,7,7,7,7,7,7,7,7,7,7,7,7,7,7,7,7,7,7,7,7,7,7,7,7,7,7,7,7,7,7,7,7,7,7,7,8,8,8,8,8,8,8,8,8,8,8,8,8,8,8,8,8,8,8,8,8,8,8,8,8,8,8,8,8,8,8,8,8,8,8,8,8,8,8,8,8,8,8,8,8,8,8,8,8,8,8,8,8,8,8,8,8,8,8,8,8,8,8,8,8,8,8,8,8,8,8,8,8,8,8,8,8,8,8,8,8,8,8,8,8,8,8,8,8,8,8,8,8,8,8,8,8,8,8,8,8,8,8,8,8,8,8,8,8,8,8,8,8,8,8,8,8,8,8,8,8,8,8,8,8,8,8,8]) v2 fun v3=>yL .i64 v3 fun v4=>zk ⟨9,[]⟩ false .add (gp 2 t) v4 fun v5=>.nrm (sp 2 v5 t) s:=ze 7
theorem zJ4:type_of% (aI zud <| aI ztm <| aI zxi <| aI ztw <| aI zqh <| aI zpz <| aI zr9 <| aI znA <| aI zpe <| aI zoj <| aI zsj <| zHk):=aI zud <| aI ztm <| aI zxi <| aI ztw <| aI zqh <| aI zpz <| aI zr9 <| aI znA <| aI zpe <| aI zoj <| aI zsj <| zHk
def zbz:FI:=⟨356811880641193946689691826088336933575983104,148,4⟩
def zeV:=qe Tryz.prog 149
def qP (l:List Nat):=zl zj zbz (zI l zeV)
def zHw:=qP [0]
def zGS:=qP [1,0]
def zHh:=qP [1,1,0,0,0,0]
def zCQ:=qP [1,1,0,0,0,1,0,0]
def zDo:=qP [1,1,0,0,0,1,0,1,0,0]
def zBG:=qP [1,1,0,0,0,1,1,0,0]
def zEi:=qP [1,1,0,0,0,1,1,0,1,0,0]
def zEj:=qP [1,1,0,0,0,1,1,1,0,0]
def zDJ:=qP [1,1,0,0,0,1,1,1,0,1,0,0]
def zAy:=qP [1,1,0,0,0,1,1,1,0,1,0,1]
def zCC:=qP [1,1,0,0,0,1,1,1,1,0]
def zDl:=qP [1,1,0,0,0,1,1,1,1,1,0,0]
def zCu:=qP [1,1,0,0,0,1,1,1,1,1,0,1,0,0]
def zDd:=qP [1,1,0,0,0,1,1,1,1,1,0,1,0,1,0]
def zEN:=qP [1,1,0,0,0,1,1,1,1,1,0,1,0,1,1]
def zBJ:=zI [1,1,0,0,0,1,1,1,1,1,1,0,0] zeV
def zDV:=zl zj zbz zBJ
def za0:=qOf zj zbz zBJ
def zoH:=za0 7 1 (dn 75 7)
def zgl:=za0 5 2 (dn 73 5)
def zqT:=za0 3 2 [71,70,69]
def zgi:=za0 2 1 [70,69]
def zs2:=za0 0 2 []
def zAf:=qP [1,1,0,0,0,1,1,1,1,1,1,0,1,0,0]
def zhP:=zI [1,1,0,0,0,1,1,1,1,1,1,1,0,0] zeV
def zC5:=zl zj zbz zhP
def zke:=zaD zj zbz zhP 16 1 [97,96,95,94,93,92,91,90,89,88,87,86,85,84,83,82]
def zgh:=zaD zj zbz zhP 3 13 [84,83,82]
def zqC:=zaD zj zbz zhP 0 3 []
def zAv:=qP [1,1,0,0,0,1,1,1,1,1,1,1,0,1,0,0]
def zDM:=qP [1,1,0,0,0,1,1,1,1,1,1,1,0,1,0,1,0]
def zEs:=qP [1,1,0,0,0,1,1,1,1,1,1,1,1,0]
def zAR:=qP [1,1,0,0,0,1,1,1,1,1,1,1,1,1,0]
def zEc:=qP [1,1,0,0,0,1,1,1,1,1,1,1,1,1,1,0]
def zC6:=qP [1,1,0,0,0,1,1,1,1,1,1,1,1,1,1,1,0]
def zBb:=qP [1,1,0,0,0,1,1,1,1,1,1,1,1,1,1,1,1,0]
def zB6:=qP [1,1,0,0,0,1,1,1,1,1,1,1,1,1,1,1,1,1,0,0]
def zEM:=qP [1,1,0,0,0,1,1,1,1,1,1,1,1,1,1,1,1,1,0,1,0]
def zDA:=qP [1,1,0,0,0,1,1,1,1,1,1,1,1,1,1,1,1,1,0,1,1]
def zDz:=qP [1,1,0,0,0,1,1,1,1,1,1,1,1,1,1,1,1,1,1,0]
def zD3:=qP [1,1,0,0,0,1,1,1,1,1,1,1,1,1,1,1,1,1,1,1,0]
def zCx:=qP [1,1,0,0,0,1,1,1,1,1,1,1,1,1,1,1,1,1,1,1,1]
def zHB:=zI [1,1,0] zeV
def zGo:=zl zj zbz zHB
def zHS:=zl zj zbz zeV
def zH0:=yi (ql zj zbz (qz Tryz.prog 149)).run
theorem zLW :
 ((((∀ r s x0 x1 x2 x3 x4,(fnC zj 149).run r [x0,x1,x2,x3,x4] s=qk (z7 (fun t s=>zH0 t s) (zHS.run r (sp 4 x4 (sp 3 x3 (sp 2 x2 (sp 1 x1 (sp 0 x0 T.new))))) s))) ∧
 ((∀ s t,zH0 t s=yW (gp 240 t) (yp [] s)) ∧
 (∀ r s t,zHS.run r t s=za (fun t s=>za (fun t s=>zE 0 (zGo.run r t s)) (zGS.run r t s)) (zHw.run r t s)))) ∧
 (((∀ g r s t le,(zs2 g).run r t (le) s=g.run r t (gp 10 t::gp 10 t::le) s) ∧
 (∀ g r s t le,(zgi g).run r t (.bool true::le) s=g.run r t (gp 11 t::.bool true::le) s)) ∧
 ((∀ g r s t le,(zgi g).run r t (.bool false::le) s=g.run r t (Go.Ev.undef::.bool false::le) s) ∧
 (∀ g r s t le x0 x1,(zqT g).run r t (x0::x1::le) s=qL x1 (fun _=>g.run r t (x0::x0::x0::x1::le) s) (fun _=>g.run r t (V.bool false::V.bool false::x0::x1::le) s))))) ∧
 (((∀ g r s t le,(zgl g).run r t (.bool true::le) s=zk ⟨7,[]⟩ true .eql (gp 14 t) (V.nat .i64 1) fun v6=>g.run r t (v6::gp 14 t::.bool true::le) s) ∧
 ((∀ g r s t le,(zgl g).run r t (.bool false::le) s=g.run r t (Go.Ev.undef::Go.Ev.undef::.bool false::le) s) ∧
 (∀ g r s t le x0 x1 x2,(zoH g).run r t (x0::x1::x2::le) s=qL x2 (fun _=>g.run r (sp 25 x0 t) (x0::x0::x1::x2::le) s) (fun _=>g.run r (sp 25 (V.bool false) t) (V.bool false::x0::x1::x2::le) s)))) ∧
 (((∀ g r s t le,(zqC g).run r t (le) s=zk ⟨9,[]⟩ false .gtr (gp 1 t) (V.nat .i64 0) fun v1=>g.run r t (v1::v1::gp 1 t::le) s) ∧
 (∀ g r s t le,(zgh g).run r t (.bool true::le) s=zk ⟨9,[]⟩ false .sub (gp 1 t) (V.nat .i64 1) fun v6=>zg 1 (gp 0 t) v6 fun v7=>zd false 1 v7 s fun v8 s=>zg 1 (gp 0 t) (gp 13 t) fun v11=>zd false 1 v11 s fun v12 s=>jz r (gp 4 t) [v8,v12] t s fun v13 s=>zk ⟨9,[]⟩ false .lss v13 (V.nat .i64 0) fun v14=>xUn .not v14 fun v15=>g.run r t (v15::v14::v13::v12::v11::gp 13 t::gp 0 t::v8::v7::v6::gp 1 t::gp 0 t::gp 4 t::.bool true::le) s)) ∧
 ((∀ g r s t le,(zgh g).run r t (.bool false::le) s=g.run r t (Go.Ev.undef::Go.Ev.undef::Go.Ev.undef::Go.Ev.undef::Go.Ev.undef::Go.Ev.undef::Go.Ev.undef::Go.Ev.undef::Go.Ev.undef::Go.Ev.undef::Go.Ev.undef::Go.Ev.undef::Go.Ev.undef::.bool false::le) s) ∧
 (∀ g r s t le x0 x1 x2 x3 x4 x5 x6 x7 x8 x9 x10 x11 x12 x13,(zke g).run r t (x0::x1::x2::x3::x4::x5::x6::x7::x8::x9::x10::x11::x12::x13::le) s=qL x13 (fun _=>g.run r (sp 27 x0 t) (x0::x0::x1::x2::x3::x4::x5::x6::x7::x8::x9::x10::x11::x12::x13::le) s) (fun _=>g.run r (sp 27 (V.bool false) t) (V.bool false::x0::x1::x2::x3::x4::x5::x6::x7::x8::x9::x10::x11::x12::x13::le) s)))))):=by
 and_intros<;>(intros;kernel_rfl)
theorem zER:∀ r s t,zHw.run r t s=.nrm (sp 10 (V.bool true) t) s:=ze 1
theorem zCr:∀ r s t,zGS.run r t s=.nrm (sp 11 (V.bool true) t) s:=ze 1
theorem zAL:∀ r s t,zHh.run r t s=zk ⟨9,[]⟩ false .sub (gp 2 t) (gp 1 t) fun v2=>.nrm (sp 12 v2 t) s:=ze 4
theorem zxY:∀ r s t,zCQ.run r t s=zk ⟨9,[]⟩ false .leq (gp 12 t) (V.nat .i64 12) fun v1=>.nrm (sp 21 v1 t) s:=ze 2
theorem zxw:∀ r s t,zDo.run r t s=zD (r.call 186 [gp 0 t,gp 1 t,gp 2 t,gp 4 t] s) fun _ s=>.nrm t s:=ze 5
theorem zyg:∀ r s t,zBG.run r t s=zk ⟨7,[]⟩ true .eql (gp 3 t) (V.nat .i64 0) fun v1=>.nrm (sp 22 v1 t) s:=ze 2
theorem zuw:∀ r s t,zEi.run r t s=zD (r.call 187 [gp 0 t,gp 1 t,gp 2 t,gp 4 t] s) fun _ s=>.nrm t s:=ze 5
theorem zvV:∀ r s t,zEj.run r t s=xUn .not (gp 10 t) fun v1=>.nrm (sp 23 v1 t) s:=ze 2
theorem zuL:∀ r s t,zDJ.run r t s=zD (r.call 188 [gp 0 t,gp 1 t,gp 2 t,gp 4 t] s) fun _ s=>.nrm t s:=ze 5
theorem zwp:∀ r s t,zAy.run r t s=zk ⟨9,[]⟩ false .sub (gp 3 t) (V.nat .i64 1) fun v1=>.nrm (sp 3 v1 t) s:=ze 3
theorem zvJ:∀ r s t,zCC.run r t s=zD (r.call 189 [gp 0 t,gp 1 t,gp 2 t,gp 4 t] s) fun v4 s=>zU 0 v4 fun v6=>zU 1 v4 fun v7=>.nrm (sp 14 v7 (sp 13 v6 t)) s:=ze 10
theorem zye:∀ r s t,zDl.run r t s=zk ⟨7,[]⟩ true .eql (gp 14 t) (V.nat .i64 2) fun v1=>.nrm (sp 24 v1 t) s:=ze 2
theorem ztD:∀ r s t,zCu.run r t s=zD (r.call 190 [gp 0 t,gp 1 t,gp 2 t,gp 4 t] s) fun _ s=>.nrm t s:=ze 5
theorem zvK:∀ r s t,zDd.run r t s=zk ⟨9,[]⟩ false .sub (gp 2 t) (V.nat .i64 1) fun v1=>zk ⟨9,[]⟩ false .sub (gp 13 t) (gp 1 t) fun v4=>zk ⟨9,[]⟩ false .sub v1 v4 fun v5=>.nrm (sp 13 v5 t) s:=ze 7
theorem zu8:∀ r s t,zEN.run r t s=.nrm (sp 14 (V.nat .i64 1) t) s:=ze 1
theorem zyi:∀ r s t,zDV.run r t s=(zs2 (zgi (zqT (zgl (zoH yk))))).run r t [] s:=ye (by kernel_rfl) (chS rfl (by kernel_rfl) (chS rfl (by kernel_rfl) (chS rfl (by kernel_rfl) (chS rfl (by kernel_rfl) chL))))
theorem zwk:∀ r s t,zAf.run r t s=zD (r.call 191 [gp 0 t,gp 1 t,gp 2 t,gp 4 t] s) fun v4 s=>.nrm (sp 26 v4 t) s:=ze 5
theorem zvm:∀ r s t,zC5.run r t s=(zqC (zgh (zke yk))).run r.det t [] s:=zcb (by kernel_rfl) (zdQ rfl (by kernel_rfl) (zdQ rfl (by kernel_rfl) zKO))
theorem zvS:∀ r s t,zAv.run r t s=zD (r.call 192 [gp 0 t,gp 1 t,gp 2 t,gp 13 t,gp 4 t] s) fun v5 s=>.nrm (sp 15 v5 t) s:=ze 7
theorem zyv:∀ r s t,zDM.run r t s=.nrm (sp 1 (gp 15 t) t) s:=ze 2
theorem ztI:∀ r s t,zEs.run r t s=zD (r.call 193 [gp 0 t,gp 1 t,gp 2 t,gp 13 t,gp 4 t] s) fun v5 s=>zU 0 v5 fun v7=>zU 1 v5 fun v8=>.nrm (sp 17 v8 (sp 16 v7 t)) s:=ze 11
theorem zwz:∀ r s t,zAR.run r t s=.nrm (sp 11 (gp 17 t) t) s:=ze 2
theorem zwM:∀ r s t,zEc.run r t s=zk ⟨9,[]⟩ false .sub (gp 16 t) (gp 1 t) fun v2=>zk ⟨9,[]⟩ false .sub (gp 2 t) (gp 16 t) fun v5=>.nrm (sp 19 v5 (sp 18 v2 t)) s:=ze 8
theorem zu3:∀ r s t,zC6.run r t s=zk ⟨9,[]⟩ false .quo (gp 12 t) (V.nat .i64 8) fun v1=>.nrm (sp 20 v1 t) s:=ze 3
theorem zxV:∀ r s t,zBb.run r t s=zk ⟨9,[]⟩ false .lss (gp 18 t) (gp 19 t) fun v2=>.nrm (sp 28 v2 t) s:=ze 3
theorem zto:∀ r s t,zB6.run r t s=zk ⟨9,[]⟩ false .geq (gp 18 t) (gp 20 t) fun v2=>.nrm (sp 10 v2 t) s:=ze 4
theorem zxL:∀ r s t,zEM.run r t s=zD (r.call 149 [gp 0 t,gp 1 t,gp 16 t,gp 3 t,gp 4 t] s) fun _ s=>.nrm t s:=ze 6
theorem ztO:∀ r s t,zDA.run r t s=zk ⟨9,[]⟩ false .add (gp 16 t) (V.nat .i64 1) fun v1=>.nrm (sp 1 v1 t) s:=ze 3
theorem zya:∀ r s t,zDz.run r t s=zk ⟨9,[]⟩ false .geq (gp 19 t) (gp 20 t) fun v2=>.nrm (sp 10 v2 t) s:=ze 4
theorem zvW:∀ r s t,zD3.run r t s=zk ⟨9,[]⟩ false .add (gp 16 t) (V.nat .i64 1) fun v2=>zD (r.call 149 [gp 0 t,v2,gp 2 t,gp 3 t,gp 4 t] s) fun _ s=>.nrm t s:=ze 7
theorem zyT:∀ r s t,zCx.run r t s=.nrm (sp 2 (gp 16 t) t) s:=ze 2
theorem zLb:∀ r s t,zGo.run r t s=za (fun t s=>r.code zbz zHB t s) (zE 1 (za (fun t s=>za (fun t s=>za (fun t s=>za (fun t s=>za (fun t s=>za (fun t s=>za (fun t s=>za (fun t s=>za (fun t s=>za (fun t s=>za (fun t s=>za (fun t s=>za (fun t s=>zu (gp 28 t) (za (fun t s=>za (fun t s=>zDA.run r t s) (zEM.run r t s)) (zB6.run r t s)) (za (fun t s=>za (fun t s=>zCx.run r t s) (zD3.run r t s)) (zDz.run r t s))) (zBb.run r t s)) (zC6.run r t s)) (zEc.run r t s)) (zAR.run r t s)) (zEs.run r t s)) (za (fun t s=>zu (gp 27 t) (za (fun t s=>za (fun t s=>.ext 1 t s) (zDM.run r t s)) (zAv.run r t s)) (.nrm t s)) (zC5.run r t s))) (za (fun t s=>zu (gp 25 t) (za (fun t s=>zu (gp 26 t) (.ret t s) (.nrm t s)) (zAf.run r t s)) (.nrm t s)) (zDV.run r t s))) (za (fun t s=>zu (gp 24 t) (za (fun t s=>za (fun t s=>zEN.run r t s) (zDd.run r t s)) (zCu.run r t s)) (.nrm t s)) (zDl.run r t s))) (zCC.run r t s)) (za (fun t s=>zu (gp 23 t) (za (fun t s=>zAy.run r t s) (zDJ.run r t s)) (.nrm t s)) (zEj.run r t s))) (za (fun t s=>zu (gp 22 t) (za (fun t s=>.ret t s) (zEi.run r t s)) (.nrm t s)) (zBG.run r t s))) (za (fun t s=>zu (gp 21 t) (za (fun t s=>.ret t s) (zDo.run r t s)) (.nrm t s)) (zCQ.run r t s))) (zHh.run r t s))):=by intros;kernel_rfl
theorem zMx:type_of% (aI zER <| aI zCr <| aI zAL <| aI zxY <| aI zxw <| aI zyg <| aI zuw <| aI zvV <| aI zuL <| aI zwp <| aI zvJ <| aI zye <| aI ztD <| aI zvK <| aI zu8 <| aI zyi <| aI zwk <| aI zvm <| aI zvS <| aI zyv <| aI ztI <| aI zwz <| aI zwM <| aI zu3 <| aI zxV <| aI zto <| aI zxL <| aI ztO <| aI zya <| aI zvW <| aI zyT <| zLW):=aI zER <| aI zCr <| aI zAL <| aI zxY <| aI zxw <| aI zyg <| aI zuw <| aI zvV <| aI zuL <| aI zwp <| aI zvJ <| aI zye <| aI ztD <| aI zvK <| aI zu8 <| aI zyi <| aI zwk <| aI zvm <| aI zvS <| aI zyv <| aI ztI <| aI zwz <| aI zwM <| aI zu3 <| aI zxV <| aI zto <| aI zxL <| aI ztO <| aI zya <| aI zvW <| aI zyT <| zLW
def zbm:FI:=⟨9007182074854400,53,4⟩
def zee:=qe Tryz.prog 186
def zje (l:List Nat):=zl zj zbm (zI l zee)
def zHn:=zje [0]
def zGg:=zje [1,0,0,0,0]
def zBT:=zje [1,0,0,1,0,0,0]
def ziF:=zI [1,0,0,1,0,0,1,0,0,0,0] zee
def zCo:=zl zj zbm ziF
def zma:=zaD zj zbm ziF 16 1 [34,33,32,31,30,29,28,27,26,25,24,23,22,21,20,19]
def zga:=zaD zj zbm ziF 4 12 [22,21,20,19]
def znj:=zaD zj zbm ziF 0 4 []
def zAj:=zje [1,0,0,1,0,0,1,0,0,1,0,0]
def zAY:=zje [1,0,0,1,0,0,1,0,0,1,1]
def zoM:=zI [1,0,0,1,0,0,1,0] zee
def zem:=zl zj zbm zoM
def zD2:=zje [1,0,0,1,1]
def zzK:=zI [1,0] zee
def zhR:=zl zj zbm zzK
def zGZ:=zl zj zbm zee
def zH7:=yi (ql zj zbm (qz Tryz.prog 186)).run
theorem zJB :
 (((∀ r s x0 x1 x2 x3,(fnC zj 186).run r [x0,x1,x2,x3] s=qk (z7 (fun t s=>zH7 t s) (zGZ.run r (sp 3 x3 (sp 2 x2 (sp 1 x1 (sp 0 x0 T.new)))) s))) ∧
 ((∀ s t,zH7 t s=yW (gp 240 t) (yp [] s)) ∧
 (∀ r s t,zGZ.run r t s=za (fun t s=>zE 0 (zhR.run r t s)) (zHn.run r t s)))) ∧
 (((∀ g r s t le,(znj g).run r t (le) s=zk ⟨9,[]⟩ false .gtr (gp 9 t) (gp 1 t) fun v2=>g.run r t (v2::v2::gp 1 t::gp 9 t::le) s) ∧
 (∀ g r s t le,(zga g).run r t (.bool true::le) s=zg 1 (gp 0 t) (gp 9 t) fun v7=>zd false 1 v7 s fun v8 s=>zk ⟨9,[]⟩ false .sub (gp 9 t) (V.nat .i64 1) fun v11=>zg 1 (gp 0 t) v11 fun v12=>zd false 1 v12 s fun v13 s=>jz r (gp 3 t) [v8,v13] t s fun v14 s=>zk ⟨9,[]⟩ false .lss v14 (V.nat .i64 0) fun v15=>g.run r t (v15::v14::v13::v12::v11::gp 9 t::gp 0 t::v8::v7::gp 9 t::gp 0 t::gp 3 t::.bool true::le) s)) ∧
 ((∀ g r s t le,(zga g).run r t (.bool false::le) s=g.run r t (Go.Ev.undef::Go.Ev.undef::Go.Ev.undef::Go.Ev.undef::Go.Ev.undef::Go.Ev.undef::Go.Ev.undef::Go.Ev.undef::Go.Ev.undef::Go.Ev.undef::Go.Ev.undef::Go.Ev.undef::.bool false::le) s) ∧
 (∀ g r s t le x0 x1 x2 x3 x4 x5 x6 x7 x8 x9 x10 x11 x12,(zma g).run r t (x0::x1::x2::x3::x4::x5::x6::x7::x8::x9::x10::x11::x12::le) s=qL x12 (fun _=>g.run r (sp 11 x0 t) (x0::x0::x1::x2::x3::x4::x5::x6::x7::x8::x9::x10::x11::x12::le) s) (fun _=>g.run r (sp 11 (V.bool false) t) (V.bool false::x0::x1::x2::x3::x4::x5::x6::x7::x8::x9::x10::x11::x12::le) s))))):=by
 and_intros<;>(intros;kernel_rfl)
theorem zEA:∀ r s t,zHn.run r t s=zk ⟨9,[]⟩ false .add (gp 1 t) (V.nat .i64 1) fun v1=>.nrm (sp 8 v1 t) s:=ze 3
theorem zEq:∀ r s t,zGg.run r t s=zk ⟨9,[]⟩ false .lss (gp 8 t) (gp 2 t) fun v2=>.nrm (sp 10 v2 t) s:=ze 3
theorem zuc:∀ r s t,zBT.run r t s=.nrm (sp 9 (gp 8 t) t) s:=ze 2
theorem zyG:∀ r s t,zCo.run r t s=(znj (zga (zma yk))).run r.det t [] s:=zcb (by kernel_rfl) (zdQ rfl (by kernel_rfl) (zdQ rfl (by kernel_rfl) zKO))
theorem zwl:∀ r s t,zAj.run r t s=zk ⟨9,[]⟩ false .sub (gp 9 t) (V.nat .i64 1) fun v4=>zk ⟨9,[]⟩ false .sub (gp 9 t) (V.nat .i64 1) fun v7=>zg 1 (gp 0 t) v7 fun v8=>zd false 1 v8 s fun v9 s=>zg 1 (gp 0 t) (gp 9 t) fun v12=>zd false 1 v12 s fun v13 s=>zg 1 (gp 0 t) (gp 9 t) fun v14=>zJ 1 v14 v9 s fun _ s=>zg 1 (gp 0 t) v4 fun v16=>zJ 1 v16 v13 s fun _ s=>.nrm t s:=zaq 18
theorem ztF:∀ r s t,zAY.run r t s=zk ⟨9,[]⟩ false .sub (gp 9 t) (V.nat .i64 1) fun v1=>.nrm (sp 9 v1 t) s:=ze 3
theorem zuS:∀ r s t,zD2.run r t s=zk ⟨9,[]⟩ false .add (gp 8 t) (V.nat .i64 1) fun v1=>.nrm (sp 8 v1 t) s:=ze 3
theorem zIk:z3 zoM=49:=by kernel_rfl
theorem zLB:z3 zzK=70:=by kernel_rfl
theorem zjj:∀ r s t,zem.run r t s=za (fun t s=>r.code zbm zoM t s) (za (fun t s=>za (fun t s=>zAY.run r t s) (zE 3 (zAj.run r t s))) (za (fun t s=>zu (gp 11 t) (.nrm t s) (.ext 2 t s)) (zCo.run r t s))):=by intros;kernel_rfl
theorem zBO:∀ r s t,zhR.run r t s=za (fun t s=>r.code zbm zzK t s) (za (fun t s=>za (fun t s=>zD2.run r t s) (zE 1 (za (fun t s=>zE 2 (zem.run r t s)) (zBT.run r t s)))) (za (fun t s=>zu (gp 10 t) (.nrm t s) (.ext 0 t s)) (zGg.run r t s))):=by intros;kernel_rfl
theorem ze7:type_of% (aI zEA <| aI zEq <| aI zuc <| aI zyG <| aI zwl <| aI ztF <| aI zuS <| zJB):=aI zEA <| aI zEq <| aI zuc <| aI zyG <| aI zwl <| aI ztF <| aI zuS <| zJB
def zzI:FI:=⟨24,5,4⟩
def zsV:=qe Tryz.prog 97
def zG9:=zl zj zzI (zI [0] zsV)
def zHj:=zl zj zzI (zI [1,0] zsV)
def zH4:=zl zj zzI zsV
def zH5:=yi (ql zj zzI (qz Tryz.prog 97)).run
theorem zKf :
 ((∀ r s x0,(fnC zj 97).run r [x0] s=qk (z7 (fun t s=>zH5 t s) (zH4.run r (sp 0 x0 T.new) s))) ∧
 ((∀ s t,zH5 t s=yW (gp 240 t) (yp [gp 2 t] s)) ∧
 (∀ r s t,zH4.run r t s=za (fun t s=>za (fun t s=>.ret t s) (zHj.run r t s)) (zG9.run r t s)))):=by
 and_intros<;>(intros;kernel_rfl)
theorem zEn:∀ r s t,zG9.run r t s=.nrm (sp 2 (V.str []) t) s:=ze 1
theorem zAE:∀ r s t,zHj.run r t s=zD (r.call 150 [gp 0 t] s) fun v1 s=>.nrm (sp 2 v1 t) s:=ze 3
theorem zM0:type_of% (aI zEn <| aI zAE <| zKf):=aI zEn <| aI zAE <| zKf
def zna:FI:=⟨24,5,4⟩
def zjF:=qe Tryz.prog 150
def zA6:=zl zj zna (zI [0] zjF)
def zEd:=zl zj zna (zI [1,0] zjF)
def zCW:=zl zj zna zjF
def zAN:=yi (ql zj zna (qz Tryz.prog 150)).run
theorem zG3 :
 ((∀ r s x0,(fnC zj 150).run r [x0] s=qk (z7 (fun t s=>zAN t s) (zCW.run r (sp 0 x0 T.new) s))) ∧
 ((∀ s t,zAN t s=yW (gp 240 t) (yp [gp 2 t] s)) ∧
 (∀ r s t,zCW.run r t s=za (fun t s=>za (fun t s=>.ret t s) (zEd.run r t s)) (zA6.run r t s)))):=by
 and_intros<;>(intros;kernel_rfl)
theorem zx7:∀ r s t,zA6.run r t s=.nrm (sp 2 (V.str []) t) s:=ze 1
theorem zuU:∀ r s t,zEd.run r t s=zD (r.call 194 [gp 0 t,V.nat .i64 10] s) fun v1 s=>.nrm (sp 2 v1 t) s:=ze 3
theorem zKc:type_of% (aI zx7 <| aI zuU <| zG3):=aI zx7 <| aI zuU <| zG3
def zea:FI:=⟨18014381321090304,54,4⟩
def zgw:=qe Tryz.prog 194
def yA (l:List Nat):=zl zj zea (zI l zgw)
def zwT:=yA [0]
def zvL:=yA [1,0,0]
def zuz:=zI [1,0,1,0,0,0] zgw
def zuD:=zl zj zea zuz
def zdW:=qOf zj zea zuz
def zkp:=zdW 5 1 (dn 17 5)
def zeq:=zdW 3 2 [15,14,13]
def zkl:=zdW 0 3 []
def zsg:=yA [1,0,1,0,0,1,0,0]
def zrO:=yA [1,0,1,0,1,0]
def zrh:=yA [1,0,1,0,1,1,0]
def zrf:=yA [1,0,1,0,1,1,1,0,0]
def zrK:=yA [1,0,1,0,1,1,1,0,1,0]
def zon:=yA [1,0,1,0,1,1,1,1,0]
def zFy:=yA [1,0,1,0,1,1,1,1,1,0]
def zqr:=yA [1,0,1,0,1,1,1,1,1,1,0,0]
def zFL:=yA [1,0,1,0,1,1,1,1,1,1,0,1,0,0]
def zFP:=yA [1,0,1,0,1,1,1,1,1,1,0,1,0,1,0]
def zF8:=yA [1,0,1,0,1,1,1,1,1,1,1,0]
def zp6:=yA [1,1,0]
def zqE:=yA [1,1,1,0]
def zuN:=zl zj zea zgw
def zwm:=yi (ql zj zea (qz Tryz.prog 194)).run
theorem zCa :
 (((∀ r s x0 x1,(fnC zj 194).run r [x0,x1] s=qk (z7 (fun t s=>zwm t s) (zuN.run r (sp 1 x1 (sp 0 x0 T.new)) s))) ∧
 ((∀ s t,zwm t s=yW (gp 240 t) (yp [gp 4 t] s)) ∧
 (∀ r s t,zuN.run r t s=za (fun t s=>za (fun t s=>za (fun t s=>za (fun t s=>.ret t s) (zqE.run r t s)) (zp6.run r t s)) (za (fun t s=>zu (gp 9 t) (za (fun t s=>za (fun t s=>za (fun t s=>za (fun t s=>za (fun t s=>za (fun t s=>za (fun t s=>za (fun t s=>.ret t s) (zF8.run r t s)) (za (fun t s=>zu (gp 12 t) (za (fun t s=>za (fun t s=>.ret t s) (zFP.run r t s)) (zFL.run r t s)) (.nrm t s)) (zqr.run r t s))) (zFy.run r t s)) (zon.run r t s)) (za (fun t s=>zu (gp 11 t) (zrK.run r t s) (.nrm t s)) (zrf.run r t s))) (zrh.run r t s)) (zrO.run r t s)) (za (fun t s=>zu (gp 10 t) (za (fun t s=>.ret t s) (zsg.run r t s)) (.nrm t s)) (zuD.run r t s))) (.nrm t s)) (zvL.run r t s))) (zwT.run r t s)))) ∧
 (((∀ g r s t le,(zkl g).run r t (le) s=zk ⟨9,[]⟩ false .leq (V.nat .i64 0) (gp 0 t) fun v1=>g.run r t (v1::v1::gp 0 t::le) s) ∧
 (∀ g r s t le,(zeq g).run r t (.bool true::le) s=zk ⟨9,[]⟩ false .lss (gp 0 t) (V.nat .i64 100) fun v4=>g.run r t (v4::gp 0 t::.bool true::le) s)) ∧
 ((∀ g r s t le,(zeq g).run r t (.bool false::le) s=g.run r t (Go.Ev.undef::Go.Ev.undef::.bool false::le) s) ∧
 (∀ g r s t le x0 x1 x2,(zkp g).run r t (x0::x1::x2::le) s=qL x2 (fun _=>g.run r (sp 10 x0 t) (x0::x0::x1::x2::le) s) (fun _=>g.run r (sp 10 (V.bool false) t) (V.bool false::x0::x1::x2::le) s))))):=by
 and_intros<;>(intros;kernel_rfl)
theorem zs0:∀ r s t,zwT.run r t s=.nrm (sp 4 (V.str []) t) s:=ze 1
theorem zov:∀ r s t,zvL.run r t s=zk ⟨7,[]⟩ true .eql (gp 1 t) (V.nat .i64 10) fun v1=>.nrm (sp 9 v1 t) s:=ze 2
theorem znW:∀ r s t,zuD.run r t s=(zkl (zeq (zkp yk))).run r t [] s:=ye (by kernel_rfl) (chS rfl (by kernel_rfl) (chS rfl (by kernel_rfl) chL))
theorem zlO:∀ r s t,zsg.run r t s=zD (r.call 253 [gp 0 t] s) fun v1 s=>.nrm (sp 4 v1 t) s:=ze 3
theorem zkH:∀ r s t,zrO.run r t s=Go.Ev.newRow s 295 [V.nat .u8 0,V.nat .u8 0,V.nat .u8 0,V.nat .u8 0,V.nat .u8 0,V.nat .u8 0,V.nat .u8 0,V.nat .u8 0,V.nat .u8 0,V.nat .u8 0,V.nat .u8 0,V.nat .u8 0,V.nat .u8 0,V.nat .u8 0,V.nat .u8 0,V.nat .u8 0,V.nat .u8 0,V.nat .u8 0,V.nat .u8 0,V.nat .u8 0,V.nat .u8 0,V.nat .u8 0,V.nat .u8 0,V.nat .u8 0] false fun a0k _ s=>.nrm (sp 5 (V.ptr a0k 0 0) t) s:=ze 1
theorem zlc:∀ r s t,zrh.run r t s=yL .u64 (gp 0 t) fun v1=>.nrm (sp 6 v1 t) s:=ze 3
theorem zln:∀ r s t,zrf.run r t s=zk ⟨9,[]⟩ false .lss (gp 0 t) (V.nat .i64 0) fun v1=>.nrm (sp 11 v1 t) s:=ze 2
theorem zkI:∀ r s t,zrK.run r t s=xUn .neg (gp 6 t) fun v1=>.nrm (sp 6 v1 t) s:=ze 3
theorem zk6:∀ r s t,zon.run r t s=zD (r.call 254 [gp 6 t] s) fun v1 s=>.nrm (sp 7 v1 t) s:=ze 3
theorem zmK:∀ r s t,zqr.run r t s=zk ⟨9,[]⟩ false .lss (gp 0 t) (V.nat .i64 0) fun v1=>.nrm (sp 12 v1 t) s:=ze 2
theorem zki:∀ r s t,zp6.run r t s=yL .u64 (gp 0 t) fun v1=>zk ⟨9,[]⟩ false .lss (gp 0 t) (V.nat .i64 0) fun v4=>zD (r.call 256 [V.nil 1,v1,gp 1 t,v4,V.bool false] s) fun v5 s=>zU 0 v5 fun _=>zU 1 v5 fun v8=>.nrm (sp 8 v8 t) s:=ze 11
theorem zlE:∀ r s t,zqE.run r t s=.nrm (sp 4 (gp 8 t) t) s:=ze 2
theorem zIW:type_of% (aI zs0 <| aI zov <| aI znW <| aI zlO <| aI zkH <| aI zlc <| aI zln <| aI zkI <| aI zk6 <| aI zmK <| aI zki <| aI zlE <| zCa):=aI zs0 <| aI zov <| aI znW <| aI zlO <| aI zkH <| aI zlc <| aI zln <| aI zkI <| aI zk6 <| aI zmK <| aI zki <| aI zlE <| zCa
def zz7:FI:=⟨32744,15,4⟩
def zuH:=qe Tryz.prog 253
def zmZ (l:List Nat):=zl zj zz7 (zI l zuH)
def zAg:=zmZ [0]
def zB7:=zmZ [1,0,0]
def zD5:=zmZ [1,0,1,0,0]
def zwn:=zmZ [1,1,0]
def zAH:=zl zj zz7 zuH
def zCN:=yi (ql zj zz7 (qz Tryz.prog 253)).run
theorem zGz :
 ((∀ r s x0,(fnC zj 253).run r [x0] s=qk (z7 (fun t s=>zCN t s) (zAH.run r (sp 0 x0 T.new) s))) ∧
 ((∀ s t,zCN t s=yW (gp 240 t) (yp [gp 2 t] s)) ∧
 (∀ r s t,zAH.run r t s=za (fun t s=>za (fun t s=>za (fun t s=>.ret t s) (zwn.run r t s)) (za (fun t s=>zu (gp 3 t) (za (fun t s=>.ret t s) (zD5.run r t s)) (.nrm t s)) (zB7.run r t s))) (zAg.run r t s)))):=by
 and_intros<;>(intros;kernel_rfl)
theorem zut:∀ r s t,zAg.run r t s=.nrm (sp 2 (V.str []) t) s:=ze 1
theorem zwF:∀ r s t,zB7.run r t s=zk ⟨9,[]⟩ false .lss (gp 0 t) (V.nat .i64 10) fun v1=>.nrm (sp 3 v1 t) s:=ze 2
theorem zuj:∀ r s t,zD5.run r t s=zk ⟨9,[]⟩ false .add (gp 0 t) (V.nat .i64 1) fun v2=>zam (V.str [48,49,50,51,52,53,54,55,56,57,97,98,99,100,101,102,103,104,105,106,107,108,109,110,111,112,113,114,115,116,117,118,119,120,121,122]) (some (gp 0 t)) (some v2) fun v3=>.nrm (sp 2 v3 t) s:=ze 5
theorem zol:∀ r s t,zwn.run r t s=zk ⟨9,[]⟩ false .mul (gp 0 t) (V.nat .i64 2) fun v1=>zk ⟨9,[]⟩ false .mul (gp 0 t) (V.nat .i64 2) fun v3=>zk ⟨9,[]⟩ false .add v3 (V.nat .i64 2) fun v4=>zam (V.str [48,48,48,49,48,50,48,51,48,52,48,53,48,54,48,55,48,56,48,57,49,48,49,49,49,50,49,51,49,52,49,53,49,54,49,55,49,56,49,57,50,48,50,49,50,50,50,51,50,52,50,53,50,54,50,55,50,56,50,57,51,48,51,49,51,50,51,51,51,52,51,53,51,54,51,55,51,56,51,57,52,48,52,49,52,50,52,51,52,52,52,53,52,54,52,55,52,56,52,57,53,48,53,49,53,50,53,51,53,52,53,53,53,54,53,55,53,56,53,57,54,48,54,49,54,50,54,51,54,52,54,53,54,54,54,55,54,56,54,57,55,48,55,49,55,50,55,51,55,52,55,53,55,54,55,55,55,56,55,57,56,48,56,49,56,50,56,51,56,52,56,53,56,54,56,55,56,56,56,57,57,48,57,49,57,50,57,51,57,52,57,53,57,54,57,55,57,56,57,57]) (some v1) (some v4) fun v5=>.nrm (sp 2 v5 t) s:=ze 7
theorem zBK:type_of% (aI zut <| aI zwF <| aI zuj <| aI zol <| zGz):=aI zut <| aI zwF <| aI zuj <| aI zol <| zGz
end
end Go.Proofs.YtlklljjppambpaaGreatDoor.oev
