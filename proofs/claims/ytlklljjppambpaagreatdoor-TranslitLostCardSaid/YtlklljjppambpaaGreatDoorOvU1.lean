/- What the evaluator makes of the functions that the statements reach: one equation for each run of operations, by the kernel. No statement of the seat stands here. No condition. By an AI agent. -/
import Derived.Test.YtlklljjppambpaaGreatDoorOvV
import Derived.Test.YtlklljjppambpaaGreatDoorProg
import Derived.KernelRfl
namespace Go.Proofs.YtlklljjppambpaaGreatDoor.oev
open Go.Ev Go.Proofs
set_option maxRecDepth 100000
noncomputable section
def pcN (hooks:List Hook):PC:=pcM hooks [999999]
def zi:PC:=pcN []
def y8:FI:=⟨5191663033196925340545171079495680,112,4⟩
def wa:=qe Tryz.prog 6
def wN (l:List Nat):=zk zi y8 (zI l wa)
def zz9:=wN [0]
def zD5:=zI [1,0,0] wa
def zB5:=zk zi y8 zD5
def yu:=qOf zi y8 zD5
def zkB:=yu 29 1 (dn 45 29)
def zet:=yu 25 4 (dn 41 25)
def zmj:=yu 23 2 (dn 39 23)
def zer:=yu 19 4 (dn 35 19)
def zjY:=yu 17 2 (dn 33 17)
def zdO:=yu 14 3 (dn 30 14)
def zme:=yu 12 2 (dn 28 12)
def zgf:=yu 9 3 (dn 25 9)
def zo3:=yu 7 2 (dn 23 7)
def zgy:=yu 3 4 [19,18,17]
def zry:=yu 0 3 []
def zCV:=wN [1,0,1,0,0]
def zv5:=wN [1,1,0]
def zvk:=wN [1,1,1,0,0]
def zt8:=zI [1,1,1,0,1,0,0] wa
def zvS:=zk zi y8 zt8
def zex:=qOf zi y8 zt8
def zlE:=zex 4 2 (dn 59 4)
def zdS:=zex 3 1 [58,57,56]
def zlg:=zex 0 3 []
def zyo:=wN [1,1,1,1,0,0]
def zsH:=wN [1,1,1,1,0,1,0,0,0,0]
def zw0:=zI [1,1,1,1,0,1,0,0,1,0,0,0] wa
def zwk:=zk zi y8 zw0
def zeM:=qOf zi y8 zw0
def zlr:=zeM 9 1 (dn 75 9)
def zeR:=zeM 8 1 (dn 74 8)
def zll:=zeM 0 8 []
def zxw:=wN [1,1,1,1,0,1,0,0,1,0,0,1,0,0]
def zth:=wN [1,1,1,1,0,1,0,0,1,1]
def ziV:=zI [1,1,1,1,0,1,0] wa
def zcx:=zk zi y8 ziV
def zxT:=wN [1,1,1,1,1,0]
def zuN:=wN [1,1,1,1,1,1,0]
def zxt:=zI [1,1,1,1,1,1,1,0,0] wa
def zsP:=zk zi y8 zxt
def zai:=qOf zi y8 zxt
def zif:=zai 11 1 (dn 99 11)
def zd5:=zai 7 4 (dn 95 7)
def zkW:=zai 5 2 (dn 93 5)
def zeV:=zai 3 2 [91,90,89]
def zlW:=zai 0 3 []
def zvq:=wN [1,1,1,1,1,1,1,0,1,0,0]
def zs2:=zI [1,1,1,1,1,1,1,1,0] wa
def zuu:=zk zi y8 zs2
def zan:=qOf zi y8 zs2
def ziv:=zan 10 2 (dn 111 10)
def zeS:=zan 9 1 (dn 110 9)
def zml:=zan 7 2 (dn 108 7)
def zeU:=zan 3 4 [104,103,102]
def zkh:=zan 0 3 []
def zCH:=zk zi y8 wa
def zCx:=yb (qm zi y8 (qy Tryz.prog 6)).run
theorem zG9 :
 ((((((∀ r s x0 x1 x2 x3,(fnC zi 6).run r [x0,x1,x2,x3] s=ql (z4 (fun t s=>zCx t s) (zCH.run r (sp 3 x3 (sp 2 x2 (sp 1 x1 (sp 0 x0 T.new)))) s))) ∧
 (∀ s t,zCx t s=yU (gp 240 t) (yj [gp 8 t] s))) ∧
 ((∀ r s t,zCH.run r t s=za (fun t s=>za (fun t s=>za (fun t s=>za (fun t s=>za (fun t s=>za (fun t s=>za (fun t s=>za (fun t s=>za (fun t s=>.ret t s) (zuu.run r t s)) (za (fun t s=>zw (gp 20 t) (za (fun t s=>.ret t s) (zvq.run r t s)) (.nrm t s)) (zsP.run r t s))) (zuN.run r t s)) (zxT.run r t s)) (za (fun t s=>zC 0 (zcx.run r t s)) (zyo.run r t s))) (za (fun t s=>zw (gp 17 t) (za (fun t s=>.ret t s) (zvS.run r t s)) (.nrm t s)) (zvk.run r t s))) (zv5.run r t s)) (za (fun t s=>zw (gp 16 t) (za (fun t s=>.ret t s) (zCV.run r t s)) (.nrm t s)) (zB5.run r t s))) (zz9.run r t s)) ∧
 ((∀ g r s t le,(zry g).run r t (le) s=zG (r.call 7 [gp 0 t] s) fun v1 s=>g.run r t (v1::v1::gp 0 t::le) s) ∧
 (∀ g r s t le,(zgy g).run r t (.bool true::le) s=g.run r t (Go.Ev.undef::Go.Ev.undef::Go.Ev.undef::Go.Ev.undef::.bool true::le) s)))) ∧
 (((∀ g r s t le,(zgy g).run r t (.bool false::le) s=zG (r.call 12 [gp 0 t,gp 1 t] s) fun v5 s=>xUn .not v5 fun v6=>g.run r t (v6::v5::gp 1 t::gp 0 t::.bool false::le) s) ∧
 (∀ g r s t le x0 x1 x2 x3 x4,(zo3 g).run r t (x0::x1::x2::x3::x4::le) s=qx x4 (fun _=>g.run r t (V.bool true::V.bool true::x0::x1::x2::x3::x4::le) s) (fun _=>g.run r t (x0::x0::x0::x1::x2::x3::x4::le) s))) ∧
 ((∀ g r s t le,(zgf g).run r t (.bool true::le) s=g.run r t (Go.Ev.undef::Go.Ev.undef::Go.Ev.undef::.bool true::le) s) ∧
 ((∀ g r s t le,(zgf g).run r t (.bool false::le) s=zt (gp 2 t) fun v10=>zj ⟨9,[]⟩ false .gtr v10 (V.nat .i64 40) fun v11=>g.run r t (v11::v10::gp 2 t::.bool false::le) s) ∧
 (∀ g r s t le x0 x1 x2 x3,(zme g).run r t (x0::x1::x2::x3::le) s=qx x3 (fun _=>g.run r t (V.bool true::V.bool true::x0::x1::x2::x3::le) s) (fun _=>g.run r t (x0::x0::x0::x1::x2::x3::le) s)))))) ∧
 ((((∀ g r s t le,(zdO g).run r t (.bool true::le) s=g.run r t (Go.Ev.undef::Go.Ev.undef::Go.Ev.undef::.bool true::le) s) ∧
 (∀ g r s t le,(zdO g).run r t (.bool false::le) s=zt (gp 3 t) fun v15=>zj ⟨9,[]⟩ false .gtr v15 (V.nat .i64 40) fun v16=>g.run r t (v16::v15::gp 3 t::.bool false::le) s)) ∧
 ((∀ g r s t le x0 x1 x2 x3,(zjY g).run r t (x0::x1::x2::x3::le) s=qx x3 (fun _=>g.run r t (V.bool true::V.bool true::x0::x1::x2::x3::le) s) (fun _=>g.run r t (x0::x0::x0::x1::x2::x3::le) s)) ∧
 ((∀ g r s t le,(zer g).run r t (.bool true::le) s=g.run r t (Go.Ev.undef::Go.Ev.undef::Go.Ev.undef::Go.Ev.undef::.bool true::le) s) ∧
 (∀ g r s t le,(zer g).run r t (.bool false::le) s=zG (r.call 15 [gp 2 t,gp 1 t] s) fun v21 s=>xUn .not v21 fun v22=>g.run r t (v22::v21::gp 1 t::gp 2 t::.bool false::le) s)))) ∧
 (((∀ g r s t le x0 x1 x2 x3 x4,(zmj g).run r t (x0::x1::x2::x3::x4::le) s=qx x4 (fun _=>g.run r t (V.bool true::V.bool true::x0::x1::x2::x3::x4::le) s) (fun _=>g.run r t (x0::x0::x0::x1::x2::x3::x4::le) s)) ∧
 (∀ g r s t le,(zet g).run r t (.bool true::le) s=g.run r t (Go.Ev.undef::Go.Ev.undef::Go.Ev.undef::Go.Ev.undef::.bool true::le) s)) ∧
 ((∀ g r s t le,(zet g).run r t (.bool false::le) s=zG (r.call 15 [gp 3 t,gp 1 t] s) fun v27 s=>xUn .not v27 fun v28=>g.run r t (v28::v27::gp 1 t::gp 3 t::.bool false::le) s) ∧
 ((∀ g r s t le x0 x1 x2 x3 x4,(zkB g).run r t (x0::x1::x2::x3::x4::le) s=qx x4 (fun _=>g.run r (sp 16 (V.bool true) t) (V.bool true::x0::x1::x2::x3::x4::le) s) (fun _=>g.run r (sp 16 x0 t) (x0::x0::x1::x2::x3::x4::le) s)) ∧
 (∀ g r s t le,(zlg g).run r t (le) s=xUn .not (gp 9 t) fun v1=>g.run r t (v1::v1::gp 9 t::le) s)))))) ∧
 (((((∀ g r s t le,(zdS g).run r t (.bool true::le) s=zG (r.call 8 [] s) fun v3 s=>g.run r t (v3::.bool true::le) s) ∧
 (∀ g r s t le,(zdS g).run r t (.bool false::le) s=g.run r t (Go.Ev.undef::.bool false::le) s)) ∧
 ((∀ g r s t le x0 x1,(zlE g).run r t (x0::x1::le) s=qx x1 (fun _=>g.run r (sp 8 x0 t) (x0::x0::x0::x1::le) s) (fun _=>g.run r (sp 8 (V.bool false) t) (V.bool false::V.bool false::x0::x1::le) s)) ∧
 ((∀ g r s t le,(zll g).run r t (le) s=zg 2 (gp 0 t) (gp 11 t) fun v2=>zf 1 v2 fun v3=>zb false 1 v3 s fun v4 s=>zt v4 fun v5=>zj ⟨7,[]⟩ true .eql v5 (V.nat .i64 0) fun v6=>g.run r t (v6::v6::v5::v4::v3::v2::gp 11 t::gp 0 t::le) s) ∧
 (∀ g r s t le,(zeR g).run r t (.bool true::le) s=g.run r t (gp 9 t::.bool true::le) s)))) ∧
 (((∀ g r s t le,(zeR g).run r t (.bool false::le) s=g.run r t (Go.Ev.undef::.bool false::le) s) ∧
 (∀ g r s t le x0 x1,(zlr g).run r t (x0::x1::le) s=qx x1 (fun _=>g.run r (sp 19 x0 t) (x0::x0::x1::le) s) (fun _=>g.run r (sp 19 (V.bool false) t) (V.bool false::x0::x1::le) s))) ∧
 ((∀ g r s t le,(zlW g).run r t (le) s=zj ⟨7,[]⟩ true .neq (gp 13 t) (V.nat .i64 0) fun v1=>g.run r t (v1::v1::gp 13 t::le) s) ∧
 ((∀ g r s t le,(zeV g).run r t (.bool true::le) s=g.run r t (Go.Ev.undef::Go.Ev.undef::.bool true::le) s) ∧
 (∀ g r s t le,(zeV g).run r t (.bool false::le) s=zj ⟨7,[]⟩ true .neq (gp 15 t) (V.nat .i64 0) fun v4=>g.run r t (v4::gp 15 t::.bool false::le) s))))) ∧
 ((((∀ g r s t le x0 x1 x2,(zkW g).run r t (x0::x1::x2::le) s=qx x2 (fun _=>g.run r t (V.bool true::V.bool true::x0::x1::x2::le) s) (fun _=>g.run r t (x0::x0::x0::x1::x2::le) s)) ∧
 (∀ g r s t le,(zd5 g).run r t (.bool true::le) s=g.run r t (Go.Ev.undef::Go.Ev.undef::Go.Ev.undef::Go.Ev.undef::.bool true::le) s)) ∧
 ((∀ g r s t le,(zd5 g).run r t (.bool false::le) s=zG (r.call 20 [gp 2 t,gp 3 t] s) fun v9 s=>zj ⟨7,[]⟩ true .eql v9 (V.nat .i64 0) fun v10=>g.run r t (v10::v9::gp 3 t::gp 2 t::.bool false::le) s) ∧
 ((∀ g r s t le x0 x1 x2 x3 x4,(zif g).run r t (x0::x1::x2::x3::x4::le) s=qx x4 (fun _=>g.run r (sp 20 (V.bool true) t) (V.bool true::x0::x1::x2::x3::x4::le) s) (fun _=>g.run r (sp 20 x0 t) (x0::x0::x1::x2::x3::x4::le) s)) ∧
 (∀ g r s t le,(zkh g).run r t (le) s=xUn .not (gp 9 t) fun v1=>g.run r t (v1::v1::gp 9 t::le) s)))) ∧
 (((∀ g r s t le,(zeU g).run r t (.bool true::le) s=g.run r t (Go.Ev.undef::Go.Ev.undef::Go.Ev.undef::Go.Ev.undef::.bool true::le) s) ∧
 ((∀ g r s t le,(zeU g).run r t (.bool false::le) s=zG (r.call 20 [gp 12 t,gp 14 t] s) fun v5 s=>zj ⟨7,[]⟩ true .neq v5 (V.nat .i64 0) fun v6=>g.run r t (v6::v5::gp 14 t::gp 12 t::.bool false::le) s) ∧
 (∀ g r s t le x0 x1 x2 x3 x4,(zml g).run r t (x0::x1::x2::x3::x4::le) s=qx x4 (fun _=>g.run r t (V.bool true::V.bool true::x0::x1::x2::x3::x4::le) s) (fun _=>g.run r t (x0::x0::x0::x1::x2::x3::x4::le) s)))) ∧
 ((∀ g r s t le,(zeS g).run r t (.bool true::le) s=zG (r.call 8 [] s) fun v9 s=>g.run r t (v9::.bool true::le) s) ∧
 ((∀ g r s t le,(zeS g).run r t (.bool false::le) s=g.run r t (Go.Ev.undef::.bool false::le) s) ∧
 (∀ g r s t le x0 x1,(ziv g).run r t (x0::x1::le) s=qx x1 (fun _=>g.run r (sp 8 x0 t) (x0::x0::x0::x1::le) s) (fun _=>g.run r (sp 8 (V.bool false) t) (V.bool false::V.bool false::x0::x1::le) s)))))))):=by
 and_intros<;>(intros;kernel_rfl)
theorem zvJ:∀ r s t,zz9.run r t s=.nrm (sp 8 (V.bool false) t) s:=ze 1
theorem zvw:∀ r s t,zB5.run r t s=(zry (zgy (zo3 (zgf (zme (zdO (zjY (zer (zmj (zet (zkB yx))))))))))).run r t [] s:=yE (by kernel_rfl) (chS rfl (by kernel_rfl) (chS rfl (by kernel_rfl) (chS rfl (by kernel_rfl) (chS rfl (by kernel_rfl) (chS rfl (by kernel_rfl) (chS rfl (by kernel_rfl) (chS rfl (by kernel_rfl) (chS rfl (by kernel_rfl) (chS rfl (by kernel_rfl) (chS rfl (by kernel_rfl) chL))))))))))
theorem zwp:∀ r s t,zCV.run r t s=zG (r.call 8 [] s) fun v0 s=>.nrm (sp 8 v0 t) s:=ze 2
theorem zr8:∀ r s t,zv5.run r t s=zG (r.call 11 [gp 0 t,gp 1 t] s) fun v2 s=>qh 0 v2 fun v4=>qh 1 v2 fun v5=>.nrm (sp 10 v5 (sp 9 v4 t)) s:=ze 8
theorem zm7:∀ r s t,zvk.run r t s=zj ⟨7,[]⟩ true .neq (gp 10 t) (V.nat .i64 0) fun v1=>.nrm (sp 17 v1 t) s:=ze 2
theorem zrD:∀ r s t,zvS.run r t s=(zlg (zdS (zlE yx))).run r t [] s:=yE (by kernel_rfl) (chS rfl (by kernel_rfl) (chS rfl (by kernel_rfl) chL))
theorem znW:∀ r s t,zyo.run r t s=.nrm (sp 11 (V.nat .i64 0) t) s:=ze 1
theorem zq6:∀ r s t,zsH.run r t s=zt (gp 0 t) fun v2=>zj ⟨9,[]⟩ false .lss (gp 11 t) v2 fun v3=>.nrm (sp 18 v3 t) s:=ze 4
theorem zmW:∀ r s t,zwk.run r t s=(zll (zeR (zlr yx))).run r t [] s:=yE (by kernel_rfl) (chS rfl (by kernel_rfl) (chS rfl (by kernel_rfl) chL))
theorem zrc:∀ r s t,zxw.run r t s=.nrm (sp 8 (V.bool false) t) s:=ze 1
theorem zqJ:∀ r s t,zth.run r t s=zj ⟨9,[]⟩ false .add (gp 11 t) (V.nat .i64 1) fun v1=>.nrm (sp 11 v1 t) s:=ze 3
theorem zsk:∀ r s t,zxT.run r t s=zG (r.call 17 [gp 0 t,gp 2 t] s) fun v2 s=>qh 0 v2 fun v4=>qh 1 v2 fun v5=>.nrm (sp 13 v5 (sp 12 v4 t)) s:=ze 8
theorem zrm:∀ r s t,zuN.run r t s=zG (r.call 17 [gp 0 t,gp 3 t] s) fun v2 s=>qh 0 v2 fun v4=>qh 1 v2 fun v5=>.nrm (sp 15 v5 (sp 14 v4 t)) s:=ze 8
theorem znn:∀ r s t,zsP.run r t s=(zlW (zeV (zkW (zd5 (zif yx))))).run r t [] s:=yE (by kernel_rfl) (chS rfl (by kernel_rfl) (chS rfl (by kernel_rfl) (chS rfl (by kernel_rfl) (chS rfl (by kernel_rfl) chL))))
theorem znN:∀ r s t,zvq.run r t s=zG (r.call 8 [] s) fun v0 s=>.nrm (sp 8 v0 t) s:=ze 2
theorem zp1:∀ r s t,zuu.run r t s=(zkh (zeU (zml (zeS (ziv yx))))).run r t [] s:=yE (by kernel_rfl) (chS rfl (by kernel_rfl) (chS rfl (by kernel_rfl) (chS rfl (by kernel_rfl) (chS rfl (by kernel_rfl) chL))))
theorem zFl:zW ziV=35:=by kernel_rfl
theorem zgV:∀ r s t,zcx.run r t s=za (fun t s=>r.code y8 ziV t s) (za (fun t s=>za (fun t s=>zth.run r t s) (zC 1 (za (fun t s=>zw (gp 19 t) (za (fun t s=>.ret t s) (zxw.run r t s)) (.nrm t s)) (zwk.run r t s)))) (za (fun t s=>zw (gp 18 t) (.nrm t s) (.ext 0 t s)) (zsH.run r t s))):=by intros;kernel_rfl
theorem ya:type_of% (aI zvJ <| aI zvw <| aI zwp <| aI zr8 <| aI zm7 <| aI zrD <| aI znW <| aI zq6 <| aI zmW <| aI zrc <| aI zqJ <| aI zsk <| aI zrm <| aI znn <| aI znN <| aI zp1 <| zG9):=aI zvJ <| aI zvw <| aI zwp <| aI zr8 <| aI zm7 <| aI zrD <| aI znW <| aI zq6 <| aI zmW <| aI zrc <| aI zqJ <| aI zsk <| aI zrm <| aI znn <| aI znN <| aI zp1 <| zG9
def wz:FI:=⟨35449079480712192,55,4⟩
def zaN:=qe Tryz.prog 11
def jm (l:List Nat):=zk zi wz (zI l zaN)
def zDz:=jm [0]
def zD1:=zI [1,0,0] zaN
def zCK:=zk zi wz zD1
def zbo:=qOf zi wz zD1
def zl7:=zbo 10 1 (dn 20 10)
def zgh:=zbo 8 2 (dn 18 8)
def znl:=zbo 6 2 (dn 16 6)
def zgT:=zbo 4 2 (dn 14 4)
def zrN:=zbo 0 4 []
def zzL:=jm [1,0,1,0,0]
def zu7:=jm [1,1,0,0]
def ztA:=jm [1,1,0,1,0,0,0]
def zs7:=jm [1,1,0,1,0,0,1,1,0,0,0]
def zwd:=zI [1,1,0,1,0,0,1,1,0,0,1,0] zaN
def zuo:=zk zi wz zwd
def zd4:=qOf zi wz zwd
def zig:=zd4 11 1 (dn 38 11)
def zeD:=zd4 6 5 (dn 33 6)
def zj9:=zd4 0 6 []
def zug:=jm [1,1,0,1,0,0,1,1,0,0,1,1,0,0]
def zuZ:=jm [1,1,0,1,0,0,1,1,1]
def zi3:=zI [1,1,0,1,0] zaN
def zcM:=zk zi wz zi3
def zx2:=jm [1,1,1,0,0]
def zw1:=jm [1,1,1,0,1,0,0,0]
def zvy:=jm [1,1,1,0,1,0,0,1,1,0,0,0]
def zvB:=jm [1,1,1,0,1,0,0,1,1,0,0,1,0]
def zuL:=jm [1,1,1,0,1,0,0,1,1,0,0,1,1,0,0]
def zu1:=jm [1,1,1,0,1,0,0,1,1,1]
def zjN:=zI [1,1,1,0,1,0] zaN
def zb6:=zk zi wz zjN
def zwW:=jm [1,1,1,1,0]
def zhc:=zk zi wz zaN
def zg5:=yb (qm zi wz (qy Tryz.prog 11)).run
theorem zGL :
 ((((∀ r s x0 x1,(fnC zi 11).run r [x0,x1] s=ql (z4 (fun t s=>zg5 t s) (zhc.run r (sp 1 x1 (sp 0 x0 T.new)) s))) ∧
 ((∀ s t,zg5 t s=yU (gp 240 t) (yj [gp 4 t,gp 5 t] s)) ∧
 (∀ r s t,zhc.run r t s=za (fun t s=>za (fun t s=>za (fun t s=>za (fun t s=>za (fun t s=>.ret t s) (zwW.run r t s)) (za (fun t s=>zC 2 (zb6.run r t s)) (zx2.run r t s))) (za (fun t s=>zC 0 (zcM.run r t s)) (zu7.run r t s))) (za (fun t s=>zw (gp 10 t) (za (fun t s=>.ret t s) (zzL.run r t s)) (.nrm t s)) (zCK.run r t s))) (zDz.run r t s)))) ∧
 (((∀ g r s t le,(zrN g).run r t (le) s=zG (r.call 22 [gp 0 t] s) fun v1 s=>xUn .not v1 fun v2=>g.run r t (v2::v2::v1::gp 0 t::le) s) ∧
 (∀ g r s t le,(zgT g).run r t (.bool true::le) s=g.run r t (Go.Ev.undef::Go.Ev.undef::.bool true::le) s)) ∧
 ((∀ g r s t le,(zgT g).run r t (.bool false::le) s=zj ⟨9,[]⟩ false .lss (gp 1 t) (V.nat .i64 0) fun v5=>g.run r t (v5::gp 1 t::.bool false::le) s) ∧
 (∀ g r s t le x0 x1 x2,(znl g).run r t (x0::x1::x2::le) s=qx x2 (fun _=>g.run r t (V.bool true::V.bool true::x0::x1::x2::le) s) (fun _=>g.run r t (x0::x0::x0::x1::x2::le) s))))) ∧
 (((∀ g r s t le,(zgh g).run r t (.bool true::le) s=g.run r t (Go.Ev.undef::Go.Ev.undef::.bool true::le) s) ∧
 ((∀ g r s t le,(zgh g).run r t (.bool false::le) s=zj ⟨9,[]⟩ false .gtr (gp 1 t) (V.nat .i64 500) fun v9=>g.run r t (v9::gp 1 t::.bool false::le) s) ∧
 (∀ g r s t le x0 x1 x2,(zl7 g).run r t (x0::x1::x2::le) s=qx x2 (fun _=>g.run r (sp 10 (V.bool true) t) (V.bool true::x0::x1::x2::le) s) (fun _=>g.run r (sp 10 x0 t) (x0::x0::x1::x2::le) s)))) ∧
 (((∀ g r s t le,(zj9 g).run r t (le) s=zf 0 (gp 7 t) fun v0=>zb false 1 v0 s fun v1 s=>zG (r.call 27 [v1,gp 1 t] s) fun v3 s=>xUn .not v3 fun v4=>g.run r t (v4::v4::v3::gp 1 t::v1::v0::le) s) ∧
 (∀ g r s t le,(zeD g).run r t (.bool true::le) s=g.run r t (Go.Ev.undef::Go.Ev.undef::Go.Ev.undef::Go.Ev.undef::Go.Ev.undef::.bool true::le) s)) ∧
 ((∀ g r s t le,(zeD g).run r t (.bool false::le) s=zf 1 (gp 7 t) fun v6=>zb false 1 v6 s fun v7 s=>zG (r.call 27 [v7,gp 1 t] s) fun v9 s=>xUn .not v9 fun v10=>g.run r t (v10::v9::gp 1 t::v7::v6::.bool false::le) s) ∧
 (∀ g r s t le x0 x1 x2 x3 x4 x5,(zig g).run r t (x0::x1::x2::x3::x4::x5::le) s=qx x5 (fun _=>g.run r (sp 15 (V.bool true) t) (V.bool true::x0::x1::x2::x3::x4::x5::le) s) (fun _=>g.run r (sp 15 x0 t) (x0::x0::x1::x2::x3::x4::x5::le) s)))))):=by
 and_intros<;>(intros;kernel_rfl)
theorem zwH:∀ r s t,zDz.run r t s=.nrm (sp 5 (V.nat .i64 0) (sp 4 (V.bool false) t)) s:=ze 2
theorem zym:∀ r s t,zCK.run r t s=(zrN (zgT (znl (zgh (zl7 yx))))).run r t [] s:=yE (by kernel_rfl) (chS rfl (by kernel_rfl) (chS rfl (by kernel_rfl) (chS rfl (by kernel_rfl) (chS rfl (by kernel_rfl) chL))))
theorem zvr:∀ r s t,zzL.run r t s=.nrm (sp 5 (V.nat .i64 1) (sp 4 (V.bool false) t)) s:=ze 2
theorem znb:∀ r s t,zu7.run r t s=zt (gp 0 t) fun v1=>.nrm (sp 13 (V.nat .i64 0) (sp 12 v1 (sp 11 (gp 0 t) t))) s:=ze 3
theorem zoK:∀ r s t,ztA.run r t s=zj ⟨9,[]⟩ false .lss (gp 13 t) (gp 12 t) fun v0=>.nrm (sp 14 v0 t) s:=ze 1
theorem zoa:∀ r s t,zs7.run r t s=zg 2 (gp 11 t) (gp 13 t) fun v0=>zb true 2 v0 s fun v1 s=>Go.Ev.newRow s 49 [V.nil 1,V.nil 1] false fun a2k _ s=>zH 2 (V.ptr a2k 0 0) v1 s fun _ s=>.nrm (sp 7 (V.ptr a2k 0 0) t) s:=ze 4
theorem zmV:∀ r s t,zuo.run r t s=(zj9 (zeD (zig yx))).run r t [] s:=yE (by kernel_rfl) (chS rfl (by kernel_rfl) (chS rfl (by kernel_rfl) chL))
theorem znG:∀ r s t,zug.run r t s=.nrm (sp 5 (V.nat .i64 1) (sp 4 (V.bool false) t)) s:=ze 2
theorem zpk:∀ r s t,zuZ.run r t s=zj ⟨9,[]⟩ false .add (gp 13 t) (V.nat .i64 1) fun v0=>.nrm (sp 13 v0 t) s:=ze 2
theorem zo5:∀ r s t,zx2.run r t s=zt (gp 0 t) fun v1=>.nrm (sp 18 (V.nat .i64 0) (sp 17 v1 (sp 16 (gp 0 t) t))) s:=ze 3
theorem zoI:∀ r s t,zw1.run r t s=zj ⟨9,[]⟩ false .lss (gp 18 t) (gp 17 t) fun v0=>.nrm (sp 19 v0 t) s:=ze 1
theorem zoq:∀ r s t,zvy.run r t s=zg 2 (gp 16 t) (gp 18 t) fun v0=>zb true 2 v0 s fun v1 s=>Go.Ev.newRow s 49 [V.nil 1,V.nil 1] false fun a2k _ s=>zH 2 (V.ptr a2k 0 0) v1 s fun _ s=>.nrm (sp 9 (V.ptr a2k 0 0) t) s:=ze 4
theorem zrC:∀ r s t,zvB.run r t s=zf 1 (gp 9 t) fun v0=>zb false 1 v0 s fun v1 s=>zt v1 fun v2=>zj ⟨7,[]⟩ true .eql v2 (V.nat .i64 0) fun v3=>.nrm (sp 20 v3 t) s:=ze 4
theorem zpt:∀ r s t,zuL.run r t s=.nrm (sp 5 (V.nat .i64 0) (sp 4 (V.bool false) t)) s:=ze 2
theorem znj:∀ r s t,zu1.run r t s=zj ⟨9,[]⟩ false .add (gp 18 t) (V.nat .i64 1) fun v0=>.nrm (sp 18 v0 t) s:=ze 2
theorem zp9:∀ r s t,zwW.run r t s=zG (r.call 28 [gp 0 t,gp 1 t] s) fun v2 s=>zG (r.call 29 [v2] s) fun v3 s=>.nrm (sp 5 (V.nat .i64 0) (sp 4 v3 t)) s:=ze 6
theorem zE8:zW zi3=40:=by kernel_rfl
theorem zEv:zW zjN=32:=by kernel_rfl
theorem zcW:∀ r s t,zcM.run r t s=za (fun t s=>r.code wz zi3 t s) (za (fun t s=>za (fun t s=>za (fun t s=>zuZ.run r t s) (zC 1 (za (fun t s=>za (fun t s=>zw (gp 15 t) (za (fun t s=>.ret t s) (zug.run r t s)) (.nrm t s)) (zuo.run r t s)) (zs7.run r t s)))) (zw (gp 14 t) (.nrm t s) (.ext 0 t s))) (ztA.run r t s)):=by intros;kernel_rfl
theorem zgB:∀ r s t,zb6.run r t s=za (fun t s=>r.code wz zjN t s) (za (fun t s=>za (fun t s=>za (fun t s=>zu1.run r t s) (zC 3 (za (fun t s=>za (fun t s=>zw (gp 20 t) (za (fun t s=>.ret t s) (zuL.run r t s)) (.nrm t s)) (zvB.run r t s)) (zvy.run r t s)))) (zw (gp 19 t) (.nrm t s) (.ext 2 t s))) (zw1.run r t s)):=by intros;kernel_rfl
theorem yZ:type_of% (aI zwH <| aI zym <| aI zvr <| aI znb <| aI zoK <| aI zoa <| aI zmV <| aI znG <| aI zpk <| aI zo5 <| aI zoI <| aI zoq <| aI zrC <| aI zpt <| aI znj <| aI zp9 <| zGL):=aI zwH <| aI zym <| aI zvr <| aI znb <| aI zoK <| aI zoa <| aI zmV <| aI znG <| aI zpk <| aI zo5 <| aI zoI <| aI zoq <| aI zrC <| aI zpt <| aI znj <| aI zp9 <| zGL
def zcq:FI:=⟨4064,12,4⟩
def zd7:=qe Tryz.prog 12
def zrW:=zk zi zcq (zI [0] zd7)
def zqB:=zI [1,0] zd7
def zoS:=zk zi zcq zqB
def zdb:=qOf zi zcq zqB
def zht:=zdb 6 2 (dn 11 6)
def zdf:=zdb 4 2 (dn 9 4)
def zg6:=zdb 0 4 []
def zoU:=zk zi zcq zd7
def zpZ:=yb (qm zi zcq (qy Tryz.prog 12)).run
theorem zyl :
 (((∀ r s x0 x1,(fnC zi 12).run r [x0,x1] s=ql (z4 (fun t s=>zpZ t s) (zoU.run r (sp 1 x1 (sp 0 x0 T.new)) s))) ∧
 ((∀ s t,zpZ t s=yU (gp 240 t) (yj [gp 4 t] s)) ∧
 (∀ r s t,zoU.run r t s=za (fun t s=>za (fun t s=>.ret t s) (zoS.run r t s)) (zrW.run r t s)))) ∧
 (((∀ g r s t le,(zg6 g).run r t (le) s=zG (r.call 30 [gp 0 t] s) fun v1 s=>zj ⟨9,[]⟩ false .leq v1 (V.nat .i64 14) fun v2=>g.run r t (v2::v2::v1::gp 0 t::le) s) ∧
 (∀ g r s t le,(zdf g).run r t (.bool true::le) s=zj ⟨9,[]⟩ false .leq (gp 1 t) (V.nat .i64 4) fun v5=>g.run r t (v5::gp 1 t::.bool true::le) s)) ∧
 ((∀ g r s t le,(zdf g).run r t (.bool false::le) s=g.run r t (Go.Ev.undef::Go.Ev.undef::.bool false::le) s) ∧
 (∀ g r s t le x0 x1 x2,(zht g).run r t (x0::x1::x2::le) s=qx x2 (fun _=>g.run r (sp 4 x0 t) (x0::x0::x0::x1::x2::le) s) (fun _=>g.run r (sp 4 (V.bool false) t) (V.bool false::V.bool false::x0::x1::x2::le) s))))):=by
 and_intros<;>(intros;kernel_rfl)
theorem zk3:∀ r s t,zrW.run r t s=.nrm (sp 4 (V.bool false) t) s:=ze 1
theorem zlw:∀ r s t,zoS.run r t s=(zg6 (zdf (zht yx))).run r t [] s:=yE (by kernel_rfl) (chS rfl (by kernel_rfl) (chS rfl (by kernel_rfl) chL))
theorem zgO:type_of% (aI zk3 <| aI zlw <| zyl):=aI zk3 <| aI zlw <| zyl
def qU:FI:=⟨348448518217211894145344806537083159052288,138,4⟩
def je:=qe Tryz.prog 28
def zO (l:List Nat):=zk zi qU (zI l je)
def zCj:=zO [0]
def zCD:=zO [1,0]
def zBB:=zO [1,1,0]
def zCE:=zO [1,1,1,0,0]
def zuc:=zO [1,1,1,0,1,0,0,0]
def zx9:=zO [1,1,1,0,1,0,0,1,1,0,0,0]
def zwv:=zO [1,1,1,0,1,0,0,1,1,0,0,1,0]
def zut:=zO [1,1,1,0,1,0,0,1,1,0,0,1,1,0,0,0]
def zuq:=zO [1,1,1,0,1,0,0,1,1,0,0,1,1,0,0,1,1,0,0,0]
def ztH:=zO [1,1,1,0,1,0,0,1,1,0,0,1,1,0,0,1,1,0,0,1]
def zyr:=zO [1,1,1,0,1,0,0,1,1,0,0,1,1,0,0,1,1,1]
def zjb:=zI [1,1,1,0,1,0,0,1,1,0,0,1,1,0] je
def zcc:=zk zi qU zjb
def zuI:=zO [1,1,1,0,1,0,0,1,1,1]
def zju:=zI [1,1,1,0,1,0] je
def zcN:=zk zi qU zju
def zxc:=zO [1,1,1,1,0,0]
def zuz:=zO [1,1,1,1,0,1,0,0,0,0]
def zwT:=zO [1,1,1,1,0,1,0,0,1,0,0,0]
def zxY:=zO [1,1,1,1,0,1,0,0,1,0,0,1,0,0]
def zum:=zO [1,1,1,1,0,1,0,0,1,1]
def ziW:=zI [1,1,1,1,0,1,0] je
def zcB:=zk zi qU ziW
def zte:=zO [1,1,1,1,1,0]
def zxI:=zO [1,1,1,1,1,1,0]
def zxb:=zO [1,1,1,1,1,1,1,0,0]
def ztR:=zO [1,1,1,1,1,1,1,0,1,0,0,0,0]
def zxM:=zO [1,1,1,1,1,1,1,0,1,0,0,1,0,0,0,0]
def zwz:=zO [1,1,1,1,1,1,1,0,1,0,0,1,0,0,1,0,0]
def zxC:=zO [1,1,1,1,1,1,1,0,1,0,0,1,0,0,1,0,1,0,0,0]
def zye:=zO [1,1,1,1,1,1,1,0,1,0,0,1,0,0,1,0,1,0,0,1,1,0,0]
def zv9:=zO [1,1,1,1,1,1,1,0,1,0,0,1,0,0,1,0,1,0,0,1,1,0,1,0]
def zwq:=zI [1,1,1,1,1,1,1,0,1,0,0,1,0,0,1,0,1,0,0,1,1,0,1,1,0] je
def zsL:=zk zi qU zwq
def zew:=qOf zi qU zwq
def zjU:=zew 8 1 (dn 98 8)
def zeP:=zew 3 5 [93,92,91]
def zkD:=zew 0 3 []
def zpG:=zO [1,1,1,1,1,1,1,0,1,0,0,1,0,0,1,0,1,0,0,1,1,0,1,1,1,0]
def zcJ:=zI [1,1,1,1,1,1,1,0,1,0,0,1,0,0,1,0,1,0] je
def zcp:=zk zi qU zcJ
def zrK:=zO [1,1,1,1,1,1,1,0,1,0,0,1,0,0,1,1,0]
def zqC:=zO [1,1,1,1,1,1,1,0,1,0,0,1,0,0,1,1,1,0,0,0]
def zqS:=zO [1,1,1,1,1,1,1,0,1,0,0,1,0,0,1,1,1,0,0,1,1,0,0,0]
def zpw:=zO [1,1,1,1,1,1,1,0,1,0,0,1,0,0,1,1,1,0,0,1,1,0,0,1,0]
def zrT:=zO [1,1,1,1,1,1,1,0,1,0,0,1,0,0,1,1,1,0,0,1,1,0,0,1,1,0,0]
def zqA:=zO [1,1,1,1,1,1,1,0,1,0,0,1,0,0,1,1,1,0,0,1,1,0,0,1,1,0,1,0,0,0]
def zna:=zO [1,1,1,1,1,1,1,0,1,0,0,1,0,0,1,1,1,0,0,1,1,0,0,1,1,0,1,0,0,1,1,0,0,0]
def zo1:=zO [1,1,1,1,1,1,1,0,1,0,0,1,0,0,1,1,1,0,0,1,1,0,0,1,1,0,1,0,0,1,1,0,0,1]
def zpf:=zO [1,1,1,1,1,1,1,0,1,0,0,1,0,0,1,1,1,0,0,1,1,0,0,1,1,0,1,0,0,1,1,1]
def zgJ:=zI [1,1,1,1,1,1,1,0,1,0,0,1,0,0,1,1,1,0,0,1,1,0,0,1,1,0,1,0] je
def zbc:=zk zi qU zgJ
def zoG:=zO [1,1,1,1,1,1,1,0,1,0,0,1,0,0,1,1,1,0,0,1,1,0,0,1,1,1]
def zor:=zO [1,1,1,1,1,1,1,0,1,0,0,1,0,0,1,1,1,0,0,1,1,1]
def zgk:=zI [1,1,1,1,1,1,1,0,1,0,0,1,0,0,1,1,1,0] je
def za3:=zk zi qU zgk
def zso:=zO [1,1,1,1,1,1,1,0,1,0,0,1,1]
def zjI:=zI [1,1,1,1,1,1,1,0,1,0] je
def zch:=zk zi qU zjI
def zpl:=zO [1,1,1,1,1,1,1,1,0]
def zh9:=zk zi qU je
def ziI:=yb (qm zi qU (qy Tryz.prog 28)).run
theorem zGR :
 (((∀ r s x0 x1,(fnC zi 28).run r [x0,x1] s=ql (z4 (fun t s=>ziI t s) (zh9.run r (sp 1 x1 (sp 0 x0 T.new)) s))) ∧
 ((∀ s t,ziI t s=yU (gp 240 t) (yj [gp 4 t] s)) ∧
 (∀ r s t,zh9.run r t s=za (fun t s=>za (fun t s=>za (fun t s=>za (fun t s=>za (fun t s=>za (fun t s=>za (fun t s=>za (fun t s=>za (fun t s=>.ret t s) (zpl.run r t s)) (za (fun t s=>zC 6 (zch.run r t s)) (zxb.run r t s))) (zxI.run r t s)) (zte.run r t s)) (za (fun t s=>zC 4 (zcB.run r t s)) (zxc.run r t s))) (za (fun t s=>zC 0 (zcN.run r t s)) (zCE.run r t s))) (zBB.run r t s)) (zCD.run r t s)) (zCj.run r t s)))) ∧
 (((∀ g r s t le,(zkD g).run r t (le) s=zj ⟨1,[]⟩ true .eql (gp 15 t) (V.nil 0) fun v1=>g.run r t (v1::v1::gp 15 t::le) s) ∧
 (∀ g r s t le,(zeP g).run r t (.bool true::le) s=g.run r t (Go.Ev.undef::Go.Ev.undef::Go.Ev.undef::Go.Ev.undef::Go.Ev.undef::.bool true::le) s)) ∧
 ((∀ g r s t le,(zeP g).run r t (.bool false::le) s=zB (gp 15 t) fun v4=>zf 1 v4 fun v5=>zb false 1 v5 s fun v6 s=>zj ⟨9,[]⟩ false .lss v6 (V.nat .i64 0) fun v7=>g.run r t (v7::v6::v5::v4::gp 15 t::.bool false::le) s) ∧
 (∀ g r s t le x0 x1 x2 x3 x4 x5,(zjU g).run r t (x0::x1::x2::x3::x4::x5::le) s=qx x5 (fun _=>g.run r (sp 35 (V.bool true) t) (V.bool true::x0::x1::x2::x3::x4::x5::le) s) (fun _=>g.run r (sp 35 x0 t) (x0::x0::x1::x2::x3::x4::x5::le) s))))):=by
 and_intros<;>(intros;kernel_rfl)
theorem ztk:∀ r s t,zCj.run r t s=.nrm (sp 4 (V.nil 0) t) s:=ze 1
theorem zsV:∀ r s t,zCD.run r t s=zG (r.call 34 [gp 0 t] s) fun v1 s=>.nrm (sp 5 v1 t) s:=ze 3
theorem zvf:∀ r s t,zBB.run r t s=jT s (.map [] 0) fun a0k s=>.nrm (sp 6 (V.ref 0 a0k) t) s:=ze 2
theorem zxD:∀ r s t,zCE.run r t s=zt (gp 0 t) fun v1=>.nrm (sp 23 (V.nat .i64 0) (sp 22 v1 (sp 21 (gp 0 t) t))) s:=ze 3
theorem zou:∀ r s t,zuc.run r t s=zj ⟨9,[]⟩ false .lss (gp 23 t) (gp 22 t) fun v0=>.nrm (sp 24 v0 t) s:=ze 1
theorem zm6:∀ r s t,zx9.run r t s=zg 2 (gp 21 t) (gp 23 t) fun v0=>zb true 2 v0 s fun v1 s=>Go.Ev.newRow s 49 [V.nil 1,V.nil 1] false fun a2k _ s=>zH 2 (V.ptr a2k 0 0) v1 s fun _ s=>.nrm (sp 8 (V.ptr a2k 0 0) t) s:=ze 4
theorem zqr:∀ r s t,zwv.run r t s=zf 0 (gp 8 t) fun v0=>zb false 1 v0 s fun v1 s=>zf 1 (gp 8 t) fun v2=>zb false 1 v2 s fun v3 s=>wY [V.nil 1] 2 fun l4z=>zq 1 v1 fun x4_0=>ye x4_0 0 l4z fun l4_0=>zq 1 v3 fun x4_1=>ye x4_1 1 l4_0 fun l4_1=>Go.Ev.newRow s 29 l4_1 false fun a4k _ s=>zG (r.call 52 [(V.sl a4k 0 0 2 2)] s) fun v5 s=>zt v5 fun v6=>.nrm (sp 27 (V.nat .i64 0) (sp 26 v6 (sp 25 v5 t))) s:=ze 8
theorem zra:∀ r s t,zut.run r t s=zj ⟨9,[]⟩ false .lss (gp 27 t) (gp 26 t) fun v0=>.nrm (sp 28 v0 t) s:=ze 1
theorem zo9:∀ r s t,zuq.run r t s=zg 1 (gp 25 t) (gp 27 t) fun v0=>zb false 1 v0 s fun v1 s=>.nrm (sp 10 v1 t) s:=ze 3
theorem zmS:∀ r s t,ztH.run r t s=qw ⟨7,[]⟩ (gp 6 t) (gp 10 t) (V.nat .i64 1) s fun _ s=>.nrm t s:=ze 3
theorem zpr:∀ r s t,zyr.run r t s=zj ⟨9,[]⟩ false .add (gp 27 t) (V.nat .i64 1) fun v0=>.nrm (sp 27 v0 t) s:=ze 2
theorem zrn:∀ r s t,zuI.run r t s=zj ⟨9,[]⟩ false .add (gp 23 t) (V.nat .i64 1) fun v0=>.nrm (sp 23 v0 t) s:=ze 2
theorem zrV:∀ r s t,zxc.run r t s=.nrm (sp 11 (V.nat .i64 1) t) s:=ze 1
theorem znF:∀ r s t,zuz.run r t s=zj ⟨9,[]⟩ false .leq (gp 11 t) (gp 1 t) fun v2=>.nrm (sp 29 v2 t) s:=ze 3
theorem zqs:∀ r s t,zwT.run r t s=zY ⟨7,[]⟩ (V.nat .i64 0) false (gp 6 t) (gp 11 t) s fun v2=>zj ⟨7,[]⟩ true .eql v2 (V.nat .i64 0) fun v3=>.nrm (sp 30 v3 t) s:=ze 4
theorem zmZ:∀ r s t,zxY.run r t s=qw ⟨7,[]⟩ (gp 6 t) (gp 11 t) (V.nat .i64 1) s fun _ s=>.nrm t s:=ze 3
theorem zsc:∀ r s t,zum.run r t s=zj ⟨9,[]⟩ false .add (gp 11 t) (V.nat .i64 1) fun v1=>.nrm (sp 11 v1 t) s:=ze 3
theorem zoe:∀ r s t,zte.run r t s=jT s (.map [] 0) fun a0k s=>zq 1 (V.ref 0 a0k) fun x1_0=>ye x1_0 3 [V.nil 1,V.nil 1,V.nil 1,V.nil 2] fun l1_0=>zq 4 (V.ls 0 l1_0) fun l2=>Go.Ev.newRow s 101 l2 false fun a2k _ s=>.nrm (sp 12 (V.ptr a2k 0 0) t) s:=ze 4
theorem zrs:∀ r s t,zxI.run r t s=zG (r.call 53 [gp 12 t,V.nil 1] s) fun _ s=>.nrm t s:=ze 2
theorem zp8:∀ r s t,zxb.run r t s=.nrm (sp 13 (V.nat .i64 0) t) s:=ze 1
theorem zmU:∀ r s t,ztR.run r t s=zB (gp 12 t) fun v2=>zf 1 v2 fun v3=>zb false 1 v3 s fun v4 s=>zt v4 fun v5=>zj ⟨9,[]⟩ false .lss (gp 13 t) v5 fun v6=>.nrm (sp 31 v6 t) s:=ze 7
theorem zpE:∀ r s t,zxM.run r t s=zB (gp 12 t) fun v1=>zf 1 v1 fun v2=>zb false 1 v2 s fun v3 s=>zg 1 v3 (gp 13 t) fun v5=>zb false 1 v5 s fun v6 s=>xUn .not v6 fun v7=>.nrm (sp 32 v7 t) s:=ze 8
theorem znt:∀ r s t,zwz.run r t s=zmD (gp 6 t) s fun v1 s=>.nrm (sp 33 v1 t) s:=ze 2
theorem zgX:∀ r s t,zxC.run r t s=zcU (gp 33 t) s fun v0 s=>qh 0 v0 fun v1=>.nrm (sp 34 v1 t) s:=by intros;kernel_rfl
theorem znA:∀ r s t,zye.run r t s=zos (gp 33 t) s fun v0=>qh 0 v0 fun v1=>.nrm (sp 14 v1 t) s:=ze 3
theorem zn8:∀ r s t,zv9.run r t s=zB (gp 5 t) fun v1=>zf 0 v1 fun v2=>zb false 1 v2 s fun v3 s=>zY ⟨7,[]⟩ (V.nil 0) false v3 (gp 14 t) s fun v5=>.nrm (sp 15 v5 t) s:=ze 7
theorem zq4:∀ r s t,zsL.run r t s=(zkD (zeP (zjU yx))).run r t [] s:=yE (by kernel_rfl) (chS rfl (by kernel_rfl) (chS rfl (by kernel_rfl) chL))
theorem zkf:∀ r s t,zpG.run r t s=wY [V.nat .i64 0] 1 fun l3z=>zq 1 (gp 14 t) fun x3_0=>ye x3_0 0 l3z fun l3_0=>Go.Ev.newRow s 3 l3_0 false fun a3k _ s=>wY [V.nat .i64 0] 1 fun l5z=>zq 1 (gp 14 t) fun x5_0=>ye x5_0 0 l5z fun l5_0=>Go.Ev.newRow s 3 l5_0 false fun a5k _ s=>zG (r.call 54 [gp 12 t,gp 13 t,(V.sl a3k 0 0 1 1),(V.sl a5k 0 0 1 1),gp 15 t] s) fun _ s=>.nrm t s:=ze 8
theorem zkX:∀ r s t,zrK.run r t s=zt (gp 0 t) fun v1=>.nrm (sp 38 (V.nat .i64 0) (sp 37 v1 (sp 36 (gp 0 t) t))) s:=ze 3
theorem zlJ:∀ r s t,zqC.run r t s=zj ⟨9,[]⟩ false .lss (gp 38 t) (gp 37 t) fun v0=>.nrm (sp 39 v0 t) s:=ze 1
theorem zkC:∀ r s t,zqS.run r t s=zg 2 (gp 36 t) (gp 38 t) fun v0=>zb true 2 v0 s fun v1 s=>Go.Ev.newRow s 49 [V.nil 1,V.nil 1] false fun a2k _ s=>zH 2 (V.ptr a2k 0 0) v1 s fun _ s=>.nrm (sp 17 (V.ptr a2k 0 0) t) s:=ze 4
theorem zkS:∀ r s t,zpw.run r t s=.nrm (sp 18 (gp 5 t) t) s:=ze 2
theorem zlF:∀ r s t,zrT.run r t s=zf 0 (gp 17 t) fun v0=>zb false 1 v0 s fun v1 s=>zt v1 fun v2=>.nrm (sp 42 (V.nat .i64 0) (sp 41 v2 (sp 40 v1 t))) s:=ze 4
theorem zkv:∀ r s t,zqA.run r t s=zj ⟨9,[]⟩ false .lss (gp 42 t) (gp 41 t) fun v0=>.nrm (sp 43 v0 t) s:=ze 1
theorem zla:∀ r s t,zna.run r t s=zg 1 (gp 40 t) (gp 42 t) fun v0=>zb false 1 v0 s fun v1 s=>.nrm (sp 20 v1 t) s:=ze 3
theorem zlf:∀ r s t,zo1.run r t s=zB (gp 18 t) fun v1=>zf 0 v1 fun v2=>zb false 1 v2 s fun v3 s=>zY ⟨7,[]⟩ (V.nil 0) false v3 (gp 20 t) s fun v5=>.nrm (sp 18 v5 t) s:=ze 7
theorem zlp:∀ r s t,zpf.run r t s=zj ⟨9,[]⟩ false .add (gp 42 t) (V.nat .i64 1) fun v0=>.nrm (sp 42 v0 t) s:=ze 2
theorem zjZ:∀ r s t,zoG.run r t s=zf 0 (gp 17 t) fun v2=>zb false 1 v2 s fun v3 s=>zf 1 (gp 17 t) fun v4=>zb false 1 v4 s fun v5 s=>zG (r.call 54 [gp 12 t,gp 13 t,v3,v5,gp 18 t] s) fun _ s=>.nrm t s:=ze 8
theorem zl9:∀ r s t,zor.run r t s=zj ⟨9,[]⟩ false .add (gp 38 t) (V.nat .i64 1) fun v0=>.nrm (sp 38 v0 t) s:=ze 2
theorem zmc:∀ r s t,zso.run r t s=zj ⟨9,[]⟩ false .add (gp 13 t) (V.nat .i64 1) fun v1=>.nrm (sp 13 v1 t) s:=ze 3
theorem zl8:∀ r s t,zpl.run r t s=.nrm (sp 4 (gp 12 t) t) s:=ze 2
theorem zFL:zW zjb=22:=by kernel_rfl
theorem zEB:zW zju=52:=by kernel_rfl
theorem zFr:zW ziW=30:=by kernel_rfl
theorem zFK:zW zcJ=46:=by kernel_rfl
theorem zDh:zW zgJ=26:=by kernel_rfl
theorem zCg:zW zgk=66:=by kernel_rfl
theorem zFu:zW zjI=158:=by kernel_rfl
theorem zqy:∀ r s t,zcc.run r t s=za (fun t s=>r.code qU zjb t s) (za (fun t s=>za (fun t s=>za (fun t s=>zyr.run r t s) (zC 3 (za (fun t s=>ztH.run r t s) (zuq.run r t s)))) (zw (gp 28 t) (.nrm t s) (.ext 2 t s))) (zut.run r t s)):=by intros;kernel_rfl
theorem zn7:∀ r s t,zcN.run r t s=za (fun t s=>r.code qU zju t s) (za (fun t s=>za (fun t s=>za (fun t s=>zuI.run r t s) (zC 1 (za (fun t s=>za (fun t s=>zC 2 (zcc.run r t s)) (zwv.run r t s)) (zx9.run r t s)))) (zw (gp 24 t) (.nrm t s) (.ext 0 t s))) (zuc.run r t s)):=by intros;kernel_rfl
theorem zgo:∀ r s t,zcB.run r t s=za (fun t s=>r.code qU ziW t s) (za (fun t s=>za (fun t s=>zum.run r t s) (zC 5 (za (fun t s=>zw (gp 30 t) (za (fun t s=>.ext 4 t s) (zxY.run r t s)) (.nrm t s)) (zwT.run r t s)))) (za (fun t s=>zw (gp 29 t) (.nrm t s) (.ext 4 t s)) (zuz.run r t s))):=by intros;kernel_rfl
theorem znx:∀ r s t,zcp.run r t s=za (fun t s=>r.code qU zcJ t s) (za (fun t s=>za (fun t s=>zC 9 (za (fun t s=>za (fun t s=>za (fun t s=>zw (gp 35 t) (zpG.run r t s) (.nrm t s)) (zsL.run r t s)) (zv9.run r t s)) (zye.run r t s))) (zw (gp 34 t) (.nrm t s) (.ext 8 t s))) (zxC.run r t s)):=by intros;kernel_rfl
theorem zk8:∀ r s t,zbc.run r t s=za (fun t s=>r.code qU zgJ t s) (za (fun t s=>za (fun t s=>za (fun t s=>zpf.run r t s) (zC 13 (za (fun t s=>zo1.run r t s) (zna.run r t s)))) (zw (gp 43 t) (.nrm t s) (.ext 12 t s))) (zqA.run r t s)):=by intros;kernel_rfl
theorem zlZ:∀ r s t,za3.run r t s=za (fun t s=>r.code qU zgk t s) (za (fun t s=>za (fun t s=>za (fun t s=>zor.run r t s) (zC 11 (za (fun t s=>za (fun t s=>za (fun t s=>zoG.run r t s) (za (fun t s=>zC 12 (zbc.run r t s)) (zrT.run r t s))) (zpw.run r t s)) (zqS.run r t s)))) (zw (gp 39 t) (.nrm t s) (.ext 10 t s))) (zqC.run r t s)):=by intros;kernel_rfl
theorem zgq:∀ r s t,zch.run r t s=za (fun t s=>r.code qU zjI t s) (za (fun t s=>za (fun t s=>zso.run r t s) (zC 7 (za (fun t s=>za (fun t s=>za (fun t s=>zC 10 (za3.run r t s)) (zrK.run r t s)) (za (fun t s=>zC 8 (zcp.run r t s)) (zwz.run r t s))) (za (fun t s=>zw (gp 32 t) (.ext 7 t s) (.nrm t s)) (zxM.run r t s))))) (za (fun t s=>zw (gp 31 t) (.nrm t s) (.ext 6 t s)) (ztR.run r t s))):=by intros;kernel_rfl
theorem qu:type_of% (aI ztk <| aI zsV <| aI zvf <| aI zxD <| aI zou <| aI zm6 <| aI zqr <| aI zra <| aI zo9 <| aI zmS <| aI zpr <| aI zrn <| aI zrV <| aI znF <| aI zqs <| aI zmZ <| aI zsc <| aI zoe <| aI zrs <| aI zp8 <| aI zmU <| aI zpE <| aI znt <| aI zgX <| aI znA <| aI zn8 <| aI zq4 <| aI zkf <| aI zkX <| aI zlJ <| aI zkC <| aI zkS <| aI zlF <| aI zkv <| aI zla <| aI zlf <| aI zlp <| aI zjZ <| aI zl9 <| aI zmc <| aI zl8 <| zGR):=aI ztk <| aI zsV <| aI zvf <| aI zxD <| aI zou <| aI zm6 <| aI zqr <| aI zra <| aI zo9 <| aI zmS <| aI zpr <| aI zrn <| aI zrV <| aI znF <| aI zqs <| aI zmZ <| aI zsc <| aI zoe <| aI zrs <| aI zp8 <| aI zmU <| aI zpE <| aI znt <| aI zgX <| aI znA <| aI zn8 <| aI zq4 <| aI zkf <| aI zkX <| aI zlJ <| aI zkC <| aI zkS <| aI zlF <| aI zkv <| aI zla <| aI zlf <| aI zlp <| aI zjZ <| aI zl9 <| aI zmc <| aI zl8 <| zGR
def wu:FI:=⟨220208007379905674240,68,4⟩
def zhX:=qe Tryz.prog 29
def wD (l:List Nat):=zk zi wu (zI l zhX)
def zGd:=wD [0]
def zFZ:=wD [1,0,0]
def zGk:=wD [1,0,1,0]
def zGo:=wD [1,0,1,1,0]
def zAi:=wD [1,0,1,1,1,0]
def zD3:=wD [1,0,1,1,1,1,1,0,0]
def zBL:=wD [1,0,1,1,1,1,1,0,1,0,0,0,0]
def zCU:=wD [1,0,1,1,1,1,1,0,1,0,0,1,0,0,0]
def zz2:=wD [1,0,1,1,1,1,1,0,1,0,0,1,0,0,1,0,0]
def zal:=zI [1,0,1,1,1,1,1,0,1,0,0,1,0,0,1,0,1,0] zhX
def zBc:=zk zi wu zal
def zkL:=zay zi wu zal 29 1 [60,59,58,57,56,55,54,53,52,51,50,49,48,47,46,45,44,43,42,41,40,39,38,37,36,35,34,33,32]
def zdQ:=zay zi wu zal 28 1 [59,58,57,56,55,54,53,52,51,50,49,48,47,46,45,44,43,42,41,40,39,38,37,36,35,34,33,32]
def zbI:=zay zi wu zal 24 4 [55,54,53,52,51,50,49,48,47,46,45,44,43,42,41,40,39,38,37,36,35,34,33,32]
def zeB:=zay zi wu zal 19 5 [50,49,48,47,46,45,44,43,42,41,40,39,38,37,36,35,34,33,32]
def zmd:=zay zi wu zal 17 2 [48,47,46,45,44,43,42,41,40,39,38,37,36,35,34,33,32]
def zg0:=zay zi wu zal 9 8 [40,39,38,37,36,35,34,33,32]
def zpp:=zay zi wu zal 0 9 []
def zAO:=wD [1,0,1,1,1,1,1,0,1,0,0,1,0,0,1,0,1,1,0,0]
def zAs:=wD [1,0,1,1,1,1,1,0,1,0,0,1,0,0,1,1,0]
def zC0:=wD [1,0,1,1,1,1,1,0,1,0,0,1,0,0,1,1,1,0]
def zC7:=wD [1,0,1,1,1,1,1,0,1,0,0,1,1]
def ziK:=zI [1,0,1,1,1,1,1,0,1,0] zhX
def zdJ:=zk zi wu ziK
def zz6:=wD [1,0,1,1,1,1,1,1,0]
def zFV:=zk zi wu zhX
def zHz:=yb (qm zi wu (qy Tryz.prog 29)).run
theorem zKz :
 ((((∀ r s x0,(fnC zi 29).run r [x0] s=ql (z4 (fun t s=>zHz t s) (zFV.run r (sp 0 x0 T.new) s))) ∧
 ((∀ s t,zHz t s=yU (gp 240 t) (yj [gp 2 t] s)) ∧
 (∀ r s t,zFV.run r t s=za (fun t s=>za (fun t s=>za (fun t s=>za (fun t s=>za (fun t s=>za (fun t s=>za (fun t s=>za (fun t s=>.ret t s) (zz6.run r t s)) (za (fun t s=>zC 0 (zdJ.run r t s)) (zD3.run r t s))) (.nrm t s)) (zAi.run r t s)) (zGo.run r t s)) (zGk.run r t s)) (zFZ.run r t s)) (zGd.run r t s)))) ∧
 (((∀ g r s t le,(zpp g).run r t (le) s=zB (gp 0 t) fun v1=>zf 1 v1 fun v2=>zb false 1 v2 s fun v3 s=>zf 0 (gp 8 t) fun v4=>zb false 1 v4 s fun v5 s=>zg 1 v3 v5 fun v6=>zb false 1 v6 s fun v7 s=>g.run r t (v7::v7::v6::v5::v4::v3::v2::v1::gp 0 t::le) s) ∧
 (∀ g r s t le,(zg0 g).run r t (.bool true::le) s=zB (gp 0 t) fun v10=>zf 1 v10 fun v11=>zb false 1 v11 s fun v12 s=>zf 1 (gp 8 t) fun v13=>zb false 1 v13 s fun v14 s=>zg 1 v12 v14 fun v15=>zb false 1 v15 s fun v16 s=>g.run r t (v16::v15::v14::v13::v12::v11::v10::gp 0 t::.bool true::le) s)) ∧
 ((∀ g r s t le,(zg0 g).run r t (.bool false::le) s=g.run r t (Go.Ev.undef::Go.Ev.undef::Go.Ev.undef::Go.Ev.undef::Go.Ev.undef::Go.Ev.undef::Go.Ev.undef::Go.Ev.undef::.bool false::le) s) ∧
 (∀ g r s t le x0 x1 x2 x3 x4 x5 x6 x7 x8,(zmd g).run r t (x0::x1::x2::x3::x4::x5::x6::x7::x8::le) s=qx x8 (fun _=>g.run r t (x0::x0::x0::x1::x2::x3::x4::x5::x6::x7::x8::le) s) (fun _=>g.run r t (V.bool false::V.bool false::x0::x1::x2::x3::x4::x5::x6::x7::x8::le) s))))) ∧
 ((((∀ g r s t le,(zeB g).run r t (.bool true::le) s=zf 0 (gp 9 t) fun v19=>zb false 1 v19 s fun v20 s=>zt v20 fun v21=>zj ⟨9,[]⟩ false .gtr v21 (V.nat .i64 0) fun v22=>g.run r t (v22::v22::v21::v20::v19::.bool true::le) s) ∧
 (∀ g r s t le,(zeB g).run r t (.bool false::le) s=g.run r t (Go.Ev.undef::Go.Ev.undef::Go.Ev.undef::Go.Ev.undef::Go.Ev.undef::.bool false::le) s)) ∧
 ((∀ g r s t le,(zbI g).run r t (.bool true::le) s=g.run r t (Go.Ev.undef::Go.Ev.undef::Go.Ev.undef::Go.Ev.undef::.bool true::le) s) ∧
 (∀ g r s t le,(zbI g).run r t (.bool false::le) s=zf 1 (gp 9 t) fun v24=>zb false 1 v24 s fun v25 s=>zt v25 fun v26=>zj ⟨9,[]⟩ false .gtr v26 (V.nat .i64 0) fun v27=>g.run r t (v27::v26::v25::v24::.bool false::le) s))) ∧
 (((∀ g r s t le,(zbI g).run r t (Go.Ev.undef::le) s=g.run r t (Go.Ev.undef::Go.Ev.undef::Go.Ev.undef::Go.Ev.undef::Go.Ev.undef::le) s) ∧
 (∀ g r s t le x0 x1 x2 x3 x4 x5 x6 x7 x8,(zdQ g).run r t (x0::x1::x2::x3::x4::x5::x6::x7::x8::.bool true::le) s=qx x4 (fun _=>g.run r t (V.bool true::x0::x1::x2::x3::x4::x5::x6::x7::x8::.bool true::le) s) (fun _=>g.run r t (x0::x0::x1::x2::x3::x4::x5::x6::x7::x8::.bool true::le) s))) ∧
 ((∀ g r s t le x0 x1 x2 x3 x4 x5 x6 x7 x8,(zdQ g).run r t (x0::x1::x2::x3::x4::x5::x6::x7::x8::.bool false::le) s=g.run r t (Go.Ev.undef::x0::x1::x2::x3::x4::x5::x6::x7::x8::.bool false::le) s) ∧
 (∀ g r s t le x0 x1 x2 x3 x4 x5 x6 x7 x8 x9 x10,(zkL g).run r t (x0::x1::x2::x3::x4::x5::x6::x7::x8::x9::x10::le) s=qx x10 (fun _=>g.run r (sp 11 x0 t) (x0::x0::x1::x2::x3::x4::x5::x6::x7::x8::x9::x10::le) s) (fun _=>g.run r (sp 11 (V.bool false) t) (V.bool false::x0::x1::x2::x3::x4::x5::x6::x7::x8::x9::x10::le) s)))))):=by
 and_intros<;>(intros;kernel_rfl)
theorem zBP:∀ r s t,zGd.run r t s=.nrm (sp 2 (V.bool false) t) s:=ze 1
theorem zz3:∀ r s t,zFZ.run r t s=zG (r.call 55 [gp 0 t] s) fun v1 s=>Go.Ev.newRow s 104 [V.nil 2] false fun a2k _ s=>zH 1 (V.ptr a2k 0 0) v1 s fun _ s=>.nrm (sp 3 (V.ptr a2k 0 0) t) s:=ze 4
theorem zCA:∀ r s t,zGk.run r t s=jT s (.map [] 0) fun a0k s=>zq 1 (V.nat .i64 0) fun x1_0=>ye x1_0 0 [V.nat .i64 0,V.nat .i64 0] fun l1_0=>zq 1 (V.nat .i64 0) fun x1_1=>ye x1_1 1 l1_0 fun l1_1=>qw ⟨6,[7,7]⟩ (V.ref 0 a0k) (V.ls 0 l1_1) (V.ls 0 [V.nil 1,V.nil 1]) s fun _ s=>Go.Ev.newRow s 110 [V.nil 2] false fun a5k _ s=>zH 1 (V.ptr a5k 0 0) (V.ref 0 a0k) s fun _ s=>.nrm (sp 4 (V.ptr a5k 0 0) t) s:=ze 7
theorem zAw:∀ r s t,zGo.run r t s=zq 1 (V.nat .i64 0) fun x0_0=>ye x0_0 0 [V.nat .i64 0,V.nat .i64 0] fun l0_0=>zq 1 (V.nat .i64 0) fun x0_1=>ye x0_1 1 l0_0 fun l0_1=>wY [V.nat .i64 0,V.nat .i64 0] 1 fun l1z=>zq 2 (V.ls 0 l0_1) fun x1_0=>ye x1_0 0 l1z fun l1_0=>Go.Ev.newRow s 107 l1_0 false fun a1k _ s=>Go.Ev.newRow s 111 [V.nil 1] false fun a2k _ s=>zH 1 (V.ptr a2k 0 0) (V.sl a1k 0 0 1 1) s fun _ s=>.nrm (sp 5 (V.ptr a2k 0 0) t) s:=ze 4
theorem ztv:∀ r s t,zAi.run r t s=Go.Ev.newRow s 4 [V.bool false] false fun a0k _ s=>zH 1 (V.ptr a0k 0 0) (V.bool true) s fun _ s=>.nrm (sp 6 (V.ptr a0k 0 0) t) s:=ze 2
theorem ztU:∀ r s t,zD3.run r t s=.nrm (sp 7 (V.nat .i64 0) t) s:=ze 1
theorem zvH:∀ r s t,zBL.run r t s=zb false 1 (gp 5 t) s fun v1 s=>zt v1 fun v2=>zj ⟨9,[]⟩ false .lss (gp 7 t) v2 fun v3=>.nrm (sp 10 v3 t) s:=ze 4
theorem zto:∀ r s t,zCU.run r t s=zb false 1 (gp 5 t) s fun v0 s=>zg 2 v0 (gp 7 t) fun v2=>zb true 2 v2 s fun v3 s=>Go.Ev.newRow s 107 [V.nat .i64 0,V.nat .i64 0] false fun a4k _ s=>zH 2 (V.ptr a4k 0 0) v3 s fun _ s=>.nrm (sp 8 (V.ptr a4k 0 0) t) s:=ze 6
theorem zu6:∀ r s t,zz2.run r t s=zb false 1 (gp 4 t) s fun v0 s=>zb true 2 (gp 8 t) s fun v1 s=>zY ⟨6,[7,7]⟩ (V.ls 0 [V.nil 1,V.nil 1]) false v0 v1 s fun v2=>Go.Ev.newRow s 109 [V.nil 1,V.nil 1] false fun a3k _ s=>zH 2 (V.ptr a3k 0 0) v2 s fun _ s=>.nrm (sp 9 (V.ptr a3k 0 0) t) s:=ze 5
theorem zwt:∀ r s t,zBc.run r t s=(zpp (zg0 (zmd (zeB (zbI (zdQ (zkL yx))))))).run r.det t [] s:=zb7 (by kernel_rfl) (zdC rfl (by kernel_rfl) (zdC rfl (by kernel_rfl) (zdC rfl (by kernel_rfl) (zdC rfl (by kernel_rfl) (zdC rfl (by kernel_rfl) (zdC rfl (by kernel_rfl) zKi))))))
theorem ztu:∀ r s t,zAO.run r t s=zH 1 (gp 6 t) (V.bool false) s fun _ s=>.nrm t s:=ze 1
theorem zw8:∀ r s t,zAs.run r t s=zb true 2 (gp 8 t) s fun v1 s=>zG (r.call 56 [gp 0 t,v1,(V.fn (.func 57) [] [gp 3 t,gp 4 t,gp 8 t,gp 6 t,gp 5 t])] s) fun _ s=>.nrm t s:=ze 4
theorem zvW:∀ r s t,zC0.run r t s=zb false 1 (gp 6 t) s fun v0 s=>xUn .not v0 fun v1=>.nrm (sp 12 v1 t) s:=ze 2
theorem zus:∀ r s t,zC7.run r t s=zj ⟨9,[]⟩ false .add (gp 7 t) (V.nat .i64 1) fun v1=>.nrm (sp 7 v1 t) s:=ze 3
theorem ztB:∀ r s t,zz6.run r t s=zb false 1 (gp 6 t) s fun v0 s=>.nrm (sp 2 v0 t) s:=ze 2
theorem zIJ:zW ziK=84:=by kernel_rfl
theorem jG:∀ r s t,zdJ.run r t s=za (fun t s=>r.code wu ziK t s) (za (fun t s=>za (fun t s=>zC7.run r t s) (zC 1 (za (fun t s=>za (fun t s=>za (fun t s=>za (fun t s=>zw (gp 12 t) (.ext 0 t s) (.nrm t s)) (zC0.run r t s)) (zAs.run r t s)) (za (fun t s=>za (fun t s=>zw (gp 11 t) (za (fun t s=>.ext 0 t s) (zAO.run r t s)) (.nrm t s)) (zBc.run r t s)) (zz2.run r t s))) (zCU.run r t s)))) (za (fun t s=>zw (gp 10 t) (.nrm t s) (.ext 0 t s)) (zBL.run r t s))):=by intros;kernel_rfl
theorem zad:type_of% (aI zBP <| aI zz3 <| aI zCA <| aI zAw <| aI ztv <| aI ztU <| aI zvH <| aI zto <| aI zu6 <| aI zwt <| aI ztu <| aI zw8 <| aI zvW <| aI zus <| aI ztB <| zKz):=aI zBP <| aI zz3 <| aI zCA <| aI zAw <| aI ztv <| aI ztU <| aI zvH <| aI zto <| aI zu6 <| aI zwt <| aI ztu <| aI zw8 <| aI zvW <| aI zus <| aI ztB <| zKz
def zhV:FI:=⟨134217440,27,4⟩
def zjt:=qe Tryz.prog 30
def zdn (l:List Nat):=zk zi zhV (zI l zjt)
def zDi:=zdn [0]
def zAv:=zdn [1,0]
def zA0:=zdn [1,1,0,0]
def zuQ:=zdn [1,1,0,1,0,0,0,0]
def zvi:=zdn [1,1,0,1,0,0,1,0,0]
def zwg:=zdn [1,1,0,1,0,0,1,1]
def zrI:=zI [1,1,0,1,0] zjt
def zeN:=zk zi zhV zrI
def zv7:=zdn [1,1,1,0]
def zBZ:=zk zi zhV zjt
def zDC:=yb (qm zi zhV (qy Tryz.prog 30)).run
theorem zFW :
 ((∀ r s x0,(fnC zi 30).run r [x0] s=ql (z4 (fun t s=>zDC t s) (zBZ.run r (sp 0 x0 T.new) s))) ∧
 ((∀ s t,zDC t s=yU (gp 240 t) (yj [gp 2 t] s)) ∧
 (∀ r s t,zBZ.run r t s=za (fun t s=>za (fun t s=>za (fun t s=>za (fun t s=>.ret t s) (zv7.run r t s)) (za (fun t s=>zC 0 (zeN.run r t s)) (zA0.run r t s))) (zAv.run r t s)) (zDi.run r t s)))):=by
 and_intros<;>(intros;kernel_rfl)
theorem zyp:∀ r s t,zDi.run r t s=.nrm (sp 2 (V.nat .i64 0) t) s:=ze 1
theorem zwA:∀ r s t,zAv.run r t s=.nrm (sp 3 (V.nat .i64 0) t) s:=ze 1
theorem zv2:∀ r s t,zA0.run r t s=.nrm (sp 4 (V.nat .i64 0) t) s:=ze 1
theorem zpu:∀ r s t,zuQ.run r t s=zt (gp 0 t) fun v2=>zj ⟨9,[]⟩ false .lss (gp 4 t) v2 fun v3=>.nrm (sp 5 v3 t) s:=ze 4
theorem znp:∀ r s t,zvi.run r t s=zg 2 (gp 0 t) (gp 4 t) fun v3=>zf 0 v3 fun v4=>zb false 1 v4 s fun v5 s=>zt v5 fun v6=>zj ⟨9,[]⟩ false .add (gp 3 t) v6 fun v7=>zg 2 (gp 0 t) (gp 4 t) fun v10=>zf 1 v10 fun v11=>zb false 1 v11 s fun v12 s=>zt v12 fun v13=>zj ⟨9,[]⟩ false .add v7 v13 fun v14=>.nrm (sp 3 v14 t) s:=zak 16
theorem zo4:∀ r s t,zwg.run r t s=zj ⟨9,[]⟩ false .add (gp 4 t) (V.nat .i64 1) fun v1=>.nrm (sp 4 v1 t) s:=ze 3
theorem znY:∀ r s t,zv7.run r t s=.nrm (sp 2 (gp 3 t) t) s:=ze 2
theorem zH3:zW zrI=34:=by kernel_rfl
theorem ztp:∀ r s t,zeN.run r t s=za (fun t s=>r.code zhV zrI t s) (za (fun t s=>za (fun t s=>zwg.run r t s) (zC 1 (zvi.run r t s))) (za (fun t s=>zw (gp 5 t) (.nrm t s) (.ext 0 t s)) (zuQ.run r t s))):=by intros;kernel_rfl
theorem zqv:type_of% (aI zyp <| aI zwA <| aI zv2 <| aI zpu <| aI znp <| aI zo4 <| aI znY <| zFW):=aI zyp <| aI zwA <| aI zv2 <| aI zpu <| aI znp <| aI zo4 <| aI znY <| zFW
def wU:FI:=⟨68215103488,36,4⟩
def zbQ:=qe Tryz.prog 52
def qK (l:List Nat):=zk zi wU (zI l zbQ)
def zpj:=qK [0]
def zmQ:=qK [1,0]
def znT:=qK [1,1,0,0]
def zl1:=qK [1,1,0,1,0,0,0]
def zkc:=qK [1,1,0,1,0,0,1,1,0,0,0]
def zli:=qK [1,1,0,1,0,0,1,1,0,0,1,0]
def zlG:=qK [1,1,0,1,0,0,1,1,0,0,1,1,0]
def zBU:=qK [1,1,0,1,0,0,1,1,0,0,1,1,1,0]
def zkm:=qK [1,1,0,1,0,0,1,1,1]
def zf9:=zI [1,1,0,1,0] zbQ
def zbk:=zk zi wU zf9
def zkK:=qK [1,1,1,0]
def zlI:=qK [1,1,1,1,0,0]
def zj1:=qK [1,1,1,1,0,1,0,0,0]
def zki:=qK [1,1,1,1,0,1,0,0,1,1,0,0,0]
def zk2:=qK [1,1,1,1,0,1,0,0,1,1,0,0,1]
def zl2:=qK [1,1,1,1,0,1,0,0,1,1,1]
def zeu:=zI [1,1,1,1,0,1,0] zbQ
def zaq:=zk zi wU zeu
def zkH:=qK [1,1,1,1,1,0]
def zov:=zk zi wU zbQ
def zoW:=yb (qm zi wU (qy Tryz.prog 52)).run
theorem zxR :
 ((∀ r s x0,(fnC zi 52).run r [x0] s=ql (z4 (fun t s=>zoW t s) (zov.run r (sp 0 x0 T.new) s))) ∧
 ((∀ s t,zoW t s=yU (gp 240 t) (yj [gp 2 t] s)) ∧
 (∀ r s t,zov.run r t s=za (fun t s=>za (fun t s=>za (fun t s=>za (fun t s=>za (fun t s=>za (fun t s=>.ret t s) (zkH.run r t s)) (za (fun t s=>zC 2 (zaq.run r t s)) (zlI.run r t s))) (zkK.run r t s)) (za (fun t s=>zC 0 (zbk.run r t s)) (znT.run r t s))) (zmQ.run r t s)) (zpj.run r t s)))):=by
 and_intros<;>(intros;kernel_rfl)
theorem zln:∀ r s t,zpj.run r t s=.nrm (sp 2 (V.nil 1) t) s:=ze 1
theorem zl0:∀ r s t,zmQ.run r t s=.nrm (sp 3 (V.nat .i64 0) t) s:=ze 1
theorem zlO:∀ r s t,znT.run r t s=zt (gp 0 t) fun v1=>.nrm (sp 11 (V.nat .i64 0) (sp 10 v1 (sp 9 (gp 0 t) t))) s:=ze 3
theorem zhO:∀ r s t,zl1.run r t s=zj ⟨9,[]⟩ false .lss (gp 11 t) (gp 10 t) fun v0=>.nrm (sp 12 v0 t) s:=ze 1
theorem ziJ:∀ r s t,zkc.run r t s=zg 1 (gp 9 t) (gp 11 t) fun v0=>zb false 1 v0 s fun v1 s=>.nrm (sp 5 v1 t) s:=ze 3
theorem zhh:∀ r s t,zli.run r t s=zt (gp 5 t) fun v2=>zj ⟨9,[]⟩ false .add (gp 3 t) v2 fun v3=>.nrm (sp 3 v3 t) s:=ze 5
theorem zhD:∀ r s t,zlG.run r t s=zj ⟨9,[]⟩ false .lss (gp 3 t) (V.nat .i64 0) fun v1=>.nrm (sp 13 v1 t) s:=ze 2
theorem zhN:∀ r s t,zkm.run r t s=zj ⟨9,[]⟩ false .add (gp 11 t) (V.nat .i64 1) fun v0=>.nrm (sp 11 v0 t) s:=ze 2
theorem zid:∀ r s t,zkK.run r t s=zG (r.call 93 [V.nil 1,gp 3 t] s) fun v1 s=>.nrm (sp 6 v1 t) s:=ze 3
theorem zh8:∀ r s t,zlI.run r t s=zt (gp 0 t) fun v1=>.nrm (sp 16 (V.nat .i64 0) (sp 15 v1 (sp 14 (gp 0 t) t))) s:=ze 3
theorem zhj:∀ r s t,zj1.run r t s=zj ⟨9,[]⟩ false .lss (gp 16 t) (gp 15 t) fun v0=>.nrm (sp 17 v0 t) s:=ze 1
theorem ziT:∀ r s t,zki.run r t s=zg 1 (gp 14 t) (gp 16 t) fun v0=>zb false 1 v0 s fun v1 s=>.nrm (sp 8 v1 t) s:=ze 3
theorem zie:∀ r s t,zk2.run r t s=zX 3 1 (gp 6 t) (gp 8 t) s fun v2 s=>.nrm (sp 6 v2 t) s:=ze 4
theorem zha:∀ r s t,zl2.run r t s=zj ⟨9,[]⟩ false .add (gp 16 t) (V.nat .i64 1) fun v0=>.nrm (sp 16 v0 t) s:=ze 2
theorem zhq:∀ r s t,zkH.run r t s=.nrm (sp 2 (gp 6 t) t) s:=ze 2
theorem zCi:zW zf9=34:=by kernel_rfl
theorem zzI:zW zeu=23:=by kernel_rfl
theorem zky:∀ r s t,zbk.run r t s=za (fun t s=>r.code wU zf9 t s) (za (fun t s=>za (fun t s=>za (fun t s=>zkm.run r t s) (zC 1 (za (fun t s=>za (fun t s=>za (fun t s=>zw (gp 13 t) (zBU.run r t s) (.nrm t s)) (zlG.run r t s)) (zli.run r t s)) (zkc.run r t s)))) (zw (gp 12 t) (.nrm t s) (.ext 0 t s))) (zl1.run r t s)):=by intros;kernel_rfl
theorem zhL:∀ r s t,zaq.run r t s=za (fun t s=>r.code wU zeu t s) (za (fun t s=>za (fun t s=>za (fun t s=>zl2.run r t s) (zC 3 (za (fun t s=>zk2.run r t s) (zki.run r t s)))) (zw (gp 17 t) (.nrm t s) (.ext 2 t s))) (zj1.run r t s)):=by intros;kernel_rfl
theorem zbm:type_of% (aI zln <| aI zl0 <| aI zlO <| aI zhO <| aI ziJ <| aI zhh <| aI zhD <| aI zhN <| aI zid <| aI zh8 <| aI zhj <| aI ziT <| aI zie <| aI zha <| aI zhq <| zxR):=aI zln <| aI zl0 <| aI zlO <| aI zhO <| aI ziJ <| aI zhh <| aI zhD <| aI zhN <| aI zid <| aI zh8 <| aI zhj <| aI ziT <| aI zie <| aI zha <| aI zhq <| zxR
def zin:FI:=⟨2251250057377792,51,4⟩
def zjv:=qe Tryz.prog 53
def y9 (l:List Nat):=zk zi zin (zI l zjv)
def zBv:=y9 [0]
def zEn:=y9 [1,0]
def zCz:=y9 [1,1,0]
def zEg:=y9 [1,1,1,0]
def ztx:=y9 [1,1,1,1,0,0]
def zyx:=y9 [1,1,1,1,0,1,0,0,0]
def zxe:=y9 [1,1,1,1,0,1,0,0,1,1,0,0,0]
def zw7:=y9 [1,1,1,1,0,1,0,0,1,1,0,0,1]
def zw2:=y9 [1,1,1,1,0,1,0,0,1,1,1]
def zjK:=zI [1,1,1,1,0,1,0] zjv
def zcy:=zk zi zin zjK
def zuy:=y9 [1,1,1,1,1,0,0]
def zxn:=y9 [1,1,1,1,1,0,1,0]
def zyj:=y9 [1,1,1,1,1,0,1,1,0,0]
def ztI:=y9 [1,1,1,1,1,1,0]
def zxh:=y9 [1,1,1,1,1,1,1,0]
def zu0:=y9 [1,1,1,1,1,1,1,1,0]
def zz4:=zk zi zin zjv
def zBA:=yb (qm zi zin (qy Tryz.prog 53)).run
theorem zG2 :
 ((∀ r s x0 x1,(fnC zi 53).run r [x0,x1] s=ql (z4 (fun t s=>zBA t s) (zz4.run r (sp 1 x1 (sp 0 x0 T.new)) s))) ∧
 ((∀ s t,zBA t s=yU (gp 240 t) (yj [gp 4 t] s)) ∧
 (∀ r s t,zz4.run r t s=za (fun t s=>za (fun t s=>za (fun t s=>za (fun t s=>za (fun t s=>za (fun t s=>za (fun t s=>za (fun t s=>za (fun t s=>.ret t s) (zu0.run r t s)) (zxh.run r t s)) (ztI.run r t s)) (za (fun t s=>za (fun t s=>zw (gp 15 t) (za (fun t s=>.ret t s) (zyj.run r t s)) (.nrm t s)) (zxn.run r t s)) (zuy.run r t s))) (za (fun t s=>zC 0 (zcy.run r t s)) (ztx.run r t s))) (zEg.run r t s)) (zCz.run r t s)) (zEn.run r t s)) (zBv.run r t s)))):=by
 and_intros<;>(intros;kernel_rfl)
theorem zvO:∀ r s t,zBv.run r t s=.nrm (sp 4 (V.nat .i64 0) t) s:=ze 1
theorem zwm:∀ r s t,zEn.run r t s=zG (r.call 94 [gp 1 t,(V.fn (.func 95) [] [])] s) fun _ s=>.nrm t s:=ze 2
theorem ztK:∀ r s t,zCz.run r t s=zG (r.call 96 [gp 1 t] s) fun v1 s=>.nrm (sp 1 v1 t) s:=ze 3
theorem zt6:∀ r s t,zEg.run r t s=.nrm (sp 5 (V.str []) t) s:=ze 1
theorem znd:∀ r s t,ztx.run r t s=zt (gp 1 t) fun v1=>.nrm (sp 13 (V.nat .i64 0) (sp 12 v1 (sp 11 (gp 1 t) t))) s:=ze 3
theorem zq1:∀ r s t,zyx.run r t s=zj ⟨9,[]⟩ false .lss (gp 13 t) (gp 12 t) fun v0=>.nrm (sp 14 v0 t) s:=ze 1
theorem zsq:∀ r s t,zxe.run r t s=zg 1 (gp 11 t) (gp 13 t) fun v0=>zb false 1 v0 s fun v1 s=>.nrm (sp 7 v1 t) s:=ze 3
theorem zrR:∀ r s t,zw7.run r t s=zB (gp 7 t) fun v2=>zf 2 v2 fun v3=>zb false 1 v3 s fun v4 s=>zG (r.call 97 [v4] s) fun v5 s=>zj ⟨9,[]⟩ false .add v5 (V.str [32]) fun v6=>zj ⟨9,[]⟩ false .add (gp 5 t) v6 fun v7=>.nrm (sp 5 v7 t) s:=ze 9
theorem zox:∀ r s t,zw2.run r t s=zj ⟨9,[]⟩ false .add (gp 13 t) (V.nat .i64 1) fun v0=>.nrm (sp 13 v0 t) s:=ze 2
theorem zru:∀ r s t,zuy.run r t s=zB (gp 0 t) fun v1=>zf 3 v1 fun v2=>zb false 1 v2 s fun v3 s=>zY ⟨8,[]⟩ (V.nat .i64 0) true v3 (gp 5 t) s fun v5=>qh 0 v5 fun v7=>qh 1 v5 fun v8=>.nrm (sp 9 v8 (sp 8 v7 t)) s:=ze 11
theorem zrw:∀ r s t,zxn.run r t s=.nrm (sp 15 (gp 9 t) t) s:=ze 1
theorem zqm:∀ r s t,zyj.run r t s=.nrm (sp 4 (gp 8 t) t) s:=ze 2
theorem zqX:∀ r s t,ztI.run r t s=zG (r.call 98 [gp 0 t,V.bool true,gp 1 t] s) fun v2 s=>.nrm (sp 10 v2 t) s:=ze 4
theorem zpF:∀ r s t,zxh.run r t s=zB (gp 0 t) fun v1=>zf 3 v1 fun v2=>zb false 1 v2 s fun v3 s=>qw ⟨8,[]⟩ v3 (gp 5 t) (gp 10 t) s fun _ s=>.nrm t s:=ze 7
theorem zno:∀ r s t,zu0.run r t s=.nrm (sp 4 (gp 10 t) t) s:=ze 2
theorem zEC:zW zjK=28:=by kernel_rfl
theorem zng:∀ r s t,zcy.run r t s=za (fun t s=>r.code zin zjK t s) (za (fun t s=>za (fun t s=>za (fun t s=>zw2.run r t s) (zC 1 (za (fun t s=>zw7.run r t s) (zxe.run r t s)))) (zw (gp 14 t) (.nrm t s) (.ext 0 t s))) (zyx.run r t s)):=by intros;kernel_rfl
theorem zr9:type_of% (aI zvO <| aI zwm <| aI ztK <| aI zt6 <| aI znd <| aI zq1 <| aI zsq <| aI zrR <| aI zox <| aI zru <| aI zrw <| aI zqm <| aI zqX <| aI zpF <| aI zno <| zG2):=aI zvO <| aI zwm <| aI ztK <| aI zt6 <| aI znd <| aI zq1 <| aI zsq <| aI zrR <| aI zox <| aI zru <| aI zrw <| aI zqm <| aI zqX <| aI zpF <| aI zno <| zG2
def wq:FI:=⟨40564816780594953975647513346048,105,4⟩
def zci:=qe Tryz.prog 54
def qp (l:List Nat):=zk zi wq (zI l zci)
def zBn:=qp [0]
def zAE:=qp [1,0,0]
def zDp:=qp [1,0,1,0,0,0]
def zxx:=qp [1,0,1,0,0,1,1,0,0,0]
def zxf:=qp [1,0,1,0,0,1,1,0,0,1,0]
def zuV:=qp [1,0,1,0,0,1,1,0,0,1,1,0,0]
def zwo:=qp [1,0,1,0,0,1,1,0,0,1,1,0,1,0,0,0]
def zwy:=qp [1,0,1,0,0,1,1,0,0,1,1,0,1,0,0,1,1,0,0,0]
def zxz:=qp [1,0,1,0,0,1,1,0,0,1,1,0,1,0,0,1,1,0,0,1,0,0]
def zun:=qp [1,0,1,0,0,1,1,0,0,1,1,0,1,0,0,1,1,0,0,1,0,1,0]
def zvt:=qp [1,0,1,0,0,1,1,0,0,1,1,0,1,0,0,1,1,0,0,1,1,0,0]
def zuB:=qp [1,0,1,0,0,1,1,0,0,1,1,0,1,0,0,1,1,0,0,1,1,1]
def zxm:=qp [1,0,1,0,0,1,1,0,0,1,1,0,1,0,0,1,1,1]
def ze9:=zI [1,0,1,0,0,1,1,0,0,1,1,0,1,0] zci
def zcK:=zk zi wq ze9
def zvK:=qp [1,0,1,0,0,1,1,0,0,1,1,1]
def zui:=qp [1,0,1,0,0,1,1,1]
def zny:=zI [1,0,1,0] zci
def zel:=zk zi wq zny
def zuJ:=qp [1,1,0,0]
def zvZ:=qp [1,1,0,1,0]
def zsO:=qp [1,1,1,0]
def zxJ:=qp [1,1,1,1,0]
def zuk:=qp [1,1,1,1,1,0,0,0]
def ztO:=qp [1,1,1,1,1,0,0,1,1,0,0,0]
def zs5:=qp [1,1,1,1,1,0,0,1,1,0,0,1,0]
def zyw:=qp [1,1,1,1,1,0,0,1,1,0,0,1,1,0,0]
def zxB:=qp [1,1,1,1,1,0,0,1,1,0,0,1,1,0,1,0]
def zx0:=qp [1,1,1,1,1,0,0,1,1,0,0,1,1,1,0]
def zs8:=qp [1,1,1,1,1,0,0,1,1,0,0,1,1,1,1]
def zwO:=qp [1,1,1,1,1,0,0,1,1,1]
def ze8:=zI [1,1,1,1,1,0] zci
def w8:=zk zi wq ze8
def zAP:=zk zi wq zci
def zDN:=yb (qm zi wq (qy Tryz.prog 54)).run
theorem zGx :
 ((∀ r s x0 x1 x2 x3 x4,(fnC zi 54).run r [x0,x1,x2,x3,x4] s=ql (z4 (fun t s=>zDN t s) (zAP.run r (sp 4 x4 (sp 3 x3 (sp 2 x2 (sp 1 x1 (sp 0 x0 T.new))))) s))) ∧
 ((∀ s t,zDN t s=yU (gp 240 t) (yj [] s)) ∧
 (∀ r s t,zAP.run r t s=za (fun t s=>za (fun t s=>za (fun t s=>za (fun t s=>za (fun t s=>zC 4 (w8.run r t s)) (zxJ.run r t s)) (zsO.run r t s)) (za (fun t s=>zw (gp 30 t) (zvZ.run r t s) (.nrm t s)) (zuJ.run r t s))) (za (fun t s=>zC 0 (zel.run r t s)) (zAE.run r t s))) (zBn.run r t s)))):=by
 and_intros<;>(intros;kernel_rfl)
theorem zs9:∀ r s t,zBn.run r t s=zB (gp 0 t) fun v1=>zf 2 v1 fun v2=>zb false 1 v2 s fun v3 s=>zg 1 v3 (gp 1 t) fun v5=>zb false 1 v5 s fun v6 s=>zG (r.call 99 [v6] s) fun v7 s=>.nrm (sp 10 v7 t) s:=ze 9
theorem ztX:∀ r s t,zAE.run r t s=zt (gp 2 t) fun v1=>.nrm (sp 22 (V.nat .i64 0) (sp 21 v1 (sp 20 (gp 2 t) t))) s:=ze 3
theorem zwe:∀ r s t,zDp.run r t s=zj ⟨9,[]⟩ false .lss (gp 22 t) (gp 21 t) fun v0=>.nrm (sp 23 v0 t) s:=ze 1
theorem zql:∀ r s t,zxx.run r t s=zg 1 (gp 20 t) (gp 22 t) fun v0=>zb false 1 v0 s fun v1 s=>.nrm (sp 12 v1 t) s:=ze 3
theorem zo6:∀ r s t,zxf.run r t s=.nrm (sp 13 (V.nil 1) t) s:=ze 1
theorem zm1:∀ r s t,zuV.run r t s=zt (gp 10 t) fun v1=>.nrm (sp 26 (V.nat .i64 0) (sp 25 v1 (sp 24 (gp 10 t) t))) s:=ze 3
theorem zoL:∀ r s t,zwo.run r t s=zj ⟨9,[]⟩ false .lss (gp 26 t) (gp 25 t) fun v0=>.nrm (sp 27 v0 t) s:=ze 1
theorem zpH:∀ r s t,zwy.run r t s=zg 1 (gp 24 t) (gp 26 t) fun v0=>zb false 1 v0 s fun v1 s=>.nrm (sp 15 v1 t) s:=ze 3
theorem zpa:∀ r s t,zxz.run r t s=zB (gp 15 t) fun v1=>zf 0 v1 fun v2=>zb false 1 v2 s fun v3 s=>zY ⟨7,[]⟩ (V.nil 0) false v3 (gp 12 t) s fun v5=>.nrm (sp 15 v5 t) s:=ze 7
theorem zp4:∀ r s t,zun.run r t s=zj ⟨1,[]⟩ true .eql (gp 15 t) (V.nil 0) fun v1=>.nrm (sp 28 v1 t) s:=ze 2
theorem zn6:∀ r s t,zvt.run r t s=zB (gp 15 t) fun v1=>zf 1 v1 fun v2=>zb false 1 v2 s fun v3 s=>zj ⟨9,[]⟩ false .geq v3 (V.nat .i64 0) fun v4=>.nrm (sp 29 v4 t) s:=ze 5
theorem zph:∀ r s t,zuB.run r t s=wY [V.nil 0] 1 fun l2z=>zq 1 (gp 15 t) fun x2_0=>ye x2_0 0 l2z fun l2_0=>Go.Ev.newRow s 66 l2_0 false fun a2k _ s=>zX 66 1 (gp 13 t) (V.sl a2k 0 0 1 1) s fun v3 s=>.nrm (sp 13 v3 t) s:=ze 5
theorem zom:∀ r s t,zxm.run r t s=zj ⟨9,[]⟩ false .add (gp 26 t) (V.nat .i64 1) fun v0=>.nrm (sp 26 v0 t) s:=ze 2
theorem zrq:∀ r s t,zvK.run r t s=.nrm (sp 10 (gp 13 t) t) s:=ze 2
theorem zo0:∀ r s t,zui.run r t s=zj ⟨9,[]⟩ false .add (gp 22 t) (V.nat .i64 1) fun v0=>.nrm (sp 22 v0 t) s:=ze 2
theorem zqt:∀ r s t,zuJ.run r t s=zj ⟨1,[]⟩ true .neq (gp 4 t) (V.nil 0) fun v1=>.nrm (sp 30 v1 t) s:=ze 2
theorem zqO:∀ r s t,zvZ.run r t s=wY [V.nil 0] 1 fun l2z=>zq 1 (gp 4 t) fun x2_0=>ye x2_0 0 l2z fun l2_0=>Go.Ev.newRow s 66 l2_0 false fun a2k _ s=>zX 66 1 (gp 10 t) (V.sl a2k 0 0 1 1) s fun v3 s=>.nrm (sp 10 v3 t) s:=ze 5
theorem znz:∀ r s t,zsO.run r t s=zG (r.call 53 [gp 0 t,gp 10 t] s) fun v2 s=>.nrm (sp 16 v2 t) s:=ze 4
theorem zqg:∀ r s t,zxJ.run r t s=zt (gp 3 t) fun v1=>.nrm (sp 33 (V.nat .i64 0) (sp 32 v1 (sp 31 (gp 3 t) t))) s:=ze 3
theorem zn2:∀ r s t,zuk.run r t s=zj ⟨9,[]⟩ false .lss (gp 33 t) (gp 32 t) fun v0=>.nrm (sp 34 v0 t) s:=ze 1
theorem zrX:∀ r s t,ztO.run r t s=zg 1 (gp 31 t) (gp 33 t) fun v1=>zb false 1 v1 s fun v2 s=>.nrm (sp 18 v2 (sp 17 (gp 33 t) t)) s:=ze 5
theorem zop:∀ r s t,zs5.run r t s=.nrm (sp 19 (gp 16 t) t) s:=ze 2
theorem zq0:∀ r s t,zyw.run r t s=zt (gp 3 t) fun v2=>zj ⟨9,[]⟩ false .sub v2 (V.nat .i64 1) fun v3=>zj ⟨9,[]⟩ false .lss (gp 17 t) v3 fun v4=>.nrm (sp 35 v4 t) s:=ze 5
theorem zqq:∀ r s t,zxB.run r t s=zG (r.call 98 [gp 0 t,V.bool false,V.nil 1] s) fun v1 s=>.nrm (sp 19 v1 t) s:=ze 3
theorem zoy:∀ r s t,zx0.run r t s=zB (gp 0 t) fun v1=>zf 0 v1 fun v2=>zb false 1 v2 s fun v3 s=>zB (gp 0 t) fun v6=>zf 0 v6 fun v7=>zb false 1 v7 s fun v8 s=>zg 1 v8 (gp 1 t) fun v10=>zb false 1 v10 s fun v11 s=>zq 1 (gp 2 t) fun x15_0=>ye x15_0 0 [V.nil 1,V.nat .i64 0,V.nat .i64 0] fun l15_0=>zq 1 (gp 18 t) fun x15_1=>ye x15_1 1 l15_0 fun l15_1=>zq 1 (gp 19 t) fun x15_2=>ye x15_2 2 l15_1 fun l15_2=>wY [V.nil 1,V.nat .i64 0,V.nat .i64 0] 1 fun l16z=>zq 3 (V.ls 0 l15_2) fun x16_0=>ye x16_0 0 l16z fun l16_0=>Go.Ev.newRow s 180 l16_0 false fun a16k _ s=>zX 180 3 v11 (V.sl a16k 0 0 1 1) s fun v17 s=>zb false 1 v2 s fun v18 s=>zei (yQ v18 v3) (zg 1 v3 (gp 1 t) fun v19=>zH 1 v19 v17 s fun _ s=>.nrm t s) eA:=zak 21
theorem zsd:∀ r s t,zs8.run r t s=.nrm (sp 2 (V.nil 1) (sp 1 (gp 19 t) t)) s:=ze 3
theorem znE:∀ r s t,zwO.run r t s=zj ⟨9,[]⟩ false .add (gp 33 t) (V.nat .i64 1) fun v0=>.nrm (sp 33 v0 t) s:=ze 2
theorem zFe:zW ze9=52:=by kernel_rfl
theorem zIB:zW zny=83:=by kernel_rfl
theorem zEx:zW ze8=64:=by kernel_rfl
theorem zdd:∀ r s t,zcK.run r t s=za (fun t s=>r.code wq ze9 t s) (za (fun t s=>za (fun t s=>za (fun t s=>zxm.run r t s) (zC 3 (za (fun t s=>za (fun t s=>za (fun t s=>zuB.run r t s) (za (fun t s=>zw (gp 29 t) (.ret t s) (.nrm t s)) (zvt.run r t s))) (za (fun t s=>za (fun t s=>zw (gp 28 t) (.ext 3 t s) (.nrm t s)) (zun.run r t s)) (zxz.run r t s))) (zwy.run r t s)))) (zw (gp 27 t) (.nrm t s) (.ext 2 t s))) (zwo.run r t s)):=by intros;kernel_rfl
theorem zys:∀ r s t,zel.run r t s=za (fun t s=>r.code wq zny t s) (za (fun t s=>za (fun t s=>za (fun t s=>zui.run r t s) (zC 1 (za (fun t s=>za (fun t s=>za (fun t s=>zvK.run r t s) (za (fun t s=>zC 2 (zcK.run r t s)) (zuV.run r t s))) (zxf.run r t s)) (zxx.run r t s)))) (zw (gp 23 t) (.nrm t s) (.ext 0 t s))) (zDp.run r t s)):=by intros;kernel_rfl
theorem zgP:∀ r s t,w8.run r t s=za (fun t s=>r.code wq ze8 t s) (za (fun t s=>za (fun t s=>za (fun t s=>zwO.run r t s) (zC 5 (za (fun t s=>za (fun t s=>za (fun t s=>za (fun t s=>zs8.run r t s) (zx0.run r t s)) (za (fun t s=>zw (gp 35 t) (zxB.run r t s) (.nrm t s)) (zyw.run r t s))) (zs5.run r t s)) (ztO.run r t s)))) (zw (gp 34 t) (.nrm t s) (.ext 4 t s))) (zuk.run r t s)):=by intros;kernel_rfl
theorem jU:type_of% (aI zs9 <| aI ztX <| aI zwe <| aI zql <| aI zo6 <| aI zm1 <| aI zoL <| aI zpH <| aI zpa <| aI zp4 <| aI zn6 <| aI zph <| aI zom <| aI zrq <| aI zo0 <| aI zqt <| aI zqO <| aI znz <| aI zqg <| aI zn2 <| aI zrX <| aI zop <| aI zq0 <| aI zqq <| aI zoy <| aI zsd <| aI znE <| zGx):=aI zs9 <| aI ztX <| aI zwe <| aI zql <| aI zo6 <| aI zm1 <| aI zoL <| aI zpH <| aI zpa <| aI zp4 <| aI zn6 <| aI zph <| aI zom <| aI zrq <| aI zo0 <| aI zqt <| aI zqO <| aI znz <| aI zqg <| aI zn2 <| aI zrX <| aI zop <| aI zq0 <| aI zqq <| aI zoy <| aI zsd <| aI znE <| zGx
def yp:FI:=⟨39534442678181013841036427264,95,4⟩
def j9:=qe Tryz.prog 55
def qb (l:List Nat):=zk zi yp (zI l j9)
def zu8:=qb [0]
def zux:=qb [1,0]
def zwM:=qb [1,1,0]
def zxN:=qb [1,1,1,0]
def znH:=qb [1,1,1,1,0,0]
def znV:=qb [1,1,1,1,0,1,0,0,0,0]
def zm2:=qb [1,1,1,1,0,1,0,0,1,0,0]
def zr2:=qb [1,1,1,1,0,1,0,0,1,1,0,0]
def zrG:=qb [1,1,1,1,0,1,0,0,1,1,0,1]
def zrB:=qb [1,1,1,1,0,1,0,0,1,1,1]
def zgN:=zI [1,1,1,1,0,1,0] j9
def zbu:=zk zi yp zgN
def zpY:=qb [1,1,1,1,1,0]
def zot:=qb [1,1,1,1,1,1,0]
def zm4:=qb [1,1,1,1,1,1,1,0,0]
def znk:=qb [1,1,1,1,1,1,1,0,1,0,0,0]
def zpy:=qb [1,1,1,1,1,1,1,0,1,0,0,1,1,0,0,0]
def zcX:=zI [1,1,1,1,1,1,1,0,1,0,0,1,1,0,0,1,0] j9
def znX:=zk zi yp zcX
def zfO:=zay zi yp zcX 17 1 [58,57,56,55,54,53,52,51,50,49,48,47,46,45,44,43,42]
def zcV:=zay zi yp zcX 9 8 [50,49,48,47,46,45,44,43,42]
def ziq:=zay zi yp zcX 0 9 []
def zrQ:=qb [1,1,1,1,1,1,1,0,1,0,0,1,1,0,0,1,1,0,0]
def zqZ:=qb [1,1,1,1,1,1,1,0,1,0,0,1,1,0,0,1,1,0,1]
def zoA:=qb [1,1,1,1,1,1,1,0,1,0,0,1,1,1]
def zgj:=zI [1,1,1,1,1,1,1,0,1,0] j9
def zbi:=zk zi yp zgj
def zrA:=qb [1,1,1,1,1,1,1,1,0,0]
def zr0:=qb [1,1,1,1,1,1,1,1,0,1,0,0,0,0]
def zr3:=qb [1,1,1,1,1,1,1,1,0,1,0,0,1,0,0,0]
def zqd:=qb [1,1,1,1,1,1,1,1,0,1,0,0,1,0,0,1,0,0,0]
def znC:=qb [1,1,1,1,1,1,1,1,0,1,0,0,1,0,0,1,0,0,1,1,0,0,0]
def zqW:=qb [1,1,1,1,1,1,1,1,0,1,0,0,1,0,0,1,0,0,1,1,0,0,1,0]
def zo8:=qb [1,1,1,1,1,1,1,1,0,1,0,0,1,0,0,1,0,0,1,1,0,0,1,1,0,0]
def zpL:=qb [1,1,1,1,1,1,1,1,0,1,0,0,1,0,0,1,0,0,1,1,0,0,1,1,0,1]
def zrL:=qb [1,1,1,1,1,1,1,1,0,1,0,0,1,0,0,1,0,0,1,1,1]
def zgu:=zI [1,1,1,1,1,1,1,1,0,1,0,0,1,0,0,1,0] j9
def zaZ:=zk zi yp zgu
def zrp:=qb [1,1,1,1,1,1,1,1,0,1,0,0,1,1]
def zf8:=zI [1,1,1,1,1,1,1,1,0,1,0] j9
def zaX:=zk zi yp zf8
def zpx:=qb [1,1,1,1,1,1,1,1,1,0]
def zuF:=zk zi yp j9
def zxp:=yb (qm zi yp (qy Tryz.prog 55)).run
theorem zCv :
 (((∀ r s x0,(fnC zi 55).run r [x0] s=ql (z4 (fun t s=>zxp t s) (zuF.run r (sp 0 x0 T.new) s))) ∧
 ((∀ s t,zxp t s=yU (gp 240 t) (yj [gp 2 t] s)) ∧
 (∀ r s t,zuF.run r t s=za (fun t s=>za (fun t s=>za (fun t s=>za (fun t s=>za (fun t s=>za (fun t s=>za (fun t s=>za (fun t s=>za (fun t s=>za (fun t s=>.ret t s) (zpx.run r t s)) (za (fun t s=>zC 4 (zaX.run r t s)) (zrA.run r t s))) (za (fun t s=>zC 2 (zbi.run r t s)) (zm4.run r t s))) (zot.run r t s)) (zpY.run r t s)) (za (fun t s=>zC 0 (zbu.run r t s)) (znH.run r t s))) (zxN.run r t s)) (zwM.run r t s)) (zux.run r t s)) (zu8.run r t s)))) ∧
 (((∀ g r s t le,(ziq g).run r t (le) s=zB (gp 0 t) fun v1=>zf 1 v1 fun v2=>zb false 1 v2 s fun v3 s=>zf 0 (gp 10 t) fun v4=>zb false 1 v4 s fun v5 s=>zg 1 v3 v5 fun v6=>zb false 1 v6 s fun v7 s=>g.run r t (v7::v7::v6::v5::v4::v3::v2::v1::gp 0 t::le) s) ∧
 (∀ g r s t le,(zcV g).run r t (.bool true::le) s=zB (gp 0 t) fun v10=>zf 1 v10 fun v11=>zb false 1 v11 s fun v12 s=>zf 1 (gp 10 t) fun v13=>zb false 1 v13 s fun v14 s=>zg 1 v12 v14 fun v15=>zb false 1 v15 s fun v16 s=>g.run r t (v16::v15::v14::v13::v12::v11::v10::gp 0 t::.bool true::le) s)) ∧
 ((∀ g r s t le,(zcV g).run r t (.bool false::le) s=g.run r t (Go.Ev.undef::Go.Ev.undef::Go.Ev.undef::Go.Ev.undef::Go.Ev.undef::Go.Ev.undef::Go.Ev.undef::Go.Ev.undef::.bool false::le) s) ∧
 (∀ g r s t le x0 x1 x2 x3 x4 x5 x6 x7 x8,(zfO g).run r t (x0::x1::x2::x3::x4::x5::x6::x7::x8::le) s=qx x8 (fun _=>g.run r (sp 20 x0 t) (x0::x0::x1::x2::x3::x4::x5::x6::x7::x8::le) s) (fun _=>g.run r (sp 20 (V.bool false) t) (V.bool false::x0::x1::x2::x3::x4::x5::x6::x7::x8::le) s))))):=by
 and_intros<;>(intros;kernel_rfl)
theorem zpO:∀ r s t,zu8.run r t s=.nrm (sp 2 (V.nil 2) t) s:=ze 1
theorem zol:∀ r s t,zux.run r t s=jT s (.map [] 0) fun a0k s=>Go.Ev.newRow s 181 [V.nil 2] false fun a1k _ s=>zH 1 (V.ptr a1k 0 0) (V.ref 0 a0k) s fun _ s=>.nrm (sp 3 (V.ptr a1k 0 0) t) s:=ze 3
theorem zsb:∀ r s t,zwM.run r t s=jT s (.map [] 0) fun a0k s=>zq 1 (V.nat .i64 0) fun x1_0=>ye x1_0 0 [V.nat .i64 0,V.nat .i64 0] fun l1_0=>zq 1 (V.nat .i64 0) fun x1_1=>ye x1_1 1 l1_0 fun l1_1=>qw ⟨6,[7,7]⟩ (V.ref 0 a0k) (V.ls 0 l1_1) (V.nat .i64 1) s fun _ s=>Go.Ev.newRow s 104 [V.nil 2] false fun a4k _ s=>zH 1 (V.ptr a4k 0 0) (V.ref 0 a0k) s fun _ s=>.nrm (sp 4 (V.ptr a4k 0 0) t) s:=ze 6
theorem znw:∀ r s t,zxN.run r t s=zq 1 (V.nat .i64 0) fun x0_0=>ye x0_0 0 [V.nat .i64 0,V.nat .i64 0] fun l0_0=>zq 1 (V.nat .i64 0) fun x0_1=>ye x0_1 1 l0_0 fun l0_1=>wY [V.nat .i64 0,V.nat .i64 0] 1 fun l1z=>zq 2 (V.ls 0 l0_1) fun x1_0=>ye x1_0 0 l1z fun l1_0=>Go.Ev.newRow s 107 l1_0 false fun a1k _ s=>Go.Ev.newRow s 111 [V.nil 1] false fun a2k _ s=>zH 1 (V.ptr a2k 0 0) (V.sl a1k 0 0 1 1) s fun _ s=>.nrm (sp 5 (V.ptr a2k 0 0) t) s:=ze 4
theorem zlo:∀ r s t,znH.run r t s=Go.Ev.newRow s 3 [V.nat .i64 0] false fun a0k _ s=>zH 1 (V.ptr a0k 0 0) (V.nat .i64 0) s fun _ s=>.nrm (sp 6 (V.ptr a0k 0 0) t) s:=ze 2
theorem zjW:∀ r s t,znV.run r t s=zb false 1 (gp 6 t) s fun v0 s=>zb false 1 (gp 5 t) s fun v1 s=>zt v1 fun v2=>zj ⟨9,[]⟩ false .lss v0 v2 fun v3=>.nrm (sp 14 v3 t) s:=ze 4
theorem zjR:∀ r s t,zm2.run r t s=zb false 1 (gp 5 t) s fun v1 s=>zb false 1 (gp 6 t) s fun v2 s=>zg 2 v1 v2 fun v3=>zb true 2 v3 s fun v4 s=>zG (r.call 56 [gp 0 t,v4,(V.fn (.func 100) [] [gp 3 t,gp 5 t,gp 6 t,gp 4 t])] s) fun _ s=>.nrm t s:=ze 7
theorem zlm:∀ r s t,zr2.run r t s=zb false 1 (gp 6 t) s fun v0 s=>.nrm (sp 15 v0 t) s:=ze 1
theorem zlQ:∀ r s t,zrG.run r t s=Go.Ev.newRow s 3 [V.nat .i64 0] false fun a0k _ s=>zH 1 (V.ptr a0k 0 0) (gp 15 t) s fun _ s=>.nrm (sp 6 (V.ptr a0k 0 0) t) s:=ze 2
theorem zkY:∀ r s t,zrB.run r t s=zb false 1 (gp 6 t) s fun v0 s=>zj ⟨9,[]⟩ false .add v0 (V.nat .i64 1) fun v1=>zH 1 (gp 6 t) v1 s fun _ s=>.nrm t s:=ze 3
theorem zlT:∀ r s t,zpY.run r t s=jT s (.map [] 0) fun a0k s=>.nrm (sp 7 (V.ref 0 a0k) t) s:=ze 2
theorem zka:∀ r s t,zot.run r t s=.nrm (sp 8 (V.nil 1) t) s:=ze 1
theorem zj8:∀ r s t,zm4.run r t s=zb false 1 (gp 5 t) s fun v0 s=>zt v0 fun v1=>.nrm (sp 18 (V.nat .i64 0) (sp 17 v1 (sp 16 v0 t))) s:=ze 3
theorem zj6:∀ r s t,znk.run r t s=zj ⟨9,[]⟩ false .lss (gp 18 t) (gp 17 t) fun v0=>.nrm (sp 19 v0 t) s:=ze 1
theorem zmb:∀ r s t,zpy.run r t s=zg 2 (gp 16 t) (gp 18 t) fun v0=>zb true 2 v0 s fun v1 s=>Go.Ev.newRow s 107 [V.nat .i64 0,V.nat .i64 0] false fun a2k _ s=>zH 2 (V.ptr a2k 0 0) v1 s fun _ s=>.nrm (sp 10 (V.ptr a2k 0 0) t) s:=ze 4
theorem zld:∀ r s t,znX.run r t s=(ziq (zcV (zfO yx))).run r.det t [] s:=zb7 (by kernel_rfl) (zdC rfl (by kernel_rfl) (zdC rfl (by kernel_rfl) zKi))
theorem zlx:∀ r s t,zrQ.run r t s=zb true 2 (gp 10 t) s fun v1 s=>qw ⟨6,[7,7]⟩ (gp 7 t) v1 (V.nat .i64 1) s fun _ s=>.nrm t s:=ze 3
theorem zlS:∀ r s t,zqZ.run r t s=zb true 2 (gp 10 t) s fun v1 s=>wY [V.nat .i64 0,V.nat .i64 0] 1 fun l2z=>zq 2 v1 fun x2_0=>ye x2_0 0 l2z fun l2_0=>Go.Ev.newRow s 107 l2_0 false fun a2k _ s=>zX 107 2 (gp 8 t) (V.sl a2k 0 0 1 1) s fun v3 s=>.nrm (sp 8 v3 t) s:=ze 5
theorem zmg:∀ r s t,zoA.run r t s=zj ⟨9,[]⟩ false .add (gp 18 t) (V.nat .i64 1) fun v0=>.nrm (sp 18 v0 t) s:=ze 2
theorem zlC:∀ r s t,zrA.run r t s=.nrm (sp 11 (V.nat .i64 0) t) s:=ze 1
theorem zl3:∀ r s t,zr0.run r t s=zt (gp 8 t) fun v2=>zj ⟨9,[]⟩ false .lss (gp 11 t) v2 fun v3=>.nrm (sp 21 v3 t) s:=ze 4
theorem zkQ:∀ r s t,zr3.run r t s=zb false 1 (gp 3 t) s fun v0 s=>zg 2 (gp 8 t) (gp 11 t) fun v3=>zb true 2 v3 s fun v4 s=>zY ⟨6,[7,7]⟩ (V.nil 1) false v0 v4 s fun v5=>zt v5 fun v6=>.nrm (sp 24 (V.nat .i64 0) (sp 23 v6 (sp 22 v5 t))) s:=zak 8
theorem zmm:∀ r s t,zqd.run r t s=zj ⟨9,[]⟩ false .lss (gp 24 t) (gp 23 t) fun v0=>.nrm (sp 25 v0 t) s:=ze 1
theorem zk7:∀ r s t,znC.run r t s=zg 2 (gp 22 t) (gp 24 t) fun v0=>zb true 2 v0 s fun v1 s=>Go.Ev.newRow s 107 [V.nat .i64 0,V.nat .i64 0] false fun a2k _ s=>zH 2 (V.ptr a2k 0 0) v1 s fun _ s=>.nrm (sp 13 (V.ptr a2k 0 0) t) s:=ze 4
theorem zkn:∀ r s t,zqW.run r t s=zb true 2 (gp 13 t) s fun v1 s=>zY ⟨6,[7,7]⟩ (V.nat .i64 0) false (gp 7 t) v1 s fun v2=>zj ⟨7,[]⟩ true .eql v2 (V.nat .i64 0) fun v3=>.nrm (sp 26 v3 t) s:=ze 4
theorem zkR:∀ r s t,zo8.run r t s=zb true 2 (gp 13 t) s fun v1 s=>qw ⟨6,[7,7]⟩ (gp 7 t) v1 (V.nat .i64 1) s fun _ s=>.nrm t s:=ze 3
theorem zkI:∀ r s t,zpL.run r t s=zb true 2 (gp 13 t) s fun v1 s=>wY [V.nat .i64 0,V.nat .i64 0] 1 fun l2z=>zq 2 v1 fun x2_0=>ye x2_0 0 l2z fun l2_0=>Go.Ev.newRow s 107 l2_0 false fun a2k _ s=>zX 107 2 (gp 8 t) (V.sl a2k 0 0 1 1) s fun v3 s=>.nrm (sp 8 v3 t) s:=ze 5
theorem zk0:∀ r s t,zrL.run r t s=zj ⟨9,[]⟩ false .add (gp 24 t) (V.nat .i64 1) fun v0=>.nrm (sp 24 v0 t) s:=ze 2
theorem zle:∀ r s t,zrp.run r t s=zj ⟨9,[]⟩ false .add (gp 11 t) (V.nat .i64 1) fun v1=>.nrm (sp 11 v1 t) s:=ze 3
theorem zjS:∀ r s t,zpx.run r t s=.nrm (sp 2 (gp 7 t) t) s:=ze 2
theorem zB9:zW zgN=32:=by kernel_rfl
theorem zA4:zW zgj=52:=by kernel_rfl
theorem zEj:zW zgu=38:=by kernel_rfl
theorem zDm:zW zf8=66:=by kernel_rfl
theorem zk1:∀ r s t,zbu.run r t s=za (fun t s=>r.code yp zgN t s) (za (fun t s=>za (fun t s=>za (fun t s=>zrB.run r t s) (za (fun t s=>zrG.run r t s) (zr2.run r t s))) (zC 1 (zm2.run r t s))) (za (fun t s=>zw (gp 14 t) (.nrm t s) (.ext 0 t s)) (znV.run r t s))):=by intros;kernel_rfl
theorem zbD:∀ r s t,zbi.run r t s=za (fun t s=>r.code yp zgj t s) (za (fun t s=>za (fun t s=>za (fun t s=>zoA.run r t s) (zC 3 (za (fun t s=>za (fun t s=>zw (gp 20 t) (za (fun t s=>zqZ.run r t s) (zrQ.run r t s)) (.nrm t s)) (znX.run r t s)) (zpy.run r t s)))) (zw (gp 19 t) (.nrm t s) (.ext 2 t s))) (znk.run r t s)):=by intros;kernel_rfl
theorem zeT:∀ r s t,zaZ.run r t s=za (fun t s=>r.code yp zgu t s) (za (fun t s=>za (fun t s=>za (fun t s=>zrL.run r t s) (zC 7 (za (fun t s=>za (fun t s=>zw (gp 26 t) (za (fun t s=>zpL.run r t s) (zo8.run r t s)) (.nrm t s)) (zqW.run r t s)) (znC.run r t s)))) (zw (gp 25 t) (.nrm t s) (.ext 6 t s))) (zqd.run r t s)):=by intros;kernel_rfl
theorem zk6:∀ r s t,zaX.run r t s=za (fun t s=>r.code yp zf8 t s) (za (fun t s=>za (fun t s=>zrp.run r t s) (zC 5 (za (fun t s=>zC 6 (zaZ.run r t s)) (zr3.run r t s)))) (za (fun t s=>zw (gp 21 t) (.nrm t s) (.ext 4 t s)) (zr0.run r t s))):=by intros;kernel_rfl
theorem yH:type_of% (aI zpO <| aI zol <| aI zsb <| aI znw <| aI zlo <| aI zjW <| aI zjR <| aI zlm <| aI zlQ <| aI zkY <| aI zlT <| aI zka <| aI zj8 <| aI zj6 <| aI zmb <| aI zld <| aI zlx <| aI zlS <| aI zmg <| aI zlC <| aI zl3 <| aI zkQ <| aI zmm <| aI zk7 <| aI zkn <| aI zkR <| aI zkI <| aI zk0 <| aI zle <| aI zjS <| zCv):=aI zpO <| aI zol <| aI zsb <| aI znw <| aI zlo <| aI zjW <| aI zjR <| aI zlm <| aI zlQ <| aI zkY <| aI zlT <| aI zka <| aI zj8 <| aI zj6 <| aI zmb <| aI zld <| aI zlx <| aI zlS <| aI zmg <| aI zlC <| aI zl3 <| aI zkQ <| aI zmm <| aI zk7 <| aI zkn <| aI zkR <| aI zkI <| aI zk0 <| aI zle <| aI zjS <| zCv
def zgQ:FI:=⟨18013282889759744,54,4⟩
def zhe:=qe Tryz.prog 56
def zbp (l:List Nat):=zk zi zgQ (zI l zhe)
def zHf:=zbp [0]
def zGe:=zbp [1,0]
def zGp:=zbp [1,1,0,0,0]
def zDv:=zbp [1,1,0,0,1,1,0,0,0]
def zDw:=zbp [1,1,0,0,1,1,0,0,1,0]
def zBg:=zbp [1,1,0,0,1,1,0,0,1,1,0,0,0]
def zEm:=zbp [1,1,0,0,1,1,0,0,1,1,0,0,1,1,0,0,0]
def zBs:=zbp [1,1,0,0,1,1,0,0,1,1,0,0,1,1,0,0,1,0]
def zBI:=zbp [1,1,0,0,1,1,0,0,1,1,0,0,1,1,0,0,1,1,0]
def zCZ:=zbp [1,1,0,0,1,1,0,0,1,1,0,0,1,1,1]
def znI:=zI [1,1,0,0,1,1,0,0,1,1,0] zhe
def zdG:=zk zi zgQ znI
def zBf:=zbp [1,1,0,0,1,1,1]
def zy7:=zI [1,1,0] zhe
def zij:=zk zi zgQ zy7
def zHJ:=zk zi zgQ zhe
def zGw:=yb (qm zi zgQ (qy Tryz.prog 56)).run
theorem zKb :
 ((∀ r s x0 x1 x2,(fnC zi 56).run r [x0,x1,x2] s=ql (z4 (fun t s=>zGw t s) (zHJ.run r (sp 2 x2 (sp 1 x1 (sp 0 x0 T.new))) s))) ∧
 ((∀ s t,zGw t s=yU (gp 240 t) (yj [] s)) ∧
 (∀ r s t,zHJ.run r t s=za (fun t s=>za (fun t s=>zC 0 (zij.run r t s)) (zGe.run r t s)) (zHf.run r t s)))):=by
 and_intros<;>(intros;kernel_rfl)
theorem zzR:∀ r s t,zHf.run r t s=zq 2 (gp 1 t) fun l0=>Go.Ev.newRow s 107 l0 false fun a0k _ s=>.nrm (sp 4 (V.ptr a0k 0 0) t) s:=ze 1
theorem zDI:∀ r s t,zGe.run r t s=zB (gp 0 t) fun v1=>zf 0 v1 fun v2=>zb false 1 v2 s fun v3 s=>zf 0 (gp 4 t) fun v4=>zb false 1 v4 s fun v5 s=>zg 1 v3 v5 fun v6=>zb false 1 v6 s fun v7 s=>zt v7 fun v8=>.nrm (sp 12 (V.nat .i64 0) (sp 11 v8 (sp 10 v7 t))) s:=zak 10
theorem zBN:∀ r s t,zGp.run r t s=zj ⟨9,[]⟩ false .lss (gp 12 t) (gp 11 t) fun v0=>.nrm (sp 13 v0 t) s:=ze 1
theorem zvF:∀ r s t,zDv.run r t s=zg 3 (gp 10 t) (gp 12 t) fun v0=>zb true 3 v0 s fun v1 s=>Go.Ev.newRow s 180 [V.nil 1,V.nat .i64 0,V.nat .i64 0] false fun a2k _ s=>zH 3 (V.ptr a2k 0 0) v1 s fun _ s=>.nrm (sp 7 (V.ptr a2k 0 0) t) s:=ze 4
theorem zwG:∀ r s t,zDw.run r t s=zB (gp 0 t) fun v1=>zf 0 v1 fun v2=>zb false 1 v2 s fun v3 s=>zf 1 (gp 4 t) fun v4=>zb false 1 v4 s fun v5 s=>zg 1 v3 v5 fun v6=>zb false 1 v6 s fun v7 s=>zt v7 fun v8=>.nrm (sp 16 (V.nat .i64 0) (sp 15 v8 (sp 14 v7 t))) s:=zak 10
theorem zwN:∀ r s t,zBg.run r t s=zj ⟨9,[]⟩ false .lss (gp 16 t) (gp 15 t) fun v0=>.nrm (sp 17 v0 t) s:=ze 1
theorem zv3:∀ r s t,zEm.run r t s=zg 3 (gp 14 t) (gp 16 t) fun v0=>zb true 3 v0 s fun v1 s=>Go.Ev.newRow s 180 [V.nil 1,V.nat .i64 0,V.nat .i64 0] false fun a2k _ s=>zH 3 (V.ptr a2k 0 0) v1 s fun _ s=>.nrm (sp 9 (V.ptr a2k 0 0) t) s:=ze 4
theorem ztF:∀ r s t,zBs.run r t s=zf 1 (gp 7 t) fun v0=>zb false 1 v0 s fun v1 s=>zf 1 (gp 9 t) fun v2=>zb false 1 v2 s fun v3 s=>zj ⟨7,[]⟩ false .eql v1 v3 fun v4=>.nrm (sp 18 v4 t) s:=ze 5
theorem zsX:∀ r s t,zBI.run r t s=zf 2 (gp 7 t) fun v1=>zb false 1 v1 s fun v2 s=>zf 2 (gp 9 t) fun v3=>zb false 1 v3 s fun v4 s=>zq 1 v2 fun x5_0=>ye x5_0 0 [V.nat .i64 0,V.nat .i64 0] fun l5_0=>zq 1 v4 fun x5_1=>ye x5_1 1 l5_0 fun l5_1=>zf 0 (gp 7 t) fun v6=>zb false 1 v6 s fun v7 s=>zf 0 (gp 9 t) fun v8=>zb false 1 v8 s fun v9 s=>jy r (gp 2 t) [(V.ls 0 l5_1),v7,v9] t s fun _ s=>.nrm t s:=ze 11
theorem zvM:∀ r s t,zCZ.run r t s=zj ⟨9,[]⟩ false .add (gp 16 t) (V.nat .i64 1) fun v0=>.nrm (sp 16 v0 t) s:=ze 2
theorem zuT:∀ r s t,zBf.run r t s=zj ⟨9,[]⟩ false .add (gp 12 t) (V.nat .i64 1) fun v0=>.nrm (sp 12 v0 t) s:=ze 2
theorem zH0:zW znI=40:=by kernel_rfl
theorem zJN:zW zy7=72:=by kernel_rfl
theorem ziX:∀ r s t,zdG.run r t s=za (fun t s=>r.code zgQ znI t s) (za (fun t s=>za (fun t s=>za (fun t s=>zCZ.run r t s) (zC 3 (za (fun t s=>za (fun t s=>zw (gp 18 t) (zBI.run r t s) (.nrm t s)) (zBs.run r t s)) (zEm.run r t s)))) (zw (gp 17 t) (.nrm t s) (.ext 2 t s))) (zBg.run r t s)):=by intros;kernel_rfl
theorem zDj:∀ r s t,zij.run r t s=za (fun t s=>r.code zgQ zy7 t s) (za (fun t s=>za (fun t s=>za (fun t s=>zBf.run r t s) (zC 1 (za (fun t s=>za (fun t s=>zC 2 (zdG.run r t s)) (zDw.run r t s)) (zDv.run r t s)))) (zw (gp 13 t) (.nrm t s) (.ext 0 t s))) (zGp.run r t s)):=by intros;kernel_rfl
theorem zfo:type_of% (aI zzR <| aI zDI <| aI zBN <| aI zvF <| aI zwG <| aI zwN <| aI zv3 <| aI ztF <| aI zsX <| aI zvM <| aI zuT <| zKb):=aI zzR <| aI zDI <| aI zBN <| aI zvF <| aI zwG <| aI zwN <| aI zv3 <| aI ztF <| aI zsX <| aI zvM <| aI zuT <| zKb
def ziL:FI:=⟨1147292005072486400,60,4⟩
def zjh:=qe Tryz.prog 57
def zby (l:List Nat):=zk zi ziL (zI l zjh)
def zAq:=zby [0]
def zAL:=zby [1,0,0]
def zAc:=zby [1,1,0]
def zvm:=zby [1,1,1,0]
def zvI:=zI [1,1,1,1,0,0] zjh
def ztM:=zk zi ziL zvI
def js:=qOf zi ziL zvI
def zhT:=js 20 1 (dn 50 20)
def zc3:=js 19 1 (dn 49 19)
def zaB:=js 18 1 (dn 48 18)
def zaL:=js 12 6 (dn 42 12)
def zbA:=js 5 7 (dn 35 5)
def zdD:=js 3 2 [33,32,31]
def zlB:=js 0 3 []
def zvl:=zby [1,1,1,1,0,1,0]
def zvz:=zby [1,1,1,1,1,0]
def zxg:=zby [1,1,1,1,1,1,0,0]
def zve:=zby [1,1,1,1,1,1,0,1]
def zAI:=zk zi ziL zjh
def zzM:=yb (qm zi ziL (qy Tryz.prog 57)).run
theorem zF4 :
 (((((∀ r s x0 x1 x2 x3 x4 x5 x6 x7,(fnC zi 57).run r [x0,x1,x2,x3,x4,x5,x6,x7] s=ql (z4 (fun t s=>zzM t s) (zAI.run r (sp 7 x7 (sp 6 x6 (sp 5 x5 (sp 4 x4 (sp 3 x3 (sp 2 x2 (sp 1 x1 (sp 0 x0 T.new)))))))) s))) ∧
 (∀ s t,zzM t s=yU (gp 240 t) (yj [] s))) ∧
 ((∀ r s t,zAI.run r t s=za (fun t s=>za (fun t s=>za (fun t s=>za (fun t s=>za (fun t s=>za (fun t s=>zw (gp 16 t) (za (fun t s=>zve.run r t s) (zxg.run r t s)) (.nrm t s)) (zvz.run r t s)) (za (fun t s=>zw (gp 15 t) (zvl.run r t s) (.nrm t s)) (ztM.run r t s))) (zvm.run r t s)) (zAc.run r t s)) (za (fun t s=>zw (gp 14 t) (.ret t s) (.nrm t s)) (zAL.run r t s))) (zAq.run r t s)) ∧
 (∀ g r s t le,(zlB g).run r t (le) s=zb true 2 (gp 11 t) s fun v0 s=>zG (r.call 59 [v0] s) fun v1 s=>g.run r t (v1::v1::v0::le) s))) ∧
 (((∀ g r s t le,(zdD g).run r t (.bool true::le) s=g.run r t (Go.Ev.undef::Go.Ev.undef::.bool true::le) s) ∧
 (∀ g r s t le,(zdD g).run r t (.bool false::le) s=g.run r t (gp 13 t::gp 13 t::.bool false::le) s)) ∧
 ((∀ g r s t le,(zbA g).run r t (.bool true::le) s=zf 0 (gp 11 t) fun v5=>zb false 1 v5 s fun v6 s=>zf 0 (gp 12 t) fun v7=>zb false 1 v7 s fun v8 s=>zG (r.call 40 [v6,v8] s) fun v9 s=>xUn .not v9 fun v10=>g.run r t (v10::v10::v9::v8::v7::v6::v5::.bool true::le) s) ∧
 ((∀ g r s t le,(zbA g).run r t (.bool false::le) s=g.run r t (Go.Ev.undef::Go.Ev.undef::Go.Ev.undef::Go.Ev.undef::Go.Ev.undef::Go.Ev.undef::Go.Ev.undef::.bool false::le) s) ∧
 (∀ g r s t le,(zbA g).run r t (Go.Ev.undef::le) s=g.run r t (Go.Ev.undef::Go.Ev.undef::Go.Ev.undef::Go.Ev.undef::Go.Ev.undef::Go.Ev.undef::Go.Ev.undef::Go.Ev.undef::le) s))))) ∧
 ((((∀ g r s t le,(zaL g).run r t (.bool true::le) s=g.run r t (Go.Ev.undef::Go.Ev.undef::Go.Ev.undef::Go.Ev.undef::Go.Ev.undef::Go.Ev.undef::.bool true::le) s) ∧
 (∀ g r s t le,(zaL g).run r t (.bool false::le) s=zf 1 (gp 11 t) fun v12=>zb false 1 v12 s fun v13 s=>zf 1 (gp 12 t) fun v14=>zb false 1 v14 s fun v15 s=>zG (r.call 40 [v13,v15] s) fun v16 s=>xUn .not v16 fun v17=>g.run r t (v17::v16::v15::v14::v13::v12::.bool false::le) s)) ∧
 ((∀ g r s t le,(zaL g).run r t (Go.Ev.undef::le) s=g.run r t (Go.Ev.undef::Go.Ev.undef::Go.Ev.undef::Go.Ev.undef::Go.Ev.undef::Go.Ev.undef::Go.Ev.undef::le) s) ∧
 (∀ g r s t le x0 x1 x2 x3 x4 x5 x6 x7 x8 x9 x10 x11 x12,(zaB g).run r t (x0::x1::x2::x3::x4::x5::x6::x7::x8::x9::x10::x11::x12::.bool true::le) s=qx x6 (fun _=>g.run r t (V.bool true::x0::x1::x2::x3::x4::x5::x6::x7::x8::x9::x10::x11::x12::.bool true::le) s) (fun _=>g.run r t (x0::x0::x1::x2::x3::x4::x5::x6::x7::x8::x9::x10::x11::x12::.bool true::le) s)))) ∧
 (((∀ g r s t le x0 x1 x2 x3 x4 x5 x6 x7 x8 x9 x10 x11 x12,(zaB g).run r t (x0::x1::x2::x3::x4::x5::x6::x7::x8::x9::x10::x11::x12::.bool false::le) s=g.run r t (Go.Ev.undef::x0::x1::x2::x3::x4::x5::x6::x7::x8::x9::x10::x11::x12::.bool false::le) s) ∧
 (∀ g r s t le x0 x1 x2 x3 x4 x5 x6 x7 x8 x9 x10 x11 x12,(zaB g).run r t (x0::x1::x2::x3::x4::x5::x6::x7::x8::x9::x10::x11::x12::Go.Ev.undef::le) s=g.run r t (Go.Ev.undef::x0::x1::x2::x3::x4::x5::x6::x7::x8::x9::x10::x11::x12::Go.Ev.undef::le) s)) ∧
 ((∀ g r s t le x0 x1 x2 x3 x4 x5 x6 x7 x8 x9 x10 x11 x12 x13 x14 x15,(zc3 g).run r t (x0::x1::x2::x3::x4::x5::x6::x7::x8::x9::x10::x11::x12::x13::x14::x15::.bool true::le) s=g.run r t (Go.Ev.undef::x0::x1::x2::x3::x4::x5::x6::x7::x8::x9::x10::x11::x12::x13::x14::x15::.bool true::le) s) ∧
 ((∀ g r s t le x0 x1 x2 x3 x4 x5 x6 x7 x8 x9 x10 x11 x12 x13 x14 x15,(zc3 g).run r t (x0::x1::x2::x3::x4::x5::x6::x7::x8::x9::x10::x11::x12::x13::x14::x15::.bool false::le) s=qx x14 (fun _=>g.run r t (x0::x0::x1::x2::x3::x4::x5::x6::x7::x8::x9::x10::x11::x12::x13::x14::x15::.bool false::le) s) (fun _=>g.run r t (V.bool false::x0::x1::x2::x3::x4::x5::x6::x7::x8::x9::x10::x11::x12::x13::x14::x15::.bool false::le) s)) ∧
 (∀ g r s t le x0 x1 x2 x3 x4 x5 x6 x7 x8 x9 x10 x11 x12 x13 x14 x15 x16 x17,(zhT g).run r t (x0::x1::x2::x3::x4::x5::x6::x7::x8::x9::x10::x11::x12::x13::x14::x15::x16::x17::le) s=qx x17 (fun _=>g.run r (sp 15 (V.bool true) t) (V.bool true::x0::x1::x2::x3::x4::x5::x6::x7::x8::x9::x10::x11::x12::x13::x14::x15::x16::x17::le) s) (fun _=>g.run r (sp 15 x0 t) (x0::x0::x1::x2::x3::x4::x5::x6::x7::x8::x9::x10::x11::x12::x13::x14::x15::x16::x17::le) s))))))):=by
 and_intros<;>(intros;kernel_rfl)
theorem zu2:∀ r s t,zAq.run r t s=zq 2 (gp 0 t) fun l0=>Go.Ev.newRow s 107 l0 false fun a0k _ s=>.nrm (sp 8 (V.ptr a0k 0 0) t) s:=ze 1
theorem zx1:∀ r s t,zAL.run r t s=zb false 1 (gp 3 t) s fun v0 s=>zb true 2 (gp 8 t) s fun v1 s=>zY ⟨6,[7,7]⟩ (V.nat .i64 0) false v0 v1 s fun v2=>zj ⟨7,[]⟩ true .eql v2 (V.nat .i64 0) fun v3=>.nrm (sp 14 v3 t) s:=ze 4
theorem zue:∀ r s t,zAc.run r t s=zb false 1 (gp 4 t) s fun v0 s=>zb true 2 (gp 5 t) s fun v1 s=>zY ⟨6,[7,7]⟩ (V.ls 0 [V.nil 1,V.nil 1]) false v0 v1 s fun v2=>zG (r.call 58 [v2,gp 1 t,gp 2 t] s) fun v5 s=>Go.Ev.newRow s 109 [V.nil 1,V.nil 1] false fun a6k _ s=>zH 2 (V.ptr a6k 0 0) v5 s fun _ s=>.nrm (sp 11 (V.ptr a6k 0 0) t) s:=ze 8
theorem zow:∀ r s t,zvm.run r t s=zb false 1 (gp 4 t) s fun v0 s=>zb true 2 (gp 8 t) s fun v1 s=>zY ⟨6,[7,7]⟩ (V.ls 0 [V.nil 1,V.nil 1]) true v0 v1 s fun v2=>qh 0 v2 fun v4=>qh 1 v2 fun v5=>Go.Ev.newRow s 109 [V.nil 1,V.nil 1] false fun a6k _ s=>zH 2 (V.ptr a6k 0 0) v4 s fun _ s=>.nrm (sp 13 v5 (sp 12 (V.ptr a6k 0 0) t)) s:=ze 9
theorem zmT:∀ r s t,ztM.run r t s=(zlB (zdD (zbA (zaL (zaB (zc3 (zhT yx))))))).run r t [] s:=yE (by kernel_rfl) (chS rfl (by kernel_rfl) (chS rfl (by kernel_rfl) (chS rfl (by kernel_rfl) (chS rfl (by kernel_rfl) (chS rfl (by kernel_rfl) (chS rfl (by kernel_rfl) chL))))))
theorem zqh:∀ r s t,zvl.run r t s=zH 1 (gp 6 t) (V.bool false) s fun _ s=>.nrm t s:=ze 1
theorem zrP:∀ r s t,zvz.run r t s=xUn .not (gp 13 t) fun v1=>.nrm (sp 16 v1 t) s:=ze 2
theorem zob:∀ r s t,zxg.run r t s=zb false 1 (gp 4 t) s fun v0 s=>zb true 2 (gp 8 t) s fun v1 s=>zb true 2 (gp 11 t) s fun v2 s=>qw ⟨6,[7,7]⟩ v0 v1 v2 s fun _ s=>.nrm t s:=ze 4
theorem zoO:∀ r s t,zve.run r t s=zb false 1 (gp 7 t) s fun v0 s=>zb true 2 (gp 8 t) s fun v1 s=>wY [V.nat .i64 0,V.nat .i64 0] 1 fun l2z=>zq 2 v1 fun x2_0=>ye x2_0 0 l2z fun l2_0=>Go.Ev.newRow s 107 l2_0 false fun a2k _ s=>zX 107 2 v0 (V.sl a2k 0 0 1 1) s fun v3 s=>zH 1 (gp 7 t) v3 s fun _ s=>.nrm t s:=ze 5
theorem za4:type_of% (aI zu2 <| aI zx1 <| aI zue <| aI zow <| aI zmT <| aI zqh <| aI zrP <| aI zob <| aI zoO <| zF4):=aI zu2 <| aI zx1 <| aI zue <| aI zow <| aI zmT <| aI zqh <| aI zrP <| aI zob <| aI zoO <| zF4
def zbw:FI:=⟨1124800395213824,50,4⟩
def zhx:=qe Tryz.prog 58
def zpR (l:List Nat):=zk zi zbw (zI l zhx)
def zG1:=zpR [0]
def zG6:=zpR [1,0]
def zGg:=zpR [1,1,0]
def zcH:=zI [1,1,1,0,0,0,0,0] zhx
def zAg:=zk zi zbw zcH
def zly:=zay zi zbw zcH 20 1 [40,39,38,37,36,35,34,33,32,31,30,29,28,27,26,25,24,23,22,21]
def zeo:=zay zi zbw zcH 11 9 [31,30,29,28,27,26,25,24,23,22,21]
def zqa:=zay zi zbw zcH 9 2 [29,28,27,26,25,24,23,22,21]
def zgW:=zay zi zbw zcH 5 4 [25,24,23,22,21]
def zqU:=zay zi zbw zcH 0 5 []
def zCF:=zpR [1,1,1,0,0,0,1,0]
def zyK:=zI [1,1,1,0,0] zhx
def zh3:=zk zi zbw zyK
def zB3:=zpR [1,1,1,1,0]
def zHv:=zk zi zbw zhx
def zHy:=yb (qm zi zbw (qy Tryz.prog 58)).run
theorem zK2 :
 ((((∀ r s x0 x1 x2,(fnC zi 58).run r [x0,x1,x2] s=ql (z4 (fun t s=>zHy t s) (zHv.run r (sp 2 x2 (sp 1 x1 (sp 0 x0 T.new))) s))) ∧
 (∀ s t,zHy t s=yU (gp 240 t) (zb true 2 (gp 6 t) s fun v0 _=>yj [v0] s))) ∧
 ((∀ r s t,zHv.run r t s=za (fun t s=>za (fun t s=>za (fun t s=>za (fun t s=>za (fun t s=>.ret t s) (zB3.run r t s)) (zC 0 (zh3.run r t s))) (zGg.run r t s)) (zG6.run r t s)) (zG1.run r t s)) ∧
 ((∀ g r s t le,(zqU g).run r t (le) s=zt (gp 7 t) fun v2=>zj ⟨9,[]⟩ false .lss (gp 9 t) v2 fun v3=>g.run r t (v3::v3::v2::gp 7 t::gp 9 t::le) s) ∧
 (∀ g r s t le,(zgW g).run r t (.bool true::le) s=zt (gp 8 t) fun v7=>zj ⟨9,[]⟩ false .lss (gp 9 t) v7 fun v8=>g.run r t (v8::v7::gp 8 t::gp 9 t::.bool true::le) s)))) ∧
 (((∀ g r s t le,(zgW g).run r t (.bool false::le) s=g.run r t (Go.Ev.undef::Go.Ev.undef::Go.Ev.undef::Go.Ev.undef::.bool false::le) s) ∧
 (∀ g r s t le x0 x1 x2 x3 x4,(zqa g).run r t (x0::x1::x2::x3::x4::le) s=qx x4 (fun _=>g.run r t (x0::x0::x0::x1::x2::x3::x4::le) s) (fun _=>g.run r t (V.bool false::V.bool false::x0::x1::x2::x3::x4::le) s))) ∧
 ((∀ g r s t le,(zeo g).run r t (.bool true::le) s=zg 1 (gp 7 t) (gp 9 t) fun v13=>zb false 1 v13 s fun v14 s=>zg 1 (gp 8 t) (gp 9 t) fun v17=>zb false 1 v17 s fun v18 s=>zj ⟨7,[]⟩ false .eql v14 v18 fun v19=>g.run r t (v19::v18::v17::gp 9 t::gp 8 t::v14::v13::gp 9 t::gp 7 t::.bool true::le) s) ∧
 ((∀ g r s t le,(zeo g).run r t (.bool false::le) s=g.run r t (Go.Ev.undef::Go.Ev.undef::Go.Ev.undef::Go.Ev.undef::Go.Ev.undef::Go.Ev.undef::Go.Ev.undef::Go.Ev.undef::Go.Ev.undef::.bool false::le) s) ∧
 (∀ g r s t le x0 x1 x2 x3 x4 x5 x6 x7 x8 x9,(zly g).run r t (x0::x1::x2::x3::x4::x5::x6::x7::x8::x9::le) s=qx x9 (fun _=>g.run r (sp 10 x0 t) (x0::x0::x1::x2::x3::x4::x5::x6::x7::x8::x9::le) s) (fun _=>g.run r (sp 10 (V.bool false) t) (V.bool false::x0::x1::x2::x3::x4::x5::x6::x7::x8::x9::le) s)))))):=by
 and_intros<;>(intros;kernel_rfl)
theorem zCt:∀ r s t,zG1.run r t s=zq 2 (gp 0 t) fun l0=>Go.Ev.newRow s 109 l0 false fun a0k _ s=>Go.Ev.newRow s 109 [V.nil 1,V.nil 1] false fun a1k _ s=>.nrm (sp 6 (V.ptr a1k 0 0) (sp 3 (V.ptr a0k 0 0) t)) s:=ze 2
theorem zDW:∀ r s t,zG6.run r t s=zf 0 (gp 3 t) fun v0=>zb false 1 v0 s fun v1 s=>wY [V.nil 1] 2 fun l3z=>zq 1 v1 fun x3_0=>ye x3_0 0 l3z fun l3_0=>zq 1 (gp 1 t) fun x3_1=>ye x3_1 1 l3_0 fun l3_1=>Go.Ev.newRow s 29 l3_1 false fun a3k _ s=>zf 1 (gp 3 t) fun v4=>zb false 1 v4 s fun v5 s=>wY [V.nil 1] 2 fun l7z=>zq 1 v5 fun x7_0=>ye x7_0 0 l7z fun l7_0=>zq 1 (gp 2 t) fun x7_1=>ye x7_1 1 l7_0 fun l7_1=>Go.Ev.newRow s 29 l7_1 false fun a7k _ s=>zG (r.det.call 52 [(V.sl a3k 0 0 2 2)] s) fun v8 s=>zb false 1 v4 s fun v9 s=>zei (yQ v9 v5) (zG (r.det.call 52 [(V.sl a7k 0 0 2 2)] s) fun v10 s=>.nrm (sp 8 v10 (sp 7 v8 t)) s) eA:=zak 13
theorem zCp:∀ r s t,zGg.run r t s=.nrm (sp 9 (V.nat .i64 0) t) s:=ze 1
theorem zvY:∀ r s t,zAg.run r t s=(zqU (zgW (zqa (zeo (zly yx))))).run r.det t [] s:=zb7 (by kernel_rfl) (zdC rfl (by kernel_rfl) (zdC rfl (by kernel_rfl) (zdC rfl (by kernel_rfl) (zdC rfl (by kernel_rfl) zKi))))
theorem zv1:∀ r s t,zCF.run r t s=zj ⟨9,[]⟩ false .add (gp 9 t) (V.nat .i64 1) fun v1=>.nrm (sp 9 v1 t) s:=ze 3
theorem zxV:∀ r s t,zB3.run r t s=yr 3 1 (gp 7 t) (some (gp 9 t)) none none s fun v2=>yr 3 1 (gp 8 t) (some (gp 9 t)) none none s fun v5=>zq 1 v2 fun x6_0=>ye x6_0 0 [V.nil 1,V.nil 1] fun l6_0=>zq 1 v5 fun x6_1=>ye x6_1 1 l6_0 fun l6_1=>zH 2 (gp 6 t) (V.ls 0 l6_1) s fun _ s=>.nrm t s:=zak 8
theorem zKX:zW zyK=33:=by kernel_rfl
theorem zhU:∀ r s t,zh3.run r t s=za (fun t s=>r.code zbw zyK t s) (za (fun t s=>zC 1 (zCF.run r t s)) (za (fun t s=>zw (gp 10 t) (.nrm t s) (.ext 0 t s)) (zAg.run r t s))):=by intros;kernel_rfl
theorem zhs:type_of% (aI zCt <| aI zDW <| aI zCp <| aI zvY <| aI zv1 <| aI zxV <| zK2):=aI zCt <| aI zDW <| aI zCp <| aI zvY <| aI zv1 <| aI zxV <| zK2
def zeC:FI:=⟨8184,13,4⟩
def zgi:=qe Tryz.prog 59
def zur:=zk zi zeC (zI [0] zgi)
def zxk:=zI [1,0] zgi
def zwY:=zk zi zeC zxk
def zd6:=qOf zi zeC zxk
def zl4:=zd6 9 2 (dn 12 9)
def zen:=zd6 5 4 (dn 8 5)
def zmo:=zd6 0 5 []
def zts:=zk zi zeC zgi
def ztl:=yb (qm zi zeC (qy Tryz.prog 59)).run
theorem zDR :
 (((∀ r s x0,(fnC zi 59).run r [x0] s=ql (z4 (fun t s=>ztl t s) (zts.run r (sp 0 x0 T.new) s))) ∧
 ((∀ s t,ztl t s=yU (gp 240 t) (yj [gp 2 t] s)) ∧
 (∀ r s t,zts.run r t s=za (fun t s=>za (fun t s=>.ret t s) (zwY.run r t s)) (zur.run r t s)))) ∧
 (((∀ g r s t le,(zmo g).run r t (le) s=zf 0 (gp 1 t) fun v0=>zb false 1 v0 s fun v1 s=>zt v1 fun v2=>zj ⟨9,[]⟩ false .gtr v2 (V.nat .i64 0) fun v3=>g.run r t (v3::v3::v2::v1::v0::le) s) ∧
 (∀ g r s t le,(zen g).run r t (.bool true::le) s=zf 1 (gp 1 t) fun v5=>zb false 1 v5 s fun v6 s=>zt v6 fun v7=>zj ⟨9,[]⟩ false .gtr v7 (V.nat .i64 0) fun v8=>g.run r t (v8::v7::v6::v5::.bool true::le) s)) ∧
 ((∀ g r s t le,(zen g).run r t (.bool false::le) s=g.run r t (Go.Ev.undef::Go.Ev.undef::Go.Ev.undef::Go.Ev.undef::.bool false::le) s) ∧
 (∀ g r s t le x0 x1 x2 x3 x4,(zl4 g).run r t (x0::x1::x2::x3::x4::le) s=qx x4 (fun _=>g.run r (sp 2 x0 t) (x0::x0::x0::x1::x2::x3::x4::le) s) (fun _=>g.run r (sp 2 (V.bool false) t) (V.bool false::V.bool false::x0::x1::x2::x3::x4::le) s))))):=by
 and_intros<;>(intros;kernel_rfl)
theorem zqM:∀ r s t,zur.run r t s=zq 2 (gp 0 t) fun l0=>Go.Ev.newRow s 109 l0 false fun a0k _ s=>.nrm (sp 2 (V.bool false) (sp 1 (V.ptr a0k 0 0) t)) s:=ze 2
theorem znm:∀ r s t,zwY.run r t s=(zmo (zen (zl4 yx))).run r t [] s:=yE (by kernel_rfl) (chS rfl (by kernel_rfl) (chS rfl (by kernel_rfl) chL))
theorem zjL:type_of% (aI zqM <| aI znm <| zDR):=aI zqM <| aI znm <| zDR
def zKG:FI:=⟨248,8,4⟩
def zGv:=qe Tryz.prog 90
def zJV (l:List Nat):=zk zi zKG (zI l zGv)
def zK5:=zJV [0]
def zJ0:=zJV [1,0,0,0]
def zKO:=zJV [1,1,0]
def zKD:=zk zi zKG zGv
def zKy:=yb (qm zi zKG (qy Tryz.prog 90)).run
theorem zMA :
 ((∀ r s x0,(fnC zi 90).run r [x0] s=ql (z4 (fun t s=>zKy t s) (zKD.run r (sp 0 x0 T.new) s))) ∧
 ((∀ s t,zKy t s=yU (gp 240 t) (yj [gp 2 t] s)) ∧
 (∀ r s t,zKD.run r t s=za (fun t s=>za (fun t s=>za (fun t s=>.ret t s) (zKO.run r t s)) (zw (V.bool false) (za (fun t s=>.ret t s) (zJ0.run r t s)) (.nrm t s))) (zK5.run r t s)))):=by
 and_intros<;>(intros;kernel_rfl)
theorem zFP:∀ r s t,zK5.run r t s=.nrm (sp 2 (V.nat .i64 0) t) s:=ze 1
theorem zHn:∀ r s t,zJ0.run r t s=yJ .u32 (gp 0 t) fun v1=>zG (r.call 147 [v1] s) fun v2 s=>.nrm (sp 2 v2 t) s:=ze 4
theorem zFX:∀ r s t,zKO.run r t s=zG (r.call 148 [gp 0 t] s) fun v1 s=>.nrm (sp 2 v1 t) s:=ze 3
theorem zMO:type_of% (aI zFP <| aI zHn <| aI zFX <| zMA):=aI zFP <| aI zHn <| aI zFX <| zMA
def zzw:FI:=⟨134152096,27,4⟩
def zwb:=qe Tryz.prog 93
def zc7 (l:List Nat):=zk zi zzw (zI l zwb)
def zEb:=zc7 [0]
def zCa:=zc7 [1,0,0]
def zKu:=zc7 [1,0,1,0]
def zwh:=zc7 [1,1,0,0]
def zxl:=zc7 [1,1,0,1,0]
def zx5:=zc7 [1,1,0,1,1,0]
def zsJ:=zc7 [1,1,1,0]
def zBz:=zk zi zzw zwb
def zCQ:=yb (qm zi zzw (qy Tryz.prog 93)).run
theorem zHI :
 ((∀ r s x0 x1,(fnC zi 93).run r [x0,x1] s=ql (z4 (fun t s=>zCQ t s) (zBz.run r (sp 1 x1 (sp 0 x0 T.new)) s))) ∧
 ((∀ s t,zCQ t s=yU (gp 240 t) (yj [gp 4 t] s)) ∧
 (∀ r s t,zBz.run r t s=za (fun t s=>za (fun t s=>za (fun t s=>za (fun t s=>.ret t s) (zsJ.run r t s)) (za (fun t s=>za (fun t s=>zw (gp 6 t) (zx5.run r t s) (.nrm t s)) (zxl.run r t s)) (zwh.run r t s))) (za (fun t s=>zw (gp 5 t) (zKu.run r t s) (.nrm t s)) (zCa.run r t s))) (zEb.run r t s)))):=by
 and_intros<;>(intros;kernel_rfl)
theorem zyf:∀ r s t,zEb.run r t s=.nrm (sp 4 (V.nil 1) t) s:=ze 1
theorem zwP:∀ r s t,zCa.run r t s=zj ⟨9,[]⟩ false .lss (gp 1 t) (V.nat .i64 0) fun v1=>.nrm (sp 5 v1 t) s:=ze 2
theorem zn4:∀ r s t,zwh.run r t s=zJM (gp 0 t) fun v2=>zt (gp 0 t) fun v4=>zj ⟨9,[]⟩ false .sub v2 v4 fun v5=>zj ⟨9,[]⟩ false .sub (gp 1 t) v5 fun v6=>.nrm (sp 1 v6 t) s:=ze 8
theorem zqE:∀ r s t,zxl.run r t s=zj ⟨9,[]⟩ false .gtr (gp 1 t) (V.nat .i64 0) fun v1=>.nrm (sp 6 v1 t) s:=ze 2
theorem zoQ:∀ r s t,zx5.run r t s=zJM (gp 0 t) fun v2=>yr 3 1 (gp 0 t) none (some v2) none s fun v3=>zdH 3 1 [V.nat .i64 0] v3 (gp 1 t) s fun v5 s=>zt (gp 0 t) fun v7=>yr 3 1 v5 none (some v7) none s fun v8=>.nrm (sp 0 v8 t) s:=ze 10
theorem znh:∀ r s t,zsJ.run r t s=.nrm (sp 4 (gp 0 t) t) s:=ze 2
theorem zCw:type_of% (aI zyf <| aI zwP <| aI zn4 <| aI zqE <| aI zoQ <| aI znh <| zHI):=aI zyf <| aI zwP <| aI zn4 <| aI zqE <| aI zoQ <| aI znh <| zHI
def zmN:FI:=⟨16352,14,4⟩
def zjd:=qe Tryz.prog 94
def zBV:=zk zi zmN (zI [0] zjd)
def zBS:=zk zi zmN (zI [1] zjd)
def zAu:=zk zi zmN zjd
def zB7:=yb (qm zi zmN (qy Tryz.prog 94)).run
theorem zF9 :
 ((∀ r s x0 x1,(fnC zi 94).run r [x0,x1] s=ql (z4 (fun t s=>zB7 t s) (zAu.run r (sp 1 x1 (sp 0 x0 T.new)) s))) ∧
 ((∀ s t,zB7 t s=yU (gp 240 t) (yj [] s)) ∧
 (∀ r s t,zAu.run r t s=za (fun t s=>zBS.run r t s) (zBV.run r t s)))):=by
 and_intros<;>(intros;kernel_rfl)
theorem zuh:∀ r s t,zBV.run r t s=zt (gp 0 t) fun v1=>.nrm (sp 4 v1 t) s:=ze 3
theorem zw3:∀ r s t,zBS.run r t s=yJ .u64 (gp 4 t) fun v3=>zG (r.call 90 [v3] s) fun v4 s=>zG (r.call 149 [gp 0 t,V.nat .i64 0,gp 4 t,v4,gp 1 t] s) fun _ s=>.nrm t s:=ze 7
theorem zJ1:type_of% (aI zuh <| aI zw3 <| zF9):=aI zuh <| aI zw3 <| zF9
def ziz:FI:=⟨16352,14,4⟩
def zgd:=qe Tryz.prog 95
def zsY:=zk zi ziz (zI [0] zgd)
def zuP:=zk zi ziz (zI [1,0] zgd)
def zxW:=zk zi ziz zgd
def zsM:=yb (qm zi ziz (qy Tryz.prog 95)).run
theorem zAp :
 ((∀ r s x0 x1,(fnC zi 95).run r [x0,x1] s=ql (z4 (fun t s=>zsM t s) (zxW.run r (sp 1 x1 (sp 0 x0 T.new)) s))) ∧
 ((∀ s t,zsM t s=yU (gp 240 t) (yj [gp 4 t] s)) ∧
 (∀ r s t,zxW.run r t s=za (fun t s=>za (fun t s=>.ret t s) (zuP.run r t s)) (zsY.run r t s)))):=by
 and_intros<;>(intros;kernel_rfl)
theorem zqK:∀ r s t,zsY.run r t s=.nrm (sp 4 (V.nat .i64 0) t) s:=ze 1
theorem zqY:∀ r s t,zuP.run r t s=zB (gp 0 t) fun v1=>zf 2 v1 fun v2=>zb false 1 v2 s fun v3 s=>zB (gp 1 t) fun v5=>zf 2 v5 fun v6=>zb false 1 v6 s fun v7 s=>zj ⟨9,[]⟩ false .sub v3 v7 fun v8=>.nrm (sp 4 v8 t) s:=zak 10
theorem zIm:type_of% (aI zqK <| aI zqY <| zAp):=aI zqK <| aI zqY <| zAp
def zaa:FI:=⟨2305825412699119296,61,4⟩
def zaD:=qe Tryz.prog 96
def qo (l:List Nat):=zk zi zaa (zI l zaD)
def zkP:=qo [0]
def zkF:=qo [1,0,0]
def zko:=qo [1,0,1,0,0]
def zho:=qo [1,1,0,0]
def zhS:=qo [1,1,0,1,0,0,0,0]
def zio:=qo [1,1,0,1,0,0,1,0,0,0]
def zhl:=qo [1,1,0,1,0,0,1,0,0,1,0,0]
def zib:=qo [1,1,0,1,0,0,1,0,0,1,0,1,0,0]
def zzf:=qo [1,1,0,1,0,0,1,0,0,1,0,1,0,1,0,0,0,0]
def zza:=qo [1,1,0,1,0,0,1,0,0,1,0,1,0,1,0,0,1,0,0,0]
def zzd:=qo [1,1,0,1,0,0,1,0,0,1,0,1,0,1,0,0,1,0,0,1,0,0]
def zyD:=qo [1,1,0,1,0,0,1,0,0,1,0,1,0,1,0,0,1,0,0,1,0,1]
def zzF:=qo [1,1,0,1,0,0,1,0,0,1,0,1,0,1,0,0,1,1]
def zyV:=zI [1,1,0,1,0,0,1,0,0,1,0,1,0,1,0] zaD
def zzv:=zk zi zaa zyV
def zhm:=qo [1,1,0,1,0,0,1,0,0,1,0,1,1,0]
def zg3:=qo [1,1,0,1,0,0,1,0,0,1,0,1,1,1,0]
def ziS:=qo [1,1,0,1,0,0,1,1]
def zcY:=zI [1,1,0,1,0] zaD
def wI:=zk zi zaa zcY
def ziQ:=qo [1,1,1,0]
def zlM:=zk zi zaa zaD
def zlV:=yb (qm zi zaa (qy Tryz.prog 96)).run
theorem znD :
 ((∀ r s x0,(fnC zi 96).run r [x0] s=ql (z4 (fun t s=>zlV t s) (zlM.run r (sp 0 x0 T.new) s))) ∧
 ((∀ s t,zlV t s=yU (gp 240 t) (yj [gp 2 t] s)) ∧
 (∀ r s t,zlM.run r t s=za (fun t s=>za (fun t s=>za (fun t s=>za (fun t s=>.ret t s) (ziQ.run r t s)) (za (fun t s=>zC 0 (wI.run r t s)) (zho.run r t s))) (za (fun t s=>zw (gp 6 t) (za (fun t s=>.ret t s) (zko.run r t s)) (.nrm t s)) (zkF.run r t s))) (zkP.run r t s)))):=by
 and_intros<;>(intros;kernel_rfl)
theorem zhf:∀ r s t,zkP.run r t s=.nrm (sp 2 (V.nil 1) t) s:=ze 1
theorem zh1:∀ r s t,zkF.run r t s=zt (gp 0 t) fun v1=>zj ⟨9,[]⟩ false .lss v1 (V.nat .i64 2) fun v2=>.nrm (sp 6 v2 t) s:=ze 3
theorem zhR:∀ r s t,zko.run r t s=.nrm (sp 2 (gp 0 t) t) s:=ze 2
theorem zfJ:∀ r s t,zho.run r t s=.nrm (sp 3 (V.nat .i64 1) t) s:=ze 1
theorem zfy:∀ r s t,zhS.run r t s=zt (gp 0 t) fun v2=>zj ⟨9,[]⟩ false .lss (gp 3 t) v2 fun v3=>.nrm (sp 7 v3 t) s:=ze 4
theorem zfZ:∀ r s t,zio.run r t s=zg 1 (gp 0 t) (gp 3 t) fun v2=>zb false 1 v2 s fun v3 s=>zj ⟨9,[]⟩ false .sub (gp 3 t) (V.nat .i64 1) fun v6=>zg 1 (gp 0 t) v6 fun v7=>zb false 1 v7 s fun v8 s=>zbg ⟨1,[]⟩ false v3 v8 s fun v9=>.nrm (sp 8 v9 t) s:=zak 10
theorem zfY:∀ r s t,zhl.run r t s=yr 66 1 (gp 0 t) (some (gp 3 t)) none none s fun v2=>.nrm (sp 4 v2 t) s:=ze 4
theorem zfS:∀ r s t,zib.run r t s=.nrm (sp 5 (V.nat .i64 1) t) s:=ze 1
theorem zf2:∀ r s t,zzf.run r t s=zt (gp 4 t) fun v2=>zj ⟨9,[]⟩ false .lss (gp 5 t) v2 fun v3=>.nrm (sp 9 v3 t) s:=ze 4
theorem zfQ:∀ r s t,zza.run r t s=zg 1 (gp 4 t) (gp 5 t) fun v2=>zb false 1 v2 s fun v3 s=>zj ⟨9,[]⟩ false .sub (gp 5 t) (V.nat .i64 1) fun v6=>zg 1 (gp 4 t) v6 fun v7=>zb false 1 v7 s fun v8 s=>zbg ⟨1,[]⟩ true v3 v8 s fun v9=>.nrm (sp 10 v9 t) s:=zak 10
theorem zfB:∀ r s t,zzd.run r t s=zg 1 (gp 4 t) (gp 5 t) fun v4=>zb false 1 v4 s fun v5 s=>zg 1 (gp 0 t) (gp 3 t) fun v6=>zH 1 v6 v5 s fun _ s=>.nrm t s:=ze 8
theorem zfU:∀ r s t,zyD.run r t s=zj ⟨9,[]⟩ false .add (gp 3 t) (V.nat .i64 1) fun v1=>.nrm (sp 3 v1 t) s:=ze 3
theorem zfz:∀ r s t,zzF.run r t s=zj ⟨9,[]⟩ false .add (gp 5 t) (V.nat .i64 1) fun v1=>.nrm (sp 5 v1 t) s:=ze 3
theorem zfG:∀ r s t,zhm.run r t s=yr 66 1 (gp 0 t) (some (gp 3 t)) none none s fun v2=>zEA 1 [V.nil 0] v2 s fun _ s=>.nrm t s:=ze 4
theorem zfF:∀ r s t,zg3.run r t s=yr 66 1 (gp 0 t) none (some (gp 3 t)) none s fun v2=>.nrm (sp 2 v2 t) s:=ze 4
theorem zfW:∀ r s t,ziS.run r t s=zj ⟨9,[]⟩ false .add (gp 3 t) (V.nat .i64 1) fun v1=>.nrm (sp 3 v1 t) s:=ze 3
theorem zfK:∀ r s t,ziQ.run r t s=.nrm (sp 2 (gp 0 t) t) s:=ze 2
theorem zsF:zW zcY=100:=by kernel_rfl
theorem zfH:∀ r s t,wI.run r t s=za (fun t s=>r.code zaa zcY t s) (za (fun t s=>za (fun t s=>ziS.run r t s) (zC 1 (za (fun t s=>zw (gp 8 t) (za (fun t s=>za (fun t s=>za (fun t s=>za (fun t s=>.ret t s) (zg3.run r t s)) (zhm.run r t s)) (za (fun t s=>zC 2 (zzv.run r t s)) (zib.run r t s))) (zhl.run r t s)) (.nrm t s)) (zio.run r t s)))) (za (fun t s=>zw (gp 7 t) (.nrm t s) (.ext 0 t s)) (zhS.run r t s))):=by intros;kernel_rfl
theorem zbF:type_of% (aI zhf <| aI zh1 <| aI zhR <| aI zfJ <| aI zfy <| aI zfZ <| aI zfY <| aI zfS <| aI zf2 <| aI zfQ <| aI zfB <| aI zfU <| aI zfz <| aI zfG <| aI zfF <| aI zfW <| aI zfK <| znD):=aI zhf <| aI zh1 <| aI zhR <| aI zfJ <| aI zfy <| aI zfZ <| aI zfY <| aI zfS <| aI zf2 <| aI zfQ <| aI zfB <| aI zfU <| aI zfz <| aI zfG <| aI zfF <| aI zfW <| aI zfK <| znD
def zEH:FI:=⟨4398046510976,42,4⟩
def zDQ:=qe Tryz.prog 98
def zqV (l:List Nat):=zk zi zEH (zI l zDQ)
def zF0:=zqV [0]
def zHt:=zqV [1,0]
def zGn:=zqV [1,1,0]
def zF6:=zqV [1,1,1,0]
def zHx:=zqV [1,1,1,1,0]
def zHa:=zk zi zEH zDQ
def zHo:=yb (qm zi zEH (qy Tryz.prog 98)).run
theorem zKn :
 ((∀ r s x0 x1 x2,(fnC zi 98).run r [x0,x1,x2] s=ql (z4 (fun t s=>zHo t s) (zHa.run r (sp 2 x2 (sp 1 x1 (sp 0 x0 T.new))) s))) ∧
 ((∀ s t,zHo t s=yU (gp 240 t) (yj [gp 6 t] s)) ∧
 (∀ r s t,zHa.run r t s=za (fun t s=>za (fun t s=>za (fun t s=>za (fun t s=>za (fun t s=>.ret t s) (zHx.run r t s)) (zF6.run r t s)) (zGn.run r t s)) (zHt.run r t s)) (zF0.run r t s)))):=by
 and_intros<;>(intros;kernel_rfl)
theorem zAt:∀ r s t,zF0.run r t s=.nrm (sp 6 (V.nat .i64 0) t) s:=ze 1
theorem zEr:∀ r s t,zHt.run r t s=zB (gp 0 t) fun v2=>zf 0 v2 fun v3=>zb false 1 v3 s fun v4 s=>wY [V.nil 1] 1 fun l5z=>zq 1 (V.nil 1) fun x5_0=>ye x5_0 0 l5z fun l5_0=>Go.Ev.newRow s 178 l5_0 false fun a5k _ s=>zX 178 1 v4 (V.sl a5k 0 0 1 1) s fun v6 s=>zB (gp 0 t) fun v7=>zf 0 v7 fun v8=>zH 1 v8 v6 s fun _ s=>.nrm t s:=ze 10
theorem zDB:∀ r s t,zGn.run r t s=zB (gp 0 t) fun v2=>zf 1 v2 fun v3=>zb false 1 v3 s fun v4 s=>wY [V.bool false] 1 fun l6z=>zq 1 (gp 1 t) fun x6_0=>ye x6_0 0 l6z fun l6_0=>Go.Ev.newRow s 4 l6_0 false fun a6k _ s=>zX 4 1 v4 (V.sl a6k 0 0 1 1) s fun v7 s=>zB (gp 0 t) fun v8=>zf 1 v8 fun v9=>zH 1 v9 v7 s fun _ s=>.nrm t s:=ze 11
theorem zAd:∀ r s t,zF6.run r t s=zB (gp 0 t) fun v2=>zf 2 v2 fun v3=>zb false 1 v3 s fun v4 s=>wY [V.nil 1] 1 fun l6z=>zq 1 (gp 2 t) fun x6_0=>ye x6_0 0 l6z fun l6_0=>Go.Ev.newRow s 171 l6_0 false fun a6k _ s=>zX 171 1 v4 (V.sl a6k 0 0 1 1) s fun v7 s=>zB (gp 0 t) fun v8=>zf 2 v8 fun v9=>zH 1 v9 v7 s fun _ s=>.nrm t s:=ze 11
theorem zAK:∀ r s t,zHx.run r t s=zB (gp 0 t) fun v1=>zf 1 v1 fun v2=>zb false 1 v2 s fun v3 s=>zt v3 fun v4=>zj ⟨9,[]⟩ false .sub v4 (V.nat .i64 1) fun v5=>.nrm (sp 6 v5 t) s:=ze 7
theorem zLL:type_of% (aI zAt <| aI zEr <| aI zDB <| aI zAd <| aI zAK <| zKn):=aI zAt <| aI zEr <| aI zDB <| aI zAd <| aI zAK <| zKn
def zqu:FI:=⟨232,8,4⟩
def zoo:=qe Tryz.prog 99
def zh7 (l:List Nat):=zk zi zqu (zI l zoo)
def zwX:=zh7 [0]
def zxv:=zh7 [1,0,0]
def zwC:=zh7 [1,0,1,0,0]
def zrF:=zh7 [1,1,0]
def zty:=zk zi zqu zoo
def ztV:=yb (qm zi zqu (qy Tryz.prog 99)).run
theorem zBq :
 ((∀ r s x0,(fnC zi 99).run r [x0] s=ql (z4 (fun t s=>ztV t s) (zty.run r (sp 0 x0 T.new) s))) ∧
 ((∀ s t,ztV t s=yU (gp 240 t) (yj [gp 2 t] s)) ∧
 (∀ r s t,zty.run r t s=za (fun t s=>za (fun t s=>za (fun t s=>.ret t s) (zrF.run r t s)) (za (fun t s=>zw (gp 3 t) (za (fun t s=>.ret t s) (zwC.run r t s)) (.nrm t s)) (zxv.run r t s))) (zwX.run r t s)))):=by
 and_intros<;>(intros;kernel_rfl)
theorem zoV:∀ r s t,zwX.run r t s=.nrm (sp 2 (V.nil 1) t) s:=ze 1
theorem zoh:∀ r s t,zxv.run r t s=zj ⟨2,[]⟩ true .eql (gp 0 t) (V.nil 1) fun v1=>.nrm (sp 3 v1 t) s:=ze 2
theorem zpd:∀ r s t,zwC.run r t s=.nrm (sp 2 (V.nil 1) t) s:=ze 1
theorem zlA:∀ r s t,zrF.run r t s=wY [V.nil 0] 0 fun l0z=>Go.Ev.newRow s 66 l0z false fun a0k _ s=>zX 66 1 (V.sl a0k 0 0 0 0) (gp 0 t) s fun v2 s=>.nrm (sp 2 v2 t) s:=ze 4
theorem zvp:type_of% (aI zoV <| aI zoh <| aI zpd <| aI zlA <| zBq):=aI zoV <| aI zoh <| aI zpd <| aI zlA <| zBq
def zjB:FI:=⟨2130705408,31,4⟩
def zkJ:=qe Tryz.prog 100
def zcv (l:List Nat):=zk zi zjB (zI l zkJ)
def zqz:=zcv [0]
def zof:=zcv [1,0]
def zsf:=zcv [1,1,0]
def zrt:=zcv [1,1,1,0,0]
def zsr:=zcv [1,1,1,0,1]
def znq:=zk zi zjB zkJ
def znZ:=yb (qm zi zjB (qy Tryz.prog 100)).run
theorem zyc :
 ((∀ r s x0 x1 x2 x3 x4 x5 x6,(fnC zi 100).run r [x0,x1,x2,x3,x4,x5,x6] s=ql (z4 (fun t s=>znZ t s) (znq.run r (sp 6 x6 (sp 5 x5 (sp 4 x4 (sp 3 x3 (sp 2 x2 (sp 1 x1 (sp 0 x0 T.new))))))) s))) ∧
 ((∀ s t,znZ t s=yU (gp 240 t) (yj [] s)) ∧
 (∀ r s t,znq.run r t s=za (fun t s=>za (fun t s=>za (fun t s=>zw (gp 10 t) (za (fun t s=>zsr.run r t s) (zrt.run r t s)) (.nrm t s)) (zsf.run r t s)) (zof.run r t s)) (zqz.run r t s)))):=by
 and_intros<;>(intros;kernel_rfl)
theorem zj3:∀ r s t,zqz.run r t s=zq 2 (gp 0 t) fun l0=>Go.Ev.newRow s 107 l0 false fun a0k _ s=>.nrm (sp 7 (V.ptr a0k 0 0) t) s:=ze 1
theorem zma:∀ r s t,zof.run r t s=zb false 1 (gp 3 t) s fun v0 s=>zb true 2 (gp 7 t) s fun v1 s=>zb false 1 (gp 4 t) s fun v2 s=>zb false 1 (gp 5 t) s fun v3 s=>zg 2 v2 v3 fun v4=>zb true 2 v4 s fun v5 s=>wY [V.nat .i64 0,V.nat .i64 0] 1 fun l6z=>zq 2 v5 fun x6_0=>ye x6_0 0 l6z fun l6_0=>Go.Ev.newRow s 107 l6_0 false fun a6k _ s=>wW ⟨6,[7,7]⟩ (V.nil 1) v0 v1 s fun v7 s=>qh 0 v7 fun v8=>qh 1 v7 fun v9=>zX 107 2 v8 (V.sl a6k 0 0 1 1) s fun v10 s=>we v0 v9 v10 s fun _ s=>.nrm t s:=zak 12
theorem zkl:∀ r s t,zsf.run r t s=zb false 1 (gp 6 t) s fun v0 s=>zb true 2 (gp 7 t) s fun v1 s=>zY ⟨6,[7,7]⟩ (V.nat .i64 0) false v0 v1 s fun v2=>zj ⟨7,[]⟩ true .eql v2 (V.nat .i64 0) fun v3=>.nrm (sp 10 v3 t) s:=ze 4
theorem zlL:∀ r s t,zrt.run r t s=zb false 1 (gp 6 t) s fun v0 s=>zb true 2 (gp 7 t) s fun v1 s=>qw ⟨6,[7,7]⟩ v0 v1 (V.nat .i64 1) s fun _ s=>.nrm t s:=ze 3
theorem zl5:∀ r s t,zsr.run r t s=zb false 1 (gp 4 t) s fun v0 s=>zb true 2 (gp 7 t) s fun v1 s=>wY [V.nat .i64 0,V.nat .i64 0] 1 fun l2z=>zq 2 v1 fun x2_0=>ye x2_0 0 l2z fun l2_0=>Go.Ev.newRow s 107 l2_0 false fun a2k _ s=>zX 107 2 v0 (V.sl a2k 0 0 1 1) s fun v3 s=>zH 1 (gp 4 t) v3 s fun _ s=>.nrm t s:=ze 5
theorem zoE:type_of% (aI zj3 <| aI zma <| aI zkl <| aI zlL <| aI zl5 <| zyc):=aI zj3 <| aI zma <| aI zkl <| aI zlL <| aI zl5 <| zyc
def zzC:FI:=⟨33537768,25,4⟩
def zvs:=qe Tryz.prog 148
def wJ (l:List Nat):=zk zi zzC (zI l zvs)
def zAC:=wJ [0]
def zBj:=wJ [1,0,0]
def zA8:=wJ [1,0,1,0,0]
def zDa:=wJ [1,0,1,0,1]
def zvd:=wJ [1,1,0,0]
def zvD:=wJ [1,1,0,1,0,0]
def zt3:=wJ [1,1,0,1,0,1]
def zuX:=wJ [1,1,1,0,0]
def zuR:=wJ [1,1,1,0,1,0,0]
def zv8:=wJ [1,1,1,0,1,0,1]
def zvu:=wJ [1,1,1,1,0]
def zDG:=zk zi zzC zvs
def zCN:=yb (qm zi zzC (qy Tryz.prog 148)).run
theorem zGV :
 ((∀ r s x0,(fnC zi 148).run r [x0] s=ql (z4 (fun t s=>zCN t s) (zDG.run r (sp 0 x0 T.new) s))) ∧
 ((∀ s t,zCN t s=yU (gp 240 t) (yj [gp 2 t] s)) ∧
 (∀ r s t,zDG.run r t s=za (fun t s=>za (fun t s=>za (fun t s=>za (fun t s=>za (fun t s=>.ret t s) (zvu.run r t s)) (za (fun t s=>zw (gp 5 t) (za (fun t s=>zv8.run r t s) (zuR.run r t s)) (.nrm t s)) (zuX.run r t s))) (za (fun t s=>zw (gp 4 t) (za (fun t s=>zt3.run r t s) (zvD.run r t s)) (.nrm t s)) (zvd.run r t s))) (za (fun t s=>zw (gp 3 t) (za (fun t s=>zDa.run r t s) (zA8.run r t s)) (.nrm t s)) (zBj.run r t s))) (zAC.run r t s)))):=by
 and_intros<;>(intros;kernel_rfl)
theorem ztD:∀ r s t,zAC.run r t s=.nrm (sp 2 (V.nat .i64 0) t) s:=ze 1
theorem zsI:∀ r s t,zBj.run r t s=zj ⟨9,[]⟩ false .geq (gp 0 t) (V.nat .u64 4294967296) fun v1=>.nrm (sp 3 v1 t) s:=ze 2
theorem zwQ:∀ r s t,zA8.run r t s=zc9 .shr (gp 0 t) (V.nat .u64 32) fun v1=>.nrm (sp 0 v1 t) s:=ze 3
theorem zsT:∀ r s t,zDa.run r t s=.nrm (sp 2 (V.nat .i64 32) t) s:=ze 1
theorem zpK:∀ r s t,zvd.run r t s=zj ⟨9,[]⟩ false .geq (gp 0 t) (V.nat .u64 65536) fun v1=>.nrm (sp 4 v1 t) s:=ze 2
theorem zo2:∀ r s t,zvD.run r t s=zc9 .shr (gp 0 t) (V.nat .u64 16) fun v1=>.nrm (sp 0 v1 t) s:=ze 3
theorem zrv:∀ r s t,zt3.run r t s=zj ⟨9,[]⟩ false .add (gp 2 t) (V.nat .i64 16) fun v1=>.nrm (sp 2 v1 t) s:=ze 3
theorem zm9:∀ r s t,zuX.run r t s=zj ⟨9,[]⟩ false .geq (gp 0 t) (V.nat .u64 256) fun v1=>.nrm (sp 5 v1 t) s:=ze 2
theorem zoH:∀ r s t,zuR.run r t s=zc9 .shr (gp 0 t) (V.nat .u64 8) fun v1=>.nrm (sp 0 v1 t) s:=ze 3
theorem znO:∀ r s t,zv8.run r t s=zj ⟨9,[]⟩ false .add (gp 2 t) (V.nat .i64 8) fun v1=>.nrm (sp 2 v1 t) s:=ze 3
theorem zrH:∀ r s t,zvu.run r t s=yJ .u8 (gp 0 t) fun v2=>zhJ (V.str [0,1,2,2,3,3,3,3,4,4,4,4,4,4,4,4,5,5,5,5,5,5,5,5,5,5,5,5,5,5,5,5,6,6,6,6,6,6,6,6,6,6,6,6,6,6,6,6,6,6,6,6,6,6,6,6,6,6,6,6,6,6,6,6,7,7,7,7,7,7,7,7,7,7,7,7,7,7,7,7,7,7,7,7,7,7,7,7,7,7,7,7,7,7,7,7,7,7,7,7,7,7,7,7,7,7,7,7,7,7,7,7,7,7,7,7,7,7,7,7,7,7,7,7,7,7,7,7,8,8,8,8,8,8,8,8,8,8,8,8,8,8,8,8,8,8,8,8,8,8,8,8,8,8,8,8,8,8,8,8,8,8,8,8,8,8,8,8,8,8,8,8,8,8,8,8,8,8,8,8,8,8,8,8,8,8,8,8,8,8,8,8,8,8,8,8,8,8,8,8,8,8,8,8,8,8,8,8,8,8,8,8,8,8,8,8,8,8,8,8,8,8,8,8,8,8,8,8,8,8,8,8,8,8,8,8,8,8,8,8,8,8,8,8,8,8,8,8,8,8,8,8,8,8,8,8]) v2 fun v3=>yJ .i64 v3 fun v4=>zj ⟨9,[]⟩ false .add (gp 2 t) v4 fun v5=>.nrm (sp 2 v5 t) s:=ze 7
theorem zJz:type_of% (aI ztD <| aI zsI <| aI zwQ <| aI zsT <| aI zpK <| aI zo2 <| aI zrv <| aI zm9 <| aI zoH <| aI znO <| aI zrH <| zGV):=aI ztD <| aI zsI <| aI zwQ <| aI zsT <| aI zpK <| aI zo2 <| aI zrv <| aI zm9 <| aI zoH <| aI znO <| aI zrH <| zGV
def zbv:FI:=⟨356811880641193946689691826088336933575983104,148,4⟩
def zeO:=qe Tryz.prog 149
def qJ (l:List Nat):=zk zi zbv (zI l zeO)
def zG7:=qJ [0]
def zGu:=qJ [1,0]
def zGS:=qJ [1,1,0,0,0,0]
def zCr:=qJ [1,1,0,0,0,1,0,0]
def zC1:=qJ [1,1,0,0,0,1,0,1,0,0]
def zBh:=qJ [1,1,0,0,0,1,1,0,0]
def zDU:=qJ [1,1,0,0,0,1,1,0,1,0,0]
def zDV:=qJ [1,1,0,0,0,1,1,1,0,0]
def zDl:=qJ [1,1,0,0,0,1,1,1,0,1,0,0]
def zz8:=qJ [1,1,0,0,0,1,1,1,0,1,0,1]
def zCd:=qJ [1,1,0,0,0,1,1,1,1,0]
def zCY:=qJ [1,1,0,0,0,1,1,1,1,1,0,0]
def zB4:=qJ [1,1,0,0,0,1,1,1,1,1,0,1,0,0]
def zCP:=qJ [1,1,0,0,0,1,1,1,1,1,0,1,0,1,0]
def zEp:=qJ [1,1,0,0,0,1,1,1,1,1,0,1,0,1,1]
def zBk:=zI [1,1,0,0,0,1,1,1,1,1,1,0,0] zeO
def zDx:=zk zi zbv zBk
def zaV:=qOf zi zbv zBk
def zod:=zaV 7 1 (dn 75 7)
def zgg:=zaV 5 2 (dn 73 5)
def zqj:=zaV 3 2 [71,70,69]
def zgc:=zaV 2 1 [70,69]
def zsn:=zaV 0 2 []
def zzP:=qJ [1,1,0,0,0,1,1,1,1,1,1,0,1,0,0]
def zhI:=zI [1,1,0,0,0,1,1,1,1,1,1,1,0,0] zeO
def zCI:=zk zi zbv zhI
def zj0:=zay zi zbv zhI 16 1 [97,96,95,94,93,92,91,90,89,88,87,86,85,84,83,82]
def zgb:=zay zi zbv zhI 3 13 [84,83,82]
def zp5:=zay zi zbv zhI 0 3 []
def zz5:=qJ [1,1,0,0,0,1,1,1,1,1,1,1,0,1,0,0]
def zDo:=qJ [1,1,0,0,0,1,1,1,1,1,1,1,0,1,0,1,0]
def zD4:=qJ [1,1,0,0,0,1,1,1,1,1,1,1,1,0]
def zAr:=qJ [1,1,0,0,0,1,1,1,1,1,1,1,1,1,0]
def zDO:=qJ [1,1,0,0,0,1,1,1,1,1,1,1,1,1,1,0]
def zCJ:=qJ [1,1,0,0,0,1,1,1,1,1,1,1,1,1,1,1,0]
def zAM:=qJ [1,1,0,0,0,1,1,1,1,1,1,1,1,1,1,1,1,0]
def zBG:=qJ [1,1,0,0,0,1,1,1,1,1,1,1,1,1,1,1,1,1,0,0]
def zEo:=qJ [1,1,0,0,0,1,1,1,1,1,1,1,1,1,1,1,1,1,0,1,0]
def zDc:=qJ [1,1,0,0,0,1,1,1,1,1,1,1,1,1,1,1,1,1,0,1,1]
def zDb:=qJ [1,1,0,0,0,1,1,1,1,1,1,1,1,1,1,1,1,1,1,0]
def zDF:=qJ [1,1,0,0,0,1,1,1,1,1,1,1,1,1,1,1,1,1,1,1,0]
def zB8:=qJ [1,1,0,0,0,1,1,1,1,1,1,1,1,1,1,1,1,1,1,1,1]
def zHe:=zI [1,1,0] zeO
def zFY:=zk zi zbv zHe
def zHs:=zk zi zbv zeO
def zHA:=yb (qm zi zbv (qy Tryz.prog 149)).run
theorem zLi :
 ((((∀ r s x0 x1 x2 x3 x4,(fnC zi 149).run r [x0,x1,x2,x3,x4] s=ql (z4 (fun t s=>zHA t s) (zHs.run r (sp 4 x4 (sp 3 x3 (sp 2 x2 (sp 1 x1 (sp 0 x0 T.new))))) s))) ∧
 ((∀ s t,zHA t s=yU (gp 240 t) (yj [] s)) ∧
 (∀ r s t,zHs.run r t s=za (fun t s=>za (fun t s=>zC 0 (zFY.run r t s)) (zGu.run r t s)) (zG7.run r t s)))) ∧
 (((∀ g r s t le,(zsn g).run r t (le) s=g.run r t (gp 10 t::gp 10 t::le) s) ∧
 (∀ g r s t le,(zgc g).run r t (.bool true::le) s=g.run r t (gp 11 t::.bool true::le) s)) ∧
 ((∀ g r s t le,(zgc g).run r t (.bool false::le) s=g.run r t (Go.Ev.undef::.bool false::le) s) ∧
 (∀ g r s t le x0 x1,(zqj g).run r t (x0::x1::le) s=qx x1 (fun _=>g.run r t (x0::x0::x0::x1::le) s) (fun _=>g.run r t (V.bool false::V.bool false::x0::x1::le) s))))) ∧
 (((∀ g r s t le,(zgg g).run r t (.bool true::le) s=zj ⟨7,[]⟩ true .eql (gp 14 t) (V.nat .i64 1) fun v6=>g.run r t (v6::gp 14 t::.bool true::le) s) ∧
 ((∀ g r s t le,(zgg g).run r t (.bool false::le) s=g.run r t (Go.Ev.undef::Go.Ev.undef::.bool false::le) s) ∧
 (∀ g r s t le x0 x1 x2,(zod g).run r t (x0::x1::x2::le) s=qx x2 (fun _=>g.run r (sp 25 x0 t) (x0::x0::x1::x2::le) s) (fun _=>g.run r (sp 25 (V.bool false) t) (V.bool false::x0::x1::x2::le) s)))) ∧
 (((∀ g r s t le,(zp5 g).run r t (le) s=zj ⟨9,[]⟩ false .gtr (gp 1 t) (V.nat .i64 0) fun v1=>g.run r t (v1::v1::gp 1 t::le) s) ∧
 (∀ g r s t le,(zgb g).run r t (.bool true::le) s=zj ⟨9,[]⟩ false .sub (gp 1 t) (V.nat .i64 1) fun v6=>zg 1 (gp 0 t) v6 fun v7=>zb false 1 v7 s fun v8 s=>zg 1 (gp 0 t) (gp 13 t) fun v11=>zb false 1 v11 s fun v12 s=>jy r (gp 4 t) [v8,v12] t s fun v13 s=>zj ⟨9,[]⟩ false .lss v13 (V.nat .i64 0) fun v14=>xUn .not v14 fun v15=>g.run r t (v15::v14::v13::v12::v11::gp 13 t::gp 0 t::v8::v7::v6::gp 1 t::gp 0 t::gp 4 t::.bool true::le) s)) ∧
 ((∀ g r s t le,(zgb g).run r t (.bool false::le) s=g.run r t (Go.Ev.undef::Go.Ev.undef::Go.Ev.undef::Go.Ev.undef::Go.Ev.undef::Go.Ev.undef::Go.Ev.undef::Go.Ev.undef::Go.Ev.undef::Go.Ev.undef::Go.Ev.undef::Go.Ev.undef::Go.Ev.undef::.bool false::le) s) ∧
 (∀ g r s t le x0 x1 x2 x3 x4 x5 x6 x7 x8 x9 x10 x11 x12 x13,(zj0 g).run r t (x0::x1::x2::x3::x4::x5::x6::x7::x8::x9::x10::x11::x12::x13::le) s=qx x13 (fun _=>g.run r (sp 27 x0 t) (x0::x0::x1::x2::x3::x4::x5::x6::x7::x8::x9::x10::x11::x12::x13::le) s) (fun _=>g.run r (sp 27 (V.bool false) t) (V.bool false::x0::x1::x2::x3::x4::x5::x6::x7::x8::x9::x10::x11::x12::x13::le) s)))))):=by
 and_intros<;>(intros;kernel_rfl)
theorem zEt:∀ r s t,zG7.run r t s=.nrm (sp 10 (V.bool true) t) s:=ze 1
theorem zB0:∀ r s t,zGu.run r t s=.nrm (sp 11 (V.bool true) t) s:=ze 1
theorem zAl:∀ r s t,zGS.run r t s=zj ⟨9,[]⟩ false .sub (gp 2 t) (gp 1 t) fun v2=>.nrm (sp 12 v2 t) s:=ze 4
theorem zxy:∀ r s t,zCr.run r t s=zj ⟨9,[]⟩ false .leq (gp 12 t) (V.nat .i64 12) fun v1=>.nrm (sp 21 v1 t) s:=ze 2
theorem zw5:∀ r s t,zC1.run r t s=zG (r.call 186 [gp 0 t,gp 1 t,gp 2 t,gp 4 t] s) fun _ s=>.nrm t s:=ze 5
theorem zxQ:∀ r s t,zBh.run r t s=zj ⟨7,[]⟩ true .eql (gp 3 t) (V.nat .i64 0) fun v1=>.nrm (sp 22 v1 t) s:=ze 2
theorem ztW:∀ r s t,zDU.run r t s=zG (r.call 187 [gp 0 t,gp 1 t,gp 2 t,gp 4 t] s) fun _ s=>.nrm t s:=ze 5
theorem zvn:∀ r s t,zDV.run r t s=xUn .not (gp 10 t) fun v1=>.nrm (sp 23 v1 t) s:=ze 2
theorem zud:∀ r s t,zDl.run r t s=zG (r.call 188 [gp 0 t,gp 1 t,gp 2 t,gp 4 t] s) fun _ s=>.nrm t s:=ze 5
theorem zvV:∀ r s t,zz8.run r t s=zj ⟨9,[]⟩ false .sub (gp 3 t) (V.nat .i64 1) fun v1=>.nrm (sp 3 v1 t) s:=ze 3
theorem zva:∀ r s t,zCd.run r t s=zG (r.call 189 [gp 0 t,gp 1 t,gp 2 t,gp 4 t] s) fun v4 s=>qh 0 v4 fun v6=>qh 1 v4 fun v7=>.nrm (sp 14 v7 (sp 13 v6 t)) s:=ze 10
theorem zxO:∀ r s t,zCY.run r t s=zj ⟨7,[]⟩ true .eql (gp 14 t) (V.nat .i64 2) fun v1=>.nrm (sp 24 v1 t) s:=ze 2
theorem zs0:∀ r s t,zB4.run r t s=zG (r.call 190 [gp 0 t,gp 1 t,gp 2 t,gp 4 t] s) fun _ s=>.nrm t s:=ze 5
theorem zvb:∀ r s t,zCP.run r t s=zj ⟨9,[]⟩ false .sub (gp 2 t) (V.nat .i64 1) fun v1=>zj ⟨9,[]⟩ false .sub (gp 13 t) (gp 1 t) fun v4=>zj ⟨9,[]⟩ false .sub v1 v4 fun v5=>.nrm (sp 13 v5 t) s:=ze 7
theorem zuA:∀ r s t,zEp.run r t s=.nrm (sp 14 (V.nat .i64 1) t) s:=ze 1
theorem zxS:∀ r s t,zDx.run r t s=(zsn (zgc (zqj (zgg (zod yx))))).run r t [] s:=yE (by kernel_rfl) (chS rfl (by kernel_rfl) (chS rfl (by kernel_rfl) (chS rfl (by kernel_rfl) (chS rfl (by kernel_rfl) chL))))
theorem zvP:∀ r s t,zzP.run r t s=zG (r.call 191 [gp 0 t,gp 1 t,gp 2 t,gp 4 t] s) fun v4 s=>.nrm (sp 26 v4 t) s:=ze 5
theorem zuO:∀ r s t,zCI.run r t s=(zp5 (zgb (zj0 yx))).run r.det t [] s:=zb7 (by kernel_rfl) (zdC rfl (by kernel_rfl) (zdC rfl (by kernel_rfl) zKi))
theorem zvj:∀ r s t,zz5.run r t s=zG (r.call 192 [gp 0 t,gp 1 t,gp 2 t,gp 13 t,gp 4 t] s) fun v5 s=>.nrm (sp 15 v5 t) s:=ze 7
theorem zx7:∀ r s t,zDo.run r t s=.nrm (sp 1 (gp 15 t) t) s:=ze 2
theorem zs6:∀ r s t,zD4.run r t s=zG (r.call 193 [gp 0 t,gp 1 t,gp 2 t,gp 13 t,gp 4 t] s) fun v5 s=>qh 0 v5 fun v7=>qh 1 v5 fun v8=>.nrm (sp 17 v8 (sp 16 v7 t)) s:=ze 11
theorem zv6:∀ r s t,zAr.run r t s=.nrm (sp 11 (gp 17 t) t) s:=ze 2
theorem zwj:∀ r s t,zDO.run r t s=zj ⟨9,[]⟩ false .sub (gp 16 t) (gp 1 t) fun v2=>zj ⟨9,[]⟩ false .sub (gp 2 t) (gp 16 t) fun v5=>.nrm (sp 19 v5 (sp 18 v2 t)) s:=ze 8
theorem zuv:∀ r s t,zCJ.run r t s=zj ⟨9,[]⟩ false .quo (gp 12 t) (V.nat .i64 8) fun v1=>.nrm (sp 20 v1 t) s:=ze 3
theorem zxu:∀ r s t,zAM.run r t s=zj ⟨9,[]⟩ false .lss (gp 18 t) (gp 19 t) fun v2=>.nrm (sp 28 v2 t) s:=ze 3
theorem zsK:∀ r s t,zBG.run r t s=zj ⟨9,[]⟩ false .geq (gp 18 t) (gp 20 t) fun v2=>.nrm (sp 10 v2 t) s:=ze 4
theorem zxj:∀ r s t,zEo.run r t s=zG (r.call 149 [gp 0 t,gp 1 t,gp 16 t,gp 3 t,gp 4 t] s) fun _ s=>.nrm t s:=ze 6
theorem ztc:∀ r s t,zDc.run r t s=zj ⟨9,[]⟩ false .add (gp 16 t) (V.nat .i64 1) fun v1=>.nrm (sp 1 v1 t) s:=ze 3
theorem zxK:∀ r s t,zDb.run r t s=zj ⟨9,[]⟩ false .geq (gp 19 t) (gp 20 t) fun v2=>.nrm (sp 10 v2 t) s:=ze 4
theorem zvo:∀ r s t,zDF.run r t s=zj ⟨9,[]⟩ false .add (gp 16 t) (V.nat .i64 1) fun v2=>zG (r.call 149 [gp 0 t,v2,gp 2 t,gp 3 t,gp 4 t] s) fun _ s=>.nrm t s:=ze 7
theorem zyv:∀ r s t,zB8.run r t s=.nrm (sp 2 (gp 16 t) t) s:=ze 2
theorem zKC:∀ r s t,zFY.run r t s=za (fun t s=>r.code zbv zHe t s) (zC 1 (za (fun t s=>za (fun t s=>za (fun t s=>za (fun t s=>za (fun t s=>za (fun t s=>za (fun t s=>za (fun t s=>za (fun t s=>za (fun t s=>za (fun t s=>za (fun t s=>za (fun t s=>zw (gp 28 t) (za (fun t s=>za (fun t s=>zDc.run r t s) (zEo.run r t s)) (zBG.run r t s)) (za (fun t s=>za (fun t s=>zB8.run r t s) (zDF.run r t s)) (zDb.run r t s))) (zAM.run r t s)) (zCJ.run r t s)) (zDO.run r t s)) (zAr.run r t s)) (zD4.run r t s)) (za (fun t s=>zw (gp 27 t) (za (fun t s=>za (fun t s=>.ext 1 t s) (zDo.run r t s)) (zz5.run r t s)) (.nrm t s)) (zCI.run r t s))) (za (fun t s=>zw (gp 25 t) (za (fun t s=>zw (gp 26 t) (.ret t s) (.nrm t s)) (zzP.run r t s)) (.nrm t s)) (zDx.run r t s))) (za (fun t s=>zw (gp 24 t) (za (fun t s=>za (fun t s=>zEp.run r t s) (zCP.run r t s)) (zB4.run r t s)) (.nrm t s)) (zCY.run r t s))) (zCd.run r t s)) (za (fun t s=>zw (gp 23 t) (za (fun t s=>zz8.run r t s) (zDl.run r t s)) (.nrm t s)) (zDV.run r t s))) (za (fun t s=>zw (gp 22 t) (za (fun t s=>.ret t s) (zDU.run r t s)) (.nrm t s)) (zBh.run r t s))) (za (fun t s=>zw (gp 21 t) (za (fun t s=>.ret t s) (zC1.run r t s)) (.nrm t s)) (zCr.run r t s))) (zGS.run r t s))):=by intros;kernel_rfl
theorem zLR:type_of% (aI zEt <| aI zB0 <| aI zAl <| aI zxy <| aI zw5 <| aI zxQ <| aI ztW <| aI zvn <| aI zud <| aI zvV <| aI zva <| aI zxO <| aI zs0 <| aI zvb <| aI zuA <| aI zxS <| aI zvP <| aI zuO <| aI zvj <| aI zx7 <| aI zs6 <| aI zv6 <| aI zwj <| aI zuv <| aI zxu <| aI zsK <| aI zxj <| aI ztc <| aI zxK <| aI zvo <| aI zyv <| zLi):=aI zEt <| aI zB0 <| aI zAl <| aI zxy <| aI zw5 <| aI zxQ <| aI ztW <| aI zvn <| aI zud <| aI zvV <| aI zva <| aI zxO <| aI zs0 <| aI zvb <| aI zuA <| aI zxS <| aI zvP <| aI zuO <| aI zvj <| aI zx7 <| aI zs6 <| aI zv6 <| aI zwj <| aI zuv <| aI zxu <| aI zsK <| aI zxj <| aI ztc <| aI zxK <| aI zvo <| aI zyv <| zLi
def zbj:FI:=⟨9007182074854400,53,4⟩
def zd2:=qe Tryz.prog 186
def zi2 (l:List Nat):=zk zi zbj (zI l zd2)
def zGZ:=zi2 [0]
def zFR:=zi2 [1,0,0,0,0]
def zBu:=zi2 [1,0,0,1,0,0,0]
def zix:=zI [1,0,0,1,0,0,1,0,0,0,0] zd2
def zBX:=zk zi zbj zix
def zlP:=zay zi zbj zix 16 1 [34,33,32,31,30,29,28,27,26,25,24,23,22,21,20,19]
def zf4:=zay zi zbj zix 4 12 [22,21,20,19]
def zmR:=zay zi zbj zix 0 4 []
def zzT:=zi2 [1,0,0,1,0,0,1,0,0,1,0,0]
def zAy:=zi2 [1,0,0,1,0,0,1,0,0,1,1]
def zoi:=zI [1,0,0,1,0,0,1,0] zd2
def zeb:=zk zi zbj zoi
def zDE:=zi2 [1,0,0,1,1]
def zzl:=zI [1,0] zd2
def zhK:=zk zi zbj zzl
def zGB:=zk zi zbj zd2
def zHH:=yb (qm zi zbj (qy Tryz.prog 186)).run
theorem zJb :
 (((∀ r s x0 x1 x2 x3,(fnC zi 186).run r [x0,x1,x2,x3] s=ql (z4 (fun t s=>zHH t s) (zGB.run r (sp 3 x3 (sp 2 x2 (sp 1 x1 (sp 0 x0 T.new)))) s))) ∧
 ((∀ s t,zHH t s=yU (gp 240 t) (yj [] s)) ∧
 (∀ r s t,zGB.run r t s=za (fun t s=>zC 0 (zhK.run r t s)) (zGZ.run r t s)))) ∧
 (((∀ g r s t le,(zmR g).run r t (le) s=zj ⟨9,[]⟩ false .gtr (gp 9 t) (gp 1 t) fun v2=>g.run r t (v2::v2::gp 1 t::gp 9 t::le) s) ∧
 (∀ g r s t le,(zf4 g).run r t (.bool true::le) s=zg 1 (gp 0 t) (gp 9 t) fun v7=>zb false 1 v7 s fun v8 s=>zj ⟨9,[]⟩ false .sub (gp 9 t) (V.nat .i64 1) fun v11=>zg 1 (gp 0 t) v11 fun v12=>zb false 1 v12 s fun v13 s=>jy r (gp 3 t) [v8,v13] t s fun v14 s=>zj ⟨9,[]⟩ false .lss v14 (V.nat .i64 0) fun v15=>g.run r t (v15::v14::v13::v12::v11::gp 9 t::gp 0 t::v8::v7::gp 9 t::gp 0 t::gp 3 t::.bool true::le) s)) ∧
 ((∀ g r s t le,(zf4 g).run r t (.bool false::le) s=g.run r t (Go.Ev.undef::Go.Ev.undef::Go.Ev.undef::Go.Ev.undef::Go.Ev.undef::Go.Ev.undef::Go.Ev.undef::Go.Ev.undef::Go.Ev.undef::Go.Ev.undef::Go.Ev.undef::Go.Ev.undef::.bool false::le) s) ∧
 (∀ g r s t le x0 x1 x2 x3 x4 x5 x6 x7 x8 x9 x10 x11 x12,(zlP g).run r t (x0::x1::x2::x3::x4::x5::x6::x7::x8::x9::x10::x11::x12::le) s=qx x12 (fun _=>g.run r (sp 11 x0 t) (x0::x0::x1::x2::x3::x4::x5::x6::x7::x8::x9::x10::x11::x12::le) s) (fun _=>g.run r (sp 11 (V.bool false) t) (V.bool false::x0::x1::x2::x3::x4::x5::x6::x7::x8::x9::x10::x11::x12::le) s))))):=by
 and_intros<;>(intros;kernel_rfl)
theorem zEd:∀ r s t,zGZ.run r t s=zj ⟨9,[]⟩ false .add (gp 1 t) (V.nat .i64 1) fun v1=>.nrm (sp 8 v1 t) s:=ze 3
theorem zD2:∀ r s t,zFR.run r t s=zj ⟨9,[]⟩ false .lss (gp 8 t) (gp 2 t) fun v2=>.nrm (sp 10 v2 t) s:=ze 3
theorem ztC:∀ r s t,zBu.run r t s=.nrm (sp 9 (gp 8 t) t) s:=ze 2
theorem zyh:∀ r s t,zBX.run r t s=(zmR (zf4 (zlP yx))).run r.det t [] s:=zb7 (by kernel_rfl) (zdC rfl (by kernel_rfl) (zdC rfl (by kernel_rfl) zKi))
theorem zvQ:∀ r s t,zzT.run r t s=zj ⟨9,[]⟩ false .sub (gp 9 t) (V.nat .i64 1) fun v4=>zj ⟨9,[]⟩ false .sub (gp 9 t) (V.nat .i64 1) fun v7=>zg 1 (gp 0 t) v7 fun v8=>zb false 1 v8 s fun v9 s=>zg 1 (gp 0 t) (gp 9 t) fun v12=>zb false 1 v12 s fun v13 s=>zg 1 (gp 0 t) (gp 9 t) fun v14=>zH 1 v14 v9 s fun _ s=>zg 1 (gp 0 t) v4 fun v16=>zH 1 v16 v13 s fun _ s=>.nrm t s:=zak 18
theorem zs3:∀ r s t,zAy.run r t s=zj ⟨9,[]⟩ false .sub (gp 9 t) (V.nat .i64 1) fun v1=>.nrm (sp 9 v1 t) s:=ze 3
theorem zuj:∀ r s t,zDE.run r t s=zj ⟨9,[]⟩ false .add (gp 8 t) (V.nat .i64 1) fun v1=>.nrm (sp 8 v1 t) s:=ze 3
theorem zHU:zW zoi=49:=by kernel_rfl
theorem zKY:zW zzl=70:=by kernel_rfl
theorem zi7:∀ r s t,zeb.run r t s=za (fun t s=>r.code zbj zoi t s) (za (fun t s=>za (fun t s=>zAy.run r t s) (zC 3 (zzT.run r t s))) (za (fun t s=>zw (gp 11 t) (.nrm t s) (.ext 2 t s)) (zBX.run r t s))):=by intros;kernel_rfl
theorem zBp:∀ r s t,zhK.run r t s=za (fun t s=>r.code zbj zzl t s) (za (fun t s=>za (fun t s=>zDE.run r t s) (zC 1 (za (fun t s=>zC 2 (zeb.run r t s)) (zBu.run r t s)))) (za (fun t s=>zw (gp 10 t) (.nrm t s) (.ext 0 t s)) (zFR.run r t s))):=by intros;kernel_rfl
theorem ze4:type_of% (aI zEd <| aI zD2 <| aI ztC <| aI zyh <| aI zvQ <| aI zs3 <| aI zuj <| zJb):=aI zEd <| aI zD2 <| aI ztC <| aI zyh <| aI zvQ <| aI zs3 <| aI zuj <| zJb
def zzj:FI:=⟨24,5,4⟩
def zsh:=qe Tryz.prog 97
def zGK:=zk zi zzj (zI [0] zsh)
def zGU:=zk zi zzj (zI [1,0] zsh)
def zHE:=zk zi zzj zsh
def zHF:=yb (qm zi zzj (qy Tryz.prog 97)).run
theorem zJK :
 ((∀ r s x0,(fnC zi 97).run r [x0] s=ql (z4 (fun t s=>zHF t s) (zHE.run r (sp 0 x0 T.new) s))) ∧
 ((∀ s t,zHF t s=yU (gp 240 t) (yj [gp 2 t] s)) ∧
 (∀ r s t,zHE.run r t s=za (fun t s=>za (fun t s=>.ret t s) (zGU.run r t s)) (zGK.run r t s)))):=by
 and_intros<;>(intros;kernel_rfl)
theorem zDZ:∀ r s t,zGK.run r t s=.nrm (sp 2 (V.str []) t) s:=ze 1
theorem zAf:∀ r s t,zGU.run r t s=zG (r.call 150 [gp 0 t] s) fun v1 s=>.nrm (sp 2 v1 t) s:=ze 3
theorem zMk:type_of% (aI zDZ <| aI zAf <| zJK):=aI zDZ <| aI zAf <| zJK
def zmK:FI:=⟨24,5,4⟩
def zjs:=qe Tryz.prog 150
def zAH:=zk zi zmK (zI [0] zjs)
def zDP:=zk zi zmK (zI [1,0] zjs)
def zCy:=zk zi zmK zjs
def zAn:=yb (qm zi zmK (qy Tryz.prog 150)).run
theorem zGE :
 ((∀ r s x0,(fnC zi 150).run r [x0] s=ql (z4 (fun t s=>zAn t s) (zCy.run r (sp 0 x0 T.new) s))) ∧
 ((∀ s t,zAn t s=yU (gp 240 t) (yj [gp 2 t] s)) ∧
 (∀ r s t,zCy.run r t s=za (fun t s=>za (fun t s=>.ret t s) (zDP.run r t s)) (zAH.run r t s)))):=by
 and_intros<;>(intros;kernel_rfl)
theorem zxH:∀ r s t,zAH.run r t s=.nrm (sp 2 (V.str []) t) s:=ze 1
theorem zul:∀ r s t,zDP.run r t s=zG (r.call 194 [gp 0 t,V.nat .i64 10] s) fun v1 s=>.nrm (sp 2 v1 t) s:=ze 3
theorem zJH:type_of% (aI zxH <| aI zul <| zGE):=aI zxH <| aI zul <| zGE
def zdY:FI:=⟨18014381321090304,54,4⟩
def zgr:=qe Tryz.prog 194
def yw (l:List Nat):=zk zi zdY (zI l zgr)
def zws:=yw [0]
def zvc:=yw [1,0,0]
def zt0:=zI [1,0,1,0,0,0] zgr
def zt4:=zk zi zdY zt0
def zdI:=qOf zi zdY zt0
def zkb:=zdI 5 1 (dn 17 5)
def zef:=zdI 3 2 [15,14,13]
def zj7:=zdI 0 3 []
def zrE:=yw [1,0,1,0,0,1,0,0]
def zrb:=yw [1,0,1,0,1,0]
def zqI:=yw [1,0,1,0,1,1,0]
def zqG:=yw [1,0,1,0,1,1,1,0,0]
def zq8:=yw [1,0,1,0,1,1,1,0,1,0]
def znS:=yw [1,0,1,0,1,1,1,1,0]
def zFa:=yw [1,0,1,0,1,1,1,1,1,0]
def zpT:=yw [1,0,1,0,1,1,1,1,1,1,0,0]
def zFo:=yw [1,0,1,0,1,1,1,1,1,1,0,1,0,0]
def zFs:=yw [1,0,1,0,1,1,1,1,1,1,0,1,0,1,0]
def zFJ:=yw [1,0,1,0,1,1,1,1,1,1,1,0]
def zpz:=yw [1,1,0]
def zp7:=yw [1,1,1,0]
def zuf:=zk zi zdY zgr
def zvR:=yb (qm zi zdY (qy Tryz.prog 194)).run
theorem zBK :
 (((∀ r s x0 x1,(fnC zi 194).run r [x0,x1] s=ql (z4 (fun t s=>zvR t s) (zuf.run r (sp 1 x1 (sp 0 x0 T.new)) s))) ∧
 ((∀ s t,zvR t s=yU (gp 240 t) (yj [gp 4 t] s)) ∧
 (∀ r s t,zuf.run r t s=za (fun t s=>za (fun t s=>za (fun t s=>za (fun t s=>.ret t s) (zp7.run r t s)) (zpz.run r t s)) (za (fun t s=>zw (gp 9 t) (za (fun t s=>za (fun t s=>za (fun t s=>za (fun t s=>za (fun t s=>za (fun t s=>za (fun t s=>za (fun t s=>.ret t s) (zFJ.run r t s)) (za (fun t s=>zw (gp 12 t) (za (fun t s=>za (fun t s=>.ret t s) (zFs.run r t s)) (zFo.run r t s)) (.nrm t s)) (zpT.run r t s))) (zFa.run r t s)) (znS.run r t s)) (za (fun t s=>zw (gp 11 t) (zq8.run r t s) (.nrm t s)) (zqG.run r t s))) (zqI.run r t s)) (zrb.run r t s)) (za (fun t s=>zw (gp 10 t) (za (fun t s=>.ret t s) (zrE.run r t s)) (.nrm t s)) (zt4.run r t s))) (.nrm t s)) (zvc.run r t s))) (zws.run r t s)))) ∧
 (((∀ g r s t le,(zj7 g).run r t (le) s=zj ⟨9,[]⟩ false .leq (V.nat .i64 0) (gp 0 t) fun v1=>g.run r t (v1::v1::gp 0 t::le) s) ∧
 (∀ g r s t le,(zef g).run r t (.bool true::le) s=zj ⟨9,[]⟩ false .lss (gp 0 t) (V.nat .i64 100) fun v4=>g.run r t (v4::gp 0 t::.bool true::le) s)) ∧
 ((∀ g r s t le,(zef g).run r t (.bool false::le) s=g.run r t (Go.Ev.undef::Go.Ev.undef::.bool false::le) s) ∧
 (∀ g r s t le x0 x1 x2,(zkb g).run r t (x0::x1::x2::le) s=qx x2 (fun _=>g.run r (sp 10 x0 t) (x0::x0::x1::x2::le) s) (fun _=>g.run r (sp 10 (V.bool false) t) (V.bool false::x0::x1::x2::le) s))))):=by
 and_intros<;>(intros;kernel_rfl)
theorem zsm:∀ r s t,zws.run r t s=.nrm (sp 4 (V.str []) t) s:=ze 1
theorem zn1:∀ r s t,zvc.run r t s=zj ⟨7,[]⟩ true .eql (gp 1 t) (V.nat .i64 10) fun v1=>.nrm (sp 9 v1 t) s:=ze 2
theorem znr:∀ r s t,zt4.run r t s=(zj7 (zef (zkb yx))).run r t [] s:=yE (by kernel_rfl) (chS rfl (by kernel_rfl) (chS rfl (by kernel_rfl) chL))
theorem zlu:∀ r s t,zrE.run r t s=zG (r.call 253 [gp 0 t] s) fun v1 s=>.nrm (sp 4 v1 t) s:=ze 3
theorem zkq:∀ r s t,zrb.run r t s=Go.Ev.newRow s 295 [V.nat .u8 0,V.nat .u8 0,V.nat .u8 0,V.nat .u8 0,V.nat .u8 0,V.nat .u8 0,V.nat .u8 0,V.nat .u8 0,V.nat .u8 0,V.nat .u8 0,V.nat .u8 0,V.nat .u8 0,V.nat .u8 0,V.nat .u8 0,V.nat .u8 0,V.nat .u8 0,V.nat .u8 0,V.nat .u8 0,V.nat .u8 0,V.nat .u8 0,V.nat .u8 0,V.nat .u8 0,V.nat .u8 0,V.nat .u8 0] false fun a0k _ s=>.nrm (sp 5 (V.ptr a0k 0 0) t) s:=ze 1
theorem zkT:∀ r s t,zqI.run r t s=yJ .u64 (gp 0 t) fun v1=>.nrm (sp 6 v1 t) s:=ze 3
theorem zk5:∀ r s t,zqG.run r t s=zj ⟨9,[]⟩ false .lss (gp 0 t) (V.nat .i64 0) fun v1=>.nrm (sp 11 v1 t) s:=ze 2
theorem zkr:∀ r s t,zq8.run r t s=xUn .neg (gp 6 t) fun v1=>.nrm (sp 6 v1 t) s:=ze 3
theorem zkN:∀ r s t,znS.run r t s=zG (r.call 254 [gp 6 t] s) fun v1 s=>.nrm (sp 7 v1 t) s:=ze 3
theorem zmk:∀ r s t,zpT.run r t s=zj ⟨9,[]⟩ false .lss (gp 0 t) (V.nat .i64 0) fun v1=>.nrm (sp 12 v1 t) s:=ze 2
theorem zj4:∀ r s t,zpz.run r t s=yJ .u64 (gp 0 t) fun v1=>zj ⟨9,[]⟩ false .lss (gp 0 t) (V.nat .i64 0) fun v4=>zG (r.call 256 [V.nil 1,v1,gp 1 t,v4,V.bool false] s) fun v5 s=>qh 0 v5 fun _=>qh 1 v5 fun v8=>.nrm (sp 8 v8 t) s:=ze 11
theorem zlk:∀ r s t,zp7.run r t s=.nrm (sp 4 (gp 8 t) t) s:=ze 2
theorem zIv:type_of% (aI zsm <| aI zn1 <| aI znr <| aI zlu <| aI zkq <| aI zkT <| aI zk5 <| aI zkr <| aI zkN <| aI zmk <| aI zj4 <| aI zlk <| zBK):=aI zsm <| aI zn1 <| aI znr <| aI zlu <| aI zkq <| aI zkT <| aI zk5 <| aI zkr <| aI zkN <| aI zmk <| aI zj4 <| aI zlk <| zBK
def zzH:FI:=⟨32744,15,4⟩
def zt9:=qe Tryz.prog 253
def zmz (l:List Nat):=zk zi zzH (zI l zt9)
def zzQ:=zmz [0]
def zBH:=zmz [1,0,0]
def zDH:=zmz [1,0,1,0,0]
def zvT:=zmz [1,1,0]
def zAh:=zk zi zzH zt9
def zCo:=yb (qm zi zzH (qy Tryz.prog 253)).run
theorem zGb :
 ((∀ r s x0,(fnC zi 253).run r [x0] s=ql (z4 (fun t s=>zCo t s) (zAh.run r (sp 0 x0 T.new) s))) ∧
 ((∀ s t,zCo t s=yU (gp 240 t) (yj [gp 2 t] s)) ∧
 (∀ r s t,zAh.run r t s=za (fun t s=>za (fun t s=>za (fun t s=>.ret t s) (zvT.run r t s)) (za (fun t s=>zw (gp 3 t) (za (fun t s=>.ret t s) (zDH.run r t s)) (.nrm t s)) (zBH.run r t s))) (zzQ.run r t s)))):=by
 and_intros<;>(intros;kernel_rfl)
theorem ztT:∀ r s t,zzQ.run r t s=.nrm (sp 2 (V.str []) t) s:=ze 1
theorem zwc:∀ r s t,zBH.run r t s=zj ⟨9,[]⟩ false .lss (gp 0 t) (V.nat .i64 10) fun v1=>.nrm (sp 3 v1 t) s:=ze 2
theorem ztJ:∀ r s t,zDH.run r t s=zj ⟨9,[]⟩ false .add (gp 0 t) (V.nat .i64 1) fun v2=>zaf (V.str [48,49,50,51,52,53,54,55,56,57,97,98,99,100,101,102,103,104,105,106,107,108,109,110,111,112,113,114,115,116,117,118,119,120,121,122]) (some (gp 0 t)) (some v2) fun v3=>.nrm (sp 2 v3 t) s:=ze 5
theorem znQ:∀ r s t,zvT.run r t s=zj ⟨9,[]⟩ false .mul (gp 0 t) (V.nat .i64 2) fun v1=>zj ⟨9,[]⟩ false .mul (gp 0 t) (V.nat .i64 2) fun v3=>zj ⟨9,[]⟩ false .add v3 (V.nat .i64 2) fun v4=>zaf (V.str [48,48,48,49,48,50,48,51,48,52,48,53,48,54,48,55,48,56,48,57,49,48,49,49,49,50,49,51,49,52,49,53,49,54,49,55,49,56,49,57,50,48,50,49,50,50,50,51,50,52,50,53,50,54,50,55,50,56,50,57,51,48,51,49,51,50,51,51,51,52,51,53,51,54,51,55,51,56,51,57,52,48,52,49,52,50,52,51,52,52,52,53,52,54,52,55,52,56,52,57,53,48,53,49,53,50,53,51,53,52,53,53,53,54,53,55,53,56,53,57,54,48,54,49,54,50,54,51,54,52,54,53,54,54,54,55,54,56,54,57,55,48,55,49,55,50,55,51,55,52,55,53,55,54,55,55,55,56,55,57,56,48,56,49,56,50,56,51,56,52,56,53,56,54,56,55,56,56,56,57,57,48,57,49,57,50,57,51,57,52,57,53,57,54,57,55,57,56,57,57]) (some v1) (some v4) fun v5=>.nrm (sp 2 v5 t) s:=ze 7
theorem zBl:type_of% (aI ztT <| aI zwc <| aI ztJ <| aI znQ <| zGb):=aI ztT <| aI zwc <| aI ztJ <| aI znQ <| zGb
def zd8:FI:=⟨130496,18,4⟩
def zgD:=qe Tryz.prog 15
def za1 (l:List Nat):=zk zi zd8 (zI l zgD)
def zwV:=za1 [0]
def zx6:=za1 [1,0,0]
def ztZ:=za1 [1,0,1,0,0,0,0]
def zqp:=za1 [1,0,1,0,0,1,0,0,0]
def zro:=za1 [1,0,1,0,0,1,0,0,1,0,0]
def zr6:=za1 [1,0,1,0,0,1,1]
def zjx:=zI [1,0,1,0] zgD
def zcO:=zk zi zd8 zjx
def zn3:=za1 [1,1,0]
def ztg:=zk zi zd8 zgD
def zvv:=yb (qm zi zd8 (qy Tryz.prog 15)).run
theorem zAF :
 ((∀ r s x0 x1,(fnC zi 15).run r [x0,x1] s=ql (z4 (fun t s=>zvv t s) (ztg.run r (sp 1 x1 (sp 0 x0 T.new)) s))) ∧
 ((∀ s t,zvv t s=yU (gp 240 t) (yj [gp 4 t] s)) ∧
 (∀ r s t,ztg.run r t s=za (fun t s=>za (fun t s=>za (fun t s=>.ret t s) (zn3.run r t s)) (za (fun t s=>zC 0 (zcO.run r t s)) (zx6.run r t s))) (zwV.run r t s)))):=by
 and_intros<;>(intros;kernel_rfl)
theorem zpJ:∀ r s t,zwV.run r t s=.nrm (sp 4 (V.bool false) t) s:=ze 1
theorem zm3:∀ r s t,zx6.run r t s=.nrm (sp 5 (V.nat .i64 0) t) s:=ze 1
theorem zpb:∀ r s t,ztZ.run r t s=zt (gp 0 t) fun v2=>zj ⟨9,[]⟩ false .lss (gp 5 t) v2 fun v3=>.nrm (sp 6 v3 t) s:=ze 4
theorem zlD:∀ r s t,zqp.run r t s=zg 1 (gp 0 t) (gp 5 t) fun v2=>zb false 1 v2 s fun v3 s=>zj ⟨9,[]⟩ false .gtr v3 (gp 1 t) fun v5=>.nrm (sp 7 v5 t) s:=ze 6
theorem zlR:∀ r s t,zro.run r t s=.nrm (sp 4 (V.bool false) t) s:=ze 1
theorem zlb:∀ r s t,zr6.run r t s=zj ⟨9,[]⟩ false .add (gp 5 t) (V.nat .i64 1) fun v1=>.nrm (sp 5 v1 t) s:=ze 3
theorem zlc:∀ r s t,zn3.run r t s=.nrm (sp 4 (V.bool true) t) s:=ze 1
theorem zEG:zW zjx=31:=by kernel_rfl
theorem zgA:∀ r s t,zcO.run r t s=za (fun t s=>r.code zd8 zjx t s) (za (fun t s=>za (fun t s=>zr6.run r t s) (zC 1 (za (fun t s=>zw (gp 7 t) (za (fun t s=>.ret t s) (zro.run r t s)) (.nrm t s)) (zqp.run r t s)))) (za (fun t s=>zw (gp 6 t) (.nrm t s) (.ext 0 t s)) (ztZ.run r t s))):=by intros;kernel_rfl
theorem ze1:type_of% (aI zpJ <| aI zm3 <| aI zpb <| aI zlD <| aI zlR <| aI zlb <| aI zlc <| zAF):=aI zpJ <| aI zm3 <| aI zpb <| aI zlD <| aI zlR <| aI zlb <| aI zlc <| zAF
end
end Go.Proofs.YtlklljjppambpaaGreatDoor.oev
