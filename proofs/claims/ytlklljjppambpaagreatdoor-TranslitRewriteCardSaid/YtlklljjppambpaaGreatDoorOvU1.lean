/- What the evaluator makes of the functions that the statements reach: one equation for each run of operations, by the kernel. No statement of the seat stands here. No condition. By an AI agent. -/
import Derived.Test.YtlklljjppambpaaGreatDoorOvV
import Derived.Test.YtlklljjppambpaaGreatDoorProg
import Derived.KernelRfl
namespace Go.Proofs.YtlklljjppambpaaGreatDoor.oev
open Go.Ev Go.Proofs
set_option maxRecDepth 100000
noncomputable section
def zdV:FI:=⟨536870336,30,4⟩
def zlv:=zA Tryz.prog 10
def zmA (l:List Nat):=comp pc0 zdV (subC l zlv)
def zIz:=zmA [0]
def zIM:=zmA [1,0,0]
def zJt:=zmA [1,0,1,0,0,0,0]
def zG5:=subC [1,0,1,0,0,1,0,0,0] zlv
def zFk:=comp pc0 zdV zG5
def zh6:=qOf pc0 zdV zG5
def zog:=zh6 17 1 (dn 29 17)
def zhB:=zh6 9 8 (dn 21 9)
def zth:=zh6 0 9 []
def zFU:=zmA [1,0,1,0,0,1,0,0,1,0,0]
def zHb:=zmA [1,0,1,0,0,1,1]
def zrb:=subC [1,0,1,0] zlv
def ziN:=comp pc0 zdV zrb
def zFH:=zmA [1,1,0]
def zJF:=comp pc0 zdV zlv
def zIG:=finN (resC pc0 zdV (resOf Tryz.prog 10)).run
theorem zMd :
 (((∀ r s x0 x1,(fnC pc0 10).run r [x0,x1] s=outF (bindR (fun t s=>zIG t s) (zJF.run r (sp 1 x1 (sp 0 x0 T.new)) s))) ∧
 ((∀ s t,zIG t s=finV (gp 240 t) (resV [gp 4 t] s)) ∧
 (∀ r s t,zJF.run r t s=seqA (fun t s=>seqA (fun t s=>seqA (fun t s=>.ret t s) (zFH.run r t s)) (seqA (fun t s=>zh 0 (ziN.run r t s)) (zIM.run r t s))) (zIz.run r t s)))) ∧
 (((∀ g r s t le,(zth g).run r t (le) s=zb 2 (gp 0 t) (gp 5 t) fun v2=>za 0 v2 fun v3=>xLoad false 1 v3 s fun v4 s=>foldF (r.call 15 [v4,gp 1 t] s) fun v6 s=>xUn .not v6 fun v7=>g.run r t (v7::v7::v6::gp 1 t::v4::v3::v2::gp 5 t::gp 0 t::le) s) ∧
 (∀ g r s t le,(zhB g).run r t (.bool true::le) s=g.run r t (Go.Ev.undef::Go.Ev.undef::Go.Ev.undef::Go.Ev.undef::Go.Ev.undef::Go.Ev.undef::Go.Ev.undef::Go.Ev.undef::.bool true::le) s)) ∧
 ((∀ g r s t le,(zhB g).run r t (.bool false::le) s=zb 2 (gp 0 t) (gp 5 t) fun v11=>za 1 v11 fun v12=>xLoad false 1 v12 s fun v13 s=>foldF (r.call 15 [v13,gp 1 t] s) fun v15 s=>xUn .not v15 fun v16=>g.run r t (v16::v15::gp 1 t::v13::v12::v11::gp 5 t::gp 0 t::.bool false::le) s) ∧
 (∀ g r s t le x0 x1 x2 x3 x4 x5 x6 x7 x8,(zog g).run r t (x0::x1::x2::x3::x4::x5::x6::x7::x8::le) s=xPick x8 (fun _=>g.run r (sp 7 (V.bool true) t) (V.bool true::x0::x1::x2::x3::x4::x5::x6::x7::x8::le) s) (fun _=>g.run r (sp 7 x0 t) (x0::x0::x1::x2::x3::x4::x5::x6::x7::x8::le) s))))):=by
 and_intros<;>(intros;kernel_rfl)
theorem zEs:∀ r s t,zIz.run r t s=.nrm (sp 4 (V.bool false) t) s:=reg1 1
theorem zFj:∀ r s t,zIM.run r t s=.nrm (sp 5 (V.nat .i64 0) t) s:=reg1 1
theorem zFT:∀ r s t,zJt.run r t s=xLenS (gp 0 t) fun v2=>xBin ⟨9,[]⟩ false .lss (gp 5 t) v2 fun v3=>.nrm (sp 6 v3 t) s:=reg1 4
theorem zB4:∀ r s t,zFk.run r t s=(zth (zhB (zog nilL))).run r t [] s:=zt (by kernel_rfl) (chS rfl (by kernel_rfl) (chS rfl (by kernel_rfl) chL))
theorem zxT:∀ r s t,zFU.run r t s=.nrm (sp 4 (V.bool false) t) s:=reg1 1
theorem zAS:∀ r s t,zHb.run r t s=xBin ⟨9,[]⟩ false .add (gp 5 t) (V.nat .i64 1) fun v1=>.nrm (sp 5 v1 t) s:=reg1 3
theorem zCb:∀ r s t,zFH.run r t s=.nrm (sp 4 (V.bool true) t) s:=reg1 1
theorem zLp:sizeC zrb=43:=by kernel_rfl
theorem ziE:∀ r s t,ziN.run r t s=seqA (fun t s=>r.code zdV zrb t s) (seqA (fun t s=>seqA (fun t s=>zHb.run r t s) (zh 1 (seqA (fun t s=>condV (gp 7 t) (seqA (fun t s=>.ret t s) (zFU.run r t s)) (.nrm t s)) (zFk.run r t s)))) (seqA (fun t s=>condV (gp 6 t) (.nrm t s) (.ext 0 t s)) (zJt.run r t s))):=by intros;kernel_rfl
theorem zcN:type_of% (aI zEs <| aI zFj <| aI zFT <| aI zB4 <| aI zxT <| aI zAS <| aI zCb <| zMd):=aI zEs <| aI zFj <| aI zFT <| aI zB4 <| aI zxT <| aI zAS <| aI zCb <| zMd
def zbT:FI:=⟨130496,18,4⟩
def zhP:=zA Tryz.prog 15
def zat (l:List Nat):=comp pc0 zbT (subC l zhP)
def zBS:=zat [0]
def zA2:=zat [1,0,0]
def zz8:=zat [1,0,1,0,0,0,0]
def zwQ:=zat [1,0,1,0,0,1,0,0,0]
def zwt:=zat [1,0,1,0,0,1,0,0,1,0,0]
def zwL:=zat [1,0,1,0,0,1,1]
def zfP:=subC [1,0,1,0] zhP
def zbY:=comp pc0 zbT zfP
def zr6:=zat [1,1,0]
def zyU:=comp pc0 zbT zhP
def zB0:=finN (resC pc0 zbT (resOf Tryz.prog 15)).run
theorem zG0 :
 ((∀ r s x0 x1,(fnC pc0 15).run r [x0,x1] s=outF (bindR (fun t s=>zB0 t s) (zyU.run r (sp 1 x1 (sp 0 x0 T.new)) s))) ∧
 ((∀ s t,zB0 t s=finV (gp 240 t) (resV [gp 4 t] s)) ∧
 (∀ r s t,zyU.run r t s=seqA (fun t s=>seqA (fun t s=>seqA (fun t s=>.ret t s) (zr6.run r t s)) (seqA (fun t s=>zh 0 (zbY.run r t s)) (zA2.run r t s))) (zBS.run r t s)))):=by
 and_intros<;>(intros;kernel_rfl)
theorem ztY:∀ r s t,zBS.run r t s=.nrm (sp 4 (V.bool false) t) s:=reg1 1
theorem ztj:∀ r s t,zA2.run r t s=.nrm (sp 5 (V.nat .i64 0) t) s:=reg1 1
theorem zua:∀ r s t,zz8.run r t s=xLenS (gp 0 t) fun v2=>xBin ⟨9,[]⟩ false .lss (gp 5 t) v2 fun v3=>.nrm (sp 6 v3 t) s:=reg1 4
theorem zpp:∀ r s t,zwQ.run r t s=zb 1 (gp 0 t) (gp 5 t) fun v2=>xLoad false 1 v2 s fun v3 s=>xBin ⟨9,[]⟩ false .gtr v3 (gp 1 t) fun v5=>.nrm (sp 7 v5 t) s:=reg1 6
theorem zpZ:∀ r s t,zwt.run r t s=.nrm (sp 4 (V.bool false) t) s:=reg1 1
theorem zqj:∀ r s t,zwL.run r t s=xBin ⟨9,[]⟩ false .add (gp 5 t) (V.nat .i64 1) fun v1=>.nrm (sp 5 v1 t) s:=reg1 3
theorem zo5:∀ r s t,zr6.run r t s=.nrm (sp 4 (V.bool true) t) s:=reg1 1
theorem zHq:sizeC zfP=31:=by kernel_rfl
theorem zhv:∀ r s t,zbY.run r t s=seqA (fun t s=>r.code zbT zfP t s) (seqA (fun t s=>seqA (fun t s=>zwL.run r t s) (zh 1 (seqA (fun t s=>condV (gp 7 t) (seqA (fun t s=>.ret t s) (zwt.run r t s)) (.nrm t s)) (zwQ.run r t s)))) (seqA (fun t s=>condV (gp 6 t) (.nrm t s) (.ext 0 t s)) (zz8.run r t s))):=by intros;kernel_rfl
theorem wR:type_of% (aI ztY <| aI ztj <| aI zua <| aI zpp <| aI zpZ <| aI zqj <| aI zo5 <| zG0):=aI ztY <| aI ztj <| aI zua <| aI zpp <| aI zpZ <| aI zqj <| aI zo5 <| zG0
def jX:FI:=⟨576443159102871552,59,4⟩
def zfG:=zA Tryz.prog 16
def qb (l:List Nat):=comp pc0 jX (subC l zfG)
def zG9:=qb [0]
def zFG:=qb [1,0,0]
def zEG:=qb [1,0,1,0,0]
def zBn:=qb [1,1,0]
def zzF:=qb [1,1,1,0]
def zyO:=qb [1,1,1,1,0,0]
def zAg:=qb [1,1,1,1,0,1,0,0,0]
def zBc:=qb [1,1,1,1,0,1,0,0,1,1,0,0,0]
def zAD:=qb [1,1,1,1,0,1,0,0,1,1,0,0,1,0]
def zz7:=qb [1,1,1,1,0,1,0,0,1,1,0,0,1,1,0,0]
def zCR:=qb [1,1,1,1,0,1,0,0,1,1,0,0,1,1,0,1,0,0,0]
def zB3:=qb [1,1,1,1,0,1,0,0,1,1,0,0,1,1,0,1,0,0,1,1,0,0,0]
def zCc:=qb [1,1,1,1,0,1,0,0,1,1,0,0,1,1,0,1,0,0,1,1,0,0,1]
def zCr:=qb [1,1,1,1,0,1,0,0,1,1,0,0,1,1,0,1,0,0,1,1,1]
def zfE:=subC [1,1,1,1,0,1,0,0,1,1,0,0,1,1,0,1,0] zfG
def zci:=comp pc0 jX zfE
def zCm:=qb [1,1,1,1,0,1,0,0,1,1,0,0,1,1,1,0]
def zyF:=qb [1,1,1,1,0,1,0,0,1,1,0,0,1,1,1,1,0,0]
def zyu:=qb [1,1,1,1,0,1,0,0,1,1,0,0,1,1,1,1,0,1,0]
def zBP:=qb [1,1,1,1,0,1,0,0,1,1,0,0,1,1,1,1,1]
def zCW:=qb [1,1,1,1,0,1,0,0,1,1,1]
def zbF:=subC [1,1,1,1,0,1,0] zfG
def zbX:=comp pc0 jX zbF
def zB2:=qb [1,1,1,1,1,0]
def zFb:=comp pc0 jX zfG
def zD1:=finN (resC pc0 jX (resOf Tryz.prog 16)).run
theorem zJk :
 ((∀ r s x0,(fnC pc0 16).run r [x0] s=outF (bindR (fun t s=>zD1 t s) (zFb.run r (sp 0 x0 T.new) s))) ∧
 ((∀ s t,zD1 t s=finV (gp 240 t) (xLoad true 16 (gp 2 t) s fun v0 _=>resV [v0,gp 3 t] s)) ∧
 (∀ r s t,zFb.run r t s=seqA (fun t s=>seqA (fun t s=>seqA (fun t s=>seqA (fun t s=>seqA (fun t s=>seqA (fun t s=>.ret t s) (zB2.run r t s)) (seqA (fun t s=>zh 0 (zbX.run r t s)) (zyO.run r t s))) (zzF.run r t s)) (zBn.run r t s)) (seqA (fun t s=>condV (gp 11 t) (seqA (fun t s=>.ret t s) (zEG.run r t s)) (.nrm t s)) (zFG.run r t s))) (zG9.run r t s)))):=by
 and_intros<;>(intros;kernel_rfl)
theorem zzW:∀ r s t,zG9.run r t s=Go.Ev.newRow s 37 [V.nat .i64 0,V.nil 1,V.nat .i64 0,V.nat .i64 0,V.nat .i64 0,V.str [],V.nat .i64 0,V.nat .i64 0,V.nil 1,V.nat .i64 0,V.nat .i64 0,V.nat .i64 0,V.str [],V.nat .i64 0,V.nat .i64 0,V.nil 1] false fun a0k _ s=>.nrm (sp 3 (V.nat .i64 0) (sp 2 (V.ptr a0k 0 0) t)) s:=reg1 2
theorem zBQ:∀ r s t,zFG.run r t s=foldF (r.call 22 [gp 0 t] s) fun v1 s=>xUn .not v1 fun v2=>.nrm (sp 11 v2 t) s:=reg1 3
theorem zy7:∀ r s t,zEG.run r t s=zK 16 (gp 2 t) (V.ls 0 [V.nat .i64 0,V.nil 1,V.nat .i64 0,V.nat .i64 0,V.nat .i64 0,V.str [],V.nat .i64 0,V.nat .i64 0,V.nil 1,V.nat .i64 0,V.nat .i64 0,V.nat .i64 0,V.str [],V.nat .i64 0,V.nat .i64 0,V.nil 1]) s fun v1 s=>.nrm (sp 3 (V.nat .i64 1) t) s:=reg1 3
theorem zuy:∀ r s t,zBn.run r t s=zk 1 (V.nat .i64 1) fun x0_0=>updL x0_0 0 [V.nat .i64 0,V.nat .i64 0,V.nat .i64 0,V.str [],V.nat .i64 0,V.nat .i64 0,V.nil 1] fun l0_0=>Go.Ev.newRow s 35 [V.nat .i64 0,V.nat .i64 0,V.nat .i64 0,V.str [],V.nat .i64 0,V.nat .i64 0,V.nil 1] false fun a1k _ s=>zK 7 (V.ptr a1k 0 0) (V.ls 0 l0_0) s fun v2 s=>.nrm (sp 4 (V.ptr a1k 0 0) t) s:=reg1 3
theorem zt3:∀ r s t,zzF.run r t s=xLoad true 7 (gp 4 t) s fun v0 s=>xLoad true 7 (gp 4 t) s fun v1 s=>zk 1 (V.nat .i64 3) fun x2_0=>updL x2_0 0 [V.nat .i64 0,V.nil 1,V.nat .i64 0,V.nat .i64 0,V.nat .i64 0,V.str [],V.nat .i64 0,V.nat .i64 0,V.nil 1,V.nat .i64 0,V.nat .i64 0,V.nat .i64 0,V.str [],V.nat .i64 0,V.nat .i64 0,V.nil 1] fun l2_0=>zk 7 v0 fun x2_1=>updL x2_1 2 l2_0 fun l2_1=>zk 7 v1 fun x2_2=>updL x2_2 9 l2_1 fun l2_2=>zK 16 (gp 2 t) (V.ls 0 l2_2) s fun v3 s=>.nrm t s:=reg1 4
theorem zrs:∀ r s t,zyO.run r t s=xLenS (gp 0 t) fun v1=>.nrm (sp 14 (V.nat .i64 0) (sp 13 v1 (sp 12 (gp 0 t) t))) s:=reg1 3
theorem zvv:∀ r s t,zAg.run r t s=xBin ⟨9,[]⟩ false .lss (gp 14 t) (gp 13 t) fun v0=>.nrm (sp 15 v0 t) s:=reg1 1
theorem zr9:∀ r s t,zBc.run r t s=zb 2 (gp 12 t) (gp 14 t) fun v0=>xLoad true 2 v0 s fun v1 s=>Go.Ev.newRow s 49 [V.nil 1,V.nil 1] false fun a2k _ s=>zK 2 (V.ptr a2k 0 0) v1 s fun v3 s=>.nrm (sp 6 (V.ptr a2k 0 0) t) s:=reg1 4
theorem zrg:∀ r s t,zAD.run r t s=.nrm (sp 7 (V.nil 1) t) s:=reg1 1
theorem zve:∀ r s t,zz7.run r t s=za 0 (gp 6 t) fun v0=>xLoad false 1 v0 s fun v1 s=>xLenS v1 fun v2=>.nrm (sp 18 (V.nat .i64 0) (sp 17 v2 (sp 16 v1 t))) s:=reg1 4
theorem zso:∀ r s t,zCR.run r t s=xBin ⟨9,[]⟩ false .lss (gp 18 t) (gp 17 t) fun v0=>.nrm (sp 19 v0 t) s:=reg1 1
theorem zxh:∀ r s t,zB3.run r t s=zb 1 (gp 16 t) (gp 18 t) fun v0=>xLoad false 1 v0 s fun v1 s=>.nrm (sp 9 v1 t) s:=reg1 3
theorem zwT:∀ r s t,zCc.run r t s=zk 1 (V.nat .i64 2) fun x3_0=>updL x3_0 0 [V.nat .i64 0,V.nat .i64 0,V.nat .i64 0,V.str [],V.nat .i64 0,V.nat .i64 0,V.nil 1] fun l3_0=>zk 1 (gp 9 t) fun x3_1=>updL x3_1 1 l3_0 fun l3_1=>zk 1 (gp 9 t) fun x3_2=>updL x3_2 2 l3_1 fun l3_2=>repL [V.nat .i64 0,V.nat .i64 0,V.nat .i64 0,V.str [],V.nat .i64 0,V.nat .i64 0,V.nil 1] 1 fun l4z=>zk 7 (V.ls 0 l3_2) fun x4_0=>updL x4_0 0 l4z fun l4_0=>Go.Ev.newRow s 35 l4_0 false fun a4k _ s=>zM 35 7 (gp 7 t) (V.sl a4k 0 0 1 1) s fun v5 s=>.nrm (sp 7 v5 t) s:=reg1 7
theorem zvd:∀ r s t,zCr.run r t s=xBin ⟨9,[]⟩ false .add (gp 18 t) (V.nat .i64 1) fun v0=>.nrm (sp 18 v0 t) s:=reg1 2
theorem zr5:∀ r s t,zCm.run r t s=zb 7 (gp 7 t) (V.nat .i64 0) fun v1=>xLoad true 7 v1 s fun v2 s=>Go.Ev.newRow s 35 [V.nat .i64 0,V.nat .i64 0,V.nat .i64 0,V.str [],V.nat .i64 0,V.nat .i64 0,V.nil 1] false fun a3k _ s=>zK 7 (V.ptr a3k 0 0) v2 s fun v4 s=>.nrm (sp 10 (V.ptr a3k 0 0) t) s:=reg1 5
theorem ztZ:∀ r s t,zyF.run r t s=xLenS (gp 7 t) fun v1=>xBin ⟨9,[]⟩ false .gtr v1 (V.nat .i64 1) fun v2=>.nrm (sp 20 v2 t) s:=reg1 3
theorem zvD:∀ r s t,zyu.run r t s=zk 1 (V.nat .i64 5) fun x1_0=>updL x1_0 0 [V.nat .i64 0,V.nat .i64 0,V.nat .i64 0,V.str [],V.nat .i64 0,V.nat .i64 0,V.nil 1] fun l1_0=>zk 1 (gp 7 t) fun x1_1=>updL x1_1 6 l1_0 fun l1_1=>zK 7 (gp 10 t) (V.ls 0 l1_1) s fun v2 s=>.nrm t s:=reg1 3
theorem zu9:∀ r s t,zBP.run r t s=za 1 (gp 2 t) fun v0=>xLoad false 1 v0 s fun v1 s=>xLoad true 7 (gp 10 t) s fun v2 s=>za 1 (gp 6 t) fun v3=>xLoad false 1 v3 s fun v4 s=>foldF (r.det.call 33 [v4] s) fun v5 s=>xLoad false 1 v0 s fun v6 s=>boolA (beqV v6 v1) (xLoad true 7 (gp 10 t) s fun v7 s=>boolA (beqV v7 v2) (zk 7 v2 fun x8_0=>updL x8_0 0 [V.nat .i64 0,V.nat .i64 0,V.nat .i64 0,V.str [],V.nat .i64 0,V.nat .i64 0,V.nil 1,V.bool false,V.nil 1,V.nil 1] fun l8_0=>zk 1 v5 fun x8_1=>updL x8_1 8 l8_0 fun l8_1=>repL [V.nat .i64 0,V.nat .i64 0,V.nat .i64 0,V.str [],V.nat .i64 0,V.nat .i64 0,V.nil 1,V.bool false,V.nil 1,V.nil 1] 1 fun l9z=>zk 10 (V.ls 0 l8_1) fun x9_0=>updL x9_0 0 l9z fun l9_0=>Go.Ev.newRow s 65 l9_0 false fun a9k _ s=>zM 65 10 v1 (V.sl a9k 0 0 1 1) s fun v10 s=>za 1 (gp 2 t) fun v11=>zK 1 v11 v10 s fun v12 s=>.nrm t s) (.bad 194)) (.bad 194):=dreg1 13
theorem zwg:∀ r s t,zCW.run r t s=xBin ⟨9,[]⟩ false .add (gp 14 t) (V.nat .i64 1) fun v0=>.nrm (sp 14 v0 t) s:=reg1 2
theorem zvW:∀ r s t,zB2.run r t s=xLoad true 16 (gp 2 t) s fun v0 s=>zK 16 (gp 2 t) v0 s fun v1 s=>.nrm (sp 3 (V.nat .i64 0) t) s:=reg1 3
theorem zH8:sizeC zfE=26:=by kernel_rfl
theorem zH5:sizeC zbF=87:=by kernel_rfl
theorem ztp:∀ r s t,zci.run r t s=seqA (fun t s=>r.code jX zfE t s) (seqA (fun t s=>seqA (fun t s=>seqA (fun t s=>zCr.run r t s) (zh 3 (seqA (fun t s=>zCc.run r t s) (zB3.run r t s)))) (condV (gp 19 t) (.nrm t s) (.ext 2 t s))) (zCR.run r t s)):=by intros;kernel_rfl
theorem zuB:∀ r s t,zbX.run r t s=seqA (fun t s=>r.code jX zbF t s) (seqA (fun t s=>seqA (fun t s=>seqA (fun t s=>zCW.run r t s) (zh 1 (seqA (fun t s=>seqA (fun t s=>seqA (fun t s=>seqA (fun t s=>seqA (fun t s=>zBP.run r t s) (seqA (fun t s=>condV (gp 20 t) (zyu.run r t s) (.nrm t s)) (zyF.run r t s))) (zCm.run r t s)) (seqA (fun t s=>zh 2 (zci.run r t s)) (zz7.run r t s))) (zAD.run r t s)) (zBc.run r t s)))) (condV (gp 15 t) (.nrm t s) (.ext 0 t s))) (zAg.run r t s)):=by intros;kernel_rfl
theorem wh:type_of% (aI zzW <| aI zBQ <| aI zy7 <| aI zuy <| aI zt3 <| aI zrs <| aI zvv <| aI zr9 <| aI zrg <| aI zve <| aI zso <| aI zxh <| aI zwT <| aI zvd <| aI zr5 <| aI ztZ <| aI zvD <| aI zu9 <| aI zwg <| aI zvW <| zJk):=aI zzW <| aI zBQ <| aI zy7 <| aI zuy <| aI zt3 <| aI zrs <| aI zvv <| aI zr9 <| aI zrg <| aI zve <| aI zso <| aI zxh <| aI zwT <| aI zvd <| aI zr5 <| aI ztZ <| aI zvD <| aI zu9 <| aI zwg <| aI zvW <| zJk
def fiV27:FI:=⟨37778931860689418977248,76,4⟩
def zir:=zA Tryz.prog 18
def k_V27 (l:List Nat):=comp pc0 fiV27 (subC l zir)
def zMp:=k_V27 [0]
def zLK:=subC [1,0,0] zir
def zK8:=comp pc0 fiV27 zLK
def yG:=qOf pc0 fiV27 zLK
def zCJ:=yG 31 1 (dn 36 31)
def zl6:=yG 27 4 (dn 32 27)
def zyi:=yG 25 2 (dn 30 25)
def zmu:=yG 21 4 (dn 26 21)
def zzz:=yG 19 2 (dn 24 19)
def zmC:=yG 15 4 (dn 20 15)
def zAU:=yG 13 2 (dn 18 13)
def zuT:=yG 9 4 (dn 14 9)
def zGW:=yG 7 2 (dn 12 7)
def zw8:=yG 4 3 (dn 9 4)
def zEC:=yG 0 4 []
def zL1:=k_V27 [1,0,1,0,0]
def zJE:=k_V27 [1,1,0,0]
def zJI:=k_V27 [1,1,0,1,0,0,0,0]
def zIF:=k_V27 [1,1,0,1,0,0,1,0,0,0]
def zIq:=subC [1,1,0,1,0,0,1,0,0,1,0] zir
def zI9:=comp pc0 fiV27 zIq
def yT:=qOf pc0 fiV27 zIq
def zwG:=yT 26 1 (dn 75 26)
def zhT:=yT 25 1 (dn 74 25)
def zc5:=yT 21 4 (dn 70 21)
def zhK:=yT 17 4 (dn 66 17)
def ztr:=yT 15 2 (dn 64 15)
def zhs:=yT 11 4 (dn 60 11)
def zzh:=yT 9 2 (dn 58 9)
def zmD:=yT 5 4 (dn 54 5)
def zAb:=yT 0 5 []
def zJs:=k_V27 [1,1,0,1,0,0,1,0,0,1,1,0,0]
def zJb:=k_V27 [1,1,0,1,0,0,1,1]
def zDP:=subC [1,1,0,1,0] zir
def zi7:=comp pc0 fiV27 zDP
def zJh:=k_V27 [1,1,1,0]
def zKX:=comp pc0 fiV27 zir
def zLW:=finN (resC pc0 fiV27 (resOf Tryz.prog 18)).run
theorem eV27x :
 ((((((∀ r s x0,(fnC pc0 18).run r [x0] s=outF (bindR (fun t s=>zLW t s) (zKX.run r (sp 0 x0 T.new) s))) ∧
 (∀ s t,zLW t s=finV (gp 240 t) (resV [gp 2 t] s))) ∧
 ((∀ r s t,zKX.run r t s=seqA (fun t s=>seqA (fun t s=>seqA (fun t s=>seqA (fun t s=>.ret t s) (zJh.run r t s)) (seqA (fun t s=>zh 0 (zi7.run r t s)) (zJE.run r t s))) (seqA (fun t s=>condV (gp 5 t) (seqA (fun t s=>.ret t s) (zL1.run r t s)) (.nrm t s)) (zK8.run r t s))) (zMp.run r t s)) ∧
 (∀ g r s t le,(zEC g).run r t (le) s=za 0 (gp 1 t) fun v0=>xLoad false 1 v0 s fun v1 s=>xBin ⟨9,[]⟩ false .lss v1 (V.nat .i64 1) fun v2=>g.run r t (v2::v2::v1::v0::le) s))) ∧
 (((∀ g r s t le,(zw8 g).run r t (.bool true::le) s=g.run r t (Go.Ev.undef::Go.Ev.undef::Go.Ev.undef::.bool true::le) s) ∧
 (∀ g r s t le,(zw8 g).run r t (.bool false::le) s=za 0 (gp 1 t) fun v4=>xLoad false 1 v4 s fun v5 s=>xBin ⟨9,[]⟩ false .gtr v5 (V.nat .i64 6) fun v6=>g.run r t (v6::v5::v4::.bool false::le) s)) ∧
 ((∀ g r s t le x0 x1 x2 x3,(zGW g).run r t (x0::x1::x2::x3::le) s=xPick x3 (fun _=>g.run r t (V.bool true::V.bool true::x0::x1::x2::x3::le) s) (fun _=>g.run r t (x0::x0::x0::x1::x2::x3::le) s)) ∧
 (∀ g r s t le,(zuT g).run r t (.bool true::le) s=g.run r t (Go.Ev.undef::Go.Ev.undef::Go.Ev.undef::Go.Ev.undef::.bool true::le) s)))) ∧
 ((((∀ g r s t le,(zuT g).run r t (.bool false::le) s=za 1 (gp 1 t) fun v9=>xLoad false 1 v9 s fun v10 s=>xLenS v10 fun v11=>xBin ⟨9,[]⟩ false .lss v11 (V.nat .i64 1) fun v12=>g.run r t (v12::v11::v10::v9::.bool false::le) s) ∧
 (∀ g r s t le x0 x1 x2 x3 x4,(zAU g).run r t (x0::x1::x2::x3::x4::le) s=xPick x4 (fun _=>g.run r t (V.bool true::V.bool true::x0::x1::x2::x3::x4::le) s) (fun _=>g.run r t (x0::x0::x0::x1::x2::x3::x4::le) s))) ∧
 ((∀ g r s t le,(zmC g).run r t (.bool true::le) s=g.run r t (Go.Ev.undef::Go.Ev.undef::Go.Ev.undef::Go.Ev.undef::.bool true::le) s) ∧
 (∀ g r s t le,(zmC g).run r t (.bool false::le) s=za 1 (gp 1 t) fun v15=>xLoad false 1 v15 s fun v16 s=>xLenS v16 fun v17=>xBin ⟨9,[]⟩ false .gtr v17 (V.nat .i64 20) fun v18=>g.run r t (v18::v17::v16::v15::.bool false::le) s))) ∧
 (((∀ g r s t le x0 x1 x2 x3 x4,(zzz g).run r t (x0::x1::x2::x3::x4::le) s=xPick x4 (fun _=>g.run r t (V.bool true::V.bool true::x0::x1::x2::x3::x4::le) s) (fun _=>g.run r t (x0::x0::x0::x1::x2::x3::x4::le) s)) ∧
 (∀ g r s t le,(zmu g).run r t (.bool true::le) s=g.run r t (Go.Ev.undef::Go.Ev.undef::Go.Ev.undef::Go.Ev.undef::.bool true::le) s)) ∧
 ((∀ g r s t le,(zmu g).run r t (.bool false::le) s=za 2 (gp 1 t) fun v21=>xLoad true 7 v21 s fun v22 s=>foldF (r.call 35 [v22] s) fun v23 s=>xUn .not v23 fun v24=>g.run r t (v24::v23::v22::v21::.bool false::le) s) ∧
 ((∀ g r s t le x0 x1 x2 x3 x4,(zyi g).run r t (x0::x1::x2::x3::x4::le) s=xPick x4 (fun _=>g.run r t (V.bool true::V.bool true::x0::x1::x2::x3::x4::le) s) (fun _=>g.run r t (x0::x0::x0::x1::x2::x3::x4::le) s)) ∧
 (∀ g r s t le,(zl6 g).run r t (.bool true::le) s=g.run r t (Go.Ev.undef::Go.Ev.undef::Go.Ev.undef::Go.Ev.undef::.bool true::le) s)))))) ∧
 (((((∀ g r s t le,(zl6 g).run r t (.bool false::le) s=za 9 (gp 1 t) fun v27=>xLoad true 7 v27 s fun v28 s=>foldF (r.call 35 [v28] s) fun v29 s=>xUn .not v29 fun v30=>g.run r t (v30::v29::v28::v27::.bool false::le) s) ∧
 (∀ g r s t le x0 x1 x2 x3 x4,(zCJ g).run r t (x0::x1::x2::x3::x4::le) s=xPick x4 (fun _=>g.run r (sp 5 (V.bool true) t) (V.bool true::x0::x1::x2::x3::x4::le) s) (fun _=>g.run r (sp 5 x0 t) (x0::x0::x1::x2::x3::x4::le) s))) ∧
 ((∀ g r s t le,(zAb g).run r t (le) s=za 0 (gp 4 t) fun v0=>xLoad true 7 v0 s fun v1 s=>foldF (r.call 35 [v1] s) fun v2 s=>xUn .not v2 fun v3=>g.run r t (v3::v3::v2::v1::v0::le) s) ∧
 (∀ g r s t le,(zmD g).run r t (.bool true::le) s=g.run r t (Go.Ev.undef::Go.Ev.undef::Go.Ev.undef::Go.Ev.undef::.bool true::le) s))) ∧
 (((∀ g r s t le,(zmD g).run r t (.bool false::le) s=za 8 (gp 4 t) fun v5=>xLoad false 1 v5 s fun v6 s=>foldF (r.call 36 [v6] s) fun v7 s=>xUn .not v7 fun v8=>g.run r t (v8::v7::v6::v5::.bool false::le) s) ∧
 (∀ g r s t le x0 x1 x2 x3 x4,(zzh g).run r t (x0::x1::x2::x3::x4::le) s=xPick x4 (fun _=>g.run r t (V.bool true::V.bool true::x0::x1::x2::x3::x4::le) s) (fun _=>g.run r t (x0::x0::x0::x1::x2::x3::x4::le) s))) ∧
 ((∀ g r s t le,(zhs g).run r t (.bool true::le) s=g.run r t (Go.Ev.undef::Go.Ev.undef::Go.Ev.undef::Go.Ev.undef::.bool true::le) s) ∧
 (∀ g r s t le,(zhs g).run r t (.bool false::le) s=za 9 (gp 4 t) fun v11=>xLoad false 1 v11 s fun v12 s=>foldF (r.call 36 [v12] s) fun v13 s=>xUn .not v13 fun v14=>g.run r t (v14::v13::v12::v11::.bool false::le) s)))) ∧
 ((((∀ g r s t le x0 x1 x2 x3 x4,(ztr g).run r t (x0::x1::x2::x3::x4::le) s=xPick x4 (fun _=>g.run r t (V.bool true::V.bool true::x0::x1::x2::x3::x4::le) s) (fun _=>g.run r t (x0::x0::x0::x1::x2::x3::x4::le) s)) ∧
 (∀ g r s t le,(zhK g).run r t (.bool true::le) s=g.run r t (Go.Ev.undef::Go.Ev.undef::Go.Ev.undef::Go.Ev.undef::.bool true::le) s)) ∧
 ((∀ g r s t le,(zhK g).run r t (.bool false::le) s=za 7 (gp 4 t) fun v17=>xLoad false 1 v17 s fun v18 s=>xUn .not v18 fun v19=>g.run r t (v19::v19::v18::v17::.bool false::le) s) ∧
 (∀ g r s t le,(zc5 g).run r t (.bool true::le) s=za 9 (gp 4 t) fun v21=>xLoad false 1 v21 s fun v22 s=>xLenS v22 fun v23=>xBin ⟨9,[]⟩ false .gtr v23 (V.nat .i64 0) fun v24=>g.run r t (v24::v23::v22::v21::.bool true::le) s))) ∧
 (((∀ g r s t le,(zc5 g).run r t (.bool false::le) s=g.run r t (Go.Ev.undef::Go.Ev.undef::Go.Ev.undef::Go.Ev.undef::.bool false::le) s) ∧
 (∀ g r s t le,(zc5 g).run r t (Go.Ev.undef::le) s=g.run r t (Go.Ev.undef::Go.Ev.undef::Go.Ev.undef::Go.Ev.undef::Go.Ev.undef::le) s)) ∧
 ((∀ g r s t le x0 x1 x2 x3 x4 x5 x6 x7,(zhT g).run r t (x0::x1::x2::x3::x4::x5::x6::x7::.bool true::le) s=g.run r t (Go.Ev.undef::x0::x1::x2::x3::x4::x5::x6::x7::.bool true::le) s) ∧
 ((∀ g r s t le x0 x1 x2 x3 x4 x5 x6 x7,(zhT g).run r t (x0::x1::x2::x3::x4::x5::x6::x7::.bool false::le) s=xPick x4 (fun _=>g.run r t (x0::x0::x1::x2::x3::x4::x5::x6::x7::.bool false::le) s) (fun _=>g.run r t (V.bool false::x0::x1::x2::x3::x4::x5::x6::x7::.bool false::le) s)) ∧
 (∀ g r s t le x0 x1 x2 x3 x4 x5 x6 x7 x8 x9,(zwG g).run r t (x0::x1::x2::x3::x4::x5::x6::x7::x8::x9::le) s=xPick x9 (fun _=>g.run r (sp 7 (V.bool true) t) (V.bool true::x0::x1::x2::x3::x4::x5::x6::x7::x8::x9::le) s) (fun _=>g.run r (sp 7 x0 t) (x0::x0::x1::x2::x3::x4::x5::x6::x7::x8::x9::le) s)))))))):=by
 and_intros<;>(intros;kernel_rfl)
theorem zIO:∀ r s t,zMp.run r t s=zk 16 (gp 0 t) fun l0=>Go.Ev.newRow s 37 l0 false fun a0k _ s=>.nrm (sp 2 (V.bool false) (sp 1 (V.ptr a0k 0 0) t)) s:=reg1 2
theorem zIT:∀ r s t,zK8.run r t s=(zEC (zw8 (zGW (zuT (zAU (zmC (zzz (zmu (zyi (zl6 (zCJ nilL))))))))))).run r t [] s:=zt (by kernel_rfl) (chS rfl (by kernel_rfl) (chS rfl (by kernel_rfl) (chS rfl (by kernel_rfl) (chS rfl (by kernel_rfl) (chS rfl (by kernel_rfl) (chS rfl (by kernel_rfl) (chS rfl (by kernel_rfl) (chS rfl (by kernel_rfl) (chS rfl (by kernel_rfl) (chS rfl (by kernel_rfl) chL))))))))))
theorem zIJ:∀ r s t,zL1.run r t s=.nrm (sp 2 (V.bool false) t) s:=reg1 1
theorem zGq:∀ r s t,zJE.run r t s=.nrm (sp 3 (V.nat .i64 0) t) s:=reg1 1
theorem zF1:∀ r s t,zJI.run r t s=za 1 (gp 1 t) fun v1=>xLoad false 1 v1 s fun v2 s=>xLenS v2 fun v3=>xBin ⟨9,[]⟩ false .lss (gp 3 t) v3 fun v4=>.nrm (sp 6 v4 t) s:=reg1 5
theorem zE0:∀ r s t,zIF.run r t s=za 1 (gp 1 t) fun v0=>xLoad false 1 v0 s fun v1 s=>zb 10 v1 (gp 3 t) fun v3=>xLoad true 10 v3 s fun v4 s=>Go.Ev.newRow s 65 [V.nat .i64 0,V.nat .i64 0,V.nat .i64 0,V.str [],V.nat .i64 0,V.nat .i64 0,V.nil 1,V.bool false,V.nil 1,V.nil 1] false fun a5k _ s=>zK 10 (V.ptr a5k 0 0) v4 s fun v6 s=>.nrm (sp 4 (V.ptr a5k 0 0) t) s:=reg1 7
theorem zGi:∀ r s t,zI9.run r t s=(zAb (zmD (zzh (zhs (ztr (zhK (zc5 (zhT (zwG nilL))))))))).run r t [] s:=zt (by kernel_rfl) (chS rfl (by kernel_rfl) (chS rfl (by kernel_rfl) (chS rfl (by kernel_rfl) (chS rfl (by kernel_rfl) (chS rfl (by kernel_rfl) (chS rfl (by kernel_rfl) (chS rfl (by kernel_rfl) (chS rfl (by kernel_rfl) chL))))))))
theorem zFD:∀ r s t,zJs.run r t s=.nrm (sp 2 (V.bool false) t) s:=reg1 1
theorem zEx:∀ r s t,zJb.run r t s=xBin ⟨9,[]⟩ false .add (gp 3 t) (V.nat .i64 1) fun v1=>.nrm (sp 3 v1 t) s:=reg1 3
theorem zEy:∀ r s t,zJh.run r t s=.nrm (sp 2 (V.bool true) t) s:=reg1 1
theorem zLG:sizeC zDP=62:=by kernel_rfl
theorem zF8:∀ r s t,zi7.run r t s=seqA (fun t s=>r.code fiV27 zDP t s) (seqA (fun t s=>seqA (fun t s=>zJb.run r t s) (zh 1 (seqA (fun t s=>seqA (fun t s=>condV (gp 7 t) (seqA (fun t s=>.ret t s) (zJs.run r t s)) (.nrm t s)) (zI9.run r t s)) (zIF.run r t s)))) (seqA (fun t s=>condV (gp 6 t) (.nrm t s) (.ext 0 t s)) (zJI.run r t s))):=by intros;kernel_rfl
theorem zHO:type_of% (aI zIO <| aI zIT <| aI zIJ <| aI zGq <| aI zF1 <| aI zE0 <| aI zGi <| aI zFD <| aI zEx <| aI zEy <| eV27x):=aI zIO <| aI zIT <| aI zIJ <| aI zGq <| aI zF1 <| aI zE0 <| aI zGi <| aI zFD <| aI zEx <| aI zEy <| eV27x
def zsa:FI:=⟨232,8,4⟩
def zxr:=zA Tryz.prog 33
def zkY (l:List Nat):=comp pc0 zsa (subC l zxr)
def zBF:=zkY [0]
def zzw:=zkY [1,0,0]
def zyP:=zkY [1,0,1,0,0]
def zvp:=zkY [1,1,0]
def zA4:=comp pc0 zsa zxr
def zyM:=finN (resC pc0 zsa (resOf Tryz.prog 33)).run
theorem zFL :
 ((∀ r s x0,(fnC pc0 33).run r [x0] s=outF (bindR (fun t s=>zyM t s) (zA4.run r (sp 0 x0 T.new) s))) ∧
 ((∀ s t,zyM t s=finV (gp 240 t) (resV [gp 2 t] s)) ∧
 (∀ r s t,zA4.run r t s=seqA (fun t s=>seqA (fun t s=>seqA (fun t s=>.ret t s) (zvp.run r t s)) (seqA (fun t s=>condV (gp 3 t) (seqA (fun t s=>.ret t s) (zyP.run r t s)) (.nrm t s)) (zzw.run r t s))) (zBF.run r t s)))):=by
 and_intros<;>(intros;kernel_rfl)
theorem zw4:∀ r s t,zBF.run r t s=.nrm (sp 2 (V.nil 1) t) s:=reg1 1
theorem zxj:∀ r s t,zzw.run r t s=xBin ⟨2,[]⟩ true .eql (gp 0 t) (V.nil 1) fun v1=>.nrm (sp 3 v1 t) s:=reg1 2
theorem zxC:∀ r s t,zyP.run r t s=.nrm (sp 2 (V.nil 1) t) s:=reg1 1
theorem zqm:∀ r s t,zvp.run r t s=repL [V.nat .i64 0] 0 fun l0z=>Go.Ev.newRow s 3 l0z false fun a0k _ s=>zM 3 1 (V.sl a0k 0 0 0 0) (gp 0 t) s fun v2 s=>.nrm (sp 2 v2 t) s:=reg1 4
theorem zlZ:type_of% (aI zw4 <| aI zxj <| aI zxC <| aI zqm <| zFL):=aI zw4 <| aI zxj <| aI zxC <| aI zqm <| zFL
def fiE27:FI:=⟨504,9,4⟩
def zDW:=zA Tryz.prog 35
def zLu:=comp pc0 fiE27 (subC [0] zDW)
def zLN:=subC [1,0] zDW
def zL4:=comp pc0 fiE27 zLN
def zvG:=qOf pc0 fiE27 zLN
def zD5:=zvG 5 2 (dn 8 5)
def zwk:=zvG 3 2 [6,5,4]
def zD0:=zvG 0 3 []
def zKN:=comp pc0 fiE27 zDW
def zLQ:=finN (resC pc0 fiE27 (resOf Tryz.prog 35)).run
theorem eE27x :
 (((∀ r s x0,(fnC pc0 35).run r [x0] s=outF (bindR (fun t s=>zLQ t s) (zKN.run r (sp 0 x0 T.new) s))) ∧
 ((∀ s t,zLQ t s=finV (gp 240 t) (resV [gp 2 t] s)) ∧
 (∀ r s t,zKN.run r t s=seqA (fun t s=>seqA (fun t s=>.ret t s) (zL4.run r t s)) (zLu.run r t s)))) ∧
 (((∀ g r s t le,(zD0 g).run r t (le) s=xLoad true 7 (gp 1 t) s fun v0 s=>foldF (r.call 67 [v0] s) fun v1 s=>g.run r t (v1::v1::v0::le) s) ∧
 (∀ g r s t le,(zwk g).run r t (.bool true::le) s=xLoad true 7 (gp 1 t) s fun v3 s=>foldF (r.call 68 [v3] s) fun v4 s=>g.run r t (v4::v3::.bool true::le) s)) ∧
 ((∀ g r s t le,(zwk g).run r t (.bool false::le) s=g.run r t (Go.Ev.undef::Go.Ev.undef::.bool false::le) s) ∧
 (∀ g r s t le x0 x1 x2,(zD5 g).run r t (x0::x1::x2::le) s=xPick x2 (fun _=>g.run r (sp 2 x0 t) (x0::x0::x0::x1::x2::le) s) (fun _=>g.run r (sp 2 (V.bool false) t) (V.bool false::V.bool false::x0::x1::x2::le) s))))):=by
 and_intros<;>(intros;kernel_rfl)
theorem zIN:∀ r s t,zLu.run r t s=zk 7 (gp 0 t) fun l0=>Go.Ev.newRow s 35 l0 false fun a0k _ s=>.nrm (sp 2 (V.bool false) (sp 1 (V.ptr a0k 0 0) t)) s:=reg1 2
theorem zJu:∀ r s t,zL4.run r t s=(zD0 (zwk (zD5 nilL))).run r t [] s:=zt (by kernel_rfl) (chS rfl (by kernel_rfl) (chS rfl (by kernel_rfl) chL))
theorem zOb:type_of% (aI zIN <| aI zJu <| eE27x):=aI zIN <| aI zJu <| eE27x
def fiW27:FI:=⟨503314416,29,4⟩
def zjw:=zA Tryz.prog 36
def k_W27 (l:List Nat):=comp pc0 fiW27 (subC l zjw)
def zMj:=k_W27 [0]
def zLC:=k_W27 [1,0,0]
def zMA:=subC [1,0,1,0,0,0,0] zjw
def zKM:=comp pc0 fiW27 zMA
def zxp:=qOf pc0 fiW27 zMA
def zE3:=zxp 7 1 (dn 11 7)
def ztu:=zxp 5 2 (dn 9 5)
def zEX:=zxp 0 5 []
def zI5:=subC [1,0,1,0,0,1,0,0,0] zjw
def zJJ:=comp pc0 fiW27 zI5
def zl2:=qOf pc0 fiW27 zI5
def zwi:=zl2 11 1 (dn 25 11)
def zmx:=zl2 6 5 (dn 20 6)
def zAN:=zl2 0 6 []
def zJA:=k_W27 [1,0,1,0,0,1,0,0,1,0,0]
def zJH:=k_W27 [1,0,1,0,0,1,1]
def zDv:=subC [1,0,1,0] zjw
def zxi:=comp pc0 fiW27 zDv
def zI2:=k_W27 [1,1,0]
def zLk:=comp pc0 fiW27 zjw
def zMn:=finN (resC pc0 fiW27 (resOf Tryz.prog 36)).run
theorem eW27x :
 ((((∀ r s x0,(fnC pc0 36).run r [x0] s=outF (bindR (fun t s=>zMn t s) (zLk.run r (sp 0 x0 T.new) s))) ∧
 (∀ s t,zMn t s=finV (gp 240 t) (resV [gp 2 t] s))) ∧
 ((∀ r s t,zLk.run r t s=seqA (fun t s=>seqA (fun t s=>seqA (fun t s=>.ret t s) (zI2.run r t s)) (seqA (fun t s=>zh 0 (zxi.run r t s)) (zLC.run r t s))) (zMj.run r t s)) ∧
 ((∀ g r s t le,(zEX g).run r t (le) s=xLenS (gp 0 t) fun v2=>xBin ⟨9,[]⟩ false .lss (gp 3 t) v2 fun v3=>g.run r t (v3::v3::v2::gp 0 t::gp 3 t::le) s) ∧
 (∀ g r s t le,(ztu g).run r t (.bool true::le) s=xBin ⟨9,[]⟩ false .leq (gp 3 t) (V.nat .i64 40) fun v6=>g.run r t (v6::gp 3 t::.bool true::le) s)))) ∧
 (((∀ g r s t le,(ztu g).run r t (.bool false::le) s=g.run r t (Go.Ev.undef::Go.Ev.undef::.bool false::le) s) ∧
 ((∀ g r s t le x0 x1 x2,(zE3 g).run r t (x0::x1::x2::le) s=xPick x2 (fun _=>g.run r (sp 4 x0 t) (x0::x0::x1::x2::le) s) (fun _=>g.run r (sp 4 (V.bool false) t) (V.bool false::x0::x1::x2::le) s)) ∧
 (∀ g r s t le,(zAN g).run r t (le) s=zb 1 (gp 0 t) (gp 3 t) fun v2=>xLoad false 1 v2 s fun v3 s=>xBin ⟨9,[]⟩ false .lss v3 (V.nat .i64 1) fun v4=>g.run r t (v4::v4::v3::v2::gp 3 t::gp 0 t::le) s))) ∧
 ((∀ g r s t le,(zmx g).run r t (.bool true::le) s=g.run r t (Go.Ev.undef::Go.Ev.undef::Go.Ev.undef::Go.Ev.undef::Go.Ev.undef::.bool true::le) s) ∧
 ((∀ g r s t le,(zmx g).run r t (.bool false::le) s=zb 1 (gp 0 t) (gp 3 t) fun v8=>xLoad false 1 v8 s fun v9 s=>xBin ⟨9,[]⟩ false .gtr v9 (V.nat .i64 500) fun v10=>g.run r t (v10::v9::v8::gp 3 t::gp 0 t::.bool false::le) s) ∧
 (∀ g r s t le x0 x1 x2 x3 x4 x5,(zwi g).run r t (x0::x1::x2::x3::x4::x5::le) s=xPick x5 (fun _=>g.run r (sp 5 (V.bool true) t) (V.bool true::x0::x1::x2::x3::x4::x5::le) s) (fun _=>g.run r (sp 5 x0 t) (x0::x0::x1::x2::x3::x4::x5::le) s)))))):=by
 and_intros<;>(intros;kernel_rfl)
theorem zIp:∀ r s t,zMj.run r t s=.nrm (sp 2 (V.bool false) t) s:=reg1 1
theorem zIR:∀ r s t,zLC.run r t s=.nrm (sp 3 (V.nat .i64 0) t) s:=reg1 1
theorem zJm:∀ r s t,zKM.run r t s=(zEX (ztu (zE3 nilL))).run r t [] s:=zt (by kernel_rfl) (chS rfl (by kernel_rfl) (chS rfl (by kernel_rfl) chL))
theorem zFc:∀ r s t,zJJ.run r t s=(zAN (zmx (zwi nilL))).run r t [] s:=zt (by kernel_rfl) (chS rfl (by kernel_rfl) (chS rfl (by kernel_rfl) chL))
theorem zEK:∀ r s t,zJA.run r t s=.nrm (sp 2 (V.bool false) t) s:=reg1 1
theorem zEW:∀ r s t,zJH.run r t s=xBin ⟨9,[]⟩ false .add (gp 3 t) (V.nat .i64 1) fun v1=>.nrm (sp 3 v1 t) s:=reg1 3
theorem zFO:∀ r s t,zI2.run r t s=xLenS (gp 0 t) fun v1=>xBin ⟨9,[]⟩ false .leq v1 (V.nat .i64 40) fun v2=>.nrm (sp 2 v2 t) s:=reg1 4
theorem zMW:sizeC zDv=41:=by kernel_rfl
theorem zIv:∀ r s t,zxi.run r t s=seqA (fun t s=>r.code fiW27 zDv t s) (seqA (fun t s=>seqA (fun t s=>zJH.run r t s) (zh 1 (seqA (fun t s=>condV (gp 5 t) (seqA (fun t s=>.ret t s) (zJA.run r t s)) (.nrm t s)) (zJJ.run r t s)))) (seqA (fun t s=>condV (gp 4 t) (.nrm t s) (.ext 0 t s)) (zKM.run r t s))):=by intros;kernel_rfl
theorem zIa:type_of% (aI zIp <| aI zIR <| aI zJm <| aI zFc <| aI zEK <| aI zEW <| aI zFO <| eW27x):=aI zIp <| aI zIR <| aI zJm <| aI zFc <| aI zEK <| aI zEW <| aI zFO <| eW27x
def fiV19:FI:=⟨1016,10,4⟩
def zDy:=zA Tryz.prog 67
def zLL:=comp pc0 fiV19 (subC [0] zDy)
def zK2:=subC [1,0] zDy
def zK7:=comp pc0 fiV19 zK2
def zwu:=qOf pc0 fiV19 zK2
def zGP:=zwu 6 2 (dn 9 6)
def zrK:=zwu 4 2 (dn 7 4)
def zGk:=zwu 0 4 []
def zLa:=comp pc0 fiV19 zDy
def zLh:=finN (resC pc0 fiV19 (resOf Tryz.prog 67)).run
theorem eV19x :
 (((∀ r s x0,(fnC pc0 67).run r [x0] s=outF (bindR (fun t s=>zLh t s) (zLa.run r (sp 0 x0 T.new) s))) ∧
 ((∀ s t,zLh t s=finV (gp 240 t) (resV [gp 2 t] s)) ∧
 (∀ r s t,zLa.run r t s=seqA (fun t s=>seqA (fun t s=>.ret t s) (zK7.run r t s)) (zLL.run r t s)))) ∧
 (((∀ g r s t le,(zGk g).run r t (le) s=xLoad true 7 (gp 1 t) s fun v0 s=>foldF (r.call 108 [v0] s) fun v1 s=>xBin ⟨9,[]⟩ false .leq v1 (V.nat .i64 500) fun v2=>g.run r t (v2::v2::v1::v0::le) s) ∧
 (∀ g r s t le,(zrK g).run r t (.bool true::le) s=xLoad true 7 (gp 1 t) s fun v4 s=>foldF (r.call 109 [v4] s) fun v5 s=>g.run r t (v5::v4::.bool true::le) s)) ∧
 ((∀ g r s t le,(zrK g).run r t (.bool false::le) s=g.run r t (Go.Ev.undef::Go.Ev.undef::.bool false::le) s) ∧
 (∀ g r s t le x0 x1 x2,(zGP g).run r t (x0::x1::x2::le) s=xPick x2 (fun _=>g.run r (sp 2 x0 t) (x0::x0::x0::x1::x2::le) s) (fun _=>g.run r (sp 2 (V.bool false) t) (V.bool false::V.bool false::x0::x1::x2::le) s))))):=by
 and_intros<;>(intros;kernel_rfl)
theorem zIu:∀ r s t,zLL.run r t s=zk 7 (gp 0 t) fun l0=>Go.Ev.newRow s 35 l0 false fun a0k _ s=>.nrm (sp 2 (V.bool false) (sp 1 (V.ptr a0k 0 0) t)) s:=reg1 2
theorem zJc:∀ r s t,zK7.run r t s=(zGk (zrK (zGP nilL))).run r t [] s:=zt (by kernel_rfl) (chS rfl (by kernel_rfl) (chS rfl (by kernel_rfl) chL))
theorem zOs:type_of% (aI zIu <| aI zJc <| eV19x):=aI zIu <| aI zJc <| eV19x
def jH:FI:=⟨140454020513776,48,4⟩
def zaU:=zA Tryz.prog 68
def jk (l:List Nat):=comp pc0 jH (subC l zaU)
def zwn:=jk [0]
def zug:=subC [1,0,0] zaU
def zwC:=comp pc0 jH zug
def zT:=qOf pc0 jH zug
def zfW:=zT 29 1 (dn 33 29)
def zbq:=zT 24 5 (dn 28 24)
def zgv:=zT 22 2 (dn 26 22)
def zbl:=zT 19 3 (dn 23 19)
def zgg:=zT 17 2 (dn 21 17)
def zbw:=zT 14 3 (dn 18 14)
def zga:=zT 12 2 (dn 16 12)
def zcy:=zT 9 3 (dn 13 9)
def zjv:=zT 7 2 (dn 11 7)
def zdx:=zT 4 3 (dn 8 4)
def zlI:=zT 0 4 []
def ztc:=jk [1,0,1,0,0]
def znv:=jk [1,1,0,0]
def zpJ:=jk [1,1,0,1,0,0,0,0]
def zqJ:=jk [1,1,0,1,0,0,1,0,0,0]
def zqu:=jk [1,1,0,1,0,0,1,0,0,1,0,0]
def zpE:=jk [1,1,0,1,0,0,1,1]
def zeP:=subC [1,1,0,1,0] zaU
def wg:=comp pc0 jH zeP
def znU:=jk [1,1,1,0]
def zrD:=comp pc0 jH zaU
def zxs:=finN (resC pc0 jH (resOf Tryz.prog 68)).run
theorem zzd :
 (((((∀ r s x0,(fnC pc0 68).run r [x0] s=outF (bindR (fun t s=>zxs t s) (zrD.run r (sp 0 x0 T.new) s))) ∧
 (∀ s t,zxs t s=finV (gp 240 t) (resV [gp 2 t] s))) ∧
 ((∀ r s t,zrD.run r t s=seqA (fun t s=>seqA (fun t s=>seqA (fun t s=>seqA (fun t s=>.ret t s) (znU.run r t s)) (seqA (fun t s=>zh 0 (wg.run r t s)) (znv.run r t s))) (seqA (fun t s=>condV (gp 4 t) (seqA (fun t s=>.ret t s) (ztc.run r t s)) (.nrm t s)) (zwC.run r t s))) (zwn.run r t s)) ∧
 (∀ g r s t le,(zlI g).run r t (le) s=za 0 (gp 1 t) fun v0=>xLoad false 1 v0 s fun v1 s=>xBin ⟨9,[]⟩ false .gtr v1 (V.nat .i64 10) fun v2=>g.run r t (v2::v2::v1::v0::le) s))) ∧
 (((∀ g r s t le,(zdx g).run r t (.bool true::le) s=za 0 (gp 1 t) fun v4=>xLoad false 1 v4 s fun v5 s=>xBin ⟨7,[]⟩ true .neq v5 (V.nat .i64 13) fun v6=>g.run r t (v6::v5::v4::.bool true::le) s) ∧
 (∀ g r s t le,(zdx g).run r t (.bool false::le) s=g.run r t (Go.Ev.undef::Go.Ev.undef::Go.Ev.undef::.bool false::le) s)) ∧
 ((∀ g r s t le x0 x1 x2 x3,(zjv g).run r t (x0::x1::x2::x3::le) s=xPick x3 (fun _=>g.run r t (x0::x0::x0::x1::x2::x3::le) s) (fun _=>g.run r t (V.bool false::V.bool false::x0::x1::x2::x3::le) s)) ∧
 ((∀ g r s t le,(zcy g).run r t (.bool true::le) s=za 0 (gp 1 t) fun v9=>xLoad false 1 v9 s fun v10 s=>xBin ⟨7,[]⟩ true .neq v10 (V.nat .i64 14) fun v11=>g.run r t (v11::v10::v9::.bool true::le) s) ∧
 (∀ g r s t le,(zcy g).run r t (.bool false::le) s=g.run r t (Go.Ev.undef::Go.Ev.undef::Go.Ev.undef::.bool false::le) s))))) ∧
 ((((∀ g r s t le x0 x1 x2 x3,(zga g).run r t (x0::x1::x2::x3::le) s=xPick x3 (fun _=>g.run r t (x0::x0::x0::x1::x2::x3::le) s) (fun _=>g.run r t (V.bool false::V.bool false::x0::x1::x2::x3::le) s)) ∧
 (∀ g r s t le,(zbw g).run r t (.bool true::le) s=za 0 (gp 1 t) fun v14=>xLoad false 1 v14 s fun v15 s=>xBin ⟨7,[]⟩ true .neq v15 (V.nat .i64 15) fun v16=>g.run r t (v16::v15::v14::.bool true::le) s)) ∧
 ((∀ g r s t le,(zbw g).run r t (.bool false::le) s=g.run r t (Go.Ev.undef::Go.Ev.undef::Go.Ev.undef::.bool false::le) s) ∧
 ((∀ g r s t le x0 x1 x2 x3,(zgg g).run r t (x0::x1::x2::x3::le) s=xPick x3 (fun _=>g.run r t (x0::x0::x0::x1::x2::x3::le) s) (fun _=>g.run r t (V.bool false::V.bool false::x0::x1::x2::x3::le) s)) ∧
 (∀ g r s t le,(zbl g).run r t (.bool true::le) s=za 0 (gp 1 t) fun v19=>xLoad false 1 v19 s fun v20 s=>xBin ⟨7,[]⟩ true .neq v20 (V.nat .i64 19) fun v21=>g.run r t (v21::v20::v19::.bool true::le) s)))) ∧
 (((∀ g r s t le,(zbl g).run r t (.bool false::le) s=g.run r t (Go.Ev.undef::Go.Ev.undef::Go.Ev.undef::.bool false::le) s) ∧
 (∀ g r s t le x0 x1 x2 x3,(zgv g).run r t (x0::x1::x2::x3::le) s=xPick x3 (fun _=>g.run r t (x0::x0::x0::x1::x2::x3::le) s) (fun _=>g.run r t (V.bool false::V.bool false::x0::x1::x2::x3::le) s))) ∧
 ((∀ g r s t le,(zbq g).run r t (.bool true::le) s=g.run r t (Go.Ev.undef::Go.Ev.undef::Go.Ev.undef::Go.Ev.undef::Go.Ev.undef::.bool true::le) s) ∧
 ((∀ g r s t le,(zbq g).run r t (.bool false::le) s=za 1 (gp 1 t) fun v24=>xLoad false 1 v24 s fun v25 s=>za 2 (gp 1 t) fun v26=>xLoad false 1 v26 s fun v27 s=>xBin ⟨7,[]⟩ false .neq v25 v27 fun v28=>g.run r t (v28::v27::v26::v25::v24::.bool false::le) s) ∧
 (∀ g r s t le x0 x1 x2 x3 x4 x5,(zfW g).run r t (x0::x1::x2::x3::x4::x5::le) s=xPick x5 (fun _=>g.run r (sp 4 (V.bool true) t) (V.bool true::x0::x1::x2::x3::x4::x5::le) s) (fun _=>g.run r (sp 4 x0 t) (x0::x0::x1::x2::x3::x4::x5::le) s))))))):=by
 and_intros<;>(intros;kernel_rfl)
theorem znI:∀ r s t,zwn.run r t s=zk 7 (gp 0 t) fun l0=>Go.Ev.newRow s 35 l0 false fun a0k _ s=>.nrm (sp 2 (V.bool false) (sp 1 (V.ptr a0k 0 0) t)) s:=reg1 2
theorem zoS:∀ r s t,zwC.run r t s=(zlI (zdx (zjv (zcy (zga (zbw (zgg (zbl (zgv (zbq (zfW nilL))))))))))).run r t [] s:=zt (by kernel_rfl) (chS rfl (by kernel_rfl) (chS rfl (by kernel_rfl) (chS rfl (by kernel_rfl) (chS rfl (by kernel_rfl) (chS rfl (by kernel_rfl) (chS rfl (by kernel_rfl) (chS rfl (by kernel_rfl) (chS rfl (by kernel_rfl) (chS rfl (by kernel_rfl) (chS rfl (by kernel_rfl) chL))))))))))
theorem zpq:∀ r s t,ztc.run r t s=.nrm (sp 2 (V.bool false) t) s:=reg1 1
theorem zlp:∀ r s t,znv.run r t s=.nrm (sp 3 (V.nat .i64 0) t) s:=reg1 1
theorem zkl:∀ r s t,zpJ.run r t s=za 6 (gp 1 t) fun v1=>xLoad false 1 v1 s fun v2 s=>xLenS v2 fun v3=>xBin ⟨9,[]⟩ false .lss (gp 3 t) v3 fun v4=>.nrm (sp 5 v4 t) s:=reg1 5
theorem ziF:∀ r s t,zqJ.run r t s=za 6 (gp 1 t) fun v0=>xLoad false 1 v0 s fun v1 s=>zb 7 v1 (gp 3 t) fun v3=>xLoad true 7 v3 s fun v4 s=>foldF (r.call 68 [v4] s) fun v5 s=>xUn .not v5 fun v6=>.nrm (sp 6 v6 t) s:=reg1 7
theorem ziS:∀ r s t,zqu.run r t s=.nrm (sp 2 (V.bool false) t) s:=reg1 1
theorem zjY:∀ r s t,zpE.run r t s=xBin ⟨9,[]⟩ false .add (gp 3 t) (V.nat .i64 1) fun v1=>.nrm (sp 3 v1 t) s:=reg1 3
theorem ziG:∀ r s t,znU.run r t s=.nrm (sp 2 (V.bool true) t) s:=reg1 1
theorem zDS:sizeC zeP=33:=by kernel_rfl
theorem zjf:∀ r s t,wg.run r t s=seqA (fun t s=>r.code jH zeP t s) (seqA (fun t s=>seqA (fun t s=>zpE.run r t s) (zh 1 (seqA (fun t s=>condV (gp 6 t) (seqA (fun t s=>.ret t s) (zqu.run r t s)) (.nrm t s)) (zqJ.run r t s)))) (seqA (fun t s=>condV (gp 5 t) (.nrm t s) (.ext 0 t s)) (zpJ.run r t s))):=by intros;kernel_rfl
theorem zhU:type_of% (aI znI <| aI zoS <| aI zpq <| aI zlp <| aI zkl <| aI ziF <| aI ziS <| aI zjY <| aI ziG <| zzd):=aI znI <| aI zoS <| aI zpq <| aI zlp <| aI zkl <| aI ziF <| aI ziS <| aI zjY <| aI ziG <| zzd
def zkL:FI:=⟨24,5,4⟩
def zht:=zA Tryz.prog 108
def zA1:=comp pc0 zkL (subC [0] zht)
def zBl:=comp pc0 zkL (subC [1,0] zht)
def zAo:=comp pc0 zkL zht
def zAf:=finN (resC pc0 zkL (resOf Tryz.prog 108)).run
theorem zFs :
 ((∀ r s x0,(fnC pc0 108).run r [x0] s=outF (bindR (fun t s=>zAf t s) (zAo.run r (sp 0 x0 T.new) s))) ∧
 ((∀ s t,zAf t s=finV (gp 240 t) (resV [gp 2 t] s)) ∧
 (∀ r s t,zAo.run r t s=seqA (fun t s=>seqA (fun t s=>.ret t s) (zBl.run r t s)) (zA1.run r t s)))):=by
 and_intros<;>(intros;kernel_rfl)
theorem ztR:∀ r s t,zA1.run r t s=zk 7 (gp 0 t) fun l0=>Go.Ev.newRow s 35 l0 false fun a0k _ s=>.nrm (sp 2 (V.nat .i64 0) (sp 1 (V.ptr a0k 0 0) t)) s:=reg1 2
theorem zrk:∀ r s t,zBl.run r t s=xLoad true 7 (gp 1 t) s fun v0 s=>foldF (r.call 157 [v0,V.nat .i64 501] s) fun v1 s=>.nrm (sp 2 v1 t) s:=reg1 3
theorem zKz:type_of% (aI ztR <| aI zrk <| zFs):=aI ztR <| aI zrk <| zFs
def zcb:FI:=⟨1046448,21,4⟩
def zeh:=zA Tryz.prog 109
def yX (l:List Nat):=comp pc0 zcb (subC l zeh)
def zrC:=yX [0]
def zuE:=yX [1,0,0]
def zwa:=yX [1,0,1,0,0]
def znH:=yX [1,1,0,0]
def zqE:=yX [1,1,0,1,0,0,0,0]
def zow:=yX [1,1,0,1,0,0,1,0,0,0]
def zqs:=yX [1,1,0,1,0,0,1,0,0,1,0,0]
def zqg:=yX [1,1,0,1,0,0,1,1]
def ze9:=subC [1,1,0,1,0] zeh
def wm:=comp pc0 zcb ze9
def zm3:=yX [1,1,1,0]
def zwp:=comp pc0 zcb zeh
def zsl:=finN (resC pc0 zcb (resOf Tryz.prog 109)).run
theorem zCn :
 ((∀ r s x0,(fnC pc0 109).run r [x0] s=outF (bindR (fun t s=>zsl t s) (zwp.run r (sp 0 x0 T.new) s))) ∧
 ((∀ s t,zsl t s=finV (gp 240 t) (resV [gp 2 t] s)) ∧
 (∀ r s t,zwp.run r t s=seqA (fun t s=>seqA (fun t s=>seqA (fun t s=>seqA (fun t s=>.ret t s) (zm3.run r t s)) (seqA (fun t s=>zh 0 (wm.run r t s)) (znH.run r t s))) (seqA (fun t s=>condV (gp 4 t) (seqA (fun t s=>.ret t s) (zwa.run r t s)) (.nrm t s)) (zuE.run r t s))) (zrC.run r t s)))):=by
 and_intros<;>(intros;kernel_rfl)
theorem zpc:∀ r s t,zrC.run r t s=zk 7 (gp 0 t) fun l0=>Go.Ev.newRow s 35 l0 false fun a0k _ s=>.nrm (sp 2 (V.bool false) (sp 1 (V.ptr a0k 0 0) t)) s:=reg1 2
theorem zqA:∀ r s t,zuE.run r t s=xLoad true 7 (gp 1 t) s fun v0 s=>foldF (r.call 158 [v0] s) fun v1 s=>xUn .not v1 fun v2=>.nrm (sp 4 v2 t) s:=reg1 3
theorem zno:∀ r s t,zwa.run r t s=.nrm (sp 2 (V.bool false) t) s:=reg1 1
theorem zlz:∀ r s t,znH.run r t s=.nrm (sp 3 (V.nat .i64 0) t) s:=reg1 1
theorem zkz:∀ r s t,zqE.run r t s=za 6 (gp 1 t) fun v1=>xLoad false 1 v1 s fun v2 s=>xLenS v2 fun v3=>xBin ⟨9,[]⟩ false .lss (gp 3 t) v3 fun v4=>.nrm (sp 5 v4 t) s:=reg1 5
theorem zlJ:∀ r s t,zow.run r t s=za 6 (gp 1 t) fun v0=>xLoad false 1 v0 s fun v1 s=>zb 7 v1 (gp 3 t) fun v3=>xLoad true 7 v3 s fun v4 s=>foldF (r.call 109 [v4] s) fun v5 s=>xUn .not v5 fun v6=>.nrm (sp 6 v6 t) s:=reg1 7
theorem zio:∀ r s t,zqs.run r t s=.nrm (sp 2 (V.bool false) t) s:=reg1 1
theorem zkA:∀ r s t,zqg.run r t s=xBin ⟨9,[]⟩ false .add (gp 3 t) (V.nat .i64 1) fun v1=>.nrm (sp 3 v1 t) s:=reg1 3
theorem zkR:∀ r s t,zm3.run r t s=.nrm (sp 2 (V.bool true) t) s:=reg1 1
theorem zDs:sizeC ze9=33:=by kernel_rfl
theorem zkM:∀ r s t,wm.run r t s=seqA (fun t s=>r.code zcb ze9 t s) (seqA (fun t s=>seqA (fun t s=>zqg.run r t s) (zh 1 (seqA (fun t s=>condV (gp 6 t) (seqA (fun t s=>.ret t s) (zqs.run r t s)) (.nrm t s)) (zow.run r t s)))) (seqA (fun t s=>condV (gp 5 t) (.nrm t s) (.ext 0 t s)) (zqE.run r t s))):=by intros;kernel_rfl
theorem zhC:type_of% (aI zpc <| aI zqA <| aI zno <| aI zlz <| aI zkz <| aI zlJ <| aI zio <| aI zkA <| aI zkR <| zCn):=aI zpc <| aI zqA <| aI zno <| aI zlz <| aI zkz <| aI zlJ <| aI zio <| aI zkA <| aI zkR <| zCn
def jR:FI:=⟨2147417984,31,4⟩
def zaQ:=zA Tryz.prog 157
def wT (l:List Nat):=comp pc0 jR (subC l zaQ)
def ztX:=wT [0]
def zs3:=wT [1,0]
def zus:=wT [1,1,0,0]
def zpb:=subC [1,1,0,1,0,0,0,0] zaQ
def zpX:=comp pc0 jR zpb
def zbB:=qOf pc0 jR zpb
def zgQ:=zbB 9 1 (dn 16 9)
def zbx:=zbB 6 3 (dn 13 6)
def zf5:=zbB 0 6 []
def zqG:=wT [1,1,0,1,0,0,1,0,0]
def zpI:=wT [1,1,0,1,0,0,1,1]
def zh0:=subC [1,1,0,1,0] zaQ
def w9:=comp pc0 jR zh0
def zqn:=wT [1,1,1,0]
def zvg:=comp pc0 jR zaQ
def zxF:=finN (resC pc0 jR (resOf Tryz.prog 157)).run
theorem zBK :
 (((∀ r s x0 x1,(fnC pc0 157).run r [x0,x1] s=outF (bindR (fun t s=>zxF t s) (zvg.run r (sp 1 x1 (sp 0 x0 T.new)) s))) ∧
 ((∀ s t,zxF t s=finV (gp 240 t) (resV [gp 4 t] s)) ∧
 (∀ r s t,zvg.run r t s=seqA (fun t s=>seqA (fun t s=>seqA (fun t s=>seqA (fun t s=>.ret t s) (zqn.run r t s)) (seqA (fun t s=>zh 0 (w9.run r t s)) (zus.run r t s))) (zs3.run r t s)) (ztX.run r t s)))) ∧
 (((∀ g r s t le,(zf5 g).run r t (le) s=za 6 (gp 2 t) fun v1=>xLoad false 1 v1 s fun v2 s=>xLenS v2 fun v3=>xBin ⟨9,[]⟩ false .lss (gp 6 t) v3 fun v4=>g.run r t (v4::v4::v3::v2::v1::gp 6 t::le) s) ∧
 (∀ g r s t le,(zbx g).run r t (.bool true::le) s=xBin ⟨9,[]⟩ false .lss (gp 5 t) (gp 1 t) fun v8=>g.run r t (v8::gp 1 t::gp 5 t::.bool true::le) s)) ∧
 ((∀ g r s t le,(zbx g).run r t (.bool false::le) s=g.run r t (Go.Ev.undef::Go.Ev.undef::Go.Ev.undef::.bool false::le) s) ∧
 (∀ g r s t le x0 x1 x2 x3,(zgQ g).run r t (x0::x1::x2::x3::le) s=xPick x3 (fun _=>g.run r (sp 7 x0 t) (x0::x0::x1::x2::x3::le) s) (fun _=>g.run r (sp 7 (V.bool false) t) (V.bool false::x0::x1::x2::x3::le) s))))):=by
 and_intros<;>(intros;kernel_rfl)
theorem zmU:∀ r s t,ztX.run r t s=zk 7 (gp 0 t) fun l0=>Go.Ev.newRow s 35 l0 false fun a0k _ s=>.nrm (sp 4 (V.nat .i64 0) (sp 2 (V.ptr a0k 0 0) t)) s:=reg1 2
theorem zmO:∀ r s t,zs3.run r t s=.nrm (sp 5 (V.nat .i64 1) t) s:=reg1 1
theorem zqy:∀ r s t,zus.run r t s=.nrm (sp 6 (V.nat .i64 0) t) s:=reg1 1
theorem ziM:∀ r s t,zpX.run r t s=(zf5 (zbx (zgQ nilL))).run r t [] s:=zt (by kernel_rfl) (chS rfl (by kernel_rfl) (chS rfl (by kernel_rfl) chL))
theorem zku:∀ r s t,zqG.run r t s=za 6 (gp 2 t) fun v1=>xLoad false 1 v1 s fun v2 s=>zb 7 v2 (gp 6 t) fun v4=>xLoad true 7 v4 s fun v5 s=>xBin ⟨9,[]⟩ false .sub (gp 1 t) (gp 5 t) fun v8=>foldF (r.call 157 [v5,v8] s) fun v9 s=>xBin ⟨9,[]⟩ false .add (gp 5 t) v9 fun v10=>.nrm (sp 5 v10 t) s:=reg1 12
theorem zj5:∀ r s t,zpI.run r t s=xBin ⟨9,[]⟩ false .add (gp 6 t) (V.nat .i64 1) fun v1=>.nrm (sp 6 v1 t) s:=reg1 3
theorem ziq:∀ r s t,zqn.run r t s=.nrm (sp 4 (gp 5 t) t) s:=reg1 2
theorem zGS:sizeC zh0=36:=by kernel_rfl
theorem zd0:∀ r s t,w9.run r t s=seqA (fun t s=>r.code jR zh0 t s) (seqA (fun t s=>seqA (fun t s=>zpI.run r t s) (zh 1 (zqG.run r t s))) (seqA (fun t s=>condV (gp 7 t) (.nrm t s) (.ext 0 t s)) (zpX.run r t s))):=by intros;kernel_rfl
theorem zcv:type_of% (aI zmU <| aI zmO <| aI zqy <| aI ziM <| aI zku <| aI zj5 <| aI ziq <| zBK):=aI zmU <| aI zmO <| aI zqy <| aI ziM <| aI zku <| aI zj5 <| aI ziq <| zBK
def qv:FI:=⟨2721885089993692897886287760060074426112,131,4⟩
def yq:=zA Tryz.prog 158
def zan (l:List Nat):=comp pc0 qv (subC l yq)
def zBU:=zan [0]
def zCO:=zan [1,0]
def zCo:=subC [1,1,0,0] yq
def zyg:=comp pc0 qv zCo
def we:=qOf pc0 qv zCo
def zlt:=we 15 1 (dn 30 15)
def zcu:=we 10 5 (dn 25 10)
def zmT:=we 8 2 (dn 23 8)
def zet:=we 3 5 [18,17,16]
def zm8:=we 0 3 []
def zBz:=zan [1,1,0,1,0,0]
def zvE:=subC [1,1,1,0] yq
def zuD:=comp pc0 qv zvE
def qk:=qOf pc0 qv zvE
def zhk:=qk 25 2 (dn 56 25)
def zby:=qk 19 6 (dn 50 19)
def zgT:=qk 17 2 (dn 48 17)
def zbj:=qk 14 3 (dn 45 14)
def zgh:=qk 12 2 (dn 43 12)
def zct:=qk 9 3 (dn 40 9)
def zkm:=qk 7 2 (dn 38 7)
def zcA:=qk 4 3 (dn 35 4)
def zk2:=qk 0 4 []
def zt9:=subC [1,1,1,1,0,0] yq
def zwJ:=comp pc0 qv zt9
def qm:=qOf pc0 qv zt9
def zgx:=qm 21 1 (dn 78 21)
def zbm:=qm 20 1 (dn 77 20)
def j9:=qm 19 1 (dn 76 19)
def jV:=qm 16 3 (dn 73 16)
def j5:=qm 12 4 (dn 69 12)
def zcM:=qm 8 4 (dn 65 8)
def zkP:=qm 6 2 (dn 63 6)
def zde:=qm 4 2 (dn 61 4)
def zkS:=qm 0 4 []
def zr2:=zan [1,1,1,1,0,1,0,0]
def ztI:=subC [1,1,1,1,1,0] yq
def zxE:=comp pc0 qv ztI
def jA:=qOf pc0 qv ztI
def zgO:=jA 14 2 (dn 93 14)
def zbc:=jA 11 3 (dn 90 11)
def zik:=jA 9 2 (dn 88 9)
def zc8:=jA 4 5 (dn 83 4)
def ziT:=jA 0 4 []
def zxo:=subC [1,1,1,1,1,1,0,0] yq
def zrd:=comp pc0 qv zxo
def ql:=qOf pc0 qv zxo
def zgs:=ql 21 1 (dn 115 21)
def zbv:=ql 20 1 (dn 114 20)
def jY:=ql 19 1 (dn 113 19)
def wa:=ql 16 3 (dn 110 16)
def wb:=ql 12 4 (dn 106 12)
def zcQ:=ql 8 4 (dn 102 8)
def zk4:=ql 6 2 (dn 100 6)
def zdd:=ql 4 2 (dn 98 4)
def zj6:=ql 0 4 []
def zw1:=zan [1,1,1,1,1,1,0,1,0,0]
def zrG:=zan [1,1,1,1,1,1,1,0,0]
def zv7:=zan [1,1,1,1,1,1,1,0,1,0,0]
def zs0:=subC [1,1,1,1,1,1,1,1,0] yq
def zxe:=comp pc0 qv zs0
def zda:=qOf pc0 qv zs0
def zjT:=zda 8 2 (dn 130 8)
def zc3:=zda 4 4 (dn 126 4)
def ziy:=zda 0 4 []
def zzZ:=comp pc0 qv yq
def zyd:=finN (resC pc0 qv (resOf Tryz.prog 158)).run
theorem zEj :
 (((((((∀ r s x0,(fnC pc0 158).run r [x0] s=outF (bindR (fun t s=>zyd t s) (zzZ.run r (sp 0 x0 T.new) s))) ∧
 (∀ s t,zyd t s=finV (gp 240 t) (resV [gp 2 t] s))) ∧
 ((∀ r s t,zzZ.run r t s=seqA (fun t s=>seqA (fun t s=>seqA (fun t s=>seqA (fun t s=>seqA (fun t s=>seqA (fun t s=>seqA (fun t s=>seqA (fun t s=>seqA (fun t s=>.ret t s) (zxe.run r t s)) (seqA (fun t s=>condV (gp 11 t) (seqA (fun t s=>.ret t s) (zv7.run r t s)) (.nrm t s)) (zrG.run r t s))) (seqA (fun t s=>condV (gp 10 t) (seqA (fun t s=>.ret t s) (zw1.run r t s)) (.nrm t s)) (zrd.run r t s))) (zxE.run r t s)) (seqA (fun t s=>condV (gp 9 t) (seqA (fun t s=>.ret t s) (zr2.run r t s)) (.nrm t s)) (zwJ.run r t s))) (zuD.run r t s)) (seqA (fun t s=>condV (gp 8 t) (seqA (fun t s=>.ret t s) (zBz.run r t s)) (.nrm t s)) (zyg.run r t s))) (zCO.run r t s)) (zBU.run r t s)) ∧
 (∀ g r s t le,(zm8 g).run r t (le) s=xUn .not (gp 5 t) fun v1=>g.run r t (v1::v1::gp 5 t::le) s))) ∧
 (((∀ g r s t le,(zet g).run r t (.bool true::le) s=g.run r t (Go.Ev.undef::Go.Ev.undef::Go.Ev.undef::Go.Ev.undef::Go.Ev.undef::.bool true::le) s) ∧
 (∀ g r s t le,(zet g).run r t (.bool false::le) s=za 6 (gp 1 t) fun v3=>xLoad false 1 v3 s fun v4 s=>xLenS v4 fun v5=>xBin ⟨9,[]⟩ false .lss v5 (gp 3 t) fun v7=>g.run r t (v7::gp 3 t::v5::v4::v3::.bool false::le) s)) ∧
 ((∀ g r s t le x0 x1 x2 x3 x4 x5,(zmT g).run r t (x0::x1::x2::x3::x4::x5::le) s=xPick x5 (fun _=>g.run r t (V.bool true::V.bool true::x0::x1::x2::x3::x4::x5::le) s) (fun _=>g.run r t (x0::x0::x0::x1::x2::x3::x4::x5::le) s)) ∧
 (∀ g r s t le,(zcu g).run r t (.bool true::le) s=g.run r t (Go.Ev.undef::Go.Ev.undef::Go.Ev.undef::Go.Ev.undef::Go.Ev.undef::.bool true::le) s)))) ∧
 ((((∀ g r s t le,(zcu g).run r t (.bool false::le) s=za 6 (gp 1 t) fun v10=>xLoad false 1 v10 s fun v11 s=>xLenS v11 fun v12=>xBin ⟨9,[]⟩ false .gtr v12 (gp 4 t) fun v14=>g.run r t (v14::gp 4 t::v12::v11::v10::.bool false::le) s) ∧
 (∀ g r s t le x0 x1 x2 x3 x4 x5,(zlt g).run r t (x0::x1::x2::x3::x4::x5::le) s=xPick x5 (fun _=>g.run r (sp 8 (V.bool true) t) (V.bool true::x0::x1::x2::x3::x4::x5::le) s) (fun _=>g.run r (sp 8 x0 t) (x0::x0::x1::x2::x3::x4::x5::le) s))) ∧
 ((∀ g r s t le,(zk2 g).run r t (le) s=za 1 (gp 1 t) fun v0=>xLoad false 1 v0 s fun v1 s=>xBin ⟨9,[]⟩ false .geq v1 (V.nat .i64 0) fun v2=>g.run r t (v2::v2::v1::v0::le) s) ∧
 (∀ g r s t le,(zcA g).run r t (.bool true::le) s=za 1 (gp 1 t) fun v4=>xLoad false 1 v4 s fun v5 s=>xBin ⟨9,[]⟩ false .leq v5 (V.nat .i64 500) fun v6=>g.run r t (v6::v5::v4::.bool true::le) s))) ∧
 (((∀ g r s t le,(zcA g).run r t (.bool false::le) s=g.run r t (Go.Ev.undef::Go.Ev.undef::Go.Ev.undef::.bool false::le) s) ∧
 (∀ g r s t le x0 x1 x2 x3,(zkm g).run r t (x0::x1::x2::x3::le) s=xPick x3 (fun _=>g.run r t (x0::x0::x0::x1::x2::x3::le) s) (fun _=>g.run r t (V.bool false::V.bool false::x0::x1::x2::x3::le) s))) ∧
 ((∀ g r s t le,(zct g).run r t (.bool true::le) s=za 2 (gp 1 t) fun v9=>xLoad false 1 v9 s fun v10 s=>xBin ⟨9,[]⟩ false .geq v10 (V.nat .i64 0) fun v11=>g.run r t (v11::v10::v9::.bool true::le) s) ∧
 ((∀ g r s t le,(zct g).run r t (.bool false::le) s=g.run r t (Go.Ev.undef::Go.Ev.undef::Go.Ev.undef::.bool false::le) s) ∧
 (∀ g r s t le x0 x1 x2 x3,(zgh g).run r t (x0::x1::x2::x3::le) s=xPick x3 (fun _=>g.run r t (x0::x0::x0::x1::x2::x3::le) s) (fun _=>g.run r t (V.bool false::V.bool false::x0::x1::x2::x3::le) s))))))) ∧
 (((((∀ g r s t le,(zbj g).run r t (.bool true::le) s=za 2 (gp 1 t) fun v14=>xLoad false 1 v14 s fun v15 s=>xBin ⟨9,[]⟩ false .leq v15 (V.nat .i64 500) fun v16=>g.run r t (v16::v15::v14::.bool true::le) s) ∧
 (∀ g r s t le,(zbj g).run r t (.bool false::le) s=g.run r t (Go.Ev.undef::Go.Ev.undef::Go.Ev.undef::.bool false::le) s)) ∧
 ((∀ g r s t le x0 x1 x2 x3,(zgT g).run r t (x0::x1::x2::x3::le) s=xPick x3 (fun _=>g.run r t (x0::x0::x0::x1::x2::x3::le) s) (fun _=>g.run r t (V.bool false::V.bool false::x0::x1::x2::x3::le) s)) ∧
 (∀ g r s t le,(zby g).run r t (.bool true::le) s=za 1 (gp 1 t) fun v19=>xLoad false 1 v19 s fun v20 s=>za 2 (gp 1 t) fun v21=>xLoad false 1 v21 s fun v22 s=>xBin ⟨9,[]⟩ false .add v20 v22 fun v23=>xBin ⟨9,[]⟩ false .gtr v23 (V.nat .i64 0) fun v24=>g.run r t (v24::v23::v22::v21::v20::v19::.bool true::le) s))) ∧
 (((∀ g r s t le,(zby g).run r t (.bool false::le) s=g.run r t (Go.Ev.undef::Go.Ev.undef::Go.Ev.undef::Go.Ev.undef::Go.Ev.undef::Go.Ev.undef::.bool false::le) s) ∧
 (∀ g r s t le x0 x1 x2 x3 x4 x5 x6,(zhk g).run r t (x0::x1::x2::x3::x4::x5::x6::le) s=xPick x6 (fun _=>g.run r (sp 6 x0 t) (x0::x0::x0::x1::x2::x3::x4::x5::x6::le) s) (fun _=>g.run r (sp 6 (V.bool false) t) (V.bool false::V.bool false::x0::x1::x2::x3::x4::x5::x6::le) s))) ∧
 ((∀ g r s t le,(zkS g).run r t (le) s=za 0 (gp 1 t) fun v0=>xLoad false 1 v0 s fun v1 s=>xBin ⟨7,[]⟩ true .eql v1 (V.nat .i64 2) fun v2=>g.run r t (v2::v2::v1::v0::le) s) ∧
 ((∀ g r s t le,(zde g).run r t (.bool true::le) s=xUn .not (gp 6 t) fun v5=>g.run r t (v5::gp 6 t::.bool true::le) s) ∧
 (∀ g r s t le,(zde g).run r t (.bool false::le) s=g.run r t (Go.Ev.undef::Go.Ev.undef::.bool false::le) s))))) ∧
 ((((∀ g r s t le x0 x1 x2,(zkP g).run r t (x0::x1::x2::le) s=xPick x2 (fun _=>g.run r t (x0::x0::x0::x1::x2::le) s) (fun _=>g.run r t (V.bool false::V.bool false::x0::x1::x2::le) s)) ∧
 (∀ g r s t le,(zcM g).run r t (.bool true::le) s=g.run r t (Go.Ev.undef::Go.Ev.undef::Go.Ev.undef::Go.Ev.undef::.bool true::le) s)) ∧
 ((∀ g r s t le,(zcM g).run r t (.bool false::le) s=za 0 (gp 1 t) fun v8=>xLoad false 1 v8 s fun v9 s=>xBin ⟨7,[]⟩ true .neq v9 (V.nat .i64 2) fun v10=>g.run r t (v10::v10::v9::v8::.bool false::le) s) ∧
 (∀ g r s t le,(j5 g).run r t (.bool true::le) s=za 1 (gp 1 t) fun v12=>xLoad false 1 v12 s fun v13 s=>xBin ⟨7,[]⟩ true .neq v13 (V.nat .i64 0) fun v14=>g.run r t (v14::v14::v13::v12::.bool true::le) s))) ∧
 (((∀ g r s t le,(j5 g).run r t (.bool false::le) s=g.run r t (Go.Ev.undef::Go.Ev.undef::Go.Ev.undef::Go.Ev.undef::.bool false::le) s) ∧
 (∀ g r s t le,(j5 g).run r t (Go.Ev.undef::le) s=g.run r t (Go.Ev.undef::Go.Ev.undef::Go.Ev.undef::Go.Ev.undef::Go.Ev.undef::le) s)) ∧
 ((∀ g r s t le,(jV g).run r t (.bool true::le) s=g.run r t (Go.Ev.undef::Go.Ev.undef::Go.Ev.undef::.bool true::le) s) ∧
 ((∀ g r s t le,(jV g).run r t (.bool false::le) s=za 2 (gp 1 t) fun v16=>xLoad false 1 v16 s fun v17 s=>xBin ⟨7,[]⟩ true .neq v17 (V.nat .i64 0) fun v18=>g.run r t (v18::v17::v16::.bool false::le) s) ∧
 (∀ g r s t le,(jV g).run r t (Go.Ev.undef::le) s=g.run r t (Go.Ev.undef::Go.Ev.undef::Go.Ev.undef::Go.Ev.undef::le) s))))))) ∧
 ((((((∀ g r s t le x0 x1 x2 x3 x4 x5 x6,(j9 g).run r t (x0::x1::x2::x3::x4::x5::x6::.bool true::le) s=xPick x3 (fun _=>g.run r t (V.bool true::x0::x1::x2::x3::x4::x5::x6::.bool true::le) s) (fun _=>g.run r t (x0::x0::x1::x2::x3::x4::x5::x6::.bool true::le) s)) ∧
 (∀ g r s t le x0 x1 x2 x3 x4 x5 x6,(j9 g).run r t (x0::x1::x2::x3::x4::x5::x6::.bool false::le) s=g.run r t (Go.Ev.undef::x0::x1::x2::x3::x4::x5::x6::.bool false::le) s)) ∧
 ((∀ g r s t le x0 x1 x2 x3 x4 x5 x6,(j9 g).run r t (x0::x1::x2::x3::x4::x5::x6::Go.Ev.undef::le) s=g.run r t (Go.Ev.undef::x0::x1::x2::x3::x4::x5::x6::Go.Ev.undef::le) s) ∧
 (∀ g r s t le x0 x1 x2 x3 x4 x5 x6 x7 x8 x9 x10 x11,(zbm g).run r t (x0::x1::x2::x3::x4::x5::x6::x7::x8::x9::x10::x11::.bool true::le) s=g.run r t (Go.Ev.undef::x0::x1::x2::x3::x4::x5::x6::x7::x8::x9::x10::x11::.bool true::le) s))) ∧
 (((∀ g r s t le x0 x1 x2 x3 x4 x5 x6 x7 x8 x9 x10 x11,(zbm g).run r t (x0::x1::x2::x3::x4::x5::x6::x7::x8::x9::x10::x11::.bool false::le) s=xPick x8 (fun _=>g.run r t (x0::x0::x1::x2::x3::x4::x5::x6::x7::x8::x9::x10::x11::.bool false::le) s) (fun _=>g.run r t (V.bool false::x0::x1::x2::x3::x4::x5::x6::x7::x8::x9::x10::x11::.bool false::le) s)) ∧
 (∀ g r s t le x0 x1 x2 x3 x4 x5 x6 x7 x8 x9 x10 x11 x12 x13,(zgx g).run r t (x0::x1::x2::x3::x4::x5::x6::x7::x8::x9::x10::x11::x12::x13::le) s=xPick x13 (fun _=>g.run r (sp 9 (V.bool true) t) (V.bool true::x0::x1::x2::x3::x4::x5::x6::x7::x8::x9::x10::x11::x12::x13::le) s) (fun _=>g.run r (sp 9 x0 t) (x0::x0::x1::x2::x3::x4::x5::x6::x7::x8::x9::x10::x11::x12::x13::le) s))) ∧
 ((∀ g r s t le,(ziT g).run r t (le) s=za 4 (gp 1 t) fun v0=>xLoad false 1 v0 s fun v1 s=>xBin ⟨9,[]⟩ false .geq v1 (V.nat .i64 0) fun v2=>g.run r t (v2::v2::v1::v0::le) s) ∧
 (∀ g r s t le,(zc8 g).run r t (.bool true::le) s=za 4 (gp 1 t) fun v4=>xLoad false 1 v4 s fun v5 s=>za 5 (gp 1 t) fun v6=>xLoad false 1 v6 s fun v7 s=>xBin ⟨9,[]⟩ false .leq v5 v7 fun v8=>g.run r t (v8::v7::v6::v5::v4::.bool true::le) s)))) ∧
 ((((∀ g r s t le,(zc8 g).run r t (.bool false::le) s=g.run r t (Go.Ev.undef::Go.Ev.undef::Go.Ev.undef::Go.Ev.undef::Go.Ev.undef::.bool false::le) s) ∧
 (∀ g r s t le x0 x1 x2 x3 x4 x5,(zik g).run r t (x0::x1::x2::x3::x4::x5::le) s=xPick x5 (fun _=>g.run r t (x0::x0::x0::x1::x2::x3::x4::x5::le) s) (fun _=>g.run r t (V.bool false::V.bool false::x0::x1::x2::x3::x4::x5::le) s))) ∧
 ((∀ g r s t le,(zbc g).run r t (.bool true::le) s=za 5 (gp 1 t) fun v11=>xLoad false 1 v11 s fun v12 s=>xBin ⟨9,[]⟩ false .leq v12 (V.nat .i64 20) fun v13=>g.run r t (v13::v12::v11::.bool true::le) s) ∧
 (∀ g r s t le,(zbc g).run r t (.bool false::le) s=g.run r t (Go.Ev.undef::Go.Ev.undef::Go.Ev.undef::.bool false::le) s))) ∧
 (((∀ g r s t le x0 x1 x2 x3,(zgO g).run r t (x0::x1::x2::x3::le) s=xPick x3 (fun _=>g.run r (sp 7 x0 t) (x0::x0::x0::x1::x2::x3::le) s) (fun _=>g.run r (sp 7 (V.bool false) t) (V.bool false::V.bool false::x0::x1::x2::x3::le) s)) ∧
 (∀ g r s t le,(zj6 g).run r t (le) s=za 0 (gp 1 t) fun v0=>xLoad false 1 v0 s fun v1 s=>xBin ⟨7,[]⟩ true .eql v1 (V.nat .i64 10) fun v2=>g.run r t (v2::v2::v1::v0::le) s)) ∧
 ((∀ g r s t le,(zdd g).run r t (.bool true::le) s=xUn .not (gp 7 t) fun v5=>g.run r t (v5::gp 7 t::.bool true::le) s) ∧
 ((∀ g r s t le,(zdd g).run r t (.bool false::le) s=g.run r t (Go.Ev.undef::Go.Ev.undef::.bool false::le) s) ∧
 (∀ g r s t le x0 x1 x2,(zk4 g).run r t (x0::x1::x2::le) s=xPick x2 (fun _=>g.run r t (x0::x0::x0::x1::x2::le) s) (fun _=>g.run r t (V.bool false::V.bool false::x0::x1::x2::le) s))))))) ∧
 (((((∀ g r s t le,(zcQ g).run r t (.bool true::le) s=g.run r t (Go.Ev.undef::Go.Ev.undef::Go.Ev.undef::Go.Ev.undef::.bool true::le) s) ∧
 (∀ g r s t le,(zcQ g).run r t (.bool false::le) s=za 0 (gp 1 t) fun v8=>xLoad false 1 v8 s fun v9 s=>xBin ⟨7,[]⟩ true .neq v9 (V.nat .i64 10) fun v10=>g.run r t (v10::v10::v9::v8::.bool false::le) s)) ∧
 ((∀ g r s t le,(wb g).run r t (.bool true::le) s=za 4 (gp 1 t) fun v12=>xLoad false 1 v12 s fun v13 s=>xBin ⟨7,[]⟩ true .neq v13 (V.nat .i64 0) fun v14=>g.run r t (v14::v14::v13::v12::.bool true::le) s) ∧
 (∀ g r s t le,(wb g).run r t (.bool false::le) s=g.run r t (Go.Ev.undef::Go.Ev.undef::Go.Ev.undef::Go.Ev.undef::.bool false::le) s))) ∧
 (((∀ g r s t le,(wb g).run r t (Go.Ev.undef::le) s=g.run r t (Go.Ev.undef::Go.Ev.undef::Go.Ev.undef::Go.Ev.undef::Go.Ev.undef::le) s) ∧
 (∀ g r s t le,(wa g).run r t (.bool true::le) s=g.run r t (Go.Ev.undef::Go.Ev.undef::Go.Ev.undef::.bool true::le) s)) ∧
 ((∀ g r s t le,(wa g).run r t (.bool false::le) s=za 5 (gp 1 t) fun v16=>xLoad false 1 v16 s fun v17 s=>xBin ⟨7,[]⟩ true .neq v17 (V.nat .i64 0) fun v18=>g.run r t (v18::v17::v16::.bool false::le) s) ∧
 ((∀ g r s t le,(wa g).run r t (Go.Ev.undef::le) s=g.run r t (Go.Ev.undef::Go.Ev.undef::Go.Ev.undef::Go.Ev.undef::le) s) ∧
 (∀ g r s t le x0 x1 x2 x3 x4 x5 x6,(jY g).run r t (x0::x1::x2::x3::x4::x5::x6::.bool true::le) s=xPick x3 (fun _=>g.run r t (V.bool true::x0::x1::x2::x3::x4::x5::x6::.bool true::le) s) (fun _=>g.run r t (x0::x0::x1::x2::x3::x4::x5::x6::.bool true::le) s)))))) ∧
 ((((∀ g r s t le x0 x1 x2 x3 x4 x5 x6,(jY g).run r t (x0::x1::x2::x3::x4::x5::x6::.bool false::le) s=g.run r t (Go.Ev.undef::x0::x1::x2::x3::x4::x5::x6::.bool false::le) s) ∧
 (∀ g r s t le x0 x1 x2 x3 x4 x5 x6,(jY g).run r t (x0::x1::x2::x3::x4::x5::x6::Go.Ev.undef::le) s=g.run r t (Go.Ev.undef::x0::x1::x2::x3::x4::x5::x6::Go.Ev.undef::le) s)) ∧
 ((∀ g r s t le x0 x1 x2 x3 x4 x5 x6 x7 x8 x9 x10 x11,(zbv g).run r t (x0::x1::x2::x3::x4::x5::x6::x7::x8::x9::x10::x11::.bool true::le) s=g.run r t (Go.Ev.undef::x0::x1::x2::x3::x4::x5::x6::x7::x8::x9::x10::x11::.bool true::le) s) ∧
 (∀ g r s t le x0 x1 x2 x3 x4 x5 x6 x7 x8 x9 x10 x11,(zbv g).run r t (x0::x1::x2::x3::x4::x5::x6::x7::x8::x9::x10::x11::.bool false::le) s=xPick x8 (fun _=>g.run r t (x0::x0::x1::x2::x3::x4::x5::x6::x7::x8::x9::x10::x11::.bool false::le) s) (fun _=>g.run r t (V.bool false::x0::x1::x2::x3::x4::x5::x6::x7::x8::x9::x10::x11::.bool false::le) s)))) ∧
 (((∀ g r s t le x0 x1 x2 x3 x4 x5 x6 x7 x8 x9 x10 x11 x12 x13,(zgs g).run r t (x0::x1::x2::x3::x4::x5::x6::x7::x8::x9::x10::x11::x12::x13::le) s=xPick x13 (fun _=>g.run r (sp 10 (V.bool true) t) (V.bool true::x0::x1::x2::x3::x4::x5::x6::x7::x8::x9::x10::x11::x12::x13::le) s) (fun _=>g.run r (sp 10 x0 t) (x0::x0::x1::x2::x3::x4::x5::x6::x7::x8::x9::x10::x11::x12::x13::le) s)) ∧
 (∀ g r s t le,(ziy g).run r t (le) s=za 3 (gp 1 t) fun v0=>xLoad false 1 v0 s fun v1 s=>foldF (r.call 197 [v1] s) fun v2 s=>g.run r t (v2::v2::v1::v0::le) s)) ∧
 ((∀ g r s t le,(zc3 g).run r t (.bool true::le) s=za 3 (gp 1 t) fun v4=>xLoad false 1 v4 s fun v5 s=>zC2 v5 (V.nat .i64 0) fun v6=>xBin ⟨7,[]⟩ true .neq v6 (V.nat .u8 45) fun v7=>g.run r t (v7::v6::v5::v4::.bool true::le) s) ∧
 ((∀ g r s t le,(zc3 g).run r t (.bool false::le) s=g.run r t (Go.Ev.undef::Go.Ev.undef::Go.Ev.undef::Go.Ev.undef::.bool false::le) s) ∧
 (∀ g r s t le x0 x1 x2 x3 x4,(zjT g).run r t (x0::x1::x2::x3::x4::le) s=xPick x4 (fun _=>g.run r (sp 2 x0 t) (x0::x0::x0::x1::x2::x3::x4::le) s) (fun _=>g.run r (sp 2 (V.bool false) t) (V.bool false::V.bool false::x0::x1::x2::x3::x4::le) s))))))))):=by
 and_intros<;>(intros;kernel_rfl)
theorem zvk:∀ r s t,zBU.run r t s=zk 7 (gp 0 t) fun l0=>Go.Ev.newRow s 35 l0 false fun a0k _ s=>.nrm (sp 2 (V.bool false) (sp 1 (V.ptr a0k 0 0) t)) s:=reg1 2
theorem zsx:∀ r s t,zCO.run r t s=za 0 (gp 1 t) fun v0=>xLoad false 1 v0 s fun v1 s=>foldF (r.call 196 [v1] s) fun v2 s=>z7 0 v2 fun v4=>z7 1 v2 fun v5=>z7 2 v2 fun v6=>.nrm (sp 5 v6 (sp 4 v5 (sp 3 v4 t))) s:=reg1 10
theorem zwh:∀ r s t,zyg.run r t s=(zm8 (zet (zmT (zcu (zlt nilL))))).run r t [] s:=zt (by kernel_rfl) (chS rfl (by kernel_rfl) (chS rfl (by kernel_rfl) (chS rfl (by kernel_rfl) (chS rfl (by kernel_rfl) chL))))
theorem zv6:∀ r s t,zBz.run r t s=.nrm (sp 2 (V.bool false) t) s:=reg1 1
theorem zpx:∀ r s t,zuD.run r t s=(zk2 (zcA (zkm (zct (zgh (zbj (zgT (zby (zhk nilL))))))))).run r t [] s:=zt (by kernel_rfl) (chS rfl (by kernel_rfl) (chS rfl (by kernel_rfl) (chS rfl (by kernel_rfl) (chS rfl (by kernel_rfl) (chS rfl (by kernel_rfl) (chS rfl (by kernel_rfl) (chS rfl (by kernel_rfl) (chS rfl (by kernel_rfl) chL))))))))
theorem zqv:∀ r s t,zwJ.run r t s=(zkS (zde (zkP (zcM (j5 (jV (j9 (zbm (zgx nilL))))))))).run r t [] s:=zt (by kernel_rfl) (chS rfl (by kernel_rfl) (chS rfl (by kernel_rfl) (chS rfl (by kernel_rfl) (chS rfl (by kernel_rfl) (chS rfl (by kernel_rfl) (chS rfl (by kernel_rfl) (chS rfl (by kernel_rfl) (chS rfl (by kernel_rfl) chL))))))))
theorem zmJ:∀ r s t,zr2.run r t s=.nrm (sp 2 (V.bool false) t) s:=reg1 1
theorem zpm:∀ r s t,zxE.run r t s=(ziT (zc8 (zik (zbc (zgO nilL))))).run r t [] s:=zt (by kernel_rfl) (chS rfl (by kernel_rfl) (chS rfl (by kernel_rfl) (chS rfl (by kernel_rfl) (chS rfl (by kernel_rfl) chL))))
theorem zne:∀ r s t,zrd.run r t s=(zj6 (zdd (zk4 (zcQ (wb (wa (jY (zbv (zgs nilL))))))))).run r t [] s:=zt (by kernel_rfl) (chS rfl (by kernel_rfl) (chS rfl (by kernel_rfl) (chS rfl (by kernel_rfl) (chS rfl (by kernel_rfl) (chS rfl (by kernel_rfl) (chS rfl (by kernel_rfl) (chS rfl (by kernel_rfl) (chS rfl (by kernel_rfl) chL))))))))
theorem zp2:∀ r s t,zw1.run r t s=.nrm (sp 2 (V.bool false) t) s:=reg1 1
theorem zoZ:∀ r s t,zrG.run r t s=za 0 (gp 1 t) fun v0=>xLoad false 1 v0 s fun v1 s=>xBin ⟨7,[]⟩ true .neq v1 (V.nat .i64 20) fun v2=>.nrm (sp 11 v2 t) s:=reg1 3
theorem zm5:∀ r s t,zv7.run r t s=za 3 (gp 1 t) fun v0=>xLoad false 1 v0 s fun v1 s=>xBin ⟨8,[]⟩ true .eql v1 (V.str []) fun v2=>.nrm (sp 2 v2 t) s:=reg1 4
theorem znZ:∀ r s t,zxe.run r t s=(ziy (zc3 (zjT nilL))).run r t [] s:=zt (by kernel_rfl) (chS rfl (by kernel_rfl) (chS rfl (by kernel_rfl) chL))
theorem zl9:type_of% (aI zvk <| aI zsx <| aI zwh <| aI zv6 <| aI zpx <| aI zqv <| aI zmJ <| aI zpm <| aI zne <| aI zp2 <| aI zoZ <| aI zm5 <| aI znZ <| zEj):=aI zvk <| aI zsx <| aI zwh <| aI zv6 <| aI zpx <| aI zqv <| aI zmJ <| aI zpm <| aI zne <| aI zp2 <| aI zoZ <| aI zm5 <| aI znZ <| zEj
def zbW:FI:=⟨33519488,25,4⟩
def zew:=zA Tryz.prog 196
def zZ (l:List Nat):=comp pc0 zbW (subC l zew)
def zuZ:=zZ [0]
def zwy:=zZ [1,0,0]
def zsg:=zZ [1,0,1,0,0,0]
def zn5:=zZ [1,0,1,0,0,1,1,0]
def zpB:=zZ [1,0,1,0,0,1,1,1,1,0]
def zpz:=zZ [1,0,1,0,0,1,1,1,1,1,1]
def zqR:=zZ [1,0,1,0,1,0,0]
def zo1:=zZ [1,0,1,0,1,1,0,0]
def zqD:=zZ [1,0,1,0,1,1,0,1,1,0]
def zoc:=zZ [1,0,1,0,1,1,0,1,1,1,1]
def zpi:=zZ [1,0,1,0,1,1,1,0,0]
def zoN:=zZ [1,0,1,0,1,1,1,1,0,0]
def znC:=zZ [1,0,1,0,1,1,1,1,0,1,1,0]
def zqa:=zZ [1,0,1,0,1,1,1,1,0,1,1,1,1]
def zqf:=zZ [1,0,1,0,1,1,1,1,1,0,0]
def znR:=subC [1,1,0] zew
def zp1:=comp pc0 zbW znR
def zbu:=qOf pc0 zbW znR
def zhp:=zbu 5 4 (dn 24 5)
def zbD:=zbu 3 2 [22,21,20]
def zgo:=zbu 0 3 []
def zup:=comp pc0 zbW zew
def zva:=finN (resC pc0 zbW (resOf Tryz.prog 196)).run
theorem zyQ :
 (((∀ r s x0,(fnC pc0 196).run r [x0] s=outF (bindR (fun t s=>zva t s) (zup.run r (sp 0 x0 T.new) s))) ∧
 ((∀ s t,zva t s=finV (gp 240 t) (resV [gp 2 t,gp 3 t,gp 4 t] s)) ∧
 (∀ r s t,zup.run r t s=seqA (fun t s=>seqA (fun t s=>seqA (fun t s=>.ret t s) (zp1.run r t s)) (seqA (fun t s=>zh 0 (seqA (fun t s=>condV (gp 6 t) (seqA (fun t s=>.ret t s) (zqR.run r t s)) (seqA (fun t s=>condV (gp 7 t) (seqA (fun t s=>.ret t s) (zpi.run r t s)) (seqA (fun t s=>condV (gp 8 t) (seqA (fun t s=>.ret t s) (zqf.run r t s)) (.nrm t s)) (seqA (fun t s=>condV (gp 8 t) (.nrm t s) (seqA (fun t s=>condV (gp 8 t) (.nrm t s) (zqa.run r t s)) (znC.run r t s))) (zoN.run r t s)))) (seqA (fun t s=>condV (gp 7 t) (.nrm t s) (seqA (fun t s=>condV (gp 7 t) (.nrm t s) (zoc.run r t s)) (zqD.run r t s))) (zo1.run r t s)))) (seqA (fun t s=>condV (gp 6 t) (.nrm t s) (seqA (fun t s=>condV (gp 6 t) (.nrm t s) (seqA (fun t s=>condV (gp 6 t) (.nrm t s) (zpz.run r t s)) (zpB.run r t s))) (zn5.run r t s))) (zsg.run r t s)))) (zwy.run r t s))) (zuZ.run r t s)))) ∧
 (((∀ g r s t le,(zgo g).run r t (le) s=xBin ⟨9,[]⟩ false .geq (gp 0 t) (V.nat .i64 1) fun v1=>g.run r t (v1::v1::gp 0 t::le) s) ∧
 (∀ g r s t le,(zbD g).run r t (.bool true::le) s=xBin ⟨9,[]⟩ false .leq (gp 0 t) (V.nat .i64 20) fun v4=>g.run r t (v4::gp 0 t::.bool true::le) s)) ∧
 ((∀ g r s t le,(zbD g).run r t (.bool false::le) s=g.run r t (Go.Ev.undef::Go.Ev.undef::.bool false::le) s) ∧
 (∀ g r s t le x0 x1 x2,(zhp g).run r t (x0::x1::x2::le) s=xPick x2 (fun _=>g.run r (sp 4 x0 (sp 3 (V.nat .i64 1) (sp 2 (V.nat .i64 1) t))) (x0::V.nat .i64 1::V.nat .i64 1::x0::x0::x1::x2::le) s) (fun _=>g.run r (sp 4 (V.bool false) (sp 3 (V.nat .i64 1) (sp 2 (V.nat .i64 1) t))) (V.bool false::V.nat .i64 1::V.nat .i64 1::V.bool false::x0::x1::x2::le) s))))):=by
 and_intros<;>(intros;kernel_rfl)
theorem zo0:∀ r s t,zuZ.run r t s=.nrm (sp 4 (V.bool false) (sp 3 (V.nat .i64 0) (sp 2 (V.nat .i64 0) t))) s:=reg1 3
theorem zpj:∀ r s t,zwy.run r t s=.nrm (sp 5 (gp 0 t) t) s:=reg1 1
theorem zng:∀ r s t,zsg.run r t s=xBin ⟨7,[]⟩ true .eql (gp 5 t) (V.nat .i64 1) fun v0=>.nrm (sp 6 v0 t) s:=reg1 2
theorem zjm:∀ r s t,zn5.run r t s=xBin ⟨7,[]⟩ true .eql (gp 5 t) (V.nat .i64 2) fun v0=>.nrm (sp 6 v0 t) s:=reg1 2
theorem zlm:∀ r s t,zpB.run r t s=xBin ⟨7,[]⟩ true .eql (gp 5 t) (V.nat .i64 3) fun v0=>.nrm (sp 6 v0 t) s:=reg1 2
theorem zjB:∀ r s t,zpz.run r t s=xBin ⟨7,[]⟩ true .eql (gp 5 t) (V.nat .i64 4) fun v0=>.nrm (sp 6 v0 t) s:=reg1 2
theorem zkK:∀ r s t,zqR.run r t s=.nrm (sp 4 (V.bool true) (sp 3 (V.nat .i64 0) (sp 2 (V.nat .i64 0) t))) s:=reg1 3
theorem zih:∀ r s t,zo1.run r t s=xBin ⟨7,[]⟩ true .eql (gp 5 t) (V.nat .i64 5) fun v0=>.nrm (sp 7 v0 t) s:=reg1 2
theorem zka:∀ r s t,zqD.run r t s=xBin ⟨7,[]⟩ true .eql (gp 5 t) (V.nat .i64 6) fun v0=>.nrm (sp 7 v0 t) s:=reg1 2
theorem zig:∀ r s t,zoc.run r t s=xBin ⟨7,[]⟩ true .eql (gp 5 t) (V.nat .i64 13) fun v0=>.nrm (sp 7 v0 t) s:=reg1 2
theorem zkH:∀ r s t,zpi.run r t s=.nrm (sp 4 (V.bool true) (sp 3 (V.nat .i64 500) (sp 2 (V.nat .i64 2) t))) s:=reg1 3
theorem zkf:∀ r s t,zoN.run r t s=xBin ⟨7,[]⟩ true .eql (gp 5 t) (V.nat .i64 11) fun v0=>.nrm (sp 8 v0 t) s:=reg1 2
theorem ziB:∀ r s t,znC.run r t s=xBin ⟨7,[]⟩ true .eql (gp 5 t) (V.nat .i64 12) fun v0=>.nrm (sp 8 v0 t) s:=reg1 2
theorem zil:∀ r s t,zqa.run r t s=xBin ⟨7,[]⟩ true .eql (gp 5 t) (V.nat .i64 14) fun v0=>.nrm (sp 8 v0 t) s:=reg1 2
theorem zlG:∀ r s t,zqf.run r t s=.nrm (sp 4 (V.bool true) (sp 3 (V.nat .i64 2) (sp 2 (V.nat .i64 2) t))) s:=reg1 3
theorem zjC:∀ r s t,zp1.run r t s=(zgo (zbD (zhp nilL))).run r t [] s:=zt (by kernel_rfl) (chS rfl (by kernel_rfl) (chS rfl (by kernel_rfl) chL))
theorem zIj:type_of% (aI zo0 <| aI zpj <| aI zng <| aI zjm <| aI zlm <| aI zjB <| aI zkK <| aI zih <| aI zka <| aI zig <| aI zkH <| aI zkf <| aI ziB <| aI zil <| aI zlG <| aI zjC <| zyQ):=aI zo0 <| aI zpj <| aI zng <| aI zjm <| aI zlm <| aI zjB <| aI zkK <| aI zih <| aI zka <| aI zig <| aI zkH <| aI zkf <| aI ziB <| aI zil <| aI zlG <| aI zjC <| zyQ

end
end Go.Proofs.YtlklljjppambpaaGreatDoor.oev
