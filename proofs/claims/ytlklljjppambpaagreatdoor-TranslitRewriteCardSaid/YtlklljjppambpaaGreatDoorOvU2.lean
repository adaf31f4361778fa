/- What the evaluator makes of the functions that the statements reach: one equation for each run of operations, by the kernel. No statement of the seat stands here. No condition. By an AI agent. -/
import Derived.Test.YtlklljjppambpaaGreatDoorOvW
import Derived.Test.YtlklljjppambpaaGreatDoorProg
import Derived.KernelRfl
namespace Go.Proofs.YtlklljjppambpaaGreatDoor.oev
open Go.Ev Go.Proofs
set_option maxRecDepth 100000
noncomputable section
def qy:FI:=⟨40564818602692856525040285376512,105,4⟩
def yS:=zA Tryz.prog 4
def jg (l:List Nat):=comp pc0 qy (subC l yS)
def zmM:=jg [0]
def znz:=subC [1,0,0] yS
def zn7:=comp pc0 qy znz
def zG:=qOf pc0 qy znz
def zeo:=zG 36 1 (dn 49 36)
def zah:=zG 32 4 (dn 45 32)
def zed:=zG 30 2 (dn 43 30)
def zae:=zG 27 3 (dn 40 27)
def zeB:=zG 25 2 (dn 38 25)
def zaB:=zG 22 3 (dn 35 22)
def zdL:=zG 20 2 (dn 33 20)
def zaw:=zG 16 4 (dn 29 16)
def zeu:=zG 14 2 (dn 27 14)
def zaH:=zG 12 2 (dn 25 12)
def zdM:=zG 10 2 (dn 23 10)
def zbf:=zG 8 2 (dn 21 8)
def zgY:=zG 6 2 (dn 19 6)
def zbp:=zG 3 3 [16,15,14]
def zgM:=zG 0 3 []
def zn6:=jg [1,0,1,0,0]
def zjc:=jg [1,1,0]
def zjd:=jg [1,1,1,0]
def zkk:=subC [1,1,1,1,0,0] yS
def zjg:=comp pc0 qy zkk
def zau:=qOf pc0 qy zkk
def zev:=zau 5 1 (dn 67 5)
def zak:=zau 3 2 [65,64,63]
def zd1:=zau 0 3 []
def zlr:=subC [1,1,1,1,0,1,0,0] yS
def zjN:=comp pc0 qy zlr
def yw:=qOf pc0 qy zlr
def zeY:=yw 8 2 (dn 76 8)
def wY:=yw 7 1 (dn 75 7)
def zei:=yw 5 2 (dn 73 5)
def zao:=yw 3 2 [71,70,69]
def ze1:=yw 0 3 []
def zkw:=jg [1,1,1,1,1,0,0]
def zj7:=jg [1,1,1,1,1,0,1,0,0]
def zld:=jg [1,1,1,1,1,1,0]
def zk8:=subC [1,1,1,1,1,1,1,0] yS
def zkh:=comp pc0 qy zk8
def qu:=qOf pc0 qy zk8
def zdz:=qu 17 2 (dn 104 17)
def wv:=qu 16 1 (dn 103 16)
def zdB:=qu 14 2 (dn 101 14)
def zaj:=qu 8 6 (dn 95 8)
def zfb:=qu 6 2 (dn 93 6)
def zaK:=qu 3 3 [90,89,88]
def zer:=qu 0 3 []
def znY:=comp pc0 qy yS
def znj:=finN (resC pc0 qy (resOf Tryz.prog 4)).run
theorem zur :
 ((((((∀ r s x0 x1 x2,(fnC pc0 4).run r [x0,x1,x2] s=outF (bindR (fun t s=>znj t s) (znY.run r (sp 2 x2 (sp 1 x1 (sp 0 x0 T.new))) s))) ∧
 (∀ s t,znj t s=finV (gp 240 t) (resV [gp 6 t] s))) ∧
 ((∀ r s t,znY.run r t s=seqA (fun t s=>seqA (fun t s=>seqA (fun t s=>seqA (fun t s=>seqA (fun t s=>seqA (fun t s=>seqA (fun t s=>seqA (fun t s=>.ret t s) (zkh.run r t s)) (zld.run r t s)) (seqA (fun t s=>condV (gp 15 t) (seqA (fun t s=>.ret t s) (zj7.run r t s)) (.nrm t s)) (zkw.run r t s))) (seqA (fun t s=>condV (gp 14 t) (seqA (fun t s=>.ret t s) (zjN.run r t s)) (.nrm t s)) (zjg.run r t s))) (zjd.run r t s)) (zjc.run r t s)) (seqA (fun t s=>condV (gp 13 t) (seqA (fun t s=>.ret t s) (zn6.run r t s)) (.nrm t s)) (zn7.run r t s))) (zmM.run r t s)) ∧
 ((∀ g r s t le,(zgM g).run r t (le) s=foldF (r.call 7 [gp 0 t] s) fun v1 s=>g.run r t (v1::v1::gp 0 t::le) s) ∧
 (∀ g r s t le,(zbp g).run r t (.bool true::le) s=g.run r t (Go.Ev.undef::Go.Ev.undef::Go.Ev.undef::.bool true::le) s)))) ∧
 (((∀ g r s t le,(zbp g).run r t (.bool false::le) s=foldF (r.call 9 [gp 0 t] s) fun v4 s=>xUn .not v4 fun v5=>g.run r t (v5::v4::gp 0 t::.bool false::le) s) ∧
 ((∀ g r s t le x0 x1 x2 x3,(zgY g).run r t (x0::x1::x2::x3::le) s=xPick x3 (fun _=>g.run r t (V.bool true::V.bool true::x0::x1::x2::x3::le) s) (fun _=>g.run r t (x0::x0::x0::x1::x2::x3::le) s)) ∧
 (∀ g r s t le,(zbf g).run r t (.bool true::le) s=g.run r t (Go.Ev.undef::Go.Ev.undef::.bool true::le) s))) ∧
 ((∀ g r s t le,(zbf g).run r t (.bool false::le) s=xBin ⟨9,[]⟩ false .lss (gp 1 t) (V.nat .i64 1) fun v9=>g.run r t (v9::gp 1 t::.bool false::le) s) ∧
 ((∀ g r s t le x0 x1 x2,(zdM g).run r t (x0::x1::x2::le) s=xPick x2 (fun _=>g.run r t (V.bool true::V.bool true::x0::x1::x2::le) s) (fun _=>g.run r t (x0::x0::x0::x1::x2::le) s)) ∧
 (∀ g r s t le,(zaH g).run r t (.bool true::le) s=g.run r t (Go.Ev.undef::Go.Ev.undef::.bool true::le) s))))) ∧
 ((((∀ g r s t le,(zaH g).run r t (.bool false::le) s=xBin ⟨9,[]⟩ false .gtr (gp 1 t) (V.nat .i64 10) fun v13=>g.run r t (v13::gp 1 t::.bool false::le) s) ∧
 ((∀ g r s t le x0 x1 x2,(zeu g).run r t (x0::x1::x2::le) s=xPick x2 (fun _=>g.run r t (V.bool true::V.bool true::x0::x1::x2::le) s) (fun _=>g.run r t (x0::x0::x0::x1::x2::le) s)) ∧
 (∀ g r s t le,(zaw g).run r t (.bool true::le) s=g.run r t (Go.Ev.undef::Go.Ev.undef::Go.Ev.undef::Go.Ev.undef::.bool true::le) s))) ∧
 ((∀ g r s t le,(zaw g).run r t (.bool false::le) s=foldF (r.call 10 [gp 0 t,gp 1 t] s) fun v18 s=>xUn .not v18 fun v19=>g.run r t (v19::v18::gp 1 t::gp 0 t::.bool false::le) s) ∧
 ((∀ g r s t le x0 x1 x2 x3 x4,(zdL g).run r t (x0::x1::x2::x3::x4::le) s=xPick x4 (fun _=>g.run r t (V.bool true::V.bool true::x0::x1::x2::x3::x4::le) s) (fun _=>g.run r t (x0::x0::x0::x1::x2::x3::x4::le) s)) ∧
 (∀ g r s t le,(zaB g).run r t (.bool true::le) s=g.run r t (Go.Ev.undef::Go.Ev.undef::Go.Ev.undef::.bool true::le) s)))) ∧
 (((∀ g r s t le,(zaB g).run r t (.bool false::le) s=xLenS (gp 2 t) fun v23=>xBin ⟨9,[]⟩ false .gtr v23 (V.nat .i64 8) fun v24=>g.run r t (v24::v23::gp 2 t::.bool false::le) s) ∧
 ((∀ g r s t le x0 x1 x2 x3,(zeB g).run r t (x0::x1::x2::x3::le) s=xPick x3 (fun _=>g.run r t (V.bool true::V.bool true::x0::x1::x2::x3::le) s) (fun _=>g.run r t (x0::x0::x0::x1::x2::x3::le) s)) ∧
 (∀ g r s t le,(zae g).run r t (.bool true::le) s=g.run r t (Go.Ev.undef::Go.Ev.undef::Go.Ev.undef::.bool true::le) s))) ∧
 ((∀ g r s t le,(zae g).run r t (.bool false::le) s=foldF (r.call 14 [gp 2 t] s) fun v28 s=>xUn .not v28 fun v29=>g.run r t (v29::v28::gp 2 t::.bool false::le) s) ∧
 ((∀ g r s t le x0 x1 x2 x3,(zed g).run r t (x0::x1::x2::x3::le) s=xPick x3 (fun _=>g.run r t (V.bool true::V.bool true::x0::x1::x2::x3::le) s) (fun _=>g.run r t (x0::x0::x0::x1::x2::x3::le) s)) ∧
 (∀ g r s t le,(zah g).run r t (.bool true::le) s=g.run r t (Go.Ev.undef::Go.Ev.undef::Go.Ev.undef::Go.Ev.undef::.bool true::le) s)))))) ∧
 (((((∀ g r s t le,(zah g).run r t (.bool false::le) s=foldF (r.call 15 [gp 2 t,gp 1 t] s) fun v34 s=>xUn .not v34 fun v35=>g.run r t (v35::v34::gp 1 t::gp 2 t::.bool false::le) s) ∧
 (∀ g r s t le x0 x1 x2 x3 x4,(zeo g).run r t (x0::x1::x2::x3::x4::le) s=xPick x4 (fun _=>g.run r (sp 13 (V.bool true) t) (V.bool true::x0::x1::x2::x3::x4::le) s) (fun _=>g.run r (sp 13 x0 t) (x0::x0::x1::x2::x3::x4::le) s))) ∧
 ((∀ g r s t le,(zd1 g).run r t (le) s=xBin ⟨7,[]⟩ true .neq (gp 8 t) (V.nat .i64 0) fun v1=>g.run r t (v1::v1::gp 8 t::le) s) ∧
 ((∀ g r s t le,(zak g).run r t (.bool true::le) s=g.run r t (Go.Ev.undef::Go.Ev.undef::.bool true::le) s) ∧
 (∀ g r s t le,(zak g).run r t (.bool false::le) s=xBin ⟨7,[]⟩ true .neq (gp 10 t) (V.nat .i64 0) fun v4=>g.run r t (v4::gp 10 t::.bool false::le) s)))) ∧
 (((∀ g r s t le x0 x1 x2,(zev g).run r t (x0::x1::x2::le) s=xPick x2 (fun _=>g.run r (sp 14 (V.bool true) t) (V.bool true::x0::x1::x2::le) s) (fun _=>g.run r (sp 14 x0 t) (x0::x0::x1::x2::le) s)) ∧
 ((∀ g r s t le,(ze1 g).run r t (le) s=xBin ⟨7,[]⟩ true .eql (gp 8 t) (V.nat .i64 0) fun v1=>g.run r t (v1::v1::gp 8 t::le) s) ∧
 (∀ g r s t le,(zao g).run r t (.bool true::le) s=xBin ⟨7,[]⟩ true .eql (gp 10 t) (V.nat .i64 2) fun v4=>g.run r t (v4::gp 10 t::.bool true::le) s))) ∧
 ((∀ g r s t le,(zao g).run r t (.bool false::le) s=g.run r t (Go.Ev.undef::Go.Ev.undef::.bool false::le) s) ∧
 ((∀ g r s t le x0 x1 x2,(zei g).run r t (x0::x1::x2::le) s=xPick x2 (fun _=>g.run r t (x0::x0::x0::x1::x2::le) s) (fun _=>g.run r t (V.bool false::V.bool false::x0::x1::x2::le) s)) ∧
 (∀ g r s t le,(wY g).run r t (.bool true::le) s=foldF (r.call 8 [] s) fun v7 s=>g.run r t (v7::.bool true::le) s))))) ∧
 ((((∀ g r s t le,(wY g).run r t (.bool false::le) s=g.run r t (Go.Ev.undef::.bool false::le) s) ∧
 ((∀ g r s t le x0 x1,(zeY g).run r t (x0::x1::le) s=xPick x1 (fun _=>g.run r (sp 6 x0 t) (x0::x0::x0::x1::le) s) (fun _=>g.run r (sp 6 (V.bool false) t) (V.bool false::V.bool false::x0::x1::le) s)) ∧
 (∀ g r s t le,(zer g).run r t (le) s=xBin ⟨7,[]⟩ true .eql (gp 12 t) (V.nat .i64 0) fun v1=>g.run r t (v1::v1::gp 12 t::le) s))) ∧
 ((∀ g r s t le,(zaK g).run r t (.bool true::le) s=xLenS (gp 11 t) fun v4=>xBin ⟨7,[]⟩ true .eql v4 (V.nat .i64 1) fun v5=>g.run r t (v5::v4::gp 11 t::.bool true::le) s) ∧
 ((∀ g r s t le,(zaK g).run r t (.bool false::le) s=g.run r t (Go.Ev.undef::Go.Ev.undef::Go.Ev.undef::.bool false::le) s) ∧
 (∀ g r s t le x0 x1 x2 x3,(zfb g).run r t (x0::x1::x2::x3::le) s=xPick x3 (fun _=>g.run r t (x0::x0::x0::x1::x2::x3::le) s) (fun _=>g.run r t (V.bool false::V.bool false::x0::x1::x2::x3::le) s))))) ∧
 (((∀ g r s t le,(zaj g).run r t (.bool true::le) s=zb 1 (gp 11 t) (V.nat .i64 0) fun v9=>xLoad false 1 v9 s fun v10 s=>foldF (r.call 20 [v10,gp 9 t] s) fun v12 s=>xBin ⟨7,[]⟩ true .eql v12 (V.nat .i64 0) fun v13=>g.run r t (v13::v12::gp 9 t::v10::v9::gp 11 t::.bool true::le) s) ∧
 ((∀ g r s t le,(zaj g).run r t (.bool false::le) s=g.run r t (Go.Ev.undef::Go.Ev.undef::Go.Ev.undef::Go.Ev.undef::Go.Ev.undef::Go.Ev.undef::.bool false::le) s) ∧
 (∀ g r s t le x0 x1 x2 x3 x4 x5 x6,(zdB g).run r t (x0::x1::x2::x3::x4::x5::x6::le) s=xPick x6 (fun _=>g.run r t (x0::x0::x0::x1::x2::x3::x4::x5::x6::le) s) (fun _=>g.run r t (V.bool false::V.bool false::x0::x1::x2::x3::x4::x5::x6::le) s)))) ∧
 ((∀ g r s t le,(wv g).run r t (.bool true::le) s=foldF (r.call 8 [] s) fun v16 s=>g.run r t (v16::.bool true::le) s) ∧
 ((∀ g r s t le,(wv g).run r t (.bool false::le) s=g.run r t (Go.Ev.undef::.bool false::le) s) ∧
 (∀ g r s t le x0 x1,(zdz g).run r t (x0::x1::le) s=xPick x1 (fun _=>g.run r (sp 6 x0 t) (x0::x0::x0::x1::le) s) (fun _=>g.run r (sp 6 (V.bool false) t) (V.bool false::V.bool false::x0::x1::le) s)))))))):=by
 and_intros<;>(intros;kernel_rfl)
theorem ziX:∀ r s t,zmM.run r t s=.nrm (sp 6 (V.bool false) t) s:=reg1 1
theorem zj8:∀ r s t,zn7.run r t s=(zgM (zbp (zgY (zbf (zdM (zaH (zeu (zaw (zdL (zaB (zeB (zae (zed (zah (zeo nilL))))))))))))))).run r t [] s:=zt (by kernel_rfl) (chS rfl (by kernel_rfl) (chS rfl (by kernel_rfl) (chS rfl (by kernel_rfl) (chS rfl (by kernel_rfl) (chS rfl (by kernel_rfl) (chS rfl (by kernel_rfl) (chS rfl (by kernel_rfl) (chS rfl (by kernel_rfl) (chS rfl (by kernel_rfl) (chS rfl (by kernel_rfl) (chS rfl (by kernel_rfl) (chS rfl (by kernel_rfl) (chS rfl (by kernel_rfl) (chS rfl (by kernel_rfl) chL))))))))))))))
theorem zk6:∀ r s t,zn6.run r t s=foldF (r.call 8 [] s) fun v0 s=>.nrm (sp 6 v0 t) s:=reg1 2
theorem zgA:∀ r s t,zjc.run r t s=foldF (r.call 16 [gp 0 t] s) fun v1 s=>z7 0 v1 fun v3=>z7 1 v1 fun v4=>Go.Ev.newRow s 37 [V.nat .i64 0,V.nil 1,V.nat .i64 0,V.nat .i64 0,V.nat .i64 0,V.str [],V.nat .i64 0,V.nat .i64 0,V.nil 1,V.nat .i64 0,V.nat .i64 0,V.nat .i64 0,V.str [],V.nat .i64 0,V.nat .i64 0,V.nil 1] false fun a5k _ s=>zK 16 (V.ptr a5k 0 0) v3 s fun _ s=>.nrm (sp 8 v4 (sp 7 (V.ptr a5k 0 0) t)) s:=reg1 8
theorem zgi:∀ r s t,zjd.run r t s=foldF (r.call 17 [gp 0 t,gp 2 t] s) fun v2 s=>z7 0 v2 fun v4=>z7 1 v2 fun v5=>.nrm (sp 10 v5 (sp 9 v4 t)) s:=reg1 8
theorem zg2:∀ r s t,zjg.run r t s=(zd1 (zak (zev nilL))).run r t [] s:=zt (by kernel_rfl) (chS rfl (by kernel_rfl) (chS rfl (by kernel_rfl) chL))
theorem zgC:∀ r s t,zjN.run r t s=(ze1 (zao (zei (wY (zeY nilL))))).run r t [] s:=zt (by kernel_rfl) (chS rfl (by kernel_rfl) (chS rfl (by kernel_rfl) (chS rfl (by kernel_rfl) (chS rfl (by kernel_rfl) chL))))
theorem zgc:∀ r s t,zkw.run r t s=xLoad true 16 (gp 7 t) s fun v0 s=>foldF (r.call 18 [v0] s) fun v1 s=>xUn .not v1 fun v2=>.nrm (sp 15 v2 t) s:=reg1 3
theorem zhe:∀ r s t,zj7.run r t s=.nrm (sp 6 (V.bool false) t) s:=reg1 1
theorem zgS:∀ r s t,zld.run r t s=xLoad true 16 (gp 7 t) s fun v0 s=>foldF (r.call 19 [v0,gp 1 t,gp 2 t,V.nat .i64 5] s) fun v3 s=>z7 0 v3 fun v5=>z7 1 v3 fun v6=>.nrm (sp 12 v6 (sp 11 v5 t)) s:=reg1 9
theorem zfZ:∀ r s t,zkh.run r t s=(zer (zaK (zfb (zaj (zdB (wv (zdz nilL))))))).run r t [] s:=zt (by kernel_rfl) (chS rfl (by kernel_rfl) (chS rfl (by kernel_rfl) (chS rfl (by kernel_rfl) (chS rfl (by kernel_rfl) (chS rfl (by kernel_rfl) (chS rfl (by kernel_rfl) chL))))))
theorem qn:type_of% (aI ziX <| aI zj8 <| aI zk6 <| aI zgA <| aI zgi <| aI zg2 <| aI zgC <| aI zgc <| aI zhe <| aI zgS <| aI zfZ <| zur):=aI ziX <| aI zj8 <| aI zk6 <| aI zgA <| aI zgi <| aI zg2 <| aI zgC <| aI zgc <| aI zhe <| aI zgS <| aI zfZ <| zur
def wS:FI:=⟨843256564531200,50,4⟩
def zef:=zA Tryz.prog 19
def z2 (l:List Nat):=comp pc0 wS (subC l zef)
def zvA:=z2 [0]
def zrB:=z2 [1,0,0]
def zvt:=z2 [1,0,1,0,0]
def zoV:=z2 [1,1,0]
def zp4:=z2 [1,1,1,0,0]
def znl:=z2 [1,1,1,0,1,0,0]
def zpR:=z2 [1,1,1,1,0]
def zpW:=z2 [1,1,1,1,1,0,0]
def zom:=z2 [1,1,1,1,1,0,1,0,0]
def zpw:=z2 [1,1,1,1,1,1,0,0]
def zpe:=z2 [1,1,1,1,1,1,0,1,0,0,0,0]
def zpP:=z2 [1,1,1,1,1,1,0,1,0,0,1,0,0,0]
def zo8:=z2 [1,1,1,1,1,1,0,1,0,0,1,0,0,1,0,0]
def zmX:=z2 [1,1,1,1,1,1,0,1,0,0,1,1]
def za7:=subC [1,1,1,1,1,1,0,1,0] zef
def wp:=comp pc0 wS za7
def zna:=z2 [1,1,1,1,1,1,1,0]
def zr3:=comp pc0 wS zef
def zsh:=finN (resC pc0 wS (resOf Tryz.prog 19)).run
theorem zzt :
 ((∀ r s x0 x1 x2 x3,(fnC pc0 19).run r [x0,x1,x2,x3] s=outF (bindR (fun t s=>zsh t s) (zr3.run r (sp 3 x3 (sp 2 x2 (sp 1 x1 (sp 0 x0 T.new)))) s))) ∧
 ((∀ s t,zsh t s=finV (gp 240 t) (resV [gp 8 t,gp 9 t] s)) ∧
 (∀ r s t,zr3.run r t s=seqA (fun t s=>seqA (fun t s=>seqA (fun t s=>seqA (fun t s=>seqA (fun t s=>seqA (fun t s=>seqA (fun t s=>seqA (fun t s=>.ret t s) (zna.run r t s)) (seqA (fun t s=>zh 0 (wp.run r t s)) (zpw.run r t s))) (seqA (fun t s=>condV (gp 16 t) (seqA (fun t s=>.ret t s) (zom.run r t s)) (.nrm t s)) (zpW.run r t s))) (zpR.run r t s)) (seqA (fun t s=>condV (gp 15 t) (seqA (fun t s=>.ret t s) (znl.run r t s)) (.nrm t s)) (zp4.run r t s))) (zoV.run r t s)) (seqA (fun t s=>condV (gp 14 t) (seqA (fun t s=>.ret t s) (zvt.run r t s)) (.nrm t s)) (zrB.run r t s))) (zvA.run r t s)))):=by
 and_intros<;>(intros;kernel_rfl)
theorem zoe:∀ r s t,zvA.run r t s=zk 16 (gp 0 t) fun l0=>Go.Ev.newRow s 37 l0 false fun a0k _ s=>.nrm (sp 9 (V.nat .i64 0) (sp 8 (V.nil 1) (sp 4 (V.ptr a0k 0 0) t))) s:=reg1 3
theorem zoB:∀ r s t,zrB.run r t s=xLoad true 16 (gp 4 t) s fun v0 s=>foldF (r.call 37 [v0,gp 1 t,gp 2 t,gp 3 t] s) fun v4 s=>.nrm (sp 14 v4 t) s:=reg1 5
theorem zoA:∀ r s t,zvt.run r t s=.nrm (sp 9 (V.nat .i64 1) (sp 8 (V.nil 1) t)) s:=reg1 2
theorem zje:∀ r s t,zoV.run r t s=xLoad true 16 (gp 4 t) s fun v0 s=>foldF (r.call 38 [v0,gp 1 t,gp 2 t,V.nat .i64 500] s) fun v3 s=>z7 0 v3 fun v5=>z7 1 v3 fun v6=>.nrm (sp 11 v6 (sp 10 v5 t)) s:=reg1 9
theorem ziO:∀ r s t,zp4.run r t s=xBin ⟨7,[]⟩ true .neq (gp 11 t) (V.nat .i64 0) fun v1=>.nrm (sp 15 v1 t) s:=reg1 2
theorem zkq:∀ r s t,znl.run r t s=.nrm (sp 9 (gp 11 t) (sp 8 (V.nil 1) t)) s:=reg1 3
theorem zif:∀ r s t,zpR.run r t s=xLoad true 16 (gp 4 t) s fun v0 s=>foldF (r.call 39 [v0,gp 2 t,gp 10 t] s) fun v3 s=>.nrm (sp 12 v3 t) s:=reg1 5
theorem zjX:∀ r s t,zpW.run r t s=xLenS (gp 12 t) fun v1=>xBin ⟨9,[]⟩ false .gtr v1 (gp 3 t) fun v3=>.nrm (sp 16 v3 t) s:=reg1 4
theorem zlw:∀ r s t,zom.run r t s=.nrm (sp 9 (V.nat .i64 2) (sp 8 (V.nil 1) t)) s:=reg1 2
theorem zj3:∀ r s t,zpw.run r t s=.nrm (sp 13 (V.nat .i64 0) t) s:=reg1 1
theorem zls:∀ r s t,zpe.run r t s=xLenS (gp 12 t) fun v2=>xBin ⟨9,[]⟩ false .lss (gp 13 t) v2 fun v3=>.nrm (sp 17 v3 t) s:=reg1 4
theorem zkB:∀ r s t,zpP.run r t s=zb 1 (gp 12 t) (gp 13 t) fun v2=>xLoad false 1 v2 s fun v3 s=>xLenS v3 fun v4=>xBin ⟨9,[]⟩ false .gtr v4 (V.nat .i64 200) fun v5=>.nrm (sp 18 v5 t) s:=reg1 6
theorem zjU:∀ r s t,zo8.run r t s=.nrm (sp 9 (V.nat .i64 2) (sp 8 (V.nil 1) t)) s:=reg1 2
theorem ziA:∀ r s t,zmX.run r t s=xBin ⟨9,[]⟩ false .add (gp 13 t) (V.nat .i64 1) fun v1=>.nrm (sp 13 v1 t) s:=reg1 3
theorem zlj:∀ r s t,zna.run r t s=.nrm (sp 9 (V.nat .i64 0) (sp 8 (gp 12 t) t)) s:=reg1 3
theorem zDA:sizeC za7=32:=by kernel_rfl
theorem zjO:∀ r s t,wp.run r t s=seqA (fun t s=>r.code wS za7 t s) (seqA (fun t s=>seqA (fun t s=>zmX.run r t s) (zh 1 (seqA (fun t s=>condV (gp 18 t) (seqA (fun t s=>.ret t s) (zo8.run r t s)) (.nrm t s)) (zpP.run r t s)))) (seqA (fun t s=>condV (gp 17 t) (.nrm t s) (.ext 0 t s)) (zpe.run r t s))):=by intros;kernel_rfl
theorem zdb:type_of% (aI zoe <| aI zoB <| aI zoA <| aI zje <| aI ziO <| aI zkq <| aI zif <| aI zjX <| aI zlw <| aI zj3 <| aI zls <| aI zkB <| aI zjU <| aI ziA <| aI zlj <| zzt):=aI zoe <| aI zoB <| aI zoA <| aI zje <| aI ziO <| aI zkq <| aI zif <| aI zjX <| aI zlw <| aI zj3 <| aI zls <| aI zkB <| aI zjU <| aI ziA <| aI zlj <| zzt
def zbP:FI:=⟨1099511627264,40,4⟩
def zeW:=zA Tryz.prog 37
def zrt:=comp pc0 zbP (subC [0] zeW)
def ztd:=subC [1,0] zeW
def zst:=comp pc0 zbP ztd
def zN:=qOf pc0 zbP ztd
def zfY:=zN 30 2 (dn 39 30)
def zbA:=zN 28 2 (dn 37 28)
def zhl:=zN 26 2 (dn 35 26)
def zbn:=zN 24 2 (dn 33 24)
def zhd:=zN 22 2 (dn 31 22)
def zbt:=zN 18 4 (dn 27 18)
def zgL:=zN 16 2 (dn 25 16)
def zbk:=zN 12 4 (dn 21 12)
def zgD:=zN 10 2 (dn 19 10)
def zcV:=zN 8 2 (dn 17 8)
def zk7:=zN 6 2 (dn 15 6)
def zcs:=zN 4 2 (dn 13 4)
def zlB:=zN 0 4 []
def zty:=comp pc0 zbP zeW
def zxa:=finN (resC pc0 zbP (resOf Tryz.prog 37)).run
theorem zCe :
 (((((∀ r s x0 x1 x2 x3,(fnC pc0 37).run r [x0,x1,x2,x3] s=outF (bindR (fun t s=>zxa t s) (zty.run r (sp 3 x3 (sp 2 x2 (sp 1 x1 (sp 0 x0 T.new)))) s))) ∧
 (∀ s t,zxa t s=finV (gp 240 t) (resV [gp 8 t] s))) ∧
 ((∀ r s t,zty.run r t s=seqA (fun t s=>seqA (fun t s=>.ret t s) (zst.run r t s)) (zrt.run r t s)) ∧
 ((∀ g r s t le,(zlB g).run r t (le) s=xLoad true 16 (gp 4 t) s fun v0 s=>foldF (r.call 18 [v0] s) fun v1 s=>xUn .not v1 fun v2=>g.run r t (v2::v2::v1::v0::le) s) ∧
 (∀ g r s t le,(zcs g).run r t (.bool true::le) s=g.run r t (Go.Ev.undef::Go.Ev.undef::.bool true::le) s)))) ∧
 (((∀ g r s t le,(zcs g).run r t (.bool false::le) s=xBin ⟨9,[]⟩ false .lss (gp 1 t) (V.nat .i64 0) fun v5=>g.run r t (v5::gp 1 t::.bool false::le) s) ∧
 ((∀ g r s t le x0 x1 x2,(zk7 g).run r t (x0::x1::x2::le) s=xPick x2 (fun _=>g.run r t (V.bool true::V.bool true::x0::x1::x2::le) s) (fun _=>g.run r t (x0::x0::x0::x1::x2::le) s)) ∧
 (∀ g r s t le,(zcV g).run r t (.bool true::le) s=g.run r t (Go.Ev.undef::Go.Ev.undef::.bool true::le) s))) ∧
 ((∀ g r s t le,(zcV g).run r t (.bool false::le) s=xBin ⟨9,[]⟩ false .gtr (gp 1 t) (V.nat .i64 500) fun v9=>g.run r t (v9::gp 1 t::.bool false::le) s) ∧
 ((∀ g r s t le x0 x1 x2,(zgD g).run r t (x0::x1::x2::le) s=xPick x2 (fun _=>g.run r t (V.bool true::V.bool true::x0::x1::x2::le) s) (fun _=>g.run r t (x0::x0::x0::x1::x2::le) s)) ∧
 (∀ g r s t le,(zbk g).run r t (.bool true::le) s=g.run r t (Go.Ev.undef::Go.Ev.undef::Go.Ev.undef::Go.Ev.undef::.bool true::le) s))))) ∧
 ((((∀ g r s t le,(zbk g).run r t (.bool false::le) s=xLoad true 16 (gp 4 t) s fun v12 s=>foldF (r.call 69 [v12,gp 1 t] s) fun v14 s=>xUn .not v14 fun v15=>g.run r t (v15::v14::gp 1 t::v12::.bool false::le) s) ∧
 (∀ g r s t le x0 x1 x2 x3 x4,(zgL g).run r t (x0::x1::x2::x3::x4::le) s=xPick x4 (fun _=>g.run r t (V.bool true::V.bool true::x0::x1::x2::x3::x4::le) s) (fun _=>g.run r t (x0::x0::x0::x1::x2::x3::x4::le) s))) ∧
 ((∀ g r s t le,(zbt g).run r t (.bool true::le) s=g.run r t (Go.Ev.undef::Go.Ev.undef::Go.Ev.undef::Go.Ev.undef::.bool true::le) s) ∧
 ((∀ g r s t le,(zbt g).run r t (.bool false::le) s=foldF (r.call 70 [gp 1 t,gp 2 t] s) fun v20 s=>xUn .not v20 fun v21=>g.run r t (v21::v20::gp 2 t::gp 1 t::.bool false::le) s) ∧
 (∀ g r s t le x0 x1 x2 x3 x4,(zhd g).run r t (x0::x1::x2::x3::x4::le) s=xPick x4 (fun _=>g.run r t (V.bool true::V.bool true::x0::x1::x2::x3::x4::le) s) (fun _=>g.run r t (x0::x0::x0::x1::x2::x3::x4::le) s))))) ∧
 (((∀ g r s t le,(zbn g).run r t (.bool true::le) s=g.run r t (Go.Ev.undef::Go.Ev.undef::.bool true::le) s) ∧
 ((∀ g r s t le,(zbn g).run r t (.bool false::le) s=xBin ⟨9,[]⟩ false .lss (gp 3 t) (V.nat .i64 0) fun v25=>g.run r t (v25::gp 3 t::.bool false::le) s) ∧
 (∀ g r s t le x0 x1 x2,(zhl g).run r t (x0::x1::x2::le) s=xPick x2 (fun _=>g.run r t (V.bool true::V.bool true::x0::x1::x2::le) s) (fun _=>g.run r t (x0::x0::x0::x1::x2::le) s)))) ∧
 ((∀ g r s t le,(zbA g).run r t (.bool true::le) s=g.run r t (Go.Ev.undef::Go.Ev.undef::.bool true::le) s) ∧
 ((∀ g r s t le,(zbA g).run r t (.bool false::le) s=xBin ⟨9,[]⟩ false .gtr (gp 3 t) (V.nat .i64 500) fun v29=>g.run r t (v29::gp 3 t::.bool false::le) s) ∧
 (∀ g r s t le x0 x1 x2,(zfY g).run r t (x0::x1::x2::le) s=xPick x2 (fun _=>g.run r (sp 8 (V.bool true) t) (V.bool true::V.bool true::x0::x1::x2::le) s) (fun _=>g.run r (sp 8 x0 t) (x0::x0::x0::x1::x2::le) s))))))):=by
 and_intros<;>(intros;kernel_rfl)
theorem znx:∀ r s t,zrt.run r t s=zk 16 (gp 0 t) fun l0=>Go.Ev.newRow s 37 l0 false fun a0k _ s=>.nrm (sp 8 (V.bool false) (sp 4 (V.ptr a0k 0 0) t)) s:=reg1 2
theorem zou:∀ r s t,zst.run r t s=(zlB (zcs (zk7 (zcV (zgD (zbk (zgL (zbt (zhd (zbn (zhl (zbA (zfY nilL))))))))))))).run r t [] s:=zt (by kernel_rfl) (chS rfl (by kernel_rfl) (chS rfl (by kernel_rfl) (chS rfl (by kernel_rfl) (chS rfl (by kernel_rfl) (chS rfl (by kernel_rfl) (chS rfl (by kernel_rfl) (chS rfl (by kernel_rfl) (chS rfl (by kernel_rfl) (chS rfl (by kernel_rfl) (chS rfl (by kernel_rfl) (chS rfl (by kernel_rfl) (chS rfl (by kernel_rfl) chL))))))))))))
theorem zH1:type_of% (aI znx <| aI zou <| zCe):=aI znx <| aI zou <| zCe
def zlV:FI:=⟨69805789929205760,56,4⟩
def zo3:=zA Tryz.prog 38
def qU (l:List Nat):=comp pc0 zlV (subC l zo3)
def zwX:=qU [0]
def zuK:=qU [1,0,0]
def zvx:=qU [1,0,1,0,0]
def zov:=qU [1,1,0]
def znJ:=qU [1,1,1,0]
def zm6:=qU [1,1,1,1,0,0]
def zoR:=qU [1,1,1,1,0,1,0]
def znq:=qU [1,1,1,1,0,1,1]
def zqw:=qU [1,1,1,1,1,0,0]
def znB:=qU [1,1,1,1,1,0,1,0,0]
def zm1:=qU [1,1,1,1,1,1,0]
def ztf:=comp pc0 zlV zo3
def zts:=finN (resC pc0 zlV (resOf Tryz.prog 38)).run
theorem zCt :
 ((∀ r s x0 x1 x2 x3,(fnC pc0 38).run r [x0,x1,x2,x3] s=outF (bindR (fun t s=>zts t s) (ztf.run r (sp 3 x3 (sp 2 x2 (sp 1 x1 (sp 0 x0 T.new)))) s))) ∧
 ((∀ s t,zts t s=finV (gp 240 t) (resV [gp 8 t,gp 9 t] s)) ∧
 (∀ r s t,ztf.run r t s=seqA (fun t s=>seqA (fun t s=>seqA (fun t s=>seqA (fun t s=>seqA (fun t s=>seqA (fun t s=>seqA (fun t s=>.ret t s) (zm1.run r t s)) (seqA (fun t s=>condV (gp 14 t) (seqA (fun t s=>.ret t s) (znB.run r t s)) (.nrm t s)) (zqw.run r t s))) (seqA (fun t s=>condV (gp 13 t) (zoR.run r t s) (znq.run r t s)) (zm6.run r t s))) (znJ.run r t s)) (zov.run r t s)) (seqA (fun t s=>condV (gp 12 t) (seqA (fun t s=>.ret t s) (zvx.run r t s)) (.nrm t s)) (zuK.run r t s))) (zwX.run r t s)))):=by
 and_intros<;>(intros;kernel_rfl)
theorem znm:∀ r s t,zwX.run r t s=zk 16 (gp 0 t) fun l0=>Go.Ev.newRow s 37 l0 false fun a0k _ s=>.nrm (sp 9 (V.nat .i64 0) (sp 8 (V.nil 1) (sp 4 (V.ptr a0k 0 0) t))) s:=reg1 3
theorem zok:∀ r s t,zuK.run r t s=xLoad true 16 (gp 4 t) s fun v0 s=>foldF (r.call 37 [v0,gp 1 t,gp 2 t,gp 3 t] s) fun v4 s=>.nrm (sp 12 v4 t) s:=reg1 5
theorem zpa:∀ r s t,zvx.run r t s=.nrm (sp 9 (V.nat .i64 1) (sp 8 (V.nil 1) t)) s:=reg1 2
theorem zkF:∀ r s t,zov.run r t s=xLoad true 16 (gp 4 t) s fun v0 s=>foldF (r.call 71 [v0,gp 1 t,gp 2 t] s) fun v3 s=>.nrm (sp 10 v3 t) s:=reg1 5
theorem zi2:∀ r s t,znJ.run r t s=xLenS (gp 2 t) fun v2=>za 0 (gp 4 t) fun v3=>xLoad false 1 v3 s fun v4 s=>xBin ⟨7,[]⟩ true .eql v4 (V.nat .i64 1) fun v5=>zk 1 (gp 10 t) fun x7_0=>updL x7_0 0 [V.nil 1,V.nat .i64 0,V.bool false,V.nat .i64 0,V.nil 1] fun l7_0=>zk 1 v2 fun x7_1=>updL x7_1 1 l7_0 fun l7_1=>zk 1 v5 fun x7_2=>updL x7_2 2 l7_1 fun l7_2=>zk 1 (gp 3 t) fun x7_3=>updL x7_3 3 l7_2 fun l7_3=>zk 5 (V.ls 0 l7_3) fun l8=>Go.Ev.newRow s 142 l8 false fun a8k _ s=>.nrm (sp 11 (V.ptr a8k 0 0) t) s:=reg1 10
theorem zis:∀ r s t,zm6.run r t s=za 0 (gp 4 t) fun v0=>xLoad false 1 v0 s fun v1 s=>xBin ⟨9,[]⟩ false .gtr v1 (V.nat .i64 2) fun v2=>.nrm (sp 13 v2 t) s:=reg1 3
theorem zkv:∀ r s t,zoR.run r t s=za 0 (gp 4 t) fun v1=>xLoad false 1 v1 s fun v2 s=>xLenS (gp 2 t) fun v5=>foldF (r.call 72 [v2,gp 10 t,v5] s) fun v6 s=>repL [V.nil 1] 1 fun l7z=>zk 1 v6 fun x7_0=>updL x7_0 0 l7z fun l7_0=>Go.Ev.newRow s 86 l7_0 false fun a7k _ s=>z1 (gp 11 t) fun v8=>za 4 v8 fun v9=>zK 1 v9 (V.sl a7k 0 0 1 1) s fun _ s=>.nrm t s:=reg1 11
theorem zk0:∀ r s t,znq.run r t s=foldF (r.call 73 [gp 11 t,V.nil 1,V.nat .i64 0] s) fun _ s=>.nrm t s:=reg1 2
theorem zkb:∀ r s t,zqw.run r t s=z1 (gp 11 t) fun v1=>za 4 v1 fun v2=>xLoad false 1 v2 s fun v3 s=>xLenS v3 fun v4=>xBin ⟨9,[]⟩ false .gtr v4 (gp 3 t) fun v6=>.nrm (sp 14 v6 t) s:=reg1 7
theorem zlg:∀ r s t,znB.run r t s=.nrm (sp 9 (V.nat .i64 2) (sp 8 (V.nil 1) t)) s:=reg1 2
theorem zjH:∀ r s t,zm1.run r t s=z1 (gp 11 t) fun v1=>za 4 v1 fun v2=>xLoad false 1 v2 s fun v3 s=>.nrm (sp 9 (V.nat .i64 0) (sp 8 v3 t)) s:=reg1 6
theorem zIl:type_of% (aI znm <| aI zok <| aI zpa <| aI zkF <| aI zi2 <| aI zis <| aI zkv <| aI zk0 <| aI zkb <| aI zlg <| aI zjH <| zCt):=aI znm <| aI zok <| aI zpa <| aI zkF <| aI zi2 <| aI zis <| aI zkv <| aI zk0 <| aI zkb <| aI zlg <| aI zjH <| zCt
def zb3:FI:=⟨33549824,25,4⟩
def zhZ:=zA Tryz.prog 39
def zaP (l:List Nat):=comp pc0 zb3 (subC l zhZ)
def zzO:=zaP [0]
def zyk:=zaP [1,0]
def zyy:=zaP [1,1,0,0]
def zwj:=zaP [1,1,0,1,0,0,0,0]
def zuz:=zaP [1,1,0,1,0,0,1,0,0]
def zsL:=zaP [1,1,0,1,0,0,1,1]
def zfw:=subC [1,1,0,1,0] zhZ
def zbU:=comp pc0 zb3 zfw
def zsX:=zaP [1,1,1,0]
def zzs:=comp pc0 zb3 zhZ
def zzq:=finN (resC pc0 zb3 (resOf Tryz.prog 39)).run
theorem zE5 :
 ((∀ r s x0 x1 x2,(fnC pc0 39).run r [x0,x1,x2] s=outF (bindR (fun t s=>zzq t s) (zzs.run r (sp 2 x2 (sp 1 x1 (sp 0 x0 T.new))) s))) ∧
 ((∀ s t,zzq t s=finV (gp 240 t) (resV [gp 6 t] s)) ∧
 (∀ r s t,zzs.run r t s=seqA (fun t s=>seqA (fun t s=>seqA (fun t s=>seqA (fun t s=>.ret t s) (zsX.run r t s)) (seqA (fun t s=>zh 0 (zbU.run r t s)) (zyy.run r t s))) (zyk.run r t s)) (zzO.run r t s)))):=by
 and_intros<;>(intros;kernel_rfl)
theorem zsI:∀ r s t,zzO.run r t s=zk 16 (gp 0 t) fun l0=>Go.Ev.newRow s 37 l0 false fun a0k _ s=>.nrm (sp 6 (V.nil 1) (sp 3 (V.ptr a0k 0 0) t)) s:=reg1 2
theorem zsM:∀ r s t,zyk.run r t s=.nrm (sp 7 (V.nil 1) t) s:=reg1 1
theorem zsQ:∀ r s t,zyy.run r t s=.nrm (sp 8 (V.nat .i64 0) t) s:=reg1 1
theorem zm9:∀ r s t,zwj.run r t s=xLenS (gp 2 t) fun v2=>xBin ⟨9,[]⟩ false .lss (gp 8 t) v2 fun v3=>.nrm (sp 9 v3 t) s:=reg1 4
theorem zoj:∀ r s t,zuz.run r t s=xLoad true 16 (gp 3 t) s fun v1 s=>zb 1 (gp 2 t) (gp 8 t) fun v5=>xLoad false 1 v5 s fun v6 s=>foldF (r.det.call 75 [v1,gp 1 t,v6] s) fun v7 s=>foldF (r.det.call 74 [gp 7 t,v7] s) fun v8 s=>.nrm (sp 7 v8 t) s:=dreg1 10
theorem zpf:∀ r s t,zsL.run r t s=xBin ⟨9,[]⟩ false .add (gp 8 t) (V.nat .i64 1) fun v1=>.nrm (sp 8 v1 t) s:=reg1 3
theorem zoq:∀ r s t,zsX.run r t s=.nrm (sp 6 (gp 7 t) t) s:=reg1 2
theorem zHG:sizeC zfw=28:=by kernel_rfl
theorem zsi:∀ r s t,zbU.run r t s=seqA (fun t s=>r.code zb3 zfw t s) (seqA (fun t s=>seqA (fun t s=>zsL.run r t s) (zh 1 (zuz.run r t s))) (seqA (fun t s=>condV (gp 9 t) (.nrm t s) (.ext 0 t s)) (zwj.run r t s))):=by intros;kernel_rfl
theorem zfH:type_of% (aI zsI <| aI zsM <| aI zsQ <| aI zm9 <| aI zoj <| aI zpf <| aI zoq <| zE5):=aI zsI <| aI zsM <| aI zsQ <| aI zm9 <| aI zoj <| aI zpf <| aI zoq <| zE5
def zaM:FI:=⟨268418496,29,4⟩
def zc2:=zA Tryz.prog 69
def qY (l:List Nat):=comp pc0 zaM (subC l zc2)
def zoW:=qY [0]
def zn8:=qY [1,0,0]
def zqP:=qY [1,0,1,0,0]
def ziL:=qY [1,1,0,0]
def zjK:=qY [1,1,0,1,0,0,0,0]
def zk9:=qY [1,1,0,1,0,0,1,0,0,0]
def zjy:=qY [1,1,0,1,0,0,1,0,0,1,0,0]
def zkN:=qY [1,1,0,1,0,0,1,1]
def zcJ:=subC [1,1,0,1,0] zc2
def jB:=comp pc0 zaM zcJ
def zib:=qY [1,1,1,0]
def zoC:=comp pc0 zaM zc2
def zpY:=finN (resC pc0 zaM (resOf Tryz.prog 69)).run
theorem zsU :
 ((∀ r s x0 x1,(fnC pc0 69).run r [x0,x1] s=outF (bindR (fun t s=>zpY t s) (zoC.run r (sp 1 x1 (sp 0 x0 T.new)) s))) ∧
 ((∀ s t,zpY t s=finV (gp 240 t) (resV [gp 4 t] s)) ∧
 (∀ r s t,zoC.run r t s=seqA (fun t s=>seqA (fun t s=>seqA (fun t s=>seqA (fun t s=>.ret t s) (zib.run r t s)) (seqA (fun t s=>zh 0 (jB.run r t s)) (ziL.run r t s))) (seqA (fun t s=>condV (gp 6 t) (seqA (fun t s=>.ret t s) (zqP.run r t s)) (.nrm t s)) (zn8.run r t s))) (zoW.run r t s)))):=by
 and_intros<;>(intros;kernel_rfl)
theorem zll:∀ r s t,zoW.run r t s=zk 16 (gp 0 t) fun l0=>Go.Ev.newRow s 37 l0 false fun a0k _ s=>.nrm (sp 4 (V.bool false) (sp 2 (V.ptr a0k 0 0) t)) s:=reg1 2
theorem zjk:∀ r s t,zn8.run r t s=xLoad true 16 (gp 2 t) s fun v0 s=>foldF (r.call 110 [v0] s) fun v1 s=>xBin ⟨9,[]⟩ false .gtr v1 (gp 1 t) fun v3=>.nrm (sp 6 v3 t) s:=reg1 4
theorem zlq:∀ r s t,zqP.run r t s=.nrm (sp 4 (V.bool false) t) s:=reg1 1
theorem zfX:∀ r s t,ziL.run r t s=.nrm (sp 5 (V.nat .i64 0) t) s:=reg1 1
theorem zf0:∀ r s t,zjK.run r t s=za 1 (gp 2 t) fun v1=>xLoad false 1 v1 s fun v2 s=>xLenS v2 fun v3=>xBin ⟨9,[]⟩ false .lss (gp 5 t) v3 fun v4=>.nrm (sp 7 v4 t) s:=reg1 5
theorem zg7:∀ r s t,zk9.run r t s=za 1 (gp 2 t) fun v0=>xLoad false 1 v0 s fun v1 s=>zb 10 v1 (gp 5 t) fun v3=>za 0 v3 fun v4=>xLoad true 7 v4 s fun v5 s=>foldF (r.call 111 [v5,gp 1 t,V.nil 1] s) fun v7 s=>zb 1 v7 (V.nat .i64 0) fun v8=>xLoad false 1 v8 s fun v9 s=>zb 1 v9 (V.nat .i64 0) fun v10=>xLoad false 1 v10 s fun v11 s=>.nrm (sp 8 v11 t) s:=reg1 12
theorem zgd:∀ r s t,zjy.run r t s=.nrm (sp 4 (V.bool false) t) s:=reg1 1
theorem zgX:∀ r s t,zkN.run r t s=xBin ⟨9,[]⟩ false .add (gp 5 t) (V.nat .i64 1) fun v1=>.nrm (sp 5 v1 t) s:=reg1 3
theorem zgJ:∀ r s t,zib.run r t s=.nrm (sp 4 (V.bool true) t) s:=reg1 1
theorem zxI:sizeC zcJ=38:=by kernel_rfl
theorem zgw:∀ r s t,jB.run r t s=seqA (fun t s=>r.code zaM zcJ t s) (seqA (fun t s=>seqA (fun t s=>zkN.run r t s) (zh 1 (seqA (fun t s=>condV (gp 8 t) (seqA (fun t s=>.ret t s) (zjy.run r t s)) (.nrm t s)) (zk9.run r t s)))) (seqA (fun t s=>condV (gp 7 t) (.nrm t s) (.ext 0 t s)) (zjK.run r t s))):=by intros;kernel_rfl
theorem zeR:type_of% (aI zll <| aI zjk <| aI zlq <| aI zfX <| aI zf0 <| aI zg7 <| aI zgd <| aI zgX <| aI zgJ <| zsU):=aI zll <| aI zjk <| aI zlq <| aI zfX <| aI zf0 <| aI zg7 <| aI zgd <| aI zgX <| aI zgJ <| zsU
def zeI:FI:=⟨1044160,21,4⟩
def zhy:=zA Tryz.prog 70
def jp (l:List Nat):=comp pc0 zeI (subC l zhy)
def zy6:=jp [0]
def zyD:=jp [1,0,0]
def zCL:=jp [1,0,1,0,0]
def ztJ:=jp [1,1,0,0]
def zs5:=jp [1,1,0,1,0,0,0,0]
def zrQ:=jp [1,1,0,1,0,0,1,0,0,0]
def zv5:=jp [1,1,0,1,0,0,1,0,0,1,0,0]
def zrq:=jp [1,1,0,1,0,0,1,1]
def zhM:=subC [1,1,0,1,0] zhy
def zaE:=comp pc0 zeI zhM
def zw7:=jp [1,1,1,0]
def zBR:=comp pc0 zeI zhy
def zx2:=finN (resC pc0 zeI (resOf Tryz.prog 70)).run
theorem zEA :
 ((∀ r s x0 x1,(fnC pc0 70).run r [x0,x1] s=outF (bindR (fun t s=>zx2 t s) (zBR.run r (sp 1 x1 (sp 0 x0 T.new)) s))) ∧
 ((∀ s t,zx2 t s=finV (gp 240 t) (resV [gp 4 t] s)) ∧
 (∀ r s t,zBR.run r t s=seqA (fun t s=>seqA (fun t s=>seqA (fun t s=>seqA (fun t s=>.ret t s) (zw7.run r t s)) (seqA (fun t s=>zh 0 (zaE.run r t s)) (ztJ.run r t s))) (seqA (fun t s=>condV (gp 6 t) (seqA (fun t s=>.ret t s) (zCL.run r t s)) (.nrm t s)) (zyD.run r t s))) (zy6.run r t s)))):=by
 and_intros<;>(intros;kernel_rfl)
theorem zuG:∀ r s t,zy6.run r t s=.nrm (sp 4 (V.bool false) t) s:=reg1 1
theorem zuU:∀ r s t,zyD.run r t s=foldF (r.call 14 [gp 1 t] s) fun v1 s=>xUn .not v1 fun v2=>.nrm (sp 6 v2 t) s:=reg1 3
theorem zs9:∀ r s t,zCL.run r t s=.nrm (sp 4 (V.bool false) t) s:=reg1 1
theorem zph:∀ r s t,ztJ.run r t s=.nrm (sp 5 (V.nat .i64 0) t) s:=reg1 1
theorem zqN:∀ r s t,zs5.run r t s=xLenS (gp 1 t) fun v2=>xBin ⟨9,[]⟩ false .lss (gp 5 t) v2 fun v3=>.nrm (sp 7 v3 t) s:=reg1 4
theorem zps:∀ r s t,zrQ.run r t s=zb 1 (gp 1 t) (gp 5 t) fun v2=>xLoad false 1 v2 s fun v3 s=>xBin ⟨9,[]⟩ false .gtr v3 (gp 0 t) fun v5=>.nrm (sp 8 v5 t) s:=reg1 6
theorem zpF:∀ r s t,zv5.run r t s=.nrm (sp 4 (V.bool false) t) s:=reg1 1
theorem znN:∀ r s t,zrq.run r t s=xBin ⟨9,[]⟩ false .add (gp 5 t) (V.nat .i64 1) fun v1=>.nrm (sp 5 v1 t) s:=reg1 3
theorem zqh:∀ r s t,zw7.run r t s=.nrm (sp 4 (V.bool true) t) s:=reg1 1
theorem zE8:sizeC zhM=31:=by kernel_rfl
theorem zpr:∀ r s t,zaE.run r t s=seqA (fun t s=>r.code zeI zhM t s) (seqA (fun t s=>seqA (fun t s=>zrq.run r t s) (zh 1 (seqA (fun t s=>condV (gp 8 t) (seqA (fun t s=>.ret t s) (zv5.run r t s)) (.nrm t s)) (zrQ.run r t s)))) (seqA (fun t s=>condV (gp 7 t) (.nrm t s) (.ext 0 t s)) (zs5.run r t s))):=by intros;kernel_rfl
theorem zmi:type_of% (aI zuG <| aI zuU <| aI zs9 <| aI zph <| aI zqN <| aI zps <| aI zpF <| aI znN <| aI zqh <| zEA):=aI zuG <| aI zuU <| aI zs9 <| aI zph <| aI zqN <| aI zps <| aI zpF <| aI znN <| aI zqh <| zEA
def zI:FI:=⟨42452218798465682763143301720761171968,125,4⟩
def qw:=zA Tryz.prog 71
def zH (l:List Nat):=comp pc0 zI (subC l qw)
def zCN:=zH [0]
def zyS:=zH [1,0]
def zCS:=zH [1,1,0]
def zAm:=zH [1,1,1,0]
def zuQ:=zH [1,1,1,1,0,0]
def zww:=zH [1,1,1,1,0,1,0,0,0,0]
def zv4:=zH [1,1,1,1,0,1,0,0,1,0,0]
def zvB:=zH [1,1,1,1,0,1,0,0,1,1]
def zcE:=subC [1,1,1,1,0,1,0] qw
def w7:=comp pc0 zI zcE
def zxw:=zH [1,1,1,1,1,0]
def zvF:=zH [1,1,1,1,1,1,0,0]
def ztC:=zH [1,1,1,1,1,1,0,1,0,0,0,0]
def zr4:=zH [1,1,1,1,1,1,0,1,0,0,1,0,0,0]
def zsS:=zH [1,1,1,1,1,1,0,1,0,0,1,0,0,1,0,0,0,0]
def zsf:=zH [1,1,1,1,1,1,0,1,0,0,1,0,0,1,0,0,1,0,0,0]
def zwl:=zH [1,1,1,1,1,1,0,1,0,0,1,0,0,1,0,0,1,0,0,1,0,0]
def zvU:=zH [1,1,1,1,1,1,0,1,0,0,1,0,0,1,0,0,1,0,0,1,0,1,0,0,0,0]
def zsp:=subC [1,1,1,1,1,1,0,1,0,0,1,0,0,1,0,0,1,0,0,1,0,1,0,0,1,0,0] qw
def zvJ:=comp pc0 zI zsp
def zdr:=qOf pc0 zI zsp
def zi3:=zdr 9 2 (dn 76 9)
def zcK:=zdr 2 7 [69,68]
def zlE:=zdr 0 2 []
def zrJ:=zH [1,1,1,1,1,1,0,1,0,0,1,0,0,1,0,0,1,0,0,1,0,1,0,0,1,1]
def zcS:=subC [1,1,1,1,1,1,0,1,0,0,1,0,0,1,0,0,1,0,0,1,0,1,0] qw
def zay:=comp pc0 zI zcS
def zum:=zH [1,1,1,1,1,1,0,1,0,0,1,0,0,1,0,0,1,0,0,1,1,0,0]
def zvm:=zH [1,1,1,1,1,1,0,1,0,0,1,0,0,1,0,0,1,0,0,1,1,0,1,0,0,0,0]
def zsH:=subC [1,1,1,1,1,1,0,1,0,0,1,0,0,1,0,0,1,0,0,1,1,0,1,0,0,1,0,0] qw
def zuS:=comp pc0 zI zsH
def zdt:=qOf pc0 zI zsH
def zkr:=zdt 9 2 (dn 93 9)
def zcP:=zdt 2 7 [86,85]
def zkp:=zdt 0 2 []
def zvQ:=zH [1,1,1,1,1,1,0,1,0,0,1,0,0,1,0,0,1,0,0,1,1,0,1,0,0,1,1]
def zdm:=subC [1,1,1,1,1,1,0,1,0,0,1,0,0,1,0,0,1,0,0,1,1,0,1,0] qw
def zap:=comp pc0 zI zdm
def ztW:=zH [1,1,1,1,1,1,0,1,0,0,1,0,0,1,0,0,1,0,0,1,1,1,0]
def zxA:=zH [1,1,1,1,1,1,0,1,0,0,1,0,0,1,0,0,1,0,0,1,1,1,1,0,0,0,0]
def zwe:=subC [1,1,1,1,1,1,0,1,0,0,1,0,0,1,0,0,1,0,0,1,1,1,1,0,0,1,0,0,0] qw
def zvC:=comp pc0 zI zwe
def jw:=qOf pc0 zI zwe
def zf2:=jw 15 1 (dn 116 15)
def zcW:=jw 5 10 (dn 106 5)
def zjb:=jw 3 2 [104,103,102]
def zcY:=jw 2 1 [103,102]
def zkZ:=jw 0 2 []
def zwv:=zH [1,1,1,1,1,1,0,1,0,0,1,0,0,1,0,0,1,0,0,1,1,1,1,0,0,1,0,0,1,0]
def zv9:=zH [1,1,1,1,1,1,0,1,0,0,1,0,0,1,0,0,1,0,0,1,1,1,1,0,0,1,1]
def zdo:=subC [1,1,1,1,1,1,0,1,0,0,1,0,0,1,0,0,1,0,0,1,1,1,1,0] qw
def zaa:=comp pc0 zI zdo
def znA:=zH [1,1,1,1,1,1,0,1,0,0,1,0,0,1,0,0,1,1]
def zcR:=subC [1,1,1,1,1,1,0,1,0,0,1,0,0,1,0] qw
def zaJ:=comp pc0 zI zcR
def zn0:=zH [1,1,1,1,1,1,0,1,0,0,1,1]
def zcq:=subC [1,1,1,1,1,1,0,1,0] qw
def zas:=comp pc0 zI zcq
def znL:=zH [1,1,1,1,1,1,1,0]
def zB8:=comp pc0 zI qw
def zBd:=finN (resC pc0 zI (resOf Tryz.prog 71)).run
theorem zEo :
 (((((∀ r s x0 x1 x2,(fnC pc0 71).run r [x0,x1,x2] s=outF (bindR (fun t s=>zBd t s) (zB8.run r (sp 2 x2 (sp 1 x1 (sp 0 x0 T.new))) s))) ∧
 (∀ s t,zBd t s=finV (gp 240 t) (resV [gp 6 t] s))) ∧
 ((∀ r s t,zB8.run r t s=seqA (fun t s=>seqA (fun t s=>seqA (fun t s=>seqA (fun t s=>seqA (fun t s=>seqA (fun t s=>seqA (fun t s=>seqA (fun t s=>.ret t s) (znL.run r t s)) (seqA (fun t s=>zh 2 (zas.run r t s)) (zvF.run r t s))) (zxw.run r t s)) (seqA (fun t s=>zh 0 (w7.run r t s)) (zuQ.run r t s))) (zAm.run r t s)) (zCS.run r t s)) (zyS.run r t s)) (zCN.run r t s)) ∧
 (∀ g r s t le,(zlE g).run r t (le) s=g.run r t (gp 14 t::gp 14 t::le) s))) ∧
 (((∀ g r s t le,(zcK g).run r t (.bool true::le) s=g.run r t (Go.Ev.undef::Go.Ev.undef::Go.Ev.undef::Go.Ev.undef::Go.Ev.undef::Go.Ev.undef::Go.Ev.undef::.bool true::le) s) ∧
 (∀ g r s t le,(zcK g).run r t (.bool false::le) s=zb 1 (gp 7 t) (gp 16 t) fun v4=>xLoad false 1 v4 s fun v5 s=>zb 1 v5 (gp 12 t) fun v7=>xLoad false 1 v7 s fun v8 s=>g.run r t (v8::v7::gp 12 t::v5::v4::gp 16 t::gp 7 t::.bool false::le) s)) ∧
 ((∀ g r s t le x0 x1 x2 x3 x4 x5 x6 x7,(zi3 g).run r t (x0::x1::x2::x3::x4::x5::x6::x7::le) s=xPick x7 (fun _=>g.run r (sp 14 (V.bool true) t) (V.bool true::V.bool true::x0::x1::x2::x3::x4::x5::x6::x7::le) s) (fun _=>g.run r (sp 14 x0 t) (x0::x0::x0::x1::x2::x3::x4::x5::x6::x7::le) s)) ∧
 ((∀ g r s t le,(zkp g).run r t (le) s=g.run r t (gp 15 t::gp 15 t::le) s) ∧
 (∀ g r s t le,(zcP g).run r t (.bool true::le) s=g.run r t (Go.Ev.undef::Go.Ev.undef::Go.Ev.undef::Go.Ev.undef::Go.Ev.undef::Go.Ev.undef::Go.Ev.undef::.bool true::le) s))))) ∧
 ((((∀ g r s t le,(zcP g).run r t (.bool false::le) s=zb 1 (gp 8 t) (gp 13 t) fun v4=>xLoad false 1 v4 s fun v5 s=>zb 1 v5 (gp 17 t) fun v7=>xLoad false 1 v7 s fun v8 s=>g.run r t (v8::v7::gp 17 t::v5::v4::gp 13 t::gp 8 t::.bool false::le) s) ∧
 (∀ g r s t le x0 x1 x2 x3 x4 x5 x6 x7,(zkr g).run r t (x0::x1::x2::x3::x4::x5::x6::x7::le) s=xPick x7 (fun _=>g.run r (sp 15 (V.bool true) t) (V.bool true::V.bool true::x0::x1::x2::x3::x4::x5::x6::x7::le) s) (fun _=>g.run r (sp 15 x0 t) (x0::x0::x0::x1::x2::x3::x4::x5::x6::x7::le) s))) ∧
 ((∀ g r s t le,(zkZ g).run r t (le) s=g.run r t (gp 14 t::gp 14 t::le) s) ∧
 (∀ g r s t le,(zcY g).run r t (.bool true::le) s=g.run r t (gp 15 t::.bool true::le) s))) ∧
 (((∀ g r s t le,(zcY g).run r t (.bool false::le) s=g.run r t (Go.Ev.undef::.bool false::le) s) ∧
 (∀ g r s t le x0 x1,(zjb g).run r t (x0::x1::le) s=xPick x1 (fun _=>g.run r t (x0::x0::x0::x1::le) s) (fun _=>g.run r t (V.bool false::V.bool false::x0::x1::le) s))) ∧
 ((∀ g r s t le,(zcW g).run r t (.bool true::le) s=zb 1 (gp 9 t) (gp 18 t) fun v7=>xLoad false 1 v7 s fun v8 s=>zb 1 v8 (gp 12 t) fun v10=>xLoad false 1 v10 s fun v11 s=>zb 1 v11 (gp 13 t) fun v13=>xLoad false 1 v13 s fun v14 s=>g.run r t (v14::v13::gp 13 t::v11::v10::gp 12 t::v8::v7::gp 18 t::gp 9 t::.bool true::le) s) ∧
 ((∀ g r s t le,(zcW g).run r t (.bool false::le) s=g.run r t (Go.Ev.undef::Go.Ev.undef::Go.Ev.undef::Go.Ev.undef::Go.Ev.undef::Go.Ev.undef::Go.Ev.undef::Go.Ev.undef::Go.Ev.undef::Go.Ev.undef::.bool false::le) s) ∧
 (∀ g r s t le x0 x1 x2 x3 x4 x5 x6 x7 x8 x9 x10,(zf2 g).run r t (x0::x1::x2::x3::x4::x5::x6::x7::x8::x9::x10::le) s=xPick x10 (fun _=>g.run r (sp 25 x0 t) (x0::x0::x1::x2::x3::x4::x5::x6::x7::x8::x9::x10::le) s) (fun _=>g.run r (sp 25 (V.bool false) t) (V.bool false::x0::x1::x2::x3::x4::x5::x6::x7::x8::x9::x10::le) s))))))):=by
 and_intros<;>(intros;kernel_rfl)
theorem zwz:∀ r s t,zCN.run r t s=zk 16 (gp 0 t) fun l0=>Go.Ev.newRow s 37 l0 false fun a0k _ s=>.nrm (sp 6 (V.nil 1) (sp 3 (V.ptr a0k 0 0) t)) s:=reg1 2
theorem zwM:∀ r s t,zyS.run r t s=za 2 (gp 3 t) fun v0=>xLoad true 7 v0 s fun v1 s=>foldF (r.call 111 [v1,gp 1 t,gp 2 t] s) fun v4 s=>.nrm (sp 7 v4 t) s:=reg1 6
theorem ztN:∀ r s t,zCS.run r t s=za 9 (gp 3 t) fun v0=>xLoad true 7 v0 s fun v1 s=>foldF (r.call 111 [v1,gp 1 t,gp 2 t] s) fun v4 s=>.nrm (sp 8 v4 t) s:=reg1 6
theorem zuP:∀ r s t,zAm.run r t s=.nrm (sp 9 (V.nil 1) t) s:=reg1 1
theorem zoT:∀ r s t,zuQ.run r t s=.nrm (sp 10 (V.nat .i64 0) t) s:=reg1 1
theorem zoD:∀ r s t,zww.run r t s=za 1 (gp 3 t) fun v1=>xLoad false 1 v1 s fun v2 s=>xLenS v2 fun v3=>xBin ⟨9,[]⟩ false .lss (gp 10 t) v3 fun v4=>.nrm (sp 19 v4 t) s:=reg1 5
theorem zoh:∀ r s t,zv4.run r t s=za 1 (gp 3 t) fun v1=>xLoad false 1 v1 s fun v2 s=>zb 10 v2 (gp 10 t) fun v4=>za 0 v4 fun v5=>xLoad true 7 v5 s fun v6 s=>foldF (r.call 111 [v6,gp 1 t,gp 2 t] s) fun v9 s=>repL [V.nil 1] 1 fun l10z=>zk 1 v9 fun x10_0=>updL x10_0 0 l10z fun l10_0=>Go.Ev.newRow s 197 l10_0 false fun a10k _ s=>zM 197 1 (gp 9 t) (V.sl a10k 0 0 1 1) s fun v11 s=>.nrm (sp 9 v11 t) s:=reg1 13
theorem znV:∀ r s t,zvB.run r t s=xBin ⟨9,[]⟩ false .add (gp 10 t) (V.nat .i64 1) fun v1=>.nrm (sp 10 v1 t) s:=reg1 3
theorem zmV:∀ r s t,zxw.run r t s=.nrm (sp 11 (V.nil 1) t) s:=reg1 1
theorem znD:∀ r s t,zvF.run r t s=.nrm (sp 12 (V.nat .i64 0) t) s:=reg1 1
theorem zpM:∀ r s t,ztC.run r t s=xLenS (gp 2 t) fun v2=>xBin ⟨9,[]⟩ false .lss (gp 12 t) v2 fun v3=>.nrm (sp 20 v3 t) s:=reg1 4
theorem zqq:∀ r s t,zr4.run r t s=xBin ⟨9,[]⟩ false .add (gp 12 t) (V.nat .i64 1) fun v1=>.nrm (sp 13 v1 t) s:=reg1 3
theorem zoP:∀ r s t,zsS.run r t s=xLenS (gp 2 t) fun v2=>xBin ⟨9,[]⟩ false .leq (gp 13 t) v2 fun v3=>.nrm (sp 21 v3 t) s:=reg1 4
theorem zqz:∀ r s t,zsf.run r t s=.nrm (sp 15 (V.bool false) (sp 14 (V.bool false) t)) s:=reg1 2
theorem znT:∀ r s t,zwl.run r t s=.nrm (sp 16 (V.nat .i64 0) t) s:=reg1 1
theorem znk:∀ r s t,zvU.run r t s=xBin ⟨9,[]⟩ false .leq (gp 16 t) (gp 12 t) fun v2=>.nrm (sp 22 v2 t) s:=reg1 3
theorem zmR:∀ r s t,zvJ.run r t s=(zlE (zcK (zi3 nilL))).run r t [] s:=zt (by kernel_rfl) (chS rfl (by kernel_rfl) (chS rfl (by kernel_rfl) chL))
theorem znw:∀ r s t,zrJ.run r t s=xBin ⟨9,[]⟩ false .add (gp 16 t) (V.nat .i64 1) fun v1=>.nrm (sp 16 v1 t) s:=reg1 3
theorem zoo:∀ r s t,zum.run r t s=.nrm (sp 17 (gp 13 t) t) s:=reg1 2
theorem zo6:∀ r s t,zvm.run r t s=xLenS (gp 2 t) fun v2=>xBin ⟨9,[]⟩ false .leq (gp 17 t) v2 fun v3=>.nrm (sp 23 v3 t) s:=reg1 4
theorem zqi:∀ r s t,zuS.run r t s=(zkp (zcP (zkr nilL))).run r t [] s:=zt (by kernel_rfl) (chS rfl (by kernel_rfl) (chS rfl (by kernel_rfl) chL))
theorem zpC:∀ r s t,zvQ.run r t s=xBin ⟨9,[]⟩ false .add (gp 17 t) (V.nat .i64 1) fun v1=>.nrm (sp 17 v1 t) s:=reg1 3
theorem zp6:∀ r s t,ztW.run r t s=.nrm (sp 18 (V.nat .i64 0) t) s:=reg1 1
theorem zoO:∀ r s t,zxA.run r t s=za 1 (gp 3 t) fun v1=>xLoad false 1 v1 s fun v2 s=>xLenS v2 fun v3=>xBin ⟨9,[]⟩ false .lss (gp 18 t) v3 fun v4=>.nrm (sp 24 v4 t) s:=reg1 5
theorem zmZ:∀ r s t,zvC.run r t s=(zkZ (zcY (zjb (zcW (zf2 nilL))))).run r t [] s:=zt (by kernel_rfl) (chS rfl (by kernel_rfl) (chS rfl (by kernel_rfl) (chS rfl (by kernel_rfl) (chS rfl (by kernel_rfl) chL))))
theorem zoY:∀ r s t,zwv.run r t s=zk 1 (gp 12 t) fun x4_0=>updL x4_0 0 [V.nat .i64 0,V.nat .i64 0,V.nat .i64 0] fun l4_0=>zk 1 (gp 13 t) fun x4_1=>updL x4_1 1 l4_0 fun l4_1=>zk 1 (gp 18 t) fun x4_2=>updL x4_2 2 l4_1 fun l4_2=>repL [V.nat .i64 0,V.nat .i64 0,V.nat .i64 0] 1 fun l5z=>zk 3 (V.ls 0 l4_2) fun x5_0=>updL x5_0 0 l5z fun l5_0=>Go.Ev.newRow s 154 l5_0 false fun a5k _ s=>zM 154 3 (gp 11 t) (V.sl a5k 0 0 1 1) s fun v6 s=>.nrm (sp 11 v6 t) s:=reg1 8
theorem zqt:∀ r s t,zv9.run r t s=xBin ⟨9,[]⟩ false .add (gp 18 t) (V.nat .i64 1) fun v1=>.nrm (sp 18 v1 t) s:=reg1 3
theorem zk5:∀ r s t,znA.run r t s=xBin ⟨9,[]⟩ false .add (gp 13 t) (V.nat .i64 1) fun v1=>.nrm (sp 13 v1 t) s:=reg1 3
theorem zkD:∀ r s t,zn0.run r t s=xBin ⟨9,[]⟩ false .add (gp 12 t) (V.nat .i64 1) fun v1=>.nrm (sp 12 v1 t) s:=reg1 3
theorem zlR:∀ r s t,znL.run r t s=.nrm (sp 6 (gp 11 t) t) s:=reg1 2
theorem zEp:sizeC zcE=32:=by kernel_rfl
theorem zGo:sizeC zcS=28:=by kernel_rfl
theorem zEc:sizeC zdm=29:=by kernel_rfl
theorem zGA:sizeC zdo=47:=by kernel_rfl
theorem zEY:sizeC zcR=140:=by kernel_rfl
theorem zGX:sizeC zcq=163:=by kernel_rfl
theorem zp8:∀ r s t,w7.run r t s=seqA (fun t s=>r.code zI zcE t s) (seqA (fun t s=>seqA (fun t s=>zvB.run r t s) (zh 1 (zv4.run r t s))) (seqA (fun t s=>condV (gp 19 t) (.nrm t s) (.ext 0 t s)) (zww.run r t s))):=by intros;kernel_rfl
theorem zn2:∀ r s t,zay.run r t s=seqA (fun t s=>r.code zI zcS t s) (seqA (fun t s=>seqA (fun t s=>zrJ.run r t s) (zh 7 (zvJ.run r t s))) (seqA (fun t s=>condV (gp 22 t) (.nrm t s) (.ext 6 t s)) (zvU.run r t s))):=by intros;kernel_rfl
theorem zes:∀ r s t,zap.run r t s=seqA (fun t s=>r.code zI zdm t s) (seqA (fun t s=>seqA (fun t s=>zvQ.run r t s) (zh 9 (zuS.run r t s))) (seqA (fun t s=>condV (gp 23 t) (.nrm t s) (.ext 8 t s)) (zvm.run r t s))):=by intros;kernel_rfl
theorem zeF:∀ r s t,zaa.run r t s=seqA (fun t s=>r.code zI zdo t s) (seqA (fun t s=>seqA (fun t s=>zv9.run r t s) (zh 11 (seqA (fun t s=>condV (gp 25 t) (zwv.run r t s) (.nrm t s)) (zvC.run r t s)))) (seqA (fun t s=>condV (gp 24 t) (.nrm t s) (.ext 10 t s)) (zxA.run r t s))):=by intros;kernel_rfl
theorem znu:∀ r s t,zaJ.run r t s=seqA (fun t s=>r.code zI zcR t s) (seqA (fun t s=>seqA (fun t s=>znA.run r t s) (zh 5 (seqA (fun t s=>seqA (fun t s=>seqA (fun t s=>seqA (fun t s=>zh 10 (zaa.run r t s)) (ztW.run r t s)) (seqA (fun t s=>zh 8 (zap.run r t s)) (zum.run r t s))) (seqA (fun t s=>zh 6 (zay.run r t s)) (zwl.run r t s))) (zsf.run r t s)))) (seqA (fun t s=>condV (gp 21 t) (.nrm t s) (.ext 4 t s)) (zsS.run r t s))):=by intros;kernel_rfl
theorem zm2:∀ r s t,zas.run r t s=seqA (fun t s=>r.code zI zcq t s) (seqA (fun t s=>seqA (fun t s=>zn0.run r t s) (zh 3 (seqA (fun t s=>zh 4 (zaJ.run r t s)) (zr4.run r t s)))) (seqA (fun t s=>condV (gp 20 t) (.nrm t s) (.ext 2 t s)) (ztC.run r t s))):=by intros;kernel_rfl
theorem zL:type_of% (aI zwz <| aI zwM <| aI ztN <| aI zuP <| aI zoT <| aI zoD <| aI zoh <| aI znV <| aI zmV <| aI znD <| aI zpM <| aI zqq <| aI zoP <| aI zqz <| aI znT <| aI znk <| aI zmR <| aI znw <| aI zoo <| aI zo6 <| aI zqi <| aI zpC <| aI zp6 <| aI zoO <| aI zmZ <| aI zoY <| aI zqt <| aI zk5 <| aI zkD <| aI zlR <| zEo):=aI zwz <| aI zwM <| aI ztN <| aI zuP <| aI zoT <| aI zoD <| aI zoh <| aI znV <| aI zmV <| aI znD <| aI zpM <| aI zqq <| aI zoP <| aI zqz <| aI znT <| aI znk <| aI zmR <| aI znw <| aI zoo <| aI zo6 <| aI zqi <| aI zpC <| aI zp6 <| aI zoO <| aI zmZ <| aI zoY <| aI zqt <| aI zk5 <| aI zkD <| aI zlR <| zEo
def qc:FI:=⟨43556141302722535823874969358092048728064,135,4⟩
def yO:=zA Tryz.prog 72
def z3 (l:List Nat):=comp pc0 qc (subC l yO)
def zEk:=z3 [0]
def zGD:=z3 [1,0]
def zF2:=subC [1,1,0] yO
def zFm:=comp pc0 qc zF2
def zhO:=qOf pc0 qc zF2
def zsc:=zhO 5 2 (dn 21 5)
def zhW:=zhO 3 2 [19,18,17]
def zwf:=zhO 0 3 []
def zGc:=z3 [1,1,1,0]
def zBm:=z3 [1,1,1,1,0,0]
def zyA:=z3 [1,1,1,1,0,1,0]
def zAE:=z3 [1,1,1,1,1,0,0,0,0]
def zyh:=z3 [1,1,1,1,1,0,0,0,1,0,0]
def zzK:=z3 [1,1,1,1,1,0,0,0,1,0,1,0,0,0,0]
def zCi:=z3 [1,1,1,1,1,0,0,0,1,0,1,0,0,1,0,0,0]
def zCI:=subC [1,1,1,1,1,0,0,0,1,0,1,0,0,1,0,0,1,0,0] yO
def zzr:=comp pc0 qc zCI
def yB:=qOf pc0 qc zCI
def zij:=yB 16 1 (dn 50 16)
def zcw:=yB 15 1 (dn 49 15)
def wA:=yB 11 4 (dn 45 11)
def zd7:=yB 8 3 (dn 42 8)
def zo2:=yB 6 2 (dn 40 6)
def zdW:=yB 2 4 [36,35]
def zpy:=yB 0 2 []
def zyI:=z3 [1,1,1,1,1,0,0,0,1,0,1,0,0,1,0,0,1,1,0,0]
def zyX:=z3 [1,1,1,1,1,0,0,0,1,0,1,0,0,1,0,0,1,1,0,1,0,0]
def zAX:=z3 [1,1,1,1,1,0,0,0,1,0,1,0,0,1,0,0,1,1,1,0]
def zzX:=subC [1,1,1,1,1,0,0,0,1,0,1,0,0,1,0,0,1,1,1,1,0] yO
def zB9:=comp pc0 qc zzX
def yD:=qOf pc0 qc zzX
def zjA:=yD 18 2 (dn 76 18)
def zcU:=yD 17 1 (dn 75 17)
def wG:=yD 12 5 (dn 70 12)
def zen:=yD 9 3 (dn 67 9)
def znb:=yD 7 2 (dn 65 7)
def zep:=yD 2 5 [60,59]
def zoU:=yD 0 2 []
def zCG:=subC [1,1,1,1,1,0,0,0,1,0,1,0,0,1,0,0,1,1,1,1,1,0] yO
def zyq:=comp pc0 qc zCG
def yF:=qOf pc0 qc zCG
def zlA:=yF 18 2 (dn 95 18)
def zdy:=yF 17 1 (dn 94 17)
def wz:=yF 12 5 (dn 89 12)
def zfj:=yF 9 3 (dn 86 9)
def zpo:=yF 7 2 (dn 84 7)
def zeH:=yF 2 5 [79,78]
def zo4:=yF 0 2 []
def zAe:=subC [1,1,1,1,1,0,0,0,1,0,1,0,0,1,0,0,1,1,1,1,1,1,0] yO
def zAH:=comp pc0 qc zAe
def wo:=qOf pc0 qc zAe
def zol:=wo 9 1 (dn 105 9)
def zeS:=wo 8 1 (dn 104 8)
def zba:=wo 4 4 (dn 100 4)
def zeK:=wo 2 2 [98,97]
def znK:=wo 0 2 []
def zAF:=z3 [1,1,1,1,1,0,0,0,1,0,1,0,0,1,0,0,1,1,1,1,1,1,1,0]
def zx3:=z3 [1,1,1,1,1,0,0,0,1,0,1,0,0,1,1]
def zbI:=subC [1,1,1,1,1,0,0,0,1,0,1,0] yO
def zcd:=comp pc0 qc zbI
def zA6:=z3 [1,1,1,1,1,0,0,0,1,1,0,0]
def zyK:=z3 [1,1,1,1,1,0,0,0,1,1,0,1,0,0]
def zx8:=z3 [1,1,1,1,1,0,0,0,1,1,1,0]
def zy2:=z3 [1,1,1,1,1,0,0,0,1,1,1,1,0,0]
def zBA:=z3 [1,1,1,1,1,0,0,0,1,1,1,1,0,1]
def zy5:=z3 [1,1,1,1,1,0,0,0,1,1,1,1,1,0]
def zBM:=z3 [1,1,1,1,1,0,0,0,1,1,1,1,1,1]
def zfB:=subC [1,1,1,1,1,0] yO
def zcc:=comp pc0 qc zfB
def zGy:=comp pc0 qc yO
def zDY:=finN (resC pc0 qc (resOf Tryz.prog 72)).run
theorem zJB :
 ((((((∀ r s x0 x1 x2,(fnC pc0 72).run r [x0,x1,x2] s=outF (bindR (fun t s=>zDY t s) (zGy.run r (sp 2 x2 (sp 1 x1 (sp 0 x0 T.new))) s))) ∧
 ((∀ s t,zDY t s=finV (gp 240 t) (resV [gp 6 t] s)) ∧
 (∀ r s t,zGy.run r t s=seqA (fun t s=>seqA (fun t s=>seqA (fun t s=>seqA (fun t s=>seqA (fun t s=>zh 0 (zcc.run r t s)) (seqA (fun t s=>condV (gp 16 t) (zyA.run r t s) (.nrm t s)) (zBm.run r t s))) (zGc.run r t s)) (zFm.run r t s)) (zGD.run r t s)) (zEk.run r t s)))) ∧
 ((∀ g r s t le,(zwf g).run r t (le) s=xBin ⟨7,[]⟩ true .eql (gp 0 t) (V.nat .i64 3) fun v1=>g.run r t (v1::v1::gp 0 t::le) s) ∧
 ((∀ g r s t le,(zhW g).run r t (.bool true::le) s=g.run r t (Go.Ev.undef::Go.Ev.undef::.bool true::le) s) ∧
 (∀ g r s t le,(zhW g).run r t (.bool false::le) s=xBin ⟨7,[]⟩ true .eql (gp 0 t) (V.nat .i64 4) fun v4=>g.run r t (v4::gp 0 t::.bool false::le) s)))) ∧
 (((∀ g r s t le x0 x1 x2,(zsc g).run r t (x0::x1::x2::le) s=xPick x2 (fun _=>g.run r (sp 8 (V.bool true) t) (V.bool true::V.bool true::x0::x1::x2::le) s) (fun _=>g.run r (sp 8 x0 t) (x0::x0::x0::x1::x2::le) s)) ∧
 ((∀ g r s t le,(zpy g).run r t (le) s=g.run r t (gp 8 t::gp 8 t::le) s) ∧
 (∀ g r s t le,(zdW g).run r t (.bool true::le) s=za 0 (gp 12 t) fun v2=>xLoad false 1 v2 s fun v3 s=>xBin ⟨9,[]⟩ false .lss v3 (gp 9 t) fun v5=>g.run r t (v5::gp 9 t::v3::v2::.bool true::le) s))) ∧
 (((∀ g r s t le,(zdW g).run r t (.bool false::le) s=g.run r t (Go.Ev.undef::Go.Ev.undef::Go.Ev.undef::Go.Ev.undef::.bool false::le) s) ∧
 (∀ g r s t le x0 x1 x2 x3 x4,(zo2 g).run r t (x0::x1::x2::x3::x4::le) s=xPick x4 (fun _=>g.run r t (x0::x0::x0::x1::x2::x3::x4::le) s) (fun _=>g.run r t (V.bool false::V.bool false::x0::x1::x2::x3::x4::le) s))) ∧
 ((∀ g r s t le,(zd7 g).run r t (.bool true::le) s=g.run r t (Go.Ev.undef::Go.Ev.undef::Go.Ev.undef::.bool true::le) s) ∧
 (∀ g r s t le,(zd7 g).run r t (.bool false::le) s=xUn .not (gp 8 t) fun v9=>g.run r t (v9::v9::gp 8 t::.bool false::le) s))))) ∧
 ((((∀ g r s t le,(wA g).run r t (.bool true::le) s=za 1 (gp 12 t) fun v11=>xLoad false 1 v11 s fun v12 s=>xBin ⟨9,[]⟩ false .gtr v12 (gp 9 t) fun v14=>g.run r t (v14::gp 9 t::v12::v11::.bool true::le) s) ∧
 ((∀ g r s t le,(wA g).run r t (.bool false::le) s=g.run r t (Go.Ev.undef::Go.Ev.undef::Go.Ev.undef::Go.Ev.undef::.bool false::le) s) ∧
 (∀ g r s t le,(wA g).run r t (Go.Ev.undef::le) s=g.run r t (Go.Ev.undef::Go.Ev.undef::Go.Ev.undef::Go.Ev.undef::Go.Ev.undef::le) s))) ∧
 ((∀ g r s t le x0 x1 x2 x3 x4 x5 x6,(zcw g).run r t (x0::x1::x2::x3::x4::x5::x6::.bool true::le) s=g.run r t (Go.Ev.undef::x0::x1::x2::x3::x4::x5::x6::.bool true::le) s) ∧
 ((∀ g r s t le x0 x1 x2 x3 x4 x5 x6,(zcw g).run r t (x0::x1::x2::x3::x4::x5::x6::.bool false::le) s=xPick x4 (fun _=>g.run r t (x0::x0::x1::x2::x3::x4::x5::x6::.bool false::le) s) (fun _=>g.run r t (V.bool false::x0::x1::x2::x3::x4::x5::x6::.bool false::le) s)) ∧
 (∀ g r s t le x0 x1 x2 x3 x4 x5 x6 x7 x8,(zij g).run r t (x0::x1::x2::x3::x4::x5::x6::x7::x8::le) s=xPick x8 (fun _=>g.run r (sp 18 (V.bool true) t) (V.bool true::x0::x1::x2::x3::x4::x5::x6::x7::x8::le) s) (fun _=>g.run r (sp 18 x0 t) (x0::x0::x1::x2::x3::x4::x5::x6::x7::x8::le) s))))) ∧
 (((∀ g r s t le,(zoU g).run r t (le) s=g.run r t (gp 8 t::gp 8 t::le) s) ∧
 ((∀ g r s t le,(zep g).run r t (.bool true::le) s=za 0 (gp 12 t) fun v2=>xLoad false 1 v2 s fun v3 s=>za 0 (gp 13 t) fun v4=>xLoad false 1 v4 s fun v5 s=>xBin ⟨9,[]⟩ false .lss v3 v5 fun v6=>g.run r t (v6::v5::v4::v3::v2::.bool true::le) s) ∧
 (∀ g r s t le,(zep g).run r t (.bool false::le) s=g.run r t (Go.Ev.undef::Go.Ev.undef::Go.Ev.undef::Go.Ev.undef::Go.Ev.undef::.bool false::le) s))) ∧
 (((∀ g r s t le x0 x1 x2 x3 x4 x5,(znb g).run r t (x0::x1::x2::x3::x4::x5::le) s=xPick x5 (fun _=>g.run r t (x0::x0::x0::x1::x2::x3::x4::x5::le) s) (fun _=>g.run r t (V.bool false::V.bool false::x0::x1::x2::x3::x4::x5::le) s)) ∧
 (∀ g r s t le,(zen g).run r t (.bool true::le) s=g.run r t (Go.Ev.undef::Go.Ev.undef::Go.Ev.undef::.bool true::le) s)) ∧
 ((∀ g r s t le,(zen g).run r t (.bool false::le) s=xUn .not (gp 8 t) fun v10=>g.run r t (v10::v10::gp 8 t::.bool false::le) s) ∧
 (∀ g r s t le,(wG g).run r t (.bool true::le) s=za 1 (gp 12 t) fun v12=>xLoad false 1 v12 s fun v13 s=>za 1 (gp 13 t) fun v14=>xLoad false 1 v14 s fun v15 s=>xBin ⟨9,[]⟩ false .gtr v13 v15 fun v16=>g.run r t (v16::v15::v14::v13::v12::.bool true::le) s)))))) ∧
 (((((∀ g r s t le,(wG g).run r t (.bool false::le) s=g.run r t (Go.Ev.undef::Go.Ev.undef::Go.Ev.undef::Go.Ev.undef::Go.Ev.undef::.bool false::le) s) ∧
 ((∀ g r s t le,(wG g).run r t (Go.Ev.undef::le) s=g.run r t (Go.Ev.undef::Go.Ev.undef::Go.Ev.undef::Go.Ev.undef::Go.Ev.undef::Go.Ev.undef::le) s) ∧
 (∀ g r s t le x0 x1 x2 x3 x4 x5 x6 x7,(zcU g).run r t (x0::x1::x2::x3::x4::x5::x6::x7::.bool true::le) s=g.run r t (Go.Ev.undef::x0::x1::x2::x3::x4::x5::x6::x7::.bool true::le) s))) ∧
 ((∀ g r s t le x0 x1 x2 x3 x4 x5 x6 x7,(zcU g).run r t (x0::x1::x2::x3::x4::x5::x6::x7::.bool false::le) s=xPick x5 (fun _=>g.run r t (x0::x0::x1::x2::x3::x4::x5::x6::x7::.bool false::le) s) (fun _=>g.run r t (V.bool false::x0::x1::x2::x3::x4::x5::x6::x7::.bool false::le) s)) ∧
 ((∀ g r s t le x0 x1 x2 x3 x4 x5 x6 x7 x8 x9,(zjA g).run r t (x0::x1::x2::x3::x4::x5::x6::x7::x8::x9::le) s=xPick x9 (fun _=>g.run r (sp 14 (V.bool true) t) (V.bool true::V.bool true::x0::x1::x2::x3::x4::x5::x6::x7::x8::x9::le) s) (fun _=>g.run r (sp 14 x0 t) (x0::x0::x0::x1::x2::x3::x4::x5::x6::x7::x8::x9::le) s)) ∧
 (∀ g r s t le,(zo4 g).run r t (le) s=g.run r t (gp 8 t::gp 8 t::le) s)))) ∧
 (((∀ g r s t le,(zeH g).run r t (.bool true::le) s=za 0 (gp 12 t) fun v2=>xLoad false 1 v2 s fun v3 s=>za 0 (gp 13 t) fun v4=>xLoad false 1 v4 s fun v5 s=>xBin ⟨7,[]⟩ false .eql v3 v5 fun v6=>g.run r t (v6::v5::v4::v3::v2::.bool true::le) s) ∧
 ((∀ g r s t le,(zeH g).run r t (.bool false::le) s=g.run r t (Go.Ev.undef::Go.Ev.undef::Go.Ev.undef::Go.Ev.undef::Go.Ev.undef::.bool false::le) s) ∧
 (∀ g r s t le x0 x1 x2 x3 x4 x5,(zpo g).run r t (x0::x1::x2::x3::x4::x5::le) s=xPick x5 (fun _=>g.run r t (x0::x0::x0::x1::x2::x3::x4::x5::le) s) (fun _=>g.run r t (V.bool false::V.bool false::x0::x1::x2::x3::x4::x5::le) s)))) ∧
 (((∀ g r s t le,(zfj g).run r t (.bool true::le) s=g.run r t (Go.Ev.undef::Go.Ev.undef::Go.Ev.undef::.bool true::le) s) ∧
 (∀ g r s t le,(zfj g).run r t (.bool false::le) s=xUn .not (gp 8 t) fun v10=>g.run r t (v10::v10::gp 8 t::.bool false::le) s)) ∧
 ((∀ g r s t le,(wz g).run r t (.bool true::le) s=za 1 (gp 12 t) fun v12=>xLoad false 1 v12 s fun v13 s=>za 1 (gp 13 t) fun v14=>xLoad false 1 v14 s fun v15 s=>xBin ⟨7,[]⟩ false .eql v13 v15 fun v16=>g.run r t (v16::v15::v14::v13::v12::.bool true::le) s) ∧
 (∀ g r s t le,(wz g).run r t (.bool false::le) s=g.run r t (Go.Ev.undef::Go.Ev.undef::Go.Ev.undef::Go.Ev.undef::Go.Ev.undef::.bool false::le) s))))) ∧
 ((((∀ g r s t le,(wz g).run r t (Go.Ev.undef::le) s=g.run r t (Go.Ev.undef::Go.Ev.undef::Go.Ev.undef::Go.Ev.undef::Go.Ev.undef::Go.Ev.undef::le) s) ∧
 ((∀ g r s t le x0 x1 x2 x3 x4 x5 x6 x7,(zdy g).run r t (x0::x1::x2::x3::x4::x5::x6::x7::.bool true::le) s=g.run r t (Go.Ev.undef::x0::x1::x2::x3::x4::x5::x6::x7::.bool true::le) s) ∧
 (∀ g r s t le x0 x1 x2 x3 x4 x5 x6 x7,(zdy g).run r t (x0::x1::x2::x3::x4::x5::x6::x7::.bool false::le) s=xPick x5 (fun _=>g.run r t (x0::x0::x1::x2::x3::x4::x5::x6::x7::.bool false::le) s) (fun _=>g.run r t (V.bool false::x0::x1::x2::x3::x4::x5::x6::x7::.bool false::le) s)))) ∧
 ((∀ g r s t le x0 x1 x2 x3 x4 x5 x6 x7 x8 x9,(zlA g).run r t (x0::x1::x2::x3::x4::x5::x6::x7::x8::x9::le) s=xPick x9 (fun _=>g.run r (sp 15 (V.bool true) t) (V.bool true::V.bool true::x0::x1::x2::x3::x4::x5::x6::x7::x8::x9::le) s) (fun _=>g.run r (sp 15 x0 t) (x0::x0::x0::x1::x2::x3::x4::x5::x6::x7::x8::x9::le) s)) ∧
 ((∀ g r s t le,(znK g).run r t (le) s=g.run r t (gp 14 t::gp 14 t::le) s) ∧
 (∀ g r s t le,(zeK g).run r t (.bool true::le) s=g.run r t (Go.Ev.undef::Go.Ev.undef::.bool true::le) s)))) ∧
 (((∀ g r s t le,(zeK g).run r t (.bool false::le) s=g.run r t (gp 15 t::gp 15 t::.bool false::le) s) ∧
 ((∀ g r s t le,(zba g).run r t (.bool true::le) s=xLoad true 3 (gp 12 t) s fun v5 s=>xLoad true 3 (gp 13 t) s fun v6 s=>foldF (r.call 112 [gp 0 t,v5,v6] s) fun v7 s=>g.run r t (v7::v6::v5::gp 0 t::.bool true::le) s) ∧
 (∀ g r s t le,(zba g).run r t (.bool false::le) s=g.run r t (Go.Ev.undef::Go.Ev.undef::Go.Ev.undef::Go.Ev.undef::.bool false::le) s))) ∧
 (((∀ g r s t le,(zba g).run r t (Go.Ev.undef::le) s=g.run r t (Go.Ev.undef::Go.Ev.undef::Go.Ev.undef::Go.Ev.undef::Go.Ev.undef::le) s) ∧
 (∀ g r s t le x0 x1 x2 x3 x4 x5,(zeS g).run r t (x0::x1::x2::x3::x4::x5::.bool true::le) s=g.run r t (Go.Ev.undef::x0::x1::x2::x3::x4::x5::.bool true::le) s)) ∧
 ((∀ g r s t le x0 x1 x2 x3 x4 x5,(zeS g).run r t (x0::x1::x2::x3::x4::x5::.bool false::le) s=xPick x4 (fun _=>g.run r t (x0::x0::x1::x2::x3::x4::x5::.bool false::le) s) (fun _=>g.run r t (V.bool false::x0::x1::x2::x3::x4::x5::.bool false::le) s)) ∧
 (∀ g r s t le x0 x1 x2 x3 x4 x5 x6 x7,(zol g).run r t (x0::x1::x2::x3::x4::x5::x6::x7::le) s=xPick x7 (fun _=>g.run r (sp 20 (V.bool true) t) (V.bool true::x0::x1::x2::x3::x4::x5::x6::x7::le) s) (fun _=>g.run r (sp 20 x0 t) (x0::x0::x1::x2::x3::x4::x5::x6::x7::le) s)))))))):=by
 and_intros<;>(intros;kernel_rfl)
theorem zBg:∀ r s t,zEk.run r t s=.nrm (sp 6 (V.nil 1) t) s:=reg1 1
theorem zCB:∀ r s t,zGD.run r t s=.nrm (sp 7 (V.nil 1) t) s:=reg1 1
theorem zCT:∀ r s t,zFm.run r t s=(zwf (zhW (zsc nilL))).run r t [] s:=zt (by kernel_rfl) (chS rfl (by kernel_rfl) (chS rfl (by kernel_rfl) chL))
theorem zzG:∀ r s t,zGc.run r t s=.nrm (sp 9 (gp 2 t) t) s:=reg1 2
theorem zxv:∀ r s t,zBm.run r t s=.nrm (sp 16 (gp 8 t) t) s:=reg1 1
theorem zvX:∀ r s t,zyA.run r t s=.nrm (sp 9 (V.nat .i64 0) t) s:=reg1 1
theorem zr8:∀ r s t,zAE.run r t s=.nrm (sp 10 (V.neg .i64 0) t) s:=reg1 1
theorem zrc:∀ r s t,zyh.run r t s=.nrm (sp 11 (V.nat .i64 0) t) s:=reg1 1
theorem ztL:∀ r s t,zzK.run r t s=xLenS (gp 1 t) fun v2=>xBin ⟨9,[]⟩ false .lss (gp 11 t) v2 fun v3=>.nrm (sp 17 v3 t) s:=reg1 4
theorem zti:∀ r s t,zCi.run r t s=zb 3 (gp 1 t) (gp 11 t) fun v2=>xLoad true 3 v2 s fun v3 s=>Go.Ev.newRow s 154 [V.nat .i64 0,V.nat .i64 0,V.nat .i64 0] false fun a4k _ s=>zK 3 (V.ptr a4k 0 0) v3 s fun _ s=>.nrm (sp 12 (V.ptr a4k 0 0) t) s:=reg1 6
theorem zs2:∀ r s t,zzr.run r t s=(zpy (zdW (zo2 (zd7 (wA (zcw (zij nilL))))))).run r t [] s:=zt (by kernel_rfl) (chS rfl (by kernel_rfl) (chS rfl (by kernel_rfl) (chS rfl (by kernel_rfl) (chS rfl (by kernel_rfl) (chS rfl (by kernel_rfl) (chS rfl (by kernel_rfl) chL))))))
theorem zrT:∀ r s t,zyI.run r t s=xBin ⟨9,[]⟩ false .lss (gp 10 t) (V.nat .i64 0) fun v1=>.nrm (sp 19 v1 t) s:=reg1 2
theorem zxb:∀ r s t,zyX.run r t s=.nrm (sp 10 (gp 11 t) t) s:=reg1 2
theorem zvM:∀ r s t,zAX.run r t s=zb 3 (gp 1 t) (gp 10 t) fun v2=>xLoad true 3 v2 s fun v3 s=>Go.Ev.newRow s 154 [V.nat .i64 0,V.nat .i64 0,V.nat .i64 0] false fun a4k _ s=>zK 3 (V.ptr a4k 0 0) v3 s fun _ s=>.nrm (sp 13 (V.ptr a4k 0 0) t) s:=reg1 6
theorem zv8:∀ r s t,zB9.run r t s=(zoU (zep (znb (zen (wG (zcU (zjA nilL))))))).run r t [] s:=zt (by kernel_rfl) (chS rfl (by kernel_rfl) (chS rfl (by kernel_rfl) (chS rfl (by kernel_rfl) (chS rfl (by kernel_rfl) (chS rfl (by kernel_rfl) (chS rfl (by kernel_rfl) chL))))))
theorem zu0:∀ r s t,zyq.run r t s=(zo4 (zeH (zpo (zfj (wz (zdy (zlA nilL))))))).run r t [] s:=zt (by kernel_rfl) (chS rfl (by kernel_rfl) (chS rfl (by kernel_rfl) (chS rfl (by kernel_rfl) (chS rfl (by kernel_rfl) (chS rfl (by kernel_rfl) (chS rfl (by kernel_rfl) chL))))))
theorem zuF:∀ r s t,zAH.run r t s=(znK (zeK (zba (zeS (zol nilL))))).run r t [] s:=zt (by kernel_rfl) (chS rfl (by kernel_rfl) (chS rfl (by kernel_rfl) (chS rfl (by kernel_rfl) (chS rfl (by kernel_rfl) chL))))
theorem zto:∀ r s t,zAF.run r t s=.nrm (sp 10 (gp 11 t) t) s:=reg1 2
theorem zvl:∀ r s t,zx3.run r t s=xBin ⟨9,[]⟩ false .add (gp 11 t) (V.nat .i64 1) fun v1=>.nrm (sp 11 v1 t) s:=reg1 3
theorem zvi:∀ r s t,zA6.run r t s=xBin ⟨9,[]⟩ false .lss (gp 10 t) (V.nat .i64 0) fun v1=>.nrm (sp 21 v1 t) s:=reg1 2
theorem zrY:∀ r s t,zyK.run r t s=.nrm (sp 6 (gp 7 t) t) s:=reg1 2
theorem zt8:∀ r s t,zx8.run r t s=.nrm (sp 22 (gp 8 t) t) s:=reg1 1
theorem zu5:∀ r s t,zy2.run r t s=zb 3 (gp 1 t) (gp 10 t) fun v3=>xLoad true 3 v3 s fun v4 s=>repL [V.nat .i64 0,V.nat .i64 0,V.nat .i64 0] 1 fun l5z=>zk 3 v4 fun x5_0=>updL x5_0 0 l5z fun l5_0=>Go.Ev.newRow s 154 l5_0 false fun a5k _ s=>zM 154 3 (gp 7 t) (V.sl a5k 0 0 1 1) s fun v6 s=>.nrm (sp 7 v6 t) s:=reg1 8
theorem zu7:∀ r s t,zBA.run r t s=zb 3 (gp 1 t) (gp 10 t) fun v2=>za 1 v2 fun v3=>xLoad false 1 v3 s fun v4 s=>.nrm (sp 9 v4 t) s:=reg1 6
theorem zul:∀ r s t,zy5.run r t s=zb 3 (gp 1 t) (gp 10 t) fun v2=>xLoad true 3 v2 s fun v3 s=>repL [V.nat .i64 0,V.nat .i64 0,V.nat .i64 0] 1 fun l4z=>zk 3 v3 fun x4_0=>updL x4_0 0 l4z fun l4_0=>Go.Ev.newRow s 154 l4_0 false fun a4k _ s=>zM 154 3 (V.sl a4k 0 0 1 1) (gp 7 t) s fun v6 s=>.nrm (sp 7 v6 t) s:=reg1 8
theorem zvn:∀ r s t,zBM.run r t s=zb 3 (gp 1 t) (gp 10 t) fun v2=>za 0 v2 fun v3=>xLoad false 1 v3 s fun v4 s=>.nrm (sp 9 v4 t) s:=reg1 6
theorem zHl:sizeC zbI=129:=by kernel_rfl
theorem zHr:sizeC zfB=189:=by kernel_rfl
theorem ji:∀ r s t,zcd.run r t s=seqA (fun t s=>r.code qc zbI t s) (seqA (fun t s=>seqA (fun t s=>zx3.run r t s) (zh 3 (seqA (fun t s=>seqA (fun t s=>seqA (fun t s=>seqA (fun t s=>seqA (fun t s=>seqA (fun t s=>seqA (fun t s=>condV (gp 20 t) (zAF.run r t s) (.nrm t s)) (zAH.run r t s)) (zyq.run r t s)) (zB9.run r t s)) (zAX.run r t s)) (seqA (fun t s=>condV (gp 19 t) (seqA (fun t s=>.ext 3 t s) (zyX.run r t s)) (.nrm t s)) (zyI.run r t s))) (seqA (fun t s=>condV (gp 18 t) (.ext 3 t s) (.nrm t s)) (zzr.run r t s))) (zCi.run r t s)))) (seqA (fun t s=>condV (gp 17 t) (.nrm t s) (.ext 2 t s)) (zzK.run r t s))):=by intros;kernel_rfl
theorem zHW:∀ r s t,zcc.run r t s=seqA (fun t s=>r.code qc zfB t s) (zh 1 (seqA (fun t s=>seqA (fun t s=>seqA (fun t s=>seqA (fun t s=>condV (gp 22 t) (seqA (fun t s=>zBA.run r t s) (zy2.run r t s)) (seqA (fun t s=>zBM.run r t s) (zy5.run r t s))) (zx8.run r t s)) (seqA (fun t s=>condV (gp 21 t) (seqA (fun t s=>.ret t s) (zyK.run r t s)) (.nrm t s)) (zA6.run r t s))) (seqA (fun t s=>zh 2 (zcd.run r t s)) (zyh.run r t s))) (zAE.run r t s))):=by intros;kernel_rfl
theorem ye:type_of% (aI zBg <| aI zCB <| aI zCT <| aI zzG <| aI zxv <| aI zvX <| aI zr8 <| aI zrc <| aI ztL <| aI zti <| aI zs2 <| aI zrT <| aI zxb <| aI zvM <| aI zv8 <| aI zu0 <| aI zuF <| aI zto <| aI zvl <| aI zvi <| aI zrY <| aI zt8 <| aI zu5 <| aI zu7 <| aI zul <| aI zvn <| zJB):=aI zBg <| aI zCB <| aI zCT <| aI zzG <| aI zxv <| aI zvX <| aI zr8 <| aI zrc <| aI ztL <| aI zti <| aI zs2 <| aI zrT <| aI zxb <| aI zvM <| aI zv8 <| aI zu0 <| aI zuF <| aI zto <| aI zvl <| aI zvi <| aI zrY <| aI zt8 <| aI zu5 <| aI zu7 <| aI zul <| aI zvn <| zJB
def wJ:FI:=⟨2251791223488448,51,4⟩
def zck:=zA Tryz.prog 74
def zaR (l:List Nat):=comp pc0 wJ (subC l zck)
def zEN:=zaR [0]
def zFV:=zaR [1,0]
def zGb:=subC [1,1,0,0,0,0,0] zck
def zEJ:=comp pc0 wJ zGb
def zhG:=qOf pc0 wJ zGb
def zop:=zhG 12 1 (dn 18 12)
def zhS:=zhG 5 7 (dn 11 5)
def zxm:=zhG 0 5 []
def zBp:=zaR [1,1,0,0,0,1,0]
def zFE:=subC [1,1,0,0] zck
def zF6:=comp pc0 wJ zFE
def zzb:=subC [1,1,1,0,0] zck
def zys:=comp pc0 wJ zzb
def zea:=qOf pc0 wJ zzb
def zi9:=zea 12 1 (dn 33 12)
def zfa:=zea 5 7 (dn 26 5)
def znh:=zea 0 5 []
def zzA:=zaR [1,1,1,0,1,0,0]
def zxX:=zaR [1,1,1,1,0]
def zyN:=zaR [1,1,1,1,1,0]
def zyo:=zaR [1,1,1,1,1,1,0]
def zBv:=zaR [1,1,1,1,1,1,1,0]
def zEB:=comp pc0 wJ zck
def zES:=finN (resC pc0 wJ (resOf Tryz.prog 74)).run
theorem zI6 :
 ((((∀ r s x0 x1,(fnC pc0 74).run r [x0,x1] s=outF (bindR (fun t s=>zES t s) (zEB.run r (sp 1 x1 (sp 0 x0 T.new)) s))) ∧
 (∀ s t,zES t s=finV (gp 240 t) (resV [gp 4 t] s))) ∧
 ((∀ r s t,zEB.run r t s=seqA (fun t s=>seqA (fun t s=>seqA (fun t s=>seqA (fun t s=>seqA (fun t s=>seqA (fun t s=>seqA (fun t s=>seqA (fun t s=>.ret t s) (zBv.run r t s)) (zyo.run r t s)) (zyN.run r t s)) (zxX.run r t s)) (seqA (fun t s=>condV (gp 7 t) (seqA (fun t s=>.ret t s) (zzA.run r t s)) (.nrm t s)) (zys.run r t s))) (zh 0 (zF6.run r t s))) (zFV.run r t s)) (zEN.run r t s)) ∧
 ((∀ g r s t le,(zxm g).run r t (le) s=xLenS (gp 0 t) fun v2=>xBin ⟨9,[]⟩ false .lss (gp 5 t) v2 fun v3=>g.run r t (v3::v3::v2::gp 0 t::gp 5 t::le) s) ∧
 (∀ g r s t le,(zhS g).run r t (.bool true::le) s=zb 1 (gp 0 t) (gp 5 t) fun v7=>xLoad false 1 v7 s fun v8 s=>foldF (r.call 20 [v8,gp 1 t] s) fun v10 s=>xBin ⟨9,[]⟩ false .lss v10 (V.nat .i64 0) fun v11=>g.run r t (v11::v10::gp 1 t::v8::v7::gp 5 t::gp 0 t::.bool true::le) s)))) ∧
 (((∀ g r s t le,(zhS g).run r t (.bool false::le) s=g.run r t (Go.Ev.undef::Go.Ev.undef::Go.Ev.undef::Go.Ev.undef::Go.Ev.undef::Go.Ev.undef::Go.Ev.undef::.bool false::le) s) ∧
 ((∀ g r s t le x0 x1 x2 x3 x4 x5 x6 x7,(zop g).run r t (x0::x1::x2::x3::x4::x5::x6::x7::le) s=xPick x7 (fun _=>g.run r (sp 6 x0 t) (x0::x0::x1::x2::x3::x4::x5::x6::x7::le) s) (fun _=>g.run r (sp 6 (V.bool false) t) (V.bool false::x0::x1::x2::x3::x4::x5::x6::x7::le) s)) ∧
 (∀ g r s t le,(znh g).run r t (le) s=xLenS (gp 0 t) fun v2=>xBin ⟨9,[]⟩ false .lss (gp 5 t) v2 fun v3=>g.run r t (v3::v3::v2::gp 0 t::gp 5 t::le) s))) ∧
 ((∀ g r s t le,(zfa g).run r t (.bool true::le) s=zb 1 (gp 0 t) (gp 5 t) fun v7=>xLoad false 1 v7 s fun v8 s=>foldF (r.call 20 [v8,gp 1 t] s) fun v10 s=>xBin ⟨7,[]⟩ true .eql v10 (V.nat .i64 0) fun v11=>g.run r t (v11::v10::gp 1 t::v8::v7::gp 5 t::gp 0 t::.bool true::le) s) ∧
 ((∀ g r s t le,(zfa g).run r t (.bool false::le) s=g.run r t (Go.Ev.undef::Go.Ev.undef::Go.Ev.undef::Go.Ev.undef::Go.Ev.undef::Go.Ev.undef::Go.Ev.undef::.bool false::le) s) ∧
 (∀ g r s t le x0 x1 x2 x3 x4 x5 x6 x7,(zi9 g).run r t (x0::x1::x2::x3::x4::x5::x6::x7::le) s=xPick x7 (fun _=>g.run r (sp 7 x0 t) (x0::x0::x1::x2::x3::x4::x5::x6::x7::le) s) (fun _=>g.run r (sp 7 (V.bool false) t) (V.bool false::x0::x1::x2::x3::x4::x5::x6::x7::le) s)))))):=by
 and_intros<;>(intros;kernel_rfl)
theorem zya:∀ r s t,zEN.run r t s=.nrm (sp 4 (V.nil 1) t) s:=reg1 1
theorem zAy:∀ r s t,zFV.run r t s=.nrm (sp 5 (V.nat .i64 0) t) s:=reg1 1
theorem zye:∀ r s t,zEJ.run r t s=(zxm (zhS (zop nilL))).run r t [] s:=zt (by kernel_rfl) (chS rfl (by kernel_rfl) (chS rfl (by kernel_rfl) chL))
theorem zwI:∀ r s t,zBp.run r t s=xBin ⟨9,[]⟩ false .add (gp 5 t) (V.nat .i64 1) fun v1=>.nrm (sp 5 v1 t) s:=reg1 3
theorem zuI:∀ r s t,zys.run r t s=(znh (zfa (zi9 nilL))).run r t [] s:=zt (by kernel_rfl) (chS rfl (by kernel_rfl) (chS rfl (by kernel_rfl) chL))
theorem zwo:∀ r s t,zzA.run r t s=.nrm (sp 4 (gp 0 t) t) s:=reg1 2
theorem zrP:∀ r s t,zxX.run r t s=repL [V.nil 1] 1 fun l1z=>zk 1 (V.nil 1) fun x1_0=>updL x1_0 0 l1z fun l1_0=>Go.Ev.newRow s 29 l1_0 false fun a1k _ s=>zM 29 1 (gp 0 t) (V.sl a1k 0 0 1 1) s fun v2 s=>.nrm (sp 0 v2 t) s:=reg1 4
theorem zs4:∀ r s t,zyN.run r t s=xBin ⟨9,[]⟩ false .add (gp 5 t) (V.nat .i64 1) fun v2=>qX 29 1 (gp 0 t) (some v2) none none s fun v3=>qX 29 1 (gp 0 t) (some (gp 5 t)) none none s fun v6=>xCopy 1 v3 v6 s fun _ s=>.nrm t s:=dreg1 8
theorem zsm:∀ r s t,zyo.run r t s=zb 1 (gp 0 t) (gp 5 t) fun v3=>zK 1 v3 (gp 1 t) s fun _ s=>.nrm t s:=reg1 5
theorem ztb:∀ r s t,zBv.run r t s=.nrm (sp 4 (gp 0 t) t) s:=reg1 2
theorem zJ5:∀ r s t,zF6.run r t s=seqA (fun t s=>r.code wJ zFE t s) (seqA (fun t s=>zh 1 (zBp.run r t s)) (seqA (fun t s=>condV (gp 6 t) (.nrm t s) (.ext 0 t s)) (zEJ.run r t s))):=by intros;kernel_rfl
theorem zLF:type_of% (aI zya <| aI zAy <| aI zye <| aI zwI <| aI zuI <| aI zwo <| aI zrP <| aI zs4 <| aI zsm <| aI ztb <| zI6):=aI zya <| aI zAy <| aI zye <| aI zwI <| aI zuI <| aI zwo <| aI zrP <| aI zs4 <| aI zsm <| aI ztb <| zI6
def zfq:FI:=⟨1180591618518388029440,70,4⟩
def zmm:=zA Tryz.prog 75
def ym (l:List Nat):=comp pc0 zfq (subC l zmm)
def zFz:=ym [0]
def zGl:=ym [1,0]
def zFo:=ym [1,1,0]
def zF5:=ym [1,1,1,0,0]
def zzu:=ym [1,1,1,0,1,0,0,0,0]
def zBG:=ym [1,1,1,0,1,0,0,1,0,0,0]
def zBV:=ym [1,1,1,0,1,0,0,1,0,0,1,0]
def zBt:=ym [1,1,1,0,1,0,0,1,0,0,1,1,0]
def zyj:=ym [1,1,1,0,1,0,0,1,0,0,1,1,1,0,0]
def zBs:=ym [1,1,1,0,1,0,0,1,0,0,1,1,1,0,1,0]
def zA5:=ym [1,1,1,0,1,0,0,1,0,0,1,1,1,1,0]
def zyL:=ym [1,1,1,0,1,0,0,1,0,0,1,1,1,1,1]
def zAi:=ym [1,1,1,0,1,0,0,1,1]
def zfy:=subC [1,1,1,0,1,0] zmm
def zca:=comp pc0 zfq zfy
def zzR:=ym [1,1,1,1,0]
def zHc:=comp pc0 zfq zmm
def zGd:=finN (resC pc0 zfq (resOf Tryz.prog 75)).run
theorem zIw :
 ((∀ r s x0 x1 x2,(fnC pc0 75).run r [x0,x1,x2] s=outF (bindR (fun t s=>zGd t s) (zHc.run r (sp 2 x2 (sp 1 x1 (sp 0 x0 T.new))) s))) ∧
 ((∀ s t,zGd t s=finV (gp 240 t) (resV [gp 6 t] s)) ∧
 (∀ r s t,zHc.run r t s=seqA (fun t s=>seqA (fun t s=>seqA (fun t s=>seqA (fun t s=>seqA (fun t s=>.ret t s) (zzR.run r t s)) (seqA (fun t s=>zh 0 (zca.run r t s)) (zF5.run r t s))) (zFo.run r t s)) (zGl.run r t s)) (zFz.run r t s)))):=by
 and_intros<;>(intros;kernel_rfl)
theorem zBH:∀ r s t,zFz.run r t s=zk 16 (gp 0 t) fun l0=>Go.Ev.newRow s 37 l0 false fun a0k _ s=>.nrm (sp 6 (V.nil 1) (sp 3 (V.ptr a0k 0 0) t)) s:=reg1 2
theorem zCy:∀ r s t,zGl.run r t s=.nrm (sp 7 (V.nil 1) t) s:=reg1 1
theorem zze:∀ r s t,zFo.run r t s=.nrm (sp 8 (V.nat .i64 0) t) s:=reg1 1
theorem zB6:∀ r s t,zF5.run r t s=.nrm (sp 9 (V.nat .i64 0) t) s:=reg1 1
theorem zw0:∀ r s t,zzu.run r t s=xLenS (gp 2 t) fun v2=>xBin ⟨9,[]⟩ false .lss (gp 9 t) v2 fun v3=>.nrm (sp 11 v3 t) s:=reg1 4
theorem zud:∀ r s t,zBG.run r t s=za 1 (gp 3 t) fun v0=>xLoad false 1 v0 s fun v1 s=>zb 3 (gp 2 t) (gp 9 t) fun v4=>za 2 v4 fun v5=>xLoad false 1 v5 s fun v6 s=>zb 10 v1 v6 fun v7=>xLoad true 10 v7 s fun v8 s=>Go.Ev.newRow s 65 [V.nat .i64 0,V.nat .i64 0,V.nat .i64 0,V.str [],V.nat .i64 0,V.nat .i64 0,V.nil 1,V.bool false,V.nil 1,V.nil 1] false fun a9k _ s=>zK 10 (V.ptr a9k 0 0) v8 s fun _ s=>.nrm (sp 10 (V.ptr a9k 0 0) t) s:=dreg1 11
theorem zrr:∀ r s t,zBV.run r t s=zb 3 (gp 2 t) (gp 9 t) fun v5=>za 0 v5 fun v6=>xLoad false 1 v6 s fun v7 s=>qX 3 1 (gp 1 t) (some (gp 8 t)) (some v7) none s fun v8=>zM 3 1 (gp 7 t) v8 s fun v9 s=>.nrm (sp 7 v9 t) s:=reg1 11
theorem zv0:∀ r s t,zBt.run r t s=za 8 (gp 10 t) fun v1=>xLoad false 1 v1 s fun v2 s=>zM 3 1 (gp 7 t) v2 s fun v3 s=>.nrm (sp 7 v3 t) s:=reg1 5
theorem ztm:∀ r s t,zyj.run r t s=za 7 (gp 10 t) fun v0=>xLoad false 1 v0 s fun v1 s=>.nrm (sp 12 v1 t) s:=reg1 2
theorem zrm:∀ r s t,zBs.run r t s=zb 3 (gp 2 t) (gp 9 t) fun v4=>za 0 v4 fun v5=>xLoad false 1 v5 s fun v6 s=>zb 3 (gp 2 t) (gp 9 t) fun v9=>za 1 v9 fun v10=>xLoad false 1 v10 s fun v11 s=>qX 3 1 (gp 1 t) (some v6) (some v11) none s fun v12=>zM 3 1 (gp 7 t) v12 s fun v13 s=>.nrm (sp 7 v13 t) s:=dreg1 15
theorem zs8:∀ r s t,zA5.run r t s=za 9 (gp 10 t) fun v1=>xLoad false 1 v1 s fun v2 s=>zM 3 1 (gp 7 t) v2 s fun v3 s=>.nrm (sp 7 v3 t) s:=reg1 5
theorem zsG:∀ r s t,zyL.run r t s=zb 3 (gp 2 t) (gp 9 t) fun v2=>za 1 v2 fun v3=>xLoad false 1 v3 s fun v4 s=>.nrm (sp 8 v4 t) s:=reg1 6
theorem zwY:∀ r s t,zAi.run r t s=xBin ⟨9,[]⟩ false .add (gp 9 t) (V.nat .i64 1) fun v1=>.nrm (sp 9 v1 t) s:=reg1 3
theorem ztz:∀ r s t,zzR.run r t s=qX 3 1 (gp 1 t) (some (gp 8 t)) none none s fun v3=>zM 3 1 (gp 7 t) v3 s fun v4 s=>.nrm (sp 6 v4 t) s:=reg1 6
theorem zId:sizeC zfy=87:=by kernel_rfl
theorem zrj:∀ r s t,zca.run r t s=seqA (fun t s=>r.code zfq zfy t s) (seqA (fun t s=>seqA (fun t s=>zAi.run r t s) (zh 1 (seqA (fun t s=>seqA (fun t s=>seqA (fun t s=>seqA (fun t s=>seqA (fun t s=>zyL.run r t s) (zA5.run r t s)) (seqA (fun t s=>condV (gp 12 t) (zBs.run r t s) (.nrm t s)) (zyj.run r t s))) (zBt.run r t s)) (zBV.run r t s)) (zBG.run r t s)))) (seqA (fun t s=>condV (gp 11 t) (.nrm t s) (.ext 0 t s)) (zzu.run r t s))):=by intros;kernel_rfl
theorem zjW:type_of% (aI zBH <| aI zCy <| aI zze <| aI zB6 <| aI zw0 <| aI zud <| aI zrr <| aI zv0 <| aI ztm <| aI zrm <| aI zs8 <| aI zsG <| aI zwY <| aI ztz <| zIw):=aI zBH <| aI zCy <| aI zze <| aI zB6 <| aI zw0 <| aI zud <| aI zrr <| aI zv0 <| aI ztm <| aI zrm <| aI zs8 <| aI zsG <| aI zwY <| aI ztz <| zIw
def yf:FI:=⟨2304717040586850048,61,4⟩
def wr:=zA Tryz.prog 110
def zU (l:List Nat):=comp pc0 yf (subC l wr)
def ztw:=zU [0]
def zux:=zU [1,0]
def ztK:=zU [1,1,0,0]
def zoL:=zU [1,1,0,1,0,0,0,0]
def zqH:=zU [1,1,0,1,0,0,1,0,0,0]
def zmN:=zU [1,1,0,1,0,0,1,0,0,1,0]
def zoz:=zU [1,1,0,1,0,0,1,0,0,1,1,0,0]
def zqO:=zU [1,1,0,1,0,0,1,0,0,1,1,0,1,0,0,0,0]
def zqx:=zU [1,1,0,1,0,0,1,0,0,1,1,0,1,0,0,1,0,0]
def zni:=zU [1,1,0,1,0,0,1,0,0,1,1,0,1,0,0,1,1]
def za2:=subC [1,1,0,1,0,0,1,0,0,1,1,0,1,0] wr
def wi:=comp pc0 yf za2
def zm0:=zU [1,1,0,1,0,0,1,0,0,1,1,1,0]
def zor:=zU [1,1,0,1,0,0,1,0,0,1,1,1,1,0,0,0,0]
def zoX:=zU [1,1,0,1,0,0,1,0,0,1,1,1,1,0,0,1,0,0]
def zpd:=zU [1,1,0,1,0,0,1,0,0,1,1,1,1,0,0,1,1]
def zpA:=subC [1,1,0,1,0,0,1,0,0,1,1,1,1,0] wr
def zqQ:=comp pc0 yf zpA
def zmK:=zU [1,1,0,1,0,0,1,1]
def zh2:=subC [1,1,0,1,0] wr
def zaN:=comp pc0 yf zh2
def zo7:=zU [1,1,1,0]
def ztk:=comp pc0 yf wr
def zxl:=finN (resC pc0 yf (resOf Tryz.prog 110)).run
theorem zAw :
 ((∀ r s x0,(fnC pc0 110).run r [x0] s=outF (bindR (fun t s=>zxl t s) (ztk.run r (sp 0 x0 T.new) s))) ∧
 ((∀ s t,zxl t s=finV (gp 240 t) (resV [gp 2 t] s)) ∧
 (∀ r s t,ztk.run r t s=seqA (fun t s=>seqA (fun t s=>seqA (fun t s=>seqA (fun t s=>.ret t s) (zo7.run r t s)) (seqA (fun t s=>zh 0 (zaN.run r t s)) (ztK.run r t s))) (zux.run r t s)) (ztw.run r t s)))):=by
 and_intros<;>(intros;kernel_rfl)
theorem zoK:∀ r s t,ztw.run r t s=zk 16 (gp 0 t) fun l0=>Go.Ev.newRow s 37 l0 false fun a0k _ s=>.nrm (sp 2 (V.nat .i64 0) (sp 1 (V.ptr a0k 0 0) t)) s:=reg1 2
theorem zos:∀ r s t,zux.run r t s=za 2 (gp 1 t) fun v0=>xLoad true 7 v0 s fun v1 s=>za 9 (gp 1 t) fun v2=>xLoad true 7 v2 s fun v3 s=>foldF (r.det.call 159 [v1] s) fun v4 s=>xLoad true 7 v2 s fun v5 s=>boolA (beqV v5 v3) (foldF (r.det.call 159 [v3] s) fun v6 s=>ya false [v6] v4 fun v7=>.nrm (sp 3 v7 t) s) (.bad 194):=dreg1 9
theorem znr:∀ r s t,ztK.run r t s=.nrm (sp 4 (V.nat .i64 0) t) s:=reg1 1
theorem ziV:∀ r s t,zoL.run r t s=za 1 (gp 1 t) fun v1=>xLoad false 1 v1 s fun v2 s=>xLenS v2 fun v3=>xBin ⟨9,[]⟩ false .lss (gp 4 t) v3 fun v4=>.nrm (sp 8 v4 t) s:=reg1 5
theorem zlL:∀ r s t,zqH.run r t s=za 1 (gp 1 t) fun v0=>xLoad false 1 v0 s fun v1 s=>zb 10 v1 (gp 4 t) fun v3=>xLoad true 10 v3 s fun v4 s=>Go.Ev.newRow s 65 [V.nat .i64 0,V.nat .i64 0,V.nat .i64 0,V.str [],V.nat .i64 0,V.nat .i64 0,V.nil 1,V.bool false,V.nil 1,V.nil 1] false fun a5k _ s=>zK 10 (V.ptr a5k 0 0) v4 s fun _ s=>.nrm (sp 5 (V.ptr a5k 0 0) t) s:=reg1 7
theorem zii:∀ r s t,zmN.run r t s=za 0 (gp 5 t) fun v1=>xLoad true 7 v1 s fun v2 s=>foldF (r.call 159 [v2] s) fun v3 s=>ya false [v3] (gp 3 t) fun v4=>.nrm (sp 3 v4 t) s:=reg1 6
theorem zlP:∀ r s t,zoz.run r t s=.nrm (sp 6 (V.nat .i64 0) t) s:=reg1 1
theorem zi5:∀ r s t,zqO.run r t s=za 8 (gp 5 t) fun v1=>xLoad false 1 v1 s fun v2 s=>xLenS v2 fun v3=>xBin ⟨9,[]⟩ false .lss (gp 6 t) v3 fun v4=>.nrm (sp 9 v4 t) s:=reg1 5
theorem zjj:∀ r s t,zqx.run r t s=za 8 (gp 5 t) fun v1=>xLoad false 1 v1 s fun v2 s=>zb 1 v2 (gp 6 t) fun v4=>xLoad false 1 v4 s fun v5 s=>ya false [v5] (gp 3 t) fun v6=>.nrm (sp 3 v6 t) s:=reg1 8
theorem zlN:∀ r s t,zni.run r t s=xBin ⟨9,[]⟩ false .add (gp 6 t) (V.nat .i64 1) fun v1=>.nrm (sp 6 v1 t) s:=reg1 3
theorem zjM:∀ r s t,zm0.run r t s=.nrm (sp 7 (V.nat .i64 0) t) s:=reg1 1
theorem zke:∀ r s t,zor.run r t s=za 9 (gp 5 t) fun v1=>xLoad false 1 v1 s fun v2 s=>xLenS v2 fun v3=>xBin ⟨9,[]⟩ false .lss (gp 7 t) v3 fun v4=>.nrm (sp 10 v4 t) s:=reg1 5
theorem zj4:∀ r s t,zoX.run r t s=za 9 (gp 5 t) fun v1=>xLoad false 1 v1 s fun v2 s=>zb 1 v2 (gp 7 t) fun v4=>xLoad false 1 v4 s fun v5 s=>ya false [v5] (gp 3 t) fun v6=>.nrm (sp 3 v6 t) s:=reg1 8
theorem zk1:∀ r s t,zpd.run r t s=xBin ⟨9,[]⟩ false .add (gp 7 t) (V.nat .i64 1) fun v1=>.nrm (sp 7 v1 t) s:=reg1 3
theorem zkd:∀ r s t,zmK.run r t s=xBin ⟨9,[]⟩ false .add (gp 4 t) (V.nat .i64 1) fun v1=>.nrm (sp 4 v1 t) s:=reg1 3
theorem zkI:∀ r s t,zo7.run r t s=.nrm (sp 2 (gp 3 t) t) s:=reg1 2
theorem zDi:sizeC za2=27:=by kernel_rfl
theorem zEH:sizeC zh2=98:=by kernel_rfl
theorem zjo:∀ r s t,wi.run r t s=seqA (fun t s=>r.code yf za2 t s) (seqA (fun t s=>seqA (fun t s=>zni.run r t s) (zh 3 (zqx.run r t s))) (seqA (fun t s=>condV (gp 9 t) (.nrm t s) (.ext 2 t s)) (zqO.run r t s))):=by intros;kernel_rfl
theorem zDj:∀ r s t,zqQ.run r t s=seqA (fun t s=>r.code yf zpA t s) (seqA (fun t s=>seqA (fun t s=>zpd.run r t s) (zh 5 (zoX.run r t s))) (seqA (fun t s=>condV (gp 10 t) (.nrm t s) (.ext 4 t s)) (zor.run r t s))):=by intros;kernel_rfl
theorem zod:∀ r s t,zaN.run r t s=seqA (fun t s=>r.code yf zh2 t s) (seqA (fun t s=>seqA (fun t s=>zmK.run r t s) (zh 1 (seqA (fun t s=>seqA (fun t s=>seqA (fun t s=>seqA (fun t s=>zh 4 (zqQ.run r t s)) (zm0.run r t s)) (seqA (fun t s=>zh 2 (wi.run r t s)) (zoz.run r t s))) (zmN.run r t s)) (zqH.run r t s)))) (seqA (fun t s=>condV (gp 8 t) (.nrm t s) (.ext 0 t s)) (zoL.run r t s))):=by intros;kernel_rfl
theorem jU:type_of% (aI zoK <| aI zos <| aI znr <| aI ziV <| aI zlL <| aI zii <| aI zlP <| aI zi5 <| aI zjj <| aI zlN <| aI zjM <| aI zke <| aI zj4 <| aI zk1 <| aI zkd <| aI zkI <| zAw):=aI zoK <| aI zos <| aI znr <| aI ziV <| aI zlL <| aI zii <| aI zlP <| aI zi5 <| aI zjj <| aI zlN <| aI zjM <| aI zke <| aI zj4 <| aI zk1 <| aI zkd <| aI zkI <| zAw
def qd:FI:=⟨87111610932532326191870328324693962981376,136,4⟩
def yV:=zA Tryz.prog 111
def zl (l:List Nat):=comp pc0 qd (subC l yV)
def znn:=zl [0]
def znG:=zl [1,0]
def zmW:=zl [1,1,0]
def zqe:=zl [1,1,1,0,0]
def ziH:=zl [1,1,1,0,1,0]
def zkG:=zl [1,1,1,1,0]
def ziz:=zl [1,1,1,1,1,0,0]
def zjS:=zl [1,1,1,1,1,0,1,0,0,0,0]
def ziZ:=zl [1,1,1,1,1,0,1,0,0,1,0,0]
def zlK:=zl [1,1,1,1,1,0,1,0,0,1,1]
def zdk:=subC [1,1,1,1,1,0,1,0] yV
def jD:=comp pc0 qd zdk
def zi6:=zl [1,1,1,1,1,1,0,0]
def ziC:=zl [1,1,1,1,1,1,0,1,0,0]
def zko:=zl [1,1,1,1,1,1,0,1,0,1,0,0]
def zi4:=zl [1,1,1,1,1,1,0,1,0,1,1,0,0]
def zlc:=zl [1,1,1,1,1,1,0,1,0,1,1,0,1,1]
def zjV:=zl [1,1,1,1,1,1,0,1,0,1,1,1,0,0]
def zjR:=zl [1,1,1,1,1,1,0,1,0,1,1,1,0,1,0,0]
def zjZ:=zl [1,1,1,1,1,1,0,1,0,1,1,1,0,1,0,1,0,0,0,0]
def zj0:=zl [1,1,1,1,1,1,0,1,0,1,1,1,0,1,0,1,0,0,1,0,0,0]
def zly:=zl [1,1,1,1,1,1,0,1,0,1,1,1,0,1,0,1,0,0,1,0,0,1,0]
def zjQ:=zl [1,1,1,1,1,1,0,1,0,1,1,1,0,1,0,1,0,0,1,0,0,1,1]
def zi0:=zl [1,1,1,1,1,1,0,1,0,1,1,1,0,1,0,1,0,0,1,1]
def zdg:=subC [1,1,1,1,1,1,0,1,0,1,1,1,0,1,0,1,0] yV
def jC:=comp pc0 qd zdg
def ziU:=zl [1,1,1,1,1,1,0,1,0,1,1,1,0,1,1,0]
def zkn:=zl [1,1,1,1,1,1,0,1,0,1,1,1,1,0]
def zlD:=zl [1,1,1,1,1,1,0,1,0,1,1,1,1,1,0,0]
def zki:=zl [1,1,1,1,1,1,0,1,0,1,1,1,1,1,1,0]
def zla:=zl [1,1,1,1,1,1,0,1,0,1,1,1,1,1,1,1,0,0]
def zle:=zl [1,1,1,1,1,1,0,1,0,1,1,1,1,1,1,1,1,0]
def zi1:=zl [1,1,1,1,1,1,0,1,0,1,1,1,1,1,1,1,1,1,0,0]
def zkT:=zl [1,1,1,1,1,1,0,1,0,1,1,1,1,1,1,1,1,1,1,0]
def zlM:=zl [1,1,1,1,1,1,0,1,0,1,1,1,1,1,1,1,1,1,1,1,0,0]
def zjD:=zl [1,1,1,1,1,1,1,0]
def zkc:=zl [1,1,1,1,1,1,1,1,0,0]
def zf8:=zl [1,1,1,1,1,1,1,1,0,1,0,0,0,0]
def zgb:=zl [1,1,1,1,1,1,1,1,0,1,0,0,1,0,0,0]
def zhh:=zl [1,1,1,1,1,1,1,1,0,1,0,0,1,0,0,1,0,0,0,0]
def zgf:=zl [1,1,1,1,1,1,1,1,0,1,0,0,1,0,0,1,0,0,1,0,0]
def zhf:=zl [1,1,1,1,1,1,1,1,0,1,0,0,1,0,0,1,0,0,1,1]
def j0:=subC [1,1,1,1,1,1,1,1,0,1,0,0,1,0,0,1,0] yV
def y6:=comp pc0 qd j0
def zhc:=zl [1,1,1,1,1,1,1,1,0,1,0,0,1,1]
def zbs:=subC [1,1,1,1,1,1,1,1,0,1,0] yV
def y7:=comp pc0 qd zbs
def zgm:=zl [1,1,1,1,1,1,1,1,1,0]
def zmP:=comp pc0 qd yV
def zqr:=finN (resC pc0 qd (resOf Tryz.prog 111)).run
theorem zvb :
 ((∀ r s x0 x1 x2,(fnC pc0 111).run r [x0,x1,x2] s=outF (bindR (fun t s=>zqr t s) (zmP.run r (sp 2 x2 (sp 1 x1 (sp 0 x0 T.new))) s))) ∧
 ((∀ s t,zqr t s=finV (gp 240 t) (resV [gp 6 t] s)) ∧
 (∀ r s t,zmP.run r t s=seqA (fun t s=>seqA (fun t s=>seqA (fun t s=>seqA (fun t s=>seqA (fun t s=>seqA (fun t s=>seqA (fun t s=>seqA (fun t s=>seqA (fun t s=>seqA (fun t s=>.ret t s) (zgm.run r t s)) (seqA (fun t s=>zh 5 (y7.run r t s)) (zkc.run r t s))) (zjD.run r t s)) (seqA (fun t s=>zh 2 (seqA (fun t s=>condV (gp 19 t) (seqA (fun t s=>.ret t s) (zko.run r t s)) (seqA (fun t s=>condV (gp 20 t) (seqA (fun t s=>seqA (fun t s=>seqA (fun t s=>.ret t s) (ziU.run r t s)) (seqA (fun t s=>zh 3 (jC.run r t s)) (zjR.run r t s))) (zjV.run r t s)) (seqA (fun t s=>condV (gp 23 t) (seqA (fun t s=>.ret t s) (zlD.run r t s)) (seqA (fun t s=>condV (gp 24 t) (seqA (fun t s=>.ret t s) (zla.run r t s)) (seqA (fun t s=>condV (gp 25 t) (seqA (fun t s=>.ret t s) (zi1.run r t s)) (seqA (fun t s=>condV (gp 26 t) (seqA (fun t s=>.ret t s) (zlM.run r t s)) (.nrm t s)) (zkT.run r t s))) (zle.run r t s))) (zki.run r t s))) (zkn.run r t s))) (seqA (fun t s=>condV (gp 20 t) (.nrm t s) (zlc.run r t s)) (zi4.run r t s)))) (ziC.run r t s))) (zi6.run r t s))) (seqA (fun t s=>zh 0 (jD.run r t s)) (ziz.run r t s))) (zkG.run r t s)) (seqA (fun t s=>condV (gp 16 t) (ziH.run r t s) (.nrm t s)) (zqe.run r t s))) (zmW.run r t s)) (znG.run r t s)) (znn.run r t s)))):=by
 and_intros<;>(intros;kernel_rfl)
theorem zlo:∀ r s t,znn.run r t s=zk 7 (gp 0 t) fun l0=>Go.Ev.newRow s 35 l0 false fun a0k _ s=>.nrm (sp 6 (V.nil 1) (sp 3 (V.ptr a0k 0 0) t)) s:=reg1 2
theorem zit:∀ r s t,znG.run r t s=xLenS (gp 2 t) fun v1=>.nrm (sp 7 v1 t) s:=reg1 3
theorem ziR:∀ r s t,zmW.run r t s=.nrm (sp 8 (gp 2 t) t) s:=reg1 2
theorem ziv:∀ r s t,zqe.run r t s=za 0 (gp 3 t) fun v0=>xLoad false 1 v0 s fun v1 s=>xBin ⟨7,[]⟩ true .eql v1 (V.nat .i64 19) fun v2=>.nrm (sp 16 v2 t) s:=reg1 3
theorem zgE:∀ r s t,ziH.run r t s=foldF (r.call 160 [gp 2 t] s) fun v1 s=>.nrm (sp 8 v1 t) s:=reg1 3
theorem zgr:∀ r s t,zkG.run r t s=.nrm (sp 9 (V.nil 1) t) s:=reg1 1
theorem zg0:∀ r s t,ziz.run r t s=.nrm (sp 10 (V.nat .i64 0) t) s:=reg1 1
theorem zf3:∀ r s t,zjS.run r t s=za 6 (gp 3 t) fun v1=>xLoad false 1 v1 s fun v2 s=>xLenS v2 fun v3=>xBin ⟨9,[]⟩ false .lss (gp 10 t) v3 fun v4=>.nrm (sp 17 v4 t) s:=reg1 5
theorem zhq:∀ r s t,ziZ.run r t s=za 6 (gp 3 t) fun v1=>xLoad false 1 v1 s fun v2 s=>zb 7 v2 (gp 10 t) fun v4=>xLoad true 7 v4 s fun v5 s=>foldF (r.call 111 [v5,gp 1 t,gp 8 t] s) fun v8 s=>repL [V.nil 1] 1 fun l9z=>zk 1 v8 fun x9_0=>updL x9_0 0 l9z fun l9_0=>Go.Ev.newRow s 233 l9_0 false fun a9k _ s=>zM 233 1 (gp 9 t) (V.sl a9k 0 0 1 1) s fun v10 s=>.nrm (sp 9 v10 t) s:=reg1 12
theorem zhn:∀ r s t,zlK.run r t s=xBin ⟨9,[]⟩ false .add (gp 10 t) (V.nat .i64 1) fun v1=>.nrm (sp 10 v1 t) s:=reg1 3
theorem zf9:∀ r s t,zi6.run r t s=za 0 (gp 3 t) fun v0=>xLoad false 1 v0 s fun v1 s=>.nrm (sp 18 v1 t) s:=reg1 2
theorem zgt:∀ r s t,ziC.run r t s=xBin ⟨7,[]⟩ true .eql (gp 18 t) (V.nat .i64 1) fun v0=>.nrm (sp 19 v0 t) s:=reg1 2
theorem zgz:∀ r s t,zko.run r t s=foldF (r.call 161 [gp 7 t] s) fun v1 s=>.nrm (sp 6 v1 t) s:=reg1 3
theorem zgR:∀ r s t,zi4.run r t s=xBin ⟨7,[]⟩ true .eql (gp 18 t) (V.nat .i64 5) fun v0=>.nrm (sp 20 v0 t) s:=reg1 2
theorem zgk:∀ r s t,zlc.run r t s=xBin ⟨7,[]⟩ true .eql (gp 18 t) (V.nat .i64 6) fun v0=>.nrm (sp 20 v0 t) s:=reg1 2
theorem zg3:∀ r s t,zjV.run r t s=zb 1 (gp 9 t) (V.nat .i64 0) fun v1=>xLoad false 1 v1 s fun v2 s=>.nrm (sp 11 v2 t) s:=reg1 4
theorem zg9:∀ r s t,zjR.run r t s=.nrm (sp 12 (V.nat .i64 1) t) s:=reg1 1
theorem zgU:∀ r s t,zjZ.run r t s=xLenS (gp 9 t) fun v2=>xBin ⟨9,[]⟩ false .lss (gp 12 t) v2 fun v3=>.nrm (sp 21 v3 t) s:=reg1 4
theorem zgp:∀ r s t,zj0.run r t s=za 0 (gp 3 t) fun v0=>xLoad false 1 v0 s fun v1 s=>xBin ⟨7,[]⟩ true .eql v1 (V.nat .i64 5) fun v2=>.nrm (sp 22 v2 t) s:=reg1 3
theorem zhj:∀ r s t,zly.run r t s=zb 1 (gp 9 t) (gp 12 t) fun v3=>xLoad false 1 v3 s fun v4 s=>foldF (r.call 162 [gp 11 t,v4] s) fun v5 s=>.nrm (sp 11 v5 t) s:=reg1 7
theorem zfT:∀ r s t,zjQ.run r t s=zb 1 (gp 9 t) (gp 12 t) fun v3=>xLoad false 1 v3 s fun v4 s=>foldF (r.call 163 [gp 11 t,v4] s) fun v5 s=>.nrm (sp 11 v5 t) s:=reg1 7
theorem zgK:∀ r s t,zi0.run r t s=xBin ⟨9,[]⟩ false .add (gp 12 t) (V.nat .i64 1) fun v1=>.nrm (sp 12 v1 t) s:=reg1 3
theorem zg1:∀ r s t,ziU.run r t s=.nrm (sp 6 (gp 11 t) t) s:=reg1 2
theorem zgB:∀ r s t,zkn.run r t s=xBin ⟨7,[]⟩ true .eql (gp 18 t) (V.nat .i64 7) fun v0=>.nrm (sp 23 v0 t) s:=reg1 2
theorem zge:∀ r s t,zlD.run r t s=zb 1 (gp 9 t) (V.nat .i64 0) fun v1=>xLoad false 1 v1 s fun v2 s=>foldF (r.call 164 [v2,V.nat .i64 0,gp 7 t] s) fun v4 s=>.nrm (sp 6 v4 t) s:=reg1 6
theorem zg8:∀ r s t,zki.run r t s=xBin ⟨7,[]⟩ true .eql (gp 18 t) (V.nat .i64 8) fun v0=>.nrm (sp 24 v0 t) s:=reg1 2
theorem zfU:∀ r s t,zla.run r t s=zb 1 (gp 9 t) (V.nat .i64 0) fun v1=>xLoad false 1 v1 s fun v2 s=>xBin ⟨9,[]⟩ false .add (gp 7 t) (V.nat .i64 1) fun v4=>foldF (r.call 164 [v2,V.nat .i64 1,v4] s) fun v5 s=>.nrm (sp 6 v5 t) s:=reg1 7
theorem zgN:∀ r s t,zle.run r t s=xBin ⟨7,[]⟩ true .eql (gp 18 t) (V.nat .i64 9) fun v0=>.nrm (sp 25 v0 t) s:=reg1 2
theorem zf1:∀ r s t,zi1.run r t s=zb 1 (gp 9 t) (V.nat .i64 0) fun v2=>xLoad false 1 v2 s fun v3 s=>foldF (r.det.call 161 [gp 7 t] s) fun v4 s=>xLoad false 1 v2 s fun v5 s=>boolA (beqV v5 v3) (foldF (r.det.call 163 [v4,v3] s) fun v6 s=>.nrm (sp 6 v6 t) s) (.bad 194):=dreg1 8
theorem zgq:∀ r s t,zkT.run r t s=xBin ⟨7,[]⟩ true .eql (gp 18 t) (V.nat .i64 10) fun v0=>.nrm (sp 26 v0 t) s:=reg1 2
theorem zgZ:∀ r s t,zlM.run r t s=zb 1 (gp 9 t) (V.nat .i64 0) fun v1=>xLoad false 1 v1 s fun v2 s=>za 4 (gp 3 t) fun v3=>xLoad false 1 v3 s fun v4 s=>za 5 (gp 3 t) fun v5=>xLoad false 1 v5 s fun v6 s=>foldF (r.det.call 164 [v2,v4,v6] s) fun v7 s=>.nrm (sp 6 v7 t) s:=dreg1 9
theorem zgl:∀ r s t,zjD.run r t s=foldF (r.call 165 [gp 7 t] s) fun v1 s=>.nrm (sp 13 v1 t) s:=reg1 3
theorem zho:∀ r s t,zkc.run r t s=.nrm (sp 14 (V.nat .i64 0) t) s:=reg1 1
theorem ze2:∀ r s t,zf8.run r t s=xBin ⟨9,[]⟩ false .leq (gp 14 t) (gp 7 t) fun v2=>.nrm (sp 27 v2 t) s:=reg1 3
theorem zeL:∀ r s t,zgb.run r t s=.nrm (sp 15 (gp 14 t) t) s:=reg1 2
theorem zdR:∀ r s t,zhh.run r t s=xBin ⟨9,[]⟩ false .leq (gp 15 t) (gp 7 t) fun v2=>.nrm (sp 28 v2 t) s:=reg1 3
theorem zdP:∀ r s t,zgf.run r t s=zb 1 (gp 13 t) (gp 14 t) fun v2=>xLoad false 1 v2 s fun v3 s=>xLoad true 7 (gp 3 t) s fun v5 s=>foldF (r.det.call 166 [v5,gp 9 t,gp 1 t,gp 2 t,gp 14 t,gp 15 t] s) fun v11 s=>xLoad false 1 v2 s fun v12 s=>boolA (beqV v12 v3) (zb 1 v3 (gp 15 t) fun v13=>zK 1 v13 v11 s fun _ s=>.nrm t s) (.bad 194):=dreg1 15
theorem zdZ:∀ r s t,zhf.run r t s=xBin ⟨9,[]⟩ false .add (gp 15 t) (V.nat .i64 1) fun v1=>.nrm (sp 15 v1 t) s:=reg1 3
theorem zd2:∀ r s t,zhc.run r t s=xBin ⟨9,[]⟩ false .add (gp 14 t) (V.nat .i64 1) fun v1=>.nrm (sp 14 v1 t) s:=reg1 3
theorem zdH:∀ r s t,zgm.run r t s=.nrm (sp 6 (gp 13 t) t) s:=reg1 2
theorem zxG:sizeC zdk=31:=by kernel_rfl
theorem zxN:sizeC zdg=39:=by kernel_rfl
theorem zxt:sizeC j0=31:=by kernel_rfl
theorem zxB:sizeC zbs=52:=by kernel_rfl
theorem wd:∀ r s t,jD.run r t s=seqA (fun t s=>r.code qd zdk t s) (seqA (fun t s=>seqA (fun t s=>zlK.run r t s) (zh 1 (ziZ.run r t s))) (seqA (fun t s=>condV (gp 17 t) (.nrm t s) (.ext 0 t s)) (zjS.run r t s))):=by intros;kernel_rfl
theorem zg6:∀ r s t,jC.run r t s=seqA (fun t s=>r.code qd zdg t s) (seqA (fun t s=>seqA (fun t s=>zi0.run r t s) (zh 4 (seqA (fun t s=>condV (gp 22 t) (zly.run r t s) (zjQ.run r t s)) (zj0.run r t s)))) (seqA (fun t s=>condV (gp 21 t) (.nrm t s) (.ext 3 t s)) (zjZ.run r t s))):=by intros;kernel_rfl
theorem zdJ:∀ r s t,y6.run r t s=seqA (fun t s=>r.code qd j0 t s) (seqA (fun t s=>seqA (fun t s=>zhf.run r t s) (zh 8 (zgf.run r t s))) (seqA (fun t s=>condV (gp 28 t) (.nrm t s) (.ext 7 t s)) (zhh.run r t s))):=by intros;kernel_rfl
theorem zel:∀ r s t,y7.run r t s=seqA (fun t s=>r.code qd zbs t s) (seqA (fun t s=>seqA (fun t s=>zhc.run r t s) (zh 6 (seqA (fun t s=>zh 7 (y6.run r t s)) (zgb.run r t s)))) (seqA (fun t s=>condV (gp 27 t) (.nrm t s) (.ext 5 t s)) (zf8.run r t s))):=by intros;kernel_rfl
theorem zV:type_of% (aI zlo <| aI zit <| aI ziR <| aI ziv <| aI zgE <| aI zgr <| aI zg0 <| aI zf3 <| aI zhq <| aI zhn <| aI zf9 <| aI zgt <| aI zgz <| aI zgR <| aI zgk <| aI zg3 <| aI zg9 <| aI zgU <| aI zgp <| aI zhj <| aI zfT <| aI zgK <| aI zg1 <| aI zgB <| aI zge <| aI zg8 <| aI zfU <| aI zgN <| aI zf1 <| aI zgq <| aI zgZ <| aI zgl <| aI zho <| aI ze2 <| aI zeL <| aI zdR <| aI zdP <| aI zdZ <| aI zd2 <| aI zdH <| zvb):=aI zlo <| aI zit <| aI ziR <| aI ziv <| aI zgE <| aI zgr <| aI zg0 <| aI zf3 <| aI zhq <| aI zhn <| aI zf9 <| aI zgt <| aI zgz <| aI zgR <| aI zgk <| aI zg3 <| aI zg9 <| aI zgU <| aI zgp <| aI zhj <| aI zfT <| aI zgK <| aI zg1 <| aI zgB <| aI zge <| aI zg8 <| aI zfU <| aI zgN <| aI zf1 <| aI zgq <| aI zgZ <| aI zgl <| aI zho <| aI ze2 <| aI zeL <| aI zdR <| aI zdP <| aI zdZ <| aI zd2 <| aI zdH <| zvb
def zaf:FI:=⟨137436855808,37,4⟩
def zco:=zA Tryz.prog 112
def zdv (l:List Nat):=comp pc0 zaf (subC l zco)
def zqb:=zdv [0]
def zqK:=zdv [1,0]
def zpH:=zdv [1,1,0,0]
def zn1:=subC [1,1,0,1,0,0] zco
def zoG:=comp pc0 zaf zn1
def zbd:=qOf pc0 zaf zn1
def zgn:=zbd 8 3 (dn 30 8)
def zbz:=zbd 6 2 (dn 28 6)
def zf7:=zbd 0 6 []
def zlu:=zdv [1,1,1,0]
def znX:=comp pc0 zaf zco
def zp3:=finN (resC pc0 zaf (resOf Tryz.prog 112)).run
theorem zuM :
 (((∀ r s x0 x1 x2,(fnC pc0 112).run r [x0,x1,x2] s=outF (bindR (fun t s=>zp3 t s) (znX.run r (sp 2 x2 (sp 1 x1 (sp 0 x0 T.new))) s))) ∧
 ((∀ s t,zp3 t s=finV (gp 240 t) (resV [gp 6 t] s)) ∧
 (∀ r s t,znX.run r t s=seqA (fun t s=>seqA (fun t s=>seqA (fun t s=>seqA (fun t s=>.ret t s) (zlu.run r t s)) (seqA (fun t s=>condV (gp 9 t) (seqA (fun t s=>.ret t s) (zoG.run r t s)) (.nrm t s)) (zpH.run r t s))) (zqK.run r t s)) (zqb.run r t s)))) ∧
 (((∀ g r s t le,(zf7 g).run r t (le) s=xBin ⟨9,[]⟩ false .gtr (gp 7 t) (gp 8 t) fun v2=>xBin ⟨7,[]⟩ true .eql (gp 0 t) (V.nat .i64 3) fun v4=>g.run r t (v4::v4::gp 0 t::v2::gp 8 t::gp 7 t::le) s) ∧
 (∀ g r s t le,(zbz g).run r t (.bool true::le) s=g.run r t (Go.Ev.undef::Go.Ev.undef::.bool true::le) s)) ∧
 ((∀ g r s t le,(zbz g).run r t (.bool false::le) s=xBin ⟨7,[]⟩ true .eql (gp 0 t) (V.nat .i64 5) fun v7=>g.run r t (v7::gp 0 t::.bool false::le) s) ∧
 (∀ g r s t le x0 x1 x2 x3 x4 x5,(zgn g).run r t (x0::x1::x2::x3::x4::x5::le) s=xPick x2 (fun _=>xBin ⟨0,[]⟩ false .eql x5 (V.bool true) fun v9=>g.run r (sp 6 v9 t) (v9::v9::V.bool true::x0::x1::x2::x3::x4::x5::le) s) (fun _=>xBin ⟨0,[]⟩ false .eql x5 x0 fun v9=>g.run r (sp 6 v9 t) (v9::v9::x0::x0::x1::x2::x3::x4::x5::le) s))))):=by
 and_intros<;>(intros;kernel_rfl)
theorem zlO:∀ r s t,zqb.run r t s=zk 3 (gp 1 t) fun l0=>Go.Ev.newRow s 154 l0 false fun a0k _ s=>zk 3 (gp 2 t) fun l1=>Go.Ev.newRow s 154 l1 false fun a1k _ s=>.nrm (sp 6 (V.bool false) (sp 5 (V.ptr a1k 0 0) (sp 4 (V.ptr a0k 0 0) t))) s:=reg1 3
theorem zj1:∀ r s t,zqK.run r t s=za 1 (gp 4 t) fun v0=>xLoad false 1 v0 s fun v1 s=>za 0 (gp 4 t) fun v2=>xLoad false 1 v2 s fun v3 s=>xBin ⟨9,[]⟩ false .sub v1 v3 fun v4=>za 1 (gp 5 t) fun v5=>xLoad false 1 v5 s fun v6 s=>za 0 (gp 5 t) fun v7=>xLoad false 1 v7 s fun v8 s=>xBin ⟨9,[]⟩ false .sub v6 v8 fun v9=>.nrm (sp 8 v9 (sp 7 v4 t)) s:=dreg1 12
theorem zj2:∀ r s t,zpH.run r t s=xBin ⟨7,[]⟩ false .neq (gp 7 t) (gp 8 t) fun v2=>.nrm (sp 9 v2 t) s:=reg1 3
theorem zlf:∀ r s t,zoG.run r t s=(zf7 (zbz (zgn nilL))).run r t [] s:=zt (by kernel_rfl) (chS rfl (by kernel_rfl) (chS rfl (by kernel_rfl) chL))
theorem zgI:∀ r s t,zlu.run r t s=za 2 (gp 4 t) fun v0=>xLoad false 1 v0 s fun v1 s=>za 2 (gp 5 t) fun v2=>xLoad false 1 v2 s fun v3 s=>xBin ⟨9,[]⟩ false .lss v1 v3 fun v4=>.nrm (sp 6 v4 t) s:=reg1 6
theorem zon:type_of% (aI zlO <| aI zj1 <| aI zj2 <| aI zlf <| aI zgI <| zuM):=aI zlO <| aI zj1 <| aI zj2 <| aI zlf <| aI zgI <| zuM
def zbZ:FI:=⟨67092448,26,4⟩
def zdY:=zA Tryz.prog 159
def jM (l:List Nat):=comp pc0 zbZ (subC l zdY)
def zvu:=jM [0]
def zsK:=jM [1,0]
def zsZ:=jM [1,1,0,0]
def zpv:=jM [1,1,0,1,0,0,0,0]
def zqp:=jM [1,1,0,1,0,0,1,0,0]
def zpt:=jM [1,1,0,1,0,0,1,1]
def zh8:=subC [1,1,0,1,0] zdY
def zaC:=comp pc0 zbZ zh8
def zoF:=jM [1,1,1,0]
def zu3:=comp pc0 zbZ zdY
def zuO:=finN (resC pc0 zbZ (resOf Tryz.prog 159)).run
theorem zBy :
 ((∀ r s x0,(fnC pc0 159).run r [x0] s=outF (bindR (fun t s=>zuO t s) (zu3.run r (sp 0 x0 T.new) s))) ∧
 ((∀ s t,zuO t s=finV (gp 240 t) (resV [gp 2 t] s)) ∧
 (∀ r s t,zu3.run r t s=seqA (fun t s=>seqA (fun t s=>seqA (fun t s=>seqA (fun t s=>.ret t s) (zoF.run r t s)) (seqA (fun t s=>zh 0 (zaC.run r t s)) (zsZ.run r t s))) (zsK.run r t s)) (zvu.run r t s)))):=by
 and_intros<;>(intros;kernel_rfl)
theorem zpN:∀ r s t,zvu.run r t s=zk 7 (gp 0 t) fun l0=>Go.Ev.newRow s 35 l0 false fun a0k _ s=>.nrm (sp 2 (V.nat .i64 0) (sp 1 (V.ptr a0k 0 0) t)) s:=reg1 2
theorem zpl:∀ r s t,zsK.run r t s=za 1 (gp 1 t) fun v0=>xLoad false 1 v0 s fun v1 s=>za 2 (gp 1 t) fun v2=>xLoad false 1 v2 s fun v3 s=>ya false [v3] v1 fun v4=>.nrm (sp 3 v4 t) s:=reg1 6
theorem zof:∀ r s t,zsZ.run r t s=.nrm (sp 4 (V.nat .i64 0) t) s:=reg1 1
theorem zjL:∀ r s t,zpv.run r t s=za 6 (gp 1 t) fun v1=>xLoad false 1 v1 s fun v2 s=>xLenS v2 fun v3=>xBin ⟨9,[]⟩ false .lss (gp 4 t) v3 fun v4=>.nrm (sp 5 v4 t) s:=reg1 5
theorem ziw:∀ r s t,zqp.run r t s=za 6 (gp 1 t) fun v1=>xLoad false 1 v1 s fun v2 s=>zb 7 v2 (gp 4 t) fun v4=>xLoad true 7 v4 s fun v5 s=>foldF (r.call 159 [v5] s) fun v6 s=>ya false [v6] (gp 3 t) fun v7=>.nrm (sp 3 v7 t) s:=reg1 9
theorem zjl:∀ r s t,zpt.run r t s=xBin ⟨9,[]⟩ false .add (gp 4 t) (V.nat .i64 1) fun v1=>.nrm (sp 4 v1 t) s:=reg1 3
theorem ziW:∀ r s t,zoF.run r t s=.nrm (sp 2 (gp 3 t) t) s:=reg1 2
theorem zGT:sizeC zh8=28:=by kernel_rfl
theorem zn9:∀ r s t,zaC.run r t s=seqA (fun t s=>r.code zbZ zh8 t s) (seqA (fun t s=>seqA (fun t s=>zpt.run r t s) (zh 1 (zqp.run r t s))) (seqA (fun t s=>condV (gp 5 t) (.nrm t s) (.ext 0 t s)) (zpv.run r t s))):=by intros;kernel_rfl
theorem zhu:type_of% (aI zpN <| aI zpl <| aI zof <| aI zjL <| aI ziw <| aI zjl <| aI ziW <| zBy):=aI zpN <| aI zpl <| aI zof <| aI zjL <| aI ziw <| aI zjl <| aI ziW <| zBy
def zjn:FI:=⟨523744,19,4⟩
def zl1:=zA Tryz.prog 161
def zcD (l:List Nat):=comp pc0 zjn (subC l zl1)
def zFW:=zcD [0]
def zD6:=zcD [1,0]
def zEI:=zcD [1,1,0,0]
def zAI:=zcD [1,1,0,1,0,0,0,0]
def zBe:=zcD [1,1,0,1,0,0,1,0,0]
def zzo:=zcD [1,1,0,1,0,0,1,1]
def zxk:=subC [1,1,0,1,0] zl1
def zdI:=comp pc0 zjn zxk
def zy4:=zcD [1,1,1,0]
def zGj:=comp pc0 zjn zl1
def zF0:=finN (resC pc0 zjn (resOf Tryz.prog 161)).run
theorem zJo :
 ((∀ r s x0,(fnC pc0 161).run r [x0] s=outF (bindR (fun t s=>zF0 t s) (zGj.run r (sp 0 x0 T.new) s))) ∧
 ((∀ s t,zF0 t s=finV (gp 240 t) (resV [gp 2 t] s)) ∧
 (∀ r s t,zGj.run r t s=seqA (fun t s=>seqA (fun t s=>seqA (fun t s=>seqA (fun t s=>.ret t s) (zy4.run r t s)) (seqA (fun t s=>zh 0 (zdI.run r t s)) (zEI.run r t s))) (zD6.run r t s)) (zFW.run r t s)))):=by
 and_intros<;>(intros;kernel_rfl)
theorem zyw:∀ r s t,zFW.run r t s=.nrm (sp 2 (V.nil 1) t) s:=reg1 1
theorem zBq:∀ r s t,zD6.run r t s=foldF (r.call 165 [gp 0 t] s) fun v1 s=>.nrm (sp 3 v1 t) s:=reg1 3
theorem zyp:∀ r s t,zEI.run r t s=.nrm (sp 4 (V.nat .i64 0) t) s:=reg1 1
theorem zuv:∀ r s t,zAI.run r t s=xBin ⟨9,[]⟩ false .leq (gp 4 t) (gp 0 t) fun v2=>.nrm (sp 5 v2 t) s:=reg1 3
theorem zvK:∀ r s t,zBe.run r t s=zb 1 (gp 3 t) (gp 4 t) fun v2=>xLoad false 1 v2 s fun v3 s=>zb 1 v3 (gp 4 t) fun v5=>zK 1 v5 (V.bool true) s fun _ s=>.nrm t s:=reg1 7
theorem zvH:∀ r s t,zzo.run r t s=xBin ⟨9,[]⟩ false .add (gp 4 t) (V.nat .i64 1) fun v1=>.nrm (sp 4 v1 t) s:=reg1 3
theorem zss:∀ r s t,zy4.run r t s=.nrm (sp 2 (gp 3 t) t) s:=reg1 2
theorem zJZ:sizeC zxk=24:=by kernel_rfl
theorem zz2:∀ r s t,zdI.run r t s=seqA (fun t s=>r.code zjn zxk t s) (seqA (fun t s=>seqA (fun t s=>zzo.run r t s) (zh 1 (zBe.run r t s))) (seqA (fun t s=>condV (gp 5 t) (.nrm t s) (.ext 0 t s)) (zAI.run r t s))):=by intros;kernel_rfl
theorem zxx:type_of% (aI zyw <| aI zBq <| aI zyp <| aI zuv <| aI zvK <| aI zvH <| aI zss <| zJo):=aI zyw <| aI zBq <| aI zyp <| aI zuv <| aI zvK <| aI zvH <| aI zss <| zJo
def qB:FI:=⟨36893487597654834688,65,4⟩
def jI:=zA Tryz.prog 162
def jr (l:List Nat):=comp pc0 qB (subC l jI)
def zGO:=jr [0]
def zFI:=jr [1,0]
def zG8:=jr [1,1,0,0]
def zB7:=jr [1,1,0,1,0,0,0,0]
def zBa:=jr [1,1,0,1,0,0,1,0,0,0]
def zB5:=jr [1,1,0,1,0,0,1,0,0,1,0,0,0,0]
def zAu:=jr [1,1,0,1,0,0,1,0,0,1,0,0,1,0,0,0]
def zzi:=subC [1,1,0,1,0,0,1,0,0,1,0,0,1,0,0,1,0,0,0,0] jI
def zAV:=comp pc0 qB zzi
def zeD:=qOf pc0 qB zzi
def zjJ:=zeD 12 1 (dn 39 12)
def zeX:=zeD 8 4 (dn 35 8)
def znd:=zeD 0 8 []
def zfn:=subC [1,1,0,1,0,0,1,0,0,1,0,0,1,0,0,1,0,0,1,0,0] jI
def zBO:=comp pc0 qB zfn
def zj9:=dqOf pc0 qB zfn 20 3 [62,61,60,59,58,57,56,55,54,53,52,51,50,49,48,47,46,45,44,43]
def zcr:=dqOf pc0 qB zfn 13 7 [55,54,53,52,51,50,49,48,47,46,45,44,43]
def znE:=dqOf pc0 qB zfn 0 13 []
def zCa:=jr [1,1,0,1,0,0,1,0,0,1,0,0,1,0,0,1,0,0,1,1]
def zbS:=subC [1,1,0,1,0,0,1,0,0,1,0,0,1,0,0,1,0] jI
def zbO:=comp pc0 qB zbS
def zz4:=jr [1,1,0,1,0,0,1,0,0,1,0,0,1,1]
def zfR:=subC [1,1,0,1,0,0,1,0,0,1,0] jI
def zcf:=comp pc0 qB zfR
def zxU:=jr [1,1,0,1,0,0,1,1]
def zuN:=subC [1,1,0,1,0] jI
def zeQ:=comp pc0 qB zuN
def zCj:=jr [1,1,1,0]
def zFp:=comp pc0 qB jI
def zG3:=finN (resC pc0 qB (resOf Tryz.prog 162)).run
theorem zJd :
 ((((∀ r s x0 x1,(fnC pc0 162).run r [x0,x1] s=outF (bindR (fun t s=>zG3 t s) (zFp.run r (sp 1 x1 (sp 0 x0 T.new)) s))) ∧
 (∀ s t,zG3 t s=finV (gp 240 t) (resV [gp 4 t] s))) ∧
 ((∀ r s t,zFp.run r t s=seqA (fun t s=>seqA (fun t s=>seqA (fun t s=>seqA (fun t s=>.ret t s) (zCj.run r t s)) (seqA (fun t s=>zh 0 (zeQ.run r t s)) (zG8.run r t s))) (zFI.run r t s)) (zGO.run r t s)) ∧
 ((∀ g r s t le,(znd g).run r t (le) s=zb 1 (gp 0 t) (gp 6 t) fun v2=>xLoad false 1 v2 s fun v3 s=>zb 1 v3 (gp 7 t) fun v5=>xLoad false 1 v5 s fun v6 s=>g.run r t (v6::v6::v5::gp 7 t::v3::v2::gp 6 t::gp 0 t::le) s) ∧
 (∀ g r s t le,(zeX g).run r t (.bool true::le) s=xLenS (gp 0 t) fun v10=>xBin ⟨9,[]⟩ false .lss (gp 8 t) v10 fun v11=>g.run r t (v11::v10::gp 0 t::gp 8 t::.bool true::le) s)))) ∧
 (((∀ g r s t le,(zeX g).run r t (.bool false::le) s=g.run r t (Go.Ev.undef::Go.Ev.undef::Go.Ev.undef::Go.Ev.undef::.bool false::le) s) ∧
 ((∀ g r s t le x0 x1 x2 x3 x4,(zjJ g).run r t (x0::x1::x2::x3::x4::le) s=xPick x4 (fun _=>g.run r (sp 11 x0 t) (x0::x0::x1::x2::x3::x4::le) s) (fun _=>g.run r (sp 11 (V.bool false) t) (V.bool false::x0::x1::x2::x3::x4::le) s)) ∧
 (∀ g r s t le,(znE g).run r t (le) s=zb 1 (gp 5 t) (gp 6 t) fun v2=>xLoad false 1 v2 s fun v3 s=>zb 1 (gp 5 t) (gp 6 t) fun v7=>xLoad false 1 v7 s fun v8 s=>zb 1 v8 (gp 8 t) fun v10=>xLoad false 1 v10 s fun v11 s=>g.run r t (v11::v11::v10::gp 8 t::v8::v7::gp 6 t::gp 5 t::gp 8 t::v3::v2::gp 6 t::gp 5 t::le) s))) ∧
 ((∀ g r s t le,(zcr g).run r t (.bool true::le) s=g.run r t (Go.Ev.undef::Go.Ev.undef::Go.Ev.undef::Go.Ev.undef::Go.Ev.undef::Go.Ev.undef::Go.Ev.undef::.bool true::le) s) ∧
 ((∀ g r s t le,(zcr g).run r t (.bool false::le) s=zb 1 (gp 1 t) (gp 7 t) fun v15=>xLoad false 1 v15 s fun v16 s=>zb 1 v16 (gp 8 t) fun v18=>xLoad false 1 v18 s fun v19 s=>g.run r t (v19::v18::gp 8 t::v16::v15::gp 7 t::gp 1 t::.bool false::le) s) ∧
 (∀ g r s t le x0 x1 x2 x3 x4 x5 x6 x7 x8 x9 x10 x11 x12 x13 x14 x15 x16,(zj9 g).run r t (x0::x1::x2::x3::x4::x5::x6::x7::x8::x9::x10::x11::x12::x13::x14::x15::x16::le) s=xPick x7 (fun _=>zb 1 x16 x15 fun v21=>zK 1 v21 (V.bool true) s fun _ s=>g.run r t (v21::V.bool true::x0::x1::x2::x3::x4::x5::x6::x7::x8::x9::x10::x11::x12::x13::x14::x15::x16::le) s) (fun _=>zb 1 x16 x15 fun v21=>zK 1 v21 x0 s fun _ s=>g.run r t (v21::x0::x0::x1::x2::x3::x4::x5::x6::x7::x8::x9::x10::x11::x12::x13::x14::x15::x16::le) s)))))):=by
 and_intros<;>(intros;kernel_rfl)
theorem zBk:∀ r s t,zGO.run r t s=.nrm (sp 4 (V.nil 1) t) s:=reg1 1
theorem zyz:∀ r s t,zFI.run r t s=xLenS (gp 0 t) fun v1=>xBin ⟨9,[]⟩ false .sub v1 (V.nat .i64 1) fun v2=>foldF (r.call 165 [v2] s) fun v3 s=>.nrm (sp 5 v3 t) s:=reg1 5
theorem zzJ:∀ r s t,zG8.run r t s=.nrm (sp 6 (V.nat .i64 0) t) s:=reg1 1
theorem zue:∀ r s t,zB7.run r t s=xLenS (gp 0 t) fun v2=>xBin ⟨9,[]⟩ false .lss (gp 6 t) v2 fun v3=>.nrm (sp 9 v3 t) s:=reg1 4
theorem zrF:∀ r s t,zBa.run r t s=.nrm (sp 7 (gp 6 t) t) s:=reg1 2
theorem zwr:∀ r s t,zB5.run r t s=xLenS (gp 0 t) fun v2=>xBin ⟨9,[]⟩ false .lss (gp 7 t) v2 fun v3=>.nrm (sp 10 v3 t) s:=reg1 4
theorem zu1:∀ r s t,zAu.run r t s=.nrm (sp 8 (gp 7 t) t) s:=reg1 2
theorem zvq:∀ r s t,zAV.run r t s=(znd (zeX (zjJ nilL))).run r t [] s:=zt (by kernel_rfl) (chS rfl (by kernel_rfl) (chS rfl (by kernel_rfl) chL))
theorem zru:∀ r s t,zBO.run r t s=(znE (zcr (zj9 nilL))).run r.det t [] s:=zwm (by kernel_rfl) (dchS rfl (by kernel_rfl) (dchS rfl (by kernel_rfl) dchL))
theorem zuq:∀ r s t,zCa.run r t s=xBin ⟨9,[]⟩ false .add (gp 8 t) (V.nat .i64 1) fun v1=>.nrm (sp 8 v1 t) s:=reg1 3
theorem zwR:∀ r s t,zz4.run r t s=xBin ⟨9,[]⟩ false .add (gp 7 t) (V.nat .i64 1) fun v1=>.nrm (sp 7 v1 t) s:=reg1 3
theorem zui:∀ r s t,zxU.run r t s=xBin ⟨9,[]⟩ false .add (gp 6 t) (V.nat .i64 1) fun v1=>.nrm (sp 6 v1 t) s:=reg1 3
theorem zu2:∀ r s t,zCj.run r t s=.nrm (sp 4 (gp 5 t) t) s:=reg1 2
theorem zHm:sizeC zbS=50:=by kernel_rfl
theorem zIi:sizeC zfR=72:=by kernel_rfl
theorem zKl:sizeC zuN=94:=by kernel_rfl
theorem zc1:∀ r s t,zbO.run r t s=seqA (fun t s=>r.code qB zbS t s) (seqA (fun t s=>seqA (fun t s=>zCa.run r t s) (zh 5 (zBO.run r t s))) (seqA (fun t s=>condV (gp 11 t) (.nrm t s) (.ext 4 t s)) (zAV.run r t s))):=by intros;kernel_rfl
theorem zv1:∀ r s t,zcf.run r t s=seqA (fun t s=>r.code qB zfR t s) (seqA (fun t s=>seqA (fun t s=>zz4.run r t s) (zh 3 (seqA (fun t s=>zh 4 (zbO.run r t s)) (zAu.run r t s)))) (seqA (fun t s=>condV (gp 10 t) (.nrm t s) (.ext 2 t s)) (zB5.run r t s))):=by intros;kernel_rfl
theorem zBY:∀ r s t,zeQ.run r t s=seqA (fun t s=>r.code qB zuN t s) (seqA (fun t s=>seqA (fun t s=>zxU.run r t s) (zh 1 (seqA (fun t s=>zh 2 (zcf.run r t s)) (zBa.run r t s)))) (seqA (fun t s=>condV (gp 9 t) (.nrm t s) (.ext 0 t s)) (zB7.run r t s))):=by intros;kernel_rfl
theorem jt:type_of% (aI zBk <| aI zyz <| aI zzJ <| aI zue <| aI zrF <| aI zwr <| aI zu1 <| aI zvq <| aI zru <| aI zuq <| aI zwR <| aI zui <| aI zu2 <| zJd):=aI zBk <| aI zyz <| aI zzJ <| aI zue <| aI zrF <| aI zwr <| aI zu1 <| aI zvq <| aI zru <| aI zuq <| aI zwR <| aI zui <| aI zu2 <| zJd
def ziK:FI:=⟨1047520,20,4⟩
def zl4:=zA Tryz.prog 165
def zc6 (l:List Nat):=comp pc0 ziK (subC l zl4)
def zHa:=zc6 [0]
def zFe:=zc6 [1,0]
def zGV:=zc6 [1,1,0,0]
def zBD:=zc6 [1,1,0,1,0,0,0,0]
def zCg:=zc6 [1,1,0,1,0,0,1,0,0]
def zBN:=zc6 [1,1,0,1,0,0,1,1]
def zu6:=subC [1,1,0,1,0] zl4
def ze7:=comp pc0 ziK zu6
def zyH:=zc6 [1,1,1,0]
def zEt:=comp pc0 ziK zl4
def zGp:=finN (resC pc0 ziK (resOf Tryz.prog 165)).run
theorem zJz :
 ((∀ r s x0,(fnC pc0 165).run r [x0] s=outF (bindR (fun t s=>zGp t s) (zEt.run r (sp 0 x0 T.new) s))) ∧
 ((∀ s t,zGp t s=finV (gp 240 t) (resV [gp 2 t] s)) ∧
 (∀ r s t,zEt.run r t s=seqA (fun t s=>seqA (fun t s=>seqA (fun t s=>seqA (fun t s=>.ret t s) (zyH.run r t s)) (seqA (fun t s=>zh 0 (ze7.run r t s)) (zGV.run r t s))) (zFe.run r t s)) (zHa.run r t s)))):=by
 and_intros<;>(intros;kernel_rfl)
theorem zCq:∀ r s t,zHa.run r t s=.nrm (sp 2 (V.nil 1) t) s:=reg1 1
theorem zzP:∀ r s t,zFe.run r t s=xBin ⟨9,[]⟩ false .add (gp 0 t) (V.nat .i64 1) fun v1=>yy 98 24 [V.nil 1] v1 v1 s fun v2 s=>.nrm (sp 3 v2 t) s:=reg1 4
theorem zzf:∀ r s t,zGV.run r t s=.nrm (sp 4 (V.nat .i64 0) t) s:=reg1 1
theorem ztE:∀ r s t,zBD.run r t s=xBin ⟨9,[]⟩ false .leq (gp 4 t) (gp 0 t) fun v2=>.nrm (sp 5 v2 t) s:=reg1 3
theorem ztF:∀ r s t,zCg.run r t s=xBin ⟨9,[]⟩ false .add (gp 0 t) (V.nat .i64 1) fun v3=>yy 4 1 [V.bool false] v3 v3 s fun v4 s=>zb 1 (gp 3 t) (gp 4 t) fun v5=>zK 1 v5 v4 s fun _ s=>.nrm t s:=reg1 7
theorem zut:∀ r s t,zBN.run r t s=xBin ⟨9,[]⟩ false .add (gp 4 t) (V.nat .i64 1) fun v1=>.nrm (sp 4 v1 t) s:=reg1 3
theorem ztg:∀ r s t,zyH.run r t s=.nrm (sp 2 (gp 3 t) t) s:=reg1 2
theorem zJ3:sizeC zu6=24:=by kernel_rfl
theorem zCd:∀ r s t,ze7.run r t s=seqA (fun t s=>r.code ziK zu6 t s) (seqA (fun t s=>seqA (fun t s=>zBN.run r t s) (zh 1 (zCg.run r t s))) (seqA (fun t s=>condV (gp 5 t) (.nrm t s) (.ext 0 t s)) (zBD.run r t s))):=by intros;kernel_rfl
theorem zs7:type_of% (aI zCq <| aI zzP <| aI zzf <| aI ztE <| aI ztF <| aI zut <| aI ztg <| zJz):=aI zCq <| aI zzP <| aI zzf <| aI ztE <| aI ztF <| aI zut <| aI ztg <| zJz
def z9:FI:=⟨713275394550715778319802418023468735560876032,149,4⟩
def yW:=zA Tryz.prog 166
def zX (l:List Nat):=comp pc0 z9 (subC l yW)
def zFY:=zX [0]
def zEm:=zX [1,0]
def zF9:=zX [1,1,0,0]
def zAY:=zX [1,1,0,1,0,0,0,0]
def zCK:=subC [1,1,0,1,0,0,1,0,0] yW
def zx0:=comp pc0 z9 zCK
def zd3:=qOf pc0 z9 zCK
def znc:=zd3 8 2 (dn 30 8)
def zfi:=zd3 2 6 [24,23]
def zpn:=zd3 0 2 []
def zzN:=zX [1,1,0,1,0,0,1,1]
def zwc:=subC [1,1,0,1,0] yW
def zfh:=comp pc0 z9 zwc
def zyT:=zX [1,1,1,0,0]
def zCX:=zX [1,1,1,0,1,0,0]
def wP:=subC [1,1,1,0,1,0,1,0,0] yW
def zCH:=comp pc0 z9 wP
def zjP:=dqOf pc0 z9 wP 19 2 [54,53,52,51,50,49,48,47,46,45,44,43,42,41,40,39,38,37,36]
def zdn:=dqOf pc0 z9 wP 12 7 [47,46,45,44,43,42,41,40,39,38,37,36]
def zlQ:=dqOf pc0 z9 wP 10 2 [45,44,43,42,41,40,39,38,37,36]
def zdQ:=dqOf pc0 z9 wP 6 4 [41,40,39,38,37,36]
def zpT:=dqOf pc0 z9 wP 0 6 []
def zzB:=zX [1,1,1,0,1,0,1,1,0]
def zyv:=subC [1,1,1,0,1,0,1,1,1,0,0] yW
def zAh:=comp pc0 z9 zyv
def zeJ:=qOf pc0 z9 zyv
def zoJ:=zeJ 6 2 (dn 63 6)
def zem:=zeJ 2 4 [59,58]
def zpU:=zeJ 0 2 []
def zBi:=zX [1,1,1,0,1,0,1,1,1,1,0]
def zzc:=zX [1,1,1,0,1,0,1,1,1,1,1,0,0,0]
def zJX:=zX [1,1,1,0,1,0,1,1,1,1,1,0,0,1,0,0,0,0]
def zKt:=zX [1,1,1,0,1,0,1,1,1,1,1,0,0,1,0,0,1,0,0,0]
def zKC:=zX [1,1,1,0,1,0,1,1,1,1,1,0,0,1,0,0,1,0,0,1,0,0]
def zJ0:=zX [1,1,1,0,1,0,1,1,1,1,1,0,0,1,0,0,1,1]
def zJV:=subC [1,1,1,0,1,0,1,1,1,1,1,0,0,1,0] yW
def zKD:=comp pc0 z9 zJV
def zxY:=zX [1,1,1,0,1,0,1,1,1,1,1,0,1,0]
def zzp:=zX [1,1,1,0,1,0,1,1,1,1,1,1,0]
def zym:=subC [1,1,1,0,1,0,1,1,1,1,1,1,1,0,0] yW
def zAv:=comp pc0 z9 zym
def zdS:=qOf pc0 z9 zym
def ziY:=zdS 20 2 (dn 105 20)
def zc0:=zdS 10 10 (dn 95 10)
def zoa:=zdS 0 10 []
def zCz:=zX [1,1,1,0,1,0,1,1,1,1,1,1,1,1,0]
def zCP:=subC [1,1,1,0,1,0,1,1,1,1,1,1,1,1,1,0,0] yW
def zzE:=comp pc0 z9 zCP
def zeq:=qOf pc0 z9 zCP
def zi8:=zeq 12 2 (dn 120 12)
def zex:=zeq 2 10 [110,109]
def zp0:=zeq 0 2 []
def zCD:=zX [1,1,1,0,1,0,1,1,1,1,1,1,1,1,1,1,0]
def zBh:=zX [1,1,1,0,1,0,1,1,1,1,1,1,1,1,1,1,1,0,0]
def zx9:=zX [1,1,1,0,1,0,1,1,1,1,1,1,1,1,1,1,1,1,0]
def zCx:=zX [1,1,1,0,1,0,1,1,1,1,1,1,1,1,1,1,1,1,1,0,0]
def zzT:=zX [1,1,1,1,0]
def zGa:=comp pc0 z9 yW
def zG2:=finN (resC pc0 z9 (resOf Tryz.prog 166)).run
theorem zIs :
 (((((∀ r s x0 x1 x2 x3 x4 x5,(fnC pc0 166).run r [x0,x1,x2,x3,x4,x5] s=outF (bindR (fun t s=>zG2 t s) (zGa.run r (sp 5 x5 (sp 4 x4 (sp 3 x3 (sp 2 x2 (sp 1 x1 (sp 0 x0 T.new)))))) s))) ∧
 ((∀ s t,zG2 t s=finV (gp 240 t) (resV [gp 12 t] s)) ∧
 (∀ r s t,zGa.run r t s=seqA (fun t s=>seqA (fun t s=>seqA (fun t s=>seqA (fun t s=>seqA (fun t s=>.ret t s) (zzT.run r t s)) (seqA (fun t s=>zh 2 (seqA (fun t s=>condV (gp 18 t) (seqA (fun t s=>.ret t s) (zCH.run r t s)) (seqA (fun t s=>condV (gp 19 t) (seqA (fun t s=>.ret t s) (zAh.run r t s)) (seqA (fun t s=>condV (gp 20 t) (seqA (fun t s=>seqA (fun t s=>.ret t s) (zxY.run r t s)) (seqA (fun t s=>zh 3 (zKD.run r t s)) (zzc.run r t s))) (seqA (fun t s=>condV (gp 23 t) (seqA (fun t s=>.ret t s) (zAv.run r t s)) (seqA (fun t s=>condV (gp 24 t) (seqA (fun t s=>.ret t s) (zzE.run r t s)) (seqA (fun t s=>condV (gp 25 t) (seqA (fun t s=>.ret t s) (zBh.run r t s)) (seqA (fun t s=>condV (gp 26 t) (seqA (fun t s=>.ret t s) (zCx.run r t s)) (.nrm t s)) (zx9.run r t s))) (zCD.run r t s))) (zCz.run r t s))) (zzp.run r t s))) (zBi.run r t s))) (zzB.run r t s))) (zCX.run r t s))) (zyT.run r t s))) (seqA (fun t s=>zh 0 (zfh.run r t s)) (zF9.run r t s))) (zEm.run r t s)) (zFY.run r t s)))) ∧
 ((∀ g r s t le,(zpn g).run r t (le) s=g.run r t (gp 13 t::gp 13 t::le) s) ∧
 ((∀ g r s t le,(zfi g).run r t (.bool true::le) s=zb 1 (gp 3 t) (gp 14 t) fun v4=>xLoad false 1 v4 s fun v5 s=>xBin ⟨9,[]⟩ false .leq v5 (gp 2 t) fun v7=>g.run r t (v7::gp 2 t::v5::v4::gp 14 t::gp 3 t::.bool true::le) s) ∧
 (∀ g r s t le,(zfi g).run r t (.bool false::le) s=g.run r t (Go.Ev.undef::Go.Ev.undef::Go.Ev.undef::Go.Ev.undef::Go.Ev.undef::Go.Ev.undef::.bool false::le) s)))) ∧
 (((∀ g r s t le x0 x1 x2 x3 x4 x5 x6,(znc g).run r t (x0::x1::x2::x3::x4::x5::x6::le) s=xPick x6 (fun _=>g.run r (sp 13 x0 t) (x0::x0::x0::x1::x2::x3::x4::x5::x6::le) s) (fun _=>g.run r (sp 13 (V.bool false) t) (V.bool false::V.bool false::x0::x1::x2::x3::x4::x5::x6::le) s)) ∧
 ((∀ g r s t le,(zpT g).run r t (le) s=za 1 (gp 6 t) fun v0=>xLoad false 1 v0 s fun v1 s=>za 2 (gp 6 t) fun v2=>xLoad false 1 v2 s fun v3 s=>xBin ⟨7,[]⟩ false .eql v1 v3 fun v4=>g.run r t (v4::v4::v3::v2::v1::v0::le) s) ∧
 (∀ g r s t le,(zdQ g).run r t (.bool true::le) s=xBin ⟨9,[]⟩ false .add (gp 4 t) (V.nat .i64 1) fun v8=>xBin ⟨7,[]⟩ false .eql (gp 5 t) v8 fun v9=>g.run r t (v9::v8::gp 4 t::gp 5 t::.bool true::le) s))) ∧
 (((∀ g r s t le,(zdQ g).run r t (.bool false::le) s=g.run r t (Go.Ev.undef::Go.Ev.undef::Go.Ev.undef::Go.Ev.undef::.bool false::le) s) ∧
 (∀ g r s t le x0 x1 x2 x3 x4,(zlQ g).run r t (x0::x1::x2::x3::x4::le) s=xPick x4 (fun _=>g.run r t (x0::x0::x0::x1::x2::x3::x4::le) s) (fun _=>g.run r t (V.bool false::V.bool false::x0::x1::x2::x3::x4::le) s))) ∧
 ((∀ g r s t le,(zdn g).run r t (.bool true::le) s=zb 1 (gp 3 t) (gp 4 t) fun v14=>xLoad false 1 v14 s fun v15 s=>za 1 (gp 6 t) fun v16=>xLoad false 1 v16 s fun v17 s=>xBin ⟨7,[]⟩ false .eql v15 v17 fun v18=>g.run r t (v18::v17::v16::v15::v14::gp 4 t::gp 3 t::.bool true::le) s) ∧
 (∀ g r s t le,(zdn g).run r t (.bool false::le) s=g.run r t (Go.Ev.undef::Go.Ev.undef::Go.Ev.undef::Go.Ev.undef::Go.Ev.undef::Go.Ev.undef::Go.Ev.undef::.bool false::le) s))))) ∧
 ((((∀ g r s t le x0 x1 x2 x3 x4 x5 x6 x7,(zjP g).run r t (x0::x1::x2::x3::x4::x5::x6::x7::le) s=xPick x7 (fun _=>g.run r (sp 12 x0 t) (x0::x0::x0::x1::x2::x3::x4::x5::x6::x7::le) s) (fun _=>g.run r (sp 12 (V.bool false) t) (V.bool false::V.bool false::x0::x1::x2::x3::x4::x5::x6::x7::le) s)) ∧
 ((∀ g r s t le,(zpU g).run r t (le) s=g.run r t (gp 13 t::gp 13 t::le) s) ∧
 (∀ g r s t le,(zem g).run r t (.bool true::le) s=xBin ⟨9,[]⟩ false .add (gp 4 t) (V.nat .i64 1) fun v4=>xBin ⟨7,[]⟩ false .eql (gp 5 t) v4 fun v5=>g.run r t (v5::v4::gp 4 t::gp 5 t::.bool true::le) s))) ∧
 ((∀ g r s t le,(zem g).run r t (.bool false::le) s=g.run r t (Go.Ev.undef::Go.Ev.undef::Go.Ev.undef::Go.Ev.undef::.bool false::le) s) ∧
 ((∀ g r s t le x0 x1 x2 x3 x4,(zoJ g).run r t (x0::x1::x2::x3::x4::le) s=xPick x4 (fun _=>g.run r (sp 12 x0 t) (x0::x0::x0::x1::x2::x3::x4::le) s) (fun _=>g.run r (sp 12 (V.bool false) t) (V.bool false::V.bool false::x0::x1::x2::x3::x4::le) s)) ∧
 (∀ g r s t le,(zoa g).run r t (le) s=zb 1 (gp 1 t) (V.nat .i64 0) fun v1=>xLoad false 1 v1 s fun v2 s=>zb 1 v2 (gp 4 t) fun v4=>xLoad false 1 v4 s fun v5 s=>zb 1 v5 (gp 5 t) fun v7=>xLoad false 1 v7 s fun v8 s=>g.run r t (v8::v8::v7::gp 5 t::v5::v4::gp 4 t::v2::v1::gp 1 t::le) s)))) ∧
 (((∀ g r s t le,(zc0 g).run r t (.bool true::le) s=zb 1 (gp 1 t) (V.nat .i64 1) fun v11=>xLoad false 1 v11 s fun v12 s=>zb 1 v12 (gp 4 t) fun v14=>xLoad false 1 v14 s fun v15 s=>zb 1 v15 (gp 5 t) fun v17=>xLoad false 1 v17 s fun v18 s=>xUn .not v18 fun v19=>g.run r t (v19::v18::v17::gp 5 t::v15::v14::gp 4 t::v12::v11::gp 1 t::.bool true::le) s) ∧
 ((∀ g r s t le,(zc0 g).run r t (.bool false::le) s=g.run r t (Go.Ev.undef::Go.Ev.undef::Go.Ev.undef::Go.Ev.undef::Go.Ev.undef::Go.Ev.undef::Go.Ev.undef::Go.Ev.undef::Go.Ev.undef::Go.Ev.undef::.bool false::le) s) ∧
 (∀ g r s t le x0 x1 x2 x3 x4 x5 x6 x7 x8 x9 x10,(ziY g).run r t (x0::x1::x2::x3::x4::x5::x6::x7::x8::x9::x10::le) s=xPick x10 (fun _=>g.run r (sp 12 x0 t) (x0::x0::x0::x1::x2::x3::x4::x5::x6::x7::x8::x9::x10::le) s) (fun _=>g.run r (sp 12 (V.bool false) t) (V.bool false::V.bool false::x0::x1::x2::x3::x4::x5::x6::x7::x8::x9::x10::le) s)))) ∧
 (((∀ g r s t le,(zp0 g).run r t (le) s=g.run r t (gp 13 t::gp 13 t::le) s) ∧
 (∀ g r s t le,(zex g).run r t (.bool true::le) s=zb 1 (gp 1 t) (V.nat .i64 0) fun v3=>xLoad false 1 v3 s fun v4 s=>zb 1 v4 (gp 4 t) fun v6=>xLoad false 1 v6 s fun v7 s=>zb 1 v7 (gp 5 t) fun v9=>xLoad false 1 v9 s fun v10 s=>xUn .not v10 fun v11=>g.run r t (v11::v10::v9::gp 5 t::v7::v6::gp 4 t::v4::v3::gp 1 t::.bool true::le) s)) ∧
 ((∀ g r s t le,(zex g).run r t (.bool false::le) s=g.run r t (Go.Ev.undef::Go.Ev.undef::Go.Ev.undef::Go.Ev.undef::Go.Ev.undef::Go.Ev.undef::Go.Ev.undef::Go.Ev.undef::Go.Ev.undef::Go.Ev.undef::.bool false::le) s) ∧
 (∀ g r s t le x0 x1 x2 x3 x4 x5 x6 x7 x8 x9 x10,(zi8 g).run r t (x0::x1::x2::x3::x4::x5::x6::x7::x8::x9::x10::le) s=xPick x10 (fun _=>g.run r (sp 12 x0 t) (x0::x0::x0::x1::x2::x3::x4::x5::x6::x7::x8::x9::x10::le) s) (fun _=>g.run r (sp 12 (V.bool false) t) (V.bool false::V.bool false::x0::x1::x2::x3::x4::x5::x6::x7::x8::x9::x10::le) s))))))):=by
 and_intros<;>(intros;kernel_rfl)
theorem zCV:∀ r s t,zFY.run r t s=zk 7 (gp 0 t) fun l0=>Go.Ev.newRow s 35 l0 false fun a0k _ s=>.nrm (sp 12 (V.bool false) (sp 6 (V.ptr a0k 0 0) t)) s:=reg1 2
theorem zzx:∀ r s t,zEm.run r t s=.nrm (sp 13 (V.bool true) t) s:=reg1 1
theorem zx5:∀ r s t,zF9.run r t s=.nrm (sp 14 (gp 4 t) t) s:=reg1 2
theorem zsR:∀ r s t,zAY.run r t s=xBin ⟨9,[]⟩ false .lss (gp 14 t) (gp 5 t) fun v2=>.nrm (sp 16 v2 t) s:=reg1 3
theorem zsu:∀ r s t,zx0.run r t s=(zpn (zfi (znc nilL))).run r t [] s:=zt (by kernel_rfl) (chS rfl (by kernel_rfl) (chS rfl (by kernel_rfl) chL))
theorem zw3:∀ r s t,zzN.run r t s=xBin ⟨9,[]⟩ false .add (gp 14 t) (V.nat .i64 1) fun v1=>.nrm (sp 14 v1 t) s:=reg1 3
theorem zw5:∀ r s t,zyT.run r t s=za 0 (gp 6 t) fun v0=>xLoad false 1 v0 s fun v1 s=>.nrm (sp 17 v1 t) s:=reg1 2
theorem zrf:∀ r s t,zCX.run r t s=xBin ⟨7,[]⟩ true .eql (gp 17 t) (V.nat .i64 2) fun v0=>.nrm (sp 18 v0 t) s:=reg1 2
theorem zxn:∀ r s t,zCH.run r t s=(zpT (zdQ (zlQ (zdn (zjP nilL))))).run r.det t [] s:=zwm (by kernel_rfl) (dchS rfl (by kernel_rfl) (dchS rfl (by kernel_rfl) (dchS rfl (by kernel_rfl) (dchS rfl (by kernel_rfl) dchL))))
theorem zsn:∀ r s t,zzB.run r t s=xBin ⟨7,[]⟩ true .eql (gp 17 t) (V.nat .i64 3) fun v0=>.nrm (sp 19 v0 t) s:=reg1 2
theorem zu4:∀ r s t,zAh.run r t s=(zpU (zem (zoJ nilL))).run r t [] s:=zt (by kernel_rfl) (chS rfl (by kernel_rfl) (chS rfl (by kernel_rfl) chL))
theorem ztM:∀ r s t,zBi.run r t s=xBin ⟨7,[]⟩ true .eql (gp 17 t) (V.nat .i64 13) fun v0=>.nrm (sp 20 v0 t) s:=reg1 2
theorem zvs:∀ r s t,zzc.run r t s=.nrm (sp 15 (V.nat .i64 0) t) s:=reg1 1
theorem zvf:∀ r s t,zJX.run r t s=xLenS (gp 1 t) fun v2=>xBin ⟨9,[]⟩ false .lss (gp 15 t) v2 fun v3=>.nrm (sp 21 v3 t) s:=reg1 4
theorem zrh:∀ r s t,zKt.run r t s=zb 1 (gp 1 t) (gp 15 t) fun v2=>xLoad false 1 v2 s fun v3 s=>zb 1 v3 (gp 4 t) fun v5=>xLoad false 1 v5 s fun v6 s=>zb 1 v6 (gp 5 t) fun v8=>xLoad false 1 v8 s fun v9 s=>xUn .not v9 fun v10=>.nrm (sp 22 v10 t) s:=reg1 11
theorem zt1:∀ r s t,zKC.run r t s=.nrm (sp 12 (V.bool false) t) s:=reg1 1
theorem zt5:∀ r s t,zJ0.run r t s=xBin ⟨9,[]⟩ false .add (gp 15 t) (V.nat .i64 1) fun v1=>.nrm (sp 15 v1 t) s:=reg1 3
theorem zrV:∀ r s t,zxY.run r t s=.nrm (sp 12 (V.bool true) t) s:=reg1 1
theorem zvS:∀ r s t,zzp.run r t s=xBin ⟨7,[]⟩ true .eql (gp 17 t) (V.nat .i64 14) fun v0=>.nrm (sp 23 v0 t) s:=reg1 2
theorem zt6:∀ r s t,zAv.run r t s=(zoa (zc0 (ziY nilL))).run r t [] s:=zt (by kernel_rfl) (chS rfl (by kernel_rfl) (chS rfl (by kernel_rfl) chL))
theorem zwD:∀ r s t,zCz.run r t s=xBin ⟨7,[]⟩ true .eql (gp 17 t) (V.nat .i64 15) fun v0=>.nrm (sp 24 v0 t) s:=reg1 2
theorem zw9:∀ r s t,zzE.run r t s=(zp0 (zex (zi8 nilL))).run r t [] s:=zt (by kernel_rfl) (chS rfl (by kernel_rfl) (chS rfl (by kernel_rfl) chL))
theorem zwd:∀ r s t,zCD.run r t s=xBin ⟨7,[]⟩ true .eql (gp 17 t) (V.nat .i64 19) fun v0=>.nrm (sp 25 v0 t) s:=reg1 2
theorem zsd:∀ r s t,zBh.run r t s=zb 1 (gp 1 t) (V.nat .i64 0) fun v1=>xLoad false 1 v1 s fun v2 s=>xLenS (gp 3 t) fun v4=>xBin ⟨9,[]⟩ false .sub v4 (gp 5 t) fun v6=>zb 1 v2 v6 fun v7=>xLoad false 1 v7 s fun v8 s=>xLenS (gp 3 t) fun v10=>xBin ⟨9,[]⟩ false .sub v10 (gp 4 t) fun v12=>zb 1 v8 v12 fun v13=>xLoad false 1 v13 s fun v14 s=>.nrm (sp 12 v14 t) s:=reg1 16
theorem zwO:∀ r s t,zx9.run r t s=xBin ⟨7,[]⟩ true .eql (gp 17 t) (V.nat .i64 20) fun v0=>.nrm (sp 26 v0 t) s:=reg1 2
theorem zrZ:∀ r s t,zCx.run r t s=zb 1 (gp 1 t) (V.nat .i64 0) fun v1=>xLoad false 1 v1 s fun v2 s=>zb 1 v2 (gp 4 t) fun v4=>xLoad false 1 v4 s fun v5 s=>zb 1 v5 (gp 5 t) fun v7=>xLoad false 1 v7 s fun v8 s=>.nrm (sp 12 v8 t) s:=reg1 10
theorem ztP:∀ r s t,zzT.run r t s=.nrm (sp 12 (V.bool false) t) s:=reg1 1
theorem zKo:sizeC zwc=27:=by kernel_rfl
theorem zmb:∀ r s t,zfh.run r t s=seqA (fun t s=>r.code z9 zwc t s) (seqA (fun t s=>seqA (fun t s=>zzN.run r t s) (zh 1 (zx0.run r t s))) (seqA (fun t s=>condV (gp 16 t) (.nrm t s) (.ext 0 t s)) (zAY.run r t s))):=by intros;kernel_rfl
theorem zbR:type_of% (aI zCV <| aI zzx <| aI zx5 <| aI zsR <| aI zsu <| aI zw3 <| aI zw5 <| aI zrf <| aI zxn <| aI zsn <| aI zu4 <| aI ztM <| aI zvs <| aI zvf <| aI zrh <| aI zt1 <| aI zt5 <| aI zrV <| aI zvS <| aI zt6 <| aI zwD <| aI zw9 <| aI zwd <| aI zsd <| aI zwO <| aI zrZ <| aI ztP <| zIs):=aI zCV <| aI zzx <| aI zx5 <| aI zsR <| aI zsu <| aI zw3 <| aI zw5 <| aI zrf <| aI zxn <| aI zsn <| aI zu4 <| aI ztM <| aI zvs <| aI zvf <| aI zrh <| aI zt1 <| aI zt5 <| aI zrV <| aI zvS <| aI zt6 <| aI zwD <| aI zw9 <| aI zwd <| aI zsd <| aI zwO <| aI zrZ <| aI ztP <| zIs

end
end Go.Proofs.YtlklljjppambpaaGreatDoor.oev
