/- The contracts of the functions that the statements reach, for all arguments. No statement of the seat stands here. Conditions: the arguments are as their types say. By an AI agent. -/
import Derived.Test.YtlklljjppambpaaGreatDoorOvY
namespace Go.Proofs.YtlklljjppambpaaGreatDoor.oev
open Go.Ev Go.RowKit
set_option maxRecDepth 100000
section
variable {F T:Nat→List Int} {N:Nat} {sg:Int} {W:List Int} {b1 s:S} {b:Go.Ev.K} {p x:V}
theorem CC.frame {s2 s':S} {cs:List Spn} {tm tm':Go.Ev.T} (hF:CC b1 b p x F N W s2 cs tm s') (e1:gp 240 tm'=gp 240 tm) (e2:gp 2 tm'=gp 2 tm) (e3:gp 3 tm'=gp 3 tm) (e4:gp 7 tm'=gp 7 tm) (e5:gp 8 tm'=gp 8 tm) (e6:gp 9 tm'=gp 9 tm) (e7:gp 11 tm'=gp 11 tm):CC b1 b p x F N W s2 cs tm' s' :=
 ⟨hF.ext,e1.trans hF.bd,e2.trans hF.g2,e3.trans hF.g3,by rw [e4];exact hF.g7,by rw [e5];exact hF.g8,by rw [e6];exact hF.g9,by rw [e7];exact hF.gz⟩
open Classical in
theorem zM8 (hC:CX sg x W F N s b1 b p):∀ tm s',(ltCd b1 b p x F N sg W 29).pre tm s'→(ltCd b1 b p x F N sg W 29).post tm s' (zap.run (Rk Tryz.prog (K4 F T N sg W) (ltCd b1 b p x F N sg W)) tm s'):=by
 refine zC (L:=ltCd b1 b p x F N sg W) pcOk0.1 pcOk0.2 zEc (fun tm _=>100 - (toI (gp 17 tm)).toNat) ?_ ?_
 ·rintro tm s a ⟨q,hq⟩ h
  exact (h q hq:cO _ _ _ _ _ _ _ _ _ _ _ _).nb
 rintro tm s' - IH ⟨s2,cs,lo,hi,k⟩ ⟨hF,hlo,hhk,hhi,hk,h17,⟨h12,h13⟩,h14,h15⟩
 have IH':∀ tm',100 - (toI (gp 17 tm')).toNat<100 - (toI (gp 17 tm)).toNat→(CC b1 b p x F N W s2 cs tm' s'∧lo<hi∧hi≤k+1∧hi≤W.length∧k+1≤W.length+1∧gp 17 tm'=iv .i64 ((k+1:Nat):Int)∧fBB lo hi true (decide (hi<k+1)) tm')→cO b1 b p x F N W 8 s2 cs (fBB lo hi true true) ((Rk Tryz.prog (K4 F T N sg W) (ltCd b1 b p x F N sg W)).code zI zdm tm' s'):=fun tm' h1 h2=>IH tm' s' h1 ⟨(s2,cs,lo,hi,k+1),h2⟩ (s2,cs,lo,hi,k+1) h2
 clear IH
 show cO _ _ _ _ _ _ _ _ _ _ (fBB lo hi true true) (zap.run _ tm s')
 generalize Rk Tryz.prog _ _=r at IH' ⊢
 obtain ⟨T',hH⟩:=hC.hH
 have hw1:=hH.w1
 simp only at hlo hhk hhi hk h17 h12 h13 h15
 have w2:IntKind.i64.wrap ((k:Int)+1)=(k:Int)+1:=zD (by omega) (by omega)
 have hx':=((hC.hx.ext (hF.g9.ext.trans hF.ext)).1).1.len
 have hxl:lenV x=W.length:=by rw [←hC.hW,zq]
 rw [hxl] at hx'
 by_cases hlt:k≤W.length
 ·obtain ⟨p1,r1,q1,a1,a2,a3,a4⟩:=(hF.g8.ext hF.ext).read (i:=hi) (j:=k) (by omega) (by omega)
  by_cases hke:hi<k
  ·have h15':gp 15 tm=.bool true:=by rw [h15,decide_eq_true hke]
   simp -implicitDefEqProofs [zes,zL,gp_sp,hF.g2,hx',h15',h17,qx,zo,w2,zd,hlt]
   exact IH' _ (by simp [gp_sp,h17,zp];omega) ⟨hF.frame (by simp [gp_sp]) (by simp [gp_sp]) (by simp [gp_sp]) (by simp [gp_sp]) (by simp [gp_sp]) (by simp [gp_sp]) (by simp [gp_sp]),hlo,by omega,hhi,by omega,by simp [gp_sp],⟨by simp [gp_sp,h12],by simp [gp_sp,h13]⟩,by simp [gp_sp,h14],by simp [gp_sp];omega⟩
  ·have h15':gp 15 tm=.bool false:=by rw [h15,decide_eq_false hke]
   have hv:pG W [] hi k=decide (hi<k+1):=by unfold pG;rw [decide_eq_decide,zDB];omega
   rw [hv] at a4
   simp -implicitDefEqProofs [zes,zL,gp_sp,hF.g2,hx',h13,h15',h17,qx,zo,a1,a2,a3,a4,w2,zd,hlt]
   exact IH' _ (by simp [gp_sp,h17,zp];omega) ⟨hF.frame (by simp [gp_sp]) (by simp [gp_sp]) (by simp [gp_sp]) (by simp [gp_sp]) (by simp [gp_sp]) (by simp [gp_sp]) (by simp [gp_sp]),hlo,by omega,hhi,by omega,by simp [gp_sp],⟨by simp [gp_sp,h12],by simp [gp_sp,h13]⟩,by simp [gp_sp,h14],by simp [gp_sp]⟩
 ·simp -implicitDefEqProofs [zes,zL,gp_sp,hF.g2,hx',h17,qx,zd,hlt]
  exact ⟨_,_,rfl,hF.frame (by simp [gp_sp]) (by simp [gp_sp]) (by simp [gp_sp]) (by simp [gp_sp]) (by simp [gp_sp]) (by simp [gp_sp]) (by simp [gp_sp]),⟨by simp [gp_sp,h12],by simp [gp_sp,h13]⟩,by simp [gp_sp,h14],by simp [gp_sp,h15];omega⟩
open Classical in
theorem zLd (hC:CX sg x W F N s b1 b p):∀ tm s',(ltCd b1 b p x F N sg W 47).pre tm s'→(ltCd b1 b p x F N sg W 47).post tm s' (zaa.run (Rk Tryz.prog (K4 F T N sg W) (ltCd b1 b p x F N sg W)) tm s'):=by
 refine zC (L:=ltCd b1 b p x F N sg W) pcOk0.1 pcOk0.2 zGA (fun tm _=>100 - (toI (gp 18 tm)).toNat) ?_ ?_
 ·rintro tm s a ⟨q,hq⟩ h
  exact (h q hq:cO _ _ _ _ _ _ _ _ _ _ _ _).nb
 rintro tm s' - IH ⟨s2,cs,lo,hi,k⟩ ⟨hF,hcs,hlo,hhi,hk,h18,⟨h12,h13⟩,h14,h15⟩
 have IH':∀ tm' s3,100 - (toI (gp 18 tm')).toNat<100 - (toI (gp 18 tm)).toNat→(CC b1 b p x F N W s2 (cs++candP F W lo hi (k+1)) tm' s3∧cs.length≤4000∧lo<hi∧hi≤W.length∧k+1≤N∧gp 18 tm'=iv .i64 ((k+1:Nat):Int)∧fBB lo hi true true tm')→cO b1 b p x F N W 10 s2 (cs++candP F W lo hi N) (fLH lo hi) ((Rk Tryz.prog (K4 F T N sg W) (ltCd b1 b p x F N sg W)).code zI zdo tm' s3):=fun tm' s3 h1 h2=>IH tm' s3 h1 ⟨(s2,cs,lo,hi,k+1),h2⟩ (s2,cs,lo,hi,k+1) h2
 clear IH
 show cO _ _ _ _ _ _ _ _ _ _ (fLH lo hi) (zaa.run _ tm s')
 generalize Rk Tryz.prog _ _=r at IH' ⊢
 obtain ⟨T',hH⟩:=hC.hH
 obtain ⟨T2,hp⟩:=hC.hp
 have hn2:=hH.n2
 have hw1:=hH.w1
 simp only at hcs hlo hhi hk h18 h12 h13
 have w2:IntKind.i64.wrap ((k:Int)+1)=(k:Int)+1:=zD (by omega) (by omega)
 have hE:=hF.g9.ext.trans hF.ext
 have hR:=hC.hR.ext hE
 have hlen:∀ c:V→Go.Ev.A,xLenS p c=c (iv .i64 (N:Int)):=fun c=>by rw [hp.sl.len,hp.len]
 by_cases hlt:k<N
 ·obtain ⟨p0,g,c1,c2,hg⟩:=(hF.g9.ext' hF.ext).at_ hlt
  obtain ⟨p1,r1,q1,a1,a2,a3,a4⟩:=hg.read (i:=lo) (j:=hi) (by omega) (by omega)
  by_cases ho:occ W (F k) lo hi
  ·have hv:pG W (F k) lo hi=true:=decide_eq_true ho
   rw [hv] at a4
   have hl1:=zmc F W lo hi k
   obtain ⟨l',s3,ha,hz,hn3,hk3,hb3⟩:=hF.gz.app1 hF.ext.nx (by omega) (zmp (lo,hi,k)).1 (zmp (lo,hi,k)).2 (by simp;omega)
   have hE3:Ext s2 s3:=zcB (D:=fun c=>blkOf (gp 11 tm)=some c) hF.ext hn3 hk3 (fun c hc=>(hF.gz.blk hc).1)
   have ha':∀ k_1:V→S→Go.Ev.A,zM 154 3 (gp 11 tm) (.sl s'.nx 0 0 1 1) (addB s' (.row [iv .i64 (lo:Int),iv .i64 (hi:Int),iv .i64 (k:Int)] 3 154 false 0 0 0)) k_1=k_1 l' s3:=ha
   simp -implicitDefEqProofs [zeF,zL,gp_sp,hF.g3,zi,hR.f1,hlen,h12,h13,h14,h15,h18,ze,zo,c1,c2,a1,a2,a3,a4,qE,qz,upd,put,qC,rep,qQ,zr,ha',w2,zd,hlt]
   refine IH' _ s3 (by simp [gp_sp,h18,zp];omega) ⟨⟨hE3,by simp [gp_sp,hF.bd],by simp [gp_sp,hF.g2],by simp [gp_sp,hF.g3],by simpa [gp_sp] using hF.g7,by simpa [gp_sp] using hF.g8,by simpa [gp_sp] using hF.g9,?_⟩,hcs,hlo,hhi,by omega,by simp [gp_sp],⟨by simp [gp_sp,h12],by simp [gp_sp,h13]⟩,by simp [gp_sp,h14],by simp [gp_sp,h15]⟩
   rw [candP,if_pos ho,←List.append_assoc,List.map_append]
   simpa [gp_sp] using hz
  ·have hv:pG W (F k) lo hi=false:=decide_eq_false ho
   rw [hv] at a4
   simp -implicitDefEqProofs [zeF,zL,gp_sp,hF.g3,zi,hR.f1,hlen,h12,h13,h14,h15,h18,ze,zo,c1,c2,a1,a2,a3,a4,w2,zd,hlt]
   refine IH' _ s' (by simp [gp_sp,h18,zp];omega) ⟨?_,hcs,hlo,hhi,by omega,by simp [gp_sp],⟨by simp [gp_sp,h12],by simp [gp_sp,h13]⟩,by simp [gp_sp,h14],by simp [gp_sp,h15]⟩
   rw [candP,if_neg ho,List.append_nil]
   exact hF.frame (by simp [gp_sp]) (by simp [gp_sp]) (by simp [gp_sp]) (by simp [gp_sp]) (by simp [gp_sp]) (by simp [gp_sp]) (by simp [gp_sp])
 ·simp -implicitDefEqProofs [zeF,zL,gp_sp,hF.g3,zi,hR.f1,hlen,h18,ze,zd,hlt]
  obtain rfl:k=N:=by omega
  exact ⟨_,_,rfl,hF.frame (by simp [gp_sp]) (by simp [gp_sp]) (by simp [gp_sp]) (by simp [gp_sp]) (by simp [gp_sp]) (by simp [gp_sp]) (by simp [gp_sp]),by simp [gp_sp,h12],by simp [gp_sp,h13]⟩
end
section
variable {F T:Nat→List Int} {N:Nat} {sg:Int} {W:List Int} {b1 s:S} {b:Go.Ev.K} {p x:V}
theorem mulB {a b c d:Nat} (h1:a≤c) (h2:b≤d):a*b≤c*d:=Nat.mul_le_mul h1 h2
open Classical in
theorem zNd (hC:CX sg x W F N s b1 b p):∀ tm s',(ltCd b1 b p x F N sg W 140).pre tm s'→(ltCd b1 b p x F N sg W 140).post tm s' (zaJ.run (Rk Tryz.prog (K4 F T N sg W) (ltCd b1 b p x F N sg W)) tm s'):=by
 refine zC (L:=ltCd b1 b p x F N sg W) pcOk0.1 pcOk0.2 zEY (fun tm _=>100 - (toI (gp 13 tm)).toNat) ?_ ?_
 ·rintro tm s a ⟨q,hq⟩ h
  exact (h q hq:cO _ _ _ _ _ _ _ _ _ _ _ _).nb
 rintro tm s' - IH ⟨s2,cs,lo,d,z⟩ ⟨hF,hcs,hlo,hd,h12,h13⟩
 have IH':∀ tm' s3,100 - (toI (gp 13 tm')).toNat<100 - (toI (gp 13 tm)).toNat→(CC b1 b p x F N W s2 (cs++candH F N W lo (d+1)) tm' s3∧cs.length≤3000∧lo<W.length∧d+1≤W.length - lo∧fLH lo (lo+1+(d+1)) tm')→cO b1 b p x F N W 4 s2 (cs++candH F N W lo (W.length - lo)) (fLo lo) ((Rk Tryz.prog (K4 F T N sg W) (ltCd b1 b p x F N sg W)).code zI zcR tm' s3):=fun tm' s3 h1 h2=>IH tm' s3 h1 ⟨(s2,cs,lo,d+1,z),h2⟩ (s2,cs,lo,d+1,z) h2
 clear IH
 show cO _ _ _ _ _ _ _ _ _ _ (fLo lo) (zaJ.run _ tm s')
 have hA6:=zMS (T:=T) hC
 have hA8:=zM8 (T:=T) hC
 have hA10:=zLd (T:=T) hC
 generalize Rk Tryz.prog _ _=r at IH' hA6 hA8 hA10 ⊢
 obtain ⟨T',hH⟩:=hC.hH
 have hn2:=hH.n2
 have hw1:=hH.w1
 simp only at hcs hlo hd h12 h13
 have hx':=((hC.hx.ext (hF.g9.ext.trans hF.ext)).1).1.len
 have hxl:lenV x=W.length:=by rw [←hC.hW,zq]
 rw [hxl] at hx'
 have h13':gp 13 tm=iv .i64 ((lo:Int)+1+(d:Int)):=by rw [h13];congr 1
 by_cases hlt:lo+1+d≤W.length
 ·have hlt':(lo:Int)+1+(d:Int)≤W.length:=by omega
  have w2:IntKind.i64.wrap ((lo:Int)+1+(d:Int)+1)=(lo:Int)+1+(d:Int)+1:=zD (by omega) (by omega)
  simp -implicitDefEqProofs [znu,zL,gp_sp,hF.g2,hx',h13',qx,zd,hlt']
  generalize hA:zay.run r _ s'=a
  have q6:CC b1 b p x F N W s2 (cs++candH F N W lo d) _ s'∧lo<lo+1+d∧lo+1+d≤W.length∧0≤lo+1∧_:=⟨hF.frame (tm':=sp 16 (iv .i64 0) (sp 15 (.bool false) (sp 14 (.bool false) (sp 21 (.bool true) tm)))) (by simp [gp_sp]) (by simp [gp_sp]) (by simp [gp_sp]) (by simp [gp_sp]) (by simp [gp_sp]) (by simp [gp_sp]) (by simp [gp_sp]),by omega,hlt,by omega,(⟨by simp [gp_sp],⟨by simp [gp_sp,h12],by simp [gp_sp,h13]⟩,by simp [gp_sp],by simp [gp_sp]⟩:gp 16 (sp 16 (iv .i64 0) (sp 15 (.bool false) (sp 14 (.bool false) (sp 21 (.bool true) tm))))=iv .i64 ((0:Nat):Int)∧fBB lo (lo+1+d) (decide (lo<0)) false (sp 16 (iv .i64 0) (sp 15 (.bool false) (sp 14 (.bool false) (sp 21 (.bool true) tm)))))⟩
  have:cO b1 b p x F N W 6 s2 (cs++candH F N W lo d) (fBB lo (lo+1+d) true false) a:=hA▸hA6 _ s' ⟨(s2,cs++candH F N W lo d,lo,lo+1+d,0),q6⟩ (s2,cs++candH F N W lo d,lo,lo+1+d,0) q6
  obtain ⟨tm2,s3,rfl,hF2,⟨⟨k12,k13⟩,k14,k15⟩⟩:=this
  simp -implicitDefEqProofs [zf]
  generalize hA':zap.run r _ s3=a'
  have q8:CC b1 b p x F N W s2 (cs++candH F N W lo d) (sp 17 (gp 13 tm2) tm2) s3∧lo<lo+1+d∧lo+1+d≤lo+1+d∧lo+1+d≤W.length∧lo+1+d≤W.length+1∧gp 17 (sp 17 (gp 13 tm2) tm2)=iv .i64 ((lo+1+d:Nat):Int)∧fBB lo (lo+1+d) true (decide (lo+1+d<lo+1+d)) (sp 17 (gp 13 tm2) tm2):=⟨hF2.frame (by simp [gp_sp]) (by simp [gp_sp]) (by simp [gp_sp]) (by simp [gp_sp]) (by simp [gp_sp]) (by simp [gp_sp]) (by simp [gp_sp]),by omega,Nat.le_refl _,hlt,by omega,by simp [gp_sp,k13],⟨by simp [gp_sp,k12],by simp [gp_sp,k13]⟩,by simp [gp_sp,k14],by simp [gp_sp,k15]⟩
  have:cO b1 b p x F N W 8 s2 (cs++candH F N W lo d) (fBB lo (lo+1+d) true true) a':=hA'▸hA8 _ s3 ⟨(s2,cs++candH F N W lo d,lo,lo+1+d,lo+1+d),q8⟩ (s2,cs++candH F N W lo d,lo,lo+1+d,lo+1+d) q8
  obtain ⟨tm3,s4,rfl,hF3,⟨⟨m12,m13⟩,m14,m15⟩⟩:=this
  simp -implicitDefEqProofs [zf]
  generalize hA'':zaa.run r _ s4=a''
  have hl1:=zmg F N W lo d
  have hl2:d*N≤8*20:=mulB (by omega) hn2
  have q10:CC b1 b p x F N W s2 ((cs++candH F N W lo d)++candP F W lo (lo+1+d) 0) (sp 18 (iv .i64 0) tm3) s4∧(cs++candH F N W lo d).length≤4000∧lo<lo+1+d∧lo+1+d≤W.length∧0≤N∧gp 18 (sp 18 (iv .i64 0) tm3)=iv .i64 ((0:Nat):Int)∧fBB lo (lo+1+d) true true (sp 18 (iv .i64 0) tm3):=⟨by
   rw [candP,List.append_nil]
   exact hF3.frame (by simp [gp_sp]) (by simp [gp_sp]) (by simp [gp_sp]) (by simp [gp_sp]) (by simp [gp_sp]) (by simp [gp_sp]) (by simp [gp_sp]),by rw [List.length_append];omega,by omega,hlt,Nat.zero_le _,by simp [gp_sp],⟨by simp [gp_sp,m12],by simp [gp_sp,m13]⟩,by simp [gp_sp,m14],by simp [gp_sp,m15]⟩
  have:cO b1 b p x F N W 10 s2 ((cs++candH F N W lo d)++candP F W lo (lo+1+d) N) (fLH lo (lo+1+d)) a'':=hA''▸hA10 _ s4 ⟨(s2,cs++candH F N W lo d,lo,lo+1+d,0),q10⟩ (s2,cs++candH F N W lo d,lo,lo+1+d,0) q10
  obtain ⟨tm4,s5,rfl,hF4,n12,n13⟩:=this
  have n13':gp 13 tm4=iv .i64 ((lo:Int)+1+(d:Int)):=by rw [n13];congr 1
  simp -implicitDefEqProofs [zf,n13',zo,w2]
  refine IH' _ s5 (by simp [gp_sp,h13',zp];omega) ⟨?_,hcs,hlo,by omega,by simp [gp_sp,n12],by simp [gp_sp];rw [show ((lo:Int)+1+((d:Int)+1))=lo+1+d+1 by omega]⟩
  rw [candH,←List.append_assoc]
  exact hF4.frame (by simp [gp_sp]) (by simp [gp_sp]) (by simp [gp_sp]) (by simp [gp_sp]) (by simp [gp_sp]) (by simp [gp_sp]) (by simp [gp_sp])
 ·have hlt':¬(lo:Int)+1+(d:Int)≤W.length:=by omega
  simp -implicitDefEqProofs [znu,zL,gp_sp,hF.g2,hx',h13',qx,zd,hlt']
  obtain rfl:d=W.length - lo:=by omega
  exact ⟨_,_,rfl,hF.frame (by simp [gp_sp]) (by simp [gp_sp]) (by simp [gp_sp]) (by simp [gp_sp]) (by simp [gp_sp]) (by simp [gp_sp]) (by simp [gp_sp]),by simp [fLo,gp_sp,h12]⟩
open Classical in
theorem zNw (hC:CX sg x W F N s b1 b p):∀ tm s',(ltCd b1 b p x F N sg W 163).pre tm s'→(ltCd b1 b p x F N sg W 163).post tm s' (zas.run (Rk Tryz.prog (K4 F T N sg W) (ltCd b1 b p x F N sg W)) tm s'):=by
 refine zC (L:=ltCd b1 b p x F N sg W) pcOk0.1 pcOk0.2 zGX (fun tm _=>100 - (toI (gp 12 tm)).toNat) ?_ ?_
 ·rintro tm s a ⟨q,hq⟩ h
  exact (h q hq:cO _ _ _ _ _ _ _ _ _ _ _ _).nb
 rintro tm s' - IH ⟨s2,cs,lo,d,z⟩ ⟨hF,hlo,h12⟩
 have IH':∀ tm' s3,100 - (toI (gp 12 tm')).toNat<100 - (toI (gp 12 tm)).toNat→(CC b1 b p x F N W s2 (candO F N W (lo+1)) tm' s3∧lo+1≤W.length∧fLo (lo+1) tm')→cO b1 b p x F N W 2 s2 (candL F N W) (fun _=>True) ((Rk Tryz.prog (K4 F T N sg W) (ltCd b1 b p x F N sg W)).code zI zcq tm' s3):=fun tm' s3 h1 h2=>IH tm' s3 h1 ⟨(s2,cs,lo+1,d,z),h2⟩ (s2,cs,lo+1,d,z) h2
 clear IH
 show cO _ _ _ _ _ _ _ _ _ _ (fun _=>True) (zas.run _ tm s')
 have hA4:=zNd (T:=T) hC
 generalize Rk Tryz.prog _ _=r at IH' hA4 ⊢
 obtain ⟨T',hH⟩:=hC.hH
 have hn2:=hH.n2
 have hw1:=hH.w1
 simp only at hlo h12
 have h12':gp 12 tm=iv .i64 (lo:Int):=h12
 have hx':=((hC.hx.ext (hF.g9.ext.trans hF.ext)).1).1.len
 have hxl:lenV x=W.length:=by rw [←hC.hW,zq]
 rw [hxl] at hx'
 have w2:IntKind.i64.wrap ((lo:Int)+1)=(lo:Int)+1:=zD (by omega) (by omega)
 by_cases hlt:lo<W.length
 ·simp -implicitDefEqProofs [zm2,zL,gp_sp,hF.g2,hx',h12',ze,zo,w2,zd,hlt]
  generalize hA:zaJ.run r _ s'=a
  have hl1:=zlY F N W lo
  have hl2:lo*(W.length*N)≤8*(8*20):=mulB (by omega) (mulB hw1 hn2)
  have q4:∀ tm',tm'=sp 13 (iv .i64 ((lo:Int)+1)) (sp 20 (.bool true) tm)→CC b1 b p x F N W s2 (candO F N W lo++candH F N W lo 0) tm' s'∧(candO F N W lo).length≤3000∧lo<W.length∧0≤W.length - lo∧fLH lo (lo+1+0) tm':=by
   rintro tm' rfl
   refine ⟨?_,by omega,hlt,Nat.zero_le _,by simp [gp_sp,h12'],by simp [gp_sp]⟩
   rw [candH,List.append_nil]
   exact hF.frame (by simp [gp_sp]) (by simp [gp_sp]) (by simp [gp_sp]) (by simp [gp_sp]) (by simp [gp_sp]) (by simp [gp_sp]) (by simp [gp_sp])
  have:cO b1 b p x F N W 4 s2 (candO F N W lo++candH F N W lo (W.length - lo)) (fLo lo) a:=hA▸hA4 _ s' ⟨(s2,candO F N W lo,lo,0,0),q4 _ rfl⟩ (s2,candO F N W lo,lo,0,0) (q4 _ rfl)
  obtain ⟨tm2,s3,rfl,hF2,k12⟩:=this
  have k12':gp 12 tm2=iv .i64 (lo:Int):=k12
  simp -implicitDefEqProofs [zf,k12',zo,w2]
  refine IH' _ s3 (by simp [gp_sp,h12',zp];omega) ⟨?_,by omega,by simp [fLo,gp_sp]⟩
  rw [candO]
  exact hF2.frame (by simp [gp_sp]) (by simp [gp_sp]) (by simp [gp_sp]) (by simp [gp_sp]) (by simp [gp_sp]) (by simp [gp_sp]) (by simp [gp_sp])
 ·simp -implicitDefEqProofs [zm2,zL,gp_sp,hF.g2,hx',h12',ze,zd,hlt]
  obtain rfl:lo=W.length:=by omega
  exact ⟨_,_,rfl,hF.frame (by simp [gp_sp]) (by simp [gp_sp]) (by simp [gp_sp]) (by simp [gp_sp]) (by simp [gp_sp]) (by simp [gp_sp]) (by simp [gp_sp]),trivial⟩
open Classical in
theorem zM2 (hC:CX sg x W F N s b1 b p):∀ tm s',(ltCd b1 b p x F N sg W 32).pre tm s'→(ltCd b1 b p x F N sg W 32).post tm s' (w7.run (Rk Tryz.prog (K4 F T N sg W) (ltCd b1 b p x F N sg W)) tm s'):=by
 refine zC (L:=ltCd b1 b p x F N sg W) pcOk0.1 pcOk0.2 zEp (fun tm _=>100 - (toI (gp 10 tm)).toNat) ?_ ?_
 ·rintro tm s a ⟨q,hq⟩ h
  obtain ⟨_,_,rfl,_⟩:dO _ _ _ _ _ _ _:=h q hq
  exact fun h=>h
 rintro tm s' - IH ⟨b3,i⟩ ⟨hE3,hi,h10,h1,h240,h2,h3,g7,g8,g9⟩
 have IH':∀ tm' s3,100 - (toI (gp 10 tm')).toNat<100 - (toI (gp 10 tm)).toNat→(Ext b1 b3∧i+1≤N∧gp 10 tm'=iv .i64 ((i+1:Nat):Int)∧gp 1 tm'=iv .i64 sg∧gp 240 tm'=.bad∧gp 2 tm'=x∧gp 3 tm'=.ptr b 0 0∧Grid anyK b3 (gp 7 tm') W.length (pG W [])∧Grid anyK b3 (gp 8 tm') W.length (pG W [])∧GList 197 b3 s3 (gp 9 tm') W.length (i+1) (fun i=>pG W (F i)))→dO b1 b x F N W ((Rk Tryz.prog (K4 F T N sg W) (ltCd b1 b p x F N sg W)).code zI zcE tm' s3):=fun tm' s3 h1 h2=>IH tm' s3 h1 ⟨(b3,i+1),h2⟩ (b3,i+1) h2
 simp only at hE3 hi h10 g7 g8 g9
 have hE:=hE3.trans g9.ext
 clear IH
 show dO b1 b x F N W (w7.run _ tm s')
 have hPi:Kept (K4 F T N sg W) (Rk Tryz.prog (K4 F T N sg W) (ltCd b1 b p x F N sg W)) 111:=zn (hold4 zmt rfl)
 generalize Rk Tryz.prog _ _=r at IH' hPi ⊢
 obtain ⟨T',hH⟩:=hC.hH
 obtain ⟨T2,hp⟩:=hC.hp
 have hn2:=hH.n2
 have hw1:=hH.w1
 have w2:IntKind.i64.wrap ((i:Int)+1)=(i:Int)+1:=zD (by omega) (by omega)
 have hR:=hC.hR.ext hE
 have hlen:∀ c:V→Go.Ev.A,xLenS p c=c (iv .i64 (N:Int)):=fun c=>by rw [hp.sl.len,hp.len]
 by_cases hlt:i<N
 ·obtain ⟨q,q0,e,B,a1,-,a3,a4,a5,a6,a7⟩:=(hp.ext hE).at_ hlt
  obtain ⟨k,z,zs,hS,hw⟩:=a5
  have hx':=(hC.hx.ext hE).1
  have hxl:lenV x=W.length:=by rw [←hC.hW,zq]
  obtain ⟨v,s2,e2,p2⟩:=hPi [.ls 0 e,iv .i64 sg,x] s' ⟨e,k,z,zs,_,sg,rfl,hS,hx',by omega⟩
  obtain ⟨hE2,hG⟩:=p2 _ _ _ _ _ _ rfl hS
  rw [hC.hx.word hE,hC.hW,hw,hxl] at hG
  obtain ⟨gA,gR,rfl,hGA⟩:=hG
  obtain ⟨l',s3,ha,hg⟩:=g9.app hE2 (g:=gridV gA W.length) ⟨gA,gR,rfl,hGA⟩ (by omega)
  simp -implicitDefEqProofs [zp8,zL,gp_sp,h1,h2,h3,zi,hR.f1,hlen,h10,ze,zo,a1,a3,a4,e2,qC,rep,ztH,qz,upd,put,zr,ha,w2,zd,hlt]
  exact IH' _ s3 (by simp [gp_sp,h10,zp];omega) ⟨hE3,by omega,by simp [gp_sp],by simp [gp_sp,h1],by simp [gp_sp,h240],by simp [gp_sp,h2],by simp [gp_sp,h3],by simpa [gp_sp] using g7,by simpa [gp_sp] using g8,by simpa [gp_sp] using hg⟩
 ·simp -implicitDefEqProofs [zp8,zL,gp_sp,h3,zi,hR.f1,hlen,h10,ze,zd,hlt]
  obtain rfl:i=N:=by omega
  exact ⟨_,_,rfl,by simp [gp_sp,h240],by simp [gp_sp,h2],by simp [gp_sp,h3],by simpa [gp_sp] using g7.ext g9.ext,by simpa [gp_sp] using g8.ext g9.ext,b3,hE3,by simpa [gp_sp] using g9⟩
open Classical in
theorem zKE (hH:Hyp F T N sg W):Holds Tryz.prog (K4 F T N sg W) 71:=by
 rintro a s ⟨p,x,rfl,hp,hx,hW⟩
 obtain ⟨c1,c2,c3⟩:=zbe hp.sl
 obtain ⟨b1,hb1⟩:∃ b1,b1=addB s (.row (ruC p) 16 37 false 0 0 0):=⟨_,rfl⟩
 rw [←hb1] at c1 c2 c3
 suffices hh:∃ v s',(fnC pc0 71).run (Rk Tryz.prog (K4 F T N sg W) (ltCd b1 s.nx p x F N sg W)) [.ls 0 (ruC p),iv .i64 sg,x] s=.ret v s'∧Ext s s'∧SpA s' v (candL F N W) by
  obtain ⟨v,s',g1,g2,g3⟩:=hh
  exact ⟨v,s',fn_k4 g1,g2,g3⟩
 have hC:CX sg x W F N s b1 s.nx p:=⟨⟨T,hH⟩,⟨T,hp.ext c2⟩,(hx.ext c2).1,by rw [hx.word c2,hW],c1,c2⟩
 have hA0:=zM2 (T:=T) hC
 have hA2:=zNw (T:=T) hC
 have hPi:Kept (K4 F T N sg W) (Rk Tryz.prog (K4 F T N sg W) (ltCd b1 s.nx p x F N sg W)) 111:=zn (hold4 zmt rfl)
 generalize Rk Tryz.prog _ _=r at hA0 hA2 hPi ⊢
 have hcc:=yU p
 have hw1:=hH.w1
 have hxl:lenV x=W.length:=by rw [←hW,zq]
 have hem:∀ s,ShAt s emC 1 0 []:=fun s=>⟨.nil 1,rfl,⟨.inl (.inl rfl),rfl,fun i hi=>by cases hi⟩,.inl ⟨rfl,rfl,rfl⟩⟩
 obtain ⟨v7,s2,e2,p2⟩:=hPi [.ls 0 emC,iv .i64 sg,x] b1 ⟨emC,1,0,[],x,sg,rfl,hem b1,hC.hx,by omega⟩
 obtain ⟨hE2,hG7⟩:=p2 _ _ _ _ _ _ rfl (hem b1)
 obtain ⟨v8,s3,e3,p3⟩:=hPi [.ls 0 emC,iv .i64 sg,x] s2 ⟨emC,1,0,[],x,sg,rfl,hem s2,(hC.hx.ext hE2).1,by omega⟩
 obtain ⟨hE3,hG8⟩:=p3 _ _ _ _ _ _ rfl (hem s2)
 rw [hC.hW,hxl] at hG7
 rw [hC.hx.word hE2,hC.hW,hxl] at hG8
 have e0:wOf 1 0 []=[]:=rfl
 rw [e0] at hG7 hG8
 have hR2:=c1.ext hE2
 have hE23:=hE2.trans hE3
 simp -implicitDefEqProofs [zL,gp_sp,hcc,c3,zi,c1.f2,hR2.f9,e2,e3,zd]
 generalize hA:w7.run r _ s3=y
 have q0:∀ tm,tm=sp 10 (iv .i64 0) (sp 9 (.nil 1) (sp 8 v8 (sp 7 v7 (sp 6 (.nil 1) (sp 3 (.ptr s.nx 0 0) (sp 2 x (sp 1 (iv .i64 sg) (sp 0 (.ls 0 (ruC p)) Go.Ev.T.new))))))))→Ext b1 s3∧0≤N∧gp 10 tm=iv .i64 ((0:Nat):Int)∧gp 1 tm=iv .i64 sg∧gp 240 tm=.bad∧gp 2 tm=x∧gp 3 tm=.ptr s.nx 0 0∧Grid anyK s3 (gp 7 tm) W.length (pG W [])∧Grid anyK s3 (gp 8 tm) W.length (pG W [])∧GList 197 s3 s3 (gp 9 tm) W.length 0 (fun i=>pG W (F i)):=by
  rintro tm rfl
  exact ⟨hE23,Nat.zero_le _,by simp [gp_sp],by simp [gp_sp],by simp [gp_sp],by simp [gp_sp],by simp [gp_sp],by simpa [gp_sp] using (hG7.ext hE3).any,by simpa [gp_sp] using hG8.any,by simpa [gp_sp] using GList.nil 197 s3 W.length (fun i=>pG W (F i))⟩
 have:dO b1 s.nx x F N W y:=hA▸hA0 _ s3 ⟨(s3,0),q0 _ rfl⟩ (s3,0) (q0 _ rfl)
 obtain ⟨tm',s4,rfl,k240,k2,k3,g7,g8,g9⟩:=this
 simp -implicitDefEqProofs [zf]
 generalize hA':zas.run r _ s4=y'
 have q2:∀ tm,tm=sp 12 (iv .i64 0) (sp 11 (.nil 1) tm')→CC b1 s.nx p x F N W s4 (candO F N W 0) tm s4∧0≤W.length∧fLo 0 tm:=by
  rintro tm rfl
  exact ⟨⟨Ext.refl s4,by simp [gp_sp,k240],by simp [gp_sp,k2],by simp [gp_sp,k3],by simpa [gp_sp] using g7,by simpa [gp_sp] using g8,by simpa [gp_sp] using g9,.inl ⟨by simp [gp_sp],rfl⟩⟩,Nat.zero_le _,by simp [fLo,gp_sp]⟩
 have:cO b1 s.nx p x F N W 2 s4 (candL F N W) (fun _=>True) y':=hA'▸hA2 _ s4 ⟨(s4,[],0,0,0),q2 _ rfl⟩ (s4,[],0,0,0) (q2 _ rfl)
 obtain ⟨tm2,s5,rfl,hF,-⟩:=this
 exact ⟨gp 11 tm2,s5,by simp [zf,gp_sp,hF.bd],c2.trans (hF.g9.ext.trans hF.ext),Gz.spA hF.gz⟩
end
theorem SpA.ext {s s':S} {v:V} {cs:List Spn} (h:SpA s v cs) (x:Ext s s'):SpA s' v cs:=by
 obtain ⟨h1,h2⟩:=h.sl.ext x
 refine ⟨h1,h.len,fun i hi=>?_⟩
 rw [←h.at_ i hi]
 unfold spV;simp [h2]
theorem SpA.get {s:S} {v:V} {cs:List Spn} (h:SpA s v cs) {i:Nat} (hi:i<cs.length):∃ q q0 q1 q2,(∀ k c,zb 3 v (iv k (i:Int)) c=c q)∧(∀ k:V→S→Go.Ev.A,xLoad true 3 q s k=k (.ls 0 (spC (cs.getD i (0,0,0)))) s) ∧
  (∀ c,za 0 q c=c q0)∧(∀ c,za 1 q c=c q1)∧(∀ c,za 2 q c=c q2)∧(∀ k:V→S→Go.Ev.A,xLoad false 1 q0 s k=k (iv .i64 ((cs.getD i (0,0,0)).1:Int)) s)∧(∀ k:V→S→Go.Ev.A,xLoad false 1 q1 s k=k (iv .i64 ((cs.getD i (0,0,0)).2.1:Int)) s)∧∀ k:V→S→Go.Ev.A,xLoad false 1 q2 s k=k (iv .i64 ((cs.getD i (0,0,0)).2.2:Int)) s:=by
 have h1:=h.at_ i hi
 generalize cs.getD i (0,0,0)=c at h1
 obtain ⟨q,e1,hP⟩:=h.sl.idx (i:=(i:Int)) (by omega) (by rw [h.len];omega)
 rw [Int.toNat_natCast] at hP
 have hcell:∀ j,j<3→cellV s v (i*3+j)=(spC c).getD j .bad:=fun j hj=>by
  have:=congrArg (fun l:List V=>l.getD j .bad) h1
  simpa [spV,hj] using this
 have hne:∀ j,j<3→cellV s v (i*3+j)≠.bad:=fun j hj=>by
  rw [hcell j hj]
  have:j=0∨j=1∨j=2:=by omega
  rcases this with rfl | rfl | rfl
  ·exact iv_ne .i64 (c.1:Int)
  ·exact iv_ne .i64 (c.2.1:Int)
  ·exact iv_ne .i64 (c.2.2:Int)
 obtain ⟨q0,f0,hP0⟩:=hP.field 0 (by omega)
 obtain ⟨q1,f1,hP1⟩:=hP.field 1 (by omega)
 obtain ⟨q2,f2,hP2⟩:=hP.field 2 (by omega)
 refine ⟨q,q0,q1,q2,e1,fun k=>?_,f0,f1,f2,fun k=>?_,fun k=>?_,fun k=>?_⟩
 ·rw [hP.loadN 3 (Nat.le_refl _) hne k]
  show k (.ls 0 (spV s v i)) s=_
  rw [h1]
 ·rw [hP0.load1 (by omega) (by simpa using hne 0 (by omega)) k,show 0+0=0 from rfl,hcell 0 (by omega)];rfl
 ·rw [hP1.load1 (by omega) (by simpa using hne 1 (by omega)) k,show 1+0=1 from rfl,hcell 1 (by omega)];rfl
 ·rw [hP2.load1 (by omega) (by simpa using hne 2 (by omega)) k,show 2+0=2 from rfl,hcell 2 (by omega)];rfl
theorem zl5 (c:Spn) (f:List V→Go.Ev.A):zk 3 (.ls 0 (spC c)) f=f (spC c):=qQ 3 _ rfl f
structure SBx (s:S) (b:Go.Ev.K) (c:Spn):Prop where
 bx:Bx s b (spC c) 3 154
 f0:∀ k:V→S→Go.Ev.A,xLoad false 1 (.ptr b 0 0) s k=k (iv .i64 (c.1:Int)) s
 f1:∀ k:V→S→Go.Ev.A,xLoad false 1 (.ptr b 0 1) s k=k (iv .i64 (c.2.1:Int)) s
 f2:∀ k:V→S→Go.Ev.A,xLoad false 1 (.ptr b 0 2) s k=k (iv .i64 (c.2.2:Int)) s
 fA:∀ k:V→S→Go.Ev.A,xLoad true 3 (.ptr b 0 0) s k=k (.ls 0 (spC c)) s
theorem Bx.sp {s:S} {b:Go.Ev.K} {c:Spn} (h:Bx s b (spC c) 3 154):SBx s b c:=⟨h,h.fld 0 (by omega),h.fld 1 (by omega),h.fld 2 (by omega),h.all⟩
theorem SBx.ext {s s':S} {b:Go.Ev.K} {c:Spn} (h:SBx s b c) (e:Ext s s'):SBx s' b c:=(h.bx.ext e).sp
theorem zuh (s:S) (c:Spn):SBx (addB s (.row (spC c) 3 154 false 0 0 0)) s.nx c∧Ext s (addB s (.row (spC c) 3 154 false 0 0 0))∧(∀ k:Go.Ev.K→Nat→S→Go.Ev.A,Go.Ev.newRow s 154 (spC c) false k=k s.nx 3 (addB s (.row (spC c) 3 154 false 0 0 0))) ∧
  (∀ k:Go.Ev.K→Nat→S→Go.Ev.A,Go.Ev.newRow s 154 [iv .i64 0,iv .i64 0,iv .i64 0] false k=k s.nx 3 (addB s (.row (spC (0,0,0)) 3 154 false 0 0 0))) ∧
  ∀ k:V→S→Go.Ev.A,zK 3 (.ptr s.nx 0 0) (.ls 0 (spC c)) (addB s (.row (spC (0,0,0)) 3 154 false 0 0 0)) k=k Go.Ev.undef (addB s (.row (spC c) 3 154 false 0 0 0)):=by
 obtain ⟨b1,b2,b3⟩:=qK s (el:=154) (zmp c).2 (zmp c).1
 exact ⟨b1.sp,b2,b3,fun k=>zr _ _ _ _ _,fun k=>yN s 154 3 (spC (0,0,0)) (spC c) rfl rfl k⟩
theorem zNJ (a:Bool) (c:V→Go.Ev.A):xBin ⟨0,[]⟩ false .eql (.bool a) (.bool true) c=c (.bool a):=by cases a<;>rfl
section
variable {F T:Nat→List Int} {N:Nat} {sg:Int} {W:List Int}
theorem zDf {c d:Spn} (h:spC c=spC d):c=d:=by
 simp only [spC,List.cons.injEq,and_true] at h
 obtain ⟨h1,h2,h3⟩:=h
 have:=j6 h1
 have:=j6 h2
 have:=j6 h3
 obtain ⟨_,_,_⟩:=c
 obtain ⟨_,_,_⟩:=d
 simp_all
theorem zFJ (hH:Hyp F T N sg W):Holds Tryz.prog (K4 F T N sg W) 112:=by
 rintro a s ⟨c,d,rfl,hc,hd⟩
 suffices hh:∃ s',(fnC pc0 112).run (Rk Tryz.prog (K4 F T N sg W) noL) [iv .i64 3,.ls 0 (spC c),.ls 0 (spC d)] s=.ret (.bool (zdj c d)) s'∧Ext s s' by
  obtain ⟨s',g1,g2⟩:=hh
  refine ⟨_,s',fn_k4 g1,fun c' d' e=>?_⟩
  simp only [List.cons.injEq,V.ls.injEq,true_and,and_true] at e
  obtain ⟨e1,e2⟩:=e
  cases zDf e1
  cases zDf e2
  exact ⟨g2,rfl⟩
 generalize Rk Tryz.prog _ _=r
 have hw1:=hH.w1
 obtain ⟨a1,a2,a3⟩:=hc
 obtain ⟨d1,d2,d3⟩:=hd
 obtain ⟨B1,B2,B3,-,-⟩:=zuh s c
 obtain ⟨C1,C2,C3,-,-⟩:=zuh (addB s (.row (spC c) 3 154 false 0 0 0)) d
 generalize addB (addB s (.row (spC c) 3 154 false 0 0 0)) (.row (spC d) 3 154 false 0 0 0)=s2 at *
 generalize hs1:addB s (.row (spC c) 3 154 false 0 0 0)=s1 at *
 have B1':=B1.ext C2
 have n1:((c.2.1:Int) - c.1)=((c.2.1 - c.1:Nat):Int):=by omega
 have n2:((d.2.1:Int) - d.1)=((d.2.1 - d.1:Nat):Int):=by omega
 have w1:IntKind.i64.wrap ((c.2.1:Int) - c.1)=((c.2.1 - c.1:Nat):Int):=by rw [n1];exact zD (by omega) (by omega)
 have w2:IntKind.i64.wrap ((d.2.1:Int) - d.1)=((d.2.1 - d.1:Nat):Int):=by rw [n2];exact zD (by omega) (by omega)
 unfold zdj
 generalize c.2.1 - c.1=x at *
 generalize d.2.1 - d.1=y at *
 refine ⟨s2,?_,B2.trans C2⟩
 by_cases e:x=y
 ·subst e
  rw [if_pos rfl]
  simp -implicitDefEqProofs [zon,gp_sp,zl5,B3,C3,zi,B1'.f0,B1'.f1,B1'.f2,C1.f0,C1.f1,C1.f2,zDH,w1,w2,yZ,ze,zd]
 ·have e':¬(x:Int)=y:=by omega
  rw [if_neg e]
  simp -implicitDefEqProofs [zon,gp_sp,zl5,B3,C3,zi,B1'.f0,B1'.f1,C1.f0,C1.f1,zDH,w1,w2,yZ,zw,qD,zNJ,e',zd]
end
def d0:Spn:=(0,0,0)
section
variable {F T:Nat→List Int} {N:Nat} {sg:Int} {W:List Int}
def FO (cs:List Spn) (at_ k:Nat) (f:Int):Prop:=(f=-1∧∀ m,m<k→(cs.getD m (0,0,0)).1<at_)∨∃ i:Nat,f=i∧i<k∧at_≤(cs.getD i (0,0,0)).1∧∀ m,m<k→at_≤(cs.getD m (0,0,0)).1→(cs.getD i (0,0,0)).1<(cs.getD m (0,0,0)).1∨((cs.getD i (0,0,0)).1=(cs.getD m (0,0,0)).1∧(cs.getD m (0,0,0)).2.1≤(cs.getD i (0,0,0)).2.1)
structure DF (s0:S) (l:V) (at_:Nat) (ds:List Spn) (tm:Go.Ev.T) (s:S):Prop where
 ext:Ext s0 s
 bd:gp 240 tm=.bad
 g0:gp 0 tm=iv .i64 3
 g1:gp 1 tm=l
 g8:gp 8 tm=.bool true
 g9:gp 9 tm=iv .i64 (at_:Int)
 gz:Gz 154 3 s0 s (gp 7 tm) (ds.map spC)
theorem DF.frame {s0 s s':S} {l:V} {at_:Nat} {ds:List Spn} {tm tm':Go.Ev.T} (h:DF s0 l at_ ds tm s) (e:Ext s s') (e1:gp 240 tm'=gp 240 tm) (e2:gp 0 tm'=gp 0 tm) (e3:gp 1 tm'=gp 1 tm) (e4:gp 8 tm'=gp 8 tm) (e5:gp 9 tm'=gp 9 tm) (e6:gp 7 tm'=gp 7 tm):DF s0 l at_ ds tm' s' :=
 ⟨h.ext.trans e,e1.trans h.bd,e2.trans h.g0,e3.trans h.g1,e4.trans h.g8,e5.trans h.g9,by rw [e6];exact h.gz.ext e⟩
def fF (cs:List Spn) (at_ k:Nat) (tm:Go.Ev.T):Prop:=∃ f:Int,gp 10 tm=iv .i64 f∧FO cs at_ k f
def dOut (s0:S) (l:V) (at_:Nat) (cs ds:List Spn) (a:Go.Ev.A):Prop:=∃ tm' s',a=.ext 2 tm' s'∧DF s0 l at_ ds tm' s'∧fF cs at_ cs.length tm'
def dEnd (s0:S) (at_:Nat) (cs ds:List Spn) (a:Go.Ev.A):Prop:=∃ tm' s',a=.ret tm' s'∧gp 240 tm'=.bad∧Ext s0 s'∧∃ d,Div cs at_ d∧Gz 154 3 s0 s' (gp 6 tm') ((ds++d).map spC)
def ltD (s0:S) (l:V) (cs:List Spn) (n:Nat):Nat→Lt
 | 129=>ltI (fun (q:Nat × List Spn × Nat) tm s=>DF s0 l q.1 q.2.1 tm s∧q.2.2≤cs.length∧gp 11 tm=iv .i64 (q.2.2:Int)∧fF cs q.1 q.2.2 tm) (fun q a=>dOut s0 l q.1 cs q.2.1 a)
 | _=>ltI (fun (q:Nat × List Spn) tm s=>DF s0 l q.1 q.2 tm s∧q.1≤n∧q.2.length≤q.1) (fun q a=>dEnd s0 q.1 cs q.2 a)
variable {s0:S} {l:V} {cs:List Spn} {n:Nat}
theorem zNG (hH:Hyp F T N sg W) (hl:SpA s0 l cs) (hc:∀ c∈cs,okSp W.length N c) (h4:cs.length≤4000):∀ tm s',(ltD s0 l cs n 129).pre tm s'→(ltD s0 l cs n 129).post tm s' (zcd.run (Rk Tryz.prog (K4 F T N sg W) (ltD s0 l cs n)) tm s'):=by
 refine zC (L:=ltD s0 l cs n) pcOk0.1 pcOk0.2 zHl (fun tm _=>5000 - (toI (gp 11 tm)).toNat) ?_ ?_
 ·rintro tm s a ⟨q,hq⟩ h
  obtain ⟨_,_,rfl,_⟩:dOut _ _ _ _ _ _:=h q hq
  exact fun h=>h
 rintro tm s' - IH ⟨at_,ds,k⟩ ⟨hF,hk,h11,f,h10,hf⟩
 have IH':∀ tm' s3,5000 - (toI (gp 11 tm')).toNat<5000 - (toI (gp 11 tm)).toNat→(DF s0 l at_ ds tm' s3∧k+1≤cs.length∧gp 11 tm'=iv .i64 ((k+1:Nat):Int)∧fF cs at_ (k+1) tm')→dOut s0 l at_ cs ds ((Rk Tryz.prog (K4 F T N sg W) (ltD s0 l cs n)).code qc zbI tm' s3):=fun tm' s3 h1 h2=>IH tm' s3 h1 ⟨(at_,ds,k+1),h2⟩ (at_,ds,k+1) h2
 clear IH
 show dOut s0 l at_ cs ds (zcd.run _ tm s')
 have hBt:Kept (K4 F T N sg W) (Rk Tryz.prog (K4 F T N sg W) (ltD s0 l cs n)) 112:=zn (zFJ hH)
 generalize Rk Tryz.prog _ _=r at IH' hBt ⊢
 simp only at hk h11 h10 hf
 have hlen:∀ c:V→Go.Ev.A,xLenS l c=c (iv .i64 (cs.length:Int)):=fun c=>by rw [hl.sl.len,hl.len]
 have w2:IntKind.i64.wrap ((k:Int)+1)=(k:Int)+1:=zD (by omega) (by omega)
 have hl':=hl.ext hF.ext
 by_cases hlt:k<cs.length
 ·obtain ⟨q,-,-,-,a1,a2,-⟩:=hl'.get hlt
  have hck:=hc (cs.getD k (0,0,0)) (by rw [List.getD_eq_getElem?_getD,List.getElem?_eq_getElem hlt];exact List.getElem_mem _)
  obtain ⟨c,hcc⟩:∃ c,c=cs.getD k (0,0,0):=⟨_,rfl⟩
  rw [←hcc] at a2 hck
  obtain ⟨B1,B2,-,B3,B4⟩:=zuh s' c
  have B3':∀ k:Go.Ev.K→Nat→S→Go.Ev.A,Go.Ev.newRow s' 154 [iv .i64 0,iv .i64 0,iv .i64 0] false k=k s'.nx 3 _:=B3
  generalize hs1:addB s' (.row (spC c) 3 154 false 0 0 0)=s1 at *
  -- the step's ends
  have next:∀ tm' s3 (f':Int),Ext s' s3→DF s0 l at_ ds tm' s3→gp 11 tm'=iv .i64 ((k:Int)+1)→gp 10 tm'=iv .i64 f'→FO cs at_ (k+1) f'→dOut s0 l at_ cs ds (r.code qc zbI tm' s3):=fun tm' s3 f' _ e2 e3 e4 e5=>IH' tm' s3 (by rw [e3,h11,zp,zp];omega) ⟨e2,hlt,e3,f',e4,e5⟩
  by_cases hca:c.1<at_
  ·have hca':(c.1:Int)<at_:=by omega
   simp -implicitDefEqProofs [ji,ye,gp_sp,hF.g1,hF.g8,hF.g9,hlen,h11,ze,zo,a1,a2,B3',B4,zi,B1.f0,hca,zf,w2,zd,hlt]
   refine next _ s1 f B2 (hF.frame B2 (by simp [gp_sp]) (by simp [gp_sp]) (by simp [gp_sp]) (by simp [gp_sp]) (by simp [gp_sp]) (by simp [gp_sp])) (by simp [gp_sp]) (by simp [gp_sp,h10]) ?_
   rcases hf with ⟨h1,h2⟩ | ⟨i,h1,h2,h3,h5⟩
   ·refine .inl ⟨h1,fun m hm=>?_⟩
    by_cases e:m=k
    ·rw [e,←hcc];exact hca
    ·exact h2 m (by omega)
   ·refine .inr ⟨i,h1,by omega,h3,fun m hm hm2=>?_⟩
    by_cases e:m=k
    ·rw [e,←hcc] at hm2;omega
    ·exact h5 m (by omega) hm2
  ·have hca':¬(c.1:Int)<at_:=by omega
   rcases hf with ⟨rfl,h2⟩ | ⟨i,rfl,h2,h3,h5⟩
   ·simp -implicitDefEqProofs [ji,ye,gp_sp,hF.g1,hF.g8,hF.g9,hlen,h10,h11,ze,zo,a1,a2,B3',B4,zi,B1.f0,hca,zf,w2,zd,hlt]
    refine next _ s1 k B2 (hF.frame B2 (by simp [gp_sp]) (by simp [gp_sp]) (by simp [gp_sp]) (by simp [gp_sp]) (by simp [gp_sp]) (by simp [gp_sp])) (by simp [gp_sp]) (by simp [gp_sp]) ?_
    refine .inr ⟨k,rfl,by omega,by rw [←hcc];omega,fun m hm hm2=>?_⟩
    by_cases e:m=k
    ·rw [e];exact .inr ⟨rfl,Nat.le_refl _⟩
    ·have:=h2 m (by omega);omega
   ·have hi:i<cs.length:=by omega
    obtain ⟨q',-,-,-,a1',a2',-⟩:=(hl'.ext B2).get hi
    have hci:=hc (cs.getD i (0,0,0)) (by rw [List.getD_eq_getElem?_getD,List.getElem?_eq_getElem hi];exact List.getElem_mem _)
    obtain ⟨f,hff⟩:∃ f,f=cs.getD i (0,0,0):=⟨_,rfl⟩
    rw [←hff] at a2' hci h3
    have h5':∀ m,m<k→at_≤(cs.getD m (0,0,0)).1→f.1<(cs.getD m (0,0,0)).1∨(f.1=(cs.getD m (0,0,0)).1∧(cs.getD m (0,0,0)).2.1≤f.2.1):=by rw [hff];exact h5
    obtain ⟨C1,C2,-,C3,C4⟩:=zuh s1 f
    have C3':∀ k:Go.Ev.K→Nat→S→Go.Ev.A,Go.Ev.newRow s1 154 [iv .i64 0,iv .i64 0,iv .i64 0] false k=k s1.nx 3 _:=C3
    generalize hs2:addB s1 (.row (spC f) 3 154 false 0 0 0)=s2 at *
    have B1':=B1.ext C2
    have hi0:¬(i:Int)<0:=by omega
    have keep:FO cs at_ (k+1) (i:Int)↔¬c.1<f.1∧(c.1=f.1→c.2.1≤f.2.1):=by
     constructor
     ·rintro (⟨e,_⟩ | ⟨i',e,_,_,e4⟩)
      ·omega
      ·obtain rfl:i=i':=by omega
       have:=e4 k (by omega) (by rw [←hcc];omega)
       rw [←hff,←hcc] at this
       omega
     ·rintro ⟨e1,e2⟩
      refine .inr ⟨i,rfl,by omega,by rw [←hff];exact h3,fun m hm hm2=>?_⟩
      rw [←hff]
      by_cases e:m=k
      ·rw [e,←hcc];omega
      ·exact h5' m (by omega) hm2
    have take:(c.1<f.1∨(c.1=f.1∧f.2.1≤c.2.1))→FO cs at_ (k+1) (k:Int):=fun h=>by
     refine .inr ⟨k,rfl,by omega,by rw [←hcc];omega,fun m hm hm2=>?_⟩
     rw [←hcc]
     by_cases e:m=k
     ·rw [e,←hcc];exact .inr ⟨rfl,Nat.le_refl _⟩
     ·have:=h5' m (by omega) hm2;omega
    by_cases hA:c.1<f.1
    ·have hA':(c.1:Int)<f.1:=by omega
     have hAe:¬(c.1:Int)=f.1:=by omega
     have hAe':¬c.1=f.1:=by omega
     simp -implicitDefEqProofs [ji,ye,gp_sp,hF.g1,hF.g8,hF.g9,hlen,h10,h11,ze,qD,zo,a1,a2,B3',B4,a1',a2',C3',C4,zi,B1.f0,B1'.f0,C1.f0,hca,hA,hAe,hi0,w2,zd,hlt]
     exact next _ s2 k (B2.trans C2) (hF.frame (B2.trans C2) (by simp [gp_sp]) (by simp [gp_sp]) (by simp [gp_sp]) (by simp [gp_sp]) (by simp [gp_sp]) (by simp [gp_sp])) (by simp [gp_sp]) (by simp [gp_sp]) (take (.inl hA))
    ·by_cases hB:c.1=f.1
     ·have hfa:¬f.1<at_:=by omega
      obtain ⟨v,s3,e3,p3⟩:=hBt [iv .i64 3,.ls 0 (spC c),.ls 0 (spC f)] s2 ⟨c,f,rfl,hck,hci⟩
      obtain ⟨hE3,rfl⟩:=p3 _ _ rfl
      have hE:=B2.trans (C2.trans hE3)
      have hb:zdj c f=true↔(f.2.1<c.2.1∨(c.2.1=f.2.1∧c.2.2<f.2.2)):=by
       obtain ⟨o1,o2,o3⟩:=hck
       obtain ⟨o4,o5,o6⟩:=hci
       unfold zdj
       split<;>rw [decide_eq_true_eq]<;>omega
      by_cases hbb:zdj c f=true
      ·rw [hbb] at e3
       simp -implicitDefEqProofs [ji,ye,gp_sp,hF.g0,hF.g1,hF.g8,hF.g9,hlen,h10,h11,ze,qD,zo,a1,a2,B3',B4,a1',a2',C3',C4,zi,B1.f0,B1'.f0,B1'.fA,C1.f0,C1.fA,hfa,hB,e3,hi0,w2,zd,hlt]
       exact next _ s3 k hE (hF.frame hE (by simp [gp_sp]) (by simp [gp_sp]) (by simp [gp_sp]) (by simp [gp_sp]) (by simp [gp_sp]) (by simp [gp_sp])) (by simp [gp_sp]) (by simp [gp_sp]) (take (.inr ⟨hB,by have:=hb.1 hbb;omega⟩))
      ·have hbb':zdj c f=false:=by simpa using hbb
       rw [hbb'] at e3
       simp -implicitDefEqProofs [ji,ye,gp_sp,hF.g0,hF.g1,hF.g8,hF.g9,hlen,h10,h11,ze,qD,zo,a1,a2,B3',B4,a1',a2',C3',C4,zi,B1.f0,B1'.f0,B1'.fA,C1.f0,C1.fA,hfa,hB,e3,hi0,w2,zd,hlt]
       exact next _ s3 i hE (hF.frame hE (by simp [gp_sp]) (by simp [gp_sp]) (by simp [gp_sp]) (by simp [gp_sp]) (by simp [gp_sp]) (by simp [gp_sp])) (by simp [gp_sp]) (by simp [gp_sp,h10]) (keep.2 ⟨hA,fun _=>Nat.le_of_not_lt fun h=>hbb (hb.2 (.inl h))⟩)
     ·have hBe:¬(c.1:Int)=f.1:=by omega
      simp -implicitDefEqProofs [ji,ye,gp_sp,hF.g1,hF.g8,hF.g9,hlen,h10,h11,ze,qD,zo,a1,a2,B3',B4,a1',a2',C3',C4,zi,B1.f0,B1'.f0,C1.f0,hca,hA,hBe,hi0,w2,zd,hlt]
      exact next _ s2 i (B2.trans C2) (hF.frame (B2.trans C2) (by simp [gp_sp]) (by simp [gp_sp]) (by simp [gp_sp]) (by simp [gp_sp]) (by simp [gp_sp]) (by simp [gp_sp])) (by simp [gp_sp]) (by simp [gp_sp,h10]) (keep.2 ⟨hA,fun e=>absurd e hB⟩)
 ·simp -implicitDefEqProofs [ji,ye,gp_sp,hF.g1,hlen,h11,ze,zd,hlt]
  obtain rfl:k=cs.length:=by omega
  exact ⟨_,_,rfl,hF.frame (Ext.refl _) (by simp [gp_sp]) (by simp [gp_sp]) (by simp [gp_sp]) (by simp [gp_sp]) (by simp [gp_sp]) (by simp [gp_sp]),f,by simp [gp_sp,h10],hf⟩
theorem zLR {c:Spn} (h:c∈cs):∃ m,m<cs.length∧cs.getD m (0,0,0)=c:=by
 obtain ⟨m,hm,e⟩:=List.mem_iff_getElem.1 h
 exact ⟨m,hm,by rw [List.getD_eq_getElem?_getD,List.getElem?_eq_getElem hm];exact e⟩
theorem zN8 (hH:Hyp F T N sg W) (hl:SpA s0 l cs) (hc:∀ c∈cs,okSp W.length N c) (h4:cs.length≤4000):∀ tm s',(ltD s0 l cs W.length 189).pre tm s'→(ltD s0 l cs W.length 189).post tm s' (zcc.run (Rk Tryz.prog (K4 F T N sg W) (ltD s0 l cs W.length)) tm s'):=by
 refine zC (L:=ltD s0 l cs W.length) pcOk0.1 pcOk0.2 zHr (fun tm _=>100 - (toI (gp 9 tm)).toNat) ?_ ?_
 ·rintro tm s a ⟨q,hq⟩ h
  obtain ⟨_,_,rfl,_⟩:dEnd _ _ _ _ _:=h q hq
  exact fun h=>h
 rintro tm s' - IH ⟨at_,ds⟩ ⟨hF,hat,hds⟩
 have IH':∀ at' ds' tm' s3,100 - (toI (gp 9 tm')).toNat<100 - (toI (gp 9 tm)).toNat→(DF s0 l at' ds' tm' s3∧at'≤W.length∧ds'.length≤at')→dEnd s0 at' cs ds' ((Rk Tryz.prog (K4 F T N sg W) (ltD s0 l cs W.length)).code qc zfB tm' s3):=fun at' ds' tm' s3 h1 h2=>IH tm' s3 h1 ⟨(at',ds'),h2⟩ (at',ds') h2
 clear IH
 show dEnd s0 at_ cs ds (zcc.run _ tm s')
 have hIn:=zNG (n:=W.length) hH hl hc h4
 generalize Rk Tryz.prog _ _=r at IH' hIn ⊢
 have hw1:=hH.w1
 simp only at hF hat hds
 simp -implicitDefEqProofs [zHW,ye,gp_sp,zd,zhE]
 generalize hA:zcd.run r _ s'=a
 have q2:∀ tm',tm'=sp 11 (iv .i64 0) (sp 10 (iv .i64 (-1)) tm)→DF s0 l at_ ds tm' s'∧0≤cs.length∧gp 11 tm'=iv .i64 ((0:Nat):Int)∧fF cs at_ 0 tm':=by
  rintro tm' rfl
  exact ⟨hF.frame (Ext.refl _) (by simp [gp_sp]) (by simp [gp_sp]) (by simp [gp_sp]) (by simp [gp_sp]) (by simp [gp_sp]) (by simp [gp_sp]),Nat.zero_le _,by simp [gp_sp],-1,by simp [gp_sp],.inl ⟨rfl,fun m hm=>by omega⟩⟩
 have:dOut s0 l at_ cs ds a:=hA▸hIn _ s' ⟨(at_,ds,0),q2 _ rfl⟩ (at_,ds,0) (q2 _ rfl)
 obtain ⟨tm2,s2,rfl,hF2,f,h10,hf⟩:=this
 rcases hf with ⟨rfl,h2⟩ | ⟨i,rfl,hi,h3,h5⟩
 ·simp -implicitDefEqProofs [zf,gp_sp,h10,ze]
  refine ⟨_,s2,rfl,by simp [gp_sp,hF2.bd],hF2.ext,[],.nil fun c hcm=>?_,by simpa [gp_sp] using hF2.gz⟩
  obtain ⟨m,hm,rfl⟩:=zLR hcm
  exact h2 m hm
 ·obtain ⟨q,q0,q1,-,a1,a2,-,a4,-,-,a7,-⟩:=(hl.ext hF2.ext).get hi
  have hfm:cs.getD i (0,0,0)∈cs:=by rw [List.getD_eq_getElem?_getD,List.getElem?_eq_getElem hi];exact List.getElem_mem _
  have hck:=hc _ hfm
  generalize hff:cs.getD i (0,0,0)=f at *
  obtain ⟨o1,o2,o3⟩:=hck
  obtain ⟨l',s3,ha,hz,hn3,hk3,hb3⟩:=hF2.gz.app1 hF2.ext.nx (by omega) (zmp f).1 (zmp f).2 (by simp;omega)
  have hE3:Ext s0 s3:=zcB (D:=fun c=>blkOf (gp 7 tm2)=some c) hF2.ext hn3 hk3 (fun c hc=>(hF2.gz.blk hc).1)
  obtain ⟨q',q0',q1',-,a1',-,-,a4',-,-,a7',-⟩:=(hl.ext hE3).get hi
  rw [hff] at a7'
  obtain rfl:q=q':=by
   have:=(a1 .i64 (fun v=>.fin v s2)).symm.trans (a1' .i64 (fun v=>.fin v s2))
   injection this
  have hi0:¬(i:Int)<0:=by omega
  have ha':∀ k_1:V→S→Go.Ev.A,zM 154 3 (gp 7 tm2) (.sl s2.nx 0 0 1 1) (addB s2 (.row (spC f) 3 154 false 0 0 0)) k_1=k_1 l' s3:=ha
  have hupd:upd (spC f) 0 [iv .i64 0,iv .i64 0,iv .i64 0]=spC f:=rfl
  obtain ⟨-,-,B3,-,-⟩:=zuh s2 f
  simp -implicitDefEqProofs [zf,gp_sp,hF2.g1,hF2.g8,h10,hi0,ze,a1,a2,qC,rep,zl5,qz,hupd,B3,ha',a4',a7']
  have push:∀ A:Go.Ev.A,dEnd s0 f.2.1 cs (ds++[f]) A→dEnd s0 at_ cs ds A:=by
   rintro A ⟨tm5,s5,e5,k1,k2,d,k3,k4⟩
   refine ⟨tm5,s5,e5,k1,k2,f::d,.cons hfm h3 (fun c hcm hca=>?_) k3,by simpa using k4⟩
   obtain ⟨m,hm,rfl⟩:=zLR hcm
   exact h5 m hm hca
  refine push _ (IH' f.2.1 (ds++[f]) _ s3 (by simp [gp_sp,hF.g9,zp];omega) ⟨⟨hE3,by simp [gp_sp,hF2.bd],by simp [gp_sp,hF2.g0],by simp [gp_sp,hF2.g1],by simp [gp_sp,hF2.g8],by simp [gp_sp],?_⟩,o2,by simp;omega⟩)
  simpa [gp_sp] using hz
open Classical in
theorem zMh (hH:Hyp F T N sg W):Holds Tryz.prog (K4 F T N sg W) 72:=by
 rintro a s ⟨l,rfl,hl⟩
 suffices hh:∃ v s',(fnC pc0 72).run (Rk Tryz.prog (K4 F T N sg W) (ltD s l (candL F N W) W.length)) [iv .i64 3,l,iv .i64 (W.length:Int)] s=.ret v s'∧Ext s s'∧∃ d,SpA s' v d∧(∀ c,blkOf v=some c→s.nx.toNat≤c.toNat)∧Div (candL F N W) 0 d by
  obtain ⟨v,s',g1,g2,g3⟩:=hh
  exact ⟨v,s',fn_k4 g1,g2,g3⟩
 have hw1:=hH.w1
 have hn2:=hH.n2
 have h4:(candL F N W).length≤4000:=by
  have h1:=zlY F N W W.length
  have h2:W.length*(W.length*N)≤8*(8*20):=mulB hw1 (mulB hw1 hn2)
  exact Nat.le_trans h1 (Nat.le_trans h2 (by omega))
 have hL:=zN8 hH hl (fun c hc=>by
  obtain ⟨h1,h2,h3,-⟩:=(zfu F N W c).1 hc
  exact ⟨h1,h2,h3⟩) h4
 generalize Rk Tryz.prog _ _=r at hL ⊢
 simp -implicitDefEqProofs [ye,gp_sp,qD,zd]
 generalize hA:zcc.run r _ s=y
 have q0:∀ tm,tm=sp 9 (iv .i64 0) (sp 16 (.bool true) (sp 9 (iv .i64 (W.length:Int)) (sp 8 (.bool true) (sp 7 (.nil 1) (sp 6 (.nil 1) (sp 2 (iv .i64 (W.length:Int)) (sp 1 l (sp 0 (iv .i64 3) Go.Ev.T.new))))))))→DF s l 0 [] tm s∧0≤W.length∧([]:List Spn).length≤0:=by
  rintro tm rfl
  exact ⟨⟨Ext.refl s,by simp [gp_sp],by simp [gp_sp],by simp [gp_sp],by simp [gp_sp],by simp [gp_sp],.inl ⟨by simp [gp_sp],rfl⟩⟩,Nat.zero_le _,Nat.le_refl _⟩
 have:dEnd s 0 (candL F N W) [] y:=hA▸hL _ s ⟨(0,[]),q0 _ rfl⟩ (0,[]) (q0 _ rfl)
 obtain ⟨tm',s',rfl,k1,k2,d,k3,k4⟩:=this
 exact ⟨gp 6 tm',s',by simp [k1],k2,d,Gz.spA k4,fun c hc=>(k4.blk hc).1,k3⟩
end
def wC (w:List Int):List (List V):=w.map fun z=>[iv .i64 z]
theorem zIB:∀ w:List Int,(wC w).flatten=w.map (iv .i64)
 | []=>rfl
 | z::w=>by simp only [wC,List.map_cons,List.flatten_cons];rw [←wC,zIB w];rfl
theorem zOi (w u:List Int):wC (w++u)=wC w++wC u:=by simp [wC]
theorem zDm (w:List Int):(wC w).length=w.length:=by simp [wC]
theorem zq7 {b s:S} {v y:V} {ws:List Int} (h:Gz 3 1 b s v (wC ws)) (hb:b.nx.toNat≤s.nx.toNat) (hy:Ints s y) (hlim:ws.length+lenV y≤1048576) :
  ∃ v' s',(∀ k:V→S→Go.Ev.A,zM 3 1 v y s k=k v' s')∧Gz 3 1 b s' v' (wC (ws++word s y))∧s.nx.toNat≤s'.nx.toNat ∧
   (∀ c,c.toNat<s.nx.toNat→blkOf v≠some c→Tr.get B.none c s'.h=Tr.get B.none c s.h)∧(blkOf v'=blkOf v∨∀ c,blkOf v'=some c→s.nx.toNat≤c.toNat):=by
 obtain ⟨v',s',h1,h2,h3⟩:=h.append hb (by omega) (wC (word s y)) (fun x hx=>by simp [wC] at hx;obtain ⟨_,_,rfl⟩:=hx;rfl) (by rw [zDm,zDm,zq];exact hlim)
 refine ⟨v',s',fun k=>?_,by rw [zOi];exact h2,h3⟩
 show qh 1 y s _=_
 rw [zrN hy]
 have:=h1 k
 rwa [zDm,zq,zIB] at this
theorem zNC {b s:S} {v:V} {ws:List Int} (h:Gz 3 1 b s v (wC ws)) (hl:ws.length≤1048576):Ints s v∧word s v=ws:=by
 obtain ⟨h1,h2,h3⟩:=h.sl
 rw [zDm] at h2 h3
 have hc:∀ j,j<ws.length→cellV s v j=iv .i64 (ws.getD j 0):=fun j hj=>by
  have:=h3 j 0 hj (by omega)
  rw [Nat.mul_one,Nat.add_zero] at this
  rw [this]
  simp [wC,List.getD_eq_getElem?_getD,hj]
 refine ⟨⟨h1,by omega,fun j hj=>by rw [hc j (by omega),zp]⟩,?_⟩
 apply List.ext_getElem (by rw [zq,h2])
 intro j g1 g2
 have:=qP (s:=s) (v:=v) (i:=j) (by omega)
 rw [List.getElem?_eq_getElem g1] at this
 injection this with this
 rw [this,intV,hc j g2,zp,List.getD_eq_getElem?_getD,List.getElem?_eq_getElem g2];rfl
theorem PBx.keep {s s':S} {b:Go.Ev.K} {e:List V} {B:V} (h:PBx s b e B) (he:e.length=7) (hn:s.nx.toNat≤s'.nx.toNat) (hk:Tr.get Go.Ev.B.none b s'.h=Tr.get Go.Ev.B.none b s.h):PBx s' b e B :=
 Bx.pa ⟨hk.trans h.bx.1,h.bx.2.1,h.bx.2.2.1,Nat.lt_of_lt_of_le h.bx.2.2.2 hn⟩ he
theorem RuA.atx {s:S} {p:V} {F T:Nat→List Int} {N:Nat} (h:RuA s p F T N) {i:Nat} (hi:i<N):∃ q e B,(∀ k c,zb 10 p (iv k (i:Int)) c=c q)∧(∀ s',Ext s s'→∀ k:V→S→Go.Ev.A,xLoad true 10 q s' k=k (.ls 0 (paC e B)) s')∧ShW s e (F i)∧Ints s B∧word s B=T i:=by
 obtain ⟨e,B,h1,h2,h3,h4⟩:=h.part i hi
 obtain ⟨q,e1,-⟩:=h.sl.idx (i:=(i:Int)) (by omega) (by rw [h.len];omega)
 have hc:=zfz h2 h3
 refine ⟨q,e,B,e1,fun s' x k=>?_,h2,h3,h4⟩
 obtain ⟨g1,g2⟩:=h.sl.ext x
 obtain ⟨q',e1',hP⟩:=g1.idx (i:=(i:Int)) (by omega) (by rw [h.len];omega)
 obtain rfl:q=q':=by
  have:=(e1 .i64 (fun v=>.fin v s)).symm.trans (e1' .i64 (fun v=>.fin v s))
  injection this
 rw [Int.toNat_natCast] at hP
 have hcell:∀ j,j<10→cellV s' p (i*10+j)=(paC e B).getD j .bad:=fun j hj=>by
  have:=congrArg (fun l:List V=>l.getD j .bad) h1
  rw [g2]
  simpa [paV,hj] using this
 have hne:∀ j,j<10→cellV s' p (i*10+j)≠.bad:=fun j hj=>by
  rw [hcell j hj,List.getD_eq_getElem?_getD,List.getElem?_eq_getElem (by rw [hc.1];exact hj)]
  exact hc.2 _ (List.getElem_mem _)
 rw [hP.loadN 10 (Nat.le_refl _) hne k]
 have:paV s' p i=paC e B:=by
  rw [←h1];unfold paV;simp [g2]
 show k (.ls 0 (paV s' p i)) s'=_
 rw [this]
theorem SpA.getx {s:S} {v:V} {cs:List Spn} (h:SpA s v cs) {i:Nat} (hi:i<cs.length):∃ q q0 q1 q2,(∀ k c,zb 3 v (iv k (i:Int)) c=c q) ∧
  (∀ c,za 0 q c=c q0)∧(∀ c,za 1 q c=c q1)∧(∀ c,za 2 q c=c q2)∧∀ s',Ext s s'→(∀ k:V→S→Go.Ev.A,xLoad false 1 q0 s' k=k (iv .i64 ((cs.getD i (0,0,0)).1:Int)) s')∧(∀ k:V→S→Go.Ev.A,xLoad false 1 q1 s' k=k (iv .i64 ((cs.getD i (0,0,0)).2.1:Int)) s')∧∀ k:V→S→Go.Ev.A,xLoad false 1 q2 s' k=k (iv .i64 ((cs.getD i (0,0,0)).2.2:Int)) s':=by
 obtain ⟨q,q0,q1,q2,a1,-,a3,a4,a5,-⟩:=h.get hi
 refine ⟨q,q0,q1,q2,a1,a3,a4,a5,fun s' x=>?_⟩
 obtain ⟨q',q0',q1',q2',b1,-,b3,b4,b5,b6,b7,b8⟩:=(h.ext x).get hi
 have fin_inj:∀ {a b:V} {s:S},Go.Ev.A.fin a s=.fin b s→a=b:=fun h=>by injection h
 obtain rfl:=fin_inj ((a1 .i64 (fun v=>.fin v s)).symm.trans (b1 .i64 (fun v=>.fin v s)))
 obtain rfl:=fin_inj ((a3 (fun v=>.fin v s)).symm.trans (b3 (fun v=>.fin v s)))
 obtain rfl:=fin_inj ((a4 (fun v=>.fin v s)).symm.trans (b4 (fun v=>.fin v s)))
 obtain rfl:=fin_inj ((a5 (fun v=>.fin v s)).symm.trans (b5 (fun v=>.fin v s)))
 exact ⟨b6,b7,b8⟩
theorem SpA.uniq {s:S} {v:V} {cs cs':List Spn} (h:SpA s v cs) (h':SpA s v cs'):cs=cs':=by
 have hl:cs.length=cs'.length:=by rw [←h.len,h'.len]
 apply List.ext_getElem hl
 intro i g1 g2
 have e1:=h.at_ i g1
 have e2:=h'.at_ i g2
 rw [e1] at e2
 have:=zDf e2
 rwa [List.getD_eq_getElem?_getD,List.getD_eq_getElem?_getD,List.getElem?_eq_getElem g1,List.getElem?_eq_getElem g2] at this
theorem zmH {n N:Nat}:∀ (d:List Spn) (at_:Nat),chain n N at_ d→at_≤n→at_+d.length≤n
 | [],at_,_,h=>by simpa using h
 | c::d,at_,h,hn=>by
  obtain ⟨h1,⟨h2,h3,_⟩,h4⟩:=h
  have:=zmH d c.2.1 h4 h3
  rw [List.length_cons];omega
section
variable {F T:Nat→List Int} {N:Nat} {sg:Int} {W:List Int}
structure OF (b1:S) (b:Go.Ev.K) (p x v:V) (at_ k:Nat) (ws:List Int) (tm:Go.Ev.T) (s:S):Prop where
 ext:Ext b1 s
 bd:gp 240 tm=.bad
 g1:gp 1 tm=x
 g2:gp 2 tm=v
 g3:gp 3 tm=.ptr b 0 0
 g8:gp 8 tm=iv .i64 (at_:Int)
 g9:gp 9 tm=iv .i64 (k:Int)
 gz:Gz 3 1 b1 s (gp 7 tm) (wC ws)
def oOut (b1:S) (b:Go.Ev.K) (p x v:V) (T:Nat→List Int) (W:List Int) (d:List Spn) (a:Go.Ev.A):Prop:=∃ tm' s' at_ ws,a=.ext 0 tm' s'∧OF b1 b p x v at_ d.length ws tm' s'∧at_≤W.length∧ws.length≤1000∧ws++W.drop at_=outL T W 0 d
def ltO (b1:S) (b:Go.Ev.K) (p x v:V) (T:Nat→List Int) (N:Nat) (W:List Int) (d:List Spn):Lt :=
 ltI (fun (q:Nat × Nat × List Int) tm s=>OF b1 b p x v q.1 q.2.1 q.2.2 tm s∧q.1≤W.length∧q.2.1≤d.length∧chain W.length N q.1 (d.drop q.2.1)∧q.2.2.length≤q.2.1*28∧q.2.2++outL T W q.1 (d.drop q.2.1)=outL T W 0 d) (fun _ a=>oOut b1 b p x v T W d a)
theorem loopO (hH:Hyp F T N sg W) {b1:S} {b:Go.Ev.K} {p x v:V} {d:List Spn} (hp:RuA b1 p F T N) (hR:RBx b1 b p) (hx:Ints b1 x) (hfx:Fx x) (hW:word b1 x=W) (hv:SpA b1 v d) (hch:chain W.length N 0 d):∀ tm s',(ltO b1 b p x v T N W d).pre tm s'→(ltO b1 b p x v T N W d).post tm s' (zca.run (Rk Tryz.prog (K4 F T N sg W) fun _=>ltO b1 b p x v T N W d) tm s'):=by
 refine zC (L:=fun _=>ltO b1 b p x v T N W d) pcOk0.1 pcOk0.2 zId (fun tm _=>100 - (toI (gp 9 tm)).toNat) ?_ ?_
 ·rintro tm s a ⟨q,hq⟩ h
  obtain ⟨_,_,_,_,rfl,_⟩:oOut _ _ _ _ _ _ _ _ _:=h q hq
  exact fun h=>h
 rintro tm s' - IH ⟨at_,k,ws⟩ ⟨hF,hat,hk,hc,hws,hout⟩
 have IH':∀ at' ws' tm' s3,100 - (toI (gp 9 tm')).toNat<100 - (toI (gp 9 tm)).toNat→(OF b1 b p x v at' (k+1) ws' tm' s3∧at'≤W.length∧k+1≤d.length∧chain W.length N at' (d.drop (k+1))∧ws'.length≤(k+1)*28∧ws'++outL T W at' (d.drop (k+1))=outL T W 0 d)→oOut b1 b p x v T W d ((Rk Tryz.prog (K4 F T N sg W) fun _=>ltO b1 b p x v T N W d).code zfq zfy tm' s3):=fun at' ws' tm' s3 h1 h2=>IH tm' s3 h1 ⟨(at',k+1,ws'),h2⟩ (at',k+1,ws') h2
 clear IH
 show oOut b1 b p x v T W d (zca.run _ tm s')
 generalize Rk Tryz.prog _ _=r at IH' ⊢
 have hw1:=hH.w1
 have hdl:=zmH d 0 hch (Nat.zero_le _)
 simp only at hF hat hk hc hws hout
 have hlen:∀ c:V→Go.Ev.A,xLenS v c=c (iv .i64 (d.length:Int)):=fun c=>by rw [hv.sl.len,hv.len]
 have w2:IntKind.i64.wrap ((k:Int)+1)=(k:Int)+1:=zD (by omega) (by omega)
 by_cases hlt:k<d.length
 ·obtain ⟨q,q0,q1,q2,a1,a3,a4,a5,a678⟩:=hv.getx hlt
  have hdrop:d.drop k=d.getD k (0,0,0)::d.drop (k+1):=by
   rw [List.drop_eq_getElem_cons hlt,List.getD_eq_getElem?_getD,List.getElem?_eq_getElem hlt];rfl
  rw [hdrop] at hc hout
  generalize d.getD k (0,0,0)=c at *
  obtain ⟨hc1,⟨hc2,hc3,hc4⟩,hc5⟩:=hc
  obtain ⟨u,e,B,c1,c2,c5,c6,c7⟩:=hp.atx hc4
  have he:=c5.cells.1
  obtain ⟨P1,P2,P3,P4⟩:=zHu (c5.ext hF.ext) (c6.ext hF.ext).1
  obtain ⟨s1,hs1⟩:∃ s1,s1=addB s' (.row (paC e B) 10 65 false 0 0 0):=⟨_,rfl⟩
  rw [←hs1] at P1 P2 P4
  have hE1:=hF.ext.trans P2
  obtain ⟨y,y1,y2,-,y4,y5⟩:=(hx.ext hE1).1.slice hfx (lo:=some (iv .i64 (at_:Int))) (hi:=some (iv .i64 (c.1:Int))) (a:=at_) (b:=c.1) (.inr ⟨_,rfl⟩) (.inr ⟨_,rfl⟩) hc1 (by rw [wQ (s:=b1),hW];omega)
  rw [hx.word hE1,hW] at y5
  -- what is copied from the word
  have hz1:=hF.gz.ext P2
  obtain ⟨v1,s2,m1,m2,m3,m4,m5⟩:=zq7 hz1 hE1.nx y2 (by omega)
  have hb7:blkOf (gp 7 tm)≠some s'.nx:=fun h=>by have:=(hF.gz.blk h).2;omega
  have hn1:s'.nx.toNat<s1.nx.toNat:=by rw [hs1];show s'.nx.toNat<s'.nx.succ.toNat;rw [K.toNat_succ];omega
  have P1':=P1.keep he m3 (m4 _ hn1 hb7)
  have hE2:Ext b1 s2:=zcB (D:=fun c=>blkOf (gp 7 tm)=some c) hE1 m3 m4 (fun c hc=>(hz1.blk hc).1)
  have hb1:blkOf v1≠some s'.nx:=fun h=>by
   rcases m5 with m5 | m5
   ·exact hb7 (m5▸h)
   ·have:=m5 _ h;omega
  -- what is written for the row
  obtain ⟨v2,s3,n1,n2,n3,n4,n5⟩:=zq7 m2 hE2.nx (c6.ext hE2).1 (by
   have h20:=hH.t2 _ hc4
   have e1:lenV B=(T c.2.2).length:=by rw [←c7,zq]
   rw [List.length_append,y5,List.length_take,List.length_drop];omega)
  rw [c6.word hE2,c7] at n2
  have hE3:Ext b1 s3:=zcB (D:=fun c=>blkOf v1=some c) hE2 n3 n4 (fun c hc=>(m2.blk hc).1)
  have P1'':=P1'.keep he n3 (n4 _ (by omega) hb1)
  have h20:=hH.t2 _ hc4
  obtain ⟨v3,s4,o1,o2,o3,o4,o5⟩:=zq7 n2 hE3.nx (zlH s3) (by
   rw [List.length_append,List.length_append,y5,List.length_take,List.length_drop];simp [lenV];omega)
  have hE4:Ext b1 s4:=zcB (D:=fun c=>blkOf v2=some c) hE3 o3 o4 (fun c hc=>(n2.blk hc).1)
  have wn:word s3 (.nil 1)=[]:=rfl
  rw [wn,List.append_nil,y5] at o2
  have f8:=a678 _ hF.ext
  have f1:=(a678 _ hE1).1
  have f4:=(a678 _ hE4).2.1
  have B3':∀ k:Go.Ev.K→Nat→S→Go.Ev.A,Go.Ev.newRow s' 65 [iv .i64 0,iv .i64 0,iv .i64 0,.str [],iv .i64 0,iv .i64 0,.nil 1,.bool false,.nil 1,.nil 1] false k=k s'.nx 10 (addB s' (.row paZ 10 65 false 0 0 0)):=P3
  have hR':=hR.ext hF.ext
  simp -implicitDefEqProofs [zrj,zjW,gp_sp,hF.g1,hF.g2,hF.g3,hF.g8,hF.g9,hlen,ze,zo,zi,hR'.f1,a1,a3,a4,a5,f8.2.2,f1,f4,c1,c2 _ hF.ext,B3',P4,y1,m1,P1'.f8,n1,P1''.f7,P1''.f9,o1,w2,zd,hlt]
  refine IH' c.2.1 (ws++(W.drop at_).take (c.1 - at_)++T c.2.2) _ s4 (by simp [gp_sp,hF.g9,zp];omega) ⟨⟨hE4,by simp [gp_sp,hF.bd],by simp [gp_sp,hF.g1],by simp [gp_sp,hF.g2],by simp [gp_sp,hF.g3],by simp [gp_sp],by simp [gp_sp],by simpa [gp_sp] using o2⟩,hc3,hlt,hc5,?_,?_⟩
  ·rw [List.length_append,List.length_append,List.length_take,List.length_drop];omega
  ·rw [←hout,outL];simp only [List.append_assoc]
 ·simp -implicitDefEqProofs [zrj,zjW,gp_sp,hF.g2,hF.g9,hlen,ze,zd,hlt]
  obtain rfl:k=d.length:=by omega
  rw [List.drop_length] at hout
  exact ⟨_,s',at_,ws,rfl,⟨hF.ext,by simp [gp_sp,hF.bd],by simp [gp_sp,hF.g1],by simp [gp_sp,hF.g2],by simp [gp_sp,hF.g3],by simp [gp_sp,hF.g8],by simp [gp_sp,hF.g9],by simpa [gp_sp] using hF.gz⟩,hat,by omega,hout⟩
theorem zMe (hH:Hyp F T N sg W):Holds Tryz.prog (K4 F T N sg W) 75:=by
 rintro a s ⟨p,x,v,d,rfl,hp,hx,hfx,hW,hv,hch⟩
 obtain ⟨c1,c2,c3⟩:=zbe hp.sl
 obtain ⟨b1,hb1⟩:∃ b1,b1=addB s (.row (ruC p) 16 37 false 0 0 0):=⟨_,rfl⟩
 rw [←hb1] at c1 c2 c3
 suffices hh:∃ y s',(fnC pc0 75).run (Rk Tryz.prog (K4 F T N sg W) fun _=>ltO b1 s.nx p x v T N W d) [.ls 0 (ruC p),x,v] s=.ret y s'∧Ext s s'∧Ints s' y∧word s' y=outL T W 0 d by
  obtain ⟨y,s',g1,g2,g3,g4⟩:=hh
  refine ⟨y,s',fn_k4 g1,fun p' x' v' d' e hv'=>?_⟩
  simp only [List.cons.injEq,V.ls.injEq,true_and,and_true] at e
  obtain ⟨-,-,rfl⟩:=e
  obtain rfl:d=d':=hv.uniq hv'
  exact ⟨g2,g3,g4⟩
 have hL:=loopO hH (hp.ext c2) c1 (hx.ext c2).1 hfx (by rw [hx.word c2,hW]) (hv.ext c2) hch
 generalize Rk Tryz.prog _ _=r at hL ⊢
 have hcc:=yU p
 have hw1:=hH.w1
 simp -implicitDefEqProofs [zjW,gp_sp,hcc,c3,zd]
 generalize hA:zca.run r _ b1=y
 have q0:∀ tm,tm=sp 9 (iv .i64 0) (sp 8 (iv .i64 0) (sp 7 (.nil 1) (sp 6 (.nil 1) (sp 3 (.ptr s.nx 0 0) (sp 2 v (sp 1 x (sp 0 (.ls 0 (ruC p)) Go.Ev.T.new)))))))→OF b1 s.nx p x v 0 0 [] tm b1∧0≤W.length∧0≤d.length∧chain W.length N 0 (d.drop 0)∧([]:List Int).length≤0*28∧[]++outL T W 0 (d.drop 0)=outL T W 0 d:=by
  rintro tm rfl
  exact ⟨⟨Ext.refl b1,by simp [gp_sp],by simp [gp_sp],by simp [gp_sp],by simp [gp_sp],by simp [gp_sp],by simp [gp_sp],.inl ⟨by simp [gp_sp],rfl⟩⟩,Nat.zero_le _,Nat.zero_le _,hch,Nat.le_refl _,rfl⟩
 have:oOut b1 s.nx p x v T W d y:=hA▸hL _ b1 ⟨(0,0,[]),q0 _ rfl⟩ (0,0,[]) (q0 _ rfl)
 obtain ⟨tm',s',at_,ws,rfl,hF,hat,hws,hout⟩:=this
 have hE:=c2.trans hF.ext
 obtain ⟨y,y1,y2,-,y4,y5⟩:=(hx.ext hE).1.slice hfx (lo:=some (iv .i64 (at_:Int))) (hi:=none) (a:=at_) (b:=lenV x) (.inr ⟨_,rfl⟩) (.inl ⟨rfl,rfl⟩) (by rw [wQ (s:=s),hW];exact hat) (Nat.le_refl _)
 rw [hx.word hE,hW] at y5
 have hlx:lenV x=W.length:=by rw [←hW,zq]
 obtain ⟨v1,s2,m1,m2,m3,m4,m5⟩:=zq7 hF.gz hF.ext.nx y2 (by omega)
 have hE2:Ext b1 s2:=zcB (D:=fun c=>blkOf (gp 7 tm')=some c) hF.ext m3 m4 (fun c hc=>(hF.gz.blk hc).1)
 have hy:word s' y=W.drop at_:=by rw [y5,hlx,List.take_of_length_le (by rw [List.length_drop];omega)]
 rw [hy,hout] at m2
 obtain ⟨i1,i2⟩:=zNC m2 (by rw [←hout,List.length_append,List.length_drop];omega)
 exact ⟨v1,s2,by simp [zf,gp_sp,hF.bd,hF.g1,hF.g8,y1,m1],c2.trans hE2,i1,i2⟩
end
theorem zcg {s:S} {sz:Nat} {v:V} (h:Sl s sz v) (c:List V→Go.Ev.A):zk 1 v c=c [v]:=by
 rcases h with (rfl | rfl) | ⟨_,_,_,_,⟨_,rfl,_⟩ | ⟨_,rfl⟩,_⟩<;>rfl
section
variable {s:S} {a:Go.Ev.K} {x:V} {mn:Nat}
theorem zMT (hg:Tr.get B.none a s.h=.row [x] 1 29 true mn 0 0):(∃ u,lenV u=0∧(∀ c,qX 29 1 (.so a 1 0 1 0) (some (iv .i64 1)) none none s c=c u)∧∃ u',(∀ c,qX 29 1 (.so a 1 0 1 0) (some (iv .i64 0)) none none s c=c u')∧(x≠.bad→mn≤1→∀ k:V→S→Go.Ev.A,xCopy 1 u u' s k=k (iv .i64 0) s)):=by
 refine ⟨.ref 1 a,rfl,fun c=>?_,.so a 1 0 1 0,fun c=>?_,fun hx hm k=>?_⟩
 ·show hget s a _=_
  rw [zR,hg];rfl
 ·show hget s a _=_
  rw [zR,hg];rfl
 ·show zy s a 1 0 _ _=_
  unfold zy
  rw [zR,hg]
  show (Bool.rec (motive:=fun _=>Go.Ev.A) _ _ (rdOk 1 true mn 1 (Nat.add 0 (Nat.mul 1 1))):Go.Ev.A)=_
  rw [show rdOk 1 true mn 1 (Nat.add 0 (Nat.mul 1 1))=true from yn.2 (.inl ⟨rfl,hm,Nat.le_refl _,Nat.le_refl _⟩)]
  show dropL 0 [x] _=_
  rw [zac]
  show takeK 1 _ _=_
  rw [zk3 _ _ _ (by simpa using hx)]
  rfl
theorem zJO (hg:Tr.get B.none a s.h=.row [x] 1 29 true mn 0 0) {y:V} (hy:∀ c:List V→Go.Ev.A,zk 1 y c=c [y]) (k:V→S→Go.Ev.A):zK 1 (.ptr a 1 0) y s k=k Go.Ev.undef (setB s a (.row [y] 1 29 true 1 0 0)):=by
 show zk 1 y (fun l=>zJ s a 1 0 1 l (fun s=>k Go.Ev.undef s))=_
 rw [hy]
 unfold zJ
 rw [zR,hg]
 show updL [y] 0 [x] _=_
 rw [qz]
 show hset s a _ _=_
 rw [zW];rfl
theorem zOh (hg:Tr.get B.none a s.h=.row [x] 1 29 true 1 0 0) (hx:x≠.bad) (ha:a.toNat<s.nx.toNat):One s (.so a 1 0 1 0) x:=by
 refine ⟨.ptr a 1 0,rfl,fun c=>rfl,fun k c=>?_,fun s' e k=>?_⟩
 ·cases k<;>rfl
 ·have hP:Pt s' (.ptr a 1 0) 1 (fun _=>x):=⟨a,1,0,[x],1,29,true,1,0,0,rfl,(e.get a ha).trans hg,rfl,yn.2 (.inl ⟨rfl,Nat.le_refl _,Nat.le_refl _,Nat.le_refl _⟩),fun j hj=>by
   obtain rfl:j=0:=by omega
   rfl⟩
  exact hP.load1 (by omega) hx k
end
section
variable {F T:Nat→List Int} {N:Nat} {sg:Int} {W:List Int}
theorem zLm:Holds Tryz.prog (K4 F T N sg W) 74:=by
 rintro a s ⟨y,rfl,hy⟩
 suffices hh:∃ v s',(fnC pc0 74).run (Rk Tryz.prog (K4 F T N sg W) noL) [.nil 1,y] s=.ret v s'∧Ext s s'∧One s' v y by
  obtain ⟨v,s',g1,g2,g3⟩:=hh
  refine ⟨_,s',fn_k4 g1,fun y' e=>?_⟩
  simp only [List.cons.injEq,true_and,and_true] at e
  subst e
  exact ⟨g2,g3⟩
 generalize Rk Tryz.prog _ _=r
 have hE1:=zP s (.row [.nil 1] 1 29 false 0 0 0)
 have hsrc:∀ k:V→S→Go.Ev.A,zM 29 1 (.nil 1) (.sl s.nx 0 0 1 1) (addB s (.row [.nil 1] 1 29 false 0 0 0)) k=k (.so s.nx.succ 1 0 1 0) (addB (addB s (.row [.nil 1] 1 29 false 0 0 0)) (.row [.nil 1] 1 29 true 0 0 0)):=fun k=>by
  show qh 1 (.sl s.nx 0 0 1 1) _ _=_
  rw [src_z (x:=[.nil 1]) 29 1 (fun y hy=>by simp at hy;subst hy;exact fun h=>by cases h) rfl]
  show yj _ 29 [.nil 1] 1 k=_
  rw [zzV _ _ _ _ (by omega)];rfl
 have hE2:=zP (addB s (.row [.nil 1] 1 29 false 0 0 0)) (.row [.nil 1] 1 29 true 0 0 0)
 have hg:Tr.get B.none s.nx.succ (addB (addB s (.row [.nil 1] 1 29 false 0 0 0)) (.row [.nil 1] 1 29 true 0 0 0)).h=.row [.nil 1] 1 29 true 0 0 0:=zS (addB s (.row [.nil 1] 1 29 false 0 0 0)) (.row [.nil 1] 1 29 true 0 0 0)
 have hnx:(addB (addB s (.row [.nil 1] 1 29 false 0 0 0)) (.row [.nil 1] 1 29 true 0 0 0)).nx.toNat=s.nx.toNat+2:=by
  show s.nx.succ.succ.toNat=_
  rw [K.toNat_succ,K.toNat_succ]
 generalize hs2:addB (addB s (.row [.nil 1] 1 29 false 0 0 0)) (.row [.nil 1] 1 29 true 0 0 0)=s2 at *
 have hE:=hE1.trans hE2
 obtain ⟨u,-,c1,u',c2,c3⟩:=zMT hg
 have c3':=c3 (fun h=>by cases h) (by omega)
 have hst:=zJO hg (zcg hy.1)
 refine ⟨.so s.nx.succ 1 0 1 0,setB s2 s.nx.succ (.row [y] 1 29 true 1 0 0),?_,yR hE (r:=s.nx.succ) (by rw [K.toNat_succ];omega) rfl (fun c hc=>by rw [zu,if_neg hc]),zOh (by rw [zu,if_pos rfl]) hy.ne (by show _<s2.nx.toNat;rw [hnx,K.toNat_succ];omega)⟩
 have w1:IntKind.i64.wrap 1=1:=by decide
 have hidx:∀ c:V→Go.Ev.A,zb 1 (.so s.nx.succ 1 0 1 0) (iv .i64 0) c=c (.ptr s.nx.succ 1 0):=fun c=>rfl
 have hnil:∀ c:List V→Go.Ev.A,zk 1 (.nil 1) c=c [.nil 1]:=fun c=>rfl
 simp -implicitDefEqProofs [zLF,zJ5,gp_sp,zHe,ze,zf,qC,rep,hnil,qz,upd,put,zr,hsrc,zo,w1,c1,c2,c3',hidx,hst,zd]
end
theorem Sl.keep {s s':S} {sz:Nat} {v:V} (h:Sl s sz v) (hn:s.nx.toNat≤s'.nx.toNat) (hk:∀ c,blkOf v=some c→Tr.get B.none c s'.h=Tr.get B.none c s.h):Sl s' sz v∧∀ j,cellV s' v j=cellV s v j:=by
 rcases h with hv | ⟨a,w,o,len,hv,hlt,l,n,el,gr,mn,f1,f2,h1,h2⟩
 ·refine ⟨.inl hv,fun j=>?_⟩
  rcases hv with rfl | rfl<;>rfl
 ·have hb:blkOf v=some a:=by rcases hv with ⟨_,rfl,_⟩ | ⟨_,rfl⟩<;>rfl
  refine ⟨.inr ⟨a,w,o,len,hv,Nat.lt_of_lt_of_le hlt hn,l,n,el,gr,mn,f1,f2,(hk a hb).trans h1,h2⟩,fun j=>?_⟩
  rcases hv with ⟨_,rfl,_⟩ | ⟨_,rfl⟩<;>simp only [cellV,hk a hb]
theorem SpA.keep {s s':S} {v:V} {cs:List Spn} (h:SpA s v cs) (hn:s.nx.toNat≤s'.nx.toNat) (hk:∀ c,blkOf v=some c→Tr.get B.none c s'.h=Tr.get B.none c s.h):SpA s' v cs:=by
 obtain ⟨h1,h2⟩:=Sl.keep h.sl hn hk
 refine ⟨h1,h.len,fun i hi=>?_⟩
 rw [←h.at_ i hi]
 unfold spV;simp [h2]
theorem One.ext {s s':S} {v g:V} (h:One s v g) (e:Ext s s'):One s' v g:=by
 obtain ⟨q,h1,h2,h3,h4⟩:=h
 exact ⟨q,h1,h2,h3,fun s2 x=>h4 s2 (e.trans x)⟩
theorem One.uniq {s:S} {v g g':V} (h:One s v g) (h':One s v g'):g=g':=by
 obtain ⟨q,-,-,h3,h4⟩:=h
 obtain ⟨q',-,-,k3,k4⟩:=h'
 have fin_inj:∀ {a b:V} {s:S},Go.Ev.A.fin a s=.fin b s→a=b:=fun h=>by injection h
 obtain rfl:=fin_inj ((h3 .i64 (fun v=>.fin v s)).symm.trans (k3 .i64 (fun v=>.fin v s)))
 exact fin_inj ((h4 s (Ext.refl s) (fun v s=>.fin v s)).symm.trans (k4 s (Ext.refl s) (fun v s=>.fin v s)))
section
variable {F T:Nat→List Int} {N:Nat} {sg:Int} {W:List Int}
structure UF (b1:S) (b:Go.Ev.K) (p x l:V) (tm:Go.Ev.T) (s:S):Prop where
 ext:Ext b1 s
 bd:gp 240 tm=.bad
 g1:gp 1 tm=x
 g2:gp 2 tm=l
 g3:gp 3 tm=.ptr b 0 0
def uOut (b1:S) (b:Go.Ev.K) (p x l:V) (T:Nat→List Int) (W:List Int) (d:List Spn) (a:Go.Ev.A):Prop:=∃ tm' s' y,a=.ext 0 tm' s'∧UF b1 b p x l tm' s'∧One s' (gp 7 tm') y∧Ints s' y∧word s' y=outL T W 0 d
def ltU (b1:S) (b:Go.Ev.K) (p x l:V) (T:Nat→List Int) (W:List Int) (d:List Spn):Lt :=
 ltI (fun (q:Nat) tm s=>UF b1 b p x l tm s∧gp 8 tm=iv .i64 (q:Int)∧((q=0∧gp 7 tm=.nil 1)∨(q=1∧∃ y,One s (gp 7 tm) y∧Ints s y∧word s y=outL T W 0 d))) (fun _ a=>uOut b1 b p x l T W d a)
theorem loopU (hH:Hyp F T N sg W) {b1:S} {b:Go.Ev.K} {p x l v:V} {d:List Spn} (hp:RuA b1 p F T N) (hR:RBx b1 b p) (hx:Ints b1 x) (hfx:Fx x) (hW:word b1 x=W) (hl:One b1 l v) (hv:SpA b1 v d) (hch:chain W.length N 0 d):∀ tm s',(ltU b1 b p x l T W d).pre tm s'→(ltU b1 b p x l T W d).post tm s' (zbU.run (Rk Tryz.prog (K4 F T N sg W) fun _=>ltU b1 b p x l T W d) tm s'):=by
 refine zC (L:=fun _=>ltU b1 b p x l T W d) pcOk0.1 pcOk0.2 zHG (fun tm _=>100 - (toI (gp 8 tm)).toNat) ?_ ?_
 ·rintro tm s a ⟨q,hq⟩ h
  obtain ⟨_,_,_,rfl,_⟩:uOut _ _ _ _ _ _ _ _ _:=h q hq
  exact fun h=>h
 rintro tm s' - IH q ⟨hF,h8,hq⟩
 have IH':∀ tm' s3,100 - (toI (gp 8 tm')).toNat<100 - (toI (gp 8 tm)).toNat→(UF b1 b p x l tm' s3∧gp 8 tm'=iv .i64 ((1:Nat):Int)∧(((1:Nat)=0∧gp 7 tm'=.nil 1)∨((1:Nat)=1∧∃ y,One s3 (gp 7 tm') y∧Ints s3 y∧word s3 y=outL T W 0 d)))→uOut b1 b p x l T W d ((Rk Tryz.prog (K4 F T N sg W) fun _=>ltU b1 b p x l T W d).code zb3 zfw tm' s3):=fun tm' s3 h1 h2=>IH tm' s3 h1 ⟨1,h2⟩ 1 h2
 clear IH
 show uOut b1 b p x l T W d (zbU.run _ tm s')
 have hO:Kept (K4 F T N sg W) (Rk Tryz.prog (K4 F T N sg W) fun _=>ltU b1 b p x l T W d) 75:=zn (zMe hH)
 have hI:Kept (K4 F T N sg W) (Rk Tryz.prog (K4 F T N sg W) fun _=>ltU b1 b p x l T W d) 74:=zn zLm
 generalize Rk Tryz.prog _ _=r at IH' hO hI ⊢
 obtain ⟨q0,l1,l2,l3,l4⟩:=hl
 have w1:IntKind.i64.wrap 1=1:=by decide
 rcases hq with ⟨rfl,h7⟩ | ⟨rfl,y,h7,hy,hyw⟩
 ·have h8':gp 8 tm=iv .i64 0:=h8
  obtain ⟨y,s2,e2,p2⟩:=hO [.ls 0 (ruC p),x,v] s' ⟨p,x,v,d,rfl,hp.ext hF.ext,(hx.ext hF.ext).1,hfx,by rw [hx.word hF.ext,hW],hv.ext hF.ext,hch⟩
  obtain ⟨hE2,hy,hyw⟩:=p2 _ _ _ _ rfl (hv.ext hF.ext)
  obtain ⟨u,s3,e3,p3⟩:=hI [.nil 1,y] s2 ⟨y,rfl,hy⟩
  obtain ⟨hE3,hu⟩:=p3 y rfl
  have hE:=hF.ext.trans (hE2.trans hE3)
  have hR':=hR.ext hF.ext
  have l4':=l4 s' hF.ext
  simp -implicitDefEqProofs [zsi,zfH,gp_sp,hF.g1,hF.g2,hF.g3,h7,h8',l2,l3,l4',hR'.fA,ze,zo,e2,e3,w1,zd,qg]
  exact IH' _ s3 (by simp [gp_sp,h8',zp]) ⟨⟨hE,by simp [gp_sp,hF.bd],by simp [gp_sp,hF.g1],by simp [gp_sp,hF.g2],by simp [gp_sp,hF.g3]⟩,by simp [gp_sp],.inr ⟨rfl,y,by simpa [gp_sp] using hu,(hy.ext hE3).1,by rw [hy.word hE3,hyw]⟩⟩
 ·have h8':gp 8 tm=iv .i64 1:=h8
  simp -implicitDefEqProofs [zsi,zfH,gp_sp,hF.g2,h8',l2,ze,zd]
  exact ⟨_,s',y,rfl,⟨hF.ext,by simp [gp_sp,hF.bd],by simp [gp_sp,hF.g1],by simp [gp_sp,hF.g2],by simp [gp_sp,hF.g3]⟩,by simpa [gp_sp] using h7,hy,hyw⟩
theorem zJS (hH:Hyp F T N sg W):Holds Tryz.prog (K4 F T N sg W) 39:=by
 rintro a s ⟨p,x,l,v,d,rfl,hp,hx,hfx,hW,hl,hv,hch⟩
 obtain ⟨c1,c2,c3⟩:=zbe hp.sl
 obtain ⟨b1,hb1⟩:∃ b1,b1=addB s (.row (ruC p) 16 37 false 0 0 0):=⟨_,rfl⟩
 rw [←hb1] at c1 c2 c3
 suffices hh:∃ u s' y,(fnC pc0 39).run (Rk Tryz.prog (K4 F T N sg W) fun _=>ltU b1 s.nx p x l T W d) [.ls 0 (ruC p),x,l] s=.ret u s'∧Ext s s'∧One s' u y∧Ints s' y∧word s' y=outL T W 0 d by
  obtain ⟨u,s',y,g1,g2,g3,g4,g5⟩:=hh
  refine ⟨u,s',fn_k4 g1,fun p' x' l' v' d' e hl' hv'=>?_⟩
  simp only [List.cons.injEq,V.ls.injEq,true_and,and_true] at e
  obtain ⟨-,-,rfl⟩:=e
  obtain rfl:=hl.uniq hl'
  obtain rfl:=hv.uniq hv'
  exact ⟨g2,y,g3,g4,g5⟩
 have hL:=loopU hH (hp.ext c2) c1 (hx.ext c2).1 hfx (by rw [hx.word c2,hW]) (hl.ext c2) (hv.ext c2) hch
 generalize Rk Tryz.prog _ _=r at hL ⊢
 have hcc:=yU p
 simp -implicitDefEqProofs [zfH,gp_sp,hcc,c3,zd]
 generalize hA:zbU.run r _ b1=y
 have q0:∀ tm,tm=sp 8 (iv .i64 0) (sp 7 (.nil 1) (sp 6 (.nil 1) (sp 3 (.ptr s.nx 0 0) (sp 2 l (sp 1 x (sp 0 (.ls 0 (ruC p)) Go.Ev.T.new))))))→UF b1 s.nx p x l tm b1∧gp 8 tm=iv .i64 ((0:Nat):Int)∧(((0:Nat)=0∧gp 7 tm=.nil 1)∨((0:Nat)=1∧∃ y,One b1 (gp 7 tm) y∧Ints b1 y∧word b1 y=outL T W 0 d)):=by
  rintro tm rfl
  exact ⟨⟨Ext.refl b1,by simp [gp_sp],by simp [gp_sp],by simp [gp_sp],by simp [gp_sp]⟩,by simp [gp_sp],.inl ⟨rfl,by simp [gp_sp]⟩⟩
 have:uOut b1 s.nx p x l T W d y:=hA▸hL _ b1 ⟨0,q0 _ rfl⟩ 0 (q0 _ rfl)
 obtain ⟨tm',s',y,rfl,hF,g1,g2,g3⟩:=this
 exact ⟨gp 7 tm',s',by simp [zf,gp_sp,hF.bd],c2.trans hF.ext,y,g1,g2,g3⟩
theorem zKI (_:Hyp F T N sg W):∀ {d:List Spn} {at_:Nat},Div (candL F N W) at_ d→chain W.length N at_ d:=by
 intro d
 induction d with
 | nil=>intro at_ _;trivial
 | cons f d ih =>
  intro at_ h
  cases h with
  | cons h1 h2 h3 h4 =>
   obtain ⟨g1,g2,g3,-⟩:=(zfu F N W f).1 h1
   exact ⟨h2,⟨g1,g2,g3⟩,ih h4⟩
theorem zOe {s:S} {a:Go.Ev.K} {g:V} {el:Nat} (hg:Tr.get B.none a s.h=.row [g] 1 el false 0 0 0) (hx:g≠.bad) (ha:a.toNat<s.nx.toNat):One s (.sl a 0 0 1 1) g:=by
 refine ⟨.ptr a 0 0,rfl,fun c=>rfl,fun k c=>?_,fun s' e k=>?_⟩
 ·cases k<;>rfl
 ·exact j4 ((e.get a ha).trans hg) 0 rfl (by omega) hx k
theorem zEu (hH:Hyp F T N sg W):∀ (d:List Spn) (at_:Nat),chain W.length N at_ d→(outL T W at_ d).length≤(W.length - at_)+20*d.length
 | [],at_,_=>by simp [outL]
 | c::d,at_,h=>by
  obtain ⟨h1,⟨h2,h3,h4⟩,h5⟩:=h
  have:=zEu hH d c.2.1 h5
  have:=hH.t2 _ h4
  simp only [outL,List.length_append,List.length_take,List.length_drop,List.length_cons];omega
theorem zNs (x:Bool) (c:List V→Go.Ev.A):zk 1 (.bool x) c=c [.bool x]:=rfl
theorem zHv (hH:Hyp F T N sg W):Holds Tryz.prog (K4 F T N sg W) 38:=by
 rintro a s ⟨p,x,m,rfl,hp,hx,hW,hm1,hm2⟩
 obtain ⟨c1,c2,c3⟩:=zbe hp.sl
 obtain ⟨b1,hb1⟩:∃ b1,b1=addB s (.row (ruC p) 16 37 false 0 0 0):=⟨_,rfl⟩
 rw [←hb1] at c1 c2 c3
 suffices hh:∃ s' l w d,(fnC pc0 38).run (Rk Tryz.prog (K4 F T N sg W) noL) [.ls 0 (ruC p),iv .i64 sg,x,iv .i64 m] s=.ret (.ls 1 [l,iv .i64 0]) s'∧Ext s s'∧One s' l w∧SpA s' w d∧Div (candL F N W) 0 d by
  obtain ⟨s',l,w,d,g1,g2,g3,g4,g5⟩:=hh
  exact ⟨_,s',fn_k4 g1,g2,l,w,d,rfl,g3,g4,g5⟩
 have hWr:Kept (K4 F T N sg W) (Rk Tryz.prog (K4 F T N sg W) noL) 37:=zn (zuV hH)
 have hCa:Kept (K4 F T N sg W) (Rk Tryz.prog (K4 F T N sg W) noL) 71:=zn (zKE hH)
 have hDi:Kept (K4 F T N sg W) (Rk Tryz.prog (K4 F T N sg W) noL) 72:=zn (zMh hH)
 generalize Rk Tryz.prog _ _=r at hWr hCa hDi ⊢
 have hcc:=yU p
 obtain ⟨w,s2,e2,p2⟩:=hWr [.ls 0 (ruC p),iv .i64 sg,x,iv .i64 m] b1 ⟨p,x,m,rfl,hp.ext c2,(hx.ext c2).1,by rw [hx.word c2,hW],by omega,hm2⟩
 obtain ⟨hE2,rfl⟩:=p2
 have hE2':=c2.trans hE2
 obtain ⟨l,s3,e3,p3⟩:=hCa [.ls 0 (ruC p),iv .i64 sg,x] s2 ⟨p,x,rfl,hp.ext hE2',(hx.ext hE2').1,by rw [hx.word hE2',hW]⟩
 obtain ⟨hE3,hl⟩:=p3
 have hR2:=c1.ext hE2
 have hR3:=hR2.ext hE3
 have hlne:=sl_ne hl.sl
 obtain ⟨B1,B2,B3⟩:=qK s3 (c:=[l,iv .i64 (W.length:Int),.bool false,iv .i64 m,.nil 1]) (n:=5) (el:=142) rfl (fun y hy=>by
  simp only [List.mem_cons,List.not_mem_nil,or_false] at hy
  rcases hy with rfl | rfl | rfl | rfl | rfl
  ·exact hlne
  ·exact iv_ne _ _
  ·exact fun h=>by cases h
  ·exact iv_ne _ _
  ·exact fun h=>by cases h)
 obtain ⟨s4,hs4⟩:∃ s4,s4=addB s3 (.row [l,iv .i64 (W.length:Int),.bool false,iv .i64 m,.nil 1] 5 142 false 0 0 0):=⟨_,rfl⟩
 rw [←hs4] at B1 B2 B3
 obtain ⟨v,s5,e5,p5⟩:=hDi [iv .i64 3,l,iv .i64 (W.length:Int)] s4 ⟨l,rfl,hl.ext B2⟩
 obtain ⟨hE5,d,hd,hdb,hdiv⟩:=p5
 have hR5:=hR3.ext B2
 obtain ⟨C1,C2,C3⟩:=qK s5 (c:=[v]) (n:=1) (el:=86) rfl (fun y hy=>by simp at hy;subst hy;exact sl_ne hd.sl)
 obtain ⟨s6,hs6⟩:∃ s6,s6=addB s5 (.row [v] 1 86 false 0 0 0):=⟨_,rfl⟩
 rw [←hs6] at C1 C2 C3
 have hB6:=B1.ext (hE5.trans C2)
 have hst:=zaA hB6.1 4 (.sl s5.nx 0 0 1 1) (fun c=>rfl) (by omega)
 have hne:s5.nx≠s3.nx:=fun h=>by
  have h1:=congrArg K.toNat h
  have h2:=hE5.nx
  have h3:s4.nx.toNat=s3.nx.toNat+1:=by rw [hs4];show s3.nx.succ.toNat=_;rw [K.toNat_succ]
  omega
 obtain ⟨s7,hs7⟩:∃ s7,s7=setB s6 s3.nx (.row (upd [.sl s5.nx 0 0 1 1] 4 [l,iv .i64 (W.length:Int),.bool false,iv .i64 m,.nil 1]) 5 142 false 0 0 0):=⟨_,rfl⟩
 rw [←hs7] at hst
 have hg7:Tr.get B.none s3.nx s7.h=.row [l,iv .i64 (W.length:Int),.bool false,iv .i64 m,.sl s5.nx 0 0 1 1] 5 142 false 0 0 0:=by rw [hs7,zu,if_pos rfl];rfl
 have hld:∀ k:V→S→Go.Ev.A,xLoad false 1 (.ptr s3.nx 0 4) s7 k=k (.sl s5.nx 0 0 1 1) s7:=fun k=>j4 hg7 4 rfl (by omega) (fun h=>by cases h) k
 have hE03:Ext s s3:=hE2'.trans hE3
 have hE7:Ext s s7:=yR (s:=s6) (r:=s3.nx) (hE03.trans (B2.trans (hE5.trans C2))) hE03.nx (by rw [hs7];rfl) (fun c hc=>by rw [hs7,zu,if_neg hc])
 have hone:One s7 (.sl s5.nx 0 0 1 1) v:=zOe (by rw [hs7,zu,if_neg hne];exact C1.1) (sl_ne hd.sl) (by rw [hs7];exact C1.2.2.2)
 have hd7:SpA s7 v d:=by
  refine (hd.ext C2).keep (by rw [hs7];exact Nat.le_refl _) fun c hc=>?_
  have h1:=hdb c hc
  have h3:s4.nx.toNat=s3.nx.toNat+1:=by rw [hs4];show s3.nx.succ.toNat=_;rw [K.toNat_succ]
  rw [hs7,zu,if_neg (fun e=>by rw [e] at h1;omega)]
 have hxl:lenV x=W.length:=by rw [←hW,zq]
 have hm:¬m<1:=by omega
 refine ⟨s7,.sl s5.nx 0 0 1 1,v,d,?_,hE7,hone,hd7,hdiv⟩
 have hlc:∀ c:List V→Go.Ev.A,zk 1 l c=c [l]:=zcg hl.sl
 have hvc:∀ c:List V→Go.Ev.A,zk 1 v c=c [v]:=zcg hd.sl
 have hlen1:∀ c:V→Go.Ev.A,xLenS (.sl s5.nx 0 0 1 1) c=c (iv .i64 1):=fun c=>rfl
 have hc5:∀ c:List V→Go.Ev.A,zk 5 (.ls 0 [l,iv .i64 (W.length:Int),.bool false,iv .i64 m,.nil 1]) c=c [l,iv .i64 (W.length:Int),.bool false,iv .i64 m,.nil 1]:=fun c=>qQ 5 _ rfl c
 simp -implicitDefEqProofs [zIl,gp_sp,hcc,c3,c1.fA,hR2.fA,hR3.f0,hR5.f0,zi,yb,hx.1.len,hxl,e2,e3,e5,qD,zw,hlc,hvc,zNs,qE,qz,upd,put,hc5,B3,qC,rep,C3,hst,hld,hlen1,hm,zd]
abbrev AP:=S × V × V × Nat
def aIn (q:AP) (tm:Go.Ev.T) (s:S):Prop:=s=q.1∧One q.1 q.2.1 q.2.2.1∧Ints q.1 q.2.2.1∧lenV q.2.2.1≤200∧q.2.2.2≤1∧gp 240 tm=.bad∧gp 12 tm=q.2.1∧gp 13 tm=iv .i64 (q.2.2.2:Int)
def aOut (q:AP) (a:Go.Ev.A):Prop:=∃ tm',a=.ext 0 tm' q.1∧gp 240 tm'=.bad∧gp 12 tm'=q.2.1
def ltA:Lt:=ltI aIn aOut
theorem loopA:∀ tm s',ltA.pre tm s'→ltA.post tm s' (wp.run (Rk Tryz.prog (K4 F T N sg W) fun _=>ltA) tm s'):=by
 refine zC (L:=fun _=>ltA) pcOk0.1 pcOk0.2 zDA (fun tm _=>100 - (toI (gp 13 tm)).toNat) ?_ ?_
 ·rintro tm s a ⟨q,hq⟩ h
  obtain ⟨_,rfl,_⟩:aOut _ _:=h q hq
  exact fun h=>h
 rintro tm s' - IH ⟨s2,u,y,q⟩ ⟨rfl,hu,hy,hl,hq,h240,h12,h13⟩
 simp only at hu hy hl hq h12 h13
 have IH':∀ tm',100 - (toI (gp 13 tm')).toNat<100 - (toI (gp 13 tm)).toNat→aIn (s',u,y,1) tm' s'→aOut (s',u,y,q) ((Rk Tryz.prog (K4 F T N sg W) fun _=>ltA).code wS za7 tm' s'):=fun tm' h1 h2=>IH tm' s' h1 ⟨(s',u,y,1),h2⟩ (s',u,y,1) h2
 clear IH
 show aOut (s',u,y,q) (wp.run _ tm s')
 generalize Rk Tryz.prog _ _=r at IH' ⊢
 have hu':=hu
 obtain ⟨q0,l1,l2,l3,l4⟩:=hu
 have w1:IntKind.i64.wrap 1=1:=by decide
 have hl':¬(200:Int)<lenV y:=by omega
 have hl2:¬200<lenV y:=by omega
 by_cases e:q=0
 ·subst e
  have h13':gp 13 tm=iv .i64 0:=h13
  have l4':=l4 s' (Ext.refl s')
  simp -implicitDefEqProofs [zjO,zdb,gp_sp,h12,h13',l2,l3,l4',hy.1.len,ze,zw,zo,w1,hl',zd]
  exact IH' _ (by simp [gp_sp,h13',zp]) ⟨rfl,hu',hy,hl,Nat.le_refl _,by simp [gp_sp,h240],by simp [gp_sp,h12],by simp [gp_sp]⟩
 ·obtain rfl:q=1:=by omega
  have h13':gp 13 tm=iv .i64 1:=h13
  simp -implicitDefEqProofs [zjO,zdb,gp_sp,h12,h13',l2,ze,zd]
  exact ⟨_,rfl,by simp [gp_sp,h240],by simp [gp_sp,h12]⟩
theorem zIh (hH:Hyp F T N sg W):Holds Tryz.prog (K4 F T N sg W) 19:=by
 rintro a s ⟨p,x,m,rfl,hp,hx,hfx,hW,hm1,hm2⟩
 obtain ⟨c1,c2,c3⟩:=zbe hp.sl
 obtain ⟨b1,hb1⟩:∃ b1,b1=addB s (.row (ruC p) 16 37 false 0 0 0):=⟨_,rfl⟩
 rw [←hb1] at c1 c2 c3
 suffices hh:∃ s' l y d,(fnC pc0 19).run (Rk Tryz.prog (K4 F T N sg W) fun _=>ltA) [.ls 0 (ruC p),iv .i64 sg,x,iv .i64 m] s=.ret (.ls 1 [l,iv .i64 0]) s'∧Ext s s'∧One s' l y∧Ints s' y∧word s' y=outL T W 0 d∧Div (candL F N W) 0 d by
  obtain ⟨s',l,y,d,g1,g2,g3,g4,g5,g6⟩:=hh
  exact ⟨_,s',fn_k4 g1,g2,l,y,d,rfl,g3,g4,g5,g6⟩
 have hL:=loopA (F:=F) (T:=T) (N:=N) (sg:=sg) (W:=W)
 have hWr:Kept (K4 F T N sg W) (Rk Tryz.prog (K4 F T N sg W) fun _=>ltA) 37:=zn (zuV hH)
 have hSp:Kept (K4 F T N sg W) (Rk Tryz.prog (K4 F T N sg W) fun _=>ltA) 38:=zn (zHv hH)
 have hOu:Kept (K4 F T N sg W) (Rk Tryz.prog (K4 F T N sg W) fun _=>ltA) 39:=zn (zJS hH)
 generalize Rk Tryz.prog _ _=r at hL hWr hSp hOu ⊢
 have hcc:=yU p
 obtain ⟨w,s2,e2,p2⟩:=hWr [.ls 0 (ruC p),iv .i64 sg,x,iv .i64 m] b1 ⟨p,x,m,rfl,hp.ext c2,(hx.ext c2).1,by rw [hx.word c2,hW],by omega,hm2⟩
 obtain ⟨hE2,rfl⟩:=p2
 have E2:=c2.trans hE2
 obtain ⟨w,s3,e3,p3⟩:=hSp [.ls 0 (ruC p),iv .i64 sg,x,iv .i64 500] s2 ⟨p,x,500,rfl,hp.ext E2,(hx.ext E2).1,by rw [hx.word E2,hW],by omega,by omega⟩
 obtain ⟨hE3,l,v,d,rfl,hl,hv,hd⟩:=p3
 have E3:=E2.trans hE3
 have hch:=zKI hH hd
 obtain ⟨u,s4,e4,p4⟩:=hOu [.ls 0 (ruC p),x,l] s3 ⟨p,x,l,v,d,rfl,hp.ext E3,(hx.ext E3).1,hfx,by rw [hx.word E3,hW],hl,hv,hch⟩
 obtain ⟨hE4,y,hu,hy,hyw⟩:=p4 _ _ _ _ _ rfl hl hv
 have hly:lenV y≤200:=by
  have h1:=zEu hH d 0 hch
  have h2:=zmH d 0 hch (Nat.zero_le _)
  have h3:=hH.w1
  rw [wQ (s:=s4),hyw];omega
 have hlu:∀ c:V→Go.Ev.A,xLenS u c=c (iv .i64 1):=by obtain ⟨_,_,h,_⟩:=hu;exact h
 have hm:¬m<1:=by omega
 have hR2:=c1.ext hE2
 have hR3:=hR2.ext hE3
 simp -implicitDefEqProofs [zdb,gp_sp,hcc,c3,c1.fA,hR2.fA,hR3.fA,e2,e3,e4,yZ,zw,hlu,hm,zd]
 generalize hA:wp.run r _ s4=z
 have q0:∀ tm,gp 240 tm=.bad→gp 12 tm=u→gp 13 tm=iv .i64 0→aIn (s4,u,y,0) tm s4:=fun tm h1 h2 h3=>⟨rfl,hu,hy,hly,Nat.zero_le _,h1,h2,h3⟩
 have fin:∀ z,aOut (s4,u,y,0) z→∃ tm',z=.ext 0 tm' s4∧gp 240 tm'=.bad∧gp 12 tm'=u:=fun z h=>h
 obtain ⟨tm',rfl,k1,k2⟩:=fin z (hA▸hL _ s4 ⟨(s4,u,y,0),q0 _ (by simp [gp_sp]) (by simp [gp_sp]) (by simp [gp_sp])⟩ (s4,u,y,0) (q0 _ (by simp [gp_sp]) (by simp [gp_sp]) (by simp [gp_sp])))
 exact ⟨s4,u,by simp [zf,gp_sp,k1,k2],E3.trans hE4,y,hu,hy,d,hyw,hd⟩
end
section
variable {F T:Nat→List Int} {N:Nat} {sg:Int} {W:List Int}
theorem zej (hH:Hyp F T N sg W) {i q:Nat} (hq:q<N) (hi:i≤W.length) (h:F q <+: W.drop i):((i,i+(F q).length,q):Spn)∈candL F N W:=by
 rw [zfu]
 have h1:=h.length_le
 rw [List.length_drop] at h1
 have h2:(F q).length≠0:=fun e=>hH.f1 q hq (List.eq_nil_of_length_eq_zero e)
 exact ⟨by show i<i+_;omega,by show i+_≤_;omega,hq,rfl,h⟩
theorem zvN:∀ (n at_:Nat),at_+n≤W.length→(∀ i,at_≤i→i<at_+n→∀ j,j<N→¬F j <+: W.drop i)→∀ y,ResP F T N (W.drop (at_+n)) y→ResP F T N (W.drop at_) ((W.drop at_).take n++y)
 | 0,at_,_,_,y,h=>by simpa using h
 | n+1,at_,hl,hn,y,h=>by
  have ih:=zvN n (at_+1) (by omega) (fun i h1 h2=>hn i (by omega) (by omega)) y (by rw [show at_+1+n=at_+(n+1) by omega];exact h)
  have hne:W.drop at_≠[]:=fun e=>by have:=congrArg List.length e;simp at this;omega
  have h1:ResP F T N ((W.drop at_).drop 1) ((W.drop (at_+1)).take n++y):=by rw [List.drop_drop];exact ih
  have h2:=ResP.step hne (.inr ⟨hn at_ (Nat.le_refl _) (by omega),rfl,rfl⟩) h1
  have e:(W.drop at_).take (n+1)=(W.drop at_).take 1++(W.drop (at_+1)).take n:=by
   rw [Nat.add_comm n 1,List.take_add,List.drop_drop]
  rw [e,List.append_assoc]
  exact h2
theorem zM4 (hH:Hyp F T N sg W):∀ (d:List Spn) (at_:Nat),at_≤W.length→Div (candL F N W) at_ d→ResP F T N (W.drop at_) (outL T W at_ d):=by
 intro d
 induction d with
 | nil =>
  intro at_ hat h
  cases h with
  | nil h =>
   have:=zvN (F:=F) (T:=T) (N:=N) (W:=W) (W.length - at_) at_ (by omega) (fun i h1 h2 j hj hp=>by
    have:=h _ (zej hH hj (by omega) hp)
    exact absurd this (by show ¬i<at_;omega)) [] (by rw [show at_+(W.length - at_)=W.length by omega,List.drop_length];exact .nil)
   rw [List.append_nil,List.take_of_length_le (by rw [List.length_drop];omega)] at this
   exact this
 | cons f d ih =>
  intro at_ hat h
  cases h with
  | cons h1 h2 h3 h4 =>
   obtain ⟨g1,g2,g3,g4,g5⟩:=(zfu F N W f).1 h1
   have ihd:=ih f.2.1 g2 h4
   have hstep:ResP F T N (W.drop f.1) (T f.2.2++outL T W f.2.1 d):=by
    refine .step (k:=(F f.2.2).length) (fun e=>?_) (.inl ⟨f.2.2,⟨g3,g5,fun q hq hp=>?_⟩,rfl,rfl⟩) (by rw [List.drop_drop,←g4];exact ihd)
    ·have:=congrArg List.length e
     rw [List.length_drop] at this
     simp at this
     omega
    ·have:=h3 _ (zej hH hq (by omega) hp) h2
     have e1:((f.1,f.1+(F q).length,q):Spn).1=f.1:=rfl
     have e2:((f.1,f.1+(F q).length,q):Spn).2.1=f.1+(F q).length:=rfl
     rw [e1,e2] at this
     omega
   have:=zvN (F:=F) (T:=T) (N:=N) (W:=W) (f.1 - at_) at_ (by omega) (fun i h5 h6 j hj hp=>by
    have:=h3 _ (zej hH hj (by omega) hp) (by show at_≤i;exact h5)
    have e1:((i,i+(F j).length,j):Spn).1=i:=rfl
    rw [e1] at this
    omega) (T f.2.2++outL T W f.2.1 d) (by rw [show at_+(f.1 - at_)=f.1 by omega];exact hstep)
   rw [outL,List.append_assoc]
   exact this
end
def allLe (w:List Int) (sg:Int):Prop:=∀ z∈w,z≤sg
open Classical in
noncomputable def K5 (F T:Nat→List Int) (N:Nat) (sg:Int) (W:List Int):Nat→Ct
 | 33=>⟨fun a s=>∃ x,a=[x]∧Ints s x∧lenV x≤20,fun a s v s'=>∀ x,a=[x]→Ext s s'∧Ints s' v∧word s' v=word s x∧∀ c,blkOf v=some c→s.nx.toNat≤c.toNat⟩
 | 16=>⟨fun a s=>∃ l,a=[l]∧Tab s l∧okTab s l,fun a s v s'=>∀ l,a=[l]→Ext s s'∧∃ p,v=.ls 1 [.ls 0 (ruC p),iv .i64 0]∧RuA s' p (fromV s l) (toV s l) (lenV l)⟩
 | 15=>⟨fun a s=>∃ x,∃ g:Int,a=[x,iv .i64 g]∧Ints s x,fun a s v s'=>∀ x,∀ g:Int,a=[x,iv .i64 g]→s'=s∧v=.bool (decide (allLe (word s x) g))⟩
 | 10=>⟨fun a s=>∃ l,∃ g:Int,a=[l,iv .i64 g]∧Tab s l,fun a s v s'=>∀ l,∀ g:Int,a=[l,iv .i64 g]→s'=s∧v=.bool (decide (∀ i,i<lenV l→allLe (fromV s l i) g∧allLe (toV s l i) g))⟩
 | f=>K4 F T N sg W f
theorem fn_k5 {F T:Nat→List Int} {N:Nat} {sg:Int} {W:List Int} {L:Nat→Lt} {f:Nat} {a:List V} {s s':S} {v:V} (h:(fnC pc0 f).run (Rk Tryz.prog (K5 F T N sg W) L) a s=.ret v s'):CallX Tryz.prog f a s v s':=jW pcOk0.1 pcOk0.2 (Rk_ok pc0 _ L) h
theorem hold5 {F T:Nat→List Int} {N:Nat} {sg:Int} {W:List Int} {f:Nat} (h:Holds Tryz.prog (K4 F T N sg W) f) (e:K5 F T N sg W f=K4 F T N sg W f):Holds Tryz.prog (K5 F T N sg W) f:=by
 unfold Holds at h ⊢
 rw [e];exact h
section
variable {F T:Nat→List Int} {N:Nat} {sg:Int} {W:List Int}
def wnOut (good:Prop) (s:S) (a:Go.Ev.A):Prop:=(good∧∃ tm',a=.ext 0 tm' s∧gp 240 tm'=.bad)∨(¬good∧∃ tm',a=.ret tm' s∧gp 240 tm'=.bad∧gp 4 tm'=.bool false)
theorem wnOut.nb {good:Prop} {s:S} {a:Go.Ev.A} (h:wnOut good s a):¬a.isBad:=by rcases h with ⟨_,_,rfl,_⟩ | ⟨_,_,rfl,_⟩<;>exact fun h=>h
def ltWn (s:S) (x:V) (g:Int):Lt:=ltI (fun (q:Nat) tm s'=>s'=s∧gp 240 tm=.bad∧gp 0 tm=x∧gp 1 tm=iv .i64 g∧gp 5 tm=iv .i64 (q:Int)∧q≤lenV x∧∀ j,j<q→intV s x j≤g) (fun _ a=>wnOut (allLe (word s x) g) s a)
theorem zN4 {s:S} {x:V} {g:Int} (hx:Ints s x):∀ tm s',(ltWn s x g).pre tm s'→(ltWn s x g).post tm s' (zbY.run (Rk Tryz.prog (K5 F T N sg W) fun _=>ltWn s x g) tm s'):=by
 refine zC (L:=fun _=>ltWn s x g) pcOk0.1 pcOk0.2 zHq (fun tm _=>lenV x - (toI (gp 5 tm)).toNat) ?_ ?_
 ·rintro tm s a ⟨q,hq⟩ h
  exact (h q hq:wnOut _ _ _).nb
 rintro tm s' - IH q ⟨rfl,h240,h0,h1,h5,hq,hle⟩
 have IH':∀ tm',lenV x - (toI (gp 5 tm')).toNat<lenV x - (toI (gp 5 tm)).toNat→(s'=s'∧gp 240 tm'=.bad∧gp 0 tm'=x∧gp 1 tm'=iv .i64 g∧gp 5 tm'=iv .i64 ((q+1:Nat):Int)∧q+1≤lenV x∧∀ j,j<q+1→intV s' x j≤g)→wnOut (allLe (word s' x) g) s' ((Rk Tryz.prog (K5 F T N sg W) fun _=>ltWn s' x g).code zbT zfP tm' s'):=fun tm' h1 h2=>IH tm' s' h1 ⟨q+1,h2⟩ (q+1) h2
 clear IH
 show wnOut _ _ (zbY.run _ tm s')
 generalize Rk Tryz.prog _ _=r at IH' ⊢
 by_cases hlt:q<lenV x
 ·obtain ⟨p,hp,hP⟩:=hx.at_ hlt
  have w2:IntKind.i64.wrap ((q:Int)+1)=(q:Int)+1:=zD (by omega) (by have:=hx.2.1;omega)
  by_cases hz:g<intV s' x q
  ·simp -implicitDefEqProofs [zhv,wR,gp_sp,h0,h1,h5,hx.1.len,ze,zw,hp,hP,hz,zd,hlt]
   exact .inr ⟨fun h=>by have:=h _ (zaz.2 ⟨q,hlt,rfl⟩);omega,_,rfl,by simp [gp_sp,h240],by simp [gp_sp]⟩
  ·simp -implicitDefEqProofs [zhv,wR,gp_sp,h0,h1,h5,hx.1.len,ze,zw,zo,hp,hP,hz,w2,zd,hlt]
   refine IH' _ (by simp [gp_sp,h5,zp];omega) ⟨rfl,by simp [gp_sp,h240],by simp [gp_sp,h0],by simp [gp_sp,h1],by simp [gp_sp],hlt,fun j hj=>?_⟩
   by_cases e:j=q
   ·rw [e];omega
   ·exact hle j (by omega)
 ·simp -implicitDefEqProofs [zhv,wR,gp_sp,h0,h5,hx.1.len,ze,zd,hlt]
  refine .inl ⟨fun z hz=>?_,_,rfl,by simp [gp_sp,h240]⟩
  obtain ⟨j,hj,rfl⟩:=zaz.1 hz
  exact hle j (by omega)
open Classical in
theorem zA8:Holds Tryz.prog (K5 F T N sg W) 15:=by
 rintro a s ⟨x,g,rfl,hx⟩
 suffices hh:(fnC pc0 15).run (Rk Tryz.prog (K5 F T N sg W) fun _=>ltWn s x g) [x,iv .i64 g] s=.ret (.bool (decide (allLe (word s x) g))) s by
  refine ⟨_,s,fn_k5 hh,fun x' g' e=>?_⟩
  simp only [List.cons.injEq,and_true] at e
  obtain ⟨rfl,e⟩:=e
  obtain rfl:=ww e
  exact ⟨rfl,rfl⟩
 have hL:=zN4 (F:=F) (T:=T) (N:=N) (sg:=sg) (W:=W) (g:=g) hx
 generalize Rk Tryz.prog _ _=r at hL ⊢
 simp -implicitDefEqProofs [wR,zd]
 generalize hA:zbY.run r _ s=y
 have q0:∀ tm,tm=sp 5 (iv .i64 0) (sp 4 (.bool false) (sp 1 (iv .i64 g) (sp 0 x Go.Ev.T.new)))→s=s∧gp 240 tm=.bad∧gp 0 tm=x∧gp 1 tm=iv .i64 g∧gp 5 tm=iv .i64 ((0:Nat):Int)∧0≤lenV x∧∀ j,j<0→intV s x j≤g:=by
  rintro tm rfl
  exact ⟨rfl,by simp [gp_sp],by simp [gp_sp],by simp [gp_sp],by simp [gp_sp],Nat.zero_le _,fun j hj=>by omega⟩
 have:wnOut (allLe (word s x) g) s y:=hA▸hL _ s ⟨0,q0 _ rfl⟩ 0 (q0 _ rfl)
 rcases this with ⟨hg,tm',rfl,k1⟩ | ⟨hg,tm',rfl,k1,k4⟩
 ·simp [zf,gp_sp,k1,hg]
 ·simp [k1,k4,hg]
def rowLe (s:S) (l:V) (g:Int) (i:Nat):Prop:=allLe (fromV s l i) g∧allLe (toV s l i) g
def ltFt (s:S) (l:V) (g:Int):Lt:=ltI (fun (q:Nat) tm s'=>s'=s∧gp 240 tm=.bad∧gp 0 tm=l∧gp 1 tm=iv .i64 g∧gp 5 tm=iv .i64 (q:Int)∧q≤lenV l∧∀ j,j<q→rowLe s l g j) (fun _ a=>wnOut (∀ i,i<lenV l→rowLe s l g i) s a)
open Classical in
theorem zNH {s:S} {l:V} {g:Int} (hl:Tab s l):∀ tm s',(ltFt s l g).pre tm s'→(ltFt s l g).post tm s' (ziN.run (Rk Tryz.prog (K5 F T N sg W) fun _=>ltFt s l g) tm s'):=by
 refine zC (L:=fun _=>ltFt s l g) pcOk0.1 pcOk0.2 zLp (fun tm _=>lenV l - (toI (gp 5 tm)).toNat) ?_ ?_
 ·rintro tm s a ⟨q,hq⟩ h
  exact (h q hq:wnOut _ _ _).nb
 rintro tm s' - IH q ⟨rfl,h240,h0,h1,h5,hq,hle⟩
 have IH':∀ tm',lenV l - (toI (gp 5 tm')).toNat<lenV l - (toI (gp 5 tm)).toNat→(s'=s'∧gp 240 tm'=.bad∧gp 0 tm'=l∧gp 1 tm'=iv .i64 g∧gp 5 tm'=iv .i64 ((q+1:Nat):Int)∧q+1≤lenV l∧∀ j,j<q+1→rowLe s' l g j)→wnOut (∀ i,i<lenV l→rowLe s' l g i) s' ((Rk Tryz.prog (K5 F T N sg W) fun _=>ltFt s' l g).code zdV zrb tm' s'):=fun tm' h1 h2=>IH tm' s' h1 ⟨q+1,h2⟩ (q+1) h2
 clear IH
 show wnOut _ _ (ziN.run _ tm s')
 have hWn:Kept (K5 F T N sg W) (Rk Tryz.prog (K5 F T N sg W) fun _=>ltFt s' l g) 15:=zn zA8
 generalize Rk Tryz.prog _ _=r at IH' hWn ⊢
 by_cases hlt:q<lenV l
 ·obtain ⟨p,q0,q1,e1,e2,e3,e4,e5⟩:=hl.fields hlt
  obtain ⟨i1,i2⟩:=hl.2.2 q hlt
  have w2:IntKind.i64.wrap ((q:Int)+1)=(q:Int)+1:=zD (by omega) (by have:=hl.2.1.1;omega)
  obtain ⟨v1,s1,c1,p1⟩:=hWn [cellV s' l (q*2),iv .i64 g] s' ⟨_,g,rfl,i1⟩
  obtain ⟨rfl,rfl⟩:=p1 _ _ rfl
  obtain ⟨v2,s2,c2,p2⟩:=hWn [cellV s1 l (q*2+1),iv .i64 g] s1 ⟨_,g,rfl,i2⟩
  obtain ⟨rfl,rfl⟩:=p2 _ _ rfl
  have f1:word s2 (cellV s2 l (q*2))=fromV s2 l q:=rfl
  have f2:word s2 (cellV s2 l (q*2+1))=toV s2 l q:=rfl
  rw [f1] at c1
  rw [f2] at c2
  by_cases hA:allLe (fromV s2 l q) g
  ·rw [decide_eq_true hA] at c1
   by_cases hB:allLe (toV s2 l q) g
   ·rw [decide_eq_true hB] at c2
    simp -implicitDefEqProofs [ziE,zcN,gp_sp,h0,h1,h5,hl.1.len,ze,zo,e1,e2,e3,e4,e5,c1,c2,w2,zd,hlt]
    refine IH' _ (by simp [gp_sp,h5,zp];omega) ⟨rfl,by simp [gp_sp,h240],by simp [gp_sp,h0],by simp [gp_sp,h1],by simp [gp_sp],hlt,fun j hj=>?_⟩
    by_cases e:j=q
    ·rw [e];exact ⟨hA,hB⟩
    ·exact hle j (by omega)
   ·rw [decide_eq_false hB] at c2
    simp -implicitDefEqProofs [ziE,zcN,gp_sp,h0,h1,h5,hl.1.len,ze,e1,e2,e3,e4,e5,c1,c2,zd,hlt]
    exact .inr ⟨fun h=>hB (h q hlt).2,_,rfl,by simp [gp_sp,h240],by simp [gp_sp]⟩
  ·rw [decide_eq_false hA] at c1
   simp -implicitDefEqProofs [ziE,zcN,gp_sp,h0,h1,h5,hl.1.len,ze,e1,e2,e4,c1,zd,hlt]
   exact .inr ⟨fun h=>hA (h q hlt).1,_,rfl,by simp [gp_sp,h240],by simp [gp_sp]⟩
 ·simp -implicitDefEqProofs [ziE,zcN,gp_sp,h0,h5,hl.1.len,ze,zd,hlt]
  exact .inl ⟨fun i hi=>hle i (by omega),_,rfl,by simp [gp_sp,h240]⟩
open Classical in
theorem zMH:Holds Tryz.prog (K5 F T N sg W) 10:=by
 rintro a s ⟨l,g,rfl,hl⟩
 suffices hh:(fnC pc0 10).run (Rk Tryz.prog (K5 F T N sg W) fun _=>ltFt s l g) [l,iv .i64 g] s=.ret (.bool (decide (∀ i,i<lenV l→rowLe s l g i))) s by
  refine ⟨_,s,fn_k5 hh,fun l' g' e=>?_⟩
  simp only [List.cons.injEq,and_true] at e
  obtain ⟨rfl,e⟩:=e
  obtain rfl:=ww e
  exact ⟨rfl,congrArg V.bool (decide_eq_decide.2 Iff.rfl)⟩
 have hL:=zNH (F:=F) (T:=T) (N:=N) (sg:=sg) (W:=W) (g:=g) hl
 generalize Rk Tryz.prog _ _=r at hL ⊢
 simp -implicitDefEqProofs [zcN,zd]
 generalize hA:ziN.run r _ s=y
 have q0:∀ tm,tm=sp 5 (iv .i64 0) (sp 4 (.bool false) (sp 1 (iv .i64 g) (sp 0 l Go.Ev.T.new)))→s=s∧gp 240 tm=.bad∧gp 0 tm=l∧gp 1 tm=iv .i64 g∧gp 5 tm=iv .i64 ((0:Nat):Int)∧0≤lenV l∧∀ j,j<0→rowLe s l g j:=by
  rintro tm rfl
  exact ⟨rfl,by simp [gp_sp],by simp [gp_sp],by simp [gp_sp],by simp [gp_sp],Nat.zero_le _,fun j hj=>by omega⟩
 have:wnOut (∀ i,i<lenV l→rowLe s l g i) s y:=hA▸hL _ s ⟨0,q0 _ rfl⟩ 0 (q0 _ rfl)
 rcases this with ⟨hg,tm',rfl,k1⟩ | ⟨hg,tm',rfl,k1,k4⟩
 ·rw [decide_eq_true hg]
  simp [zf,gp_sp,k1]
 ·rw [decide_eq_false hg]
  simp [k1,k4]
theorem zKA:Holds Tryz.prog (K5 F T N sg W) 33:=by
 rintro a s ⟨x,rfl,hx,h20⟩
 suffices hh:∃ v s',(fnC pc0 33).run (Rk Tryz.prog (K5 F T N sg W) noL) [x] s=.ret v s'∧Ext s s'∧Ints s' v∧word s' v=word s x∧∀ c,blkOf v=some c→s.nx.toNat≤c.toNat by
  obtain ⟨v,s',g1,g2⟩:=hh
  refine ⟨v,s',fn_k5 g1,fun x' e=>?_⟩
  cases e
  exact g2
 generalize Rk Tryz.prog _ _=r
 by_cases hn:x=.nil 1
 ·subst hn
  have e0:∀ c:V→Go.Ev.A,xBin ⟨2,[]⟩ true .eql (.nil 1) (.nil 1) c=c (.bool true):=fun c=>rfl
  exact ⟨.nil 1,s,by simp -implicitDefEqProofs [zlZ,gp_sp,e0,zd],Ext.refl s,zlH s,rfl,fun c hc=>by cases hc⟩
 ·have e0:∀ c:V→Go.Ev.A,xBin ⟨2,[]⟩ true .eql x (.nil 1) c=c (.bool false):=fun c=>by
   rcases hx.1 with (rfl | rfl) | ⟨_,_,_,_,⟨_,rfl,_⟩ | ⟨_,rfl⟩,_⟩
   ·exact absurd rfl hn
   ·rfl
   ·rfl
   ·rfl
  have hE1:=zP s (.row [] 0 3 false 0 0 0)
  have hG:Gr s (addB s (.row [] 0 3 false 0 0 0)) (.sl s.nx 0 0 0 0):=.inl (.inr ⟨s.nx,rfl,by show s.nx.toNat<s.nx.succ.toNat;rw [K.toNat_succ];omega,zS _ _⟩)
  have hx1:=(hx.ext hE1).1
  have hw1:=hx.word hE1
  have hI0:Ints (addB s (.row [] 0 3 false 0 0 0)) (.sl s.nx 0 0 0 0):=hG.ints (by simp [lenV])
  have hnew:∀ k:Go.Ev.K→Nat→S→Go.Ev.A,Go.Ev.newRow s 3 [] false k=k s.nx 0 (addB s (.row [] 0 3 false 0 0 0)):=fun k=>zr _ _ _ _ _
  generalize addB s (.row [] 0 3 false 0 0 0)=s1 at *
  by_cases h0:lenV x=0
  ·have hap:∀ k:V→S→Go.Ev.A,zM 3 1 (.sl s.nx 0 0 0 0) x s1 k=k (.sl s.nx 0 0 0 0) s1:=fun k=>by
    show qh 1 x s1 _=_
    rw [zrN hx1]
    have e1:word s1 x=[]:=List.eq_nil_of_length_eq_zero (by rw [zq,h0])
    rw [e1,h0];rfl
   refine ⟨.sl s.nx 0 0 0 0,s1,by simp -implicitDefEqProofs [zlZ,gp_sp,e0,qC,rep,hnew,hap,zd],hE1,hI0,?_,fun c hc=>by cases hc;exact Nat.le_refl _⟩
   rw [show word s x=[] from List.eq_nil_of_length_eq_zero (by rw [zq,h0])]
   exact List.eq_nil_of_length_eq_zero (by rw [zq];rfl)
  ·obtain ⟨v,s2,a1,a2,a3,a4,-⟩:=hG.app hE1 hx1 (by have:lenV (.sl s.nx 0 0 0 0)=0:=rfl;omega)
   have e1:word s1 (.sl s.nx 0 0 0 0)=[]:=List.eq_nil_of_length_eq_zero (by rw [zq];rfl)
   rw [e1,List.nil_append,hw1] at a4
   have hl:lenV v=lenV x:=by rw [←zq s2 v,a4,zq]
   refine ⟨v,s2,by simp -implicitDefEqProofs [zlZ,gp_sp,e0,qC,rep,hnew,a1,zd],a2,a3.ints (by omega),a4,fun c hc=>?_⟩
   rcases a3 with (rfl | ⟨a,rfl,_⟩) | ⟨a,n,l,rfl,h1,_⟩
   ·cases hc
   ·exact absurd (hl.symm.trans rfl) h0
   ·cases hc;exact h1
end
theorem zLx (k:IntKind):kbeq k k=true:=by cases k<;>rfl
theorem bq_iv (k:IntKind) (z:Int):beqV (iv k z) (iv k z)=true:=by
 cases z with
 | ofNat n =>
  show andB (kbeq k k) (Nat.beq n n)=true
  rw [zLx,Nat.beq_refl];rfl
 | negSucc n =>
  show andB (kbeq k k) (Nat.beq n n)=true
  rw [zLx,Nat.beq_refl];rfl
theorem bq_so (a:Go.Ev.K) (v o l e:Nat):beqV (.so a v o l e) (.so a v o l e)=true:=by
 show andB (K.beq a a) (andB (Nat.beq v v) (andB (Nat.beq o o) (andB (Nat.beq l l) (Nat.beq e e))))=true
 rw [zmy];simp only [Nat.beq_refl];rfl
theorem bq_sh (k a:Int) {p:V} (hp:beqV p p=true):beqV (.ls 0 (shC k a p)) (.ls 0 (shC k a p))=true:=by
 show andB true (andB (beqV (iv .i64 k) (iv .i64 k)) (andB (beqV (iv .i64 a) (iv .i64 a)) (andB (beqV (iv .i64 a) (iv .i64 a)) (andB (beqV (.str []) (.str [])) (andB (beqV (iv .i64 0) (iv .i64 0)) (andB (beqV (iv .i64 0) (iv .i64 0)) (andB (beqV p p) true)))))))=true
 rw [bq_iv,bq_iv,bq_iv,hp];rfl
theorem bq_gz {el sz:Nat} {b s:S} {v:V} {l:List (List V)} (h:Gz el sz b s v l):beqV v v=true:=by
 rcases h with ⟨rfl,_⟩ | ⟨a,mn,rfl,_⟩
 ·rfl
 ·exact bq_so _ _ _ _ _
theorem zIy:∀ {l l0:List V},l.length=l0.length→put l l0=l
 | [],[],_=>rfl
 | x::l,y::l0,h=>by
  show x::put l l0=x::l
  rw [zIy (by simpa using h)]
theorem zl8 {s:S} {a:Go.Ev.K} {l0 l:List V} {n el:Nat} (hg:Tr.get B.none a s.h=.row l0 n el false 0 0 0) (h0:l0.length=n) (hl:l.length=n) (k:V→S→Go.Ev.A):zK n (.ptr a 0 0) (.ls 0 l) s k=k Go.Ev.undef (setB s a (.row l n el false 0 0 0)):=by
 show zk n (.ls 0 l) (fun l=>zJ _ a 0 0 n l (fun s=>k Go.Ev.undef s))=_
 rw [qQ n l hl]
 show zJ _ a 0 0 n l (fun s=>k Go.Ev.undef s)=_
 unfold zJ
 rw [zR,hg]
 show (Bool.rec (motive:=fun _=>Go.Ev.A) _ _ (wrOk n false 0 0 (Nat.add 0 n) 0 0):Go.Ev.A)=_
 rw [show wrOk n false 0 0 (Nat.add 0 n) 0 0=true by
  show (Bool.rec (motive:=fun _=>Bool) _ _ (Nat.ble (Nat.add 0 n) n):Bool)=_
  rw [show Nat.ble (Nat.add 0 n) n=true from Nat.ble_eq_true_of_le (by show 0+n≤n;omega)];rfl]
 show updL l 0 l0 _=_
 rw [qz,zW]
 have e:upd l 0 l0=l:=zIy (by omega)
 rw [e];rfl
def av (D:Go.Ev.K→Prop) (v:V):Prop:=∀ c,blkOf v=some c→¬D c
theorem Sl.keep2 {s s':S} {sz:Nat} {v:V} {D:Go.Ev.K→Prop} (h:Sl s sz v) (ha:av D v) (hn:s.nx.toNat≤s'.nx.toNat) (hk:∀ c,c.toNat<s.nx.toNat→¬D c→Tr.get B.none c s'.h=Tr.get B.none c s.h):Sl s' sz v∧∀ j,cellV s' v j=cellV s v j:=by
 rcases h with hv | ⟨a,w,o,len,hv,hlt,l,n,el,gr,mn,f1,f2,h1,h2⟩
 ·refine ⟨.inl hv,fun j=>?_⟩
  rcases hv with rfl | rfl<;>rfl
 ·have hb:blkOf v=some a:=by rcases hv with ⟨_,rfl,_⟩ | ⟨_,rfl⟩<;>rfl
  have hk:=hk a hlt (ha a hb)
  refine ⟨.inr ⟨a,w,o,len,hv,Nat.lt_of_lt_of_le hlt hn,l,n,el,gr,mn,f1,f2,hk.trans h1,h2⟩,fun j=>?_⟩
  rcases hv with ⟨_,rfl,_⟩ | ⟨_,rfl⟩<;>simp only [cellV,hk]
theorem zKH {s s':S} {v:V} {D:Go.Ev.K→Prop} (h:Ints s v) (ha:av D v) (hn:s.nx.toNat≤s'.nx.toNat) (hk:∀ c,c.toNat<s.nx.toNat→¬D c→Tr.get B.none c s'.h=Tr.get B.none c s.h):Ints s' v∧word s' v=word s v:=by
 obtain ⟨h1,h2⟩:=Sl.keep2 h.1 ha hn hk
 exact ⟨⟨h1,h.2.1,fun j hj=>by rw [h2];exact h.2.2 j hj⟩,by unfold word intV;simp [h2]⟩
def ShX (D:Go.Ev.K→Prop) (s:S) (e:List V) (F:List Int):Prop:=∃ k a zs p,e=shC k a p∧ShP s p zs∧ShK k a zs∧wOf k a zs=F∧av D p
def PaX (D:Go.Ev.K→Prop) (s:S) (c:List V) (F T:List Int):Prop:=∃ e B,c=paC e B∧ShX D s e F∧Ints s B∧av D B∧word s B=T
theorem PaX.at_ {D:Go.Ev.K→Prop} {s:S} {c:List V} {F T:List Int} (h:PaX D s c F T):PaAt s c F T:=by
 obtain ⟨e,B,h1,⟨k,a,zs,p,rfl,h3,h4,h5,-⟩,h6,-,h7⟩:=h
 exact ⟨_,B,h1,⟨k,a,zs,⟨p,rfl,h3,h4⟩,h5⟩,h6,h7⟩
theorem PaX.keep {D:Go.Ev.K→Prop} {s s':S} {c:List V} {F T:List Int} (h:PaX D s c F T) (hn:s.nx.toNat≤s'.nx.toNat) (hk:∀ c,c.toNat<s.nx.toNat→¬D c→Tr.get B.none c s'.h=Tr.get B.none c s.h):PaX D s' c F T:=by
 obtain ⟨e,B,h1,⟨k,a,zs,p,h2,⟨h3,h3',h3''⟩,h4,h5,h8⟩,h6,h9,h7⟩:=h
 obtain ⟨g1,g2⟩:=Sl.keep2 h3 h8 hn hk
 obtain ⟨g3,g4⟩:=zKH h6 h9 hn hk
 exact ⟨e,B,h1,⟨k,a,zs,p,h2,⟨g1,h3',fun i hi=>by rw [←h3'' i hi];unfold exC;simp [g2]⟩,h4,h5,h8⟩,g3,h9,by rw [g4,h7]⟩
theorem sl_lt {s:S} {sz:Nat} {v:V} (h:Sl s sz v) {c:Go.Ev.K} (hc:blkOf v=some c) (h0:Go.Ev.K.h.toNat<s.nx.toNat):c.toNat<s.nx.toNat:=by
 rcases h with (rfl | rfl) | ⟨a,w,o,len,hv,hlt,_⟩
 ·cases hc
 ·cases hc;exact h0
 ·rcases hv with ⟨_,rfl,_⟩ | ⟨_,rfl⟩<;>cases hc<;>exact hlt
theorem PaX.mono {D D':Go.Ev.K→Prop} {s:S} {c:List V} {F T:List Int} (h:PaX D s c F T) (h0:Go.Ev.K.h.toNat<s.nx.toNat) (hd:∀ c,c.toNat<s.nx.toNat→¬D c→¬D' c):PaX D' s c F T:=by
 obtain ⟨e,B,h1,⟨k,a,zs,p,h2,h3,h4,h5,h8⟩,h6,h9,h7⟩:=h
 exact ⟨e,B,h1,⟨k,a,zs,p,h2,h3,h4,h5,fun c hc=>hd c (sl_lt h3.1 hc h0) (h8 c hc)⟩,h6,fun c hc=>hd c (sl_lt h6.1 hc h0) (h9 c hc),h7⟩
section
variable {F T:Nat→List Int} {N:Nat} {sg:Int} {W:List Int}
structure RF (x2 x6 x12 x13 x14:V) (tm:Go.Ev.T):Prop where
 bd:gp 240 tm=.bad
 g2:gp 2 tm=x2
 g6:gp 6 tm=x6
 g12:gp 12 tm=x12
 g13:gp 13 tm=x13
 g14:gp 14 tm=x14
structure RP where
 bq:S
 f:V
 x2:V
 x6:V
 x12:V
 x13:V
 x14:V
def symL (w:List Int):List (List V):=w.map prC
def rIn (q:RP) (j:Nat) (tm:Go.Ev.T) (s:S):Prop:=RF q.x2 q.x6 q.x12 q.x13 q.x14 tm∧Ext q.bq s∧gp 16 tm=q.f∧gp 17 tm=iv .i64 (lenV q.f:Int)∧gp 18 tm=iv .i64 (j:Int)∧j≤lenV q.f∧Gz 35 7 q.bq s (gp 7 tm) (symL ((word q.bq q.f).take j))∧Ints q.bq q.f∧lenV q.f≤20
def rOut (q:RP) (a:Go.Ev.A):Prop:=∃ tm' s',a=.ext 2 tm' s'∧RF q.x2 q.x6 q.x12 q.x13 q.x14 tm'∧Ext q.bq s'∧Gz 35 7 q.bq s' (gp 7 tm') (symL (word q.bq q.f))
def ltR2:Lt:=ltI (fun (q:RP × Nat) tm s=>rIn q.1 q.2 tm s) (fun q a=>rOut q.1 a)
theorem zDd (z:Int):(∀ y∈prC z,y≠V.bad)∧(prC z).length=7:=by
 refine ⟨fun y hy=>?_,rfl⟩
 simp only [prC,List.mem_cons,List.not_mem_nil,or_false] at hy
 rcases hy with rfl | rfl | rfl | rfl | rfl | rfl | rfl<;>first | exact iv_ne _ _ | exact fun h=>by cases h
theorem zOr {L:Nat→Lt} (h26:L 26=ltR2):∀ tm s',(L 26).pre tm s'→(L 26).post tm s' (zci.run (Rk Tryz.prog (K5 F T N sg W) L) tm s'):=by
 refine zC (L:=L) pcOk0.1 pcOk0.2 zH8 (fun tm _=>100 - (toI (gp 18 tm)).toNat) ?_ ?_
 ·rw [h26]
  rintro tm s a ⟨q,hq⟩ h
  obtain ⟨_,_,rfl,_⟩:rOut _ _:=h q hq
  exact fun h=>h
 rw [h26]
 rintro tm s' - IH ⟨q,j⟩ ⟨hF,hE,h16,h17,h18,hj,hz,hf,h20⟩
 have IH':∀ tm' s3,100 - (toI (gp 18 tm')).toNat<100 - (toI (gp 18 tm)).toNat→rIn q (j+1) tm' s3→rOut q ((Rk Tryz.prog (K5 F T N sg W) L).code jX zfE tm' s3):=fun tm' s3 h1 h2=>IH tm' s3 h1 ⟨(q,j+1),h2⟩ (q,j+1) h2
 clear IH
 show rOut q (zci.run _ tm s')
 generalize Rk Tryz.prog _ _=r at IH' ⊢
 simp only at h16 h17 h18 hj hz hf h20
 have w2:IntKind.i64.wrap ((j:Int)+1)=(j:Int)+1:=zD (by omega) (by omega)
 by_cases hlt:j<lenV q.f
 ·obtain ⟨p,hp,hP⟩:=(hf.ext hE).1.at_ hlt
  rw [(hf.ext hE).2] at hP
  have htk:(word q.bq q.f).take (j+1)=(word q.bq q.f).take j++[intV q.bq q.f j]:=zfQ (qP hlt)
  generalize intV q.bq q.f j=z at hP htk
  obtain ⟨l',s3,ha,hz3,hn3,hk3,hb3⟩:=hz.app1 hE.nx (by omega) (zDd z).1 (zDd z).2 (by simp [symL];omega)
  have hE3:Ext q.bq s3:=zcB (D:=fun c=>blkOf (gp 7 tm)=some c) hE hn3 hk3 (fun c hc=>(hz.blk hc).1)
  have ha':∀ k_1:V→S→Go.Ev.A,zM 35 7 (gp 7 tm) (.sl s'.nx 0 0 1 1) (addB s' (.row [iv .i64 2,iv .i64 z,iv .i64 z,.str [],iv .i64 0,iv .i64 0,.nil 1] 7 35 false 0 0 0)) k_1=k_1 l' s3:=ha
  have hc7:∀ c:List V→Go.Ev.A,zk 7 (.ls 0 [iv .i64 2,iv .i64 z,iv .i64 z,.str [],iv .i64 0,iv .i64 0,.nil 1]) c=c [iv .i64 2,iv .i64 z,iv .i64 z,.str [],iv .i64 0,iv .i64 0,.nil 1]:=fun c=>qQ 7 _ rfl c
  simp -implicitDefEqProofs [ztp,wh,gp_sp,h16,h17,h18,ze,zo,hp,hP,qE,qz,upd,put,qC,rep,hc7,zr,ha',w2,zd,hlt]
  refine IH' _ s3 (by simp [gp_sp,h18,zp];omega) ⟨⟨by simp [gp_sp,hF.bd],by simp [gp_sp,hF.g2],by simp [gp_sp,hF.g6],by simp [gp_sp,hF.g12],by simp [gp_sp,hF.g13],by simp [gp_sp,hF.g14]⟩,hE3,by simp [gp_sp,h16],by simp [gp_sp,h17],by simp [gp_sp],hlt,?_,hf,h20⟩
  rw [htk]
  unfold symL
  rw [List.map_append]
  simpa [gp_sp,symL] using hz3
 ·simp -implicitDefEqProofs [ztp,wh,gp_sp,h17,h18,ze,zd,hlt]
  obtain rfl:j=lenV q.f:=by omega
  rw [List.take_of_length_le (by rw [zq];exact Nat.le_refl _)] at hz
  exact ⟨_,s',rfl,⟨by simp [gp_sp,hF.bd],by simp [gp_sp,hF.g2],by simp [gp_sp,hF.g6],by simp [gp_sp,hF.g12],by simp [gp_sp,hF.g13],by simp [gp_sp,hF.g14]⟩,hE,by simpa [gp_sp] using hz⟩
end
theorem gz_at {el sz:Nat} {b s:S} {v:V} {l:List (List V)} (h:Gz el sz b s v l) (_:0<sz) {i:Nat} (hi:i<l.length) (hc:(l.getD i []).length=sz∧∀ y∈l.getD i [],y≠.bad):∃ q,(∀ k c,zb sz v (iv k (i:Int)) c=c q)∧∀ k:V→S→Go.Ev.A,xLoad true sz q s k=k (.ls 0 (l.getD i [])) s:=by
 obtain ⟨h1,h2,h3⟩:=h.sl
 obtain ⟨q,e1,hP⟩:=h1.idx (i:=(i:Int)) (by omega) (by rw [h2];omega)
 rw [Int.toNat_natCast] at hP
 have h4:∀ j,j<sz→cellV s v (i*sz+j)=(l.getD i []).getD j .bad:=fun j hj=>h3 i j hi hj
 have hne:∀ j,j<sz→cellV s v (i*sz+j)≠.bad:=fun j hj=>by
  rw [h4 j hj,List.getD_eq_getElem?_getD,List.getElem?_eq_getElem (by rw [hc.1];exact hj)]
  exact hc.2 _ (List.getElem_mem _)
 refine ⟨q,e1,fun k=>?_⟩
 rw [hP.loadN sz (Nat.le_refl _) hne k]
 congr 2
 apply List.ext_getElem (by rw [List.length_map,List.length_range,hc.1])
 intro j g1 g2
 simp only [List.getElem_map,List.getElem_range]
 rw [h4 j (by simpa using g1),List.getD_eq_getElem?_getD,List.getElem?_eq_getElem g2];rfl
section
variable {F T:Nat→List Int} {N:Nat} {sg:Int} {W:List Int}
def DD (R:Go.Ev.K) (p:V) (c:Go.Ev.K):Prop:=c=R∨blkOf p=some c
structure TI (s0 b2:S) (R:Go.Ev.K) (l:V) (i:Nat) (p:V) (ps:List (List V)) (tm:Go.Ev.T) (s:S):Prop where
 ext:Ext s0 s
 bd:gp 240 tm=.bad
 g2:gp 2 tm=.ptr R 0 0
 g12:gp 12 tm=l
 g13:gp 13 tm=iv .i64 (lenV l:Int)
 g14:gp 14 tm=iv .i64 (i:Int)
 bx:Bx s R (ruC p) 16 37
 gz:Gz 65 10 b2 s p ps
 len:ps.length=i
 nx:b2.nx.toNat≤s.nx.toNat
 part:∀ j,j<i→PaX (DD R p) s (ps.getD j []) (fromV s0 l j) (toV s0 l j)
def tOut (s0 b2:S) (R:Go.Ev.K) (l:V) (a:Go.Ev.A):Prop:=∃ tm' s' p ps,a=.ext 0 tm' s'∧TI s0 b2 R l (lenV l) p ps tm' s'
def ltT (s0 b2:S) (R:Go.Ev.K) (l:V):Nat→Lt
 | 26=>ltR2
 | _=>ltI (fun (q:Nat × V × List (List V)) tm s=>TI s0 b2 R l q.1 q.2.1 q.2.2 tm s∧q.1≤lenV l) (fun _ a=>tOut s0 b2 R l a)
def exE (w:List Int) (u:V):List V:=if 1<w.length then shC 5 0 u else prC (w.getD 0 0)
theorem ex_sh {s2 s:S} {u:V} {w:List Int} {D:Go.Ev.K→Prop} (hz:Gz 35 7 s2 s u (symL w)) (h1:1≤w.length) (h20:w.length≤20) (hs:∀ z∈w,okSy z) (ha:av D u):ShX D s (exE w u) w:=by
 obtain ⟨q1,q2,q3⟩:=hz.sl
 have hll:(symL w).length=w.length:=by simp [symL]
 unfold exE
 by_cases e:1<w.length
 ·rw [if_pos e]
  refine ⟨5,0,w,u,rfl,⟨q1,by rw [q2,hll],fun i hi=>?_⟩,.inr (.inr ⟨rfl,rfl,e,h20,hs⟩),rfl,ha⟩
  have e1:(symL w).getD i []=prC (w.getD i 0):=by simp [symL,List.getD_eq_getElem?_getD,hi]
  unfold exC
  rw [←e1]
  apply List.ext_getElem (by rw [e1];simp [prC])
  intro j g1 g2
  have hj:j<7:=by simpa using g1
  simp only [List.getElem_map,List.getElem_range]
  rw [q3 i j (by rw [hll];exact hi) hj,List.getD_eq_getElem?_getD,List.getElem?_eq_getElem g2];rfl
 ·rw [if_neg e]
  cases w with
  | nil=>simp at h1
  | cons z t =>
   have ht:t=[]:=List.eq_nil_of_length_eq_zero (by rw [List.length_cons] at e;omega)
   subst ht
   have hz':okSy z:=hs z (by simp)
   exact ⟨2,z,[],.nil 1,rfl,⟨.inl (.inl rfl),rfl,fun i hi=>by cases hi⟩,.inr (.inl ⟨rfl,hz',rfl⟩),rfl,fun c hc=>by cases hc⟩
theorem zDJ (w:List Int) (u:V):(exE w u).length=7:=by unfold exE;split<;>rfl
theorem zOp (e:List V) (B:V) (he:e.length=7):upd [B] 8 (upd e 0 paZ)=paC e B∧upd (paC e B) 0 paZ=paC e B:=by
 match e,he with
 | [a,b,c,d,f,g,h],_=>exact ⟨rfl,rfl⟩
end
section
variable {F T:Nat→List Int} {N:Nat} {sg:Int} {W:List Int}
theorem zOq {s0 b2:S} {R:Go.Ev.K} {l:V} (hl:Tab s0 l) (hok:okTab s0 l) (hR:s0.nx.toNat≤R.toNat) (hRb:R.toNat<b2.nx.toNat):∀ tm s',(ltT s0 b2 R l 87).pre tm s'→(ltT s0 b2 R l 87).post tm s' (zbX.run (Rk Tryz.prog (K5 F T N sg W) (ltT s0 b2 R l)) tm s'):=by
 refine zC (L:=ltT s0 b2 R l) pcOk0.1 pcOk0.2 zH5 (fun tm _=>100 - (toI (gp 14 tm)).toNat) ?_ ?_
 ·rintro tm s a ⟨q,hq⟩ h
  obtain ⟨_,_,_,_,rfl,_⟩:tOut _ _ _ _ _:=h q hq
  exact fun h=>h
 rintro tm s' - IH ⟨i,p,ps⟩ ⟨hF,hi⟩
 have IH':∀ p' ps' tm' s3,100 - (toI (gp 14 tm')).toNat<100 - (toI (gp 14 tm)).toNat→(TI s0 b2 R l (i+1) p' ps' tm' s3∧i+1≤lenV l)→tOut s0 b2 R l ((Rk Tryz.prog (K5 F T N sg W) (ltT s0 b2 R l)).code jX zbF tm' s3):=fun p' ps' tm' s3 h1 h2=>IH tm' s3 h1 ⟨(i+1,p',ps'),h2⟩ (i+1,p',ps') h2
 clear IH
 show tOut s0 b2 R l (zbX.run _ tm s')
 have hIn:=zOr (F:=F) (T:=T) (N:=N) (sg:=sg) (W:=W) (L:=ltT s0 b2 R l) rfl
 have hCl:Kept (K5 F T N sg W) (Rk Tryz.prog (K5 F T N sg W) (ltT s0 b2 R l)) 33:=zn zKA
 generalize Rk Tryz.prog _ _=r at IH' hIn hCl ⊢
 obtain ⟨hn1,hn2,hrow⟩:=hok
 simp only at hF hi
 have w2:IntKind.i64.wrap ((i:Int)+1)=(i:Int)+1:=zD (by omega) (by omega)
 by_cases hlt:i<lenV l
 ·obtain ⟨r1,r2,r3,r4,r5,-⟩:=hrow i hlt
  obtain ⟨q,q0,q1,e1,-,-,-,-,e6⟩:=((hl.ext hF.ext).1).fields hlt
  have hcv:=(hl.ext hF.ext).2.1
  rw [hcv,hcv] at e6
  obtain ⟨i1,i2⟩:=hl.2.2 i hlt
  obtain ⟨f,hf⟩:∃ f,f=cellV s0 l (i*2):=⟨_,rfl⟩
  obtain ⟨t,ht⟩:∃ t,t=cellV s0 l (i*2+1):=⟨_,rfl⟩
  rw [←hf] at i1 e6
  rw [←ht] at i2 e6
  have wf:word s0 f=fromV s0 l i:=by rw [hf];rfl
  have wt:word s0 t=toV s0 l i:=by rw [ht];rfl
  have hRs:=hF.bx.2.2.2
  -- the row, copied into a box
  obtain ⟨C1,C2,-⟩:=qK s' (c:=[f,t]) (n:=2) (el:=49) rfl (fun y hy=>by
   simp only [List.mem_cons,List.not_mem_nil,or_false] at hy
   rcases hy with rfl | rfl
   ·exact i1.ne
   ·exact i2.ne)
  have C3:∀ k:Go.Ev.K→Nat→S→Go.Ev.A,Go.Ev.newRow s' 49 [.nil 1,.nil 1] false k=k s'.nx 2 (addB s' (.row [.nil 1,.nil 1] 2 49 false 0 0 0)):=fun k=>zr _ _ _ _ _
  have C4:=yN s' 49 2 [.nil 1,.nil 1] [f,t] rfl rfl
  obtain ⟨s1,hs1⟩:∃ s1,s1=addB s' (.row [f,t] 2 49 false 0 0 0):=⟨_,rfl⟩
  rw [←hs1] at C1 C2
  simp only [←hs1] at C4
  have n1:s1.nx.toNat=s'.nx.toNat+1:=by rw [hs1];show s'.nx.succ.toNat=_;rw [K.toNat_succ]
  have E1:=hF.ext.trans C2
  have fl0:∀ k:V→S→Go.Ev.A,xLoad false 1 (.ptr s'.nx 0 0) s1 k=k f s1:=C1.fld 0 (by omega)
  have if1:=(i1.ext E1).1
  have lf:lenV f=(fromV s0 l i).length:=by rw [←wf,zq]
  simp -implicitDefEqProofs [zuB,wh,gp_sp,hF.g12,hF.g13,hF.g14,ze,e1,e6,C3,C4,zi,fl0,if1.1.len,zd,hlt]
  generalize hA:zci.run r _ s1=a
  have q2:∀ tm',tm'=sp 18 (iv .i64 0) (sp 17 (iv .i64 (lenV f:Int)) (sp 16 f (sp 7 (.nil 1) (sp 6 (.ptr s'.nx 0 0) (sp 15 (.bool true) tm)))))→rIn ⟨s1,f,.ptr R 0 0,.ptr s'.nx 0 0,l,iv .i64 (lenV l:Int),iv .i64 (i:Int)⟩ 0 tm' s1:=by
   rintro tm' rfl
   exact ⟨⟨by simp [gp_sp,hF.bd],by simp [gp_sp,hF.g2],by simp [gp_sp],by simp [gp_sp,hF.g12],by simp [gp_sp,hF.g13],by simp [gp_sp,hF.g14]⟩,Ext.refl s1,by simp [gp_sp],by simp [gp_sp],by simp [gp_sp],Nat.zero_le _,.inl ⟨by simp [gp_sp],rfl⟩,if1,by rw [lf];exact r2⟩
  have:rOut ⟨s1,f,.ptr R 0 0,.ptr s'.nx 0 0,l,iv .i64 (lenV l:Int),iv .i64 (i:Int)⟩ a:=hA▸hIn _ s1 ⟨(_,0),q2 _ rfl⟩ (_,0) (q2 _ rfl)
  obtain ⟨tm2,s2,rfl,⟨k240,k2,k6,k12,k13,k14⟩,E12,hz⟩:=this
  simp only at k2 k6 k12 k13 k14 E12 hz
  rw [i1.word E1,wf] at hz
  obtain ⟨u,hu⟩:∃ u,u=gp 7 tm2:=⟨_,rfl⟩
  rw [←hu] at hz
  obtain ⟨w,hw⟩:∃ w,w=fromV s0 l i:=⟨_,rfl⟩
  rw [←hw] at hz r1 r2 r4
  have hsy:∀ z∈w,okSy z:=fun z hz=>r4 z hz
  have hll:(symL w).length=w.length:=by simp [symL]
  have hg0:(symL w).getD 0 []=prC (w.getD 0 0):=by simp [symL,List.getD_eq_getElem?_getD,show 0<w.length by omega]
  obtain ⟨q7,a1,a2⟩:=gz_at hz (by omega) (i:=0) (by omega) (by rw [hg0];exact ⟨rfl,(zDd _).1⟩)
  rw [hg0] at a2
  have a1':∀ k c,zb 7 u (iv k 0) c=c q7:=a1
  have hlu:∀ c:V→Go.Ev.A,xLenS u c=c (iv .i64 (w.length:Int)):=fun c=>by rw [hz.len,hll]
  -- the upper expression, in a box
  have P3:∀ k:Go.Ev.K→Nat→S→Go.Ev.A,Go.Ev.newRow s2 35 [iv .i64 0,iv .i64 0,iv .i64 0,.str [],iv .i64 0,iv .i64 0,.nil 1] false k=k s2.nx 7 (addB s2 (.row (shC 0 0 (.nil 1)) 7 35 false 0 0 0)):=fun k=>zr _ _ _ _ _
  have P4:=yN s2 35 7 (shC 0 0 (.nil 1)) (prC (w.getD 0 0)) rfl rfl
  obtain ⟨P1,P2,-⟩:=qK s2 (c:=prC (w.getD 0 0)) (n:=7) (el:=35) rfl (zDd _).1
  obtain ⟨s3,hs3⟩:∃ s3,s3=addB s2 (.row (prC (w.getD 0 0)) 7 35 false 0 0 0):=⟨_,rfl⟩
  simp only [←hs3] at P4 P1 P2
  have hune:=sl_ne hz.sl.1
  have P5:=zl8 P1.1 rfl (show (shC 5 0 u).length=7 from rfl)
  obtain ⟨s4,hs4,E24,B4⟩:∃ s4,s4=(if 1<w.length then setB s3 s2.nx (.row (shC 5 0 u) 7 35 false 0 0 0) else s3)∧Ext s2 s4∧Bx s4 s2.nx (exE w u) 7 35:=by
   refine ⟨_,rfl,?_,?_⟩
   ·split
    ·exact yR P2 (Nat.le_refl _) rfl (fun c hc=>by rw [zu,if_neg hc])
    ·exact P2
   ·unfold exE
    split
    ·refine ⟨by rw [zu,if_pos rfl],rfl,fun y hy=>?_,P1.2.2.2⟩
     simp only [shC,List.mem_cons,List.not_mem_nil,or_false] at hy
     rcases hy with rfl | rfl | rfl | rfl | rfl | rfl | rfl<;>first | exact iv_ne _ _ | exact hune | exact fun h=>by cases h
    ·exact P1
  have E14:=E12.trans E24
  have E4:=E1.trans E14
  have C4b:∀ k:V→S→Go.Ev.A,xLoad false 1 (.ptr s'.nx 0 1) s4 k=k t s4:=(C1.ext E14).fld 1 (by omega)
  have R4:=hF.bx.ext (C2.trans E14)
  have R4b:∀ k:V→S→Go.Ev.A,xLoad false 1 (.ptr R 0 1) s4 k=k p s4:=R4.fld 1 (by omega)
  obtain ⟨B,s5,e5,p5⟩:=hCl [t] s4 ⟨t,rfl,(i2.ext E4).1,by rw [wQ (s:=s0),wt];exact r3⟩
  obtain ⟨E45,iB,wB,fB⟩:=p5 t rfl
  rw [i2.word E4,wt] at wB
  have R5:=R4.ext E45
  have R5b:∀ k:V→S→Go.Ev.A,xLoad false 1 (.ptr R 0 1) s5 k=k p s5:=R5.fld 1 (by omega)
  have B4a:=B4.all
  have B5a:=(B4.ext E45).all
  have bqp:=bq_gz hF.gz
  have bqe:beqV (.ls 0 (exE w u)) (.ls 0 (exE w u))=true:=by
   unfold exE
   split
   ·exact bq_sh 5 0 (bq_gz hz)
   ·exact bq_sh 2 _ rfl
  have hpc:(∀ y∈paC (exE w u) B,y≠V.bad)∧(paC (exE w u) B).length=10:=by
   refine ⟨fun y hy=>?_,by simp [paC,zDJ]⟩
   simp only [paC,List.mem_append,List.mem_cons,List.not_mem_nil,or_false] at hy
   rcases hy with hy | rfl | rfl | rfl
   ·exact B4.2.2.1 y hy
   ·exact fun h=>by cases h
   ·exact iB.ne
   ·exact fun h=>by cases h
  have E15:=C2.trans (E14.trans E45)
  have hgz5:=hF.gz.ext E15
  obtain ⟨p',s6,ha,hz6,n56,k56,bl56⟩:=hgz5.app1 (Nat.le_trans hF.nx E15.nx) (by omega) hpc.1 hpc.2 (by rw [hF.len];omega)
  have hRp:blkOf p≠some R:=fun h=>by have:=(hF.gz.blk h).1;omega
  have R6:Bx s6 R (ruC p) 16 37:=⟨(k56 R R5.2.2.2 hRp).trans R5.1,R5.2.1,R5.2.2.1,Nat.lt_of_lt_of_le R5.2.2.2 n56⟩
  have hst:=zaA R6.1 1 p' (zcg hz6.sl.1) (by omega)
  have hup:upd [p'] 1 (ruC p)=ruC p':=rfl
  rw [hup] at hst
  obtain ⟨s7,hs7⟩:∃ s7,s7=setB s6 R (.row (ruC p') 16 37 false 0 0 0):=⟨_,rfl⟩
  simp only [←hs7] at hst
  have nx7:s7.nx.toNat=s6.nx.toNat:=by rw [hs7];rfl
  have fr:∀ c,c≠R→Tr.get Go.Ev.B.none c s7.h=Tr.get Go.Ev.B.none c s6.h:=fun c hc=>by rw [hs7,zu,if_neg hc]
  have hk0:Go.Ev.K.h.toNat<s'.nx.toNat:=by
   have h1:0<R.toNat:=K.toNat_pos R
   have h2:Go.Ev.K.h.toNat=1:=rfl
   omega
  have hn15:=E15.nx
  have hn14:=E14.nx
  have hn45:=E45.nx
  have E06:Ext s0 s6:=zcB (D:=fun c=>blkOf p=some c) (E4.trans E45) n56 k56 (fun c hc=>by have:=(hF.gz.blk hc).1;omega)
  have E07:Ext s0 s7:=yR E06 hR (by rw [hs7];rfl) fr
  have R7:Bx s7 R (ruC p') 16 37:=⟨by rw [hs7,zu,if_pos rfl],(zb1 hz6.sl.1).1,(zb1 hz6.sl.1).2,by rw [nx7];exact R6.2.2.2⟩
  have gz7:Gz 65 10 b2 s7 p' (ps++[paC (exE w u) B]):=hz6.keep (by rw [nx7];exact Nat.le_refl _) fun c hc=>fr c fun e=>by
   have:=(hz6.blk hc).1
   rw [e] at this;omega
  have hbp:∀ c,blkOf p=some c→c.toNat<s'.nx.toNat:=fun c hc=>(hF.gz.blk hc).2
  have hbp':∀ c,blkOf p'=some c→blkOf p=some c∨s5.nx.toNat≤c.toNat:=fun c hc=>by
   rcases bl56 with h | h
   ·exact .inl (h▸hc)
   ·exact .inr (h c hc)
  have hu0:∀ c,blkOf u=some c→s1.nx.toNat≤c.toNat∧c.toNat<s2.nx.toNat:=fun c hc=>hz.blk hc
  have part7:∀ j,j<i+1→PaX (DD R p') s7 ((ps++[paC (exE w u) B]).getD j []) (fromV s0 l j) (toV s0 l j):=by
   intro j hj
   have gen:∀ (sa:S) (c:List V) (G H:List Int),s'.nx.toNat≤sa.nx.toNat→sa.nx.toNat≤s5.nx.toNat→PaX (fun c=>c=R∨blkOf p=some c∨s5.nx.toNat≤c.toNat) s5 c G H→PaX (DD R p') s7 c G H:=by
    intro sa c G H _ _ h
    have h2:PaX (fun c=>c=R∨blkOf p=some c∨s5.nx.toNat≤c.toNat) s7 c G H:=h.keep (by rw [nx7];exact n56) fun d hd hnd=>by
     rw [fr d (fun e=>hnd (.inl e))]
     exact k56 d hd (fun e=>hnd (.inr (.inl e)))
    refine h2.mono (by rw [nx7];omega) fun d _ hnd hdd=>?_
    rcases hdd with e | e
    ·exact hnd (.inl e)
    ·rcases hbp' d e with e | e
     ·exact hnd (.inr (.inl e))
     ·exact hnd (.inr (.inr e))
   by_cases e:j<i
   ·rw [List.getD_eq_getElem?_getD,List.getElem?_append_left (by rw [hF.len];exact e),←List.getD_eq_getElem?_getD]
    have h1:=(hF.part j e).mono (D':=fun c=>c=R∨blkOf p=some c∨s5.nx.toNat≤c.toNat) hk0 fun d hd hnd hdd=>by
     rcases hdd with e | e | e
     ·exact hnd (.inl e)
     ·exact hnd (.inr e)
     ·omega
    exact gen s5 _ _ _ (by omega) (Nat.le_refl _) (h1.keep E15.nx fun d hd _=>E15.get d hd)
   ·obtain rfl:j=i:=by omega
    rw [List.getD_eq_getElem?_getD,List.getElem?_append_right (by rw [hF.len];exact Nat.le_refl _),hF.len,Nat.sub_self]
    refine gen s5 _ _ _ (by omega) (Nat.le_refl _) ⟨exE w u,B,rfl,?_,iB,fun c hc hd=>?_,wB⟩
    ·rw [←hw]
     refine ex_sh (hz.ext (E24.trans E45)) r1 r2 hsy fun c hc hd=>?_
     obtain ⟨h1,h2⟩:=hu0 c hc
     have h3:=E24.nx
     rcases hd with e | e | e
     ·rw [e] at h1;omega
     ·have:=hbp c e;omega
     ·omega
    ·have h1:=fB c hc
     have h2:c.toNat<s5.nx.toNat:=sl_lt iB.1 hc (by omega)
     rcases hd with e | e | e
     ·rw [e] at h1;omega
     ·have:=hbp c e;omega
     ·omega
  have fin:∀ tm7,gp 240 tm7=.bad→gp 2 tm7=.ptr R 0 0→gp 12 tm7=l→gp 13 tm7=iv .i64 (lenV l:Int)→gp 14 tm7=iv .i64 ((i+1:Nat):Int)→tOut s0 b2 R l (r.code jX zbF tm7 s7):=fun tm7 t1 t2 t3 t4 t5 =>
   IH' p' (ps++[paC (exE w u) B]) tm7 s7 (by rw [t5,hF.g14,zp,zp];omega) ⟨⟨E07,t1,t2,t3,t4,t5,R7,gz7,by rw [List.length_append,hF.len];rfl,by rw [nx7];have:=hF.nx;omega,part7⟩,hlt⟩
  obtain ⟨z0,hz0⟩:∃ z0,z0=w.getD 0 0:=⟨_,rfl⟩
  rw [←hz0] at a2
  simp only [←hz0] at P4
  have hun:upd [u] 6 (upd [iv .i64 5] 0 [iv .i64 0,iv .i64 0,iv .i64 0,.str [],iv .i64 0,iv .i64 0,.nil 1])=shC 5 0 u:=rfl
  have huc:∀ c:List V→Go.Ev.A,zk 1 u c=c [u]:=zcg hz.sl.1
  have hBc:∀ c:List V→Go.Ev.A,zk 1 B c=c [B]:=zcg iB.1
  have hEc:∀ c:List V→Go.Ev.A,zk 7 (.ls 0 (exE w u)) c=c (exE w u):=fun c=>qQ 7 _ (zDJ _ _) c
  have hPc:∀ c:List V→Go.Ev.A,zk 10 (.ls 0 (paC (exE w u) B)) c=c (paC (exE w u) B):=fun c=>qQ 10 _ hpc.2 c
  obtain ⟨u1,u2⟩:=zOp (exE w u) B (zDJ _ _)
  have u1':upd [B] 8 (upd (exE w u) 0 [iv .i64 0,iv .i64 0,iv .i64 0,.str [],iv .i64 0,iv .i64 0,.nil 1,.bool false,.nil 1,.nil 1])=paC (exE w u) B:=u1
  have u2':upd (paC (exE w u) B) 0 [iv .i64 0,iv .i64 0,iv .i64 0,.str [],iv .i64 0,iv .i64 0,.nil 1,.bool false,.nil 1,.nil 1]=paC (exE w u) B:=u2
  obtain ⟨-,-,N5⟩:=qK s5 (el:=65) hpc.2 hpc.1
  by_cases hw1:1<w.length
  ·rw [if_pos hw1] at hs4
   have P5':∀ k:V→S→Go.Ev.A,zK 7 (.ptr s2.nx 0 0) (.ls 0 (shC 5 0 u)) s3 k=k Go.Ev.undef s4:=by rw [hs4];exact P5
   have hw1':(1:Int)<(w.length:Int):=by omega
   simp -implicitDefEqProofs [zf,gp_sp,k2,k6,k14,←hu,a1',a2,P3,P4,hlu,zw,hw1',qE,qz,hun,huc,P5',zi,R4b,B4a,C4b,e5,R5b,bqp,B5a,bqe,hEc,hBc,u1',u2',qC,rep,hPc,N5,ha,hst,zo,w2,qg]
   exact fin _ (by simp [gp_sp,k240]) (by simp [gp_sp,k2]) (by simp [gp_sp,k12]) (by simp [gp_sp,k13]) (by simp [gp_sp])
  ·rw [if_neg hw1] at hs4
   subst hs4
   have hw1':¬(1:Int)<(w.length:Int):=by omega
   simp -implicitDefEqProofs [zf,gp_sp,k2,k6,k14,←hu,a1',a2,P3,P4,hlu,zw,hw1',qz,zi,R4b,B4a,C4b,e5,R5b,bqp,B5a,bqe,hEc,hBc,u1',u2',qC,rep,hPc,N5,ha,hst,zo,w2,qg]
   exact fin _ (by simp [gp_sp,k240]) (by simp [gp_sp,k2]) (by simp [gp_sp,k12]) (by simp [gp_sp,k13]) (by simp [gp_sp])
 ·simp -implicitDefEqProofs [zuB,wh,gp_sp,hF.g13,hF.g14,ze,zd,hlt]
  obtain rfl:i=lenV l:=by omega
  exact ⟨_,s',p,ps,rfl,hF.ext,by simp [gp_sp,hF.bd],by simp [gp_sp,hF.g2],by simp [gp_sp,hF.g12],by simp [gp_sp,hF.g13],by simp [gp_sp,hF.g14],hF.bx,hF.gz,hF.len,hF.nx,hF.part⟩
end
section
variable {F T:Nat→List Int} {N:Nat} {sg:Int} {W:List Int}
def ruZ:List V:=[iv .i64 0,.nil 1,iv .i64 0,iv .i64 0,iv .i64 0,.str [],iv .i64 0,iv .i64 0,.nil 1,iv .i64 0,iv .i64 0,iv .i64 0,.str [],iv .i64 0,iv .i64 0,.nil 1]
theorem zAj {s s':S} {l:V} (hl:Tab s l) (e:Ext s s'):okTab s' l↔okTab s l:=by
 obtain ⟨-,-,h3,h4⟩:=hl.ext e
 exact wI h3 h4
open Classical in
theorem zK4:Holds Tryz.prog (K5 F T N sg W) 16:=by
 rintro a s ⟨l,rfl,hl,hok⟩
 obtain ⟨b2,hb2⟩:∃ b2,b2=addB s (.row ruZ 16 37 false 0 0 0):=⟨_,rfl⟩
 have N1:∀ k:Go.Ev.K→Nat→S→Go.Ev.A,Go.Ev.newRow s 37 [iv .i64 0,.nil 1,iv .i64 0,iv .i64 0,iv .i64 0,.str [],iv .i64 0,iv .i64 0,.nil 1,iv .i64 0,iv .i64 0,iv .i64 0,.str [],iv .i64 0,iv .i64 0,.nil 1] false k=k s.nx 16 b2:=fun k=>by rw [hb2];exact zr _ _ _ _ _
 have E2:Ext s b2:=by rw [hb2];exact zP _ _
 have n2:b2.nx.toNat=s.nx.toNat+1:=by rw [hb2];show s.nx.succ.toNat=_;rw [K.toNat_succ]
 have g2:Tr.get B.none s.nx b2.h=.row ruZ 16 37 false 0 0 0:=by rw [hb2];exact zS _ _
 suffices hh:∃ p s',(fnC pc0 16).run (Rk Tryz.prog (K5 F T N sg W) (ltT s b2 s.nx l)) [l] s=.ret (.ls 1 [.ls 0 (ruC p),iv .i64 0]) s'∧Ext s s'∧RuA s' p (fromV s l) (toV s l) (lenV l) by
  obtain ⟨p,s',h1,h2,h3⟩:=hh
  refine ⟨_,s',fn_k5 h1,fun l' e=>?_⟩
  cases e
  exact ⟨h2,p,rfl,h3⟩
 have hL:=zOq (F:=F) (T:=T) (N:=N) (sg:=sg) (W:=W) (b2:=b2) hl hok (Nat.le_refl _) (by omega)
 have hV:Kept (K5 F T N sg W) (Rk Tryz.prog (K5 F T N sg W) (ltT s b2 s.nx l)) 22:=zn (hold5 (hold4 (hold3 (hold2 zFi rfl) rfl) rfl) rfl)
 generalize Rk Tryz.prog _ _=r at hL hV ⊢
 obtain ⟨w,s2,e2,p2⟩:=hV [l] b2 ⟨l,rfl,(hl.ext E2).1⟩
 obtain ⟨E22,rfl⟩:=p2 l rfl
 rw [decide_eq_true ((zAj hl E2).2 hok)] at e2
 have N3:∀ k:Go.Ev.K→Nat→S→Go.Ev.A,Go.Ev.newRow s2 35 [iv .i64 0,iv .i64 0,iv .i64 0,.str [],iv .i64 0,iv .i64 0,.nil 1] false k=k s2.nx 7 (addB s2 (.row (shC 0 0 (.nil 1)) 7 35 false 0 0 0)):=fun k=>zr _ _ _ _ _
 have P4:=yN s2 35 7 (shC 0 0 (.nil 1)) emC rfl rfl
 obtain ⟨P1,P2,-⟩:=qK s2 (c:=emC) (n:=7) (el:=35) rfl (em_sh s).cells.2
 obtain ⟨s3,hs3⟩:∃ s3,s3=addB s2 (.row emC 7 35 false 0 0 0):=⟨_,rfl⟩
 simp only [←hs3] at P4 P1 P2
 have E23:=E22.trans P2
 have g3:Tr.get B.none s.nx s3.h=.row ruZ 16 37 false 0 0 0:=(E23.get _ (by omega)).trans g2
 have P5:=zl8 g3 rfl (show (ruC (.nil 1)).length=16 from rfl)
 obtain ⟨s4,hs4⟩:∃ s4,s4=setB s3 s.nx (.row (ruC (.nil 1)) 16 37 false 0 0 0):=⟨_,rfl⟩
 simp only [←hs4] at P5
 have E4:Ext s s4:=yR (E2.trans E23) (Nat.le_refl _) (by rw [hs4];rfl) (fun c hc=>by rw [hs4,zu,if_neg hc])
 have n4:s4.nx=s3.nx:=by rw [hs4];rfl
 have u1:upd [iv .i64 1] 0 [iv .i64 0,iv .i64 0,iv .i64 0,.str [],iv .i64 0,iv .i64 0,.nil 1]=emC:=rfl
 have u2:upd emC 9 (upd emC 2 (upd [iv .i64 3] 0 [iv .i64 0,.nil 1,iv .i64 0,iv .i64 0,iv .i64 0,.str [],iv .i64 0,iv .i64 0,.nil 1,iv .i64 0,iv .i64 0,iv .i64 0,.str [],iv .i64 0,iv .i64 0,.nil 1]))=ruC (.nil 1):=rfl
 have hec:∀ c:List V→Go.Ev.A,zk 7 (.ls 0 emC) c=c emC:=fun c=>qQ 7 _ rfl c
 have P1a:=P1.all
 simp -implicitDefEqProofs [wh,gp_sp,N1,e2,qE,qz,u1,u2,N3,P4,P1a,hec,P5,hl.1.len,zd]
 generalize hA:zbX.run r _ s4=y
 have q0:∀ tm,gp 240 tm=.bad→gp 2 tm=.ptr s.nx 0 0→gp 12 tm=l→gp 13 tm=iv .i64 (lenV l:Int)→gp 14 tm=iv .i64 0→TI s b2 s.nx l 0 (.nil 1) [] tm s4∧0≤lenV l:=fun tm t1 t2 t3 t4 t5 =>
  ⟨⟨E4,t1,t2,t3,t4,t5,⟨by rw [hs4,zu,if_pos rfl],(zb1 (s:=s) (.inl (.inl rfl))).1,(zb1 (s:=s) (.inl (.inl rfl))).2,by rw [n4];have:=E23.nx;omega⟩,.inl ⟨rfl,rfl⟩,rfl,by rw [n4];exact E23.nx,fun j hj=>by omega⟩,Nat.zero_le _⟩
 have:=hA▸hL _ s4 ⟨(0,.nil 1,[]),q0 _ (by simp [gp_sp]) (by simp [gp_sp]) (by simp [gp_sp]) (by simp [gp_sp]) (by simp [gp_sp])⟩ (0,.nil 1,[]) (q0 _ (by simp [gp_sp]) (by simp [gp_sp]) (by simp [gp_sp]) (by simp [gp_sp]) (by simp [gp_sp]))
 obtain ⟨tm',s5,p,ps,rfl,hT⟩:tOut s b2 s.nx l y:=this
 have hS:=zl8 hT.bx.1 hT.bx.2.1 hT.bx.2.1
 have hLd:=hT.bx.all
 obtain ⟨s6,hs6⟩:∃ s6,s6=setB s5 s.nx (.row (ruC p) 16 37 false 0 0 0):=⟨_,rfl⟩
 simp only [←hs6] at hS
 have n6:s6.nx=s5.nx:=by rw [hs6];rfl
 have fr:∀ c,c≠s.nx→Tr.get B.none c s6.h=Tr.get B.none c s5.h:=fun c hc=>by rw [hs6,zu,if_neg hc]
 have R6:Bx s6 s.nx (ruC p) 16 37:=⟨by rw [hs6,zu,if_pos rfl],hT.bx.2.1,hT.bx.2.2.1,by rw [n6];exact hT.bx.2.2.2⟩
 have hLd6:=R6.all
 have E6:Ext s s6:=yR hT.ext (Nat.le_refl _) n6 fr
 have gz6:Gz 65 10 b2 s6 p ps:=hT.gz.keep (by rw [n6];exact Nat.le_refl _) fun c hc=>fr c fun e=>by
  have:=(hT.gz.blk hc).1
  rw [e] at this;omega
 refine ⟨p,s6,?_,E6,?_⟩
 ·simp -implicitDefEqProofs [zf,gp_sp,hT.bd,hT.g2,hLd,hS,hLd6]
 ·obtain ⟨h1,h2,h3⟩:=gz6.sl
  refine ⟨h1,by rw [h2,hT.len],fun j hj=>?_⟩
  have hp:=((hT.part j hj).keep (s':=s6) (by rw [n6];exact Nat.le_refl _) fun c _ hnd=>fr c fun e=>hnd (.inl e)).at_
  have e:paV s6 p j=ps.getD j []:=by
   obtain ⟨e,B,e1,e2,e3,-⟩:=hp
   have hlen:(ps.getD j []).length=10:=by rw [e1];exact (zfz e2 e3).1
   apply List.ext_getElem (by rw [hlen];simp [paV])
   intro k g1 g2
   have hk:k<10:=by simpa [paV] using g1
   simp only [paV,List.getElem_map,List.getElem_range]
   rw [h3 j k (by rw [hT.len];exact hj) hk,List.getD_eq_getElem?_getD,List.getElem?_eq_getElem g2];rfl
  rw [e];exact hp
end
theorem zNS {s:S} {l x:V} {g:Int} (hok:okTab s l) (hfit:∀ i,i<lenV l→allLe (fromV s l i) g∧allLe (toV s l i) g) (g1:1≤g) (g2:g≤10) (h8:lenV x≤8) (hw:jq (word s x)) (hin:allLe (word s x) g):Hyp (fromV s l) (toV s l) (lenV l) g (word s x):=by
 obtain ⟨n1,n2,hr⟩:=hok
 refine ⟨n1,n2,fun i hi e=>?_,fun i hi=>(hr i hi).2.1,fun i hi=>(hr i hi).2.2.1,fun i hi z hz=>⟨((hr i hi).2.2.2.1 z hz).1,(hfit i hi).1 z hz⟩,fun i hi z hz=>⟨((hr i hi).2.2.2.2.1 z hz).1,(hfit i hi).2 z hz⟩,fun i j hi hj e=>zGx ⟨n1,n2,hr⟩ hi hj e,g1,g2,by rw [zq];exact h8,fun z hz=>⟨(hw.2 z hz).1,hin z hz⟩⟩
 have:=(hr i hi).1
 rw [e] at this
 simp at this
theorem RuA.congr {s:S} {p:V} {F T F' T':Nat→List Int} {N:Nat} (h:RuA s p F T N) (hF:∀ i,i<N→F i=F' i) (hT:∀ i,i<N→T i=T' i):RuA s p F' T' N :=
 ⟨h.sl,h.len,fun i hi=>by rw [←hF i hi,←hT i hi];exact h.part i hi⟩
theorem up5 {F T:Nat→List Int} {N:Nat} {sg:Int} {W:List Int} {f:Nat} (h:Holds Tryz.prog K f) (e2:K2 f=K f) (e3:K3 f=K2 f) (e4:K4 F T N sg W f=K3 f) (e5:K5 F T N sg W f=K4 F T N sg W f):Holds Tryz.prog (K5 F T N sg W) f:=hold5 (hold4 (hold3 (hold2 h e2) e3) e4) e5
open Classical in
theorem zEZ (hEx:Holds Tryz.prog K 8) {s:S} {l x:V} {g:Int} (hl:Tab s l) (hx:Ints s x) (hf:Fx x):∃ s',CallX Tryz.prog 4 [l,iv .i64 g,x] s (.bool true) s':=by
 suffices h:∃ s',(fnC pc0 4).run (Rk Tryz.prog (K5 (fromV s l) (toV s l) (lenV l) g (word s x)) noL) [l,iv .i64 g,x] s=.ret (.bool true) s' from ⟨_,fn_k5 h.choose_spec⟩
 have hLa:Kept (K5 (fromV s l) (toV s l) (lenV l) g (word s x)) (Rk Tryz.prog (K5 (fromV s l) (toV s l) (lenV l) g (word s x)) noL) 7:=zn (up5 zL0 rfl rfl rfl rfl)
 have hRV:Kept (K5 (fromV s l) (toV s l) (lenV l) g (word s x)) (Rk Tryz.prog (K5 (fromV s l) (toV s l) (lenV l) g (word s x)) noL) 9:=zn (up5 zKm rfl rfl rfl rfl)
 have hFi:Kept (K5 (fromV s l) (toV s l) (lenV l) g (word s x)) (Rk Tryz.prog (K5 (fromV s l) (toV s l) (lenV l) g (word s x)) noL) 10:=zn zMH
 have hRW:Kept (K5 (fromV s l) (toV s l) (lenV l) g (word s x)) (Rk Tryz.prog (K5 (fromV s l) (toV s l) (lenV l) g (word s x)) noL) 14:=zn (up5 zxf rfl rfl rfl rfl)
 have hWi:Kept (K5 (fromV s l) (toV s l) (lenV l) g (word s x)) (Rk Tryz.prog (K5 (fromV s l) (toV s l) (lenV l) g (word s x)) noL) 15:=zn zA8
 have hE:Kept (K5 (fromV s l) (toV s l) (lenV l) g (word s x)) (Rk Tryz.prog (K5 (fromV s l) (toV s l) (lenV l) g (word s x)) noL) 8:=zn (up5 hEx rfl rfl rfl rfl)
 have hTR:Kept (K5 (fromV s l) (toV s l) (lenV l) g (word s x)) (Rk Tryz.prog (K5 (fromV s l) (toV s l) (lenV l) g (word s x)) noL) 16:=zn zK4
 have hAp:Kept (K5 (fromV s l) (toV s l) (lenV l) g (word s x)) (Rk Tryz.prog (K5 (fromV s l) (toV s l) (lenV l) g (word s x)) noL) 17:=zn (up5 zLj rfl rfl rfl rfl)
 have hCm:Kept (K5 (fromV s l) (toV s l) (lenV l) g (word s x)) (Rk Tryz.prog (K5 (fromV s l) (toV s l) (lenV l) g (word s x)) noL) 20:=zn (up5 ztT rfl rfl rfl rfl)
 have hV:Hyp (fromV s l) (toV s l) (lenV l) g (word s x)→Kept (K5 (fromV s l) (toV s l) (lenV l) g (word s x)) (Rk Tryz.prog (K5 (fromV s l) (toV s l) (lenV l) g (word s x)) noL) 18:=fun h=>zn (hold5 (zKT h) rfl)
 have hA:Hyp (fromV s l) (toV s l) (lenV l) g (word s x)→Kept (K5 (fromV s l) (toV s l) (lenV l) g (word s x)) (Rk Tryz.prog (K5 (fromV s l) (toV s l) (lenV l) g (word s x)) noL) 19:=fun h=>zn (hold5 (zIh h) rfl)
 generalize Rk Tryz.prog _ _=r at hLa hRV hFi hRW hWi hE hTR hAp hCm hV hA ⊢
 have hex:∀ s:S,r.call 8 [] s=.ret (.bool true) s:=fun s=>by
  obtain ⟨w,s',h1,h2⟩:=hE [] s rfl
  obtain ⟨rfl,rfl⟩:=h2
  exact h1
 obtain ⟨w,s1,c1,p1⟩:=hLa [l] s ⟨l,rfl,hl⟩
 obtain ⟨rfl,rfl⟩:=p1 l rfl
 obtain ⟨w,s2,c2,p2⟩:=hRV [l] s1 ⟨l,rfl,hl⟩
 obtain ⟨E2,rfl⟩:=p2 l rfl
 by_cases k1:30<lenV l
 ·rw [decide_eq_true k1] at c1
  exact ⟨s1,by simp -implicitDefEqProofs [qn,gp_sp,c1,hex,zd]⟩
 rw [decide_eq_false k1] at c1
 by_cases k2':¬okTab s1 l
 ·rw [decide_eq_false k2'] at c2
  exact ⟨s2,by simp -implicitDefEqProofs [qn,gp_sp,c1,c2,hex,zd]⟩
 have k2:=Classical.not_not.1 k2'
 rw [decide_eq_true k2] at c2
 by_cases k3:g<1
 ·exact ⟨s2,by simp -implicitDefEqProofs [qn,gp_sp,c1,c2,ze,k3,hex,zd]⟩
 by_cases k4:10<g
 ·exact ⟨s2,by simp -implicitDefEqProofs [qn,gp_sp,c1,c2,ze,zw,k3,k4,hex,zd]⟩
 obtain ⟨w,s3,c3,p3⟩:=hFi [l,iv .i64 g] s2 ⟨l,g,rfl,(hl.ext E2).1⟩
 obtain ⟨rfl,rfl⟩:=p3 _ _ rfl
 have hfe:(∀ i,i<lenV l→allLe (fromV s3 l i) g∧allLe (toV s3 l i) g)↔∀ i,i<lenV l→allLe (fromV s1 l i) g∧allLe (toV s1 l i) g:=by
  obtain ⟨-,-,h3,h4⟩:=hl.ext E2
  exact ⟨fun h i hi=>by rw [←h3 i hi,←h4 i hi];exact h i hi,fun h i hi=>by rw [h3 i hi,h4 i hi];exact h i hi⟩
 by_cases k5':¬∀ i,i<lenV l→allLe (fromV s3 l i) g∧allLe (toV s3 l i) g
 ·rw [decide_eq_false k5'] at c3
  exact ⟨s3,by simp -implicitDefEqProofs [qn,gp_sp,c1,c2,c3,ze,zw,k3,k4,hex,zd]⟩
 have k5:=Classical.not_not.1 k5'
 rw [decide_eq_true k5] at c3
 have hx3:=(hx.ext E2).1
 by_cases k6:8<lenV x
 ·have k6':(8:Int)<lenV x:=by omega
  exact ⟨s3,by simp -implicitDefEqProofs [qn,gp_sp,c1,c2,c3,ze,zw,k3,k4,hx3.1.len,k6',hex,zd]⟩
 have k6':¬(8:Int)<lenV x:=by omega
 obtain ⟨w,s4,c4,p4⟩:=hRW [x] s3 ⟨x,rfl,hx3⟩
 obtain ⟨rfl,rfl⟩:=p4 x rfl
 rw [hx.word E2] at c4
 by_cases k7':¬jq (word s1 x)
 ·rw [decide_eq_false k7'] at c4
  exact ⟨s4,by simp -implicitDefEqProofs [qn,gp_sp,c1,c2,c3,c4,ze,zw,k3,k4,hx3.1.len,k6',hex,zd]⟩
 have k7:=Classical.not_not.1 k7'
 rw [decide_eq_true k7] at c4
 obtain ⟨w,s5,c5,p5⟩:=hWi [x,iv .i64 g] s4 ⟨x,g,rfl,hx3⟩
 obtain ⟨rfl,rfl⟩:=p5 _ _ rfl
 rw [hx.word E2] at c5
 by_cases k8':¬allLe (word s1 x) g
 ·rw [decide_eq_false k8'] at c5
  exact ⟨s5,by simp -implicitDefEqProofs [qn,gp_sp,c1,c2,c3,c4,c5,ze,zw,k3,k4,hx3.1.len,k6',hex,zd]⟩
 have k8:=Classical.not_not.1 k8'
 rw [decide_eq_true k8] at c5
 have hH:=zNS k2 (hfe.1 k5) (by omega) (by omega) (by omega) k7 k8
 have hV':=hV hH
 have hA':=hA hH
 obtain ⟨-,-,f3,f4⟩:=hl.ext E2
 obtain ⟨w,s6,c6,p6⟩:=hTR [l] s5 ⟨l,rfl,(hl.ext E2).1,(zAj hl E2).2 k2⟩
 obtain ⟨E6,p,rfl,hp⟩:=p6 l rfl
 have hp:=hp.congr f3 f4
 obtain ⟨B1,B2,-⟩:=zbe hp.sl
 have N1:∀ k:Go.Ev.K→Nat→S→Go.Ev.A,Go.Ev.newRow s6 37 [iv .i64 0,.nil 1,iv .i64 0,iv .i64 0,iv .i64 0,.str [],iv .i64 0,iv .i64 0,.nil 1,iv .i64 0,iv .i64 0,iv .i64 0,.str [],iv .i64 0,iv .i64 0,.nil 1] false k=k s6.nx 16 (addB s6 (.row ruZ 16 37 false 0 0 0)):=fun k=>zr _ _ _ _ _
 have P1:=yN s6 37 16 ruZ (ruC p) rfl rfl
 obtain ⟨s7,hs7⟩:∃ s7,s7=addB s6 (.row (ruC p) 16 37 false 0 0 0):=⟨_,rfl⟩
 simp only [←hs7] at P1 B1 B2
 have E7:=E2.trans (E6.trans B2)
 obtain ⟨w,s8,c8,p8⟩:=hAp [l,x] s7 ⟨l,x,rfl,(hl.ext E7).1,(hx.ext E7).1,hf⟩
 obtain ⟨E8,y,e,rfl,hy,hap⟩:=p8 l x rfl
 have E78:=E7.trans E8
 have B8:=B1.ext E8
 obtain ⟨-,-,h3,h4⟩:=hl.ext E7
 rw [hx.word E7] at hap
 rcases hap with ⟨hno,-⟩ | ⟨-,z,hz,⟨hz1,rfl,hyz⟩ | ⟨hz1,rfl,hyz⟩⟩
 ·exact absurd ⟨(wI h3 h4).2 k2,k7⟩ hno
 ·obtain ⟨w,s9,c9,p9⟩:=hV' [.ls 0 (ruC p)] s8 ⟨p,rfl,hp.ext (B2.trans E8)⟩
  obtain ⟨E9,rfl⟩:=p9
  have E79:=E78.trans E9
  obtain ⟨w,s10,c10,p10⟩:=hA' [.ls 0 (ruC p),iv .i64 g,x,iv .i64 5] s9 ⟨p,x,5,rfl,hp.ext (B2.trans (E8.trans E9)),(hx.ext E79).1,hf,hx.word E79,by omega,by omega⟩
  obtain ⟨E10,lo,yo,d,rfl,ho,hyo,hwo,hd⟩:=p10
  have hres:=zM4 hH d 0 (Nat.zero_le _) hd
  rw [List.drop_zero] at hres
  have hzz:=zMl k2 hres (zAC h3 h4 hz)
  obtain ⟨w,s11,c11,p11⟩:=hCm [yo,y] s10 ⟨yo,y,rfl,hyo,(hy.ext (E9.trans E10)).1⟩
  obtain ⟨rfl,n,rfl,hn⟩:=p11 _ _ rfl
  have hn0:n=0:=hn.2 (by rw [hwo,hzz,hy.word (E9.trans E10),hyz])
  subst hn0
  obtain ⟨qo,o1,o2,o3,o4⟩:=ho
  have o4':=o4 s11 (Ext.refl _)
  have B9:=B8.ext E9
  refine ⟨s11,?_⟩
  simp -implicitDefEqProofs [qn,gp_sp,c1,c2,c3,c4,c5,ze,zw,k3,k4,hx3.1.len,k6',c6,N1,P1,c8,yZ,qD,B8.fA,c9,B9.fA,c10,o2,o3,o4',c11,hex,zd]
 ·refine ⟨s8,?_⟩
  simp -implicitDefEqProofs [qn,gp_sp,c1,c2,c3,c4,c5,ze,zw,k3,k4,hx3.1.len,k6',c6,N1,P1,c8,yZ,qD,hex,zd]
def ArgI (s:S) (v:V):Prop:=Ints s v∧Fx v
def ArgN (_:S) (v:V):Prop:=∃ g:Int,v=iv .i64 g
theorem zMG (hEx:Holds Tryz.prog K 8) {s:S} {l v x:V} (hl:Tab s l) (hg:ArgN s v) (hx:ArgI s x):∃ s',CallX Tryz.prog 4 [l,v,x] s (.bool true) s':=by
 obtain ⟨g,rfl⟩:=hg
 exact zEZ hEx hl hx.1 hx.2
end Go.Proofs.YtlklljjppambpaaGreatDoor.oev
