/- The contracts of the functions that the statements reach, for all arguments. No statement of the seat stands here. Conditions: the arguments are as their types say. By an AI agent. -/
import Derived.Test.YthdlmdoppfigoaaGreatDoorOvW
namespace Go.Proofs.YthdlmdoppfigoaaGreatDoor.oev
open Go.Ev Go.RowKit NatB
set_option maxRecDepth 100000
theorem zgw (b:Nat):∀ (l:List Nat) (n:Nat),∃ z:Int,(∀ c:V→Go.Ev.A,zjH b l n c=c (iv .i64 z))∧-1≤z∧z<(n:Int)+l.length
 | [],n=>⟨-1,fun _=>rfl,by decide,by simp;omega⟩
 | x::l,n=>by
  obtain ⟨z,I,J,Q⟩:=zgw b l (n+1)
  cases e:Nat.beq x b with
  | true =>
   refine ⟨(n:Int),fun c=>?_,by omega,by simp only [kay];omega⟩
   show (Bool.rec (motive:=fun _=>Go.Ev.A) (fN (Nat.succ n) fun n=>zjH b l n c) (c (.nat .i64 n)) (Nat.beq x b):Go.Ev.A)=_
   rw [e];rfl
  | false =>
   refine ⟨z,fun c=>?_,J,by simp only [kay];omega⟩
   show (Bool.rec (motive:=fun _=>Go.Ev.A) (fN (Nat.succ n) fun n=>zjH b l n c) (c (.nat .i64 n)) (Nat.beq x b):Go.Ev.A)=_
   rw [e]
   show fN (Nat.succ n) _=_
   rw [zE]
   exact I c
theorem qn (x y z:V) (c:V→Go.Ev.A):zz 2 (.ls 1 [x,y,z]) c=c z:=rfl
theorem zig (x:Nat) (c:V→Go.Ev.A):qt (.str [x]) c=c (iv .i64 1):=rfl
noncomputable def KW:Nat→Ct
 | 291=>ctI (X:=List Nat) (fun l a _=>a=[.str l,.str [45]]) (fun l s v s'=>s'=s∧∃ b,v=.bool b∧(b=true→0<l.length))
 | 256=>ctI (X:=List Nat) (fun l a _=>a=[.str l,.str [45]]) (fun l s v s'=>s'=s∧∃ d b,v=.ls 1 [.str d,.bool b]∧d.length≤l.length)
 | 203=>ctI (X:=List Nat) (fun l a _=>a=[.str l,.str [45]]) (fun l s v s'=>s'=s∧∃ d b,v=.ls 1 [.str d,.bool b]∧d.length≤l.length)
 | 312=>ctI (X:=List Nat) (fun l a _=>a=[.str l,iv .u8 47]) (fun l s v s'=>s'=s∧∃ z:Int,v=iv .i64 z∧-1≤z∧z<l.length)
 | 292=>ctI (X:=List Nat) (fun l a _=>a=[.str l,.str [47]]) (fun l s v s'=>s'=s∧∃ z:Int,v=iv .i64 z∧-1≤z∧z<l.length)
 | 257=>ctI (X:=List Nat) (fun l a _=>a=[.str l,.str [47]]∧l.length≤9223372036854775807) (fun _ s v s'=>s'=s∧∃ x y b,v=.ls 1 [.str x,.str y,.bool b])
 | 204=>ctI (X:=List Nat) (fun l a _=>a=[.str l,.str [47]]∧l.length≤9223372036854775807) (fun _ s v s'=>s'=s∧∃ x y b,v=.ls 1 [.str x,.str y,.bool b])
 | f=>KM f
theorem zuZ:zo Tryz.prog KW 291:=by
 refine zr (L:=noL) zt (K:=KW) (X:=List Nat) rfl ?_
 rintro l a s rfl
 generalize Rk Tryz.prog _ _=r
 have o:=yE l
 by_cases h:1≤l.length
 ·have u:((1:Int)≤(l.length:Int))=True:=eq_true (by omega)
  have sl:∀ c:V→Go.Ev.A,qa (.str l) none (some (iv .i64 1)) c=c (.str (l.take 1)):=fun c=>by
   exact jb l (a:=0) (b:=1) (.inl ⟨rfl,rfl⟩) (.inr ⟨.i64,rfl⟩) (Nat.zero_le _) h c
  refine ⟨_,s,?_,rfl,decide (l.take 1=[45]),rfl,fun _=>h⟩
  simp -implicitDefEqProofs [zlR,o,u,sl,yj,zig]
 ·have u:((1:Int)≤(l.length:Int))=False:=eq_false (by omega)
  refine ⟨_,s,?_,rfl,false,rfl,fun h=>by cases h⟩
  simp -implicitDefEqProofs [zlR,o,u,zig]
theorem zsl:zo Tryz.prog KW 256:=by
 have B:=zk (zh (L:=noL) zuZ) (X:=List Nat) rfl
 refine zr (L:=noL) zt (K:=KW) (X:=List Nat) rfl ?_
 rintro l a s rfl
 generalize Rk Tryz.prog _ _=r at B ⊢
 obtain ⟨_,s,T,rfl,b,rfl,hb⟩:=B l _ s rfl
 cases b with
 | false =>
  refine ⟨_,s,?_,rfl,l,false,rfl,kad _⟩
  simp -implicitDefEqProofs [zj8,T]
 | true =>
  have sl:∀ c:V→Go.Ev.A,qa (.str l) (some (iv .i64 1)) none c=c (.str ((l.drop 1).take (l.length - 1))):=fun c=>jb l (a:=1) (b:=l.length) (.inr ⟨.i64,rfl⟩) (.inl ⟨rfl,rfl⟩) (hb rfl) (kad _) c
  refine ⟨.ls 1 [.str ((l.drop 1).take (l.length - 1)),.bool true],s,?_,rfl,_,true,rfl,by rw [List.length_take,List.length_drop];omega⟩
  simp -implicitDefEqProofs [zj8,T,sl,zig]
theorem zv4:zo Tryz.prog KW 203:=by
 have B:=zk (zh (L:=noL) zsl) (X:=List Nat) rfl
 refine zr (L:=noL) zt (K:=KW) (X:=List Nat) rfl ?_
 rintro l a s rfl
 generalize Rk Tryz.prog _ _=r at B ⊢
 obtain ⟨_,s,T,rfl,d,b,rfl,u⟩:=B l _ s rfl
 refine ⟨_,s,?_,rfl,d,b,rfl,u⟩
 simp -implicitDefEqProofs [zv7,T]
theorem zsE:zo Tryz.prog KW 312:=by
 refine zr (L:=noL) zt (K:=KW) (X:=List Nat) rfl ?_
 rintro l a s rfl
 generalize Rk Tryz.prog _ _=r
 obtain ⟨z,I,J,Q⟩:=zgw 47 l 0
 have ex:∀ c:V→S→Go.Ev.A,zlq 1 [.str l,iv .u8 47] s c=c (iv .i64 z) s:=fun c=>I _
 refine ⟨_,s,?_,rfl,z,rfl,J,by simpa using Q⟩
 simp -implicitDefEqProofs [zsg,ex]
theorem zvC:zo Tryz.prog KW 292:=by
 have B:=zk (zh (L:=noL) zsE) (X:=List Nat) rfl
 refine zr (L:=noL) zt (K:=KW) (X:=List Nat) rfl ?_
 rintro l a s rfl
 generalize Rk Tryz.prog _ _=r at B ⊢
 obtain ⟨_,s,T,rfl,z,rfl,hz⟩:=B l _ s rfl
 have U:∀ c:V→Go.Ev.A,zD (.str [47]) (iv .i64 0) c=c (iv .u8 47):=fun c=>rfl
 by_cases h:[47]=l
 ·subst h
  refine ⟨_,s,?_,rfl,0,rfl,by decide⟩
  simp -implicitDefEqProofs [zmJ,yj,zig]
 ·refine ⟨_,s,?_,rfl,z,rfl,hz⟩
  simp -implicitDefEqProofs [zmJ,T,U,yj,zig,h]
theorem zzU:zo Tryz.prog KW 257:=by
 have B:=zk (zh (L:=noL) zvC) (X:=List Nat) rfl
 refine zr (L:=noL) zt (K:=KW) (X:=List Nat) rfl ?_
 rintro l a s ⟨rfl,f⟩
 generalize Rk Tryz.prog _ _=r at B ⊢
 obtain ⟨_,s,T,rfl,z,rfl,I,J⟩:=B l _ s rfl
 by_cases h:0≤z
 ·obtain ⟨n,rfl⟩:=Int.eq_ofNat_of_zero_le h
  have e:IntKind.i64.wrap ((n:Int)+1)=((n+1:Nat):Int):=w64
  have s1:∀ c:V→Go.Ev.A,qa (.str l) none (some (iv .i64 (n:Int))) c=c (.str ((l.drop 0).take (n - 0))):=fun c=>jb l (a:=0) (b:=n) (.inl ⟨rfl,rfl⟩) (.inr ⟨.i64,rfl⟩) (Nat.zero_le _) (by omega) c
  have W:∀ c:V→Go.Ev.A,qa (.str l) (some (iv .i64 ((n:Int)+1))) none c=c (.str ((l.drop (n+1)).take (l.length - (n+1)))):=fun c=>jb l (a:=n+1) (b:=l.length) (.inr ⟨.i64,rfl⟩) (.inl ⟨rfl,rfl⟩) (by omega) (kad _) c
  refine ⟨.ls 1 [.str ((l.drop 0).take (n - 0)),.str ((l.drop (n+1)).take (l.length - (n+1))),.bool true],s,?_,rfl,_,_,true,rfl⟩
  simp -implicitDefEqProofs [ztu,T,e,s1,W,zig]
 ·have u:(0≤z)=False:=eq_false h
  refine ⟨_,s,?_,rfl,l,[],false,rfl⟩
  simp -implicitDefEqProofs [ztu,T,u]
theorem zz2:zo Tryz.prog KW 204:=by
 have B:=zk (zh (L:=noL) zzU) (X:=List Nat) rfl
 refine zr (L:=noL) zt (K:=KW) (X:=List Nat) rfl ?_
 rintro l a s h
 generalize Rk Tryz.prog _ _=r at B ⊢
 obtain ⟨_,s,T,rfl,x,y,b,rfl⟩:=B l _ s h
 obtain ⟨rfl,-⟩:=h
 refine ⟨_,s,?_,rfl,x,y,b,rfl⟩
 simp -implicitDefEqProofs [zAS,T,qn]
variable {a:Go.Ev.K} {el n:Nat}
theorem zkG {s:S} {l:List V} (Q:Tr.get B.none a s.h=.row l n el false 0 0 0) (o:l.length=n) (M:∀ y∈l,y≠.bad) (k:V→S→Go.Ev.A):zd true n (.ptr a 0 0) s k=k (.ls 0 l) s:=by
 have:Pt s (.ptr a 0 0) n (fun j=>l.getD j .bad):=⟨a,0,0,l,n,el,false,0,0,0,rfl,Q,o,ql.2 (.inr ⟨rfl,by omega⟩),fun j _=>by rw [kas]⟩
 rw [this.loadN n (kad _) (fun j G=>by rw [kaa,kab (by omega)];exact M _ (kai _))]
 congr 2
 subst o
 apply kaL
 intro j
 by_cases G:j<l.length
 ·rw [kaD,List.getElem?_range G,kab G]
  simp [kab G]
 ·rw [kal (by simp;omega),kal (by omega)]
theorem ztS:∀ (l W:List V),W.length=l.length→upd l 0 W=l
 | [],[],_=>rfl
 | [],_::_,h=>by cases h
 | x::l,[],h=>by cases h
 | x::l,y::W,h=>congrArg (x::·) (ztS l W (by simpa using h))
theorem zlL {s:S} {W l:List V} (Q:Tr.get B.none a s.h=.row W n el false 0 0 0) (h0:W.length=n) (f:l.length=n) (k:V→S→Go.Ev.A):zA n (.ptr a 0 0) (.ls 0 l) s k=k Go.Ev.undef (yI s a (.row l n el false 0 0 0)):=by
 show zg n (.ls 0 l) (fun l=>qc _ a 0 0 n l (fun s=>k Go.Ev.undef s))=_
 rw [yg n l f]
 unfold qc
 rw [qb,Q]
 show (Bool.rec (motive:=fun _=>Go.Ev.A) _ _ (zgI n false 0 0 (Nat.add 0 n) 0 0):Go.Ev.A)=_
 rw [show zgI n false 0 0 (Nat.add 0 n) 0 0=true by
  show (@Bool.rec (fun _=>Bool) _ _ (Nat.ble (Nat.add 0 n) n):Bool)=_
  rw [show Nat.ble (Nat.add 0 n) n=true from kah (by show 0+n≤n;omega)];rfl]
 show zJ l 0 W _=_
 rw [zeU,ym,ztS l W (by omega)]
 rfl
theorem zpf (n:Nat) (F:Bool) (a b:List Nat) (c:V→Go.Ev.A):zw ⟨n,[]⟩ F .neq (.str a) (.str b) c=c (.bool (!decide (a=b))):=by
 show fB (zbj (eqS a b)) c=_
 rw [znj,za1]
 cases decide (a=b)<;>rfl
theorem zgC (b:Bool) (c:List V→Go.Ev.A):zg 1 (.bool b) c=c [.bool b]:=rfl
theorem zdG (l:List Nat) (c:List V→Go.Ev.A):zg 1 (.str l) c=c [.str l]:=rfl
theorem zwd (a b c x y z:V):upd [c] 2 (upd [b] 1 (upd [a] 0 [x,y,z]))=[a,b,c]:=rfl
noncomputable def KX:Nat→Ct
 | 148=>ctI (X:=List Nat) (fun l a s=>a=[.str l]∧yd s∧l.length≤9223372036854775807) (fun _ s v s'=>Ext s s'∧∃ n x y ok,v=.ls 1 [.ls 0 [.bool n,.str x,.str y],.bool ok]∧(ok=true→Nz 400 x∧Nz 400 y))
 | 126=>ctI (X:=List Nat) (fun l a s=>a=[.str l]∧yd s∧l.length≤9223372036854775807) (fun _ s v s'=>Ext s s'∧∃ b,v=.bool b)
 | 150=>ctI (X:=List Nat) (fun l a _=>a=[.str l,iv .i64 0]) (fun l s v s'=>s'=s∧v=.str l)
 | 149=>ctI (X:=Bool × List Nat × Bool × List Nat) (fun ⟨p,x,q,y⟩ a s=>a=[.bool p,.str x,.bool q,.str y]∧Nz 900 x∧Nz 900 y∧yd s) (fun _ s v s'=>Ext s s'∧∃ n t,v=.ls 1 [.bool n,.str t])
 | 127=>ctI (X:=List Nat × List Nat) (fun ⟨x,y⟩ a s=>a=[.str x,.str y]∧yd s∧x.length≤9223372036854775807∧y.length≤9223372036854775807) (fun _ s v s'=>Ext s s'∧∃ z,v=iv .i64 z)
 | f=>KW f
theorem ztp:zo Tryz.prog KX 148:=by
 have ad:=zk (zh (L:=noL) (show zo Tryz.prog KX 203 from zv4)) (X:=List Nat) rfl
 have ae:=zk (zh (L:=noL) (show zo Tryz.prog KX 204 from zz2)) (X:=List Nat) rfl
 have p:=zk (zh (L:=noL) (show zo Tryz.prog KX 205 from zhj)) (X:=List Nat) rfl
 have O:=zk (zh (L:=noL) (show zo Tryz.prog KX 206 from zB2)) (X:=X2) rfl
 refine zr (L:=noL) zt (K:=KX) (X:=List Nat) rfl ?_
 rintro l a s ⟨rfl,F,f⟩
 generalize Rk Tryz.prog _ _=r at ad ae p O ⊢
 have t:∀ (c:Go.Ev.K→Nat→S→Go.Ev.A),Go.Ev.newRow s 203 [.bool false,.str [],.str []] false c=c s.nx 3 (zY s (.row [.bool false,.str [],.str []] 3 203 false 0 0 0)):=fun c=>zU s 203 _ false c
 have j:=yc s (.row [.bool false,.str [],.str []] 3 203 false 0 0 0)
 have R:=qQ s (.row [.bool false,.str [],.str []] 3 203 false 0 0 0)
 have C:s.nx.toNat<(zY s (.row [.bool false,.str [],.str []] 3 203 false 0 0 0)).nx.toNat:=by show _<s.nx.succ.toNat;rw [K.toNat_succ];omega
 generalize zY s (.row [.bool false,.str [],.str []] 3 203 false 0 0 0)=s1 at *
 obtain ⟨_,s1,T,rfl,d,neg,rfl,u⟩:=ad l _ s1 rfl
 obtain ⟨_,s1,D,rfl,num,aa,fr,rfl⟩:=ae d _ s1 ⟨rfl,by omega⟩
 have st:∀ (s':S) (n:Bool) (x y:List Nat),Ext s1 s'→(∀ k:V→S→Go.Ev.A,zA 3 (.ptr s.nx 0 0) (.ls 0 [.bool n,.str x,.str y]) s' k=k Go.Ev.undef (yI s' s.nx (.row [.bool n,.str x,.str y] 3 203 false 0 0 0))) ∧
   (∀ k:V→S→Go.Ev.A,zd true 3 (.ptr s.nx 0 0) (yI s' s.nx (.row [.bool n,.str x,.str y] 3 203 false 0 0 0)) k=k (.ls 0 [.bool n,.str x,.str y]) (yI s' s.nx (.row [.bool n,.str x,.str y] 3 203 false 0 0 0)))∧Ext s (yI s' s.nx (.row [.bool n,.str x,.str y] 3 203 false 0 0 0)):=fun s' n x y e =>
  ⟨zlL ((e.get _ C).trans R) rfl rfl,zkG (by rw [z9,if_pos rfl]) rfl (by simp),ju (j.trans e) (kad _)⟩
 obtain ⟨w,P,z⟩:=st s1 false [] [] (Ext.refl _)
 have main:∀ den,(fr=true→den=aa)→(fr=false→den=[49])→∃ v s',(fnC zf 148).run r [.str l] s=.ret v s'∧Ext s s'∧∃ n x y ok,v=.ls 1 [.ls 0 [.bool n,.str x,.str y],.bool ok]∧(ok=true→Nz 400 x∧Nz 400 y):=by
  intro den H B
  obtain ⟨_,s1,N,rfl,rfl⟩:=p num _ s1 rfl
  obtain ⟨_,s1,i,rfl,rfl⟩:=p den _ s1 rfl
  have ln:=yE num
  have ld:=yE den
  by_cases o:zaq num=true
  ·by_cases u:zaq den=true
   ·by_cases I:num.length≤400
    ·by_cases J:den.length≤400
     ·rw [o] at N
      rw [u] at i
      have E:((400:Int)<(num.length:Int))=False:=eq_false (by omega)
      have Y:((400:Int)<(den.length:Int))=False:=eq_false (by omega)
      by_cases U:(neg=true∧num=[48])∨(fr=true∧(den=[48]∨den=[49]))
      ·refine ⟨.ls 1 [.ls 0 [.bool false,.str [],.str []],.bool false],_,?_,z,false,[],[],false,rfl,fun h=>by cases h⟩
       by_cases m:neg=true∧num=[48]
       ·obtain ⟨rfl,rfl⟩:=m
        cases fr with
        | true=>obtain rfl:=H rfl;simp -implicitDefEqProofs [yW,t,T,D,N,qn,w,P,i,ln,ld,Y,yj]
        | false=>obtain rfl:=B rfl;simp -implicitDefEqProofs [yW,t,T,D,N,qn,w,P,i,ln,ld,yj]
       ·rcases U with U | ⟨rfl,U⟩
        ·exact absurd U m
        obtain rfl:=H rfl
        rcases U with rfl | rfl<;>cases neg<;>simp at m<;>simp -implicitDefEqProofs [yW,t,T,D,N,qn,w,P,i,ln,ld,E,yj,m]
      ·obtain ⟨_,W,Z,q,g,rfl⟩:=O (num,den) _ s1 ⟨rfl,⟨o,by omega⟩,⟨u,by omega⟩,F.ext j⟩
       by_cases Q:g=[49]
       ·obtain ⟨G,M,b⟩:=st W neg num den q
        refine ⟨.ls 1 [.ls 0 [.bool neg,.str num,.str den],.bool true],_,?_,b,neg,num,den,true,rfl,fun _=>⟨⟨o,I⟩,⟨u,J⟩⟩⟩
        cases fr with
        | true=>obtain rfl:=H rfl;cases neg<;>simp at U<;>simp -implicitDefEqProofs [yW,t,T,D,N,i,Z,qn,G,M,ln,ld,E,Y,yj,zpf,Q,zgC,zdG,zwd,U]
        | false=>obtain rfl:=B rfl;cases neg<;>simp at U<;>simp -implicitDefEqProofs [yW,t,T,D,N,i,Z,qn,G,M,ln,E,yj,zpf,Q,zgC,zdG,zwd,zig,U]
       ·obtain ⟨G,M,b⟩:=st W false [] [] q
        refine ⟨.ls 1 [.ls 0 [.bool false,.str [],.str []],.bool false],_,?_,b,false,[],[],false,rfl,fun h=>by cases h⟩
        cases fr with
        | true=>obtain rfl:=H rfl;cases neg<;>simp at U<;>simp -implicitDefEqProofs [yW,t,T,D,N,i,Z,qn,G,M,ln,ld,E,Y,yj,zpf,Q,U]
        | false=>obtain rfl:=B rfl;cases neg<;>simp at U<;>simp -implicitDefEqProofs [yW,t,T,D,N,i,Z,qn,G,M,ln,E,yj,zpf,Q,zig,U]
     ·refine ⟨.ls 1 [.ls 0 [.bool false,.str [],.str []],.bool false],_,?_,z,false,[],[],false,rfl,fun h=>by cases h⟩
      rw [o] at N
      rw [u] at i
      have E:((400:Int)<(num.length:Int))=False:=eq_false (by omega)
      have Y:((400:Int)<(den.length:Int))=True:=eq_true (by omega)
      cases fr with
      | true=>obtain rfl:=H rfl;simp -implicitDefEqProofs [yW,t,T,D,N,qn,w,P,i,ln,ld,E,Y]
      | false=>obtain rfl:=B rfl;exact absurd (by decide) J
    ·refine ⟨.ls 1 [.ls 0 [.bool false,.str [],.str []],.bool false],_,?_,z,false,[],[],false,rfl,fun h=>by cases h⟩
     rw [o] at N
     rw [u] at i
     have E:((400:Int)<(num.length:Int))=True:=eq_true (by omega)
     cases fr with
     | true=>obtain rfl:=H rfl;simp -implicitDefEqProofs [yW,t,T,D,N,qn,w,P,i,ln,ld,E]
     | false=>obtain rfl:=B rfl;simp -implicitDefEqProofs [yW,t,T,D,N,qn,w,P,i,ln,ld,E]
   ·refine ⟨.ls 1 [.ls 0 [.bool false,.str [],.str []],.bool false],_,?_,z,false,[],[],false,rfl,fun h=>by cases h⟩
    rw [o] at N
    rw [Bool.eq_false_iff.2 u] at i
    cases fr with
    | true=>obtain rfl:=H rfl;simp -implicitDefEqProofs [yW,t,T,D,N,qn,w,P,i]
    | false=>obtain rfl:=B rfl;simp -implicitDefEqProofs [yW,t,T,D,N,qn,w,P,i]
  ·refine ⟨.ls 1 [.ls 0 [.bool false,.str [],.str []],.bool false],_,?_,z,false,[],[],false,rfl,fun h=>by cases h⟩
   rw [Bool.eq_false_iff.2 o] at N
   cases fr with
   | true=>obtain rfl:=H rfl;simp -implicitDefEqProofs [yW,t,T,D,N,qn,w,P]
   | false=>obtain rfl:=B rfl;simp -implicitDefEqProofs [yW,t,T,D,N,qn,w,P]
 cases fr with
 | true=>exact main aa (fun _=>rfl) (fun h=>by cases h)
 | false=>exact main [49] (fun h=>by cases h) (fun _=>rfl)
theorem zAp:zo Tryz.prog KX 126:=by
 have B:=zk (zh (L:=noL) ztp) (X:=List Nat) rfl
 refine zr (L:=noL) zt (K:=KX) (X:=List Nat) rfl ?_
 rintro l a s h
 generalize Rk Tryz.prog _ _=r at B ⊢
 obtain ⟨_,s1,T,E,n,x,y,ok,rfl,-⟩:=B l _ s h
 obtain ⟨rfl,-⟩:=h
 refine ⟨_,s1,?_,E,ok,rfl⟩
 simp -implicitDefEqProofs [zA0,T]
theorem zsT:zo Tryz.prog KX 150:=by
 refine zr (L:=noL) zt (K:=KX) (X:=List Nat) rfl ?_
 rintro l a s rfl
 generalize Rk Tryz.prog _ _=r
 refine ⟨_,s,?_,rfl,rfl⟩
 simp -implicitDefEqProofs [zri]
theorem zCj (F:Bool) (p q:Bool) (c:V→Go.Ev.A):zw ⟨0,[]⟩ F .eql (.bool p) (.bool q) c=c (.bool (p == q)):=by cases p<;>cases q<;>rfl
theorem zre:zo Tryz.prog KX 149:=by
 have f:=zk (zh (L:=noL) (show zo Tryz.prog KX 207 from zAv)) (X:=X2) rfl
 have Q:=zk (zh (L:=noL) (show zo Tryz.prog KX 208 from zyw)) (X:=X2) rfl
 have n:=zk (zh (L:=noL) (show zo Tryz.prog KX 209 from zzF)) (X:=X2) rfl
 have P:=zk (zh (L:=noL) zsT) (X:=List Nat) rfl
 refine zr (L:=noL) zt (K:=KX) (X:=Bool × List Nat × Bool × List Nat) rfl ?_
 rintro ⟨p,x,q,y⟩ a s ⟨rfl,M,Y,F⟩
 generalize Rk Tryz.prog _ _=r at f Q n P ⊢
 by_cases h:(p == q)=true
 ·obtain ⟨_,s1,T,j,t,rfl,-⟩:=f (x,y) _ s ⟨rfl,M,Y,F⟩
  obtain ⟨_,s1,D,rfl,rfl⟩:=P t _ s1 rfl
  refine ⟨_,s1,?_,j,p,t,rfl⟩
  simp -implicitDefEqProofs [zfI,zCj,h,T,D]
 ·obtain ⟨_,s1,T,j,rfl⟩:=Q (x,y) _ s ⟨rfl,M,Y⟩
  by_cases O:zS x<zS y
  ·have U:cmpZ (zS x:Nat) (zS y:Nat)=-1:=by unfold cmpZ;rw [if_pos (by omega)]
   rw [U] at T
   obtain ⟨_,W,D,w,t,rfl,-⟩:=n (y,x) _ s1 ⟨rfl,Y,M,Nat.le_of_lt O,F.ext j⟩
   obtain ⟨_,W,N,rfl,rfl⟩:=P t _ W rfl
   refine ⟨_,W,?_,j.trans w,q,t,rfl⟩
   simp -implicitDefEqProofs [zfI,zCj,h,T,D,N]
  ·have U:(cmpZ (zS x:Nat) (zS y:Nat)<0)=False:=eq_false (by unfold cmpZ;rw [if_neg (by omega)];split<;>omega)
   obtain ⟨_,W,D,w,t,rfl,-⟩:=n (x,y) _ s1 ⟨rfl,M,Y,by show zS y≤zS x;omega,F.ext j⟩
   obtain ⟨_,W,N,rfl,rfl⟩:=P t _ W rfl
   refine ⟨_,W,?_,j.trans w,p,t,rfl⟩
   simp -implicitDefEqProofs [zfI,zCj,h,T,U,D,N]
theorem zwA (b:Bool):yT (.bool b) (.bool b)=true:=by cases b<;>rfl
theorem zyo (l:List Nat):yT (.str l) (.str l)=true:=by
 show eqS l l=true
 rw [znj];simp
theorem zuS:zo Tryz.prog KX 127:=by
 have hH:=zk (zh (L:=noL) ztp) (X:=List Nat) rfl
 have hU:=zk (zh (L:=noL) (show zo Tryz.prog KX 151 from zAe)) (X:=X2) rfl
 have hM:=zk (zh (L:=noL) zsT) (X:=List Nat) rfl
 have hO:=zk (zh (L:=noL) zre) (X:=Bool × List Nat × Bool × List Nat) rfl
 refine zr (L:=noL) zt (K:=KX) (X:=X2) rfl ?_
 rintro ⟨x,y⟩ a s ⟨rfl,F,lx,ly⟩
 generalize Rk Tryz.prog _ _=r at hH hU hM hO ⊢
 have t:∀ s (c:Go.Ev.K→Nat→S→Go.Ev.A),Go.Ev.newRow s 203 [.bool false,.str [],.str []] false c=c s.nx 3 (zY s (.row [.bool false,.str [],.str []] 3 203 false 0 0 0)):=fun s c=>zU s 203 _ false c
 have sn:=fun (s:S) (n:Bool) (x y:List Nat) k=>zeW s 203 3 [.bool false,.str [],.str []] [.bool n,.str x,.str y] rfl rfl k
 obtain ⟨_,s1,T,w,n1,a1,Z,o1,rfl,I⟩:=hH x _ s ⟨rfl,F,lx⟩
 have q:=yc s1 (.row [.bool n1,.str a1,.str Z] 3 203 false 0 0 0)
 have R:=qQ s1 (.row [.bool n1,.str a1,.str Z] 3 203 false 0 0 0)
 have u:s1.nx.toNat<(zY s1 (.row [.bool n1,.str a1,.str Z] 3 203 false 0 0 0)).nx.toNat:=by show _<s1.nx.succ.toNat;rw [K.toNat_succ];omega
 have aa:=sn s1 n1 a1 Z
 generalize zY s1 (.row [.bool n1,.str a1,.str Z] 3 203 false 0 0 0)=W at *
 obtain ⟨_,m,D,b,n2,a2,p,o2,rfl,J⟩:=hH y _ W ⟨rfl,F.ext (w.trans q),ly⟩
 have E4:=yc m (.row [.bool n2,.str a2,.str p] 3 203 false 0 0 0)
 have f:=qQ m (.row [.bool n2,.str a2,.str p] 3 203 false 0 0 0)
 have o:m.nx.toNat<(zY m (.row [.bool n2,.str a2,.str p] 3 203 false 0 0 0)).nx.toNat:=by show _<m.nx.succ.toNat;rw [K.toNat_succ];omega
 have ad:=sn m n2 a2 p
 generalize zY m (.row [.bool n2,.str a2,.str p] 3 203 false 0 0 0)=P at *
 have E:Ext s P:=((w.trans q).trans b).trans E4
 by_cases U:o1=true∧o2=true
 ·obtain ⟨rfl,rfl⟩:=U
  obtain ⟨g,H⟩:=I rfl
  obtain ⟨O,C⟩:=J rfl
  have L:∀ s',Ext P s'→(∀ k:V→S→Go.Ev.A,zd false 1 (.ptr s1.nx 0 0) s' k=k (.bool n1) s')∧(∀ k:V→S→Go.Ev.A,zd false 1 (.ptr s1.nx 0 1) s' k=k (.str a1) s')∧(∀ k:V→S→Go.Ev.A,zd false 1 (.ptr s1.nx 0 2) s' k=k (.str Z) s') ∧
    (∀ k:V→S→Go.Ev.A,zd false 1 (.ptr m.nx 0 0) s' k=k (.bool n2) s')∧(∀ k:V→S→Go.Ev.A,zd false 1 (.ptr m.nx 0 1) s' k=k (.str a2) s')∧∀ k:V→S→Go.Ev.A,zd false 1 (.ptr m.nx 0 2) s' k=k (.str p) s':=fun s' e=>by
   have i:=(((b.trans E4).trans e).get _ u).trans R
   have r2:=(e.get _ o).trans f
   exact ⟨jy i 0 rfl (by decide) (fun h=>by cases h),jy i 1 rfl (by decide) (fun h=>by cases h),jy i 2 rfl (by decide) (fun h=>by cases h),jy r2 0 rfl (by decide) (fun h=>by cases h),jy r2 1 rfl (by decide) (fun h=>by cases h),jy r2 2 rfl (by decide) (fun h=>by cases h)⟩
  obtain ⟨_,N,z,E5,t1,rfl,z1⟩:=hU (a1,p) _ P ⟨rfl,g,C,F.ext E⟩
  obtain ⟨_,N,e6,rfl,rfl⟩:=hM t1 _ N rfl
  obtain ⟨_,s6,e7,E6,t2,rfl,z2⟩:=hU (a2,Z) _ N ⟨rfl,O,H,F.ext (E.trans E5)⟩
  obtain ⟨_,s6,e8,rfl,rfl⟩:=hM t2 _ s6 rfl
  obtain ⟨_,s7,e9,E7,n3,t3,rfl⟩:=hO (n1,t1,!n2,t2) _ s6 ⟨rfl,z1,z2,F.ext ((E.trans E5).trans E6)⟩
  obtain ⟨p1,p2,p3,p4,p5,p6⟩:=L P (Ext.refl _)
  obtain ⟨j,d,B,Y,q5,q6⟩:=L N E5
  obtain ⟨Q,G,M,w4,w5,w6⟩:=L s6 (E5.trans E6)
  by_cases h0:t3=[48]
  ·refine ⟨iv .i64 0,s7,?_,((E.trans E5).trans E6).trans E7,0,rfl⟩
   simp -implicitDefEqProofs [zeH,T,D,t,aa,ad,p1,p2,p3,p4,p5,p6,j,B,Y,q5,Q,w4,z,e6,e7,e8,e9,zwA,zyo,yj,h0]
  ·refine ⟨iv .i64 (if n3=true then -1 else 1),s7,?_,((E.trans E5).trans E6).trans E7,_,rfl⟩
   cases n3<;>simp -implicitDefEqProofs [zeH,T,D,t,aa,ad,p1,p2,p3,p4,p5,p6,j,B,Y,q5,Q,w4,z,e6,e7,e8,e9,zwA,zyo,yj,h0]
   rfl
 ·refine ⟨iv .i64 0,P,?_,E,0,rfl⟩
  cases o1 with
  | false=>simp -implicitDefEqProofs [zeH,T,D,t,aa,ad]
  | true=>cases o2 with
   | false=>simp -implicitDefEqProofs [zeH,T,D,t,aa,ad]
   | true=>exact absurd ⟨rfl,rfl⟩ U
def Nk (k:IntKind) (s:S) (v:V) (l:List Nat):Prop:=Sl s 1 v∧qm v=l.length∧∀ j,j<l.length→qg s v j=iv k (l.getD j 0:Nat)
def ks (k:IntKind) (l:List Nat):List (List V):=l.map fun n:Nat=>[iv k (n:Int)]
theorem zfu (k:IntKind) (l:List Nat):(ks k l).length=l.length:=kaH _
theorem zo9 {k:IntKind} {b s:S} {v:V} {l:List Nat} (h:Gz el 1 b s v (ks k l)):Nk k s v l:=by
 obtain ⟨I,J,Q⟩:=h.sl
 refine ⟨I,J.trans (zfu k l),fun j G=>?_⟩
 have:=Q j 0 (by rw [zfu];exact G) (by omega)
 rw [kaz,Nat.add_zero] at this
 rw [this]
 simp [ks,kab G]
section
variable {k:IntKind} {s s':S} {v:V} {l:List Nat}
theorem zje (h:Nk k s v l) (c:V→Go.Ev.A):zm v c=c (iv .i64 (l.length:Int)):=by rw [←h.2.1];exact h.1.len c
theorem zjT (h:Nk k s v l) (e:Ext s s'):Nk k s' v l:=by
 obtain ⟨I,J⟩:=h.1.ext e
 exact ⟨I,h.2.1,fun j G=>by rw [J];exact h.2.2 j G⟩
theorem zsY (h:Nk k s v l) (i:Nat):(∃ p,i<l.length∧(∀ j c,ze 1 v (iv j (i:Int)) c=c p)∧∀ c:V→S→Go.Ev.A,zd false 1 p s c=c (iv k (l.getD i 0:Nat)) s)∨¬i<l.length∧l.getD i 0=0:=by
 by_cases hi:i<l.length
 ·obtain ⟨p,Z,F⟩:=h.1.idx (i:=(i:Int)) (by omega) (by have:=h.2.1;omega)
  refine .inl ⟨p,hi,Z,fun c=>?_⟩
  have e:qg s v ((i:Int).toNat*1+0)=iv k (l.getD i 0:Nat):=by
   simp only [Int.toNat_natCast,kaz,Nat.add_zero]
   exact h.2.2 i hi
  rw [F.load1 Nat.zero_lt_one (by rw [e];exact qG _ _),e]
 ·exact .inr ⟨hi,by rw [kaa,kal (by omega)];rfl⟩
end
noncomputable def KA:Nat→Ct
 | 301=>ctI (X:=List Nat) (fun l a _=>a=[.str l]) (fun l s v s'=>s'=s∧v=.bool (zaq l))
 | 348=>ctI (X:=V × List Nat × Nat) (fun ⟨v,l,i⟩ a s=>a=[v,iv .i64 (i:Int)]∧Nk .i64 s v l) (fun ⟨_,l,i⟩ s v s'=>s'=s∧v=iv .i64 (l.getD i 0:Nat))
 | 324=>ctI (X:=List Nat) (fun l a _=>a=[.str l]∧zf4 l∧l.length≤2000) (fun l s v s'=>Ext s s'∧Nk .i64 s' v (dg l))
 | 323=>ctI (X:=V × V × List Nat × List Nat) (fun ⟨x,y,xs,ys⟩ a s=>a=[x,y]∧(Nk .i64 s x xs∧Nk .i64 s y ys)∧(DgL xs∧DgL ys)∧ys.length≤xs.length∧xs.length≤2000∧val 10 ys≤val 10 xs) (fun ⟨_,_,xs,ys⟩ s v s'=>Ext s s'∧∃ L,Nk .i64 s' v L∧DgL L∧L.length=xs.length∧val 10 L=val 10 xs - val 10 ys)
 | 322=>ctI (X:=V × List Nat) (fun ⟨v,L⟩ a s=>a=[v]∧Nk .i64 s v L∧DgL L∧L.length≤2000) (fun ⟨_,L⟩ s v s'=>Ext s s'∧∃ t,v=.str t∧jw t∧zS t=val 10 L∧t.length≤L.length+1)
 | 321=>ctI (X:=X2) (fun ⟨x,y⟩ a _=>a=[.str x,.str y]∧(jw x∧jw y)∧x.length≤2000∧y.length≤2000) (fun ⟨x,y⟩ s v s'=>s'=s∧v=iv .i64 (cmpZ (zS x:Nat) (zS y:Nat)))
 | 302=>ctI (X:=X2) (fun ⟨x,y⟩ a _=>a=[.str x,.str y]∧zaq x=true∧zaq y=true∧0<zS y) (fun ⟨_,y⟩ s v s'=>Ext s s'∧∃ q t,v=.ls 1 [.str q,.str t,iv .i64 0]∧jw t∧zS t<zS y)
 | 265=>ctI (X:=X2) (fun ⟨x,y⟩ a _=>a=[.str x,.str y]∧zaq x=true∧zaq y=true) (fun _ s v s'=>Ext s s'∧∃ t,v=.ls 1 [.str t,iv .i64 0])
 | f=>KX f
structure RvX where
 l:List Nat
 s0:S
def RvX.pre (c:RvX) (tm:T) (s:S):Prop:=s=c.s0∧c.l.length≤1000∧gp 0 tm=.str c.l∧gp 240 tm=.bad∧∃ i:Nat,i≤c.l.length∧gp 3 tm=iv .i64 (i:Int)∧zf4 (c.l.take i)
def RvX.post (c:RvX) (a:Go.Ev.A):Prop:=(zf4 c.l∧∃ N,a=.ext 0 N c.s0∧gp 240 N=.bad)∨(¬zf4 c.l∧∃ N,a=.ret N c.s0∧gp 240 N=.bad∧gp 2 N=.bool false)
abbrev LRv:Nat→Lt:=fun _=>ltI RvX.pre RvX.post
theorem zDd:∀ (c:RvX) tm s,c.pre tm s→c.post (zaP.run (Rk Tryz.prog KA LRv) tm s):=by
 refine zL (L:=LRv) zt zrQ rfl (fun tm _=>1000 - (toI (gp 3 tm)).toNat) (fun x a h=>by rcases h with ⟨-,_,h,_⟩ | ⟨-,_,h,_⟩<;>(rw [h];exact fun h=>h)) ?_
 rintro ⟨l,s0⟩ tm s ⟨C,f,h0,N,i,hi,Q,u⟩ J
 show RvX.post _ (zaP.run _ tm _)
 generalize Rk Tryz.prog _ _=r at J ⊢
 simp only at C f h0 hi u
 subst C
 have o:=yE l
 by_cases O:i<l.length
 ·have U:∀ (k:IntKind) (c:V→Go.Ev.A),zD (.str l) (iv k (i:Int)) c=c (iv .u8 (l.getD i 0:Nat)):=fun k c=>we l k O c
  have M:l.getD i 0∈l:=by rw [kaa,kab O];exact kai _
  have H:l.take (i+1)=l.take i++[l.getD i 0]:=by rw [List.take_add_one,kab O,kaa,kab O];rfl
  generalize l.getD i 0=x at *
  have n:IntKind.i64.wrap ((i:Int)+1)=((i+1:Nat):Int):=w64
  by_cases c1:48≤x∧x≤57
  ·have c2:((x:Int)<48)=False:=eq_false (by omega)
   have c3:((57:Int)<(x:Int))=False:=eq_false (by omega)
   simp -implicitDefEqProofs [zc4,wh,h0,Q,o,O,U,c2,c3,n]
   refine J ⟨l,s⟩ _ s (by rw [Q];simp [zp];omega) ⟨rfl,f,by simp [h0],by simp [N],i+1,O,by simp,?_⟩
   show zf4 (l.take (i+1))
   rw [H]
   intro b hb
   rcases kaq.1 hb with hb | hb
   ·exact u b hb
   ·rw [kak.1 hb];exact c1
  ·have bad:¬zf4 l:=fun h=>c1 (h x M)
   by_cases c2:x<48
   ·have K:((x:Int)<48)=True:=eq_true (by omega)
    simp -implicitDefEqProofs [zc4,wh,h0,Q,o,O,U,K]
    exact .inr ⟨bad,_,rfl,by simp [N],by simp⟩
   ·have K:((x:Int)<48)=False:=eq_false (by omega)
    have T:((57:Int)<(x:Int))=True:=eq_true (by omega)
    simp -implicitDefEqProofs [zc4,wh,h0,Q,o,O,U,K,T]
    exact .inr ⟨bad,_,rfl,by simp [N],by simp⟩
 ·obtain rfl:i=l.length:=by omega
  rw [List.take_length] at u
  simp -implicitDefEqProofs [zc4,wh,h0,Q,o]
  exact .inl ⟨u,_,rfl,by simp [N]⟩
theorem zj5:zo Tryz.prog KA 301:=by
 have e:=zDd
 refine zr (L:=LRv) zt (K:=KA) (X:=List Nat) rfl ?_
 rintro l a s rfl
 generalize Rk Tryz.prog _ _=r at e ⊢
 refine ⟨_,s,?_,rfl,rfl⟩
 have O:=yE l
 by_cases h0:l=[]
 ·subst h0
  simp -implicitDefEqProofs [wh,O]
  rfl
 ·have Z:0<l.length:=Nat.pos_of_ne_zero fun h=>h0 (kap.1 h)
  have C:((l.length:Int)<1)=False:=eq_false (by omega)
  by_cases I:1000<l.length
  ·have E:((1000:Int)<(l.length:Int))=True:=eq_true (by omega)
   rw [show zaq l=false from decide_eq_false fun h=>by omega]
   simp -implicitDefEqProofs [wh,C,O,E]
  ·have E:((1000:Int)<(l.length:Int))=False:=eq_false (by omega)
   have U:∀ (k:IntKind) (c:V→Go.Ev.A),zD (.str l) (iv k 0) c=c (iv .u8 (l.getD 0 0:Nat)):=fun k c=>we l k Z c
   have fin:(1<l.length→l.getD 0 0≠48)→∀ N,(gp 0 N=.str l∧gp 240 N=.bad∧gp 3 N=iv .i64 0)→zF (zx (fun N s=>zae (gp 240 N) (A.fin (gp 2 N) s)) (za (fun N s=>A.ret (sp 2 (V.bool true) N) s) (zn 0 (zaP.run r N s))))=.ret (.bool (zaq l)) s:=by
    intro hz N ⟨p,G,y⟩
    generalize f:zaP.run r N s=o
    rcases f▸e ⟨l,s⟩ N s ⟨rfl,by show l.length≤1000;omega,p,G,0,Nat.zero_le _,y,fun b hb=>by cases hb⟩ with ⟨u,F,rfl,H⟩ | ⟨u,F,rfl,H,R⟩
    ·rw [show zaq l=true from decide_eq_true ⟨h0,by omega,hz,u⟩]
     simp -implicitDefEqProofs [H]
    ·rw [show zaq l=false from decide_eq_false fun h=>u h.2.2.2]
     simp -implicitDefEqProofs [H,R]
   obtain ⟨x,M⟩:∃ x,l.getD 0 0=x:=⟨_,rfl⟩
   rw [M] at U fin
   by_cases Q:x=48
   ·subst Q
    by_cases J:1<l.length
    ·have Y:((1:Int)<(l.length:Int))=True:=eq_true (by omega)
     rw [show zaq l=false from decide_eq_false fun h=>h.2.2.1 J M]
     simp -implicitDefEqProofs [wh,C,O,E,Y,U]
    ·have Y:((1:Int)<(l.length:Int))=False:=eq_false (by omega)
     simp -implicitDefEqProofs [wh,C,O,E,Y,U]
     apply fin (fun h=>absurd h J)
     simp
   ·have B:((x:Int)=48)=False:=eq_false (by omega)
    simp -implicitDefEqProofs [wh,C,O,E,U,B]
    apply fin (fun _=>Q)
    simp
theorem zzo:zo Tryz.prog KA 348:=by
 refine zr (L:=noL) zt (K:=KA) (X:=V × List Nat × Nat) rfl ?_
 rintro ⟨v,l,i⟩ a s ⟨rfl,h⟩
 generalize Rk Tryz.prog _ _=r
 have f:∀ c:V→Go.Ev.A,zm v c=c (iv .i64 (l.length:Int)):=fun c=>zje h c
 refine ⟨_,s,?_,rfl,rfl⟩
 rcases zsY h i with ⟨p,hi,Z,F⟩ | ⟨hi,h0⟩
 ·generalize l.getD i 0=x at *
  simp -implicitDefEqProofs [ztz,f,hi,Z,F]
 ·rw [h0]
  simp -implicitDefEqProofs [ztz,f,hi]
theorem up1 (z y:V):upd [z] 0 (rep [y] 1)=[z]:=rfl
variable {L:List Nat} {el:Nat}
theorem zs9 {k:IntKind} {b s:S} {v:V} (hz:Gz el 1 b s v (ks k L)) (w:Ext b s) (x:Nat) (u:L.length≤1000000):∃ Z s',(∀ c:Go.Ev.K→Nat→S→Go.Ev.A,Go.Ev.newRow s el [iv k (x:Int)] false c=c s.nx 1 (zY s (.row [iv k (x:Int)] 1 el false 0 0 0))) ∧
  (∀ c:V→S→Go.Ev.A,zN el 1 v (.sl s.nx 0 0 1 1) (zY s (.row [iv k (x:Int)] 1 el false 0 0 0)) c=c Z s')∧Gz el 1 b s' Z (ks k (L++[x]))∧Ext b s':=by
 obtain ⟨Z,s',ap,T,f,F,-⟩:=hz.app1 w.nx Nat.one_pos (x:=[iv k (x:Int)]) (fun y Y=>by rw [kak.1 Y];exact qG _ _) rfl (by rw [zfu];omega)
 exact ⟨Z,s',fun c=>zU s el _ false c,ap,by simpa [ks] using T,za2 w f (D:=fun c=>qi v=some c) F fun c X=>(hz.blk X).1⟩
structure D2X where
 l:List Nat
 b:S
def D2X.pre (c:D2X) (tm:T) (s:S):Prop:=(zf4 c.l∧c.l.length≤2000)∧Ext c.b s∧(gp 0 tm=.str c.l∧gp 240 tm=.bad)∧∃ k:Nat,k≤c.l.length∧gp 4 tm=iv .i64 ((k:Int) - 1)∧Gz 3 1 c.b s (gp 3 tm) (ks .i64 (dg (c.l.drop k)))
def D2X.post (c:D2X) (a:Go.Ev.A):Prop:=∃ N s,a=.ext 0 N s∧Ext c.b s∧gp 240 N=.bad∧Gz 3 1 c.b s (gp 3 N) (ks .i64 (dg c.l))
abbrev LDg:Nat→Lt:=fun _=>ltI D2X.pre D2X.post
theorem zCw:∀ (c:D2X) tm s,c.pre tm s→c.post (zer.run (Rk Tryz.prog KA LDg) tm s):=by
 refine zL (L:=LDg) zt zv0 rfl (fun tm _=>(toI (gp 4 tm)+1).toNat) (fun x a ⟨_,_,h,_⟩=>by rw [h];exact fun h=>h) ?_
 rintro ⟨l,b⟩ tm s ⟨⟨u,f⟩,Y,⟨h0,N⟩,k,F,K,hz⟩ J
 show D2X.post _ (zer.run _ tm _)
 generalize Rk Tryz.prog _ _=r at J ⊢
 simp only at u f Y h0 F hz
 cases k with
 | zero =>
  simp -implicitDefEqProofs [zml,K]
  exact ⟨_,s,rfl,Y,by simp [N],by simpa using hz⟩
 | succ j =>
  rw [show ((j+1:Nat):Int) - 1=(j:Int) by omega] at K
  have U:∀ (k:IntKind) (c:V→Go.Ev.A),zD (.str l) (iv k (j:Int)) c=c (iv .u8 (l.getD j 0:Nat)):=fun k c=>we l k F c
  have M:48≤l.getD j 0∧l.getD j 0≤57:=by
   rw [kaa,kab F];exact u _ (kai _)
  have B:=zAV F
  generalize l.getD j 0=x at *
  obtain ⟨d,rfl⟩:∃ d,x=d+48:=⟨x - 48,by omega⟩
  rw [Nat.add_sub_cancel] at B
  obtain ⟨Z,s',t,ap,T,W⟩:=zs9 hz Y d (by rw [zhg,List.length_drop];omega)
  rw [←B] at T
  have e:IntKind.u8.wrap (d:Int)=(d:Int):=by unfold IntKind.wrap;simp [IntKind.bits,IntKind.signed];omega
  have D:IntKind.i64.wrap ((j:Int) - 1)=(j:Int) - 1:=z8 (by omega) (by omega)
  have cv:∀ c:V→Go.Ev.A,zW .i64 (iv .u8 (d:Int)) c=c (iv .i64 (d:Int)):=fun c=>yM .i64 .u8 (by show d<9223372036854775808;omega) c
  simp -implicitDefEqProofs [zml,h0,K,U,e,D,cv,t,up1,ap]
  refine J ⟨l,b⟩ _ s' (by rw [K];simp [zp]) ⟨⟨u,f⟩,W,⟨by simp [h0],by simp [N]⟩,j,by show j≤l.length;omega,by simp,by simpa using T⟩
theorem zxP:zo Tryz.prog KA 324:=by
 have e:=zCw
 refine zr (L:=LDg) zt (K:=KA) (X:=List Nat) rfl ?_
 rintro l a s ⟨rfl,u,f⟩
 generalize Rk Tryz.prog _ _=r at e ⊢
 have o:=yE l
 have P:IntKind.i64.wrap ((l.length:Int) - 1)=(l.length:Int) - 1:=z8 (by omega) (by omega)
 generalize g:(fnC zf 324).run r _ _=D
 simp -implicitDefEqProofs [zjN,o,P] at g
 generalize B:zer.run r _ s=U at g
 obtain ⟨N,s1,rfl,Y,G,hz⟩:=B▸e ⟨l,s⟩ _ s ⟨⟨u,f⟩,Ext.refl s,⟨by simp,by simp⟩,l.length,kad _,by simp,.inl ⟨by simp,by simp [dg,ks]⟩⟩
 simp -implicitDefEqProofs [G] at g
 exact ⟨_,s1,g.symm,Y,zo9 hz⟩
structure LeX where
 x:V
 y:V
 xs:List Nat
 ys:List Nat
 b:S
def LeX.base (c:LeX):Prop:=(Nk .i64 c.b c.x c.xs∧Nk .i64 c.b c.y c.ys)∧(DgL c.xs∧DgL c.ys)∧c.xs.length≤2000
def LeX.pre (c:LeX) (tm:T) (s:S):Prop:=c.base∧Ext c.b s∧(gp 0 tm=c.x∧gp 1 tm=c.y∧gp 240 tm=.bad)∧∃ (i e:Nat) (L:List Nat),i≤c.xs.length∧gp 7 tm=iv .i64 (i:Int)∧gp 6 tm=iv .i64 (e:Int)∧e≤1∧L.length=i∧DgL L∧Gz 3 1 c.b s (gp 5 tm) (ks .i64 L)∧val 10 L+val 10 (c.ys.take i)=val 10 (c.xs.take i)+e*10 ^ i
def LeX.post (c:LeX) (a:Go.Ev.A):Prop:=∃ N s e L,a=.ext 0 N s∧Ext c.b s∧gp 240 N=.bad∧L.length=c.xs.length∧DgL L∧Gz 3 1 c.b s (gp 5 N) (ks .i64 L)∧val 10 L+val 10 (c.ys.take c.xs.length)=val 10 c.xs+e*10 ^ c.xs.length
abbrev LLe:Nat→Lt:=fun _=>ltI LeX.pre LeX.post
theorem zrr (h:DgL L) (i:Nat):L.getD i 0<10:=by
 rw [kaa]
 by_cases hi:i<L.length
 ·rw [kab hi];exact h _ (kai hi)
 ·rw [kal (by omega)];decide
theorem zCe:∀ (c:LeX) tm s,c.pre tm s→c.post (za4.run (Rk Tryz.prog KA LLe) tm s):=by
 have aa:=zk (zh (L:=LLe) zzo) (X:=V × List Nat × Nat) rfl
 refine zL (L:=LLe) zt zpt rfl (fun tm _=>2000 - (toI (gp 7 tm)).toNat) (fun x a ⟨_,_,_,_,h,_⟩=>by rw [h];exact fun h=>h) ?_
 rintro ⟨x,y,xs,ys,b⟩ tm s ⟨R,w,⟨h0,I,N⟩,i,e,L,hi,g,W,B,ad,P,hz,E⟩ J
 show LeX.post _ (za4.run _ tm _)
 generalize Rk Tryz.prog _ _=r at J aa ⊢
 obtain ⟨⟨M,Y⟩,⟨dx,dy⟩,lx⟩:=id R
 simp only at M Y dx dy lx w h0 I hi hz E
 have ae:∀ c:V→Go.Ev.A,zm x c=c (iv .i64 (xs.length:Int)):=fun c=>zje (zjT M w) c
 by_cases O:i<xs.length
 ·obtain ⟨_,s,T,rfl,rfl⟩:=aa (x,xs,i) _ s ⟨rfl,zjT M w⟩
  obtain ⟨_,s,D,rfl,rfl⟩:=aa (y,ys,i) _ s ⟨rfl,zjT Y w⟩
  have C:=zrr dx i
  have U:=zrr dy i
  have tx:=val_take_succ 10 xs i
  have ty:=val_take_succ 10 ys i
  generalize xs.getD i 0=p at *
  generalize ys.getD i 0=q at *
  have w1:IntKind.i64.wrap ((p:Int) - (q:Int))=(p:Int) - (q:Int):=z8 (by omega) (by omega)
  have w2:IntKind.i64.wrap ((p:Int) - (q:Int) - (e:Int))=(p:Int) - (q:Int) - (e:Int):=z8 (by omega) (by omega)
  have f:IntKind.i64.wrap ((i:Int)+1)=((i+1:Nat):Int):=w64
  have key:∀ (d e':Nat),d<10→e'≤1→d+q+e=p+10*e'→∃ Z s',(∀ c:Go.Ev.K→Nat→S→Go.Ev.A,Go.Ev.newRow s 3 [iv .i64 (d:Int)] false c=c s.nx 1 (zY s (.row [iv .i64 (d:Int)] 1 3 false 0 0 0))) ∧
    (∀ c:V→S→Go.Ev.A,zN 3 1 (gp 5 tm) (.sl s.nx 0 0 1 1) (zY s (.row [iv .i64 (d:Int)] 1 3 false 0 0 0)) c=c Z s')∧∀ F,(gp 0 F=x∧gp 1 F=y∧gp 240 F=.bad∧gp 7 F=iv .i64 ((i+1:Nat):Int)∧gp 6 F=iv .i64 (e':Int)∧gp 5 F=Z)→LeX.post ⟨x,y,xs,ys,b⟩ (r.code zgd zdg F s'):=by
   intro d e' u ah ai
   obtain ⟨Z,s',t,ap,j,aj⟩:=zs9 hz w d (by omega)
   refine ⟨Z,s',t,ap,fun F ⟨k0,n,G,k7,k6,k5⟩=>J ⟨x,y,xs,ys,b⟩ F s' (by rw [k7,g,zp,zp];omega) ⟨R,aj,⟨k0,n,G⟩,i+1,e',L++[d],O,k7,k6,ah,by rw [kae,ad];rfl,fun z hz=>?_,by rw [k5];exact j,?_⟩⟩
   ·rcases kaq.1 hz with hz | hz
    ·exact P z hz
    ·rw [kak.1 hz];exact u
   ·show val 10 (L++[d])+val 10 (ys.take (i+1))=val 10 (xs.take (i+1))+e'*10 ^ (i+1)
    rw [za0,tx,ty,ad,Nat.pow_succ]
    exact zvB E ai
  have H:((i:Int)<(xs.length:Int))=True:=eq_true (by omega)
  by_cases ak:p<q+e
  ·obtain ⟨d,u⟩:∃ d,p+10=d+q+e:=⟨p+10 - q - e,by omega⟩
   obtain ⟨Z,s',t,ap,nx⟩:=key d 1 (by omega) (kad _) (by omega)
   have o:((p:Int) - (q:Int) - (e:Int)<0)=True:=eq_true (by omega)
   have w4:IntKind.i64.wrap ((p:Int) - (q:Int) - (e:Int)+10)=(d:Int):=w64
   generalize Q:gp 5 tm=m at *
   simp -implicitDefEqProofs [zei,h0,I,W,g,Q,ae,O,T,D,w1,w2,f,w4,o,t,up1,ap]
   apply nx
   simp [h0,I,N]
  ·obtain ⟨d,u⟩:∃ d,p=d+q+e:=⟨p - q - e,by omega⟩
   obtain ⟨Z,s',t,ap,nx⟩:=key d 0 (by omega) (by omega) (by omega)
   have o:((p:Int) - (q:Int) - (e:Int)<0)=False:=eq_false (by omega)
   have w4:(p:Int) - (q:Int) - (e:Int)=(d:Int):=by omega
   rw [w4] at w2 o
   generalize Q:gp 5 tm=m at *
   simp -implicitDefEqProofs [zei,h0,I,W,g,Q,ae,O,T,D,w1,w2,f,w4,o,t,up1,ap]
   apply nx
   simp [h0,I,N]
 ·obtain rfl:i=xs.length:=by omega
  rw [List.take_length] at E
  simp -implicitDefEqProofs [zei,h0,g,ae]
  exact ⟨_,s,e,L,rfl,w,by simp [N],ad,P,by simpa using hz,E⟩
theorem zvP:zo Tryz.prog KA 323:=by
 have P:=zCe
 refine zr (L:=LLe) zt (K:=KA) (X:=V × V × List Nat × List Nat) rfl ?_
 rintro ⟨x,y,xs,ys⟩ a s ⟨rfl,I,u,f,n,E⟩
 generalize Rk Tryz.prog _ _=r at P ⊢
 generalize g:(fnC zf 323).run r _ _=D
 simp -implicitDefEqProofs [ze7] at g
 generalize B:za4.run r _ s=o at g
 obtain ⟨N,s1,e,L,rfl,Y,G,R,A,hz,U⟩:=B▸P ⟨x,y,xs,ys,s⟩ _ s ⟨⟨I,u,n⟩,Ext.refl s,⟨by simp,by simp,by simp⟩,0,0,[],Nat.zero_le _,by simp,by simp,by omega,rfl,(fun _ h=>by cases h),.inl ⟨by simp,rfl⟩,by simp [val]⟩
 simp only at Y R hz U
 simp -implicitDefEqProofs [G] at g
 rw [List.take_of_length_le f] at U
 refine ⟨_,s1,g.symm,Y,L,zo9 hz,A,R,zy9 U ?_ E⟩
 rw [←R]
 exact val_lt (by decide) A
structure TtX where
 v:V
 L:List Nat
 n:Nat
 b:S
def TtX.base (c:TtX):Prop:=Nk .i64 c.b c.v c.L∧DgL c.L∧c.L.length≤2000
def TtX.preN (c:TtX) (tm:T) (s:S):Prop:=c.base∧s=c.b∧(gp 0 tm=c.v∧gp 240 tm=.bad)∧∃ n:Nat,n≤c.L.length∧(0<c.L.length→0<n)∧gp 3 tm=iv .i64 (n:Int)∧val 10 (c.L.take n)=val 10 c.L
def TtX.postN (c:TtX) (a:Go.Ev.A):Prop:=∃ N n,a=.ext 0 N c.b∧(gp 0 N=c.v∧gp 240 N=.bad)∧n≤c.L.length∧gp 3 N=iv .i64 (n:Int)∧val 10 (c.L.take n)=val 10 c.L∧(0<c.L.length→0<n)∧(1<n→c.L.getD (n - 1) 0≠0)
def TtX.preB (c:TtX) (tm:T) (s:S):Prop:=c.base∧c.n≤c.L.length∧Ext c.b s∧(gp 0 tm=c.v∧gp 240 tm=.bad)∧∃ k:Nat,k≤c.n∧gp 5 tm=iv .i64 ((k:Int) - 1)∧Gz 5 1 c.b s (gp 4 tm) (ks .u8 (tx ((c.L.take c.n).drop k)))
def TtX.postB (c:TtX) (a:Go.Ev.A):Prop:=∃ N s,a=.ext 2 N s∧Ext c.b s∧gp 240 N=.bad∧Gz 5 1 c.b s (gp 4 N) (ks .u8 (tx (c.L.take c.n)))
noncomputable def LTt:Nat→Lt
 | 22=>ltI TtX.preN TtX.postN
 | _=>ltI TtX.preB TtX.postB
theorem zDs:∀ (c:TtX) tm s,c.preN tm s→c.postN (zcg.run (Rk Tryz.prog KA LTt) tm s):=by
 refine zL (L:=LTt) zt zrj rfl (fun tm _=>(toI (gp 3 tm)).toNat) (fun x a ⟨_,_,h,_⟩=>by rw [h];exact fun h=>h) ?_
 rintro ⟨v,L,D,b⟩ tm s ⟨y,C,⟨h0,N⟩,n,o,i,Q,E⟩ J
 show TtX.postN _ (zcg.run _ tm _)
 generalize Rk Tryz.prog _ _=r at J ⊢
 obtain ⟨M,z,q⟩:=id y
 simp only at M z q C h0 o i E
 subst C
 by_cases I:1<n
 ·obtain ⟨m,Y⟩:∃ m,m+1=n:=⟨n - 1,by omega⟩
  have A:((1:Int)<(n:Int))=True:=eq_true (by omega)
  have e:IntKind.i64.wrap ((n:Int) - 1)=(m:Int):=w64
  rcases zsY M m with ⟨p,-,Z,F⟩ | ⟨h,-⟩
  ·by_cases hz:L.getD m 0=0
   ·rw [hz] at F
    simp -implicitDefEqProofs [zfK,zaN,h0,Q,A,e,Z,F]
    refine J ⟨v,L,D,s⟩ _ s (by rw [Q];simp [zp];omega) ⟨y,rfl,⟨by simp [h0],by simp [N]⟩,m,by show m≤L.length;omega,fun _=>by omega,by simp,?_⟩
    rw [←E,←Y]
    exact (take_zero hz).symm
   ·generalize H:L.getD m 0=x at *
    simp -implicitDefEqProofs [zfK,zaN,h0,Q,A,e,Z,F,hz]
    exact ⟨_,n,rfl,⟨by simp [h0],by simp [N]⟩,o,by simp [Q],E,i,fun _=>by rw [←Y,Nat.add_sub_cancel,H];exact hz⟩
  ·omega
 ·have A:((1:Int)<(n:Int))=False:=eq_false (by omega)
  simp -implicitDefEqProofs [zfK,zaN,h0,Q,A]
  exact ⟨_,n,rfl,⟨by simp [h0],by simp [N]⟩,o,by simp [Q],E,i,fun h=>absurd h I⟩
theorem zBK:∀ (c:TtX) tm s,c.preB tm s→c.postB (zbs.run (Rk Tryz.prog KA LTt) tm s):=by
 refine zL (L:=LTt) zt zoO rfl (fun tm _=>(toI (gp 5 tm)+1).toNat) (fun x a ⟨_,_,h,_⟩=>by rw [h];exact fun h=>h) ?_
 rintro ⟨v,L,n,b⟩ tm s ⟨y,o,Y,⟨h0,N⟩,k,F,g,hz⟩ J
 show TtX.postB _ (zbs.run _ tm _)
 generalize Rk Tryz.prog _ _=r at J ⊢
 obtain ⟨M,z,q⟩:=id y
 simp only at M z q o Y h0 F hz
 cases k with
 | zero =>
  simp -implicitDefEqProofs [zia,g]
  exact ⟨_,s,rfl,Y,by simp [N],by simpa using hz⟩
 | succ j =>
  rw [show ((j+1:Nat):Int) - 1=(j:Int) by omega] at g
  have O:(L.take n).length=n:=by rw [List.length_take];omega
  have B:=zBl (L:=L.take n) (k:=j) (by omega)
  have Q:(L.take n).getD j 0=L.getD j 0:=by
   rw [kaa,List.getElem?_take,if_pos (by omega),←kaa]
  rw [Q] at B
  rcases zsY (zjT M Y) j with ⟨p,-,Z,K⟩ | ⟨h,-⟩
  ·have u:=zrr z j
   generalize L.getD j 0=d at *
   obtain ⟨C,s',t,ap,T,W⟩:=zs9 hz Y (48+d) (by rw [zkK,List.length_drop];omega)
   rw [←B] at T
   have P:IntKind.i64.wrap (48+(d:Int))=((48+d:Nat):Int):=w64
   have D:IntKind.i64.wrap ((j:Int) - 1)=(j:Int) - 1:=z8 (by omega) (by omega)
   have cv:∀ c:V→Go.Ev.A,zW .u8 (iv .i64 ((48+d:Nat):Int)) c=c (iv .u8 ((48+d:Nat):Int)):=fun c=>yM .u8 .i64 (by show 48+d<256;omega) c
   generalize 48+d=e at *
   simp -implicitDefEqProofs [zia,h0,g,Z,K,P,D,cv,t,up1,ap]
   refine J ⟨v,L,n,b⟩ _ s' (by rw [g];simp [zp]) ⟨y,o,W,⟨by simp [h0],by simp [N]⟩,j,by show j≤n;omega,by simp,by simpa using T⟩
  ·omega
theorem zvv:zo Tryz.prog KA 322:=by
 have I:=zDs
 have y:=zBK
 refine zr (L:=LTt) zt (K:=KA) (X:=V × List Nat) rfl ?_
 rintro ⟨v,L⟩ a s ⟨rfl,E,z,q⟩
 generalize Rk Tryz.prog _ _=r at I y ⊢
 have o:∀ c:V→Go.Ev.A,zm v c=c (iv .i64 (L.length:Int)):=fun c=>zje E c
 generalize g:(fnC zf 322).run r _ _=D
 simp -implicitDefEqProofs [zaN,o] at g
 generalize f:zcg.run r _ s=U at g
 obtain ⟨N,n,rfl,⟨p,G⟩,j,C,u,i,hz⟩:=f▸I ⟨v,L,0,s⟩ _ s ⟨⟨E,z,q⟩,rfl,⟨by simp,by simp⟩,L.length,kad _,fun h=>h,by simp,by rw [List.take_length]⟩
 simp only at p j u i hz
 have e:IntKind.i64.wrap ((n:Int) - 1)=(n:Int) - 1:=z8 (by omega) (by omega)
 simp -implicitDefEqProofs [C,e] at g
 generalize J:zbs.run r _ s=x at g
 obtain ⟨R,W,rfl,w,H,T⟩:=J▸y ⟨v,L,n,s⟩ _ s ⟨⟨E,z,q⟩,j,Ext.refl s,⟨by simp [p],by simp [G]⟩,n,kad _,by simp,.inl ⟨by simp,by
  show ks .u8 (tx ((L.take n).drop n))=[]
  rw [List.drop_of_length_le (by rw [List.length_take];omega)];rfl⟩⟩
 simp only at w T
 have Q:=zo9 T
 have F:∀ c:V→Go.Ev.A,zm (gp 4 R) c=c (iv .i64 ((tx (L.take n)).length:Int)):=fun c=>zje Q c
 have O:(L.take n).length=n:=by rw [List.length_take];omega
 have t:DgL (L.take n):=fun d B=>z d (List.mem_of_mem_take B)
 rw [zkK,O] at F
 cases n with
 | zero =>
  simp -implicitDefEqProofs [F,H] at g
  exact ⟨_,W,g.symm,w,[48],rfl,⟨by simp,by simp,by simp⟩,by rw [←u];rfl,by simp⟩
 | succ m =>
  have Y:∀ c:V→Go.Ev.A,jJ (gp 4 R) W c=c (.str (tx (L.take (m+1)))):=fun c =>
   zy0 Q.1 Q.2.1 (fun b hb=>by have:=zxA t b hb;omega) Q.2.2 c
  have Z:(((m+1:Nat):Int)=0)=False:=eq_false (by omega)
  generalize P:((m+1:Nat):Int)=M at *
  simp -implicitDefEqProofs [F,Y,Z,H] at g
  refine ⟨_,W,g.symm,w,_,rfl,zw0 t O fun h=>?_,by rw [zC5,u],by rw [zkK,O];show m+1≤L.length+1;omega⟩
  rw [kaa,List.getElem?_take,if_pos (by omega),←kaa]
  exact hz (by omega)
structure CmX where
 x:List Nat
 y:List Nat
 s0:S
def CmX.pre (c:CmX) (tm:T) (s:S):Prop:=s=c.s0∧(zf4 c.x∧zf4 c.y∧c.x.length=c.y.length∧c.x.length≤2000)∧(gp 0 tm=.str c.x∧gp 1 tm=.str c.y∧gp 240 tm=.bad)∧∃ i:Nat,i≤c.x.length∧gp 5 tm=iv .i64 (i:Int)∧c.x.take i=c.y.take i
def CmX.post (c:CmX) (a:Go.Ev.A):Prop:=(c.x=c.y∧∃ N,a=.ext 0 N c.s0∧gp 240 N=.bad)∨∃ N,a=.ret N c.s0∧gp 240 N=.bad∧gp 4 N=iv .i64 (cmpZ (zS c.x:Nat) (zS c.y:Nat))
abbrev LCm:Nat→Lt:=fun _=>ltI CmX.pre CmX.post
variable {a b:Nat}
theorem znz (h:a<b):cmpZ (a:Int) (b:Int)=-1:=by unfold cmpZ;rw [if_pos (by omega)]
theorem zsQ (h:b<a):cmpZ (a:Int) (b:Int)=1:=by unfold cmpZ;rw [if_neg (by omega),if_pos (by omega)]
theorem zDk:∀ (c:CmX) tm s,c.pre tm s→c.post (zaI.run (Rk Tryz.prog KA LCm) tm s):=by
 refine zL (L:=LCm) zt zss rfl (fun tm _=>2000 - (toI (gp 5 tm)).toNat) (fun x a h=>by rcases h with ⟨-,_,h,_⟩ | ⟨_,h,_⟩<;>(rw [h];exact fun h=>h)) ?_
 rintro ⟨x,y,s0⟩ tm s ⟨C,⟨F,G,f,B⟩,⟨h0,I,N⟩,i,hi,d,H⟩ J
 show CmX.post _ (zaI.run _ tm _)
 generalize Rk Tryz.prog _ _=r at J ⊢
 simp only at C F G f B h0 I hi H
 subst C
 have o:=yE x
 by_cases O:i<x.length
 ·have U:∀ (k:IntKind) (c:V→Go.Ev.A),zD (.str x) (iv k (i:Int)) c=c (iv .u8 (x.getD i 0:Nat)):=fun k c=>we x k O c
  have K:∀ (k:IntKind) (c:V→Go.Ev.A),zD (.str y) (iv k (i:Int)) c=c (iv .u8 (y.getD i 0:Nat)):=fun k c=>we y k (f▸O) c
  have f1:=zmU F G f O H
  have f2:=zmU G F f.symm (f▸O) H.symm
  have M:x.take (i+1)=x.take i++[x.getD i 0]:=by rw [List.take_add_one,kab O,kaa,kab O];rfl
  have P:y.take (i+1)=y.take i++[y.getD i 0]:=by
   have E:i<y.length:=f▸O
   rw [List.take_add_one,kab E,kaa,kab E];rfl
  generalize x.getD i 0=p at *
  generalize y.getD i 0=q at *
  have n:IntKind.i64.wrap ((i:Int)+1)=((i+1:Nat):Int):=w64
  by_cases Q:p=q
  ·subst Q
   simp -implicitDefEqProofs [zc8,h0,I,d,o,O,U,K,n]
   refine J ⟨x,y,s⟩ _ s (by rw [d];simp [zp];omega) ⟨rfl,⟨F,G,f,B⟩,⟨by simp [h0],by simp [I],by simp [N]⟩,i+1,O,by simp,by show x.take (i+1)=y.take (i+1);rw [M,P,H]⟩
  ·have D:((p:Int)=(q:Int))=False:=eq_false (by omega)
   by_cases Z:p<q
   ·have W:((p:Int)<(q:Int))=True:=eq_true (by omega)
    simp -implicitDefEqProofs [zc8,h0,I,d,o,O,U,K,D,W]
    exact .inr ⟨_,rfl,by simp [N],by rw [znz (f1 Z)];simp [zzW]⟩
   ·have W:((p:Int)<(q:Int))=False:=eq_false (by omega)
    simp -implicitDefEqProofs [zc8,h0,I,d,o,O,U,K,D,W]
    exact .inr ⟨_,rfl,by simp [N],by rw [zsQ (f2 (by omega))];simp⟩
 ·obtain rfl:i=x.length:=by omega
  rw [List.take_length,f,List.take_length] at H
  simp -implicitDefEqProofs [zc8,h0,d,o]
  exact .inl ⟨H,_,rfl,by simp [N]⟩
theorem zzg:zo Tryz.prog KA 321:=by
 have e:=zDk
 refine zr (L:=LCm) zt (K:=KA) (X:=X2) rfl ?_
 rintro ⟨x,y⟩ a s ⟨rfl,⟨J,Q⟩,n,Y⟩
 generalize Rk Tryz.prog _ _=r at e ⊢
 refine ⟨_,s,?_,rfl,rfl⟩
 have R:=yE x
 have C:=yE y
 by_cases f:x.length=y.length
 ·have E:((x.length:Int)=(y.length:Int))=True:=eq_true (by omega)
  have fin:∀ N,(gp 0 N=.str x∧gp 1 N=.str y∧gp 240 N=.bad∧gp 5 N=iv .i64 0)→zF (zx (fun N s=>zae (gp 240 N) (A.fin (gp 4 N) s)) (za (fun N s=>A.ret (sp 4 (iv .i64 0) N) s) (zn 0 (zaI.run r N s))))=.ret (iv .i64 (cmpZ (zS x:Nat) (zS y:Nat))) s:=by
   intro N ⟨p,u,G,i⟩
   generalize B:zaI.run r N s=U
   rcases B▸e ⟨x,y,s⟩ N s ⟨rfl,⟨J.2.2,Q.2.2,f,n⟩,⟨p,u,G⟩,0,Nat.zero_le _,i,rfl⟩ with ⟨I,F,rfl,H⟩ | ⟨F,rfl,H,D⟩
   ·simp only at I
    rw [I,cmpZ_self]
    simp -implicitDefEqProofs [H]
   ·simp -implicitDefEqProofs [H,D]
  simp -implicitDefEqProofs [zaV,R,C,E]
  apply fin
  simp
 ·have E:((x.length:Int)=(y.length:Int))=False:=eq_false (by omega)
  by_cases O:x.length<y.length
  ·have W:((x.length:Int)<(y.length:Int))=True:=eq_true (by omega)
   rw [znz (zaJ J Q O)]
   simp -implicitDefEqProofs [zaV,R,C,E,W,zzW]
  ·have W:((x.length:Int)<(y.length:Int))=False:=eq_false (by omega)
   rw [zsQ (zaJ Q J (by omega))]
   simp -implicitDefEqProofs [zaV,R,C,E,W]
theorem addS (a b:List Nat) (h:a.length+b.length≤1048576) (c:V→Go.Ev.A):zw ⟨9,[]⟩ false .add (.str a) (.str b) c=c (.str (a++b)):=by
 show zfX a b (fun l=>zdv l fun n=>(Bool.rec (motive:=fun _=>Go.Ev.A) eA (c (.str l)) (Nat.ble n 9223372036854775807)))=_
 rw [wr,yy,show Nat.ble (a++b).length 9223372036854775807=true from kah (by rw [kae];omega)]
theorem zBY {b s:S} {v:V} (hz:Gz 5 1 b s v (ks .u8 L)) {k:Nat} (F:k≤L.length):∃ Z,(∀ c:V→Go.Ev.A,qu 5 1 v (some (iv .i64 (k:Int))) none none s c=c Z)∧Nk .u8 s Z (L.drop k):=by
 have I:=zo9 hz
 rcases hz with ⟨rfl,h⟩ | ⟨a,W,rfl,-,J,Q,K,g⟩
 ·have P:L=[]:=by simpa [ks] using h
  subst P
  obtain rfl:k=0:=Nat.le_zero.1 F
  exact ⟨.nil 1,fun c=>rfl,I⟩
 ·rw [zfu] at Q I
  rw [zfu,kaz] at K
  rw [kaz] at Q I
  have X:(ks .u8 L).flatten.length=L.length:=by rw [wY g,zfu,kaz]
  have run:∀ c:V→Go.Ev.A,qu 5 1 (.so a L.length 0 L.length 0) (some (iv .i64 (k:Int))) none none s c=(Bool.rec (motive:=fun _=>Go.Ev.A) (c (.so a L.length k (L.length - k) k)) ((Bool.rec (motive:=fun _=>Go.Ev.A) (c (.ref 1 a)) (c (.so a L.length 0 0 0)) (Nat.beq k 0))) (Nat.beq k L.length)):=fun c=>by
   show qk s a _=_
   rw [qb,K]
   show fN (Bool.rec L.length (Nat.div (Nat.sub L.length 0) 1) (zB true (Nat.beq L.length L.length))) _=_
   rw [kaF,zE]
   show qw (some (iv .i64 (k:Int))) 0 _=_
   rw [bnd.run (x:=some (iv .i64 (k:Int))) (d:=0) (n:=k) (.inr ⟨.i64,rfl⟩)]
   show (Bool.rec (motive:=fun _=>Go.Ev.A) _ _ (zB (Nat.ble k L.length) (Nat.ble L.length (L.length / 1))):Go.Ev.A)=_
   rw [Nat.div_one,kah F,kah (kad _)]
   show (Bool.rec (motive:=fun _=>Go.Ev.A) _ _ (Nat.beq k L.length):Go.Ev.A)=_
   cases Nat.beq k L.length with
   | true=>rfl
   | false =>
    show fN (Nat.sub L.length k) _=_
    rw [zE]
    show fN (Nat.add 0 k) _=_
    rw [zE]
    show fN (Nat.add 0 (Nat.mul k 1)) _=_
    rw [zE]
    show c (.so a L.length (0+k*1) (L.length - k) (0+k))=_
    rw [kaz,kas]
  rw [zfu,kaz]
  by_cases C:k=L.length
  ·subst C
   have z:Nat.beq L.length 0=false:=by
    cases e:Nat.beq L.length 0 with
    | true=>have:=kac e;omega
    | false=>rfl
   refine ⟨.ref 1 a,fun c=>by rw [run,kaF,z],.inl (.inr ⟨a,rfl⟩),by simp [qm],fun j G=>?_⟩
   simp at G
  ·have z:Nat.beq k L.length=false:=by
    cases e:Nat.beq k L.length with
    | true=>exact absurd (kac e) C
    | false=>rfl
   refine ⟨.so a L.length k (L.length - k) k,fun c=>by rw [run,z],.inr ⟨a,L.length,k,L.length - k,.inr ⟨k,rfl⟩,J,_,_,5,true,W,0,0,K,X,ql.2 (.inl ⟨rfl,Q.2,kad _,by omega⟩)⟩,by rw [List.length_drop];rfl,fun j G=>?_⟩
   rw [List.length_drop] at G
   have:=I.2.2 (k+j) (by omega)
   rw [kaa,List.getElem?_drop,←kaa,←this]
   show (yR (Tr.get B.none a s.h)).getD (k+j) .bad=(yR (Tr.get B.none a s.h)).getD (0+(k+j)) .bad
   rw [kas]
structure DvI where
 a:List Nat
 b:List Nat
 i:Nat
 q:V
 Q:List Nat
 b0:S
def zBk (v:V):List Nat:=match v with | .str l=>l | _=>[]
def DvI.base (c:DvI):Prop:=(jw c.b∧c.b.length≤1000∧0<zS c.b)∧zf4 c.a∧c.a.length≤1000
def DvI.fr (c:DvI) (tm:T):Prop:=gp 0 tm=.str c.a∧gp 1 tm=.str c.b∧gp 240 tm=.bad
def DvI.preI (c:DvI) (tm:T) (s:S):Prop:=c.base∧(c.fr tm∧gp 7 tm=c.q∧gp 9 tm=iv .i64 (c.i:Int))∧Ext c.b0 s∧Gz 5 1 c.b0 s c.q (ks .u8 c.Q)∧∃ (r:List Nat) (d:Nat),gp 8 tm=.str r∧jw r∧r.length≤1001∧gp 10 tm=iv .u8 (d:Int)∧d<256
def DvI.postI (c:DvI) (x:Go.Ev.A):Prop:=∃ (N:T) (s:S) (r:List Nat) (d:Nat),x=.ext 2 N s∧(c.fr N∧gp 7 N=c.q∧gp 9 N=iv .i64 (c.i:Int))∧Ext c.b0 s∧Gz 5 1 c.b0 s c.q (ks .u8 c.Q)∧gp 8 N=.str r∧jw r∧zS r<zS c.b∧gp 10 N=iv .u8 (d:Int)∧d<256
def DvI.pre (c:DvI) (tm:T) (s:S):Prop:=c.base∧c.fr tm∧Ext c.b0 s∧∃ (i:Nat) (r Q:List Nat),i≤c.a.length∧gp 9 tm=iv .i64 (i:Int)∧gp 8 tm=.str r∧jw r∧zS r<zS c.b∧Gz 5 1 c.b0 s (gp 7 tm) (ks .u8 Q)∧zxB Q∧Q.length=i
def DvI.post (c:DvI) (x:Go.Ev.A):Prop:=∃ N s r Q,x=.ext 0 N s∧c.fr N∧Ext c.b0 s∧gp 8 N=.str r∧jw r∧zS r<zS c.b∧Gz 5 1 c.b0 s (gp 7 N) (ks .u8 Q)∧zxB Q∧Q.length=c.a.length
def DvI.preK (c:DvI) (tm:T) (s:S):Prop:=s=c.b0∧(gp 7 tm=c.q∧gp 8 tm=.str c.b∧gp 240 tm=.bad)∧Nk .u8 s c.q c.Q∧c.Q.length≤1000∧∃ k:Nat,k≤c.Q.length∧gp 11 tm=iv .i64 (k:Int)
def DvI.postK (c:DvI) (x:Go.Ev.A):Prop:=∃ N,x=.ext 4 N c.b0∧(gp 7 N=c.q∧gp 8 N=.str c.b∧gp 240 N=.bad)∧∃ k:Nat,k≤c.Q.length∧gp 11 N=iv .i64 (k:Int)
noncomputable def LDv:Nat→Lt
 | 25=>ltI DvI.preI DvI.postI
 | 24=>ltI DvI.preK DvI.postK
 | _=>ltI DvI.pre DvI.post
theorem zzM:∀ (c:DvI) tm s,c.preI tm s→c.postI (zcr.run (Rk Tryz.prog KA LDv) tm s):=by
 have n:=zk (zh (L:=LDv) zzg) (X:=X2) rfl
 have hD:=zk (zh (L:=LDv) zxP) (X:=List Nat) rfl
 have aa:=zk (zh (L:=LDv) zvP) (X:=V × V × List Nat × List Nat) rfl
 have hT:=zk (zh (L:=LDv) zvv) (X:=V × List Nat) rfl
 refine zL (L:=LDv) zt zsr rfl (fun tm _=>zS (zBk (gp 8 tm))) (fun x a ⟨_,_,_,_,h,_⟩=>by rw [h];exact fun h=>h) ?_
 rintro ⟨a,b,i,q,Q,b0⟩ tm s ⟨y,⟨⟨h0,I,N⟩,M,K⟩,Y,hz,rr,d,B,cr,lr,e,u⟩ J
 show DvI.postI _ (zcr.run _ tm _)
 generalize Rk Tryz.prog _ _=r at J n hD aa hT ⊢
 obtain ⟨⟨cb,lb,pb⟩,da,la⟩:=id y
 simp only at cb lb pb da la h0 I M K Y hz
 obtain ⟨_,s,T,rfl,rfl⟩:=n (rr,b) _ s ⟨rfl,⟨cr,cb⟩,by show rr.length≤2000;omega,by show b.length≤2000;omega⟩
 by_cases O:zS rr<zS b
 ·rw [znz O] at T
  simp -implicitDefEqProofs [zky,I,B,T]
  exact ⟨_,s,rr,d,rfl,⟨⟨by simp [h0],by simp [I],by simp [N]⟩,by simp [M],by simp [K]⟩,Y,hz,by simp [B],cr,O,by simp [e],u⟩
 ·have ec:(0≤cmpZ (zS rr:Nat) (zS b:Nat))=True:=eq_true (by unfold cmpZ;rw [if_neg (by omega)];split<;>omega)
  have ae:b.length≤rr.length:=Nat.le_of_not_lt fun h=>O (zaJ cr cb h)
  obtain ⟨H,s1,D,j,R⟩:=hD rr _ s ⟨rfl,cr.2.2,by omega⟩
  obtain ⟨C,W,o,w,U⟩:=hD b _ s1 ⟨rfl,cb.2.2,by omega⟩
  obtain ⟨v3,m,f,G,L,g,p,Z,g6⟩:=aa (H,C,dg rr,dg b) _ W ⟨rfl,⟨zjT R w,U⟩,⟨zBy cr.2.2,zBy cb.2.2⟩,by rw [zhg,zhg];exact ae,by rw [zhg];omega,by rw [zkH,zkH];omega⟩
  simp only [zkH,zhg] at Z g6
  obtain ⟨_,P,e5,E4,t,rfl,ct,vt,lt⟩:=hT (v3,L) _ m ⟨rfl,g,p,by omega⟩
  rw [g6] at vt
  have ad:zS t<zS rr:=by omega
  have A:t.length≤rr.length:=Nat.le_of_not_lt fun h=>by have:=zaJ cr ct h;omega
  have w1:IntKind.u8.wrap ((d:Int)+1)=(((d+1) % 256:Nat):Int):=by unfold IntKind.wrap;simp [IntKind.bits,IntKind.signed]
  have ah:(d+1) % 256<256:=Nat.mod_lt _ (by decide)
  generalize (d+1) % 256=d2 at *
  have E:=((j.trans w).trans G).trans E4
  have next:∀ F,((gp 0 F=.str a∧gp 1 F=.str b∧gp 240 F=.bad)∧gp 7 F=q∧gp 9 F=iv .i64 (i:Int)∧gp 8 F=.str t∧gp 10 F=iv .u8 (d2:Int))→DvI.postI ⟨a,b,i,q,Q,b0⟩ (r.code wU zeK F P):=fun F ⟨k0,k7,k9,k8,ai⟩ =>
   J ⟨a,b,i,q,Q,b0⟩ F P (by rw [k8,B];exact ad) ⟨y,⟨k0,k7,k9⟩,Y.trans E,hz.ext E,t,d2,k8,ct,by omega,ai,ah⟩
  generalize cmpZ (zS rr:Nat) (zS b:Nat)=z at *
  simp -implicitDefEqProofs [zky,I,B,e,T,ec,D,o,f,e5,w1]
  apply next
  simp [h0,I,N,M,K]
variable {x:Nat}
theorem zm8 (h:48≤x∧x≤57):jw [x]:=⟨by simp,fun h=>absurd h (by simp),fun b hb=>by rw [kak.1 hb];exact h⟩
theorem zsa {r:List Nat} (h:jw r) (N:r≠[48]) (M:48≤x∧x≤57):jw (r++[x]):=by
 obtain ⟨I,J,Q⟩:=h
 refine ⟨by simp,fun _=>?_,fun b hb=>?_⟩
 ·cases r with
  | nil=>exact absurd rfl I
  | cons d r =>
   show d≠48
   rintro rfl
   cases r with
   | nil=>exact N rfl
   | cons e r=>exact J (by simp) rfl
 ·rcases kaq.1 hb with hb | hb
  ·exact Q b hb
  ·rw [kak.1 hb];exact M
theorem zDe:∀ (c:DvI) tm s,c.pre tm s→c.post (zaU.run (Rk Tryz.prog KA LDv) tm s):=by
 have q:=zzM
 refine zL (L:=LDv) zt zsf rfl (fun tm _=>1000 - (toI (gp 9 tm)).toNat) (fun x a ⟨_,_,_,_,h,_⟩=>by rw [h];exact fun h=>h) ?_
 rintro ⟨a,b,i0,q0,Q0,b0⟩ tm s ⟨y,⟨h0,I,N⟩,Y,i,j,Q,hi,H,R,cr,vr,hz,bQ,lQ⟩ J
 show DvI.post _ (zaU.run _ tm _)
 generalize Rk Tryz.prog _ _=r at J q ⊢
 obtain ⟨⟨cb,lb,pb⟩,da,la⟩:=id y
 simp only at cb lb pb da la h0 I Y hi vr hz
 have o:=yE a
 by_cases O:i<a.length
 ·have M:48≤a.getD i 0∧a.getD i 0≤57:=by
   rw [kaa,kab O];exact da _ (kai _)
  have sl:∀ c:V→Go.Ev.A,qa (.str a) (some (iv .i64 (i:Int))) (some (iv .i64 ((i:Int)+1))) c=c (.str [a.getD i 0]):=fun c=>by
   have h:=jb a (lo:=some (iv .i64 (i:Int))) (hi:=some (iv .i64 ((i+1:Nat):Int))) (a:=i) (b:=i+1) (.inr ⟨.i64,rfl⟩) (.inr ⟨.i64,rfl⟩) (by omega) O c
   rw [Nat.add_sub_cancel_left,List.drop_eq_getElem_cons O] at h
   rw [kaa,kab O]
   exact h
  generalize a.getD i 0=x at *
  have m:IntKind.i64.wrap ((i:Int)+1)=((i+1:Nat):Int):=w64
  have lr:j.length≤b.length:=Nat.le_of_not_lt fun h=>by have:=zaJ cb cr h;omega
  have ad:=addS j [x] (by simp;omega)
  obtain ⟨Z,aa,ah,ai⟩:∃ Z,(j=[48]∧Z=[x]∨j≠[48]∧Z=j++[x])∧jw Z∧Z.length≤1001:=by
   by_cases h:j=[48]
   ·exact ⟨_,.inl ⟨h,rfl⟩,zm8 M,by simp⟩
   ·exact ⟨_,.inr ⟨h,rfl⟩,zsa cr h M,by simp;omega⟩
  generalize g:zaU.run r tm s=D
  rcases aa with ⟨n,aa⟩ | ⟨n,aa⟩<;>have aa:=aa.symm<;>simp -implicitDefEqProofs [zjP,h0,R,H,o,O,m,sl,ad,yj,n,aa] at g
  all_goals
   generalize f:zcr.run r _ s=A1 at g
   obtain ⟨ak,W,U,d,rfl,⟨⟨p,K,G⟩,e,k9⟩,E,C,B,aj,ae,X,u⟩:=f▸q ⟨a,b,i,gp 7 tm,Q,b0⟩ _ s ⟨y,⟨⟨by simp [h0],by simp [I],by simp [N]⟩,by simp,by simp [H]⟩,Y,hz,Z,48,by simp,ah,ai,by simp,by decide⟩
   simp only at p K e k9 E C ae
   obtain ⟨F,s',t,ap,T,w⟩:=zs9 C E d (by omega)
   generalize gp 7 tm=P at *
   simp -implicitDefEqProofs [e,k9,X,m,t,up1,ap] at g
   rw [←g]
   refine J ⟨a,b,i,q0,Q,b0⟩ _ s' (by rw [H];simp [zp];omega) ⟨y,⟨by simp [p],by simp [K],by simp [G]⟩,w,i+1,U,Q++[d],O,by simp,by simp [B],aj,ae,by simpa using T,fun z hz=>?_,by rw [kae,lQ];rfl⟩
   rcases kaq.1 hz with hz | hz
   ·exact bQ z hz
   ·rw [kak.1 hz];exact u
 ·obtain rfl:i=a.length:=by omega
  simp -implicitDefEqProofs [zjP,h0,H,o]
  exact ⟨_,s,j,Q,rfl,⟨by simp [h0],by simp [I],by simp [N]⟩,Y,by simp [R],cr,vr,by simpa using hz,bQ,lQ⟩
theorem zzJ:∀ (c:DvI) tm s,c.preK tm s→c.postK (zcb.run (Rk Tryz.prog KA LDv) tm s):=by
 refine zL (L:=LDv) zt zsm rfl (fun tm _=>1000 - (toI (gp 11 tm)).toNat) (fun x a ⟨_,h,_⟩=>by rw [h];exact fun h=>h) ?_
 rintro ⟨a,b,T,q,Q,b0⟩ tm s ⟨C,⟨g,R,N⟩,I,z,k,F,G⟩ J
 show DvI.postK _ (zcb.run _ tm _)
 generalize Rk Tryz.prog _ _=r at J ⊢
 simp only at C g R I z F
 subst C
 have f:∀ c:V→Go.Ev.A,zm q c=c (iv .i64 (Q.length:Int)):=fun c=>zje I c
 have e:IntKind.i64.wrap ((Q.length:Int) - 1)=(Q.length:Int) - 1:=z8 (by omega) (by omega)
 by_cases O:k+1<Q.length
 ·have W:((k:Int)<(Q.length:Int) - 1)=True:=eq_true (by omega)
  rcases zsY I k with ⟨p,-,Z,K⟩ | ⟨h,-⟩
  ·generalize Q.getD k 0=x at *
   have n:IntKind.i64.wrap ((k:Int)+1)=((k+1:Nat):Int):=w64
   by_cases M:x=48
   ·have X:((x:Int)=48)=True:=eq_true (by omega)
    simp -implicitDefEqProofs [zfP,zaa,g,G,f,e,W,Z,K,X,n]
    exact J ⟨a,b,T,q,Q,s⟩ _ s (by rw [G];simp [zp];omega) ⟨rfl,⟨by simp [g],by simp [R],by simp [N]⟩,I,z,k+1,by show k+1≤Q.length;omega,by simp⟩
   ·have X:((x:Int)=48)=False:=eq_false (by omega)
    simp -implicitDefEqProofs [zfP,zaa,g,G,f,e,W,Z,K,X]
    exact ⟨_,rfl,⟨by simp [g],by simp [R],by simp [N]⟩,k,F,by simp [G]⟩
  ·omega
 ·have W:((k:Int)<(Q.length:Int) - 1)=False:=eq_false (by omega)
  simp -implicitDefEqProofs [zfP,zaa,g,G,f,e,W]
  exact ⟨_,rfl,⟨by simp [g],by simp [R],by simp [N]⟩,k,F,by simp [G]⟩
theorem zwY:zo Tryz.prog KA 302:=by
 have e:=zDe
 have O:=zzJ
 have i:=zk (zh (L:=LDv) zj5) (X:=List Nat) rfl
 refine zr (L:=LDv) zt (K:=KA) (X:=X2) rfl ?_
 rintro ⟨a,b⟩ l s ⟨rfl,U,hb,pb⟩
 generalize Rk Tryz.prog _ _=r at e O i ⊢
 obtain ⟨_,s,T,rfl,rfl⟩:=i a _ s rfl
 obtain ⟨_,s,D,rfl,rfl⟩:=i b _ s rfl
 rw [U] at T
 rw [hb] at D
 obtain ⟨C,n⟩:=zbo U
 obtain ⟨W,lb⟩:=zbo hb
 have y:b≠[48]:=fun h=>by rw [h] at pb;exact absurd pb (by decide)
 generalize g:(fnC zf 302).run r _ _=d
 simp -implicitDefEqProofs [zaa,T,D,yj,y] at g
 generalize f:zaU.run r _ s=o at g
 obtain ⟨N,s1,t,Q,rfl,⟨p,u,G⟩,w,B,M,x,hz,bQ,z⟩:=f▸e ⟨a,b,0,.nil 1,[],s⟩ _ s ⟨⟨⟨W,lb,pb⟩,C.2.2,n⟩,⟨by simp,by simp,by simp⟩,Ext.refl s,0,[48],[],Nat.zero_le _,by simp,by simp,zm8 (by decide),pb,.inl ⟨by simp,rfl⟩,(fun _ h=>by cases h),rfl⟩
 simp only at p u w x hz z
 simp -implicitDefEqProofs [] at g
 generalize J:zcb.run r _ s1=A2 at g
 obtain ⟨R,rfl,⟨j,q,H⟩,k,F,m⟩:=J▸O ⟨a,t,0,gp 7 N,Q,s1⟩ _ s1 ⟨rfl,⟨by simp,by simp [B],by simp [G]⟩,zo9 hz,by show Q.length≤1000;omega,0,Nat.zero_le _,by simp⟩
 simp only at j q F
 obtain ⟨Z,E,I⟩:=zBY hz F
 have Y:∀ c:V→Go.Ev.A,jJ Z s1 c=c (.str (Q.drop k)):=fun c=>zy0 I.1 I.2.1 (fun b hb=>bQ b (List.mem_of_mem_drop hb)) I.2.2 c
 generalize gp 7 N=P at *
 simp -implicitDefEqProofs [j,q,m,H,E,Y] at g
 exact ⟨_,s1,g.symm,w,_,t,rfl,M,x⟩
theorem zrs {l:List Nat} (h:jw l) (h0:zS l=0):l=[48]:=by
 by_cases I:1<l.length
 ·have:=zmh h I
  have:0<10 ^ (l.length - 1):=Nat.pow_pos (by decide)
  omega
 ·cases l with
  | nil=>exact absurd rfl h.1
  | cons b l =>
   obtain rfl:l=[]:=kap.1 (by simp only [kay] at I;omega)
   have Q:=h.2.2 b (by simp)
   have K:10*0+(b - 48)=0:=h0
   rw [show b=48 by omega]
structure Gc2 where
 b0:S
def Gc2.pre (c:Gc2) (tm:T) (s:S):Prop:=Ext c.b0 s∧gp 240 tm=.bad∧∃ a b,gp 0 tm=.str a∧gp 1 tm=.str b∧zaq a=true∧zaq b=true
def Gc2.post (c:Gc2) (x:Go.Ev.A):Prop:=∃ N s a,x=.ext 0 N s∧Ext c.b0 s∧gp 240 N=.bad∧gp 0 N=.str a
abbrev LG2:Nat→Lt:=fun _=>ltI Gc2.pre Gc2.post
theorem zCP:∀ (c:Gc2) tm s,c.pre tm s→c.post (zcu.run (Rk Tryz.prog KA LG2) tm s):=by
 have O:=zk (zh (L:=LG2) zwY) (X:=X2) rfl
 refine zL (L:=LG2) zt zrJ rfl (fun tm _=>zS (zBk (gp 1 tm))) (fun x a ⟨_,_,_,h,_⟩=>by rw [h];exact fun h=>h) ?_
 rintro ⟨b0⟩ tm s ⟨Y,N,a,b,h0,I,U,hb⟩ J
 show Gc2.post _ (zcu.run _ tm _)
 generalize Rk Tryz.prog _ _=r at J O ⊢
 simp only at Y
 by_cases hz:b=[48]
 ·simp -implicitDefEqProofs [zj0,I,zpf,hz]
  exact ⟨_,s,a,rfl,Y,by simp [N],by simp [h0]⟩
 ·obtain ⟨W,lb⟩:=zbo hb
  have pb:0<zS b:=Nat.pos_of_ne_zero fun h=>hz (zrs W h)
  obtain ⟨_,s1,T,j,q,t,rfl,A,B⟩:=O (a,b) _ s ⟨rfl,U,hb,pb⟩
  have lt:t.length≤b.length:=Nat.le_of_not_lt fun h=>by have:=zaJ W A h;omega
  have next:∀ F,(gp 240 F=.bad∧gp 0 F=.str b∧gp 1 F=.str t)→Gc2.post ⟨b0⟩ (r.code zf6 zeM F s1):=fun F ⟨G,p,u⟩ =>
   J ⟨b0⟩ F s1 (by rw [u,I];exact B) ⟨Y.trans j,G,b,t,p,u,hb,znF A (by omega)⟩
  simp -implicitDefEqProofs [zj0,h0,I,zpf,hz,T,qn]
  apply next
  simp [N]
theorem zyf:zo Tryz.prog KA 265:=by
 have e:=zCP
 have i:=zk (zh (L:=LG2) zj5) (X:=List Nat) rfl
 refine zr (L:=LG2) zt (K:=KA) (X:=X2) rfl ?_
 rintro ⟨a,b⟩ l s ⟨rfl,U,hb⟩
 generalize Rk Tryz.prog _ _=r at e i ⊢
 obtain ⟨_,s,T,rfl,rfl⟩:=i a _ s rfl
 obtain ⟨_,s,D,rfl,rfl⟩:=i b _ s rfl
 rw [U] at T
 rw [hb] at D
 generalize g:(fnC zf 265).run r _ _=d
 simp -implicitDefEqProofs [zkB,T,D] at g
 generalize f:zcu.run r _ s=o at g
 obtain ⟨N,s1,t,rfl,Y,G,p⟩:=f▸e ⟨s⟩ _ s ⟨Ext.refl s,by simp,a,b,by simp,by simp,U,hb⟩
 simp -implicitDefEqProofs [G,p] at g
 exact ⟨_,s1,g.symm,Y,t,rfl⟩
noncomputable def KB3:Nat→Ct
 | 263=>ctI (X:=List Nat) (fun l a _=>a=[.str l,iv .u8 47]∧l.length≤9223372036854775807) (fun l s v s'=>s'=s∧∃ z:Int,v=iv .i64 z∧-1≤z∧z<l.length)
 | 264=>ctI (X:=List Nat) (fun l a _=>a=[.str l]) (fun l s v s'=>s'=s∧∃ b,v=.bool b∧(b=true→zaq l=true))
 | 213=>ctI (X:=List Nat) (fun l a _=>a=[.str l]∧l.length≤9223372036854775807) (fun l s v s'=>Ext s s'∧∃ p x y ok,v=.ls 1 [.bool p,.str x,.str y,.bool ok]∧(ok=true→l≠[]))
 | 153=>ctI (X:=List Nat) (fun l a _=>a=[.str l]∧l.length≤9223372036854775807) (fun l s v s'=>Ext s s'∧∃ ok,v=.bool ok∧(ok=true→l≠[]))
 | f=>KA f
structure RiX where
 l:List Nat
 s0:S
def RiX.pre (c:RiX) (tm:T) (s:S):Prop:=s=c.s0∧c.l.length≤9223372036854775807∧(gp 0 tm=.str c.l∧gp 1 tm=iv .u8 47∧gp 240 tm=.bad)∧∃ i:Nat,i≤c.l.length∧gp 5 tm=iv .i64 (i:Int)
def RiX.post (c:RiX) (x:Go.Ev.A):Prop:=(∃ N,x=.ext 0 N c.s0∧gp 240 N=.bad)∨∃ (N:T) (i:Nat),x=.ret N c.s0∧gp 240 N=.bad∧gp 4 N=iv .i64 (i:Int)∧i<c.l.length
abbrev LRi:Nat→Lt:=fun _=>ltI RiX.pre RiX.post
theorem zBS:∀ (c:RiX) tm s,c.pre tm s→c.post (za5.run (Rk Tryz.prog KB3 LRi) tm s):=by
 refine zL (L:=LRi) zt zpb rfl (fun tm _=>(zBk (gp 0 tm)).length - (toI (gp 5 tm)).toNat) (fun x a h=>by rcases h with ⟨_,h,_⟩ | ⟨_,_,h,_⟩<;>(rw [h];exact fun h=>h)) ?_
 rintro ⟨l,s0⟩ tm s ⟨C,f,⟨h0,I,N⟩,i,hi,d⟩ J
 show RiX.post _ (za5.run _ tm _)
 generalize Rk Tryz.prog _ _=r at J ⊢
 simp only at C f h0 hi
 subst C
 have o:=yE l
 by_cases O:i<l.length
 ·have U:∀ (k:IntKind) (c:V→Go.Ev.A),zD (.str l) (iv k (i:Int)) c=c (iv .u8 (l.getD i 0:Nat)):=fun k c=>we l k O c
  generalize l.getD i 0=x at *
  have n:IntKind.i64.wrap ((i:Int)+1)=((i+1:Nat):Int):=w64
  by_cases M:(x:Int)=47
  ·simp -implicitDefEqProofs [zev,h0,I,d,o,O,U,M]
   exact .inr ⟨_,i,rfl,by simp [N],by simp,O⟩
  ·simp -implicitDefEqProofs [zev,h0,I,d,o,O,U,M,n]
   exact J ⟨l,s⟩ _ s (by rw [d,h0];simp [h0,zp,zBk];omega) ⟨rfl,f,⟨by simp [h0],by simp [I],by simp [N]⟩,i+1,O,by simp⟩
 ·obtain rfl:i=l.length:=by omega
  simp -implicitDefEqProofs [zev,h0,d,o]
  exact .inl ⟨_,rfl,by simp [N]⟩
theorem zsL:zo Tryz.prog KB3 263:=by
 have e:=zBS
 refine zr (L:=LRi) zt (K:=KB3) (X:=List Nat) rfl ?_
 rintro l a s ⟨rfl,f⟩
 generalize Rk Tryz.prog _ _=r at e ⊢
 generalize g:(fnC zf 263).run r _ _=D
 simp -implicitDefEqProofs [zcQ] at g
 generalize B:za5.run r _ s=U at g
 rcases B▸e ⟨l,s⟩ _ s ⟨rfl,f,⟨by simp,by simp,by simp⟩,0,Nat.zero_le _,by simp⟩ with ⟨N,rfl,G⟩ | ⟨N,i,rfl,G,p,hi⟩
 ·simp -implicitDefEqProofs [G] at g
  exact ⟨_,s,g.symm,rfl,-1,rfl,by decide,by omega⟩
 ·simp -implicitDefEqProofs [G,p] at g
  simp only at hi
  exact ⟨_,s,g.symm,rfl,i,rfl,by omega,by omega⟩
theorem zrl:zo Tryz.prog KB3 264:=by
 have p:=zk (zh (L:=noL) (show zo Tryz.prog KB3 301 from zj5)) (X:=List Nat) rfl
 refine zr (L:=noL) zt (K:=KB3) (X:=List Nat) rfl ?_
 rintro l a s rfl
 generalize Rk Tryz.prog _ _=r at p ⊢
 obtain ⟨_,s,T,rfl,rfl⟩:=p l _ s rfl
 have o:=yE l
 by_cases h:l.length≤400
 ·have u:((l.length:Int)≤400)=True:=eq_true (by omega)
  refine ⟨_,s,?_,rfl,zaq l,rfl,fun h=>h⟩
  simp -implicitDefEqProofs [zk9,o,u,T]
 ·have u:((l.length:Int)≤400)=False:=eq_false (by omega)
  refine ⟨_,s,?_,rfl,false,rfl,fun h=>by cases h⟩
  simp -implicitDefEqProofs [zk9,o,u]
theorem zDV (x y z w:V) (c:V→Go.Ev.A):zz 3 (.ls 1 [x,y,z,w]) c=c w:=rfl
theorem zBO (x y z w:V) (c:V→Go.Ev.A):zz 2 (.ls 1 [x,y,z,w]) c=c z:=rfl
theorem zyB (a b c d:V) (s:S):wu [a,b,c,d] s=.fin (.ls 1 [a,b,c,d]) s:=rfl
theorem zsC:zo Tryz.prog KB3 213:=by
 have q:=zk (zh (L:=noL) zsL) (X:=List Nat) rfl
 have R:=zk (zh (L:=noL) zrl) (X:=List Nat) rfl
 have O:=zk (zh (L:=noL) (show zo Tryz.prog KB3 265 from zyf)) (X:=X2) rfl
 refine zr (L:=noL) zt (K:=KB3) (X:=List Nat) rfl ?_
 rintro a l s ⟨rfl,f⟩
 generalize Rk Tryz.prog _ _=r at q R O ⊢
 have o:=yE a
 obtain ⟨neg,Y,P,h0⟩:∃ (neg:Bool) (Y:List Nat),((neg=true∧(0<a.length)=True∧(∀ k (c:V→Go.Ev.A),zD (.str a) (iv k 0) c=c (iv .u8 45))∧(∀ c:V→Go.Ev.A,qa (.str a) (some (iv .i64 1)) none c=c (.str Y))) ∨
   (neg=false∧(0<a.length)=False∧Y=a∧True)∨(neg=false∧(0<a.length)=True∧Y=a∧∃ x:Nat,(∀ k (c:V→Go.Ev.A),zD (.str a) (iv k 0) c=c (iv .u8 (x:Int)))∧((x:Int)=45)=False))∧Y.length≤a.length:=by
  by_cases h:0<a.length
  ·have U:∀ k (c:V→Go.Ev.A),zD (.str a) (iv k 0) c=c (iv .u8 (a.getD 0 0:Nat)):=fun k c=>we a k h c
   by_cases M:a.getD 0 0=45
   ·rw [M] at U
    exact ⟨true,(a.drop 1).take (a.length - 1),.inl ⟨rfl,eq_true (by omega),U,fun c=>jb a (a:=1) (b:=a.length) (.inr ⟨.i64,rfl⟩) (.inl ⟨rfl,rfl⟩) h (kad _) c⟩,by rw [List.length_take,List.length_drop];omega⟩
   ·exact ⟨false,a,.inr (.inr ⟨rfl,eq_true (by omega),rfl,_,U,eq_false (by omega)⟩),kad _⟩
  ·exact ⟨false,a,.inr (.inl ⟨rfl,eq_false (by omega),rfl,trivial⟩),kad _⟩
 obtain ⟨_,s,T,rfl,z,rfl,H,t⟩:=q Y _ s ⟨rfl,by omega⟩
 obtain ⟨fr,n,d,Q,I⟩:∃ (fr:Bool) (n d:List Nat),((fr=true∧(0≤z)=True∧IntKind.i64.wrap (z+1)=z+1∧(∀ c:V→Go.Ev.A,qa (.str Y) (some (iv .i64 (z+1))) none c=c (.str d))∧(∀ c:V→Go.Ev.A,qa (.str Y) none (some (iv .i64 z)) c=c (.str n)))∨(fr=false∧(0≤z)=False∧n=Y∧d=[49]))∧n.length≤Y.length:=by
  by_cases h:0≤z
  ·obtain ⟨m,rfl⟩:=Int.eq_ofNat_of_zero_le h
   exact ⟨true,(Y.drop 0).take (m - 0),(Y.drop (m+1)).take (Y.length - (m+1)),.inl ⟨rfl,eq_true h,w64 (n:=m+1),fun c=>jb Y (a:=m+1) (b:=Y.length) (.inr ⟨.i64,rfl⟩) (.inl ⟨rfl,rfl⟩) (by omega) (kad _) c,fun c=>jb Y (a:=0) (b:=m) (.inl ⟨rfl,rfl⟩) (.inr ⟨.i64,rfl⟩) (Nat.zero_le _) (by omega) c⟩,by rw [List.length_take];simp;omega⟩
  ·exact ⟨false,Y,[49],.inr ⟨rfl,eq_false h,rfl,rfl⟩,kad _⟩
 obtain ⟨_,s,D,rfl,sn,rfl,j⟩:=R n _ s rfl
 obtain ⟨_,s,N,rfl,sd,rfl,u⟩:=R d _ s rfl
 have bad:∀ v s',v=.ls 1 [.bool false,.str [],.str [],.bool false]→s'=s→(fnC zf 213).run r [.str a] s=.ret v s'→∃ v s',(fnC zf 213).run r [.str a] s=.ret v s'∧Ext s s'∧∃ p x y ok,v=.ls 1 [.bool p,.str x,.str y,.bool ok]∧(ok=true→a≠[]):=fun v s' E J h =>
  ⟨v,s',h,J▸Ext.refl s,false,[],[],false,E,fun h=>by cases h⟩
 cases sn with
 | false =>
  refine bad _ _ rfl rfl ?_
  rcases P with ⟨rfl,f,U,sl⟩ | ⟨rfl,f,rfl,-⟩ | ⟨rfl,f,rfl,x,U,sl⟩<;>rcases Q with ⟨rfl,hz,e,s1,W⟩ | ⟨rfl,hz,rfl,rfl⟩<;>simp -implicitDefEqProofs [zaW,zyB, *]
 | true =>
 cases sd with
 | false =>
  refine bad _ _ rfl rfl ?_
  rcases P with ⟨rfl,f,U,sl⟩ | ⟨rfl,f,rfl,-⟩ | ⟨rfl,f,rfl,x,U,sl⟩<;>rcases Q with ⟨rfl,hz,e,s1,W⟩ | ⟨rfl,hz,rfl,rfl⟩<;>simp -implicitDefEqProofs [zaW,zyB, *]
 | true =>
 by_cases hb:d=[48]∨(n=[48]∧(neg=true∨fr=true))∨(d=[49]∧fr=true)
 ·refine bad _ _ rfl rfl ?_
  rcases Classical.propComplete (d=[48]) with G | G<;>rcases Classical.propComplete (n=[48]) with B | B<;>rcases Classical.propComplete (d=[49]) with F | F<;>(try simp only [G,B,F] at hb)<;>rcases P with ⟨rfl,f,U,sl⟩ | ⟨rfl,f,rfl,-⟩ | ⟨rfl,f,rfl,x,U,sl⟩<;>rcases Q with ⟨rfl,hz,e,s1,W⟩ | ⟨rfl,hz,rfl,rfl⟩<;>(try exact absurd (of_eq_true G) (by decide))<;>(try simp at hb)<;>simp -implicitDefEqProofs [zaW,zyB,yj, *]
 have Z:a≠[]:=fun h=>by
  have:=(zbo (j rfl)).1.1
  subst h
  exact this (kap.1 (by simp at h0;rw [h0] at I;simpa using I))
 obtain ⟨_,W,i,w,g,rfl⟩:=O (n,d) _ s ⟨rfl,j rfl,u rfl⟩
 by_cases C:g≠[49]∧d≠[49]
 ·refine ⟨.ls 1 [.bool false,.str [],.str [],.bool false],W,?_,w,false,[],[],false,rfl,fun h=>by cases h⟩
  rcases Classical.propComplete (d=[48]) with G | G<;>rcases Classical.propComplete (n=[48]) with B | B<;>(try simp only [G,B] at hb)<;>rcases P with ⟨rfl,f,U,sl⟩ | ⟨rfl,f,rfl,-⟩ | ⟨rfl,f,rfl,x,U,sl⟩<;>rcases Q with ⟨rfl,hz,e,s1,W⟩ | ⟨rfl,hz,rfl,rfl⟩<;>(try simp at C hb)<;>simp -implicitDefEqProofs [zaW,zyB,yj,zpf, *]
 ·refine ⟨.ls 1 [.bool neg,.str n,.str d,.bool true],W,?_,w,neg,n,d,true,rfl,fun _=>Z⟩
  rcases Classical.propComplete (d=[48]) with G | G<;>rcases Classical.propComplete (n=[48]) with B | B<;>rcases Classical.propComplete (d=[49]) with F | F<;>rcases Classical.propComplete (g=[49]) with aa | aa<;>(try simp only [G,B,F] at hb)<;>(try simp only [ne_eq,F,aa] at C)<;>rcases P with ⟨rfl,f,U,sl⟩ | ⟨rfl,f,rfl,-⟩ | ⟨rfl,f,rfl,x,U,sl⟩<;>rcases Q with ⟨rfl,hz,e,s1,W⟩ | ⟨rfl,hz,rfl,rfl⟩<;>(try exact absurd (of_eq_true G) (by decide))<;>(try simp at C hb)<;>simp -implicitDefEqProofs [zaW,zyB,yj,zpf, *]
theorem zxT:zo Tryz.prog KB3 153:=by
 have B:=zk (zh (L:=noL) zsC) (X:=List Nat) rfl
 refine zr (L:=noL) zt (K:=KB3) (X:=List Nat) rfl ?_
 rintro l a s h
 generalize Rk Tryz.prog _ _=r at B ⊢
 obtain ⟨_,s1,T,E,p,x,y,ok,rfl,G⟩:=B l _ s h
 obtain ⟨rfl,-⟩:=h
 refine ⟨_,s1,?_,E,ok,rfl,G⟩
 simp -implicitDefEqProofs [zxo,T,zBO,zDV]
def Bx (s:S) (a:Go.Ev.K) (c:List V) (n el:Nat):Prop:=Tr.get B.none a s.h=.row c n el false 0 0 0∧c.length=n∧(∀ x∈c,x≠.bad)∧a.toNat<s.nx.toNat
variable {a:Go.Ev.K} {c:List V} {n:Nat}
theorem Bx.ext {s s':S} (h:Bx s a c n el) (e:Ext s s'):Bx s' a c n el:=⟨(e.get a h.2.2.2).trans h.1,h.2.1,h.2.2.1,kan h.2.2.2 e.nx⟩
theorem Bx.fld {s:S} (h:Bx s a c n el) (j:Nat) (G:j<n) (k:V→S→Go.Ev.A):zd false 1 (.ptr a 0 j) s k=k (c.getD j .bad) s:=by
 refine jy h.1 j h.2.1 G ?_ k
 rw [kaa,kab (by rw [h.2.1];exact G)]
 exact h.2.2.1 _ (kai _)
theorem Bx.all {s:S} (h:Bx s a c n el) (k:V→S→Go.Ev.A):zd true n (.ptr a 0 0) s k=k (.ls 0 c) s:=zkG h.1 h.2.1 h.2.2.1 k
theorem qT (s:S) (f:c.length=n) (X:∀ x∈c,x≠.bad):Bx (zY s (.row c n el false 0 0 0)) s.nx c n el∧Ext s (zY s (.row c n el false 0 0 0))∧∀ k:Go.Ev.K→Nat→S→Go.Ev.A,Go.Ev.newRow s el c false k=k s.nx n (zY s (.row c n el false 0 0 0)) :=
 ⟨⟨qQ _ _,f,X,by show s.nx.toNat<s.nx.succ.toNat;rw [K.toNat_succ];omega⟩,yc _ _,fun k=>by rw [zU,f]⟩
inductive Ex where
 | mk (k a b:Int) (w:List Nat) (n m:Int) (l:List Ex)
mutual
def szE:Ex→Nat
 | .mk _ _ _ _ _ _ l=>1+szL l
def szL:List Ex→Nat
 | []=>0
 | e::l=>szE e+szL l
end
mutual
def zQ (f:Ex→Bool):Ex→Bool
 | .mk k a b w n m l=>f (.mk k a b w n m l) && ws f l
def ws (f:Ex→Bool):List Ex→Bool
 | []=>true
 | e::l=>zQ f e && ws f l
end
theorem zAc (e:Ex):1≤szE e:=by cases e;rw [szE];omega
theorem zkL (l m:List Ex):szL (l++m)=szL l+szL m:=by
 induction l with
 | nil=>rw [szL];simp
 | cons e l X=>rw [List.cons_append,szL,szL,X];omega
variable {i:Nat}
theorem zra {l:List Ex} (h:i<l.length):szL (l.take (i+1))=szL (l.take i)+szE l[i]:=by
 rw [List.take_add_one,kab h,zkL]
 show _+szL [l[i]]=_
 rw [szL,szL];rfl
theorem zr5 (l:List Ex) (i:Nat):szL (l.take i)≤szL l:=by
 have:=zkL (l.take i) (l.drop i)
 rw [List.take_append_drop] at this
 omega
theorem zz9 (l:List Ex):l.length≤szL l:=by
 induction l with
 | nil=>exact Nat.zero_le _
 | cons e l X=>rw [szL,kay];have:=zAc e;omega
theorem zke (f:Ex→Bool) (l:List Ex):ws f l=true↔∀ e∈l,zQ f e=true:=by
 induction l with
 | nil=>simp [ws]
 | cons e l X=>simp [ws,X]
def ndC (k a b:Int) (w:List Nat) (n m:Int) (p:V):List V:=[iv .i64 k,iv .i64 a,iv .i64 b,.str w,iv .i64 n,iv .i64 m,p]
noncomputable def exC (s:S) (p:V) (i:Nat):List V:=(List.range 7).map fun j=>qg s p (i*7+j)
def ExR:Nat→S→List V→Ex→Prop
 | 0,_,_,_=>False
 | h+1,s,C,.mk k a b w n m l=>∃ p,C=ndC k a b w n m p∧Sl s 7 p∧qm p=l.length∧l.length≤9223372036854775807∧w.length≤9223372036854775807∧∀ i (hi:i<l.length),ExR h s (exC s p i) l[i]
variable {p:V}
theorem yK {s s':S} (h:Sl s 7 p) (e:Ext s s') (i:Nat):exC s' p i=exC s p i:=by
 unfold exC
 simp [(h.ext e).2]
theorem ExR.ext:∀ {h:Nat} {s s':S} {C:List V} {x:Ex},ExR h s C x→Ext s s'→ExR h s' C x
 | 0,_,_,_,_,h,_=>h.elim
 | h+1,s,s',C,.mk k a b w n m l,M,e=>by
  obtain ⟨p,I,J,Q,K,d,W⟩:=M
  exact ⟨p,I,(J.ext e).1,Q,K,d,fun i hi=>by rw [yK J e];exact (W i hi).ext e⟩
theorem zwD {s:S} {sz:Nat} {v:V} (h:Sl s sz v):v≠.bad:=by
 rcases h with (rfl | ⟨_,rfl⟩) | ⟨_,_,_,_,⟨_,rfl,_⟩ | ⟨_,rfl⟩,_⟩<;>exact fun h=>by cases h
variable {m n:Int} {w:List Nat}
theorem zDY {s:S} {k a b:Int} (h:Sl s 7 p):∀ x∈ndC k a b w n m p,x≠.bad:=by
 intro x M
 simp [ndC] at M
 rcases M with rfl | rfl | rfl | rfl | rfl | rfl | rfl<;>first | exact qG _ _ | exact zwD h | exact fun h=>by cases h
variable {C:List V} {h:Nat}
theorem ExR.cells {s:S} {x:Ex} (M:ExR h s C x):C.length=7∧∀ x∈C,x≠.bad:=by
 cases h with
 | zero=>exact M.elim
 | succ h =>
  obtain ⟨k,a,b,w,n,m,l⟩:=x
  obtain ⟨p,rfl,J,-⟩:=M
  exact ⟨rfl,zDY J⟩
theorem ze6 {s:S} {L:Nat} (h:Sl s 7 p) (f:qm p=L) (hi:i<L) (X:∀ x∈exC s p i,x≠.bad):∃ q,(∀ k c,ze 7 p (iv k (i:Int)) c=c q)∧∀ k:V→S→Go.Ev.A,zd true 7 q s k=k (.ls 0 (exC s p i)) s:=by
 obtain ⟨q,I,J⟩:=h.idx (i:=(i:Int)) (by omega) (by omega)
 refine ⟨q,I,fun k=>?_⟩
 rw [J.loadN 7 (kad _) (fun j G=>X _ (by rw [Int.toNat_natCast];exact kau.2 ⟨j,kaM.2 G,rfl⟩)) k]
 rfl
theorem ze0 {K K':Nat→Ct} {L:Nat→Lt} {f:Nat} {X:Type} {pre:X→List V→S→Prop} {post:X→S→V→S→Prop} (N:K f=ctI pre post)
  (h:∀ x a s,pre x a s→∃ v s',(fnC zf f).run (Rk Tryz.prog K' L) a s=.ret v s'∧post x s v s'):zo Tryz.prog K f:=by
 intro a s M
 rw [N] at M ⊢
 obtain ⟨x,M⟩:=M
 obtain ⟨v,s',e,I⟩:=h x a s M
 refine ⟨v,s',ziN zt (zxX zf K' L) e,fun y Y=>?_⟩
 obtain ⟨C,W,D,J⟩:=h y a s Y
 rw [e] at D
 cases D
 exact J
def lo (k:Int):Nat:=if k=5∨k=6∨k=11∨k=12∨k=13∨k=14 then 2 else if k≤4 then 0 else 1
def hi (k:Int):Nat:=if k=5∨k=6∨k=13 then 500 else if k=11∨k=12∨k=14 then 2 else if k≤4 then 0 else 1
def okN:Ex→Bool
 | .mk k a b w n m l=>decide ((1≤k∧k≤20)∧(lo k≤l.length∧l.length≤hi k)∧(k=2→(0≤a∧a≤500)∧(0≤b∧b≤500)∧¬(a=0∧b=0))∧(k≠2→a=0∧b=0)∧(k=10→0≤n∧n≤m∧m≤20)∧(k≠10→n=0∧m=0)∧w=[])
def noW:Ex→Bool | .mk k _ _ _ _ _ _=>decide (k≠20)
def qr:Ex→Bool | .mk k a b _ _ _ _=>if k=2 then decide (a=b) else decide (k=13∨k=14∨k=15∨k=19∨k≤10)
def yC:Ex→Bool | .mk k a b _ _ _ _=>decide ((k≤10∨k=13∨k=14∨k=15∨k=19)∧a=b)
structure ExX where
 h:Nat
 C:List V
 e:Ex
def zEx:List Nat:=[0,0,0,0,0,9,0,0,9,0,0,9,0,0,9,2,500,6,2,500,3,1,1,8,1,1,8,1,1,9,1,1,8,2,2,2,2,2,1,2,500,5,2,2,4,1,1,7,1,1,8,1,1,8,1,1,8,1,1,8,1,1,8]
def znE:List V:=zEx.map fun n:Nat=>iv .i64 (n:Int)
noncomputable def KE (h:Nat):Nat→Ct
 | 29=>ctI (X:=List V × Ex × Nat) (fun ⟨C,e,m⟩ a s=>a=[.ls 0 C,iv .i64 (m:Int)]∧ExR h s C e∧1≤m∧m≤501) (fun ⟨_,e,m⟩ s v s'=>Ext s s'∧v=iv .i64 (min (szE e) m:Nat))
 | 10=>ctI (X:=List V × Ex) (fun ⟨C,e⟩ a s=>a=[.ls 0 C]∧ExR h s C e) (fun ⟨_,e⟩ s v s'=>Ext s s'∧v=iv .i64 (min (szE e) 501:Nat))
 | 123=>ctI (X:=List V × Ex × Nat) (fun ⟨C,e,m⟩ a s=>a=[.ls 0 C,iv .i64 (m:Int)]∧ExR h s C e∧szE e≤m∧m≤500) (fun ⟨_,e,_⟩ s v s'=>Ext s s'∧v=iv .i64 (szE e:Nat))
 | 87=>ctI (X:=List V × Ex) (fun ⟨C,e⟩ a s=>a=[.ls 0 C]∧ExR h s C e∧szE e≤500) (fun ⟨_,e⟩ s v s'=>Ext s s'∧v=iv .i64 (szE e:Nat))
 | 89=>ctI (X:=List V × Ex) (fun ⟨C,e⟩ a s=>a=[.ls 0 C]∧(∃ h,ExR h s C e)∧yd s) (fun ⟨_,e⟩ s v s'=>Ext s s'∧∃ b,v=.bool b∧(noW e=true→b=okN e))
 | 88=>ctI (X:=List V × Ex) (fun ⟨C,e⟩ a s=>a=[.ls 0 C,.fn (.func 89) [] []]∧ExR h s C e∧yd s) (fun ⟨_,e⟩ s v s'=>Ext s s'∧∃ b,v=.bool b∧(zQ noW e=true→b=zQ okN e))
 | 65=>ctI (X:=List V × Ex) (fun ⟨C,e⟩ a s=>a=[.ls 0 C]∧ExR h s C e∧yd s∧szE e≤500) (fun ⟨_,e⟩ s v s'=>Ext s s'∧∃ b,v=.bool b∧(zQ noW e=true→b=zQ okN e))
 | 91=>ctI (X:=List V × Ex) (fun ⟨C,e⟩ a s=>a=[.ls 0 C]∧(∃ h,ExR h s C e)) (fun ⟨_,e⟩ s v s'=>Ext s s'∧v=.bool (qr e))
 | 90=>ctI (X:=List V × Ex) (fun ⟨C,e⟩ a s=>a=[.ls 0 C,.fn (.func 91) [] []]∧ExR h s C e∧yd s) (fun ⟨_,e⟩ s v s'=>Ext s s'∧v=.bool (zQ qr e))
 | 66=>ctI (X:=List V × Ex) (fun ⟨C,e⟩ a s=>a=[.ls 0 C]∧ExR h s C e∧yd s) (fun ⟨_,e⟩ s v s'=>Ext s s'∧v=.bool (zQ qr e))
 | 47=>ctI (X:=List V × Ex) (fun ⟨C,e⟩ a s=>a=[.ls 0 C]∧ExR h s C e∧yd s∧szE e≤500) (fun ⟨_,e⟩ s v s'=>Ext s s'∧v=.bool (zQ okN e && zQ qr e))
 | 124=>ctI (X:=Unit) (fun _ a _=>a=[]) (fun _ s v s'=>Ext s s'∧v=.ls 0 znE)
 | 125=>ctI (X:=Int) (fun z a _=>a=[iv .i64 z]) (fun z s v s'=>s'=s∧v=.bool (decide (0≤z∧z≤500)))
 | 152=>ctI (X:=Int) (fun k a _=>a=[iv .i64 k]) (fun k s v s'=>s'=s∧v=.ls 1 [iv .i64 (lo k:Nat),iv .i64 (hi k:Nat),.bool (decide (1≤k∧k≤20))]∨¬(1≤k∧k≤20)∧s'=s∧∃ x y,v=.ls 1 [x,y,.bool false])
 | 128=>ctI (X:=List V × Ex) (fun ⟨C,e⟩ a s=>a=[.ls 0 C]∧(∃ h,ExR h s C e)) (fun ⟨_,e⟩ s v s'=>Ext s s'∧∃ b,v=.bool b∧(noW e=true→b=okN e))
 | 92=>ctI (X:=List V × Ex) (fun ⟨C,e⟩ a s=>a=[.ls 0 C]∧ExR h s C e∧yd s) (fun ⟨_,e⟩ s v s'=>Ext s s'∧∃ b,v=.bool b∧(zQ noW e=true→b=zQ okN e))
 | 69=>ctI (X:=List V × Ex) (fun ⟨C,e⟩ a s=>a=[.ls 0 C]∧ExR h s C e∧yd s∧szE e≤500) (fun ⟨_,e⟩ s v s'=>Ext s s'∧∃ b,v=.bool b∧(zQ noW e=true→b=zQ okN e))
 | 70=>ctI (X:=List V × Ex) (fun ⟨C,e⟩ a s=>a=[.ls 0 C]∧ExR h s C e∧yd s) (fun ⟨_,e⟩ s v s'=>Ext s s'∧v=.bool (zQ yC e))
 | 52=>ctI (X:=List V × Ex) (fun ⟨C,e⟩ a s=>a=[.ls 0 C]∧ExR h s C e∧yd s∧szE e≤500) (fun ⟨_,e⟩ s v s'=>Ext s s'∧v=.bool (zQ okN e && zQ qr e))
 | f=>KB3 f
theorem qP (h:C.length=7) (c:List V→Go.Ev.A):zg 7 (.ls 0 C) c=c C:=yg 7 C h c
def Z36:List V:=[iv .i64 0,iv .i64 0,iv .i64 0,.str [],iv .i64 0,iv .i64 0,.nil 1]
theorem zcG (s:S) (f:C.length=7) (X:∀ x∈C,x≠.bad):∃ s1,Bx s1 s.nx C 7 36∧Ext s s1∧(∀ k:Go.Ev.K→Nat→S→Go.Ev.A,Go.Ev.newRow s 36 C false k=k s.nx 7 s1) ∧
  ∃ s0,(∀ k:Go.Ev.K→Nat→S→Go.Ev.A,Go.Ev.newRow s 36 [iv .i64 0,iv .i64 0,iv .i64 0,.str [],iv .i64 0,iv .i64 0,.nil 1] false k=k s.nx 7 s0)∧∀ k:V→S→Go.Ev.A,zA 7 (.ptr s.nx 0 0) (.ls 0 C) s0 k=k Go.Ev.undef s1:=by
 obtain ⟨Z,p,g⟩:=qT s (el:=36) f X
 exact ⟨_,Z,p,g,_,fun k=>zU s 36 _ false k,fun k=>zeW s 36 7 Z36 C rfl f k⟩
structure CoX where
 p:V
 l:List Ex
 m:Nat
 a:Go.Ev.K
 c:List V
 b:S
def CoX.base (h:Nat) (c:CoX):Prop:=Sl c.b 7 c.p∧qm c.p=c.l.length∧c.l.length≤9223372036854775807∧(1≤c.m∧c.m≤501)∧(∀ i (hi:i<c.l.length),ExR h c.b (exC c.b c.p i) c.l[i])∧Bx c.b c.a c.c 7 36∧c.c.getD 6 .bad=c.p
def CoX.preR (h:Nat) (c:CoX) (tm:T) (s:S):Prop:=c.base h∧Ext c.b s∧(gp 1 tm=iv .i64 (c.m:Int)∧gp 2 tm=.ptr c.a 0 0∧gp 240 tm=.bad)∧∃ i:Nat,i≤c.l.length∧gp 6 tm=iv .i64 (i:Int)∧gp 5 tm=iv .i64 (min (1+szL (c.l.take i)) c.m:Nat)
def CoX.post (n:Nat) (c:CoX) (x:Go.Ev.A):Prop:=∃ N s,x=.ext 0 N s∧Ext c.b s∧gp 240 N=.bad∧gp 1 N=iv .i64 (c.m:Int)∧gp 5 N=iv .i64 (min (1+szL c.l) c.m:Nat)
def CoX.preE (h:Nat) (c:CoX) (tm:T) (s:S):Prop:=c.base h∧1+szL c.l≤c.m∧Ext c.b s∧(gp 1 tm=iv .i64 (c.m:Int)∧gp 8 tm=c.p∧gp 9 tm=iv .i64 (c.l.length:Int)∧gp 240 tm=.bad)∧∃ i:Nat,i≤c.l.length∧gp 10 tm=iv .i64 (i:Int)∧gp 5 tm=iv .i64 (1+szL (c.l.take i):Nat)
noncomputable def LCo (h:Nat):Nat→Lt
 | 36=>ltI (CoX.preR h) (CoX.post 0)
 | _=>ltI (CoX.preE h) (CoX.post 0)
theorem zAk (D:zo Tryz.prog (KE h) 29):∀ (c:CoX) tm s,c.preR h tm s→c.post 0 (zaZ.run (Rk Tryz.prog (KE h) (LCo h)) tm s):=by
 have B:=zk (zh (L:=LCo h) D) (X:=List V × Ex × Nat) rfl
 refine zL (L:=LCo h) zt zqg rfl (fun tm _=>501 - (toI (gp 6 tm)).toNat) (fun x a ⟨_,_,h,_⟩=>by rw [h];exact fun h=>h) ?_
 rintro ⟨p,l,m,a,c,b⟩ tm s ⟨R,Y,⟨I,J,N⟩,i,hi,W,d⟩ E
 show CoX.post 0 _ (zaZ.run _ tm _)
 generalize Rk Tryz.prog _ _=r at E B ⊢
 obtain ⟨Z,f,ae,⟨m1,m2⟩,M,ad,g⟩:=id R
 simp only at Z f ae m1 m2 M ad g Y I J hi d
 have o:∀ c:V→Go.Ev.A,zm p c=c (iv .i64 (l.length:Int)):=fun c=>by rw [(Z.ext Y).1.len,f]
 have aa:∀ k:V→S→Go.Ev.A,zd false 1 (.ptr a 0 6) s k=k p s:=fun k=>by rw [(ad.ext Y).fld 6 (by omega),g]
 have C:=zr5 l i
 have aj:i≤szL (l.take i):=by have:=zz9 (l.take i);rw [List.length_take] at this;omega
 have fin:(¬i<l.length∨¬1+szL (l.take i)<m)→min (1+szL (l.take i)) m=min (1+szL l) m:=fun h=>by
  rcases h with h | h
  ·rw [show i=l.length by omega,List.take_length]
  ·omega
 by_cases O:i<l.length
 ·by_cases e:1+szL (l.take i)<m
  ·obtain ⟨q,U,P⟩:=ze6 (Z.ext Y).1 f O (by rw [yK Z Y];exact (M i O).cells.2)
   rw [yK Z Y] at P
   obtain ⟨_,s1,T,j,rfl⟩:=B (exC b p i,l[i],m - (1+szL (l.take i))) _ s ⟨rfl,(M i O).ext Y,by omega,by omega⟩
   have H:=zra O
   have ai:i+1≤501:=by omega
   rw [show min (1+szL (l.take i)) m=1+szL (l.take i) by omega] at d
   have ah:((1+szL (l.take i):Nat):Int)<(m:Int):=by omega
   have K:IntKind.i64.wrap ((m:Int) - ((1+szL (l.take i):Nat):Int))=((m - (1+szL (l.take i)):Nat):Int):=w64
   have w2:IntKind.i64.wrap (((1+szL (l.take i):Nat):Int)+((min (szE l[i]) (m - (1+szL (l.take i))):Nat):Int))=((min (1+szL (l.take (i+1))) m:Nat):Int):=w64
   have n:IntKind.i64.wrap ((i:Int)+1)=((i+1:Nat):Int):=w64
   generalize min (szE l[i]) (m - (1+szL (l.take i)))=z at *
   generalize m - (1+szL (l.take i))=y at *
   generalize 1+szL (l.take i)=x at *
   have next:∀ F,(gp 1 F=iv .i64 (m:Int)∧gp 2 F=.ptr a 0 0∧gp 240 F=.bad∧gp 6 F=iv .i64 ((i+1:Nat):Int)∧gp 5 F=iv .i64 (min (1+szL (l.take (i+1))) m:Nat))→CoX.post 0 ⟨p,l,m,a,c,b⟩ (r.code zcl zcT F s1):=fun F ⟨u,Q,G,k6,t⟩ =>
    E ⟨p,l,m,a,c,b⟩ F s1 (by rw [k6,W,zp,zp];omega) ⟨R,Y.trans j,⟨u,Q,G⟩,i+1,O,k6,t⟩
   generalize min (1+szL (l.take (i+1))) m=x2 at *
   simp -implicitDefEqProofs [zey,zdj,I,J,d,W,aa,o,O,ah,U,P,K,w2,n,T]
   apply next
   simp [I,J,N]
  ·have ff:=fin (.inr e)
   have w:min (1+szL (l.take i)) m=m:=Nat.min_eq_right (Nat.le_of_not_lt e)
   rw [w] at ff d
   simp -implicitDefEqProofs [zey,zdj,I,J,d,W,aa,o,O]
   exact ⟨_,s,rfl,Y,by simp [N],by simp [I],by simp [d,←ff]⟩
 ·have ff:=fin (.inl O)
  generalize min (1+szL (l.take i)) m=x at *
  simp -implicitDefEqProofs [zey,zdj,I,J,d,W,aa,o,O]
  exact ⟨_,s,rfl,Y,by simp [N],by simp [I],by simp [d,ff]⟩
theorem zmx {s s1:S} {a:Go.Ev.K} {k a0 b0:Int} {l:List Ex} {c:Nat} (J:Sl s 7 p) (Q:qm p=l.length) (O:l.length≤9223372036854775807) (W:∀ i (hi:i<l.length),ExR h s (exC s p i) l[i]) (E:Ext s s1) (hb:Bx s1 a (ndC k a0 b0 w n m p) 7 36) (X:1≤c∧c≤501):CoX.base h ⟨p,l,c,a,ndC k a0 b0 w n m p,s1⟩ :=
 ⟨(J.ext E).1,Q,O,X,fun i hi=>by show ExR h s1 (exC s1 p i) l[i];rw [yK J E];exact (W i hi).ext E,hb,rfl⟩
theorem zjD:∀ h,zo Tryz.prog (KE h) 29
 | 0=>by rintro a s ⟨⟨C,e,m⟩,-,h,-⟩;exact h.elim
 | h+1=>by
  have P:=zAk (zjD h)
  refine ze0 (K:=KE (h+1)) (K':=KE h) (L:=LCo h) (X:=List V × Ex × Nat) rfl ?_
  rintro ⟨C,⟨k,a0,b0,w,n,m,l⟩,F⟩ a s ⟨rfl,M,I⟩
  generalize Rk Tryz.prog _ _=r at P ⊢
  obtain ⟨H,Z⟩:=M.cells
  obtain ⟨p,rfl,J,Q,O,-,t⟩:=M
  obtain ⟨s1,hb,j,R,-⟩:=zcG s H Z
  have B:=qP H
  have y:=zmx J Q O t j hb I
  generalize ndC k a0 b0 w n m p=C at *
  generalize g:(fnC zf 29).run r _ _=D
  simp -implicitDefEqProofs [zdj,B,R] at g
  generalize f:zaZ.run r _ s1=U at g
  obtain ⟨N,W,rfl,Y,G,-,i⟩:=f▸P ⟨p,l,F,s.nx,C,s1⟩ _ s1 ⟨y,Ext.refl s1,⟨by simp,by simp,by simp⟩,0,Nat.zero_le _,by simp,by
   show gp 5 _=iv .i64 (min (1+szL []) F:Nat)
   rw [szL,Nat.min_eq_left I.1]
   simp⟩
  simp only at Y i
  simp -implicitDefEqProofs [G,i] at g
  refine ⟨_,W,g.symm,j.trans Y,?_⟩
  show _=iv .i64 (min (szE (.mk k a0 b0 w n m l)) F:Nat)
  rw [szE]
theorem zhK (h:Nat):zo Tryz.prog (KE h) 10:=by
 have Q:=zk (zh (L:=noL) (zjD h)) (X:=List V × Ex × Nat) rfl
 refine zr (L:=noL) zt (K:=KE h) (X:=List V × Ex) rfl ?_
 rintro ⟨C,e⟩ a s ⟨rfl,M⟩
 generalize Rk Tryz.prog _ _=r at Q ⊢
 obtain ⟨s1,hb,j,t,-⟩:=zcG s M.cells.1 M.cells.2
 have Y:=qP M.cells.1
 have o:∀ k:V→S→Go.Ev.A,zd true 7 (.ptr s.nx 0 0) s1 k=k (.ls 0 C) s1:=fun k=>hb.all k
 obtain ⟨_,W,T,q,rfl⟩:=Q (C,e,501) _ s1 ⟨rfl,M.ext j,by decide,by decide⟩
 have B:r.call 29 [.ls 0 C,iv .i64 501] s1=.ret (iv .i64 (min (szE e) 501:Nat)) W:=T
 refine ⟨_,W,?_,j.trans q,rfl⟩
 simp -implicitDefEqProofs [zvs,Y,t,o,B]
variable {n:Nat}
theorem zDZ {m:Nat} (h:n≤m) (c:V→Go.Ev.A):yV true [iv .i64 (m:Int)] (iv .i64 (n:Int)) c=c (iv .i64 (n:Int)):=by
 show zrn true (Nat.blt m n) (.nat .i64 n) (.nat .i64 m) c=_
 rw [show Nat.blt m n=false from by rw [←Bool.not_eq_true,Nat.blt_eq];omega];rfl
theorem zCU (D:zo Tryz.prog (KE h) 123):∀ (c:CoX) tm s,c.preE h tm s→c.post 0 (zcz.run (Rk Tryz.prog (KE h) (LCo h)) tm s):=by
 have Q:=zk (zh (L:=LCo h) D) (X:=List V × Ex × Nat) rfl
 refine zL (L:=LCo h) zt zrf rfl (fun tm _=>(toI (gp 9 tm)).toNat - (toI (gp 10 tm)).toNat) (fun x a ⟨_,_,h,_⟩=>by rw [h];exact fun h=>h) ?_
 rintro ⟨p,l,m,a,c,b⟩ tm s ⟨R,hsz,Y,⟨I,B,K,N⟩,i,hi,e,d⟩ J
 show CoX.post 0 _ (zcz.run _ tm _)
 generalize Rk Tryz.prog _ _=r at J Q ⊢
 obtain ⟨Z,f,ae,⟨m1,m2⟩,M,ah,g⟩:=id R
 simp only at Z f ae m1 m2 M ah g Y I B K hi d hsz
 have C:=zr5 l i
 by_cases O:i<l.length
 ·have aa:=(M i O).ext Y
  obtain ⟨q,U,P⟩:=ze6 (Z.ext Y).1 f O (by rw [yK Z Y];exact aa.cells.2)
  rw [yK Z Y] at P
  obtain ⟨s1,hb,j,-,s0,t,st⟩:=zcG s aa.cells.1 aa.cells.2
  have o:∀ k:V→S→Go.Ev.A,zd true 7 (.ptr s.nx 0 0) s1 k=k (.ls 0 (exC b p i)) s1:=fun k=>hb.all k
  have H:=zra O
  have aj:=zr5 l (i+1)
  obtain ⟨_,W,T,w,rfl⟩:=Q (exC b p i,l[i],m - (1+szL (l.take i))) _ s1 ⟨rfl,aa.ext j,by omega,by omega⟩
  have ai:((m:Int)<((1+szL (l.take i):Nat):Int))=False:=eq_false (by omega)
  have w1:IntKind.i64.wrap ((m:Int) - ((1+szL (l.take i):Nat):Int))=((m - (1+szL (l.take i)):Nat):Int):=w64
  have w2:IntKind.i64.wrap (((1+szL (l.take i):Nat):Int)+((szE l[i]:Nat):Int))=((1+szL (l.take (i+1)):Nat):Int):=w64
  have n:IntKind.i64.wrap ((i:Int)+1)=((i+1:Nat):Int):=w64
  have next:∀ F,(gp 1 F=iv .i64 (m:Int)∧gp 8 F=p∧gp 9 F=iv .i64 (l.length:Int)∧gp 240 F=.bad∧gp 10 F=iv .i64 ((i+1:Nat):Int)∧gp 5 F=iv .i64 (1+szL (l.take (i+1)):Nat))→CoX.post 0 ⟨p,l,m,a,c,b⟩ (r.code zgl ze5 F W):=fun F ⟨u,k8,k9,G,ad,E⟩ =>
   J ⟨p,l,m,a,c,b⟩ F W (by rw [k9,ad,K,e,zp,zp,zp];omega) ⟨R,hsz,(Y.trans j).trans w,⟨u,k8,k9,G⟩,i+1,O,ad,E⟩
  generalize szE l[i]=z at *
  generalize m - (1+szL (l.take i))=y at *
  generalize 1+szL (l.take i)=x at *
  generalize 1+szL (l.take (i+1))=x2 at *
  simp -implicitDefEqProofs [zjn,I,d,B,K,e,O,ai,U,P,t,st,o,w1,w2,n,T]
  apply next
  simp [I,B,K,N]
 ·obtain rfl:i=l.length:=by omega
  rw [List.take_length] at d
  simp -implicitDefEqProofs [zjn,K,e]
  exact ⟨_,s,rfl,Y,by simp [N],by simp [I],by simp only [Nat.min_eq_left hsz];simp [d]⟩
theorem zm9:∀ h,zo Tryz.prog (KE h) 123
 | 0=>by rintro a s ⟨⟨C,e,m⟩,-,h,-⟩;exact h.elim
 | h+1=>by
  have P:=zCU (zm9 h)
  refine ze0 (K:=KE (h+1)) (K':=KE h) (L:=LCo h) (X:=List V × Ex × Nat) rfl ?_
  rintro ⟨C,⟨k,a0,b0,w,n,m,l⟩,F⟩ a s ⟨rfl,E,I,x⟩
  rw [szE] at I
  generalize Rk Tryz.prog _ _=r at P ⊢
  obtain ⟨H,Z⟩:=E.cells
  obtain ⟨p,rfl,J,Q,O,-,t⟩:=E
  obtain ⟨s1,hb,j,R,-⟩:=zcG s H Z
  have B:=qP H
  have y:=zmx J Q O t j hb (c:=F) (by omega)
  have T:∀ k:V→S→Go.Ev.A,zd false 1 (.ptr s.nx 0 6) s1 k=k p s1:=fun k=>hb.fld 6 (by omega) k
  have o:∀ c:V→Go.Ev.A,zm p c=c (iv .i64 (l.length:Int)):=fun c=>by rw [J.len,Q]
  generalize ndC k a0 b0 w n m p=C at *
  generalize g:(fnC zf 123).run r _ _=D
  simp -implicitDefEqProofs [zhG,B,R,T,o] at g
  generalize f:zcz.run r _ s1=U at g
  obtain ⟨N,W,rfl,Y,G,u,i⟩:=f▸P ⟨p,l,F,s.nx,C,s1⟩ _ s1 ⟨y,I,Ext.refl s1,⟨by simp,by simp,by simp,by simp⟩,0,Nat.zero_le _,by simp,by
   show gp 5 _=iv .i64 (1+szL []:Nat)
   rw [szL]
   simp⟩
  simp only [Nat.min_eq_left I] at Y u i
  obtain ⟨M,b⟩:∃ M,F+1=M:=⟨_,rfl⟩
  have q:IntKind.i64.wrap ((F:Int)+1)=(M:Int):=w64
  have d:=fun c=>zDZ (m:=M) (n:=1+szL l) (by omega) c
  generalize hz:1+szL l=z at *
  simp -implicitDefEqProofs [G,u,i,q,d] at g
  refine ⟨_,W,g.symm,j.trans Y,?_⟩
  show _=iv .i64 (szE (.mk k a0 b0 w n m l):Nat)
  rw [szE,hz]
theorem zzf (h:Nat):zo Tryz.prog (KE h) 87:=by
 have Q:=zk (zh (L:=noL) (zm9 h)) (X:=List V × Ex × Nat) rfl
 refine zr (L:=noL) zt (K:=KE h) (X:=List V × Ex) rfl ?_
 rintro ⟨C,e⟩ a s ⟨rfl,M,d⟩
 generalize Rk Tryz.prog _ _=r at Q ⊢
 obtain ⟨s1,hb,j,t,-⟩:=zcG s M.cells.1 M.cells.2
 have Y:=qP M.cells.1
 have o:∀ k:V→S→Go.Ev.A,zd true 7 (.ptr s.nx 0 0) s1 k=k (.ls 0 C) s1:=fun k=>hb.all k
 obtain ⟨_,W,T,q,rfl⟩:=Q (C,e,500) _ s1 ⟨rfl,M.ext j,d,kad _⟩
 have B:r.call 123 [.ls 0 C,iv .i64 500] s1=.ret (iv .i64 (szE e:Nat)) W:=T
 refine ⟨_,W,?_,j.trans q,rfl⟩
 simp -implicitDefEqProofs [zxp,Y,t,o,B]
theorem k20 {k:Int} (h:1≤k∧k≤20):k=1∨k=2∨k=3∨k=4∨k=5∨k=6∨k=7∨k=8∨k=9∨k=10∨k=11∨k=12∨k=13∨k=14∨k=15∨k=16∨k=17∨k=18∨k=19∨k=20:=by omega
theorem zDw (h:Nat):zo Tryz.prog (KE h) 125:=by
 refine zr (L:=noL) zt (K:=KE h) (X:=Int) rfl ?_
 rintro z a s rfl
 generalize Rk Tryz.prog _ _=r
 refine ⟨_,s,?_,rfl,rfl⟩
 rcases Classical.propComplete (0≤z) with I | I<;>rcases Classical.propComplete (z≤500) with J | J<;>simp -implicitDefEqProofs [zzw,I,J]
theorem zrV (h:Nat):zo Tryz.prog (KE h) 152:=by
 refine zr (L:=noL) zt (K:=KE h) (X:=Int) rfl ?_
 rintro k a s rfl
 generalize Rk Tryz.prog _ _=r
 by_cases F:1≤k∧k≤20
 ·refine ⟨_,s,?_,.inl ⟨rfl,rfl⟩⟩
  rcases k20 F with rfl | rfl | rfl | rfl | rfl | rfl | rfl | rfl | rfl | rfl | rfl | rfl | rfl | rfl | rfl | rfl | rfl | rfl | rfl | rfl<;>simp -implicitDefEqProofs [zfL,lo,hi]
 ·refine ⟨.ls 1 [iv .i64 1,iv .i64 1,.bool false],s,?_,.inr ⟨F,rfl,_,_,rfl⟩⟩
  have g:∀ c:Int,1≤c→c≤20→(k=c)=False:=fun c I J=>eq_false (by omega)
  by_cases I:1≤k
  ·have J:¬k≤20:=by omega
   simp -implicitDefEqProofs [zfL,g,I,J]
  ·simp -implicitDefEqProofs [zfL,g,I]
theorem zCq (h:Nat):zo Tryz.prog (KE h) 91:=by
 refine zr (L:=noL) zt (K:=KE h) (X:=List V × Ex) rfl ?_
 rintro ⟨C,e⟩ a s ⟨rfl,u,M⟩
 generalize Rk Tryz.prog _ _=r
 obtain ⟨H,Z⟩:=M.cells
 cases u with
 | zero=>exact M.elim
 | succ u =>
 obtain ⟨k,a0,b0,w,n,m,l⟩:=e
 obtain ⟨p,rfl,-⟩:=M
 obtain ⟨s1,hb,j,t,-⟩:=zcG s H Z
 have Y:=qP H
 have f0:∀ f:V→S→Go.Ev.A,zd false 1 (.ptr s.nx 0 0) s1 f=f (iv .i64 k) s1:=hb.fld 0 (by omega)
 have f1:∀ f:V→S→Go.Ev.A,zd false 1 (.ptr s.nx 0 1) s1 f=f (iv .i64 a0) s1:=hb.fld 1 (by omega)
 have f2:∀ f:V→S→Go.Ev.A,zd false 1 (.ptr s.nx 0 2) s1 f=f (iv .i64 b0) s1:=hb.fld 2 (by omega)
 generalize ndC k a0 b0 w n m p=C at *
 refine ⟨_,s1,?_,j,rfl⟩
 unfold qr
 rcases Classical.propComplete (k=2) with J | J
 ·have:=of_eq_true J
  subst this
  simp -implicitDefEqProofs [zn6,Y,t,f0,f1,f2]
 ·by_cases F:k=13∨k=14∨k=15∨k=19
  ·rcases F with rfl | rfl | rfl | rfl<;>simp -implicitDefEqProofs [zn6,Y,t,f0,f1,f2]
  ·have T:(k=13)=False:=eq_false fun h=>F (.inl h)
   have D:(k=14)=False:=eq_false fun h=>F (.inr (.inl h))
   have N:(k=15)=False:=eq_false fun h=>F (.inr (.inr (.inl h)))
   have i:(k=19)=False:=eq_false fun h=>F (.inr (.inr (.inr h)))
   simp -implicitDefEqProofs [zn6,Y,t,f0,J,T,D,N,i]
structure EvX where
 p:V
 l:List Ex
 a:Go.Ev.K
 c:List V
 b:S
def EvX.base (h:Nat) (c:EvX):Prop:=Sl c.b 7 c.p∧qm c.p=c.l.length∧c.l.length≤9223372036854775807∧(∀ i (hi:i<c.l.length),ExR h c.b (exC c.b c.p i) c.l[i])∧(Bx c.b c.a c.c 7 36∧c.c.getD 6 .bad=c.p)∧yd c.b
def EvX.inv (f g:Ex→Bool) (c:EvX) (i:Nat):Prop:=i≤c.l.length∧(ws f (c.l.take i)=true→ws g (c.l.take i)=true)
def EvX.preE (h:Nat) (fv:V) (f g:Ex→Bool) (c:EvX) (tm:T) (s:S):Prop:=c.base h∧Ext c.b s∧(gp 1 tm=fv∧gp 8 tm=c.p∧gp 9 tm=iv .i64 (c.l.length:Int)∧gp 240 tm=.bad)∧∃ i:Nat,gp 10 tm=iv .i64 (i:Int)∧c.inv f g i
def EvX.preR (h:Nat) (f g:Ex→Bool) (c:EvX) (tm:T) (s:S):Prop:=c.base h∧Ext c.b s∧(gp 1 tm=.ptr c.a 0 0∧gp 240 tm=.bad)∧∃ i:Nat,gp 3 tm=iv .i64 (i:Int)∧c.inv f g i
def EvX.post (n:Nat) (f g:Ex→Bool) (c:EvX) (x:Go.Ev.A):Prop:=(∃ N s,x=.ext 0 N s∧Ext c.b s∧gp 240 N=.bad∧(ws f c.l=true→ws g c.l=true))∨∃ N s,x=.ret N s∧Ext c.b s∧gp 240 N=.bad∧gp n N=.bool false∧(ws f c.l=true→ws g c.l=false)
variable {f:Ex→Bool}
theorem EvX.post.nb {g:Ex→Bool} {c:EvX} {x:Go.Ev.A} (h:c.post n f g x):¬x.isBad:=by
 rcases h with ⟨_,_,rfl,_⟩ | ⟨_,_,rfl,_⟩<;>exact fun h=>h
theorem jR {l:List Ex} (h:i<l.length):ws f (l.take (i+1))=true↔ws f (l.take i)=true∧zQ f l[i]=true:=by
 rw [zke,zke,List.take_add_one,kab h]
 simp only [Option.toList,kaq,kak]
 exact ⟨fun h=>⟨fun e z=>h e (.inl z),h _ (.inr rfl)⟩,fun ⟨I,J⟩ e z=>z.elim (I e) fun h=>by rw [h];exact J⟩
theorem wW {l:List Ex} (h:ws f l=true) (hi:i<l.length):zQ f l[i]=true:=(zke f l).1 h _ (kai hi)
mutual
theorem zBd:∀ e:Ex,zQ (fun _=>true) e=true
 | .mk _ _ _ _ _ _ l=>by rw [zQ,ze2 l];rfl
theorem ze2:∀ l:List Ex,ws (fun _=>true) l=true
 | []=>by rw [ws]
 | e::l=>by rw [ws,zBd e,ze2 l];rfl
end
abbrev tt1:Ex→Bool:=fun _=>true
abbrev zcm (h:Nat):Nat→Lt:=fun _=>ltI (EvX.preE h (.fn (.func 91) [] []) tt1 qr) (EvX.post 4 tt1 qr)
variable {h:Nat}
theorem zrP (X:∀ (r:R),r=Rk Tryz.prog (KE h) (zcm h)→∀ C e s,ExR h s C e→yd s→∃ b s',r.call 90 [.ls 0 C,.fn (.func 91) [] []] s=.ret (.bool b) s'∧Ext s s'∧(zQ tt1 e=true→b=zQ qr e)):∀ (c:EvX) tm s,EvX.preE h (.fn (.func 91) [] []) tt1 qr c tm s→c.post 4 tt1 qr (za9.run (Rk Tryz.prog (KE h) (zcm h)) tm s):=by
 have d:=X _ rfl
 refine zL (L:=zcm h) zt zpO rfl (fun tm _=>(toI (gp 9 tm)).toNat - (toI (gp 10 tm)).toNat) (fun x a h=>h.nb) ?_
 rintro ⟨p,l,a,c,b⟩ tm s ⟨y,Y,⟨I,P,H,N⟩,i,D,hi,u⟩ J
 show EvX.post 4 tt1 qr _ (za9.run _ tm _)
 generalize Rk Tryz.prog _ _=r at J d ⊢
 obtain ⟨Z,f,ae,M,-,K⟩:=id y
 simp only at Z f ae M K Y I P H hi u
 by_cases O:i<l.length
 ·have aa:=(M i O).ext Y
  obtain ⟨q,U,z⟩:=ze6 (Z.ext Y).1 f O (by rw [yK Z Y];exact aa.cells.2)
  rw [yK Z Y] at z
  obtain ⟨s1,hb,j,-,s0,t,st⟩:=zcG s aa.cells.1 aa.cells.2
  have o:∀ k:V→S→Go.Ev.A,zd true 7 (.ptr s.nx 0 0) s1 k=k (.ls 0 (exC b p i)) s1:=fun k=>hb.all k
  obtain ⟨v,W,T,w,ad⟩:=d (exC b p i) l[i] s1 (aa.ext j) (K.ext (Y.trans j))
  have E:=(Y.trans j).trans w
  cases v with
  | false =>
   simp -implicitDefEqProofs [zd9,I,P,H,D,O,U,z,t,st,o,T]
   refine .inr ⟨_,W,rfl,E,by simp [N],by simp,fun B=>?_⟩
   have:=ad (wW B O)
   exact Bool.eq_false_iff.2 fun Q=>by rw [wW Q O] at this;cases this
  | true =>
   have m:IntKind.i64.wrap ((i:Int)+1)=((i+1:Nat):Int):=w64
   have next:∀ F,(gp 1 F=.fn (.func 91) [] []∧gp 8 F=p∧gp 9 F=iv .i64 (l.length:Int)∧gp 240 F=.bad∧gp 10 F=iv .i64 ((i+1:Nat):Int))→EvX.post 4 tt1 qr ⟨p,l,a,c,b⟩ (r.code zgv zdl F W):=fun F ⟨n,k8,k9,G,g⟩ =>
    J ⟨p,l,a,c,b⟩ F W (by rw [k9,g,H,D,zp,zp,zp];omega) ⟨y,E,⟨n,k8,k9,G⟩,i+1,g,O,fun B=>by
     have B:=(jR O).1 B
     exact (jR O).2 ⟨u B.1,(ad B.2).symm⟩⟩
   simp -implicitDefEqProofs [zd9,I,P,H,D,O,U,z,t,st,o,T,m]
   apply next
   simp [I,P,H,N]
 ·obtain rfl:i=l.length:=by omega
  rw [List.take_length] at u
  simp -implicitDefEqProofs [zd9,H,D]
  exact .inl ⟨_,s,rfl,Y,by simp [N],u⟩
abbrev zb6 (h:Nat):Nat→Lt:=fun _=>ltI (EvX.preE h (.fn (.func 89) [] []) noW okN) (EvX.post 4 noW okN)
theorem zrm (X:∀ (r:R),r=Rk Tryz.prog (KE h) (zb6 h)→∀ C e s,ExR h s C e→yd s→∃ b s',r.call 88 [.ls 0 C,.fn (.func 89) [] []] s=.ret (.bool b) s'∧Ext s s'∧(zQ noW e=true→b=zQ okN e)):∀ (c:EvX) tm s,EvX.preE h (.fn (.func 89) [] []) noW okN c tm s→c.post 4 noW okN (zbi.run (Rk Tryz.prog (KE h) (zb6 h)) tm s):=by
 have d:=X _ rfl
 refine zL (L:=zb6 h) zt zpB rfl (fun tm _=>(toI (gp 9 tm)).toNat - (toI (gp 10 tm)).toNat) (fun x a h=>h.nb) ?_
 rintro ⟨p,l,a,c,b⟩ tm s ⟨y,Y,⟨I,P,H,N⟩,i,D,hi,u⟩ J
 show EvX.post 4 noW okN _ (zbi.run _ tm _)
 generalize Rk Tryz.prog _ _=r at J d ⊢
 obtain ⟨Z,f,ae,M,-,K⟩:=id y
 simp only at Z f ae M K Y I P H hi u
 by_cases O:i<l.length
 ·have aa:=(M i O).ext Y
  obtain ⟨q,U,z⟩:=ze6 (Z.ext Y).1 f O (by rw [yK Z Y];exact aa.cells.2)
  rw [yK Z Y] at z
  obtain ⟨s1,hb,j,-,s0,t,st⟩:=zcG s aa.cells.1 aa.cells.2
  have o:∀ k:V→S→Go.Ev.A,zd true 7 (.ptr s.nx 0 0) s1 k=k (.ls 0 (exC b p i)) s1:=fun k=>hb.all k
  obtain ⟨v,W,T,w,ad⟩:=d (exC b p i) l[i] s1 (aa.ext j) (K.ext (Y.trans j))
  have E:=(Y.trans j).trans w
  cases v with
  | false =>
   simp -implicitDefEqProofs [zd3,I,P,H,D,O,U,z,t,st,o,T]
   refine .inr ⟨_,W,rfl,E,by simp [N],by simp,fun B=>?_⟩
   have:=ad (wW B O)
   exact Bool.eq_false_iff.2 fun Q=>by rw [wW Q O] at this;cases this
  | true =>
   have m:IntKind.i64.wrap ((i:Int)+1)=((i+1:Nat):Int):=w64
   have next:∀ F,(gp 1 F=.fn (.func 89) [] []∧gp 8 F=p∧gp 9 F=iv .i64 (l.length:Int)∧gp 240 F=.bad∧gp 10 F=iv .i64 ((i+1:Nat):Int))→EvX.post 4 noW okN ⟨p,l,a,c,b⟩ (r.code zgb zdi F W):=fun F ⟨n,k8,k9,G,g⟩ =>
    J ⟨p,l,a,c,b⟩ F W (by rw [k9,g,H,D,zp,zp,zp];omega) ⟨y,E,⟨n,k8,k9,G⟩,i+1,g,O,fun B=>by
     have B:=(jR O).1 B
     exact (jR O).2 ⟨u B.1,(ad B.2).symm⟩⟩
   simp -implicitDefEqProofs [zd3,I,P,H,D,O,U,z,t,st,o,T,m]
   apply next
   simp [I,P,H,N]
 ·obtain rfl:i=l.length:=by omega
  rw [List.take_length] at u
  simp -implicitDefEqProofs [zd3,H,D]
  exact .inl ⟨_,s,rfl,Y,by simp [N],u⟩
abbrev zaS (h:Nat):Nat→Lt:=fun _=>ltI (EvX.preR h noW okN) (EvX.post 2 noW okN)
theorem zoM (X:∀ (r:R),r=Rk Tryz.prog (KE h) (zaS h)→∀ C e s,ExR h s C e→yd s→∃ b s',r.call 92 [.ls 0 C] s=.ret (.bool b) s'∧Ext s s'∧(zQ noW e=true→b=zQ okN e)):∀ (c:EvX) tm s,EvX.preR h noW okN c tm s→c.post 2 noW okN (zab.run (Rk Tryz.prog (KE h) (zaS h)) tm s):=by
 have d:=X _ rfl
 refine zL (L:=zaS h) zt znM rfl (fun tm _=>9223372036854775807 - (toI (gp 3 tm)).toNat) (fun x a h=>h.nb) ?_
 rintro ⟨p,l,a,c,b⟩ tm s ⟨y,Y,⟨I,N⟩,i,D,hi,u⟩ J
 show EvX.post 2 noW okN _ (zab.run _ tm _)
 generalize Rk Tryz.prog _ _=r at J d ⊢
 obtain ⟨Z,f,P,M,⟨ad,t⟩,K⟩:=id y
 simp only at Z f P M ad t K Y I hi u
 have aa:∀ k:V→S→Go.Ev.A,zd false 1 (.ptr a 0 6) s k=k p s:=fun k=>by rw [(ad.ext Y).fld 6 (by omega),t]
 have o:∀ c:V→Go.Ev.A,zm p c=c (iv .i64 (l.length:Int)):=fun c=>by rw [Z.len,f]
 by_cases O:i<l.length
 ·have H:=(M i O).ext Y
  obtain ⟨q,U,z⟩:=ze6 (Z.ext Y).1 f O (by rw [yK Z Y];exact H.cells.2)
  rw [yK Z Y] at z
  obtain ⟨v,W,T,w,j⟩:=d (exC b p i) l[i] s H (K.ext Y)
  have E:=Y.trans w
  cases v with
  | false =>
   simp -implicitDefEqProofs [zcP,I,D,aa,o,O,U,z,T]
   refine .inr ⟨_,W,rfl,E,by simp [N],by simp,fun B=>?_⟩
   have:=j (wW B O)
   exact Bool.eq_false_iff.2 fun Q=>by rw [wW Q O] at this;cases this
  | true =>
   have m:IntKind.i64.wrap ((i:Int)+1)=((i+1:Nat):Int):=w64
   have next:∀ F,(gp 1 F=.ptr a 0 0∧gp 240 F=.bad∧gp 3 F=iv .i64 ((i+1:Nat):Int))→EvX.post 2 noW okN ⟨p,l,a,c,b⟩ (r.code zfd zbw F W):=fun F ⟨n,G,g⟩ =>
    J ⟨p,l,a,c,b⟩ F W (by rw [g,D,zp,zp];omega) ⟨y,E,⟨n,G⟩,i+1,g,O,fun B=>by
     have B:=(jR O).1 B
     exact (jR O).2 ⟨u B.1,(j B.2).symm⟩⟩
   simp -implicitDefEqProofs [zcP,I,D,aa,o,O,U,z,T,m]
   apply next
   simp [I,N]
 ·obtain rfl:i=l.length:=by omega
  rw [List.take_length] at u
  simp -implicitDefEqProofs [zcP,I,D,aa,o]
  exact .inl ⟨_,s,rfl,Y,by simp [N],u⟩
abbrev zcD (h:Nat):Nat→Lt:=fun _=>ltI (EvX.preR h tt1 yC) (EvX.post 2 tt1 yC)
theorem zqq (X:∀ (r:R),r=Rk Tryz.prog (KE h) (zcD h)→∀ C e s,ExR h s C e→yd s→∃ b s',r.call 70 [.ls 0 C] s=.ret (.bool b) s'∧Ext s s'∧(zQ tt1 e=true→b=zQ yC e)):∀ (c:EvX) tm s,EvX.preR h tt1 yC c tm s→c.post 2 tt1 yC (jQ.run (Rk Tryz.prog (KE h) (zcD h)) tm s):=by
 have d:=X _ rfl
 refine zL (L:=zcD h) zt zn3 rfl (fun tm _=>9223372036854775807 - (toI (gp 3 tm)).toNat) (fun x a h=>h.nb) ?_
 rintro ⟨p,l,a,c,b⟩ tm s ⟨y,Y,⟨I,N⟩,i,D,hi,u⟩ J
 show EvX.post 2 tt1 yC _ (jQ.run _ tm _)
 generalize Rk Tryz.prog _ _=r at J d ⊢
 obtain ⟨Z,f,P,M,⟨ad,t⟩,K⟩:=id y
 simp only at Z f P M ad t K Y I hi u
 have aa:∀ k:V→S→Go.Ev.A,zd false 1 (.ptr a 0 6) s k=k p s:=fun k=>by rw [(ad.ext Y).fld 6 (by omega),t]
 have o:∀ c:V→Go.Ev.A,zm p c=c (iv .i64 (l.length:Int)):=fun c=>by rw [Z.len,f]
 by_cases O:i<l.length
 ·have H:=(M i O).ext Y
  obtain ⟨q,U,z⟩:=ze6 (Z.ext Y).1 f O (by rw [yK Z Y];exact H.cells.2)
  rw [yK Z Y] at z
  obtain ⟨v,W,T,w,j⟩:=d (exC b p i) l[i] s H (K.ext Y)
  have E:=Y.trans w
  cases v with
  | false =>
   simp -implicitDefEqProofs [zc1,I,D,aa,o,O,U,z,T]
   refine .inr ⟨_,W,rfl,E,by simp [N],by simp,fun B=>?_⟩
   have:=j (wW B O)
   exact Bool.eq_false_iff.2 fun Q=>by rw [wW Q O] at this;cases this
  | true =>
   have m:IntKind.i64.wrap ((i:Int)+1)=((i+1:Nat):Int):=w64
   have next:∀ F,(gp 1 F=.ptr a 0 0∧gp 240 F=.bad∧gp 3 F=iv .i64 ((i+1:Nat):Int))→EvX.post 2 tt1 yC ⟨p,l,a,c,b⟩ (r.code zci zbO F W):=fun F ⟨n,G,g⟩ =>
    J ⟨p,l,a,c,b⟩ F W (by rw [g,D,zp,zp];omega) ⟨y,E,⟨n,G⟩,i+1,g,O,fun B=>by
     have B:=(jR O).1 B
     exact (jR O).2 ⟨u B.1,(j B.2).symm⟩⟩
   simp -implicitDefEqProofs [zc1,I,D,aa,o,O,U,z,T,m]
   apply next
   simp [I,N]
 ·obtain rfl:i=l.length:=by omega
  rw [List.take_length] at u
  simp -implicitDefEqProofs [zc1,I,D,aa,o]
  exact .inl ⟨_,s,rfl,Y,by simp [N],u⟩
theorem ziM {s s1:S} {a:Go.Ev.K} {k a0 b0:Int} {w:List Nat} {n m:Int} {p:V} {l:List Ex} (J:Sl s 7 p) (Q:qm p=l.length) (O:l.length≤9223372036854775807) (W:∀ i (hi:i<l.length),ExR h s (exC s p i) l[i]) (E:Ext s s1) (hb:Bx s1 a (ndC k a0 b0 w n m p) 7 36) (F:yd s):EvX.base h ⟨p,l,a,ndC k a0 b0 w n m p,s1⟩ :=
 ⟨(J.ext E).1,Q,O,fun i hi=>by show ExR h s1 (exC s1 p i) l[i];rw [yK J E];exact (W i hi).ext E,⟨hb,rfl⟩,F.ext E⟩
theorem zmO:∀ h,zo Tryz.prog (KE h) 90
 | 0=>by rintro a s ⟨⟨C,e⟩,-,h,-⟩;exact h.elim
 | h+1=>by
  have P:=zrP (h:=h) fun r x C e s M F=>by
   subst x
   obtain ⟨_,s1,T,j,rfl⟩:=zk (zh (L:=zcm h) (zmO h)) (X:=List V × Ex) rfl (C,e) _ s ⟨rfl,M,F⟩
   exact ⟨_,s1,T,j,fun _=>rfl⟩
  have D:=zk (zh (L:=zcm h) (zCq h)) (X:=List V × Ex) rfl
  refine ze0 (K:=KE (h+1)) (K':=KE h) (L:=zcm h) (X:=List V × Ex) rfl ?_
  rintro ⟨C,e⟩ a s ⟨rfl,M,F⟩
  generalize Rk Tryz.prog _ _=r at P D ⊢
  obtain ⟨i,Z⟩:=M.cells
  obtain ⟨s1,hb,j,R,-⟩:=zcG s i Z
  obtain ⟨_,W,T,q,rfl⟩:=D (C,e) _ s1 ⟨rfl,h+1,M.ext j⟩
  obtain ⟨k,a0,b0,w,n,m,l⟩:=e
  obtain ⟨p,rfl,J,Q,O,-,t⟩:=M
  have Y:=qP i
  have aa:=hb.ext q
  have y:=ziM J Q O t (j.trans q) aa F
  have H:∀ k:V→S→Go.Ev.A,zd true 7 (.ptr s.nx 0 0) s1 k=k (.ls 0 _) s1:=fun k=>hb.all k
  have z:∀ k:V→S→Go.Ev.A,zd false 1 (.ptr s.nx 0 6) W k=k p W:=fun k=>aa.fld 6 (by omega) k
  have o:∀ c:V→Go.Ev.A,zm p c=c (iv .i64 (l.length:Int)):=fun c=>by rw [J.len,Q]
  generalize ndC k a0 b0 w n m p=C at *
  cases E:qr (.mk k a0 b0 w n m l) with
  | false =>
   rw [E] at T
   refine ⟨_,W,?_,j.trans q,by rw [zQ,E,Bool.false_and]⟩
   simp -implicitDefEqProofs [zco,Y,R,H,T]
  | true =>
   rw [E] at T
   generalize g:(fnC zf 90).run r _ _=d
   simp -implicitDefEqProofs [zco,Y,R,H,z,o,T] at g
   generalize f:za9.run r _ W=B at g
   rcases f▸P ⟨p,l,s.nx,C,W⟩ _ W ⟨y,Ext.refl W,⟨by simp,by simp,by simp,by simp⟩,0,by simp,Nat.zero_le _,fun _=>by rw [List.take_zero,ws]⟩ with ⟨N,I,rfl,b,G,U⟩ | ⟨N,I,rfl,b,G,u,U⟩
   ·simp -implicitDefEqProofs [G] at g
    exact ⟨_,I,g.symm,(j.trans q).trans b,by rw [zQ,E,U (ze2 l)];rfl⟩
   ·simp -implicitDefEqProofs [G,u] at g
    exact ⟨_,I,g.symm,(j.trans q).trans b,by rw [zQ,E,U (ze2 l)];rfl⟩
theorem zwZ (h:Nat):zo Tryz.prog (KE h) 66:=by
 have Q:=zk (zh (L:=noL) (zmO h)) (X:=List V × Ex) rfl
 refine zr (L:=noL) zt (K:=KE h) (X:=List V × Ex) rfl ?_
 rintro ⟨C,e⟩ a s ⟨rfl,M,F⟩
 generalize Rk Tryz.prog _ _=r at Q ⊢
 obtain ⟨s1,hb,j,t,-⟩:=zcG s M.cells.1 M.cells.2
 have Y:=qP M.cells.1
 have o:∀ k:V→S→Go.Ev.A,zd true 7 (.ptr s.nx 0 0) s1 k=k (.ls 0 C) s1:=fun k=>hb.all k
 obtain ⟨_,W,T,q,rfl⟩:=Q (C,e) _ s1 ⟨rfl,M.ext j,F.ext j⟩
 refine ⟨_,W,?_,j.trans q,rfl⟩
 simp -implicitDefEqProofs [zyX,Y,t,o,T]
theorem zpT:∀ h,zo Tryz.prog (KE h) 70
 | 0=>by rintro a s ⟨⟨C,e⟩,-,h,-⟩;exact h.elim
 | h+1=>by
  have P:=zqq (h:=h) fun r x C e s M z=>by
   subst x
   obtain ⟨_,s1,T,j,rfl⟩:=zk (zh (L:=zcD h) (zpT h)) (X:=List V × Ex) rfl (C,e) _ s ⟨rfl,M,z⟩
   exact ⟨_,s1,T,j,fun _=>rfl⟩
  refine ze0 (K:=KE (h+1)) (K':=KE h) (L:=zcD h) (X:=List V × Ex) rfl ?_
  rintro ⟨C,⟨k,a0,b0,w,n,m,l⟩⟩ a s ⟨rfl,M,z⟩
  generalize Rk Tryz.prog _ _=r at P ⊢
  obtain ⟨R,Z⟩:=M.cells
  obtain ⟨s1,hb,j,t,-⟩:=zcG s R Z
  obtain ⟨p,rfl,J,Q,O,-,W⟩:=M
  have Y:=qP R
  have y:=ziM J Q O W j hb z
  have f0:∀ f:V→S→Go.Ev.A,zd false 1 (.ptr s.nx 0 0) s1 f=f (iv .i64 k) s1:=hb.fld 0 (by omega)
  have f1:∀ f:V→S→Go.Ev.A,zd false 1 (.ptr s.nx 0 1) s1 f=f (iv .i64 a0) s1:=hb.fld 1 (by omega)
  have f2:∀ f:V→S→Go.Ev.A,zd false 1 (.ptr s.nx 0 2) s1 f=f (iv .i64 b0) s1:=hb.fld 2 (by omega)
  generalize ndC k a0 b0 w n m p=C at *
  have q:∀ N,(gp 1 N=.ptr s.nx 0 0∧gp 240 N=.bad∧gp 3 N=iv .i64 0)→yC (.mk k a0 b0 w n m l)=true→∃ v s',zF (zx (fun N s=>zae (gp 240 N) (A.fin (gp 2 N) s)) (za (fun N s=>A.ret (sp 2 (V.bool true) N) s) (zn 0 (jQ.run r N s1))))=.ret v s'∧Ext s s'∧v=.bool (zQ yC (.mk k a0 b0 w n m l)):=by
   intro N ⟨u,G,d⟩ E
   generalize B:jQ.run r N s1=A1
   rcases B▸P ⟨p,l,s.nx,C,s1⟩ N s1 ⟨y,Ext.refl s1,⟨u,G⟩,0,d,Nat.zero_le _,fun _=>by rw [List.take_zero,ws]⟩ with ⟨N,I,rfl,b,H,U⟩ | ⟨N,I,rfl,b,H,j2,U⟩
   ·refine ⟨.bool true,I,?_,j.trans b,by rw [zQ,E,U (ze2 l)];rfl⟩
    simp -implicitDefEqProofs [H]
   ·refine ⟨.bool false,I,?_,j.trans b,by rw [zQ,E,U (ze2 l)];rfl⟩
    simp -implicitDefEqProofs [H,j2]
  have bad:yC (.mk k a0 b0 w n m l)=false→(fnC zf 70).run r [.ls 0 C] s=.ret (.bool false) s1→∃ v s',(fnC zf 70).run r [.ls 0 C] s=.ret v s'∧Ext s s'∧v=.bool (zQ yC (.mk k a0 b0 w n m l)):=fun E e=>⟨_,s1,e,j,by rw [zQ,E];rfl⟩
  rcases Classical.propComplete (a0=b0) with aa | aa
  ·by_cases F:k≤10∨k=13∨k=14∨k=15∨k=19
   ·have E:yC (.mk k a0 b0 w n m l)=true:=decide_eq_true ⟨F,of_eq_true aa⟩
    rcases F with F | rfl | rfl | rfl | rfl
    ·have ad:(10<k)=False:=eq_false (by omega)
     generalize g:(fnC zf 70).run r _ _=c
     simp -implicitDefEqProofs [jA,Y,t,f0,f1,f2,ad,aa] at g
     rw [←g]
     exact q _ (by simp) E
    all_goals
     generalize g:(fnC zf 70).run r _ _=c
     simp -implicitDefEqProofs [jA,Y,t,f0,f1,f2,aa] at g
     rw [←g]
     exact q _ (by simp) E
   ·have E:yC (.mk k a0 b0 w n m l)=false:=decide_eq_false fun h=>F h.1
    have ad:(10<k)=True:=eq_true (by omega)
    have T:(k=13)=False:=eq_false (by omega)
    have D:(k=14)=False:=eq_false (by omega)
    have o:(k=15)=False:=eq_false (by omega)
    have i:(k=19)=False:=eq_false (by omega)
    refine bad E ?_
    simp -implicitDefEqProofs [jA,Y,t,f0,f1,f2,ad,T,D,o,i]
  ·have E:yC (.mk k a0 b0 w n m l)=false:=decide_eq_false fun h=>by rw [aa] at h;exact h.2
   refine bad E ?_
   rcases Classical.propComplete (10<k) with F | F<;>rcases Classical.propComplete (k=13) with T | T<;>rcases Classical.propComplete (k=14) with D | D<;>rcases Classical.propComplete (k=15) with o | o<;>rcases Classical.propComplete (k=19) with i | i<;>simp -implicitDefEqProofs [jA,Y,t,f0,f1,f2,F,T,D,o,i,aa]
theorem zth (a b:Int):(0≤a)=False∨((0≤a)=True∧(a≤500)=False)∨((0≤a)=True∧(a≤500)=True∧(0≤b)=False)∨((0≤a)=True∧(a≤500)=True∧(0≤b)=True∧(b≤500)=False)∨((0≤a)=True∧(a≤500)=True∧(0≤b)=True∧(b≤500)=True∧IntKind.i64.wrap (a+b)=a+b∧(0<a+b)=False)∨((0≤a)=True∧(a≤500)=True∧(0≤b)=True∧(b≤500)=True∧IntKind.i64.wrap (a+b)=a+b∧(0<a+b)=True):=by
 by_cases I:0≤a
 ·by_cases J:a≤500
  ·by_cases Q:0≤b
   ·by_cases K:b≤500
    ·have m:IntKind.i64.wrap (a+b)=a+b:=z8 (by omega) (by omega)
     by_cases d:0<a+b<;>simp only [I,J,Q,K,d,m]<;>simp
    ·simp only [I,J,Q,K];simp
   ·simp only [I,J,Q];simp
  ·simp only [I,J];simp
 ·simp only [I];simp
theorem zjv (n m:Int):(0≤n)=False∨((0≤n)=True∧(n≤m)=False)∨((0≤n)=True∧(n≤m)=True∧(m≤20)=False)∨((0≤n)=True∧(n≤m)=True∧(m≤20)=True):=by
 by_cases I:0≤n<;>by_cases J:n≤m<;>by_cases Q:m≤20<;>simp only [I,J,Q]<;>simp
theorem znL {a b:Int} (h:¬(a=0∧b=0)):(a=0)=False∨((a=0)=True∧(b=0)=False):=by
 by_cases I:a=0
 ·exact .inr ⟨eq_true I,eq_false fun J=>h ⟨I,J⟩⟩
 ·exact .inl (eq_false I)
theorem zvz (h0:Nat):zo Tryz.prog (KE h0) 128:=by
 have ae:=zk (zh (L:=noL) (zrV h0)) (X:=Int) rfl
 have ah:=zk (zh (L:=noL) (show zo Tryz.prog (KE h0) 153 from zxT)) (X:=List Nat) rfl
 refine zr (L:=noL) zt (K:=KE h0) (X:=List V × Ex) rfl ?_
 rintro ⟨C,e⟩ a s ⟨rfl,h,M⟩
 generalize Rk Tryz.prog _ _=r at ae ah ⊢
 obtain ⟨ad,u⟩:=M.cells
 cases h with
 | zero=>exact M.elim
 | succ h =>
 obtain ⟨k,a0,b0,w,n,m,l⟩:=e
 obtain ⟨p,rfl,J,Q,O,G,-⟩:=M
 obtain ⟨s1,hb,z,t,-⟩:=zcG s ad u
 have Y:=qP ad
 have f0:∀ f:V→S→Go.Ev.A,zd false 1 (.ptr s.nx 0 0) s1 f=f (iv .i64 k) s1:=hb.fld 0 (by omega)
 have f1:∀ f:V→S→Go.Ev.A,zd false 1 (.ptr s.nx 0 1) s1 f=f (iv .i64 a0) s1:=hb.fld 1 (by omega)
 have f2:∀ f:V→S→Go.Ev.A,zd false 1 (.ptr s.nx 0 2) s1 f=f (iv .i64 b0) s1:=hb.fld 2 (by omega)
 have f3:∀ f:V→S→Go.Ev.A,zd false 1 (.ptr s.nx 0 3) s1 f=f (.str w) s1:=hb.fld 3 (by omega)
 have f4:∀ f:V→S→Go.Ev.A,zd false 1 (.ptr s.nx 0 4) s1 f=f (iv .i64 n) s1:=hb.fld 4 (by omega)
 have f5:∀ f:V→S→Go.Ev.A,zd false 1 (.ptr s.nx 0 5) s1 f=f (iv .i64 m) s1:=hb.fld 5 (by omega)
 have f6:∀ f:V→S→Go.Ev.A,zd false 1 (.ptr s.nx 0 6) s1 f=f p s1:=hb.fld 6 (by omega)
 have ak:∀ W,Ext s1 W→∀ f:V→S→Go.Ev.A,zd false 1 (.ptr s.nx 0 3) W f=f (.str w) W:=fun W e=>(hb.ext e).fld 3 (by omega)
 have o:∀ c:V→Go.Ev.A,zm p c=c (iv .i64 (l.length:Int)):=fun c=>by rw [J.len,Q]
 clear hb J ad u
 generalize ndC k a0 b0 w n m p=C at *
 have bad:∀ v s',okN (.mk k a0 b0 w n m l)=false→v=.bool false→s'=s1→(fnC zf 128).run r [.ls 0 C] s=.ret v s'→∃ v s',(fnC zf 128).run r [.ls 0 C] s=.ret v s'∧Ext s s'∧∃ b,v=.bool b∧(noW (.mk k a0 b0 w n m l)=true→b=okN (.mk k a0 b0 w n m l)):=fun v s' U E g h=>⟨v,s',h,g▸z,false,E,fun _=>U.symm⟩
 obtain ⟨H,s1,T,Z⟩:=ae k _ s1 rfl
 rcases Z with ⟨rfl,rfl⟩ | ⟨F,rfl,x,y,rfl⟩
 rotate_left
 ·refine bad _ _ (decide_eq_false fun h=>F h.1) rfl rfl ?_
  simp -implicitDefEqProofs [zR,Y,t,f0,T,qn]
 by_cases B:(1≤k∧k≤20)∧lo k≤l.length∧l.length≤hi k
 rotate_left
 ·refine bad _ _ (decide_eq_false fun h=>B ⟨h.1,h.2.1⟩) rfl rfl ?_
  by_cases I:1≤k∧k≤20
  ·by_cases J:lo k≤l.length
   ·have D:(l.length<lo k)=False:=eq_false (by omega)
    have N:(hi k<l.length)=True:=eq_true (by omega)
    simp -implicitDefEqProofs [zR,Y,t,f0,f6,o,T,qn,I,D,N]
   ·have D:(l.length<lo k)=True:=eq_true (by omega)
    simp -implicitDefEqProofs [zR,Y,t,f0,f6,o,T,qn,I,D]
  ·simp -implicitDefEqProofs [zR,Y,t,f0,f6,o,T,qn,I]
 obtain ⟨ai,al,an⟩:=B
 have D:(l.length<lo k)=False:=eq_false (by omega)
 have N:(hi k<l.length)=False:=eq_false (by omega)
 rw [decide_eq_true ai] at T
 have w0:IntKind.i64.wrap 0=0:=rfl
 by_cases R:(k=2→(0≤a0∧a0≤500)∧(0≤b0∧b0≤500)∧¬(a0=0∧b0=0))∧(k≠2→a0=0∧b0=0)
 rotate_left
 ·refine bad _ _ (decide_eq_false fun h=>R ⟨h.2.2.1,h.2.2.2.1⟩) rfl rfl ?_
  by_cases i:k=2
  ·subst i
   have ao:¬((0≤a0∧a0≤500)∧(0≤b0∧b0≤500)∧¬(a0=0∧b0=0)):=fun h=>R ⟨fun _=>h,fun h=>absurd rfl h⟩
   rcases zth a0 b0 with j | ⟨j,d⟩ | ⟨j,d,q3⟩ | ⟨j,d,q3,q4⟩ | ⟨j,d,q3,q4,q5,q6⟩ | ⟨j,d,q3,q4,q5,q6⟩
   ·simp -implicitDefEqProofs [zR,Y,t,f0,f1,f2,f6,o,T,qn,D,N,j]
   ·simp -implicitDefEqProofs [zR,Y,t,f0,f1,f2,f6,o,T,qn,D,N,j,d]
   ·simp -implicitDefEqProofs [zR,Y,t,f0,f1,f2,f6,o,T,qn,D,N,j,d,q3]
   ·simp -implicitDefEqProofs [zR,Y,t,f0,f1,f2,f6,o,T,qn,D,N,j,d,q3,q4]
   ·simp -implicitDefEqProofs [zR,Y,t,f0,f1,f2,f6,o,T,qn,D,N,j,d,q3,q4,q5,q6]
   ·exact absurd ⟨⟨of_eq_true j,of_eq_true d⟩,⟨of_eq_true q3,of_eq_true q4⟩,by have:=of_eq_true q6;omega⟩ ao
  ·rcases znL (fun h=>R ⟨fun h=>absurd h i,fun _=>h⟩) with z1 | ⟨z1,z2⟩
   all_goals
    rcases zth a0 b0 with j | ⟨j,d⟩ | ⟨j,d,q3⟩ | ⟨j,d,q3,q4⟩ | ⟨j,d,q3,q4,q5,q6⟩ | ⟨j,d,q3,q4,q5,q6⟩
    ·simp -implicitDefEqProofs [zR,qn, *]
    ·simp -implicitDefEqProofs [zR,qn, *]
    ·simp -implicitDefEqProofs [zR,qn, *]
    ·simp -implicitDefEqProofs [zR,qn, *]
    ·simp -implicitDefEqProofs [zR,qn, *]
    ·simp -implicitDefEqProofs [zR,qn, *]
 by_cases hC:(k=10→0≤n∧n≤m∧m≤20)∧(k≠10→n=0∧m=0)
 rotate_left
 ·refine bad _ _ (decide_eq_false fun h=>hC ⟨h.2.2.2.2.1,h.2.2.2.2.2.1⟩) rfl rfl ?_
  by_cases i:k=2
  ·subst i
   obtain ⟨⟨j,d⟩,⟨q3,q4⟩,q5⟩:=R.1 rfl
   have q6:0<a0+b0:=by omega
   have q7:IntKind.i64.wrap (a0+b0)=a0+b0:=z8 (by omega) (by omega)
   rcases znL (fun h=>hC ⟨fun h=>absurd h (by decide),fun _=>h⟩) with z1 | ⟨z1,z2⟩
   ·rcases zjv n m with r1 | ⟨r1,r2⟩ | ⟨r1,r2,r3⟩ | ⟨r1,r2,r3⟩<;>simp -implicitDefEqProofs [zR,qn, *]
   ·rcases zjv n m with r1 | ⟨r1,r2⟩ | ⟨r1,r2,r3⟩ | ⟨r1,r2,r3⟩<;>simp -implicitDefEqProofs [zR,qn, *]
  ·obtain ⟨rfl,rfl⟩:=R.2 i
   by_cases aa:k=10
   ·subst aa
    have aq:¬(0≤n∧n≤m∧m≤20):=fun h=>hC ⟨fun _=>h,fun h=>absurd rfl h⟩
    rcases zjv n m with r1 | ⟨r1,r2⟩ | ⟨r1,r2,r3⟩ | ⟨r1,r2,r3⟩
    ·simp -implicitDefEqProofs [zR,Y,t,f0,f1,f2,f4,f5,f6,o,T,qn,D,N,w0,r1]
    ·simp -implicitDefEqProofs [zR,Y,t,f0,f1,f2,f4,f5,f6,o,T,qn,D,N,w0,r1,r2]
    ·simp -implicitDefEqProofs [zR,Y,t,f0,f1,f2,f4,f5,f6,o,T,qn,D,N,w0,r1,r2,r3]
    ·exact absurd ⟨of_eq_true r1,of_eq_true r2,of_eq_true r3⟩ aq
   ·rcases znL (fun h=>hC ⟨fun h=>absurd h aa,fun _=>h⟩) with z1 | ⟨z1,z2⟩
    ·rcases zjv n m with r1 | ⟨r1,r2⟩ | ⟨r1,r2,r3⟩ | ⟨r1,r2,r3⟩<;>simp -implicitDefEqProofs [zR,qn, *]
    ·rcases zjv n m with r1 | ⟨r1,r2⟩ | ⟨r1,r2,r3⟩ | ⟨r1,r2,r3⟩<;>simp -implicitDefEqProofs [zR,qn, *]
 by_cases k20:k=20
 ·subst k20
  obtain ⟨rfl,rfl⟩:=R.2 (by decide)
  obtain ⟨rfl,rfl⟩:=hC.2 (by decide)
  have aj:noW (.mk 20 0 0 w 0 0 l)=true→False:=fun h=>by simp [noW] at h
  obtain ⟨_,W,e4,q,ok,rfl,P⟩:=ah w _ s1 ⟨rfl,G⟩
  cases ok with
  | false =>
   refine ⟨.bool false,W,?_,z.trans q,false,rfl,fun h=>(aj h).elim⟩
   simp -implicitDefEqProofs [zR,Y,t,f0,f1,f2,f3,f4,f5,f6,o,T,qn,D,N,w0,e4]
  | true =>
   have ix:∀ (k:IntKind) (c:V→Go.Ev.A),zD (.str w) (iv k 0) c=c (iv .u8 (w.getD 0 0:Nat)):=fun k c=>we w k (List.length_pos_iff.2 (P rfl)) c
   have ar:=ak W q
   generalize w.getD 0 0=x at *
   refine ⟨.bool (decide ((x:Int)≠45)),W,?_,z.trans q,_,rfl,fun h=>(aj h).elim⟩
   simp -implicitDefEqProofs [zR,Y,t,f0,f1,f2,f3,f4,f5,f6,o,T,qn,D,N,w0,e4,ix,ar]
 ·have P:okN (.mk k a0 b0 w n m l)=decide (w=[]):=by
   unfold okN
   exact decide_eq_decide.2 ⟨fun h=>h.2.2.2.2.2.2,fun h=>⟨ai,⟨al,an⟩,R.1,R.2,hC.1,hC.2,h⟩⟩
  refine ⟨.bool (decide (w=[])),s1,?_,z,_,rfl,fun _=>P.symm⟩
  by_cases i:k=2
  ·subst i
   obtain ⟨⟨j,d⟩,⟨q3,q4⟩,q5⟩:=R.1 rfl
   have q6:0<a0+b0:=by omega
   have q7:IntKind.i64.wrap (a0+b0)=a0+b0:=z8 (by omega) (by omega)
   obtain ⟨rfl,rfl⟩:=hC.2 (by decide)
   simp -implicitDefEqProofs [zR,Y,t,f0,f1,f2,f3,f4,f5,f6,o,T,qn,D,N,yj,j,d,q3,q4,q6,q7]
  ·obtain ⟨rfl,rfl⟩:=R.2 i
   by_cases aa:k=10
   ·subst aa
    obtain ⟨r1,r2,r3⟩:=hC.1 rfl
    simp -implicitDefEqProofs [zR,Y,t,f0,f1,f2,f3,f4,f5,f6,o,T,qn,D,N,w0,yj,r1,r2,r3]
   ·obtain ⟨rfl,rfl⟩:=hC.2 aa
    simp -implicitDefEqProofs [zR,Y,t,f0,f1,f2,f3,f4,f5,f6,o,T,qn,D,N,w0,yj,i,aa,k20]
theorem zjZ:∀ h,zo Tryz.prog (KE h) 92
 | 0=>by rintro a s ⟨⟨C,e⟩,-,h,-⟩;exact h.elim
 | h+1=>by
  have P:=zoM (h:=h) fun r x C e s M F=>by
   subst x
   obtain ⟨_,s1,T,j,b,rfl,hb⟩:=zk (zh (L:=zaS h) (zjZ h)) (X:=List V × Ex) rfl (C,e) _ s ⟨rfl,M,F⟩
   exact ⟨b,s1,T,j,hb⟩
  have D:=zk (zh (L:=zaS h) (zvz h)) (X:=List V × Ex) rfl
  refine ze0 (K:=KE (h+1)) (K':=KE h) (L:=zaS h) (X:=List V × Ex) rfl ?_
  rintro ⟨C,e⟩ a s ⟨rfl,M,F⟩
  generalize Rk Tryz.prog _ _=r at P D ⊢
  obtain ⟨H,Z⟩:=M.cells
  obtain ⟨s1,hb,j,R,-⟩:=zcG s H Z
  obtain ⟨_,W,T,q,b,rfl,z⟩:=D (C,e) _ s1 ⟨rfl,h+1,M.ext j⟩
  obtain ⟨k,a0,b0,w,n,m,l⟩:=e
  obtain ⟨p,rfl,J,Q,O,-,t⟩:=M
  have Y:=qP H
  have E:=hb.ext q
  have y:=ziM J Q O t (j.trans q) E F
  have o:∀ k:V→S→Go.Ev.A,zd true 7 (.ptr s.nx 0 0) s1 k=k (.ls 0 _) s1:=fun k=>hb.all k
  generalize ndC k a0 b0 w n m p=C at *
  have aa:zQ noW (.mk k a0 b0 w n m l)=true→noW (.mk k a0 b0 w n m l)=true∧ws noW l=true:=fun h=>by rw [zQ,kaf] at h;exact h
  cases b with
  | false =>
   refine ⟨.bool false,W,?_,j.trans q,false,rfl,fun B=>by rw [zQ,←z (aa B).1,Bool.false_and]⟩
   simp -implicitDefEqProofs [zbl,Y,R,o,T]
  | true =>
   generalize g:(fnC zf 92).run r _ _=d
   simp -implicitDefEqProofs [zbl,Y,R,o,T] at g
   generalize f:zab.run r _ W=c at g
   rcases f▸P ⟨p,l,s.nx,C,W⟩ _ W ⟨y,Ext.refl W,⟨by simp,by simp⟩,0,by simp,Nat.zero_le _,fun _=>by rw [List.take_zero,ws]⟩ with ⟨N,I,rfl,u,G,U⟩ | ⟨N,I,rfl,u,G,i,U⟩
   ·simp -implicitDefEqProofs [G] at g
    exact ⟨_,I,g.symm,(j.trans q).trans u,true,rfl,fun B=>by rw [zQ,←z (aa B).1,U (aa B).2];rfl⟩
   ·simp -implicitDefEqProofs [G,i] at g
    exact ⟨_,I,g.symm,(j.trans q).trans u,false,rfl,fun B=>by rw [zQ,←z (aa B).1,U (aa B).2];rfl⟩
mutual
theorem zgB {f g q:Ex→Bool} (hq:∀ e,f e=true→g e=true→q e=true):∀ e,zQ f e=true→zQ g e=true→zQ q e=true
 | .mk k a b w n m l,h1,h2=>by
  rw [zQ,kaf] at h1 h2 ⊢
  exact ⟨hq _ h1.1 h2.1,zq5 hq l h1.2 h2.2⟩
theorem zq5 {f g q:Ex→Bool} (hq:∀ e,f e=true→g e=true→q e=true):∀ l,ws f l=true→ws g l=true→ws q l=true
 | [],_,_=>by rw [ws]
 | e::l,h1,h2=>by
  rw [ws,kaf] at h1 h2 ⊢
  exact ⟨zgB hq e h1.1 h2.1,zq5 hq l h1.2 h2.2⟩
end
variable {e:Ex}
theorem zrq (I:zQ okN e=true) (J:zQ qr e=true):zQ yC e=true:=by
 refine zgB (fun e I J=>?_) e I J
 obtain ⟨k,a,b,w,n,m,l⟩:=e
 have I:=of_decide_eq_true I
 simp only [qr] at J
 refine decide_eq_true ?_
 by_cases h:k=2
 ·rw [if_pos h] at J
  exact ⟨by omega,of_decide_eq_true J⟩
 ·rw [if_neg h] at J
  have J:=of_decide_eq_true J
  obtain ⟨rfl,rfl⟩:=I.2.2.2.1 h
  exact ⟨by omega,rfl⟩
theorem zrC (h:zQ yC e=true):zQ qr e=true:=by
 refine zgB (fun e h _=>?_) e h h
 obtain ⟨k,a,b,w,n,m,l⟩:=e
 have h:=of_decide_eq_true h
 simp only [qr]
 by_cases J:k=2
 ·rw [if_pos J];exact decide_eq_true h.2
 ·rw [if_neg J];exact decide_eq_true (by omega)
theorem zqO (h:zQ qr e=true):zQ noW e=true:=by
 refine zgB (fun e h _=>?_) e h h
 obtain ⟨k,a,b,w,n,m,l⟩:=e
 simp only [qr] at h
 refine decide_eq_true fun J=>?_
 subst J
 simp at h
variable {b:Bool}
theorem zvq (hb:zQ noW e=true→b=zQ okN e):(b && zQ yC e)=(zQ okN e && zQ qr e):=by
 cases Z:zQ yC e with
 | true =>
  have f:=zrC Z
  rw [f,hb (zqO f)]
 | false =>
  cases C:zQ okN e with
  | false=>simp
  | true =>
   cases f:zQ qr e with
   | false=>simp
   | true=>rw [zrq C f] at Z;cases Z
theorem zxF (hb:zQ noW e=true→b=zQ okN e):(b && zQ qr e)=(zQ okN e && zQ qr e):=by
 cases f:zQ qr e with
 | true=>rw [hb (zqO f)]
 | false=>simp
theorem zB3 (h:Nat):zo Tryz.prog (KE h) 69:=by
 have Q:=zk (zh (L:=noL) (zhK h)) (X:=List V × Ex) rfl
 have I:=zk (zh (L:=noL) (zjZ h)) (X:=List V × Ex) rfl
 refine zr (L:=noL) zt (K:=KE h) (X:=List V × Ex) rfl ?_
 rintro ⟨C,e⟩ a s ⟨rfl,M,F,d⟩
 generalize Rk Tryz.prog _ _=r at Q I ⊢
 obtain ⟨s1,hb,j,t,-⟩:=zcG s M.cells.1 M.cells.2
 have Y:=qP M.cells.1
 obtain ⟨_,W,T,q,rfl⟩:=Q (C,e) _ s1 ⟨rfl,M.ext j⟩
 obtain ⟨_,m,D,u,b,rfl,E⟩:=I (C,e) _ W ⟨rfl,M.ext (j.trans q),F.ext (j.trans q)⟩
 have o:∀ k:V→S→Go.Ev.A,zd true 7 (.ptr s.nx 0 0) s1 k=k (.ls 0 C) s1:=fun k=>hb.all k
 have B:∀ k:V→S→Go.Ev.A,zd true 7 (.ptr s.nx 0 0) W k=k (.ls 0 C) W:=fun k=>(hb.ext q).all k
 rw [Nat.min_eq_left (by omega)] at T
 have g:((szE e:Int)≤500)=True:=eq_true (by show ((szE e:Nat):Int)≤500;have:szE e≤500:=d;omega)
 refine ⟨_,m,?_,(j.trans q).trans u,b,rfl,E⟩
 simp -implicitDefEqProofs [zCJ,Y,t,o,B,T,D,g]
theorem zxG (h:Nat):zo Tryz.prog (KE h) 52:=by
 have Q:=zk (zh (L:=noL) (zB3 h)) (X:=List V × Ex) rfl
 have I:=zk (zh (L:=noL) (zpT h)) (X:=List V × Ex) rfl
 refine zr (L:=noL) zt (K:=KE h) (X:=List V × Ex) rfl ?_
 rintro ⟨C,e⟩ a s ⟨rfl,M,F,d⟩
 generalize Rk Tryz.prog _ _=r at Q I ⊢
 obtain ⟨s1,hb,j,t,-⟩:=zcG s M.cells.1 M.cells.2
 have Y:=qP M.cells.1
 obtain ⟨_,W,T,q,b,rfl,E⟩:=Q (C,e) _ s1 ⟨rfl,M.ext j,F.ext j,d⟩
 have o:∀ k:V→S→Go.Ev.A,zd true 7 (.ptr s.nx 0 0) s1 k=k (.ls 0 C) s1:=fun k=>hb.all k
 have B:∀ k:V→S→Go.Ev.A,zd true 7 (.ptr s.nx 0 0) W k=k (.ls 0 C) W:=fun k=>(hb.ext q).all k
 have U:=zvq E
 cases b with
 | false =>
  refine ⟨.bool false,W,?_,j.trans q,by rw [←U];rfl⟩
  simp -implicitDefEqProofs [zwB,Y,t,o,T]
 | true =>
  obtain ⟨_,m,D,u,rfl⟩:=I (C,e) _ W ⟨rfl,M.ext (j.trans q),F.ext (j.trans q)⟩
  refine ⟨_,m,?_,(j.trans q).trans u,by rw [←U,Bool.true_and]⟩
  simp -implicitDefEqProofs [zwB,Y,t,o,B,T,D]
theorem zCk (a b c:V) (k:List V→Go.Ev.A):zg 3 (.ls 0 [a,b,c]) k=k [a,b,c]:=rfl
theorem zrL {r:R} {s:S}:∃ s',(fnC zf 124).run r [] s=.ret (.ls 0 znE) s'∧Ext s s':=by
 refine ⟨zY s (.row znE 63 176 false 0 0 0),?_,yc _ _⟩
 have t:∀ (Z:List V) (c:Go.Ev.K→Nat→S→Go.Ev.A),Go.Ev.newRow s 176 Z false c=c s.nx Z.length (zY s (.row Z Z.length 176 false 0 0 0)):=fun Z c=>zU s 176 Z false c
 simp -implicitDefEqProofs [zr9,t,zwd,zCk]
 rw [zeW s 176 63 _ _ rfl rfl]
 have B:∀ k:V→S→Go.Ev.A,zd true 63 (.ptr s.nx 0 0) (zY s (.row znE 63 176 false 0 0 0)) k=k (.ls 0 znE) (zY s (.row znE 63 176 false 0 0 0)):=zkG (qQ _ _) rfl (fun y Y=>by obtain ⟨n,-,rfl⟩:=kau.1 Y;exact qG _ _)
 show zF (zx (fun N s=>zae (gp 240 N) (zd true 63 (gp 0 N) s fun v0 _=>.fin v0 s)) (za (fun N s=>.ret N s) (.nrm (sp 0 (.ptr s.nx 0 0) T.new) (zY s (.row znE 63 176 false 0 0 0)))))=_
 generalize zY s (.row znE 63 176 false 0 0 0)=s1 at *
 simp -implicitDefEqProofs [B]
theorem zC7 {k:Int} (h:1≤k∧k≤20):∃ z:Nat,∀ c:V→Go.Ev.A,zi9 21 true 3 (.ls 0 znE) (iv .i64 k) c=c (.ls 0 [iv .i64 (lo k:Nat),iv .i64 (hi k:Nat),iv .i64 (z:Int)]):=by
 rcases k20 h with rfl | rfl | rfl | rfl | rfl | rfl | rfl | rfl | rfl | rfl | rfl | rfl | rfl | rfl | rfl | rfl | rfl | rfl | rfl | rfl
 all_goals exact ⟨_,fun c=>rfl⟩
theorem qe (k:IntKind) (z:Int):yT (iv k z) (iv k z)=true:=by
 cases z with
 | ofNat n=>show zB (qO k k) (Nat.beq n n)=true;rw [zaM,kaF];rfl
 | negSucc n=>show zB (qO k k) (Nat.beq n n)=true;rw [zaM,kaF];rfl
variable {a:Go.Ev.K} {c:List V} {el n:Nat}
theorem zDl {s:S} {b:Go.Ev.K} {x:B} (h:Bx s a c n el) (Z:a≠b):Bx (yI s b x) a c n el:=⟨by rw [z9,if_neg Z];exact h.1,h.2.1,h.2.2.1,h.2.2.2⟩
theorem zuK (h:Nat):zo Tryz.prog (KE h) 124:=by
 refine zr (L:=noL) zt (K:=KE h) (X:=Unit) rfl ?_
 rintro _ a s rfl
 obtain ⟨s',e,E⟩:=zrL (r:=Rk Tryz.prog (KE h) noL) (s:=s)
 exact ⟨_,s',e,E,rfl⟩
theorem ch3 (p q r:Prop):p=False∨(p=True∧q=False)∨(p=True∧q=True∧r=False)∨(p=True∧q=True∧r=True):=by
 by_cases Z:p<;>by_cases U:q<;>by_cases N:r<;>simp only [Z,U,N]<;>simp
theorem ch4 (p q r t:Prop):p=False∨(p=True∧q=False)∨(p=True∧q=True∧r=False)∨(p=True∧q=True∧r=True∧t=False)∨(p=True∧q=True∧r=True∧t=True):=by
 by_cases Z:p<;>by_cases U:q<;>by_cases N:r<;>by_cases H:t<;>simp only [Z,U,N,H]<;>simp
theorem ch5 (p q r t u:Prop):p=False∨(p=True∧q=False)∨(p=True∧q=True∧r=False)∨(p=True∧q=True∧r=True∧t=False)∨(p=True∧q=True∧r=True∧t=True∧u=False)∨(p=True∧q=True∧r=True∧t=True∧u=True):=by
 by_cases Z:p<;>by_cases U:q<;>by_cases N:r<;>by_cases H:t<;>by_cases hu:u<;>simp only [Z,U,N,H,hu]<;>simp
theorem zdD {s:S} (h:Bx s a c n el) (o:Nat) (C:o<n) {x:V} (M:∀ k:List V→Go.Ev.A,zg 1 x k=k [x]) (hb:x≠.bad):∃ s',(∀ k:V→S→Go.Ev.A,zA 1 (.ptr a 0 o) x s k=k Go.Ev.undef s')∧Bx s' a (c.set o x) n el∧(∀ b,s.nx.toNat≤a.toNat∨b.nx.toNat≤a.toNat→Ext b s→Ext b s'):=by
 have hu:∀ (c:List V) o,o<c.length→upd [x] o c=c.set o x:=by
  intro c
  induction c with
  | nil=>intro o h;cases h
  | cons y c X =>
   intro o h
   cases o with
   | zero=>rfl
   | succ o=>show y::upd [x] o c=_;rw [X o (by simpa using h)];rfl
 refine ⟨_,fun k=>js h.1 o x M C k,⟨by rw [z9,if_pos rfl,hu c o (by rw [h.2.1];exact C)],by rw [List.length_set];exact h.2.1,fun y Y=>?_,h.2.2.2⟩,fun b hb e=>?_⟩
 ·rcases List.mem_or_eq_of_mem_set Y with g | g
  ·exact h.2.2.1 y g
  ·rw [g];exact hb
 ·refine ju e ?_
  rcases hb with hb | hb
  ·have:=h.2.2.2;omega
  ·exact hb
theorem zur (h0:Nat):zo Tryz.prog (KE h0) 89:=by
 have aG:=zk (zh (L:=noL) (zuK h0)) (X:=Unit) rfl
 have aD:=zk (zh (L:=noL) (zDw h0)) (X:=Int) rfl
 have aH:=zk (zh (L:=noL) (show zo Tryz.prog (KE h0) 126 from zAp)) (X:=List Nat) rfl
 have aJ:=zk (zh (L:=noL) (show zo Tryz.prog (KE h0) 127 from zuS)) (X:=X2) rfl
 refine zr (L:=noL) zt (K:=KE h0) (X:=List V × Ex) rfl ?_
 rintro ⟨C,e⟩ a s ⟨rfl,⟨h,M⟩,N⟩
 generalize Rk Tryz.prog _ _=r at aG aD aH aJ ⊢
 obtain ⟨aE,Z⟩:=M.cells
 cases h with
 | zero=>exact M.elim
 | succ h =>
 obtain ⟨k,a0,b0,w,n,m,l⟩:=e
 obtain ⟨p,rfl,J,Q,O,G,-⟩:=M
 have Y:=qP aE
 have o:∀ c:V→Go.Ev.A,zm p c=c (iv .i64 (l.length:Int)):=fun c=>by rw [J.len,Q]
 obtain ⟨s1,hb,D,ad,-⟩:=zcG s aE Z
 have f0:∀ f:V→S→Go.Ev.A,zd false 1 (.ptr s.nx 0 0) s1 f=f (iv .i64 k) s1:=hb.fld 0 (by omega)
 have done:∀ b v s',(noW (.mk k a0 b0 w n m l)=true→b=okN (.mk k a0 b0 w n m l))→v=.bool b→Ext s s'→(fnC zf 89).run r [.ls 0 (ndC k a0 b0 w n m p)] s=.ret v s'→∃ v s',(fnC zf 89).run r [.ls 0 (ndC k a0 b0 w n m p)] s=.ret v s'∧Ext s s'∧∃ b,v=.bool b∧(noW (.mk k a0 b0 w n m l)=true→b=okN (.mk k a0 b0 w n m l)):=fun b v s' U E g h=>⟨v,s',h,g,b,E,U⟩
 by_cases H:1≤k∧k≤20
 rotate_left
 ·refine done false _ s1 (fun _=>(decide_eq_false fun h=>H h.1).symm) rfl D ?_
  rcases Classical.propComplete (k<1) with j | j
  ·simp -implicitDefEqProofs [zI,Y,ad,f0,j]
  ·have d:(20<k)=True:=eq_true (by have:=of_eq_false j;omega)
   simp -implicitDefEqProofs [zI,Y,ad,f0,j,d]
 have u:(k<1)=False:=eq_false (by omega)
 have i:(20<k)=False:=eq_false (by omega)
 obtain ⟨b2,q,ae⟩:=qT s1 (el:=175) (c:=[iv .i64 0,iv .i64 0,iv .i64 0]) (n:=3) rfl (by simp [qG])
 generalize zY s1 (.row [iv .i64 0,iv .i64 0,iv .i64 0] 3 175 false 0 0 0)=W at *
 obtain ⟨_,I,T,E3,rfl⟩:=aG () _ W rfl
 obtain ⟨z,ah⟩:=zC7 H
 have aK:=hb.ext (q.trans E3)
 have ai:∀ f:V→S→Go.Ev.A,zd false 1 (.ptr s.nx 0 0) I f=f (iv .i64 k) I:=aK.fld 0 (by omega)
 have aj:∀ f:V→S→Go.Ev.A,zA 3 (.ptr s1.nx 0 0) (.ls 0 [iv .i64 (lo k:Nat),iv .i64 (hi k:Nat),iv .i64 (z:Int)]) I f=f Go.Ev.undef (yI I s1.nx (.row [iv .i64 (lo k:Nat),iv .i64 (hi k:Nat),iv .i64 (z:Int)] 3 175 false 0 0 0)):=fun f=>zlL (b2.ext E3).1 rfl rfl f
 have E4:Ext s (yI I s1.nx (.row [iv .i64 (lo k:Nat),iv .i64 (hi k:Nat),iv .i64 (z:Int)] 3 175 false 0 0 0)):=ju (D.trans (q.trans E3)) D.nx
 have b4:Bx (yI I s1.nx (.row [iv .i64 (lo k:Nat),iv .i64 (hi k:Nat),iv .i64 (z:Int)] 3 175 false 0 0 0)) s1.nx [iv .i64 (lo k:Nat),iv .i64 (hi k:Nat),iv .i64 (z:Int)] 3 175:=⟨by rw [z9,if_pos rfl],rfl,by simp [qG],(b2.ext E3).2.2.2⟩
 have aF:Bx (yI I s1.nx (.row [iv .i64 (lo k:Nat),iv .i64 (hi k:Nat),iv .i64 (z:Int)] 3 175 false 0 0 0)) s.nx _ 7 36:=zDl aK (fun h=>by have:=hb.2.2.2;rw [h] at this;omega)
 generalize yI I s1.nx (.row [iv .i64 (lo k:Nat),iv .i64 (hi k:Nat),iv .i64 (z:Int)] 3 175 false 0 0 0)=P at *
 have g0:∀ f:V→S→Go.Ev.A,zd false 1 (.ptr s1.nx 0 0) P f=f (iv .i64 (lo k:Nat)) P:=b4.fld 0 (by omega)
 have R:∀ f:V→S→Go.Ev.A,zd false 1 (.ptr s1.nx 0 1) P f=f (iv .i64 (hi k:Nat)) P:=b4.fld 1 (by omega)
 have g6:∀ f:V→S→Go.Ev.A,zd false 1 (.ptr s.nx 0 6) P f=f p P:=aF.fld 6 (by omega)
 by_cases B:lo k≤l.length∧l.length≤hi k
 rotate_left
 ·refine done false _ P (fun _=>(decide_eq_false fun h=>B h.2.1).symm) rfl E4 ?_
  rcases Classical.propComplete (l.length<lo k) with j | j
  ·simp -implicitDefEqProofs [zI,Y,ad,f0,u,i,ae,T,ai,ah,aj,qe,g0,R,g6,o,j]
  ·have d:(hi k<l.length)=True:=eq_true (by have:=of_eq_false j;omega)
   simp -implicitDefEqProofs [zI,Y,ad,f0,u,i,ae,T,ai,ah,aj,qe,g0,R,g6,o,j,d]
 have l1:(l.length<lo k)=False:=eq_false (by omega)
 have l2:(hi k<l.length)=False:=eq_false (by omega)
 have aa:∀ f:V→S→Go.Ev.A,zd true 7 (.ptr s.nx 0 0) P f=f (.ls 0 (ndC k a0 b0 w n m p)) P:=fun f=>aF.all f
 obtain ⟨s5,b5,E5,-,s0,ak,al⟩:=zcG P aE Z
 have aw:=aF.ext E5
 have an:=E4.trans E5
 have aA:=E4.nx
 have c0:∀ f:V→S→Go.Ev.A,zd false 1 (.ptr s.nx 0 0) s5 f=f (iv .i64 k) s5:=aw.fld 0 (by omega)
 have c1:∀ f:V→S→Go.Ev.A,zd false 1 (.ptr s.nx 0 1) s5 f=f (iv .i64 a0) s5:=aw.fld 1 (by omega)
 have c2:∀ f:V→S→Go.Ev.A,zd false 1 (.ptr s.nx 0 2) s5 f=f (iv .i64 b0) s5:=aw.fld 2 (by omega)
 have c3:∀ f:V→S→Go.Ev.A,zd false 1 (.ptr s.nx 0 3) s5 f=f (.str w) s5:=aw.fld 3 (by omega)
 have c4:∀ f:V→S→Go.Ev.A,zd false 1 (.ptr s.nx 0 4) s5 f=f (iv .i64 n) s5:=aw.fld 4 (by omega)
 have c5:∀ f:V→S→Go.Ev.A,zd false 1 (.ptr s.nx 0 5) s5 f=f (iv .i64 m) s5:=aw.fld 5 (by omega)
 have F:∀ {t:S} {a' b' n' m':Int} {w':List Nat},Bx t P.nx (ndC k a' b' w' n' m' p) 7 36→(∀ f:V→S→Go.Ev.A,zd false 1 (.ptr P.nx 0 1) t f=f (iv .i64 a') t)∧(∀ f:V→S→Go.Ev.A,zd false 1 (.ptr P.nx 0 2) t f=f (iv .i64 b') t)∧(∀ f:V→S→Go.Ev.A,zd false 1 (.ptr P.nx 0 3) t f=f (.str w') t)∧(∀ f:V→S→Go.Ev.A,zd false 1 (.ptr P.nx 0 4) t f=f (iv .i64 n') t)∧∀ f:V→S→Go.Ev.A,zd false 1 (.ptr P.nx 0 5) t f=f (iv .i64 m') t:=fun h=>⟨h.fld 1 (by omega),h.fld 2 (by omega),h.fld 3 (by omega),h.fld 4 (by omega),h.fld 5 (by omega)⟩
 by_cases aq:k=2
 ·subst aq
  obtain ⟨_,s5,y1,rfl,rfl⟩:=aD a0 _ s5 rfl
  obtain ⟨_,s5,y2,rfl,rfl⟩:=aD b0 _ s5 rfl
  by_cases y:(0≤a0∧a0≤500)∧(0≤b0∧b0≤500)∧¬(a0=0∧b0=0)
  rotate_left
  ·refine done false _ s5 (fun _=>(decide_eq_false fun h=>y (h.2.2.1 rfl)).symm) rfl an ?_
   by_cases j:0≤a0∧a0≤500
   ·rw [decide_eq_true j] at y1
    by_cases d:0≤b0∧b0≤500
    ·rw [decide_eq_true d] at y2
     obtain ⟨rfl,rfl⟩:a0=0∧b0=0:=Decidable.byContradiction fun h=>y ⟨j,d,h⟩
     simp -implicitDefEqProofs [zI,Y,ad,f0,u,i,ae,T,ai,ah,aj,qe,g0,R,g6,o,l1,l2,aa,ak,al,c0,c1,c2,y1]
    ·rw [decide_eq_false d] at y2
     simp -implicitDefEqProofs [zI,Y,ad,f0,u,i,ae,T,ai,ah,aj,qe,g0,R,g6,o,l1,l2,aa,ak,al,c0,c1,c2,y1,y2]
   ·rw [decide_eq_false j] at y1
    simp -implicitDefEqProofs [zI,Y,ad,f0,u,i,ae,T,ai,ah,aj,qe,g0,R,g6,o,l1,l2,aa,ak,al,c0,c1,c2,y1,y2]
  obtain ⟨j,d,x⟩:=y
  rw [decide_eq_true j] at y1
  rw [decide_eq_true d] at y2
  obtain ⟨s6,au,b6,x6⟩:=zdD b5 1 (by omega) (yP .i64 0) (qG _ _)
  obtain ⟨s7,av,b7,x7⟩:=zdD b6 2 (by omega) (yP .i64 0) (qG _ _)
  have ao:=x7 s (.inr aA) (x6 s (.inr aA) an)
  obtain ⟨d1,d2,d3,d4,d5⟩:=F (a':=0) (b':=0) (n':=n) (m':=m) (w':=w) b7
  have q4:a0=0→(b0=0)=False:=fun h=>eq_false fun h'=>x ⟨h,h'⟩
  rcases Classical.propComplete (a0=0) with q5 | q5
  all_goals
   have q6:a0=0→(b0=0)=False:=q4
   rcases ch3 (w=[]) (n=0) (m=0) with u1 | ⟨u1,u2⟩ | ⟨u1,u2,u3⟩ | ⟨u1,u2,u3⟩
   ·refine done false _ s7 (fun _=>by simp [okN,u1]) rfl ao ?_
    simp -implicitDefEqProofs [zI,Y,ad,f0,u,i,ae,T,ai,ah,aj,qe,g0,R,g6,o,l1,l2,aa,ak,al,c0,c1,c2,y1,y2,q4,q5,au,av,d1,d2,d3,d4,yj,u1]
   ·refine done false _ s7 (fun _=>by simp [okN,u1,u2]) rfl ao ?_
    simp -implicitDefEqProofs [zI,Y,ad,f0,u,i,ae,T,ai,ah,aj,qe,g0,R,g6,o,l1,l2,aa,ak,al,c0,c1,c2,y1,y2,q4,q5,au,av,d1,d2,d3,d4,d5,yj,u1,u2]
   ·refine done false _ s7 (fun _=>by simp [okN,u1,u2,u3]) rfl ao ?_
    simp -implicitDefEqProofs [zI,Y,ad,f0,u,i,ae,T,ai,ah,aj,qe,g0,R,g6,o,l1,l2,aa,ak,al,c0,c1,c2,y1,y2,q4,q5,au,av,d1,d2,d3,d4,d5,yj,u1,u2,u3]
   ·refine done true _ s7 (fun _=>(decide_eq_true ⟨H,B,fun _=>⟨j,d,x⟩,fun h=>absurd rfl h,fun h=>absurd h (by decide),fun _=>⟨of_eq_true u2,of_eq_true u3⟩,of_eq_true u1⟩).symm) rfl ao ?_
    simp -implicitDefEqProofs [zI,Y,ad,f0,u,i,ae,T,ai,ah,aj,qe,g0,R,g6,o,l1,l2,aa,ak,al,c0,c1,c2,y1,y2,q4,q5,au,av,d1,d2,d3,d4,d5,yj,u1,u2,u3]
 by_cases ar:k=10
 ·subst ar
  by_cases y:0≤n∧n≤m∧m≤20
  rotate_left
  ·refine done false _ s5 (fun _=>(decide_eq_false fun h=>y (h.2.2.2.2.1 rfl)).symm) rfl an ?_
   rcases Classical.propComplete (n<0) with j | j
   ·simp -implicitDefEqProofs [zI,Y,ad,f0,u,i,ae,T,ai,ah,aj,qe,g0,R,g6,o,l1,l2,aa,ak,al,c0,c4,c5,j]
   ·rcases Classical.propComplete (m<n) with d | d
    ·simp -implicitDefEqProofs [zI,Y,ad,f0,u,i,ae,T,ai,ah,aj,qe,g0,R,g6,o,l1,l2,aa,ak,al,c0,c4,c5,j,d]
    ·have x:(20<m)=True:=eq_true (by have:=of_eq_false j;have:=of_eq_false d;omega)
     simp -implicitDefEqProofs [zI,Y,ad,f0,u,i,ae,T,ai,ah,aj,qe,g0,R,g6,o,l1,l2,aa,ak,al,c0,c4,c5,j,d,x]
  have j:(n<0)=False:=eq_false (by omega)
  have d:(m<n)=False:=eq_false (by omega)
  have x:(20<m)=False:=eq_false (by omega)
  obtain ⟨s6,au,b6,x6⟩:=zdD b5 4 (by omega) (yP .i64 0) (qG _ _)
  obtain ⟨s7,av,b7,x7⟩:=zdD b6 5 (by omega) (yP .i64 0) (qG _ _)
  have ao:=x7 s (.inr aA) (x6 s (.inr aA) an)
  obtain ⟨d1,d2,d3,d4,d5⟩:=F (a':=a0) (b':=b0) (n':=0) (m':=0) (w':=w) b7
  rcases ch3 (a0=0) (b0=0) (w=[]) with u1 | ⟨u1,u2⟩ | ⟨u1,u2,u3⟩ | ⟨u1,u2,u3⟩
  ·refine done false _ s7 (fun _=>by simp [okN,u1]) rfl ao ?_
   simp -implicitDefEqProofs [zI,Y,ad,f0,u,i,ae,T,ai,ah,aj,qe,g0,R,g6,o,l1,l2,aa,ak,al,c0,c4,c5,j,d,x,au,av,d1,d2,u1]
  ·refine done false _ s7 (fun _=>by simp [okN,u1,u2]) rfl ao ?_
   simp -implicitDefEqProofs [zI,Y,ad,f0,u,i,ae,T,ai,ah,aj,qe,g0,R,g6,o,l1,l2,aa,ak,al,c0,c4,c5,j,d,x,au,av,d1,d2,d3,yj,u1,u2]
  ·refine done false _ s7 (fun _=>by simp [okN,u1,u2,u3]) rfl ao ?_
   simp -implicitDefEqProofs [zI,Y,ad,f0,u,i,ae,T,ai,ah,aj,qe,g0,R,g6,o,l1,l2,aa,ak,al,c0,c4,c5,j,d,x,au,av,d1,d2,d3,d4,yj,u1,u2,u3]
  ·refine done true _ s7 (fun _=>(decide_eq_true ⟨H,B,fun h=>absurd h (by decide),fun _=>⟨of_eq_true u1,of_eq_true u2⟩,fun _=>y,fun h=>absurd rfl h,of_eq_true u3⟩).symm) rfl ao ?_
   simp -implicitDefEqProofs [zI,Y,ad,f0,u,i,ae,T,ai,ah,aj,qe,g0,R,g6,o,l1,l2,aa,ak,al,c0,c4,c5,j,d,x,au,av,d1,d2,d3,d4,d5,yj,u1,u2,u3]
 by_cases ax:k=20
 ·subst ax
  have ay:∀ {b:Bool},noW (.mk 20 a0 b0 w n m l)=true→b=okN (.mk 20 a0 b0 w n m l):=fun h=>by simp [noW] at h
  obtain ⟨_,s6,y1,E6,b,rfl⟩:=aH w _ s5 ⟨rfl,N.ext an,G⟩
  cases b with
  | false =>
   refine done false _ s6 ay rfl (an.trans E6) ?_
   simp -implicitDefEqProofs [zI,Y,ad,f0,u,i,ae,T,ai,ah,aj,qe,g0,R,g6,o,l1,l2,aa,ak,al,c0,c3,y1]
  | true =>
  have az:∀ f:V→S→Go.Ev.A,zd false 1 (.ptr s.nx 0 3) s6 f=f (.str w) s6:=(aw.ext E6).fld 3 (by omega)
  obtain ⟨_,s7,y2,E7,z,rfl⟩:=aJ (w,[48]) _ s6 ⟨rfl,N.ext (an.trans E6),G,by decide⟩
  have ao:=(an.trans E6).trans E7
  rcases Classical.propComplete (z<0) with j | j
  ·refine done false _ s7 ay rfl ao ?_
   simp -implicitDefEqProofs [zI,Y,ad,f0,u,i,ae,T,ai,ah,aj,qe,g0,R,g6,o,l1,l2,aa,ak,al,c0,c3,az,y1,y2,j]
  obtain ⟨s8,aB,b8,x8⟩:=zdD (b5.ext (E6.trans E7)) 3 (by omega) (zdG []) (fun h=>by cases h)
  have aC:=x8 s (.inr aA) ao
  obtain ⟨d1,d2,d3,d4,d5⟩:=F (a':=a0) (b':=b0) (n':=n) (m':=m) (w':=[]) b8
  rcases ch4 (a0=0) (b0=0) (n=0) (m=0) with u1 | ⟨u1,u2⟩ | ⟨u1,u2,u3⟩ | ⟨u1,u2,u3,u4⟩ | ⟨u1,u2,u3,u4⟩
  ·refine done false _ s8 ay rfl aC ?_
   simp -implicitDefEqProofs [zI,Y,ad,f0,u,i,ae,T,ai,ah,aj,qe,g0,R,g6,o,l1,l2,aa,ak,al,c0,c3,az,y1,y2,j,aB,d1,d2,u1]
  ·refine done false _ s8 ay rfl aC ?_
   simp -implicitDefEqProofs [zI,Y,ad,f0,u,i,ae,T,ai,ah,aj,qe,g0,R,g6,o,l1,l2,aa,ak,al,c0,c3,az,y1,y2,j,aB,d1,d2,d3,yj,u1,u2]
  ·refine done false _ s8 ay rfl aC ?_
   simp -implicitDefEqProofs [zI,Y,ad,f0,u,i,ae,T,ai,ah,aj,qe,g0,R,g6,o,l1,l2,aa,ak,al,c0,c3,az,y1,y2,j,aB,d1,d2,d3,d4,d5,yj,u1,u2,u3]
  ·refine done false _ s8 ay rfl aC ?_
   simp -implicitDefEqProofs [zI,Y,ad,f0,u,i,ae,T,ai,ah,aj,qe,g0,R,g6,o,l1,l2,aa,ak,al,c0,c3,az,y1,y2,j,aB,d1,d2,d3,d4,d5,yj,u1,u2,u3,u4]
  ·refine done true _ s8 ay rfl aC ?_
   simp -implicitDefEqProofs [zI,Y,ad,f0,u,i,ae,T,ai,ah,aj,qe,g0,R,g6,o,l1,l2,aa,ak,al,c0,c3,az,y1,y2,j,aB,d1,d2,d3,d4,d5,yj,u1,u2,u3,u4]
 obtain ⟨d1,d2,d3,d4,d5⟩:=F b5
 rcases ch5 (a0=0) (b0=0) (w=[]) (n=0) (m=0) with u1 | ⟨u1,u2⟩ | ⟨u1,u2,u3⟩ | ⟨u1,u2,u3,u4⟩ | ⟨u1,u2,u3,u4,u5⟩ | ⟨u1,u2,u3,u4,u5⟩
 ·refine done false _ s5 (fun _=>by simp [okN,aq,u1]) rfl an ?_
  simp -implicitDefEqProofs [zI,Y,ad,f0,u,i,ae,T,ai,ah,aj,qe,g0,R,g6,o,l1,l2,aa,ak,al,c0,aq,ar,ax,d1,d2,u1]
 ·refine done false _ s5 (fun _=>by simp [okN,aq,u1,u2]) rfl an ?_
  simp -implicitDefEqProofs [zI,Y,ad,f0,u,i,ae,T,ai,ah,aj,qe,g0,R,g6,o,l1,l2,aa,ak,al,c0,aq,ar,ax,d1,d2,d3,yj,u1,u2]
 ·refine done false _ s5 (fun _=>by simp [okN,u3]) rfl an ?_
  simp -implicitDefEqProofs [zI,Y,ad,f0,u,i,ae,T,ai,ah,aj,qe,g0,R,g6,o,l1,l2,aa,ak,al,c0,aq,ar,ax,d1,d2,d3,d4,yj,u1,u2,u3]
 ·refine done false _ s5 (fun _=>by simp [okN,ar,u4]) rfl an ?_
  simp -implicitDefEqProofs [zI,Y,ad,f0,u,i,ae,T,ai,ah,aj,qe,g0,R,g6,o,l1,l2,aa,ak,al,c0,aq,ar,ax,d1,d2,d3,d4,d5,yj,u1,u2,u3,u4]
 ·refine done false _ s5 (fun _=>by simp [okN,ar,u4,u5]) rfl an ?_
  simp -implicitDefEqProofs [zI,Y,ad,f0,u,i,ae,T,ai,ah,aj,qe,g0,R,g6,o,l1,l2,aa,ak,al,c0,aq,ar,ax,d1,d2,d3,d4,d5,yj,u1,u2,u3,u4,u5]
 ·refine done true _ s5 (fun _=>(decide_eq_true ⟨H,B,fun h=>absurd h aq,fun _=>⟨of_eq_true u1,of_eq_true u2⟩,fun h=>absurd h ar,fun _=>⟨of_eq_true u4,of_eq_true u5⟩,of_eq_true u3⟩).symm) rfl an ?_
  simp -implicitDefEqProofs [zI,Y,ad,f0,u,i,ae,T,ai,ah,aj,qe,g0,R,g6,o,l1,l2,aa,ak,al,c0,aq,ar,ax,d1,d2,d3,d4,d5,yj,u1,u2,u3,u4,u5]
theorem zmR:∀ h,zo Tryz.prog (KE h) 88
 | 0=>by rintro a s ⟨⟨C,e⟩,-,h,-⟩;exact h.elim
 | h+1=>by
  have P:=zrm (h:=h) fun r x C e s M F=>by
   subst x
   obtain ⟨_,s1,T,j,b,rfl,hb⟩:=zk (zh (L:=zb6 h) (zmR h)) (X:=List V × Ex) rfl (C,e) _ s ⟨rfl,M,F⟩
   exact ⟨b,s1,T,j,hb⟩
  have E:=zk (zh (L:=zb6 h) (zur h)) (X:=List V × Ex) rfl
  refine ze0 (K:=KE (h+1)) (K':=KE h) (L:=zb6 h) (X:=List V × Ex) rfl ?_
  rintro ⟨C,e⟩ a s ⟨rfl,M,F⟩
  generalize Rk Tryz.prog _ _=r at P E ⊢
  obtain ⟨i,Z⟩:=M.cells
  obtain ⟨s1,hb,j,R,-⟩:=zcG s i Z
  obtain ⟨_,W,T,q,b,rfl,z⟩:=E (C,e) _ s1 ⟨rfl,⟨h+1,M.ext j⟩,F.ext j⟩
  obtain ⟨k,a0,b0,w,n,m,l⟩:=e
  obtain ⟨p,rfl,J,Q,O,-,t⟩:=M
  have Y:=qP i
  have ad:=hb.ext q
  have y:=ziM J Q O t (j.trans q) ad F
  have H:∀ k:V→S→Go.Ev.A,zd true 7 (.ptr s.nx 0 0) s1 k=k (.ls 0 _) s1:=fun k=>hb.all k
  have ae:∀ k:V→S→Go.Ev.A,zd false 1 (.ptr s.nx 0 6) W k=k p W:=fun k=>ad.fld 6 (by omega) k
  have o:∀ c:V→Go.Ev.A,zm p c=c (iv .i64 (l.length:Int)):=fun c=>by rw [J.len,Q]
  generalize ndC k a0 b0 w n m p=C at *
  have aa:zQ noW (.mk k a0 b0 w n m l)=true→noW (.mk k a0 b0 w n m l)=true∧ws noW l=true:=fun h=>by rw [zQ,kaf] at h;exact h
  cases b with
  | false =>
   refine ⟨.bool false,W,?_,j.trans q,false,rfl,fun B=>by rw [zQ,←z (aa B).1,Bool.false_and]⟩
   simp -implicitDefEqProofs [zcJ,Y,R,H,T]
  | true =>
   generalize g:(fnC zf 88).run r _ _=d
   simp -implicitDefEqProofs [zcJ,Y,R,H,ae,o,T] at g
   generalize f:zbi.run r _ W=A1 at g
   rcases f▸P ⟨p,l,s.nx,C,W⟩ _ W ⟨y,Ext.refl W,⟨by simp,by simp,by simp,by simp⟩,0,by simp,Nat.zero_le _,fun _=>by rw [List.take_zero,ws]⟩ with ⟨N,I,rfl,u,G,U⟩ | ⟨N,I,rfl,u,G,D,U⟩
   ·simp -implicitDefEqProofs [G] at g
    exact ⟨_,I,g.symm,(j.trans q).trans u,true,rfl,fun B=>by rw [zQ,←z (aa B).1,U (aa B).2];rfl⟩
   ·simp -implicitDefEqProofs [G,D] at g
    exact ⟨_,I,g.symm,(j.trans q).trans u,false,rfl,fun B=>by rw [zQ,←z (aa B).1,U (aa B).2];rfl⟩
theorem zAP (h:Nat):zo Tryz.prog (KE h) 65:=by
 have Q:=zk (zh (L:=noL) (zzf h)) (X:=List V × Ex) rfl
 have I:=zk (zh (L:=noL) (zmR h)) (X:=List V × Ex) rfl
 refine zr (L:=noL) zt (K:=KE h) (X:=List V × Ex) rfl ?_
 rintro ⟨C,e⟩ a s ⟨rfl,M,F,d⟩
 generalize Rk Tryz.prog _ _=r at Q I ⊢
 obtain ⟨s1,hb,j,t,-⟩:=zcG s M.cells.1 M.cells.2
 have Y:=qP M.cells.1
 obtain ⟨_,W,T,q,rfl⟩:=Q (C,e) _ s1 ⟨rfl,M.ext j,d⟩
 obtain ⟨_,m,D,u,b,rfl,E⟩:=I (C,e) _ W ⟨rfl,M.ext (j.trans q),F.ext (j.trans q)⟩
 have o:∀ k:V→S→Go.Ev.A,zd true 7 (.ptr s.nx 0 0) s1 k=k (.ls 0 C) s1:=fun k=>hb.all k
 have B:∀ k:V→S→Go.Ev.A,zd true 7 (.ptr s.nx 0 0) W k=k (.ls 0 C) W:=fun k=>(hb.ext q).all k
 have g:((szE e:Int)≤500)=True:=eq_true (by show ((szE e:Nat):Int)≤500;have:szE e≤500:=d;omega)
 refine ⟨_,m,?_,(j.trans q).trans u,b,rfl,E⟩
 simp -implicitDefEqProofs [zA4,Y,t,o,B,T,D,g]
theorem zoY (h:Nat):zo Tryz.prog (KE h) 47:=by
 have Q:=zk (zh (L:=noL) (zAP h)) (X:=List V × Ex) rfl
 have I:=zk (zh (L:=noL) (zwZ h)) (X:=List V × Ex) rfl
 refine zr (L:=noL) zt (K:=KE h) (X:=List V × Ex) rfl ?_
 rintro ⟨C,e⟩ a s ⟨rfl,M,F,d⟩
 generalize Rk Tryz.prog _ _=r at Q I ⊢
 obtain ⟨s1,hb,j,t,-⟩:=zcG s M.cells.1 M.cells.2
 have Y:=qP M.cells.1
 obtain ⟨_,W,T,q,b,rfl,E⟩:=Q (C,e) _ s1 ⟨rfl,M.ext j,F.ext j,d⟩
 have o:∀ k:V→S→Go.Ev.A,zd true 7 (.ptr s.nx 0 0) s1 k=k (.ls 0 C) s1:=fun k=>hb.all k
 have B:∀ k:V→S→Go.Ev.A,zd true 7 (.ptr s.nx 0 0) W k=k (.ls 0 C) W:=fun k=>(hb.ext q).all k
 have U:=zxF E
 cases b with
 | false =>
  refine ⟨.bool false,W,?_,j.trans q,by rw [←U];rfl⟩
  simp -implicitDefEqProofs [zqh,Y,t,o,T]
 | true =>
  obtain ⟨_,m,D,u,rfl⟩:=I (C,e) _ W ⟨rfl,M.ext (j.trans q),F.ext (j.trans q)⟩
  refine ⟨_,m,?_,(j.trans q).trans u,by rw [←U,Bool.true_and]⟩
  simp -implicitDefEqProofs [zqh,Y,t,o,B,T,D]
end Go.Proofs.YthdlmdoppfigoaaGreatDoor.oev
