/- First laws of the evaluator: values, rows, blocks, frames, places, numbers, texts. No statement of the seat stands here. No condition. By an AI agent. -/
import Derived.Test.YthdlmdoppfigoaaGreatDoorEvA
import Derived.Below
import Derived.Control
import Derived.Deep.MidRow
import Derived.Calls
import Derived.Laws.Strings
import Derived.TacticsIn
import Derived.Laws.Sem
import Derived.Laws.Externs
import Derived.Laws.StructEq
import Derived.ChangeKeysEq
namespace Go.Ev
def Tr.get {α:Type} (d:α):K→Tr α→α
 | _,.lf=>d
 | .h,.nd _ v _=>v
 | .o p,.nd l _ _=>Tr.get d p l
 | .i p,.nd _ _ r=>Tr.get d p r
def K.succ:K→K | .h=>.o .h | .o p=>.i p | .i p=>.o p.succ
def K.toNat:K→Nat | .h=>1 | .o p=>2*p.toNat | .i p=>2*p.toNat+1
def Tr.set {α:Type} (d:α) (x:α):K→Tr α→Tr α
 | .h,.lf=>.nd .lf x .lf
 | .h,.nd l _ r=>.nd l x r
 | .o p,.lf=>.nd (Tr.set d x p .lf) d .lf
 | .o p,.nd l v r=>.nd (Tr.set d x p l) v r
 | .i p,.lf=>.nd .lf d (Tr.set d x p .lf)
 | .i p,.nd l v r=>.nd l v (Tr.set d x p r)
theorem K.toNat_pos (k:K):0<k.toNat:=by induction k<;>simp [K.toNat]<;>omega
theorem K.toNat_succ (k:K):k.succ.toNat=k.toNat+1:=by induction k<;>simp [K.succ,K.toNat]<;>omega
theorem K.toNat_inj {a b:K} (h:a.toNat=b.toNat):a=b:=by
 induction a generalizing b with
 | h=>cases b with
  | h=>rfl
  | o q=>simp [K.toNat] at h;omega
  | i q=>simp [K.toNat] at h;have:=q.toNat_pos;omega
 | o p X=>cases b with
  | h=>simp [K.toNat] at h;omega
  | o q=>have:=X (b:=q) (by simp [K.toNat] at h;omega);rw [this]
  | i q=>simp [K.toNat] at h;omega
 | i p X=>cases b with
  | h=>simp [K.toNat] at h;have:=p.toNat_pos;omega
  | o q=>simp [K.toNat] at h;omega
  | i q=>have:=X (b:=q) (by simp [K.toNat] at h;omega);rw [this]
theorem K.beq_iff (a b:K):K.beq a b=true↔a=b:=by
 induction a generalizing b with
 | h=>cases b<;>simp [K.beq]
 | o p X=>cases b<;>simp [K.beq]<;>exact X _
 | i p X=>cases b<;>simp [K.beq]<;>exact X _
noncomputable instance:DecidableEq K:=fun a b=>decidable_of_iff (K.beq a b=true) (K.beq_iff a b)
section
variable {α β γ:Type}
theorem zoc (d:α) (k:K) (t:Tr α) (c:α→β):Tr.getK d k t c=c (Tr.get d k t):=by
 induction k generalizing t with
 | h=>cases t<;>rfl
 | o p X=>cases t with
  | lf=>rfl
  | nd l v r=>exact X l
 | i p X=>cases t with
  | lf=>rfl
  | nd l v r=>exact X r
theorem zow (d:α) (k:K) (x:α) (t:Tr α) (c:Tr α→β):Tr.setK d k x t c=c (Tr.set d x k t):=by
 induction k generalizing t c with
 | h=>cases t<;>rfl
 | o p X=>cases t with
  | lf=>exact X .lf _
  | nd l v r=>exact X l _
 | i p X=>cases t with
  | lf=>exact X .lf _
  | nd l v r=>exact X r _
theorem zj6 (d:α) (k:K):Tr.get d k .lf=d:=by cases k<;>rfl
theorem get_set (d x:α) (k j:K) (t:Tr α):Tr.get d j (Tr.set d x k t)=if j=k then x else Tr.get d j t:=by
 induction k generalizing t j with
 | h=>cases t<;>cases j<;>simp [Tr.set,Tr.get,zj6]
 | o p X=>cases t<;>cases j<;>simp [Tr.set,Tr.get,X,zj6]
 | i p X=>cases t<;>cases j<;>simp [Tr.set,Tr.get,X,zj6]
theorem zE (n:Nat) (c:Nat→β):fN n c=c n:=by cases n<;>rfl
theorem yy (l:List γ) (c:Nat→β):zdv l c=c l.length:=by
 have h:∀ (l:List γ) (n:Nat),(List.rec (motive:=fun _=>Nat→β) (fun n=>c n) (fun _ _ X n=>fN (Nat.succ n) X) l n:β)=c (n+l.length):=by
  intro l
  induction l with
  | nil=>intro n;rfl
  | cons x l X=>intro n;show fN (Nat.succ n) _=_;rw [zE,X];congr 1;simp;omega
 have:=h l 0
 simpa [zdv] using this
theorem ztJ (o:Nat) (l:List V) (c:V→β):zB1 o l c=c (l.getD o .bad):=by
 induction o generalizing l with
 | zero=>cases l<;>rfl
 | succ o X=>cases l with
  | nil=>rfl
  | cons x l=>exact (X l).trans (by simp)
theorem jY (n:Nat) (l:List γ) (c:List γ→β):zem n l c=c (l.drop n):=by
 induction n generalizing l with
 | zero=>rfl
 | succ n X=>cases l with
  | nil=>rfl
  | cons x l=>exact X l
theorem zgX (n:Nat) (l:List γ) (c:List γ→β):zqv n l c=c (l.take n):=by
 induction n generalizing l c with
 | zero=>show c []=_;simp
 | succ n X=>cases l with
  | nil=>rfl
  | cons x l=>exact X l _
theorem wr (a b:List γ) (c:List γ→β):zfX a b c=c (a++b):=by
 induction a generalizing c with
 | nil=>rfl
 | cons x a X=>exact X _
def put:List V→List V→List V
 | [],l=>l
 | x::xs,[]=>x::put xs []
 | x::xs,_::t=>x::put xs t
def upd (xs:List V):Nat→List V→List V
 | 0,l=>put xs l
 | o+1,[]=>.bad::upd xs o []
 | o+1,y::t=>y::upd xs o t
theorem zz5 (xs l:List V) (c:List V→β):zDL xs l c=c (put xs l):=by
 induction xs generalizing l c with
 | nil=>rfl
 | cons x xs X=>cases l with
  | nil=>exact X [] _
  | cons y t=>exact X t _
@[simp] theorem zeU (xs : List V) (o : Nat) (l : List V) (c : List V → β) : zJ xs o l c = c (upd xs o l) := by
  induction o generalizing l c with
  | zero => exact zz5 xs l c
  | succ o X => cases l with
    | nil => exact X [] _
    | cons y t => exact X t _
def rep (l:List V):Nat→List V
 | 0=>[]
 | n+1=>l++rep l n
@[simp] theorem zg1 (l : List V) (n : Nat) (c : List V → β) : zav l n c = c (rep l n) := by
  induction n generalizing c with
  | zero => rfl
  | succ n X => exact (X _).trans (wr _ _ _)
theorem zrB (xs l:List V):(put xs l).length=max xs.length l.length:=by
 induction xs generalizing l with
 | nil=>simp [put]
 | cons x xs X=>cases l<;>simp [put,X]<;>omega
theorem zz6 (xs l:List V) (i:Nat):(put xs l)[i]?=if i<xs.length then xs[i]? else l[i]?:=by
 induction xs generalizing l i with
 | nil=>simp [put]
 | cons x xs X=>cases l with
  | nil=>cases i<;>simp [put,X]
  | cons y t=>cases i<;>simp [put,X]
theorem zdn (xs:List V) (o:Nat) (l:List V) (h:o+xs.length≤l.length):(upd xs o l).length=l.length:=by
 induction o generalizing l with
 | zero=>simp [upd,zrB];omega
 | succ o X=>cases l with
  | nil=>simp at h
  | cons y t=>simp [upd];exact X t (by simp at h;omega)
theorem zgN (xs:List V) (o:Nat) (l:List V) (h:o+xs.length≤l.length) (i:Nat) :
  (upd xs o l)[i]?=if o≤i∧i<o+xs.length then xs[i - o]? else l[i]?:=by
 induction o generalizing l i with
 | zero=>simp [upd,zz6]
 | succ o X=>cases l with
  | nil=>simp at h
  | cons y t=>cases i with
   | zero=>simp [upd]
   | succ i =>
    simp only [upd,List.getElem?_cons_succ]
    rw [X t (by simp at h;omega)]
    have e:i+1 - (o+1)=i - o:=by omega
    have D:(o+1≤i+1∧i+1<o+1+xs.length)↔(o≤i∧i<o+xs.length):=by omega
    simp only [e,D]
theorem zjg (l:List V) (n:Nat):(rep l n).length=n*l.length:=by
 induction n with
 | zero=>simp [rep]
 | succ n X=>simp [rep,X,Nat.succ_mul];omega
theorem za1 (b:Bool) (c:V→β):fB b c=c (.bool b):=by cases b<;>rfl
theorem j6 (b:Bool):zbj b=!b:=by cases b<;>rfl
theorem zgZ (a b:Bool):zB a b=(a && b):=by cases a<;>rfl
theorem zsu (k:IntKind) (z:Int) (c:V→β):ofI k z c=c (match z with | .ofNat m=>.nat k m | .negSucc m=>.neg k m):=by
 cases z with
 | ofNat m=>show fN m (fun m=>c (V.nat k m))=c (V.nat k m);rw [zE]
 | negSucc m=>show fN m (fun m=>c (V.neg k m))=c (V.neg k m);rw [zE]
theorem qb (s:S) (a:K) (c:B→β):qk s a c=c (Tr.get B.none a s.h):=by cases s;exact zoc _ _ _ _
theorem ym (s:S) (a:K) (b:B) (c:S→β):wV s a b c=c ⟨Tr.set B.none b a s.h,s.nx⟩:=by cases s;exact zow _ _ _ _ _
theorem zwT (k:K) (c:K→β):zBC k c=c k.succ:=by
 induction k generalizing c with
 | h=>rfl
 | o p X=>rfl
 | i p X=>exact X _
theorem zfc (s:S) (b:B) (c:K→S→β):zcR s b c=c s.nx ⟨Tr.set B.none b s.nx s.h,s.nx.succ⟩:=by
 cases s
 exact (zow _ _ _ _ _).trans (zwT _ _)
end
open Go.RowKit
structure Val where
 blk:K→Nat→Option (Nat × Nat)
 cap:K→Nat→Nat
 sz:K→Nat
def Val.le (ν W:Val):Prop:=∀ a v p,ν.blk a v=some p→W.blk a v=some p∧W.cap a v=ν.cap a v∧W.sz a=ν.sz a
theorem Val.le_refl (ν:Val):ν.le ν:=fun _ _ _ h=>⟨h,rfl,rfl⟩
theorem Val.le_trans {a b c:Val} (h:a.le b) (k:b.le c):a.le c:=fun x v p Z=>by
 obtain ⟨I,J,Q⟩:=h x v p Z
 obtain ⟨u,i,y⟩:=k x v p I
 exact ⟨u,i.trans J,y.trans Q⟩
def zP (s:ByteArray):List Nat:=s.data.toList.map UInt8.toNat
mutual
def VR (ν:Val):V→Value→Prop
 | .bad,_=>True
 | .nat k n,x=>x=.int k (Int.ofNat n)
 | .neg k n,x=>x=.int k (Int.negSucc n)
 | .bool b,x=>x=.bool b
 | .str l,x=>∃ s,x=.string s∧zP s=l
 | .ptr a v o,x=>∃ b δ,ν.blk a v=some (b,δ)∧x=.pointer (some ⟨b,δ+o,none⟩)
 | .sl a v o len cap,x=>∃ b δ,ν.blk a v=some (b,δ)∧x=.slice (some ⟨b,δ+o,none⟩) len cap∧len≤cap
 | .so a v o len e,x=>∃ b δ cap,ν.blk a v=some (b,δ)∧x=.slice (some ⟨b,δ+o,none⟩) len cap∧len≤cap∧ν.cap a v=e+cap∧o=e*ν.sz a
 | .nil t,x=>match t with
  | 0=>x=.pointer none | 1=>x=.slice none 0 0 | 2=>x=.map none | 3=>x=.nilFunc | 4=>x=.nilIface | _=>False
 | .ref t a,x=>match t with
  | 0=>∃ b,ν.blk a 0=some (b,0)∧x=.map (some b)
  | 1=>(∃ ad,x=.slice (some ad) 0 0)∨∃ v b δ off cap,ν.blk a v=some (b,δ)∧x=.slice (some ⟨b,off,none⟩) 0 cap∧δ≤off∧off+cap*ν.sz a≤δ+ν.cap a v*ν.sz a
  | 3=>∃ b,ν.blk a 0=some (b,0)∧x=.func (.yield b) #[] #[]
  | _=>False
 | .ls t l,x=>∃ c:List Value,VRs ν l c∧match t with
  | 0=>x=.agg ⟨c⟩∧∀ y∈c,y.oneCell'=true
  | 1=>x=.tuple ⟨c⟩
  | _=>False
 | .fn f a b,x=>∃ c d:List Value,VRs ν a c∧VRs ν b d∧x=.func f ⟨c⟩ ⟨d⟩
 | .ifc t v,x=>∃ y,VR ν v y∧x=.iface t y
def VRs (ν:Val):List V→List Value→Prop
 | [],c=>c=[]
 | v::l,c=>∃ x r,c=x::r∧VR ν v x∧VRs ν l r
end
variable {ν:Val}
theorem VR.ref1 {a:K} {x:Value} (h:VR ν (.ref 1 a) x):∃ E cap,x=.slice (some E) 0 cap:=by
 rcases h with ⟨_,h⟩ | ⟨_,_,_,_,_,_,h,_⟩<;>exact ⟨_,_,h⟩
theorem VR.undef:VR ν Ev.undef Go.undef:=by
 refine ⟨[],rfl,rfl⟩
mutual
theorem VR.mono {ν ν':Val} (h:ν.le ν'):∀ (v:V) (x:Value),VR ν v x→VR ν' v x
 | .bad,_,_=>trivial
 | .nat _ _,_,r=>r
 | .neg _ _,_,r=>r
 | .bool _,_,r=>r
 | .str _,_,r=>r
 | .ptr _ _ _,_,⟨b,δ,r,e⟩=>⟨b,δ,(h _ _ _ r).1,e⟩
 | .sl _ _ _ _ _,_,⟨b,δ,r,e⟩=>⟨b,δ,(h _ _ _ r).1,e⟩
 | .so _ _ _ _ _,_,⟨b,δ,cap,r,e,e2,e3,e4⟩=>⟨b,δ,cap,(h _ _ _ r).1,e,e2,(h _ _ _ r).2.1▸e3,(h _ _ _ r).2.2▸e4⟩
 | .nil _,_,r=>r
 | .ref 0 _,_,⟨b,r,e⟩=>⟨b,(h _ _ _ r).1,e⟩
 | .ref 1 _,_,.inl g=>.inl g
 | .ref 1 _,_,.inr ⟨v,b,δ,off,cap,r,e,e2,e3⟩=>.inr ⟨v,b,δ,off,cap,(h _ _ _ r).1,e,e2,by rw [(h _ _ _ r).2.1,(h _ _ _ r).2.2];exact e3⟩
 | .ref 2 _,_,r=>r.elim
 | .ref 3 _,_,⟨b,r,e⟩=>⟨b,(h _ _ _ r).1,e⟩
 | .ref (_+4) _,_,r=>r.elim
 | .ls _ l,_,⟨c,r,e⟩=>⟨c,VRs.mono h l c r,e⟩
 | .fn _ a b,_,⟨c,d,r,q,e⟩=>⟨c,d,VRs.mono h a c r,VRs.mono h b d q,e⟩
 | .ifc _ v,_,⟨y,r,e⟩=>⟨y,VR.mono h v y r,e⟩
theorem VRs.mono {ν ν':Val} (h:ν.le ν'):∀ (l:List V) (c:List Value),VRs ν l c→VRs ν' l c
 | [],_,r=>r
 | v::l,_,⟨x,r,e,q,s⟩=>⟨x,r,e,VR.mono h v x q,VRs.mono h l r s⟩
end
theorem VRs.length {ν:Val}:∀ {l:List V} {c:List Value},VRs ν l c→c.length=l.length
 | [],_,r=>by simp [VRs] at r;simp [r]
 | v::l,_,⟨x,r,e,_,s⟩=>by rw [e];simp [VRs.length s]
theorem VRs.get {ν:Val}:∀ {l:List V} {c:List Value},VRs ν l c→∀ (i:Nat) (x:V),l[i]?=some x→∃ y,c[i]?=some y∧VR ν x y
 | [],_,_,i,x,h=>by simp at h
 | v::l,_,⟨x,r,e,q,s⟩,i,y,h=>by
  subst e
  cases i with
  | zero=>simp at h;subst h;exact ⟨x,rfl,q⟩
  | succ i=>simp at h;simpa using VRs.get s i y h
theorem VRs.of_get {ν:Val}:∀ {l:List V} {c:List Value},c.length=l.length→(∀ (i:Nat) (x:V),l[i]?=some x→∃ y,c[i]?=some y∧VR ν x y)→VRs ν l c
 | [],c,h,_=>by simp at h;simp [VRs,h]
 | v::l,[],h,_=>by simp at h
 | v::l,x::c,h,g=>by
  refine ⟨x,c,rfl,?_,VRs.of_get (by simpa using h) fun i y hi=>?_⟩
  ·obtain ⟨y,Y,r⟩:=g 0 v rfl
   simp at Y;subst Y;exact r
  ·simpa using g (i+1) y (by simpa using hi)
theorem VRs.append {ν:Val}:∀ {l m:List V} {c d:List Value},VRs ν l c→VRs ν m d→VRs ν (l++m) (c++d)
 | [],_,_,_,h,k=>by simp [VRs] at h;simpa [h] using k
 | v::l,_,_,_,⟨x,r,e,q,s⟩,k=>by subst e;exact ⟨x,_,rfl,q,VRs.append s k⟩
def MR (ν:Val) (e:ME) (f:MapEntry):Prop:=VR ν e.key f.key∧VR ν e.val f.val∧e.born=f.born
def MRs (ν:Val):List ME→List MapEntry→Prop
 | [],c=>c=[]
 | e::l,c=>∃ x r,c=x::r∧MR ν e x∧MRs ν l r
def lst:Nat→LoopState→Prop
 | 0,s=>s=.ready | 1,s=>s=.busy | 2,s=>s=.done | 3,s=>s=.exhausted | _,_=>False
def SlR (ν:Val) (fi:FI) (get:T→Nat→V) (ds:List Nat) (tm:T) (le:List V) (tmps:Array Value) (t:Nat):Prop :=
 (qV fi.ns t=false→yl fi.ns t<240→idx t ds 0=none→VR ν (get tm (yl fi.ns t)) (tmps.getD t Go.undef)) ∧
 (∀ i,idx t ds 0=some i→VR ν (le.getD i .bad) (tmps.getD t Go.undef))
def FrR (ν:Val) (fi:FI) (get:T→Nat→V) (tm:T) (tmps:Array Value):Prop :=
 tmps.size=fi.nt∧∀ t,qV fi.ns t=false→yl fi.ns t<240→VR ν (get tm (yl fi.ns t)) (tmps.getD t Go.undef)
def N.get {α:Type}:N α→Nat→Option α
 | ⟨a0,a1,a2,a3,a4,a5,a6,a7,a8,a9,a10,a11,a12,a13,a14,a15⟩,i=>[a0,a1,a2,a3,a4,a5,a6,a7,a8,a9,a10,a11,a12,a13,a14,a15][i]?
def T.get (t:T) (i:Nat):V:=((N.get t (i / 16)).bind fun u=>N.get u (i % 16)).getD .bad
def FzR (E:Nat × Nat) (q f1 f2:Nat):Prop:=E.1=E.2∨(q+f1≤E.1∧E.1≤E.2∧E.2≤q+f2)
variable {c:Array Value} {f1 f2 q:Nat} {E:Nat × Nat} {el:TypeId}
theorem FzR.old {w:World} {b:Nat} (h:FzR E q f1 f2) (X:w.heap[b]?=some (.cells c el E)) (i:Nat) (B:w.frozen? ⟨b,i,none⟩=true):q+f1≤i∧i<q+f2:=by
 unfold World.frozen? at B
 rw [X] at B
 unfold FzR at h
 simp at B
 omega
theorem zyL {w:World} {b:Nat} (X:w.heap[b]?=some (.cells c el E)) (h:E.1=E.2) (j:Nat):w.frozen? ⟨b,j,none⟩=false:=by
 cases B:w.frozen? ⟨b,j,none⟩ with
 | false=>rfl
 | true =>
  unfold World.frozen? at B
  rw [X] at B
  simp at B
  omega
structure RowR (P:Program) (ν:Val) (w:World) (a:K) (l:List V) (n el:Nat) (gr:Bool) (mn f1 f2:Nat):Prop where
 len:l.length=n
 v0:gr=false→∀ v p,ν.blk a v=some p→v=0∧p.2=0
 vn:gr=true→∀ v p,ν.blk a v=some p→v≤n
 mnn:gr=true→mn≤n
 same:∀ v v' b δ δ',ν.blk a v=some (b,δ)→ν.blk a v'=some (b,δ')→δ=δ'
 at_:∀ v b δ,ν.blk a v=some (b,δ)→∃ c fz,w.heap[b]?=some (.cells c el fz)∧ν.sz a=P.cellsOf el ∧
  ((gr=false∧f1=0∧n≤f2)∨FzR fz δ f1 f2) ∧
  (gr=true→δ+ν.cap a v*ν.sz a≤c.size∧v≤ν.cap a v*ν.sz a) ∧
  ((gr=true→mn≤v)→∀ (i:Nat) (x:V),l[i]?=some x→(gr=true→i<v)→∃ y,c[δ+i]?=some y∧(x≠.bad→y.oneCell'=true)∧VR ν x y)
def BR (P:Program) (ν:Val) (w:World) (a:K):B→Prop
 | .none=>True
 | .row l n el D W f1 f2=>RowR P ν w a l n el D W f1 f2
 | .map es R=>∀ v b q,ν.blk a v=some (b,q)→v=0∧∃ X,w.heap[b]?=some (.map X R)∧MRs ν es X.toList
 | .loop st pend z tm ps e body df=>∀ v b q,ν.blk a v=some (b,q)→v=0∧z.ng≤P.globals.size∧∃ ls fn tmps d,w.heap[b]?=some (.loop { state:=ls,pending:=pend,fn:=fn,tmps:=tmps,params:=⟨ps⟩,assign:=e,body:=body,defers:=d }) ∧
   lst st ls∧FrR ν z T.get tm tmps∧(∃ f,ν.blk df 0=some (d,f))
 | .dfd l=>∀ v b q,ν.blk a v=some (b,q)→v=0∧(l=some []→w.heap[b]?=some (.deferred (some [])))∧∃ x,w.heap[b]?=some (.deferred x)
 | .it s pos _=>∀ v b q,ν.blk a v=some (b,q)→v=0∧q=0∧∃ t,w.heap[b]?=some (.stringIter t pos)∧(zP t).drop pos=s
def znQ:B→Prop
 | .row _ n _ D _ f1 f2=>D=false∧f1=0∧n≤f2
 | _=>False
def B.live:B→Prop | .none=>False | _=>True
structure St (P:Program) (n0:Nat) (w0:World) (ν:Val) (s:S) (w:World):Prop where
 below:Below n0 w0 w
 n0le:n0≤w0.heap.size
 rows:∀ a,BR P ν w a (Tr.get B.none a s.h)
 fresh:∀ a,s.nx.toNat≤a.toNat→(∀ v,ν.blk a v=none)∧Tr.get B.none a s.h=.none
 sep:∀ a v b δ a' v' δ',ν.blk a v=some (b,δ)→ν.blk a' v'=some (b,δ')→(Tr.get B.none a s.h).live→(Tr.get B.none a' s.h).live→a=a'
 own:∀ a v b δ,ν.blk a v=some (b,δ)→(Tr.get B.none a s.h).live→n0≤b∨znQ (Tr.get B.none a s.h)
def zsc (ν:Val) (s U:S):Prop:=∀ a,(∀ v,ν.blk a v=none)→a.toNat<s.nx.toNat→Tr.get B.none a U.h=Tr.get B.none a s.h
theorem zsc.refl (ν:Val) (s:S):zsc ν s s:=fun _ _ _=>rfl
def A.isBad:A→Prop | .bad _=>True | _=>False
theorem zmX {a b:Nat} (h:Nat.ble a b=false):¬a≤b:=fun k=>by
 have:Nat.ble a b=true:=kax.mpr k
 rw [h] at this;cases this
theorem zeq (n:Nat) (D:Bool) (W v e:Nat):jV n D W v e=true↔(D=true→W≤v∧v≤n∧e≤v)∧(D=false→e≤n):=by
 cases D
 ·simp [jV]
 ·simp only [jV]
  cases I:Nat.ble W v
  ·have:¬W≤v:=zmX I
   simp [this]
  ·have E:W≤v:=by simpa using I
   cases J:Nat.ble v n
   ·have:¬v≤n:=zmX J
    simp [this]
   ·have Y:v≤n:=by simpa using J
    simp [E,Y]
theorem zxZ (n:Nat) (D:Bool) (v o e f1 f2:Nat):zgI n D v o e f1 f2=true↔((D=true→v=n)∧e≤n)∧(f2≤o∨e≤f1):=by
 cases D
 ·simp only [zgI]
  cases I:Nat.ble e n
  ·have:¬e≤n:=zmX I
   simp [this]
  ·have E:e≤n:=by simpa using I
   cases J:Nat.ble f2 o
   ·have:¬f2≤o:=zmX J
    simp [E,this]
   ·have Y:f2≤o:=by simpa using J
    simp [E,Y]
 ·simp only [zgI]
  cases h0:Nat.beq v n
  ·have:¬v=n:=by intro h;simp [h] at h0
   simp [this]
  ·have C:v=n:=kac h0
   cases I:Nat.ble e n
   ·have:¬e≤n:=zmX I
    simp [this]
   ·have E:e≤n:=by simpa using I
    cases J:Nat.ble f2 o
    ·have:¬f2≤o:=zmX J
     simp [C,E,this]
    ·have Y:f2≤o:=by simpa using J
     simp [C,E,Y]
theorem zuw (x:V) (c:V→A) (h:¬(zoi x c).isBad):zoi x c=c x∧x≠.bad:=by
 cases x with
 | bad=>exact absurd trivial h
 | _=>exact ⟨rfl,fun e=>by cases e⟩
theorem zx6 (n:Nat):∀ (l:List V) (c:List V→A),¬(zil n l c).isBad→zil n l c=c (l.take n)∧∀ x∈l.take n,x≠.bad:=by
 induction n with
 | zero=>intro l c _;exact ⟨by show c []=_;simp,by simp⟩
 | succ n X =>
  intro l c h
  cases l with
  | nil=>exact ⟨rfl,by simp⟩
  | cons x t =>
   cases x with
   | bad=>exact absurd trivial h
   | _ =>
    obtain ⟨I,J⟩:=X t _ h
    exact ⟨I,by simpa using J⟩
variable {P:Program} {n0:Nat} {w0:World}
theorem jl {w:World} {b:Nat} (h:w.heap[b]?=some (.cells c el E)) (i:Nat):w.cell? ⟨b,i,none⟩=c[i]?:=by
 simp [World.cell?,h]
variable {D:Bool} {l:List V} {W el m n o v:Nat} {ν:Val}
theorem RowR.cells' {w:World} {a:K} (h:RowR P ν w a l n el D W f1 f2) {b:Nat}
  (hb:ν.blk a v=some (b,q)) (N:jV n D W v (o+m)=true) :
  ∃ cs:List Value,cs.length=m∧w.rangeAt b (q+o) cs∧VRs ν ((l.drop o).take m) cs∧(∀ (i:Nat) x y,((l.drop o).take m)[i]?=some x→cs[i]?=some y→x≠.bad→y.oneCell'=true):=by
 obtain ⟨I,J⟩:=(zeq _ _ _ _ _).1 N
 obtain ⟨c,S,X,_,_,_,r⟩:=h.at_ v b q hb
 have r:=r (fun g=>(I g).1)
 have O:o+m≤l.length:=by
  rw [h.len]
  cases D
  ·exact J rfl
  ·have:=I rfl;omega
 have E:D=true→o+m≤v:=fun g=>(I g).2.2
 have key:∀ j,j<m→∃ y,c[q+(o+j)]?=some y∧(l[o+j]?.getD .bad≠.bad→y.oneCell'=true)∧VR ν (l[o+j]?.getD .bad) y:=by
  intro j G
  have M:l[o+j]?=some (l[o+j]'(by omega)):=kab _
  obtain ⟨y,Y,I,N⟩:=r (o+j) _ M (fun g=>by have:=E g;omega)
  exact ⟨y,Y,by rw [M];exact I,by rw [M];exact N⟩
 refine ⟨(List.range m).map fun j=>c[q+(o+j)]?.getD Go.undef,by simp,?_,?_,?_⟩
 ·intro j x G
  rw [kaD] at G
  by_cases B:j<m
  ·rw [List.getElem?_range B] at G
   simp only [Option.map_some,Option.some.injEq] at G
   obtain ⟨y,Y,_,_⟩:=key j B
   rw [jl X,show q+o+j=q+(o+j) by omega,Y]
   rw [Y] at G
   simpa using G
  ·rw [kal (by simpa using B)] at G
   simp at G
 ·refine VRs.of_get (by simp;omega) fun i x hi=>?_
  have A:i<m:=by
   rcases kaK i m with h | h
   ·exact h
   ·rw [kal (by simp;omega)] at hi;simp at hi
  obtain ⟨y,Y,_,N⟩:=key i A
  refine ⟨y,by rw [kaD,List.getElem?_range A];simp [Y],?_⟩
  rw [List.getElem?_take_of_lt A,List.getElem?_drop] at hi
  rw [hi] at N
  exact N
 ·intro i x y M Y Z
  have A:i<m:=by
   rcases kaK i m with h | h
   ·exact h
   ·rw [kal (by simpa using h)] at Y;simp at Y
  obtain ⟨z,hz,I,_⟩:=key i A
  rw [kaD,List.getElem?_range A] at Y
  simp only [Option.map_some,Option.some.injEq] at Y
  rw [hz] at Y
  simp only [Option.getD_some] at Y
  subst Y
  rw [List.getElem?_take_of_lt A,List.getElem?_drop] at M
  exact I (by rw [M];exact Z)
theorem RowR.cells {w:World} {a:K} (h:RowR P ν w a l n el D W f1 f2) {b:Nat}
  (hb:ν.blk a v=some (b,q)) (N:jV n D W v (o+m)=true) (F:∀ x∈(l.drop o).take m,x≠.bad) :
  ∃ cs:List Value,cs.length=m∧w.rangeAt b (q+o) cs∧VRs ν ((l.drop o).take m) cs∧(∀ y∈cs,y.oneCell'=true):=by
 obtain ⟨cs,I,J,Q,O⟩:=h.cells' hb N
 refine ⟨cs,I,J,Q,fun y Y=>?_⟩
 obtain ⟨i,hi,e⟩:=List.mem_iff_getElem.1 Y
 have f:=Q.length
 have M:((l.drop o).take m)[i]?=some (((l.drop o).take m)[i]'(by omega)):=kab _
 exact O i _ y M (by rw [kab hi,e]) (F _ (kav M))
def zbt (P:Program) (ν:Val) (s:S) (w:World):Prop:=∀ a,BR P ν w a (Tr.get B.none a s.h)
variable {s:S}
theorem je {a:K} {c:List V→A} (G:¬(zM s a v o m c).isBad) :
  ∃ l,c l=zM s a v o m c∧∀ {ν:Val} {w:World},zbt P ν s w→∀ b q,ν.blk a v=some (b,q) →
   ∃ cs:List Value,cs.length=m∧w.rangeAt b (q+o) cs∧VRs ν l cs∧(∀ y∈cs,y.oneCell'=true):=by
 unfold zM at G ⊢
 rw [qb] at G ⊢
 generalize R:Tr.get B.none a s.h=f at G ⊢
 cases f with
 | row l n el D W f1 f2 =>
  simp only [] at G ⊢
  generalize N:jV n D W v (Nat.add o m)=r at G ⊢
  cases r with
  | false=>exact absurd trivial G
  | true =>
   simp only [jY] at G ⊢
   obtain ⟨g,Q⟩:=zx6 m _ _ G
   refine ⟨(l.drop o).take m,g.symm,fun {ν w} Y b q hb=>?_⟩
   have L:=Y a
   rw [R] at L
   exact L.cells hb N Q
 | _=>exact absurd trivial G
theorem zpr {a:K} {c:V→A} (G:¬(zbb s a v o c).isBad) :
  ∃ x,c x=zbb s a v o c∧∀ {ν:Val} {w:World},zbt P ν s w→∀ b q,ν.blk a v=some (b,q) →
   ∃ y,w.cell? ⟨b,q+o,none⟩=some y∧VR ν x y∧y.oneCell'=true:=by
 unfold zbb at G ⊢
 rw [qb] at G ⊢
 generalize R:Tr.get B.none a s.h=F at G ⊢
 cases F with
 | row l n el D W f1 f2 =>
  simp only [] at G ⊢
  generalize N:jV n D W v (Nat.succ o)=r at G ⊢
  cases r with
  | false=>exact absurd trivial G
  | true =>
   simp only [ztJ] at G ⊢
   obtain ⟨g,Q⟩:=zuw _ _ G
   refine ⟨l.getD o .bad,g.symm,fun {ν w} Y b q hb=>?_⟩
   have L:=Y a
   rw [R] at L
   obtain ⟨cs,f,U,E,I⟩:=L.cells (m:=1) hb N (fun x M=>by
    obtain ⟨i,hi,H⟩:=List.mem_iff_getElem.1 M
    have h0:i=0:=by simp at hi;omega
    subst h0
    rw [←H]
    simp only [List.getElem_take,List.getElem_drop,Nat.add_zero]
    intro e
    apply Q
    rw [kaa,kab (by simp at hi;omega)]
    exact e)
   match cs,f with
   | [y],_ =>
    refine ⟨y,by simpa using U 0 y rfl,?_,I y (by simp)⟩
    obtain ⟨I,J⟩:=(zeq _ _ _ _ _).1 N
    have O:=L.len
    have C:o<l.length:=by
     rw [O]
     cases D
     ·have:=J rfl;omega
     ·have:=I rfl;omega
    have e:(l.drop o).take 1=[l.getD o .bad]:=by
     have p:l.getD o .bad=l[o]:=by simp [List.getD,kab C]
     rw [p,List.drop_eq_getElem_cons C];rfl
    rw [e] at E
    obtain ⟨x,r,T,M,_⟩:=E
    simp at T
    rw [T.1];exact M
 | _=>exact absurd trivial G
theorem jt (b:Nat):∀ (vs:List Value) (o:Nat) (w:World) (k:Nat),k≠b→(w.setCells b o vs).heap[k]?=w.heap[k]?
 | [],_,_,_,_=>rfl
 | v::r,o,w,k,h=>by rw [World.setCells,jt b r (o+1) _ k h,Below.heap_setCell _ _ _ _ h]
theorem Below.setCells {B:Nat} {a:World} {b:Nat} (hb:B≤b):∀ (vs:List Value) (o:Nat) (w:World),Below B a w→Below B a (w.setCells b o vs)
 | [],_,_,h=>h
 | v::r,o,_,h=>Below.setCells hb r (o+1) _ (h.setCell (p:=⟨b,o,none⟩) hb v)
theorem wo (b:Nat):∀ (vs:List Value) (o:Nat) (w:World) (c:Array Value) (el:TypeId) (E:Nat × Nat),w.heap[b]?=some (.cells c el E) →
  ∃ z,(w.setCells b o vs).heap[b]?=some (.cells z el E)∧z.size=c.size∧∀ i,i<c.size→z[i]?=if o≤i∧i<o+vs.length then vs[i - o]? else c[i]?
 | [],o,w,c,el,E,h=>⟨c,h,rfl,fun i _=>by simp;omega⟩
 | v::r,o,w,c,el,E,h=>by
  have I:(w.setCell ⟨b,o,none⟩ v).heap[b]?=some (.cells (c.setIfInBounds o v) el E):=by
   simp [World.setCell,Array.getElem?_modify,h]
  obtain ⟨z,J,Q,K⟩:=wo b r (o+1) _ _ _ _ I
  refine ⟨z,J,by simpa using Q,fun i hi=>?_⟩
  rw [K i (by simpa using hi)]
  by_cases e:o=i
  ·subst e
   simp [hi];intro h;omega
  ·by_cases d:o+1≤i∧i<o+1+r.length
   ·have T:i - o=(i - (o+1))+1:=by omega
    have W:o≤i∧i<o+(v::r).length:=by simp;omega
    rw [if_pos d,if_pos W,T];simp
   ·have W:¬(o≤i∧i<o+(v::r).length):=by simp;omega
    simp only [d,W,if_false]
    rw [Array.getElem?_setIfInBounds_ne e]
variable {w':World}
theorem BR.frame {w:World} {a:K} {B:B} (h:BR P ν w a B) (m:∀ v b q,ν.blk a v=some (b,q)→B.live→w'.heap[b]?=w.heap[b]?):BR P ν w' a B:=by
 cases B with
 | none=>trivial
 | row l n el D W f1 f2 =>
  refine ⟨h.len,h.v0,h.vn,h.mnn,h.same,fun v b q hb=>?_⟩
  obtain ⟨c,E,I,J,Q,O,d⟩:=h.at_ v b q hb
  exact ⟨c,E,by rw [m v b q hb trivial];exact I,J,Q,O,d⟩
 | map es R=>intro v b q hb;rw [m v b q hb trivial];exact h v b q hb
 | loop st pend z tm ps e L df=>intro v b q hb;rw [m v b q hb trivial];exact h v b q hb
 | dfd l=>intro v b q hb;rw [m v b q hb trivial];exact h v b q hb
 | it s pos r=>intro v b q hb;rw [m v b q hb trivial];exact h v b q hb
variable {xs:List V}
theorem zuW {w:World} {a:K} {b:Nat} {cs:List Value}
  (Y:St P n0 w0 ν s w) (Z:Tr.get B.none a s.h=.row l n el D W f1 f2) (az:zgI n D v o (o+m) f1 f2=true)
  (hb:ν.blk a v=some (b,q)) (aq:VRs ν xs cs) (O:xs.length=m) (ar:∀ y∈cs,y.oneCell'=true) :
  w.there b (q+o) m∧St P n0 w0 ν ⟨Tr.set B.none (.row (upd xs o l) n el D (if D then n else W) f1 f2) a s.h,s.nx⟩ (w.setCells b (q+o) cs):=by
 obtain ⟨⟨ai,au⟩,aK⟩:=(zxZ _ _ _ _ _ _ _).1 az
 have L:=Y.rows a
 rw [Z] at L
 have aA:cs.length=m:=by rw [aq.length,O]
 have ae:(Tr.get B.none a s.h).live:=by rw [Z];trivial
 obtain ⟨c,fz,X,hsz,ad,aJ,aa⟩:=L.at_ v b q hb
 have ad:m=0∨∀ i,w.frozen? ⟨b,i,none⟩=true→q+f1≤i∧i<q+f2:=by
  rcases ad with ⟨_,I,J⟩ | h
  ·left;omega
  ·right;exact h.old X
 have aB:D=true→W≤v:=fun g=>by rw [ai g];exact L.mnn g
 have aa:=aa aB
 have av:∀ i,i<n→q+i<c.size:=by
  intro i hi
  have M:l[i]?=some (l[i]'(by rw [L.len];exact hi)):=kab _
  obtain ⟨y,d,_⟩:=aa i _ M (fun g=>by rw [ai g];exact hi)
  exact (kat.1 d).1
 have aj:w.there b (q+o) m:=by
  intro j G
  have I:=av (o+j) (by omega)
  rw [jl X,show q+o+j=q+(o+j) by omega]
  refine ⟨by simp [I],?_⟩
  rcases E:w.frozen? ⟨b,q+(o+j),none⟩ with _ | _
  ·rfl
  ·rcases ad with h0 | ad
   ·omega
   ·have:=ad _ E
    omega
 refine ⟨aj,?_⟩
 obtain ⟨c',aC,aw,ak⟩:=wo b cs (q+o) w c el fz X
 have qk:∀ r,Tr.get B.none r (Tr.set B.none (.row (upd xs o l) n el D (if D then n else W) f1 f2) a s.h)=if r=a then .row (upd xs o l) n el D (if D then n else W) f1 f2 else Tr.get B.none r s.h:=fun r=>get_set _ _ _ _ _
 have ah:∀ r,(Tr.get B.none r (Tr.set B.none (.row (upd xs o l) n el D (if D then n else W) f1 f2) a s.h)).live→(Tr.get B.none r s.h).live:=by
  intro r h
  rw [qk] at h
  by_cases e:r=a
  ·rw [e];exact ae
  ·rwa [if_neg e] at h
 have ax:Below n0 w0 (w.setCells b (q+o) cs):=by
  rcases Y.own a v b q hb ae with h | h
  ·exact Below.setCells h cs _ w Y.below
  ·rw [Z] at h
   obtain ⟨I,J,Q⟩:=h
   have h0:m=0:=by omega
   have:cs=[]:=kap.1 (by rw [aA,h0])
   rw [this];exact Y.below
 refine ⟨ax,Y.n0le,?_,?_,?_,?_⟩
 ·intro r
  simp only [qk]
  by_cases e:r=a
  ·subst e
   rw [if_pos rfl]
   refine ⟨by rw [zdn _ _ _ (by rw [L.len,O];exact au)];exact L.len,L.v0,L.vn,fun g=>by simp [g],L.same,fun F b' f T=>?_⟩
   by_cases eb:b'=b
   ·subst eb
    obtain ⟨c0,ay,R,U,A,p,_⟩:=L.at_ F b' f T
    rw [X] at R
    simp only [Option.some.injEq,Obj.cells.injEq] at R
    obtain ⟨rfl,_,rfl⟩:=R
    refine ⟨c',fz,aC,U,A,fun g=>by rw [aw];exact p g,fun al i x hi aD=>?_⟩
    have an:F=v:=by
     cases z:D
     ·rw [(L.v0 z _ _ T).1,(L.v0 z _ _ hb).1]
     ·have I:=al z
      simp only [z,if_true] at I
      have J:=L.vn z _ _ T
      have:=ai z
      omega
    subst an
    rw [hb] at T
    simp only [Option.some.injEq,Prod.mk.injEq,true_and] at T
    subst T
    rw [zgN _ _ _ (by rw [L.len,O];exact au)] at hi
    have aE:i<n:=by
     by_cases h:o≤i∧i<o+xs.length
     ·omega
     ·rw [if_neg h] at hi
      have:=(kaE.1 hi).1
      rw [L.len] at this;exact this
    rw [ak _ (av i aE)]
    by_cases h:o≤i∧i<o+xs.length
    ·rw [if_pos h] at hi
     obtain ⟨y,d,N⟩:=aq.get _ _ hi
     rw [if_pos (by omega),show q+i - (q+o)=i - o by omega]
     exact ⟨y,d,fun _=>ar y (kav d),N⟩
    ·rw [if_neg h] at hi
     rw [if_neg (by omega)]
     exact aa i x hi aD
   ·obtain ⟨c0,ay,R,U,A,p,g5⟩:=L.at_ F b' f T
    refine ⟨c0,ay,by rw [jt _ _ _ _ _ eb];exact R,U,A,p,fun al=>?_⟩
    exfalso
    have an:F=v:=by
     cases z:D
     ·rw [(L.v0 z _ _ T).1,(L.v0 z _ _ hb).1]
     ·have I:=al z
      simp only [z,if_true] at I
      have J:=L.vn z _ _ T
      have:=ai z
      omega
    subst an
    rw [hb] at T
    simp at T
    exact eb T.1.symm
  ·rw [if_neg e]
   refine (Y.rows r).frame fun F b' f T ao=>jt _ _ _ _ _ fun eb=>e ?_
   subst eb
   exact Y.sep r F b' f a v q T hb ao ae
 ·intro r aF
  obtain ⟨I,J⟩:=Y.fresh r aF
  refine ⟨I,?_⟩
  simp only [qk]
  rw [if_neg]
  ·exact J
  ·intro e;subst e;rw [J] at Z;cases Z
 ·intro a1 H u aG a2 C aH I J l1 l2
  exact Y.sep a1 H u aG a2 C aH I J (ah _ l1) (ah _ l2)
 ·intro r F b' f T ao
  rcases Y.own r F b' f T (ah _ ao) with h | h
  ·exact .inl h
  ·refine .inr ?_
   simp only [qk]
   by_cases e:r=a
   ·subst e;rw [Z] at h;rw [if_pos rfl];exact h
   ·rw [if_neg e];exact h
variable {W:Val}
theorem VR.mono' (h:ν.le W) {v:V} {x:Value} (r:VR ν v x):VR W v x:=VR.mono h v x r
theorem VRs.mono' (h:ν.le W) {v:List V} {x:List Value} (r:VRs ν v x):VRs W v x:=VRs.mono h v x r
theorem MRs.mono {ν W:Val} (h:ν.le W):∀ {l:List ME} {c:List MapEntry},MRs ν l c→MRs W l c
 | [],_,r=>r
 | _::_,_,⟨x,r,e,q,s⟩=>⟨x,r,e,⟨q.1.mono' h,q.2.1.mono' h,q.2.2⟩,MRs.mono h s⟩
variable {tmps:Array Value} {fi:FI}
theorem FrR.mono (h:ν.le W) {get:T→Nat→V} {tm:T} (r:FrR ν fi get tm tmps):FrR W fi get tm tmps :=
 ⟨r.1,fun t a b=>(r.2 t a b).mono' h⟩
theorem SlR.mono (h:ν.le W) {get:T→Nat→V} {ds:List Nat} {tm:T} {le:List V} {t:Nat} (r:SlR ν fi get ds tm le tmps t):SlR W fi get ds tm le tmps t :=
 ⟨fun a b c=>(r.1 a b c).mono' h,fun i hi=>(r.2 i hi).mono' h⟩
theorem FrR.slot {get:T→Nat→V} {tm:T} (r:FrR ν fi get tm tmps) (t:Nat):SlR ν fi get [] tm [] tmps t :=
 ⟨fun a b _=>r.2 t a b,fun i hi=>by simp [idx] at hi⟩
theorem BR.mono {w:World} {a:K} {B:B} (h:ν.le W) (U:∀ v,W.blk a v=ν.blk a v) (r:BR P ν w a B):BR P W w a B:=by
 cases B with
 | none=>trivial
 | row l n el u G f1 f2 =>
  refine ⟨r.len,fun g v p Z=>r.v0 g v p (U v▸Z),fun g v p Z=>r.vn g v p (U v▸Z),r.mnn,fun v F b q f I J=>r.same v F b q f (U v▸I) (U F▸J),fun v b q hb=>?_⟩
  rw [U] at hb
  obtain ⟨c,S,I,J,Q,O,o⟩:=r.at_ v b q hb
  obtain ⟨_,T,M⟩:=h _ _ _ hb
  refine ⟨c,S,I,M.trans J,Q,fun g=>by rw [T,M];exact O g,fun g i x hi E=>?_⟩
  obtain ⟨y,Y,C,N⟩:=o g i x hi E
  exact ⟨y,Y,C,N.mono' h⟩
 | map es R =>
  intro v b q hb
  rw [U] at hb
  obtain ⟨h0,X,I,J⟩:=r v b q hb
  exact ⟨h0,X,I,J.mono h⟩
 | loop st pend z tm ps e L df =>
  intro v b q hb
  rw [U] at hb
  obtain ⟨h0,j,ls,fn,D,d,I,J,Q,f,O⟩:=r v b q hb
  exact ⟨h0,j,ls,fn,D,d,I,J,Q.mono h,f,(h _ _ _ O).1⟩
 | dfd l=>intro v b q hb;rw [U] at hb;exact r v b q hb
 | it s pos _=>intro v b q hb;rw [U] at hb;exact r v b q hb
theorem BR.there {w:World} {a:K} {B:B} (r:BR P ν w a B) (f:B.live) {b:Nat} (hb:ν.blk a v=some (b,q)):b<w.heap.size:=by
 have key:∀ o,w.heap[b]?=some o→b<w.heap.size:=fun o h=>(kat.1 h).1
 cases B with
 | none=>exact f.elim
 | row l n el u W f1 f2=>obtain ⟨c,E,I,_⟩:=r.at_ v b q hb;exact key _ I
 | map es R=>obtain ⟨_,X,I,_⟩:=r v b q hb;exact key _ I
 | loop st pend z tm ps e L df=>obtain ⟨_,_,ls,fn,D,d,I,_⟩:=r v b q hb;exact key _ I
 | dfd l=>obtain ⟨_,_,x,I⟩:=r v b q hb;exact key _ I
 | it s pos _=>obtain ⟨_,_,t,I,_⟩:=r v b q hb;exact key _ I
noncomputable def Val.add (ν:Val) (a:K) (v b cap sz:Nat):Val :=
 { blk:=fun r F=>if r=a∧F=v then some (b,0) else ν.blk r F,cap:=fun r F=>if r=a then cap else ν.cap r F,sz:=fun r=>if r=a then sz else ν.sz r }
variable {cap sz:Nat}
theorem Val.le_add {a:K} {b:Nat} (h:∀ v,ν.blk a v=none):ν.le (ν.add a v b cap sz):=by
 intro r F p Z
 have u:r≠a:=by intro e;subst e;rw [h] at Z;cases Z
 simp [Val.add,u,Z]
theorem Val.add_self {a:K} {b:Nat}:(ν.add a v b cap sz).blk a v=some (b,0):=by simp [Val.add]
theorem Val.add_other {a a':K} {b F:Nat} (h:a'≠a):(ν.add a v b cap sz).blk a' F=ν.blk a' F:=by simp [Val.add,h]
variable {p:Nat × Nat}
theorem Val.add_only {a:K} {b F:Nat} (h:∀ v,ν.blk a v=none) (Z:(ν.add a v b cap sz).blk a F=some p):F=v∧p=(b,0):=by
 simp only [Val.add,true_and] at Z
 split at Z
 ·rename_i e;exact ⟨e,by simpa using Z.symm⟩
 ·rw [h] at Z;cases Z
theorem zef {w:World} (Y:St P n0 w0 ν s w) (a:K) (U:∀ v,ν.blk a v=none) (O:a.toNat<s.nx.toNat) (v cap sz:Nat)
  (_:w.heap.size<w'.heap.size) (W:∀ k,k<w.heap.size→w'.heap[k]?=w.heap[k]?) (A:Below n0 w0 w')
  (y:BR P (ν.add a v w.heap.size cap sz) w' a (Tr.get B.none a s.h)) :
  St P n0 w0 (ν.add a v w.heap.size cap sz) s w':=by
 have g:=Val.le_add (v:=v) (b:=w.heap.size) (cap:=cap) (sz:=sz) U
 have Q:n0≤w.heap.size:=kaB Y.n0le Y.below.size
 refine ⟨A,Y.n0le,?_,?_,?_,?_⟩
 ·intro r
  by_cases e:r=a
  ·subst e;exact y
  ·have I:=(Y.rows r).mono (P:=P) g (fun F=>Val.add_other e)
   refine I.frame fun F N f M E=>W _ ?_
   rw [Val.add_other e] at M
   exact (Y.rows r).there E M
 ·intro r m
  have e:r≠a:=by intro e;subst e;omega
  obtain ⟨I,J⟩:=Y.fresh r m
  exact ⟨fun F=>by rw [Val.add_other e];exact I F,J⟩
 ·intro a1 H Z l a2 C X I J R G
  by_cases T:a1=a
  ·by_cases D:a2=a
   ·rw [T,D]
   ·subst T
    obtain ⟨_,e⟩:=Val.add_only U I
    simp only [Prod.mk.injEq] at e
    rw [Val.add_other D] at J
    have:=(Y.rows a2).there G J
    omega
  ·by_cases D:a2=a
   ·subst D
    obtain ⟨_,e⟩:=Val.add_only U J
    simp only [Prod.mk.injEq] at e
    rw [Val.add_other T] at I
    have:=(Y.rows a1).there R I
    omega
   ·rw [Val.add_other T] at I
    rw [Val.add_other D] at J
    exact Y.sep _ _ _ _ _ _ _ I J R G
 ·intro r F N f M E
  by_cases e:r=a
  ·subst e
   obtain ⟨_,e⟩:=Val.add_only U M
   simp only [Prod.mk.injEq] at e
   left;omega
  ·rw [Val.add_other e] at M
   exact Y.own r F N f M E
theorem ziP {w:World} (Y:St P n0 w0 ν s w) (b:B) (y:BR P ν w s.nx b) :
  St P n0 w0 ν ⟨Tr.set B.none b s.nx s.h,s.nx.succ⟩ w:=by
 obtain ⟨o,A⟩:=Y.fresh s.nx (kad _)
 have qk:∀ r,Tr.get B.none r (Tr.set B.none b s.nx s.h)=if r=s.nx then b else Tr.get B.none r s.h:=fun r=>get_set _ _ _ _ _
 refine ⟨Y.below,Y.n0le,?_,?_,?_,?_⟩
 ·intro r
  simp only [qk]
  by_cases e:r=s.nx
  ·subst e;rw [if_pos rfl];exact y
  ·rw [if_neg e];exact Y.rows r
 ·intro r m
  simp only [K.toNat_succ] at m
  have e:r≠s.nx:=by intro e;subst e;omega
  obtain ⟨I,J⟩:=Y.fresh r (by omega)
  exact ⟨I,by simp only [qk];rw [if_neg e];exact J⟩
 ·intro a1 H Z l a2 C X I J R G
  have T:a1≠s.nx:=by intro e;subst e;rw [o] at I;cases I
  have D:a2≠s.nx:=by intro e;subst e;rw [o] at J;cases J
  simp only [qk,T,D,if_false] at R G
  exact Y.sep _ _ _ _ _ _ _ I J R G
 ·intro r F N f M E
  have e:r≠s.nx:=by intro e;subst e;rw [o] at M;cases M
  simp only [qk,e,if_false] at E ⊢
  exact Y.own r F N f M E
theorem BR.newRow {w:World} {a:K} (U:∀ v,ν.blk a v=none) (l:List V) (el:Nat) (D:Bool):BR P ν w a (.row l l.length el D 0 0 0) :=
 ⟨rfl,fun _ v p h=>(by rw [U] at h;cases h),fun _ v p h=>(by rw [U] at h;cases h),fun _=>Nat.zero_le _,fun v _ _ _ _ h=>(by rw [U] at h;cases h),fun v b q h=>(by rw [U] at h;cases h)⟩
theorem zqk {w:World} (Y:St P n0 w0 ν s w) (a:K) (U:∀ v,ν.blk a v=none) (O:a.toNat<s.nx.toNat) (l:List V) (el:Nat) (u:Bool) (cap:Nat)
  (L:Tr.get B.none a s.h=.row l l.length el u 0 0 0) (c:Array Value) (cs:List Value) (o:VRs ν l cs) (X:∀ (i:Nat) (y:Value),cs[i]?=some y→c[i]?=some y) (E:∀ y∈cs,y.oneCell'=true)
  (M:u=true→cap*P.cellsOf el≤c.size∧l.length≤cap*P.cellsOf el)
  (hsz:w.heap.size<w'.heap.size) (W:∀ k,k<w.heap.size→w'.heap[k]?=w.heap[k]?) (A:Below n0 w0 w') (zcR:w'.heap[w.heap.size]?=some (.cells c el)) :
  St P n0 w0 (ν.add a (if u then l.length else 0) w.heap.size cap (P.cellsOf el)) s w':=by
 have j:=Val.le_add (v:=if u then l.length else 0) (b:=w.heap.size) (cap:=cap) (sz:=P.cellsOf el) U
 refine zef Y a U O _ cap _ hsz W A ?_
 rw [L]
 refine ⟨rfl,fun g v p Z=>by
  obtain ⟨T,D⟩:=Val.add_only U Z
  exact ⟨by simpa [g] using T,by rw [D]⟩,fun g v p Z=>by have:=(Val.add_only U Z).1;simp [g] at this;omega,fun _=>Nat.zero_le _,fun v F b q f I J=>(by
  have T:=(Val.add_only U I).2
  have D:=(Val.add_only U J).2
  simp only [Prod.mk.injEq] at T D
  rw [T.2,D.2]),fun v b q hb=>?_⟩
 obtain ⟨T,D⟩:=Val.add_only U hb
 simp only [Prod.mk.injEq] at D
 obtain ⟨rfl,rfl⟩:=D
 refine ⟨c,(0,0),zcR,by simp [Val.add],.inr (.inl rfl),fun g=>?_,fun _ i x hi _=>?_⟩
 ·have:=M g
  simp only [Val.add,if_true,T,g] at *
  omega
 ·obtain ⟨y,d,N⟩:=(o.mono' j).get i x hi
  exact ⟨y,by rw [kas];exact X i y d,fun _=>E y (kav d),N⟩
theorem zqs {w:World} (Y:St P n0 w0 ν s w) (a:K) (_:a.toNat<s.nx.toNat):St P n0 w0 ν ⟨Tr.set B.none .none a s.h,s.nx⟩ w:=by
 have qk:∀ r,Tr.get B.none r (Tr.set B.none B.none a s.h)=if r=a then B.none else Tr.get B.none r s.h:=fun r=>get_set _ _ _ _ _
 have L:∀ r,(Tr.get B.none r (Tr.set B.none B.none a s.h)).live→r≠a∧(Tr.get B.none r s.h).live:=by
  intro r h
  rw [qk] at h
  by_cases e:r=a
  ·rw [if_pos e] at h;exact h.elim
  ·rw [if_neg e] at h;exact ⟨e,h⟩
 refine ⟨Y.below,Y.n0le,fun r=>?_,fun r m=>?_,fun a1 H Z l a2 C X I J R G=>?_,fun r F N j M E=>?_⟩
 ·simp only [qk]
  by_cases e:r=a
  ·rw [if_pos e];trivial
  ·rw [if_neg e];exact Y.rows r
 ·obtain ⟨I,J⟩:=Y.fresh r m
  refine ⟨I,?_⟩
  simp only [qk]
  split
  ·rfl
  ·exact J
 ·exact Y.sep _ _ _ _ _ _ _ I J (L _ R).2 (L _ G).2
 ·obtain ⟨e,f⟩:=L _ E
  simp only [qk,if_neg e]
  exact Y.own r F N j M f
theorem zba {a:K} (h:ν.blk a v=some p) (b:B):zsc ν s ⟨Tr.set B.none b a s.h,s.nx⟩:=by
 intro r m _
 have e:r≠a:=by intro e;subst e;rw [m] at h;cases h
 simp only [get_set,e,if_false]
theorem wP {a:K} {c:S→A} (G:¬(qc s a v o m xs c).isBad) :
  ∃ U,c U=qc s a v o m xs c∧U.nx=s.nx∧∀ {n0:Nat} {w0:World} {ν:Val} {w:World},St P n0 w0 ν s w→∀ b q,ν.blk a v=some (b,q)→∀ cs,VRs ν xs cs→xs.length=m→(∀ y∈cs,y.oneCell'=true) →
   w.there b (q+o) m∧St P n0 w0 ν U (w.setCells b (q+o) cs)∧zsc ν s U:=by
 unfold qc at G ⊢
 rw [qb] at G ⊢
 generalize R:Tr.get B.none a s.h=f at G ⊢
 cases f with
 | row l n el D W f1 f2 =>
  simp only [] at G ⊢
  generalize N:zgI n D v o (Nat.add o m) f1 f2=r at G ⊢
  cases r with
  | false=>exact absurd trivial G
  | true =>
   simp only [zeU,ym] at G ⊢
   refine ⟨_,rfl,rfl,fun {n0 w0 ν w} Y b q hb cs Q O E=>?_⟩
   obtain ⟨I,J⟩:=zuW Y R N hb Q O E
   refine ⟨I,?_,zba hb _⟩
   have e:(Bool.rec W n D:Nat)=if D then n else W:=by cases D<;>rfl
   rw [e];exact J
 | _=>exact absurd trivial G
variable {P:Program}
structure Base where
 fn:Nat
 kind:CallKind
 ro:Option Nat
def Base.fr (b:Base) (tm:Array Value) (df:List Deferred) (todo:List Item):Frame :=
 { fn:=b.fn,tmps:=tm,todo,defers:=df,mode:=.run,kind:=b.kind,roundOf:=b.ro }
def ev (tm:Array Value):Operand→Value
 | .tmp t=>tm.getD t Go.undef
 | .const v=>v
 | .global g=>.pointer (some ⟨g,0,none⟩)
 | .func f=>.func (.func f) #[] #[]
theorem znT (b:Base) (tm:Array Value) (df:List Deferred) (todo:List Item):(b.fr tm df todo).eval=ev tm:=by
 funext x;cases x<;>rfl
def wB (tm:Array Value) (dst:Option Tmp) (v:Value):Array Value:=match dst with | some d=>tm.setIfInBounds d v | none=>tm
theorem zaQ (b:Base) (tm:Array Value) (df:List Deferred) (ops:Array Oper) (i:Nat) (rest:List Nat) (k:List Item) (v:Value) :
  (b.fr tm df (.inRegion ops (i::rest)::k)).finish v=b.fr (wB tm ((ops[i]?).bind (·.dst)) v) df (.inRegion ops rest::k):=by
 cases h:(ops[i]?).bind (·.dst)<;>simp [Frame.finish,Base.fr,wB,h]
section moves
variable {b:Base} {tm:Array Value} {df:List Deferred} {k:List Item} {cs:List Frame} {w:World}
theorem zzl:step P (lone (b.fr tm df (.code .skip::k)) cs w)=.next (lone (b.fr tm df k) cs w):=step_lone_go (by simp [stepG,stepG.exec,Base.fr])
variable {l:Nat}
theorem zwk:step P (lone (b.fr tm df (.code (.label l)::k)) cs w)=.next (lone (b.fr tm df k) cs w):=step_lone_go (by simp [stepG,stepG.exec,Base.fr])
theorem zsH {id:Nat}:step P (lone (b.fr tm df (.inBlock id::k)) cs w)=.next (lone (b.fr tm df k) cs w):=step_lone_go (by simp [stepG,stepG.exec,Base.fr])
variable {c:Code}
theorem zsn:step P (lone (b.fr tm df (.inScope c::k)) cs w)=.next (lone (b.fr tm df k) cs w):=step_lone_go (by simp [stepG,stepG.exec,Base.fr])
variable {x y:Code}
theorem zDh:step P (lone (b.fr tm df (.code (.seq x y)::k)) cs w)=.next (lone (b.fr tm df (.code x::.code y::k)) cs w):=step_lone_go (by simp [stepG,stepG.exec,Base.fr])
theorem zsS {c:Operand} {t:Bool} (h:ev tm c=.bool t):step P (lone (b.fr tm df (.code (.cond c x y)::k)) cs w)=.next (lone (b.fr tm df (.code (if t then x else y)::k)) cs w) :=
 step_lone_go (by
  have:=znT b tm df (.code (.cond c x y)::k)
  simp only [Base.fr] at this
  simp [stepG,stepG.exec,Base.fr,this,h])
theorem zyi {id:Nat}:step P (lone (b.fr tm df (.code (.block id c)::k)) cs w)=.next (lone (b.fr tm df (.code c::.inBlock id::k)) cs w):=step_lone_go (by simp [stepG,stepG.exec,Base.fr])
theorem zxS:step P (lone (b.fr tm df (.code (.scope c)::k)) cs w)=.next (lone (b.fr tm df (.code c::.inScope c::k)) cs w):=step_lone_go (by simp [stepG,stepG.exec,Base.fr])
theorem ziW:step P (lone (b.fr tm df (.code (.loop c)::k)) cs w)=.next (lone (b.fr tm df (.code c::.inLoop c::k)) cs w):=step_lone_go (by simp [stepG,stepG.exec,Base.fr])
theorem zg8:step P (lone (b.fr tm df (.inLoop c::k)) cs w)=.next (lone (b.fr tm df (.code c::.inLoop c::k)) cs w):=step_lone_go (by simp [stepG,stepG.exec,Base.fr])
theorem zz1 {id:Nat} {H:List Item} (h:exitTo id k=some H):step P (lone (b.fr tm df (.code (.exit id)::k)) cs w)=.next (lone (b.fr tm df H) cs w):=step_lone_go (by simp [stepG,stepG.exec,Base.fr,h])
theorem zuH {id:Nat} {ops:Array Oper}:step P (lone (b.fr tm df (.code (.region id ops false)::k)) cs w)=.next (lone (b.fr tm df (.inRegion ops (List.range ops.size)::k)) cs w):=step_lone_go (by simp [stepG,stepG.exec,Base.fr])
theorem zkR {id:Nat} {ops:Array Oper}:step P (lone (b.fr tm df (.code (.region id ops true)::k)) cs w) =
  .next (lone (b.fr tm df (.inRegion ops (Region.schedule (P.follows .mixedOrders) ops (w.tape w.drawn (.order b.fn id)))::k)) cs { w with drawn:=w.drawn+1 }) :=
 step_lone_go (by simp [stepG,stepG.exec,Base.fr,choose,Sem.run,Question.forced,Question.cut])
theorem zfo {ops:Array Oper}:step P (lone (b.fr tm df (.inRegion ops []::k)) cs w)=.next (lone (b.fr tm df k) cs w):=step_lone_go (by simp [stepG,stepG.exec,Base.fr])
variable {rest:List Nat} {i:Nat}
theorem zfN {ops:Array Oper} (h:((ops[i]?).map (Region.wanted · (yielded ops tm))).getD false=false) :
  step P (lone (b.fr tm df (.inRegion ops (i::rest)::k)) cs w)=.next (lone (b.fr (wB tm ((ops[i]?).bind (·.dst)) Go.undef) df (.inRegion ops rest::k)) cs w):=by
 rw [←zaQ]
 exact step_lone_go (by
  have u:=h
  simp only [Base.fr] at *
  simp [stepG,stepG.exec,u])
variable {o:Oper}
theorem zhc {ops:Array Oper} {rest:List Nat} (C:ops[i]?=some o) (m:Region.wanted o (yielded ops tm)=true) (u:b.ro=none∨z7 o=false) :
  stepG P true { frame:=b.fr tm df (.inRegion ops (i::rest)::k),callers:=cs,status:=.running,dying:=none } w =
   stepG.apply P true (b.fr tm df (.inRegion ops (i::rest)::k)) cs none (execOp (ev tm) o) w:=by
 have z:=znT b tm df (.inRegion ops (i::rest)::k)
 simp only [Base.fr] at z
 rcases u with u | u
 ·rw [u] at z
  simp [stepG,stepG.exec,stepG.oper,Frame.oper?,Base.fr,C,m,z,u]
 ·cases N:b.ro with
  | none=>rw [N] at z;simp [stepG,stepG.exec,stepG.oper,Frame.oper?,Base.fr,C,m,z,N]
  | some l =>
   rw [N] at z
   cases B:o.op<;>simp [z7,B] at u<;>simp [stepG,stepG.exec,stepG.oper,Frame.oper?,Base.fr,C,m,z,N,B]
variable {w':World}
theorem zbQ {ops:Array Oper} (C:ops[i]?=some o) (m:Region.wanted o (yielded ops tm)=true) (u:b.ro=none∨z7 o=false) {v:Value}
  (h:(execOp (ev tm) o).run P w=.ok (.value v) w'∨(v=Go.undef∧(execOp (ev tm) o).run P w=.ok .skip w')) :
  step P (lone (b.fr tm df (.inRegion ops (i::rest)::k)) cs w)=.next (lone (b.fr (wB tm o.dst v) df (.inRegion ops rest::k)) cs w'):=by
 have B:=zaQ b tm df ops i rest k v
 rw [C] at B
 simp only [Option.bind_some] at B
 rw [←B]
 rcases h with h | ⟨rfl,h⟩
 ·exact step_lone_go (by rw [zhc C m u];simp [stepG.apply,h])
 ·exact step_lone_go (by rw [zhc C m u];simp [stepG.apply,h])
variable {f:FuncId}
theorem zif {ops:Array Oper} (C:ops[i]?=some o) (m:Region.wanted o (yielded ops tm)=true) (u:b.ro=none∨z7 o=false) {args:Array Value}
  (h:(execOp (ev tm) o).run P w=.ok (.enter f args) w') :
  step P (lone (b.fr tm df (.inRegion ops (i::rest)::k)) cs w)=.next (lone (Frame.enter P f args .normal) (b.fr tm df (.inRegion ops (i::rest)::k)::cs) w') :=
 step_lone_go (by rw [zhc C m u];simp [stepG.apply,h,Base.fr])
theorem zqm {ops:Array Oper} (C:ops[i]?=some o) (m:Region.wanted o (yielded ops tm)=true) (u:b.ro=none∨z7 o=false) {tmps:Array Value} {e body:Code}
  (h:(execOp (ev tm) o).run P w=.ok (.round l f tmps e body) w') :
  step P (lone (b.fr tm df (.inRegion ops (i::rest)::k)) cs w)=.next (lone (Frame.round l f tmps e body .normal) (b.fr tm df (.inRegion ops (i::rest)::k)::cs) w') :=
 step_lone_go (by rw [zhc C m u];simp [stepG.apply,h,Base.fr])
theorem zqn {ops:Array Oper} (C:ops[i]?=some o) (m:Region.wanted o (yielded ops tm)=true) (u:b.ro=none) {d:Deferred}
  (h:(execOp (ev tm) o).run P w=.ok (.defer d) w') :
  step P (lone (b.fr tm df (.inRegion ops (i::rest)::k)) cs w)=.next (lone (b.fr (wB tm o.dst Go.undef) (d::df) (.inRegion ops rest::k)) cs w'):=by
 have B:=zaQ b tm (d::df) ops i rest k Go.undef
 rw [C] at B
 simp only [Option.bind_some] at B
 rw [←B]
 exact step_lone_go (by rw [zhc C m (.inl u)];simp [stepG.apply,h,Base.fr])
end moves
def yZ:Nat→Nat→K
 | 0,_=>.h
 | f+1,n=>if n≤1 then .h else if n % 2=0 then .o (yZ f (n / 2)) else .i (yZ f (n / 2))
theorem zi8 {β:Type} (f n:Nat) (c:K→β):zCo f n c=c (yZ f n):=by
 induction f generalizing n c with
 | zero=>rfl
 | succ f X =>
  show (Bool.rec _ _ (Nat.ble n 1):β)=_
  rw [yZ]
  cases h:Nat.ble n 1
  ·have I:¬n≤1:=fun k=>by rw [kax.mpr k] at h;cases h
   rw [if_neg I]
   show (Bool.rec _ _ (Nat.beq (Nat.mod n 2) 0):β)=_
   cases J:Nat.beq (Nat.mod n 2) 0
   ·have Q:¬n % 2=0:=fun k=>by
     have:Nat.beq (Nat.mod n 2) 0=true:=by rw [show Nat.mod n 2=0 from k];rfl
     rw [this] at J;cases J
    rw [if_neg Q]
    exact X _ _
   ·have Q:n % 2=0:=kac J
    rw [if_pos Q]
    exact X _ _
  ·have I:n≤1:=kax.mp h
   rw [if_pos I]
def yn (ν:Val) (G:Nat):Prop:=∀ g,g<G→ν.blk (yZ 24 (g+1)) 0=some (g,0)
theorem yn.mono {ν W:Val} {G:Nat} (h:ν.le W) (g:yn ν G):yn W G:=fun i hi=>(h _ _ _ (g i hi)).1
theorem zrv {α:Type} {d:Nat} {t:N α} {c:α→A} (G:¬((seC d).run t c).isBad):∃ x,N.get t d=some x∧c x=(seC d).run t c:=by
 obtain ⟨a0,a1,a2,a3,a4,a5,a6,a7,a8,a9,a10,a11,a12,a13,a14,a15⟩:=t
 rcases d with _ | _ | _ | _ | _ | _ | _ | _ | _ | _ | _ | _ | _ | _ | _ | _ | d
 all_goals first
  | exact ⟨_,rfl,rfl⟩
  | exact absurd trivial G
def N.set {α:Type} (t:N α) (d:Nat) (x:α):N α:=match t with
 | ⟨a0,a1,a2,a3,a4,a5,a6,a7,a8,a9,a10,a11,a12,a13,a14,a15⟩=>match d with
  | 0=>⟨x,a1,a2,a3,a4,a5,a6,a7,a8,a9,a10,a11,a12,a13,a14,a15⟩
  | 1=>⟨a0,x,a2,a3,a4,a5,a6,a7,a8,a9,a10,a11,a12,a13,a14,a15⟩
  | 2=>⟨a0,a1,x,a3,a4,a5,a6,a7,a8,a9,a10,a11,a12,a13,a14,a15⟩
  | 3=>⟨a0,a1,a2,x,a4,a5,a6,a7,a8,a9,a10,a11,a12,a13,a14,a15⟩
  | 4=>⟨a0,a1,a2,a3,x,a5,a6,a7,a8,a9,a10,a11,a12,a13,a14,a15⟩
  | 5=>⟨a0,a1,a2,a3,a4,x,a6,a7,a8,a9,a10,a11,a12,a13,a14,a15⟩
  | 6=>⟨a0,a1,a2,a3,a4,a5,x,a7,a8,a9,a10,a11,a12,a13,a14,a15⟩
  | 7=>⟨a0,a1,a2,a3,a4,a5,a6,x,a8,a9,a10,a11,a12,a13,a14,a15⟩
  | 8=>⟨a0,a1,a2,a3,a4,a5,a6,a7,x,a9,a10,a11,a12,a13,a14,a15⟩
  | 9=>⟨a0,a1,a2,a3,a4,a5,a6,a7,a8,x,a10,a11,a12,a13,a14,a15⟩
  | 10=>⟨a0,a1,a2,a3,a4,a5,a6,a7,a8,a9,x,a11,a12,a13,a14,a15⟩
  | 11=>⟨a0,a1,a2,a3,a4,a5,a6,a7,a8,a9,a10,x,a12,a13,a14,a15⟩
  | 12=>⟨a0,a1,a2,a3,a4,a5,a6,a7,a8,a9,a10,a11,x,a13,a14,a15⟩
  | 13=>⟨a0,a1,a2,a3,a4,a5,a6,a7,a8,a9,a10,a11,a12,x,a14,a15⟩
  | 14=>⟨a0,a1,a2,a3,a4,a5,a6,a7,a8,a9,a10,a11,a12,a13,x,a15⟩
  | 15=>⟨a0,a1,a2,a3,a4,a5,a6,a7,a8,a9,a10,a11,a12,a13,a14,x⟩
  | _=>t
theorem N.get_set {α : Type} (t : N α) (d i : Nat) (x : α) : N.get (N.set t d x) i = if i = d ∧ d < 16 then some x else N.get t i := by
  obtain ⟨a0, a1, a2, a3, a4, a5, a6, a7, a8, a9, a10, a11, a12, a13, a14, a15⟩ := t
  rcases d with _ | _ | _ | _ | _ | _ | _ | _ | _ | _ | _ | _ | _ | _ | _ | _ | d
  all_goals first
    | (rcases i with _ | _ | _ | _ | _ | _ | _ | _ | _ | _ | _ | _ | _ | _ | _ | _ | i <;> first | rfl | (simp [N.set, N.get]; done) | (simp [N.set, N.get]; omega))
    | (have h : ¬ (d + 16 < 16) := by omega
       simp [N.set, h])
theorem zrK {α:Type} {d:Nat} {t:N α} {f:α→(α→A)→A} {c:N α→A} (G:¬((moC d).run t f c).isBad) :
  ∃ x,d<16∧N.get t d=some x∧(moC d).run t f c=f x fun y=>c (N.set t d y):=by
 obtain ⟨a0,a1,a2,a3,a4,a5,a6,a7,a8,a9,a10,a11,a12,a13,a14,a15⟩:=t
 rcases d with _ | _ | _ | _ | _ | _ | _ | _ | _ | _ | _ | _ | _ | _ | _ | _ | d
 all_goals first
  | exact ⟨_,by omega,rfl,rfl⟩
  | exact absurd trivial G
theorem zd2 {p:Nat} {t:T} {c:V→A} (G:¬((geC p).run t c).isBad):c (T.get t p)=(geC p).run t c:=by
 have e:(geC p).run t c=(seC (α:=N V) (p / 16)).run t fun u=>(seC (α:=V) (p % 16)).run u c:=rfl
 rw [e] at G ⊢
 obtain ⟨u,I,J⟩:=zrv G
 rw [←J] at G
 obtain ⟨x,Q,K⟩:=zrv G
 rw [←J,←K]
 simp [T.get,I,Q]
theorem zeC {p:Nat} {v:V} {t:T} {c:T→A} (G:¬((puC p).run v t c).isBad) :
  ∃ a,c a=(puC p).run v t c∧∀ i,T.get a i=if i=p then v else T.get t i:=by
 have e:(puC p).run v t c=(moC (α:=N V) (p / 16)).run t (fun u k=>(moC (α:=V) (p % 16)).run u (fun _ k=>k v) k) c:=rfl
 rw [e] at G ⊢
 obtain ⟨u,B,I,J⟩:=zrK G
 rw [J] at G
 obtain ⟨x,C,Q,K⟩:=zrK G
 rw [J,K]
 refine ⟨_,rfl,fun i=>?_⟩
 simp only [T.get,N.get_set]
 by_cases hi:i / 16=p / 16
 ·rw [if_pos ⟨hi,B⟩]
  simp only [Option.bind_some,N.get_set]
  by_cases r:i % 16=p % 16
  ·have:i=p:=by omega
   rw [if_pos ⟨r,C⟩,if_pos this];rfl
  ·have:¬i=p:=by intro h;subst h;exact r rfl
   rw [if_neg (fun h=>r h.1),if_neg this,hi,I];rfl
 ·have:¬i=p:=by intro h;subst h;exact hi rfl
  rw [if_neg (fun h=>hi h.1),if_neg this]
theorem zyc {i:Nat} {l:List V} {c:V→A} (G:¬((ntC i).run l c).isBad):c (l.getD i .bad)=(ntC i).run l c:=by
 induction i generalizing l with
 | zero=>cases l with
  | nil=>exact absurd trivial G
  | cons x l=>rfl
 | succ i X=>cases l with
  | nil=>exact absurd trivial G
  | cons x l =>
   have e:(ntC (i+1)).run (x::l) c=(ntC i).run l c:=rfl
   rw [e] at G ⊢
   simpa using X G
theorem zCh {β:Type} (l:List UInt8) (c:List Nat→β):cvS l c=c (l.map UInt8.toNat):=by
 induction l generalizing c with
 | nil=>rfl
 | cons x l X =>
  show fN x.toNat (fun n=>cvS l fun l=>c (n::l))=_
  rw [zE];exact X _
theorem zwb {β:Type} (k:IntKind) (c:IntKind→β):cvK k c=c k:=by cases k<;>rfl
theorem zBW:∀ (v:Value),cv v≠.bad→(∀ t l,cv v≠.ls t l)→v.oneCell'=true:=by
 intro v I J
 cases v with
 | agg c =>
  obtain ⟨c⟩:=c
  simp only [cv] at I J
  split at I
  ·rename_i l f;exact absurd (by rw [f]) (J 0 l)
  ·exact absurd rfl I
 | tuple c =>
  obtain ⟨c⟩:=c
  simp only [cv] at I J
  split at I
  ·rename_i l f;exact absurd (by rw [f]) (J 1 l)
  ·exact absurd rfl I
 | _=>rfl
mutual
theorem zqB (ν:Val):∀ v:Value,cv v≠.bad→VR ν (cv v) v
 | .bool b,_=>by cases b<;>simp [cv,VR]
 | .int k n,_=>by
  simp only [cv,zwb,zsu]
  cases n<;>simp [VR]
 | .float ..,h=>absurd (by simp [cv]) h
 | .complex ..,h=>absurd (by simp [cv]) h
 | .string s,_=>by simp only [cv,zCh];exact ⟨s,rfl,rfl⟩
 | .pointer none,_=>by simp [cv,VR]
 | .pointer (some _),h=>absurd (by simp [cv]) h
 | .slice none 0 0,_=>by simp [cv,VR]
 | .slice none 0 (_+1),h=>absurd (by simp [cv]) h
 | .slice none (_+1) _,h=>absurd (by simp [cv]) h
 | .slice (some _) _ _,h=>absurd (by simp [cv]) h
 | .map none,_=>by simp [cv,VR]
 | .map (some _),h=>absurd (by simp [cv]) h
 | .chan _,h=>absurd (by simp [cv]) h
 | .nilFunc,_=>by simp [cv,VR]
 | .nilIface,_=>by simp [cv,VR]
 | .func f a b,h=>by
  cases f with
  | func f =>
   obtain ⟨a⟩:=a
   obtain ⟨b⟩:=b
   cases a with
   | nil=>cases b with
    | nil=>simp only [cv,zE];exact ⟨[],[],rfl,rfl,rfl⟩
    | cons x b=>exact absurd (by simp [cv]) h
   | cons x a=>exact absurd (by simp [cv]) h
  | _=>exact absurd (by simp [cv]) h
 | .iface t v,h=>by
  have ih:=zqB ν v
  simp only [cv,zE] at h ⊢
  split at h
  ·exact absurd rfl h
  ·rename_i hne
   exact ⟨v,ih (fun e=>hne e),rfl⟩
 | .agg ⟨cs⟩,h=>by
  have ih:=zs2 ν cs
  simp only [cv] at h ⊢
  cases hc:zr6 cs with
  | none=>rw [hc] at h;exact absurd rfl h
  | some l =>
   obtain ⟨h1,h2⟩:=ih l hc
   exact ⟨cs,h1,rfl,h2⟩
 | .tuple ⟨cs⟩,h=>by
  have ih:=zwP ν cs
  simp only [cv] at h ⊢
  cases hc:cvs cs with
  | none=>rw [hc] at h;exact absurd rfl h
  | some l=>exact ⟨cs,ih l hc,rfl⟩
theorem zwP (ν:Val):∀ (l:List Value) (m:List V),cvs l=some m→VRs ν m l
 | [],m,h=>by simp [cvs] at h;subst h;rfl
 | v::l,m,h=>by
  have ih1:=zqB ν v
  have ih2:=zwP ν l
  simp only [cvs] at h
  split at h
  ·cases h
  ·rename_i hne
   cases hm:cvs l with
   | none=>rw [hm] at h;cases h
   | some m' =>
    rw [hm] at h
    simp only [Option.some.injEq] at h
    subst h
    exact ⟨v,l,rfl,ih1 hne,ih2 m' hm⟩
theorem zs2 (ν:Val):∀ (l:List Value) (m:List V),zr6 l=some m→VRs ν m l∧∀ y∈l,y.oneCell'=true
 | [],m,h=>by simp [zr6] at h;subst h;exact ⟨rfl,fun y hy=>by cases hy⟩
 | v::l,m,h=>by
  have ih1:=zqB ν v
  have ih2:=zs2 ν l
  simp only [zr6] at h
  split at h
  ·cases h
  ·cases h
  ·rename_i hne hls
   cases hm:zr6 l with
   | none=>rw [hm] at h;cases h
   | some m' =>
    rw [hm] at h
    simp only [Option.some.injEq] at h
    subst h
    obtain ⟨h1,h2⟩:=ih2 m' hm
    refine ⟨⟨v,l,rfl,ih1 hne,h1⟩,fun y hy=>?_⟩
    rcases kaj.1 hy with rfl | hy
    ·exact zBW _ hne (fun t l e=>hls t l e)
    ·exact h2 y hy
end
def OdR (ν:Val) (fi:FI) (ds:List Nat) (tm:T) (le:List V) (tmps:Array Value):Operand→Prop
 | .tmp t=>SlR ν fi T.get ds tm le tmps t
 | _=>True
def zEw (fi:FI) (ds:List Nat) (x:Operand) (f:OdC):Prop:=∀ tm le c,¬(f.run tm le c).isBad →
 ∃ v,c v=f.run tm le c∧∀ L D,yn L fi.ng→OdR L fi ds tm le D x→VR L v (ev D x)
theorem zbn {ns d:Nat} (h:qy ns d<256):qV ns d=false∧yl ns d<240∧qy ns d=yl ns d:=by
 unfold qy at *
 split at h
 ·rename_i I J
  exact ⟨I,by simpa [Nat.blt_eq] using J,by simp⟩
 ·omega
theorem zrM {p:Nat} {t:T} {c:V→A} (G:¬((geC p).run t c).isBad):p<256:=by
 have e:(geC p).run t c=(seC (α:=N V) (p / 16)).run t fun u=>(seC (α:=V) (p % 16)).run u c:=rfl
 rw [e] at G
 obtain ⟨u,I,_⟩:=zrv G
 rcases kaK (p / 16) 16 with h | h
 ·omega
 ·obtain ⟨a0,a1,a2,a3,a4,a5,a6,a7,a8,a9,a10,a11,a12,a13,a14,a15⟩:=t
  simp [N.get] at I
  rw [kal (by simpa using h)] at I
  cases I
theorem qf (fi:FI) (ds:List Nat) (x:Operand):zEw fi ds x (opd fi ds x):=by
 intro tm le c G
 cases x with
 | tmp t =>
  simp only [opd] at G ⊢
  cases hi:idx t ds 0 with
  | some i =>
   simp only [hi] at G ⊢
   exact ⟨_,zyc G,fun L D _ B=>B.2 i hi⟩
  | none =>
   simp only [hi] at G ⊢
   obtain ⟨I,J,Q⟩:=zbn (zrM G)
   refine ⟨_,zd2 G,fun L D _ B=>?_⟩
   rw [Q]
   exact B.1 I J hi
 | const v =>
  simp only [opd] at G ⊢
  cases X:cv v with
  | bad=>rw [X] at G;exact absurd trivial G
  | _ =>
   rw [X] at G
   refine ⟨_,rfl,fun L D _ _=>?_⟩
   have:=zqB L v (by rw [X];simp)
   rw [X] at this
   exact this
 | global g =>
  simp only [opd,zi8] at G ⊢
  cases C:Nat.blt g fi.ng with
  | false=>rw [C] at G;exact absurd trivial G
  | true =>
   refine ⟨_,rfl,fun L D O _=>⟨g,0,O g (by simpa [Nat.blt_eq] using C),rfl⟩⟩
 | func f =>
  simp only [opd,zE] at G ⊢
  exact ⟨_,rfl,fun L D _ _=>⟨[],[],rfl,rfl,rfl⟩⟩
def iv (k:IntKind) (z:Int):V:=match z with | .ofNat m=>.nat k m | .negSucc m=>.neg k m
theorem zds (ν:Val) (k:IntKind) (z:Int):VR ν (iv k z) (.int k z):=by cases z<;>simp [iv,VR]
theorem zru (k:IntKind) (z:Int) (c:V→A):ofI k z c=c (iv k z):=zsu k z c
theorem yN (k:IntKind) (z:Int) (c:V→A):zdM k z c=c (iv k (k.wrap z)):=zsu k _ c
theorem yp {k:IntKind} {n:Nat} (h:n<lim k):k.wrap (Int.ofNat n)=Int.ofNat n:=by
 cases k<;>simp [lim] at h<;>simp [IntKind.wrap,IntKind.bits,IntKind.signed]<;>omega
theorem jh (k:IntKind) (n:Nat) (c:V→A):zdz k n c=c (iv k (k.wrap (Int.ofNat n))):=by
 unfold zdz
 cases h:Nat.blt n (lim k)
 ·exact yN k _ c
 ·have u:n<lim k:=by simpa [Nat.blt_eq] using h
  rw [yp u]
  exact zE n _
theorem qx (a b:IntKind):qO a b=true↔a=b:=by cases a<;>cases b<;>simp [qO,IntKind.ctorIdx]
theorem zp (k:IntKind) (z:Int):toI (iv k z)=z:=by cases z<;>rfl
def wK (op:BinOp) (k:IntKind) (a b:Int):Option Value:=match op with
 | .add=>some (.int k (k.wrap (a+b)))
 | .sub=>some (.int k (k.wrap (a - b)))
 | .mul=>some (.int k (k.wrap (a*b)))
 | .quo=>if b=0 then none else some (.int k (k.wrap (a.tdiv b)))
 | .rem=>if b=0 then none else some (.int k (a.tmod b))
 | .and=>some (.int k (k.wrap (BitVec.ofInt k.bits a &&& BitVec.ofInt k.bits b).toNat))
 | .eql=>some (.bool (a == b))
 | .neq=>some (.bool (a != b))
 | .lss=>some (.bool (a<b))
 | .leq=>some (.bool (a≤b))
 | .gtr=>some (.bool (a > b))
 | .geq=>some (.bool (a ≥ b))
 | _=>none
theorem zz3 {op:BinOp} {k:IntKind} {a b:Int} {z:Value} (h:wK op k a b=some z) (C:op≠.shl) (A:op≠.shr) (t:TypeId) (e i:Operand) (w:World) :
  ((do eqGuard op t e i (.int k a) (.int k b);binOp op t (.int k a) (.int k b)):Sem Value).run P w=.ok z w:=by
 cases op<;>simp [wK] at h C A<;>(try subst h) <;>
  first
   | (simp [eqGuard,binOp,Op.intArith,Op.intBits,Op.intCmp];done)
   | (obtain ⟨I,rfl⟩:=h;simp [eqGuard,binOp,Op.intDiv,I];done)
def Res (B:Option Value) (r:A) (c:V→A):Prop:=∃ v z,c v=r∧B=some z∧∀ L,VR L v z
theorem zAA (a b:Nat):Nat.blt a b=decide ((Int.ofNat a)<Int.ofNat b):=by rw [kaA];simp [Nat.blt_eq]
theorem zzG (a b:Nat):Nat.ble a b=decide ((Int.ofNat a)≤Int.ofNat b):=by rw [kaA];simp
theorem ztn (a b:Nat):Nat.beq a b=((Int.ofNat a) == Int.ofNat b):=by
 rw [kaA,beq_iff_eq]
 exact ⟨fun h=>by rw [kac h],fun h=>by injection h with h;subst h;simp⟩
theorem zzH {op : BinOp} {k : IntKind} {a b : Nat} {c : V → A} (G : ¬ (zpF op a b c).isBad) : Res (wK op k (.ofNat a) (.ofNat b)) (zpF op a b c) c := by
  cases op <;> first
    | exact absurd trivial G
    | (simp only [zpF, za1, j6, zAA, zzG, ztn]
       exact ⟨_, _, rfl, rfl, fun _ => rfl⟩)
theorem wS {op : BinOp} {k : IntKind} {x y : V} {c : V → A} (G : ¬ (zfi op k x y c).isBad) (h0 : op = .quo ∨ op = .rem → toI y ≠ 0) : Res (wK op k (toI x) (toI y)) (zfi op k x y c) c := by
  cases op <;> first
    | exact absurd trivial G
    | (simp only [zfi, yN, zru]
       first
         | exact ⟨_, _, rfl, rfl, fun L => zds L _ _⟩
         | (refine ⟨_, _, rfl, ?_, fun L => zds L _ _⟩
            simp only [wK]
            rw [if_neg (h0 (by simp))]))
theorem zww {op:BinOp} {k:IntKind} {a b:Nat} {c:V→A} (G:¬(zgj op k a b c).isBad):Res (wK op k (.ofNat a) (.ofNat b)) (zgj op k a b c) c:=by
 cases op
 case add=>simp only [zgj,jh];exact ⟨_,_,rfl,rfl,fun L=>zds L _ _⟩
 case sub =>
  simp only [zgj]
  cases h:Nat.ble b a
  ·simp only [yN];exact ⟨_,_,rfl,rfl,fun L=>zds L _ _⟩
  ·simp only [jh]
   have u:b≤a:=kax.mp h
   refine ⟨_,_,rfl,rfl,fun L=>?_⟩
   have e:(Int.ofNat (Nat.sub a b))=Int.ofNat a - Int.ofNat b:=by simp only [Int.ofNat_eq_natCast];have:a.sub b=a - b:=rfl;omega
   rw [e];exact zds L _ _
 case mul=>simp only [zgj,jh];exact ⟨_,_,rfl,rfl,fun L=>zds L k _⟩
 case quo =>
  simp only [zgj] at G ⊢
  cases h:Nat.beq b 0
  ·have u:b≠0:=fun e=>by subst e;simp at h
   simp only [jh]
   refine ⟨_,_,rfl,by simp only [wK];rw [if_neg (by simpa using u)],fun L=>?_⟩
   have e:(Int.ofNat (Nat.div a b))=(Int.ofNat a).tdiv (Int.ofNat b):=rfl
   rw [e];exact zds L _ _
  ·rw [h] at G;exact absurd trivial G
 case rem =>
  simp only [zgj] at G ⊢
  cases h:Nat.beq b 0
  ·have u:b≠0:=fun e=>by subst e;simp at h
   simp only [zE]
   refine ⟨_,_,rfl,by simp only [wK];rw [if_neg (by simpa using u)],fun L=>?_⟩
   simp only [VR];rfl
  ·rw [h] at G;exact absurd trivial G
 case and=>exact wS (op:=.and) (x:=.nat k a) (y:=.nat k b) G (by simp)
 all_goals exact zzH G
theorem zzV {op : BinOp} {k : IntKind} {a b : Int} {lt : Bool} {c : V → A} (O : lt = decide (a < b)) (Z : a ≠ b) (G : ¬ (zup op lt c).isBad) : Res (wK op k a b) (zup op lt c) c := by
  subst O
  cases op <;> first
    | exact absurd trivial G
    | (simp only [zup, za1, j6]; exact ⟨_, _, rfl, rfl, fun _ => rfl⟩)
    | (simp only [zup, za1, j6]
       refine ⟨_, _, rfl, rfl, fun L => ?_⟩
       simp only [VR, Value.bool.injEq]
       rw [kaA]
       simp [Z]
       done)
    | (simp only [zup, za1, j6]
       refine ⟨_, _, rfl, rfl, fun L => ?_⟩
       simp only [VR, Value.bool.injEq]
       rw [kaA]
       simp
       omega)
theorem zpU {op:BinOp} {k:IntKind} {lt:Bool} {x y:V} {c:V→A} (O:lt=decide (toI x<toI y)) (Z:toI x≠toI y) (G:¬(zhS op k lt x y c).isBad):Res (wK op k (toI x) (toI y)) (zhS op k lt x y c) c:=by
 cases op
 case quo =>
  simp only [zhS] at G ⊢
  cases h:isZ (toI y)
  ·rw [h] at G
   have u:toI y≠0:=by intro e;rw [e] at h;cases h
   exact wS G (fun _=>u)
  ·rw [h] at G;exact absurd trivial G
 case rem =>
  simp only [zhS] at G ⊢
  cases h:isZ (toI y)
  ·rw [h] at G
   have u:toI y≠0:=by intro e;rw [e] at h;cases h
   exact wS G (fun _=>u)
  ·rw [h] at G;exact absurd trivial G
 all_goals first
  | exact wS G (by simp)
  | exact zzV O Z G
theorem zBj (a b:Nat):Nat.beq a b=decide (a=b):=by
 rw [kaA,decide_eq_true_iff]
 exact ⟨kac,fun h=>by subst h;simp⟩
theorem zwV {op : BinOp} {k : IntKind} {a b : Nat} {c : V → A} (G : ¬ (zt3 op k a b c).isBad) : Res (wK op k (.negSucc a) (.negSucc b)) (zt3 op k a b c) c := by
  have X : ∀ {op : BinOp}, ¬ (zpF op b a c).isBad → Res (wK op k (.negSucc a) (.negSucc b)) (zpF op b a c) c := by
    intro op G
    cases op <;> first
      | exact absurd trivial G
      | (simp only [zpF, za1, j6]
         refine ⟨_, _, rfl, rfl, fun L => ?_⟩
         simp only [VR, Value.bool.injEq]
         rw [kaA]
         simp [Nat.blt_eq, zBj]
         try omega)
  cases op
  case quo => exact wS (op := .quo) (x := .neg k a) (y := .neg k b) G (fun _ => by simp [toI])
  case rem => exact wS (op := .rem) (x := .neg k a) (y := .neg k b) G (fun _ => by simp [toI])
  case add => exact wS (op := .add) (x := .neg k a) (y := .neg k b) G (by simp)
  case sub => exact wS (op := .sub) (x := .neg k a) (y := .neg k b) G (by simp)
  case mul => exact wS (op := .mul) (x := .neg k a) (y := .neg k b) G (by simp)
  case and => exact wS (op := .and) (x := .neg k a) (y := .neg k b) G (by simp)
  all_goals exact X G
theorem zi2 (a b:List Nat):eqS a b=true↔a=b:=by
 induction a generalizing b with
 | nil=>cases b<;>simp [eqS]
 | cons x a X =>
  cases b with
  | nil=>simp [eqS]
  | cons y b =>
   have e:eqS (x::a) (y::b)=Bool.rec false (eqS a b) (Nat.beq x y):=rfl
   rw [e,zBj]
   by_cases h:x=y
   ·simp [h,X]
   ·simp [h]
theorem zax (s:ByteArray):s.toList=s.data.toList:=ByteArray.toList_eq s
theorem zfv {s t:ByteArray}:zP s=zP t↔s.toList=t.toList:=by
 rw [zax,zax]
 unfold zP
 constructor
 ·intro h
  exact (List.map_inj_right (fun _ _ h=>UInt8.toNat_inj.1 h)).1 h
 ·intro h;rw [h]
theorem zlm (s t:ByteArray):zP (s++t)=zP s++zP t:=by
 unfold zP
 rw [ByteArray.data_append];simp
theorem qz (s:ByteArray):(zP s).length=s.size:=by unfold zP;rw [kaH];rfl
def znY (op:BinOp) (a b:ByteArray):Option Value:=match op with
 | .add=>if ((a.size+b.size:Nat):Int) > IntKind.i64.max then none else some (.string (a++b))
 | .eql=>some (.bool (a.toList == b.toList))
 | .neq=>some (.bool !(a.toList == b.toList))
 | _=>none
theorem zAI {op:BinOp} {a b:ByteArray} {z:Value} (h:znY op a b=some z) (t:TypeId) (e i:Operand) (w:World) :
  ((do eqGuard op t e i (.string a) (.string b);binOp op t (.string a) (.string b)):Sem Value).run P w=.ok z w:=by
 cases op<;>simp [znY] at h<;>(try subst h) <;>
  first
   | (simp [eqGuard,binOp,Op.stringOp];done)
   | (obtain ⟨I,rfl⟩:=h;simp [eqGuard,binOp,Op.stringOp];omega)
theorem zzh {op:BinOp} {l Z:List Nat} {c:V→A} (G:¬(zna op l Z c).isBad):∃ v,c v=zna op l Z c∧∀ a b,zP a=l→zP b=Z→∃ z,znY op a b=some z∧∀ ν,VR ν v z:=by
 have B:∀ {a b:ByteArray},zP a=l→zP b=Z→eqS l Z=(a.toList == b.toList):=by
  rintro a b rfl rfl;rw [kaA,zi2,zfv,beq_iff_eq]
 cases op
 case add =>
  simp only [zna,wr,yy] at G ⊢
  cases h:Nat.ble (l++Z).length 9223372036854775807
  ·rw [h] at G;exact absurd trivial G
  ·refine ⟨_,rfl,?_⟩
   rintro a b rfl rfl
   have u:=kax.mp h
   rw [kae,qz,qz] at u
   refine ⟨_,by simp only [znY];rw [if_neg (by simp [IntKind.max,IntKind.bits,IntKind.signed];omega)],?_⟩
   exact fun _=>⟨_,rfl,zlm a b⟩
 case eql=>simp only [zna,za1];exact ⟨_,rfl,fun a b U hb=>⟨_,rfl,fun _=>by rw [B U hb];rfl⟩⟩
 case neq=>simp only [zna,za1,j6];exact ⟨_,rfl,fun a b U hb=>⟨_,rfl,fun _=>by rw [B U hb];rfl⟩⟩
 all_goals exact absurd trivial G
structure Out (P:Program) (n0:Nat) (w0:World) (ν:Val) (s:S) (ν':Val) (s':S) (w':World):Prop where
 le:ν.le ν'
 st:St P n0 w0 ν' s' w'
 nx:s.nx.toNat≤s'.nx.toNat
 keep:∀ a,(∀ v,ν.blk a v=none)→a.toNat<s.nx.toNat→(∀ v,ν'.blk a v=none)∧(Tr.get B.none a s'.h=Tr.get B.none a s.h∨Tr.get B.none a s'.h=.none)
theorem Out.refl {ν:Val} {s:S} {w:World} (h:St P n0 w0 ν s w):Out P n0 w0 ν s ν s w:=⟨ν.le_refl,h,kad _,fun _ h _=>⟨h,.inl rfl⟩⟩
theorem Out.trans {a b c:Val} {s t u:S} {w w':World} (h:Out P n0 w0 a s b t w) (k:Out P n0 w0 b t c u w'):Out P n0 w0 a s c u w' :=
 ⟨Val.le_trans h.le k.le,k.st,kaB h.nx k.nx,fun x M f=>by
  obtain ⟨I,J⟩:=h.keep x M f
  obtain ⟨n,i⟩:=k.keep x I (kan f h.nx)
  exact ⟨n,by rcases i with i | i<;>rcases J with J | J<;>simp_all⟩⟩
def QTy (P:Program) (t:TypeId) (q:Nat):Prop:=(q=0∧P.underlying t=some .bool)∨(q=7∧∃ k,P.underlying t=some (.int k))∨(q=8∧P.underlying t=some .string)
def yL (P:Program):Nat→List Field→List Nat→Prop
 | _,[],[]=>True
 | n, f :: A, q :: qs => f.name ≠ "_" ∧ f.offset = n ∧ QTy P f.type q ∧ yL P (n + 1) A qs
 | _,_,_=>False
def zD6 (P:Program) (t:TypeId) (qs:List Nat):Prop:=∃ n e q i,P.underlying t=some (.array n e)∧P.info? e=some i∧i.size=1∧QTy P e q∧qs=List.replicate n q
def zvn:Nat→Option (Array Value→Sem Value)
 | 0=>some Extern.AbiNoEscape.same
 | 1=>some Extern.BytealgIndexByte.indexByte
 | 2=>some Extern.BytealgCompare.compare
 | _=>none
structure PcOk (P:Program) (pc:PC):Prop where
 info:∀ t i,pc.info t=some i→P.info? t=some i
 func:∀ f fn,pc.func f=some fn→P.funcs[f]?=some fn
 ng:pc.ng≤P.globals.size
 names : ∀ (f : Nat) (fn : Func), P.funcs[f]? = some fn → fn.body.isSome = true → fn.name ≠ "runtime.NumGoroutine"
 mixed:pc.mixed=true→P.follows .mixedOrders=true
 eqs:∀ t qs,zbG t pc.eqs=some qs→P.eqGuardType P.depth t=false∧((P.stoodInHeld t=false∧∃ fs,P.underlying t=some (.struct fs)∧yL P 0 fs.toList qs)∨zD6 P t qs)
 ext:∀ f e,zm3 f pc.ext=e+1→∀ args w,∃ g,zvn e=some g∧(callFunc f args).run P w=((g args).run P w).andThen fun v w'=>.ok (.value v) w'
theorem PcOk.und {pc:PC} (h:PcOk P pc) {t:Nat} {d:TypeDesc} (B:pc.und t=some d):P.underlying t=some d:=by
 unfold PC.und at B
 unfold Program.underlying
 cases hi:pc.info t with
 | none=>simp [hi] at B
 | some i =>
  rw [hi] at B
  rw [h.info t i hi]
  obtain ⟨desc,a1,a2,a3,a4,a5,a6,a7,a8,a9⟩:=i
  cases desc with
  | named A u =>
   simp only at B ⊢
   cases hu:pc.info u with
   | none=>rw [hu] at B;cases B
   | some j=>rw [hu] at B;rw [h.info u j hu];exact B
  | _=>simpa using B
def zfS (ν:Val) (fi:FI) (ds:List Nat) (tm:T) (le:List V) (tmps:Array Value) (o:Oper):Prop:=∀ x∈o.op.operands.toList,OdR ν fi ds tm le tmps x
theorem zK (t:TypeId) (x y:Value) (w:World) (r:Bool) (h:∀ d,(Op.equalIn (d+1) t x y).run P w=.ok r w):(Op.equal t x y).run P w=.ok r w:=h 9999
section
variable {t:TypeId} {w:World}
theorem zBf (h:P.underlying t=some .bool) (a b:Bool):(Op.equal t (.bool a) (.bool b)).run P w=.ok (a == b) w :=
 zK t _ _ w _ fun d=>by simp [Op.equalIn,run_underlying h]
theorem zDa {k:IntKind} (h:P.underlying t=some (.int k)) (j:IntKind) (a b:Int):(Op.equal t (.int j a) (.int j b)).run P w=.ok (a == b) w :=
 zK t _ _ w _ fun d=>by simp [Op.equalIn,run_underlying h]
theorem zDi (h:P.underlying t=some .string) (a b:ByteArray):(Op.equal t (.string a) (.string b)).run P w=.ok (a == b) w :=
 zK t _ _ w _ fun d=>by simp [Op.equalIn,run_underlying h]
theorem zrN {e:TypeId} (h:P.underlying t=some (.pointer e)) (a:Option Addr):(Op.equal t (.pointer a) (.pointer none)).run P w=.ok a.isNone w :=
 zK t _ _ w _ fun d=>by cases a<;>simp [Op.equalIn,run_underlying h]
theorem zlc {e:TypeId} (h:P.underlying t=some (.pointer e)) (a:Option Addr):(Op.equal t (.pointer none) (.pointer a)).run P w=.ok a.isNone w :=
 zK t _ _ w _ fun d=>by simp [Op.equalIn,run_underlying h]
theorem zog {e:TypeId} {i:TypeInfo} (h:P.underlying t=some (.pointer e)) (C:P.info? e=some i) (hz:i.size≠0) (b o p:Nat):(Op.equal t (.pointer (some ⟨b,o,none⟩)) (.pointer (some ⟨b,p,none⟩))).run P w=.ok (o == p) w :=
 zK t _ _ w _ fun d=>by
  simp [Op.equalIn,run_underlying h,sizeOf,typeInfo,C,hz,sameAddr]
  rw [kaA];simp
theorem zdp {e:TypeId} (h:P.underlying t=some (.slice e)) (a:Option Addr) (n c m d:Nat):(Op.equal t (.slice a n c) (.slice none m d)).run P w=.ok a.isNone w :=
 zK t _ _ w _ fun d=>by cases a<;>simp [Op.equalIn,run_underlying h]
theorem zas {e:TypeId} (h:P.underlying t=some (.slice e)) (a:Option Addr) (n c m d:Nat):(Op.equal t (.slice none m d) (.slice a n c)).run P w=.ok a.isNone w :=
 zK t _ _ w _ fun d=>by simp [Op.equalIn,run_underlying h]
theorem zni {m:Array (String × TypeId)} (h:P.underlying t=some (.interface m)) (u:TypeId) (x:Value):(Op.equal t (.iface u x) .nilIface).run P w=.ok false w :=
 zK t _ _ w _ fun d=>by simp [Op.equalIn,run_underlying h]
theorem znv {m:Array (String × TypeId)} (h:P.underlying t=some (.interface m)) (u:TypeId) (x:Value):(Op.equal t .nilIface (.iface u x)).run P w=.ok false w :=
 zK t _ _ w _ fun d=>by simp [Op.equalIn,run_underlying h]
theorem ziJ {m:Array (String × TypeId)} (h:P.underlying t=some (.interface m)):(Op.equal t .nilIface .nilIface).run P w=.ok true w :=
 zK t _ _ w _ fun d=>by simp [Op.equalIn,run_underlying h]
end
def zzr (P:Program) (t:TypeId) (x y:Value) (r:Bool):Prop:=∀ d w,(Op.equalIn (d+1) t x y).run P w=.ok r w
theorem zzj {t:TypeId} {q:Nat} (E:QTy P t q) {a b:V} {r:Bool} (h:eqP q a b=some r) {ν:Val} {x y:Value} (M:VR ν a x) (Y:VR ν b y):zzr P t x y r:=by
 intro d w
 rcases E with ⟨rfl,hu⟩ | ⟨rfl,k,hu⟩ | ⟨rfl,hu⟩
 ·cases a with
  | bool c=>cases b with
   | bool z =>
    simp only [VR] at M Y
    subst M Y
    simp [Op.equalIn,run_underlying hu]
    cases c<;>cases z<;>simp [eqP,zbj] at h<;>simp [←h]
   | _=>cases h
  | _=>cases h
 ·have key:∀ (j W:IntKind) (m n:Int),(Op.equalIn (d+1) t (.int j m) (.int W n)).run P w=if j=W then .ok (m == n) w else (Op.equalIn (d+1) t (.int j m) (.int W n)).run P w:=by
   intro j W m n
   by_cases e:j=W
   ·subst e;rw [if_pos rfl];simp [Op.equalIn,run_underlying hu]
   ·rw [if_neg e]
  cases a with
  | nat j m=>cases b with
   | nat H n =>
    simp only [VR] at M Y
    have e:eqP 7 (.nat j m) (.nat H n)=Bool.rec none (some (Nat.beq m n)) (qO j H):=rfl
    rw [e] at h
    cases A:qO j H
    ·rw [A] at h;cases h
    ·rw [A] at h
     have F:=(qx _ _).1 A
     simp only [Option.some.injEq] at h
     rw [M,Y,key,if_pos F,←h,ztn]
   | neg H n =>
    simp only [VR] at M Y
    have e:eqP 7 (.nat j m) (.neg H n)=Bool.rec none (some false) (qO j H):=rfl
    rw [e] at h
    cases A:qO j H
    ·rw [A] at h;cases h
    ·rw [A] at h
     have F:=(qx _ _).1 A
     simp only [Option.some.injEq] at h
     rw [M,Y,key,if_pos F,←h];rfl
   | _=>cases h
  | neg j m=>cases b with
   | neg H n =>
    simp only [VR] at M Y
    have e:eqP 7 (.neg j m) (.neg H n)=Bool.rec none (some (Nat.beq m n)) (qO j H):=rfl
    rw [e] at h
    cases A:qO j H
    ·rw [A] at h;cases h
    ·rw [A] at h
     have F:=(qx _ _).1 A
     simp only [Option.some.injEq] at h
     rw [M,Y,key,if_pos F,←h]
     congr 1
     rw [kaA,zBj,beq_iff_eq]
     constructor
     ·intro h;injection h with h;simpa using h
     ·intro h;have:m=n:=by simpa using h
      rw [this]
   | nat H n =>
    simp only [VR] at M Y
    have e:eqP 7 (.neg j m) (.nat H n)=Bool.rec none (some false) (qO j H):=rfl
    rw [e] at h
    cases A:qO j H
    ·rw [A] at h;cases h
    ·rw [A] at h
     have F:=(qx _ _).1 A
     simp only [Option.some.injEq] at h
     rw [M,Y,key,if_pos F,←h];rfl
   | _=>cases h
  | _=>cases h
 ·cases a with
  | str l=>cases b with
   | str Z =>
    obtain ⟨s,rfl,C⟩:=M
    obtain ⟨U,rfl,J⟩:=Y
    have e:eqP 8 (.str l) (.str Z)=some (eqS l Z):=rfl
    rw [e] at h
    simp only [Option.some.injEq] at h
    have:(Op.equalIn (d+1) t (.string s) (.string U)).run P w=.ok (s == U) w:=by simp [Op.equalIn,run_underlying hu]
    rw [this,←h]
    congr 1
    rw [beq_toListBytes,kaA,zi2,←C,←J,zfv,beq_iff_eq]
   | _=>cases h
  | _=>cases h
theorem QTy.flat {t:TypeId} {q:Nat} (h:QTy P t q) (w:World):(isAgg t).run P w=.ok false w:=by
 rcases h with ⟨_,hu⟩ | ⟨_,k,hu⟩ | ⟨_,hu⟩<;>(unfold isAgg;rw [Sem.run_bind,run_underlying hu w];rfl)
theorem zkd {t:TypeId} {q:Nat} (h:QTy P t q) (X:Array Value) (n:Nat) (x:Value) (M:X[n]?=some x) (w:World):(part t X n).run P w=.ok x w:=by
 unfold part
 rw [Sem.run_bind,h.flat w]
 simp [M]
theorem ztO {ν:Val} (d:Nat) (X Y:Array Value):∀ (A:List Field) (qs:List Nat) (n:Nat) (a b:List V) (xs ys:List Value) (r:Bool),yL P n A qs→zn5 qs a b=some r→VRs ν a xs→VRs ν b ys →
  (∀ i,X[n+i]?=xs[i]?)→(∀ i,Y[n+i]?=ys[i]?)→∀ w,(Op.eqFields (d+1) X Y A).run P w=.ok r w
 | [],[],n,a,b,xs,ys,r,_,h,_,_,_,_,w=>by
  cases a with
  | nil=>cases b with
   | nil=>simp only [zn5,Option.some.injEq] at h;subst h;rfl
   | cons _ _=>cases h
  | cons _ _=>cases h
 | [],_::_,_,_,_,_,_,_,B,_,_,_,_,_,_=>B.elim
 | _::_,[],_,_,_,_,_,_,B,_,_,_,_,_,_=>B.elim
 | f::A,q::qs,n,a,b,xs,ys,r,B,h,l,hb,Z,D,w=>by
  obtain ⟨I,J,Q,K⟩:=B
  cases a with
  | nil=>cases h
  | cons u a=>cases b with
   | nil=>cases h
   | cons v b =>
    obtain ⟨x,xs,rfl,M,l⟩:=l
    obtain ⟨y,ys,rfl,F,hb⟩:=hb
    have e:zn5 (q::qs) (u::a) (v::b)=(match eqP q u v with | some true=>zn5 qs a b | some false=>some false | none=>none):=rfl
    rw [e] at h
    have H:X[f.offset]?=some x:=by rw [J];simpa using Z 0
    have C:Y[f.offset]?=some y:=by rw [J];simpa using D 0
    cases U:eqP q u v with
    | none=>rw [U] at h;cases h
    | some t =>
     rw [U] at h
     have c:=zzj Q U M F d w
     simp only [Op.eqFields,ne_eq,I,not_false_iff,if_true,Sem.run_bind,zkd Q X _ _ H,zkd Q Y _ _ C,Result.andThen_ok,c]
     cases t with
     | false=>simp only [Option.some.injEq] at h;subst h;rfl
     | true =>
      simp only [Bool.not_true,Bool.false_eq_true,if_false]
      exact ztO d X Y A qs (n+1) a b xs ys r K h l hb (fun i=>by have:=Z (i+1);rw [show n+1+i=n+(i+1) by omega];simpa using this) (fun i=>by have:=D (i+1);rw [show n+1+i=n+(i+1) by omega];simpa using this) w
theorem PC.size_ne {pc:PC} (Z:PcOk P pc) {e:Nat} (h:pc.size e≠0):∃ i,P.info? e=some i∧i.size=pc.size e:=by
 unfold PC.size at *
 cases hi:pc.info e with
 | none=>rw [hi] at h;exact absurd rfl h
 | some i=>exact ⟨i,Z.info e i hi,by simp⟩
def zuD (P:Program) (t:TypeId) (S:Bool) (x y:Value):Prop:=∀ op e i w,(S=true→isC e=true∨isC i=true)→(eqGuard op t e i x y).run P w=.ok () w
theorem jf {t : TypeId} {S : Bool} {x y : Value} (I : x = .nilIface → y = .nilIface → S = true) (J : ∀ c d, x = .agg c → y = .agg d → P.eqGuardType P.depth t = false) : zuD P t S x y := by
  intro op e i w X
  cases op <;> first
    | (simp [eqGuard]; done)
    | (cases x <;> first
        | (simp [eqGuard]; done)
        | (cases y <;> first
            | (simp [eqGuard]; done)
            | (rcases X (I rfl rfl) with Q | Q
               · cases e <;> simp [isC] at Q
                 simp [eqGuard]
               · cases i <;> simp [isC] at Q
                 simp [eqGuard])
            | (have Q := J _ _ rfl rfl
               simp [eqGuard, Q])))
theorem zlr (t:TypeId) (x y:Value) (w:World) (r:Bool) (h:∀ d,(Op.equalIn (d+2) t x y).run P w=.ok r w):(Op.equal t x y).run P w=.ok r w:=h 9998
theorem zjX {pc:PC} (Z:PcOk P pc) {t:TypeId} {S:Bool} {a b:V} {r:Bool} (h:eqV (pc.eqKind t) S a b=some r) {ν:Val} {x y:Value} (M:VR ν a x) (Y:VR ν b y) :
  (∀ w,(Op.equal t x y).run P w=.ok r w)∧zuD P t S x y:=by
 unfold PC.eqKind at h
 cases hu:pc.und t with
 | none=>rw [hu] at h;cases h
 | some d =>
  have z:=Z.und hu
  rw [hu] at h
  have plain:∀ q,QTy P t q→eqP q a b=some r→(∀ w,(Op.equal t x y).run P w=.ok r w)∧zuD P t S x y:=by
   intro q E h
   refine ⟨fun w=>zzj E h M Y 9999 w,?_⟩
   rcases E with ⟨rfl,_⟩ | ⟨rfl,_⟩ | ⟨rfl,_⟩
   ·cases a<;>first | (cases h;done) | (simp only [VR] at M;subst M;exact jf (fun e=>by cases e) (fun _ _ e=>by cases e))
   ·cases a<;>first | (cases h;done) | (simp only [VR] at M;subst M;exact jf (fun e=>by cases e) (fun _ _ e=>by cases e))
   ·cases a<;>first | (cases h;done) | (obtain ⟨s,rfl,_⟩:=M;exact jf (fun e=>by cases e) (fun _ _ e=>by cases e))
  cases d with
  | bool=>exact plain 0 (.inl ⟨rfl,z⟩) h
  | int k=>exact plain 7 (.inr (.inl ⟨rfl,k,z⟩)) h
  | string=>exact plain 8 (.inr (.inr ⟨rfl,z⟩)) h
  | pointer e =>
   simp only at h
   cases hz:Nat.beq (pc.size e) 0 with
   | true=>rw [hz] at h;cases h
   | false =>
    rw [hz] at h
    have T:pc.size e≠0:=fun k=>by rw [k] at hz;cases hz
    obtain ⟨i,hi,m⟩:=PC.size_ne Z T
    cases a with
    | ptr ka v o =>
     obtain ⟨D,l,j,rfl⟩:=M
     cases b with
     | ptr N u p =>
      obtain ⟨W,X,L,rfl⟩:=Y
      have f:eqV ⟨1,[]⟩ S (.ptr ka v o) (.ptr N u p)=Bool.rec none (some (Nat.beq o p)) (zB (K.beq ka N) (Nat.beq v u)):=rfl
      rw [f] at h
      cases H:zB (K.beq ka N) (Nat.beq v u) with
      | false=>rw [H] at h;cases h
      | true =>
       rw [H] at h
       rw [zgZ,kaf] at H
       have I:=(K.beq_iff _ _).1 H.1
       have J:=kac H.2
       subst I J
       rw [j] at L
       simp only [Option.some.injEq,Prod.mk.injEq] at L
       obtain ⟨rfl,rfl⟩:=L
       simp only [Option.some.injEq] at h
       refine ⟨fun w=>?_,jf (fun e=>by cases e) (fun _ _ e=>by cases e)⟩
       rw [zog z hi (by rw [m];exact T),←h]
       congr 1
       rw [kaA,zBj];simp
     | nil u =>
      rcases u with _ | u
      ·simp only [VR] at Y;subst Y
       simp only [eqV] at h
       refine ⟨fun w=>?_,jf (fun e=>by cases e) (fun _ _ e=>by cases e)⟩
       rw [zrN z];cases h;rfl
      ·cases h
     | _=>cases h
    | nil u =>
     rcases u with _ | u
     ·simp only [VR] at M;subst M
      cases b with
      | ptr N u p =>
       obtain ⟨W,X,L,rfl⟩:=Y
       refine ⟨fun w=>?_,jf (fun e=>by cases e) (fun _ _ e=>by cases e)⟩
       rw [zlc z];cases h;rfl
      | nil u =>
       rcases u with _ | u
       ·simp only [VR] at Y;subst Y
        refine ⟨fun w=>?_,jf (fun e=>by cases e) (fun _ _ e=>by cases e)⟩
        rw [zlc z];cases h;rfl
       ·cases h
      | _=>cases h
     ·cases h
    | _=>cases h
  | slice e =>
   have F:∀ {u:Option Addr} {n c:Nat},zuD P t S (.slice u n c) y:=jf (fun e=>by cases e) (fun _ _ e=>by cases e)
   cases a with
   | nil u =>
    rcases u with _ | _ | u
    ·cases h
    ·simp only [VR] at M;subst M
     cases b with
     | nil u =>
      rcases u with _ | _ | u
      ·cases h
      ·simp only [VR] at Y;subst Y;exact ⟨fun w=>by rw [zas z];cases h;rfl,F⟩
      ·cases h
     | sl _ _ _ _ _=>obtain ⟨_,_,_,rfl,_⟩:=Y;exact ⟨fun w=>by rw [zas z];cases h;rfl,F⟩
     | so _ _ _ _ _=>obtain ⟨_,_,_,_,rfl,_⟩:=Y;exact ⟨fun w=>by rw [zas z];cases h;rfl,F⟩
     | ref u _ =>
      rcases u with _ | _ | u
      ·cases h
      ·obtain ⟨_,_,rfl⟩:=VR.ref1 Y;exact ⟨fun w=>by rw [zas z];cases h;rfl,F⟩
      ·cases h
     | _=>cases h
    ·cases h
   | sl _ _ _ _ _ =>
    obtain ⟨_,_,_,rfl,_⟩:=M
    cases b with
    | nil u =>
     rcases u with _ | _ | u
     ·cases h
     ·simp only [VR] at Y;subst Y;exact ⟨fun w=>by rw [zdp z];cases h;rfl,F⟩
     ·cases h
    | _=>cases h
   | so _ _ _ _ _ =>
    obtain ⟨_,_,_,_,rfl,_⟩:=M
    cases b with
    | nil u =>
     rcases u with _ | _ | u
     ·cases h
     ·simp only [VR] at Y;subst Y;exact ⟨fun w=>by rw [zdp z];cases h;rfl,F⟩
     ·cases h
    | _=>cases h
   | ref v _ =>
    rcases v with _ | _ | v
    ·cases h
    ·obtain ⟨_,_,rfl⟩:=VR.ref1 M
     cases b with
     | nil u =>
      rcases u with _ | _ | u
      ·cases h
      ·simp only [VR] at Y;subst Y;exact ⟨fun w=>by rw [zdp z];cases h;rfl,F⟩
      ·cases h
     | _=>cases h
    ·cases h
   | _=>cases h
  | interface ms =>
   cases a with
   | nil u =>
    rcases u with _ | _ | _ | _ | _ | u
    ·cases h
    ·cases h
    ·cases h
    ·cases h
    ·simp only [VR] at M;subst M
     cases b with
     | nil u =>
      have e:eqV ⟨5,[]⟩ S (.nil 4) (.nil u)=Bool.rec none (some true) (zB S (Nat.beq u 4)):=rfl
      simp only at h
      rw [e] at h
      cases H:zB S (Nat.beq u 4) with
      | false=>rw [H] at h;cases h
      | true =>
       rw [H] at h
       rw [zgZ,kaf] at H
       have aa:=kac H.2
       subst aa
       simp only [VR] at Y;subst Y
       exact ⟨fun w=>by rw [ziJ z];cases h;rfl,jf (fun _ _=>H.1) (fun _ _ e=>by cases e)⟩
     | ifc _ _=>obtain ⟨_,_,rfl⟩:=Y;exact ⟨fun w=>by rw [znv z];cases h;rfl,jf (fun _ e=>by cases e) (fun _ _ e=>by cases e)⟩
     | _=>cases h
    ·cases h
   | ifc _ _ =>
    obtain ⟨_,_,rfl⟩:=M
    cases b with
    | nil u =>
     rcases u with _ | _ | _ | _ | _ | u
     ·cases h
     ·cases h
     ·cases h
     ·cases h
     ·simp only [VR] at Y;subst Y;exact ⟨fun w=>by rw [zni z];cases h;rfl,jf (fun e=>by cases e) (fun _ _ e=>by cases e)⟩
     ·cases h
    | _=>cases h
   | _=>cases h
  | struct A =>
   simp only at h
   cases E:zbG t pc.eqs with
   | none=>rw [E] at h;cases h
   | some qs =>
    rw [E] at h
    obtain ⟨U,h0⟩:=Z.eqs t qs E
    rcases h0 with ⟨R,ad,g,C⟩ | ⟨n,e,q,i,g,_⟩
    ·cases a with
     | ls ta O =>
      cases b with
      | ls tb lb =>
       have e:eqV ⟨6,qs⟩ S (.ls ta O) (.ls tb lb)=Bool.rec none (zn5 qs O lb) (zB (Nat.beq ta 0) (Nat.beq tb 0)):=rfl
       simp only at h
       rw [e] at h
       cases H:zB (Nat.beq ta 0) (Nat.beq tb 0) with
       | false=>rw [H] at h;cases h
       | true =>
        rw [H] at h
        rw [zgZ,kaf] at H
        have I:=kac H.1
        have J:=kac H.2
        subst I J
        obtain ⟨xs,Q,rfl,_⟩:=M
        obtain ⟨ys,G,rfl,_⟩:=Y
        have B:P.fieldsOf t=ad:=by simp [Program.fieldsOf,g]
        refine ⟨fun w=>?_,jf (fun e=>by cases e) (fun _ _ _ _=>U)⟩
        refine zlr t _ _ w r fun d=>?_
        rw [run_equalIn_struct w (d+1) t _ _ (by rw [B];exact g) R,B]
        exact ztO d _ _ _ _ 0 _ _ _ _ _ C h Q G (fun i=>by simp) (fun i=>by simp) w
      | _=>cases h
     | _=>cases h
    ·rw [z] at g;cases g
  | _=>cases h
theorem zBM {t:TypeId} {S:Bool} {x y:Value} {r:Bool} (I:∀ w,(Op.equal t x y).run P w=.ok r w) (B:zuD P t S x y) (o:(∀ k n,x≠.int k n)∧(∀ s,x≠.string s)∧(∀ k n,x≠.float k n)∧(∀ k a b,x≠.complex k a b)) (neg:Bool) (e i:Operand)
  (X:S=true→isC e=true∨isC i=true) (w:World) :
  ((do eqGuard (if neg then .neq else .eql) t e i x y;binOp (if neg then .neq else .eql) t x y):Sem Value).run P w=.ok (.bool (if neg then !r else r)) w:=by
 rw [Sem.run_bind,B _ _ _ _ X]
 obtain ⟨m,v,J,A⟩:=o
 cases neg<;>cases x<;>first
  | exact absurd rfl (m _ _)
  | exact absurd rfl (v _)
  | exact absurd rfl (J _ _)
  | exact absurd rfl (A _ _ _)
  | simp [binOp,I]
theorem znC {pc:PC} (Z:PcOk P pc) {t:TypeId} {S:Bool} {q:EK} {op:BinOp} (aa:op≠.shl∧op≠.shr) (E:op=.eql∨op=.neq→q=pc.eqKind t) {x y:V} {c:V→A} (G:¬(zw q S op x y c).isBad) :
  ∃ v,c v=zw q S op x y c∧∀ {ν:Val} {a b:Value},VR ν x a→VR ν y b→∃ z,VR ν v z∧∀ e i w,(S=true→isC e=true∨isC i=true)→((do eqGuard op t e i a b;binOp op t a b):Sem Value).run P w=.ok z w:=by
 have ints:∀ (k:IntKind) (a b:Int) (r:A),Res (wK op k a b) r c→(∀ ν X,VR ν x X→X=.int k a)→(∀ ν Y,VR ν y Y→Y=.int k b) →
   ∃ v,c v=r∧∀ {ν:Val} {a b:Value},VR ν x a→VR ν y b→∃ z,VR ν v z∧∀ e i w,(S=true→isC e=true∨isC i=true)→((do eqGuard op t e i a b;binOp op t a b):Sem Value).run P w=.ok z w:=by
  rintro k a b r ⟨v,z,I,J,Q⟩ M d
  refine ⟨v,I,fun {ν A B} p R=>⟨z,Q ν,fun e i w _=>?_⟩⟩
  rw [M ν A p,d ν B R]
  exact zz3 J aa.1 aa.2 t e i w
 have eqs:∀ (m:∀ ν X,VR ν x X→(∀ k n,X≠.int k n)∧(∀ s,X≠.string s)∧(∀ k n,X≠.float k n)∧(∀ k a b,X≠.complex k a b)) (r:A),
   r=zg6 q S op x y c→¬r.isBad →
   ∃ v,c v=r∧∀ {ν:Val} {a b:Value},VR ν x a→VR ν y b→∃ z,VR ν v z∧∀ e i w,(S=true→isC e=true∨isC i=true)→((do eqGuard op t e i a b;binOp op t a b):Sem Value).run P w=.ok z w:=by
  intro m r N G
  have both:∀ neg:Bool,op=(if neg then .neq else .eql)→r=zfm q S neg x y c→∃ v,c v=r∧∀ {ν:Val} {a b:Value},VR ν x a→VR ν y b→∃ z,VR ν v z∧∀ e i w,(S=true→isC e=true∨isC i=true)→((do eqGuard op t e i a b;binOp op t a b):Sem Value).run P w=.ok z w:=by
   intro neg C N
   subst N
   have F:=E (by cases neg<;>simp at C<;>simp [C])
   subst F
   unfold zfm at G ⊢
   cases O:eqV (pc.eqKind t) S x y with
   | none=>rw [O] at G;exact absurd trivial G
   | some s =>
    refine ⟨.bool (if neg then !s else s),?_,fun {ν A B} p R=>?_⟩
    ·simp only [za1]
     cases neg<;>simp [j6]
    ·obtain ⟨T,D⟩:=zjX Z O p R
     refine ⟨.bool (if neg then !s else s),rfl,fun e i w g=>?_⟩
     subst C
     exact zBM T D (m ν A p) neg e i g w
  by_cases o1:op=.eql
  ·exact both false o1 (by rw [N,o1];rfl)
  ·by_cases o2:op=.neq
   ·exact both true o2 (by rw [N,o2];rfl)
   ·have:zg6 q S op x y c=.bad 0:=by cases op<;>first | rfl | exact absurd rfl o1 | exact absurd rfl o2
    rw [N,this] at G
    exact absurd trivial G
 unfold zw at G ⊢
 cases x with
 | nat k a=>cases y with
  | nat H b =>
   simp only at G ⊢
   cases F:qO k H
   ·rw [F] at G;exact absurd trivial G
   ·rw [F] at G
    have:=(qx _ _).1 F
    subst this
    exact ints k _ _ _ (zww G) (fun ν X h=>h) (fun ν X h=>h)
  | neg H b =>
   simp only at G ⊢
   cases F:qO k H
   ·rw [F] at G;exact absurd trivial G
   ·rw [F] at G
    have:=(qx _ _).1 F
    subst this
    have I:=Int.negSucc_lt_zero b
    have J:(0:Int)≤Int.ofNat a:=Int.natCast_nonneg a
    refine ints k (toI (.nat k a)) (toI (.neg k b)) _ (zpU ?_ ?_ G) (fun ν X h=>h) (fun ν X h=>h)
    ·show false=decide (Int.ofNat a<Int.negSucc b)
     rw [eq_comm,decide_eq_false_iff_not];omega
    ·show Int.ofNat a≠Int.negSucc b
     omega
  | _=>exact absurd trivial G
 | neg k a=>cases y with
  | neg H b =>
   simp only at G ⊢
   cases F:qO k H
   ·rw [F] at G;exact absurd trivial G
   ·rw [F] at G
    have:=(qx _ _).1 F
    subst this
    exact ints k _ _ _ (zwV G) (fun ν X h=>h) (fun ν X h=>h)
  | nat H b =>
   simp only at G ⊢
   cases F:qO k H
   ·rw [F] at G;exact absurd trivial G
   ·rw [F] at G
    have:=(qx _ _).1 F
    subst this
    have I:=Int.negSucc_lt_zero a
    have J:(0:Int)≤Int.ofNat b:=Int.natCast_nonneg b
    refine ints k (toI (.neg k a)) (toI (.nat k b)) _ (zpU ?_ ?_ G) (fun ν X h=>h) (fun ν X h=>h)
    ·show true=decide (Int.negSucc a<Int.ofNat b)
     rw [eq_comm,decide_eq_true_iff];omega
    ·show Int.negSucc a≠Int.ofNat b
     omega
  | _=>exact absurd trivial G
 | str l=>cases y with
  | str L =>
   obtain ⟨v,I,J⟩:=zzh G
   refine ⟨v,I,fun {ν A B} p R=>?_⟩
   obtain ⟨s,rfl,W⟩:=p
   obtain ⟨U,rfl,ad⟩:=R
   obtain ⟨z,Q,K⟩:=J s U W ad
   exact ⟨z,K ν,fun e i w _=>zAI Q t e i w⟩
  | _=>exact absurd trivial G
 | bad =>
  exfalso
  have j:eqV q S .bad y=none:=by
   obtain ⟨k,qs⟩:=q
   rcases k with _ | _ | _ | _ | _ | _ | _ | _ | _ | k<;>rfl
  have O:∀ neg,zfm q S neg .bad y c=.bad 0:=fun neg=>by unfold zfm;rw [j]
  refine G ?_
  show (zg6 q S op .bad y c).isBad
  cases op<;>simp only [zg6,O]<;>trivial
 | bool b=>exact eqs (fun ν X h=>by simp only [VR] at h;subst h;simp) _ rfl G
 | ptr a v o=>exact eqs (fun ν X h=>by obtain ⟨_,_,_,rfl⟩:=h;simp) _ rfl G
 | sl a v o l c=>exact eqs (fun ν X h=>by obtain ⟨_,_,_,rfl,_⟩:=h;simp) _ rfl G
 | so a v o l c=>exact eqs (fun ν X h=>by obtain ⟨_,_,_,_,rfl,_⟩:=h;simp) _ rfl G
 | nil u=>exact eqs (fun ν X h=>by rcases u with _ | _ | _ | _ | _ | u<;>simp only [VR] at h<;>first | (subst h;simp) | exact h.elim) _ rfl G
 | ref u a=>exact eqs (fun ν X h=>by
   rcases u with _ | _ | _ | _ | u
   ·obtain ⟨_,_,rfl⟩:=h;simp
   ·obtain ⟨_,_,rfl⟩:=VR.ref1 h;simp
   ·exact h.elim
   ·obtain ⟨_,_,rfl⟩:=h;simp
   ·exact h.elim) _ rfl G
 | ls u l=>exact eqs (fun ν X h=>by
   rcases u with _ | _ | u
   ·obtain ⟨_,_,rfl,_⟩:=h;simp
   ·obtain ⟨_,_,rfl⟩:=h;simp
   ·obtain ⟨_,_,h⟩:=h;exact h.elim) _ rfl G
 | fn f a b=>exact eqs (fun ν X h=>by obtain ⟨_,_,_,_,rfl⟩:=h;simp) _ rfl G
 | ifc u v=>exact eqs (fun ν X h=>by obtain ⟨_,_,rfl⟩:=h;simp) _ rfl G
end Go.Ev
