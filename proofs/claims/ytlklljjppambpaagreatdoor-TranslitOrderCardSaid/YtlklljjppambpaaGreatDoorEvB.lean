/- First laws of the evaluator: values, rows, blocks, frames, places, numbers, texts. No statement of the seat stands here. No condition. By an AI agent. -/
import Derived.Test.YtlklljjppambpaaGreatDoorEvA
import Derived.Below
import Derived.Control
import Derived.Deep.MidRow
import Derived.Calls
import Derived.Laws.Strings
import Derived.TacticsIn
import Derived.Laws.Sem
import Derived.Laws.Externs
import Derived.Laws.StructEq
import Derived.ChangeKeysEq
namespace Go.Ev
def Tr.get {α:Type} (d:α):K→Tr α→α
 | _,.lf=>d
 | .h,.nd _ v _=>v
 | .o p,.nd l _ _=>Tr.get d p l
 | .i p,.nd _ _ r=>Tr.get d p r
def K.succ:K→K | .h=>.o .h | .o p=>.i p | .i p=>.o p.succ
def K.toNat:K→Nat | .h=>1 | .o p=>2*p.toNat | .i p=>2*p.toNat+1
def Tr.set {α:Type} (d:α) (x:α):K→Tr α→Tr α
 | .h,.lf=>.nd .lf x .lf
 | .h,.nd l _ r=>.nd l x r
 | .o p,.lf=>.nd (Tr.set d x p .lf) d .lf
 | .o p,.nd l v r=>.nd (Tr.set d x p l) v r
 | .i p,.lf=>.nd .lf d (Tr.set d x p .lf)
 | .i p,.nd l v r=>.nd l v (Tr.set d x p r)
theorem K.toNat_pos (k:K):0<k.toNat:=by induction k<;>simp [K.toNat]<;>omega
theorem K.toNat_succ (k:K):k.succ.toNat=k.toNat+1:=by induction k<;>simp [K.succ,K.toNat]<;>omega
theorem K.toNat_inj {a b:K} (h:a.toNat=b.toNat):a=b:=by
 induction a generalizing b with
 | h=>cases b with
  | h=>rfl
  | o q=>simp [K.toNat] at h;omega
  | i q=>simp [K.toNat] at h;have:=q.toNat_pos;omega
 | o p ih=>cases b with
  | h=>simp [K.toNat] at h;omega
  | o q=>have:=ih (b:=q) (by simp [K.toNat] at h;omega);rw [this]
  | i q=>simp [K.toNat] at h;omega
 | i p ih=>cases b with
  | h=>simp [K.toNat] at h;have:=p.toNat_pos;omega
  | o q=>simp [K.toNat] at h;omega
  | i q=>have:=ih (b:=q) (by simp [K.toNat] at h;omega);rw [this]
theorem K.beq_iff (a b:K):K.beq a b=true↔a=b:=by
 induction a generalizing b with
 | h=>cases b<;>simp [K.beq]
 | o p ih=>cases b<;>simp [K.beq]<;>exact ih _
 | i p ih=>cases b<;>simp [K.beq]<;>exact ih _
noncomputable instance:DecidableEq K:=fun a b=>decidable_of_iff (K.beq a b=true) (K.beq_iff a b)
section
variable {α β γ:Type}
theorem zzN (d:α) (k:K) (t:Tr α) (c:α→β):Tr.getK d k t c=c (Tr.get d k t):=by
 induction k generalizing t with
 | h=>cases t<;>rfl
 | o p ih=>cases t with
  | lf=>rfl
  | nd l v r=>exact ih l
 | i p ih=>cases t with
  | lf=>rfl
  | nd l v r=>exact ih r
theorem zz9 (d:α) (k:K) (x:α) (t:Tr α) (c:Tr α→β):Tr.setK d k x t c=c (Tr.set d x k t):=by
 induction k generalizing t c with
 | h=>cases t<;>rfl
 | o p ih=>cases t with
  | lf=>exact ih .lf _
  | nd l v r=>exact ih l _
 | i p ih=>cases t with
  | lf=>exact ih .lf _
  | nd l v r=>exact ih r _
theorem zer (d:α) (k:K):Tr.get d k .lf=d:=by cases k<;>rfl
theorem get_set (d x:α) (k j:K) (t:Tr α):Tr.get d j (Tr.set d x k t)=if j=k then x else Tr.get d j t:=by
 induction k generalizing t j with
 | h=>cases t<;>cases j<;>simp [Tr.set,Tr.get,zer]
 | o p ih=>cases t<;>cases j<;>simp [Tr.set,Tr.get,ih,zer]
 | i p ih=>cases t<;>cases j<;>simp [Tr.set,Tr.get,ih,zer]
theorem zH (n:Nat) (c:Nat→β):fN n c=c n:=by cases n<;>rfl
theorem jn (l:List γ) (c:Nat→β):zfz l c=c l.length:=by
 have h:∀ (l:List γ) (n:Nat),(List.rec (motive:=fun _=>Nat→β) (fun n=>c n) (fun _ _ ih n=>fN (Nat.succ n) ih) l n:β)=c (n+l.length):=by
  intro l
  induction l with
  | nil=>intro n;rfl
  | cons x l ih=>intro n;show fN (Nat.succ n) _=_;rw [zH,ih];congr 1;simp;omega
 have:=h l 0
 simpa [zfz] using this
theorem zHm (o:Nat) (l:List V) (c:V→β):zNz o l c=c (l.getD o .bad):=by
 induction o generalizing l with
 | zero=>cases l<;>rfl
 | succ o ih=>cases l with
  | nil=>rfl
  | cons x l=>exact (ih l).trans (by simp)
theorem wv (n:Nat) (l:List γ) (c:List γ→β):zeQ n l c=c (l.drop n):=by
 induction n generalizing l with
 | zero=>rfl
 | succ n ih=>cases l with
  | nil=>rfl
  | cons x l=>exact ih l
theorem ziJ (n:Nat) (l:List γ) (c:List γ→β):zDr n l c=c (l.take n):=by
 induction n generalizing l c with
 | zero=>show c []=_;simp
 | succ n ih=>cases l with
  | nil=>rfl
  | cons x l=>exact ih l _
theorem yf (a b:List γ) (c:List γ→β):zah a b c=c (a++b):=by
 induction a generalizing c with
 | nil=>rfl
 | cons x a ih=>exact ih _
def put:List V→List V→List V
 | [],l=>l
 | x::xs,[]=>x::put xs []
 | x::xs,_::t=>x::put xs t
def upd (xs:List V):Nat→List V→List V
 | 0,l=>put xs l
 | o+1,[]=>.bad::upd xs o []
 | o+1,y::t=>y::upd xs o t
theorem zMn (xs l:List V) (c:List V→β):zOp xs l c=c (put xs l):=by
 induction xs generalizing l c with
 | nil=>rfl
 | cons x xs ih=>cases l with
  | nil=>exact ih [] _
  | cons y t=>exact ih t _
@[simp] theorem zdp (xs : List V) (o : Nat) (l : List V) (c : List V → β) : qY xs o l c = c (upd xs o l) := by
  induction o generalizing l c with
  | zero => exact zMn xs l c
  | succ o ih => cases l with
    | nil => exact ih [] _
    | cons y t => exact ih t _
def rep (l:List V):Nat→List V
 | 0=>[]
 | n+1=>l++rep l n
@[simp] theorem ziR (l : List V) (n : Nat) (c : List V → β) : j4 l n c = c (rep l n) := by
  induction n generalizing c with
  | zero => rfl
  | succ n ih => exact (ih _).trans (yf _ _ _)
theorem zFa (xs l:List V):(put xs l).length=max xs.length l.length:=by
 induction xs generalizing l with
 | nil=>simp [put]
 | cons x xs ih=>cases l<;>simp [put,ih]<;>omega
theorem zMo (xs l:List V) (i:Nat):(put xs l)[i]?=if i<xs.length then xs[i]? else l[i]?:=by
 induction xs generalizing l i with
 | nil=>simp [put]
 | cons x xs ih=>cases l with
  | nil=>cases i<;>simp [put,ih]
  | cons y t=>cases i<;>simp [put,ih]
theorem zgV (xs:List V) (o:Nat) (l:List V) (h:o+xs.length≤l.length):(upd xs o l).length=l.length:=by
 induction o generalizing l with
 | zero=>simp [upd,zFa];omega
 | succ o ih=>cases l with
  | nil=>simp at h
  | cons y t=>simp [upd];exact ih t (by simp at h;omega)
theorem zHx (xs:List V) (o:Nat) (l:List V) (h:o+xs.length≤l.length) (i:Nat) :
  (upd xs o l)[i]?=if o≤i∧i<o+xs.length then xs[i - o]? else l[i]?:=by
 induction o generalizing l i with
 | zero=>simp [upd,zMo]
 | succ o ih=>cases l with
  | nil=>simp at h
  | cons y t=>cases i with
   | zero=>simp [upd]
   | succ i =>
    simp only [upd,List.getElem?_cons_succ]
    rw [ih t (by simp at h;omega)]
    have e:i+1 - (o+1)=i - o:=by omega
    have e2:(o+1≤i+1∧i+1<o+1+xs.length)↔(o≤i∧i<o+xs.length):=by omega
    simp only [e,e2]
theorem zaZ (l:List V) (n:Nat):(rep l n).length=n*l.length:=by
 induction n with
 | zero=>simp [rep]
 | succ n ih=>simp [rep,ih,Nat.succ_mul];omega
theorem zco (b:Bool) (c:V→β):fB b c=c (.bool b):=by cases b<;>rfl
theorem wD (b:Bool):zat b=!b:=by cases b<;>rfl
theorem znc (a b:Bool):zq a b=(a && b):=by cases a<;>rfl
theorem zF2 (k:IntKind) (z:Int) (c:V→β):ofI k z c=c (match z with | .ofNat m=>.nat k m | .negSucc m=>.neg k m):=by
 cases z with
 | ofNat m=>show fN m (fun m=>c (V.nat k m))=c (V.nat k m);rw [zH]
 | negSucc m=>show fN m (fun m=>c (V.neg k m))=c (V.neg k m);rw [zH]
theorem zK (s:S) (a:K) (c:B→β):zY s a c=c (Tr.get B.none a s.h):=by cases s;exact zzN _ _ _ _
theorem qp (s:S) (a:K) (b:B) (c:S→β):jP s a b c=c ⟨Tr.set B.none b a s.h,s.nx⟩:=by cases s;exact zz9 _ _ _ _ _
theorem zJ6 (k:K) (c:K→β):zNq k c=c k.succ:=by
 induction k generalizing c with
 | h=>rfl
 | o p ih=>rfl
 | i p ih=>exact ih _
theorem zdy (s:S) (b:B) (c:K→S→β):jU s b c=c s.nx ⟨Tr.set B.none b s.nx s.h,s.nx.succ⟩:=by
 cases s
 exact (zz9 _ _ _ _ _).trans (zJ6 _ _)
end
open Go.RowKit
structure Val where
 blk:K→Nat→Option (Nat × Nat)
 cap:K→Nat→Nat
 sz:K→Nat
def Val.le (ν ν':Val):Prop:=∀ a v p,ν.blk a v=some p→ν'.blk a v=some p∧ν'.cap a v=ν.cap a v∧ν'.sz a=ν.sz a
theorem Val.le_refl (ν:Val):ν.le ν:=fun _ _ _ h=>⟨h,rfl,rfl⟩
theorem Val.le_trans {a b c:Val} (h:a.le b) (k:b.le c):a.le c:=fun x v p hp=>by
 obtain ⟨h1,h2,h3⟩:=h x v p hp
 obtain ⟨k1,k2,k3⟩:=k x v p h1
 exact ⟨k1,k2.trans h2,k3.trans h3⟩
def qm (s:ByteArray):List Nat:=s.data.toList.map UInt8.toNat
mutual
def VR (ν:Val):V→Value→Prop
 | .bad,_=>True
 | .nat k n,x=>x=.int k (Int.ofNat n)
 | .neg k n,x=>x=.int k (Int.negSucc n)
 | .bool b,x=>x=.bool b
 | .str l,x=>∃ s,x=.string s∧qm s=l
 | .ptr a v o,x=>∃ b δ,ν.blk a v=some (b,δ)∧x=.pointer (some ⟨b,δ+o,none⟩)
 | .sl a v o len cap,x=>∃ b δ,ν.blk a v=some (b,δ)∧x=.slice (some ⟨b,δ+o,none⟩) len cap∧len≤cap
 | .so a v o len e,x=>∃ b δ cap,ν.blk a v=some (b,δ)∧x=.slice (some ⟨b,δ+o,none⟩) len cap∧len≤cap∧ν.cap a v=e+cap∧o=e*ν.sz a
 | .nil t,x=>match t with
  | 0=>x=.pointer none | 1=>x=.slice none 0 0 | 2=>x=.map none | 3=>x=.nilFunc | 4=>x=.nilIface | _=>False
 | .ref t a,x=>match t with
  | 0=>∃ b,ν.blk a 0=some (b,0)∧x=.map (some b)
  | 1=>(∃ ad,x=.slice (some ad) 0 0)∨∃ v b δ off cap,ν.blk a v=some (b,δ)∧x=.slice (some ⟨b,off,none⟩) 0 cap∧δ≤off∧off+cap*ν.sz a≤δ+ν.cap a v*ν.sz a
  | 3=>∃ b,ν.blk a 0=some (b,0)∧x=.func (.yield b) #[] #[]
  | _=>False
 | .ls t l,x=>∃ c:List Value,VRs ν l c∧match t with
  | 0=>x=.agg ⟨c⟩∧∀ y∈c,y.oneCell'=true
  | 1=>x=.tuple ⟨c⟩
  | _=>False
 | .fn f a b,x=>∃ c d:List Value,VRs ν a c∧VRs ν b d∧x=.func f ⟨c⟩ ⟨d⟩
 | .ifc t v,x=>∃ y,VR ν v y∧x=.iface t y
def VRs (ν:Val):List V→List Value→Prop
 | [],c=>c=[]
 | v::l,c=>∃ x r,c=x::r∧VR ν v x∧VRs ν l r
end
variable {ν:Val}
theorem VR.ref1 {a:K} {x:Value} (h:VR ν (.ref 1 a) x):∃ ad cap,x=.slice (some ad) 0 cap:=by
 rcases h with ⟨_,h⟩ | ⟨_,_,_,_,_,_,h,_⟩<;>exact ⟨_,_,h⟩
theorem VR.undef:VR ν Ev.undef Go.undef:=by
 refine ⟨[],rfl,rfl⟩
mutual
theorem VR.mono {ν ν':Val} (h:ν.le ν'):∀ (v:V) (x:Value),VR ν v x→VR ν' v x
 | .bad,_,_=>trivial
 | .nat _ _,_,r=>r
 | .neg _ _,_,r=>r
 | .bool _,_,r=>r
 | .str _,_,r=>r
 | .ptr _ _ _,_,⟨b,δ,r,e⟩=>⟨b,δ,(h _ _ _ r).1,e⟩
 | .sl _ _ _ _ _,_,⟨b,δ,r,e⟩=>⟨b,δ,(h _ _ _ r).1,e⟩
 | .so _ _ _ _ _,_,⟨b,δ,cap,r,e,e2,e3,e4⟩=>⟨b,δ,cap,(h _ _ _ r).1,e,e2,(h _ _ _ r).2.1▸e3,(h _ _ _ r).2.2▸e4⟩
 | .nil _,_,r=>r
 | .ref 0 _,_,⟨b,r,e⟩=>⟨b,(h _ _ _ r).1,e⟩
 | .ref 1 _,_,.inl g=>.inl g
 | .ref 1 _,_,.inr ⟨v,b,δ,off,cap,r,e,e2,e3⟩=>.inr ⟨v,b,δ,off,cap,(h _ _ _ r).1,e,e2,by rw [(h _ _ _ r).2.1,(h _ _ _ r).2.2];exact e3⟩
 | .ref 2 _,_,r=>r.elim
 | .ref 3 _,_,⟨b,r,e⟩=>⟨b,(h _ _ _ r).1,e⟩
 | .ref (_+4) _,_,r=>r.elim
 | .ls _ l,_,⟨c,r,e⟩=>⟨c,VRs.mono h l c r,e⟩
 | .fn _ a b,_,⟨c,d,r,q,e⟩=>⟨c,d,VRs.mono h a c r,VRs.mono h b d q,e⟩
 | .ifc _ v,_,⟨y,r,e⟩=>⟨y,VR.mono h v y r,e⟩
theorem VRs.mono {ν ν':Val} (h:ν.le ν'):∀ (l:List V) (c:List Value),VRs ν l c→VRs ν' l c
 | [],_,r=>r
 | v::l,_,⟨x,r,e,q,s⟩=>⟨x,r,e,VR.mono h v x q,VRs.mono h l r s⟩
end
theorem VRs.length {ν:Val}:∀ {l:List V} {c:List Value},VRs ν l c→c.length=l.length
 | [],_,r=>by simp [VRs] at r;simp [r]
 | v::l,_,⟨x,r,e,_,s⟩=>by rw [e];simp [VRs.length s]
theorem VRs.get {ν:Val}:∀ {l:List V} {c:List Value},VRs ν l c→∀ (i:Nat) (x:V),l[i]?=some x→∃ y,c[i]?=some y∧VR ν x y
 | [],_,_,i,x,h=>by simp at h
 | v::l,_,⟨x,r,e,q,s⟩,i,y,h=>by
  subst e
  cases i with
  | zero=>simp at h;subst h;exact ⟨x,rfl,q⟩
  | succ i=>simp at h;simpa using VRs.get s i y h
theorem VRs.of_get {ν:Val}:∀ {l:List V} {c:List Value},c.length=l.length→(∀ (i:Nat) (x:V),l[i]?=some x→∃ y,c[i]?=some y∧VR ν x y)→VRs ν l c
 | [],c,h,_=>by simp at h;simp [VRs,h]
 | v::l,[],h,_=>by simp at h
 | v::l,x::c,h,g=>by
  refine ⟨x,c,rfl,?_,VRs.of_get (by simpa using h) fun i y hi=>?_⟩
  ·obtain ⟨y,hy,r⟩:=g 0 v rfl
   simp at hy;subst hy;exact r
  ·simpa using g (i+1) y (by simpa using hi)
theorem VRs.append {ν:Val}:∀ {l m:List V} {c d:List Value},VRs ν l c→VRs ν m d→VRs ν (l++m) (c++d)
 | [],_,_,_,h,k=>by simp [VRs] at h;simpa [h] using k
 | v::l,_,_,_,⟨x,r,e,q,s⟩,k=>by subst e;exact ⟨x,_,rfl,q,VRs.append s k⟩
def MR (ν:Val) (e:ME) (e':MapEntry):Prop:=VR ν e.key e'.key∧VR ν e.val e'.val∧e.born=e'.born
def MRs (ν:Val):List ME→List MapEntry→Prop
 | [],c=>c=[]
 | e::l,c=>∃ x r,c=x::r∧MR ν e x∧MRs ν l r
def lst:Nat→LoopState→Prop
 | 0,s=>s=.ready | 1,s=>s=.busy | 2,s=>s=.done | 3,s=>s=.exhausted | _,_=>False
def SlR (ν:Val) (fi:FI) (get:T→Nat→V) (ds:List Nat) (tm:T) (le:List V) (tmps:Array Value) (t:Nat):Prop :=
 (yE fi.ns t=false→yM fi.ns t<240→idx t ds 0=none→VR ν (get tm (yM fi.ns t)) (tmps.getD t Go.undef)) ∧
 (∀ i,idx t ds 0=some i→VR ν (le.getD i .bad) (tmps.getD t Go.undef))
def FrR (ν:Val) (fi:FI) (get:T→Nat→V) (tm:T) (tmps:Array Value):Prop :=
 tmps.size=fi.nt∧∀ t,yE fi.ns t=false→yM fi.ns t<240→VR ν (get tm (yM fi.ns t)) (tmps.getD t Go.undef)
def N.get {α:Type}:N α→Nat→Option α
 | ⟨a0,a1,a2,a3,a4,a5,a6,a7,a8,a9,a10,a11,a12,a13,a14,a15⟩,i=>[a0,a1,a2,a3,a4,a5,a6,a7,a8,a9,a10,a11,a12,a13,a14,a15][i]?
def T.get (t:T) (i:Nat):V:=((N.get t (i / 16)).bind fun u=>N.get u (i % 16)).getD .bad
def FzR (fz:Nat × Nat) (δ f1 f2:Nat):Prop:=fz.1=fz.2∨(δ+f1≤fz.1∧fz.1≤fz.2∧fz.2≤δ+f2)
variable {c:Array Value} {f1 f2 δ:Nat} {fz:Nat × Nat} {el:TypeId}
theorem FzR.old {w:World} {b:Nat} (h:FzR fz δ f1 f2) (hc:w.heap[b]?=some (.cells c el fz)) (i:Nat) (hf:w.frozen? ⟨b,i,none⟩=true):δ+f1≤i∧i<δ+f2:=by
 unfold World.frozen? at hf
 rw [hc] at hf
 unfold FzR at h
 simp at hf
 omega
theorem zLD {w:World} {b:Nat} (hc:w.heap[b]?=some (.cells c el fz)) (h:fz.1=fz.2) (j:Nat):w.frozen? ⟨b,j,none⟩=false:=by
 cases hf:w.frozen? ⟨b,j,none⟩ with
 | false=>rfl
 | true =>
  unfold World.frozen? at hf
  rw [hc] at hf
  simp at hf
  omega
structure RowR (P:Program) (ν:Val) (w:World) (a:K) (l:List V) (n el:Nat) (gr:Bool) (mn f1 f2:Nat):Prop where
 len:l.length=n
 v0:gr=false→∀ v p,ν.blk a v=some p→v=0∧p.2=0
 vn:gr=true→∀ v p,ν.blk a v=some p→v≤n
 mnn:gr=true→mn≤n
 same:∀ v v' b δ δ',ν.blk a v=some (b,δ)→ν.blk a v'=some (b,δ')→δ=δ'
 at_:∀ v b δ,ν.blk a v=some (b,δ)→∃ c fz,w.heap[b]?=some (.cells c el fz)∧ν.sz a=P.cellsOf el ∧
  ((gr=false∧f1=0∧n≤f2)∨FzR fz δ f1 f2) ∧
  (gr=true→δ+ν.cap a v*ν.sz a≤c.size∧v≤ν.cap a v*ν.sz a) ∧
  ((gr=true→mn≤v)→∀ (i:Nat) (x:V),l[i]?=some x→(gr=true→i<v)→∃ y,c[δ+i]?=some y∧(x≠.bad→y.oneCell'=true)∧VR ν x y)
def zNe (es:List ME) (ck:Nat) (rest:List ME) (cur:Option ME) (seen:Array Nat) (last:Nat):Prop :=
 j8 ck es=true∧last=ck∧rest.Sublist es∧(∀ e∈es,seen.contains e.born=!(rest.any fun x=>x.born == e.born))∧(∀ e,cur=some e→e∈es∧seen.back?=some e.born∧last=ck)
def BR (P:Program) (ν:Val) (w:World) (a:K):B→Prop
 | .none=>True
 | .row l n el gr mn f1 f2=>RowR P ν w a l n el gr mn f1 f2
 | .map es ck=>∀ v b δ,ν.blk a v=some (b,δ)→v=0∧∃ es',w.heap[b]?=some (.map es' ck)∧MRs ν es es'.toList
 | .loop st pend fi tm ps asg body df=>∀ v b δ,ν.blk a v=some (b,δ)→v=0∧fi.ng≤P.globals.size∧∃ ls fn tmps d,w.heap[b]?=some (.loop { state:=ls,pending:=pend,fn:=fn,tmps:=tmps,params:=⟨ps⟩,assign:=asg,body:=body,defers:=d }) ∧
   lst st ls∧FrR ν fi T.get tm tmps∧(∃ δ',ν.blk df 0=some (d,δ'))
 | .dfd l=>∀ v b δ,ν.blk a v=some (b,δ)→v=0∧(l=some []→w.heap[b]?=some (.deferred (some [])))∧∃ x,w.heap[b]?=some (.deferred x)
 | .it s pos _=>∀ v b δ,ν.blk a v=some (b,δ)→v=0∧δ=0∧∃ t,w.heap[b]?=some (.stringIter t pos)∧(qm t).drop pos=s
 | .mit m es ck rest cur=>∀ v b δ,ν.blk a v=some (b,δ)→v=0∧δ=0∧∃ mb seen last,ν.blk m 0=some (mb,0)∧w.heap[b]?=some (.mapIter (some mb) ck seen last)∧zNe es ck rest cur seen last
def zpJ:B→Prop
 | .row _ n _ gr _ f1 f2=>gr=false∧f1=0∧n≤f2
 | _=>False
def B.live:B→Prop | .none=>False | _=>True
structure St (P:Program) (n0:Nat) (w0:World) (ν:Val) (s:S) (w:World):Prop where
 below:Below n0 w0 w
 n0le:n0≤w0.heap.size
 rows:∀ a,BR P ν w a (Tr.get B.none a s.h)
 fresh:∀ a,s.nx.toNat≤a.toNat→(∀ v,ν.blk a v=none)∧Tr.get B.none a s.h=.none
 sep:∀ a v b δ a' v' δ',ν.blk a v=some (b,δ)→ν.blk a' v'=some (b,δ')→(Tr.get B.none a s.h).live→(Tr.get B.none a' s.h).live→a=a'
 own:∀ a v b δ,ν.blk a v=some (b,δ)→(Tr.get B.none a s.h).live→n0≤b∨zpJ (Tr.get B.none a s.h)
def zFF (ν:Val) (s s':S):Prop:=∀ a,(∀ v,ν.blk a v=none)→a.toNat<s.nx.toNat→Tr.get B.none a s'.h=Tr.get B.none a s.h
theorem zFF.refl (ν:Val) (s:S):zFF ν s s:=fun _ _ _=>rfl
def A.isBad:A→Prop | .bad _=>True | .pnc _ _=>True | .alt a b=>a.isBad∨b.isBad | _=>False
theorem zsm {a b:Nat} (h:Nat.ble a b=false):¬a≤b:=fun k=>by
 have:Nat.ble a b=true:=kaA.mpr k
 rw [h] at this;cases this
theorem zeT (n:Nat) (gr:Bool) (mn v e:Nat):j9 n gr mn v e=true↔(gr=true→mn≤v∧v≤n∧e≤v)∧(gr=false→e≤n):=by
 cases gr
 ·simp [j9]
 ·simp only [j9]
  cases h1:Nat.ble mn v
  ·have:¬mn≤v:=zsm h1
   simp [this]
  ·have h1':mn≤v:=by simpa using h1
   cases h2:Nat.ble v n
   ·have:¬v≤n:=zsm h2
    simp [this]
   ·have h2':v≤n:=by simpa using h2
    simp [h1',h2']
theorem zK2 (n:Nat) (gr:Bool) (v o e f1 f2:Nat):zfA n gr v o e f1 f2=true↔((gr=true→v=n)∧e≤n)∧(f2≤o∨e≤f1):=by
 cases gr
 ·simp only [zfA]
  cases h1:Nat.ble e n
  ·have:¬e≤n:=zsm h1
   simp [this]
  ·have h1':e≤n:=by simpa using h1
   cases h2:Nat.ble f2 o
   ·have:¬f2≤o:=zsm h2
    simp [h1',this]
   ·have h2':f2≤o:=by simpa using h2
    simp [h1',h2']
 ·simp only [zfA]
  cases h0:Nat.beq v n
  ·have:¬v=n:=by intro h;simp [h] at h0
   simp [this]
  ·have h0':v=n:=kaa h0
   cases h1:Nat.ble e n
   ·have:¬e≤n:=zsm h1
    simp [this]
   ·have h1':e≤n:=by simpa using h1
    cases h2:Nat.ble f2 o
    ·have:¬f2≤o:=zsm h2
     simp [h0',h1',this]
    ·have h2':f2≤o:=by simpa using h2
     simp [h0',h1',h2']
theorem zIh (x:V) (c:V→A) (h:¬(zzS x c).isBad):zzS x c=c x∧x≠.bad:=by
 cases x with
 | bad=>exact absurd trivial h
 | _=>exact ⟨rfl,fun e=>by cases e⟩
theorem zK9 (n:Nat):∀ (l:List V) (c:List V→A),¬(zlN n l c).isBad→zlN n l c=c (l.take n)∧∀ x∈l.take n,x≠.bad:=by
 induction n with
 | zero=>intro l c _;exact ⟨by show c []=_;simp,by simp⟩
 | succ n ih =>
  intro l c h
  cases l with
  | nil=>exact ⟨rfl,by simp⟩
  | cons x t =>
   cases x with
   | bad=>exact absurd trivial h
   | _ =>
    obtain ⟨h1,h2⟩:=ih t _ h
    exact ⟨h1,by simpa using h2⟩
variable {P:Program} {n0:Nat} {w0:World}
theorem jK {w:World} {b:Nat} (h:w.heap[b]?=some (.cells c el fz)) (i:Nat):w.cell? ⟨b,i,none⟩=c[i]?:=by
 simp [World.cell?,h]
variable {gr:Bool} {a:K} {l:List V} {el m mn n o v:Nat} {ν:Val}
theorem RowR.cells' {w:World} (h:RowR P ν w a l n el gr mn f1 f2) {b:Nat}
  (hb:ν.blk a v=some (b,δ)) (hr:j9 n gr mn v (o+m)=true) :
  ∃ cs:List Value,cs.length=m∧w.rangeAt b (δ+o) cs∧VRs ν ((l.drop o).take m) cs∧(∀ (i:Nat) x y,((l.drop o).take m)[i]?=some x→cs[i]?=some y→x≠.bad→y.oneCell'=true):=by
 obtain ⟨h1,h2⟩:=(zeT _ _ _ _ _).1 hr
 obtain ⟨c,fz,hc,_,_,_,hcell⟩:=h.at_ v b δ hb
 have hcell:=hcell (fun g=>(h1 g).1)
 have hlen:o+m≤l.length:=by
  rw [h.len]
  cases gr
  ·exact h2 rfl
  ·have:=h1 rfl;omega
 have hv:gr=true→o+m≤v:=fun g=>(h1 g).2.2
 have key:∀ j,j<m→∃ y,c[δ+(o+j)]?=some y∧(l[o+j]?.getD .bad≠.bad→y.oneCell'=true)∧VR ν (l[o+j]?.getD .bad) y:=by
  intro j hj
  have hx:l[o+j]?=some (l[o+j]'(by omega)):=kac _
  obtain ⟨y,hy,h1,hr⟩:=hcell (o+j) _ hx (fun g=>by have:=hv g;omega)
  exact ⟨y,hy,by rw [hx];exact h1,by rw [hx];exact hr⟩
 refine ⟨(List.range m).map fun j=>c[δ+(o+j)]?.getD Go.undef,by simp,?_,?_,?_⟩
 ·intro j x hj
  rw [kal] at hj
  by_cases hjm:j<m
  ·rw [List.getElem?_range hjm] at hj
   simp only [Option.map_some,Option.some.injEq] at hj
   obtain ⟨y,hy,_,_⟩:=key j hjm
   rw [jK hc,show δ+o+j=δ+(o+j) by omega,hy]
   rw [hy] at hj
   simpa using hj
  ·rw [kau (by simpa using hjm)] at hj
   simp at hj
 ·refine VRs.of_get (by simp;omega) fun i x hi=>?_
  have him:i<m:=by
   rcases kaq i m with h | h
   ·exact h
   ·rw [kau (by simp;omega)] at hi;simp at hi
  obtain ⟨y,hy,_,hr⟩:=key i him
  refine ⟨y,by rw [kal,List.getElem?_range him];simp [hy],?_⟩
  rw [List.getElem?_take_of_lt him,List.getElem?_drop] at hi
  rw [hi] at hr
  exact hr
 ·intro i x y hx hy hne
  have him:i<m:=by
   rcases kaq i m with h | h
   ·exact h
   ·rw [kau (by simpa using h)] at hy;simp at hy
  obtain ⟨z,hz,h1,_⟩:=key i him
  rw [kal,List.getElem?_range him] at hy
  simp only [Option.map_some,Option.some.injEq] at hy
  rw [hz] at hy
  simp only [Option.getD_some] at hy
  subst hy
  rw [List.getElem?_take_of_lt him,List.getElem?_drop] at hx
  exact h1 (by rw [hx];exact hne)
theorem RowR.cells {w:World} (h:RowR P ν w a l n el gr mn f1 f2) {b:Nat}
  (hb:ν.blk a v=some (b,δ)) (hr:j9 n gr mn v (o+m)=true) (hk:∀ x∈(l.drop o).take m,x≠.bad) :
  ∃ cs:List Value,cs.length=m∧w.rangeAt b (δ+o) cs∧VRs ν ((l.drop o).take m) cs∧(∀ y∈cs,y.oneCell'=true):=by
 obtain ⟨cs,h1,h2,h3,h4⟩:=h.cells' hb hr
 refine ⟨cs,h1,h2,h3,fun y hy=>?_⟩
 obtain ⟨i,hi,e⟩:=List.mem_iff_getElem.1 hy
 have hl:=h3.length
 have hx:((l.drop o).take m)[i]?=some (((l.drop o).take m)[i]'(by omega)):=kac _
 exact h4 i _ y hx (by rw [kac hi,e]) (hk _ (kae hx))
def zcm (P:Program) (ν:Val) (s:S) (w:World):Prop:=∀ a,BR P ν w a (Tr.get B.none a s.h)
variable {s:S}
theorem ww {c:List V→A} (hnb:¬(zM s a v o m c).isBad) :
  ∃ l,c l=zM s a v o m c∧∀ {ν:Val} {w:World},zcm P ν s w→∀ b δ,ν.blk a v=some (b,δ) →
   ∃ cs:List Value,cs.length=m∧w.rangeAt b (δ+o) cs∧VRs ν l cs∧(∀ y∈cs,y.oneCell'=true):=by
 unfold zM at hnb ⊢
 rw [zK] at hnb ⊢
 generalize hB:Tr.get B.none a s.h=B' at hnb ⊢
 cases B' with
 | row l n el gr mn f1 f2 =>
  simp only [] at hnb ⊢
  generalize hr:j9 n gr mn v (Nat.add o m)=r at hnb ⊢
  cases r with
  | false=>exact absurd trivial hnb
  | true =>
   simp only [wv] at hnb ⊢
   obtain ⟨hk1,hk2⟩:=zK9 m _ _ hnb
   refine ⟨(l.drop o).take m,hk1.symm,fun {ν w} hst b δ hb=>?_⟩
   have hrow:=hst a
   rw [hB] at hrow
   exact hrow.cells hb hr hk2
 | _=>exact absurd trivial hnb
theorem zBz {c:V→A} (hnb:¬(zbh s a v o c).isBad) :
  ∃ x,c x=zbh s a v o c∧∀ {ν:Val} {w:World},zcm P ν s w→∀ b δ,ν.blk a v=some (b,δ) →
   ∃ y,w.cell? ⟨b,δ+o,none⟩=some y∧VR ν x y∧y.oneCell'=true:=by
 unfold zbh at hnb ⊢
 rw [zK] at hnb ⊢
 generalize hB:Tr.get B.none a s.h=B' at hnb ⊢
 cases B' with
 | row l n el gr mn f1 f2 =>
  simp only [] at hnb ⊢
  generalize hr:j9 n gr mn v (Nat.succ o)=r at hnb ⊢
  cases r with
  | false=>exact absurd trivial hnb
  | true =>
   simp only [zHm] at hnb ⊢
   obtain ⟨hk1,hk2⟩:=zIh _ _ hnb
   refine ⟨l.getD o .bad,hk1.symm,fun {ν w} hst b δ hb=>?_⟩
   have hrow:=hst a
   rw [hB] at hrow
   obtain ⟨cs,hl,hra,hv,h1⟩:=hrow.cells (m:=1) hb hr (fun x hx=>by
    obtain ⟨i,hi,hxi⟩:=List.mem_iff_getElem.1 hx
    have h0:i=0:=by simp at hi;omega
    subst h0
    rw [←hxi]
    simp only [List.getElem_take,List.getElem_drop,Nat.add_zero]
    intro e
    apply hk2
    rw [kan,kac (by simp at hi;omega)]
    exact e)
   match cs,hl with
   | [y],_ =>
    refine ⟨y,by simpa using hra 0 y rfl,?_,h1 y (by simp)⟩
    obtain ⟨h1,h2⟩:=(zeT _ _ _ _ _).1 hr
    have hlen:=hrow.len
    have ho:o<l.length:=by
     rw [hlen]
     cases gr
     ·have:=h2 rfl;omega
     ·have:=h1 rfl;omega
    have e:(l.drop o).take 1=[l.getD o .bad]:=by
     have e0:l.getD o .bad=l[o]:=by simp [List.getD,kac ho]
     rw [e0,List.drop_eq_getElem_cons ho];rfl
    rw [e] at hv
    obtain ⟨x,r,e1,hx,_⟩:=hv
    simp at e1
    rw [e1.1];exact hx
 | _=>exact absurd trivial hnb
theorem jS (b:Nat):∀ (vs:List Value) (o:Nat) (w:World) (k:Nat),k≠b→(w.setCells b o vs).heap[k]?=w.heap[k]?
 | [],_,_,_,_=>rfl
 | v::r,o,w,k,h=>by rw [World.setCells,jS b r (o+1) _ k h,Below.heap_setCell _ _ _ _ h]
theorem Below.setCells {B:Nat} {a:World} {b:Nat} (hb:B≤b):∀ (vs:List Value) (o:Nat) (w:World),Below B a w→Below B a (w.setCells b o vs)
 | [],_,_,h=>h
 | v::r,o,_,h=>Below.setCells hb r (o+1) _ (h.setCell (p:=⟨b,o,none⟩) hb v)
theorem wQ (b:Nat):∀ (vs:List Value) (o:Nat) (w:World) (c:Array Value) (el:TypeId) (fz:Nat × Nat),w.heap[b]?=some (.cells c el fz) →
  ∃ c',(w.setCells b o vs).heap[b]?=some (.cells c' el fz)∧c'.size=c.size∧∀ i,i<c.size→c'[i]?=if o≤i∧i<o+vs.length then vs[i - o]? else c[i]?
 | [],o,w,c,el,fz,h=>⟨c,h,rfl,fun i _=>by simp;omega⟩
 | v::r,o,w,c,el,fz,h=>by
  have h1:(w.setCell ⟨b,o,none⟩ v).heap[b]?=some (.cells (c.setIfInBounds o v) el fz):=by
   simp [World.setCell,Array.getElem?_modify,h]
  obtain ⟨c',h2,h3,h4⟩:=wQ b r (o+1) _ _ _ _ h1
  refine ⟨c',h2,by simpa using h3,fun i hi=>?_⟩
  rw [h4 i (by simpa using hi)]
  by_cases e:o=i
  ·subst e
   simp [hi];intro h;omega
  ·by_cases h5:o+1≤i∧i<o+1+r.length
   ·have e1:i - o=(i - (o+1))+1:=by omega
    have h6:o≤i∧i<o+(v::r).length:=by simp;omega
    rw [if_pos h5,if_pos h6,e1];simp
   ·have h6:¬(o≤i∧i<o+(v::r).length):=by simp;omega
    simp only [h5,h6,if_false]
    rw [Array.getElem?_setIfInBounds_ne e]
variable {w':World}
theorem BR.frame {w:World} {B:B} (h:BR P ν w a B) (hw:∀ v b δ,ν.blk a v=some (b,δ)→B.live→w'.heap[b]?=w.heap[b]?):BR P ν w' a B:=by
 cases B with
 | none=>trivial
 | row l n el gr mn f1 f2 =>
  refine ⟨h.len,h.v0,h.vn,h.mnn,h.same,fun v b δ hb=>?_⟩
  obtain ⟨c,fz,h1,h2,h3,h4,h5⟩:=h.at_ v b δ hb
  exact ⟨c,fz,by rw [hw v b δ hb trivial];exact h1,h2,h3,h4,h5⟩
 | map es ck=>intro v b δ hb;rw [hw v b δ hb trivial];exact h v b δ hb
 | loop st pend fi tm ps asg body df=>intro v b δ hb;rw [hw v b δ hb trivial];exact h v b δ hb
 | dfd l=>intro v b δ hb;rw [hw v b δ hb trivial];exact h v b δ hb
 | it s pos r=>intro v b δ hb;rw [hw v b δ hb trivial];exact h v b δ hb
 | mit m es ck rest cur=>intro v b δ hb;rw [hw v b δ hb trivial];exact h v b δ hb
variable {xs:List V}
theorem zIH {w:World} {b:Nat} {cs:List Value}
  (hst:St P n0 w0 ν s w) (hB:Tr.get B.none a s.h=.row l n el gr mn f1 f2) (hwr:zfA n gr v o (o+m) f1 f2=true)
  (hb:ν.blk a v=some (b,δ)) (hxs:VRs ν xs cs) (hlen:xs.length=m) (hone:∀ y∈cs,y.oneCell'=true) :
  w.there b (δ+o) m∧St P n0 w0 ν ⟨Tr.set B.none (.row (upd xs o l) n el gr (if gr then n else mn) f1 f2) a s.h,s.nx⟩ (w.setCells b (δ+o) cs):=by
 obtain ⟨⟨hvn,hle⟩,hfz⟩:=(zK2 _ _ _ _ _ _ _).1 hwr
 have hrow:=hst.rows a
 rw [hB] at hrow
 have hcl:cs.length=m:=by rw [hxs.length,hlen]
 have hlive:(Tr.get B.none a s.h).live:=by rw [hB];trivial
 obtain ⟨c,fz,hc,hsz,hfro,hcap,hcell⟩:=hrow.at_ v b δ hb
 have hfro:m=0∨∀ i,w.frozen? ⟨b,i,none⟩=true→δ+f1≤i∧i<δ+f2:=by
  rcases hfro with ⟨_,h1,h2⟩ | h
  ·left;omega
  ·right;exact h.old hc
 have hmn:gr=true→mn≤v:=fun g=>by rw [hvn g];exact hrow.mnn g
 have hcell:=hcell hmn
 have hin:∀ i,i<n→δ+i<c.size:=by
  intro i hi
  have hx:l[i]?=some (l[i]'(by rw [hrow.len];exact hi)):=kac _
  obtain ⟨y,hy,_⟩:=hcell i _ hx (fun g=>by rw [hvn g];exact hi)
  exact (kaB.1 hy).1
 have hthere:w.there b (δ+o) m:=by
  intro j hj
  have h1:=hin (o+j) (by omega)
  rw [jK hc,show δ+o+j=δ+(o+j) by omega]
  refine ⟨by simp [h1],?_⟩
  rcases hq:w.frozen? ⟨b,δ+(o+j),none⟩ with _ | _
  ·rfl
  ·rcases hfro with h0 | hfro
   ·omega
   ·have:=hfro _ hq
    omega
 refine ⟨hthere,?_⟩
 obtain ⟨c',hc',hsz',hget'⟩:=wQ b cs (δ+o) w c el fz hc
 have zY:∀ a',Tr.get B.none a' (Tr.set B.none (.row (upd xs o l) n el gr (if gr then n else mn) f1 f2) a s.h)=if a'=a then .row (upd xs o l) n el gr (if gr then n else mn) f1 f2 else Tr.get B.none a' s.h:=fun a'=>get_set _ _ _ _ _
 have hliv:∀ a',(Tr.get B.none a' (Tr.set B.none (.row (upd xs o l) n el gr (if gr then n else mn) f1 f2) a s.h)).live→(Tr.get B.none a' s.h).live:=by
  intro a' h
  rw [zY] at h
  by_cases e:a'=a
  ·rw [e];exact hlive
  ·rwa [if_neg e] at h
 have hbel:Below n0 w0 (w.setCells b (δ+o) cs):=by
  rcases hst.own a v b δ hb hlive with h | h
  ·exact Below.setCells h cs _ w hst.below
  ·rw [hB] at h
   obtain ⟨h1,h2,h3⟩:=h
   have h0:m=0:=by omega
   have:cs=[]:=kaw.1 (by rw [hcl,h0])
   rw [this];exact hst.below
 refine ⟨hbel,hst.n0le,?_,?_,?_,?_⟩
 ·intro a'
  simp only [zY]
  by_cases e:a'=a
  ·subst e
   rw [if_pos rfl]
   refine ⟨by rw [zgV _ _ _ (by rw [hrow.len,hlen];exact hle)];exact hrow.len,hrow.v0,hrow.vn,fun g=>by simp [g],hrow.same,fun v' b' δ' hb'=>?_⟩
   by_cases eb:b'=b
   ·subst eb
    obtain ⟨c0,fz0,g1,g2,g3,g4,_⟩:=hrow.at_ v' b' δ' hb'
    rw [hc] at g1
    simp only [Option.some.injEq,Obj.cells.injEq] at g1
    obtain ⟨rfl,_,rfl⟩:=g1
    refine ⟨c',fz,hc',g2,g3,fun g=>by rw [hsz'];exact g4 g,fun hv' i x hi hiv=>?_⟩
    have hvv:v'=v:=by
     cases hg:gr
     ·rw [(hrow.v0 hg _ _ hb').1,(hrow.v0 hg _ _ hb).1]
     ·have h1:=hv' hg
      simp only [hg,if_true] at h1
      have h2:=hrow.vn hg _ _ hb'
      have:=hvn hg
      omega
    subst hvv
    rw [hb] at hb'
    simp only [Option.some.injEq,Prod.mk.injEq,true_and] at hb'
    subst hb'
    rw [zHx _ _ _ (by rw [hrow.len,hlen];exact hle)] at hi
    have hil:i<n:=by
     by_cases h:o≤i∧i<o+xs.length
     ·omega
     ·rw [if_neg h] at hi
      have:=(kad.1 hi).1
      rw [hrow.len] at this;exact this
    rw [hget' _ (hin i hil)]
    by_cases h:o≤i∧i<o+xs.length
    ·rw [if_pos h] at hi
     obtain ⟨y,hy,hr⟩:=hxs.get _ _ hi
     rw [if_pos (by omega),show δ+i - (δ+o)=i - o by omega]
     exact ⟨y,hy,fun _=>hone y (kae hy),hr⟩
    ·rw [if_neg h] at hi
     rw [if_neg (by omega)]
     exact hcell i x hi hiv
   ·obtain ⟨c0,fz0,g1,g2,g3,g4,g5⟩:=hrow.at_ v' b' δ' hb'
    refine ⟨c0,fz0,by rw [jS _ _ _ _ _ eb];exact g1,g2,g3,g4,fun hv'=>?_⟩
    exfalso
    have hvv:v'=v:=by
     cases hg:gr
     ·rw [(hrow.v0 hg _ _ hb').1,(hrow.v0 hg _ _ hb).1]
     ·have h1:=hv' hg
      simp only [hg,if_true] at h1
      have h2:=hrow.vn hg _ _ hb'
      have:=hvn hg
      omega
    subst hvv
    rw [hb] at hb'
    simp at hb'
    exact eb hb'.1.symm
  ·rw [if_neg e]
   refine (hst.rows a').frame fun v' b' δ' hb' hl'=>jS _ _ _ _ _ fun eb=>e ?_
   subst eb
   exact hst.sep a' v' b' δ' a v δ hb' hb hl' hlive
 ·intro a' ha'
  obtain ⟨h1,h2⟩:=hst.fresh a' ha'
  refine ⟨h1,?_⟩
  simp only [zY]
  rw [if_neg]
  ·exact h2
  ·intro e;subst e;rw [h2] at hB;cases hB
 ·intro a1 v1 b1 δ1 a2 v2 δ2 h1 h2 l1 l2
  exact hst.sep a1 v1 b1 δ1 a2 v2 δ2 h1 h2 (hliv _ l1) (hliv _ l2)
 ·intro a' v' b' δ' hb' hl'
  rcases hst.own a' v' b' δ' hb' (hliv _ hl') with h | h
  ·exact .inl h
  ·refine .inr ?_
   simp only [zY]
   by_cases e:a'=a
   ·subst e;rw [hB] at h;rw [if_pos rfl];exact h
   ·rw [if_neg e];exact h
variable {ν':Val}
theorem VR.mono' (h:ν.le ν') {v:V} {x:Value} (r:VR ν v x):VR ν' v x:=VR.mono h v x r
theorem VRs.mono' (h:ν.le ν') {v:List V} {x:List Value} (r:VRs ν v x):VRs ν' v x:=VRs.mono h v x r
theorem MRs.mono {ν ν':Val} (h:ν.le ν'):∀ {l:List ME} {c:List MapEntry},MRs ν l c→MRs ν' l c
 | [],_,r=>r
 | _::_,_,⟨x,r,e,q,s⟩=>⟨x,r,e,⟨q.1.mono' h,q.2.1.mono' h,q.2.2⟩,MRs.mono h s⟩
variable {tmps:Array Value} {fi:FI}
theorem FrR.mono (h:ν.le ν') {get:T→Nat→V} {tm:T} (r:FrR ν fi get tm tmps):FrR ν' fi get tm tmps :=
 ⟨r.1,fun t a b=>(r.2 t a b).mono' h⟩
theorem SlR.mono (h:ν.le ν') {get:T→Nat→V} {ds:List Nat} {tm:T} {le:List V} {t:Nat} (r:SlR ν fi get ds tm le tmps t):SlR ν' fi get ds tm le tmps t :=
 ⟨fun a b c=>(r.1 a b c).mono' h,fun i hi=>(r.2 i hi).mono' h⟩
theorem FrR.slot {get:T→Nat→V} {tm:T} (r:FrR ν fi get tm tmps) (t:Nat):SlR ν fi get [] tm [] tmps t :=
 ⟨fun a b _=>r.2 t a b,fun i hi=>by simp [idx] at hi⟩
theorem BR.mono {w:World} {B:B} (h:ν.le ν') (ha:∀ v,ν'.blk a v=ν.blk a v) (r:BR P ν w a B):BR P ν' w a B:=by
 cases B with
 | none=>trivial
 | row l n el gr mn f1 f2 =>
  refine ⟨r.len,fun g v p hp=>r.v0 g v p (ha v▸hp),fun g v p hp=>r.vn g v p (ha v▸hp),r.mnn,fun v v' b δ δ' h1 h2=>r.same v v' b δ δ' (ha v▸h1) (ha v'▸h2),fun v b δ hb=>?_⟩
  rw [ha] at hb
  obtain ⟨c,fz,h1,h2,h3,h4,h5⟩:=r.at_ v b δ hb
  obtain ⟨_,e1,e2⟩:=h _ _ _ hb
  refine ⟨c,fz,h1,e2.trans h2,h3,fun g=>by rw [e1,e2];exact h4 g,fun g i x hi hv=>?_⟩
  obtain ⟨y,hy,ho,hr⟩:=h5 g i x hi hv
  exact ⟨y,hy,ho,hr.mono' h⟩
 | map es ck =>
  intro v b δ hb
  rw [ha] at hb
  obtain ⟨h0,es',h1,h2⟩:=r v b δ hb
  exact ⟨h0,es',h1,h2.mono h⟩
 | loop st pend fi tm ps asg body df =>
  intro v b δ hb
  rw [ha] at hb
  obtain ⟨h0,hng,ls,fn,tmps,d,h1,h2,h3,δ',h4⟩:=r v b δ hb
  exact ⟨h0,hng,ls,fn,tmps,d,h1,h2,h3.mono h,δ',(h _ _ _ h4).1⟩
 | dfd l=>intro v b δ hb;rw [ha] at hb;exact r v b δ hb
 | it s pos _=>intro v b δ hb;rw [ha] at hb;exact r v b δ hb
 | mit m es ck rest cur =>
  intro v b δ hb
  rw [ha] at hb
  obtain ⟨h0,h1,mb,seen,last,h2,h3,h4⟩:=r v b δ hb
  exact ⟨h0,h1,mb,seen,last,(h _ _ _ h2).1,h3,h4⟩
theorem BR.there {w:World} {B:B} (r:BR P ν w a B) (hl:B.live) {b:Nat} (hb:ν.blk a v=some (b,δ)):b<w.heap.size:=by
 have key:∀ o,w.heap[b]?=some o→b<w.heap.size:=fun o h=>(kaB.1 h).1
 cases B with
 | none=>exact hl.elim
 | row l n el gr mn f1 f2=>obtain ⟨c,fz,h1,_⟩:=r.at_ v b δ hb;exact key _ h1
 | map es ck=>obtain ⟨_,es',h1,_⟩:=r v b δ hb;exact key _ h1
 | loop st pend fi tm ps asg body df=>obtain ⟨_,_,ls,fn,tmps,d,h1,_⟩:=r v b δ hb;exact key _ h1
 | dfd l=>obtain ⟨_,_,x,h1⟩:=r v b δ hb;exact key _ h1
 | it s pos _=>obtain ⟨_,_,t,h1,_⟩:=r v b δ hb;exact key _ h1
 | mit m es ck rest cur=>obtain ⟨_,_,mb,seen,last,_,h1,_⟩:=r v b δ hb;exact key _ h1
noncomputable def Val.add (ν:Val) (a:K) (v b cap sz:Nat):Val :=
 { blk:=fun a' v'=>if a'=a∧v'=v then some (b,0) else ν.blk a' v',cap:=fun a' v'=>if a'=a then cap else ν.cap a' v',sz:=fun a'=>if a'=a then sz else ν.sz a' }
variable {cap sz:Nat}
theorem Val.le_add {b:Nat} (h:∀ v,ν.blk a v=none):ν.le (ν.add a v b cap sz):=by
 intro a' v' p hp
 have hne:a'≠a:=by intro e;subst e;rw [h] at hp;cases hp
 simp [Val.add,hne,hp]
theorem Val.add_self {b:Nat}:(ν.add a v b cap sz).blk a v=some (b,0):=by simp [Val.add]
variable {v':Nat}
theorem Val.add_other {a':K} {b:Nat} (h:a'≠a):(ν.add a v b cap sz).blk a' v'=ν.blk a' v':=by simp [Val.add,h]
variable {p:Nat × Nat}
theorem Val.add_only {b:Nat} (h:∀ v,ν.blk a v=none) (hp:(ν.add a v b cap sz).blk a v'=some p):v'=v∧p=(b,0):=by
 simp only [Val.add,true_and] at hp
 split at hp
 ·rename_i e;exact ⟨e,by simpa using hp.symm⟩
 ·rw [h] at hp;cases hp
theorem zeC {w:World} (hst:St P n0 w0 ν s w) (a:K) (ha:∀ v,ν.blk a v=none) (hlt:a.toNat<s.nx.toNat) (v cap sz:Nat)
  (_:w.heap.size<w'.heap.size) (hheap:∀ k,k<w.heap.size→w'.heap[k]?=w.heap[k]?) (hbel:Below n0 w0 w')
  (hB:BR P (ν.add a v w.heap.size cap sz) w' a (Tr.get B.none a s.h)) :
  St P n0 w0 (ν.add a v w.heap.size cap sz) s w':=by
 have hle:=Val.le_add (v:=v) (b:=w.heap.size) (cap:=cap) (sz:=sz) ha
 have hsize:n0≤w.heap.size:=kar hst.n0le hst.below.size
 refine ⟨hbel,hst.n0le,?_,?_,?_,?_⟩
 ·intro a'
  by_cases e:a'=a
  ·subst e;exact hB
  ·have h1:=(hst.rows a').mono (P:=P) hle (fun v'=>Val.add_other e)
   refine h1.frame fun v' b' δ' hb' hl'=>hheap _ ?_
   rw [Val.add_other e] at hb'
   exact (hst.rows a').there hl' hb'
 ·intro a' ha'
  have e:a'≠a:=by intro e;subst e;omega
  obtain ⟨h1,h2⟩:=hst.fresh a' ha'
  exact ⟨fun v'=>by rw [Val.add_other e];exact h1 v',h2⟩
 ·intro a1 v1 b1 δ1 a2 v2 δ2 h1 h2 l1 l2
  by_cases e1:a1=a
  ·by_cases e2:a2=a
   ·rw [e1,e2]
   ·subst e1
    obtain ⟨_,e⟩:=Val.add_only ha h1
    simp only [Prod.mk.injEq] at e
    rw [Val.add_other e2] at h2
    have:=(hst.rows a2).there l2 h2
    omega
  ·by_cases e2:a2=a
   ·subst e2
    obtain ⟨_,e⟩:=Val.add_only ha h2
    simp only [Prod.mk.injEq] at e
    rw [Val.add_other e1] at h1
    have:=(hst.rows a1).there l1 h1
    omega
   ·rw [Val.add_other e1] at h1
    rw [Val.add_other e2] at h2
    exact hst.sep _ _ _ _ _ _ _ h1 h2 l1 l2
 ·intro a' v' b' δ' hb' hl'
  by_cases e:a'=a
  ·subst e
   obtain ⟨_,e⟩:=Val.add_only ha hb'
   simp only [Prod.mk.injEq] at e
   left;omega
  ·rw [Val.add_other e] at hb'
   exact hst.own a' v' b' δ' hb' hl'
theorem zhl {w:World} (hst:St P n0 w0 ν s w) (b:B) (hB:BR P ν w s.nx b) :
  St P n0 w0 ν ⟨Tr.set B.none b s.nx s.h,s.nx.succ⟩ w:=by
 obtain ⟨hn,hnone⟩:=hst.fresh s.nx (kab _)
 have zY:∀ a',Tr.get B.none a' (Tr.set B.none b s.nx s.h)=if a'=s.nx then b else Tr.get B.none a' s.h:=fun a'=>get_set _ _ _ _ _
 refine ⟨hst.below,hst.n0le,?_,?_,?_,?_⟩
 ·intro a'
  simp only [zY]
  by_cases e:a'=s.nx
  ·subst e;rw [if_pos rfl];exact hB
  ·rw [if_neg e];exact hst.rows a'
 ·intro a' ha'
  simp only [K.toNat_succ] at ha'
  have e:a'≠s.nx:=by intro e;subst e;omega
  obtain ⟨h1,h2⟩:=hst.fresh a' (by omega)
  exact ⟨h1,by simp only [zY];rw [if_neg e];exact h2⟩
 ·intro a1 v1 b1 δ1 a2 v2 δ2 h1 h2 l1 l2
  have e1:a1≠s.nx:=by intro e;subst e;rw [hn] at h1;cases h1
  have e2:a2≠s.nx:=by intro e;subst e;rw [hn] at h2;cases h2
  simp only [zY,e1,e2,if_false] at l1 l2
  exact hst.sep _ _ _ _ _ _ _ h1 h2 l1 l2
 ·intro a' v' b' δ' hb' hl'
  have e:a'≠s.nx:=by intro e;subst e;rw [hn] at hb';cases hb'
  simp only [zY,e,if_false] at hl' ⊢
  exact hst.own a' v' b' δ' hb' hl'
theorem BR.newRow {w:World} (ha:∀ v,ν.blk a v=none) (l:List V) (el:Nat) (gr:Bool):BR P ν w a (.row l l.length el gr 0 0 0) :=
 ⟨rfl,fun _ v p h=>(by rw [ha] at h;cases h),fun _ v p h=>(by rw [ha] at h;cases h),fun _=>Nat.zero_le _,fun v _ _ _ _ h=>(by rw [ha] at h;cases h),fun v b δ h=>(by rw [ha] at h;cases h)⟩
theorem zC8 {w:World} (hst:St P n0 w0 ν s w) (a:K) (ha:∀ v,ν.blk a v=none) (hlt:a.toNat<s.nx.toNat) (l:List V) (el:Nat) (gr:Bool) (cap:Nat)
  (hrow:Tr.get B.none a s.h=.row l l.length el gr 0 0 0) (c:Array Value) (cs:List Value) (hcs:VRs ν l cs) (hc:∀ (i:Nat) (y:Value),cs[i]?=some y→c[i]?=some y) (hone:∀ y∈cs,y.oneCell'=true)
  (hcap:gr=true→cap*P.cellsOf el≤c.size∧l.length≤cap*P.cellsOf el)
  (hsz:w.heap.size<w'.heap.size) (hheap:∀ k,k<w.heap.size→w'.heap[k]?=w.heap[k]?) (hbel:Below n0 w0 w') (jU:w'.heap[w.heap.size]?=some (.cells c el)) :
  St P n0 w0 (ν.add a (if gr then l.length else 0) w.heap.size cap (P.cellsOf el)) s w':=by
 have hle:=Val.le_add (v:=if gr then l.length else 0) (b:=w.heap.size) (cap:=cap) (sz:=P.cellsOf el) ha
 refine zeC hst a ha hlt _ cap _ hsz hheap hbel ?_
 rw [hrow]
 refine ⟨rfl,fun g v p hp=>by
  obtain ⟨e1,e2⟩:=Val.add_only ha hp
  exact ⟨by simpa [g] using e1,by rw [e2]⟩,fun g v p hp=>by have:=(Val.add_only ha hp).1;simp [g] at this;omega,fun _=>Nat.zero_le _,fun v v' b δ δ' h1 h2=>(by
  have e1:=(Val.add_only ha h1).2
  have e2:=(Val.add_only ha h2).2
  simp only [Prod.mk.injEq] at e1 e2
  rw [e1.2,e2.2]),fun v b δ hb=>?_⟩
 obtain ⟨e1,e2⟩:=Val.add_only ha hb
 simp only [Prod.mk.injEq] at e2
 obtain ⟨rfl,rfl⟩:=e2
 refine ⟨c,(0,0),jU,by simp [Val.add],.inr (.inl rfl),fun g=>?_,fun _ i x hi _=>?_⟩
 ·have:=hcap g
  simp only [Val.add,if_true,e1,g] at *
  omega
 ·obtain ⟨y,hy,hr⟩:=(hcs.mono' hle).get i x hi
  exact ⟨y,by rw [kaF];exact hc i y hy,fun _=>hone y (kae hy),hr⟩
theorem zrg {w:World} (hst:St P n0 w0 ν s w) (a:K) (_:a.toNat<s.nx.toNat):St P n0 w0 ν ⟨Tr.set B.none .none a s.h,s.nx⟩ w:=by
 have zY:∀ a',Tr.get B.none a' (Tr.set B.none B.none a s.h)=if a'=a then B.none else Tr.get B.none a' s.h:=fun a'=>get_set _ _ _ _ _
 have hliv:∀ a',(Tr.get B.none a' (Tr.set B.none B.none a s.h)).live→a'≠a∧(Tr.get B.none a' s.h).live:=by
  intro a' h
  rw [zY] at h
  by_cases e:a'=a
  ·rw [if_pos e] at h;exact h.elim
  ·rw [if_neg e] at h;exact ⟨e,h⟩
 refine ⟨hst.below,hst.n0le,fun a'=>?_,fun a' ha'=>?_,fun a1 v1 b1 δ1 a2 v2 δ2 h1 h2 l1 l2=>?_,fun a' v' b' δ' hb' hl'=>?_⟩
 ·simp only [zY]
  by_cases e:a'=a
  ·rw [if_pos e];trivial
  ·rw [if_neg e];exact hst.rows a'
 ·obtain ⟨h1,h2⟩:=hst.fresh a' ha'
  refine ⟨h1,?_⟩
  simp only [zY]
  split
  ·rfl
  ·exact h2
 ·exact hst.sep _ _ _ _ _ _ _ h1 h2 (hliv _ l1).2 (hliv _ l2).2
 ·obtain ⟨e,hl⟩:=hliv _ hl'
  simp only [zY,if_neg e]
  exact hst.own a' v' b' δ' hb' hl
theorem wH (h:ν.blk a v=some p) (b:B):zFF ν s ⟨Tr.set B.none b a s.h,s.nx⟩:=by
 intro a' ha' _
 have e:a'≠a:=by intro e;subst e;rw [ha'] at h;cases h
 simp only [get_set,e,if_false]
theorem jT {c:S→A} (hnb:¬(qf s a v o m xs c).isBad) :
  ∃ s',c s'=qf s a v o m xs c∧s'.nx=s.nx∧∀ {n0:Nat} {w0:World} {ν:Val} {w:World},St P n0 w0 ν s w→∀ b δ,ν.blk a v=some (b,δ)→∀ cs,VRs ν xs cs→xs.length=m→(∀ y∈cs,y.oneCell'=true) →
   w.there b (δ+o) m∧St P n0 w0 ν s' (w.setCells b (δ+o) cs)∧zFF ν s s':=by
 unfold qf at hnb ⊢
 rw [zK] at hnb ⊢
 generalize hB:Tr.get B.none a s.h=B' at hnb ⊢
 cases B' with
 | row l n el gr mn f1 f2 =>
  simp only [] at hnb ⊢
  generalize hr:zfA n gr v o (Nat.add o m) f1 f2=r at hnb ⊢
  cases r with
  | false=>exact absurd trivial hnb
  | true =>
   simp only [zdp,qp] at hnb ⊢
   refine ⟨_,rfl,rfl,fun {n0 w0 ν w} hst b δ hb cs hxs hlen hone=>?_⟩
   obtain ⟨h1,h2⟩:=zIH hst hB hr hb hxs hlen hone
   refine ⟨h1,?_,wH hb _⟩
   have e:(Bool.rec mn n gr:Nat)=if gr then n else mn:=by cases gr<;>rfl
   rw [e];exact h2
 | _=>exact absurd trivial hnb
variable {P:Program}
structure Base where
 fn:Nat
 kind:CallKind
 ro:Option Nat
def Base.fr (b:Base) (tm:Array Value) (df:List Deferred) (todo:List Item):Frame :=
 { fn:=b.fn,tmps:=tm,todo,defers:=df,mode:=.run,kind:=b.kind,roundOf:=b.ro }
def ev (tm:Array Value):Operand→Value
 | .tmp t=>tm.getD t Go.undef
 | .const v=>v
 | .global g=>.pointer (some ⟨g,0,none⟩)
 | .func f=>.func (.func f) #[] #[]
theorem zzu (b:Base) (tm:Array Value) (df:List Deferred) (todo:List Item):(b.fr tm df todo).eval=ev tm:=by
 funext x;cases x<;>rfl
def j0 (tm:Array Value) (dst:Option Tmp) (v:Value):Array Value:=match dst with | some d=>tm.setIfInBounds d v | none=>tm
theorem zag (b:Base) (tm:Array Value) (df:List Deferred) (ops:Array Oper) (i:Nat) (rest:List Nat) (k:List Item) (v:Value) :
  (b.fr tm df (.inRegion ops (i::rest)::k)).finish v=b.fr (j0 tm ((ops[i]?).bind (·.dst)) v) df (.inRegion ops rest::k):=by
 cases h:(ops[i]?).bind (·.dst)<;>simp [Frame.finish,Base.fr,j0,h]
section moves
variable {b:Base} {tm:Array Value} {df:List Deferred} {k:List Item} {cs:List Frame} {w:World}
theorem zLZ:step P (lone (b.fr tm df (.code .skip::k)) cs w)=.next (lone (b.fr tm df k) cs w):=step_lone_go (by simp [stepG,stepG.exec,Base.fr])
variable {l:Nat}
theorem zJC:step P (lone (b.fr tm df (.code (.label l)::k)) cs w)=.next (lone (b.fr tm df k) cs w):=step_lone_go (by simp [stepG,stepG.exec,Base.fr])
theorem zF7 {id:Nat}:step P (lone (b.fr tm df (.inBlock id::k)) cs w)=.next (lone (b.fr tm df k) cs w):=step_lone_go (by simp [stepG,stepG.exec,Base.fr])
variable {c:Code}
theorem zFT:step P (lone (b.fr tm df (.inScope c::k)) cs w)=.next (lone (b.fr tm df k) cs w):=step_lone_go (by simp [stepG,stepG.exec,Base.fr])
variable {x y:Code}
theorem zN4:step P (lone (b.fr tm df (.code (.seq x y)::k)) cs w)=.next (lone (b.fr tm df (.code x::.code y::k)) cs w):=step_lone_go (by simp [stepG,stepG.exec,Base.fr])
theorem zGh {c:Operand} {t:Bool} (h:ev tm c=.bool t):step P (lone (b.fr tm df (.code (.cond c x y)::k)) cs w)=.next (lone (b.fr tm df (.code (if t then x else y)::k)) cs w) :=
 step_lone_go (by
  have:=zzu b tm df (.code (.cond c x y)::k)
  simp only [Base.fr] at this
  simp [stepG,stepG.exec,Base.fr,this,h])
theorem zLj {id:Nat}:step P (lone (b.fr tm df (.code (.block id c)::k)) cs w)=.next (lone (b.fr tm df (.code c::.inBlock id::k)) cs w):=step_lone_go (by simp [stepG,stepG.exec,Base.fr])
theorem zKU:step P (lone (b.fr tm df (.code (.scope c)::k)) cs w)=.next (lone (b.fr tm df (.code c::.inScope c::k)) cs w):=step_lone_go (by simp [stepG,stepG.exec,Base.fr])
theorem zm2:step P (lone (b.fr tm df (.code (.loop c)::k)) cs w)=.next (lone (b.fr tm df (.code c::.inLoop c::k)) cs w):=step_lone_go (by simp [stepG,stepG.exec,Base.fr])
theorem zi6:step P (lone (b.fr tm df (.inLoop c::k)) cs w)=.next (lone (b.fr tm df (.code c::.inLoop c::k)) cs w):=step_lone_go (by simp [stepG,stepG.exec,Base.fr])
theorem zMk {id:Nat} {k':List Item} (h:exitTo id k=some k'):step P (lone (b.fr tm df (.code (.exit id)::k)) cs w)=.next (lone (b.fr tm df k') cs w):=step_lone_go (by simp [stepG,stepG.exec,Base.fr,h])
theorem zus {id:Nat} {ops:Array Oper}:step P (lone (b.fr tm df (.code (.region id ops false)::k)) cs w)=.next (lone (b.fr tm df (.inRegion ops (List.range ops.size)::k)) cs w):=step_lone_go (by simp [stepG,stepG.exec,Base.fr])
theorem zr4 {id:Nat} {ops:Array Oper}:step P (lone (b.fr tm df (.code (.region id ops true)::k)) cs w) =
  .next (lone (b.fr tm df (.inRegion ops (Region.schedule (P.follows .mixedOrders) ops (w.tape w.drawn (.order b.fn id)))::k)) cs { w with drawn:=w.drawn+1 }) :=
 step_lone_go (by simp [stepG,stepG.exec,Base.fr,choose,Sem.run,Question.forced,Question.cut])
theorem zfR {ops:Array Oper}:step P (lone (b.fr tm df (.inRegion ops []::k)) cs w)=.next (lone (b.fr tm df k) cs w):=step_lone_go (by simp [stepG,stepG.exec,Base.fr])
variable {rest:List Nat} {i:Nat}
theorem zgE {ops:Array Oper} (h:((ops[i]?).map (Region.wanted · (yielded ops tm))).getD false=false) :
  step P (lone (b.fr tm df (.inRegion ops (i::rest)::k)) cs w)=.next (lone (b.fr (j0 tm ((ops[i]?).bind (·.dst)) Go.undef) df (.inRegion ops rest::k)) cs w):=by
 rw [←zag]
 exact step_lone_go (by
  have h':=h
  simp only [Base.fr] at *
  simp [stepG,stepG.exec,h'])
variable {o:Oper}
theorem zjc {ops:Array Oper} {rest:List Nat} (ho:ops[i]?=some o) (hw:Region.wanted o (yielded ops tm)=true) (hd:b.ro=none∨zW o=false) :
  stepG P true { frame:=b.fr tm df (.inRegion ops (i::rest)::k),callers:=cs,status:=.running,dying:=none } w =
   stepG.apply P true (b.fr tm df (.inRegion ops (i::rest)::k)) cs none (execOp (ev tm) o) w:=by
 have he:=zzu b tm df (.inRegion ops (i::rest)::k)
 simp only [Base.fr] at he
 rcases hd with hd | hd
 ·rw [hd] at he
  simp [stepG,stepG.exec,stepG.oper,Frame.oper?,Base.fr,ho,hw,he,hd]
 ·cases hr:b.ro with
  | none=>rw [hr] at he;simp [stepG,stepG.exec,stepG.oper,Frame.oper?,Base.fr,ho,hw,he,hr]
  | some l =>
   rw [hr] at he
   cases hop:o.op<;>simp [zW,hop] at hd<;>simp [stepG,stepG.exec,stepG.oper,Frame.oper?,Base.fr,ho,hw,he,hr,hop]
variable {w':World}
theorem wp {ops:Array Oper} (ho:ops[i]?=some o) (hw:Region.wanted o (yielded ops tm)=true) (hd:b.ro=none∨zW o=false) {v:Value}
  (h:(execOp (ev tm) o).run P w=.ok (.value v) w'∨(v=Go.undef∧(execOp (ev tm) o).run P w=.ok .skip w')) :
  step P (lone (b.fr tm df (.inRegion ops (i::rest)::k)) cs w)=.next (lone (b.fr (j0 tm o.dst v) df (.inRegion ops rest::k)) cs w'):=by
 have hf:=zag b tm df ops i rest k v
 rw [ho] at hf
 simp only [Option.bind_some] at hf
 rw [←hf]
 rcases h with h | ⟨rfl,h⟩
 ·exact step_lone_go (by rw [zjc ho hw hd];simp [stepG.apply,h])
 ·exact step_lone_go (by rw [zjc ho hw hd];simp [stepG.apply,h])
variable {f:FuncId}
theorem zex {ops:Array Oper} (ho:ops[i]?=some o) (hw:Region.wanted o (yielded ops tm)=true) (hd:b.ro=none∨zW o=false) {args:Array Value}
  (h:(execOp (ev tm) o).run P w=.ok (.enter f args) w') :
  step P (lone (b.fr tm df (.inRegion ops (i::rest)::k)) cs w)=.next (lone (Frame.enter P f args .normal) (b.fr tm df (.inRegion ops (i::rest)::k)::cs) w') :=
 step_lone_go (by rw [zjc ho hw hd];simp [stepG.apply,h,Base.fr])
theorem zlD {ops:Array Oper} (ho:ops[i]?=some o) (hw:Region.wanted o (yielded ops tm)=true) (hd:b.ro=none∨zW o=false) {tmps:Array Value} {asg body:Code}
  (h:(execOp (ev tm) o).run P w=.ok (.round l f tmps asg body) w') :
  step P (lone (b.fr tm df (.inRegion ops (i::rest)::k)) cs w)=.next (lone (Frame.round l f tmps asg body .normal) (b.fr tm df (.inRegion ops (i::rest)::k)::cs) w') :=
 step_lone_go (by rw [zjc ho hw hd];simp [stepG.apply,h,Base.fr])
theorem zDc {ops:Array Oper} (ho:ops[i]?=some o) (hw:Region.wanted o (yielded ops tm)=true) (hd:b.ro=none) {d:Deferred}
  (h:(execOp (ev tm) o).run P w=.ok (.defer d) w') :
  step P (lone (b.fr tm df (.inRegion ops (i::rest)::k)) cs w)=.next (lone (b.fr (j0 tm o.dst Go.undef) (d::df) (.inRegion ops rest::k)) cs w'):=by
 have hf:=zag b tm (d::df) ops i rest k Go.undef
 rw [ho] at hf
 simp only [Option.bind_some] at hf
 rw [←hf]
 exact step_lone_go (by rw [zjc ho hw (.inl hd)];simp [stepG.apply,h,Base.fr])
end moves
def js:Nat→Nat→K
 | 0,_=>.h
 | f+1,n=>if n≤1 then .h else if n % 2=0 then .o (js f (n / 2)) else .i (js f (n / 2))
theorem znb {β:Type} (f n:Nat) (c:K→β):zNG f n c=c (js f n):=by
 induction f generalizing n c with
 | zero=>rfl
 | succ f ih =>
  show (Bool.rec _ _ (Nat.ble n 1):β)=_
  rw [js]
  cases h:Nat.ble n 1
  ·have h1:¬n≤1:=fun k=>by rw [kaA.mpr k] at h;cases h
   rw [if_neg h1]
   show (Bool.rec _ _ (Nat.beq (Nat.mod n 2) 0):β)=_
   cases h2:Nat.beq (Nat.mod n 2) 0
   ·have h3:¬n % 2=0:=fun k=>by
     have:Nat.beq (Nat.mod n 2) 0=true:=by rw [show Nat.mod n 2=0 from k];rfl
     rw [this] at h2;cases h2
    rw [if_neg h3]
    exact ih _ _
   ·have h3:n % 2=0:=kaa h2
    rw [if_pos h3]
    exact ih _ _
  ·have h1:n≤1:=kaA.mp h
   rw [if_pos h1]
def yq (ν:Val) (G:Nat):Prop:=∀ g,g<G→ν.blk (js 24 (g+1)) 0=some (g,0)
theorem yq.mono {ν ν':Val} {G:Nat} (h:ν.le ν') (g:yq ν G):yq ν' G:=fun i hi=>(h _ _ _ (g i hi)).1
theorem zE7 {α:Type} {d:Nat} {t:N α} {c:α→A} (hnb:¬((seC d).run t c).isBad):∃ x,N.get t d=some x∧c x=(seC d).run t c:=by
 obtain ⟨a0,a1,a2,a3,a4,a5,a6,a7,a8,a9,a10,a11,a12,a13,a14,a15⟩:=t
 rcases d with _ | _ | _ | _ | _ | _ | _ | _ | _ | _ | _ | _ | _ | _ | _ | _ | d
 all_goals first
  | exact ⟨_,rfl,rfl⟩
  | exact absurd trivial hnb
def N.set {α:Type} (t:N α) (d:Nat) (x:α):N α:=match t with
 | ⟨a0,a1,a2,a3,a4,a5,a6,a7,a8,a9,a10,a11,a12,a13,a14,a15⟩=>match d with
  | 0=>⟨x,a1,a2,a3,a4,a5,a6,a7,a8,a9,a10,a11,a12,a13,a14,a15⟩
  | 1=>⟨a0,x,a2,a3,a4,a5,a6,a7,a8,a9,a10,a11,a12,a13,a14,a15⟩
  | 2=>⟨a0,a1,x,a3,a4,a5,a6,a7,a8,a9,a10,a11,a12,a13,a14,a15⟩
  | 3=>⟨a0,a1,a2,x,a4,a5,a6,a7,a8,a9,a10,a11,a12,a13,a14,a15⟩
  | 4=>⟨a0,a1,a2,a3,x,a5,a6,a7,a8,a9,a10,a11,a12,a13,a14,a15⟩
  | 5=>⟨a0,a1,a2,a3,a4,x,a6,a7,a8,a9,a10,a11,a12,a13,a14,a15⟩
  | 6=>⟨a0,a1,a2,a3,a4,a5,x,a7,a8,a9,a10,a11,a12,a13,a14,a15⟩
  | 7=>⟨a0,a1,a2,a3,a4,a5,a6,x,a8,a9,a10,a11,a12,a13,a14,a15⟩
  | 8=>⟨a0,a1,a2,a3,a4,a5,a6,a7,x,a9,a10,a11,a12,a13,a14,a15⟩
  | 9=>⟨a0,a1,a2,a3,a4,a5,a6,a7,a8,x,a10,a11,a12,a13,a14,a15⟩
  | 10=>⟨a0,a1,a2,a3,a4,a5,a6,a7,a8,a9,x,a11,a12,a13,a14,a15⟩
  | 11=>⟨a0,a1,a2,a3,a4,a5,a6,a7,a8,a9,a10,x,a12,a13,a14,a15⟩
  | 12=>⟨a0,a1,a2,a3,a4,a5,a6,a7,a8,a9,a10,a11,x,a13,a14,a15⟩
  | 13=>⟨a0,a1,a2,a3,a4,a5,a6,a7,a8,a9,a10,a11,a12,x,a14,a15⟩
  | 14=>⟨a0,a1,a2,a3,a4,a5,a6,a7,a8,a9,a10,a11,a12,a13,x,a15⟩
  | 15=>⟨a0,a1,a2,a3,a4,a5,a6,a7,a8,a9,a10,a11,a12,a13,a14,x⟩
  | _=>t
theorem N.get_set {α : Type} (t : N α) (d i : Nat) (x : α) : N.get (N.set t d x) i = if i = d ∧ d < 16 then some x else N.get t i := by
  obtain ⟨a0, a1, a2, a3, a4, a5, a6, a7, a8, a9, a10, a11, a12, a13, a14, a15⟩ := t
  rcases d with _ | _ | _ | _ | _ | _ | _ | _ | _ | _ | _ | _ | _ | _ | _ | _ | d
  all_goals first
    | (rcases i with _ | _ | _ | _ | _ | _ | _ | _ | _ | _ | _ | _ | _ | _ | _ | _ | i <;> first | rfl | (simp [N.set, N.get]; done) | (simp [N.set, N.get]; omega))
    | (have h : ¬ (d + 16 < 16) := by omega
       simp [N.set, h])
theorem zFn {α:Type} {d:Nat} {t:N α} {f:α→(α→A)→A} {c:N α→A} (hnb:¬((moC d).run t f c).isBad) :
  ∃ x,d<16∧N.get t d=some x∧(moC d).run t f c=f x fun y=>c (N.set t d y):=by
 obtain ⟨a0,a1,a2,a3,a4,a5,a6,a7,a8,a9,a10,a11,a12,a13,a14,a15⟩:=t
 rcases d with _ | _ | _ | _ | _ | _ | _ | _ | _ | _ | _ | _ | _ | _ | _ | _ | d
 all_goals first
  | exact ⟨_,by omega,rfl,rfl⟩
  | exact absurd trivial hnb
theorem zed {p:Nat} {t:T} {c:V→A} (hnb:¬((geC p).run t c).isBad):c (T.get t p)=(geC p).run t c:=by
 have e:(geC p).run t c=(seC (α:=N V) (p / 16)).run t fun u=>(seC (α:=V) (p % 16)).run u c:=rfl
 rw [e] at hnb ⊢
 obtain ⟨u,h1,h2⟩:=zE7 hnb
 rw [←h2] at hnb
 obtain ⟨x,h3,h4⟩:=zE7 hnb
 rw [←h2,←h4]
 simp [T.get,h1,h3]
theorem ze3 {p:Nat} {v:V} {t:T} {c:T→A} (hnb:¬((puC p).run v t c).isBad) :
  ∃ t',c t'=(puC p).run v t c∧∀ i,T.get t' i=if i=p then v else T.get t i:=by
 have e:(puC p).run v t c=(moC (α:=N V) (p / 16)).run t (fun u k=>(moC (α:=V) (p % 16)).run u (fun _ k=>k v) k) c:=rfl
 rw [e] at hnb ⊢
 obtain ⟨u,hd,h1,h2⟩:=zFn hnb
 rw [h2] at hnb
 obtain ⟨x,hd2,h3,h4⟩:=zFn hnb
 rw [h2,h4]
 refine ⟨_,rfl,fun i=>?_⟩
 simp only [T.get,N.get_set]
 by_cases hi:i / 16=p / 16
 ·rw [if_pos ⟨hi,hd⟩]
  simp only [Option.bind_some,N.get_set]
  by_cases hj:i % 16=p % 16
  ·have:i=p:=by omega
   rw [if_pos ⟨hj,hd2⟩,if_pos this];rfl
  ·have:¬i=p:=by intro h;subst h;exact hj rfl
   rw [if_neg (fun h=>hj h.1),if_neg this,hi,h1];rfl
 ·have:¬i=p:=by intro h;subst h;exact hi rfl
  rw [if_neg (fun h=>hi h.1),if_neg this]
theorem zLg {i:Nat} {l:List V} {c:V→A} (hnb:¬((ntC i).run l c).isBad):c (l.getD i .bad)=(ntC i).run l c:=by
 induction i generalizing l with
 | zero=>cases l with
  | nil=>exact absurd trivial hnb
  | cons x l=>rfl
 | succ i ih=>cases l with
  | nil=>exact absurd trivial hnb
  | cons x l =>
   have e:(ntC (i+1)).run (x::l) c=(ntC i).run l c:=rfl
   rw [e] at hnb ⊢
   simpa using ih hnb
theorem zNE {β:Type} (l:List UInt8) (c:List Nat→β):cvS l c=c (l.map UInt8.toNat):=by
 induction l generalizing c with
 | nil=>rfl
 | cons x l ih =>
  show fN x.toNat (fun n=>cvS l fun l=>c (n::l))=_
  rw [zH];exact ih _
theorem zJp {β:Type} (k:IntKind) (c:IntKind→β):cvK k c=c k:=by cases k<;>rfl
theorem zNw:∀ (v:Value),cv v≠.bad→(∀ t l,cv v≠.ls t l)→v.oneCell'=true:=by
 intro v h1 h2
 cases v with
 | agg c =>
  obtain ⟨c⟩:=c
  simp only [cv] at h1 h2
  split at h1
  ·rename_i l hl;exact absurd (by rw [hl]) (h2 0 l)
  ·exact absurd rfl h1
 | tuple c =>
  obtain ⟨c⟩:=c
  simp only [cv] at h1 h2
  split at h1
  ·rename_i l hl;exact absurd (by rw [hl]) (h2 1 l)
  ·exact absurd rfl h1
 | _=>rfl
mutual
theorem zDI (ν:Val):∀ v:Value,cv v≠.bad→VR ν (cv v) v
 | .bool b,_=>by cases b<;>simp [cv,VR]
 | .int k n,_=>by
  simp only [cv,zJp,zF2]
  cases n<;>simp [VR]
 | .float ..,h=>absurd (by simp [cv]) h
 | .complex ..,h=>absurd (by simp [cv]) h
 | .string s,_=>by simp only [cv,zNE];exact ⟨s,rfl,rfl⟩
 | .pointer none,_=>by simp [cv,VR]
 | .pointer (some _),h=>absurd (by simp [cv]) h
 | .slice none 0 0,_=>by simp [cv,VR]
 | .slice none 0 (_+1),h=>absurd (by simp [cv]) h
 | .slice none (_+1) _,h=>absurd (by simp [cv]) h
 | .slice (some _) _ _,h=>absurd (by simp [cv]) h
 | .map none,_=>by simp [cv,VR]
 | .map (some _),h=>absurd (by simp [cv]) h
 | .chan _,h=>absurd (by simp [cv]) h
 | .nilFunc,_=>by simp [cv,VR]
 | .nilIface,_=>by simp [cv,VR]
 | .func f a b,h=>by
  cases f with
  | func f =>
   obtain ⟨a⟩:=a
   obtain ⟨b⟩:=b
   cases a with
   | nil=>cases b with
    | nil=>simp only [cv,zH];exact ⟨[],[],rfl,rfl,rfl⟩
    | cons x b=>exact absurd (by simp [cv]) h
   | cons x a=>exact absurd (by simp [cv]) h
  | _=>exact absurd (by simp [cv]) h
 | .iface t v,h=>by
  have ih:=zDI ν v
  simp only [cv,zH] at h ⊢
  split at h
  ·exact absurd rfl h
  ·rename_i hne
   exact ⟨v,ih (fun e=>hne e),rfl⟩
 | .agg ⟨cs⟩,h=>by
  have ih:=zGt ν cs
  simp only [cv] at h ⊢
  cases hc:zFz cs with
  | none=>rw [hc] at h;exact absurd rfl h
  | some l =>
   obtain ⟨h1,h2⟩:=ih l hc
   exact ⟨cs,h1,rfl,h2⟩
 | .tuple ⟨cs⟩,h=>by
  have ih:=zJ3 ν cs
  simp only [cv] at h ⊢
  cases hc:cvs cs with
  | none=>rw [hc] at h;exact absurd rfl h
  | some l=>exact ⟨cs,ih l hc,rfl⟩
theorem zJ3 (ν:Val):∀ (l:List Value) (m:List V),cvs l=some m→VRs ν m l
 | [],m,h=>by simp [cvs] at h;subst h;rfl
 | v::l,m,h=>by
  have ih1:=zDI ν v
  have ih2:=zJ3 ν l
  simp only [cvs] at h
  split at h
  ·cases h
  ·rename_i hne
   cases hm:cvs l with
   | none=>rw [hm] at h;cases h
   | some m' =>
    rw [hm] at h
    simp only [Option.some.injEq] at h
    subst h
    exact ⟨v,l,rfl,ih1 hne,ih2 m' hm⟩
theorem zGt (ν:Val):∀ (l:List Value) (m:List V),zFz l=some m→VRs ν m l∧∀ y∈l,y.oneCell'=true
 | [],m,h=>by simp [zFz] at h;subst h;exact ⟨rfl,fun y hy=>by cases hy⟩
 | v::l,m,h=>by
  have ih1:=zDI ν v
  have ih2:=zGt ν l
  simp only [zFz] at h
  split at h
  ·cases h
  ·cases h
  ·rename_i hne hls
   cases hm:zFz l with
   | none=>rw [hm] at h;cases h
   | some m' =>
    rw [hm] at h
    simp only [Option.some.injEq] at h
    subst h
    obtain ⟨h1,h2⟩:=ih2 m' hm
    refine ⟨⟨v,l,rfl,ih1 hne,h1⟩,fun y hy=>?_⟩
    rcases kaj.1 hy with rfl | hy
    ·exact zNw _ hne (fun t l e=>hls t l e)
    ·exact h2 y hy
end
def OdR (ν:Val) (fi:FI) (ds:List Nat) (tm:T) (le:List V) (tmps:Array Value):Operand→Prop
 | .tmp t=>SlR ν fi T.get ds tm le tmps t
 | _=>True
def zPe (fi:FI) (ds:List Nat) (x:Operand) (f:OdC):Prop:=∀ tm le c,¬(f.run tm le c).isBad →
 ∃ v,c v=f.run tm le c∧∀ ν tmps,yq ν fi.ng→OdR ν fi ds tm le tmps x→VR ν v (ev tmps x)
theorem zbt {ns d:Nat} (h:yc ns d<256):yE ns d=false∧yM ns d<240∧yc ns d=yM ns d:=by
 unfold yc at *
 split at h
 ·rename_i h1 h2
  exact ⟨h1,by simpa [Nat.blt_eq] using h2,by simp⟩
 ·omega
theorem zFo {p:Nat} {t:T} {c:V→A} (hnb:¬((geC p).run t c).isBad):p<256:=by
 have e:(geC p).run t c=(seC (α:=N V) (p / 16)).run t fun u=>(seC (α:=V) (p % 16)).run u c:=rfl
 rw [e] at hnb
 obtain ⟨u,h1,_⟩:=zE7 hnb
 rcases kaq (p / 16) 16 with h | h
 ·omega
 ·obtain ⟨a0,a1,a2,a3,a4,a5,a6,a7,a8,a9,a10,a11,a12,a13,a14,a15⟩:=t
  simp [N.get] at h1
  rw [kau (by simpa using h)] at h1
  cases h1
theorem qc (fi:FI) (ds:List Nat) (x:Operand):zPe fi ds x (opd fi ds x):=by
 intro tm le c hnb
 cases x with
 | tmp t =>
  simp only [opd] at hnb ⊢
  cases hi:idx t ds 0 with
  | some i =>
   simp only [hi] at hnb ⊢
   exact ⟨_,zLg hnb,fun ν tmps _ hf=>hf.2 i hi⟩
  | none =>
   simp only [hi] at hnb ⊢
   obtain ⟨h1,h2,h3⟩:=zbt (zFo hnb)
   refine ⟨_,zed hnb,fun ν tmps _ hf=>?_⟩
   rw [h3]
   exact hf.1 h1 h2 hi
 | const v =>
  simp only [opd] at hnb ⊢
  cases hc:cv v with
  | bad=>rw [hc] at hnb;exact absurd trivial hnb
  | _ =>
   rw [hc] at hnb
   refine ⟨_,rfl,fun ν tmps _ _=>?_⟩
   have:=zDI ν v (by rw [hc];simp)
   rw [hc] at this
   exact this
 | global g =>
  simp only [opd,znb] at hnb ⊢
  cases hg:Nat.blt g fi.ng with
  | false=>rw [hg] at hnb;exact absurd trivial hnb
  | true =>
   refine ⟨_,rfl,fun ν tmps hG _=>⟨g,0,hG g (by simpa [Nat.blt_eq] using hg),rfl⟩⟩
 | func f =>
  simp only [opd,zH] at hnb ⊢
  exact ⟨_,rfl,fun ν tmps _ _=>⟨[],[],rfl,rfl,rfl⟩⟩
def iv (k:IntKind) (z:Int):V:=match z with | .ofNat m=>.nat k m | .negSucc m=>.neg k m
theorem zeG (ν:Val) (k:IntKind) (z:Int):VR ν (iv k z) (.int k z):=by cases z<;>simp [iv,VR]
theorem zJY (k:IntKind) (z:Int) (c:V→A):ofI k z c=c (iv k z):=zF2 k z c
theorem jd (k:IntKind) (z:Int) (c:V→A):zfF k z c=c (iv k (k.wrap z)):=zF2 k _ c
theorem zax {k:IntKind} {n:Nat} (h:n<lim k):k.wrap (Int.ofNat n)=Int.ofNat n:=by
 cases k<;>simp [lim] at h<;>simp [IntKind.wrap,IntKind.bits,IntKind.signed]<;>omega
theorem zaL (k:IntKind) (n:Nat) (c:V→A):zmV k n c=c (iv k (k.wrap (Int.ofNat n))):=by
 unfold zmV
 cases h:Nat.blt n (lim k)
 ·exact jd k _ c
 ·have h':n<lim k:=by simpa [Nat.blt_eq] using h
  rw [zax h']
  exact zH n _
theorem qU (a b:IntKind):yl a b=true↔a=b:=by cases a<;>cases b<;>simp [yl,IntKind.ctorIdx]
theorem zn (k:IntKind) (z:Int):toI (iv k z)=z:=by cases z<;>rfl
def zay (op:BinOp) (k:IntKind) (a b:Int):Option Value:=match op with
 | .add=>some (.int k (k.wrap (a+b)))
 | .sub=>some (.int k (k.wrap (a - b)))
 | .mul=>some (.int k (k.wrap (a*b)))
 | .quo=>if b=0 then none else some (.int k (k.wrap (a.tdiv b)))
 | .rem=>if b=0 then none else some (.int k (a.tmod b))
 | .and=>some (.int k (k.wrap (BitVec.ofInt k.bits a &&& BitVec.ofInt k.bits b).toNat))
 | .or=>some (.int k (k.wrap (BitVec.ofInt k.bits a ||| BitVec.ofInt k.bits b).toNat))
 | .xor=>some (.int k (k.wrap (BitVec.ofInt k.bits a ^^^ BitVec.ofInt k.bits b).toNat))
 | .andNot=>some (.int k (k.wrap (BitVec.ofInt k.bits a &&& ~~~ BitVec.ofInt k.bits b).toNat))
 | .eql=>some (.bool (a == b))
 | .neq=>some (.bool (a != b))
 | .lss=>some (.bool (a<b))
 | .leq=>some (.bool (a≤b))
 | .gtr=>some (.bool (a > b))
 | .geq=>some (.bool (a ≥ b))
 | _=>none
theorem zMm {op:BinOp} {k:IntKind} {a b:Int} {z:Value} (h:zay op k a b=some z) (hs:op≠.shl) (hs2:op≠.shr) (t:TypeId) (xo yo:Operand) (w:World) :
  ((do eqGuard op t xo yo (.int k a) (.int k b);binOp op t (.int k a) (.int k b)):Sem Value).run P w=.ok z w:=by
 cases op<;>simp [zay] at h hs hs2<;>(try subst h) <;>
  first
   | (simp [eqGuard,binOp,Op.intArith,Op.intBits,Op.intCmp];done)
   | (obtain ⟨h1,rfl⟩:=h;simp [eqGuard,binOp,Op.intDiv,h1];done)
def Res (sem:Option Value) (r:A) (c:V→A):Prop:=∃ v z,c v=r∧sem=some z∧∀ ν,VR ν v z
theorem zMC (a b:Nat):Nat.blt a b=decide ((Int.ofNat a)<Int.ofNat b):=by rw [kaJ];simp [Nat.blt_eq]
theorem zL8 (a b:Nat):Nat.ble a b=decide ((Int.ofNat a)≤Int.ofNat b):=by rw [kaJ];simp
theorem zGW (a b:Nat):Nat.beq a b=((Int.ofNat a) == Int.ofNat b):=by
 rw [kaJ,beq_iff_eq]
 exact ⟨fun h=>by rw [kaa h],fun h=>by injection h with h;subst h;simp⟩
theorem zL9 {op : BinOp} {k : IntKind} {a b : Nat} {c : V → A} (hnb : ¬ (zBW op a b c).isBad) : Res (zay op k (.ofNat a) (.ofNat b)) (zBW op a b c) c := by
  cases op <;> first
    | exact absurd trivial hnb
    | (simp only [zBW, zco, wD, zMC, zL8, zGW]
       exact ⟨_, _, rfl, rfl, fun _ => rfl⟩)
theorem zhE {op : BinOp} {k : IntKind} {x y : V} {c : V → A} (hnb : ¬ (ztc op k x y c).isBad) : Res (zay op k (toI x) (toI y)) (ztc op k x y c) c := by
  cases op <;> first
    | exact absurd trivial hnb
    | (simp only [ztc, jd]
       exact ⟨_, _, rfl, rfl, fun ν => zeG ν _ _⟩)
theorem zJP {op:BinOp} {k:IntKind} {a b:Nat} {c:V→A} (hnb:¬(zhA op k a b c).isBad):Res (zay op k (.ofNat a) (.ofNat b)) (zhA op k a b c) c:=by
 cases op
 case add=>simp only [zhA,zaL];exact ⟨_,_,rfl,rfl,fun ν=>zeG ν _ _⟩
 case sub =>
  simp only [zhA]
  cases h:Nat.ble b a
  ·simp only [jd];exact ⟨_,_,rfl,rfl,fun ν=>zeG ν _ _⟩
  ·simp only [zaL]
   have h':b≤a:=kaA.mp h
   refine ⟨_,_,rfl,rfl,fun ν=>?_⟩
   have e:(Int.ofNat (Nat.sub a b))=Int.ofNat a - Int.ofNat b:=by simp only [Int.ofNat_eq_natCast];have:a.sub b=a - b:=rfl;omega
   rw [e];exact zeG ν _ _
 case mul=>simp only [zhA,zaL];exact ⟨_,_,rfl,rfl,fun ν=>zeG ν k _⟩
 case quo =>
  simp only [zhA] at hnb ⊢
  cases h:Nat.beq b 0
  ·have h':b≠0:=fun e=>by subst e;simp at h
   simp only [zaL]
   refine ⟨_,_,rfl,by simp only [zay];rw [if_neg (by simpa using h')],fun ν=>?_⟩
   have e:(Int.ofNat (Nat.div a b))=(Int.ofNat a).tdiv (Int.ofNat b):=rfl
   rw [e];exact zeG ν _ _
  ·rw [h] at hnb;exact absurd trivial hnb
 case rem =>
  simp only [zhA] at hnb ⊢
  cases h:Nat.beq b 0
  ·have h':b≠0:=fun e=>by subst e;simp at h
   simp only [zH]
   refine ⟨_,_,rfl,by simp only [zay];rw [if_neg (by simpa using h')],fun ν=>?_⟩
   simp only [VR];rfl
  ·rw [h] at hnb;exact absurd trivial hnb
 case and=>exact zhE (op:=.and) (x:=.nat k a) (y:=.nat k b) hnb
 all_goals exact zL9 hnb
theorem zMh {op : BinOp} {k : IntKind} {a b : Int} {lt : Bool} {c : V → A} (hlt : lt = decide (a < b)) (hne : a ≠ b) (hnb : ¬ (zId op lt c).isBad) : Res (zay op k a b) (zId op lt c) c := by
  subst hlt
  cases op <;> first
    | exact absurd trivial hnb
    | (simp only [zId, zco, wD]; exact ⟨_, _, rfl, rfl, fun _ => rfl⟩)
    | (simp only [zId, zco, wD]
       refine ⟨_, _, rfl, rfl, fun ν => ?_⟩
       simp only [VR, Value.bool.injEq]
       rw [kaJ]
       simp [hne]
       done)
    | (simp only [zId, zco, wD]
       refine ⟨_, _, rfl, rfl, fun ν => ?_⟩
       simp only [VR, Value.bool.injEq]
       rw [kaJ]
       simp
       omega)
theorem zCh {op:BinOp} {k:IntKind} {lt:Bool} {x y:V} {c:V→A} (hlt:lt=decide (toI x<toI y)) (hne:toI x≠toI y) (hnb:¬(ztE op k lt x y c).isBad):Res (zay op k (toI x) (toI y)) (ztE op k lt x y c) c:=by
 cases op
 all_goals first
  | exact zhE hnb
  | exact zMh hlt hne hnb
theorem zM6 (a b:Nat):Nat.beq a b=decide (a=b):=by
 rw [kaJ,decide_eq_true_iff]
 exact ⟨kaa,fun h=>by subst h;simp⟩
theorem zJ8 {op : BinOp} {k : IntKind} {a b : Nat} {c : V → A} (hnb : ¬ (zHL op k a b c).isBad) : Res (zay op k (.negSucc a) (.negSucc b)) (zHL op k a b c) c := by
  have hc : ∀ {op : BinOp}, ¬ (zBW op b a c).isBad → Res (zay op k (.negSucc a) (.negSucc b)) (zBW op b a c) c := by
    intro op hnb
    cases op <;> first
      | exact absurd trivial hnb
      | (simp only [zBW, zco, wD]
         refine ⟨_, _, rfl, rfl, fun ν => ?_⟩
         simp only [VR, Value.bool.injEq]
         rw [kaJ]
         simp [Nat.blt_eq, zM6]
         try omega)
  cases op
  case add => exact zhE (op := .add) (x := .neg k a) (y := .neg k b) hnb
  case sub => exact zhE (op := .sub) (x := .neg k a) (y := .neg k b) hnb
  case mul => exact zhE (op := .mul) (x := .neg k a) (y := .neg k b) hnb
  all_goals exact hc hnb
theorem zm6 (a b:List Nat):eqS a b=true↔a=b:=by
 induction a generalizing b with
 | nil=>cases b<;>simp [eqS]
 | cons x a ih =>
  cases b with
  | nil=>simp [eqS]
  | cons y b =>
   have e:eqS (x::a) (y::b)=Bool.rec false (eqS a b) (Nat.beq x y):=rfl
   rw [e,zM6]
   by_cases h:x=y
   ·simp [h,ih]
   ·simp [h]
theorem zaO (s:ByteArray):s.toList=s.data.toList:=ByteArray.toList_eq s
theorem zgk {s t:ByteArray}:qm s=qm t↔s.toList=t.toList:=by
 rw [zaO,zaO]
 unfold qm
 constructor
 ·intro h
  exact (List.map_inj_right (fun _ _ h=>UInt8.toNat_inj.1 h)).1 h
 ·intro h;rw [h]
theorem zs9 (s t:ByteArray):qm (s++t)=qm s++qm t:=by
 unfold qm
 rw [ByteArray.data_append];simp
theorem jX (s:ByteArray):(qm s).length=s.size:=by unfold qm;rw [kai];rfl
def zzB (op:BinOp) (a b:ByteArray):Option Value:=match op with
 | .add=>if ((a.size+b.size:Nat):Int) > IntKind.i64.max then none else some (.string (a++b))
 | .eql=>some (.bool (a.toList == b.toList))
 | .neq=>some (.bool !(a.toList == b.toList))
 | _=>none
theorem zMI {op:BinOp} {a b:ByteArray} {z:Value} (h:zzB op a b=some z) (t:TypeId) (xo yo:Operand) (w:World) :
  ((do eqGuard op t xo yo (.string a) (.string b);binOp op t (.string a) (.string b)):Sem Value).run P w=.ok z w:=by
 cases op<;>simp [zzB] at h<;>(try subst h) <;>
  first
   | (simp [eqGuard,binOp,Op.stringOp];done)
   | (obtain ⟨h1,rfl⟩:=h;simp [eqGuard,binOp,Op.stringOp];omega)
theorem zLY {op:BinOp} {l l':List Nat} {c:V→A} (hnb:¬(zyM op l l' c).isBad):∃ v,c v=zyM op l l' c∧∀ a b,qm a=l→qm b=l'→∃ z,zzB op a b=some z∧∀ ν,VR ν v z:=by
 have heq:∀ {a b:ByteArray},qm a=l→qm b=l'→eqS l l'=(a.toList == b.toList):=by
  rintro a b rfl rfl;rw [kaJ,zm6,zgk,beq_iff_eq]
 cases op
 case add =>
  simp only [zyM,yf,jn] at hnb ⊢
  cases h:Nat.ble (l++l').length 9223372036854775807
  ·rw [h] at hnb;exact absurd trivial hnb
  ·refine ⟨_,rfl,?_⟩
   rintro a b rfl rfl
   have h':=kaA.mp h
   rw [kah,jX,jX] at h'
   refine ⟨_,by simp only [zzB];rw [if_neg (by simp [IntKind.max,IntKind.bits,IntKind.signed];omega)],?_⟩
   exact fun _=>⟨_,rfl,zs9 a b⟩
 case eql=>simp only [zyM,zco];exact ⟨_,rfl,fun a b ha hb=>⟨_,rfl,fun _=>by rw [heq ha hb];rfl⟩⟩
 case neq=>simp only [zyM,zco,wD];exact ⟨_,rfl,fun a b ha hb=>⟨_,rfl,fun _=>by rw [heq ha hb];rfl⟩⟩
 all_goals exact absurd trivial hnb
structure Out (P:Program) (n0:Nat) (w0:World) (ν:Val) (s:S) (ν':Val) (s':S) (w':World):Prop where
 le:ν.le ν'
 st:St P n0 w0 ν' s' w'
 nx:s.nx.toNat≤s'.nx.toNat
 keep:∀ a,(∀ v,ν.blk a v=none)→a.toNat<s.nx.toNat→(∀ v,ν'.blk a v=none)∧(Tr.get B.none a s'.h=Tr.get B.none a s.h∨Tr.get B.none a s'.h=.none)
theorem Out.refl {ν:Val} {s:S} {w:World} (h:St P n0 w0 ν s w):Out P n0 w0 ν s ν s w:=⟨ν.le_refl,h,kab _,fun _ h _=>⟨h,.inl rfl⟩⟩
theorem Out.trans {a b c:Val} {s t u:S} {w w':World} (h:Out P n0 w0 a s b t w) (k:Out P n0 w0 b t c u w'):Out P n0 w0 a s c u w' :=
 ⟨Val.le_trans h.le k.le,k.st,kar h.nx k.nx,fun x hx hl=>by
  obtain ⟨h1,h2⟩:=h.keep x hx hl
  obtain ⟨k1,k2⟩:=k.keep x h1 (kaf hl h.nx)
  exact ⟨k1,by rcases k2 with k2 | k2<;>rcases h2 with h2 | h2<;>simp_all⟩⟩
def QTy (P:Program) (t:TypeId) (q:Nat):Prop:=(q=0∧P.underlying t=some .bool)∨(q=7∧∃ k,P.underlying t=some (.int k))∨(q=8∧P.underlying t=some .string)
def jc (P:Program):Nat→List Field→List Nat→Prop
 | _,[],[]=>True
 | n, f :: fs, q :: qs => f.name ≠ "_" ∧ f.offset = n ∧ QTy P f.type q ∧ jc P (n + 1) fs qs
 | _,_,_=>False
def zOD (P:Program) (t:TypeId) (qs:List Nat):Prop:=∃ n e q i,P.underlying t=some (.array n e)∧P.info? e=some i∧i.size=1∧QTy P e q∧qs=List.replicate n q
def zIT:Nat→Option (Array Value→Sem Value)
 | 0=>some Extern.AbiNoEscape.same
 | 1=>some Extern.BytealgIndexByte.indexByte
 | 2=>some Extern.BytealgCompare.compare
 | _=>none
structure PcOk (P:Program) (pc:PC):Prop where
 info:∀ t i,pc.info t=some i→P.info? t=some i
 func:∀ f fn,pc.func f=some fn→P.funcs[f]?=some fn
 ng:pc.ng≤P.globals.size
 names : ∀ (f : Nat) (fn : Func), P.funcs[f]? = some fn → fn.body.isSome = true → fn.name ≠ "runtime.NumGoroutine"
 mixed:pc.mixed=true→P.follows .mixedOrders=true
 eqs:∀ t qs,zbP t pc.eqs=some qs→P.eqGuardType P.depth t=false∧((P.stoodInHeld t=false∧∃ fs,P.underlying t=some (.struct fs)∧jc P 0 fs.toList qs)∨zOD P t qs)
 ext:∀ f e,zsB f pc.ext=e+1→∀ args w,∃ g,zIT e=some g∧(callFunc f args).run P w=((g args).run P w).andThen fun v w'=>.ok (.value v) w'
theorem PcOk.und {pc:PC} (h:PcOk P pc) {t:Nat} {d:TypeDesc} (hd:pc.und t=some d):P.underlying t=some d:=by
 unfold PC.und at hd
 unfold Program.underlying
 cases hi:pc.info t with
 | none=>simp [hi] at hd
 | some i =>
  rw [hi] at hd
  rw [h.info t i hi]
  obtain ⟨desc,a1,a2,a3,a4,a5,a6,a7,a8,a9⟩:=i
  cases desc with
  | named nm u =>
   simp only at hd ⊢
   cases hu:pc.info u with
   | none=>rw [hu] at hd;cases hd
   | some j=>rw [hu] at hd;rw [h.info u j hu];exact hd
  | _=>simpa using hd
def zeS (ν:Val) (fi:FI) (ds:List Nat) (tm:T) (le:List V) (tmps:Array Value) (o:Oper):Prop:=∀ x∈o.op.operands.toList,OdR ν fi ds tm le tmps x
theorem zr (t:TypeId) (x y:Value) (w:World) (r:Bool) (h:∀ d,(Op.equalIn (d+1) t x y).run P w=.ok r w):(Op.equal t x y).run P w=.ok r w:=h 9999
section
variable {t:TypeId} {w:World}
theorem zM2 (h:P.underlying t=some .bool) (a b:Bool):(Op.equal t (.bool a) (.bool b)).run P w=.ok (a == b) w :=
 zr t _ _ w _ fun d=>by simp [Op.equalIn,run_underlying h]
theorem zN0 {k:IntKind} (h:P.underlying t=some (.int k)) (j:IntKind) (a b:Int):(Op.equal t (.int j a) (.int j b)).run P w=.ok (a == b) w :=
 zr t _ _ w _ fun d=>by simp [Op.equalIn,run_underlying h]
theorem zN5 (h:P.underlying t=some .string) (a b:ByteArray):(Op.equal t (.string a) (.string b)).run P w=.ok (a == b) w :=
 zr t _ _ w _ fun d=>by simp [Op.equalIn,run_underlying h]
theorem zFp {e:TypeId} (h:P.underlying t=some (.pointer e)) (a:Option Addr):(Op.equal t (.pointer a) (.pointer none)).run P w=.ok a.isNone w :=
 zr t _ _ w _ fun d=>by cases a<;>simp [Op.equalIn,run_underlying h]
theorem zsS {e:TypeId} (h:P.underlying t=some (.pointer e)) (a:Option Addr):(Op.equal t (.pointer none) (.pointer a)).run P w=.ok a.isNone w :=
 zr t _ _ w _ fun d=>by simp [Op.equalIn,run_underlying h]
theorem zzR {e:TypeId} {i:TypeInfo} (h:P.underlying t=some (.pointer e)) (hs:P.info? e=some i) (hz:i.size≠0) (b o p:Nat):(Op.equal t (.pointer (some ⟨b,o,none⟩)) (.pointer (some ⟨b,p,none⟩))).run P w=.ok (o == p) w :=
 zr t _ _ w _ fun d=>by
  simp [Op.equalIn,run_underlying h,sizeOf,typeInfo,hs,hz,sameAddr]
  rw [kaJ];simp
theorem zdC {e:TypeId} (h:P.underlying t=some (.slice e)) (a:Option Addr) (n c m d:Nat):(Op.equal t (.slice a n c) (.slice none m d)).run P w=.ok a.isNone w :=
 zr t _ _ w _ fun d=>by cases a<;>simp [Op.equalIn,run_underlying h]
theorem zaE {e:TypeId} (h:P.underlying t=some (.slice e)) (a:Option Addr) (n c m d:Nat):(Op.equal t (.slice none m d) (.slice a n c)).run P w=.ok a.isNone w :=
 zr t _ _ w _ fun d=>by simp [Op.equalIn,run_underlying h]
theorem zNC {k e:TypeId} (h:P.underlying t=some (.map k e)) (a:Option Nat):(Op.equal t (.map a) (.map none)).run P w=.ok a.isNone w :=
 zr t _ _ w _ fun d=>by cases a<;>simp [Op.equalIn,run_underlying h]
theorem zNW {k e:TypeId} (h:P.underlying t=some (.map k e)) (a:Option Nat):(Op.equal t (.map none) (.map a)).run P w=.ok a.isNone w :=
 zr t _ _ w _ fun d=>by simp [Op.equalIn,run_underlying h]
theorem zNn {a b:Array TypeId} {v:Bool} (h:P.underlying t=some (.func a b v)) (f:Fn) (c d:Array Value):(Op.equal t (.func f c d) .nilFunc).run P w=.ok false w :=
 zr t _ _ w _ fun d=>by simp [Op.equalIn,run_underlying h]
theorem zNd {a b:Array TypeId} {v:Bool} (h:P.underlying t=some (.func a b v)) (f:Fn) (c d:Array Value):(Op.equal t .nilFunc (.func f c d)).run P w=.ok false w :=
 zr t _ _ w _ fun d=>by simp [Op.equalIn,run_underlying h]
theorem zLN {a b:Array TypeId} {v:Bool} (h:P.underlying t=some (.func a b v)):(Op.equal t .nilFunc .nilFunc).run P w=.ok true w :=
 zr t _ _ w _ fun d=>by simp [Op.equalIn,run_underlying h]
theorem zyY {m:Array (String × TypeId)} (h:P.underlying t=some (.interface m)) (u:TypeId) (x:Value):(Op.equal t (.iface u x) .nilIface).run P w=.ok false w :=
 zr t _ _ w _ fun d=>by simp [Op.equalIn,run_underlying h]
theorem zzc {m:Array (String × TypeId)} (h:P.underlying t=some (.interface m)) (u:TypeId) (x:Value):(Op.equal t .nilIface (.iface u x)).run P w=.ok false w :=
 zr t _ _ w _ fun d=>by simp [Op.equalIn,run_underlying h]
theorem zmU {m:Array (String × TypeId)} (h:P.underlying t=some (.interface m)):(Op.equal t .nilIface .nilIface).run P w=.ok true w :=
 zr t _ _ w _ fun d=>by simp [Op.equalIn,run_underlying h]
end
def zL3 (P:Program) (t:TypeId) (x y:Value) (r:Bool):Prop:=∀ d w,(Op.equalIn (d+1) t x y).run P w=.ok r w
theorem zGb {t:TypeId} {q:Nat} (hq:QTy P t q) {a b:V} {r:Bool} (h:eqP q a b=some r) {ν:Val} {x y:Value} (hx:VR ν a x) (hy:VR ν b y):zL3 P t x y r:=by
 intro d w
 rcases hq with ⟨rfl,hu⟩ | ⟨rfl,k,hu⟩ | ⟨rfl,hu⟩
 ·cases a with
  | bool c=>cases b with
   | bool c' =>
    simp only [VR] at hx hy
    subst hx hy
    simp [Op.equalIn,run_underlying hu]
    cases c<;>cases c'<;>simp [eqP,zat] at h<;>simp [←h]
   | _=>cases h
  | _=>cases h
 ·have key:∀ (j j':IntKind) (m n:Int),(Op.equalIn (d+1) t (.int j m) (.int j' n)).run P w=if j=j' then .ok (m == n) w else (Op.equalIn (d+1) t (.int j m) (.int j' n)).run P w:=by
   intro j j' m n
   by_cases e:j=j'
   ·subst e;rw [if_pos rfl];simp [Op.equalIn,run_underlying hu]
   ·rw [if_neg e]
  cases a with
  | nat j m=>cases b with
   | nat k' n =>
    simp only [VR] at hx hy
    have e:eqP 7 (.nat j m) (.nat k' n)=Bool.rec none (some (Nat.beq m n)) (yl j k'):=rfl
    rw [e] at h
    cases hkb:yl j k'
    ·rw [hkb] at h;cases h
    ·rw [hkb] at h
     have hk:=(qU _ _).1 hkb
     simp only [Option.some.injEq] at h
     rw [hx,hy,key,if_pos hk,←h,zGW]
   | neg k' n =>
    simp only [VR] at hx hy
    have e:eqP 7 (.nat j m) (.neg k' n)=Bool.rec none (some false) (yl j k'):=rfl
    rw [e] at h
    cases hkb:yl j k'
    ·rw [hkb] at h;cases h
    ·rw [hkb] at h
     have hk:=(qU _ _).1 hkb
     simp only [Option.some.injEq] at h
     rw [hx,hy,key,if_pos hk,←h];rfl
   | _=>cases h
  | neg j m=>cases b with
   | neg k' n =>
    simp only [VR] at hx hy
    have e:eqP 7 (.neg j m) (.neg k' n)=Bool.rec none (some (Nat.beq m n)) (yl j k'):=rfl
    rw [e] at h
    cases hkb:yl j k'
    ·rw [hkb] at h;cases h
    ·rw [hkb] at h
     have hk:=(qU _ _).1 hkb
     simp only [Option.some.injEq] at h
     rw [hx,hy,key,if_pos hk,←h]
     congr 1
     rw [kaJ,zM6,beq_iff_eq]
     constructor
     ·intro h;injection h with h;simpa using h
     ·intro h;have:m=n:=by simpa using h
      rw [this]
   | nat k' n =>
    simp only [VR] at hx hy
    have e:eqP 7 (.neg j m) (.nat k' n)=Bool.rec none (some false) (yl j k'):=rfl
    rw [e] at h
    cases hkb:yl j k'
    ·rw [hkb] at h;cases h
    ·rw [hkb] at h
     have hk:=(qU _ _).1 hkb
     simp only [Option.some.injEq] at h
     rw [hx,hy,key,if_pos hk,←h];rfl
   | _=>cases h
  | _=>cases h
 ·cases a with
  | str l=>cases b with
   | str l' =>
    obtain ⟨s,rfl,hs⟩:=hx
    obtain ⟨s',rfl,hs'⟩:=hy
    have e:eqP 8 (.str l) (.str l')=some (eqS l l'):=rfl
    rw [e] at h
    simp only [Option.some.injEq] at h
    have:(Op.equalIn (d+1) t (.string s) (.string s')).run P w=.ok (s == s') w:=by simp [Op.equalIn,run_underlying hu]
    rw [this,←h]
    congr 1
    rw [beq_toListBytes,kaJ,zm6,←hs,←hs',zgk,beq_iff_eq]
   | _=>cases h
  | _=>cases h
theorem QTy.flat {t:TypeId} {q:Nat} (h:QTy P t q) (w:World):(isAgg t).run P w=.ok false w:=by
 rcases h with ⟨_,hu⟩ | ⟨_,k,hu⟩ | ⟨_,hu⟩<;>(unfold isAgg;rw [Sem.run_bind,run_underlying hu w];rfl)
theorem zeu {t:TypeId} {q:Nat} (h:QTy P t q) (X:Array Value) (n:Nat) (x:Value) (hx:X[n]?=some x) (w:World):(part t X n).run P w=.ok x w:=by
 unfold part
 rw [Sem.run_bind,h.flat w]
 simp [hx]
theorem zHp {ν:Val} (d:Nat) (X Y:Array Value):∀ (fs:List Field) (qs:List Nat) (n:Nat) (a b:List V) (xs ys:List Value) (r:Bool),jc P n fs qs→zis qs a b=some r→VRs ν a xs→VRs ν b ys →
  (∀ i,X[n+i]?=xs[i]?)→(∀ i,Y[n+i]?=ys[i]?)→∀ w,(Op.eqFields (d+1) X Y fs).run P w=.ok r w
 | [],[],n,a,b,xs,ys,r,_,h,_,_,_,_,w=>by
  cases a with
  | nil=>cases b with
   | nil=>simp only [zis,Option.some.injEq] at h;subst h;rfl
   | cons _ _=>cases h
  | cons _ _=>cases h
 | [],_::_,_,_,_,_,_,_,hf,_,_,_,_,_,_=>hf.elim
 | _::_,[],_,_,_,_,_,_,hf,_,_,_,_,_,_=>hf.elim
 | f::fs,q::qs,n,a,b,xs,ys,r,hf,h,ha,hb,hX,hY,w=>by
  obtain ⟨h1,h2,h3,h4⟩:=hf
  cases a with
  | nil=>cases h
  | cons u a=>cases b with
   | nil=>cases h
   | cons v b =>
    obtain ⟨x,xs,rfl,hx,ha⟩:=ha
    obtain ⟨y,ys,rfl,hy,hb⟩:=hb
    have e:zis (q::qs) (u::a) (v::b)=(match eqP q u v with | some true=>zis qs a b | some false=>some false | none=>none):=rfl
    rw [e] at h
    have hx0:X[f.offset]?=some x:=by rw [h2];simpa using hX 0
    have hy0:Y[f.offset]?=some y:=by rw [h2];simpa using hY 0
    cases hq:eqP q u v with
    | none=>rw [hq] at h;cases h
    | some t =>
     rw [hq] at h
     have hrun:=zGb h3 hq hx hy d w
     simp only [Op.eqFields,ne_eq,h1,not_false_iff,if_true,Sem.run_bind,zeu h3 X _ _ hx0,zeu h3 Y _ _ hy0,Result.andThen_ok,hrun]
     cases t with
     | false=>simp only [Option.some.injEq] at h;subst h;rfl
     | true =>
      simp only [Bool.not_true,Bool.false_eq_true,if_false]
      exact zHp d X Y fs qs (n+1) a b xs ys r h4 h ha hb (fun i=>by have:=hX (i+1);rw [show n+1+i=n+(i+1) by omega];simpa using this) (fun i=>by have:=hY (i+1);rw [show n+1+i=n+(i+1) by omega];simpa using this) w
theorem zEY {ν:Val} (d:Nat) (X Y:Array Value) {e:TypeId} {q c:Nat} (hc:c=1) (h3:QTy P e q):∀ (m n:Nat) (a b:List V) (xs ys:List Value) (r:Bool),zis (List.replicate m q) a b=some r→VRs ν a xs→VRs ν b ys →
  (∀ i,X[n+i]?=xs[i]?)→(∀ i,Y[n+i]?=ys[i]?)→∀ w,(Op.eqItems (d+1) e c X Y (List.range' n m)).run P w=.ok r w
 | 0,n,a,b,xs,ys,r,h,_,_,_,_,w=>by
  cases a with
  | nil=>cases b with
   | nil=>simp only [List.replicate,zis,Option.some.injEq] at h;subst h;rfl
   | cons _ _=>cases h
  | cons _ _=>cases h
 | m+1,n,a,b,xs,ys,r,h,ha,hb,hX,hY,w=>by
  cases a with
  | nil=>cases h
  | cons u a=>cases b with
   | nil=>cases h
   | cons v b =>
    obtain ⟨x,xs,rfl,hx,ha⟩:=ha
    obtain ⟨y,ys,rfl,hy,hb⟩:=hb
    have e1:zis (List.replicate (m+1) q) (u::a) (v::b)=(match eqP q u v with | some true=>zis (List.replicate m q) a b | some false=>some false | none=>none):=rfl
    rw [e1] at h
    have hx0:X[n]?=some x:=by simpa using hX 0
    have hy0:Y[n]?=some y:=by simpa using hY 0
    have hn:n*c=n:=by rw [hc,kaK]
    cases hq:eqP q u v with
    | none=>rw [hq] at h;cases h
    | some t =>
     rw [hq] at h
     have hrun:=zGb h3 hq hx hy d w
     rw [List.range'_succ]
     simp only [Op.eqItems,hn,Sem.run_bind,zeu h3 X _ _ hx0,zeu h3 Y _ _ hy0,Result.andThen_ok,hrun]
     cases t with
     | false=>simp only [Option.some.injEq] at h;subst h;rfl
     | true =>
      simp only [Bool.not_true,Bool.false_eq_true,if_false]
      exact zEY d X Y hc h3 m (n+1) a b xs ys r h ha hb (fun i=>by have:=hX (i+1);rw [show n+1+i=n+(i+1) by omega];simpa using this) (fun i=>by have:=hY (i+1);rw [show n+1+i=n+(i+1) by omega];simpa using this) w
theorem PC.size_ne {pc:PC} (hp:PcOk P pc) {e:Nat} (h:pc.size e≠0):∃ i,P.info? e=some i∧i.size=pc.size e:=by
 unfold PC.size at *
 cases hi:pc.info e with
 | none=>rw [hi] at h;exact absurd rfl h
 | some i=>exact ⟨i,hp.info e i hi,by simp⟩
def zIp (P:Program) (t:TypeId) (cst:Bool) (x y:Value):Prop:=∀ op xo yo w,(cst=true→isC xo=true∨isC yo=true)→(eqGuard op t xo yo x y).run P w=.ok () w
theorem jI {t : TypeId} {cst : Bool} {x y : Value} (h1 : x = .nilIface → y = .nilIface → cst = true) (h2 : ∀ c d, x = .agg c → y = .agg d → P.eqGuardType P.depth t = false) : zIp P t cst x y := by
  intro op xo yo w hc
  cases op <;> first
    | (simp [eqGuard]; done)
    | (cases x <;> first
        | (simp [eqGuard]; done)
        | (cases y <;> first
            | (simp [eqGuard]; done)
            | (rcases hc (h1 rfl rfl) with h3 | h3
               · cases xo <;> simp [isC] at h3
                 simp [eqGuard]
               · cases yo <;> simp [isC] at h3
                 simp [eqGuard])
            | (have h3 := h2 _ _ rfl rfl
               simp [eqGuard, h3])))
theorem ztg (t:TypeId) (x y:Value) (w:World) (r:Bool) (h:∀ d,(Op.equalIn (d+2) t x y).run P w=.ok r w):(Op.equal t x y).run P w=.ok r w:=h 9998
theorem zgx {pc:PC} (hp:PcOk P pc) {t:TypeId} {cst:Bool} {a b:V} {r:Bool} (h:eqV (pc.eqKind t) cst a b=some r) {ν:Val} {x y:Value} (hx:VR ν a x) (hy:VR ν b y) :
  (∀ w,(Op.equal t x y).run P w=.ok r w)∧zIp P t cst x y:=by
 unfold PC.eqKind at h
 cases hu:pc.und t with
 | none=>rw [hu] at h;cases h
 | some d =>
  have hU:=hp.und hu
  rw [hu] at h
  have plain:∀ q,QTy P t q→eqP q a b=some r→(∀ w,(Op.equal t x y).run P w=.ok r w)∧zIp P t cst x y:=by
   intro q hq h
   refine ⟨fun w=>zGb hq h hx hy 9999 w,?_⟩
   rcases hq with ⟨rfl,_⟩ | ⟨rfl,_⟩ | ⟨rfl,_⟩
   ·cases a<;>first | (cases h;done) | (simp only [VR] at hx;subst hx;exact jI (fun e=>by cases e) (fun _ _ e=>by cases e))
   ·cases a<;>first | (cases h;done) | (simp only [VR] at hx;subst hx;exact jI (fun e=>by cases e) (fun _ _ e=>by cases e))
   ·cases a<;>first | (cases h;done) | (obtain ⟨s,rfl,_⟩:=hx;exact jI (fun e=>by cases e) (fun _ _ e=>by cases e))
  cases d with
  | bool=>exact plain 0 (.inl ⟨rfl,hU⟩) h
  | int k=>exact plain 7 (.inr (.inl ⟨rfl,k,hU⟩)) h
  | string=>exact plain 8 (.inr (.inr ⟨rfl,hU⟩)) h
  | pointer e =>
   simp only at h
   cases hz:Nat.beq (pc.size e) 0 with
   | true=>rw [hz] at h;cases h
   | false =>
    rw [hz] at h
    have hz':pc.size e≠0:=fun k=>by rw [k] at hz;cases hz
    obtain ⟨i,hi,his⟩:=PC.size_ne hp hz'
    cases a with
    | ptr ka v o =>
     obtain ⟨b1,δ1,hb1,rfl⟩:=hx
     cases b with
     | ptr kb u p =>
      obtain ⟨b2,δ2,hb2,rfl⟩:=hy
      have e':eqV ⟨1,[]⟩ cst (.ptr ka v o) (.ptr kb u p)=Bool.rec none (some (Nat.beq o p)) (zq (K.beq ka kb) (Nat.beq v u)):=rfl
      rw [e'] at h
      cases hk:zq (K.beq ka kb) (Nat.beq v u) with
      | false=>rw [hk] at h;cases h
      | true =>
       rw [hk] at h
       rw [znc,kas] at hk
       have h1:=(K.beq_iff _ _).1 hk.1
       have h2:=kaa hk.2
       subst h1 h2
       rw [hb1] at hb2
       simp only [Option.some.injEq,Prod.mk.injEq] at hb2
       obtain ⟨rfl,rfl⟩:=hb2
       simp only [Option.some.injEq] at h
       refine ⟨fun w=>?_,jI (fun e=>by cases e) (fun _ _ e=>by cases e)⟩
       rw [zzR hU hi (by rw [his];exact hz'),←h]
       congr 1
       rw [kaJ,zM6];simp
     | nil u =>
      rcases u with _ | u
      ·simp only [VR] at hy;subst hy
       simp only [eqV] at h
       refine ⟨fun w=>?_,jI (fun e=>by cases e) (fun _ _ e=>by cases e)⟩
       rw [zFp hU];cases h;rfl
      ·cases h
     | _=>cases h
    | nil u =>
     rcases u with _ | u
     ·simp only [VR] at hx;subst hx
      cases b with
      | ptr kb u p =>
       obtain ⟨b2,δ2,hb2,rfl⟩:=hy
       refine ⟨fun w=>?_,jI (fun e=>by cases e) (fun _ _ e=>by cases e)⟩
       rw [zsS hU];cases h;rfl
      | nil u =>
       rcases u with _ | u
       ·simp only [VR] at hy;subst hy
        refine ⟨fun w=>?_,jI (fun e=>by cases e) (fun _ _ e=>by cases e)⟩
        rw [zsS hU];cases h;rfl
       ·cases h
      | _=>cases h
     ·cases h
    | _=>cases h
  | slice e =>
   have F:∀ {u:Option Addr} {n c:Nat},zIp P t cst (.slice u n c) y:=jI (fun e=>by cases e) (fun _ _ e=>by cases e)
   cases a with
   | nil u =>
    rcases u with _ | _ | u
    ·cases h
    ·simp only [VR] at hx;subst hx
     cases b with
     | nil u =>
      rcases u with _ | _ | u
      ·cases h
      ·simp only [VR] at hy;subst hy;exact ⟨fun w=>by rw [zaE hU];cases h;rfl,F⟩
      ·cases h
     | sl _ _ _ _ _=>obtain ⟨_,_,_,rfl,_⟩:=hy;exact ⟨fun w=>by rw [zaE hU];cases h;rfl,F⟩
     | so _ _ _ _ _=>obtain ⟨_,_,_,_,rfl,_⟩:=hy;exact ⟨fun w=>by rw [zaE hU];cases h;rfl,F⟩
     | ref u _ =>
      rcases u with _ | _ | u
      ·cases h
      ·obtain ⟨_,_,rfl⟩:=VR.ref1 hy;exact ⟨fun w=>by rw [zaE hU];cases h;rfl,F⟩
      ·cases h
     | _=>cases h
    ·cases h
   | sl _ _ _ _ _ =>
    obtain ⟨_,_,_,rfl,_⟩:=hx
    cases b with
    | nil u =>
     rcases u with _ | _ | u
     ·cases h
     ·simp only [VR] at hy;subst hy;exact ⟨fun w=>by rw [zdC hU];cases h;rfl,F⟩
     ·cases h
    | _=>cases h
   | so _ _ _ _ _ =>
    obtain ⟨_,_,_,_,rfl,_⟩:=hx
    cases b with
    | nil u =>
     rcases u with _ | _ | u
     ·cases h
     ·simp only [VR] at hy;subst hy;exact ⟨fun w=>by rw [zdC hU];cases h;rfl,F⟩
     ·cases h
    | _=>cases h
   | ref v _ =>
    rcases v with _ | _ | v
    ·cases h
    ·obtain ⟨_,_,rfl⟩:=VR.ref1 hx
     cases b with
     | nil u =>
      rcases u with _ | _ | u
      ·cases h
      ·simp only [VR] at hy;subst hy;exact ⟨fun w=>by rw [zdC hU];cases h;rfl,F⟩
      ·cases h
     | _=>cases h
    ·cases h
   | _=>cases h
  | interface ms =>
   cases a with
   | nil u =>
    rcases u with _ | _ | _ | _ | _ | u
    ·cases h
    ·cases h
    ·cases h
    ·cases h
    ·simp only [VR] at hx;subst hx
     cases b with
     | nil u =>
      have e:eqV ⟨5,[]⟩ cst (.nil 4) (.nil u)=Bool.rec none (some true) (zq cst (Nat.beq u 4)):=rfl
      simp only at h
      rw [e] at h
      cases hk:zq cst (Nat.beq u 4) with
      | false=>rw [hk] at h;cases h
      | true =>
       rw [hk] at h
       rw [znc,kas] at hk
       have hu4:=kaa hk.2
       subst hu4
       simp only [VR] at hy;subst hy
       exact ⟨fun w=>by rw [zmU hU];cases h;rfl,jI (fun _ _=>hk.1) (fun _ _ e=>by cases e)⟩
     | ifc _ _=>obtain ⟨_,_,rfl⟩:=hy;exact ⟨fun w=>by rw [zzc hU];cases h;rfl,jI (fun _ e=>by cases e) (fun _ _ e=>by cases e)⟩
     | _=>cases h
    ·cases h
   | ifc _ _ =>
    obtain ⟨_,_,rfl⟩:=hx
    cases b with
    | nil u =>
     rcases u with _ | _ | _ | _ | _ | u
     ·cases h
     ·cases h
     ·cases h
     ·cases h
     ·simp only [VR] at hy;subst hy;exact ⟨fun w=>by rw [zyY hU];cases h;rfl,jI (fun e=>by cases e) (fun _ _ e=>by cases e)⟩
     ·cases h
    | _=>cases h
   | _=>cases h
  | struct fs =>
   simp only at h
   cases hq:zbP t pc.eqs with
   | none=>rw [hq] at h;cases h
   | some qs =>
    rw [hq] at h
    obtain ⟨g2,h0⟩:=hp.eqs t qs hq
    rcases h0 with ⟨g1,fs',g3,g4⟩ | ⟨n,e,q,i,g3,_⟩
    ·cases a with
     | ls ta la =>
      cases b with
      | ls tb lb =>
       have e:eqV ⟨6,qs⟩ cst (.ls ta la) (.ls tb lb)=Bool.rec none (zis qs la lb) (zq (Nat.beq ta 0) (Nat.beq tb 0)):=rfl
       simp only at h
       rw [e] at h
       cases hk:zq (Nat.beq ta 0) (Nat.beq tb 0) with
       | false=>rw [hk] at h;cases h
       | true =>
        rw [hk] at h
        rw [znc,kas] at hk
        have h1:=kaa hk.1
        have h2:=kaa hk.2
        subst h1 h2
        obtain ⟨xs,hxs,rfl,_⟩:=hx
        obtain ⟨ys,hys,rfl,_⟩:=hy
        have hf:P.fieldsOf t=fs':=by simp [Program.fieldsOf,g3]
        refine ⟨fun w=>?_,jI (fun e=>by cases e) (fun _ _ _ _=>g2)⟩
        refine ztg t _ _ w r fun d=>?_
        rw [run_equalIn_struct w (d+1) t _ _ (by rw [hf];exact g3) g1,hf]
        exact zHp d _ _ _ _ 0 _ _ _ _ _ g4 h hxs hys (fun i=>by simp) (fun i=>by simp) w
      | _=>cases h
     | _=>cases h
    ·rw [hU] at g3;cases g3
  | _=>cases h
theorem zNs {t:TypeId} {cst:Bool} {x y:Value} {r:Bool} (h1:∀ w,(Op.equal t x y).run P w=.ok r w) (hf:zIp P t cst x y) (hn:(∀ k n,x≠.int k n)∧(∀ s,x≠.string s)∧(∀ k n,x≠.float k n)∧(∀ k a b,x≠.complex k a b)) (neg:Bool) (xo yo:Operand)
  (hc:cst=true→isC xo=true∨isC yo=true) (w:World) :
  ((do eqGuard (if neg then .neq else .eql) t xo yo x y;binOp (if neg then .neq else .eql) t x y):Sem Value).run P w=.ok (.bool (if neg then !r else r)) w:=by
 rw [Sem.run_bind,hf _ _ _ _ hc]
 obtain ⟨n1,n2,n3,n4⟩:=hn
 cases neg<;>cases x<;>first
  | exact absurd rfl (n1 _ _)
  | exact absurd rfl (n2 _)
  | exact absurd rfl (n3 _ _)
  | exact absurd rfl (n4 _ _ _)
  | simp [binOp,h1]
theorem zzi {pc:PC} (hp:PcOk P pc) {t:TypeId} {cst:Bool} {q:EK} {op:BinOp} (hop:op≠.shl∧op≠.shr) (hq:op=.eql∨op=.neq→q=pc.eqKind t) {x y:V} {c:V→A} (hnb:¬(zk q cst op x y c).isBad) :
  ∃ v,c v=zk q cst op x y c∧∀ {ν:Val} {a b:Value},VR ν x a→VR ν y b→∃ z,VR ν v z∧∀ xo yo w,(cst=true→isC xo=true∨isC yo=true)→((do eqGuard op t xo yo a b;binOp op t a b):Sem Value).run P w=.ok z w:=by
 have ints:∀ (k:IntKind) (a b:Int) (r:A),Res (zay op k a b) r c→(∀ ν X,VR ν x X→X=.int k a)→(∀ ν Y,VR ν y Y→Y=.int k b) →
   ∃ v,c v=r∧∀ {ν:Val} {a b:Value},VR ν x a→VR ν y b→∃ z,VR ν v z∧∀ xo yo w,(cst=true→isC xo=true∨isC yo=true)→((do eqGuard op t xo yo a b;binOp op t a b):Sem Value).run P w=.ok z w:=by
  rintro k a b r ⟨v,z,h1,h2,h3⟩ hx hy
  refine ⟨v,h1,fun {ν A B} hA hB=>⟨z,h3 ν,fun xo yo w _=>?_⟩⟩
  rw [hx ν A hA,hy ν B hB]
  exact zMm h2 hop.1 hop.2 t xo yo w
 have eqs:∀ (n1:∀ ν X,VR ν x X→(∀ k n,X≠.int k n)∧(∀ s,X≠.string s)∧(∀ k n,X≠.float k n)∧(∀ k a b,X≠.complex k a b)) (r:A),
   r=ziX q cst op x y c→¬r.isBad →
   ∃ v,c v=r∧∀ {ν:Val} {a b:Value},VR ν x a→VR ν y b→∃ z,VR ν v z∧∀ xo yo w,(cst=true→isC xo=true∨isC yo=true)→((do eqGuard op t xo yo a b;binOp op t a b):Sem Value).run P w=.ok z w:=by
  intro n1 r hr hnb
  have both:∀ neg:Bool,op=(if neg then .neq else .eql)→r=zvl q cst neg x y c→∃ v,c v=r∧∀ {ν:Val} {a b:Value},VR ν x a→VR ν y b→∃ z,VR ν v z∧∀ xo yo w,(cst=true→isC xo=true∨isC yo=true)→((do eqGuard op t xo yo a b;binOp op t a b):Sem Value).run P w=.ok z w:=by
   intro neg ho hr
   subst hr
   have hk:=hq (by cases neg<;>simp at ho<;>simp [ho])
   subst hk
   unfold zvl at hnb ⊢
   cases he:eqV (pc.eqKind t) cst x y with
   | none=>rw [he] at hnb;exact absurd trivial hnb
   | some s =>
    refine ⟨.bool (if neg then !s else s),?_,fun {ν A B} hA hB=>?_⟩
    ·simp only [zco]
     cases neg<;>simp [wD]
    ·obtain ⟨e1,e2⟩:=zgx hp he hA hB
     refine ⟨.bool (if neg then !s else s),rfl,fun xo yo w hc=>?_⟩
     subst ho
     exact zNs e1 e2 (n1 ν A hA) neg xo yo hc w
  by_cases o1:op=.eql
  ·exact both false o1 (by rw [hr,o1];rfl)
  ·by_cases o2:op=.neq
   ·exact both true o2 (by rw [hr,o2];rfl)
   ·have:ziX q cst op x y c=.bad 0:=by cases op<;>first | rfl | exact absurd rfl o1 | exact absurd rfl o2
    rw [hr,this] at hnb
    exact absurd trivial hnb
 unfold zk at hnb ⊢
 cases x with
 | nat k a=>cases y with
  | nat k' b =>
   simp only at hnb ⊢
   cases hk:yl k k'
   ·rw [hk] at hnb;exact absurd trivial hnb
   ·rw [hk] at hnb
    have:=(qU _ _).1 hk
    subst this
    exact ints k _ _ _ (zJP hnb) (fun ν X h=>h) (fun ν X h=>h)
  | neg k' b =>
   simp only at hnb ⊢
   cases hk:yl k k'
   ·rw [hk] at hnb;exact absurd trivial hnb
   ·rw [hk] at hnb
    have:=(qU _ _).1 hk
    subst this
    have h1:=Int.negSucc_lt_zero b
    have h2:(0:Int)≤Int.ofNat a:=Int.natCast_nonneg a
    refine ints k (toI (.nat k a)) (toI (.neg k b)) _ (zCh ?_ ?_ hnb) (fun ν X h=>h) (fun ν X h=>h)
    ·show false=decide (Int.ofNat a<Int.negSucc b)
     rw [eq_comm,decide_eq_false_iff_not];omega
    ·show Int.ofNat a≠Int.negSucc b
     omega
  | _=>exact absurd trivial hnb
 | neg k a=>cases y with
  | neg k' b =>
   simp only at hnb ⊢
   cases hk:yl k k'
   ·rw [hk] at hnb;exact absurd trivial hnb
   ·rw [hk] at hnb
    have:=(qU _ _).1 hk
    subst this
    exact ints k _ _ _ (zJ8 hnb) (fun ν X h=>h) (fun ν X h=>h)
  | nat k' b =>
   simp only at hnb ⊢
   cases hk:yl k k'
   ·rw [hk] at hnb;exact absurd trivial hnb
   ·rw [hk] at hnb
    have:=(qU _ _).1 hk
    subst this
    have h1:=Int.negSucc_lt_zero a
    have h2:(0:Int)≤Int.ofNat b:=Int.natCast_nonneg b
    refine ints k (toI (.neg k a)) (toI (.nat k b)) _ (zCh ?_ ?_ hnb) (fun ν X h=>h) (fun ν X h=>h)
    ·show true=decide (Int.negSucc a<Int.ofNat b)
     rw [eq_comm,decide_eq_true_iff];omega
    ·show Int.negSucc a≠Int.ofNat b
     omega
  | _=>exact absurd trivial hnb
 | str l=>cases y with
  | str l' =>
   obtain ⟨v,h1,h2⟩:=zLY hnb
   refine ⟨v,h1,fun {ν A B} hA hB=>?_⟩
   obtain ⟨s,rfl,hs⟩:=hA
   obtain ⟨s',rfl,hs'⟩:=hB
   obtain ⟨z,h3,h4⟩:=h2 s s' hs hs'
   exact ⟨z,h4 ν,fun xo yo w _=>zMI h3 t xo yo w⟩
  | _=>exact absurd trivial hnb
 | bad =>
  exfalso
  have hn:eqV q cst .bad y=none:=by
   obtain ⟨k,qs⟩:=q
   rcases k with _ | _ | _ | _ | _ | _ | _ | _ | _ | k<;>rfl
  have he:∀ neg,zvl q cst neg .bad y c=.bad 0:=fun neg=>by unfold zvl;rw [hn]
  refine hnb ?_
  show (ziX q cst op .bad y c).isBad
  cases op<;>simp only [ziX,he]<;>trivial
 | bool b=>exact eqs (fun ν X h=>by simp only [VR] at h;subst h;simp) _ rfl hnb
 | ptr a v o=>exact eqs (fun ν X h=>by obtain ⟨_,_,_,rfl⟩:=h;simp) _ rfl hnb
 | sl a v o l c=>exact eqs (fun ν X h=>by obtain ⟨_,_,_,rfl,_⟩:=h;simp) _ rfl hnb
 | so a v o l c=>exact eqs (fun ν X h=>by obtain ⟨_,_,_,_,rfl,_⟩:=h;simp) _ rfl hnb
 | nil u=>exact eqs (fun ν X h=>by rcases u with _ | _ | _ | _ | _ | u<;>simp only [VR] at h<;>first | (subst h;simp) | exact h.elim) _ rfl hnb
 | ref u a=>exact eqs (fun ν X h=>by
   rcases u with _ | _ | _ | _ | u
   ·obtain ⟨_,_,rfl⟩:=h;simp
   ·obtain ⟨_,_,rfl⟩:=VR.ref1 h;simp
   ·exact h.elim
   ·obtain ⟨_,_,rfl⟩:=h;simp
   ·exact h.elim) _ rfl hnb
 | ls u l=>exact eqs (fun ν X h=>by
   rcases u with _ | _ | u
   ·obtain ⟨_,_,rfl,_⟩:=h;simp
   ·obtain ⟨_,_,rfl⟩:=h;simp
   ·obtain ⟨_,_,h⟩:=h;exact h.elim) _ rfl hnb
 | fn f a b=>exact eqs (fun ν X h=>by obtain ⟨_,_,_,_,rfl⟩:=h;simp) _ rfl hnb
 | ifc u v=>exact eqs (fun ν X h=>by obtain ⟨_,_,rfl⟩:=h;simp) _ rfl hnb
end Go.Ev
