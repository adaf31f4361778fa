/- The evaluator: an abstract run of a program, on known values. No statement of the seat stands here. No condition. By an AI agent. -/
import GoSem.Step
namespace Go.Ev
abbrev kaa:=@List.getD_eq_getElem?_getD
abbrev kab:=@List.getElem?_eq_getElem
abbrev kac:=@Nat.eq_of_beq_eq_true
abbrev kad:=@Nat.le_refl
abbrev kae:=@List.length_append
abbrev kaf:=@Bool.and_eq_true
abbrev kag:=@Nat.mul_le_mul_right
abbrev kah:=@Nat.ble_eq_true_of_le
abbrev kai:=@List.getElem_mem
abbrev kaj:=@List.mem_cons
abbrev kak:=@List.mem_singleton
abbrev kal:=@List.getElem?_eq_none
abbrev kam:=@Array.getElem?_toList
abbrev kan:=@Nat.lt_of_lt_of_le
abbrev kao:=@List.all_eq_true
abbrev kap:=@List.length_eq_zero_iff
abbrev kaq:=@List.mem_append
abbrev kar:=@List.getElem?_append_left
abbrev kas:=@Nat.zero_add
abbrev kat:=@Array.getElem?_eq_some_iff
abbrev kau:=@List.mem_map
abbrev kav:=@List.mem_of_getElem?
abbrev kaw:=@List.getElem?_append_right
abbrev kax:=@Nat.ble_eq
abbrev kay:=@List.length_cons
abbrev kaz:=@Nat.mul_one
abbrev kaA:=@Bool.eq_iff_iff
abbrev kaB:=@Nat.le_trans
abbrev kaC:=@List.mem_cons_of_mem
abbrev kaD:=@List.getElem?_map
abbrev kaE:=@List.getElem?_eq_some_iff
abbrev kaF:=@Nat.beq_refl
abbrev kaG:=@List.append_assoc
abbrev kaH:=@List.length_map
abbrev kaI:=@Nat.add_assoc
abbrev kaJ:=@Nat.le_of_ble_eq_true
abbrev kaK:=@Nat.lt_or_ge
abbrev kaL:=@List.ext_getElem?
abbrev kaM:=@List.mem_range
abbrev kaN:=@List.map_append

noncomputable section
inductive K where | h | o (p:K) | i (p:K)
inductive Tr (α:Type) where | lf | nd (l:Tr α) (v:α) (r:Tr α)

inductive V where
 | bad
 | nat (k:IntKind) (n:Nat)
 | neg (k:IntKind) (n:Nat)
 | bool (b:Bool)
 | str (s:List Nat)
 | ptr (a:K) (v o:Nat)
 | sl (a:K) (v o len cap:Nat)
 | so (a:K) (v o len e:Nat)
 | nil (t:Nat)
 | ref (t:Nat) (a:K)
 | ls (t:Nat) (l:List V)
 | fn (f:Fn) (a b:List V)
 | ifc (t:Nat) (v:V)
structure N (α:Type) where
 (a0 a1 a2 a3 a4 a5 a6 a7 a8 a9 a10 a11 a12 a13 a14 a15:α)
abbrev T:=N (N V)

structure ME where
 key:V
 val:V
 born:Nat
structure FI where
 ns:Nat
 nt:Nat
 ng:Nat

inductive B where
 | none
 | row (l:List V) (n el:Nat) (gr:Bool) (mn f1 f2:Nat)
 | map (es:List ME) (ck:Nat)
 | loop (st:Nat) (pend:Option Code) (fi:FI) (tm:T) (ps:List Tmp) (asg body:Code) (df:K)
 | dfd (l:Option (List V))
 | it (s:List Nat) (pos:Nat) (r:Nat)

structure S where
 h:Tr B
 nx:K

inductive A where
 | nrm (tm:T) (s:S)
 | ext (id:Nat) (tm:T) (s:S)
 | ret (tm:T) (s:S)
 | fin (v:V) (s:S)
 | bad (m:Nat)
inductive F where
 | ret (v:V) (s:S)
 | bad (m:Nat)

abbrev mA:V→Type:=fun _=>A
abbrev mO:V→Type:=fun _=>Option Bool
abbrev mP:V→Type:=fun _=>Bool
abbrev mD:B→Type:=fun _=>A
abbrev mE:B→Type:=fun _=>Bool
abbrev mU:List V→Type:=fun _=>Unit
variable {α:Type}
abbrev eB (_:α):A:=.bad 0
variable {β:Type}
abbrev eC (_:α) (_:β):A:=.bad 0
abbrev eD {B:Type} (_:α) (_:β) (_:B):A:=.bad 0
variable {C q:Type}
abbrev eF {B:Type} (_:α) (_:β) (_:B) (_:q) (_:C):A:=.bad 0
variable {D E:Type}
abbrev eH {B:Type} (_:α) (_:β) (_:B) (_:q) (_:C) (_:D) (_:E):A:=.bad 0
abbrev eI {B F:Type} (_:α) (_:β) (_:B) (_:q) (_:C) (_:D) (_:E) (_:F):A:=.bad 0
abbrev qB (_:α):Bool:=false
abbrev qC (_:α) (_:β):Bool:=false
abbrev qD {B:Type} (_:α) (_:β) (_:B):Bool:=false
abbrev qF {B:Type} (_:α) (_:β) (_:B) (_:q) (_:C):Bool:=false
abbrev qI {B F:Type} (_:α) (_:β) (_:B) (_:q) (_:C) (_:D) (_:E) (_:F):Bool:=false
abbrev jB (_:α):Option Bool:=none
abbrev jC (_:α) (_:β):Option Bool:=none
abbrev jD {B:Type} (_:α) (_:β) (_:B):Option Bool:=none
abbrev jF {B:Type} (_:α) (_:β) (_:B) (_:q) (_:C):Option Bool:=none
abbrev tE {B:Type} (_:α) (_:β) (_:B) (_:q):Unit:=()
abbrev eA:A:=.bad 0
abbrev kB {A:Type} (x:A) (_:α):A:=x
abbrev kC {A:Type} (x:A) (_:α) (_:β):A:=x
abbrev kD {B A:Type} (x:A) (_:α) (_:β) (_:B):A:=x
abbrev kF {B A:Type} (x:A) (_:α) (_:β) (_:B) (_:q) (_:C):A:=x
abbrev undef:V:=.ls 1 []

def Tr.getK (d:α) (k:K):Tr α→(α→β)→β :=
 K.rec (motive:=fun _=>Tr α→(α→β)→β)
  (fun t c=>(Tr.rec (motive:=fun _=>β) (c d) (fun _ v _ _ _=>c v) t))
  (fun _ X t c=>(Tr.rec (motive:=fun _=>β) (c d) (fun l _ _ _ _=>X l c) t))
  (fun _ X t c=>(Tr.rec (motive:=fun _=>β) (c d) (fun _ _ r _ _=>X r c) t)) k
def Tr.setK (d:α) (k:K) (x:α):Tr α→(Tr α→β)→β :=
 K.rec (motive:=fun _=>Tr α→(Tr α→β)→β)
  (fun t c=>(Tr.rec (motive:=fun _=>β) (c (.nd .lf x .lf)) (fun l _ r _ _=>c (.nd l x r)) t))
  (fun _ X t c=>(Tr.rec (motive:=fun _=>β) (X .lf (fun l=>c (.nd l d .lf))) (fun l v r _ _=>X l (fun l=>c (.nd l v r))) t))
  (fun _ X t c=>(Tr.rec (motive:=fun _=>β) (X .lf (fun r=>c (.nd .lf d r))) (fun l v r _ _=>X r (fun r=>c (.nd l v r))) t)) k

def fN (n:Nat) (c:Nat→β):β:=(Nat.rec (motive:=fun _=>β) (c 0) (fun m _=>c (Nat.succ m)) n)
def zCo (fuel:Nat):Nat→(K→β)→β :=
 Nat.rec (motive:=fun _=>Nat→(K→β)→β) (fun _ c=>c .h)
  (fun _ X n c=>(Bool.rec (motive:=fun _=>β) ((Bool.rec (motive:=fun _=>β) (X (Nat.div n 2) (fun p=>c (.i p))) (X (Nat.div n 2) (fun p=>c (.o p))) (Nat.beq (Nat.mod n 2) 0))) (c .h) (Nat.ble n 1))) fuel
def zgm (n:Nat) (c:K→β):β:=zCo 24 (n+4) c
def zB1 (o:Nat):List V→(V→β)→β :=
 Nat.rec (motive:=fun _=>List V→(V→β)→β) (fun l c=>(List.rec (motive:=fun _=>β) (c .bad) (fun x _ _=>c x) l))
  (fun _ X l c=>(List.rec (motive:=fun _=>β) (c .bad) (fun _ t _=>X t c) l)) o
def zem {B:Type} (n:Nat):List B→(List B→β)→β :=
 Nat.rec (motive:=fun _=>List B→(List B→β)→β) (fun l c=>c l) (fun _ X l c=>(List.rec (motive:=fun _=>β) (c []) (fun _ t _=>X t c) l)) n
def zqv {B:Type} (n:Nat):List B→(List B→β)→β :=
 Nat.rec (motive:=fun _=>List B→(List B→β)→β) (fun _ c=>c []) (fun _ X l c=>(List.rec (motive:=fun _=>β) (c []) (fun x t _=>X t (fun r=>c (x::r))) l)) n
def zfX {B:Type} (a b:List B):(List B→β)→β :=
 List.rec (motive:=fun _=>(List B→β)→β) (fun c=>c b) (fun x _ X c=>X fun l=>c (x::l)) a
def zdv {B:Type} (l:List B) (c:Nat→β):β:=List.rec (motive:=fun _=>Nat→β) (fun n=>c n) (fun _ _ X n=>fN (Nat.succ n) X) l 0
def zDL (xs:List V):List V→(List V→β)→β :=
 List.rec (motive:=fun _=>List V→(List V→β)→β) (fun l c=>c l) (fun x _ X l c=>(List.rec (motive:=fun _=>β) (X [] (fun r=>c (x::r))) (fun _ t _=>X t (fun r=>c (x::r))) l)) xs
def zJ (xs:List V) (o:Nat):List V→(List V→β)→β :=
 Nat.rec (motive:=fun _=>List V→(List V→β)→β) (fun l c=>zDL xs l c) (fun _ X l c=>(List.rec (motive:=fun _=>β) (X [] (fun r=>c (.bad::r))) (fun y t _=>X t (fun r=>c (y::r))) l)) o
def zav (l:List V) (n:Nat):(List V→β)→β :=
 Nat.rec (motive:=fun _=>(List V→β)→β) (fun c=>c []) (fun _ X c=>X fun r=>zfX l r c) n

def qO (a b:IntKind):Bool:=Nat.beq a.ctorIdx b.ctorIdx
def lim (k:IntKind):Nat:=match k with
 | .i8=>128 | .i16=>32768 | .i32=>2147483648 | .i64=>9223372036854775808
 | .u8=>256 | .u16=>65536 | .u32=>4294967296 | .u64=>18446744073709551616
def toI (x:V):Int:=(V.rec (motive_1:=fun _=>Int) (motive_2:=fun _=>Unit) (0) (fun _ n=>Int.ofNat n) (fun _ n=>Int.negSucc n) (fun _=>0) (fun _=>0) (fun _ _ _=>0) (fun _ _ _ _ _=>0) (fun _ _ _ _ _=>0) (fun _=>0) (fun _ _=>0) (fun _ _ _=>0) (fun _ _ _ _ _=>0) (fun _ _ _=>0) () tE x)
def ofI (k:IntKind) (z:Int) (c:V→β):β:=(Int.rec (motive:=fun _=>β) (fun m=>fN m (fun m=>c (.nat k m))) (fun m=>fN m (fun m=>c (.neg k m))) z)
def zdM (k:IntKind) (z:Int) (c:V→β):β:=ofI k (k.wrap z) c
def zdz (k:IntKind) (n:Nat) (c:V→β):β:=(Bool.rec (motive:=fun _=>β) (zdM k (Int.ofNat n) c) (fN n (fun n=>c (.nat k n))) (Nat.blt n (lim k)))
def fB (b:Bool) (c:V→β):β:=(Bool.rec (motive:=fun _=>β) (c (.bool false)) (c (.bool true)) b)
def zbj (b:Bool):Bool:=(@Bool.rec (fun _=>Bool) true false b)
def zB (a b:Bool):Bool:=(@Bool.rec (fun _=>Bool) false b a)

def eqS:List Nat→List Nat→Bool:=fun a=>List.rec (motive:=fun _=>List Nat→Bool) (fun b=>(List.rec (motive:=fun _=>Bool) true qD b))
 (fun x _ X b=>(List.rec (motive:=fun _=>Bool) false (fun y l _=>(@Bool.rec (fun _=>Bool) false (X l) (Nat.beq x y))) b)) a
def K.beq (a:K):K→Bool:=K.rec (motive:=fun _=>K→Bool) (fun b=>(K.rec (motive:=fun _=>Bool) true qC qC b)) (fun _ X b=>(K.rec (motive:=fun _=>Bool) false (fun q _=>X q) qC b)) (fun _ X b=>(K.rec (motive:=fun _=>Bool) false qC (fun q _=>X q) b)) a
def cvS (l:List UInt8) (c:List Nat→β):β :=
 List.rec (motive:=fun _=>(List Nat→β)→β) (fun c=>c []) (fun x _ X c=>fN x.toNat fun n=>X fun l=>c (n::l)) l c
def cvK (k:IntKind) (c:IntKind→β):β:=match k with
 | .i8=>c .i8 | .i16=>c .i16 | .i32=>c .i32 | .i64=>c .i64 | .u8=>c .u8 | .u16=>c .u16 | .u32=>c .u32 | .u64=>c .u64
mutual
def cv:Value→V
 | .bool b=>match b with | true=>.bool true | false=>.bool false
 | .int k n=>cvK k fun k=>ofI k n id
 | .string s=>cvS s.data.toList .str
 | .pointer none=>.nil 0
 | .slice none 0 0=>.nil 1
 | .map none=>.nil 2
 | .nilFunc=>.nil 3
 | .nilIface=>.nil 4
 | .func (.func f) a b=>match a,b with | ⟨[]⟩,⟨[]⟩=>fN f fun f=>.fn (.func f) [] [] | _,_=>.bad
 | .iface t v=>fN t fun t=>match cv v with | .bad=>.bad | v=>.ifc t v
 | .agg ⟨cs⟩=>match zr6 cs with | some l=>.ls 0 l | none=>.bad
 | .tuple ⟨cs⟩=>match cvs cs with | some l=>.ls 1 l | none=>.bad
 | _=>.bad
def cvs:List Value→Option (List V)
 | []=>some []
 | v::l=>match cv v with
  | .bad=>none
  | w=>match cvs l with
   | some l=>some (w::l)
   | none=>none
def zr6:List Value→Option (List V)
 | []=>some []
 | v::l=>match cv v with
  | .bad=>none
  | .ls _ _=>none
  | w=>match zr6 l with
   | some l=>some (w::l)
   | none=>none
end
structure PC where
 P:Program
 tys:Tr (Option TypeInfo)
 fns:Tr (Option Func)
 ns:Tr (Option Nat)
 ext:List (Nat × Nat)
 eqs:List (Nat × List Nat)
 mixed:Bool
 ng:Nat

variable {α β:Type}
def zfJ (l:List α) (c:Tr (Option α)→β):β :=
 List.rec (motive:=fun _=>Nat→Tr (Option α)→β) (fun _ t=>c t)
  (fun x _ X n t=>zgm n fun k=>t.setK none k (some x) fun t=>fN (Nat.succ n) fun n=>X n t) l 0 .lf
def PC.of (P:Program) (ns:List Nat) (ext:List (Nat × Nat)) (eqs:List (Nat × List Nat)):PC:=zfJ P.types.toList fun tys=>zfJ P.funcs.toList fun fns=>zfJ ns fun ns=>fN P.globals.size fun ng=>⟨P,tys,fns,ns,ext,eqs,P.follows .mixedOrders,ng⟩
def zm3 (f:Nat):List (Nat × Nat)→Nat
 | []=>0
 | (g,c)::l=>match Nat.beq f g with | true=>c | false=>zm3 f l
def PC.info (pc:PC) (t:Nat):Option TypeInfo:=zgm t fun k=>pc.tys.getK none k id
def PC.func (pc:PC) (f:Nat):Option Func:=zgm f fun k=>pc.fns.getK none k id
def PC.nsOf (pc:PC) (f:Nat):Nat:=match zgm f fun k=>pc.ns.getK none k id with | some n=>n | none=>0
def PC.und (pc:PC) (t:Nat):Option TypeDesc:=match pc.info t with
 | none=>none
 | some i=>match i.desc with
  | .named _ u=>(pc.info u).map (·.desc)
  | d=>some d
def PC.size (pc:PC) (t:Nat):Nat:=match pc.info t with | some i=>i.size | none=>0
def PC.isAgg (pc:PC) (t:Nat):Bool:=match pc.und t with | some (.struct _) | some (.array _ _)=>true | _=>false
def PC.zero (pc:PC) (t:Nat):V:=match pc.info t with | some i=>(match i.zero with | some v=>cv v | none=>.bad) | none=>.bad

structure R where
 code:FI→Code→T→S→A
 call:Nat→List V→S→F
def zq (x:F) (k:V→S→A):A:=F.rec (motive:=fun _=>A) (fun v s=>k v s) (fun m=>.bad m) x
def zd7 (f:T→S→A) (g:Nat→T→S→A) (h:T→S→A) (a:A):A:=A.rec (motive:=fun _=>A) (fun N s=>f N s) (fun i N s=>g i N s) (fun N s=>h N s) (fun _ _=>.bad 0) (fun m=>.bad m) a
structure OpC where run:R→T→List V→S→(V→S→A)→A
structure LoC where run:R→T→List V→S→A
structure CoC where run:R→T→S→A
structure OdC where run:T→List V→(V→A)→A
structure OdsC where run:T→List V→(List V→A)→A
structure FnC where run:R→List V→S→F
structure SeC (α:Type) where run:N α→(α→A)→A
structure MoC (α:Type) where run:N α→(α→(α→A)→A)→(N α→A)→A
def seC (d:Nat):SeC α:=match d with
 | 0=>⟨fun t c=>N.rec (motive:=fun _=>A) (fun a0 _ _ _ _ _ _ _ _ _ _ _ _ _ _ _=>c a0) t⟩
 | 1=>⟨fun t c=>N.rec (motive:=fun _=>A) (fun _ a1 _ _ _ _ _ _ _ _ _ _ _ _ _ _=>c a1) t⟩
 | 2=>⟨fun t c=>N.rec (motive:=fun _=>A) (fun _ _ a2 _ _ _ _ _ _ _ _ _ _ _ _ _=>c a2) t⟩
 | 3=>⟨fun t c=>N.rec (motive:=fun _=>A) (fun _ _ _ a3 _ _ _ _ _ _ _ _ _ _ _ _=>c a3) t⟩
 | 4=>⟨fun t c=>N.rec (motive:=fun _=>A) (fun _ _ _ _ a4 _ _ _ _ _ _ _ _ _ _ _=>c a4) t⟩
 | 5=>⟨fun t c=>N.rec (motive:=fun _=>A) (fun _ _ _ _ _ a5 _ _ _ _ _ _ _ _ _ _=>c a5) t⟩
 | 6=>⟨fun t c=>N.rec (motive:=fun _=>A) (fun _ _ _ _ _ _ a6 _ _ _ _ _ _ _ _ _=>c a6) t⟩
 | 7=>⟨fun t c=>N.rec (motive:=fun _=>A) (fun _ _ _ _ _ _ _ a7 _ _ _ _ _ _ _ _=>c a7) t⟩
 | 8=>⟨fun t c=>N.rec (motive:=fun _=>A) (fun _ _ _ _ _ _ _ _ a8 _ _ _ _ _ _ _=>c a8) t⟩
 | 9=>⟨fun t c=>N.rec (motive:=fun _=>A) (fun _ _ _ _ _ _ _ _ _ a9 _ _ _ _ _ _=>c a9) t⟩
 | 10=>⟨fun t c=>N.rec (motive:=fun _=>A) (fun _ _ _ _ _ _ _ _ _ _ a10 _ _ _ _ _=>c a10) t⟩
 | 11=>⟨fun t c=>N.rec (motive:=fun _=>A) (fun _ _ _ _ _ _ _ _ _ _ _ a11 _ _ _ _=>c a11) t⟩
 | 12=>⟨fun t c=>N.rec (motive:=fun _=>A) (fun _ _ _ _ _ _ _ _ _ _ _ _ a12 _ _ _=>c a12) t⟩
 | 13=>⟨fun t c=>N.rec (motive:=fun _=>A) (fun _ _ _ _ _ _ _ _ _ _ _ _ _ a13 _ _=>c a13) t⟩
 | 14=>⟨fun t c=>N.rec (motive:=fun _=>A) (fun _ _ _ _ _ _ _ _ _ _ _ _ _ _ a14 _=>c a14) t⟩
 | 15=>⟨fun t c=>N.rec (motive:=fun _=>A) (fun _ _ _ _ _ _ _ _ _ _ _ _ _ _ _ a15=>c a15) t⟩
 | _=>⟨fun _ _=>.bad 0⟩
def moC (d:Nat):MoC α:=match d with
 | 0=>⟨fun t f c=>N.rec (motive:=fun _=>A) (fun a0 a1 a2 a3 a4 a5 a6 a7 a8 a9 a10 a11 a12 a13 a14 a15=>f a0 fun x=>c (.mk x a1 a2 a3 a4 a5 a6 a7 a8 a9 a10 a11 a12 a13 a14 a15)) t⟩
 | 1=>⟨fun t f c=>N.rec (motive:=fun _=>A) (fun a0 a1 a2 a3 a4 a5 a6 a7 a8 a9 a10 a11 a12 a13 a14 a15=>f a1 fun x=>c (.mk a0 x a2 a3 a4 a5 a6 a7 a8 a9 a10 a11 a12 a13 a14 a15)) t⟩
 | 2=>⟨fun t f c=>N.rec (motive:=fun _=>A) (fun a0 a1 a2 a3 a4 a5 a6 a7 a8 a9 a10 a11 a12 a13 a14 a15=>f a2 fun x=>c (.mk a0 a1 x a3 a4 a5 a6 a7 a8 a9 a10 a11 a12 a13 a14 a15)) t⟩
 | 3=>⟨fun t f c=>N.rec (motive:=fun _=>A) (fun a0 a1 a2 a3 a4 a5 a6 a7 a8 a9 a10 a11 a12 a13 a14 a15=>f a3 fun x=>c (.mk a0 a1 a2 x a4 a5 a6 a7 a8 a9 a10 a11 a12 a13 a14 a15)) t⟩
 | 4=>⟨fun t f c=>N.rec (motive:=fun _=>A) (fun a0 a1 a2 a3 a4 a5 a6 a7 a8 a9 a10 a11 a12 a13 a14 a15=>f a4 fun x=>c (.mk a0 a1 a2 a3 x a5 a6 a7 a8 a9 a10 a11 a12 a13 a14 a15)) t⟩
 | 5=>⟨fun t f c=>N.rec (motive:=fun _=>A) (fun a0 a1 a2 a3 a4 a5 a6 a7 a8 a9 a10 a11 a12 a13 a14 a15=>f a5 fun x=>c (.mk a0 a1 a2 a3 a4 x a6 a7 a8 a9 a10 a11 a12 a13 a14 a15)) t⟩
 | 6=>⟨fun t f c=>N.rec (motive:=fun _=>A) (fun a0 a1 a2 a3 a4 a5 a6 a7 a8 a9 a10 a11 a12 a13 a14 a15=>f a6 fun x=>c (.mk a0 a1 a2 a3 a4 a5 x a7 a8 a9 a10 a11 a12 a13 a14 a15)) t⟩
 | 7=>⟨fun t f c=>N.rec (motive:=fun _=>A) (fun a0 a1 a2 a3 a4 a5 a6 a7 a8 a9 a10 a11 a12 a13 a14 a15=>f a7 fun x=>c (.mk a0 a1 a2 a3 a4 a5 a6 x a8 a9 a10 a11 a12 a13 a14 a15)) t⟩
 | 8=>⟨fun t f c=>N.rec (motive:=fun _=>A) (fun a0 a1 a2 a3 a4 a5 a6 a7 a8 a9 a10 a11 a12 a13 a14 a15=>f a8 fun x=>c (.mk a0 a1 a2 a3 a4 a5 a6 a7 x a9 a10 a11 a12 a13 a14 a15)) t⟩
 | 9=>⟨fun t f c=>N.rec (motive:=fun _=>A) (fun a0 a1 a2 a3 a4 a5 a6 a7 a8 a9 a10 a11 a12 a13 a14 a15=>f a9 fun x=>c (.mk a0 a1 a2 a3 a4 a5 a6 a7 a8 x a10 a11 a12 a13 a14 a15)) t⟩
 | 10=>⟨fun t f c=>N.rec (motive:=fun _=>A) (fun a0 a1 a2 a3 a4 a5 a6 a7 a8 a9 a10 a11 a12 a13 a14 a15=>f a10 fun x=>c (.mk a0 a1 a2 a3 a4 a5 a6 a7 a8 a9 x a11 a12 a13 a14 a15)) t⟩
 | 11=>⟨fun t f c=>N.rec (motive:=fun _=>A) (fun a0 a1 a2 a3 a4 a5 a6 a7 a8 a9 a10 a11 a12 a13 a14 a15=>f a11 fun x=>c (.mk a0 a1 a2 a3 a4 a5 a6 a7 a8 a9 a10 x a12 a13 a14 a15)) t⟩
 | 12=>⟨fun t f c=>N.rec (motive:=fun _=>A) (fun a0 a1 a2 a3 a4 a5 a6 a7 a8 a9 a10 a11 a12 a13 a14 a15=>f a12 fun x=>c (.mk a0 a1 a2 a3 a4 a5 a6 a7 a8 a9 a10 a11 x a13 a14 a15)) t⟩
 | 13=>⟨fun t f c=>N.rec (motive:=fun _=>A) (fun a0 a1 a2 a3 a4 a5 a6 a7 a8 a9 a10 a11 a12 a13 a14 a15=>f a13 fun x=>c (.mk a0 a1 a2 a3 a4 a5 a6 a7 a8 a9 a10 a11 a12 x a14 a15)) t⟩
 | 14=>⟨fun t f c=>N.rec (motive:=fun _=>A) (fun a0 a1 a2 a3 a4 a5 a6 a7 a8 a9 a10 a11 a12 a13 a14 a15=>f a14 fun x=>c (.mk a0 a1 a2 a3 a4 a5 a6 a7 a8 a9 a10 a11 a12 a13 x a15)) t⟩
 | 15=>⟨fun t f c=>N.rec (motive:=fun _=>A) (fun a0 a1 a2 a3 a4 a5 a6 a7 a8 a9 a10 a11 a12 a13 a14 a15=>f a15 fun x=>c (.mk a0 a1 a2 a3 a4 a5 a6 a7 a8 a9 a10 a11 a12 a13 a14 x)) t⟩
 | _=>⟨fun _ _ _=>.bad 0⟩
structure GeC where run:T→(V→A)→A
structure PuC where run:V→T→(T→A)→A
def geC (p:Nat):GeC:=match seC (α:=N V) (Nat.div p 16),seC (α:=V) (Nat.mod p 16) with | ⟨f⟩,⟨g⟩=>⟨fun t c=>f t fun u=>g u c⟩
def puC (p:Nat):PuC:=match moC (α:=N V) (Nat.div p 16),moC (α:=V) (Nat.mod p 16) with | ⟨f⟩,⟨g⟩=>⟨fun v t c=>f t (fun u k=>g u (fun _ k=>k v) k) c⟩
def qV (ns d:Nat):Bool:=Nat.beq (Nat.mod (Nat.shiftRight ns d) 2) 1
def yl (ns:Nat):Nat→Nat
 | 0=>0
 | n+1=>match Nat.beq (Nat.mod (Nat.shiftRight ns n) 2) 1 with | true=>yl ns n | false=>Nat.succ (yl ns n)
def qy (ns d:Nat):Nat:=match qV ns d,Nat.blt (yl ns d) 240 with | false,true=>yl ns d | _,_=>999
def zj1 (x:V):N V:=.mk x x x x x x x x x x x x x x x x
def zxb (x:N V):T:=.mk x x x x x x x x x x x x x x x x
def T.new:T:=zxb (zj1 .bad)
def idx (t:Nat):List Nat→Nat→Option Nat
 | [],_=>none
 | d::l,i=>match Nat.beq d (t+1) with | true=>some i | false=>idx t l (i+1)

structure NtC where run:List V→(V→A)→A
def ntC:Nat→NtC
 | 0=>⟨fun l c=>(List.rec (motive:=fun _=>A) eA (fun x _ _=>c x) l)⟩
 | n+1=>match ntC n with | ⟨f⟩=>⟨fun l c=>(List.rec (motive:=fun _=>A) eA (fun _ t _=>f t c) l)⟩
def opd (fi:FI) (ds:List Nat) (x:Operand):OdC:=match x with
 | .tmp t=>match idx t ds 0 with
  | some i=>(match ntC i with | ⟨f⟩=>⟨fun _ le c=>f le c⟩)
  | none=>(match geC (qy fi.ns t) with | ⟨f⟩=>⟨fun N _ c=>f N c⟩)
 | .const v=>match cv v with
  | .bad=>⟨fun _ _ _=>.bad 0⟩
  | v=>⟨fun _ _ c=>c v⟩
 | .global g=>(match Nat.blt g fi.ng with | true=>zCo 24 (g+1) fun k=>⟨fun _ _ c=>c (.ptr k 0 0)⟩ | false=>⟨fun _ _ _=>.bad 0⟩)
 | .func f=>fN f fun f=>⟨fun _ _ c=>c (.fn (.func f) [] [])⟩
def zc3 (fi:FI) (ds:List Nat) (l:List Operand):OdsC:=match l with
 | []=>⟨fun _ _ c=>c []⟩
 | x::l=>match opd fi ds x,zc3 fi ds l with
  | ⟨f⟩,⟨g⟩=>⟨fun N le c=>f N le fun v=>g N le fun l=>c (v::l)⟩

def qk (s:S) (a:K) (c:B→β):β:=(S.rec (motive:=fun _=>β) (fun h _=>h.getK B.none a c) s)
def wV (s:S) (a:K) (b:B) (c:S→β):β:=(S.rec (motive:=fun _=>β) (fun h nx=>h.setK B.none a b (fun h=>c ⟨h,nx⟩)) s)
def zBC (k:K) (c:K→β):β:=K.rec (motive:=fun _=>(K→β)→β) (fun c=>c (.o .h)) (fun p _ c=>c (.i p)) (fun _ X c=>X fun p=>c (.o p)) k c
def zcR (s:S) (b:B) (c:K→S→β):β:=(S.rec (motive:=fun _=>β) (fun h nx=>h.setK B.none nx b (fun h=>zBC nx fun A=>c nx ⟨h,A⟩)) s)
def jV (n:Nat) (D:Bool) (W v e:Nat):Bool:=(@Bool.rec (fun _=>Bool) (Nat.ble e n) ((@Bool.rec (fun _=>Bool) false ((@Bool.rec (fun _=>Bool) false (Nat.ble e v) (Nat.ble v n))) (Nat.ble W v))) D)
def zgI (n:Nat) (D:Bool) (v o e f1 f2:Nat):Bool :=
 (@Bool.rec (fun _=>Bool) false ((@Bool.rec (fun _=>Bool) (Nat.ble e f1) true (Nat.ble f2 o))) (((@Bool.rec (fun _=>Bool) (Nat.ble e n) ((@Bool.rec (fun _=>Bool) false (Nat.ble e n) (Nat.beq v n))) D))))
def zil (n:Nat):List V→(List V→A)→A :=
 Nat.rec (motive:=fun _=>List V→(List V→A)→A) (fun _ c=>c []) (fun _ X l c=>(List.rec (motive:=fun _=>A) (c []) (fun x t _=>(@V.rec mA mU eA (kC (X t (fun r=>c (x::r)))) (kC (X t (fun r=>c (x::r)))) (kB (X t (fun r=>c (x::r)))) (kB (X t (fun r=>c (x::r)))) (kD (X t (fun r=>c (x::r)))) (kF (X t (fun r=>c (x::r)))) (kF (X t (fun r=>c (x::r)))) (kB (X t (fun r=>c (x::r)))) (kC (X t (fun r=>c (x::r)))) (kD (X t (fun r=>c (x::r)))) (kF (X t (fun r=>c (x::r)))) (kD (X t (fun r=>c (x::r)))) () tE x)) l)) n
def zoi (x:V) (c:V→A):A:=(@V.rec mA mU eA (kC (c x)) (kC (c x)) (kB (c x)) (kB (c x)) (kD (c x)) (kF (c x)) (kF (c x)) (kB (c x)) (kC (c x)) (kD (c x)) (kF (c x)) (kD (c x)) () tE x)
def zM (s:S) (a:K) (v o m:Nat) (c:List V→A):A:=qk s a fun b=>(@B.rec mD eA (fun l n _ D W _ _=>(@Bool.rec (fun _=>A) eA (zem o l (fun l=>zil m l c)) (jV n D W v (Nat.add o m)))) eC eI eB eD b)
def zbb (s:S) (a:K) (v o:Nat) (c:V→A):A:=qk s a fun b=>(@B.rec mD eA (fun l n _ D W _ _=>(@Bool.rec (fun _=>A) eA (zB1 o l (fun x=>zoi x c)) (jV n D W v (Nat.succ o)))) eC eI eB eD b)
def qc (s:S) (a:K) (v o m:Nat) (xs:List V) (c:S→A):A:=qk s a fun b=>(@B.rec mD eA (fun l n el D W f1 f2=>(@Bool.rec (fun _=>A) eA (zJ xs o l (fun l=>wV s a (.row l n el D ((Bool.rec (motive:=fun _=>Nat) W n D)) f1 f2) c)) (zgI n D v o (Nat.add o m) f1 f2))) eC eI eB eD b)
def zg (sz:Nat) (v:V) (c:List V→A):A:=(@V.rec mA mU eA (kC ((@Bool.rec (fun _=>A) eA (c [v]) (Nat.beq sz 1)))) (kC ((@Bool.rec (fun _=>A) eA (c [v]) (Nat.beq sz 1)))) (kB ((@Bool.rec (fun _=>A) eA (c [v]) (Nat.beq sz 1)))) (kB ((@Bool.rec (fun _=>A) eA (c [v]) (Nat.beq sz 1)))) (kD ((@Bool.rec (fun _=>A) eA (c [v]) (Nat.beq sz 1)))) (kF ((@Bool.rec (fun _=>A) eA (c [v]) (Nat.beq sz 1)))) (kF ((@Bool.rec (fun _=>A) eA (c [v]) (Nat.beq sz 1)))) (kB ((@Bool.rec (fun _=>A) eA (c [v]) (Nat.beq sz 1)))) (kC ((@Bool.rec (fun _=>A) eA (c [v]) (Nat.beq sz 1)))) (fun t l _=>(@Bool.rec (fun _=>A) eA (zdv l (fun n=>(@Bool.rec (fun _=>A) eA (c l) (Nat.beq n sz)))) (Nat.beq t 0))) (kF ((@Bool.rec (fun _=>A) eA (c [v]) (Nat.beq sz 1)))) (kD ((@Bool.rec (fun _=>A) eA (c [v]) (Nat.beq sz 1)))) () tE v)
def cellsOf (v:V):List V:=match v with | .ls 0 l=>l | v=>[v]
def newRow (s:S) (el:Nat) (l:List V) (D:Bool) (c:K→Nat→S→A):A:=zdv l fun n=>zcR s (.row l n el D 0 0 0) fun a s=>c a n s

def zd (agg:Bool) (sz:Nat) (p:V) (s:S) (k:V→S→A):A:=(@V.rec mA mU eA eC eC eB eB (fun a v o=>(@Bool.rec (fun _=>A) (zbb s a v o (fun x=>k x s)) (zM s a v o sz (fun l=>k (.ls 0 l) s)) agg)) eF eF eB eC eD eF eD () tE p)
def zA (sz:Nat) (p x:V) (s:S) (k:V→S→A):A:=(@V.rec mA mU eA eC eC eB eB (fun a v o=>zg sz x (fun l=>qc s a v o sz l (fun s=>k undef s))) eF eF eB eC eD eF eD () tE p)

def zpF (op:BinOp) (a b:Nat) (c:V→A):A:=match op with
 | .eql=>fB (Nat.beq a b) c
 | .neq=>fB (zbj (Nat.beq a b)) c
 | .lss=>fB (Nat.blt a b) c
 | .leq=>fB (Nat.ble a b) c
 | .gtr=>fB (Nat.blt b a) c
 | .geq=>fB (Nat.ble b a) c
 | _=>.bad 0
def zup (op:BinOp) (lt:Bool) (c:V→A):A:=match op with
 | .eql=>c (.bool false)
 | .neq=>c (.bool true)
 | .lss=>fB lt c
 | .leq=>fB lt c
 | .gtr=>fB (zbj lt) c
 | .geq=>fB (zbj lt) c
 | _=>.bad 0
def zfi (op:BinOp) (k:IntKind) (x y:V) (c:V→A):A:=match op with
 | .add=>zdM k (Int.add (toI x) (toI y)) c
 | .sub=>zdM k (Int.sub (toI x) (toI y)) c
 | .mul=>zdM k (Int.mul (toI x) (toI y)) c
 | .quo=>zdM k (Int.tdiv (toI x) (toI y)) c
 | .rem=>ofI k (Int.tmod (toI x) (toI y)) c
 | .and=>zdM k (BitVec.ofInt k.bits (toI x) &&& BitVec.ofInt k.bits (toI y)).toNat c
 | _=>.bad 0
def zgj (op:BinOp) (k:IntKind) (a b:Nat) (c:V→A):A:=match op with
 | .add=>zdz k (Nat.add a b) c
 | .sub=>(@Bool.rec (fun _=>A) (zdM k (Int.sub (Int.ofNat a) (Int.ofNat b)) c) (zdz k (Nat.sub a b) c) (Nat.ble b a))
 | .mul=>zdz k (Nat.mul a b) c
 | .quo=>(@Bool.rec (fun _=>A) (zdz k (Nat.div a b) c) eA (Nat.beq b 0))
 | .rem=>(@Bool.rec (fun _=>A) (fN (Nat.mod a b) (fun n=>c (.nat k n))) eA (Nat.beq b 0))
 | .and=>zfi .and k (.nat k a) (.nat k b) c
 | op=>zpF op a b c
def isZ (z:Int):Bool:=match z with | .ofNat 0=>true | _=>false
def zhS (op:BinOp) (k:IntKind) (lt:Bool) (x y:V) (c:V→A):A:=match op with
 | .add=>zfi .add k x y c
 | .sub=>zfi .sub k x y c
 | .mul=>zfi .mul k x y c
 | .quo=>(@Bool.rec (fun _=>A) (zfi .quo k x y c) eA (isZ (toI y)))
 | .rem=>(@Bool.rec (fun _=>A) (zfi .rem k x y c) eA (isZ (toI y)))
 | .and=>zfi .and k x y c
 | op=>zup op lt c
def zt3 (op:BinOp) (k:IntKind) (a b:Nat) (c:V→A):A:=match op with
 | .add=>zfi .add k (.neg k a) (.neg k b) c
 | .sub=>zfi .sub k (.neg k a) (.neg k b) c
 | .mul=>zfi .mul k (.neg k a) (.neg k b) c
 | .quo=>zfi .quo k (.neg k a) (.neg k b) c
 | .rem=>zfi .rem k (.neg k a) (.neg k b) c
 | .and=>zfi .and k (.neg k a) (.neg k b) c
 | op=>zpF op b a c
def zxE (op:BinOp) (k:IntKind) (x:V) (b:Nat) (c:V→A):A:=match op with
 | .shl=>fN (min b k.bits) fun n=>zdM k (Int.mul (toI x) (Int.ofNat (Nat.pow 2 n))) c
 | .shr=>fN (min b k.bits) fun n=>ofI k ((toI x).fdiv (Int.ofNat (Nat.pow 2 n))) c
 | _=>.bad 0
def zna (op:BinOp) (a b:List Nat) (c:V→A):A:=match op with
 | .add=>zfX a b fun l=>zdv l fun n=>(@Bool.rec (fun _=>A) eA (c (.str l)) (Nat.ble n 9223372036854775807))
 | .eql=>fB (eqS a b) c
 | .neq=>fB (zbj (eqS a b)) c
 | _=>.bad 0
structure EK where
 k:Nat
 qs:List Nat
def eqP (q:Nat) (a b:V):Option Bool:=match q with
 | 0=>(@V.rec mO mU none jC jC (fun x=>(@V.rec mO mU none jC jC (fun y=>some ((@Bool.rec (fun _=>Bool) (zbj y) y x))) jB jD jF jF jB jC jD jF jD () tE b)) jB jD jF jF jB jC jD jF jD () tE a)
 | 7=>(@V.rec mO mU none (fun j x=>(@V.rec mO mU none (fun k y=>(@Bool.rec (fun _=>Option Bool) none (some (Nat.beq x y)) (qO j k))) (fun k _=>(@Bool.rec (fun _=>Option Bool) none (some false) (qO j k))) jB jB jD jF jF jB jC jD jF jD () tE b)) (fun j x=>(@V.rec mO mU none (fun k _=>(@Bool.rec (fun _=>Option Bool) none (some false) (qO j k))) (fun k y=>(@Bool.rec (fun _=>Option Bool) none (some (Nat.beq x y)) (qO j k))) jB jB jD jF jF jB jC jD jF jD () tE b)) jB jB jD jF jF jB jC jD jF jD () tE a)
 | 8=>(@V.rec mO mU none jC jC jB (fun x=>(@V.rec mO mU none jC jC jB (fun y=>some (eqS x y)) jD jF jF jB jC jD jF jD () tE b)) jD jF jF jB jC jD jF jD () tE a)
 | _=>none
def zn5:List Nat→List V→List V→Option Bool:=fun qs=>List.rec (motive:=fun _=>List V→List V→Option Bool) (fun a b=>(List.rec (motive:=fun _=>Option Bool) ((List.rec (motive:=fun _=>Option Bool) (some true) jD b)) jD a))
 (fun q _ X a b=>(List.rec (motive:=fun _=>Option Bool) none (fun x r _=>(List.rec (motive:=fun _=>Option Bool) none (fun y l _=>match eqP q x y with | some true=>X r l | some false=>some false | none=>none) b)) a)) qs
def zbG (t:Nat):List (Nat × List Nat)→Option (List Nat)
 | []=>none
 | (u,qs)::l=>match Nat.beq t u with | true=>some qs | false=>zbG t l
def PC.eqKind (pc:PC) (t:Nat):EK:=match pc.und t with
 | some .bool=>⟨0,[]⟩ | some (.int _)=>⟨7,[]⟩ | some .string=>⟨8,[]⟩
 | some (.pointer e)=>(match Nat.beq (pc.size e) 0 with | true=>⟨9,[]⟩ | false=>⟨1,[]⟩)
 | some (.slice _)=>⟨2,[]⟩
 | some (.interface _)=>⟨5,[]⟩
 | some (.struct _)=>(match zbG t pc.eqs with | some qs=>⟨6,qs⟩ | none=>⟨9,[]⟩)
 | _=>⟨9,[]⟩
def eqV (q:EK) (S:Bool) (a b:V):Option Bool:=match q.k with
 | 0=>eqP 0 a b
 | 7=>eqP 7 a b
 | 8=>eqP 8 a b
 | 1=>(@V.rec mO mU none jC jC jB jB (fun a v o=>(@V.rec mO mU none jC jC jB jB (fun b w p=>(@Bool.rec (fun _=>Option Bool) none (some (Nat.beq o p)) (zB (K.beq a b) (Nat.beq v w)))) jF jF (fun t=>(@Bool.rec (fun _=>Option Bool) none (some false) (Nat.beq t 0))) jC jD jF jD () tE b)) jF jF (fun t=>(@Bool.rec (fun _=>Option Bool) none ((@V.rec mO mU none jC jC jB jB (fun _ _ _=>some false) jF jF (fun u=>(@Bool.rec (fun _=>Option Bool) none (some true) (Nat.beq u 0))) jC jD jF jD () tE b)) (Nat.beq t 0))) jC jD jF jD () tE a)
 | 2=>(@V.rec mO mU none jC jC jB jB jD (fun _ _ _ _ _=>(@V.rec mO mU none jC jC jB jB jD jF jF (fun u=>(@Bool.rec (fun _=>Option Bool) none (some false) (Nat.beq u 1))) jC jD jF jD () tE b)) (fun _ _ _ _ _=>(@V.rec mO mU none jC jC jB jB jD jF jF (fun u=>(@Bool.rec (fun _=>Option Bool) none (some false) (Nat.beq u 1))) jC jD jF jD () tE b)) (fun t=>(@Bool.rec (fun _=>Option Bool) none ((@V.rec mO mU none jC jC jB jB jD (fun _ _ _ _ _=>some false) (fun _ _ _ _ _=>some false) (fun u=>(@Bool.rec (fun _=>Option Bool) none (some true) (Nat.beq u 1))) (fun u _=>(@Bool.rec (fun _=>Option Bool) none (some false) (Nat.beq u 1))) jD jF jD () tE b)) (Nat.beq t 1))) (fun t _=>(@Bool.rec (fun _=>Option Bool) none ((@V.rec mO mU none jC jC jB jB jD jF jF (fun u=>(@Bool.rec (fun _=>Option Bool) none (some false) (Nat.beq u 1))) jC jD jF jD () tE b)) (Nat.beq t 1))) jD jF jD () tE a)
 | 5=>(@V.rec mO mU none jC jC jB jB jD jF jF (fun t=>(@Bool.rec (fun _=>Option Bool) none ((@V.rec mO mU none jC jC jB jB jD jF jF (fun u=>(@Bool.rec (fun _=>Option Bool) none (some true) (zB S (Nat.beq u 4)))) jC jD jF (fun _ _ _=>some false) () tE b)) (Nat.beq t 4))) jC jD jF (fun _ _ _=>(@V.rec mO mU none jC jC jB jB jD jF jF (fun u=>(@Bool.rec (fun _=>Option Bool) none (some false) (Nat.beq u 4))) jC jD jF jD () tE b)) () tE a)
 | 6=>(@V.rec mO mU none jC jC jB jB jD jF jF jB jC (fun t x _=>(@V.rec mO mU none jC jC jB jB jD jF jF jB jC (fun u y _=>(@Bool.rec (fun _=>Option Bool) none (zn5 q.qs x y) (zB (Nat.beq t 0) (Nat.beq u 0)))) jF jD () tE b)) jF jD () tE a)
 | _=>none
def zfm (q:EK) (S neg:Bool) (a b:V) (c:V→A):A:=match eqV q S a b with | some r=>fB ((@Bool.rec (fun _=>Bool) r (zbj r) neg)) c | none=>.bad 0
def fK (q:EK) (c:EK→β):β:=match q with | ⟨k,qs⟩=>fN k fun k=>c ⟨k,qs⟩
def zg6 (q:EK) (S:Bool) (op:BinOp) (x y:V) (c:V→A):A:=match op with | .eql=>zfm q S false x y c | .neq=>zfm q S true x y c | _=>.bad 0
def zw (q:EK) (S:Bool) (op:BinOp) (x y:V) (c:V→A):A:=(@V.rec mA mU (zg6 q S op x y c) (fun k a=>(@V.rec mA mU eA (fun H b=>(@Bool.rec (fun _=>A) eA (zgj op k a b c) (qO k H))) (fun H _=>(@Bool.rec (fun _=>A) eA (zhS op k false x y c) (qO k H))) eB eB eD eF eF eB eC eD eF eD () tE y)) (fun k a=>(@V.rec mA mU eA (fun H _=>(@Bool.rec (fun _=>A) eA (zhS op k true x y c) (qO k H))) (fun H b=>(@Bool.rec (fun _=>A) eA (zt3 op k a b c) (qO k H))) eB eB eD eF eF eB eC eD eF eD () tE y)) (fun _=>zg6 q S op x y c) (fun a=>(@V.rec mA mU eA eC eC eB (fun b=>zna op a b c) eD eF eF eB eC eD eF eD () tE y)) (fun _ _ _=>zg6 q S op x y c) (fun _ _ _ _ _=>zg6 q S op x y c) (fun _ _ _ _ _=>zg6 q S op x y c) (fun _=>zg6 q S op x y c) (fun _ _=>zg6 q S op x y c) (fun _ _ _=>zg6 q S op x y c) (fun _ _ _ _ _=>zg6 q S op x y c) (fun _ _ _=>zg6 q S op x y c) () tE x)
def zvg (b:B):Bool:=@B.rec mE false (fun _ n _ _ _ f1 f2=>match Nat.beq n 0 with | true=>false | false=>Nat.beq f1 0 && Nat.beq f2 0) qC qI qB qD b
def zdc (q:EK) (neg:Bool) (x y:V) (s:S) (c:V→A):A:=match x,y with
 | .ptr a v o,.ptr b w p=>(match K.beq a b with
  | true=>zw q false (match neg with | true=>.neq | false=>.eql) (.ptr a v o) (.ptr b w p) c
  | false=>qk s a fun C=>qk s b fun B=>(match zvg C && zvg B with
   | true=>c (.bool neg)
   | false=>.bad 0))
 | x,y=>zw q false (match neg with | true=>.neq | false=>.eql) x y c
def wb (op:BinOp) (x y:V) (c:V→A):A:=(@V.rec mA mU eA (fun _ b=>(@V.rec mA mU eA (fun k _=>zxE op k x b c) (fun k _=>zxE op k x b c) eB eB eD eF eF eB eC eD eF eD () tE x)) eC eB eB eD eF eF eB eC eD eF eD () tE y)
def xUn (op:UnOp) (x:V) (c:V→A):A:=match op with
 | .not=>(@V.rec mA mU eA eC eC (fun b=>fB (zbj b) c) eB eD eF eF eB eC eD eF eD () tE x)
 | _=>.bad 0

def ze (sz:Nat) (x U:V) (c:V→A):A:=(@V.rec mA mU eA (fun _ i=>(@V.rec mA mU eA eC eC eB eB eD (fun a v o len _=>(@Bool.rec (fun _=>A) eA (fN (Nat.add o (Nat.mul i sz)) (fun o=>c (.ptr a v o))) (Nat.blt i len))) (fun a v o len _=>(@Bool.rec (fun _=>A) eA (fN (Nat.add o (Nat.mul i sz)) (fun o=>c (.ptr a v o))) (Nat.blt i len))) eB eC eD eF eD () tE x)) eC eB eB eD eF eF eB eC eD eF eD () tE U)
def zcw (n sz:Nat) (x U:V) (c:V→A):A:=(@V.rec mA mU eA (fun _ i=>(@V.rec mA mU eA eC eC eB eB (fun a v o=>(@Bool.rec (fun _=>A) eA (fN (Nat.add o (Nat.mul i sz)) (fun o=>c (.ptr a v o))) (Nat.blt i n))) eF eF eB eC eD eF eD () tE x)) eC eB eB eD eF eF eB eC eD eF eD () tE U)

def qw (x:Option V) (d:Nat) (c:Nat→A):A:=(Option.rec (motive:=fun _=>A) (c d) (fun v=>(@V.rec mA mU eA (fun _ n=>c n) eC eB eB eD eF eF eB eC eD eF eD () tE v)) x)
def qa (x:V) (lo hi:Option V) (c:V→A):A:=(@V.rec mA mU eA eC eC eB (fun l=>zdv l (fun n=>qw lo 0 fun a=>qw hi n fun b=>(@Bool.rec (fun _=>A) eA (zem a l (fun l=>zqv (Nat.sub b a) l fun l=>c (.str l))) (zB (Nat.ble a b) (Nat.ble b n))))) eD eF eF eB eC eD eF eD () tE x)
def jm (sz:Nat) (a:K) (v o len cap:Nat) (lo hi F:Option V) (c:V→A):A :=
 qw lo 0 (fun l=>qw hi len fun h=>qw F cap fun m =>
   (@Bool.rec (fun _=>A) eA (fN (Nat.sub h l) (fun Q=>fN (Nat.sub m l) fun C=>fN ((Bool.rec (motive:=fun _=>Nat) (Nat.add o (Nat.mul l sz)) o (Nat.beq m l))) fun i=>c (.sl a v i Q C))) (zB (Nat.ble l h) (zB (Nat.ble h m) (Nat.ble m cap)))))
def qu (el sz:Nat) (x:V) (lo hi F:Option V) (s:S) (c:V→A):A:=(@V.rec mA mU eA eC eC eB eB eD (fun a v o len cap=>jm sz a v o len cap lo hi F c) (fun a v o len e=>qk s a (fun b=>(@B.rec mD eA (fun _ n O D _ _ _=>(@Bool.rec (fun _=>A) eA (fN ((Bool.rec (motive:=fun _=>Nat) len (Nat.div (Nat.sub n o) sz) (zB D (Nat.beq v n)))) (fun sure=>qw lo 0 fun l=>qw hi len fun h=>(Option.rec (motive:=fun _=>A) ((@Bool.rec (fun _=>A) eA ((@Bool.rec (fun _=>A) (fN (Nat.sub h l) (fun Q=>fN (Nat.add e l) fun f=>fN (Nat.add o (Nat.mul l sz)) fun i=>c (.so a v i Q f))) ((@Bool.rec (fun _=>A) (c (.ref 1 a)) (c (.so a v o 0 e)) (Nat.beq l 0))) (Nat.beq l h))) (zB (Nat.ble l h) (Nat.ble h sure)))) (fun _=>qw F 0 (fun m=>(@Bool.rec (fun _=>A) eA (fN (Nat.sub h l) (fun Q=>fN (Nat.sub m l) fun C=>fN ((Bool.rec (motive:=fun _=>Nat) (Nat.add o (Nat.mul l sz)) o (Nat.beq m l))) fun i=>c (.sl a v i Q C))) (zB (Nat.ble l h) (zB (Nat.ble h m) (Nat.ble m sure)))))) F))) (Nat.beq el O))) eC eI eB eD b))) (fun t=>qw lo 0 (fun a=>qw hi 0 fun b=>qw F 0 fun m=>(@Bool.rec (fun _=>A) eA (c (.nil 1)) (zB (Nat.beq t 1) (zB (Nat.beq a 0) (zB (Nat.beq b 0) (Nat.beq m 0))))))) (fun t a=>qw lo 0 (fun l=>qw hi 0 fun h=>(Option.rec (motive:=fun _=>A) ((@Bool.rec (fun _=>A) eA (c (.ref 1 a)) (zB (Nat.beq t 1) (zB (Nat.beq l 0) (Nat.beq h 0))))) eB F))) eD eF eD () tE x)

def zjK (l:List Nat) (c:List V→β):β:=List.rec (motive:=fun _=>(List V→β)→β) (fun c=>c []) (fun x _ X c=>X fun l=>c (.nat .u8 x::l)) l c
def qA (sz:Nat) (x:V) (s:S) (c:Nat→List V→A):A:=(@V.rec mA mU eA eC eC eB (fun l=>(@Bool.rec (fun _=>A) eA (zjK l (fun Z=>zdv l fun n=>c n Z)) (Nat.beq sz 1))) eD (fun a v o len _=>zM s a v o (Nat.mul len sz) (fun l=>c len l)) (fun a v o len _=>zM s a v o (Nat.mul len sz) (fun l=>c len l)) (fun t=>(@Bool.rec (fun _=>A) eA (c 0 []) (Nat.beq t 1))) (fun t _=>(@Bool.rec (fun _=>A) eA (c 0 []) (Nat.beq t 1))) eD eF eD () tE x)
def wj (s:S) (el:Nat) (l:List V) (G:Nat) (k:V→S→A):A:=(@Bool.rec (fun _=>A) eA (newRow s el l true (fun a n s=>k (.so a n 0 G 0) s)) (Nat.ble G 68719476736))
def zbP (el sz:Nat) (x:V) (n:Nat) (new:List V) (s:S) (k:V→S→A):A:=(@Bool.rec (fun _=>A) ((@V.rec mA mU eA eC eC eB eB eD (fun a v o len cap=>fN (Nat.add len n) (fun G=>(@Bool.rec (fun _=>A) (zM s a v o (Nat.mul len sz) (fun old=>zfX old new fun l=>wj s el l G k)) (qc s a v (Nat.add o (Nat.mul len sz)) (Nat.mul n sz) new (fun s=>k (.sl a v o G cap) s)) (Nat.ble G cap)))) (fun a v o len e=>fN (Nat.add len n) (fun G=>qk s a fun b=>(@B.rec mD eA (fun l m O D W f1 f2=>fN (Nat.add o (Nat.mul len sz)) (fun p=>(@Bool.rec (fun _=>A) eA ((@Bool.rec (fun _=>A) ((@Bool.rec (fun _=>A) (zM s a v o (Nat.mul len sz) (fun old=>zfX old new fun l=>wV s a .none fun s=>wj s el l G k)) ((@Bool.rec (fun _=>A) eA (zfX l new (fun l=>fN (Nat.add m (Nat.mul n sz)) fun C=>wV s a (.row l C O D W f1 f2) fun s=>k (.so a C 0 G 0) s)) (Nat.ble G 68719476736))) (zB (Nat.beq v m) (zB (Nat.beq p m) (zB (Nat.beq o 0) (Nat.beq e 0)))))) (qc s a v p (Nat.mul n sz) new (fun s=>k (.so a v o G e) s)) (zB (Nat.beq v m) (Nat.ble (Nat.add p (Nat.mul n sz)) m)))) (zB D (zB (Nat.beq el O) (zB (Nat.beq f1 0) (Nat.beq f2 0))))))) eC eI eB eD b))) (fun t=>(@Bool.rec (fun _=>A) eA (wj s el new n k) (Nat.beq t 1))) (fun t a=>(@Bool.rec (fun _=>A) eA (qk s a (fun b=>(@B.rec mD eA (fun _ _ O D _ f1 f2=>(@Bool.rec (fun _=>A) eA (wV s a .none (fun s=>wj s el new n k)) (zB D (zB (Nat.beq el O) (zB (Nat.beq f1 0) (Nat.beq f2 0)))))) eC eI eB eD b))) (Nat.beq t 1))) eD eF eD () tE x)) ((@V.rec mA mU eA eC eC eB eB eD (fun _ _ _ _ _=>k x s) (fun _ _ _ _ _=>k x s) (fun t=>(@Bool.rec (fun _=>A) eA (k x s) (Nat.beq t 1))) (fun t _=>(@Bool.rec (fun _=>A) eA (k x s) (Nat.beq t 1))) eD eF eD () tE x)) (Nat.beq n 0))
def zN (el sz:Nat) (x y:V) (s:S) (k:V→S→A):A:=qA sz y s fun n new=>zbP el sz x n new s k
def zjr (el sz:Nat) (zc:List V) (x y:V) (s:S) (k:V→S→A):A:=(@V.rec mA mU eA (fun _ n=>(@Bool.rec (fun _=>A) eA (zav zc n (fun new=>zbP el sz x n new s k)) (Nat.ble n 68719476736))) eC eB eB eD eF eF eB eC eD eF eD () tE y)
def zkO (sz:Nat) (a:K) (v o len:Nat) (y:V) (s:S) (k:V→S→A):A :=
 qA sz y s fun n new=>fN (Nat.min n len) fun m=>(@Bool.rec (fun _=>A) (zqv (Nat.mul m sz) new (fun new=>qc s a v o (Nat.mul m sz) new fun s=>k (.nat .i64 m) s)) (k (.nat .i64 0) s) (Nat.beq m 0))
def ztH (sz:Nat) (x y:V) (s:S) (k:V→S→A):A:=
 (@V.rec mA mU eA eC eC eB eB eD (fun a v o len _=>zkO sz a v o len y s k) (fun a v o len _=>zkO sz a v o len y s k) eB (fun t _=>(@Bool.rec (fun _=>A) eA (qA sz y s fun _ _=>k (.nat .i64 0) s) (Nat.beq t 1))) eD eF eD () tE x)
def zm (x:V) (c:V→A):A:=(@V.rec mA mU eA eC eC eB eB eD (fun _ _ _ len _=>c (.nat .i64 len)) (fun _ _ _ len _=>c (.nat .i64 len)) (fun t=>(@Bool.rec (fun _=>A) eA (c (.nat .i64 0)) (Nat.beq t 1))) (fun t _=>(@Bool.rec (fun _=>A) eA (c (.nat .i64 0)) (Nat.beq t 1))) eD eF eD () tE x)
def zwt (x:V) (s:S) (c:V→A):A:=(@V.rec mA mU eA eC eC eB eB eD eF eF (fun t=>(@Bool.rec (fun _=>A) eA (c (.nat .i64 0)) (Nat.beq t 2))) (fun t a=>(@Bool.rec (fun _=>A) eA (qk s a (fun b=>(@B.rec mD eA eH (fun es _=>zdv es (fun n=>c (.nat .i64 n))) eI eB eD b))) (Nat.beq t 0))) eD eF eD () tE x)
def qt (x:V) (c:V→A):A:=(@V.rec mA mU eA eC eC eB (fun l=>zdv l (fun n=>c (.nat .i64 n))) eD eF eF eB eC eD eF eD () tE x)
def zDO (x:V) (c:V→A):A:=(@V.rec mA mU eA eC eC eB eB eD (fun _ _ _ _ cap=>c (.nat .i64 cap)) eF (fun t=>(@Bool.rec (fun _=>A) eA (c (.nat .i64 0)) (Nat.beq t 1))) eC eD eF eD () tE x)
def zpk (q:EK) (key:V) (l:List ME):(Option V→A)→A:=List.rec (motive:=fun _=>(Option V→A)→A) (fun c=>c none)
 (fun e _ X c=>match eqV q false key e.key with | some true=>c (some e.val) | some false=>X c | none=>.bad 0) l
def zyN (q:EK) (key val:V) (R:Nat) (l:List ME):(Bool→List ME→A)→A:=List.rec (motive:=fun _=>(Bool→List ME→A)→A) (fun c=>c true [⟨key,val,R⟩])
 (fun e l X c=>match eqV q false key e.key with | some true=>c false (⟨key,val,e.born⟩::l) | some false=>X fun b l=>c b (e::l) | none=>.bad 0) l
def zxy (zero:V) (ok:Bool) (r:Option V) (c:V→A):A:=(Option.rec (motive:=fun _=>A) ((@Bool.rec (fun _=>A) (c zero) (c (.ls 1 [zero,.bool false])) ok)) (fun v=>(@Bool.rec (fun _=>A) (c v) (c (.ls 1 [v,.bool true])) ok)) r)
def zan (q:EK) (key:V) (c:A):A:=match q.k with
 | 6=>(@V.rec mA mU eA eC eC eB eB eD eF eF eB eC (fun t l _=>(@Bool.rec (fun _=>A) eA (zdv l (fun n=>zdv q.qs fun m=>(@Bool.rec (fun _=>A) eA c (Nat.beq n m)))) (Nat.beq t 0))) eF eD () tE key)
 | _=>c
def zb3 (q:EK):Bool:=Nat.beq q.k 0 || Nat.beq q.k 6 || Nat.beq q.k 7 || Nat.beq q.k 8
def ziT (q:EK) (zero:V) (ok:Bool) (x U:V) (s:S) (c:V→A):A:=zan q U ((@V.rec mA mU eA eC eC eB eB eD eF eF (fun t=>(@Bool.rec (fun _=>A) eA (zxy zero ok none c) (Nat.beq t 2))) (fun t a=>(@Bool.rec (fun _=>A) eA (qk s a (fun b=>(@B.rec mD eA eH (fun es _=>zpk q U es (fun r=>zxy zero ok r c)) eI eB eD b))) (Nat.beq t 0))) eD eF eD () tE x))
def zgF (q:EK) (m key val:V) (s:S) (k:V→S→A):A:=zan q key ((@V.rec mA mU eA eC eC eB eB eD eF eF eB (fun t a=>(@Bool.rec (fun _=>A) eA (qk s a (fun b=>(@B.rec mD eA eH (fun es R=>zyN q key val R es (fun new es=>fN ((Bool.rec (motive:=fun _=>Nat) R (Nat.succ R) new)) fun R=>wV s a (.map es R) fun s=>k undef s)) eI eB eD b))) (Nat.beq t 0))) eD eF eD () tE m))
def zvU (o:Nat):List V→(V→β)→β→β :=
 Nat.rec (motive:=fun _=>List V→(V→β)→β→β) (fun l c d=>(List.rec (motive:=fun _=>β) d (fun x _ _=>c x) l)) (fun _ X l c d=>(List.rec (motive:=fun _=>β) d (fun _ t _=>X t c d) l)) o
def zz (i:Nat) (x:V) (c:V→A):A:=(@V.rec mA mU eA eC eC eB eB eD eF eF eB eC (fun t l _=>(@Bool.rec (fun _=>A) eA (zvU i l c eA) (Nat.beq t 1))) eF eD () tE x)
def zkD (agg:Bool) (off sz:Nat) (x:V) (c:V→A):A:=(@V.rec mA mU eA eC eC eB eB eD eF eF eB eC (fun t l _=>(@Bool.rec (fun _=>A) eA ((@Bool.rec (fun _=>A) (zvU off l c eA) (zem off l (fun l=>zqv sz l fun l=>c (.ls 0 l))) agg)) (Nat.beq t 0))) eF eD () tE x)
def zi9 (n:Nat) (agg:Bool) (sz:Nat) (x U:V) (c:V→A):A:=(@V.rec mA mU eA (fun _ i=>(@Bool.rec (fun _=>A) eA (zkD agg (Nat.mul i sz) sz x c) (Nat.blt i n))) eC eB eB eD eF eF eB eC eD eF eD () tE U)
def zoT (o:Nat):List Nat→(Nat→β)→β→β :=
 Nat.rec (motive:=fun _=>List Nat→(Nat→β)→β→β) (fun l c d=>(List.rec (motive:=fun _=>β) d (fun x _ _=>c x) l)) (fun _ X l c d=>(List.rec (motive:=fun _=>β) d (fun _ t _=>X t c d) l)) o
def zD (x U:V) (c:V→A):A:=(@V.rec mA mU eA (fun _ i=>(@V.rec mA mU eA eC eC eB (fun l=>zoT i l (fun b=>c (.nat .u8 b)) eA) eD eF eF eB eC eD eF eD () tE x)) eC eB eB eD eF eF eB eC eD eF eD () tE U)
def yH (el w:Nat) (zc:List V) (l z:V) (s:S) (k:V→S→A):A:=(@V.rec mA mU eA (fun _ l=>(@V.rec mA mU eA (fun _ c=>(@Bool.rec (fun _=>A) eA (zav zc c (fun Z=>newRow s el Z false fun a _ s=>k (.sl a 0 0 l c) s)) (zB (Nat.ble l c) (zB (Nat.ble c 281474976710656) (Nat.ble (Nat.mul w c) 281474976710656))))) eC eB eB eD eF eF eB eC eD eF eD () tE z)) eC eB eB eD eF eF eB eC eD eF eD () tE l)
def zW (k:IntKind) (x:V) (c:V→A):A:=(@V.rec mA mU eA (fun _ n=>zdz k n c) (fun _ _=>zdM k (toI x) c) eB eB eD eF eF eB eC eD eF eD () tE x)
def jW (l:List V):(List Nat→A)→A:=List.rec (motive:=fun _=>(List Nat→A)→A) (fun c=>c [])
 (fun x _ X c=>(@V.rec mA mU eA (fun k n=>(@Bool.rec (fun _=>A) eA (X (fun l=>c (n::l))) (zB (qO k .u8) (Nat.blt n 256)))) eC eB eB eD eF eF eB eC eD eF eD () tE x)) l
def jJ (x:V) (s:S) (c:V→A):A:=(@V.rec mA mU eA eC eC eB eB eD (fun a v o len _=>zM s a v o len (fun l=>jW l fun b=>c (.str b))) (fun a v o len _=>zM s a v o len (fun l=>jW l fun b=>c (.str b))) (fun t=>(@Bool.rec (fun _=>A) eA (c (.str [])) (Nat.beq t 1))) (fun t _=>(@Bool.rec (fun _=>A) eA (c (.str [])) (Nat.beq t 1))) eD eF eD () tE x)
def zrn (op lt:Bool) (x y:V) (c:V→A):A:=(@Bool.rec (fun _=>A) (c ((Bool.rec (motive:=fun _=>V) y x op))) (c ((Bool.rec (motive:=fun _=>V) x y op))) lt)
def min2 (op:Bool) (x y:V) (c:V→A):A:=(@V.rec mA mU eA (fun j a=>(@V.rec mA mU eA (fun k b=>(@Bool.rec (fun _=>A) eA (zrn op (Nat.blt b a) x y c) (qO j k))) (fun k _=>(@Bool.rec (fun _=>A) eA (zrn op true x y c) (qO j k))) eB eB eD eF eF eB eC eD eF eD () tE y)) (fun j a=>(@V.rec mA mU eA (fun k _=>(@Bool.rec (fun _=>A) eA (zrn op false x y c) (qO j k))) (fun k b=>(@Bool.rec (fun _=>A) eA (zrn op (Nat.blt a b) x y c) (qO j k))) eB eB eD eF eF eB eC eD eF eD () tE y)) eB eB eD eF eF eB eC eD eF eD () tE x)
def yV (op:Bool) (l:List V):V→(V→A)→A:=List.rec (motive:=fun _=>V→(V→A)→A) (fun x c=>c x) (fun y _ X x c=>min2 op x y fun z=>X z c) l
def PC.sz (pc:PC) (t:Nat) (d:β) (k:Nat→β):β:=match pc.info t with | some i=>fN i.size k | none=>d
def PC.by (pc:PC) (t:Nat) (d:β) (k:Nat→β):β:=match pc.info t with | some i=>fN i.bytes k | none=>d
def PC.ag (pc:PC) (t:Nat) (d:β) (k:Bool→β):β:=match pc.und t with | some (.struct _)=>k true | some (.array _ _)=>k true | some _=>k false | none=>d
def PC.zc (pc:PC) (t:Nat) (d:β) (k:List V→β):β:=match pc.zero t with | .bad=>d | .ls 0 l=>k l | .ls _ _=>d | v=>k [v]
def chk (b:Bool) (d:β) (k:β):β:=match b with | true=>k | false=>d
def zk5 (l:List V):Nat:=zdv l id

def jL (x:V) (c:V→A):A:=(@V.rec mA mU eA eC eC eB eB eD (fun a v o _ cap=>(@Bool.rec (fun _=>A) (c (.ptr a v o)) eA (Nat.beq cap 0))) (fun a v o len _=>(@Bool.rec (fun _=>A) (c (.ptr a v o)) eA (Nat.beq len 0))) (fun t=>(@Bool.rec (fun _=>A) eA (c (.nil 0)) (Nat.beq t 1))) eC eD eF eD () tE x)
def zod (f1 f2 o n:Nat) (c:Nat→Nat→A):A:=(@Bool.rec (fun _=>A) (fN (Nat.min f1 o) (fun R=>fN (Nat.max f2 (Nat.add o n)) fun U=>c R U)) (fN (Nat.add o n) (fun e=>c o e)) (Nat.beq f1 f2))
def zqW (e:Nat) (x y:V) (s:S) (k:V→S→A):A:=(@V.rec mA mU eA (fun _ n=>(@Bool.rec (fun _=>A) eA ((@V.rec mA mU eA eC eC eB eB (fun a v o=>(@Bool.rec (fun _=>A) (qk s a (fun b=>(@B.rec mD eA (fun l m el D W f1 f2=>(@Bool.rec (fun _=>A) eA (zM s a v o n (fun Z=>jW Z fun b=>zod f1 f2 o n (fun R U=>wV s a (.row l m el D W R U) fun s=>k (.str b) s))) (zB D (Nat.beq el e)))) eC eI eB eD b))) (k (.str []) s) (Nat.beq n 0))) eF eF (fun t=>(@Bool.rec (fun _=>A) eA (k (.str []) s) (zB (Nat.beq t 0) (Nat.beq n 0)))) eC eD eF eD () tE x)) (Nat.ble n 9223372036854775807))) eC eB eB eD eF eF eB eC eD eF eD () tE y)
structure BuC where run:List V→S→(V→S→A)→A
def zqT (l:List V) (c:V→A):A:=(List.rec (motive:=fun _=>A) eA (fun x _ _=>c x) l)
def zq3 (l:List V) (c:V→V→A):A:=(List.rec (motive:=fun _=>A) eA (fun x t _=>(List.rec (motive:=fun _=>A) eA (fun y _ _=>c x y) t)) l)
def zmN (l:List V) (c:V→A):A:=(List.rec (motive:=fun _=>A) eA (fun x t _=>(List.rec (motive:=fun _=>A) (c x) eD t)) l)
def zlC (l:List V) (c:V→V→A):A:=(List.rec (motive:=fun _=>A) eA (fun x t _=>(List.rec (motive:=fun _=>A) eA (fun y u _=>(List.rec (motive:=fun _=>A) (c x y) eD u)) t)) l)
def wX (m:Nat):BuC:=⟨fun _ _ _=>.bad m⟩
def apZ (pc:PC) (ts:List TypeId):Option Bool:=match ts with | []=>none | u::_=>(match pc.und u with | some (.int _)=>some true | some _=>some false | none=>none)
def buC (pc:PC) (b:Builtin) (argTypes:List TypeId):BuC :=
 match b,argTypes with
 | .append,t::ts=>(match pc.und t with
  | some (.slice el)=>pc.sz el (wX 0) fun sz=>pc.by el (wX 0) fun w=>pc.zc el (wX 0) fun zc=>chk (Nat.beq (zk5 zc) sz && (Nat.ble w 1024 && !(Nat.beq sz 0))) (wX 0) (fN el fun el =>
   match apZ pc ts with
   | some true=>⟨fun H s k=>zq3 H fun x y=>zjr el sz zc x y s k⟩
   | some false=>⟨fun H s k=>zq3 H fun x y=>zN el sz x y s k⟩
   | none=>wX 0)
  | _=>wX 0)
 | .copy,t::_=>(match pc.und t with
  | some (.slice el)=>pc.sz el (wX 0) fun sz=>⟨fun H s k=>zq3 H fun x y=>ztH sz x y s k⟩
  | _=>wX 0)
 | .len,t::_=>(match pc.und t with
  | some (.slice _)=>⟨fun H s k=>zqT H fun x=>zm x fun v=>k v s⟩
  | some .string=>⟨fun H s k=>zqT H fun x=>qt x fun v=>k v s⟩
  | some (.map _ _)=>⟨fun H s k=>zqT H fun x=>zwt x s fun v=>k v s⟩
  | some (.array n _)=>fN n fun n=>⟨fun H s k=>zqT H fun _=>k (.nat .i64 n) s⟩
  | some (.pointer u)=>(match pc.und u with | some (.array n _)=>fN n fun n=>⟨fun H s k=>zqT H fun _=>k (.nat .i64 n) s⟩ | _=>wX 0)
  | _=>wX 0)
 | .cap,t::_=>(match pc.und t with
  | some (.slice _)=>⟨fun H s k=>zqT H fun x=>zDO x fun v=>k v s⟩
  | _=>wX 0)
 | .max,_=>⟨fun H s k=>(List.rec (motive:=fun _=>A) eA (fun x l _=>yV false l x (fun v=>k v s)) H)⟩
 | .min,_=>⟨fun H s k=>(List.rec (motive:=fun _=>A) eA (fun x l _=>yV true l x (fun v=>k v s)) H)⟩
 | .unsafeSliceData,_=>⟨fun H s k=>zmN H fun x=>jL x fun v=>k v s⟩
 | .unsafeString,t::_=>(match pc.und t with
  | some (.pointer e)=>pc.sz e (wX 0) fun sz=>chk (Nat.beq sz 1) (wX 0) (fN e fun e=>⟨fun H s k=>zlC H fun x y=>zqW e x y s k⟩)
  | _=>wX 0)
 | _,_=>wX 0

def yf (x:V) (c:V→A):A:=(@V.rec mA mU eA (kC (c x)) (kC (c x)) (kB (c x)) (kB (c x)) (kD (c x)) (kF (c x)) (kF (c x)) eB (fun t _=>(@Bool.rec (fun _=>A) (c x) eA (Nat.beq t 3))) (kD (c x)) (fun f _ _ _ _=>(match f with | .func _=>c x | _=>.bad 0)) (kD (c x)) () tE x)

def zdA (r:R) (f:Nat) (args:List V) (s:S) (k:V→S→A):A:=zq (r.call f args s) k
def yT:V→V→Bool:=fun a=>V.rec (motive_1:=fun _=>V→Bool) (motive_2:=fun _=>List V→Bool)
 qB (fun k n b=>(@V.rec mP mU false (fun j m=>zB (qO k j) (Nat.beq n m)) qC qB qB qD qF qF qB qC qD qF qD () tE b)) (fun k n b=>(@V.rec mP mU false qC (fun j m=>zB (qO k j) (Nat.beq n m)) qB qB qD qF qF qB qC qD qF qD () tE b))
 (fun x b=>(@V.rec mP mU false qC qC (fun y=>(@Bool.rec (fun _=>Bool) (zbj y) y x)) qB qD qF qF qB qC qD qF qD () tE b)) (fun x b=>(@V.rec mP mU false qC qC qB (fun y=>eqS x y) qD qF qF qB qC qD qF qD () tE b))
 (fun a v o b=>(@V.rec mP mU false qC qC qB qB (fun r F i=>zB (K.beq a r) (zB (Nat.beq v F) (Nat.beq o i))) qF qF qB qC qD qF qD () tE b))
 (fun a v o l c b=>(@V.rec mP mU false qC qC qB qB qD (fun r F i Z z=>zB (K.beq a r) (zB (Nat.beq v F) (zB (Nat.beq o i) (zB (Nat.beq l Z) (Nat.beq c z))))) qF qB qC qD qF qD () tE b))
 (fun a v o l c b=>(@V.rec mP mU false qC qC qB qB qD qF (fun r F i Z z=>zB (K.beq a r) (zB (Nat.beq v F) (zB (Nat.beq o i) (zB (Nat.beq l Z) (Nat.beq c z))))) qB qC qD qF qD () tE b))
 (fun t b=>(@V.rec mP mU false qC qC qB qB qD qF qF (fun u=>Nat.beq t u) qC qD qF qD () tE b)) (fun t a b=>(@V.rec mP mU false qC qC qB qB qD qF qF qB (fun u c=>zB (Nat.beq t u) (K.beq a c)) qD qF qD () tE b))
 (fun t _ X b=>(@V.rec mP mU false qC qC qB qB qD qF qF qB qC (fun u m _=>zB (Nat.beq t u) (X m)) qF qD () tE b)) (fun f _ _ C D b=>(@V.rec mP mU false qC qC qB qB qD qF qF qB qC qD (fun g x y _ _=>zB (match f,g with | .func f,.func g=>Nat.beq f g | _,_=>false) (zB (C x) (D y))) qD () tE b)) (fun t _ X b=>(@V.rec mP mU false qC qC qB qB qD qF qF qB qC qD qF (fun u y _=>zB (Nat.beq t u) (X y)) () tE b))
 (fun l=>(List.rec (motive:=fun _=>Bool) true qD l)) (fun _ _ A B l=>(List.rec (motive:=fun _=>Bool) false (fun y l _=>zB (A y) (B l)) l)) a
def zd8 (fi:FI) (ps:List Tmp):List V→T→(T→A)→A:=List.rec (motive:=fun _=>List V→T→(T→A)→A)
 (fun l N c=>(List.rec (motive:=fun _=>A) (c N) eD l)) (fun p _ X l N c=>(List.rec (motive:=fun _=>A) eA (fun v vs _=>(@Bool.rec (fun _=>A) eA ((puC (qy fi.ns p)).run v N (fun N=>X vs N c)) (zB (zbj (qV fi.ns p)) (Nat.blt p fi.nt)))) l)) ps
def zdq (s:S) (l:K) (st:Nat) (pend:Option Code) (c:S→A):A:=qk s l fun b=>(@B.rec mD eA eH eC (fun _ _ z N ps e L df=>wV s l (.loop st pend z N ps e L df) c) eB eD b)
def zor (s:S) (l:K) (c:S→A):A:=qk s l fun b=>(@B.rec mD eA eH eC (fun st pend z N ps e L df=>(@Bool.rec (fun _=>A) eA (wV s l (.loop 1 pend z N ps e L df) c) (Nat.beq st 0))) eB eD b)
def zld (l:K) (jump:Option Code) (s:S) (k:V→S→A):A:=(Option.rec (motive:=fun _=>A) (zdq s l 0 none (fun s=>k (.bool true) s)) (fun _=>zdq s l 2 jump (fun s=>k (.bool false) s)) jump)
def zgK (r:R) (l:K) (args:List V) (_:T) (s:S) (k:V→S→A):A :=
 qk s l fun b=>(@B.rec mD eA eH eC (fun st _ z M ps e L _=>(@Bool.rec (fun _=>A) eA (zd8 z ps args M (fun C=>(puC 240).run .bad C fun C=>(A.rec (motive:=fun _=>A) (fun C s=>zor s l (fun s=>(A.rec (motive:=fun _=>A) (fun _ s=>zld l none s k) (fun id _ s=>zld l (some (.exit id)) s k) (fun _ s=>zld l (some .ret) s k) eC (fun m=>.bad m) (r.code z L C s)))) eD eC eC (fun m=>.bad m) (r.code z e C s)))) (Nat.beq st 0))) eB eD b)
def jv (r:R) (f:V) (args:List V) (tm:T) (s:S) (k:V→S→A):A:=(@V.rec mA mU eA eC eC eB eB eD eF eF eB (fun t l=>(@Bool.rec (fun _=>A) eA (zgK r l args tm s k) (Nat.beq t 3))) eD (fun g first cap _ _=>(match g with | .func g=>zfX args cap fun l=>zfX first l fun l=>zdA r g l s k | _=>.bad 0)) eD () tE f)
def znA (fi:FI) (ds:List Nat) (x:Option Operand):OdsC:=match x with
 | none=>⟨fun _ _ c=>c []⟩
 | some x=>match opd fi ds x with | ⟨f⟩=>⟨fun N le c=>f N le fun v=>c [v]⟩
def ziG (l:List V):Option V:=(List.rec (motive:=fun _=>Option V) none (fun v _ _=>some v) l)
structure PaC where run:T→List V→List V→(List V→A)→A
def paC (fi:FI) (ds:List Nat) (n:Nat) (qy:Nat→Option (Nat × Nat)):List (Nat × Operand)→PaC:=fun l=>match l with
 | []=>⟨fun _ _ Z c=>c Z⟩
 | (i,x)::l=>match qy i,opd fi ds x,paC fi ds n qy l with
  | some (off,sz),⟨f⟩,⟨g⟩=>chk (Nat.ble (off+sz) n) ⟨fun _ _ _ _=>.bad 0⟩ (fN off fun off=>fN sz fun sz=>⟨fun N le Z c=>f N le fun v=>zg sz v fun xs=>zJ xs off Z fun Z=>g N le Z c⟩)
  | none,_,_=>⟨fun _ _ _ _=>.bad 0⟩
def zjH (b:Nat) (l:List Nat):Nat→(V→A)→A:=List.rec (motive:=fun _=>Nat→(V→A)→A) (fun _ c=>c (.neg .i64 0)) (fun x _ X n c=>(@Bool.rec (fun _=>A) (fN (Nat.succ n) fun n=>X n c) (c (.nat .i64 n)) (Nat.beq x b))) l
def zlq (e:Nat) (args:List V) (s:S) (k:V→S→A):A:=match e with
 | 0=>zmN args fun x=>k x s
 | 1=>zlC args fun x y=>(@V.rec mA mU eA eC eC eB (fun l=>(@V.rec mA mU eA (fun j b=>(@Bool.rec (fun _=>A) eA (zjH b l 0 (fun v=>k v s)) (zB (qO j .u8) (Nat.blt b 256)))) eC eB eB eD eF eF eB eC eD eF eD () tE y)) eD eF eF eB eC eD eF eD () tE x)
 | _=>.bad 0
def zaT (p:V) (s:S) (k:V→S→A):A:=(@V.rec mA mU eA eC eC eB eB (fun a v o=>qk s a (fun b=>(@B.rec mD eA (fun _ n _ D W _ _=>(@Bool.rec (fun _=>A) eA (k p s) (jV n D W v (Nat.succ o)))) eC eI eB eD b))) eF eF (fun t=>(@Bool.rec (fun _=>A) eA (k p s) (Nat.beq t 0))) eC eD eF eD () tE p)
def zaL (u sz:Nat) (p:V) (s:S) (k:V→S→A):A:=(@V.rec mA mU eA eC eC eB eB (fun a _ o=>qk s a (fun b=>(@B.rec mD eA (fun _ n el D _ _ _=>(@Bool.rec (fun _=>A) eA (k p s) (zB (zbj D) (zB (Nat.beq el u) (zB (Nat.beq o 0) (Nat.ble sz n)))))) eC eI eB eD b))) eF eF (fun t=>(@Bool.rec (fun _=>A) eA (k p s) (Nat.beq t 0))) eC eD eF eD () tE p)
def zby (t:Nat) (ok:Bool) (zero x:V) (c:V→A):A:=(@V.rec mA mU eA eC eC eB eB eD eF eF (fun u=>(@Bool.rec (fun _=>A) eA (c (.ls 1 [zero,.bool false])) (zB ok (Nat.beq u 4)))) eC eD eF (fun u v _=>(@Bool.rec (fun _=>A) ((@Bool.rec (fun _=>A) eA (c (.ls 1 [zero,.bool false])) ok)) ((@Bool.rec (fun _=>A) (c v) (c (.ls 1 [v,.bool true])) ok)) (Nat.beq u t))) () tE x)
def ztZ (x:V) (s:S) (k:V→S→A):A:=(@V.rec mA mU eA eC eC eB (fun l=>zcR s (.it l 0 0) (fun a s=>k (.ptr a 0 0) s)) eD eF eF eB eC eD eF eD () tE x)
/- the letter at the beginning of some bytes: its code point,and how many bytes it has -/
def dcL (l:List Nat):Nat × Nat :=
 let cont (k:Nat):Bool:=decide (k<l.length) && l.getD k 0 / 64 == 2
 let b0:=l.getD 0 0
 if b0<0x80 then (b0,1)
 else if b0 / 32 == 6 && cont 1 then
  let c:=(b0 % 32)*64+l.getD 1 0 % 64
  if c ≥ 0x80 then (c,2) else (0xFFFD,1)
 else if b0 / 16 == 14 && cont 1 && cont 2 then
  let c:=(b0 % 16)*4096+(l.getD 1 0 % 64)*64+l.getD 2 0 % 64
  if c ≥ 0x800 && Utf8.valid c then (c,3) else (0xFFFD,1)
 else if b0 / 8 == 30 && cont 1 && cont 2 && cont 3 then
  let c:=(b0 % 8)*262144+(l.getD 1 0 % 64)*4096+(l.getD 2 0 % 64)*64+l.getD 3 0 % 64
  if c ≥ 0x10000 && Utf8.valid c then (c,4) else (0xFFFD,1)
 else (0xFFFD,1)
def zBr (a:K) (q:Nat × Nat) (l:List Nat) (pos r:Nat) (s:S) (k:V→S→A):A:=fN q.1 fun c=>fN (Nat.add pos q.2) fun p=>wV s a (.it (l.drop q.2) p r) fun s=>k (.ls 1 [.bool true,.nat .i64 pos,.nat .i32 c]) s
def zx1 (x:V) (s:S) (k:V→S→A):A:=(@V.rec mA mU eA eC eC eB eB (fun a _ o=>(@Bool.rec (fun _=>A) eA (qk s a (fun b=>(@B.rec mD eA eH eC eI eB (fun l pos r=>(List.rec (motive:=fun _=>A) (k (.ls 1 [.bool false]) s) (fun c l _=>(@Bool.rec (fun _=>A) (zBr a (dcL (c::l)) (c::l) pos r s k) (fN (Nat.succ pos) (fun p=>wV s a (.it l p r) fun s=>k (.ls 1 [.bool true,.nat .i64 pos,.nat .i32 c]) s)) (Nat.blt c 128))) l)) b))) (Nat.beq o 0))) eF eF eB eC eD eF eD () tE x)
def isC:Operand→Bool | .const _=>true | _=>false
def cB (b:Bool) (c:Bool→β):β:=match b with | true=>c true | false=>c false
def zO (m:Nat):OpC:=⟨fun _ _ _ _ _=>.bad m⟩
def un (fi:FI) (ds:List Nat) (x:Operand) (h:V→S→(V→S→A)→A):OpC:=match opd fi ds x with | ⟨f⟩=>⟨fun _ N le s k=>f N le fun v=>h v s k⟩
def bi (fi:FI) (ds:List Nat) (x y:Operand) (h:V→V→S→(V→S→A)→A):OpC:=match opd fi ds x,opd fi ds y with | ⟨f⟩,⟨g⟩=>⟨fun _ N le s k=>f N le fun v=>g N le fun u=>h v u s k⟩
def zgS (pc:PC) (A:List Field):Bool:=match A with | []=>true | f::l=>(match pc.info f.type with | some _=>zgS pc l | none=>false)
def zt0 (v:V) (a b:Unit→A):A:=(@V.rec mA mU eA eC eC (fun N=>(@Bool.rec (fun _=>A) (b ()) (a ()) N)) eB eD eF eF eB eC eD eF eD () tE v)
def zb (off:Nat) (p:V) (c:V→A):A:=(@V.rec mA mU eA eC eC eB eB (fun a v o=>fN (Nat.add o off) (fun o=>c (.ptr a v o))) eF eF eB eC eD eF eD () tE p)
def ze8 (sz n:Nat) (x:V) (lo hi F:Option V) (c:V→A):A:=(@V.rec mA mU eA eC eC eB eB (fun a v o=>jm sz a v o n n lo hi F c) eF eF eB eC eD eF eD () tE x)
def zoU (v:V) (s:S) (k:V→S→A):A:=(@V.rec mA mU eA eC eC eB eB eD eF eF eB eC (fun _ _ _=>k (.nil 4) s) eF eD () tE v)
def zw1 (fv:V) (args:List V) (s:S) (k:V→S→A):A:=(@V.rec mA mU eA eC eC eB eB eD eF eF eB eC eD (fun f first cap _ _=>(match f with | .func g=>k (.ls 1 [.fn (.func g) first cap,.ls 1 args]) s | _=>.bad 0)) eD () tE fv)
def zv8 (hi F:Option Operand):Bool:=match F,hi with | some _,none=>false | _,_=>true
def op (pc:PC) (fi:FI) (ds:List Nat) (o:Oper):OpC:=match o.op with
 | .move x=>un fi ds x fun v s k=>k v s
 | .assign x=>un fi ds x fun v s k=>k v s
 | .pick c a b=>match opd fi ds c,opd fi ds a,opd fi ds b with
  | ⟨f⟩,⟨g⟩,⟨h⟩=>⟨fun _ N le s k=>f N le fun v=>zt0 v (fun _=>g N le (fun v=>k v s)) (fun _=>h N le (fun v=>k v s))⟩
 | .alloc el=>pc.zc el (zO 0) fun zc=>fN el fun el=>⟨fun _ _ _ s k=>newRow s el zc false fun a _ s=>k (.ptr a 0 0) s⟩
 | .box el x=>pc.sz el (zO 0) fun sz=>fN el fun el=>un fi ds x fun v s k=>zg sz v fun l=>newRow s el l false fun a _ s=>k (.ptr a 0 0) s
 | .build t parts=>(match pc.und t with
   | some (.struct A)=>chk (zgS pc A.toList) (zO 0) (pc.zc t (zO 0) fun zc=>match paC fi ds (zk5 zc) (fun i=>(A[i]?).map fun f=>(f.offset,pc.size f.type)) parts.toList with
    | ⟨f⟩=>⟨fun _ N le s k=>f N le zc fun l=>k (.ls 0 l) s⟩)
   | some (.array _ e)=>pc.sz e (zO 0) fun sz=>pc.zc t (zO 0) fun zc=>(match paC fi ds (zk5 zc) (fun i=>some (i*sz,sz)) parts.toList with
    | ⟨f⟩=>⟨fun _ N le s k=>f N le zc fun l=>k (.ls 0 l) s⟩)
   | _=>zO 0)
 | .buildSlice t len parts=>(match pc.und t with
  | some (.slice e)=>pc.sz e (zO 0) fun sz=>pc.zc e (zO 0) fun zc=>chk (Nat.beq (zk5 zc) sz && Nat.ble (len*sz) 16777216) (zO 0) (fN e fun e=>fN len fun len=>zav zc len fun C =>
    match paC fi ds (len*sz) (fun i=>some (i*sz,sz)) parts.toList with
    | ⟨f⟩=>⟨fun _ N le s k=>f N le C fun l=>newRow s e l false fun a _ s=>k (.sl a 0 0 len len) s⟩)
  | _=>zO 0)
 | .load t x=>pc.ag t (zO 0) fun ag=>(match ag with
   | true=>pc.sz t (zO 0) fun sz=>un fi ds x fun p s k=>zd true sz p s k
   | false=>un fi ds x fun p s k=>zd false 1 p s k)
 | .store t x y=>pc.sz t (zO 0) fun sz=>bi fi ds x y fun p v s k=>zA sz p v s k
 | .nilCheck x=>un fi ds x fun v s k=>yf v fun v=>k v s
 | .binOp b t x y _=>(match b with
   | .shl=>bi fi ds x y fun x y s k=>wb .shl x y fun v=>k v s
   | .shr=>bi fi ds x y fun x y s k=>wb .shr x y fun v=>k v s
   | .add=>bi fi ds x y fun x y s k=>zw ⟨9,[]⟩ false .add x y fun v=>k v s
   | .sub=>bi fi ds x y fun x y s k=>zw ⟨9,[]⟩ false .sub x y fun v=>k v s
   | .lss=>bi fi ds x y fun x y s k=>zw ⟨9,[]⟩ false .lss x y fun v=>k v s
   | .eql=>fK (pc.eqKind t) fun q=>cB (isC x || isC y) fun S=>(match S || !(Nat.beq q.k 1) with
    | true=>bi fi ds x y fun x y s k=>zw q S .eql x y fun v=>k v s
    | false=>bi fi ds x y fun x y s k=>zdc q false x y s fun v=>k v s)
   | .neq=>fK (pc.eqKind t) fun q=>cB (isC x || isC y) fun S=>(match S || !(Nat.beq q.k 1) with
    | true=>bi fi ds x y fun x y s k=>zw q S .neq x y fun v=>k v s
    | false=>bi fi ds x y fun x y s k=>zdc q true x y s fun v=>k v s)
   | b=>bi fi ds x y fun x y s k=>zw ⟨9,[]⟩ false b x y fun v=>k v s)
 | .unOp u _ x=>un fi ds x fun x s k=>xUn u x fun v=>k v s
 | .convert src dst x=>(match pc.und src,pc.und dst with
   | some (.int _),some (.int j)=>cvK j fun j=>un fi ds x fun x s k=>zW j x fun v=>k v s
   | some (.pointer t),some .unsafePointer=>pc.sz t (zO 0) fun sz=>chk (!(Nat.beq sz 0)) (zO 0) (un fi ds x fun p s k=>zaT p s k)
   | some .unsafePointer,some (.pointer u)=>pc.sz u (zO 0) fun sz=>chk (!(Nat.beq sz 0)) (zO 0) (fN u fun u=>un fi ds x fun p s k=>zaL u sz p s k)
   | some (.slice e),some .string=>(match pc.und e with | some (.int .u8)=>un fi ds x fun x s k=>jJ x s fun v=>k v s | _=>zO 0)
   | _,_=>zO 0)
 | .typeAssert x _ t ok=>(match pc.und t with
   | some (.interface _)=>zO 0
   | some _=>(match pc.zero t with
    | .bad=>zO 0
    | z=>fN t fun t=>cB ok fun ok=>un fi ds x fun v s k=>zby t ok z v fun v=>k v s)
   | none=>zO 0)
 | .range t x=>(match pc.und t with
   | some .string=>un fi ds x fun x s k=>ztZ x s k
   | _=>zO 0)
 | .next x B=>(match B with
   | true=>un fi ds x fun x s k=>zx1 x s k
   | false=>zO 0)
 | .makeFunc fn a b=>(match zc3 fi ds a.toList,zc3 fi ds b.toList with | ⟨f⟩,⟨g⟩=>⟨fun _ N le s k=>f N le fun a=>g N le fun b=>k (.fn fn a b) s⟩)
 | .makeMap t r=>(match r with
   | none=>⟨fun _ _ _ s k=>zcR s (.map [] 0) fun a s=>k (.ref 0 a) s⟩
   | some x=>(match pc.und t with
    | some (.map _ _)=>un fi ds x fun x s k=>(@V.rec mA mU eA (fun _ _=>zcR s (.map [] 0) (fun a s=>k (.ref 0 a) s)) eC eB eB eD eF eF eB eC eD eF eD () tE x)
    | _=>zO 0))
 | .makeSlice t x y=>(match pc.und t with
  | some (.slice e)=>pc.sz e (zO 0) fun sz=>pc.by e (zO 0) fun w=>pc.zc e (zO 0) fun zc=>chk (Nat.beq (zk5 zc) sz) (zO 0) (fN e fun e=>bi fi ds x y fun l c s k=>yH e w zc l c s k)
  | _=>zO 0)
 | .slice t x lo hi F=>chk (zv8 hi F) (zO 0) (match opd fi ds x,znA fi ds lo,znA fi ds hi,znA fi ds F with
  | ⟨f⟩,⟨g⟩,⟨h⟩,⟨j⟩=>(match pc.und t with
   | some (.slice e)=>pc.sz e (zO 0) fun sz=>fN e fun e=>⟨fun _ N le s k=>f N le fun x=>g N le fun l=>h N le fun h=>j N le fun m=>qu e sz x (ziG l) (ziG h) (ziG m) s fun v=>k v s⟩
   | some (.string)=>(match F with | none=>⟨fun _ N le s k=>f N le fun x=>g N le fun l=>h N le fun h=>qa x (ziG l) (ziG h) fun v=>k v s⟩ | some _=>zO 0)
   | some (.array n e)=>fN n fun n=>pc.sz e (zO 0) fun sz=>⟨fun _ N le s k=>f N le fun x=>g N le fun l=>h N le fun h=>j N le fun m=>ze8 sz n x (ziG l) (ziG h) (ziG m) fun v=>k v s⟩
   | _=>zO 0))
 | .fieldAddr t x i=>(match pc.und t with
  | some (.struct A)=>(match A[i]? with
   | some U=>pc.sz U.type (zO 0) fun sz=>chk (!(Nat.beq sz 0)) (zO 0) (fN U.offset fun off=>un fi ds x fun p s k=>zb off p fun v=>k v s)
   | none=>zO 0)
  | _=>zO 0)
 | .field t x i=>(match pc.und t with
  | some (.struct A)=>(match A[i]? with
   | some U=>fN U.offset fun off=>pc.ag U.type (zO 0) fun ag=>pc.sz U.type (zO 0) fun sz=>un fi ds x fun x s k=>zkD ag off sz x fun v=>k v s
   | none=>zO 0)
  | _=>zO 0)
 | .indexAddr t x i=>(match pc.und t with
   | some (.slice e)=>pc.sz e (zO 0) fun sz=>bi fi ds x i fun x i s k=>ze sz x i fun v=>k v s
   | some (.array n e)=>fN n fun n=>pc.sz e (zO 0) fun sz=>bi fi ds x i fun x i s k=>zcw n sz x i fun v=>k v s
   | _=>zO 0)
 | .index t x i=>(match pc.und t with
   | some (.array n e)=>fN n fun n=>pc.ag e (zO 0) fun ag=>pc.sz e (zO 0) fun sz=>bi fi ds x i fun x i s k=>zi9 n ag sz x i fun v=>k v s
   | some .string=>bi fi ds x i fun x i s k=>zD x i fun v=>k v s
   | _=>zO 0)
 | .lookup t x i ok=>(match pc.und t with
   | some (.map j e)=>fK (pc.eqKind j) fun q=>chk (zb3 q) (zO 0) (match pc.zero e with
    | .bad=>zO 0
    | z=>cB ok fun ok=>bi fi ds x i fun x i s k=>ziT q z ok x i s fun v=>k v s)
   | _=>zO 0)
 | .mapUpdate t m k x=>(match opd fi ds m,opd fi ds k,opd fi ds x with | ⟨f⟩,⟨g⟩,⟨h⟩=>(match pc.und t with
  | some (.map j _)=>fK (pc.eqKind j) fun q=>chk (zb3 q) (zO 0) ⟨fun _ N le s c=>f N le fun m=>g N le fun k=>h N le fun x=>zgF q m k x s c⟩
  | _=>zO 0))
 | .insert t m k x=>(match opd fi ds m,opd fi ds k,opd fi ds x with | ⟨f⟩,⟨g⟩,⟨h⟩=>(match pc.und t with
  | some (.map j _)=>fK (pc.eqKind j) fun q=>chk (zb3 q) (zO 0) ⟨fun _ N le s c=>f N le fun m=>g N le fun k=>h N le fun x=>zgF q m k x s c⟩
  | _=>zO 0))
 | .extract x i=>fN i fun i=>un fi ds x fun x s k=>zz i x fun v=>k v s
 | .defer c=>(match c.callee with
  | .value x=>(match opd fi ds x,zc3 fi ds c.args.toList with
   | ⟨f⟩,⟨g⟩=>⟨fun _ N le s k=>f N le fun fv=>g N le fun H=>zw1 fv H s k⟩)
  | _=>zO 0)
 | .call c=>(match c.callee with
  | .builtin .recover=>⟨fun _ N _ s k=>(geC 240).run N fun v=>zoU v s k⟩
  | .builtin b=>(match zc3 fi ds c.args.toList,buC pc b c.argTypes.toList with | ⟨g⟩,⟨h⟩=>⟨fun _ N le s k=>g N le fun H=>h H s k⟩)
  | .value (.func f)=>(match zm3 f pc.ext with
   | 0=>fN f fun f=>(match zc3 fi ds c.args.toList with
    | ⟨g⟩=>⟨fun r N le s k=>g N le fun H=>zdA r f H s k⟩)
   | e+1=>(match zc3 fi ds c.args.toList with | ⟨g⟩=>⟨fun _ N le s k=>g N le fun H=>zlq e H s k⟩))
  | .value x=>(match opd fi ds x,zc3 fi ds c.args.toList with | ⟨f⟩,⟨g⟩=>⟨fun r N le s k=>f N le fun fv=>g N le fun H=>jv r fv H N s k⟩)
  | _=>zO 0)
 | _=>zO 0

def z7 (o:Oper):Bool:=match o.op with | .defer _=>true | _=>false
structure DsC where run:V→T→List V→(T→List V→A)→A
def dsC (fi:FI) (o:Oper):DsC:=match o.dst with
 | some d=>(match Nat.blt d fi.nt,qV fi.ns d with
  | true,true=>⟨fun v N le c=>c N (v::le)⟩
  | true,false=>(match puC (qy fi.ns d) with | ⟨p⟩=>⟨fun v N le c=>p v N fun N=>c N (v::le)⟩)
  | false,_=>⟨fun _ _ _ _=>.bad 0⟩)
 | none=>⟨fun _ N le c=>c N le⟩
def zj9 (fi:FI) (o:Oper) (f:OpC) (g:LoC):LoC:=match f,g,dsC fi o with
 | ⟨f⟩,⟨g⟩,⟨d⟩=>(match z7 o with
   | true=>⟨fun r N le s=>f r N le s fun v s=>(geC 240).run N fun l=>(@V.rec mA mU eA eC eC eB eB eD eF eF eB eC (fun _ l _=>(puC 240).run (.ls 1 (v::l)) N (fun N=>d undef N le fun N le=>g r N le s)) eF eD () tE l)⟩
   | false=>⟨fun r N le s=>f r N le s fun v s=>d v N le fun N le=>g r N le s⟩)
def zhQ (fi:FI) (o:Oper) (g:LoC):LoC:=match g,dsC fi o with
 | ⟨g⟩,⟨d⟩=>⟨fun r N le s=>d undef N le fun N le=>g r N le s⟩
def zfC (v:V) (yes no:Unit→A):A:=(@V.rec mA mU eA eC eC (fun b=>(@Bool.rec (fun _=>A) (no ()) (yes ()) b)) eB eD eF eF eB eC (fun _ _ _=>no ()) eF eD () tE v)
def zc9 (v:V) (yes no:Unit→A):A:=(@V.rec mA mU eA eC eC (fun b=>(@Bool.rec (fun _=>A) (yes ()) (no ()) b)) eB eD eF eF eB eC (fun _ _ _=>no ()) eF eD () tE v)
def qZ (fi:FI) (ds:List Nat) (all:List Oper) (o:Oper) (e g:LoC):LoC:=match o.guard with
 | none=>e
 | some (j,want)=>match (all[j]?).bind (·.dst),e,g with
  | some d,⟨e⟩,⟨g⟩=>(match opd fi ds (.tmp d),want with
   | ⟨f⟩,true=>⟨fun r N le s=>f N le fun v=>zfC v (fun _=>e r N le s) (fun _=>g r N le s)⟩
   | ⟨f⟩,false=>⟨fun r N le s=>f N le fun v=>zc9 v (fun _=>e r N le s) (fun _=>g r N le s)⟩)
  | none,_,_=>⟨fun _ _ _ _=>.bad 0⟩
def push (o:Oper) (ds:List Nat):List Nat:=match o.dst with | some d=>(d+1)::ds | none=>ds
def ops (pc:PC) (fi:FI) (all:List Oper):List Oper→List Nat→LoC
 | [],_=>⟨fun _ N _ s=>.nrm N s⟩
 | o::os,ds=>match ops pc fi all os (push o ds) with
  | ⟨g⟩=>qZ fi ds all o (zj9 fi o (op pc fi ds o) ⟨g⟩) (zhQ fi o ⟨g⟩)
def zT (o:Oper):Nat:=match o.op with
 | .binOp b _ x y _=>(match b with | .eql | .neq=>(match isC x || isC y with | true=>0 | false=>2) | _=>0)
 | .move _ | .assign _ | .pick .. | .build .. | .fieldAddr .. | .field .. | .indexAddr .. | .index .. | .nilCheck _ | .unOp .. | .makeFunc .. | .extract ..=>0
 | .alloc _ | .box .. | .makeMap .. | .buildSlice .. | .makeSlice ..=>1
 | .load .. | .lookup .. | .slice ..=>2
 | .call c=>(match c.callee with | .builtin .len | .builtin .cap | .builtin .min | .builtin .max=>2 | _=>3)
 | _=>3
def bit (m i:Nat):Bool:=Nat.beq (Nat.mod (Nat.shiftRight m i) 2) 1
def ziB (ms:List Nat):List Edge→Nat→Nat
 | [],m=>m
 | e::l,m=>match Region.binds .any e with | true=>ziB ms l (Nat.lor m (Nat.lor (Nat.pow 2 e.on) (ms.getD e.on 0))) | false=>ziB ms l m
def ya:List Oper→List Nat→List Nat
 | [],ms=>ms
 | o::l,ms=>ya l (ms++[ziB ms o.after.toList 0])
def zhH:Nat→List Nat→List Nat | 0,l=>l | n+1,l=>zhH n (n::l)
def zs4 (o:Oper):List Nat:=o.op.operands.toList.filterMap fun | .tmp t=>some t | _=>none
def zyn:List Nat→Bool | []=>true | d::l=>match l.contains d with | true=>false | false=>zyn l
def y9 (l:List Oper) (o:Oper):List Nat:=zs4 o++(match o.guard with | some (g,_)=>(match (l[g]?).bind (·.dst) with | some e=>[e] | none=>[]) | none=>[])
def zBE (ms:List Nat) (l:List Oper) (j i:Nat):Bool:=match l[j]?,l[i]? with
 | some o,some p=>(match p.dst with | some d=>Nat.beq i j || bit (ms.getD j 0) i || bit (ms.getD i 0) j || !((y9 l o).contains d) | none=>true)
 | _,_=>false
def zCS (ms:List Nat) (l:List Oper):Bool :=
 zyn (l.filterMap (·.dst)) && (zhH l.length []).all fun j=>(zhH l.length []).all fun i=>zBE ms l j i
def qL (ms kinds:List Nat) (l:List Oper):List Nat→List Nat→List (Bool × Nat)→Bool
 | done,A,[]=>A.isEmpty && (zhH l.length []).all fun i=>done.contains i
 | done,A,(false,i)::r=>Nat.blt i l.length && (!done.contains i) && ((zhH l.length []).all fun j=>!(bit (ms.getD i 0) j) || done.contains j) && (done.all fun f=>!(Nat.beq (kinds.getD f 3) 3) || bit (ms.getD i 0) f) &&
   (match Nat.beq (kinds.getD i 3) 3 with
    | true=>A.isEmpty && qL ms kinds l (i::done) (done.filter fun j=>Nat.beq (kinds.getD j 3) 2 && !(bit (ms.getD i 0) j)) r
    | false=>qL ms kinds l (i::done) A r)
 | done,A,(true,i)::r=>done.contains i && Nat.beq (kinds.getD i 3) 2 &&
   (done.all fun j=>match (l[j]?).bind (·.dst),l[i]? with | some d,some o=>(!((y9 l o).contains d)) || bit (ms.getD i 0) j | _,_=>true) && qL ms kinds l done (A.filter fun j=>!(Nat.beq j i)) r
def steps (ms kinds:List Nat) (n:Nat):List Nat→List Nat→List (Bool × Nat)
 | done,[]=>((zhH n []).filter fun i=>kinds.getD i 3 != 3 && !done.contains i).map fun i=>(false,i)
 | done,e::es =>
  let now:=(zhH n []).filter fun i=>kinds.getD i 3 != 3 && !done.contains i && (e::es).all fun f=>!bit (ms.getD i 0) f
  let done:=done++now
  let again:=done.filter fun i=>kinds.getD i 3 == 2 && !bit (ms.getD e 0) i
  now.map (fun i=>(false,i))++(false,e)::again.map (fun i=>(true,i))++steps ms kinds n done es
def zbV (fi:FI) (ds:List Nat) (o:Oper) (f:OpC) (g:LoC):LoC:=match f,g,o.dst with
 | ⟨f⟩,⟨g⟩,some d=>(match opd fi ds (.tmp d) with | ⟨h⟩=>⟨fun r N le s=>f r N le s fun v _=>h N le fun w=>(@Bool.rec (fun _=>A) eA (g r N le s) (yT v w))⟩)
 | _,_,none=>⟨fun _ _ _ _=>.bad 0⟩
def jp (pc:PC) (fi:FI) (all:List Oper):List (Bool × Nat)→List Nat→LoC
 | [],_=>⟨fun _ N _ s=>.nrm N s⟩
 | (again,i)::l,ds=>match all[i]? with
  | none=>⟨fun _ _ _ _=>.bad 0⟩
  | some o=>match again with
   | false=>(match jp pc fi all l (push o ds) with | ⟨g⟩=>qZ fi ds all o (zj9 fi o (op pc fi ds o) ⟨g⟩) (zhQ fi o ⟨g⟩))
   | true=>(match jp pc fi all l ds with | ⟨g⟩=>qZ fi ds all o (zbV fi ds o (op pc fi ds o) ⟨g⟩) ⟨g⟩)
def znp (l:List Oper):Bool:=l.all fun o=>o.after.toList.all fun e=>!(Region.binds .any e) || Nat.blt e.on l.length
def zhb (l:List Oper) (ms kinds:List Nat) (st:List (Bool × Nat)):Bool:=zCS ms l && qL ms kinds l [] [] st && znp l && !(l.any z7)
def yh (l:List Oper):List (Bool × Nat):=steps (ya l []) (l.map zT) l.length [] ((zhH l.length []).filter fun i=>(l.map zT).getD i 3 == 3)
def zg0 (pc:PC) (fi:FI) (draw:Bool) (l:List Oper):LoC:=match draw with
 | false=>ops pc fi l l []
 | true=>match pc.mixed && zhb l (ya l []) (l.map zT) (yh l) with
  | true=>(match jp pc fi l (yh l) [] with | ⟨f⟩=>⟨fun r N le s=>f r N le s⟩)
  | false=>⟨fun _ _ _ _=>.bad 0⟩

def zj (pc:PC) (fi:FI):Code→CoC
 | .skip=>⟨fun _ N s=>.nrm N s⟩
 | .region _ l d=>match zg0 pc fi d l.toList with | ⟨f⟩=>⟨fun r N s=>f r N [] s⟩
 | .seq a b=>⟨fun r N s=>zd7 (fun N s=>(zj pc fi b).run r N s) (fun i N s=>.ext i N s) (fun N s=>.ret N s) ((zj pc fi a).run r N s)⟩
 | .cond c a b=>match opd fi [] c with
  | ⟨f⟩=>⟨fun r N s=>f N [] fun v=>(@V.rec mA mU eA eC eC (fun y=>(@Bool.rec (fun _=>A) ((zj pc fi b).run r N s) ((zj pc fi a).run r N s) y)) eB eD eF eF eB eC eD eF eD () tE v)⟩
 | .block id c=>fN id fun id=>⟨fun r N s=>zd7 (fun N s=>.nrm N s) (fun i N s=>(@Bool.rec (fun _=>A) (.ext i N s) (.nrm N s) (Nat.beq i id))) (fun N s=>.ret N s) ((zj pc fi c).run r N s)⟩
 | .loop c=>⟨fun r N s=>zd7 (fun N s=>r.code fi (.loop c) N s) (fun i N s=>.ext i N s) (fun N s=>.ret N s) ((zj pc fi c).run r N s)⟩
 | .rangeFunc f ps e L=>match opd fi [] f with
  | ⟨f⟩=>⟨fun r N s=>(geC 240).run N fun dl=>(@V.rec mA mU eA eC eC eB eB eD eF eF eB eC (fun _ dl _=>zcR s (.dfd (some [])) (fun d s=>zcR s (.loop 0 none fi N ps.toList e L d) fun l s=>(puC 240).run (.ls 1 (.ref 2 d::dl)) N fun N=>f N [] fun fv=>jv r fv [.ref 3 l] N s fun _ s=>qk s l fun b=>(@B.rec mD eA eH eC (fun st p _ _ _ _ _ _=>(@Bool.rec (fun _=>A) (zdq s l 3 p (fun s=>(match p with | none=>.nrm N s | some .ret=>.ret N s | some (.exit i)=>.ext i N s | some _=>.bad 0))) eA (Nat.beq st 1))) eB eD b))) eF eD () tE dl)⟩
 | .exit id=>fN id fun id=>⟨fun _ N s=>.ext id N s⟩
 | .scope c=>⟨fun r N s=>(zj pc fi c).run r N s⟩
 | .label _=>⟨fun _ N s=>.nrm N s⟩
 | .ret=>⟨fun _ N s=>.ret N s⟩
 | .goto _=>⟨fun _ _ _=>.bad 0⟩
 | .refuse _=>⟨fun _ _ _=>.bad 0⟩

structure ReC where run:T→S→(List V→A)→A
def jU (pc:PC) (fi:FI):List ResultVar→ReC
 | []=>⟨fun _ _ c=>c []⟩
 | .tmp t::l=>match jU pc fi l,geC (qy fi.ns t) with | ⟨g⟩,⟨f⟩=>⟨fun N s c=>f N fun v=>g N s fun l=>c (v::l)⟩
 | .cell t ty::l=>match jU pc fi l,geC (qy fi.ns t) with
  | ⟨g⟩,⟨f⟩=>pc.ag ty ⟨fun _ _ _=>.bad 0⟩ fun ag=>(match ag with
   | true=>pc.sz ty ⟨fun _ _ _=>.bad 0⟩ fun sz=>⟨fun N s c=>f N fun p=>zd true sz p s fun v _=>g N s fun l=>c (v::l)⟩
   | false=>⟨fun N s c=>f N fun p=>zd false 1 p s fun v _=>g N s fun l=>c (v::l)⟩)
def wu (l:List V) (s:S):A:=(List.rec (motive:=fun _=>A) (.fin undef s) (fun v t _=>(List.rec (motive:=fun _=>A) (.fin v s) (fun _ _ _=>.fin (.ls 1 l) s) t)) l)
def zF (a:A):F:=A.rec (motive:=fun _=>F) (fun _ _=>.bad 0) (fun _ _ _=>.bad 0) (fun _ _=>.bad 0) (fun v s=>.ret v s) (fun m=>.bad m) a
def zx (f:T→S→A) (a:A):A:=A.rec (motive:=fun _=>A) (fun N s=>f N s) eD (fun N s=>f N s) eC (fun m=>.bad m) a
def zBU (a b c:List V) (k:List V→β):β:=zfX b c fun l=>zfX a l k
def jj (r:R) (l:List V):S→(S→A)→A:=List.rec (motive:=fun _=>S→(S→A)→A) (fun s c=>c s)
 (fun d _ X s c=>(@V.rec mA mU (.bad 0) (fun _ _=>.bad 0) (fun _ _=>.bad 0) (fun _=>.bad 0) (fun _=>.bad 0) (fun _ _ _=>.bad 0) (fun _ _ _ _ _=>.bad 0) (fun _ _ _ _ _=>.bad 0) (fun _=>.bad 0) (fun _ b=>qk s b (fun o=>(@B.rec mD (.bad 0) (fun _ _ _ _ _ _ _=>.bad 0) (fun _ _=>.bad 0) (fun _ _ _ _ _ _ _ _=>.bad 0) (fun x=>(match x with | some []=>wV s b (.dfd none) fun s=>X s c | _=>.bad 0)) (fun _ _ _=>.bad 0) (o)))) (fun _ p _=>(match p with | [.fn (.func f) first cap,.ls _ H]=>zBU first H cap fun l=>(F.rec (motive:=fun _=>A) (fun _ s=>X s c) (fun m=>.bad m) (r.call f l s)) | _=>.bad 0)) (fun _ _ _ _ _=>.bad 0) (fun _ _ _=>.bad 0) () (fun _ _ _ _=>()) (d))) l
def jz (fi:FI) (args:List V):Nat→T→(T→A)→A:=List.rec (motive:=fun _=>Nat→T→(T→A)→A) (fun _ t c=>c t)
 (fun v _ X n t c=>(@Bool.rec (fun _=>A) eA ((puC (qy fi.ns n)).run v t (fun t=>fN (Nat.succ n) fun n=>X n t c)) (zB (zbj (qV fi.ns n)) (Nat.blt n fi.nt)))) args
def zes:Code→Bool
 | .region _ l _=>l.toList.any z7
 | .seq a b | .cond _ a b=>zes a || zes b
 | .block _ b | .loop b | .scope b=>zes b
 | .rangeFunc ..=>true
 | _=>false
def jI:Code→Bool
 | .region _ l _=>l.toList.any fun o=>match o.op with | .call c=>(match c.callee with | .builtin .recover=>true | _=>false) | _=>false
 | .seq a b | .cond _ a b=>jI a || jI b
 | .block _ b | .loop b | .scope b=>jI b
 | .rangeFunc _ _ a b=>jI a || jI b
 | _=>false
def znr (res:T→S→(List V→A)→A) (tm:T) (s:S):A:=(geC 240).run tm fun d=>(@V.rec mA mU (res tm s (fun l=>wu l s)) eC eC eB eB eD eF eF eB eC eD eF eD () tE d)
def zln (res:T→S→(List V→A)→A) (r:R) (tm:T) (s:S):A:=(geC 240).run tm fun d=>(@V.rec mA mU eA eC eC eB eB eD eF eF eB eC (fun _ l _=>jj r l s (fun s=>res tm s fun l=>wu l s)) eF eD () tE d)
def fnC (pc:PC) (f:Nat):FnC:=match pc.func f with
 | none=>⟨fun _ _ _=>.bad 0⟩
 | some fn=>match fn.body with
  | none=>⟨fun _ _ _=>.bad (1000+f)⟩
  | some c=>match fN (pc.nsOf f) (fun ns=>fN fn.ntmps fun nt=>(⟨ns,nt,pc.ng⟩:FI)) with
   | z=>match jU pc z fn.results.toList,(zes c || jI c) with
    | ⟨res⟩,false=>⟨fun r H s=>zF (jz z H 0 T.new fun N=>zx (fun N s=>znr res N s) ((zj pc z c).run r N s))⟩
    | ⟨res⟩,true =>
     ⟨fun r H s=>zF (jz z H 0 T.new fun N=>(puC 240).run (.ls 1 []) N fun N=>zx (fun N s=>zln res r N s) ((zj pc z c).run r N s))⟩

def run (pc:PC) (n:Nat):R :=
 Nat.rec (motive:=fun _=>R) ⟨fun _ _ _ _=>.bad 0,fun _ _ _=>.bad 0⟩
  (fun _ X=>⟨fun z c N s=>(zj pc z c).run X N s,fun f H s=>(fnC pc f).run X H s⟩) n

end
end Go.Ev
