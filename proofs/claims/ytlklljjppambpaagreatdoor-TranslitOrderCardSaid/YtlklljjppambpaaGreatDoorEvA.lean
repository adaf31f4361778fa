/- The evaluator: an abstract run of a program, on known values. No statement of the seat stands here. No condition. By an AI agent. -/
import GoSem.Step
namespace Go.Ev
abbrev kaa:=@Nat.eq_of_beq_eq_true
abbrev kab:=@Nat.le_refl
abbrev kac:=@List.getElem?_eq_getElem
abbrev kad:=@List.getElem?_eq_some_iff
abbrev kae:=@List.mem_of_getElem?
abbrev kaf:=@Nat.lt_of_lt_of_le
abbrev kag:=@List.mem_singleton
abbrev kah:=@List.length_append
abbrev kai:=@List.length_map
abbrev kaj:=@List.mem_cons
abbrev kak:=@List.mem_append
abbrev kal:=@List.getElem?_map
abbrev kam:=@List.getElem?_append_left
abbrev kan:=@List.getD_eq_getElem?_getD
abbrev kao:=@Array.getElem?_toList
abbrev kap:=@Nat.ble_eq_true_of_le
abbrev kaq:=@Nat.lt_or_ge
abbrev kar:=@Nat.le_trans
abbrev kas:=@Bool.and_eq_true
abbrev kat:=@List.append_assoc
abbrev kau:=@List.getElem?_eq_none
abbrev kav:=@List.mem_map
abbrev kaw:=@List.length_eq_zero_iff
abbrev kax:=@List.getElem?_append_right
abbrev kay:=@Nat.beq_refl
abbrev kaz:=@Option.ne_none_iff_exists'
abbrev kaA:=@Nat.ble_eq
abbrev kaB:=@Array.getElem?_eq_some_iff
abbrev kaC:=@List.mem_cons_of_mem
abbrev kaD:=@List.all_eq_true
abbrev kaE:=@List.map_append
abbrev kaF:=@Nat.zero_add
abbrev kaG:=@List.ext_getElem?
abbrev kaH:=@List.length_cons
abbrev kaI:=@List.getElem_mem
abbrev kaJ:=@Bool.eq_iff_iff
abbrev kaK:=@Nat.mul_one
abbrev kaL:=@Nat.mul_le_mul_right
abbrev kaM:=@Nat.le_of_ble_eq_true
abbrev kaN:=@List.map_cons
abbrev kaO:=@List.map_congr_left
abbrev kaP:=@List.nodup_append

noncomputable section
inductive K where | h | o (p:K) | i (p:K)
inductive Tr (α:Type) where | lf | nd (l:Tr α) (v:α) (r:Tr α)

inductive V where
 | bad
 | nat (k:IntKind) (n:Nat)
 | neg (k:IntKind) (n:Nat)
 | bool (b:Bool)
 | str (s:List Nat)
 | ptr (a:K) (v o:Nat)
 | sl (a:K) (v o len cap:Nat)
 | so (a:K) (v o len e:Nat)
 | nil (t:Nat)
 | ref (t:Nat) (a:K)
 | ls (t:Nat) (l:List V)
 | fn (f:Fn) (a b:List V)
 | ifc (t:Nat) (v:V)
structure N (α:Type) where
 (a0 a1 a2 a3 a4 a5 a6 a7 a8 a9 a10 a11 a12 a13 a14 a15:α)
abbrev T:=N (N V)

structure ME where
 key:V
 val:V
 born:Nat
structure FI where
 ns:Nat
 nt:Nat
 ng:Nat

inductive B where
 | none
 | row (l:List V) (n el:Nat) (gr:Bool) (mn f1 f2:Nat)
 | map (es:List ME) (ck:Nat)
 | loop (st:Nat) (pend:Option Code) (fi:FI) (tm:T) (ps:List Tmp) (asg body:Code) (df:K)
 | dfd (l:Option (List V))
 | it (s:List Nat) (pos:Nat) (r:Nat)
 | mit (m:K) (es:List ME) (ck:Nat) (rest:List ME) (cur:Option ME)

structure S where
 h:Tr B
 nx:K

inductive A where
 | nrm (tm:T) (s:S)
 | ext (id:Nat) (tm:T) (s:S)
 | ret (tm:T) (s:S)
 | pnc (c:V) (s:S)
 | fin (v:V) (s:S)
 | bad (m:Nat)
 | alt (a b:A)
inductive F where
 | ret (v:V) (s:S)
 | pnc (c:V) (s:S)
 | bad (m:Nat)
 | alt (a b:F)

abbrev mA:V→Type:=fun _=>A
abbrev mO:V→Type:=fun _=>Option Bool
abbrev mP:V→Type:=fun _=>Bool
abbrev mD:B→Type:=fun _=>A
abbrev mE:B→Type:=fun _=>Bool
abbrev mU:List V→Type:=fun _=>Unit
variable {α:Type}
abbrev eB (_:α):A:=.bad 0
variable {β:Type}
abbrev eC (_:α) (_:β):A:=.bad 0
variable {γ:Type}
abbrev eD (_:α) (_:β) (_:γ):A:=.bad 0
variable {δ:Type}
abbrev eE (_:α) (_:β) (_:γ) (_:δ):A:=.bad 0
variable {ε:Type}
abbrev eF (_:α) (_:β) (_:γ) (_:δ) (_:ε):A:=.bad 0
variable {ζ η:Type}
abbrev eH (_:α) (_:β) (_:γ) (_:δ) (_:ε) (_:ζ) (_:η):A:=.bad 0
variable {θ:Type}
abbrev eI (_:α) (_:β) (_:γ) (_:δ) (_:ε) (_:ζ) (_:η) (_:θ):A:=.bad 0
abbrev qB (_:α):Bool:=false
abbrev qC (_:α) (_:β):Bool:=false
abbrev qD (_:α) (_:β) (_:γ):Bool:=false
abbrev qE (_:α) (_:β) (_:γ) (_:δ):Bool:=false
abbrev qF (_:α) (_:β) (_:γ) (_:δ) (_:ε):Bool:=false
abbrev qH (_:α) (_:β) (_:γ) (_:δ) (_:ε) (_:ζ) (_:η):Bool:=false
abbrev qI (_:α) (_:β) (_:γ) (_:δ) (_:ε) (_:ζ) (_:η) (_:θ):Bool:=false
abbrev jB (_:α):Option Bool:=none
abbrev jC (_:α) (_:β):Option Bool:=none
abbrev jD (_:α) (_:β) (_:γ):Option Bool:=none
abbrev jF (_:α) (_:β) (_:γ) (_:δ) (_:ε):Option Bool:=none
abbrev tE (_:α) (_:β) (_:γ) (_:δ):Unit:=()
abbrev eA:A:=.bad 0
variable {κ:Type}
abbrev kB (x:κ) (_:α):κ:=x
abbrev kC (x:κ) (_:α) (_:β):κ:=x
abbrev kD (x:κ) (_:α) (_:β) (_:γ):κ:=x
abbrev kF (x:κ) (_:α) (_:β) (_:γ) (_:δ) (_:ε):κ:=x
abbrev undef:V:=.ls 1 []

def Tr.getK (d:α) (k:K):Tr α→(α→β)→β :=
 K.rec (motive:=fun _=>Tr α→(α→β)→β)
  (fun t c=>(Tr.rec (motive:=fun _=>β) (c d) (fun _ v _ _ _=>c v) t))
  (fun _ ih t c=>(Tr.rec (motive:=fun _=>β) (c d) (fun l _ _ _ _=>ih l c) t))
  (fun _ ih t c=>(Tr.rec (motive:=fun _=>β) (c d) (fun _ _ r _ _=>ih r c) t)) k
def Tr.setK (d:α) (k:K) (x:α):Tr α→(Tr α→β)→β :=
 K.rec (motive:=fun _=>Tr α→(Tr α→β)→β)
  (fun t c=>(Tr.rec (motive:=fun _=>β) (c (.nd .lf x .lf)) (fun l _ r _ _=>c (.nd l x r)) t))
  (fun _ ih t c=>(Tr.rec (motive:=fun _=>β) (ih .lf (fun l=>c (.nd l d .lf))) (fun l v r _ _=>ih l (fun l=>c (.nd l v r))) t))
  (fun _ ih t c=>(Tr.rec (motive:=fun _=>β) (ih .lf (fun r=>c (.nd .lf d r))) (fun l v r _ _=>ih r (fun r=>c (.nd l v r))) t)) k

def fN (n:Nat) (c:Nat→β):β:=(Nat.rec (motive:=fun _=>β) (c 0) (fun m _=>c (Nat.succ m)) n)
def zNG (fuel:Nat):Nat→(K→β)→β :=
 Nat.rec (motive:=fun _=>Nat→(K→β)→β) (fun _ c=>c .h)
  (fun _ ih n c=>(Bool.rec (motive:=fun _=>β) ((Bool.rec (motive:=fun _=>β) (ih (Nat.div n 2) (fun p=>c (.i p))) (ih (Nat.div n 2) (fun p=>c (.o p))) (Nat.beq (Nat.mod n 2) 0))) (c .h) (Nat.ble n 1))) fuel
def zhO (n:Nat) (c:K→β):β:=zNG 24 (n+4) c
def zNz (o:Nat):List V→(V→β)→β :=
 Nat.rec (motive:=fun _=>List V→(V→β)→β) (fun l c=>(List.rec (motive:=fun _=>β) (c .bad) (fun x _ _=>c x) l))
  (fun _ ih l c=>(List.rec (motive:=fun _=>β) (c .bad) (fun _ t _=>ih t c) l)) o
def zeQ (n:Nat):List γ→(List γ→β)→β :=
 Nat.rec (motive:=fun _=>List γ→(List γ→β)→β) (fun l c=>c l) (fun _ ih l c=>(List.rec (motive:=fun _=>β) (c []) (fun _ t _=>ih t c) l)) n
def zDr (n:Nat):List γ→(List γ→β)→β :=
 Nat.rec (motive:=fun _=>List γ→(List γ→β)→β) (fun _ c=>c []) (fun _ ih l c=>(List.rec (motive:=fun _=>β) (c []) (fun x t _=>ih t (fun r=>c (x::r))) l)) n
def zah (a b:List γ):(List γ→β)→β :=
 List.rec (motive:=fun _=>(List γ→β)→β) (fun c=>c b) (fun x _ ih c=>ih fun l=>c (x::l)) a
def zfz (l:List γ) (c:Nat→β):β:=List.rec (motive:=fun _=>Nat→β) (fun n=>c n) (fun _ _ ih n=>fN (Nat.succ n) ih) l 0
def zOp (xs:List V):List V→(List V→β)→β :=
 List.rec (motive:=fun _=>List V→(List V→β)→β) (fun l c=>c l) (fun x _ ih l c=>(List.rec (motive:=fun _=>β) (ih [] (fun r=>c (x::r))) (fun _ t _=>ih t (fun r=>c (x::r))) l)) xs
def qY (xs:List V) (o:Nat):List V→(List V→β)→β :=
 Nat.rec (motive:=fun _=>List V→(List V→β)→β) (fun l c=>zOp xs l c) (fun _ ih l c=>(List.rec (motive:=fun _=>β) (ih [] (fun r=>c (.bad::r))) (fun y t _=>ih t (fun r=>c (y::r))) l)) o
def j4 (l:List V) (n:Nat):(List V→β)→β :=
 Nat.rec (motive:=fun _=>(List V→β)→β) (fun c=>c []) (fun _ ih c=>ih fun r=>zah l r c) n

def yl (a b:IntKind):Bool:=Nat.beq a.ctorIdx b.ctorIdx
def lim (k:IntKind):Nat:=match k with
 | .i8=>128 | .i16=>32768 | .i32=>2147483648 | .i64=>9223372036854775808
 | .u8=>256 | .u16=>65536 | .u32=>4294967296 | .u64=>18446744073709551616
def toI (x:V):Int:=(V.rec (motive_1:=fun _=>Int) (motive_2:=fun _=>Unit) (0) (fun _ n=>Int.ofNat n) (fun _ n=>Int.negSucc n) (fun _=>0) (fun _=>0) (fun _ _ _=>0) (fun _ _ _ _ _=>0) (fun _ _ _ _ _=>0) (fun _=>0) (fun _ _=>0) (fun _ _ _=>0) (fun _ _ _ _ _=>0) (fun _ _ _=>0) () tE x)
def ofI (k:IntKind) (z:Int) (c:V→β):β:=(Int.rec (motive:=fun _=>β) (fun m=>fN m (fun m=>c (.nat k m))) (fun m=>fN m (fun m=>c (.neg k m))) z)
def zfF (k:IntKind) (z:Int) (c:V→β):β:=ofI k (k.wrap z) c
def zmV (k:IntKind) (n:Nat) (c:V→β):β:=(Bool.rec (motive:=fun _=>β) (zfF k (Int.ofNat n) c) (fN n (fun n=>c (.nat k n))) (Nat.blt n (lim k)))
def fB (b:Bool) (c:V→β):β:=(Bool.rec (motive:=fun _=>β) (c (.bool false)) (c (.bool true)) b)
def zat (b:Bool):Bool:=(@Bool.rec (fun _=>Bool) true false b)
def zq (a b:Bool):Bool:=(@Bool.rec (fun _=>Bool) false b a)

def eqS:List Nat→List Nat→Bool:=fun a=>List.rec (motive:=fun _=>List Nat→Bool) (fun b=>(List.rec (motive:=fun _=>Bool) true qD b))
 (fun x _ ih b=>(List.rec (motive:=fun _=>Bool) false (fun y l _=>(@Bool.rec (fun _=>Bool) false (ih l) (Nat.beq x y))) b)) a
def K.beq (a:K):K→Bool:=K.rec (motive:=fun _=>K→Bool) (fun b=>(K.rec (motive:=fun _=>Bool) true qC qC b)) (fun _ ih b=>(K.rec (motive:=fun _=>Bool) false (fun q _=>ih q) qC b)) (fun _ ih b=>(K.rec (motive:=fun _=>Bool) false qC (fun q _=>ih q) b)) a
def cvS (l:List UInt8) (c:List Nat→β):β :=
 List.rec (motive:=fun _=>(List Nat→β)→β) (fun c=>c []) (fun x _ ih c=>fN x.toNat fun n=>ih fun l=>c (n::l)) l c
def cvK (k:IntKind) (c:IntKind→β):β:=match k with
 | .i8=>c .i8 | .i16=>c .i16 | .i32=>c .i32 | .i64=>c .i64 | .u8=>c .u8 | .u16=>c .u16 | .u32=>c .u32 | .u64=>c .u64
mutual
def cv:Value→V
 | .bool b=>match b with | true=>.bool true | false=>.bool false
 | .int k n=>cvK k fun k=>ofI k n id
 | .string s=>cvS s.data.toList .str
 | .pointer none=>.nil 0
 | .slice none 0 0=>.nil 1
 | .map none=>.nil 2
 | .nilFunc=>.nil 3
 | .nilIface=>.nil 4
 | .func (.func f) a b=>match a,b with | ⟨[]⟩,⟨[]⟩=>fN f fun f=>.fn (.func f) [] [] | _,_=>.bad
 | .iface t v=>fN t fun t=>match cv v with | .bad=>.bad | v=>.ifc t v
 | .agg ⟨cs⟩=>match zFz cs with | some l=>.ls 0 l | none=>.bad
 | .tuple ⟨cs⟩=>match cvs cs with | some l=>.ls 1 l | none=>.bad
 | _=>.bad
def cvs:List Value→Option (List V)
 | []=>some []
 | v::l=>match cv v with
  | .bad=>none
  | w=>match cvs l with
   | some l=>some (w::l)
   | none=>none
def zFz:List Value→Option (List V)
 | []=>some []
 | v::l=>match cv v with
  | .bad=>none
  | .ls _ _=>none
  | w=>match zFz l with
   | some l=>some (w::l)
   | none=>none
end
structure Hook where
 f:Nat
 args:List V
 s0:S
 v:V
 s1:S
structure PC where
 P:Program
 hooks:List Hook
 tys:Tr (Option TypeInfo)
 fns:Tr (Option Func)
 ns:Tr (Option Nat)
 ext:List (Nat × Nat)
 eqs:List (Nat × List Nat)
 mixed:Bool
 ng:Nat
 mg:List Nat

variable {α β:Type}
def zgA (l:List α) (c:Tr (Option α)→β):β :=
 List.rec (motive:=fun _=>Nat→Tr (Option α)→β) (fun _ t=>c t)
  (fun x _ ih n t=>zhO n fun k=>t.setK none k (some x) fun t=>fN (Nat.succ n) fun n=>ih n t) l 0 .lf
def PC.of (P:Program) (hooks:List Hook) (ns:List Nat) (ext:List (Nat × Nat)) (eqs:List (Nat × List Nat)) (mg:List Nat):PC:=zgA P.types.toList fun tys=>zgA P.funcs.toList fun fns=>zgA ns fun ns=>fN P.globals.size fun ng=>⟨P,hooks,tys,fns,ns,ext,eqs,P.follows .mixedOrders,ng,mg⟩
def zsB (f:Nat):List (Nat × Nat)→Nat
 | []=>0
 | (g,c)::l=>match Nat.beq f g with | true=>c | false=>zsB f l
def PC.info (pc:PC) (t:Nat):Option TypeInfo:=zhO t fun k=>pc.tys.getK none k id
def PC.func (pc:PC) (f:Nat):Option Func:=zhO f fun k=>pc.fns.getK none k id
def PC.nsOf (pc:PC) (f:Nat):Nat:=match zhO f fun k=>pc.ns.getK none k id with | some n=>n | none=>0
def PC.und (pc:PC) (t:Nat):Option TypeDesc:=match pc.info t with
 | none=>none
 | some i=>match i.desc with
  | .named _ u=>(pc.info u).map (·.desc)
  | d=>some d
def PC.size (pc:PC) (t:Nat):Nat:=match pc.info t with | some i=>i.size | none=>0
def PC.isAgg (pc:PC) (t:Nat):Bool:=match pc.und t with | some (.struct _) | some (.array _ _)=>true | _=>false
def PC.zero (pc:PC) (t:Nat):V:=match pc.info t with | some i=>(match i.zero with | some v=>cv v | none=>.bad) | none=>.bad

structure R where
 code:FI→Code→T→S→A
 call:Nat→List V→S→F
def zIV (x:F):F:=(F.rec (motive:=fun _=>F) (fun v s=>.ret v s) (fun c s=>.pnc c s) (fun m=>.bad m) (fun _ _ _ _=>.bad 0) (x))
def R.det (r:R):R:=⟨r.code,fun f args s=>zIV (r.call f args s)⟩
def zD (x:F) (k:V→S→A):A:=F.rec (motive:=fun _=>A) (fun v s=>k v s) (fun c s=>.pnc c s) (fun m=>.bad m) (fun _ _ a b=>.alt a b) x
def wU (f:T→S→A) (g:Nat→T→S→A) (h:T→S→A) (a:A):A:=A.rec (motive:=fun _=>A) (fun tm s=>f tm s) (fun i tm s=>g i tm s) (fun tm s=>h tm s) (fun c s=>.pnc c s) (fun _ _=>.bad 0) (fun m=>.bad m) (fun _ _ a b=>.alt a b) a
structure OpC where run:R→T→List V→S→(V→S→A)→A
structure LoC where run:R→T→List V→S→A
structure CoC where run:R→T→S→A
structure OdC where run:T→List V→(V→A)→A
structure OdsC where run:T→List V→(List V→A)→A
structure FnC where run:R→List V→S→F
structure SeC (α:Type) where run:N α→(α→A)→A
structure MoC (α:Type) where run:N α→(α→(α→A)→A)→(N α→A)→A
def seC (d:Nat):SeC α:=match d with
 | 0=>⟨fun t c=>N.rec (motive:=fun _=>A) (fun a0 _ _ _ _ _ _ _ _ _ _ _ _ _ _ _=>c a0) t⟩
 | 1=>⟨fun t c=>N.rec (motive:=fun _=>A) (fun _ a1 _ _ _ _ _ _ _ _ _ _ _ _ _ _=>c a1) t⟩
 | 2=>⟨fun t c=>N.rec (motive:=fun _=>A) (fun _ _ a2 _ _ _ _ _ _ _ _ _ _ _ _ _=>c a2) t⟩
 | 3=>⟨fun t c=>N.rec (motive:=fun _=>A) (fun _ _ _ a3 _ _ _ _ _ _ _ _ _ _ _ _=>c a3) t⟩
 | 4=>⟨fun t c=>N.rec (motive:=fun _=>A) (fun _ _ _ _ a4 _ _ _ _ _ _ _ _ _ _ _=>c a4) t⟩
 | 5=>⟨fun t c=>N.rec (motive:=fun _=>A) (fun _ _ _ _ _ a5 _ _ _ _ _ _ _ _ _ _=>c a5) t⟩
 | 6=>⟨fun t c=>N.rec (motive:=fun _=>A) (fun _ _ _ _ _ _ a6 _ _ _ _ _ _ _ _ _=>c a6) t⟩
 | 7=>⟨fun t c=>N.rec (motive:=fun _=>A) (fun _ _ _ _ _ _ _ a7 _ _ _ _ _ _ _ _=>c a7) t⟩
 | 8=>⟨fun t c=>N.rec (motive:=fun _=>A) (fun _ _ _ _ _ _ _ _ a8 _ _ _ _ _ _ _=>c a8) t⟩
 | 9=>⟨fun t c=>N.rec (motive:=fun _=>A) (fun _ _ _ _ _ _ _ _ _ a9 _ _ _ _ _ _=>c a9) t⟩
 | 10=>⟨fun t c=>N.rec (motive:=fun _=>A) (fun _ _ _ _ _ _ _ _ _ _ a10 _ _ _ _ _=>c a10) t⟩
 | 11=>⟨fun t c=>N.rec (motive:=fun _=>A) (fun _ _ _ _ _ _ _ _ _ _ _ a11 _ _ _ _=>c a11) t⟩
 | 12=>⟨fun t c=>N.rec (motive:=fun _=>A) (fun _ _ _ _ _ _ _ _ _ _ _ _ a12 _ _ _=>c a12) t⟩
 | 13=>⟨fun t c=>N.rec (motive:=fun _=>A) (fun _ _ _ _ _ _ _ _ _ _ _ _ _ a13 _ _=>c a13) t⟩
 | 14=>⟨fun t c=>N.rec (motive:=fun _=>A) (fun _ _ _ _ _ _ _ _ _ _ _ _ _ _ a14 _=>c a14) t⟩
 | 15=>⟨fun t c=>N.rec (motive:=fun _=>A) (fun _ _ _ _ _ _ _ _ _ _ _ _ _ _ _ a15=>c a15) t⟩
 | _=>⟨fun _ _=>.bad 0⟩
def moC (d:Nat):MoC α:=match d with
 | 0=>⟨fun t f c=>N.rec (motive:=fun _=>A) (fun a0 a1 a2 a3 a4 a5 a6 a7 a8 a9 a10 a11 a12 a13 a14 a15=>f a0 fun x=>c (.mk x a1 a2 a3 a4 a5 a6 a7 a8 a9 a10 a11 a12 a13 a14 a15)) t⟩
 | 1=>⟨fun t f c=>N.rec (motive:=fun _=>A) (fun a0 a1 a2 a3 a4 a5 a6 a7 a8 a9 a10 a11 a12 a13 a14 a15=>f a1 fun x=>c (.mk a0 x a2 a3 a4 a5 a6 a7 a8 a9 a10 a11 a12 a13 a14 a15)) t⟩
 | 2=>⟨fun t f c=>N.rec (motive:=fun _=>A) (fun a0 a1 a2 a3 a4 a5 a6 a7 a8 a9 a10 a11 a12 a13 a14 a15=>f a2 fun x=>c (.mk a0 a1 x a3 a4 a5 a6 a7 a8 a9 a10 a11 a12 a13 a14 a15)) t⟩
 | 3=>⟨fun t f c=>N.rec (motive:=fun _=>A) (fun a0 a1 a2 a3 a4 a5 a6 a7 a8 a9 a10 a11 a12 a13 a14 a15=>f a3 fun x=>c (.mk a0 a1 a2 x a4 a5 a6 a7 a8 a9 a10 a11 a12 a13 a14 a15)) t⟩
 | 4=>⟨fun t f c=>N.rec (motive:=fun _=>A) (fun a0 a1 a2 a3 a4 a5 a6 a7 a8 a9 a10 a11 a12 a13 a14 a15=>f a4 fun x=>c (.mk a0 a1 a2 a3 x a5 a6 a7 a8 a9 a10 a11 a12 a13 a14 a15)) t⟩
 | 5=>⟨fun t f c=>N.rec (motive:=fun _=>A) (fun a0 a1 a2 a3 a4 a5 a6 a7 a8 a9 a10 a11 a12 a13 a14 a15=>f a5 fun x=>c (.mk a0 a1 a2 a3 a4 x a6 a7 a8 a9 a10 a11 a12 a13 a14 a15)) t⟩
 | 6=>⟨fun t f c=>N.rec (motive:=fun _=>A) (fun a0 a1 a2 a3 a4 a5 a6 a7 a8 a9 a10 a11 a12 a13 a14 a15=>f a6 fun x=>c (.mk a0 a1 a2 a3 a4 a5 x a7 a8 a9 a10 a11 a12 a13 a14 a15)) t⟩
 | 7=>⟨fun t f c=>N.rec (motive:=fun _=>A) (fun a0 a1 a2 a3 a4 a5 a6 a7 a8 a9 a10 a11 a12 a13 a14 a15=>f a7 fun x=>c (.mk a0 a1 a2 a3 a4 a5 a6 x a8 a9 a10 a11 a12 a13 a14 a15)) t⟩
 | 8=>⟨fun t f c=>N.rec (motive:=fun _=>A) (fun a0 a1 a2 a3 a4 a5 a6 a7 a8 a9 a10 a11 a12 a13 a14 a15=>f a8 fun x=>c (.mk a0 a1 a2 a3 a4 a5 a6 a7 x a9 a10 a11 a12 a13 a14 a15)) t⟩
 | 9=>⟨fun t f c=>N.rec (motive:=fun _=>A) (fun a0 a1 a2 a3 a4 a5 a6 a7 a8 a9 a10 a11 a12 a13 a14 a15=>f a9 fun x=>c (.mk a0 a1 a2 a3 a4 a5 a6 a7 a8 x a10 a11 a12 a13 a14 a15)) t⟩
 | 10=>⟨fun t f c=>N.rec (motive:=fun _=>A) (fun a0 a1 a2 a3 a4 a5 a6 a7 a8 a9 a10 a11 a12 a13 a14 a15=>f a10 fun x=>c (.mk a0 a1 a2 a3 a4 a5 a6 a7 a8 a9 x a11 a12 a13 a14 a15)) t⟩
 | 11=>⟨fun t f c=>N.rec (motive:=fun _=>A) (fun a0 a1 a2 a3 a4 a5 a6 a7 a8 a9 a10 a11 a12 a13 a14 a15=>f a11 fun x=>c (.mk a0 a1 a2 a3 a4 a5 a6 a7 a8 a9 a10 x a12 a13 a14 a15)) t⟩
 | 12=>⟨fun t f c=>N.rec (motive:=fun _=>A) (fun a0 a1 a2 a3 a4 a5 a6 a7 a8 a9 a10 a11 a12 a13 a14 a15=>f a12 fun x=>c (.mk a0 a1 a2 a3 a4 a5 a6 a7 a8 a9 a10 a11 x a13 a14 a15)) t⟩
 | 13=>⟨fun t f c=>N.rec (motive:=fun _=>A) (fun a0 a1 a2 a3 a4 a5 a6 a7 a8 a9 a10 a11 a12 a13 a14 a15=>f a13 fun x=>c (.mk a0 a1 a2 a3 a4 a5 a6 a7 a8 a9 a10 a11 a12 x a14 a15)) t⟩
 | 14=>⟨fun t f c=>N.rec (motive:=fun _=>A) (fun a0 a1 a2 a3 a4 a5 a6 a7 a8 a9 a10 a11 a12 a13 a14 a15=>f a14 fun x=>c (.mk a0 a1 a2 a3 a4 a5 a6 a7 a8 a9 a10 a11 a12 a13 x a15)) t⟩
 | 15=>⟨fun t f c=>N.rec (motive:=fun _=>A) (fun a0 a1 a2 a3 a4 a5 a6 a7 a8 a9 a10 a11 a12 a13 a14 a15=>f a15 fun x=>c (.mk a0 a1 a2 a3 a4 a5 a6 a7 a8 a9 a10 a11 a12 a13 a14 x)) t⟩
 | _=>⟨fun _ _ _=>.bad 0⟩
structure GeC where run:T→(V→A)→A
structure PuC where run:V→T→(T→A)→A
def geC (p:Nat):GeC:=match seC (α:=N V) (Nat.div p 16),seC (α:=V) (Nat.mod p 16) with | ⟨f⟩,⟨g⟩=>⟨fun t c=>f t fun u=>g u c⟩
def puC (p:Nat):PuC:=match moC (α:=N V) (Nat.div p 16),moC (α:=V) (Nat.mod p 16) with | ⟨f⟩,⟨g⟩=>⟨fun v t c=>f t (fun u k=>g u (fun _ k=>k v) k) c⟩
def yE (ns d:Nat):Bool:=Nat.beq (Nat.mod (Nat.shiftRight ns d) 2) 1
def yM (ns:Nat):Nat→Nat
 | 0=>0
 | n+1=>match Nat.beq (Nat.mod (Nat.shiftRight ns n) 2) 1 with | true=>yM ns n | false=>Nat.succ (yM ns n)
def yc (ns d:Nat):Nat:=match yE ns d,Nat.blt (yM ns d) 240 with | false,true=>yM ns d | _,_=>999
def zpN (x:V):N V:=.mk x x x x x x x x x x x x x x x x
def zKm (x:N V):T:=.mk x x x x x x x x x x x x x x x x
def T.new:T:=zKm (zpN .bad)
def idx (t:Nat):List Nat→Nat→Option Nat
 | [],_=>none
 | d::l,i=>match Nat.beq d (t+1) with | true=>some i | false=>idx t l (i+1)

structure NtC where run:List V→(V→A)→A
def ntC:Nat→NtC
 | 0=>⟨fun l c=>(List.rec (motive:=fun _=>A) eA (fun x _ _=>c x) l)⟩
 | n+1=>match ntC n with | ⟨f⟩=>⟨fun l c=>(List.rec (motive:=fun _=>A) eA (fun _ t _=>f t c) l)⟩
def opd (fi:FI) (ds:List Nat) (x:Operand):OdC:=match x with
 | .tmp t=>match idx t ds 0 with
  | some i=>(match ntC i with | ⟨f⟩=>⟨fun _ le c=>f le c⟩)
  | none=>(match geC (yc fi.ns t) with | ⟨f⟩=>⟨fun tm _ c=>f tm c⟩)
 | .const v=>match cv v with
  | .bad=>⟨fun _ _ _=>.bad 0⟩
  | v=>⟨fun _ _ c=>c v⟩
 | .global g=>(match Nat.blt g fi.ng with | true=>zNG 24 (g+1) fun k=>⟨fun _ _ c=>c (.ptr k 0 0)⟩ | false=>⟨fun _ _ _=>.bad 0⟩)
 | .func f=>fN f fun f=>⟨fun _ _ c=>c (.fn (.func f) [] [])⟩
def zaJ (fi:FI) (ds:List Nat) (l:List Operand):OdsC:=match l with
 | []=>⟨fun _ _ c=>c []⟩
 | x::l=>match opd fi ds x,zaJ fi ds l with
  | ⟨f⟩,⟨g⟩=>⟨fun tm le c=>f tm le fun v=>g tm le fun l=>c (v::l)⟩

def zY (s:S) (a:K) (c:B→β):β:=(S.rec (motive:=fun _=>β) (fun h _=>h.getK B.none a c) s)
def jP (s:S) (a:K) (b:B) (c:S→β):β:=(S.rec (motive:=fun _=>β) (fun h nx=>h.setK B.none a b (fun h=>c ⟨h,nx⟩)) s)
def zNq (k:K) (c:K→β):β:=K.rec (motive:=fun _=>(K→β)→β) (fun c=>c (.o .h)) (fun p _ c=>c (.i p)) (fun _ ih c=>ih fun p=>c (.o p)) k c
def jU (s:S) (b:B) (c:K→S→β):β:=(S.rec (motive:=fun _=>β) (fun h nx=>h.setK B.none nx b (fun h=>zNq nx fun nx'=>c nx ⟨h,nx'⟩)) s)
def j9 (n:Nat) (gr:Bool) (mn v e:Nat):Bool:=(@Bool.rec (fun _=>Bool) (Nat.ble e n) ((@Bool.rec (fun _=>Bool) false ((@Bool.rec (fun _=>Bool) false (Nat.ble e v) (Nat.ble v n))) (Nat.ble mn v))) gr)
def zfA (n:Nat) (gr:Bool) (v o e f1 f2:Nat):Bool :=
 (@Bool.rec (fun _=>Bool) false ((@Bool.rec (fun _=>Bool) (Nat.ble e f1) true (Nat.ble f2 o))) (((@Bool.rec (fun _=>Bool) (Nat.ble e n) ((@Bool.rec (fun _=>Bool) false (Nat.ble e n) (Nat.beq v n))) gr))))
def zlN (n:Nat):List V→(List V→A)→A :=
 Nat.rec (motive:=fun _=>List V→(List V→A)→A) (fun _ c=>c []) (fun _ ih l c=>(List.rec (motive:=fun _=>A) (c []) (fun x t _=>(@V.rec mA mU eA (kC (ih t (fun r=>c (x::r)))) (kC (ih t (fun r=>c (x::r)))) (kB (ih t (fun r=>c (x::r)))) (kB (ih t (fun r=>c (x::r)))) (kD (ih t (fun r=>c (x::r)))) (kF (ih t (fun r=>c (x::r)))) (kF (ih t (fun r=>c (x::r)))) (kB (ih t (fun r=>c (x::r)))) (kC (ih t (fun r=>c (x::r)))) (kD (ih t (fun r=>c (x::r)))) (kF (ih t (fun r=>c (x::r)))) (kD (ih t (fun r=>c (x::r)))) () tE x)) l)) n
def zzS (x:V) (c:V→A):A:=(@V.rec mA mU eA (kC (c x)) (kC (c x)) (kB (c x)) (kB (c x)) (kD (c x)) (kF (c x)) (kF (c x)) (kB (c x)) (kC (c x)) (kD (c x)) (kF (c x)) (kD (c x)) () tE x)
def zM (s:S) (a:K) (v o m:Nat) (c:List V→A):A:=zY s a fun b=>(@B.rec mD eA (fun l n _ gr mn _ _=>(@Bool.rec (fun _=>A) eA (zeQ o l (fun l=>zlN m l c)) (j9 n gr mn v (Nat.add o m)))) eC eI eB eD eF b)
def zbh (s:S) (a:K) (v o:Nat) (c:V→A):A:=zY s a fun b=>(@B.rec mD eA (fun l n _ gr mn _ _=>(@Bool.rec (fun _=>A) eA (zNz o l (fun x=>zzS x c)) (j9 n gr mn v (Nat.succ o)))) eC eI eB eD eF b)
def qf (s:S) (a:K) (v o m:Nat) (xs:List V) (c:S→A):A:=zY s a fun b=>(@B.rec mD eA (fun l n el gr mn f1 f2=>(@Bool.rec (fun _=>A) eA (qY xs o l (fun l=>jP s a (.row l n el gr ((Bool.rec (motive:=fun _=>Nat) mn n gr)) f1 f2) c)) (zfA n gr v o (Nat.add o m) f1 f2))) eC eI eB eD eF b)
def zp (sz:Nat) (v:V) (c:List V→A):A:=(@V.rec mA mU eA (kC ((@Bool.rec (fun _=>A) eA (c [v]) (Nat.beq sz 1)))) (kC ((@Bool.rec (fun _=>A) eA (c [v]) (Nat.beq sz 1)))) (kB ((@Bool.rec (fun _=>A) eA (c [v]) (Nat.beq sz 1)))) (kB ((@Bool.rec (fun _=>A) eA (c [v]) (Nat.beq sz 1)))) (kD ((@Bool.rec (fun _=>A) eA (c [v]) (Nat.beq sz 1)))) (kF ((@Bool.rec (fun _=>A) eA (c [v]) (Nat.beq sz 1)))) (kF ((@Bool.rec (fun _=>A) eA (c [v]) (Nat.beq sz 1)))) (kB ((@Bool.rec (fun _=>A) eA (c [v]) (Nat.beq sz 1)))) (kC ((@Bool.rec (fun _=>A) eA (c [v]) (Nat.beq sz 1)))) (fun t l _=>(@Bool.rec (fun _=>A) eA (zfz l (fun n=>(@Bool.rec (fun _=>A) eA (c l) (Nat.beq n sz)))) (Nat.beq t 0))) (kF ((@Bool.rec (fun _=>A) eA (c [v]) (Nat.beq sz 1)))) (kD ((@Bool.rec (fun _=>A) eA (c [v]) (Nat.beq sz 1)))) () tE v)
def cellsOf (v:V):List V:=match v with | .ls 0 l=>l | v=>[v]
def newRow (s:S) (el:Nat) (l:List V) (gr:Bool) (c:K→Nat→S→A):A:=zfz l fun n=>jU s (.row l n el gr 0 0 0) fun a s=>c a n s

def zd (agg:Bool) (sz:Nat) (p:V) (s:S) (k:V→S→A):A:=(@V.rec mA mU eA eC eC eB eB (fun a v o=>(@Bool.rec (fun _=>A) (zbh s a v o (fun x=>k x s)) (zM s a v o sz (fun l=>k (.ls 0 l) s)) agg)) eF eF eB eC eD eF eD () tE p)
def zJ (sz:Nat) (p x:V) (s:S) (k:V→S→A):A:=(@V.rec mA mU eA eC eC eB eB (fun a v o=>zp sz x (fun l=>qf s a v o sz l (fun s=>k undef s))) eF eF eB eC eD eF eD () tE p)

def zBW (op:BinOp) (a b:Nat) (c:V→A):A:=match op with
 | .eql=>fB (Nat.beq a b) c
 | .neq=>fB (zat (Nat.beq a b)) c
 | .lss=>fB (Nat.blt a b) c
 | .leq=>fB (Nat.ble a b) c
 | .gtr=>fB (Nat.blt b a) c
 | .geq=>fB (Nat.ble b a) c
 | _=>.bad 0
def zId (op:BinOp) (lt:Bool) (c:V→A):A:=match op with
 | .eql=>c (.bool false)
 | .neq=>c (.bool true)
 | .lss=>fB lt c
 | .leq=>fB lt c
 | .gtr=>fB (zat lt) c
 | .geq=>fB (zat lt) c
 | _=>.bad 0
def ztc (op:BinOp) (k:IntKind) (x y:V) (c:V→A):A:=match op with
 | .add=>zfF k (Int.add (toI x) (toI y)) c
 | .sub=>zfF k (Int.sub (toI x) (toI y)) c
 | .mul=>zfF k (Int.mul (toI x) (toI y)) c
 | .and=>zfF k (BitVec.ofInt k.bits (toI x) &&& BitVec.ofInt k.bits (toI y)).toNat c
 | _=>.bad 0
def zhA (op:BinOp) (k:IntKind) (a b:Nat) (c:V→A):A:=match op with
 | .add=>zmV k (Nat.add a b) c
 | .sub=>(@Bool.rec (fun _=>A) (zfF k (Int.sub (Int.ofNat a) (Int.ofNat b)) c) (zmV k (Nat.sub a b) c) (Nat.ble b a))
 | .mul=>zmV k (Nat.mul a b) c
 | .quo=>(@Bool.rec (fun _=>A) (zmV k (Nat.div a b) c) eA (Nat.beq b 0))
 | .rem=>(@Bool.rec (fun _=>A) (fN (Nat.mod a b) (fun n=>c (.nat k n))) eA (Nat.beq b 0))
 | .and=>ztc .and k (.nat k a) (.nat k b) c
 | op=>zBW op a b c
def ztE (op:BinOp) (k:IntKind) (lt:Bool) (x y:V) (c:V→A):A:=match op with
 | .add=>ztc .add k x y c
 | .sub=>ztc .sub k x y c
 | .mul=>ztc .mul k x y c
 | op=>zId op lt c
def zHL (op:BinOp) (k:IntKind) (a b:Nat) (c:V→A):A:=match op with
 | .add=>ztc .add k (.neg k a) (.neg k b) c
 | .sub=>ztc .sub k (.neg k a) (.neg k b) c
 | .mul=>ztc .mul k (.neg k a) (.neg k b) c
 | op=>zBW op b a c
def zKH (op:BinOp) (k:IntKind) (x:V) (b:Nat) (c:V→A):A:=match op with
 | .shl=>fN (min b k.bits) fun n=>zfF k (Int.mul (toI x) (Int.ofNat (Nat.pow 2 n))) c
 | .shr=>fN (min b k.bits) fun n=>ofI k ((toI x).fdiv (Int.ofNat (Nat.pow 2 n))) c
 | _=>.bad 0
def zyM (op:BinOp) (a b:List Nat) (c:V→A):A:=match op with
 | .add=>zah a b fun l=>zfz l fun n=>(@Bool.rec (fun _=>A) eA (c (.str l)) (Nat.ble n 9223372036854775807))
 | .eql=>fB (eqS a b) c
 | .neq=>fB (zat (eqS a b)) c
 | _=>.bad 0
structure EK where
 k:Nat
 qs:List Nat
def eqP (q:Nat) (a b:V):Option Bool:=match q with
 | 0=>(@V.rec mO mU none jC jC (fun x=>(@V.rec mO mU none jC jC (fun y=>some ((@Bool.rec (fun _=>Bool) (zat y) y x))) jB jD jF jF jB jC jD jF jD () tE b)) jB jD jF jF jB jC jD jF jD () tE a)
 | 7=>(@V.rec mO mU none (fun j x=>(@V.rec mO mU none (fun k y=>(@Bool.rec (fun _=>Option Bool) none (some (Nat.beq x y)) (yl j k))) (fun k _=>(@Bool.rec (fun _=>Option Bool) none (some false) (yl j k))) jB jB jD jF jF jB jC jD jF jD () tE b)) (fun j x=>(@V.rec mO mU none (fun k _=>(@Bool.rec (fun _=>Option Bool) none (some false) (yl j k))) (fun k y=>(@Bool.rec (fun _=>Option Bool) none (some (Nat.beq x y)) (yl j k))) jB jB jD jF jF jB jC jD jF jD () tE b)) jB jB jD jF jF jB jC jD jF jD () tE a)
 | 8=>(@V.rec mO mU none jC jC jB (fun x=>(@V.rec mO mU none jC jC jB (fun y=>some (eqS x y)) jD jF jF jB jC jD jF jD () tE b)) jD jF jF jB jC jD jF jD () tE a)
 | _=>none
def zis:List Nat→List V→List V→Option Bool:=fun qs=>List.rec (motive:=fun _=>List V→List V→Option Bool) (fun a b=>(List.rec (motive:=fun _=>Option Bool) ((List.rec (motive:=fun _=>Option Bool) (some true) jD b)) jD a))
 (fun q _ ih a b=>(List.rec (motive:=fun _=>Option Bool) none (fun x r _=>(List.rec (motive:=fun _=>Option Bool) none (fun y l _=>match eqP q x y with | some true=>ih r l | some false=>some false | none=>none) b)) a)) qs
def zbP (t:Nat):List (Nat × List Nat)→Option (List Nat)
 | []=>none
 | (u,qs)::l=>match Nat.beq t u with | true=>some qs | false=>zbP t l
def PC.eqKind (pc:PC) (t:Nat):EK:=match pc.und t with
 | some .bool=>⟨0,[]⟩ | some (.int _)=>⟨7,[]⟩ | some .string=>⟨8,[]⟩
 | some (.pointer e)=>(match Nat.beq (pc.size e) 0 with | true=>⟨9,[]⟩ | false=>⟨1,[]⟩)
 | some (.slice _)=>⟨2,[]⟩
 | some (.interface _)=>⟨5,[]⟩
 | some (.struct _)=>(match zbP t pc.eqs with | some qs=>⟨6,qs⟩ | none=>⟨9,[]⟩)
 | _=>⟨9,[]⟩
def eqV (q:EK) (cst:Bool) (a b:V):Option Bool:=match q.k with
 | 0=>eqP 0 a b
 | 7=>eqP 7 a b
 | 8=>eqP 8 a b
 | 1=>(@V.rec mO mU none jC jC jB jB (fun a v o=>(@V.rec mO mU none jC jC jB jB (fun b w p=>(@Bool.rec (fun _=>Option Bool) none (some (Nat.beq o p)) (zq (K.beq a b) (Nat.beq v w)))) jF jF (fun t=>(@Bool.rec (fun _=>Option Bool) none (some false) (Nat.beq t 0))) jC jD jF jD () tE b)) jF jF (fun t=>(@Bool.rec (fun _=>Option Bool) none ((@V.rec mO mU none jC jC jB jB (fun _ _ _=>some false) jF jF (fun u=>(@Bool.rec (fun _=>Option Bool) none (some true) (Nat.beq u 0))) jC jD jF jD () tE b)) (Nat.beq t 0))) jC jD jF jD () tE a)
 | 2=>(@V.rec mO mU none jC jC jB jB jD (fun _ _ _ _ _=>(@V.rec mO mU none jC jC jB jB jD jF jF (fun u=>(@Bool.rec (fun _=>Option Bool) none (some false) (Nat.beq u 1))) jC jD jF jD () tE b)) (fun _ _ _ _ _=>(@V.rec mO mU none jC jC jB jB jD jF jF (fun u=>(@Bool.rec (fun _=>Option Bool) none (some false) (Nat.beq u 1))) jC jD jF jD () tE b)) (fun t=>(@Bool.rec (fun _=>Option Bool) none ((@V.rec mO mU none jC jC jB jB jD (fun _ _ _ _ _=>some false) (fun _ _ _ _ _=>some false) (fun u=>(@Bool.rec (fun _=>Option Bool) none (some true) (Nat.beq u 1))) (fun u _=>(@Bool.rec (fun _=>Option Bool) none (some false) (Nat.beq u 1))) jD jF jD () tE b)) (Nat.beq t 1))) (fun t _=>(@Bool.rec (fun _=>Option Bool) none ((@V.rec mO mU none jC jC jB jB jD jF jF (fun u=>(@Bool.rec (fun _=>Option Bool) none (some false) (Nat.beq u 1))) jC jD jF jD () tE b)) (Nat.beq t 1))) jD jF jD () tE a)
 | 5=>(@V.rec mO mU none jC jC jB jB jD jF jF (fun t=>(@Bool.rec (fun _=>Option Bool) none ((@V.rec mO mU none jC jC jB jB jD jF jF (fun u=>(@Bool.rec (fun _=>Option Bool) none (some true) (zq cst (Nat.beq u 4)))) jC jD jF (fun _ _ _=>some false) () tE b)) (Nat.beq t 4))) jC jD jF (fun _ _ _=>(@V.rec mO mU none jC jC jB jB jD jF jF (fun u=>(@Bool.rec (fun _=>Option Bool) none (some false) (Nat.beq u 4))) jC jD jF jD () tE b)) () tE a)
 | 6=>(@V.rec mO mU none jC jC jB jB jD jF jF jB jC (fun t x _=>(@V.rec mO mU none jC jC jB jB jD jF jF jB jC (fun u y _=>(@Bool.rec (fun _=>Option Bool) none (zis q.qs x y) (zq (Nat.beq t 0) (Nat.beq u 0)))) jF jD () tE b)) jF jD () tE a)
 | _=>none
def zvl (q:EK) (cst neg:Bool) (a b:V) (c:V→A):A:=match eqV q cst a b with | some r=>fB ((@Bool.rec (fun _=>Bool) r (zat r) neg)) c | none=>.bad 0
def fK (q:EK) (c:EK→β):β:=match q with | ⟨k,qs⟩=>fN k fun k=>c ⟨k,qs⟩
def ziX (q:EK) (cst:Bool) (op:BinOp) (x y:V) (c:V→A):A:=match op with | .eql=>zvl q cst false x y c | .neq=>zvl q cst true x y c | _=>.bad 0
def zk (q:EK) (cst:Bool) (op:BinOp) (x y:V) (c:V→A):A:=(@V.rec mA mU (ziX q cst op x y c) (fun k a=>(@V.rec mA mU eA (fun k' b=>(@Bool.rec (fun _=>A) eA (zhA op k a b c) (yl k k'))) (fun k' _=>(@Bool.rec (fun _=>A) eA (ztE op k false x y c) (yl k k'))) eB eB eD eF eF eB eC eD eF eD () tE y)) (fun k a=>(@V.rec mA mU eA (fun k' _=>(@Bool.rec (fun _=>A) eA (ztE op k true x y c) (yl k k'))) (fun k' b=>(@Bool.rec (fun _=>A) eA (zHL op k a b c) (yl k k'))) eB eB eD eF eF eB eC eD eF eD () tE y)) (fun _=>ziX q cst op x y c) (fun a=>(@V.rec mA mU eA eC eC eB (fun b=>zyM op a b c) eD eF eF eB eC eD eF eD () tE y)) (fun _ _ _=>ziX q cst op x y c) (fun _ _ _ _ _=>ziX q cst op x y c) (fun _ _ _ _ _=>ziX q cst op x y c) (fun _=>ziX q cst op x y c) (fun _ _=>ziX q cst op x y c) (fun _ _ _=>ziX q cst op x y c) (fun _ _ _ _ _=>ziX q cst op x y c) (fun _ _ _=>ziX q cst op x y c) () tE x)
def zIO (b:B):Bool:=@B.rec mE false (fun _ n _ _ _ f1 f2=>match Nat.beq n 0 with | true=>false | false=>Nat.beq f1 0 && Nat.beq f2 0) qC qI qB qD qF b
def zbj (q:EK) (neg:Bool) (x y:V) (s:S) (c:V→A):A:=match x,y with
 | .ptr a v o,.ptr b w p=>(match K.beq a b with
  | true=>zk q false (match neg with | true=>.neq | false=>.eql) (.ptr a v o) (.ptr b w p) c
  | false=>zY s a fun ba=>zY s b fun bb=>(match zIO ba && zIO bb with
   | true=>c (.bool neg)
   | false=>.bad 0))
 | x,y=>zk q false (match neg with | true=>.neq | false=>.eql) x y c
def zdg (op:BinOp) (x y:V) (c:V→A):A:=(@V.rec mA mU eA (fun _ b=>(@V.rec mA mU eA (fun k _=>zKH op k x b c) (fun k _=>zKH op k x b c) eB eB eD eF eF eB eC eD eF eD () tE x)) eC eB eB eD eF eF eB eC eD eF eD () tE y)
def xUn (op:UnOp) (x:V) (c:V→A):A:=match op with
 | .not=>(@V.rec mA mU eA eC eC (fun b=>fB (zat b) c) eB eD eF eF eB eC eD eF eD () tE x)
 | _=>.bad 0

def zg (sz:Nat) (x ix:V) (c:V→A):A:=(@V.rec mA mU eA (fun _ i=>(@V.rec mA mU eA eC eC eB eB eD (fun a v o len _=>(@Bool.rec (fun _=>A) eA (fN (Nat.add o (Nat.mul i sz)) (fun o=>c (.ptr a v o))) (Nat.blt i len))) (fun a v o len _=>(@Bool.rec (fun _=>A) eA (fN (Nat.add o (Nat.mul i sz)) (fun o=>c (.ptr a v o))) (Nat.blt i len))) eB eC eD eF eD () tE x)) eC eB eB eD eF eF eB eC eD eF eD () tE ix)
def zOg (n sz:Nat) (x ix:V) (c:V→A):A:=(@V.rec mA mU eA (fun _ i=>(@V.rec mA mU eA eC eC eB eB (fun a v o=>(@Bool.rec (fun _=>A) eA (fN (Nat.add o (Nat.mul i sz)) (fun o=>c (.ptr a v o))) (Nat.blt i n))) eF eF eB eC eD eF eD () tE x)) eC eB eB eD eF eF eB eC eD eF eD () tE ix)

def yD (x:Option V) (d:Nat) (c:Nat→A):A:=(Option.rec (motive:=fun _=>A) (c d) (fun v=>(@V.rec mA mU eA (fun _ n=>c n) eC eB eB eD eF eF eB eC eD eF eD () tE v)) x)
def zam (x:V) (lo hi:Option V) (c:V→A):A:=(@V.rec mA mU eA eC eC eB (fun l=>zfz l (fun n=>yD lo 0 fun a=>yD hi n fun b=>(@Bool.rec (fun _=>A) eA (zeQ a l (fun l=>zDr (Nat.sub b a) l fun l=>c (.str l))) (zq (Nat.ble a b) (Nat.ble b n))))) eD eF eF eB eC eD eF eD () tE x)
def zbY (sz:Nat) (a:K) (v o len cap:Nat) (lo hi mx:Option V) (c:V→A):A :=
 yD lo 0 (fun l=>yD hi len fun h=>yD mx cap fun m =>
   (@Bool.rec (fun _=>A) eA (fN (Nat.sub h l) (fun len'=>fN (Nat.sub m l) fun cap'=>fN ((Bool.rec (motive:=fun _=>Nat) (Nat.add o (Nat.mul l sz)) o (Nat.beq m l))) fun o'=>c (.sl a v o' len' cap'))) (zq (Nat.ble l h) (zq (Nat.ble h m) (Nat.ble m cap)))))
def yg (el sz:Nat) (x:V) (lo hi mx:Option V) (s:S) (c:V→A):A:=(@V.rec mA mU eA eC eC eB eB eD (fun a v o len cap=>zbY sz a v o len cap lo hi mx c) (fun a v o len e=>zY s a (fun b=>(@B.rec mD eA (fun _ n el' gr _ _ _=>(@Bool.rec (fun _=>A) eA (fN ((Bool.rec (motive:=fun _=>Nat) len (Nat.div (Nat.sub n o) sz) (zq gr (Nat.beq v n)))) (fun sure=>yD lo 0 fun l=>yD hi len fun h=>(Option.rec (motive:=fun _=>A) ((@Bool.rec (fun _=>A) eA ((@Bool.rec (fun _=>A) (fN (Nat.sub h l) (fun len'=>fN (Nat.add e l) fun e'=>fN (Nat.add o (Nat.mul l sz)) fun o'=>c (.so a v o' len' e'))) ((@Bool.rec (fun _=>A) (c (.ref 1 a)) (c (.so a v o 0 e)) (Nat.beq l 0))) (Nat.beq l h))) (zq (Nat.ble l h) (Nat.ble h sure)))) (fun _=>yD mx 0 (fun m=>(@Bool.rec (fun _=>A) eA (fN (Nat.sub h l) (fun len'=>fN (Nat.sub m l) fun cap'=>fN ((Bool.rec (motive:=fun _=>Nat) (Nat.add o (Nat.mul l sz)) o (Nat.beq m l))) fun o'=>c (.sl a v o' len' cap'))) (zq (Nat.ble l h) (zq (Nat.ble h m) (Nat.ble m sure)))))) mx))) (Nat.beq el el'))) eC eI eB eD eF b))) (fun t=>yD lo 0 (fun a=>yD hi 0 fun b=>yD mx 0 fun m=>(@Bool.rec (fun _=>A) eA (c (.nil 1)) (zq (Nat.beq t 1) (zq (Nat.beq a 0) (zq (Nat.beq b 0) (Nat.beq m 0))))))) (fun t a=>yD lo 0 (fun l=>yD hi 0 fun h=>(Option.rec (motive:=fun _=>A) ((@Bool.rec (fun _=>A) eA (c (.ref 1 a)) (zq (Nat.beq t 1) (zq (Nat.beq l 0) (Nat.beq h 0))))) eB mx))) eD eF eD () tE x)

def zBA (l:List Nat) (c:List V→β):β:=List.rec (motive:=fun _=>(List V→β)→β) (fun c=>c []) (fun x _ ih c=>ih fun l=>c (.nat .u8 x::l)) l c
def qy (sz:Nat) (x:V) (s:S) (c:Nat→List V→A):A:=(@V.rec mA mU eA eC eC eB (fun l=>(@Bool.rec (fun _=>A) eA (zBA l (fun cs=>zfz l fun n=>c n cs)) (Nat.beq sz 1))) eD (fun a v o len _=>zM s a v o (Nat.mul len sz) (fun l=>c len l)) (fun a v o len _=>zM s a v o (Nat.mul len sz) (fun l=>c len l)) (fun t=>(@Bool.rec (fun _=>A) eA (c 0 []) (Nat.beq t 1))) (fun t _=>(@Bool.rec (fun _=>A) eA (c 0 []) (Nat.beq t 1))) eD eF eD () tE x)
def yF (s:S) (el:Nat) (l:List V) (need:Nat) (k:V→S→A):A:=(@Bool.rec (fun _=>A) eA (newRow s el l true (fun a n s=>k (.so a n 0 need 0) s)) (Nat.ble need 68719476736))
def jL (el sz:Nat) (x:V) (n:Nat) (new:List V) (s:S) (k:V→S→A):A:=(@Bool.rec (fun _=>A) ((@V.rec mA mU eA eC eC eB eB eD (fun a v o len cap=>fN (Nat.add len n) (fun need=>(@Bool.rec (fun _=>A) (zM s a v o (Nat.mul len sz) (fun old=>zah old new fun l=>yF s el l need k)) (qf s a v (Nat.add o (Nat.mul len sz)) (Nat.mul n sz) new (fun s=>k (.sl a v o need cap) s)) (Nat.ble need cap)))) (fun a v o len e=>fN (Nat.add len n) (fun need=>zY s a fun b=>(@B.rec mD eA (fun l m el' gr mn f1 f2=>fN (Nat.add o (Nat.mul len sz)) (fun e0=>(@Bool.rec (fun _=>A) eA ((@Bool.rec (fun _=>A) ((@Bool.rec (fun _=>A) (zM s a v o (Nat.mul len sz) (fun old=>zah old new fun l=>jP s a .none fun s=>yF s el l need k)) ((@Bool.rec (fun _=>A) eA (zah l new (fun l=>fN (Nat.add m (Nat.mul n sz)) fun m'=>jP s a (.row l m' el' gr mn f1 f2) fun s=>k (.so a m' 0 need 0) s)) (Nat.ble need 68719476736))) (zq (Nat.beq v m) (zq (Nat.beq e0 m) (zq (Nat.beq o 0) (Nat.beq e 0)))))) (qf s a v e0 (Nat.mul n sz) new (fun s=>k (.so a v o need e) s)) (zq (Nat.beq v m) (Nat.ble (Nat.add e0 (Nat.mul n sz)) m)))) (zq gr (zq (Nat.beq el el') (zq (Nat.beq f1 0) (Nat.beq f2 0))))))) eC eI eB eD eF b))) (fun t=>(@Bool.rec (fun _=>A) eA (yF s el new n k) (Nat.beq t 1))) (fun t a=>(@Bool.rec (fun _=>A) eA (zY s a (fun b=>(@B.rec mD eA (fun _ _ el' gr _ f1 f2=>(@Bool.rec (fun _=>A) eA (jP s a .none (fun s=>yF s el new n k)) (zq gr (zq (Nat.beq el el') (zq (Nat.beq f1 0) (Nat.beq f2 0)))))) eC eI eB eD eF b))) (Nat.beq t 1))) eD eF eD () tE x)) ((@V.rec mA mU eA eC eC eB eB eD (fun _ _ _ _ _=>k x s) (fun _ _ _ _ _=>k x s) (fun t=>(@Bool.rec (fun _=>A) eA (k x s) (Nat.beq t 1))) (fun t _=>(@Bool.rec (fun _=>A) eA (k x s) (Nat.beq t 1))) eD eF eD () tE x)) (Nat.beq n 0))
def zP (el sz:Nat) (x y:V) (s:S) (k:V→S→A):A:=qy sz y s fun n new=>jL el sz x n new s k
def zdV (el sz:Nat) (zc:List V) (x y:V) (s:S) (k:V→S→A):A:=(@V.rec mA mU eA (fun _ n=>(@Bool.rec (fun _=>A) eA (j4 zc n (fun new=>jL el sz x n new s k)) (Nat.ble n 68719476736))) eC eB eB eD eF eF eB eC eD eF eD () tE y)
def zrY (sz:Nat) (a:K) (v o len:Nat) (y:V) (s:S) (k:V→S→A):A :=
 qy sz y s fun n new=>fN (Nat.min n len) fun m=>(@Bool.rec (fun _=>A) (zDr (Nat.mul m sz) new (fun new=>qf s a v o (Nat.mul m sz) new fun s=>k (.nat .i64 m) s)) (k (.nat .i64 0) s) (Nat.beq m 0))
def zHi (sz:Nat) (x y:V) (s:S) (k:V→S→A):A:=
 (@V.rec mA mU eA eC eC eB eB eD (fun a v o len _=>zrY sz a v o len y s k) (fun a v o len _=>zrY sz a v o len y s k) eB (fun t _=>(@Bool.rec (fun _=>A) eA (qy sz y s fun _ _=>k (.nat .i64 0) s) (Nat.beq t 1))) eD eF eD () tE x)
def zz (x:V) (c:V→A):A:=(@V.rec mA mU eA eC eC eB eB eD (fun _ _ _ len _=>c (.nat .i64 len)) (fun _ _ _ len _=>c (.nat .i64 len)) (fun t=>(@Bool.rec (fun _=>A) eA (c (.nat .i64 0)) (Nat.beq t 1))) (fun t _=>(@Bool.rec (fun _=>A) eA (c (.nat .i64 0)) (Nat.beq t 1))) eD eF eD () tE x)
def zJK (x:V) (s:S) (c:V→A):A:=(@V.rec mA mU eA eC eC eB eB eD eF eF (fun t=>(@Bool.rec (fun _=>A) eA (c (.nat .i64 0)) (Nat.beq t 2))) (fun t a=>(@Bool.rec (fun _=>A) eA (zY s a (fun b=>(@B.rec mD eA eH (fun es _=>zfz es (fun n=>c (.nat .i64 n))) eI eB eD eF b))) (Nat.beq t 0))) eD eF eD () tE x)
def zNj (x:V) (c:V→A):A:=(@V.rec mA mU eA eC eC eB (fun l=>zfz l (fun n=>c (.nat .i64 n))) eD eF eF eB eC eD eF eD () tE x)
def zKh (x:V) (c:V→A):A:=(@V.rec mA mU eA eC eC eB eB eD (fun _ _ _ _ cap=>c (.nat .i64 cap)) eF (fun t=>(@Bool.rec (fun _=>A) eA (c (.nat .i64 0)) (Nat.beq t 1))) eC eD eF eD () tE x)
def zbK (q:EK) (key:V) (l:List ME):(Option V→A)→A:=List.rec (motive:=fun _=>(Option V→A)→A) (fun c=>c none)
 (fun e _ ih c=>match eqV q false key e.key with | some true=>c (some e.val) | some false=>ih c | none=>.bad 0) l
def zjR (q:EK) (key val:V) (ck:Nat) (l:List ME):(Bool→List ME→A)→A:=List.rec (motive:=fun _=>(Bool→List ME→A)→A) (fun c=>c true [⟨key,val,ck⟩])
 (fun e l ih c=>match eqV q false key e.key with | some true=>c false (⟨key,val,e.born⟩::l) | some false=>ih fun b l=>c b (e::l) | none=>.bad 0) l
def zvP (zero:V) (ok:Bool) (r:Option V) (c:V→A):A:=(Option.rec (motive:=fun _=>A) ((@Bool.rec (fun _=>A) (c zero) (c (.ls 1 [zero,.bool false])) ok)) (fun v=>(@Bool.rec (fun _=>A) (c v) (c (.ls 1 [v,.bool true])) ok)) r)
def zzk (q:EK) (key:V) (c:A):A:=match q.k with
 | 6=>(@V.rec mA mU eA eC eC eB eB eD eF eF eB eC (fun t l _=>(@Bool.rec (fun _=>A) eA (zfz l (fun n=>zfz q.qs fun m=>(@Bool.rec (fun _=>A) eA c (Nat.beq n m)))) (Nat.beq t 0))) eF eD () tE key)
 | _=>c
def zaz (q:EK):Bool:=Nat.beq q.k 0 || Nat.beq q.k 6 || Nat.beq q.k 7 || Nat.beq q.k 8
def z4 (q:EK) (zero:V) (ok:Bool) (x ix:V) (s:S) (c:V→A):A:=zzk q ix ((@V.rec mA mU eA eC eC eB eB eD eF eF (fun t=>(@Bool.rec (fun _=>A) eA (zvP zero ok none c) (Nat.beq t 2))) (fun t a=>(@Bool.rec (fun _=>A) eA (zY s a (fun b=>(@B.rec mD eA eH (fun es _=>zbK q ix es (fun r=>zvP zero ok r c)) eI eB eD eF b))) (Nat.beq t 0))) eD eF eD () tE x))
def qw (q:EK) (m key val:V) (s:S) (k:V→S→A):A:=zzk q key ((@V.rec mA mU eA eC eC eB eB eD eF eF eB (fun t a=>(@Bool.rec (fun _=>A) eA (zY s a (fun b=>(@B.rec mD eA eH (fun es ck=>zjR q key val ck es (fun new es=>fN ((Bool.rec (motive:=fun _=>Nat) ck (Nat.succ ck) new)) fun ck=>jP s a (.map es ck) fun s=>k undef s)) eI eB eD eF b))) (Nat.beq t 0))) eD eF eD () tE m))
def zzp (q:EK) (key zero:V) (ck:Nat) (l:List ME):(V→Nat→List ME→Bool→A)→A:=List.rec (motive:=fun _=>(V→Nat→List ME→Bool→A)→A) (fun c=>c zero ck [⟨key,zero,ck⟩] true)
 (fun e l ih c=>match eqV q false key e.key with | some true=>c e.val e.born (⟨key,e.val,e.born⟩::l) false | some false=>ih fun v n l b=>c v n (e::l) b | none=>.bad 0) l
def zaa (q:EK) (zero m key:V) (s:S) (k:V→S→A):A:=zzk q key ((@V.rec mA mU eA eC eC eB eB eD eF eF eB (fun t a=>(@Bool.rec (fun _=>A) eA (zY s a (fun b=>(@B.rec mD eA eH (fun es ck=>zzp q key zero ck es (fun v n es new=>fN ((Bool.rec (motive:=fun _=>Nat) ck (Nat.succ ck) new)) fun ck=>jP s a (.map es ck) fun s=>k (.ls 1 [v,.nat .i64 n]) s)) eI eB eD eF b))) (Nat.beq t 0))) eD eF eD () tE m))
def zzt (n:Nat) (val:V) (l:List ME):(List ME→A)→A:=List.rec (motive:=fun _=>(List ME→A)→A) eB (fun e l ih c=>(@Bool.rec (fun _=>A) (ih fun l=>c (e::l)) (c (⟨e.key,val,e.born⟩::l)) (Nat.beq e.born n))) l
def wh (m stamp val:V) (s:S) (k:V→S→A):A:=(@V.rec mA mU eA eC eC eB eB eD eF eF eB (fun t a=>(@Bool.rec (fun _=>A) eA ((@V.rec mA mU eA (fun _ n=>zY s a (fun b=>(@B.rec mD eA eH (fun es ck=>zzt n val es (fun es=>jP s a (.map es ck) fun s=>k undef s)) eI eB eD eF b))) eC eB eB eD eF eF eB eC eD eF eD () tE stamp)) (Nat.beq t 0))) eD eF eD () tE m)
def zJf (o:Nat):List V→(V→β)→β→β :=
 Nat.rec (motive:=fun _=>List V→(V→β)→β→β) (fun l c d=>(List.rec (motive:=fun _=>β) d (fun x _ _=>c x) l)) (fun _ ih l c d=>(List.rec (motive:=fun _=>β) d (fun _ t _=>ih t c d) l)) o
def zU (i:Nat) (x:V) (c:V→A):A:=(@V.rec mA mU eA eC eC eB eB eD eF eF eB eC (fun t l _=>(@Bool.rec (fun _=>A) eA (zJf i l c eA) (Nat.beq t 1))) eF eD () tE x)
def zrk (agg:Bool) (off sz:Nat) (x:V) (c:V→A):A:=(@V.rec mA mU eA eC eC eB eB eD eF eF eB eC (fun t l _=>(@Bool.rec (fun _=>A) eA ((@Bool.rec (fun _=>A) (zJf off l c eA) (zeQ off l (fun l=>zDr sz l fun l=>c (.ls 0 l))) agg)) (Nat.beq t 0))) eF eD () tE x)
def zHU (n:Nat) (agg:Bool) (sz:Nat) (x ix:V) (c:V→A):A:=(@V.rec mA mU eA (fun _ i=>(@Bool.rec (fun _=>A) eA (zrk agg (Nat.mul i sz) sz x c) (Nat.blt i n))) eC eB eB eD eF eF eB eC eD eF eD () tE ix)
def zAA (o:Nat):List Nat→(Nat→β)→β→β :=
 Nat.rec (motive:=fun _=>List Nat→(Nat→β)→β→β) (fun l c d=>(List.rec (motive:=fun _=>β) d (fun x _ _=>c x) l)) (fun _ ih l c d=>(List.rec (motive:=fun _=>β) d (fun _ t _=>ih t c d) l)) o
def zhQ (x ix:V) (c:V→A):A:=(@V.rec mA mU eA (fun _ i=>(@V.rec mA mU eA eC eC eB (fun l=>zAA i l (fun b=>c (.nat .u8 b)) eA) eD eF eF eB eC eD eF eD () tE x)) eC eB eB eD eF eF eB eC eD eF eD () tE ix)
def zgN (el by_:Nat) (zc:List V) (l c':V) (s:S) (k:V→S→A):A:=(@V.rec mA mU eA (fun _ l=>(@V.rec mA mU eA (fun _ c=>(@Bool.rec (fun _=>A) eA (j4 zc c (fun cs=>newRow s el cs false fun a _ s=>k (.sl a 0 0 l c) s)) (zq (Nat.ble l c) (zq (Nat.ble c 281474976710656) (Nat.ble (Nat.mul by_ c) 281474976710656))))) eC eB eB eD eF eF eB eC eD eF eD () tE c')) eC eB eB eD eF eF eB eC eD eF eD () tE l)
def yL (k:IntKind) (x:V) (c:V→A):A:=(@V.rec mA mU eA (fun _ n=>zmV k n c) (fun _ _=>zfF k (toI x) c) eB eB eD eF eF eB eC eD eF eD () tE x)
def zgg (l:List V):(List Nat→A)→A:=List.rec (motive:=fun _=>(List Nat→A)→A) (fun c=>c [])
 (fun x _ ih c=>(@V.rec mA mU eA (fun k n=>(@Bool.rec (fun _=>A) eA (ih (fun l=>c (n::l))) (zq (yl k .u8) (Nat.blt n 256)))) eC eB eB eD eF eF eB eC eD eF eD () tE x)) l
def zO8 (x:V) (s:S) (c:V→A):A:=(@V.rec mA mU eA eC eC eB eB eD (fun a v o len _=>zM s a v o len (fun l=>zgg l fun b=>c (.str b))) (fun a v o len _=>zM s a v o len (fun l=>zgg l fun b=>c (.str b))) (fun t=>(@Bool.rec (fun _=>A) eA (c (.str [])) (Nat.beq t 1))) (fun t _=>(@Bool.rec (fun _=>A) eA (c (.str [])) (Nat.beq t 1))) eD eF eD () tE x)
def zPh (x:V) (c:V→A):A:=(@V.rec mA mU eA (fun _ n=>cvS (Utf8.encode (Int.ofNat n)).data.toList (fun l=>c (.str l))) (fun _ n=>cvS (Utf8.encode (Int.negSucc n)).data.toList (fun l=>c (.str l))) eB eB eD eF eF eB eC eD eF eD () tE x)
def zJS (op lt:Bool) (x y:V) (c:V→A):A:=(@Bool.rec (fun _=>A) (c ((Bool.rec (motive:=fun _=>V) y x op))) (c ((Bool.rec (motive:=fun _=>V) x y op))) lt)
def min2 (op:Bool) (x y:V) (c:V→A):A:=(@V.rec mA mU eA (fun j a=>(@V.rec mA mU eA (fun k b=>(@Bool.rec (fun _=>A) eA (zJS op (Nat.blt b a) x y c) (yl j k))) (fun k _=>(@Bool.rec (fun _=>A) eA (zJS op true x y c) (yl j k))) eB eB eD eF eF eB eC eD eF eD () tE y)) (fun j a=>(@V.rec mA mU eA (fun k _=>(@Bool.rec (fun _=>A) eA (zJS op false x y c) (yl j k))) (fun k b=>(@Bool.rec (fun _=>A) eA (zJS op (Nat.blt a b) x y c) (yl j k))) eB eB eD eF eF eB eC eD eF eD () tE y)) eB eB eD eF eF eB eC eD eF eD () tE x)
def zbW (op:Bool) (l:List V):V→(V→A)→A:=List.rec (motive:=fun _=>V→(V→A)→A) (fun x c=>c x) (fun y _ ih x c=>min2 op x y fun z=>ih z c) l

def zhz (sz:Nat) (zc:List V) (a:K) (v o len:Nat) (s:S) (k:V→S→A):A:=(@Bool.rec (fun _=>A) (j4 zc len fun l=>qf s a v o (Nat.mul len sz) l fun s=>k undef s) (k undef s) (Nat.beq len 0))
def zEZ (sz:Nat) (zc:List V) (x:V) (s:S) (k:V→S→A):A:=(@V.rec mA mU eA eC eC eB eB eD (fun a v o len _=>zhz sz zc a v o len s k) (fun a v o len _=>zhz sz zc a v o len s k) eB eC eD eF eD () tE x)
def PC.sz (pc:PC) (t:Nat) (d:β) (k:Nat→β):β:=match pc.info t with | some i=>fN i.size k | none=>d
def PC.by (pc:PC) (t:Nat) (d:β) (k:Nat→β):β:=match pc.info t with | some i=>fN i.bytes k | none=>d
def PC.ag (pc:PC) (t:Nat) (d:β) (k:Bool→β):β:=match pc.und t with | some (.struct _)=>k true | some (.array _ _)=>k true | some _=>k false | none=>d
def PC.zc (pc:PC) (t:Nat) (d:β) (k:List V→β):β:=match pc.zero t with | .bad=>d | .ls 0 l=>k l | .ls _ _=>d | v=>k [v]
def chk (b:Bool) (d:β) (k:β):β:=match b with | true=>k | false=>d
def zjX (l:List V):Nat:=zfz l id

def zbv (x:V) (c:V→A):A:=(@V.rec mA mU eA eC eC eB eB eD (fun a v o _ cap=>(@Bool.rec (fun _=>A) (c (.ptr a v o)) eA (Nat.beq cap 0))) (fun a v o len _=>(@Bool.rec (fun _=>A) (c (.ptr a v o)) eA (Nat.beq len 0))) (fun t=>(@Bool.rec (fun _=>A) eA (c (.nil 0)) (Nat.beq t 1))) eC eD eF eD () tE x)
def zzQ (f1 f2 o n:Nat) (c:Nat→Nat→A):A:=(@Bool.rec (fun _=>A) (fN (Nat.min f1 o) (fun g1=>fN (Nat.max f2 (Nat.add o n)) fun g2=>c g1 g2)) (fN (Nat.add o n) (fun e=>c o e)) (Nat.beq f1 f2))
def zLO (e:Nat) (x y:V) (s:S) (k:V→S→A):A:=(@V.rec mA mU eA (fun _ n=>(@Bool.rec (fun _=>A) eA ((@V.rec mA mU eA eC eC eB eB (fun a v o=>(@Bool.rec (fun _=>A) (zY s a (fun b=>(@B.rec mD eA (fun l m el gr mn f1 f2=>(@Bool.rec (fun _=>A) eA (zM s a v o n (fun cs=>zgg cs fun b=>zzQ f1 f2 o n (fun g1 g2=>jP s a (.row l m el gr mn g1 g2) fun s=>k (.str b) s))) (zq gr (Nat.beq el e)))) eC eI eB eD eF b))) (k (.str []) s) (Nat.beq n 0))) eF eF (fun t=>(@Bool.rec (fun _=>A) eA (k (.str []) s) (zq (Nat.beq t 0) (Nat.beq n 0)))) eC eD eF eD () tE x)) (Nat.ble n 9223372036854775807))) eC eB eB eD eF eF eB eC eD eF eD () tE y)
structure BuC where run:List V→S→(V→S→A)→A
def zEo (l:List V) (c:V→A):A:=(List.rec (motive:=fun _=>A) eA (fun x _ _=>c x) l)
def zEC (l:List V) (c:V→V→A):A:=(List.rec (motive:=fun _=>A) eA (fun x t _=>(List.rec (motive:=fun _=>A) eA (fun y _ _=>c x y) t)) l)
def zxU (l:List V) (c:V→A):A:=(List.rec (motive:=fun _=>A) eA (fun x t _=>(List.rec (motive:=fun _=>A) (c x) eD t)) l)
def ztM (l:List V) (c:V→V→A):A:=(List.rec (motive:=fun _=>A) eA (fun x t _=>(List.rec (motive:=fun _=>A) eA (fun y u _=>(List.rec (motive:=fun _=>A) (c x y) eD u)) t)) l)
def jQ (m:Nat):BuC:=⟨fun _ _ _=>.bad m⟩
def apZ (pc:PC) (ts:List TypeId):Option Bool:=match ts with | []=>none | u::_=>(match pc.und u with | some (.int _)=>some true | some _=>some false | none=>none)
def buC (pc:PC) (b:Builtin) (argTypes:List TypeId):BuC :=
 match b,argTypes with
 | .append,t::ts=>(match pc.und t with
  | some (.slice el)=>pc.sz el (jQ 0) fun sz=>pc.by el (jQ 0) fun by_=>pc.zc el (jQ 0) fun zc=>chk (Nat.beq (zjX zc) sz && (Nat.ble by_ 1024 && !(Nat.beq sz 0))) (jQ 0) (fN el fun el =>
   match apZ pc ts with
   | some true=>⟨fun args s k=>zEC args fun x y=>zdV el sz zc x y s k⟩
   | some false=>⟨fun args s k=>zEC args fun x y=>zP el sz x y s k⟩
   | none=>jQ 0)
  | _=>jQ 0)
 | .copy,t::_=>(match pc.und t with
  | some (.slice el)=>pc.sz el (jQ 0) fun sz=>⟨fun args s k=>zEC args fun x y=>zHi sz x y s k⟩
  | _=>jQ 0)
 | .len,t::_=>(match pc.und t with
  | some (.slice _)=>⟨fun args s k=>zEo args fun x=>zz x fun v=>k v s⟩
  | some .string=>⟨fun args s k=>zEo args fun x=>zNj x fun v=>k v s⟩
  | some (.map _ _)=>⟨fun args s k=>zEo args fun x=>zJK x s fun v=>k v s⟩
  | _=>jQ 0)
 | .cap,t::_=>(match pc.und t with
  | some (.slice _)=>⟨fun args s k=>zEo args fun x=>zKh x fun v=>k v s⟩
  | _=>jQ 0)
 | .max,_=>⟨fun args s k=>(List.rec (motive:=fun _=>A) eA (fun x l _=>zbW false l x (fun v=>k v s)) args)⟩
 | .min,_=>⟨fun args s k=>(List.rec (motive:=fun _=>A) eA (fun x l _=>zbW true l x (fun v=>k v s)) args)⟩
 | .clear,t::_=>(match pc.und t with
  | some (.slice el)=>pc.sz el (jQ 0) fun sz=>pc.zc el (jQ 0) fun zc=>chk (Nat.beq (zjX zc) sz) (jQ 0) ⟨fun args s k=>zEo args fun x=>zEZ sz zc x s k⟩
  | _=>jQ 0)
 | .unsafeSliceData,_=>⟨fun args s k=>zxU args fun x=>zbv x fun v=>k v s⟩
 | .unsafeString,t::_=>(match pc.und t with
  | some (.pointer e)=>pc.sz e (jQ 0) fun sz=>chk (Nat.beq sz 1) (jQ 0) (fN e fun e=>⟨fun args s k=>ztM args fun x y=>zLO e x y s k⟩)
  | _=>jQ 0)
 | _,_=>jQ 0

def zB (x:V) (c:V→A):A:=(@V.rec mA mU eA (kC (c x)) (kC (c x)) (kB (c x)) (kB (c x)) (kD (c x)) (kF (c x)) (kF (c x)) eB (fun t _=>(@Bool.rec (fun _=>A) (c x) eA (Nat.beq t 3))) (kD (c x)) (fun f _ _ _ _=>(match f with | .func _=>c x | _=>.bad 0)) (kD (c x)) () tE x)

def wY (r:R) (f:Nat) (args:List V) (s:S) (k:V→S→A):A:=zD (r.call f args s) k
def yS:V→V→Bool:=fun a=>V.rec (motive_1:=fun _=>V→Bool) (motive_2:=fun _=>List V→Bool)
 qB (fun k n b=>(@V.rec mP mU false (fun j m=>zq (yl k j) (Nat.beq n m)) qC qB qB qD qF qF qB qC qD qF qD () tE b)) (fun k n b=>(@V.rec mP mU false qC (fun j m=>zq (yl k j) (Nat.beq n m)) qB qB qD qF qF qB qC qD qF qD () tE b))
 (fun x b=>(@V.rec mP mU false qC qC (fun y=>(@Bool.rec (fun _=>Bool) (zat y) y x)) qB qD qF qF qB qC qD qF qD () tE b)) (fun x b=>(@V.rec mP mU false qC qC qB (fun y=>eqS x y) qD qF qF qB qC qD qF qD () tE b))
 (fun a v o b=>(@V.rec mP mU false qC qC qB qB (fun a' v' o'=>zq (K.beq a a') (zq (Nat.beq v v') (Nat.beq o o'))) qF qF qB qC qD qF qD () tE b))
 (fun a v o l c b=>(@V.rec mP mU false qC qC qB qB qD (fun a' v' o' l' c'=>zq (K.beq a a') (zq (Nat.beq v v') (zq (Nat.beq o o') (zq (Nat.beq l l') (Nat.beq c c'))))) qF qB qC qD qF qD () tE b))
 (fun a v o l c b=>(@V.rec mP mU false qC qC qB qB qD qF (fun a' v' o' l' c'=>zq (K.beq a a') (zq (Nat.beq v v') (zq (Nat.beq o o') (zq (Nat.beq l l') (Nat.beq c c'))))) qB qC qD qF qD () tE b))
 (fun t b=>(@V.rec mP mU false qC qC qB qB qD qF qF (fun u=>Nat.beq t u) qC qD qF qD () tE b)) (fun t a b=>(@V.rec mP mU false qC qC qB qB qD qF qF qB (fun u c=>zq (Nat.beq t u) (K.beq a c)) qD qF qD () tE b))
 (fun t _ ih b=>(@V.rec mP mU false qC qC qB qB qD qF qF qB qC (fun u m _=>zq (Nat.beq t u) (ih m)) qF qD () tE b)) (fun f _ _ i1 i2 b=>(@V.rec mP mU false qC qC qB qB qD qF qF qB qC qD (fun g x y _ _=>zq (match f,g with | .func f,.func g=>Nat.beq f g | _,_=>false) (zq (i1 x) (i2 y))) qD () tE b)) (fun t _ ih b=>(@V.rec mP mU false qC qC qB qB qD qF qF qB qC qD qF (fun u y _=>zq (Nat.beq t u) (ih y)) () tE b))
 (fun l=>(List.rec (motive:=fun _=>Bool) true qD l)) (fun _ _ ih1 ih2 l=>(List.rec (motive:=fun _=>Bool) false (fun y l _=>zq (ih1 y) (ih2 l)) l)) a
def zj4:List V→List V→Bool:=fun a=>List.rec (motive:=fun _=>List V→Bool) (fun b=>(List.rec (motive:=fun _=>Bool) true qD b))
 (fun x _ ih b=>(List.rec (motive:=fun _=>Bool) false (fun y l _=>zq (yS x y) (ih l)) b)) a
def zOy (a b:ME):Bool:=match a,b with | ⟨k,v,n⟩,⟨k',v',n'⟩=>zq (Nat.beq n n') (zq (yS k k') (yS v v'))
def zcw:List ME→List ME→Bool:=fun a=>List.rec (motive:=fun _=>List ME→Bool) (fun b=>(List.rec (motive:=fun _=>Bool) true qD b))
 (fun x _ ih b=>(List.rec (motive:=fun _=>Bool) false (fun y l _=>zq (zOy x y) (ih l)) b)) a
def zOA (a b:Bool):Bool:=(@Bool.rec (fun _=>Bool) (zat b) b a)
def ziO (a b:B):Bool:=(@B.rec mE true (fun l n el gr mn f1 f2=>(@B.rec mE false (fun l' n' el' gr' mn' f1' f2'=>zq (Nat.beq n n') (zq (Nat.beq el el') (zq (zOA gr gr') (zq (Nat.beq mn mn') (zq (Nat.beq f1 f1') (zq (Nat.beq f2 f2') (zj4 l l'))))))) qC qI qB qD qF b)) (fun es ck=>(@B.rec mE false qH (fun es' ck'=>zq (Nat.beq ck ck') (zcw es es')) qI qB qD qF b)) qI qB qD qF a)
def zIQ:Tr B→Tr B→Bool:=fun a=>Tr.rec (motive:=fun _=>Tr B→Bool) (fun _=>true)
 (fun _ v _ ihl ihr t=>(Tr.rec (motive:=fun _=>Bool) false (fun l' v' r' _ _=>zq (ziO v v') (zq (ihl l') (ihr r'))) t)) a
def zDj (a b:S):Bool:=(S.rec (motive:=fun _=>Bool) (fun h nx=>(S.rec (motive:=fun _=>Bool) (fun h' nx'=>zq (K.beq nx nx') (zIQ h h')) b)) a)
def zcv (a b:V):V:=(Bool.rec (motive:=fun _=>V) (.bad) a (yS a b))
def zLK (f:V→V→V) (a b:N V):N V:=match a,b with
 | ⟨a0,a1,a2,a3,a4,a5,a6,a7,a8,a9,a10,a11,a12,a13,a14,a15⟩,⟨b0,b1,b2,b3,b4,b5,b6,b7,b8,b9,b10,b11,b12,b13,b14,b15⟩ =>
  ⟨f a0 b0,f a1 b1,f a2 b2,f a3 b3,f a4 b4,f a5 b5,f a6 b6,f a7 b7,f a8 b8,f a9 b9,f a10 b10,f a11 b11,f a12 b12,f a13 b13,f a14 b14,f a15 b15⟩
def zFM (f:N V→N V→N V) (a b:T):T:=match a,b with
 | ⟨a0,a1,a2,a3,a4,a5,a6,a7,a8,a9,a10,a11,a12,a13,a14,a15⟩,⟨b0,b1,b2,b3,b4,b5,b6,b7,b8,b9,b10,b11,b12,b13,b14,b15⟩ =>
  ⟨f a0 b0,f a1 b1,f a2 b2,f a3 b3,f a4 b4,f a5 b5,f a6 b6,f a7 b7,f a8 b8,f a9 b9,f a10 b10,f a11 b11,f a12 b12,f a13 b13,f a14 b14,f a15 b15⟩
def zg8 (a b:T):T:=zFM (zLK zcv) a b
def zhM (t:T) (c:V→Bool):Bool:=match t with
 | ⟨_,_,_,_,_,_,_,_,_,_,_,_,_,_,_,u⟩=>match u with | ⟨x,_,_,_,_,_,_,_,_,_,_,_,_,_,_,_⟩=>c x
def ztx (a b:B):B:=(Bool.rec (motive:=fun _=>B) (.none) a (((@B.rec mE false (fun _ _ _ _ _ _ _=>ziO a b) (fun _ _=>ziO a b) (fun _ _ _ _ _ _ _ _=>ziO a b) (fun _=>ziO a b) (fun _ _ _=>ziO a b) (fun _ _ _ _ _=>ziO a b) a))))
def zrV (a:Tr B):Tr B→Tr B:=Tr.rec (motive:=fun _=>Tr B→Tr B) (fun _=>.lf)
 (fun _ v _ ihl ihr t=>(Tr.rec (motive:=fun _=>Tr B) (.lf) (fun l' v' r' _ _=>.nd (ihl l') (ztx v v') (ihr r')) t)) a
def zGf (a:B):Bool:=(@B.rec mE false (fun _ _ _ _ _ _ _=>true) (fun _ _=>true) qI qB qD qF a)
def zOs (a b:B):Bool:=(@Bool.rec (fun _=>Bool) (zat (zGf b)) (ziO a b) (zGf a))
def zLV (a:Tr B):Bool:=Tr.rec (motive:=fun _=>Bool) true (fun _ v _ l r=>zq (zat (zGf v)) (zq l r)) a
def zOC (a:Tr B):Tr B→Bool:=Tr.rec (motive:=fun _=>Tr B→Bool) (fun t=>zLV t)
 (fun l v r ihl ihr t=>(Tr.rec (motive:=fun _=>Bool) (zq (zat (zGf v)) (zq (zLV l) (zLV r))) (fun l' v' r' _ _=>zq (zOs v v') (zq (ihl l') (ihr r'))) t)) a
def zGr (a b:S):Bool:=(S.rec (motive:=fun _=>Bool) (fun h nx=>(S.rec (motive:=fun _=>Bool) (fun h' nx'=>zq (K.beq nx nx') (zOC h h')) b)) a)
def zjd (a:K):Nat:=K.rec (motive:=fun _=>Nat) 1 (fun _ n=>Nat.mul 2 n) (fun _ n=>Nat.succ (Nat.mul 2 n)) a
def zsb (a b:S):S:=(S.rec (motive:=fun _=>S) (fun h nx=>(S.rec (motive:=fun _=>S) (fun h' nx'=>⟨zrV h h',(Bool.rec (motive:=fun _=>K) nx nx' (Nat.ble (zjd nx) (zjd nx')))⟩) b)) a)
def ze8 (x y:V):Bool:=(@V.rec mP mU ((@V.rec mP mU true qC qC qB qB qD qF qF qB qC qD qF qD () tE y)) (fun _ _=>yS x y) (fun _ _=>yS x y) (fun _=>yS x y) (fun _=>yS x y) (fun _ _ _=>yS x y) (fun _ _ _ _ _=>yS x y) (fun _ _ _ _ _=>yS x y) (fun _=>yS x y) (fun _ _=>yS x y) (fun _ _ _=>yS x y) (fun _ _ _ _ _=>yS x y) (fun _ _ _=>yS x y) () tE x)
def zoy (a b:A) (no:A):A:=(A.rec (motive:=fun _=>A) (fun tm s=>(A.rec (motive:=fun _=>A) (fun tm' s'=>(@Bool.rec (fun _=>A) no (.nrm (zg8 tm tm') (zsb s s')) (zq (zhM tm fun x=>zhM tm' fun y=>ze8 x y) (zGr s s')))) (fun _ _ _=>no) (fun _ _=>no) (fun _ _=>no) (fun _ _=>no) (fun _=>no) (fun _ _ _ _=>no) b)) (fun _ _ _=>no) (fun _ _=>no) (fun _ _=>no) (fun _ _=>no) (fun _=>no) (fun _ _ _ _=>no) a)
def zO5 (a b:A):Bool:=(A.rec (motive:=fun _=>Bool) (fun tm s=>(A.rec (motive:=fun _=>Bool) (fun tm' s'=>zq (zhM tm fun x=>zhM tm' fun y=>ze8 x y) (zGr s s')) qD qC qC qC qB qE b)) qD qC qC qC qB qE a)
def zpg (x:A) (t:A):Bool:=A.rec (motive:=fun _=>Bool) (fun tm s=>zO5 x (.nrm tm s)) qD qC qC qC qB (fun _ _ a b=>(@Bool.rec (fun _=>Bool) b true a)) t
def zdb (x:A) (t:A):A:=A.rec (motive:=fun _=>A) (fun tm s=>zoy x (.nrm tm s) (.alt x (.nrm tm s))) (fun i tm s=>.alt x (.ext i tm s)) (fun tm s=>.alt x (.ret tm s)) (fun c s=>.alt x (.pnc c s)) (fun v s=>.alt x (.fin v s)) (fun m=>.bad m)
 (fun a b ia ib=>(@Bool.rec (fun _=>A) (.alt a ib) (.alt ia b) (zpg x a))) t
def ju (x:A):A→A:=A.rec (motive:=fun _=>A→A) (fun tm s t=>zdb (.nrm tm s) t) (fun i tm s t=>zdb (.ext i tm s) t) (fun tm s t=>zdb (.ret tm s) t) (fun c s t=>zdb (.pnc c s) t) (fun v s t=>zdb (.fin v s) t) (fun m _=>.bad m) (fun _ _ ia ib t=>ia (ib t)) x
def zdK (a:A):A:=A.rec (motive:=fun _=>A) (fun tm s=>.nrm tm s) (fun i tm s=>.ext i tm s) (fun tm s=>.ret tm s) (fun c s=>.pnc c s) (fun v s=>.fin v s) (fun m=>.bad m) (fun _ _ a b=>ju a b) a
def zIn (f:Nat):List Nat→Bool | []=>false | g::l=>match Nat.beq f g with | true=>true | false=>zIn f l
def zEa (b:Bool) (a:A):A:=match b with | true=>a | false=>zdK a
def zqM (a b:F):F:=(F.rec (motive:=fun _=>F) (fun v s=>(F.rec (motive:=fun _=>F) (fun v' s'=>.ret (zcv v v') (zsb s s')) (fun c s=>.pnc c s) (fun m=>.bad m) (fun _ _ _ _=>.bad 0) (b))) (fun c s=>.pnc c s) (fun m=>.bad m) (fun _ _ _ _=>.bad 0) (a))
def zdI (x:F):F:=F.rec (motive:=fun _=>F) (fun v s=>.ret v s) (fun c s=>.pnc c s) (fun m=>.bad m) (fun _ _ a b=>zqM a b) x
def zbF (f:Nat):List Hook→List Hook
 | []=>[]
 | h::l=>match Nat.beq f h.f with | true=>h::zbF f l | false=>zbF f l
def zd4 (hs:List Hook) (args:List V) (s:S) (k:V→S→A) (d:Unit→A):A:=List.rec (motive:=fun _=>A) (d ())
 (fun h _ ih=>(@Bool.rec (fun _=>A) ih (k h.v h.s1) (zq (zj4 h.args args) (zDj h.s0 s)))) hs

def zen (fi:FI) (ps:List Tmp):List V→T→(T→A)→A:=List.rec (motive:=fun _=>List V→T→(T→A)→A)
 (fun l tm c=>(List.rec (motive:=fun _=>A) (c tm) eD l)) (fun p _ ih l tm c=>(List.rec (motive:=fun _=>A) eA (fun v vs _=>(@Bool.rec (fun _=>A) eA ((puC (yc fi.ns p)).run v tm (fun tm=>ih vs tm c)) (zq (zat (yE fi.ns p)) (Nat.blt p fi.nt)))) l)) ps
def zdE (s:S) (l:K) (st:Nat) (pend:Option Code) (c:S→A):A:=zY s l fun b=>(@B.rec mD eA eH eC (fun _ _ fi tm ps asg body df=>jP s l (.loop st pend fi tm ps asg body df) c) eB eD eF b)
def zz3 (s:S) (l:K) (c:S→A):A:=zY s l fun b=>(@B.rec mD eA eH eC (fun st pend fi tm ps asg body df=>(@Bool.rec (fun _=>A) eA (jP s l (.loop 1 pend fi tm ps asg body df) c) (Nat.beq st 0))) eB eD eF b)
def zsU (l:K) (jump:Option Code) (s:S) (k:V→S→A):A:=(Option.rec (motive:=fun _=>A) (zdE s l 0 none (fun s=>k (.bool true) s)) (fun _=>zdE s l 2 jump (fun s=>k (.bool false) s)) jump)
def zfl (r:R) (l:K) (args:List V) (_:T) (s:S) (k:V→S→A):A :=
 zY s l fun b=>(@B.rec mD eA eH eC (fun st _ fi ltm ps asg body _=>(@Bool.rec (fun _=>A) eA (zen fi ps args ltm (fun rtm=>(puC 240).run .bad rtm fun rtm=>(A.rec (motive:=fun _=>A) (fun rtm s=>zz3 s l (fun s=>(A.rec (motive:=fun _=>A) (fun _ s=>zsU l none s k) (fun id _ s=>zsU l (some (.exit id)) s k) (fun _ s=>zsU l (some .ret) s k) (fun c s=>.pnc c s) eC (fun m=>.bad m) eE (r.code fi body rtm s)))) eD eC eC eC (fun m=>.bad m) eE (r.code fi asg rtm s)))) (Nat.beq st 0))) eB eD eF b)
def jz (r:R) (f:V) (args:List V) (tm:T) (s:S) (k:V→S→A):A:=(@V.rec mA mU eA eC eC eB eB eD eF eF eB (fun t l=>(@Bool.rec (fun _=>A) eA (zfl r l args tm s k) (Nat.beq t 3))) eD (fun g first cap _ _=>(match g with | .func g=>zah args cap fun l=>zah first l fun l=>wY r g l s k | _=>.bad 0)) eD () tE f)
def zze (fi:FI) (ds:List Nat) (x:Option Operand):OdsC:=match x with
 | none=>⟨fun _ _ c=>c []⟩
 | some x=>match opd fi ds x with | ⟨f⟩=>⟨fun tm le c=>f tm le fun v=>c [v]⟩
def zy6 (l:List V):Option V:=(List.rec (motive:=fun _=>Option V) none (fun v _ _=>some v) l)
structure PaC where run:T→List V→List V→(List V→A)→A
def paC (fi:FI) (ds:List Nat) (n:Nat) (yc:Nat→Option (Nat × Nat)):List (Nat × Operand)→PaC:=fun l=>match l with
 | []=>⟨fun _ _ cs c=>c cs⟩
 | (i,x)::l=>match yc i,opd fi ds x,paC fi ds n yc l with
  | some (off,sz),⟨f⟩,⟨g⟩=>chk (Nat.ble (off+sz) n) ⟨fun _ _ _ _=>.bad 0⟩ (fN off fun off=>fN sz fun sz=>⟨fun tm le cs c=>f tm le fun v=>zp sz v fun xs=>qY xs off cs fun cs=>g tm le cs c⟩)
  | none,_,_=>⟨fun _ _ _ _=>.bad 0⟩
def zBq (b:Nat) (l:List Nat):Nat→(V→A)→A:=List.rec (motive:=fun _=>Nat→(V→A)→A) (fun _ c=>c (.neg .i64 0)) (fun x _ ih n c=>(@Bool.rec (fun _=>A) (fN (Nat.succ n) fun n=>ih n c) (c (.nat .i64 n)) (Nat.beq x b))) l
def zFD (e:Nat) (args:List V) (s:S) (k:V→S→A):A:=match e with
 | 0=>zxU args fun x=>k x s
 | 1=>ztM args fun x y=>(@V.rec mA mU eA eC eC eB (fun l=>(@V.rec mA mU eA (fun j b=>(@Bool.rec (fun _=>A) eA (zBq b l 0 (fun v=>k v s)) (zq (yl j .u8) (Nat.blt b 256)))) eC eB eB eD eF eF eB eC eD eF eD () tE y)) eD eF eF eB eC eD eF eD () tE x)
 | _=>.bad 0
def zfu (p:V) (s:S) (k:V→S→A):A:=(@V.rec mA mU eA eC eC eB eB (fun a v o=>zY s a (fun b=>(@B.rec mD eA (fun _ n _ gr mn _ _=>(@Bool.rec (fun _=>A) eA (k p s) (j9 n gr mn v (Nat.succ o)))) eC eI eB eD eF b))) eF eF (fun t=>(@Bool.rec (fun _=>A) eA (k p s) (Nat.beq t 0))) eC eD eF eD () tE p)
def zfe (u sz:Nat) (p:V) (s:S) (k:V→S→A):A:=(@V.rec mA mU eA eC eC eB eB (fun a _ o=>zY s a (fun b=>(@B.rec mD eA (fun _ n el gr _ _ _=>(@Bool.rec (fun _=>A) eA (k p s) (zq (zat gr) (zq (Nat.beq el u) (zq (Nat.beq o 0) (Nat.ble sz n)))))) eC eI eB eD eF b))) eF eF (fun t=>(@Bool.rec (fun _=>A) eA (k p s) (Nat.beq t 0))) eC eD eF eD () tE p)
def zOU (t:Nat) (v:V) (c:V→A):A:=c (.ifc t v)
def zbI (t:Nat) (ok:Bool) (zero x:V) (c:V→A):A:=(@V.rec mA mU eA eC eC eB eB eD eF eF (fun u=>(@Bool.rec (fun _=>A) eA (c (.ls 1 [zero,.bool false])) (zq ok (Nat.beq u 4)))) eC eD eF (fun u v _=>(@Bool.rec (fun _=>A) ((@Bool.rec (fun _=>A) eA (c (.ls 1 [zero,.bool false])) ok)) ((@Bool.rec (fun _=>A) (c v) (c (.ls 1 [v,.bool true])) ok)) (Nat.beq u t))) () tE x)
def zeH (n:Nat) (l:List ME):Bool:=List.rec (motive:=fun _=>Bool) true (fun e _ ih=>(@Bool.rec (fun _=>Bool) ih false (Nat.beq n e.born))) l
def j8 (ck:Nat) (l:List ME):Bool:=List.rec (motive:=fun _=>Bool) true (fun e t ih=>zq (Nat.blt e.born ck) (zq (zeH e.born t) ih)) l
def zm3 (x:V) (s:S) (k:V→S→A):A:=(@V.rec mA mU eA eC eC eB eB eD eF eF eB (fun t m=>(@Bool.rec (fun _=>A) eA (zY s m fun b=>(@B.rec mD eA eH (fun es ck=>(@Bool.rec (fun _=>A) eA (jU s (.mit m es ck es none) (fun a s=>k (.ptr a 0 0) s)) (j8 ck es))) eI eB eD eF b)) (Nat.beq t 0))) eD eF eD () tE x)
def zoY (x:V) (s:S) (c:V→A):A:=(@V.rec mA mU eA eC eC eB eB (fun a _ o=>(@Bool.rec (fun _=>A) eA (zY s a fun b=>(@B.rec mD eA eH eC eI eB eD (fun m es ck _ cur=>zY s m (fun mb=>(@B.rec mD eA eH (fun es' ck'=>(@Bool.rec (fun _=>A) eA ((Option.rec (motive:=fun _=>A) eA (fun e=>c (.ls 1 [e.key,e.val])) cur)) (zq (Nat.beq ck ck') (zcw es es')))) eI eB eD eF mb))) b)) (Nat.beq o 0))) eF eF eB eC eD eF eD () tE x)
def zOO (x:V) (s:S) (k:V→S→A):A:=(@V.rec mA mU eA eC eC eB (fun l=>jU s (.it l 0 0) (fun a s=>k (.ptr a 0 0) s)) eD eF eF eB eC eD eF eD () tE x)
/- the letter at the beginning of some bytes: its code point,and how many bytes it has -/
def dcL (l:List Nat):Nat × Nat :=
 let cont (k:Nat):Bool:=decide (k<l.length) && l.getD k 0 / 64 == 2
 let b0:=l.getD 0 0
 if b0<0x80 then (b0,1)
 else if b0 / 32 == 6 && cont 1 then
  let c:=(b0 % 32)*64+l.getD 1 0 % 64
  if c ≥ 0x80 then (c,2) else (0xFFFD,1)
 else if b0 / 16 == 14 && cont 1 && cont 2 then
  let c:=(b0 % 16)*4096+(l.getD 1 0 % 64)*64+l.getD 2 0 % 64
  if c ≥ 0x800 && Utf8.valid c then (c,3) else (0xFFFD,1)
 else if b0 / 8 == 30 && cont 1 && cont 2 && cont 3 then
  let c:=(b0 % 8)*262144+(l.getD 1 0 % 64)*4096+(l.getD 2 0 % 64)*64+l.getD 3 0 % 64
  if c ≥ 0x10000 && Utf8.valid c then (c,4) else (0xFFFD,1)
 else (0xFFFD,1)
def zOl (a:K) (q:Nat × Nat) (l:List Nat) (pos r:Nat) (s:S) (k:V→S→A):A:=fN q.1 fun c=>fN (Nat.add pos q.2) fun p=>jP s a (.it (l.drop q.2) p r) fun s=>k (.ls 1 [.bool true,.nat .i64 pos,.nat .i32 c]) s
def zO7 (x:V) (s:S) (k:V→S→A):A:=(@V.rec mA mU eA eC eC eB eB (fun a _ o=>(@Bool.rec (fun _=>A) eA (zY s a (fun b=>(@B.rec mD eA eH eC eI eB (fun l pos r=>(List.rec (motive:=fun _=>A) (k (.ls 1 [.bool false]) s) (fun c l _=>(@Bool.rec (fun _=>A) (zOl a (dcL (c::l)) (c::l) pos r s k) (fN (Nat.succ pos) (fun p=>jP s a (.it l p r) fun s=>k (.ls 1 [.bool true,.nat .i64 pos,.nat .i32 c]) s)) (Nat.blt c 128))) l)) eF b))) (Nat.beq o 0))) eF eF eB eC eD eF eD () tE x)
def isC:Operand→Bool | .const _=>true | _=>false
def cB (b:Bool) (c:Bool→β):β:=match b with | true=>c true | false=>c false
def zX (m:Nat):OpC:=⟨fun _ _ _ _ _=>.bad m⟩
def un (fi:FI) (ds:List Nat) (x:Operand) (h:V→S→(V→S→A)→A):OpC:=match opd fi ds x with | ⟨f⟩=>⟨fun _ tm le s k=>f tm le fun v=>h v s k⟩
def bi (fi:FI) (ds:List Nat) (x y:Operand) (h:V→V→S→(V→S→A)→A):OpC:=match opd fi ds x,opd fi ds y with | ⟨f⟩,⟨g⟩=>⟨fun _ tm le s k=>f tm le fun v=>g tm le fun u=>h v u s k⟩
def ziA (pc:PC) (fs:List Field):Bool:=match fs with | []=>true | f::l=>(match pc.info f.type with | some _=>ziA pc l | none=>false)
def qL (v:V) (a b:Unit→A):A:=(@V.rec mA mU eA eC eC (fun b'=>(@Bool.rec (fun _=>A) (b ()) (a ()) b')) eB eD eF eF eB eC eD eF eD () tE v)
def zf (off:Nat) (p:V) (c:V→A):A:=(@V.rec mA mU eA eC eC eB eB (fun a v o=>fN (Nat.add o off) (fun o=>c (.ptr a v o))) eF eF eB eC eD eF eD () tE p)
def zOQ (sz n:Nat) (x:V) (lo hi mx:Option V) (c:V→A):A:=(@V.rec mA mU eA eC eC eB eB (fun a v o=>zbY sz a v o n n lo hi mx c) eF eF eB eC eD eF eD () tE x)
def zAD (v:V) (s:S) (k:V→S→A):A:=(@V.rec mA mU eA eC eC eB eB eD eF eF eB eC (fun _ _ _=>k (.nil 4) s) eF eD () tE v)
def zKe (fv:V) (args:List V) (s:S) (k:V→S→A):A:=(@V.rec mA mU eA eC eC eB eB eD eF eF eB eC eD (fun f first cap _ _=>(match f with | .func g=>k (.ls 1 [.fn (.func g) first cap,.ls 1 args]) s | _=>.bad 0)) eD () tE fv)
def zJl (hi mx:Option Operand):Bool:=match mx,hi with | some _,none=>false | _,_=>true
def op (pc:PC) (fi:FI) (ds:List Nat) (o:Oper):OpC:=match o.op with
 | .move x=>un fi ds x fun v s k=>k v s
 | .assign x=>un fi ds x fun v s k=>k v s
 | .pick c a b=>match opd fi ds c,opd fi ds a,opd fi ds b with
  | ⟨f⟩,⟨g⟩,⟨h⟩=>⟨fun _ tm le s k=>f tm le fun v=>qL v (fun _=>g tm le (fun v=>k v s)) (fun _=>h tm le (fun v=>k v s))⟩
 | .alloc el=>pc.zc el (zX 0) fun zc=>fN el fun el=>⟨fun _ _ _ s k=>newRow s el zc false fun a _ s=>k (.ptr a 0 0) s⟩
 | .box el x=>pc.sz el (zX 0) fun sz=>fN el fun el=>un fi ds x fun v s k=>zp sz v fun l=>newRow s el l false fun a _ s=>k (.ptr a 0 0) s
 | .build t parts=>(match pc.und t with
   | some (.struct fs)=>chk (ziA pc fs.toList) (zX 0) (pc.zc t (zX 0) fun zc=>match paC fi ds (zjX zc) (fun i=>(fs[i]?).map fun f=>(f.offset,pc.size f.type)) parts.toList with
    | ⟨f⟩=>⟨fun _ tm le s k=>f tm le zc fun l=>k (.ls 0 l) s⟩)
   | some (.array _ e)=>pc.sz e (zX 0) fun sz=>pc.zc t (zX 0) fun zc=>(match paC fi ds (zjX zc) (fun i=>some (i*sz,sz)) parts.toList with
    | ⟨f⟩=>⟨fun _ tm le s k=>f tm le zc fun l=>k (.ls 0 l) s⟩)
   | _=>zX 0)
 | .buildSlice t len parts=>(match pc.und t with
  | some (.slice e)=>pc.sz e (zX 0) fun sz=>pc.zc e (zX 0) fun zc=>chk (Nat.beq (zjX zc) sz && Nat.ble (len*sz) 16777216) (zX 0) (fN e fun e=>fN len fun len=>j4 zc len fun cs0 =>
    match paC fi ds (len*sz) (fun i=>some (i*sz,sz)) parts.toList with
    | ⟨f⟩=>⟨fun _ tm le s k=>f tm le cs0 fun l=>newRow s e l false fun a _ s=>k (.sl a 0 0 len len) s⟩)
  | _=>zX 0)
 | .load t x=>pc.ag t (zX 0) fun ag=>(match ag with
   | true=>pc.sz t (zX 0) fun sz=>un fi ds x fun p s k=>zd true sz p s k
   | false=>un fi ds x fun p s k=>zd false 1 p s k)
 | .store t x y=>pc.sz t (zX 0) fun sz=>bi fi ds x y fun p v s k=>zJ sz p v s k
 | .nilCheck x=>un fi ds x fun v s k=>zB v fun v=>k v s
 | .binOp b t x y _=>(match b with
   | .shl=>bi fi ds x y fun x y s k=>zdg .shl x y fun v=>k v s
   | .shr=>bi fi ds x y fun x y s k=>zdg .shr x y fun v=>k v s
   | .add=>bi fi ds x y fun x y s k=>zk ⟨9,[]⟩ false .add x y fun v=>k v s
   | .sub=>bi fi ds x y fun x y s k=>zk ⟨9,[]⟩ false .sub x y fun v=>k v s
   | .lss=>bi fi ds x y fun x y s k=>zk ⟨9,[]⟩ false .lss x y fun v=>k v s
   | .eql=>fK (pc.eqKind t) fun q=>cB (isC x || isC y) fun cst=>(match cst || !(Nat.beq q.k 1) with
    | true=>bi fi ds x y fun x y s k=>zk q cst .eql x y fun v=>k v s
    | false=>bi fi ds x y fun x y s k=>zbj q false x y s fun v=>k v s)
   | .neq=>fK (pc.eqKind t) fun q=>cB (isC x || isC y) fun cst=>(match cst || !(Nat.beq q.k 1) with
    | true=>bi fi ds x y fun x y s k=>zk q cst .neq x y fun v=>k v s
    | false=>bi fi ds x y fun x y s k=>zbj q true x y s fun v=>k v s)
   | b=>bi fi ds x y fun x y s k=>zk ⟨9,[]⟩ false b x y fun v=>k v s)
 | .unOp u _ x=>un fi ds x fun x s k=>xUn u x fun v=>k v s
 | .convert src dst x=>(match pc.und src,pc.und dst with
   | some (.int _),some (.int j)=>cvK j fun j=>un fi ds x fun x s k=>yL j x fun v=>k v s
   | some (.pointer t),some .unsafePointer=>pc.sz t (zX 0) fun sz=>chk (!(Nat.beq sz 0)) (zX 0) (un fi ds x fun p s k=>zfu p s k)
   | some .unsafePointer,some (.pointer u)=>pc.sz u (zX 0) fun sz=>chk (!(Nat.beq sz 0)) (zX 0) (fN u fun u=>un fi ds x fun p s k=>zfe u sz p s k)
   | _,_=>zX 0)
 | .typeAssert x _ t ok=>(match pc.und t with
   | some (.interface _)=>zX 0
   | some _=>(match pc.zero t with
    | .bad=>zX 0
    | z=>fN t fun t=>cB ok fun ok=>un fi ds x fun v s k=>zbI t ok z v fun v=>k v s)
   | none=>zX 0)
 | .range t x=>(match pc.und t with
   | some (.map _ _)=>un fi ds x fun x s k=>zm3 x s k
   | _=>zX 0)
 | .entry x=>un fi ds x fun x s k=>zoY x s fun v=>k v s
 | .makeFunc fn a b=>(match zaJ fi ds a.toList,zaJ fi ds b.toList with | ⟨f⟩,⟨g⟩=>⟨fun _ tm le s k=>f tm le fun a=>g tm le fun b=>k (.fn fn a b) s⟩)
 | .makeMap t r=>(match r with
   | none=>⟨fun _ _ _ s k=>jU s (.map [] 0) fun a s=>k (.ref 0 a) s⟩
   | some x=>(match pc.und t with
    | some (.map _ _)=>un fi ds x fun x s k=>(@V.rec mA mU eA (fun _ _=>jU s (.map [] 0) (fun a s=>k (.ref 0 a) s)) eC eB eB eD eF eF eB eC eD eF eD () tE x)
    | _=>zX 0))
 | .makeSlice t x y=>(match pc.und t with
  | some (.slice e)=>pc.sz e (zX 0) fun sz=>pc.by e (zX 0) fun by_=>pc.zc e (zX 0) fun zc=>chk (Nat.beq (zjX zc) sz) (zX 0) (fN e fun e=>bi fi ds x y fun l c s k=>zgN e by_ zc l c s k)
  | _=>zX 0)
 | .slice t x lo hi mx=>chk (zJl hi mx) (zX 0) (match opd fi ds x,zze fi ds lo,zze fi ds hi,zze fi ds mx with
  | ⟨f⟩,⟨g⟩,⟨h⟩,⟨j⟩=>(match pc.und t with
   | some (.slice e)=>pc.sz e (zX 0) fun sz=>fN e fun e=>⟨fun _ tm le s k=>f tm le fun x=>g tm le fun l=>h tm le fun h=>j tm le fun m=>yg e sz x (zy6 l) (zy6 h) (zy6 m) s fun v=>k v s⟩
   | some (.string)=>(match mx with | none=>⟨fun _ tm le s k=>f tm le fun x=>g tm le fun l=>h tm le fun h=>zam x (zy6 l) (zy6 h) fun v=>k v s⟩ | some _=>zX 0)
   | _=>zX 0))
 | .fieldAddr t x i=>(match pc.und t with
  | some (.struct fs)=>(match fs[i]? with
   | some fl=>pc.sz fl.type (zX 0) fun sz=>chk (!(Nat.beq sz 0)) (zX 0) (fN fl.offset fun off=>un fi ds x fun p s k=>zf off p fun v=>k v s)
   | none=>zX 0)
  | _=>zX 0)
 | .field t x i=>(match pc.und t with
  | some (.struct fs)=>(match fs[i]? with
   | some fl=>fN fl.offset fun off=>pc.ag fl.type (zX 0) fun ag=>pc.sz fl.type (zX 0) fun sz=>un fi ds x fun x s k=>zrk ag off sz x fun v=>k v s
   | none=>zX 0)
  | _=>zX 0)
 | .indexAddr t x i=>(match pc.und t with
   | some (.slice e)=>pc.sz e (zX 0) fun sz=>bi fi ds x i fun x i s k=>zg sz x i fun v=>k v s
   | _=>zX 0)
 | .index t x i=>(match pc.und t with
   | some (.array n e)=>fN n fun n=>pc.ag e (zX 0) fun ag=>pc.sz e (zX 0) fun sz=>bi fi ds x i fun x i s k=>zHU n ag sz x i fun v=>k v s
   | some .string=>bi fi ds x i fun x i s k=>zhQ x i fun v=>k v s
   | _=>zX 0)
 | .lookup t x i ok=>(match pc.und t with
   | some (.map j e)=>fK (pc.eqKind j) fun q=>chk (zaz q) (zX 0) (match pc.zero e with
    | .bad=>zX 0
    | z=>cB ok fun ok=>bi fi ds x i fun x i s k=>z4 q z ok x i s fun v=>k v s)
   | _=>zX 0)
 | .mapUpdate t m k x=>(match opd fi ds m,opd fi ds k,opd fi ds x with | ⟨f⟩,⟨g⟩,⟨h⟩=>(match pc.und t with
  | some (.map j _)=>fK (pc.eqKind j) fun q=>chk (zaz q) (zX 0) ⟨fun _ tm le s c=>f tm le fun m=>g tm le fun k=>h tm le fun x=>qw q m k x s c⟩
  | _=>zX 0))
 | .insert t m k x=>(match opd fi ds m,opd fi ds k,opd fi ds x with | ⟨f⟩,⟨g⟩,⟨h⟩=>(match pc.und t with
  | some (.map j _)=>fK (pc.eqKind j) fun q=>chk (zaz q) (zX 0) ⟨fun _ tm le s c=>f tm le fun m=>g tm le fun k=>h tm le fun x=>qw q m k x s c⟩
  | _=>zX 0))
 | .mapEntry t m k=>(match pc.und t with
  | some (.map j e)=>fK (pc.eqKind j) fun q=>chk (zaz q) (zX 0) (match pc.zero e with
   | .bad=>zX 0
   | z=>bi fi ds m k fun m k s c=>zaa q z m k s c)
  | _=>zX 0)
 | .entryStore _ m n x=>(match opd fi ds m,opd fi ds n,opd fi ds x with | ⟨f⟩,⟨g⟩,⟨h⟩=>⟨fun _ tm le s c=>f tm le fun m=>g tm le fun n=>h tm le fun x=>wh m n x s c⟩)
 | .extract x i=>fN i fun i=>un fi ds x fun x s k=>zU i x fun v=>k v s
 | .defer c=>(match c.callee with
  | .value x=>(match opd fi ds x,zaJ fi ds c.args.toList with
   | ⟨f⟩,⟨g⟩=>⟨fun _ tm le s k=>f tm le fun fv=>g tm le fun args=>zKe fv args s k⟩)
  | _=>zX 0)
 | .call c=>(match c.callee with
  | .builtin .recover=>⟨fun _ tm _ s k=>(geC 240).run tm fun v=>zAD v s k⟩
  | .builtin b=>(match zaJ fi ds c.args.toList,buC pc b c.argTypes.toList with | ⟨g⟩,⟨h⟩=>⟨fun _ tm le s k=>g tm le fun args=>h args s k⟩)
  | .value (.func f)=>(match zsB f pc.ext with
   | 0=>fN f fun f=>(match zaJ fi ds c.args.toList,zbF f pc.hooks with
    | ⟨g⟩,[]=>⟨fun r tm le s k=>g tm le fun args=>wY r f args s k⟩
    | ⟨g⟩,h::hs=>⟨fun r tm le s k=>g tm le fun args=>zd4 (h::hs) args s k fun _=>wY r f args s k⟩)
   | e+1=>(match zaJ fi ds c.args.toList with | ⟨g⟩=>⟨fun _ tm le s k=>g tm le fun args=>zFD e args s k⟩))
  | .value x=>(match opd fi ds x,zaJ fi ds c.args.toList with | ⟨f⟩,⟨g⟩=>⟨fun r tm le s k=>f tm le fun fv=>g tm le fun args=>jz r fv args tm s k⟩)
  | _=>zX 0)
 | _=>zX 0

def zW (o:Oper):Bool:=match o.op with | .defer _=>true | _=>false
structure DsC where run:V→T→List V→(T→List V→A)→A
def dsC (fi:FI) (o:Oper):DsC:=match o.dst with
 | some d=>(match Nat.blt d fi.nt,yE fi.ns d with
  | true,true=>⟨fun v tm le c=>c tm (v::le)⟩
  | true,false=>(match puC (yc fi.ns d) with | ⟨p⟩=>⟨fun v tm le c=>p v tm fun tm=>c tm (v::le)⟩)
  | false,_=>⟨fun _ _ _ _=>.bad 0⟩)
 | none=>⟨fun _ tm le c=>c tm le⟩
def zp9 (fi:FI) (o:Oper) (f:OpC) (g:LoC):LoC:=match f,g,dsC fi o with
 | ⟨f⟩,⟨g⟩,⟨d⟩=>(match zW o with
   | true=>⟨fun r tm le s=>f r tm le s fun v s=>(geC 240).run tm fun l=>(@V.rec mA mU eA eC eC eB eB eD eF eF eB eC (fun _ l _=>(puC 240).run (.ls 1 (v::l)) tm (fun tm=>d undef tm le fun tm le=>g r tm le s)) eF eD () tE l)⟩
   | false=>⟨fun r tm le s=>f r tm le s fun v s=>d v tm le fun tm le=>g r tm le s⟩)
def zka (fi:FI) (o:Oper) (g:LoC):LoC:=match g,dsC fi o with
 | ⟨g⟩,⟨d⟩=>⟨fun r tm le s=>d undef tm le fun tm le=>g r tm le s⟩
def zzj (v:V) (yes no:Unit→A):A:=(@V.rec mA mU eA eC eC (fun b=>(@Bool.rec (fun _=>A) (no ()) (yes ()) b)) eB eD eF eF eB eC (fun _ _ _=>no ()) eF eD () tE v)
def zm1 (v:V) (yes no:Unit→A):A:=(@V.rec mA mU eA eC eC (fun b=>(@Bool.rec (fun _=>A) (yes ()) (no ()) b)) eB eD eF eF eB eC (fun _ _ _=>no ()) eF eD () tE v)
def jh (fi:FI) (ds:List Nat) (all:List Oper) (o:Oper) (e g:LoC):LoC:=match o.guard with
 | none=>e
 | some (j,want)=>match (all[j]?).bind (·.dst),e,g with
  | some d,⟨e⟩,⟨g⟩=>(match opd fi ds (.tmp d),want with
   | ⟨f⟩,true=>⟨fun r tm le s=>f tm le fun v=>zzj v (fun _=>e r tm le s) (fun _=>g r tm le s)⟩
   | ⟨f⟩,false=>⟨fun r tm le s=>f tm le fun v=>zm1 v (fun _=>e r tm le s) (fun _=>g r tm le s)⟩)
  | none,_,_=>⟨fun _ _ _ _=>.bad 0⟩
def push (o:Oper) (ds:List Nat):List Nat:=match o.dst with | some d=>(d+1)::ds | none=>ds
def ops (pc:PC) (fi:FI) (all:List Oper):List Oper→List Nat→LoC
 | [],_=>⟨fun _ tm _ s=>.nrm tm s⟩
 | o::os,ds=>match ops pc fi all os (push o ds) with
  | ⟨g⟩=>jh fi ds all o (zp9 fi o (op pc fi ds o) ⟨g⟩) (zka fi o ⟨g⟩)
def qa (o:Oper):Nat:=match o.op with
 | .binOp b _ x y _=>(match b with | .eql | .neq=>(match isC x || isC y with | true=>0 | false=>2) | _=>0)
 | .move _ | .assign _ | .pick .. | .build .. | .fieldAddr .. | .field .. | .indexAddr .. | .index .. | .nilCheck _ | .unOp .. | .makeFunc .. | .extract ..=>0
 | .alloc _ | .box .. | .makeMap .. | .buildSlice .. | .makeSlice ..=>1
 | .load .. | .lookup .. | .slice ..=>2
 | .call c=>(match c.callee with | .builtin .len | .builtin .cap | .builtin .min | .builtin .max=>2 | _=>3)
 | _=>3
def bit (m i:Nat):Bool:=Nat.beq (Nat.mod (Nat.shiftRight m i) 2) 1
def zmF (ms:List Nat):List Edge→Nat→Nat
 | [],m=>m
 | e::l,m=>match Region.binds .any e with | true=>zmF ms l (Nat.lor m (Nat.lor (Nat.pow 2 e.on) (ms.getD e.on 0))) | false=>zmF ms l m
def yB:List Oper→List Nat→List Nat
 | [],ms=>ms
 | o::l,ms=>yB l (ms++[zmF ms o.after.toList 0])
def zjO:Nat→List Nat→List Nat | 0,l=>l | n+1,l=>zjO n (n::l)
def zGv (o:Oper):List Nat:=o.op.operands.toList.filterMap fun | .tmp t=>some t | _=>none
def zLo:List Nat→Bool | []=>true | d::l=>match l.contains d with | true=>false | false=>zLo l
def jw (l:List Oper) (o:Oper):List Nat:=zGv o++(match o.guard with | some (g,_)=>(match (l[g]?).bind (·.dst) with | some e=>[e] | none=>[]) | none=>[])
def zNr (ms:List Nat) (l:List Oper) (j i:Nat):Bool:=match l[j]?,l[i]? with
 | some o,some p=>(match p.dst with | some d=>Nat.beq i j || bit (ms.getD j 0) i || bit (ms.getD i 0) j || !((jw l o).contains d) | none=>true)
 | _,_=>false
def zNU (ms:List Nat) (l:List Oper):Bool :=
 zLo (l.filterMap (·.dst)) && (zjO l.length []).all fun j=>(zjO l.length []).all fun i=>zNr ms l j i
def yd (ms kinds:List Nat) (l:List Oper):List Nat→List Nat→List (Bool × Nat)→Bool
 | done,stale,[]=>stale.isEmpty && (zjO l.length []).all fun i=>done.contains i
 | done,stale,(false,i)::r=>Nat.blt i l.length && (!done.contains i) && ((zjO l.length []).all fun j=>!(bit (ms.getD i 0) j) || done.contains j) && (done.all fun f=>!(Nat.beq (kinds.getD f 3) 3) || bit (ms.getD i 0) f) &&
   (match Nat.beq (kinds.getD i 3) 3 with
    | true=>stale.isEmpty && yd ms kinds l (i::done) (done.filter fun j=>Nat.beq (kinds.getD j 3) 2 && !(bit (ms.getD i 0) j)) r
    | false=>yd ms kinds l (i::done) stale r)
 | done,stale,(true,i)::r=>done.contains i && Nat.beq (kinds.getD i 3) 2 &&
   (done.all fun j=>match (l[j]?).bind (·.dst),l[i]? with | some d,some o=>(!((jw l o).contains d)) || bit (ms.getD i 0) j | _,_=>true) && yd ms kinds l done (stale.filter fun j=>!(Nat.beq j i)) r
def steps (ms kinds:List Nat) (n:Nat):List Nat→List Nat→List (Bool × Nat)
 | done,[]=>((zjO n []).filter fun i=>kinds.getD i 3 != 3 && !done.contains i).map fun i=>(false,i)
 | done,e::es =>
  let now:=(zjO n []).filter fun i=>kinds.getD i 3 != 3 && !done.contains i && (e::es).all fun f=>!bit (ms.getD i 0) f
  let done:=done++now
  let again:=done.filter fun i=>kinds.getD i 3 == 2 && !bit (ms.getD e 0) i
  now.map (fun i=>(false,i))++(false,e)::again.map (fun i=>(true,i))++steps ms kinds n done es
def zdi (fi:FI) (ds:List Nat) (o:Oper) (f:OpC) (g:LoC):LoC:=match f,g,o.dst with
 | ⟨f⟩,⟨g⟩,some d=>(match opd fi ds (.tmp d) with | ⟨h⟩=>⟨fun r tm le s=>f r tm le s fun v _=>h tm le fun w=>(@Bool.rec (fun _=>A) eA (g r tm le s) (yS v w))⟩)
 | _,_,none=>⟨fun _ _ _ _=>.bad 0⟩
def jH (pc:PC) (fi:FI) (all:List Oper):List (Bool × Nat)→List Nat→LoC
 | [],_=>⟨fun _ tm _ s=>.nrm tm s⟩
 | (again,i)::l,ds=>match all[i]? with
  | none=>⟨fun _ _ _ _=>.bad 0⟩
  | some o=>match again with
   | false=>(match jH pc fi all l (push o ds) with | ⟨g⟩=>jh fi ds all o (zp9 fi o (op pc fi ds o) ⟨g⟩) (zka fi o ⟨g⟩))
   | true=>(match jH pc fi all l ds with | ⟨g⟩=>jh fi ds all o (zdi fi ds o (op pc fi ds o) ⟨g⟩) ⟨g⟩)
def zy8 (l:List Oper):Bool:=l.all fun o=>o.after.toList.all fun e=>!(Region.binds .any e) || Nat.blt e.on l.length
def zjb (l:List Oper) (ms kinds:List Nat) (st:List (Bool × Nat)):Bool:=zNU ms l && yd ms kinds l [] [] st && zy8 l && !(l.any zW)
def qr (l:List Oper):List (Bool × Nat):=steps (yB l []) (l.map qa) l.length [] ((zjO l.length []).filter fun i=>(l.map qa).getD i 3 == 3)
def zek (f:ME→List ME→A) (l:List ME):List ME→A:=List.rec (motive:=fun _=>List ME→A) eB
 (fun e t ih pre=>zah pre t fun r=>(List.rec (motive:=fun _=>A) (f e r) (fun _ _ _=>.alt (f e r) (zah pre [e] fun pre=>ih pre)) t)) l
def zcW (x:V) (s:S) (k:V→S→A):A:=(@V.rec mA mU eA eC eC eB eB (fun a _ o=>(@Bool.rec (fun _=>A) eA (zY s a fun b=>(@B.rec mD eA eH eC eI eB eD (fun m es ck rest _=>zY s m (fun mb=>(@B.rec mD eA eH (fun es' ck'=>(@Bool.rec (fun _=>A) eA ((List.rec (motive:=fun _=>A) (jP s a .none (fun s=>k (.ls 1 [.bool false]) s)) (fun _ _ _=>zek (fun e rest=>jP s a (.mit m es ck rest (some e)) fun s=>k (.ls 1 [.bool true,e.key,e.val]) s) rest []) rest)) (zq (Nat.beq ck ck') (zcw es es')))) eI eB eD eF mb))) b)) (Nat.beq o 0))) eF eF eB eC eD eF eD () tE x)
def zbR (o:Oper):Option Operand:=match o.op,o.guard,zW o with | .next x false,none,false=>some x | _,_,_=>none
def zNg (fi:FI) (x:Operand) (o:Oper) (g:LoC):LoC:=match g,opd fi [] x,dsC fi o with
 | ⟨g⟩,⟨f⟩,⟨d⟩=>⟨fun r tm le s=>f tm le fun v=>zcW v s fun w s=>d w tm le fun tm le=>g r tm le s⟩
def jp (pc:PC) (fi:FI) (draw:Bool) (l:List Oper):LoC:=match draw with
 | false=>(match l with
  | o::os=>(match zbR o with
   | some x=>zNg fi x o (ops pc fi l os (push o []))
   | none=>ops pc fi l l [])
  | []=>ops pc fi l l [])
 | true=>match pc.mixed && zjb l (yB l []) (l.map qa) (qr l) with
  | true=>(match jH pc fi l (qr l) [] with | ⟨f⟩=>⟨fun r tm le s=>f r.det tm le s⟩)
  | false=>⟨fun _ _ _ _=>.bad 0⟩

def zl (pc:PC) (fi:FI):Code→CoC
 | .skip=>⟨fun _ tm s=>.nrm tm s⟩
 | .region _ l d=>match jp pc fi d l.toList with | ⟨f⟩=>⟨fun r tm s=>f r tm [] s⟩
 | .seq a b=>⟨fun r tm s=>wU (fun tm s=>(zl pc fi b).run r tm s) (fun i tm s=>.ext i tm s) (fun tm s=>.ret tm s) ((zl pc fi a).run r tm s)⟩
 | .cond c a b=>match opd fi [] c with
  | ⟨f⟩=>⟨fun r tm s=>f tm [] fun v=>(@V.rec mA mU eA eC eC (fun b'=>(@Bool.rec (fun _=>A) ((zl pc fi b).run r tm s) ((zl pc fi a).run r tm s) b')) eB eD eF eF eB eC eD eF eD () tE v)⟩
 | .block id c=>fN id fun id=>cB (zIn 999999 pc.mg) fun nm=>⟨fun r tm s=>zEa nm (wU (fun tm s=>.nrm tm s) (fun i tm s=>(@Bool.rec (fun _=>A) (.ext i tm s) (.nrm tm s) (Nat.beq i id))) (fun tm s=>.ret tm s) ((zl pc fi c).run r tm s))⟩
 | .loop c=>⟨fun r tm s=>wU (fun tm s=>r.code fi (.loop c) tm s) (fun i tm s=>.ext i tm s) (fun tm s=>.ret tm s) ((zl pc fi c).run r tm s)⟩
 | .rangeFunc f ps asg body=>match opd fi [] f with
  | ⟨f⟩=>⟨fun r tm s=>(geC 240).run tm fun dl=>(@V.rec mA mU eA eC eC eB eB eD eF eF eB eC (fun _ dl _=>jU s (.dfd (some [])) (fun d s=>jU s (.loop 0 none fi tm ps.toList asg body d) fun l s=>(puC 240).run (.ls 1 (.ref 2 d::dl)) tm fun tm=>f tm [] fun fv=>jz r.det fv [.ref 3 l] tm s fun _ s=>zY s l fun b=>(@B.rec mD eA eH eC (fun st p _ _ _ _ _ _=>(@Bool.rec (fun _=>A) (zdE s l 3 p (fun s=>(match p with | none=>.nrm tm s | some .ret=>.ret tm s | some (.exit i)=>.ext i tm s | some _=>.bad 0))) eA (Nat.beq st 1))) eB eD eF b))) eF eD () tE dl)⟩
 | .exit id=>fN id fun id=>⟨fun _ tm s=>.ext id tm s⟩
 | .scope c=>⟨fun r tm s=>(zl pc fi c).run r tm s⟩
 | .label _=>⟨fun _ tm s=>.nrm tm s⟩
 | .ret=>⟨fun _ tm s=>.ret tm s⟩
 | .goto _=>⟨fun _ _ _=>.bad 0⟩
 | .refuse _=>⟨fun _ _ _=>.bad 0⟩

structure ReC where run:T→S→(List V→A)→A
def ql (pc:PC) (fi:FI):List ResultVar→ReC
 | []=>⟨fun _ _ c=>c []⟩
 | .tmp t::l=>match ql pc fi l,geC (yc fi.ns t) with | ⟨g⟩,⟨f⟩=>⟨fun tm s c=>f tm fun v=>g tm s fun l=>c (v::l)⟩
 | .cell t ty::l=>match ql pc fi l,geC (yc fi.ns t) with
  | ⟨g⟩,⟨f⟩=>pc.ag ty ⟨fun _ _ _=>.bad 0⟩ fun ag=>(match ag with
   | true=>pc.sz ty ⟨fun _ _ _=>.bad 0⟩ fun sz=>⟨fun tm s c=>f tm fun p=>zd true sz p s fun v _=>g tm s fun l=>c (v::l)⟩
   | false=>⟨fun tm s c=>f tm fun p=>zd false 1 p s fun v _=>g tm s fun l=>c (v::l)⟩)
def yp (l:List V) (s:S):A:=(List.rec (motive:=fun _=>A) (.fin undef s) (fun v t _=>(List.rec (motive:=fun _=>A) (.fin v s) (fun _ _ _=>.fin (.ls 1 l) s) t)) l)
def qk (a:A):F:=A.rec (motive:=fun _=>F) (fun _ _=>.bad 0) (fun _ _ _=>.bad 0) (fun _ _=>.bad 0) (fun v s=>.pnc v s) (fun v s=>.ret v s) (fun m=>.bad m) (fun _ _ a b=>.alt a b) a
def z7 (f:T→S→A) (a:A):A:=A.rec (motive:=fun _=>A) (fun tm s=>f tm s) eD (fun tm s=>f tm s) (fun c s=>.pnc c s) eC (fun m=>.bad m) (fun _ _ a b=>.alt a b) a
def zcQ (f:T→S→A) (a:A):A:=A.rec (motive:=fun _=>A) (fun tm s=>f tm s) eD (fun tm s=>f tm s) eC eC (fun m=>.bad m) (fun _ _ a b=>.alt a b) a
def zzo (pc:PC) (f:Nat) (g:FnC):FnC:=match zIn f pc.mg,g with | true,⟨g⟩=>⟨fun r args s=>zdI (g r args s)⟩ | false,g=>g
def zNv (a b c:List V) (k:List V→β):β:=zah b c fun l=>zah a l k
def jJ (r:R) (l:List V):S→(S→A)→A:=List.rec (motive:=fun _=>S→(S→A)→A) (fun s c=>c s)
 (fun d _ ih s c=>(@V.rec mA mU (.bad 0) (fun _ _=>.bad 0) (fun _ _=>.bad 0) (fun _=>.bad 0) (fun _=>.bad 0) (fun _ _ _=>.bad 0) (fun _ _ _ _ _=>.bad 0) (fun _ _ _ _ _=>.bad 0) (fun _=>.bad 0) (fun _ b=>zY s b (fun o=>(@B.rec mD (.bad 0) (fun _ _ _ _ _ _ _=>.bad 0) (fun _ _=>.bad 0) (fun _ _ _ _ _ _ _ _=>.bad 0) (fun x=>(match x with | some []=>jP s b (.dfd none) fun s=>ih s c | _=>.bad 0)) (fun _ _ _=>.bad 0) (fun _ _ _ _ _=>.bad 0) (o)))) (fun _ p _=>(match p with | [.fn (.func f) first cap,.ls _ args]=>zNv first args cap fun l=>(F.rec (motive:=fun _=>A) (fun _ s=>ih s c) (fun _ _=>.bad 0) (fun m=>.bad m) (fun _ _ _ _=>.bad 0) (r.call f l s)) | _=>.bad 0)) (fun _ _ _ _ _=>.bad 0) (fun _ _ _=>.bad 0) () (fun _ _ _ _=>()) (d))) l
def jZ (fi:FI) (args:List V):Nat→T→(T→A)→A:=List.rec (motive:=fun _=>Nat→T→(T→A)→A) (fun _ t c=>c t)
 (fun v _ ih n t c=>(@Bool.rec (fun _=>A) eA ((puC (yc fi.ns n)).run v t (fun t=>fN (Nat.succ n) fun n=>ih n t c)) (zq (zat (yE fi.ns n)) (Nat.blt n fi.nt)))) args
def zeX:Code→Bool
 | .region _ l _=>l.toList.any zW
 | .seq a b | .cond _ a b=>zeX a || zeX b
 | .block _ b | .loop b | .scope b=>zeX b
 | .rangeFunc ..=>true
 | _=>false
def wa:Code→Bool
 | .region _ l _=>l.toList.any fun o=>match o.op with | .call c=>(match c.callee with | .builtin .recover=>true | _=>false) | _=>false
 | .seq a b | .cond _ a b=>wa a || wa b
 | .block _ b | .loop b | .scope b=>wa b
 | .rangeFunc _ _ a b=>wa a || wa b
 | _=>false
def yi (res:T→S→(List V→A)→A) (tm:T) (s:S):A:=(geC 240).run tm fun d=>(@V.rec mA mU (res tm s (fun l=>yp l s)) eC eC eB eB eD eF eF eB eC eD eF eD () tE d)
def zta (res:T→S→(List V→A)→A) (r:R) (tm:T) (s:S):A:=(geC 240).run tm fun d=>(@V.rec mA mU eA eC eC eB eB eD eF eF eB eC (fun _ l _=>jJ r l s (fun s=>res tm s fun l=>yp l s)) eF eD () tE d)
def fnC (pc:PC) (f:Nat):FnC:=match pc.func f with
 | none=>⟨fun _ _ _=>.bad 0⟩
 | some fn=>match fn.body with
  | none=>⟨fun _ _ _=>.bad (1000+f)⟩
  | some c=>match fN (pc.nsOf f) (fun ns=>fN fn.ntmps fun nt=>(⟨ns,nt,pc.ng⟩:FI)) with
   | fi=>match ql pc fi fn.results.toList,(zeX c || wa c) with
    | ⟨res⟩,false=>⟨fun r args s=>qk (jZ fi args 0 T.new fun tm=>z7 (fun tm s=>yi res tm s) ((zl pc fi c).run r tm s))⟩
    | ⟨res⟩,true =>
     ⟨fun r args s=>qk (jZ fi args 0 T.new fun tm=>(puC 240).run (.ls 1 []) tm fun tm=>zcQ (fun tm s=>zta res r tm s) ((zl pc fi c).run r tm s))⟩

def run (pc:PC) (n:Nat):R :=
 Nat.rec (motive:=fun _=>R) ⟨fun _ _ _ _=>.bad 0,fun _ _ _=>.bad 0⟩
  (fun _ ih=>⟨fun fi c tm s=>(zl pc fi c).run ih tm s,fun f args s=>(zzo pc f (fnC pc f)).run ih args s⟩) n

end
end Go.Ev
