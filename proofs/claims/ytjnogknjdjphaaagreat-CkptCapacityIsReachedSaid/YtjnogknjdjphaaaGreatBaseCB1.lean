/- Lemmas for a proof in several parts. -/
import Derived.OrdersIn
import Derived.RangeFuncIn
import Derived.RangeFuncLeaves
import Derived.RangeFuncRecord
import Derived.KernelRfl
import Derived.Laws.Sem
import Derived.Laws.World
import Derived.Laws.Cells
import Derived.Laws.StructEq
import Derived.Test.YtjnogknjdjphaaaGreatProg
import Derived.Deep.AppendSrc
set_option linter.unusedVariables false
set_option linter.unusedSimpArgs false
/-
  A small calculus over the model's code, for this seat's walks: functions are compiled into a plain form (Cd), of which Ev tells what must hold for a run to come to a wanted end.
  Definitions alone; the proofs stand in the texts behind it.
-/
namespace Dn
open Go

/-- Registers of an activation, and the blocks of its loops over functions. -/
structure Rg where
  f : Nat → Value
  ds : List Nat

def upd (T : Rg) (d : Nat) (v : Value) : Rg := ⟨fun i => bif Nat.beq i d then v else T.f i, T.ds⟩
def updO (T : Rg) (d : Option Nat) (v : Value) : Rg := match d with | some d => upd T d v | none => T

inductive X where
  | r (n : Nat)
  | c (v : Value)

def Rg.ev (T : Rg) : X → Value
  | .r n => T.f n
  | .c v => v

def Rg.evs (T : Rg) : List X → List Value
  | [] => []
  | x :: l => T.ev x :: T.evs l

def Rg.evR (T : Rg) : Operand → Value
  | .tmp t => T.f t
  | .const v => v
  | .global g => .pointer (some ⟨g, 0, none⟩)
  | .func f => .func (.func f) #[] #[]

def cX : Operand → X
  | .tmp t => .r t
  | .const v => .c v
  | .global g => .c (.pointer (some ⟨g, 0, none⟩))
  | .func f => .c (.func (.func f) #[] #[])

def kEq : IntKind → IntKind → Bool
  | .i8, .i8 | .i16, .i16 | .i32, .i32 | .i64, .i64 | .u8, .u8 | .u16, .u16 | .u32, .u32 | .u64, .u64 => true
  | _, _ => false

/-- Expressions that neither read nor turn the world. -/
inductive PE where
  | mov (x : X)
  | un (op : UnOp) (x : X)
  | cmp (op : BinOp) (x y : X)
  | cmpb (neg : Bool) (x y : X)
  | ext (x : X) (i : Nat)
  | fad (x : X) (off : Nat)
  | fld (x : X) (off : Nat) (n : Option Nat)
  | bld (zero : List Value) (ps : List (Nat × Nat × X))
  | nck (x : X)
  | mkf (fn : Fn) (a b : List X)
  | len (x : X)
  | lns (x : X)
  | cvi (k : IntKind) (x : X)
  | cvs (x : X)
  | mn (x : X) (l : List X)
  | mx (x : X) (l : List X)
  | eqn (k : Nat) (neg : Bool) (x y : X)
  | eqc (neg : Bool) (n : Nat) (x y : X)
  | eqs (neg : Bool) (ks : List Bool) (x y : X)
  | s2a (n : Nat) (x : X)
  | ixa (n : Nat) (x i : X)
  | ixp (len n : Nat) (x i : X)
  | ixv (len : Nat) (n : Option Nat) (x i : X)
  | ixs (x i : X)
  | sls (x : X) (lo hi : Option X)
  | sll (n : Nat) (x : X) (lo hi : Option X)
  | slp (len n : Nat) (x : X) (lo hi : Option X)

def notI (k : IntKind) (n : Int) : Int := k.wrap ((BitVec.ofInt k.bits (if k.signed then -1 else k.max) ^^^ BitVec.ofInt k.bits n).toNat : Int)

def cmpI (op : BinOp) (x y : Int) : Option Value :=
  match op with
  | .eql => some (.bool (x == y))
  | .neq => some (.bool (x != y))
  | .lss => some (.bool (decide (x < y)))
  | .leq => some (.bool (decide (x ≤ y)))
  | .gtr => some (.bool (decide (x > y)))
  | .geq => some (.bool (decide (x ≥ y)))
  | _ => none

def cmpS (op : BinOp) (x y : ByteArray) : Option Value :=
  match op with
  | .eql => some (.bool (x.toList == y.toList))
  | .neq => some (.bool (!(x.toList == y.toList)))
  | _ => none

def fillL : List Value → List (Nat × Nat × List Value) → Option (List Value)
  | cs, [] => some cs
  | cs, (off, n, vs) :: rest =>
    bif Nat.beq vs.length n && Nat.ble (off + n) cs.length then fillL (cs.take off ++ (vs ++ cs.drop (off + n))) rest else none

def partsV (T : Rg) : List (Nat × Nat × X) → List (Nat × Nat × List Value)
  | [] => []
  | (off, n, x) :: l => (off, n, (T.ev x).cells.toList) :: partsV T l

def mnI : Value → List Value → Option Value
  | v, [] => some v
  | .int k x, .int _ y :: l => mnI (.int k (if y < x then y else x)) l
  | _, _ => none

def mxI : Value → List Value → Option Value
  | v, [] => some v
  | .int k x, .int _ y :: l => mxI (.int k (if y > x then y else x)) l
  | _, _ => none

/-- Are two lists of ints of one kind each the same? -/
def eqL : List Value → List Value → Option Bool
  | [], [] => some true
  | .int k a :: l, .int k' b :: r => bif kEq k k' then (match eqL l r with | some t => some (a == b && t) | none => none) else none
  | _, _ => none

/-- Are two lists of ints (true) and strings (false) the same? -/
def eqM : List Bool → List Value → List Value → Option Bool
  | [], [], [] => some true
  | true :: ks, .int k a :: l, .int k' b :: r => bif kEq k k' then (match eqM ks l r with | some t => some (a == b && t) | none => none) else none
  | false :: ks, .string a :: l, .string b :: r => match eqM ks l r with | some t => some (a.toList == b.toList && t) | none => none
  | _, _, _ => none

def sgn (neg b : Bool) : Bool := bif neg then !b else b

def bndV (T : Rg) (x : Option X) (dflt : Nat) (top : Nat) : Option Nat :=
  match x with
  | none => some dflt
  | some x => match T.ev x with
    | .int _ i => if 0 ≤ i ∧ i ≤ (top : Int) then some i.toNat else none
    | _ => none

def PE.ev (T : Rg) : PE → Option Value
  | .mov x => some (T.ev x)
  | .un op x =>
    match op, T.ev x with
    | .not, .bool b => some (.bool (!b))
    | .neg, .int k n => some (.int k (k.wrap (0 - n)))
    | .xor, .int k n => some (.int k (notI k n))
    | _, _ => none
  | .cmp op x y =>
    match T.ev x, T.ev y with
    | .int k a, .int k' b => bif kEq k k' then cmpI op a b else none
    | .string a, .string b => cmpS op a b
    | _, _ => none
  | .cmpb neg x y =>
    match T.ev x, T.ev y with
    | .bool a, .bool b => some (.bool (bif neg then !(a == b) else a == b))
    | _, _ => none
  | .ext x i =>
    match T.ev x with
    | .tuple ⟨vs⟩ => vs[i]?
    | _ => none
  | .fad x off =>
    match T.ev x with
    | .pointer (some ⟨b, o, none⟩) => some (.pointer (some ⟨b, o + off, none⟩))
    | _ => none
  | .fld x off n =>
    match T.ev x with
    | .agg ⟨cs⟩ => match n with
      | none => cs[off]?
      | some n => some (.agg ⟨(cs.drop off).take n⟩)
    | _ => none
  | .bld zero ps => match fillL zero (partsV T ps) with
    | some cs => some (.agg ⟨cs⟩)
    | none => none
  | .nck x =>
    match T.ev x with
    | .pointer (some a) => some (.pointer (some a))
    | .func (.func f) a b => some (.func (.func f) a b)
    | .func (.yield l) a b => some (.func (.yield l) a b)
    | _ => none
  | .mkf fn a b => some (.func fn ⟨T.evs a⟩ ⟨T.evs b⟩)
  | .len x =>
    match T.ev x with
    | .slice _ n _ => some (.int .i64 (n : Int))
    | _ => none
  | .lns x =>
    match T.ev x with
    | .string s => some (.int .i64 (s.size : Int))
    | _ => none
  | .cvi k x =>
    match T.ev x with
    | .int _ n => some (.int k (k.wrap n))
    | _ => none
  | .cvs x =>
    match T.ev x with
    | .string s => some (.string s)
    | _ => none
  | .mn x l => mnI (T.ev x) (T.evs l)
  | .mx x l => mxI (T.ev x) (T.evs l)
  | .eqn k neg x y =>
    match k, T.ev x, T.ev y with
    | 0, .pointer a, .pointer none => some (.bool (sgn neg a.isNone))
    | 1, .slice a _ _, .slice none _ _ => some (.bool (sgn neg a.isNone))
    | 2, .map a, .map none => some (.bool (sgn neg a.isNone))
    | 3, .nilFunc, .nilFunc => some (.bool (sgn neg true))
    | 3, .func _ _ _, .nilFunc => some (.bool (sgn neg false))
    | _, _, _ => none
  | .eqc neg n x y =>
    match T.ev x, T.ev y with
    | .agg ⟨a⟩, .agg ⟨b⟩ => bif Nat.beq a.length n && Nat.beq b.length n then (match eqL a b with | some t => some (.bool (sgn neg t)) | none => none) else none
    | _, _ => none
  | .eqs neg ks x y =>
    match T.ev x, T.ev y with
    | .agg ⟨a⟩, .agg ⟨b⟩ => match eqM ks a b with | some t => some (.bool (sgn neg t)) | none => none
    | _, _ => none
  | .s2a n x =>
    match T.ev x with
    | .slice a ln _ => if n ≤ ln then some (.pointer a) else none
    | _ => none
  | .ixa n x i =>
    match T.ev x, T.ev i with
    | .slice (some ⟨b, o, none⟩) ln _, .int _ i => if 0 ≤ i ∧ i < (ln : Int) then some (.pointer (some ⟨b, o + i.toNat * n, none⟩)) else none
    | _, _ => none
  | .ixp ln n x i =>
    match T.ev x, T.ev i with
    | .pointer (some ⟨b, o, none⟩), .int _ i => if 0 ≤ i ∧ i < (ln : Int) then some (.pointer (some ⟨b, o + i.toNat * n, none⟩)) else none
    | _, _ => none
  | .ixv ln n x i =>
    match T.ev x, T.ev i with
    | .agg ⟨cs⟩, .int _ i => if 0 ≤ i ∧ i < (ln : Int) then (match n with | none => cs[i.toNat]? | some n => some (.agg ⟨(cs.drop (i.toNat * n)).take n⟩)) else none
    | _, _ => none
  | .ixs x i =>
    match T.ev x, T.ev i with
    | .string s, .int _ i => if 0 ≤ i ∧ i < (s.size : Int) then some (.int .u8 ((s.data.toList.getD i.toNat 0).toNat : Int)) else none
    | _, _ => none
  | .sls x lo hi =>
    match T.ev x with
    | .string s => match bndV T hi s.size s.size with
      | some h => match bndV T lo 0 h with
        | some l => some (.string (s.extract l h))
        | none => none
      | none => none
    | _ => none
  | .sll n x lo hi =>
    match T.ev x with
    | .slice a ln cap => match bndV T hi ln cap with
      | some h => match bndV T lo 0 h with
        | some l => some (.slice (if cap = l then a else a.map (·.add (l * n))) (h - l) (cap - l))
        | none => none
      | none => none
    | _ => none
  | .slp ln n x lo hi =>
    match T.ev x with
    | .pointer (some a) => match bndV T hi ln ln with
      | some h => match bndV T lo 0 h with
        | some l => some (.slice (some (if ln = l then a else a.add (l * n))) (h - l) (ln - l))
        | none => none
      | none => none
    | _ => none

/-- Arithmetic. -/
def arV (op : BinOp) (x y : Value) : Option Value :=
  match op, x, y with
  | .shl, .int k a, .int _ b => if b < 0 then none else some (.int k (k.wrap (a * 2 ^ (min b.toNat k.bits))))
  | .shr, .int k a, .int _ b => if b < 0 then none else some (.int k (a.fdiv (2 ^ (min b.toNat k.bits))))
  | .add, .int k a, .int k' b => bif kEq k k' then some (.int k (k.wrap (a + b))) else none
  | .sub, .int k a, .int k' b => bif kEq k k' then some (.int k (k.wrap (a - b))) else none
  | .mul, .int k a, .int k' b => bif kEq k k' then some (.int k (k.wrap (a * b))) else none
  | .quo, .int k a, .int k' b => bif kEq k k' then (if b = 0 then none else some (.int k (k.wrap (a.tdiv b)))) else none
  | .rem, .int k a, .int k' b => bif kEq k k' then (if b = 0 then none else some (.int k (a.tmod b))) else none
  | .and, .int k a, .int k' b => bif kEq k k' then some (.int k (k.wrap ((BitVec.ofInt k.bits a &&& BitVec.ofInt k.bits b).toNat : Int))) else none
  | .or, .int k a, .int k' b => bif kEq k k' then some (.int k (k.wrap ((BitVec.ofInt k.bits a ||| BitVec.ofInt k.bits b).toNat : Int))) else none
  | .xor, .int k a, .int k' b => bif kEq k k' then some (.int k (k.wrap ((BitVec.ofInt k.bits a ^^^ BitVec.ofInt k.bits b).toNat : Int))) else none
  | .add, .string a, .string b => if ((a.size + b.size : Nat) : Int) > IntKind.i64.max then none else some (.string (a ++ b))
  | _, _, _ => none

inductive Bop where
  | p (d : Option Nat) (e : PE)
  | pk (d : Option Nat) (c a b : X)
  | ar (d : Option Nat) (op : BinOp) (x y : X)
  | ld (d : Option Nat) (n : Option Nat) (x : X)
  | st (d : Option Nat) (n : Nat) (x y : X)
  | nw (d : Option Nat) (t : TypeId) (cs : List Value)
  | bx (d : Option Nat) (t : TypeId) (x : X)
  | call (d : Option Nat) (f : FuncId) (args : List X)
  | cf (d : Option Nat) (x : X) (args : List X)
  | raw (d : Option Nat) (o : Op) (ty : TypeId)
  | s2b (d : Option Nat) (e : TypeId) (x : X)
  | b2s (d : Option Nat) (x : X)
  | bad

inductive Ins where
  | op (o : Bop)
  | gd (r : Nat) (b : Bool) (d : Option Nat) (o : Bop)

/-- The orders that a region leaves open. -/
inductive DT where
  | done
  | step (i : Ins) (t : DT)
  | alt (a b : DT)
  | bad

inductive Cd where
  | skip
  | ops (l : List Ins) (draw : Bool)
  | dr (t : DT)
  | seq (a b : Cd)
  | ite (c : X) (a b : Cd)
  | blk (id : Nat) (a : Cd)
  | loop (a : Cd)
  | exit (id : Nat)
  | ret
  | rf (g : X) (ps : List Nat) (assign body : Code) (ca cb : Cd)
  | bad

def Bop.dst : Bop → Option Nat
  | .p d _ | .pk d _ _ _ | .ar d _ _ _ | .ld d _ _ | .st d _ _ _ | .nw d _ _ | .bx d _ _ | .call d _ _ | .cf d _ _ | .raw d _ _ | .s2b d _ _ | .b2s d _ => d
  | .bad => none

/-- n cells from an address on. -/
def rowOf (w : World) (a : Addr) (n : Nat) : Option (List Value) :=
  match w.heap[a.block]? with
  | some (.cells ⟨c⟩ _ _) => if a.spot = none ∧ a.off + n ≤ c.length then some ((c.drop a.off).take n) else none
  | _ => none

def ldV (n : Option Nat) (x : Value) (w : World) : Option Value :=
  match x with
  | .pointer (some a) => match n with
    | none => w.cell? a
    | some n => (rowOf w a n).map fun l => .agg ⟨l⟩
  | _ => none

/-- The bytes in a list of cells. -/
def bytesOf : List Value → Option (List UInt8)
  | [] => some []
  | .int .u8 n :: l => match bytesOf l with | some r => some (UInt8.ofNat n.toNat :: r) | none => none
  | _ => none

def b2sV (x : Value) (w : World) : Option Value :=
  match x with
  | .slice none _ _ => some (.string ⟨#[]⟩)
  | .slice (some a) len _ => match rowOf w a len with
    | some l => match bytesOf l with
      | some r => some (.string ⟨⟨r⟩⟩)
      | none => none
    | none => none
  | _ => none

def byteCells (s : ByteArray) : List Value := s.data.toList.map fun b => .int .u8 (b.toNat : Int)

def Value.flat : Value → Bool
  | .agg _ | .tuple _ => false
  | _ => true

def putAt (l : List Value) (off : Nat) (vs : List Value) : List Value := l.take off ++ (vs ++ l.drop (off + vs.length))

def yieldTo (P : Program) (l : Nat) (args : List Value) (w : World) (Q : Value → World → Prop) : Prop :=
  ∃ fn tmps assign body, (Instr.yield l ⟨args⟩).run P w = .ok (.round l fn tmps assign body) w ∧
    RoundIn Fence.wide 0 P l fn tmps assign body w (fun e w' => ∃ v, e = .returned v ∧ Q v w')

/-- A call that returns. -/
def CallTo (P : Program) (f : FuncId) (args : List Value) (w : World) (Q : Value → World → Prop) : Prop :=
  Calls P f ⟨args⟩ w fun e w' => ∃ v, e = .returned v ∧ Q v w'

def callable (P : Program) (f : FuncId) : Bool :=
  match P.funcs[f]? with
  | some fn => fn.body.isSome && fn.name != "runtime.NumGoroutine"
  | none => false

def rawSem (T : Rg) (o : Op) (ty : TypeId) : Sem Next := execOp T.evR { dst := none, op := o, type := ty, pos := "", after := #[], guard := none }

/-- What must hold ahead of an operation, so that what is wanted (N) holds behind it. -/
def opSem (P : Program) (o : Bop) (N : Rg → World → Prop) (T : Rg) (w : World) : Prop :=
  match o with
  | .p d e => ∃ v, e.ev T = some v ∧ N (updO T d v) w
  | .pk d c a b => ∃ t, T.ev c = .bool t ∧ N (updO T d (if t then T.ev a else T.ev b)) w
  | .ar d op x y => ∃ v, arV op (T.ev x) (T.ev y) = some v ∧ N (updO T d v) w
  | .ld d n x => ∃ v, ldV n (T.ev x) w = some v ∧ N (updO T d v) w
  | .st d n x y => ∃ b off c ty lo hi, T.ev x = .pointer (some ⟨b, off, none⟩) ∧ w.heap[b]? = some (.cells ⟨c⟩ ty (lo, hi)) ∧ (T.ev y).cells.toList.length = n ∧
      (∀ v ∈ (T.ev y).cells.toList, Value.flat v = true) ∧ off + n ≤ c.length ∧ (∀ i, off ≤ i → i < off + n → ¬ (lo ≤ i ∧ i < hi)) ∧
      N (updO T d undef) (w.putObj b (.cells ⟨putAt c off (T.ev y).cells.toList⟩ ty (lo, hi)))
  | .nw d t cs => N (updO T d (.pointer (some ⟨w.heap.size, 0, none⟩))) (w.alloc (.cells ⟨cs⟩ t))
  | .bx d t x => N (updO T d (.pointer (some ⟨w.heap.size, 0, none⟩))) (w.alloc (.cells (T.ev x).cells t))
  | .call d f args => CallTo P f (T.evs args) w fun v w' => N (updO T d v) w'
  | .cf d x args =>
      (∃ f fs cs, T.ev x = .func (.func f) ⟨fs⟩ ⟨cs⟩ ∧ callable P f = true ∧ CallTo P f (fs ++ T.evs args ++ cs) w fun v w' => N (updO T d v) w') ∨
      (∃ l, T.ev x = .func (.yield l) #[] #[] ∧ yieldTo P l (T.evs args) w fun v w' => N (updO T d v) w')
  | .raw d o ty => ∃ w', (∃ v, (rawSem T o ty).run P w = .ok (.value v) w' ∧ N (updO T d v) w') ∨ ((rawSem T o ty).run P w = .ok .skip w' ∧ N (updO T d undef) w')
  | .s2b d e x => ∃ s, T.ev x = .string s ∧ ∀ cap, s.size ≤ cap → N (updO T d (.slice (some ⟨w.heap.size, 0, none⟩) s.size cap)) (w.drew.alloc (.cells ⟨byteCells s ++ List.replicate (cap - s.size) (.int .u8 0)⟩ e (cap, cap + 1)))
  | .b2s d x => ∃ v, b2sV (T.ev x) w = some v ∧ N (updO T d v) w
  | .bad => False

/-- A guard's value: nothing was yielded: the instruction is left out. -/
def gv (b : Bool) : Value → Option Bool
  | .bool c => some c
  | .tuple ⟨[]⟩ => some (!b)
  | _ => none

def insSem (P : Program) (i : Ins) (N : Rg → World → Prop) (T : Rg) (w : World) : Prop :=
  match i with
  | .op o => opSem P o N T w
  | .gd r b d o => ∃ c, gv b (T.f r) = some c ∧ (c = b → opSem P o N T w) ∧ (c = !b → N (updO T d undef) w)

def Evs (P : Program) : List Ins → (Rg → World → Prop) → Rg → World → Prop
  | [], N, T, w => N T w
  | i :: l, N, T, w => insSem P i (Evs P l N) T w

def EvT (P : Program) (N : Rg → World → Prop) : DT → Rg → World → Prop
  | .done, T, w => N T w
  | .step i t, T, w => insSem P i (EvT P N t) T w
  | .alt a b, T, w => EvT P N a T w ∧ EvT P N b T w
  | .bad, _, _ => False

inductive Ex where
  | n
  | x (id : Nat)
  | r

/-- The jump that a round leaves behind. -/
def Ex.code : Ex → Option Code
  | .n => none
  | .x id => some (.exit id)
  | .r => some .ret

def thenK (N : Rg → World → Prop) (K : Ex → Rg → World → Prop) : Ex → Rg → World → Prop
  | .n, T, w => N T w
  | e, T, w => K e T w

def blkK (id : Nat) (K : Ex → Rg → World → Prop) : Ex → Rg → World → Prop
  | .x i, T, w => bif Nat.beq i id then K .n T w else K (.x i) T w
  | e, T, w => K e T w

/-- The record of a loop over a function. -/
def loopObj (st : LoopState) (pe : Option Code) (fn : FuncId) (tmps : Array Value) (ps : List Nat) (assign body : Code) (D : Nat) : Obj :=
  .loop { state := st, pending := pe, fn := fn, tmps := tmps, params := ⟨ps⟩, assign := assign, body := body, defers := D }

def updL (T : Rg) : List Nat → List Value → Rg
  | d :: ds, v :: vs => updL (upd T d v) ds vs
  | _, _ => T

/-- What must hold ahead of a piece of code, so that it ends in a way that K takes; m: the number of registers. -/
def Ev (P : Program) (m : Nat) : Cd → (Ex → Rg → World → Prop) → Rg → World → Prop
  | .skip, K, T, w => K .n T w
  | .ops l draw, K, T, w => Evs P l (K .n) T (bif draw then w.drew else w)
  | .dr t, K, T, w => EvT P (K .n) t T w.drew
  | .seq a b, K, T, w => Ev P m a (thenK (Ev P m b K) K) T w
  | .ite c a b, K, T, w => ∃ t, T.ev c = .bool t ∧ (t = true → Ev P m a K T w) ∧ (t = false → Ev P m b K T w)
  | .blk id a, K, T, w => Ev P m a (blkK id K) T w
  | .loop a, K, T, w => ∃ (I : Rg → World → Prop) (μ : Rg → World → Nat), I T w ∧ ∀ T' w', I T' w' → Ev P m a (thenK (fun T'' w'' => I T'' w'' ∧ μ T'' w'' < μ T' w') K) T' w'
  | .exit id, K, T, w => K (.x id) T w
  | .ret, K, T, w => K .r T w
  | .rf g ps assign body _ _, K, T, w =>
    ∃ gf fs cs, T.ev g = .func (.func gf) ⟨fs⟩ ⟨cs⟩ ∧ callable P gf = true ∧
      ∀ fn tmps, tmps.size = m → (∀ i, tmps.getD i undef = T.f i) →
        CallTo P gf (fs ++ [.func (.yield (w.heap.size + 1)) #[] #[]] ++ cs) ((w.alloc (.deferred (some []))).alloc (loopObj .ready none fn tmps ps assign body w.heap.size))
          (fun _ w' => ∃ (e : Ex) (st : LoopState), st ≠ .busy ∧ w'.heap[w.heap.size + 1]? = some (loopObj st e.code fn tmps ps assign body w.heap.size) ∧
            K e ⟨T.f, w.heap.size :: T.ds⟩ (w'.putObj (w.heap.size + 1) (loopObj .exhausted e.code fn tmps ps assign body w.heap.size)))
  | .bad, _, _, _ => False

inductive RV where
  | t (x : X)
  | cl (x : X) (n : Option Nat)

def rvV (T : Rg) (w : World) : RV → Option Value
  | .t x => some (T.ev x)
  | .cl x n => ldV n (T.ev x) w

def rvsV (T : Rg) (w : World) : List RV → Option (List Value)
  | [] => some []
  | r :: l => match rvV T w r with
    | some v => match rvsV T w l with
      | some vs => some (v :: vs)
      | none => none
    | none => none

def tup : List Value → Value
  | [v] => v
  | vs => .tuple ⟨vs⟩

/-- What leaving a function asks of its loops over functions. -/
def leaveDs (Q : World → Prop) : List Nat → World → Prop
  | [], w => Q w
  | D :: ds, w => w.heap[D]? = some (.deferred (some [])) ∧ leaveDs Q ds (w.putObj D (.deferred none))

structure Fun where
  m : Nat
  body : Cd
  res : List RV

/-- The end of a function: what it returns. -/
def finK (res : List RV) (Q : Value → World → Prop) : Ex → Rg → World → Prop
  | .x _, _, _ => False
  | _, T, w => leaveDs (fun w' => ∃ vs, rvsV T w' res = some vs ∧ Q (tup vs) w') T.ds w

def T0 (args : List Value) : Rg := ⟨fun i => args.getD i undef, []⟩

/-! ### The compiler -/

def aggSize (P : Program) (t : TypeId) : Option (Option Nat) :=
  match P.underlying t with
  | some (.struct _) | some (.array _ _) => (P.info? t).map fun i => some i.size
  | some _ => some none
  | none => none

def isIntT (P : Program) (t : TypeId) : Bool := match P.underlying t with | some (.int _) => true | _ => false
def isStrT (P : Program) (t : TypeId) : Bool := match P.underlying t with | some .string => true | _ => false
def isBoolT (P : Program) (t : TypeId) : Bool := match P.underlying t with | some .bool => true | _ => false
def isSliceT (P : Program) (t : TypeId) : Bool := match P.underlying t with | some (.slice _) => true | _ => false

def cFields (P : Program) : List Field → Option (List (Nat × Nat))
  | [] => some []
  | f :: l => match P.info? f.type, cFields P l with
    | some i, some r => some ((f.offset, i.size) :: r)
    | _, _ => none

def cParts (pl : Nat → Option (Nat × Nat)) : List (Nat × Operand) → Option (List (Nat × Nat × X))
  | [] => some []
  | (i, x) :: l => match pl i, cParts pl l with
    | some (off, n), some r => some ((off, n, cX x) :: r)
    | _, _ => none

/-- A struct type all of whose cells are ints, in order: how many. -/
def intCells (P : Program) : Nat → TypeId → Option Nat
  | 0, _ => none
  | k + 1, t => match P.underlying t with
    | some (.int _) => some 1
    | some (.struct fs) => if P.stoodInHeld t then none else fs.toList.foldl (fun (acc : Option Nat) f => match acc with
      | some n => if f.name != "_" && f.offset == n then (match intCells P k f.type, P.info? f.type with | some m, some i => if i.size == m then some (n + m) else none | _, _ => none) else none
      | none => none) (some 0)
    | _ => none
/-- A struct type all of whose cells are ints (true) or strings (false), in order. -/
def mixCells (P : Program) : Nat → TypeId → Option (List Bool)
  | 0, _ => none
  | k + 1, t => match P.underlying t with
    | some (.int _) => some [true]
    | some .string => some [false]
    | some (.struct fs) => if P.stoodInHeld t then none else fs.toList.foldl (fun (acc : Option (List Bool)) f => match acc with
      | some ks => if f.name != "_" && f.offset == ks.length then (match mixCells P k f.type, P.info? f.type with | some m, some i => if i.size == m.length then some (ks ++ m) else none | _, _ => none) else none
      | none => none) (some [])
    | _ => none
def isStructT (P : Program) (t : TypeId) : Bool := match P.underlying t with | some (.struct _) => true | _ => false
def nilKind (P : Program) (t : TypeId) : Option Nat := match P.underlying t with | some (.pointer _) => some 0 | some (.slice _) => some 1 | some (.map _ _) => some 2 | some (.func _ _ _) => some 3 | _ => none
def isConstO (x : Operand) : Bool := match x with | .const _ => true | _ => false
def elemSize (P : Program) (t : TypeId) : Option Nat := match P.underlying t with
  | some (.slice e) => (P.info? e).map (·.size)
  | _ => none
def arrOf (P : Program) (t : TypeId) : Option (Nat × TypeId) := match P.underlying t with
  | some (.array n e) => some (n, e)
  | _ => none
def sizeT (P : Program) (t : TypeId) : Option Nat := (P.info? t).map (·.size)
def isByteSlice (P : Program) (t : TypeId) : Option TypeId := match P.underlying t with
  | some (.slice e) => match P.underlying e with | some (.int .u8) => some e | _ => none
  | _ => none

def cB (P : Program) (d : Option Nat) (o : Op) (ty : TypeId) : Bop :=
  match o with
  | .move x | .assign x => .p d (.mov (cX x))
  | .pick c a b => .pk d (cX c) (cX a) (cX b)
  | .alloc t => match (P.info? t).bind (·.zero) with
    | some z => .nw d t z.cells.toList
    | none => .bad
  | .box t x => .bx d t (cX x)
  | .load t x => match aggSize P t with
    | some n => .ld d n (cX x)
    | none => .bad
  | .store t a x => match P.info? t with
    | some i => .st d i.size (cX a) (cX x)
    | none => .bad
  | .nilCheck x => .p d (.nck (cX x))
  | .binOp op t x y _ =>
    match op with
    | .add | .sub | .mul | .quo | .rem | .and | .or | .xor | .shl | .shr => .ar d op (cX x) (cX y)
    | .lss | .leq | .gtr | .geq => .p d (.cmp op (cX x) (cX y))
    | .eql | .neq => if isIntT P t || isStrT P t then .p d (.cmp op (cX x) (cX y)) else if isBoolT P t then .p d (.cmpb (op == .neq) (cX x) (cX y)) else match nilKind P t with
      | some k => if isConstO y then .p d (.eqn k (op == .neq) (cX x) (cX y)) else .raw d o ty
      | none => match intCells P 8 t with
      | some n => if !P.eqGuardType P.depth t && isStructT P t then .p d (.eqc (op == .neq) n (cX x) (cX y)) else .raw d o ty
      | none => match mixCells P 8 t with
      | some ks => if !P.eqGuardType P.depth t && isStructT P t then .p d (.eqs (op == .neq) ks (cX x) (cX y)) else .raw d o ty
      | none => .raw d o ty
    | .andNot => .raw d o ty
  | .unOp op _ x => .p d (.un op (cX x))
  | .fieldAddr s x i => match P.underlying s with
    | some (.struct fs) => match fs[i]? with
      | some f => match P.info? f.type with
        | some ti => if ti.size = 0 then .raw d o ty else .p d (.fad (cX x) f.offset)
        | none => .bad
      | none => .bad
    | _ => .bad
  | .field s x i => match P.underlying s with
    | some (.struct fs) => match fs[i]? with
      | some f => match aggSize P f.type with
        | some n => .p d (.fld (cX x) f.offset n)
        | none => .bad
      | none => .bad
    | _ => .bad
  | .extract x i => .p d (.ext (cX x) i)
  | .makeFunc fn a b => .p d (.mkf fn (a.toList.map cX) (b.toList.map cX))
  | .convert s t x => if isIntT P s && isIntT P t then .p d (.cvi (match P.underlying t with | some (.int k) => k | _ => .i64) (cX x)) else if isStrT P s && isStrT P t then .p d (.cvs (cX x)) else if isStrT P s then (match isByteSlice P t with | some e => .s2b d e (cX x) | none => .raw d o ty) else if isStrT P t then (match isByteSlice P s with | some _ => .b2s d (cX x) | none => .raw d o ty) else .raw d o ty
  | .sliceToArrayPointer t x => match arrOf P t with
    | some (n, _) => .p d (.s2a n (cX x))
    | none => .bad
  | .indexAddr t x i => match elemSize P t with
    | some n => .p d (.ixa n (cX x) (cX i))
    | none => match arrOf P t with
      | some (len, e) => match sizeT P e with
        | some n => .p d (.ixp len n (cX x) (cX i))
        | none => .bad
      | none => .bad
  | .index t x i => if isStrT P t then .p d (.ixs (cX x) (cX i)) else match arrOf P t with
    | some (len, e) => match aggSize P e, sizeT P e with
      | some none, some 1 => .p d (.ixv len none (cX x) (cX i))
      | some (some n), _ => .p d (.ixv len (some n) (cX x) (cX i))
      | _, _ => .bad
    | none => .bad
  | .slice t x lo hi mx => match mx with
    | some _ => .raw d o ty
    | none => if isStrT P t then .p d (.sls (cX x) (lo.map cX) (hi.map cX)) else match elemSize P t with
      | some n => .p d (.sll n (cX x) (lo.map cX) (hi.map cX))
      | none => match arrOf P t with
        | some (len, e) => match sizeT P e with
          | some n => .p d (.slp len n (cX x) (lo.map cX) (hi.map cX))
          | none => .bad
        | none => .raw d o ty
  | .build t ps => match (P.info? t).bind (·.zero) with
    | some z => match P.underlying t with
      | some (.struct fs) => match cFields P fs.toList with
        | some pl => match cParts (fun (j : Nat) => pl[j]?) ps.toList with
          | some r => .p d (.bld z.cells.toList r)
          | none => .bad
        | none => .bad
      | some (.array _ e) => match P.info? e with
        | some i => match cParts (fun j => some (j * i.size, i.size)) ps.toList with
          | some r => .p d (.bld z.cells.toList r)
          | none => .bad
        | none => .bad
      | _ => .bad
    | none => .bad
  | .call c =>
    match c.callee with
    | .value (.func f) => if callable P f then .call d f (c.args.toList.map cX) else .raw d o ty
    | .value x => .cf d (cX x) (c.args.toList.map cX)
    | .builtin .len => match c.argTypes[0]?, c.args.toList with
      | some t, [x] => if isStrT P t then .p d (.lns (cX x)) else if isSliceT P t then .p d (.len (cX x)) else .raw d o ty
      | _, _ => .raw d o ty
    | .builtin .min => match c.args.toList with
      | x :: l => .p d (.mn (cX x) (l.map cX))
      | [] => .bad
    | .builtin .max => match c.args.toList with
      | x :: l => .p d (.mx (cX x) (l.map cX))
      | [] => .bad
    | _ => .raw d o ty
  | .defer _ | .go _ | .select _ _ | .send _ _ | .recv _ _ _ => .bad
  | _ => .raw d o ty

def dOK (m : Nat) : Option Nat → Bool
  | some d => Nat.blt d m
  | none => true

def cI (P : Program) (m : Nat) (ops : Array Oper) (o : Oper) : Ins :=
  if dOK m o.dst then
    match o.guard with
    | none => .op (cB P o.dst o.op o.type)
    | some (j, b) => match (ops[j]?).bind (·.dst) with
      | some r => if Nat.blt r m then .gd r b o.dst (cB P o.dst o.op o.type) else .op .bad
      | none => .op .bad
  else .op .bad

/-! independence, for regions whose order is open -/
def X.reads : X → List Nat | .r n => [n] | .c _ => []
def oX (x : Option X) : List Nat := match x with | some x => x.reads | none => []
def PE.reads : PE → List Nat
  | .mov x | .un _ x | .ext x _ | .fad x _ | .fld x _ _ | .nck x | .len x | .lns x | .cvi _ x | .cvs x | .s2a _ x => x.reads
  | .cmp _ x y | .cmpb _ x y | .eqn _ _ x y | .eqc _ _ x y | .eqs _ _ x y | .ixa _ x y | .ixp _ _ x y | .ixv _ _ x y | .ixs x y => x.reads ++ y.reads
  | .bld _ ps => ps.flatMap fun p => p.2.2.reads
  | .mkf _ a b => a.flatMap X.reads ++ b.flatMap X.reads
  | .mn x l | .mx x l => x.reads ++ l.flatMap X.reads
  | .sls x lo hi | .sll _ x lo hi | .slp _ _ x lo hi => x.reads ++ (oX lo ++ oX hi)

/-- 0: neither reads nor turns the world; 1: reads cells; 2: makes a block; 3: all else. -/
def Bop.cls : Bop → Nat
  | .p .. | .pk .. | .ar .. => 0
  | .ld .. | .b2s .. => 1
  | .nw .. | .bx .. | .s2b .. => 2
  | _ => 3
def opd : Operand → List Nat | .tmp t => [t] | _ => []
def Bop.reads : Bop → List Nat
  | .p _ e => e.reads
  | .pk _ c a b => c.reads ++ (a.reads ++ b.reads)
  | .ar _ _ x y => x.reads ++ y.reads
  | .ld _ _ x | .bx _ _ x | .s2b _ _ x | .b2s _ x => x.reads
  | .st _ _ x y => x.reads ++ y.reads
  | .nw .. | .bad => []
  | .call _ _ l => l.flatMap X.reads
  | .cf _ x l => x.reads ++ l.flatMap X.reads
  | .raw _ o _ => o.operands.toList.flatMap opd
def Ins.cls : Ins → Nat | .op o => o.cls | .gd _ _ _ o => o.cls
def Ins.reads : Ins → List Nat | .op o => o.reads | .gd r _ _ o => r :: o.reads
def Ins.dst : Ins → Option Nat | .op o => o.dst | .gd _ _ d _ => d
def notIn (d : Option Nat) (l : List Nat) : Bool := match d with | some d => !l.contains d | none => true
def noClash (a b : Option Nat) : Bool := match a, b with | some x, some y => x != y | _, _ => true
def clsOK (a b : Nat) : Bool := Nat.beq a 0 || Nat.beq b 0 || (Nat.beq a 1 && (Nat.beq b 1 || Nat.beq b 2))
def Bop.wf : Bop → Bool
  | .raw _ (.select _ _) _ => false
  | _ => true
def Ins.wf : Ins → Bool
  | .op o => o.wf
  | .gd _ _ d o => o.wf && o.dst == d
/-- the two, which the text has in this order, may come in either -/
def indep (a b : Ins) : Bool := a.wf && b.wf && clsOK a.cls b.cls && notIn a.dst b.reads && notIn b.dst a.reads && noClash a.dst b.dst

def deps (o : Oper) : List Nat := (o.after.toList.filter (Region.binds .any)).map (·.on)
def reach (ops : Array Oper) : Nat → Nat → Nat → Bool
  | 0, _, _ => false
  | k + 1, i, j => match ops[j]? with
    | some o => (deps o).contains i || (deps o).any fun x => reach ops k i x
    | none => false
def insAt (is : List Ins) (i : Nat) : Ins := is.getD i (.op .bad)
def rdy (ops : Array Oper) (rem : List Nat) (i : Nat) : Bool :=
  match ops[i]? with
  | some o => (deps o).all fun d => !rem.contains d
  | none => false
/-- i may come ahead of all that is left -/
def first (ops : Array Oper) (is : List Ins) (rem : List Nat) (i : Nat) : Bool :=
  rdy ops rem i && rem.all fun j => Nat.beq j i || reach ops 12 i j || indep (insAt is i) (insAt is j)
def alts : List DT → DT
  | [] => .bad
  | [t] => t
  | t :: l => .alt t (alts l)
def tree (ops : Array Oper) (is : List Ins) : Nat → List Nat → DT
  | 0, rem => if rem.isEmpty then .done else .bad
  | n + 1, rem => match rem.find? (first ops is rem) with
    | some i => .step (insAt is i) (tree ops is n (rem.erase i))
    | none => alts ((rem.filter (rdy ops rem)).map fun i => .step (insAt is i) (tree ops is n (rem.erase i)))
def depsBack (ops : Array Oper) : Bool :=
  (List.range ops.size).all fun j => match ops[j]? with | some o => (deps o).all fun i => Nat.blt i j | none => false
/-- the one order, if there is but one -/
def DT.line : DT → Option (List Ins)
  | .done => some []
  | .step i t => t.line.map (i :: ·)
  | _ => none

def cC (P : Program) (m : Nat) (inr : Bool) : Code → Cd
  | .skip => .skip
  | .region _ ops draw =>
    let l := ops.toList.map (cI P m ops)
    if draw then (if depsBack ops then (let t := tree ops l ops.size (List.range ops.size); match t.line with | some l' => .ops l' true | none => .dr t) else .bad) else .ops l false
  | .seq a b => .seq (cC P m inr a) (cC P m inr b)
  | .cond c a b => .ite (cX c) (cC P m inr a) (cC P m inr b)
  | .block id a => .blk id (cC P m inr a)
  | .loop a => .loop (cC P m inr a)
  | .rangeFunc f ps assign body => if inr then .bad else if ps.toList.all (fun p => Nat.blt p m) then .rf (cX f) ps.toList assign body (cC P m true assign) (cC P m true body) else .bad
  | .exit id => .exit id
  | .scope a => cC P m inr a
  | .label _ => .skip
  | .ret => .ret
  | _ => .bad

def cR (P : Program) : List ResultVar → Option (List RV)
  | [] => some []
  | .tmp t :: l => (cR P l).map (.t (.r t) :: ·)
  | .cell a t :: l => match aggSize P t, cR P l with
    | some n, some r => some (.cl (.r a) n :: r)
    | _, _ => none

def cF (P : Program) (f : Func) : Option Fun :=
  match f.body, cR P f.results.toList with
  | some c, some r => some { m := f.ntmps, body := cC P f.ntmps false c, res := r }
  | _, _ => none

end Dn

/-
  What the model runs for each compiled operation.
-/
namespace Dn
open Go

theorem ev_cX (T : Rg) (x : Operand) : T.ev (cX x) = T.evR x := by cases x <;> rfl
theorem evs_map (T : Rg) (l : List Operand) : T.evs (l.map cX) = l.map T.evR := by
  induction l with
  | nil => rfl
  | cons x l ih => simp [Rg.evs, ev_cX, ih]

theorem kEq_eq {k k' : IntKind} (h : kEq k k' = true) : k = k' := by cases k <;> cases k' <;> first | rfl | simp [kEq] at h

theorem run_und {P : Program} {w : World} {t : TypeId} {d : TypeDesc} (h : P.underlying t = some d) : (underlying t).run P w = .ok d w := by
  simp [underlying, h]
theorem run_tinfo {P : Program} {w : World} {t : TypeId} {d : TypeInfo} (h : P.info? t = some d) : (typeInfo t).run P w = .ok d w := by
  simp [typeInfo, h]
theorem run_sz {P : Program} {w : World} {t : TypeId} {d : TypeInfo} (h : P.info? t = some d) : (Go.sizeOf t).run P w = .ok d.size w := by
  simp [Go.sizeOf, run_tinfo h]
theorem run_zero {P : Program} {w : World} {t : TypeId} {z : Value} (h : (P.info? t).bind (·.zero) = some z) : (zeroValue t).run P w = .ok z w := by
  cases hi : P.info? t with
  | none => simp [hi] at h
  | some i => simp [hi] at h; simp [zeroValue, run_tinfo hi, h]

/-! loads -/
theorem loadCellsFrom_run {P : Program} {w : World} {a : Addr} {c : List Value} {ty : TypeId} {fr : Nat × Nat} (hb : w.heap[a.block]? = some (.cells ⟨c⟩ ty fr)) (hs : a.spot = none) :
    ∀ (n i : Nat) (acc : Array Value), a.off + i + n ≤ c.length → (loadCellsFrom a i n acc).run P w = .ok (acc ++ ⟨(c.drop (a.off + i)).take n⟩) w := by
  intro n
  induction n with
  | zero => intro i acc _; simp [loadCellsFrom]
  | succ n ih =>
    intro i acc h
    have hlt : a.off + i < c.length := by omega
    have hc : w.cell? (a.add i) = some c[a.off + i] := by
      unfold World.cell? Addr.add
      by_cases h0 : i = 0
      · subst h0; simp [hb, hs]
      · simp [h0, hb, hlt]
    simp only [loadCellsFrom, Sem.run_bind, run_load, hc, Result.andThen_ok]
    rw [ih (i + 1) _ (by omega)]
    have : List.drop (a.off + i) c = c[a.off + i] :: List.drop (a.off + (i + 1)) c := by
      rw [List.drop_eq_getElem_cons hlt]; rfl
    rw [this]
    simp

theorem rowOf_run {P : Program} {w : World} {a : Addr} {n : Nat} {l : List Value} (h : rowOf w a n = some l) : (loadCells a n).run P w = .ok ⟨l⟩ w := by
  unfold rowOf at h
  split at h
  · rename_i c ty fr hb
    split at h
    · rename_i hc
      injection h with h
      have := loadCellsFrom_run (P := P) hb hc.1 n 0 #[] (by omega)
      simp only [loadCells]; rw [this]; simp [← h]
    · simp at h
  · simp at h

theorem run_isAgg {P : Program} {w : World} {t : TypeId} {n : Option Nat} (h : aggSize P t = some n) : (isAgg t).run P w = .ok n.isSome w ∧ (∀ k, n = some k → (Go.sizeOf t).run P w = .ok k w) := by
  unfold aggSize at h
  split at h
  · rename_i x hu
    cases hi : P.info? t with
    | none => simp [hi] at h
    | some i => simp [hi] at h; subst h; simp [isAgg, run_und hu, run_sz hi]
  · rename_i x y hu
    cases hi : P.info? t with
    | none => simp [hi] at h
    | some i => simp [hi] at h; subst h; simp [isAgg, run_und hu, run_sz hi]
  · rename_i d h1 h2 hu
    injection h with h; subst h
    refine ⟨?_, fun k hk => by simp at hk⟩
    simp only [isAgg, Sem.run_bind, run_und hu, Result.andThen_ok]
    cases d <;> simp_all
  · simp at h

theorem loadVar_run {P : Program} {w : World} {t : TypeId} {n : Option Nat} {a : Addr} {v : Value} (hn : aggSize P t = some n) (h : ldV n (.pointer (some a)) w = some v) : (loadVar t a).run P w = .ok v w := by
  obtain ⟨h1, h2⟩ := run_isAgg (w := w) hn
  unfold loadVar
  simp only [Sem.run_bind, h1, Result.andThen_ok]
  cases n with
  | none => simp only [ldV] at h; simp [h]
  | some k =>
    simp only [ldV] at h
    cases hr : rowOf w a k with
    | none => simp [hr] at h
    | some l => simp [hr] at h; subst h; simp [h2 k rfl, rowOf_run hr]

/-! stores -/
theorem storeCells_run {P : Program} {a : Addr} {ty : TypeId} {lo hi : Nat} (hs : a.spot = none) :
    ∀ (vs : List Value) (i : Nat) (w : World) (c : List Value), w.heap[a.block]? = some (.cells ⟨c⟩ ty (lo, hi)) → (∀ v ∈ vs, Value.flat v = true) → a.off + i + vs.length ≤ c.length →
      (∀ j, a.off + i ≤ j → j < a.off + i + vs.length → ¬ (lo ≤ j ∧ j < hi)) →
      (storeCells a vs i).run P w = .ok () (if vs = [] then w else w.putObj a.block (.cells ⟨putAt c (a.off + i) vs⟩ ty (lo, hi))) := by
  intro vs
  induction vs with
  | nil => intro i w c _ _ _ _; simp [storeCells]
  | cons v vs ih =>
    intro i w c hb hf hl hfr
    have hlt : a.off + i < c.length := by simp at hl; omega
    have hfv : Value.flat v = true := hf v (by simp)
    have hc : w.cell? (a.add i) = some c[a.off + i] := by
      unfold World.cell? Addr.add
      by_cases h0 : i = 0
      · subst h0; simp [hb, hs]
      · simp [h0, hb, hlt]
    have hfz : w.frozen? (a.add i) = false := by
      have := hfr (a.off + i) (by omega) (by simp)
      unfold World.frozen? Addr.add
      by_cases h0 : i = 0
      · subst h0; simp [hb] at this ⊢; try omega
      · simp [h0, hb]; omega
    have h1 : v.oneCell' = true := by cases v <;> simp_all [Value.flat, Value.oneCell']
    have hset : w.setCell (a.add i) v = w.putObj a.block (.cells ⟨putAt c (a.off + i) [v]⟩ ty (lo, hi)) := by
      have hbl : (a.add i).block = a.block := by unfold Addr.add; split <;> rfl
      have hof : (a.add i).off = a.off + i := by unfold Addr.add; split <;> simp_all
      have hsp : (a.add i).spot = none := by unfold Addr.add; split <;> simp_all
      unfold World.setCell World.putObj
      congr 1
      apply Array.ext_getElem?
      intro j
      rw [Array.getElem?_modify, Array.getElem?_setIfInBounds]
      simp only [hbl, hof, hsp]
      by_cases hj : a.block = j
      · subst hj
        have hlt' : a.block < w.heap.size := (Array.getElem?_eq_some_iff.1 hb).1
        have hb' : w.heap[a.block] = .cells ⟨c⟩ ty (lo, hi) := by rw [Array.getElem?_eq_getElem hlt'] at hb; exact Option.some.inj hb
        simp [hlt', putAt, hb']
        rw [List.set_eq_take_append_cons_drop]; simp [hlt]
      · simp [hj]
    simp only [storeCells, Sem.run_bind]
    rw [run_store P w _ _ _ h1]
    simp only [hc, hfz, hset, Result.andThen_ok, if_false, Bool.false_eq_true]
    rw [ih (i + 1) _ (putAt c (a.off + i) [v]) (World.putObj_heap_same (Array.getElem?_eq_some_iff.1 hb).1) (fun u hu => hf u (by simp [hu])) (by simp [putAt] at hl ⊢; omega) (fun j h1 h2 => hfr j (by omega) (by simp; omega))]
    by_cases hv : vs = []
    · subst hv; simp
    · simp only [hv, if_false, List.cons_ne_nil, Result.ok.injEq, true_and]
      have e2 : putAt (putAt c (a.off + i) [v]) (a.off + (i + 1)) vs = putAt c (a.off + i) (v :: vs) := by
        unfold putAt
        have hmin : min (a.off + i) c.length = a.off + i := by omega
        rw [List.take_append, List.drop_append]
        simp only [List.length_take, hmin, List.length_append, List.length_cons, List.length_nil, List.length_drop]
        have e3 : a.off + (i + 1) - (a.off + i) = 1 := by omega
        have e4 : a.off + (i + 1) + vs.length - (a.off + i) = vs.length + 1 := by omega
        rw [e3, e4]
        have t1 : List.take (a.off + (i + 1)) (List.take (a.off + i) c) = List.take (a.off + i) c := by rw [List.take_take]; congr 1; omega
        have t2 : List.drop (a.off + (i + 1) + vs.length) (List.take (a.off + i) c) = [] := by apply List.drop_eq_nil_of_le; simp; omega
        rw [t1, t2]
        simp
        congr 1; omega
      have e5 : ∀ (o1 o2 : Obj), (w.putObj a.block o1).putObj a.block o2 = w.putObj a.block o2 := by
        intro o1 o2; unfold World.putObj; simp
      rw [e5, e2]

theorem storeVar_run {P : Program} {w : World} {t : TypeId} {i : TypeInfo} {b off : Nat} {y : Value} {c : List Value} {ty : TypeId} {lo hi : Nat} (hi' : P.info? t = some i)
    (hb : w.heap[b]? = some (.cells ⟨c⟩ ty (lo, hi))) (hn : y.cells.toList.length = i.size) (hf : ∀ v ∈ y.cells.toList, Value.flat v = true) (hl : off + i.size ≤ c.length)
    (hfr : ∀ j, off ≤ j → j < off + i.size → ¬ (lo ≤ j ∧ j < hi)) :
    (storeVar t ⟨b, off, none⟩ y).run P w = .ok () (w.putObj b (.cells ⟨putAt c off y.cells.toList⟩ ty (lo, hi))) := by
  unfold storeVar
  have hsz : y.cells.size = i.size := by rw [← hn]; simp
  simp only [Sem.run_bind, run_sz hi', Result.andThen_ok, hsz, ne_eq, not_true_eq_false, if_false, Sem.run_pure]
  rw [storeCells_run (a := ⟨b, off, none⟩) rfl _ 0 w c hb hf (by rw [hn]; simpa using hl) (by rw [hn]; simpa using hfr)]
  by_cases hv : y.cells.toList = []
  · rw [if_pos hv, hv]
    congr 1
    unfold World.putObj putAt
    simp only [List.nil_append, List.length_nil, Nat.add_zero, List.take_append_drop]
    have hlt' : b < w.heap.size := (Array.getElem?_eq_some_iff.1 hb).1
    have hb' : w.heap[b] = .cells ⟨c⟩ ty (lo, hi) := by rw [Array.getElem?_eq_getElem hlt'] at hb; exact Option.some.inj hb
    have : w.heap.setIfInBounds b (.cells ⟨c⟩ ty (lo, hi)) = w.heap := by
      apply Array.ext_getElem?; intro j; rw [Array.getElem?_setIfInBounds]; split
      · rename_i e; subst e; simp [hlt', hb']
      · rfl
    rw [this]
  · simp [hv]

/-! expressions -/
theorem cmpI_run {P : Program} {w : World} {op : BinOp} {a b : Int} {v : Value} (h : cmpI op a b = some v) : (Op.intCmp op a b).run P w = .ok v w := by
  cases op <;> simp [cmpI] at h <;> subst h <;> simp [Op.intCmp]

theorem cmpS_run {P : Program} {w : World} {op : BinOp} {a b : ByteArray} {v : Value} (h : cmpS op a b = some v) : (Op.stringOp op a b).run P w = .ok v w := by
  cases op <;> simp [cmpS] at h <;> subst h <;> simp [Op.stringOp]

theorem eqGuard_run {P : Program} {w : World} {op : BinOp} {t : TypeId} {x y : Operand} {a b : Value} (h1 : a ≠ .nilIface) (h2 : (∀ c, a ≠ .agg c) ∨ P.eqGuardType P.depth t = false) :
    (eqGuard op t x y a b).run P w = .ok () w := by
  unfold eqGuard
  have key : ∀ (s : Sem Unit), s.run P w = .ok () w → ∀ c : Bool, ((if c = true then pure () else s : Sem Unit)).run P w = .ok () w := by
    intro s hs c; cases c <;> simp [hs]
  refine key _ ?_ _
  split
  · exact absurd rfl h1
  · rename_i c1 c2
    rcases h2 with h2 | h2
    · exact absurd rfl (h2 _)
    · simp [h2]
  · rfl

theorem run_binV {P : Program} {w : World} {op : BinOp} {t : TypeId} {x y : Operand} {a b v : Value} (h1 : a ≠ .nilIface) (h2 : (∀ c, a ≠ .agg c) ∨ P.eqGuardType P.depth t = false)
    (h : (binOp op t a b).run P w = .ok v w) : (do eqGuard op t x y a b; binOp op t a b : Sem Value).run P w = .ok v w := by
  simp only [Sem.run_bind, eqGuard_run h1 h2, Result.andThen_ok, h]

theorem fillL_eq (pl : List (Nat × Operand)) (place : Nat → Option (Nat × Nat)) (T : Rg) : ∀ (cs : List Value) (r : List (Nat × Nat × X)) (out : List Value), cParts place pl = some r → fillL cs (partsV T r) = some out →
    Instr.fill place ⟨cs⟩ (pl.map fun (i, x) => (i, T.evR x)) = some ⟨out⟩ := by
  induction pl with
  | nil => intro cs r out h1 h2; simp [cParts] at h1; subst h1; simp [partsV, fillL] at h2; subst h2; rfl
  | cons p pl ih =>
    intro cs r out h1 h2
    obtain ⟨i, x⟩ := p
    simp only [cParts] at h1
    split at h1
    · rename_i off n r' hp hr
      injection h1 with h1; subst h1
      simp only [partsV, fillL] at h2
      cases hc : (Nat.beq (T.ev (cX x)).cells.toList.length n && Nat.ble (off + n) cs.length) with
      | false => rw [hc] at h2; simp at h2
      | true =>
        rw [hc] at h2
        simp only [cond_true] at h2
        simp only [Bool.and_eq_true, Nat.ble_eq] at hc
        obtain ⟨hc0, hc2⟩ := hc
        have hc : (T.ev (cX x)).cells.toList.length = n ∧ off + n ≤ cs.length := ⟨Nat.eq_of_beq_eq_true hc0, hc2⟩
        clear hc0 hc2
        rw [ev_cX] at h2 hc
        simp only [List.map_cons, Instr.fill, hp]
        have hsz : (T.evR x).cells.size = n := by rw [← hc.1]; simp
        rw [if_neg (by simp only [hsz, ne_eq, not_true_eq_false, decide_false, Bool.false_or, decide_eq_true_eq, gt_iff_lt, Nat.not_lt, List.size_toArray]; have := hc.2; simp; omega)]
        have key : ∀ (vs : List Value) (o : Nat) (c : List Value) (k : Nat), o + k + vs.length ≤ c.length → ((vs.zipIdx k).foldl (fun (acc : Array Value) (p : Value × Nat) => acc.setIfInBounds (o + p.2) p.1) ⟨c⟩) = ⟨c.take (o + k) ++ (vs ++ c.drop (o + k + vs.length))⟩ := by
          intro vs
          induction vs with
          | nil => intro o c k _; simp
          | cons v vs ihv =>
            intro o c k hl
            simp only [List.zipIdx_cons, List.foldl_cons]
            have hlt : o + k < c.length := by simp at hl; omega
            have e1 : (⟨c⟩ : Array Value).setIfInBounds (o + k) v = ⟨c.set (o + k) v⟩ := by simp
            rw [e1, ihv o _ (k + 1) (by simp at hl ⊢; omega)]
            congr 1
            rw [List.set_eq_take_append_cons_drop]
            simp only [hlt, if_true]
            have hmin : min (o + k) c.length = o + k := by omega
            rw [List.take_append, List.drop_append]
            simp only [List.length_take, hmin]
            have e3 : o + (k + 1) - (o + k) = 1 := by omega
            have e4 : o + (k + 1) + vs.length - (o + k) = vs.length + 1 := by omega
            rw [e3, e4]
            have t1 : List.take (o + (k + 1)) (List.take (o + k) c) = List.take (o + k) c := by rw [List.take_take]; congr 1; omega
            have t2 : List.drop (o + (k + 1) + vs.length) (List.take (o + k) c) = [] := by apply List.drop_eq_nil_of_le; simp; omega
            rw [t1, t2]
            simp
            congr 1; omega
        have hfold : (T.evR x).cells.zipIdx.foldl (fun cs (p : Value × Nat) => cs.setIfInBounds (off + p.2) p.1) (⟨cs⟩ : Array Value) = ⟨cs.take off ++ ((T.evR x).cells.toList ++ cs.drop (off + n))⟩ := by
          rw [← Array.foldl_toList, Array.toList_zipIdx]
          have := key (T.evR x).cells.toList off cs 0 (by rw [hc.1]; have := hc.2; omega)
          rw [hc.1] at this
          simpa using this
        have := ih _ r' out hr h2
        rw [← hfold] at this
        exact this
    · simp at h1

theorem cFields_run {P : Program} {w : World} : ∀ (fs : List Field) (pl : List (Nat × Nat)), cFields P fs = some pl →
    (fs.mapM (m := Sem) fun f => do pure (f.offset, ← Go.sizeOf f.type)).run P w = .ok pl w := by
  intro fs
  induction fs with
  | nil => intro pl h; simp [cFields] at h; subst h; rfl
  | cons f fs ih =>
    intro pl h
    simp only [cFields] at h
    split at h
    · rename_i i r hi hr
      injection h with h; subst h
      have := ih r hr
      simp only [List.mapM_cons, Sem.run_bind, run_sz hi, Result.andThen_ok, Sem.run_pure] at this ⊢
      rw [this]; simp
    · simp at h

theorem mnI_run {P : Program} {w : World} : ∀ (l : List Value) (v r : Value), mnI v l = some r → (l.foldlM Builtin.min2 v).run P w = .ok r w := by
  intro l
  induction l with
  | nil => intro v r h; simp [mnI] at h; subst h; simp
  | cons x l ih =>
    intro v r h
    cases v <;> cases x <;> simp [mnI] at h
    simp only [List.foldlM_cons, Sem.run_bind, Builtin.min2, Sem.run_pure, Result.andThen_ok]
    exact ih _ _ h

theorem mxI_run {P : Program} {w : World} : ∀ (l : List Value) (v r : Value), mxI v l = some r → (l.foldlM Builtin.max2 v).run P w = .ok r w := by
  intro l
  induction l with
  | nil => intro v r h; simp [mxI] at h; subst h; simp
  | cons x l ih =>
    intro v r h
    cases v <;> cases x <;> simp [mxI] at h
    simp only [List.foldlM_cons, Sem.run_bind, Builtin.max2, Sem.run_pure, Result.andThen_ok]
    exact ih _ _ h

theorem arV_run {P : Program} {w : World} {op : BinOp} {t : TypeId} {a b v : Value} (h : arV op a b = some v) : (binOp op t a b).run P w = .ok v w ∧ a ≠ .nilIface ∧ (∀ c, a ≠ .agg c) := by
  cases a <;> cases b <;> try (cases op <;> simp [arV] at h; done)
  · rename_i k a k' b
    refine ⟨?_, by simp, by simp⟩
    cases op <;> simp only [arV] at h <;> try (simp at h; done)
    all_goals first
      | (split at h
         · simp at h
         · rename_i hb; injection h with h; subst h; simp [binOp, Op.shift, hb])
      | (cases hk : kEq k k' with
         | false => rw [hk] at h; simp at h
         | true =>
           rw [hk] at h; have := kEq_eq hk; subst this
           simp only [cond_true] at h
           first
             | (injection h with h; subst h; simp [binOp, Op.intArith, Op.intBits]; done)
             | (split at h
                · simp at h
                · rename_i hb; injection h with h; subst h; simp [binOp, Op.intDiv, hb]))
  · rename_i a b
    refine ⟨?_, by simp, by simp⟩
    cases op <;> simp only [arV] at h <;> try (simp at h; done)
    split at h
    · simp at h
    · rename_i hb; injection h with h; subst h; simp only [binOp, Op.stringOp, if_neg hb, Sem.run_pure]

end Dn

/-
  What the model runs for each compiled operation: all kinds together.
-/
namespace Dn
open Go

/-! equality of structs of ints -/
theorem eqL_append : ∀ (a b c d : List Value) (t : Bool), a.length = b.length → eqL (a ++ c) (b ++ d) = some t → ∃ t1 t2, eqL a b = some t1 ∧ eqL c d = some t2 ∧ t = (t1 && t2) := by
  intro a
  induction a with
  | nil => intro b c d t hl h; cases b with
    | nil => exact ⟨true, t, rfl, h, by simp⟩
    | cons x b => simp at hl
  | cons x a ih =>
    intro b c d t hl h
    cases b with
    | nil => simp at hl
    | cons y b =>
      cases x <;> cases y <;> simp [eqL] at h
      rename_i k i k' j
      cases hk : kEq k k' with
      | false => rw [hk] at h; simp at h
      | true =>
        rw [hk] at h
        simp only [cond_true] at h
        cases hr : eqL (a ++ c) (b ++ d) with
        | none => rw [hr] at h; simp at h
        | some r =>
          rw [hr] at h
          simp only [Option.some.injEq] at h
          obtain ⟨t1, t2, h1, h2, h3⟩ := ih b c d r (by simpa using hl) hr
          refine ⟨(i == j && t1), t2, ?_, h2, ?_⟩
          · simp [eqL, hk, h1]
          · rw [← h, h3]; simp [Bool.and_assoc]

def icStep (P : Program) (k : Nat) (acc : Option Nat) (f : Field) : Option Nat :=
  match acc with
  | some n => if f.name != "_" && f.offset == n then (match intCells P k f.type, P.info? f.type with | some m, some i => if i.size == m then some (n + m) else none | _, _ => none) else none
  | none => none

theorem ic_none (P : Program) (k : Nat) (l : List Field) : l.foldl (icStep P k) none = none := by
  induction l with
  | nil => rfl
  | cons f l ih => simpa [icStep] using ih

theorem ic_ge {P : Program} {k : Nat} : ∀ (l : List Field) (s n : Nat), l.foldl (icStep P k) (some s) = some n → s ≤ n := by
  intro l
  induction l with
  | nil => intro s n h; simp at h; omega
  | cons f l ih =>
    intro s n h
    simp only [List.foldl_cons] at h
    cases hst : icStep P k (some s) f with
    | none => rw [hst, ic_none] at h; simp at h
    | some m =>
      rw [hst] at h
      have := ih _ _ h
      simp only [icStep] at hst
      split at hst
      · split at hst
        · split at hst
          · injection hst with hst; omega
          · simp at hst
        · simp at hst
      · simp at hst

/-- The value of a type that these cells are. -/
def valOf (P : Program) (t : TypeId) (xs : List Value) : Value :=
  match P.underlying t with
  | some (.int _) => xs.headD undef
  | _ => .agg ⟨xs⟩

theorem part_run {P : Program} {w : World} {t : TypeId} {i : TypeInfo} {k n : Nat} {xs : List Value} {off : Nat} (hc : intCells P k t = some n) (hi : P.info? t = some i) (hn : i.size = n) (hl : off + n ≤ xs.length) :
    (part t ⟨xs⟩ off).run P w = .ok (valOf P t ((xs.drop off).take n)) w := by
  cases k with
  | zero => simp [intCells] at hc
  | succ k =>
    simp only [intCells] at hc
    split at hc
    · rename_i kk hu
      injection hc with hc; subst hc
      have hlt : off < xs.length := by omega
      have e1 : (xs.drop off).take 1 = [xs[off]] := by rw [List.drop_eq_getElem_cons hlt]; rfl
      simp [part, isAgg, run_und hu, valOf, hu, hlt, e1]
    · rename_i fs hu
      have e : (⟨xs⟩ : Array Value).extract off (off + n) = ⟨(xs.drop off).take n⟩ := by
        apply Array.ext'
        simp
      simp [part, isAgg, run_und hu, valOf, hu, run_sz hi, hn, e]
    · simp at hc

theorem equalIn_ints {P : Program} : ∀ (k : Nat) (t : TypeId) (n : Nat) (d : Nat) (xs ys : List Value) (b : Bool) (w : World), intCells P k t = some n → k < d →
    xs.length = n → ys.length = n → eqL xs ys = some b → (Op.equalIn d t (valOf P t xs) (valOf P t ys)).run P w = .ok b w := by
  intro k
  induction k with
  | zero => intro t n d xs ys b w h; simp [intCells] at h
  | succ k ih =>
    intro t n d xs ys b w hc hd hx hy he
    obtain ⟨d, rfl⟩ : ∃ m, d = m + 1 := ⟨d - 1, by omega⟩
    simp only [intCells] at hc
    split at hc
    · rename_i kk hu
      injection hc with hc; subst hc
      match xs, hx with
      | [x], _ =>
        match ys, hy with
        | [y], _ =>
          cases x <;> cases y <;> simp [eqL] at he
          rename_i k1 a _ k2 c _
          cases hk : kEq k1 k2 with
          | false => rw [hk] at he; simp at he
          | true =>
            rw [hk] at he; have := kEq_eq hk; subst this
            simp at he; subst he
            simp only [valOf, hu, List.headD_cons]
            exact run_equalIn_int w d t k1 kk a c hu
    · rename_i fs hu
      split at hc
      · simp at hc
      · rename_i hst
        have hf : P.fieldsOf t = fs := by simp [Program.fieldsOf, hu]
        have hval : ∀ zs : List Value, valOf P t zs = .agg ⟨zs⟩ := by intro zs; simp [valOf, hu]
        rw [hval, hval, run_equalIn_struct w d t _ _ (by rw [hf]; exact hu) (by simpa using hst), hf]
        -- the fields, one after the other
        have key : ∀ (l : List Field) (s : Nat) (b : Bool), l.foldl (icStep P k) (some s) = some n → s ≤ n → eqL (xs.drop s) (ys.drop s) = some b → (Op.eqFields d ⟨xs⟩ ⟨ys⟩ l).run P w = .ok b w := by
          intro l
          induction l with
          | nil =>
            intro s b h hs he
            simp at h; subst h
            have h1 : xs.drop s = [] := by apply List.drop_eq_nil_of_le; omega
            have h2 : ys.drop s = [] := by apply List.drop_eq_nil_of_le; omega
            rw [h1, h2] at he; simp [eqL] at he; subst he
            simp [Op.eqFields]
          | cons f l ihl =>
            intro s b h hs he
            simp only [List.foldl_cons] at h
            cases hstp : icStep P k (some s) f with
            | none => rw [hstp, ic_none] at h; simp at h
            | some m =>
              rw [hstp] at h
              have hmn := ic_ge _ _ _ h
              simp only [icStep] at hstp
              split at hstp
              · rename_i hnm
                split at hstp
                · rename_i q i hq hi
                  split at hstp
                  · rename_i hsz
                    injection hstp with hstp
                    simp only [Bool.and_eq_true, bne_iff_ne, ne_eq, beq_iff_eq] at hnm hsz
                    have hoff : f.offset = s := hnm.2
                    have hdx : xs.drop s = (xs.drop s).take q ++ xs.drop m := by
                      rw [← hstp, ← List.drop_drop, List.take_append_drop]
                    have hdy : ys.drop s = (ys.drop s).take q ++ ys.drop m := by
                      rw [← hstp, ← List.drop_drop, List.take_append_drop]
                    rw [hdx, hdy] at he
                    obtain ⟨t1, t2, e1, e2, e3⟩ := eqL_append _ _ _ _ _ (by simp; omega) he
                    have hp1 := part_run (w := w) (xs := xs) (off := s) hq hi hsz (by omega)
                    have hp2 := part_run (w := w) (xs := ys) (off := s) hq hi hsz (by omega)
                    have heq := ih f.type q d _ _ t1 w hq (by omega) (by simp; omega) (by simp; omega) e1
                    simp only [Op.eqFields]
                    rw [if_pos hnm.1]
                    simp only [Sem.run_bind, hoff, hp1, hp2, heq, Result.andThen_ok]
                    cases t1 with
                    | false => simp [e3]
                    | true => simp only [Bool.not_true, Bool.false_eq_true, if_false]; rw [e3]; exact ihl m t2 h hmn e2
                  · simp at hstp
                · simp at hstp
              · simp at hstp
        exact key fs.toList 0 b hc (by omega) (by simpa using he)
    · simp at hc

theorem eqc_run {P : Program} {w : World} {t : TypeId} {n : Nat} {xs ys : List Value} {b neg : Bool} (hc : intCells P 8 t = some n) (hst : isStructT P t = true) (hg : P.eqGuardType P.depth t = false)
    (hx : xs.length = n) (hy : ys.length = n) (he : eqL xs ys = some b) (x y : Operand) :
    (do eqGuard (if neg then .neq else .eql) t x y (.agg ⟨xs⟩) (.agg ⟨ys⟩); binOp (if neg then .neq else .eql) t (.agg ⟨xs⟩) (.agg ⟨ys⟩) : Sem Value).run P w = .ok (.bool (sgn neg b)) w := by
  have hv : ∀ zs : List Value, valOf P t zs = .agg ⟨zs⟩ := by
    intro zs; unfold valOf; unfold isStructT at hst; split at hst
    · rename_i fs hu; simp [hu]
    · simp at hst
  have h := equalIn_ints 8 t n 10000 xs ys b w hc (by omega) hx hy he
  rw [hv, hv] at h
  simp only [Sem.run_bind, run_eqGuard_agg w _ t x y _ _ hg, Result.andThen_ok]
  cases neg
  · simp [run_eql_struct, h, sgn]
  · simp [run_neq_struct, h, sgn]

/-! equality of structs of ints and strings -/
theorem eqM_append : ∀ (ks ms : List Bool) (a b c d : List Value) (t : Bool), a.length = ks.length → b.length = ks.length → eqM (ks ++ ms) (a ++ c) (b ++ d) = some t → ∃ t1 t2, eqM ks a b = some t1 ∧ eqM ms c d = some t2 ∧ t = (t1 && t2) := by
  intro ks
  induction ks with
  | nil =>
    intro ms a b c d t ha hb h
    have ha : a = [] := List.eq_nil_of_length_eq_zero ha
    have hb : b = [] := List.eq_nil_of_length_eq_zero hb
    subst ha; subst hb
    exact ⟨true, t, rfl, h, by simp⟩
  | cons k ks ih =>
    intro ms a b c d t ha hb h
    match a, ha, b, hb with
    | x :: a, ha, y :: b, hb =>
      simp only [List.cons_append] at h
      unfold eqM at h
      split at h
      · rename_i h1 h2 h3; simp at h1
      · rename_i ks' k1 i l k2 j r h1 h2 h3
        injection h1 with h1 h1'
        injection h2 with h2 h2'
        injection h3 with h3 h3'
        subst h1; subst h1'; subst h2; subst h2'; subst h3; subst h3'
        cases hk : kEq k1 k2 with
        | false => rw [hk] at h; simp at h
        | true =>
          rw [hk] at h
          simp only [cond_true] at h
          cases hr : eqM (ks ++ ms) (a ++ c) (b ++ d) with
          | none => rw [hr] at h; simp at h
          | some r =>
            rw [hr] at h
            simp only [Option.some.injEq] at h
            obtain ⟨t1, t2, e1, e2, e3⟩ := ih ms a b c d r (by simpa using ha) (by simpa using hb) hr
            refine ⟨(i == j && t1), t2, ?_, e2, ?_⟩
            · simp [eqM, hk, e1]
            · rw [← h, e3]; simp [Bool.and_assoc]
      · rename_i ks' i l j r h1 h2 h3
        injection h1 with h1 h1'
        injection h2 with h2 h2'
        injection h3 with h3 h3'
        subst h1; subst h1'; subst h2; subst h2'; subst h3; subst h3'
        cases hr : eqM (ks ++ ms) (a ++ c) (b ++ d) with
        | none => rw [hr] at h; simp at h
        | some r =>
          rw [hr] at h
          simp only [Option.some.injEq] at h
          obtain ⟨t1, t2, e1, e2, e3⟩ := ih ms a b c d r (by simpa using ha) (by simpa using hb) hr
          refine ⟨(i.toList == j.toList && t1), t2, ?_, e2, ?_⟩
          · simp [eqM, e1]
          · rw [← h, e3]; simp [Bool.and_assoc]
      · simp at h
    | [], ha, _, _ => simp at ha
    | _ :: _, _, [], hb => simp at hb
theorem eqM_len : ∀ (ks : List Bool) (a b : List Value) (t : Bool), eqM ks a b = some t → a.length = ks.length ∧ b.length = ks.length := by
  intro ks
  induction ks with
  | nil =>
    intro a b t h
    unfold eqM at h
    split at h <;> first | exact ⟨rfl, rfl⟩ | (simp_all; done)
  | cons k ks ih =>
    intro a b t h
    unfold eqM at h
    split at h
    · simp_all
    · rename_i ks' k1 i l k2 j r h1
      injection h1 with h1 h1'
      subst h1'
      cases hk : kEq k1 k2 with
      | false => rw [hk] at h; simp at h
      | true =>
        rw [hk] at h
        cases hr : eqM ks l r with
        | none => rw [hr] at h; simp at h
        | some t' => have := ih l r t' hr; simp [this.1, this.2]
    · rename_i ks' i l j r h1
      injection h1 with h1 h1'
      subst h1'
      cases hr : eqM ks l r with
      | none => rw [hr] at h; simp at h
      | some t' => have := ih l r t' hr; simp [this.1, this.2]
    · simp at h

def mcStep (P : Program) (k : Nat) (acc : Option (List Bool)) (f : Field) : Option (List Bool) :=
  match acc with
  | some ks => if f.name != "_" && f.offset == ks.length then (match mixCells P k f.type, P.info? f.type with | some m, some i => if i.size == m.length then some (ks ++ m) else none | _, _ => none) else none
  | none => none
theorem mc_none (P : Program) (k : Nat) (l : List Field) : l.foldl (mcStep P k) none = none := by
  induction l with
  | nil => rfl
  | cons f l ih => simpa [mcStep] using ih
theorem mc_ge {P : Program} {k : Nat} : ∀ (l : List Field) (s n : List Bool), l.foldl (mcStep P k) (some s) = some n → ∃ r, n = s ++ r := by
  intro l
  induction l with
  | nil => intro s n h; simp at h; exact ⟨[], by simp [h]⟩
  | cons f l ih =>
    intro s n h
    simp only [List.foldl_cons] at h
    cases hst : mcStep P k (some s) f with
    | none => rw [hst, mc_none] at h; simp at h
    | some m =>
      rw [hst] at h
      obtain ⟨r, hr⟩ := ih _ _ h
      simp only [mcStep] at hst
      split at hst
      · split at hst
        · split at hst
          · injection hst with hst; rw [hr, ← hst, List.append_assoc]; exact ⟨_, rfl⟩
          · simp at hst
        · simp at hst
      · simp at hst
/-- The value of a type that these cells are. -/
def valOfM (P : Program) (t : TypeId) (xs : List Value) : Value :=
  match P.underlying t with
  | some (.int _) => xs.headD undef
  | some .string => xs.headD undef
  | _ => .agg ⟨xs⟩
theorem part_runM {P : Program} {w : World} {t : TypeId} {i : TypeInfo} {k : Nat} {n : List Bool} {xs : List Value} {off : Nat} (hc : mixCells P k t = some n) (hi : P.info? t = some i) (hn : i.size = n.length) (hl : off + n.length ≤ xs.length) :
    (part t ⟨xs⟩ off).run P w = .ok (valOfM P t ((xs.drop off).take n.length)) w := by
  cases k with
  | zero => simp [mixCells] at hc
  | succ k =>
    simp only [mixCells] at hc
    split at hc
    · rename_i kk hu
      injection hc with hc; subst hc
      simp only [List.length_cons, List.length_nil] at hl hn
      have hlt : off < xs.length := by omega
      have e1 : (xs.drop off).take 1 = [xs[off]] := by rw [List.drop_eq_getElem_cons hlt]; rfl
      simp [part, isAgg, run_und hu, valOfM, hu, hlt, e1]
    · rename_i hu
      injection hc with hc; subst hc
      simp only [List.length_cons, List.length_nil] at hl hn
      have hlt : off < xs.length := by omega
      have e1 : (xs.drop off).take 1 = [xs[off]] := by rw [List.drop_eq_getElem_cons hlt]; rfl
      simp [part, isAgg, run_und hu, valOfM, hu, hlt, e1]
    · rename_i fs hu
      have e : (⟨xs⟩ : Array Value).extract off (off + n.length) = ⟨(xs.drop off).take n.length⟩ := by
        apply Array.ext'
        simp
      simp [part, isAgg, run_und hu, valOfM, hu, run_sz hi, hn, e]
    · simp at hc
theorem equalIn_mix {P : Program} : ∀ (k : Nat) (t : TypeId) (n : List Bool) (d : Nat) (xs ys : List Value) (b : Bool) (w : World), mixCells P k t = some n → k < d →
    eqM n xs ys = some b → (Op.equalIn d t (valOfM P t xs) (valOfM P t ys)).run P w = .ok b w := by
  intro k
  induction k with
  | zero => intro t n d xs ys b w h; simp [mixCells] at h
  | succ k ih =>
    intro t n d xs ys b w hc hd he
    obtain ⟨hx, hy⟩ := eqM_len _ _ _ _ he
    obtain ⟨d, rfl⟩ : ∃ m, d = m + 1 := ⟨d - 1, by omega⟩
    simp only [mixCells] at hc
    split at hc
    · rename_i kk hu
      injection hc with hc; subst hc
      match xs, hx with
      | [x], _ =>
        match ys, hy with
        | [y], _ =>
          cases x <;> cases y <;> simp [eqM] at he
          rename_i k1 a _ k2 c _
          cases hk : kEq k1 k2 with
          | false => rw [hk] at he; simp at he
          | true =>
            rw [hk] at he; have := kEq_eq hk; subst this
            simp at he; subst he
            simp only [valOfM, hu, List.headD_cons]
            exact run_equalIn_int w d t k1 kk a c hu
    · rename_i hu
      injection hc with hc; subst hc
      match xs, hx with
      | [x], _ =>
        match ys, hy with
        | [y], _ =>
          cases x <;> cases y <;> simp [eqM] at he
          rename_i a _ c _
          subst he
          simp only [valOfM, hu, List.headD_cons]
          exact run_equalIn_string w d t a c hu
    · rename_i fs hu
      split at hc
      · simp at hc
      · rename_i hst
        have hf : P.fieldsOf t = fs := by simp [Program.fieldsOf, hu]
        have hval : ∀ zs : List Value, valOfM P t zs = .agg ⟨zs⟩ := by intro zs; simp [valOfM, hu]
        rw [hval, hval, run_equalIn_struct w d t _ _ (by rw [hf]; exact hu) (by simpa using hst), hf]
        have key : ∀ (l : List Field) (s : List Bool) (b : Bool), l.foldl (mcStep P k) (some s) = some n → eqM (n.drop s.length) (xs.drop s.length) (ys.drop s.length) = some b → (Op.eqFields d ⟨xs⟩ ⟨ys⟩ l).run P w = .ok b w := by
          intro l
          induction l with
          | nil =>
            intro s b h he
            simp at h; subst h
            have h1 : xs.drop s.length = [] := by apply List.drop_eq_nil_of_le; omega
            have h2 : ys.drop s.length = [] := by apply List.drop_eq_nil_of_le; omega
            rw [h1, h2, List.drop_length] at he; simp [eqM] at he; subst he
            simp [Op.eqFields]
          | cons f l ihl =>
            intro s b h he
            simp only [List.foldl_cons] at h
            cases hstp : mcStep P k (some s) f with
            | none => rw [hstp, mc_none] at h; simp at h
            | some m =>
              rw [hstp] at h
              obtain ⟨r, hr⟩ := mc_ge _ _ _ h
              simp only [mcStep] at hstp
              split at hstp
              · rename_i hnm
                split at hstp
                · rename_i q i hq hi
                  split at hstp
                  · rename_i hsz
                    injection hstp with hstp
                    simp only [Bool.and_eq_true, bne_iff_ne, ne_eq, beq_iff_eq] at hnm hsz
                    have hoff : f.offset = s.length := hnm.2
                    have hml : m.length = s.length + q.length := by rw [← hstp, List.length_append]
                    have hnl : n.length = m.length + r.length := by rw [hr, List.length_append]
                    have hdn : n.drop s.length = q ++ n.drop m.length := by
                      rw [hr, ← hstp, List.append_assoc, List.drop_left, ← List.append_assoc, List.drop_left]
                    have hdx : xs.drop s.length = (xs.drop s.length).take q.length ++ xs.drop m.length := by
                      rw [hml, ← List.drop_drop, List.take_append_drop]
                    have hdy : ys.drop s.length = (ys.drop s.length).take q.length ++ ys.drop m.length := by
                      rw [hml, ← List.drop_drop, List.take_append_drop]
                    rw [hdn, hdx, hdy] at he
                    obtain ⟨t1, t2, e1, e2, e3⟩ := eqM_append _ _ _ _ _ _ _ (by simp; omega) (by simp; omega) he
                    have hp1 := part_runM (w := w) (xs := xs) (off := s.length) hq hi hsz (by omega)
                    have hp2 := part_runM (w := w) (xs := ys) (off := s.length) hq hi hsz (by omega)
                    have heq := ih f.type q d _ _ t1 w hq (by omega) e1
                    simp only [Op.eqFields]
                    rw [if_pos hnm.1]
                    simp only [Sem.run_bind, hoff, hp1, hp2, heq, Result.andThen_ok]
                    cases t1 with
                    | false => simp [e3]
                    | true => simp only [Bool.not_true, Bool.false_eq_true, if_false]; rw [e3]; exact ihl m t2 h e2
                  · simp at hstp
                · simp at hstp
              · simp at hstp
        exact key fs.toList [] b hc (by simpa using he)
    · simp at hc
theorem eqs_run {P : Program} {w : World} {t : TypeId} {n : List Bool} {xs ys : List Value} {b neg : Bool} (hc : mixCells P 8 t = some n) (hst : isStructT P t = true) (hg : P.eqGuardType P.depth t = false)
    (he : eqM n xs ys = some b) (x y : Operand) :
    (do eqGuard (if neg then .neq else .eql) t x y (.agg ⟨xs⟩) (.agg ⟨ys⟩); binOp (if neg then .neq else .eql) t (.agg ⟨xs⟩) (.agg ⟨ys⟩) : Sem Value).run P w = .ok (.bool (sgn neg b)) w := by
  have hv : ∀ zs : List Value, valOfM P t zs = .agg ⟨zs⟩ := by
    intro zs; unfold valOfM; unfold isStructT at hst; split at hst
    · rename_i fs hu; simp [hu]
    · simp at hst
  have h := equalIn_mix 8 t n 10000 xs ys b w hc (by omega) he
  rw [hv, hv] at h
  simp only [Sem.run_bind, run_eqGuard_agg w _ t x y _ _ hg, Result.andThen_ok]
  cases neg
  · simp [run_eql_struct, h, sgn]
  · simp [run_neq_struct, h, sgn]

theorem bytesOf_push : ∀ (l : List Value) (r : List UInt8) (s : ByteArray), bytesOf l = some r → ∀ {P : Program} {w : World},
    (forIn l s (fun (c : Value) (s : ByteArray) => (match c with | .int .u8 n => pure (ForInStep.yield (s.push (UInt8.ofNat n.toNat))) | _ => do stuck "bytesToString: byte expected"; pure (ForInStep.yield s) : Sem (ForInStep ByteArray)))).run P w = .ok ⟨⟨s.data.toList ++ r⟩⟩ w := by
  intro l
  induction l with
  | nil => intro r s h P w; simp [bytesOf] at h; subst h; simp
  | cons c l ih =>
    intro r s h P w
    cases c <;> try (simp [bytesOf] at h; done)
    rename_i k n
    cases k <;> try (simp [bytesOf] at h; done)
    simp only [bytesOf] at h
    cases hr : bytesOf l with
    | none => rw [hr] at h; simp at h
    | some r' =>
      rw [hr] at h; simp only [Option.some.injEq] at h; subst h
      rw [List.forIn_cons]
      have := ih r' (s.push (UInt8.ofNat n.toNat)) hr (P := P) (w := w)
      simp only [Sem.run_bind, Sem.run_pure, Result.andThen_ok]
      rw [this]
      congr 1
      simp [ByteArray.push]

theorem b2s_run {P : Program} {w : World} {x v : Value} (h : b2sV x w = some v) : (Conv.bytesToString x).run P w = .ok v w := by
  unfold b2sV at h
  split at h
  · injection h with h; subst h; rfl
  · rename_i a len cap
    split at h
    · rename_i l hl
      split at h
      · rename_i r hr
        injection h with h; subst h
        simp only [Conv.bytesToString, Sem.run_bind, rowOf_run hl, Result.andThen_ok]
        rw [← Array.forIn_toList]
        have := bytesOf_push l r ByteArray.empty hr (P := P) (w := w)
        simp only [Sem.run_bind]
        erw [this]
        simp
      · simp at h
    · simp at h
  · simp at h

theorem s2b_run {P : Program} {w : World} (e : TypeId) (s : ByteArray) : ∃ cap, s.size ≤ cap ∧ (Conv.stringToBytes e s).run P w = .ok (.slice (some ⟨w.heap.size, 0, none⟩) s.size cap) (w.drew.alloc (.cells ⟨byteCells s ++ List.replicate (cap - s.size) (.int .u8 0)⟩ e (cap, cap + 1))) := by
  refine ⟨(Question.appendCap s.size 0 e).cut (w.tape w.drawn (.appendCap s.size 0 e)), ?_, ?_⟩
  · simp [Question.cut]
  · generalize hc : (Question.appendCap s.size 0 e).cut (w.tape w.drawn (.appendCap s.size 0 e)) = cap
    have hle : s.size ≤ cap := by rw [← hc]; simp [Question.cut]
    have hcells : (s.data.map fun b => (Value.int .u8 (b.toNat : Int))) ++ Array.replicate (cap - s.size) (Value.int .u8 0) = (⟨byteCells s ++ List.replicate (cap - s.size) (.int .u8 0)⟩ : Array Value) := by
      apply Array.ext'
      simp [byteCells]
    have hsz : (byteCells s ++ List.replicate (cap - s.size) (Value.int .u8 0)).length = cap := by
      simp [byteCells]; have : s.data.size = s.size := rfl; omega
    simp only [Conv.stringToBytes, Sem.run_bind, run_choose, Question.forced, Bool.false_eq_true, if_false, hc, Result.andThen_ok, newRow, run_newObj, Sem.run_pure, hcells, markStringish, run_shape, World.shape?]
    simp only [World.size_drew, Array.getElem?_push_size, List.size_toArray, hsz, Result.andThen_ok, run_freeze, Sem.run_bind]
    congr 1
    unfold World.freeze World.alloc World.drew
    simp
    apply Array.ext_getElem?
    intro j
    rw [Array.getElem?_modify, Array.getElem?_push, Array.getElem?_push]
    by_cases hj : j = w.heap.size
    · subst hj; simp
    · simp [hj]; intro h; exact absurd h.symm hj

/-! the operations, all kinds together -/

/-- What is to be shown of a compiled operation. -/
def Good (P : Program) (T : Rg) (w : World) (o : Op) (ty : TypeId) : Bop → Prop
  | .p _ e => ∀ v, e.ev T = some v → (rawSem T o ty).run P w = .ok (.value v) w
  | .pk _ c a b => ∀ t, T.ev c = .bool t → (rawSem T o ty).run P w = .ok (.value (if t then T.ev a else T.ev b)) w
  | .ar _ op x y => ∀ v, arV op (T.ev x) (T.ev y) = some v → (rawSem T o ty).run P w = .ok (.value v) w
  | .ld _ n x => ∀ v, ldV n (T.ev x) w = some v → (rawSem T o ty).run P w = .ok (.value v) w
  | .st _ n x y => ∀ b off c t lo hi, T.ev x = .pointer (some ⟨b, off, none⟩) → w.heap[b]? = some (.cells ⟨c⟩ t (lo, hi)) → (T.ev y).cells.toList.length = n →
      (∀ v ∈ (T.ev y).cells.toList, Value.flat v = true) → off + n ≤ c.length → (∀ i, off ≤ i → i < off + n → ¬ (lo ≤ i ∧ i < hi)) →
      (rawSem T o ty).run P w = .ok .skip (w.putObj b (.cells ⟨putAt c off (T.ev y).cells.toList⟩ t (lo, hi)))
  | .nw _ t cs => (rawSem T o ty).run P w = .ok (.value (.pointer (some ⟨w.heap.size, 0, none⟩))) (w.alloc (.cells ⟨cs⟩ t))
  | .bx _ t x => (rawSem T o ty).run P w = .ok (.value (.pointer (some ⟨w.heap.size, 0, none⟩))) (w.alloc (.cells (T.ev x).cells t))
  | .call _ f args => (rawSem T o ty).run P w = .ok (.enter f ⟨T.evs args⟩) w
  | .cf _ x args => (∀ f fs cs, T.ev x = .func (.func f) ⟨fs⟩ ⟨cs⟩ → callable P f = true → (rawSem T o ty).run P w = .ok (.enter f ⟨fs ++ T.evs args ++ cs⟩) w) ∧
      (∀ l, T.ev x = .func (.yield l) #[] #[] → (rawSem T o ty).run P w = (Instr.yield l ⟨T.evs args⟩).run P w)
  | .raw _ o' ty' => o' = o ∧ ty' = ty
  | .s2b _ e x => ∀ s, T.ev x = .string s → ∃ cap, s.size ≤ cap ∧ (rawSem T o ty).run P w = .ok (.value (.slice (some ⟨w.heap.size, 0, none⟩) s.size cap)) (w.drew.alloc (.cells ⟨byteCells s ++ List.replicate (cap - s.size) (.int .u8 0)⟩ e (cap, cap + 1)))
  | .b2s _ x => ∀ v, b2sV (T.ev x) w = some v → (rawSem T o ty).run P w = .ok (.value v) w
  | .bad => True

theorem callable_run {P : Program} {w : World} {f : FuncId} (h : callable P f = true) (args : Array Value) : (callFunc f args).run P w = .ok (.enter f args) w := by
  unfold callable at h
  cases hf : P.funcs[f]? with
  | none => simp [hf] at h
  | some fn =>
    simp only [hf, Bool.and_eq_true, bne_iff_ne, ne_eq] at h
    have hb : fn.body.isNone = false := by cases hfb : fn.body <;> simp_all
    have hn : (fn.name == "runtime.NumGoroutine") = false := by simpa using h.2
    simp only [callFunc, Sem.run_bind, run_program, Result.andThen_ok, hf, hn, hb, Bool.false_eq_true, if_false, Sem.run_pure]

end Dn

/-
  Each compiled operation is what the model runs.
-/
namespace Dn
open Go

variable {P : Program} {T : Rg} {w : World} {d : Option Nat} {ty : TypeId}

theorem pull {s : Sem Value} {v : Value} {w' : World} (h : s.run P w = .ok v w') : (do pure (.value (← s)) : Sem Next).run P w = .ok (.value v) w' := by
  simp [h]

theorem bnd_run {x : Option Operand} {dflt top h : Nat} {code : BoundsCode} (hb : bndV T (x.map cX) dflt top = some h) :
    (match x.map T.evR with | some v => Instr.sliceBound v top code | none => pure dflt : Sem Nat).run P w = .ok h w := by
  cases x with
  | none => simp only [Option.map_none, bndV] at hb ⊢; injection hb with hb; subst hb; rfl
  | some x =>
    simp only [Option.map_some, bndV, ev_cX] at hb ⊢
    split at hb
    · rename_i k i hx
      split at hb
      · rename_i hc
        injection hb with hb; subst hb
        simp [hx, Instr.sliceBound, asIntOf, hc]
      · simp at hb
    · simp at hb

theorem good_p_slice {t : TypeId} {x : Operand} {lo hi : Option Operand} (o : PE)
    (ho : o = .sls (cX x) (lo.map cX) (hi.map cX) ∧ isStrT P t = true ∨ (∃ n, elemSize P t = some n ∧ o = .sll n (cX x) (lo.map cX) (hi.map cX)) ∨ (∃ n e k, arrOf P t = some (n, e) ∧ sizeT P e = some k ∧ o = .slp n k (cX x) (lo.map cX) (hi.map cX)))
    (v : Value) (h : o.ev T = some v) : (Instr.sliceAt t (T.evR x) (lo.map T.evR) (hi.map T.evR) none).run P w = .ok v w := by
  rcases ho with ⟨rfl, ht⟩ | ⟨n, hn, rfl⟩ | ⟨n, e, k, hn, hk, rfl⟩
  · simp only [PE.ev, ev_cX] at h
    split at h
    · rename_i s hs
      split at h
      · rename_i b hb
        split at h
        · rename_i a ha
          injection h with h; subst h
          unfold isStrT at ht
          split at ht
          · rename_i hu
            have h1 := bnd_run (P := P) (w := w) (code := .sliceAlen) hb
            have h2 := bnd_run (P := P) (w := w) (code := .sliceB) ha
            simp only [Instr.sliceAt, Sem.run_bind, run_und hu, Result.andThen_ok, Instr.slice, hs, Option.isSome_none, Bool.false_eq_true, if_false, Instr.sliceBounds, Sem.run_pure]
            cases hi <;> cases lo <;> simp_all
          · simp at ht
        · simp at h
      · simp at h
    · simp at h
  · simp only [PE.ev, ev_cX] at h
    split at h
    · rename_i a len cap hs
      split at h
      · rename_i b hb
        split at h
        · rename_i l ha
          injection h with h; subst h
          unfold elemSize at hn
          split at hn
          · rename_i el hu
            cases hi' : P.info? el with
            | none => simp [hi'] at hn
            | some i =>
              simp [hi'] at hn; subst hn
              have h1 := bnd_run (P := P) (w := w) (code := .sliceAcap) hb
              have h2 := bnd_run (P := P) (w := w) (code := .sliceB) ha
              simp only [Instr.sliceAt, Sem.run_bind, run_und hu, Result.andThen_ok, Instr.slice, hs, Option.isSome_none, Bool.false_eq_true, if_false, Instr.sliceBounds, Sem.run_pure]
              cases hi <;> cases lo <;> simp_all [run_sz hi']
          · simp at hn
        · simp at h
      · simp at h
    · simp at h
  · simp only [PE.ev, ev_cX] at h
    split at h
    · rename_i a hs
      split at h
      · rename_i b hb
        split at h
        · rename_i l ha
          injection h with h; subst h
          unfold arrOf at hn
          split at hn
          · rename_i n' el hu
            simp at hn; obtain ⟨rfl, rfl⟩ := hn
            unfold sizeT at hk
            cases hi' : P.info? el with
            | none => simp [hi'] at hk
            | some i =>
              simp [hi'] at hk; subst hk
              have h1 := bnd_run (P := P) (w := w) (code := .sliceAlen) hb
              have h2 := bnd_run (P := P) (w := w) (code := .sliceB) ha
              simp only [Instr.sliceAt, Sem.run_bind, run_und hu, Result.andThen_ok, hs, Instr.sureAddr, Option.isSome_none, Bool.false_eq_true, if_false, Instr.sliceBounds, Sem.run_pure]
              cases hi <;> cases lo <;> simp_all [run_sz hi']
          · simp at hn
        · simp at h
      · simp at h
    · simp at h

theorem addr_add (b o m : Nat) : (Addr.add ⟨b, o, none⟩ m) = ⟨b, o + m, none⟩ := by
  unfold Addr.add; split
  · rename_i h; subst h; rfl
  · rfl

theorem good_indexAddr {t : TypeId} {x i : Operand} (o : PE)
    (ho : (∃ n, elemSize P t = some n ∧ o = .ixa n (cX x) (cX i)) ∨ (∃ ln e n, arrOf P t = some (ln, e) ∧ sizeT P e = some n ∧ o = .ixp ln n (cX x) (cX i)))
    (v : Value) (h : o.ev T = some v) : (Instr.indexAt t (T.evR x) (T.evR i)).run P w = .ok v w := by
  rcases ho with ⟨n, hn, rfl⟩ | ⟨ln, e, n, hn, hk, rfl⟩
  · simp only [PE.ev, ev_cX] at h
    split at h
    · rename_i b o len cap k j hx hi
      split at h
      · rename_i hc
        injection h with h; subst h
        unfold elemSize at hn
        split at hn
        · rename_i el hu
          cases hi' : P.info? el with
          | none => simp [hi'] at hn
          | some ii =>
            simp [hi'] at hn; subst hn
            simp [Instr.indexAt, hx, hi, asIntOf, run_und hu, hc, run_sz hi', addr_add]
        · simp at hn
      · simp at h
    · simp at h
  · simp only [PE.ev, ev_cX] at h
    split at h
    · rename_i b o k j hx hi
      split at h
      · rename_i hc
        injection h with h; subst h
        unfold arrOf at hn
        split at hn
        · rename_i n' el hu
          simp at hn; obtain ⟨rfl, rfl⟩ := hn
          unfold sizeT at hk
          cases hi' : P.info? el with
          | none => simp [hi'] at hk
          | some ii =>
            simp [hi'] at hk; subst hk
            simp [Instr.indexAt, hx, hi, asIntOf, run_und hu, hc, run_sz hi', addr_add, Instr.sureAddr]
        · simp at hn
      · simp at h
    · simp at h

theorem good_index {t : TypeId} {x i : Operand} (o : PE)
    (ho : (isStrT P t = true ∧ o = .ixs (cX x) (cX i)) ∨ (∃ ln e, arrOf P t = some (ln, e) ∧ aggSize P e = some none ∧ sizeT P e = some 1 ∧ o = .ixv ln none (cX x) (cX i)) ∨
      (∃ ln e n, arrOf P t = some (ln, e) ∧ aggSize P e = some (some n) ∧ o = .ixv ln (some n) (cX x) (cX i)))
    (v : Value) (h : o.ev T = some v) : (Instr.index t (T.evR x) (T.evR i)).run P w = .ok v w := by
  rcases ho with ⟨ht, rfl⟩ | ⟨ln, e, hn, ha, hk, rfl⟩ | ⟨ln, e, n, hn, ha, rfl⟩
  · simp only [PE.ev, ev_cX] at h
    split at h
    · rename_i s k j hx hi
      split at h
      · rename_i hc
        injection h with h; subst h
        unfold isStrT at ht
        split at ht
        · rename_i hu
          have hlt : j.toNat < s.size := by omega
          have e1 : s[j.toNat]? = some s[j.toNat] := by simp [getElem?_pos, hlt]
          have e2 : s[j.toNat] = s.data.toList.getD j.toNat 0 := by
            have : j.toNat < s.data.toList.length := by simpa using hlt
            rw [List.getD_eq_getElem?_getD, List.getElem?_eq_getElem this]; rfl
          simp only [Instr.index, hx, hi, asIntOf, Sem.run_bind, Sem.run_pure, Result.andThen_ok, run_und hu, hc.1, if_true, e1, e2]
        · simp at ht
      · simp at h
    · simp at h
  · simp only [PE.ev, ev_cX] at h
    split at h
    · rename_i cs k j hx hi
      split at h
      · rename_i hc
        unfold arrOf at hn
        split at hn
        · rename_i n' el hu
          simp at hn; obtain ⟨rfl, rfl⟩ := hn
          unfold sizeT at hk
          cases hi' : P.info? el with
          | none => simp [hi'] at hk
          | some ii =>
            simp [hi'] at hk
            obtain ⟨h1, h2⟩ := run_isAgg (w := w) ha
            simp [Instr.index, hx, hi, asIntOf, run_und hu, hc, run_sz hi', hk, part, h1, h]
        · simp at hn
      · simp at h
    · simp at h
  · simp only [PE.ev, ev_cX] at h
    split at h
    · rename_i cs k j hx hi
      split at h
      · rename_i hc
        unfold arrOf at hn
        split at hn
        · rename_i n' el hu
          simp at hn; obtain ⟨rfl, rfl⟩ := hn
          obtain ⟨h1, h2⟩ := run_isAgg (w := w) ha
          have h3 := h2 n rfl
          injection h with h; subst h
          have e : (⟨cs⟩ : Array Value).extract (j.toNat * n) (j.toNat * n + n) = ⟨(cs.drop (j.toNat * n)).take n⟩ := by
            apply Array.ext'; simp
          simp [Instr.index, hx, hi, asIntOf, run_und hu, hc, h3, part, h1, e]
        · simp at hn
      · simp at h
    · simp at h

theorem good_build {t : TypeId} {ps : Array (Nat × Operand)} {z : Value} {r : List (Nat × Nat × X)} (hz : (P.info? t).bind (·.zero) = some z)
    (hr : (∃ fs pl, P.underlying t = some (.struct fs) ∧ cFields P fs.toList = some pl ∧ cParts (fun (j : Nat) => pl[j]?) ps.toList = some r) ∨
      (∃ n e i, P.underlying t = some (.array n e) ∧ P.info? e = some i ∧ cParts (fun j => some (j * i.size, i.size)) ps.toList = some r))
    (v : Value) (h : (PE.bld z.cells.toList r).ev T = some v) : (Instr.build t (ps.map fun (i, x) => (i, T.evR x))).run P w = .ok v w := by
  simp only [PE.ev] at h
  split at h
  · rename_i cs hcs
    injection h with h; subst h
    rcases hr with ⟨fs, pl, hu, hf, hp⟩ | ⟨n, e, i, hu, hi, hp⟩
    · have hfill := fillL_eq ps.toList (fun (j : Nat) => pl[j]?) T _ r cs hp hcs
      have hfm : (fs.mapM (m := Sem) fun f => do pure (f.offset, ← Go.sizeOf f.type)).run P w = .ok ⟨pl⟩ w := by
        have := cFields_run (P := P) (w := w) fs.toList pl hf
        rw [Array.mapM_eq_mapM_toList]
        simp only [Sem.run_map, this, Result.andThen_ok]
      simp only [Instr.build, Sem.run_bind, run_zero hz, run_und hu, Result.andThen_ok, hfm]
      have e1 : (ps.map fun (i, x) => (i, T.evR x)).toList = ps.toList.map fun (i, x) => (i, T.evR x) := by simp
      have e2 : (fun (j : Nat) => (⟨pl⟩ : Array (Nat × Nat))[j]?) = (fun (j : Nat) => pl[j]?) := by funext i; simp
      rw [e1, e2]
      rw [show z.cells = ⟨z.cells.toList⟩ from rfl, hfill]
      simp
    · have hfill := fillL_eq ps.toList _ T _ r cs hp hcs
      simp only [Instr.build, Sem.run_bind, run_zero hz, run_und hu, Result.andThen_ok, run_sz hi]
      have e1 : (ps.map fun (i, x) => (i, T.evR x)).toList = ps.toList.map fun (i, x) => (i, T.evR x) := by simp
      rw [e1]
      rw [show z.cells = ⟨z.cells.toList⟩ from rfl, hfill]
      simp
  · simp at h

theorem good_field {s : TypeId} {x : Operand} {i : Nat} {fs : Array Field} {f : Field} {n : Option Nat} (hu : P.underlying s = some (.struct fs)) (hf : fs[i]? = some f) (hn : aggSize P f.type = some n)
    (v : Value) (h : (PE.fld (cX x) f.offset n).ev T = some v) : (Instr.field s (T.evR x) i).run P w = .ok v w := by
  simp only [PE.ev, ev_cX] at h
  split at h
  · rename_i cs hx
    obtain ⟨h1, h2⟩ := run_isAgg (w := w) hn
    cases n with
    | none =>
      simp only at h
      simp [Instr.field, run_und hu, hf, hx, asAgg, part, h1, h]
    | some k =>
      simp only at h
      injection h with h; subst h
      have e : (⟨cs⟩ : Array Value).extract f.offset (f.offset + k) = ⟨(cs.drop f.offset).take k⟩ := by apply Array.ext'; simp
      simp [Instr.field, run_und hu, hf, hx, asAgg, part, h1, h2 k rfl, e]
  · simp at h

theorem good_fieldAddr {s : TypeId} {x : Operand} {i : Nat} {fs : Array Field} {f : Field} {ti : TypeInfo} (hu : P.underlying s = some (.struct fs)) (hf : fs[i]? = some f) (hi : P.info? f.type = some ti) (hz : ti.size ≠ 0)
    (v : Value) (h : (PE.fad (cX x) f.offset).ev T = some v) : (Instr.fieldAt s (T.evR x) i).run P w = .ok v w := by
  simp only [PE.ev, ev_cX] at h
  split at h
  · rename_i b o hx
    injection h with h; subst h
    simp [Instr.fieldAt, run_und hu, hf, hx, Instr.sureAddr, fieldPlace, run_sz hi, hz, addr_add]
  · simp at h

theorem good_len {t : TypeId} {x : Operand} (ts : Array TypeId) (ht : ts[0]? = some t) (hk : isSliceT P t = true) (v : Value) (h : (PE.len (cX x)).ev T = some v) (ty : TypeId) :
    (Builtin.len_ ts ty #[T.evR x]).run P w = .ok v w := by
  simp only [PE.ev, ev_cX] at h
  have hsi : ∃ e, P.underlying t = some (.slice e) := by unfold isSliceT at hk; split at hk <;> simp_all
  obtain ⟨e, hu⟩ := hsi
  split at h
  · rename_i a n c hx
    injection h with h; subst h
    simp [Builtin.len_, ht, run_und hu, hx, goInt]
  · simp at h

theorem good_lns {t : TypeId} {x : Operand} (ts : Array TypeId) (ht : ts[0]? = some t) (hk : isStrT P t = true) (v : Value) (h : (PE.lns (cX x)).ev T = some v) (ty : TypeId) :
    (Builtin.len_ ts ty #[T.evR x]).run P w = .ok v w := by
  simp only [PE.ev, ev_cX] at h
  have hu : P.underlying t = some .string := by unfold isStrT at hk; split at hk <;> simp_all
  split at h
  · rename_i s hx
    injection h with h; subst h
    simp [Builtin.len_, ht, run_und hu, hx, goInt]
  · simp at h

theorem eqn_key {t : TypeId} {x y : Operand} {op : BinOp} {neg : Bool} (hop : op = if neg then .neq else .eql) (a b : Value) (r : Bool) (h1 : a ≠ .nilIface) (h2 : ∀ c, a ≠ .agg c) (h3 : ∀ k n, a ≠ .int k n) (h4 : ∀ k n, a ≠ .float k n)
    (h5 : ∀ k m n, a ≠ .complex k m n) (h6 : ∀ s, a ≠ .string s) (hr : (Op.equal t a b).run P w = .ok r w) :
    (do eqGuard op t x y a b; binOp op t a b : Sem Value).run P w = .ok (.bool (sgn neg r)) w := by
  refine run_binV h1 (.inl h2) ?_
  subst hop
  cases neg <;> cases a <;> simp_all [binOp, sgn]

theorem eqI_ptr (n : Nat) {t e : TypeId} (hu : P.underlying t = some (.pointer e)) (a : Option Addr) : (Op.equalIn (n + 1) t (.pointer a) (.pointer none)).run P w = .ok a.isNone w := by
  cases a <;> simp only [Op.equalIn, Sem.run_bind, run_und hu, Result.andThen_ok, Sem.run_pure] <;> rfl
theorem eqI_sl (n : Nat) {t e : TypeId} (hu : P.underlying t = some (.slice e)) (a : Option Addr) (l c l' c' : Nat) : (Op.equalIn (n + 1) t (.slice a l c) (.slice none l' c')).run P w = .ok a.isNone w := by
  cases a <;> simp only [Op.equalIn, Sem.run_bind, run_und hu, Result.andThen_ok, Sem.run_pure] <;> rfl
theorem eqI_map (n : Nat) {t e e' : TypeId} (hu : P.underlying t = some (.map e e')) (a : Option Nat) : (Op.equalIn (n + 1) t (.map a) (.map none)).run P w = .ok a.isNone w := by
  cases a <;> simp only [Op.equalIn, Sem.run_bind, run_und hu, Result.andThen_ok, Sem.run_pure] <;> rfl
theorem eqI_fn0 (n : Nat) {t : TypeId} {a b : Array TypeId} {c : Bool} (hu : P.underlying t = some (.func a b c)) : (Op.equalIn (n + 1) t .nilFunc .nilFunc).run P w = .ok true w := by
  simp only [Op.equalIn, Sem.run_bind, run_und hu, Result.andThen_ok, Sem.run_pure]
theorem eqI_fn1 (n : Nat) {t : TypeId} {a b : Array TypeId} {c : Bool} (hu : P.underlying t = some (.func a b c)) (f : Fn) (x y : Array Value) : (Op.equalIn (n + 1) t (.func f x y) .nilFunc).run P w = .ok false w := by
  simp only [Op.equalIn, Sem.run_bind, run_und hu, Result.andThen_ok, Sem.run_pure]
theorem eqI_bool (n : Nat) {t : TypeId} (hu : P.underlying t = some .bool) (a b : Bool) : (Op.equalIn (n + 1) t (.bool a) (.bool b)).run P w = .ok (a == b) w := by
  simp only [Op.equalIn, Sem.run_bind, run_und hu, Result.andThen_ok, Sem.run_pure]

theorem good_eqn {t : TypeId} {x y : Operand} {op : BinOp} {neg : Bool} {k : Nat} (hop : op = if neg then .neq else .eql) (hk : nilKind P t = some k) (v : Value) (h : (PE.eqn k neg (cX x) (cX y)).ev T = some v) :
    (do eqGuard op t x y (T.evR x) (T.evR y); binOp op t (T.evR x) (T.evR y) : Sem Value).run P w = .ok v w := by
  simp only [PE.ev, ev_cX] at h
  unfold nilKind at hk
  split at h
  · rename_i a hx hy
    injection h with h; subst h
    split at hk <;> try (simp at hk; done)
    rename_i e hu
    rw [hx, hy]
    exact eqn_key hop _ _ _ (by simp) (by simp) (by simp) (by simp) (by simp) (by simp) (eqI_ptr 9999 hu _)
  · rename_i a l c l' c' hx hy
    injection h with h; subst h
    split at hk <;> try (simp at hk; done)
    rename_i e hu
    rw [hx, hy]
    exact eqn_key hop _ _ _ (by simp) (by simp) (by simp) (by simp) (by simp) (by simp) (eqI_sl 9999 hu _ _ _ _ _)
  · rename_i a hx hy
    injection h with h; subst h
    split at hk <;> try (simp at hk; done)
    rename_i e e' hu
    rw [hx, hy]
    exact eqn_key hop _ _ _ (by simp) (by simp) (by simp) (by simp) (by simp) (by simp) (eqI_map 9999 hu _)
  · rename_i hx hy
    injection h with h; subst h
    split at hk <;> try (simp at hk; done)
    rename_i hu
    rw [hx, hy]
    exact eqn_key hop _ _ _ (by simp) (by simp) (by simp) (by simp) (by simp) (by simp) (eqI_fn0 9999 hu)
  · rename_i hx hy
    injection h with h; subst h
    split at hk <;> try (simp at hk; done)
    rename_i hu
    rw [hx, hy]
    exact eqn_key hop _ _ _ (by simp) (by simp) (by simp) (by simp) (by simp) (by simp) (eqI_fn1 9999 hu _ _ _)
  · simp at h

theorem good_eqc {t : TypeId} {x y : Operand} {op : BinOp} {neg : Bool} {n : Nat} (hop : op = if neg then .neq else .eql) (hc : intCells P 8 t = some n) (hst : isStructT P t = true) (hg : P.eqGuardType P.depth t = false)
    (v : Value) (h : (PE.eqc neg n (cX x) (cX y)).ev T = some v) :
    (do eqGuard op t x y (T.evR x) (T.evR y); binOp op t (T.evR x) (T.evR y) : Sem Value).run P w = .ok v w := by
  simp only [PE.ev, ev_cX] at h
  split at h
  · rename_i a b hx hy
    cases hl : (Nat.beq a.length n && Nat.beq b.length n) with
    | false => rw [hl] at h; simp at h
    | true =>
      rw [hl] at h
      simp only [cond_true] at h
      split at h
      · rename_i r hr
        injection h with h; subst h
        rw [Bool.and_eq_true] at hl
        rw [hx, hy, hop]
        exact eqc_run hc hst hg (Nat.eq_of_beq_eq_true hl.1) (Nat.eq_of_beq_eq_true hl.2) hr x y
      · simp at h
  · simp at h

theorem good_eqs {t : TypeId} {x y : Operand} {op : BinOp} {neg : Bool} {n : List Bool} (hop : op = if neg then .neq else .eql) (hc : mixCells P 8 t = some n) (hst : isStructT P t = true) (hg : P.eqGuardType P.depth t = false)
    (v : Value) (h : (PE.eqs neg n (cX x) (cX y)).ev T = some v) :
    (do eqGuard op t x y (T.evR x) (T.evR y); binOp op t (T.evR x) (T.evR y) : Sem Value).run P w = .ok v w := by
  simp only [PE.ev, ev_cX] at h
  split at h
  · rename_i a b hx hy
    split at h
    · rename_i r hr
      injection h with h; subst h
      rw [hx, hy, hop]
      exact eqs_run hc hst hg hr x y
    · simp at h
  · simp at h

theorem good_cmp {t : TypeId} {x y : Operand} {op : BinOp} (hop : op = .eql ∨ op = .neq ∨ op = .lss ∨ op = .leq ∨ op = .gtr ∨ op = .geq) (v : Value) (h : (PE.cmp op (cX x) (cX y)).ev T = some v) :
    (do eqGuard op t x y (T.evR x) (T.evR y); binOp op t (T.evR x) (T.evR y) : Sem Value).run P w = .ok v w := by
  simp only [PE.ev, ev_cX] at h
  split at h
  · rename_i k a k' b hx hy
    cases hk : kEq k k' with
    | false => rw [hk] at h; simp at h
    | true =>
      rw [hk] at h; have := kEq_eq hk; subst this
      simp only [cond_true] at h
      have := cmpI_run (P := P) (w := w) h
      rw [hx, hy]
      refine run_binV (by simp) (.inl (by simp)) ?_
      rcases hop with rfl | rfl | rfl | rfl | rfl | rfl <;> simpa [binOp] using this
  · rename_i a b hx hy
    have := cmpS_run (P := P) (w := w) h
    rw [hx, hy]
    refine run_binV (by simp) (.inl (by simp)) ?_
    rcases hop with rfl | rfl | rfl | rfl | rfl | rfl <;> simpa [binOp] using this
  · simp at h

theorem good_cmpb {t : TypeId} {x y : Operand} {op : BinOp} {neg : Bool} (hop : op = if neg then .neq else .eql) (hb : isBoolT P t = true) (v : Value) (h : (PE.cmpb neg (cX x) (cX y)).ev T = some v) :
    (do eqGuard op t x y (T.evR x) (T.evR y); binOp op t (T.evR x) (T.evR y) : Sem Value).run P w = .ok v w := by
  simp only [PE.ev, ev_cX] at h
  split at h
  · rename_i a b hx hy
    injection h with h; subst h
    have hu : P.underlying t = some .bool := by unfold isBoolT at hb; split at hb <;> simp_all
    rw [hx, hy]
    have := eqn_key (P := P) (w := w) (t := t) (x := x) (y := y) hop (.bool a) (.bool b) (a == b) (by simp) (by simp) (by simp) (by simp) (by simp) (by simp) (eqI_bool 9999 hu _ _)
    rw [this]; cases neg <;> rfl
  · simp at h

end Dn

/-
  Each compiled operation is what the model runs: the whole.
-/
namespace Dn
open Go

variable {P : Program} {T : Rg} {w : World} {d : Option Nat} {ty : TypeId}

theorem good_un {op : UnOp} {t : TypeId} {x : Operand} (v : Value) (h : (PE.un op (cX x)).ev T = some v) : (Op.unary op (T.evR x)).run P w = .ok v w := by
  simp only [PE.ev, ev_cX] at h
  split at h
  · rename_i b hx; injection h with h; subst h; simp [Op.unary, hx]
  · rename_i k n hx; injection h with h; subst h; simp [Op.unary, hx, Op.intArith]
  · rename_i k n hx; injection h with h; subst h; simp [Op.unary, hx, Op.intBits, notI]
  · simp at h

theorem good_nck {x : Operand} (v : Value) (h : (PE.nck (cX x)).ev T = some v) : (rawSem T (.nilCheck x) ty).run P w = .ok (.value v) w := by
  simp only [PE.ev, ev_cX] at h
  split at h
  · rename_i a hx; injection h with h; subst h; simp [rawSem, execOp, hx]
  · rename_i f a b hx; injection h with h; subst h; simp [rawSem, execOp, hx]
  · rename_i f a b hx; injection h with h; subst h; simp [rawSem, execOp, hx]
  · simp at h

theorem good_bin (op : BinOp) (t : TypeId) (x y : Operand) (yt : TypeId) : Good P T w (.binOp op t x y yt) ty (cB P d (.binOp op t x y yt) ty) := by
  have ar : ∀ op', op' = op → Good P T w (.binOp op t x y yt) ty (.ar d op' (cX x) (cX y)) := by
    intro op' e; subst e
    intro v h
    rw [ev_cX, ev_cX] at h
    obtain ⟨h1, h2, h3⟩ := arV_run (P := P) (w := w) (t := t) h
    exact pull (run_binV h2 (.inl h3) h1)
  have cmp : (op = .eql ∨ op = .neq ∨ op = .lss ∨ op = .leq ∨ op = .gtr ∨ op = .geq) → Good P T w (.binOp op t x y yt) ty (.p d (.cmp op (cX x) (cX y))) := by
    intro ho v h
    exact pull (good_cmp ho v h)
  cases op <;> simp only [cB] <;> try (exact ar _ rfl)
  case andNot => exact ⟨rfl, rfl⟩
  case lss => exact cmp (by simp)
  case leq => exact cmp (by simp)
  case gtr => exact cmp (by simp)
  case geq => exact cmp (by simp)
  case eql =>
    split
    · exact cmp (by simp)
    · split
      · rename_i hb; intro v h; exact pull (good_cmpb (neg := false) rfl hb v h)
      · split
        · rename_i k hk
          split
          · intro v h; exact pull (good_eqn (neg := false) rfl hk v h)
          · exact ⟨rfl, rfl⟩
        · split
          · rename_i n hn
            split
            · rename_i hg
              rw [Bool.and_eq_true] at hg
              intro v h; exact pull (good_eqc (neg := false) rfl hn hg.2 (by simpa using hg.1) v h)
            · exact ⟨rfl, rfl⟩
          · split
            · rename_i ks hks
              split
              · rename_i hg
                rw [Bool.and_eq_true] at hg
                intro v h; exact pull (good_eqs (neg := false) rfl hks hg.2 (by simpa using hg.1) v h)
              · exact ⟨rfl, rfl⟩
            · exact ⟨rfl, rfl⟩
  case neq =>
    split
    · exact cmp (by simp)
    · split
      · rename_i hb; intro v h; exact pull (good_cmpb (neg := true) rfl hb v h)
      · split
        · rename_i k hk
          split
          · intro v h; exact pull (good_eqn (neg := true) rfl hk v h)
          · exact ⟨rfl, rfl⟩
        · split
          · rename_i n hn
            split
            · rename_i hg
              rw [Bool.and_eq_true] at hg
              intro v h; exact pull (good_eqc (neg := true) rfl hn hg.2 (by simpa using hg.1) v h)
            · exact ⟨rfl, rfl⟩
          · split
            · rename_i ks hks
              split
              · rename_i hg
                rw [Bool.and_eq_true] at hg
                intro v h; exact pull (good_eqs (neg := true) rfl hks hg.2 (by simpa using hg.1) v h)
              · exact ⟨rfl, rfl⟩
            · exact ⟨rfl, rfl⟩

theorem good_conv (s t : TypeId) (x : Operand) : Good P T w (.convert s t x) ty (cB P d (.convert s t x) ty) := by
  simp only [cB]
  split
  · rename_i hc
    rw [Bool.and_eq_true] at hc
    intro v h
    simp only [PE.ev, ev_cX] at h
    have h1 : ∃ k, P.underlying s = some (.int k) := by have := hc.1; unfold isIntT at this; split at this <;> simp_all
    have h2 : ∃ k, P.underlying t = some (.int k) := by have := hc.2; unfold isIntT at this; split at this <;> simp_all
    obtain ⟨k1, h1⟩ := h1
    obtain ⟨k2, h2⟩ := h2
    split at h
    · rename_i k n hx
      injection h with h; subst h
      refine pull ?_
      simp only [convert, Sem.run_bind, run_und h1, run_und h2, Result.andThen_ok, hx, Conv.intToInt, Sem.run_pure, h2]
    · simp at h
  · split
    · rename_i hc
      rw [Bool.and_eq_true] at hc
      intro v h
      simp only [PE.ev, ev_cX] at h
      have h1 : P.underlying s = some .string := by have := hc.1; unfold isStrT at this; split at this <;> simp_all
      have h2 : P.underlying t = some .string := by have := hc.2; unfold isStrT at this; split at this <;> simp_all
      split at h
      · rename_i n hx
        injection h with h; subst h
        refine pull ?_
        simp only [convert, Sem.run_bind, run_und h1, run_und h2, Result.andThen_ok, hx, Sem.run_pure]
      · simp at h
    · split
      · rename_i hs
        have h1 : P.underlying s = some .string := by unfold isStrT at hs; split at hs <;> simp_all
        split
        · rename_i e he
          intro st hx
          rw [ev_cX] at hx
          have h2 : P.underlying t = some (.slice e) ∧ P.underlying e = some (.int .u8) := by
            unfold isByteSlice at he
            split at he
            · rename_i e' hu
              split at he
              · rename_i hu2; injection he with he; subst he; exact ⟨hu, hu2⟩
              · simp at he
            · simp at he
          obtain ⟨cap, hc, hr⟩ := s2b_run (P := P) (w := w) e st
          refine ⟨cap, hc, pull ?_⟩
          simp only [convert, Sem.run_bind, run_und h1, run_und h2.1, run_und h2.2, Result.andThen_ok, hx, hr]
        · exact ⟨rfl, rfl⟩
      · split
        · rename_i hs
          have h1 : P.underlying t = some .string := by unfold isStrT at hs; split at hs <;> simp_all
          split
          · rename_i e he
            intro v h
            rw [ev_cX] at h
            have h2 : P.underlying s = some (.slice e) ∧ P.underlying e = some (.int .u8) := by
              unfold isByteSlice at he
              split at he
              · rename_i e' hu
                split at he
                · rename_i hu2; injection he with he; subst he; exact ⟨hu, hu2⟩
                · simp at he
              · simp at he
            have hr := b2s_run (P := P) (w := w) h
            refine pull ?_
            simp only [convert, Sem.run_bind, run_und h1, run_und h2.1, Result.andThen_ok]
            generalize hv : T.evR x = y at h hr
            cases y <;> simp [b2sV] at h
            simp only [Sem.run_bind, run_und h2.2, Result.andThen_ok, hr]
          · exact ⟨rfl, rfl⟩
        · exact ⟨rfl, rfl⟩

theorem good_call (c : Call) : Good P T w (.call c) ty (cB P d (.call c) ty) := by
  obtain ⟨callee, args, ats⟩ := c
  have hargs : (args.map T.evR) = ⟨T.evs (args.toList.map cX)⟩ := by
    apply Array.ext'; simp [evs_map]
  have cf : ∀ f, callee = .value f → Good P T w (.call ⟨callee, args, ats⟩) ty (.cf d (cX f) (args.toList.map cX)) := by
    intro f hf
    subst hf
    refine ⟨fun g fs cs hg hc => ?_, fun l hl => ?_⟩
    · rw [ev_cX] at hg
      simp only [rawSem, execOp, resolve, Sem.run_bind, hg, Deferred.ofValue, Sem.run_pure, Result.andThen_ok, invoke, hargs]
      rw [callable_run hc]
      simp
    · rw [ev_cX] at hl
      simp only [rawSem, execOp, resolve, Sem.run_bind, hl, Deferred.ofValue, Sem.run_pure, Result.andThen_ok, invoke, hargs]
      simp
  cases callee with
  | value f =>
    cases f with
    | func f =>
      simp only [cB]
      split
      · rename_i hc
        show Sem.run P (rawSem T _ ty) w = _
        simp only [rawSem, execOp, resolve, Sem.run_bind, Rg.evR, Deferred.ofValue, Sem.run_pure, Result.andThen_ok, invoke, hargs]
        rw [callable_run hc]
        simp
      · exact ⟨rfl, rfl⟩
    | tmp t => exact cf _ rfl
    | const v => exact cf _ rfl
    | global g => exact cf _ rfl
  | invoke r m => exact ⟨rfl, rfl⟩
  | builtin b =>
    cases b <;> try exact ⟨rfl, rfl⟩
    case len =>
      simp only [cB]
      split
      · rename_i t x ht hx
        have e : args = #[x] := by apply Array.ext'; simpa using hx
        split
        · rename_i hs
          intro v h
          subst e
          have := good_lns (w := w) (T := T) ats ht hs v h ty
          simp only [rawSem, execOp, resolve, Sem.run_bind, Sem.run_pure, Result.andThen_ok, invoke, builtin]
          simpa using pull this
        · split
          · rename_i hs
            intro v h
            subst e
            have := good_len (w := w) (T := T) ats ht hs v h ty
            simp only [rawSem, execOp, resolve, Sem.run_bind, Sem.run_pure, Result.andThen_ok, invoke, builtin]
            simpa using pull this
          · exact ⟨rfl, rfl⟩
      · exact ⟨rfl, rfl⟩
    case min =>
      simp only [cB]
      split
      · rename_i x l hx
        intro v h
        simp only [PE.ev] at h
        have e : args = ⟨x :: l⟩ := by apply Array.ext'; simpa using hx
        subst e
        have := mnI_run (P := P) (w := w) _ _ _ h
        rw [evs_map, ev_cX] at this
        simp only [rawSem, execOp, resolve, Sem.run_bind, Sem.run_pure, Result.andThen_ok, invoke, builtin]
        simp [Builtin.min_, this]
      · trivial
    case max =>
      simp only [cB]
      split
      · rename_i x l hx
        intro v h
        simp only [PE.ev] at h
        have e : args = ⟨x :: l⟩ := by apply Array.ext'; simpa using hx
        subst e
        have := mxI_run (P := P) (w := w) _ _ _ h
        rw [evs_map, ev_cX] at this
        simp only [rawSem, execOp, resolve, Sem.run_bind, Sem.run_pure, Result.andThen_ok, invoke, builtin]
        simp [Builtin.max_, this]
      · trivial

theorem good_cB (o : Op) : Good P T w o ty (cB P d o ty) := by
  cases o
  case move x => intro v h; simp only [PE.ev, ev_cX] at h; injection h with h; subst h; rfl
  case assign x => intro v h; simp only [PE.ev, ev_cX] at h; injection h with h; subst h; rfl
  case pick c a b =>
    intro t h
    rw [ev_cX] at h
    rw [ev_cX, ev_cX]
    simp [rawSem, execOp, h, asBool]
  case alloc t =>
    simp only [cB]
    split
    · rename_i z hz
      show Sem.run P (rawSem T _ ty) w = _
      refine pull ?_
      simp [Instr.alloc, run_zero hz, newVar, newRow]
    · trivial
  case box t x =>
    show Sem.run P (rawSem T _ ty) w = _
    rw [ev_cX]
    refine pull ?_
    simp [Instr.box, newVar, newRow]
  case load t x =>
    simp only [cB]
    split
    · rename_i n hn
      intro v h
      rw [ev_cX] at h
      refine pull ?_
      have : ∃ a, T.evR x = .pointer (some a) := by unfold ldV at h; split at h <;> simp_all
      obtain ⟨a, ha⟩ := this
      rw [ha] at h ⊢
      simp [Instr.loadAt, Instr.sureAddr, loadVar_run hn h]
    · trivial
  case store t a x =>
    simp only [cB]
    split
    · rename_i i hi
      intro b off c t' lo hi' hx hb hn hf hl hfr
      rw [ev_cX] at hx hn hf ⊢
      have := storeVar_run (P := P) (w := w) (t := t) (y := T.evR x) hi hb hn hf hl hfr
      simp [rawSem, execOp, Instr.storeAt, hx, Instr.sureAddr, this]
    · trivial
  case nilCheck x => intro v h; exact good_nck v h
  case binOp op t x y yt => exact good_bin op t x y yt
  case unOp op t x => intro v h; exact pull (good_un (t := t) v h)
  case convert s t x => exact good_conv s t x
  case sliceToArrayPointer t x =>
    simp only [cB]
    split
    · rename_i n e hn
      intro v h
      simp only [PE.ev, ev_cX] at h
      unfold arrOf at hn
      split at hn
      · rename_i n' e' hu
        simp at hn; obtain ⟨rfl, rfl⟩ := hn
        split at h
        · rename_i a ln c hx
          split at h
          · rename_i hle
            injection h with h; subst h
            refine pull ?_
            simp [Instr.arrayAt, run_und hu, hx]; omega
          · simp at h
        · simp at h
      · simp at hn
    · trivial
  case makeFunc fn a b =>
    intro v h
    simp only [PE.ev, evs_map] at h
    injection h with h; subst h
    refine pull ?_
    simp only [Instr.makeFunc, Sem.run_pure]
    have e1 : ∀ a : Array Operand, a.map T.evR = ⟨a.toList.map T.evR⟩ := by intro a; apply Array.ext'; simp
    rw [e1, e1]
  case build t ps =>
    simp only [cB]
    split
    · rename_i z hz
      split
      · rename_i fs hu
        split
        · rename_i pl hpl
          split
          · rename_i r hr
            intro v h
            exact pull (good_build hz (.inl ⟨fs, pl, hu, hpl, hr⟩) v h)
          · trivial
        · trivial
      · rename_i n e hu
        split
        · rename_i i hi
          split
          · rename_i r hr
            intro v h
            exact pull (good_build hz (.inr ⟨n, e, i, hu, hi, hr⟩) v h)
          · trivial
        · trivial
      · trivial
    · trivial
  case fieldAddr s x i =>
    simp only [cB]
    split
    · rename_i fs hu
      split
      · rename_i f hf
        split
        · rename_i ti hi
          split
          · exact ⟨rfl, rfl⟩
          · rename_i hz; intro v h; exact pull (good_fieldAddr hu hf hi hz v h)
        · trivial
      · trivial
    · trivial
  case field s x i =>
    simp only [cB]
    split
    · rename_i fs hu
      split
      · rename_i f hf
        split
        · rename_i n hn; intro v h; exact pull (good_field hu hf hn v h)
        · trivial
      · trivial
    · trivial
  case indexAddr t x i =>
    simp only [cB]
    split
    · rename_i n hn; intro v h; exact pull (good_indexAddr _ (.inl ⟨n, hn, rfl⟩) v h)
    · split
      · rename_i ln e hn
        split
        · rename_i n hk; intro v h; exact pull (good_indexAddr _ (.inr ⟨ln, e, n, hn, hk, rfl⟩) v h)
        · trivial
      · trivial
  case index t x i =>
    simp only [cB]
    split
    · rename_i hs; intro v h; exact pull (good_index _ (.inl ⟨hs, rfl⟩) v h)
    · split
      · rename_i ln e hn
        split
        · rename_i h1 h2; intro v h; exact pull (good_index _ (.inr (.inl ⟨ln, e, hn, h1, h2, rfl⟩)) v h)
        · rename_i q1 q2 n h1; intro v h; exact pull (good_index _ (.inr (.inr ⟨ln, e, n, hn, h1, rfl⟩)) v h)
        · trivial
      · trivial
  case slice t x lo hi mx =>
    simp only [cB]
    split
    · exact ⟨rfl, rfl⟩
    · split
      · rename_i hs; intro v h; exact pull (good_p_slice _ (.inl ⟨rfl, hs⟩) v h)
      · split
        · rename_i n hn; intro v h; exact pull (good_p_slice _ (.inr (.inl ⟨n, hn, rfl⟩)) v h)
        · split
          · rename_i ln e hn
            split
            · rename_i n hk; intro v h; exact pull (good_p_slice _ (.inr (.inr ⟨ln, e, n, hn, hk, rfl⟩)) v h)
            · trivial
          · exact ⟨rfl, rfl⟩
  case extract x i =>
    intro v h
    simp only [PE.ev, ev_cX] at h
    split at h
    · rename_i vs hx
      refine pull ?_
      simp [Instr.extract, hx, h]
    · simp at h
  case call c => exact good_call c
  all_goals first | exact ⟨rfl, rfl⟩ | trivial

end Dn

/-
  What Ev says is so of the model's run.
-/
namespace Dn
open Go

/-- The fence that lets all by. -/
def Wd (ro : Option Nat) : Fence := { Fence.wide with round := ro }

def coll (D : Nat) : Deferred := { target := .collected D, args := #[] }

structure Agr (m : Nat) (T : Rg) (a : Act) : Prop where
  size : a.tmps.size = m
  get : ∀ i, a.tmps.getD i undef = T.f i
  ds : a.defers = T.ds.map coll

variable {P : Program} {T : Rg} {w : World} {m : Nat} {a : Act} {ro : Option Nat} {Q : Exit → Act → World → Prop}

theorem Agr.eval (h : Agr m T a) : a.eval = T.evR := by
  funext x; cases x <;> simp [Act.eval, Rg.evR]
  exact by have := h.get; simpa using this _

theorem Agr.put (h : Agr m T a) {d : Option Nat} (hd : dOK m d = true) (v : Value) : Agr m (updO T d v) (a.put d v) := by
  cases d with
  | none => exact h
  | some d =>
    simp only [dOK, Nat.blt_eq] at hd
    refine ⟨by simp [Act.put, h.size], fun i => ?_, by simp [Act.put, updO, upd, h.ds]⟩
    have hg := h.get i
    simp only [Act.put, updO, upd, Array.getD_eq_getD_getElem?, Array.getElem?_setIfInBounds] at hg ⊢
    cases hb : Nat.beq i d with
    | true =>
      have := Nat.eq_of_beq_eq_true hb; subst this
      simp [h.size, hd]
    | false =>
      have hne : d ≠ i := by intro e; subst e; simp at hb
      simp [hne, hg]

theorem callsIn_Wd {f : FuncId} {args : Array Value} {w : World} {R : Ending → World → Prop} (h : Calls P f args w R) : CallsIn (Wd ro) 0 P f args w R := by
  have h1 : CallsIn Fence.wide 0 P f args w R := callsIn_wide.2 h
  cases ro with
  | none => exact h1
  | some l => exact h1

theorem roundIn_Wd {l f : Nat} {tmps : Array Value} {assign body : Code} {w : World} {R : Ending → World → Prop} (h : RoundIn Fence.wide 0 P l f tmps assign body w R) : RoundIn (Wd ro) 0 P l f tmps assign body w R := by
  cases ro with
  | none => exact h
  | some l' => exact h

theorem upon_call {o : Oper} {next : Act → World → Prop} {f : FuncId} {args : List Value} {w : World} {R : Value → World → Prop} (h : CallTo P f args w R) (hn : ∀ v w', R v w' → next (a.put o.dst v) w') :
    o.uponIn (Wd ro) 0 P a next Q (.ok (.enter f ⟨args⟩) w) := by
  rw [Oper.uponIn_enter]
  refine ⟨fun hh => by simp [Wd, Fence.wide] at hh, callsIn_Wd (h.mono ?_)⟩
  rintro e w' ⟨v, rfl, hv⟩
  exact hn v w' hv

theorem upon_yield {o : Oper} {next : Act → World → Prop} {l : Nat} {args : List Value} {w : World} {R : Value → World → Prop} (h : yieldTo P l args w R) (hn : ∀ v w', R v w' → next (a.put o.dst v) w') :
    o.uponIn (Wd ro) 0 P a next Q ((Instr.yield l ⟨args⟩).run P w) := by
  obtain ⟨fn, tmps, assign, body, hy, hr⟩ := h
  rw [hy, Oper.uponIn_round]
  refine ⟨fun hh => by simp [Wd, Fence.wide] at hh, roundIn_Wd (hr.mono ?_)⟩
  rintro e w' ⟨v, rfl, hv⟩
  exact hn v w' hv

theorem rawSem_eq (T : Rg) (o : Oper) : execOp T.evR o = rawSem T o.op o.type := rfl

theorem op_sound {o : Oper} {N : Rg → World → Prop} {next : Act → World → Prop} (hd : dOK m o.dst = true) (h : opSem P (cB P o.dst o.op o.type) N T w) (ha : Agr m T a)
    (hN : ∀ T' a' w', N T' w' → Agr m T' a' → next a' w') : o.wpIn (Wd ro) 0 P a w next Q := by
  refine ⟨fun f _ => trivial, ?_⟩
  have hdf : ∀ c, o.op ≠ .defer c := by
    intro c e; rw [e] at h; exact h
  rw [Oper.semAt_eq _ _ _ hdf, ha.eval, rawSem_eq]
  have hg := good_cB (P := P) (T := T) (w := w) (d := o.dst) (ty := o.type) o.op
  have hdst : (cB P o.dst o.op o.type).dst = o.dst ∨ cB P o.dst o.op o.type = .bad := by
    cases o.op <;> simp only [cB] <;> (repeat' split) <;> first | exact .inl rfl | exact .inr rfl | exact .inr trivial | simp
  generalize hB : cB P o.dst o.op o.type = B at h hg hdst
  cases B with
  | p d e =>
    have hd' : d = o.dst := by simpa [Bop.dst] using hdst
    subst hd'
    obtain ⟨v, hv, hn⟩ := h
    rw [hg v hv]
    exact hN _ _ _ hn (ha.put hd v)
  | pk d c x y =>
    have hd' : d = o.dst := by simpa [Bop.dst] using hdst
    subst hd'
    obtain ⟨t, ht, hn⟩ := h
    rw [hg t ht]
    exact hN _ _ _ hn (ha.put hd _)
  | ar d op x y =>
    have hd' : d = o.dst := by simpa [Bop.dst] using hdst
    subst hd'
    obtain ⟨v, hv, hn⟩ := h
    rw [hg v hv]
    exact hN _ _ _ hn (ha.put hd v)
  | ld d n x =>
    have hd' : d = o.dst := by simpa [Bop.dst] using hdst
    subst hd'
    obtain ⟨v, hv, hn⟩ := h
    rw [hg v hv]
    exact hN _ _ _ hn (ha.put hd v)
  | b2s d x =>
    have hd' : d = o.dst := by simpa [Bop.dst] using hdst
    subst hd'
    obtain ⟨v, hv, hn⟩ := h
    rw [hg v hv]
    exact hN _ _ _ hn (ha.put hd v)
  | st d n x y =>
    have hd' : d = o.dst := by simpa [Bop.dst] using hdst
    subst hd'
    obtain ⟨b, off, c, ty, lo, hi, h1, h2, h3, h4, h5, h6, hn⟩ := h
    rw [hg b off c ty lo hi h1 h2 h3 h4 h5 h6]
    exact hN _ _ _ hn (ha.put hd _)
  | nw d t cs =>
    have hd' : d = o.dst := by simpa [Bop.dst] using hdst
    subst hd'
    simp only [Good] at hg
    rw [hg]
    exact hN _ _ _ h (ha.put hd _)
  | bx d t x =>
    have hd' : d = o.dst := by simpa [Bop.dst] using hdst
    subst hd'
    simp only [Good] at hg
    rw [hg]
    exact hN _ _ _ h (ha.put hd _)
  | call d f args =>
    have hd' : d = o.dst := by simpa [Bop.dst] using hdst
    subst hd'
    simp only [Good] at hg
    rw [hg]
    exact upon_call h fun v w' hv => hN _ _ _ hv (ha.put hd v)
  | cf d x args =>
    have hd' : d = o.dst := by simpa [Bop.dst] using hdst
    subst hd'
    rcases h with ⟨f, fs, cs, hx, hc, h⟩ | ⟨l, hx, h⟩
    · rw [hg.1 f fs cs hx hc]
      exact upon_call h fun v w' hv => hN _ _ _ hv (ha.put hd v)
    · rw [hg.2 l hx]
      exact upon_yield h fun v w' hv => hN _ _ _ hv (ha.put hd v)
  | raw d o' ty' =>
    have hd' : d = o.dst := by simpa [Bop.dst] using hdst
    subst hd'
    obtain ⟨rfl, rfl⟩ := hg
    obtain ⟨w', ⟨v, hr, hn⟩ | ⟨hr, hn⟩⟩ := h
    · rw [hr]; exact hN _ _ _ hn (ha.put hd v)
    · rw [hr]; exact hN _ _ _ hn (ha.put hd _)
  | s2b d e x =>
    have hd' : d = o.dst := by simpa [Bop.dst] using hdst
    subst hd'
    obtain ⟨s, hs, hn⟩ := h
    obtain ⟨cap, hc, hr⟩ := hg s hs
    rw [hr]
    exact hN _ _ _ (hn cap hc) (ha.put hd _)
  | bad => exact h.elim

/-- An instruction, its guard taken in. -/
theorem ins_sound {ops : Array Oper} {o : Oper} {N : Rg → World → Prop} {next : Act → World → Prop} (h : insSem P (cI P m ops o) N T w) (ha : Agr m T a)
    (hN : ∀ T' a' w', N T' w' → Agr m T' a' → next a' w') :
    if Region.wanted o (yielded ops a.tmps) then o.wpIn (Wd ro) 0 P a w next Q else (∀ f, o.about P w a.eval = some f → (Wd ro).fn f) ∧ next (a.put o.dst undef) w := by
  unfold cI at h
  split at h
  · rename_i hd
    cases hgd : o.guard with
    | none =>
      rw [hgd] at h
      rw [if_pos (by simp [Region.wanted, hgd])]
      exact op_sound hd h ha hN
    | some g =>
      obtain ⟨j, b⟩ := g
      rw [hgd] at h
      simp only at h
      split at h
      · rename_i r hr
        split at h
        · rename_i hrm
          obtain ⟨c, hc, ht, hf⟩ := h
          rw [Nat.blt_eq] at hrm
          have hlt : r < a.tmps.size := by rw [ha.size]; exact hrm
          have hget : a.tmps[r]? = some (T.f r) := by
            have := ha.get r
            rw [Array.getD_eq_getD_getElem?] at this
            rw [Array.getElem?_eq_getElem hlt] at this ⊢
            simpa using this
          have hskip : ∀ y, yielded ops a.tmps j = y → y ≠ some b → (c = !b) → if Region.wanted o (yielded ops a.tmps) then o.wpIn (Wd ro) 0 P a w next Q else (∀ f, o.about P w a.eval = some f → (Wd ro).fn f) ∧ next (a.put o.dst undef) w := by
            intro y hy hyb hcb
            rw [if_neg (by simp [Region.wanted, hgd, hy]; exact hyb)]
            exact ⟨fun _ _ => trivial, hN _ _ _ (hf hcb) (ha.put hd _)⟩
          cases hv : T.f r with
          | bool c0 =>
            rw [hv] at hc hget
            simp only [gv, Option.some.injEq] at hc
            subst hc
            have hy : yielded ops a.tmps j = some c0 := by
              unfold yielded
              rw [hr]; simp [hget]
            by_cases hcb : c0 = b
            · rw [if_pos (by simp [Region.wanted, hgd, hy, hcb])]
              exact op_sound hd (ht hcb) ha hN
            · exact hskip _ hy (by simpa using hcb) (by clear hskip ht hf hy; cases c0 <;> cases b <;> first | rfl | exact absurd rfl hcb)
          | tuple vs =>
            rw [hv] at hc hget
            have hy : yielded ops a.tmps j = none := by
              unfold yielded
              rw [hr]; simp [hget]
            obtain ⟨l⟩ := vs
            cases l with
            | nil =>
              simp only [gv, Option.some.injEq] at hc
              exact hskip _ hy (by simp) hc.symm
            | cons x l => simp [gv] at hc
          | _ => rw [hv] at hc; simp [gv] at hc
        · exact h.elim
      · exact h.elim
  · exact h.elim

/-- A list of instructions in the order of the text. -/
theorem evs_sound {ops : Array Oper} {N : Rg → World → Prop} (hN : ∀ T' a' w', N T' w' → Agr m T' a' → Q .normal a' w') : ∀ (l : List Nat) (T : Rg) (a : Act) (w : World), Evs P (l.map fun i => cI P m ops (ops.getD i default)) N T w → (∀ i ∈ l, i < ops.size) → Agr m T a →
    wpOpsIn (Wd ro) 0 P ops Q l a w := by
  intro l
  induction l with
  | nil => intro T a w h _ ha; exact hN _ _ _ h ha
  | cons i l ih =>
    intro T a w h hl ha
    have hlt := hl i (by simp)
    have ho : ops[i]? = some ops[i] := Array.getElem?_eq_getElem hlt
    simp only [wpOpsIn, ho]
    have hd : ops.getD i default = ops[i] := by simp [Array.getD, hlt]
    simp only [List.map_cons, Evs, hd] at h
    exact ins_sound h ha fun T' a' w' hn ha' => ih T' a' w' hn (fun j hj => hl j (by simp [hj])) ha'

/-! ### What an instruction does to the registers; two instructions in either order -/

theorem CallTo.mono {f : FuncId} {args : List Value} {w : World} {R R' : Value → World → Prop} (h : CallTo P f args w R) (hr : ∀ v w', R v w' → R' v w') : CallTo P f args w R' :=
  Calls.mono h fun e w' ⟨v, he, hv⟩ => ⟨v, he, hr v w' hv⟩
theorem yieldTo.mono {l : Nat} {args : List Value} {w : World} {R R' : Value → World → Prop} (h : yieldTo P l args w R) (hr : ∀ v w', R v w' → R' v w') : yieldTo P l args w R' := by
  obtain ⟨fn, tmps, assign, body, hy, hR⟩ := h
  exact ⟨fn, tmps, assign, body, hy, hR.mono fun e w' ⟨v, he, hv⟩ => ⟨v, he, hr v w' hv⟩⟩

/-- What there was is still there. -/
def KeptW (w w' : World) : Prop := (∀ a v, w.cell? a = some v → w'.cell? a = some v) ∧ (∀ a n l, rowOf w a n = some l → rowOf w' a n = some l)

theorem KeptW.refl (w : World) : KeptW w w := ⟨fun _ _ h => h, fun _ _ _ h => h⟩
theorem KeptW.alloc (w : World) (o : Obj) : KeptW w (w.alloc o) := by
  refine ⟨fun a v h => ?_, fun a n l h => ?_⟩
  · have := World.block_lt_of_cell? w a h
    rw [World.cell?_alloc_lt w o a this]; exact h
  · unfold rowOf at h ⊢
    split at h
    · rename_i c ty fr hb
      have hlt := (Array.getElem?_eq_some_iff.1 hb).1
      have : (w.alloc o).heap[a.block]? = some (.cells ⟨c⟩ ty fr) := by
        unfold World.alloc; simp only [Array.getElem?_push]; rw [if_neg (by omega)]; exact hb
      rw [this]; exact h
    · simp at h

theorem ldV_kept {w w' : World} (h : KeptW w w') {n : Option Nat} {x v : Value} (hv : ldV n x w = some v) : ldV n x w' = some v := by
  cases x <;> try (simp [ldV] at hv; done)
  rename_i a
  cases a with
  | none => simp [ldV] at hv
  | some a =>
    cases n with
    | none => exact h.1 _ _ hv
    | some n =>
      simp only [ldV] at hv ⊢
      cases hr : rowOf w a n with
      | none => rw [hr] at hv; simp at hv
      | some l => rw [hr] at hv; rw [h.2 _ _ _ hr]; exact hv
theorem b2sV_kept {w w' : World} (h : KeptW w w') {x v : Value} (hv : b2sV x w = some v) : b2sV x w' = some v := by
  cases x <;> try (simp [b2sV] at hv; done)
  rename_i a n c
  cases a with
  | none => exact hv
  | some a =>
    simp only [b2sV] at hv ⊢
    cases hr : rowOf w a n with
    | none => rw [hr] at hv; simp at hv
    | some l => rw [hr] at hv; rw [h.2 _ _ _ hr]; exact hv

/-- What is known behind an operation. -/
def Trace (o : Bop) (d : Option Nat) (T : Rg) (w : World) (T' : Rg) (w' : World) : Prop :=
  (∃ v, T' = updO T d v) ∧ (o.cls ≤ 1 → w' = w) ∧ (o.cls = 2 → KeptW w w')

theorem op_trace {o : Bop} {N : Rg → World → Prop} (h : opSem P o N T w) : opSem P o (fun T' w' => N T' w' ∧ Trace o o.dst T w T' w') T w := by
  cases o with
  | p d e => obtain ⟨v, hv, hn⟩ := h; exact ⟨v, hv, hn, ⟨v, rfl⟩, fun _ => rfl, fun hc => by simp [Bop.cls] at hc⟩
  | pk d c x y => obtain ⟨v, hv, hn⟩ := h; exact ⟨v, hv, hn, ⟨_, rfl⟩, fun _ => rfl, fun hc => by simp [Bop.cls] at hc⟩
  | ar d op x y => obtain ⟨v, hv, hn⟩ := h; exact ⟨v, hv, hn, ⟨v, rfl⟩, fun _ => rfl, fun hc => by simp [Bop.cls] at hc⟩
  | ld d n x => obtain ⟨v, hv, hn⟩ := h; exact ⟨v, hv, hn, ⟨v, rfl⟩, fun _ => rfl, fun hc => by simp [Bop.cls] at hc⟩
  | b2s d x => obtain ⟨v, hv, hn⟩ := h; exact ⟨v, hv, hn, ⟨v, rfl⟩, fun _ => rfl, fun hc => by simp [Bop.cls] at hc⟩
  | st d n x y =>
    obtain ⟨b, off, c, ty, lo, hi, h1, h2, h3, h4, h5, h6, hn⟩ := h
    exact ⟨b, off, c, ty, lo, hi, h1, h2, h3, h4, h5, h6, hn, ⟨_, rfl⟩, fun hc => by simp [Bop.cls] at hc, fun hc => by simp [Bop.cls] at hc⟩
  | nw d t cs => exact ⟨h, ⟨_, rfl⟩, fun hc => by simp [Bop.cls] at hc, fun _ => KeptW.alloc _ _⟩
  | bx d t x => exact ⟨h, ⟨_, rfl⟩, fun hc => by simp [Bop.cls] at hc, fun _ => KeptW.alloc _ _⟩
  | s2b d e x =>
    obtain ⟨s, hs, hn⟩ := h
    exact ⟨s, hs, fun cap hc => ⟨hn cap hc, ⟨_, rfl⟩, fun hc => by simp [Bop.cls] at hc, fun _ => by have := KeptW.alloc w.drew (.cells ⟨byteCells s ++ List.replicate (cap - s.size) (.int .u8 0)⟩ e (cap, cap + 1)); exact this⟩⟩
  | call d f args => exact CallTo.mono h fun v w' hn => ⟨hn, ⟨v, rfl⟩, fun hc => by simp [Bop.cls] at hc, fun hc => by simp [Bop.cls] at hc⟩
  | cf d x args =>
    rcases h with ⟨f, fs, cs, hx, hc, h⟩ | ⟨l, hx, h⟩
    · exact .inl ⟨f, fs, cs, hx, hc, CallTo.mono h fun v w' hn => ⟨hn, ⟨v, rfl⟩, fun hc => by simp [Bop.cls] at hc, fun hc => by simp [Bop.cls] at hc⟩⟩
    · exact .inr ⟨l, hx, yieldTo.mono h fun v w' hn => ⟨hn, ⟨v, rfl⟩, fun hc => by simp [Bop.cls] at hc, fun hc => by simp [Bop.cls] at hc⟩⟩
  | raw d o ty =>
    obtain ⟨w', ⟨v, hr, hn⟩ | ⟨hr, hn⟩⟩ := h
    · exact ⟨w', .inl ⟨v, hr, hn, ⟨v, rfl⟩, fun hc => by simp [Bop.cls] at hc, fun hc => by simp [Bop.cls] at hc⟩⟩
    · exact ⟨w', .inr ⟨hr, hn, ⟨_, rfl⟩, fun hc => by simp [Bop.cls] at hc, fun hc => by simp [Bop.cls] at hc⟩⟩
  | bad => exact h.elim

theorem op_mono {o : Bop} {N N' : Rg → World → Prop} (hN : ∀ T w, N T w → N' T w) (h : opSem P o N T w) : opSem P o N' T w := by
  cases o with
  | p d e => obtain ⟨v, hv, hn⟩ := h; exact ⟨v, hv, hN _ _ hn⟩
  | pk d c x y => obtain ⟨v, hv, hn⟩ := h; exact ⟨v, hv, hN _ _ hn⟩
  | ar d op x y => obtain ⟨v, hv, hn⟩ := h; exact ⟨v, hv, hN _ _ hn⟩
  | ld d n x => obtain ⟨v, hv, hn⟩ := h; exact ⟨v, hv, hN _ _ hn⟩
  | b2s d x => obtain ⟨v, hv, hn⟩ := h; exact ⟨v, hv, hN _ _ hn⟩
  | st d n x y =>
    obtain ⟨b, off, c, ty, lo, hi, h1, h2, h3, h4, h5, h6, hn⟩ := h
    exact ⟨b, off, c, ty, lo, hi, h1, h2, h3, h4, h5, h6, hN _ _ hn⟩
  | nw d t cs => exact hN _ _ h
  | bx d t x => exact hN _ _ h
  | s2b d e x =>
    obtain ⟨s, hs, hn⟩ := h
    exact ⟨s, hs, fun cap hc => hN _ _ (hn cap hc)⟩
  | call d f args => exact CallTo.mono h fun v w' hn => hN _ _ hn
  | cf d x args =>
    rcases h with ⟨f, fs, cs, hx, hc, h⟩ | ⟨l, hx, h⟩
    · exact .inl ⟨f, fs, cs, hx, hc, CallTo.mono h fun v w' hn => hN _ _ hn⟩
    · exact .inr ⟨l, hx, yieldTo.mono h fun v w' hn => hN _ _ hn⟩
  | raw d o ty =>
    obtain ⟨w', ⟨v, hr, hn⟩ | ⟨hr, hn⟩⟩ := h
    · exact ⟨w', .inl ⟨v, hr, hN _ _ hn⟩⟩
    · exact ⟨w', .inr ⟨hr, hN _ _ hn⟩⟩
  | bad => exact h.elim

theorem ins_mono {i : Ins} {N N' : Rg → World → Prop} (hN : ∀ T w, N T w → N' T w) (h : insSem P i N T w) : insSem P i N' T w := by
  cases i with
  | op o => exact op_mono hN h
  | gd r b d o => obtain ⟨c, hc, h1, h2⟩ := h; exact ⟨c, hc, fun e => op_mono hN (h1 e), fun e => hN _ _ (h2 e)⟩

theorem evs_mono {N N' : Rg → World → Prop} (hN : ∀ T w, N T w → N' T w) : ∀ (l : List Ins) (T : Rg) (w : World), Evs P l N T w → Evs P l N' T w := by
  intro l
  induction l with
  | nil => intro T w h; exact hN _ _ h
  | cons i l ih => intro T w h; exact ins_mono (fun T w => ih T w) h

theorem evT_mono {N N' : Rg → World → Prop} (hN : ∀ T w, N T w → N' T w) : ∀ (t : DT) (T : Rg) (w : World), EvT P N t T w → EvT P N' t T w := by
  intro t
  induction t with
  | done => intro T w h; exact hN _ _ h
  | step i t ih => intro T w h; exact ins_mono (fun T w => ih T w) h
  | alt x y ihx ihy => intro T w h; exact ⟨ihx _ _ h.1, ihy _ _ h.2⟩
  | bad => intro T w h; exact h

end Dn

/-
  Two instructions that may come in either order.
-/
namespace Dn
open Go

variable {P : Program} {T : Rg} {w : World} {d : Option Nat} {v : Value}

theorem f_upd {n : Nat} (h : notIn d [n] = true) : (updO T d v).f n = T.f n := by
  cases d with
  | none => rfl
  | some d =>
    have hne : Nat.beq n d = false := by
      cases hb : Nat.beq n d with
      | false => rfl
      | true => have := Nat.eq_of_beq_eq_true hb; subst this; simp [notIn] at h
    simp [updO, upd, hne]

theorem notIn_app {l r : List Nat} (h : notIn d (l ++ r) = true) : notIn d l = true ∧ notIn d r = true := by
  cases d with
  | none => exact ⟨rfl, rfl⟩
  | some d => simp [notIn] at h ⊢; exact h

theorem ev_upd {x : X} (h : notIn d x.reads = true) : (updO T d v).ev x = T.ev x := by
  cases x with
  | r n => exact f_upd h
  | c u => rfl

theorem evs_upd : ∀ {l : List X}, notIn d (l.flatMap X.reads) = true → (updO T d v).evs l = T.evs l := by
  intro l
  induction l with
  | nil => intro _; rfl
  | cons x l ih =>
    intro h
    rw [List.flatMap_cons] at h
    obtain ⟨h1, h2⟩ := notIn_app h
    simp [Rg.evs, ev_upd h1, ih h2]

theorem parts_upd : ∀ {l : List (Nat × Nat × X)}, notIn d (l.flatMap fun p => p.2.2.reads) = true → partsV (updO T d v) l = partsV T l := by
  intro l
  induction l with
  | nil => intro _; rfl
  | cons x l ih =>
    intro h
    rw [List.flatMap_cons] at h
    obtain ⟨h1, h2⟩ := notIn_app h
    obtain ⟨o, n, x⟩ := x
    simp [partsV, ev_upd h1, ih h2]

theorem bnd_upd {x : Option X} {a b : Nat} (h : notIn d (oX x) = true) : bndV (updO T d v) x a b = bndV T x a b := by
  cases x with
  | none => rfl
  | some x => simp only [bndV]; rw [ev_upd h]

theorem pe_upd {e : PE} (h : notIn d e.reads = true) : e.ev (updO T d v) = e.ev T := by
  cases e <;> simp only [PE.reads] at h
  case mov x => simp only [PE.ev, ev_upd h]
  case un op x => simp only [PE.ev, ev_upd h]
  case ext x i => simp only [PE.ev, ev_upd h]
  case fad x i => simp only [PE.ev, ev_upd h]
  case fld x i n => simp only [PE.ev, ev_upd h]
  case nck x => simp only [PE.ev, ev_upd h]
  case len x => simp only [PE.ev, ev_upd h]
  case lns x => simp only [PE.ev, ev_upd h]
  case cvi k x => simp only [PE.ev, ev_upd h]
  case cvs x => simp only [PE.ev, ev_upd h]
  case s2a n x => simp only [PE.ev, ev_upd h]
  case cmp op x y => obtain ⟨h1, h2⟩ := notIn_app h; simp only [PE.ev, ev_upd h1, ev_upd h2]
  case cmpb op x y => obtain ⟨h1, h2⟩ := notIn_app h; simp only [PE.ev, ev_upd h1, ev_upd h2]
  case eqn k op x y => obtain ⟨h1, h2⟩ := notIn_app h; simp only [PE.ev, ev_upd h1, ev_upd h2]
  case eqc k op x y => obtain ⟨h1, h2⟩ := notIn_app h; simp only [PE.ev, ev_upd h1, ev_upd h2]
  case eqs k op x y => obtain ⟨h1, h2⟩ := notIn_app h; simp only [PE.ev, ev_upd h1, ev_upd h2]
  case ixa n x y => obtain ⟨h1, h2⟩ := notIn_app h; simp only [PE.ev, ev_upd h1, ev_upd h2]
  case ixp k n x y => obtain ⟨h1, h2⟩ := notIn_app h; simp only [PE.ev, ev_upd h1, ev_upd h2]
  case ixv k n x y => obtain ⟨h1, h2⟩ := notIn_app h; simp only [PE.ev, ev_upd h1, ev_upd h2]
  case ixs x y => obtain ⟨h1, h2⟩ := notIn_app h; simp only [PE.ev, ev_upd h1, ev_upd h2]
  case bld z ps => simp only [PE.ev, parts_upd h]
  case mkf f a b => obtain ⟨h1, h2⟩ := notIn_app h; simp only [PE.ev, evs_upd h1, evs_upd h2]
  case mn x l => obtain ⟨h1, h2⟩ := notIn_app h; simp only [PE.ev, ev_upd h1, evs_upd h2]
  case mx x l => obtain ⟨h1, h2⟩ := notIn_app h; simp only [PE.ev, ev_upd h1, evs_upd h2]
  case sls x lo hi => obtain ⟨h1, h2⟩ := notIn_app h; obtain ⟨h2, h3⟩ := notIn_app h2; simp only [PE.ev, ev_upd h1, bnd_upd h2, bnd_upd h3]
  case sll n x lo hi => obtain ⟨h1, h2⟩ := notIn_app h; obtain ⟨h2, h3⟩ := notIn_app h2; simp only [PE.ev, ev_upd h1, bnd_upd h2, bnd_upd h3]
  case slp k n x lo hi => obtain ⟨h1, h2⟩ := notIn_app h; obtain ⟨h2, h3⟩ := notIn_app h2; simp only [PE.ev, ev_upd h1, bnd_upd h2, bnd_upd h3]

theorem upd_comm {a b : Option Nat} {x y : Value} (h : noClash a b = true) : updO (updO T a x) b y = updO (updO T b y) a x := by
  cases a with
  | none => rfl
  | some a =>
    cases b with
    | none => rfl
    | some b =>
      have hne : a ≠ b := by simpa [noClash] using h
      simp only [updO, upd, Rg.mk.injEq, and_true]
      funext i
      cases h1 : Nat.beq i a <;> cases h2 : Nat.beq i b <;> try rfl
      have e1 := Nat.eq_of_beq_eq_true h1
      have e2 := Nat.eq_of_beq_eq_true h2
      exact absurd (e1.symm.trans e2) hne

theorem raw_upd {o : Op} {ty : TypeId} (hs : Bop.wf (.raw none o ty) = true) (h : notIn d (o.operands.toList.flatMap opd) = true) : rawSem (updO T d v) o ty = rawSem T o ty := by
  unfold rawSem
  refine execOp_congr _ (fun cs b e => ?_) fun x hx => ?_
  · simp only at e; subst e; simp [Bop.wf] at hs
  · cases x with
    | tmp t =>
      refine f_upd ?_
      cases d with
      | none => rfl
      | some d =>
        simp only [notIn, Bool.not_eq_true', List.contains_eq_mem, decide_eq_false_iff_not, List.mem_flatMap, not_exists, not_and] at h ⊢
        intro hm
        simp only [List.mem_singleton] at hm
        subst hm
        exact h (.tmp d) (by simpa using hx) (by simp [opd])
    | const u => rfl
    | global g => rfl
    | func f => rfl

/-- The registers that an operation does not look at may be set behind it as well as ahead of it. -/
theorem op_cong {o : Bop} {N : Rg → World → Prop} (hw : o.wf = true) (hr : notIn d o.reads = true) (hc : noClash d o.dst = true) : opSem P o N (updO T d v) w ↔ opSem P o (fun T' w' => N (updO T' d v) w') T w := by
  have hcm : ∀ y, updO (updO T d v) o.dst y = updO (updO T o.dst y) d v := fun y => upd_comm hc
  cases o <;> simp only [Bop.reads, Bop.dst] at hr hcm
  case p d' e => simp only [opSem, pe_upd hr, hcm]
  case pk d' c x y =>
    obtain ⟨h1, h2⟩ := notIn_app hr; obtain ⟨h2, h3⟩ := notIn_app h2
    simp only [opSem, ev_upd h1, ev_upd h2, ev_upd h3, hcm]
  case ar d' op x y =>
    obtain ⟨h1, h2⟩ := notIn_app hr
    simp only [opSem, ev_upd h1, ev_upd h2, hcm]
  case ld d' n x => simp only [opSem, ev_upd hr, hcm]
  case b2s d' x => simp only [opSem, ev_upd hr, hcm]
  case st d' n x y =>
    obtain ⟨h1, h2⟩ := notIn_app hr
    simp only [opSem, ev_upd h1, ev_upd h2, hcm]
  case nw d' t cs => simp only [opSem, hcm]
  case bx d' t x => simp only [opSem, ev_upd hr, hcm]
  case s2b d' e x => simp only [opSem, ev_upd hr, hcm]
  case call d' f l => simp only [opSem, evs_upd hr, hcm]
  case cf d' x l =>
    obtain ⟨h1, h2⟩ := notIn_app hr
    simp only [opSem, ev_upd h1, evs_upd h2, hcm]
  case raw d' o ty =>
    have hw' : Bop.wf (.raw none o ty) = true := by cases o <;> first | rfl | exact hw
    simp only [opSem, raw_upd hw' hr, hcm]
  case bad => simp only [opSem]

theorem ins_cong {i : Ins} {N : Rg → World → Prop} (hw : i.wf = true) (hr : notIn d i.reads = true) (hc : noClash d i.dst = true) : insSem P i N (updO T d v) w ↔ insSem P i (fun T' w' => N (updO T' d v) w') T w := by
  cases i with
  | op o => exact op_cong hw hr hc
  | gd r b d' o =>
    simp only [Ins.reads] at hr
    have h1 : notIn d [r] = true ∧ notIn d o.reads = true := notIn_app (l := [r]) hr
    simp only [Ins.wf, Bool.and_eq_true, beq_iff_eq] at hw
    simp only [Ins.dst] at hc
    have hc' : noClash d o.dst = true := by rw [hw.2]; exact hc
    simp only [insSem, f_upd h1.1, op_cong hw.1 h1.2 hc', upd_comm hc]

/-- What is known behind an instruction. -/
def TraceI (i : Ins) (T : Rg) (w : World) (T' : Rg) (w' : World) : Prop :=
  (∃ v, T' = updO T i.dst v) ∧ (i.cls ≤ 1 → w' = w) ∧ (i.cls = 2 → KeptW w w')

theorem ins_trace {i : Ins} {N : Rg → World → Prop} (hw : i.wf = true) (h : insSem P i N T w) : insSem P i (fun T' w' => N T' w' ∧ TraceI i T w T' w') T w := by
  cases i with
  | op o => exact op_trace h
  | gd r b d' o =>
    simp only [Ins.wf, Bool.and_eq_true, beq_iff_eq] at hw
    obtain ⟨c, hc, h1, h2⟩ := h
    refine ⟨c, hc, fun e => ?_, fun e => ⟨h2 e, ⟨_, rfl⟩, fun _ => rfl, fun _ => KeptW.refl _⟩⟩
    have := op_trace (h1 e)
    refine op_mono (fun T' w' hh => ⟨hh.1, ?_, hh.2.2.1, hh.2.2.2⟩) this
    obtain ⟨v, hv⟩ := hh.2.1
    exact ⟨v, by rw [hv, hw.2]; rfl⟩

theorem op_some {o : Bop} {N : Rg → World → Prop} (h : opSem P o N T w) : ∃ T' w', N T' w' := by
  cases o with
  | p d e => obtain ⟨v, hv, hn⟩ := h; exact ⟨_, _, hn⟩
  | pk d c x y => obtain ⟨v, hv, hn⟩ := h; exact ⟨_, _, hn⟩
  | ar d op x y => obtain ⟨v, hv, hn⟩ := h; exact ⟨_, _, hn⟩
  | ld d n x => obtain ⟨v, hv, hn⟩ := h; exact ⟨_, _, hn⟩
  | b2s d x => obtain ⟨v, hv, hn⟩ := h; exact ⟨_, _, hn⟩
  | st d n x y => obtain ⟨b, off, c, ty, lo, hi, h1, h2, h3, h4, h5, h6, hn⟩ := h; exact ⟨_, _, hn⟩
  | nw d t cs => exact ⟨_, _, h⟩
  | bx d t x => exact ⟨_, _, h⟩
  | s2b d e x => obtain ⟨s, hs, hn⟩ := h; exact ⟨_, _, hn _ (Nat.le_refl _)⟩
  | call d f args => obtain ⟨e, w', fr, ⟨v, he, hn⟩, _⟩ := h []; exact ⟨_, _, hn⟩
  | cf d x args =>
    rcases h with ⟨f, fs, cs, hx, hc, h⟩ | ⟨l, hx, h⟩
    · obtain ⟨e, w', fr, ⟨v, he, hn⟩, _⟩ := h []; exact ⟨_, _, hn⟩
    · obtain ⟨fn, tmps, assign, body, hy, hR⟩ := h
      obtain ⟨e, w', ⟨v, he, hn⟩, _⟩ := hR.2 default [] (room_wide _)
      exact ⟨_, _, hn⟩
  | raw d o ty => obtain ⟨w', ⟨v, hr, hn⟩ | ⟨hr, hn⟩⟩ := h <;> exact ⟨_, _, hn⟩
  | bad => exact h.elim

theorem ins_some {i : Ins} {N : Rg → World → Prop} (h : insSem P i N T w) : ∃ T' w', N T' w' := by
  cases i with
  | op o => exact op_some h
  | gd r b d o =>
    obtain ⟨c, hc, h1, h2⟩ := h
    by_cases e : c = b
    · exact op_some (h1 e)
    · exact ⟨_, _, h2 (by cases c <;> cases b <;> simp_all)⟩

/-- The value of an instruction that reads at most. -/
def plB (o : Bop) (T : Rg) (w : World) : Option Value :=
  match o with
  | .p _ e => e.ev T
  | .pk _ c a b => match T.ev c with | .bool t => some (if t then T.ev a else T.ev b) | _ => none
  | .ar _ op x y => arV op (T.ev x) (T.ev y)
  | .ld _ n x => ldV n (T.ev x) w
  | .b2s _ x => b2sV (T.ev x) w
  | _ => none
def plI (i : Ins) (T : Rg) (w : World) : Option Value :=
  match i with
  | .op o => plB o T w
  | .gd r b _ o => match gv b (T.f r) with | some c => if c = b then plB o T w else some undef | none => none

theorem op_pl {o : Bop} {N : Rg → World → Prop} (hc : o.cls ≤ 1) : opSem P o N T w ↔ ∃ v, plB o T w = some v ∧ N (updO T o.dst v) w := by
  cases o <;> simp [Bop.cls] at hc <;> simp only [opSem, plB, Bop.dst]
  case pk d c a b =>
    constructor
    · rintro ⟨t, ht, hn⟩; rw [ht]; exact ⟨_, rfl, hn⟩
    · rintro ⟨u, hu, hn⟩
      split at hu
      · rename_i t ht; injection hu with hu; subst hu; exact ⟨t, ht, hn⟩
      · simp at hu

theorem ins_pl {i : Ins} {N : Rg → World → Prop} (hw : i.wf = true) (hc : i.cls ≤ 1) : insSem P i N T w ↔ ∃ v, plI i T w = some v ∧ N (updO T i.dst v) w := by
  cases i with
  | op o => exact op_pl hc
  | gd r b d o =>
    simp only [Ins.wf, Bool.and_eq_true, beq_iff_eq] at hw
    simp only [insSem, plI, Ins.dst]
    constructor
    · rintro ⟨c, hcc, h1, h2⟩
      rw [hcc]
      by_cases e : c = b
      · obtain ⟨u, hu, hn⟩ := (op_pl hc).1 (h1 e)
        exact ⟨u, by simp [e, hu], by rw [← hw.2]; exact hn⟩
      · exact ⟨undef, by simp [e], h2 (by cases c <;> cases b <;> simp_all)⟩
    · rintro ⟨u, hu, hn⟩
      split at hu
      · rename_i c hcc
        refine ⟨c, hcc, fun e => ?_, fun e => ?_⟩
        · rw [if_pos e] at hu
          exact (op_pl hc).2 ⟨u, hu, by rw [hw.2]; exact hn⟩
        · rw [if_neg (by intro e'; rw [e'] at e; cases b <;> simp at e)] at hu
          injection hu with hu; subst hu; exact hn
      · simp at hu

theorem plB_upd {o : Bop} (h : notIn d o.reads = true) : plB o (updO T d v) w = plB o T w := by
  cases o <;> simp only [Bop.reads] at h <;> simp only [plB]
  case p d' e => exact pe_upd h
  case pk d' c x y =>
    obtain ⟨h1, h2⟩ := notIn_app h; obtain ⟨h2, h3⟩ := notIn_app h2
    simp only [ev_upd h1, ev_upd h2, ev_upd h3]
  case ar d' op x y =>
    obtain ⟨h1, h2⟩ := notIn_app h
    simp only [ev_upd h1, ev_upd h2]
  case ld d' n x => simp only [ev_upd h]
  case b2s d' x => simp only [ev_upd h]
theorem plI_upd {i : Ins} (h : notIn d i.reads = true) : plI i (updO T d v) w = plI i T w := by
  cases i with
  | op o => exact plB_upd h
  | gd r b d' o =>
    have h1 : notIn d [r] = true ∧ notIn d o.reads = true := notIn_app (l := [r]) h
    simp only [plI, f_upd h1.1, plB_upd h1.2]

theorem plB_w0 {o : Bop} {w' : World} (hc : o.cls = 0) : plB o T w' = plB o T w := by
  cases o <;> simp [Bop.cls] at hc <;> rfl
theorem plI_w0 {i : Ins} {w' : World} (hc : i.cls = 0) : plI i T w' = plI i T w := by
  cases i with
  | op o => exact plB_w0 hc
  | gd r b d o =>
    have e : plB o T w' = plB o T w := plB_w0 hc
    unfold plI
    simp only []
    rw [e]
theorem plB_kept {o : Bop} {w' : World} {u : Value} (hk : KeptW w w') (h : plB o T w = some u) : plB o T w' = some u := by
  cases o <;> simp only [plB] at h ⊢ <;> try exact h
  · exact ldV_kept hk h
  · exact b2sV_kept hk h
theorem plI_kept {i : Ins} {w' : World} {u : Value} (hk : KeptW w w') (h : plI i T w = some u) : plI i T w' = some u := by
  cases i with
  | op o => exact plB_kept hk h
  | gd r b d o =>
    simp only [plI] at h ⊢
    split at h
    · rename_i c hc
      by_cases e : c = b
      · rw [if_pos e] at h ⊢; exact plB_kept hk h
      · rw [if_neg e] at h ⊢; exact h
    · simp at h

theorem notClash_symm {a b : Option Nat} (h : noClash a b = true) : noClash b a = true := by
  cases a <;> cases b <;> simp_all [noClash]
  exact fun e => h e.symm

/-- TWO INSTRUCTIONS MAY CHANGE PLACES. -/
theorem swap {x y : Ins} {N : Rg → World → Prop} (hi : indep x y = true) (h : insSem P x (insSem P y N) T w) : insSem P y (insSem P x N) T w := by
  simp only [indep, Bool.and_eq_true] at hi
  obtain ⟨⟨⟨⟨⟨hwx, hwy⟩, hcls⟩, hxy⟩, hyx⟩, hcl⟩ := hi
  have c01 : x.cls ≤ 1 ∧ (x.cls = 0 ∨ y.cls ≤ 2) ∨ y.cls = 0 := by
    simp only [clsOK, Bool.or_eq_true, Bool.and_eq_true] at hcls
    rcases hcls with (h | h) | ⟨h, h' | h'⟩
    · have := Nat.eq_of_beq_eq_true h; left; omega
    · have := Nat.eq_of_beq_eq_true h; right; exact this
    · have := Nat.eq_of_beq_eq_true h; have := Nat.eq_of_beq_eq_true h'; left; omega
    · have := Nat.eq_of_beq_eq_true h; have := Nat.eq_of_beq_eq_true h'; left; omega
  rcases c01 with ⟨hx1, hx2⟩ | hy0
  · obtain ⟨vx, hvx, hn⟩ := (ins_pl hwx hx1).1 h
    have h1 := (ins_cong hwy hxy hcl).1 hn
    refine ins_mono (fun T' w' hh => ?_) (ins_trace hwy h1)
    obtain ⟨hN, ⟨vy, hT⟩, hw1, hw2⟩ := hh
    refine (ins_pl hwx hx1).2 ⟨vx, ?_, hN⟩
    rw [hT, plI_upd hyx]
    rcases hx2 with h0 | h2
    · rw [plI_w0 (w := w) h0]; exact hvx
    · rcases Nat.lt_or_ge y.cls 2 with hlt | hge
      · rw [hw1 (by omega)]; exact hvx
      · exact plI_kept (hw2 (by omega)) hvx
  · have hy1 : y.cls ≤ 1 := by omega
    have h1 := ins_trace hwx h
    obtain ⟨T', w', hh⟩ := ins_some h1
    obtain ⟨hy, ⟨vx, hT⟩, _⟩ := hh
    obtain ⟨vy, hvy, _⟩ := (ins_pl hwy hy1).1 hy
    have hvy' : plI y T w = some vy := by
      rw [hT, plI_upd hxy, plI_w0 (w := w) hy0] at hvy; exact hvy
    refine (ins_pl hwy hy1).2 ⟨vy, hvy', ?_⟩
    refine (ins_cong hwx hyx (notClash_symm hcl)).2 ?_
    refine ins_mono (fun T2 w2 hh => ?_) h1
    obtain ⟨hy, ⟨vx, hT⟩, _⟩ := hh
    obtain ⟨vy2, hvy2, hn⟩ := (ins_pl hwy hy1).1 hy
    have e : vy2 = vy := by
      rw [hT, plI_upd hxy, plI_w0 (w := w) hy0, hvy'] at hvy2
      injection hvy2 with hvy2; exact hvy2.symm
    rw [← e]; exact hn

/-! ### All orders that the edges of a region allow -/

section orders
variable (ops : Array Oper) (is : List Ins)

/-- Whatever order is taken. -/
def AnyI (P : Program) (N : Rg → World → Prop) : Nat → List Nat → Rg → World → Prop
  | 0, _, T, w => N T w
  | n + 1, rem, T, w => ∀ i ∈ rem, rdy ops rem i = true → insSem P (insAt is i) (AnyI P N n (rem.erase i)) T w

/-- What has been taken was ready. -/
def Closed (rem : List Nat) : Prop := ∀ k o, ops[k]? = some o → k ∉ rem → ∀ d ∈ deps o, d ∉ rem

variable {ops is}

theorem rdy_spec {rem : List Nat} {i : Nat} (h : rdy ops rem i = true) : ∃ o, ops[i]? = some o ∧ ∀ d ∈ deps o, d ∉ rem := by
  unfold rdy at h
  split at h
  · rename_i o ho
    refine ⟨o, ho, fun d hd => ?_⟩
    have := List.all_eq_true.1 h d hd
    simpa using this
  · simp at h

theorem reach_not {rem : List Nat} (hc : Closed ops rem) {i : Nat} (hi : i ∈ rem) : ∀ (k j : Nat), reach ops k i j = true → ∃ o, ops[j]? = some o ∧ ∃ d ∈ deps o, d ∈ rem := by
  intro k
  induction k with
  | zero => intro j h; simp [reach] at h
  | succ k ih =>
    intro j h
    simp only [reach] at h
    split at h
    · rename_i o ho
      rw [Bool.or_eq_true] at h
      rcases h with h | h
      · exact ⟨o, ho, i, by simpa using h, hi⟩
      · obtain ⟨x, hx, hr⟩ := List.any_eq_true.1 h
        by_cases hxr : x ∈ rem
        · exact ⟨o, ho, x, hx, hxr⟩
        · obtain ⟨o', ho', d, hd, hdr⟩ := ih x hr
          exact absurd hdr (hc x o' ho' hxr d hd)
    · simp at h

theorem Closed.erase {rem : List Nat} (hnd : rem.Nodup) (hc : Closed ops rem) {i : Nat} (h : rdy ops rem i = true) : Closed ops (rem.erase i) := by
  intro k o ho hk d hd hm
  have hm' : d ∈ rem := List.mem_of_mem_erase hm
  by_cases e : k = i
  · subst e
    obtain ⟨o', ho', hall⟩ := rdy_spec h
    rw [ho] at ho'; injection ho' with ho'; subst ho'
    exact hall d hd hm'
  · exact hc k o ho (fun hh => hk ((List.mem_erase_of_ne e).2 hh)) d hd hm'

theorem rdy_erase {rem : List Nat} {i j : Nat} (h : rdy ops rem j = true) : rdy ops (rem.erase i) j = true := by
  obtain ⟨o, ho, hall⟩ := rdy_spec h
  unfold rdy
  rw [ho]
  refine List.all_eq_true.2 fun d hd => ?_
  have := hall d hd
  have hne : d ∉ rem.erase i := fun hh => this (List.mem_of_mem_erase hh)
  simpa using hne

/-- What may come ahead of all that is left, may be taken first. -/
theorem take_first {N : Rg → World → Prop} : ∀ (n : Nat) (rem : List Nat), rem.length = n + 1 → rem.Nodup → Closed ops rem → ∀ (i : Nat), i ∈ rem → rdy ops rem i = true →
    (∀ j ∈ rem, j = i ∨ reach ops 12 i j = true ∨ indep (insAt is i) (insAt is j) = true) → ∀ (T : Rg) (w : World), insSem P (insAt is i) (AnyI ops is P N n (rem.erase i)) T w → AnyI ops is P N (n + 1) rem T w := by
  intro n
  induction n with
  | zero =>
    intro rem hl hnd hc i hi hr hall T w h j hj hrj
    match rem, hl with
    | [k], _ =>
      simp at hi hj; subst hi; subst hj; exact h
  | succ n ih =>
    intro rem hl hnd hc i hi hr hall T w h j hj hrj
    by_cases e : j = i
    · subst e; exact h
    · have hji : j ∈ rem.erase i := (List.mem_erase_of_ne e).2 hj
      have hij : i ∈ rem.erase j := (List.mem_erase_of_ne (fun h => e h.symm)).2 hi
      have hindep : indep (insAt is i) (insAt is j) = true := by
        rcases hall j hj with h1 | h1 | h1
        · exact absurd h1 e
        · obtain ⟨o, ho, d, hd, hdr⟩ := reach_not hc hi 12 j h1
          obtain ⟨o', ho', hd'⟩ := rdy_spec hrj
          rw [ho] at ho'; injection ho' with ho'; subst ho'
          exact absurd hdr (hd' d hd)
        · exact h1
      have h1 : insSem P (insAt is i) (insSem P (insAt is j) (AnyI ops is P N n ((rem.erase i).erase j))) T w :=
        ins_mono (fun T w hh => hh j hji (rdy_erase hrj)) h
      have h2 := swap hindep h1
      refine ins_mono (fun T w hh => ?_) h2
      rw [List.erase_comm] at hh
      refine ih (rem.erase j) (by rw [List.length_erase_of_mem hj, hl]; rfl) (hnd.erase j) (hc.erase hnd hrj) i hij (rdy_erase hr) (fun k hk => hall k (List.mem_of_mem_erase hk)) T w hh

theorem alts_spec {N : Rg → World → Prop} : ∀ (l : List DT), EvT P N (alts l) T w → ∀ t ∈ l, EvT P N t T w := by
  intro l
  induction l with
  | nil => intro h t ht; simp at ht
  | cons x l ih =>
    intro h t ht
    cases l with
    | nil => simp at ht; subst ht; exact h
    | cons y l =>
      simp only [alts] at h
      rcases List.mem_cons.1 ht with e | e
      · subst e; exact h.1
      · exact ih h.2 t e

/-- The tree tells of all orders. -/
theorem tree_sound {N : Rg → World → Prop} : ∀ (n : Nat) (rem : List Nat), rem.length = n → rem.Nodup → Closed ops rem → ∀ (T : Rg) (w : World), EvT P N (tree ops is n rem) T w → AnyI ops is P N n rem T w := by
  intro n
  induction n with
  | zero =>
    intro rem hl hnd hc T w h
    match rem, hl with
    | [], _ => exact h
  | succ n ih =>
    intro rem hl hnd hc T w h
    simp only [tree] at h
    split at h
    · rename_i i hi
      have hf := List.find?_some hi
      have hm := List.mem_of_find?_eq_some hi
      unfold first at hf
      rw [Bool.and_eq_true] at hf
      refine take_first n rem hl hnd hc i hm hf.1 (fun j hj => ?_) T w ?_
      · have := List.all_eq_true.1 hf.2 j hj
        rw [Bool.or_eq_true, Bool.or_eq_true] at this
        rcases this with (h1 | h1) | h1
        · exact .inl (Nat.eq_of_beq_eq_true h1)
        · exact .inr (.inl h1)
        · exact .inr (.inr h1)
      · exact ins_mono (fun T w hh => ih _ (by rw [List.length_erase_of_mem hm, hl]; rfl) (hnd.erase i) (hc.erase hnd hf.1) T w hh) h
    · intro i hi hr
      have := alts_spec _ h (.step (insAt is i) (tree ops is n (rem.erase i))) (List.mem_map.2 ⟨i, List.mem_filter.2 ⟨hi, hr⟩, rfl⟩)
      exact ins_mono (fun T w hh => ih _ (by rw [List.length_erase_of_mem hi, hl]; rfl) (hnd.erase i) (hc.erase hnd hr) T w hh) this

theorem line_sound {N : Rg → World → Prop} : ∀ (t : DT) (l : List Ins), t.line = some l → ∀ (T : Rg) (w : World), Evs P l N T w → EvT P N t T w := by
  intro t
  induction t with
  | done => intro l h T w he; simp [DT.line] at h; subst h; exact he
  | step i t ih =>
    intro l h T w he
    simp only [DT.line, Option.map_eq_some_iff] at h
    obtain ⟨l', hl', rfl⟩ := h
    exact ins_mono (fun T w hh => ih l' hl' T w hh) he
  | alt a b => intro l h; simp [DT.line] at h
  | bad => intro l h; simp [DT.line] at h
end orders

end Dn

/-
  What Ev says of a function's body is so of its calls.
-/
namespace Dn
open Go

variable {P : Program} {m : Nat} {ro : Option Nat}

def Ex.exit : Ex → Exit
  | .n => .normal
  | .x id => .exit id
  | .r => .ret

/-- The registers that an activation holds. -/
def rgOf (a : Act) : Rg := ⟨fun i => a.tmps.getD i undef, a.defers.map fun d => match d.target with | .collected D => D | _ => 0⟩

theorem Agr.eq {T : Rg} {a : Act} (h : Agr m T a) : T = rgOf a := by
  obtain ⟨f, ds⟩ := T
  unfold rgOf
  congr 1
  · funext i; exact (h.get i).symm
  · rw [h.ds]
    simp only [List.map_map]
    rw [show ((fun d : Deferred => match d.target with | .collected D => D | _ => 0) ∘ coll) = id from by funext x; rfl]
    simp

theorem any_sound {ops : Array Oper} {N : Rg → World → Prop} {Q : Exit → Act → World → Prop} (hN : ∀ T' a' w', N T' w' → Agr m T' a' → Q .normal a' w')
    (hback : depsBack ops = true) : ∀ (n : Nat) (rem : List Nat) (listed : Array Bool) (T : Rg) (a : Act) (w : World), rem.length = n → rem.Nodup → (∀ i, i ∈ rem ↔ i < ops.size ∧ listed.getD i true = false) → listed.size = ops.size →
      AnyI ops (ops.toList.map (cI P m ops)) P N n rem T w → Agr m T a → wpAnyIn (Wd ro) 0 P .any ops Q n listed a w := by
  have hdb : ∀ j o, ops[j]? = some o → ∀ d ∈ deps o, d < j := by
    intro j o ho d hd
    have hlt : j < ops.size := (Array.getElem?_eq_some_iff.1 ho).1
    have := List.all_eq_true.1 hback j (List.mem_range.2 hlt)
    rw [ho] at this
    have := List.all_eq_true.1 this d hd
    rwa [Nat.blt_eq] at this
  have hready : ∀ (rem : List Nat) (listed : Array Bool), (∀ i, i ∈ rem ↔ i < ops.size ∧ listed.getD i true = false) → listed.size = ops.size → ∀ i, i ∈ Region.ready .any ops listed ↔ i ∈ rem ∧ rdy ops rem i = true := by
    intro rem listed hm hsz i
    unfold Region.ready
    rw [List.mem_filter, List.mem_range]
    constructor
    · rintro ⟨hlt, h⟩
      rw [Bool.and_eq_true] at h
      have h1 : listed.getD i true = false := by simpa using h.1
      refine ⟨(hm i).2 ⟨hlt, h1⟩, ?_⟩
      unfold rdy
      rw [Array.getElem?_eq_getElem hlt] at h ⊢
      simp only [Option.map_some, Option.getD_some] at h
      refine List.all_eq_true.2 fun d hd => ?_
      simp only [deps, List.mem_map, List.mem_filter] at hd
      obtain ⟨e, ⟨he, hb⟩, rfl⟩ := hd
      have h2 := Array.all_eq_true_iff_forall_mem.1 h.2 e (Array.mem_toList_iff.1 he)
      rw [hb] at h2
      simp only [Bool.not_true, Bool.false_or] at h2
      have : e.on ∉ rem := by
        intro hh
        have h3 := ((hm _).1 hh)
        have hlt' : e.on < listed.size := by rw [hsz]; exact h3.1
        simp only [Array.getD_eq_getD_getElem?, Array.getElem?_eq_getElem hlt', Option.getD_some] at h2 h3
        rw [h2] at h3; simp at h3
      simpa using this
    · rintro ⟨hi, hr⟩
      obtain ⟨hlt, h1⟩ := (hm i).1 hi
      refine ⟨hlt, ?_⟩
      rw [Bool.and_eq_true]
      refine ⟨by rw [h1]; rfl, ?_⟩
      obtain ⟨o, ho, hd⟩ := rdy_spec hr
      rw [ho]
      simp only [Option.map_some, Option.getD_some]
      refine Array.all_eq_true_iff_forall_mem.2 fun e he => ?_
      cases hb : Region.binds .any e with
      | false => rfl
      | true =>
        simp only [Bool.not_true, Bool.false_or]
        have hmem : e.on ∈ deps o := by
          simp only [deps, List.mem_map, List.mem_filter]
          exact ⟨e, ⟨Array.mem_toList_iff.2 he, hb⟩, rfl⟩
        have hnot := hd _ hmem
        have hlt2 : e.on < ops.size := Nat.lt_trans (hdb i o ho _ hmem) hlt
        have hlt' : e.on < listed.size := by rw [hsz]; exact hlt2
        have : ¬ (listed.getD e.on true = false) := fun hh => hnot ((hm _).2 ⟨hlt2, hh⟩)
        simp only [Array.getD_eq_getD_getElem?, Array.getElem?_eq_getElem hlt', Option.getD_some] at this ⊢
        simpa using this
  intro n
  induction n with
  | zero =>
    intro rem listed T a w hl hnd hm hsz h ha
    match rem, hl with
    | [], _ =>
      refine ⟨?_, hN _ _ _ h ha⟩
      apply List.eq_nil_iff_forall_not_mem.2
      intro i hi
      have := ((hready [] listed hm hsz i).1 hi).1
      simp at this
  | succ n ih =>
    intro rem listed T a w hl hnd hm hsz h ha
    refine ⟨fun hnil => ?_, fun i hi => ?_⟩
    · -- something is ready
      exfalso
      have hne : rem ≠ [] := by intro e; subst e; simp at hl
      obtain ⟨i, hi, hmin⟩ : ∃ i, i ∈ rem ∧ ∀ j ∈ rem, i ≤ j := by
        obtain ⟨x, l, rfl⟩ := List.exists_cons_of_ne_nil hne
        have : ∀ (l : List Nat) (x : Nat), ∃ i, i ∈ x :: l ∧ ∀ j ∈ x :: l, i ≤ j := by
          intro l
          induction l with
          | nil => intro x; exact ⟨x, by simp, by simp⟩
          | cons y l ih =>
            intro x
            obtain ⟨i, hi, hj⟩ := ih y
            by_cases hxi : x ≤ i
            · exact ⟨x, by simp, fun j hjm => by rcases List.mem_cons.1 hjm with e | e; · omega
                                                 · have := hj j e; omega⟩
            · exact ⟨i, List.mem_cons_of_mem _ hi, fun j hjm => by rcases List.mem_cons.1 hjm with e | e; · omega
                                                                   · exact hj j e⟩
        exact this l x
      have hlt := ((hm i).1 hi).1
      have : i ∈ Region.ready .any ops listed := by
        rw [hready rem listed hm hsz]
        refine ⟨hi, ?_⟩
        unfold rdy
        rw [Array.getElem?_eq_getElem hlt]
        refine List.all_eq_true.2 fun d hd => ?_
        have h1 := hdb i _ (Array.getElem?_eq_getElem hlt) d hd
        have : d ∉ rem := fun hh => by have := hmin d hh; omega
        simpa using this
      rw [hnil] at this; simp at this
    · obtain ⟨hir, hr⟩ := (hready rem listed hm hsz i).1 hi
      have hlt := ((hm i).1 hir).1
      have hins := h i hir hr
      have hat : insAt (ops.toList.map (cI P m ops)) i = cI P m ops ops[i] := by
        unfold insAt
        rw [List.getD_eq_getElem?_getD, List.getElem?_map, Array.getElem?_toList, Array.getElem?_eq_getElem hlt]; rfl
      rw [hat] at hins
      unfold wpOpIn
      rw [Array.getElem?_eq_getElem hlt]
      refine ins_sound hins ha fun T' a' w' hh ha' => ?_
      refine ih (rem.erase i) (listed.setIfInBounds i true) T' a' w' (by rw [List.length_erase_of_mem hir, hl]; rfl) (hnd.erase i) (fun j => ?_) (by simp [hsz]) hh ha'
      rw [List.Nodup.mem_erase_iff hnd, hm j]
      have hli : i < listed.size := by rw [hsz]; exact hlt
      simp only [Array.getD_eq_getD_getElem?, Array.getElem?_setIfInBounds]
      by_cases e : j = i
      · subst e; simp [hli]
      · have e' : ¬ i = j := fun h => e h.symm
        simp [e, e']

theorem getObj_loop {l : Nat} {w : World} {r : Loop} (h : w.heap[l]? = some (.loop r)) : (Instr.getLoop l).run P w = .ok r w := by
  simp only [Instr.getLoop, Sem.run_bind, getObj, Sem.run, h, Result.andThen_ok, Sem.run_pure]

theorem setObj_loop {l : Nat} {w : World} {r : Loop} {o : Obj} (h : w.heap[l]? = some (.loop r)) : (setObj l o).run P w = .ok () (w.putObj l o) := by
  simp only [setObj, Sem.run, h, World.putObj]

theorem endLoop_run {l fn : Nat} {st : LoopState} {pe : Option Code} {tmps : Array Value} {ps : List Nat} {assign body : Code} {D : Nat} {w : World} (hst : st ≠ .busy) (h : w.heap[l]? = some (loopObj st pe fn tmps ps assign body D)) :
    (Instr.endLoop l).run P w = .ok pe (w.putObj l (loopObj .exhausted pe fn tmps ps assign body D)) := by
  unfold loopObj at h ⊢
  have hb : (st == LoopState.busy) = false := by cases st <;> first | rfl | exact absurd rfl hst
  simp only [Instr.endLoop, Sem.run_bind, getObj_loop h, Result.andThen_ok, hb, Bool.false_eq_true, if_false, setObj_loop h, Sem.run_pure]

/-- no jump to a label -/
def noGo (Q : Exit → Act → World → Prop) : Exit → Act → World → Prop
  | .goto _, _, _ => False
  | e, a, w => Q e a w
theorem wpIn_scopeS {F : Fence} {n : Nat} {P : Program} {Q : Exit → Act → World → Prop} {a : Act} {w : World} {c : Code} (h : c.wpIn F n P (noGo Q) a w) : (Code.scope c).wpIn F n P Q a w := by
  intro b k cs hro hb hr
  have s1 : step P (lone (b.atR a (.code (.scope c) :: k)) cs w) = .next (lone (b.atR a (.code c :: .inScope c :: k)) cs w) := step_lone_go (by simp [stepG, stepG.exec, Frame.atR])
  have s2 : ∀ a w, step P (lone (b.atR a (.inScope c :: k)) cs w) = .next (lone (b.atR a k) cs w) := fun a w => step_lone_go (by simp [stepG, stepG.exec, Frame.atR])
  have h0 : (lone (b.atR a (.code (.scope c) :: k)) cs w).fenced P F := fenced_calm hb hr rfl
  obtain ⟨e, a₁, w₁, hq, harr⟩ := h b (.inScope c :: k) cs hro hb hr
  cases e with
  | normal => exact ⟨.normal, a₁, w₁, hq, .head h0 s1 (StepsIn.trans harr (.one (fenced_calm hb hr rfl) (s2 _ _)))⟩
  | exit id =>
    have hx : exitTo id (.inScope c :: k) = exitTo id k := by simp [exitTo]
    exact ⟨.exit id, a₁, w₁, hq, fun k' hk => .head h0 s1 (harr.1 k' (by rw [hx]; exact hk)), fun hr' hk => let ⟨k₁, h1, h2⟩ := harr.2 hr' (by rw [hx]; exact hk); ⟨k₁, h1, .head h0 s1 h2⟩⟩
  | goto l => exact hq.elim
  | ret => exact ⟨_, a₁, w₁, hq, .of_steps (.one h0 s1) harr⟩
  | panic ch => exact ⟨_, a₁, w₁, hq, .of_steps (.one h0 s1) harr⟩
  | outgrown => exact ⟨_, a₁, w₁, hq, .of_steps (.one h0 s1) harr⟩

theorem Ev_sound (hmix : P.follows .mixedOrders = true) : ∀ (c : Code) (inr : Bool) (K : Ex → Rg → World → Prop) (T : Rg) (a : Act) (w : World) (Q : Exit → Act → World → Prop), (inr = false → ro = none) → Ev P m (cC P m inr c) K T w → Agr m T a →
    (∀ e T' a' w', K e T' w' → Agr m T' a' → Q e.exit a' w') → c.wpIn (Wd ro) 0 P Q a w := by
  intro c
  induction c with
  | skip => intro inr K T a w Q hro h ha hK; exact wpIn_skip (hK .n _ _ _ h ha)
  | region id ops draw =>
    intro inr K T a w Q hro h ha hK
    simp only [cC] at h
    have hKn : ∀ T' a' w', K .n T' w' → Agr m T' a' → Q .normal a' w' := fun T' a' w' hk ha' => hK .n T' a' w' hk ha'
    cases draw with
    | false =>
      simp only [Bool.false_eq_true, if_false, Ev, cond_false] at h
      refine wpIn_region (evs_sound hKn (List.range ops.size) T a w ?_ (fun i hi => List.mem_range.1 hi) ha)
      have e : (List.range ops.size).map (fun i => cI P m ops (ops.getD i default)) = ops.toList.map (cI P m ops) := by
        apply List.ext_getElem?
        intro i
        rw [List.getElem?_map, List.getElem?_map]
        by_cases hi : i < ops.size
        · simp [hi, Array.getD]
        · have h1 : (List.range ops.size)[i]? = none := by simp; omega
          have h2 : ops.toList[i]? = none := by simp; omega
          rw [h1, h2]; rfl
      rw [e]; exact h
    | true =>
      simp only [if_true] at h
      have key : depsBack ops = true → EvT P (K .n) (tree ops (ops.toList.map (cI P m ops)) ops.size (List.range ops.size)) T w.drew → (Code.region id ops true).wpIn (Wd ro) 0 P Q a w := by
        intro hb ht
        refine wpIn_region_any hmix ?_
        refine any_sound hKn hb ops.size (List.range ops.size) (Array.replicate ops.size false) T a w.drew (by simp) List.nodup_range (fun i => ?_) (by simp) ?_ ha
        · rw [List.mem_range]
          constructor
          · intro hlt; exact ⟨hlt, by simp [Array.getD_eq_getD_getElem?, hlt]⟩
          · intro hh; exact hh.1
        · refine tree_sound ops.size _ (by simp) List.nodup_range ?_ T w.drew ht
          intro k o ho hk
          exact absurd (List.mem_range.2 (Array.getElem?_eq_some_iff.1 ho).1) hk
      split at h
      · rename_i hb
        split at h
        · rename_i l' hl
          exact key hb (line_sound _ _ hl _ _ h)
        · exact key hb h
      · exact h.elim
  | seq x y ihx ihy =>
    intro inr K T a w Q hro h ha hK
    simp only [cC, Ev] at h
    refine wpIn_seq (ihx inr _ T a w _ hro h ha fun e T' a' w' hk ha' => ?_)
    cases e with
    | n => exact ihy inr K T' a' w' Q hro hk ha' hK
    | x id => exact hK (.x id) T' a' w' hk ha'
    | r => exact hK .r T' a' w' hk ha'
  | cond c x y ihx ihy =>
    intro inr K T a w Q hro h ha hK
    simp only [cC, Ev] at h
    obtain ⟨t, ht, h1, h2⟩ := h
    have hc : a.eval c = .bool t := by rw [ha.eval, ← ev_cX]; exact ht
    cases t with
    | true => exact wpIn_cond_true hc (ihx inr K T a w Q hro (h1 rfl) ha hK)
    | false => exact wpIn_cond_false hc (ihy inr K T a w Q hro (h2 rfl) ha hK)
  | block id c ih =>
    intro inr K T a w Q hro h ha hK
    simp only [cC, Ev] at h
    refine wpIn_block (ih inr _ T a w _ hro h ha fun e T' a' w' hk ha' => ?_)
    cases e with
    | n => exact hK .n T' a' w' hk ha'
    | r => exact hK .r T' a' w' hk ha'
    | x i =>
      simp only [Ex.exit, Exit.inBlock]
      simp only [blkK] at hk
      cases hb : Nat.beq i id with
      | true =>
        rw [hb] at hk
        have := Nat.eq_of_beq_eq_true hb; subst this
        rw [if_pos rfl]
        exact hK .n T' a' w' hk ha'
      | false =>
        rw [hb] at hk
        have hne : i ≠ id := by intro e; subst e; simp at hb
        rw [if_neg hne]
        exact hK (.x i) T' a' w' hk ha'
  | loop c ih =>
    intro inr K T a w Q hro h ha hK
    simp only [cC, Ev] at h
    obtain ⟨I, μ, h0, hround⟩ := h
    refine wpIn_loop (fun a w => Agr m (rgOf a) a ∧ I (rgOf a) w) (fun a w => μ (rgOf a) w) ⟨by rw [← ha.eq]; exact ha, by rw [← ha.eq]; exact h0⟩ fun a' w' hI => ?_
    refine ih inr _ (rgOf a') a' w' _ hro (hround _ _ hI.2) hI.1 fun e T2 a2 w2 hk ha2 => ?_
    cases e with
    | n =>
      obtain ⟨hk1, hk2⟩ := hk
      have e := ha2.eq
      subst e
      exact ⟨⟨ha2, hk1⟩, hk2⟩
    | x id => exact hK (.x id) T2 a2 w2 hk ha2
    | r => exact hK .r T2 a2 w2 hk ha2
  | exit id => intro inr K T a w Q hro h ha hK; exact wpIn_exit (hK (.x id) _ _ _ h ha)
  | label l => intro inr K T a w Q hro h ha hK; exact wpIn_label (hK .n _ _ _ h ha)
  | scope c ih =>
    intro inr K T a w Q hro h ha hK
    refine wpIn_scopeS (ih inr K T a w _ hro h ha fun e T' a' w' hk ha' => ?_)
    cases e <;> exact hK _ T' a' w' hk ha'
  | ret => intro inr K T a w Q hro h ha hK; exact wpIn_ret (hK .r _ _ _ h ha)
  | rangeFunc f ps assign body iha ihb =>
    intro inr K T a w Q hro h ha hK
    simp only [cC] at h
    split at h
    · exact h.elim
    · rename_i hinr
      have hr : ro = none := hro (by cases inr <;> simp_all)
      subst hr
      split at h
      · simp only [Ev] at h
        obtain ⟨gf, fs, cs, hg, hc, hcall⟩ := h
        refine wpIn_rangeFunc fun fn _ => ?_
        have hcall := hcall fn a.tmps ha.size (fun i => ha.get i)
        obtain ⟨W1, hW1⟩ : ∃ W1, W1 = (w.alloc (.deferred (some []))).alloc (loopObj .ready none fn a.tmps ps.toList assign body w.heap.size) := ⟨_, rfl⟩
        rw [← hW1] at hcall
        refine ⟨w.heap.size + 1, [coll w.heap.size], W1,
          { target := .fn (.func gf) ⟨cs⟩, args := ⟨fs⟩ ++ #[.func (.yield (w.heap.size + 1)) #[] #[]] }, W1, gf, ⟨fs⟩ ++ #[.func (.yield (w.heap.size + 1)) #[] #[]] ++ ⟨cs⟩, W1, ?_, ?_, fun _ _ => trivial, ?_, fun hh => by simp [Wd, Fence.wide] at hh, ?_⟩
        · show Sem.run P (Instr.enterLoop fn a.tmps ps assign body none) w = _
          rw [hW1]; simp [Instr.enterLoop, loopObj, coll]
        · simp only [resolve, rangeCall]
          have : a.eval f = .func (.func gf) ⟨fs⟩ ⟨cs⟩ := by rw [ha.eval, ← ev_cX]; exact hg
          rw [this]
          simp only [Deferred.ofValue, Sem.run_pure, List.map_toArray, List.map_cons, List.map_nil]
          rfl
        · simp only [invoke]
          exact callable_run hc _
        · refine callsIn_Wd (ro := none) ?_
          have he : (⟨fs⟩ ++ #[Value.func (.yield (w.heap.size + 1)) #[] #[]] ++ ⟨cs⟩ : Array Value) = ⟨fs ++ [.func (.yield (w.heap.size + 1)) #[] #[]] ++ cs⟩ := by simp
          rw [he]
          refine Calls.mono hcall ?_
          rintro e w' ⟨v, rfl, x, st, hst, hheap, hk⟩
          refine ⟨x.code, w'.putObj (w.heap.size + 1) (loopObj .exhausted x.code fn a.tmps ps.toList assign body w.heap.size), ?_, ?_⟩
          · exact endLoop_run hst hheap
          · have ha2 : Agr m ⟨T.f, w.heap.size :: T.ds⟩ { tmps := a.tmps, defers := [coll w.heap.size] ++ a.defers } := ⟨ha.size, ha.get, by simp [ha.ds]⟩
            have hq := hK x _ _ _ hk ha2
            cases x with
            | n => exact hq
            | x id => exact wpIn_exit hq
            | r => exact wpIn_ret hq
      · exact h.elim
  | _ => intro inr K T a w Q hro h ha hK; exact h.elim

theorem take_run {D : Nat} {w : World} (h : w.heap[D]? = some (.deferred (some []))) : (Instr.takeDeferred D).run P w = .ok [] (w.putObj D (.deferred none)) := by
  simp only [Instr.takeDeferred, Sem.run_bind, getObj, setObj, Sem.run, h, Result.andThen_ok, Sem.run_pure, World.putObj]

theorem rv_run {T : Rg} {a : Act} {w : World} (ha : Agr m T a) : ∀ (l : List ResultVar) (r : List RV) (vs : List Value), cR P l = some r → rvsV T w r = some vs →
    (l.mapM (m := Sem) (fun r => match r with | .tmp t => pure (a.tmps.getD t undef) | .cell x t => do loadVar t (← asAddr (a.tmps.getD x undef)))).run P w = .ok vs w := by
  intro l
  induction l with
  | nil => intro r vs h1 h2; simp [cR] at h1; subst h1; simp [rvsV] at h2; subst h2; rfl
  | cons x l ih =>
    intro r vs h1 h2
    cases x with
    | tmp t =>
      simp only [cR, Option.map_eq_some_iff] at h1
      obtain ⟨r', hr', rfl⟩ := h1
      simp only [rvsV, rvV] at h2
      cases hv : rvsV T w r' with
      | none => rw [hv] at h2; simp at h2
      | some vs' =>
        rw [hv] at h2; simp only [Option.some.injEq] at h2; subst h2
        have := ih r' vs' hr' hv
        simp only [List.mapM_cons, Sem.run_bind, Sem.run_pure, Result.andThen_ok, this]
        rw [ha.get t]; rfl
    | cell x t =>
      simp only [cR] at h1
      split at h1
      · rename_i n r' hn hr'
        injection h1 with h1; subst h1
        simp only [rvsV, rvV] at h2
        cases hl : ldV n (T.ev (.r x)) w with
        | none => rw [hl] at h2; simp at h2
        | some v =>
          rw [hl] at h2
          cases hv : rvsV T w r' with
          | none => rw [hv] at h2; simp at h2
          | some vs' =>
            rw [hv] at h2; simp only [Option.some.injEq] at h2; subst h2
            have hih := ih r' vs' hr' hv
            have hx : ∃ p, a.tmps.getD x undef = .pointer (some p) := by
              rw [ha.get x]
              simp only [Rg.ev] at hl
              generalize T.f x = y at hl
              cases y <;> try (simp [ldV] at hl; done)
              rename_i p
              cases p with
              | none => simp [ldV] at hl
              | some p => exact ⟨p, rfl⟩
            obtain ⟨p, hp⟩ := hx
            have hl' : ldV n (.pointer (some p)) w = some v := by
              rw [← hp, ha.get x]; exact hl
            have hlv := loadVar_run (P := P) hn hl'
            have has : (asAddr (.pointer (some p))).run P w = .ok p w := rfl
            simp only [List.mapM_cons, Sem.run_bind, Sem.run_pure, Result.andThen_ok, hp, has, hlv, hih]
      · simp at h1

theorem results_run {fn : Func} {T : Rg} {a : Act} {w : World} (ha : Agr m T a) {r : List RV} {vs : List Value} (h1 : cR P fn.results.toList = some r) (h2 : rvsV T w r = some vs) : (results fn a.tmps).run P w = .ok (tup vs) w := by
  have := rv_run ha _ r vs h1 h2
  unfold results
  rw [Array.mapM_eq_mapM_toList]
  simp only [Sem.run_bind, Sem.run_map]
  erw [this]
  simp only [Result.andThen_ok, Sem.run_pure]
  congr 1
  match vs with
  | [] => rfl
  | [v] => rfl
  | _ :: _ :: _ => simp [tup]

/-- A CALL, OUT OF WHAT MUST HOLD OF THE COMPILED BODY. -/
theorem enter {f : FuncId} {fn : Func} {F : Fun} {args : List Value} {w : World} {Q : Value → World → Prop} (hmix : P.follows .mixedOrders = true) (hf : P.funcs[f]? = some fn) (hc : cF P fn = some F) (hn : args.length ≤ F.m)
    (h : Ev P F.m F.body (finK F.res Q) (T0 args) w) : CallTo P f args w Q := by
  unfold cF at hc
  split at hc
  · rename_i c r hb hr
    injection hc with hc; subst hc
    refine (callsIn_wide (n := 0)).1 ?_
    refine callsIn_of_wp_marks hf hb trivial ?_ rfl
    have hag : Agr fn.ntmps (T0 args) { tmps := (⟨args⟩ : Array Value) ++ Array.replicate (fn.ntmps - (⟨args⟩ : Array Value).size) undef, defers := [] } := by
      simp only at hn
      refine ⟨by simp; omega, fun i => ?_, rfl⟩
      simp only [T0, Array.getD_eq_getD_getElem?, List.getD_eq_getElem?_getD, Array.getElem?_append, Array.getElem?_replicate, List.size_toArray, List.getElem?_toArray]
      by_cases hi : i < args.length
      · simp [hi]
      · simp only [hi, if_false]
        rw [List.getElem?_eq_none (by omega)]
        split <;> rfl
    refine Ev_sound (ro := none) hmix c false (finK r Q) (T0 args) _ w _ (fun _ => rfl) h hag fun e T' a' w' hk ha' => ?_
    have key : ∀ (ds : List Nat) (w : World), leaveDs (fun w' => ∃ vs, rvsV T' w' r = some vs ∧ Q (tup vs) w') ds w → LeavesInM Fence.wide 0 P fn a'.tmps (fun e w' => ∃ v, e = .returned v ∧ Q v w') (ds.map coll) .returning w := by
      intro ds
      induction ds with
      | nil =>
        rintro w ⟨vs, hv, hq⟩
        exact ⟨tup vs, results_run ha' hr hv, _, rfl, hq⟩
      | cons D ds ih =>
        rintro w ⟨h1, h2⟩
        refine ⟨by simp, .inl ⟨D, _, rfl, take_run h1, ih _ h2⟩⟩
    cases e with
    | n => show LeavesInM Fence.wide 0 P fn a'.tmps _ a'.defers .returning w'; rw [ha'.ds]; exact key _ _ hk
    | r => show LeavesInM Fence.wide 0 P fn a'.tmps _ a'.defers .returning w'; rw [ha'.ds]; exact key _ _ hk
    | x id => exact hk.elim
  · simp at hc

#print axioms enter

end Dn

/- The compiled forms of functions of this seat, printed by a program of this claim's writer. -/
set_option maxRecDepth 100000
namespace Go.Proofs.YtjnogknjdjphaaaGreat
open Dn Go
/-- solvent/solventlaw20.CkptCapacityIsReached -/
def c6 : Fun := ⟨107, (.seq (.ops [(.op (.bx (some 2) 31 (.r 0))), (.op (.p (some 4) (.mov (.c (.bool false)))))] false) (.seq (.ops [(.op (.call (some 17) 25 [])), (.op (.p (some 5) (.mov (.r 17))))] false) (.seq (.seq (.ops [(.op (.p (some 18) (.mov (.r 5)))), (.op (.p (some 19) (.un .not (.r 18)))), (.op (.p (some 20) (.mov (.r 19)))), (.gd 20 false (some 21) (.ld (some 21) (some 6) (.r 2))), (.gd 20 false (some 22) (.call (some 22) 26 [(.r 21), (.c (.slice none 0 0))])), (.gd 20 false (some 23) (.p (some 23) (.un .not (.r 22)))), (.op (.pk (some 24) (.r 20) (.c (.bool true)) (.r 23)))] false) (.ite (.r 24) (.seq (.ops [(.op (.p (some 25) (.mov (.r 5)))), (.op (.p (some 4) (.mov (.r 25))))] false) .ret) .skip)) (.seq (.ops [(.op (.ld (some 27) (some 6) (.r 2))), (.op (.call (some 28) 43 [(.r 27), (.c (.slice none 0 0))])), (.op (.p (some 26) (.mov (.r 28)))), (.op (.p (some 29) (.ext (.r 26) 0))), (.op (.p (some 30) (.ext (.r 26) 1))), (.op (.p (some 6) (.mov (.r 29)))), (.op (.p (some 7) (.mov (.r 30))))] false) (.seq (.seq (.ops [(.op (.p (some 31) (.mov (.r 6)))), (.op (.p (some 32) (.eqn 0 false (.r 31) (.c (.pointer none)))))] false) (.ite (.r 32) (.seq (.ops [(.op (.p (some 33) (.mov (.r 5)))), (.op (.p (some 4) (.mov (.r 33))))] false) .ret) .skip)) (.seq (.ops [(.op (.ld (some 34) (some 6) (.r 2))), (.op (.call (some 35) 41 [(.r 34)])), (.op (.ar (some 36) .add (.r 35) (.c (.int .i64 1)))), (.op (.raw (some 37) (.makeSlice 43 (.tmp 36) (.tmp 36)) 43)), (.op (.p (some 8) (.mov (.r 37))))] false) (.seq (.seq (.ops [(.op (.p (some 9) (.mov (.c (.int .i64 0)))))] false) (.blk 0 (.loop (.seq (.seq (.ops [(.op (.p (some 38) (.mov (.r 9)))), (.op (.p (some 39) (.mov (.r 8)))), (.op (.p (some 40) (.len (.r 39)))), (.op (.p (some 41) (.cmp .lss (.r 38) (.r 40))))] false) (.ite (.r 41) .skip (.exit 0))) (.seq (.blk 1 (.ops [(.op (.p (some 44) (.mov (.r 8)))), (.op (.p (some 45) (.mov (.r 9)))), (.op (.p (some 46) (.mov (.r 1)))), (.op (.p (some 47) (.mov (.r 9)))), (.op (.p (some 48) (.cvi .u8 (.r 47)))), (.op (.ar (some 49) .add (.r 46) (.r 48))), (.op (.p (some 50) (.ixa 1 (.r 44) (.r 45)))), (.op (.st none 1 (.r 50) (.r 49)))] false)) (.ops [(.op (.p (some 42) (.mov (.r 9)))), (.op (.ar (some 43) .add (.r 42) (.c (.int .i64 1)))), (.op (.p (some 9) (.mov (.r 43))))] false)))))) (.seq (.ops [(.op (.p (some 52) (.mov (.r 6)))), (.op (.p (some 53) (.mov (.r 8)))), (.op (.b2s (some 54) (.r 53))), (.op (.call (some 55) 44 [(.c (.int .u16 1)), (.r 54)])), (.op (.call (some 56) 29 [(.r 52), (.r 55)])), (.op (.p (some 51) (.mov (.r 56)))), (.op (.p (some 57) (.ext (.r 51) 0))), (.op (.p (some 58) (.ext (.r 51) 1))), (.op (.p (some 10) (.mov (.r 57)))), (.op (.p (some 11) (.mov (.r 58))))] false) (.seq (.ops [(.op (.p (some 59) (.mov (.r 8)))), (.op (.p (some 60) (.mov (.r 8)))), (.op (.p (some 61) (.len (.r 60)))), (.op (.ar (some 62) .sub (.r 61) (.c (.int .i64 1)))), (.op (.p (some 63) (.sll 1 (.r 59) none (some (.r 62))))), (.op (.b2s (some 64) (.r 63))), (.op (.call (some 65) 44 [(.c (.int .u16 2)), (.r 64)])), (.op (.nw (some 12) 60 [(.int .i64 0), (.int .i64 0), (.int .i64 0), (.string ⟨#[]⟩)])), (.op (.st none 4 (.r 12) (.r 65)))] false) (.seq (.ops [(.op (.p (some 67) (.mov (.r 6)))), (.op (.ld (some 68) (some 4) (.r 12))), (.op (.call (some 69) 29 [(.r 67), (.r 68)])), (.op (.p (some 66) (.mov (.r 69)))), (.op (.p (some 70) (.ext (.r 66) 0))), (.op (.p (some 71) (.ext (.r 66) 1))), (.op (.p (some 13) (.mov (.r 70)))), (.op (.p (some 14) (.mov (.r 71))))] false) (.seq (.ops [(.op (.p (some 73) (.mov (.r 6)))), (.op (.call (some 74) 33 [(.r 73)])), (.op (.p (some 72) (.mov (.r 74)))), (.op (.p (some 75) (.ext (.r 72) 0))), (.op (.p (some 76) (.ext (.r 72) 1))), (.op (.nw (some 15) 60 [(.int .i64 0), (.int .i64 0), (.int .i64 0), (.string ⟨#[]⟩)])), (.op (.st none 4 (.r 15) (.r 75))), (.op (.p (some 16) (.mov (.r 76))))] false) (.seq (.ops [(.op (.p (some 77) (.mov (.r 11)))), (.op (.p (some 78) (.cmp .eql (.r 77) (.c (.int .i64 2))))), (.op (.p (some 79) (.mov (.r 78)))), (.gd 79 true (some 80) (.p (some 80) (.mov (.r 14)))), (.gd 79 true (some 81) (.p (some 81) (.cmp .eql (.r 80) (.c (.int .i64 0))))), (.op (.pk (some 82) (.r 79) (.r 81) (.c (.bool false)))), (.op (.p (some 83) (.mov (.r 82)))), (.gd 83 true (some 84) (.p (some 84) (.mov (.r 16)))), (.gd 83 true (some 85) (.p (some 85) (.cmp .eql (.r 84) (.c (.int .i64 0))))), (.op (.pk (some 86) (.r 83) (.r 85) (.c (.bool false)))), (.op (.p (some 87) (.mov (.r 86)))), (.gd 87 true (some 88) (.p (some 88) (.mov (.r 13)))), (.gd 87 true (some 89) (.p (some 89) (.mov (.r 7)))), (.gd 87 true (some 90) (.p (some 90) (.cmp .eql (.r 88) (.r 89)))), (.op (.pk (some 91) (.r 87) (.r 90) (.c (.bool false)))), (.op (.p (some 92) (.mov (.r 91)))), (.gd 92 true (some 93) (.ld (some 93) (some 4) (.r 15))), (.gd 92 true (some 94) (.ld (some 94) (some 4) (.r 12))), (.gd 92 true (some 95) (.p (some 95) (.eqs false [true, true, true, false] (.r 93) (.r 94)))), (.op (.pk (some 96) (.r 92) (.r 95) (.c (.bool false)))), (.op (.p (some 97) (.mov (.r 96)))), (.gd 97 true (some 98) (.p (some 98) (.mov (.r 8)))), (.gd 97 true (some 99) (.p (some 99) (.len (.r 98)))), (.gd 97 true (some 100) (.p (some 100) (.fad (.r 2) 5))), (.gd 97 true (some 101) (.ld (some 101) none (.r 100))), (.gd 97 true (some 102) (.ar (some 102) .sub (.r 101) (.c (.int .i64 1)))), (.gd 97 true (some 103) (.ar (some 103) .mul (.c (.int .i64 40)) (.r 102))), (.gd 97 true (some 104) (.ar (some 104) .add (.r 103) (.c (.int .i64 1)))), (.gd 97 true (some 105) (.p (some 105) (.cmp .eql (.r 99) (.r 104)))), (.op (.pk (some 106) (.r 97) (.r 105) (.c (.bool false)))), (.op (.p (some 4) (.mov (.r 106))))] false) .ret)))))))))))), [(.t (.r 4))]⟩
theorem c6_eq : cF Tryz.prog Tryz.f6 = some c6 := by kernel_rfl
/-- solvent/solventlaw20.CkptPlays -/
def c5 : Fun := ⟨233, (.seq (.ops [(.op (.bx (some 2) 31 (.r 0))), (.op (.p (some 4) (.mov (.c (.bool false)))))] false) (.seq (.ops [(.op (.call (some 35) 25 [])), (.op (.p (some 5) (.mov (.r 35))))] false) (.seq (.seq (.ops [(.op (.p (some 36) (.mov (.r 5)))), (.op (.p (some 37) (.un .not (.r 36)))), (.op (.p (some 38) (.mov (.r 37)))), (.gd 38 false (some 39) (.ld (some 39) (some 6) (.r 2))), (.gd 38 false (some 40) (.p (some 40) (.mov (.r 1)))), (.gd 38 false (some 41) (.call (some 41) 26 [(.r 39), (.r 40)])), (.gd 38 false (some 42) (.p (some 42) (.un .not (.r 41)))), (.op (.pk (some 43) (.r 38) (.c (.bool true)) (.r 42)))] false) (.ite (.r 43) (.seq (.ops [(.op (.p (some 44) (.mov (.r 5)))), (.op (.p (some 4) (.mov (.r 44))))] false) .ret) .skip)) (.seq (.ops [(.op (.ld (some 46) (some 6) (.r 2))), (.op (.call (some 47) 16 [(.r 46)])), (.op (.p (some 45) (.mov (.r 47)))), (.op (.p (some 48) (.ext (.r 45) 0))), (.op (.p (some 49) (.ext (.r 45) 1))), (.op (.p (some 6) (.mov (.r 48)))), (.op (.p (some 7) (.mov (.r 49))))] false) (.seq (.ops [(.op (.ld (some 51) (some 6) (.r 2))), (.op (.call (some 52) 27 [(.r 51)])), (.op (.p (some 50) (.mov (.r 52)))), (.op (.p (some 53) (.ext (.r 50) 0))), (.op (.p (some 54) (.ext (.r 50) 1))), (.op (.p (some 8) (.mov (.r 53)))), (.op (.p (some 9) (.mov (.r 54))))] false) (.seq (.seq (.ops [(.op (.p (some 55) (.mov (.r 7)))), (.op (.p (some 56) (.mov (.r 9)))), (.op (.p (some 57) (.cmp .neq (.r 55) (.r 56)))), (.op (.p (some 58) (.mov (.r 57)))), (.gd 58 false (some 59) (.p (some 59) (.mov (.r 7)))), (.gd 58 false (some 60) (.p (some 60) (.cmp .neq (.r 59) (.c (.int .i64 0))))), (.op (.pk (some 61) (.r 58) (.c (.bool true)) (.r 60)))] false) (.ite (.r 61) (.seq (.ops [(.op (.p (some 62) (.mov (.r 7)))), (.op (.p (some 63) (.mov (.r 9)))), (.op (.p (some 64) (.cmp .eql (.r 62) (.r 63)))), (.op (.p (some 4) (.mov (.r 64))))] false) .ret) .skip)) (.seq (.ops [(.op (.ld (some 65) (some 6) (.r 2))), (.op (.call (some 66) 28 [(.r 65)])), (.op (.p (some 10) (.mov (.r 66))))] false) (.seq (.seq (.ops [(.op (.p (some 11) (.mov (.c (.int .i64 0)))))] false) (.blk 0 (.loop (.seq (.seq (.ops [(.op (.p (some 67) (.mov (.r 11)))), (.op (.p (some 68) (.mov (.r 1)))), (.op (.p (some 69) (.len (.r 68)))), (.op (.p (some 70) (.cmp .lss (.r 67) (.r 69))))] false) (.ite (.r 70) .skip (.exit 0))) (.seq (.blk 1 (.seq (.seq (.ops [(.op (.p (some 73) (.mov (.r 1)))), (.op (.p (some 74) (.mov (.r 11)))), (.op (.p (some 75) (.ixa 16 (.r 73) (.r 74)))), (.op (.p (some 76) (.fad (.r 75) 11))), (.op (.ld (some 77) none (.r 76)))] false) (.ite (.r 77) (.seq (.ops [(.op (.p (some 79) (.mov (.r 6)))), (.op (.p (some 80) (.mov (.r 1)))), (.op (.p (some 81) (.mov (.r 11)))), (.op (.p (some 82) (.ixa 16 (.r 80) (.r 81)))), (.op (.p (some 83) (.fad (.r 82) 12))), (.op (.ld (some 84) (some 4) (.r 83))), (.op (.call (some 85) 29 [(.r 79), (.r 84)])), (.op (.p (some 78) (.mov (.r 85)))), (.op (.p (some 86) (.ext (.r 78) 0))), (.op (.p (some 87) (.ext (.r 78) 1))), (.op (.p (some 12) (.mov (.r 86)))), (.op (.p (some 13) (.mov (.r 87))))] false) (.seq (.ops [(.op (.p (some 89) (.mov (.r 8)))), (.op (.p (some 90) (.mov (.r 1)))), (.op (.p (some 91) (.mov (.r 11)))), (.op (.p (some 92) (.ixa 16 (.r 90) (.r 91)))), (.op (.p (some 93) (.fad (.r 92) 12))), (.op (.ld (some 94) (some 4) (.r 93))), (.op (.call (some 95) 30 [(.r 89), (.r 94)])), (.op (.p (some 88) (.mov (.r 95)))), (.op (.p (some 96) (.ext (.r 88) 0))), (.op (.p (some 97) (.ext (.r 88) 1))), (.op (.p (some 14) (.mov (.r 96)))), (.op (.p (some 15) (.mov (.r 97))))] false) (.seq (.ops [(.op (.p (some 98) (.mov (.r 12)))), (.op (.p (some 99) (.mov (.r 14)))), (.op (.p (some 100) (.cmp .neq (.r 98) (.r 99)))), (.op (.p (some 101) (.mov (.r 100)))), (.gd 101 false (some 102) (.p (some 102) (.mov (.r 13)))), (.gd 101 false (some 103) (.p (some 103) (.mov (.r 15)))), (.gd 101 false (some 104) (.p (some 104) (.cmp .neq (.r 102) (.r 103)))), (.op (.pk (some 105) (.r 101) (.c (.bool true)) (.r 104)))] false) (.ite (.r 105) (.seq (.ops [(.op (.p (some 4) (.mov (.c (.bool false)))))] false) .ret) .skip)))) (.seq (.ops [(.op (.p (some 106) (.mov (.r 6)))), (.op (.p (some 107) (.mov (.r 1)))), (.op (.p (some 108) (.mov (.r 11)))), (.op (.p (some 109) (.ixa 16 (.r 107) (.r 108)))), (.op (.p (some 110) (.fad (.r 109) 0))), (.op (.ld (some 111) (some 11) (.r 110))), (.op (.call (some 112) 31 [(.r 106), (.r 111)]))] false) (.ops [(.op (.p (some 113) (.mov (.r 8)))), (.op (.p (some 114) (.mov (.r 1)))), (.op (.p (some 115) (.mov (.r 11)))), (.op (.p (some 116) (.ixa 16 (.r 114) (.r 115)))), (.op (.p (some 117) (.fad (.r 116) 0))), (.op (.ld (some 118) (some 11) (.r 117))), (.op (.call (some 119) 32 [(.r 113), (.r 118)]))] false)))) (.seq (.ops [(.op (.p (some 121) (.mov (.r 6)))), (.op (.call (some 122) 33 [(.r 121)])), (.op (.p (some 120) (.mov (.r 122)))), (.op (.p (some 123) (.ext (.r 120) 0))), (.op (.p (some 124) (.ext (.r 120) 1))), (.op (.nw (some 16) 60 [(.int .i64 0), (.int .i64 0), (.int .i64 0), (.string ⟨#[]⟩)])), (.op (.st none 4 (.r 16) (.r 123))), (.op (.p (some 17) (.mov (.r 124))))] false) (.seq (.ops [(.op (.p (some 126) (.mov (.r 8)))), (.op (.call (some 127) 34 [(.r 126)])), (.op (.p (some 125) (.mov (.r 127)))), (.op (.p (some 128) (.ext (.r 125) 0))), (.op (.p (some 129) (.ext (.r 125) 1))), (.op (.nw (some 18) 60 [(.int .i64 0), (.int .i64 0), (.int .i64 0), (.string ⟨#[]⟩)])), (.op (.st none 4 (.r 18) (.r 128))), (.op (.p (some 19) (.mov (.r 129))))] false) (.seq (.ops [(.op (.ld (some 130) (some 4) (.r 16))), (.op (.ld (some 131) (some 4) (.r 18))), (.op (.p (some 132) (.eqs true [true, true, true, false] (.r 130) (.r 131)))), (.op (.p (some 133) (.mov (.r 132)))), (.gd 133 false (some 134) (.p (some 134) (.mov (.r 17)))), (.gd 133 false (some 135) (.p (some 135) (.mov (.r 19)))), (.gd 133 false (some 136) (.p (some 136) (.cmp .neq (.r 134) (.r 135)))), (.op (.pk (some 137) (.r 133) (.c (.bool true)) (.r 136)))] false) (.ite (.r 137) (.seq (.ops [(.op (.p (some 4) (.mov (.c (.bool false)))))] false) .ret) .skip)))))) (.ops [(.op (.p (some 71) (.mov (.r 11)))), (.op (.ar (some 72) .add (.r 71) (.c (.int .i64 1)))), (.op (.p (some 11) (.mov (.r 72))))] false)))))) (.seq (.seq (.ops [(.op (.p (some 20) (.mov (.c (.int .i64 0)))))] false) (.blk 2 (.loop (.seq (.seq (.ops [(.op (.p (some 138) (.mov (.r 20)))), (.op (.p (some 139) (.mov (.r 10)))), (.op (.p (some 140) (.len (.r 139)))), (.op (.p (some 141) (.cmp .lss (.r 138) (.r 140))))] false) (.ite (.r 141) .skip (.exit 2))) (.seq (.blk 3 (.seq (.ops [(.op (.p (some 145) (.mov (.r 6)))), (.op (.p (some 146) (.mov (.r 10)))), (.op (.p (some 147) (.mov (.r 20)))), (.op (.p (some 148) (.ixa 3 (.r 146) (.r 147)))), (.op (.ld (some 149) (some 3) (.r 148))), (.op (.call (some 150) 35 [(.r 145), (.r 149)])), (.op (.p (some 144) (.mov (.r 150)))), (.op (.p (some 151) (.ext (.r 144) 0))), (.op (.p (some 152) (.ext (.r 144) 1))), (.op (.p (some 21) (.mov (.r 151)))), (.op (.p (some 22) (.mov (.r 152))))] false) (.seq (.ops [(.op (.p (some 154) (.mov (.r 8)))), (.op (.p (some 155) (.mov (.r 10)))), (.op (.p (some 156) (.mov (.r 20)))), (.op (.p (some 157) (.ixa 3 (.r 155) (.r 156)))), (.op (.ld (some 158) (some 3) (.r 157))), (.op (.call (some 159) 36 [(.r 154), (.r 158)])), (.op (.p (some 153) (.mov (.r 159)))), (.op (.p (some 160) (.ext (.r 153) 0))), (.op (.p (some 161) (.ext (.r 153) 1))), (.op (.p (some 23) (.mov (.r 160)))), (.op (.p (some 24) (.mov (.r 161))))] false) (.seq (.ops [(.op (.p (some 162) (.mov (.r 21)))), (.op (.p (some 163) (.mov (.r 23)))), (.op (.p (some 164) (.cmp .neq (.r 162) (.r 163)))), (.op (.p (some 165) (.mov (.r 164)))), (.gd 165 false (some 166) (.p (some 166) (.mov (.r 22)))), (.gd 165 false (some 167) (.p (some 167) (.mov (.r 24)))), (.gd 165 false (some 168) (.p (some 168) (.cmpb true (.r 166) (.r 167)))), (.op (.pk (some 169) (.r 165) (.c (.bool true)) (.r 168)))] false) (.ite (.r 169) (.seq (.ops [(.op (.p (some 4) (.mov (.c (.bool false)))))] false) .ret) .skip))))) (.ops [(.op (.p (some 142) (.mov (.r 20)))), (.op (.ar (some 143) .add (.r 142) (.c (.int .i64 1)))), (.op (.p (some 20) (.mov (.r 143))))] false)))))) (.seq (.seq (.ops [(.op (.p (some 25) (.mov (.c (.int .i64 (-1))))))] false) (.blk 4 (.loop (.seq (.seq (.ops [(.op (.p (some 170) (.mov (.r 25)))), (.op (.p (some 171) (.fad (.r 2) 0))), (.op (.ld (some 172) none (.r 171))), (.op (.p (some 173) (.cmp .leq (.r 170) (.r 172))))] false) (.ite (.r 173) .skip (.exit 4))) (.seq (.blk 5 (.seq (.ops [(.op (.p (some 177) (.mov (.r 6)))), (.op (.p (some 178) (.mov (.r 25)))), (.op (.call (some 179) 37 [(.r 177), (.r 178)])), (.op (.p (some 176) (.mov (.r 179)))), (.op (.p (some 180) (.ext (.r 176) 0))), (.op (.p (some 181) (.ext (.r 176) 1))), (.op (.p (some 182) (.ext (.r 176) 2))), (.op (.nw (some 27) 60 [(.int .i64 0), (.int .i64 0), (.int .i64 0), (.string ⟨#[]⟩)])), (.op (.p (some 26) (.mov (.r 180)))), (.op (.st none 4 (.r 27) (.r 181))), (.op (.p (some 28) (.mov (.r 182))))] false) (.seq (.ops [(.op (.p (some 183) (.mov (.r 8)))), (.op (.p (some 184) (.mov (.r 25)))), (.op (.call (some 185) 38 [(.r 183), (.r 184)])), (.op (.nw (some 29) 78 [(.int .i64 0), (.int .i64 0), (.int .i64 0), (.int .i64 0), (.string ⟨#[]⟩), (.int .i64 0)])), (.op (.st none 6 (.r 29) (.r 185)))] false) (.seq (.seq (.ops [(.op (.p (some 186) (.mov (.r 26)))), (.op (.p (some 187) (.fad (.r 29) 0))), (.op (.ld (some 188) none (.r 187))), (.op (.p (some 189) (.cmp .neq (.r 186) (.r 188)))), (.op (.p (some 190) (.mov (.r 189)))), (.gd 190 false (some 191) (.ld (some 191) (some 4) (.r 27))), (.gd 190 false (some 192) (.p (some 192) (.fad (.r 29) 1))), (.gd 190 false (some 193) (.ld (some 193) (some 4) (.r 192))), (.gd 190 false (some 194) (.p (some 194) (.eqs true [true, true, true, false] (.r 191) (.r 193)))), (.op (.pk (some 195) (.r 190) (.c (.bool true)) (.r 194))), (.op (.p (some 196) (.mov (.r 195)))), (.gd 196 false (some 197) (.p (some 197) (.mov (.r 28)))), (.gd 196 false (some 198) (.p (some 198) (.fad (.r 29) 5))), (.gd 196 false (some 199) (.ld (some 199) none (.r 198))), (.gd 196 false (some 200) (.p (some 200) (.cmp .neq (.r 197) (.r 199)))), (.op (.pk (some 201) (.r 196) (.c (.bool true)) (.r 200)))] false) (.ite (.r 201) (.seq (.ops [(.op (.p (some 4) (.mov (.c (.bool false)))))] false) .ret) .skip)) (.seq (.ops [(.op (.p (some 30) (.mov (.c (.int .i64 0)))))] false) (.blk 6 (.loop (.seq (.seq (.ops [(.op (.p (some 202) (.mov (.r 30)))), (.op (.p (some 203) (.cmp .lss (.r 202) (.c (.int .i64 6)))))] false) (.ite (.r 203) .skip (.exit 6))) (.seq (.blk 7 (.seq (.ops [(.op (.p (some 207) (.mov (.r 6)))), (.op (.p (some 208) (.mov (.r 25)))), (.op (.p (some 209) (.mov (.r 30)))), (.op (.call (some 210) 39 [(.r 207), (.r 208), (.r 209)])), (.op (.p (some 206) (.mov (.r 210)))), (.op (.p (some 211) (.ext (.r 206) 0))), (.op (.p (some 212) (.ext (.r 206) 1))), (.op (.nw (some 31) 60 [(.int .i64 0), (.int .i64 0), (.int .i64 0), (.string ⟨#[]⟩)])), (.op (.st none 4 (.r 31) (.r 211))), (.op (.p (some 32) (.mov (.r 212))))] false) (.seq (.ops [(.op (.p (some 214) (.mov (.r 8)))), (.op (.p (some 215) (.mov (.r 25)))), (.op (.p (some 216) (.mov (.r 30)))), (.op (.call (some 217) 40 [(.r 214), (.r 215), (.r 216)])), (.op (.p (some 213) (.mov (.r 217)))), (.op (.p (some 218) (.ext (.r 213) 0))), (.op (.p (some 219) (.ext (.r 213) 1))), (.op (.nw (some 33) 60 [(.int .i64 0), (.int .i64 0), (.int .i64 0), (.string ⟨#[]⟩)])), (.op (.st none 4 (.r 33) (.r 218))), (.op (.p (some 34) (.mov (.r 219))))] false) (.seq (.ops [(.op (.ld (some 220) (some 4) (.r 31))), (.op (.ld (some 221) (some 4) (.r 33))), (.op (.p (some 222) (.eqs true [true, true, true, false] (.r 220) (.r 221)))), (.op (.p (some 223) (.mov (.r 222)))), (.gd 223 false (some 224) (.p (some 224) (.mov (.r 32)))), (.gd 223 false (some 225) (.p (some 225) (.mov (.r 34)))), (.gd 223 false (some 226) (.p (some 226) (.cmp .neq (.r 224) (.r 225)))), (.op (.pk (some 227) (.r 223) (.c (.bool true)) (.r 226)))] false) (.ite (.r 227) (.seq (.ops [(.op (.p (some 4) (.mov (.c (.bool false)))))] false) .ret) .skip))))) (.ops [(.op (.p (some 204) (.mov (.r 30)))), (.op (.ar (some 205) .add (.r 204) (.c (.int .i64 1)))), (.op (.p (some 30) (.mov (.r 205))))] false)))))))))) (.ops [(.op (.p (some 174) (.mov (.r 25)))), (.op (.ar (some 175) .add (.r 174) (.c (.int .i64 1)))), (.op (.p (some 25) (.mov (.r 175))))] false)))))) (.seq (.dr (.step (.op (.ld (some 228) (some 6) (.r 2))) (.alt (.step (.op (.call (some 229) 41 [(.r 228)])) (.step (.op (.ld (some 230) (some 6) (.r 2))) (.step (.op (.call (some 231) 42 [(.r 230)])) (.step (.op (.p (some 232) (.cmp .eql (.r 229) (.r 231)))) (.step (.op (.p (some 4) (.mov (.r 232)))) .done))))) (.step (.op (.ld (some 230) (some 6) (.r 2))) (.step (.op (.call (some 229) 41 [(.r 228)])) (.step (.op (.call (some 231) 42 [(.r 230)])) (.step (.op (.p (some 232) (.cmp .eql (.r 229) (.r 231)))) (.step (.op (.p (some 4) (.mov (.r 232)))) .done)))))))) .ret))))))))))), [(.t (.r 4))]⟩
/-- solvent/solventlaw20.later -/
def c44 : Fun := ⟨12, (.seq (.ops [(.op (.nw (some 4) 60 [(.int .i64 0), (.int .i64 0), (.int .i64 0), (.string ⟨#[]⟩)]))] false) (.seq (.ops [(.op (.p (some 5) (.mov (.r 0)))), (.op (.p (some 6) (.cvi .i64 (.r 5)))), (.op (.p (some 7) (.bld [(.int .i64 0), (.int .i64 0)] [(0, (1, (.c (.int .i64 1048576)))), (1, (1, (.r 6)))]))), (.op (.p (some 8) (.mov (.r 0)))), (.op (.p (some 9) (.cvi .i64 (.r 8)))), (.op (.p (some 10) (.mov (.r 1)))), (.op (.p (some 11) (.bld [(.int .i64 0), (.int .i64 0), (.int .i64 0), (.string ⟨#[]⟩)] [(0, (2, (.r 7))), (2, (1, (.r 9))), (3, (1, (.r 10)))]))), (.op (.st none 4 (.r 4) (.r 11)))] false) .ret)), [(.cl (.r 4) (some 4))]⟩
theorem c44_eq : cF Tryz.prog Tryz.f44 = some c44 := by kernel_rfl
/-- solvent/solventlaw20.ready -/
def c43 : Fun := ⟨115, (.seq (.ops [(.op (.bx (some 2) 31 (.r 0))), (.op (.p (some 4) (.mov (.c (.pointer none))))), (.op (.p (some 5) (.mov (.c (.int .i64 0)))))] false) (.seq (.ops [(.op (.ld (some 19) (some 6) (.r 2))), (.op (.call (some 20) 16 [(.r 19)])), (.op (.p (some 18) (.mov (.r 20)))), (.op (.p (some 21) (.ext (.r 18) 0))), (.op (.p (some 22) (.ext (.r 18) 1))), (.op (.p (some 6) (.mov (.r 21)))), (.op (.p (some 7) (.mov (.r 22))))] false) (.seq (.seq (.ops [(.op (.p (some 23) (.mov (.r 7)))), (.op (.p (some 24) (.cmp .neq (.r 23) (.c (.int .i64 0))))), (.op (.p (some 25) (.mov (.r 24)))), (.gd 25 false (some 26) (.p (some 26) (.mov (.r 6)))), (.gd 25 false (some 27) (.p (some 27) (.eqn 0 false (.r 26) (.c (.pointer none))))), (.op (.pk (some 28) (.r 25) (.c (.bool true)) (.r 27)))] false) (.ite (.r 28) (.seq (.ops [(.op (.p (some 4) (.mov (.c (.pointer none))))), (.op (.p (some 5) (.mov (.c (.int .i64 0)))))] false) .ret) .skip)) (.seq (.seq (.ops [(.op (.p (some 8) (.mov (.c (.int .i64 0)))))] false) (.blk 0 (.loop (.seq (.seq (.ops [(.op (.p (some 29) (.mov (.r 8)))), (.op (.p (some 30) (.mov (.r 1)))), (.op (.p (some 31) (.len (.r 30)))), (.op (.p (some 32) (.cmp .lss (.r 29) (.r 31))))] false) (.ite (.r 32) .skip (.exit 0))) (.seq (.blk 1 (.seq (.ops [(.op (.p (some 35) (.mov (.r 1)))), (.op (.p (some 36) (.mov (.r 8)))), (.op (.p (some 37) (.ixa 16 (.r 35) (.r 36)))), (.op (.p (some 38) (.fad (.r 37) 11))), (.op (.ld (some 39) none (.r 38)))] false) (.ite (.r 39) (.ops [(.op (.p (some 40) (.mov (.r 6)))), (.op (.p (some 41) (.mov (.r 1)))), (.op (.p (some 42) (.mov (.r 8)))), (.op (.p (some 43) (.ixa 16 (.r 41) (.r 42)))), (.op (.p (some 44) (.fad (.r 43) 12))), (.op (.ld (some 45) (some 4) (.r 44))), (.op (.call (some 46) 29 [(.r 40), (.r 45)]))] false) (.ops [(.op (.p (some 47) (.mov (.r 6)))), (.op (.p (some 48) (.mov (.r 1)))), (.op (.p (some 49) (.mov (.r 8)))), (.op (.p (some 50) (.ixa 16 (.r 48) (.r 49)))), (.op (.p (some 51) (.fad (.r 50) 0))), (.op (.ld (some 52) (some 11) (.r 51))), (.op (.call (some 53) 31 [(.r 47), (.r 52)]))] false)))) (.ops [(.op (.p (some 33) (.mov (.r 8)))), (.op (.ar (some 34) .add (.r 33) (.c (.int .i64 1)))), (.op (.p (some 8) (.mov (.r 34))))] false)))))) (.seq (.ops [(.op (.p (some 54) (.mov (.r 6)))), (.op (.call (some 55) 55 [(.r 54), (.c (.slice none 0 0))]))] false) (.seq (.ops [(.op (.p (some 9) (.mov (.c (.int .i64 0)))))] false) (.seq (.seq (.ops [(.op (.p (some 10) (.mov (.c (.int .i64 0)))))] false) (.blk 2 (.loop (.seq (.seq (.ops [(.op (.p (some 56) (.mov (.r 10)))), (.op (.p (some 57) (.fad (.r 2) 0))), (.op (.ld (some 58) none (.r 57))), (.op (.p (some 59) (.cmp .lss (.r 56) (.r 58))))] false) (.ite (.r 59) .skip (.exit 2))) (.seq (.blk 3 (.seq (.seq (.ops [(.op (.p (some 62) (.mov (.r 6)))), (.op (.p (some 63) (.mov (.r 10)))), (.op (.call (some 64) 62 [(.r 62), (.r 63)])), (.op (.p (some 65) (.cmp .neq (.r 64) (.c (.int .i64 1)))))] false) (.ite (.r 65) (.exit 3) .skip)) (.ops [(.op (.p (some 66) (.mov (.r 9)))), (.op (.ar (some 67) .add (.r 66) (.c (.int .i64 1)))), (.op (.p (some 9) (.mov (.r 67))))] false))) (.ops [(.op (.p (some 60) (.mov (.r 10)))), (.op (.ar (some 61) .add (.r 60) (.c (.int .i64 1)))), (.op (.p (some 10) (.mov (.r 61))))] false)))))) (.seq (.ops [(.op (.ld (some 68) (some 6) (.r 2))), (.op (.call (some 69) 28 [(.r 68)])), (.op (.p (some 11) (.mov (.r 69))))] false) (.seq (.seq (.ops [(.op (.p (some 12) (.mov (.c (.int .i64 0)))))] false) (.blk 4 (.loop (.seq (.seq (.ops [(.op (.p (some 70) (.mov (.r 12)))), (.op (.p (some 71) (.mov (.r 11)))), (.op (.p (some 72) (.len (.r 71)))), (.op (.p (some 73) (.cmp .lss (.r 70) (.r 72))))] false) (.ite (.r 73) .skip (.exit 4))) (.seq (.blk 5 (.seq (.ops [(.op (.p (some 77) (.mov (.r 6)))), (.op (.p (some 78) (.mov (.r 11)))), (.op (.p (some 79) (.mov (.r 12)))), (.op (.p (some 80) (.ixa 3 (.r 78) (.r 79)))), (.op (.ld (some 81) (some 3) (.r 80))), (.op (.call (some 82) 35 [(.r 77), (.r 81)])), (.op (.p (some 76) (.mov (.r 82)))), (.op (.p (some 83) (.ext (.r 76) 0))), (.op (.p (some 84) (.ext (.r 76) 1))), (.op (.p (some 13) (.mov (.r 83)))), (.op (.p (some 14) (.mov (.r 84))))] false) (.seq (.ops [(.op (.p (some 86) (.mov (.r 13)))), (.op (.call (some 87) 130 [(.r 86)])), (.op (.p (some 85) (.mov (.r 87)))), (.op (.p (some 88) (.ext (.r 85) 0))), (.op (.p (some 89) (.ext (.r 85) 1))), (.op (.p (some 90) (.ext (.r 85) 2))), (.op (.nw (some 15) 53 [(.int .i64 0), (.int .i64 0), (.int .i64 0)])), (.op (.nw (some 16) 58 [(.int .i64 0), (.int .i64 0)])), (.op (.st none 3 (.r 15) (.r 88))), (.op (.st none 2 (.r 16) (.r 89))), (.op (.p (some 17) (.mov (.r 90))))] false) (.seq (.ops [(.op (.p (some 91) (.mov (.r 17)))), (.op (.p (some 92) (.cmp .eql (.r 91) (.c (.int .i64 0))))), (.op (.p (some 93) (.mov (.r 92)))), (.gd 93 true (some 94) (.p (some 94) (.fad (.r 16) 0))), (.gd 93 true (some 95) (.ld (some 95) none (.r 94))), (.gd 93 true (some 96) (.p (some 96) (.cmp .geq (.r 95) (.c (.int .i64 1048576))))), (.op (.pk (some 97) (.r 93) (.r 96) (.c (.bool false)))), (.op (.p (some 98) (.mov (.r 97)))), (.gd 98 false (some 99) (.p (some 99) (.mov (.r 13)))), (.gd 98 false (some 100) (.call (some 100) 131 [(.r 99)])), (.gd 98 false (some 101) (.p (some 101) (.cmp .geq (.r 100) (.c (.int .i64 1048576))))), (.op (.pk (some 102) (.r 98) (.c (.bool true)) (.r 101))), (.op (.p (some 103) (.mov (.r 102)))), (.gd 103 true (some 104) (.p (some 104) (.mov (.r 6)))), (.gd 103 true (some 105) (.p (some 105) (.mov (.r 11)))), (.gd 103 true (some 106) (.p (some 106) (.mov (.r 12)))), (.gd 103 true (some 107) (.p (some 107) (.ixa 3 (.r 105) (.r 106)))), (.gd 103 true (some 108) (.p (some 108) (.fad (.r 107) 0))), (.gd 103 true (some 109) (.ld (some 109) none (.r 108))), (.gd 103 true (some 110) (.call (some 110) 62 [(.r 104), (.r 109)])), (.gd 103 true (some 111) (.p (some 111) (.cmp .eql (.r 110) (.c (.int .i64 1))))), (.op (.pk (some 112) (.r 103) (.r 111) (.c (.bool false))))] false) (.ite (.r 112) (.seq (.ops [(.op (.p (some 4) (.mov (.c (.pointer none))))), (.op (.p (some 5) (.mov (.c (.int .i64 0)))))] false) .ret) .skip))))) (.ops [(.op (.p (some 74) (.mov (.r 12)))), (.op (.ar (some 75) .add (.r 74) (.c (.int .i64 1)))), (.op (.p (some 12) (.mov (.r 75))))] false)))))) (.seq (.ops [(.op (.p (some 113) (.mov (.r 6)))), (.op (.p (some 114) (.mov (.r 9)))), (.op (.p (some 4) (.mov (.r 113)))), (.op (.p (some 5) (.mov (.r 114))))] false) .ret)))))))))), [(.t (.r 4)), (.t (.r 5))]⟩
theorem c43_eq : cF Tryz.prog Tryz.f43 = some c43 := by kernel_rfl
/-- solvent/solventlaw20.sanity -/
def c25 : Fun := ⟨64, (.seq (.ops [(.op (.p (some 0) (.mov (.c (.bool false)))))] false) (.seq (.ops [(.op (.p (some 11) (.bld [(.int .i64 0), (.int .i64 0), (.int .i64 0), (.int .i64 0), (.int .i64 0), (.int .i64 0)] [(0, (1, (.c (.int .i64 2)))), (1, (1, (.c (.int .i64 1)))), (2, (1, (.c (.int .i64 1)))), (4, (1, (.c (.int .i64 1)))), (5, (1, (.c (.int .i64 3))))]))), (.op (.call (some 12) 16 [(.r 11)])), (.op (.p (some 10) (.mov (.r 12)))), (.op (.p (some 13) (.ext (.r 10) 0))), (.op (.p (some 14) (.ext (.r 10) 1))), (.op (.p (some 1) (.mov (.r 13)))), (.op (.p (some 2) (.mov (.r 14))))] false) (.seq (.seq (.ops [(.op (.p (some 15) (.mov (.r 2)))), (.op (.p (some 16) (.cmp .neq (.r 15) (.c (.int .i64 0))))), (.op (.p (some 17) (.mov (.r 16)))), (.gd 17 false (some 18) (.p (some 18) (.mov (.r 1)))), (.gd 17 false (some 19) (.p (some 19) (.eqn 0 false (.r 18) (.c (.pointer none))))), (.op (.pk (some 20) (.r 17) (.c (.bool true)) (.r 19)))] false) (.ite (.r 20) (.seq (.ops [(.op (.p (some 0) (.mov (.c (.bool false)))))] false) .ret) .skip)) (.seq (.ops [(.op (.p (some 22) (.mov (.r 1)))), (.op (.call (some 23) 33 [(.r 22)])), (.op (.p (some 21) (.mov (.r 23)))), (.op (.p (some 24) (.ext (.r 21) 0))), (.op (.p (some 25) (.ext (.r 21) 1))), (.op (.nw (some 3) 60 [(.int .i64 0), (.int .i64 0), (.int .i64 0), (.string ⟨#[]⟩)])), (.op (.st none 4 (.r 3) (.r 24))), (.op (.p (some 4) (.mov (.r 25))))] false) (.seq (.ops [(.op (.p (some 26) (.bld [(.int .i64 0), (.int .i64 0)] [(0, (1, (.c (.int .i64 1))))]))), (.op (.p (some 27) (.bld [(.int .i64 0), (.int .i64 0), (.int .i64 0), (.string ⟨#[]⟩)] [(0, (2, (.r 26))), (2, (1, (.c (.int .i64 5)))), (3, (1, (.c (.string ⟨#[97, 98, 99]⟩))))]))), (.op (.nw (some 5) 60 [(.int .i64 0), (.int .i64 0), (.int .i64 0), (.string ⟨#[]⟩)])), (.op (.st none 4 (.r 5) (.r 27)))] false) (.seq (.ops [(.op (.p (some 29) (.mov (.r 1)))), (.op (.ld (some 30) (some 4) (.r 5))), (.op (.call (some 31) 29 [(.r 29), (.r 30)])), (.op (.p (some 28) (.mov (.r 31)))), (.op (.p (some 32) (.ext (.r 28) 0))), (.op (.p (some 33) (.ext (.r 28) 1))), (.op (.p (some 6) (.mov (.r 32)))), (.op (.p (some 7) (.mov (.r 33))))] false) (.seq (.ops [(.op (.p (some 35) (.mov (.r 1)))), (.op (.call (some 36) 33 [(.r 35)])), (.op (.p (some 34) (.mov (.r 36)))), (.op (.p (some 37) (.ext (.r 34) 0))), (.op (.p (some 38) (.ext (.r 34) 1))), (.op (.nw (some 8) 60 [(.int .i64 0), (.int .i64 0), (.int .i64 0), (.string ⟨#[]⟩)])), (.op (.st none 4 (.r 8) (.r 37))), (.op (.p (some 9) (.mov (.r 38))))] false) (.seq (.ops [(.op (.p (some 39) (.mov (.r 4)))), (.op (.p (some 40) (.cmp .eql (.r 39) (.c (.int .i64 12))))), (.op (.p (some 41) (.mov (.r 40)))), (.gd 41 true (some 42) (.p (some 42) (.mov (.r 7)))), (.gd 41 true (some 43) (.p (some 43) (.cmp .eql (.r 42) (.c (.int .i64 0))))), (.op (.pk (some 44) (.r 41) (.r 43) (.c (.bool false)))), (.op (.p (some 45) (.mov (.r 44)))), (.gd 45 true (some 46) (.p (some 46) (.mov (.r 6)))), (.gd 45 true (some 47) (.p (some 47) (.cmp .eql (.r 46) (.c (.int .i64 2))))), (.op (.pk (some 48) (.r 45) (.r 47) (.c (.bool false)))), (.op (.p (some 49) (.mov (.r 48)))), (.gd 49 true (some 50) (.p (some 50) (.mov (.r 9)))), (.gd 49 true (some 51) (.p (some 51) (.cmp .eql (.r 50) (.c (.int .i64 0))))), (.op (.pk (some 52) (.r 49) (.r 51) (.c (.bool false)))), (.op (.p (some 53) (.mov (.r 52)))), (.gd 53 true (some 54) (.ld (some 54) (some 4) (.r 8))), (.gd 53 true (some 55) (.ld (some 55) (some 4) (.r 5))), (.gd 53 true (some 56) (.p (some 56) (.eqs false [true, true, true, false] (.r 54) (.r 55)))), (.op (.pk (some 57) (.r 53) (.r 56) (.c (.bool false)))), (.op (.p (some 58) (.mov (.r 57)))), (.gd 58 true (some 59) (.p (some 59) (.mov (.r 1)))), (.gd 58 true (some 60) (.call (some 60) 74 [(.r 59)])), (.gd 58 true (some 61) (.call (some 61) 41 [(.r 60)])), (.gd 58 true (some 62) (.p (some 62) (.cmp .eql (.r 61) (.c (.int .i64 80))))), (.op (.pk (some 63) (.r 58) (.r 62) (.c (.bool false)))), (.op (.p (some 0) (.mov (.r 63))))] false) .ret)))))))), [(.t (.r 0))]⟩
theorem c25_eq : cF Tryz.prog Tryz.f25 = some c25 := by kernel_rfl
/-- solvent/solventlaw20.short -/
def c26 : Fun := ⟨38, (.seq (.ops [(.op (.bx (some 2) 31 (.r 0))), (.op (.p (some 4) (.mov (.c (.bool false)))))] false) (.seq (.seq (.ops [(.op (.ld (some 6) (some 6) (.r 2))), (.op (.call (some 7) 86 [(.r 6)])), (.op (.p (some 8) (.un .not (.r 7)))), (.op (.p (some 9) (.mov (.r 8)))), (.gd 9 false (some 10) (.p (some 10) (.mov (.r 1)))), (.gd 9 false (some 11) (.p (some 11) (.len (.r 10)))), (.gd 9 false (some 12) (.p (some 12) (.cmp .gtr (.r 11) (.c (.int .i64 50))))), (.op (.pk (some 13) (.r 9) (.c (.bool true)) (.r 12)))] false) (.ite (.r 13) (.seq (.ops [(.op (.p (some 4) (.mov (.c (.bool false)))))] false) .ret) .skip)) (.seq (.seq (.ops [(.op (.p (some 5) (.mov (.c (.int .i64 0)))))] false) (.blk 0 (.loop (.seq (.seq (.ops [(.op (.p (some 14) (.mov (.r 5)))), (.op (.p (some 15) (.mov (.r 1)))), (.op (.p (some 16) (.len (.r 15)))), (.op (.p (some 17) (.cmp .lss (.r 14) (.r 16))))] false) (.ite (.r 17) .skip (.exit 0))) (.seq (.blk 1 (.seq (.ops [(.op (.p (some 20) (.mov (.r 1)))), (.op (.p (some 21) (.mov (.r 5)))), (.op (.p (some 22) (.ixa 16 (.r 20) (.r 21)))), (.op (.p (some 23) (.fad (.r 22) 12))), (.op (.p (some 24) (.fad (.r 23) 3))), (.op (.ld (some 25) none (.r 24))), (.op (.p (some 26) (.lns (.r 25)))), (.op (.p (some 27) (.cmp .gtr (.r 26) (.c (.int .i64 600))))), (.op (.p (some 28) (.mov (.r 27)))), (.gd 28 false (some 29) (.p (some 29) (.mov (.r 1)))), (.gd 28 false (some 30) (.p (some 30) (.mov (.r 5)))), (.gd 28 false (some 31) (.p (some 31) (.ixa 16 (.r 29) (.r 30)))), (.gd 28 false (some 32) (.p (some 32) (.fad (.r 31) 12))), (.gd 28 false (some 33) (.p (some 33) (.fad (.r 32) 0))), (.gd 28 false (some 34) (.p (some 34) (.fad (.r 33) 0))), (.gd 28 false (some 35) (.ld (some 35) none (.r 34))), (.gd 28 false (some 36) (.p (some 36) (.cmp .geq (.r 35) (.c (.int .i64 1048576))))), (.op (.pk (some 37) (.r 28) (.c (.bool true)) (.r 36)))] false) (.ite (.r 37) (.seq (.ops [(.op (.p (some 4) (.mov (.c (.bool false)))))] false) .ret) .skip))) (.ops [(.op (.p (some 18) (.mov (.r 5)))), (.op (.ar (some 19) .add (.r 18) (.c (.int .i64 1)))), (.op (.p (some 5) (.mov (.r 19))))] false)))))) (.seq (.ops [(.op (.p (some 4) (.mov (.c (.bool true)))))] false) .ret)))), [(.t (.r 4))]⟩
theorem c26_eq : cF Tryz.prog Tryz.f26 = some c26 := by kernel_rfl
/-- solvent/solventlaw20.trailer -/
def c131 : Fun := ⟨20, (.seq (.ops [(.op (.p (some 2) (.mov (.c (.int .i64 0)))))] false) (.seq (.seq (.ops [(.op (.p (some 5) (.mov (.r 0)))), (.op (.p (some 6) (.lns (.r 5)))), (.op (.p (some 7) (.cmp .neq (.r 6) (.c (.int .i64 64)))))] false) (.ite (.r 7) (.seq (.ops [(.op (.p (some 2) (.mov (.c (.int .i64 0)))))] false) .ret) .skip)) (.seq (.ops [(.op (.p (some 3) (.mov (.c (.int .i64 0)))))] false) (.seq (.seq (.ops [(.op (.p (some 4) (.mov (.c (.int .i64 59)))))] false) (.blk 0 (.loop (.seq (.seq (.ops [(.op (.p (some 8) (.mov (.r 4)))), (.op (.p (some 9) (.cmp .geq (.r 8) (.c (.int .i64 56)))))] false) (.ite (.r 9) .skip (.exit 0))) (.seq (.blk 1 (.ops [(.op (.p (some 12) (.mov (.r 3)))), (.op (.ar (some 13) .mul (.r 12) (.c (.int .i64 256)))), (.op (.p (some 14) (.mov (.r 0)))), (.op (.p (some 15) (.mov (.r 4)))), (.op (.p (some 16) (.ixs (.r 14) (.r 15)))), (.op (.p (some 17) (.cvi .i64 (.r 16)))), (.op (.ar (some 18) .add (.r 13) (.r 17))), (.op (.p (some 3) (.mov (.r 18))))] false)) (.ops [(.op (.p (some 10) (.mov (.r 4)))), (.op (.ar (some 11) .sub (.r 10) (.c (.int .i64 1)))), (.op (.p (some 4) (.mov (.r 11))))] false)))))) (.seq (.ops [(.op (.p (some 19) (.mov (.r 3)))), (.op (.p (some 2) (.mov (.r 19))))] false) .ret))))), [(.t (.r 2))]⟩
theorem c131_eq : cF Tryz.prog Tryz.f131 = some c131 := by kernel_rfl
end Go.Proofs.YtjnogknjdjphaaaGreat

/-
  Memory as a list of blocks that a piece of code holds, beside all that it does not touch; the rules by which a walk goes on.
-/
namespace Dn
open Go

/-- What is not touched: the streams, the tape, the other blocks. -/
structure Fr where
  os : Os
  tape : Nat → Question → Nat
  out : Array (Nat × ByteArray)
  h : Nat → Option Obj

def look (L : List (Nat × Obj)) (b : Nat) : Option Obj :=
  match L with
  | [] => none
  | (a, o) :: L => if a = b then some o else look L b

def Fr.add (F : Fr) (L : List (Nat × Obj)) : Fr := { F with h := fun b => match look L b with | some o => some o | none => F.h b }

structure Sep (w : World) (L : List (Nat × Obj)) (F : Fr) : Prop where
  os : w.os = F.os
  tape : w.tape = F.tape
  out : w.output = F.out
  nd : (L.map (·.1)).Nodup
  at_ : ∀ b o, (b, o) ∈ L → w.heap[b]? = some o
  fr : ∀ b o, F.h b = some o → w.heap[b]? = some o
  ap : ∀ b o, (b, o) ∈ L → F.h b = none

theorem look_mem {L : List (Nat × Obj)} (hnd : (L.map (·.1)).Nodup) {b : Nat} {o : Obj} : look L b = some o ↔ (b, o) ∈ L := by
  induction L with
  | nil => simp [look]
  | cons x L ih =>
    obtain ⟨a, p⟩ := x
    simp only [List.map_cons, List.nodup_cons] at hnd
    simp only [look]
    by_cases e : a = b
    · subst e
      simp only [if_true, List.mem_cons, Prod.mk.injEq, true_and, Option.some.injEq]
      constructor
      · intro h; exact .inl h.symm
      · rintro (h | h)
        · exact h.symm
        · exact absurd (List.mem_map.2 ⟨_, h, rfl⟩) hnd.1
    · rw [if_neg e, ih hnd.2]
      simp only [List.mem_cons, Prod.mk.injEq]
      constructor
      · intro h; exact .inr h
      · rintro (h | h)
        · exact absurd h.1.symm e
        · exact h

theorem look_none {L : List (Nat × Obj)} {b : Nat} : look L b = none ↔ b ∉ L.map (·.1) := by
  induction L with
  | nil => simp [look]
  | cons x L ih =>
    obtain ⟨a, p⟩ := x
    simp only [look, List.map_cons, List.mem_cons]
    by_cases e : a = b
    · subst e; simp
    · have e' : ¬ b = a := fun h => e h.symm
      rw [if_neg e, ih]; simp [e']

variable {P : Program} {m : Nat} {w : World} {L L1 L2 : List (Nat × Obj)} {F : Fr} {T : Rg}

theorem Sep.perm (S : Sep w L F) (hp : L.Perm L1) : Sep w L1 F :=
  ⟨S.os, S.tape, S.out, (hp.map _).nodup_iff.1 S.nd, fun b o h => S.at_ b o (hp.mem_iff.2 h), S.fr, fun b o h => S.ap b o (hp.mem_iff.2 h)⟩
theorem Sep.tail (S : Sep w (L2 ++ L1) F) : Sep w L1 (F.add L2) := by
  have hnd := S.nd
  rw [List.map_append, List.nodup_append] at hnd
  refine ⟨S.os, S.tape, S.out, hnd.2.1, fun b o h => S.at_ b o (List.mem_append_right _ h), fun b o h => ?_, fun b o h => ?_⟩
  · simp only [Fr.add] at h
    split at h
    · rename_i o' hl
      injection h with h; subst h
      exact S.at_ b _ (List.mem_append_left _ ((look_mem hnd.1).1 hl))
    · exact S.fr b o h
  · simp only [Fr.add]
    have : look L2 b = none := by
      rw [look_none]
      intro hh
      exact hnd.2.2 b hh b (List.mem_map.2 ⟨_, h, rfl⟩) rfl
    rw [this]
    exact S.ap b o (List.mem_append_right _ h)
theorem Sep.join {w' : World} {L' : List (Nat × Obj)} (S' : Sep w' L' (F.add L2)) (S : Sep w (L2 ++ L1) F) : Sep w' (L2 ++ L') F := by
  have hnd := S.nd
  rw [List.map_append, List.nodup_append] at hnd
  have hF : ∀ b o, (b, o) ∈ L2 → (F.add L2).h b = some o := by
    intro b o h
    simp only [Fr.add, (look_mem hnd.1).2 h]
  refine ⟨S'.os, S'.tape, S'.out, ?_, ?_, ?_, ?_⟩
  · rw [List.map_append, List.nodup_append]
    refine ⟨hnd.1, S'.nd, fun a ha b hb e => ?_⟩
    subst e
    obtain ⟨⟨x, o⟩, hx, rfl⟩ := List.mem_map.1 ha
    obtain ⟨⟨y, o'⟩, hy, he⟩ := List.mem_map.1 hb
    simp only at he; subst he
    have := S'.ap _ _ hy
    rw [hF _ _ hx] at this
    simp at this
  · intro b o h
    rcases List.mem_append.1 h with h | h
    · exact S'.fr b o (hF b o h)
    · exact S'.at_ b o h
  · intro b o h
    refine S'.fr b o ?_
    simp only [Fr.add]
    have : look L2 b = none := by
      rw [look_none]
      intro hh
      obtain ⟨⟨x, o'⟩, hx, rfl⟩ := List.mem_map.1 hh
      have := S.ap _ _ (List.mem_append_left _ hx)
      rw [this] at h; simp at h
    rw [this]; exact h
  · intro b o h
    rcases List.mem_append.1 h with h | h
    · exact S.ap b o (List.mem_append_left _ h)
    · have := S'.ap b o h
      simp only [Fr.add] at this
      split at this
      · simp at this
      · exact this

theorem Sep.drop (S : Sep w (L2 ++ L1) F) : Sep w L1 F :=
  ⟨S.os, S.tape, S.out, by have := S.nd; rw [List.map_append, List.nodup_append] at this; exact this.2.1, fun b o h => S.at_ b o (List.mem_append_right _ h), S.fr, fun b o h => S.ap b o (List.mem_append_right _ h)⟩
theorem Sep.drew (S : Sep w L F) : Sep w.drew L F := ⟨S.os, S.tape, S.out, S.nd, S.at_, S.fr, S.ap⟩
theorem Sep.lt (S : Sep w L F) {b : Nat} {o : Obj} (h : (b, o) ∈ L) : b < w.heap.size := (Array.getElem?_eq_some_iff.1 (S.at_ b o h)).1
theorem Sep.alloc (S : Sep w L F) (o : Obj) : Sep (w.alloc o) ((w.heap.size, o) :: L) F := by
  have hold : ∀ (b : Nat) (p : Obj), w.heap[b]? = some p → (w.alloc o).heap[b]? = some p := by
    intro b p h
    have hlt := (Array.getElem?_eq_some_iff.1 h).1
    unfold World.alloc; simp only [Array.getElem?_push]; rw [if_neg (by omega)]; exact h
  refine ⟨S.os, S.tape, S.out, ?_, ?_, fun b p h => hold b p (S.fr b p h), ?_⟩
  · rw [List.map_cons, List.nodup_cons]
    refine ⟨fun h => ?_, S.nd⟩
    obtain ⟨⟨x, p⟩, hx, he⟩ := List.mem_map.1 h
    simp only at he; subst he
    exact Nat.lt_irrefl _ (S.lt hx)
  · intro b p h
    rcases List.mem_cons.1 h with h | h
    · injection h with h1 h2; subst h1; subst h2
      unfold World.alloc; simp
    · exact hold b p (S.at_ b p h)
  · intro b p h
    rcases List.mem_cons.1 h with h | h
    · injection h with h1 h2; subst h1
      cases hF : F.h w.heap.size with
      | none => rfl
      | some q =>
        have := (Array.getElem?_eq_some_iff.1 (S.fr _ _ hF)).1
        exact absurd this (Nat.lt_irrefl _)
    · exact S.ap b p h
theorem Sep.mem {i : Nat} {x : Nat × Obj} (h : L[i]? = some x) : x ∈ L := List.mem_of_getElem? h
theorem Sep.put (S : Sep w L F) (i : Nat) {b : Nat} {o : Obj} (h : L[i]? = some (b, o)) (o' : Obj) : Sep (w.putObj b o') (L.set i (b, o')) F := by
  have hlt : i < L.length := by rcases Nat.lt_or_ge i L.length with h' | h'
                                · exact h'
                                · rw [List.getElem?_eq_none h'] at h; simp at h
  have hb := S.lt (Sep.mem h)
  have hk : (L.set i (b, o')).map (·.1) = L.map (·.1) := by
    rw [List.map_set]
    have : (L.map (·.1))[i]? = some b := by rw [List.getElem?_map, h]; rfl
    apply List.ext_getElem?
    intro j
    rw [List.getElem?_set]
    split
    · rename_i e; subst e; rw [if_pos (by simpa using hlt), this]
    · rfl
  have hother : ∀ c p, c ≠ b → w.heap[c]? = some p → (w.putObj b o').heap[c]? = some p := by
    intro c p hne hh
    rw [World.putObj_heap_other hne]; exact hh
  have hmem : ∀ c p, (c, p) ∈ L.set i (b, o') → (c = b ∧ p = o') ∨ ((c, p) ∈ L ∧ c ≠ b) := by
    intro c p hm
    obtain ⟨j, hj, hje⟩ := List.mem_iff_getElem.1 hm
    rw [List.getElem_set] at hje
    split at hje
    · injection hje with h1 h2; exact .inl ⟨h1.symm, h2.symm⟩
    · rename_i hne
      have hj' : j < L.length := by simpa using hj
      right
      refine ⟨List.mem_iff_getElem.2 ⟨j, hj', hje⟩, fun e => ?_⟩
      subst e
      have h1 : (L.map (·.1))[i]'(by simpa using hlt) = c := by
        have : L[i]? = some L[i] := List.getElem?_eq_getElem hlt
        rw [h] at this; injection this with this
        simp [← this]
      have h2 : (L.map (·.1))[j]'(by simpa using hj') = c := by simp [hje]
      exact hne ((List.getElem_inj S.nd).1 (h1.trans h2.symm))
  refine ⟨S.os, S.tape, S.out, by rw [hk]; exact S.nd, fun c p hm => ?_, fun c p hf => ?_, fun c p hm => ?_⟩
  · rcases hmem c p hm with ⟨rfl, rfl⟩ | ⟨h1, h2⟩
    · exact World.putObj_heap_same hb
    · exact hother c p h2 (S.at_ c p h1)
  · refine hother c p (fun e => ?_) (S.fr c p hf)
    subst e
    have := S.ap _ _ (Sep.mem h)
    rw [this] at hf; simp at hf
  · rcases hmem c p hm with ⟨rfl, rfl⟩ | ⟨h1, h2⟩
    · exact S.ap _ _ (Sep.mem h)
    · exact S.ap c p h1

/-- The i-th block put first. -/
theorem Sep.mv (S : Sep w L F) (i : Nat) {x : Nat × Obj} (h : L[i]? = some x) : Sep w (x :: L.eraseIdx i) F := by
  refine S.perm ?_
  have hlt : i < L.length := by rcases Nat.lt_or_ge i L.length with h' | h'
                                · exact h'
                                · rw [List.getElem?_eq_none h'] at h; simp at h
  have hx : L[i] = x := by rw [List.getElem?_eq_getElem hlt] at h; exact Option.some.inj h
  subst hx
  rw [List.eraseIdx_eq_take_drop_succ]
  have : L = L.take i ++ L[i] :: L.drop (i + 1) := by rw [List.getElem_cons_drop]; simp
  conv => lhs; rw [this]
  exact List.perm_middle

/-! ### The rules -/

section rules
variable {K : Ex → Rg → World → Prop} {N : Rg → World → Prop} {a b : Cd} {l : List Ins} {d : Option Nat}

theorem s_seq (h : Ev P m a (thenK (Ev P m b K) K) T w) : Ev P m (.seq a b) K T w := h
theorem s_ops (h : Evs P l (K .n) T w) : Ev P m (.ops l false) K T w := h
theorem s_opsd (h : Evs P l (K .n) T w.drew) : Ev P m (.ops l true) K T w := h
theorem s_skip (h : K .n T w) : Ev P m .skip K T w := h
theorem s_blk {id : Nat} (h : Ev P m a (blkK id K) T w) : Ev P m (.blk id a) K T w := h
theorem s_exit {id : Nat} (h : K (.x id) T w) : Ev P m (.exit id) K T w := h
theorem s_ret (h : K .r T w) : Ev P m .ret K T w := h
theorem e_nil (h : N T w) : Evs P [] N T w := h
theorem k_then (h : Ev P m b K T w) : thenK (Ev P m b K) K .n T w := h
theorem k_thx {id : Nat} (h : K (.x id) T w) : thenK N K (.x id) T w := h
theorem k_thr (h : K .r T w) : thenK N K .r T w := h
theorem k_bln {id : Nat} (h : K .n T w) : blkK id K .n T w := h
theorem k_blr {id : Nat} (h : K .r T w) : blkK id K .r T w := h
theorem k_blx {id : Nat} (h : K .n T w) : blkK id K (.x id) T w := by simpa [blkK] using h
theorem k_bly {i id : Nat} (e : Nat.beq i id = false) (h : K (.x i) T w) : blkK id K (.x i) T w := by simpa [blkK, e] using h
theorem f_ret {res : List RV} {Q : Value → World → Prop} {vs : List Value} (hd : T.ds = []) (hv : rvsV T w res = some vs) (h : Q (tup vs) w) : finK res Q .r T w := by
  show leaveDs _ T.ds w
  rw [hd]; exact ⟨vs, hv, h⟩
theorem f_end {res : List RV} {Q : Value → World → Prop} {vs : List Value} (hd : T.ds = []) (hv : rvsV T w res = some vs) (h : Q (tup vs) w) : finK res Q .n T w := by
  show leaveDs _ T.ds w
  rw [hd]; exact ⟨vs, hv, h⟩

theorem s_iteT {c : X} (hc : T.ev c = .bool true) (h : Ev P m a K T w) : Ev P m (.ite c a b) K T w := ⟨true, hc, fun _ => h, fun e => by simp at e⟩
theorem s_iteF {c : X} (hc : T.ev c = .bool false) (h : Ev P m b K T w) : Ev P m (.ite c a b) K T w := ⟨false, hc, fun e => by simp at e, fun _ => h⟩
theorem s_ite {c : X} {t : Bool} (hc : T.ev c = .bool t) (h1 : t = true → Ev P m a K T w) (h2 : t = false → Ev P m b K T w) : Ev P m (.ite c a b) K T w := ⟨t, hc, h1, h2⟩
theorem s_iteD {c : X} {p : Prop} [Decidable p] (hc : T.ev c = .bool (decide p)) (h1 : p → Ev P m a K T w) (h2 : ¬ p → Ev P m b K T w) : Ev P m (.ite c a b) K T w :=
  ⟨_, hc, fun e => h1 (of_decide_eq_true e), fun e => h2 (of_decide_eq_false e)⟩

theorem e_p {e : PE} {v : Value} (hv : e.ev T = some v) (h : Evs P l N (updO T d v) w) : Evs P (.op (.p d e) :: l) N T w := ⟨v, hv, h⟩
theorem e_pkT {c x y : X} (hc : T.ev c = .bool true) (h : Evs P l N (updO T d (T.ev x)) w) : Evs P (.op (.pk d c x y) :: l) N T w := ⟨true, hc, h⟩
theorem e_pkF {c x y : X} (hc : T.ev c = .bool false) (h : Evs P l N (updO T d (T.ev y)) w) : Evs P (.op (.pk d c x y) :: l) N T w := ⟨false, hc, h⟩
theorem e_ar {op : BinOp} {x y : X} {v : Value} (hv : arV op (T.ev x) (T.ev y) = some v) (h : Evs P l N (updO T d v) w) : Evs P (.op (.ar d op x y) :: l) N T w := ⟨v, hv, h⟩
theorem e_ld {n : Option Nat} {x : X} {v : Value} (hv : ldV n (T.ev x) w = some v) (h : Evs P l N (updO T d v) w) : Evs P (.op (.ld d n x) :: l) N T w := ⟨v, hv, h⟩
theorem e_b2s {x : X} {v : Value} (hv : b2sV (T.ev x) w = some v) (h : Evs P l N (updO T d v) w) : Evs P (.op (.b2s d x) :: l) N T w := ⟨v, hv, h⟩
theorem e_gdT {r : Nat} {t : Bool} {o : Bop} (hc : T.f r = .bool t) (h : Evs P (.op o :: l) N T w) : Evs P (.gd r t d o :: l) N T w := ⟨t, by rw [hc]; rfl, fun _ => h, fun e => by cases t <;> simp at e⟩
theorem e_gdF {r : Nat} {t : Bool} {o : Bop} (hc : T.f r = .bool (!t)) (h : Evs P l N (updO T d undef) w) : Evs P (.gd r t d o :: l) N T w := ⟨!t, by rw [hc]; rfl, fun e => by cases t <;> simp at e, fun _ => h⟩
/-- A guard that was left out itself. -/
theorem e_gdU {r : Nat} {t : Bool} {o : Bop} (hc : T.f r = undef) (h : Evs P l N (updO T d undef) w) : Evs P (.gd r t d o :: l) N T w := ⟨!t, by rw [hc]; rfl, fun e => by cases t <;> simp at e, fun _ => h⟩
theorem upd_same (T : Rg) (r : Nat) : upd T r (T.f r) = T := by
  unfold upd
  congr 1
  funext i
  cases h : Nat.beq i r with
  | false => rfl
  | true => have := Nat.eq_of_beq_eq_true h; subst this; rfl
/-- A guard that is not known: the two ways. -/
theorem e_br {r : Nat} {t c : Bool} {o : Bop} (hc : T.f r = .bool c) (h1 : c = t → Evs P (.gd r t d o :: l) N (upd T r (.bool t)) w) (h2 : c = !t → Evs P (.gd r t d o :: l) N (upd T r (.bool (!t))) w) : Evs P (.gd r t d o :: l) N T w := by
  have hs := upd_same T r
  by_cases e : c = t
  · have e2 : upd T r (.bool t) = T := by rw [← e, ← hc]; exact hs
    have := h1 e; rw [e2] at this; exact this
  · have e' : c = !t := by cases c <;> cases t <;> simp_all
    have e2 : upd T r (.bool (!t)) = T := by rw [← e', ← hc]; exact hs
    have := h2 e'; rw [e2] at this; exact this
theorem e_brD {r : Nat} {t : Bool} {p : Prop} [Decidable p] {o : Bop} (hc : T.f r = .bool (decide p)) (h1 : p → Evs P (.gd r t d o :: l) N (upd T r (.bool true)) w) (h2 : ¬ p → Evs P (.gd r t d o :: l) N (upd T r (.bool false)) w) : Evs P (.gd r t d o :: l) N T w := by
  have hs := upd_same T r
  by_cases e : p
  · have e2 : upd T r (.bool true) = T := by rw [← decide_eq_true e, ← hc]; exact hs
    have := h1 e; rw [e2] at this; exact this
  · have e2 : upd T r (.bool false) = T := by rw [← decide_eq_false e, ← hc]; exact hs
    have := h2 e; rw [e2] at this; exact this
/-! memory -/
theorem Sep.cell (S : Sep w L F) (i : Nat) {b off ty : Nat} {cs : List Value} {fr : Nat × Nat} {v : Value} (h : L[i]? = some (b, .cells ⟨cs⟩ ty fr)) (hv : cs[off]? = some v) : ldV none (.pointer (some ⟨b, off, none⟩)) w = some v := by
  have := S.at_ _ _ (Sep.mem h)
  simp [ldV, World.cell?, this, hv]
theorem Sep.row (S : Sep w L F) (i : Nat) {b off ty n : Nat} {cs : List Value} {fr : Nat × Nat} {vs : List Value} (h : L[i]? = some (b, .cells ⟨cs⟩ ty fr)) (hn : off + n ≤ cs.length) (hv : (cs.drop off).take n = vs) :
    ldV (some n) (.pointer (some ⟨b, off, none⟩)) w = some (.agg ⟨vs⟩) := by
  have := S.at_ _ _ (Sep.mem h)
  simp [ldV, rowOf, this, hn, hv]
theorem Sep.fcell (S : Sep w L F) {b off ty : Nat} {cs : List Value} {fr : Nat × Nat} {v : Value} (h : F.h b = some (.cells ⟨cs⟩ ty fr)) (hv : cs[off]? = some v) : ldV none (.pointer (some ⟨b, off, none⟩)) w = some v := by
  have := S.fr _ _ h
  simp [ldV, World.cell?, this, hv]

theorem e_bx {t : TypeId} {x : X} {cs : List Value} (S : Sep w L F) (hv : (T.ev x).cells = ⟨cs⟩) (h : ∀ b w', Sep w' ((b, .cells ⟨cs⟩ t) :: L) F → Evs P l N (updO T d (.pointer (some ⟨b, 0, none⟩))) w') : Evs P (.op (.bx d t x) :: l) N T w := by
  have := h w.heap.size _ (S.alloc (.cells ⟨cs⟩ t))
  rw [← hv] at this
  exact this
theorem e_nw {t : TypeId} {cs : List Value} (S : Sep w L F) (h : ∀ b w', Sep w' ((b, .cells ⟨cs⟩ t) :: L) F → Evs P l N (updO T d (.pointer (some ⟨b, 0, none⟩))) w') : Evs P (.op (.nw d t cs) :: l) N T w :=
  h w.heap.size _ (S.alloc (.cells ⟨cs⟩ t))
theorem e_s2b {e : TypeId} {x : X} {s : ByteArray} (S : Sep w L F) (hx : T.ev x = .string s)
    (h : ∀ b cap w', s.size ≤ cap → Sep w' ((b, .cells ⟨byteCells s ++ List.replicate (cap - s.size) (.int .u8 0)⟩ e (cap, cap + 1)) :: L) F → Evs P l N (updO T d (.slice (some ⟨b, 0, none⟩) s.size cap)) w') : Evs P (.op (.s2b d e x) :: l) N T w :=
  ⟨s, hx, fun cap hc => h w.heap.size cap _ hc (S.drew.alloc _)⟩
/-- A store into the i-th block. -/
theorem e_st {n : Nat} {x y : X} (S : Sep w L F) (i : Nat) {b off ty : Nat} {cs vs : List Value} (hx : T.ev x = .pointer (some ⟨b, off, none⟩)) (hL : L[i]? = some (b, .cells ⟨cs⟩ ty)) (hy : (T.ev y).cells = ⟨vs⟩) (hn : vs.length = n)
    (hf : ∀ v ∈ vs, Value.flat v = true) (hl : off + n ≤ cs.length) (h : ∀ w', Sep w' (L.set i (b, .cells ⟨putAt cs off vs⟩ ty)) F → Evs P l N (updO T d undef) w') : Evs P (.op (.st d n x y) :: l) N T w := by
  have hb := S.at_ _ _ (Sep.mem hL)
  refine ⟨b, off, cs, ty, 0, 0, hx, hb, by rw [hy]; exact hn, by rw [hy]; exact hf, hl, fun i _ _ hh => by omega, ?_⟩
  rw [hy]
  exact h _ (S.put i hL _)

/-! calls -/

/-- What a call does with the blocks that it is given. -/
def DSpec (P : Program) (f : FuncId) (args : List Value) (L : List (Nat × Obj)) (post : Value → List (Nat × Obj) → Prop) : Prop :=
  ∀ w F, Sep w L F → CallTo P f args w fun v w' => ∃ L', post v L' ∧ Sep w' L' F

theorem DSpec.mono {f : FuncId} {args : List Value} {post post' : Value → List (Nat × Obj) → Prop} (h : DSpec P f args L post) (hp : ∀ v L', post v L' → post' v L') : DSpec P f args L post' :=
  fun w F S => (h w F S).mono fun v w' ⟨L', h1, h2⟩ => ⟨L', hp _ _ h1, h2⟩

theorem e_call {f : FuncId} {args : List X} {vs : List Value} {post : Value → List (Nat × Obj) → Prop} (ha : T.evs args = vs) (hf : DSpec P f vs L1 post) (S : Sep w (L2 ++ L1) F)
    (h : ∀ v L' w', post v L' → Sep w' (L2 ++ L') F → Evs P l N (updO T d v) w') : Evs P (.op (.call d f args) :: l) N T w := by
  show CallTo P f (T.evs args) w _
  rw [ha]
  exact (hf w (F.add L2) S.tail).mono fun v w' ⟨L', hp, S'⟩ => h v L' w' hp (S'.join S)

theorem e_cf {x : X} {args : List X} {f : FuncId} {fs cs vs : List Value} {post : Value → List (Nat × Obj) → Prop} (hx : T.ev x = .func (.func f) ⟨fs⟩ ⟨cs⟩) (hc : callable P f = true) (ha : fs ++ T.evs args ++ cs = vs) (hf : DSpec P f vs L1 post) (S : Sep w (L2 ++ L1) F)
    (h : ∀ v L' w', post v L' → Sep w' (L2 ++ L') F → Evs P l N (updO T d v) w') : Evs P (.op (.cf d x args) :: l) N T w := by
  refine .inl ⟨f, fs, cs, hx, hc, ?_⟩
  rw [ha]
  exact (hf w (F.add L2) S.tail).mono fun v w' ⟨L', hp, S'⟩ => h v L' w' hp (S'.join S)

/-- A function's contract, out of its compiled body. -/
theorem spec_of {f : FuncId} {fn : Func} {Fn : Fun} {mm : Nat} {body : Cd} {res : List RV} {args : List Value} {post : Value → List (Nat × Obj) → Prop} (hmix : P.follows .mixedOrders = true) (hf : P.funcs[f]? = some fn) (hc : cF P fn = some Fn) (hF : Fn = ⟨mm, body, res⟩) (hn : Nat.ble args.length mm = true)
    (h : ∀ w F (Q : Value → World → Prop), Sep w L F → (∀ v w' L', post v L' → Sep w' L' F → Q v w') → Ev P mm body (finK res Q) (T0 args) w) : DSpec P f args L post := by
  subst hF
  exact fun w F S => enter hmix hf hc (Nat.le_of_ble_eq_true hn) (h w F _ S fun v w' L' hp S' => ⟨L', hp, S'⟩)

/-! a move, the value written out -/
theorem e_mvI {x : X} {k : IntKind} {n : Int} (hv : T.ev x = .int k n) (h : Evs P l N (updO T d (.int k n)) w) : Evs P (.op (.p d (.mov x)) :: l) N T w := ⟨_, congrArg some hv, h⟩
theorem e_mvB {x : X} {b : Bool} (hv : T.ev x = .bool b) (h : Evs P l N (updO T d (.bool b)) w) : Evs P (.op (.p d (.mov x)) :: l) N T w := ⟨_, congrArg some hv, h⟩
theorem e_mvP {x : X} {a : Option Addr} (hv : T.ev x = .pointer a) (h : Evs P l N (updO T d (.pointer a)) w) : Evs P (.op (.p d (.mov x)) :: l) N T w := ⟨_, congrArg some hv, h⟩
theorem e_mvL {x : X} {a : Option Addr} {n c : Nat} (hv : T.ev x = .slice a n c) (h : Evs P l N (updO T d (.slice a n c)) w) : Evs P (.op (.p d (.mov x)) :: l) N T w := ⟨_, congrArg some hv, h⟩
theorem e_mvS {x : X} {s : ByteArray} (hv : T.ev x = .string s) (h : Evs P l N (updO T d (.string s)) w) : Evs P (.op (.p d (.mov x)) :: l) N T w := ⟨_, congrArg some hv, h⟩
theorem e_mvT {x : X} {c : Array Value} (hv : T.ev x = .tuple c) (h : Evs P l N (updO T d (.tuple c)) w) : Evs P (.op (.p d (.mov x)) :: l) N T w := ⟨_, congrArg some hv, h⟩
theorem e_mvM {x : X} {r : Option Nat} (hv : T.ev x = .map r) (h : Evs P l N (updO T d (.map r)) w) : Evs P (.op (.p d (.mov x)) :: l) N T w := ⟨_, congrArg some hv, h⟩
theorem e_pkTB {c x y : X} {b : Bool} (hc : T.ev c = .bool true) (hv : T.ev x = .bool b) (h : Evs P l N (updO T d (.bool b)) w) : Evs P (.op (.pk d c x y) :: l) N T w := e_pkT hc (by rw [hv]; exact h)
theorem e_pkFB {c x y : X} {b : Bool} (hc : T.ev c = .bool false) (hv : T.ev y = .bool b) (h : Evs P l N (updO T d (.bool b)) w) : Evs P (.op (.pk d c x y) :: l) N T w := e_pkF hc (by rw [hv]; exact h)
theorem e_bl2 {z : List Value} {ps : List (Nat × Nat × X)} {a b : Value} (hv : (PE.bld z ps).ev T = some (.agg ⟨[a, b]⟩)) (h : Evs P l N (updO T d (.agg ⟨[a, b]⟩)) w) : Evs P (.op (.p d (.bld z ps)) :: l) N T w := ⟨_, hv, h⟩
theorem e_bl3 {z : List Value} {ps : List (Nat × Nat × X)} {a b c : Value} (hv : (PE.bld z ps).ev T = some (.agg ⟨[a, b, c]⟩)) (h : Evs P l N (updO T d (.agg ⟨[a, b, c]⟩)) w) : Evs P (.op (.p d (.bld z ps)) :: l) N T w := ⟨_, hv, h⟩
end rules

end Dn

/-
  Rules for maps with int keys, for append, make and the like.
-/
namespace Dn
open Go

variable {P : Program} {m : Nat} {w : World} {L L1 L2 : List (Nat × Obj)} {F : Fr} {T : Rg} {N : Rg → World → Prop} {l : List Ins} {d : Option Nat} {ty : TypeId}

theorem e_raw {o : Op} {v : Value} {w' : World} (hr : (rawSem T o ty).run P w = .ok (.value v) w') (h : Evs P l N (updO T d v) w') : Evs P (.op (.raw d o ty) :: l) N T w := ⟨w', .inl ⟨v, hr, h⟩⟩
theorem e_rawS {o : Op} {w' : World} (hr : (rawSem T o ty).run P w = .ok .skip w') (h : Evs P l N (updO T d undef) w') : Evs P (.op (.raw d o ty) :: l) N T w := ⟨w', .inr ⟨hr, h⟩⟩

/-! ### maps with int keys -/

/-- A map: its entries (key, element, birth) and its clock. -/
structure GM (α : Type) where
  es : List (Int × α × Nat)
  clock : Nat

namespace GM
variable {α : Type}
def entry (enc : α → Value) (e : Int × α × Nat) : MapEntry := { key := .int .i64 e.1, val := enc e.2.1, born := e.2.2 }
def obj (enc : α → Value) (g : GM α) : Obj := .map ⟨g.es.map (entry enc)⟩ g.clock
def find (k : Int) : List (Int × α × Nat) → Option α
  | [] => none
  | e :: l => if k = e.1 then some e.2.1 else find k l
def get (g : GM α) (k : Int) : Option α := find k g.es
def upd (k : Int) (v : α) : List (Int × α × Nat) → Option (List (Int × α × Nat))
  | [] => none
  | e :: l => if k = e.1 then some ((k, v, e.2.2) :: l) else (upd k v l).map (e :: ·)
def set (g : GM α) (k : Int) (v : α) : GM α :=
  match upd k v g.es with
  | some es => ⟨es, g.clock⟩
  | none => ⟨g.es ++ [(k, v, g.clock)], g.clock + 1⟩
def del1 (k : Int) : List (Int × α × Nat) → List (Int × α × Nat)
  | [] => []
  | e :: l => if k = e.1 then l else e :: del1 k l
def del (g : GM α) (k : Int) : GM α := ⟨del1 k g.es, g.clock⟩
def clear (g : GM α) : GM α := ⟨[], g.clock⟩
end GM

variable {α : Type} {enc : α → Value}

theorem findNow_gm (k : Int) : ∀ (es : List (Int × α × Nat)) (i : Nat), Instr.findNow (.int .i64) (.int .i64 k) (es.map (GM.entry enc)) i = some (match es.findIdx? (fun e => k = e.1) with | some j => some (i + j, match (GM.find k es) with | some v => enc v | none => undef) | none => none) := by
  intro es
  induction es with
  | nil => intro i; rfl
  | cons e es ih =>
    intro i
    simp only [List.map_cons, Instr.findNow, GM.entry, Instr.sameNow, if_true]
    by_cases h : k = e.1
    · simp [h, List.findIdx?_cons, GM.find]
    · have h' : (k == e.1) = false := by simpa using h
      rw [h']
      simp only [ih]
      simp only [List.findIdx?_cons, h, decide_false, Bool.false_eq_true, if_false, GM.find]
      cases hf : List.findIdx? (fun e => decide (k = e.1)) es with
      | none => rfl
      | some j => simp only [Option.map_some, Option.some.injEq, Prod.mk.injEq, and_true]; omega

theorem find_idx (k : Int) : ∀ (es : List (Int × α × Nat)), (es.findIdx? (fun e => k = e.1)).isSome = (GM.find k es).isSome := by
  intro es
  induction es with
  | nil => rfl
  | cons e es ih =>
    simp only [List.findIdx?_cons, GM.find]
    by_cases h : k = e.1
    · simp [h]
    · simp [h, ih]

theorem checkKey_intN (n : Nat) {b : Bool} {t : TypeId} {k : Int} (ht : P.underlying t = some (.int .i64)) : (Instr.checkKey b (n + 1) t (.int .i64 k)).run P w = .ok () w := by
  simp only [Instr.checkKey, Sem.run_bind, run_und ht, Result.andThen_ok, Sem.run_pure]
theorem checkKey_int {b : Bool} {t : TypeId} {k : Int} (ht : P.underlying t = some (.int .i64)) : (Instr.checkKey b 10000 t (.int .i64 k)).run P w = .ok () w := checkKey_intN 9999 ht

theorem findKey_gm {t : TypeId} {k : Int} {es : List (Int × α × Nat)} (ht : P.underlying t = some (.int .i64)) :
    (Instr.findKey t (.int .i64 k) (es.map (GM.entry enc))).run P w = .ok (match es.findIdx? (fun e => k = e.1) with | some j => some (j, match (GM.find k es) with | some v => enc v | none => undef) | none => none) w := by
  simp only [Instr.findKey, Sem.run_bind, run_und ht, Result.andThen_ok, findNow_gm, Nat.zero_add, Sem.run_pure]

theorem getObj_run {P : Program} {w : World} {r : Nat} {o : Obj} (h : w.heap[r]? = some o) (hc : ∀ c t f, o ≠ .cells c t f) : (getObj r).run P w = .ok o w := by
  unfold getObj
  cases o <;> first | exact absurd rfl (hc _ _ _) | simp only [Sem.run, h]
theorem setObj_run {P : Program} {w : World} {r : Nat} {o o' : Obj} (h : w.heap[r]? = some o) (hc : ∀ c t f, o ≠ .cells c t f) : (setObj r o').run P w = .ok () (w.putObj r o') := by
  unfold setObj
  cases o <;> first | exact absurd rfl (hc _ _ _) | simp only [Sem.run, h, World.putObj]

theorem e_lookT {t kt et : TypeId} {x y : Operand} {r : Nat} {k : Int} {g : GM α} {v : α} (S : Sep w L F) (i : Nat) (hx : T.evR x = .map (some r)) (hy : T.evR y = .int .i64 k) (hL : L[i]? = some (r, g.obj enc))
    (ht : P.underlying t = some (.map kt et)) (hk : P.underlying kt = some (.int .i64)) (hg : g.get k = some v) (h : Evs P l N (updO T d (.tuple ⟨[enc v, .bool true]⟩)) w) : Evs P (.op (.raw d (.lookup t x y true) ty) :: l) N T w := by
  refine e_raw (w' := w) ?_ h
  have hb := S.at_ _ _ (Sep.mem hL)
  simp only [rawSem, execOp]
  refine pull ?_
  simp only [Instr.lookup, Sem.run_bind, run_und ht, Result.andThen_ok, hx, hy]
  rw [getObj_run hb (by intro c t f; simp [GM.obj])]
  simp only [GM.obj, Result.andThen_ok, Sem.run_bind, Sem.run_pure, checkKey_int hk, findKey_gm hk]
  have := find_idx k g.es
  unfold GM.get at hg
  rw [hg] at this
  cases hf : g.es.findIdx? (fun e => k = e.1) with
  | none => rw [hf] at this; simp at this
  | some j => simp [hg]

theorem e_lookF {t kt et : TypeId} {x y : Operand} {r : Nat} {k : Int} {g : GM α} {z : Value} (S : Sep w L F) (i : Nat) (hx : T.evR x = .map (some r)) (hy : T.evR y = .int .i64 k) (hL : L[i]? = some (r, g.obj enc))
    (ht : P.underlying t = some (.map kt et)) (hk : P.underlying kt = some (.int .i64)) (hz : (P.info? et).bind (·.zero) = some z) (hg : g.get k = none) (h : Evs P l N (updO T d (.tuple ⟨[z, .bool false]⟩)) w) : Evs P (.op (.raw d (.lookup t x y true) ty) :: l) N T w := by
  refine e_raw (w' := w) ?_ h
  have hb := S.at_ _ _ (Sep.mem hL)
  simp only [rawSem, execOp]
  refine pull ?_
  simp only [Instr.lookup, Sem.run_bind, run_und ht, Result.andThen_ok, hx, hy]
  rw [getObj_run hb (by intro c t f; simp [GM.obj])]
  simp only [GM.obj, Result.andThen_ok, Sem.run_bind, Sem.run_pure, checkKey_int hk, findKey_gm hk]
  have := find_idx k g.es
  unfold GM.get at hg
  rw [hg] at this
  cases hf : g.es.findIdx? (fun e => k = e.1) with
  | none => simp [run_zero hz]
  | some j => rw [hf] at this; simp at this

theorem upd_none {k : Int} {v : α} : ∀ {es : List (Int × α × Nat)}, es.findIdx? (fun e => k = e.1) = none → GM.upd k v es = none := by
  intro es
  induction es with
  | nil => intro _; rfl
  | cons e es ih =>
    intro h
    simp only [List.findIdx?_cons] at h
    by_cases hk : k = e.1
    · simp [hk] at h
    · simp only [hk, decide_false, Bool.false_eq_true, if_false, Option.map_eq_none_iff] at h
      simp [GM.upd, hk, ih h]
theorem upd_some {k : Int} {v : α} : ∀ {es : List (Int × α × Nat)} {j : Nat}, es.findIdx? (fun e => k = e.1) = some j →
    ∃ es', GM.upd k v es = some es' ∧ (⟨es.map (GM.entry enc)⟩ : Array MapEntry).modify j (fun e => { e with key := .int .i64 k, val := enc v }) = ⟨es'.map (GM.entry enc)⟩ ∧ ((es.map (GM.entry enc))[j]?).map (·.key) = some (.int .i64 k) := by
  intro es
  induction es with
  | nil => intro j h; simp at h
  | cons e es ih =>
    intro j h
    simp only [List.findIdx?_cons] at h
    by_cases hk : k = e.1
    · simp only [hk, decide_true, if_true, Option.some.injEq] at h
      subst h
      refine ⟨_, by simp [GM.upd, hk]; rfl, ?_, by simp [GM.entry, hk]⟩
      apply Array.ext'
      simp [GM.entry, hk]
    · simp only [hk, decide_false, Bool.false_eq_true, if_false, Option.map_eq_some_iff] at h
      obtain ⟨j', hj', rfl⟩ := h
      obtain ⟨es', h1, h2, h3⟩ := ih hj'
      refine ⟨e :: es', by simp [GM.upd, hk, h1], ?_, by simpa using h3⟩
      have h2' := congrArg Array.toList h2
      apply Array.ext'
      simp at h2' ⊢
      exact h2'

theorem e_mapup {t kt et : TypeId} {x y z : Operand} {r : Nat} {k : Int} {g : GM α} {v : α} (S : Sep w L F) (i : Nat) (hx : T.evR x = .map (some r)) (hy : T.evR y = .int .i64 k) (hL : L[i]? = some (r, g.obj enc)) (hz : T.evR z = enc v)
    (ht : P.underlying t = some (.map kt et)) (hk : P.underlying kt = some (.int .i64)) (h : ∀ w', Sep w' (L.set i (r, (g.set k v).obj enc)) F → Evs P l N (updO T d undef) w') : Evs P (.op (.raw d (.mapUpdate t x y z) ty) :: l) N T w := by
  refine e_rawS ?_ (h _ (S.put i hL _))
  have hb := S.at_ _ _ (Sep.mem hL)
  simp only [rawSem, execOp]
  have key : (Instr.mapUpdate t (T.evR x) (T.evR y) (T.evR z)).run P w = .ok () (w.putObj r ((g.set k v).obj enc)) := by
    simp only [Instr.mapUpdate, Sem.run_bind, run_und ht, Result.andThen_ok, hx, hy, hz]
    rw [getObj_run hb (by intro c t f; simp [GM.obj])]
    simp only [GM.obj, Result.andThen_ok, Sem.run_bind, Sem.run_pure, checkKey_int hk, findKey_gm hk]
    cases hf : g.es.findIdx? (fun e => k = e.1) with
    | none =>
      simp only [GM.set, upd_none hf]
      rw [setObj_run hb (by intro c t f; simp [GM.obj])]
      congr 2
      simp [GM.entry]
    | some j =>
      obtain ⟨es', h1, h2, h3⟩ := upd_some (enc := enc) (v := v) hf
      simp only [GM.set, h1]
      have hkt : (Instr.keyThatStays (.int .i64 k) (.int .i64 k)).run P w = .ok (.int .i64 k) w := by
        simp [Instr.keyThatStays, Instr.sameBits]
      have e3 : (((⟨g.es.map (GM.entry enc)⟩ : Array MapEntry)[j]?).map (·.key)).getD (.int .i64 k) = .int .i64 k := by
        have : (⟨g.es.map (GM.entry enc)⟩ : Array MapEntry)[j]? = (g.es.map (GM.entry enc))[j]? := by simp
        rw [this, h3]; rfl
      simp only [e3, Sem.run_bind, hkt, Result.andThen_ok, h2]
      rw [setObj_run hb (by intro c t f; simp [GM.obj])]
  simp only [Sem.run_bind, key, Result.andThen_ok, Sem.run_pure]

theorem del_none {k : Int} : ∀ {es : List (Int × α × Nat)}, es.findIdx? (fun e => k = e.1) = none → GM.del1 k es = es := by
  intro es
  induction es with
  | nil => intro _; rfl
  | cons e es ih =>
    intro h
    simp only [List.findIdx?_cons] at h
    by_cases hk : k = e.1
    · simp [hk] at h
    · simp only [hk, decide_false, Bool.false_eq_true, if_false, Option.map_eq_none_iff] at h
      simp [GM.del1, hk, ih h]
theorem del_some {k : Int} : ∀ {es : List (Int × α × Nat)} {j : Nat}, es.findIdx? (fun e => k = e.1) = some j → (es.map (GM.entry enc)).eraseIdx j = (GM.del1 k es).map (GM.entry enc) := by
  intro es
  induction es with
  | nil => intro j h; simp at h
  | cons e es ih =>
    intro j h
    simp only [List.findIdx?_cons] at h
    by_cases hk : k = e.1
    · simp only [hk, decide_true, if_true, Option.some.injEq] at h
      subst h
      simp [GM.del1, hk]
    · simp only [hk, decide_false, Bool.false_eq_true, if_false, Option.map_eq_some_iff] at h
      obtain ⟨j', hj', rfl⟩ := h
      simp [GM.del1, hk, ih hj']

theorem e_delete {t kt et : TypeId} {x y : Operand} {ts : Array TypeId} {r : Nat} {k : Int} {g : GM α} (S : Sep w L F) (i : Nat) (hx : T.evR x = .map (some r)) (hy : T.evR y = .int .i64 k) (hL : L[i]? = some (r, g.obj enc)) (hts : ts[0]? = some t)
    (ht : P.underlying t = some (.map kt et)) (hk : P.underlying kt = some (.int .i64)) (h : ∀ w', Sep w' (L.set i (r, (g.del k).obj enc)) F → Evs P l N (updO T d (.tuple #[])) w') : Evs P (.op (.raw d (.call (.mk (.builtin .delete) #[x, y] ts)) ty) :: l) N T w := by
  refine e_raw ?_ (h _ (S.put i hL _))
  have hb := S.at_ _ _ (Sep.mem hL)
  have key : (Builtin.delete_ ts ty #[T.evR x, T.evR y]).run P w = .ok (.tuple #[]) (w.putObj r ((g.del k).obj enc)) := by
    simp only [Builtin.delete_, hts, List.getElem?_toArray, List.getElem?_cons_zero, List.getElem?_cons_succ, Sem.run_bind, run_und ht, Result.andThen_ok, hx, hy]
    rw [getObj_run hb (by intro c t f; simp [GM.obj])]
    simp only [GM.obj, Result.andThen_ok, Sem.run_bind, Sem.run_pure, checkKey_int hk, findKey_gm hk]
    cases hf : g.es.findIdx? (fun e => k = e.1) with
    | none =>
      simp only [GM.del, del_none hf, Sem.run_bind]
      rw [setObj_run hb (by intro c t f; simp [GM.obj])]
      rfl
    | some j =>
      simp only [GM.del, Sem.run_bind]
      rw [setObj_run hb (by intro c t f; simp [GM.obj])]
      have : (⟨g.es.map (GM.entry enc)⟩ : Array MapEntry).eraseIdxIfInBounds j = ⟨(GM.del1 k g.es).map (GM.entry enc)⟩ := by
        rw [← del_some (enc := enc) hf]
        apply Array.ext'
        simp
      simp only [this, Result.andThen_ok, Sem.run_pure]
  simp only [rawSem, execOp, resolve, Sem.run_bind, Sem.run_pure, Result.andThen_ok, invoke, builtin, List.map_toArray, List.map_cons, List.map_nil, key]

theorem e_clearM {t kt et : TypeId} {x : Operand} {ts : Array TypeId} {r : Nat} {g : GM α} (S : Sep w L F) (i : Nat) (hx : T.evR x = .map (some r)) (hL : L[i]? = some (r, g.obj enc)) (hts : ts[0]? = some t)
    (ht : P.underlying t = some (.map kt et)) (h : ∀ w', Sep w' (L.set i (r, (g.clear).obj enc)) F → Evs P l N (updO T d (.tuple #[])) w') : Evs P (.op (.raw d (.call (.mk (.builtin .clear) #[x] ts)) ty) :: l) N T w := by
  refine e_raw ?_ (h _ (S.put i hL _))
  have hb := S.at_ _ _ (Sep.mem hL)
  have key : (Builtin.clear_ ts ty #[T.evR x]).run P w = .ok (.tuple #[]) (w.putObj r ((g.clear).obj enc)) := by
    simp only [Builtin.clear_, hts, List.getElem?_toArray, List.getElem?_cons_zero, Sem.run_bind, run_und ht, Result.andThen_ok, hx]
    rw [getObj_run hb (by intro c t f; simp [GM.obj])]
    simp only [GM.obj, Result.andThen_ok, Sem.run_bind, Sem.run_pure]
    rw [setObj_run hb (by intro c t f; simp [GM.obj])]
    rfl
  simp only [rawSem, execOp, resolve, Sem.run_bind, Sem.run_pure, Result.andThen_ok, invoke, builtin, List.map_toArray, List.map_cons, List.map_nil, key]

theorem e_mkmap {t : TypeId} (enc : α → Value) (S : Sep w L F) (h : ∀ b w', Sep w' ((b, (GM.obj enc (⟨[], 0⟩ : GM α))) :: L) F → Evs P l N (updO T d (.map (some b))) w') : Evs P (.op (.raw d (.makeMap t none) ty) :: l) N T w := by
  refine e_raw (w' := w.alloc (.map #[] 0)) ?_ (h w.heap.size _ (S.alloc _))
  simp only [rawSem, execOp]
  refine pull ?_
  simp [Instr.makeMap]

end Dn

/-
  Rules for arithmetic, indexes and parts of strings and slices.
-/
namespace Dn
open Go

theorem wrap_id {n : Int} (h1 : -9223372036854775808 ≤ n) (h2 : n < 9223372036854775808) : IntKind.i64.wrap n = n := by
  simp [IntKind.wrap, IntKind.signed, IntKind.bits]
  omega
theorem wrap_u8 (n : Int) : IntKind.u8.wrap n = n % 256 := by simp [IntKind.wrap, IntKind.signed, IntKind.bits]
theorem wrap_u16 (n : Int) : IntKind.u16.wrap n = n % 65536 := by simp [IntKind.wrap, IntKind.signed, IntKind.bits]
theorem wrap_u32 (n : Int) : IntKind.u32.wrap n = n % 4294967296 := by simp [IntKind.wrap, IntKind.signed, IntKind.bits]
theorem wrap_u64 (n : Int) : IntKind.u64.wrap n = n % 18446744073709551616 := by simp [IntKind.wrap, IntKind.signed, IntKind.bits]

variable {P : Program} {w : World} {L L1 L2 : List (Nat × Obj)} {F : Fr} {T : Rg} {N : Rg → World → Prop} {l : List Ins} {d : Option Nat} {x y : X}

theorem e_add {a b : Int} (hx : T.ev x = .int .i64 a) (hy : T.ev y = .int .i64 b) (h1 : -9223372036854775808 ≤ a + b) (h2 : a + b < 9223372036854775808) (h : Evs P l N (updO T d (.int .i64 (a + b))) w) : Evs P (.op (.ar d .add x y) :: l) N T w :=
  e_ar (by rw [hx, hy]; simp [arV, kEq, wrap_id h1 h2]) h
theorem e_sub {a b : Int} (hx : T.ev x = .int .i64 a) (hy : T.ev y = .int .i64 b) (h1 : -9223372036854775808 ≤ a - b) (h2 : a - b < 9223372036854775808) (h : Evs P l N (updO T d (.int .i64 (a - b))) w) : Evs P (.op (.ar d .sub x y) :: l) N T w :=
  e_ar (by rw [hx, hy]; simp [arV, kEq, wrap_id h1 h2]) h
theorem e_mul {a b : Int} (hx : T.ev x = .int .i64 a) (hy : T.ev y = .int .i64 b) (h1 : -9223372036854775808 ≤ a * b) (h2 : a * b < 9223372036854775808) (h : Evs P l N (updO T d (.int .i64 (a * b))) w) : Evs P (.op (.ar d .mul x y) :: l) N T w :=
  e_ar (by rw [hx, hy]; simp [arV, kEq, wrap_id h1 h2]) h
/-- Arithmetic, its value told. -/
theorem e_arv {op : BinOp} {u v : Value} {r : Value} (hx : T.ev x = u) (hy : T.ev y = v) (hr : arV op u v = some r) (h : Evs P l N (updO T d r) w) : Evs P (.op (.ar d op x y) :: l) N T w :=
  e_ar (by rw [hx, hy]; exact hr) h
theorem e_cat {a b : ByteArray} (hx : T.ev x = .string a) (hy : T.ev y = .string b) (hl : a.size + b.size < 9223372036854775808) (h : Evs P l N (updO T d (.string (a ++ b))) w) : Evs P (.op (.ar d .add x y) :: l) N T w := by
  refine e_ar ?_ h
  rw [hx, hy]
  simp only [arV]
  have : ¬ (((a.size + b.size : Nat) : Int) > IntKind.i64.max) := by
    have : IntKind.i64.max = 9223372036854775807 := by decide
    rw [this]; omega
  rw [if_neg this]

theorem e_s2a {n ln cap : Nat} {a : Option Addr} (hx : T.ev x = .slice a ln cap) (hn : n ≤ ln) (h : Evs P l N (updO T d (.pointer a)) w) : Evs P (.op (.p d (.s2a n x)) :: l) N T w :=
  e_p (by simp only [PE.ev, hx, if_pos hn]) h
theorem e_ixa {n b o ln cap : Nat} {k : IntKind} {j : Int} (hx : T.ev x = .slice (some ⟨b, o, none⟩) ln cap) (hy : T.ev y = .int k j) (h0 : 0 ≤ j) (h1 : j < (ln : Int)) (h : Evs P l N (updO T d (.pointer (some ⟨b, o + j.toNat * n, none⟩))) w) : Evs P (.op (.p d (.ixa n x y)) :: l) N T w :=
  e_p (by simp only [PE.ev, hx, hy, if_pos (And.intro h0 h1)]) h
theorem e_ixp {ln n b o : Nat} {k : IntKind} {j : Int} (hx : T.ev x = .pointer (some ⟨b, o, none⟩)) (hy : T.ev y = .int k j) (h0 : 0 ≤ j) (h1 : j < (ln : Int)) (h : Evs P l N (updO T d (.pointer (some ⟨b, o + j.toNat * n, none⟩))) w) : Evs P (.op (.p d (.ixp ln n x y)) :: l) N T w :=
  e_p (by simp only [PE.ev, hx, hy, if_pos (And.intro h0 h1)]) h
theorem e_ixv {ln : Nat} {k : IntKind} {j : Int} {cs : List Value} {v : Value} (hx : T.ev x = .agg ⟨cs⟩) (hy : T.ev y = .int k j) (h0 : 0 ≤ j) (h1 : j < (ln : Int)) (hv : cs[j.toNat]? = some v) (h : Evs P l N (updO T d v) w) : Evs P (.op (.p d (.ixv ln none x y)) :: l) N T w :=
  e_p (by simp only [PE.ev, hx, hy, if_pos (And.intro h0 h1), hv]) h
theorem e_ixs {s : ByteArray} {k : IntKind} {j : Int} {u : UInt8} (hx : T.ev x = .string s) (hy : T.ev y = .int k j) (h0 : 0 ≤ j) (h1 : j < (s.size : Int)) (hu : s.data.toList.getD j.toNat 0 = u) (h : Evs P l N (updO T d (.int .u8 (u.toNat : Int))) w) : Evs P (.op (.p d (.ixs x y)) :: l) N T w :=
  e_p (by simp only [PE.ev, hx, hy, if_pos (And.intro h0 h1), hu]) h
theorem e_sls {s : ByteArray} {lo hi : Option X} {a b : Nat} (hx : T.ev x = .string s) (hb : bndV T hi s.size s.size = some b) (ha : bndV T lo 0 b = some a) (h : Evs P l N (updO T d (.string (s.extract a b))) w) : Evs P (.op (.p d (.sls x lo hi)) :: l) N T w :=
  e_p (by simp only [PE.ev, hx, hb, ha]) h
theorem e_sll {n ln cap : Nat} {ad : Option Addr} {lo hi : Option X} {a b : Nat} (hx : T.ev x = .slice ad ln cap) (hb : bndV T hi ln cap = some b) (ha : bndV T lo 0 b = some a) (h : Evs P l N (updO T d (.slice (if cap = a then ad else ad.map (·.add (a * n))) (b - a) (cap - a))) w) : Evs P (.op (.p d (.sll n x lo hi)) :: l) N T w :=
  e_p (by simp only [PE.ev, hx, hb, ha]) h
theorem e_slp {ln n : Nat} {ad : Addr} {lo hi : Option X} {a b : Nat} (hx : T.ev x = .pointer (some ad)) (hb : bndV T hi ln ln = some b) (ha : bndV T lo 0 b = some a) (h : Evs P l N (updO T d (.slice (some (if ln = a then ad else ad.add (a * n))) (b - a) (ln - a))) w) : Evs P (.op (.p d (.slp ln n x lo hi)) :: l) N T w :=
  e_p (by simp only [PE.ev, hx, hb, ha]) h
theorem bnd_n (T : Rg) (a b : Nat) : bndV T none a b = some a := rfl
theorem bnd_s {k : IntKind} {i : Int} {n b a : Nat} (hx : T.ev x = .int k i) (hi : i = (n : Int)) (hn : n ≤ b) : bndV T (some x) a b = some n := by
  subst hi
  simp only [bndV, hx]
  rw [if_pos ⟨by omega, by omega⟩]; rfl

theorem bytesOf_bv (l : List UInt8) : bytesOf (l.map fun b => .int .u8 (b.toNat : Int)) = some l := by
  induction l with
  | nil => rfl
  | cons b l ih => simp [bytesOf, ih]

theorem rowOf_sep (S : Sep w L F) (i : Nat) {b off ty n : Nat} {cs vs : List Value} {fr : Nat × Nat} (h : L[i]? = some (b, .cells ⟨cs⟩ ty fr)) (hn : off + n ≤ cs.length) (hv : (cs.drop off).take n = vs) : rowOf w ⟨b, off, none⟩ n = some vs := by
  have := S.at_ _ _ (Sep.mem h)
  simp [rowOf, this, hn, hv]

/-- string(bytes) -/
theorem Sep.str (S : Sep w L F) (i : Nat) {b off ty n cap : Nat} {cs : List Value} {fr : Nat × Nat} {s : List UInt8} (h : L[i]? = some (b, .cells ⟨cs⟩ ty fr)) (hn : off + n ≤ cs.length) (hv : (cs.drop off).take n = s.map fun b => .int .u8 (b.toNat : Int)) :
    b2sV (.slice (some ⟨b, off, none⟩) n cap) w = some (.string ⟨⟨s⟩⟩) := by
  simp only [b2sV, rowOf_sep S i h hn hv, bytesOf_bv]

theorem e_nwE {t : TypeId} {cs cs' : List Value} (S : Sep w L F) (e : cs = cs') (h : ∀ b w', Sep w' ((b, .cells ⟨cs'⟩ t) :: L) F → Evs P l N (updO T d (.pointer (some ⟨b, 0, none⟩))) w') : Evs P (.op (.nw d t cs) :: l) N T w := by
  subst e; exact e_nw S h
theorem putAt_all {cs vs : List Value} (h : vs.length = cs.length) : putAt cs 0 vs = vs := by
  simp [putAt, h]

end Dn

/-
  Loops; slices that grow: append, make, composite slices.
-/
namespace Dn
open Go

variable {P : Program} {m : Nat} {w : World} {L L1 L2 Lb : List (Nat × Obj)} {F : Fr} {T : Rg} {N : Rg → World → Prop} {l : List Ins} {d : Option Nat} {ty : TypeId} {K : Ex → Rg → World → Prop} {a : Cd}

/-! ### loops -/
def setL (T : Rg) : List (Nat × Value) → Rg
  | [] => T
  | p :: l => upd (setL T l) p.1 p.2
def pins (T : Rg) : List (Nat × Value) → Prop
  | [] => True
  | p :: l => T.f p.1 = p.2 ∧ pins T l
theorem setL_pins {T : Rg} : ∀ {l : List (Nat × Value)}, pins T l → setL T l = T := by
  intro l
  induction l with
  | nil => intro _; rfl
  | cons p l ih =>
    intro h
    simp only [setL, ih h.2]
    rw [← h.1, upd_same]

theorem Ev_mono {K K' : Ex → Rg → World → Prop} (hK : ∀ e T w, K e T w → K' e T w) : ∀ (a : Cd) {T : Rg} {w : World}, Ev P m a K T w → Ev P m a K' T w := by
  intro a
  induction a generalizing K K' with
  | skip => intro T w h; exact hK _ _ _ h
  | ops l draw => intro T w h; exact evs_mono (fun T w h => hK _ _ _ h) l _ _ h
  | dr t => intro T w h; exact evT_mono (fun T w h => hK _ _ _ h) t _ _ h
  | seq a b iha ihb =>
    intro T w h
    refine iha (K := thenK (Ev P m b K) K) (fun e T w h => ?_) h
    cases e with
    | n => exact ihb hK h
    | x id => exact hK _ _ _ h
    | r => exact hK _ _ _ h
  | ite c a b iha ihb => intro T w ⟨t, hc, h1, h2⟩; exact ⟨t, hc, fun e => iha hK (h1 e), fun e => ihb hK (h2 e)⟩
  | blk id a iha =>
    intro T w h
    refine iha (K := blkK id K) (fun e T w h => ?_) h
    cases e with
    | n => exact hK _ _ _ h
    | x i =>
      simp only [blkK] at h ⊢
      cases hb : Nat.beq i id <;> rw [hb] at h <;> exact hK _ _ _ h
    | r => exact hK _ _ _ h
  | loop a iha =>
    intro T w ⟨I, μ, h0, hs⟩
    refine ⟨I, μ, h0, fun T' w' hi => iha (K := thenK (fun T'' w'' => I T'' w'' ∧ μ T'' w'' < μ T' w') K) (fun e T w h => ?_) (hs T' w' hi)⟩
    cases e with
    | n => exact h
    | x id => exact hK _ _ _ h
    | r => exact hK _ _ _ h
  | exit id => intro T w h; exact hK _ _ _ h
  | ret => intro T w h; exact hK _ _ _ h
  | rf g ps assign body ca cb =>
    intro T w ⟨gf, fs, cs, hg, hc, h⟩
    refine ⟨gf, fs, cs, hg, hc, fun fn tmps h1 h2 => (h fn tmps h1 h2).mono ?_⟩
    rintro v w' ⟨e, st, k1, k2, k3⟩
    exact ⟨e, st, k1, k2, hK _ _ _ k3⟩
  | bad => intro T w h; exact h.elim

theorem least (p : Nat → Prop) : ∀ n, p n → ∃ n, p n ∧ ∀ k, p k → n ≤ k := by
  intro n
  induction n using Nat.strongRecOn with
  | ind n ih =>
    intro hn
    by_cases h : ∃ k, k < n ∧ p k
    · obtain ⟨k, h1, h2⟩ := h; exact ih k h1 h2
    · exact ⟨n, hn, fun k hk => Nat.le_of_not_lt fun hlt => h ⟨k, hlt, hk⟩⟩

/-- A loop: what is carried stands in named registers; of the others nothing is known in the next round. -/
theorem s_loop {σ : Type} (vals : σ → List (Nat × Value)) (inv : σ → World → Prop) (μ : σ → Nat) (s0 : σ) (hT : pins T (vals s0)) (hd : T.ds = []) (h0 : inv s0 w)
    (hs : ∀ (g : Nat → Value) (s : σ) w', inv s w' → Ev P m a (thenK (fun T'' w'' => T''.ds = [] ∧ ∃ s', pins T'' (vals s') ∧ inv s' w'' ∧ μ s' < μ s) K) (setL ⟨g, []⟩ (vals s)) w') : Ev P m (.loop a) K T w := by
  have key : ∀ T : Rg, T.ds = [] → T = ⟨T.f, []⟩ := by rintro ⟨f, ds⟩ h; simp only at h; subst h; rfl
  have mm : ∀ (T' : Rg) (w' : World), ∃ k, (∃ s, pins T' (vals s) ∧ inv s w') → (∃ s, pins T' (vals s) ∧ inv s w' ∧ μ s = k) ∧ ∀ s, pins T' (vals s) → inv s w' → k ≤ μ s := by
    intro T' w'
    by_cases h : ∃ s, pins T' (vals s) ∧ inv s w'
    · obtain ⟨s, h1, h2⟩ := h
      obtain ⟨k, h3, h4⟩ := least (fun k => ∃ s, pins T' (vals s) ∧ inv s w' ∧ μ s = k) (μ s) ⟨s, h1, h2, rfl⟩
      exact ⟨k, fun _ => ⟨h3, fun s k1 k2 => h4 _ ⟨s, k1, k2, rfl⟩⟩⟩
    · exact ⟨0, fun h' => absurd h' h⟩
  refine ⟨fun T' w' => T'.ds = [] ∧ ∃ s, pins T' (vals s) ∧ inv s w', fun T' w' => Classical.choose (mm T' w'), ⟨hd, s0, hT, h0⟩, ?_⟩
  rintro T' w' ⟨hd', hex⟩
  obtain ⟨⟨s, hp, hi, hmu⟩, -⟩ := Classical.choose_spec (mm T' w') hex
  have e : T' = setL ⟨T'.f, []⟩ (vals s) := by
    have hp' : pins (⟨T'.f, []⟩ : Rg) (vals s) := by rw [← key T' hd']; exact hp
    rw [setL_pins hp', ← key T' hd']
  have h := hs T'.f s w' hi
  rw [← e] at h
  refine Ev_mono ?_ _ h
  rintro ex T'' w'' hk
  cases ex with
  | n =>
    obtain ⟨hd'', s', h1, h2, h3⟩ := hk
    have hex'' : ∃ s, pins T'' (vals s) ∧ inv s w'' := ⟨s', h1, h2⟩
    refine ⟨⟨hd'', hex''⟩, ?_⟩
    rw [hmu] at h3
    exact Nat.lt_of_le_of_lt ((Classical.choose_spec (mm T'' w'') hex'').2 s' h1 h2) h3
  | x id => exact hk
  | r => exact hk

/-! ### slices that grow -/

/-- A slice that is held whole: address, length, capacity, the cells of its elements, its block (none: nil). -/
structure OwnS (e : TypeId) (size : Nat) (ad : Option Addr) (n cap : Nat) (xs : List Value) (Lb : List (Nat × Obj)) : Prop where
  len : xs.length = n * size
  le : n ≤ cap
  own : (ad = none ∧ cap = 0 ∧ Lb = []) ∨ ∃ b sp lo hi, ad = some ⟨b, 0, none⟩ ∧ sp.length = (cap - n) * size ∧ (hi ≤ lo ∨ cap * size ≤ lo) ∧ Lb = [(b, .cells ⟨xs ++ sp⟩ e (lo, hi))]

theorem OwnS.nil {e : TypeId} {size : Nat} : OwnS e size none 0 0 [] [] := ⟨by simp, Nat.le_refl _, .inl ⟨rfl, rfl, rfl⟩⟩
theorem OwnS.row {e : TypeId} {size b n : Nat} {xs : List Value} (h : xs.length = n * size) : OwnS e size (some ⟨b, 0, none⟩) n n xs [(b, .cells ⟨xs⟩ e)] :=
  ⟨h, Nat.le_refl _, .inr ⟨b, [], 0, 0, rfl, by simp, .inl (Nat.le_refl _), by simp⟩⟩

theorem flat_one {v : Value} (h : Value.flat v = true) : v.oneCell' = true := by cases v <;> simp_all [Value.flat, Value.oneCell']
theorem one_flat {v : Value} (h : v.oneCell' = true) : Value.flat v = true := by cases v <;> simp_all [Value.flat, Value.oneCell']

/-- What lies behind a slice's address. -/
theorem src_row {size m cap : Nat} {tx e' : TypeId} {a : Addr} {ys : List Value} (ht : P.underlying tx = some (.slice e')) (hr : rowOf w a (m * size) = some ys) (hf : ∀ v ∈ ys, Value.flat v = true) : Src P size tx (.slice (some a) m cap) m ys w := by
  have hl : ys.length = m * size := by
    unfold rowOf at hr
    split at hr
    · split at hr
      · rename_i h; injection hr with hr; subst hr; simp; omega
      · simp at hr
    · simp at hr
  have hd : rowOf w.drew a (m * size) = some ys := hr
  exact ⟨.inl ⟨e', ht⟩, fun _ => rfl, by simp only [Builtin.firstCells]; exact rowOf_run hr, by simp only [Builtin.firstCells]; exact rowOf_run hd, hl, fun u hu => flat_one (hf u hu)⟩

theorem OwnS.rowOf {e : TypeId} {size : Nat} {a : Addr} {n cap : Nat} {xs : List Value} (hO : OwnS e size (some a) n cap xs Lb) (S : Sep w (L ++ Lb) F) : Dn.rowOf w a (n * size) = some xs := by
  rcases hO.own with ⟨h, _⟩ | ⟨b, sp, lo, hi, h, hs, hf, hL⟩
  · simp at h
  · injection h with h; subst h
    have hb := S.at_ b (.cells ⟨xs ++ sp⟩ e (lo, hi)) (by rw [hL]; simp)
    simp only [Dn.rowOf, hb]
    rw [if_pos ⟨trivial, by simp [hO.len]⟩]
    simp [← hO.len]

theorem e_app {t tx e : TypeId} {i : TypeInfo} {z : Value} {size k n cap : Nat} {ad : Option Addr} {xs ys : List Value} {x y : Operand} (S : Sep w (L ++ Lb) F) (hO : OwnS e size ad n cap xs Lb)
    (hx : T.evR x = .slice ad n cap) (hs : Src P size tx (T.evR y) k ys w) (ht : P.underlying t = some (.slice e)) (hi : P.info? e = some i) (hz : i.zero = some z) (hsz : i.size = size) (hzs : z.cells.size = size)
    (hfit : (n + k) * i.bytes ≤ 140737488355328) (h63 : n + k ≤ 140737488355328)
    (h : ∀ ad' cap' Lb' w', OwnS e size ad' (n + k) cap' (xs ++ ys) Lb' → Sep w' (L ++ Lb') F → Evs P l N (updO T d (.slice ad' (n + k) cap')) w') :
    Evs P (.op (.raw d (.call (.mk (.builtin .append) #[x, y] #[t, tx])) ty) :: l) N T w := by
  have hraw : ∀ {v w'}, (Builtin.append_ #[t, tx] ty #[T.evR x, T.evR y]).run P w = .ok v w' → (rawSem T (.call (.mk (.builtin .append) #[x, y] #[t, tx])) ty).run P w = .ok (.value v) w' := by
    intro v w' hr
    simp only [rawSem, execOp, resolve, Sem.run_bind, Sem.run_pure, Result.andThen_ok, invoke, builtin, List.map_toArray, List.map_cons, List.map_nil, hr]
  subst hsz
  have hlen : (xs ++ ys).length = (n + k) * i.size := by rw [List.length_append, hO.len, hs.newsLen, Nat.add_mul]
  by_cases hroom : n + k ≤ cap
  · -- there is room
    rcases hO.own with ⟨rfl, rfl, rfl⟩ | ⟨b, sp, lo, hi', rfl, hsp, hfr, rfl⟩
    · have hn : n = 0 := by omega
      have hk : k = 0 := by omega
      subst hn; subst hk
      have hys : ys = [] := List.eq_nil_of_length_eq_zero (by rw [hs.newsLen]; omega)
      subst hys
      refine e_raw (w' := w) (v := .slice none 0 0) (hraw ?_) (by have := h none 0 [] w ⟨by simpa using hlen, by omega, .inl ⟨rfl, rfl, rfl⟩⟩ S; simpa using this)
      rw [hx]
      rcases hs.kind with ⟨e', hk⟩ | hk <;> simp [Builtin.append_, run_underlying ht, run_underlying hk, Go.sizeOf, typeInfo, hi, hs.len, hs.cells]
    · have hb := S.at_ b _ (by simp : (b, Obj.cells ⟨xs ++ sp⟩ e (lo, hi')) ∈ L ++ [(b, Obj.cells ⟨xs ++ sp⟩ e (lo, hi'))])
      have hsplit : (cap - n) * i.size = k * i.size + (cap - (n + k)) * i.size := by rw [← Nat.add_mul]; congr 1; omega
      have hcap : cap * i.size = n * i.size + (cap - n) * i.size := by rw [← Nat.add_mul]; congr 1; omega
      have hst := storeCells_run (P := P) (a := ⟨b, n * i.size, none⟩) (ty := e) (lo := lo) (hi := hi') rfl ys 0 w (xs ++ sp) hb (fun v hv => one_flat (hs.one v hv)) (by simp [hO.len, hsp, hs.newsLen]; omega) (by
        intro j h1 h2 hh
        have := hs.newsLen
        simp only [Nat.add_zero] at h1 h2
        rcases hfr with hfr | hfr <;> omega)
      simp only [Nat.add_zero] at hst
      have hput : putAt (xs ++ sp) (n * i.size) ys = (xs ++ ys) ++ sp.drop (k * i.size) := by
        unfold putAt
        rw [← hO.len, List.take_left, List.append_assoc, hs.newsLen]
        congr 2
        rw [← List.drop_drop, List.drop_left]
      have hS : ∀ w', Sep w' (L ++ [(b, .cells ⟨xs ++ ys ++ sp.drop (k * i.size)⟩ e (lo, hi'))]) F → Evs P l N (updO T d (.slice (some ⟨b, 0, none⟩) (n + k) cap)) w' := fun w' S' =>
        h _ _ _ w' ⟨hlen, hroom, .inr ⟨b, sp.drop (k * i.size), lo, hi', rfl, by rw [List.length_drop, hsp]; omega, hfr, rfl⟩⟩ S'
      have hadd : (Addr.add ⟨b, 0, none⟩ (n * i.size)) = ⟨b, n * i.size, none⟩ := by rw [addr_add]; simp
      by_cases hy0 : ys = []
      · subst hy0
        refine e_raw (w' := w) (v := .slice (some ⟨b, 0, none⟩) (n + k) cap) (hraw ?_) (hS w ?_)
        · rw [hx]
          rcases hs.kind with ⟨e', hk⟩ | hk <;> simp [Builtin.append_, run_underlying ht, run_underlying hk, Go.sizeOf, typeInfo, hi, hs.len, hroom, hs.cells, storeCells]
        · have : k * i.size = 0 := by rw [← hs.newsLen]; rfl
          rw [this]; simpa using S
      · rw [if_neg hy0, hput] at hst
        refine e_raw (v := .slice (some ⟨b, 0, none⟩) (n + k) cap) (hraw ?_) (hS _ (by
          have := S.put L.length (b := b) (o := .cells ⟨xs ++ sp⟩ e (lo, hi')) (by simp) (.cells ⟨xs ++ ys ++ sp.drop (k * i.size)⟩ e (lo, hi'))
          simpa using this))
        rw [hx]
        rcases hs.kind with ⟨e', hk⟩ | hk <;> simp [Builtin.append_, run_underlying ht, run_underlying hk, Go.sizeOf, typeInfo, hi, hs.len, hroom, hs.cells, hadd, hst]
  · have hg : cap < n + k := by omega
    have hold : (Builtin.firstCells i.size n (.slice ad n cap)).run P w.drew = .ok xs.toArray w.drew := by
      cases ad with
      | none =>
        rcases hO.own with ⟨_, hc, hL⟩ | ⟨b, sp, lo, hi', h', _⟩
        · have hn : n = 0 := by have := hO.le; omega
          have : xs = [] := List.eq_nil_of_length_eq_zero (by rw [hO.len, hn]; omega)
          subst this
          exact run_firstCells_none w.drew i.size n n cap
        · simp at h'
      | some a =>
        simp only [Builtin.firstCells]
        exact rowOf_run (hO.rowOf S.drew)
    have hr := run_append_grow_src w t tx ty e i z ht hi hz ad n cap xs hold (T.evR y) k ys hs hg (by omega) (growslice_fits hg hfit)
    rw [← hx] at hr
    refine e_raw (hraw hr) ?_
    have hge := grownCap_ge w (n + k) cap e
    refine h _ _ [(w.heap.size, .cells ⟨xs ++ ys ++ (Builtin.zeroCells z.cells (grownCap w (n + k) cap e - (n + k))).toList⟩ e)] _ ⟨hlen, hge, .inr ⟨_, _, 0, 0, rfl, ?_, .inl (Nat.le_refl _), rfl⟩⟩ ?_
    · simp [Builtin.zeroCells, hzs]
    · have S2 := (S.drew.alloc (.cells ((xs ++ ys).toArray ++ Builtin.zeroCells z.cells (grownCap w (n + k) cap e - (n + k))) e)).perm (L1 := L ++ ((w.heap.size, .cells ((xs ++ ys).toArray ++ Builtin.zeroCells z.cells (grownCap w (n + k) cap e - (n + k))) e) :: Lb)) List.perm_middle.symm
      have : ((xs ++ ys).toArray ++ Builtin.zeroCells z.cells (grownCap w (n + k) cap e - (n + k)) : Array Value) = ⟨xs ++ ys ++ (Builtin.zeroCells z.cells (grownCap w (n + k) cap e - (n + k))).toList⟩ := by
        apply Array.ext'; simp
      rw [this] at S2 ⊢
      rcases hO.own with ⟨_, _, hL⟩ | ⟨b, sp, lo, hi', _, _, _, hL⟩
      · rw [hL] at S2; exact S2
      · rw [hL] at S2
        refine Sep.drop (L2 := [(b, .cells ⟨xs ++ sp⟩ e (lo, hi'))]) (S2.perm ?_)
        rw [show ∀ (p q : Nat × Obj), L ++ [p, q] = (L ++ [p]) ++ [q] by intros; simp]
        exact List.perm_append_singleton _ _

/-- make([]e, n): the zero's cells are all alike. -/
theorem e_mksl {t e : TypeId} {i : TypeInfo} {u : Value} {size n : Nat} {x y : Operand} (S : Sep w L F) (hx : T.evR x = .int .i64 (n : Int)) (hy : T.evR y = .int .i64 (n : Int)) (ht : P.underlying t = some (.slice e)) (hi : P.info? e = some i) (hsz : i.size = size)
    (hz : ∃ z, i.zero = some z ∧ z.cells = ⟨List.replicate size u⟩) (hn : n ≤ 1000000) (hb : i.bytes ≤ 1000000)
    (h : ∀ b w', Sep w' (L ++ [(b, .cells ⟨List.replicate (n * size) u⟩ e)]) F → Evs P l N (updO T d (.slice (some ⟨b, 0, none⟩) n n)) w') : Evs P (.op (.raw d (.makeSlice t x y) ty) :: l) N T w := by
  obtain ⟨z, hz, hzc⟩ := hz
  subst hsz
  have hrun : (Instr.makeSlice t (T.evR x) (T.evR y)).run P w = .ok (.slice (some ⟨w.heap.size, 0, none⟩) n n) (w.alloc (.cells ⟨List.replicate (n * i.size) u⟩ e)) := by
    have hw : IntKind.i64.wrap (n : Int) = n := wrap_id (by omega) (by omega)
    have hmul : ((i.bytes * n : Nat) : Int) ≤ 2 ^ 48 := by
      have := Nat.mul_le_mul hb hn
      omega
    have hm : ¬ ((i.bytes : Int) * (n : Int) > 2 ^ 48) := by rw [← Int.natCast_mul]; omega
    have hm2 : ¬ ((2 : Int) ^ 48 < (i.bytes : Int) * (n : Int)) := hm
    have hcells : (if n * i.size = 0 then (#[] : Array Value) else z.cells) = (if n * i.size = 0 then (#[] : Array Value) else ⟨List.replicate i.size u⟩) := by rw [hzc]
    have hrow : ∀ zc : Array Value, (n * i.size ≠ 0 → zc = ⟨List.replicate i.size u⟩) → ((Array.range (n * i.size)).map (zc[· % zc.size]!)) = ⟨List.replicate (n * i.size) u⟩ := by
      intro zc hzz
      apply Array.ext'
      simp only [Array.toList_map, Array.toList_range]
      by_cases h0 : n * i.size = 0
      · simp [h0]
      · have := hzz h0; subst this
        have hp : 0 < i.size := Nat.pos_of_ne_zero fun h => h0 (by rw [h]; simp)
        apply List.ext_getElem
        · simp
        · intro j h1 h2
          simp only [List.getElem_map, List.getElem_range, List.size_toArray, List.length_replicate, List.getElem_replicate]
          rw [getElem!_pos _ _ (by simpa using Nat.mod_lt _ hp)]
          simp
    have hw0 : ¬ ((n : Int) < 0) := by omega
    rw [hx, hy]
    have hai : (asInt (.int .i64 (n : Int))).run P w = .ok (n : Int) w := by simp [asInt, asIntOf]
    simp only [Instr.makeSlice, Sem.run_bind, run_und ht, Result.andThen_ok, run_tinfo hi, hai, hw]
    rw [if_neg (by simp [hw0]; omega)]
    have hn' : ((n : Int)).toNat = n := by omega
    simp only [Sem.run_bind, run_askRoom, Result.andThen_ok, run_sz hi, hn']
    have hnew : ∀ c : Array Value, (newRow e c).run P w = .ok ⟨w.heap.size, 0, none⟩ (w.alloc (.cells c e)) := fun c => by simp [newRow]
    have hzr : (P.info? e).bind (·.zero) = some z := by rw [hi]; exact hz
    by_cases h0 : n * i.size = 0
    · have hr := hrow #[] (fun h => absurd h0 h)
      rw [if_pos h0]
      simp only [Sem.run_pure, Sem.run_bind, Result.andThen_ok, hnew, hr]
    · have hr := hrow z.cells (fun _ => hzc)
      rw [if_neg h0]
      simp only [Sem.run_bind, Sem.run_pure, Result.andThen_ok, run_zero hzr, hnew, hr]
  refine e_raw (by simp only [rawSem, execOp]; exact pull hrun) (h w.heap.size _ ?_)
  exact (S.alloc _).perm (List.perm_append_singleton _ _).symm

theorem parts_run {size : Nat} : ∀ (ps : List (Nat × Operand)), cParts (fun j => some (j * size, size)) ps = some (ps.map fun p => (p.1 * size, size, cX p.2)) := by
  intro ps
  induction ps with
  | nil => rfl
  | cons p ps ih => obtain ⟨i, x⟩ := p; simp [cParts, ih]

/-- A composite slice. -/
theorem e_bsl {t e : TypeId} {i : TypeInfo} {size n : Nat} {ps : List (Nat × Operand)} {xs : List Value} (S : Sep w L F) (ht : P.underlying t = some (.slice e)) (hi : P.info? e = some i) (hsz : i.size = size) (hz : ∃ z, i.zero = some z)
    (hn : 0 < n * size) (hn2 : n * size ≤ 16777216) (hf : ∀ zs : List Value, zs.length = n * size → fillL zs (partsV T (ps.map fun p => (p.1 * size, size, cX p.2))) = some xs)
    (h : ∀ b w', Sep w' (L ++ [(b, .cells ⟨xs⟩ e)]) F → Evs P l N (updO T d (.slice (some ⟨b, 0, none⟩) n n)) w') : Evs P (.op (.raw d (.buildSlice t n ⟨ps⟩) ty) :: l) N T w := by
  obtain ⟨z, hz⟩ := hz
  subst hsz
  have hfill := fillL_eq ps (fun j => some (j * i.size, i.size)) T ((List.range (n * i.size)).map (z.cells[· % z.cells.size]!)) _ xs (parts_run ps) (hf _ (by simp))
  have e1 : (Array.range (n * i.size)).map (z.cells[· % z.cells.size]!) = ⟨(List.range (n * i.size)).map (z.cells[· % z.cells.size]!)⟩ := by apply Array.ext'; simp
  have e2 : ((⟨ps⟩ : Array (Nat × Operand)).map fun (i, x) => (i, T.evR x)).toList = ps.map fun (i, x) => (i, T.evR x) := by simp
  have hrun : (Instr.buildSlice t n ((⟨ps⟩ : Array (Nat × Operand)).map fun (i, x) => (i, T.evR x))).run P w = .ok (.slice (some ⟨w.heap.size, 0, none⟩) n n) (w.alloc (.cells ⟨xs⟩ e)) := by
    simp only [Instr.buildSlice, Sem.run_bind, run_und ht, Result.andThen_ok, run_sz hi]
    rw [if_neg (by omega), if_neg (by omega)]
    have hzr : (P.info? e).bind (·.zero) = some z := by rw [hi]; exact hz
    simp only [Sem.run_bind, Sem.run_pure, Result.andThen_ok, run_zero hzr, e1, e2, hfill]
    simp [newRow]
  refine e_raw (by simp only [rawSem, execOp]; exact pull hrun) (h w.heap.size _ ?_)
  exact (S.alloc _).perm (List.perm_append_singleton _ _).symm

end Dn
