/-
  Abstract values and states, and what cells represent them. No conditions.
-/
import GoSem.Core.Code
import GoSem.Core.View
import Derived.Laws.AppendOwn
import Derived.Laws.MakeOwn
import Derived.Orders
import Derived.Tactics
import Derived.ChangeKeysEq
import Derived.Laws.BytesString
namespace V
open Go

inductive Step where
  | fld (i off : Nat)
  | idx (i n sz : Nat)

/-- an error: none, a number, a text about another one -/
inductive GErr where
  | nil
  | num (n : Int)
  | flt (what : ByteArray) (about : GErr) (wraps : Bool)
  deriving DecidableEq
def GErr.isNil : GErr → Bool
  | .nil => true
  | _ => false
/-- a number, or one that it is about -/
def GErr.has : GErr → Int → Bool
  | .nil, _ => false
  | .num m, n => m == n
  | .flt _ e _, n => e.has n

/-- the first number -/
def GErr.first : GErr → Option Int
  | .nil => none
  | .num n => some n
  | .flt _ e _ => e.first

/-- abstract values: arrays and slices hold typed lists -/
inductive AV (Ty : Nat → Type) : Type where
  | undef
  | skp
  | bool (b : Bool)
  | int (k : IntKind) (n : Int)
  | str (s : ByteArray)
  | nilp
  | ptr (o : Nat) (p : List Step)
  | rptr (o i : Nat) (p : List Step)
  | cptr (v : AV Ty)
  | row (o : Nat)
  | view (o : Nat) (p : List Step) (t n lo len : Nat)
  | slice (t : Nat) (xs : List (Ty t))
  | nils (t : Nat)
  | slicen (t : Nat) (xs : List (Ty t))
  | func (f : Nat)
  | nil
  | cons (h t : AV Ty)
  | arr (t n : Nat) (xs : List (Ty t))
  | tup (vs : AV Ty)
  | err (e : GErr)
  | iface (t : Nat) (v : AV Ty)
  | mapp (o : Nat)
  /-- a function, the first so many of some values ahead of its arguments, the others behind them -/
  | clo (f nf : Nat) (vs : AV Ty)
  /-- a part of a row of the call's own: from a place on, so many -/
  | sub (o lo len : Nat)
  /-- the address of a typed value that is read alone, or none -/
  | opt (t : Nat) (x : Option (Ty t))

/-- what an object of the call's own holds -/
inductive Obj (Ty : Nat → Type) : Type where
  | none
  | dead
  | var (c : AV Ty)
  | fvar (c : AV Ty)
  | row (t : Nat) (xs : List (Ty t))
  | frow (t : Nat) (xs : List (Ty t))
  /-- a map, by its keys -/
  | map (ks : List Int)

inductive TD where
  | other | bool | int (k : IntKind) | str | ptr (e : Nat) | slice (e : Nat) | arr (n e : Nat) | struct (fs : List (Nat × Nat)) | iface | map (k : Nat) | spread (n e : Nat) | optr (e : Nat)

/-- how a Lean type is an abstract value's -/
structure Den (Ty : Nat → Type) (α : Type) where
  enc : α → AV Ty
  dec : AV Ty → Option α
  dflt : α
  spec : ∀ v x, dec v = some x → enc x = v

structure TI where
  td : TD
  size : Nat
  bytes : Nat

structure Tab (Ty : Nat → Type) where
  den : (t : Nat) → Den Ty (Ty t)
  flatTy : Nat → Bool
  eqOk : Nat → Bool
  cmp : Nat → Bool
  eqL : (t : Nat) → List (Ty t) → List (Ty t) → Bool
  /-- the type of an error's number; that of a fault's address -/
  errnoTy : Nat
  faultTy : Nat
  /-- errors.As, if it is reached; the type of a number's address; what package-level variables hold -/
  asOn : Bool
  asFn : Nat
  errnoPtr : Nat
  globs : List (Nat × Value)
  info : List (Nat × TI)
  /-- the appends whose rows, the old one and the new one, are not written any more -/
  frz : List Nat := []
  /-- the calls whose answers' slices and addresses are not read any more -/
  fgt : List Nat := []
  /-- the slice expressions whose answers are parts of a row that is written on: where they go, their type -/
  subs : List (Nat × Nat) := []
  /-- the functions whose answers' slices are read alone: the answer's type, how many temporaries -/
  stl : List (Nat × Nat) := []
  /-- slices that are made, each part told by itself: where they go, their type, how many -/
  sprs : List (Nat × Nat × Nat) := []

def Tab.enc {Ty : Nat → Type} (T : Tab Ty) (t : Nat) (x : Ty t) : AV Ty := (T.den t).enc x
def Tab.dec {Ty : Nat → Type} (T : Tab Ty) (t : Nat) (v : AV Ty) : Option (Ty t) := (T.den t).dec v
def Tab.dflt {Ty : Nat → Type} (T : Tab Ty) (t : Nat) : Ty t := (T.den t).dflt
def infoAt (t : Nat) : List (Nat × TI) → TI
  | [] => ⟨.other, 1, 8⟩
  | (u, i) :: l => cond (u == t) i (infoAt t l)
def Tab.td {Ty : Nat → Type} (T : Tab Ty) (t : Nat) : TD := (infoAt t T.info).td
def Tab.size {Ty : Nat → Type} (T : Tab Ty) (t : Nat) : Nat := (infoAt t T.info).size
def Tab.bytes {Ty : Nat → Type} (T : Tab Ty) (t : Nat) : Nat := (infoAt t T.info).bytes

structure St (Ty : Nat → Type) where
  env : Nat → AV Ty
  obj : Nat → Obj Ty

/-- values and the objects that they refer to, numbered as they are met -/
structure NSt (Ty : Nat → Type) where
  tmps : List (AV Ty)
  objs : List (Obj Ty)

/-- a called function that is told by what it does to the caller's objects: under which condition, its value, what becomes of objects -/
structure Prim (Ty : Nat → Type) where
  eff : Nat → List (AV Ty) → (Nat → Obj Ty) → Option (Bool × AV Ty × List (Nat × Obj Ty))
  reads : Nat → List (AV Ty) → List Nat
  congr : ∀ d vs ob ob', (∀ i ∈ reads d vs, ob i = ob' i) → eff d vs ob = eff d vs ob'

/-- a called function: what it answers (at most so many rounds), and whether the answer may hold what the arguments hold -/
structure FSpec (Ty : Nat → Type) where
  runK : Nat → List (AV Ty) → (R : Type) → (AV Ty → Option R) → Option R
  nat : ∀ k args R K, runK k args R K = (runK k args (AV Ty) some).bind K
  alias : Bool
  /-- whether it takes or gives objects: then what it leaves, by what it finds; the first so many objects stay where they are -/
  heap : Bool := false
  /-- rows and views are handed over as they are -/
  raw : Bool := false
  /-- what it is given it only reads: what it answers holds nothing of it -/
  ro : Bool := false
  prim : Option (Prim Ty) := none
  runH : Nat → Nat → NSt Ty → (R : Type) → (NSt Ty → Option R) → Option R := fun _ _ _ _ _ => none
  natH : ∀ k np n R K, runH k np n R K = (runH k np n (NSt Ty) some).bind K := by intros; rfl

section
variable {Ty : Nat → Type} (T : Tab Ty)

def AV.nth : AV Ty → Nat → Option (AV Ty)
  | .cons h _, 0 => some h
  | .cons _ t, n + 1 => t.nth n
  | _, _ => none

def AV.setNth : AV Ty → Nat → AV Ty → Option (AV Ty)
  | .cons _ t, 0, v => some (.cons v t)
  | .cons h t, n + 1, v => (t.setNth n v).map (.cons h)
  | _, _, _ => none

def AV.isAgg : AV Ty → Bool
  | .nil | .cons _ _ | .arr _ _ _ => true
  | _ => false

/-- how many cells -/
def AV.size : AV Ty → Nat
  | .nil => 0
  | .cons h t => h.size + t.size
  | .arr t n _ => n * T.size t
  | _ => 1

/-- where part i of a struct begins -/
def AV.offs : AV Ty → Nat → Nat
  | .cons h t, n + 1 => h.size T + t.offs n
  | _, _ => 0

def listGet {α : Type} (d : α) (xs : List α) (i : Nat) : α := xs.getD i d

def AV.get (T : Tab Ty) : AV Ty → List Step → Option (AV Ty)
  | v, [] => some v
  | v, .fld i off :: p =>
    match v.nth i with
    | some x => cond (v.offs T i == off) (x.get T p) .none
    | .none => .none
  | .arr t n xs, .idx i n' sz :: p => cond (n == n' && T.size t == sz) ((T.enc t (xs.getD i (T.dflt t))).get T p) .none
  | _, _ => .none

def AV.put (T : Tab Ty) : AV Ty → List Step → AV Ty → Option (AV Ty)
  | _, [], v => some v
  | c, .fld i off :: p, v =>
    match c.nth i with
    | some x => cond (c.offs T i == off) (match x.put T p v with | some y => c.setNth i y | .none => .none) .none
    | .none => .none
  | .arr t n xs, .idx i n' sz :: p, v => cond (n == n' && T.size t == sz)
      (match (T.enc t (xs.getD i (T.dflt t))).put T p v with
        | some y => match T.dec t y with
          | some z => some (.arr t n (xs.set i z))
          | .none => .none
        | .none => .none) .none
  | _, _, _ => .none

/-- the zero value of a type -/
def Tab.zeroN (T : Tab Ty) : Nat → Nat → AV Ty
  | 0, _ => .undef
  | f + 1, t => match T.td t with
    | .bool => .bool false
    | .int k => .int k 0
    | .str => .str .empty
    | .ptr _ => .nilp
    | .optr e => .opt e none
    | .slice e => .nils e
    | .arr n e => .arr e n (List.replicate n (T.dflt e))
    | .struct fs => fs.foldr (fun x r => .cons (T.zeroN f x.1) r) .nil
    | .spread n e => (List.replicate n (T.zeroN f e)).foldr (fun x r => .cons x r) .nil
    | .iface => .err .nil
    | .other | .map _ => .undef
def Tab.zero (T : Tab Ty) (t : Nat) : AV Ty := T.zeroN 8 t

/-- a fault that the call itself has made -/
def errOf (T : Tab Ty) (ob : Nat → Obj Ty) (t : Nat) (v : AV Ty) : Option GErr :=
  cond (t == T.faultTy) (match v with
    | .ptr o [] => match ob o with
      | .var (.cons (.str s) (.cons (.err e) (.cons (.bool b) .nil))) | .fvar (.cons (.str s) (.cons (.err e) (.cons (.bool b) .nil))) => some (.flt s e b)
      | _ => none
    | _ => none) none

/-- what a value is once the call's own rows are read -/
def settle (T : Tab Ty) (ob : Nat → Obj Ty) : AV Ty → AV Ty
  | .row o => match ob o with
    | .row t xs => .slice t xs
    | .frow t xs => .slice t xs
    | _ => .undef
  | .view o p t n lo len => match ob o with
    | .var c | .fvar c => match c.get T p with
      | some (.arr t' n' xs) => if h : t' = t then cond (n' == n) (.slice t (((h ▸ xs : List (Ty t)).drop lo).take len)) .undef else .undef
      | _ => .undef
    | _ => .undef
  | .sub o lo len => match ob o with
    | .row t xs | .frow t xs => .slice t ((xs.drop lo).take len)
    | _ => .undef
  | .nils t => .slice t []
  | .slicen t xs => .slice t xs
  | .cons h t => .cons (settle T ob h) (settle T ob t)
  | .tup vs => .tup (settle T ob vs)
  | .iface t v => match errOf T ob t v with
    | some e => .err e
    | none => .iface t (settle T ob v)
  | v => v

/-- a value that holds no slice, and no address -/
def AV.flat (T : Tab Ty) : AV Ty → Bool
  | .bool _ | .int _ _ | .str _ | .nilp | .nils _ | .nil => true
  | .cons h t => h.flat T && t.flat T
  | .arr t _ _ => T.flatTy t
  | .tup v => v.flat T
  | .iface _ v => v.flat T
  | _ => false

/-- a value, its slices and addresses forgotten -/
def AV.forget (T : Tab Ty) : AV Ty → Option (AV Ty)
  | .bool b => some (.bool b)
  | .int k n => some (.int k n)
  | .str s => some (.str s)
  | .nilp => some .nilp
  | .nil => some .nil
  | .nils _ => some .undef
  | .slice _ _ => some .undef
  | .slicen _ _ => some .undef
  | .cptr _ => some .undef
  | .opt _ _ => some .undef
  | .err _ => some .undef
  | .cons h t => match h.forget T, t.forget T with
    | some a, some b => some (.cons a b)
    | _, _ => none
  | .arr t n xs => cond (T.flatTy t) (some (.arr t n xs)) none
  | .tup v => match v.forget T with
    | some a => some (.tup a)
    | none => none
  | _ => none

/-- a called function, of whose answer slices and addresses are not read -/
def FSpec.forget (T : Tab Ty) (sp : FSpec Ty) : FSpec Ty where
  runK k args R K := sp.runK k args R fun r => match r.forget T with
    | some v => K v
    | none => none
  nat := by
    intro k args R K
    have h2 := sp.nat k args (AV Ty) fun r => match r.forget T with
      | some v => some v
      | none => none
    rw [sp.nat k args R, h2]
    cases sp.runK k args (AV Ty) some with
    | none => rfl
    | some r => simp only [Option.bind_some]; cases r.forget T <;> rfl
  alias := false

/-- the nil slice, of the type that is asked for -/
def AV.retype (T : Tab Ty) (t : Nat) : AV Ty → AV Ty
  | .slice u xs => cond (u == 1000000) (match T.td t, xs with
    | .slice e, [] => .slice e []
    | _, _ => .slice u xs) (.slice u xs)
  | v => v
def retypeL (T : Tab Ty) : List Nat → List (AV Ty) → List (AV Ty)
  | t :: ts, v :: vs => v.retype T t :: retypeL T ts vs
  | _, vs => vs
/-- a contract, the nil slices among the arguments being of the types that are asked for -/
def FSpec.retype (T : Tab Ty) (tys : List Nat) (sp : FSpec Ty) : FSpec Ty :=
  { sp with runK := fun k args R K => sp.runK k (retypeL T tys args) R K, nat := fun k args R K => sp.nat k (retypeL T tys args) R K }
def FSpec.typed (T : Tab Ty) (o : Oper) (sp : FSpec Ty) : FSpec Ty := match o.op with
  | .call { argTypes, .. } => sp.retype T argTypes.toList
  | _ => sp
def specAt (T : Tab Ty) (o : Oper) (sp : FSpec Ty) : FSpec Ty := match o.dst with
  | some d => cond (T.fgt.contains d) ((sp.typed T o).forget T) (sp.typed T o)
  | none => sp.typed T o

/-- the objects that a value refers to -/
def AV.ids : AV Ty → List Nat
  | .ptr o _ | .rptr o _ _ | .row o | .view o _ _ _ _ _ | .mapp o | .sub o _ _ => [o]
  | .cptr v => v.ids
  | .cons h t => h.ids ++ t.ids
  | .tup vs => vs.ids
  | .iface _ v => v.ids
  | .clo _ _ v => v.ids
  | _ => []

/-- the rows and arrays that a value shares -/
def AV.shares : AV Ty → List Nat
  | .row o | .view o _ _ _ _ _ | .sub o _ _ => [o]
  | .cons h t => h.shares ++ t.shares
  | .tup vs => vs.shares
  | .iface _ (.ptr o _) => [o]
  | .iface _ v => v.shares
  | _ => []

/-- a value that stands in cells -/
def AV.plain : AV Ty → Bool
  | .undef | .skp | .tup _ => false
  | _ => true

def TD.known : TD → Bool
  | .other | .map _ => false
  | _ => true
def TD.agg : TD → Bool
  | .arr _ _ | .struct _ | .spread _ _ => true
  | _ => false

def TD.noIface : TD → Bool
  | .iface => false
  | _ => true

def partsTy (T : Tab Ty) (g : Nat → AV Ty → Bool) : List (Nat × Nat) → AV Ty → Nat → Bool
  | [], .nil, _ => true
  | p :: fs, .cons h t, off => g p.1 h && p.2 == off && h.size T == T.size p.1 && h.isAgg == (T.td p.1).agg && partsTy T g fs t (off + h.size T)
  | _, _, _ => false

/-- a value of a type, to the bottom (for what may be compared) -/
def hasTy (T : Tab Ty) : Nat → Nat → AV Ty → Bool
  | 0, _, _ => false
  | f + 1, t, v => match T.td t, v with
    | .bool, .bool _ => true
    | .int k, .int k' _ => decide (k = k')
    | .str, .str _ => true
    | .arr n e, .arr e' n' _ => e' == e && n' == n
    | .struct fs, v => partsTy T (hasTy T f) fs v 0
    | _, _ => false

/-- a value of the size and the make of a type -/
def fits (T : Tab Ty) (t : Nat) (v : AV Ty) : Bool := (T.td t).known && v.size T == T.size t && v.isAgg == (T.td t).agg

def freeze (ob : Nat → Obj Ty) (o : Nat) : Nat × Obj Ty :=
  (o, match ob o with
    | .var c => .fvar c
    | .row t xs => .frow t xs
    | .map _ => .dead
    | x => x)

/-- the elements of a settled slice, of a known element type -/
def AV.elems (t : Nat) : AV Ty → Option (List (Ty t))
  | .slice t' xs => if h : t' = t then some (h ▸ xs) else none
  | _ => none

/-- what an operation does: the condition under which it does not panic; its value, and what becomes of objects -/
inductive Eff (Ty : Nat → Type) : Type where
  | fail
  | ok (c : Bool) (v : AV Ty) (ups : List (Nat × Obj Ty))

def ans (v : AV Ty) : Eff Ty := .ok true v []
def ansIf (c : Bool) (v : AV Ty) : Eff Ty := .ok c v []
def does (v : AV Ty) (ups : List (Nat × Obj Ty)) : Eff Ty := .ok true v ups

def constAV : Value → AV Ty
  | .bool b => .bool b
  | .int k n => .int k n
  | .string s => .str s
  | .pointer none => .nilp
  | .slice none 0 0 => .nils 1000000
  | .nilIface => .err .nil
  | _ => .undef

def St.eval (s : St Ty) : Operand → AV Ty
  | .tmp t => s.env t
  | .const v => constAV v
  | .func f => .func f
  | _ => .undef

def AV.eqv (T : Tab Ty) : AV Ty → AV Ty → Option Bool
  | .bool a, .bool b => some (a == b)
  | .int k a, .int k' b => cond (decide (k = k')) (some (a == b)) none
  | .str a, .str b => some (a.toList == b.toList)
  | .nil, .nil => some true
  | .cons a x, .cons b y => match a.eqv T b, x.eqv T y with
    | some p, some q => some (p && q)
    | _, _ => none
  | .arr t n xs, .arr t' n' ys => if h : t = t' then cond (T.eqOk t && n == n') (some (T.eqL t xs (h ▸ ys))) none else none
  | .nilp, .nilp => some true
  | .nilp, .ptr _ _ | .ptr _ _, .nilp => some false
  | _, _ => none

def intOp (op : BinOp) (k : IntKind) (a b : Int) : Eff Ty :=
  match op with
  | .add => ans (.int k (k.wrap (a + b)))
  | .sub => ans (.int k (k.wrap (a - b)))
  | .mul => ans (.int k (k.wrap (a * b)))
  | .quo => ansIf (b != 0) (.int k (k.wrap (a.tdiv b)))
  | .rem => ansIf (b != 0) (.int k (a.tmod b))
  | .and => ans (.int k (k.wrap (BitVec.ofInt k.bits a &&& BitVec.ofInt k.bits b).toNat))
  | .or => ans (.int k (k.wrap (BitVec.ofInt k.bits a ||| BitVec.ofInt k.bits b).toNat))
  | .xor => ans (.int k (k.wrap (BitVec.ofInt k.bits a ^^^ BitVec.ofInt k.bits b).toNat))
  | .andNot => ans (.int k (k.wrap (BitVec.ofInt k.bits a &&& ~~~BitVec.ofInt k.bits b).toNat))
  | .eql => ans (.bool (a == b))
  | .neq => ans (.bool (a != b))
  | .lss => ans (.bool (a < b))
  | .leq => ans (.bool (a ≤ b))
  | .gtr => ans (.bool (a > b))
  | .geq => ans (.bool (a ≥ b))
  | _ => .fail

def shiftOp (op : BinOp) (k : IntKind) (a b : Int) : Eff Ty :=
  match op with
  | .shl => ansIf (0 ≤ b) (.int k (k.wrap (a * 2 ^ min b.toNat k.bits)))
  | .shr => ansIf (0 ≤ b) (.int k (a.fdiv (2 ^ min b.toNat k.bits)))
  | _ => .fail

def binAV (T : Tab Ty) (op : BinOp) (t : Nat) (x y : AV Ty) : Eff Ty :=
  match op, x, y with
  | .shl, .int k a, .int _ b => shiftOp .shl k a b
  | .shr, .int k a, .int _ b => shiftOp .shr k a b
  | .add, .str a, .str b => ansIf (Nat.ble (a.size + b.size) 4294967296) (.str (a ++ b))
  | op, .int k a, .int k' b => cond (decide (k = k')) (intOp op k a b) .fail
  | .eql, x, y => match x.eqv T y with
    | some b => cond (T.cmp t && hasTy T 8 t x && hasTy T 8 t y) (ans (.bool b)) .fail
    | none => .fail
  | .neq, x, y => match x.eqv T y with
    | some b => cond (T.cmp t && hasTy T 8 t x && hasTy T 8 t y) (ans (.bool !b)) .fail
    | none => .fail
  | _, _, _ => .fail

def unAV (op : UnOp) (x : AV Ty) : Eff Ty :=
  match op, x with
  | .not, .bool b => ans (.bool !b)
  | .neg, .int k n => ans (.int k (k.wrap (0 - n)))
  | .xor, .int k n => ans (.int k (k.wrap (BitVec.ofInt k.bits (if k.signed then -1 else k.max) ^^^ BitVec.ofInt k.bits n).toNat))
  | _, _ => .fail

def asNat : AV Ty → Option Int
  | .int _ n => some n
  | _ => none

/-- parts laid into a whole; 'place': where part i lies, and its cells -/
def setParts (T : Tab Ty) (place : Nat → Option (Nat × Nat)) (c : AV Ty) : List (Nat × AV Ty) → Option (AV Ty)
  | [] => some c
  | (i, v) :: r => match place i with
    | none => none
    | some (off, sz) => match c with
      | .arr t n xs => match T.dec t v with
        | some x => cond (decide (i < n) && T.size t == sz && i * sz == off) (setParts T place (.arr t n (xs.set i x)) r) none
        | none => none
      | c => match c.nth i with
        | some old => cond (v.plain && old.size T == sz && v.size T == sz && c.offs T i == off) (match c.setNth i v with
          | some c' => setParts T place c' r
          | none => none) none
        | none => none

def placeOf (T : Tab Ty) (t : Nat) : Nat → Option (Nat × Nat) :=
  match T.td t with
  | .struct fs => fun i => (fs[i]?).map fun p => (p.2, T.size p.1)
  | .arr _ e => fun i => some (i * T.size e, T.size e)
  | .spread _ e => fun i => some (i * T.size e, T.size e)
  | _ => fun _ => none

def roomMost : Nat := 4294967296

def lenOf (ob : Nat → Obj Ty) : AV Ty → Option Nat
  | .slice _ xs => some xs.length
  | .nils _ => some 0
  | .row o => match ob o with
    | .row _ xs | .frow _ xs => some xs.length
    | _ => none
  | .view _ _ _ _ _ len => some len
  | .sub _ _ len => some len
  | _ => none

def inRange (i : Int) (n : Nat) : Bool := decide (0 ≤ i) && decide (i < (n : Int))

def splice {α : Type} (xs ys : List α) (lo m : Nat) : List α := xs.take lo ++ ys.take m ++ xs.drop (lo + m)

def minInt : List (AV Ty) → Option (IntKind × Int)
  | [] => none
  | .int k n :: r => r.foldl (fun a x => match a, x with
    | some (k, m), .int _ y => some (k, if y < m then y else m)
    | _, _ => none) (some (k, n))
  | _ => none
def maxInt : List (AV Ty) → Option (IntKind × Int)
  | [] => none
  | .int k n :: r => r.foldl (fun a x => match a, x with
    | some (k, m), .int _ y => some (k, if y > m then y else m)
    | _, _ => none) (some (k, n))
  | _ => none

/-- elements behind a row of the call's own, or behind none -/
def appTo (fz : Bool) (d : Nat) (ob : Nat → Obj Ty) (x : AV Ty) {e : Nat} (ys : List (Ty e)) (c : Nat → Bool) : Eff Ty :=
  let go (xs : List (Ty e)) (ups : List (Nat × Obj Ty)) : Eff Ty :=
    match ob d with
    | .none => .ok (c xs.length) (.row d) ((d, .row e (xs ++ ys)) :: ups)
    | _ => .fail
  match x with
  | .nils _ => go [] []
  | .row o => match ob o with
    | .row e' xs => if h : e' = e then cond fz (match ob d with
        | .none => .ok (c xs.length) (.slice e ((h ▸ xs : List (Ty e)) ++ ys)) [(d, .frow e ((h ▸ xs : List (Ty e)) ++ ys)), (o, .frow e' xs)]
        | _ => .fail) (go (h ▸ xs) [(o, .dead)]) else .fail
    | _ => .fail
  | _ => .fail

/-- elements behind the beginning of a row of the call's own, into the row -/
def subApp (ob : Nat → Obj Ty) (o lo i : Nat) {e : Nat} (ys : List (Ty e)) : Eff Ty :=
  match ob o with
  | .row e' xs => if h : e' = e then cond (Nat.beq lo 0) (.ok (decide (i + ys.length ≤ xs.length)) (.sub o 0 (i + ys.length)) [(o, .row e (splice (h ▸ xs : List (Ty e)) ys i ys.length))]) .fail else .fail
  | _ => .fail

def builtinAV (T : Tab Ty) (b : Builtin) (d : Nat) (tys : List Nat) (ob : Nat → Obj Ty) (args : List (AV Ty)) : Eff Ty :=
  match b, args with
  | .len, [x] => match tys with
    | [] => .fail
    | t :: _ => match T.td t with
      | .arr n _ => ans (.int .i64 n)
      | .slice _ => match lenOf ob x with
        | some n => ans (.int .i64 n)
        | none => .fail
      | .str => match x with
        | .str s => ans (.int .i64 s.size)
        | _ => .fail
      | _ => .fail
  | .min, l => match minInt l with
    | some (k, n) => ans (.int k n)
    | none => .fail
  | .max, l => match maxInt l with
    | some (k, n) => ans (.int k n)
    | none => .fail
  | .clear, [x] => match tys, x with
    | [t], .sub o lo len => match T.td t, ob o with
      | .slice e', .row e xs => cond (e' == e) (does .undef [(o, .row e (splice xs (List.replicate len (T.dflt e)) lo len))]) .fail
      | _, _ => .fail
    | _, _ => .fail
  | .append, [x, y] =>
    match tys with
    | [] => .fail
    | t :: tys' => match T.td t with
    | .slice e => cond (tys' == [t])
      (match (settle T ob y).elems e with
        | none => .fail
        | some ys => match x with
          | .sub o lo i => subApp ob o lo i ys
          | x => appTo (T.frz.contains d) d ob x ys fun n => decide (n + ys.length ≤ roomMost))
      (match tys' with
        | [tn] => match T.td tn, y with
          | .int _, .int _ m => appTo (T.frz.contains d) d ob x (List.replicate m.toNat (T.dflt e)) fun n => decide (0 ≤ m) && decide (n + m.toNat ≤ roomMost)
          | _, _ => .fail
        | _ => .fail)
    | _ => .fail
  | .copy, [x, y] =>
    match tys with
    | [] => .fail
    | t0 :: _ => match T.td t0 with
    | .slice e =>
      match (settle T ob y).elems e with
      | none => .fail
      | some ys =>
        match x with
        | .view o p t n lo len =>
          match ob o with
          | .var c => match c.get T p with
            | some (.arr t' n' xs) =>
              if h : t' = e then cond (n' == n && t == e) (
                let m := min ys.length len
                match c.put T p (.arr t' n' (splice xs (h ▸ ys) lo m)) with
                | some c' => does (.int .i64 m) [(o, .var c')]
                | none => .fail) .fail else .fail
            | _ => .fail
          | .row r zs => match p with
            | [.idx i _ sz] => cond (sz == T.size r) (match T.enc r (zs.getD i (T.dflt r)) with
              | .arr t' n' xs => if h : t' = e then cond (n' == n && t == e) (
                  let m := min ys.length len
                  match T.dec r (.arr t' n' (splice xs (h ▸ ys) lo m)) with
                  | some z => does (.int .i64 m) [(o, .row r (zs.set i z))]
                  | none => .fail) .fail else .fail
              | _ => .fail) .fail
            | _ => .fail
          | _ => .fail
        | .row o => match ob o with
          | .row e' xs => if h : e' = e then
              let m := min ys.length xs.length
              does (.int .i64 m) [(o, .row e' (splice xs (h ▸ ys) 0 m))] else .fail
          | _ => .fail
        | _ => .fail
    | _ => .fail
  | _, _ => .fail

def sliceAV (T : Tab Ty) (t : Nat) (ob : Nat → Obj Ty) (x : AV Ty) (lo hi mx : Option (AV Ty)) : Eff Ty :=
  let bound (d : Int) : Option (AV Ty) → Option Int
    | none => some d
    | some v => asNat v
  match mx with
  | some _ => .fail
  | none =>
  match T.td t with
  | .arr n e => match x with
    | .ptr o p => match bound 0 lo, bound n hi with
      | some l, some h => ansIf (decide (0 ≤ l) && decide (l ≤ h) && decide (h ≤ (n : Int))) (.view o p e n l.toNat (h - l).toNat)
      | _, _ => .fail
    | .rptr o i [] => match bound 0 lo, bound n hi with
      | some l, some h => match ob o with
        | .row r _ => cond (T.size r == n * T.size e) (ansIf (decide (0 ≤ l) && decide (l ≤ h) && decide (h ≤ (n : Int))) (.view o [.idx i 0 (T.size r)] e n l.toNat (h - l).toNat)) .fail
        | _ => .fail
      | _, _ => .fail
    | _ => .fail
  | .spread n e => match x with
    | .ptr o p => match bound 0 lo, bound n hi with
      | some l, some h => ansIf (decide (0 ≤ l) && decide (l ≤ h) && decide (h ≤ (n : Int))) (.view o p e n l.toNat (h - l).toNat)
      | _, _ => .fail
    | _ => .fail
  | .slice e => match (settle T ob x).elems e with
    | some xs => match bound 0 lo, bound xs.length hi with
      | some l, some h => .ok (decide (0 ≤ l) && decide (l ≤ h) && decide (h ≤ (xs.length : Int))) (.slice e ((xs.take h.toNat).drop l.toNat)) (x.shares.map (freeze ob))
      | _, _ => .fail
    | none => .fail
  | _ => .fail

/-- a part of a row of the call's own -/
def subAV (T : Tab Ty) (t : Nat) (ob : Nat → Obj Ty) (x : AV Ty) (lo hi mx : Option (AV Ty)) : Eff Ty :=
  let bound (d : Int) : Option (AV Ty) → Option Int
    | none => some d
    | some v => asNat v
  let go (o len0 : Nat) : Eff Ty := match T.td t, ob o with
    | .slice e, .row e' xs => cond (e' == e) (match bound 0 lo, bound len0 hi with
      | some l, some h => match mx with
        | none => ansIf (decide (0 ≤ l) && decide (l ≤ h) && decide (h ≤ (xs.length : Int))) (.sub o l.toNat (h - l).toNat)
        | some m => match hi, asNat m with
          | some _, some m => ansIf (decide (0 ≤ l) && decide (l ≤ h) && decide (h ≤ m) && decide (m ≤ (xs.length : Int))) .undef
          | _, _ => .fail
      | _, _ => .fail) .fail
    | _, _ => .fail
  match x with
  | .row o => match ob o with
    | .row _ xs => go o xs.length
    | _ => .fail
  | .sub o 0 len0 => go o len0
  | _ => .fail

/-- bytes as a text -/
def bytesStr (ns : List Int) : ByteArray := ns.foldl (fun r n => r.push (UInt8.ofNat n.toNat)) ByteArray.empty
/-- a number that a typed value is -/
def Tab.num (T : Tab Ty) (t : Nat) (x : Ty t) : Int :=
  match T.enc t x with
  | .int _ n => n
  | _ => 0

/-- the literal of a nil slice -/
def isNilS : Operand → Bool
  | .const (.slice none 0 0) => true
  | _ => false

/-- a slice compared with nil -/
def nilEq (T : Tab Ty) (op : BinOp) (t : Nat) (x : AV Ty) : Eff Ty :=
  match T.td t, op, x with
  | .slice _, .eql, .nils _ => ans (.bool true)
  | .slice _, .eql, .slicen _ _ => ans (.bool false)
  | .slice _, .neq, .nils _ => ans (.bool false)
  | .slice _, .neq, .slicen _ _ => ans (.bool true)
  | .slice _, .eql, .slice _ xs => ansIf (Nat.blt 0 xs.length) (.bool false)
  | .slice _, .neq, .slice _ xs => ansIf (Nat.blt 0 xs.length) (.bool true)
  | _, _, _ => .fail

def moveE (T : Tab Ty) (ty : Nat) (ev : Operand → AV Ty) : Operand → Eff Ty
  | .const (.slice none 0 0) => match T.td ty with
    | .slice e => ans (.nils e)
    | _ => .fail
  | x => ans (ev x)

/-- the literal of no error -/
def isNilI : Operand → Bool
  | .const .nilIface => true
  | _ => false
/-- an error compared with none -/
def nilErr (T : Tab Ty) (op : BinOp) (t : Nat) (x : AV Ty) : Eff Ty :=
  match T.td t, op, x with
  | .iface, .eql, .err e => ans (.bool e.isNil)
  | .iface, .neq, .err e => ans (.bool !e.isNil)
  | _, _, _ => .fail
/-- the literal of no address -/
def isNilP : Operand → Bool
  | .const (.pointer none) => true
  | _ => false
/-- an address compared with none -/
def nilPtr (T : Tab Ty) (op : BinOp) (t : Nat) (x : AV Ty) : Eff Ty :=
  match T.td t, op, x with
  | .ptr _, .eql, .nilp => ans (.bool true)
  | .ptr _, .eql, .ptr _ _ => ans (.bool false)
  | .ptr _, .neq, .nilp => ans (.bool false)
  | .ptr _, .neq, .ptr _ _ => ans (.bool true)
  | .optr _, .eql, .opt _ x => ans (.bool x.isNone)
  | .optr _, .neq, .opt _ x => ans (.bool x.isSome)
  | _, _, _ => .fail
/-- a number as an error -/
def numOf (T : Tab Ty) (t : Nat) (v : AV Ty) : Option Int :=
  cond (t == T.errnoTy) (match v with
    | .int .i64 n => some n
    | _ => none) none

/-- what is stored: a nil slice is of the type told -/
def evS (T : Tab Ty) (t : Nat) (ev : Operand → AV Ty) : Operand → AV Ty
  | .const (.slice none 0 0) => match T.td t with
    | .slice e => .nils e
    | _ => ev (.const (.slice none 0 0))
  | .const (.pointer none) => match T.td t with
    | .optr e => .opt e none
    | _ => .nilp
  | x => ev x

def cellsAV : List (AV Ty) → AV Ty
  | [] => .nil
  | v :: r => .cons v (cellsAV r)
/-- a value that stands in one cell -/
def AV.lone (v : AV Ty) : Bool := v.plain && !v.isAgg
/-- the values of a closure -/
def AV.list : AV Ty → List (AV Ty)
  | .cons h t => h :: t.list
  | _ => []

def sprAt : List (Nat × Nat × Nat) → Nat → Nat → Option Nat
  | [], _, _ => none
  | x :: l, d, t => cond (x.1 == d && x.2.1 == t) (some x.2.2) (sprAt l d t)

/-- one operation; 'd': where its value goes (an object that it makes has that number) -/
def effOp (T : Tab Ty) (o : Oper) (d : Nat) (ev : Operand → AV Ty) (ob : Nat → Obj Ty) : Eff Ty :=
  match o.op with
  | .move x | .assign x => moveE T o.type ev x
  | .pick c a b => match ev c with
    | .bool t => ans (cond t (ev a) (ev b))
    | _ => .fail
  | .alloc t => match ob d with
    | .none => cond ((T.zero t).plain && fits T t (T.zero t)) (does (.ptr d []) [(d, .var (T.zero t))]) .fail
    | _ => .fail
  | .box t x => match ob d with
    | .none => cond ((ev x).plain && fits T t (ev x)) (does (.ptr d []) [(d, .var (ev x))]) .fail
    | _ => .fail
  | .build t parts => match setParts T (placeOf T t) (T.zero t) (parts.toList.map fun p => (p.1, ev p.2)) with
    | some v => cond ((T.td t).known && (T.td t).agg) (ans v) .fail
    | none => .fail
  | .buildSlice t n parts => match T.td t with
    | .slice e => match ob d with
      | .none => cond (Nat.ble (n * T.size e) 16777216) (match setParts T (fun i => some (i * T.size e, T.size e)) (.arr e n (List.replicate n (T.dflt e))) (parts.toList.map fun p => (p.1, settle T ob (ev p.2))) with
        | some (.arr e' _ xs) => does (.row d) ((parts.toList.flatMap fun p => (ev p.2).shares).map (freeze ob) ++ [(d, .row e' xs)])
        | _ => .fail) .fail
      | _ => .fail
    | _ => .fail
  | .load t a => match ev a with
    | .ptr o p => match ob o with
      | .var c | .fvar c => match c.get T p with
        | some v => cond (fits T t v) (ans v) .fail
        | none => .fail
      | _ => .fail
    | .rptr o i p => match ob o with
      | .row e xs | .frow e xs => match (T.enc e (xs.getD i (T.dflt e))).get T p with
        | some v => cond (fits T t v) (ans v) .fail
        | none => .fail
      | _ => .fail
    | .cptr v => cond (fits T t v) (ans v) .fail
    | .opt e x => cond (fits T t (T.enc e (x.getD (T.dflt e)))) (ansIf x.isSome (T.enc e (x.getD (T.dflt e)))) .fail
    | _ => .fail
  | .store t a x => cond ((evS T t ev x).plain && fits T t (evS T t ev x)) (match ev a with
      | .ptr o p => match ob o with
        | .var c => match c.get T p with
          | some old => cond (old.size T == T.size t) (match c.put T p (evS T t ev x) with
            | some c' => does .undef [(o, .var c')]
            | none => .fail) .fail
          | none => .fail
        | _ => .fail
      | .rptr o i p => match ob o with
        | .row e xs => match (T.enc e (xs.getD i (T.dflt e))).get T p with
          | some old => cond (old.size T == T.size t && !((evS T t ev x).shares.contains o)) (match (T.enc e (xs.getD i (T.dflt e))).put T p (settle T ob (evS T t ev x)) with
            | some y => match T.dec e y with
              | some z => does .undef (((evS T t ev x).shares.map (freeze ob)) ++ [(o, .row e (xs.set i z))])
              | none => .fail
            | none => .fail) .fail
          | none => .fail
        | _ => .fail
      | _ => .fail) .fail
  | .nilCheck x => match ev x with
    | .ptr o p => ans (.ptr o p)
    | .rptr o i p => ans (.rptr o i p)
    | .cptr v => ans (.cptr v)
    | .opt e x => ansIf x.isSome (.cptr (T.enc e (x.getD (T.dflt e))))
    | _ => .fail
  | .binOp op t x y _ => cond (isNilS y) (nilEq T op t (ev x)) (cond (isNilI y) (nilErr T op t (ev x)) (cond (isNilP y) (nilPtr T op t (ev x)) (binAV T op t (ev x) (ev y))))
  | .unOp op _ x => unAV op (ev x)
  | .convert src dst x => match T.td src, T.td dst, ev x with
    | .int _, .int k, .int _ n => ans (.int k (k.wrap n))
    | .slice e, .str, v => match T.td e with
      | .int .u8 => match (settle T ob v).elems e with
        | some xs => ans (.str (bytesStr (xs.map (T.num e))))
        | none => .fail
      | _ => .fail
    | _, _, _ => .fail
  | .makeInterface t x => cond ((ev x).plain && (T.td t).known && (T.td t).noIface) (match numOf T t (ev x) with
      | some n => ans (.err (.num n))
      | none => ans (.iface t (ev x))) .fail
  | .makeSlice t l c => match T.td t, asNat (ev l), asNat (ev c), ob d with
    | .slice e, some n, some m, .none => match sprAt T.sprs d t with
      | some q => cond ((T.zero e).plain && !(T.zero e).isAgg && Nat.beq (T.size e) 1 && Nat.ble q roomMost) (.ok (decide (n = m) && decide (n = (q : Int))) (.view d [] e q 0 q) [(d, .var (cellsAV (List.replicate q (T.zero e))))]) .fail
      | none => .ok (decide (n = m) && decide (0 ≤ n) && decide (n ≤ (roomMost : Int))) (.row d) [(d, .row e (List.replicate n.toNat (T.dflt e)))]
    | _, _, _, _ => .fail
  | .slice t x lo hi mx => cond (T.subs.contains (d, t)) (subAV T t ob (ev x) (lo.map ev) (hi.map ev) (mx.map ev)) (sliceAV T t ob (ev x) (lo.map ev) (hi.map ev) (mx.map ev))
  | .sliceToArrayPointer t x => match T.td t with
    | .arr n e => match (settle T ob (ev x)).elems e with
      | some xs => .ok (Nat.blt 0 n && Nat.ble n xs.length) (.cptr (.arr e n (xs.take n))) ((ev x).shares.map (freeze ob))
      | none => .fail
    | _ => .fail
  | .fieldAddr s x f => match T.td s with
    | .struct fs => match fs[f]? with
      | some (_, off) => match ev x with
        | .ptr o p => ans (.ptr o (p ++ [.fld f off]))
        | .rptr o i p => ans (.rptr o i (p ++ [.fld f off]))
        | .cptr c => match c.nth f with
          | some v => cond (c.offs T f == off) (ans (.cptr v)) .fail
          | none => .fail
        | _ => .fail
      | none => .fail
    | _ => .fail
  | .field s x f => match T.td s with
    | .struct fs => match fs[f]? with
      | some (ft, off) => match (ev x).nth f with
        | some v => cond ((ev x).offs T f == off && fits T ft v) (ans v) .fail
        | none => .fail
      | none => .fail
    | _ => .fail
  | .indexAddr t x ix => match asNat (ev ix) with
    | none => .fail
    | some i => match T.td t with
      | .arr n e => match ev x with
        | .ptr o p => ansIf (inRange i n) (.ptr o (p ++ [.idx i.toNat n (T.size e)]))
        | .rptr o j p => ansIf (inRange i n) (.rptr o j (p ++ [.idx i.toNat n (T.size e)]))
        | .cptr (.arr e' n' xs) => cond (e' == e && n' == n) (ansIf (inRange i n) (.cptr (T.enc e' (xs.getD i.toNat (T.dflt e'))))) .fail
        | _ => .fail
      | .spread n e => match ev x with
        | .ptr o p => ansIf (inRange i n) (.ptr o (p ++ [.fld i.toNat (i.toNat * T.size e)]))
        | _ => .fail
      | .slice e => match ev x with
        | .slice e' xs => cond (e' == e) (ansIf (inRange i xs.length) (.cptr (T.enc e' (xs.getD i.toNat (T.dflt e'))))) .fail
        | .row o => match ob o with
          | .row e' xs | .frow e' xs => cond (e' == e) (ansIf (inRange i xs.length) (.rptr o i.toNat [])) .fail
          | _ => .fail
        | .sub o lo len => match ob o with
          | .row e' _ => cond (e' == e) (ansIf (inRange i len) (.rptr o (lo + i.toNat) [])) .fail
          | _ => .fail
        | .view o p e' n lo len => cond (e' == e) (match ob o with
          | .row _ _ => .fail
          | .var c | .fvar c => match c.get T p with
            | some (.cons _ _) => ansIf (inRange i len) (.ptr o (p ++ [.fld (lo + i.toNat) ((lo + i.toNat) * T.size e)]))
            | _ => ansIf (inRange i len) (.ptr o (p ++ [.idx (lo + i.toNat) n (T.size e)]))
          | _ => .fail) .fail
        | _ => .fail
      | _ => .fail
  | .index t x ix => match asNat (ev ix) with
    | none => .fail
    | some i => match T.td t, ev x with
      | .arr n e, .arr e' n' xs => cond (e' == e && n' == n) (ansIf (inRange i n) (T.enc e' (xs.getD i.toNat (T.dflt e')))) .fail
      | .spread n e, c => match c.nth i.toNat with
        | some v => cond (c.offs T i.toNat == i.toNat * T.size e && fits T e v) (ansIf (inRange i n) v) .fail
        | none => .fail
      | _, _ => .fail
  | .makeMap t none => match T.td t, ob d with
    | .map _, .none => does (.mapp d) [(d, .map [])]
    | _, _ => .fail
  | .lookup t m x true => match T.td t, ev m, ev x with
    | .map _, .mapp o, .int .i64 n => match ob o with
      | .map ks => ans (.tup (.cons .undef (.cons (.bool (ks.contains n)) .nil)))
      | _ => .fail
    | _, _, _ => .fail
  | .mapUpdate t m x _ => match T.td t, ev m, ev x with
    | .map _, .mapp o, .int .i64 n => match ob o with
      | .map ks => does .undef [(o, .map (cond (ks.contains n) ks (ks ++ [n])))]
      | _ => .fail
    | _, _, _ => .fail
  | .makeFunc (.func f) first captured => cond (((first ++ captured).toList.map ev).all AV.lone) (ans (.clo f first.size (cellsAV ((first ++ captured).toList.map ev)))) .fail
  | .extract t i => match ev t with
    | .tup vs => match vs.nth i with
      | some v => ans v
      | none => .fail
    | _ => .fail
  | .call { callee := .builtin b, args, argTypes } => builtinAV T b d argTypes.toList ob (args.toList.map ev)
  | _ => .fail

def Obj.upd (ob : Nat → Obj Ty) : List (Nat × Obj Ty) → Nat → Obj Ty
  | [] => ob
  | (o, x) :: r => Obj.upd (fun i => cond (i == o) x (ob i)) r

/-! ### a loop's head: what is kept, and in which objects' order -/

def cbase : Nat := 100000

def NSt.toSt (keep : List Nat) (n : NSt Ty) : St Ty :=
  { env := fun t => ((keep.zip n.tmps).lookup t).getD .undef
    obj := fun o => cond (Nat.blt o cbase) .none (n.objs.getD (o - cbase) .dead) }

/-- old numbers in the order in which they are met; a nil slice becomes a row of its own, without elements -/
inductive Met where
  | old (o : Nat)
  | empty (t : Nat)

def metAt (o : Nat) : List Met → Nat → Option Nat
  | [], _ => none
  | .old p :: l, i => cond (p == o) (some i) (metAt o l (i + 1))
  | _ :: l, i => metAt o l (i + 1)

def meet (o : Nat) (l : List Met) : Nat × List Met :=
  match metAt o l 0 with
  | some i => (cbase + i, l)
  | none => (cbase + l.length, l ++ [.old o])

def AV.renum (l : List Met) : AV Ty → AV Ty × List Met
  | .ptr o p => let (i, l) := meet o l; (.ptr i p, l)
  | .rptr o j p => let (i, l) := meet o l; (.rptr i j p, l)
  | .row o => let (i, l) := meet o l; (.row i, l)
  | .sub o lo len => let (i, l) := meet o l; (.sub i lo len, l)
  | .mapp o => let (i, l) := meet o l; (.mapp i, l)
  | .view o p t n lo len => let (i, l) := meet o l; (.view i p t n lo len, l)
  | .nils t => (.row (cbase + l.length), l ++ [.empty t])
  | .cons h t => let (h, l) := h.renum l; let (t, l) := t.renum l; (.cons h t, l)
  | .tup v => let (v, l) := v.renum l; (.tup v, l)
  | .iface t v => let (v, l) := v.renum l; (.iface t v, l)
  | .cptr v => let (v, l) := v.renum l; (.cptr v, l)
  | .clo f nf v => let (v, l) := v.renum l; (.clo f nf v, l)
  | v => (v, l)

def renumAll : List (AV Ty) → List Met → List (AV Ty) × List Met
  | [], l => ([], l)
  | v :: r, l => let (v, l) := v.renum l; let (r, l) := renumAll r l; (v :: r, l)

def objsOf (s : St Ty) : Nat → Nat → List Met → List (Obj Ty)
  | 0, _, _ => []
  | f + 1, i, l => match l[i]? with
    | none => []
    | some (.empty t) => .row t [] :: objsOf s f (i + 1) l
    | some (.old o) => match s.obj o with
      | .var c => let (c, l) := c.renum l; .var c :: objsOf s f (i + 1) l
      | .fvar c => let (c, l) := c.renum l; .fvar c :: objsOf s f (i + 1) l
      | x => x :: objsOf s f (i + 1) l

/-- what some values refer to, one behind the other; some are met ahead of all -/
def normW (l0 : List Met) (vs : List (AV Ty)) (s : St Ty) : NSt Ty :=
  let (vs, l) := renumAll vs l0
  { tmps := vs, objs := objsOf s 64 0 l }
def pinMets (np : Nat) : List Met := (List.range np).map fun j => .old (cbase + j)
def St.norm (np : Nat) (keep : List Nat) (s : St Ty) : NSt Ty := normW (pinMets np) (keep.map s.env) s

/-- all that is met -/
def metsOf (s : St Ty) : Nat → Nat → List Met → List Met
  | 0, _, l => l
  | f + 1, i, l => match l[i]? with
    | none => l
    | some (.empty _) => metsOf s f (i + 1) l
    | some (.old o) => match s.obj o with
      | .var c => metsOf s f (i + 1) (c.renum l).2
      | .fvar c => metsOf s f (i + 1) (c.renum l).2
      | _ => metsOf s f (i + 1) l


variable (specs : Nat → Option (FSpec Ty))

/-! ### a call that hands over objects -/

def AV.noTup : AV Ty → Bool
  | .tup _ => false
  | _ => true
def AV.noTups : AV Ty → Bool
  | .cons h t => h.noTup && t.noTups
  | _ => true
def AV.isPtr : AV Ty → Bool
  | .ptr _ [] => true
  | _ => false
def AV.ren (f : Nat → Nat) : AV Ty → AV Ty
  | .ptr o p => .ptr (f o) p
  | .rptr o i p => .rptr (f o) i p
  | .cptr v => .cptr (v.ren f)
  | .row o => .row (f o)
  | .sub o lo len => .sub (f o) lo len
  | .mapp o => .mapp (f o)
  | .view o p t n lo len => .view (f o) p t n lo len
  | .cons h t => .cons (h.ren f) (t.ren f)
  | .tup v => .tup (v.ren f)
  | .iface t v => .iface t (v.ren f)
  | .clo g nf v => .clo g nf (v.ren f)
  | v => v
def Obj.ren (f : Nat → Nat) : Obj Ty → Obj Ty
  | .var c => .var (c.ren f)
  | .fvar c => .fvar (c.ren f)
  | x => x
def Obj.isVar : Obj Ty → Bool
  | .var _ => true
  | _ => false
def Obj.isRow : Obj Ty → Bool
  | .row _ _ => true
  | _ => false
def Obj.isNone : Obj Ty → Bool
  | .none => true
  | _ => false
def Obj.isLive : Obj Ty → Bool
  | .var _ | .row _ _ | .map _ => true
  | _ => false
def freshAt (d i : Nat) : Nat := 1000 + 64 * d + i
def heapFresh (d : Nat) : List Nat := (List.range 64).map (freshAt d)
/-- a value that is handed over as it is -/
def AV.isRaw (raw : Bool) : AV Ty → Bool
  | .ptr _ [] => true
  | .clo _ _ _ => true
  | .row _ => raw
  | .sub _ _ _ => raw
  | .view _ _ _ _ _ _ => raw
  | _ => false
def heapShares (raw : Bool) (vs : List (AV Ty)) : List Nat := vs.flatMap fun v => cond (v.isRaw raw) [] v.shares
def heapArgs (T : Tab Ty) (raw : Bool) (ob : Nat → Obj Ty) (vs : List (AV Ty)) : List (AV Ty) := vs.map fun v => cond (v.isRaw raw) v (settle T ob v)
/-- the rows that are handed over as they are: they stay where they are -/
def rawRows (raw : Bool) (vs : List (AV Ty)) : List Nat := cond raw (vs.filterMap fun v => match v with
  | .row o => some o
  | _ => none) []
/-- the caller's objects, behind the freezing of what is handed over to be read -/
def heapSt (raw : Bool) (ob : Nat → Obj Ty) (vs : List (AV Ty)) : St Ty := { env := fun _ => .undef, obj := Obj.upd ob ((heapShares raw vs).map (freeze ob)) }
def metIds (l : List Met) : List Nat := l.filterMap fun m => match m with
  | .old o => some o
  | _ => none
def nodupN : List Nat → Bool
  | [] => true
  | x :: l => !l.contains x && nodupN l

structure HCall (Ty : Nat → Type) where
  sp : FSpec Ty
  n : NSt Ty
  reads : List Nat
  ups : List (Nat × Obj Ty)
  roots : List Nat
  ok : Bool
  ro : Bool := false

def Obj.frz : Obj Ty → Obj Ty
  | .var c => .fvar c
  | .row t xs => .frow t xs
  | .map _ => .dead
  | x => x
/-- the same of a function that only reads: all is frozen for the call -/
def roS (ob : Nat → Obj Ty) : St Ty := { env := fun _ => .undef, obj := fun o => (ob o).frz }
def roM (T : Tab Ty) (raw : Bool) (ob : Nat → Obj Ty) (vs : List (AV Ty)) : List Met := metsOf (roS ob) 64 0 (renumAll (heapArgs T raw ob vs) []).2
def roOf (T : Tab Ty) (sp : FSpec Ty) (d : Nat) (vs : List (AV Ty)) (ob : Nat → Obj Ty) : HCall Ty :=
  { sp := sp, n := normW [] (heapArgs T sp.raw ob vs) (roS ob), reads := heapShares sp.raw vs ++ (metIds (roM T sp.raw ob vs) ++ heapFresh d), ups := [], roots := [], ro := true,
    ok := (heapFresh d).all fun o => (ob o).isNone }

def heapOf0 (T : Tab Ty) (sp : FSpec Ty) (d : Nat) (vs : List (AV Ty)) (ob : Nat → Obj Ty) : HCall Ty :=
  let s1 := heapSt sp.raw ob vs
  let as := heapArgs T sp.raw ob vs
  let m0 := metsOf s1 64 0 (renumAll as []).2
  let roots := ((metIds m0).filter fun o => (s1.obj o).isVar) ++ ((rawRows sp.raw vs).filter fun o => (s1.obj o).isRow)
  let m1 := metsOf s1 64 0 (renumAll as (roots.map .old)).2
  { sp := sp, n := normW (roots.map .old) as s1, reads := heapShares sp.raw vs ++ (rawRows sp.raw vs ++ (metIds m0 ++ (metIds m1 ++ heapFresh d))),
    ups := (heapShares sp.raw vs).map (freeze ob) ++ (((metIds m1).filter fun o => (s1.obj o).isLive).map fun o => (o, .dead)), roots := roots,
    ok := nodupN roots && (heapFresh d).all fun o => (s1.obj o).isNone }

def heapOf (T : Tab Ty) (sp : FSpec Ty) (d : Nat) (vs : List (AV Ty)) (ob : Nat → Obj Ty) : HCall Ty := cond sp.ro (roOf T sp d vs ob) (heapOf0 T sp d vs ob)

/-- a function value: the function, the values ahead of the arguments, those behind them -/
def calleeOf : AV Ty → Option (Nat × List (AV Ty) × List (AV Ty))
  | .func f => some (f, [], [])
  | .clo f nf vs => some (f, vs.list.take nf, vs.list.drop nf)
  | _ => none

/-- the nil slice among the arguments is of the type that is asked for -/
def AV.nilT (T : Tab Ty) (t : Nat) : AV Ty → AV Ty
  | .nils u => cond (u == 1000000) (match T.td t with
    | .slice e => .nils e
    | _ => .nils u) (.nils u)
  | v => v
def nilTL (T : Tab Ty) : List Nat → List (AV Ty) → List (AV Ty)
  | t :: ts, v :: vs => v.nilT T t :: nilTL T ts vs
  | _, vs => vs

def heapCall (T : Tab Ty) (o : Oper) (ev : Operand → AV Ty) (ob : Nat → Obj Ty) : Option (HCall Ty) :=
  match o.op with
  | .call { callee := .value x, args, argTypes } =>
    match calleeOf (ev x) with
    | some (f, first, capt) =>
      match specs f with
      | some sp => cond sp.heap (some (heapOf T sp (o.dst.getD 0) (first ++ (nilTL T argTypes.toList (args.toList.map ev) ++ capt)) ob)) none
      | none => none
    | none => none
  | _ => none

/-- a call that is told by what it does to the caller's objects -/
def primCall (o : Oper) (ev : Operand → AV Ty) (ob : Nat → Obj Ty) : Option (Option (Bool × AV Ty × List (Nat × Obj Ty)) × List Nat) :=
  match o.op with
  | .call { callee := .value x, args, .. } =>
    match ev x with
    | .func f =>
      match specs f with
      | some sp => match sp.prim with
        | some p => some (p.eff (o.dst.getD 0) (args.toList.map ev) ob, p.reads (o.dst.getD 0) (args.toList.map ev))
        | none => none
      | none => none
    | _ => none
  | _ => none

/-- where an object of the call's lies with the caller -/
def heapTo (d : Nat) (roots : List Nat) (i : Nat) : Nat := cond (Nat.blt (i - cbase) roots.length) (roots.getD (i - cbase) 0) (freshAt d (i - cbase))
def idsIn (len : Nat) (v : AV Ty) : Bool := v.ids.all fun i => Nat.ble cbase i && Nat.blt (i - cbase) len
def objIn (len : Nat) : Obj Ty → Bool
  | .var c | .fvar c => idsIn len c
  | _ => true
def heapUps (d : Nat) (roots : List Nat) (objs : List (Obj Ty)) : List (Nat × Obj Ty) :=
  (List.range objs.length).map fun i => (heapTo d roots (cbase + i), (objs.getD i .dead).ren (heapTo d roots))
def heapBack (d : Nat) (roots : List Nat) (n : NSt Ty) : Option (AV Ty × List (Nat × Obj Ty)) :=
  cond (Nat.ble n.objs.length 64 && Nat.ble roots.length n.objs.length && idsIn n.objs.length (n.tmps.getD 0 .undef) && n.objs.all (objIn n.objs.length))
    (some ((n.tmps.getD 0 .undef).ren (heapTo d roots), heapUps d roots n.objs)) none

/-- an answer that holds numbers, texts, and rows of the function's own alone -/
def AV.roOK (T : Tab Ty) (objs : List (Obj Ty)) : AV Ty → Bool
  | .bool _ | .int _ _ | .str _ | .nilp | .nil => true
  | .row o => Nat.ble cbase o && (match objs.getD (o - cbase) .dead with
    | .row t _ => T.flatTy t
    | _ => false)
  | .cons h t => h.roOK T objs && t.roOK T objs
  | .arr t _ _ => T.flatTy t
  | .tup v => v.roOK T objs
  | _ => false
def roUp (T : Tab Ty) (d i : Nat) : Obj Ty → List (Nat × Obj Ty)
  | .row t xs => cond (T.flatTy t) [(freshAt d i, .row t xs)] []
  | _ => []
def roUps (T : Tab Ty) (d : Nat) : Nat → List (Obj Ty) → List (Nat × Obj Ty)
  | _, [] => []
  | i, x :: l => roUp T d i x ++ roUps T d (i + 1) l
def roBack (T : Tab Ty) (d : Nat) (n : NSt Ty) : Option (AV Ty × List (Nat × Obj Ty)) :=
  cond (Nat.ble n.objs.length 64 && (n.tmps.getD 0 .undef).roOK T n.objs) (some ((n.tmps.getD 0 .undef).ren (heapTo d []), roUps T d 0 n.objs)) none
def HCall.back (T : Tab Ty) (h : HCall Ty) (d : Nat) (n : NSt Ty) : Option (AV Ty × List (Nat × Obj Ty)) := cond h.ro (roBack T d n) (heapBack d h.roots n)

/-- a call of a function whose contract is known -/
def callE (T : Tab Ty) (o : Oper) (ev : Operand → AV Ty) (ob : Nat → Obj Ty) : Option (FSpec Ty × List (AV Ty) × List (Nat × Obj Ty)) :=
  match o.op with
  | .call { callee := .value x, args, .. } =>
    match ev x with
    | .func f =>
      match specs f with
      | some sp =>
        cond (args.toList.all fun a => (settle T ob (ev a)).ids.isEmpty)
          (some (specAt T o sp, args.toList.map fun a => settle T ob (ev a), cond (specAt T o sp).alias ((args.toList.flatMap fun a => (ev a).shares).map (freeze ob)) [])) none
      | none => none
    | _ => none
  | _ => none

/-- errors.As(err, the address of a number of the call's own) -/
def asE (T : Tab Ty) (o : Oper) (ev : Operand → AV Ty) (ob : Nat → Obj Ty) : Option (AV Ty × List (Nat × Obj Ty)) :=
  match o.op with
  | .call { callee := .value x, args, .. } =>
    match ev x, args.toList with
    | .func f, [a, t] => cond (T.asOn && f == T.asFn) (match ev a, ev t with
        | .err e, .iface p (.ptr i []) => cond (p == T.errnoPtr) (match ob i with
            | .var (.int .i64 old) => some (.bool e.first.isSome, [(i, .var (.int .i64 (e.first.getD old)))])
            | _ => none) none
        | _, _ => none) none
    | _, _ => none
  | _ => none

def St.put (s : St Ty) (d : Option Nat) (v : AV Ty) (ups : List (Nat × Obj Ty)) : St Ty :=
  { env := match d with
      | some t => fun i => cond (i == t) v (s.env i)
      | none => s.env
    obj := Obj.upd s.obj ups }

def St.set (s : St Ty) (t : Nat) (v : AV Ty) : St Ty := { s with env := fun i => cond (i == t) v (s.env i) }

/-- one operation, then 'K' -/
def opK {R : Type} (T : Tab Ty) (k : Nat) (o : Oper) (s : St Ty) (K : St Ty → Option R) : Option R :=
  match primCall specs o s.eval s.obj with
  | some (x, _) => match x with
    | some (c, v, ups) => cond c (K (s.put o.dst v ups)) none
    | none => none
  | none => match heapCall specs T o s.eval s.obj with
  | some h => cond h.ok (h.sp.runH k h.roots.length h.n R fun n => match h.back T (o.dst.getD 0) n with
    | some (v, ups) => K (s.put o.dst v (h.ups ++ ups))
    | none => none) none
  | none => match callE specs T o s.eval s.obj with
    | some (sp, args, ups) => sp.runK k args R fun v => K (s.put o.dst v ups)
    | none => match asE T o s.eval s.obj with
      | some (v, ups) => K (s.put o.dst v ups)
      | none => match effOp T o (o.dst.getD 0) s.eval s.obj with
        | .fail => none
        | .ok c v ups => cond c (K (s.put o.dst v ups)) none

def guardK {R : Type} (ops : List Oper) (o : Oper) (s : St Ty) (yes no : St Ty → Option R) : Option R :=
  match o.guard with
  | none => yes s
  | some (g, want) => match (ops[g]?).bind (·.dst) with
    | some t => match s.env t with
      | .bool b => cond b (cond want (yes (s.set t (.bool true))) (no (s.set t (.bool true)))) (cond want (no (s.set t (.bool false))) (yes (s.set t (.bool false))))
      | .skp => no s
      | _ => none
    | none => none

def opsK {R : Type} (T : Tab Ty) (k : Nat) (ops : List Oper) : List Oper → St Ty → (St Ty → Option R) → Option R
  | [], s, K => K s
  | o :: r, s, K => guardK ops o s (fun s => opK specs T k o s fun s => opsK T k ops r s K) (fun s => opsK T k ops r (s.put o.dst .skp []) K)

/-! ### a region that draws its order: in the order of the text, and a look at who reads and writes what -/

/-- the objects that an operation looks into -/
def readsOf (o : Oper) (d : Nat) (ev : Operand → AV Ty) : List Nat :=
  match o.op with
  | .alloc _ => [d]
  | .box _ _ => [d]
  | .buildSlice _ _ parts => d :: parts.toList.flatMap fun p => (ev p.2).shares
  | .load _ a => (ev a).ids
  | .store _ a x => (ev a).ids ++ (ev x).shares
  | .makeSlice _ _ _ => [d]
  | .makeMap _ _ => [d]
  | .lookup _ m _ _ => (ev m).ids
  | .mapUpdate _ m _ _ => (ev m).ids
  | .slice _ x _ _ _ => match ev x with
    | .rptr o _ _ => [o]
    | v => v.shares
  | .sliceToArrayPointer _ x => (ev x).shares
  | .convert _ _ x => (ev x).shares
  | .indexAddr _ x _ => (ev x).shares
  | .call { callee := .builtin .append, args, .. } => d :: args.toList.flatMap fun a => (ev a).shares
  | .call { args, .. } => args.toList.flatMap fun a => (ev a).shares
  | _ => []

def Edge.binds (e : Edge) : Bool :=
  match e.ground with
  | .textOnly _ | .gcOnly _ => false
  | _ => true

/-- of an operation those that come ahead of it in any order, as bits -/
def ancOne (acc : List Nat) (o : Oper) : Nat :=
  o.after.toList.foldl (fun m e => cond (Edge.binds e) (m ||| (1 <<< e.on) ||| acc.getD e.on 0) m) 0
def ancsGo : List Nat → List Oper → List Nat
  | acc, [] => acc
  | acc, o :: r => ancsGo (acc ++ [ancOne acc o]) r
def ancs (ops : List Oper) : List Nat := ancsGo [] ops

/-- the temporaries that an operation names, as bits: those that it reads or is guarded by, and its own -/
def touchOf (ops : List Oper) (o : Oper) : Nat :=
  let m := o.op.operands.toList.foldl (fun m x => match x with
    | .tmp t => m ||| (1 <<< t)
    | _ => m) 0
  let m := match o.guard with
    | some (g, _) => match (ops[g]?).bind (·.dst) with
      | some t => m ||| (1 <<< t)
      | none => m
    | none => m
  match o.dst with
    | some t => m ||| (1 <<< t)
    | none => m

def dstIn (o : Oper) (m : Nat) : Bool :=
  match o.dst with
  | some t => m.testBit t
  | none => false

structure Row where
  op : Oper
  anc : Nat
  touch : Nat

def rowsOf (ops : List Oper) : List Oper → List Nat → List Row
  | o :: r, a :: l => ⟨o, a, touchOf ops o⟩ :: rowsOf ops r l
  | _, _ => []

/-- of two operations that may come in either order neither touches the temporary that the other one writes -/
def freeRow (y : Row) : Nat → List Row → Bool
  | _, [] => true
  | j, x :: l => (y.anc.testBit j || (!(dstIn x.op y.touch) && !(dstIn y.op x.touch))) && freeRow y (j + 1) l

def freeRows : List Row → List Row → Bool
  | _, [] => true
  | seen, y :: l => freeRow y 0 seen && (y.op.after.toList.all fun e => !(Edge.binds e) || Nat.blt e.on seen.length) && freeRows (seen ++ [y]) l

structure Acc where
  at_ : Nat
  anc : Nat
  reads : List Nat
  writes : List Nat

def apart (a b : List Nat) : Bool := a.all fun x => !b.contains x

/-- 'y' comes behind 'x' in every order, or neither touches what the other one writes -/
def Acc.fits (x y : Acc) : Bool :=
  (y.anc.testBit x.at_) || (apart x.writes y.writes && apart x.writes y.reads && apart x.reads y.writes)

def accOk : List Acc → Bool
  | [] => true
  | y :: l => (l.all fun x => x.fits y) && accOk l

def opD {R : Type} (T : Tab Ty) (k : Nat) (o : Oper) (at_ anc : Nat) (s : St Ty) (K : Acc → St Ty → Option R) : Option R :=
  match primCall specs o s.eval s.obj with
  | some (x, rs) => match x with
    | some (c, v, ups) => cond c (K ⟨at_, anc, rs, ups.map (·.1)⟩ (s.put o.dst v ups)) none
    | none => none
  | none => match heapCall specs T o s.eval s.obj with
  | some h => cond h.ok (h.sp.runH k h.roots.length h.n R fun n => match h.back T (o.dst.getD 0) n with
    | some (v, ups) => K ⟨at_, anc, h.reads, (h.ups ++ ups).map (·.1)⟩ (s.put o.dst v (h.ups ++ ups))
    | none => none) none
  | none => match callE specs T o s.eval s.obj with
    | some (sp, args, ups) => sp.runK k args R fun v => K ⟨at_, anc, readsOf o (o.dst.getD 0) s.eval, ups.map (·.1)⟩ (s.put o.dst v ups)
    | none => match asE T o s.eval s.obj with
      | some (v, ups) => K ⟨at_, anc, readsOf o (o.dst.getD 0) s.eval, ups.map (·.1)⟩ (s.put o.dst v ups)
      | none => match effOp T o (o.dst.getD 0) s.eval s.obj with
        | .fail => none
        | .ok c v ups => cond c (K ⟨at_, anc, readsOf o (o.dst.getD 0) s.eval, ups.map (·.1)⟩ (s.put o.dst v ups)) none

def addAcc (a : Acc) (l : List Acc) : List Acc :=
  match a.reads, a.writes with
  | [], [] => l
  | _, _ => a :: l

def opsD {R : Type} (T : Tab Ty) (k : Nat) (ops : List Oper) : List Oper → List Nat → Nat → List Acc → St Ty → (St Ty → Option R) → Option R
  | [], _, _, l, s, K => cond (accOk l) (K s) none
  | o :: r, an, i, l, s, K => guardK ops o s
      (fun s => opD specs T k o i (an.headD 0) s fun a s => opsD T k ops r an.tail (i + 1) (addAcc a l) s K)
      (fun s => opsD T k ops r an.tail (i + 1) l (s.put o.dst .skp []) K)

def regionK {R : Type} (T : Tab Ty) (k : Nat) (ops : List Oper) (draw : Bool) (s : St Ty) (K : St Ty → Option R) : Option R :=
  cond draw (cond (freeRows [] (rowsOf ops ops (ancs ops))) (opsD specs T k ops ops (ancs ops) 0 [] s K) none) (opsK specs T k ops ops s K)

inductive Ex where
  | normal | exit (id : Nat) | ret
  deriving DecidableEq

def firstRegion : Code → Nat
  | .region id _ _ => id
  | .seq a _ => firstRegion a
  | .block _ b | .loop b | .scope b => firstRegion b
  | .cond _ a _ => firstRegion a
  | _ => 0

/-- the body of the loop whose first region has a number -/
def loopAt (i : Nat) : Code → Option Code
  | .seq a b => match loopAt i a with
    | some c => some c
    | none => loopAt i b
  | .cond _ a b => match loopAt i a with
    | some c => some c
    | none => loopAt i b
  | .block _ b | .scope b => loopAt i b
  | .loop b => cond (firstRegion b == i) (some b) (loopAt i b)
  | _ => none
def bodyAt (fn : Func) (i : Nat) : Code := ((fn.body.bind (loopAt i)).getD .skip)

/-- a loop: what it finds and what it leaves, normal -/
def loopN {σ τ : Type} (f : τ → Option (Ex × σ)) (ad out : σ → τ) : Nat → τ → Option (Ex × τ)
  | 0, _ => none
  | n + 1, s => match f s with
    | some (.normal, s1) => loopN f ad out n (ad s1)
    | some (e, s1) => some (e, out s1)
    | none => none

/-- of a loop (by the number of its first region): what is kept at its head, and behind it -/
structure Keep where
  head : List Nat
  out : List Nat
  pins : Nat := 0
variable (keeps : Nat → Keep)

/-- the code, to its end -/
def Run (T : Tab Ty) (k : Nat) : Code → St Ty → Option (Ex × St Ty)
  | .skip, s => some (.normal, s)
  | .region _ ops draw, s => regionK specs T k ops.toList draw s fun s => some (.normal, s)
  | .seq a b, s => match Run T k a s with
    | some (.normal, s1) => Run T k b s1
    | x => x
  | .cond c a b, s => match s.eval c with
    | .bool t => cond t (Run T k a s) (Run T k b s)
    | _ => none
  | .block id b, s => match Run T k b s with
    | some (e, s1) => some (if e = .exit id then .normal else e, s1)
    | none => none
  | .loop b, s => match loopN (fun n => Run T k b (n.toSt (keeps (firstRegion b)).head)) (St.norm (keeps (firstRegion b)).pins (keeps (firstRegion b)).head) (St.norm (keeps (firstRegion b)).pins (keeps (firstRegion b)).out) k (s.norm (keeps (firstRegion b)).pins (keeps (firstRegion b)).head) with
    | some (e, n) => some (e, n.toSt (keeps (firstRegion b)).out)
    | none => none
  | .exit id, s => some (.exit id, s)
  | .ret, s => some (.ret, s)
  | _, _ => none

/-- what is known of a loop: what it comes to from what it finds -/
structure LSum (Ty : Nat → Type) where
  runK : Nat → NSt Ty → (R : Type) → (Ex → NSt Ty → Option R) → Option R

variable (lsums : Nat → Option (LSum Ty))

def St.know (s : St Ty) (c : Operand) (b : Bool) : St Ty :=
  match c with
  | .tmp t => s.set t (.bool b)
  | _ => s

/-- the same, each way on to its end; a loop by what is known of it -/
def X (T : Tab Ty) (k : Nat) : Code → St Ty → (R : Type) → (Ex → St Ty → Option R) → Option R
  | .skip, s, _, K => K .normal s
  | .region _ ops draw, s, _, K => regionK specs T k ops.toList draw s (K .normal)
  | .seq a b, s, R, K => X T k a s R fun e s1 => match e with
    | .normal => X T k b s1 R K
    | .exit i => K (.exit i) s1
    | .ret => K .ret s1
  | .cond c a b, s, R, K => match s.eval c with
    | .bool t => cond t (X T k a (s.know c true) R K) (X T k b (s.know c false) R K)
    | _ => none
  | .block id b, s, R, K => X T k b s R fun e s1 => match e with
    | .exit i => cond (i == id) (K .normal s1) (K (.exit i) s1)
    | .normal => K .normal s1
    | .ret => K .ret s1
  | .loop b, s, R, K => match lsums (firstRegion b) with
    | some L => L.runK k (s.norm (keeps (firstRegion b)).pins (keeps (firstRegion b)).head) R fun e n => K e (n.toSt (keeps (firstRegion b)).out)
    | none => none
  | .exit id, s, _, K => K (.exit id) s
  | .ret, s, _, K => K .ret s
  | _, _, _, _ => none

/-- a loop of at most so many rounds, one behind the other -/
def unrollK (T : Tab Ty) (k : Nat) (b : Code) : Nat → NSt Ty → (R : Type) → (Ex → NSt Ty → Option R) → Option R
  | 0, _, _, _ => none
  | m + 1, n, R, K => X specs keeps lsums T k b (n.toSt (keeps (firstRegion b)).head) R fun e s => match e with
    | .normal => unrollK T k b m (s.norm (keeps (firstRegion b)).pins (keeps (firstRegion b)).head) R K
    | .exit i => K (.exit i) (s.norm (keeps (firstRegion b)).pins (keeps (firstRegion b)).out)
    | .ret => K .ret (s.norm (keeps (firstRegion b)).pins (keeps (firstRegion b)).out)
def LSum.unroll (T : Tab Ty) (b : Code) (m : Nat) : LSum Ty :=
  { runK := fun k n R K => cond (Nat.ble m k) (unrollK specs keeps lsums T k b m n R K) none }

/-- a loop's sum out of a typed function: what is found and what is left, as typed data -/
def LSum.of {S O : Type} (ofS : S → NSt Ty) (abs : (n : NSt Ty) → Option {x : S // ofS x = n}) (L : Nat → Nat → S → Option O) (outE : O → Ex) (outN : O → NSt Ty) : LSum Ty :=
  { runK := fun k n _ K => match abs n with
      | some x => (L k k x.1).bind fun y => K (outE y) (outN y)
      | none => none }

/-- one round of a loop, typed -/
def roundK (T : Tab Ty) {S O : Type} (body : Code) (ofS : S → NSt Ty) (abs : (n : NSt Ty) → Option {x : S // ofS x = n}) (outE : O → Ex) (outN : O → NSt Ty)
    (outA : (e : Ex) → (n : NSt Ty) → Option {y : O // outE y = e ∧ outN y = n}) (k : Nat) (again : S → Option O) (x : S) : Option O :=
  X specs keeps lsums T k body ((ofS x).toSt (keeps (firstRegion body)).head) O fun e s => match e with
    | .normal => match abs (s.norm (keeps (firstRegion body)).pins (keeps (firstRegion body)).head) with
      | some y => again y.1
      | none => none
    | .exit i => match outA (.exit i) (s.norm (keeps (firstRegion body)).pins (keeps (firstRegion body)).out) with
      | some y => some y.1
      | none => none
    | .ret => match outA .ret (s.norm (keeps (firstRegion body)).pins (keeps (firstRegion body)).out) with
      | some y => some y.1
      | none => none

def resultAV (T : Tab Ty) (s : St Ty) : ResultVar → Option (AV Ty)
  | .tmp t => some (settle T s.obj (s.env t))
  | .cell a t => match s.env a with
    | .ptr o [] => match s.obj o with
      | .var c | .fvar c => cond (fits T t c) (some (settle T s.obj c)) none
      | _ => none
    | _ => none

def resultsAV (T : Tab Ty) (s : St Ty) : List ResultVar → Option (AV Ty)
  | [] => some .nil
  | r :: l => match resultAV T s r, resultsAV T s l with
    | some v, some w => some (.cons v w)
    | _, _ => none

/-- the address of a variable of the call's own is that of a value that is read alone -/
def optR (T : Tab Ty) (ob : Nat → Obj Ty) (ty : Nat) (v : AV Ty) : AV Ty :=
  match T.td ty with
  | .optr e => match v with
    | .nilp => .opt e none
    | .ptr o [] => match ob o with
      | .var c | .fvar c => match T.dec e (settle T ob c) with
        | some y => .opt e (some y)
        | none => .undef
      | _ => .undef
    | v => v
  | _ => v

def finish (T : Tab Ty) (fn : Func) (s : St Ty) : Option (AV Ty) :=
  match fn.results.toList with
  | [r] => (resultAV T s r).map (optR T s.obj (fn.resultTypes.toList.headD 0))
  | l => match resultsAV T s l with
    | some v => some (.tup v)
    | none => none

def entry (args : List (AV Ty)) : St Ty := { env := fun i => args.getD i .undef, obj := fun _ => .none }

def RunF (T : Tab Ty) (k : Nat) (fn : Func) (args : List (AV Ty)) : Option (AV Ty) :=
  match fn.body with
  | none => none
  | some c => match Run specs keeps T k c (entry args) with
    | some (.normal, s) | some (.ret, s) => finish T fn s
    | _ => none

def XF (T : Tab Ty) (k : Nat) (fn : Func) (args : List (AV Ty)) (R : Type) (dec : AV Ty → Option R) : Option R :=
  match fn.body with
  | none => none
  | some c => X specs keeps lsums T k c (entry args) R fun e s => match e with
    | .exit _ => none
    | .normal | .ret => match finish T fn s with
      | some v => dec v
      | none => none

/-! ### a function that takes or gives objects -/

def resultRaw (T : Tab Ty) (s : St Ty) : ResultVar → Option (AV Ty)
  | .tmp t => some (s.env t)
  | .cell a t => match s.env a with
    | .ptr o [] => match s.obj o with
      | .var c | .fvar c => cond (fits T t c) (some c) none
      | _ => none
    | _ => none

def resultsRaw (T : Tab Ty) (s : St Ty) : List ResultVar → Option (AV Ty)
  | [] => some .nil
  | r :: l => match resultRaw T s r, resultsRaw T s l with
    | some v, some w => some (.cons v w)
    | _, _ => none

/-- parts of rows that are given back become rows -/
def truncT (s : St Ty) : List ResultVar → St Ty
  | [] => s
  | .tmp t :: r => match s.env t with
    | .sub o 0 k => match s.obj o, s.obj (90000 + t) with
      | .row e xs, .none => truncT (s.put (some t) (.row (90000 + t)) [(90000 + t, .row e (xs.take k)), (o, .dead)]) r
      | _, _ => truncT s r
    | _ => truncT s r
  | _ :: r => truncT s r

def finishR (T : Tab Ty) (np : Nat) (fn : Func) (s : St Ty) : Option (NSt Ty) :=
  match fn.results.toList with
  | [r] => match resultRaw T s r with
    | some v => some (normW (pinMets np) [v] s)
    | none => none
  | l => match resultsRaw T s l with
    | some v => cond (v.noTups) (some (normW (pinMets np) [.tup v] s)) none
    | none => none

/-- the answers' slices are read alone from now on -/
def settleR (T : Tab Ty) (s : St Ty) : List ResultVar → St Ty
  | [] => s
  | .cell a _ :: r => match s.env a with
    | .ptr o [] => match s.obj o with
      | .var c => cond (c.shares.contains o) (settleR T s r) (settleR T { s with obj := Obj.upd (Obj.upd s.obj (c.shares.map (freeze s.obj))) [(o, .var (settle T s.obj c))] } r)
      | _ => settleR T s r
    | _ => settleR T s r
  | .tmp t :: r => settleR T { env := fun i => cond (i == t) (settle T s.obj (s.env t)) (s.env i), obj := Obj.upd s.obj ((s.env t).shares.map (freeze s.obj)) } r

def finishH (T : Tab Ty) (np : Nat) (fn : Func) (s : St Ty) : Option (NSt Ty) :=
  cond (T.stl.contains (fn.resultTypes.toList.headD 0, fn.ntmps)) (finishR T np fn (settleR T (truncT s fn.results.toList) fn.results.toList)) (finishR T np fn (truncT s fn.results.toList))

def XH (T : Tab Ty) (k np : Nat) (fn : Func) (n : NSt Ty) (R : Type) (dec : NSt Ty → Option R) : Option R :=
  match fn.body with
  | none => none
  | some c => X specs keeps lsums T k c (n.toSt (List.range n.tmps.length)) R fun e s => match e with
    | .exit _ => none
    | .normal | .ret => match finishH T np fn s with
      | some v => dec v
      | none => none

end
end V
namespace V
open Go

/-- where an object of the call's own lies: a variable's block; a row: its block, its length, its capacity, the cells of an element -/
inductive GObj where
  | var (b : Nat)
  | row (g : Option Nat) (n cap sz : Nat)

def rowVal (g : Option Nat) (n cap : Nat) : Value := .slice (g.map fun b => ⟨b, 0, none⟩) n cap

def GObj.blk : GObj → Option Nat
  | .var b => some b
  | .row g _ _ _ => g

def poff : List Step → Nat
  | [] => 0
  | .fld _ off :: p => off + poff p
  | .idx i _ sz :: p => i * sz + poff p

def pathOK : List Step → Prop
  | [] => True
  | .fld _ _ :: p => pathOK p
  | .idx i n _ :: p => i < n ∧ pathOK p

theorem poff_append (p q : List Step) : poff (p ++ q) = poff p + poff q := by
  induction p with
  | nil => simp [poff]
  | cons s p ih => cases s <;> simp [poff, ih, Nat.add_assoc]
theorem pathOK_append (p q : List Step) : pathOK (p ++ q) ↔ pathOK p ∧ pathOK q := by
  induction p with
  | nil => simp [pathOK]
  | cons s p ih => cases s <;> simp [pathOK, ih, and_assoc]

/-- so many cells from a place on -/
def At (w : World) (b off : Nat) (cs : List Value) : Prop := ∀ j v, cs[j]? = some v → w.cell? ⟨b, off + j, none⟩ = some v

def listAV {Ty : Nat → Type} : List (AV Ty) → AV Ty
  | [] => .nil
  | v :: r => .cons v (listAV r)

section
variable {Ty : Nat → Type} (T : Tab Ty)

def encs (t : Nat) (xs : List (Ty t)) : AV Ty := listAV (xs.map (T.enc t))

/-- an error, in a world -/
inductive ErrRep (w : World) (D : Nat → Prop) : GErr → Value → Prop
  | nil : ErrRep w D .nil .nilIface
  | num (n : Int) : ErrRep w D (.num n) (.iface T.errnoTy (.int .i64 n))
  | flt {what e wraps b off x} : D b → At w b off [.string what, x, .bool wraps] → ErrRep w D e x → ErrRep w D (.flt what e wraps) (.iface T.faultTy (.pointer (some ⟨b, off, none⟩)))

/-- the cells that an abstract value stands for -/
inductive RepC (w : World) (D : Nat → Prop) (gv : Nat → Option GObj) : AV Ty → List Value → Prop
  | undef (v : Value) : v.oneCell' = true → RepC w D gv .undef [v]
  | bool (b : Bool) : RepC w D gv (.bool b) [.bool b]
  | int (k : IntKind) (n : Int) : RepC w D gv (.int k n) [.int k n]
  | str (s : ByteArray) : RepC w D gv (.str s) [.string s]
  | nilp : RepC w D gv .nilp [.pointer none]
  | ptr {o p b} : gv o = some (.var b) → pathOK p → RepC w D gv (.ptr o p) [.pointer (some ⟨b, poff p, none⟩)]
  | rptr {o i p b n cap sz} : gv o = some (.row (some b) n cap sz) → i < n → pathOK p → RepC w D gv (.rptr o i p) [.pointer (some ⟨b, i * sz + poff p, none⟩)]
  | cptr {v b off cs} : D b → At w b off cs → RepC w D gv v cs → RepC w D gv (.cptr v) [.pointer (some ⟨b, off, none⟩)]
  | optn (t : Nat) : RepC w D gv (.opt t none) [.pointer none]
  | opts {t x b off cs} : D b → At w b off cs → RepC w D gv (T.enc t x) cs → RepC w D gv (.opt t (some x)) [.pointer (some ⟨b, off, none⟩)]
  | row {o g n cap sz} : gv o = some (.row g n cap sz) → RepC w D gv (.row o) [rowVal g n cap]
  | mapp {o b} : gv o = some (.var b) → RepC w D gv (.mapp o) [.map (some b)]
  | view {o p t n lo len cap b} : gv o = some (.var b) → pathOK p → lo + len ≤ n → len ≤ cap → RepC w D gv (.view o p t n lo len) [.slice (some ⟨b, poff p + lo * T.size t, none⟩) len cap]
  | vnil {o p t n lo a cap b} : gv o = some (.var b) → pathOK p → lo ≤ n → RepC w D gv (.view o p t n lo 0) [.slice (some a) 0 cap]
  | rview {o i t n lo len cap b nn rc sz} : gv o = some (.row (some b) nn rc sz) → i < nn → sz = n * T.size t → lo + len ≤ n → len ≤ cap → RepC w D gv (.view o [.idx i 0 sz] t n lo len) [.slice (some ⟨b, i * sz + lo * T.size t, none⟩) len cap]
  | rvnil {o i t n lo a cap b nn rc sz} : gv o = some (.row (some b) nn rc sz) → i < nn → lo ≤ n → RepC w D gv (.view o [.idx i 0 sz] t n lo 0) [.slice (some a) 0 cap]
  | sub {o lo len b nn cap sz} : gv o = some (.row (some b) nn cap sz) → lo + len ≤ nn → nn ≤ cap → RepC w D gv (.sub o lo len) [.slice (some ⟨b, lo * sz, none⟩) len (cap - lo)]
  | subz {o lo g nn cap sz a c} : gv o = some (.row g nn cap sz) → 0 < lo → lo ≤ nn → (a = none → c = 0) → RepC w D gv (.sub o lo 0) [.slice a 0 c]
  | sub0 {o cap sz} : gv o = some (.row none 0 cap sz) → RepC w D gv (.sub o 0 0) [.slice none 0 0]
  | snil (t : Nat) (a : Option Addr) (cap : Nat) : (a = none → cap = 0) → RepC w D gv (.slice t []) [.slice a 0 cap]
  | slice {t xs b off cap cs} : D b → xs.length ≤ cap → At w b off cs → RepC w D gv (encs T t xs) cs → RepC w D gv (.slice t xs) [.slice (some ⟨b, off, none⟩) xs.length cap]
  | nils (t : Nat) : RepC w D gv (.nils t) [.slice none 0 0]
  | slicen0 (t : Nat) (a : Addr) (cap : Nat) : RepC w D gv (.slicen t []) [.slice (some a) 0 cap]
  | slicen {t xs b off cap cs} : D b → xs.length ≤ cap → At w b off cs → RepC w D gv (encs T t xs) cs → RepC w D gv (.slicen t xs) [.slice (some ⟨b, off, none⟩) xs.length cap]
  | func (f : Nat) : RepC w D gv (.func f) [.func (.func f) #[] #[]]
  | nil : RepC w D gv .nil []
  | cons {h t ch ct} : RepC w D gv h ch → RepC w D gv t ct → RepC w D gv (.cons h t) (ch ++ ct)
  | arr {t n xs cs} : xs.length = n → RepC w D gv (encs T t xs) cs → RepC w D gv (.arr t n xs) cs
  | err {e x} : ErrRep T w D e x → RepC w D gv (.err e) [x]
  | ifaceS {t v x} : v.isAgg = false → RepC w D gv v [x] → RepC w D gv (.iface t v) [.iface t x]
  | ifaceA {t v cs} : v.isAgg = true → RepC w D gv v cs → RepC w D gv (.iface t v) [.iface t (.agg cs.toArray)]
  | clo {f nf vs cs} : (∀ v ∈ vs.list, v.lone = true) → vs.list.length = cs.length → RepC w D gv vs cs → RepC w D gv (.clo f nf vs) [.func (.func f) (cs.take nf).toArray (cs.drop nf).toArray]

/-- a value that is no tuple -/
inductive RepE (w : World) (D : Nat → Prop) (gv : Nat → Option GObj) : AV Ty → Value → Prop
  | undef (x : Value) : RepE w D gv .undef x
  | skp : RepE w D gv .skp Go.undef
  | agg {v cs} : v.isAgg = true → RepC T w D gv v cs → RepE w D gv v (.agg cs.toArray)
  | one {v x} : v.isAgg = false → RepC T w D gv v [x] → RepE w D gv v x

inductive RepT (w : World) (D : Nat → Prop) (gv : Nat → Option GObj) : AV Ty → List Value → Prop
  | nil : RepT w D gv .nil []
  | cons {h t x xs} : RepE T w D gv h x → RepT w D gv t xs → RepT w D gv (.cons h t) (x :: xs)

inductive RepV (w : World) (D : Nat → Prop) (gv : Nat → Option GObj) : AV Ty → Value → Prop
  | elem {v x} : RepE T w D gv v x → RepV w D gv v x
  | tup {vs xs} : RepT T w D gv vs xs → RepV w D gv (.tup vs) (.tuple xs.toArray)

variable {T}

theorem At.mono {w w' : World} {b off : Nat} {cs : List Value} (h : At w b off cs) (hb : w'.heap[b]? = w.heap[b]?) : At w' b off cs := by
  intro j v hj
  have := h j v hj
  simpa [World.cell?, hb] using this

theorem ErrRep.mono {w w' : World} {D D' : Nat → Prop} {e : GErr} {x : Value} (h : ErrRep T w D e x) (hD : ∀ b, D b → D' b) (hw : ∀ b, D b → w'.heap[b]? = w.heap[b]?) : ErrRep T w' D' e x := by
  induction h with
  | nil => exact .nil
  | num n => exact .num n
  | flt d a _ ih => exact .flt (hD _ d) (a.mono (hw _ d)) ih
theorem ErrRep.one {w : World} {D : Nat → Prop} {e : GErr} {x : Value} (h : ErrRep T w D e x) : x.oneCell' = true := by cases h <;> rfl
theorem ErrRep.nil_iff {w : World} {D : Nat → Prop} {e : GErr} {x : Value} (h : ErrRep T w D e x) : e.isNil = true ↔ x = .nilIface := by cases h <;> simp [GErr.isNil]

theorem RepC.mono {w w' : World} {D D' : Nat → Prop} {gv gv' : Nat → Option GObj} {v : AV Ty} {cs : List Value} (h : RepC T w D gv v cs)
    (hD : ∀ b, D b → D' b) (hw : ∀ b, D b → w'.heap[b]? = w.heap[b]?) (hg : ∀ o g, gv o = some g → gv' o = some g) : RepC T w' D' gv' v cs := by
  induction h with
  | undef v h => exact .undef v h
  | bool b => exact .bool b
  | int k n => exact .int k n
  | str s => exact .str s
  | nilp => exact .nilp
  | ptr h p => exact .ptr (hg _ _ h) p
  | rptr h i p => exact .rptr (hg _ _ h) i p
  | cptr d a _ ih => exact .cptr (hD _ d) (a.mono (hw _ d)) ih
  | optn t => exact .optn t
  | opts d a _ ih => exact .opts (hD _ d) (a.mono (hw _ d)) ih
  | row h => exact .row (hg _ _ h)
  | mapp h => exact .mapp (hg _ _ h)
  | view h p l c => exact .view (hg _ _ h) p l c
  | vnil h p l => exact .vnil (hg _ _ h) p l
  | rview h i e l c => exact .rview (hg _ _ h) i e l c
  | sub h i j => exact .sub (hg _ _ h) i j
  | subz h i j k => exact .subz (hg _ _ h) i j k
  | sub0 h => exact .sub0 (hg _ _ h)
  | rvnil h i l => exact .rvnil (hg _ _ h) i l
  | snil t a c h => exact .snil t a c h
  | slice d l a _ ih => exact .slice (hD _ d) l (a.mono (hw _ d)) ih
  | nils t => exact .nils t
  | slicen0 t a c => exact .slicen0 t a c
  | slicen d l a _ ih => exact .slicen (hD _ d) l (a.mono (hw _ d)) ih
  | func f => exact .func f
  | nil => exact .nil
  | cons _ _ i1 i2 => exact .cons i1 i2
  | arr l _ ih => exact .arr l ih
  | err h => exact .err (h.mono hD hw)
  | ifaceS a _ ih => exact .ifaceS a ih
  | ifaceA a _ ih => exact .ifaceA a ih
  | clo a l _ ih => exact .clo a l ih

theorem RepE.mono {w w' : World} {D D' : Nat → Prop} {gv gv' : Nat → Option GObj} {v : AV Ty} {x : Value} (h : RepE T w D gv v x)
    (hD : ∀ b, D b → D' b) (hw : ∀ b, D b → w'.heap[b]? = w.heap[b]?) (hg : ∀ o g, gv o = some g → gv' o = some g) : RepE T w' D' gv' v x := by
  cases h with
  | undef x => exact .undef x
  | skp => exact .skp
  | agg a h => exact .agg a (h.mono hD hw hg)
  | one a h => exact .one a (h.mono hD hw hg)

theorem RepT.mono {w w' : World} {D D' : Nat → Prop} {gv gv' : Nat → Option GObj} {v : AV Ty} {x : List Value} (h : RepT T w D gv v x)
    (hD : ∀ b, D b → D' b) (hw : ∀ b, D b → w'.heap[b]? = w.heap[b]?) (hg : ∀ o g, gv o = some g → gv' o = some g) : RepT T w' D' gv' v x := by
  induction h with
  | nil => exact .nil
  | cons h _ ih => exact .cons (h.mono hD hw hg) ih

theorem RepV.mono {w w' : World} {D D' : Nat → Prop} {gv gv' : Nat → Option GObj} {v : AV Ty} {x : Value} (h : RepV T w D gv v x)
    (hD : ∀ b, D b → D' b) (hw : ∀ b, D b → w'.heap[b]? = w.heap[b]?) (hg : ∀ o g, gv o = some g → gv' o = some g) : RepV T w' D' gv' v x := by
  cases h with
  | elem h => exact .elem (h.mono hD hw hg)
  | tup h => exact .tup (h.mono hD hw hg)

/-- every cell is one cell -/
theorem RepC.one {w : World} {D : Nat → Prop} {gv : Nat → Option GObj} {v : AV Ty} {cs : List Value} (h : RepC T w D gv v cs) : ∀ x ∈ cs, x.oneCell' = true := by
  induction h with
  | undef v h => simpa using h
  | cons _ _ i1 i2 => intro x hx; exact (List.mem_append.1 hx).elim (i1 x) (i2 x)
  | arr _ _ ih => exact ih
  | nil => intro x hx; cases hx
  | err h => intro x hx; simp only [List.mem_singleton] at hx; subst hx; exact h.one
  | _ => intro x hx; simp only [List.mem_singleton] at hx; subst hx; rfl

/-- what the table of types says is true of the program -/
def TDok (P : Program) (t : Nat) : TD → Prop
  | .other => True
  | .bool => P.underlying t = some .bool
  | .int k => P.underlying t = some (.int k)
  | .str => P.underlying t = some .string
  | .ptr e => P.underlying t = some (.pointer e)
  | .optr e => P.underlying t = some (.pointer e)
  | .slice e => P.underlying t = some (.slice e)
  | .arr n e => P.underlying t = some (.array n e)
  | .struct fs => ∃ fields : Array Field, P.underlying t = some (.struct fields) ∧ fields.toList.map (fun f => (f.type, f.offset)) = fs
  | .iface => ∃ ms, P.underlying t = some (.interface ms)
  | .spread n e => P.underlying t = some (.array n e)
  | .map k => ∃ e i z, P.underlying t = some (.map k e) ∧ P.underlying k = some (.int .i64) ∧ P.info? e = some i ∧ i.zero = some z

/-- '==' between two values of a type comes to what 'eqv' says -/
def EqAt (P : Program) (T : Tab Ty) (n t : Nat) : Prop := ∀ (w : World) (D : Nat → Prop) (gv : Nat → Option GObj) (x y : AV Ty) (X Y : Value) (b : Bool) (f : Nat),
  RepE T w D gv x X → RepE T w D gv y Y → hasTy T f t x = true → hasTy T f t y = true → x.eqv T y = some b → ∀ d, (Op.equalIn (d + n) t X Y).run P w = .ok b w

structure TabOK (P : Program) (T : Tab Ty) : Prop where
  td : ∀ t, TDok P t (T.td t)
  info : ∀ t, (T.td t).known = true → ∃ i z, P.info? t = some i ∧ i.size = T.size t ∧ i.bytes = T.bytes t ∧ T.bytes t ≤ 32768 ∧ 0 < T.size t ∧ i.zero = some z ∧
    (∀ w D gv, RepE T w D gv (T.zero t) z) ∧ (T.zero t).isAgg = (T.td t).agg ∧ (∀ w D gv, RepC T w D gv (T.enc t (T.dflt t)) z.cells.toList)
  fields : ∀ t fs, T.td t = .struct fs → ∀ p ∈ fs, (T.td p.1).known = true
  elem : ∀ t e, (T.td t = .slice e ∨ (∃ n, T.td t = .arr n e) ∨ ∃ n, T.td t = .spread n e) → (T.td e).known = true
  encSize : ∀ t x, (T.enc t x).size T = T.size t
  encAgg : ∀ t x, (T.td t).known = true → (T.enc t x).isAgg = (T.td t).agg
  encIds : ∀ t x, (T.enc t x).ids = []
  encPlain : ∀ t x, (T.enc t x) ≠ .undef ∧ (T.enc t x) ≠ .skp ∧ ∀ vs, (T.enc t x) ≠ .tup vs
  follow : P.follows .mixedOrders = true
  flat : ∀ t x, T.flatTy t = true → (T.enc t x).flat T = true
  num : ∀ t x, T.td t = .int .u8 → ∃ n, T.enc t x = .int .u8 n

/-- what may be compared -/
def CmpOK (P : Program) (T : Tab Ty) : Prop := ∀ t, T.cmp t = true → P.eqGuardType P.depth t = false ∧ ∃ n, n ≤ 10000 ∧ EqAt P T n t

variable {P : Program}

theorem listAV_size (hT : TabOK P T) (t : Nat) (xs : List (Ty t)) : (encs T t xs).size T = xs.length * T.size t := by
  induction xs with
  | nil => simp [encs, listAV, AV.size]
  | cons x r ih =>
    simp only [encs, List.map_cons, listAV, AV.size, List.length_cons] at ih ⊢
    rw [ih, hT.encSize, Nat.add_mul, Nat.one_mul, Nat.add_comm]

theorem RepC.len (hT : TabOK P T) {w : World} {D : Nat → Prop} {gv : Nat → Option GObj} {v : AV Ty} {cs : List Value} (h : RepC T w D gv v cs) : cs.length = v.size T := by
  induction h with
  | cons _ _ i1 i2 => simp [AV.size, i1, i2]
  | arr l _ ih => rw [ih, listAV_size hT, l]; rfl
  | nil => rfl
  | _ => rfl

/-- typed data hold no objects of the call's own -/
theorem RepC.regv (hT : TabOK P T) {w : World} {D : Nat → Prop} {gv gv' : Nat → Option GObj} {v : AV Ty} {cs : List Value} (h : RepC T w D gv v cs) (hi : v.ids = []) : RepC T w D gv' v cs := by
  have hl : ∀ (t : Nat) (xs : List (Ty t)), (encs T t xs).ids = [] := by
    intro t xs
    induction xs with
    | nil => rfl
    | cons x r ih => simp only [encs, List.map_cons, listAV, AV.ids] at ih ⊢; rw [hT.encIds, ih]; rfl
  induction h with
  | undef v h => exact .undef v h
  | bool b => exact .bool b
  | int k n => exact .int k n
  | str s => exact .str s
  | nilp => exact .nilp
  | ptr h p => cases hi
  | rptr h i p => cases hi
  | cptr d a _ ih => exact .cptr d a (ih hi)
  | optn t => exact .optn t
  | opts d a _ ih => exact .opts d a (ih (hT.encIds _ _))
  | row h => cases hi
  | view h p l c => cases hi
  | mapp h => cases hi
  | vnil h _ _ => cases hi
  | rview h _ _ _ _ => cases hi
  | rvnil h _ _ => cases hi
  | sub h => cases hi
  | subz h => cases hi
  | sub0 h => cases hi
  | snil t a c h => exact .snil t a c h
  | slice d l a _ ih => exact .slice d l a (ih (hl _ _))
  | nils t => exact .nils t
  | slicen0 t a c => exact .slicen0 t a c
  | slicen d l a _ ih => exact .slicen d l a (ih (hl _ _))
  | func f => exact .func f
  | nil => exact .nil
  | cons _ _ i1 i2 => simp only [AV.ids, List.append_eq_nil_iff] at hi; exact .cons (i1 hi.1) (i2 hi.2)
  | arr l _ ih => exact .arr l (ih (hl _ _))
  | err h => exact .err h
  | ifaceS a _ ih => exact .ifaceS a (ih hi)
  | ifaceA a _ ih => exact .ifaceA a (ih hi)
  | clo a l _ ih => exact .clo a l (ih hi)
end
end V
namespace V
open Go
section
variable {Ty : Nat → Type} {T : Tab Ty} {P : Program} {w : World} {D : Nat → Prop} {gv : Nat → Option GObj}

theorem nth_rep (hT : TabOK P T) {c : AV Ty} {cs : List Value} (h : RepC T w D gv c cs) : ∀ {i : Nat} {x : AV Ty}, c.nth i = some x →
    ∃ pre sub post, cs = pre ++ sub ++ post ∧ pre.length = c.offs T i ∧ RepC T w D gv x sub := by
  induction h with
  | cons h1 h2 i1 i2 =>
    rename_i hh tt ch ct
    intro i x hx
    cases i with
    | zero =>
      simp only [AV.nth, Option.some.injEq] at hx
      subst hx
      exact ⟨[], ch, ct, by simp, rfl, h1⟩
    | succ i =>
      simp only [AV.nth] at hx
      obtain ⟨pre, sub, post, e, l, r⟩ := i2 hx
      exact ⟨ch ++ pre, sub, post, by simp [e, List.append_assoc], by simp [AV.offs, l, h1.len hT], r⟩
  | _ => intro i x hx; simp [AV.nth] at hx

theorem setNth_rep (hT : TabOK P T) {c : AV Ty} {cs : List Value} (h : RepC T w D gv c cs) : ∀ {i : Nat} {y c' : AV Ty}, c.setNth i y = some c' →
    ∃ pre sub post, cs = pre ++ sub ++ post ∧ pre.length = c.offs T i ∧ (∃ x, c.nth i = some x ∧ RepC T w D gv x sub) ∧ ∀ sub', RepC T w D gv y sub' → RepC T w D gv c' (pre ++ sub' ++ post) := by
  induction h with
  | cons h1 h2 i1 i2 =>
    rename_i hh tt ch ct
    intro i y c' hx
    cases i with
    | zero =>
      simp only [AV.setNth, Option.some.injEq] at hx
      subst hx
      exact ⟨[], ch, ct, by simp, rfl, ⟨hh, rfl, h1⟩, fun sub' hs => by simpa using RepC.cons hs h2⟩
    | succ i =>
      simp only [AV.setNth, Option.map_eq_some_iff] at hx
      obtain ⟨t', ht, rfl⟩ := hx
      obtain ⟨pre, sub, post, e, l, ⟨x, hn, hr⟩, k⟩ := i2 ht
      exact ⟨ch ++ pre, sub, post, by simp [e, List.append_assoc], by simp [AV.offs, l, h1.len hT], ⟨x, hn, hr⟩, fun sub' hs => by
        have := RepC.cons h1 (k sub' hs)
        simpa [List.append_assoc] using this⟩
  | _ => intro i y c' hx; simp [AV.setNth] at hx

theorem encs_rep (hT : TabOK P T) {t : Nat} : ∀ {xs : List (Ty t)} {cs : List Value}, RepC T w D gv (encs T t xs) cs → ∀ {i : Nat} (hi : i < xs.length),
    ∃ pre sub post, cs = pre ++ sub ++ post ∧ pre.length = i * T.size t ∧ RepC T w D gv (T.enc t xs[i]) sub ∧
      ∀ y sub', RepC T w D gv (T.enc t y) sub' → RepC T w D gv (encs T t (xs.set i y)) (pre ++ sub' ++ post) := by
  intro xs
  induction xs with
  | nil => intro cs _ i hi; simp at hi
  | cons x r ih =>
    intro cs h i hi
    simp only [encs, List.map_cons, listAV] at h
    cases h with
    | cons h1 h2 =>
      rename_i ch ct
      cases i with
      | zero => exact ⟨[], ch, ct, by simp, by simp, h1, fun y sub' hs => by simpa [encs, listAV] using RepC.cons hs h2⟩
      | succ i =>
        obtain ⟨pre, sub, post, e, l, k, u⟩ := ih (cs := ct) h2 (i := i) (by simpa using hi)
        refine ⟨ch ++ pre, sub, post, by simp [e, List.append_assoc], ?_, by simpa using k, fun y sub' hs => ?_⟩
        · have hl : ch.length = T.size t := by rw [h1.len hT, hT.encSize]
          simp only [List.length_append, l, hl]
          rw [Nat.add_mul]; omega
        · have := RepC.cons h1 (u y sub' hs)
          simpa [encs, listAV, List.append_assoc] using this

theorem getD_eq {α : Type} {xs : List α} {i : Nat} (h : i < xs.length) (d : α) : xs.getD i d = xs[i] := by
  simp [List.getD, List.getElem?_eq_getElem h]

/-- a part of what is held lies at its place -/
theorem get_rep (hT : TabOK P T) : ∀ (p : List Step) {c v : AV Ty} {cs : List Value}, RepC T w D gv c cs → c.get T p = some v → pathOK p →
    ∃ pre sub post, cs = pre ++ sub ++ post ∧ pre.length = poff p ∧ RepC T w D gv v sub := by
  intro p
  induction p with
  | nil =>
    intro c v cs h hg _
    simp only [AV.get, Option.some.injEq] at hg
    subst hg
    exact ⟨[], cs, [], by simp, rfl, h⟩
  | cons st p ih =>
    intro c v cs h hg hp
    cases st with
    | fld i off =>
      simp only [AV.get] at hg
      split at hg
      · rename_i x hx
        cases hb : (c.offs T i == off) with
        | false => rw [hb] at hg; cases hg
        | true =>
          rw [hb] at hg
          obtain ⟨pre, sub, post, e, l, r⟩ := nth_rep hT h hx
          obtain ⟨pre2, sub2, post2, e2, l2, r2⟩ := ih r hg hp
          refine ⟨pre ++ pre2, sub2, post2 ++ post, by simp [e, e2, List.append_assoc], ?_, r2⟩
          have := beq_iff_eq.1 hb
          simp [poff, l, l2, this]
      · cases hg
    | idx i n sz =>
      unfold AV.get at hg
      split at hg
      · rename_i heq; cases heq
      · rename_i heq; cases heq
      · rename_i t m xs i' n' sz' p' heq
        cases heq
        cases hb : (m == n && T.size t == sz) with
        | false => rw [hb] at hg; cases hg
        | true =>
          rw [hb] at hg
          simp only [Bool.and_eq_true, beq_iff_eq] at hb
          cases h with
          | arr hl h =>
            have hi : i < xs.length := by rw [hl, hb.1]; exact hp.1
            obtain ⟨pre, sub, post, e, l, r, _⟩ := encs_rep hT h hi
            rw [getD_eq hi] at hg
            obtain ⟨pre2, sub2, post2, e2, l2, r2⟩ := ih r hg hp.2
            refine ⟨pre ++ pre2, sub2, post2 ++ post, by simp [e, e2, List.append_assoc], ?_, r2⟩
            simp [poff, l, l2, hb.2]
      · cases hg

/-- a part of what is held is put anew -/
theorem put_rep (hT : TabOK P T) : ∀ (p : List Step) {c v c' : AV Ty} {cs : List Value}, RepC T w D gv c cs → c.put T p v = some c' → pathOK p →
    ∃ pre sub post old, cs = pre ++ sub ++ post ∧ pre.length = poff p ∧ c.get T p = some old ∧ RepC T w D gv old sub ∧
      ∀ sub', RepC T w D gv v sub' → RepC T w D gv c' (pre ++ sub' ++ post) := by
  intro p
  induction p with
  | nil =>
    intro c v c' cs h hg _
    simp only [AV.put, Option.some.injEq] at hg
    subst hg
    exact ⟨[], cs, [], c, by simp, rfl, rfl, h, fun sub' hs => by simpa using hs⟩
  | cons st p ih =>
    intro c v c' cs h hg hp
    cases st with
    | fld i off =>
      simp only [AV.put] at hg
      split at hg
      · rename_i x hx
        cases hb : (c.offs T i == off) with
        | false => rw [hb] at hg; cases hg
        | true =>
          rw [hb] at hg
          simp only [cond_true] at hg
          split at hg
          · rename_i y hy
            obtain ⟨pre, sub, post, e, l, ⟨x', hn, hr⟩, k⟩ := setNth_rep hT h hg
            rw [hx] at hn
            cases hn
            obtain ⟨pre2, sub2, post2, old, e2, l2, g2, r2, k2⟩ := ih hr hy hp
            refine ⟨pre ++ pre2, sub2, post2 ++ post, old, by simp [e, e2, List.append_assoc], ?_, ?_, r2, fun sub' hs => ?_⟩
            · have := beq_iff_eq.1 hb
              simp [poff, l, l2, this]
            · simp only [AV.get, hx, hb, cond_true, g2]
            · have := k _ (k2 sub' hs)
              simpa [List.append_assoc] using this
          · cases hg
      · cases hg
    | idx i n sz =>
      unfold AV.put at hg
      split at hg
      · rename_i heq; cases heq
      · rename_i heq; cases heq
      · rename_i t m xs i' n' sz' p' heq
        cases heq
        cases hb : (m == n && T.size t == sz) with
        | false => rw [hb] at hg; cases hg
        | true =>
          rw [hb] at hg
          simp only [cond_true] at hg
          have hb' := hb
          simp only [Bool.and_eq_true, beq_iff_eq] at hb'
          cases h with
          | arr hl h =>
            have hi : i < xs.length := by rw [hl, hb'.1]; exact hp.1
            obtain ⟨pre, sub, post, e, l, r, k⟩ := encs_rep hT h hi
            rw [getD_eq hi] at hg
            split at hg
            · rename_i y hy
              split at hg
              · rename_i z hz
                cases hg
                obtain ⟨pre2, sub2, post2, old, e2, l2, g2, r2, k2⟩ := ih r hy hp.2
                refine ⟨pre ++ pre2, sub2, post2 ++ post, old, by simp [e, e2, List.append_assoc], ?_, ?_, r2, fun sub' hs => ?_⟩
                · simp [poff, l, l2, hb'.2]
                · unfold AV.get
                  simp only [hb, cond_true, getD_eq hi, g2]
                · have he : T.enc t z = y := (T.den t).spec y z hz
                  have := k z (pre2 ++ sub' ++ post2) (by rw [he]; exact k2 sub' hs)
                  exact RepC.arr (by simp [hl]) (by simpa [List.append_assoc] using this)
              · cases hg
            · cases hg
      · cases hg

theorem At.append_left {b off : Nat} {xs ys : List Value} (h : At w b off (xs ++ ys)) : At w b off xs := by
  intro j v hj
  exact h j v (by rw [List.getElem?_append_left (List.getElem?_eq_some_iff.1 hj).1]; exact hj)
theorem At.append_right {b off : Nat} {xs ys : List Value} (h : At w b off (xs ++ ys)) : At w b (off + xs.length) ys := by
  intro j v hj
  have := h (xs.length + j) v (by rw [List.getElem?_append_right (by omega)]; simpa using hj)
  simpa [Nat.add_assoc] using this
theorem At.mid {b off : Nat} {xs ys zs : List Value} (h : At w b off (xs ++ ys ++ zs)) : At w b (off + xs.length) ys := h.append_left.append_right
theorem At.block {b : Nat} {cur : Array Value} {e : TypeId} {fr : Nat × Nat} (h : w.heap[b]? = some (.cells cur e fr)) : At w b 0 cur.toList := by
  intro j v hj
  simp only [World.cell?, h, Nat.zero_add]
  simpa using hj
end
end V
namespace V
open Go
section
variable {Ty : Nat → Type} (T : Tab Ty) (P : Program)

/-- where a call begins: its world, and the blocks that are handed over to it -/
structure Base where
  world : World
  fp : Nat → Prop
  /-- the objects that are to stay where they are -/
  pin : Nat → Option GObj := fun _ => none
/-- a block that is the call's own: handed over, or new -/
def Base.Own (B : Base) (b : Nat) : Prop := B.fp b ∨ B.world.heap.size ≤ b
/-- all else stays as it was -/
structure Base.Grown (B : Base) (w : World) : Prop where
  os : w.os = B.world.os
  tape : w.tape = B.world.tape
  output : w.output = B.world.output
  size : B.world.heap.size ≤ w.heap.size
  block : ∀ k, k < B.world.heap.size → ¬ B.fp k → w.heap[k]? = B.world.heap[k]?

theorem Base.Grown.next {B : Base} {w w' : World} (h : B.Grown w) {row : Option Nat} (hg : w.grownBy w' row) (hr : ∀ k, row = some k → B.Own k) : B.Grown w' :=
  ⟨hg.os.trans h.os, hg.tape.trans h.tape, hg.output.trans h.output, Nat.le_trans h.size hg.size, fun k h1 h2 => by
    rw [hg.block k (Nat.lt_of_lt_of_le h1 h.size) fun e => by
      rcases hr k e.symm with h3 | h3
      · exact h2 h3
      · omega]
    exact h.block k h1 h2⟩

theorem Base.Grown.grownBy {B : Base} {w : World} (h : B.Grown w) (hf : ∀ b, ¬ B.fp b) : B.world.grownBy w none :=
  ⟨h.os, h.tape, h.output, h.size, fun k h1 _ => h.block k h1 (hf k)⟩

/-- what is known of an object of the call's own -/
inductive ObjOK (w : World) (Own : Nat → Prop) (D : Nat → Prop) (gv : Nat → Option GObj) (o : Nat) : Obj Ty → Prop
  | none : gv o = none → ObjOK w Own D gv o .none
  | dead : ObjOK w Own D gv o .dead
  | var {c b cs e} : gv o = some (.var b) → Own b → ¬ D b → w.heap[b]? = some (.cells cs e (0, 0)) → RepC T w D gv c cs.toList → ObjOK w Own D gv o (.var c)
  | fvar {c b cs e} : gv o = some (.var b) → D b → w.heap[b]? = some (.cells cs e (0, 0)) → RepC T w D gv c cs.toList → ObjOK w Own D gv o (.fvar c)
  | row {t xs g cap flat} : gv o = some (.row g xs.length cap (T.size t)) → RepC T w D gv (encs T t xs) flat → w.ownsRow 0 t (T.size t) (rowVal g xs.length cap) xs.length flat →
      (∀ b, g = some b → Own b ∧ ¬ D b) → ObjOK w Own D gv o (.row t xs)
  | frow {t xs g cap} : gv o = some (.row g xs.length cap (T.size t)) → RepC T w D gv (.slice t xs) [rowVal g xs.length cap] → ObjOK w Own D gv o (.frow t xs)
  | map {ks b es clock} : gv o = some (.var b) → Own b → ¬ D b → w.heap[b]? = some (.map es clock) → es.toList.map (·.key) = ks.map (fun n => .int .i64 n) → ObjOK w Own D gv o (.map ks)

def Obj.live : Obj Ty → Bool
  | .var _ | .row _ _ | .map _ => true
  | _ => false

/-- the package-level variables that are told of hold what is told -/
def GlobOK (T : Tab Ty) (w : World) : Prop := ∀ p ∈ T.globs, w.cell? ⟨p.1, 0, none⟩ = some p.2
def Base.glob (B : Base) (T : Tab Ty) : Prop := GlobOK T B.world ∧ ∀ p ∈ T.globs, ¬ B.fp p.1

/-- the abstract state tells of the frame and the world -/
structure Inv (w0 : Base) (D0 : Nat → Prop) (N : Nat) (s : St Ty) (a : Act) (w : World) (D : Nat → Prop) (gv : Nat → Option GObj) : Prop where
  defers : a.defers = []
  size : a.tmps.size = N
  env : ∀ t, RepV T w D gv (s.env t) (a.tmps.getD t Go.undef)
  obj : ∀ o, ObjOK T w w0.Own D gv o (s.obj o)
  apart : ∀ o o' g g' b, o ≠ o' → (s.obj o).live = true → (s.obj o').live = true → gv o = some g → gv o' = some g' → g.blk = some b → g'.blk ≠ some b
  grown : w0.Grown w
  dold : ∀ b, D0 b → D b
  dlt : ∀ b, D b → b < w.heap.size
  dnew : ∀ b, D b → D0 b ∨ w0.Own b
  glob : w0.glob T
  pins : ∀ j b, w0.pin j = some b → gv (cbase + j) = some b

def Gam (w0 : Base) (D0 : Nat → Prop) (N : Nat) (s : St Ty) (a : Act) (w : World) : Prop := ∃ D gv, Inv T w0 D0 N s a w D gv

variable {T P} {w0 : Base} {D0 : Nat → Prop} {N : Nat} {s : St Ty} {a : Act} {w : World} {D : Nat → Prop} {gv : Nat → Option GObj}

theorem getD_put (a : Act) (d : Tmp) (x : Value) (t : Nat) (hd : d < a.tmps.size) : (a.put (some d) x).tmps.getD t Go.undef = if t = d then x else a.tmps.getD t Go.undef := by
  by_cases h : t = d
  · subst h; simp [Act.put, Array.getD_eq_getD_getElem?, hd]
  · simp [Act.put, Array.getD_eq_getD_getElem?, h, Array.getElem?_setIfInBounds_ne (Ne.symm h)]

theorem Inv.globOK (h : Inv T w0 D0 N s a w D gv) : GlobOK T w := by
  intro p hp
  have h1 := h.glob.1 p hp
  have hlt : p.1 < w0.world.heap.size := by
    rcases Nat.lt_or_ge p.1 w0.world.heap.size with h2 | h2
    · exact h2
    · simp [World.cell?, Array.getElem?_eq_none h2] at h1
  have h2 := h.grown.block p.1 hlt (h.glob.2 p hp)
  rw [← h1]
  exact World.cell?_of_block (a := ⟨p.1, 0, none⟩) h2

/-- a value into a temporary -/
theorem Inv.put (h : Inv T w0 D0 N s a w D gv) {dst : Option Nat} (hd : ∀ d, dst = some d → d < N) {v : AV Ty} {x : Value} (hv : RepV T w D gv v x) :
    Inv T w0 D0 N (s.put dst v []) (a.put dst x) w D gv := by
  cases dst with
  | none => exact { defers := h.defers, size := h.size, env := h.env, obj := h.obj, apart := h.apart, grown := h.grown, dold := h.dold, dlt := h.dlt, dnew := h.dnew, glob := h.glob, pins := h.pins }
  | some d =>
    have hdN := hd d rfl
    refine { defers := h.defers, size := by simp [Act.put, h.size], env := fun t => ?_, obj := h.obj, apart := h.apart, grown := h.grown, dold := h.dold, dlt := h.dlt, dnew := h.dnew, glob := h.glob, pins := h.pins }
    rw [getD_put a d x t (by rw [h.size]; exact hdN)]
    simp only [St.put]
    by_cases e : t = d
    · subst e; simpa using hv
    · have : (t == d) = false := by simpa using e
      simp only [this, e, cond_false, if_false]
      exact h.env t

theorem Inv.put_ups {ups : List (Nat × Obj Ty)} (h : Inv T w0 D0 N { s with obj := Obj.upd s.obj ups } a w D gv) {dst : Option Nat} (hd : ∀ d, dst = some d → d < N) {v : AV Ty} {x : Value} (hv : RepV T w D gv v x) :
    Inv T w0 D0 N (s.put dst v ups) (a.put dst x) w D gv := h.put hd hv

theorem Inv.eval (h : Inv T w0 D0 N s a w D gv) (x : Operand) : RepV T w D gv (s.eval x) (a.eval x) := by
  have hu : ∀ x, RepV T w D gv (.undef : AV Ty) x := fun x => .elem (.undef x)
  cases x with
  | tmp t => exact h.env t
  | const v =>
    simp only [St.eval, Act.eval]
    cases v with
    | bool b => exact .elem (.one rfl (.bool b))
    | int k n => exact .elem (.one rfl (.int k n))
    | string s => exact .elem (.one rfl (.str s))
    | pointer p => cases p with
      | none => exact .elem (.one rfl .nilp)
      | some p => exact hu _
    | nilIface => exact .elem (.one rfl (.err .nil))
    | slice b l c =>
      cases b with
      | some _ => exact hu _
      | none =>
        cases l with
        | succ _ => exact hu _
        | zero =>
          cases c with
          | succ _ => exact hu _
          | zero => exact .elem (.one rfl (.nils _))
    | _ => exact hu _
  | global g => exact hu _
  | func f => exact .elem (.one rfl (.func f))

/-- a value that stands in one cell, or is of cells: out of what represents it -/
theorem RepV.one_inv {v : AV Ty} {x : Value} (h : RepV T w D gv v x) (h1 : v.isAgg = false) (h2 : v ≠ .undef) (h3 : v ≠ .skp) (h4 : ∀ vs, v ≠ .tup vs) : RepC T w D gv v [x] := by
  cases h with
  | elem h => cases h with
    | undef => exact absurd rfl h2
    | skp => exact absurd rfl h3
    | agg a _ => rw [h1] at a; cases a
    | one _ h => exact h
  | tup h => exact absurd rfl (h4 _)
theorem RepV.agg_inv {v : AV Ty} {x : Value} (h : RepV T w D gv v x) (h1 : v.isAgg = true) : ∃ cs, x = .agg cs.toArray ∧ RepC T w D gv v cs := by
  cases h with
  | elem h => cases h with
    | undef => cases h1
    | skp => cases h1
    | agg _ h => exact ⟨_, rfl, h⟩
    | one a _ => rw [h1] at a; cases a
  | tup h => cases h1
theorem RepV.int_inv {k : IntKind} {n : Int} {x : Value} (h : RepV T w D gv (.int k n : AV Ty) x) : x = .int k n := by
  have := h.one_inv rfl (by simp) (by simp) (by simp); cases this; rfl
theorem RepV.bool_inv {b : Bool} {x : Value} (h : RepV T w D gv (.bool b : AV Ty) x) : x = .bool b := by
  have := h.one_inv rfl (by simp) (by simp) (by simp); cases this; rfl
theorem RepV.str_inv {b : ByteArray} {x : Value} (h : RepV T w D gv (.str b : AV Ty) x) : x = .string b := by
  have := h.one_inv rfl (by simp) (by simp) (by simp); cases this; rfl
theorem RepV.nilp_inv {x : Value} (h : RepV T w D gv (.nilp : AV Ty) x) : x = .pointer none := by
  have := h.one_inv rfl (by simp) (by simp) (by simp); cases this; rfl
theorem RepV.err_inv {e : GErr} {x : Value} (h : RepV T w D gv (.err e : AV Ty) x) : ErrRep T w D e x := by
  have := h.one_inv rfl (by simp) (by simp) (by simp); cases this; assumption
theorem RepV.func_inv {f : Nat} {x : Value} (h : RepV T w D gv (.func f : AV Ty) x) : x = .func (.func f) #[] #[] := by
  have := h.one_inv rfl (by simp) (by simp) (by simp); cases this; rfl
theorem RepV.clo_inv {f nf : Nat} {vs : AV Ty} {x : Value} (h : RepV T w D gv (.clo f nf vs : AV Ty) x) : ∃ cs, (∀ v ∈ vs.list, v.lone = true) ∧ vs.list.length = cs.length ∧ RepC T w D gv vs cs ∧ x = .func (.func f) (cs.take nf).toArray (cs.drop nf).toArray := by
  have := h.one_inv rfl (by simp) (by simp) (by simp); cases this; exact ⟨_, ‹_›, ‹_›, ‹_›, rfl⟩
/-- the values of a closure, one by one -/
theorem RepC.list_get {vs : AV Ty} {cs : List Value} (h : RepC T w D gv vs cs) : (∀ v ∈ vs.list, v.lone = true) → vs.list.length = cs.length → ∀ (i : Nat) v, vs.list[i]? = some v → RepV T w D gv v (cs.getD i Go.undef) := by
  induction h with
  | @cons hh tt ch ct h1 h2 _ i2 =>
    intro hl hn i v hi
    simp only [AV.list] at hl hn hi
    have hlone := hl hh (by simp)
    have hagg : hh.isAgg = false := by
      simp only [AV.lone, Bool.and_eq_true, Bool.not_eq_true'] at hlone
      exact hlone.2
    have : ∃ x, ch = [x] := by cases h1 <;> first | exact ⟨_, rfl⟩ | cases hagg
    obtain ⟨x, rfl⟩ := this
    cases i with
    | zero =>
      simp only [List.getElem?_cons_zero, Option.some.injEq] at hi
      subst hi
      exact .elem (.one hagg h1)
    | succ i =>
      simp only [List.getElem?_cons_succ] at hi
      have := i2 (fun v hv => hl v (by simp [hv])) (by simpa using hn) i v hi
      simpa using this
  | _ => intro _ _ i v hi; simp [AV.list] at hi
theorem RepV.ptr_inv {o : Nat} {p : List Step} {x : Value} (h : RepV T w D gv (.ptr o p : AV Ty) x) : ∃ b, gv o = some (.var b) ∧ pathOK p ∧ x = .pointer (some ⟨b, poff p, none⟩) := by
  have := h.one_inv rfl (by simp) (by simp) (by simp); cases this; exact ⟨_, ‹_›, ‹_›, rfl⟩
theorem RepV.rptr_inv {o i : Nat} {p : List Step} {x : Value} (h : RepV T w D gv (.rptr o i p : AV Ty) x) :
    ∃ b n cap sz, gv o = some (.row (some b) n cap sz) ∧ i < n ∧ pathOK p ∧ x = .pointer (some ⟨b, i * sz + poff p, none⟩) := by
  have := h.one_inv rfl (by simp) (by simp) (by simp); cases this; exact ⟨_, _, _, _, ‹_›, ‹_›, ‹_›, rfl⟩
theorem RepV.cptr_inv {v : AV Ty} {x : Value} (h : RepV T w D gv (.cptr v : AV Ty) x) :
    ∃ b off cs, D b ∧ At w b off cs ∧ RepC T w D gv v cs ∧ x = .pointer (some ⟨b, off, none⟩) := by
  have := h.one_inv rfl (by simp) (by simp) (by simp); cases this; exact ⟨_, _, _, ‹_›, ‹_›, ‹_›, rfl⟩
theorem RepV.opt_inv {t : Nat} {y : Option (Ty t)} {x : Value} (h : RepV T w D gv (.opt t y : AV Ty) x) :
    (y = none ∧ x = .pointer none) ∨ ∃ z b off cs, y = some z ∧ D b ∧ At w b off cs ∧ RepC T w D gv (T.enc t z) cs ∧ x = .pointer (some ⟨b, off, none⟩) := by
  have := h.one_inv rfl (by simp) (by simp) (by simp)
  cases this with
  | optn => exact .inl ⟨rfl, rfl⟩
  | opts d a r => exact .inr ⟨_, _, _, _, rfl, d, a, r, rfl⟩
theorem RepV.row_inv {o : Nat} {x : Value} (h : RepV T w D gv (.row o : AV Ty) x) : ∃ g n cap sz, gv o = some (.row g n cap sz) ∧ x = rowVal g n cap := by
  have := h.one_inv rfl (by simp) (by simp) (by simp); cases this; exact ⟨_, _, _, _, ‹_›, rfl⟩

/-- a value of whatever kind but a tuple, undef: its cells -/
theorem RepV.cells {v : AV Ty} {x : Value} (h : RepV T w D gv v x) (h2 : v ≠ .undef) (h3 : v ≠ .skp) (h4 : ∀ vs, v ≠ .tup vs) :
    RepC T w D gv v x.cells.toList := by
  cases ha : v.isAgg with
  | true => obtain ⟨cs, rfl, hc⟩ := h.agg_inv ha; simpa [Value.cells] using hc
  | false =>
    have hc := h.one_inv ha h2 h3 h4
    have h1 := hc.one x (by simp)
    have : x.cells = #[x] := by cases x <;> first | rfl | cases h1
    simpa [this] using hc
theorem RepC.toV {v : AV Ty} {cs : List Value} (h : RepC T w D gv v cs) : RepV T w D gv v (if v.isAgg then .agg cs.toArray else cs.headD Go.undef) := by
  cases ha : v.isAgg with
  | true => exact .elem (.agg ha h)
  | false =>
    have : ∃ x, cs = [x] := by cases h <;> first | exact ⟨_, rfl⟩ | cases ha
    obtain ⟨x, rfl⟩ := this
    exact .elem (.one ha h)

theorem ownsRow_same {w' : World} {base : Nat} {e : TypeId} {size : Nat} {v : Value} {n : Nat} {xs : List Value} (h : w.ownsRow base e size v n xs)
    (hb : ∀ k, v.ownBlock = some k → w'.heap[k]? = w.heap[k]?) : w'.ownsRow base e size v n xs := by
  refine ⟨h.1, ?_⟩
  rcases h.2 with hn | ⟨g, cap, cur, rfl, hb', hg, rest⟩
  · exact .inl hn
  · exact .inr ⟨g, cap, cur, rfl, hb', by rw [hb g rfl]; exact hg, rest⟩

/-- an object whose block stays as it was -/
theorem ObjOK.mono {w' : World} {D' : Nat → Prop} {gv' : Nat → Option GObj} {Own : Nat → Prop} {o : Nat} {x : Obj Ty} (h : ObjOK T w Own D gv o x)
    (hD : ∀ b, D b → D' b) (hw : ∀ b, D b → w'.heap[b]? = w.heap[b]?) (hg : ∀ o g, gv o = some g → gv' o = some g)
    (hn : gv o = Option.none → gv' o = Option.none) (hb : x.live = true → ∀ g b, gv o = some g → g.blk = some b → w'.heap[b]? = w.heap[b]? ∧ ¬ D' b) : ObjOK T w' Own D' gv' o x := by
  cases h with
  | none h => exact .none (hn h)
  | dead => exact .dead
  | var h1 h2 h3 h4 h5 =>
    obtain ⟨k1, k2⟩ := hb rfl _ _ h1 rfl
    exact .var (hg _ _ h1) h2 k2 (by rw [k1]; exact h4) (h5.mono hD hw hg)
  | fvar h1 h2 h3 h4 => exact .fvar (hg _ _ h1) (hD _ h2) (by rw [hw _ h2]; exact h3) (h4.mono hD hw hg)
  | row h1 h2 h3 h4 =>
    refine .row (hg _ _ h1) (h2.mono hD hw hg) (ownsRow_same h3 fun k hk => ?_) (fun b e => ⟨(h4 b e).1, (hb rfl _ _ h1 (by simpa [GObj.blk] using e)).2⟩)
    refine (hb rfl _ _ h1 ?_).1
    cases hgg : (‹Option Nat›) with
    | none => simp_all [rowVal, Value.ownBlock]
    | some g => simp_all [rowVal, Value.ownBlock, GObj.blk]
  | frow h1 h2 => exact .frow (hg _ _ h1) (h2.mono hD hw hg)
  | map h1 h2 h3 h4 h5 =>
    obtain ⟨k1, k2⟩ := hb rfl _ _ h1 rfl
    exact .map (hg _ _ h1) h2 k2 (by rw [k1]; exact h4) h5
end
end V
namespace V
open Go
section
variable {Ty : Nat → Type} {T : Tab Ty} {P : Program}
variable {w0 : Base} {D0 : Nat → Prop} {N : Nat} {s : St Ty} {a : Act} {w : World} {D : Nat → Prop} {gv : Nat → Option GObj}

/-- the blocks of objects that are the call's own -/
def blocksOf (ob : Nat → Obj Ty) (gv : Nat → Option GObj) (os : List Nat) (b : Nat) : Prop := ∃ o ∈ os, (ob o).live = true ∧ ∃ g, gv o = some g ∧ g.blk = some b

theorem settle_isAgg (ob : Nat → Obj Ty) (v : AV Ty) : (settle T ob v).isAgg = v.isAgg := by
  cases v with
  | row o =>
    simp only [settle]
    split <;> rfl
  | sub o lo len =>
    simp only [settle]
    split <;> rfl
  | view o p t n lo len =>
    have key : ∀ (c : AV Ty), (match c.get T p with
          | some (.arr t' n' xs) => if h : t' = t then cond (n' == n) (.slice t (((h ▸ xs : List (Ty t)).drop lo).take len)) .undef else .undef
          | _ => .undef : AV Ty).isAgg = false := by
      intro c
      split
      · rename_i t' n' xs _
        by_cases h : t' = t
        · simp only [h, dite_true]
          cases (n' == n) <;> rfl
        · simp only [h, dite_false]; rfl
      · rfl
    simp only [settle]
    split
    · exact key _
    · exact key _
    · rfl
  | iface t v =>
    simp only [settle]
    split <;> rfl
  | _ => rfl

theorem encs_split (hT : TabOK P T) {t : Nat} : ∀ (ys : List (Ty t)) (cs : List Value), RepC T w D gv (encs T t ys) cs → ∀ i, i ≤ ys.length →
    ∃ c1 c2, cs = c1 ++ c2 ∧ c1.length = i * T.size t ∧ RepC T w D gv (encs T t (ys.take i)) c1 ∧ RepC T w D gv (encs T t (ys.drop i)) c2 := by
  intro ys
  induction ys with
  | nil => intro cs h i hi; simp at hi; subst hi; exact ⟨[], cs, rfl, by simp, by simpa [encs, listAV] using RepC.nil, by simpa using h⟩
  | cons y ys ih =>
    intro cs h i hi
    cases i with
    | zero => exact ⟨[], cs, rfl, by simp, by simpa [encs, listAV] using RepC.nil, by simpa using h⟩
    | succ i =>
      simp only [encs, List.map_cons, listAV] at h
      cases h with
      | cons h1 h2 =>
        obtain ⟨c1, c2, q1, q2, q3, q4⟩ := ih _ h2 i (by simpa using hi)
        refine ⟨_ ++ c1, c2, by rw [q1, List.append_assoc], ?_, ?_, ?_⟩
        · rw [List.length_append, h1.len hT, hT.encSize, q2, Nat.add_mul]; omega
        · simpa [encs, listAV] using RepC.cons h1 q3
        · simpa using q4

theorem encs_append {t : Nat} {xs ys : List (Ty t)} {c1 c2 : List Value} (h1 : RepC T w D gv (encs T t xs) c1) (h2 : RepC T w D gv (encs T t ys) c2) : RepC T w D gv (encs T t (xs ++ ys)) (c1 ++ c2) := by
  induction xs generalizing c1 with
  | nil =>
    simp only [encs, List.map_nil, listAV] at h1
    cases h1
    simpa using h2
  | cons x xs ih =>
    simp only [encs, List.map_cons, listAV] at h1
    cases h1 with
    | cons h3 h4 => simpa [encs, listAV, List.append_assoc] using RepC.cons h3 (ih h4)

theorem errOf_inv {ob : Nat → Obj Ty} {t : Nat} {v : AV Ty} {g : GErr} (h : errOf T ob t v = some g) :
    t = T.faultTy ∧ ∃ o s e b, v = .ptr o [] ∧ g = .flt s e b ∧ (ob o = .var (.cons (.str s) (.cons (.err e) (.cons (.bool b) .nil))) ∨ ob o = .fvar (.cons (.str s) (.cons (.err e) (.cons (.bool b) .nil)))) := by
  unfold errOf at h
  cases ht : t == T.faultTy with
  | false => rw [ht] at h; cases h
  | true =>
    rw [ht, cond_true] at h
    refine ⟨by simpa using ht, ?_⟩
    split at h
    case h_2 => cases h
    rename_i o
    split at h
    · rename_i s e b ho
      cases h
      exact ⟨o, s, e, b, rfl, rfl, .inl ho⟩
    · rename_i s e b ho
      cases h
      exact ⟨o, s, e, b, rfl, rfl, .inr ho⟩
    · cases h

/-- a fault that the call itself has made: what it stands for -/
theorem errOf_rep {Own : Nat → Prop} {ob : Nat → Obj Ty} (hob : ∀ o, ObjOK T w Own D gv o (ob o)) {D' : Nat → Prop} (hD : ∀ b, D b → D' b) {t : Nat} {v : AV Ty} {x : Value} {g : GErr} (h : RepC T w D gv v [x]) (he : errOf T ob t v = some g)
    (hs : ∀ b, blocksOf ob gv (AV.iface t v).shares b → D' b) : RepC T w D' gv (.err g) [.iface t x] := by
  obtain ⟨rfl, o, s, e, b, rfl, rfl, ho⟩ := errOf_inv he
  cases h with
  | @ptr _ _ blk hg _ =>
    have fin : ∀ cs : List Value, RepC T w D gv (.cons (.str s) (.cons (.err e) (.cons (.bool b) .nil))) cs → D' blk → At w blk 0 cs → RepC T w D' gv (.err (.flt s e b)) [.iface T.faultTy (.pointer (some ⟨blk, poff [], none⟩))] := by
      intro cs hr hb hat
      cases hr with
      | cons h1 h2 =>
        cases h1
        cases h2 with
        | cons h3 h4 =>
          cases h3 with
          | err h3 =>
            cases h4 with
            | cons h5 h6 =>
              cases h5
              cases h6
              exact .err (.flt hb hat (h3.mono hD (fun _ _ => rfl)))
    have hoo := hob o
    rcases ho with ho | ho
    · rw [ho] at hoo
      cases hoo with
      | var h1 h2 h3 h4 h5 =>
        rw [hg] at h1
        cases h1
        exact fin _ h5 (hs blk ⟨o, by simp [AV.shares], by rw [ho]; rfl, _, hg, rfl⟩) (At.block h4)
    · rw [ho] at hoo
      cases hoo with
      | fvar h1 h2 h3 h4 =>
        rw [hg] at h1
        cases h1
        exact fin _ h4 (hD _ h2) (At.block h3)

theorem shares_iface {ob : Nat → Obj Ty} {t : Nat} {v : AV Ty} {b : Nat} (h : blocksOf ob gv v.shares b) : blocksOf ob gv (AV.iface t v).shares b := by
  cases v with
  | ptr o p => obtain ⟨o1, ho1, _⟩ := h; simp [AV.shares] at ho1
  | _ => exact h

/-- a part of a row, as a slice -/
theorem subAt_rep (hT : TabOK P T) {t : Nat} {xs : List (Ty t)} {flat : List Value} {b lo len cap : Nat} (hA : At w b 0 flat) (hr : RepC T w D gv (encs T t xs) flat) (hl : lo + len ≤ xs.length) (hc : xs.length ≤ cap) {D' : Nat → Prop} (hD : ∀ b, D b → D' b) (hb : D' b) :
    RepC T w D' gv (.slice t ((xs.drop lo).take len)) [.slice (some ⟨b, lo * T.size t, none⟩) len (cap - lo)] := by
  have hlen : ((xs.drop lo).take len).length = len := by simp; omega
  obtain ⟨c1, c2, q1, q2, _, q4⟩ := encs_split hT xs flat hr lo (by omega)
  obtain ⟨d1, d2, r1, r2, r3, _⟩ := encs_split hT (xs.drop lo) c2 q4 len (by simp; omega)
  rw [q1, r1] at hA
  have ha2 : At w b (lo * T.size t) d1 := by
    have := (hA.append_right).append_left
    simpa [q2] using this
  have := RepC.slice (xs := (xs.drop lo).take len) (cap := cap - lo) hb (by omega) ha2 (r3.mono hD (fun _ _ => rfl) (fun _ _ h => h))
  rw [hlen] at this
  exact this

/-- a value as it is once the rows are read: what it stands for -/
theorem settle_rep (hT : TabOK P T) {Own : Nat → Prop} {ob : Nat → Obj Ty} (hob : ∀ o, ObjOK T w Own D gv o (ob o)) {D' : Nat → Prop} (hD : ∀ b, D b → D' b) {v : AV Ty} {cs : List Value}
    (h : RepC T w D gv v cs) (hs : ∀ b, blocksOf ob gv v.shares b → D' b) : RepC T w D' gv (settle T ob v) cs := by
  induction h with
  | undef v h => exact .undef v h
  | bool b => exact .bool b
  | int k n => exact .int k n
  | str s => exact .str s
  | nilp => exact .nilp
  | ptr h p => exact .ptr h p
  | rptr h i p => exact .rptr h i p
  | cptr d a hr _ => exact .cptr (hD _ d) a (hr.mono hD (fun _ _ => rfl) (fun _ _ h => h))
  | optn t => exact .optn t
  | opts d a hr _ => exact .opts (hD _ d) a (hr.mono hD (fun _ _ => rfl) (fun _ _ h => h))
  | @row o g n cap sz h =>
    have hdead : RepC T w D' gv (.undef : AV Ty) [rowVal g n cap] := .undef _ rfl
    simp only [settle]
    have ho := hob o
    cases hx : ob o with
    | row t xs =>
      rw [hx] at ho
      cases ho with
      | @row _ _ g' cap' flat h1 h2 h3 h4 =>
        rw [h] at h1
        cases h1
        rcases h3.2 with ⟨hv, hn⟩ | ⟨b, cap'', cur, hv, hb, hg, hc, hm, hcs, htake⟩
        · have : xs = [] := List.eq_nil_of_length_eq_zero hn
          subst this
          exact .snil t _ _ (fun e => by simp only [rowVal, Value.slice.injEq] at hv; exact hv.2.2)
        · have hgb : g = some b := by
            simp only [rowVal, Value.slice.injEq] at hv
            cases g with
            | none => simp at hv
            | some b' => simp at hv; rw [hv.1]
          subst hgb
          have hDb : D' b := hs b ⟨o, by simp [AV.shares], by rw [hx]; rfl, _, h, rfl⟩
          refine .slice hDb ?_ ?_ (h2.mono hD (fun _ _ => rfl) (fun _ _ h => h))
          · simp only [rowVal, Value.slice.injEq] at hv; omega
          · have ha := At.block hg
            have : cur.toList = flat ++ cur.toList.drop (xs.length * T.size t) := by rw [← htake, List.take_append_drop]
            rw [this] at ha
            exact ha.append_left
    | frow t xs =>
      rw [hx] at ho
      cases ho with
      | frow h1 h2 =>
        rw [h] at h1
        cases h1
        exact h2.mono hD (fun _ _ => rfl) (fun _ _ h => h)
    | map ks => exact hdead
    | none => exact hdead
    | dead => exact hdead
    | var c => exact hdead
    | fvar c => exact hdead
  | @view o p t n lo len cap b h hp hl hc =>
    have hdead : RepC T w D' gv (.undef : AV Ty) [.slice (some ⟨b, poff p + lo * T.size t, none⟩) len cap] := .undef _ rfl
    have key : ∀ (c : AV Ty) (cs : Array Value) (e : TypeId), D' b → w.heap[b]? = some (.cells cs e (0, 0)) → RepC T w D gv c cs.toList →
        RepC T w D' gv (match c.get T p with
          | some (.arr t' n' xs) => if h : t' = t then cond (n' == n) (.slice t (((h ▸ xs : List (Ty t)).drop lo).take len)) .undef else .undef
          | _ => .undef) [.slice (some ⟨b, poff p + lo * T.size t, none⟩) len cap] := by
      intro c cs e hDb hb hr
      split
      · rename_i t' n' xs hg
        split
        · rename_i ht
          subst ht
          cases hn : (n' == n) with
          | false => exact hdead
          | true =>
            simp only [cond_true]
            have hn' : n' = n := beq_iff_eq.1 hn
            subst hn'
            obtain ⟨pre, sub, post, e1, e2, e3⟩ := get_rep hT p hr hg hp
            cases e3 with
            | arr hx hsub =>
              have hlen : ((xs.drop lo).take len).length = len := by simp; omega
              obtain ⟨c1, c2, q1, q2, _, q4⟩ := encs_split hT xs sub hsub lo (by omega)
              obtain ⟨d1, d2, r1, r2, r3, _⟩ := encs_split hT (xs.drop lo) c2 q4 len (by simp; omega)
              have ha := At.block hb
              rw [e1, q1, r1] at ha
              have ha2 : At w b (poff p + lo * T.size t') d1 := by
                have := (ha.mid).append_right.append_left
                simpa [e2, q2] using this
              have := RepC.slice (xs := (xs.drop lo).take len) (cap := cap) hDb (by omega) ha2 (r3.mono hD (fun _ _ => rfl) (fun _ _ h => h))
              rw [hlen] at this
              exact this
        · exact hdead
      · exact hdead
    simp only [settle]
    have ho := hob o
    cases hx : ob o with
    | var c =>
      rw [hx] at ho
      cases ho with
      | var h1 _ _ h4 h5 => rw [h] at h1; cases h1; exact key c _ _ (hs b ⟨o, by simp [AV.shares], by rw [hx]; rfl, _, h, rfl⟩) h4 h5
    | fvar c =>
      rw [hx] at ho
      cases ho with
      | fvar h1 hd h4 h5 => rw [h] at h1; cases h1; exact key c _ _ (hD _ hd) h4 h5
    | none => exact hdead
    | dead => exact hdead
    | row t xs => exact hdead
    | frow t xs => exact hdead
    | map ks => exact hdead
  | @vnil o p t n lo ad cap b h _ _ =>
    have hdead : RepC T w D' gv (.undef : AV Ty) [.slice (some ad) 0 cap] := .undef _ rfl
    have key : ∀ (c : AV Ty), RepC T w D' gv (match c.get T p with
          | some (.arr t' n' xs) => if h : t' = t then cond (n' == n) (.slice t (((h ▸ xs : List (Ty t)).drop lo).take 0)) .undef else .undef
          | _ => .undef) [.slice (some ad) 0 cap] := by
      intro c
      split
      · split
        · rename_i n' _ _ _
          cases (n' == n) with
          | false => exact hdead
          | true => simp only [cond_true, List.take_zero]; exact .snil t _ _ (fun e => by cases e)
        · exact hdead
      · exact hdead
    simp only [settle]
    cases ob o with
    | var c => exact key c
    | fvar c => exact key c
    | none => exact hdead
    | dead => exact hdead
    | row t xs => exact hdead
    | frow t xs => exact hdead
    | map ks => exact hdead
  | @sub o lo len b nn cap sz h hl hc =>
    have hdead : RepC T w D' gv (.undef : AV Ty) [.slice (some ⟨b, lo * sz, none⟩) len (cap - lo)] := .undef _ rfl
    simp only [settle]
    have ho := hob o
    cases hx : ob o with
    | row t xs =>
      rw [hx] at ho
      cases ho with
      | @row _ _ g' cap' flat h1 h2 h3 h4 =>
        rw [h] at h1
        cases h1
        rcases h3.2 with ⟨hv, _⟩ | ⟨b', cap'', cur, hv, hb, hg, hc2, hm, hcs, htake⟩
        · simp [rowVal] at hv
        · simp only [rowVal, Option.map_some, Value.slice.injEq, Option.some.injEq, Addr.mk.injEq, and_true, true_and] at hv
          obtain ⟨rfl, rfl⟩ := hv
          have ha := At.block hg
          have : cur.toList = flat ++ cur.toList.drop (xs.length * T.size t) := by rw [← htake, List.take_append_drop]
          rw [this] at ha
          exact subAt_rep hT ha.append_left h2 hl hc hD (hs b ⟨o, by simp [AV.shares], by rw [hx]; rfl, _, h, rfl⟩)
    | frow t xs =>
      rw [hx] at ho
      cases ho with
      | frow h1 h2 =>
        rw [h] at h1
        cases h1
        cases h2 with
        | snil _ _ _ _ =>
          have : lo = 0 ∧ len = 0 := by simp at hl; omega
          obtain ⟨rfl, rfl⟩ := this
          simp only [List.drop_nil, List.take_nil]
          exact .snil t _ _ (fun e => by cases e)
        | slice d l a hr =>
          exact subAt_rep hT a hr hl hc hD (hD _ d)
    | _ => exact hdead
  | @subz o lo g nn cap sz a c h _ hl ha =>
    simp only [settle]
    cases hx : ob o with
    | row t xs => simp only [List.take_zero]; exact .snil t _ _ ha
    | frow t xs => simp only [List.take_zero]; exact .snil t _ _ ha
    | _ => exact .undef _ rfl
  | @sub0 o cap sz h =>
    simp only [settle]
    cases hx : ob o with
    | row t xs => simp only [List.take_zero]; exact .snil t _ _ (fun _ => rfl)
    | frow t xs => simp only [List.take_zero]; exact .snil t _ _ (fun _ => rfl)
    | _ => exact .undef _ rfl
  | @rview o i t n lo len cap b nn rc sz h _ _ _ _ =>
    have hdead : RepC T w D' gv (.undef : AV Ty) [.slice (some ⟨b, i * sz + lo * T.size t, none⟩) len cap] := .undef _ rfl
    simp only [settle]
    have ho := hob o
    cases hx : ob o with
    | var c => rw [hx] at ho; cases ho with | var h1 => rw [h] at h1; cases h1
    | fvar c => rw [hx] at ho; cases ho with | fvar h1 => rw [h] at h1; cases h1
    | _ => exact hdead
  | @rvnil o i t n lo ad cap b nn rc sz h _ _ =>
    have hdead : RepC T w D' gv (.undef : AV Ty) [.slice (some ad) 0 cap] := .undef _ rfl
    simp only [settle]
    have ho := hob o
    cases hx : ob o with
    | var c => rw [hx] at ho; cases ho with | var h1 => rw [h] at h1; cases h1
    | fvar c => rw [hx] at ho; cases ho with | fvar h1 => rw [h] at h1; cases h1
    | _ => exact hdead
  | snil t a c h => exact .snil t a c h
  | slice d l a hr _ => exact .slice (hD _ d) l a (hr.mono hD (fun _ _ => rfl) (fun _ _ h => h))
  | nils t => exact .snil t _ _ (fun _ => rfl)
  | slicen0 t a c => exact .snil t _ _ (fun e => by cases e)
  | slicen d l a hr _ => exact .slice (hD _ d) l a (hr.mono hD (fun _ _ => rfl) (fun _ _ h => h))
  | func f => exact .func f
  | mapp h => exact .mapp h
  | nil => exact .nil
  | cons _ _ i1 i2 =>
    exact .cons (i1 fun b ⟨o, ho, r⟩ => hs b ⟨o, by simp [AV.shares, ho], r⟩) (i2 fun b ⟨o, ho, r⟩ => hs b ⟨o, by simp [AV.shares, ho], r⟩)
  | arr l hr _ => exact .arr l (hr.mono hD (fun _ _ => rfl) (fun _ _ h => h))
  | err h => exact .err (h.mono hD (fun _ _ => rfl))
  | ifaceS a hr ih =>
    have ih := ih fun b hb => hs b (shares_iface hb)
    simp only [settle]
    split
    · exact errOf_rep hob hD hr ‹_› hs
    · exact .ifaceS (by rw [settle_isAgg]; exact a) ih
  | ifaceA a hr ih =>
    have ih := ih fun b hb => hs b (shares_iface hb)
    simp only [settle]
    split
    · rename_i he
      obtain ⟨_, o, _, _, _, rfl, _⟩ := errOf_inv he
      cases a
    · exact .ifaceA (by rw [settle_isAgg]; exact a) ih
  | clo a l hr _ => exact .clo a l (hr.mono hD (fun _ _ => rfl) (fun _ _ h => h))

theorem slice_inv {t : Nat} {xs : List (Ty t)} {x : Value} (h : RepC T w D gv (.slice t xs) [x]) :
    (∃ a cap, x = .slice a 0 cap ∧ xs = [] ∧ (a = none → cap = 0)) ∨ ∃ b off cap cs, x = .slice (some ⟨b, off, none⟩) xs.length cap ∧ D b ∧ xs.length ≤ cap ∧ At w b off cs ∧ RepC T w D gv (encs T t xs) cs := by
  cases h with
  | snil t a cap hc => exact .inl ⟨_, _, rfl, rfl, hc⟩
  | slice hD hl hA hr => exact .inr ⟨_, _, _, _, rfl, hD, hl, hA, hr⟩

/-- the elements of a slice of whatever make, and where they lie -/
theorem elems_rep (hT : TabOK P T) {Own : Nat → Prop} {ob : Nat → Obj Ty} (hob : ∀ o, ObjOK T w Own D gv o (ob o)) {v : AV Ty} {x : Value} (h : RepC T w D gv v [x]) {e : Nat} {ys : List (Ty e)}
    (he : (settle T ob v).elems e = some ys) :
    (x = .slice none 0 0 ∧ ys = []) ∨ ∃ ad cap cs, x = .slice (some ad) ys.length cap ∧ (∀ j u, cs[j]? = some u → w.cell? (ad.add j) = some u) ∧ RepC T w D gv (encs T e ys) cs := by
  have hAt : ∀ {b off : Nat} {cs : List Value}, At w b off cs → ∀ j u, cs[j]? = some u → w.cell? ((⟨b, off, none⟩ : Addr).add j) = some u := fun h j u hj => by rw [Addr.add_lit]; exact h j u hj
  have hcast : ∀ {t : Nat} {xs : List (Ty t)}, (AV.slice t xs : AV Ty).elems e = some ys → ∃ h : t = e, ys = h ▸ xs := by
    intro t xs h
    simp only [AV.elems] at h
    split at h
    · rename_i h1; simp only [Option.some.injEq] at h; exact ⟨h1, h.symm⟩
    · cases h
  have hnil : RepC T w D gv (encs T e ([] : List (Ty e))) [] := by simpa [encs, listAV] using RepC.nil
  have hsl : ∀ {t : Nat} {xs : List (Ty t)} {x : Value}, RepC T w D gv (.slice t xs) [x] → (AV.slice t xs : AV Ty).elems e = some ys →
      (x = .slice none 0 0 ∧ ys = []) ∨ ∃ ad cap cs, x = .slice (some ad) ys.length cap ∧ (∀ j u, cs[j]? = some u → w.cell? (ad.add j) = some u) ∧ RepC T w D gv (encs T e ys) cs := by
    intro t xs x h he
    obtain ⟨rfl, rfl⟩ := hcast he
    rcases slice_inv h with ⟨a, cap, rfl, hx, hc⟩ | ⟨b, off, cap, cs, rfl, hD, hl, hA, hr⟩
    · cases a with
      | none => rw [hc rfl]; exact .inl ⟨rfl, hx⟩
      | some ad =>
        refine .inr ⟨ad, cap, [], ?_, fun j u hj => by simp at hj, ?_⟩
        · simp [hx]
        · simp only [hx]; exact hnil
    · exact .inr ⟨_, _, _, rfl, hAt hA, hr⟩
  cases v with
  | slice t xs => exact hsl h he
  | nils t =>
    obtain ⟨rfl, rfl⟩ := hcast he
    cases h
    exact .inl ⟨rfl, rfl⟩
  | row o =>
    cases h with
    | @row _ g n cap sz hg =>
    have ho := hob o
    simp only [settle] at he
    cases hx : ob o with
    | row t xs =>
      rw [hx] at ho he
      obtain ⟨rfl, rfl⟩ := hcast he
      cases ho with
      | row h1 h2 h3 h4 =>
        rw [hg] at h1
        cases h1
        rcases h3.2 with ⟨hv, hn⟩ | ⟨b, cap'', cur, hv, hb, hbb, hc, hm, hcs, htake⟩
        · exact .inl ⟨hv, List.eq_nil_of_length_eq_zero hn⟩
        · refine .inr ⟨⟨b, 0, none⟩, cap'', _, hv, ?_, h2⟩
          have e0 := (List.take_append_drop (ys.length * T.size t) cur.toList).symm
          rw [htake] at e0
          have hA := At.block hbb
          rw [e0] at hA
          exact hAt hA.append_left
    | frow t xs =>
      rw [hx] at ho he
      cases ho with
      | frow h1 h2 =>
        rw [hg] at h1
        cases h1
        exact hsl h2 he
    | none => rw [hx] at he; simp [AV.elems] at he
    | map ks => rw [hx] at he; simp [AV.elems] at he
    | dead => rw [hx] at he; simp [AV.elems] at he
    | var c => rw [hx] at he; simp [AV.elems] at he
    | fvar c => rw [hx] at he; simp [AV.elems] at he
  | sub o lo len =>
    have ho := hob o
    simp only [settle] at he
    have nil : ∀ {t : Nat} {xs : List (Ty t)} {a : Option Addr} {c : Nat}, (.slice t ((xs.drop lo).take 0) : AV Ty).elems e = some ys → (a = none → c = 0) → (Value.slice a 0 c = .slice none 0 0 ∧ ys = []) ∨ ∃ ad cap cs, Value.slice a 0 c = .slice (some ad) ys.length cap ∧ (∀ j u, cs[j]? = some u → w.cell? (ad.add j) = some u) ∧ RepC T w D gv (encs T e ys) cs := by
      intro t xs a c he ha
      rw [List.take_zero] at he
      obtain ⟨rfl, rfl⟩ := hcast he
      cases a with
      | none => rw [ha rfl]; exact .inl ⟨rfl, rfl⟩
      | some ad => exact .inr ⟨ad, c, [], rfl, fun j u hj => by simp at hj, by simpa [encs, listAV] using RepC.nil⟩
    have key : ∀ {t : Nat} {xs : List (Ty t)} {flat : List Value} {b cap : Nat}, (.slice t ((xs.drop lo).take len) : AV Ty).elems e = some ys → At w b 0 flat → RepC T w D gv (encs T t xs) flat → lo + len ≤ xs.length → xs.length ≤ cap →
        (Value.slice (some ⟨b, lo * T.size t, none⟩) len (cap - lo) = .slice none 0 0 ∧ ys = []) ∨ ∃ ad cap' cs, Value.slice (some ⟨b, lo * T.size t, none⟩) len (cap - lo) = .slice (some ad) ys.length cap' ∧ (∀ j u, cs[j]? = some u → w.cell? (ad.add j) = some u) ∧ RepC T w D gv (encs T e ys) cs := by
      intro t xs flat b cap he hA hr hl hc
      have := subAt_rep hT hA hr hl hc (D' := fun b' => D b' ∨ b' = b) (fun _ h => .inl h) (.inr rfl)
      obtain ⟨rfl, rfl⟩ := hcast he
      have hlen : ((xs.drop lo).take len).length = len := by simp; omega
      obtain ⟨c1, c2, q1, q2, _, q4⟩ := encs_split hT xs flat hr lo (by omega)
      obtain ⟨d1, d2, r1, r2, r3, _⟩ := encs_split hT (xs.drop lo) c2 q4 len (by simp; omega)
      rw [q1, r1] at hA
      have ha2 : At w b (lo * T.size t) d1 := by
        have := (hA.append_right).append_left
        simpa [q2] using this
      exact .inr ⟨⟨b, lo * T.size t, none⟩, cap - lo, d1, by rw [hlen], hAt ha2, r3⟩
    cases hx : ob o with
    | row t xs =>
      rw [hx] at ho he
      cases h with
      | subz hg _ _ ha => exact nil he ha
      | sub0 hg => exact nil he (fun _ => rfl)
      | sub hg hl hc =>
        cases ho with
        | @row _ _ g' cap' flat h1 h2 h3 h4 =>
          rw [hg] at h1
          cases h1
          rcases h3.2 with ⟨hv, _⟩ | ⟨b', cap'', cur, hv, hb, hgg, hc2, hm, hcs, htake⟩
          · simp [rowVal] at hv
          · simp only [rowVal, Option.map_some, Value.slice.injEq, Option.some.injEq, Addr.mk.injEq, and_true, true_and] at hv
            obtain ⟨rfl, rfl⟩ := hv
            have ha := At.block hgg
            have : cur.toList = flat ++ cur.toList.drop (xs.length * T.size t) := by rw [← htake, List.take_append_drop]
            rw [this] at ha
            exact key he ha.append_left h2 hl hc
    | frow t xs =>
      rw [hx] at ho he
      cases h with
      | subz hg _ _ ha => exact nil he ha
      | sub0 hg => exact nil he (fun _ => rfl)
      | sub hg hl hc =>
        cases ho with
        | frow h1 h2 =>
          rw [hg] at h1
          cases h1
          cases h2 with
          | snil _ _ _ _ =>
            have : lo = 0 ∧ len = 0 := by simp at hl; omega
            obtain ⟨rfl, rfl⟩ := this
            exact nil he (fun e => by cases e)
          | slice d l a hr => exact key he a hr hl hc
    | none => rw [hx] at he; simp [AV.elems] at he
    | map ks => rw [hx] at he; simp [AV.elems] at he
    | dead => rw [hx] at he; simp [AV.elems] at he
    | var c => rw [hx] at he; simp [AV.elems] at he
    | fvar c => rw [hx] at he; simp [AV.elems] at he
  | view o p t n lo len =>
    cases h with
    | @view _ _ _ _ _ _ cap b hg hp hl hc =>
      have key : ∀ (c : AV Ty) (cs : Array Value) (et : TypeId), w.heap[b]? = some (.cells cs et (0, 0)) → RepC T w D gv c cs.toList →
          (match c.get T p with
            | some (.arr t' n' xs) => if h : t' = t then cond (n' == n) (.slice t (((h ▸ xs : List (Ty t)).drop lo).take len)) .undef else .undef
            | _ => .undef : AV Ty).elems e = some ys →
          ∃ ad cap' cs, (Value.slice (some ⟨b, poff p + lo * T.size t, none⟩) len cap) = .slice (some ad) ys.length cap' ∧ (∀ j u, cs[j]? = some u → w.cell? (ad.add j) = some u) ∧ RepC T w D gv (encs T e ys) cs := by
        intro c cs et hb hr he
        split at he
        · rename_i t' n' xs hget
          split at he
          · rename_i ht
            subst ht
            cases hn : (n' == n) with
            | false => rw [hn] at he; simp [AV.elems] at he
            | true =>
              rw [hn] at he
              simp only [cond_true] at he
              obtain ⟨rfl, rfl⟩ := hcast he
              have hn' : n' = n := beq_iff_eq.1 hn
              subst hn'
              obtain ⟨pre, sub, post, e1, e2, e3⟩ := get_rep hT p hr hget hp
              cases e3 with
              | arr hx hsub =>
                have hlen : ((xs.drop lo).take len).length = len := by simp; omega
                obtain ⟨c1, c2, q1, q2, _, q4⟩ := encs_split hT xs sub hsub lo (by omega)
                obtain ⟨d1, d2, r1, r2, r3, _⟩ := encs_split hT (xs.drop lo) c2 q4 len (by simp; omega)
                have ha := At.block hb
                rw [e1, q1, r1] at ha
                have ha2 : At w b (poff p + lo * T.size t') d1 := by
                  have := (ha.mid).append_right.append_left
                  simpa [e2, q2] using this
                refine ⟨_, cap, d1, ?_, hAt ha2, r3⟩
                simp only [hlen]
          · simp [AV.elems] at he
        · simp [AV.elems] at he
      have ho := hob o
      simp only [settle] at he
      cases hx : ob o with
      | var c =>
        rw [hx] at ho he
        cases ho with | var h1 _ _ h4 h5 => rw [hg] at h1; cases h1; exact .inr (key c _ _ h4 h5 he)
      | fvar c =>
        rw [hx] at ho he
        cases ho with | fvar h1 _ h4 h5 => rw [hg] at h1; cases h1; exact .inr (key c _ _ h4 h5 he)
      | none => rw [hx] at he; simp [AV.elems] at he
      | map ks => rw [hx] at he; simp [AV.elems] at he
      | dead => rw [hx] at he; simp [AV.elems] at he
      | row t xs => rw [hx] at he; simp [AV.elems] at he
      | frow t xs => rw [hx] at he; simp [AV.elems] at he
    | rview hg =>
      have ho := hob o
      simp only [settle] at he
      cases hx : ob o with
      | var c => rw [hx] at ho; cases ho with | var h1 => rw [hg] at h1; cases h1
      | fvar c => rw [hx] at ho; cases ho with | fvar h1 => rw [hg] at h1; cases h1
      | _ => rw [hx] at he; simp [AV.elems] at he
    | rvnil hg =>
      have ho := hob o
      simp only [settle] at he
      cases hx : ob o with
      | var c => rw [hx] at ho; cases ho with | var h1 => rw [hg] at h1; cases h1
      | fvar c => rw [hx] at ho; cases ho with | fvar h1 => rw [hg] at h1; cases h1
      | _ => rw [hx] at he; simp [AV.elems] at he
    | @vnil _ _ _ _ _ ad cap b hg _ _ =>
      have key : ∀ (c : AV Ty), (match c.get T p with
            | some (.arr t' n' xs) => if h : t' = t then cond (n' == n) (.slice t (((h ▸ xs : List (Ty t)).drop lo).take 0)) .undef else .undef
            | _ => .undef : AV Ty).elems e = some ys → ys = [] := by
        intro c he
        split at he
        · rename_i t' n' xs hget
          split at he
          · cases hn : (n' == n) with
            | false => rw [hn] at he; simp [AV.elems] at he
            | true =>
              rw [hn] at he
              simp only [cond_true, List.take_zero] at he
              obtain ⟨rfl, rfl⟩ := hcast he
              rfl
          · simp [AV.elems] at he
        · simp [AV.elems] at he
      have : ys = [] := by
        simp only [settle] at he
        cases hx : ob o with
        | var c => rw [hx] at he; exact key c he
        | fvar c => rw [hx] at he; exact key c he
        | none => rw [hx] at he; simp [AV.elems] at he
        | map ks => rw [hx] at he; simp [AV.elems] at he
        | dead => rw [hx] at he; simp [AV.elems] at he
        | row t xs => rw [hx] at he; simp [AV.elems] at he
        | frow t xs => rw [hx] at he; simp [AV.elems] at he
      subst this
      exact .inr ⟨ad, cap, [], rfl, fun j u hj => by simp at hj, hnil⟩
  | slicen t xs =>
    have h' : RepC T w D gv (.slice t xs) [x] := by
      cases h with
      | slicen0 => exact .snil _ _ _ (fun e => by cases e)
      | slicen d l a r => exact .slice d l a r
    exact hsl h' he
  | iface t v =>
    simp only [settle] at he
    split at he <;> simp [AV.elems] at he
  | _ => simp [settle, AV.elems] at he

def frozen : Obj Ty → Obj Ty
  | .var c => .fvar c
  | .row t xs => .frow t xs
  | .map _ => .dead
  | x => x

theorem upd_freeze (ob : Nat → Obj Ty) (os : List Nat) (o : Nat) : Obj.upd ob (os.map (freeze ob)) o = if o ∈ os then frozen (ob o) else ob o := by
  have key : ∀ (os : List Nat) (ob' : Nat → Obj Ty), Obj.upd ob' (os.map (freeze ob)) o = if o ∈ os then frozen (ob o) else ob' o := by
    intro os
    induction os with
    | nil => intro ob'; simp [Obj.upd]
    | cons x r ih =>
      intro ob'
      simp only [List.map_cons, freeze, Obj.upd, ih, List.mem_cons]
      by_cases h : o ∈ r
      · simp [h]
      · by_cases hx : o = x
        · subst hx
          simp only [h, if_false, or_false, if_true, beq_self_eq_true, cond_true]
          cases ob o <;> rfl
        · have : (o == x) = false := by simpa using hx
          simp [h, hx, this]
  exact key os ob

theorem live_blk {Own : Nat → Prop} {o : Nat} {x : Obj Ty} (h : ObjOK T w Own D gv o x) (hl : x.live = true) {g : GObj} {b : Nat} (hg : gv o = some g) (hb : g.blk = some b) : b < w.heap.size ∧ Own b := by
  cases h with
  | var h1 h2 _ h4 _ =>
    rw [hg] at h1; cases h1; simp only [GObj.blk, Option.some.injEq] at hb; subst hb
    exact ⟨(Array.getElem?_eq_some_iff.1 h4).1, h2⟩
  | row h1 _ h3 h4 =>
    rw [hg] at h1; cases h1; simp only [GObj.blk] at hb; subst hb
    have := h3.lt b (by simp [rowVal, Value.ownBlock])
    exact ⟨this.2, (h4 b rfl).1⟩
  | none => cases hl
  | dead => cases hl
  | fvar => cases hl
  | frow => cases hl
  | map h1 h2 _ h4 _ =>
    rw [hg] at h1; cases h1; simp only [GObj.blk, Option.some.injEq] at hb; subst hb
    exact ⟨(Array.getElem?_eq_some_iff.1 h4).1, h2⟩

theorem Inv.freeze (hT : TabOK P T) (h : Inv T w0 D0 N s a w D gv) (os : List Nat) :
    ∃ D', (∀ b, D b → D' b) ∧ (∀ b, blocksOf s.obj gv os b → D' b) ∧ (∀ b, D' b → D b ∨ blocksOf s.obj gv os b) ∧
      Inv T w0 D0 N { s with obj := Obj.upd s.obj (os.map (freeze s.obj)) } a w D' gv := by
  refine ⟨fun b => D b ∨ blocksOf s.obj gv os b, fun b h => .inl h, fun b h => .inr h, fun b h => h, ?_⟩
  have hD : ∀ b, D b → D b ∨ blocksOf s.obj gv os b := fun b h => .inl h
  have hnot : ∀ o, o ∉ os → (s.obj o).live = true → ∀ g b, gv o = some g → g.blk = some b → ¬ D b → ¬ (D b ∨ blocksOf s.obj gv os b) := by
    rintro o ho hl g b hg hb hn (h1 | ⟨o2, ho2, hl2, g2, hg2, hb2⟩)
    · exact hn h1
    · exact h.apart o o2 g g2 b (fun e => ho (e ▸ ho2)) hl hl2 hg hg2 hb hb2
  have hlive : ∀ o, (Obj.upd s.obj (os.map (V.freeze s.obj)) o).live = true → (s.obj o).live = true ∧ o ∉ os := by
    intro o hl
    rw [upd_freeze] at hl
    by_cases ho : o ∈ os
    · rw [if_pos ho] at hl
      cases hx : s.obj o <;> rw [hx] at hl <;> cases hl
    · rw [if_neg ho] at hl; exact ⟨hl, ho⟩
  refine { defers := h.defers, size := h.size, env := fun t => (h.env t).mono hD (fun _ _ => rfl) (fun _ _ h => h), obj := fun o => ?_,
           apart := fun o o' g g' b hne hl hl' => h.apart o o' g g' b hne (hlive o hl).1 (hlive o' hl').1, grown := h.grown, dold := fun b hb => .inl (h.dold b hb), dlt := ?_, dnew := ?_, glob := h.glob, pins := h.pins }
  · show ObjOK T w _ _ gv o (Obj.upd s.obj (os.map (V.freeze s.obj)) o)
    rw [upd_freeze]
    have ho := h.obj o
    by_cases hm : o ∈ os
    · rw [if_pos hm]
      cases hx : s.obj o with
      | var c =>
        rw [hx] at ho
        cases ho with
        | var h1 h2 h3 h4 h5 => exact .fvar h1 (.inr ⟨o, hm, by rw [hx]; rfl, _, h1, rfl⟩) h4 (h5.mono hD (fun _ _ => rfl) (fun _ _ h => h))
      | row t xs =>
        rw [hx] at ho
        cases ho with
        | row h1 h2 h3 h4 =>
          refine .frow h1 ?_
          have := settle_rep hT h.obj (v := .row o) hD (.row h1) (fun b ⟨o', ho', r⟩ => .inr ⟨o', by simp only [AV.shares, List.mem_singleton] at ho'; exact ho' ▸ hm, r⟩)
          simpa [settle, hx] using this
      | none => rw [hx] at ho; cases ho with | none h1 => exact .none h1
      | dead => exact .dead
      | fvar c => rw [hx] at ho; exact ho.mono hD (fun _ _ => rfl) (fun _ _ h => h) (fun h => h) (fun hl => by cases hl)
      | frow t xs => rw [hx] at ho; exact ho.mono hD (fun _ _ => rfl) (fun _ _ h => h) (fun h => h) (fun hl => by cases hl)
      | map ks => exact .dead
    · rw [if_neg hm]
      refine ho.mono hD (fun _ _ => rfl) (fun _ _ h => h) (fun h => h) fun hl g b hg hb => ⟨rfl, hnot o hm hl g b hg hb ?_⟩
      cases hx : s.obj o with
      | var c =>
        rw [hx] at ho
        cases ho with
        | var h1 _ h3 _ _ => rw [hg] at h1; cases h1; simp only [GObj.blk, Option.some.injEq] at hb; subst hb; exact h3
      | row t xs =>
        rw [hx] at ho
        cases ho with
        | row h1 _ _ h4 => rw [hg] at h1; cases h1; exact (h4 b hb).2
      | none => rw [hx] at hl; cases hl
      | dead => rw [hx] at hl; cases hl
      | fvar c => rw [hx] at hl; cases hl
      | frow t xs => rw [hx] at hl; cases hl
      | map ks =>
        rw [hx] at ho
        cases ho with
        | map h1 _ h3 _ _ => rw [hg] at h1; cases h1; simp only [GObj.blk, Option.some.injEq] at hb; subst hb; exact h3
  · rintro b (hb | ⟨o, _, hl, g, hg, hb⟩)
    · exact h.dlt b hb
    · exact (live_blk (h.obj o) hl hg hb).1
  · rintro b (hb | ⟨o, _, hl, g, hg, hb⟩)
    · exact h.dnew b hb
    · exact .inr (live_blk (h.obj o) hl hg hb).2
end
end V
namespace V
open Go
section
variable {Ty : Nat → Type} {T : Tab Ty} {P : Program} {w : World} {D : Nat → Prop} {gv : Nat → Option GObj}

theorem run_info {t : TypeId} {i : TypeInfo} (h : P.info? t = some i) (w : World) : (typeInfo t).run P w = .ok i w := by simp [typeInfo, h]
theorem run_sizeOf {t : TypeId} {i : TypeInfo} (h : P.info? t = some i) (w : World) : (Go.sizeOf t).run P w = .ok i.size w := by simp [Go.sizeOf, typeInfo, h]

theorem size_run (hT : TabOK P T) {t : Nat} (hk : (T.td t).known = true) (w : World) : (Go.sizeOf t).run P w = .ok (T.size t) w := by
  obtain ⟨i, z, hi, hs, _⟩ := hT.info t hk
  rw [run_sizeOf hi, hs]

theorem isAgg_run (hT : TabOK P T) {t : Nat} (hk : (T.td t).known = true) (w : World) : (isAgg t).run P w = .ok (T.td t).agg w := by
  have h := hT.td t
  unfold isAgg
  rw [Sem.run_bind]
  cases htd : T.td t with
  | other => rw [htd] at hk; cases hk
  | map k => rw [htd] at hk; cases hk
  | struct fs =>
    rw [htd] at h
    obtain ⟨fields, h, _⟩ := h
    rw [run_underlying h]; rfl
  | iface =>
    rw [htd] at h
    obtain ⟨ms, h⟩ := h
    rw [run_underlying h]; rfl
  | _ => rw [htd] at h; simp only [TDok] at h; rw [run_underlying h]; rfl

theorem fits_known {t : Nat} {v : AV Ty} (h : fits T t v = true) : (T.td t).known = true ∧ v.size T = T.size t ∧ v.isAgg = (T.td t).agg := by
  simp only [fits, Bool.and_eq_true, beq_iff_eq] at h
  exact ⟨h.1.1, h.1.2, h.2⟩

/-- a load of what stands at a place -/
theorem load_run (hT : TabOK P T) {t : Nat} {v : AV Ty} (hf : fits T t v = true) {b off : Nat} {cs : List Value} (ha : At w b off cs) (hr : RepC T w D gv v cs) :
    ∃ x, (loadVar t ⟨b, off, none⟩).run P w = .ok x w ∧ RepV T w D gv v x := by
  obtain ⟨hk, hs, hg⟩ := fits_known hf
  have hl : cs.length = T.size t := by rw [hr.len hT, hs]
  unfold loadVar
  rw [Sem.run_bind, isAgg_run hT hk]
  simp only [Result.andThen_ok]
  cases hag : (T.td t).agg with
  | true =>
    have hload := run_loadCells_list (P := P) (w := w) ⟨b, off, none⟩ cs (fun j v hv => by rw [Addr.add_lit]; exact ha j v hv)
    rw [hl] at hload
    refine ⟨.agg cs.toArray, ?_, .elem (.agg (by rw [hg, hag]) hr)⟩
    simp [Sem.run_bind, size_run hT hk, hload]
  | false =>
    have hna : v.isAgg = false := by rw [hg, hag]
    have : ∃ x, cs = [x] := by cases hr <;> first | exact ⟨_, rfl⟩ | cases hna
    obtain ⟨x, rfl⟩ := this
    refine ⟨x, ?_, .elem (.one hna hr)⟩
    have := ha 0 x rfl
    simp only [Nat.add_zero] at this
    simp [load, Sem.run, this]

theorem listDrop_mid {α : Type} (pre sub post : List α) : (pre ++ sub ++ post).drop (pre.length + sub.length) = post := by
  rw [← List.length_append, List.drop_left]
theorem listTake_mid {α : Type} (pre sub post : List α) : (pre ++ sub ++ post).take pre.length = pre := by
  rw [List.append_assoc, List.take_left]

/-- a store into the middle of a block of one's own -/
theorem store_run (hT : TabOK P T) {t : Nat} (hk : (T.td t).known = true) {b : Nat} {cur : Array Value} {e : TypeId} (hb : w.heap[b]? = some (.cells cur e (0, 0))) {x : Value} {sub' pre sub post : List Value}
    (hx : x.cells.toList = sub') (hl : sub'.length = T.size t) (hc : cur.toList = pre ++ sub ++ post) (hsub : sub.length = sub'.length) (h1 : ∀ y ∈ sub', y.oneCell' = true) :
    (storeVar t ⟨b, pre.length, none⟩ x).run P w = .ok () (w.setRow b (pre ++ sub' ++ post).toArray) := by
  have hsz : x.cells.size = T.size t := by rw [← Array.length_toList, hx, hl]
  have hst := run_storeCells_at P b pre.length e sub' 0 cur w hb (by
    rw [← Array.length_toList, hc]; simp; omega) h1
  simp only [Nat.add_zero] at hst
  unfold storeVar
  rw [Sem.run_bind, size_run hT hk]
  simp only [Result.andThen_ok, hsz, ne_eq, not_true_eq_false, if_false, hx, hst]
  rw [hc, listTake_mid, ← hsub, listDrop_mid]

/-- 'o.wp' by what the operation does -/
theorem wp_value {o : Oper} {a : Act} {w : World} {K : Act → World → Prop} {Q : Exit → Act → World → Prop} {x : Value} {w' : World}
    (h : (execOp a.eval o).run P w = .ok (.value x) w') (hK : K (a.put o.dst x) w') : o.wp P a w K Q := by
  unfold Oper.wp; rw [h]; exact hK
theorem wp_skip' {o : Oper} {a : Act} {w : World} {K : Act → World → Prop} {Q : Exit → Act → World → Prop} {w' : World}
    (h : (execOp a.eval o).run P w = .ok .skip w') (hK : K (a.put o.dst Go.undef) w') : o.wp P a w K Q := by
  unfold Oper.wp; rw [h]; exact hK
end

section
variable {Ty : Nat → Type} {T : Tab Ty} {P : Program}
variable {w0 : Base} {D0 : Nat → Prop} {N : Nat} {s : St Ty} {a : Act} {w : World} {D : Nat → Prop} {gv : Nat → Option GObj}

theorem upd1 (ob : Nat → Obj Ty) (d : Nat) (x : Obj Ty) (o : Nat) : Obj.upd ob [(d, x)] o = if o = d then x else ob o := by
  by_cases h : o = d
  · subst h; simp [Obj.upd]
  · have : (o == d) = false := by simpa using h
    simp [Obj.upd, h, this]

def gset (gv : Nat → Option GObj) (d : Nat) (g : GObj) : Nat → Option GObj := fun o => if o = d then some g else gv o
theorem gset_same (gv : Nat → Option GObj) (d : Nat) (g : GObj) : gset gv d g d = some g := by simp [gset]
theorem gset_mono {d : Nat} {g : GObj} (h : gv d = none) (o : Nat) (g' : GObj) (ho : gv o = some g') : gset gv d g o = some g' := by
  have : o ≠ d := fun e => by rw [e, h] at ho; cases ho
  simp [gset, this, ho]

theorem gv_none (h : Inv T w0 D0 N s a w D gv) {d : Nat} (hd : s.obj d = .none) : gv d = none := by
  have := h.obj d
  rw [hd] at this
  cases this with | none h => exact h

/-- a world with new blocks alone, or more draws: all as before -/
theorem Inv.world (h : Inv T w0 D0 N s a w D gv) {w' : World} (hg : w.grownBy w' none) : Inv T w0 D0 N s a w' D gv := by
  have hb : ∀ b, b < w.heap.size → w'.heap[b]? = w.heap[b]? := fun b hb => hg.block b hb (by simp)
  refine { defers := h.defers, size := h.size, env := fun t => (h.env t).mono (fun _ h => h) (fun b hD => hb b (h.dlt b hD)) (fun _ _ h => h), obj := fun o => ?_, apart := h.apart,
           grown := h.grown.next hg (fun k hk => by cases hk),
           dold := h.dold, dlt := fun b hD => Nat.lt_of_lt_of_le (h.dlt b hD) hg.size, dnew := h.dnew, glob := h.glob, pins := h.pins }
  refine (h.obj o).mono (fun _ h => h) (fun b hD => hb b (h.dlt b hD)) (fun _ _ h => h) (fun h => h) fun hl g b hgo hbl => ⟨hb b (live_blk (h.obj o) hl hgo hbl).1, ?_⟩
  have ho := h.obj o
  cases hx : s.obj o with
  | var c => rw [hx] at ho; cases ho with | var h1 _ h3 _ _ => rw [hgo] at h1; cases h1; simp only [GObj.blk, Option.some.injEq] at hbl; subst hbl; exact h3
  | row t xs => rw [hx] at ho; cases ho with | row h1 _ _ h4 => rw [hgo] at h1; cases h1; exact (h4 b hbl).2
  | none => rw [hx] at hl; cases hl
  | dead => rw [hx] at hl; cases hl
  | fvar c => rw [hx] at hl; cases hl
  | frow t xs => rw [hx] at hl; cases hl
  | map ks => rw [hx] at ho; cases ho with | map h1 _ h3 _ _ => rw [hgo] at h1; cases h1; simp only [GObj.blk, Option.some.injEq] at hbl; subst hbl; exact h3

theorem live_notD {Own : Nat → Prop} {o : Nat} {x : Obj Ty} (h : ObjOK T w Own D gv o x) (hl : x.live = true) {g : GObj} {b : Nat} (hg : gv o = some g) (hb : g.blk = some b) : ¬ D b := by
  cases h with
  | var h1 _ h3 _ _ => rw [hg] at h1; cases h1; simp only [GObj.blk, Option.some.injEq] at hb; subst hb; exact h3
  | row h1 _ _ h4 => rw [hg] at h1; cases h1; exact (h4 b hb).2
  | none => cases hl
  | dead => cases hl
  | fvar => cases hl
  | frow => cases hl
  | map h1 _ h3 _ _ => rw [hg] at h1; cases h1; simp only [GObj.blk, Option.some.injEq] at hb; subst hb; exact h3

/-- an object more -/
theorem Inv.new (h : Inv T w0 D0 N s a w D gv) {d : Nat} (hd : s.obj d = .none) {g : GObj} {x : Obj Ty}
    (hx : ObjOK T w w0.Own D (gset gv d g) d x)
    (hap : ∀ o g' b, o ≠ d → (s.obj o).live = true → gv o = some g' → g'.blk = some b → g.blk ≠ some b) :
    Inv T w0 D0 N { s with obj := Obj.upd s.obj [(d, x)] } a w D (gset gv d g) := by
  have hn := gv_none h hd
  have hm := gset_mono (g := g) hn
  refine { defers := h.defers, size := h.size, env := fun t => (h.env t).mono (fun _ h => h) (fun _ _ => rfl) hm, obj := fun o => ?_, apart := ?_, grown := h.grown, dold := h.dold, dlt := h.dlt, dnew := h.dnew, glob := h.glob, pins := fun j b hb => hm _ _ (h.pins j b hb) }
  · show ObjOK T w _ D _ o (Obj.upd s.obj [(d, x)] o)
    rw [upd1]
    by_cases ho : o = d
    · subst ho; rw [if_pos rfl]; exact hx
    · rw [if_neg ho]
      exact (h.obj o).mono (fun _ h => h) (fun _ _ => rfl) hm (fun h => by simp [gset, ho, h]) fun hl g b hg hb => ⟨rfl, live_notD (h.obj o) hl hg hb⟩
  · intro o o' g1 g2 b hne hl hl' hg1 hg2 hb1
    simp only [upd1] at hl hl'
    by_cases ho : o = d
    · subst ho
      rw [gset_same] at hg1
      cases hg1
      have ho' : o' ≠ o := fun e => hne e.symm
      rw [if_neg ho'] at hl'
      have hg2' : gv o' = some g2 := by simpa [gset, ho'] using hg2
      exact fun hb2 => hap o' g2 b ho' hl' hg2' hb2 hb1
    · rw [if_neg ho] at hl
      have hg1' : gv o = some g1 := by simpa [gset, ho] using hg1
      by_cases ho' : o' = d
      · subst ho'
        rw [gset_same] at hg2
        cases hg2
        exact hap o g1 b ho hl hg1' hb1
      · rw [if_neg ho'] at hl'
        exact h.apart o o' g1 g2 b hne hl hl' hg1' (by simpa [gset, ho'] using hg2) hb1

/-- a new variable -/
theorem Inv.newVar (h : Inv T w0 D0 N s a w D gv) {d : Nat} (hd : s.obj d = .none) {c : AV Ty} {cs : Array Value} (e : TypeId) (hc : RepC T w D gv c cs.toList) :
    Inv T w0 D0 N { s with obj := Obj.upd s.obj [(d, .var c)] } a (w.alloc (.cells cs e)) D (gset gv d (.var w.heap.size)) := by
  have hw := h.world (World.grownBy_alloc w (.cells cs e) none)
  have hn := gv_none h hd
  refine hw.new hd ?_ ?_
  · refine .var (gset_same _ _ _) (.inr h.grown.size) (fun hD => Nat.lt_irrefl _ (h.dlt _ hD)) (heap_alloc_new w _) ?_
    exact hc.mono (fun _ h => h) (fun b hD => heap_alloc_old w _ b (h.dlt b hD)) (gset_mono hn)
  · intro o g' b _ hl hg' hb e
    simp only [GObj.blk, Option.some.injEq] at e
    have := (live_blk (h.obj o) hl hg' hb).1
    omega
end
end V
