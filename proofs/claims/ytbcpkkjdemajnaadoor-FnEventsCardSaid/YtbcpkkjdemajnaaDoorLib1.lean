/-
  The library of the interpreter: its parts Core, Ops, Interp, Base, Rel, Step, Step2, Dec, Dec2, Types, Eff, OpEq, OpPure, OpPure2, OpPure3.
-/
import Derived.Deep.Quiet
import Derived.Deep.LoopGhost
import Derived.Laws.AppendOwn
import Derived.KernelRfl
import Derived.Lib.ItoaNum
import Derived.Laws.IdiomCopy
import Derived.Calls
import Derived.Laws.StructEq
/-! A deterministic interpreter of the model's code over typed pure values: no addresses, no capacities, no order of evaluation. -/
namespace Go.Pv
/-! ### Types and their pure values -/
inductive Ty where
  | int (k : IntKind) | bool | str | unit
  | sl (t : Ty) | map (k v : Ty) | one (t : Ty) | pair (a b : Ty)
  deriving DecidableEq, Inhabited
abbrev Bytes := List UInt8
@[reducible] def Ty.den : Ty → Type
  | .int _ => Int
  | .bool => Bool
  | .str => List UInt8
  | .unit => Unit
  | .sl t => List t.den
  | .map k v => List (k.den × v.den)
  | .one t => t.den
  | .pair a b => a.den × b.den
def Ty.size : Ty → Nat
  | .int _ | .bool | .str | .sl _ | .map _ _ => 1
  | .unit => 0
  | .one t => t.size
  | .pair a b => a.size + b.size
/-- Its value is a struct's. -/
def Ty.ag : Ty → Bool
  | .unit | .one _ | .pair _ _ => true
  | _ => false
def Ty.dflt : (t : Ty) → t.den
  | .int _ => (0 : Int)
  | .bool => false
  | .str => []
  | .unit => ()
  | .sl _ => []
  | .map _ _ => []
  | .one t => t.dflt
  | .pair a b => (a.dflt, b.dflt)
/-! ### Values, cells -/
inductive C where
  | val (t : Ty) (x : t.den)
  | lit (b : Bool)
  | nil
  | nmap
  | ref (id : Nat)
  | ptr (b off : Nat)
  | iptr (t : Ty) (x : t.den)
  | sptr (id : Nat) (t : Ty) (i : Int) (off : Nat)
  | aptr (b off : Nat) (t : Ty) (n : Nat) (i : Int)
  | fn (f : Nat) (caps : List Nat)
  | nptr
  | und
inductive V where
  | v (ag : Bool) (cs : List C)
  | tup (vs : List (Bool × List C))
/-- A row of the call's own, or a map: its elements, whether it may still be written. -/
structure Ob where
  mp : Bool
  e : TypeId
  t : Ty
  xs : List t.den
  fz : Bool
structure St where
  fs : List (Nat × V)
  fc : List ((Nat × Nat) × C)
  fo : List (Nat × Ob)
  s : List (Nat × V)
  c : List ((Nat × Nat) × C)
  o : List (Nat × Ob)
  n : Nat
universe u
def lk {α : Type u} : List (Nat × α) → Nat → Option α
  | [], _ => none
  | (m, v) :: r, n => match Nat.beq m n with | true => some v | false => lk r n
def lk2 {α : Type u} : List ((Nat × Nat) × α) → Nat → Nat → Option α
  | [], _, _ => none
  | ((a, b), v) :: r, m, n => match Nat.beq a m && Nat.beq b n with | true => some v | false => lk2 r m n
def St.slot (st : St) (n : Nat) : Option V := match lk st.s n with | some v => some v | none => lk st.fs n
def St.cell (st : St) (b off : Nat) : Option C := match lk2 st.c b off with | some v => some v | none => lk2 st.fc b off
def St.ob (st : St) (id : Nat) : Option Ob := match lk st.o id with | some v => some v | none => lk st.fo id
/-- Put into a slot that may be written. -/
def St.put (st : St) (d : Option Nat) (v : V) : Option St :=
  match d with
  | none => some st
  | some n => match lk st.fs n with
    | some _ => none
    | none => match st with | ⟨fs, fc, fo, s, c, o, m⟩ => some ⟨fs, fc, fo, (n, v) :: s, c, o, m⟩
def St.setO (st : St) (o : List (Nat × Ob)) : St := match st with | ⟨fs, fc, fo, s, c, _, n⟩ => ⟨fs, fc, fo, s, c, o, n⟩
def St.setCs (st : St) (c : List ((Nat × Nat) × C)) : St := match st with | ⟨fs, fc, fo, s, _, o, n⟩ => ⟨fs, fc, fo, s, c, o, n⟩
def St.addO (st : St) (ob : Ob) : St := match st with | ⟨fs, fc, fo, s, c, o, n⟩ => ⟨fs, fc, fo, s, c, (n, ob) :: o, n + 1⟩
def setC : List ((Nat × Nat) × C) → Nat → Nat → C → Option (List ((Nat × Nat) × C))
  | [], _, _, _ => none
  | ((a, b), v) :: r, m, n, c => match Nat.beq a m && Nat.beq b n with
    | true => some (((a, b), c) :: r)
    | false => match setC r m n c with | some r' => some (((a, b), v) :: r') | none => none
/-- Take an object out. -/
def rmO : List (Nat × Ob) → Nat → List (Nat × Ob)
  | [], _ => []
  | (m, ob) :: r, n => match Nat.beq m n with | true => rmO r n | false => (m, ob) :: rmO r n
def takeO : List (Nat × Ob) → Nat → Option (Ob × List (Nat × Ob))
  | [], _ => none
  | (m, ob) :: r, n => match Nat.beq m n with
    | true => some (ob, rmO r n)
    | false => match takeO r n with | some (x, r') => some (x, (m, ob) :: r') | none => none
def St.take (st : St) (id : Nat) : Option (Ob × St) :=
  match lk st.fo id with
  | some _ => none
  | none => match takeO st.o id with
    | some (ob, o') => some (ob, st.setO o')
    | none => none
def fzO : List (Nat × Ob) → Nat → Option (List (Nat × Ob))
  | [], _ => none
  | (m, ob) :: r, n => match Nat.beq m n with
    | true => some ((m, { ob with fz := true }) :: r)
    | false => match fzO r n with | some r' => some ((m, ob) :: r') | none => none
/-! ### From cells to pure values and back -/
def castT (t t' : Ty) (x : t.den) : Option t'.den := if h : t = t' then some (h ▸ x) else none
def castL (t t' : Ty) (x : List t.den) : Option (List t'.den) := if h : t = t' then some (h ▸ x) else none
/-- What a type's value is, cell by cell. -/
def cellsOf : (t : Ty) → t.den → List C
  | .int k, x => [.val (.int k) x]
  | .bool, x => [.val .bool x]
  | .str, x => [.val .str x]
  | .unit, _ => []
  | .sl t, x => [.val (.sl t) x]
  | .map k v, x => [.val (.map k v) x]
  | .one t, x => cellsOf t x
  | .pair a b, x => cellsOf a x.1 ++ cellsOf b x.2
/-- One cell read as a value of type t (of one cell); the objects that are told by it are frozen: the third part. -/
def datC (st : St) (t : Ty) : C → Option (t.den × List Nat)
  | .val t' x => match castT t' t x with | some y => some (y, []) | none => none
  | .nil => match t with | .sl _ => some ([], []) | _ => none
  | .nmap => match t with | .map _ _ => some ([], []) | _ => none
  | .ref id => match st.ob id with
    | some ob => match t, ob.mp with
      | .sl t', false => match castL ob.t t' ob.xs with | some y => some (y, [id]) | none => none
      | .map k v, true => match castL ob.t (.pair k v) ob.xs with | some y => some (y, [id]) | none => none
      | _, _ => none
    | none => none
  | _ => none
/-- Cells read as a value of type t; what is left; what is frozen. -/
def dat (st : St) : (t : Ty) → List C → Option (t.den × List C × List Nat)
  | .unit, cs => some ((), cs, [])
  | .one t, cs => dat st t cs
  | .pair a b, cs => match dat st a cs with
    | some (x, cs, i) => match dat st b cs with
      | some (y, cs, j) => some ((x, y), cs, i ++ j)
      | none => none
    | none => none
  | .int k, c :: cs => match datC st (.int k) c with | some (x, i) => some (x, cs, i) | none => none
  | .bool, c :: cs => match datC st .bool c with | some (x, i) => some (x, cs, i) | none => none
  | .str, c :: cs => match datC st .str c with | some (x, i) => some (x, cs, i) | none => none
  | .sl t, c :: cs => match datC st (.sl t) c with | some (x, i) => some (x, cs, i) | none => none
  | .map k v, c :: cs => match datC st (.map k v) c with | some (x, i) => some (x, cs, i) | none => none
  | _, [] => none
def freezeAll (st : St) : List Nat → Option St
  | [] => some st
  | id :: r => match st.ob id with
    | some ob => match ob.fz with
      | true => freezeAll st r
      | false => match fzO st.o id with
        | some o' => freezeAll (st.setO o') r
        | none => none
    | none => none
end Go.Pv
namespace Go.Pv
/-! ### Contracts of callees, and what a function's text is told beside it -/
inductive LK where
  | dat (t : Ty)
  | own (e : TypeId) (t : Ty)
  | mp (k v : Ty)
@[reducible] def LK.den : LK → Type
  | .dat t => t.den
  | .own _ t => List t.den
  | .mp k v => List (k.den × v.den)
@[reducible] def LDen : List LK → Type
  | [] => Unit
  | k :: r => k.den × LDen r
@[reducible] def PDen : List (List LK) → Type
  | [] => Unit
  | k :: r => LDen k × PDen r
def LK.size : LK → Nat
  | .dat t => t.size
  | .own _ _ => 1
  | .mp _ _ => 1
inductive AK where
  | val (k : LK)
  | ro (t : Ty)
  | io (ks : List LK)
  | fnc (f : Nat)
def AK.ks : AK → List LK
  | .val k => [k]
  | .ro t => [.dat t]
  | .io ks => ks
  | .fnc _ => []
/-- How a result is told: plain cells, a new variable's pointer, or such a pointer or nil. -/
inductive RB where
  | val | box | opt
  deriving DecidableEq
structure RK where
  box : RB
  ag : Bool
  ks : List LK
  τ : Type
  to : LDen ks → τ
  of : τ → LDen ks
@[reducible] def RK.den (r : RK) : Type := match r.box with | .opt => Option r.τ | _ => r.τ
@[reducible] def RDen : List RK → Type
  | [] => Unit
  | r :: rs => r.den × RDen rs
def ioKs : List AK → List (List LK)
  | [] => []
  | .io ks :: r => ks :: ioKs r
  | _ :: r => ioKs r
/-- What is told of a callee: how its arguments are read, its results made; its answers. -/
structure Ctr where
  args : List AK
  outs : List RK
  ρ : Type
  f : PDen (args.map AK.ks) → Option ρ
  out : ρ → PDen (ioKs args) × RDen outs
structure TI where
  t : Ty
  fl : List (Nat × Ty) := []      -- a struct's fields: offset, type
  el : Option (TypeId × Ty) := none   -- a slice's element
  eq : Bool := false   -- compared with ==, cell by cell
  arr : Bool := false  -- an array
def elT (i : TI) : Option Ty := match i.el with | some (_, t) => some t | none => none
inductive Loc where
  | slot (n : Nat)
  | cell (b off : Nat)
structure LAnn where
  vars : List (Loc × LK)
  σ : Type
  to : LDen (vars.map (·.2)) → σ
  of : σ → LDen (vars.map (·.2))
  full : Bool := false
  drop : List Loc := []
structure JAnn where
  vars : List Loc
  out : List (Loc × LK)
  σ : Type
  to : LDen (out.map (·.2)) → σ
  of : σ → LDen (out.map (·.2))
structure Cfg where
  tys : List (Nat × TI)
  arrs : List (Nat × (Nat × Ty)) := []
  calls : List (Nat × Ctr)
structure FC where
  cfg : Cfg
  nt : Nat
  args : List AK
  results : List ResultVar
  outs : List RK
  loops : List (Nat × LAnn) := []
  joins : List (Nat × JAnn) := []
  wr : List (Nat × List Nat) := []
@[reducible] def FC.OD (fc : FC) : Type := PDen (ioKs fc.args) × RDen fc.outs
def FC.ty (fc : FC) (t : TypeId) : Option Ty := match lk fc.cfg.tys t with | some i => some i.t | none => none
/-! ### Reading and writing cells -/
def readC (st : St) (b off : Nat) : Nat → Option (List C)
  | 0 => some []
  | n + 1 => match st.cell b off with
    | some c => match readC st b (off + 1) n with | some r => some (c :: r) | none => none
    | none => none
def writeC (c : List ((Nat × Nat) × C)) (b off : Nat) : List C → Option (List ((Nat × Nat) × C))
  | [] => some c
  | x :: r => match setC c b off x with | some c' => writeC c' b (off + 1) r | none => none
def newC (b : Nat) : (off : Nat) → List C → List ((Nat × Nat) × C) → List ((Nat × Nat) × C)
  | _, [], c => c
  | off, x :: r, c => ((b, off), x) :: newC b (off + 1) r c
def St.addB (st : St) (cs : List C) : St := match st with | ⟨fs, fc, fo, s, c, o, n⟩ => ⟨fs, fc, fo, s, newC n 0 cs c, o, n + 1⟩
/-- The value of a type, part by part: what stands at an offset. -/
def getAt (t' : Ty) : (t : Ty) → t.den → Nat → Option t'.den
  | .one t, x, off => match off with
    | 0 => match castT (.one t) t' x with | some y => some y | none => getAt t' t x 0
    | n + 1 => getAt t' t x (n + 1)
  | .pair a b, x, off => match off with
    | 0 => match castT (.pair a b) t' x with | some y => some y | none => getAt t' a x.1 0
    | n + 1 => match Nat.blt (n + 1) a.size with
      | true => getAt t' a x.1 (n + 1)
      | false => getAt t' b x.2 (n + 1 - a.size)
  | t, x, off => match off with
    | 0 => castT t t' x
    | _ + 1 => none
def setAt (t' : Ty) (y : t'.den) : (t : Ty) → t.den → Nat → Option t.den
  | .one t, x, off => match off with
    | 0 => match castT t' (.one t) y with | some z => some z | none => setAt t' y t x 0
    | n + 1 => setAt t' y t x (n + 1)
  | .pair a b, x, off => match off with
    | 0 => match castT t' (.pair a b) y with
      | some z => some z
      | none => match setAt t' y a x.1 0 with | some z => some (z, x.2) | none => none
    | n + 1 => match Nat.blt (n + 1) a.size with
      | true => match setAt t' y a x.1 (n + 1) with | some z => some (z, x.2) | none => none
      | false => match setAt t' y b x.2 (n + 1 - a.size) with | some z => some (x.1, z) | none => none
  | t, _, off => match off with
    | 0 => castT t' t y
    | _ + 1 => none
def zeroC : Ty → List C
  | .sl _ => [.nil]
  | .map _ _ => [.nmap]
  | .unit => []
  | .int k => [.val (.int k) (0 : Int)]
  | .bool => [.val .bool false]
  | .str => [.val .str []]
  | .one t => zeroC t
  | .pair a b => zeroC a ++ zeroC b
/-! ### Partial operations, as they stand in the printed functions -/
/-- The longest row that is made. -/
def LIM : Nat := 68719476736
def idx {α : Type} (xs : List α) (i : Int) : Option α := if 0 ≤ i then xs[i.toNat]? else none
def apd {α : Type} (xs ys : List α) : Option (List α) := if xs.length + ys.length ≤ LIM then some (xs ++ ys) else none
def sub {α : Type} (xs : List α) (lo hi : Int) : Option (List α) := if 0 ≤ lo ∧ lo ≤ hi ∧ hi ≤ xs.length then some ((xs.take hi.toNat).drop lo.toNat) else none
def mkS {α : Type} (d : α) (l c : Int) : Option (List α) := if 0 ≤ l ∧ l ≤ c ∧ c ≤ LIM then some (List.replicate l.toNat d) else none
def quoK (k : IntKind) (x y : Int) : Option Int := if y = 0 then none else some (k.wrap (x.tdiv y))
def remK (x y : Int) : Option Int := if y = 0 then none else some (x.tmod y)
def setK {α : Type} (xs : List α) (i : Int) (y : α) : List α := xs.set i.toNat y
def byt (c : UInt8) : Int := (c.toNat : Int)
def ofByts (xs : List Int) : List UInt8 := xs.map fun n => UInt8.ofNat n.toNat
def byts (s : List UInt8) : List Int := s.map byt
def bitsK (op : BinOp) (k : IntKind) (x y : Int) : Int :=
  let a := BitVec.ofInt k.bits x
  let b := BitVec.ofInt k.bits y
  match op with
  | .and => k.wrap (a &&& b).toNat
  | .or => k.wrap (a ||| b).toNat
  | .xor => k.wrap (a ^^^ b).toNat
  | _ => k.wrap (a &&& ~~~b).toNat
def shlK (k : IntKind) (x y : Int) : Option Int := if y < 0 then none else some (k.wrap (x * 2 ^ (min y.toNat k.bits)))
def shrK (k : IntKind) (x y : Int) : Option Int := if y < 0 then none else some (x.fdiv (2 ^ (min y.toNat k.bits)))
def keyEq : (t : Ty) → t.den → t.den → Bool
  | .int _, x, y => ((x : Int) == y)
  | .bool, x, y => x == y
  | .str, x, y => x == y
  | _, _, _ => false
def mget {κ α : Type} (eq : κ → κ → Bool) : List (κ × α) → κ → Option α
  | [], _ => none
  | e :: r, k => match eq k e.1 with | true => some e.2 | false => mget eq r k
def mgetD {κ α : Type} (eq : κ → κ → Bool) (m : List (κ × α)) (k : κ) (d : α) : α := (mget eq m k).getD d
def mset {κ α : Type} (eq : κ → κ → Bool) : List (κ × α) → κ → α → List (κ × α)
  | [], k, v => [(k, v)]
  | e :: r, k, v => match eq k e.1 with | true => (k, v) :: r | false => e :: mset eq r k v
/-- Both ways of a test. -/
@[reducible] def bcase {α : Type} (b : Bool) (x y : α) : α := match b with | true => x | false => y
section
variable {R : Type}
/-! ### Operands -/
def ofConst : Value → Option V
  | .bool b => some (.v false [.val .bool b])
  | .int k n => some (.v false [.val (.int k) n])
  | .string s => some (.v false [.val .str s.data.toList])
  | .slice none 0 0 => some (.v false [.nil])
  | .pointer none => some (.v false [.nptr])
  | .map none => some (.v false [.nmap])
  | _ => none
def opd (st : St) : Operand → Option V
  | .tmp t => st.slot t
  | .const v => ofConst v
  | .func f => some (.v false [.fn f []])
  | _ => none
def opd1 (st : St) (x : Operand) : Option C := match opd st x with | some (.v false [c]) => some c | _ => none
def opdI (st : St) (x : Operand) : Option Int := match opd st x with | some (.v false [.val (.int _) n]) => some n | _ => none
def intC (k : IntKind) (n : Int) : C := .val (.int k) n
def boolC (b : Bool) : C := .val .bool b
def one (c : C) : V := .v false [c]
/-! ### Arithmetic and comparisons -/
/-- The cells of a type whose values are compared cell by cell. -/
def flatTy : Ty → List Ty
  | .unit => []
  | .one t => flatTy t
  | .pair a b => flatTy a ++ flatTy b
  | t => [t]
def eqC (t : Ty) (c d : C) : Option Bool :=
  match c, d with
  | .val (.int k) x, .val (.int k') y => match decide (t = .int k), decide (k = k') with | true, true => some ((x : Int) == y) | _, _ => none
  | .val .bool x, .val .bool y => match t with | .bool => some (x == y) | _ => none
  | .val .str x, .val .str y => match t with | .str => some (x == y) | _ => none
  | _, _ => none
def eqCs : List Ty → List C → List C → Option Bool
  | [], [], [] => some true
  | [t], [c], [d] => eqC t c d
  | t :: ts, c :: cs, d :: ds => match eqC t c d with
    | some b => match eqCs ts cs ds with | some b' => some (b && b') | none => none
    | none => none
  | _, _, _ => none
def cmpI (op : BinOp) (x y : Int) : Option Bool :=
  match op with
  | .eql => some (x == y) | .neq => some (x != y) | .lss => some (decide (x < y)) | .leq => some (decide (x ≤ y))
  | .gtr => some (decide (x > y)) | .geq => some (decide (x ≥ y)) | _ => none
def strLt : List UInt8 → List UInt8 → Bool := Op.bytesLess
def binK (eq : Option Ty) (op : BinOp) (x y : C) (k : C → Option R) : Option R :=
  match op with
  | .shl => match x, y with
    | .val (.int q) a, .val (.int _) b => (shlK q a b).bind fun z => k (intC q z)
    | _, _ => none
  | .shr => match x, y with
    | .val (.int q) a, .val (.int _) b => (shrK q a b).bind fun z => k (intC q z)
    | _, _ => none
  | .add => match x, y with
    | .val (.int q) a, .val (.int q') b => if q = q' then k (intC q (q.wrap (a + b))) else none
    | .val .str a, .val .str b => (apd a b).bind fun z => k (.val .str z)
    | _, _ => none
  | .sub => match x, y with
    | .val (.int q) a, .val (.int q') b => if q = q' then k (intC q (q.wrap (a - b))) else none
    | _, _ => none
  | .mul => match x, y with
    | .val (.int q) a, .val (.int q') b => if q = q' then k (intC q (q.wrap (a * b))) else none
    | _, _ => none
  | .quo => match x, y with
    | .val (.int q) a, .val (.int q') b => if q = q' then (quoK q a b).bind fun z => k (intC q z) else none
    | _, _ => none
  | .rem => match x, y with
    | .val (.int q) a, .val (.int q') b => if q = q' then (remK a b).bind fun z => k (intC q z) else none
    | _, _ => none
  | .and | .or | .xor | .andNot => match x, y with
    | .val (.int q) a, .val (.int q') b => if q = q' then k (intC q (bitsK op q a b)) else none
    | _, _ => none
  | _ => match x, y with
    | .val (.int q) a, .val (.int q') b => if q = q' then (match cmpI op a b with | some z => k (boolC z) | none => none) else none
    | .val .str a, .val .str b => match op with
      | .eql => k (boolC (a == b))
      | .neq => k (boolC (!(a == b)))
      | .lss => k (boolC (strLt a b))
      | .leq => k (boolC (strLt a b || a == b))
      | .gtr => k (boolC (!(strLt a b || a == b)))
      | .geq => k (boolC (!strLt a b))
      | _ => none
    | .val .bool a, .val .bool b => match op, eq with
      | .eql, some .bool => k (boolC (a == b))
      | .neq, some .bool => k (boolC (!(a == b)))
      | _, _ => none
    | _, _ => none
def binVK (eq : Option Ty) (op : BinOp) (x y : V) (k : V → Option R) : Option R :=
  match x, y with
  | .v false [c], .v false [d] => binK eq op c d fun z => k (one z)
  | .v true cs, .v true ds => match op, eq with
    | .eql, some t => match t.ag, eqCs (flatTy t) cs ds with | true, some b => k (one (boolC b)) | _, _ => none
    | .neq, some t => match t.ag, eqCs (flatTy t) cs ds with | true, some b => k (one (boolC (!b))) | _, _ => none
    | _, _ => none
  | _, _ => none
def unK (op : UnOp) (x : C) : Option C :=
  match op, x with
  | .neg, .val (.int q) a => some (intC q (q.wrap (0 - a)))
  | .not, .val .bool b => some (boolC (!b))
  | _, _ => none
def lenC (st : St) (t : Ty) (c : C) : Option Int :=
  match t with
  | .sl _ => match c with
    | .val (.sl _) xs => some (xs.length : Int)
    | .nil => some 0
    | .ref id => match st.ob id with
      | some ob => match ob.mp with | false => some (ob.xs.length : Int) | true => none
      | none => none
    | _ => none
  | .str => match c with | .val .str s => some (s.length : Int) | _ => none
  | .map _ _ => match c with
    | .val (.map _ _) m => some (m.length : Int)
    | .nmap => some 0
    | .ref id => match st.ob id with
      | some ob => match ob.mp with | true => some (ob.xs.length : Int) | false => none
      | none => none
    | _ => none
  | _ => none
def subCs : List C → Nat → Nat → Option (List C)
  | _, 0, 0 => some []
  | c :: cs, 0, n + 1 => match subCs cs 0 n with | some r => some (c :: r) | none => none
  | _ :: cs, off + 1, n => subCs cs off n
  | [], _, _ => none
/-! ### Operations that leave memory alone -/
/-- The elements of an array variable. -/
def arrK (st : St) (t : Ty) (b off : Nat) : Nat → Option (List t.den)
  | 0 => some []
  | n + 1 => match readC st b off t.size with
    | some cs => match dat st t cs with
      | some (x, [], []) => match arrK st t b (off + t.size) n with | some r => some (x :: r) | none => none
      | _ => none
    | none => none
def loadK (st : St) (t : Ty) (x : C) (k : V → Option R) : Option R :=
  match x with
  | .ptr b off => match readC st b off t.size with | some cs => k (.v t.ag cs) | none => none
  | .iptr t' y => match castT t' t y with | some z => k (.v t.ag (cellsOf t z)) | none => none
  | .sptr id te i off => match st.ob id, Nat.beq t.size 0 with
    | some ob, false => match castL ob.t te ob.xs with
      | some xs => (idx xs i).bind fun e => match getAt t te e off with
        | some z => k (.v t.ag (cellsOf t z))
        | none => none
      | none => none
    | _, _ => none
  | .aptr b off te n i => match arrK st te b off n with
    | some xs => (idx xs i).bind fun e => match castT te t e with | some z => k (.v t.ag (cellsOf t z)) | none => none
    | none => none
  | _ => none
def fieldAddrC (x : C) (off : Nat) (tf : Ty) : Option C :=
  match x with
  | .ptr b o => some (.ptr b (o + off))
  | .iptr t y => match getAt tf t y off with | some z => some (.iptr tf z) | none => none
  | .sptr id te i o => some (.sptr id te i (o + off))
  | _ => none
def indexAddrK (st : St) (ar : Option (Nat × Ty)) (el : Option Ty) (x : C) (i : Int) (k : C → Option R) : Option R :=
  match x with
  | .ptr b off => match ar with
    | some (n, te) => match arrK st te b off n with
      | some xs => (idx xs i).bind fun _ => k (.aptr b off te n i)
      | none => none
    | none => none
  | .val (.sl t) xs => match decide (el = some t) with | true => (idx xs i).bind fun e => k (.iptr t e) | false => none
  | .ref id => match st.ob id with
    | some ob => match ob.mp, decide (el = some ob.t) with | false, true => (idx ob.xs i).bind fun _ => k (.sptr id ob.t i 0) | _, _ => none
    | none => none
  | _ => none
def minmaxC (mx : Bool) : C → C → Option C
  | .val (.int q) a, .val (.int q') b => if q = q' then some (intC q (match mx with | true => max a b | false => min a b)) else none
  | _, _ => none
/-- A slice expression: bounds where they stand. -/
def sliceK (st : St) (ti : TI) (x : C) (lo hi : Option Int) (k : C → St → Option R) : Option R :=
  match x with
  | .val .str s => match ti.t with | .str => (sub s (lo.getD 0) (hi.getD (s.length : Int))).bind fun z => k (.val .str z) st | _ => none
  | .val (.sl t) xs => match decide (elT ti = some t) with
    | true => (sub xs (lo.getD 0) (hi.getD (xs.length : Int))).bind fun z => k (.val (.sl t) z) st
    | false => none
  | .ref id => match st.ob id with
    | some ob => match ob.mp, decide (elT ti = some ob.t), freezeAll st [id] with
      | false, true, some st' => (sub ob.xs (lo.getD 0) (hi.getD (ob.xs.length : Int))).bind fun z => k (.val (.sl ob.t) z) st'
      | _, _, _ => none
    | none => none
  | _ => none
def convK (st : St) (src dst : Ty) (x : C) (k : C → Option R) : Option R :=
  match dst with
  | .int q => match x with | .val (.int _) n => k (intC q (q.wrap n)) | _ => none
  | .str => match x with
    | .val .str s => k (.val .str s)
    | c => match src with
      | .sl (.int .u8) => match datC st (.sl (.int .u8)) c with | some (xs, _) => k (.val .str (ofByts xs)) | none => none
      | _ => none
  | _ => none
/-! ### Telling cells as pure values, with what is taken from the state (nf: nothing is frozen: what is told is not kept) -/
def decK (nf : Bool) (st : St) : (k : LK) → List C → Option (k.den × List C × St)
  | .dat t, cs => match dat st t cs with
    | some (x, r, ids) => match nf with
      | true => some (x, r, st)
      | false => match freezeAll st ids with | some st' => some (x, r, st') | none => none
    | none => none
  | .own e t, c :: r => match c with
    | .nil => some ([], r, st)
    | .ref id => match st.take id with
      | some (ob, st') => match ob.fz with
        | true => none
        | false => match Nat.beq ob.e e, ob.mp with
          | true, false => match castL ob.t t ob.xs with | some xs => some (xs, r, st') | none => none
          | _, _ => none
      | none => none
    | _ => none
  | .mp kt vt, c :: r => match c with
    | .ref id => match st.take id with
      | some (ob, st') => match ob.fz, ob.mp with
        | false, true => match castL ob.t (.pair kt vt) ob.xs with | some xs => some (xs, r, st') | none => none
        | _, _ => none
      | none => none
    | _ => none
  | .own _ _, [] => none
  | .mp _ _, [] => none
def decL (nf : Bool) (st : St) : (ks : List LK) → List C → Option (LDen ks × List C × St)
  | [], cs => some ((), cs, st)
  | k :: ks, cs => match decK nf st k cs with
    | some (x, r, st') => match decL nf st' ks r with
      | some (y, r', st'') => some ((x, y), r', st'')
      | none => none
    | none => none
def sizeL : List LK → Nat
  | [] => 0
  | k :: ks => k.size + sizeL ks
def lkAg : LK → Bool
  | .dat t => t.ag
  | _ => false
/-- The cells of an argument, or of what it points to. -/
def argCells (st : St) (a : AK) (v : V) : Option (List C) :=
  match a with
  | .val k => match v with
    | .v g cs => match g, lkAg k with | true, true => some cs | false, false => some cs | _, _ => none
    | _ => none
  | .ro t => match v, Nat.beq t.size 0 with
    | .v false [.ptr b off], false => readC st b off t.size
    | .v false [.iptr t' x], false => match castT t' t x with | some y => some (cellsOf t y) | none => none
    | _, _ => none
  | .io ks => match v, Nat.beq (sizeL ks) 0 with | .v false [.ptr b off], false => readC st b off (sizeL ks) | _, _ => none
  | .fnc f => match v with | .v false [.fn g []] => (match Nat.beq g f with | true => some [] | false => none) | _ => none
def isNil {α : Type} : List α → Bool
  | [] => true
  | _ => false
def decArg (nf : Bool) (st : St) (a : AK) (v : V) : Option (LDen a.ks × St) :=
  match argCells st a v with
  | some cs => match decL nf st a.ks cs with
    | some (x, r, st') => match isNil r with | true => some (x, st') | false => none
    | none => none
  | none => none
def decArgs (nf : Bool) (st : St) : (as : List AK) → List V → Option (PDen (as.map AK.ks) × St)
  | [], vs => match vs with | [] => some ((), st) | _ => none
  | a :: as, vs => match vs with
    | v :: vs' => match decArg nf st a v with
      | some (x, st') => match decArgs nf st' as vs' with
        | some (y, st'') => some ((x, y), st'')
        | none => none
      | none => none
    | [] => none
def encK (st : St) : (k : LK) → k.den → List C × St
  | .dat t, x => (cellsOf t x, st)
  | .own e t, xs => ([.ref st.n], st.addO ⟨false, e, t, xs, false⟩)
  | .mp k v, xs => ([.ref st.n], st.addO ⟨true, 0, .pair k v, xs, false⟩)
def encL (st : St) : (ks : List LK) → LDen ks → List C × St
  | [], _ => ([], st)
  | k :: ks, x => match encK st k x.1 with
    | (cs, st') => match encL st' ks x.2 with
      | (cs', st'') => (cs ++ cs', st'')
/-- How many objects of its own a row of cells has. -/
def ownN : List LK → Nat
  | [] => 0
  | .dat _ :: r => ownN r
  | _ :: r => ownN r + 1
/-- The state in which a function's text begins. -/
def initA (st : St) : (as : List AK) → (i : Nat) → PDen (as.map AK.ks) → St
  | [], _, _ => st
  | .val k :: as, i, x => match encK st k x.1.1 with
    | (cs, ⟨fs, fc, fo, s, c, o, n⟩) => initA ⟨fs, fc, fo, (i, .v (match k with | .dat t => t.ag | _ => false) cs) :: s, c, o, n⟩ as (i + 1) x.2
  | .ro t :: as, i, x => match st with
    | ⟨fs, fc, fo, s, c, o, n⟩ => initA ⟨fs, fc, fo, (i, .v false [.iptr t x.1.1]) :: s, c, o, n⟩ as (i + 1) x.2
  | .fnc f :: as, i, x => match st with
    | ⟨fs, fc, fo, s, c, o, n⟩ => initA ⟨fs, fc, fo, (i, .v false [.fn f []]) :: s, c, o, n⟩ as (i + 1) x.2
  | .io ks :: as, i, x => match encL st ks x.1 with
    | (cs, ⟨fs, fc, fo, s, c, o, n⟩) => initA ⟨fs, fc, fo, (i, .v false [.ptr n 0]) :: s, newC n 0 cs c, o, n + 1⟩ as (i + 1) x.2
def initSt (as : List AK) (x : PDen (as.map AK.ks)) : St := initA ⟨[], [], [], [], [], [], 0⟩ as 0 x
@[reducible] def optK {α β : Type} (o : Option α) (f : α → β) (g : β) : β := match o with | some x => f x | none => g
def encR (st : St) (r : RK) (x : r.τ) : (Bool × List C) × St :=
  match encL st r.ks (r.of x) with
  | (cs, st') => match r.box with
    | .val => ((r.ag, cs), st')
    | _ => ((false, [.ptr st'.n 0]), st'.addB cs)
def encRK (st : St) (r : RK) (x : r.den) (k : Bool × List C → St → Option R) : Option R :=
  match r with
  | ⟨.opt, ag, ks, τ, to, of⟩ => match Nat.beq (sizeL ks) 0 with
    | true => none
    | false => optK (α := τ) x (fun y => match encR st ⟨.opt, ag, ks, τ, to, of⟩ y with | (p, st') => k p st') (k (false, [.nptr]) st)
  | ⟨.val, ag, ks, τ, to, of⟩ => match encR st ⟨.val, ag, ks, τ, to, of⟩ x with | (p, st') => k p st'
  | ⟨.box, ag, ks, τ, to, of⟩ => match Nat.beq (sizeL ks) 0 with
    | true => none
    | false => match encR st ⟨.box, ag, ks, τ, to, of⟩ x with | (p, st') => k p st'
def encRs (st : St) : (rs : List RK) → RDen rs → (List (Bool × List C) → St → Option R) → Option R
  | [], _, k => k [] st
  | r :: rs, x, k => encRK st r x.1 fun p st' => encRs st' rs x.2 fun ps st'' => k (p :: ps) st''
def tupV : List (Bool × List C) → V
  | [(g, cs)] => .v g cs
  | ps => .tup ps
/-- Behind the call: what the pointers led to is written back. -/
def encIos (st : St) : (as : List AK) → List V → PDen (ioKs as) → Option St
  | [], _, _ => some st
  | .io ks :: as, v :: vs, y =>
    match v with
    | .v false [.ptr b off] => match encL st ks y.1 with
      | (cs, st') => match writeC st'.c b off cs with
        | some c' => encIos (st'.setCs c') as vs y.2
        | none => none
    | _ => none
  | .val _ :: as, _ :: vs, y => encIos st as vs y
  | .ro _ :: as, _ :: vs, y => encIos st as vs y
  | .fnc _ :: as, _ :: vs, y => encIos st as vs y
  | _ :: _, [], _ => none
def encOuts (st : St) (as : List AK) (vs : List V) (rs : List RK) (y : PDen (ioKs as) × RDen rs) (k : V → St → Option R) : Option R :=
  match encIos st as vs y.1 with
  | some st' => encRs st' rs y.2 fun ps st'' => k (tupV ps) st''
  | none => none
end
end Go.Pv
namespace Go.Pv
section
variable {R : Type}
/-! ### Single operations -/
def opds (st : St) : List Operand → Option (List V)
  | [] => some []
  | x :: r => match opd st x with
    | some v => match opds st r with | some vs => some (v :: vs) | none => none
    | none => none
def putCs : List C → Nat → List C → Option (List C)
  | cs, _, [] => some cs
  | c :: cs, 0, d :: ds => match putCs cs 0 ds with | some r => some (d :: r) | none => none
  | c :: cs, n + 1, ds => match putCs cs n ds with | some r => some (c :: r) | none => none
  | [], _, _ :: _ => none
def fill (st : St) (fl : List (Nat × Ty)) : List (Nat × Operand) → List C → Option (List C)
  | [], cs => some cs
  | (j, x) :: r, cs => match fl[j]? with
    | some (off, t) => match opd st x with
      | some (.v _ ds) => match Nat.beq ds.length t.size with
        | true => match putCs cs off ds with | some cs' => fill st fl r cs' | none => none
        | false => none
      | _ => none
    | none => none
/-- The elements of a literal row, all of them written, in their order. -/
def elems (st : St) (t : Ty) (i : Nat) : List (Nat × Operand) → Option (List t.den × List Nat)
  | [] => some ([], [])
  | (j, x) :: r => match Nat.beq i j with
    | true => match opd st x with
      | some (.v _ cs) => match dat st t cs with
        | some (y, rest, ids) => match isNil rest with
          | true => match elems st t (i + 1) r with
            | some (ys, ids') => some (y :: ys, ids ++ ids')
            | none => none
          | false => none
        | none => none
      | _ => none
    | false => none
def whenB {α : Type} (b : Bool) (x : Option α) : Option α := match b with | true => x | false => none
def nth {α : Type} : List α → Nat → Option α
  | [], _ => none
  | x :: _, 0 => some x
  | _ :: r, n + 1 => nth r n
/-- A call that answers plain cells and changes nothing. -/
def scalarT : Ty → Bool
  | .int _ | .bool | .str | .unit => true
  | .one t => scalarT t
  | .pair a b => scalarT a && scalarT b
  | _ => false
def scalarLs : List LK → Bool
  | [] => true
  | .dat t :: r => scalarT t && scalarLs r
  | _ :: _ => false
def scalarRs : List RK → Bool
  | [] => true
  | r :: rs => (match r.box with | .val => true | _ => false) && (r.ag || Nat.beq (sizeL r.ks) 1) && scalarLs r.ks && scalarRs rs
def plainA : List AK → Bool
  | [] => true
  | .val (.dat _) :: r => plainA r
  | .ro _ :: r => plainA r
  | _ :: _ => false
/-- Nothing of the caller's is handed on that may be written. -/
def keepsA : List AK → Bool
  | [] => true
  | .val (.dat _) :: r => keepsA r
  | .ro _ :: r => keepsA r
  | .fnc _ :: r => keepsA r
  | _ :: _ => false
def Ctr.light (s : Ctr) : Bool := plainA s.args && scalarRs s.outs
/-- The pointers that a call may write through lead apart, and none that it only reads leads there. -/
def mem1 : List Nat → Nat → Bool
  | [], _ => false
  | m :: r, n => Nat.beq m n || mem1 r n
def ioBs : List AK → List V → List (Nat × Nat × Nat)
  | .io ks :: as, .v false [.ptr b off] :: vs => (b, off, sizeL ks) :: ioBs as vs
  | _ :: as, _ :: vs => ioBs as vs
  | _, _ => []
def roBs : List AK → List V → List (Nat × Nat × Nat)
  | .ro t :: as, .v false [.ptr b off] :: vs => (b, off, t.size) :: roBs as vs
  | _ :: as, _ :: vs => roBs as vs
  | _, _ => []
def far1 (x y : Nat × Nat × Nat) : Bool := !Nat.beq x.1 y.1 || Nat.ble (x.2.1 + x.2.2) y.2.1 || Nat.ble (y.2.1 + y.2.2) x.2.1
def farAll : List (Nat × Nat × Nat) → (Nat × Nat × Nat) → Bool
  | [], _ => true
  | m :: r, x => far1 m x && farAll r x
def nodup1 : List (Nat × Nat × Nat) → Bool
  | [] => true
  | m :: r => farAll r m && nodup1 r
def apart1 : List (Nat × Nat × Nat) → List (Nat × Nat × Nat) → Bool
  | [], _ => true
  | m :: r, l => farAll l m && apart1 r l
/-- A call whose argument is a function is told for that function. -/
def fitsF : List AK → List V → Bool
  | .fnc f :: as, .v false [.fn g []] :: vs => Nat.beq f g && fitsF as vs
  | .fnc _ :: _, _ => false
  | _ :: as, _ :: vs => fitsF as vs
  | _, _ => true
def lkF : List (Nat × Ctr) → Nat → List V → Option Ctr
  | [], _, _ => none
  | (m, s) :: r, n, vs => match Nat.beq m n && fitsF s.args vs with | true => some s | false => lkF r n vs
def callK (fc : FC) (f : Nat) (vs : List V) (st : St) (k : V → St → Option R) : Option R :=
  match lkF fc.cfg.calls f vs with
  | none => none
  | some s => match s.light with
    | true => match decArgs true st s.args vs with
      | some (x, _) => (s.f x).bind fun r => encRs st s.outs (s.out r).2 fun ps _ => k (tupV ps) st
      | none => none
    | false => match nodup1 (ioBs s.args vs) && apart1 (roBs s.args vs) (ioBs s.args vs) with
      | true => match decArgs false st s.args vs with
        | some (x, st') => (s.f x).bind fun r => encOuts st' s.args vs s.outs (s.out r) k
        | none => none
      | false => none
/-- What is appended: a row, or a text's bytes. -/
def srcC (st : St) : (t : Ty) → C → Option (List t.den)
  | .int .u8, .val .str s => some (byts s)
  | t, d => match datC st (.sl t) d with | some (ys, _) => some ys | none => none
def appendK (st : St) (e : TypeId) (t : Ty) (x y : V) (k : V → St → Option R) : Option R :=
  match x with
  | .v false [c] => match decK false st (.own e t) [c] with
    | some (xs, _, st') => match y with
      | .v false [d] => match srcC st' t d with
        | some ys => (apd xs ys).bind fun zs =>
            k (one (.ref st'.n)) (st'.addO ⟨false, e, t, zs, false⟩)
        | none => none
      | _ => none
    | none => none
  | _ => none
def okCs : List C → Bool
  | [] => true
  | .und :: _ => false
  | _ :: r => okCs r
def storeK (st : St) (x : C) (cs : List C) (k : St → Option R) : Option R :=
  match x with
  | .ptr b off => match writeC st.c b off cs with | some c' => k (st.setCs c') | none => none
  | .sptr id te i off => match st.take id with
    | some (ob, st0) => match ob.fz, ob.mp, castL ob.t te ob.xs with
      | false, false, some xs => (idx xs i).bind fun old =>
          match storeAt st0 te old off cs with
          | some (new, st') => k (st'.setO ((id, ⟨false, ob.e, te, setK xs i new, false⟩) :: st'.o))
          | none => none
      | _, _, _ => none
    | none => none
  | _ => none
where
  /-- A part of an element is written: the part's type is the one at that place that is as long as what is stored. -/
  storeAt (st : St) (te : Ty) (old : te.den) (off : Nat) (cs : List C) : Option (te.den × St) :=
    match partAt te off cs.length with
    | some t' => match dat st t' cs with
      | some (y, r, ids) => match isNil r, freezeAll st ids, setAt t' y te old off with
        | true, some st', some new => some (new, st')
        | _, _, _ => none
      | none => none
    | none => none
  partAt : Ty → Nat → Nat → Option Ty
    | .one t, off, n => match Nat.beq off 0 && Nat.beq n (Ty.one t).size with
      | true => some (.one t)
      | false => partAt t off n
    | .pair a b, off, n => match Nat.beq off 0 && Nat.beq n (Ty.pair a b).size with
      | true => some (.pair a b)
      | false => match Nat.blt off a.size with
        | true => partAt a off n
        | false => partAt b (off - a.size) n
    | t, off, n => match Nat.beq off 0 && Nat.beq n t.size with | true => some t | false => none
def mapObK (st : St) (kt vt : Ty) (m : C) (k : List (kt.den × vt.den) → Option R) : Option R :=
  match m with
  | .nmap => k []
  | .val (.map a b) xs => match castL (.pair a b) (.pair kt vt) xs with | some ys => k ys | none => none
  | .ref id => match st.ob id with
    | some ob => match ob.mp, castL ob.t (.pair kt vt) ob.xs with | true, some ys => k ys | _, _ => none
    | none => none
  | _ => none
def keyC (t : Ty) : C → Option t.den
  | .val t' x => castT t' t x
  | _ => none
def mapSetK (st : St) (kt vt : Ty) (m key : C) (val : List C) (k : St → Option R) : Option R :=
  match scalarT kt && scalarT vt && Nat.beq kt.size 1 && !kt.ag with
  | false => none
  | true => match m with
    | .ref id => match st.take id with
      | some (ob, st0) => match ob.fz, ob.mp, castL ob.t (.pair kt vt) ob.xs, keyC kt key, dat st vt val with
        | false, true, some xs, some kx, some (vx, [], _) =>
          k (st0.setO ((id, ⟨true, ob.e, .pair kt vt, mset (keyEq kt) xs kx vx, false⟩) :: st0.o))
        | _, _, _, _, _ => none
      | none => none
    | _ => none
def optI (st : St) : Option Operand → Option (Option Int)
  | none => some none
  | some x => match opdI st x with | some i => some (some i) | none => none
def ptrs : List V → Option (List Nat)
  | [] => some []
  | .v false [.ptr b 0] :: r => match ptrs r with | some bs => some (b :: bs) | none => none
  | _ :: _ => none
/-- What is appended is no number of zeros. -/
def apdTy (fc : FC) (ts : Array TypeId) : Bool :=
  match ts[1]? with
  | none => true
  | some t => match fc.ty t with | some (.sl _) => true | some .str => true | _ => false
/-- One operation: its value, the state behind it. -/
def opK (fc : FC) (op : Op) (type : TypeId) (st : St) (k : V → St → Option R) : Option R :=
  match op with
  | .move x | .assign x => match opd st x with | some v => k v st | none => none
  | .nilCheck x => match opd1 st x with
    | some (.ptr b off) => k (one (.ptr b off)) st
    | some (.iptr t y) => k (one (.iptr t y)) st
    | some (.sptr id t i off) => k (one (.sptr id t i off)) st
    | some (.aptr b off t n i) => k (one (.aptr b off t n i)) st
    | some (.fn f caps) => k (one (.fn f caps)) st
    | _ => none
  | .pick c a b => match opd1 st c with
    | some (.lit true) => match opd st a with | some v => k v st | none => none
    | some (.lit false) => match opd st b with | some v => k v st | none => none
    | some (.val .bool q) => match opd1 st a, opd1 st b with
      | some (.val .bool x), some (.val .bool y) => k (one (boolC (bcase q x y))) st
      | _, _ => none
    | _ => none
  | .alloc e => match fc.ty e with
    | some t => k (one (.ptr st.n 0)) (st.addB (zeroC t))
    | none => none
  | .box e x => match opd st x with
    | some (.v _ cs) => match Nat.beq cs.length 0 with
      | true => none
      | false => k (one (.ptr st.n 0)) (st.addB cs)
    | _ => none
  | .build t parts => match lk fc.cfg.tys t with
    | some i => match fill st i.fl parts.toList (zeroC i.t), i.t.ag with | some cs, true => k (.v true cs) st | _, _ => none
    | none => none
  | .buildSlice t len parts => match lk fc.cfg.tys t with
    | some i => match i.el with
      | some (e, te) => match elems st te 0 parts.toList with
        | some (xs, ids) => match freezeAll st ids, Nat.beq parts.toList.length len && Nat.ble (len * te.size) 16777216 with
          | some st', true => k (one (.ref st'.n)) (st'.addO ⟨false, e, te, xs, false⟩)
          | _, _ => none
        | none => none
      | none => none
    | none => none
  | .load t x => match fc.ty t, opd1 st x with
    | some t', some c => loadK st t' c fun v => k v st
    | _, _ => none
  | .store t x y => match opd1 st x, opd st y, fc.ty t with
    | some c, some (.v _ cs), some ty => match okCs cs && Nat.beq cs.length ty.size with
      | true => storeK st c cs fun st' => k (one .und) st'
      | false => none
    | _, _, _ => none
  | .binOp op t x y _ => match opd st x, opd st y with
    | some a, some b => binVK (match lk fc.cfg.tys t with | some i => (match i.eq with | true => some i.t | false => none) | none => none) op a b fun v => k v st
    | _, _ => none
  | .unOp op _ x => match opd1 st x with
    | some c => match unK op c with | some d => k (one d) st | none => none
    | none => none
  | .convert src dst x => match fc.ty src, fc.ty dst, opd1 st x with
    | some s, some d, some c => convK st s d c fun z => k (one z) st
    | _, _, _ => none
  | .makeFunc (.func f) first captured => match isNil first.toList, opds st captured.toList with
    | true, some vs => match ptrs vs with | some bs => k (one (.fn f bs)) st | none => none
    | _, _ => none
  | .makeMap t none => match lk fc.cfg.tys t with
    | some i => match i.t with
      | .map kt vt => k (one (.ref st.n)) (st.addO ⟨true, 0, .pair kt vt, [], false⟩)
      | _ => none
    | none => none
  | .mapUpdate t m key x | .insert t m key x => match fc.ty t, opd1 st m, opd1 st key, opd st x with
    | some (.map kt vt), some cm, some ck, some (.v g cs) => whenB (g == vt.ag) (mapSetK st kt vt cm ck cs fun st' => k (one .und) st')
    | _, _, _, _ => none
  | .lookup t m key ok => match fc.ty t, opd1 st m, opd1 st key with
    | some (.map kt vt), some cm, some ck => match keyC kt ck, scalarT kt && scalarT vt && Nat.beq kt.size 1 && !kt.ag with
      | some kx, true => mapObK st kt vt cm fun xs => match ok with
        | false => k (.v vt.ag (cellsOf vt (mgetD (keyEq kt) xs kx vt.dflt))) st
        | true => k (.tup [(vt.ag, cellsOf vt (mgetD (keyEq kt) xs kx vt.dflt)), (false, [boolC (mget (keyEq kt) xs kx).isSome])]) st
      | _, _ => none
    | _, _, _ => none
  | .makeSlice t l c => match lk fc.cfg.tys t, opdI st l, opdI st c with
    | some i, some ln, some cp => match i.el with
      | some (e, te) => (mkS te.dflt ln cp).bind fun xs => k (one (.ref st.n)) (st.addO ⟨false, e, te, xs, false⟩)
      | none => none
    | _, _, _ => none
  | .slice t x lo hi none => match lk fc.cfg.tys t, opd1 st x, optI st lo, optI st hi with
    | some i, some c, some l, some h => sliceK st i c l h fun z st' => k (one z) st'
    | _, _, _, _ => none
  | .fieldAddr t x j => match lk fc.cfg.tys t, opd1 st x with
    | some i, some c => match i.fl[j]?, i.arr with
      | some (off, tf), false => match fieldAddrC c off tf with | some d => k (one d) st | none => none
      | _, _ => none
    | _, _ => none
  | .field t x j => match lk fc.cfg.tys t, opd st x with
    | some i, some (.v true cs) => match i.fl[j]?, i.arr with
      | some (off, tf), false => match subCs cs off tf.size with | some ds => k (.v tf.ag ds) st | none => none
      | _, _ => none
    | _, _ => none
  | .indexAddr t x i => match opd1 st x, opdI st i with
    | some c, some n => indexAddrK st (lk fc.cfg.arrs t) (match lk fc.cfg.tys t with | some i => elT i | none => none) c n fun d => k (one d) st
    | _, _ => none
  | .index t x i => match fc.ty t, opd1 st x, opdI st i with
    | some .str, some (.val .str s), some n => (idx s n).bind fun c => k (one (intC .u8 (byt c))) st
    | _, _, _ => none
  | .extract x i => match opd st x with
    | some (.tup vs) => match nth vs i with | some (g, cs) => k (.v g cs) st | none => none
    | _ => none
  | .call c => match c.callee with
    | .builtin b => match b, c.args.toList with
      | .len, [x] => match (match c.argTypes[0]? with | some t => fc.ty t | none => none), opd1 st x with
        | some t, some d => match lenC st t d with | some n => k (one (intC .i64 n)) st | none => none
        | _, _ => none
      | .append, [x, y] => match c.argTypes[0]? with
        | some t => match lk fc.cfg.tys t with
          | some i => match i.el, opd st x, opd st y, apdTy fc c.argTypes with
            | some (e, te), some a, some b, true => appendK st e te a b k
            | _, _, _, _ => none
          | none => none
        | none => none
      | .min, [x, y] => match opd1 st x, opd1 st y with
        | some a, some b => match minmaxC false a b with | some z => k (one z) st | none => none
        | _, _ => none
      | .max, [x, y] => match opd1 st x, opd1 st y with
        | some a, some b => match minmaxC true a b with | some z => k (one z) st | none => none
        | _, _ => none
      | _, _ => none
    | .value (.func f) => match opds st c.args.toList with
      | some vs => callK fc f vs st k
      | none => none
    | .value x => match opd1 st x, opds st c.args.toList with
      | some (.fn f caps), some vs => callK fc f (vs ++ caps.map fun b => one (.ptr b 0)) st k
      | _, _ => none
    | .invoke _ _ => none
  | _ => none
/-! ### Regions -/
def dstOf (ops : Array Oper) (j : Nat) : Option Nat := match ops[j]? with | some o => o.dst | none => none
def slotB (st : St) (n : Nat) : Option Bool :=
  match st.slot n with
  | some (.v false [.val .bool b]) => some b
  | some (.v false [.lit b]) => some b
  | _ => none
/-- All that there is may only be read. -/
def fixAll (st : St) (s' : List (Nat × V)) (c' : List ((Nat × Nat) × C)) : St := match st with | ⟨fs, fc, fo, s, c, o, n⟩ => ⟨s ++ fs, c ++ fc, o ++ fo, s', c', [], n⟩
/-- What an operation of a region that draws reads, or writes, that others may come before or behind: rows and variables of before the region, and none of those that are written there. -/
structure DC where
  n0 : Nat
  wr : List Nat
/-- It stood before the region, and is not written there. -/
def DC.old (dc : DC) (id : Nat) : Bool := Nat.blt id dc.n0 && !mem1 dc.wr id
def oldC (p : Nat → Bool) : C → Bool
  | .ref id => p id
  | _ => true
def oldCs (p : Nat → Bool) : List C → Bool
  | [] => true
  | c :: r => oldC p c && oldCs p r
def oldA (p : Nat → Bool) (st : St) : List AK → List V → Bool
  | .val _ :: as, .v _ cs :: vs => oldCs p cs && oldA p st as vs
  | .ro t :: as, .v false [c] :: vs => (match c with
      | .ptr b off => p b && (match readC st b off t.size with | some cs => oldCs p cs | none => false)
      | .iptr _ _ => true
      | _ => false) && oldA p st as vs
  | [], [] => true
  | _, _ => false
def readsOld (fc : FC) (p : Nat → Bool) (st : St) : Op → Bool
  | .load _ x => match opd1 st x with
    | some (.ptr b _) => p b
    | some (.aptr b _ _ _ _) => p b
    | some (.iptr _ _) => true
    | some (.sptr id _ _ _) => p id
    | _ => false
  | .lookup _ x _ _ => match opd1 st x with | some c => oldC p c | none => false
  | .convert _ _ x => match opd1 st x with | some c => oldC p c | none => false
  | .call c => match c.callee with
    | .builtin .len => match c.args.toList with | [x] => (match opd1 st x with | some d => oldC p d | none => false) | _ => false
    | .value (.func f) => match opds st c.args.toList with
      | some vs => match lkF fc.cfg.calls f vs with | some s => s.light && oldA p st s.args vs | none => false
      | none => false
    | _ => false
  | _ => false
/-- A call hands on nothing that may be written. -/
def keepsOp (fc : FC) (st : St) : Op → Bool
  | .call c => match c.callee with
    | .value (.func f) => match opds st c.args.toList with
      | some vs => match lkF fc.cfg.calls f vs with | some s => keepsA s.args | none => false
      | none => false
    | _ => false
  | _ => true
def newI (dc : DC) (id : Nat) : Bool := Nat.ble dc.n0 id || mem1 dc.wr id
def newC1 (dc : DC) : C → Bool
  | .ref id => newI dc id
  | _ => true
def newCs (dc : DC) : List C → Bool
  | [] => true
  | c :: r => newC1 dc c && newCs dc r
/-- bx: the variables written through pointers too. -/
def newA (bx : Bool) (dc : DC) (st : St) : List AK → List V → Bool
  | .val (.dat _) :: as, _ :: vs => newA bx dc st as vs
  | .val _ :: as, .v _ cs :: vs => newCs dc cs && newA bx dc st as vs
  | .ro _ :: as, _ :: vs => newA bx dc st as vs
  | .fnc _ :: as, _ :: vs => newA bx dc st as vs
  | .io ks :: as, .v false [.ptr b off] :: vs => (!bx || newI dc b) && (match readC st b off (sizeL ks) with | some cs => newCs dc cs | none => false) && newA bx dc st as vs
  | [], [] => true
  | _, _ => false
/-- What is written (bx), and what is taken, is new. -/
def writesNew (fc : FC) (bx : Bool) (dc : DC) (st : St) : Op → Bool
  | .store _ x _ => !bx || match opd1 st x with
    | some (.ptr b _) => newI dc b
    | some (.sptr id _ _ _) => newI dc id
    | _ => false
  | .mapUpdate _ m _ _ | .insert _ m _ _ => !bx || match opd1 st m with | some c => newC1 dc c | none => false
  | .call c => match c.callee with
    | .builtin .append => match c.args.toList with | x :: _ => (match opd1 st x with | some d => newC1 dc d | none => false) | _ => false
    | .value (.func f) => match opds st c.args.toList with
      | some vs => match lkF fc.cfg.calls f vs with | some s => newA bx dc st s.args vs | none => false
      | none => false
    | .value x => match opd1 st x, opds st c.args.toList with
      | some (.fn f caps), some vs => match lkF fc.cfg.calls f (vs ++ caps.map fun b => one (.ptr b 0)) with
        | some s => newA bx dc st s.args (vs ++ caps.map fun b => one (.ptr b 0))
        | none => false
      | _, _ => false
    | _ => false
  | _ => false
inductive Chk where
  | no | here | keeps | reads | takes | writes
  deriving DecidableEq
def chkOp (fc : FC) (dc : DC) (st : St) (op : Op) : Chk → Bool
  | .no => true
  | .here => readsOld fc (fun _ => true) st op
  | .keeps => keepsOp fc st op
  | .reads => readsOld fc dc.old st op
  | .takes => writesNew fc false dc st op
  | .writes => writesNew fc true dc st op
def dstOk (fc : FC) : Option Nat → Bool
  | none => true
  | some d => Nat.blt d fc.nt
def opC (fc : FC) (dc : DC) (ch : Chk) (op : Op) (type : TypeId) (st : St) (k : V → St → Option R) : Option R :=
  match chkOp fc dc st op ch with
  | true => opK fc op type st k
  | false => none
/-- The row of operations up to the pick that ends a guarded group, and what follows. -/
def cutPick (g : Nat) : List (Oper × Chk) → Option (List (Oper × Chk) × (Oper × Chk) × List (Oper × Chk))
  | [] => none
  | o :: r => match o.1.op with
    | .pick (.tmp t) _ _ => match Nat.beq t g with
      | true => some ([], o, r)
      | false => match cutPick g r with | some (a, p, b) => some (o :: a, p, b) | none => none
    | _ => match cutPick g r with | some (a, p, b) => some (o :: a, p, b) | none => none
def runOps (fc : FC) (ops : Array Oper) (dc : DC) : Nat → List (Oper × Chk) → {R : Type} → St → (St → Option R) → Option R
  | 0, _, _, _, _ => none
  | _ + 1, [], _, st, k => k st
  | n + 1, (o, ch) :: r, _, st, k =>
    whenB (dstOk fc o.dst) (
    match o.guard with
    | none => opC fc dc ch o.op o.type st fun v st' => match st'.put o.dst v with | some st'' => runOps fc ops dc n r st'' k | none => none
    | some (j, want) => match dstOf ops j with
      | none => none
      | some g => match st.slot g with
        | some (.v false [.lit b]) => match b == want with
          | true => opC fc dc ch o.op o.type st fun v st' => match st'.put o.dst v with | some st'' => runOps fc ops dc n r st'' k | none => none
          | false => match st.put o.dst (one .und) with | some st' => runOps fc ops dc n r st' k | none => none
        | some (.v false [.und]) => match st.put o.dst (one .und) with | some st' => runOps fc ops dc n r st' k | none => none
        | some (.v false [.val .bool b]) => match cutPick g ((o, ch) :: r) with
          | some (grp, p, rest) => match p.1.dst with
            | some d => whenB (dstOk fc (some d)) ((bcase b (runOps fc ops dc n (grp ++ [p]) (fixAll st [(g, one (.lit true))] []) fun st' => slotB st' d)
                (runOps fc ops dc n (grp ++ [p]) (fixAll st [(g, one (.lit false))] []) fun st' => slotB st' d)).bind fun q =>
                match st.put (some d) (one (boolC q)) with | some st' => runOps fc ops dc n rest st' k | none => none)
            | none => none
          | none => none
        | _ => none)
/-! ### Regions that draw their order: operations that leave memory alone come first -/
inductive Cls where
  | pure | mem | heavy | modif
  deriving DecidableEq
def lkC : List (Nat × Ctr) → Nat → Option Ctr
  | [], _ => none
  | (m, s) :: r, n => match Nat.beq m n with | true => some s | false => lkC r n
def cls (fc : FC) : Op → Cls
  | .move _ | .assign _ | .pick .. | .nilCheck _ | .unOp .. | .binOp .. | .field .. | .fieldAddr .. | .index .. | .indexAddr .. | .extract .. | .slice .. | .build .. | .makeFunc .. => .pure
  | .load .. | .lookup .. | .convert .. => .mem
  | .alloc _ | .box .. | .buildSlice .. | .makeMap .. | .makeSlice .. => .heavy
  | .call c => match c.callee with
    | .builtin .min | .builtin .max => .pure
    | .builtin .len => .mem
    | .builtin _ => .modif
    | .value (.func f) => match lkC fc.cfg.calls f with
      | some s => match s.light with
        | true => .mem
        | false => match keepsA s.args with | true => .heavy | false => .modif
      | none => .modif
    | _ => .modif
  | _ => .modif
def Cls.light : Cls → Bool
  | .pure | .mem => true
  | _ => false
def pickFirst (fc : FC) (ops : Array Oper) (listed : Array Bool) : List Nat → Option Nat
  | [] => none
  | i :: r => match ops[i]? with
    | some o => match (cls fc o.op).light && Region.free .any ops listed i with
      | true => some i
      | false => pickFirst fc ops listed r
    | none => pickFirst fc ops listed r
/-- It makes something new out of nothing. -/
def floatB : Op → Bool
  | .alloc _ => true
  | .buildSlice _ n parts => Nat.beq n 0 && isNil parts.toList
  | _ => false
/-- It may come up at any time. -/
def floatO (o : Oper) : Bool := match o.guard, o.dst with | none, some _ => floatB o.op | _, _ => false
def hard (ops : Array Oper) : List Nat → List Nat
  | [] => []
  | i :: r => match ops[i]? with
    | some o => match floatO o with | true => hard ops r | false => i :: hard ops r
    | none => i :: hard ops r
/-- All that is not listed yet waits for j, but for what makes something new and may come up now. -/
def chain (ops : Array Oper) (ms : List Nat) (ready : List Nat) (listed : Array Bool) (j : Nat) : Bool :=
  (List.range ops.size).all fun x => listed.getD x true || Nat.beq x j || (ms.getD x 0).testBit j ||
    (mem1 ready x && match ops[x]? with | some o => floatO o | none => false)
/-- An order in which what is light comes first; what is not, alone, but for what makes something new. -/
def mkOrder (fc : FC) (ops : Array Oper) (ms : List Nat) : Nat → Array Bool → Option (List Nat)
  | 0, listed => match listed.toList.all (fun b => b) with | true => some [] | false => none
  | n + 1, listed => match Region.ready .any ops listed with
    | [] => none
    | i :: r => match pickFirst fc ops listed (i :: r) with
      | some j => match mkOrder fc ops ms n (listed.setIfInBounds j true) with | some l => some (j :: l) | none => none
      | none => match (match hard ops (i :: r) with | j :: _ => j | [] => i) with
        | j => match chain ops ms (i :: r) listed j with
          | true => match mkOrder fc ops ms n (listed.setIfInBounds j true) with | some l => some (j :: l) | none => none
          | false => none
/-- What comes before each operation, near or far: a mask. -/
def masks : List Oper → List Nat → List Nat
  | [], acc => acc
  | o :: r, acc => masks r (acc ++ [o.after.toList.foldl (fun s e => match Region.binds .any e with
      | true => s ||| 2 ^ e.on ||| acc.getD e.on 0
      | false => s) 0])
def ordered (ms : List Nat) (i j : Nat) : Bool := (ms.getD j 0).testBit i || (ms.getD i 0).testBit j
/-- There is such an operation in no fixed order beside it. -/
def besideB (fc : FC) (ops : Array Oper) (ms : List Nat) (c : Cls) (i : Nat) : Bool :=
  !(List.range ops.size).all fun j => match ops[j]? with
    | some oj => !decide (cls fc oj.op = c) || ordered ms i j
    | none => true
def chkOf (fc : FC) (ops : Array Oper) (ms : List Nat) (i : Nat) (o : Oper) : Chk :=
  match cls fc o.op with
  | .mem => match besideB fc ops ms .modif i with | true => .reads | false => .here
  | .modif => match besideB fc ops ms .mem i with | true => .writes | false => .no
  | .heavy => .keeps
  | _ => .no
/-- Where something reads so, all that is taken is new. -/
def anyReads : List (Oper × Chk) → Bool
  | [] => false
  | (_, .reads) :: _ => true
  | _ :: r => anyReads r
def setWr (fc : FC) : List (Oper × Chk) → List (Oper × Chk)
  | [] => []
  | (o, ch) :: r => (o, match cls fc o.op, ch with | .modif, .no => .takes | _, _ => ch) :: setWr fc r
def pickOps (fc : FC) (ops : Array Oper) (ms : List Nat) : List Nat → Option (List (Oper × Chk))
  | [] => some []
  | i :: r => match ops[i]? with
    | some o => match pickOps fc ops ms r with | some l => some ((o, chkOf fc ops ms i o) :: l) | none => none
    | none => none
def plainOps : List Oper → List (Oper × Chk)
  | [] => []
  | o :: r => (o, .no) :: plainOps r
def dsts : List Oper → List Nat
  | [] => []
  | o :: r => match o.dst with | some d => d :: dsts r | none => dsts r
def nodupN : List Nat → Bool
  | [] => true
  | d :: r => !mem1 r d && nodupN r
/-- What makes something new puts it where nothing is yet. -/
def freshF (fc : FC) (st : St) : List Oper → Bool
  | [] => true
  | o :: r => (match floatO o, o.dst with
    | true, some d => (match st.slot d with | none => true | some _ => false) && dstOk fc o.dst &&
      (match o.op with
       | .alloc e => (match fc.ty e with | some _ => true | none => false)
       | .buildSlice t _ _ => (match lk fc.cfg.tys t with | some i => (match i.el with | some _ => true | none => false) | none => false)
       | _ => false)
    | _, _ => true) && freshF fc st r
def regionK (fc : FC) (id : Nat) (ops : Array Oper) (draw : Bool) (st : St) (k : St → Option R) : Option R :=
  match draw with
  | false => runOps fc ops ⟨0, []⟩ (2 * ops.size + 2) (plainOps ops.toList) st k
  | true => match Region.noSelect ops && nodupN (dsts ops.toList) && freshF fc st ops.toList with
    | true => match masks ops.toList [] with
      | ms => match mkOrder fc ops ms ops.size (Array.replicate ops.size false) with
        | some l => match pickOps fc ops ms l with
          | some os => runOps fc ops ⟨st.n, match lk fc.wr id with | some w => w | none => []⟩ (2 * ops.size + 2)
              (match anyReads os with | true => setWr fc os | false => os) st k
          | none => none
        | none => none
    | false => none
/-! ### Scopes: what may be written in a loop or in a branch; what is told of it behind -/
def rmS (ls : List Loc) : List (Nat × V) → Option (List (Nat × V))
  | [] => some []
  | (n, v) :: r => match rmS ls r with
    | some r' => match ls.any (fun l => match l with | .slot m => Nat.beq m n | _ => false) with
      | true => some r'
      | false => some ((n, v) :: r')
    | none => none
def rmC (ls : List Loc) : List ((Nat × Nat) × C) → Option (List ((Nat × Nat) × C))
  | [] => some []
  | ((b, n), v) :: r => match rmC ls r with
    | some r' => match ls.any (fun l => match l with | .cell b' m => Nat.beq b' b && Nat.beq m n | _ => false) with
      | true => some r'
      | false => some (((b, n), v) :: r')
    | none => none
def keepS (ls : List Loc) (st : St) : List (Nat × V) :=
  ls.filterMap fun l => match l with | .slot m => (lk st.s m).map fun v => (m, v) | _ => none
def keepC (ls : List Loc) (st : St) : List ((Nat × Nat) × C) :=
  ls.filterMap fun l => match l with | .cell b m => (lk2 st.c b m).map fun v => ((b, m), v) | _ => none
/-- The rows that are told at places. -/
def refsS : List (Nat × V) → List Nat
  | [] => []
  | (_, .v false [.ref id]) :: r => id :: refsS r
  | _ :: r => refsS r
def refsC : List ((Nat × Nat) × C) → List Nat
  | [] => []
  | (_, .ref id) :: r => id :: refsC r
  | _ :: r => refsC r
def splitO (ids : List Nat) : List (Nat × Ob) → List (Nat × Ob) × List (Nat × Ob)
  | [] => ([], [])
  | (m, ob) :: r => match splitO ids r with
    | (a, b) => match mem1 ids m with | true => ((m, ob) :: a, b) | false => (a, (m, ob) :: b)
/-- No such place is a fixed one. -/
def clearOf (st : St) : List Loc → Bool
  | [] => true
  | .slot n :: r => (match lk st.fs n with | some _ => false | none => true) && clearOf st r
  | .cell b off :: r => (match lk2 st.fc b off with | some _ => false | none => true) && clearOf st r
def clearO (fo : List (Nat × Ob)) : List (Nat × Ob) → Bool
  | [] => true
  | (i, _) :: r => (match lk fo i with | some _ => false | none => true) && clearO fo r
/-- A branch's own state, and what is left of the state around it. -/
def enterJ (st : St) (ls : List Loc) : Option (St × St) :=
  match clearOf st ls, rmS ls st.s, rmC ls st.c with
  | true, some s', some c' => match st with
    | ⟨fs, fc, fo, s, c, o, n⟩ => match keepS ls ⟨fs, fc, fo, s, c, o, n⟩, keepC ls ⟨fs, fc, fo, s, c, o, n⟩ with
      | ks, kc => match splitO (refsS ks ++ refsC kc) o with
        | (mine, ro) => whenB (clearO fo mine) (some (⟨s' ++ fs, c' ++ fc, ro ++ fo, ks, kc, mine, n⟩, ⟨fs, fc, fo, s', c', ro, n⟩))
  | _, _, _ => none
/-- The cells at a place. -/
def locCells (st : St) (l : Loc) (k : LK) : Option (List C) :=
  match l with
  | .slot n => match st.slot n with | some (.v g cs) => whenB (g == lkAg k) (some cs) | _ => none
  | .cell b off => readC st b off k.size
def decLocs (st : St) : (vs : List (Loc × LK)) → Option (LDen (vs.map (·.2)) × St)
  | [] => some ((), st)
  | (l, k) :: r => match locCells st l k with
    | some cs => match decK false st k cs with
      | some (x, rest, st') => match isNil rest with
        | true => match decLocs st' r with | some (y, st'') => some ((x, y), st'') | none => none
        | false => none
      | none => none
    | none => none
def encLocs (st : St) : (vs : List (Loc × LK)) → LDen (vs.map (·.2)) → St
  | [], _ => st
  | (l, k) :: r, x => match encK st k x.1 with
    | (cs, ⟨fs, fc, fo, s, c, o, n⟩) => match l with
      | .slot m => encLocs ⟨fs, fc, fo, (m, .v (lkAg k) cs) :: s, c, o, n⟩ r x.2
      | .cell b off => encLocs ⟨fs, fc, fo, s, newC b off cs c, o, n⟩ r x.2
/-- Places in variables that may be written here. -/
def chkLocs (st : St) : List (Loc × LK) → Bool
  | [] => true
  | (.slot _, _) :: r => chkLocs st r
  | (.cell b off, k) :: r => ((List.range k.size).all fun j => (lk2 st.c b (off + j)).isSome) && chkLocs st r
/-- All that is not told of is fixed. -/
def rest (st : St) (ls : List Loc) : Option St :=
  match clearOf st ls, rmS ls st.s, rmC ls st.c with
  | true, some s, some c => match st with | ⟨fs, fc, fo, _, _, o, n⟩ => some ⟨fs, fc, fo, s, c, o, n⟩
  | _, _, _ => none
def locsOf (vs : List (Loc × LK)) : List Loc :=
  vs.flatMap fun p => match p.1 with
    | .slot n => [.slot n]
    | .cell b off => (List.range p.2.size).map fun i => .cell b (off + i)
def decRet1 (fc : FC) (st : St) : ResultVar → RK → Option (List C)
  | .tmp t, r => match st.slot t with
    | some (.v g cs) => match r.box with
      | .val => whenB (g == r.ag) (some cs)
      | _ => match g, cs with | false, [.ptr b 0] => readC st b 0 (sizeL r.ks) | _, _ => none
    | _ => none
  | .cell a ty, r => match st.slot a with
    | some (.v false [.ptr b off]) => match r.box with
      | .val => match fc.ty ty with
        | some T => whenB (T.ag == r.ag && Nat.beq T.size (sizeL r.ks)) (readC st b off (sizeL r.ks))
        | none => none
      | _ => none
    | _ => none
/-- The result is nil. -/
def isNptr (st : St) : ResultVar → Bool
  | .tmp t => match st.slot t with | some (.v false [.nptr]) => true | _ => false
  | _ => false
def decRet2 (fc : FC) (st : St) (v : ResultVar) (r : RK) : Option (r.τ × St) :=
  match decRet1 fc st v r with
  | some cs => match decL false st r.ks cs with
    | some (x, rest, st') => match isNil rest with | true => some (r.to x, st') | false => none
    | none => none
  | none => none
def decRet3 (fc : FC) (st : St) (v : ResultVar) (r : RK) : Option (r.den × St) :=
  match r with
  | ⟨.opt, ag, ks, τ, to, of⟩ => match isNptr st v with
    | true => some (none, st)
    | false => match decRet2 fc st v ⟨.opt, ag, ks, τ, to, of⟩ with | some (x, st') => some (some x, st') | none => none
  | ⟨.val, ag, ks, τ, to, of⟩ => decRet2 fc st v ⟨.val, ag, ks, τ, to, of⟩
  | ⟨.box, ag, ks, τ, to, of⟩ => decRet2 fc st v ⟨.box, ag, ks, τ, to, of⟩
def decRets (fc : FC) (st : St) : List ResultVar → (rs : List RK) → Option (RDen rs × St)
  | [], [] => some ((), st)
  | v :: vs, r :: rs => match decRet3 fc st v r with
    | some (x, st') => match decRets fc st' vs rs with | some (y, st'') => some ((x, y), st'') | none => none
    | none => none
  | _, _ => none
def decIos (st : St) : (n : Nat) → (as : List AK) → Option (PDen (ioKs as) × St)
  | _, [] => some ((), st)
  | n, .val k :: r => decIos st (n + ownN [k]) r
  | n, .ro _ :: r => decIos st n r
  | n, .fnc _ :: r => decIos st n r
  | n, .io ks :: r => match readC st (n + ownN ks) 0 (sizeL ks) with
    | some cs => match decL false st ks cs with
      | some (x, rest, st') => match isNil rest with
        | true => match decIos st' (n + ownN ks + 1) r with | some (y, st'') => some ((x, y), st'') | none => none
        | false => none
      | none => none
    | none => none
/-- The new variables among the results. -/
def boxNum (st : St) : ResultVar → RK → List Nat
  | .tmp t, r => match r.box, st.slot t with
    | .val, _ => []
    | _, some (.v false [.ptr b 0]) => [b]
    | _, _ => []
  | .cell _ _, _ => []
def boxNums (st : St) : List ResultVar → List RK → List Nat
  | v :: vs, r :: rs => boxNum st v r ++ boxNums st vs rs
  | _, _ => []
/-- How many numbers the arguments take. -/
def initN : List AK → Nat
  | [] => 0
  | .val k :: r => ownN [k] + initN r
  | .io ks :: r => ownN ks + 1 + initN r
  | .ro _ :: r => initN r
  | .fnc _ :: r => initN r
def allGe (k : Nat) : List Nat → Bool
  | [] => true
  | b :: r => Nat.ble k b && allGe k r
def decRet (fc : FC) (st : St) : Option fc.OD :=
  match decIos st 0 fc.args with
  | some (x, st') => match decRets fc st' fc.results fc.outs with
    | some (y, _) => whenB (nodupN (boxNums st fc.results fc.outs) && allGe (initN fc.args) (boxNums st fc.results fc.outs)) (some (x, y))
    | none => none
  | none => none
/-- Results and pointers lead to something. -/
def posA : List AK → Bool
  | [] => true
  | .io ks :: r => !Nat.beq (sizeL ks) 0 && posA r
  | _ :: r => posA r
def posR : List RK → Bool
  | [] => true
  | r :: rs => (match r.box with | .val => true | _ => !Nat.beq (sizeL r.ks) 0) && posR rs
def fcB (fc : FC) : Bool := posA fc.args && posR fc.outs && Nat.ble fc.args.length fc.nt
end
/-! ### Code -/
inductive Out (σ ρ : Type) where
  | done (s : σ)
  | ret (y : ρ)
@[reducible] def outK {σ ρ α : Type} (o : Out σ ρ) (f : σ → α) (g : ρ → α) : α := match o with | .done s => f s | .ret y => g y
def loopS {σ τ : Type} (body : (σ → Option τ) → σ → Option τ) : Nat → σ → Option τ
  | 0, _ => none
  | n + 1, s => body (loopS body n) s
/-- What a loop comes to: the answer that all great enough numbers of rounds give. -/
def Comes1 {σ τ : Type} (body : (σ → Option τ) → σ → Option τ) (s : σ) (r : τ) : Prop := ∃ n, ∀ m, n ≤ m → loopS body m s = some r
open Classical in
noncomputable def loopL {σ τ : Type} (body : (σ → Option τ) → σ → Option τ) (s : σ) : Option τ :=
  if h : ∃ r, Comes1 body s r then some h.choose else none
def firstReg : Code → Option Nat
  | .region i _ _ => some i
  | .seq a b => match firstReg a with | some i => some i | none => firstReg b
  | .cond _ a b => match firstReg a with | some i => some i | none => firstReg b
  | .block _ c | .loop c | .scope c => firstReg c
  | _ => none
/-- Where an exit of a block leads. -/
def keB {R : Type} (id : Nat) (kn : St → Option R) (ke : Nat → St → Option R) (j : Nat) (st : St) : Option R := match Nat.beq j id with | true => kn st | false => ke j st
noncomputable def interp (fc : FC) (ρ : Type) (fin : fc.OD → ρ) : Code → {R : Type} → St → (St → Option R) → (ρ → Option R) → (Nat → St → Option R) → Option R
  | .skip, _, st, kn, _, _ => kn st
  | .region id ops d, _, st, kn, _, _ => regionK fc id ops d st kn
  | .seq a b, _, st, kn, kr, ke => interp fc ρ fin a st (fun st' => interp fc ρ fin b st' kn kr ke) kr ke
  | .cond c a b, _, st, kn, kr, ke =>
    match opd1 st c with
    | some (.val .bool x) =>
      match (match firstReg (.cond c a b) with | some i => lk fc.joins i | none => none) with
      | some j => match enterJ st j.vars with
        | some (st0, st1) => whenB (chkLocs st j.out) ((bcase x
              (interp fc ρ fin a st0 (fun st' => match decLocs st' j.out with | some (y, _) => some (j.to y) | none => none) (fun _ => none) (fun _ _ => none))
              (interp fc ρ fin b st0 (fun st' => match decLocs st' j.out with | some (y, _) => some (j.to y) | none => none) (fun _ => none) (fun _ _ => none))).bind
              fun y => kn (encLocs st1 j.out (j.of y)))
        | none => none
      | none => bcase x (interp fc ρ fin a st kn kr ke) (interp fc ρ fin b st kn kr ke)
    | some (.lit true) => interp fc ρ fin a st kn kr ke
    | some (.lit false) => interp fc ρ fin b st kn kr ke
    | _ => none
  | .block id (.loop body), _, st, kn, kr, ke =>
    match lk fc.loops id with
    | some an => match decLocs st an.vars with
      | some (x, st0) => match rest st0 (locsOf an.vars ++ an.drop) with
        | some st1 => whenB (chkLocs st an.vars) (match an.full with
          | false => (loopL (fun rec s => interp fc ρ fin body (encLocs (fixAll st1 [] []) an.vars (an.of s))
                (fun st' => match decLocs st' an.vars with | some (y, _) => rec (an.to y) | none => none)
                (fun _ => none)
                (fun j st' => match Nat.beq j id with
                  | true => match decLocs st' an.vars with | some (y, _) => some (an.to y) | none => none
                  | false => none)) (an.to x)).bind fun s => kn (encLocs st1 an.vars (an.of s))
          | true => (loopL (τ := Out an.σ ρ) (fun rec s => interp fc ρ fin body (encLocs (fixAll st1 [] []) an.vars (an.of s))
                (fun st' => match decLocs st' an.vars with | some (y, _) => rec (an.to y) | none => none)
                (fun y => some (.ret y))
                (fun j st' => match Nat.beq j id with
                  | true => match decLocs st' an.vars with | some (y, _) => some (.done (an.to y)) | none => none
                  | false => none)) (an.to x)).bind fun o => outK o (fun s => kn (encLocs st1 an.vars (an.of s))) kr)
        | none => none
      | none => none
    | none => none
  | .block id c, _, st, kn, kr, ke => interp fc ρ fin c st kn kr (keB id kn ke)
  | .exit j, _, st, _, _, ke => ke j st
  | .ret, _, st, _, kr, _ => match decRet fc st with | some y => kr (fin y) | none => none
  | _, _, _, _, _, _ => none
/-- What a function's text answers. -/
noncomputable def body (fc : FC) (ρ : Type) (fin : fc.OD → ρ) (c : Code) (x : PDen (fc.args.map AK.ks)) : Option ρ :=
  interp fc ρ fin c (initSt fc.args x) (fun st => match decRet fc st with | some y => some (fin y) | none => none) some (fun _ _ => none)
end Go.Pv
namespace Go.Pv
def codeOf (f : Func) : Code := match f.body with | some c => c | none => .skip
noncomputable def X_FormatInt (n base : Int) : Option Bytes := if base = 10 ∧ -9223372036854775808 ≤ n ∧ n ≤ 9223372036854775807 then some (Lib.itoa n) else none
def joinB (sep : Bytes) : List Bytes → Bytes
  | [] => []
  | [x] => x
  | x :: y :: r => x ++ sep ++ joinB sep (y :: r)
noncomputable def X_Join (xs : List Bytes) (sep : Bytes) : Option Bytes := some (joinB sep xs)
end Go.Pv
/-! What a state of the interpreter says of the model's frame and world. -/
namespace Go.Pv
/-- The cells from a place on. -/
def Row (w : World) (b off : Nat) (vs : List Value) : Prop := ∀ (i : Nat) (v : Value), vs[i]? = some v → w.cell? ⟨b, off + i, none⟩ = some v
/-- These cells are the value x of type t; what its rows and maps lead to lies in blocks of I. -/
def RV (I : Nat → Prop) (w : World) : (t : Ty) → t.den → List Value → Prop
  | .int k, n, cs => cs = [.int k n]
  | .bool, b, cs => cs = [.bool b]
  | .str, s, cs => cs = [.string ⟨s.toArray⟩]
  | .unit, _, cs => cs = []
  | .one t, x, cs => RV I w t x cs
  | .pair a b, x, cs => ∃ c d, cs = c ++ d ∧ RV I w a x.1 c ∧ RV I w b x.2 d
  | .sl t, xs, cs => ∃ a cap, cs = [.slice a xs.length cap] ∧ xs.length ≤ cap ∧
      (xs.length = 0 ∨ ∃ b off, a = some ⟨b, off, none⟩ ∧ I b ∧
        ∀ (i : Nat) (y : t.den), xs[i]? = some y → ∃ es, Row w b (off + i * t.size) es ∧ RV I w t y es)
  | .map k v, m, cs => ∃ r, cs = [.map r] ∧ (r = none ∧ m.length = 0 ∨ ∃ b es clk, r = some b ∧ I b ∧ w.heap[b]? = some (.map es clk) ∧ es.size = m.length ∧
        ∀ (i : Nat) (y : k.den × v.den), m[i]? = some y → ∃ e, es[i]? = some e ∧ RV I w k y.1 [e.key] ∧ (∃ vs, RV I w v y.2 vs ∧ e.val = if v.ag then .agg vs.toArray else vs.getD 0 undef))
theorem RV_length {I : Nat → Prop} {w : World} : ∀ {t : Ty} {x : t.den} {cs : List Value}, RV I w t x cs → cs.length = t.size
  | .int _, _, _, h => by simp only [RV] at h; simp [h, Ty.size]
  | .bool, _, _, h => by simp only [RV] at h; simp [h, Ty.size]
  | .str, _, _, h => by simp only [RV] at h; simp [h, Ty.size]
  | .unit, _, _, h => by simp only [RV] at h; simp [h, Ty.size]
  | .one t, _, _, h => by simp only [RV] at h; simpa [Ty.size] using RV_length h
  | .pair a b, _, _, h => by
    simp only [RV] at h
    obtain ⟨c, d, rfl, h1, h2⟩ := h
    simp [Ty.size, RV_length h1, RV_length h2]
  | .sl t, _, _, h => by simp only [RV] at h; obtain ⟨a, cap, rfl, _⟩ := h; simp [Ty.size]
  | .map k v, _, _, h => by simp only [RV] at h; obtain ⟨r, rfl, _⟩ := h; simp [Ty.size]
theorem Row_same {w w' : World} {b off : Nat} {vs : List Value} (h : Row w b off vs) (hb : w'.heap[b]? = w.heap[b]?) : Row w' b off vs :=
  fun i v hv => (World.cell?_of_block (w := w) (w' := w') (a := ⟨b, off + i, none⟩) hb).trans (h i v hv)
theorem RV_mono {I I' : Nat → Prop} {w w' : World} (hI : ∀ b, I b → I' b) (hw : ∀ b, I b → w'.heap[b]? = w.heap[b]?) :
    ∀ {t : Ty} {x : t.den} {cs : List Value}, RV I w t x cs → RV I' w' t x cs
  | .int _, _, _, h => h
  | .bool, _, _, h => h
  | .str, _, _, h => h
  | .unit, _, _, h => h
  | .one t, _, _, h => by simp only [RV] at h ⊢; exact RV_mono hI hw h
  | .pair a b, _, _, h => by
    simp only [RV] at h ⊢
    obtain ⟨c, d, e, h1, h2⟩ := h
    exact ⟨c, d, e, RV_mono hI hw h1, RV_mono hI hw h2⟩
  | .sl t, _, _, h => by
    simp only [RV] at h ⊢
    obtain ⟨a, cap, e, hc, h⟩ := h
    refine ⟨a, cap, e, hc, h.imp id ?_⟩
    rintro ⟨b, off, ha, hb, h⟩
    refine ⟨b, off, ha, hI _ hb, fun i y hy => ?_⟩
    obtain ⟨es, h1, h2⟩ := h i y hy
    exact ⟨es, Row_same h1 (hw _ hb), RV_mono hI hw h2⟩
  | .map k v, _, _, h => by
    simp only [RV] at h ⊢
    obtain ⟨r, e, h⟩ := h
    refine ⟨r, e, h.imp id ?_⟩
    rintro ⟨b, es, clk, hr, hb, hh, hs, h⟩
    refine ⟨b, es, clk, hr, hI _ hb, (hw _ hb).trans hh, hs, fun i y hy => ?_⟩
    obtain ⟨en, h0, h1, vs, h2, h3⟩ := h i y hy
    exact ⟨en, h0, RV_mono hI hw h1, vs, RV_mono hI hw h2, h3⟩
/-- Every cell of a value is one cell. -/
theorem RV_one {I : Nat → Prop} {w : World} : ∀ {t : Ty} {x : t.den} {cs : List Value}, RV I w t x cs → ∀ u ∈ cs, u.oneCell' = true
  | .int _, _, _, h => by simp only [RV] at h; subst h; simp [Value.oneCell']
  | .bool, _, _, h => by simp only [RV] at h; subst h; simp [Value.oneCell']
  | .str, _, _, h => by simp only [RV] at h; subst h; simp [Value.oneCell']
  | .unit, _, _, h => by simp only [RV] at h; subst h; simp
  | .one t, _, _, h => by simp only [RV] at h; exact RV_one h
  | .pair a b, _, _, h => by
    simp only [RV] at h
    obtain ⟨c, d, rfl, h1, h2⟩ := h
    intro u hu
    rcases List.mem_append.1 hu with hu | hu
    · exact RV_one h1 u hu
    · exact RV_one h2 u hu
  | .sl t, _, _, h => by simp only [RV] at h; obtain ⟨a, cap, rfl, _⟩ := h; simp [Value.oneCell']
  | .map k v, _, _, h => by simp only [RV] at h; obtain ⟨r, rfl, _⟩ := h; simp [Value.oneCell']
/-! ### The maps from the interpreter's numbers to the model's blocks -/
structure Mp where
  bk : Nat → Nat
  bo : Nat → Nat
  hd : Nat → Value
  I : Nat → Prop
/-- What a call may write beside what it makes: cells of blocks of its caller's. -/
structure Cx where
  w0 : World
  S : Nat → Nat → Prop
  nt : Nat
  I0 : Nat → Prop
  K : Nat
def Cx.free (cx : Cx) (b o : Nat) : Prop := cx.w0.heap.size ≤ b ∨ cx.S b o
def blk : Value → Option Nat
  | .slice (some a) _ _ => some a.block
  | .map (some r) => some r
  | _ => none
def Stab (cx : Cx) (m : Mp) (b off n : Nat) : Prop := m.I b ∨ (b < cx.w0.heap.size ∧ ∀ j, j < n → ¬ cx.S b (off + j))
def CR (cx : Cx) (m : Mp) (w : World) : C → Value → Prop
  | .val t x, v => RV m.I w t x [v]
  | .lit b, v => v = .bool b
  | .und, v => v = undef
  | .nil, v => v = .slice none 0 0
  | .nmap, v => v = .map none
  | .nptr, v => v = .pointer none
  | .ref id, v => v = m.hd id ∧ v.oneCell' = true
  | .ptr b off, v => v = .pointer (some ⟨m.bk b, m.bo b + off, none⟩)
  | .iptr t x, v => ∃ b off es, v = .pointer (some ⟨b, off, none⟩) ∧ Stab cx m b off t.size ∧ Row w b off es ∧ RV m.I w t x es
  | .sptr id t i off, v => ∃ g n cap, m.hd id = .slice (some ⟨g, 0, none⟩) n cap ∧ 0 ≤ i ∧ i < n ∧ v = .pointer (some ⟨g, i.toNat * t.size + off, none⟩)
  | .aptr b off t n i, v => 0 ≤ i ∧ i < n ∧ v = .pointer (some ⟨m.bk b, m.bo b + off + i.toNat * t.size, none⟩)
  | .fn f caps, v => v = .func (.func f) #[] (caps.map fun b => Value.pointer (some ⟨m.bk b, m.bo b, none⟩)).toArray
inductive CRs (cx : Cx) (m : Mp) (w : World) : List C → List Value → Prop
  | nil : CRs cx m w [] []
  | cons {c v cs vs} : CR cx m w c v → CRs cx m w cs vs → CRs cx m w (c :: cs) (v :: vs)
def VR1 (cx : Cx) (m : Mp) (w : World) (g : Bool) (cs : List C) (v : Value) : Prop :=
  match g with
  | true => ∃ vs, v = .agg vs.toArray ∧ CRs cx m w cs vs
  | false => ∃ c, cs = [c] ∧ CR cx m w c v
inductive VRs (cx : Cx) (m : Mp) (w : World) : List (Bool × List C) → List Value → Prop
  | nil : VRs cx m w [] []
  | cons {p v ps vs} : VR1 cx m w p.1 p.2 v → VRs cx m w ps vs → VRs cx m w (p :: ps) (v :: vs)
def VR (cx : Cx) (m : Mp) (w : World) : V → Value → Prop
  | .v g cs, v => VR1 cx m w g cs v
  | .tup ps, v => ∃ vs, v = .tuple vs.toArray ∧ VRs cx m w ps vs
/-- The numbers that a cell names. -/
def C.lt (n : Nat) : C → Prop
  | .ref id => id < n
  | .ptr b _ => b < n
  | .sptr id _ _ _ => id < n
  | .aptr b _ _ _ _ => b < n
  | .fn _ caps => ∀ b ∈ caps, b < n
  | _ => True
def V.lt (n : Nat) : V → Prop
  | .v _ cs => ∀ c ∈ cs, c.lt n
  | .tup ps => ∀ p ∈ ps, ∀ c ∈ p.2, c.lt n
/-- A row or map of the call's own: what its header leads to. -/
def ObV (cx : Cx) (I : Nat → Prop) (w : World) (ob : Ob) (hv : Value) : Prop :=
  (match ob.mp with
   | false => ∃ vs, w.ownsRow 0 ob.e ob.t.size hv ob.xs.length vs ∧
       ∀ (i : Nat) (y : ob.t.den), ob.xs[i]? = some y → RV I w ob.t y ((vs.drop (i * ob.t.size)).take ob.t.size)
   | true => ∃ k v, ob.t = .pair k v ∧ ∃ r es clk, hv = .map (some r) ∧ w.heap[r]? = some (.map es clk) ∧ es.size = ob.xs.length ∧
       ∀ (i : Nat) (y : ob.t.den), ob.xs[i]? = some y → ∃ e ks vs, es[i]? = some e ∧ RV I w ob.t y (ks ++ vs) ∧ ks.length = k.size ∧ ks = [e.key] ∧ e.val = if v.ag then .agg vs.toArray else vs.getD 0 undef) ∧
  (∀ b, blk hv = some b → match ob.fz with | true => I b | false => ¬ I b ∧ ∀ o, cx.free b o)
def ObR (cx : Cx) (m : Mp) (w : World) (id : Nat) (ob : Ob) : Prop := ObV cx m.I w ob (m.hd id)
/-- What a call has left as it was. -/
structure Frame0 (cx : Cx) (w : World) : Prop where
  os : w.os = cx.w0.os
  tape : w.tape = cx.w0.tape
  output : w.output = cx.w0.output
  size : cx.w0.heap.size ≤ w.heap.size
  same : ∀ b, b < cx.w0.heap.size → (∀ o, ¬ cx.S b o) → w.heap[b]? = cx.w0.heap[b]?
  cell : ∀ b o, b < cx.w0.heap.size → ¬ cx.S b o → w.cell? ⟨b, o, none⟩ = cx.w0.cell? ⟨b, o, none⟩
  shape : ∀ b o c e, cx.w0.heap[b]? = some (.cells c e (0, 0)) → ¬ cx.S b o → ∃ c', w.heap[b]? = some (.cells c' e (0, 0))
structure Rel (cx : Cx) (m : Mp) (st : St) (a : Act) (w : World) : Prop where
  defers : a.defers = []
  size : a.tmps.size = cx.nt
  slots : ∀ n v, st.slot n = some v → VR cx m w v (a.tmps.getD n undef) ∧ v.lt st.n
  cells : ∀ b off c, st.cell b off = some c → (∃ cv, w.cell? ⟨m.bk b, m.bo b + off, none⟩ = some cv ∧ CR cx m w c cv) ∧ c.lt st.n ∧ b < st.n
  own : ∀ b off c, st.cell b off = some c → ¬ m.I (m.bk b) ∧ cx.free (m.bk b) (m.bo b + off) ∧ ∃ cs e, w.heap[m.bk b]? = some (.cells cs e (0, 0))
  inj : ∀ b off c b' off' c', st.cell b off = some c → st.cell b' off' = some c' → m.bk b = m.bk b' → m.bo b + off = m.bo b' + off' → b = b' ∧ off = off'
  objs : ∀ id ob, st.ob id = some ob → ObR cx m w id ob ∧ id < st.n
  odis : ∀ id ob id' ob' b, st.ob id = some ob → st.ob id' = some ob' → blk (m.hd id) = some b → blk (m.hd id') = some b → id = id'
  bdis : ∀ id ob b off c g, st.ob id = some ob → st.cell b off = some c → blk (m.hd id) = some g → m.bk b ≠ g
  I : ∀ b, m.I b → b < w.heap.size
  frame : Frame0 cx w
  If : ∀ b, m.I b → cx.I0 b ∨ ∀ o, cx.free b o
  box : ∀ b off c, st.cell b off = some c → cx.K ≤ b → m.bo b = 0 ∧ ∀ o, cx.free (m.bk b) o
end Go.Pv
/-! How a relation is carried from state to state. -/
namespace Go.Pv
variable {cx : Cx} {m : Mp} {st : St} {a : Act} {w w' : World}
theorem Frame0.refl {w0 : World} {S : Nat → Nat → Prop} {nt : Nat} {I0 : Nat → Prop} {K : Nat} : Frame0 ⟨w0, S, nt, I0, K⟩ w0 :=
  ⟨rfl, rfl, rfl, Nat.le_refl _, fun _ _ _ => rfl, fun _ _ _ _ => rfl, fun _ _ c _ h _ => ⟨c, h⟩⟩
/-- What is stable reads as it did. -/
structure Same (cx : Cx) (m : Mp) (w w' : World) : Prop where
  frame : Frame0 cx w
  frame' : Frame0 cx w'
  size : w.heap.size ≤ w'.heap.size
  I : ∀ b, m.I b → w'.heap[b]? = w.heap[b]?
theorem Same.stab {b off n : Nat} (h : Same cx m w w') (hs : Stab cx m b off n) {vs : List Value} (hl : vs.length = n) (hr : Row w b off vs) : Row w' b off vs := by
  intro i v hv
  have hin : i < n := by
    rw [← hl]
    exact (List.getElem?_eq_some_iff.1 hv).1
  rcases hs with hs | ⟨hb, hs⟩
  · exact (World.cell?_of_block (w := w) (w' := w') (a := ⟨b, off + i, none⟩) (h.I b hs)).trans (hr i v hv)
  · rw [h.frame'.cell b _ hb (hs i hin), ← h.frame.cell b _ hb (hs i hin)]
    exact hr i v hv
theorem Same.rv (h : Same cx m w w') {t : Ty} {x : t.den} {cs : List Value} (hx : RV m.I w t x cs) : RV m.I w' t x cs := RV_mono (fun _ h => h) h.I hx
theorem Same.cr (h : Same cx m w w') {c : C} {v : Value} (hc : CR cx m w c v) : CR cx m w' c v := by
  cases c with
  | val t x => exact h.rv hc
  | iptr t x =>
    obtain ⟨b, off, es, hv, hs, hr, hx⟩ := hc
    exact ⟨b, off, es, hv, hs, h.stab hs (RV_length hx) hr, h.rv hx⟩
  | _ => exact hc
theorem Same.crs (h : Same cx m w w') {cs : List C} {vs : List Value} (hc : CRs cx m w cs vs) : CRs cx m w' cs vs := by
  induction hc with
  | nil => exact .nil
  | cons h1 _ ih => exact .cons (h.cr h1) ih
theorem Same.vr1 (h : Same cx m w w') {g : Bool} {cs : List C} {v : Value} (hc : VR1 cx m w g cs v) : VR1 cx m w' g cs v := by
  cases g with
  | true => obtain ⟨vs, e, h1⟩ := hc; exact ⟨vs, e, h.crs h1⟩
  | false => obtain ⟨c, e, h1⟩ := hc; exact ⟨c, e, h.cr h1⟩
theorem Same.vr (h : Same cx m w w') {x : V} {v : Value} (hc : VR cx m w x v) : VR cx m w' x v := by
  cases x with
  | v g cs => exact h.vr1 hc
  | tup ps =>
    obtain ⟨vs, e, h1⟩ := hc
    refine ⟨vs, e, ?_⟩
    clear e
    induction h1 with
    | nil => exact .nil
    | cons h2 _ ih => exact .cons (h.vr1 h2) ih
theorem blk_own {v : Value} {b : Nat} (h : v.ownBlock = some b) : blk v = some b := by
  unfold Value.ownBlock at h
  unfold blk
  split at h <;> simp_all
theorem ObV.same {I : Nat → Prop} {v : Value} {ob : Ob} (hI : ∀ b, I b → w'.heap[b]? = w.heap[b]?) (ho : ObV cx I w ob v) (hb : ∀ b, blk v = some b → w'.heap[b]? = w.heap[b]?) : ObV cx I w' ob v := by
  refine ⟨?_, ho.2⟩
  have h1 := ho.1
  have hrv : ∀ {t : Ty} {x : t.den} {cs : List Value}, RV I w t x cs → RV I w' t x cs := fun h => RV_mono (fun _ h => h) hI h
  cases hm : ob.mp with
  | false =>
    rw [hm] at h1
    obtain ⟨vs, h2, h3⟩ := h1
    refine ⟨vs, ⟨h2.1, ?_⟩, fun i y hy => hrv (h3 i y hy)⟩
    rcases h2.2 with h4 | ⟨g, cap, cur, hv, hg, hh, r⟩
    · exact .inl h4
    · exact .inr ⟨g, cap, cur, hv, hg, by rw [hb g (by simp [hv, blk])]; exact hh, r⟩
  | true =>
    rw [hm] at h1
    obtain ⟨k, v, ht, r, es, clk, hd, hh, hs, h3⟩ := h1
    refine ⟨k, v, ht, r, es, clk, hd, by rw [hb r (by simp [hd, blk])]; exact hh, hs, fun i y hy => ?_⟩
    obtain ⟨e, ks, vs, h4, h5, h6⟩ := h3 i y hy
    exact ⟨e, ks, vs, h4, hrv h5, h6⟩
theorem ObR.same (h : Same cx m w w') {id : Nat} {ob : Ob} (ho : ObR cx m w id ob) (hb : ∀ b, blk (m.hd id) = some b → w'.heap[b]? = w.heap[b]?) : ObR cx m w' id ob :=
  ObV.same h.I ho hb
/-- The world has changed where the state says nothing. -/
theorem Rel.world (h : Rel cx m st a w) (hs : Same cx m w w')
    (hc : ∀ b off c, st.cell b off = some c → w'.cell? ⟨m.bk b, m.bo b + off, none⟩ = w.cell? ⟨m.bk b, m.bo b + off, none⟩ ∧ ∃ cs e, w'.heap[m.bk b]? = some (.cells cs e (0, 0)))
    (ho : ∀ id ob b, st.ob id = some ob → blk (m.hd id) = some b → w'.heap[b]? = w.heap[b]?) : Rel cx m st a w' where
  defers := h.defers
  size := h.size
  slots n v hv := ⟨hs.vr (h.slots n v hv).1, (h.slots n v hv).2⟩
  cells b off c hb := by
    obtain ⟨⟨cv, h1, h2⟩, h3⟩ := h.cells b off c hb
    exact ⟨⟨cv, (hc b off c hb).1.trans h1, hs.cr h2⟩, h3⟩
  own b off c hb := ⟨(h.own b off c hb).1, (h.own b off c hb).2.1, (hc b off c hb).2⟩
  inj := h.inj
  objs id ob hi := ⟨ObR.same hs (h.objs id ob hi).1 (fun b hb => ho id ob b hi hb), (h.objs id ob hi).2⟩
  odis := h.odis
  bdis := h.bdis
  I b hb := Nat.lt_of_lt_of_le (h.I b hb) hs.size
  frame := hs.frame'
  If := h.If
  box := h.box
theorem heap_lt {b : Nat} {o : Obj} (h : w.heap[b]? = some o) : b < w.heap.size := (Array.getElem?_eq_some_iff.1 h).1
/-! ### A new block; a draw -/
theorem Frame0.of_old (h : Frame0 cx w) (h1 : w'.os = w.os) (h2 : w'.tape = w.tape) (h3 : w'.output = w.output) (h4 : w.heap.size ≤ w'.heap.size)
    (h5 : ∀ b, b < w.heap.size → w'.heap[b]? = w.heap[b]?) : Frame0 cx w' where
  os := h1.trans h.os
  tape := h2.trans h.tape
  output := h3.trans h.output
  size := Nat.le_trans h.size h4
  same b hb ho := (h5 b (Nat.lt_of_lt_of_le hb h.size)).trans (h.same b hb ho)
  cell b o hb ho := (World.cell?_of_block (w := w) (w' := w') (a := ⟨b, o, none⟩) (h5 b (Nat.lt_of_lt_of_le hb h.size))).trans (h.cell b o hb ho)
  shape b o c e hb ho := by
    obtain ⟨c', h6⟩ := h.shape b o c e hb ho
    exact ⟨c', (h5 b (heap_lt h6)).trans h6⟩
/-- All that there was is as it was. -/
structure Keep (w w' : World) : Prop where
  os : w'.os = w.os
  tape : w'.tape = w.tape
  output : w'.output = w.output
  size : w.heap.size ≤ w'.heap.size
  block : ∀ b, b < w.heap.size → w'.heap[b]? = w.heap[b]?
theorem Keep.refl (w : World) : Keep w w := ⟨rfl, rfl, rfl, Nat.le_refl _, fun _ _ => rfl⟩
theorem Keep.trans {w w' w'' : World} (h : Keep w w') (h' : Keep w' w'') : Keep w w'' :=
  ⟨h'.os.trans h.os, h'.tape.trans h.tape, h'.output.trans h.output, Nat.le_trans h.size h'.size, fun b hb => (h'.block b (Nat.lt_of_lt_of_le hb h.size)).trans (h.block b hb)⟩
theorem Keep.alloc (w : World) (o : Obj) : Keep w (w.alloc o) := ⟨rfl, rfl, rfl, by simp, fun b hb => heap_alloc_old w o b hb⟩
theorem Keep.drew (w : World) : Keep w w.drew := ⟨rfl, rfl, rfl, Nat.le_refl _, fun _ _ => rfl⟩
theorem Rel.keep (h : Rel cx m st a w) (k : Keep w w') : Rel cx m st a w' := by
  have hf := h.frame.of_old k.os k.tape k.output k.size k.block
  refine h.world ⟨h.frame, hf, k.size, fun b hb => k.block b (h.I b hb)⟩ (fun b off c hb => ?_) (fun id ob b hi hb => ?_)
  · obtain ⟨_, _, cs, e, h1⟩ := h.own b off c hb
    have := k.block _ (heap_lt h1)
    exact ⟨World.cell?_of_block (w := w) (w' := w') (a := ⟨m.bk b, m.bo b + off, none⟩) this, cs, e, this.trans h1⟩
  · have h1 := (h.objs id ob hi).1.1
    refine k.block b ?_
    cases hm : ob.mp with
    | false =>
      rw [hm] at h1
      obtain ⟨vs, h2, _⟩ := h1
      rcases h2.2 with ⟨h4, _⟩ | ⟨g, cap, cur, hv, hg, hh, _⟩
      · rw [h4] at hb; simp [blk] at hb
      · rw [hv] at hb; simp [blk] at hb; subst hb; exact heap_lt hh
    | true =>
      rw [hm] at h1
      obtain ⟨k, v, ht, r, es, clk, hd, hh, _⟩ := h1
      rw [hd] at hb; simp [blk] at hb; subst hb; exact heap_lt hh
/-! ### Slots -/
theorem lk_cons {α : Type} {l : List (Nat × α)} {n k : Nat} {v : α} : lk ((n, v) :: l) k = if n = k then some v else lk l k := by
  simp only [lk]
  by_cases h : n = k
  · simp [h, Nat.beq_refl]
  · have : Nat.beq n k = false := by
      cases hb : Nat.beq n k with
      | false => rfl
      | true => exact absurd (Nat.eq_of_beq_eq_true hb) h
    simp [h, this]
theorem getD_put {a : Act} {d n : Nat} {v : Value} (hd : d < a.tmps.size) : (a.put (some d) v).tmps.getD n undef = if d = n then v else a.tmps.getD n undef := by
  simp only [Act.put, Array.getD_eq_getD_getElem?, Array.getElem?_setIfInBounds]
  by_cases h : d = n
  · subst h; simp [hd]
  · simp [h]
theorem Rel.put (h : Rel cx m st a w) {d : Option Nat} {x : V} {v : Value} {st' : St} (hp : st.put d x = some st') (hd : ∀ n, d = some n → n < cx.nt) (hx : VR cx m w x v) (hl : x.lt st.n) :
    Rel cx m st' (a.put d v) w := by
  cases d with
  | none => simp only [St.put, Option.some.injEq] at hp; subst hp; exact h
  | some n =>
    have hn : n < a.tmps.size := by rw [h.size]; exact hd n rfl
    simp only [St.put] at hp
    split at hp
    · cases hp
    · rename_i hfs
      cases st with
      | mk fs fc fo s c o k =>
      simp only [Option.some.injEq] at hp
      subst hp
      refine { defers := h.defers, size := ?_, slots := ?_, cells := h.cells, own := h.own, inj := h.inj, objs := h.objs, odis := h.odis, bdis := h.bdis, I := h.I, frame := h.frame, If := h.If, box := h.box }
      · simp only [Act.put, Array.size_setIfInBounds]; exact h.size
      · intro j y hy
        rw [getD_put hn]
        simp only [St.slot, lk_cons] at hy
        by_cases hj : n = j
        · subst hj
          simp only [↓reduceIte, Option.some.injEq] at hy ⊢
          subst hy
          exact ⟨hx, hl⟩
        · simp only [if_neg hj] at hy ⊢
          exact h.slots j y hy
end Go.Pv
namespace Go.Pv
variable {cx : Cx} {m m' : Mp} {st : St} {a : Act} {w w' : World}
theorem Rel.box_lt (h : Rel cx m st a w) {b off : Nat} {c : C} (hc : st.cell b off = some c) : m.bk b < w.heap.size := by
  obtain ⟨_, _, cs, e, h1⟩ := h.own b off c hc
  exact heap_lt h1
theorem ObR.lt {id : Nat} {ob : Ob} (ho : ObR cx m w id ob) {b : Nat} (hb : blk (m.hd id) = some b) : b < w.heap.size := by
  have h1 := ho.1
  cases hm : ob.mp with
  | false =>
    rw [hm] at h1
    obtain ⟨vs, h2, _⟩ := h1
    rcases h2.2 with ⟨h4, _⟩ | ⟨g, cap, cur, hv, hg, hh, _⟩
    · rw [h4] at hb; simp [blk] at hb
    · rw [hv] at hb; simp [blk] at hb; subst hb; exact heap_lt hh
  | true =>
    rw [hm] at h1
    obtain ⟨k, v, ht, r, es, clk, hd, hh, _⟩ := h1
    rw [hd] at hb; simp [blk] at hb; subst hb; exact heap_lt hh
theorem Rel.ob_lt (h : Rel cx m st a w) {id : Nat} {ob : Ob} (hi : st.ob id = some ob) {b : Nat} (hb : blk (m.hd id) = some b) : b < w.heap.size := (h.objs id ob hi).1.lt hb
/-! ### Other maps that agree on the numbers in use -/
structure Agree (n : Nat) (m m' : Mp) : Prop where
  bk : ∀ i, i < n → m'.bk i = m.bk i
  bo : ∀ i, i < n → m'.bo i = m.bo i
  hd : ∀ i, i < n → m'.hd i = m.hd i
  I : ∀ b, m.I b → m'.I b
theorem Agree.refl (n : Nat) (m : Mp) : Agree n m m := ⟨fun _ _ => rfl, fun _ _ => rfl, fun _ _ => rfl, fun _ h => h⟩
theorem Agree.trans {n n' : Nat} {m m' m'' : Mp} (h : Agree n m m') (h' : Agree n' m' m'') (hn : n ≤ n') : Agree n m m'' :=
  ⟨fun i hi => (h'.bk i (by omega)).trans (h.bk i hi), fun i hi => (h'.bo i (by omega)).trans (h.bo i hi), fun i hi => (h'.hd i (by omega)).trans (h.hd i hi), fun b hb => h'.I b (h.I b hb)⟩
theorem Agree.mono {n n' : Nat} {m m' : Mp} (h : Agree n' m m') (hn : n ≤ n') : Agree n m m' :=
  ⟨fun i hi => h.bk i (by omega), fun i hi => h.bo i (by omega), fun i hi => h.hd i (by omega), h.I⟩
theorem Stab.agree {n b off k : Nat} (hg : Agree n m m') (h : Stab cx m b off k) : Stab cx m' b off k := h.imp (hg.I b) id
theorem CR.agree {n : Nat} (hg : Agree n m m') {c : C} {v : Value} (hl : c.lt n) (h : CR cx m w c v) : CR cx m' w c v := by
  cases c with
  | val t x => exact RV_mono hg.I (fun _ _ => rfl) h
  | iptr t x =>
    obtain ⟨b, off, es, hv, hs, hr, hx⟩ := h
    exact ⟨b, off, es, hv, hs.agree hg, hr, RV_mono hg.I (fun _ _ => rfl) hx⟩
  | ref id => simp only [CR] at h ⊢; rw [hg.hd id hl]; exact h
  | ptr b off => simp only [CR] at h ⊢; rw [hg.bk b hl, hg.bo b hl]; exact h
  | sptr id t i off => simp only [CR] at h ⊢; rw [hg.hd id hl]; exact h
  | aptr b off t k i => simp only [CR] at h ⊢; rw [hg.bk b hl, hg.bo b hl]; exact h
  | fn f caps =>
    simp only [CR] at h ⊢
    rw [h]
    congr 2
    refine List.map_congr_left fun b hb => ?_
    rw [hg.bk b (hl b hb), hg.bo b (hl b hb)]
  | _ => exact h
theorem CRs.agree {n : Nat} (hg : Agree n m m') {cs : List C} {vs : List Value} (hl : ∀ c ∈ cs, c.lt n) (h : CRs cx m w cs vs) : CRs cx m' w cs vs := by
  induction h with
  | nil => exact .nil
  | cons h1 _ ih => exact .cons (h1.agree hg (hl _ (by simp))) (ih fun c hc => hl c (by simp [hc]))
theorem VR1.agree {n : Nat} (hg : Agree n m m') {g : Bool} {cs : List C} {v : Value} (hl : ∀ c ∈ cs, c.lt n) (h : VR1 cx m w g cs v) : VR1 cx m' w g cs v := by
  cases g with
  | true => obtain ⟨vs, e, h1⟩ := h; exact ⟨vs, e, h1.agree hg hl⟩
  | false => obtain ⟨c, e, h1⟩ := h; subst e; exact ⟨c, rfl, h1.agree hg (hl c (by simp))⟩
theorem VR.agree {n : Nat} (hg : Agree n m m') {x : V} {v : Value} (hl : x.lt n) (h : VR cx m w x v) : VR cx m' w x v := by
  cases x with
  | v g cs => exact VR1.agree hg hl h
  | tup ps =>
    obtain ⟨vs, e, h1⟩ := h
    refine ⟨vs, e, ?_⟩
    clear e
    induction h1 with
    | nil => exact .nil
    | cons h2 _ ih => exact .cons (h2.agree hg (hl _ (by simp))) (ih fun p hp => hl p (by simp [hp]))
theorem ObR.agree {n : Nat} (hg : Agree n m m') {id : Nat} {ob : Ob} (hl : id < n) (h : ObR cx m w id ob)
    (hI : ∀ b, blk (m.hd id) = some b → ob.fz = false → ¬ m'.I b) : ObR cx m' w id ob := by
  refine ⟨?_, ?_⟩
  · have h1 := h.1
    cases hm : ob.mp with
    | false =>
      rw [hm] at h1
      obtain ⟨vs, h2, h3⟩ := h1
      exact ⟨vs, by rw [hg.hd id hl]; exact h2, fun i y hy => RV_mono hg.I (fun _ _ => rfl) (h3 i y hy)⟩
    | true =>
      rw [hm] at h1
      obtain ⟨k, v, ht, r, es, clk, hd, hh, hs, h3⟩ := h1
      refine ⟨k, v, ht, r, es, clk, by rw [hg.hd id hl]; exact hd, hh, hs, fun i y hy => ?_⟩
      obtain ⟨e, ks, vs, h4, h5, h6⟩ := h3 i y hy
      exact ⟨e, ks, vs, h4, RV_mono hg.I (fun _ _ => rfl) h5, h6⟩
  · intro b hb
    rw [hg.hd id hl] at hb
    have h2 := h.2 b hb
    cases hf : ob.fz with
    | true => rw [hf] at h2; exact hg.I b h2
    | false => rw [hf] at h2; exact ⟨hI b hb hf, h2.2⟩
theorem Rel.agree (h : Rel cx m st a w) (hg : Agree st.n m m') (h1 : ∀ b off c, st.cell b off = some c → ¬ m'.I (m.bk b))
    (h2 : ∀ id ob b, st.ob id = some ob → blk (m.hd id) = some b → ob.fz = false → ¬ m'.I b) (h3 : ∀ b, m'.I b → b < w.heap.size) (h4 : ∀ b, m'.I b → cx.I0 b ∨ ∀ o, cx.free b o) : Rel cx m' st a w where
  defers := h.defers
  size := h.size
  slots n v hv := ⟨(h.slots n v hv).1.agree hg (h.slots n v hv).2, (h.slots n v hv).2⟩
  cells b off c hc := by
    obtain ⟨⟨cv, h4, h5⟩, h6, h7⟩ := h.cells b off c hc
    exact ⟨⟨cv, by rw [hg.bk b h7, hg.bo b h7]; exact h4, h5.agree hg h6⟩, h6, h7⟩
  own b off c hc := by
    obtain ⟨_, _, h7⟩ := h.cells b off c hc
    rw [hg.bk b h7, hg.bo b h7]
    exact ⟨h1 b off c hc, (h.own b off c hc).2⟩
  inj b off c b' off' c' hc hc' e1 e2 := by
    have h7 := (h.cells b off c hc).2.2
    have h8 := (h.cells b' off' c' hc').2.2
    rw [hg.bk b h7, hg.bk b' h8] at e1
    rw [hg.bo b h7, hg.bo b' h8] at e2
    exact h.inj b off c b' off' c' hc hc' e1 e2
  objs id ob hi := ⟨(h.objs id ob hi).1.agree hg (h.objs id ob hi).2 (fun b hb hf => h2 id ob b hi hb hf), (h.objs id ob hi).2⟩
  odis id ob id' ob' b hi hi' e1 e2 := by
    rw [hg.hd id (h.objs id ob hi).2] at e1
    rw [hg.hd id' (h.objs id' ob' hi').2] at e2
    exact h.odis id ob id' ob' b hi hi' e1 e2
  bdis id ob b off c g hi hc e := by
    rw [hg.hd id (h.objs id ob hi).2] at e
    rw [hg.bk b (h.cells b off c hc).2.2]
    exact h.bdis id ob b off c g hi hc e
  I := h3
  frame := h.frame
  If := h4
  box b off c hc hK := by
    have h7 := (h.cells b off c hc).2.2
    rw [hg.bk b h7, hg.bo b h7]
    exact h.box b off c hc hK
/-- A new number for a header, or for a block, disturbs nothing. -/
def Mp.setHd (m : Mp) (n : Nat) (v : Value) : Mp := { m with hd := fun i => if i = n then v else m.hd i }
def Mp.setBk (m : Mp) (n b o : Nat) : Mp := { m with bk := fun i => if i = n then b else m.bk i, bo := fun i => if i = n then o else m.bo i }
theorem Mp.agree_setHd (m : Mp) (n : Nat) (v : Value) : Agree n m (m.setHd n v) :=
  ⟨fun _ _ => rfl, fun _ _ => rfl, fun i hi => by simp [Mp.setHd, Nat.ne_of_lt hi], fun _ h => h⟩
theorem Mp.agree_setBk (m : Mp) (n b o : Nat) : Agree n m (m.setBk n b o) :=
  ⟨fun i hi => by simp [Mp.setBk, Nat.ne_of_lt hi], fun i hi => by simp [Mp.setBk, Nat.ne_of_lt hi], fun _ _ => rfl, fun _ h => h⟩
theorem C.lt_mono {n n' : Nat} (h : n ≤ n') : ∀ {c : C}, c.lt n → c.lt n'
  | .ref id, hc => Nat.lt_of_lt_of_le hc h
  | .ptr b _, hc => Nat.lt_of_lt_of_le hc h
  | .sptr id _ _ _, hc => Nat.lt_of_lt_of_le hc h
  | .aptr b _ _ _ _, hc => Nat.lt_of_lt_of_le hc h
  | .fn _ caps, hc => fun b hb => Nat.lt_of_lt_of_le (hc b hb) h
  | .val _ _, _ => trivial
  | .lit _, _ => trivial
  | .nil, _ => trivial
  | .nmap, _ => trivial
  | .iptr _ _, _ => trivial
  | .nptr, _ => trivial
  | .und, _ => trivial
theorem V.lt_mono {n n' : Nat} (h : n ≤ n') : ∀ {x : V}, x.lt n → x.lt n'
  | .v _ _, hx => fun c hc => C.lt_mono h (hx c hc)
  | .tup _, hx => fun p hp c hc => C.lt_mono h (hx p hp c hc)
theorem lk2_newC {b : Nat} : ∀ (cs : List C) (off : Nat) (l : List ((Nat × Nat) × C)) (b' o' : Nat),
    lk2 (newC b off cs l) b' o' = if b = b' ∧ off ≤ o' ∧ o' < off + cs.length then cs[o' - off]? else lk2 l b' o'
  | [], off, l, b', o' => by simp only [newC, List.length_nil]; rw [if_neg (by omega)]
  | c :: cs, off, l, b', o' => by
    simp only [newC, lk2]
    have ih := lk2_newC (b := b) cs (off + 1) l b' o'
    by_cases hb : b = b'
    · subst hb
      by_cases ho : off = o'
      · subst ho
        have e1 : (Nat.beq b b && Nat.beq off off) = true := by simp [Nat.beq_refl]
        rw [e1]
        simp
      · have e1 : (Nat.beq b b && Nat.beq off o') = false := by
          have : Nat.beq off o' = false := by
            cases hb : Nat.beq off o' with
            | false => rfl
            | true => exact absurd (Nat.eq_of_beq_eq_true hb) ho
          simp [this]
        rw [e1, ih]
        by_cases h1 : off + 1 ≤ o' ∧ o' < off + 1 + cs.length
        · rw [if_pos ⟨rfl, h1⟩, if_pos ⟨rfl, by omega, by simp only [List.length_cons]; omega⟩]
          rw [show o' - off = (o' - (off + 1)) + 1 from by omega, List.getElem?_cons_succ]
        · rw [if_neg (fun h => h1 h.2), if_neg (fun h => h1 ⟨by omega, by have := h.2.2; simp only [List.length_cons] at this; omega⟩)]
    · have e1 : (Nat.beq b b' && Nat.beq off o') = false := by
        have : Nat.beq b b' = false := by
          cases hb' : Nat.beq b b' with
          | false => rfl
          | true => exact absurd (Nat.eq_of_beq_eq_true hb') hb
        simp [this]
      rw [e1, ih, if_neg (fun h => hb h.1), if_neg (fun h => hb h.1)]
theorem CRs.get {cs : List C} {vs : List Value} (h : CRs cx m w cs vs) : ∀ (i : Nat) (c : C), cs[i]? = some c → ∃ v, vs[i]? = some v ∧ CR cx m w c v := by
  induction h with
  | nil => intro i c hc; simp at hc
  | cons h1 _ ih =>
    intro i c hc
    cases i with
    | zero => simp at hc; subst hc; exact ⟨_, by simp, h1⟩
    | succ i => simp at hc; obtain ⟨v, h2, h3⟩ := ih i c hc; exact ⟨v, by simpa using h2, h3⟩
theorem CRs.length {cs : List C} {vs : List Value} (h : CRs cx m w cs vs) : cs.length = vs.length := by
  induction h with
  | nil => rfl
  | cons _ _ ih => simp [ih]
/-- A new variable. -/
theorem Rel.addB (h : Rel cx m st a w) {cs : List C} {vs : List Value} (e : TypeId) (hv : CRs cx m w cs vs) (hl : ∀ c ∈ cs, c.lt st.n) :
    Rel cx (m.setBk st.n w.heap.size 0) (st.addB cs) a (w.alloc (.cells vs.toArray e)) := by
  have hg := m.agree_setBk st.n w.heap.size 0
  have hk := Keep.alloc w (.cells vs.toArray e)
  have h0 := h.keep hk
  have h1 : Rel cx (m.setBk st.n w.heap.size 0) st a (w.alloc (.cells vs.toArray e)) :=
    h0.agree hg (fun b off c hc => (h0.own b off c hc).1) (fun id ob b hi hb hf => by have := (h0.objs id ob hi).1.2 b hb; rw [hf] at this; exact this.1) h0.I h0.If
  have hs : Same cx m w (w.alloc (.cells vs.toArray e)) := ⟨h.frame, h0.frame, hk.size, fun b hb => hk.block b (h.I b hb)⟩
  cases st with
  | mk fs fc fo s c o n =>
  have hcell : ∀ b' o', (St.addB ⟨fs, fc, fo, s, c, o, n⟩ cs).cell b' o' = if n = b' ∧ o' < cs.length then cs[o']? else (St.mk fs fc fo s c o n).cell b' o' := by
    intro b' o'
    simp only [St.addB, St.cell, lk2_newC, Nat.zero_le, true_and, Nat.zero_add, Nat.sub_zero]
    by_cases hh : n = b' ∧ o' < cs.length
    · rw [if_pos hh, if_pos hh]
      have : cs[o']? = some cs[o'] := List.getElem?_eq_getElem hh.2
      rw [this]
    · rw [if_neg hh, if_neg hh]
  have hnew : ∀ b' o' c', (St.mk fs fc fo s c o n).cell b' o' = some c' → n ≠ b' := fun b' o' c' hc' => by
    have := (h.cells b' o' c' hc').2.2
    exact Nat.ne_of_gt this
  have hbk : ∀ b' o' c', (St.mk fs fc fo s c o n).cell b' o' = some c' → (m.setBk n w.heap.size 0).bk b' = m.bk b' := fun b' o' c' hc' => hg.bk b' (h.cells b' o' c' hc').2.2
  have hself : (m.setBk n w.heap.size 0).bk n = w.heap.size := by simp [Mp.setBk]
  have hself0 : (m.setBk n w.heap.size 0).bo n = 0 := by simp [Mp.setBk]
  refine { defers := h1.defers, size := h1.size, slots := fun j y hy => ⟨(h1.slots j y hy).1, V.lt_mono (Nat.le_succ _) (h1.slots j y hy).2⟩, cells := ?_, own := ?_, inj := ?_, objs := fun id ob hi => ⟨(h1.objs id ob hi).1, Nat.lt_succ_of_lt (h1.objs id ob hi).2⟩, odis := h1.odis, bdis := ?_, I := h1.I, frame := h1.frame, If := h1.If, box := ?_ }
  · intro b' o' c' hc'
    rw [hcell] at hc'
    split at hc'
    · rename_i hh
      obtain ⟨rfl, ho⟩ := hh
      obtain ⟨cv, h2, h3⟩ := hv.get o' c' hc'
      have hm : c' ∈ cs := List.mem_of_getElem? hc'
      refine ⟨⟨cv, ?_, (hs.cr h3).agree hg (hl c' hm)⟩, C.lt_mono (Nat.le_succ _) (hl c' hm), Nat.lt_succ_self _⟩
      rw [hself, hself0, Nat.zero_add, World.cell?_alloc_new]
      simpa using h2
    · obtain ⟨h2, h3, h4⟩ := h1.cells b' o' c' hc'
      exact ⟨h2, C.lt_mono (Nat.le_succ _) h3, Nat.lt_succ_of_lt h4⟩
  · intro b' o' c' hc'
    rw [hcell] at hc'
    split at hc'
    · rename_i hh
      obtain ⟨rfl, ho⟩ := hh
      rw [hself, hself0]
      exact ⟨fun hi => Nat.lt_irrefl _ (h.I _ hi), .inl h.frame.size, _, _, heap_alloc_new w _⟩
    · exact h1.own b' o' c' hc'
  · intro b1 o1 c1 b2 o2 c2 hc1 hc2 e1 e2
    rw [hcell] at hc1 hc2
    split at hc1
    · rename_i hh
      obtain ⟨rfl, ho⟩ := hh
      split at hc2
      · rename_i hh2
        obtain ⟨rfl, ho2⟩ := hh2
        rw [hself0] at e2
        exact ⟨rfl, by omega⟩
      · have := h.box_lt hc2
        rw [hself, hbk b2 o2 c2 hc2] at e1
        omega
    · split at hc2
      · rename_i hh2
        obtain ⟨rfl, ho2⟩ := hh2
        have := h.box_lt hc1
        rw [hself, hbk b1 o1 c1 hc1] at e1
        omega
      · exact h1.inj b1 o1 c1 b2 o2 c2 hc1 hc2 e1 e2
  · intro id ob b' o' c' g hi hc' hg'
    rw [hcell] at hc'
    split at hc'
    · rename_i hh
      obtain ⟨rfl, ho⟩ := hh
      rw [hself]
      have h5 : blk (m.hd id) = some g := by rw [← hg.hd id (h.objs id ob hi).2]; exact hg'
      have := h.ob_lt hi h5
      omega
    · exact h1.bdis id ob b' o' c' g hi hc' hg'
  · intro b' o' c' hc' hK
    rw [hcell] at hc'
    split at hc'
    · rename_i hh
      obtain ⟨rfl, ho⟩ := hh
      rw [hself, hself0]
      exact ⟨rfl, fun _ => .inl h.frame.size⟩
    · exact h1.box b' o' c' hc' hK
/-- A new row or map. -/
theorem Rel.addO (h : Rel cx m st a w) {ob : Ob} {v : Value} (ho : ObR cx (m.setHd st.n v) w st.n ob)
    (h1 : ∀ b, blk v = some b → (∀ id ob, st.ob id = some ob → blk (m.hd id) ≠ some b) ∧ ∀ b' off c, st.cell b' off = some c → m.bk b' ≠ b) :
    Rel cx (m.setHd st.n v) (st.addO ob) a w := by
  have hg := m.agree_setHd st.n v
  have h2 : Rel cx (m.setHd st.n v) st a w :=
    h.agree hg (fun b off c hc => (h.own b off c hc).1) (fun id ob b hi hb hf => by have := (h.objs id ob hi).1.2 b hb; rw [hf] at this; exact this.1) h.I h.If
  cases st with
  | mk fs fc fo s c o n =>
  have hob : ∀ i, (St.addO ⟨fs, fc, fo, s, c, o, n⟩ ob).ob i = if n = i then some ob else (St.mk fs fc fo s c o n).ob i := by
    intro i
    simp only [St.addO, St.ob, lk_cons]
    by_cases hh : n = i
    · simp [hh]
    · simp [hh]
  have hself : (m.setHd n v).hd n = v := by simp [Mp.setHd]
  refine { defers := h2.defers, size := h2.size, slots := fun j y hy => ⟨(h2.slots j y hy).1, V.lt_mono (Nat.le_succ _) (h2.slots j y hy).2⟩,
           cells := fun b' o' c' hc' => ⟨(h2.cells b' o' c' hc').1, C.lt_mono (Nat.le_succ _) (h2.cells b' o' c' hc').2.1, Nat.lt_succ_of_lt (h2.cells b' o' c' hc').2.2⟩,
           own := h2.own, inj := h2.inj, objs := ?_, odis := ?_, bdis := ?_, I := h2.I, frame := h2.frame, If := h2.If, box := h2.box }
  · intro i ob' hi
    rw [hob] at hi
    split at hi
    · rename_i hh
      subst hh
      cases hi
      exact ⟨ho, Nat.lt_succ_self _⟩
    · exact ⟨(h2.objs i ob' hi).1, Nat.lt_succ_of_lt (h2.objs i ob' hi).2⟩
  · intro i1 ob1 i2 ob2 b hi1 hi2 e1 e2
    rw [hob] at hi1 hi2
    split at hi1
    · rename_i hh
      subst hh
      split at hi2
      · rename_i hh2; exact hh2
      · rw [hself] at e1
        rw [hg.hd i2 (h.objs i2 ob2 hi2).2] at e2
        exact absurd e2 ((h1 b e1).1 i2 ob2 hi2)
    · split at hi2
      · rename_i hh2
        subst hh2
        rw [hself] at e2
        rw [hg.hd i1 (h.objs i1 ob1 hi1).2] at e1
        exact absurd e1 ((h1 b e2).1 i1 ob1 hi1)
      · exact h2.odis i1 ob1 i2 ob2 b hi1 hi2 e1 e2
  · intro i ob' b' o' c' g hi hc' hg'
    rw [hob] at hi
    split at hi
    · rename_i hh
      subst hh
      rw [hself] at hg'
      exact (h1 g hg').2 b' o' c' hc'
    · exact h2.bdis i ob' b' o' c' g hi hc' hg'
end Go.Pv
namespace Go.Pv
variable {cx : Cx} {m m' : Mp} {st st' : St} {a : Act} {w w' : World}
/-- A state that says less. -/
theorem Rel.sub (h : Rel cx m st a w) (hs : ∀ n v, st'.slot n = some v → st.slot n = some v) (hc : ∀ b off c, st'.cell b off = some c → st.cell b off = some c)
    (ho : ∀ id ob, st'.ob id = some ob → st.ob id = some ob) (hn : st.n ≤ st'.n) : Rel cx m st' a w where
  defers := h.defers
  size := h.size
  slots n v hv := ⟨(h.slots n v (hs n v hv)).1, V.lt_mono hn (h.slots n v (hs n v hv)).2⟩
  cells b off c hb := ⟨(h.cells b off c (hc b off c hb)).1, C.lt_mono hn (h.cells b off c (hc b off c hb)).2.1, Nat.lt_of_lt_of_le (h.cells b off c (hc b off c hb)).2.2 hn⟩
  own b off c hb := h.own b off c (hc b off c hb)
  inj b off c b' off' c' h1 h2 := h.inj b off c b' off' c' (hc _ _ _ h1) (hc _ _ _ h2)
  objs id ob hi := ⟨(h.objs id ob (ho id ob hi)).1, Nat.lt_of_lt_of_le (h.objs id ob (ho id ob hi)).2 hn⟩
  odis id ob id' ob' b h1 h2 := h.odis id ob id' ob' b (ho _ _ h1) (ho _ _ h2)
  bdis id ob b off c g h1 h2 := h.bdis id ob b off c g (ho _ _ h1) (hc _ _ _ h2)
  I := h.I
  frame := h.frame
  If := h.If
  box b off c hb := h.box b off c (hc b off c hb)
theorem lk_rmO {n : Nat} : ∀ (l : List (Nat × Ob)) (i : Nat), lk (rmO l n) i = if i = n then none else lk l i
  | [], i => by simp [rmO, lk]
  | (k, ob) :: r, i => by
    simp only [rmO]
    by_cases hk : k = n
    · subst hk
      simp only [Nat.beq_refl]
      rw [lk_rmO r i, lk_cons]
      by_cases hi : i = k
      · simp [hi]
      · simp [hi, Ne.symm hi]
    · have e1 : Nat.beq k n = false := by
        cases hb : Nat.beq k n with
        | false => rfl
        | true => exact absurd (Nat.eq_of_beq_eq_true hb) hk
      simp only [e1]
      rw [lk_cons, lk_cons, lk_rmO r i]
      by_cases hi : i = n
      · subst hi; simp [hk]
      · simp [hi]
theorem takeO_spec {n : Nat} : ∀ {l l' : List (Nat × Ob)} {ob : Ob}, takeO l n = some (ob, l') → lk l n = some ob ∧ ∀ i, lk l' i = if i = n then none else lk l i
  | [], _, _, h => by simp [takeO] at h
  | (k, o) :: r, l', ob, h => by
    simp only [takeO] at h
    by_cases hk : k = n
    · subst hk
      simp only [Nat.beq_refl, Option.some.injEq, Prod.mk.injEq] at h
      obtain ⟨rfl, rfl⟩ := h
      refine ⟨by rw [lk_cons]; simp, fun i => ?_⟩
      rw [lk_rmO, lk_cons]
      by_cases hi : i = k
      · simp [hi]
      · simp [hi, Ne.symm hi]
    · have e1 : Nat.beq k n = false := by
        cases hb : Nat.beq k n with
        | false => rfl
        | true => exact absurd (Nat.eq_of_beq_eq_true hb) hk
      simp only [e1] at h
      split at h
      · rename_i x r' hr
        simp only [Option.some.injEq, Prod.mk.injEq] at h
        obtain ⟨rfl, rfl⟩ := h
        obtain ⟨h1, h2⟩ := takeO_spec hr
        refine ⟨by rw [lk_cons, if_neg hk]; exact h1, fun i => ?_⟩
        rw [lk_cons, lk_cons, h2 i]
        by_cases hi : i = n
        · subst hi; simp [hk]
        · simp [hi]
      · cases h
/-- What is left when a row has been taken out. -/
structure Took (st st' : St) (id : Nat) (ob : Ob) : Prop where
  ob : st.ob id = some ob
  rest : ∀ i, st'.ob i = if i = id then none else st.ob i
  slot : ∀ i, st'.slot i = st.slot i
  cell : ∀ b off, st'.cell b off = st.cell b off
  n : st'.n = st.n
theorem St.take_spec {id : Nat} {ob : Ob} (h : st.take id = some (ob, st')) : Took st st' id ob := by
  unfold St.take at h
  split at h
  · cases h
  · rename_i hfo
    split at h
    · rename_i ob' o' ht
      simp only [Option.some.injEq, Prod.mk.injEq] at h
      obtain ⟨rfl, rfl⟩ := h
      obtain ⟨h1, h2⟩ := takeO_spec ht
      cases st with
      | mk fs fc fo s c o n =>
      refine ⟨by simp only [St.ob, h1], fun i => ?_, fun _ => rfl, fun _ _ => rfl, rfl⟩
      simp only [St.setO, St.ob, h2 i]
      by_cases hi : i = id
      · subst hi; simpa using hfo
      · simp [hi]
    · cases h
theorem Rel.took (h : Rel cx m st a w) {id : Nat} {ob : Ob} (t : Took st st' id ob) : Rel cx m st' a w :=
  h.sub (fun n v hv => by rw [t.slot] at hv; exact hv) (fun b off c hc => by rw [t.cell] at hc; exact hc)
    (fun i o hi => by rw [t.rest] at hi; split at hi; cases hi; exact hi) (Nat.le_of_eq t.n.symm)
/-- A taken row's block is nobody's. -/
theorem Rel.took_free (h : Rel cx m st a w) {id : Nat} {ob : Ob} (t : Took st st' id ob) {b : Nat} (hb : blk (m.hd id) = some b) :
    (∀ i o, st'.ob i = some o → blk (m.hd i) ≠ some b) ∧ (∀ b' off c, st'.cell b' off = some c → m.bk b' ≠ b) := by
  refine ⟨fun i o hi he => ?_, fun b' off c hc => ?_⟩
  · rw [t.rest] at hi
    split at hi
    · cases hi
    · rename_i hne
      exact hne (h.odis i o id ob b hi t.ob he hb)
  · rw [t.cell] at hc
    exact h.bdis id ob b' off c b t.ob hc hb
/-- A row is laid (back) under a number in use. -/
theorem Rel.insO (h : Rel cx m st a w) {id : Nat} {ob : Ob} (hid : id < st.n) (hobs : ∀ i, st'.ob i = if i = id then some ob else st.ob i)
    (hslot : ∀ i, st'.slot i = st.slot i) (hcell : ∀ b off, st'.cell b off = st.cell b off) (hn : st'.n = st.n)
    (ho : ObR cx m w id ob)
    (h1 : ∀ b, blk (m.hd id) = some b → (∀ i o, i ≠ id → st.ob i = some o → blk (m.hd i) ≠ some b) ∧ ∀ b' off c, st.cell b' off = some c → m.bk b' ≠ b) :
    Rel cx m st' a w where
  defers := h.defers
  size := h.size
  slots n v hv := by rw [hslot] at hv; rw [hn]; exact h.slots n v hv
  cells b off c hc := by rw [hcell] at hc; rw [hn]; exact h.cells b off c hc
  own b off c hc := by rw [hcell] at hc; exact h.own b off c hc
  inj b off c b' off' c' h2 h3 := by rw [hcell] at h2 h3; exact h.inj b off c b' off' c' h2 h3
  objs i o hi := by
    rw [hobs] at hi; rw [hn]
    split at hi
    · rename_i hh; subst hh; cases hi; exact ⟨ho, hid⟩
    · exact h.objs i o hi
  odis i o i' o' b h2 h3 e1 e2 := by
    rw [hobs] at h2 h3
    split at h2
    · rename_i hh; subst hh
      split at h3
      · rename_i hh2; exact hh2.symm
      · rename_i hh2; exact absurd e2 ((h1 b e1).1 i' o' hh2 h3)
    · rename_i hh
      split at h3
      · rename_i hh2; subst hh2; exact absurd e1 ((h1 b e2).1 i o hh h2)
      · exact h.odis i o i' o' b h2 h3 e1 e2
  bdis i o b off c g h2 h3 e := by
    rw [hobs] at h2; rw [hcell] at h3
    split at h2
    · rename_i hh; subst hh; exact (h1 g e).2 b off c h3
    · exact h.bdis i o b off c g h2 h3 e
  I := h.I
  frame := h.frame
  If := h.If
  box b off c hc := by rw [hcell] at hc; exact h.box b off c hc
/-! ### A block of the call's own changes -/
theorem Frame0.block (h : Frame0 cx w) {g : Nat} (hfree : ∀ o, cx.free g o) (h1 : w'.os = w.os) (h2 : w'.tape = w.tape) (h3 : w'.output = w.output) (h4 : w.heap.size ≤ w'.heap.size)
    (h5 : ∀ b, b < w.heap.size → b ≠ g → w'.heap[b]? = w.heap[b]?) : Frame0 cx w' where
  os := h1.trans h.os
  tape := h2.trans h.tape
  output := h3.trans h.output
  size := Nat.le_trans h.size h4
  same b hb ho := by
    by_cases hg : b = g
    · subst hg
      rcases hfree 0 with h6 | h6
      · omega
      · exact absurd h6 (ho 0)
    · exact (h5 b (Nat.lt_of_lt_of_le hb h.size) hg).trans (h.same b hb ho)
  cell b o hb ho := by
    by_cases hg : b = g
    · subst hg
      rcases hfree o with h6 | h6
      · omega
      · exact absurd h6 ho
    · exact (World.cell?_of_block (w := w) (w' := w') (a := ⟨b, o, none⟩) (h5 b (Nat.lt_of_lt_of_le hb h.size) hg)).trans (h.cell b o hb ho)
  shape b o c e hb ho := by
    by_cases hg : b = g
    · subst hg
      rcases hfree o with h6 | h6
      · have := heap_lt hb; omega
      · exact absurd h6 ho
    · obtain ⟨c', h6⟩ := h.shape b o c e hb ho
      exact ⟨c', (h5 b (heap_lt h6) hg).trans h6⟩
theorem Rel.block (h : Rel cx m st a w) {g : Nat} (hI : ¬ m.I g) (hfree : ∀ o, cx.free g o) (h1 : w'.os = w.os) (h2 : w'.tape = w.tape) (h3 : w'.output = w.output) (h4 : w.heap.size ≤ w'.heap.size)
    (h5 : ∀ b, b < w.heap.size → b ≠ g → w'.heap[b]? = w.heap[b]?) (hobs : ∀ i o, st.ob i = some o → blk (m.hd i) ≠ some g) (hcell : ∀ b off c, st.cell b off = some c → m.bk b ≠ g) :
    Rel cx m st a w' := by
  have hf := h.frame.block hfree h1 h2 h3 h4 h5
  refine h.world ⟨h.frame, hf, h4, fun b hb => h5 b (h.I b hb) (fun e => hI (e ▸ hb))⟩ (fun b off c hb => ?_) (fun id ob b hi hb => ?_)
  · obtain ⟨_, _, cs, e, h6⟩ := h.own b off c hb
    have := h5 _ (heap_lt h6) (hcell b off c hb)
    exact ⟨World.cell?_of_block (w := w) (w' := w') (a := ⟨m.bk b, m.bo b + off, none⟩) this, cs, e, this.trans h6⟩
  · exact h5 b (h.ob_lt hi hb) (fun e => hobs id ob hi (e ▸ hb))
theorem Rel.grown (h : Rel cx m st a w) {g : Option Nat} (hg : w.grownBy w' g) (hI : ∀ b, g = some b → ¬ m.I b) (hfree : ∀ b, g = some b → ∀ o, cx.free b o)
    (hobs : ∀ b, g = some b → ∀ i o, st.ob i = some o → blk (m.hd i) ≠ some b) (hcell : ∀ b, g = some b → ∀ b' off c, st.cell b' off = some c → m.bk b' ≠ b) : Rel cx m st a w' := by
  cases g with
  | none => exact h.keep ⟨hg.os, hg.tape, hg.output, hg.size, fun b hb => hg.block b hb (by simp)⟩
  | some b => exact h.block (hI b rfl) (hfree b rfl) hg.os hg.tape hg.output hg.size (fun b' hb' hne => hg.block b' hb' (by simpa using hne)) (hobs b rfl) (hcell b rfl)
/-! ### Rows told as data stay as they are from then on -/
def Mp.frz (m : Mp) (ids : List Nat) : Mp := { m with I := fun b => m.I b ∨ ∃ id ∈ ids, blk (m.hd id) = some b }
theorem Mp.agree_frz (m : Mp) (ids : List Nat) (n : Nat) : Agree n m (m.frz ids) := ⟨fun _ _ => rfl, fun _ _ => rfl, fun _ _ => rfl, fun _ h => .inl h⟩
theorem lk_fzO {n : Nat} : ∀ {l l' : List (Nat × Ob)}, fzO l n = some l' → ∀ i, lk l' i = if i = n then (lk l i).map (fun ob => { ob with fz := true }) else lk l i
  | [], _, h, _ => by simp [fzO] at h
  | (k, o) :: r, l', h, i => by
    simp only [fzO] at h
    by_cases hk : k = n
    · subst hk
      simp only [Nat.beq_refl, Option.some.injEq] at h
      subst h
      rw [lk_cons, lk_cons]
      by_cases hi : i = k
      · simp [hi]
      · simp [hi, Ne.symm hi]
    · have e1 : Nat.beq k n = false := by
        cases hb : Nat.beq k n with
        | false => rfl
        | true => exact absurd (Nat.eq_of_beq_eq_true hb) hk
      simp only [e1] at h
      split at h
      · rename_i r' hr
        simp only [Option.some.injEq] at h
        subst h
        rw [lk_cons, lk_cons, lk_fzO hr i]
        by_cases hi : i = n
        · subst hi; simp [hk]
        · simp [hi]
      · cases h
/-- A state whose rows of some numbers may no longer be written. -/
structure Froze (st st' : St) (ids : List Nat) : Prop where
  ob : ∀ i, st'.ob i = if i ∈ ids then (st.ob i).map (fun ob => { ob with fz := true }) else st.ob i
  slot : ∀ i, st'.slot i = st.slot i
  cell : ∀ b off, st'.cell b off = st.cell b off
  n : st'.n = st.n
  has : ∀ i ∈ ids, ∃ ob, st.ob i = some ob
theorem freezeAll_spec : ∀ {ids : List Nat} {st st' : St}, freezeAll st ids = some st' → Froze st st' ids
  | [], st, st', h => by
    simp only [freezeAll, Option.some.injEq] at h; subst h
    exact ⟨fun i => by simp, fun _ => rfl, fun _ _ => rfl, rfl, fun i hi => by cases hi⟩
  | id :: r, st, st', h => by
    simp only [freezeAll] at h
    split at h
    · rename_i ob hob
      split at h
      · rename_i hf
        have ih := freezeAll_spec h
        refine ⟨fun i => ?_, ih.slot, ih.cell, ih.n, fun i hi => ?_⟩
        · rw [ih.ob]
          by_cases h1 : i ∈ r
          · simp [h1]
          · by_cases h2 : i = id
            · subst h2
              simp only [h1, if_false, List.mem_cons, true_or, if_true]
              rw [hob]
              cases ob; simp_all
            · simp [h1, h2]
        · rcases List.mem_cons.1 hi with rfl | hi
          · exact ⟨ob, hob⟩
          · exact ih.has i hi
      · split at h
        · rename_i o' ho'
          have ih := freezeAll_spec h
          have hset : ∀ i, (st.setO o').ob i = if i = id then (st.ob i).map (fun ob => { ob with fz := true }) else st.ob i := by
            intro i
            cases st with
            | mk fs fc fo s c o n =>
            have h3 := lk_fzO ho' i
            simp only [St.setO, St.ob] at h3 ⊢
            rw [h3]
            by_cases hi : i = id
            · subst hi
              simp only [if_true]
              have h4 : lk o i ≠ none := by
                intro hnone
                have : ∀ {l l' : List (Nat × Ob)}, fzO l i = some l' → lk l i ≠ none := by
                  intro l
                  induction l with
                  | nil => intro l' h; simp [fzO] at h
                  | cons p r ih =>
                    intro l' h
                    obtain ⟨k, o2⟩ := p
                    rw [lk_cons]
                    by_cases hk : k = i
                    · simp [hk]
                    · have e1 : Nat.beq k i = false := by
                        cases hb : Nat.beq k i with
                        | false => rfl
                        | true => exact absurd (Nat.eq_of_beq_eq_true hb) hk
                      simp only [fzO, e1] at h
                      split at h
                      · rename_i r' hr; simp only [hk, if_false]; exact ih hr
                      · cases h
                exact this ho' hnone
              cases hlk : lk o i with
              | none => exact absurd hlk h4
              | some ob2 => simp
            · simp [hi]
          refine ⟨fun i => ?_, fun i => (ih.slot i).trans (by cases st; rfl), fun b off => (ih.cell b off).trans (by cases st; rfl), ih.n.trans (by cases st; rfl), fun i hi => ?_⟩
          · rw [ih.ob, hset]
            by_cases h1 : i ∈ r
            · by_cases h2 : i = id
              · simp [h1, h2]; cases st.ob id <;> simp
              · simp [h1, h2]
            · by_cases h2 : i = id
              · subst h2; simp [h1]
              · simp [h1, h2]
          · rcases List.mem_cons.1 hi with rfl | hi
            · exact ⟨ob, hob⟩
            · obtain ⟨ob2, h2⟩ := ih.has i hi
              rw [hset] at h2
              split at h2
              · rename_i hh; subst hh; exact ⟨ob, hob⟩
              · exact ⟨ob2, h2⟩
        · cases h
    · cases h
theorem Rel.froze (h : Rel cx m st a w) {ids : List Nat} (f : Froze st st' ids) : Rel cx (m.frz ids) st' a w := by
  have hob : ∀ i ob', st'.ob i = some ob' → ∃ ob, st.ob i = some ob ∧ (ob' = ob ∧ i ∉ ids ∨ ob' = { ob with fz := true } ∧ i ∈ ids) := by
    intro i ob' hi
    rw [f.ob] at hi
    split at hi
    · rename_i hm
      cases ho : st.ob i with
      | none => rw [ho] at hi; cases hi
      | some ob => rw [ho] at hi; simp only [Option.map_some, Option.some.injEq] at hi; exact ⟨ob, rfl, .inr ⟨hi.symm, hm⟩⟩
    · rename_i hm
      exact ⟨ob', hi, .inl ⟨rfl, hm⟩⟩
  have hI : ∀ b, (m.frz ids).I b → b < w.heap.size := by
    intro b hb
    rcases hb with hb | ⟨id, hid, hb⟩
    · exact h.I b hb
    · obtain ⟨ob, ho⟩ := f.has id hid
      exact h.ob_lt ho hb
  have hIf : ∀ b, (m.frz ids).I b → cx.I0 b ∨ ∀ o, cx.free b o := by
    intro b hb
    rcases hb with hb | ⟨id, hid, hb⟩
    · exact h.If b hb
    · obtain ⟨ob, ho⟩ := f.has id hid
      have h2 := (h.objs id ob ho).1.2 b hb
      cases hf : ob.fz with
      | true => rw [hf] at h2; exact h.If b h2
      | false => rw [hf] at h2; exact .inr h2.2
  have hg := m.agree_frz ids st.n
  refine { defers := h.defers, size := h.size, slots := ?_, cells := ?_, own := ?_, inj := ?_, objs := ?_, odis := ?_, bdis := ?_, I := hI, frame := h.frame, If := hIf, box := fun b off c hc => by rw [f.cell] at hc; exact h.box b off c hc }
  · intro n v hv
    rw [f.slot] at hv; rw [f.n]
    exact ⟨(h.slots n v hv).1.agree hg (h.slots n v hv).2, (h.slots n v hv).2⟩
  · intro b off c hc
    rw [f.cell] at hc; rw [f.n]
    obtain ⟨⟨cv, h1, h2⟩, h3⟩ := h.cells b off c hc
    exact ⟨⟨cv, h1, h2.agree hg h3.1⟩, h3⟩
  · intro b off c hc
    rw [f.cell] at hc
    refine ⟨?_, (h.own b off c hc).2⟩
    rintro (hb | ⟨id, hid, hb⟩)
    · exact (h.own b off c hc).1 hb
    · obtain ⟨ob, ho⟩ := f.has id hid
      exact h.bdis id ob b off c _ ho hc hb rfl
  · intro b off c b' off' c' h1 h2
    rw [f.cell] at h1 h2
    exact h.inj b off c b' off' c' h1 h2
  · intro i ob' hi
    rw [f.n]
    obtain ⟨ob, ho, hcase⟩ := hob i ob' hi
    have h1 := h.objs i ob ho
    refine ⟨?_, h1.2⟩
    rcases hcase with ⟨rfl, hm⟩ | ⟨rfl, hm⟩
    · refine h1.1.agree hg h1.2 (fun b hb hf => ?_)
      have h2 := h1.1.2 b hb
      rw [hf] at h2
      rintro (h3 | ⟨id, hid, h3⟩)
      · exact h2.1 h3
      · obtain ⟨ob2, ho2⟩ := f.has id hid
        have := h.odis i ob' id ob2 b ho ho2 hb h3
        subst this
        exact hm hid
    · refine ⟨?_, fun b hb => .inr ⟨i, hm, hb⟩⟩
      have h2 : ObR cx (m.frz ids) w i { ob with fz := true } := ?_
      · exact h2.1
      · refine ⟨?_, fun b hb => .inr ⟨i, hm, hb⟩⟩
        have h3 := h1.1.1
        cases hmp : ob.mp with
        | false =>
          rw [hmp] at h3
          obtain ⟨vs, h4, h5⟩ := h3
          exact ⟨vs, h4, fun j y hy => RV_mono hg.I (fun _ _ => rfl) (h5 j y hy)⟩
        | true =>
          rw [hmp] at h3
          obtain ⟨k, v, ht, r, es, clk, hd, hh, hs, h5⟩ := h3
          refine ⟨k, v, ht, r, es, clk, hd, hh, hs, fun j y hy => ?_⟩
          obtain ⟨e, ks, vs, h6, h7, h8⟩ := h5 j y hy
          exact ⟨e, ks, vs, h6, RV_mono hg.I (fun _ _ => rfl) h7, h8⟩
  · intro i ob' i2 ob2' b h1 h2 e1 e2
    obtain ⟨ob, ho, _⟩ := hob i ob' h1
    obtain ⟨ob2, ho2, _⟩ := hob i2 ob2' h2
    exact h.odis i ob i2 ob2 b ho ho2 e1 e2
  · intro i ob' b off c g h1 h2 e
    obtain ⟨ob, ho, _⟩ := hob i ob' h1
    rw [f.cell] at h2
    exact h.bdis i ob b off c g ho h2 e
/-! ### How the state goes on -/
structure Fx (st st' : St) : Prop where
  fs : st'.fs = st.fs
  fc : st'.fc = st.fc
  fo : st'.fo = st.fo
  n : st.n ≤ st'.n
  c : ∀ b off, b < st.n → lk2 st.c b off = none → lk2 st'.c b off = none
  o : ∀ id, id < st.n → lk st.o id = none → lk st'.o id = none
theorem Fx.refl (st : St) : Fx st st := ⟨rfl, rfl, rfl, Nat.le_refl _, fun _ _ _ h => h, fun _ _ h => h⟩
theorem Fx.trans {st st' st'' : St} (h : Fx st st') (h' : Fx st' st'') : Fx st st'' :=
  ⟨h'.fs.trans h.fs, h'.fc.trans h.fc, h'.fo.trans h.fo, Nat.le_trans h.n h'.n, fun b off hb hc => h'.c b off (Nat.lt_of_lt_of_le hb h.n) (h.c b off hb hc), fun id hi ho => h'.o id (Nat.lt_of_lt_of_le hi h.n) (h.o id hi ho)⟩
theorem Fx.setO (st : St) (o : List (Nat × Ob)) (h : ∀ id, id < st.n → lk st.o id = none → lk o id = none) : Fx st (st.setO o) := by
  cases st; exact ⟨rfl, rfl, rfl, Nat.le_refl _, fun _ _ _ h => h, h⟩
theorem Fx.addO (st : St) (ob : Ob) : Fx st (st.addO ob) := by
  cases st
  refine ⟨rfl, rfl, rfl, Nat.le_succ _, fun _ _ _ h => h, fun id hi h => ?_⟩
  simp only [St.addO, lk_cons]
  rw [if_neg (by simp only at hi; omega)]; exact h
theorem Fx.addB (st : St) (cs : List C) : Fx st (st.addB cs) := by
  cases st
  refine ⟨rfl, rfl, rfl, Nat.le_succ _, fun b off hb h => ?_, fun _ _ h => h⟩
  simp only [St.addB, lk2_newC]
  rw [if_neg (by simp only at hb; omega)]; exact h
theorem Fx.freeze : ∀ {ids : List Nat} {st st' : St}, freezeAll st ids = some st' → Fx st st'
  | [], st, st', h => by simp only [freezeAll, Option.some.injEq] at h; subst h; exact .refl _
  | id :: r, st, st', h => by
    simp only [freezeAll] at h
    split at h
    · split at h
      · exact Fx.freeze h
      · split at h
        · rename_i o' ho'
          refine (Fx.setO _ _ fun i _ hi => ?_).trans (Fx.freeze h)
          rw [lk_fzO ho' i, hi]; split <;> rfl
        · cases h
    · cases h
theorem Fx.take {id : Nat} {ob : Ob} {st st' : St} (h : st.take id = some (ob, st')) : Fx st st' := by
  unfold St.take at h
  split at h
  · cases h
  · split at h
    · rename_i ob' o' ht
      simp only [Option.some.injEq, Prod.mk.injEq] at h
      rw [← h.2]
      refine .setO _ _ fun i _ hi => ?_
      rw [(takeO_spec ht).2 i]; split
      · rfl
      · exact hi
    · cases h
theorem take_some {id : Nat} {ob : Ob} {st st' : St} (h : st.take id = some (ob, st')) : lk st.o id = some ob := by
  unfold St.take at h
  split at h
  · cases h
  · split at h
    · rename_i ob' o' ht
      simp only [Option.some.injEq, Prod.mk.injEq] at h
      rw [← h.1]; exact (takeO_spec ht).1
    · cases h
/-- The blocks that the call holds, of its own or told as data. -/
def Tr (m : Mp) (st : St) (b : Nat) : Prop :=
  m.I b ∨ (∃ id ob, st.ob id = some ob ∧ blk (m.hd id) = some b) ∨ ∃ id off c, st.cell id off = some c ∧ m.bk id = b
/-- What there was of these numbers is still there, and nothing is new. -/
def Live (p : Nat → Prop) (st st' : St) : Prop := ∀ id, p id → (∀ off, (st'.cell id off).isSome = (st.cell id off).isSome) ∧ (st'.ob id).isSome = (st.ob id).isSome
theorem Live.refl (p : Nat → Prop) (st : St) : Live p st st := fun _ _ => ⟨fun _ => rfl, rfl⟩
theorem Live.trans {p : Nat → Prop} {st st' st'' : St} (h : Live p st st') (h' : Live p st' st'') : Live p st st'' :=
  fun id hp => ⟨fun off => ((h' id hp).1 off).trans ((h id hp).1 off), (h' id hp).2.trans (h id hp).2⟩
theorem Live.mono {p q : Nat → Prop} {st st' : St} (h : Live p st st') (hq : ∀ id, q id → p id) : Live q st st' := fun id hi => h id (hq id hi)
theorem Froze.live {st st' : St} {ids : List Nat} (f : Froze st st' ids) (p : Nat → Prop) : Live p st st' := by
  refine fun id _ => ⟨fun off => by rw [f.cell], ?_⟩
  rw [f.ob]
  split
  · cases st.ob id <;> rfl
  · rfl
theorem Froze.tr {m : Mp} {st st' : St} {ids : List Nat} (f : Froze st st' ids) {b : Nat} (h : Tr (m.frz ids) st' b) : Tr m st b := by
  rcases h with (h | ⟨id, hi, hb⟩) | ⟨id, ob, ho, hb⟩ | ⟨id, off, c, hc, hb⟩
  · exact .inl h
  · obtain ⟨ob, ho⟩ := f.has id hi
    exact .inr (.inl ⟨id, ob, ho, hb⟩)
  · rw [f.ob] at ho
    split at ho
    · cases h1 : st.ob id with
      | none => rw [h1] at ho; cases ho
      | some o => exact .inr (.inl ⟨id, o, h1, hb⟩)
    · exact .inr (.inl ⟨id, ob, ho, hb⟩)
  · rw [f.cell] at hc
    exact .inr (.inr ⟨id, off, c, hc, hb⟩)
end Go.Pv
/-! Telling cells as pure values, and making cells of them. -/
namespace Go.Pv
variable {cx : Cx} {m m' : Mp} {st st' : St} {a : Act} {w w' : World}
theorem castT_spec {t t' : Ty} {x : t.den} {y : t'.den} (h : castT t t' x = some y) : ∃ e : t = t', e ▸ x = y := by
  unfold castT at h
  split at h
  · rename_i e; exact ⟨e, Option.some.inj h⟩
  · cases h
theorem castL_spec {t t' : Ty} {x : List t.den} {y : List t'.den} (h : castL t t' x = some y) : ∃ e : t = t', e ▸ x = y := by
  unfold castL at h
  split at h
  · rename_i e; exact ⟨e, Option.some.inj h⟩
  · cases h
theorem add_row (g j : Nat) : (⟨g, 0, none⟩ : Addr).add j = ⟨g, j, none⟩ := by
  unfold Addr.add; split <;> simp_all
theorem getElem?_drop_take {α : Type} {l : List α} {n k i : Nat} {u : α} (h : ((l.drop n).take k)[i]? = some u) : l[n + i]? = some u := by
  rw [List.getElem?_take] at h
  split at h
  · rwa [List.getElem?_drop] at h
  · cases h
/-- A row of the call's own, told as data. -/
theorem ObV.rv_sl {I J : Nat → Prop} {ob : Ob} {v : Value} (h : ObV cx I w ob v) (hm : ob.mp = false) (hI : ∀ b, I b → J b) (hJ : ∀ b, blk v = some b → J b) :
    RV J w (.sl ob.t) ob.xs [v] := by
  have h1 := h.1
  rw [hm] at h1
  obtain ⟨vs, h2, h3⟩ := h1
  simp only [RV]
  rcases h2.2 with ⟨rfl, h4⟩ | ⟨g, cap, cur, rfl, hg, hh, hn, _⟩
  · exact ⟨none, 0, by rw [h4], by omega, .inl h4⟩
  · refine ⟨some ⟨g, 0, none⟩, cap, rfl, hn, .inr ⟨g, 0, rfl, hJ g (by simp [blk]), fun i y hy => ?_⟩⟩
    refine ⟨_, fun j u hu => ?_, RV_mono hI (fun _ _ => rfl) (h3 i y hy)⟩
    have h4 := h2.cells (g := g) (by simp [Value.ownBlock]) (i * ob.t.size + j) u (getElem?_drop_take hu)
    rw [add_row] at h4
    simpa using h4
theorem ObV.rv_map {I J : Nat → Prop} {k v : Ty} {e : TypeId} {xs : List (k.den × v.den)} {fz : Bool} {hv : Value} (h : ObV cx I w ⟨true, e, .pair k v, xs, fz⟩ hv) (hI : ∀ b, I b → J b) (hJ : ∀ b, blk hv = some b → J b) :
    RV J w (.map k v) xs [hv] := by
  have h1 := h.1
  simp only at h1
  obtain ⟨k', v', ht, r, es, clk, rfl, hh, hs, h3⟩ := h1
  injection ht with e1 e2
  subst e1; subst e2
  simp only [RV]
  refine ⟨some r, rfl, .inr ⟨r, es, clk, rfl, hJ r (by simp [blk]), hh, hs, fun i y hy => ?_⟩⟩
  obtain ⟨en, ks, vs, h4, h5, h6, rfl, h7⟩ := h3 i y hy
  simp only [RV] at h5
  obtain ⟨c, d, h8, h9, h10⟩ := h5
  have hl := RV_length h9
  have : c = [en.key] := by
    have h11 := congrArg (List.take c.length) h8
    rw [List.take_left, hl, ← h6, List.take_left] at h11
    exact h11.symm
  subst this
  have hd : vs = d := by simpa using h8
  subst hd
  exact ⟨en, h4, RV_mono hI (fun _ _ => rfl) h9, vs, RV_mono hI (fun _ _ => rfl) h10, h7⟩
theorem datC_sound (h : Rel cx m st a w) {t : Ty} {c : C} {x : t.den} {ids : List Nat} {v : Value} (hd : datC st t c = some (x, ids)) (hc : CR cx m w c v) :
    RV (m.frz ids).I w t x [v] ∧ ∀ id ∈ ids, ∃ ob, st.ob id = some ob := by
  cases c with
  | val t' y =>
    simp only [datC] at hd
    split at hd
    · rename_i z hz
      simp only [Option.some.injEq, Prod.mk.injEq] at hd
      obtain ⟨rfl, rfl⟩ := hd
      obtain ⟨rfl, rfl⟩ := castT_spec hz
      exact ⟨RV_mono (fun _ h => .inl h) (fun _ _ => rfl) hc, fun id hi => by cases hi⟩
    · cases hd
  | nil =>
    simp only [datC] at hd
    split at hd
    · simp only [Option.some.injEq, Prod.mk.injEq] at hd
      obtain ⟨rfl, rfl⟩ := hd
      refine ⟨?_, fun id hi => by cases hi⟩
      simp only [CR] at hc
      simp only [RV]
      exact ⟨none, 0, by rw [hc]; rfl, Nat.le_refl _, .inl rfl⟩
    · cases hd
  | nmap =>
    simp only [datC] at hd
    split at hd
    · simp only [Option.some.injEq, Prod.mk.injEq] at hd
      obtain ⟨rfl, rfl⟩ := hd
      refine ⟨?_, fun id hi => by cases hi⟩
      simp only [CR] at hc
      simp only [RV]
      exact ⟨none, by rw [hc], .inl ⟨rfl, rfl⟩⟩
    · cases hd
  | ref id =>
    simp only [datC] at hd
    split at hd
    · rename_i ob hob
      simp only [CR] at hc
      obtain ⟨rfl, _⟩ := hc
      have ho := (h.objs id ob hob).1
      cases ob with
      | mk mp e t0 xs fz =>
      cases t <;> cases mp <;> simp only at hd <;> try (cases hd; done)
      · split at hd
        · rename_i y hy
          simp only [Option.some.injEq, Prod.mk.injEq] at hd
          obtain ⟨rfl, rfl⟩ := hd
          obtain ⟨rfl, rfl⟩ := castL_spec hy
          exact ⟨ObV.rv_sl ho rfl (fun _ h => .inl h) (fun b hb => .inr ⟨id, by simp, hb⟩), fun i hi => by simp at hi; subst hi; exact ⟨_, hob⟩⟩
        · cases hd
      · split at hd
        · rename_i y hy
          simp only [Option.some.injEq, Prod.mk.injEq] at hd
          obtain ⟨rfl, rfl⟩ := hd
          obtain ⟨rfl, rfl⟩ := castL_spec hy
          exact ⟨ObV.rv_map ho (fun _ h => .inl h) (fun b hb => .inr ⟨id, by simp, hb⟩), fun i hi => by simp at hi; subst hi; exact ⟨_, hob⟩⟩
        · cases hd
    · cases hd
  | _ => simp [datC] at hd
theorem CRs.append {cs ds : List C} {vs us : List Value} (h : CRs cx m w cs vs) (h' : CRs cx m w ds us) : CRs cx m w (cs ++ ds) (vs ++ us) := by
  induction h with
  | nil => exact h'
  | cons h1 _ ih => exact .cons h1 ih
theorem frz_mono {i j : List Nat} (h : ∀ x ∈ i, x ∈ j) : ∀ b, (m.frz i).I b → (m.frz j).I b := by
  rintro b (hb | ⟨id, hi, hb⟩)
  · exact .inl hb
  · exact .inr ⟨id, h id hi, hb⟩
/-- What 'dat' tells. -/
structure DatOk (cx : Cx) (m : Mp) (st : St) (w : World) (t : Ty) (x : t.den) (cs rest : List C) (vs : List Value) (ids : List Nat) : Prop where
  ex : ∃ v1 v2 cs1, vs = v1 ++ v2 ∧ RV (m.frz ids).I w t x v1 ∧ CRs cx m w rest v2 ∧ cs = cs1 ++ rest
  has : ∀ id ∈ ids, ∃ ob, st.ob id = some ob
theorem dat1 {t : Ty} {c : C} {cs : List C} {x : t.den} {ids : List Nat} {vs : List Value} (h : Rel cx m st a w)
    (hd : datC st t c = some (x, ids)) (hc : CRs cx m w (c :: cs) vs) : DatOk cx m st w t x (c :: cs) cs vs ids := by
  cases hc with
  | cons h1 h2 =>
    rename_i v vs
    obtain ⟨h3, h4⟩ := datC_sound h hd h1
    exact ⟨⟨[v], vs, [c], rfl, h3, h2, rfl⟩, h4⟩
theorem dat_sound (h : Rel cx m st a w) : ∀ {t : Ty} {cs rest : List C} {x : t.den} {ids : List Nat} {vs : List Value},
    dat st t cs = some (x, rest, ids) → CRs cx m w cs vs → DatOk cx m st w t x cs rest vs ids
  | .unit, cs, rest, x, ids, vs, hd, hc => by
    simp only [dat, Option.some.injEq, Prod.mk.injEq] at hd
    obtain ⟨_, rfl, rfl⟩ := hd
    exact ⟨⟨[], vs, [], rfl, by simp [RV], hc, rfl⟩, fun id hi => by cases hi⟩
  | .one t, cs, rest, x, ids, vs, hd, hc => by
    simp only [dat] at hd
    obtain ⟨⟨v1, v2, cs1, h1, h2, h3⟩, h4⟩ := dat_sound h hd hc
    exact ⟨⟨v1, v2, cs1, h1, by simpa only [RV] using h2, h3⟩, h4⟩
  | .pair a' b', cs, rest, x, ids, vs, hd, hc => by
    simp only [dat] at hd
    split at hd
    · rename_i y cs2 i hy
      split at hd
      · rename_i z cs3 j hz
        simp only [Option.some.injEq, Prod.mk.injEq] at hd
        obtain ⟨rfl, rfl, rfl⟩ := hd
        obtain ⟨⟨v1, v2, c1, rfl, h2, h3, rfl⟩, h4⟩ := dat_sound h hy hc
        obtain ⟨⟨v3, v4, c3, rfl, h6, h7, rfl⟩, h8⟩ := dat_sound h hz h3
        refine ⟨⟨v1 ++ v3, v4, c1 ++ c3, by simp, ?_, h7, by simp⟩, fun id hi => ?_⟩
        · simp only [RV]
          exact ⟨v1, v3, rfl, RV_mono (frz_mono fun x hx => by simp [hx]) (fun _ _ => rfl) h2, RV_mono (frz_mono fun x hx => by simp [hx]) (fun _ _ => rfl) h6⟩
        · rcases List.mem_append.1 hi with hi | hi
          · exact h4 id hi
          · exact h8 id hi
      · cases hd
    · cases hd
  | .int k, c :: cs, rest, x, ids, vs, hd, hc => by
    simp only [dat] at hd
    split at hd
    · rename_i y i hy
      simp only [Option.some.injEq, Prod.mk.injEq] at hd
      obtain ⟨rfl, rfl, rfl⟩ := hd
      exact dat1 h hy hc
    · cases hd
  | .bool, c :: cs, rest, x, ids, vs, hd, hc => by
    simp only [dat] at hd
    split at hd
    · rename_i y i hy
      simp only [Option.some.injEq, Prod.mk.injEq] at hd
      obtain ⟨rfl, rfl, rfl⟩ := hd
      exact dat1 h hy hc
    · cases hd
  | .str, c :: cs, rest, x, ids, vs, hd, hc => by
    simp only [dat] at hd
    split at hd
    · rename_i y i hy
      simp only [Option.some.injEq, Prod.mk.injEq] at hd
      obtain ⟨rfl, rfl, rfl⟩ := hd
      exact dat1 h hy hc
    · cases hd
  | .sl t, c :: cs, rest, x, ids, vs, hd, hc => by
    simp only [dat] at hd
    split at hd
    · rename_i y i hy
      simp only [Option.some.injEq, Prod.mk.injEq] at hd
      obtain ⟨rfl, rfl, rfl⟩ := hd
      exact dat1 h hy hc
    · cases hd
  | .map k v, c :: cs, rest, x, ids, vs, hd, hc => by
    simp only [dat] at hd
    split at hd
    · rename_i y i hy
      simp only [Option.some.injEq, Prod.mk.injEq] at hd
      obtain ⟨rfl, rfl, rfl⟩ := hd
      exact dat1 h hy hc
    · cases hd
  | .int k, [], rest, x, ids, vs, hd, hc => by simp [dat] at hd
  | .bool, [], rest, x, ids, vs, hd, hc => by simp [dat] at hd
  | .str, [], rest, x, ids, vs, hd, hc => by simp [dat] at hd
  | .sl t, [], rest, x, ids, vs, hd, hc => by simp [dat] at hd
  | .map k v, [], rest, x, ids, vs, hd, hc => by simp [dat] at hd
theorem cellsOf_sound : ∀ {t : Ty} {x : t.den} {vs : List Value}, RV m.I w t x vs → CRs cx m w (cellsOf t x) vs
  | .int k, x, vs, h => by
    have h' := h
    simp only [RV] at h; subst h; exact .cons h' .nil
  | .bool, x, vs, h => by
    have h' := h
    simp only [RV] at h; subst h; exact .cons h' .nil
  | .str, x, vs, h => by
    have h' := h
    simp only [RV] at h; subst h; exact .cons h' .nil
  | .unit, x, vs, h => by simp only [RV] at h; subst h; exact .nil
  | .sl t, x, vs, h => by
    have h' := h
    simp only [RV] at h; obtain ⟨a', cap, rfl, _⟩ := h; exact .cons h' .nil
  | .map k v, x, vs, h => by
    have h' := h
    simp only [RV] at h; obtain ⟨r, rfl, _⟩ := h; exact .cons h' .nil
  | .one t, x, vs, h => by simp only [RV] at h; exact cellsOf_sound (t := t) (x := x) h
  | .pair a' b', x, vs, h => by
    simp only [RV] at h
    obtain ⟨c, d, rfl, h1, h2⟩ := h
    exact (cellsOf_sound h1).append (cellsOf_sound h2)
theorem cellsOf_lt {n : Nat} : ∀ {t : Ty} {x : t.den}, ∀ c ∈ cellsOf t x, c.lt n
  | .int k, x, c, h => by simp [cellsOf] at h; subst h; trivial
  | .bool, x, c, h => by simp [cellsOf] at h; subst h; trivial
  | .str, x, c, h => by simp [cellsOf] at h; subst h; trivial
  | .unit, x, c, h => by simp [cellsOf] at h
  | .sl t, x, c, h => by simp [cellsOf] at h; subst h; trivial
  | .map k v, x, c, h => by simp [cellsOf] at h; subst h; trivial
  | .one t, x, c, h => by simp only [cellsOf] at h; exact cellsOf_lt (t := t) c h
  | .pair a' b', x, c, h => by
    simp only [cellsOf] at h
    rcases List.mem_append.1 h with h | h
    · exact cellsOf_lt (t := a') c h
    · exact cellsOf_lt (t := b') c h
end Go.Pv
namespace Go.Pv
variable {cx : Cx} {m m' : Mp} {st st' : St} {a : Act} {w w' : World}
theorem freeze_sound (h : Rel cx m st a w) {ids : List Nat} (hf : freezeAll st ids = some st') : Rel cx (m.frz ids) st' a w ∧ Froze st st' ids :=
  ⟨h.froze (freezeAll_spec hf), freezeAll_spec hf⟩
/-! ### Parts of a told value: plain cells, and rows handed on -/
def LR (I : Nat → Prop) (w : World) : (ks : List LK) → LDen ks → List Value → List (Ob × Value) → Prop
  | [], _, vs, hs => vs = [] ∧ hs = []
  | .dat t :: r, x, vs, hs => ∃ v1 v2, vs = v1 ++ v2 ∧ RV I w t x.1 v1 ∧ LR I w r x.2 v2 hs
  | .own e t :: r, x, vs, hs => ∃ v v2 hs', vs = v :: v2 ∧ hs = (⟨false, e, t, x.1, false⟩, v) :: hs' ∧ LR I w r x.2 v2 hs'
  | .mp k v' :: r, x, vs, hs => ∃ v v2 hs', vs = v :: v2 ∧ hs = (⟨true, 0, .pair k v', x.1, false⟩, v) :: hs' ∧ LR I w r x.2 v2 hs'
theorem LR_mono {I I' : Nat → Prop} (hI : ∀ b, I b → I' b) (hw : ∀ b, I b → w'.heap[b]? = w.heap[b]?) : ∀ {ks : List LK} {x : LDen ks} {vs : List Value} {hs : List (Ob × Value)},
    LR I w ks x vs hs → LR I' w' ks x vs hs
  | [], _, _, _, h => h
  | .dat t :: r, x, vs, hs, h => by
    simp only [LR] at h ⊢
    obtain ⟨v1, v2, e, h1, h2⟩ := h
    exact ⟨v1, v2, e, RV_mono hI hw h1, LR_mono hI hw h2⟩
  | .own e t :: r, x, vs, hs, h => by
    simp only [LR] at h ⊢
    obtain ⟨v, v2, hs', e1, e2, h2⟩ := h
    exact ⟨v, v2, hs', e1, e2, LR_mono hI hw h2⟩
  | .mp k v' :: r, x, vs, hs, h => by
    simp only [LR] at h ⊢
    obtain ⟨v, v2, hs', e1, e2, h2⟩ := h
    exact ⟨v, v2, hs', e1, e2, LR_mono hI hw h2⟩
theorem LR_length {I : Nat → Prop} : ∀ {ks : List LK} {x : LDen ks} {vs : List Value} {hs : List (Ob × Value)}, LR I w ks x vs hs → vs.length = sizeL ks
  | [], _, _, _, h => by simp only [LR] at h; simp [h.1, sizeL]
  | .dat t :: r, x, vs, hs, h => by
    simp only [LR] at h
    obtain ⟨v1, v2, e, h1, h2⟩ := h
    simp [e, sizeL, LK.size, RV_length h1, LR_length h2]
  | .own e t :: r, x, vs, hs, h => by
    simp only [LR] at h
    obtain ⟨v, v2, hs', e1, e2, h2⟩ := h
    simp [e1, sizeL, LK.size, LR_length h2]; omega
  | .mp k v' :: r, x, vs, hs, h => by
    simp only [LR] at h
    obtain ⟨v, v2, hs', e1, e2, h2⟩ := h
    simp [e1, sizeL, LK.size, LR_length h2]; omega
/-- Rows that no state tells of: each its own block, nobody's else. -/
def Held (cx : Cx) (m : Mp) (st : St) (w : World) : List (Ob × Value) → Prop
  | [] => True
  | p :: r => ObV cx m.I w p.1 p.2 ∧ p.1.fz = false ∧
      (∀ b, blk p.2 = some b → (∀ i o, st.ob i = some o → blk (m.hd i) ≠ some b) ∧ (∀ b' off c, st.cell b' off = some c → m.bk b' ≠ b) ∧ (∀ q ∈ r, blk q.2 ≠ some b)) ∧ Held cx m st w r
theorem Held.sub (hc : ∀ b off c, st'.cell b off = some c → st.cell b off = some c) (ho : ∀ id ob, st'.ob id = some ob → ∃ ob', st.ob id = some ob') :
    ∀ {hs : List (Ob × Value)}, Held cx m st w hs → Held cx m st' w hs
  | [], h => h
  | p :: r, h => ⟨h.1, h.2.1, fun b hb => ⟨fun i o hi => by obtain ⟨ob', h1⟩ := ho i o hi; exact (h.2.2.1 b hb).1 i ob' h1, fun b' off c hc' => (h.2.2.1 b hb).2.1 b' off c (hc _ _ _ hc'), (h.2.2.1 b hb).2.2⟩, Held.sub hc ho h.2.2.2⟩
theorem Held.frz {ids : List Nat} (hi : ∀ id ∈ ids, ∃ ob, st.ob id = some ob) : ∀ {hs : List (Ob × Value)}, Held cx m st w hs → Held cx (m.frz ids) st w hs
  | [], h => h
  | p :: r, h => by
    refine ⟨⟨?_, fun b hb => ?_⟩, h.2.1, h.2.2.1, Held.frz hi h.2.2.2⟩
    · have h1 := h.1.1
      cases hm : p.1.mp with
      | false =>
        rw [hm] at h1
        obtain ⟨vs, h2, h3⟩ := h1
        exact ⟨vs, h2, fun i y hy => RV_mono (fun _ h => .inl h) (fun _ _ => rfl) (h3 i y hy)⟩
      | true =>
        rw [hm] at h1
        obtain ⟨k, v, ht, r', es, clk, hd, hh, hs, h3⟩ := h1
        refine ⟨k, v, ht, r', es, clk, hd, hh, hs, fun i y hy => ?_⟩
        obtain ⟨e, ks, vs, h4, h5, h6⟩ := h3 i y hy
        exact ⟨e, ks, vs, h4, RV_mono (fun _ h => .inl h) (fun _ _ => rfl) h5, h6⟩
    · have h1 := h.1.2 b hb
      rw [h.2.1] at h1 ⊢
      refine ⟨?_, h1.2⟩
      rintro (h2 | ⟨id, hid, h2⟩)
      · exact h1.1 h2
      · obtain ⟨ob, ho⟩ := hi id hid
        exact (h.2.2.1 b hb).1 id ob ho h2
theorem Held.snoc {p : Ob × Value} (h1 : ObV cx m.I w p.1 p.2) (h2 : p.1.fz = false) (h3 : ∀ b, blk p.2 = some b → (∀ i o, st.ob i = some o → blk (m.hd i) ≠ some b) ∧ (∀ b' off c, st.cell b' off = some c → m.bk b' ≠ b)) :
    ∀ {hs : List (Ob × Value)}, Held cx m st w hs → (∀ q ∈ hs, ∀ b, blk q.2 = some b → blk p.2 ≠ some b) → Held cx m st w (hs ++ [p])
  | [], _, _ => ⟨h1, h2, fun b hb => ⟨(h3 b hb).1, (h3 b hb).2, fun q hq => by cases hq⟩, trivial⟩
  | q :: r, h, hq => by
    refine ⟨h.1, h.2.1, fun b hb => ⟨(h.2.2.1 b hb).1, (h.2.2.1 b hb).2.1, fun q' hq' => ?_⟩, Held.snoc h1 h2 h3 h.2.2.2 fun q' hq' => hq q' (by simp [hq'])⟩
    rcases List.mem_append.1 hq' with h4 | h4
    · exact (h.2.2.1 b hb).2.2 q' h4
    · simp at h4; subst h4; exact hq q (by simp) b hb
theorem Held.append_left : ∀ {hs ks : List (Ob × Value)}, Held cx m st w (hs ++ ks) → Held cx m st w ks
  | [], _, h => h
  | _ :: r, _, h => Held.append_left (hs := r) h.2.2.2
end Go.Pv
namespace Go.Pv
variable {cx : Cx} {m m' : Mp} {st st' st'' : St} {a : Act} {w w' : World}
/-- A state from which rows have been taken, or frozen. -/
structure StLe (st st' : St) : Prop where
  slot : ∀ i, st'.slot i = st.slot i
  cell : ∀ b off, st'.cell b off = st.cell b off
  ob : ∀ id ob, st'.ob id = some ob → ∃ ob', st.ob id = some ob'
  n : st'.n = st.n
theorem StLe.refl (st : St) : StLe st st := ⟨fun _ => rfl, fun _ _ => rfl, fun _ ob h => ⟨ob, h⟩, rfl⟩
theorem StLe.trans (h : StLe st st') (h' : StLe st' st'') : StLe st st'' :=
  ⟨fun i => (h'.slot i).trans (h.slot i), fun b off => (h'.cell b off).trans (h.cell b off), fun id ob hi => by obtain ⟨o, h1⟩ := h'.ob id ob hi; exact h.ob id o h1, h'.n.trans h.n⟩
theorem Froze.le {ids : List Nat} (f : Froze st st' ids) : StLe st st' :=
  ⟨f.slot, f.cell, fun id ob hi => by
    rw [f.ob] at hi
    split at hi
    · cases h : st.ob id with
      | none => rw [h] at hi; cases hi
      | some o => exact ⟨o, rfl⟩
    · exact ⟨ob, hi⟩, f.n⟩
theorem Took.le {id : Nat} {ob : Ob} (t : Took st st' id ob) : StLe st st' :=
  ⟨t.slot, t.cell, fun i o hi => by rw [t.rest] at hi; split at hi; cases hi; exact ⟨o, hi⟩, t.n⟩
theorem Held.le (hl : StLe st st') {hs : List (Ob × Value)} (h : Held cx m st w hs) : Held cx m st' w hs :=
  h.sub (fun b off c hc => by rw [hl.cell] at hc; exact hc) hl.ob
/-- What telling comes to. -/
structure TellOk (cx : Cx) (m : Mp) (st : St) (a : Act) (w : World) (hs : List (Ob × Value)) (cs : List C) (vs : List Value) (rest : List C) (st' : St) (m' : Mp) (v1 v2 : List Value) (hs1 : List (Ob × Value)) : Prop where
  vs : vs = v1 ++ v2
  csx : ∃ cs1, cs = cs1 ++ rest
  rel : Rel cx m' st' a w
  agree : Agree st.n m m'
  le : StLe st st'
  rest : CRs cx m' w rest v2
  held : Held cx m' st' w (hs ++ hs1)
  fx : Fx st st'
  tr : ∀ b, Tr m' st' b → Tr m st b
  own : ∀ p ∈ hs1, ∀ b, blk p.2 = some b → ∃ i ob, st.ob i = some ob ∧ blk (m.hd i) = some b ∧ C.ref i ∈ cs
  gone : ∀ i ob, st.ob i = some ob → (∃ ob', st'.ob i = some ob') ∨ C.ref i ∈ cs
theorem Took.tr {id : Nat} {ob : Ob} (t : Took st st' id ob) {b : Nat} (h : Tr m st' b) : Tr m st b := by
  rcases h with h | ⟨i, o, ho, hb⟩ | ⟨i, off, c, hc, hb⟩
  · exact .inl h
  · rw [t.rest] at ho
    split at ho
    · cases ho
    · exact .inr (.inl ⟨i, o, ho, hb⟩)
  · rw [t.cell] at hc; exact .inr (.inr ⟨i, off, c, hc, hb⟩)
theorem Took.gone {id : Nat} {ob : Ob} (t : Took st st' id ob) {i : Nat} {o : Ob} (h : st.ob i = some o) : (∃ o', st'.ob i = some o') ∨ i = id := by
  by_cases hi : i = id
  · exact .inr hi
  · exact .inl ⟨o, by rw [t.rest, if_neg hi]; exact h⟩
theorem Froze.gone {ids : List Nat} (f : Froze st st' ids) {i : Nat} {o : Ob} (h : st.ob i = some o) : ∃ o', st'.ob i = some o' := by
  rw [f.ob, h]
  split
  · exact ⟨_, rfl⟩
  · exact ⟨_, rfl⟩
theorem nil_row {I : Nat → Prop} (e : TypeId) (t : Ty) : ObV cx I w ⟨false, e, t, [], false⟩ (.slice none 0 0) :=
  ⟨⟨[], World.ownsRow_nil w 0 e t.size, fun i y hy => by simp at hy⟩, fun b hb => by simp [blk] at hb⟩
theorem LR1_dat {I : Nat → Prop} {t : Ty} {x : t.den} {v1 : List Value} (h : RV I w t x v1) : LR I w [.dat t] (x, ()) v1 [] :=
  ⟨v1, [], by simp, h, rfl, rfl⟩
theorem decK_sound (h : Rel cx m st a w) {k : LK} {cs rest : List C} {x : k.den} {vs : List Value} {hs : List (Ob × Value)} (hd : decK false st k cs = some (x, rest, st'))
    (hc : CRs cx m w cs vs) (hlt : ∀ c ∈ cs, c.lt st.n) (hh : Held cx m st w hs) :
    ∃ m' v1 v2 hs1, TellOk cx m st a w hs cs vs rest st' m' v1 v2 hs1 ∧ LR m'.I w [k] (x, ()) v1 hs1 := by
  cases k with
  | dat t =>
    simp only [decK] at hd
    split at hd
    · rename_i y r ids hy
      split at hd
      · rename_i st2 hf
        simp only [Option.some.injEq, Prod.mk.injEq] at hd
        obtain ⟨rfl, rfl, rfl⟩ := hd
        obtain ⟨⟨v1, v2, cs1, rfl, h2, h3, rfl⟩, h4⟩ := dat_sound h hy hc
        obtain ⟨h5, h6⟩ := freeze_sound h hf
        have hg := m.agree_frz ids st.n
        refine ⟨_, v1, v2, [], ⟨rfl, ⟨cs1, rfl⟩, h5, hg, h6.le, h3.agree hg (fun c hc' => hlt c (by simp [hc'])), by rw [List.append_nil]; exact (hh.frz h4).le h6.le, Fx.freeze hf, fun b hb => h6.tr hb, fun p hp => (by cases hp), fun i o hi => .inl (h6.gone hi)⟩, LR1_dat h2⟩
      · cases hd
    · cases hd
  | own e t =>
    cases cs with
    | nil => simp [decK] at hd
    | cons c r =>
      cases hc with
      | cons h1 h2 =>
      rename_i v vs
      cases c with
      | nil =>
        simp only [decK, Option.some.injEq, Prod.mk.injEq] at hd
        obtain ⟨rfl, rfl, rfl⟩ := hd
        simp only [CR] at h1
        subst h1
        refine ⟨m, [.slice none 0 0], vs, [(⟨false, e, t, [], false⟩, .slice none 0 0)], ⟨rfl, ⟨[.nil], rfl⟩, h, Agree.refl _ _, StLe.refl _, h2, ?_, Fx.refl _, fun _ hb => hb, fun p hp b hb => ?_, fun i o hi => .inl ⟨o, hi⟩⟩, ?_⟩
        · exact hh.snoc (nil_row e t) rfl (fun b hb => by simp [blk] at hb) (fun q _ b _ => by simp [blk])
        · simp only [List.mem_singleton] at hp; subst hp; simp [blk] at hb
        · exact ⟨.slice none 0 0, [], [], rfl, rfl, rfl, rfl⟩
      | ref id =>
        simp only [decK] at hd
        split at hd
        · rename_i ob st2 ht
          have t1 := St.take_spec ht
          split at hd
          · cases hd
          · rename_i hfz
            split at hd
            · rename_i he hmp
              split at hd
              · rename_i xs hxs
                simp only [Option.some.injEq, Prod.mk.injEq] at hd
                obtain ⟨rfl, rfl, rfl⟩ := hd
                simp only [CR] at h1
                obtain ⟨rfl, _⟩ := h1
                have ho := (h.objs id ob t1.ob).1
                have hfree := fun b hb => h.took_free t1 (b := b) hb
                cases ob with
                | mk mp e0 t0 xs0 fz =>
                simp only at hfz hmp he hxs
                subst hfz; subst hmp
                have he := Nat.eq_of_beq_eq_true he
                subst he
                obtain ⟨rfl, rfl⟩ := castL_spec hxs
                refine ⟨m, [m.hd id], vs, [(_, m.hd id)], ⟨rfl, ⟨[.ref id], rfl⟩, h.took t1, Agree.refl _ _, t1.le, h2, ?_, Fx.take ht, fun _ hb => t1.tr hb, fun p hp b hb => ?_, fun i o hi => (t1.gone hi).imp (fun h => h) (fun e => by subst e; simp)⟩, ⟨m.hd id, [], [], rfl, rfl, rfl, rfl⟩⟩
                case refine_2 => simp only [List.mem_singleton] at hp; subst hp; exact ⟨id, _, t1.ob, hb, by simp⟩
                refine Held.snoc (p := (⟨false, e0, t0, xs0, false⟩, m.hd id)) ho rfl hfree (hh.le t1.le) (fun q hq b hb hb' => ?_)
                have : ∀ {l : List (Ob × Value)}, Held cx m st w l → q ∈ l → False := by
                  intro l
                  induction l with
                  | nil => intro _ hq; cases hq
                  | cons p r ih =>
                    intro hl hq
                    rcases List.mem_cons.1 hq with rfl | hq
                    · exact (hl.2.2.1 b hb).1 id _ t1.ob hb'
                    · exact ih hl.2.2.2 hq
                exact this hh hq
              · cases hd
            · cases hd
        · cases hd
      | _ => simp [decK] at hd
  | mp kt vt =>
    cases cs with
    | nil => simp [decK] at hd
    | cons c r =>
      cases hc with
      | cons h1 h2 =>
      rename_i v vs
      cases c with
      | ref id =>
        simp only [decK] at hd
        split at hd
        · rename_i ob st2 ht
          have t1 := St.take_spec ht
          split at hd
          · rename_i hfz hmp
            split at hd
            · rename_i xs hxs
              simp only [Option.some.injEq, Prod.mk.injEq] at hd
              obtain ⟨rfl, rfl, rfl⟩ := hd
              simp only [CR] at h1
              obtain ⟨rfl, _⟩ := h1
              have ho := (h.objs id ob t1.ob).1
              have hfree := fun b hb => h.took_free t1 (b := b) hb
              cases ob with
              | mk mp e0 t0 xs0 fz =>
              simp only at hfz hmp hxs
              subst hfz; subst hmp
              obtain ⟨rfl, rfl⟩ := castL_spec hxs
              refine ⟨m, [m.hd id], vs, [(⟨true, 0, .pair kt vt, xs0, false⟩, m.hd id)], ⟨rfl, ⟨[.ref id], rfl⟩, h.took t1, Agree.refl _ _, t1.le, h2, ?_, Fx.take ht, fun _ hb => t1.tr hb, fun p hp b hb => ?_, fun i o hi => (t1.gone hi).imp (fun h => h) (fun e => by subst e; simp)⟩, ⟨m.hd id, [], [], rfl, rfl, rfl, rfl⟩⟩
              case refine_2 => simp only [List.mem_singleton] at hp; subst hp; exact ⟨id, _, t1.ob, hb, by simp⟩
              refine Held.snoc (p := (⟨true, 0, .pair kt vt, xs0, false⟩, m.hd id)) ⟨ho.1, ho.2⟩ rfl hfree (hh.le t1.le) (fun q hq b hb hb' => ?_)
              have : ∀ {l : List (Ob × Value)}, Held cx m st w l → q ∈ l → False := by
                intro l
                induction l with
                | nil => intro _ hq; cases hq
                | cons p r ih =>
                  intro hl hq
                  rcases List.mem_cons.1 hq with rfl | hq
                  · exact (hl.2.2.1 b hb).1 id _ t1.ob hb'
                  · exact ih hl.2.2.2 hq
              exact this hh hq
            · cases hd
          · cases hd
        · cases hd
      | _ => simp [decK] at hd
theorem LR_cons {I : Nat → Prop} {k : LK} {ks : List LK} {x : k.den} {y : LDen ks} {v1 v2 : List Value} {h1 h2 : List (Ob × Value)} (h : LR I w [k] (x, ()) v1 h1) (h' : LR I w ks y v2 h2) :
    LR I w (k :: ks) (x, y) (v1 ++ v2) (h1 ++ h2) := by
  cases k with
  | dat t =>
    obtain ⟨a1, a2, e, r, e2, e3⟩ := h
    subst e2; subst e3
    exact ⟨a1, v2, by simp [e], r, h'⟩
  | own e t =>
    obtain ⟨v, u, hs', e1, e2, e3, e4⟩ := h
    subst e3; subst e4; subst e1; subst e2
    exact ⟨v, v2, h2, by simp, by simp, h'⟩
  | mp k v' =>
    obtain ⟨v, u, hs', e1, e2, e3, e4⟩ := h
    subst e3; subst e4; subst e1; subst e2
    exact ⟨v, v2, h2, by simp, by simp, h'⟩
theorem decL_sound : ∀ {ks : List LK} {cs rest : List C} {x : LDen ks} {vs : List Value} {hs : List (Ob × Value)} {st st' : St} {m : Mp}, Rel cx m st a w →
    decL false st ks cs = some (x, rest, st') → CRs cx m w cs vs → (∀ c ∈ cs, c.lt st.n) → Held cx m st w hs →
    ∃ m' v1 v2 hs1, TellOk cx m st a w hs cs vs rest st' m' v1 v2 hs1 ∧ LR m'.I w ks x v1 hs1
  | [], cs, rest, x, vs, hs, st, st', m, h, hd, hc, hlt, hh => by
    simp only [decL, Option.some.injEq, Prod.mk.injEq] at hd
    obtain ⟨_, rfl, rfl⟩ := hd
    exact ⟨m, [], vs, [], ⟨rfl, ⟨[], rfl⟩, h, Agree.refl _ _, StLe.refl _, hc, by rw [List.append_nil]; exact hh, Fx.refl _, fun _ hb => hb, fun p hp => (by cases hp), fun i o hi => .inl ⟨o, hi⟩⟩, rfl, rfl⟩
  | k :: ks, cs, rest, x, vs, hs, st, st', m, h, hd, hc, hlt, hh => by
    simp only [decL] at hd
    split at hd
    · rename_i y r st1 hy
      split at hd
      · rename_i z r2 st2 hz
        simp only [Option.some.injEq, Prod.mk.injEq] at hd
        obtain ⟨rfl, rfl, rfl⟩ := hd
        obtain ⟨m1, v1, v2, hs1, t1, l1⟩ := decK_sound h hy hc hlt hh
        obtain ⟨cs1, hcs1⟩ := t1.csx
        obtain ⟨m2, v3, v4, hs2, t2, l2⟩ := decL_sound t1.rel hz t1.rest (fun c hc' => by rw [t1.le.n]; exact hlt c (by rw [hcs1]; simp [hc'])) t1.held
        obtain ⟨cs2, hcs2⟩ := t2.csx
        refine ⟨m2, v1 ++ v3, v4, hs1 ++ hs2, ⟨by rw [t1.vs, t2.vs]; simp, ⟨cs1 ++ cs2, by rw [hcs1, hcs2]; simp⟩, t2.rel, t1.agree.trans t2.agree (Nat.le_of_eq t1.le.n.symm), t1.le.trans t2.le, t2.rest, ?_, t1.fx.trans t2.fx, fun b hb => t1.tr b (t2.tr b hb), fun p hp b hb => ?_, fun i o hi => ?_⟩, ?_⟩
        · rw [← List.append_assoc]; exact t2.held
        · rcases List.mem_append.1 hp with hp | hp
          · exact t1.own p hp b hb
          · obtain ⟨i, o, ho, hb', hmem⟩ := t2.own p hp b hb
            obtain ⟨o', ho'⟩ := t1.le.ob i o ho
            exact ⟨i, o', ho', by rw [← t1.agree.hd i (h.objs i o' ho').2]; exact hb', by rw [hcs1]; simp [hmem]⟩
        · rcases t1.gone i o hi with ⟨o', ho'⟩ | h3
          · rcases t2.gone i o' ho' with h4 | h4
            · exact .inl h4
            · exact .inr (by rw [hcs1]; simp [h4])
          · exact .inr h3
        · exact LR_cons (LR_mono t2.agree.I (fun _ _ => rfl) l1) l2
      · cases hd
    · cases hd
/-! ### Making cells -/
theorem St.addO_cell (st : St) (ob : Ob) (b off : Nat) : (st.addO ob).cell b off = st.cell b off := by cases st; rfl
theorem tr_addO {ob : Ob} {v : Value} (h : Rel cx m st a w) {b : Nat} (hb : Tr (m.setHd st.n v) (st.addO ob) b) : Tr m st b ∨ blk v = some b := by
  have hg := m.agree_setHd st.n v
  rcases hb with hb | ⟨id, ob', ho, hb⟩ | ⟨id, off, c, hc, hb⟩
  · exact .inl (.inl hb)
  · cases st with
    | mk fs fc fo s c0 o n =>
    by_cases hn : id = n
    · subst hn
      right; simpa [Mp.setHd] using hb
    · have : (St.mk fs fc fo s c0 o n).ob id = some ob' := by
        simp only [St.addO, St.ob, lk_cons] at ho ⊢
        rw [if_neg (fun hh => hn hh.symm)] at ho
        exact ho
      rw [hg.hd id (h.objs id ob' this).2] at hb
      exact .inl (.inr (.inl ⟨id, ob', this, hb⟩))
  · rw [St.addO_cell] at hc
    exact .inl (.inr (.inr ⟨id, off, c, hc, hb⟩))

/-- What making cells comes to. -/
structure MakeOk (cx : Cx) (m : Mp) (st : St) (a : Act) (w : World) (cs : List C) (vs : List Value) (st' : St) (m' : Mp) (hs hm : List (Ob × Value)) : Prop where
  rel : Rel cx m' st' a w
  agree : Agree st.n m m'
  I : m'.I = m.I
  slot : ∀ i, st'.slot i = st.slot i
  cell : ∀ b off, st'.cell b off = st.cell b off
  ob : ∀ i, i < st.n → st'.ob i = st.ob i
  n : st.n ≤ st'.n
  crs : CRs cx m' w cs vs
  lt : ∀ c ∈ cs, c.lt st'.n
  held : Held cx m' st' w hs
  fx : Fx st st'
  tr : ∀ b, Tr m' st' b → Tr m st b ∨ ∃ p ∈ hm, blk p.2 = some b
theorem Held.addO {ob : Ob} {v : Value} (h : Rel cx m st a w) {hs : List (Ob × Value)} (hh : Held cx m st w hs) (hd : ∀ q ∈ hs, ∀ b, blk v = some b → blk q.2 ≠ some b) :
    Held cx (m.setHd st.n v) (st.addO ob) w hs := by
  induction hs with
  | nil => trivial
  | cons p r ih =>
    refine ⟨hh.1, hh.2.1, fun b hb => ⟨fun i o hi => ?_, fun b' off c hc => ?_, (hh.2.2.1 b hb).2.2⟩, ih hh.2.2.2 fun q hq => hd q (by simp [hq])⟩
    · cases st with
      | mk fs fc fo s c o' n =>
      simp only [St.addO, St.ob, lk_cons] at hi
      by_cases hi2 : n = i
      · subst hi2
        simp only [Mp.setHd, if_pos]
        intro hv
        exact hd p (by simp) b hv hb
      · simp only [hi2, if_false] at hi
        have hi3 : (St.mk fs fc fo s c o' n).ob i = some o := hi
        have hlt := (h.objs i o hi3).2
        simp only [Mp.setHd, if_neg (Ne.symm hi2)]
        exact (hh.2.2.1 b hb).1 i o hi3
    · cases st with
      | mk fs fc fo s c' o' n => exact (hh.2.2.1 b hb).2.1 b' off c hc
theorem ObV.one {I : Nat → Prop} {ob : Ob} {v : Value} (h : ObV cx I w ob v) : v.oneCell' = true := by
  have h1 := h.1
  cases hm : ob.mp with
  | false =>
    rw [hm] at h1
    obtain ⟨vs, h2, _⟩ := h1
    rcases h2.2 with ⟨rfl, _⟩ | ⟨g, cap, cur, rfl, _⟩ <;> rfl
  | true =>
    rw [hm] at h1
    obtain ⟨k, v', ht, r, es, clk, rfl, _⟩ := h1
    rfl
theorem encK_own (h : Rel cx m st a w) {ob : Ob} {v : Value} {hs : List (Ob × Value)} (hh : Held cx m st w ((ob, v) :: hs)) :
    MakeOk cx m st a w [.ref st.n] [v] (st.addO ob) (m.setHd st.n v) hs [(ob, v)] := by
  have hg := m.agree_setHd st.n v
  have hself : (m.setHd st.n v).hd st.n = v := by simp [Mp.setHd]
  have e1 : ∀ i, (st.addO ob).slot i = st.slot i := fun i => by (cases st; rfl)
  have e2 : ∀ b off, (st.addO ob).cell b off = st.cell b off := fun b off => by (cases st; rfl)
  have e3 : st.n < (st.addO ob).n := by (cases st; exact Nat.lt_succ_self _)
  refine ⟨h.addO ?_ (fun b hb => ⟨(hh.2.2.1 b hb).1, (hh.2.2.1 b hb).2.1⟩), hg, rfl, e1, e2, fun i hi => ?_, Nat.le_of_lt e3, .cons ⟨hself.symm, ObV.one hh.1⟩ .nil, fun c hc => ?_, ?_, Fx.addO _ _, fun b hb => (tr_addO h hb).imp (fun h => h) fun hb => ⟨_, List.mem_singleton.2 rfl, hb⟩⟩
  · unfold ObR; rw [hself]; exact hh.1
  · cases st with
    | mk fs fc fo s c o n => simp only [St.addO, St.ob, lk_cons]; rw [if_neg (Nat.ne_of_gt hi)]
  · simp at hc; subst hc; exact e3
  · exact Held.addO h hh.2.2.2 fun q hq b hb => (hh.2.2.1 b hb).2.2 q hq
theorem encL_sound : ∀ {ks : List LK} {x : LDen ks} {cs : List C} {vs : List Value} {hs ho : List (Ob × Value)} {st st' : St} {m : Mp}, Rel cx m st a w →
    encL st ks x = (cs, st') → LR m.I w ks x vs hs → Held cx m st w (hs ++ ho) → ∃ m', MakeOk cx m st a w cs vs st' m' ho hs
  | [], x, cs, vs, hs, ho, st, st', m, h, he, hl, hh => by
    simp only [encL, Prod.mk.injEq] at he
    obtain ⟨rfl, rfl⟩ := he
    simp only [LR] at hl
    obtain ⟨rfl, rfl⟩ := hl
    exact ⟨m, h, Agree.refl _ _, rfl, fun _ => rfl, fun _ _ => rfl, fun _ _ => rfl, Nat.le_refl _, .nil, fun c hc => (by cases hc), hh, Fx.refl _, fun _ hb => .inl hb⟩
  | .dat t :: ks, x, cs, vs, hs, ho, st, st', m, h, he, hl, hh => by
    simp only [LR] at hl
    obtain ⟨v1, v2, rfl, h1, h2⟩ := hl
    simp only [encL, encK] at he
    generalize he2 : encL st ks x.2 = p at he
    obtain ⟨cs2, st2⟩ := p
    simp only [Prod.mk.injEq] at he
    obtain ⟨rfl, rfl⟩ := he
    obtain ⟨m', k⟩ := encL_sound h he2 h2 hh
    exact ⟨m', k.rel, k.agree, k.I, k.slot, k.cell, k.ob, k.n, (((cellsOf_sound h1).agree k.agree fun c hc => cellsOf_lt c hc)).append k.crs, fun c hc => by
      rcases List.mem_append.1 hc with hc | hc
      · exact cellsOf_lt c hc
      · exact k.lt c hc, k.held, k.fx, k.tr⟩
  | .own e t :: ks, x, cs, vs, hs, ho, st, st', m, h, he, hl, hh => by
    simp only [LR] at hl
    obtain ⟨v, v2, hs', rfl, rfl, h2⟩ := hl
    simp only [encL, encK] at he
    generalize he2 : encL (st.addO ⟨false, e, t, x.1, false⟩) ks x.2 = p at he
    obtain ⟨cs2, st2⟩ := p
    simp only [Prod.mk.injEq] at he
    obtain ⟨rfl, rfl⟩ := he
    have k1 := encK_own h hh
    obtain ⟨m', k⟩ := encL_sound k1.rel he2 h2 k1.held
    refine ⟨m', k.rel, k1.agree.trans k.agree k1.n, k.I.trans k1.I, fun i => (k.slot i).trans (k1.slot i), fun b off => (k.cell b off).trans (k1.cell b off), fun i hi => (k.ob i (Nat.lt_of_lt_of_le hi k1.n)).trans (k1.ob i hi),
      Nat.le_trans k1.n k.n, (k1.crs.agree k.agree k1.lt).append k.crs, fun c hc => ?_, k.held, k1.fx.trans k.fx, fun b hb => ?_⟩
    · rcases List.mem_append.1 hc with hc | hc
      · exact C.lt_mono k.n (k1.lt c hc)
      · exact k.lt c hc
    · rcases k.tr b hb with h3 | ⟨p, hp, h3⟩
      · rcases k1.tr b h3 with h4 | ⟨p, hp, h4⟩
        · exact .inl h4
        · simp only [List.mem_singleton] at hp; subst hp; exact .inr ⟨_, by simp, h4⟩
      · exact .inr ⟨p, by simp [hp], h3⟩
  | .mp kt vt :: ks, x, cs, vs, hs, ho, st, st', m, h, he, hl, hh => by
    simp only [LR] at hl
    obtain ⟨v, v2, hs', rfl, rfl, h2⟩ := hl
    simp only [encL, encK] at he
    generalize he2 : encL (st.addO ⟨true, 0, .pair kt vt, x.1, false⟩) ks x.2 = p at he
    obtain ⟨cs2, st2⟩ := p
    simp only [Prod.mk.injEq] at he
    obtain ⟨rfl, rfl⟩ := he
    have k1 := encK_own h hh
    obtain ⟨m', k⟩ := encL_sound k1.rel he2 h2 k1.held
    refine ⟨m', k.rel, k1.agree.trans k.agree k1.n, k.I.trans k1.I, fun i => (k.slot i).trans (k1.slot i), fun b off => (k.cell b off).trans (k1.cell b off), fun i hi => (k.ob i (Nat.lt_of_lt_of_le hi k1.n)).trans (k1.ob i hi),
      Nat.le_trans k1.n k.n, (k1.crs.agree k.agree k1.lt).append k.crs, fun c hc => ?_, k.held, k1.fx.trans k.fx, fun b hb => ?_⟩
    · rcases List.mem_append.1 hc with hc | hc
      · exact C.lt_mono k.n (k1.lt c hc)
      · exact k.lt c hc
    · rcases k.tr b hb with h3 | ⟨p, hp, h3⟩
      · rcases k1.tr b h3 with h4 | ⟨p, hp, h4⟩
        · exact .inl h4
        · simp only [List.mem_singleton] at hp; subst hp; exact .inr ⟨_, by simp, h4⟩
      · exact .inr ⟨p, by simp [hp], h3⟩
end Go.Pv
/-! What is told of the program's types, held against its tables. -/
namespace Go.Pv
def zval : Ty → List Value
  | .int k => [.int k 0]
  | .bool => [.bool false]
  | .str => [.string ⟨#[]⟩]
  | .unit => []
  | .sl _ => [.slice none 0 0]
  | .map _ _ => [.map none]
  | .one t => zval t
  | .pair a b => zval a ++ zval b
theorem zeroC_sound {cx : Cx} {m : Mp} {w : World} : ∀ t : Ty, CRs cx m w (zeroC t) (zval t)
  | .int k => .cons (by simp [CR, RV]) .nil
  | .bool => .cons (by simp [CR, RV]) .nil
  | .str => .cons (by simp [CR, RV]) .nil
  | .unit => .nil
  | .sl _ => .cons rfl .nil
  | .map _ _ => .cons rfl .nil
  | .one t => zeroC_sound t
  | .pair a b => (zeroC_sound a).append (zeroC_sound b)
theorem zeroC_lt {n : Nat} : ∀ (t : Ty), ∀ c ∈ zeroC t, c.lt n
  | .int k, c, h => by simp [zeroC] at h; subst h; trivial
  | .bool, c, h => by simp [zeroC] at h; subst h; trivial
  | .str, c, h => by simp [zeroC] at h; subst h; trivial
  | .unit, c, h => by simp [zeroC] at h
  | .sl _, c, h => by simp [zeroC] at h; subst h; trivial
  | .map _ _, c, h => by simp [zeroC] at h; subst h; trivial
  | .one t, c, h => zeroC_lt t c h
  | .pair a b, c, h => by
    simp only [zeroC] at h
    rcases List.mem_append.1 h with h | h
    · exact zeroC_lt a c h
    · exact zeroC_lt b c h
theorem zeroC_length : ∀ t : Ty, (zeroC t).length = t.size
  | .int k => rfl
  | .bool => rfl
  | .str => rfl
  | .unit => rfl
  | .sl _ => rfl
  | .map _ _ => rfl
  | .one t => zeroC_length t
  | .pair a b => by simp [zeroC, Ty.size, zeroC_length a, zeroC_length b]
theorem zval_length : ∀ t : Ty, (zval t).length = t.size
  | .int k => rfl
  | .bool => rfl
  | .str => rfl
  | .unit => rfl
  | .sl _ => rfl
  | .map _ _ => rfl
  | .one t => zval_length t
  | .pair a b => by simp [zval, Ty.size, zval_length a, zval_length b]
/-- The zero value of a type is the value of its default. -/
theorem zval_rv {I : Nat → Prop} {w : World} : ∀ t : Ty, RV I w t t.dflt (zval t)
  | .int k => rfl
  | .bool => rfl
  | .str => rfl
  | .unit => rfl
  | .sl t => by simp only [RV]; exact ⟨none, 0, rfl, Nat.le_refl _, .inl rfl⟩
  | .map k v => by simp only [RV]; exact ⟨none, rfl, .inl ⟨rfl, rfl⟩⟩
  | .one t => by simp only [RV]; exact zval_rv t
  | .pair a b => by simp only [RV]; exact ⟨zval a, zval b, rfl, zval_rv a, zval_rv b⟩
def eqV : Value → Value → Bool
  | .int k n, .int k' n' => k == k' && n == n'
  | .bool b, .bool b' => b == b'
  | .string s, .string s' => s.data.toList == s'.data.toList
  | .slice none a b, .slice none a' b' => a == a' && b == b'
  | .map none, .map none => true
  | _, _ => false
theorem eqV_spec {a b : Value} (h : eqV a b = true) : a = b := by
  unfold eqV at h
  split at h
  · simp only [Bool.and_eq_true, beq_iff_eq] at h; rw [h.1, h.2]
  · simp only [beq_iff_eq] at h; rw [h]
  · rename_i s s'
    simp only [beq_iff_eq] at h
    have h1 := Array.toList_inj.1 h
    cases s; cases s'; simp only at h1; rw [h1]
  · simp only [Bool.and_eq_true, beq_iff_eq] at h; rw [h.1, h.2]
  · rfl
  · cases h
def eqVs : List Value → List Value → Bool
  | [], [] => true
  | a :: r, b :: s => eqV a b && eqVs r s
  | _, _ => false
theorem eqVs_spec : ∀ {a b : List Value}, eqVs a b = true → a = b
  | [], [], _ => rfl
  | a :: r, b :: s, h => by simp only [eqVs, Bool.and_eq_true] at h; rw [eqV_spec h.1, eqVs_spec h.2]
  | [], _ :: _, h => by simp [eqVs] at h
  | _ :: _, [], h => by simp [eqVs] at h
def aggD : TypeDesc → Bool
  | .struct _ | .array _ _ => true
  | _ => false
def kindD : TypeDesc → Ty → Bool
  | .int k, .int k' => k == k'
  | .bool, .bool => true
  | .string, .str => true
  | .slice _, .sl _ => true
  | .map _ _, .map _ _ => true
  | .struct _, t => t.ag
  | .array _ _, t => t.ag
  | _, _ => false
def isAggV : Value → Bool
  | .agg _ => true
  | _ => false
def tyB (P : Program) (t : TypeId) (ty : Ty) : Bool :=
  match P.info? t, P.underlying t with
  | some i, some d => i.size == ty.size && (match i.zero with | some z => eqVs z.cells.toList (zval ty) && (isAggV z == ty.ag) | none => false) && aggD d == ty.ag && kindD d ty
  | _, _ => false
structure TyOk (P : Program) (t : TypeId) (ty : Ty) (i : TypeInfo) (d : TypeDesc) (z : Value) : Prop where
  info : P.info? t = some i
  under : P.underlying t = some d
  size : i.size = ty.size
  zero : i.zero = some z
  cells : z.cells = (zval ty).toArray
  zag : isAggV z = ty.ag
  ag : aggD d = ty.ag
  kind : kindD d ty = true
theorem tyB_spec {P : Program} {t : TypeId} {ty : Ty} (h : tyB P t ty = true) : ∃ i d z, TyOk P t ty i d z := by
  unfold tyB at h
  split at h
  · rename_i i d hi hd
    simp only [Bool.and_eq_true, beq_iff_eq] at h
    obtain ⟨⟨⟨h1, h2⟩, h3⟩, h4⟩ := h
    split at h2
    · rename_i z hz
      simp only [Bool.and_eq_true, beq_iff_eq] at h2
      exact ⟨i, d, z, hi, hd, h1, hz, by rw [← eqVs_spec h2.1], h2.2, h3, h4⟩
    · cases h2
  · cases h
/-- A struct's or an array's parts. -/
def partB (P : Program) (t : TypeId) (arr : Bool) (j off : Nat) (tf : Ty) : Bool :=
  match P.underlying t with
  | some (.struct fs) => !arr && match fs[j]? with
    | some f => f.offset == off && tyB P f.type tf && !(tf.size == 0)
    | none => false
  | some (.array n e) => arr && decide (j < n) && off == j * tf.size && tyB P e tf && !(tf.size == 0)
  | _ => false
def partsB (P : Program) (t : TypeId) (arr : Bool) : Nat → List (Nat × Ty) → Bool
  | _, [] => true
  | j, (off, tf) :: r => partB P t arr j off tf && partsB P t arr (j + 1) r
theorem partsB_spec {P : Program} {t : TypeId} {arr : Bool} : ∀ {fl : List (Nat × Ty)} {j : Nat}, partsB P t arr j fl = true → ∀ k off tf, fl[k]? = some (off, tf) → partB P t arr (j + k) off tf = true
  | [], _, _, k, off, tf, h => by simp at h
  | p :: r, j, h, k, off, tf, hk => by
    simp only [partsB, Bool.and_eq_true] at h
    cases k with
    | zero => simp at hk; subst hk; exact h.1
    | succ k => simp at hk; have := partsB_spec h.2 k off tf hk; rwa [show j + (k + 1) = j + 1 + k by omega]
def elemB (P : Program) (t : TypeId) (e : TypeId) (te : Ty) : Bool :=
  match P.underlying t, P.info? e with
  | some (.slice e'), some i => e' == e && tyB P e te && !(te.size == 0) && decide (i.bytes ≤ 2048)
  | _, _ => false
theorem elemB_spec {P : Program} {t e : TypeId} {te : Ty} (h : elemB P t e te = true) : P.underlying t = some (.slice e) ∧ (∃ i d z, TyOk P e te i d z ∧ i.bytes ≤ 2048) ∧ 0 < te.size := by
  unfold elemB at h
  split at h
  · rename_i e' i hu hi
    simp only [Bool.and_eq_true, beq_iff_eq, decide_eq_true_eq, Bool.not_eq_true', beq_eq_false_iff_ne] at h
    obtain ⟨⟨⟨rfl, h2⟩, h3⟩, h4⟩ := h
    obtain ⟨i', d, z, h5⟩ := tyB_spec h2
    have : i' = i := Option.some.inj (h5.info.symm.trans hi)
    subst this
    exact ⟨hu, ⟨i', d, z, h5, h4⟩, Nat.pos_of_ne_zero h3⟩
  · cases h
def mapB (P : Program) (t : TypeId) : Ty → Bool
  | .map k v => match P.underlying t with
    | some (.map kt vt) => tyB P kt k && tyB P vt v
    | _ => false
  | _ => true
def bytesB (P : Program) (t : TypeId) : Ty → Bool
  | .sl (.int .u8) => match P.underlying t with
    | some (.slice e) => tyB P e (.int .u8)
    | _ => false
  | _ => true
def flatF (P : Program) (g : TypeId → Option (List Ty)) : Nat → List Field → Option (List Ty)
  | _, [] => some []
  | off, f :: r => match f.name == "_", f.offset == off, g f.type, P.info? f.type with
    | false, true, some l, some i => match i.size == l.length && (match P.underlying f.type with | some (.struct _) => true | _ => l.length == 1), flatF P g (off + l.length) r with
      | true, some l' => some (l ++ l')
      | _, _ => none
    | _, _, _, _ => none
def flatT (P : Program) : Nat → TypeId → Option (List Ty)
  | 0, _ => none
  | d + 1, t => match P.underlying t with
    | some (.int k) => some [.int k]
    | some .bool => some [.bool]
    | some .string => some [.str]
    | some (.struct fs) => match P.stoodInHeld t with
      | true => none
      | false => flatF P (flatT P d) 0 fs.toList
    | _ => none
def eqB (P : Program) (t : TypeId) (ty : Ty) : Bool :=
  (match flatT P 20 t with | some l => decide (l = flatTy ty) | none => false) && !P.eqGuardType P.depth t
def lenB (P : Program) (t : TypeId) (fl : List (Nat × Ty)) : Bool :=
  match P.underlying t with
  | some (.struct fs) => fs.size == fl.length
  | some (.array _ e) => (P.info? e).isSome
  | _ => true
def tiB (P : Program) (p : Nat × TI) : Bool :=
  lenB P p.1 p.2.fl && (!p.2.eq || eqB P p.1 p.2.t) && tyB P p.1 p.2.t && partsB P p.1 p.2.arr 0 p.2.fl && (match p.2.el with | some (e, te) => elemB P p.1 e te | none => true) && mapB P p.1 p.2.t && bytesB P p.1 p.2.t
def tysB (P : Program) : List (Nat × TI) → Bool
  | [] => true
  | p :: r => tiB P p && tysB P r
def arrB (P : Program) (p : Nat × (Nat × Ty)) : Bool :=
  match P.underlying p.1 with
  | some (.array n e) => n == p.2.1 && decide (2 ≤ n) && tyB P e p.2.2 && !(p.2.2.size == 0)
  | _ => false
def arrsB (P : Program) : List (Nat × (Nat × Ty)) → Bool
  | [] => true
  | p :: r => arrB P p && arrsB P r
theorem lk_mem {α : Type} {l : List (Nat × α)} {n : Nat} {v : α} (h : lk l n = some v) : (n, v) ∈ l := by
  induction l with
  | nil => simp [lk] at h
  | cons p r ih =>
    obtain ⟨k, x⟩ := p
    rw [lk_cons] at h
    split at h
    · rename_i hk; subst hk; simp only [Option.some.injEq] at h; subst h; simp
    · exact List.mem_cons_of_mem _ (ih h)
structure TiOk (P : Program) (t : TypeId) (i : TI) : Prop where
  len : lenB P t i.fl = true
  eq : i.eq = true → eqB P t i.t = true
  ty : tyB P t i.t = true
  part : ∀ j off tf, i.fl[j]? = some (off, tf) → partB P t i.arr j off tf = true
  el : ∀ e te, i.el = some (e, te) → elemB P t e te = true
  map : mapB P t i.t = true
  bytes : bytesB P t i.t = true
theorem tiB_spec {P : Program} {t : TypeId} {i : TI} (h : tiB P (t, i) = true) : TiOk P t i := by
  simp only [tiB, Bool.and_eq_true, Bool.or_eq_true, Bool.not_eq_true'] at h
  obtain ⟨⟨⟨⟨⟨⟨h0, h1⟩, h2⟩, h3⟩, h4⟩, h5⟩, h6⟩ := h
  refine ⟨h0, fun he => h1.resolve_left (by simp [he]), h2, fun j off tf hj => by simpa using partsB_spec h3 j off tf hj, fun e te he => by rw [he] at h4; exact h4, h5, h6⟩
theorem tysB_mem {P : Program} : ∀ {l : List (Nat × TI)}, tysB P l = true → ∀ p ∈ l, tiB P p = true
  | [], _, p, hp => by cases hp
  | q :: r, h, p, hp => by
    simp only [tysB, Bool.and_eq_true] at h
    rcases List.mem_cons.1 hp with rfl | hp
    · exact h.1
    · exact tysB_mem h.2 p hp
theorem arrsB_mem {P : Program} : ∀ {l : List (Nat × (Nat × Ty))}, arrsB P l = true → ∀ p ∈ l, arrB P p = true
  | [], _, p, hp => by cases hp
  | q :: r, h, p, hp => by
    simp only [arrsB, Bool.and_eq_true] at h
    rcases List.mem_cons.1 hp with rfl | hp
    · exact h.1
    · exact arrsB_mem h.2 p hp
theorem tys_get {P : Program} {l : List (Nat × TI)} (h : tysB P l = true) {t : TypeId} {i : TI} (ht : lk l t = some i) : TiOk P t i := tiB_spec (tysB_mem h _ (lk_mem ht))
end Go.Pv
/-! Operations that leave memory alone. -/
namespace Go.Pv
variable {P : Program} {cx : Cx} {m m' : Mp} {st st' : St} {a : Act} {w w' : World} {R : Type}
/-- What an operation comes to: a value, at once or by a call. -/
def Eff (P : Program) (o : Oper) (a : Act) (w : World) (Post : Value → World → Prop) : Prop :=
  match (execOp a.eval o).run P w with
  | .ok (.value v) w' => Post v w'
  | .ok .skip w' => Post undef w'
  | .ok (.enter f args) w' => Calls P f args w' fun e w'' => ∃ v, e = .returned v ∧ Post v w''
  | _ => False
theorem Eff.mono {o : Oper} {Post Post' : Value → World → Prop} (h : Eff P o a w Post) (hp : ∀ v w', Post v w' → Post' v w') : Eff P o a w Post' := by
  unfold Eff at *
  generalize (execOp a.eval o).run P w = r at *
  cases r with
  | ok n w' =>
    cases n <;> simp only at h ⊢
    case value v => exact hp _ _ h
    case skip => exact hp _ _ h
    case enter f args => exact h.mono fun e w'' ⟨v, h1, h2⟩ => ⟨v, h1, hp _ _ h2⟩
  | halt x w' => exact h
theorem Eff.wp {o : Oper} {next : Act → World → Prop} {Q : Exit → Act → World → Prop} {Post : Value → World → Prop} (h : Eff P o a w Post) (hn : ∀ v w', Post v w' → next (a.put o.dst v) w') :
    o.wp P a w next Q := by
  unfold Eff at h
  unfold Oper.wp
  generalize (execOp a.eval o).run P w = r at *
  cases r with
  | ok n w' =>
    cases n <;> simp only at h <;> simp only [Oper.upon]
    case value v => exact hn _ _ h
    case skip => exact hn _ _ h
    case enter f args => exact h.mono fun e w'' ⟨v, h1, h2⟩ => by subst h1; exact hn _ _ h2
  | halt x w' => exact h.elim
theorem Eff.value {o : Oper} {v : Value} {w' : World} {Post : Value → World → Prop} (h : (execOp a.eval o).run P w = .ok (.value v) w') (hp : Post v w') : Eff P o a w Post := by
  unfold Eff; rw [h]; exact hp
/-! ### Operands -/
theorem ofConst_sound {v : Value} {x : V} (h : ofConst v = some x) : VR cx m w x v ∧ x.lt st.n := by
  unfold ofConst at h
  split at h
  · cases h; exact ⟨⟨_, rfl, by simp [CR, RV]⟩, fun c hc => by simp at hc; subst hc; trivial⟩
  · cases h; exact ⟨⟨_, rfl, by simp [CR, RV]⟩, fun c hc => by simp at hc; subst hc; trivial⟩
  · cases h; exact ⟨⟨_, rfl, by simp [CR, RV]⟩, fun c hc => by simp at hc; subst hc; trivial⟩
  · cases h; exact ⟨⟨_, rfl, rfl⟩, fun c hc => by simp at hc; subst hc; trivial⟩
  · cases h; exact ⟨⟨_, rfl, rfl⟩, fun c hc => by simp at hc; subst hc; trivial⟩
  · cases h; exact ⟨⟨_, rfl, rfl⟩, fun c hc => by simp at hc; subst hc; trivial⟩
  · cases h
theorem opd_sound (h : Rel cx m st a w) {x : Operand} {v : V} (ho : opd st x = some v) : VR cx m w v (a.eval x) ∧ v.lt st.n := by
  cases x with
  | tmp t => exact h.slots t v ho
  | const c => exact ofConst_sound ho
  | global g => simp [opd] at ho
  | func f =>
    simp only [opd, Option.some.injEq] at ho
    subst ho
    exact ⟨⟨_, rfl, by simp [CR, Act.eval]⟩, fun c hc => by simp at hc; subst hc; intro b hb; cases hb⟩
theorem opd1_sound (h : Rel cx m st a w) {x : Operand} {c : C} (ho : opd1 st x = some c) : CR cx m w c (a.eval x) ∧ c.lt st.n := by
  unfold opd1 at ho
  split at ho
  · rename_i d hd
    simp only [Option.some.injEq] at ho
    subst ho
    obtain ⟨⟨c', e, h1⟩, h2⟩ := opd_sound h hd
    simp only [List.cons.injEq, and_true] at e
    subst e
    exact ⟨h1, h2 d (by simp)⟩
  · cases ho
theorem opdI_sound (h : Rel cx m st a w) {x : Operand} {n : Int} (ho : opdI st x = some n) : ∃ q, a.eval x = .int q n := by
  unfold opdI at ho
  split at ho
  · rename_i q n' hd
    simp only [Option.some.injEq] at ho
    subst ho
    obtain ⟨⟨c', e, h1⟩, _⟩ := opd_sound h hd
    simp only [List.cons.injEq, and_true] at e
    subst e
    simp only [CR, RV, List.cons.injEq, and_true] at h1
    exact ⟨q, h1⟩
  · cases ho
theorem CR_int {q : IntKind} {n : Int} {v : Value} (h : CR cx m w (.val (.int q) n) v) : v = .int q n := by
  simpa [CR, RV] using h
theorem CR_bool {b : Bool} {v : Value} (h : CR cx m w (.val .bool b) v) : v = .bool b := by
  simpa [CR, RV] using h
theorem CR_str {s : List UInt8} {v : Value} (h : CR cx m w (.val .str s) v) : v = .string ⟨s.toArray⟩ := by
  simpa [CR, RV] using h
theorem VR_one {c : C} {v : Value} (h : CR cx m w c v) : VR cx m w (one c) v := ⟨c, rfl, h⟩
theorem one_lt {c : C} {n : Nat} (h : c.lt n) : (one c).lt n := fun d hd => by simp at hd; subst hd; exact h
/-- An operation that computes: the same in every world. -/
structure PureOk (P : Program) (o : Oper) (cx : Cx) (m : Mp) (st : St) (a : Act) (w : World) (k : V → St → Option R) (r : R) (cv : Value) (v : V) (st' : St) (m' : Mp) : Prop where
  k : k v st' = some r
  rel : Rel cx m' st' a w
  vr : VR cx m' w v cv
  lt : v.lt st'.n
  agree : Agree st.n m m'
  le : StLe st st'
  fx : Fx st st'
  tr : ∀ b, Tr m' st' b → Tr m st b
  live : ∀ p, Live p st st'
  run : ∀ w'', (execOp a.eval o).run P w'' = .ok (.value cv) w''
theorem PureOk.mk0 {o : Oper} {k : V → St → Option R} {r : R} {cv : Value} {v : V} (h : Rel cx m st a w) (hk : k v st = some r) (hv : VR cx m w v cv) (hl : v.lt st.n)
    (hr : ∀ w'', (execOp a.eval o).run P w'' = .ok (.value cv) w'') : PureOk P o cx m st a w k r cv v st m :=
  ⟨hk, h, hv, hl, Agree.refl _ _, StLe.refl _, Fx.refl _, fun _ h => h, fun _ => Live.refl _ _, hr⟩
theorem pure_int {o : Oper} {k : V → St → Option R} {r : R} {q : IntKind} {n : Int} (h : Rel cx m st a w) (hk : k (one (intC q n)) st = some r)
    (hr : ∀ w'', (execOp a.eval o).run P w'' = .ok (.value (.int q n)) w'') : PureOk P o cx m st a w k r (.int q n) (one (intC q n)) st m :=
  .mk0 h hk (VR_one (by simp [intC, CR, RV])) (one_lt trivial) hr
theorem pure_bool {o : Oper} {k : V → St → Option R} {r : R} {b : Bool} (h : Rel cx m st a w) (hk : k (one (boolC b)) st = some r)
    (hr : ∀ w'', (execOp a.eval o).run P w'' = .ok (.value (.bool b)) w'') : PureOk P o cx m st a w k r (.bool b) (one (boolC b)) st m :=
  .mk0 h hk (VR_one (by simp [boolC, CR, RV])) (one_lt trivial) hr
end Go.Pv
/-! Comparisons with == of structs, cell by cell. -/
namespace Go.Pv
variable {P : Program} {cx : Cx} {m : Mp} {w : World}
theorem toList_mk (s : List UInt8) : (ByteArray.mk s.toArray).toList = s := by
  rw [ByteArray.toList_eq]
/-- Values of scalar types. -/
def SV : Ty → Value → Prop
  | .int k, v => ∃ n, v = .int k n
  | .bool, v => ∃ b, v = .bool b
  | .str, v => ∃ s : List UInt8, v = .string ⟨s.toArray⟩
  | _, _ => False
def eqS : Value → Value → Bool
  | .int _ n, .int _ n' => n == n'
  | .bool b, .bool b' => b == b'
  | .string s, .string s' => s.data.toList == s'.data.toList
  | _, _ => false
inductive SVs : List Ty → List Value → List Value → Prop
  | nil : SVs [] [] []
  | cons {t v u ts vs us} : SV t v → SV t u → SVs ts vs us → SVs (t :: ts) (v :: vs) (u :: us)
def eqSs : List Value → List Value → Bool
  | v :: vs, u :: us => eqS v u && eqSs vs us
  | _, _ => true
theorem eqC_sound {t : Ty} {c d : C} {v u : Value} {b : Bool} (h : eqC t c d = some b) (hc : CR cx m w c v) (hd : CR cx m w d u) : SV t v ∧ SV t u ∧ eqS v u = b := by
  unfold eqC at h
  split at h
  · rename_i k x k' y
    split at h
    · rename_i h1 h2
      have e1 := of_decide_eq_true h1
      have e2 := of_decide_eq_true h2
      subst e1; subst e2
      rw [CR_int hc, CR_int hd]
      exact ⟨⟨_, rfl⟩, ⟨_, rfl⟩, by simpa [eqS] using h⟩
    · cases h
  · rename_i x y
    split at h
    · rw [CR_bool hc, CR_bool hd]
      exact ⟨⟨_, rfl⟩, ⟨_, rfl⟩, by simpa [eqS] using h⟩
    · cases h
  · rename_i x y
    split at h
    · rw [CR_str hc, CR_str hd]
      exact ⟨⟨_, rfl⟩, ⟨_, rfl⟩, by simpa [eqS] using h⟩
    · cases h
  · cases h
theorem eqCs_sound : ∀ {l : List Ty} {cs ds : List C} {vs us : List Value} {b : Bool}, eqCs l cs ds = some b → CRs cx m w cs vs → CRs cx m w ds us → SVs l vs us ∧ eqSs vs us = b
  | [], [], [], _, _, b, h, .nil, .nil => ⟨.nil, by simpa [eqCs, eqSs] using h⟩
  | [t], [c], [d], _, _, b, h, .cons h1 .nil, .cons h2 .nil => by
    simp only [eqCs] at h
    obtain ⟨a1, a2, a3⟩ := eqC_sound h h1 h2
    exact ⟨.cons a1 a2 .nil, by simp [eqSs, a3]⟩
  | t :: t' :: ts, c :: cs, d :: ds, _, _, b, h, .cons h1 r1, .cons h2 r2 => by
    simp only [eqCs] at h
    split at h
    · rename_i b1 e1
      split at h
      · rename_i b2 e2
        obtain ⟨a1, a2, a3⟩ := eqC_sound e1 h1 h2
        obtain ⟨i1, i2⟩ := eqCs_sound e2 r1 r2
        exact ⟨.cons a1 a2 i1, by simp only [eqSs, a3, i2]; exact Option.some.inj h⟩
      · cases h
    · cases h
  | [], [], _ :: _, _, _, _, h, _, _ => by simp [eqCs] at h
  | [], _ :: _, _, _, _, _, h, _, _ => by simp [eqCs] at h
  | [t], [], _, _, _, _, h, _, _ => by simp [eqCs] at h
  | [t], [c], [], _, _, _, h, _, _ => by simp [eqCs] at h
  | [t], [c], d :: d' :: r, _, _, _, h, _, _ => by simp [eqCs] at h; split at h <;> simp at h
  | [t], c :: c' :: r, [], _, _, _, h, _, _ => by simp [eqCs] at h
  | [t], c :: c' :: r, d :: r', _, _, _, h, _, _ => by simp [eqCs] at h; split at h <;> simp at h
  | t :: t' :: ts, [], _, _, _, _, h, _, _ => by simp [eqCs] at h
  | t :: t' :: ts, c :: cs, [], _, _, _, h, _, _ => by simp [eqCs] at h
theorem SVs.length : ∀ {l : List Ty} {vs us : List Value}, SVs l vs us → vs.length = l.length ∧ us.length = l.length
  | _, _, _, .nil => ⟨rfl, rfl⟩
  | _, _, _, .cons _ _ h => ⟨by simp [h.length.1], by simp [h.length.2]⟩
theorem SVs.append_inv : ∀ {l l' : List Ty} {vs us : List Value}, SVs (l ++ l') vs us → ∃ v1 v2 u1 u2, vs = v1 ++ v2 ∧ us = u1 ++ u2 ∧ SVs l v1 u1 ∧ SVs l' v2 u2
  | [], _, vs, us, h => ⟨[], vs, [], us, rfl, rfl, .nil, h⟩
  | t :: l, _, _, _, .cons h1 h2 h => by
    obtain ⟨v1, v2, u1, u2, e1, e2, i1, i2⟩ := SVs.append_inv h
    exact ⟨_ :: v1, v2, _ :: u1, u2, by simp [e1], by simp [e2], .cons h1 h2 i1, i2⟩
theorem eqSs_append : ∀ {v1 v2 u1 u2 : List Value}, v1.length = u1.length → eqSs (v1 ++ v2) (u1 ++ u2) = (eqSs v1 u1 && eqSs v2 u2)
  | [], _, [], _, _ => by simp [eqSs]
  | v :: v1, v2, u :: u1, u2, h => by
    simp only [List.cons_append, eqSs, Bool.and_assoc]
    rw [eqSs_append (by simpa using h)]
/-- What equalIn is asked of: a struct's cells, or one cell. -/
def packB (P : Program) (t : TypeId) (vs : List Value) : Value :=
  match P.underlying t with
  | some (.struct _) => .agg vs.toArray
  | _ => vs.getD 0 undef
theorem equalIn_flat : ∀ (d : Nat) (t : TypeId) (l : List Ty) (vs us : List Value) (D : Nat), d ≤ D → flatT P d t = some l → SVs l vs us →
    ∀ w : World, (Op.equalIn D t (packB P t vs) (packB P t us)).run P w = .ok (eqSs vs us) w
  | 0, t, l, vs, us, D, _, h, _, w => by simp [flatT] at h
  | d + 1, t, l, vs, us, D, hD, h, hs, w => by
    obtain ⟨D, rfl⟩ : ∃ D', D = D' + 1 := ⟨D - 1, by omega⟩
    rw [flatT] at h
    split at h
    · rename_i k hu
      cases h
      cases hs with
      | cons h1 h2 h3 =>
        cases h3
        obtain ⟨n, rfl⟩ := h1
        obtain ⟨n', rfl⟩ := h2
        simp [packB, hu, run_equalIn_int w D t k k n n' hu, eqSs, eqS]
    · rename_i hu
      cases h
      cases hs with
      | cons h1 h2 h3 =>
        cases h3
        obtain ⟨n, rfl⟩ := h1
        obtain ⟨n', rfl⟩ := h2
        simp [packB, hu, run_equalIn_bool w D t n n' hu, eqSs, eqS]
    · rename_i hu
      cases h
      cases hs with
      | cons h1 h2 h3 =>
        cases h3
        obtain ⟨n, rfl⟩ := h1
        obtain ⟨n', rfl⟩ := h2
        simp [packB, hu, run_equalIn_string w D t _ _ hu, eqSs, eqS, toList_mk]
    · rename_i fs hu
      split at h
      · cases h
      · rename_i hp
        have hf : P.fieldsOf t = fs := by simp [Program.fieldsOf, hu]
        have e1 : packB P t vs = .agg vs.toArray := by simp [packB, hu]
        have e2 : packB P t us = .agg us.toArray := by simp [packB, hu]
        rw [e1, e2, run_equalIn_struct w D t _ _ (by rw [hf]; exact hu) hp, hf]
        have key : ∀ (r : List Field) (off : Nat) (l' : List Ty) (v0 u0 v1 u1 : List Value), flatF P (flatT P d) off r = some l' → vs = v0 ++ v1 → us = u0 ++ u1 → v0.length = off → u0.length = off → SVs l' v1 u1 →
            (Op.eqFields D vs.toArray us.toArray r).run P w = .ok (eqSs v1 u1) w := by
          intro r
          induction r with
          | nil =>
            intro off l' v0 u0 v1 u1 hl _ _ _ _ hss
            simp only [flatF, Option.some.injEq] at hl
            subst hl
            cases hss
            simp [Op.eqFields, eqSs]
          | cons f r ih =>
            intro off l' v0 u0 v1 u1 hl ev eu lv lu hss
            simp only [flatF] at hl
            split at hl
            · rename_i lf i hn ho hlf hi
              split at hl
              · rename_i l2 hsz hl2
                simp only [Option.some.injEq] at hl
                subst hl
                obtain ⟨va, vb, ua, ub, rfl, rfl, i1, i2⟩ := hss.append_inv
                have hn' : f.name ≠ "_" := by simpa using hn
                have ho' : f.offset = off := by simpa using ho
                simp only [Bool.and_eq_true, beq_iff_eq] at hsz
                have hlen := i1.length
                have hpart : ∀ (xs x0 xa xb : List Value), xs = x0 ++ (xa ++ xb) → x0.length = off → xa.length = lf.length → (part f.type xs.toArray f.offset).run P w = .ok (packB P f.type xa) w := by
                  intro xs x0 xa xb ex l0 la
                  have hdesc : ∃ de, P.underlying f.type = some de := by
                    have : flatT P d f.type = some lf := hlf
                    cases d with
                    | zero => simp [flatT] at this
                    | succ d => rw [flatT] at this; split at this <;> first | exact ⟨_, by assumption⟩ | cases this
                  obtain ⟨de, hde⟩ := hdesc
                  have hsz2 := hsz.2
                  rw [hde] at hsz2
                  have hsi : (sizeOf f.type).run P w = .ok i.size w := by simp [sizeOf, typeInfo, hi]
                  unfold part
                  simp only [Sem.run_bind, isAgg, run_underlying hde, Result.andThen_ok, Sem.run_pure]
                  cases de <;> simp only [packB, hde, Bool.false_eq_true, if_false, if_true, Sem.run_bind, hsi, Result.andThen_ok, Sem.run_pure]
                  case struct fs' =>
                    congr 2
                    apply Array.ext'
                    rw [ex, ho', hsz.1, ← l0, ← la]
                    simp
                  case array n e =>
                    cases d with
                    | zero => simp [flatT] at hlf
                    | succ d => rw [flatT, hde] at hlf; cases hlf
                  all_goals
                    have h1 : lf.length = 1 := by simpa using hsz2
                    have h2 : ∃ v, xa = [v] := by
                      cases xa with
                      | nil => simp at la; omega
                      | cons v r => cases r with
                        | nil => exact ⟨v, rfl⟩
                        | cons => simp at la; omega
                    obtain ⟨v, rfl⟩ := h2
                    have h3 : xs.toArray[f.offset]? = some v := by
                      rw [ex, ho', ← l0]; simp
                    rw [h3]
                    simp
                rw [Op.eqFields, if_pos hn']
                simp only [Sem.run_bind, hpart vs v0 va vb (by rw [ev]) lv hlen.1, hpart us u0 ua ub (by rw [eu]) lu hlen.2, Result.andThen_ok]
                rw [equalIn_flat d f.type lf va ua D (by omega) hlf i1 w]
                simp only [Result.andThen_ok]
                rw [eqSs_append (by rw [hlen.1, hlen.2])]
                cases hq : eqSs va ua with
                | false => simp
                | true =>
                  simp only [Bool.not_true, Bool.false_eq_true, if_false, Bool.true_and]
                  exact ih (off + lf.length) l2 (v0 ++ va) (u0 ++ ua) vb ub hl2 (by rw [ev, List.append_assoc]) (by rw [eu, List.append_assoc]) (by simp [lv, hlen.1]) (by simp [lu, hlen.2]) i2
              · cases hl
            · cases hl
        exact key fs.toList 0 l [] [] vs us h rfl rfl rfl rfl hs
    · cases h
end Go.Pv
/-! Operations that compute from their operands alone. -/
namespace Go.Pv
variable {P : Program} {cx : Cx} {m m' : Mp} {st st' : St} {a : Act} {w w' : World} {R : Type}
theorem bind_some {α β : Type} {o : Option α} {f : α → Option β} {r : β} (h : o.bind f = some r) : ∃ x, o = some x ∧ f x = some r := by
  cases o with
  | none => cases h
  | some x => exact ⟨x, rfl, h⟩
theorem ba_append (s t : List UInt8) : (ByteArray.mk s.toArray) ++ (ByteArray.mk t.toArray) = ByteArray.mk (s ++ t).toArray := by
  apply ByteArray.ext
  simp [ByteArray.data_append]
theorem ba_size (s : List UInt8) : (ByteArray.mk s.toArray).size = s.length := by
  have : (ByteArray.mk s.toArray).size = s.toArray.size := rfl
  simp [this]
theorem apd_spec {α : Type} {xs ys zs : List α} (h : apd xs ys = some zs) : zs = xs ++ ys ∧ xs.length + ys.length ≤ LIM := by
  unfold apd at h
  split at h
  · rename_i hl; exact ⟨(Option.some.inj h).symm, hl⟩
  · cases h
theorem idx_spec {α : Type} {xs : List α} {i : Int} {x : α} (h : idx xs i = some x) : 0 ≤ i ∧ i < xs.length ∧ xs[i.toNat]? = some x := by
  unfold idx at h
  split at h
  · rename_i h0
    have := (List.getElem?_eq_some_iff.1 h).1
    exact ⟨h0, by omega, h⟩
  · cases h
/-- A value that a guard on '==' lets by. -/
def plainV : Value → Bool
  | .nilIface | .agg _ => false
  | _ => true
theorem run_eqGuard {op : BinOp} {t : TypeId} {x y : Operand} {va vb : Value} (h : plainV va = true) (w : World) : (eqGuard op t x y va vb).run P w = .ok () w := by
  unfold eqGuard
  cases op <;> simp <;> cases va <;> first | rfl | (simp [plainV] at h)
theorem run_binOp_of {o : Oper} {op : BinOp} {t t' : TypeId} {x y : Operand} {cv : Value} (ho : o.op = .binOp op t x y t') (hp : plainV (a.eval x) = true)
    (hr : ∀ w'', (binOp op t (a.eval x) (a.eval y)).run P w'' = .ok cv w'') (w'' : World) : (execOp a.eval o).run P w'' = .ok (.value cv) w'' := by
  simp [execOp, ho, run_eqGuard hp, hr]
theorem binK_sound {eq : Option Ty} {op : BinOp} {t : TypeId} {x y : C} {vx vy : Value} {k : C → Option R} {r : R} (h : binK eq op x y k = some r) (hE : eq = some .bool → P.underlying t = some .bool) (hx : CR cx m w x vx) (hy : CR cx m w y vy) :
    ∃ z cv, k z = some r ∧ CR cx m w z cv ∧ (∀ n, z.lt n) ∧ plainV vx = true ∧ ∀ w'', (binOp op t vx vy).run P w'' = .ok cv w'' := by
  have fin_int : ∀ {q : IntKind} {n : Int}, CR cx m w (intC q n) (.int q n) := fun {q n} => by simp [intC, CR, RV]
  have fin_bool : ∀ {b : Bool}, CR cx m w (boolC b) (.bool b) := fun {b} => by simp [boolC, CR, RV]
  cases op
  case add =>
    simp only [binK] at h
    split at h
    · rename_i q p q' p'
      have e1 := CR_int hx; have e2 := CR_int hy; subst e1; subst e2
      split at h
      · rename_i e; subst e
        exact ⟨_, _, h, fin_int, fun _ => trivial, rfl, fun w'' => by simp [binOp, Op.intArith]⟩
      · cases h
    · rename_i s s'
      have e1 := CR_str hx; have e2 := CR_str hy; subst e1; subst e2
      obtain ⟨z, h1, h2⟩ := bind_some h
      obtain ⟨rfl, h3⟩ := apd_spec h1
      refine ⟨_, _, h2, (by simp [CR, RV] : CR cx m w (.val .str (s ++ s')) (.string ⟨(s ++ s').toArray⟩)), fun _ => trivial, rfl, fun w'' => ?_⟩
      have h4 : ¬ ((s.length : Int) + (s'.length : Int) > IntKind.i64.max) := by
        have : IntKind.i64.max = 9223372036854775807 := rfl
        rw [this]; unfold LIM at h3; omega
      simp only [binOp, Op.stringOp, ba_size, ba_append]
      rw [if_neg (by simpa using h4)]
      rfl
    · cases h
  case sub =>
    simp only [binK] at h
    split at h
    · rename_i q p q' p'
      have e1 := CR_int hx; have e2 := CR_int hy; subst e1; subst e2
      split at h
      · rename_i e; subst e
        exact ⟨_, _, h, fin_int, fun _ => trivial, rfl, fun w'' => by simp [binOp, Op.intArith]⟩
      · cases h
    · cases h
  case mul =>
    simp only [binK] at h
    split at h
    · rename_i q p q' p'
      have e1 := CR_int hx; have e2 := CR_int hy; subst e1; subst e2
      split at h
      · rename_i e; subst e
        exact ⟨_, _, h, fin_int, fun _ => trivial, rfl, fun w'' => by simp [binOp, Op.intArith]⟩
      · cases h
    · cases h
  case quo =>
    simp only [binK] at h
    split at h
    · rename_i q p q' p'
      have e1 := CR_int hx; have e2 := CR_int hy; subst e1; subst e2
      split at h
      · rename_i e; subst e
        obtain ⟨z, h1, h2⟩ := bind_some h
        unfold quoK at h1
        split at h1
        · cases h1
        · rename_i h0
          cases h1
          exact ⟨_, _, h2, fin_int, fun _ => trivial, rfl, fun w'' => by simp [binOp, Op.intDiv, h0]⟩
      · cases h
    · cases h
  case rem =>
    simp only [binK] at h
    split at h
    · rename_i q p q' p'
      have e1 := CR_int hx; have e2 := CR_int hy; subst e1; subst e2
      split at h
      · rename_i e; subst e
        obtain ⟨z, h1, h2⟩ := bind_some h
        unfold remK at h1
        split at h1
        · cases h1
        · rename_i h0
          cases h1
          exact ⟨_, _, h2, fin_int, fun _ => trivial, rfl, fun w'' => by simp [binOp, Op.intDiv, h0]⟩
      · cases h
    · cases h
  case shl =>
    simp only [binK] at h
    split at h
    · rename_i q p q' p'
      have e1 := CR_int hx; have e2 := CR_int hy; subst e1; subst e2
      obtain ⟨z, h1, h2⟩ := bind_some h
      unfold shlK at h1
      split at h1
      · cases h1
      · rename_i h0
        cases h1
        exact ⟨_, _, h2, fin_int, fun _ => trivial, rfl, fun w'' => by simp [binOp, Op.shift, h0]⟩
    · cases h
  case shr =>
    simp only [binK] at h
    split at h
    · rename_i q p q' p'
      have e1 := CR_int hx; have e2 := CR_int hy; subst e1; subst e2
      obtain ⟨z, h1, h2⟩ := bind_some h
      unfold shrK at h1
      split at h1
      · cases h1
      · rename_i h0
        cases h1
        exact ⟨_, _, h2, fin_int, fun _ => trivial, rfl, fun w'' => by simp [binOp, Op.shift, h0]⟩
    · cases h
  case and =>
    simp only [binK] at h
    split at h
    · rename_i q p q' p'
      have e1 := CR_int hx; have e2 := CR_int hy; subst e1; subst e2
      split at h
      · rename_i e; subst e
        exact ⟨_, _, h, fin_int, fun _ => trivial, rfl, fun w'' => by simp [binOp, Op.intBits, bitsK]⟩
      · cases h
    · cases h
  case or =>
    simp only [binK] at h
    split at h
    · rename_i q p q' p'
      have e1 := CR_int hx; have e2 := CR_int hy; subst e1; subst e2
      split at h
      · rename_i e; subst e
        exact ⟨_, _, h, fin_int, fun _ => trivial, rfl, fun w'' => by simp [binOp, Op.intBits, bitsK]⟩
      · cases h
    · cases h
  case xor =>
    simp only [binK] at h
    split at h
    · rename_i q p q' p'
      have e1 := CR_int hx; have e2 := CR_int hy; subst e1; subst e2
      split at h
      · rename_i e; subst e
        exact ⟨_, _, h, fin_int, fun _ => trivial, rfl, fun w'' => by simp [binOp, Op.intBits, bitsK]⟩
      · cases h
    · cases h
  case andNot =>
    simp only [binK] at h
    split at h
    · rename_i q p q' p'
      have e1 := CR_int hx; have e2 := CR_int hy; subst e1; subst e2
      split at h
      · rename_i e; subst e
        exact ⟨_, _, h, fin_int, fun _ => trivial, rfl, fun w'' => by simp [binOp, Op.intBits, bitsK]⟩
      · cases h
    · cases h
  all_goals
    simp only [binK] at h
    split at h
    · rename_i q p q' p'
      have e1 := CR_int hx; have e2 := CR_int hy; subst e1; subst e2
      split at h
      · rename_i e; subst e
        simp only [cmpI] at h
        exact ⟨_, _, h, fin_bool, fun _ => trivial, rfl, fun w'' => by simp [binOp, Op.intCmp]⟩
      · cases h
    · rename_i s s'
      have e1 := CR_str hx; have e2 := CR_str hy; subst e1; subst e2
      exact ⟨_, _, h, fin_bool, fun _ => trivial, rfl, fun w'' => by simp [binOp, Op.stringOp, toList_mk, strLt]⟩
    · rename_i b b'
      have e1 := CR_bool hx; have e2 := CR_bool hy; subst e1; subst e2
      by_cases hq : eq = some .bool
      · have hu := hE hq
        subst hq
        first
          | (cases h; done)
          | exact ⟨_, _, h, fin_bool, fun _ => trivial, rfl, fun w'' => by simp [binOp, Op.equal, Op.maxDepth, run_equalIn_bool w'' 9999 t b b' hu]⟩
      · exfalso
        first | (cases h; done) | split at h
        all_goals first
          | (exact hq rfl)
          | (exact hq (by assumption))
          | (cases h; done)
          | (rename_i h1 _; cases h1; done)
          | (simp_all; done)
    · cases h
end Go.Pv
namespace Go.Pv
variable {P : Program} {cx : Cx} {m m' : Mp} {st st' : St} {a : Act} {w w' : World} {R : Type}
/-! ### Rows of cells -/
theorem CRs.drop {cs : List C} {vs : List Value} (h : CRs cx m w cs vs) : ∀ n, CRs cx m w (cs.drop n) (vs.drop n) := by
  induction h with
  | nil => intro n; simp; exact .nil
  | cons h1 h2 ih => intro n; cases n with
    | zero => simpa using .cons h1 h2
    | succ n => simpa using ih n
theorem CRs.take {cs : List C} {vs : List Value} (h : CRs cx m w cs vs) : ∀ n, CRs cx m w (cs.take n) (vs.take n) := by
  induction h with
  | nil => intro n; simp; exact .nil
  | cons h1 h2 ih => intro n; cases n with
    | zero => simp; exact .nil
    | succ n => simpa using .cons h1 (ih n)
theorem subCs_spec : ∀ {cs ds : List C} {off n : Nat}, subCs cs off n = some ds → ds = (cs.drop off).take n ∧ off + n ≤ cs.length ∨ off = 0 ∧ n = 0 ∧ ds = []
  | cs, ds, 0, 0, h => by cases cs <;> (simp only [subCs, Option.some.injEq] at h; exact .inr ⟨rfl, rfl, h.symm⟩)
  | c :: cs, ds, 0, n + 1, h => by
    simp only [subCs] at h
    split at h
    · rename_i r hr
      cases h
      rcases subCs_spec hr with ⟨h1, h2⟩ | ⟨_, h2, h3⟩
      · left; simp at h1 ⊢; exact ⟨h1, by omega⟩
      · left; subst h2; subst h3; simp
    · cases h
  | c :: cs, ds, off + 1, n, h => by
    simp only [subCs] at h
    rcases subCs_spec h with ⟨h1, h2⟩ | ⟨h1, h2, h3⟩
    · left; simp; exact ⟨h1, by omega⟩
    · left; subst h1; subst h2; subst h3; simp
  | [], ds, 0, n + 1, h => by simp [subCs] at h
  | [], ds, off + 1, n, h => by simp [subCs] at h
theorem CR_one {c : C} {v : Value} (h : CR cx m w c v) (hu : c ≠ .und) : v.oneCell' = true := by
  cases c with
  | val t x => exact RV_one h v (by simp)
  | lit b => simp only [CR] at h; subst h; rfl
  | nil => simp only [CR] at h; subst h; rfl
  | nmap => simp only [CR] at h; subst h; rfl
  | ref id => exact h.2
  | ptr b off => simp only [CR] at h; subst h; rfl
  | iptr t x => obtain ⟨b, off, es, rfl, _⟩ := h; rfl
  | sptr id t i off => obtain ⟨g, n, cap, _, _, _, rfl⟩ := h; rfl
  | aptr b off t n i => obtain ⟨_, _, rfl⟩ := h; rfl
  | fn f caps => simp only [CR] at h; subst h; rfl
  | nptr => simp only [CR] at h; subst h; rfl
  | und => exact absurd rfl hu
theorem CR_cells {c : C} {v : Value} (h : CR cx m w c v) : v.cells = #[v] := by
  by_cases hu : c = .und
  · subst hu; simp only [CR] at h; subst h; rfl
  · have := CR_one h hu
    cases v <;> first | rfl | (simp [Value.oneCell'] at this)
theorem VR1_cells {g : Bool} {cs : List C} {v : Value} (h : VR1 cx m w g cs v) : CRs cx m w cs v.cells.toList := by
  cases g with
  | true => obtain ⟨vs, rfl, h1⟩ := h; simpa [Value.cells] using h1
  | false => obtain ⟨c, rfl, h1⟩ := h; rw [CR_cells h1]; exact .cons h1 .nil
/-! ### Parts of a struct -/
theorem run_sizeOf' {t : TypeId} {i : TypeInfo} (h : P.info? t = some i) (w : World) : (sizeOf t).run P w = .ok i.size w := by simp [sizeOf, typeInfo, h]
theorem ag_false_size : ∀ {t : Ty}, t.ag = false → t.size = 1
  | .int _, _ | .bool, _ | .str, _ | .sl _, _ | .map _ _, _ => rfl
  | .unit, h => by simp [Ty.ag] at h
  | .one _, h => by simp [Ty.ag] at h
  | .pair _ _, h => by simp [Ty.ag] at h
theorem part_sound {t : TypeId} {tf : Ty} (ht : tyB P t tf = true) {cs ds : List C} {vs : List Value} {off : Nat} (hc : CRs cx m w cs vs) (hs : subCs cs off tf.size = some ds) (h0 : tf.size ≠ 0) :
    ∃ v, (∀ w'', (part t vs.toArray off).run P w'' = .ok v w'') ∧ VR1 cx m w tf.ag ds v := by
  obtain ⟨i, d, z, ok⟩ := tyB_spec ht
  have hl : off + tf.size ≤ cs.length := by
    rcases subCs_spec hs with ⟨_, hl⟩ | ⟨_, h1, _⟩
    · exact hl
    · exact absurd h1 h0
  have hds : ds = (cs.drop off).take tf.size := by
    rcases subCs_spec hs with ⟨h1, _⟩ | ⟨_, h1, _⟩
    · exact h1
    · exact absurd h1 h0
  subst hds
  have hd := (hc.drop off).take tf.size
  have hag := ok.ag
  cases hg : tf.ag with
  | true =>
    rw [hg] at hag
    refine ⟨.agg ((vs.drop off).take tf.size).toArray, fun w'' => ?_, ⟨_, rfl, hd⟩⟩
    unfold part
    have hb : (isAgg t).run P w'' = .ok true w'' := by
      simp only [isAgg, Sem.run_bind, run_underlying ok.under, Result.andThen_ok]
      cases d <;> first | rfl | (simp [aggD] at hag)
    simp only [Sem.run_bind, hb, Result.andThen_ok, if_true, run_sizeOf' ok.info, Sem.run_pure, ok.size]
    congr 2
    apply Array.ext'
    simp [List.drop_take]
  | false =>
    rw [hg] at hag
    have h1 := ag_false_size hg
    have hlen := hc.length
    have hget : ∃ v, vs[off]? = some v := ⟨vs[off]'(by omega), List.getElem?_eq_getElem (by omega)⟩
    obtain ⟨v, hv⟩ := hget
    have e1 : (vs.drop off).take tf.size = [v] := by
      rw [h1]
      rw [List.take_one]
      simp [List.head?_drop, hv]
    rw [e1] at hd
    generalize hds : (cs.drop off).take tf.size = ds at hd
    refine ⟨v, fun w'' => ?_, ?_⟩
    · unfold part
      have hb : (isAgg t).run P w'' = .ok false w'' := by
        simp only [isAgg, Sem.run_bind, run_underlying ok.under, Result.andThen_ok]
        cases d <;> first | rfl | (simp [aggD] at hag)
      simp only [Sem.run_bind, hb, Result.andThen_ok, Bool.false_eq_true, if_false]
      rw [List.getElem?_toArray, hv]
      rfl
    · cases hd with
      | cons a1 a2 => cases a2; exact ⟨_, rfl, a1⟩
/-! ### Putting parts together -/
theorem put_fold : ∀ (ds : List Value) (k off : Nat) (cells : Array Value),
    (ds.zipIdx k).foldl (fun cs (c, j) => cs.setIfInBounds (off + j) c) cells = (ds.zipIdx 0).foldl (fun cs (c, j) => cs.setIfInBounds (off + k + j) c) cells
  | [], _, _, _ => rfl
  | d :: ds, k, off, cells => by
    simp only [List.zipIdx_cons, List.foldl_cons, Nat.add_zero, Nat.zero_add]
    rw [put_fold ds (k + 1) off, put_fold ds 1 (off + k)]
    simp [Nat.add_assoc]
theorem putCs_zero : ∀ {cs ds rs : List C} {vs us : List Value} {off : Nat}, putCs cs off ds = some rs → CRs cx m w cs vs → CRs cx m w ds us →
    CRs cx m w rs (us.zipIdx.foldl (fun cs (c, j) => cs.setIfInBounds (off + j) c) vs.toArray).toList ∧ off + us.length ≤ vs.length ∨ us = [] ∧ CRs cx m w rs vs
  | cs, [], rs, vs, us, off, h, hc, hd => by
    cases hd
    have : putCs cs off [] = some cs := by cases cs <;> cases off <;> rfl
    rw [this] at h; cases h
    exact .inr ⟨rfl, hc⟩
  | c :: cs, d :: ds, rs, _, _, 0, h, .cons h1 h2, .cons h3 h4 => by
    rename_i v vs u us
    simp only [putCs] at h
    split at h
    · rename_i r hr
      cases h
      left
      rcases putCs_zero hr h2 h4 with ⟨i1, i2⟩ | ⟨rfl, i1⟩
      · refine ⟨?_, by simp at i2 ⊢; omega⟩
        rw [List.zipIdx_cons, List.foldl_cons, put_fold us (0 + 1) 0]
        have key : ∀ (l : List (Value × Nat)) (x : Value) (ys : List Value), (l.foldl (fun cs (c, j) => cs.setIfInBounds (0 + 1 + j) c) (x :: ys).toArray).toList = x :: (l.foldl (fun cs (c, j) => cs.setIfInBounds (0 + j) c) ys.toArray).toList := by
          intro l
          induction l with
          | nil => intro x ys; rfl
          | cons p l ih =>
            intro x ys
            simp only [List.foldl_cons]
            have : ((x :: ys).toArray.setIfInBounds (0 + 1 + p.2) p.1) = (x :: (ys.toArray.setIfInBounds (0 + p.2) p.1).toList).toArray := by
              apply Array.ext'; simp [Nat.add_comm 1 p.2]
            rw [this, ih]
        have e : (v :: vs).toArray.setIfInBounds (0 + 0) u = (u :: vs).toArray := by apply Array.ext'; simp
        simp only [e]
        rw [show (0 + (0 + 1) : Nat) = 0 + 1 from rfl, key]
        exact .cons h3 i1
      · refine ⟨?_, by simp⟩
        simp only [List.zipIdx_cons, List.foldl_cons, List.zipIdx_nil, List.foldl_nil, Nat.add_zero]
        have e : (v :: vs).toArray.setIfInBounds 0 u = (u :: vs).toArray := by apply Array.ext'; simp
        rw [e]
        exact .cons h3 i1
    · cases h
  | c :: cs, d :: ds, rs, _, _, n + 1, h, .cons h1 h2, .cons h3 h4 => by
    rename_i v vs u us
    simp only [putCs] at h
    split at h
    · rename_i r hr
      cases h
      left
      rcases putCs_zero hr h2 (.cons h3 h4) with ⟨i1, i2⟩ | ⟨i1, _⟩
      · refine ⟨?_, by simp at i2 ⊢; omega⟩
        have key : ∀ (l : List (Value × Nat)) (x : Value) (ys : List Value), (l.foldl (fun cs (c, j) => cs.setIfInBounds (n + 1 + j) c) (x :: ys).toArray).toList = x :: (l.foldl (fun cs (c, j) => cs.setIfInBounds (n + j) c) ys.toArray).toList := by
          intro l
          induction l with
          | nil => intro x ys; rfl
          | cons p l ih =>
            intro x ys
            simp only [List.foldl_cons]
            have : ((x :: ys).toArray.setIfInBounds (n + 1 + p.2) p.1) = (x :: (ys.toArray.setIfInBounds (n + p.2) p.1).toList).toArray := by
              apply Array.ext'
              rw [show n + 1 + p.2 = n + p.2 + 1 by omega]
              simp
            rw [this, ih]
        rw [key]
        exact .cons h1 i1
      · cases i1
    · cases h
  | [], d :: ds, rs, _, _, 0, h, _, _ => by simp [putCs] at h
  | [], d :: ds, rs, _, _, n + 1, h, _, _ => by simp [putCs] at h
theorem fill_sound (h : Rel cx m st a w) {fl : List (Nat × Ty)} {place : Nat → Option (Nat × Nat)} (hp : ∀ j off t, fl[j]? = some (off, t) → place j = some (off, t.size) ∧ t.size ≠ 0) :
    ∀ {parts : List (Nat × Operand)} {cs rs : List C} {vs : List Value}, fill st fl parts cs = some rs → CRs cx m w cs vs → (∀ c ∈ cs, c.lt st.n) →
    ∃ us, Instr.fill place vs.toArray (parts.map fun (i, x) => (i, a.eval x)) = some us.toArray ∧ CRs cx m w rs us ∧ ∀ c ∈ rs, c.lt st.n
  | [], cs, rs, vs, hf, hc, hl => by
    simp only [fill, Option.some.injEq] at hf
    subst hf
    exact ⟨vs, rfl, hc, hl⟩
  | (j, x) :: r, cs, rs, vs, hf, hc, hl => by
    simp only [fill] at hf
    split at hf
    · rename_i off t hj
      split at hf
      · rename_i g ds hx
        split at hf
        · rename_i hlen
          split at hf
          · rename_i cs' hput
            obtain ⟨hv, hlt⟩ := opd_sound h hx
            have hcells := VR1_cells hv
            have hlen' : ds.length = t.size := Nat.eq_of_beq_eq_true hlen
            have hl1 := hcells.length
            have hput' := putCs_zero hput hc hcells
            have hsz : (a.eval x).cells.size = t.size := by rw [← hlen', hl1]; simp
            have hlt' : ∀ c ∈ cs', c.lt st.n := by
              have key : ∀ {cs ds rs : List C} {off : Nat}, putCs cs off ds = some rs → (∀ c ∈ cs, c.lt st.n) → (∀ c ∈ ds, c.lt st.n) → ∀ c ∈ rs, c.lt st.n := by
                intro cs
                induction cs with
                | nil => intro ds rs off hp h1 h2; cases ds with
                  | nil => simp only [putCs, Option.some.injEq] at hp; subst hp; exact h1
                  | cons d ds => cases off <;> simp [putCs] at hp
                | cons c cs ih =>
                  intro ds rs off hp h1 h2
                  cases ds with
                  | nil => have : putCs (c :: cs) off [] = some (c :: cs) := by cases off <;> rfl
                           rw [this] at hp; cases hp; exact h1
                  | cons d ds =>
                    cases off with
                    | zero =>
                      simp only [putCs] at hp
                      split at hp
                      · rename_i r' hr'; cases hp
                        intro c' hc'
                        rcases List.mem_cons.1 hc' with rfl | hc'
                        · exact h2 _ (by simp)
                        · exact ih hr' (fun c hc => h1 c (by simp [hc])) (fun c hc => h2 c (by simp [hc])) c' hc'
                      · cases hp
                    | succ off =>
                      simp only [putCs] at hp
                      split at hp
                      · rename_i r' hr'; cases hp
                        intro c' hc'
                        rcases List.mem_cons.1 hc' with rfl | hc'
                        · exact h1 _ (by simp)
                        · exact ih hr' (fun c hc => h1 c (by simp [hc])) h2 c' hc'
                      · cases hp
              exact key hput hl hlt
            rcases hput' with ⟨p1, p2⟩ | ⟨p1, p2⟩
            · obtain ⟨us, f1, f2⟩ := fill_sound h hp hf p1 hlt'
              refine ⟨us, ?_, f2⟩
              simp only [List.map_cons, Instr.fill, (hp j off t hj).1]
              rw [if_neg]
              · simp only [Array.toArray_toList] at f1
                rw [← f1]
                congr 1
                rw [← Array.foldl_toList, Array.toList_zipIdx]
              · simp only [Array.length_toList] at p2
                simp [hsz]
                simp [hsz] at p2
                exact p2
            · have hz : t.size = 0 := by rw [← hsz, ← Array.length_toList, p1]; rfl
              exact absurd hz (hp j off t hj).2
          · cases hf
        · cases hf
      · cases hf
    · cases hf
end Go.Pv
namespace Go.Pv
variable {P : Program} {cx : Cx} {m m' : Mp} {st st' : St} {a : Act} {w w' : World} {R : Type}
/-- It answers as an operation that computes. -/
def PureAns (P : Program) (o : Oper) (cx : Cx) (m : Mp) (st : St) (a : Act) (w : World) (k : V → St → Option R) (r : R) : Prop :=
  ∃ cv v st' m', PureOk P o cx m st a w k r cv v st' m'
theorem PureAns.mk0 {o : Oper} {k : V → St → Option R} {r : R} {cv : Value} {v : V} (h : Rel cx m st a w) (hk : k v st = some r) (hv : VR cx m w v cv) (hl : v.lt st.n)
    (hr : ∀ w'', (execOp a.eval o).run P w'' = .ok (.value cv) w'') : PureAns P o cx m st a w k r := ⟨_, _, _, _, .mk0 h hk hv hl hr⟩
theorem pure_move {o : Oper} {x : Operand} {k : V → St → Option R} {r : R} (h : Rel cx m st a w) (ho : o.op = .move x ∨ o.op = .assign x)
    (hk : (match opd st x with | some v => k v st | none => none) = some r) : PureAns P o cx m st a w k r := by
  split at hk
  · rename_i v hv
    obtain ⟨h1, h2⟩ := opd_sound h hv
    exact .mk0 h hk h1 h2 fun w'' => by rcases ho with ho | ho <;> simp [execOp, ho]
  · cases hk
theorem pure_nilCheck {o : Oper} {x : Operand} {k : V → St → Option R} {r : R} (h : Rel cx m st a w) (ho : o.op = .nilCheck x)
    (hk : (match opd1 st x with
    | some (.ptr b off) => k (one (.ptr b off)) st
    | some (.iptr t y) => k (one (.iptr t y)) st
    | some (.sptr id t i off) => k (one (.sptr id t i off)) st
    | some (.aptr b off t n i) => k (one (.aptr b off t n i)) st
    | some (.fn f caps) => k (one (.fn f caps)) st
    | _ => none) = some r) : PureAns P o cx m st a w k r := by
  split at hk
  · rename_i b off hx
    obtain ⟨h1, h2⟩ := opd1_sound h hx
    refine .mk0 h hk (VR_one h1) (one_lt h2) fun w'' => ?_
    simp only [CR] at h1
    simp [execOp, ho, h1]
  · rename_i t y hx
    obtain ⟨h1, h2⟩ := opd1_sound h hx
    refine .mk0 h hk (VR_one h1) (one_lt h2) fun w'' => ?_
    obtain ⟨b, off, es, e, _⟩ := h1
    simp [execOp, ho, e]
  · rename_i id t i off hx
    obtain ⟨h1, h2⟩ := opd1_sound h hx
    refine .mk0 h hk (VR_one h1) (one_lt h2) fun w'' => ?_
    obtain ⟨g, n, cap, _, _, _, e⟩ := h1
    simp [execOp, ho, e]
  · rename_i b off t n i hx
    obtain ⟨h1, h2⟩ := opd1_sound h hx
    refine .mk0 h hk (VR_one h1) (one_lt h2) fun w'' => ?_
    obtain ⟨_, _, e⟩ := h1
    simp [execOp, ho, e]
  · rename_i f caps hx
    obtain ⟨h1, h2⟩ := opd1_sound h hx
    refine .mk0 h hk (VR_one h1) (one_lt h2) fun w'' => ?_
    simp only [CR] at h1
    simp [execOp, ho, h1]
  · cases hk
theorem run_pick {o : Oper} {c x y : Operand} {b : Bool} (ho : o.op = .pick c x y) (hc : a.eval c = .bool b) (w'' : World) :
    (execOp a.eval o).run P w'' = .ok (.value (if b then a.eval x else a.eval y)) w'' := by
  simp [execOp, ho, hc, asBool]
theorem pure_pick {o : Oper} {c x y : Operand} {k : V → St → Option R} {r : R} (h : Rel cx m st a w) (ho : o.op = .pick c x y)
    (hk : (match opd1 st c with
    | some (.lit true) => match opd st x with | some v => k v st | none => none
    | some (.lit false) => match opd st y with | some v => k v st | none => none
    | some (.val .bool q) => match opd1 st x, opd1 st y with
      | some (.val .bool x), some (.val .bool y) => k (one (boolC (bcase q x y))) st
      | _, _ => none
    | _ => none) = some r) : PureAns P o cx m st a w k r := by
  split at hk
  · rename_i hc
    obtain ⟨h1, _⟩ := opd1_sound h hc
    simp only [CR] at h1
    split at hk
    · rename_i v hv
      obtain ⟨h3, h4⟩ := opd_sound h hv
      exact .mk0 h hk h3 h4 fun w'' => by rw [run_pick ho h1]; rfl
    · cases hk
  · rename_i hc
    obtain ⟨h1, _⟩ := opd1_sound h hc
    simp only [CR] at h1
    split at hk
    · rename_i v hv
      obtain ⟨h3, h4⟩ := opd_sound h hv
      exact .mk0 h hk h3 h4 fun w'' => by rw [run_pick ho h1]; rfl
    · cases hk
  · rename_i q hc
    obtain ⟨h1, _⟩ := opd1_sound h hc
    have h1 := CR_bool h1
    split at hk
    · rename_i bx bY hx hy
      have e1 := CR_bool (opd1_sound h hx).1
      have e2 := CR_bool (opd1_sound h hy).1
      refine .mk0 (cv := .bool (bcase q bx bY)) h hk (VR_one (by simp [boolC, CR, RV])) (one_lt trivial) fun w'' => ?_
      rw [run_pick ho h1, e1, e2]
      cases q <;> rfl
    · cases hk
  · cases hk
theorem pure_un {o : Oper} {op : UnOp} {T : TypeId} {x : Operand} {k : V → St → Option R} {r : R} (h : Rel cx m st a w) (ho : o.op = .unOp op T x)
    (hk : (match opd1 st x with
    | some c => match unK op c with | some d => k (one d) st | none => none
    | none => none) = some r) : PureAns P o cx m st a w k r := by
  split at hk
  · rename_i c hc
    obtain ⟨h1, _⟩ := opd1_sound h hc
    split at hk
    · rename_i d hd
      unfold unK at hd
      split at hd
      · cases hd
        have h1 := CR_int h1
        exact .mk0 h hk (VR_one (by simp [intC, CR, RV]; rfl)) (one_lt trivial) fun w'' => by simp [execOp, ho, h1, Op.unary, Op.intArith]
      · cases hd
        have h1 := CR_bool h1
        exact .mk0 h hk (VR_one (by simp [boolC, CR, RV]; rfl)) (one_lt trivial) fun w'' => by simp [execOp, ho, h1, Op.unary]
      · cases hd
    · cases hk
  · cases hk
theorem pure_bin {o : Oper} {op : BinOp} {t t' : TypeId} {x y : Operand} {tys : List (Nat × TI)} (ht : tysB P tys = true) {k : V → St → Option R} {r : R} (h : Rel cx m st a w) (ho : o.op = .binOp op t x y t')
    (hk : (match opd st x, opd st y with
    | some a, some b => binVK (match lk tys t with | some i => (match i.eq with | true => some i.t | false => none) | none => none) op a b fun v => k v st
    | _, _ => none) = some r) : PureAns P o cx m st a w k r := by
  have hE : ∀ T, (match lk tys t with | some i => (match i.eq with | true => some i.t | false => none) | none => none) = some T →
      flatT P 20 t = some (flatTy T) ∧ P.eqGuardType P.depth t = false ∧ tyB P t T = true := by
    intro T hl
    split at hl
    · rename_i i hi
      split at hl
      · rename_i he
        cases hl
        have hok := (tys_get ht hi).eq he
        unfold eqB at hok
        split at hok
        · rename_i l hf
          simp only [Bool.and_eq_true, decide_eq_true_eq, Bool.not_eq_true'] at hok
          exact ⟨by rw [hf, hok.1], hok.2, (tys_get ht hi).ty⟩
        · simp at hok
      · cases hl
    · cases hl
  generalize hq : (match lk tys t with | some i => (match i.eq with | true => some i.t | false => none) | none => none) = eq at hk hE
  split at hk
  · rename_i va vb hva hvb
    obtain ⟨h1, _⟩ := opd_sound h hva
    obtain ⟨h2, _⟩ := opd_sound h hvb
    unfold binVK at hk
    split at hk
    · obtain ⟨c, e1, h1⟩ := h1
      obtain ⟨d, e2, h2⟩ := h2
      cases e1; cases e2
      have hE' : eq = some .bool → P.underlying t = some .bool := by
        intro he
        obtain ⟨_, _, hty⟩ := hE _ he
        obtain ⟨ti, d, z, ok⟩ := tyB_spec hty
        have h3 := ok.kind
        have h5 := ok.ag
        rw [ok.under]
        cases d <;> simp [kindD] at h3 <;> simp [aggD, Ty.ag] at h5 ⊢
      obtain ⟨z, cv, hz, h3, h4, h5, h6⟩ := binK_sound (P := P) (t := t) hk hE' h1 h2
      exact .mk0 h hz (VR_one h3) (one_lt (h4 _)) (run_binOp_of ho h5 h6)
    · rename_i cs ds _ _
      obtain ⟨vs, e1, h1⟩ := h1
      obtain ⟨us, e2, h2⟩ := h2
      have key : ∀ T b, eq = some T → T.ag = true → eqCs (flatTy T) cs ds = some b → (∀ w'', (Op.equalIn 10000 t (.agg vs.toArray) (.agg us.toArray)).run P w'' = .ok b w'') ∧ P.eqGuardType P.depth t = false := by
        intro T b he hag hb
        obtain ⟨hf, hg, hty⟩ := hE T he
        obtain ⟨ti, d, z, ok⟩ := tyB_spec hty
        obtain ⟨s1, s2⟩ := eqCs_sound hb h1 h2
        refine ⟨fun w'' => ?_, hg⟩
        have h3 := equalIn_flat 20 t (flatTy T) vs us 10000 (by omega) hf s1 w''
        have hst : ∃ fs, P.underlying t = some (.struct fs) := by
          have h4 := ok.ag
          rw [hag] at h4
          rw [flatT, ok.under] at hf
          rw [ok.under]
          cases d <;> simp [aggD] at h4 hf ⊢
        obtain ⟨fs, hst⟩ := hst
        simp only [packB, hst] at h3
        rw [h3, s2]
      split at hk
      · split at hk
        · rename_i b hag hb
          obtain ⟨k1, k2⟩ := key _ b rfl hag hb
          refine .mk0 (cv := .bool b) h hk (VR_one (by simp [boolC, CR, RV])) (one_lt trivial) fun w'' => ?_
          simp only [execOp, ho, e1, e2, Sem.run_bind, run_eqGuard_agg w'' _ t x y _ _ k2, Result.andThen_ok, run_eql_struct, k1, Sem.run_pure]
        · cases hk
      · split at hk
        · rename_i b hag hb
          obtain ⟨k1, k2⟩ := key _ b rfl hag hb
          refine .mk0 (cv := .bool (!b)) h hk (VR_one (by simp [boolC, CR, RV])) (one_lt trivial) fun w'' => ?_
          simp only [execOp, ho, e1, e2, Sem.run_bind, run_eqGuard_agg w'' _ t x y _ _ k2, Result.andThen_ok, run_neq_struct, k1, Sem.run_pure]
        · cases hk
      · cases hk
    · cases hk
  · cases hk
end Go.Pv
