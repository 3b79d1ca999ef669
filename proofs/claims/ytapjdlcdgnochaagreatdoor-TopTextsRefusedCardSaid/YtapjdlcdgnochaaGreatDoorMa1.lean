/- An evaluator of plain data over the form of a program, and its soundness. -/
import GoSem.Core.Program
import GoSem.Op.String
import GoSem.Core.Region
import Derived.Control
import Derived.Calls
import Derived.Orders
import Derived.Wp
import Derived.Laws.World
set_option linter.unusedSectionVars false
set_option linter.unusedSimpArgs false
set_option linter.unusedVariables false

/- THE EVALUATOR: what a function of the dump answers, said over plain typed data; definitions alone. -/
namespace Mini
open Go

/-- the types of data -/
inductive Ty where
  | int (k : IntKind) | bool | str | err | sl (t : Ty) | unit | pair (a b : Ty) | arr (n : Nat) (t : Ty)

/-- the data of a type -/
def El : Ty → Type
  | .int _ => Int
  | .bool => Bool
  | .str => List UInt8
  | .err => Bool
  | .sl t => List (El t)
  | .unit => Unit
  | .pair a b => El a × El b
  | .arr _ t => List (El t)

/-- how many cells a type has -/
def Ty.size : Ty → Nat
  | .unit => 0
  | .pair a b => a.size + b.size
  | .arr n t => n * t.size
  | _ => 1

def Ty.isAgg : Ty → Bool
  | .unit => true
  | .pair _ _ => true
  | .arr _ _ => true
  | _ => false

def zero : (t : Ty) → El t
  | .int _ => (0 : Int)
  | .bool => false
  | .str => []
  | .err => true
  | .sl _ => []
  | .unit => ()
  | .pair a b => (zero a, zero b)
  | .arr n t => List.replicate n (zero t)

def Ty.eq? : (a b : Ty) → Option (PLift (a = b))
  | .int k, .int k' => if h : k = k' then some ⟨by rw [h]⟩ else none
  | .bool, .bool => some ⟨rfl⟩
  | .str, .str => some ⟨rfl⟩
  | .err, .err => some ⟨rfl⟩
  | .unit, .unit => some ⟨rfl⟩
  | .sl a, .sl b => match Ty.eq? a b with
    | some ⟨h⟩ => some ⟨by rw [h]⟩
    | none => none
  | .pair a b, .pair a' b' => match Ty.eq? a a', Ty.eq? b b' with
    | some ⟨h⟩, some ⟨h'⟩ => some ⟨by rw [h, h']⟩
    | _, _ => none
  | .arr n a, .arr m b => match Ty.eq? a b with
    | some ⟨h⟩ => if h' : n = m then some ⟨by rw [h, h']⟩ else none
    | none => none
  | _, _ => none

def castE {a b : Ty} (h : a = b) (x : El a) : El b := h ▸ x

/-- what may be done with a slice that the call made: all; to append and to read; nothing more -/
inductive Mode where | excl | shared | dead
instance : DecidableEq Mode := fun a b => by
  cases a <;> cases b <;> first | exact isTrue rfl | exact isFalse (by intro h; cases h)

/-- what a slot holds -/
inductive T where
  | dat (t : Ty) (x : El t)                 -- data
  | tup (l : List T)                        -- several results
  | agv (t : Ty) (l : List T)               -- an aggregate whose slices may be the call's own, cell by cell
  | nil                                     -- the nil slice
  | own (k : Nat)                           -- a slice that the call made: entry k
  | addr (i off : Nat)                      -- the address of a cell of box i
  | aptr (i off n : Nat) (u : Ty) (ix : Int)  -- the address of an element of an array in a box
  | rptr (t : Ty) (x : El t)                -- the address of data that nobody writes
  | eptr (k v : Nat) (i : Int) (off : Nat) (t : Ty) (x : El t)  -- the address of (a part of) an element of entry k, as it was at version v
  | clo (f : Nat) (caps : List (Nat × Nat)) -- a function with the addresses that it captured
  | cnd (s : Nat) (w : Bool) (v : T)        -- v, if slot s holds w
  | undef                                   -- nothing was laid there
  | unk

structure Gr where
  t : Ty
  xs : List (El t)
  md : Mode
  ver : Nat

/-- the boxes and the slices that the call made, by their keys -/
structure Mem where
  boxes : List (Nat × List T)
  gr : List (Nat × Gr)

def lk {α : Type} : List (Nat × α) → Nat → Option α
  | [], _ => none
  | (k, x) :: l, n => if k = n then some x else lk l n
def up {α : Type} : List (Nat × α) → Nat → (α → α) → List (Nat × α)
  | [], _, _ => []
  | (k, x) :: l, n, f => if k = n then (k, f x) :: l else (k, x) :: up l n f

def getT : List T → Nat → T
  | [], _ => .unk
  | x :: _, 0 => x
  | _ :: l, n + 1 => getT l n
def setT : List T → Nat → T → List T
  | [], _, _ => []
  | _ :: l, 0, v => v :: l
  | x :: l, n + 1, v => x :: setT l n v

def putT (tm : List T) (d : Option Nat) (v : T) : List T :=
  match d with
  | some d => setT tm d v
  | none => tm

/-- one of two, by a bool -/
def bsel {α : Sort _} (b : Bool) (x y : α) : α := if b = true then x else y
/-- whether a guard is met -/
def nt (b : Bool) : Bool := !b
def gd : Bool → Bool → Bool
  | true, y => y
  | false, y => !y

/-- the greatest length of a slice or string that is made here -/
def LIM : Nat := 4294967296

def rd {α : Type} (xs : List α) (i : Int) : Option α := if 0 ≤ i then xs[i.toNat]? else none
def subL {α : Type} (xs : List α) (lo hi : Int) : Option (List α) :=
  if 0 ≤ lo ∧ lo ≤ hi ∧ hi ≤ (xs.length : Int) then some ((xs.take hi.toNat).drop lo.toNat) else none
def catL {α : Type} (xs ys : List α) : Option (List α) := if xs.length + ys.length < LIM then some (xs ++ ys) else none
def repL {α : Type} (n : Int) (x : α) : Option (List α) := if 0 ≤ n ∧ n < (LIM : Int) then some (List.replicate n.toNat x) else none
def rdb (s : List UInt8) (i : Int) : Option Int := (rd s i).map fun b => (b.toNat : Int)

def within (i : Int) (n : Nat) : Bool := decide (0 ≤ i ∧ i < (n : Int))
def negI (k : IntKind) (n : Int) : Int := k.wrap (0 - n)

/-- the outcome of an operation: a value (and which entries become data by it); one that hangs on a value of a type; a new box; a new entry; a value and another memory; an entry in the place of another; one of two -/
inductive OpRes where
  | val (ks : List Nat) (v : T)
  | vpart (ks : List Nat) (τ : Ty) (x : Option (El τ)) (f : El τ → T)
  | newB (ks : List Nat) (cs : List T)
  | newG (ks : List Nat) (g : Gr)
  | gpart (ks : List Nat) (τ : Ty) (x : Option (El τ)) (f : El τ → Gr)
  | ok (v : T) (m : Mem)
  | anew (k : Nat) (τ : Ty) (x : Option (El τ)) (f : El τ → Gr)
  | part (τ : Ty) (x : Option (El τ)) (f : El τ → T × Mem)
  | alt (c : Bool) (r s : OpRes)
  | bad

/-- a cell (or an aggregate) as data of a type -/
def rdCell (gr : List (Nat × Gr)) (t : Ty) : T → Option (El t)
  | .dat t' x => match Ty.eq? t' t with
    | some ⟨h⟩ => some (castE h x)
    | none => none
  | .nil => match t with
    | .sl _ => some ([] : List _)
    | _ => none
  | .own k => match lk gr k with
    | some g => match g.md, Ty.eq? (.sl g.t) t with
      | .dead, _ => none
      | _, some ⟨h⟩ => some (castE h g.xs)
      | _, none => none
    | none => none
  | _ => none

def shareG : Gr → Gr
  | ⟨t, xs, .excl, v⟩ => ⟨t, xs, .shared, v⟩
  | g => g
/-- slices of the call's own become data that nobody writes -/
def shareKs (gr : List (Nat × Gr)) : List Nat → List (Nat × Gr)
  | [] => gr
  | k :: l => shareKs (up gr k shareG) l
/-- the entries among values -/
def ownsOf : List T → List Nat
  | [] => []
  | .own k :: l => k :: ownsOf l
  | _ :: l => ownsOf l

def asmN {α : Type} (one : List T → Option (α × List T)) : Nat → List T → Option (List α × List T)
  | 0, l => some ([], l)
  | n + 1, l => match one l with
    | some (x, l) => match asmN one n l with
      | some (xs, l) => some (x :: xs, l)
      | none => none
    | none => none

def asm1 (gr : List (Nat × Gr)) (t : Ty) : List T → Option (El t × List T)
  | [] => none
  | c :: l => match rdCell gr t c with
    | some x => some (x, l)
    | none => none
/-- the data that cells hold, and the cells behind them -/
def asm (gr : List (Nat × Gr)) : (t : Ty) → List T → Option (El t × List T)
  | .unit, l => some ((), l)
  | .pair a b, l => match asm gr a l with
    | some (x, l) => match asm gr b l with
      | some (y, l) => some ((x, y), l)
      | none => none
    | none => none
  | .arr n t, l => asmN (asm gr t) n l
  | .int k, l => asm1 gr (.int k) l
  | .bool, l => asm1 gr .bool l
  | .str, l => asm1 gr .str l
  | .err, l => asm1 gr .err l
  | .sl t, l => asm1 gr (.sl t) l

def expN {α : Type} (one : α → List T) (d : α) : Nat → List α → List T
  | 0, _ => []
  | n + 1, xs => one (xs.headD d) ++ expN one d n xs.tail
/-- data as cells -/
def expl : (t : Ty) → El t → List T
  | .unit, _ => []
  | .pair a b, x => expl a x.1 ++ expl b x.2
  | .arr n t, xs => expN (expl t) (zero t) n xs
  | .int k, x => [.dat (.int k) x]
  | .bool, x => [.dat .bool x]
  | .str, x => [.dat .str x]
  | .err, x => [.dat .err x]
  | .sl t, x => [.dat (.sl t) x]

def repT : Nat → List T → List T
  | 0, _ => []
  | n + 1, l => l ++ repT n l
/-- the cells of a new variable: its slices are nil -/
def expl0 : (t : Ty) → List T
  | .unit => []
  | .pair a b => expl0 a ++ expl0 b
  | .arr n t => repT n (expl0 t)
  | .sl _ => [.nil]
  | .int k => [.dat (.int k) (0 : Int)]
  | .bool => [.dat .bool false]
  | .str => [.dat .str []]
  | .err => [.dat .err true]

/-- the offset and the type of a field of a struct -/
def fieldTy : Ty → Nat → Option (Nat × Ty)
  | .pair a _, 0 => some (0, a)
  | .pair a b, n + 1 => match fieldTy b n with
    | some (o, t) => some (a.size + o, t)
    | none => none
  | _, _ => none
def fieldVal : (t : Ty) → El t → Nat → Option (Σ u : Ty, El u)
  | .pair a _, x, 0 => some ⟨a, x.1⟩
  | .pair _ b, x, n + 1 => fieldVal b x.2 n
  | _, _, _ => none
/-- a struct with another value in a field -/
def setField : (t : Ty) → El t → Nat → (u : Ty) → El u → Option (El t)
  | .pair a b, x, 0, u, y => match Ty.eq? u a with
    | some ⟨h⟩ => some ((castE h y, x.2) : El a × El b)
    | none => none
  | .pair a b, x, n + 1, u, y => match setField b x.2 n u y with
    | some z => some ((x.1, z) : El a × El b)
    | none => none
  | _, _, _, _, _ => none

def sub0 (t : Ty) (x : El t) (off : Nat) (u : Ty) : Option (El u) :=
  match off, Ty.eq? t u with
  | 0, some ⟨h⟩ => some (castE h x)
  | _, _ => none
/-- the part of a type that begins at a cell -/
def subVal : (t : Ty) → El t → Nat → (u : Ty) → Option (El u)
  | .pair a b, x, off, u => match sub0 (.pair a b) x off u with
    | some y => some y
    | none => if off < a.size then subVal a x.1 off u else subVal b x.2 (off - a.size) u
  | .int k, x, off, u => sub0 (.int k) x off u
  | .bool, x, off, u => sub0 .bool x off u
  | .str, x, off, u => sub0 .str x off u
  | .err, x, off, u => sub0 .err x off u
  | .sl t, x, off, u => sub0 (.sl t) x off u
  | .unit, x, off, u => sub0 .unit x off u
  | .arr n t, x, off, u => sub0 (.arr n t) x off u
def set0 (t : Ty) (off : Nat) (u : Ty) (y : El u) : Option (El t) :=
  match off, Ty.eq? u t with
  | 0, some ⟨h⟩ => some (castE h y)
  | _, _ => none
def setSub : (t : Ty) → El t → Nat → (u : Ty) → El u → Option (El t)
  | .pair a b, x, off, u, y => match set0 (.pair a b) off u y with
    | some z => some z
    | none => if off < a.size then
        (match setSub a x.1 off u y with
        | some z => some ((z, x.2) : El a × El b)
        | none => none)
      else match setSub b x.2 (off - a.size) u y with
        | some z => some ((x.1, z) : El a × El b)
        | none => none
  | .int k, _, off, u, y => set0 (.int k) off u y
  | .bool, _, off, u, y => set0 .bool off u y
  | .str, _, off, u, y => set0 .str off u y
  | .err, _, off, u, y => set0 .err off u y
  | .sl t, _, off, u, y => set0 (.sl t) off u y
  | .unit, _, off, u, y => set0 .unit off u y
  | .arr n t, _, off, u, y => set0 (.arr n t) off u y

def eqI (x y : Int) : Bool := decide (x = y)
def eqB (x y : Bool) : Bool := x == y
def eqS (x y : List UInt8) : Bool := decide (x = y)
/-- whether two data are the same -/
def eqN {α : Type} (one : α → α → Bool) : List α → List α → Bool
  | [], [] => true
  | x :: xs, y :: ys => one x y && eqN one xs ys
  | _, _ => false
def eqEl : (t : Ty) → El t → El t → Option Bool
  | .int _, x, y => some (eqI x y)
  | .bool, x, y => some (eqB x y)
  | .str, x, y => some (eqS x y)
  | .unit, _, _ => some true
  | .pair a b, x, y => match eqEl a x.1 y.1, eqEl b x.2 y.2 with
    | some p, some q => some (p && q)
    | _, _ => none
  | _, _, _ => none

/-! ### what lives where two ways meet -/

inductive Kind where
  | u                                  -- nothing
  | d (t : Ty)                         -- data
  | o (t : Ty) (ex : Bool)             -- a slice of the call's own; may its elements be written?
  | a (j off : Nat)                    -- the address of a cell of box j
  | c (f : Nat) (caps : List (Nat × Nat))  -- a function with the addresses that it captured

structure Shape where
  tmps : List Kind
  boxes : List (List Kind)

/-- the types of what lives at kinds, ahead of others -/
def kt1 : Kind → List Ty → List Ty
  | .d t, acc => t :: acc
  | .o t _, acc => .sl t :: acc
  | _, acc => acc
def kts : List Kind → List Ty → List Ty
  | [], acc => acc
  | k :: l, acc => kt1 k (kts l acc)
def ktss : List (List Kind) → List Ty → List Ty
  | [], acc => acc
  | l :: ls, acc => kts l (ktss ls acc)

def EL : List Ty → Type
  | [] => Unit
  | t :: ts => El t × EL ts
def prod : List Ty → Ty
  | [] => .unit
  | [t] => t
  | t :: u :: ts => .pair t (prod (u :: ts))
def toP : (ts : List Ty) → EL ts → El (prod ts)
  | [], _ => ()
  | [_], x => x.1
  | _ :: u :: ts, x => (x.1, toP (u :: ts) x.2)
def ofP : (ts : List Ty) → El (prod ts) → EL ts
  | [], _ => ()
  | [_], x => (x, ())
  | _ :: u :: ts, x => (x.1, ofP (u :: ts) x.2)

def Shape.tys (s : Shape) : List Ty := kts s.tmps (ktss s.boxes [])
def Shape.ty (s : Shape) : Ty := prod s.tys

/-- what is found on the way: box j of the shape is cells of box i from base on; the entries that are handed on whole, those of them with the right to write, those that are handed on as data -/
structure Found where
  bm : List (Option (Nat × Nat))
  owns : List Nat
  exs : List Nat
  dats : List Nat

def getM : List (Option (Nat × Nat)) → Nat → Option (Nat × Nat)
  | [], _ => none
  | x :: _, 0 => x
  | _ :: l, n + 1 => getM l n
def setM : List (Option (Nat × Nat)) → Nat → Nat × Nat → List (Option (Nat × Nat))
  | [], _, _ => []
  | _ :: l, 0, v => some v :: l
  | x :: l, n + 1, v => x :: setM l n v

/-- an address that is found where cell off of box j is to be -/
def findB (F : Found) (j off i o : Nat) : Option Found :=
  if off ≤ o then
    match getM F.bm j with
    | some p => if p.1 = i ∧ p.2 = o - off then some F else none
    | none => if j < F.bm.length then some { F with bm := setM F.bm j (i, o - off) } else none
  else none
def findBs (F : Found) : List (Nat × Nat) → List (Nat × Nat) → Option Found
  | [], [] => some F
  | (j, off) :: l, (i, o) :: m => match findB F j off i o with
    | some F => findBs F l m
    | none => none
  | _, _ => none

/-- an entry that is handed on whole -/
def ownF (gr : List (Nat × Gr)) (F : Found) (ex : Bool) (k : Nat) : Option Found :=
  match lk gr k with
  | some g => if F.owns.elem k then none else
    match g.md, ex with
    | .excl, true => some { F with owns := k :: F.owns, exs := k :: F.exs }
    | .excl, false => some { F with owns := k :: F.owns }
    | .shared, false => some { F with owns := k :: F.owns }
    | _, _ => none
  | none => none

def scan1 (gr : List (Nat × Gr)) (F : Found) : Kind → T → Option Found
  | .u, _ => some F
  | .a j off, .addr i o => findB F j off i o
  | .d _, .own k => some { F with dats := k :: F.dats }
  | .d _, _ => some F
  | .o _ _, .nil => some F
  | .o _ ex, .own k => ownF gr F ex k
  | .c f l, .clo g m => if f = g then findBs F l m else none
  | _, _ => none
def scans (gr : List (Nat × Gr)) (F : Found) : List Kind → List T → Option Found
  | [], _ => some F
  | k :: l, v :: vs => match scan1 gr F k v with
    | some F => scans gr F l vs
    | none => none
  | _ :: _, [] => none

def getB (boxes : List (Nat × List T)) (k : Nat) : List T :=
  match lk boxes k with
  | some cs => cs
  | none => []
def setB (boxes : List (Nat × List T)) (k : Nat) (cs : List T) : List (Nat × List T) := up boxes k fun _ => cs

def scanB (m : Mem) : List (List Kind) → Nat → Found → Option Found
  | [], _, F => some F
  | ks :: l, j, F => match getM F.bm j with
    | some (i, b) => if b + ks.length ≤ (getB m.boxes i).length then
        (match scans m.gr F ks ((getB m.boxes i).drop b) with
        | some F => scanB m l (j + 1) F
        | none => none)
      else none
    | none => none

def noneN : Nat → List (Option (Nat × Nat))
  | 0 => []
  | n + 1 => none :: noneN n

def clash (p : Nat × Nat) : List (Option (Nat × Nat)) → Bool
  | [] => false
  | some q :: l => p.1 == q.1 || clash p l
  | none :: l => clash p l
/-- no two boxes of a shape are one -/
def apartM : List (Option (Nat × Nat)) → Bool
  | [] => true
  | none :: l => apartM l
  | some p :: l => !clash p l && apartM l
def meets (l : List Nat) : List Nat → Bool
  | [] => false
  | x :: m => l.elem x || meets l m

def Found.right (F : Found) : Bool := apartM F.bm && !meets F.dats F.exs

def scanW (bm : List (Option (Nat × Nat))) (m : Mem) (sh : Shape) (tm : List T) : Option Found :=
  match scans m.gr ⟨bm, [], [], []⟩ sh.tmps tm with
  | some F => match scanB m sh.boxes 0 F with
    | some F => if F.right = true then some F else none
    | none => none
  | none => none

/-- the boxes of a function's beginning keep their numbers -/
def sameN : Nat → Nat → List (Option (Nat × Nat))
  | 0, _ => []
  | n + 1, j => some (j, 0) :: sameN n (j + 1)
def scan (n0 : Nat) (m : Mem) (sh : Shape) (tm : List T) : Option Found := scanW (sameN n0 0 ++ noneN (sh.boxes.length - n0)) m sh tm

/-- the data of what lives -/
def pk1 (gr : List (Nat × Gr)) : (k : Kind) → T → (acc : List Ty) → EL acc → Option (EL (kt1 k acc))
  | .d t, v, _, y => match rdCell gr t v with
    | some x => some (x, y)
    | none => none
  | .o t _, v, _, y => match rdCell gr (.sl t) v with
    | some x => some (x, y)
    | none => none
  | .u, _, _, y => some y
  | .a _ _, _, _, y => some y
  | .c _ _, _, _, y => some y
def pks (gr : List (Nat × Gr)) : (l : List Kind) → List T → (acc : List Ty) → EL acc → Option (EL (kts l acc))
  | [], _, _, y => some y
  | k :: l, vs, acc, y => match pks gr l vs.tail acc y with
    | some y => pk1 gr k (getT vs 0) (kts l acc) y
    | none => none
def pkB (m : Mem) (bm : List (Option (Nat × Nat))) : (l : List (List Kind)) → Nat → (acc : List Ty) → EL acc → Option (EL (ktss l acc))
  | [], _, _, y => some y
  | ks :: l, j, acc, y => match getM bm j, pkB m bm l (j + 1) acc y with
    | some (i, b), some y => pks m.gr ks ((getB m.boxes i).drop b) (ktss l acc) y
    | _, _ => none

/-- what lives at a shape -/
def gather (m : Mem) (sh : Shape) (tm : List T) (F : Found) : Option (El sh.ty) :=
  match pkB m F.bm sh.boxes 0 [] () with
  | some y => match pks m.gr sh.tmps tm (ktss sh.boxes []) y with
    | some y => some (toP sh.tys y)
    | none => none
  | none => none
def pack (n0 : Nat) (m : Mem) (sh : Shape) (tm : List T) : Option (El sh.ty) :=
  match scan n0 m sh tm with
  | some F => gather m sh tm F
  | none => none

/-- slots and boxes laid anew from what lives: the slot at place q has the key κ + q, if it is an entry -/
def un1 : (k : Kind) → (acc : List Ty) → EL (kt1 k acc) → Nat → List (Nat × Gr) → T × EL acc × List (Nat × Gr)
  | .u, _, x, _, g => (.unk, x, g)
  | .a j o, _, x, _, g => (.addr j o, x, g)
  | .d t, _, x, _, g => (.dat t x.1, x.2, g)
  | .o t ex, _, x, κ, g => (.own κ, x.2, (κ, ⟨t, x.1, if ex = true then .excl else .shared, 0⟩) :: g)
  | .c f l, _, x, _, g => (.clo f l, x, g)
def uns : (l : List Kind) → (acc : List Ty) → EL (kts l acc) → Nat → List (Nat × Gr) → List T × EL acc × List (Nat × Gr)
  | [], _, x, _, g => ([], x, g)
  | k :: l, acc, x, κ, g =>
    let r := un1 k (kts l acc) x κ g
    let s := uns l acc r.2.1 (κ + 1) r.2.2
    (r.1 :: s.1, s.2)
def unB : (l : List (List Kind)) → (acc : List Ty) → EL (ktss l acc) → Nat → List (Nat × Gr) → List (List T) × EL acc × List (Nat × Gr)
  | [], _, x, _, g => ([], x, g)
  | k :: l, acc, x, κ, g =>
    let r := uns k (ktss l acc) x κ g
    let s := unB l acc r.2.1 (κ + k.length) r.2.2
    (r.1 :: s.1, s.2)
def keyed : List (List T) → Nat → List (Nat × List T)
  | [], _ => []
  | cs :: l, j => (j, cs) :: keyed l (j + 1)

structure St where
  tm : List T
  m : Mem

/-- the slots and the boxes of a shape, with keys from κ on ahead of elder entries -/
def lay (sh : Shape) (x : El sh.ty) (κ : Nat) (g : List (Nat × Gr)) : List T × List (List T) × List (Nat × Gr) :=
  let r := uns sh.tmps (ktss sh.boxes []) (ofP sh.tys x) κ g
  let s := unB sh.boxes [] r.2.1 (κ + sh.tmps.length) r.2.2
  (r.1, s.1, s.2.2)
def unpack (sh : Shape) (x : El sh.ty) : St :=
  let r := lay sh x 0 []
  ⟨r.1, ⟨keyed r.2.1 0, r.2.2⟩⟩

/-! ### the surroundings -/

/-- an instance of a function: the function, with which functions its parameters of a function's type are bound; what lives when it begins and when it ends; the cuts in it -/
structure Sig where
  fn : Nat
  ent : Shape
  out : Shape
  cuts : Nat → Option Shape
  ext : Option (El ent.ty → Option (El out.ty))

structure Env where
  P : Program
  ty : Nat → Option Ty
  one : Nat → Bool
  eqs : Nat → Bool
  cel : Nat → Nat → Bool
  glob : Nat → Option (Σ t : Ty, El t)
  inst : Nat → List Nat → Option Nat
  sig : Nat → Option Sig

abbrev CallT := Nat → (a b : Ty) → El a → Option (El b)

def constT : Value → T
  | .int k n => .dat (.int k) n
  | .bool b => .dat .bool b
  | .string s => .dat .str s.data.toList
  | .slice none 0 0 => .nil
  | .nilIface => .dat .err true
  | _ => .unk

def opd (E : Env) (tm : List T) : Operand → T
  | .tmp t => getT tm t
  | .const v => constT v
  | .global g => match E.glob g with
    | some ⟨t, x⟩ => .rptr t x
    | none => .unk
  | .func f => .clo f []

/-- a guard of the region: slot s holds w; and what must hold for it to be asked -/
def chain (tm : List T) : Nat → Nat → Bool → List (Nat × Bool)
  | 0, s, w => [(s, w)]
  | n + 1, s, w => (s, w) :: match getT tm s with
    | .cnd s' w' _ => chain tm n s' w'
    | _ => []
def unc (ch : List (Nat × Bool)) : T → T
  | .cnd s w v => if ch.elem (s, w) then v else .unk
  | v => v

def intOp (op : BinOp) (k : IntKind) (a b : Int) : Option T :=
  match op with
  | .add => some (.dat (.int k) (k.wrap (a + b)))
  | .sub => some (.dat (.int k) (k.wrap (a - b)))
  | .mul => some (.dat (.int k) (k.wrap (a * b)))
  | .eql => some (.dat .bool (decide (a = b)))
  | .neq => some (.dat .bool (!decide (a = b)))
  | .lss => some (.dat .bool (decide (a < b)))
  | .leq => some (.dat .bool (decide (a ≤ b)))
  | .gtr => some (.dat .bool (decide (b < a)))
  | .geq => some (.dat .bool (decide (b ≤ a)))
  | _ => none
def quoI (k : IntKind) (a b : Int) : Option Int := if b = 0 then none else some (k.wrap (a.tdiv b))
def remI (a b : Int) : Option Int := if b = 0 then none else some (a.tmod b)
def andI (k : IntKind) (x y : Int) : Int := k.wrap (BitVec.ofInt k.bits x &&& BitVec.ofInt k.bits y).toNat
def orI (k : IntKind) (x y : Int) : Int := k.wrap (BitVec.ofInt k.bits x ||| BitVec.ofInt k.bits y).toNat
def xorI (k : IntKind) (x y : Int) : Int := k.wrap (BitVec.ofInt k.bits x ^^^ BitVec.ofInt k.bits y).toNat
def shlI (k : IntKind) (x y : Int) : Option Int := if y < 0 then none else some (k.wrap (x * 2 ^ (min y.toNat k.bits)))
def shrI (k : IntKind) (x y : Int) : Option Int := if y < 0 then none else some (x.fdiv (2 ^ (min y.toNat k.bits)))

def strOp (op : BinOp) (a b : List UInt8) : Option T :=
  match op with
  | .eql => some (.dat .bool (eqS a b))
  | .neq => some (.dat .bool (!eqS a b))
  | .lss => some (.dat .bool (Op.bytesLess a b))
  | .leq => some (.dat .bool (Op.bytesLess a b || eqS a b))
  | .gtr => some (.dat .bool (!(Op.bytesLess a b || eqS a b)))
  | .geq => some (.dat .bool (!Op.bytesLess a b))
  | _ => none

/-- a result that hangs on one value of a type -/
def partT (t : Ty) (x : Option (El t)) : OpRes := .vpart [] t x (.dat t)

def isLit : Operand → Bool
  | .const _ => true
  | _ => false
def binT (E : Env) (tid : Nat) (op : BinOp) (ly : Bool) (x y : T) : OpRes :=
  match x, y with
  | .dat (.int k) a, .dat (.int k') b => match op with
    | .shl => partT (.int k) (shlI k a b)
    | .shr => partT (.int k) (shrI k a b)
    | op => if k = k' then match op with
      | .quo => partT (.int k) (quoI k a b)
      | .rem => partT (.int k) (remI a b)
      | .and => .val [] (.dat (.int k) (andI k a b))
      | .or => .val [] (.dat (.int k) (orI k a b))
      | .xor => .val [] (.dat (.int k) (xorI k a b))
      | op => match intOp op k a b with
        | some v => .val [] v
        | none => .bad
      else .bad
  | .dat .str a, .dat .str b => match op with
    | .add => partT .str (catL (α := UInt8) a b)
    | op => match strOp op a b with
      | some v => .val [] v
      | none => .bad
  | .dat .bool a, .dat .bool b => match op, E.ty tid with
    | .eql, some .bool => .val [] (.dat .bool (eqB a b))
    | .neq, some .bool => .val [] (.dat .bool (nt (eqB a b)))
    | _, _ => .bad
  | .dat .err a, .dat .err b => errT E tid op ly a b
  | .dat (.pair a b) x, .dat t y => match Ty.eq? t (.pair a b), E.ty tid with
    | some ⟨h⟩, some u => match Ty.eq? u (.pair a b), eqEl (.pair a b) x (castE h y), op, E.eqs tid with
      | some _, some r, .eql, true => .val [] (.dat .bool r)
      | some _, some r, .neq, true => .val [] (.dat .bool (nt r))
      | _, _, _, _ => .bad
    | _, _ => .bad
  | _, _ => .bad
where errT (E : Env) (tid : Nat) (op : BinOp) (ly a b : Bool) : OpRes :=
  match op, E.ty tid, ly, b with
  | .eql, some .err, true, true => .val [] (.dat .bool a)
  | .neq, some .err, true, true => .val [] (.dat .bool (nt a))
  | _, _, _, _ => .bad

def killG (g : Gr) : Gr := ⟨g.t, g.xs, .dead, g.ver⟩
def killKs (gr : List (Nat × Gr)) : List Nat → List (Nat × Gr)
  | [] => gr
  | k :: l => killKs (up gr k killG) l

/-! ### the operations -/

/-- a struct of its parts -/
def buildF (gr : List (Nat × Gr)) (t : Ty) : List (Nat × T) → El t → Option (El t)
  | [], x => some x
  | (i, v) :: l, x => match fieldTy t i with
    | some (_, u) => match rdCell gr u v with
      | some y => match setField t x i u y with
        | some x => buildF gr t l x
        | none => none
      | none => none
    | none => none
/-- a list of its parts -/
def buildL (gr : List (Nat × Gr)) (t : Ty) : List (Nat × T) → List (El t) → Option (List (El t))
  | [], xs => some xs
  | (i, v) :: l, xs => match rdCell gr t v with
    | some y => if i < xs.length then buildL gr t l (xs.set i y) else none
    | none => none
def partVs : List (Nat × T) → List T
  | [] => []
  | (_, v) :: l => v :: partVs l

def Mem.share (m : Mem) (ks : List Nat) : Mem := ⟨m.boxes, shareKs m.gr ks⟩

def buildT (m : Mem) (t : Ty) (parts : List (Nat × T)) : OpRes :=
  match t with
  | .arr n u => match buildL m.gr u parts (List.replicate n (zero u)) with
    | some xs => .val (ownsOf (partVs parts)) (.dat (.arr n u) xs)
    | none => .bad
  | t => if t.isAgg = true then
      (match buildF m.gr t parts (zero t) with
      | some x => .val (ownsOf (partVs parts)) (.dat t x)
      | none => .bad)
    else .bad

def alive (m : Mem) (k : Nat) : Bool :=
  match lk m.gr k with
  | some g => !decide (g.md = .dead)
  | none => false
def setCells (cs : List T) (off : Nat) (l : List T) : List T := cs.take off ++ l ++ cs.drop (off + l.length)
/-- where a part of an aggregate begins, and its type -/
def partTy (t : Ty) (i : Nat) : Option (Nat × Ty) :=
  match t with
  | .arr n u => if i < n then some (i * u.size, u) else none
  | t => fieldTy t i
/-- a part, cell by cell -/
def partC (m : Mem) (u : Ty) (v : T) : Option (List T) :=
  match v with
  | .dat u' x => match Ty.eq? u' u with
    | some _ => some (expl u' x)
    | none => none
  | .nil => match u with
    | .sl _ => some [.nil]
    | _ => none
  | .own k => match u, alive m k with
    | .sl _, true => some [.own k]
    | _, _ => none
  | _ => none
def buildC (m : Mem) (t : Ty) : List (Nat × T) → List T → Option (List T)
  | [], cs => some cs
  | (i, v) :: l, cs => match partTy t i with
    | some (off, u) => match partC m u v with
      | some new => if off + u.size ≤ cs.length then buildC m t l (setCells cs off new) else none
      | none => none
    | none => none
def buildA (m : Mem) (t : Ty) (parts : List (Nat × T)) : OpRes :=
  if t.isAgg = true then
    (match buildC m t parts (expl0 t) with
    | some cs => .val [] (.agv t cs)
    | none => .bad)
  else .bad

def loadT (E : Env) (m : Mem) (tid : Nat) : T → OpRes
  | .addr i off => match lk m.boxes i, E.ty tid with
    | some cs, some t => if t.isAgg then
        (match asm m.gr t (cs.drop off) with
        | some (x, _) => .val (ownsOf ((cs.drop off).take t.size)) (.dat t x)
        | none => .bad)
      else if off < cs.length then .val [] (getT cs off) else .bad
    | some cs, none => if E.one tid = true ∧ off < cs.length then .val [] (getT cs off) else .bad
    | none, _ => .bad
  | .rptr t x => match E.ty tid with
    | some u => match Ty.eq? t u with
      | some _ => .val [] (.dat t x)
      | none => .bad
    | none => .bad
  | .eptr k v _ off t x => match lk m.gr k, E.ty tid with
    | some g, some u => if g.ver = v then
        (match g.md, subVal t x off u with
        | .dead, _ => .bad
        | _, some y => .val [] (.dat u y)
        | _, none => .bad)
      else .bad
    | _, _ => .bad
  | .aptr i off n u ix => match lk m.boxes i, E.ty tid with
    | some cs, some t => match asm m.gr (.arr n u) (cs.drop off), Ty.eq? u t with
      | some (xs, _), some _ => .vpart (ownsOf ((cs.drop off).take (n * u.size))) u (rd (α := El u) xs ix) (.dat u)
      | _, _ => .bad
    | _, _ => .bad
  | _ => .bad

def storable (m : Mem) : T → Bool
  | .dat t _ => !t.isAgg
  | .nil => true
  | .own k => alive m k
  | .addr _ _ => true
  | .clo _ _ => true
  | _ => false

def storeT (E : Env) (m : Mem) (tid : Nat) (a v : T) : OpRes :=
  match a with
  | .addr i off => match lk m.boxes i, E.ty tid with
    | some cs, some t => if t.isAgg then
        (match v with
        | .dat u x => match Ty.eq? u t with
          | some _ => if off + u.size ≤ cs.length then .ok .unk ⟨setB m.boxes i (setCells cs off (expl u x)), m.gr⟩ else .bad
          | none => .bad
        | .agv u l => match Ty.eq? u t with
          | some _ => if l.length = u.size ∧ off + u.size ≤ cs.length then .ok .unk ⟨setB m.boxes i (setCells cs off l), m.gr⟩ else .bad
          | none => .bad
        | _ => .bad)
      else if storable m v = true ∧ off < cs.length then .ok .unk ⟨setB m.boxes i (setCells cs off [v]), m.gr⟩ else .bad
    | some cs, none => if E.one tid = true ∧ storable m v = true ∧ off < cs.length then .ok .unk ⟨setB m.boxes i (setCells cs off [v]), m.gr⟩ else .bad
    | none, _ => .bad
  | .eptr k ver i off t x => match lk m.gr k, E.ty tid with
    | some g, some u => match rdCell m.gr u v with
      | some y => match setSub t x off u y, g.md, Ty.eq? (.sl t) (.sl g.t) with
        | some z, .excl, some ⟨h⟩ => if g.ver = ver ∧ (ownsOf [v]).elem k = false then
            .ok .unk ⟨m.boxes, up (shareKs m.gr (ownsOf [v])) k fun _ => ⟨g.t, castE h (List.set (α := El t) (castE h.symm g.xs) i.toNat z), .excl, ver + 1⟩⟩
          else .bad
        | _, _, _ => .bad
      | none => .bad
    | _, _ => .bad
  | .aptr i off n u ix => match lk m.boxes i, E.ty tid with
    | some cs, some t => match asm m.gr (.arr n u) (cs.drop off), rdCell m.gr u v, Ty.eq? u t with
      | some (xs, _), some y, some _ => if off + n * u.size ≤ cs.length then
          .ok .unk ⟨setB m.boxes i (setCells cs off (expl (.arr n u) (List.set (α := El u) xs ix.toNat y))), shareKs m.gr (ownsOf (v :: (cs.drop off).take (n * u.size)))⟩
          else .bad
      | _, _, _ => .bad
    | _, _ => .bad
  | _ => .bad

def fieldAddrT (E : Env) (m : Mem) (tid : Nat) (x : T) (f : Nat) : OpRes :=
  match E.ty tid with
  | some t => match fieldTy t f with
    | some (o, u) => if u.size = 0 then .bad else match x with
      | .addr i off => match lk m.boxes i with
        | some cs => if off + o + u.size ≤ cs.length then .val [] (.addr i (off + o)) else .bad
        | none => .bad
      | .rptr t' x => match Ty.eq? t' t with
        | some _ => match fieldVal t' x f with
          | some y => .val [] (.rptr y.1 y.2)
          | none => .bad
        | none => .bad
      | .eptr k v i off t' x => if alive m k = true then .val [] (.eptr k v i (off + o) t' x) else .bad
      | _ => .bad
    | none => .bad
  | none => .bad

def indexAddrT (E : Env) (m : Mem) (tid : Nat) (x : T) (ix : T) (lit : Bool) : OpRes :=
  match x, ix, E.ty tid with
  | .dat (.sl t) xs, .dat (.int _) i, some (.sl u) => match Ty.eq? t u with
    | some _ => .vpart [] t (rd (α := El t) xs i) fun y => .rptr t y
    | none => .bad
  | .own k, .dat (.int _) i, some (.sl u) => match lk m.gr k with
    | some g => match g.md, Ty.eq? g.t u with
      | .dead, _ => .bad
      | _, some _ => .vpart [] g.t (rd g.xs i) fun y => .eptr k g.ver i 0 g.t y
      | _, none => .bad
    | none => .bad
  | .rptr (.arr n t) xs, .dat (.int _) i, some (.arr n' u) => match Ty.eq? (.arr n t) (.arr n' u) with
    | some _ => .vpart [] t (rd (α := El t) xs i) fun y => .rptr t y
    | none => .bad
  | .addr b off, .dat (.int _) i, some (.arr n u) => match lk m.boxes b with
    | some cs => if off + n * u.size ≤ cs.length then
        (if lit = true then
          (if within i n = true then .val [] (.addr b (off + Int.toNat i * u.size)) else .bad)
        else .vpart [] .unit (if within i n = true then some () else none) fun _ => .aptr b off n u i)
      else .bad
    | none => .bad
  | _, _, _ => .bad

/-- an index into a small array of slices: which one is asked -/
def altIx (E : Env) (m : Mem) (tid : Nat) (x : T) (k : IntKind) (i : Int) : Nat → Nat → OpRes
  | 0, _ => .vpart [] .unit none fun _ => .undef
  | n + 1, q => .alt (decide (i = (q : Int))) (indexAddrT E m tid x (.dat (.int k) (q : Int)) true) (altIx E m tid x k i n (q + 1))
def splitT (E : Env) (m : Mem) (tid : Nat) (x ix : T) (lit : Bool) : OpRes :=
  match x, ix, E.ty tid, lit with
  | .addr _ _, .dat (.int k) i, some (.arr n (.sl _)), false => altIx E m tid x k i n 0
  | _, _, _, _ => indexAddrT E m tid x ix lit

def indexT (E : Env) (tid : Nat) (x ix : T) : OpRes :=
  match x, ix, E.ty tid with
  | .dat .str s, .dat (.int _) i, some .str => partT (.int .u8) (rdb s i)
  | .dat (.arr n t) xs, .dat (.int _) i, some (.arr n' u) => match Ty.eq? (.arr n t) (.arr n' u) with
    | some _ => .vpart [] t (rd (α := El t) xs i) (.dat t)
    | none => .bad
  | _, _, _ => .bad

def intOf : T → Option Int
  | .dat (.int _) i => some i
  | _ => none
/-- a bound of a slice expression; d where there is none -/
def bound (d : Int) : Option T → Option Int
  | none => some d
  | some u => intOf u

def sliceT (E : Env) (m : Mem) (tid : Nat) (x : T) (lo hi : Option T) (top : Option Bool) : OpRes :=
  match x, E.ty tid with
  | .dat .str s, some .str => match bound 0 lo, bound ((s : List UInt8).length : Int) hi, top with
    | some l, some h, none => partT .str (subL (α := UInt8) s l h)
    | _, _, _ => .bad
  | .dat (.sl t) xs, some (.sl u) => match Ty.eq? t u, bound 0 lo, bound ((xs : List (El t)).length : Int) hi with
    | some _, some l, some h => match top with
      | none => partT (.sl t) (subL (α := El t) xs l h)
      | some true => .gpart [] (.sl t) (subL (α := El t) xs l h) fun zs => ⟨t, zs, .shared, 0⟩
      | _ => .bad
    | _, _, _ => .bad
  | .nil, some (.sl t) => match bound 0 lo, bound 0 hi, top with
    | some l, some h, none => .vpart [] (.sl t) (subL (α := El t) [] l h) fun _ => .nil
    | _, _, _ => .bad
  | .own k, some (.sl u) => match lk m.gr k with
    | some g => match Ty.eq? g.t u, bound 0 lo, bound (g.xs.length : Int) hi with
      | some _, some l, some h => match top, g.md with
        | _, .dead => .bad
        | none, .excl => if lo.isNone = true then .anew k (.sl g.t) (subL g.xs 0 h) fun zs => ⟨g.t, zs, .excl, 0⟩
          else .vpart [k] (.sl g.t) (subL g.xs l h) (.dat (.sl g.t))
        | none, .shared => .vpart [k] (.sl g.t) (subL g.xs l h) (.dat (.sl g.t))
        | some true, _ => .gpart [k] (.sl g.t) (subL g.xs l h) fun zs => ⟨g.t, zs, .shared, 0⟩
        | some false, _ => .bad
      | _, _, _ => .bad
    | none => .bad
  | .rptr (.arr n t) xs, some (.arr n' u) => match Ty.eq? (.arr n t) (.arr n' u), bound 0 lo, bound ((xs : List (El t)).length : Int) hi, top with
    | some _, some l, some h, none => partT (.sl t) (subL (α := El t) xs l h)
    | _, _, _, _ => .bad
  | _, _ => .bad

def bytesT (s : List UInt8) : List Int := s.map fun b => (b.toNat : Int)
def textT (l : List Int) : List UInt8 := l.map fun n => UInt8.ofNat n.toNat
/-- a string as bytes, if it is not too long -/
def bytesL (s : List UInt8) : Option (List Int) := if s.length < LIM then some (bytesT s) else none

def convT (E : Env) (m : Mem) (src dst : Nat) (x : T) : OpRes :=
  match E.ty src, E.ty dst, x with
  | some (.int _), some (.int k), .dat (.int _) n => .val [] (.dat (.int k) (k.wrap n))
  | some .str, some .str, .dat .str s => .val [] (.dat .str s)
  | some .str, some (.sl (.int .u8)), .dat .str s => .gpart [] (.sl (.int .u8)) (bytesL s) fun xs => ⟨.int .u8, xs, .excl, 0⟩
  | some (.sl (.int .u8)), some .str, v => match rdCell m.gr (.sl (.int .u8)) v with
    | some xs => .val [] (.dat .str (textT xs))
    | none => .bad
  | _, _, _ => .bad

def lenT (m : Mem) : T → Ty → Option Int
  | .dat .str s, .str => some ((s : List UInt8).length : Int)
  | .dat (.sl t) xs, .sl _ => some ((xs : List (El t)).length : Int)
  | .nil, .sl _ => some 0
  | .own k, .sl _ => match lk m.gr k with
    | some g => match g.md with
      | .dead => none
      | _ => some (g.xs.length : Int)
    | none => none
  | _, _ => none

/-- what is appended: elements, or the bytes of a string -/
def appended (gr : List (Nat × Gr)) (t : Ty) (y : T) : Option (List (El t)) :=
  match t, y with
  | .int .u8, .dat .str s => some (bytesT s)
  | t, y => rdCell gr (.sl t) y

def notInt : Option Ty → Bool
  | some (.sl _) => true
  | some .str => true
  | _ => false
def appendT (E : Env) (m : Mem) (tid yid : Nat) (x y : T) : OpRes :=
  match E.ty tid, notInt (E.ty yid) with
  | some (.sl t), true => match appended m.gr t y with
    | some ys => match x with
      | .nil => .gpart [] (.sl t) (catL (α := El t) [] ys) fun zs => ⟨t, zs, .excl, 0⟩
      | .own k => match lk m.gr k with
        | some g => match Ty.eq? (.sl g.t) (.sl t), g.md with
          | some ⟨h⟩, .excl => .anew k (.sl t) (catL (α := El t) (castE h g.xs) ys) fun zs => ⟨t, zs, .excl, 0⟩
          | some ⟨h⟩, .shared => .anew k (.sl t) (catL (α := El t) (castE h g.xs) ys) fun zs => ⟨t, zs, .shared, 0⟩
          | _, _ => .bad
        | none => .bad
      | _ => .bad
    | none => .bad
  | _, _ => .bad

def mkL {α : Type} (n c : Int) (x : α) : Option (List α) := if 0 ≤ n ∧ n ≤ c ∧ c < (LIM : Int) then some (List.replicate n.toNat x) else none
def maxI (x y : Int) : Int := if y > x then y else x
def minI (x y : Int) : Int := if y < x then y else x
def foldI (f : Int → Int → Int) : Int → List T → Option Int
  | x, [] => some x
  | x, u :: l => match intOf u with
    | some y => foldI f (f x y) l
    | none => none

/-- the functions that are among arguments -/
def cloIds : List T → List Nat
  | [] => []
  | .clo f _ :: l => f :: cloIds l
  | _ :: l => cloIds l
def addrs : List (Nat × Nat) → List T
  | [] => []
  | (i, o) :: l => .addr i o :: addrs l

/-- an address of the callee's, in the caller's numbers -/
def backT (bm : List (Option (Nat × Nat))) : T → T
  | .addr j o => match getM bm j with
    | some (i, b) => .addr i (b + o)
    | none => .unk
  | .clo _ _ => .unk
  | v => v
def backTs (bm : List (Option (Nat × Nat))) : List T → List T
  | [] => []
  | v :: l => backT bm v :: backTs bm l
/-- the caller's boxes behind the call: cells of them have turned -/
def backB (bm : List (Option (Nat × Nat))) : List (Nat × List T) → List (List T) → Nat → List (Nat × List T)
  | boxes, [], _ => boxes
  | boxes, cs :: l, j => match getM bm j with
    | some (i, b) => backB bm (setB boxes i (setCells (getB boxes i) b (backTs bm cs))) l (j + 1)
    | none => boxes

def resT : List T → T
  | [v] => v
  | l => .tup l

/-- whether a call hands back data alone and is handed no address -/
def quiet (F : Found) (s : Sig) : Bool :=
  s.ent.boxes.isEmpty && s.out.boxes.isEmpty && F.owns.isEmpty && s.out.tmps.all fun k => match k with | .d _ => true | _ => false

def sameLens : List (List Kind) → List (List Kind) → Bool
  | [], [] => true
  | a :: l, b :: m => Nat.beq a.length b.length && sameLens l m
  | _, _ => false
def sumL : List (List Kind) → Nat
  | [] => 0
  | l :: m => l.length + sumL m
def fullB : List (List Kind) → Bool
  | [] => true
  | l :: m => !l.isEmpty && fullB m
def few (sh : Shape) : Bool := Nat.blt (sh.tmps.length + sumL sh.boxes) 1024
def callT (E : Env) (call : CallT) (κ : Nat) (m : Mem) (f : Nat) (args : List T) : OpRes :=
  match E.inst f (cloIds args) with
  | none => .bad
  | some i => match E.sig i with
    | none => .bad
    | some s => match scan 0 m s.ent args with
      | none => .bad
      | some F => match gather m s.ent args F with
        | none => .bad
        | some x =>
          if Nat.beq args.length s.ent.tmps.length = false then .bad
          else if quiet F s = true then .vpart F.dats s.out.ty (call i s.ent.ty s.out.ty x) fun y => resT (unpack s.out y).tm
          else if (sameLens s.ent.boxes s.out.boxes && few s.out && fullB s.ent.boxes) = true then .part s.out.ty (call i s.ent.ty s.out.ty x) fun y =>
            let r := lay s.out y κ (killKs (shareKs m.gr F.dats) F.owns)
            (resT (backTs F.bm r.1), ⟨backB F.bm m.boxes r.2.1 0, r.2.2⟩)
          else .bad

def sameOp : Operand → Operand → Bool
  | .tmp a, .tmp b => a == b
  | .const (.int _ a), .const (.int _ b) => decide (a = b)
  | _, _ => false

def boxT (E : Env) (m : Mem) (t : Nat) (v : T) : OpRes :=
  match E.ty t with
  | some t => if t.isAgg then
      (match v with
      | .dat u y => match Ty.eq? u t with
        | some _ => .newB [] (expl u y)
        | none => .bad
      | .agv u l => match Ty.eq? u t with
        | some _ => if l.length = u.size then .newB [] l else .bad
        | none => .bad
      | _ => .bad)
    else if storable m v = true then .newB [] [v] else .bad
  | none => if E.one t = true ∧ storable m v = true then .newB [] [v] else .bad

def cloCaps : List T → Option (List (Nat × Nat))
  | [] => some []
  | .addr i o :: l => match cloCaps l with
    | some l => some ((i, o) :: l)
    | none => none
  | _ => none

def lenV (E : Env) (m : Mem) (t : Nat) (x : T) : OpRes :=
  match E.ty t with
  | some t => match lenT m x t with
    | some n => .val [] (.dat (.int .i64) n)
    | none => .bad
  | none => .bad

def builtT (E : Env) (m : Mem) (b : Builtin) (tys : Array TypeId) (args : List T) : OpRes :=
  match b, args, tys[0]? with
  | .len, [x], some t => lenV E m t x
  | .append, [x, y], some t => match tys[1]? with
    | some t' => appendT E m t t' x y
    | none => .bad
  | .max, .dat (.int k) x :: l, _ => match foldI maxI x l with
    | some z => .val [] (.dat (.int k) z)
    | none => .bad
  | .min, .dat (.int k) x :: l, _ => match foldI minI x l with
    | some z => .val [] (.dat (.int k) z)
    | none => .bad
  | _, _, _ => .bad

def ops2 (ρ : Operand → T) : List (Nat × Operand) → List (Nat × T)
  | [] => []
  | (i, x) :: l => (i, ρ x) :: ops2 ρ l
def ops1 (ρ : Operand → T) : List Operand → List T
  | [] => []
  | x :: l => ρ x :: ops1 ρ l
def topOf (mx hi : Option Operand) : Option Bool :=
  match mx, hi with
  | none, _ => none
  | some a, some b => some (sameOp a b)
  | some _, none => some false

def nilT : T → OpRes
  | .addr i o => .val [] (.addr i o)
  | .rptr t x => .val [] (.rptr t x)
  | _ => .bad
def unT (op : UnOp) (u : T) : OpRes :=
  match op, u with
  | .not, .dat .bool b => .val [] (.dat .bool (nt b))
  | .neg, .dat (.int k) n => .val [] (.dat (.int k) (negI k n))
  | _, _ => .bad
def funT (f : Nat) (l : List T) : OpRes :=
  match cloCaps l with
  | some l => .val [] (.clo f l)
  | none => .bad
def fieldT (E : Env) (tid : Nat) (u : T) (f : Nat) : OpRes :=
  match u, E.ty tid with
  | .dat t' v, some t => match Ty.eq? t' t, fieldVal t' v f with
    | some _, some y => .val [] (.dat y.1 y.2)
    | _, _ => .bad
  | _, _ => .bad
def extractT (u : T) (i : Nat) : OpRes :=
  match u with
  | .tup l => if i < l.length then .val [] (getT l i) else .bad
  | _ => .bad
def evOp (E : Env) (call : CallT) (ρ : Operand → T) (κ : Nat) (m : Mem) (o : Op) : OpRes :=
  match o with
  | .move x | .assign x => .val [] (ρ x)
  | .alloc t => match E.ty t with
    | some t => .newB [] (expl0 t)
    | none => .bad
  | .box t x => boxT E m t (ρ x)
  | .build t parts => match E.ty t with
    | some t' => if E.cel t κ = true then buildA m t' (ops2 ρ parts.toList) else buildT m t' (ops2 ρ parts.toList)
    | none => .bad
  | .buildSlice t len parts => match E.ty t with
    | some (.sl u) => if len * u.size ≤ 16777216 then
        (match buildL m.gr u (ops2 ρ parts.toList) (List.replicate len (zero u)) with
        | some xs => .newG (ownsOf (partVs (ops2 ρ parts.toList))) ⟨u, xs, .excl, 0⟩
        | none => .bad)
      else .bad
    | _ => .bad
  | .load t a => loadT E m t (ρ a)
  | .store t a v => storeT E m t (ρ a) (ρ v)
  | .nilCheck x => nilT (ρ x)
  | .binOp op t x y _ => binT E t op (isLit y) (ρ x) (ρ y)
  | .unOp op _ x => unT op (ρ x)
  | .convert src dst x => convT E m src dst (ρ x)
  | .makeFunc (.func f) first caps => if first.isEmpty = true then funT f (ops1 ρ caps.toList) else .bad
  | .makeSlice t n c => match E.ty t, intOf (ρ n), intOf (ρ c) with
    | some (.sl u), some n, some c => .gpart [] (.sl u) (mkL (α := El u) n c (zero u)) fun xs => ⟨u, xs, .excl, 0⟩
    | _, _, _ => .bad
  | .slice t x lo hi mx => sliceT E m t (ρ x) (lo.map ρ) (hi.map ρ) (topOf mx hi)
  | .fieldAddr t x f => fieldAddrT E m t (ρ x) f
  | .field t x f => fieldT E t (ρ x) f
  | .indexAddr t x i => splitT E m t (ρ x) (ρ i) (isLit i)
  | .index t x i => indexT E t (ρ x) (ρ i)
  | .extract x i => extractT (ρ x) i
  | .call ⟨.builtin b, args, tys⟩ => builtT E m b tys (ops1 ρ args.toList)
  | .call ⟨.value f, args, _⟩ => match ρ f with
      | .clo f caps => callT E call κ m f (ops1 ρ args.toList ++ addrs caps)
      | _ => .bad
  | _ => .bad

/-- pick: by a slot that guards one of the two -/
def sideT (s : Nat) (w : Bool) : T → Option Bool
  | .dat .bool y => some y
  | .cnd s' w' (.dat .bool y) => if s = s' ∧ w = w' then some y else none
  | _ => none
def pickT (c : Operand) (vc a b : T) : OpRes :=
  match c, vc with
  | .tmp s, .dat .bool x => match sideT s true a, sideT s false b with
    | some y, some z => .val [] (.dat .bool (bsel x y z))
    | _, _ => .bad
  | _, _ => .bad

/-- no key of these is from κ on, but far from it -/
def freeK {α : Type} (κ : Nat) : List (Nat × α) → Bool
  | [] => true
  | (k, _) :: l => (Nat.blt k κ || Nat.ble (κ + 1024) k) && freeK κ l
def freeM (κ : Nat) (m : Mem) : Bool := freeK κ m.boxes && freeK κ m.gr
def guardB {R : Type} (b : Bool) (x : Option R) : Option R := if b = true then x else none

/-- what an outcome does, for what follows -/
def run {R : Type} (r : OpRes) (κ : Nat) (m : Mem) (K : T → Mem → Option R) : Option R :=
  match r with
  | .val ks v => K v (m.share ks)
  | .vpart ks _ x f => x.bind fun y => K (f y) (m.share ks)
  | .newB ks cs => guardB (freeM κ m) (K (.addr κ 0) ⟨(κ, cs) :: m.boxes, shareKs m.gr ks⟩)
  | .newG ks g => guardB (freeM κ m) (K (.own κ) ⟨m.boxes, (κ, g) :: shareKs m.gr ks⟩)
  | .gpart ks _ x f => guardB (freeM κ m) (x.bind fun y => K (.own κ) ⟨m.boxes, (κ, f y) :: shareKs m.gr ks⟩)
  | .ok v m => K v m
  | .anew k _ x f => guardB (freeM κ m) (x.bind fun y => K (.own κ) ⟨m.boxes, (κ, f y) :: up m.gr k killG⟩)
  | .alt c r s => bsel c (run r κ m K) (run s κ m K)
  | .part _ x f => guardB (freeM κ m) (x.bind fun y => K (f y).1 (f y).2)
  | .bad => none

def dstOf (ops : List Oper) (j : Nat) : Option Nat := (ops[j]?).bind (·.dst)

/-- slot s holds w -/
def refT (s : Nat) (w : Bool) : List T → List T
  | [] => []
  | .cnd s' w' v :: l => (if s = s' ∧ w = w' then v else .cnd s' w' v) :: refT s w l
  | v :: l => v :: refT s w l
/-- slot s does not hold w -/
def refF (s : Nat) (w : Bool) : List T → List T
  | [] => []
  | .cnd s' w' v :: l => (if s = s' ∧ w = w' then .undef else .cnd s' w' v) :: refF s w l
  | v :: l => v :: refF s w l
def brs {R : Type} : List (Nat × Bool) → List T → (List T → Option R) → (List T → Option R) → Option R
  | [], tm, ex, _ => ex tm
  | (s, w) :: l, tm, ex, sk => match getT tm s with
    | .dat .bool y => bsel (gd w y) (brs l (setT (refT s w tm) s (.dat .bool w)) ex sk) (sk (setT (refF s w tm) s (.dat .bool (nt w))))
    | .undef => sk tm
    | _ => none

/-- whether all guards of a chain are met -/
def met (tm : List T) : List (Nat × Bool) → Option Bool
  | [] => some true
  | [(s, w)] => match getT tm s with
    | .dat .bool y => some (gd w y)
    | _ => none
  | (s, w) :: q :: l => match met tm (q :: l), getT tm s with
    | some p, .cnd _ _ (.dat .bool y) => some (p && gd w y)
    | _, _ => none
def notC : T → Bool
  | .cnd _ _ _ => false
  | _ => true
/-- the slot that an elder operation laid -/
def grdOf (ops : List Oper) (j i : Nat) : Option Nat := if j < i then dstOf ops j else none

/-- an operand as it is under guards; a half of a pick stays under its own -/
def opdC (E : Env) (tm : List T) (ch : List (Nat × Bool)) (x : Operand) : T := unc ch (opd E tm x)
def opdP (E : Env) (tm : List T) (ch : List (Nat × Bool)) (x : Operand) : T :=
  match opd E tm x with
  | .cnd s w v => if ch.elem (s, w) then v else .cnd s w v
  | v => v
def evAt (E : Env) (call : CallT) (κ : Nat) (tm : List T) (ch : List (Nat × Bool)) (m : Mem) (o : Op) : OpRes :=
  match o with
  | .pick c a b => pickT c (opdC E tm ch c) (opdP E tm ch a) (opdP E tm ch b)
  | o => evOp E call (opdC E tm ch) κ m o

def keyAt (rid i : Nat) : Nat := 1024 * (1 + 1024 * rid + i)

/-- bytes that are made and converted to bytes at once -/
def pairB (E : Env) (tm : List T) (o o2 : Oper) : Bool :=
  match o.op, o.dst, o.guard, o2.op, o2.guard with
  | .buildSlice t n _, some d, none, .convert a b (.tmp e), none => Nat.beq a t && Nat.beq b t && Nat.beq e d && Nat.blt 0 n && (match E.ty t with
    | some (.sl (.int .u8)) => Nat.blt d tm.length
    | _ => false)
  | _, _, _, _, _ => false

def headP (E : Env) (tm : List T) (o : Oper) : List Oper → Bool
  | o2 :: _ => pairB E tm o o2
  | [] => false

def evOps (E : Env) (call : CallT) (rid : Nat) (all : List Oper) {R : Type} : List Oper → Nat → List T → Mem → (List T → Mem → Option R) → Option R
  | [], _, tm, m, K => K tm m
  | o :: rest, i, tm, m, K =>
    if headP E tm o rest = true then
      run (evAt E call (keyAt rid i) tm [] m o.op) (keyAt rid i) m fun v m => (match rest with
        | o2 :: rest2 => evOps E call rid all rest2 (i + 2) (putT (putT tm o.dst v) o2.dst v) m K
        | [] => none)
    else match o.guard with
    | none => run (evAt E call (keyAt rid i) tm [] m o.op) (keyAt rid i) m fun v m => evOps E call rid all rest (i + 1) (putT tm o.dst v) m K
    | some (j, w) => match grdOf all j i with
      | none => none
      | some s => match getT tm s with
        | .undef => evOps E call rid all rest (i + 1) (putT tm o.dst .undef) m K
        | _ => match met tm (chain tm 8 s w) with
          | none => none
          | some g => match evAt E call (keyAt rid i) tm (chain tm 8 s w) m o.op with
            | .val ks v => guardB (notC v) (evOps E call rid all rest (i + 1) (putT tm o.dst (.cnd s w v)) (m.share ks) K)
            | .vpart ks τ x f => (bsel g x (some (zero τ))).bind fun y => guardB (notC (f y)) (evOps E call rid all rest (i + 1) (putT tm o.dst (.cnd s w (f y))) (m.share ks) K)
            | _ => brs (chain tm 8 s w).reverse tm
                (fun tm => run (evAt E call (keyAt rid i) tm [] m o.op) (keyAt rid i) m fun v m => evOps E call rid all rest (i + 1) (putT tm o.dst v) m K)
                (fun tm => evOps E call rid all rest (i + 1) (putT tm o.dst .undef) m K)

def guarded : List Oper → Bool
  | [] => false
  | o :: l => o.guard.isSome || guarded l
/-- behind a region: what was laid under a guard is laid no more -/
def clearG : List Oper → List T → List T
  | [], tm => tm
  | o :: l, tm => clearG l (if o.guard.isSome = true then putT tm o.dst .unk else tm)
def laysNot (d : Nat) : List Oper → Bool
  | [] => true
  | o :: l => o.dst != some d && laysNot d l
/-- no two operations lay one slot -/
def apartD : List Oper → Bool
  | [] => true
  | o :: l => (match o.dst with
    | none => true
    | some d => laysNot d l) && apartD l

inductive Ex where | normal | exit (id : Nat) | ret

def firstR : Code → Option Nat
  | .region id _ _ => some id
  | .seq a b => match firstR a with
    | some r => some r
    | none => firstR b
  | .block _ c => firstR c
  | .loop c => firstR c
  | _ => none
/-- a cut ahead of a piece, and one at a loop's head -/
def ahead (c : Code) : Option Nat := (firstR c).map fun r => 2 * r
def headOf (c : Code) : Option Nat := (firstR c).map fun r => 2 * r + 1

abbrev JT (R : Type) := Nat → (t : Ty) → El t → Option R

def cutAt {R : Type} (n0 : Nat) (C : Nat → Option Shape) (J : JT R) (r : Option Nat) (tm : List T) (m : Mem) : Option (Option R) :=
  match r with
  | none => none
  | some r => match C r with
    | none => none
    | some sh => some ((pack n0 m sh tm).bind (J r sh.ty))

/-! ### regions that draw their order -/

/-- which operations stand before an operation, as a number's bits; and before each of a list -/
def maskOf (acc : List Nat) : List Edge → Nat
  | [] => 0
  | e :: l => if Region.binds .any e = true then maskOf acc l ||| (2 ^ e.on ||| acc.getD e.on 0) else maskOf acc l
def masksF : List Oper → List Nat → List Nat
  | [], acc => acc
  | o :: l, acc => masksF l (acc ++ [maskOf acc o.after.toList])
def bef (ms : List Nat) (j i : Nat) : Bool := Nat.testBit (ms.getD j 0) i
/-- the index from which on the operations stand in one order behind all before them -/
def lastFree (ms : List Nat) : Nat → Nat
  | 0 => 0
  | n + 1 => if Nat.beq (ms.getD n 0) (2 ^ n - 1) = true then lastFree ms n else n + 1
/-- an outcome that leaves all that was there as it was, and tells what it lays -/
def still : OpRes → Bool
  | .alt _ r s => still r && still s
  | .val _ .unk => false
  | .val _ _ | .vpart _ _ _ _ | .newB _ _ | .newG _ _ | .gpart _ _ _ _ => true
  | _ => false
def noKs : OpRes → Bool
  | .alt _ r s => noKs r && noKs s
  | .val [] _ | .vpart [] _ _ _ | .newB [] _ | .newG [] _ | .gpart [] _ _ _ => true
  | _ => false
def isStore : Op → Bool
  | .store _ _ _ => true
  | _ => false
/-- an operation whose effect others might see -/
def acts (o : Op) : Bool :=
  match o with
  | .store _ _ _ => true
  | .call ⟨.builtin .append, args, _⟩ => match args.toList with
    | .const _ :: _ => false
    | _ => true
  | _ => false
def actsOf (free : Nat) : List Oper → Nat → List Nat
  | [], _ => []
  | o :: l, i => if (Nat.blt i free && acts o.op) = true then i :: actsOf free l (i + 1) else actsOf free l (i + 1)

def unkCs : List T → List T
  | [] => []
  | _ :: l => .unk :: unkCs l
def killAll : List (Nat × Gr) → List (Nat × Gr)
  | [] => []
  | (k, g) :: l => (k, killG g) :: killAll l
/-- the memory without what an operation turns; rt: the slot of the variable that it stores to -/
def hideM (tm : List T) (m : Mem) (o : Op) (rt : Nat) : Mem :=
  if isStore o = true then
    (match getT tm rt with
    | .addr b _ => ⟨up m.boxes b unkCs, m.gr⟩
    | _ => m)
  else ⟨m.boxes, killAll m.gr⟩
/-- the operation that lays a slot -/
def layer (d : Nat) : List Oper → Option Op
  | [] => none
  | o :: l => if (match o.dst with | some d' => Nat.beq d' d | none => false) = true then some o.op else layer d l
/-- the slot of the variable whose part a slot is the address of -/
def rootOf (all : List Oper) : Nat → Nat → Nat
  | 0, d => d
  | n + 1, d => match layer d all with
    | some (.fieldAddr _ (.tmp e) _) => rootOf all n e
    | _ => d
def rootAt (all : List Oper) : Op → Nat
  | .store _ (.tmp d) _ => rootOf all 16 d
  | _ => 0

/-- the slots that an operation looks at -/
def tmpsOf : List Operand → List Nat
  | [] => []
  | .tmp t :: l => t :: tmpsOf l
  | _ :: l => tmpsOf l
def looks (all : List Oper) (o : Oper) : List Nat :=
  (match o.guard with
  | some (j, _) => (match dstOf all j with
    | some s => [s]
    | none => [])
  | none => []) ++ tmpsOf o.op.operands.toList
/-- whoever lays a slot that operation i looks at stands before it or behind it -/
def setIn (ms : List Nat) (i t : Nat) : List Oper → Nat → Bool
  | [], _ => true
  | o :: l, q => (match o.dst with
    | none => true
    | some d => !Nat.beq d t || bef ms i q || (Nat.blt i q && bef ms q i)) && setIn ms i t l (q + 1)
def looksIn (ms : List Nat) (all : List Oper) (i : Nat) : List Nat → Bool
  | [] => true
  | t :: l => setIn ms i t all 0 && looksIn ms all i l
def looksOK (ms : List Nat) (all : List Oper) : List Oper → Nat → Bool
  | [], _ => true
  | o :: l, i => looksIn ms all i (looks all o) && looksOK ms all l (i + 1)
/-- a slot that is laid in the region is laid by the making of a variable, ahead of operation j -/
def madeIn (j d : Nat) : List Oper → Nat → Bool
  | [], _ => true
  | o :: l, q => (match o.dst with
    | none => true
    | some d' => !Nat.beq d' d || (Nat.blt q j && (match o.op, o.guard with
      | .alloc _, none => true
      | _, _ => false))) && madeIn j d l (q + 1)
/-- what an operation stands behind has a lower number -/
def edgesIn : List Oper → Nat → Bool
  | [], _ => true
  | o :: l, i => o.after.toList.all (fun e => !Region.binds .any e || Nat.blt e.on i) && edgesIn l (i + 1)
def actOK (all : List Oper) (j : Nat) : Bool :=
  match all[j]? with
  | some o => o.guard.isNone && (match o.op with
    | .store _ (.tmp _) _ => madeIn j (rootAt all o.op) all 0
    | .store _ _ _ => false
    | _ => true)
  | none => false
def sameBox : T → T → Bool
  | .addr i _, .addr j _ => Nat.beq i j
  | _, _ => false
def addrAt (tm : List T) (o : Op) (rt : Nat) : Bool :=
  match o with
  | .store _ (.tmp d) _ => sameBox (getT tm d) (getT tm rt)
  | _ => true
def isAnew : OpRes → Bool
  | .anew _ _ _ _ => true
  | _ => false

/-- the memory in which an operation is looked at -/
def seenM (ms : List Nat) (free j rt : Nat) (oj : Op) (i : Nat) (tm : List T) (m : Mem) : Mem :=
  if (Nat.blt j free && !bef ms j i && !bef ms i j) = true then hideM tm m oj rt else m
def ksOf : OpRes → List Nat
  | .val ks _ | .vpart ks _ _ _ | .newB ks _ | .newG ks _ | .gpart ks _ _ _ => ks
  | _ => []
def allIn (gr : List (Nat × Gr)) : List Nat → Bool
  | [] => true
  | k :: l => (lk gr k).isSome && allIn gr l
def knownKs (gr : List (Nat × Gr)) : OpRes → Bool
  | .alt _ r s => knownKs gr r && knownKs gr s
  | r => allIn gr (ksOf r)
def okD (ms : List Nat) (free j : Nat) (oj : Op) (i : Nat) (m : Mem) (r : OpRes) : Bool :=
  still r && (noKs r || !Nat.blt j free || isStore oj || bef ms j i) && knownKs m.gr r
def okJ (o : Op) (r : OpRes) : Bool := isStore o || isAnew r || (still r && noKs r)

/-- the operations of a region that draws its order: those whose order is open leave all as it was, but one (its number is j) -/
def evDraw (E : Env) (call : CallT) (rid : Nat) (all : List Oper) (ms : List Nat) (free j rt : Nat) (oj : Op) {R : Type} : List Oper → Nat → List T → Mem → (List T → Mem → Option R) → Option R
  | [], _, tm, m, K => K tm m
  | o :: rest, i, tm, m, K =>
    if Nat.beq i free = true then evOps E call rid all (o :: rest) i tm m K
    else if Nat.beq i j = true then
      (if (addrAt tm o.op rt && okJ o.op (evAt E call (keyAt rid i) tm [] m o.op)) = true then
        run (evAt E call (keyAt rid i) tm [] m o.op) (keyAt rid i) m fun v m => guardB (notC v) (evDraw E call rid all ms free j rt oj rest (i + 1) (putT tm o.dst v) m K)
      else none)
    else
      match o.guard with
      | none =>
        if okD ms free j oj i m (evAt E call (keyAt rid i) tm [] (seenM ms free j rt oj i tm m) o.op) = true then
          run (evAt E call (keyAt rid i) tm [] (seenM ms free j rt oj i tm m) o.op) (keyAt rid i) m fun v m => guardB (notC v) (evDraw E call rid all ms free j rt oj rest (i + 1) (putT tm o.dst v) m K)
        else none
      | some (j0, w) => match grdOf all j0 i with
        | none => none
        | some s => match met tm (chain tm 8 s w) with
          | none => none
          | some g =>
            if okD ms free j oj i m (evAt E call (keyAt rid i) tm (chain tm 8 s w) (seenM ms free j rt oj i tm m) o.op) = true then
              (match evAt E call (keyAt rid i) tm (chain tm 8 s w) (seenM ms free j rt oj i tm m) o.op with
              | .val ks v => guardB (notC v) (evDraw E call rid all ms free j rt oj rest (i + 1) (putT tm o.dst (.cnd s w v)) (m.share ks) K)
              | .vpart ks τ x f => (bsel g x (some (zero τ))).bind fun y => guardB (notC (f y)) (evDraw E call rid all ms free j rt oj rest (i + 1) (putT tm o.dst (.cnd s w (f y))) (m.share ks) K)
              | _ => none)
            else none

def noOp : Op := .move (.func 0)
/-- such a region: its checks, and its operations -/
def evDrawn (E : Env) (call : CallT) (rid : Nat) {R : Type} (all : List Oper) (tm : List T) (m : Mem) (K : List T → Mem → Option R) : Option R :=
  let ms := masksF all []
  let free := lastFree ms all.length
  if (apartD all && looksOK ms all all 0 && edgesIn all 0) = true then
    (match actsOf free all 0 with
    | [] => evDraw E call rid all ms free all.length 0 noOp all 0 tm m K
    | [j] => match all[j]? with
      | some o => if actOK all j = true then evDraw E call rid all ms free j (rootAt all o.op) o.op all 0 tm m K else none
      | none => none
    | _ => none)
  else none

def evReg (E : Env) (call : CallT) (rid : Nat) {R : Type} (ops : Array Oper) (draw : Bool) (tm : List T) (m : Mem) (K : List T → Mem → Option R) : Option R :=
  if draw = true then evDrawn E call rid ops.toList tm m fun tm m => K (clearG ops.toList tm) m
  else if guarded ops.toList = true then
    (if apartD ops.toList = true then evOps E call rid ops.toList ops.toList 0 tm m fun tm m => K (clearG ops.toList tm) m else none)
  else evOps E call rid ops.toList ops.toList 0 tm m K

def evC (E : Env) (call : CallT) (n0 : Nat) (C : Nat → Option Shape) {R : Type} (J : JT R) : Code → List T → Mem → (Ex → List T → Mem → Option R) → Option R
  | .skip, tm, m, K => K .normal tm m
  | .region id ops d, tm, m, K => evReg E call id ops d tm m (K .normal)
  | .seq a b, tm, m, K => evC E call n0 C J a tm m fun e tm m => match e with
    | .normal => match cutAt n0 C J (ahead b) tm m with
      | some r => r
      | none => evC E call n0 C J b tm m K
    | e => K e tm m
  | .cond c a b, tm, m, K => match opd E tm c with
    | .dat .bool x => bsel x (evC E call n0 C J a tm m K) (evC E call n0 C J b tm m K)
    | _ => none
  | .block id c, tm, m, K => evC E call n0 C J c tm m fun e tm m => match e with
    | .exit i => if i = id then K .normal tm m else K (.exit i) tm m
    | e => K e tm m
  | .loop c, tm, m, _ => match cutAt n0 C J (headOf c) tm m with
    | some r => r
    | none => none
  | .exit id, tm, m, K => K (.exit id) tm m
  | .ret, tm, m, K => K .ret tm m
  | _, _, _, _ => none

/-- going on from a cut: the piece that begins there, and what stands behind it -/
def find (E : Env) (call : CallT) (n0 : Nat) (C : Nat → Option Shape) {R : Type} (J : JT R) (r : Nat) : Code → (Ex → List T → Mem → Option R) → Option (List T → Mem → Option R)
  | .seq a b, K =>
    let Ka : Ex → List T → Mem → Option R := fun e tm m => match e with
      | .normal => match cutAt n0 C J (ahead b) tm m with
        | some r => r
        | none => evC E call n0 C J b tm m K
      | e => K e tm m
    if ahead b = some r then some fun tm m => evC E call n0 C J b tm m K
    else match find E call n0 C J r a Ka with
      | some f => some f
      | none => find E call n0 C J r b K
  | .cond _ a b, K => match find E call n0 C J r a K with
    | some f => some f
    | none => find E call n0 C J r b K
  | .block id c, K => find E call n0 C J r c fun e tm m => match e with
    | .exit i => if i = id then K .normal tm m else K (.exit i) tm m
    | e => K e tm m
  | .loop c, K =>
    let Kl : Ex → List T → Mem → Option R := fun e tm m => match e with
      | .normal => match cutAt n0 C J (headOf c) tm m with
        | some r => r
        | none => none
      | e => K e tm m
    if headOf c = some r then some fun tm m => evC E call n0 C J c tm m Kl
    else find E call n0 C J r c Kl
  | _, _ => none

/-! ### functions -/

def resTs (E : Env) (fn : Func) (tm : List T) (m : Mem) : Option (List T × Mem) :=
  go fn.results.toList m
where go : List ResultVar → Mem → Option (List T × Mem)
  | [], m => some ([], m)
  | .tmp t :: l, m => match go l m with
    | some r => some (getT tm t :: r.1, r.2)
    | none => none
  | .cell a t :: l, m => match loadT E m t (getT tm a) with
    | .val ks v => match go l (m.share ks) with
      | some r => some (v :: r.1, r.2)
      | none => none
    | _ => none

def unkN : Nat → List T
  | 0 => []
  | n + 1 => .undef :: unkN n

/-- what a function's end hands back -/
def endK (E : Env) (s : Sig) (fn : Func) : Ex → List T → Mem → Option (El s.out.ty)
  | .exit _, _, _ => none
  | _, tm, m => match resTs E fn tm m with
    | some r => guardB (Nat.beq r.1.length s.out.tmps.length) (pack s.ent.boxes.length r.2 s.out r.1)
    | none => none

def padN : Nat → List T
  | 0 => []
  | n + 1 => .unk :: padN n

/-- the numbers of the cuts in a piece -/
def idL (C : Nat → Option Shape) : Option Nat → List Nat
  | none => []
  | some r => match C r with
    | some _ => [r]
    | none => []
def cutIds (C : Nat → Option Shape) : Code → List Nat
  | .seq a b => idL C (ahead b) ++ (cutIds C a ++ cutIds C b)
  | .cond _ a b => cutIds C a ++ cutIds C b
  | .block _ c => cutIds C c
  | .loop c => idL C (headOf c) ++ cutIds C c
  | _ => []
def distinct : List Nat → Bool
  | [] => true
  | x :: l => !l.elem x && distinct l

def preLens : List (List Kind) → List (List Kind) → Bool
  | [], _ => true
  | a :: l, b :: m => Nat.beq a.length b.length && preLens l m
  | _ :: _, [] => false
def fits (s : Sig) (sh : Shape) (fn : Func) (c : Code) : Bool :=
  Nat.ble sh.tmps.length fn.ntmps && preLens s.ent.boxes sh.boxes && preLens s.ent.boxes s.out.boxes && distinct (cutIds s.cuts c)

def runI (E : Env) (call : CallT) (s : Sig) (J : JT (El s.out.ty)) (fn : Func) (c : Code) (x : El s.ent.ty) : Option (El s.out.ty) :=
  let b := unpack s.ent x
  guardB (fits s s.ent fn c) (evC E call s.ent.boxes.length s.cuts J c (b.tm ++ unkN (fn.ntmps - s.ent.tmps.length)) b.m (endK E s fn))

def runJ (E : Env) (call : CallT) (s : Sig) (J : JT (El s.out.ty)) (fn : Func) (c : Code) (r : Nat) (sh : Shape) (y : El sh.ty) : Option (El s.out.ty) :=
  match find E call s.ent.boxes.length s.cuts J r c (endK E s fn) with
  | some f => let b := unpack sh y
    guardB (fits s sh fn c) (f (b.tm ++ padN (fn.ntmps - sh.tmps.length)) b.m)
  | none => none

/-- what an instance answers (no place), or answers from a cut on, in so many steps -/
def sem (E : Env) : Nat → Nat → Option Nat → (a b : Ty) → El a → Option (El b)
  | 0, _, _, _, _, _ => none
  | k + 1, i, r, a, b, x => match E.sig i with
    | none => none
    | some s => match Ty.eq? s.out.ty b with
      | none => none
      | some ⟨hb⟩ => match s.ext, r with
        | some f, none => match Ty.eq? a s.ent.ty with
          | some ⟨ha⟩ => (f (castE ha x)).map (castE hb)
          | none => none
        | some _, some _ => none
        | none, r => match E.P.funcs[s.fn]? with
          | none => none
          | some fn => match fn.body with
            | none => none
            | some c => match r with
              | none => match Ty.eq? a s.ent.ty with
                | some ⟨ha⟩ => castO hb (runI E (fun i a b x => sem E k i none a b x) s (fun r t y => sem E k i (some r) t s.out.ty y) fn c (castE ha x))
                | none => none
              | some r => match s.cuts r with
                | none => none
                | some sh => match Ty.eq? a sh.ty with
                  | some ⟨ha⟩ => castO hb (runJ E (fun i a b x => sem E k i none a b x) s (fun r t y => sem E k i (some r) t s.out.ty y) fn c r sh (castE ha x))
                  | none => none
where castO {a b : Ty} (h : a = b) (x : Option (El a)) : Option (El b) := h ▸ x

end Mini

/- What the evaluator's data are in a world: the relation that the soundness proof carries. -/
namespace Mini
open Go

/-- whose a cell is: nobody's that we know of; data that nobody writes; a box's; a slice's that the call made -/
inductive Ow where
  | none | prot | box (k : Nat) | gr (k : Nat)
def Ow.owned : Ow → Prop
  | .box _ => True
  | .gr _ => True
  | _ => False

abbrev OwF := Nat → Nat → Ow

structure Gh where
  ow : OwF
  bx : Nat → Nat × Nat
  gv : Nat → Value

def cl (w : World) (b o : Nat) : Option Value := w.cell? ⟨b, o, none⟩
def fz (w : World) (b o : Nat) : Bool := w.frozen? ⟨b, o, none⟩
def ptr (b o : Nat) : Value := .pointer (some ⟨b, o, none⟩)

def RepN {α : Type} (one : α → List Value → Prop) : List α → List Value → Prop
  | [], cs => cs = []
  | x :: xs, cs => ∃ l r, cs = l ++ r ∧ one x l ∧ RepN one xs r

/-- elements of sz cells each lie in a row, in cells of an owner -/
def Row {α : Type} (w : World) (P : Nat → Nat → Prop) (one : α → List Value → Prop) (sz b o : Nat) (xs : List α) : Prop :=
  ∀ i (h : i < xs.length), ∃ l, one xs[i] l ∧ ∀ j, j < sz → P b (o + i * sz + j) ∧ cl w b (o + i * sz + j) = l[j]?

/-- cells that read as data of a type -/
def Rep (w : World) (ow : OwF) : (t : Ty) → El t → List Value → Prop
  | .int k, x, cs => cs = [.int k x]
  | .bool, x, cs => cs = [.bool x]
  | .str, x, cs => cs = [.string ⟨⟨x⟩⟩]
  | .err, x, cs => ∃ v, cs = [v] ∧ ((x = true ∧ v = .nilIface) ∨ (x = false ∧ ∃ t u, v = .iface t u))
  | .sl t, xs, cs => ∃ a len cap, cs = [.slice a len cap] ∧ len = List.length (α := El t) xs ∧ len ≤ cap ∧
      (xs ≠ ([] : List (El t)) → ∃ b o, a = some ⟨b, o, none⟩ ∧ Row w (fun b o => ow b o = .prot) (fun x l => Rep w ow t x l) t.size b o xs)
  | .unit, _, cs => cs = []
  | .pair a b, x, cs => ∃ l r, cs = l ++ r ∧ Rep w ow a x.1 l ∧ Rep w ow b x.2 r
  | .arr n t, xs, cs => List.length (α := El t) xs = n ∧ RepN (fun x l => Rep w ow t x l) xs cs

/-- a value that is data of a type -/
def RepV (w : World) (ow : OwF) (t : Ty) (x : El t) (v : Value) : Prop :=
  if t.isAgg = true then ∃ cs : Array Value, v = .agg cs ∧ Rep w ow t x cs.toList else Rep w ow t x [v]

/-- cells from a place on, nobody's to write, that read as data -/
def At (w : World) (ow : OwF) (t : Ty) (x : El t) (b o : Nat) : Prop :=
  ∃ l, Rep w ow t x l ∧ ∀ j, j < t.size → ow b (o + j) = .prot ∧ cl w b (o + j) = l[j]?

def RelCaps (G : Gh) (m : Mem) (act : Nat → Prop) : List (Nat × Nat) → List Value → Prop
  | [], [] => True
  | (i, off) :: l, v :: vs => (act i ∧ (∃ cs, lk m.boxes i = some cs) ∧ v = ptr (G.bx i).1 ((G.bx i).2 + off)) ∧ RelCaps G m act l vs
  | _, _ => False

def Rel1 (G : Gh) (m : Mem) (act : Nat → Prop) (w : World) : T → Value → Prop
  | .dat t x, v => RepV w G.ow t x v
  | .nil, v => v = .slice none 0 0
  | .own k, v => act k ∧ ∃ g, lk m.gr k = some g ∧ (g.md ≠ .dead → v = G.gv k)
  | .addr i off, v => act i ∧ (∃ cs, lk m.boxes i = some cs) ∧ v = ptr (G.bx i).1 ((G.bx i).2 + off)
  | .aptr i off n u ix, v => act i ∧ (∃ cs, lk m.boxes i = some cs ∧ off + n * u.size ≤ cs.length) ∧ 0 ≤ ix ∧ ix < (n : Int) ∧ v = ptr (G.bx i).1 ((G.bx i).2 + off + ix.toNat * u.size)
  | .rptr t x, v => ∃ b o, v = ptr b o ∧ At w G.ow t x b o
  | .eptr k ver i off t x, v => act k ∧ ∃ g, lk m.gr k = some g ∧ (g.md ≠ .dead → ∃ b o len cap, G.gv k = .slice (some ⟨b, o, none⟩) len cap ∧
      0 ≤ i ∧ i.toNat < g.xs.length ∧ v = ptr b (o + i.toNat * g.t.size + off) ∧ ver ≤ g.ver ∧ (g.ver = ver → ∃ h : t = g.t, g.xs[i.toNat]? = some (castE h x)))
  | .clo f caps, v => ∃ cs : Array Value, v = .func (.func f) #[] cs ∧ RelCaps G m act caps cs.toList
  | .undef, v => v = undef
  | .unk, _ => True
  | .tup _, _ => False
  | .agv _ _, _ => False
  | .cnd _ _ _, _ => False

def RelT (G : Gh) (m : Mem) (act : Nat → Prop) (w : World) : T → Value → Prop
  | .tup l, v => ∃ vs : Array Value, v = .tuple vs ∧ l.length = vs.size ∧ ∀ i, i < l.length → Rel1 G m act w (getT l i) (vs.getD i undef)
  | .agv _ l, v => ∃ vs : Array Value, v = .agg vs ∧ l.length = vs.size ∧ ∀ i, i < l.length → Rel1 G m act w (getT l i) (vs.getD i undef) ∧ (vs.getD i undef).oneCell = true
  | t, v => Rel1 G m act w t v

def RelC (G : Gh) (m : Mem) (act : Nat → Prop) (w : World) (tmps : Array Value) : T → Value → Prop
  | .cnd s b u, v => (tmps[s]? = some (.bool b) → RelT G m act w u v) ∧ (tmps[s]? ≠ some (.bool b) → v = undef)
  | t, v => RelT G m act w t v

structure RelTm (G : Gh) (m : Mem) (act : Nat → Prop) (w : World) (tm : List T) (tmps : Array Value) : Prop where
  size : tm.length = tmps.size
  rel : ∀ i, i < tm.length → RelC G m act w tmps (getT tm i) (tmps.getD i undef)

def BoxOK (G : Gh) (m : Mem) (act : Nat → Prop) (w : World) (k : Nat) (cs : List T) : Prop :=
  ∀ j, j < cs.length → G.ow (G.bx k).1 ((G.bx k).2 + j) = .box k ∧ fz w (G.bx k).1 ((G.bx k).2 + j) = false ∧
    ∃ v, cl w (G.bx k).1 ((G.bx k).2 + j) = some v ∧ v.oneCell = true ∧ Rel1 G m act w (getT cs j) v

/-- a slice that the call made: its elements lie in cells of an owner; behind them there is room, its own -/
def GrRow (G : Gh) (w : World) (k : Nat) (t : Ty) (xs : List (El t)) (c : Ow) : Prop :=
  ∃ a len cap, G.gv k = .slice a len cap ∧ len = xs.length ∧ len ≤ cap ∧
    (0 < cap → ∃ b o, a = some ⟨b, o, none⟩ ∧
      Row w (fun b o => G.ow b o = c ∧ (c = .gr k → fz w b o = false)) (fun x l => Rep w G.ow t x l) t.size b o xs ∧
      ∀ q, len * t.size ≤ q → q < cap * t.size → G.ow b (o + q) = .gr k ∧ fz w b (o + q) = false ∧ ∃ v, cl w b (o + q) = some v)

def GrOK (G : Gh) (w : World) (k : Nat) (g : Gr) : Prop :=
  match g.md with
  | .dead => True
  | .excl => GrRow G w k g.t g.xs (.gr k)
  | .shared => GrRow G w k g.t g.xs .prot

structure InvM (G : Gh) (m : Mem) (act : Nat → Prop) (w : World) : Prop where
  box : ∀ k cs, act k → lk m.boxes k = some cs → BoxOK G m act w k cs
  gr : ∀ k g, act k → lk m.gr k = some g → GrOK G w k g
  lt : ∀ b o, G.ow b o ≠ .none → b < w.heap.size

/-- what was there when the call began and is not its own is as it was -/
structure Frame (w0 : World) (ow0 : OwF) (ow : OwF) (w : World) : Prop where
  os : w.os = w0.os
  tape : w.tape = w0.tape
  output : w.output = w0.output
  size : w0.heap.size ≤ w.heap.size
  cell : ∀ b o, b < w0.heap.size → ¬ (ow0 b o).owned → cl w b o = cl w0 b o ∧ fz w b o = fz w0 b o
  block : ∀ b, b < w0.heap.size → (∀ o, ¬ (ow0 b o).owned) → w.heap[b]? = w0.heap[b]?
  own : ∀ b o, b < w0.heap.size → (ow b o).owned → (ow0 b o).owned
  prot : ∀ b o, ow0 b o = .prot → ow b o = .prot
  non : ∀ b o, b < w0.heap.size → ow0 b o = .none → ow b o = .none

def GlobOK (E : Env) (ow : OwF) (w : World) : Prop :=
  ∀ g t x, E.glob g = some ⟨t, x⟩ → At w ow t x g 0 ∧ ow g t.size = .prot ∧ cl w g t.size = none

structure Base where
  w : World
  ow : OwF
  n : Nat
  bx : Nat → Nat × Nat
  len : Nat → Nat
  N : Nat

/-- the boxes of the beginning are where they were -/
def BxOK (B : Base) (G : Gh) (m : Mem) (act : Nat → Prop) : Prop :=
  ∀ j, j < B.n → act j ∧ G.bx j = B.bx j ∧ ∃ cs, lk m.boxes j = some cs ∧ cs.length = B.len j

structure RelAll (E : Env) (B : Base) (G : Gh) (m : Mem) (act : Nat → Prop) (w : World) (tm : List T) (a : Act) : Prop where
  tms : RelTm G m act w tm a.tmps
  inv : InvM G m act w
  fr : Frame B.w B.ow G.ow w
  glob : GlobOK E G.ow w
  defers : a.defers = []
  bx : BxOK B G m act
  sz : tm.length = B.N

/-! ### lengths, and what stays -/

theorem repN_len {α : Type} {one : α → List Value → Prop} {sz : Nat} (h1 : ∀ x l, one x l → l.length = sz) :
    ∀ (xs : List α) (cs : List Value), RepN one xs cs → cs.length = xs.length * sz := by
  intro xs
  induction xs with
  | nil => intro cs h; simp only [RepN] at h; subst h; simp
  | cons x xs ih =>
    intro cs h
    obtain ⟨l, r, rfl, hl, hr⟩ := h
    rw [List.length_append, h1 _ _ hl, ih _ hr, List.length_cons, Nat.succ_mul]; omega

theorem rep_len {w : World} {ow : OwF} : ∀ (t : Ty) (x : El t) (cs : List Value), Rep w ow t x cs → cs.length = t.size := by
  intro t
  induction t with
  | int k => intro x cs h; simp only [Rep] at h; subst h; rfl
  | bool => intro x cs h; simp only [Rep] at h; subst h; rfl
  | str => intro x cs h; simp only [Rep] at h; subst h; rfl
  | err => intro x cs h; obtain ⟨v, rfl, _⟩ := h; rfl
  | sl t _ => intro x cs h; obtain ⟨a, len, cap, rfl, _⟩ := h; rfl
  | unit => intro x cs h; simp only [Rep] at h; subst h; rfl
  | pair a b iha ihb =>
    intro x cs h
    obtain ⟨l, r, rfl, hl, hr⟩ := h
    rw [List.length_append, iha _ _ hl, ihb _ _ hr]; rfl
  | arr n t ih =>
    intro x cs h
    obtain ⟨hn, h⟩ := h
    rw [repN_len (sz := t.size) (fun x l h => ih x l h) _ _ h, hn]; rfl

theorem repN_all {α : Type} {one : α → List Value → Prop} {p : Value → Prop} (h1 : ∀ x l, one x l → ∀ v ∈ l, p v) :
    ∀ (xs : List α) (cs : List Value), RepN one xs cs → ∀ v ∈ cs, p v := by
  intro xs
  induction xs with
  | nil => intro cs h; simp only [RepN] at h; subst h; simp
  | cons x xs ih =>
    intro cs h v hv
    obtain ⟨l, r, rfl, hl, hr⟩ := h
    rcases List.mem_append.1 hv with hv | hv
    · exact h1 _ _ hl _ hv
    · exact ih _ hr _ hv

/-- data lie in cells of one value each -/
theorem rep_one {w : World} {ow : OwF} : ∀ (t : Ty) (x : El t) (cs : List Value), Rep w ow t x cs → ∀ v ∈ cs, v.oneCell = true := by
  intro t
  induction t with
  | int k => intro x cs h; simp only [Rep] at h; subst h; simp [Value.oneCell]
  | bool => intro x cs h; simp only [Rep] at h; subst h; simp [Value.oneCell]
  | str => intro x cs h; simp only [Rep] at h; subst h; simp [Value.oneCell]
  | err =>
    intro x cs h
    obtain ⟨v, rfl, h⟩ := h
    rcases h with ⟨_, rfl⟩ | ⟨_, t, u, rfl⟩ <;> simp [Value.oneCell]
  | sl t _ => intro x cs h; obtain ⟨a, len, cap, rfl, _⟩ := h; simp [Value.oneCell]
  | unit => intro x cs h; simp only [Rep] at h; subst h; simp
  | pair a b iha ihb =>
    intro x cs h v hv
    obtain ⟨l, r, rfl, hl, hr⟩ := h
    rcases List.mem_append.1 hv with hv | hv
    · exact iha _ _ hl _ hv
    · exact ihb _ _ hr _ hv
  | arr n t ih =>
    intro x cs h
    exact repN_all (fun x l h => ih x l h) _ _ h.2

/-- what nobody writes stays -/
def Keeps (w : World) (ow : OwF) (w' : World) (ow' : OwF) : Prop :=
  ∀ b o, ow b o = .prot → ow' b o = .prot ∧ cl w' b o = cl w b o

theorem Keeps.refl (w : World) (ow : OwF) : Keeps w ow w ow := fun _ _ h => ⟨h, rfl⟩
theorem Keeps.trans {w w1 w2 : World} {ow ow1 ow2 : OwF} (h : Keeps w ow w1 ow1) (k : Keeps w1 ow1 w2 ow2) : Keeps w ow w2 ow2 :=
  fun b o hp => ⟨(k b o (h b o hp).1).1, by rw [(k b o (h b o hp).1).2, (h b o hp).2]⟩

theorem repN_mono {α : Type} {one one' : α → List Value → Prop} (h1 : ∀ x l, one x l → one' x l) :
    ∀ (xs : List α) (cs : List Value), RepN one xs cs → RepN one' xs cs := by
  intro xs
  induction xs with
  | nil => intro cs h; exact h
  | cons x xs ih =>
    intro cs h
    obtain ⟨l, r, rfl, hl, hr⟩ := h
    exact ⟨l, r, rfl, h1 _ _ hl, ih _ hr⟩

theorem rep_mono {w w' : World} {ow ow' : OwF} (hk : Keeps w ow w' ow') : ∀ (t : Ty) (x : El t) (cs : List Value), Rep w ow t x cs → Rep w' ow' t x cs := by
  intro t
  induction t with
  | int k => intro x cs h; exact h
  | bool => intro x cs h; exact h
  | str => intro x cs h; exact h
  | err => intro x cs h; exact h
  | unit => intro x cs h; exact h
  | pair a b iha ihb =>
    intro x cs h
    obtain ⟨l, r, rfl, hl, hr⟩ := h
    exact ⟨l, r, rfl, iha _ _ hl, ihb _ _ hr⟩
  | arr n t ih =>
    intro x cs h
    exact ⟨h.1, repN_mono (fun x l h => ih x l h) _ _ h.2⟩
  | sl t ih =>
    intro x cs h
    obtain ⟨a, len, cap, rfl, h1, h2, h3⟩ := h
    refine ⟨a, len, cap, rfl, h1, h2, fun hne => ?_⟩
    obtain ⟨b, o, rfl, hr⟩ := h3 hne
    refine ⟨b, o, rfl, fun i hi => ?_⟩
    obtain ⟨l, hl, hc⟩ := hr i hi
    refine ⟨l, ih _ _ hl, fun j hj => ?_⟩
    obtain ⟨p1, p2⟩ := hc j hj
    exact ⟨(hk _ _ p1).1, by rw [(hk _ _ p1).2, p2]⟩

theorem repV_mono {w w' : World} {ow ow' : OwF} (hk : Keeps w ow w' ow') {t : Ty} {x : El t} {v : Value} (h : RepV w ow t x v) : RepV w' ow' t x v := by
  unfold RepV at *
  split
  · rename_i ha; rw [if_pos ha] at h
    obtain ⟨cs, rfl, h⟩ := h
    exact ⟨cs, rfl, rep_mono hk _ _ _ h⟩
  · rename_i ha; rw [if_neg ha] at h
    exact rep_mono hk _ _ _ h

theorem at_mono {w w' : World} {ow ow' : OwF} (hk : Keeps w ow w' ow') {t : Ty} {x : El t} {b o : Nat} (h : At w ow t x b o) : At w' ow' t x b o := by
  obtain ⟨l, hl, hc⟩ := h
  refine ⟨l, rep_mono hk _ _ _ hl, fun j hj => ?_⟩
  obtain ⟨p1, p2⟩ := hc j hj
  exact ⟨(hk _ _ p1).1, by rw [(hk _ _ p1).2, p2]⟩

/-- what may become of an entry -/
inductive GrLe : Gr → Gr → Prop
  | dead (g g' : Gr) (h : g'.md = .dead) : GrLe g g'
  | same (t : Ty) (xs : List (El t)) (md md' : Mode) (v : Nat) (h : md ≠ .dead) : GrLe ⟨t, xs, md, v⟩ ⟨t, xs, md', v⟩
  | wrote (t : Ty) (xs xs' : List (El t)) (md : Mode) (v : Nat) (h : md ≠ .dead) (hl : xs'.length = xs.length) : GrLe ⟨t, xs, md, v⟩ ⟨t, xs', md, v + 1⟩

/-- another memory that tells no less of what is active -/
structure MemLe (G : Gh) (m : Mem) (p : Nat → Prop) (G' : Gh) (m' : Mem) (p' : Nat → Prop) : Prop where
  act : ∀ k, p k → p' k
  box : ∀ k cs, p k → lk m.boxes k = some cs → G'.bx k = G.bx k ∧ ∃ cs', lk m'.boxes k = some cs' ∧ cs'.length = cs.length
  gr : ∀ k g, p k → lk m.gr k = some g → ∃ g', lk m'.gr k = some g' ∧ GrLe g g' ∧ (g'.md ≠ .dead → G'.gv k = G.gv k)

theorem MemLe.refl (G : Gh) (m : Mem) (p : Nat → Prop) : MemLe G m p G m p :=
  ⟨fun _ h => h, fun _ cs _ h => ⟨rfl, cs, h, rfl⟩, fun k g _ h => ⟨g, h, by
    obtain ⟨t, xs, md, v⟩ := g
    cases md with
    | dead => exact .dead _ _ rfl
    | excl => exact .same _ _ _ _ _ (by simp)
    | shared => exact .same _ _ _ _ _ (by simp), fun _ => rfl⟩⟩

theorem relCaps_mono {G G' : Gh} {m m' : Mem} {p p' : Nat → Prop} (h : MemLe G m p G' m' p') :
    ∀ (l : List (Nat × Nat)) (vs : List Value), RelCaps G m p l vs → RelCaps G' m' p' l vs := by
  intro l
  induction l with
  | nil => intro vs hr; cases vs <;> simp_all [RelCaps]
  | cons x l ih =>
    intro vs hr
    obtain ⟨i, off⟩ := x
    cases vs with
    | nil => exact hr.elim
    | cons v vs =>
      obtain ⟨⟨ha, ⟨cs, hc⟩, hv⟩, hr⟩ := hr
      obtain ⟨hb, cs', hc', _⟩ := h.box i cs ha hc
      exact ⟨⟨h.act _ ha, ⟨cs', hc'⟩, by rw [hb]; exact hv⟩, ih vs hr⟩

theorem rel1_mono {G G' : Gh} {m m' : Mem} {p p' : Nat → Prop} {w w' : World} (h : MemLe G m p G' m' p') (hk : Keeps w G.ow w' G'.ow)
    {u : T} {v : Value} (hr : Rel1 G m p w u v) : Rel1 G' m' p' w' u v := by
  cases u with
  | dat t x => exact repV_mono hk hr
  | nil => exact hr
  | own k =>
    obtain ⟨ha, g, hg, hv⟩ := hr
    obtain ⟨g', hg', hle, hgv⟩ := h.gr k g ha hg
    refine ⟨h.act _ ha, g', hg', fun hd => ?_⟩
    rw [hgv hd]
    refine hv ?_
    cases hle with
    | dead _ _ h => exact (hd h).elim
    | same _ _ _ _ _ h => exact h
    | wrote _ _ _ _ _ h => exact h
  | addr i off =>
    obtain ⟨ha, ⟨cs, hc⟩, hv⟩ := hr
    obtain ⟨hb, cs', hc', _⟩ := h.box i cs ha hc
    exact ⟨h.act _ ha, ⟨cs', hc'⟩, by rw [hb]; exact hv⟩
  | aptr i off n t ix =>
    obtain ⟨ha, ⟨cs, hc, hl⟩, h0, h1, hv⟩ := hr
    obtain ⟨hb, cs', hc', hl'⟩ := h.box i cs ha hc
    exact ⟨h.act _ ha, ⟨cs', hc', by omega⟩, h0, h1, by rw [hb]; exact hv⟩
  | rptr t x =>
    obtain ⟨b, o, hv, hat⟩ := hr
    exact ⟨b, o, hv, at_mono hk hat⟩
  | eptr k ver i off t x =>
    obtain ⟨ha, g, hg, hv⟩ := hr
    obtain ⟨g', hg', hle, hgv⟩ := h.gr k g ha hg
    refine ⟨h.act _ ha, g', hg', fun hd => ?_⟩
    cases hle with
    | dead _ _ h => exact (hd h).elim
    | same t' xs md md' v h =>
      obtain ⟨b, o, len, cap, h1, h2⟩ := hv h
      exact ⟨b, o, len, cap, (hgv hd).trans h1, h2⟩
    | wrote t' xs xs' md v h hl =>
      obtain ⟨b, o, len, cap, h1, h2, h3, h4, h5, h6⟩ := hv h
      refine ⟨b, o, len, cap, (hgv hd).trans h1, h2, by dsimp only at *; omega, h4, by dsimp only at *; omega, fun he => ?_⟩
      dsimp only at *; omega
  | clo f caps =>
    obtain ⟨cs, hv, hc⟩ := hr
    exact ⟨cs, hv, relCaps_mono h _ _ hc⟩
  | undef => exact hr
  | unk => trivial
  | tup _ => exact hr.elim
  | agv _ _ => exact hr.elim
  | cnd _ _ _ => exact hr.elim

def T.isTup : T → Bool
  | .tup _ => true
  | .agv _ _ => true
  | _ => false
theorem relT_eq1 {G : Gh} {m : Mem} {p : Nat → Prop} {w : World} {u : T} {v : Value} (hu : u.isTup = false) : RelT G m p w u v = Rel1 G m p w u v := by
  cases u <;> first | rfl | simp [T.isTup] at hu
theorem relT_of1 {G : Gh} {m : Mem} {p : Nat → Prop} {w : World} {u : T} {v : Value} (h : Rel1 G m p w u v) : RelT G m p w u v := by
  cases u <;> first | exact h | exact h.elim

theorem relT_mono {G G' : Gh} {m m' : Mem} {p p' : Nat → Prop} {w w' : World} (h : MemLe G m p G' m' p') (hk : Keeps w G.ow w' G'.ow)
    {u : T} {v : Value} (hr : RelT G m p w u v) : RelT G' m' p' w' u v := by
  cases u with
  | tup l =>
    obtain ⟨vs, hv, hl, hi⟩ := hr
    exact ⟨vs, hv, hl, fun i hlt => rel1_mono h hk (hi i hlt)⟩
  | agv t l =>
    obtain ⟨vs, hv, hl, hi⟩ := hr
    exact ⟨vs, hv, hl, fun i hlt => ⟨rel1_mono h hk (hi i hlt).1, (hi i hlt).2⟩⟩
  | _ => (rw [relT_eq1 rfl] at hr ⊢; exact rel1_mono h hk hr)

theorem relC_mono {G G' : Gh} {m m' : Mem} {p p' : Nat → Prop} {w w' : World} (h : MemLe G m p G' m' p') (hk : Keeps w G.ow w' G'.ow)
    {tmps : Array Value} {u : T} {v : Value} (hr : RelC G m p w tmps u v) : RelC G' m' p' w' tmps u v := by
  cases u with
  | cnd s b u => exact ⟨fun hs => relT_mono h hk (hr.1 hs), hr.2⟩
  | _ => (simp only [RelC] at hr ⊢; exact relT_mono h hk hr)

theorem relTm_mono {G G' : Gh} {m m' : Mem} {p p' : Nat → Prop} {w w' : World} (h : MemLe G m p G' m' p') (hk : Keeps w G.ow w' G'.ow)
    {tm : List T} {tmps : Array Value} (hr : RelTm G m p w tm tmps) : RelTm G' m' p' w' tm tmps :=
  ⟨hr.size, fun i hi => relC_mono h hk (hr.rel i hi)⟩

theorem bx_mono {B : Base} {G G' : Gh} {m m' : Mem} {p p' : Nat → Prop} (h : MemLe G m p G' m' p') (hb : BxOK B G m p) : BxOK B G' m' p' := fun j hj => by
  obtain ⟨h1, h2, cs, h3, h4⟩ := hb j hj
  obtain ⟨e1, cs', e2, e3⟩ := h.box j cs h1 h3
  exact ⟨h.act j h1, e1.trans h2, cs', e2, e3.trans h4⟩

theorem glob_mono {E : Env} {ow ow' : OwF} {w w' : World} (hk : Keeps w ow w' ow') (h : GlobOK E ow w) : GlobOK E ow' w' :=
  fun g t x hg => ⟨at_mono hk (h g t x hg).1, (hk _ _ (h g t x hg).2.1).1, (hk _ _ (h g t x hg).2.1).2.trans (h g t x hg).2.2⟩

end Mini

/- Steps of memory under the relation: sharing, new boxes, new entries, stores. -/
namespace Mini
open Go

theorem boxOK_mono {G G' : Gh} {m m' : Mem} {p p' : Nat → Prop} {w w' : World} {k : Nat} {cs : List T} (h : MemLe G m p G' m' p') (hk : Keeps w G.ow w' G'.ow)
    (hb : G'.bx k = G.bx k) (ho : ∀ b o, G.ow b o = .box k → G'.ow b o = .box k ∧ cl w' b o = cl w b o ∧ fz w' b o = fz w b o)
    (hr : BoxOK G m p w k cs) : BoxOK G' m' p' w' k cs := by
  intro j hj
  obtain ⟨h1, h2, v, h3, h4, h5⟩ := hr j hj
  obtain ⟨o1, o2, o3⟩ := ho _ _ h1
  rw [hb]
  exact ⟨o1, by rw [o3]; exact h2, v, by rw [o2]; exact h3, h4, rel1_mono h hk h5⟩

theorem row_mono {α : Type} {w w' : World} {P P' : Nat → Nat → Prop} {one one' : α → List Value → Prop} {sz b o : Nat} {xs : List α}
    (h1 : ∀ x l, one x l → one' x l) (h2 : ∀ o, P b o → P' b o ∧ cl w' b o = cl w b o) (h : Row w P one sz b o xs) : Row w' P' one' sz b o xs := by
  intro i hi
  obtain ⟨l, hl, hc⟩ := h i hi
  refine ⟨l, h1 _ _ hl, fun j hj => ?_⟩
  obtain ⟨c1, c2⟩ := hc j hj
  obtain ⟨d1, d2⟩ := h2 _ c1
  exact ⟨d1, d2.trans c2⟩

theorem grRow_mono {G G' : Gh} {w w' : World} {k : Nat} {t : Ty} {xs : List (El t)} {c : Ow} (hc : c = .prot ∨ c = .gr k) (hk : Keeps w G.ow w' G'.ow)
    (hv : G'.gv k = G.gv k) (ho : ∀ b o, G.ow b o = .gr k → G'.ow b o = .gr k ∧ cl w' b o = cl w b o ∧ fz w' b o = fz w b o)
    (h : GrRow G w k t xs c) : GrRow G' w' k t xs c := by
  obtain ⟨a, len, cap, h1, h2, h3, h5⟩ := h
  refine ⟨a, len, cap, hv.trans h1, h2, h3, fun p => ?_⟩
  obtain ⟨b, o, rfl, h6, h7⟩ := h5 p
  refine ⟨b, o, rfl, row_mono (fun x l h => rep_mono hk _ _ _ h) (fun o hq => ?_) h6, fun q hq1 hq2 => ?_⟩
  · rcases hc with rfl | rfl
    · exact ⟨⟨(hk _ _ hq.1).1, fun h => by cases h⟩, (hk _ _ hq.1).2⟩
    · obtain ⟨o1, o2, o3⟩ := ho _ _ hq.1
      exact ⟨⟨o1, fun _ => by rw [o3]; exact hq.2 rfl⟩, o2⟩
  · obtain ⟨q1, q2, v, q3⟩ := h7 q hq1 hq2
    obtain ⟨o1, o2, o3⟩ := ho _ _ q1
    exact ⟨o1, by rw [o3]; exact q2, v, by rw [o2]; exact q3⟩

theorem grOK_mono {G G' : Gh} {w w' : World} {k : Nat} {g : Gr} (hk : Keeps w G.ow w' G'.ow)
    (hv : G'.gv k = G.gv k) (ho : ∀ b o, G.ow b o = .gr k → G'.ow b o = .gr k ∧ cl w' b o = cl w b o ∧ fz w' b o = fz w b o)
    (h : GrOK G w k g) : GrOK G' w' k g := by
  unfold GrOK at *
  split
  · trivial
  · rename_i hm; rw [hm] at h; exact grRow_mono (.inr rfl) hk hv ho h
  · rename_i hm; rw [hm] at h; exact grRow_mono (.inl rfl) hk hv ho h

/-! ### lookups -/

theorem lk_up_self {α : Type} (l : List (Nat × α)) (k : Nat) (f : α → α) : lk (up l k f) k = (lk l k).map f := by
  induction l with
  | nil => rfl
  | cons x l ih =>
    obtain ⟨n, y⟩ := x
    by_cases h : n = k
    · simp [up, lk, h]
    · simp [up, lk, h, ih]

theorem lk_up_ne {α : Type} (l : List (Nat × α)) {k n : Nat} (f : α → α) (h : n ≠ k) : lk (up l k f) n = lk l n := by
  induction l with
  | nil => rfl
  | cons x l ih =>
    obtain ⟨q, y⟩ := x
    by_cases hq : q = k
    · subst hq
      simp only [up, if_true, lk]
      rw [if_neg (Ne.symm h), if_neg (Ne.symm h)]
    · simp only [up, hq, if_false, lk]
      rw [ih]

theorem lk_cons {α : Type} (l : List (Nat × α)) (k n : Nat) (x : α) : lk ((k, x) :: l) n = if k = n then some x else lk l n := rfl

theorem lk_freeK {α : Type} {κ : Nat} : ∀ {l : List (Nat × α)}, freeK κ l = true → ∀ n, n < 1024 → lk l (κ + n) = none := by
  intro l
  induction l with
  | nil => intro _ n _; rfl
  | cons x l ih =>
    obtain ⟨k, y⟩ := x
    intro h n hn
    simp only [freeK, Bool.and_eq_true, Bool.or_eq_true, Nat.blt_eq, Nat.ble_eq] at h
    rw [lk_cons, if_neg (by omega)]
    exact ih h.2 n hn

/-! ### sharing -/

theorem shareG_t (g : Gr) : (shareG g).t = g.t := by obtain ⟨t, xs, md, v⟩ := g; cases md <;> rfl
theorem shareG_of {g : Gr} (h : g.md ≠ .excl) : shareG g = g := by obtain ⟨t, xs, md, v⟩ := g; cases md <;> first | rfl | exact (h rfl).elim
theorem grLe_share (g : Gr) : GrLe g (shareG g) := by
  obtain ⟨t, xs, md, v⟩ := g
  cases md with
  | dead => exact .dead _ _ rfl
  | excl => exact .same _ _ _ _ _ (by simp)
  | shared => exact .same _ _ _ _ _ (by simp)
theorem grLe_refl (g : Gr) : GrLe g g := by
  obtain ⟨t, xs, md, v⟩ := g
  cases md with
  | dead => exact .dead _ _ rfl
  | excl => exact .same _ _ _ _ _ (by simp)
  | shared => exact .same _ _ _ _ _ (by simp)

theorem tup_inj {α β : Type} {a c : α} {b d : β} (h : (a, b) = (c, d)) : a = c ∧ b = d := by cases h; exact ⟨rfl, rfl⟩

/-- one of the call's own slices becomes data -/
theorem share_one {E : Env} {B : Base} {G : Gh} {m : Mem} {p : Nat → Prop} {w : World} {tm : List T} {a : Act} (h : RelAll E B G m p w tm a) (k : Nat) (hp : p k) :
    ∃ G' : Gh, RelAll E B G' ⟨m.boxes, up m.gr k shareG⟩ p w tm a ∧ MemLe G m p G' ⟨m.boxes, up m.gr k shareG⟩ p ∧ Keeps w G.ow w G'.ow ∧ G'.bx = G.bx ∧ G'.gv = G.gv ∧
      (∀ b o, G'.ow b o ≠ G.ow b o → G.ow b o = .gr k ∧ G'.ow b o = .prot) := by
  have hml : ∀ G' : Gh, G'.bx = G.bx → G'.gv = G.gv → MemLe G m p G' ⟨m.boxes, up m.gr k shareG⟩ p := fun G' hb hv =>
    ⟨fun _ h => h, fun q cs _ hc => ⟨by rw [hb], cs, hc, rfl⟩, fun q g _ hg => by
      by_cases hq : q = k
      · subst hq
        exact ⟨shareG g, by simp only [lk_up_self, hg, Option.map_some], grLe_share g, fun _ => by rw [hv]⟩
      · exact ⟨g, by simp only [lk_up_ne _ _ hq, hg], grLe_refl g, fun _ => by rw [hv]⟩⟩
  by_cases hx : ∃ g, lk m.gr k = some g ∧ g.md = .excl
  · obtain ⟨g, hg, hmd⟩ := hx
    have hok := h.inv.gr k g hp hg
    simp only [GrOK, hmd] at hok
    obtain ⟨ad, len, cap, h1, h2, h3, h5⟩ := hok
    -- the cells of the elements
    let isE : Nat → Nat → Prop := fun b o => ∃ o0, ad = some ⟨b, o0, none⟩ ∧ o0 ≤ o ∧ o < o0 + len * g.t.size
    have hE : ∀ b o, isE b o → G.ow b o = .gr k := by
      rintro b o ⟨o0, ha, hlo, hhi⟩
      have hcp : 0 < cap := by
        rcases Nat.eq_zero_or_pos cap with hz | hz
        · have : len = 0 := by omega
          rw [this, Nat.zero_mul] at hhi; omega
        · exact hz
      obtain ⟨b', o', hpe, hrow, _⟩ := h5 hcp
      rw [ha] at hpe
      simp only [Option.some.injEq, Addr.mk.injEq] at hpe
      obtain ⟨rfl, rfl, _⟩ := hpe
      have hsz : 0 < g.t.size := by
        rcases Nat.eq_zero_or_pos g.t.size with hz | hz
        · rw [hz] at hhi; omega
        · exact hz
      have hi : (o - o0) / g.t.size < g.xs.length := by
        rw [Nat.div_lt_iff_lt_mul hsz, ← h2]; omega
      obtain ⟨l, _, hc⟩ := hrow _ hi
      have hj := hc ((o - o0) % g.t.size) (Nat.mod_lt _ hsz)
      have he : o0 + (o - o0) / g.t.size * g.t.size + (o - o0) % g.t.size = o := by
        have := Nat.div_add_mod (o - o0) g.t.size
        rw [Nat.mul_comm] at this; omega
      rw [he] at hj
      exact hj.1.1
    classical
    let G' : Gh := { G with ow := fun b o => if isE b o then .prot else G.ow b o }
    have hkeep : Keeps w G.ow w G'.ow := fun b o hq => ⟨by
      show (if isE b o then Ow.prot else G.ow b o) = .prot
      split
      · rfl
      · exact hq, rfl⟩
    have hle := hml G' rfl rfl
    have hne : ∀ c : Ow, c ≠ .gr k → c ≠ .prot → ∀ b o, G.ow b o = c → G'.ow b o = c := fun c hc hc' b o ho => by
      show (if isE b o then Ow.prot else G.ow b o) = c
      rw [if_neg (fun he => hc (ho.symm.trans (hE b o he)))]
      exact ho
    refine ⟨G', ⟨relTm_mono hle hkeep h.tms, ⟨?_, ?_, ?_⟩, ?_, glob_mono hkeep h.glob, h.defers, bx_mono hle h.bx, h.sz⟩, hle, hkeep, rfl, rfl, ?_⟩
    · intro q cs hq hc
      exact boxOK_mono hle hkeep rfl (fun b o ho => ⟨hne _ (by simp) (by simp) b o ho, rfl, rfl⟩) (h.inv.box q cs hq hc)
    · intro q g' hq hg'
      by_cases hqk : q = k
      · subst hqk
        simp only [lk_up_self, hg, Option.map_some, Option.some.injEq] at hg'
        subst hg'
        obtain ⟨t, xs, md, v⟩ := g
        simp only at hmd; subst hmd
        show GrRow G' w q t xs .prot
        refine ⟨ad, len, cap, h1, h2, h3, fun hcp => ?_⟩
        obtain ⟨b, o, hpa, hrow, hsp⟩ := h5 hcp
        refine ⟨b, o, hpa, ?_, fun z hz1 hz2 => ?_⟩
        · intro i hi
          obtain ⟨l, hl, hc⟩ := hrow i hi
          refine ⟨l, rep_mono hkeep _ _ _ hl, fun j hj => ⟨⟨?_, fun hx => by cases hx⟩, (hc j hj).2⟩⟩
          show (if isE b (o + i * t.size + j) then Ow.prot else _) = .prot
          rw [if_pos]
          refine ⟨o, hpa, by omega, ?_⟩
          have : (i + 1) * t.size ≤ len * t.size := Nat.mul_le_mul_right _ (by dsimp only at *; omega)
          rw [Nat.succ_mul] at this; dsimp only at *; omega
        · obtain ⟨z1, z2⟩ := hsp z hz1 hz2
          refine ⟨?_, z2⟩
          show (if isE b (o + z) then Ow.prot else _) = .gr q
          rw [if_neg]
          · exact z1
          · rintro ⟨o0, ha, hlo, hhi⟩
            rw [hpa] at ha
            simp only [Option.some.injEq, Addr.mk.injEq] at ha
            dsimp only at *; omega
      · simp only [lk_up_ne _ _ hqk] at hg'
        exact grOK_mono hkeep rfl (fun b o ho => ⟨hne _ (by simp; omega) (by simp) b o ho, rfl, rfl⟩) (h.inv.gr q g' hq hg')
    · intro b o ho
      refine h.inv.lt b o (fun hn => ho ?_)
      exact hne .none (by simp) (by simp) b o hn
    · refine { h.fr with own := fun b o hb ho => h.fr.own b o hb ?_, prot := fun b o hb => (hkeep b o (h.fr.prot b o hb)).1, non := fun b o hb ho => hne .none (by simp) (by simp) b o (h.fr.non b o hb ho) }
      have : (if isE b o then Ow.prot else G.ow b o).owned := ho
      split at this
      · exact this.elim
      · exact this
    · intro b o hd
      show G.ow b o = .gr k ∧ (if isE b o then Ow.prot else G.ow b o) = .prot
      have hd : (if isE b o then Ow.prot else G.ow b o) ≠ G.ow b o := hd
      split at hd
      · rename_i he; exact ⟨hE b o he, by rw [if_pos he]⟩
      · exact (hd rfl).elim
  · have hsame : ∀ q, lk (up m.gr k shareG) q = lk m.gr q := by
      intro q
      by_cases hq : q = k
      · subst hq
        rw [lk_up_self]
        cases hg : lk m.gr q with
        | none => rfl
        | some g => simp only [Option.map_some]; rw [shareG_of (fun e => hx ⟨g, hg, e⟩)]
      · exact lk_up_ne _ _ hq
    have hle := hml G rfl rfl
    refine ⟨G, ⟨relTm_mono hle (Keeps.refl _ _) h.tms, ⟨?_, ?_, h.inv.lt⟩, h.fr, h.glob, h.defers, bx_mono hle h.bx, h.sz⟩, hle, Keeps.refl _ _, rfl, rfl, fun b o hd => (hd rfl).elim⟩
    · intro q cs hq hc
      exact boxOK_mono hle (Keeps.refl _ _) rfl (fun b o ho => ⟨ho, rfl, rfl⟩) (h.inv.box q cs hq hc)
    · intro q g hq hg
      simp only [hsame] at hg
      exact h.inv.gr q g hq hg

theorem MemLe.trans {G G1 G2 : Gh} {m m1 m2 : Mem} {p p1 p2 : Nat → Prop} (h : MemLe G m p G1 m1 p1) (h' : MemLe G1 m1 p1 G2 m2 p2) (hn : ∀ k g g1, p k → lk m.gr k = some g → lk m1.gr k = some g1 → ∀ g2, lk m2.gr k = some g2 → GrLe g g2) : MemLe G m p G2 m2 p2 := by
  refine ⟨fun k hk => h'.act k (h.act k hk), fun k cs hk hc => ?_, fun k g hk hg => ?_⟩
  · obtain ⟨hb, cs1, hc1, hl1⟩ := h.box k cs hk hc
    obtain ⟨hb2, cs2, hc2, hl2⟩ := h'.box k cs1 (h.act k hk) hc1
    exact ⟨hb2.trans hb, cs2, hc2, hl2.trans hl1⟩
  · obtain ⟨g1, hg1, hl1, hv1⟩ := h.gr k g hk hg
    obtain ⟨g2, hg2, hl2, hv2⟩ := h'.gr k g1 (h.act k hk) hg1
    refine ⟨g2, hg2, hn k g g1 hk hg hg1 g2 hg2, fun hd => (hv2 hd).trans (hv1 fun hd1 => ?_)⟩
    cases hl2 with
    | dead _ _ h => exact hd h
    | same _ _ _ _ _ h => exact h hd1
    | wrote _ _ _ _ _ h => exact h hd1

theorem lk_shareKs {gr : List (Nat × Gr)} {k : Nat} : ∀ (ks : List Nat), lk (shareKs gr ks) k = (lk gr k).map fun g => if k ∈ ks then shareG g else g := by
  intro ks
  induction ks generalizing gr with
  | nil => simp [shareKs]
  | cons q ks ih =>
    rw [shareKs, ih]
    by_cases hq : k = q
    · subst hq
      rw [lk_up_self]
      cases lk gr k with
      | none => rfl
      | some g =>
        simp only [Option.map_some, List.mem_cons, true_or, if_true, Option.some.injEq]
        split
        · obtain ⟨t, xs, md, v⟩ := g; cases md <;> rfl
        · rfl
    · rw [lk_up_ne _ _ hq]
      cases lk gr k with
      | none => rfl
      | some g => simp [hq]

/-- slices of the call's own become data -/
theorem share_all {E : Env} {B : Base} {p : Nat → Prop} {w : World} {tm : List T} {a : Act} : ∀ (ks : List Nat) {G : Gh} {m : Mem}, RelAll E B G m p w tm a → (∀ k ∈ ks, p k) →
    ∃ G' : Gh, RelAll E B G' (m.share ks) p w tm a ∧ MemLe G m p G' (m.share ks) p ∧ Keeps w G.ow w G'.ow ∧ G'.bx = G.bx ∧ G'.gv = G.gv ∧
      (∀ b o, G'.ow b o ≠ G.ow b o → ∃ k ∈ ks, G.ow b o = .gr k ∧ G'.ow b o = .prot) := by
  intro ks
  induction ks with
  | nil =>
    intro G m h _
    exact ⟨G, h, MemLe.refl _ _ _, Keeps.refl _ _, rfl, rfl, fun b o hd => (hd rfl).elim⟩
  | cons k ks ih =>
    intro G m h hp
    obtain ⟨G1, h1, l1, k1, b1, v1, d1⟩ := share_one h k (hp k (by simp))
    obtain ⟨G2, h2, l2, k2, b2, v2, d2⟩ := ih h1 (fun q hq => hp q (by simp [hq]))
    refine ⟨G2, h2, ?_, k1.trans k2, b2.trans b1, v2.trans v1, fun b o hd => ?_⟩
    · refine ⟨fun _ h => h, fun q cs _ hc => ⟨by rw [b2, b1], cs, hc, rfl⟩, fun q g _ hg => ?_⟩
      refine ⟨if q ∈ (k :: ks) then shareG g else g, by rw [Mem.share, lk_shareKs, hg]; rfl, ?_, fun _ => by rw [v2, v1]⟩
      split
      · exact grLe_share g
      · exact grLe_refl g
    · by_cases he : G1.ow b o = G.ow b o
      · obtain ⟨q, hq, e1, e2⟩ := d2 b o (by rw [he]; exact hd)
        exact ⟨q, by simp [hq], by rw [← he]; exact e1, e2⟩
      · obtain ⟨e1, e2⟩ := d1 b o he
        exact ⟨k, by simp, e1, (k2 b o e2).1⟩

end Mini

/- New blocks and stores under the relation. -/
namespace Mini
open Go

theorem getT_get : ∀ (l : List T) (j : Nat) (h : j < l.length), getT l j = l[j] := by
  intro l
  induction l with
  | nil => intro j h; simp at h
  | cons x l ih =>
    intro j h
    cases j with
    | zero => rfl
    | succ j => simp only [getT, List.getElem_cons_succ]; exact ih j (by simpa using h)
theorem getT_ge : ∀ (l : List T) (j : Nat), l.length ≤ j → getT l j = .unk := by
  intro l
  induction l with
  | nil => intro j _; rfl
  | cons x l ih =>
    intro j h
    cases j with
    | zero => simp at h
    | succ j => simp only [getT]; exact ih j (by simpa using h)
theorem getT_append (l r : List T) (j : Nat) : getT (l ++ r) j = if j < l.length then getT l j else getT r (j - l.length) := by
  split
  · rename_i h
    rw [getT_get _ _ (by rw [List.length_append]; omega), getT_get _ _ h, List.getElem_append_left h]
  · rename_i h
    by_cases h2 : j < (l ++ r).length
    · have h3 : j - l.length < r.length := by rw [List.length_append] at h2; omega
      rw [getT_get _ _ h2, getT_get _ _ h3, List.getElem_append_right (by omega)]
    · rw [getT_ge _ _ (by omega), getT_ge]; rw [List.length_append] at h2; omega
theorem getT_drop (l : List T) (n j : Nat) : getT (l.drop n) j = getT l (n + j) := by
  by_cases h : n + j < l.length
  · have h' : j < (l.drop n).length := by rw [List.length_drop]; omega
    rw [getT_get _ _ h', getT_get _ _ h, List.getElem_drop]
  · rw [getT_ge l _ (by omega), getT_ge]; rw [List.length_drop]; omega
theorem getT_take (l : List T) (n j : Nat) (h : j < n) : getT (l.take n) j = getT l j := by
  by_cases hl : j < l.length
  · rw [getT_get _ _ (by rw [List.length_take]; omega), getT_get _ _ hl, List.getElem_take]
  · rw [getT_ge l _ (by omega), getT_ge]; rw [List.length_take]; omega
theorem setCells_len {cs l : List T} {off : Nat} (h : off + l.length ≤ cs.length) : (setCells cs off l).length = cs.length := by
  simp only [setCells, List.length_append, List.length_take, List.length_drop]; omega
theorem getT_setCells {cs l : List T} {off : Nat} (h : off + l.length ≤ cs.length) (j : Nat) :
    getT (setCells cs off l) j = if off ≤ j ∧ j < off + l.length then getT l (j - off) else getT cs j := by
  simp only [setCells, getT_append, List.length_append, List.length_take, getT_drop]
  have hm : min off cs.length = off := by omega
  rw [hm]
  by_cases h1 : j < off
  · rw [if_pos (by omega), if_pos h1, if_neg (by omega), getT_take _ _ _ h1]
  · by_cases h2 : j < off + l.length
    · rw [if_pos h2, if_neg h1, if_pos (by omega)]
    · rw [if_neg h2, if_neg (by omega)]
      congr 1; omega

/-! ### a new block -/

theorem cl_alloc (w : World) (c : Array Value) (t : TypeId) (b o : Nat) : cl (w.alloc (.cells c t)) b o = if b = w.heap.size then c[o]? else cl w b o := by
  unfold cl
  split
  · rename_i h; subst h; exact World.cell?_alloc_new _ c t o
  · rename_i h; exact World.cell?_alloc_old _ _ _ h
theorem fz_alloc (w : World) (c : Array Value) (t : TypeId) (b o : Nat) : fz (w.alloc (.cells c t)) b o = if b = w.heap.size then false else fz w b o := by
  unfold fz
  split
  · rename_i h; subst h; exact World.frozen?_alloc_new _ c t o
  · rename_i h; exact World.frozen?_alloc_old _ _ _ h
theorem heap_alloc (w : World) (o : Obj) (k : Nat) (h : k < w.heap.size) : (w.alloc o).heap[k]? = w.heap[k]? := by
  show (w.heap.push o)[k]? = _
  rw [Array.getElem?_push, if_neg (by omega)]
theorem size_alloc (w : World) (o : Obj) : (w.alloc o).heap.size = w.heap.size + 1 := by
  show (w.heap.push o).size = _; simp

/-- the world has a new block and may have drawn -/
structure Made (w w' : World) (c : Array Value) : Prop where
  os : w'.os = w.os
  tape : w'.tape = w.tape
  output : w'.output = w.output
  size : w'.heap.size = w.heap.size + 1
  cell : ∀ b o, cl w' b o = if b = w.heap.size then c[o]? else cl w b o
  froz : ∀ b o, (b = w.heap.size → o < c.size → fz w' b o = false) ∧ (b ≠ w.heap.size → fz w' b o = fz w b o)
  block : ∀ b, b < w.heap.size → w'.heap[b]? = w.heap[b]?

theorem made_alloc (w : World) (c : Array Value) (t : TypeId) : Made w (w.alloc (.cells c t)) c :=
  ⟨rfl, rfl, rfl, size_alloc _ _, cl_alloc w c t, fun b o => ⟨fun h _ => by rw [fz_alloc, if_pos h], fun h => by rw [fz_alloc, if_neg h]⟩, fun b h => heap_alloc _ _ _ h⟩

/-- how a memory with one new key stands to the elder one -/
structure NewKey (m m' : Mem) (p p' : Nat → Prop) (κ : Nat) : Prop where
  box : ∀ k, k ≠ κ → lk m'.boxes k = lk m.boxes k
  gr : ∀ k, k ≠ κ → lk m'.gr k = lk m.gr k
  up : ∀ k, p k → p' k
  down : ∀ k, p' k → p k ∨ k = κ
  new : p' κ
  nob : p κ → lk m.boxes κ = none
  nog : p κ → lk m.gr κ = none

theorem newKey_le {G G' : Gh} {m m' : Mem} {p p' : Nat → Prop} {κ : Nat} (h : NewKey m m' p p' κ) (hb : ∀ k, k ≠ κ → G'.bx k = G.bx k) (hv : ∀ k, k ≠ κ → G'.gv k = G.gv k) : MemLe G m p G' m' p' := by
  refine ⟨h.up, fun k cs hk hc => ?_, fun k g hk hg => ?_⟩
  · have hne : k ≠ κ := by rintro rfl; rw [h.nob hk] at hc; cases hc
    exact ⟨hb k hne, cs, by rw [h.box k hne]; exact hc, rfl⟩
  · have hne : k ≠ κ := by rintro rfl; rw [h.nog hk] at hg; cases hg
    exact ⟨g, by rw [h.gr k hne]; exact hg, grLe_refl g, fun _ => hv k hne⟩

/-- the rest of the relation behind a new block, whose cells have new owners -/
theorem made_rest {E : Env} {B : Base} {G : Gh} {m m' : Mem} {p p' : Nat → Prop} {w w' : World} {tm : List T} {a : Act} {c : Array Value} {κ : Nat} {own : Nat → Ow} {loc : Nat × Nat} {val : Value}
    (h : RelAll E B G m p w tm a) (hm : Made w w' c) (hn : NewKey m m' p p' κ) :
    let G' : Gh := ⟨fun b o => if b = w.heap.size ∧ o < c.size then own o else G.ow b o, fun k => if k = κ then loc else G.bx k, fun k => if k = κ then val else G.gv k⟩
    Keeps w G.ow w' G'.ow ∧ MemLe G m p G' m' p' ∧
    ((∀ cs, lk m'.boxes κ = some cs → BoxOK G' m' p' w' κ cs) → (∀ g, lk m'.gr κ = some g → GrOK G' w' κ g) → RelAll E B G' m' p' w' tm a) := by
  intro G'
  have hlt : ∀ b o, G.ow b o ≠ .none → b < w.heap.size := h.inv.lt
  have hsame : ∀ b o, G.ow b o ≠ .none → G'.ow b o = G.ow b o ∧ cl w' b o = cl w b o ∧ fz w' b o = fz w b o := by
    intro b o ho
    have hb := hlt b o ho
    refine ⟨?_, ?_, (hm.froz b o).2 (by omega)⟩
    · show (if b = w.heap.size ∧ o < c.size then own o else G.ow b o) = G.ow b o
      rw [if_neg (by omega)]
    · rw [hm.cell, if_neg (by omega)]
  have hk : Keeps w G.ow w' G'.ow := fun b o ho => by
    obtain ⟨h1, h2, _⟩ := hsame b o (by rw [ho]; simp)
    exact ⟨h1.trans ho, h2⟩
  have hle : MemLe G m p G' m' p' := newKey_le hn (fun k hk => by show (if k = κ then loc else G.bx k) = _; rw [if_neg hk]) (fun k hk => by show (if k = κ then val else G.gv k) = _; rw [if_neg hk])
  refine ⟨hk, hle, fun hB hG => ⟨relTm_mono hle hk h.tms, ⟨?_, ?_, ?_⟩, ?_, glob_mono hk h.glob, h.defers, bx_mono hle h.bx, h.sz⟩⟩
  · intro k cs hk' hc
    by_cases he : k = κ
    · subst he; exact hB cs hc
    · have hpk : p k := (hn.down k hk').resolve_right he
      rw [hn.box k he] at hc
      exact boxOK_mono hle hk (by show (if k = κ then loc else G.bx k) = _; rw [if_neg he]) (fun b o ho => by
        obtain ⟨h1, h2, h3⟩ := hsame b o (by rw [ho]; simp)
        exact ⟨h1.trans ho, h2, h3⟩) (h.inv.box k cs hpk hc)
  · intro k g hk' hg
    by_cases he : k = κ
    · subst he; exact hG g hg
    · have hpk : p k := (hn.down k hk').resolve_right he
      rw [hn.gr k he] at hg
      exact grOK_mono hk (by show (if k = κ then val else G.gv k) = _; rw [if_neg he]) (fun b o ho => by
        obtain ⟨h1, h2, h3⟩ := hsame b o (by rw [ho]; simp)
        exact ⟨h1.trans ho, h2, h3⟩) (h.inv.gr k g hpk hg)
  · intro b o ho
    have : (if b = w.heap.size ∧ o < c.size then own o else G.ow b o) ≠ .none := ho
    rw [hm.size]
    split at this
    · omega
    · have := hlt b o this; omega
  · have hs := h.fr.size
    refine ⟨hm.os.trans h.fr.os, hm.tape.trans h.fr.tape, hm.output.trans h.fr.output, by rw [hm.size]; omega, fun b o hb hno => ?_, fun b hb hno => ?_, fun b o hb ho => ?_, fun b o ho => ?_, fun b o hb ho => by show (if b = w.heap.size ∧ o < c.size then own o else G.ow b o) = _; rw [if_neg (by omega)]; exact h.fr.non b o hb ho⟩
    · obtain ⟨c1, c2⟩ := h.fr.cell b o hb hno
      rw [hm.cell, if_neg (by omega), (hm.froz b o).2 (by omega)]
      exact ⟨c1, c2⟩
    · rw [hm.block b (by omega)]; exact h.fr.block b hb hno
    · have ho : (if b = w.heap.size ∧ o < c.size then own o else G.ow b o).owned := ho
      rw [if_neg (by omega)] at ho
      exact h.fr.own b o hb ho
    · exact (hk b o (h.fr.prot b o ho)).1

/-- a new box -/
theorem new_box {E : Env} {B : Base} {G : Gh} {m m' : Mem} {p p' : Nat → Prop} {w w' : World} {tm : List T} {a : Act} {c : Array Value} {κ : Nat} {cs : List T}
    (h : RelAll E B G m p w tm a) (hm : Made w w' c) (hn : NewKey m m' p p' κ) (hbox : lk m'.boxes κ = some cs) (hng : lk m'.gr κ = none ∨ p κ)
    (hgr : lk m'.gr κ = lk m.gr κ) (hlen : cs.length = c.size)
    (hval : ∀ j (hj : j < c.size), c[j].oneCell = true ∧ Rel1 G m p w (getT cs j) c[j]) :
    ∃ G', RelAll E B G' m' p' w' tm a ∧ MemLe G m p G' m' p' ∧ Keeps w G.ow w' G'.ow ∧ G'.bx κ = (w.heap.size, 0) := by
  obtain ⟨hk, hle, hrest⟩ := made_rest (own := fun _ => .box κ) (loc := (w.heap.size, 0)) (val := G.gv κ) h hm hn
  refine ⟨_, hrest (fun cs' hcs' => ?_) (fun g hg => ?_), hle, hk, by simp⟩
  · rw [hbox] at hcs'
    obtain rfl := Option.some.inj hcs'
    intro j hj
    have hjc : j < c.size := by omega
    simp only [if_true, Nat.zero_add]
    refine ⟨by rw [if_pos ⟨trivial, hjc⟩], (hm.froz _ _).1 rfl hjc, c[j], ?_, (hval j hjc).1, rel1_mono hle hk (hval j hjc).2⟩
    rw [hm.cell, if_pos rfl, Array.getElem?_eq_getElem hjc]
  · rcases hng with hng | hp
    · rw [hng] at hg; cases hg
    · rw [hgr, hn.nog hp] at hg; cases hg

/-- a new slice of the call's own, in a new block -/
theorem new_gr {E : Env} {B : Base} {G : Gh} {m m' : Mem} {p p' : Nat → Prop} {w w' : World} {tm : List T} {a : Act} {c : Array Value} {κ : Nat} {g : Gr} {len cap : Nat}
    (h : RelAll E B G m p w tm a) (hm : Made w w' c) (hn : NewKey m m' p p' κ) (hg : lk m'.gr κ = some g) (hmd : g.md ≠ .dead) (hng : lk m'.boxes κ = none)
    (hlen : len = g.xs.length) (hcap : len ≤ cap) (hsz : cap * g.t.size ≤ c.size)
    (hval : ∀ i (hi : i < g.xs.length), ∃ l, Rep w G.ow g.t g.xs[i] l ∧ ∀ j, j < g.t.size → c[i * g.t.size + j]? = l[j]?) :
    ∃ G', RelAll E B G' m' p' w' tm a ∧ MemLe G m p G' m' p' ∧ Keeps w G.ow w' G'.ow ∧ G'.gv κ = .slice (some ⟨w.heap.size, 0, none⟩) len cap := by
  obtain ⟨hk, hle, hrest⟩ := made_rest (own := fun o => if g.md = .shared ∧ o < len * g.t.size then .prot else .gr κ) (loc := G.bx κ) (val := .slice (some ⟨w.heap.size, 0, none⟩) len cap) h hm hn
  refine ⟨_, hrest (fun cs' hcs' => ?_) (fun g' hg' => ?_), hle, hk, by simp⟩
  · rw [hng] at hcs'; cases hcs'
  · rw [hg] at hg'
    obtain rfl := Option.some.inj hg'
    have hrow : ∀ cO : Ow, (cO = .prot ∧ g.md = .shared) ∨ (cO = .gr κ ∧ g.md = .excl) → GrRow ⟨fun b o => if b = w.heap.size ∧ o < c.size then (if g.md = .shared ∧ o < len * g.t.size then .prot else .gr κ) else G.ow b o,
        fun k => if k = κ then G.bx κ else G.bx k, fun k => if k = κ then .slice (some ⟨w.heap.size, 0, none⟩) len cap else G.gv k⟩ w' κ g.t g.xs cO := by
      intro cO hcO
      refine ⟨some ⟨w.heap.size, 0, none⟩, len, cap, by simp, hlen, hcap, fun _ => ⟨w.heap.size, 0, rfl, ?_, ?_⟩⟩
      · intro i hi
        obtain ⟨l, hl, hc⟩ := hval i hi
        refine ⟨l, rep_mono hk _ _ _ hl, fun j hj => ?_⟩
        have hb : i * g.t.size + j < len * g.t.size := by
          have : (i + 1) * g.t.size ≤ len * g.t.size := Nat.mul_le_mul_right _ (by omega)
          rw [Nat.succ_mul] at this; omega
        have hb2 : len * g.t.size ≤ cap * g.t.size := Nat.mul_le_mul_right _ hcap
        rw [Nat.zero_add]
        refine ⟨⟨?_, fun _ => (hm.froz _ _).1 rfl (by omega)⟩, ?_⟩
        · simp only [true_and]
          rw [if_pos (by omega)]
          rcases hcO with ⟨rfl, hs⟩ | ⟨rfl, hs⟩
          · rw [if_pos ⟨hs, hb⟩]
          · rw [if_neg (by rw [hs]; simp)]
        · rw [hm.cell, if_pos rfl, hc j hj]
      · intro q hq1 hq2
        rw [Nat.zero_add]
        have hqc : q < c.size := by omega
        refine ⟨?_, (hm.froz _ _).1 rfl hqc, c[q], ?_⟩
        · simp only [true_and]
          rw [if_pos hqc, if_neg (by omega)]
        · rw [hm.cell, if_pos rfl, Array.getElem?_eq_getElem hqc]
    unfold GrOK
    split
    · rename_i hs; exact absurd hs hmd
    · rename_i hs; exact hrow _ (.inr ⟨rfl, hs⟩)
    · rename_i hs; exact hrow _ (.inl ⟨rfl, hs⟩)

end Mini
namespace Mini
open Go

/-! ### stores -/

/-- cells of a block have been written -/
structure Wrote (w w' : World) (b o : Nat) (vs : List Value) : Prop where
  os : w'.os = w.os
  tape : w'.tape = w.tape
  output : w'.output = w.output
  size : w'.heap.size = w.heap.size
  cell : ∀ b' o', cl w' b' o' = if b' = b ∧ o ≤ o' ∧ o' < o + vs.length then vs[o' - o]? else cl w b' o'
  froz : ∀ b' o', fz w' b' o' = fz w b' o'
  block : ∀ b', b' ≠ b ∨ vs = [] → w'.heap[b']? = w.heap[b']?

theorem addr_add (b o i : Nat) : (⟨b, o, none⟩ : Addr).add i = ⟨b, o + i, none⟩ := by
  unfold Addr.add; split <;> simp_all

theorem wrote_one {w : World} {b o : Nat} {v u : Value} (hc : cl w b o = some u) : Wrote w (w.setCell ⟨b, o, none⟩ v) b o [v] := by
  refine ⟨rfl, rfl, rfl, by simp [World.setCell], fun b' o' => ?_, fun b' o' => World.frozen?_setCell _ _ _ _, fun b' hb => ?_⟩
  · by_cases h : b' = b ∧ o' = o
    · obtain ⟨rfl, rfl⟩ := h
      rw [if_pos (by simp)]
      simp only [Nat.sub_self, List.getElem?_cons_zero]
      exact World.cell?_setCell_same _ _ _ hc
    · rw [if_neg (by simp only [List.length_cons, List.length_nil]; omega)]
      exact World.cell?_setCell_other _ _ _ _ (by intro e; simp only [Addr.mk.injEq] at e; omega)
  · rcases hb with hb | hb
    · simp only [World.setCell, Array.getElem?_modify]
      rw [if_neg (by omega)]
    · cases hb

theorem storeCells_run {P : Program} {b o : Nat} : ∀ (vs : List Value) (i : Nat) (w : World), (∀ j (h : j < vs.length), (∃ u, cl w b (o + i + j) = some u) ∧ fz w b (o + i + j) = false ∧ vs[j].oneCell = true) →
    ∃ w', (storeCells ⟨b, o, none⟩ vs i).run P w = .ok () w' ∧ Wrote w w' b (o + i) vs := by
  intro vs
  induction vs with
  | nil =>
    intro i w _
    exact ⟨w, rfl, rfl, rfl, rfl, rfl, fun b' o' => by rw [if_neg (by simp only [List.length_nil]; omega)], fun _ _ => rfl, fun _ _ => rfl⟩
  | cons v vs ih =>
    intro i w h
    obtain ⟨⟨u, hu⟩, hf, h1⟩ := h 0 (by simp)
    rw [Nat.add_zero] at hu hf
    simp only [List.getElem_cons_zero] at h1
    have hw := wrote_one (v := v) hu
    obtain ⟨w', hr, hw'⟩ := ih (i + 1) (w.setCell ⟨b, o + i, none⟩ v) (fun j hj => by
      obtain ⟨⟨u', hu'⟩, hf', h1'⟩ := h (j + 1) (by simpa using hj)
      refine ⟨⟨u', ?_⟩, ?_, by simpa using h1'⟩
      · rw [hw.cell, if_neg (by simp only [List.length_cons, List.length_nil]; omega)]
        rw [← hu']; congr 1; omega
      · rw [hw.froz, ← hf']; congr 1; omega)
    refine ⟨w', ?_, ?_⟩
    · have hs : (store ((⟨b, o, none⟩ : Addr).add i) v).run P w = .ok () (w.setCell ⟨b, o + i, none⟩ v) := by
        rw [addr_add]
        unfold cl at hu; unfold fz at hf
        cases v <;> first | (simp [Value.oneCell] at h1; done) | simp [store, Sem.run, hu, hf]
      show ((store ((⟨b, o, none⟩ : Addr).add i) v).bind fun _ => storeCells ⟨b, o, none⟩ vs (i + 1)).run P w = _
      have hbind : ∀ {α β : Type} (e : Sem α) (f : α → Sem β) (w w1 : World) (x : α), e.run P w = .ok x w1 → (e.bind f).run P w = (f x).run P w1 := by
        intro α β e f w w1 x he
        induction e generalizing w with
        | pure a => simp only [Sem.run, Result.ok.injEq] at he; obtain ⟨rfl, rfl⟩ := he; rfl
        | halt h => simp [Sem.run] at he
        | load m a k ih => simp only [Sem.bind, Sem.run] at *; split <;> simp_all <;> split <;> simp_all
        | store m a v k ih =>
          cases v <;> simp only [Sem.bind, Sem.run] at * <;> first | (cases he; done) | (split <;> simp_all <;> split <;> simp_all)
        | new o k ih => simp only [Sem.bind, Sem.run] at *; exact ih _ _ he
        | shape r k ih => simp only [Sem.bind, Sem.run] at *; exact ih _ _ he
        | freeze a n k ih => simp only [Sem.bind, Sem.run] at *; exact ih _ he
        | frozen a k ih => simp only [Sem.bind, Sem.run] at *; exact ih _ _ he
        | getObj r k ih => simp only [Sem.bind, Sem.run] at *; split <;> simp_all
        | setObj r o k ih => simp only [Sem.bind, Sem.run] at *; split <;> simp_all
        | choose q k ih => simp only [Sem.bind, Sem.run] at *; split <;> simp_all
        | sys c k ih => simp only [Sem.bind, Sem.run] at *; exact ih _ _ he
        | program k ih => simp only [Sem.bind, Sem.run] at *; exact ih _ _ he
        | mark m k ih => simp only [Sem.bind, Sem.run] at *; exact ih _ he
      rw [hbind _ _ _ _ _ hs]
      exact hr
    · refine ⟨hw'.os.trans hw.os, hw'.tape.trans hw.tape, hw'.output.trans hw.output, hw'.size.trans hw.size, fun b' o' => ?_, fun b' o' => (hw'.froz _ _).trans (hw.froz _ _), fun b' hb => by
        rcases hb with hb | hb
        · exact (hw'.block b' (.inl hb)).trans (hw.block b' (.inl hb))
        · cases hb⟩
      rw [hw'.cell, hw.cell]
      simp only [List.length_cons, List.length_nil]
      by_cases hb : b' = b
      · subst hb
        by_cases h0 : o' = o + i
        · subst h0
          rw [if_neg (by omega), if_pos (by omega), if_pos (by omega)]; simp
        · by_cases h2 : o + (i + 1) ≤ o' ∧ o' < o + (i + 1) + vs.length
          · rw [if_pos ⟨rfl, h2⟩, if_pos (by omega)]
            have : o' - (o + i) = (o' - (o + (i + 1))) + 1 := by omega
            rw [this, List.getElem?_cons_succ]
          · rw [if_neg (by omega), if_neg (by omega), if_neg (by omega)]
      · rw [if_neg (by omega), if_neg (by omega), if_neg (by omega)]

/-- a store into a box -/
theorem box_store {E : Env} {B : Base} {G : Gh} {m : Mem} {p : Nat → Prop} {w w' : World} {tm : List T} {a : Act} {i off : Nat} {cs l : List T} {vs : List Value}
    (h : RelAll E B G m p w tm a) (hp : p i) (hc : lk m.boxes i = some cs) (hoff : off + l.length ≤ cs.length) (hl : l.length = vs.length)
    (hw : Wrote w w' (G.bx i).1 ((G.bx i).2 + off) vs) (hval : ∀ j (hj : j < vs.length), vs[j].oneCell = true ∧ Rel1 G m p w (getT l j) vs[j]) :
    RelAll E B G ⟨setB m.boxes i (setCells cs off l), m.gr⟩ p w' tm a := by
  have hbox := h.inv.box i cs hp hc
  have hown : ∀ o', (G.bx i).2 + off ≤ o' → o' < (G.bx i).2 + off + vs.length → G.ow (G.bx i).1 o' = .box i := by
    intro o' h1 h2
    have := (hbox (o' - (G.bx i).2) (by omega)).1
    rwa [show (G.bx i).2 + (o' - (G.bx i).2) = o' by omega] at this
  have hsame : ∀ b o', G.ow b o' ≠ .box i → cl w' b o' = cl w b o' := by
    intro b o' ho
    rw [hw.cell, if_neg]
    rintro ⟨rfl, h1, h2⟩
    exact ho (hown o' h1 h2)
  have hk : Keeps w G.ow w' G.ow := fun b o ho => ⟨ho, hsame b o (by rw [ho]; simp)⟩
  have hle : MemLe G m p G ⟨setB m.boxes i (setCells cs off l), m.gr⟩ p := by
    refine ⟨fun _ h => h, fun k cs' hk' hc' => ⟨rfl, ?_⟩, fun k g _ hg => ⟨g, hg, grLe_refl g, fun _ => rfl⟩⟩
    by_cases he : k = i
    · subst he
      rw [hc] at hc'; obtain rfl := Option.some.inj hc'
      exact ⟨setCells cs off l, by simp only [setB, lk_up_self, hc, Option.map_some], setCells_len hoff⟩
    · exact ⟨cs', by simp only [setB]; rw [lk_up_ne _ _ he]; exact hc', rfl⟩
  refine ⟨relTm_mono hle hk h.tms, ⟨?_, ?_, ?_⟩, ?_, glob_mono hk h.glob, h.defers, bx_mono hle h.bx, h.sz⟩
  · intro k cs' hk' hc'
    by_cases he : k = i
    · subst he
      simp only [setB, lk_up_self, hc, Option.map_some, Option.some.injEq] at hc'
      subst hc'
      intro j hj
      rw [setCells_len hoff] at hj
      obtain ⟨h1, h2, v, h3, h4, h5⟩ := hbox j hj
      refine ⟨h1, by rw [hw.froz]; exact h2, ?_⟩
      rw [getT_setCells hoff, hw.cell]
      by_cases hin : off ≤ j ∧ j < off + l.length
      · have hjl : j - off < vs.length := by omega
        refine ⟨vs[j - off], ?_, (hval _ hjl).1, ?_⟩
        · rw [if_pos (by omega), show (G.bx k).2 + j - ((G.bx k).2 + off) = j - off by omega, List.getElem?_eq_getElem hjl]
        · rw [if_pos hin]; exact rel1_mono hle hk (hval _ hjl).2
      · refine ⟨v, ?_, h4, ?_⟩
        · rw [if_neg (by omega)]; exact h3
        · rw [if_neg hin]; exact rel1_mono hle hk h5
    · simp only [setB] at hc'
      rw [lk_up_ne _ _ he] at hc'
      exact boxOK_mono hle hk rfl (fun b o ho => ⟨ho, hsame b o (by rw [ho]; simp; omega), hw.froz _ _⟩) (h.inv.box k cs' hk' hc')
  · intro k g hk' hg
    exact grOK_mono hk rfl (fun b o ho => ⟨ho, hsame b o (by rw [ho]; simp), hw.froz _ _⟩) (h.inv.gr k g hk' hg)
  · intro b o ho; rw [hw.size]; exact h.inv.lt b o ho
  · have hfr := h.fr
    refine ⟨hw.os.trans hfr.os, hw.tape.trans hfr.tape, hw.output.trans hfr.output, by rw [hw.size]; exact hfr.size, fun b o hb hno => ?_, fun b hb hno => ?_, hfr.own, hfr.prot, hfr.non⟩
    · obtain ⟨c1, c2⟩ := hfr.cell b o hb hno
      rw [hw.froz, hsame b o]
      · exact ⟨c1, c2⟩
      · intro he; exact hno (hfr.own b o hb (by rw [he]; trivial))
    · by_cases he : b = (G.bx i).1
      · subst he
        rcases Nat.eq_zero_or_pos vs.length with hz | hz
        · have hvs : vs = [] := List.length_eq_zero_iff.1 hz
          subst hvs
          rw [hw.block _ (.inr rfl)]; exact hfr.block _ hb hno
        · exact absurd (hfr.own _ _ hb (by rw [hown _ (Nat.le_refl _) (by omega)]; trivial)) (hno _)
      · rw [hw.block b (.inl he)]; exact hfr.block b hb hno

end Mini

/- Entries that are written, appended to, ended; draws. -/
namespace Mini
open Go

theorem run_bind {α β : Type} {P : Program} {e : Sem α} {f : α → Sem β} {w w1 : World} {x : α} (he : e.run P w = .ok x w1) : (e.bind f).run P w = (f x).run P w1 := by
  induction e generalizing w with
  | pure a => simp only [Sem.run, Result.ok.injEq] at he; obtain ⟨rfl, rfl⟩ := he; rfl
  | halt h => simp [Sem.run] at he
  | load m a k ih => simp only [Sem.bind, Sem.run] at *; split <;> simp_all <;> split <;> simp_all
  | store m a v k ih =>
    cases v <;> simp only [Sem.bind, Sem.run] at * <;> first | (cases he; done) | (split <;> simp_all <;> split <;> simp_all)
  | new o k ih => simp only [Sem.bind, Sem.run] at *; exact ih _ he
  | shape r k ih => simp only [Sem.bind, Sem.run] at *; exact ih _ he
  | freeze a n k ih => simp only [Sem.bind, Sem.run] at *; exact ih he
  | frozen a k ih => simp only [Sem.bind, Sem.run] at *; exact ih _ he
  | getObj r k ih => simp only [Sem.bind, Sem.run] at *; split <;> simp_all
  | setObj r o k ih => simp only [Sem.bind, Sem.run] at *; split <;> simp_all
  | choose q k ih => simp only [Sem.bind, Sem.run] at *; split <;> simp_all
  | sys c k ih => simp only [Sem.bind, Sem.run] at *; exact ih _ he
  | program k ih => simp only [Sem.bind, Sem.run] at *; exact ih _ he
  | mark m k ih => simp only [Sem.bind, Sem.run] at *; exact ih he
theorem run_bindM {α β : Type} {P : Program} {e : Sem α} {f : α → Sem β} {w w1 : World} {x : α} (he : e.run P w = .ok x w1) : (e >>= f).run P w = (f x).run P w1 := run_bind he
theorem run_pure {α : Type} {P : Program} {w : World} {x : α} : (pure x : Sem α).run P w = .ok x w := rfl

/-- the same memory; something may have been drawn -/
structure Quiet (w w' : World) : Prop where
  os : w'.os = w.os
  tape : w'.tape = w.tape
  output : w'.output = w.output
  heap : w'.heap = w.heap
theorem Quiet.refl (w : World) : Quiet w w := ⟨rfl, rfl, rfl, rfl⟩
theorem Quiet.cl {w w' : World} (h : Quiet w w') (b o : Nat) : cl w' b o = cl w b o := by simp only [Mini.cl, World.cell?, h.heap]
theorem Quiet.fz {w w' : World} (h : Quiet w w') (b o : Nat) : fz w' b o = fz w b o := by simp only [Mini.fz, World.frozen?, h.heap]
theorem Quiet.keeps {w w' : World} (h : Quiet w w') (ow : OwF) : Keeps w ow w' ow := fun b o ho => ⟨ho, h.cl b o⟩

theorem quiet_rel {E : Env} {B : Base} {G : Gh} {m : Mem} {p : Nat → Prop} {w w' : World} {tm : List T} {a : Act} (h : RelAll E B G m p w tm a) (hq : Quiet w w') : RelAll E B G m p w' tm a := by
  have hk := hq.keeps G.ow
  have hle := MemLe.refl G m p
  refine ⟨relTm_mono hle hk h.tms, ⟨fun k cs hp hc => boxOK_mono hle hk rfl (fun b o ho => ⟨ho, hq.cl b o, hq.fz b o⟩) (h.inv.box k cs hp hc),
    fun k g hp hg => grOK_mono hk rfl (fun b o ho => ⟨ho, hq.cl b o, hq.fz b o⟩) (h.inv.gr k g hp hg), fun b o ho => by rw [hq.heap]; exact h.inv.lt b o ho⟩, ?_, glob_mono hk h.glob, h.defers, bx_mono hle h.bx, h.sz⟩
  have hfr := h.fr
  exact ⟨hq.os.trans hfr.os, hq.tape.trans hfr.tape, hq.output.trans hfr.output, by rw [hq.heap]; exact hfr.size, fun b o hb hn => by
    rw [hq.cl, hq.fz]; exact hfr.cell b o hb hn, fun b hb hn => by rw [hq.heap]; exact hfr.block b hb hn, hfr.own, hfr.prot, hfr.non⟩

theorem made_quiet {w w1 w' : World} {c : Array Value} (hq : Quiet w w1) (hm : Made w1 w' c) : Made w w' c := by
  have hh := hq.heap
  refine ⟨hm.os.trans hq.os, hm.tape.trans hq.tape, hm.output.trans hq.output, by rw [hm.size, hh], fun b o => ?_, fun b o => ?_, fun b hb => ?_⟩
  · rw [hm.cell, hh, hq.cl]
  · have := hm.froz b o
    rw [hh, hq.fz] at this; exact this
  · rw [hm.block b (by rw [hh]; exact hb), hh]

/-- an entry ends: nothing is said of it any more -/
theorem kill_one {E : Env} {B : Base} {G : Gh} {m : Mem} {p : Nat → Prop} {w : World} {tm : List T} {a : Act} (h : RelAll E B G m p w tm a) (k : Nat) :
    RelAll E B G ⟨m.boxes, up m.gr k killG⟩ p w tm a ∧ MemLe G m p G ⟨m.boxes, up m.gr k killG⟩ p := by
  have hle : MemLe G m p G ⟨m.boxes, up m.gr k killG⟩ p := by
    refine ⟨fun _ h => h, fun q cs _ hc => ⟨rfl, cs, hc, rfl⟩, fun q g _ hg => ?_⟩
    by_cases hq : q = k
    · subst hq
      exact ⟨killG g, by simp only [lk_up_self, hg, Option.map_some], .dead _ _ rfl, fun _ => rfl⟩
    · exact ⟨g, by simp only [lk_up_ne _ _ hq, hg], grLe_refl g, fun _ => rfl⟩
  refine ⟨⟨relTm_mono hle (Keeps.refl _ _) h.tms, ⟨fun q cs hq hc => boxOK_mono hle (Keeps.refl _ _) rfl (fun b o ho => ⟨ho, rfl, rfl⟩) (h.inv.box q cs hq hc), fun q g hq hg => ?_, h.inv.lt⟩, h.fr, h.glob, h.defers, bx_mono hle h.bx, h.sz⟩, hle⟩
  by_cases hqk : q = k
  · subst hqk
    rw [lk_up_self] at hg
    cases hg0 : lk m.gr q with
    | none => rw [hg0] at hg; cases hg
    | some g0 => rw [hg0] at hg; obtain rfl := Option.some.inj hg; trivial
  · simp only [lk_up_ne _ _ hqk] at hg
    exact h.inv.gr q g hq hg

/-- a store into a slice of the call's own -/
theorem gr_store {E : Env} {B : Base} {G : Gh} {m : Mem} {p : Nat → Prop} {w w' : World} {tm : List T} {a : Act} {k idx off : Nat} {g : Gr} {z : El g.t} {vs : List Value} {b o len cap : Nat}
    (h : RelAll E B G m p w tm a) (hp : p k) (hg : lk m.gr k = some g) (hmd : g.md = .excl) (hv : G.gv k = .slice (some ⟨b, o, none⟩) len cap) (hi : idx < g.xs.length)
    (hoff : off + vs.length ≤ g.t.size) (hw : Wrote w w' b (o + idx * g.t.size + off) vs)
    (hz : ∃ l, Rep w G.ow g.t z l ∧ ∀ j, j < g.t.size → l[j]? = if off ≤ j ∧ j < off + vs.length then vs[j - off]? else cl w b (o + idx * g.t.size + j)) :
    RelAll E B G ⟨m.boxes, up m.gr k fun _ => ⟨g.t, g.xs.set idx z, .excl, g.ver + 1⟩⟩ p w' tm a ∧ MemLe G m p G ⟨m.boxes, up m.gr k fun _ => ⟨g.t, g.xs.set idx z, .excl, g.ver + 1⟩⟩ p ∧ Keeps w G.ow w' G.ow := by
  have hok := h.inv.gr k g hp hg
  simp only [GrOK, hmd] at hok
  obtain ⟨ad, len', cap', h1, h2, h3, h5⟩ := hok
  rw [hv] at h1
  simp only [Value.slice.injEq] at h1
  obtain ⟨rfl, rfl, rfl⟩ := h1
  obtain ⟨b', o', hpe, hrow, hsp⟩ := h5 (by omega)
  simp only [Option.some.injEq, Addr.mk.injEq] at hpe
  obtain ⟨rfl, rfl, _⟩ := hpe
  have hown : ∀ q, o + idx * g.t.size + off ≤ q → q < o + idx * g.t.size + off + vs.length → G.ow b q = .gr k := by
    intro q hq1 hq2
    obtain ⟨l, _, hc⟩ := hrow idx hi
    have := (hc (q - (o + idx * g.t.size)) (by omega)).1.1
    rwa [show o + idx * g.t.size + (q - (o + idx * g.t.size)) = q by omega] at this
  have hsame : ∀ b' q, G.ow b' q ≠ .gr k → cl w' b' q = cl w b' q := by
    intro b' q ho
    rw [hw.cell, if_neg]
    rintro ⟨rfl, h1, h2⟩
    exact ho (hown q h1 h2)
  have hk : Keeps w G.ow w' G.ow := fun b o ho => ⟨ho, hsame b o (by rw [ho]; simp)⟩
  have hle : MemLe G m p G ⟨m.boxes, up m.gr k fun _ => ⟨g.t, g.xs.set idx z, .excl, g.ver + 1⟩⟩ p := by
    refine ⟨fun _ h => h, fun q cs _ hc => ⟨rfl, cs, hc, rfl⟩, fun q g' _ hg' => ?_⟩
    by_cases hq : q = k
    · subst hq
      rw [hg] at hg'; obtain rfl := Option.some.inj hg'
      refine ⟨⟨g.t, g.xs.set idx z, .excl, g.ver + 1⟩, by simp only [lk_up_self, hg, Option.map_some], ?_, fun _ => rfl⟩
      obtain ⟨t, xs, md, v⟩ := g
      simp only at hmd; subst hmd
      exact .wrote _ _ _ _ _ (by simp) (by simp)
    · exact ⟨g', by simp only [lk_up_ne _ _ hq, hg'], grLe_refl g', fun _ => rfl⟩
  refine ⟨⟨relTm_mono hle hk h.tms, ⟨?_, ?_, ?_⟩, ?_, glob_mono hk h.glob, h.defers, bx_mono hle h.bx, h.sz⟩, hle, hk⟩
  · intro q cs hq hc
    exact boxOK_mono hle hk rfl (fun b o ho => ⟨ho, hsame b o (by rw [ho]; simp), hw.froz _ _⟩) (h.inv.box q cs hq hc)
  · intro q g' hq hg'
    by_cases hqk : q = k
    · subst hqk
      simp only [lk_up_self, hg, Option.map_some, Option.some.injEq] at hg'
      subst hg'
      show GrRow G w' q g.t (g.xs.set idx z) (.gr q)
      refine ⟨some ⟨b, o, none⟩, len, cap, hv, by rw [List.length_set]; exact h2, h3, fun _ => ⟨b, o, rfl, ?_, ?_⟩⟩
      · intro i hi'
        rw [List.length_set] at hi'
        obtain ⟨l, hl, hc⟩ := hrow i hi'
        by_cases he : idx = i
        · subst he
          obtain ⟨l', hl', hc'⟩ := hz
          rw [List.getElem_set_self]
          refine ⟨l', rep_mono hk _ _ _ hl', fun j hj => ⟨⟨(hc j hj).1.1, fun _ => by rw [hw.froz]; exact (hc j hj).1.2 rfl⟩, ?_⟩⟩
          rw [hw.cell, hc' j hj]
          by_cases hin : off ≤ j ∧ j < off + vs.length
          · rw [if_pos (by omega), if_pos hin]; congr 1; omega
          · rw [if_neg (by omega), if_neg hin]
        · rw [List.getElem_set_ne he]
          refine ⟨l, rep_mono hk _ _ _ hl, fun j hj => ⟨⟨(hc j hj).1.1, fun _ => by rw [hw.froz]; exact (hc j hj).1.2 rfl⟩, ?_⟩⟩
          rw [hw.cell, if_neg]
          · exact (hc j hj).2
          · rintro ⟨_, hlo, hhi⟩
            rcases Nat.lt_or_gt_of_ne he with hlt | hlt
            · have := Nat.mul_le_mul_right g.t.size (show idx + 1 ≤ i from hlt)
              rw [Nat.succ_mul] at this; omega
            · have := Nat.mul_le_mul_right g.t.size (show i + 1 ≤ idx from hlt)
              rw [Nat.succ_mul] at this; omega
      · intro q' hq1 hq2
        obtain ⟨s1, s2, v, s3⟩ := hsp q' hq1 hq2
        refine ⟨s1, by rw [hw.froz]; exact s2, v, ?_⟩
        rw [hw.cell, if_neg]
        · exact s3
        · have := Nat.mul_le_mul_right g.t.size (show idx + 1 ≤ len by omega)
          rw [Nat.succ_mul] at this; omega
    · simp only [lk_up_ne _ _ hqk] at hg'
      exact grOK_mono hk rfl (fun b o ho => ⟨ho, hsame b o (by rw [ho]; simp; omega), hw.froz _ _⟩) (h.inv.gr q g' hq hg')
  · intro b o ho; rw [hw.size]; exact h.inv.lt b o ho
  · have hfr := h.fr
    refine ⟨hw.os.trans hfr.os, hw.tape.trans hfr.tape, hw.output.trans hfr.output, by rw [hw.size]; exact hfr.size, fun b' o' hb hno => ?_, fun b' hb hno => ?_, hfr.own, hfr.prot, hfr.non⟩
    · obtain ⟨c1, c2⟩ := hfr.cell b' o' hb hno
      rw [hw.froz, hsame b' o']
      · exact ⟨c1, c2⟩
      · intro he; exact hno (hfr.own b' o' hb (by rw [he]; trivial))
    · by_cases he : b' = b
      · subst he
        rcases Nat.eq_zero_or_pos vs.length with hz | hz
        · rw [hw.block _ (.inr (List.length_eq_zero_iff.1 hz))]; exact hfr.block _ hb hno
        · exact absurd (hfr.own _ _ hb (by rw [hown _ (Nat.le_refl _) (by omega)]; trivial)) (hno _)
      · rw [hw.block b' (.inl he)]; exact hfr.block b' hb hno

/-- an append that fits -/
theorem gr_append {E : Env} {B : Base} {G : Gh} {m : Mem} {p : Nat → Prop} {w w' : World} {tm : List T} {a : Act} {k κ : Nat} {g : Gr} {ys : List (El g.t)} {vs : List Value} {b o len cap : Nat}
    (h : RelAll E B G m p w tm a) (hp : p k) (hpκ : p κ) (hg : lk m.gr k = some g) (hmd : g.md ≠ .dead) (hv : G.gv k = .slice (some ⟨b, o, none⟩) len cap)
    (hfit : len + ys.length ≤ cap) (hcp : 0 < cap) (hw : Wrote w w' b (o + len * g.t.size) vs) (hvl : vs.length = ys.length * g.t.size)
    (hys : ∀ i (hi : i < ys.length), ∃ l, Rep w G.ow g.t ys[i] l ∧ ∀ j, j < g.t.size → vs[i * g.t.size + j]? = l[j]?)
    (hκb : lk m.boxes κ = none) (hκg : lk m.gr κ = none) :
    ∃ G', RelAll E B G' ⟨m.boxes, (κ, ⟨g.t, g.xs ++ ys, g.md, 0⟩) :: up m.gr k killG⟩ p w' tm a ∧
      MemLe G m p G' ⟨m.boxes, (κ, ⟨g.t, g.xs ++ ys, g.md, 0⟩) :: up m.gr k killG⟩ p ∧ Keeps w G.ow w' G'.ow ∧ G'.gv κ = .slice (some ⟨b, o, none⟩) (len + ys.length) cap := by
  classical
  have hkκ : k ≠ κ := by rintro rfl; rw [hg] at hκg; cases hκg
  obtain ⟨c, hc, hok⟩ : ∃ c, ((c = .prot ∧ g.md = .shared) ∨ (c = .gr k ∧ g.md = .excl)) ∧ GrRow G w k g.t g.xs c := by
    have hok := h.inv.gr k g hp hg
    unfold GrOK at hok
    split at hok
    · rename_i hs; exact absurd hs hmd
    · rename_i hs; exact ⟨_, .inr ⟨rfl, hs⟩, hok⟩
    · rename_i hs; exact ⟨_, .inl ⟨rfl, hs⟩, hok⟩
  obtain ⟨ad, len', cap', h1, h2, h3, h5⟩ := hok
  rw [hv] at h1
  simp only [Value.slice.injEq] at h1
  obtain ⟨rfl, rfl, rfl⟩ := h1
  obtain ⟨b', o', hpe, hrow, hsp⟩ := h5 (by omega)
  simp only [Option.some.injEq, Addr.mk.injEq] at hpe
  obtain ⟨rfl, rfl, _⟩ := hpe
  let need := len + ys.length
  have hneed : need * g.t.size = len * g.t.size + vs.length := by show (len + ys.length) * g.t.size = _; rw [Nat.add_mul, hvl]
  have hncap : need * g.t.size ≤ cap * g.t.size := Nat.mul_le_mul_right _ hfit
  let G' : Gh := { G with
    ow := fun b' q => if G.ow b' q = .gr k then (if g.md = .shared ∧ b' = b ∧ o ≤ q ∧ q < o + need * g.t.size then .prot else .gr κ) else G.ow b' q
    gv := fun q => if q = κ then .slice (some ⟨b, o, none⟩) need cap else G.gv q }
  have hown : ∀ q, o + len * g.t.size ≤ q → q < o + len * g.t.size + vs.length → G.ow b q = .gr k := by
    intro q hq1 hq2
    have := (hsp (q - o) (by omega) (by omega)).1
    rwa [show o + (q - o) = q by omega] at this
  have hsame : ∀ b' q, G.ow b' q ≠ .gr k → cl w' b' q = cl w b' q ∧ G'.ow b' q = G.ow b' q := by
    intro b' q ho
    refine ⟨?_, if_neg ho⟩
    rw [hw.cell, if_neg]
    rintro ⟨rfl, h1, h2⟩
    exact ho (hown q h1 h2)
  have hk : Keeps w G.ow w' G'.ow := fun b o ho => by
    obtain ⟨e1, e2⟩ := hsame b o (by rw [ho]; simp)
    exact ⟨e2.trans ho, e1⟩
  have hle : MemLe G m p G' ⟨m.boxes, (κ, ⟨g.t, g.xs ++ ys, g.md, 0⟩) :: up m.gr k killG⟩ p := by
    refine ⟨fun _ h => h, fun q cs _ hc => ⟨rfl, cs, hc, rfl⟩, fun q g' _ hg' => ?_⟩
    have hqκ : κ ≠ q := by rintro rfl; rw [hκg] at hg'; cases hg'
    by_cases hq : q = k
    · subst hq
      exact ⟨killG g', by simp only [lk_cons, if_neg hqκ, lk_up_self, hg', Option.map_some], .dead _ _ rfl, fun hd => absurd rfl hd⟩
    · exact ⟨g', by simp only [lk_cons, if_neg hqκ, lk_up_ne _ _ hq, hg'], grLe_refl g', fun _ => by
        show (if q = κ then _ else G.gv q) = _
        rw [if_neg (Ne.symm hqκ)]⟩
  refine ⟨G', ⟨relTm_mono hle hk h.tms, ⟨?_, ?_, ?_⟩, ?_, glob_mono hk h.glob, h.defers, bx_mono hle h.bx, h.sz⟩, hle, hk, by show (if κ = κ then _ else _) = _; rw [if_pos rfl]⟩
  · intro q cs hq hc'
    exact boxOK_mono hle hk rfl (fun b o ho => by
      obtain ⟨e1, e2⟩ := hsame b o (by rw [ho]; simp)
      exact ⟨e2.trans ho, e1, hw.froz _ _⟩) (h.inv.box q cs hq hc')
  · intro q g' hq hg'
    rw [lk_cons] at hg'
    by_cases hqκ : κ = q
    · subst hqκ
      rw [if_pos rfl] at hg'
      obtain rfl := Option.some.inj hg'
      have hgv : G'.gv κ = .slice (some ⟨b, o, none⟩) need cap := by show (if κ = κ then _ else _) = _; rw [if_pos rfl]
      have hfin : ∀ cO : Ow, (cO = .prot ∧ g.md = .shared) ∨ (cO = .gr κ ∧ g.md = .excl) → GrRow G' w' κ g.t (g.xs ++ ys) cO := by
        intro cO hcO
        refine ⟨some ⟨b, o, none⟩, need, cap, hgv, by rw [List.length_append]; show len + ys.length = _; omega, hfit, fun _ => ⟨b, o, rfl, ?_, ?_⟩⟩
        · intro i hi
          rw [List.length_append] at hi
          by_cases hi1 : i < g.xs.length
          · obtain ⟨l, hl, hcc⟩ := hrow i hi1
            rw [List.getElem_append_left hi1]
            refine ⟨l, rep_mono hk _ _ _ hl, fun j hj => ?_⟩
            obtain ⟨⟨d1, d2⟩, d3⟩ := hcc j hj
            have hb1 : (i + 1) * g.t.size ≤ len * g.t.size := Nat.mul_le_mul_right _ (by omega)
            rw [Nat.succ_mul] at hb1
            refine ⟨⟨?_, fun hx => ?_⟩, ?_⟩
            · rcases hc with ⟨rfl, hs⟩ | ⟨rfl, hs⟩
              · rcases hcO with ⟨rfl, _⟩ | ⟨_, hs'⟩
                · exact (hk _ _ d1).1
                · rw [hs] at hs'; cases hs'
              · rcases hcO with ⟨_, hs'⟩ | ⟨rfl, _⟩
                · rw [hs] at hs'; cases hs'
                · show (if G.ow b _ = .gr k then _ else _) = _
                  rw [if_pos d1, if_neg (by rw [hs]; simp)]
            · rw [hw.froz]
              rcases hc with ⟨rfl, hs⟩ | ⟨rfl, hs⟩
              · rcases hcO with ⟨rfl, _⟩ | ⟨_, hs'⟩
                · cases hx
                · rw [hs] at hs'; cases hs'
              · exact d2 rfl
            · rw [hw.cell, if_neg (by omega)]; exact d3
          · obtain ⟨l, hl, hcc⟩ := hys (i - g.xs.length) (by omega)
            rw [List.getElem_append_right (by omega)]
            refine ⟨l, rep_mono hk _ _ _ hl, fun j hj => ?_⟩
            have hb1 : (i - g.xs.length + 1) * g.t.size ≤ ys.length * g.t.size := Nat.mul_le_mul_right _ (by omega)
            rw [Nat.succ_mul] at hb1
            have he : i * g.t.size = len * g.t.size + (i - g.xs.length) * g.t.size := by
              rw [← Nat.add_mul]; congr 1; omega
            have hgk : G.ow b (o + i * g.t.size + j) = .gr k := hown _ (by omega) (by omega)
            refine ⟨⟨?_, fun _ => ?_⟩, ?_⟩
            · show (if G.ow b _ = .gr k then _ else _) = _
              rw [if_pos hgk]
              rcases hcO with ⟨rfl, hs⟩ | ⟨rfl, hs⟩
              · rw [if_pos ⟨hs, rfl, by omega, by omega⟩]
              · rw [if_neg (by rw [hs]; simp)]
            · rw [hw.froz]
              have := (hsp (i * g.t.size + j) (by omega) (by omega)).2.1
              rwa [← Nat.add_assoc] at this
            · rw [hw.cell, if_pos (by omega), ← hcc j hj]
              congr 1; omega
        · intro q' hq1 hq2
          obtain ⟨s1, s2, v, s3⟩ := hsp q' (by omega) hq2
          refine ⟨?_, by rw [hw.froz]; exact s2, v, ?_⟩
          · show (if G.ow b _ = .gr k then _ else _) = _
            rw [if_pos s1, if_neg]
            rintro ⟨_, _, _, h4⟩
            have : need * g.t.size ≤ q' := hq1
            omega
          · rw [hw.cell, if_neg]
            · exact s3
            · have : need * g.t.size ≤ q' := hq1
              omega
      unfold GrOK
      split
      · rename_i hs; exact absurd hs hmd
      · rename_i hs; exact hfin _ (.inr ⟨rfl, hs⟩)
      · rename_i hs; exact hfin _ (.inl ⟨rfl, hs⟩)
    · rw [if_neg hqκ] at hg'
      by_cases hqk : q = k
      · subst hqk
        rw [lk_up_self, hg] at hg'
        obtain rfl := Option.some.inj hg'
        trivial
      · rw [lk_up_ne _ _ hqk] at hg'
        exact grOK_mono hk (by show (if q = κ then _ else G.gv q) = _; rw [if_neg (Ne.symm hqκ)]) (fun b o ho => by
          obtain ⟨e1, e2⟩ := hsame b o (by rw [ho]; simp; omega)
          exact ⟨e2.trans ho, e1, hw.froz _ _⟩) (h.inv.gr q g' hq hg')
  · intro b' q ho
    rw [hw.size]
    refine h.inv.lt b' q (fun hn => ho ?_)
    show (if G.ow b' q = .gr k then _ else G.ow b' q) = _
    rw [if_neg (by rw [hn]; simp)]; exact hn
  · have hfr := h.fr
    refine ⟨hw.os.trans hfr.os, hw.tape.trans hfr.tape, hw.output.trans hfr.output, by rw [hw.size]; exact hfr.size, fun b' o' hb hno => ?_, fun b' hb hno => ?_, fun b' o' hb ho => ?_, fun b' o' ho => (hk _ _ (hfr.prot b' o' ho)).1, fun b' o' hb ho => by have := hfr.non b' o' hb ho; exact (if_neg (by rw [this]; simp)).trans this⟩
    · obtain ⟨c1, c2⟩ := hfr.cell b' o' hb hno
      rw [hw.froz, (hsame b' o' ?_).1]
      · exact ⟨c1, c2⟩
      · intro he; exact hno (hfr.own b' o' hb (by rw [he]; trivial))
    · by_cases he : b' = b
      · subst he
        rcases Nat.eq_zero_or_pos vs.length with hz | hz
        · rw [hw.block _ (.inr (List.length_eq_zero_iff.1 hz))]; exact hfr.block _ hb hno
        · exact absurd (hfr.own _ _ hb (by rw [hown _ (Nat.le_refl _) (by omega)]; trivial)) (hno _)
      · rw [hw.block b' (.inl he)]; exact hfr.block b' hb hno
    · by_cases hgk : G.ow b' o' = .gr k
      · exact hfr.own b' o' hb (by rw [hgk]; trivial)
      · rw [(hsame b' o' hgk).2] at ho
        exact hfr.own b' o' hb ho

end Mini
