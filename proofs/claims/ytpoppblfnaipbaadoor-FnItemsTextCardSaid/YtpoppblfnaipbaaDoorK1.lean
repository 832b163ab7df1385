/- The engine, part 1: a pure evaluator of the model's code over typed values, and its soundness over any program. a pure evaluator of the model's code over typed values. Definitions. one operation, a region, code, a program. Definitions. what a value is in the model's memory. what a state is in the model's memory, and how that lasts. operations that turn no memory. numbers, strings, bools, what is compared. boxes, addresses. operations on boxes. what only reads. operations that only read. -/
import Derived.Below
import Derived.WalkKit
import Derived.Laws.StructEq
import Derived.ChangeKeysEq
import Derived.Laws.CopyRow
/-! ## The engine: a pure evaluator of the model's code over typed values. Definitions. -/
namespace Go.Proofs.YtpoppblfnaipbaaDoor.Eng
open Go
set_option autoImplicit false
set_option linter.unusedVariables false

/-- A test whose outcome is open. -/
def ifE {α : Type} (c : Prop) [Decidable c] (a b : α) : α := if c then a else b
def ikEq : IntKind → IntKind → Bool
  | .i8, .i8 => true | .i16, .i16 => true | .i32, .i32 => true | .i64, .i64 => true
  | .u8, .u8 => true | .u16, .u16 => true | .u32, .u32 => true | .u64, .u64 => true | _, _ => false
theorem ikEq_eq : ∀ {a b : IntKind}, ikEq a b = true → a = b := by intro a b; cases a <;> cases b <;> simp [ikEq]
/-- Kinds of data. -/
inductive Ty where
  | int (k : IntKind) | bool | str | unit | sl (t : Ty) | pair (a b : Ty) | tree
  | ent (k v : Ty)      -- an entry of a map; a map is a row of entries

/-- A tree of signs. -/
structure Tr where
  s : List UInt8
  r : Int
  k : List Tr

@[reducible] def Ty.den : Ty → Type
  | .int _ => Int | .bool => Bool | .str => List UInt8 | .unit => Unit | .sl t => List t.den | .pair a b => a.den × b.den | .tree => Tr | .ent k v => k.den × v.den

def Ty.beq : Ty → Ty → Bool
  | .int k, .int l => ikEq k l | .bool, .bool => true | .str, .str => true | .unit, .unit => true
  | .sl a, .sl b => a.beq b | .pair a b, .pair c d => a.beq c && b.beq d | .tree, .tree => true | .ent a b, .ent c d => a.beq c && b.beq d | _, _ => false
theorem Ty.eq_of_beq : ∀ {s t : Ty}, s.beq t = true → s = t
  | .int k, .int l, h => by rw [ikEq_eq (a := k) (b := l) h]
  | .bool, .bool, _ => rfl | .str, .str, _ => rfl | .unit, .unit, _ => rfl | .tree, .tree, _ => rfl
  | .sl a, .sl b, h => by rw [Ty.eq_of_beq (s := a) (t := b) h]
  | .pair a b, .pair c d, h => by
    simp only [Ty.beq, Bool.and_eq_true] at h
    rw [Ty.eq_of_beq h.1, Ty.eq_of_beq h.2]
  | .ent a b, .ent c d, h => by
    simp only [Ty.beq, Bool.and_eq_true] at h
    rw [Ty.eq_of_beq h.1, Ty.eq_of_beq h.2]
/-- An entry of a map. -/
def Ty.isEnt : Ty → Bool | .ent _ _ => true | _ => false
/-- Zeros that hold no map. -/
def Ty.noEnt : Ty → Bool | .ent _ _ => false | .sl t => !t.isEnt | .pair a b => a.noEnt && b.noEnt | _ => true
def Ty.cast (s t : Ty) (x : s.den) : Option t.den := if h : s.beq t = true then some (Ty.eq_of_beq h ▸ x) else none
def Ty.size : Ty → Nat
  | .unit => 0 | .pair a b => a.size + b.size | .tree => 3 | .ent _ _ => 0 | _ => 1
def Ty.agg : Ty → Bool
  | .unit => true | .pair _ _ => true | .tree => true | .ent _ _ => true | _ => false
def Ty.dflt : (t : Ty) → t.den
  | .int _ => (0 : Int) | .bool => false | .str => ([] : List UInt8) | .unit => () | .sl t => ([] : List t.den) | .pair a b => (a.dflt, b.dflt) | .tree => Tr.mk [] 0 [] | .ent a b => (a.dflt, b.dflt)
abbrev Ty.kids : Ty := .sl .tree

inductive V where
  | d (t : Ty) (x : t.den)          -- a datum, shared
  | el (t : Ty) (x : t.den)         -- the address of a shared datum
  | eb (l : List V) (o : Nat)       -- the address of a cell of a box that is only read
  | k (v : Value)                   -- a constant
  | ref (r : Nat) (is : List Nat) (v : Nat) (t : Ty)              -- a row of the call's own
  | rp (r : Nat) (is : List Nat) (v : Nat) (p : List Bool) (t : Ty)   -- the address of a part of an element of it
  | ptr (r o : Nat)                 -- the address of a cell of a box
  | fn (f : Nat) (caps : List V)
  | agg (l : List V)
  | tup (l : List V)
  | bx (l : List V)                 -- handed: a box
  | ow (t : Ty) (n : Nat) (xs : List t.den)   -- handed: a row
  | un
inductive Ob where
  | box (l : List V)
  | row (t : Ty) (n v : Nat) (fz : Bool) (xs : List t.den)
abbrev Heap := List (Nat × Option Ob)
abbrev Tmps := List (Nat × V)
structure St where
  t : Tmps
  h : Heap

def fnd {α : Type} : List (Nat × α) → Nat → Option α
  | [], _ => none
  | (j, a) :: r, i => match Nat.beq j i with | true => some a | false => fnd r i
def look (h : Heap) (r : Nat) : Option Ob := match fnd h r with | some (some R) => some R | _ => none
def fresh (h : Heap) (r : Nat) : Bool := match fnd h r with | some _ => false | none => true
def rd {t : Ty} (xs : List t.den) (i : Nat) : t.den := xs.getD i t.dflt

/-! maps -/
/-- Kinds of one cell that hold no address. -/
def Ty.scal : Ty → Bool | .int _ => true | .bool => true | .str => true | _ => false
/-- A struct's cells. -/
def cellTys : Ty → List Ty | .pair a b => a :: cellTys b | t => [t]
def eqD : (t : Ty) → t.den → t.den → Bool
  | .int _, x, y => decide (x = y)
  | .bool, x, y => decide (x = y)
  | .str, x, y => decide (x = y)
  | .pair a b, x, y => eqD a x.1 y.1 && eqD b x.2 y.2
  | _, _, _ => false
/-- What a map holds at a key. -/
def mval (k v : Ty) : List (k.den × v.den) → k.den → v.den
  | [], _ => v.dflt
  | p :: r, x => match eqD k x p.1 with | true => p.2 | false => mval k v r x
def mhas (k v : Ty) : List (k.den × v.den) → k.den → Bool
  | [], _ => false
  | p :: r, x => match eqD k x p.1 with | true => true | false => mhas k v r x
def mput (k v : Ty) : List (k.den × v.den) → k.den → v.den → List (k.den × v.den)
  | [], x, y => [(x, y)]
  | p :: r, x, y => match eqD k x p.1 with | true => (p.1, y) :: r | false => p :: mput k v r x y
/-! parts of a datum -/
structure C where
  t : Ty
  x : t.den
def part : (t : Ty) → t.den → List Bool → Option C
  | t, x, [] => some ⟨t, x⟩
  | .pair a b, x, false :: p => part a x.1 p
  | .pair a b, x, true :: p => part b x.2 p
  | .tree, x, [false] => some ⟨.str, x.s⟩
  | .tree, x, [true, false] => some ⟨.int .i64, x.r⟩
  | .tree, x, [true, true] => some ⟨.kids, x.k⟩
  | _, _, _ => none
def setPart : (t : Ty) → t.den → List Bool → C → Option t.den
  | t, x, [], n => n.t.cast t n.x
  | .pair a b, x, false :: p, n => match setPart a x.1 p n with | some y => some (y, x.2) | none => none
  | .pair a b, x, true :: p, n => match setPart b x.2 p n with | some y => some (x.1, y) | none => none
  | .tree, x, [false], n => match n.t.cast .str n.x with | some y => some (Tr.mk y x.r x.k) | none => none
  | .tree, x, [true, false], n => match n.t.cast (.int .i64) n.x with | some y => some (Tr.mk x.s y x.k) | none => none
  | .tree, x, [true, true], n => match n.t.cast .kids n.x with | some y => some (Tr.mk x.s x.r y) | none => none
  | _, _, _, _ => none
/-- a datum as the values of its cells -/
def leaves : (t : Ty) → t.den → List V
  | .pair a b, x => leaves a x.1 ++ leaves b x.2
  | .tree, x => [.d .str x.s, .d (.int .i64) x.r, .d .kids x.k]
  | .unit, _ => []
  | .ent _ _, _ => []
  | .int k, x => [.d (.int k) x]
  | .bool, x => [.d .bool x]
  | .str, x => [.d .str x]
  | .sl t, x => [.d (.sl t) x]
def val (t : Ty) (x : t.den) : V := if t.agg then .agg (leaves t x) else .d t x
/-- its zero -/
def zeros : Ty → List V
  | .pair a b => zeros a ++ zeros b
  | .tree => [.d .str ([] : List UInt8), .d (.int .i64) (0 : Int), .k (.slice none 0 0)]
  | .unit => []
  | .ent _ _ => []
  | .sl t => (match t.isEnt with | true => [.k (.map none)] | false => [.k (.slice none 0 0)])
  | .bool => [.k (.bool false)]
  | t => [.d t t.dflt]

/-! annotations -/
inductive L where
  | pv (t : Ty) | own (t : Ty) (n : Nat) | any
@[reducible] def L.den : L → Type | .pv t => t.den | .own t _ => List t.den | .any => V
def L.size : L → Nat | .pv t => t.size | _ => 1
@[reducible] def denL : List L → Type
  | [] => Unit | [a] => a.den | a :: b :: r => a.den × denL (b :: r)
inductive RV where
  | one (l : L) | agg (ls : List L) | ptr (ls : List L)
@[reducible] def RV.den : RV → Type | .one l => l.den | .agg ls => denL ls | .ptr ls => denL ls
@[reducible] def denR : List RV → Type
  | [] => Unit | [a] => a.den | a :: b :: r => a.den × denR (b :: r)
inductive SK where
  | one (l : L) | sh (j : Nat) (t : Ty) | box (fx : Bool) (ls : List L)   -- fx: its root is the slot's own
@[reducible] def SK.den : SK → Type
  | .one l => l.den | .sh _ _ => Unit | .box _ ls => denL ls
@[reducible] def denS : List (Nat × SK) → Type
  | [] => Unit | [a] => a.2.den | a :: b :: r => a.2.den × denS (b :: r)
structure FA where
  res : List RV
  hand : List (Nat × RV) := []      -- parameters that are handed on: boxes (what they hold comes back), rows
  cuts : List (Nat × List (Nat × SK)) := []
  bw : List Nat := []               -- slots whose rows are lent, not frozen, where they are handed to a call
structure Ann where
  ty : List (Nat × Ty)
  eqs : List (Nat × List Ty)         -- types that are compared cell by cell, and their cells
  fns : List (Nat × FA)
  mv : List Nat := []                -- rows of these types that are cut at their beginning stay the call's own
  ft : List Nat := []                -- types of functions that boxes may hold
  so : List Nat := []                -- rows of numbers that are stored into a row of rows of one's own go over to it
  mks : List Nat := []                -- functions that write numbers over the rows of an automaton
def mvT : List Nat → Nat → Bool | [], _ => false | a :: l, T => (match Nat.beq a T with | true => true | false => mvT l T)
def Ann.fa (A : Ann) (f : Nat) : FA := match fnd A.fns f with | some a => a | none => { res := [] }
def backs : List (Nat × RV) → List RV
  | [] => [] | (_, .ptr ls) :: r => .ptr ls :: backs r | _ :: r => backs r
def FA.outs (a : FA) : List RV := a.res ++ backs a.hand
@[reducible] def Ann.out (A : Ann) (f : Nat) : Type := denR (A.fa f).outs
def FA.cut (a : FA) (n : Nat) : List (Nat × SK) := match fnd a.cuts n with | some l => l | none => []
@[reducible] def Ann.cutDen (A : Ann) (f n : Nat) : Type := denS ((A.fa f).cut n)
structure Sm (A : Ann) where
  call : (f : Nat) → List V → Option (A.out f)
  cut : (f n : Nat) → A.cutDen f n → Option (A.out f)

/-! constants, plain operations -/
def cv : Value → V
  | .int k n => .d (.int k) n | .string s => .d .str s.data.toList | .agg cs => (match leafsB cs.toList with | true => .agg (cs.toList.map cv1) | false => .k (.agg cs)) | v => .k v
where
  leafsB : List Value → Bool
    | [] => true | .agg _ :: _ => false | .tuple _ :: _ => false | _ :: l => leafsB l
  cv1 : Value → V
    | .int k n => .d (.int k) n | .string s => .d .str s.data.toList | v => .k v
def V.asB : V → Option Bool | .d .bool x => some x | .k (.bool x) => some x | _ => none
def V.asI : V → Option Int | .d (.int _) x => some x | _ => none
def leafB : Value → Bool | .agg _ => false | .tuple _ => false | _ => true
def V.cells : V → List V
  | .agg l => l | .k v => (match leafB v with | true => [.k v] | false => []) | .tup _ => [] | .un => [] | .bx _ => [] | .ow _ _ _ => [] | v => [v]
def eqV (t : Ty) (a b : V) : Option Bool :=
  match t with
  | .int k => (match a, b with
    | .d (.int l) x, .d (.int m) y => (match ikEq k l, ikEq k m with | true, true => some (decide (x = y)) | _, _ => none)
    | _, _ => none)
  | .str => (match a, b with | .d .str x, .d .str y => some (decide (x = y)) | _, _ => none)
  | .bool => (match a.asB, b.asB with | some x, some y => some (decide (x = y)) | _, _ => none)
  | _ => none
def eqVs : List Ty → List V → List V → Option Bool
  | [t], [a], [b] => eqV t a b
  | t :: u :: ts, a :: r, b :: s => match eqV t a b, eqVs (u :: ts) r s with | some x, some y => some (x && y) | _, _ => none
  | _, _, _ => none
def binI (op : BinOp) (k : IntKind) (a b : Int) : Option V :=
  match op with
  | .add => some (.d (.int k) (k.wrap (a + b))) | .sub => some (.d (.int k) (k.wrap (a - b))) | .mul => some (.d (.int k) (k.wrap (a * b)))
  | .eql => some (.d .bool (decide (a = b))) | .neq => some (.d .bool (!decide (a = b)))
  | .lss => some (.d .bool (decide (a < b))) | .leq => some (.d .bool (decide (a ≤ b)))
  | .gtr => some (.d .bool (decide (b < a))) | .geq => some (.d .bool (decide (b ≤ a)))
  | .xor => some (.d (.int k) (k.wrap ((BitVec.ofInt k.bits a ^^^ BitVec.ofInt k.bits b).toNat : Int)))
  | .and => some (.d (.int k) (k.wrap ((BitVec.ofInt k.bits a &&& BitVec.ofInt k.bits b).toNat : Int)))
  | .or => some (.d (.int k) (k.wrap ((BitVec.ofInt k.bits a ||| BitVec.ofInt k.bits b).toNat : Int)))
  | _ => none
/-! memory -/
def rowAt : (t : Ty) → List t.den → List Nat → Option C
  | t, xs, [] => some ⟨.sl t, xs⟩
  | .sl t, xs, i :: is => rowAt t (rd xs i) is
  | _, _, _ => none
def elemAt : (t : Ty) → List t.den → List Nat → Option C
  | _, _, [] => none
  | t, xs, [i] => some ⟨t, rd xs i⟩
  | .sl t, xs, i :: j :: is => elemAt t (rd xs i) (j :: is)
  | _, _, _ => none
def setAt : (t : Ty) → List t.den → List Nat → List Bool → C → Option (List t.den)
  | t, xs, [i], p, n => match setPart t (rd xs i) p n with | some y => some (xs.set i y) | none => none
  | .sl t, xs, i :: j :: is, p, n => match setAt t (rd xs i) (j :: is) p n with | some y => some (xs.set i y) | none => none
  | _, _, _, _, _ => none
/-- The row behind a value: its elements' kind, the elements. -/
def rowOf (h : Heap) : V → Option C
  | .d (.sl t) xs => some ⟨.sl t, xs⟩
  | .ref r is v t => match look h r with
    | some (.row t0 n v0 fz xs) => (match is, Nat.beq v v0 with
      | [], _ => some ⟨.sl t0, xs⟩
      | i :: is, true => rowAt t0 xs (i :: is)
      | _, _ => none)
    | _ => none
  | _ => none
/-- What becomes of the root of a row that others now hold too. -/
def frz (h : Heap) (r : Nat) (is : List Nat) : Option Heap := match look h r with
  | some (.row t n v fz xs) => (match is, fz with
    | _, true => some []
    | [], false => some [(r, some (.row t n v true xs))]
    | _ :: js, false => some [(r, some (.row t (min n js.length) v false xs))])
  | _ => none
def leafD (h : Heap) (t : Ty) : V → Option (t.den × Heap)
  | .d s x => match s.cast t x with | some y => some (y, []) | none => none
  | .k (.slice none 0 0) => (match t with | .sl e => (match e.isEnt with | true => none | false => some ([], [])) | _ => none)
  | .k (.bool b) => (match t with | .bool => some (b, []) | _ => none)
  | .ref r is v e => match rowOf h (.ref r is v e), frz h r is with
    | some ⟨s, x⟩, some u => (match s.cast t x with | some y => some (y, u) | none => none)
    | _, _ => none
  | _ => none
def gather : (h : Heap) → (t : Ty) → List V → Option (t.den × List V × Heap)
  | h, .pair a b, l => match gather h a l with
    | some (x, l, u) => (match gather (u ++ h) b l with | some (y, l, u') => some ((x, y), l, u' ++ u) | none => none)
    | none => none
  | h, .tree, a :: b :: c :: l => match leafD h .str a, leafD h (.int .i64) b, leafD h .kids c with
    | some (x, []), some (y, []), some (z, u) => some (Tr.mk x y z, l, u)
    | _, _, _ => none
  | h, .unit, l => some ((), l, [])
  | h, .int k, v :: l => match leafD h (.int k) v with | some (x, u) => some (x, l, u) | none => none
  | h, .bool, v :: l => match leafD h .bool v with | some (x, u) => some (x, l, u) | none => none
  | h, .str, v :: l => match leafD h .str v with | some (x, u) => some (x, l, u) | none => none
  | h, .sl t, v :: l => match leafD h (.sl t) v with | some (x, u) => some (x, l, u) | none => none
  | _, _, _ => none
def datum (h : Heap) (t : Ty) (v : V) : Option (t.den × Heap) := match gather h t v.cells with | some (x, [], u) => some (x, u) | _ => none
/-- An element of a row of the call's own: what it is, how deep it is owned. -/
def elemV (h : Heap) (t : Ty) (v : V) : Option (t.den × Nat × Heap) :=
  match v with
  | .ref r [] w e => (match look h r with
    | some (.row t0 n _ false xs) => (match Ty.cast (.sl t0) t xs with | some y => some (y, n + 1, [(r, none)]) | none => none)
    | _ => (match datum h t v with | some (x, u) => some (x, 0, u) | none => none))
  | v => match datum h t v with | some (x, u) => some (x, 0, u) | none => none
def elemVs (h : Heap) (t : Ty) : List V → Option (List t.den × Nat × Heap)
  | [] => some ([], 99, [])
  | [v] => match elemV h t v with | some (x, n, u) => some ([x], n, u) | none => none
  | v :: l => match elemV h t v with
    | some (x, n, u) => (match elemVs (u ++ h) t l with | some (xs, m, u') => some (x :: xs, min n m, u' ++ u) | none => none)
    | none => none
/-- A row to be built upon: its elements, how deep they are owned, and what becomes of its root. -/
def baseV (h : Heap) (t : Ty) : V → Option (List t.den × Nat × Heap)
  | .k (.slice none 0 0) => (match t.isEnt with | true => none | false => some ([], 99, []))
  | .ref r [] w e => match look h r with
    | some (.row t0 n _ false xs) => (match Ty.cast (.sl t0) (.sl t) xs with | some y => some (y, n, [(r, none)]) | none => none)
    | _ => none
  | _ => none
def flatT : Ty → Bool | .sl _ => false | _ => true
/-- The elements that an append adds. -/
def addsV (h : Heap) (t : Ty) : V → Option (List t.den × Nat × Heap)
  | .d s x => match s.cast (.sl t) x with | some y => some (y, 0, []) | none => none
  | .k (.slice none 0 0) => some ([], 99, [])
  | .ref r is w e => match look h r, is with
    | some (.row t0 n _ false xs), [] => (match Ty.cast (.sl t0) (.sl t) xs with | some y => (match n, flatT t with | 0, _ => some (y, 0, []) | _, true => some (y, 0, []) | n, false => some (y, n, [(r, none)])) | none => none)
    | _, _ => (match leafD h (.sl t) (.ref r is w e) with | some (y, u) => some (y, 0, u) | none => none)
  | _ => none

/-! results, parameters, cuts -/
def stable : V → Bool
  | .d _ _ => true | .el _ _ => true | .eb l _ => stables l | .k _ => true | .fn _ caps => stables caps | _ => false
where stables : List V → Bool | [] => true | v :: l => stable v && stables l
/-- A value at a place that is told beforehand, and what becomes of its root. -/
def toL (h : Heap) : (l : L) → List V → Option (l.den × List V × Heap)
  | .pv t, vs => gather h t vs
  | .any, v :: vs => if stable v then some (v, vs, []) else none
  | .own t n, v :: vs => match baseV h t v with
    | some (xs, m, u) => (match Nat.ble n m with
      | true => some (xs, vs, u)
      | false => none)
    | none => none
  | _, _ => none
def toLs (h : Heap) : (ls : List L) → List V → Option (denL ls × List V × Heap)
  | [], vs => some ((), vs, [])
  | [l], vs => toL h l vs
  | l :: m :: r, vs => match toL h l vs with
    | some (x, vs, u) => (match toLs (u ++ h) (m :: r) vs with | some (y, vs, u') => some ((x, y), vs, u' ++ u) | none => none)
    | none => none
def L.agg : L → Bool | .pv t => t.agg | _ => false
/-- A struct, or not. -/
def fit : Bool → V → Bool
  | true, .agg _ => true | true, _ => false | false, .agg _ => false | false, _ => true
def toRV (h : Heap) : (a : RV) → V → Option (a.den × Heap)
  | .one l, v => match fit l.agg v, toL h l v.cells with | true, some (x, [], u) => some (x, u) | _, _ => none
  | .agg ls, .agg cs => match toLs h ls cs with | some (x, [], u) => some (x, u) | _ => none
  | .ptr ls, .ptr r 0 => match look h r with
    | some (.box cs) => (match toLs ((r, none) :: h) ls cs with | some (x, [], u) => some (x, u ++ [(r, none)]) | _ => none)
    | _ => none
  | _, _ => none
def toRs (h : Heap) : (as : List RV) → List V → Option (denR as)
  | [], [] => some ()
  | [a], [v] => match toRV h a v with | some (x, _) => some x | none => none
  | a :: b :: r, v :: vs => match toRV h a v with
    | some (x, u) => (match toRs (u ++ h) (b :: r) vs with | some y => some (x, y) | none => none)
    | none => none
  | _, _ => none
/-- The cells of a value that came, and the roots that come with it, numbered from κ on. -/
def ofL (κ : Nat) : (l : L) → l.den → List V × Heap
  | .pv t, x => (leaves t x, [])
  | .any, x => ([x], [])
  | .own t n, xs => ([.ref κ [] κ t], [(κ, some (.row t n κ false xs))])
def ofLs (κ : Nat) : (ls : List L) → denL ls → List V × Heap
  | [], _ => ([], [])
  | [l], x => ofL κ l x
  | l :: m :: r, x => ((ofL κ l x.1).1 ++ (ofLs (κ + 1) (m :: r) x.2).1, (ofLs (κ + 1) (m :: r) x.2).2 ++ (ofL κ l x.1).2)
def ofRV (κ : Nat) : (a : RV) → a.den → V × Heap
  | .one l, x => if l.agg then (.agg (ofL κ l x).1, (ofL κ l x).2) else (match (ofL κ l x).1 with | [v] => (v, (ofL κ l x).2) | _ => (.un, []))
  | .agg ls, x => (.agg (ofLs (10000 * (κ + 1)) ls x).1, (ofLs (10000 * (κ + 1)) ls x).2)
  | .ptr ls, x => (.ptr κ 0, (κ, some (.box (ofLs (10000 * (κ + 1)) ls x).1)) :: (ofLs (10000 * (κ + 1)) ls x).2)
def ofRs (κ : Nat) : (as : List RV) → denR as → List V × Heap
  | [], _ => ([], [])
  | [a], x => ([(ofRV κ a x).1], (ofRV κ a x).2)
  | a :: b :: r, x => ((ofRV κ a x.1).1 :: (ofRs (10000 * (κ + 1) + 100) (b :: r) x.2).1, (ofRs (10000 * (κ + 1) + 100) (b :: r) x.2).2 ++ (ofRV κ a x.1).2)
/-- At a cut: what is told of each slot. -/
def toS' (h : Heap) (T : Tmps) : (ks : List (Nat × SK)) → Option (denS ks)
  | [] => some ()
  | [a] => match toSK h T a.1 a.2 with | some (x, _) => some x | none => none
  | a :: b :: r => match toSK h T a.1 a.2 with
    | some (x, u) => (match toS' (u ++ h) T (b :: r) with | some y => some (x, y) | none => none)
    | none => none
where toSK (h : Heap) (T : Tmps) (i : Nat) : (k : SK) → Option (k.den × Heap)
  | .one l => match fnd T i with
    | some v => (match fit l.agg v, toL h l v.cells with | true, some (x, [], u) => some (x, u) | _, _ => none)
    | none => none
  | .sh j _ => match fnd T i, fnd T j with
    | some (.ref r [] v t), some (.ref r' [] v' t') => (match Nat.beq r r' with | true => some ((), []) | false => none)
    | _, _ => none
  | .box fx ls => match fnd T i with
    | some (.ptr r 0) => (match !fx || Nat.beq r i, look h r with
      | true, some (.box cs) => (match toLs ((r, none) :: h) ls cs with | some (x, [], u) => some (x, u ++ [(r, none)]) | _ => none)
      | _, _ => none)
    | _ => none
/-- Slots that share a row: it is there. -/
def alsOk (h : Heap) (T : Tmps) : List (Nat × SK) → Bool
  | [] => true
  | (i, .sh j t) :: r => (match fnd T i with
    | some (.ref q [] _ _) => (match look h q with | some (.row _ _ _ _ _) => alsOk h T r | _ => false)
    | _ => false)
  | _ :: r => alsOk h T r
def toS (h : Heap) (T : Tmps) (ks : List (Nat × SK)) : Option (denS ks) := match alsOk h T ks with | true => toS' h T ks | false => none
def ofSK (i : Nat) : (k : SK) → k.den → V × Heap
  | .one l, x => ofRV i (.one l) x
  | .sh j t, _ => (.ref j [] j t, [])
  | .box _ ls, x => (.ptr i 0, (i, some (.box (ofLs (10000 * (i + 1)) ls x).1)) :: (ofLs (10000 * (i + 1)) ls x).2)
def ofS : (ks : List (Nat × SK)) → denS ks → St
  | [], _ => ⟨[], []⟩
  | [a], x => ⟨[(a.1, (ofSK a.1 a.2 x).1)], (ofSK a.1 a.2 x).2⟩
  | a :: b :: r, x => ⟨(a.1, (ofSK a.1 a.2 x.1).1) :: (ofS (b :: r) x.2).t, (ofSK a.1 a.2 x.1).2 ++ (ofS (b :: r) x.2).h⟩
end Go.Proofs.YtpoppblfnaipbaaDoor.Eng
/-! ## The engine: one operation, a region, code, a program. Definitions. -/
namespace Go.Proofs.YtpoppblfnaipbaaDoor.Eng
open Go
set_option autoImplicit false
set_option linter.unusedVariables false
section
variable {R : Type}

def nz : Operand → Bool
  | .const (.int _ (.ofNat (_ + 1))) => true | .const (.int _ (.negSucc _)) => true | _ => false
def nzE (z : Bool) (y : Int) (a : Option R) : Option R := match z with | true => a | false => ifE (y = 0) none a
/-- Rows, no maps. -/
def slTy (A : Ann) (T : Nat) : Bool := match fnd A.ty T with | some (.sl t) => !t.isEnt | _ => false
def bin (A : Ann) (T : Nat) (z : Bool) (op : BinOp) (a b : V) (K : V → Option R) : Option R :=
  match a, b with
  | .d (.int k) x, .d (.int l) y =>
    match op, ikEq k l with
    | .shl, _ => ifE (0 ≤ y) (K (.d (.int k) (k.wrap (x * 2 ^ (min y.toNat k.bits))))) none
    | .shr, _ => ifE (0 ≤ y) (K (.d (.int k) (x.fdiv (2 ^ (min y.toNat k.bits))))) none
    | .quo, true => nzE z y (K (.d (.int k) (k.wrap (x.tdiv y))))
    | .rem, true => nzE z y (K (.d (.int k) (x.tmod y)))
    | op, true => (match binI op k x y with | some v => K v | none => none)
    | _, false => none
  | .d (.sl t) xs, .k (.slice none _ _) => (match op, slTy A T && !t.isEnt with
      | .eql, true => ifE (0 < List.length xs) (K (.k (.bool false))) none
      | .neq, true => ifE (0 < List.length xs) (K (.k (.bool true))) none
      | _, _ => none)
  | .d .str x, .d .str y => (match op with
      | .add => ifE (x.length + y.length < 4611686018427387904) (K (.d .str (x ++ y))) none
      | .eql => K (.d .bool (decide (x = y)))
      | .neq => K (.d .bool (!decide (x = y)))
      | .lss => K (.d .bool (Op.bytesLess x y))
      | .gtr => K (.d .bool (!(Op.bytesLess x y || decide (x = y))))
      | _ => none)
  | .agg l, .agg m => (match fnd A.eqs T with
      | some (t0 :: t1 :: ts) => (match eqVs (t0 :: t1 :: ts) l m with
        | some r => (match op with | .eql => K (.d .bool r) | .neq => K (.d .bool (!r)) | _ => none)
        | none => none)
      | _ => none)
  | a, b => (match fnd A.eqs T, a.asB, b.asB with
      | some [.bool], some x, some y => (match op with | .eql => K (.d .bool (decide (x = y))) | .neq => K (.d .bool (!decide (x = y))) | _ => none)
      | _, _, _ => none)

def tk {α : Type} : List α → Nat → Nat → List α
  | a :: l, 0, n + 1 => a :: tk l 0 n
  | _ :: l, o + 1, n => tk l o n
  | _, _, _ => []
/-- A value out of cells. -/
def getC (t : Ty) (l : List V) (c : Nat) (K : V → Heap → Option R) : Option R :=
  match t.agg with
  | true => (match Nat.beq (tk l c t.size).length t.size with | true => K (.agg (tk l c t.size)) [] | false => none)
  | false => (match tk l c 1 with | [v] => K v [] | _ => none)
def isTy (A : Ann) (T : Nat) (t : Ty) : Bool := match fnd A.ty T with | some u => u.beq t | none => false
/-- The path to a field of a struct of m fields. -/
def fpath : (m f : Nat) → List Bool
  | 0, _ => [] | 1, _ => [] | m + 2, 0 => [false] | m + 2, f + 1 => true :: fpath (m + 1) f
def A.tyOf (A : Ann) (T : Nat) : Option Ty := fnd A.ty T
def fieldAt (P : Program) (T f : Nat) : Option (Nat × List Bool) :=
  match P.underlying T with
  | some (.struct fs) => (match fs[f]? with
    | some g => (match P.info? g.type with | some i => (match i.size with | 0 => none | _ + 1 => some (g.offset, fpath fs.size f)) | none => none)
    | none => none)
  | _ => none
def fieldTy (P : Program) (A : Ann) (T f : Nat) : Option Ty :=
  match P.underlying T with
  | some (.struct fs) => (match fs[f]? with | some g => fnd A.ty g.type | none => none)
  | _ => none
/-- The elements take cells. -/
def nosz (A : Ann) (T : Nat) : Bool := match fnd A.ty T with | some (.sl t) => Nat.blt 0 t.size | _ => false
/-- A kind of rows (no map). -/
def isSl (A : Ann) (T : Nat) (t : Ty) : Bool := isTy A T (.sl t) && !t.isEnt
def elemTy (A : Ann) (T : Nat) : Option Ty := match fnd A.ty T with | some (.sl t) => (match t.isEnt with | true => none | false => some t) | _ => none
/-- A map whose keys are structs. -/
def structKey (P : Program) (T : Nat) : Bool := match P.underlying T with | some (.map K _) => (match P.underlying K with | some (.struct _) => true | _ => false) | _ => false
def setAtL {α : Type} : List α → Nat → List α → List α
  | [], _, _ => []
  | a :: l, 0, v :: vs => v :: setAtL l 0 vs
  | l, 0, [] => l
  | a :: l, n + 1, vs => a :: setAtL l n vs
def places (P : Program) : List Field → Option (List (Nat × Nat))
  | [] => some []
  | f :: fs => match P.info? f.type, places P fs with | some i, some l => some ((f.offset, i.size) :: l) | _, _ => none
def nth {α : Type} : List α → Nat → Option α
  | [], _ => none | a :: _, 0 => some a | _ :: l, n + 1 => nth l n
def partAt (P : Program) (T f : Nat) : Option (Nat × Nat) :=
  match P.underlying T with
  | some (.array _ e) => (match P.info? e with | some i => some (f * i.size, i.size) | none => none)
  | some (.struct fs) => (match places P fs.toList with | some ps => nth ps f | none => none)
  | _ => none
def buildOk (P : Program) (T : Nat) : Bool :=
  match P.underlying T with
  | some (.array _ e) => (match P.info? e with | some _ => true | none => false)
  | some (.struct fs) => (match places P fs.toList with | some _ => true | none => false)
  | _ => false
def fillV (P : Program) (T : Nat) : List V → List (Nat × V) → Option (List V)
  | l, [] => some l
  | l, (f, v) :: r => match partAt P T f with
    | some (o, s) => (match Nat.beq v.cells.length s && (Nat.blt 0 s && Nat.ble (o + s) l.length) with | true => fillV P T (setAtL l o v.cells) r | false => none)
    | none => none
def partsDense : Nat → List (Nat × V) → Option (List V)
  | _, [] => some []
  | i, (j, v) :: r => match Nat.beq i j with | true => (match partsDense (i + 1) r with | some l => some (v :: l) | none => none) | false => none
def idx (i : V) (n : Nat) (K : Nat → Option R) : Option R :=
  match i with
  | .d (.int _) x => ifE (0 ≤ x) (ifE (x < (n : Int)) (K x.toNat) none) none
  | _ => none
/-- A bound of a cut. -/
def lowV (i : Option V) (K : Int → Option R) : Option R :=
  match i with | none => K 0 | some (.d (.int _) x) => K x | _ => none
def highV (i : Option V) (n : Nat) (K : Int → Option R) : Option R :=
  match i with | none => K (n : Int) | some (.d (.int _) x) => K x | _ => none
def liveB (h : Heap) (r : Nat) : Bool := match look h r with | some (.box _) => true | _ => false
def liveV (h : Heap) (r v : Nat) : Bool := match look h r with | some (.row _ _ v0 _ _) => Nat.beq v v0 | _ => false
def lenV (A : Ann) (T : Nat) (h : Heap) (v : V) : Option Nat :=
  match fnd A.ty T, v with
  | some .str, .d .str x => some x.length
  | some (.sl _), .k (.slice none 0 _) => (match slTy A T with | true => some 0 | false => none)
  | some (.sl _), v => (match slTy A T, rowOf h v with | true, some ⟨.sl t, xs⟩ => (match t.isEnt with | true => none | false => some (List.length xs)) | _, _ => none)
  | _, _ => none
def toBytes (s : List UInt8) : List Int := s.map fun c => (c.toNat : Int)
def ofBytes (l : List Int) : List UInt8 := l.map fun n => UInt8.ofNat n.toNat
def maxLenE : Nat := 1099511627776
def lend0 (h : Heap) : List V → Option (List V × List Nat)
  | [] => some ([], [])
  | .ptr r o :: l => (match look h r with
    | some (.box cs) => (match stable.stables cs, lend0 h l with | true, some (l, q) => some (.eb cs o :: l, r :: q) | _, _ => none)
    | _ => none)
  | v :: l => (match stable v, lend0 h l with | true, some (l, q) => some (v :: l, q) | _, _ => none)
/-- Boxes that a closure holds, lent: what they hold is read. A box may hold a closure. -/
def lend (h : Heap) : List V → Option (List V × List Nat)
  | [] => some ([], [])
  | .ptr r o :: l => (match look h r with
    | some (.box [.fn f caps]) => (match lend0 h caps, lend h l with | some (c, q0), some (l, q) => some (.eb [.fn f c] o :: l, r :: (q0 ++ q)) | _, _ => none)
    | some (.box cs) => (match stable.stables cs, lend h l with | true, some (l, q) => some (.eb cs o :: l, r :: q) | _, _ => none)
    | _ => none)
  | v :: l => (match stable v, lend h l with | true, some (l, q) => some (v :: l, q) | _, _ => none)
def Ty.flat : Ty → Bool
  | .sl _ => false | .tree => false | .pair a b => a.flat && b.flat | _ => true
def Ty.flatAt : Nat → Ty → Bool
  | 0, t => t.flat | n + 1, .sl t => Ty.flatAt n t | _ + 1, t => t.flat
/-- No row of another can be within. -/
def L.tight : L → Bool | .pv t => t.flat | .own t n => t.flatAt n | .any => false
def tights : List L → Bool | [] => true | l :: r => l.tight && tights r
def RV.tight : RV → Bool | .one l => l.tight | .agg ls => tights ls | .ptr ls => tights ls
def tightR : List RV → Bool | [] => true | a :: r => a.tight && tightR r
/-- A row that is lent. -/
def lentC (h : Heap) : V → Option (V × List Nat)
  | .ref r is w t => (match rowOf h (.ref r is w t) with | some ⟨.sl s, xs⟩ => some (.d (.sl s) xs, [r]) | _ => none)
  | v => (match stable v with | true => some (v, []) | false => none)
def lentCs (h : Heap) : List V → Option (List V × List Nat)
  | [] => some ([], [])
  | v :: l => (match lentC h v, lentCs h l with | some (v, q), some (l, q') => some (v :: l, q ++ q') | _, _ => none)
/-- A row, or a box, that is lent. -/
def lentV (h : Heap) : V → Option (V × List Nat)
  | .ptr r o => (match look h r with
    | some (.box cs) => (match lentCs h cs with | some (l, q) => some (.eb l o, r :: q) | none => none)
    | _ => none)
  | v => lentC h v
def lentL (h : Heap) : List V → Option (List V × List Nat)
  | [] => some ([], [])
  | v :: l => (match lentV h v, lentL h l with | some (v, q), some (l, q') => some (v :: l, q ++ q') | _, _ => none)
/-- A row that is frozen. -/
def frozV (h : Heap) : V → Option (V × Heap)
  | .ref r is w t => (match leafD h (.sl t) (.ref r is w t) with | some (x, u) => some (.d (.sl t) x, u) | none => none)
  | v => (match stable v with | true => some (v, []) | false => none)
def froz (h : Heap) : List V → Option (List V × Heap)
  | [] => some ([], [])
  | v :: l => (match frozV h v with
    | some (v, u) => (match froz (u ++ h) l with | some (l, u') => some (v :: l, u' ++ u) | none => none)
    | none => none)
/-- What is handed to a call: the value, what becomes of the roots, each handed box's root, the roots that are lent. -/
def argV (h : Heap) (hand : List (Nat × RV)) (bw : Bool) (i : Nat) (v : V) : Option (V × Heap × List Nat × List Nat) :=
  match fnd hand i with
  | some (.ptr ls) => (match v with
    | .ptr r 0 => (match look h r with | some (.box cs) => (match stable.stables cs with | true => some (.bx cs, [(r, none)], [r], []) | false => none) | _ => none)
    | _ => none)
  | some (.one (.own t n)) => (match baseV h t v with | some (xs, m, u) => some (.ow t m xs, u, [], []) | none => none)
  | _ => (match v, bw with
    | .agg l, true => (match lentL h l with | some (l, q) => some (.agg l, [], [], q) | none => none)
    | .agg l, false => (match froz h l with | some (l, u) => some (.agg l, u, [], []) | none => none)
    | .fn f caps, true => (match lend h caps with | some (l, q) => some (.fn f l, [], [], q) | none => none)
    | v, true => (match lentV h v with | some (v, q) => some (v, [], [], q) | none => none)
    | v, false => (match frozV h v with | some (v, u) => some (v, u, [], []) | none => none))
def argVs (h : Heap) (bw : Bool) (hand : List (Nat × RV)) : Nat → List V → Option (List V × Heap × List Nat × List Nat)
  | _, [] => some ([], [], [], [])
  | i, v :: l => match argV h hand bw i v with
    | some (v, u, b, q) => (match argVs (u ++ h) bw hand (i + 1) l with | some (l, u', b', q') => some (v :: l, u' ++ u, b ++ b', q ++ q') | none => none)
    | none => none
/-- Roots that still stand. -/
def alive (h : Heap) : List Nat → Bool
  | [] => true | r :: q => (match look h r with | some _ => alive h q | none => false)
/-- Gives back what handed boxes hold. -/
def giveBack (κ : Nat) : (as : List RV) → denR as → List Nat → Heap
  | [], _, _ => []
  | [.ptr ls], x, r :: _ => (r, some (.box (ofLs κ ls x).1)) :: (ofLs κ ls x).2
  | .ptr ls :: b :: as, x, r :: rs => giveBack (κ + 100) (b :: as) x.2 rs ++ (r, some (.box (ofLs κ ls x.1).1)) :: (ofLs κ ls x.1).2
  | _, _, _ => []
def splitR : (as bs : List RV) → denR (as ++ bs) → denR as × denR bs
  | [], bs, x => ((), x)
  | [a], [], x => (x, ())
  | [a], b :: bs, x => (x.1, x.2)
  | a :: a' :: as, bs, x => ((x.1, (splitR (a' :: as) bs x.2).1), (splitR (a' :: as) bs x.2).2)
/-- All numbers of new roots are new. -/
def freshAll (h : Heap) : Heap → Bool
  | [] => true
  | (r, _) :: u => fresh h r && freshAll ((r, none) :: h) u
/-- At most one box is handed. -/
def okB : List RV → List Nat → Bool | [], [] => true | [_], [_] => true | _, _ => false
def tupV : List V → V | [v] => v | l => .tup l

def callN {A : Ann} (S : Sm A) (κ g : Nat) (h : Heap) (args : List V) (K : V → Heap → Option R) : Option R :=
  match argVs h (tightR (A.fa g).outs) (A.fa g).hand 0 args with
  | some (vs, u, b, q) => (S.call g vs).bind fun x =>
      (fun (y : List V × Heap) (z : Heap) => match alive (u ++ h) q, freshAll h y.2, freshAll (y.2 ++ h) z.tail, okB (backs (A.fa g).hand) b with
      | true, true, true, true => K (tupV y.1) (z ++ (y.2 ++ u))
      | _, _, _, _ => none) (ofRs κ (A.fa g).res (splitR (A.fa g).res (backs (A.fa g).hand) x).1) (giveBack (10000 * (κ + 1) + 5000) (backs (A.fa g).hand) (splitR (A.fa g).res (backs (A.fa g).hand) x).2 b)
  | none => none

/-! numbers written over the rows of an automaton, from k on -/
def markB : Int → List Bool → List Bool
  | _, [] => [] | k, _ :: l => decide (k.tmod 3 = 0) :: markB (k + 1) l
def markI : Int → List Int → List Int
  | _, [] => [] | k, _ :: l => k :: markI (k + 1) l
def markG : Int → List (List Int) → List (List Int)
  | _, [] => [] | k, x :: l => markI k x :: markG (k + (List.length x : Nat)) l
def lenG : List (List Int) → Nat
  | [] => 0 | x :: l => List.length x + lenG l
def markV (κ : Nat) (h : Heap) (args : List V) (K : V → Heap → Option R) : Option R :=
  match args with
  | [.agg [.d (.int .i64) _, .ref r1 [] _ _, .ref r2 [] _ _], .d (.int .i64) k] =>
    (match look h r1, look h r2, fresh h κ with
      | some (.row .bool n1 _ false xs), some (.row (.sl (.int .i64)) n2 _ false gs), true =>
        (match Nat.ble 1 n2 with
          | true => ifE (0 ≤ k ∧ k + ((List.length xs + lenG gs : Nat) : Int) ≤ 1099511627776)
              (K (.d (.int .i64) (k + ((List.length xs + lenG gs : Nat) : Int))) [(r1, some (.row .bool n1 κ false (markB k xs))), (r2, some (.row (.sl (.int .i64)) n2 κ false (markG (k + (List.length xs : Nat)) gs))), (κ, none)]) none
          | false => none)
      | _, _, _ => none)
  | _ => none
def callV {A : Ann} (S : Sm A) (κ g : Nat) (h : Heap) (args : List V) (K : V → Heap → Option R) : Option R :=
  match mvT A.mks g with | true => markV κ h args K | false => callN S κ g h args K

/-- The least, the greatest. -/
def mmFold (mx : Bool) (k : IntKind) : Int → List V → Option Int
  | x, [] => some x
  | x, .d (.int l) y :: r => (match ikEq k l with | true => mmFold mx k (match mx with | true => ifE (x < y) y x | false => ifE (y < x) y x) r | false => none)
  | _, _ => none
/-- A row of one's own becomes an element of a row of rows of one's own. -/
def storeOwn (κ : Nat) (h : Heap) (r i v : Nat) (x : V) : Option Heap :=
  match x with
  | .ref r2 [] _ _ => (match look h r, look h r2, fresh h κ with
    | some (.row (.sl (.int .i64)) n v0 false xs), some (.row (.int .i64) _ _ false ys), true => (match Nat.beq v v0, Nat.ble 1 n with
      | true, true => some [(r, some (.row (.sl (.int .i64)) n κ false (List.set xs i ys))), (κ, none), (r2, none)]
      | _, _ => none)
    | _, _, _ => none)
  | _ => none
/-- One operation: what it yields, and what becomes of the roots. -/
def stepO (P : Program) {A : Ann} (S : Sm A) (κ : Nat) (ρ : Operand → V) (h : Heap) (o : Oper) (K : V → Heap → Option R) : Option R :=
  match o.op with
  | .move x => K (ρ x) []
  | .assign x => K (ρ x) []
  | .pick c a b => (match (ρ c).asB with | some x => K (match x with | true => ρ a | false => ρ b) [] | none => none)
  | .alloc T => (match fnd A.ty T, fresh h κ with
      | some t, true => K (.ptr κ 0) [(κ, some (.box (zeros t)))]
      | none, true => (match mvT A.ft T with | true => K (.ptr κ 0) [(κ, some (.box [.un]))] | false => none)
      | _, _ => none)
  | .box T x => (match fnd A.ty T, fresh h κ with | some t, true => (match Nat.beq (ρ x).cells.length t.size && Nat.blt 0 t.size with | true => K (.ptr κ 0) [(κ, some (.box (ρ x).cells))] | false => none) | _, _ => none)
  | .build T parts => (match fnd A.ty T, buildOk P T with
      | some t, true => (match fillV P T (zeros t) (parts.toList.map fun p => (p.1, ρ p.2)) with | some l => K (.agg l) [] | none => none)
      | _, _ => none)
  | .buildSlice T n parts => (match elemTy A T, partsDense 0 (parts.toList.map fun p => (p.1, ρ p.2)), fresh h κ with
      | some t, some vs, true => (match Nat.beq n vs.length && (Nat.blt 0 t.size && Nat.ble (n * t.size) 16777216), elemVs h t vs with
        | true, some (xs, m, u) => K (.ref κ [] κ t) ((κ, some (.row t m κ false xs)) :: u)
        | _, _ => none)
      | _, _, _ => none)
  | .load T x => (match fnd A.ty T, ρ x with
      | some t, .ptr r c => (match look h r with
        | some (.box l) => getC t l c K
        | _ => none)
      | some t, .el s x => (match s.beq t with | true => K (val s x) [] | false => none)
      | some t, .eb l c => getC t l c K
      | none, .ptr r c => (match mvT A.ft T, look h r, c with | true, some (.box [v]), 0 => K v [] | _, _, _ => none)
      | none, .eb l c => (match mvT A.ft T, l, c with | true, [v], 0 => K v [] | _, _, _ => none)
      | some t, .rp r is v p s => (match look h r, s.beq t with
        | some (.row t0 n v0 fz xs), true => (match Nat.beq v v0, elemAt t0 xs is with
          | true, some c => (match p, Nat.ble is.length n, c.t with
            | [], true, .sl e => K (.ref r is v e) []
            | p, _, _ => (match part c.t c.x p with | some z => K (val z.t z.x) [] | none => none))
          | _, _ => none)
        | _, _ => none)
      | _, _ => none)
  | .store T a x => (match fnd A.ty T, ρ a with
      | some t, .ptr r c => (match look h r, Nat.beq (ρ x).cells.length t.size && Nat.blt 0 t.size with
        | some (.box l), true => (match Nat.ble (c + t.size) l.length with | true => K .un [(r, some (.box (setAtL l c (ρ x).cells)))] | false => none)
        | _, _ => none)
      | none, .ptr r c => (match mvT A.ft T, look h r, c, ρ x with | true, some (.box [_]), 0, .fn f caps => K .un [(r, some (.box [.fn f caps]))] | _, _, _, _ => none)
      | some t, .rp r is v p s => (match mvT A.so T with
        | true => (match is, p, s.beq t && s.beq (.sl (.int .i64)) with
          | [i], [], true => (match storeOwn κ h r i v (ρ x) with | some u => K .un u | none => none)
          | _, _, _ => none)
        | false => (match s.beq t && Nat.blt 0 s.size, datum h s (ρ x) with
          | true, some (y, u) => (match look (u ++ h) r with
            | some (.row t0 n v0 false xs) => (match Nat.beq v v0 && Nat.ble is.length (n + 1), setAt t0 xs is p ⟨s, y⟩ with
              | true, some zs => (match (generalizing := false) s, p with
                | .sl _, [] => (match fresh h κ with
                  | true => K .un ((r, some (.row t0 (min n (is.length - 1)) κ false zs)) :: (κ, none) :: u)
                  | false => none)
                | _, _ => K .un ((r, some (.row t0 n v0 false zs)) :: u))
              | _, _ => none)
            | _ => none)
          | _, _ => none))
      | _, _ => none)
  | .nilCheck x => (match ρ x with | .ptr r c => (match liveB h r with | true => K (.ptr r c) [] | false => none) | .el t y => K (.el t y) [] | .eb l o => K (.eb l o) [] | .rp r is v p t => (match liveV h r v with | true => K (.rp r is v p t) [] | false => none) | _ => none)
  | .binOp op T x y _ => bin A T (nz y) op (ρ x) (ρ y) fun v => K v []
  | .unOp op _ x => (match op, ρ x with
      | .not, .k (.bool b) => K (.k (.bool (!b))) []
      | .not, .d .bool b => K (.d .bool (!b)) []
      | .neg, .d (.int k) n => K (.d (.int k) (k.wrap (0 - n))) []
      | _, _ => none)
  | .convert T U x => (match P.underlying T, P.underlying U, ρ x with
      | some _, some (.int k), .d (.int _) n => K (.d (.int k) (k.wrap n)) []
      | some .string, some .string, .d .str s => K (.d .str s) []
      | some (.slice e), some .string, v => (match P.underlying e, rowOf h v with
        | some (.int .u8), some ⟨.sl (.int .u8), xs⟩ => K (.d .str (ofBytes xs)) []
        | _, _ => none)
      | some .string, some (.slice e), .d .str s => (match P.underlying e with
        | some (.int .u8) => K (.d (.sl (.int .u8)) (toBytes s)) []
        | _ => none)
      | _, _, _ => none)
  | .makeFunc (.func f) first caps => (match first.toList with | [] => K (.fn f (caps.toList.map ρ)) [] | _ => none)
  | .makeSlice T l c => (match elemTy A T, ρ l, ρ c, fresh h κ with
      | some t, .d (.int _) n, .d (.int _) m, true => (match t.noEnt with | false => none | true => ifE (n = m) (ifE (0 ≤ n) (ifE (n < (maxLenE : Int)) (K (.ref κ [] κ t) [(κ, some (.row t 99 κ false (List.replicate n.toNat t.dflt)))]) none) none) none)
      | _, _, _, _ => none)
  | .slice T x lo hi mx => (match mx, ρ x with
      | none, .d .str s => (match isTy A T .str with | false => none | true => lowV (lo.map ρ) fun a => highV (hi.map ρ) s.length fun b => ifE (0 ≤ a) (ifE (a ≤ b) (ifE (b ≤ (s.length : Int)) (K (.d .str ((s.take b.toNat).drop a.toNat)) []) none) none) none)
      | none, .d (.sl t) xs => (match isSl A T t with | false => none | true => lowV (lo.map ρ) fun a => highV (hi.map ρ) (List.length xs) fun b => ifE (0 ≤ a) (ifE (a ≤ b) (ifE (b ≤ ((List.length xs : Nat) : Int)) (K (.d (.sl t) ((List.take b.toNat xs).drop a.toNat)) []) none) none) none)
      | none, .ref r is w t => (match mvT A.mv T, hi, isSl A T t, leafD h (.sl t) (.ref r is w t) with
        | true, none, true, _ => (match baseV h t (.ref r is w t), fresh h κ with
          | some (xs, n, u), true => lowV (lo.map ρ) fun a => ifE (0 ≤ a) (ifE (a ≤ ((List.length xs : Nat) : Int)) (K (.ref κ [] κ t) ((κ, some (.row t n κ false (List.drop a.toNat xs))) :: u)) none) none
          | _, _ => none)
        | true, some y, true, _ => (match baseV h t (.ref r is w t), fresh h κ with
          | some (xs, n, u), true => lowV (lo.map ρ) fun a => highV (some (ρ y)) (List.length xs) fun b => ifE (0 ≤ a) (ifE (a ≤ b) (ifE (b ≤ ((List.length xs : Nat) : Int)) (K (.ref κ [] κ t) ((κ, some (.row t n κ false (List.drop a.toNat (List.take b.toNat xs)))) :: u)) none) none) none
          | _, _ => none)
        | false, hi, true, some (xs, u) => lowV (lo.map ρ) fun a => highV (hi.map ρ) (List.length xs) fun b => ifE (0 ≤ a) (ifE (a ≤ b) (ifE (b ≤ ((List.length xs : Nat) : Int)) (K (.d (.sl t) ((List.take b.toNat xs).drop a.toNat)) u) none) none) none
        | _, _, _, _ => none)
      | _, _ => none)
  | .fieldAddr T x f => (match fieldAt P T f, ρ x with
      | some (c, p), .ptr r o => (match liveB h r with | true => K (.ptr r (o + c)) [] | false => none)
      | some (c, p), .eb l o => K (.eb l (o + c)) []
      | some (c, p), .el t y => (match isTy A T t, part t y p with | true, some z => K (.el z.t z.x) [] | _, _ => none)
      | some (c, p), .rp r is v q t => (match isTy A T t && liveV h r v, part t t.dflt p with | true, some z => K (.rp r is v (q ++ p) z.t) [] | _, _ => none)
      | _, _ => none)
  | .field T x f => (match fieldAt P T f, ρ x, fieldTy P A T f with
      | some (c, p), .agg l, some t => getC t l c K
      | _, _, _ => none)
  | .indexAddr T x i => (match ρ x with
      | .d (.sl t) xs => (match isSl A T t with | true => idx (ρ i) (List.length xs) fun j => K (.el t (rd xs j)) [] | false => none)
      | .ref r is v t => (match rowOf h (.ref r is v t) with
        | some ⟨.sl s, xs⟩ => (match isSl A T s, look h r with | true, some (.row _ _ v0 _ _) => idx (ρ i) (List.length xs) fun j => K (.rp r (is ++ [j]) v0 [] s) [] | _, _ => none)
        | _ => none)
      | .ptr r o => (match P.underlying T with
        | some (.array n e) => (match fnd A.ty e, ρ i with
          | some t, .d (.int _) (.ofNat j) => (match Nat.blt j n && liveB h r with | true => K (.ptr r (o + j * t.size)) [] | false => none)
          | _, _ => none)
        | _ => none)
      | _ => none)
  | .index T x i => (match ρ x with
      | .d .str s => (match isTy A T .str with | true => idx (ρ i) s.length fun j => K (.d (.int .u8) ((s.getD j 0).toNat : Int)) [] | false => none)
      | _ => none)
  | .makeMap T none => (match fnd A.ty T, fresh h κ with
      | some (.sl (.ent k v)), true => K (.ref κ [] κ (.ent k v)) [(κ, some (.row (.ent k v) 99 κ false []))]
      | _, _ => none)
  | .lookup T m x ok => (match fnd A.ty T, rowOf h (ρ m), structKey P T with
      | some (.sl (.ent k v)), some ⟨t, xs⟩, true => (match t.cast (.sl (.ent k v)) xs, datum h k (ρ x) with
        | some xs, some (y, []) => (match ok with | true => K (.tup [.d v (mval k v xs y), .d .bool (mhas k v xs y)]) [] | false => K (.d v (mval k v xs y)) [])
        | _, _ => none)
      | _, _, _ => none)
  | .mapUpdate T m x y => (match fnd A.ty T, ρ m, structKey P T with
      | some (.sl (.ent k v)), .ref r [] _ _, true => (match look h r with
        | some (.row t0 n v0 false xs) => (match Ty.cast (.sl t0) (.sl (.ent k v)) xs, datum h k (ρ x), datum h v (ρ y), fit false (ρ y) with
          | some xs, some (y, []), some (z, []), true => K .un [(r, some (.row (.ent k v) n v0 false (mput k v xs y z)))]
          | _, _, _, _ => none)
        | _ => none)
      | _, _, _ => none)
  | .extract x i => (match ρ x with | .tup l => (match tk l i 1 with | [v] => K v [] | _ => none) | _ => none)
  | .call c => (match c.callee with
      | .builtin .len => (match c.args.toList.map ρ, c.argTypes.toList with
        | [v], [T] => (match lenV A T h v with | some n => K (.d (.int .i64) (n : Int)) [] | none => none)
        | _, _ => none)
      | .builtin .append => (match c.args.toList.map ρ, c.argTypes.toList with
        | [a, b], [T, U] => (match elemTy A T, fresh h κ && (Nat.beq T U && nosz A T) with
          | some t, true => (match baseV h t a with
            | some (xs, n, u) => (match addsV (u ++ h) t b with
              | some (ys, m, u') => ifE (List.length xs + List.length ys < maxLenE) (K (.ref κ [] κ t) ((κ, some (.row t (min n m) κ false (xs ++ ys))) :: (u' ++ u))) none
              | none => none)
            | none => none)
          | _, _ => none)
        | _, _ => none)
      | .builtin .min => (match c.args.toList.map ρ with | .d (.int k) x :: l => (match mmFold false k x l with | some z => K (.d (.int k) z) [] | none => none) | _ => none)
      | .builtin .max => (match c.args.toList.map ρ with | .d (.int k) x :: l => (match mmFold true k x l with | some z => K (.d (.int k) z) [] | none => none) | _ => none)
      | .value f => (match ρ f with
        | .fn g caps => callV S κ g h (c.args.toList.map ρ ++ caps) K
        | _ => none)
      | _ => none)
  | _ => none

def St.get (σ : St) (i : Nat) : V := match fnd σ.t i with | some v => v | none => .un
def St.eval (σ : St) : Operand → V
  | .tmp i => σ.get i | .const v => cv v | .func f => .fn f [] | .global _ => .un
def St.put (σ : St) (o : Option Nat) (v : V) : St := match o with | some i => ⟨(i, v) :: σ.t, σ.h⟩ | none => σ
def St.upd (σ : St) (u : Heap) : St := ⟨σ.t, u ++ σ.h⟩
def St.after (σ : St) (o : Option Nat) (v : V) (u : Heap) : St := ⟨match o with | some i => (i, v) :: σ.t | none => σ.t, match u with | [] => σ.h | u => u ++ σ.h⟩
def keyOf (id i : Nat) (o : Oper) : Nat := match o.dst with | some d => d | none => 1000000 + id * 1000 + i

def dstOf (all : Array Oper) (j : Nat) : Option Nat := match all[j]? with | some o => o.dst | none => none
/-- Makes a value plain before one goes on. -/
def force (v : V) (K : V → Option R) : Option R :=
  match v with
  | .d t x => K (.d t x) | .el t x => K (.el t x) | .eb l o => K (.eb l o) | .k v => K (.k v) | .ref r is v t => K (.ref r is v t) | .rp r is v p t => K (.rp r is v p t)
  | .ptr r o => K (.ptr r o) | .fn f c => K (.fn f c) | .agg l => K (.agg l) | .tup l => K (.tup l) | .bx l => K (.bx l) | .ow t n x => K (.ow t n x) | .un => K .un
/-- Makes lists plain. -/
def forceL {α : Type} : List α → (List α → Option R) → Option R
  | [], K => K []
  | a :: l, K => forceL l fun l => K (a :: l)
/-- A region, in the order of the text. -/
def runOps (P : Program) {A : Ann} (S : Sm A) (id : Nat) (all : Array Oper) : Nat → List Oper → St → (St → Option R) → Option R
  | _, [], σ, K => K σ
  | i, o :: os, σ, K =>
    match o.guard with
    | none => stepO P S (keyOf id i o) σ.eval σ.h o fun v u => force v fun v => runOps P S id all (i + 1) os (σ.after o.dst v u) K
    | some (j, want) => (match dstOf all j with
      | some d => (match σ.get d with
        | .k (.bool b) => (match b, want with
          | true, true => stepO P S (keyOf id i o) σ.eval σ.h o fun v u => force v fun v => runOps P S id all (i + 1) os (σ.after o.dst v u) K
          | false, false => stepO P S (keyOf id i o) σ.eval σ.h o fun v u => force v fun v => runOps P S id all (i + 1) os (σ.after o.dst v u) K
          | _, _ => runOps P S id all (i + 1) os (σ.after o.dst (.k (.tuple #[])) []) K)
        | .d .bool b =>
          ifE (b = want) (stepO P S (keyOf id i o) (σ.after (some d) (.k (.bool want)) []).eval σ.h o fun v u => force v fun v => runOps P S id all (i + 1) os ((σ.after (some d) (.k (.bool want)) []).after o.dst v u) K)
            (runOps P S id all (i + 1) os ((σ.after (some d) (.k (.bool (!want))) []).after o.dst (.k (.tuple #[])) []) K)
        | .k (.tuple _) => runOps P S id all (i + 1) os (σ.after o.dst (.k (.tuple #[])) []) K
        | _ => none)
      | none => none)

/-! regions of a drawn order -/
def memB (a : Nat) : List Nat → Bool | [] => false | b :: l => Nat.beq a b || memB a l
def nodupB : List Nat → Bool | [] => true | a :: l => !memB a l && nodupB l
def memN (a : Nat) : List Nat → Bool | [] => false | b :: l => (match Nat.beq a b with | true => true | false => memN a l)
/-- The roots that a value names. -/
def named : V → List Nat
  | .ref r _ _ _ => [r] | .rp r _ _ _ _ => [r] | .ptr r _ => [r]
  | .agg l => nameds l | .tup l => nameds l | .fn _ l => nameds l | .eb l _ => nameds l | _ => []
where nameds : List V → List Nat | [] => [] | v :: l => named v ++ nameds l
/-- The operations that come ahead of one, as bits. -/
def ancOf (ms : List Nat) : List Edge → Nat
  | [] => 0
  | e :: es => match Region.binds .any e with | true => (ancOf ms es ||| 2 ^ e.on) ||| ms.getD e.on 0 | false => ancOf ms es
def ancs : List Oper → List Nat → List Nat
  | [], ms => ms | o :: os, ms => ancs os (ms ++ [ancOf ms o.after.toList])
def disj (S : List Nat) : List Nat → Bool | [] => true | a :: l => (match memN a S with | true => false | false => disj S l)
def clear (m : Nat) (S : List Nat) : List (Nat × List Nat) → Bool
  | [] => true | (k, W) :: l => (match m.testBit k with | true => clear m S l | false => (match disj S W with | true => clear m S l | false => false))
/-- Operations that look at the roots that they are given. -/
def seesH : Op → Bool
  | .load .. => true | .store .. => true | .convert .. => true | .slice .. => true | .fieldAddr .. => true | .indexAddr .. => true | .call .. => true | .nilCheck .. => true | .buildSlice .. => true | .lookup .. => true | .mapUpdate .. => true
  | _ => false
/-- The roots that boxes hold. -/
def inner (h : Heap) : List Nat → List Nat
  | [] => [] | r :: l => (match look h r with | some (.box cs) => named.nameds cs ++ inner h l | _ => inner h l)
def namesO (σ : St) (o : Oper) : List Nat := match seesH o.op with
  | true => (match o.op with | .call _ => (fun l => l ++ inner σ.h l) (named.nameds (o.op.operands.toList.map σ.eval)) | _ => named.nameds (o.op.operands.toList.map σ.eval))
  | false => []
def keysOf : Heap → List Nat | [] => [] | e :: u => e.1 :: keysOf u
/-- A guard. -/
def guardO (all : Array Oper) (σ : St) (o : Oper) (go skip : St → Option R) : Option R :=
  match o.guard with
  | none => go σ
  | some (j, want) => match dstOf all j with
    | some d => (match σ.get d with
      | .k (.bool b) => (match b, want with | true, true => go σ | false, false => go σ | _, _ => skip σ)
      | .d .bool b => ifE (b = want) (go (σ.after (some d) (.k (.bool want)) [])) (skip (σ.after (some d) (.k (.bool (!want))) []))
      | .k (.tuple _) => skip σ
      | _ => none)
    | none => none
/-- A region of a drawn order, in the order of the text: operations of no order hold apart from one another. -/
def runDraw (P : Program) {A : Ann} (S : Sm A) (id : Nat) (all : Array Oper) (ms : List Nat) (lw ln : List (Nat × List Nat)) : Nat → List Oper → St → (St → Option R) → Option R
  | _, [], σ, K => K σ
  | i, o :: os, σ, K => guardO all σ o
      (fun σ => stepO P S (keyOf id i o) σ.eval σ.h o fun v u => force v fun v =>
        (fun (W N : List Nat) => match clear (ms.getD i 0) (N ++ W) lw, (match W with | [] => true | W => clear (ms.getD i 0) W ln) with
          | true, true => runDraw P S id all ms (match W with | [] => lw | W => (i, W) :: lw) ((i, N ++ W) :: ln) (i + 1) os (σ.after o.dst v u) K
          | _, _ => none) (keysOf u) (keyOf id i o :: namesO σ o))
      (fun σ => runDraw P S id all ms lw ln (i + 1) os (σ.after o.dst (.k (.tuple #[])) []) K)
def looks (all : Array Oper) (o : Oper) : List Nat :=
  (o.op.operands.toList.filterMap fun | .tmp t => some t | _ => none) ++ (match o.guard with | some (g, _) => (match dstOf all g with | some d => [d] | none => []) | none => [])
/-- What is asked of a region of a drawn order. -/
def drawOk (ops : Array Oper) : Bool :=
  (fun (ms : List Nat) =>
    nodupB (ops.toList.filterMap fun o => o.dst) &&
    ((List.range ops.size).all fun i => match ops[i]? with
      | some o => (o.after.toList.all fun e => !Region.binds .any e || Nat.blt e.on i) &&
          ((List.range ops.size).all fun j => match (ops[j]?).bind (·.dst) with
            | some d => !memB d (looks ops o) || Nat.beq i j || (ms.getD i 0).testBit j || (ms.getD j 0).testBit i
            | none => true)
      | none => false)) (ancs ops.toList [])

inductive Xt where
  | normal | exit (i : Nat) | ret

/-- At a place: go on, or cut. -/
def goOn {A : Ann} (S : Sm A) (f n : Nat) (ev : St → Option R) (c : A.cutDen f n → Option R) (σ : St) : Option R :=
  match (A.fa f).cut n with
  | [] => ev σ
  | _ => (match toS σ.h σ.t ((A.fa f).cut n) with | some x => c x | none => none)

def ev (P : Program) {A : Ann} (S : Sm A) (f : Nat) : Nat → Code → (Xt → St → Option (A.out f)) → St → Option (A.out f)
  | n, .skip, K, σ => K .normal σ
  | n, .region id ops false, K, σ => runOps P S id ops 0 ops.toList σ (K .normal)
  | n, .region id ops true, K, σ => runDraw P S id ops (ancs ops.toList []) [] [] 0 ops.toList σ (K .normal)
  | n, .seq a b, K, σ => goOn S f (2 * n) (ev P S f (2 * n) a fun e σ => match e with
      | .normal => goOn S f (2 * n + 1) (ev P S f (2 * n + 1) b K) (S.cut f (2 * n + 1)) σ
      | e => K e σ) (S.cut f (2 * n)) σ
  | n, .cond c a b, K, σ => (match σ.eval c with
      | .k (.bool true) => goOn S f (2 * n) (ev P S f (2 * n) a K) (S.cut f (2 * n)) σ
      | .k (.bool false) => goOn S f (2 * n + 1) (ev P S f (2 * n + 1) b K) (S.cut f (2 * n + 1)) σ
      | .d .bool x => ifE (x = true) (goOn S f (2 * n) (ev P S f (2 * n) a K) (S.cut f (2 * n)) σ) (goOn S f (2 * n + 1) (ev P S f (2 * n + 1) b K) (S.cut f (2 * n + 1)) σ)
      | _ => none)
  | n, .block id b, K, σ => goOn S f (2 * n) (ev P S f (2 * n) b fun e σ => match e with
      | .exit i => (match Nat.beq i id with | true => K .normal σ | false => K (.exit i) σ)
      | e => K e σ) (S.cut f (2 * n)) σ
  | n, .exit id, K, σ => K (.exit id) σ
  | n, .ret, K, σ => K .ret σ
  | _, _, _, _ => none

/-- What stands at a place of code, run from there on. -/
def goTo (P : Program) {A : Ann} (S : Sm A) (f : Nat) : List Bool → Nat → Code → (Xt → St → Option (A.out f)) → St → Option (A.out f)
  | [], n, .loop b, K, σ => ev P S f (2 * n) b (fun e σ => match e with
      | .normal => goOn S f n (fun _ => none) (S.cut f n) σ
      | e => K e σ) σ
  | [], n, c, K, σ => ev P S f n c K σ
  | false :: p, n, .seq a b, K, σ => goTo P S f p (2 * n) a (fun e σ => match e with
      | .normal => goOn S f (2 * n + 1) (ev P S f (2 * n + 1) b K) (S.cut f (2 * n + 1)) σ
      | e => K e σ) σ
  | true :: p, n, .seq a b, K, σ => goTo P S f p (2 * n + 1) b K σ
  | false :: p, n, .cond c a b, K, σ => goTo P S f p (2 * n) a K σ
  | true :: p, n, .cond c a b, K, σ => goTo P S f p (2 * n + 1) b K σ
  | _ :: p, n, .block id b, K, σ => goTo P S f p (2 * n) b (fun e σ => match e with
      | .exit i => (match Nat.beq i id with | true => K .normal σ | false => K (.exit i) σ)
      | e => K e σ) σ
  | _ :: p, n, .loop b, K, σ => goTo P S f p (2 * n) b (fun e σ => match e with
      | .normal => goOn S f n (fun _ => none) (S.cut f n) σ
      | e => K e σ) σ
  | _, _, _, _, _ => none
def bits : (k n : Nat) → List Bool → List Bool
  | 0, _, l => l
  | k + 1, n, l => match Nat.beq n 1 with | true => l | false => bits k (n / 2) ((match Nat.beq (n % 2) 1 with | true => true | false => false) :: l)
end

/-! what is asked of a program, once -/
def vEq : Value → Value → Bool
  | .int k m, .int l n => ikEq k l && decide (m = n) | .bool a, .bool b => a == b | .string a, .string b => decide (a.data.toList = b.data.toList)
  | .slice none a b, .slice none c d => Nat.beq a c && Nat.beq b d | .map none, .map none => true | _, _ => false
def vEqs : List Value → List Value → Bool
  | [], [] => true | a :: l, b :: m => vEq a b && vEqs l m | _, _ => false
def zeroCells : Ty → List Value
  | .int k => [.int k 0] | .bool => [.bool false] | .str => [.string ⟨#[]⟩] | .unit => [] | .ent _ _ => []
  | .sl t => (match t.isEnt with | true => [.map none] | false => [.slice none 0 0])
  | .pair a b => zeroCells a ++ zeroCells b | .tree => [.string ⟨#[]⟩, .int .i64 0, .slice none 0 0]
def fieldsOk (A : Ann) : List Field → Nat → Ty → Bool
  | [f], off, t => Nat.beq f.offset off && isTy A f.type t
  | f :: g :: r, off, .pair a b => Nat.beq f.offset off && isTy A f.type a && fieldsOk A (g :: r) (off + a.size) b
  | _, _, _ => false
def arrOk (A : Ann) (e : Nat) : Nat → Ty → Bool
  | 1, t => isTy A e t
  | n + 2, .pair a b => isTy A e a && arrOk A e (n + 1) b
  | _, _ => false
/-- A key: a struct of cells that hold no address. -/
def tysEq : List Ty → List Ty → Bool | [], [] => true | a :: l, b :: m => a.beq b && tysEq l m | _, _ => false
def keyOk (A : Ann) (K : Nat) (a : Ty) : Bool :=
  match fnd A.eqs K with
  | some (t0 :: t1 :: ts) => tysEq (cellTys a) (t0 :: t1 :: ts) && (cellTys a).all Ty.scal
  | _ => false
def mapOk (A : Ann) (K E : Nat) : Ty → Bool | .ent a b => isTy A K a && isTy A E b && keyOk A K a && b.scal | _ => false
def descOk (A : Ann) : TypeDesc → Ty → Bool
  | .int k, .int l => ikEq k l
  | .bool, .bool => true
  | .string, .str => true
  | .slice e, .sl t => isTy A e t && !t.isEnt
  | .map k e, .sl t => mapOk A k e t
  | .struct fs, .unit => fs.toList.isEmpty
  | .struct fs, .pair a b => fieldsOk A fs.toList 0 (.pair a b)
  | .struct fs, .tree => Nat.beq fs.size 3 && fieldsOk A fs.toList 0 (.pair .str (.pair (.int .i64) .kids))
  | .array n e, .pair a b => arrOk A e n (.pair a b)
  | _, _ => false
def tyOk (P : Program) (A : Ann) (T : Nat) (t : Ty) : Bool :=
  match P.info? T, P.underlying T with
  | some i, some d => Nat.beq i.size t.size && Nat.ble i.bytes 128 && (match i.zero with | some z => vEqs z.cells.toList (zeroCells t) && (match z, t.agg with | .agg _, true => true | .agg _, false => false | _, b => !b) | none => false) && descOk A d t
  | _, _ => false
def scalarOk (P : Program) (T : Nat) : Ty → Bool
  | .int k => (match P.underlying T with | some (.int l) => ikEq k l | _ => false)
  | .bool => (match P.underlying T with | some .bool => true | _ => false)
  | .str => (match P.underlying T with | some .string => true | _ => false)
  | _ => false
def eqFieldsOk (P : Program) : List Field → Nat → List Ty → Bool
  | [], _, [] => true
  | f :: fs, off, t :: ts => Nat.beq f.offset off && (f.name != "_") && scalarOk P f.type t && eqFieldsOk P fs (off + 1) ts
  | _, _, _ => false
def eqOk (P : Program) (T : Nat) (ts : List Ty) : Bool :=
  match P.underlying T, ts with
  | some (.struct fs), ts => Nat.blt 1 ts.length && eqFieldsOk P fs.toList 0 ts && !P.stoodInHeld T && !P.eqGuardType P.depth T
  | some (.array n e), ts => Nat.blt 1 ts.length && Nat.beq n ts.length && ts.all (scalarOk P e) && !P.eqGuardType P.depth T && (match P.info? e with | some i => Nat.beq i.size 1 | none => false)
  | some .bool, [.bool] => true
  | _, _ => false
def dstsOk (N : Nat) : Code → Bool
  | .region _ ops dr => (ops.toList.all fun o => match o.dst with | some d => Nat.blt d N | none => true) && (!dr || drawOk ops)
  | .seq a b => dstsOk N a && dstsOk N b
  | .cond _ a b => dstsOk N a && dstsOk N b
  | .block _ b => dstsOk N b
  | .loop b => dstsOk N b
  | _ => true
def funOk (P : Program) (f : Nat) : Bool :=
  match P.funcs[f]? with
  | some fn => (match fn.body with | some b => dstsOk fn.ntmps b && !(fn.name == "runtime.NumGoroutine") | none => true)
  | none => false
/-- The numbers of the roots that a frame brings. -/
def idL (κ : Nat) : L → List Nat | .own _ _ => [κ] | _ => []
def idLs (κ : Nat) : List L → List Nat
  | [] => [] | [l] => idL κ l | l :: m :: r => idLs (κ + 1) (m :: r) ++ idL κ l
def idSK (i : Nat) : SK → List Nat | .one l => idL i l | .sh _ _ => [] | .box _ ls => i :: idLs (10000 * (i + 1)) ls
def idS : List (Nat × SK) → List Nat
  | [] => [] | [a] => idSK a.1 a.2 | a :: b :: r => idSK a.1 a.2 ++ idS (b :: r)
def ownAt (j : Nat) : List (Nat × SK) → Bool
  | [] => false | (i, .one (.own _ _)) :: r => Nat.beq i j || ownAt j r | _ :: r => ownAt j r
def alsTo (all : List (Nat × SK)) : List (Nat × SK) → Bool
  | [] => true | (_, .sh j _) :: r => ownAt j all && alsTo all r | _ :: r => alsTo all r
def cutOk (ks : List (Nat × SK)) : Bool := nodupB (idS ks) && alsTo ks ks
def boxAt (i : Nat) : List (Nat × SK) → Bool
  | [] => false | (j, .box true _) :: r => Nat.beq j i || boxAt i r | _ :: r => boxAt i r
def boxesAt (ks : List (Nat × SK)) : List (Nat × RV) → Bool
  | [] => true | (i, .ptr _) :: r => boxAt i ks && boxesAt ks r | _ :: r => boxesAt ks r
def annOk (a : FA) : Bool := a.cuts.all fun c => cutOk c.2 && boxesAt c.2 a.hand
/-- A type of functions: one cell. -/
def ftOk (P : Program) (T : Nat) : Bool :=
  match P.info? T, P.underlying T with
  | some i, some (.func _ _ _) => Nat.beq i.size 1 && (match i.zero with | some z => leafB z | none => false)
  | _, _ => false
def progOk (P : Program) (A : Ann) : Bool :=
  ((A.ft.all fun T => ftOk P T) && A.ty.all fun p => tyOk P A p.1 p.2) && (A.eqs.all fun p => eqOk P p.1 p.2) && (A.fns.all fun p => funOk P p.1 && annOk p.2)

/-! a call -/
def entry : Nat → List V → St
  | _, [] => ⟨[], []⟩
  | i, .bx l :: vs => ⟨(i, .ptr i 0) :: (entry (i + 1) vs).t, (i, some (.box l)) :: (entry (i + 1) vs).h⟩
  | i, .ow t n xs :: vs => ⟨(i, .ref i [] i t) :: (entry (i + 1) vs).t, (i, some (.row t n i false xs)) :: (entry (i + 1) vs).h⟩
  | i, v :: vs => ⟨(i, v) :: (entry (i + 1) vs).t, (entry (i + 1) vs).h⟩
def resV (A : Ann) (σ : St) : ResultVar → Option V
  | .tmp i => some (σ.get i)
  | .cell i T => match σ.get i, fnd A.ty T with
    | .ptr r c, some t => (match look σ.h r with
      | some (.box l) => getC t l c fun v _ => some v
      | _ => none)
    | _, _ => none
def resVs (A : Ann) (σ : St) : List ResultVar → Option (List V)
  | [] => some []
  | r :: rs => match resV A σ r, resVs A σ rs with | some v, some l => some (v :: l) | _, _ => none
def handed : List (Nat × RV) → List V
  | [] => [] | (i, .ptr _) :: r => .ptr i 0 :: handed r | _ :: r => handed r
def K0 (A : Ann) (f : Nat) (fn : Func) (e : Xt) (σ : St) : Option (A.out f) :=
  match e with
  | .exit _ => none
  | _ => (match resVs A σ fn.results.toList with
    | some vs => toRs σ.h (A.fa f).outs (vs ++ handed (A.fa f).hand)
    | none => none)
/-- What is to be a box is a box. -/
def handOk : List (Nat × RV) → List V → Bool
  | [], _ => true
  | (i, .ptr _) :: r, vs => (match nth vs i with | some (.bx _) => handOk r vs | _ => false)
  | _ :: r, vs => handOk r vs
/-- Functions that are not run, but told. -/
structure Ext (A : Ann) where
  on : Nat → Bool
  call : Sm A → (f : Nat) → List V → Option (A.out f)      -- what it answers may hang on what others answer
/-- One round more. -/
def next (P : Program) (A : Ann) (X : Ext A) (S : Sm A) : Sm A :=
    ⟨fun f args => match X.on f with
      | true => X.call S f args
      | false => (match P.funcs[f]?, fnd A.fns f with
        | some fn, some _ => (match fn.body with
          | some b => (match handOk (A.fa f).hand args with
            | true => goOn S f 1 (ev P S f 1 b (K0 A f fn)) (S.cut f 1) (entry 0 args)
            | false => none)
          | none => none)
        | _, _ => none),
     fun f n x => match P.funcs[f]?, fnd A.fns f with
      | some fn, some _ => (match fn.body with
        | some b => goTo P S f (bits n n []) 1 b (K0 A f fn) (ofS ((A.fa f).cut n) x)
        | none => none)
      | _, _ => none⟩
def sem (P : Program) (A : Ann) (X : Ext A) : Nat → Sm A
  | 0 => ⟨fun _ _ => none, fun _ _ _ => none⟩
  | k + 1 => next P A X (sem P A X k)
/-- What strings.Trim does with signs of one byte. -/
def idxE : List UInt8 → UInt8 → Int
  | [], _ => -1
  | b :: l, c => if b == c then 0 else if idxE l c == -1 then -1 else idxE l c + 1
def trimE (s c : List UInt8) : List UInt8 := ((s.dropWhile c.contains).reverse.dropWhile c.contains).reverse
/-- One small sign. -/
def smallE (s : List UInt8) : Bool := match s with | [c] => decide (97 ≤ c.toNat) && decide (c.toNat ≤ 100) | _ => false
mutual
/-- The small signs of a tree, from left to right. -/
def yieldE : Tr → List UInt8 | ⟨s, _, k⟩ => match smallE s with | true => s | false => yieldEs k
def yieldEs : List Tr → List UInt8 | [] => [] | t :: l => yieldE t ++ yieldEs l
end
mutual
/-- No node has more kids than memory holds. -/
def saneE : Tr → Bool | ⟨_, _, k⟩ => decide (k.length ≤ 1099511627776) && saneEs k
def saneEs : List Tr → Bool | [] => true | t :: l => saneE t && saneEs l
end
/-! items as a text -/
def rightE (s : List UInt8) (rs : List (List UInt8 × List UInt8)) (r : Int) : List UInt8 := if r < 0 then s else (rs.getD r.toNat ([], [])).2
def leftE (rs : List (List UInt8 × List UInt8)) (r : Int) : List UInt8 := if 0 ≤ r then (rs.getD r.toNat ([], [])).1 else [46]
def lineE (s : List UInt8) (rs : List (List UInt8 × List UInt8)) (x : Int × Int × List UInt8) : List UInt8 :=
  leftE rs x.1 ++ [62] ++ (rightE s rs x.1).take x.2.1.toNat ++ [46] ++ (rightE s rs x.1).drop x.2.1.toNat ++ [32] ++ x.2.2 ++ [10]
def linesE (s : List UInt8) (rs : List (List UInt8 × List UInt8)) : List (Int × Int × List UInt8) → List UInt8
  | [] => [] | x :: l => lineE s rs x ++ linesE s rs l
def fitE (s : List UInt8) (rs : List (List UInt8 × List UInt8)) (x : Int × Int × List UInt8) : Bool :=
  decide (x.1 < (rs.length : Int)) && decide (0 ≤ x.2.1) && decide (x.2.1 ≤ ((rightE s rs x.1).length : Int)) && decide ((leftE rs x.1).length ≤ 1000000) && decide ((rightE s rs x.1).length ≤ 1000000) && decide (x.2.2.length ≤ 1000000)
def allFitE (s : List UInt8) (rs : List (List UInt8 × List UInt8)) (l : List (Int × Int × List UInt8)) : Bool := l.all (fitE s rs)
end Go.Proofs.YtpoppblfnaipbaaDoor.Eng
/-! ## The engine: what a value is in the model's memory. -/
namespace Go.Proofs.YtpoppblfnaipbaaDoor.Eng
open Go
set_option autoImplicit false
set_option linter.unusedVariables false

abbrev Bs := Nat → Prop

/-- A tree read out of memory that is not written any more. -/
inductive RzT (w : World) (D : Bs) : Tr → List Value → Prop
  | mk (s : ByteArray) (r : Int) (kids : List Tr) (a : Option Addr) (cap : Nat) (f : Nat → List Value) (hcap : kids.length ≤ cap)
    (hrow : 0 < kids.length → ∃ b off, a = some ⟨b, off, none⟩ ∧ D b ∧ ∀ i, i < kids.length → (f i).length = 3 ∧ ∀ j, j < 3 → w.cell? ⟨b, off + i * 3 + j, none⟩ = (f i)[j]?)
    (hk : ∀ i (h : i < kids.length), RzT w D kids[i] (f i)) : RzT w D ⟨s.data.toList, r, kids⟩ [.string s, .int .i64 r, .slice a kids.length cap]

/-- A row in memory that is not written any more: P tells of each element. -/
def RowAt (w : World) (D : Bs) (size : Nat) (n : Nat) (P : Nat → List Value → Prop) (vs : List Value) : Prop :=
  ∃ a cap, vs = [.slice a n cap] ∧ n ≤ cap ∧ (0 < n → ∃ b off, a = some ⟨b, off, none⟩ ∧ D b ∧
    ∀ i, i < n → ∃ us, us.length = size ∧ P i us ∧ ∀ j, j < size → w.cell? ⟨b, off + i * size + j, none⟩ = us[j]?)

/-- The cells of a datum that holds no address. -/
def cellsV : (t : Ty) → t.den → List Value
  | .int k, n => [.int k n]
  | .bool, b => [.bool b]
  | .str, s => [.string ⟨s.toArray⟩]
  | .pair a b, x => cellsV a x.1 ++ cellsV b x.2
  | _, _ => []
def kval (t : Ty) (x : t.den) : Value := match t.agg with | true => .agg (cellsV t x).toArray | false => (cellsV t x).getD 0 undef
/-- A map's block. -/
def MapAt (w : World) (b : Nat) (k v : Ty) (xs : List (k.den × v.den)) : Prop :=
  ∃ es clock, w.heap[b]? = some (.map es clock) ∧ (es.toList.map fun e => (e.key, e.val)) = xs.map fun p => (kval k p.1, kval v p.2)
/-- A map in memory that is not written any more. -/
def MapRz (w : World) (D : Bs) : (t : Ty) → List t.den → List Value → Prop
  | .ent k v, xs, vs => ∃ b, vs = [.map (some b)] ∧ D b ∧ MapAt w b k v xs
  | _, _, _ => False
/-- A map of the call's own. -/
def MapOwn (w : World) : (t : Ty) → List t.den → Value → Bs → Prop
  | .ent k v, xs, z, O => ∃ b, z = .map (some b) ∧ MapAt w b k v xs ∧ ∀ x, O x ↔ x = b
  | _, _, _, _ => False
theorem MapRz.ent {w : World} {D : Bs} {t : Ty} {xs : List t.den} {vs : List Value} (h : MapRz w D t xs vs) : t.isEnt = true := by
  cases t <;> first | rfl | exact h.elim
theorem MapOwn.ent {w : World} {t : Ty} {xs : List t.den} {v : Value} {O : Bs} (h : MapOwn w t xs v O) : t.isEnt = true := by
  cases t <;> first | rfl | exact h.elim
theorem MapRz.mono {w w' : World} {D D' : Bs} (hD : ∀ b, D b → D' b) (hw : ∀ b, D b → w'.heap[b]? = w.heap[b]?) {t : Ty} {xs : List t.den} {vs : List Value} (h : MapRz w D t xs vs) : MapRz w' D' t xs vs := by
  cases t <;> first | exact h.elim | skip
  obtain ⟨b, rfl, hb, es, clock, h1, h2⟩ := h
  exact ⟨b, rfl, hD b hb, es, clock, (hw b hb).trans h1, h2⟩
theorem MapOwn.mono {w w' : World} {t : Ty} {xs : List t.den} {v : Value} {O : Bs} (hO : ∀ b, O b → w'.heap[b]? = w.heap[b]?) (h : MapOwn w t xs v O) : MapOwn w' t xs v O := by
  cases t <;> first | exact h.elim | skip
  obtain ⟨b, rfl, ⟨es, clock, h1, h2⟩, h3⟩ := h
  exact ⟨b, rfl, ⟨es, clock, (hO b ((h3 b).2 rfl)).trans h1, h2⟩, h3⟩
theorem MapOwn.freeze {w : World} {D : Bs} {t : Ty} {xs : List t.den} {v : Value} {O : Bs} (hO : ∀ b, O b → D b) (h : MapOwn w t xs v O) : MapRz w D t xs [v] := by
  cases t <;> first | exact h.elim | skip
  obtain ⟨b, rfl, h2, h3⟩ := h
  exact ⟨b, rfl, hO b ((h3 b).2 rfl), h2⟩
theorem MapRz.len {w : World} {D : Bs} {t : Ty} {xs : List t.den} {vs : List Value} (h : MapRz w D t xs vs) : ∃ b, vs = [.map (some b)] := by
  cases t <;> first | exact h.elim | skip
  obtain ⟨b, rfl, _⟩ := h
  exact ⟨b, rfl⟩
theorem MapOwn.len {w : World} {t : Ty} {xs : List t.den} {v : Value} {O : Bs} (h : MapOwn w t xs v O) : ∃ b, v = .map (some b) := by
  cases t <;> first | exact h.elim | skip
  obtain ⟨b, rfl, _⟩ := h
  exact ⟨b, rfl⟩

/-- A datum in memory that is not written any more. -/
def Rz (w : World) (D : Bs) : (t : Ty) → t.den → List Value → Prop
  | .int k, n, vs => vs = [.int k n]
  | .bool, b, vs => vs = [.bool b]
  | .str, x, vs => ∃ s : ByteArray, s.data.toList = x ∧ vs = [.string s]
  | .unit, _, vs => vs = []
  | .pair a b, x, vs => ∃ u v, vs = u ++ v ∧ Rz w D a x.1 u ∧ Rz w D b x.2 v
  | .sl t, xs, vs => (t.isEnt = false ∧ RowAt w D t.size (List.length xs) (fun i us => Rz w D t (rd xs i) us) vs) ∨ MapRz w D t xs vs
  | .tree, x, vs => RzT w D x vs
  | .ent _ _, _, _ => False
theorem Rz.sl {w : World} {D : Bs} {t : Ty} (ht : t.isEnt = false) {xs : List t.den} {vs : List Value} : Rz w D (.sl t) xs vs ↔ RowAt w D t.size (List.length xs) (fun i us => Rz w D t (rd xs i) us) vs := by
  constructor
  · rintro (h | h)
    · exact h.2
    · rw [h.ent] at ht; cases ht
  · exact fun h => .inl ⟨ht, h⟩

theorem cell?_same {w w' : World} {b off : Nat} (h : w'.heap[b]? = w.heap[b]?) : w'.cell? ⟨b, off, none⟩ = w.cell? ⟨b, off, none⟩ := by
  simp only [World.cell?]; rw [h]

/-- Below a set of blocks nothing has turned. -/
def Same (D : Bs) (w w' : World) : Prop := ∀ b, D b → w'.heap[b]? = w.heap[b]?
theorem Same.refl (D : Bs) (w : World) : Same D w w := fun _ _ => rfl

theorem RzT.mono {w w' : World} {D D' : Bs} (hD : ∀ b, D b → D' b) (hw : Same D w w') {x : Tr} {vs : List Value} (h : RzT w D x vs) : RzT w' D' x vs := by
  induction h with
  | mk s r kids a cap f hcap hrow hk ih =>
    refine .mk s r kids a cap f hcap (fun h0 => ?_) ih
    obtain ⟨b, off, rfl, hb, hc⟩ := hrow h0
    exact ⟨b, off, rfl, hD b hb, fun i hi => ⟨(hc i hi).1, fun j hj => by rw [cell?_same (hw b hb)]; exact (hc i hi).2 j hj⟩⟩
theorem RowAt.mono {w w' : World} {D D' : Bs} (hD : ∀ b, D b → D' b) (hw : Same D w w') {size n : Nat} {P P' : Nat → List Value → Prop}
    (hP : ∀ i us, i < n → P i us → P' i us) {vs : List Value} (h : RowAt w D size n P vs) : RowAt w' D' size n P' vs := by
  obtain ⟨a, cap, rfl, hc, hr⟩ := h
  refine ⟨a, cap, rfl, hc, fun h0 => ?_⟩
  obtain ⟨b, off, rfl, hb, hall⟩ := hr h0
  refine ⟨b, off, rfl, hD b hb, fun i hi => ?_⟩
  obtain ⟨us, hl, hp, hcell⟩ := hall i hi
  exact ⟨us, hl, hP i us hi hp, fun j hj => by rw [cell?_same (hw b hb)]; exact hcell j hj⟩
theorem Rz.mono {w w' : World} {D D' : Bs} (hD : ∀ b, D b → D' b) (hw : Same D w w') :
    ∀ (t : Ty) (x : t.den) (vs : List Value), Rz w D t x vs → Rz w' D' t x vs
  | .int _, _, _, h => h
  | .bool, _, _, h => h
  | .str, _, _, h => h
  | .unit, _, _, h => h
  | .pair a b, x, vs, ⟨u, v, e, h1, h2⟩ => ⟨u, v, e, Rz.mono hD hw a _ _ h1, Rz.mono hD hw b _ _ h2⟩
  | .sl t, xs, vs, h => h.imp (fun h => ⟨h.1, RowAt.mono hD hw (fun i us _ hp => Rz.mono hD hw t _ _ hp) h.2⟩) (fun h => h.mono hD hw)
  | .tree, x, vs, h => RzT.mono hD hw h
  | .ent _ _, _, _, h => h.elim

/-- A value that stands in one cell. -/
def Leaf (v : Value) : Prop := (∀ c, v ≠ .agg c) ∧ ∀ c, v ≠ .tuple c
theorem Leaf.int {k : IntKind} {n : Int} : Leaf (.int k n) := ⟨fun _ h => (by cases h), fun _ h => (by cases h)⟩
theorem Leaf.bool {b : Bool} : Leaf (.bool b) := ⟨fun _ h => (by cases h), fun _ h => (by cases h)⟩
theorem Leaf.string {b : ByteArray} : Leaf (.string b) := ⟨fun _ h => (by cases h), fun _ h => (by cases h)⟩
theorem Leaf.slice {a : Option Addr} {n c : Nat} : Leaf (.slice a n c) := ⟨fun _ h => (by cases h), fun _ h => (by cases h)⟩
theorem Leaf.pointer {a : Option Addr} : Leaf (.pointer a) := ⟨fun _ h => (by cases h), fun _ h => (by cases h)⟩
theorem Leaf.func {f : Fn} {x y : Array Value} : Leaf (.func f x y) := ⟨fun _ h => (by cases h), fun _ h => (by cases h)⟩
theorem Leaf.map {a : Option Nat} : Leaf (.map a) := ⟨fun _ h => (by cases h), fun _ h => (by cases h)⟩
theorem Leaf.cells {v : Value} (h : Leaf v) : v.cells = #[v] := by
  cases v <;> first | rfl | exact absurd rfl (h.1 _)

theorem RzT.shape {w : World} {D : Bs} {x : Tr} {vs : List Value} (h : RzT w D x vs) : vs.length = 3 ∧ ∀ v ∈ vs, Leaf v := by
  cases h with
  | mk s r kids a cap f hcap hrow hk =>
    refine ⟨rfl, ?_⟩
    intro v hv
    simp only [List.mem_cons, List.not_mem_nil, or_false] at hv
    rcases hv with rfl | rfl | rfl
    · exact Leaf.string
    · exact Leaf.int
    · exact Leaf.slice
theorem Rz.shape {w : World} {D : Bs} : ∀ (t : Ty) (x : t.den) (vs : List Value), Rz w D t x vs → vs.length = t.size ∧ ∀ v ∈ vs, Leaf v
  | .int _, _, _, h => by subst h; exact ⟨rfl, by simp [Leaf.int]⟩
  | .bool, _, _, h => by subst h; exact ⟨rfl, by simp [Leaf.bool]⟩
  | .str, _, _, ⟨s, _, h⟩ => by subst h; exact ⟨rfl, by simp [Leaf.string]⟩
  | .unit, _, _, h => by subst h; exact ⟨rfl, by simp⟩
  | .pair a b, x, vs, ⟨u, v, e, h1, h2⟩ => by
    obtain ⟨l1, s1⟩ := Rz.shape a _ _ h1
    obtain ⟨l2, s2⟩ := Rz.shape b _ _ h2
    subst e
    refine ⟨by simp [l1, l2, Ty.size], ?_⟩
    intro y hy
    rcases List.mem_append.1 hy with h | h
    · exact s1 y h
    · exact s2 y h
  | .sl t, xs, vs, .inl ⟨_, a, cap, h, _⟩ => by subst h; exact ⟨rfl, by simp [Leaf.slice]⟩
  | .sl t, xs, vs, .inr h => by obtain ⟨b, h⟩ := h.len; subst h; exact ⟨rfl, by simp [Leaf.map]⟩
  | .tree, x, vs, h => by
    obtain ⟨l, s⟩ := RzT.shape h
    exact ⟨l, s⟩
  | .ent _ _, _, _, h => h.elim

/-- A row of the call's own: its head, what tells of each element, the blocks that it owns. -/
def OwnRow (w : World) (size n : Nat) (P : Nat → List Value → Bs → Prop) (v : Value) (O : Bs) : Prop :=
  (n = 0 ∧ v = .slice none 0 0 ∧ ∀ b, ¬ O b) ∨
  ∃ (b off cap : Nat) (c : Array Value) (T : TypeId) (OO : Nat → Bs), v = .slice (some ⟨b, off, none⟩) n cap ∧ w.heap[b]? = some (.cells c T (0, 0)) ∧ n ≤ cap ∧ off + cap * size ≤ c.size ∧ cap ≤ maxLen ∧
    (∀ i, i < n → ∃ us, us.length = size ∧ (∀ j, j < size → c[off + i * size + j]? = us[j]?) ∧ P i us (OO i)) ∧
    (∀ x, O x ↔ x = b ∨ ∃ i, i < n ∧ OO i x) ∧ (∀ i, i < n → ¬ OO i b) ∧ ∀ i j x, i < n → j < n → OO i x → OO j x → i = j
/-- An element, so deep of the call's own. -/
def OwnE (w : World) (D : Bs) : (t : Ty) → Nat → t.den → List Value → Bs → Prop
  | .sl t, n + 1, xs, vs, O => ∃ v, vs = [v] ∧ ((t.isEnt = false ∧ OwnRow w t.size (List.length xs) (fun i us Oi => OwnE w D t n (rd xs i) us Oi) v O) ∨ MapOwn w t xs v O)
  | t, _, x, vs, O => Rz w D t x vs ∧ ∀ b, ¬ O b

theorem OwnE.row {w : World} {D : Bs} {t : Ty} (ht : t.isEnt = false) {n : Nat} {xs : List t.den} {x : Value} {O : Bs} (h : OwnE w D (.sl t) (n + 1) xs [x] O) : OwnRow w t.size (List.length xs) (fun i us Oi => OwnE w D t n (rd xs i) us Oi) x O := by
  obtain ⟨v, e, h⟩ := h
  obtain rfl : x = v := by simpa using e
  rcases h with h | h
  · exact h.2
  · rw [h.ent] at ht; cases ht
theorem OwnE.mk {w : World} {D : Bs} {t : Ty} (ht : t.isEnt = false) {n : Nat} {xs : List t.den} {x : Value} {O : Bs} (h : OwnRow w t.size (List.length xs) (fun i us Oi => OwnE w D t n (rd xs i) us Oi) x O) : OwnE w D (.sl t) (n + 1) xs [x] O := ⟨x, rfl, .inl ⟨ht, h⟩⟩
theorem OwnE.zero {w : World} {D : Bs} {t : Ty} {x : t.den} {vs : List Value} {O : Bs} : OwnE w D t 0 x vs O ↔ (Rz w D t x vs ∧ ∀ b, ¬ O b) := by
  cases t <;> simp [OwnE]
theorem OwnE.other {w : World} {D : Bs} {t : Ty} {n : Nat} {x : t.den} {vs : List Value} {O : Bs} (ht : ∀ s, t ≠ .sl s) : OwnE w D t n x vs O ↔ (Rz w D t x vs ∧ ∀ b, ¬ O b) := by
  cases t with
  | sl s => exact absurd rfl (ht s)
  | _ => simp [OwnE]

theorem OwnRow.mono {w w' : World} {size n : Nat} {P P' : Nat → List Value → Bs → Prop} {v : Value} {O : Bs} (hO : ∀ b, O b → w'.heap[b]? = w.heap[b]?)
    (hP : ∀ i us Oi, i < n → (∀ b, Oi b → O b) → P i us Oi → P' i us Oi) (h : OwnRow w size n P v O) : OwnRow w' size n P' v O := by
  rcases h with h | ⟨b, off, cap, c, T, OO, rfl, hb, hn, hc, hl, hall, hOO, hnb, hdis⟩
  · exact .inl h
  · refine .inr ⟨b, off, cap, c, T, OO, rfl, (hO b ((hOO b).2 (.inl rfl))).trans hb, hn, hc, hl, fun i hi => ?_, hOO, hnb, hdis⟩
    obtain ⟨us, h1, h2, h3⟩ := hall i hi
    exact ⟨us, h1, h2, hP i us _ hi (fun b hb => (hOO b).2 (.inr ⟨i, hi, hb⟩)) h3⟩
theorem OwnE.mono {w w' : World} {D D' : Bs} (hD : ∀ b, D b → D' b) (hw : Same D w w') :
    ∀ (t : Ty) (n : Nat) (x : t.den) (vs : List Value) (O : Bs), (∀ b, O b → w'.heap[b]? = w.heap[b]?) → OwnE w D t n x vs O → OwnE w' D' t n x vs O := by
  intro t
  induction t with
  | sl t ih =>
    intro n x vs O hO h
    cases n with
    | zero => exact OwnE.zero.2 ⟨Rz.mono hD hw _ _ _ (OwnE.zero.1 h).1, (OwnE.zero.1 h).2⟩
    | succ n =>
      obtain ⟨v, rfl, h⟩ := h
      exact ⟨v, rfl, h.imp (fun h => ⟨h.1, OwnRow.mono hO (fun i us Oi _ hi hp => ih n _ _ _ (fun b hb => hO b (hi b hb)) hp) h.2⟩) (fun h => h.mono hO)⟩
  | _ => intro n x vs O hO h; exact (OwnE.other (fun _ => by simp)).2 ⟨Rz.mono hD hw _ _ _ ((OwnE.other (fun _ => by simp)).1 h).1, ((OwnE.other (fun _ => by simp)).1 h).2⟩

/-- What is frozen is a datum. -/
theorem OwnE.freeze {w : World} {D D' : Bs} (hD : ∀ b, D b → D' b) :
    ∀ (t : Ty) (n : Nat) (x : t.den) (vs : List Value) (O : Bs), (∀ b, O b → D' b) → OwnE w D t n x vs O → Rz w D' t x vs := by
  intro t
  induction t with
  | sl t ih =>
    intro n x vs O hO h
    cases n with
    | zero => exact Rz.mono hD (Same.refl _ _) _ _ _ (OwnE.zero.1 h).1
    | succ n =>
      obtain ⟨v, rfl, h⟩ := h
      rcases h with ⟨ht, h⟩ | h
      case inr => exact .inr (h.freeze hO)
      rw [Rz.sl ht]
      rcases h with ⟨h0, rfl, _⟩ | ⟨b, off, cap, c, T, OO, rfl, hb, hn, hc, hl, hall, hOO, hnb, hdis⟩
      · exact ⟨none, 0, by rw [h0], by omega, fun h => by omega⟩
      · refine ⟨some ⟨b, off, none⟩, cap, rfl, hn, fun h0 => ⟨b, off, rfl, hO b ((hOO b).2 (.inl rfl)), fun i hi => ?_⟩⟩
        obtain ⟨us, h1, h2, h3⟩ := hall i hi
        refine ⟨us, h1, ih n _ _ _ (fun x hx => hO x ((hOO x).2 (.inr ⟨i, hi, hx⟩))) h3, fun j hj => ?_⟩
        rw [← h2 j hj]
        simp only [World.cell?, hb, Option.isSome_none, Bool.false_eq_true, if_false]
  | _ => intro n x vs O hO h; exact Rz.mono hD (Same.refl _ _) _ _ _ ((OwnE.other (fun _ => by simp)).1 h).1

/-- Less deep. -/
theorem OwnE.shallow {w : World} {D : Bs} :
    ∀ (t : Ty) (n m : Nat) (x : t.den) (vs : List Value) (O : Bs), m ≤ n → OwnE w D t n x vs O →
      ∃ O' : Bs, OwnE w (fun b => D b ∨ (O b ∧ ¬ O' b)) t m x vs O' ∧ ∀ b, O' b → O b := by
  intro t
  induction t with
  | sl t ih =>
    intro n m x vs O hm h
    cases m with
    | zero => exact ⟨fun _ => False, OwnE.zero.2 ⟨OwnE.freeze (fun _ h => .inl h) _ _ _ _ _ (fun b hb => .inr ⟨hb, fun h => h⟩) h, fun _ h => h⟩, fun _ h => h.elim⟩
    | succ m =>
      cases n with
      | zero => omega
      | succ n =>
        obtain ⟨v, rfl, h⟩ := h
        rcases h with ⟨ht, h⟩ | h
        case inr => exact ⟨O, ⟨v, rfl, .inr h⟩, fun _ h => h⟩
        rcases h with h | ⟨b, off, cap, c, T, OO, rfl, hb, hn, hc, hl, hall, hOO, hnb, hdis⟩
        · exact ⟨O, ⟨v, rfl, .inl ⟨ht, .inl h⟩⟩, fun _ h => h⟩
        · have key : ∀ i, ∃ O' : Bs, (i < List.length x → ∃ us, us.length = t.size ∧ (∀ j, j < t.size → c[off + i * t.size + j]? = us[j]?) ∧ OwnE w (fun b => D b ∨ (OO i b ∧ ¬ O' b)) t m (rd x i) us O') ∧ ∀ b, O' b → OO i b := by
            intro i
            by_cases hi : i < List.length x
            · obtain ⟨us, h1, h2, h3⟩ := hall i hi
              obtain ⟨O', h4, h5⟩ := ih n m _ _ _ (by omega) h3
              exact ⟨O', fun _ => ⟨us, h1, h2, h4⟩, h5⟩
            · exact ⟨fun _ => False, fun h => absurd h hi, fun _ h => h.elim⟩
          obtain ⟨O2, k2⟩ : ∃ O2 : Nat → Bs, ∀ i, (i < List.length x → ∃ us, us.length = t.size ∧ (∀ j, j < t.size → c[off + i * t.size + j]? = us[j]?) ∧ OwnE w (fun b => D b ∨ (OO i b ∧ ¬ O2 i b)) t m (rd x i) us (O2 i)) ∧ ∀ b, O2 i b → OO i b :=
            ⟨fun i => Classical.choose (key i), fun i => Classical.choose_spec (key i)⟩
          have k3 : ∀ i b, O2 i b → OO i b := fun i => (k2 i).2
          refine ⟨fun y => y = b ∨ ∃ i, i < List.length x ∧ O2 i y, ⟨_, rfl, .inl ⟨ht, .inr ⟨b, off, cap, c, T, O2, rfl, hb, hn, hc, hl, fun i hi => ?_, fun y => Iff.rfl, fun i hi h => hnb i hi (k3 i _ h), fun i j y hi hj h1 h2 => hdis i j y hi hj (k3 _ _ h1) (k3 _ _ h2)⟩⟩⟩, ?_⟩
          · obtain ⟨us, g1, g2, g3⟩ := (k2 i).1 hi
            refine ⟨us, g1, g2, OwnE.mono (fun y hy => ?_) (Same.refl _ _) _ _ _ _ _ (fun _ _ => rfl) g3⟩
            rcases hy with hy | ⟨hy, hn⟩
            · exact .inl hy
            · refine .inr ⟨(hOO y).2 (.inr ⟨i, hi, hy⟩), ?_⟩
              rintro (e | ⟨j, hj, h2⟩)
              · exact hnb i hi (e ▸ hy)
              · exact hn ((hdis i j y hi hj hy (k3 j y h2)) ▸ h2)
          · intro y hy
            refine (hOO y).2 ?_
            rcases hy with h | ⟨i, hi, h⟩
            · exact .inl h
            · exact .inr ⟨i, hi, k3 i y h⟩
  | _ =>
    intro n m x vs O hm h
    have h1 := (OwnE.other (fun _ => by simp)).1 h
    exact ⟨O, (OwnE.other (fun _ => by simp)).2 ⟨Rz.mono (fun _ h => .inl h) (Same.refl _ _) _ _ _ h1.1, h1.2⟩, fun _ h => h⟩
end Go.Proofs.YtpoppblfnaipbaaDoor.Eng
/-! ## The engine: what a state is in the model's memory, and how that lasts. -/
namespace Go.Proofs.YtpoppblfnaipbaaDoor.Eng
open Go
set_option autoImplicit false
set_option linter.unusedVariables false

inductive Gh where
  | box (b : Nat) | row (v : Value)
def hdrAt (w : World) : Value → List Nat → Option Value
  | v, [] => some v
  | .slice (some a) _ _, i :: is => match w.cell? ⟨a.block, a.off + i, none⟩ with | some v => hdrAt w v is | none => none
  | _, _ => none
def Valid : (t : Ty) → List t.den → List Nat → Prop
  | _, _, [] => True
  | .sl t, xs, i :: is => i < List.length xs ∧ Valid t (rd xs i) is
  | _, _, _ => False
def ValidE : (t : Ty) → List t.den → List Nat → Prop
  | _, _, [] => False
  | t, xs, [i] => t.isEnt = false ∧ i < List.length xs
  | .sl t, xs, i :: j :: is => i < List.length xs ∧ ValidE t (rd xs i) (j :: is)
  | _, _, _ => False
def offs : Ty → List Bool → Nat
  | .pair a b, false :: p => offs a p
  | .pair a b, true :: p => a.size + offs b p
  | .tree, [true, false] => 1
  | .tree, [true, true] => 2
  | _, _ => 0
def partTy : Ty → List Bool → Option Ty
  | t, [] => some t
  | .pair a b, false :: p => partTy a p
  | .pair a b, true :: p => partTy b p
  | .tree, [false] => some .str
  | .tree, [true, false] => some (.int .i64)
  | .tree, [true, true] => some .kids
  | _, _ => none
def elTy : Ty → List Nat → Option Ty
  | _, [] => none
  | t, [_] => some t
  | .sl t, _ :: j :: is => elTy t (j :: is)
  | _, _ => none
def elPtr (w : World) (p : List Bool) : Value → Ty → List Nat → Option Value
  | .slice (some a) _ _, t, [i] => some (.pointer (some ⟨a.block, a.off + i * t.size + offs t p, none⟩))
  | .slice (some a) _ _, .sl t, i :: j :: is => match w.cell? ⟨a.block, a.off + i, none⟩ with | some v => elPtr w p v t (j :: is) | none => none
  | _, _, _ => none

/-- What a value is in memory. -/
inductive Vr (w : World) (D : Bs) (η : Nat → Gh) (h : Heap) : V → Value → Prop
  | d (t : Ty) (x : t.den) (v : Value) (ha : t.agg = false) (hr : Rz w D t x [v]) : Vr w D η h (.d t x) v
  | el (t : Ty) (x : t.den) (b off : Nat) (us : List Value) (hb : D b) (hr : Rz w D t x us) (hc : ∀ j, j < t.size → w.cell? ⟨b, off + j, none⟩ = us[j]?) : Vr w D η h (.el t x) (.pointer (some ⟨b, off, none⟩))
  | eb (l : List V) (o b : Nat) (f : Nat → Value) (hb : D b) (hl : ∀ i, i < l.length → Leaf (f i) ∧ w.cell? ⟨b, i, none⟩ = some (f i)) (hr : ∀ i (hi : i < l.length), Vr w D η h l[i] (f i)) : Vr w D η h (.eb l o) (.pointer (some ⟨b, o, none⟩))
  | k (v : Value) : Vr w D η h (.k v) v
  | ref (r : Nat) (is : List Nat) (v : Nat) (t : Ty) (x : Value) (hlf : Leaf x) (hr : (fnd h r).isSome) (hv : (fnd h v).isSome)
    (hx : ∀ t0 n v0 fz xs hv, look h r = some (.row t0 n v0 fz xs) → is = [] ∨ v0 = v → η r = .row hv → Valid t0 xs is ∧ hdrAt w hv is = some x) : Vr w D η h (.ref r is v t) x
  | rp (r : Nat) (is : List Nat) (v : Nat) (p : List Bool) (t : Ty) (x : Value) (hlf : Leaf x) (hr : (fnd h r).isSome) (hv : (fnd h v).isSome)
    (hx : ∀ t0 n v0 fz xs hv, look h r = some (.row t0 n v0 fz xs) → v0 = v → η r = .row hv → ValidE t0 xs is ∧ ((elTy t0 is).bind fun e => partTy e p) = some t ∧ elPtr w p hv t0 is = some x) : Vr w D η h (.rp r is v p t) x
  | ptr (r o : Nat) (x : Value) (hlf : Leaf x) (hr : (fnd h r).isSome) (hx : ∀ l b, look h r = some (.box l) → η r = .box b → x = .pointer (some ⟨b, o, none⟩)) : Vr w D η h (.ptr r o) x
  | fn (f : Nat) (caps : List V) (vs : Array Value) (hs : vs.size = caps.length) (hr : ∀ i (hi : i < caps.length), Vr w D η h caps[i] (vs.getD i undef)) : Vr w D η h (.fn f caps) (.func (.func f) #[] vs)
  | agg (l : List V) (cs : Array Value) (hs : cs.size = l.length) (hl : ∀ i, i < l.length → Leaf (cs.getD i undef)) (hr : ∀ i (hi : i < l.length), Vr w D η h l[i] (cs.getD i undef)) : Vr w D η h (.agg l) (.agg cs)
  | tup (l : List V) (cs : Array Value) (hs : cs.size = l.length) (hr : ∀ i (hi : i < l.length), Vr w D η h l[i] (cs.getD i undef)) : Vr w D η h (.tup l) (.tuple cs)
  | un (v : Value) : Vr w D η h .un v

/-- What stands behind a root. -/
def ObjOk (w : World) (D : Bs) (η : Nat → Gh) (h : Heap) (r : Nat) : Ob → Bs → Prop
  | .box l, O => ∃ b c T, η r = .box b ∧ w.heap[b]? = some (.cells c T (0, 0)) ∧ c.size = l.length ∧
      (∀ i (hi : i < l.length), Leaf (c.getD i undef) ∧ Vr w D η h l[i] (c.getD i undef)) ∧ ∀ x, O x ↔ x = b
  | .row t n v fz xs, O => ∃ hv, η r = .row hv ∧ (match fz with
      | true => Rz w D (.sl t) xs [hv] ∧ ∀ b, ¬ O b
      | false => OwnE w D (.sl t) (n + 1) xs [hv] O) ∧ (fnd h v).isSome

/-- How a state goes over into another one. -/
structure Evo (w : World) (D : Bs) (η : Nat → Gh) (h : Heap) (w' : World) (D' : Bs) (η' : Nat → Gh) (h' : Heap) : Prop where
  dsub : ∀ b, D b → D' b
  same : Same D w w'
  old : ∀ r, (fnd h r).isSome → (fnd h' r).isSome
  eta : ∀ r, (fnd h r).isSome → η' r = η r
  box : ∀ r l', (fnd h r).isSome → look h' r = some (.box l') → ∃ l, look h r = some (.box l)
  row : ∀ r t n v fz xs, (fnd h r).isSome → look h' r = some (.row t n v fz xs) → ∃ n0 v0 fz0 xs0, look h r = some (.row t n0 v0 fz0 xs0) ∧
    ∀ hv, η r = .row hv → (∀ is, (is = [] ∨ v = v0) → Valid t xs0 is → Valid t xs is ∧ hdrAt w' hv is = hdrAt w hv is) ∧ (v = v0 → ∀ is p, ValidE t xs0 is → ValidE t xs is ∧ elPtr w' p hv t is = elPtr w p hv t is)
  ver : ∀ r t n v fz xs t0 n0 v0 fz0 xs0, (fnd h r).isSome → look h' r = some (.row t n v fz xs) → look h r = some (.row t0 n0 v0 fz0 xs0) → v = v0 ∨ fnd h v = none

theorem Vr.mono {w w' : World} {D D' : Bs} {η η' : Nat → Gh} {h h' : Heap} (E : Evo w D η h w' D' η' h') {a : V} {x : Value} (H : Vr w D η h a x) : Vr w' D' η' h' a x := by
  induction H with
  | d t x v ha hr => exact .d t x v ha (Rz.mono E.dsub E.same _ _ _ hr)
  | el t x b off us hb hr hc => exact .el t x b off us (E.dsub b hb) (Rz.mono E.dsub E.same _ _ _ hr) (fun j hj => by rw [cell?_same (E.same b hb)]; exact hc j hj)
  | eb l o b f hb hl hr ih => exact .eb l o b f (E.dsub b hb) (fun i hi => ⟨(hl i hi).1, by rw [cell?_same (E.same b hb)]; exact (hl i hi).2⟩) ih
  | k v => exact .k v
  | ref r is v t x hlf hr hv hx =>
    refine .ref r is v t x hlf (E.old r hr) (E.old v hv) (fun t0 n v1 fz xs h1 hl hc he => ?_)
    obtain ⟨n0, v0, fz0, xs0, hl0, hrow⟩ := E.row r t0 n v1 fz xs hr hl
    rw [E.eta r hr] at he
    have hcase : (is = [] ∨ v1 = v0) ∧ (is = [] ∨ v0 = v) := by
      rcases hc with h | h
      · exact ⟨.inl h, .inl h⟩
      · subst h
        rcases E.ver r _ _ _ _ _ _ _ _ _ _ hr hl hl0 with h | h
        · subst h; exact ⟨.inr rfl, .inr rfl⟩
        · rw [h] at hv; simp at hv
    obtain ⟨h3, h4⟩ := hx t0 n0 v0 fz0 xs0 h1 hl0 hcase.2 he
    obtain ⟨h5, h6⟩ := (hrow h1 he).1 is hcase.1 h3
    exact ⟨h5, h6.trans h4⟩
  | rp r is v p t x hlf hr hv hx =>
    refine .rp r is v p t x hlf (E.old r hr) (E.old v hv) (fun t0 n v1 fz xs h1 hl hc he => ?_)
    obtain ⟨n0, v0, fz0, xs0, hl0, hrow⟩ := E.row r t0 n v1 fz xs hr hl
    rw [E.eta r hr] at he
    subst hc
    rcases E.ver r _ _ _ _ _ _ _ _ _ _ hr hl hl0 with h | h
    · subst h
      obtain ⟨h3, h4, h5⟩ := hx t0 n0 _ fz0 xs0 h1 hl0 rfl he
      obtain ⟨h6, h7⟩ := (hrow h1 he).2 rfl is p h3
      exact ⟨h6, h4, h7.trans h5⟩
    · rw [h] at hv; simp at hv
  | ptr r o x hlf hr hx =>
    refine .ptr r o x hlf (E.old r hr) (fun l b hl he => ?_)
    obtain ⟨l0, hl0⟩ := E.box r l hr hl
    rw [E.eta r hr] at he
    exact hx l0 b hl0 he
  | fn f caps vs hs hr ih => exact .fn f caps vs hs ih
  | agg l cs hs hl hr ih => exact .agg l cs hs hl ih
  | tup l cs hs hr ih => exact .tup l cs hs ih
  | un v => exact .un v

/-! what a row's heads read, where nothing of it has turned -/
theorem hdr_Rz {w w' : World} {D : Bs} (hD : Same D w w') : ∀ (is : List Nat) (t : Ty) (xs : List t.den) (hv : Value), Rz w D (.sl t) xs [hv] → Valid t xs is →
    hdrAt w' hv is = hdrAt w hv is
  | [], _, _, hv, _, _ => by cases hv <;> rfl
  | i :: is, .sl t, xs, hv, .inr h, _ => h.elim
  | i :: is, .sl t, xs, hv, .inl ⟨_, a, cap, e, hcap, hrow⟩, ⟨hi, hval⟩ => by
    obtain ⟨b, off, rfl, hb, hall⟩ := hrow (by omega)
    obtain ⟨us, hl, hr, hc⟩ := hall i hi
    obtain rfl : hv = _ := by simpa using e
    have h0 := hc 0 (by simp [Ty.size])
    simp only [Ty.size, Nat.mul_one, Nat.add_zero] at h0 hl
    obtain ⟨u, rfl⟩ : ∃ u, us = [u] := by match us, hl with | [u], _ => exact ⟨u, rfl⟩
    simp only [hdrAt, cell?_same (hD b hb)]
    simp only [List.getElem?_cons_zero] at h0
    rw [h0]
    exact hdr_Rz hD is t _ u hr hval
theorem el_one (w w' : World) (p : List Bool) (hv : Value) (t : Ty) (i : Nat) : elPtr w' p hv t [i] = elPtr w p hv t [i] := by
  cases hv with
  | slice a n c => cases a <;> cases t <;> rfl
  | _ => cases t <;> rfl
theorem el_Rz {w w' : World} {D : Bs} (hD : Same D w w') (p : List Bool) : ∀ (is : List Nat) (t : Ty) (xs : List t.den) (hv : Value), Rz w D (.sl t) xs [hv] → ValidE t xs is →
    elPtr w' p hv t is = elPtr w p hv t is
  | [], _, _, _, _, h => by simp [ValidE] at h
  | [i], t, xs, hv, h, _ => el_one _ _ _ _ _ _
  | i :: j :: is, .sl t, xs, hv, .inr h, _ => h.elim
  | i :: j :: is, .sl t, xs, hv, .inl ⟨_, a, cap, e, hcap, hrow⟩, ⟨hi, hval⟩ => by
    obtain ⟨b, off, rfl, hb, hall⟩ := hrow (by omega)
    obtain ⟨us, hl, hr, hc⟩ := hall i hi
    obtain rfl : hv = _ := by simpa using e
    have h0 := hc 0 (by simp [Ty.size])
    simp only [Ty.size, Nat.mul_one, Nat.add_zero] at h0 hl
    obtain ⟨u, rfl⟩ : ∃ u, us = [u] := by match us, hl with | [u], _ => exact ⟨u, rfl⟩
    simp only [elPtr, cell?_same (hD b hb)]
    simp only [List.getElem?_cons_zero] at h0
    rw [h0]
    exact el_Rz hD p (j :: is) t _ u hr hval
theorem OwnRow.cell {w : World} {size n : Nat} {P : Nat → List Value → Bs → Prop} {v : Value} {O : Bs} (h : OwnRow w size n P v O) {i : Nat} (hi : i < n) :
    ∃ b off cap us Oi, v = .slice (some ⟨b, off, none⟩) n cap ∧ O b ∧ us.length = size ∧ P i us Oi ∧ (∀ x, Oi x → O x) ∧ ∀ j, j < size → w.cell? ⟨b, off + i * size + j, none⟩ = us[j]? := by
  rcases h with ⟨h, _⟩ | ⟨b, off, cap, c, T, OO, rfl, hb, hn, hc, hl, hall, hOO, hnb, hdis⟩
  · omega
  · obtain ⟨us, h1, h2, h3⟩ := hall i hi
    refine ⟨b, off, cap, us, OO i, rfl, (hOO b).2 (.inl rfl), h1, h3, fun x hx => (hOO x).2 (.inr ⟨i, hi, hx⟩), fun j hj => ?_⟩
    rw [← h2 j hj]; simp [World.cell?, hb]
theorem hdr_Own {w w' : World} {D : Bs} (hD : Same D w w') : ∀ (is : List Nat) (t : Ty) (n : Nat) (xs : List t.den) (hv : Value) (O : Bs), Same O w w' → OwnE w D (.sl t) n xs [hv] O → Valid t xs is →
    hdrAt w' hv is = hdrAt w hv is
  | is, t, 0, xs, hv, O, hO, h, hval => hdr_Rz hD is t xs hv (OwnE.zero.1 h).1 hval
  | [], _, _ + 1, _, hv, _, _, _, _ => by cases hv <;> rfl
  | i :: is, .sl t, n + 1, xs, hv, O, hO, ⟨v, e, .inr h⟩, _ => h.elim
  | i :: is, .sl t, n + 1, xs, hv, O, hO, ⟨v, e, .inl ⟨_, h⟩⟩, ⟨hi, hval⟩ => by
    obtain rfl : hv = v := by simpa using e
    obtain ⟨b, off, cap, us, Oi, rfl, hb, hl, hr, hsub, hc⟩ := h.cell hi
    have h0 := hc 0 (by simp [Ty.size])
    simp only [Ty.size, Nat.mul_one, Nat.add_zero] at h0 hl
    obtain ⟨u, rfl⟩ : ∃ u, us = [u] := by match us, hl with | [u], _ => exact ⟨u, rfl⟩
    simp only [hdrAt, cell?_same (hO b hb)]
    simp only [List.getElem?_cons_zero] at h0
    rw [h0]
    exact hdr_Own hD is t n _ u Oi (fun x hx => hO x (hsub x hx)) hr hval
theorem el_Own {w w' : World} {D : Bs} (hD : Same D w w') (p : List Bool) : ∀ (is : List Nat) (t : Ty) (n : Nat) (xs : List t.den) (hv : Value) (O : Bs), Same O w w' → OwnE w D (.sl t) n xs [hv] O → ValidE t xs is →
    elPtr w' p hv t is = elPtr w p hv t is
  | is, t, 0, xs, hv, O, hO, h, hval => el_Rz hD p is t xs hv (OwnE.zero.1 h).1 hval
  | [], _, _ + 1, _, _, _, _, _, h => by simp [ValidE] at h
  | [i], _, _ + 1, _, hv, _, _, _, _ => el_one _ _ _ _ _ _
  | i :: j :: is, .sl t, n + 1, xs, hv, O, hO, ⟨v, e, .inr h⟩, _ => h.elim
  | i :: j :: is, .sl t, n + 1, xs, hv, O, hO, ⟨v, e, .inl ⟨_, h⟩⟩, ⟨hi, hval⟩ => by
    obtain rfl : hv = v := by simpa using e
    obtain ⟨b, off, cap, us, Oi, rfl, hb, hl, hr, hsub, hc⟩ := h.cell hi
    have h0 := hc 0 (by simp [Ty.size])
    simp only [Ty.size, Nat.mul_one, Nat.add_zero] at h0 hl
    obtain ⟨u, rfl⟩ : ∃ u, us = [u] := by match us, hl with | [u], _ => exact ⟨u, rfl⟩
    simp only [elPtr, cell?_same (hO b hb)]
    simp only [List.getElem?_cons_zero] at h0
    rw [h0]
    exact el_Own hD p (j :: is) t n _ u Oi (fun x hx => hO x (hsub x hx)) hr hval

theorem ObjOk.mono {w w' : World} {D D' : Bs} {η η' : Nat → Gh} {h h' : Heap} (E : Evo w D η h w' D' η' h') {r : Nat} (hr : (fnd h r).isSome) {o : Ob} {O : Bs} (hO : Same O w w')
    (H : ObjOk w D η h r o O) : ObjOk w' D' η' h' r o O := by
  cases o with
  | box l =>
    obtain ⟨b, c, T, h1, h2, h3, h4, h5⟩ := H
    exact ⟨b, c, T, (E.eta r hr).trans h1, (hO b ((h5 b).2 rfl)).trans h2, h3, fun i hi => ⟨(h4 i hi).1, (h4 i hi).2.mono E⟩, h5⟩
  | row t n v fz xs =>
    obtain ⟨hv, h1, h2, h3⟩ := H
    refine ⟨hv, (E.eta r hr).trans h1, ?_, E.old v h3⟩
    cases fz with
    | true => exact ⟨Rz.mono E.dsub E.same _ _ _ h2.1, h2.2⟩
    | false => exact OwnE.mono E.dsub E.same _ _ _ _ _ hO h2

/-- What a call begins with. -/
structure Base where
  w0 : World
  keep : Bs
  D0 : Bs
  N : Nat
  hand : Nat → Nat → Prop
/-- A state stands in memory so. -/
structure RelG (B : Base) (D : Bs) (η : Nat → Gh) (O : Nat → Bs) (σ : St) (a : Act) (w : World) : Prop where
  os : w.os = B.w0.os
  tape : w.tape = B.w0.tape
  output : w.output = B.w0.output
  size : B.w0.heap.size ≤ w.heap.size
  keep : ∀ b, B.keep b → w.heap[b]? = B.w0.heap[b]?
  klt : ∀ b, B.keep b → b < B.w0.heap.size
  okeep : ∀ r b, O r b → ¬ B.keep b
  dlt : ∀ b, D b → b < w.heap.size
  dbase : ∀ b, D b → B.D0 b ∨ ¬ B.keep b
  base : ∀ b, B.D0 b → D b
  olt : ∀ r b, O r b → b < w.heap.size ∧ ¬ D b
  odis : ∀ r r' b, O r b → O r' b → r = r'
  objs : ∀ r o, look σ.h r = some o → ObjOk w D η σ.h r o (O r)
  tmps : ∀ i v, fnd σ.t i = some v → i < a.tmps.size ∧ Vr w D η σ.h v (a.tmps.getD i undef)
  defers : a.defers = []
  tsz : a.tmps.size = B.N
  hb : ∀ i b, B.hand i b → (fnd σ.h i).isSome ∧ η i = .box b
def Rel (B : Base) (σ : St) (a : Act) (w : World) : Prop := ∃ D η O, RelG B D η O σ a w
end Go.Proofs.YtpoppblfnaipbaaDoor.Eng
/-! ## The engine: operations that turn no memory. -/
namespace Go.Proofs.YtpoppblfnaipbaaDoor.Eng
open Go
set_option autoImplicit false
set_option linter.unusedVariables false
set_option linter.unusedSimpArgs false

theorem fnd_cons {α : Type} (j : Nat) (a : α) (l : List (Nat × α)) (i : Nat) : fnd ((j, a) :: l) i = if j = i then some a else fnd l i := by
  simp only [fnd]
  by_cases h : j = i
  · subst h; simp
  · have : Nat.beq j i = false := by cases hb : Nat.beq j i with | false => rfl | true => exact absurd (Nat.eq_of_beq_eq_true hb) h
    simp [this, h]
theorem fnd_append {α : Type} (u l : List (Nat × α)) (i : Nat) : fnd (u ++ l) i = match fnd u i with | some a => some a | none => fnd l i := by
  induction u with
  | nil => rfl
  | cons p u ih =>
    obtain ⟨j, a⟩ := p
    simp only [List.cons_append, fnd_cons, ih]
    by_cases h : j = i <;> simp [h]
theorem beq_iff {a b : Nat} : Nat.beq a b = true ↔ a = b := by simp
theorem St.after_t (σ : St) (d : Option Nat) (v : V) (u : Heap) : (σ.after d v u).t = match d with | some i => (i, v) :: σ.t | none => σ.t := rfl
theorem St.after_h (σ : St) (d : Option Nat) (v : V) (u : Heap) : (σ.after d v u).h = u ++ σ.h := by
  cases u <;> rfl

/-- A state and memory go over. -/
theorem RelG.go {B : Base} {D D' : Bs} {η η' : Nat → Gh} {O O' : Nat → Bs} {σ : St} {a : Act} {w w' : World} (G : RelG B D η O σ a w) {u : Heap} {v : V} {dst : Option Nat} {x : Value}
    (hd : ∀ d, dst = some d → d < B.N) (E : Evo w D η σ.h w' D' η' (u ++ σ.h))
    (hos : w'.os = w.os) (htape : w'.tape = w.tape) (hout : w'.output = w.output) (hsz : w.heap.size ≤ w'.heap.size)
    (hkeep : ∀ b, B.keep b → w'.heap[b]? = w.heap[b]?) (hokeep : ∀ r b, O' r b → ¬ B.keep b) (hdlt : ∀ b, D' b → b < w'.heap.size)
    (hdbase : ∀ b, D' b → D b ∨ ¬ B.keep b) (holt : ∀ r b, O' r b → b < w'.heap.size ∧ ¬ D' b) (hodis : ∀ r r' b, O' r b → O' r' b → r = r')
    (hobjs : ∀ r o, look (u ++ σ.h) r = some o → ObjOk w' D' η' (u ++ σ.h) r o (O' r))
    (hv : Vr w' D' η' (u ++ σ.h) v x) : RelG B D' η' O' (σ.after dst v u) (a.put dst x) w' where
  os := hos.trans G.os
  tape := htape.trans G.tape
  output := hout.trans G.output
  size := Nat.le_trans G.size hsz
  keep := fun b hb => (hkeep b hb).trans (G.keep b hb)
  klt := G.klt
  okeep := hokeep
  dlt := hdlt
  dbase := fun b hb => (hdbase b hb).elim (fun h => G.dbase b h) .inr
  base := fun b hb => E.dsub b (G.base b hb)
  olt := holt
  odis := hodis
  objs := by rw [St.after_h]; exact hobjs
  tmps := by
    intro i y hy
    rw [St.after_h]
    rw [St.after_t] at hy
    cases dst with
    | none =>
      obtain ⟨h1, h2⟩ := G.tmps i y hy
      exact ⟨h1, h2.mono E⟩
    | some d =>
      have hdN := hd d rfl
      rw [← G.tsz] at hdN
      simp only [fnd_cons] at hy
      by_cases h : d = i
      · subst h
        simp only [if_true, Option.some.injEq] at hy
        subst hy
        refine ⟨by simpa [Act.put] using hdN, ?_⟩
        have e : (a.put (some d) x).tmps.getD d undef = x := by simp [Act.put, Array.getD, hdN]
        rw [e]; exact hv
      · simp only [h, if_false] at hy
        obtain ⟨h1, h2⟩ := G.tmps i y hy
        refine ⟨by simpa [Act.put] using h1, ?_⟩
        have e : (a.put (some d) x).tmps.getD i undef = a.tmps.getD i undef := by
          simp [Act.put, Array.getD, h1, Array.getElem_setIfInBounds, h]
        rw [e]; exact h2.mono E
  defers := by cases dst <;> exact G.defers
  tsz := by cases dst <;> simp [Act.put, G.tsz]
  hb := fun i b h => by
    rw [St.after_h]
    obtain ⟨h1, h2⟩ := G.hb i b h
    exact ⟨E.old i h1, (E.eta i h1).trans h2⟩

theorem Evo.refl (w : World) (D : Bs) (η : Nat → Gh) (h : Heap) : Evo w D η h w D η h where
  dsub := fun _ h => h
  same := Same.refl _ _
  old := fun _ h => h
  eta := fun _ _ => rfl
  box := fun r l' _ h => ⟨l', h⟩
  row := fun r t n v fz xs _ h => ⟨n, v, fz, xs, h, fun hv _ => ⟨fun is _ hh => ⟨hh, rfl⟩, fun _ is p hh => ⟨hh, rfl⟩⟩⟩
  ver := fun r t n v fz xs t0 n0 v0 fz0 xs0 _ h1 h2 => by rw [h1] at h2; cases h2; exact .inl rfl

/-- Nothing of memory turns. -/
theorem RelG.val {B : Base} {D : Bs} {η : Nat → Gh} {O : Nat → Bs} {σ : St} {a : Act} {w : World} (G : RelG B D η O σ a w) {v : V} {dst : Option Nat} {x : Value}
    (hd : ∀ d, dst = some d → d < B.N) (hv : Vr w D η σ.h v x) : RelG B D η O (σ.after dst v []) (a.put dst x) w :=
  G.go (u := []) hd (Evo.refl _ _ _ _) rfl rfl rfl (Nat.le_refl _) (fun _ _ => rfl) G.okeep G.dlt (fun _ h => .inl h) G.olt G.odis G.objs hv

/-! operands -/
theorem leafsB_leaf : ∀ (l : List Value), cv.leafsB l = true → ∀ v ∈ l, Leaf v
  | [], _, _, h => by cases h
  | x :: l, hb, v, hv => by
    have hx : Leaf x ∧ cv.leafsB l = true := by
      cases x <;> first | (simp [cv.leafsB] at hb; done) | exact ⟨⟨fun _ h => (by cases h), fun _ h => (by cases h)⟩, by simpa [cv.leafsB] using hb⟩
    rcases List.mem_cons.1 hv with h | h
    · rw [h]; exact hx.1
    · exact leafsB_leaf l hx.2 v h
theorem cv1_ok (w : World) (D : Bs) (η : Nat → Gh) (h : Heap) (v : Value) : Vr w D η h (cv.cv1 v) v := by
  cases v with
  | int k n => exact .d (.int k) n _ rfl rfl
  | string s => exact .d .str s.data.toList _ rfl ⟨s, rfl, rfl⟩
  | _ => exact .k _
theorem cv_ok (w : World) (D : Bs) (η : Nat → Gh) (h : Heap) (v : Value) : Vr w D η h (cv v) v := by
  cases v with
  | int k n => exact .d (.int k) n _ rfl rfl
  | string s => exact .d .str s.data.toList _ rfl ⟨s, rfl, rfl⟩
  | agg cs =>
    simp only [cv]
    split
    · rename_i hb
      refine .agg _ _ (by simp) (fun i hi => ?_) (fun i hi => ?_)
      · have hi' : i < cs.size := by simpa using hi
        have e : cs.getD i undef = cs[i] := by simp [Array.getD, hi']
        rw [e]
        exact leafsB_leaf _ hb _ (by simp)
      · have hi' : i < cs.size := by simpa using hi
        have e : cs.getD i undef = cs[i] := by simp [Array.getD, hi']
        rw [e, List.getElem_map]
        simpa using cv1_ok w D η h cs[i]
    · exact .k _
  | _ => exact .k _
theorem RelG.eval {B : Base} {D : Bs} {η : Nat → Gh} {O : Nat → Bs} {σ : St} {a : Act} {w : World} (G : RelG B D η O σ a w) (x : Operand) : Vr w D η σ.h (σ.eval x) (a.eval x) := by
  cases x with
  | tmp i =>
    simp only [St.eval, St.get, Act.eval]
    split
    · rename_i v hv; exact (G.tmps i v hv).2
    · exact .un _
  | const v => exact cv_ok _ _ _ _ v
  | global g => exact .un _
  | func f => exact .fn f [] #[] rfl (fun i hi => by simp at hi)

/-- How an operation that yields a value is shown. -/
def Post (B : Base) (σ : St) (a : Act) (dst : Option Nat) (next : Act → World → Prop) {R : Type} (K : V → Heap → Option R) (r : R) : Prop :=
  ∀ v u x w', K v u = some r → Rel B (σ.after dst v u) (a.put dst x) w' → next (a.put dst x) w'
section
variable {P : Program} {B : Base} {D : Bs} {η : Nat → Gh} {O : Nat → Bs} {σ : St} {a : Act} {w : World} {o : Oper} {next : Act → World → Prop} {Q : Exit → Act → World → Prop} {R : Type} {K : V → Heap → Option R} {r : R}

theorem wp_value (hn : Post B σ a o.dst next K r) {v : V} {u : Heap} {x : Value} {w' : World} (hK : K v u = some r) (hrel : Rel B (σ.after o.dst v u) (a.put o.dst x) w')
    (hrun : (execOp a.eval o).run P w = .ok (.value x) w') : o.wp P a w next Q := by
  unfold Oper.wp; rw [hrun]; exact hn v u x w' hK hrel
theorem wp_skip' (hn : Post B σ a o.dst next K r) {v : V} {u : Heap} {w' : World} (hK : K v u = some r) (hrel : Rel B (σ.after o.dst v u) (a.put o.dst undef) w')
    (hrun : (execOp a.eval o).run P w = .ok .skip w') : o.wp P a w next Q := by
  unfold Oper.wp; rw [hrun]; exact hn v u undef w' hK hrel
theorem wp_pure (hn : Post B σ a o.dst next K r) (G : RelG B D η O σ a w) (hd : ∀ d, o.dst = some d → d < B.N) {v : V} {x : Value} (hK : K v [] = some r) (hv : Vr w D η σ.h v x)
    (hrun : (execOp a.eval o).run P w = .ok (.value x) w) : o.wp P a w next Q :=
  wp_value hn hK ⟨D, η, O, G.val hd hv⟩ hrun

theorem Vr.asB {v : V} {x : Value} {b : Bool} {h : Heap} (H : Vr w D η h v x) (hb : v.asB = some b) : x = .bool b := by
  cases H with
  | d t y v ha hr =>
    cases t <;> simp [V.asB] at hb
    subst hb
    simpa [Rz] using hr
  | k => cases x <;> simp [V.asB] at hb; subst hb; rfl
  | _ => simp [V.asB] at hb

theorem op_move (G : RelG B D η O σ a w) (hn : Post B σ a o.dst next K r) (hd : ∀ d, o.dst = some d → d < B.N) (x : Operand) (ho : o.op = .move x ∨ o.op = .assign x) (hK : K (σ.eval x) [] = some r) : o.wp P a w next Q := by
  refine wp_pure hn G hd hK (G.eval x) ?_
  rcases ho with ho | ho <;> simp [execOp, ho]
theorem op_pick (G : RelG B D η O σ a w) (hn : Post B σ a o.dst next K r) (hd : ∀ d, o.dst = some d → d < B.N) (c x y : Operand) (ho : o.op = .pick c x y) (b : Bool) (hb : (σ.eval c).asB = some b)
    (hK : K (match (generalizing := false) b with | true => σ.eval x | false => σ.eval y) [] = some r) : o.wp P a w next Q := by
  have h1 := (G.eval c).asB hb
  cases b with
  | true => exact wp_pure hn G hd hK (G.eval x) (by simp [execOp, ho, h1, asBool])
  | false => exact wp_pure hn G hd hK (G.eval y) (by simp [execOp, ho, h1, asBool])
end
end Go.Proofs.YtpoppblfnaipbaaDoor.Eng
/-! ## The engine: numbers, strings, bools, what is compared. -/
namespace Go.Proofs.YtpoppblfnaipbaaDoor.Eng
open Go
set_option autoImplicit false
set_option linter.unusedVariables false
set_option linter.unusedSimpArgs false

theorem vr_int {w : World} {D : Bs} {η : Nat → Gh} {h : Heap} {k : IntKind} {n : Int} {x : Value} (H : Vr w D η h (.d (.int k) n) x) : x = .int k n := by
  cases H with
  | d t y v ha hr => simpa [Rz] using hr
theorem vr_str {w : World} {D : Bs} {η : Nat → Gh} {h : Heap} {s : List UInt8} {x : Value} (H : Vr w D η h (.d .str s) x) : ∃ b : ByteArray, b.data.toList = s ∧ x = .string b := by
  cases H with
  | d t y v ha hr => obtain ⟨b, h1, h2⟩ := hr; exact ⟨b, h1, by simpa using h2⟩
theorem vr_bool {w : World} {D : Bs} {η : Nat → Gh} {h : Heap} {s : Bool} {x : Value} (H : Vr w D η h (.d .bool s) x) : x = .bool s := H.asB rfl
theorem vr_sl {w : World} {D : Bs} {η : Nat → Gh} {h : Heap} {t : Ty} {xs : List t.den} {x : Value} (H : Vr w D η h (.d (.sl t) xs) x) : Rz w D (.sl t) xs [x] := by
  cases H with
  | d t y v ha hr => exact hr
theorem mk_int {w : World} {D : Bs} {η : Nat → Gh} {h : Heap} (k : IntKind) (n : Int) : Vr w D η h (.d (.int k) n) (.int k n) := .d (.int k) n _ rfl rfl
theorem mk_bool {w : World} {D : Bs} {η : Nat → Gh} {h : Heap} (b : Bool) : Vr w D η h (.d .bool b) (.bool b) := .d .bool b _ rfl rfl
theorem mk_str {w : World} {D : Bs} {η : Nat → Gh} {h : Heap} (b : ByteArray) (s : List UInt8) (e : b.data.toList = s) : Vr w D η h (.d .str s) (.string b) := .d .str s _ rfl ⟨b, e, rfl⟩
theorem vr_agg {w : World} {D : Bs} {η : Nat → Gh} {h : Heap} {l : List V} {x : Value} (H : Vr w D η h (.agg l) x) :
    ∃ cs : Array Value, x = .agg cs ∧ cs.size = l.length ∧ (∀ i, i < l.length → Leaf (cs.getD i undef)) ∧ ∀ i (hi : i < l.length), Vr w D η h l[i] (cs.getD i undef) := by
  cases H with
  | agg l cs hs hl hr => exact ⟨cs, rfl, hs, hl, hr⟩

theorem vr_k {w : World} {D : Bs} {η : Nat → Gh} {h : Heap} {v x : Value} (H : Vr w D η h (.k v) x) : x = v := by
  cases H; rfl
theorem len_of {b : ByteArray} {s : List UInt8} (e : b.data.toList = s) : b.size = s.length := by
  rw [← e, Array.length_toList]; rfl
theorem bytes_eq (a b : ByteArray) : (a.toList == b.toList) = decide (a.data.toList = b.data.toList) := by
  rw [ByteArray.toList_eq, ByteArray.toList_eq, Bool.eq_iff_iff]; simp
theorem bytes_eq' (a b : ByteArray) : (a == b) = decide (a.data.toList = b.data.toList) := by
  rw [beq_toListBytes, bytes_eq]
theorem ifE_some {α : Type} {c : Prop} [Decidable c] {x : Option α} {r : α} (h : ifE c x none = some r) : c ∧ x = some r := by
  unfold ifE at h; split at h
  · exact ⟨by assumption, h⟩
  · cases h
theorem ifE_none {α : Type} {c : Prop} [Decidable c] {x : Option α} {r : α} (h : ifE c none x = some r) : ¬ c ∧ x = some r := by
  unfold ifE at h; split at h
  · cases h
  · exact ⟨by assumption, h⟩

section
variable {P : Program} {B : Base} {D : Bs} {η : Nat → Gh} {O : Nat → Bs} {σ : St} {a : Act} {w : World} {o : Oper} {next : Act → World → Prop} {Q : Exit → Act → World → Prop} {R : Type} {r : R}

theorem guard_int (op : BinOp) (T : TypeId) (xo yo : Operand) (k l : IntKind) (m n : Int) : (eqGuard op T xo yo (.int k m) (.int l n)).run P w = .ok () w := by
  unfold eqGuard; cases op <;> simp
theorem guard_str (op : BinOp) (T : TypeId) (xo yo : Operand) (m n : ByteArray) : (eqGuard op T xo yo (.string m) (.string n)).run P w = .ok () w := by
  unfold eqGuard; cases op <;> simp
theorem guard_bool (op : BinOp) (T : TypeId) (xo yo : Operand) (m n : Bool) : (eqGuard op T xo yo (.bool m) (.bool n)).run P w = .ok () w := by
  unfold eqGuard; cases op <;> simp
theorem guard_slice (op : BinOp) (T : TypeId) (xo yo : Operand) (a b : Option Addr) (m n c d : Nat) : (eqGuard op T xo yo (.slice a m c) (.slice b n d)).run P w = .ok () w := by
  unfold eqGuard; cases op <;> simp
theorem guard_agg (op : BinOp) (T : TypeId) (xo yo : Operand) (m n : Array Value) (h : P.eqGuardType P.depth T = false) : (eqGuard op T xo yo (.agg m) (.agg n)).run P w = .ok () w := by
  unfold eqGuard; cases op <;> simp [run_program, h]

theorem binI_run (op : BinOp) (T : TypeId) (k : IntKind) (m n : Int) (v : V) (h : binI op k m n = some v) {η : Nat → Gh} {hp : Heap} :
    ∃ x, (Go.binOp op T (.int k m) (.int k n)).run P w = .ok x w ∧ Vr w D η hp v x := by
  cases op <;> simp only [binI, Option.some.injEq, reduceCtorEq] at h <;> subst h <;>
    refine ⟨_, ?_, by first | exact mk_int _ _ | exact mk_bool _⟩ <;>
    simp only [Go.binOp, ne_eq, not_true, if_false] <;>
    first
    | rfl
    | (simp only [Op.intCmp, Sem.run_pure]; congr 2; rw [Bool.eq_iff_iff]; simp)

theorem scalar_int {T : Nat} {k : IntKind} (h : scalarOk P T (.int k) = true) : P.underlying T = some (.int k) := by
  simp only [scalarOk] at h; split at h
  · rename_i l hu; rw [hu, ikEq_eq h]
  · cases h
theorem scalar_bool {T : Nat} (h : scalarOk P T .bool = true) : P.underlying T = some .bool := by
  simp only [scalarOk] at h; split at h
  · rename_i hu; exact hu
  · cases h
theorem scalar_str {T : Nat} (h : scalarOk P T .str = true) : P.underlying T = some .string := by
  simp only [scalarOk] at h; split at h
  · rename_i hu; exact hu
  · cases h
/-- Two values of one cell are compared. -/
theorem eqV_run {t : Ty} {x y : V} {a b : Value} {r : Bool} (hr : eqV t x y = some r) {η : Nat → Gh} {hp : Heap} (hx : Vr w D η hp x a) (hy : Vr w D η hp y b) {T : Nat} (hT : scalarOk P T t = true) (d : Nat) :
    (Op.equalIn (d + 1) T a b).run P w = .ok r w := by
  cases t with
  | int k =>
    have hu := scalar_int hT
    simp only [eqV] at hr
    split at hr
    case h_2 => cases hr
    rename_i k1 x k2 y
    split at hr
    case h_2 => cases hr
    rename_i h1 h2
    obtain rfl := ikEq_eq h1
    obtain rfl := ikEq_eq h2
    obtain rfl := Option.some.inj hr
    obtain rfl := vr_int hx
    obtain rfl := vr_int hy
    simp only [Op.equalIn, Sem.run_bind, run_underlying hu, Result.andThen_ok, if_true, Sem.run_pure]
    congr 1
  | bool =>
    have hu := scalar_bool hT
    simp only [eqV] at hr
    split at hr
    case h_2 => cases hr
    rename_i x1 y1 h1 h2
    obtain rfl := Option.some.inj hr
    obtain rfl := hx.asB h1
    obtain rfl := hy.asB h2
    simp only [Op.equalIn, Sem.run_bind, run_underlying hu, Result.andThen_ok, Sem.run_pure]
    congr 1
  | str =>
    have hu := scalar_str hT
    simp only [eqV] at hr
    split at hr
    case h_2 => cases hr
    obtain rfl := Option.some.inj hr
    obtain ⟨s1, e1, rfl⟩ := vr_str hx
    obtain ⟨s2, e2, rfl⟩ := vr_str hy
    simp only [Op.equalIn, Sem.run_bind, run_underlying hu, Result.andThen_ok, Sem.run_pure, bytes_eq', e1, e2]
  | _ => simp [scalarOk] at hT
/-- A part of one cell. -/
theorem part_one {T off : Nat} {t : Ty} (hT : scalarOk P T t = true) (cs : Array Value) (h : off < cs.size) : (Go.part T cs off).run P w = .ok (cs.getD off undef) w := by
  have e : cs[off]? = some (cs.getD off undef) := by simp [Array.getD, h]
  have hag : (isAgg T).run P w = .ok false w := by
    cases t with
    | int k => simp [isAgg, run_underlying (scalar_int hT)]
    | bool => simp [isAgg, run_underlying (scalar_bool hT)]
    | str => simp [isAgg, run_underlying (scalar_str hT)]
    | _ => simp [scalarOk] at hT
  simp only [Go.part, Sem.run_bind, hag, Result.andThen_ok, Bool.false_eq_true, if_false, e, Sem.run_pure]
theorem eqVs_fields {η : Nat → Gh} {hp : Heap} (d : Nat) {xs ys : Array Value} : ∀ (fs : List Field) (off : Nat) (ts : List Ty) (lx ly : List V) (r : Bool), eqFieldsOk P fs off ts = true → eqVs ts lx ly = some r →
    (∀ i (hi : i < lx.length), off + i < xs.size ∧ Vr w D η hp lx[i] (xs.getD (off + i) undef)) → (∀ i (hi : i < ly.length), off + i < ys.size ∧ Vr w D η hp ly[i] (ys.getD (off + i) undef)) →
    (Op.eqFields (d + 1) xs ys fs).run P w = .ok r w
  | [], off, ts, lx, ly, r, hf, h, _, _ => by cases ts <;> simp [eqFieldsOk] at hf; simp [eqVs] at h
  | f :: fs, off, [], lx, ly, r, hf, h, _, _ => by simp [eqFieldsOk] at hf
  | f :: fs, off, t :: ts, lx, ly, r, hf, h, hx, hy => by
    simp only [eqFieldsOk, Bool.and_eq_true, bne_iff_ne, ne_eq] at hf
    obtain ⟨⟨⟨h1, h2⟩, h3⟩, h4⟩ := hf
    have ho : f.offset = off := Nat.eq_of_beq_eq_true h1
    have key : ∀ (x y : V) (lx' ly' : List V) (p : Bool), lx = x :: lx' → ly = y :: ly' → eqV t x y = some p →
        (Op.eqFields (d + 1) xs ys (f :: fs)).run P w = if p = true then (Op.eqFields (d + 1) xs ys fs).run P w else .ok false w := by
      intro x y lx' ly' p e1 e2 hp
      subst e1 e2
      have hx0 := hx 0 (by simp)
      have hy0 := hy 0 (by simp)
      simp only [Nat.add_zero, List.getElem_cons_zero] at hx0 hy0
      have hq := eqV_run (P := P) hp hx0.2 hy0.2 h3 d
      rw [Op.eqFields, if_pos h2]
      simp only [Sem.run_bind, ho, part_one h3 xs hx0.1, part_one h3 ys hy0.1, Result.andThen_ok, hq]
      cases p <;> simp
    match ts, lx, ly, h, h4, hx, hy, key with
    | [], [x], [y], h, h4, hx, hy, key =>
      simp only [eqVs] at h
      rw [key x y [] [] r rfl rfl h]
      have : fs = [] := by cases fs <;> simp [eqFieldsOk] at h4; rfl
      subst this
      cases r <;> simp [Op.eqFields]
    | u :: ts, x :: lx, y :: ly, h, h4, hx, hy, key =>
      simp only [eqVs] at h
      split at h
      case h_2 => cases h
      rename_i p q hp hq
      rw [key x y lx ly p rfl rfl hp]
      obtain rfl := Option.some.inj h
      have ih := eqVs_fields d fs (off + 1) (u :: ts) lx ly q h4 hq
        (fun i hi => by have := hx (i + 1) (by simpa using hi); simpa [Nat.add_assoc, Nat.add_comm 1 i] using this)
        (fun i hi => by have := hy (i + 1) (by simpa using hi); simpa [Nat.add_assoc, Nat.add_comm 1 i] using this)
      cases p
      · simp
      · simpa using ih
    | [], [], _, h, _, _, _, _ => simp [eqVs] at h
    | [], _ :: _ :: _, _, h, _, _, _, _ => simp [eqVs] at h
    | [], [_], [], h, _, _, _, _ => simp [eqVs] at h
    | [], [_], _ :: _ :: _, h, _, _, _, _ => simp [eqVs] at h
    | _ :: _, [], _, h, _, _, _, _ => simp [eqVs] at h
    | _ :: _, _ :: _, [], h, _, _, _, _ => simp [eqVs] at h
theorem eqVs_items {η : Nat → Gh} {hp : Heap} (d e : Nat) {xs ys : Array Value} : ∀ (n off : Nat) (ts : List Ty) (lx ly : List V) (r : Bool), ts.length = n → ts.all (scalarOk P e) = true → eqVs ts lx ly = some r →
    (∀ i (hi : i < lx.length), off + i < xs.size ∧ Vr w D η hp lx[i] (xs.getD (off + i) undef)) → (∀ i (hi : i < ly.length), off + i < ys.size ∧ Vr w D η hp ly[i] (ys.getD (off + i) undef)) →
    (Op.eqItems (d + 1) e 1 xs ys (List.range' off n)).run P w = .ok r w
  | 0, off, ts, lx, ly, r, hn, hf, h, _, _ => by
    obtain rfl : ts = [] := List.eq_nil_of_length_eq_zero hn
    simp [eqVs] at h
  | n + 1, off, [], lx, ly, r, hn, hf, h, _, _ => by simp at hn
  | n + 1, off, t :: ts, lx, ly, r, hn, hf, h, hx, hy => by
    simp only [List.all_cons, Bool.and_eq_true] at hf
    obtain ⟨h3, h4⟩ := hf
    have key : ∀ (x y : V) (lx' ly' : List V) (p : Bool), lx = x :: lx' → ly = y :: ly' → eqV t x y = some p →
        (Op.eqItems (d + 1) e 1 xs ys (List.range' off (n + 1))).run P w = if p = true then (Op.eqItems (d + 1) e 1 xs ys (List.range' (off + 1) n)).run P w else .ok false w := by
      intro x y lx' ly' p e1 e2 hp
      subst e1 e2
      have hx0 := hx 0 (by simp)
      have hy0 := hy 0 (by simp)
      simp only [Nat.add_zero, List.getElem_cons_zero] at hx0 hy0
      have hq := eqV_run (P := P) hp hx0.2 hy0.2 h3 d
      rw [List.range'_succ, Op.eqItems]
      simp only [Sem.run_bind, Nat.mul_one, part_one h3 xs hx0.1, part_one h3 ys hy0.1, Result.andThen_ok, hq]
      cases p <;> simp
    match ts, lx, ly, h, h4, hx, hy, key, hn with
    | [], [x], [y], h, h4, hx, hy, key, hn =>
      simp only [eqVs] at h
      rw [key x y [] [] r rfl rfl h]
      obtain rfl : n = 0 := by simpa using hn.symm
      cases r <;> simp [Op.eqItems]
    | u :: ts, x :: lx, y :: ly, h, h4, hx, hy, key, hn =>
      simp only [eqVs] at h
      split at h
      case h_2 => cases h
      rename_i p q hp hq
      rw [key x y lx ly p rfl rfl hp]
      obtain rfl := Option.some.inj h
      have ih := eqVs_items d e n (off + 1) (u :: ts) lx ly q (by simpa using hn) h4 hq
        (fun i hi => by have := hx (i + 1) (by simpa using hi); simpa [Nat.add_assoc, Nat.add_comm 1 i] using this)
        (fun i hi => by have := hy (i + 1) (by simpa using hi); simpa [Nat.add_assoc, Nat.add_comm 1 i] using this)
      cases p
      · simp
      · simpa using ih
    | [], [], _, h, _, _, _, _, _ => simp [eqVs] at h
    | [], _ :: _ :: _, _, h, _, _, _, _, _ => simp [eqVs] at h
    | [], [_], [], h, _, _, _, _, _ => simp [eqVs] at h
    | [], [_], _ :: _ :: _, h, _, _, _, _, _ => simp [eqVs] at h
    | _ :: _, [], _, h, _, _, _, _, _ => simp [eqVs] at h
    | _ :: _, _ :: _, [], h, _, _, _, _, _ => simp [eqVs] at h

theorem all_fnd {α : Type} {p : Nat × α → Bool} : ∀ {l : List (Nat × α)}, l.all p = true → ∀ {i : Nat} {a : α}, fnd l i = some a → p (i, a) = true
  | [], _, _, _, h => by simp [fnd] at h
  | (j, b) :: l, h, i, a, hf => by
    simp only [List.all_cons, Bool.and_eq_true] at h
    rw [fnd_cons] at hf
    split at hf
    · rename_i e; subst e; cases hf; exact h.1
    · exact all_fnd h.2 hf
/-- What is asked of a program. -/
structure WF (P : Program) (A : Ann) : Prop where
  ok : progOk P A = true
theorem WF.ty {A : Ann} (W : WF P A) {T : Nat} {t : Ty} (h : fnd A.ty T = some t) : tyOk P A T t = true := by
  have := W.ok; simp only [progOk, Bool.and_eq_true] at this
  exact all_fnd this.1.1.2 h
theorem WF.eqs {A : Ann} (W : WF P A) {T : Nat} {ts : List Ty} (h : fnd A.eqs T = some ts) : eqOk P T ts = true := by
  have := W.ok; simp only [progOk, Bool.and_eq_true] at this
  exact all_fnd this.1.2 h

/-- A type of functions. -/
theorem WF.ft {A : Ann} (W : WF P A) {T : Nat} (h : mvT A.ft T = true) : ftOk P T = true := by
  have := W.ok; simp only [progOk, Bool.and_eq_true] at this
  have key : ∀ (l : List Nat), l.all (fun T => ftOk P T) = true → mvT l T = true → ftOk P T = true := by
    intro l
    induction l with
    | nil => intro _ h; simp [mvT] at h
    | cons x l ih =>
      intro h1 h2
      simp only [List.all_cons, Bool.and_eq_true] at h1
      simp only [mvT] at h2
      split at h2
      · rename_i e; rw [← Nat.eq_of_beq_eq_true e]; exact h1.1
      · exact ih h1.2 h2
  exact key _ this.1.1.1 h
theorem isTy_fnd {A : Ann} {T : Nat} {t : Ty} (h : isTy A T t = true) : fnd A.ty T = some t := by
  unfold isTy at h; split at h
  · rename_i u hu; rw [hu, Ty.eq_of_beq h]
  · cases h
/-- What a kind's row in the table tells. -/
structure TyFacts (P : Program) (A : Ann) (T : Nat) (t : Ty) (i : TypeInfo) (d : TypeDesc) : Prop where
  info : P.info? T = some i
  und : P.underlying T = some d
  size : i.size = t.size
  bytes : i.bytes ≤ 128
  zero : ∃ z, i.zero = some z ∧ vEqs z.cells.toList (zeroCells t) = true ∧ (t.agg = true ↔ ∃ c, z = .agg c)
  desc : descOk A d t = true
theorem WF.facts {A : Ann} (W : WF P A) {T : Nat} {t : Ty} (h : fnd A.ty T = some t) : ∃ i d, TyFacts P A T t i d := by
  have h1 := W.ty h
  unfold tyOk at h1
  split at h1
  case h_2 => cases h1
  rename_i i d hi hd
  simp only [Bool.and_eq_true] at h1
  obtain ⟨⟨⟨h1, h2⟩, h3⟩, h4⟩ := h1
  refine ⟨i, d, hi, hd, Nat.eq_of_beq_eq_true h1, Nat.le_of_ble_eq_true h2, ?_, h4⟩
  split at h3
  case h_2 => cases h3
  rename_i z hz
  simp only [Bool.and_eq_true] at h3
  refine ⟨z, hz, h3.1, ?_⟩
  have h5 := h3.2
  split at h5
  · rename_i c e; simp [e]
  · cases h5
  · rename_i b hna hnb
    have : t.agg = false := by simpa using h5
    rw [this]
    simp
    intro c hc
    exact hnb c hc this
theorem WF.sl {A : Ann} (W : WF P A) {T : Nat} {t : Ty} (h : fnd A.ty T = some (.sl t)) (ht : t.isEnt = false) : ∃ e, P.underlying T = some (.slice e) ∧ fnd A.ty e = some t := by
  obtain ⟨i, d, F⟩ := W.facts h
  have h1 := F.desc
  cases d <;> simp [descOk] at h1
  · exact ⟨_, F.und, isTy_fnd h1.1⟩
  · cases t <;> simp [mapOk] at h1
    cases ht
theorem slTy_of {A : Ann} {T : Nat} (h : slTy A T = true) : ∃ t, fnd A.ty T = some (.sl t) ∧ t.isEnt = false := by
  unfold slTy at h
  split at h
  · rename_i t ht; exact ⟨t, ht, by simpa using h⟩
  · cases h
theorem isSl_of {A : Ann} {T : Nat} {t : Ty} (h : isSl A T t = true) : isTy A T (.sl t) = true ∧ t.isEnt = false := by
  simpa [isSl] using h
theorem elemTy_of {A : Ann} {T : Nat} {t : Ty} (h : elemTy A T = some t) : fnd A.ty T = some (.sl t) ∧ t.isEnt = false := by
  unfold elemTy at h
  split at h
  · rename_i s hs
    split at h
    · cases h
    · rename_i he; cases h; exact ⟨hs, he⟩
  · cases h

/-- Two structs or arrays are compared. -/
theorem eq_agg {A : Ann} (W : WF P A) {η : Nat → Gh} {hp : Heap} {T : Nat} {t0 t1 : Ty} {ts : List Ty} (hT : fnd A.eqs T = some (t0 :: t1 :: ts)) {la lb : List V} {x y : Value} {r : Bool} (h : eqVs (t0 :: t1 :: ts) la lb = some r)
    (hx : Vr w D η hp (.agg la) x) (hy : Vr w D η hp (.agg lb) y) : ∃ cs ds, x = .agg cs ∧ y = .agg ds ∧ P.eqGuardType P.depth T = false ∧ (Op.equal T x y).run P w = .ok r w := by
  obtain ⟨cs, rfl, hs1, hl1, hr1⟩ := vr_agg hx
  obtain ⟨ds, rfl, hs2, hl2, hr2⟩ := vr_agg hy
  refine ⟨cs, ds, rfl, rfl, ?_⟩
  have hk := W.eqs hT
  have e1 : ∀ i (hi : i < la.length), 0 + i < cs.size ∧ Vr w D η hp la[i] (cs.getD (0 + i) undef) := fun i hi => ⟨by omega, by simpa using hr1 i hi⟩
  have e2 : ∀ i (hi : i < lb.length), 0 + i < ds.size ∧ Vr w D η hp lb[i] (ds.getD (0 + i) undef) := fun i hi => ⟨by omega, by simpa using hr2 i hi⟩
  unfold eqOk at hk
  split at hk
  · rename_i ts' fs hu
    simp only [Bool.and_eq_true, Bool.not_eq_true'] at hk
    obtain ⟨⟨⟨_, h1⟩, h2⟩, h3⟩ := hk
    refine ⟨h3, ?_⟩
    have hf : P.fieldsOf T = fs := by simp [Program.fieldsOf, hu]
    show (Op.equalIn (9999 + 1) T _ _).run P w = _
    rw [run_equalIn_struct (P := P) w 9999 T cs ds (by rw [hf]; exact hu) h2, hf]
    exact eqVs_fields 9998 fs.toList 0 _ la lb r h1 h e1 e2
  · rename_i ts' n e hu
    simp only [Bool.and_eq_true, Bool.not_eq_true'] at hk
    obtain ⟨⟨⟨⟨_, h1⟩, h2⟩, h3⟩, h4⟩ := hk
    refine ⟨h3, ?_⟩
    split at h4
    case h_2 => cases h4
    rename_i i hi
    show (Op.equalIn (9999 + 1) T _ _).run P w = _
    rw [run_equalIn_array (P := P) w 9999 cs ds hu hi]
    have hc : P.cellsOf e = 1 := by simp [Program.cellsOf, hi, Nat.eq_of_beq_eq_true h4]
    rw [hc, List.range_eq_range']
    exact eqVs_items 9998 e n 0 _ la lb r (Nat.eq_of_beq_eq_true h1).symm h2 h e1 e2
  · rename_i e1 e2; exact absurd e2 (by simp)
  · cases hk
theorem run_eq_bool {s : Go.Sem Bool} {b : Bool} (h : s.run P w = .ok b w) : (do pure (Value.bool (← s)) : Go.Sem Value).run P w = .ok (.bool b) w := by
  simp only [Sem.run_bind, h, Result.andThen_ok, Sem.run_pure]
theorem run_eq_not {s : Go.Sem Bool} {b : Bool} (h : s.run P w = .ok b w) : (do pure (Value.bool (!(← s))) : Go.Sem Value).run P w = .ok (.bool (!b)) w := by
  simp only [Sem.run_bind, h, Result.andThen_ok, Sem.run_pure]
theorem eq_nil {T el : Nat} (hu : P.underlying T = some (.slice el)) (d : Nat) (x : Addr) (m c n k : Nat) : (Op.equalIn (d + 1) T (.slice (some x) m c) (.slice none n k)).run P w = .ok false w := by
  simp only [Op.equalIn, Sem.run_bind, run_underlying hu, Result.andThen_ok, Sem.run_pure]
theorem eq_bools {T : Nat} (hu : P.underlying T = some .bool) (d : Nat) (x y : Bool) : (Op.equalIn (d + 1) T (.bool x) (.bool y)).run P w = .ok (decide (x = y)) w := by
  simp only [Op.equalIn, Sem.run_bind, run_underlying hu, Result.andThen_ok, Sem.run_pure]
  congr 1
/-- An operator. -/
theorem op_bin {A : Ann} (W : WF P A) {K : V → Option R} (G : RelG B D η O σ a w) (hn : ∀ v x, K v = some r → Rel B (σ.after o.dst v []) (a.put o.dst x) w → next (a.put o.dst x) w)
    (hd : ∀ d, o.dst = some d → d < B.N) (op : BinOp) (T U : TypeId) (x y : Operand) (ho : o.op = .binOp op T x y U) (h : bin A T (nz y) op (σ.eval x) (σ.eval y) K = some r) : o.wp P a w next Q := by
  have hx := G.eval x
  have hy := G.eval y
  have fin : ∀ (v : V) (z : Value), K v = some r → Vr w D η σ.h v z → (eqGuard op T x y (a.eval x) (a.eval y)).run P w = .ok () w → (Go.binOp op T (a.eval x) (a.eval y)).run P w = .ok z w → o.wp P a w next Q := by
    intro v z hK hv h1 h2
    unfold Oper.wp
    have e : (execOp a.eval o).run P w = .ok (.value z) w := by simp only [execOp, ho, Sem.run_bind, h1, h2, Result.andThen_ok, Sem.run_pure]
    rw [e]
    exact hn v z hK ⟨D, η, O, G.val hd hv⟩
  have nzf : ∀ (m : Int) (z : Option R), a.eval y = .int .i64 m ∨ True → nzE (nz y) m z = some r → (∀ k n, y = .const (.int k n) → m = n) → m ≠ 0 ∧ z = some r := by
    intro m z _ hz hc
    unfold nzE at hz
    split at hz
    · rename_i hnz
      refine ⟨?_, hz⟩
      unfold nz at hnz
      split at hnz
      · rw [hc _ _ rfl]; intro h; have := congrArg Int.toNat h; simp at this
      · rw [hc _ _ rfl]; exact Int.negSucc_ne_zero _
      · cases hnz
    · exact ifE_none hz
  unfold bin at h
  split at h
  · rename_i k m l n ex ey
    rw [ex] at hx
    rw [ey] at hy
    have hx := vr_int hx
    have hy := vr_int hy
    have hyc : ∀ k' n', y = .const (.int k' n') → n = n' := by
      intro k' n' e; subst e
      simp only [Act.eval] at hy; cases hy; rfl
    have hg : (eqGuard op T x y (a.eval x) (a.eval y)).run P w = .ok () w := by rw [hx, hy]; exact guard_int _ _ _ _ _ _ _ _
    split at h
    · obtain ⟨h1, h⟩ := ifE_some h
      refine fin _ _ h (mk_int _ _) hg ?_
      rw [hx, hy]
      simp only [Go.binOp, Op.shift, if_neg (Int.not_lt.mpr h1), Sem.run_pure]
    · obtain ⟨h1, h⟩ := ifE_some h
      refine fin _ _ h (mk_int _ _) hg ?_
      rw [hx, hy]
      simp only [Go.binOp, Op.shift, if_neg (Int.not_lt.mpr h1), Sem.run_pure]
    · rename_i hk
      obtain rfl := ikEq_eq hk
      obtain ⟨h1, h⟩ := nzf n _ (.inr trivial) h hyc
      refine fin _ _ h (mk_int _ _) hg ?_
      rw [hx, hy]
      simp only [Go.binOp, Op.intDiv, if_neg h1, ne_eq, not_true, if_false, Sem.run_pure]
    · rename_i hk
      obtain rfl := ikEq_eq hk
      obtain ⟨h1, h⟩ := nzf n _ (.inr trivial) h hyc
      refine fin _ _ h (mk_int _ _) hg ?_
      rw [hx, hy]
      simp only [Go.binOp, Op.intDiv, if_neg h1, ne_eq, not_true, if_false, Sem.run_pure]
    · rename_i hk
      obtain rfl := ikEq_eq hk
      split at h
      case h_2 => cases h
      rename_i v hv
      obtain ⟨z, h1, h2⟩ := binI_run (P := P) (w := w) (D := D) _ T k m n v hv (η := η) (hp := σ.h)
      exact fin v z h h2 hg (by rw [hx, hy]; exact h1)
    · cases h
  · rename_i t xs c1 c2 ex ey
    rw [ex] at hx
    rw [ey] at hy
    split at h
    case h_3 => cases h
    all_goals
    rename_i hb
    simp only [Bool.and_eq_true, Bool.not_eq_true'] at hb
    obtain ⟨s, hs, hse⟩ := slTy_of hb.1
    obtain ⟨ad, cap, e, hc, hrow⟩ := (Rz.sl hb.2).1 (vr_sl hx)
    have hx2 : a.eval x = .slice ad (List.length xs) cap := by simpa using e
    have hy2 : a.eval y = .slice none c1 c2 := vr_k hy
    obtain ⟨h1, h⟩ := ifE_some h
    obtain ⟨b, off, rfl, _⟩ := hrow h1
    obtain ⟨el, hu, _⟩ := W.sl hs hse
    refine fin _ _ h (.k _) (by rw [hx2, hy2]; exact guard_slice _ _ _ _ _ _ _ _ _ _) ?_
    rw [hx2, hy2]
    have : (Op.equal T (.slice (some ⟨b, off, none⟩) (List.length xs) cap) (.slice none c1 c2)).run P w = .ok false w := by
      exact eq_nil hu 9999 _ _ _ _ _
    first | exact run_eq_bool this | exact run_eq_not this
  · rename_i s1 s2 ex ey
    rw [ex] at hx
    rw [ey] at hy
    obtain ⟨b1, e1, hx⟩ := vr_str hx
    obtain ⟨b2, e2, hy⟩ := vr_str hy
    have hg : (eqGuard op T x y (a.eval x) (a.eval y)).run P w = .ok () w := by rw [hx, hy]; exact guard_str _ _ _ _ _ _
    split at h
    · obtain ⟨h1, h⟩ := ifE_some h
      have l1 : b1.size = s1.length := len_of e1
      have l2 : b2.size = s2.length := len_of e2
      refine fin _ (.string (b1 ++ b2)) h (mk_str _ _ (by simp [e1, e2])) hg ?_
      rw [hx, hy]
      have : ¬ (((b1.size + b2.size : Nat) : Int) > IntKind.i64.max) := by rw [l1, l2]; simp [IntKind.max, IntKind.bits, IntKind.signed]; omega
      simp only [Go.binOp, Op.stringOp, if_neg this, Sem.run_pure]
    · refine fin _ _ h (mk_bool _) hg ?_
      rw [hx, hy]
      simp only [Go.binOp, Op.stringOp, Sem.run_pure, bytes_eq, e1, e2]
    · refine fin _ _ h (mk_bool _) hg ?_
      rw [hx, hy]
      simp only [Go.binOp, Op.stringOp, Sem.run_pure, bytes_eq, e1, e2]
    · refine fin _ _ h (mk_bool _) hg ?_
      rw [hx, hy]
      simp only [Go.binOp, Op.stringOp, Sem.run_pure, ByteArray.toList_eq, e1, e2]
    · refine fin _ _ h (mk_bool _) hg ?_
      rw [hx, hy]
      simp only [Go.binOp, Op.stringOp, Sem.run_pure, ByteArray.toList_eq, e1, e2]
      have : (s1 == s2) = decide (s1 = s2) := by by_cases e : s1 = s2 <;> simp [e]
      rw [this]
    · cases h
  · rename_i la lb ex ey
    rw [ex] at hx
    rw [ey] at hy
    split at h
    case h_2 => cases h
    rename_i t0 t1 ts hT
    split at h
    case h_2 => cases h
    rename_i q hq
    obtain ⟨cs, ds, e1, e2, h3, h4⟩ := eq_agg W hT hq hx hy
    have hg : (eqGuard op T x y (a.eval x) (a.eval y)).run P w = .ok () w := by rw [e1, e2]; exact guard_agg _ _ _ _ _ _ h3
    rw [e1, e2] at h4
    split at h
    · refine fin _ _ h (mk_bool _) hg ?_
      rw [e1, e2]
      exact run_eq_bool h4
    · refine fin _ _ h (mk_bool _) hg ?_
      rw [e1, e2]
      exact run_eq_not h4
    · cases h
  · split at h
    case h_2 => cases h
    rename_i p q hT h1 h2
    have hx := hx.asB h1
    have hy := hy.asB h2
    have hg : (eqGuard op T x y (a.eval x) (a.eval y)).run P w = .ok () w := by rw [hx, hy]; exact guard_bool _ _ _ _ _ _
    have hu : P.underlying T = some .bool := by
      have hk := W.eqs hT
      unfold eqOk at hk
      split at hk
      · simp [Nat.blt] at hk
      · simp [Nat.blt] at hk
      · assumption
      · cases hk
    have h4 : (Op.equal T (.bool p) (.bool q)).run P w = .ok (decide (p = q)) w := by
      exact eq_bools hu 9999 _ _
    split at h
    · refine fin _ _ h (mk_bool _) hg ?_
      rw [hx, hy]
      exact run_eq_bool h4
    · refine fin _ _ h (mk_bool _) hg ?_
      rw [hx, hy]
      exact run_eq_not h4
    · cases h
end
end Go.Proofs.YtpoppblfnaipbaaDoor.Eng
/-! ## The engine: boxes, addresses. -/
namespace Go.Proofs.YtpoppblfnaipbaaDoor.Eng
open Go
set_option autoImplicit false
set_option linter.unusedVariables false
set_option linter.unusedSimpArgs false

theorem look_append_none {u h : Heap} {r : Nat} (hr : fnd u r = none) : look (u ++ h) r = look h r := by
  simp only [look, fnd_append, hr]
theorem fnd_isSome_append {u h : Heap} {r : Nat} (hr : (fnd h r).isSome) : (fnd (u ++ h) r).isSome := by
  rw [fnd_append]; split <;> simp_all
theorem fresh_none {h : Heap} {r : Nat} (hf : fresh h r = true) : fnd h r = none := by
  unfold fresh at hf; split at hf
  · cases hf
  · assumption
theorem look_some_isSome {h : Heap} {r : Nat} {o : Ob} (hl : look h r = some o) : (fnd h r).isSome := by
  unfold look at hl; split at hl
  · rename_i h1; rw [h1]; rfl
  · cases hl

section
variable {P : Program} {B : Base} {D : Bs} {η : Nat → Gh} {O : Nat → Bs} {σ : St} {a : Act} {w : World} {o : Oper} {next : Act → World → Prop} {Q : Exit → Act → World → Prop} {R : Type} {r : R} {K : V → Heap → Option R}

/-- How a root comes over. -/
inductive Came (w w' : World) (η : Nat → Gh) (h h' : Heap) (r : Nat) (Or : Bs) : Prop
  | same (hl : look h' r = look h r) (hO : Same Or w w')
  | gone (hl : look h' r = none)
  | box (l l' : List V) (h0 : look h r = some (.box l)) (h1 : look h' r = some (.box l'))
  | row (t : Ty) (n v : Nat) (fz : Bool) (xs : List t.den) (n' v' : Nat) (fz' : Bool) (xs' : List t.den) (h0 : look h r = some (.row t n v fz xs)) (h1 : look h' r = some (.row t n' v' fz' xs'))
    (hv : v' = v ∨ fnd h v' = none) (hh : ∀ hv, η r = .row hv → (∀ is, (is = [] ∨ v' = v) → Valid t xs is → Valid t xs' is ∧ hdrAt w' hv is = hdrAt w hv is) ∧ (v' = v → ∀ is p, ValidE t xs is → ValidE t xs' is ∧ elPtr w' p hv t is = elPtr w p hv t is))

theorem RelG.evo (G : RelG B D η O σ a w) {w' : World} {D' : Bs} {η' : Nat → Gh} {u : Heap} (hD : ∀ b, D b → D' b) (hs : Same D w w') (hη : ∀ r, (fnd σ.h r).isSome → η' r = η r)
    (hc : ∀ r, (fnd σ.h r).isSome → Came w w' η σ.h (u ++ σ.h) r (O r)) : Evo w D η σ.h w' D' η' (u ++ σ.h) where
  dsub := hD
  same := hs
  old := fun r hr => fnd_isSome_append hr
  eta := hη
  box := by
    intro r l' hr hl
    rcases hc r hr with ⟨h1, _⟩ | h1 | ⟨l, l2, h0, h1⟩ | ⟨t, n, v, fz, xs, n', v', fz', xs', h0, h1, _, _⟩
    · exact ⟨l', h1 ▸ hl⟩
    · rw [h1] at hl; cases hl
    · exact ⟨l, h0⟩
    · rw [h1] at hl; cases hl
  row := by
    intro r t n v fz xs hr hl
    rcases hc r hr with ⟨h1, hO⟩ | h1 | ⟨l, l2, h0, h1⟩ | ⟨t', n', v', fz', xs', n2, v2, fz2, xs2, h0, h1, _, hh⟩
    · rw [h1] at hl
      refine ⟨n, v, fz, xs, hl, fun hv he => ?_⟩
      obtain ⟨hv', he', hob, _⟩ := G.objs r _ hl
      obtain rfl : hv' = hv := by rw [he'] at he; cases he; rfl
      cases fz with
      | true =>
        exact ⟨fun is _ hval => ⟨hval, hdr_Rz hs is t xs hv' hob.1 hval⟩, fun _ is p hval => ⟨hval, el_Rz hs p is t xs hv' hob.1 hval⟩⟩
      | false =>
        exact ⟨fun is _ hval => ⟨hval, hdr_Own hs is t (n + 1) xs hv' (O r) hO hob hval⟩, fun _ is p hval => ⟨hval, el_Own hs p is t (n + 1) xs hv' (O r) hO hob hval⟩⟩
    · rw [h1] at hl; cases hl
    · rw [h1] at hl; cases hl
    · rw [h1] at hl
      cases hl
      exact ⟨n', v', fz', xs', h0, hh⟩
  ver := by
    intro r t n v fz xs t0 n0 v0 fz0 xs0 hr hl hl0
    rcases hc r hr with ⟨h1, hO⟩ | h1 | ⟨l, l2, h0, h1⟩ | ⟨t', n', v', fz', xs', n2, v2, fz2, xs2, h0, h1, hv, hh⟩
    · rw [h1, hl0] at hl; cases hl; exact .inl rfl
    · rw [h1] at hl; cases hl
    · rw [h1] at hl; cases hl
    · rw [h1] at hl; rw [h0] at hl0; cases hl; cases hl0; exact hv

theorem heap_alloc_lt (w : World) (o : Go.Obj) {b : Nat} (hb : b < w.heap.size) : (w.alloc o).heap[b]? = w.heap[b]? := heap_alloc_old w o hb

/-- A new box. -/
theorem RelG.newBox (G : RelG B D η O σ a w) {κ : Nat} (hκ : fresh σ.h κ = true) {dst : Option Nat} (hd : ∀ d, dst = some d → d < B.N) {l : List V} (c : Array Value) (T : TypeId) (hc : c.size = l.length)
    (hl : ∀ i (hi : i < l.length), Leaf (c.getD i undef) ∧ Vr w D η σ.h l[i] (c.getD i undef)) :
    Rel B (σ.after dst (.ptr κ 0) [(κ, some (.box l))]) (a.put dst (.pointer (some ⟨w.heap.size, 0, none⟩))) (w.alloc (.cells c T)) := by
  have hn := fresh_none hκ
  have ne : ∀ r, (fnd σ.h r).isSome → r ≠ κ := by intro r hr e; subst e; rw [hn] at hr; simp at hr
  have hlook : ∀ r, r ≠ κ → look ([(κ, some (Ob.box l))] ++ σ.h) r = look σ.h r := by
    intro r hr; apply look_append_none; rw [fnd_cons, if_neg (Ne.symm hr)]; rfl
  have hlk : look ([(κ, some (Ob.box l))] ++ σ.h) κ = some (.box l) := by simp [look, fnd_cons]
  have hOr : ∀ r, Same (O r) w (w.alloc (.cells c T)) := fun r b hb => heap_alloc_lt w _ (G.olt r b hb).1
  have hDs : Same D w (w.alloc (.cells c T)) := fun b hb => heap_alloc_lt w _ (G.dlt b hb)
  let η' : Nat → Gh := fun r => if r = κ then .box w.heap.size else η r
  let O' : Nat → Bs := fun r b => if r = κ then b = w.heap.size else O r b
  have E : Evo w D η σ.h (w.alloc (.cells c T)) D η' ([(κ, some (.box l))] ++ σ.h) :=
    G.evo (fun _ h => h) hDs (fun r hr => if_neg (ne r hr)) (fun r hr => .same (hlook r (ne r hr)) (hOr r))
  have hOκ : ∀ r b, O' r b → (r = κ ∧ b = w.heap.size) ∨ (r ≠ κ ∧ O r b) := by
    intro r b h
    by_cases hr : r = κ
    · simp only [O', hr, if_true] at h; exact .inl ⟨hr, h⟩
    · simp only [O', hr, if_false] at h; exact .inr ⟨hr, h⟩
  refine ⟨D, η', O', G.go hd E rfl rfl rfl (by simp) (fun b hb => heap_alloc_lt w _ (Nat.lt_of_lt_of_le (G.klt b hb) G.size)) ?_ ?_ (fun _ h => .inl h) ?_ ?_ ?_ ?_⟩
  · intro r b h
    rcases hOκ r b h with ⟨_, rfl⟩ | ⟨_, h⟩
    · intro hk; have := G.klt _ hk; have := G.size; omega
    · exact G.okeep r b h
  · intro b hb; have := G.dlt b hb; simp; omega
  · intro r b h
    rcases hOκ r b h with ⟨_, rfl⟩ | ⟨_, h⟩
    · exact ⟨by simp, fun hb => Nat.lt_irrefl _ (G.dlt _ hb)⟩
    · exact ⟨by have := (G.olt r b h).1; simp; omega, (G.olt r b h).2⟩
  · intro r r' b h h'
    rcases hOκ r b h with ⟨e, rfl⟩ | ⟨_, h⟩ <;> rcases hOκ r' _ h' with ⟨e', e2⟩ | ⟨_, h'⟩
    · rw [e, e']
    · exact absurd (G.olt r' _ h').1 (Nat.lt_irrefl _)
    · subst e2; exact absurd (G.olt r _ h).1 (Nat.lt_irrefl _)
    · exact G.odis r r' b h h'
  · intro r ob hr
    by_cases e : r = κ
    · subst e
      rw [hlk] at hr; cases hr
      exact ⟨w.heap.size, c, T, if_pos rfl, heap_alloc_new w _, hc, fun i hi => ⟨(hl i hi).1, (hl i hi).2.mono E⟩, fun x => by simp [O']⟩
    · rw [hlook r e] at hr
      have := (G.objs r ob hr).mono E (look_some_isSome hr) (hOr r)
      have e2 : O' r = O r := by funext b; simp [O', e]
      rw [e2]; exact this
  · refine .ptr κ 0 _ Leaf.pointer (by simp [fnd_cons]) (fun l' b hl' he => ?_)
    simp only [η', if_true] at he
    cases he; rfl
end
end Go.Proofs.YtpoppblfnaipbaaDoor.Eng
/-! ## The engine: operations on boxes. -/
namespace Go.Proofs.YtpoppblfnaipbaaDoor.Eng
open Go
set_option autoImplicit false
set_option linter.unusedVariables false
set_option linter.unusedSimpArgs false

theorem leafB_leaf {v : Value} (h : leafB v = true) : Leaf v := by
  cases v <;> first | (simp [leafB] at h; done) | exact ⟨fun _ h => (by cases h), fun _ h => (by cases h)⟩
theorem Leaf.one {v : Value} (h : Leaf v) : v.oneCell' = true := by
  cases v <;> first | rfl | exact absurd rfl (h.1 _) | exact absurd rfl (h.2 _)
theorem getD_one (x : Value) : (#[x] : Array Value).getD 0 undef = x := rfl

section
variable {P : Program} {B : Base} {D : Bs} {η : Nat → Gh} {O : Nat → Bs} {σ : St} {a : Act} {w : World} {o : Oper} {next : Act → World → Prop} {Q : Exit → Act → World → Prop} {R : Type} {r : R} {K : V → Heap → Option R}

/-- The cells of a value. -/
theorem Vr.cells {hp : Heap} {v : V} {x : Value} (H : Vr w D η hp v x) (h0 : 0 < v.cells.length) :
    x.cells.size = v.cells.length ∧ ∀ i (hi : i < v.cells.length), Leaf (x.cells.getD i undef) ∧ Vr w D η hp v.cells[i] (x.cells.getD i undef) := by
  have one : ∀ {v : V} {x : Value}, Vr w D η hp v x → Leaf x → v.cells = [v] → x.cells.size = v.cells.length ∧ ∀ i (hi : i < v.cells.length), Leaf (x.cells.getD i undef) ∧ Vr w D η hp v.cells[i] (x.cells.getD i undef) := by
    intro v x H hl e
    rw [hl.cells]
    refine ⟨by rw [e]; rfl, fun i hi => ?_⟩
    have hi0 : i = 0 := by rw [e] at hi; simpa using hi
    subst hi0
    have : v.cells[0] = v := by simp [e]
    rw [this]
    exact ⟨hl, H⟩
  cases H with
  | agg l cs hs hl hr => exact ⟨hs, fun i hi => ⟨hl i hi, hr i hi⟩⟩
  | k =>
    by_cases hb : leafB x = true
    · exact one (.k x) (leafB_leaf hb) (by simp [V.cells, hb])
    · simp [V.cells, hb] at h0
  | tup => simp [V.cells] at h0
  | un => simp [V.cells] at h0
  | d t y _ ha hr => exact one (.d t y x ha hr) ((Rz.shape _ _ _ hr).2 x (by simp)) rfl
  | el t y b off us hb hr hc => exact one (.el t y b off us hb hr hc) Leaf.pointer rfl
  | eb l o b f hb hl hr => exact one (.eb l o b f hb hl hr) Leaf.pointer rfl
  | ref r is v t _ hlf hr hv hx => exact one (.ref r is v t _ hlf hr hv hx) hlf rfl
  | rp r is v p t _ hlf hr hv hx => exact one (.rp r is v p t _ hlf hr hv hx) hlf rfl
  | ptr r o _ hlf hr hx => exact one (.ptr r o _ hlf hr hx) hlf rfl
  | fn f caps vs hs hr => exact one (.fn f caps vs hs hr) Leaf.func rfl

/-- A box's cells are others now. -/
theorem RelG.setBox (G : RelG B D η O σ a w) {q : Nat} {l l' : List V} (hq : look σ.h q = some (.box l)) {c : Array Value} {T : TypeId} {b : Nat} (hb : η q = .box b) (hw : w.heap[b]? = some (.cells c T (0, 0)))
    (c' : Array Value) (hc : c'.size = l'.length) (hl : ∀ i (hi : i < l'.length), Leaf (c'.getD i undef) ∧ Vr w D η σ.h l'[i] (c'.getD i undef)) {dst : Option Nat} (hd : ∀ d, dst = some d → d < B.N) {v : V} {x : Value} (hv : Vr w D η σ.h v x) :
    Rel B (σ.after dst v [(q, some (.box l'))]) (a.put dst x) (w.setRow b c') := by
  have hqi := look_some_isSome hq
  obtain ⟨b', cc, TT, h1, h2, h3, h4, h5⟩ := G.objs q _ hq
  obtain rfl : b' = b := by rw [h1] at hb; cases hb; rfl
  have hOb : O q b' := (h5 b').2 rfl
  have hother : ∀ k, k ≠ b' → (w.setRow b' c').heap[k]? = w.heap[k]? := fun k hk => by
    simp only [World.setRow, Array.getElem?_modify]; rw [if_neg (Ne.symm hk)]
  have hself := setRow_heap w b' c c' T (0, 0) hw
  have hDs : Same D w (w.setRow b' c') := fun k hk => hother k (fun e => (G.olt q b' hOb).2 (e ▸ hk))
  have hOs : ∀ r, r ≠ q → Same (O r) w (w.setRow b' c') := fun r hr k hk => hother k (fun e => hr (G.odis r q b' (e ▸ hk) hOb))
  have hlook : ∀ r, r ≠ q → look ([(q, some (Ob.box l'))] ++ σ.h) r = look σ.h r := by
    intro r hr; apply look_append_none; rw [fnd_cons, if_neg (Ne.symm hr)]; rfl
  have hlk : look ([(q, some (Ob.box l'))] ++ σ.h) q = some (.box l') := by simp [look, fnd_cons]
  have E : Evo w D η σ.h (w.setRow b' c') D η ([(q, some (.box l'))] ++ σ.h) :=
    G.evo (fun _ h => h) hDs (fun _ _ => rfl) (fun r hr => by
      by_cases e : r = q
      · subst e; exact .box l l' hq hlk
      · exact .same (hlook r e) (hOs r e))
  have hsz : (w.setRow b' c').heap.size = w.heap.size := by simp [World.setRow]
  refine ⟨D, η, O, G.go hd E rfl rfl rfl (by rw [hsz]; exact Nat.le_refl _) (fun k hk => hother k (fun e => G.okeep q b' hOb (e ▸ hk))) G.okeep ?_ (fun _ h => .inl h) ?_ G.odis ?_ (hv.mono E)⟩
  · intro k hk; rw [hsz]; exact G.dlt k hk
  · intro r k hk; rw [hsz]; exact G.olt r k hk
  · intro r ob hr
    by_cases e : r = q
    · subst e
      rw [hlk] at hr; cases hr
      exact ⟨b', c', T, h1, hself, hc, fun i hi => ⟨(hl i hi).1, (hl i hi).2.mono E⟩, h5⟩
    · rw [hlook r e] at hr
      exact (G.objs r ob hr).mono E (look_some_isSome hr) (hOs r e)

/-- A box behind an address. -/
theorem RelG.box (G : RelG B D η O σ a w) {q o : Nat} {l : List V} {x : Value} (hx : Vr w D η σ.h (.ptr q o) x) (hq : look σ.h q = some (.box l)) :
    ∃ b c T, x = .pointer (some ⟨b, o, none⟩) ∧ η q = .box b ∧ w.heap[b]? = some (.cells c T (0, 0)) ∧ c.size = l.length ∧ ∀ i (hi : i < l.length), Leaf (c.getD i undef) ∧ Vr w D η σ.h l[i] (c.getD i undef) := by
  obtain ⟨b, c, T, h1, h2, h3, h4, h5⟩ := G.objs q _ hq
  cases hx with
  | ptr _ _ _ _ hr hx => exact ⟨b, c, T, hx l b hq h1, h1, h2, h3, h4⟩

theorem add_none (b o n : Nat) : (⟨b, o, none⟩ : Addr).add n = ⟨b, o + n, none⟩ := by unfold Addr.add; split <;> simp_all
theorem cell_row {b o : Nat} {c : Array Value} {T : TypeId} (hw : w.heap[b]? = some (.cells c T (0, 0))) (ho : o < c.size) : w.cell? ⟨b, o, none⟩ = some (c.getD o undef) := by
  simp [World.cell?, hw, Array.getD, ho]

theorem tk_eq {α : Type} : ∀ (l : List α) (c n : Nat), tk l c n = (l.drop c).take n
  | [], c, n => by simp [tk]
  | a :: l, 0, 0 => by simp [tk]
  | a :: l, 0, n + 1 => by simp [tk, tk_eq l 0 n]
  | a :: l, c + 1, n => by simp [tk, tk_eq l c n]
theorem setAtL_eq {α : Type} : ∀ (l : List α) (c : Nat) (vs : List α), c + vs.length ≤ l.length → setAtL l c vs = l.take c ++ vs ++ l.drop (c + vs.length)
  | [], c, vs, h => by
    obtain rfl : vs = [] := List.eq_nil_of_length_eq_zero (by simp only [List.length_nil] at h; omega)
    simp [setAtL]
  | a :: l, 0, [], _ => by simp [setAtL]
  | a :: l, 0, v :: vs, h => by
    simp only [setAtL, setAtL_eq l 0 vs (by simp at h ⊢; omega)]
    simp [Nat.add_comm]
  | a :: l, c + 1, vs, h => by
    have e : c + 1 + vs.length = c + vs.length + 1 := by omega
    simp only [setAtL, setAtL_eq l c vs (by simp at h; omega), e]
    simp

/-- What a kind's row in the table tells of reading. -/
theorem TyFacts.isAgg {A : Ann} {T : Nat} {t : Ty} {i : TypeInfo} {d : TypeDesc} (F : TyFacts P A T t i d) : (isAgg T).run P w = .ok t.agg w := by
  have h := F.desc
  simp only [Go.isAgg, Sem.run_bind, run_underlying F.und, Result.andThen_ok]
  cases d <;> cases t <;> simp [descOk] at h <;> rfl
theorem TyFacts.sizeOf {A : Ann} {T : Nat} {t : Ty} {i : TypeInfo} {d : TypeDesc} (F : TyFacts P A T t i d) : (sizeOf T).run P w = .ok t.size w := by
  simp only [Go.sizeOf, typeInfo, Sem.run_bind, run_program, Result.andThen_ok, F.info, Sem.run_pure, F.size]

/-- Reading cells. -/
theorem load_run {A : Ann} {T : Nat} {t : Ty} {i : TypeInfo} {d : TypeDesc} (F : TyFacts P A T t i d) (b o : Nat) (cs : List Value) (hl : cs.length = t.size) (hc : ∀ j v, cs[j]? = some v → w.cell? ⟨b, o + j, none⟩ = some v) :
    (loadVar T ⟨b, o, none⟩).run P w = .ok (match t.agg with | true => .agg cs.toArray | false => cs.getD 0 undef) w ∨ (t.agg = false ∧ t.size ≠ 1) := by
  by_cases ha : t.agg = true
  · left
    have e := run_loadCells_list (P := P) w ⟨b, o, none⟩ cs (fun j v h => by rw [add_none]; exact hc j v h)
    simp only [loadVar, Sem.run_bind, F.isAgg, Result.andThen_ok, ha, if_true, F.sizeOf, ← hl, e, Sem.run_pure]
  · have ha' : t.agg = false := by simpa using ha
    have h1 : t.size = 1 := by cases t <;> first | rfl | (simp [Ty.agg] at ha'; done)
    left
    obtain ⟨v, rfl⟩ : ∃ v, cs = [v] := by match cs, hl.trans h1 with | [v], _ => exact ⟨v, rfl⟩
    have h2 := hc 0 v rfl
    simp only [Nat.add_zero] at h2
    simp [loadVar, F.isAgg, ha', h2]

/-- A value out of a box. -/
theorem getC_run {A : Ann} {T : Nat} {t : Ty} {i : TypeInfo} {d : TypeDesc} (F : TyFacts P A T t i d) {l : List V} {b o : Nat} (f : Nat → Value) (hf : ∀ j (hj : j < l.length), w.cell? ⟨b, j, none⟩ = some (f j) ∧ Leaf (f j) ∧ Vr w D η σ.h l[j] (f j))
    (h : getC t l o K = some r) : ∃ v x, K v [] = some r ∧ Vr w D η σ.h v x ∧ (loadVar T ⟨b, o, none⟩).run P w = .ok x w := by
  have key : ∀ n, (tk l o n).length = n → 0 < n → (∀ j v, ((List.range n).map fun j => f (o + j))[j]? = some v → w.cell? ⟨b, o + j, none⟩ = some v) ∧ o + n ≤ l.length := by
    intro n hn h0
    rw [tk_eq] at hn
    have hle : o + n ≤ l.length := by simp at hn; omega
    refine ⟨fun j v hv => ?_, hle⟩
    simp only [List.getElem?_map] at hv
    by_cases hj : j < n
    · rw [List.getElem?_range hj] at hv
      simp at hv
      rw [← hv]
      exact (hf (o + j) (by omega)).1
    · rw [List.getElem?_eq_none (by simpa using hj)] at hv; simp at hv
  unfold getC at h
  split at h
  · rename_i ha
    split at h
    case h_2 => cases h
    rename_i hl
    have hl := Nat.eq_of_beq_eq_true hl
    by_cases h0 : 0 < t.size
    · obtain ⟨h1, h2⟩ := key t.size hl h0
      have e := load_run F (w := w) b o ((List.range t.size).map fun j => f (o + j)) (by simp) h1
      rw [ha] at e
      simp only [reduceCtorEq, false_and, or_false] at e
      refine ⟨_, _, h, .agg _ _ (by simp [hl]) (fun j hj => ?_) (fun j hj => ?_), e⟩
      · rw [hl] at hj
        have : (((List.range t.size).map fun j => f (o + j)).toArray.getD j undef) = f (o + j) := by simp [Array.getD, hj]
        rw [this]; exact (hf (o + j) (by omega)).2.1
      · have hj' := hj
        rw [hl] at hj'
        have : (((List.range t.size).map fun j => f (o + j)).toArray.getD j undef) = f (o + j) := by simp [Array.getD, hj']
        rw [this]
        have e2 : (tk l o t.size)[j] = l[o + j]'(by omega) := by simp [tk_eq]
        rw [e2]; exact (hf (o + j) (by omega)).2.2
    · have hz : t.size = 0 := by omega
      have e := load_run F (w := w) b o [] (by simp [hz]) (fun j v hv => by simp at hv)
      rw [ha] at e
      simp only [reduceCtorEq, false_and, or_false] at e
      refine ⟨_, _, h, .agg _ _ (by rw [hl, hz]; rfl) (fun j hj => ?_) (fun j hj => ?_), e⟩
      · rw [hl, hz] at hj; omega
      · rw [hl, hz] at hj; omega
  · rename_i ha
    split at h
    case h_2 => cases h
    rename_i v hv
    have h1 : t.size = 1 := by cases t <;> first | rfl | (simp [Ty.agg] at ha; done)
    obtain ⟨h2, h3⟩ := key 1 (by rw [hv]; rfl) (by omega)
    have e := load_run F (w := w) b o ((List.range 1).map fun j => f (o + j)) (by simp [h1]) h2
    rw [ha] at e
    simp only [h1, ne_eq, not_true, and_false, or_false] at e
    refine ⟨v, _, h, ?_, e⟩
    have e2 : v = l[o]'(by omega) := by
      rw [tk_eq] at hv
      have : (l.drop o).take 1 = [l[o]'(by omega)] := by
        rw [List.drop_eq_getElem_cons (by omega)]; rfl
      rw [this] at hv; cases hv; rfl
    rw [e2]
    simpa using (hf o (by omega)).2.2

theorem op_load_ptr {A : Ann} (W : WF P A) (G : RelG B D η O σ a w) (hn : Post B σ a o.dst next K r) (hd : ∀ d, o.dst = some d → d < B.N) (T : Nat) (x : Operand) (ho : o.op = .load T x) {t : Ty} (ht : fnd A.ty T = some t)
    {q c : Nat} (hx : σ.eval x = .ptr q c) {l : List V} (hq : look σ.h q = some (.box l)) (h : getC t l c K = some r) : o.wp P a w next Q := by
  obtain ⟨i, d, F⟩ := W.facts ht
  have hv := G.eval x
  rw [hx] at hv
  obtain ⟨b, cs, T', h1, h2, h3, h4, h5⟩ := G.box hv hq
  obtain ⟨v, y, hK, hv', hrun⟩ := getC_run F (o := c) (b := b) (fun j => cs.getD j undef) (fun j hj => ⟨cell_row h3 (by omega), h5 j hj⟩) h
  refine wp_pure hn G hd hK hv' ?_
  simp only [execOp, ho, Instr.loadAt, Instr.sureAddr, h1, Sem.run_bind, Sem.run_pure, Result.andThen_ok, hrun]

theorem vEq_eq : ∀ {x y : Value}, vEq x y = true → x = y
  | .int k m, .int l n, h => by simp only [vEq, Bool.and_eq_true, decide_eq_true_eq] at h; rw [ikEq_eq h.1, h.2]
  | .bool a, .bool b, h => by simp [vEq] at h; rw [h]
  | .string a, .string b, h => by
    simp only [vEq, decide_eq_true_eq] at h
    have : a = b := by
      have : a.data = b.data := by cases ha : a.data; cases hb : b.data; simp_all
      cases a; cases b; simp_all
    rw [this]
  | .map none, .map none, _ => rfl
  | .slice none a b, .slice none c d, h => by
    simp only [vEq, Bool.and_eq_true] at h
    rw [Nat.eq_of_beq_eq_true h.1, Nat.eq_of_beq_eq_true h.2]
theorem vEqs_eq : ∀ {l m : List Value}, vEqs l m = true → l = m
  | [], [], _ => rfl
  | x :: l, y :: m, h => by
    simp only [vEqs, Bool.and_eq_true] at h
    rw [vEq_eq h.1, vEqs_eq h.2]
theorem zeros_ok (hp : Heap) : ∀ (t : Ty), (zeros t).length = (zeroCells t).length ∧ ∀ i (hi : i < (zeros t).length), Leaf ((zeroCells t).getD i undef) ∧ Vr w D η hp (zeros t)[i] ((zeroCells t).getD i undef)
  | .int k => ⟨rfl, fun i hi => by obtain rfl : i = 0 := by simpa [zeros] using hi
                                   exact ⟨Leaf.int, mk_int _ _⟩⟩
  | .bool => ⟨rfl, fun i hi => by obtain rfl : i = 0 := by simpa [zeros] using hi
                                  exact ⟨Leaf.bool, .k _⟩⟩
  | .str => ⟨rfl, fun i hi => by obtain rfl : i = 0 := by simpa [zeros] using hi
                                 exact ⟨Leaf.string, mk_str _ _ rfl⟩⟩
  | .sl t => by
    have key : ∀ (l : List V) (m : List Value), ((l = [.k (.map none)] ∧ m = [.map none]) ∨ (l = [.k (.slice none 0 0)] ∧ m = [.slice none 0 0])) →
        l.length = m.length ∧ ∀ i (hi : i < l.length), Leaf (m.getD i undef) ∧ Vr w D η hp l[i] (m.getD i undef) := by
      rintro l m (⟨rfl, rfl⟩ | ⟨rfl, rfl⟩)
      · exact ⟨rfl, fun i hi => by
          obtain rfl : i = 0 := by simpa using hi
          exact ⟨Leaf.map, .k _⟩⟩
      · exact ⟨rfl, fun i hi => by
          obtain rfl : i = 0 := by simpa using hi
          exact ⟨Leaf.slice, .k _⟩⟩
    refine key _ _ ?_
    cases ht : t.isEnt with
    | true => exact .inl ⟨by simp only [zeros, ht], by simp only [zeroCells, ht]⟩
    | false => exact .inr ⟨by simp only [zeros, ht], by simp only [zeroCells, ht]⟩
  | .ent _ _ => ⟨rfl, fun i hi => by simp [zeros] at hi⟩
  | .unit => ⟨rfl, fun i hi => by simp [zeros] at hi⟩
  | .tree => ⟨rfl, fun i hi => by
      have : i = 0 ∨ i = 1 ∨ i = 2 := by simp [zeros] at hi; omega
      rcases this with rfl | rfl | rfl
      · exact ⟨Leaf.string, mk_str _ _ rfl⟩
      · exact ⟨Leaf.int, mk_int _ _⟩
      · exact ⟨Leaf.slice, .k _⟩⟩
  | .pair s t => by
    obtain ⟨h1, h2⟩ := zeros_ok hp s
    obtain ⟨h3, h4⟩ := zeros_ok hp t
    refine ⟨by simp [zeros, zeroCells, h1, h3], fun i hi => ?_⟩
    simp only [zeros, zeroCells]
    by_cases h : i < (zeros s).length
    · have e1 : (zeroCells s ++ zeroCells t).getD i undef = (zeroCells s).getD i undef := by
        simp only [List.getD]; rw [List.getElem?_append_left (by omega)]
      rw [e1, List.getElem_append_left h]
      exact h2 i h
    · have hlt : i - (zeros s).length < (zeros t).length := by simp [zeros] at hi; omega
      have e1 : (zeroCells s ++ zeroCells t).getD i undef = (zeroCells t).getD (i - (zeros s).length) undef := by
        simp only [List.getD]; rw [List.getElem?_append_right (by omega), ← h1]
      rw [e1, List.getElem_append_right (by omega)]
      exact h4 _ hlt
theorem zeroCells_length : ∀ (t : Ty), (zeroCells t).length = t.size
  | .int _ => rfl | .bool => rfl | .str => rfl | .unit => rfl | .tree => rfl | .ent _ _ => rfl
  | .sl t => by unfold zeroCells; cases t.isEnt <;> rfl
  | .pair a b => by simp [zeroCells, Ty.size, zeroCells_length a, zeroCells_length b]

theorem op_alloc {A : Ann} (W : WF P A) (G : RelG B D η O σ a w) (hn : Post B σ a o.dst next K r) (hd : ∀ d, o.dst = some d → d < B.N) (T κ : Nat) (ho : o.op = .alloc T) {t : Ty} (ht : fnd A.ty T = some t) (hκ : fresh σ.h κ = true)
    (h : K (.ptr κ 0) [(κ, some (.box (zeros t)))] = some r) : o.wp P a w next Q := by
  obtain ⟨i, d, F⟩ := W.facts ht
  obtain ⟨z, hz, hze, _⟩ := F.zero
  have hze := vEqs_eq hze
  obtain ⟨h1, h2⟩ := zeros_ok (w := w) (D := D) (η := η) σ.h t
  have hsz : z.cells.size = (zeros t).length := by rw [h1, ← hze]; simp
  have hR := G.newBox hκ hd (l := zeros t) z.cells T hsz (fun j hj => by
    have e : z.cells.getD j undef = (zeroCells t).getD j undef := by
      rw [← hze]; simp [Array.getD, List.getD]; split <;> simp_all
    rw [e]; exact h2 j hj)
  refine wp_value hn h hR ?_
  simp only [execOp, ho, Instr.alloc, zeroValue, typeInfo, newVar, newRow, newObj, Sem.run_bind, run_program, Result.andThen_ok, F.info, Sem.run_pure, hz] <;> rfl
/-- What a type of functions tells. -/
theorem WF.ftRun {A : Ann} (W : WF P A) {T : Nat} (h : mvT A.ft T = true) : ∃ i z ps rs b, P.info? T = some i ∧ P.underlying T = some (.func ps rs b) ∧ i.size = 1 ∧ i.zero = some z ∧ Leaf z := by
  have h1 := W.ft h
  unfold ftOk at h1
  split at h1
  case h_2 => cases h1
  rename_i i ps rs b hi hu
  simp only [Bool.and_eq_true] at h1
  split at h1
  · rename_i z hz; exact ⟨i, z, ps, rs, b, hi, hu, Nat.eq_of_beq_eq_true h1.1, hz, leafB_leaf h1.2⟩
  · simp at h1
theorem op_alloc_fn {A : Ann} (W : WF P A) (G : RelG B D η O σ a w) (hn : Post B σ a o.dst next K r) (hd : ∀ d, o.dst = some d → d < B.N) (T κ : Nat) (ho : o.op = .alloc T) (hT : mvT A.ft T = true) (hκ : fresh σ.h κ = true)
    (h : K (.ptr κ 0) [(κ, some (.box [.un]))] = some r) : o.wp P a w next Q := by
  obtain ⟨i, z, ps, rs, b, hi, hu, hs, hz, hl⟩ := W.ftRun hT
  have hc : z.cells = #[z] := hl.cells
  have hR := G.newBox hκ hd (l := [.un]) z.cells T (by rw [hc]; rfl) (fun j hj => by
    obtain rfl : j = 0 := by simpa using hj
    rw [hc]; exact ⟨hl, .un _⟩)
  refine wp_value hn h hR ?_
  simp only [execOp, ho, Instr.alloc, zeroValue, typeInfo, newVar, newRow, newObj, Sem.run_bind, run_program, Result.andThen_ok, hi, Sem.run_pure, hz] <;> rfl
theorem load_fn {A : Ann} (W : WF P A) {T : Nat} (hT : mvT A.ft T = true) {b : Nat} {x : Value} (hc : w.cell? ⟨b, 0, none⟩ = some x) : (loadVar T ⟨b, 0, none⟩).run P w = .ok x w := by
  obtain ⟨i, z, ps, rs, b', hi, hu, hs, hz, hl⟩ := W.ftRun hT
  have ha : (isAgg T).run P w = .ok false w := by
    simp only [Go.isAgg, Sem.run_bind, run_underlying hu, Result.andThen_ok]; rfl
  simp [loadVar, ha, hc]
theorem op_load_fn {A : Ann} (W : WF P A) (G : RelG B D η O σ a w) (hn : Post B σ a o.dst next K r) (hd : ∀ d, o.dst = some d → d < B.N) (T : Nat) (x : Operand) (ho : o.op = .load T x) (hT : mvT A.ft T = true)
    {q : Nat} (hx : σ.eval x = .ptr q 0) {v : V} (hq : look σ.h q = some (.box [v])) (h : K v [] = some r) : o.wp P a w next Q := by
  have hv := G.eval x
  rw [hx] at hv
  obtain ⟨b, cs, T', h1, h2, h3, h4, h5⟩ := G.box hv hq
  obtain ⟨g1, g2⟩ := h5 0 (by simp)
  have hc := cell_row h3 (o := 0) (by rw [h4]; simp)
  refine wp_pure hn G hd h g2 ?_
  simp only [execOp, ho, Instr.loadAt, Instr.sureAddr, h1, Sem.run_bind, Sem.run_pure, Result.andThen_ok, load_fn W hT hc]
theorem op_load_fneb {A : Ann} (W : WF P A) (G : RelG B D η O σ a w) (hn : Post B σ a o.dst next K r) (hd : ∀ d, o.dst = some d → d < B.N) (T : Nat) (x : Operand) (ho : o.op = .load T x) (hT : mvT A.ft T = true)
    {v : V} (hx : σ.eval x = .eb [v] 0) (h : K v [] = some r) : o.wp P a w next Q := by
  have hv := G.eval x
  rw [hx] at hv
  generalize hz : a.eval x = z at hv
  cases hv with
  | eb _ _ b f hb hl hr =>
    refine wp_pure hn G hd h (hr 0 (by simp)) ?_
    simp only [execOp, ho, Instr.loadAt, Instr.sureAddr, hz, Sem.run_bind, Sem.run_pure, Result.andThen_ok, load_fn W hT (hl 0 (by simp)).2]
theorem op_box (G : RelG B D η O σ a w) (hn : Post B σ a o.dst next K r) (hd : ∀ d, o.dst = some d → d < B.N) (T κ : Nat) (x : Operand) (ho : o.op = .box T x) (hκ : fresh σ.h κ = true) (h0 : 0 < (σ.eval x).cells.length)
    (h : K (.ptr κ 0) [(κ, some (.box (σ.eval x).cells))] = some r) : o.wp P a w next Q := by
  obtain ⟨h1, h2⟩ := (G.eval x).cells h0
  have hR := G.newBox hκ hd (l := (σ.eval x).cells) (a.eval x).cells T h1 h2
  refine wp_value hn h hR ?_
  simp only [execOp, ho, Instr.box, newVar, newRow, newObj, Sem.run_bind, Result.andThen_ok, Sem.run_pure] <;> rfl
theorem splice_get {α : Type} (l X : List α) (c : Nat) (hle : c + X.length ≤ l.length) (j : Nat) :
    (l.take c ++ X ++ l.drop (c + X.length))[j]? = if j < c then l[j]? else if j < c + X.length then X[j - c]? else l[j]? := by
  have hc : min c l.length = c := by omega
  rw [List.append_assoc, List.getElem?_append]
  simp only [List.length_take, hc]
  split
  · rw [List.getElem?_take]; simp [*]
  · rw [List.getElem?_append]
    split
    · rw [if_pos (by omega)]
    · rw [if_neg (by omega), List.getElem?_drop]; congr 1; omega
theorem getD_of {c : Array Value} {l : List Value} (e : c = l.toArray) (j : Nat) : c.getD j undef = (l[j]?).getD undef := by
  subst e; simp [Array.getD]; split <;> simp_all
theorem op_store_ptr {A : Ann} (W : WF P A) (G : RelG B D η O σ a w) (hn : Post B σ a o.dst next K r) (hd : ∀ d, o.dst = some d → d < B.N) (T : Nat) (ad x : Operand) (ho : o.op = .store T ad x) {t : Ty} (ht : fnd A.ty T = some t)
    {q c : Nat} (hx : σ.eval ad = .ptr q c) {l : List V} (hq : look σ.h q = some (.box l)) (hs : (σ.eval x).cells.length = t.size) (h0 : 0 < t.size) (hle : c + t.size ≤ l.length)
    (h : K .un [(q, some (.box (setAtL l c (σ.eval x).cells)))] = some r) : o.wp P a w next Q := by
  obtain ⟨i, d, F⟩ := W.facts ht
  have hv := G.eval ad
  rw [hx] at hv
  obtain ⟨b, cs, T', h1, h2, h3, h4, h5⟩ := G.box hv hq
  obtain ⟨h6, h7⟩ := (G.eval x).cells (by omega)
  have hlen : (a.eval x).cells.toList.length = t.size := by rw [Array.length_toList, h6, hs]
  have hone : ∀ v ∈ (a.eval x).cells.toList, v.oneCell' = true := by
    intro v hv
    obtain ⟨j, hj, rfl⟩ := List.getElem_of_mem hv
    have := (h7 j (by rw [← h6]; simpa using hj)).1
    have e : (a.eval x).cells.getD j undef = (a.eval x).cells.toList[j] := by simp at hj; simp [Array.getD, hj]
    rw [e] at this; exact this.one
  have hst := run_storeCells_at P b c T' (a.eval x).cells.toList 0 cs w h3 (by rw [hlen, h4]; omega) hone
  simp only [Nat.add_zero] at hst
  let c' : Array Value := (cs.toList.take c ++ (a.eval x).cells.toList ++ cs.toList.drop (c + (a.eval x).cells.toList.length)).toArray
  have hsl : setAtL l c (σ.eval x).cells = l.take c ++ (σ.eval x).cells ++ l.drop (c + t.size) := by
    rw [setAtL_eq l c _ (by omega), hs]
  have hc' : c'.size = (setAtL l c (σ.eval x).cells).length := by
    rw [hsl]; simp [c', hlen, hs, h4, h6]
  have hR := G.setBox (l' := setAtL l c (σ.eval x).cells) hq h2 h3 c' hc' (fun j hj => by
    have hjl : j < l.length := by rw [hsl] at hj; simp [hs] at hj; omega
    have e1 : c'.getD j undef = if j < c then cs.getD j undef else if j < c + t.size then (a.eval x).cells.getD (j - c) undef else cs.getD j undef := by
      rw [getD_of (l := cs.toList.take c ++ (a.eval x).cells.toList ++ cs.toList.drop (c + (a.eval x).cells.toList.length)) rfl, splice_get _ _ _ (by rw [hlen]; simp [h4]; omega), hlen]
      have g : ∀ (z : Array Value) (k : Nat), z.getD k undef = (z.toList[k]?).getD undef := fun z k => getD_of (by simp) k
      split
      · rw [g]
      · split <;> rw [g]
    have e2 : some ((setAtL l c (σ.eval x).cells)[j]) = if j < c then l[j]? else if j < c + t.size then (σ.eval x).cells[j - c]? else l[j]? := by
      rw [← List.getElem?_eq_getElem, setAtL_eq l c _ (by omega), splice_get _ _ _ (by omega), hs]
    rw [e1]
    by_cases g1 : j < c
    · rw [if_pos g1] at e2 ⊢
      rw [List.getElem?_eq_getElem hjl] at e2
      rw [Option.some.inj e2]; exact h5 j hjl
    · rw [if_neg g1] at e2 ⊢
      by_cases g2 : j < c + t.size
      · rw [if_pos g2] at e2 ⊢
        rw [List.getElem?_eq_getElem (by omega)] at e2
        rw [Option.some.inj e2]; exact h7 (j - c) (by omega)
      · rw [if_neg g2] at e2 ⊢
        rw [List.getElem?_eq_getElem hjl] at e2
        rw [Option.some.inj e2]; exact h5 j hjl) hd (v := .un) (x := undef) (.un _)
  refine wp_skip' hn h hR ?_
  simp only [execOp, ho, Instr.storeAt, Instr.sureAddr, h1, Sem.run_bind, Sem.run_pure, Result.andThen_ok, storeVar, F.sizeOf]
  rw [if_neg (by rw [h6, hs]; simp), hst]
  rfl
theorem op_store_fn {A : Ann} (W : WF P A) (G : RelG B D η O σ a w) (hn : Post B σ a o.dst next K r) (hd : ∀ d, o.dst = some d → d < B.N) (T : Nat) (ad x : Operand) (ho : o.op = .store T ad x) (hT : mvT A.ft T = true)
    {q : Nat} (hx : σ.eval ad = .ptr q 0) {v0 : V} (hq : look σ.h q = some (.box [v0])) {f : Nat} {caps : List V} (hf : σ.eval x = .fn f caps)
    (h : K .un [(q, some (.box [.fn f caps]))] = some r) : o.wp P a w next Q := by
  obtain ⟨i, z, ps, rs, b', hi, hu, hs, hz, hl⟩ := W.ftRun hT
  have hv := G.eval ad
  rw [hx] at hv
  obtain ⟨b, cs, T', h1, h2, h3, h4, h5⟩ := G.box hv hq
  have hvx := G.eval x
  rw [hf] at hvx
  have hlf : Leaf (a.eval x) := by
    generalize a.eval x = y at hvx
    cases hvx; exact Leaf.func
  have hc : (a.eval x).cells = #[a.eval x] := hlf.cells
  have hcs : cs.size = 1 := h4
  have hst := run_storeCells_at P b 0 T' (a.eval x).cells.toList 0 cs w h3 (by rw [hc]; simp [hcs]) (fun v hv => by
    rw [hc] at hv
    have e : v = a.eval x := by simpa using hv
    rw [e]; exact hlf.one)
  simp only [Nat.add_zero] at hst
  have hR := G.setBox (l' := [.fn f caps]) hq h2 h3 (cs.toList.take 0 ++ (a.eval x).cells.toList ++ cs.toList.drop (0 + (a.eval x).cells.toList.length)).toArray (by rw [hc]; simp [hcs]) (fun j hj => by
    obtain rfl : j = 0 := by simpa using hj
    rw [hc]
    have e : ((cs.toList.take 0 ++ [a.eval x] ++ cs.toList.drop (0 + [a.eval x].length)).toArray).getD 0 undef = a.eval x := by simp [Array.getD]
    exact ⟨by first | (rw [e]; exact hlf) | (simpa using hlf), by first | (rw [e]; exact hvx) | (simpa using hvx)⟩) hd (v := .un) (x := undef) (.un _)
  refine wp_skip' hn h hR ?_
  have hsz : (sizeOf T).run P w = .ok 1 w := by
    simp only [Go.sizeOf, typeInfo, Sem.run_bind, run_program, Result.andThen_ok, hi, Sem.run_pure, hs]
  simp only [execOp, ho, Instr.storeAt, Instr.sureAddr, h1, Sem.run_bind, Sem.run_pure, Result.andThen_ok, storeVar, hsz]
  rw [if_neg (by rw [hc]; simp), hst]
  rfl
end
end Go.Proofs.YtpoppblfnaipbaaDoor.Eng
/-! ## The engine: what only reads. -/
namespace Go.Proofs.YtpoppblfnaipbaaDoor.Eng
open Go
set_option autoImplicit false
set_option linter.unusedVariables false
set_option linter.unusedSimpArgs false

theorem Rz.tree {w : World} {D : Bs} {x : Tr} {vs : List Value} : RzT w D x vs ↔ Rz w D (.pair .str (.pair (.int .i64) .kids)) (x.s, x.r, x.k) vs := by
  constructor
  · intro h
    cases h with
    | mk s r kids a cap f hcap hrow hk =>
      refine ⟨[.string s], [.int .i64 r, .slice a kids.length cap], rfl, ⟨s, rfl, rfl⟩, [.int .i64 r], [.slice a kids.length cap], rfl, rfl, .inl ⟨rfl, a, cap, rfl, hcap, fun h0 => ?_⟩⟩
      obtain ⟨b, off, rfl, hb, hc⟩ := hrow h0
      refine ⟨b, off, rfl, hb, fun i hi => ⟨f i, (hc i hi).1, ?_, (hc i hi).2⟩⟩
      have := hk i hi
      have e : rd (t := .tree) kids i = kids[i] := by simp [rd, List.getD, hi]
      show RzT w D (rd (t := .tree) kids i) (f i)
      rw [e]; exact this
  · rintro ⟨u, v, rfl, ⟨s, hs, rfl⟩, u2, v2, rfl, h2, h3⟩
    obtain ⟨a, cap, h3, hcap, hrow⟩ := (Rz.sl rfl).1 h3
    obtain rfl : u2 = _ := h2
    obtain rfl : v2 = _ := h3
    obtain ⟨xs, xr, xk⟩ := x
    simp only at hs hcap hrow ⊢
    subst hs
    by_cases h0 : 0 < xk.length
    · obtain ⟨b, off, rfl, hb, hall⟩ := hrow h0
      have key : ∀ i, ∃ us : List Value, (i < xk.length → us.length = 3 ∧ RzT w D (rd (t := .tree) xk i) us ∧ ∀ j, j < 3 → w.cell? ⟨b, off + i * 3 + j, none⟩ = us[j]?) := by
        intro i
        by_cases hi : i < xk.length
        · obtain ⟨us, h1, h2, h3⟩ := hall i hi; exact ⟨us, fun _ => ⟨h1, h2, h3⟩⟩
        · exact ⟨[], fun h => absurd h hi⟩
      obtain ⟨f, hf⟩ : ∃ f : Nat → List Value, ∀ i, i < xk.length → (f i).length = 3 ∧ RzT w D (rd (t := .tree) xk i) (f i) ∧ ∀ j, j < 3 → w.cell? ⟨b, off + i * 3 + j, none⟩ = (f i)[j]? :=
        ⟨fun i => Classical.choose (key i), fun i => Classical.choose_spec (key i)⟩
      exact .mk s xr xk _ cap f hcap (fun _ => ⟨b, off, rfl, hb, fun i hi => ⟨(hf i hi).1, (hf i hi).2.2⟩⟩)
        (fun i hi => by
          have := (hf i hi).2.1
          have e : rd (t := .tree) xk i = xk[i] := by simp [rd, List.getD, hi]
          rw [e] at this; exact this)
    · have : xk = [] := List.eq_nil_of_length_eq_zero (by omega)
      subst this
      exact .mk s xr [] a cap (fun _ => []) hcap (fun h => absurd h (by simp)) (fun i hi => absurd hi (by simp))

/-- A part of a datum stands within it. -/
theorem part_Rz {w : World} {D : Bs} : ∀ (p : List Bool) (t : Ty) (x : t.den) (us : List Value) (c : C), Rz w D t x us → part t x p = some c →
    Rz w D c.t c.x ((us.drop (offs t p)).take c.t.size) ∧ offs t p + c.t.size ≤ us.length
  | [], t, x, us, c, h, hp => by
    have : part t x [] = some ⟨t, x⟩ := by cases t <;> rfl
    rw [this] at hp; cases hp
    have hl := (Rz.shape _ _ _ h).1
    have e : offs t [] = 0 := by cases t <;> rfl
    rw [e]; simp only [List.drop_zero, Nat.zero_add, ← hl, List.take_length]
    exact ⟨h, Nat.le_refl _⟩
  | false :: p, .pair s t, x, us, c, ⟨u, v, e, h1, h2⟩, hp => by
    simp only [part] at hp
    obtain ⟨h3, h4⟩ := part_Rz p s x.1 u c h1 hp
    subst e
    simp only [offs]
    rw [List.drop_append_of_le_length (by omega), List.take_append_of_le_length (by simp; omega)]
    exact ⟨h3, by simp; omega⟩
  | true :: p, .pair s t, x, us, c, ⟨u, v, e, h1, h2⟩, hp => by
    simp only [part] at hp
    obtain ⟨h3, h4⟩ := part_Rz p t x.2 v c h2 hp
    have hl := (Rz.shape _ _ _ h1).1
    subst e
    simp only [offs]
    have e2 : (u ++ v).drop (s.size + offs t p) = v.drop (offs t p) := by
      rw [← hl, ← List.drop_drop, List.drop_left]
    rw [e2]
    exact ⟨h3, by simp [hl]; omega⟩
  | [false], .tree, x, us, c, h, hp => by
    simp only [part] at hp; cases hp
    obtain ⟨u, v, rfl, ⟨s, hs, rfl⟩, _⟩ := Rz.tree.1 h
    exact ⟨⟨s, hs, rfl⟩, by simp [offs, Ty.size]⟩
  | [true, false], .tree, x, us, c, h, hp => by
    simp only [part] at hp; cases hp
    obtain ⟨u, v, rfl, ⟨s, hs, rfl⟩, u2, v2, rfl, h2, h3⟩ := Rz.tree.1 h
    obtain rfl : u2 = _ := h2
    exact ⟨rfl, by simp [offs, Ty.size]⟩
  | [true, true], .tree, x, us, c, h, hp => by
    simp only [part] at hp; cases hp
    obtain ⟨u, v, rfl, ⟨s, hs, rfl⟩, u2, v2, rfl, h2, h3⟩ := Rz.tree.1 h
    obtain rfl : u2 = _ := h2
    have hl := (Rz.shape .kids _ _ h3).1
    obtain ⟨z, rfl⟩ : ∃ z, v2 = [z] := by match v2, hl with | [z], _ => exact ⟨z, rfl⟩
    exact ⟨h3, by simp [offs, Ty.size]⟩
  | _ :: _, .int _, _, _, _, _, hp => by simp [part] at hp
  | _ :: _, .bool, _, _, _, _, hp => by simp [part] at hp
  | _ :: _, .str, _, _, _, _, hp => by simp [part] at hp
  | _ :: _, .unit, _, _, _, _, hp => by simp [part] at hp
  | _ :: _, .sl _, _, _, _, _, hp => by simp [part] at hp
  | _ :: _, .ent _ _, _, _, _, _, hp => by simp [part] at hp
  | false :: _ :: _, .tree, _, _, _, _, hp => by simp [part] at hp
  | [true], .tree, _, _, _, _, hp => by simp [part] at hp
  | true :: false :: _ :: _, .tree, _, _, _, _, hp => by simp [part] at hp
  | true :: true :: _ :: _, .tree, _, _, _, _, hp => by simp [part] at hp

/-- A datum's cells, one by one. -/
theorem leaves_ok {w : World} {D : Bs} {η : Nat → Gh} {h : Heap} : ∀ (t : Ty) (x : t.den) (us : List Value), Rz w D t x us →
    (leaves t x).length = us.length ∧ ∀ i (hi : i < (leaves t x).length), Vr w D η h (leaves t x)[i] (us.getD i undef)
  | .int k, x, us, h => by
    subst h
    exact ⟨rfl, fun i hi => by
      obtain rfl : i = 0 := by simpa [leaves] using hi
      exact mk_int _ _⟩
  | .bool, x, us, h => by
    subst h
    exact ⟨rfl, fun i hi => by
      obtain rfl : i = 0 := by simpa [leaves] using hi
      exact mk_bool _⟩
  | .str, x, us, ⟨s, hs, h⟩ => by
    subst h
    exact ⟨rfl, fun i hi => by
      obtain rfl : i = 0 := by simpa [leaves] using hi
      exact mk_str _ _ hs⟩
  | .unit, x, us, h => by subst h; exact ⟨rfl, fun i hi => by simp [leaves] at hi⟩
  | .ent _ _, x, us, h => h.elim
  | .sl t, x, us, h => by
    have hl := (Rz.shape _ _ _ h).1
    obtain ⟨z, rfl⟩ : ∃ z, us = [z] := by match us, hl with | [z], _ => exact ⟨z, rfl⟩
    exact ⟨rfl, fun i hi => by
      obtain rfl : i = 0 := by simpa [leaves] using hi
      exact .d _ _ _ rfl h⟩
  | .tree, x, us, h => by
    obtain ⟨u, v, rfl, ⟨s, hs, rfl⟩, u2, v2, rfl, h2, h3⟩ := Rz.tree.1 h
    obtain rfl : u2 = _ := h2
    have hl := (Rz.shape .kids _ _ h3).1
    obtain ⟨z, rfl⟩ : ∃ z, v2 = [z] := by match v2, hl with | [z], _ => exact ⟨z, rfl⟩
    refine ⟨rfl, fun i hi => ?_⟩
    have : i = 0 ∨ i = 1 ∨ i = 2 := by simp [leaves] at hi; omega
    rcases this with rfl | rfl | rfl
    · exact mk_str _ _ hs
    · exact mk_int _ _
    · exact .d .kids _ _ rfl h3
  | .pair s t, x, us, ⟨u, v, e, h1, h2⟩ => by
    obtain ⟨l1, g1⟩ := leaves_ok s x.1 u h1 (η := η) (h := h)
    obtain ⟨l2, g2⟩ := leaves_ok t x.2 v h2 (η := η) (h := h)
    subst e
    refine ⟨by simp [leaves, l1, l2], fun i hi => ?_⟩
    simp only [leaves]
    by_cases hc : i < (leaves s x.1).length
    · have e1 : (u ++ v).getD i undef = u.getD i undef := by
        simp only [List.getD]; rw [List.getElem?_append_left (by omega)]
      rw [e1, List.getElem_append_left hc]; exact g1 i hc
    · have hlt : i - (leaves s x.1).length < (leaves t x.2).length := by simp [leaves] at hi; omega
      have e1 : (u ++ v).getD i undef = v.getD (i - (leaves s x.1).length) undef := by
        simp only [List.getD]; rw [List.getElem?_append_right (by omega), ← l1]
      rw [e1, List.getElem_append_right (by omega)]; exact g2 _ hlt
/-- A datum as a value. -/
theorem val_ok {w : World} {D : Bs} {η : Nat → Gh} {h : Heap} (t : Ty) (x : t.den) (us : List Value) (H : Rz w D t x us) : Vr w D η h (val t x) (match t.agg with | true => .agg us.toArray | false => us.getD 0 undef) := by
  unfold val
  cases ha : t.agg with
  | true =>
    obtain ⟨l1, g1⟩ := leaves_ok t x us H (η := η) (h := h)
    have hs := (Rz.shape _ _ _ H).2
    refine .agg _ _ (by simp [l1]) (fun i hi => ?_) (fun i hi => ?_)
    · have hi' : i < us.length := by omega
      have e : us.toArray.getD i undef = us[i] := by simp [Array.getD, hi']
      rw [e]; exact hs _ (by simp)
    · have hi' : i < us.length := by omega
      have e : us.toArray.getD i undef = us.getD i undef := by simp [Array.getD, List.getD, hi']
      rw [e]; exact g1 i hi
  | false =>
    have h1 : t.size = 1 := by cases t <;> first | rfl | (simp [Ty.agg] at ha; done)
    have hl := (Rz.shape _ _ _ H).1
    obtain ⟨z, rfl⟩ : ∃ z, us = [z] := by match us, hl.trans h1 with | [z], _ => exact ⟨z, rfl⟩
    exact .d t x _ ha H
end Go.Proofs.YtpoppblfnaipbaaDoor.Eng
/-! ## The engine: operations that only read. -/
namespace Go.Proofs.YtpoppblfnaipbaaDoor.Eng
open Go
set_option autoImplicit false
set_option linter.unusedVariables false
set_option linter.unusedSimpArgs false

section
variable {P : Program} {B : Base} {D : Bs} {η : Nat → Gh} {O : Nat → Bs} {σ : St} {a : Act} {w : World} {o : Oper} {next : Act → World → Prop} {Q : Exit → Act → World → Prop} {R : Type} {r : R} {K : V → Heap → Option R}

theorem WF.str {A : Ann} (W : WF P A) {T : Nat} (h : isTy A T .str = true) : P.underlying T = some .string := by
  obtain ⟨i, d, F⟩ := W.facts (isTy_fnd h)
  have h1 := F.desc
  cases d <;> simp [descOk] at h1
  exact F.und

/-- Fields: where they stand. -/
theorem fields_at {A : Ann} : ∀ (fs : List Field) (off : Nat) (t : Ty) (f : Nat) (g : Field), fieldsOk A fs off t = true → fs[f]? = some g →
    off + offs t (fpath fs.length f) = g.offset
  | [], off, t, f, g, h, hg => by simp at hg
  | [x], off, t, f, g, h, hg => by
    simp only [fieldsOk, Bool.and_eq_true] at h
    have : f = 0 := by
      rcases f with _ | f
      · rfl
      · simp at hg
    subst this
    simp at hg; subst hg
    have e : offs t (fpath [x].length 0) = 0 := by cases t <;> rfl
    rw [e, Nat.eq_of_beq_eq_true h.1]; rfl
  | x :: y :: fs, off, .pair s t, f, g, h, hg => by
    simp only [fieldsOk, Bool.and_eq_true] at h
    rcases f with _ | f
    · simp at hg; subst hg
      have e : offs (.pair s t) (fpath (x :: y :: fs).length 0) = 0 := by
        show offs (.pair s t) [false] = 0
        cases s <;> rfl
      rw [e, Nat.eq_of_beq_eq_true h.1.1]; rfl
    · have ih := fields_at (y :: fs) (off + s.size) t f g h.2 (by simpa using hg)
      have e : offs (.pair s t) (fpath (x :: y :: fs).length (f + 1)) = s.size + offs t (fpath (y :: fs).length f) := rfl
      rw [e, ← ih]; omega
  | _ :: _ :: _, _, .int _, _, _, h, _ => by simp [fieldsOk] at h
  | _ :: _ :: _, _, .bool, _, _, h, _ => by simp [fieldsOk] at h
  | _ :: _ :: _, _, .str, _, _, h, _ => by simp [fieldsOk] at h
  | _ :: _ :: _, _, .unit, _, _, h, _ => by simp [fieldsOk] at h
  | _ :: _ :: _, _, .sl _, _, _, h, _ => by simp [fieldsOk] at h
  | _ :: _ :: _, _, .tree, _, _, h, _ => by simp [fieldsOk] at h
  | _ :: _ :: _, _, .ent _ _, _, _, h, _ => by simp [fieldsOk] at h

/-- What fieldAt tells. -/
structure FieldF (P : Program) (T f c : Nat) (p : List Bool) : Prop where
  ex : ∃ fs g i, P.underlying T = some (.struct fs) ∧ fs[f]? = some g ∧ P.info? g.type = some i ∧ i.size ≠ 0 ∧ c = g.offset ∧ p = fpath fs.size f
theorem fieldAt_f {T f c : Nat} {p : List Bool} (h : fieldAt P T f = some (c, p)) : FieldF P T f c p := by
  unfold fieldAt at h
  split at h
  case h_2 => cases h
  rename_i fs hu
  split at h
  case h_2 => cases h
  rename_i g hg
  split at h
  case h_2 => cases h
  rename_i i hi
  split at h
  · cases h
  · rename_i n hn
    cases h
    exact ⟨fs, g, i, hu, hg, hi, by omega, rfl, rfl⟩
theorem FieldF.run {T f c : Nat} {p : List Bool} (H : FieldF P T f c p) (b off : Nat) : (Instr.fieldAt T (.pointer (some ⟨b, off, none⟩)) f).run P w = .ok (.pointer (some ⟨b, off + c, none⟩)) w := by
  obtain ⟨fs, g, i, hu, hg, hi, h0, rfl, _⟩ := H.ex
  simp only [Instr.fieldAt, Sem.run_bind, run_underlying hu, Result.andThen_ok, hg, Instr.sureAddr, Sem.run_pure, fieldPlace, sizeOf, typeInfo, run_program, hi, if_neg h0, add_none]
theorem FieldF.offs {A : Ann} (W : WF P A) {T f c : Nat} {p : List Bool} (H : FieldF P T f c p) {t : Ty} (ht : isTy A T t = true) : offs t p = c := by
  obtain ⟨fs, g, i, hu, hg, hi, h0, rfl, rfl⟩ := H.ex
  obtain ⟨_, d, F⟩ := W.facts (isTy_fnd ht)
  have h1 := F.desc
  have h2 := F.und
  rw [hu] at h2
  cases h2
  have hg' : fs.toList[f]? = some g := by simpa using hg
  cases t <;> simp [descOk] at h1
  · subst h1; simp at hg
  · have := fields_at fs.toList 0 _ f g h1 hg'
    simpa using this
  · have h3 := fields_at fs.toList 0 _ f g h1.2 hg'
    have h4 : fs.size = 3 := h1.1
    have h5 : fs.toList.length = 3 := by simpa using h4
    rw [h5] at h3
    rw [h4]
    have hf : f < 3 := by rw [← h4]; exact (Array.getElem?_eq_some_iff.1 hg).1
    rcases f with _ | _ | _ | f
    · exact (Nat.zero_add _).symm.trans h3
    · exact (Nat.zero_add _).symm.trans h3
    · exact (Nat.zero_add _).symm.trans h3
    · omega

theorem vr_el {hp : Heap} {t : Ty} {x : t.den} {v : Value} (H : Vr w D η hp (.el t x) v) : ∃ b off us, v = .pointer (some ⟨b, off, none⟩) ∧ D b ∧ Rz w D t x us ∧ ∀ j, j < t.size → w.cell? ⟨b, off + j, none⟩ = us[j]? := by
  cases H with
  | el t x b off us hb hr hc => exact ⟨b, off, us, rfl, hb, hr, hc⟩

theorem op_fieldAddr_ptr (G : RelG B D η O σ a w) (hn : Post B σ a o.dst next K r) (hd : ∀ d, o.dst = some d → d < B.N) (T f : Nat) (x : Operand) (ho : o.op = .fieldAddr T x f) {c : Nat} {p : List Bool} (hf : fieldAt P T f = some (c, p))
    {q e : Nat} (hx : σ.eval x = .ptr q e) (hl : ∃ l, look σ.h q = some (.box l)) (h : K (.ptr q (e + c)) [] = some r) : o.wp P a w next Q := by
  obtain ⟨l, hq⟩ := hl
  have hv := G.eval x
  rw [hx] at hv
  obtain ⟨b, cs, T', h1, h2, h3, h4, h5⟩ := G.box hv hq
  refine wp_pure hn G hd h (x := .pointer (some ⟨b, e + c, none⟩)) (.ptr q _ _ Leaf.pointer (look_some_isSome hq) (fun l' b' hl' hb' => by rw [h2] at hb'; cases hb'; rfl)) ?_
  simp only [execOp, ho, h1, Sem.run_bind, (fieldAt_f hf).run, Result.andThen_ok, Sem.run_pure]
theorem op_fieldAddr_eb (G : RelG B D η O σ a w) (hn : Post B σ a o.dst next K r) (hd : ∀ d, o.dst = some d → d < B.N) (T f : Nat) (x : Operand) (ho : o.op = .fieldAddr T x f) {c : Nat} {p : List Bool} (hf : fieldAt P T f = some (c, p))
    {l : List V} {e : Nat} (hx : σ.eval x = .eb l e) (h : K (.eb l (e + c)) [] = some r) : o.wp P a w next Q := by
  have hv := G.eval x
  rw [hx] at hv
  generalize hy : a.eval x = y at hv
  cases hv with
  | eb _ _ b f' hb hl hr =>
    refine wp_pure hn G hd h (.eb l (e + c) b f' hb hl hr) ?_
    simp only [execOp, ho, hy, Sem.run_bind, (fieldAt_f hf).run, Result.andThen_ok, Sem.run_pure]
theorem op_fieldAddr_el {A : Ann} (W : WF P A) (G : RelG B D η O σ a w) (hn : Post B σ a o.dst next K r) (hd : ∀ d, o.dst = some d → d < B.N) (T f : Nat) (x : Operand) (ho : o.op = .fieldAddr T x f) {c : Nat} {p : List Bool} (hf : fieldAt P T f = some (c, p))
    {t : Ty} {y : t.den} (hx : σ.eval x = .el t y) (ht : isTy A T t = true) {z : C} (hz : part t y p = some z) (h : K (.el z.t z.x) [] = some r) : o.wp P a w next Q := by
  have hv := G.eval x
  rw [hx] at hv
  obtain ⟨b, off, us, h1, hb, hr, hc⟩ := vr_el hv
  have hF := fieldAt_f hf
  have ho' := hF.offs W ht
  obtain ⟨h2, h3⟩ := part_Rz p t y us z hr hz
  have hl := (Rz.shape _ _ _ hr).1
  refine wp_pure hn G hd h (.el z.t z.x b (off + c) _ hb h2 (fun j hj => ?_)) ?_
  · rw [← ho', Nat.add_assoc, hc _ (by omega), List.getElem?_take, if_pos hj, List.getElem?_drop]
  · simp only [execOp, ho, h1, Sem.run_bind, hF.run, Result.andThen_ok, Sem.run_pure]

theorem op_load_el {A : Ann} (W : WF P A) (G : RelG B D η O σ a w) (hn : Post B σ a o.dst next K r) (hd : ∀ d, o.dst = some d → d < B.N) (T : Nat) (x : Operand) (ho : o.op = .load T x) {t s : Ty} (ht : fnd A.ty T = some t)
    {y : s.den} (hx : σ.eval x = .el s y) (hs : s.beq t = true) (h : K (val s y) [] = some r) : o.wp P a w next Q := by
  obtain rfl := Ty.eq_of_beq hs
  obtain ⟨i, d, F⟩ := W.facts ht
  have hv := G.eval x
  rw [hx] at hv
  obtain ⟨b, off, us, h1, hb, hr, hc⟩ := vr_el hv
  have hl := (Rz.shape _ _ _ hr).1
  have e := load_run F (w := w) b off us hl (fun j v hj => by
    have : j < s.size := by rw [← hl]; exact (List.getElem?_eq_some_iff.1 hj).1
    rw [hc j this, hj])
  have e2 : (loadVar T ⟨b, off, none⟩).run P w = .ok (match s.agg with | true => .agg us.toArray | false => us.getD 0 undef) w := by
    rcases e with e | ⟨e, e'⟩
    · exact e
    · exact absurd (by cases s <;> first | rfl | (simp [Ty.agg] at e; done)) e'
  refine wp_pure hn G hd h (val_ok s y us hr) ?_
  simp only [execOp, ho, Instr.loadAt, Instr.sureAddr, h1, Sem.run_bind, Sem.run_pure, Result.andThen_ok, e2] <;> rfl
theorem op_load_eb {A : Ann} (W : WF P A) (G : RelG B D η O σ a w) (hn : Post B σ a o.dst next K r) (hd : ∀ d, o.dst = some d → d < B.N) (T : Nat) (x : Operand) (ho : o.op = .load T x) {t : Ty} (ht : fnd A.ty T = some t)
    {l : List V} {c : Nat} (hx : σ.eval x = .eb l c) (h : getC t l c K = some r) : o.wp P a w next Q := by
  obtain ⟨i, d, F⟩ := W.facts ht
  have hv := G.eval x
  rw [hx] at hv
  generalize hy : a.eval x = y at hv
  cases hv with
  | eb _ _ b f' hb hl hr =>
    obtain ⟨v, z, hK, hv', hrun⟩ := getC_run F (o := c) (b := b) f' (fun j hj => ⟨(hl j hj).2, (hl j hj).1, hr j hj⟩) h
    refine wp_pure hn G hd hK hv' ?_
    simp only [execOp, ho, Instr.loadAt, Instr.sureAddr, hy, Sem.run_bind, Sem.run_pure, Result.andThen_ok, hrun]

theorem op_nilCheck (G : RelG B D η O σ a w) (hn : Post B σ a o.dst next K r) (hd : ∀ d, o.dst = some d → d < B.N) (x : Operand) (ho : o.op = .nilCheck x)
    (hx : (∃ q c l, σ.eval x = .ptr q c ∧ look σ.h q = some (.box l)) ∨ (∃ t y, σ.eval x = .el t y) ∨ ∃ l c, σ.eval x = .eb l c) (h : K (σ.eval x) [] = some r) : o.wp P a w next Q := by
  have hv := G.eval x
  have : ∃ ad, a.eval x = .pointer (some ad) := by
    rcases hx with ⟨q, c, l, e, hl⟩ | ⟨t, y, e⟩ | ⟨l, c, e⟩
    · rw [e] at hv
      obtain ⟨b, cs, T', h1, _⟩ := G.box hv hl
      exact ⟨_, h1⟩
    · rw [e] at hv
      obtain ⟨b, off, us, h1, _⟩ := vr_el hv
      exact ⟨_, h1⟩
    · rw [e] at hv
      generalize hy : a.eval x = y at hv
      cases hv with
      | eb _ _ b f' hb hl hr => exact ⟨_, rfl⟩
  obtain ⟨ad, had⟩ := this
  refine wp_pure hn G hd h hv ?_
  simp only [execOp, ho, had, Sem.run_pure]

theorem op_unOp_not (G : RelG B D η O σ a w) (hn : Post B σ a o.dst next K r) (hd : ∀ d, o.dst = some d → d < B.N) (x : Operand) (T : Nat) (ho : o.op = .unOp .not T x) (b : Bool) (hb : (σ.eval x).asB = some b)
    (v : V) (hv : v = .d .bool (!b) ∨ v = .k (.bool (!b))) (h : K v [] = some r) : o.wp P a w next Q := by
  have h1 := (G.eval x).asB hb
  refine wp_pure hn G hd h (x := .bool (!b)) (by rcases hv with rfl | rfl; exact mk_bool _; exact .k _) ?_
  simp only [execOp, ho, h1, Op.unary, Sem.run_bind, Sem.run_pure, Result.andThen_ok]
theorem op_unOp_neg (G : RelG B D η O σ a w) (hn : Post B σ a o.dst next K r) (hd : ∀ d, o.dst = some d → d < B.N) (x : Operand) (T : Nat) (ho : o.op = .unOp .neg T x) (k : IntKind) (n : Int) (hb : σ.eval x = .d (.int k) n)
    (h : K (.d (.int k) (k.wrap (0 - n))) [] = some r) : o.wp P a w next Q := by
  have hv := G.eval x
  rw [hb] at hv
  have h1 := vr_int hv
  refine wp_pure hn G hd h (mk_int _ _) ?_
  simp only [execOp, ho, h1, Op.unary, Op.intArith, Sem.run_bind, Sem.run_pure, Result.andThen_ok]
theorem op_conv_int (G : RelG B D η O σ a w) (hn : Post B σ a o.dst next K r) (hd : ∀ d, o.dst = some d → d < B.N) (T U : Nat) (x : Operand) (ho : o.op = .convert T U x) {d : TypeDesc} (hT : P.underlying T = some d) {k l : IntKind} (hU : P.underlying U = some (.int k))
    (n : Int) (hb : σ.eval x = .d (.int l) n) (h : K (.d (.int k) (k.wrap n)) [] = some r) : o.wp P a w next Q := by
  have hv := G.eval x
  rw [hb] at hv
  have h1 := vr_int hv
  refine wp_pure hn G hd h (mk_int _ _) ?_
  simp only [execOp, ho, h1, convert, Conv.intToInt, run_underlying hT, run_underlying hU, Sem.run_bind, Sem.run_pure, Result.andThen_ok]
theorem op_conv_str (G : RelG B D η O σ a w) (hn : Post B σ a o.dst next K r) (hd : ∀ d, o.dst = some d → d < B.N) (T U : Nat) (x : Operand) (ho : o.op = .convert T U x) (hT : P.underlying T = some .string) (hU : P.underlying U = some .string)
    (s : List UInt8) (hb : σ.eval x = .d .str s) (h : K (.d .str s) [] = some r) : o.wp P a w next Q := by
  have hv := G.eval x
  rw [hb] at hv
  obtain ⟨b, hb', h1⟩ := vr_str hv
  refine wp_pure hn G hd h (mk_str b s hb') ?_
  simp only [execOp, ho, h1, convert, run_underlying hT, run_underlying hU, Sem.run_bind, Sem.run_pure, Result.andThen_ok]
theorem op_extract (G : RelG B D η O σ a w) (hn : Post B σ a o.dst next K r) (hd : ∀ d, o.dst = some d → d < B.N) (x : Operand) (i : Nat) (ho : o.op = .extract x i) {l : List V} (hb : σ.eval x = .tup l) {v : V} (hl : tk l i 1 = [v])
    (h : K v [] = some r) : o.wp P a w next Q := by
  have hv := G.eval x
  rw [hb] at hv
  rw [tk_eq] at hl
  have hi : i < l.length := by
    rcases Nat.lt_or_ge i l.length with h | h
    · exact h
    · rw [List.drop_eq_nil_of_le h] at hl; simp at hl
  have e : v = l[i] := by
    have : (l.drop i).take 1 = [l[i]] := by rw [List.drop_eq_getElem_cons hi]; rfl
    rw [this] at hl; cases hl; rfl
  generalize hy : a.eval x = y at hv
  cases hv with
  | tup _ cs hs hr =>
    have h2 := hr i hi
    rw [← e] at h2
    refine wp_pure hn G hd h h2 ?_
    have h3 : cs[i]? = some (cs.getD i undef) := by simp [Array.getD, hs, hi]
    simp only [execOp, ho, hy, Instr.extract, h3, Sem.run_bind, Sem.run_pure, Result.andThen_ok]
theorem op_makeFunc (G : RelG B D η O σ a w) (hn : Post B σ a o.dst next K r) (hd : ∀ d, o.dst = some d → d < B.N) (f : Nat) (fs cs : Array Operand) (ho : o.op = .makeFunc (.func f) fs cs) (hf : fs.toList = [])
    (h : K (.fn f (cs.toList.map σ.eval)) [] = some r) : o.wp P a w next Q := by
  have hf' : fs = #[] := by cases fs; simp_all
  refine wp_pure hn G hd h (.fn f _ (cs.map a.eval) (by simp) (fun i hi => ?_)) ?_
  · have hi' : i < cs.size := by simpa using hi
    have e : (cs.map a.eval).getD i undef = a.eval cs[i] := by simp [Array.getD, hi']
    rw [e, List.getElem_map]
    simpa using G.eval cs[i]
  · subst hf'
    simp only [execOp, ho, Instr.makeFunc, Sem.run_bind, Sem.run_pure, Result.andThen_ok]
    simp

/-- An index. -/
theorem idx_some {i : V} {n : Nat} {K' : Nat → Option R} (h : idx i n K' = some r) {η : Nat → Gh} {hp : Heap} {x : Value} (hv : Vr w D η hp i x) : ∃ k z, x = .int k z ∧ 0 ≤ z ∧ z < (n : Int) ∧ K' z.toNat = some r := by
  unfold idx at h
  split at h
  case h_2 => cases h
  rename_i k z
  obtain ⟨h1, h⟩ := ifE_some h
  obtain ⟨h2, h⟩ := ifE_some h
  exact ⟨k, z, vr_int hv, h1, h2, h⟩
theorem op_index {A : Ann} (W : WF P A) (G : RelG B D η O σ a w) (hn : Post B σ a o.dst next K r) (hd : ∀ d, o.dst = some d → d < B.N) (T : Nat) (x i : Operand) (ho : o.op = .index T x i) (hT : isTy A T .str = true) {s : List UInt8} (hb : σ.eval x = .d .str s)
    (h : idx (σ.eval i) s.length (fun j => K (.d (.int .u8) ((s.getD j 0).toNat : Int)) []) = some r) : o.wp P a w next Q := by
  have hv := G.eval x
  rw [hb] at hv
  obtain ⟨b, hb', h1⟩ := vr_str hv
  obtain ⟨k, z, h2, h3, h4, h5⟩ := idx_some h (G.eval i)
  have hl := len_of hb'
  have hz : z.toNat < b.size := by omega
  have hz2 : z.toNat < s.length := by omega
  refine wp_pure hn G hd h5 (x := .int .u8 ((s.getD z.toNat 0).toNat : Int)) (mk_int _ _) ?_
  have e : b[z.toNat]? = some (s.getD z.toNat 0) := by
    have h6 : b[z.toNat]? = b.data[z.toNat]? := rfl
    rw [h6, ← Array.getElem?_toList, hb', List.getElem?_eq_getElem hz2]
    simp [List.getD, List.getElem?_eq_getElem hz2]
  simp only [execOp, ho, h1, h2, Instr.index, asIntOf, run_underlying (W.str hT), Sem.run_bind, Sem.run_pure, Result.andThen_ok, if_pos h3, e]

/-- Bounds of a cut. -/
theorem low_some {i : Option V} {K' : Int → Option R} (h : lowV i K' = some r) : ∃ z, K' z = some r ∧ ((i = none ∧ z = 0) ∨ ∃ k, i = some (.d (.int k) z)) := by
  unfold lowV at h
  split at h
  · exact ⟨0, h, .inl ⟨rfl, rfl⟩⟩
  · rename_i k z; exact ⟨z, h, .inr ⟨k, rfl⟩⟩
  · cases h
theorem high_some {i : Option V} {n : Nat} {K' : Int → Option R} (h : highV i n K' = some r) : ∃ z, K' z = some r ∧ ((i = none ∧ z = (n : Int)) ∨ ∃ k, i = some (.d (.int k) z)) := by
  unfold highV at h
  split at h
  · exact ⟨_, h, .inl ⟨rfl, rfl⟩⟩
  · rename_i k z; exact ⟨z, h, .inr ⟨k, rfl⟩⟩
  · cases h
theorem bounds_run (isS : Bool) (len cap : Nat) (lo hi : Option Value) (za zb : Int) (h1 : 0 ≤ za) (h2 : za ≤ zb) (h3 : zb ≤ (len : Int)) (h4 : len ≤ cap) (hlo : (lo = none ∧ za = 0) ∨ ∃ k, lo = some (.int k za)) (hhi : (hi = none ∧ zb = (len : Int)) ∨ ∃ k, hi = some (.int k zb)) :
    (Instr.sliceBounds isS len cap lo hi none).run P w = .ok (za.toNat, zb.toNat, cap) w := by
  have b1 : ∀ (k : IntKind) (z : Int) (y : Nat) (c : BoundsCode), 0 ≤ z → z ≤ (y : Int) → (Instr.sliceBound (.int k z) y c).run P w = .ok z.toNat w := by
    intro k z y c h1 h2
    simp only [Instr.sliceBound, asIntOf, Sem.run_bind, Sem.run_pure, Result.andThen_ok, if_pos (And.intro h1 h2)]
  rcases hlo with ⟨rfl, rfl⟩ | ⟨k, rfl⟩ <;> rcases hhi with ⟨rfl, rfl⟩ | ⟨k', rfl⟩
  · simp only [Instr.sliceBounds, Sem.run_bind, Sem.run_pure, Result.andThen_ok, Int.toNat_natCast]; rfl
  · simp only [Instr.sliceBounds, Sem.run_bind, Sem.run_pure, Result.andThen_ok, b1 k' zb cap _ (by omega) (by omega)]; rfl
  · simp only [Instr.sliceBounds, Sem.run_bind, Sem.run_pure, Result.andThen_ok, b1 k za len _ (by omega) (by omega), Int.toNat_natCast]
  · simp only [Instr.sliceBounds, Sem.run_bind, Sem.run_pure, Result.andThen_ok, b1 k' zb cap _ (by omega) (by omega), b1 k za zb.toNat _ (by omega) (by omega)]
end
end Go.Proofs.YtpoppblfnaipbaaDoor.Eng
