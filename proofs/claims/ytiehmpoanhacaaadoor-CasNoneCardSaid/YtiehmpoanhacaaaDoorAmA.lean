/-
  AN ABSTRACT MACHINE over the model's own code, and that its operations do what the model's do, under the conditions that each theorem states.
-/
import Derived.Calls
import Derived.Below
import Derived.Laws.Sem
set_option linter.unusedSectionVars false
set_option linter.unusedVariables false
set_option linter.unusedSimpArgs false
/-
  An abstract machine over the model's own code: a heap of numbered blocks, in which a slice that is appended to stays where it is and its elder headers go stale.
-/
namespace Go.Proofs.SakAm
set_option linter.unusedSectionVars false
set_option linter.unusedVariables false
set_option linter.unusedSimpArgs false
open Go

/-- A block: its cells, the type of its elements, how often it was appended to, and whether it is only read. -/
structure Blk where
  cells : List Value
  elem : TypeId
  ver : Nat
  ro : Bool

/-- A heap: blocks by number, and the first number that is free. -/
structure Heap where
  get : Nat → Option Blk
  next : Nat
  wf : ∀ i, next ≤ i → get i = none

namespace Heap
def empty : Heap := ⟨fun _ => none, 0, fun _ _ => rfl⟩

theorem lt_of_get {H : Heap} {i : Nat} {b : Blk} (h : H.get i = some b) : i < H.next := by
  rcases Nat.lt_or_ge i H.next with h1 | h1
  · exact h1
  · rw [H.wf i h1] at h; cases h

/-- Block i becomes b, if the number is in use. -/
def upd (H : Heap) (i : Nat) (b : Blk) : Heap :=
  ⟨fun j => if j = i ∧ i < H.next then some b else H.get j, H.next, fun j hj => by
    rw [if_neg (by omega)]; exact H.wf j hj⟩

/-- A new block. -/
def new (H : Heap) (b : Blk) : Heap :=
  ⟨fun j => if j = H.next then some b else H.get j, H.next + 1, fun j hj => by
    rw [if_neg (by omega)]; exact H.wf j (by omega)⟩

/-- Numbers kept for later. -/
def reserve (H : Heap) (k : Nat) : Heap :=
  ⟨H.get, H.next + k, fun j hj => H.wf j (by omega)⟩
end Heap

/-- A frame: what each temporary has. -/
abbrev Fr := Nat → Value

def put (a : Fr) (d : Nat) (v : Value) : Fr := fun s => if s = d then v else a s

/-- A value of one cell. -/
def one : Value → Bool
  | .agg _ | .tuple _ => false
  | _ => true

/-- A value of one cell that holds no address. -/
def leaf : Value → Bool
  | .bool _ | .int _ _ | .float _ _ | .complex _ _ _ | .string _ | .nilFunc | .nilIface => true
  | .pointer none => true
  | .slice none l c => l == 0 && c == 0
  | .func (.func _) f c => f.isEmpty && c.isEmpty
  | _ => false

/-- A value that holds no address. -/
def plain : Value → Bool
  | .agg xs => xs.all leaf
  | .tuple xs => xs.all (fun v => match v with | .agg ys => ys.all leaf | v => leaf v)
  | v => leaf v

/-- A value's cells. -/
def cellsOf : Value → List Value
  | .agg cs => cs.toList
  | v => [v]

/-- What an operand has. -/
def evo (a : Fr) : Operand → Option Value
  | .tmp t => some (a t)
  | .const v => if plain v then some v else none
  | .func f => some (.func (.func f) #[] #[])
  | .global _ => none

/-- All operands of a list. -/
def evs (a : Fr) : List Operand → Option (List Value)
  | [] => some []
  | x :: r => (evo a x).bind fun v => (evs a r).bind fun vs => some (v :: vs)

/-- A computation of the model that asks for nothing but the program. -/
def pureRun {α : Type} (P : Program) : Sem α → Option α
  | .pure a => some a
  | .program k => pureRun P (k P)
  | _ => none

/-! ### Reading and writing -/

/-- The block behind an address, if it is not stale. -/
def blk (H : Heap) (i vr : Nat) : Option Blk :=
  (H.get i).bind fun b => if b.ver = vr then some b else none

/-- One cell. -/
def ld1 (H : Heap) : Value → Option Value
  | .pointer (some ⟨i, o, some vr⟩) => (blk H i vr).bind fun b => b.cells[o]?
  | _ => none

/-- n cells. -/
def ldA (H : Heap) (n : Nat) : Value → Option Value
  | .pointer (some ⟨i, o, some vr⟩) => (blk H i vr).bind fun b =>
    if o + n ≤ b.cells.length then some (.agg ((b.cells.drop o).take n).toArray) else none
  | _ => none

/-- Cells in the middle of a list. -/
def splice (l : List Value) (o : Nat) (vs : List Value) : List Value := l.take o ++ vs ++ l.drop (o + vs.length)

/-- One cell is written. -/
def st1 (H : Heap) (p v : Value) : Option Heap :=
  match p with
  | .pointer (some ⟨i, o, some vr⟩) => (blk H i vr).bind fun b =>
    if b.ro = false ∧ o < b.cells.length ∧ one v = true then some (H.upd i { b with cells := b.cells.set o v }) else none
  | _ => none

/-- n cells are written. -/
def stA (H : Heap) (n : Nat) (p v : Value) : Option Heap :=
  match p with
  | .pointer (some ⟨i, o, some vr⟩) => (blk H i vr).bind fun b =>
    if b.ro = false ∧ o + n ≤ b.cells.length ∧ (cellsOf v).length = n ∧ (cellsOf v).all one = true then
      some (H.upd i { b with cells := splice b.cells o (cellsOf v) }) else none
  | _ => none

/-- A new block, at a kept number or at the next one. -/
def mkAt (H : Heap) (nid : Option Nat) (b : Blk) : Option (Nat × Heap) :=
  match nid with
  | none => some (H.next, H.new b)
  | some i => match H.get i with
    | none => if i < H.next then some (i, H.upd i b) else none
    | some _ => none

/-- A box for a value. -/
def mkbox (H : Heap) (nid : Option Nat) (t : TypeId) (v : Value) : Option (Value × Heap) :=
  if (cellsOf v).all one = true then
    (mkAt H nid { cells := cellsOf v, elem := t, ver := 0, ro := false }).bind fun r => some (.pointer (some ⟨r.1, 0, some 0⟩), r.2)
  else none

/-- A row of cells as a slice. -/
def mkrow (H : Heap) (nid : Option Nat) (e : TypeId) (n : Nat) (cs : List Value) : Option (Value × Heap) :=
  if cs.all one = true then
    (mkAt H nid { cells := cs, elem := e, ver := 0, ro := false }).bind fun r => some (.slice (some ⟨r.1, 0, some 0⟩) n 1, r.2)
  else none

/-! ### The small operations -/

def nilc : Value → Option Value
  | .pointer (some a) => some (.pointer (some a))
  | .func (.func f) x c => some (.func (.func f) x c)
  | _ => none

/-- A field's address. -/
def fadd (off : Nat) : Value → Option Value
  | .pointer (some ⟨i, o, some vr⟩) => some (.pointer (some ⟨i, o + off, some vr⟩))
  | _ => none

/-- An element's address, in a slice. -/
def sadd (size : Nat) (s x : Value) : Option Value :=
  match s, x with
  | .slice (some ⟨i, o, some vr⟩) l _, .int _ n => if 0 ≤ n ∧ n < l then some (.pointer (some ⟨i, o + n.toNat * size, some vr⟩)) else none
  | _, _ => none

/-- An element's address, in an array. -/
def radd (len size : Nat) (p x : Value) : Option Value :=
  match p, x with
  | .pointer (some ⟨i, o, some vr⟩), .int _ n => if 0 ≤ n ∧ n < len then some (.pointer (some ⟨i, o + n.toNat * size, some vr⟩)) else none
  | _, _ => none

def apick (c a b : Value) : Option Value :=
  match c with
  | .bool t => some (if t then a else b)
  | _ => none

/-- A part of a struct or an array by value. -/
def apart (agg : Bool) (off size : Nat) : Value → Option Value
  | .agg cs => if agg then (if off + size ≤ cs.size then some (.agg (cs.extract off (off + size))) else none) else cs[off]?
  | _ => none

def aext (i : Nat) : Value → Option Value
  | .tuple vs => vs[i]?
  | _ => none

/-- Parts laid over cells: where, how many, what. -/
def fillL : List Value → List (Nat × Nat × Value) → Option (List Value)
  | cs, [] => some cs
  | cs, (o, n, v) :: r => if (cellsOf v).length = n ∧ o + n ≤ cs.length then fillL (splice cs o (cellsOf v)) r else none

/-- n times the same cells. -/
def reps (z : List Value) : Nat → List Value
  | 0 => []
  | n + 1 => z ++ reps z n

/-- An integer bound of a slice, or what stands for it. -/
def bnd (d : Nat) : Option Value → Option Int
  | none => some d
  | some (.int _ n) => some n
  | some _ => none

/-- x[lo:hi], inside the length. -/
def aslice (size : Nat) (x : Value) (lo hi : Option Value) : Option Value :=
  match x with
  | .slice (some ⟨i, o, some vr⟩) l _ => (bnd 0 lo).bind fun lo => (bnd l hi).bind fun hi =>
    if 0 ≤ lo ∧ lo ≤ hi ∧ hi ≤ l then
      some (.slice (some ⟨i, o + lo.toNat * size, some vr⟩) (hi.toNat - lo.toNat) (if lo < hi then 2 else 0))
    else none
  | .slice none 0 0 => (bnd 0 lo).bind fun lo => (bnd 0 hi).bind fun hi => if lo = 0 ∧ hi = 0 then some (.slice none 0 0) else none
  | _ => none

/-- s[lo:hi] of a string. -/
def astr (x : Value) (lo hi : Option Value) : Option Value :=
  match x with
  | .string s => (bnd 0 lo).bind fun lo => (bnd s.size hi).bind fun hi =>
    if 0 ≤ lo ∧ lo ≤ hi ∧ hi ≤ s.size then some (.string (s.extract lo.toNat hi.toNat)) else none
  | _ => none

/-- make([]T, l, c) with l = c. -/
def mkslice (H : Heap) (nid : Option Nat) (e : TypeId) (bytes : Nat) (z : List Value) (l c : Value) : Option (Value × Heap) :=
  match l, c with
  | .int .i64 n, .int .i64 m => if n = m ∧ 0 ≤ n ∧ n * bytes ≤ 2 ^ 47 ∧ n < 2 ^ 62 then mkrow H nid e n.toNat (reps z n.toNat) else none
  | _, _ => none

def alen : Value → Option Value
  | .slice _ l _ => some (.int .i64 l)
  | _ => none

def astrlen : Value → Option Value
  | .string s => some (.int .i64 s.size)
  | _ => none

/-- What is appended: the cells of a slice. -/
def rowOf (H : Heap) (size : Nat) : Value → Option (List Value)
  | .slice (some ⟨i, o, some vr⟩) l _ =>
    if l = 0 then some [] else (blk H i vr).bind fun b => if o + l * size ≤ b.cells.length then some ((b.cells.drop o).take (l * size)) else none
  | .slice none 0 0 => some []
  | .slice (some ⟨_, _, none⟩) 0 _ => some []
  | _ => none

def slen : Value → Nat
  | .slice _ l _ => l
  | _ => 0

/-- append(s, x...): the block grows where it lies, and its elder headers go stale. -/
def aappend (H : Heap) (e : TypeId) (size bytes : Nat) (s x : Value) : Option (Value × Heap) :=
  (rowOf H size x).bind fun new =>
    if (2 * (slen s + slen x) + 1024) * bytes ≤ 2 ^ 47 ∧ slen s + slen x < 2 ^ 62 then
      if slen x = 0 then
        match s with
        | .slice (some ⟨i, o, some vr⟩) l f => some (.slice (some ⟨i, o, some vr⟩) l f, H)
        | .slice none 0 0 => some (.slice none 0 0, H)
        | _ => none
      else match s with
        | .slice none 0 0 => some (.slice (some ⟨H.next, 0, some 0⟩) (slen x) 1, H.new { cells := new, elem := e, ver := 0, ro := false })
        | .slice (some ⟨i, 0, some vr⟩) l 1 => (blk H i vr).bind fun b =>
          if b.ro = false ∧ b.elem = e ∧ b.cells.length = l * size then
            some (.slice (some ⟨i, 0, some (vr + 1)⟩) (l + slen x) 1, H.upd i { b with cells := b.cells ++ new, ver := vr + 1 })
          else none
        | _ => none
    else none

def isNilSlice : Value → Option Bool
  | .slice none 0 0 => some true
  | .slice (some _) _ _ => some false
  | _ => none

def isNilPtr : Value → Option Bool
  | .pointer none => some true
  | .pointer (some _) => some false
  | _ => none

/-- x == y where an address may be among them: against nil alone. -/
def aeq (P : Program) (t : TypeId) (x y : Value) : Option Bool :=
  match P.underlying t, x, y with
  | some (.pointer _), .pointer a, .pointer none => some a.isNone
  | some (.pointer _), .pointer none, .pointer a => some a.isNone
  | some (.slice _), .slice a _ _, .slice none 0 0 => some a.isNone
  | some (.func _ _ _), .func (.func _) _ _, .nilFunc => some false
  | some (.func _ _ _), .nilFunc, .func (.func _) _ _ => some false
  | _, _, _ => none

/-- Only a value without addresses. -/
def onlyPlain (x : Option Value) : Option Value := x.bind fun r => if plain r then some r else none

/-- A binary operator. -/
def abin (P : Program) (op : BinOp) (t : TypeId) (xo yo : Operand) (x y : Value) : Option Value :=
  if plain x && plain y then onlyPlain (pureRun P (do eqGuard op t xo yo x y; binOp op t x y))
  else match op with
    | .eql => (aeq P t x y).bind fun b => some (.bool b)
    | .neq => (aeq P t x y).bind fun b => some (.bool !b)
    | _ => none

def aun (P : Program) (op : UnOp) (x : Value) : Option Value := if plain x then onlyPlain (pureRun P (Op.unary op x)) else none
def aconv (P : Program) (s d : TypeId) (x : Value) : Option Value := if leaf x then onlyPlain (pureRun P (convert s d x)) else none

def amax2 : Value → Value → Option Value
  | .int k x, .int k' y => if k = k' then some (.int k (if y > x then y else x)) else none
  | _, _ => none
def amin2 : Value → Value → Option Value
  | .int k x, .int k' y => if k = k' then some (.int k (if y < x then y else x)) else none
  | _, _ => none
def afold (f : Value → Value → Option Value) : Value → List Value → Option Value
  | x, [] => some x
  | x, y :: r => (f x y).bind fun z => afold f z r
end Go.Proofs.SakAm

namespace Go.Proofs.SakAm
set_option linter.unusedSectionVars false
set_option linter.unusedVariables false
set_option linter.unusedSimpArgs false
open Go

/-- Is a type's value a row of cells, and of how many? -/
def szOf (P : Program) (t : TypeId) : Option (Bool × Nat) :=
  match P.underlying t, P.info? t with
  | some (.struct _), some i => some (true, i.size)
  | some (.array _ _), some i => some (true, i.size)
  | some _, some i => some (false, i.size)
  | _, _ => none

/-- The cells of a type's zero. -/
def zeroOf (P : Program) (t : TypeId) : Option (List Value) :=
  match (P.info? t).bind (·.zero) with
  | some z => if (cellsOf z).all leaf = true then some (cellsOf z) else none
  | none => none

def sizeOfT (P : Program) (t : TypeId) : Option Nat := (P.info? t).map (·.size)

/-- Where a part of a struct or array lies, and how many cells it has. -/
def placeOf (P : Program) (t : TypeId) (i : Nat) : Option (Nat × Nat) :=
  match P.underlying t with
  | some (.struct fs) => (fs[i]?).bind fun f => (sizeOfT P f.type).bind fun n => some (f.offset, n)
  | some (.array _ e) => (sizeOfT P e).bind fun n => some (i * n, n)
  | _ => none

/-- Are all fields' types known? -/
def structOk (P : Program) (t : TypeId) : Bool :=
  match P.underlying t with
  | some (.struct fs) => fs.all fun f => (sizeOfT P f.type).isSome
  | some (.array _ e) => (sizeOfT P e).isSome
  | _ => false

def partsOf (pl : Nat → Option (Nat × Nat)) (a : Fr) : List (Nat × Operand) → Option (List (Nat × Nat × Value))
  | [] => some []
  | (i, x) :: r => (pl i).bind fun p => (evo a x).bind fun v => (partsOf pl a r).bind fun l => some ((p.1, p.2, v) :: l)

def evOpt (a : Fr) : Option Operand → Option (Option Value)
  | none => some none
  | some x => (evo a x).bind fun v => some (some v)

/-- What a callee is: a function, and what it has captured. -/
def target : Value → Option (FuncId × List Value × List Value)
  | .func (.func f) x c => some (f, x.toList, c.toList)
  | _ => none

/-- The element type, its size and bytes, of a slice type. -/
def elemOfT (P : Program) (t : TypeId) : Option (TypeId × Nat × Nat) :=
  match P.underlying t with
  | some (.slice e) => (P.info? e).bind fun i => match i.zero with
    | some z => if (cellsOf z).length = i.size then some (e, i.size, i.bytes) else none
    | none => none
  | _ => none

/-- What an operation comes to: a value, or a call. -/
inductive Out where
  | val (v : Value) (H : Heap)
  | call (f : FuncId) (args : List Value)

/-- The built-in functions. -/
def abuilt (P : Program) (H : Heap) (b : Builtin) (argTypes : Array TypeId) (args : List Value) : Option Out :=
  match b, args with
  | .len, [x] => match (argTypes[0]?).bind P.underlying with
    | some (.array n _) => some (.val (.int .i64 n) H)
    | some (.slice _) => (alen x).bind fun v => some (.val v H)
    | some .string => (astrlen x).bind fun v => some (.val v H)
    | _ => none
  | .append, [s, x] => match (argTypes[0]?).bind (elemOfT P), (argTypes[1]?).bind P.underlying with
    | some (e, size, bytes), some (.slice _) => (aappend H e size bytes s x).bind fun r => some (.val r.1 r.2)
    | _, _ => none
  | .max, x :: r => (afold amax2 x r).bind fun v => some (.val v H)
  | .min, x :: r => (afold amin2 x r).bind fun v => some (.val v H)
  | .complex, [x, y] => (if leaf x && leaf y then onlyPlain (pureRun P (Builtin.complex_ argTypes 0 #[x, y])) else none).bind fun v => some (.val v H)
  | .real, [x] => (if leaf x then onlyPlain (pureRun P (Builtin.real_ argTypes 0 #[x])) else none).bind fun v => some (.val v H)
  | .imag, [x] => (if leaf x then onlyPlain (pureRun P (Builtin.imag_ argTypes 0 #[x])) else none).bind fun v => some (.val v H)
  | _, _ => none

/-- One operation. -/
def aop (P : Program) (a : Fr) (H : Heap) (nid : Option Nat) (op : Op) : Option Out :=
  match op with
  | .move x => (evo a x).bind fun v => some (.val v H)
  | .assign x => (evo a x).bind fun v => some (.val v H)
  | .pick c x y => (evo a c).bind fun c => (evo a x).bind fun x => (evo a y).bind fun y => (apick c x y).bind fun v => some (.val v H)
  | .alloc t => (zeroOf P t).bind fun z => (mkbox H nid t (if z.length = 1 then z.headD undef else .agg z.toArray)).bind fun r => some (.val r.1 r.2)
  | .box t x => (evo a x).bind fun v => (mkbox H nid t v).bind fun r => some (.val r.1 r.2)
  | .build t ps => if structOk P t = true then (zeroOf P t).bind fun z => (partsOf (placeOf P t) a ps.toList).bind fun l => (fillL z l).bind fun cs => some (.val (.agg cs.toArray) H) else none
  | .buildSlice t n ps => (elemOfT P t).bind fun e => (zeroOf P e.1).bind fun z =>
    if z.length = e.2.1 ∧ n * e.2.1 ≤ 2 ^ 24 then
      (partsOf (fun i => some (i * e.2.1, e.2.1)) a ps.toList).bind fun l => (fillL (reps z n) l).bind fun cs =>
        (mkrow H nid e.1 n cs).bind fun r => some (.val r.1 r.2)
    else none
  | .load t x => (evo a x).bind fun p => match szOf P t with
    | some (true, n) => (ldA H n p).bind fun v => some (.val v H)
    | some (false, _) => (ld1 H p).bind fun v => some (.val v H)
    | none => none
  | .store t x y => (evo a x).bind fun p => (evo a y).bind fun v => match szOf P t with
    | some (true, n) => (stA H n p v).bind fun H' => some (.val undef H')
    | some (false, 1) => (st1 H p v).bind fun H' => some (.val undef H')
    | _ => none
  | .nilCheck x => (evo a x).bind fun p => (nilc p).bind fun v => some (.val v H)
  | .binOp op t x y _ => (evo a x).bind fun u => (evo a y).bind fun v => (abin P op t x y u v).bind fun r => some (.val r H)
  | .unOp op _ x => (evo a x).bind fun u => (aun P op u).bind fun r => some (.val r H)
  | .convert s d x => (evo a x).bind fun u => (aconv P s d u).bind fun r => some (.val r H)
  | .makeFunc (.func f) first captured => (evs a first.toList).bind fun x => (evs a captured.toList).bind fun c => some (.val (.func (.func f) x.toArray c.toArray) H)
  | .makeSlice t l c => (elemOfT P t).bind fun e => (zeroOf P e.1).bind fun z => (evo a l).bind fun l => (evo a c).bind fun c =>
    if z.length = e.2.1 then (mkslice H nid e.1 e.2.2 z l c).bind fun r => some (.val r.1 r.2) else none
  | .slice t x lo hi none => (evo a x).bind fun x => (evOpt a lo).bind fun lo => (evOpt a hi).bind fun hi => match P.underlying t with
    | some (.slice e) => (sizeOfT P e).bind fun n => (aslice n x lo hi).bind fun v => some (.val v H)
    | some .string => (astr x lo hi).bind fun v => some (.val v H)
    | _ => none
  | .fieldAddr t x f => (evo a x).bind fun p => match placeOf P t f, P.underlying t with
    | some (o, _ + 1), some (.struct _) => (fadd o p).bind fun v => some (.val v H)
    | _, _ => none
  | .field t x f => (evo a x).bind fun p => match P.underlying t with
    | some (.struct fs) => match (fs[f]?).bind fun f => (szOf P f.type).bind fun s => some (f.offset, s) with
      | some (o, g, n) => (apart g o n p).bind fun v => some (.val v H)
      | none => none
    | _ => none
  | .indexAddr t x i => (evo a x).bind fun x => (evo a i).bind fun i => match P.underlying t with
    | some (.slice e) => (sizeOfT P e).bind fun n => (sadd n x i).bind fun v => some (.val v H)
    | some (.array l e) => (sizeOfT P e).bind fun n => (radd l n x i).bind fun v => some (.val v H)
    | _ => none
  | .extract x i => (evo a x).bind fun x => (aext i x).bind fun v => some (.val v H)
  | .call c => (evs a c.args.toList).bind fun args => match c.callee with
    | .value (.func f) => some (.call f args)
    | .value x => (evo a x).bind fun f => (target f).bind fun t => some (.call t.1 (t.2.1 ++ args ++ t.2.2))
    | .builtin b => abuilt P H b c.argTypes args
    | _ => none
  | _ => none

/-- An operation that is done only if a test said so. -/
def gd (g : Value) (want : Bool) (H : Heap) (x : Option (Value × Heap)) : Option (Value × Heap) :=
  match g with
  | .bool b => if b = want then x else some (undef, H)
  | _ => none

def dst (nt : Nat) (a : Fr) (d : Option Tmp) (v : Value) : Option Fr :=
  match d with
  | none => some a
  | some d => if d < nt then some (put a d v) else none

section
variable (P : Program) (call : FuncId → List Value → Heap → Option (Value × Heap))

/-- An operation with its call done. -/
def aopC (a : Fr) (H : Heap) (nid : Option Nat) (op : Op) : Option (Value × Heap) :=
  (aop P a H nid op).bind fun r => match r with
    | .val v H' => some (v, H')
    | .call f args => call f args H

def opD (nt : Nat) (ops : Array Oper) (nid : Option Nat) (o : Oper) (a : Fr) (H : Heap) : Option (Value × Fr × Heap) :=
  match o.guard with
  | none => (aopC P call a H nid o.op).bind fun r => (dst nt a o.dst r.1).bind fun a' => some (r.1, a', r.2)
  | some (j, want) => match (ops[j]?).bind (·.dst) with
    | none => none
    | some g => (gd (a g) want H (aopC P call a H nid o.op)).bind fun r => (dst nt a o.dst r.1).bind fun a' => some (r.1, a', r.2)

/-- Operations in the order of the text. -/
def seqD (nt : Nat) (ops : Array Oper) : List Oper → Fr → Heap → Option (Fr × Heap)
  | [], a, H => some (a, H)
  | o :: r, a, H => (opD P call nt ops none o a H).bind fun x => seqD nt ops r x.2.1 x.2.2
end

/-! ### Regions that draw their order -/

/-- What an operation does to memory: 0 nothing, 1 reads a cell, 2 makes a block, 3 changes some. -/
def kindOf : Op → Nat
  | .load _ _ => 1
  | .alloc _ | .box _ _ | .buildSlice _ _ _ | .makeSlice _ _ _ => 2
  | .store _ _ _ => 3
  | .call c => match c.callee with
    | .builtin .append => 3
    | .builtin _ => 0
    | _ => 3
  | _ => 0

/-- The temporaries that an operation names: where it writes, and what it reads. -/
def readsOf (ops : Array Oper) (o : Oper) : List Tmp :=
  (o.op.operands.toList.filterMap fun x => match x with | .tmp t => some t | _ => none) ++
    (match o.guard with | some (j, _) => ((ops[j]?).bind (·.dst)).toList | none => [])

/-- Which operations stand ahead of each, by the edges that bind every compiler: a number whose digits tell. -/
def aheads : List Nat → List Oper → List Nat
  | acc, [] => acc
  | acc, o :: r => aheads (acc ++ [o.after.toList.foldl (fun s e => if Region.binds .any e then s ||| (1 <<< e.on) ||| acc.getD e.on 0 else s) 0]) r

def ahead (bs : List Nat) (i j : Nat) : Bool := (bs.getD j 0).testBit i

/-- May operation i, ahead of j in the text, be done behind j? -/
def pairOk (ops : Array Oper) (bs : List Nat) (i j : Nat) (o p : Oper) : Bool :=
  ahead bs i j ||
    (!((kindOf o.op == 3 || kindOf o.op == 2) && kindOf p.op == 3) && !(kindOf o.op == 2 && kindOf p.op == 1) &&
      (match o.dst with | some d => p.dst != some d && !(readsOf ops p).contains d | none => true) &&
      (match p.dst with | some d => !(readsOf ops o).contains d | none => true))

def drawOk (ops : Array Oper) : Bool :=
  let l := ops.toList
  let bs := aheads [] l
  (l.zipIdx.all fun (p, j) => p.after.all (fun e => !Region.binds .any e || e.on < j) && l.zipIdx.all fun (o, i) => j ≤ i || pairOk ops bs i j o p)

def leafEq : Value → Value → Bool
  | .bool a, .bool b => a == b
  | .int k a, .int k' b => k == k' && a == b
  | .string a, .string b => decide (a = b)
  | .pointer a, .pointer b => a == b
  | .slice a l c, .slice b l' c' => a == b && l == l' && c == c'
  | .complex k a b, .complex k' a' b' => k == k' && a == a' && b == b'
  | .float k a, .float k' b => k == k' && a == b
  | .nilFunc, .nilFunc => true
  | .nilIface, .nilIface => true
  | _, _ => false

def leavesEq : List Value → List Value → Bool
  | [], [] => true
  | a :: r, b :: s => leafEq a b && leavesEq r s
  | _, _ => false

def valEq : Value → Value → Bool
  | .agg a, .agg b => leavesEq a.toList b.toList
  | a, b => leafEq a b

/-- Does a read tell this? -/
def tells (x : Option Value) (v : Value) : Bool :=
  match x with
  | some u => valEq u v
  | none => false

def ldT (P : Program) (t : TypeId) (H : Heap) (p : Value) : Option Value :=
  match szOf P t with
  | some (true, n) => ldA H n p
  | some (false, _) => ld1 H p
  | none => none

/-- A read that was done: its number, its test (if it has one), its type, its address, what it told. -/
structure Read where
  i : Nat
  g : Option (Value × Bool)
  t : TypeId
  p : Value
  v : Value

/-- Would it tell the same of another heap? -/
def Read.holds (P : Program) (H : Heap) (r : Read) : Bool :=
  match r.g with
  | none => tells (ldT P r.t H r.p) r.v
  | some (.bool b, want) => if b = want then tells (ldT P r.t H r.p) r.v else true
  | some _ => false

def readsHold (P : Program) (bs : List Nat) (j : Nat) (H : Heap) : List Read → Bool
  | [] => true
  | r :: l => (ahead bs r.i j || r.holds P H) && readsHold P bs j H l

def pastHold (P : Program) (bs : List Nat) (r : Read) : List (Nat × Heap) → Bool
  | [] => true
  | (j, H) :: l => (ahead bs j r.i || r.holds P H) && pastHold P bs r l

def addrOf (a : Fr) : Op → Value
  | .load _ x => (evo a x).getD undef
  | _ => undef
def typeOf : Op → TypeId
  | .load t _ => t
  | _ => 0

def ifD {β : Type} (c : Bool) (k : Option β) : Option β := if c = true then k else none

def readOf (ops : Array Oper) (i : Nat) (o : Oper) (a : Fr) (v : Value) : Read :=
  ⟨i, match o.guard with | none => none | some (j, want) => (((ops[j]?).bind (·.dst)).map fun g => (a g, want)), typeOf o.op, addrOf a o.op, v⟩

section
variable (P : Program) (call : FuncId → List Value → Heap → Option (Value × Heap))

def drawD (nt : Nat) (ops : Array Oper) (bs : List Nat) (base : Nat) : Nat → List Oper → Fr → Heap → List (Nat × Heap) → List Read → Option (Fr × Heap)
  | _, [], a, H, _, _ => some (a, H)
  | i, o :: r, a, H, past, reads =>
    (opD P call nt ops (some (base + i)) o a H).bind fun x =>
      match kindOf o.op with
      | 1 => ifD (pastHold P bs (readOf ops i o a x.1) past) (drawD nt ops bs base (i + 1) r x.2.1 x.2.2 past (readOf ops i o a x.1 :: reads))
      | 3 => ifD (readsHold P bs i x.2.2 reads) (drawD nt ops bs base (i + 1) r x.2.1 x.2.2 ((i, H) :: past) reads)
      | _ => drawD nt ops bs base (i + 1) r x.2.1 x.2.2 past reads

def hasNew (ops : Array Oper) : Bool := ops.any fun o => kindOf o.op == 2

def regionD (nt : Nat) (ops : Array Oper) (draw : Bool) (a : Fr) (H : Heap) : Option (Fr × Heap) :=
  if draw then
    if drawOk ops then
      drawD P call nt ops (aheads [] ops.toList) H.next 0 ops.toList a (if hasNew ops then H.reserve ops.size else H) [] []
    else none
  else seqD P call nt ops ops.toList a H
end

/-! ### Functions -/

def resOf (P : Program) (a : Fr) (H : Heap) : ResultVar → Option Value
  | .tmp t => some (a t)
  | .cell p t => ldT P t H (a p)

def resAll (P : Program) (a : Fr) (H : Heap) : List ResultVar → Option (List Value)
  | [] => some []
  | r :: l => (resOf P a H r).bind fun v => (resAll P a H l).bind fun vs => some (v :: vs)

def tupled : List Value → Value
  | [v] => v
  | vs => .tuple vs.toArray

def retK (P : Program) (fn : Func) (a : Fr) (H : Heap) : Option (Value × Heap) :=
  (resAll P a H fn.results.toList).bind fun vs => some (tupled vs, H)

def fr0 (args : List Value) : Fr := fun i => args.getD i undef

/-- A function's code, if it may be entered. -/
def bodyOf (P : Program) (f : FuncId) : Option (Func × Code) :=
  match P.funcs[f]? with
  | some fn => if fn.name == "runtime.NumGoroutine" then none else match fn.body with
    | some c => some (fn, c)
    | none => none
  | none => none

def condK {β : Type} (c : Value) (x y : Option β) : Option β :=
  match c with
  | .bool b => if b then x else y
  | _ => none

section
variable (P : Program) (ext : FuncId → List Value → Heap → Option (Value × Heap))

/-- A call: what is known of the function by other means, or its code. -/
def callBy (run : Func → List Item → Fr → Heap → Option (Value × Heap)) (f : FuncId) (args : List Value) (H : Heap) : Option (Value × Heap) :=
  match ext f args H with
  | some r => some r
  | none => match bodyOf P f with
    | some (fn, c) => if args.length ≤ fn.ntmps then run fn [.code c] (fr0 args) H else none
    | none => none

def arun : Nat → Func → List Item → Fr → Heap → Option (Value × Heap)
  | 0, _, _, _, _ => none
  | n + 1, fn, items, a, H => match items with
    | [] => retK P fn a H
    | .code .ret :: _ => retK P fn a H
    | .code .skip :: k => arun n fn k a H
    | .code (.label _) :: k => arun n fn k a H
    | .inBlock _ :: k => arun n fn k a H
    | .inScope _ :: k => arun n fn k a H
    | .code (.seq x y) :: k => arun n fn (.code x :: .code y :: k) a H
    | .code (.cond c x y) :: k => (evo a c).bind fun v => condK v (arun n fn (.code x :: k) a H) (arun n fn (.code y :: k) a H)
    | .code (.block id c) :: k => arun n fn (.code c :: .inBlock id :: k) a H
    | .code (.loop c) :: k => arun n fn (.code c :: .inLoop c :: k) a H
    | .inLoop c :: k => arun n fn (.code c :: .inLoop c :: k) a H
    | .code (.scope c) :: k => arun n fn (.code c :: .inScope c :: k) a H
    | .code (.exit id) :: k => match exitTo id k with
      | some k' => arun n fn k' a H
      | none => none
    | .code (.goto l) :: k => match gotoIn l k with
      | some k' => arun n fn k' a H
      | none => none
    | .code (.region _ ops draw) :: k =>
      (regionD P (callBy P ext (arun n)) fn.ntmps ops draw a H).bind fun r => arun n fn k r.1 r.2
    | _ => none
end
end Go.Proofs.SakAm

namespace Go.Proofs.SakAm
set_option linter.unusedSectionVars false
set_option linter.unusedVariables false
set_option linter.unusedSimpArgs false
open Go

section
variable {β : Type} (P : Program) (call : FuncId → List Value → Heap → Option (Value × Heap))

/-- The built-in functions. -/
def abuiltK (H : Heap) (b : Builtin) (argTypes : Array TypeId) (args : List Value) (k : Value → Heap → Option β) : Option β :=
  match b, args with
  | .len, [x] => match (argTypes[0]?).bind P.underlying with
    | some (.array n _) => k (.int .i64 n) H
    | some (.slice _) => (alen x).bind fun v => k v H
    | some .string => (astrlen x).bind fun v => k v H
    | _ => none
  | .append, [s, x] => match (argTypes[0]?).bind (elemOfT P), (argTypes[1]?).bind P.underlying with
    | some (e, size, bytes), some (.slice _) => (aappend H e size bytes s x).bind fun r => k r.1 r.2
    | _, _ => none
  | .max, x :: r => (afold amax2 x r).bind fun v => k v H
  | .min, x :: r => (afold amin2 x r).bind fun v => k v H
  | .complex, [x, y] => (if leaf x && leaf y then onlyPlain (pureRun P (Builtin.complex_ argTypes 0 #[x, y])) else none).bind fun v => k v H
  | .real, [x] => (if leaf x then onlyPlain (pureRun P (Builtin.real_ argTypes 0 #[x])) else none).bind fun v => k v H
  | .imag, [x] => (if leaf x then onlyPlain (pureRun P (Builtin.imag_ argTypes 0 #[x])) else none).bind fun v => k v H
  | _, _ => none

/-- One operation. -/
def aopK (a : Fr) (H : Heap) (nid : Option Nat) (op : Op) (k : Value → Heap → Option β) : Option β :=
  match op with
  | .move x => (evo a x).bind fun v => k v H
  | .assign x => (evo a x).bind fun v => k v H
  | .pick c x y => (evo a c).bind fun c => (evo a x).bind fun x => (evo a y).bind fun y => (apick c x y).bind fun v => k v H
  | .alloc t => (zeroOf P t).bind fun z => (mkbox H nid t (if z.length = 1 then z.headD undef else .agg z.toArray)).bind fun r => k r.1 r.2
  | .box t x => (evo a x).bind fun v => (mkbox H nid t v).bind fun r => k r.1 r.2
  | .build t ps => if structOk P t = true then (zeroOf P t).bind fun z => (partsOf (placeOf P t) a ps.toList).bind fun l => (fillL z l).bind fun cs => k (.agg cs.toArray) H else none
  | .buildSlice t n ps => (elemOfT P t).bind fun e => (zeroOf P e.1).bind fun z =>
    if z.length = e.2.1 ∧ n * e.2.1 ≤ 2 ^ 24 then
      (partsOf (fun i => some (i * e.2.1, e.2.1)) a ps.toList).bind fun l => (fillL (reps z n) l).bind fun cs =>
        (mkrow H nid e.1 n cs).bind fun r => k r.1 r.2
    else none
  | .load t x => (evo a x).bind fun p => match szOf P t with
    | some (true, n) => (ldA H n p).bind fun v => k v H
    | some (false, _) => (ld1 H p).bind fun v => k v H
    | none => none
  | .store t x y => (evo a x).bind fun p => (evo a y).bind fun v => match szOf P t with
    | some (true, n) => (stA H n p v).bind fun H' => k undef H'
    | some (false, 1) => (st1 H p v).bind fun H' => k undef H'
    | _ => none
  | .nilCheck x => (evo a x).bind fun p => (nilc p).bind fun v => k v H
  | .binOp op t x y _ => (evo a x).bind fun u => (evo a y).bind fun v => (abin P op t x y u v).bind fun r => k r H
  | .unOp op _ x => (evo a x).bind fun u => (aun P op u).bind fun r => k r H
  | .convert s d x => (evo a x).bind fun u => (aconv P s d u).bind fun r => k r H
  | .makeFunc (.func f) first captured => (evs a first.toList).bind fun x => (evs a captured.toList).bind fun c => k (.func (.func f) x.toArray c.toArray) H
  | .makeSlice t l c => (elemOfT P t).bind fun e => (zeroOf P e.1).bind fun z => (evo a l).bind fun l => (evo a c).bind fun c =>
    if z.length = e.2.1 then (mkslice H nid e.1 e.2.2 z l c).bind fun r => k r.1 r.2 else none
  | .slice t x lo hi none => (evo a x).bind fun x => (evOpt a lo).bind fun lo => (evOpt a hi).bind fun hi => match P.underlying t with
    | some (.slice e) => (sizeOfT P e).bind fun n => (aslice n x lo hi).bind fun v => k v H
    | some .string => (astr x lo hi).bind fun v => k v H
    | _ => none
  | .fieldAddr t x f => (evo a x).bind fun p => match placeOf P t f, P.underlying t with
    | some (o, _ + 1), some (.struct _) => (fadd o p).bind fun v => k v H
    | _, _ => none
  | .field t x f => (evo a x).bind fun p => match P.underlying t with
    | some (.struct fs) => match (fs[f]?).bind fun f => (szOf P f.type).bind fun s => some (f.offset, s) with
      | some (o, g, n) => (apart g o n p).bind fun v => k v H
      | none => none
    | _ => none
  | .indexAddr t x i => (evo a x).bind fun x => (evo a i).bind fun i => match P.underlying t with
    | some (.slice e) => (sizeOfT P e).bind fun n => (sadd n x i).bind fun v => k v H
    | some (.array l e) => (sizeOfT P e).bind fun n => (radd l n x i).bind fun v => k v H
    | _ => none
  | .extract x i => (evo a x).bind fun x => (aext i x).bind fun v => k v H
  | .call c => (evs a c.args.toList).bind fun args => match c.callee with
    | .value (.func f) => (call f args H).bind fun r => k r.1 r.2
    | .value x => (evo a x).bind fun f => (target f).bind fun t => (call t.1 (t.2.1 ++ args ++ t.2.2) H).bind fun r => k r.1 r.2
    | .builtin b => abuiltK P H b c.argTypes args k
    | _ => none
  | _ => none

def dstK (nt : Nat) (a : Fr) (d : Option Tmp) (v : Value) (k : Fr → Option β) : Option β :=
  match d with
  | none => k a
  | some d => if d < nt then k (put a d v) else none

def opK (nt : Nat) (ops : Array Oper) (nid : Option Nat) (o : Oper) (a : Fr) (H : Heap) (k : Value → Fr → Heap → Option β) : Option β :=
  match o.guard with
  | none => aopK P call a H nid o.op fun v H' => dstK nt a o.dst v fun a' => k v a' H'
  | some (j, want) => match (ops[j]?).bind (·.dst) with
    | none => none
    | some g => (gd (a g) want H (aopK P call a H nid o.op fun v H' => some (v, H'))).bind fun r => dstK nt a o.dst r.1 fun a' => k r.1 a' r.2

/-- Operations in the order of the text. -/
def seqK (nt : Nat) (ops : Array Oper) : List Oper → Fr → Heap → (Fr → Heap → Option β) → Option β
  | [], a, H, k => k a H
  | o :: r, a, H, k => opK P call nt ops none o a H fun _ a' H' => seqK nt ops r a' H' k
end

section
variable {β : Type} (P : Program) (call : FuncId → List Value → Heap → Option (Value × Heap))

def drawK (nt : Nat) (ops : Array Oper) (bs : List Nat) (base : Nat) : Nat → List Oper → Fr → Heap → List (Nat × Heap) → List Read → (Fr → Heap → Option β) → Option β
  | _, [], a, H, _, _, k => k a H
  | i, o :: r, a, H, past, reads, k =>
    opK P call nt ops (some (base + i)) o a H fun v a' H' =>
      match kindOf o.op with
      | 1 =>
        ifD (pastHold P bs (readOf ops i o a v) past) (drawK nt ops bs base (i + 1) r a' H' past (readOf ops i o a v :: reads) k)
      | 3 => ifD (readsHold P bs i H' reads) (drawK nt ops bs base (i + 1) r a' H' ((i, H) :: past) reads k)
      | _ => drawK nt ops bs base (i + 1) r a' H' past reads k

def regionK (nt : Nat) (ops : Array Oper) (draw : Bool) (a : Fr) (H : Heap) (k : Fr → Heap → Option β) : Option β :=
  if draw then
    if drawOk ops then
      drawK P call nt ops (aheads [] ops.toList) H.next 0 ops.toList a (if hasNew ops then H.reserve ops.size else H) [] [] k
    else none
  else seqK P call nt ops ops.toList a H k
end


/-- The built-in functions on complex numbers. -/
def acomplex (P : Program) (argTypes : Array TypeId) (x y : Value) : Option Value := if leaf x && leaf y then onlyPlain (pureRun P (Builtin.complex_ argTypes 0 #[x, y])) else none
def areal (P : Program) (argTypes : Array TypeId) (x : Value) : Option Value := if leaf x then onlyPlain (pureRun P (Builtin.real_ argTypes 0 #[x])) else none
def aimag (P : Program) (argTypes : Array TypeId) (x : Value) : Option Value := if leaf x then onlyPlain (pureRun P (Builtin.imag_ argTypes 0 #[x])) else none

/-- Parts of code. -/
def cl : Code → Code
  | .seq a _ => a
  | .cond _ a _ => a
  | .block _ a => a
  | .loop a => a
  | .scope a => a
  | a => a
def cr : Code → Code
  | .seq _ b => b
  | .cond _ _ b => b
  | b => b

/-- The number of the first region that stands ahead. -/
def headCode : Code → Option Nat
  | .region id _ _ => some id
  | .seq x _ => headCode x
  | .block _ x => headCode x
  | .scope x => headCode x
  | _ => none

def headId : List Item → Option Nat
  | .code c :: _ => headCode c
  | _ => none

def stopsAt (stops : List Nat) (items : List Item) : Bool :=
  match headId items with
  | some i => stops.contains i
  | none => false

section
variable (P : Program) (call : FuncId → List Value → Heap → Option (Value × Heap)) (run : Func → List Item → Fr → Heap → Option (Value × Heap))

def resK {β : Type} (a : Fr) (H : Heap) : List ResultVar → (List Value → Option β) → Option β
  | [], k => k []
  | .tmp t :: l, k => resK a H l fun vs => k (a t :: vs)
  | .cell p t :: l, k => match szOf P t with
    | some (true, n) => (ldA H n (a p)).bind fun v => resK a H l fun vs => k (v :: vs)
    | some (false, _) => (ld1 H (a p)).bind fun v => resK a H l fun vs => k (v :: vs)
    | none => none

def retKK {β : Type} (fn : Func) (a : Fr) (H : Heap) (k : Value → Heap → Option β) : Option β :=
  resK P a H fn.results.toList fun vs => k (tupled vs) H

/-- The code as far as the next loop, or the next of the named regions. -/
def den (fn : Func) (stops : List Nat) : Nat → Bool → List Item → Fr → Heap → Option (Value × Heap)
  | 0, _, items, a, H => run fn items a H
  | n + 1, go, items, a, H =>
    if (!go && stopsAt stops items) = true then run fn items a H else
    match items with
    | [] => retKK P fn a H fun v H => some (v, H)
    | .code .ret :: _ => retKK P fn a H fun v H => some (v, H)
    | .code .skip :: k => den fn stops n false k a H
    | .code (.label _) :: k => den fn stops n false k a H
    | .inBlock _ :: k => den fn stops n false k a H
    | .inScope _ :: k => den fn stops n false k a H
    | .code (.seq x y) :: k => den fn stops n go (.code x :: .code y :: k) a H
    | .code (.cond c x y) :: k => (evo a c).bind fun v => condK v (den fn stops n false (.code x :: k) a H) (den fn stops n false (.code y :: k) a H)
    | .code (.block id c) :: k => den fn stops n go (.code c :: .inBlock id :: k) a H
    | .code (.loop c) :: k => run fn (.inLoop c :: k) a H
    | .inLoop c :: k => if go then den fn stops n false (.code c :: .inLoop c :: k) a H else run fn (.inLoop c :: k) a H
    | .code (.scope c) :: k => den fn stops n go (.code c :: .inScope c :: k) a H
    | .code (.exit id) :: k => match exitTo id k with
      | some k' => den fn stops n false k' a H
      | none => none
    | .code (.goto l) :: k => match gotoIn l k with
      | some k' => den fn stops n false k' a H
      | none => none
    | .code (.region _ ops draw) :: k =>
      regionK P call fn.ntmps ops draw a H fun a' H' => den fn stops n false k a' H'
    | _ => none
end
end Go.Proofs.SakAm

namespace Go.Proofs.SakAm
set_option linter.unusedSectionVars false
set_option linter.unusedVariables false
set_option linter.unusedSimpArgs false
open Go

/-- Where a block lies: the model's block, how far in, and how many cells that one has. -/
structure Place where
  at_ : Nat
  off : Nat
  size : Nat

/-- A value of the abstract machine, and the model's. -/
inductive VRel (P : Program) (φ : Nat → Place) (H : Heap) : Value → Value → Prop where
  | leaf (v : Value) (h : leaf v = true) : VRel P φ H v v
  | ptr (i o vr : Nat) (b : Blk) (c : Addr) (hb : H.get i = some b) (hv : vr ≤ b.ver)
      (hc : vr = b.ver → c = ⟨(φ i).at_, (φ i).off + o, none⟩) : VRel P φ H (.pointer (some ⟨i, o, some vr⟩)) (.pointer (some c))
  | slice (i o vr l f : Nat) (b : Blk) (c : Addr) (cap : Nat) (hb : H.get i = some b) (hv : vr ≤ b.ver) (hl : l ≤ cap)
      (hc : vr = b.ver → (f = 1 ∨ 0 < l) → c = ⟨(φ i).at_, (φ i).off + o, none⟩ ∧ (f = 1 → b.ro = false → o + cap * P.cellsOf b.elem ≤ (φ i).size)) :
      VRel P φ H (.slice (some ⟨i, o, some vr⟩) l f) (.slice (some c) l cap)
  | empty (i o f cap : Nat) (c : Addr) : VRel P φ H (.slice (some ⟨i, o, none⟩) 0 f) (.slice (some c) 0 cap)
  | func (f : FuncId) (xs ys cs ds : Array Value) (hx : xs.size = ys.size) (hc : cs.size = ds.size)
      (h1 : ∀ i, i < xs.size → VRel P φ H (xs.getD i undef) (ys.getD i undef)) (h2 : ∀ i, i < cs.size → VRel P φ H (cs.getD i undef) (ds.getD i undef)) :
      VRel P φ H (.func (.func f) xs cs) (.func (.func f) ys ds)
  | agg (xs ys : Array Value) (hs : xs.size = ys.size) (h : ∀ i, i < xs.size → VRel P φ H (xs.getD i undef) (ys.getD i undef)) : VRel P φ H (.agg xs) (.agg ys)
  | tuple (xs ys : Array Value) (hs : xs.size = ys.size) (h : ∀ i, i < xs.size → VRel P φ H (xs.getD i undef) (ys.getD i undef)) : VRel P φ H (.tuple xs) (.tuple ys)

/-- What was known of a heap is known of a later one. -/
structure Ext (φ : Nat → Place) (H : Heap) (φ' : Nat → Place) (H' : Heap) : Prop where
  next : H.next ≤ H'.next
  get : ∀ i b, H.get i = some b → ∃ b', H'.get i = some b' ∧ b.ver ≤ b'.ver ∧ (b'.ver = b.ver → φ' i = φ i ∧ b'.elem = b.elem ∧ b'.ro = b.ro)

theorem Ext.refl (φ : Nat → Place) (H : Heap) : Ext φ H φ H := ⟨Nat.le_refl _, fun _ b h => ⟨b, h, Nat.le_refl _, fun _ => ⟨rfl, rfl, rfl⟩⟩⟩

theorem Ext.trans {φ φ' φ'' : Nat → Place} {H H' H'' : Heap} (h : Ext φ H φ' H') (k : Ext φ' H' φ'' H'') : Ext φ H φ'' H'' := by
  refine ⟨Nat.le_trans h.next k.next, fun i b hb => ?_⟩
  obtain ⟨b', h1, h2, h3⟩ := h.get i b hb
  obtain ⟨b'', k1, k2, k3⟩ := k.get i b' h1
  refine ⟨b'', k1, Nat.le_trans h2 k2, fun e => ?_⟩
  obtain ⟨e1, e2, e3⟩ := k3 (by omega)
  obtain ⟨f1, f2, f3⟩ := h3 (by omega)
  exact ⟨e1.trans f1, e2.trans f2, e3.trans f3⟩

section
variable {P : Program} {φ φ' : Nat → Place} {H H' : Heap}

theorem VRel.ext (h : Ext φ H φ' H') {v u : Value} (hv : VRel P φ H v u) : VRel P φ' H' v u := by
  induction hv with
  | leaf v hl => exact .leaf v hl
  | ptr i o vr b c hb hle hc =>
    obtain ⟨b', h1, h2, h3⟩ := h.get i b hb
    refine .ptr i o vr b' c h1 (Nat.le_trans hle h2) fun e => ?_
    obtain ⟨e1, _, _⟩ := h3 (by omega)
    rw [e1]; exact hc (by omega)
  | slice i o vr l f b c cap hb hle hl hc =>
    obtain ⟨b', h1, h2, h3⟩ := h.get i b hb
    refine .slice i o vr l f b' c cap h1 (Nat.le_trans hle h2) hl fun e hf => ?_
    obtain ⟨e1, e2, e3⟩ := h3 (by omega)
    rw [e1, e2, e3]; exact hc (by omega) hf
  | empty i o f cap c => exact .empty i o f cap c
  | func f xs ys cs ds hx hc _ _ i1 i2 => exact .func f xs ys cs ds hx hc i1 i2
  | agg xs ys hs _ ih => exact .agg xs ys hs ih
  | tuple xs ys hs _ ih => exact .tuple xs ys hs ih

theorem cells_eq (v : Value) : v.cells.toList = cellsOf v := by
  cases v <;> rfl

/-! What a related value looks like. -/
theorem VRel.leaf_inv {v u : Value} (h : VRel P φ H v u) (hl : SakAm.leaf v = true) : u = v := by
  cases h with
  | leaf => rfl
  | func f xs ys cs ds hx hc h1 h2 =>
    simp only [SakAm.leaf, Bool.and_eq_true, Array.isEmpty_iff] at hl
    obtain ⟨rfl, rfl⟩ := hl
    have e1 : ys = #[] := Array.eq_empty_of_size_eq_zero (by simpa using hx.symm)
    have e2 : ds = #[] := Array.eq_empty_of_size_eq_zero (by simpa using hc.symm)
    rw [e1, e2]
  | _ => simp [SakAm.leaf] at hl

theorem VRel.int_inv {k : IntKind} {n : Int} {u : Value} (h : VRel P φ H (.int k n) u) : u = .int k n := h.leaf_inv rfl
theorem VRel.bool_inv {b : Bool} {u : Value} (h : VRel P φ H (.bool b) u) : u = .bool b := h.leaf_inv rfl
theorem VRel.str_inv {s : ByteArray} {u : Value} (h : VRel P φ H (.string s) u) : u = .string s := h.leaf_inv rfl

theorem VRel.ptr_inv {i o vr : Nat} {u : Value} (h : VRel P φ H (.pointer (some ⟨i, o, some vr⟩)) u) :
    ∃ b c, u = .pointer (some c) ∧ H.get i = some b ∧ vr ≤ b.ver ∧ (vr = b.ver → c = ⟨(φ i).at_, (φ i).off + o, none⟩) := by
  cases h with
  | leaf _ hl => simp [SakAm.leaf] at hl
  | ptr _ _ _ b c hb hv hc => exact ⟨b, c, rfl, hb, hv, hc⟩

theorem VRel.slice_inv {i o vr l f : Nat} {u : Value} (h : VRel P φ H (.slice (some ⟨i, o, some vr⟩) l f) u) :
    ∃ b c cap, u = .slice (some c) l cap ∧ H.get i = some b ∧ vr ≤ b.ver ∧ l ≤ cap ∧
      (vr = b.ver → (f = 1 ∨ 0 < l) → c = ⟨(φ i).at_, (φ i).off + o, none⟩ ∧ (f = 1 → b.ro = false → o + cap * P.cellsOf b.elem ≤ (φ i).size)) := by
  cases h with
  | leaf _ hl => simp [SakAm.leaf] at hl
  | slice _ _ _ _ _ b c cap hb hv hl hc => exact ⟨b, c, cap, rfl, hb, hv, hl, hc⟩

theorem VRel.empty_inv {i o l f : Nat} {u : Value} (h : VRel P φ H (.slice (some ⟨i, o, none⟩) l f) u) :
    ∃ c cap, u = .slice (some c) 0 cap ∧ l = 0 := by
  cases h with
  | leaf _ hl => simp [SakAm.leaf] at hl
  | empty _ _ _ cap c => exact ⟨c, cap, rfl, rfl⟩

theorem VRel.agg_inv {xs : Array Value} {u : Value} (h : VRel P φ H (.agg xs) u) :
    ∃ ys : Array Value, u = .agg ys ∧ xs.size = ys.size ∧ ∀ i, i < xs.size → VRel P φ H (xs.getD i undef) (ys.getD i undef) := by
  cases h with
  | leaf _ hl => simp [SakAm.leaf] at hl
  | agg _ ys hs h => exact ⟨ys, rfl, hs, h⟩

theorem VRel.tuple_inv {xs : Array Value} {u : Value} (h : VRel P φ H (.tuple xs) u) :
    ∃ ys : Array Value, u = .tuple ys ∧ xs.size = ys.size ∧ ∀ i, i < xs.size → VRel P φ H (xs.getD i undef) (ys.getD i undef) := by
  cases h with
  | leaf _ hl => simp [SakAm.leaf] at hl
  | tuple _ ys hs h => exact ⟨ys, rfl, hs, h⟩

theorem VRel.func_inv {f : FuncId} {xs cs : Array Value} {u : Value} (h : VRel P φ H (.func (.func f) xs cs) u) :
    ∃ ys ds : Array Value, u = .func (.func f) ys ds ∧ xs.size = ys.size ∧ cs.size = ds.size ∧
      (∀ i, i < xs.size → VRel P φ H (xs.getD i undef) (ys.getD i undef)) ∧ (∀ i, i < cs.size → VRel P φ H (cs.getD i undef) (ds.getD i undef)) := by
  cases h with
  | leaf _ hl =>
    simp only [SakAm.leaf, Bool.and_eq_true, Array.isEmpty_iff] at hl
    obtain ⟨rfl, rfl⟩ := hl
    exact ⟨#[], #[], rfl, rfl, rfl, fun i hi => by simp at hi, fun i hi => by simp at hi⟩
  | func _ _ ys _ ds hx hc h1 h2 => exact ⟨ys, ds, rfl, hx, hc, h1, h2⟩

/-- Lists of values, one by one. -/
inductive LRel (P : Program) (φ : Nat → Place) (H : Heap) : List Value → List Value → Prop where
  | nil : LRel P φ H [] []
  | cons {v u : Value} {l m : List Value} (h : VRel P φ H v u) (t : LRel P φ H l m) : LRel P φ H (v :: l) (u :: m)

theorem LRel.ext (h : Ext φ H φ' H') {l m : List Value} (hl : LRel P φ H l m) : LRel P φ' H' l m := by
  induction hl with
  | nil => exact .nil
  | cons h1 _ ih => exact .cons (h1.ext h) ih

theorem LRel.length {l m : List Value} (h : LRel P φ H l m) : l.length = m.length := by
  induction h with
  | nil => rfl
  | cons _ _ ih => simp [ih]

theorem LRel.get {l m : List Value} (h : LRel P φ H l m) : ∀ {i : Nat} {v : Value}, l[i]? = some v → ∃ u, m[i]? = some u ∧ VRel P φ H v u := by
  induction h with
  | nil => intro i v hi; simp at hi
  | cons h1 _ ih =>
    intro i v hi
    cases i with
    | zero => simp at hi; subst hi; exact ⟨_, rfl, h1⟩
    | succ i => simp at hi; simpa using ih hi

theorem lrel_of_get : ∀ {l m : List Value}, l.length = m.length → (∀ (i : Nat) (v u : Value), l[i]? = some v → m[i]? = some u → VRel P φ H v u) → LRel P φ H l m
  | [], [], _, _ => .nil
  | v :: l, u :: m, hl, h => .cons (h 0 v u rfl rfl) (lrel_of_get (by simpa using hl) fun i v u h1 h2 => h (i + 1) v u (by simpa using h1) (by simpa using h2))
  | [], _ :: _, hl, _ => by simp at hl
  | _ :: _, [], hl, _ => by simp at hl

theorem LRel.append {l m l' m' : List Value} (h : LRel P φ H l m) (k : LRel P φ H l' m') : LRel P φ H (l ++ l') (m ++ m') := by
  induction h with
  | nil => exact k
  | cons h1 _ ih => exact .cons h1 ih

theorem LRel.take {l m : List Value} (h : LRel P φ H l m) : ∀ n, LRel P φ H (l.take n) (m.take n) := by
  induction h with
  | nil => intro n; simp; exact .nil
  | cons h1 _ ih =>
    intro n
    cases n with
    | zero => exact .nil
    | succ n => exact .cons h1 (ih n)

theorem LRel.drop {l m : List Value} (h : LRel P φ H l m) : ∀ n, LRel P φ H (l.drop n) (m.drop n) := by
  induction h with
  | nil => intro n; simp; exact .nil
  | cons h1 t ih =>
    intro n
    cases n with
    | zero => exact .cons h1 t
    | succ n => exact ih n

theorem lrel_of_arrays {xs ys : Array Value} (hs : xs.size = ys.size) (h : ∀ i, i < xs.size → VRel P φ H (xs.getD i undef) (ys.getD i undef)) :
    LRel P φ H xs.toList ys.toList := by
  refine lrel_of_get (by simpa using hs) fun i v u h1 h2 => ?_
  have hi : i < xs.size := by have := (List.getElem?_eq_some_iff.1 h1).1; simpa using this
  have := h i hi
  rw [Array.getD_eq_getD_getElem?, Array.getD_eq_getD_getElem?] at this
  rw [Array.getElem?_toList] at h1 h2
  rw [h1, h2] at this
  exact this

theorem arrays_of_lrel {l m : List Value} (h : LRel P φ H l m) :
    l.toArray.size = m.toArray.size ∧ ∀ i, i < l.toArray.size → VRel P φ H (l.toArray.getD i undef) (m.toArray.getD i undef) := by
  refine ⟨by simpa using h.length, fun i hi => ?_⟩
  have hi' : i < l.length := by simpa using hi
  obtain ⟨u, hu, hr⟩ := h.get (List.getElem?_eq_getElem hi')
  rw [Array.getD_eq_getD_getElem?, Array.getD_eq_getD_getElem?, List.getElem?_toArray, List.getElem?_toArray, hu, List.getElem?_eq_getElem hi']
  exact hr

theorem agg_of_lrel {l m : List Value} (h : LRel P φ H l m) : VRel P φ H (.agg l.toArray) (.agg m.toArray) :=
  .agg _ _ (arrays_of_lrel h).1 (arrays_of_lrel h).2
theorem tuple_of_lrel {l m : List Value} (h : LRel P φ H l m) : VRel P φ H (.tuple l.toArray) (.tuple m.toArray) :=
  .tuple _ _ (arrays_of_lrel h).1 (arrays_of_lrel h).2

theorem VRel.cells {v u : Value} (h : VRel P φ H v u) : LRel P φ H (cellsOf v) (cellsOf u) := by
  cases h with
  | leaf _ hl =>
    cases v <;> first | exact .cons (.leaf _ hl) .nil | (simp [SakAm.leaf] at hl; done)
  | ptr i o vr b c hb hv hc => exact .cons (.ptr i o vr b c hb hv hc) .nil
  | slice i o vr l f b c cap hb hv hl hc => exact .cons (.slice i o vr l f b c cap hb hv hl hc) .nil
  | empty i o f cap c => exact .cons (.empty i o f cap c) .nil
  | func f xs ys cs ds hx hc h1 h2 => exact .cons (.func f xs ys cs ds hx hc h1 h2) .nil
  | agg xs ys hs h => exact lrel_of_arrays hs h
  | tuple xs ys hs h => exact .cons (.tuple xs ys hs h) .nil

theorem VRel.one {v u : Value} (h : VRel P φ H v u) : SakAm.one u = SakAm.one v := by
  cases h <;> rfl

theorem LRel.one {l m : List Value} (h : LRel P φ H l m) : m.all SakAm.one = l.all SakAm.one := by
  induction h with
  | nil => rfl
  | cons h1 _ ih => simp only [List.all_cons, ih, h1.one]

theorem lrel_leaves {l : List Value} (h : l.all leaf = true) : LRel P φ H l l := by
  induction l with
  | nil => exact .nil
  | cons v r ih =>
    simp only [List.all_cons, Bool.and_eq_true] at h
    exact .cons (.leaf v h.1) (ih h.2)

theorem VRel.plain {v : Value} (h : plain v = true) : VRel P φ H v v := by
  have hlist : ∀ xs : Array Value, xs.all SakAm.leaf = true → ∀ i, i < xs.size → VRel P φ H (xs.getD i undef) (xs.getD i undef) := by
    intro xs hx i hi
    refine .leaf _ ?_
    rw [Array.getD_eq_getD_getElem?, Array.getElem?_eq_getElem hi]
    exact (Array.all_eq_true.1 hx) i hi
  cases v with
  | agg xs => exact .agg xs xs rfl (hlist xs h)
  | tuple xs =>
    refine .tuple xs xs rfl fun i hi => ?_
    have := (Array.all_eq_true.1 h) i hi
    rw [Array.getD_eq_getD_getElem?, Array.getElem?_eq_getElem hi]
    simp only [Option.getD_some]
    generalize xs[i] = x at this
    cases x with
    | agg ys => exact .agg ys ys rfl (hlist ys this)
    | _ => exact .leaf _ this
  | _ => exact .leaf _ h

theorem plain_inv {v u : Value} (h : VRel P φ H v u) (hp : SakAm.plain v = true) : u = v := by
  have hlist : ∀ xs ys : Array Value, xs.all SakAm.leaf = true → xs.size = ys.size → (∀ i, i < xs.size → VRel P φ H (xs.getD i undef) (ys.getD i undef)) → ys = xs := by
    intro xs ys hx hs hr
    refine Array.ext hs.symm fun i h1 h2 => ?_
    have h3 := hr i h2
    rw [Array.getD_eq_getD_getElem?, Array.getD_eq_getD_getElem?, Array.getElem?_eq_getElem h1, Array.getElem?_eq_getElem h2] at h3
    exact h3.leaf_inv ((Array.all_eq_true.1 hx) i h2)
  cases v with
  | agg xs =>
    obtain ⟨ys, rfl, hs, hr⟩ := h.agg_inv
    rw [hlist xs ys hp hs hr]
  | tuple xs =>
    obtain ⟨ys, rfl, hs, hr⟩ := h.tuple_inv
    congr 1
    refine Array.ext hs.symm fun i h1 h2 => ?_
    have h3 := hr i h2
    rw [Array.getD_eq_getD_getElem?, Array.getD_eq_getD_getElem?, Array.getElem?_eq_getElem h1, Array.getElem?_eq_getElem h2] at h3
    simp only [Option.getD_some] at h3
    have := (Array.all_eq_true.1 hp) i h2
    generalize xs[i] = x at this h3
    cases x with
    | agg zs =>
      obtain ⟨ws, e, hs', hr'⟩ := h3.agg_inv
      rw [e, hlist zs ws this hs' hr']
    | _ => exact h3.leaf_inv this
  | _ => exact h.leaf_inv hp
end
end Go.Proofs.SakAm

namespace Go.Proofs.SakAm
set_option linter.unusedSectionVars false
set_option linter.unusedVariables false
set_option linter.unusedSimpArgs false
open Go
open Go.RowKit (Below)

/-- What is known of the world in which a call began: what its package variables hold. -/
class Tabs where
  good : Nat → World → Prop
  keep : ∀ {B : Nat} {w0 w : World}, good B w0 → B ≤ w0.heap.size → Below B w0 w → good w.heap.size w

variable [Tabs]

/-- The abstract heap and the model's world. B, w0: what lay below B in w0 lies there still. -/
structure Rel (P : Program) (B : Nat) (w0 : World) (φ : Nat → Place) (H : Heap) (w : World) : Prop where
  bel : Below B w0 w
  base : B ≤ w0.heap.size ∧ Tabs.good B w0
  cell : ∀ i b, H.get i = some b → ∃ c e fz, w.heap[(φ i).at_]? = some (.cells c e fz) ∧ (φ i).off + b.cells.length ≤ c.size ∧
    (∀ j v, b.cells[j]? = some v → one v = true ∧ ∃ u, c[(φ i).off + j]? = some u ∧ VRel P φ H v u) ∧
    (b.ro = false → (φ i).off = 0 ∧ (φ i).size = c.size ∧ e = b.elem ∧ fz = (0, 0) ∧ B ≤ (φ i).at_)
  inj : ∀ i j b b', H.get i = some b → H.get j = some b' → b.ro = false → (φ i).at_ = (φ j).at_ → i = j

theorem Rel.size {P : Program} {B : Nat} {w0 w : World} {φ : Nat → Place} {H : Heap} (R : Rel P B w0 φ H w) : B ≤ w.heap.size :=
  Nat.le_trans R.base.1 R.bel.size

/-- Frames: what each temporary has. -/
def FrRel (P : Program) (φ : Nat → Place) (H : Heap) (nt : Nat) (a : Fr) (tmps : Array Value) : Prop :=
  tmps.size = nt ∧ ∀ t, VRel P φ H (a t) (tmps.getD t undef)

section
variable {P : Program} {B : Nat} {w0 w : World} {φ φ' : Nat → Place} {H H' : Heap}

theorem blk_eq {i vr : Nat} {b : Blk} (h : blk H i vr = some b) : H.get i = some b ∧ b.ver = vr := by
  simp only [blk, Option.bind_eq_some_iff] at h
  obtain ⟨b', h1, h2⟩ := h
  split at h2
  · rename_i hv; cases h2; exact ⟨h1, hv⟩
  · cases h2

theorem Rel.cell_at (R : Rel P B w0 φ H w) {i : Nat} {b : Blk} (hb : H.get i = some b) {j : Nat} {v : Value} (hj : b.cells[j]? = some v) :
    ∃ u, w.cell? ⟨(φ i).at_, (φ i).off + j, none⟩ = some u ∧ VRel P φ H v u ∧ one v = true := by
  obtain ⟨c, e, fz, hw, hl, hc, _⟩ := R.cell i b hb
  obtain ⟨h1, u, h2, h3⟩ := hc j v hj
  exact ⟨u, by simp [World.cell?, hw, h2], h3, h1⟩

theorem addr_add (a o n : Nat) : Addr.add ⟨a, o, none⟩ n = ⟨a, o + n, none⟩ := by
  unfold Addr.add
  split
  · rename_i h; simp [h]
  · rfl

/-- Cells read one behind the other. -/
theorem run_loadCellsFrom (a o : Nat) (us : List Value) : ∀ (i : Nat) (acc : Array Value) (w : World),
    (∀ j u, us[j]? = some u → w.cell? ⟨a, o + (i + j), none⟩ = some u) →
    (loadCellsFrom ⟨a, o, none⟩ i us.length acc).run P w = .ok (acc ++ us.toArray) w := by
  induction us with
  | nil => intro i acc w _; simp [loadCellsFrom, pure]
  | cons u r ih =>
    intro i acc w h
    have h0 := h 0 u rfl
    have := ih (i + 1) (acc.push u) w (fun j v hj => by
      have := h (j + 1) v (by simpa using hj)
      rw [show i + 1 + j = i + (j + 1) from by omega]; exact this)
    simp only [List.length_cons, loadCellsFrom, load, bind, Sem.bind, Sem.run, addr_add]
    rw [show o + i = o + (i + 0) from rfl, h0]
    simp only [this]
    congr 1
    simp

theorem run_loadCells (a o : Nat) (us : List Value) (w : World) (h : ∀ j u, us[j]? = some u → w.cell? ⟨a, o + j, none⟩ = some u) :
    (loadCells ⟨a, o, none⟩ us.length).run P w = .ok us.toArray w := by
  unfold loadCells
  rw [run_loadCellsFrom a o us 0 #[] w (fun j u hj => by rw [Nat.zero_add]; exact h j u hj)]
  simp

/-- The cells of an abstract block from o on, as the model's. -/
theorem Rel.cells_at (R : Rel P B w0 φ H w) {i : Nat} {b : Blk} (hb : H.get i = some b) (o n : Nat) (hn : o + n ≤ b.cells.length) :
    ∃ us : List Value, us.length = n ∧ LRel P φ H ((b.cells.drop o).take n) us ∧ (∀ j u, us[j]? = some u → w.cell? ⟨(φ i).at_, (φ i).off + o + j, none⟩ = some u) := by
  obtain ⟨c, e, fz, hw, hl, hc, _⟩ := R.cell i b hb
  refine ⟨(c.toList.drop ((φ i).off + o)).take n, ?_, ?_, ?_⟩
  · simp; omega
  · refine lrel_of_get ?_ fun j v u h1 h2 => ?_
    · simp; omega
    · rw [List.getElem?_take] at h1 h2
      split at h1
      · rename_i hj
        rw [if_pos hj, List.getElem?_drop] at h2
        rw [List.getElem?_drop] at h1
        obtain ⟨_, u', h3, h4⟩ := hc _ v h1
        rw [Array.getElem?_toList, show (φ i).off + o + j = (φ i).off + (o + j) from by omega, h3] at h2
        injection h2 with h2
        exact h2 ▸ h4
      · cases h1
  · intro j u hj
    rw [List.getElem?_take] at hj
    split at hj
    · rw [List.getElem?_drop, Array.getElem?_toList] at hj
      simp [World.cell?, hw, hj]
    · cases hj

/-- Cells written one behind the other. -/
theorem run_storeCells (a o : Nat) (us : List Value) : ∀ (i : Nat) (w : World) (c : Array Value) (e : TypeId),
    w.heap[a]? = some (.cells c e (0, 0)) → o + i + us.length ≤ c.size → us.all one = true →
    ∃ c', (storeCells ⟨a, o, none⟩ us i).run P w = .ok () { w with heap := w.heap.setIfInBounds a (.cells c' e (0, 0)) } ∧ c'.size = c.size ∧
      ∀ j, c'[j]? = if o + i ≤ j ∧ j < o + i + us.length then us[j - (o + i)]? else c[j]? := by
  induction us with
  | nil =>
    intro i w c e hw hl _
    refine ⟨c, ?_, rfl, fun j => ?_⟩
    · have : w.heap.setIfInBounds a (.cells c e (0, 0)) = w.heap := by
        refine Array.ext_getElem? fun k => ?_
        rw [Array.getElem?_setIfInBounds]
        split
        · rename_i hk; subst hk
          split
          · exact hw.symm
          · rename_i h2; rw [Array.getElem?_eq_none (by omega)] at hw; exact absurd hw (by simp)
        · rfl
      simp [storeCells, pure, this]
    · rw [if_neg (by simp only [List.length_nil]; omega)]
  | cons u r ih =>
    intro i w c e hw hl ho
    simp only [List.all_cons, Bool.and_eq_true] at ho
    simp only [List.length_cons] at hl
    have hlt : a < w.heap.size := by
      rcases Nat.lt_or_ge a w.heap.size with h | h
      · exact h
      · rw [Array.getElem?_eq_none h] at hw; cases hw
    have hcell : w.cell? ⟨a, o + i, none⟩ = some (c[o + i]'(by omega)) := by
      simp [World.cell?, hw, Array.getElem?_eq_getElem (show o + i < c.size by omega)]
    have hfz : w.frozen? ⟨a, o + i, none⟩ = false := by
      simp [World.frozen?, hw]
    have hset : w.setCell ⟨a, o + i, none⟩ u = { w with heap := w.heap.setIfInBounds a (.cells (c.setIfInBounds (o + i) u) e (0, 0)) } := by
      simp only [World.setCell]
      congr 1
      refine Array.ext_getElem? fun k => ?_
      rw [Array.getElem?_modify, Array.getElem?_setIfInBounds]
      by_cases hk : a = k
      · subst hk
        rw [if_pos rfl, if_pos rfl, if_pos hlt, hw]
        simp
      · rw [if_neg hk, if_neg hk]
    obtain ⟨c', h1, h2, h3⟩ := ih (i + 1) { w with heap := w.heap.setIfInBounds a (.cells (c.setIfInBounds (o + i) u) e (0, 0)) } (c.setIfInBounds (o + i) u) e
      (by simp [hlt]) (by simp; omega) ho.2
    refine ⟨c', ?_, by simpa using h2, fun j => ?_⟩
    · have hstore : (store ⟨a, o + i, none⟩ u).run P w = .ok () (w.setCell ⟨a, o + i, none⟩ u) := by
        cases u <;> simp_all [store, Sem.run, SakAm.one]
      have hb : (storeCells ⟨a, o, none⟩ (u :: r) i).run P w = (storeCells ⟨a, o, none⟩ r (i + 1)).run P (w.setCell ⟨a, o + i, none⟩ u) := by
        have e1 : storeCells ⟨a, o, none⟩ (u :: r) i = (store ⟨a, o + i, none⟩ u).bind fun _ => storeCells ⟨a, o, none⟩ r (i + 1) := by
          simp [storeCells, bind, addr_add]
        rw [e1]
        cases u <;> simp_all [store, Sem.run, Sem.bind, SakAm.one]
      rw [hb, hset, h1]
      simp
    · rw [h3 j]
      by_cases hj : o + (i + 1) ≤ j ∧ j < o + (i + 1) + r.length
      · rw [if_pos hj, if_pos (by simp; omega)]
        rw [show j - (o + i) = (j - (o + (i + 1))) + 1 from by omega]
        simp
      · rw [if_neg hj, Array.getElem?_setIfInBounds]
        by_cases hj2 : o + i = j
        · subst hj2
          rw [if_pos rfl, if_pos (by omega), if_pos (by simp)]
          simp
        · rw [if_neg hj2, if_neg (by simp; omega)]
end
end Go.Proofs.SakAm

namespace Go.Proofs.SakAm
set_option linter.unusedVariables false
set_option linter.unusedSimpArgs false
open Go
open Go.RowKit (Below)
set_option linter.unusedSectionVars false
variable [Tabs]

section
variable {P : Program} {B : Nat} {w0 w : World} {φ φ' : Nat → Place} {H H' : Heap}

theorem get_upd (H : Heap) (i j : Nat) (b : Blk) : (H.upd i b).get j = if j = i ∧ i < H.next then some b else H.get j := rfl
theorem next_upd (H : Heap) (i : Nat) (b : Blk) : (H.upd i b).next = H.next := rfl
theorem get_upd_live {i : Nat} {b b' : Blk} (h : H.get i = some b) (j : Nat) : (H.upd i b').get j = if j = i then some b' else H.get j := by
  rw [get_upd]
  by_cases hj : j = i
  · rw [if_pos ⟨hj, Heap.lt_of_get h⟩, if_pos hj]
  · rw [if_neg (fun x => hj x.1), if_neg hj]

theorem ext_upd {i : Nat} {b b' : Blk} (hb : H.get i = some b) (hv : b.ver ≤ b'.ver) (φ' : Nat → Place) (ho : ∀ j, j ≠ i → φ' j = φ j)
    (hs : b'.ver = b.ver → φ' i = φ i ∧ b'.elem = b.elem ∧ b'.ro = b.ro) : Ext φ H φ' (H.upd i b') := by
  refine ⟨Nat.le_refl _, fun j c hc => ?_⟩
  rw [get_upd_live hb]
  by_cases hj : j = i
  · subst hj
    rw [if_pos rfl]
    rw [hb] at hc; cases hc
    exact ⟨b', rfl, hv, hs⟩
  · rw [if_neg hj]
    exact ⟨c, hc, Nat.le_refl _, fun _ => ⟨ho j hj, rfl, rfl⟩⟩

/-- A block of the model's heap is written anew. -/
theorem below_set (R : Rel P B w0 φ H w) {k : Nat} (hk : B ≤ k) (o : Obj) : Below B w0 { w with heap := w.heap.setIfInBounds k o } := by
  refine ⟨R.bel.os, R.bel.tape, R.bel.output, by simpa using R.bel.size, fun j hj => ?_⟩
  simp only
  rw [Array.getElem?_setIfInBounds, if_neg (by omega)]
  exact R.bel.block j hj

theorem below_push (R : Rel P B w0 φ H w) (o : Obj) : Below B w0 { w with heap := w.heap.push o } := by
  have h1 := R.bel.size
  have h2 := R.base
  refine ⟨R.bel.os, R.bel.tape, R.bel.output, by simp; omega, fun j hj => ?_⟩
  simp only
  rw [Array.getElem?_push, if_neg (by omega)]
  exact R.bel.block j hj

/-- An owned block's cells turn. -/
theorem Rel.upd (R : Rel P B w0 φ H w) {i : Nat} {b b' : Blk} (hb : H.get i = some b) (ho : b.ro = false) (ho' : b'.ro = false) (he : b'.elem = b.elem)
    (hv : b.ver ≤ b'.ver) (c' : Array Value) (hs : c'.size = (φ i).size) (hl : b'.cells.length ≤ c'.size)
    (hc : ∀ (j : Nat) (v : Value), b'.cells[j]? = some v → one v = true ∧ ∃ u, c'[j]? = some u ∧ VRel P φ (H.upd i b') v u) :
    Rel P B w0 φ (H.upd i b') { w with heap := w.heap.setIfInBounds (φ i).at_ (.cells c' b.elem (0, 0)) } := by
  have hext : Ext φ H φ (H.upd i b') := ext_upd hb hv φ (fun _ _ => rfl) (fun _ => ⟨rfl, he, by rw [ho, ho']⟩)
  obtain ⟨c, e, fz, hw, _, _, hown⟩ := R.cell i b hb
  obtain ⟨h0, _, _, _, hB⟩ := hown ho
  have hlt : (φ i).at_ < w.heap.size := by
    rcases Nat.lt_or_ge (φ i).at_ w.heap.size with h | h
    · exact h
    · rw [Array.getElem?_eq_none h] at hw; cases hw
  refine ⟨below_set R hB _, R.base, fun j d hd => ?_, fun j k d d' hd hd' hr ha => ?_⟩
  · rw [get_upd_live hb] at hd
    by_cases hj : j = i
    · subst hj
      rw [if_pos rfl] at hd; cases hd
      refine ⟨c', b.elem, (0, 0), by simp [hlt], by omega, fun k v hk => ?_, fun _ => ⟨h0, hs.symm, he.symm, rfl, hB⟩⟩
      obtain ⟨h1, u, h2, h3⟩ := hc k v hk
      exact ⟨h1, u, by rw [h0, Nat.zero_add]; exact h2, h3⟩
    · rw [if_neg hj] at hd
      obtain ⟨c2, e2, fz2, hw2, hl2, hc2, ho2⟩ := R.cell j d hd
      have hne : (φ i).at_ ≠ (φ j).at_ := fun h => hj (R.inj i j b d hb hd ho h).symm
      refine ⟨c2, e2, fz2, ?_, hl2, fun k v hk => ?_, ho2⟩
      · simp only
        rw [Array.getElem?_setIfInBounds, if_neg hne]; exact hw2
      · obtain ⟨h1, u, h2, h3⟩ := hc2 k v hk
        exact ⟨h1, u, h2, h3.ext hext⟩
  · have get : ∀ {k : Nat} {d : Blk}, (H.upd i b').get k = some d → ∃ d0, H.get k = some d0 ∧ (d.ro = false → d0.ro = false) := by
      intro k d hd
      rw [get_upd_live hb] at hd
      split at hd
      · rename_i h; subst h; exact ⟨b, hb, fun _ => ho⟩
      · exact ⟨d, hd, id⟩
    obtain ⟨d0, g1, g2⟩ := get hd
    obtain ⟨d1, g3, _⟩ := get hd'
    exact R.inj j k d0 d1 g1 g3 (g2 hr) ha

/-- Where block id lies now. -/
def lay (φ : Nat → Place) (id : Nat) (p : Place) : Nat → Place := fun j => if j = id then p else φ j

theorem heap_lt {k : Nat} {o : Obj} (h : w.heap[k]? = some o) : k < w.heap.size := by
  rcases Nat.lt_or_ge k w.heap.size with h1 | h1
  · exact h1
  · rw [Array.getElem?_eq_none h1] at h; cases h

/-- A block goes into new memory: a new one, or one that grew. -/
theorem Rel.fresh (R : Rel P B w0 φ H w) {id : Nat} {b : Blk} (hb : ∀ j, H'.get j = if j = id then some b else H.get j)
    (hold : ∀ b0, H.get id = some b0 → b0.ver < b.ver) (hn : H.next ≤ H'.next) (c : Array Value) (hl : b.cells.length ≤ c.size)
    (hc : ∀ (j : Nat) (v : Value), b.cells[j]? = some v → one v = true ∧ ∃ u, c[j]? = some u ∧ VRel P φ H v u) :
    Rel P B w0 (lay φ id ⟨w.heap.size, 0, c.size⟩) H' { w with heap := w.heap.push (.cells c b.elem (0, 0)) } ∧ Ext φ H (lay φ id ⟨w.heap.size, 0, c.size⟩) H' := by
  have hext : Ext φ H (lay φ id ⟨w.heap.size, 0, c.size⟩) H' := by
    refine ⟨hn, fun j d hd => ?_⟩
    rw [hb]
    by_cases hj : j = id
    · subst hj
      rw [if_pos rfl]
      have := hold d hd
      exact ⟨b, rfl, by omega, fun h => by omega⟩
    · rw [if_neg hj]
      exact ⟨d, hd, Nat.le_refl _, fun _ => ⟨by simp [lay, hj], rfl, rfl⟩⟩
  refine ⟨⟨below_push R _, R.base, fun j d hd => ?_, fun j k d d' hd hd' hr ha => ?_⟩, hext⟩
  · rw [hb] at hd
    by_cases hj : j = id
    · subst hj
      rw [if_pos rfl] at hd; cases hd
      refine ⟨c, b.elem, (0, 0), by simp [lay], by simp [lay]; omega, fun k v hk => ?_, fun _ => ⟨by simp [lay], by simp [lay], rfl, rfl, by simpa [lay] using R.size⟩⟩
      obtain ⟨h1, u, h2, h3⟩ := hc k v hk
      exact ⟨h1, u, by simpa [lay] using h2, h3.ext hext⟩
    · rw [if_neg hj] at hd
      obtain ⟨c2, e2, fz2, hw2, hl2, hc2, ho2⟩ := R.cell j d hd
      have hlt := heap_lt hw2
      refine ⟨c2, e2, fz2, ?_, by simpa [lay, hj] using hl2, fun k v hk => ?_, by simpa [lay, hj] using ho2⟩
      · simp only [lay, if_neg hj]
        rw [Array.getElem?_push, if_neg (by omega)]; exact hw2
      · obtain ⟨h1, u, h2, h3⟩ := hc2 k v hk
        exact ⟨h1, u, by simpa [lay, hj] using h2, h3.ext hext⟩
  · rw [hb] at hd hd'
    by_cases hj : j = id
    · by_cases hk : k = id
      · rw [hj, hk]
      · rw [if_neg hk] at hd'
        obtain ⟨_, _, _, hw2, _⟩ := R.cell k d' hd'
        have := heap_lt hw2
        simp [lay, hj, hk] at ha
        omega
    · by_cases hk : k = id
      · rw [if_neg hj] at hd
        obtain ⟨_, _, _, hw2, _⟩ := R.cell j d hd
        have := heap_lt hw2
        simp [lay, hj, hk] at ha
        omega
      · rw [if_neg hj] at hd
        rw [if_neg hk] at hd'
        simp only [lay, if_neg hj, if_neg hk] at ha
        exact R.inj j k d d' hd hd' hr ha

theorem mkAt_spec {nid : Option Nat} {b : Blk} {id : Nat} (h : mkAt H nid b = some (id, H')) :
    H.get id = none ∧ (∀ j, H'.get j = if j = id then some b else H.get j) ∧ H.next ≤ H'.next := by
  cases nid with
  | none =>
    simp only [mkAt, Option.some.injEq, Prod.mk.injEq] at h
    obtain ⟨rfl, rfl⟩ := h
    exact ⟨H.wf _ (Nat.le_refl _), fun j => rfl, by simp [Heap.new]⟩
  | some i =>
    simp only [mkAt] at h
    split at h
    · rename_i hg
      split at h
      · rename_i hlt
        simp only [Option.some.injEq, Prod.mk.injEq] at h
        obtain ⟨rfl, rfl⟩ := h
        refine ⟨hg, fun j => ?_, Nat.le_refl _⟩
        rw [get_upd]
        by_cases hj : j = i
        · rw [if_pos ⟨hj, hlt⟩, if_pos hj]
        · rw [if_neg (fun x => hj x.1), if_neg hj]
      · cases h
    · cases h

/-- A new block of the model's, for a new block. -/
theorem Rel.made (R : Rel P B w0 φ H w) {nid : Option Nat} {b : Blk} {id : Nat} (h : mkAt H nid b = some (id, H')) (h1 : b.cells.all one = true)
    (us : List Value) (hr : LRel P φ H b.cells us) :
    Rel P B w0 (lay φ id ⟨w.heap.size, 0, us.length⟩) H' { w with heap := w.heap.push (.cells us.toArray b.elem (0, 0)) } ∧
      Ext φ H (lay φ id ⟨w.heap.size, 0, us.length⟩) H' := by
  obtain ⟨m1, m2, m3⟩ := mkAt_spec h
  have := R.fresh m2 (fun b0 hb0 => by rw [m1] at hb0; cases hb0) m3 us.toArray (by simp [hr.length]) (fun j v hj => by
    obtain ⟨u, hu, hvu⟩ := hr.get hj
    exact ⟨(List.all_eq_true.1 h1) v (List.mem_of_getElem? hj), u, by simpa using hu, hvu⟩)
  simpa using this

theorem Rel.drawn (R : Rel P B w0 φ H w) (n : Nat) : Rel P B w0 φ H { w with drawn := n } :=
  ⟨⟨R.bel.os, R.bel.tape, R.bel.output, R.bel.size, R.bel.block⟩, R.base, R.cell, R.inj⟩

theorem Rel.reserve (R : Rel P B w0 φ H w) (k : Nat) : Rel P B w0 φ (H.reserve k) w ∧ Ext φ H φ (H.reserve k) := by
  have hext : Ext φ H φ (H.reserve k) := ⟨by simp [Heap.reserve], fun i b hb => ⟨b, hb, Nat.le_refl _, fun _ => ⟨rfl, rfl, rfl⟩⟩⟩
  refine ⟨⟨R.bel, R.base, fun i b hb => ?_, R.inj⟩, hext⟩
  obtain ⟨c, e, fz, h1, h2, h3, h4⟩ := R.cell i b hb
  exact ⟨c, e, fz, h1, h2, fun j v hj => by
    obtain ⟨k1, u, k2, k3⟩ := h3 j v hj
    exact ⟨k1, u, k2, k3.ext hext⟩, h4⟩

/-! ### Operands -/

theorem evo_rel {nt : Nat} {a : Fr} {act : Act} (F : FrRel P φ H nt a act.tmps) {x : Operand} {v : Value} (h : evo a x = some v) : VRel P φ H v (act.eval x) := by
  cases x with
  | tmp t => simp only [evo, Option.some.injEq] at h; subst h; exact F.2 t
  | const u =>
    simp only [evo] at h
    split at h
    · rename_i hp; cases h; exact VRel.plain hp
    · cases h
  | func f => simp only [evo, Option.some.injEq] at h; subst h; exact .leaf _ rfl
  | global g => simp [evo] at h

theorem evs_rel {nt : Nat} {a : Fr} {act : Act} (F : FrRel P φ H nt a act.tmps) : ∀ {l : List Operand} {vs : List Value}, evs a l = some vs → LRel P φ H vs (l.map act.eval)
  | [], vs, h => by simp only [evs, Option.some.injEq] at h; subst h; exact .nil
  | x :: r, vs, h => by
    simp only [evs, Option.bind_eq_some_iff] at h
    obtain ⟨v, h1, vs', h2, h3⟩ := h
    cases h3
    exact .cons (evo_rel F h1) (evs_rel F h2)

theorem FrRel.ext (h : Ext φ H φ' H') {nt : Nat} {a : Fr} {tmps : Array Value} (F : FrRel P φ H nt a tmps) : FrRel P φ' H' nt a tmps :=
  ⟨F.1, fun t => (F.2 t).ext h⟩

theorem FrRel.put {nt : Nat} {a a' : Fr} {act : Act} (F : FrRel P φ H nt a act.tmps) {d : Option Tmp} {v u : Value} (hd : dst nt a d v = some a') (hv : VRel P φ H v u) :
    FrRel P φ H nt a' (act.put d u).tmps := by
  cases d with
  | none => simp only [dst, Option.some.injEq] at hd; subst hd; exact F
  | some d =>
    simp only [dst] at hd
    split at hd
    · rename_i hlt
      cases hd
      refine ⟨by simp [Act.put, F.1], fun t => ?_⟩
      have hsz := F.1
      simp only [SakAm.put, Act.put, Array.getD_eq_getD_getElem?, Array.getElem?_setIfInBounds]
      by_cases ht : t = d
      · subst ht
        rw [if_pos rfl, if_pos rfl, if_pos (by rw [hsz]; exact hlt)]
        exact hv
      · rw [if_neg ht, if_neg (fun h => ht h.symm)]
        have := F.2 t
        rwa [Array.getD_eq_getD_getElem?] at this
    · cases hd
end
end Go.Proofs.SakAm

namespace Go.Proofs.SakAm
set_option linter.unusedVariables false
set_option linter.unusedSimpArgs false
open Go
open Go.RowKit (Below)
set_option linter.unusedSectionVars false
variable [Tabs]

section
variable {P : Program} {B : Nat} {w0 w : World} {φ : Nat → Place} {H : Heap}

/-! ### Types -/
theorem szOf_spec {t : TypeId} {g : Bool} {n : Nat} (h : szOf P t = some (g, n)) :
    (∀ w, (isAgg t).run P w = .ok g w) ∧ (∀ w, (sizeOf t).run P w = .ok n w) := by
  unfold szOf at h
  split at h
  · rename_i i h1 h2; cases h
    exact ⟨fun w => by simp [isAgg, underlying, h1], fun w => by simp [sizeOf, typeInfo, h2]⟩
  · rename_i i h1 h2; cases h
    exact ⟨fun w => by simp [isAgg, underlying, h1], fun w => by simp [sizeOf, typeInfo, h2]⟩
  · rename_i d i hs ha h1 h2; cases h
    refine ⟨fun w => ?_, fun w => by simp [sizeOf, typeInfo, h2]⟩
    simp only [isAgg, underlying, Sem.run_bind, run_program, Result.andThen_ok, h1, Sem.run_pure]
  · cases h

theorem sizeOfT_spec {t : TypeId} {n : Nat} (h : sizeOfT P t = some n) : (∀ w, (sizeOf t).run P w = .ok n w) ∧ P.cellsOf t = n := by
  simp only [sizeOfT, Option.map_eq_some_iff] at h
  obtain ⟨i, h1, rfl⟩ := h
  exact ⟨fun w => by simp [sizeOf, typeInfo, h1], by simp [Program.cellsOf, h1]⟩

theorem run_underlying_ok {t : TypeId} {d : TypeDesc} (h : P.underlying t = some d) (w : World) : (underlying t).run P w = .ok d w := by
  simp [underlying, h]

theorem zeroOf_spec {t : TypeId} {z : List Value} (h : zeroOf P t = some z) :
    ∃ v : Value, (∀ w, (zeroValue t).run P w = .ok v w) ∧ cellsOf v = z ∧ z.all leaf = true := by
  unfold zeroOf at h
  split at h
  · rename_i v hv
    split at h
    · rename_i hl; cases h
      simp only [Option.bind_eq_some_iff] at hv
      obtain ⟨i, h1, h2⟩ := hv
      exact ⟨v, fun w => by simp [zeroValue, typeInfo, h1, h2], rfl, hl⟩
    · cases h
  · cases h

theorem one_of_leaf {v : Value} (h : leaf v = true) : one v = true := by cases v <;> simp_all [leaf, one]
theorem all_one_of_leaf {l : List Value} (h : l.all leaf = true) : l.all one = true := by
  rw [List.all_eq_true] at h ⊢
  exact fun x hx => one_of_leaf (h x hx)

/-! ### Loads -/
theorem ld1_rel (R : Rel P B w0 φ H w) {p pC v : Value} (h : ld1 H p = some v) (hp : VRel P φ H p pC) :
    ∃ c u, pC = .pointer (some c) ∧ w.cell? c = some u ∧ VRel P φ H v u := by
  unfold ld1 at h
  split at h
  · rename_i i o vr
    simp only [Option.bind_eq_some_iff] at h
    obtain ⟨b, hb, hv⟩ := h
    obtain ⟨hb, hver⟩ := blk_eq hb
    obtain ⟨b', c, rfl, hb', _, hc⟩ := hp.ptr_inv
    rw [hb] at hb'; cases hb'
    obtain ⟨u, h1, h2, _⟩ := R.cell_at hb hv
    rw [hc hver.symm]
    exact ⟨_, u, rfl, h1, h2⟩
  · cases h

theorem ldA_rel (R : Rel P B w0 φ H w) {n : Nat} {p pC v : Value} (h : ldA H n p = some v) (hp : VRel P φ H p pC) :
    ∃ c u, pC = .pointer (some c) ∧ (loadCells c n).run P w = .ok u w ∧ VRel P φ H v (.agg u) := by
  unfold ldA at h
  split at h
  · rename_i i o vr
    simp only [Option.bind_eq_some_iff] at h
    obtain ⟨b, hb, hv⟩ := h
    obtain ⟨hb, hver⟩ := blk_eq hb
    split at hv
    · rename_i hn
      cases hv
      obtain ⟨b', c, rfl, hb', _, hc⟩ := hp.ptr_inv
      rw [hb] at hb'; cases hb'
      obtain ⟨us, h1, h2, h3⟩ := R.cells_at hb o n hn
      refine ⟨_, us.toArray, rfl, ?_, agg_of_lrel h2⟩
      rw [hc hver.symm, ← h1]
      exact run_loadCells _ _ us w h3
    · cases hv
  · cases h

theorem ldT_rel (R : Rel P B w0 φ H w) {t : TypeId} {p pC v : Value} (h : ldT P t H p = some v) (hp : VRel P φ H p pC) :
    ∃ u, (Instr.loadAt t pC).run P w = .ok u w ∧ VRel P φ H v u ∧ ∃ c, pC = .pointer (some c) ∧ (loadVar t c).run P w = .ok u w := by
  unfold ldT at h
  split at h
  · rename_i n hs
    obtain ⟨h1, h2⟩ := szOf_spec hs
    obtain ⟨c, u, rfl, h3, h4⟩ := ldA_rel R h hp
    have : (loadVar t c).run P w = .ok (.agg u) w := by simp [loadVar, h1, h2, h3]
    exact ⟨.agg u, by simp [Instr.loadAt, Instr.sureAddr, this], h4, c, rfl, this⟩
  · rename_i n hs
    obtain ⟨h1, h2⟩ := szOf_spec hs
    obtain ⟨c, u, rfl, h3, h4⟩ := ld1_rel R h hp
    have : (loadVar t c).run P w = .ok u w := by simp [loadVar, h1, h3]
    exact ⟨u, by simp [Instr.loadAt, Instr.sureAddr, this], h4, c, rfl, this⟩
  · cases h

/-! ### Stores -/
theorem ext_cells {i : Nat} {b : Blk} (hb : H.get i = some b) (cs : List Value) : Ext φ H φ (H.upd i { b with cells := cs }) :=
  ext_upd (b' := { b with cells := cs }) hb (Nat.le_refl _) φ (fun _ _ => rfl) (fun _ => ⟨rfl, rfl, rfl⟩)

theorem splice_get {l vs : List Value} {o : Nat} (h : o + vs.length ≤ l.length) (j : Nat) :
    (splice l o vs)[j]? = if o ≤ j ∧ j < o + vs.length then vs[j - o]? else l[j]? := by
  unfold splice
  by_cases h1 : j < o
  · rw [if_neg (by omega), List.append_assoc, List.getElem?_append_left (by simp; omega), List.getElem?_take, if_pos h1]
  · by_cases h2 : j < o + vs.length
    · rw [if_pos (by omega), List.append_assoc, List.getElem?_append_right (by simp; omega), List.getElem?_append_left (by simp; omega)]
      congr 1; simp; omega
    · rw [if_neg (by omega), List.getElem?_append_right (by simp; omega), List.getElem?_drop]
      congr 1; simp; omega

theorem splice_length {l vs : List Value} {o : Nat} (h : o + vs.length ≤ l.length) : (splice l o vs).length = l.length := by
  simp [splice]; omega

theorem set_eq_splice {l : List Value} {o : Nat} (v : Value) (h : o < l.length) : l.set o v = splice l o [v] := by
  refine List.ext_getElem? fun j => ?_
  rw [splice_get (by simp; omega), List.getElem?_set]
  by_cases hj : o = j
  · subst hj; simp [h]
  · rw [if_neg hj, if_neg (by simp; omega)]

theorem store_rel (R : Rel P B w0 φ H w) {i : Nat} {b : Blk} (hb : H.get i = some b) (hro : b.ro = false) {o : Nat} {vs us : List Value}
    (hl : o + vs.length ≤ b.cells.length) (h1 : vs.all one = true) (hr : LRel P φ H vs us) :
    ∃ w', (storeCells ⟨(φ i).at_, (φ i).off + o, none⟩ us).run P w = .ok () w' ∧ Rel P B w0 φ (H.upd i { b with cells := splice b.cells o vs }) w' := by
  obtain ⟨c, e, fz, hw, hlc, hc, hown⟩ := R.cell i b hb
  obtain ⟨h0, hs, rfl, rfl, hB⟩ := hown hro
  have hlen := hr.length
  obtain ⟨c', k1, k2, k3⟩ := run_storeCells (P := P) (φ i).at_ ((φ i).off + o) us 0 w c b.elem hw (by omega) (by rw [hr.one]; exact h1)
  refine ⟨_, k1, ?_⟩
  have hext : Ext φ H φ (H.upd i { b with cells := splice b.cells o vs }) := ext_cells hb _
  refine R.upd (b' := { b with cells := splice b.cells o vs }) hb hro hro rfl (Nat.le_refl _) c' (by omega) (by show (splice b.cells o vs).length ≤ _; rw [splice_length hl]; omega) fun j v hj => ?_
  replace hj : (splice b.cells o vs)[j]? = some v := hj
  rw [splice_get hl] at hj
  rw [k3 j]
  by_cases hj2 : o ≤ j ∧ j < o + vs.length
  · rw [if_pos hj2] at hj
    rw [if_pos (by omega)]
    obtain ⟨u, hu, hvu⟩ := hr.get hj
    exact ⟨(List.all_eq_true.1 h1) v (List.mem_of_getElem? hj), u, by rw [show j - ((φ i).off + o + 0) = j - o from by omega]; exact hu, hvu.ext hext⟩
  · rw [if_neg hj2] at hj
    rw [if_neg (by omega)]
    obtain ⟨g1, u, g2, g3⟩ := hc j v hj
    exact ⟨g1, u, by rw [h0, Nat.zero_add] at g2; exact g2, g3.ext hext⟩

theorem st1_rel (R : Rel P B w0 φ H w) {t : TypeId} {H' : Heap} {p pC v u : Value} (hs : szOf P t = some (false, 1)) (h : st1 H p v = some H') (hp : VRel P φ H p pC) (hv : VRel P φ H v u) :
    ∃ w', (Instr.storeAt t pC u).run P w = .ok () w' ∧ Rel P B w0 φ H' w' ∧ Ext φ H φ H' := by
  unfold st1 at h
  split at h
  · rename_i i o vr
    simp only [Option.bind_eq_some_iff] at h
    obtain ⟨b, hb, h⟩ := h
    obtain ⟨hb, hver⟩ := blk_eq hb
    split at h
    · rename_i hc
      obtain ⟨hro, hlt, hone⟩ := hc
      cases h
      obtain ⟨b', c, rfl, hb', _, hc⟩ := hp.ptr_inv
      rw [hb] at hb'; cases hb'
      obtain ⟨w', k1, k2⟩ := store_rel R hb hro (o := o) (vs := [v]) (us := [u]) (by simp; omega) (by simp [hone]) (.cons hv .nil)
      have hcu : u.cells = #[u] := by
        have := hv.one
        rw [hone] at this
        cases u <;> first | rfl | (simp [one] at this; done)
      refine ⟨w', ?_, by rw [set_eq_splice v hlt]; exact k2, ext_cells hb _⟩
      simp [Instr.storeAt, Instr.sureAddr, storeVar, (szOf_spec hs).2, hcu, hc hver.symm, k1]
    · cases h
  · cases h

theorem stA_rel (R : Rel P B w0 φ H w) {t : TypeId} {n : Nat} {H' : Heap} {p pC v u : Value} (hs : szOf P t = some (true, n)) (h : stA H n p v = some H') (hp : VRel P φ H p pC) (hv : VRel P φ H v u) :
    ∃ w', (Instr.storeAt t pC u).run P w = .ok () w' ∧ Rel P B w0 φ H' w' ∧ Ext φ H φ H' := by
  unfold stA at h
  split at h
  · rename_i i o vr
    simp only [Option.bind_eq_some_iff] at h
    obtain ⟨b, hb, h⟩ := h
    obtain ⟨hb, hver⟩ := blk_eq hb
    split at h
    · rename_i hc
      obtain ⟨hro, hle, hlen, hone⟩ := hc
      cases h
      obtain ⟨b', c, rfl, hb', _, hc⟩ := hp.ptr_inv
      rw [hb] at hb'; cases hb'
      obtain ⟨w', k1, k2⟩ := store_rel R hb hro (o := o) (vs := cellsOf v) (us := cellsOf u) (by omega) hone hv.cells
      refine ⟨w', ?_, k2, ext_cells hb _⟩
      have hsz : u.cells.size = n := by rw [← Array.length_toList, cells_eq, ← hv.cells.length, hlen]
      simp [Instr.storeAt, Instr.sureAddr, storeVar, (szOf_spec hs).2, hsz, hc hver.symm, cells_eq, k1]
    · cases h
  · cases h

/-! ### New blocks -/
theorem mkbox_rel (R : Rel P B w0 φ H w) {nid : Option Nat} {t : TypeId} {v u p : Value} {H' : Heap} (h : mkbox H nid t v = some (p, H')) (hv : LRel P φ H (cellsOf v) (cellsOf u)) :
    ∃ φ' w' pC, (newVar t u).run P w = .ok pC w' ∧ Rel P B w0 φ' H' w' ∧ Ext φ H φ' H' ∧ VRel P φ' H' p (.pointer (some pC)) := by
  unfold mkbox at h
  split at h
  · rename_i h1
    simp only [Option.bind_eq_some_iff] at h
    obtain ⟨⟨id, H1⟩, hm, h⟩ := h
    cases h
    obtain ⟨k1, k2⟩ := R.made hm h1 (cellsOf u) hv
    refine ⟨_, _, ⟨w.heap.size, 0, none⟩, ?_, k1, k2, ?_⟩
    · simp [newVar, newRow, ← cells_eq]
    · obtain ⟨m1, m2, m3⟩ := mkAt_spec hm
      refine .ptr _ _ _ _ _ ((m2 _).trans (if_pos rfl)) (Nat.le_refl _) fun _ => by simp [lay]
  · cases h

theorem mkrow_rel (R : Rel P B w0 φ H w) {nid : Option Nat} {e : TypeId} {n : Nat} {cs us : List Value} {p : Value} {H' : Heap} (h : mkrow H nid e n cs = some (p, H')) (hv : LRel P φ H cs us)
    (hn : n * P.cellsOf e ≤ cs.length) :
    ∃ φ' w' pC, (newRow e us.toArray).run P w = .ok pC w' ∧ Rel P B w0 φ' H' w' ∧ Ext φ H φ' H' ∧ VRel P φ' H' p (.slice (some pC) n n) := by
  unfold mkrow at h
  split at h
  · rename_i h1
    simp only [Option.bind_eq_some_iff] at h
    obtain ⟨⟨id, H1⟩, hm, h⟩ := h
    cases h
    obtain ⟨k1, k2⟩ := R.made hm h1 us hv
    have hl := hv.length
    refine ⟨_, _, ⟨w.heap.size, 0, none⟩, by simp [newRow], k1, k2, ?_⟩
    obtain ⟨m1, m2, m3⟩ := mkAt_spec hm
    refine .slice _ _ _ _ _ _ _ _ ((m2 _).trans (if_pos rfl)) (Nat.le_refl _) (Nat.le_refl _) fun _ _ => ⟨by simp [lay], fun _ _ => by simp [lay]; omega⟩
  · cases h
end
end Go.Proofs.SakAm

namespace Go.Proofs.SakAm
set_option linter.unusedVariables false
set_option linter.unusedSimpArgs false
open Go
open Go.RowKit (Below)
set_option linter.unusedSectionVars false
variable [Tabs]

section
variable {P : Program} {B : Nat} {w0 w : World} {φ : Nat → Place} {H : Heap}

theorem pureRun_ok {α : Type} {s : Sem α} {v : α} : pureRun P s = some v → ∀ w, s.run P w = .ok v w := by
  induction s with
  | pure a => intro h w; simp only [pureRun, Option.some.injEq] at h; subst h; rfl
  | program k ih => intro h w; simp only [pureRun] at h; simpa [Sem.run] using ih P h w
  | _ => intro h; simp [pureRun] at h

theorem onlyPlain_ok {x : Option Value} {v : Value} (h : onlyPlain x = some v) : x = some v ∧ plain v = true := by
  simp only [onlyPlain, Option.bind_eq_some_iff] at h
  obtain ⟨u, h1, h2⟩ := h
  split at h2
  · rename_i hp; cases h2; exact ⟨h1, hp⟩
  · cases h2

/-! ### Parts laid over cells -/
theorem foldl_cells (off : Nat) (us : List Value) : ∀ (k : Nat) (ys : List Value), off + k + us.length ≤ ys.length →
    (us.zipIdx k).foldl (fun (cs : Array Value) (p : Value × Nat) => cs.setIfInBounds (off + p.2) p.1) ys.toArray = (splice ys (off + k) us).toArray := by
  induction us with
  | nil => intro k ys h; simp [splice]
  | cons u r ih =>
    intro k ys h
    simp only [List.length_cons] at h
    simp only [List.zipIdx_cons, List.foldl_cons]
    have e1 : ys.toArray.setIfInBounds (off + k) u = (ys.set (off + k) u).toArray := by simp
    rw [e1, ih (k + 1) (ys.set (off + k) u) (by simp; omega)]
    congr 1
    refine List.ext_getElem? fun j => ?_
    rw [splice_get (by simp; omega), splice_get (by simp; omega), List.getElem?_set]
    simp only [List.length_cons]
    by_cases h1 : j = off + k
    · subst h1
      rw [if_neg (by omega), if_pos rfl, if_pos (by omega), if_pos (by omega)]
      simp
    · by_cases h2 : off + (k + 1) ≤ j ∧ j < off + (k + 1) + r.length
      · rw [if_pos h2, if_pos (by omega), show j - (off + k) = (j - (off + (k + 1))) + 1 from by omega]
        simp
      · rw [if_neg h2, if_neg (by omega), if_neg (by omega)]

theorem lrel_splice {xs ys vs us : List Value} (h : LRel P φ H xs ys) (k : LRel P φ H vs us) (o : Nat) : LRel P φ H (splice xs o vs) (splice ys o us) := by
  unfold splice
  rw [k.length]
  exact ((h.take o).append k).append (h.drop _)

theorem fill_rel {nt : Nat} {a : Fr} {act : Act} (F : FrRel P φ H nt a act.tmps) {pl : Nat → Option (Nat × Nat)} :
    ∀ {ps : List (Nat × Operand)} {l : List (Nat × Nat × Value)} {cs cs' ys : List Value}, partsOf pl a ps = some l → fillL cs l = some cs' → LRel P φ H cs ys →
      ∃ ys', Instr.fill pl ys.toArray (ps.map fun (p : Nat × Operand) => (p.1, act.eval p.2)) = some ys'.toArray ∧ LRel P φ H cs' ys'
  | [], l, cs, cs', ys, h1, h2, h3 => by
    simp only [partsOf, Option.some.injEq] at h1; subst h1
    simp only [fillL, Option.some.injEq] at h2; subst h2
    exact ⟨ys, rfl, h3⟩
  | (i, x) :: r, l, cs, cs', ys, h1, h2, h3 => by
    simp only [partsOf, Option.bind_eq_some_iff] at h1
    obtain ⟨p, hp, v, hv, l', hl, h1⟩ := h1
    cases h1
    simp only [fillL] at h2
    split at h2
    · rename_i hc
      obtain ⟨hc1, hc2⟩ := hc
      have hvr := evo_rel F hv
      obtain ⟨ys', k1, k2⟩ := fill_rel F hl h2 (lrel_splice h3 hvr.cells p.1)
      refine ⟨ys', ?_, k2⟩
      have hsz : (act.eval x).cells.size = p.2 := by rw [← Array.length_toList, cells_eq, ← hvr.cells.length, hc1]
      have hys := h3.length
      simp only [List.map_cons, Instr.fill, hp]
      rw [if_neg (by simp only [List.size_toArray]; simp [hsz]; omega)]
      rw [← k1]
      congr 1
      have := foldl_cells p.1 (cellsOf (act.eval x)) 0 ys (by rw [← hvr.cells.length, hc1]; omega)
      rw [← Array.foldl_toList, Array.toList_zipIdx, cells_eq]
      exact this
    · cases h2

theorem run_mapM_list {α β : Type} (f : α → Sem β) (g : α → β) (l : List α) (w : World) (h : ∀ x, x ∈ l → (f x).run P w = .ok (g x) w) :
    (l.mapM f).run P w = .ok (l.map g) w := by
  induction l with
  | nil => simp
  | cons x r ih =>
    rw [List.mapM_cons]
    simp only [Sem.run_bind, h x (by simp), Result.andThen_ok, ih (fun y hy => h y (by simp [hy])), Sem.run_pure, List.map_cons]

theorem run_mapM_array {α β : Type} (f : α → Sem β) (g : α → β) (l : Array α) (w : World) (h : ∀ x, x ∈ l → (f x).run P w = .ok (g x) w) :
    (l.mapM f).run P w = .ok (l.map g) w := by
  rw [Array.mapM_eq_mapM_toList]
  simp only [Sem.run_map, run_mapM_list f g l.toList w (fun x hx => h x (by simpa using hx)), Result.andThen_ok]
  congr 1
  apply Array.ext'; simp

theorem build_rel {nt : Nat} {a : Fr} {act : Act} (F : FrRel P φ H nt a act.tmps) {t : TypeId} {ps : List (Nat × Operand)} {z : List Value} {l : List (Nat × Nat × Value)} {cs : List Value}
    (h0 : structOk P t = true) (hz : zeroOf P t = some z) (hp : partsOf (placeOf P t) a ps = some l) (hf : fillL z l = some cs) :
    ∃ ys : List Value, (Instr.build t (ps.map fun (p : Nat × Operand) => (p.1, act.eval p.2)).toArray).run P w = .ok (.agg ys.toArray) w ∧ LRel P φ H cs ys := by
  obtain ⟨v, z1, z2, z3⟩ := zeroOf_spec hz
  obtain ⟨ys, k1, k2⟩ := fill_rel F hp hf (lrel_leaves z3)
  refine ⟨ys, ?_, k2⟩
  have hvc : v.cells = z.toArray := by apply Array.ext'; rw [cells_eq, z2]
  unfold structOk at h0
  split at h0
  · rename_i fs hu
    have hall : ∀ f, f ∈ fs → (do pure (f.offset, ← sizeOf f.type) : Sem (Nat × Nat)).run P w = .ok (f.offset, P.cellsOf f.type) w := by
      intro f hf
      obtain ⟨n, hn⟩ := Option.isSome_iff_exists.1 ((Array.all_eq_true'.1 h0) f hf)
      obtain ⟨s1, s2⟩ := sizeOfT_spec hn
      simp [s1, s2]
    have hpl : (fun i => (fs.map fun f => (f.offset, P.cellsOf f.type))[i]?) = placeOf P t := by
      funext i
      simp only [placeOf, hu, Array.getElem?_map]
      cases hfi : fs[i]? with
      | none => rfl
      | some f =>
        obtain ⟨n, hn⟩ := Option.isSome_iff_exists.1 ((Array.all_eq_true'.1 h0) f (Array.mem_of_getElem? hfi))
        simp [hn, (sizeOfT_spec hn).2]
    simp only [Instr.build, Sem.run_bind, z1, Result.andThen_ok, run_underlying_ok hu]
    rw [run_mapM_array _ _ fs w hall]
    simp only [Result.andThen_ok, hvc, hpl, k1]
    rfl
  · rename_i n e hu
    obtain ⟨m, he⟩ := Option.isSome_iff_exists.1 h0
    obtain ⟨s1, s2⟩ := sizeOfT_spec he
    have hpl : (fun i => some (i * m, m)) = placeOf P t := by funext i; simp [placeOf, hu, he]
    simp only [Instr.build, Sem.run_bind, z1, Result.andThen_ok, run_underlying_ok hu, s1, hvc, hpl, k1]
    rfl
  · cases h0

/-! ### Slices -/
theorem elemOfT_spec {t e : TypeId} {n y : Nat} (h : elemOfT P t = some (e, n, y)) :
    P.underlying t = some (.slice e) ∧ P.cellsOf e = n ∧ (∀ w, (sizeOf e).run P w = .ok n w) ∧ ∃ i z, P.info? e = some i ∧ i.size = n ∧ i.bytes = y ∧ i.zero = some z ∧ (cellsOf z).length = n := by
  unfold elemOfT at h
  split at h
  · rename_i e' hu
    simp only [Option.bind_eq_some_iff] at h
    obtain ⟨i, hi, h⟩ := h
    split at h
    · rename_i z hz
      split at h
      · rename_i hl
        cases h
        exact ⟨hu, by simp [Program.cellsOf, hi], fun w => by simp [sizeOf, typeInfo, hi], i, z, hi, rfl, rfl, hz, hl⟩
      · cases h
    · cases h
  · cases h

theorem reps_length (z : List Value) (n : Nat) : (reps z n).length = n * z.length := by
  induction n with
  | zero => simp [reps]
  | succ n ih => simp [reps, ih, Nat.succ_mul]; omega

theorem reps_get (z : List Value) : ∀ (n j : Nat), j < n * z.length → (reps z n)[j]? = z[j % z.length]?
  | 0, j, h => by simp at h
  | n + 1, j, h => by
    simp only [reps]
    by_cases hj : j < z.length
    · rw [List.getElem?_append_left hj, Nat.mod_eq_of_lt hj]
    · rw [List.getElem?_append_right (by omega), reps_get z n (j - z.length) (by rw [Nat.succ_mul] at h; omega)]
      congr 1
      exact (Nat.mod_eq_sub_mod (by omega)).symm

theorem reps_array (z : Array Value) (n : Nat) (hz : 0 < z.size ∨ n = 0) : (Array.range (n * z.size)).map (fun i => z[i % z.size]!) = (reps z.toList n).toArray := by
  apply Array.ext'
  refine List.ext_getElem? fun j => ?_
  simp only [Array.toList_map, Array.toList_range, List.getElem?_map]
  by_cases hj : j < n * z.size
  · rw [reps_get z.toList n j (by simpa using hj), List.getElem?_range hj]
    have hm : j % z.size < z.size := Nat.mod_lt _ (by rcases hz with h | h; exact h; subst h; simp at hj)
    simp only [Option.map_some, Array.length_toList, Array.getElem?_toList]
    rw [Array.getElem?_eq_getElem hm, getElem!_pos z _ hm]
  · rw [List.getElem?_eq_none (by simp; omega), List.getElem?_eq_none (by rw [reps_length]; simp; omega)]
    rfl

theorem leaf_reps {z : List Value} (h : z.all leaf = true) (n : Nat) : (reps z n).all leaf = true := by
  induction n with
  | zero => rfl
  | succ n ih => simp [reps, h, ih]

theorem buildSlice_rel (R : Rel P B w0 φ H w) {nt : Nat} {a : Fr} {act : Act} (F : FrRel P φ H nt a act.tmps) {nid : Option Nat} {t e : TypeId} {m y n : Nat} {ps : List (Nat × Operand)} {z : List Value} {l : List (Nat × Nat × Value)}
    {cs : List Value} {p : Value} {H' : Heap} (he : elemOfT P t = some (e, m, y)) (hz : zeroOf P e = some z) (hzl : z.length = m) (hlim : n * m ≤ 2 ^ 24)
    (hp : partsOf (fun i => some (i * m, m)) a ps = some l) (hf : fillL (reps z n) l = some cs) (hm : mkrow H nid e n cs = some (p, H')) :
    ∃ φ' w' u, (Instr.buildSlice t n (ps.map fun (p : Nat × Operand) => (p.1, act.eval p.2)).toArray).run P w = .ok u w' ∧ Rel P B w0 φ' H' w' ∧ Ext φ H φ' H' ∧ VRel P φ' H' p u := by
  obtain ⟨hu, hc, hs, _⟩ := elemOfT_spec he
  obtain ⟨v, z1, z2, z3⟩ := zeroOf_spec hz
  obtain ⟨ys, k1, k2⟩ := fill_rel F hp hf (lrel_leaves (leaf_reps z3 n))
  have hlen : cs.length = n * m := by
    have : ∀ {cs l cs' : _}, fillL cs l = some cs' → cs'.length = cs.length := by
      intro cs l
      induction l generalizing cs with
      | nil => intro cs' h; simp only [fillL, Option.some.injEq] at h; subst h; rfl
      | cons x r ih =>
        intro cs' h
        obtain ⟨o, k, v⟩ := x
        simp only [fillL] at h
        split at h
        · rename_i hc; rw [ih h, splice_length (by omega)]
        · cases h
    rw [this hf, reps_length, hzl]
  obtain ⟨φ', w', pC, r1, r2, r3, r4⟩ := mkrow_rel R hm k2 (by rw [hc]; omega)
  refine ⟨φ', w', .slice (some pC) n n, ?_, r2, r3, r4⟩
  have hvc : v.cells = z.toArray := by apply Array.ext'; rw [cells_eq, z2]
  by_cases h0 : n * m = 0
  · have hy : reps z n = [] := List.eq_nil_of_length_eq_zero (by rw [reps_length, hzl]; exact h0)
    rw [hy] at k1
    simp only [Instr.buildSlice, Sem.run_bind, run_underlying_ok hu, Result.andThen_ok, hs]
    rw [if_neg (by omega)]
    simp only [Sem.run_pure, Result.andThen_ok, Sem.run_bind, h0, if_true]
    have : (Array.map (fun x => (#[] : Array Value)[x % (#[] : Array Value).size]!) (Array.range 0)) = #[] := by simp
    rw [this]
    have k1' : Instr.fill (fun i => some (i * m, m)) #[] (List.map (fun p => (p.fst, act.eval p.snd)) ps) = some ys.toArray := k1
    rw [k1']
    simp [r1]
  · simp only [Instr.buildSlice, Sem.run_bind, run_underlying_ok hu, Result.andThen_ok, hs]
    rw [if_neg (by omega)]
    simp only [Sem.run_pure, Result.andThen_ok, Sem.run_bind, if_neg h0, z1, hvc]
    have hsz : z.toArray.size = m := by simp [hzl]
    have hm0 : 0 < m := Nat.pos_of_ne_zero fun h => h0 (by rw [h]; simp)
    have := reps_array z.toArray n (.inl (by omega))
    rw [hsz] at this
    rw [hsz, this]
    simp only [k1]
    simp [r1]
end
end Go.Proofs.SakAm

namespace Go.Proofs.SakAm
set_option linter.unusedVariables false
set_option linter.unusedSimpArgs false
open Go
open Go.RowKit (Below)
set_option linter.unusedSectionVars false
variable [Tabs]

section
variable {P : Program} {B : Nat} {w0 w : World} {φ : Nat → Place} {H : Heap}

theorem wrap_i64 {n : Int} (h0 : 0 ≤ n) (h1 : n < 2 ^ 62) : IntKind.i64.wrap n = n := by
  have e : n % (2 ^ 64 : Int) = n := Int.emod_eq_of_lt h0 (by omega)
  simp only [IntKind.wrap, IntKind.bits, IntKind.signed, e, Bool.true_and, decide_eq_true_eq]
  rw [if_neg (by simp only [ge_iff_le, Int.not_le]; omega)]

theorem makeSlice_rel (R : Rel P B w0 φ H w) {nid : Option Nat} {t e : TypeId} {m y : Nat} {n : Int} {z : List Value} {p : Value} {H' : Heap} (he : elemOfT P t = some (e, m, y)) (hz : zeroOf P e = some z) (hzl : z.length = m)
    (h0 : 0 ≤ n) (h1 : n * y ≤ 2 ^ 47) (h2 : n < 2 ^ 62) (hm : mkrow H nid e n.toNat (reps z n.toNat) = some (p, H')) :
    ∃ φ' w' u, (Instr.makeSlice t (.int .i64 n) (.int .i64 n)).run P w = .ok u w' ∧ Rel P B w0 φ' H' w' ∧ Ext φ H φ' H' ∧ VRel P φ' H' p u := by
  obtain ⟨hu, hc, hs, i, z', hi, hi1, hi2, hi3, hi4⟩ := elemOfT_spec he
  obtain ⟨v, z1, z2, z3⟩ := zeroOf_spec hz
  obtain ⟨φ', w', pC, r1, r2, r3, r4⟩ := mkrow_rel R hm (lrel_leaves (leaf_reps z3 n.toNat)) (by rw [hc, reps_length, hzl]; exact Nat.le_refl _)
  refine ⟨φ', w', .slice (some pC) n.toNat n.toNat, ?_, r2, r3, r4⟩
  have hw := wrap_i64 h0 h2
  have hvc : v.cells = z.toArray := by apply Array.ext'; rw [cells_eq, z2]
  have hb : ∀ w, (typeInfo e).run P w = .ok i w := fun w => by simp [typeInfo, hi]
  simp only [Instr.makeSlice, Sem.run_bind, run_underlying_ok hu, Result.andThen_ok, asInt, asIntOf, Sem.run_pure, hb, hi2, hw]
  have hty : ((y : Int) * n > 2 ^ 48) = False := by
    rw [Int.mul_comm]; simp only [eq_iff_iff, iff_false]; omega
  have c1 : (decide (n < 0) || decide ((y : Int) * n > 2 ^ 48)) = false := by
    rw [decide_eq_false (by omega), decide_eq_false (by rw [hty]; exact id)]; rfl
  have c2 : ((decide (n < 0) || decide ((y : Int) * n > 2 ^ 48) || decide (n < 0) || decide (n > n)) = true) = False := by
    rw [c1]; simp; omega
  simp only [c1, Bool.false_or]
  rw [if_neg (by simp; omega)]
  simp only [Sem.run_bind, Result.andThen_ok, run_askRoom, hs]
  by_cases h0 : n.toNat * m = 0
  · have hy : reps z n.toNat = [] := List.eq_nil_of_length_eq_zero (by rw [reps_length, hzl]; exact h0)
    rw [hy] at r1
    simp only [h0, if_true, Sem.run_bind, Sem.run_pure, Result.andThen_ok]
    have : (Array.map (fun x => (#[] : Array Value)[x % (#[] : Array Value).size]!) (Array.range 0)) = #[] := by simp
    rw [this]
    have r1' : (newRow e #[]).run P w = .ok pC w' := r1
    simp [r1']
  · simp only [if_neg h0, Sem.run_bind, z1, Result.andThen_ok, Sem.run_pure, hvc]
    have hsz : z.toArray.size = m := by simp [hzl]
    have hm0 : 0 < m := Nat.pos_of_ne_zero fun h => h0 (by rw [h]; simp)
    have := reps_array z.toArray n.toNat (.inl (by omega))
    rw [hsz] at this
    rw [hsz, this]
    simp only
    simp [r1]

/-- A bound of a slice expression. -/
theorem bnd_run {d : Nat} {x y : Option Value} {n : Int} (h : bnd d x = some n) (hxy : ∀ v, x = some v → ∃ u, y = some u ∧ VRel P φ H v u) (hn : x = none → y = none) :
    (x = none ∧ y = none ∧ n = d) ∨ (∃ k, y = some (.int k n)) := by
  cases x with
  | none => simp only [bnd, Option.some.injEq] at h; exact .inl ⟨rfl, hn rfl, h.symm⟩
  | some v =>
    obtain ⟨u, rfl, hv⟩ := hxy v rfl
    cases v <;> simp only [bnd, Option.some.injEq, reduceCtorEq] at h
    subst h
    exact .inr ⟨_, by rw [hv.int_inv]⟩

theorem sliceBound_ok {k : IntKind} {n : Int} {y : Nat} {c : BoundsCode} (h0 : 0 ≤ n) (h1 : n ≤ y) : (Instr.sliceBound (.int k n) y c).run P w = .ok n.toNat w := by
  simp [Instr.sliceBound, asIntOf, h0, h1]

theorem sliceBounds_ok {isS : Bool} {len cap : Nat} {lo hi : Int} {x y : Option Value} (h0 : 0 ≤ lo) (h1 : lo ≤ hi) (h2 : hi ≤ cap)
    (hx : (x = none ∧ lo = 0) ∨ ∃ k, x = some (.int k lo)) (hy : (y = none ∧ hi = len) ∨ ∃ k, y = some (.int k hi)) :
    (Instr.sliceBounds isS len cap x y none).run P w = .ok (lo.toNat, hi.toNat, cap) w := by
  have hh : ((hi.toNat : Nat) : Int) = hi := Int.toNat_of_nonneg (by omega)
  rcases hx with ⟨rfl, rfl⟩ | ⟨k, rfl⟩ <;> rcases hy with ⟨rfl, rfl⟩ | ⟨k', rfl⟩
  · simp [Instr.sliceBounds]
  · simp [Instr.sliceBounds, sliceBound_ok (P := P) (show 0 ≤ hi by omega) h2]
  · simp [Instr.sliceBounds, sliceBound_ok (P := P) h0 h1]
  · simp [Instr.sliceBounds, sliceBound_ok (P := P) (show 0 ≤ hi by omega) h2, sliceBound_ok (P := P) (w := w) (c := .sliceB) (k := k) h0 (show lo ≤ ((hi.toNat : Nat) : Int) by omega)]

theorem aslice_rel {t e : TypeId} {m : Nat} {x xC v : Value} {lo hi loC hiC : Option Value} (hu : P.underlying t = some (.slice e)) (hs : sizeOfT P e = some m) (h : aslice m x lo hi = some v)
    (hx : VRel P φ H x xC) (hlo : ∀ v, lo = some v → ∃ u, loC = some u ∧ VRel P φ H v u) (hlo' : lo = none → loC = none)
    (hhi : ∀ v, hi = some v → ∃ u, hiC = some u ∧ VRel P φ H v u) (hhi' : hi = none → hiC = none) :
    ∃ u, (Instr.sliceAt t xC loC hiC none).run P w = .ok u w ∧ VRel P φ H v u := by
  obtain ⟨s1, s2⟩ := sizeOfT_spec hs
  unfold aslice at h
  split at h
  · rename_i i o vr l f
    simp only [Option.bind_eq_some_iff] at h
    obtain ⟨ln, h1, hn, h2, h⟩ := h
    split at h
    · rename_i hc
      obtain ⟨c1, c2, c3⟩ := hc
      cases h
      obtain ⟨b, c, cap, rfl, hb, hv, hl, hcc⟩ := hx.slice_inv
      have k1 := bnd_run h1 hlo hlo'
      have k2 := bnd_run h2 hhi hhi'
      have hcap : hn ≤ (cap : Int) := by omega
      have hrun := sliceBounds_ok (P := P) (w := w) (isS := true) (lo := ln) (hi := hn) (x := loC) (y := hiC) c1 c2 hcap (by rcases k1 with ⟨_, a, b⟩ | k; exact .inl ⟨a, by simpa using b⟩; exact .inr k)
        (by rcases k2 with ⟨_, a, b⟩ | k; exact .inl ⟨a, b⟩; exact .inr k)
      have hsl : (Instr.sliceAt t (.slice (some c) l cap) loC hiC none).run P w = .ok (.slice (if cap = ln.toNat then some c else some (c.add (ln.toNat * m))) (hn.toNat - ln.toNat) (cap - ln.toNat)) w := by
        simp only [Instr.sliceAt, Sem.run_bind, run_underlying_ok hu, Result.andThen_ok, Instr.slice, hrun, s1, Sem.run_pure, Option.map_some]
      by_cases hlt : ln < hn
      · rw [if_pos hlt]
        rw [if_neg (by omega)] at hsl
        refine ⟨_, hsl, .slice _ _ _ _ _ b _ _ hb hv (by omega) fun e _ => ?_⟩
        obtain ⟨d1, _⟩ := hcc e (.inr (by omega))
        refine ⟨?_, fun h => by omega⟩
        rw [d1, addr_add]
        congr 1
        omega
      · rw [if_neg hlt]
        have h0 : hn.toNat - ln.toNat = 0 := by omega
        by_cases hcp : cap = ln.toNat
        · rw [if_pos hcp] at hsl
          refine ⟨_, hsl, .slice _ _ _ _ _ b _ _ hb hv (by omega) fun _ h => by omega⟩
        · rw [if_neg hcp] at hsl
          refine ⟨_, hsl, .slice _ _ _ _ _ b _ _ hb hv (by omega) fun _ h => by omega⟩
    · cases h
  · simp only [Option.bind_eq_some_iff] at h
    obtain ⟨ln, h1, hn, h2, h⟩ := h
    split at h
    · rename_i hc
      obtain ⟨rfl, rfl⟩ := hc
      cases h
      have := hx.leaf_inv rfl
      subst this
      have k1 := bnd_run h1 hlo hlo'
      have k2 := bnd_run h2 hhi hhi'
      have hrun := sliceBounds_ok (P := P) (w := w) (isS := true) (len := 0) (cap := 0) (lo := 0) (hi := 0) (x := loC) (y := hiC) (by omega) (by omega) (by omega)
        (by rcases k1 with ⟨_, a, b⟩ | k; exact .inl ⟨a, rfl⟩; exact .inr k) (by rcases k2 with ⟨_, a, b⟩ | k; exact .inl ⟨a, rfl⟩; exact .inr k)
      refine ⟨.slice none 0 0, ?_, .leaf _ rfl⟩
      simp [Instr.sliceAt, run_underlying_ok hu, Instr.slice, hrun, s1]
    · cases h
  · cases h

theorem astr_rel {t : TypeId} {x xC v : Value} {lo hi loC hiC : Option Value} (hu : P.underlying t = some .string) (h : astr x lo hi = some v)
    (hx : VRel P φ H x xC) (hlo : ∀ v, lo = some v → ∃ u, loC = some u ∧ VRel P φ H v u) (hlo' : lo = none → loC = none)
    (hhi : ∀ v, hi = some v → ∃ u, hiC = some u ∧ VRel P φ H v u) (hhi' : hi = none → hiC = none) :
    ∃ u, (Instr.sliceAt t xC loC hiC none).run P w = .ok u w ∧ VRel P φ H v u := by
  unfold astr at h
  split at h
  · rename_i s
    simp only [Option.bind_eq_some_iff] at h
    obtain ⟨ln, h1, hn, h2, h⟩ := h
    split at h
    · rename_i hc
      obtain ⟨c1, c2, c3⟩ := hc
      cases h
      have := hx.str_inv
      subst this
      have k1 := bnd_run h1 hlo hlo'
      have k2 := bnd_run h2 hhi hhi'
      have hrun := sliceBounds_ok (P := P) (w := w) (isS := false) (lo := ln) (hi := hn) (x := loC) (y := hiC) c1 c2 c3 (by rcases k1 with ⟨_, a, b⟩ | k; exact .inl ⟨a, by simpa using b⟩; exact .inr k)
        (by rcases k2 with ⟨_, a, b⟩ | k; exact .inl ⟨a, b⟩; exact .inr k)
      refine ⟨.string (s.extract ln.toNat hn.toNat), ?_, .leaf _ rfl⟩
      simp [Instr.sliceAt, run_underlying_ok hu, Instr.slice, hrun]
    · cases h
  · cases h

/-! ### append -/
theorem growBy_le (need : Nat) : ∀ (k c : Nat), c ≤ 2 * need + 1024 → (c < need → c + (c + 768) / 4 ≤ 2 * need + 1024) → Builtin.growBy need k c ≤ 2 * need + 1024
  | 0, c, h, _ => h
  | k + 1, c, h, h2 => by
    unfold Builtin.growBy
    split
    · exact h
    · exact growBy_le need k _ (h2 (by omega)) (fun hlt => by omega)

theorem nextslicecap_le {need old : Nat} (h : old < need) : Builtin.nextslicecap need old ≤ 2 * need + 1024 := by
  unfold Builtin.nextslicecap
  split
  · omega
  · split
    · omega
    · exact growBy_le need 4 old (by omega) (fun _ => by omega)

theorem rowOf_rel (R : Rel P B w0 φ H w) {m : Nat} {x xC : Value} {new : List Value} (h : rowOf H m x = some new) (hx : VRel P φ H x xC) :
    ∃ us, LRel P φ H new us ∧ ∀ w', (∀ a, w'.cell? a = w.cell? a) → (Builtin.firstCells m (slen x) xC).run P w' = .ok us.toArray w' ∧ us.length = slen x * m := by
  unfold rowOf at h
  split at h
  · rename_i i o vr l f
    obtain ⟨b, c, cap, rfl, hb, hv, hl, hcc⟩ := hx.slice_inv
    split at h
    · rename_i h0
      subst h0
      cases h
      refine ⟨[], .nil, fun w' _ => ⟨?_, by simp [slen]⟩⟩
      simp [Builtin.firstCells, slen, loadCells, loadCellsFrom]
    · rename_i h0
      simp only [Option.bind_eq_some_iff] at h
      obtain ⟨b', hb', h⟩ := h
      obtain ⟨hb', hver⟩ := blk_eq hb'
      rw [hb] at hb'; cases hb'
      split at h
      · rename_i hle
        cases h
        obtain ⟨us, k1, k2, k3⟩ := R.cells_at hb o (l * m) hle
        refine ⟨us, k2, fun w' hw' => ⟨?_, by simpa [slen] using k1⟩⟩
        obtain ⟨rfl, _⟩ := hcc hver.symm (.inr (by omega))
        simp only [Builtin.firstCells, slen]
        rw [← k1]
        exact run_loadCells _ _ us w' (fun j u hj => by rw [hw']; exact k3 j u hj)
      · cases h
  · cases h
    have := hx.leaf_inv rfl
    subst this
    exact ⟨[], .nil, fun w' _ => ⟨by simp [Builtin.firstCells], by simp [slen]⟩⟩
  · cases h
    obtain ⟨c, cap, rfl, _⟩ := hx.empty_inv
    exact ⟨[], .nil, fun w' _ => ⟨by simp [Builtin.firstCells, slen, loadCells, loadCellsFrom], by simp [slen]⟩⟩
  · cases h

theorem slen_rel {x xC : Value} (h : VRel P φ H x xC) : slen xC = slen x := by
  cases h with
  | leaf => rfl
  | _ => rfl

theorem zeroCells_eq (z : Array Value) (n : Nat) : (Builtin.zeroCells z n).size = n * z.size := by simp [Builtin.zeroCells]

/-- What append makes anew. -/
theorem run_append_grow {argTypes : Array TypeId} {t t2 e e2 ty : TypeId} {m y need : Nat} {base : Option Addr} {sLen sCap : Nat} {xC : Value} {olds news : List Value}
    (h0 : argTypes[0]? = some t) (h1 : argTypes[1]? = some t2) (he : elemOfT P t = some (e, m, y)) (h2 : P.underlying t2 = some (.slice e2))
    (hn : sLen + slen xC = need) (hgt : sCap < need) (hb : (2 * need + 1024) * y ≤ 2 ^ 47) (hneed : need < 2 ^ 62) (hxs : ∃ a l c, xC = .slice a l c)
    (ho : ∀ n, (Builtin.firstCells m sLen (.slice base sLen sCap)).run P { w with drawn := n } = .ok olds.toArray { w with drawn := n })
    (hw : ∀ n, (Builtin.firstCells m (slen xC) xC).run P { w with drawn := n } = .ok news.toArray { w with drawn := n }) :
    ∃ (cap d : Nat) (rest : List Value), need ≤ cap ∧ rest.length = (cap - need) * m ∧
      (Builtin.append_ argTypes ty #[.slice base sLen sCap, xC]).run P w =
        .ok (.slice (some ⟨w.heap.size, 0, none⟩) need cap) { w with heap := w.heap.push (.cells (olds ++ news ++ rest).toArray e), drawn := d } := by
  obtain ⟨hu, hc, hs, i, z, hi, hi1, hi2, hi3, hi4⟩ := elemOfT_spec he
  obtain ⟨xa, xl, xc, rfl⟩ := hxs
  have hti : ∀ w, (typeInfo e).run P w = .ok i w := fun w => by simp [typeInfo, hi]
  have hzv : ∀ w, (zeroValue e).run P w = .ok z w := fun w => by simp [zeroValue, typeInfo, hi, hi3]
  have hcap : need ≤ Question.cut (.appendCap need sCap e) (w.tape w.drawn (.appendCap need sCap e)) := by simp [Question.cut]
  refine ⟨Question.cut (.appendCap need sCap e) (w.tape w.drawn (.appendCap need sCap e)), w.drawn + 1,
    (Builtin.zeroCells z.cells (Question.cut (.appendCap need sCap e) (w.tape w.drawn (.appendCap need sCap e)) - need)).toList, hcap, ?_, ?_⟩
  · rw [Array.length_toList, zeroCells_eq, ← Array.length_toList, cells_eq, hi4]
  · have hsl : slen (Value.slice xa xl xc) = xl := rfl
    rw [hsl] at hn hw
    have hnsc := nextslicecap_le hgt
    have hle : Builtin.nextslicecap need sCap * y ≤ 2 ^ 47 := Nat.le_trans (Nat.mul_le_mul_right y hnsc) hb
    subst hn
    have hmax : ¬ ((9223372036854775807 : Int) < (sLen : Int) + (xl : Int)) := by omega
    have hnb : ¬ (281474976710656 < Builtin.nextslicecap (sLen + xl) sCap * y) := by omega
    have hfit : ¬ (sLen + xl ≤ sCap) := by omega
    have ho1 : (Builtin.firstCells m sLen (.slice base sLen sCap)).run P w.drew = .ok olds.toArray w.drew := ho _
    have hw1 : (Builtin.firstCells m xl (.slice xa xl xc)).run P w.drew = .ok news.toArray w.drew := hw _
    have hf : (Question.appendCap (sLen + xl) sCap e).forced = false := rfl
    simp [Builtin.append_, h0, h1, run_underlying_ok hu, run_underlying_ok h2, hs, Builtin.lenOf, hfit, hmax, hnb, hti, hi2, hzv, hf, ho1, hw1, newRow]
    show ({ w with heap := w.heap.push _, drawn := w.drawn + 1 } : World) = _
    congr 3
    apply Array.ext'
    simp

theorem run_append_room {argTypes : Array TypeId} {t t2 e e2 ty : TypeId} {m y : Nat} {base : Option Addr} {sLen sCap : Nat} {xC : Value} {news : List Value} {w' : World}
    (h0 : argTypes[0]? = some t) (h1 : argTypes[1]? = some t2) (he : elemOfT P t = some (e, m, y)) (h2 : P.underlying t2 = some (.slice e2))
    (hle : sLen + slen xC ≤ sCap) (hxs : ∃ a l c, xC = .slice a l c)
    (hw : (Builtin.firstCells m (slen xC) xC).run P w = .ok news.toArray w)
    (hst : match base with | some a => (storeCells (a.add (sLen * m)) news).run P w = .ok () w' | none => w' = w) :
    (Builtin.append_ argTypes ty #[.slice base sLen sCap, xC]).run P w = .ok (.slice base (sLen + slen xC) sCap) w' := by
  obtain ⟨hu, hc, hs, i, z, hi, hi1, hi2, hi3, hi4⟩ := elemOfT_spec he
  obtain ⟨xa, xl, xc, rfl⟩ := hxs
  have hsl : slen (Value.slice xa xl xc) = xl := rfl
  rw [hsl] at hle hw
  rw [hsl]
  simp only [Builtin.append_, h0, h1, List.getElem?_toArray, List.getElem?_cons_zero, List.getElem?_cons_succ, Sem.run_bind, run_underlying_ok hu, Result.andThen_ok, hs, run_underlying_ok h2, Sem.run_pure, Builtin.lenOf]
  cases base with
  | none =>
    simp only at hst
    subst hst
    simp [hw, hle]
  | some a => simp [hw, hst, hle]

theorem slice_of_row {m : Nat} {x xC : Value} {new : List Value} (h : rowOf H m x = some new) (hx : VRel P φ H x xC) : ∃ a l c, xC = .slice a l c := by
  unfold rowOf at h
  split at h
  · obtain ⟨b, c, cap, rfl, _⟩ := hx.slice_inv
    exact ⟨_, _, _, rfl⟩
  · have := hx.leaf_inv rfl
    subst this
    exact ⟨_, _, _, rfl⟩
  · obtain ⟨c, cap, rfl, _⟩ := hx.empty_inv
    exact ⟨_, _, _, rfl⟩
  · cases h

theorem append_rel (R : Rel P B w0 φ H w) {argTypes : Array TypeId} {t t2 e e2 ty : TypeId} {m y : Nat} {s x sC xC v : Value} {H' : Heap}
    (h0 : argTypes[0]? = some t) (h1 : argTypes[1]? = some t2) (he : elemOfT P t = some (e, m, y)) (h2 : P.underlying t2 = some (.slice e2))
    (h : aappend H e m y s x = some (v, H')) (hs : VRel P φ H s sC) (hx : VRel P φ H x xC) (hone : ∀ (new : List Value), rowOf H m x = some new → new.all one = true) :
    ∃ φ' w' u, (Builtin.append_ argTypes ty #[sC, xC]).run P w = .ok u w' ∧ Rel P B w0 φ' H' w' ∧ Ext φ H φ' H' ∧ VRel P φ' H' v u := by
  simp only [aappend, Option.bind_eq_some_iff] at h
  obtain ⟨new, hnew, h⟩ := h
  obtain ⟨us, hus, hrun⟩ := rowOf_rel R hnew hx
  have hsl := slen_rel hx
  have hxs := slice_of_row hnew hx
  have hal := hone new hnew
  have hrun' : ∀ w', (∀ a, w'.cell? a = w.cell? a) → (Builtin.firstCells m (slen xC) xC).run P w' = .ok us.toArray w' := fun w' hw' => by rw [hsl]; exact (hrun w' hw').1
  have hul : us.length = slen x * m := (hrun w (fun _ => rfl)).2
  have hce := (elemOfT_spec he).2.1
  split at h
  · rename_i hb
    obtain ⟨hb1, hb2⟩ := hb
    split at h
    · rename_i hz
      have hu0 : us = [] := List.eq_nil_of_length_eq_zero (by rw [hul, hz, Nat.zero_mul])
      subst hu0
      split at h
      · rename_i i o vr l f
        cases h
        obtain ⟨b, c, cap, rfl, hb, hv, hl, hcc⟩ := hs.slice_inv
        have := run_append_room (P := P) (w := w) (w' := w) (ty := ty) (base := some c) (sLen := l) (sCap := cap) (xC := xC) (news := []) h0 h1 he h2 (by rw [hsl, hz]; exact hl) hxs (hrun' w fun _ => rfl) (by simp [storeCells])
        rw [hsl, hz, Nat.add_zero] at this
        exact ⟨φ, w, _, this, R, Ext.refl _ _, hs⟩
      · cases h
        have := hs.leaf_inv rfl
        subst this
        have := run_append_room (P := P) (w := w) (w' := w) (ty := ty) (base := none) (sLen := 0) (sCap := 0) (xC := xC) (news := []) h0 h1 he h2 (by rw [hsl, hz]; exact Nat.le_refl _) hxs (hrun' w fun _ => rfl) rfl
        rw [hsl, hz] at this
        exact ⟨φ, w, _, this, R, Ext.refl _ _, hs⟩
      · cases h
    · rename_i hz
      split at h
      · cases h
        have := hs.leaf_inv rfl
        subst this
        obtain ⟨cap, d, rest, k1, k2, k3⟩ := run_append_grow (P := P) (w := w) (ty := ty) (base := none) (sLen := 0) (sCap := 0) (xC := xC) (need := slen x) (olds := []) (news := us) h0 h1 he h2 (by rw [hsl, Nat.zero_add])
          (Nat.pos_of_ne_zero hz) (by simpa [slen] using hb1) (by simpa [slen] using hb2) hxs (fun n => by simp [Builtin.firstCells]) (fun n => hrun' _ fun _ => rfl)
        have hcl := hus.length
        obtain ⟨r1, r2⟩ := (R.drawn d).fresh (H' := H.new { cells := new, elem := e, ver := 0, ro := false }) (id := H.next) (b := { cells := new, elem := e, ver := 0, ro := false }) (fun j => rfl)
          (fun b0 hb0 => by rw [H.wf _ (Nat.le_refl _)] at hb0; cases hb0) (by simp [Heap.new]) ([] ++ us ++ rest).toArray (by simp; omega) (fun j v hj => by
            obtain ⟨u, hu, hvu⟩ := hus.get hj
            have hjl : j < us.length := (List.getElem?_eq_some_iff.1 hu).1
            exact ⟨(List.all_eq_true.1 hal) v (List.mem_of_getElem? hj), u, by simp [List.getElem?_append_left hjl, hu], hvu⟩)
        refine ⟨_, _, _, k3, r1, r2, .slice _ _ _ _ _ { cells := new, elem := e, ver := 0, ro := false } _ _ (by simp [Heap.new]) (Nat.le_refl _) k1 fun _ _ => ⟨by simp [lay], fun _ _ => ?_⟩⟩
        simp only [lay, if_true, hce, List.size_toArray, List.length_append, List.length_nil, hul, k2]
        rw [Nat.zero_add, Nat.zero_add, ← Nat.add_mul, show slen x + (cap - slen x) = cap from by omega]
        exact Nat.le_refl _
      · rename_i i vr l
        simp only [Option.bind_eq_some_iff] at h
        obtain ⟨b, hb, h⟩ := h
        obtain ⟨hb, hver⟩ := blk_eq hb
        split at h
        · rename_i hcnd
          obtain ⟨hro, hel, hlen⟩ := hcnd
          cases h
          obtain ⟨b', c, cap, rfl, hb', _, hl, hcc⟩ := hs.slice_inv
          rw [hb] at hb'; cases hb'
          obtain ⟨rfl, hroom⟩ := hcc hver.symm (.inl rfl)
          have hroom := hroom rfl hro
          rw [hel, hce, Nat.zero_add] at hroom
          obtain ⟨ca, ea, fz, hw, hlc, hcells, hown⟩ := R.cell i b hb
          obtain ⟨o0, osz, rfl, rfl, oB⟩ := hown hro
          have hnl : new.length = slen x * m := by rw [hus.length, hul]
          have hslS : slen (Value.slice (some ⟨i, 0, some vr⟩) l 1) = l := rfl
          rw [hslS] at hb1 hb2
          have hadd : l * m + slen x * m = (l + slen x) * m := (Nat.add_mul _ _ _).symm
          by_cases hfit : l + slen x ≤ cap
          · have hm2 : (l + slen x) * m ≤ cap * m := Nat.mul_le_mul_right m hfit
            obtain ⟨c', k1, k2, k3⟩ := run_storeCells (P := P) (φ i).at_ ((φ i).off + 0 + l * m) us 0 w ca b.elem hw (by omega) (by rw [hus.one]; exact hal)
            have hext : Ext φ H φ (H.upd i { b with cells := b.cells ++ new, ver := vr + 1 }) :=
              ext_upd (b' := { b with cells := b.cells ++ new, ver := vr + 1 }) hb (by simp; omega) φ (fun _ _ => rfl) (fun h => ⟨rfl, rfl, rfl⟩)
            have hR := R.upd (b' := { b with cells := b.cells ++ new, ver := vr + 1 }) hb hro hro rfl (by simp; omega) c' (by omega) (by show (b.cells ++ new).length ≤ _; rw [List.length_append]; omega) (fun j v hj => by
              replace hj : (b.cells ++ new)[j]? = some v := hj
              rw [k3 j]
              by_cases hj1 : j < b.cells.length
              · rw [List.getElem?_append_left hj1] at hj
                rw [if_neg (by omega)]
                obtain ⟨g1, u, g2, g3⟩ := hcells j v hj
                exact ⟨g1, u, by rw [o0, Nat.zero_add] at g2; exact g2, g3.ext hext⟩
              · rw [List.getElem?_append_right (by omega)] at hj
                obtain ⟨u, hu, hvu⟩ := hus.get hj
                have hjl : j - b.cells.length < us.length := (List.getElem?_eq_some_iff.1 hu).1
                rw [if_pos (by omega)]
                exact ⟨(List.all_eq_true.1 hal) v (List.mem_of_getElem? hj), u, by rw [show j - ((φ i).off + 0 + l * m + 0) = j - b.cells.length from by omega]; exact hu, hvu.ext hext⟩)
            have hrn := run_append_room (P := P) (w := w) (w' := { w with heap := w.heap.setIfInBounds (φ i).at_ (.cells c' b.elem (0, 0)) }) (ty := ty) (base := some ⟨(φ i).at_, (φ i).off + 0, none⟩) (sLen := l) (sCap := cap) (xC := xC) (news := us) h0 h1 he h2 (by rw [hsl]; exact hfit) hxs (hrun' w fun _ => rfl)
              (by simp only [addr_add]; exact k1)
            rw [hsl] at hrn
            refine ⟨φ, _, _, hrn, hR, hext, .slice _ _ _ _ _ { b with cells := b.cells ++ new, ver := vr + 1 } _ _ (by rw [get_upd_live hb, if_pos rfl]) (Nat.le_refl _) hfit fun _ _ => ⟨rfl, fun _ _ => ?_⟩⟩
            show 0 + cap * P.cellsOf b.elem ≤ _
            rw [hel, hce]; omega
          · obtain ⟨os, p1, p2, p3⟩ := R.cells_at hb 0 (l * m) (by omega)
            obtain ⟨cap', d, rest, k1, k2, k3⟩ := run_append_grow (P := P) (w := w) (ty := ty) (base := some ⟨(φ i).at_, (φ i).off + 0, none⟩) (sLen := l) (sCap := cap) (xC := xC) (need := l + slen x) (olds := os) (news := us) h0 h1 he h2 (by rw [hsl])
              (by omega) hb1 hb2 hxs (fun n => by
                simp only [Builtin.firstCells]
                rw [← p1]
                exact run_loadCells _ _ os _ (fun j u hj => p3 j u hj)) (fun n => hrun' _ fun _ => rfl)
            have hb0 : (b.cells.drop 0).take (l * m) = b.cells := by rw [List.drop_zero, ← hlen, List.take_length]
            rw [hb0] at p2
            have hrel := p2.append hus
            obtain ⟨r1, r2⟩ := (R.drawn d).fresh (H' := H.upd i { b with cells := b.cells ++ new, ver := vr + 1 }) (id := i) (b := { b with cells := b.cells ++ new, ver := vr + 1 }) (fun j => get_upd_live hb j)
              (fun b0 hb0 => by rw [hb] at hb0; cases hb0; simp; omega) (Nat.le_refl _) (os ++ us ++ rest).toArray (by show (b.cells ++ new).length ≤ _; simp; have := p2.length; have := hus.length; omega) (fun j v hj => by
                replace hj : (b.cells ++ new)[j]? = some v := hj
                obtain ⟨u, hu, hvu⟩ := hrel.get hj
                have hjl : j < (os ++ us).length := (List.getElem?_eq_some_iff.1 hu).1
                refine ⟨?_, u, by rw [List.getElem?_toArray, List.getElem?_append_left hjl]; exact hu, hvu⟩
                by_cases hj1 : j < b.cells.length
                · rw [List.getElem?_append_left hj1] at hj
                  exact (hcells j v hj).1
                · rw [List.getElem?_append_right (by omega)] at hj
                  exact (List.all_eq_true.1 hal) v (List.mem_of_getElem? hj))
            subst hel
            refine ⟨_, _, _, k3, r1, r2, .slice _ _ _ _ _ { b with cells := b.cells ++ new, ver := vr + 1 } _ _ (by rw [get_upd_live hb, if_pos rfl]) (Nat.le_refl _) k1 fun _ _ => ⟨by simp [lay], fun _ _ => ?_⟩⟩
            show 0 + cap' * P.cellsOf b.elem ≤ _
            simp only [lay, if_true, hce, List.size_toArray, List.length_append, p1, hul, k2]
            rw [Nat.zero_add, hadd, ← Nat.add_mul, show l + slen x + (cap' - (l + slen x)) = cap' from by omega]
            exact Nat.le_refl _
        · cases h
      · cases h
  · cases h
end
end Go.Proofs.SakAm

namespace Go.Proofs.SakAm
set_option linter.unusedVariables false
set_option linter.unusedSimpArgs false
open Go
open Go.RowKit (Below)
set_option linter.unusedSectionVars false
variable [Tabs]

section
variable {P : Program} {B : Nat} {w0 w : World} {φ : Nat → Place} {H : Heap}

/-- What an operation comes to, and what the model's comes to. -/
def OutOk (P : Program) (B : Nat) (w0 : World) (φ : Nat → Place) (H : Heap) (w : World) (s : Sem Next) : Out → Prop
  | .val v H' => ∃ φ' w' u, (s.run P w = .ok (.value u) w' ∨ (s.run P w = .ok .skip w' ∧ u = undef)) ∧ Rel P B w0 φ' H' w' ∧ Ext φ H φ' H' ∧ VRel P φ' H' v u
  | .call f args => (bodyOf P f).isSome = true → ∃ argsC : Array Value, s.run P w = .ok (.enter f argsC) w ∧ LRel P φ H args argsC.toList

theorem OutOk.same (R : Rel P B w0 φ H w) {s : Sem Next} {v u : Value} (h : s.run P w = .ok (.value u) w) (hv : VRel P φ H v u) : OutOk P B w0 φ H w s (.val v H) :=
  ⟨φ, w, u, .inl h, R, Ext.refl _ _, hv⟩

theorem run_v {s : Sem Value} {u : Value} {w' : World} (h : s.run P w = .ok u w') : (do pure (.value (← s)) : Sem Next).run P w = .ok (.value u) w' := by simp [h]
theorem run_u {s : Sem Unit} {w' : World} (h : s.run P w = .ok () w') : (do s; pure .skip : Sem Next).run P w = .ok .skip w' := by simp [h]

theorem rowOf_one (R : Rel P B w0 φ H w) {m : Nat} {x : Value} {new : List Value} (h : rowOf H m x = some new) : new.all one = true := by
  unfold rowOf at h
  split at h
  · split at h
    · cases h; rfl
    · simp only [Option.bind_eq_some_iff] at h
      obtain ⟨b, hb, h⟩ := h
      obtain ⟨hb, _⟩ := blk_eq hb
      split at h
      · cases h
        obtain ⟨c, e, fz, _, _, hc, _⟩ := R.cell _ b hb
        rw [List.all_eq_true]
        intro x hx
        have hm := List.mem_of_mem_drop (List.mem_of_mem_take hx)
        obtain ⟨j, hj⟩ := List.getElem?_of_mem hm
        exact (hc j x hj).1
      · cases h
  · cases h; rfl
  · cases h; rfl
  · cases h

theorem afold_ok {f : Value → Value → Option Value} {g : Value → Value → Sem Value} (hfg : ∀ x y z xC yC, f x y = some z → VRel P φ H x xC → VRel P φ H y yC → leaf z = true ∧ ∀ w, (g xC yC).run P w = .ok z w) :
    ∀ {l m : List Value} {x xC v : Value}, afold f x l = some v → VRel P φ H x xC → LRel P φ H l m → ∃ u, (m.foldlM g xC).run P w = .ok u w ∧ VRel P φ H v u := by
  intro l
  induction l with
  | nil =>
    intro m x xC v h hx hl
    cases hl
    simp only [afold, Option.some.injEq] at h; subst h
    exact ⟨xC, by simp, hx⟩
  | cons y r ih =>
    intro m x xC v h hx hl
    cases hl with
    | cons hy ht =>
      simp only [afold, Option.bind_eq_some_iff] at h
      obtain ⟨z, hz, h⟩ := h
      obtain ⟨h1, h2⟩ := hfg _ _ _ _ _ hz hx hy
      obtain ⟨u, k1, k2⟩ := ih h (.leaf z h1) ht
      exact ⟨u, by simp [h2 w, k1], k2⟩

theorem amax2_ok (x y z xC yC : Value) (h : amax2 x y = some z) (hx : VRel P φ H x xC) (hy : VRel P φ H y yC) : leaf z = true ∧ ∀ w, (Builtin.max2 xC yC).run P w = .ok z w := by
  unfold amax2 at h
  split at h
  · split at h
    · rename_i hk; subst hk; cases h
      have e1 := hx.int_inv; have e2 := hy.int_inv; subst e1; subst e2
      exact ⟨rfl, fun w => rfl⟩
    · cases h
  · cases h

theorem amin2_ok (x y z xC yC : Value) (h : amin2 x y = some z) (hx : VRel P φ H x xC) (hy : VRel P φ H y yC) : leaf z = true ∧ ∀ w, (Builtin.min2 xC yC).run P w = .ok z w := by
  unfold amin2 at h
  split at h
  · split at h
    · rename_i hk; subst hk; cases h
      have e1 := hx.int_inv; have e2 := hy.int_inv; subst e1; subst e2
      exact ⟨rfl, fun w => rfl⟩
    · cases h
  · cases h

theorem leaf_plain {v : Value} (h : leaf v = true) : plain v = true := by cases v <;> first | exact h | (simp [leaf] at h; done)

theorem lrel_one {x : Value} {m : List Value} (h : LRel P φ H [x] m) : ∃ u, m = [u] ∧ VRel P φ H x u := by
  cases h with
  | cons h t => cases t; exact ⟨_, rfl, h⟩
theorem lrel_two {x y : Value} {m : List Value} (h : LRel P φ H [x, y] m) : ∃ u v, m = [u, v] ∧ VRel P φ H x u ∧ VRel P φ H y v := by
  cases h with
  | cons h t =>
    obtain ⟨v, rfl, hv⟩ := lrel_one t
    exact ⟨_, _, rfl, h, hv⟩

theorem abuilt_ok (R : Rel P B w0 φ H w) {b : Builtin} {argTypes : Array TypeId} {args argsC : List Value} {out : Out} {ty : TypeId} {consts : Array Bool}
    (h : abuilt P H b argTypes args = some out) (ha : LRel P φ H args argsC) : OutOk P B w0 φ H w (builtin b argTypes ty consts argsC.toArray) out := by
  unfold abuilt at h
  split at h
  · -- len
    rename_i x
    obtain ⟨u, rfl, hx⟩ := lrel_one ha
    split at h
    · rename_i n e hu
      cases h
      simp only [Option.bind_eq_some_iff] at hu
      obtain ⟨t, ht, hu⟩ := hu
      exact .same R (run_v (by simp [Builtin.len_, ht, run_underlying_ok hu, goInt])) (.leaf _ rfl)
    · rename_i e hu
      simp only [Option.bind_eq_some_iff] at h hu
      obtain ⟨t, ht, hu⟩ := hu
      obtain ⟨v, hv, h⟩ := h
      cases h
      unfold alen at hv
      split at hv
      · cases hv
        rename_i a l c
        have hsl := slen_rel hx
        have : ∃ a' c', u = .slice a' l c' := by
          cases hx with
          | leaf => exact ⟨_, _, rfl⟩
          | slice => exact ⟨_, _, rfl⟩
          | empty => exact ⟨_, _, rfl⟩
        obtain ⟨a', c', rfl⟩ := this
        exact .same R (run_v (by simp [Builtin.len_, ht, run_underlying_ok hu, goInt])) (.leaf _ rfl)
      · cases hv
    · rename_i hu
      simp only [Option.bind_eq_some_iff] at h hu
      obtain ⟨t, ht, hu⟩ := hu
      obtain ⟨v, hv, h⟩ := h
      cases h
      unfold astrlen at hv
      split at hv
      · cases hv
        have := hx.str_inv
        subst this
        exact .same R (run_v (by simp [Builtin.len_, ht, run_underlying_ok hu, goInt])) (.leaf _ rfl)
      · cases hv
    · cases h
  · -- append
    rename_i s x
    obtain ⟨sC, xC, rfl, hs, hx⟩ := lrel_two ha
    split at h
    · rename_i e size bytes e2 he h2
      simp only [Option.bind_eq_some_iff] at he h2 h
      obtain ⟨t, ht, he⟩ := he
      obtain ⟨t2, ht2, h2⟩ := h2
      obtain ⟨⟨v, H'⟩, hap, h⟩ := h
      cases h
      obtain ⟨φ', w', u, k1, k2, k3, k4⟩ := append_rel R (ty := ty) ht ht2 he h2 hap hs hx (fun new hn => rowOf_one R hn)
      exact ⟨φ', w', u, .inl (run_v k1), k2, k3, k4⟩
    · cases h
  · -- max
    rename_i x r
    cases ha with
    | cons hx ht =>
      simp only [Option.bind_eq_some_iff] at h
      obtain ⟨v, hv, h⟩ := h
      cases h
      obtain ⟨u, k1, k2⟩ := afold_ok (w := w) amax2_ok hv hx ht
      exact .same R (run_v (by simpa [Builtin.max_] using k1)) k2
  · -- min
    rename_i x r
    cases ha with
    | cons hx ht =>
      simp only [Option.bind_eq_some_iff] at h
      obtain ⟨v, hv, h⟩ := h
      cases h
      obtain ⟨u, k1, k2⟩ := afold_ok (w := w) amin2_ok hv hx ht
      exact .same R (run_v (by simpa [Builtin.min_] using k1)) k2
  · -- complex
    rename_i x y
    obtain ⟨xC, yC, rfl, hx, hy⟩ := lrel_two ha
    simp only [Option.bind_eq_some_iff] at h
    obtain ⟨v, hv, h⟩ := h
    cases h
    split at hv
    · rename_i hl
      simp only [Bool.and_eq_true] at hl
      obtain ⟨k1, k2⟩ := onlyPlain_ok hv
      have e1 := hx.leaf_inv hl.1; have e2 := hy.leaf_inv hl.2; subst e1; subst e2
      exact .same R (run_v (pureRun_ok k1 w)) (VRel.plain k2)
    · cases hv
  · -- real
    rename_i x
    obtain ⟨xC, rfl, hx⟩ := lrel_one ha
    simp only [Option.bind_eq_some_iff] at h
    obtain ⟨v, hv, h⟩ := h
    cases h
    split at hv
    · rename_i hl
      obtain ⟨k1, k2⟩ := onlyPlain_ok hv
      have e1 := hx.leaf_inv hl; subst e1
      exact .same R (run_v (pureRun_ok k1 w)) (VRel.plain k2)
    · cases hv
  · -- imag
    rename_i x
    obtain ⟨xC, rfl, hx⟩ := lrel_one ha
    simp only [Option.bind_eq_some_iff] at h
    obtain ⟨v, hv, h⟩ := h
    cases h
    split at hv
    · rename_i hl
      obtain ⟨k1, k2⟩ := onlyPlain_ok hv
      have e1 := hx.leaf_inv hl; subst e1
      exact .same R (run_v (pureRun_ok k1 w)) (VRel.plain k2)
    · cases hv
  · cases h

theorem equalIn_ptr_nil {t e : TypeId} (hu : P.underlying t = some (.pointer e)) (d : Nat) (a : Option Addr) (w : World) : (Op.equalIn (d + 1) t (.pointer a) (.pointer none)).run P w = .ok a.isNone w := by
  cases a <;> simp [Op.equalIn, run_underlying_ok hu]
theorem equalIn_nil_ptr {t e : TypeId} (hu : P.underlying t = some (.pointer e)) (d : Nat) (a : Option Addr) (w : World) : (Op.equalIn (d + 1) t (.pointer none) (.pointer a)).run P w = .ok a.isNone w := by
  simp [Op.equalIn, run_underlying_ok hu]
theorem equalIn_slice_nil {t e : TypeId} (hu : P.underlying t = some (.slice e)) (d : Nat) (a : Option Addr) (l c : Nat) (w : World) : (Op.equalIn (d + 1) t (.slice a l c) (.slice none 0 0)).run P w = .ok a.isNone w := by
  cases a <;> simp [Op.equalIn, run_underlying_ok hu]
theorem equalIn_func_nil {t : TypeId} {x y : Array TypeId} {b : Bool} (hu : P.underlying t = some (.func x y b)) (d : Nat) (f : Fn) (l c : Array Value) (w : World) : (Op.equalIn (d + 1) t (.func f l c) .nilFunc).run P w = .ok false w := by
  simp [Op.equalIn, run_underlying_ok hu]
theorem equalIn_nil_func {t : TypeId} {x y : Array TypeId} {b : Bool} (hu : P.underlying t = some (.func x y b)) (d : Nat) (f : Fn) (l c : Array Value) (w : World) : (Op.equalIn (d + 1) t .nilFunc (.func f l c)).run P w = .ok false w := by
  simp [Op.equalIn, run_underlying_ok hu]

theorem aeq_ok {t : TypeId} {x y xC yC : Value} {b : Bool} (h : aeq P t x y = some b) (hx : VRel P φ H x xC) (hy : VRel P φ H y yC) : ∀ w, (Op.equal t xC yC).run P w = .ok b w := by
  intro w
  unfold aeq at h
  split at h
  · rename_i e a hu
    cases h
    have e2 := hy.leaf_inv rfl; subst e2
    have : ∃ a', xC = .pointer a' ∧ a'.isNone = a.isNone := by
      cases hx with
      | leaf => exact ⟨_, rfl, rfl⟩
      | ptr => exact ⟨_, rfl, rfl⟩
    obtain ⟨a', rfl, ha⟩ := this
    rw [← ha]
    exact equalIn_ptr_nil hu 9999 a' w
  · rename_i e a hna hu
    cases h
    have e2 := hx.leaf_inv rfl; subst e2
    have : ∃ a', yC = .pointer a' ∧ a'.isNone = a.isNone := by
      cases hy with
      | leaf => exact ⟨_, rfl, rfl⟩
      | ptr => exact ⟨_, rfl, rfl⟩
    obtain ⟨a', rfl, ha⟩ := this
    rw [← ha]
    exact equalIn_nil_ptr hu 9999 a' w
  · rename_i e a l c hu
    cases h
    have e2 := hy.leaf_inv rfl; subst e2
    have : ∃ a' l' c', xC = .slice a' l' c' ∧ a'.isNone = a.isNone := by
      cases hx with
      | leaf => exact ⟨_, _, _, rfl, rfl⟩
      | slice => exact ⟨_, _, _, rfl, rfl⟩
      | empty => exact ⟨_, _, _, rfl, rfl⟩
    obtain ⟨a', l', c', rfl, ha⟩ := this
    rw [← ha]
    exact equalIn_slice_nil hu 9999 a' l' c' w
  · rename_i hu
    cases h
    have e2 := hy.leaf_inv rfl; subst e2
    obtain ⟨ys, ds, rfl, _⟩ := hx.func_inv
    exact equalIn_func_nil hu 9999 _ _ _ w
  · rename_i hu
    cases h
    have e2 := hx.leaf_inv rfl; subst e2
    obtain ⟨ys, ds, rfl, _⟩ := hy.func_inv
    exact equalIn_nil_func hu 9999 _ _ _ w
  · cases h

theorem aeq_shape {t : TypeId} {x y xC yC : Value} {b : Bool} (h : aeq P t x y = some b) (hx : VRel P φ H x xC) (hy : VRel P φ H y yC) (op : BinOp) (xo yo : Operand) :
    (∀ w, (eqGuard op t xo yo xC yC).run P w = .ok () w) ∧ binOp .eql t xC yC = (do pure (.bool (← Op.equal t xC yC))) ∧ binOp .neq t xC yC = (do pure (.bool (!(← Op.equal t xC yC)))) := by
  have key : (∃ a b, xC = .pointer a ∧ yC = .pointer b) ∨ (∃ a l c a' l' c', xC = .slice a l c ∧ yC = .slice a' l' c') ∨ (∃ f x c, xC = .func f x c ∧ yC = .nilFunc) ∨ (∃ f x c, yC = .func f x c ∧ xC = .nilFunc) := by
    unfold aeq at h
    split at h
    · have e2 := hy.leaf_inv rfl; subst e2
      cases hx with
      | leaf => exact .inl ⟨_, _, rfl, rfl⟩
      | ptr => exact .inl ⟨_, _, rfl, rfl⟩
    · have e2 := hx.leaf_inv rfl; subst e2
      cases hy with
      | leaf => exact .inl ⟨_, _, rfl, rfl⟩
      | ptr => exact .inl ⟨_, _, rfl, rfl⟩
    · have e2 := hy.leaf_inv rfl; subst e2
      cases hx with
      | leaf => exact .inr (.inl ⟨_, _, _, _, _, _, rfl, rfl⟩)
      | slice => exact .inr (.inl ⟨_, _, _, _, _, _, rfl, rfl⟩)
      | empty => exact .inr (.inl ⟨_, _, _, _, _, _, rfl, rfl⟩)
    · have e2 := hy.leaf_inv rfl; subst e2
      obtain ⟨ys, ds, rfl, _⟩ := hx.func_inv
      exact .inr (.inr (.inl ⟨_, _, _, rfl, rfl⟩))
    · have e2 := hx.leaf_inv rfl; subst e2
      obtain ⟨ys, ds, rfl, _⟩ := hy.func_inv
      exact .inr (.inr (.inr ⟨_, _, _, rfl, rfl⟩))
    · cases h
  rcases key with ⟨a, b, rfl, rfl⟩ | ⟨a, l, c, a', l', c', rfl, rfl⟩ | ⟨f, x, c, rfl, rfl⟩ | ⟨f, x, c, rfl, rfl⟩
  · refine ⟨fun w => ?_, ?_, ?_⟩
    · cases op <;> simp [eqGuard]
    · cases a <;> cases b <;> rfl
    · cases a <;> cases b <;> rfl
  · refine ⟨fun w => ?_, rfl, rfl⟩
    cases op <;> simp [eqGuard]
  · refine ⟨fun w => ?_, rfl, rfl⟩
    cases op <;> simp [eqGuard]
  · refine ⟨fun w => ?_, rfl, rfl⟩
    cases op <;> simp [eqGuard]

theorem abin_ok {op : BinOp} {t : TypeId} {xo yo : Operand} {x y xC yC v : Value} (h : abin P op t xo yo x y = some v) (hx : VRel P φ H x xC) (hy : VRel P φ H y yC) :
    (∀ w, (do eqGuard op t xo yo xC yC; binOp op t xC yC).run P w = .ok v w) ∧ VRel P φ H v v := by
  unfold abin at h
  split at h
  · rename_i hp
    simp only [Bool.and_eq_true] at hp
    obtain ⟨k1, k2⟩ := onlyPlain_ok h
    rw [plain_inv hx hp.1, plain_inv hy hp.2]
    exact ⟨pureRun_ok k1, VRel.plain k2⟩
  · split at h
    · simp only [Option.bind_eq_some_iff] at h
      obtain ⟨b, hb, h⟩ := h
      cases h
      obtain ⟨g1, g2, _⟩ := aeq_shape hb hx hy .eql xo yo
      refine ⟨fun w => ?_, .leaf _ rfl⟩
      rw [g2]
      simp [g1, aeq_ok hb hx hy]
    · simp only [Option.bind_eq_some_iff] at h
      obtain ⟨b, hb, h⟩ := h
      cases h
      obtain ⟨g1, _, g3⟩ := aeq_shape hb hx hy .neq xo yo
      refine ⟨fun w => ?_, .leaf _ rfl⟩
      rw [g3]
      simp [g1, aeq_ok hb hx hy]
    · cases h
end
end Go.Proofs.SakAm

namespace Go.Proofs.SakAm
set_option linter.unusedVariables false
set_option linter.unusedSimpArgs false
open Go
open Go.RowKit (Below)
set_option linter.unusedSectionVars false
variable [Tabs]

section
variable {P : Program} {B : Nat} {w0 w : World} {φ : Nat → Place} {H : Heap}

theorem plain_undef : plain undef = true := by simp [undef, plain]

theorem evOpt_rel {nt : Nat} {a : Fr} {act : Act} (F : FrRel P φ H nt a act.tmps) {x : Option Operand} {r : Option Value} (h : evOpt a x = some r) :
    (∀ v, r = some v → ∃ u, x.map act.eval = some u ∧ VRel P φ H v u) ∧ (r = none → x.map act.eval = none) := by
  cases x with
  | none => simp only [evOpt, Option.some.injEq] at h; subst h; exact ⟨(fun v hv => by cases hv), fun _ => rfl⟩
  | some x =>
    simp only [evOpt, Option.bind_eq_some_iff] at h
    obtain ⟨v, hv, h⟩ := h
    cases h
    exact ⟨(fun v' h' => by cases h'; exact ⟨_, rfl, evo_rel F hv⟩), (fun h' => by cases h')⟩

theorem placeOf_struct {t : TypeId} {fs : Array Field} {f o n : Nat} (hu : P.underlying t = some (.struct fs)) (h : placeOf P t f = some (o, n)) :
    ∃ fld, fs[f]? = some fld ∧ fld.offset = o ∧ ∀ w, (sizeOf fld.type).run P w = .ok n w := by
  simp only [placeOf, hu, Option.bind_eq_some_iff] at h
  obtain ⟨fld, h1, m, h2, h3⟩ := h
  cases h3
  exact ⟨fld, h1, rfl, (sizeOfT_spec h2).1⟩

theorem fadd_rel {off : Nat} {p pC v : Value} (h : fadd off p = some v) (hp : VRel P φ H p pC) : ∃ c, pC = .pointer (some c) ∧ VRel P φ H v (.pointer (some (c.add off))) := by
  unfold fadd at h
  split at h
  · cases h
    obtain ⟨b, c, rfl, hb, hv, hc⟩ := hp.ptr_inv
    refine ⟨c, rfl, .ptr _ _ _ b _ hb hv fun e => ?_⟩
    rw [hc e, addr_add, Nat.add_assoc]
  · cases h

theorem callFunc_ok {f : FuncId} {args : Array Value} (h : (bodyOf P f).isSome = true) : (callFunc f args).run P w = .ok (.enter f args) w := by
  unfold bodyOf at h
  split at h
  · rename_i fn hf
    split at h
    · cases h
    · rename_i hn
      split at h
      · rename_i c hc
        simp only [callFunc, Sem.run_bind, run_program, Result.andThen_ok, hf]
        have hn' : (fn.name == "runtime.NumGoroutine") = false := by simpa using hn
        simp [hn', hc]
      · cases h
  · cases h

theorem call_value_ok {fn : FuncId} {first captured args : Array Value} (h : (bodyOf P fn).isSome = true) :
    (do let d ← Deferred.ofValue (.func (.func fn) first captured) args; invoke d.target d.args : Sem Next).run P w = .ok (.enter fn (first ++ args ++ captured)) w := by
  simp only [Deferred.ofValue, Sem.run_bind, Sem.run_pure, Result.andThen_ok, invoke]
  exact callFunc_ok h

theorem aop_ok (R : Rel P B w0 φ H w) {nt : Nat} {a : Fr} {act : Act} (F : FrRel P φ H nt a act.tmps) {nid : Option Nat} {o : Oper} {out : Out}
    (h : aop P a H nid o.op = some out) : OutOk P B w0 φ H w (execOp act.eval o) out := by
  obtain ⟨dst, op, type, pos, after, guard⟩ := o
  simp only at h
  unfold aop at h
  split at h
  · -- move
    simp only [Option.bind_eq_some_iff] at h
    obtain ⟨v, hv, h⟩ := h
    cases h
    exact .same R rfl (evo_rel F hv)
  · simp only [Option.bind_eq_some_iff] at h
    obtain ⟨v, hv, h⟩ := h
    cases h
    exact .same R rfl (evo_rel F hv)
  · -- pick
    simp only [Option.bind_eq_some_iff] at h
    obtain ⟨c, hc, x, hx, y, hy, v, hp, h⟩ := h
    cases h
    unfold apick at hp
    split at hp
    · rename_i t
      cases hp
      have := (evo_rel F hc).bool_inv
      refine .same R (u := if t then _ else _) (by simp only [execOp, this]; rfl) ?_
      cases t
      · exact evo_rel F hy
      · exact evo_rel F hx
    · cases hp
  · -- alloc
    simp only [Option.bind_eq_some_iff] at h
    obtain ⟨z, hz, ⟨p, H'⟩, hm, h⟩ := h
    cases h
    obtain ⟨v, z1, z2, z3⟩ := zeroOf_spec hz
    have hcz : cellsOf (if z.length = 1 then z.headD undef else .agg z.toArray) = z := by
      split
      · rename_i h1
        match z, h1, z3 with
        | [x], _, h3 =>
          simp only [List.all_cons, List.all_nil, Bool.and_true] at h3
          cases x <;> first | rfl | (simp [leaf] at h3; done)
      · rfl
    obtain ⟨φ', w', pC, k1, k2, k3, k4⟩ := mkbox_rel R (u := v) hm (by rw [hcz, z2]; exact lrel_leaves z3)
    exact ⟨φ', w', _, .inl (run_v (by simp [Instr.alloc, z1, k1])), k2, k3, k4⟩
  · -- box
    simp only [Option.bind_eq_some_iff] at h
    obtain ⟨v, hv, ⟨p, H'⟩, hm, h⟩ := h
    cases h
    obtain ⟨φ', w', pC, k1, k2, k3, k4⟩ := mkbox_rel R hm (evo_rel F hv).cells
    exact ⟨φ', w', _, .inl (run_v (by simp [Instr.box, k1])), k2, k3, k4⟩
  · -- build
    rename_i t ps
    split at h
    · rename_i h0
      simp only [Option.bind_eq_some_iff] at h
      obtain ⟨z, hz, l, hl, cs, hcs, h⟩ := h
      cases h
      obtain ⟨ys, k1, k2⟩ := build_rel (w := w) F h0 hz hl hcs
      refine .same R (run_v ?_) (agg_of_lrel k2)
      have : (ps.map fun (x : Nat × Operand) => (x.1, act.eval x.2)) = (ps.toList.map fun (p : Nat × Operand) => (p.1, act.eval p.2)).toArray := by apply Array.ext'; simp
      rw [this]; exact k1
    · cases h
  · -- buildSlice
    rename_i t n ps
    simp only [Option.bind_eq_some_iff] at h
    obtain ⟨⟨e, m, y⟩, he, z, hz, h⟩ := h
    split at h
    · rename_i hc
      simp only [Option.bind_eq_some_iff] at h
      obtain ⟨l, hl, cs, hcs, ⟨p, H'⟩, hm, h⟩ := h
      cases h
      obtain ⟨φ', w', u, k1, k2, k3, k4⟩ := buildSlice_rel R F he hz hc.1 hc.2 hl hcs hm
      refine ⟨φ', w', u, .inl (run_v ?_), k2, k3, k4⟩
      have : (ps.map fun (x : Nat × Operand) => (x.1, act.eval x.2)) = (ps.toList.map fun (p : Nat × Operand) => (p.1, act.eval p.2)).toArray := by apply Array.ext'; simp
      rw [this]; exact k1
    · cases h
  · -- load
    rename_i t x
    simp only [Option.bind_eq_some_iff] at h
    obtain ⟨p, hp, h⟩ := h
    have key : ∃ v, ldT P t H p = some v ∧ out = .val v H := by
      unfold ldT
      split at h
      · simp only [Option.bind_eq_some_iff] at h
        obtain ⟨v, hv, h⟩ := h
        cases h
        exact ⟨v, by simp [hv], rfl⟩
      · simp only [Option.bind_eq_some_iff] at h
        obtain ⟨v, hv, h⟩ := h
        cases h
        exact ⟨v, by simp [hv], rfl⟩
      · cases h
    obtain ⟨v, hv, rfl⟩ := key
    obtain ⟨u, k1, k2, _⟩ := ldT_rel R hv (evo_rel F hp)
    exact .same R (run_v k1) k2
  · -- store
    simp only [Option.bind_eq_some_iff] at h
    obtain ⟨p, hp, v, hv, h⟩ := h
    split at h
    · rename_i n hs
      simp only [Option.bind_eq_some_iff] at h
      obtain ⟨H', hst, h⟩ := h
      cases h
      obtain ⟨w', k1, k2, k3⟩ := stA_rel R hs hst (evo_rel F hp) (evo_rel F hv)
      exact ⟨φ, w', undef, .inr ⟨run_u k1, rfl⟩, k2, k3, VRel.plain plain_undef⟩
    · rename_i hs
      simp only [Option.bind_eq_some_iff] at h
      obtain ⟨H', hst, h⟩ := h
      cases h
      obtain ⟨w', k1, k2, k3⟩ := st1_rel R hs hst (evo_rel F hp) (evo_rel F hv)
      exact ⟨φ, w', undef, .inr ⟨run_u k1, rfl⟩, k2, k3, VRel.plain plain_undef⟩
    · cases h
  · -- nilCheck
    rename_i x
    simp only [Option.bind_eq_some_iff] at h
    obtain ⟨p, hp, v, hn, h⟩ := h
    cases h
    have hr := evo_rel F hp
    unfold nilc at hn
    split at hn
    · cases hn
      have : ∃ c, act.eval x = .pointer (some c) := by
        generalize act.eval x = u at hr
        cases hr with
        | leaf _ hl => simp [leaf] at hl
        | ptr i o vr b c hb hv hc => exact ⟨c, rfl⟩
      obtain ⟨c, hc⟩ := this
      rw [hc] at hr
      exact .same R (by simp [execOp, hc]) hr
    · cases hn
      obtain ⟨ys, ds, hu, _⟩ := hr.func_inv
      rw [hu] at hr
      exact .same R (by simp [execOp, hu]) hr
    · cases hn
  · -- binOp
    simp only [Option.bind_eq_some_iff] at h
    obtain ⟨x, hx, y, hy, v, hv, h⟩ := h
    cases h
    obtain ⟨k1, k2⟩ := abin_ok hv (evo_rel F hx) (evo_rel F hy)
    exact .same R (run_v (k1 w)) k2
  · -- unOp
    simp only [Option.bind_eq_some_iff] at h
    obtain ⟨x, hx, v, hv, h⟩ := h
    cases h
    unfold aun at hv
    split at hv
    · rename_i hp
      obtain ⟨k1, k2⟩ := onlyPlain_ok hv
      have := plain_inv (evo_rel F hx) hp
      exact .same R (run_v (by simp only [this]; exact pureRun_ok k1 w)) (VRel.plain k2)
    · cases hv
  · -- convert
    simp only [Option.bind_eq_some_iff] at h
    obtain ⟨x, hx, v, hv, h⟩ := h
    cases h
    unfold aconv at hv
    split at hv
    · rename_i hp
      obtain ⟨k1, k2⟩ := onlyPlain_ok hv
      have := plain_inv (evo_rel F hx) (leaf_plain hp)
      exact .same R (run_v (by simp only [this]; exact pureRun_ok k1 w)) (VRel.plain k2)
    · cases hv
  · -- makeFunc
    rename_i f first captured
    simp only [Option.bind_eq_some_iff] at h
    obtain ⟨xs, hx, cs, hc, h⟩ := h
    cases h
    have h1 := evs_rel F hx
    have h2 := evs_rel F hc
    refine .same R (u := .func (.func f) (first.map act.eval) (captured.map act.eval)) rfl ?_
    have e1 : first.map act.eval = (first.toList.map act.eval).toArray := by apply Array.ext'; simp
    have e2 : captured.map act.eval = (captured.toList.map act.eval).toArray := by apply Array.ext'; simp
    rw [e1, e2]
    exact .func _ _ _ _ _ (arrays_of_lrel h1).1 (arrays_of_lrel h2).1 (arrays_of_lrel h1).2 (arrays_of_lrel h2).2
  · -- makeSlice
    simp only [Option.bind_eq_some_iff] at h
    obtain ⟨⟨e, m, y⟩, he, z, hz, l, hl, c, hc, h⟩ := h
    split at h
    · rename_i hzl
      simp only [Option.bind_eq_some_iff] at h
      obtain ⟨⟨p, H'⟩, hm, h⟩ := h
      cases h
      unfold mkslice at hm
      split at hm
      · split at hm
        · rename_i hcd
          obtain ⟨rfl, c0, c1, c2⟩ := hcd
          have e1 := (evo_rel F hl).int_inv
          have e2 := (evo_rel F hc).int_inv
          obtain ⟨φ', w', u, k1, k2, k3, k4⟩ := makeSlice_rel R he hz hzl c0 c1 c2 hm
          exact ⟨φ', w', u, .inl (run_v (by simp only [e1, e2]; exact k1)), k2, k3, k4⟩
        · cases hm
      · cases hm
    · cases h
  · -- slice
    simp only [Option.bind_eq_some_iff] at h
    obtain ⟨x, hx, lo, hlo, hi, hhi, h⟩ := h
    obtain ⟨l1, l2⟩ := evOpt_rel F hlo
    obtain ⟨g1, g2⟩ := evOpt_rel F hhi
    split at h
    · rename_i e hu
      simp only [Option.bind_eq_some_iff] at h
      obtain ⟨n, hn, v, hv, h⟩ := h
      cases h
      obtain ⟨u, k1, k2⟩ := aslice_rel (w := w) hu hn hv (evo_rel F hx) l1 l2 g1 g2
      exact .same R (run_v k1) k2
    · rename_i hu
      simp only [Option.bind_eq_some_iff] at h
      obtain ⟨v, hv, h⟩ := h
      cases h
      obtain ⟨u, k1, k2⟩ := astr_rel (w := w) hu hv (evo_rel F hx) l1 l2 g1 g2
      exact .same R (run_v k1) k2
    · cases h
  · -- fieldAddr
    simp only [Option.bind_eq_some_iff] at h
    obtain ⟨p, hp, h⟩ := h
    split at h
    · rename_i o n fs hpl hu
      simp only [Option.bind_eq_some_iff] at h
      obtain ⟨v, hv, h⟩ := h
      cases h
      obtain ⟨fld, f1, f2, f3⟩ := placeOf_struct hu hpl
      obtain ⟨c, hc, k2⟩ := fadd_rel hv (evo_rel F hp)
      exact .same R (run_v (by simp [Instr.fieldAt, run_underlying_ok hu, f1, hc, Instr.sureAddr, fieldPlace, f3, f2])) k2
    · cases h
  · -- field
    simp only [Option.bind_eq_some_iff] at h
    obtain ⟨p, hp, h⟩ := h
    split at h
    · rename_i fs hu
      split at h
      · rename_i o g n hf
        simp only [Option.bind_eq_some_iff] at hf h
        obtain ⟨fld, hf1, s, hf2, hf3⟩ := hf
        cases hf3
        obtain ⟨v, hv, h⟩ := h
        cases h
        obtain ⟨s1, s2⟩ := szOf_spec hf2
        unfold apart at hv
        split at hv
        · rename_i cs
          obtain ⟨ys, hys, hsz, hr⟩ := (evo_rel F hp).agg_inv
          split at hv
          · rename_i hg
            subst hg
            split at hv
            · rename_i hle
              cases hv
              refine .same R (u := .agg (ys.extract fld.offset (fld.offset + n))) (run_v (by simp [Instr.field, run_underlying_ok hu, hf1, hys, asAgg, part, s1, s2])) ?_
              refine .agg _ _ (by simp; omega) fun i hi => ?_
              have hi' : fld.offset + i < cs.size := by simp at hi; omega
              have := hr (fld.offset + i) hi'
              simp only [Array.size_extract] at hi
              simp only [Array.getD_eq_getD_getElem?] at this ⊢
              rw [Array.getElem?_extract, Array.getElem?_extract, if_pos (by omega), if_pos (by omega)]
              exact this
            · cases hv
          · rename_i hg
            have hgf : g = false := by simpa using hg
            subst hgf
            have hlt : fld.offset < cs.size := by
              rcases Nat.lt_or_ge fld.offset cs.size with h1 | h1
              · exact h1
              · rw [Array.getElem?_eq_none h1] at hv; cases hv
            have hr' := hr fld.offset hlt
            have hyl : fld.offset < ys.size := by omega
            rw [Array.getD_eq_getD_getElem?, Array.getD_eq_getD_getElem?, hv, Array.getElem?_eq_getElem hyl] at hr'
            exact .same R (run_v (by simp [Instr.field, run_underlying_ok hu, hf1, hys, asAgg, part, s1, Array.getElem?_eq_getElem hyl])) hr'
        · cases hv
      · cases h
    · cases h
  · -- indexAddr
    simp only [Option.bind_eq_some_iff] at h
    obtain ⟨x, hx, i, hi, h⟩ := h
    split at h
    · rename_i e hu
      simp only [Option.bind_eq_some_iff] at h
      obtain ⟨n, hn, v, hv, h⟩ := h
      cases h
      unfold sadd at hv
      split at hv
      · rename_i bi o vr l f k n'
        split at hv
        · rename_i hc
          cases hv
          obtain ⟨b, c, cap, hxe, hb, hvr, hl, hcc⟩ := (evo_rel F hx).slice_inv
          have e2 := (evo_rel F hi).int_inv
          refine .same R (u := .pointer (some (c.add (n'.toNat * n)))) (run_v ?_) (.ptr _ _ _ b _ hb hvr fun e => ?_)
          · simp [Instr.indexAt, hxe, e2, asIntOf, run_underlying_ok hu, (sizeOfT_spec hn).1, hc]
          · obtain ⟨rfl, _⟩ := hcc e (.inr (by omega))
            rw [addr_add, Nat.add_assoc]
        · cases hv
      · cases hv
    · rename_i len e hu
      simp only [Option.bind_eq_some_iff] at h
      obtain ⟨n, hn, v, hv, h⟩ := h
      cases h
      unfold radd at hv
      split at hv
      · rename_i bi o vr k n'
        split at hv
        · rename_i hc
          cases hv
          obtain ⟨b, c, hxe, hb, hvr, hcc⟩ := (evo_rel F hx).ptr_inv
          have e2 := (evo_rel F hi).int_inv
          refine .same R (u := .pointer (some (c.add (n'.toNat * n)))) (run_v ?_) (.ptr _ _ _ b _ hb hvr fun e => ?_)
          · simp [Instr.indexAt, hxe, e2, asIntOf, run_underlying_ok hu, (sizeOfT_spec hn).1, hc, Instr.sureAddr]
          · rw [hcc e, addr_add, Nat.add_assoc]
        · cases hv
      · cases hv
    · cases h
  · -- extract
    rename_i x i
    simp only [Option.bind_eq_some_iff] at h
    obtain ⟨p, hp, v, hv, h⟩ := h
    cases h
    unfold aext at hv
    split at hv
    · rename_i vs
      obtain ⟨ys, hys, hsz, hr⟩ := (evo_rel F hp).tuple_inv
      have hlt : i < vs.size := by
        rcases Nat.lt_or_ge i vs.size with h1 | h1
        · exact h1
        · rw [Array.getElem?_eq_none h1] at hv; cases hv
      have hyl : i < ys.size := by omega
      have hr' := hr i hlt
      rw [Array.getD_eq_getD_getElem?, Array.getD_eq_getD_getElem?, hv, Array.getElem?_eq_getElem hyl] at hr'
      exact .same R (run_v (by simp [Instr.extract, hys, Array.getElem?_eq_getElem hyl])) hr'
    · cases hv
  · -- call
    rename_i c
    simp only [Option.bind_eq_some_iff] at h
    obtain ⟨args, ha, h⟩ := h
    have har := evs_rel F ha
    have eargs : c.args.map act.eval = (c.args.toList.map act.eval).toArray := by apply Array.ext'; simp
    split at h
    · rename_i f hc
      cases h
      intro hb
      refine ⟨#[] ++ c.args.map act.eval ++ #[], ?_, by simpa [eargs] using har⟩
      have := call_value_ok (w := w) (first := #[]) (captured := #[]) (args := c.args.map act.eval) hb
      simp only [execOp, resolve, hc, Act.eval]
      exact this
    · rename_i x hnf hc
      simp only [Option.bind_eq_some_iff] at h
      obtain ⟨fv, hf, ⟨f, fs, cs⟩, ht, h⟩ := h
      cases h
      intro hb
      unfold target at ht
      split at ht
      · cases ht
        obtain ⟨ys, ds, hu, s1, s2, r1, r2⟩ := (evo_rel F hf).func_inv
        refine ⟨ys ++ c.args.map act.eval ++ ds, ?_, ?_⟩
        · have := call_value_ok (w := w) (first := ys) (captured := ds) (args := c.args.map act.eval) hb
          simp only [execOp, resolve, hc, hu]
          exact this
        · rw [eargs]
          simpa using ((lrel_of_arrays s1 r1).append har).append (lrel_of_arrays s2 r2)
      · cases ht
    · rename_i b hc
      simp only [execOp, resolve, hc]
      show OutOk P B w0 φ H w (builtin b c.argTypes type _ (c.args.map act.eval)) out
      rw [eargs]
      exact abuilt_ok R h har
    · cases h
  · cases h
end
end Go.Proofs.SakAm
