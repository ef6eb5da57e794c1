/- An interpreter over abstract states, whose runs the kernel reckons: what an operation, a region, code comes to. Nothing here is about one program. -/
import Derived.Test.YtjjlcenmifcaeaaX1
namespace Go.X
open Go.RowKit Go.V

section
variable (T : Tab) (P : Program)
abbrev AF := List (Nat × AV T.U)
def AF.get : AF T → Nat → Option (AV T.U)
  | [], _ => none
  | (j, v) :: r, i => match Nat.beq j i with | true => some v | false => AF.get r i
def updA (F : AF T) (dst : Option Tmp) (v : AV T.U) : AF T := match dst with | some d => (d, v) :: F | none => F
structure St where
  F : AF T
  H : List (Ent T.U)
/-- a constant's cell; a constant. -/
def ofV1 : Value → AV T.U
  | .int k x => .cell ⟨.int k, x⟩
  | .bool b => .cell ⟨.bool, b⟩
  | .string s => .cell ⟨.str, s⟩
  | v => .raw v
def ofV : Value → AV T.U
  | .agg cs => .agg (cs.toList.map (ofV1 T))
  | v => ofV1 T v
def aev (F : AF T) : Operand → Option (AV T.U)
  | .tmp t => F.get T t
  | .const v => some (ofV T v)
  | .func f => some (.fn (.func f) [] [])
  | .global _ => none
def aevL (F : AF T) : List Operand → Option (List (AV T.U))
  | [] => some []
  | x :: r => match aev T F x, aevL F r with | some a, some l => some (a :: l) | _, _ => none
/-- a value that holds no entry, as it is. -/
def conc1 : AV T.U → Option Value
  | .cell ⟨.int k, x⟩ => some (.int k x)
  | .cell ⟨.bool, b⟩ => some (.bool b)
  | .cell ⟨.str, s⟩ => some (.string s)
  | .raw v => some v
  | _ => none
def concL : List (AV T.U) → Option (List Value)
  | [] => some []
  | a :: r => match conc1 T a, concL r with | some v, some l => some (v :: l) | _, _ => none
def conc : AV T.U → Option Value
  | .agg cs => match concL T cs with | some l => some (.agg l.toArray) | none => none
  | a => conc1 T a
abbrev cI (k : IntKind) (x : Int) : AV T.U := .cell ⟨.int k, x⟩
abbrev cB (b : Bool) : AV T.U := .cell ⟨.bool, b⟩
/-- two integers. -/
def binI (b : BinOp) (k : IntKind) (x y : Int) : Option (AV T.U) :=
  match b with
  | .add => some (cI T k (k.wrap (x + y)))
  | .sub => some (cI T k (k.wrap (x - y)))
  | .mul => some (cI T k (k.wrap (x * y)))
  | .and => some (cI T k (bAnd k x y))
  | .or => some (cI T k (bOr k x y))
  | .xor => some (cI T k (bXor k x y))
  | .andNot => some (cI T k (bAndNot k x y))
  | .eql => some (cB T (x == y))
  | .neq => some (cB T (x != y))
  | .lss => some (cB T (decide (x < y)))
  | .leq => some (cB T (decide (x ≤ y)))
  | .gtr => some (cB T (decide (x > y)))
  | .geq => some (cB T (decide (x ≥ y)))
  | _ => none
def kindEq (a b : IntKind) : Bool := match a, b with
  | .i8, .i8 | .i16, .i16 | .i32, .i32 | .i64, .i64 | .u8, .u8 | .u16, .u16 | .u32, .u32 | .u64, .u64 => true
  | _, _ => false
/-- what is nothing, held against something; lit: one of them stands in the text. -/
def nilA (t : TypeId) (lit : Bool) : AV T.U → AV T.U → Option Bool
  | .raw n, a => match P.underlying t with
    | some (.pointer _) => match n with
      | .pointer none => (match a with | .raw (.pointer none) => some true | .ptr _ _ => some false | .eptr _ _ _ _ => some false | .lptr _ _ _ _ => some false | .aptr _ _ _ _ _ _ => some false | _ => none)
      | _ => none
    | some (.func _ _ _) => match n with
      | .nilFunc => (match a with | .raw .nilFunc => some true | .fn _ _ _ => some false | _ => none)
      | _ => none
    | some (.interface ms) => match n with
      | .nilIface => (match a with | .ifc _ _ => some false | .raw .nilIface => (match lit || ms.isEmpty with | true => some true | false => none) | _ => none)
      | _ => none
    | some (.map _ _) => match n with
      | .map none => (match a with | .raw (.map none) => some true | .mp _ => some false | _ => none)
      | _ => none
    | some (.slice _) => match n with
      | .slice none _ _ => (match a with | .raw (.slice none _ _) => some true | .asl _ _ _ _ _ _ => some false | _ => none)
      | _ => none
    | _ => none
  | _, _ => none
def negB (neg r : Bool) : Bool := match neg with | true => !r | false => r
/-- held against each other. -/
def eqA (t : TypeId) (lit : Bool) (a b : AV T.U) (neg : Bool) : Option (AV T.U) :=
  match nilA T P t lit a b with
  | some r => some (cB T (negB neg r))
  | none => match nilA T P t lit b a with
  | some r => some (cB T (negB neg r))
  | none => match conc T a, conc T b with
  | some (.bool x), some (.bool y) => match eqB P 10000 t (.bool x) (.bool y) with | some r => some (cB T (match neg with | true => !r | false => r)) | none => none
  | some (.agg x), some (.agg y) => let x := Value.agg x; let y := Value.agg y; match P.eqGuardType P.depth t with
    | false => match eqB P 10000 t x y with | some r => some (cB T (match neg with | true => !r | false => r)) | none => none
    | true => none
  | _, _ => none
def isLit : Operand → Bool | .const _ => true | _ => false
def binA (b : BinOp) (t : TypeId) (lit : Bool) (x y : AV T.U) : Option (AV T.U) :=
  match b, x, y with
  | b, .cell ⟨.int k, x⟩, .cell ⟨.int k', y⟩ => match kindEq k k' with | true => binI T b k x y | false => none
  | .eql, .cell ⟨.str, x⟩, .cell ⟨.str, y⟩ => some (cB T (ByteArray.toList x == ByteArray.toList y))
  | .neq, .cell ⟨.str, x⟩, .cell ⟨.str, y⟩ => some (cB T (!(ByteArray.toList x == ByteArray.toList y)))
  | .eql, x, y => eqA T P t lit x y false
  | .neq, x, y => eqA T P t lit x y true
  | _, _, _ => none
def unI (u : UnOp) (k : IntKind) (x : Int) : Option (AV T.U) := match u with | .neg => some (cI T k (k.wrap (0 - x))) | .xor => some (cI T k (bXor k (if k.signed then -1 else k.max) x)) | _ => none
def unA (u : UnOp) : AV T.U → Option (AV T.U)
  | .cell ⟨.int k, x⟩ => unI T u k x
  | .cell ⟨.bool, b⟩ => match u with | .not => some (cB T (!b)) | _ => none
  | _ => none
/-- a field's place: its first cell, how many, whether it is an aggregate. -/
def fieldP (t : TypeId) (j : Nat) : Option (TypeId × Nat × Nat × Bool) :=
  match P.underlying t with
  | some (.struct fs) => match fs[j]? with
    | some f => match P.info? f.type, P.underlying f.type with | some i, some d => some (f.type, f.offset, i.size, aggD d) | _, _ => none
    | none => none
  | _ => none
def cutA (cs : List (AV T.U)) (o n : Nat) (agg : Bool) : Option (AV T.U) :=
  match agg with
  | true => match Nat.ble (o + n) cs.length with | true => some (.agg ((cs.drop o).take n)) | false => none
  | false => cs[o]?
def fieldA (t : TypeId) (j : Nat) : AV T.U → Option (AV T.U)
  | .agg cs => match fieldP P t j with | some (_, o, n, ag) => cutA T cs o n ag | none => none
  | _ => none
def cellsA : AV T.U → List (AV T.U)
  | .agg cs => cs
  | a => [a]
def putsA (cs : List (AV T.U)) (o : Nat) : List (AV T.U) → List (AV T.U)
  | [] => cs
  | a :: r => putsA (cs.set o a) (o + 1) r
/-! ### What needs no memory -/
def intOf : AV T.U → Option Int
  | .cell ⟨.int _, x⟩ => some x
  | _ => none
def pickI (c : Bool) (x y : Int) : Int := if c = true then x else y
def pickB (c : Bool) (x y : Bool) : Bool := if c = true then x else y
/-- one of two, where both are numbers, or truths. -/
def pickV (c : Bool) : AV T.U → AV T.U → Option (AV T.U)
  | .cell ⟨.int k, x⟩, .cell ⟨.int k', y⟩ => match kindEq k k' with | true => some (cI T k (pickI c x y)) | false => none
  | .cell ⟨.bool, x⟩, .cell ⟨.bool, y⟩ => some (cB T (pickB c x y))
  | _, _ => none
/-- a struct's places. -/
def placeP (f : Field) : Option (Nat × Nat) := match P.info? f.type with | some i => some (f.offset, i.size) | none => none
def mapO {α β : Type} (f : α → Option β) : List α → Option (List β)
  | [] => some []
  | x :: r => match f x, mapO f r with | some y, some l => some (y :: l) | _, _ => none
def placesP (t : TypeId) : Option (List (Nat × Nat)) :=
  match P.underlying t with
  | some (.struct fs) => mapO (placeP P) fs.toList
  | _ => none
/-- the places of what a struct, an array is built of. -/
def placeF (t : TypeId) : Option (Nat → Option (Nat × Nat)) :=
  match P.underlying t with
  | some (.struct _) => match placesP P t with | some pl => some (fun i => pl[i]?) | none => none
  | some (.array _ e) => match P.info? e with | some i => some (fun k => some (k * i.size, i.size)) | none => none
  | _ => none
/-- a value stands alone in a cell. -/
def flatAV : AV T.U → Bool
  | .agg _ => false | .tup _ => false | .eptr _ _ _ _ => false | .lptr _ _ _ _ => false | .raw (.agg _) => false | .raw (.tuple _) => false | .arr _ _ _ => false
  | _ => true
def cellsOk : AV T.U → Bool
  | .agg _ => true
  | a => flatAV T a
def fillA (place : Nat → Option (Nat × Nat)) (cs : List (AV T.U)) : List (Nat × AV T.U) → Option (List (AV T.U))
  | [] => some cs
  | (i, a) :: r => match place i with
    | some (o, n) => match cellsOk T a && (Nat.beq (cellsA T a).length n && Nat.ble (o + (cellsA T a).length) cs.length) with
      | true => fillA place (putsA T cs o (cellsA T a)) r
      | false => none
    | none => none
def zeroA (e : TypeId) : Option (List (AV T.U)) := match zeroOf P e with | some c => some (c.toList.map (ofV1 T)) | none => none
def partsA (F : AF T) : List (Nat × Operand) → Option (List (Nat × AV T.U))
  | [] => some []
  | (i, x) :: r => match aev T F x, partsA F r with | some a, some l => some ((i, a) :: l) | _, _ => none
def minA : List (AV T.U) → Option (AV T.U)
  | [.cell ⟨.int k, x⟩] => some (cI T k x)
  | [.cell ⟨.int k, x⟩, .cell ⟨.int k', y⟩] => match kindEq k k' with | true => some (cI T k (gMin x y)) | false => none
  | _ => none
def maxA : List (AV T.U) → Option (AV T.U)
  | [.cell ⟨.int k, x⟩] => some (cI T k x)
  | [.cell ⟨.int k, x⟩, .cell ⟨.int k', y⟩] => match kindEq k k' with | true => some (cI T k (gMax x y)) | false => none
  | _ => none
def isIntK (t : TypeId) : Option IntKind := match P.underlying t with | some (.int k) => some k | _ => none
def moveP (a : AV T.U) (f : Nat) : Option (AV T.U) :=
  match a with
  | .ptr i o => some (.ptr i (o + f))
  | .eptr i sz k c => some (.eptr i sz k (c + f))
  | .lptr e xs k c => some (.lptr e xs k (c + f))
  | .aptr i o sz n k c => some (.aptr i o sz n k (c + f))
  | _ => none
/-- an operation that makes a value of values alone. -/
def pureA (o : Op) (F : AF T) : Option (AV T.U) :=
  match o with
  | .move x => aev T F x
  | .assign x => aev T F x
  | .binOp b t x y _ => match aev T F x, aev T F y with | some a, some c => binA T P b t (isLit x || isLit y) a c | _, _ => none
  | .unOp u _ x => match aev T F x with | some a => unA T u a | none => none
  | .convert s d x => match aev T F x, isIntK P d, P.underlying s with | some (.cell ⟨.int _, x⟩), some k, some _ => some (cI T k (k.wrap x)) | _, _, _ => none
  | .extract x i => match aev T F x with | some (.tup vs) => vs[i]? | _ => none
  | .field t x j => match aev T F x with | some a => fieldA T P t j a | none => none
  | .makeInterface t x => match aev T F x, P.underlying t with
    | some a, some d => (match d with | .interface _ => none | _ => some (.ifc t a))
    | _, _ => none
  | .makeFunc f a b => match aevL T F a.toList, aevL T F b.toList with | some x, some y => some (.fn f x y) | _, _ => none
  | .build t ps => match placeF P t, zeroA T P t, partsA T F ps.toList with
    | some pf, some z, some l => (match fillA T pf z l with | some cs => some (.agg cs) | none => none)
    | _, _, _ => none
  | .fieldAddr t x j => match aev T F x, fieldP P t j with
    | some a, some (_, f, n, _) => (match Nat.beq n 0 with | true => none | false => moveP T a f)
    | _, _ => none
  | _ => none
/-- what may panic: shifts by what may be below 0, divisions: with a test ahead. -/
def divA {R : Type} (b : BinOp) (x y : AV T.U) (K : AV T.U → Option R) : Option R :=
  match b, x, y with
  | .quo, .cell ⟨.int k, x⟩, .cell ⟨.int k', y⟩ => match kindEq k k' with | true => divI k x y K | false => none
  | .rem, .cell ⟨.int k, x⟩, .cell ⟨.int k', y⟩ => match kindEq k k' with | true => remI k x y K | false => none
  | .shl, .cell ⟨.int k, x⟩, .cell ⟨.int _, y⟩ => shlI k x y K
  | .shr, .cell ⟨.int k, x⟩, .cell ⟨.int _, y⟩ => shrI k x y K
  | _, _, _ => none
where
  divI {R : Type} (k : IntKind) (x y : Int) (K : AV T.U → Option R) : Option R := if y = 0 then none else K (cI T k (k.wrap (x.tdiv y)))
  remI {R : Type} (k : IntKind) (x y : Int) (K : AV T.U → Option R) : Option R := if y = 0 then none else K (cI T k (x.tmod y))
  shlI {R : Type} (k : IntKind) (x y : Int) (K : AV T.U → Option R) : Option R := if y < 0 then none else K (cI T k (sShl k x y))
  shrI {R : Type} (k : IntKind) (x y : Int) (K : AV T.U → Option R) : Option R := if y < 0 then none else K (cI T k (sShr k x y))
/-- a text's byte. -/
def strAt {R : Type} (s : ByteArray) (j : Int) (K : Int → Option R) : Option R := match (if 0 ≤ j then s[j.toNat]? else none) with | some b => K (b.toNat : Int) | none => none
/-! ### What touches memory -/
def lenA (H : List (Ent T.U)) : AV T.U → Option Nat
  | .cell ⟨.list _, xs⟩ => some (List.length (α := den T.U _) xs)
  | .own i => match H[i]? with | some (.row _ _ xs) => some xs.length | some (.drow _ _ _ xs _) => some xs.length | _ => none
  | .sl _ _ _ n => some n
  | .asl _ _ _ _ _ m => some m
  | .raw (.slice none 0 0) => some 0
  | _ => none
section
variable {R : Type}
/-- a thing's cells, as they are loaded: one cell, or an aggregate. -/
def loadC (t : TypeId) (cs : List (AV T.U)) (o : Nat) : Option (AV T.U) :=
  match P.info? t, P.underlying t with
  | some i, some d => cutA T cs o i.size (aggD d)
  | _, _ => none
/-- The part of a block's cells that begins at a place. -/
def locB : List (AV T.U) → Nat → Option (List (AV T.U))
  | [], _ => none
  | a :: r, o => match Nat.beq o 0 with
    | true => some (a :: r)
    | false => match Nat.ble (wd T a) o with | true => locB r (o - wd T a) | false => none
/-- that part turned. -/
def turnB (f : List (AV T.U) → Option (List (AV T.U))) : List (AV T.U) → Nat → Option (List (AV T.U))
  | [], o => match Nat.beq o 0 with | true => f [] | false => none
  | a :: r, o => match Nat.beq o 0 with
    | true => f (a :: r)
    | false => match Nat.ble (wd T a) o with
      | true => (match turnB f r (o - wd T a) with | some l => some (a :: l) | none => none)
      | false => none
def arrI {U : Nat → Type} : AV U → Option ((t : Ty) × Nat × List (den U t)) | .arr t n xs => some ⟨t, n, xs⟩ | _ => none
/-- a block's cells at a place, as they are loaded. -/
def cutB (cs : List (AV T.U)) (o n : Nat) (agg : Bool) : Option (AV T.U) :=
  match locB T cs o with
  | some (a :: r) => match agg with
    | false => match notArr T a with | true => some a | false => none
    | true => match arrI a with
      | some ⟨t, m, xs⟩ => match Nat.beq (m * szT T t) n with | true => some (.arr t m xs) | false => none
      | none => match Nat.ble n (r.length + 1) && ((a :: r).take n).all (notArr T) with | true => some (.agg ((a :: r).take n)) | false => none
  | _ => none
def loadB (t : TypeId) (cs : List (AV T.U)) (o : Nat) : Option (AV T.U) :=
  match P.info? t, P.underlying t with
  | some i, some d => cutB T cs o i.size (aggD d)
  | _, _ => none
/-- an array type: how many elements, of how many cells. -/
def arrInfo (t : TypeId) : Option (Nat × Nat) :=
  match P.underlying t with
  | some (.array n e) => match P.info? e with | some i => some (n, i.size) | none => none
  | _ => none
def putOnes : List (AV T.U) → List (AV T.U) → Option (List (AV T.U))
  | cs, [] => some cs
  | [], _ :: _ => none
  | a :: r, b :: l => match notArr T a && notArr T b with | true => (match putOnes r l with | some s => some (b :: s) | none => none) | false => none
def putArr (t : Ty) (n : Nat) (xs : List (den T.U t)) : List (AV T.U) → Option (List (AV T.U))
  | a :: r => match arrI a with
    | some ⟨t', n', _⟩ => match Nat.beq n' n && Nat.beq (szT T t') (szT T t) with | true => some (.arr t n xs :: r) | false => none
    | none => none
  | [] => none
def cellsE (t : Ty) (x : den T.U t) : List (AV T.U) := (flat T t x).map .cell
def loadA (t : TypeId) (H : List (Ent T.U)) : AV T.U → Option (AV T.U)
  | .ptr i o => match H[i]? with | some (.blk _ cs) => (match loadB T P t cs o with | some (.eptr _ _ _ _) => none | r => r) | _ => none
  | .aptr i o sz n k c => match H[i]? with
    | some (.blk _ cs) => match locB T cs o with
      | some (a :: _) => match arrI a with
        | some ⟨ty, n', xs⟩ => match Nat.beq n' n && Nat.beq (szT T ty) sz with | true => loadC T P t (cellsE T ty (xs.getD k (dflt T ty))) c | false => none
        | none => none
      | _ => none
    | _ => none
  | .eptr i _ k c => match H[i]? with | some (.row _ ty xs) => loadC T P t (cellsE T ty (xs.getD k (dflt T ty))) c | _ => none
  | .lptr e xs k c => loadC T P t (cellsE T e (xs.getD k (dflt T e))) c
  | _ => none
def cellOf : AV T.U → Option (Cell T.U)
  | .cell c => some c
  | _ => none
def cellsOf : List (AV T.U) → Option (List (Cell T.U))
  | [] => some []
  | a :: r => match cellOf T a, cellsOf r with | some c, some l => some (c :: l) | _, _ => none
def putC (cs : List (Cell T.U)) (o : Nat) : List (Cell T.U) → List (Cell T.U)
  | [] => cs
  | a :: r => putC (cs.set o a) (o + 1) r
/-- what is stored fits its place. -/
def fits (t : TypeId) (o n : Nat) (a : AV T.U) : Bool :=
  match P.info? t with
  | some i => cellsOk T a && (Nat.beq (cellsA T a).length i.size && (Nat.ble (o + i.size) n && (cellsA T a).all (flatAV T)))
  | none => false
def putElem (n sz k c : Nat) (l : List (Cell T.U)) : List (AV T.U) → Option (List (AV T.U))
  | a :: r => match arrI a with
    | some ⟨ty, n', xs⟩ => match Nat.beq n' n && (Nat.beq (szT T ty) sz && Nat.ble (c + l.length) sz) with
      | true => match unflat T ty (putC T (flat T ty (xs.getD k (dflt T ty))) c l) with | some y => some (.arr ty n' (xs.set k y) :: r) | none => none
      | false => none
    | none => none
  | [] => none
/-- n typed things out of cells. -/
def rowOf (ty : Ty) : Nat → List (AV T.U) → Option (List (den T.U ty))
  | 0, [] => some []
  | 0, _ => none
  | n + 1, cs => match cellsOf T (cs.take (szT T ty)) with
    | some l => match unflat T ty l, rowOf ty n (cs.drop (szT T ty)) with | some x, some r => some (x :: r) | _, _ => none
    | none => none
/-- an array, out of cells. -/
def putRow (bs : List (AV T.U)) : List (AV T.U) → Option (List (AV T.U))
  | a :: r => match arrI a with
    | some ⟨t, n, _⟩ => match rowOf T t n bs with | some xs => putArr T t n xs (a :: r) | none => none
    | none => none
  | [] => none
def putG (bs l : List (AV T.U)) : Option (List (AV T.U)) := match putOnes T l bs with | some r => some r | none => putRow T bs l
/-- a value stored into a block. -/
def storeB (t : TypeId) (cs : List (AV T.U)) (o : Nat) (a : AV T.U) : Option (List (AV T.U)) :=
  match arrI a with
  | some ⟨ty, n, xs⟩ => match P.info? t with
    | some i => match Nat.beq (n * szT T ty) i.size with | true => turnB T (putArr T ty n xs) cs o | false => none
    | none => none
  | none => match fits T P t 0 (cellsA T a).length a with | true => turnB T (putG T (cellsA T a)) cs o | false => none
def storeA (t : TypeId) (H : List (Ent T.U)) (p a : AV T.U) : Option (List (Ent T.U)) :=
  match p with
  | .ptr i o => match H[i]? with
    | some (.blk e cs) => match storeB T P t cs o a with | some cs' => some (H.set i (.blk e cs')) | none => none
    | _ => none
  | .aptr i o sz n k c => match H[i]? with
    | some (.blk e cs) => match fits T P t 0 (cellsA T a).length a, cellsOf T (cellsA T a) with
      | true, some l => (match turnB T (putElem T n sz k c l) cs o with | some cs' => some (H.set i (.blk e cs')) | none => none)
      | _, _ => none
    | _ => none
  | .eptr i _ k c => match H[i]? with
    | some (.row e ty xs) => match fits T P t c (szT T ty) a, cellsOf T (cellsA T a) with
      | true, some l => match unflat T ty (putC T (flat T ty (xs.getD k (dflt T ty))) c l) with | some y => some (H.set i (.row e ty (xs.set k y))) | none => none
      | _, _ => none
    | _ => none
  | _ => none
/-- how the elements of a slice type are kept here. -/
structure Elems where
  ty : TypeId → Option Ty
def elemIs (t : TypeId) (e : Ty) : Bool := match elemSize P t with | some s => Nat.beq s (szT T e) | none => false
/-- an index into a slice. -/
def indexA (t : TypeId) (H : List (Ent T.U)) (s : AV T.U) (j : Int) (K : AV T.U → Option R) : Option R :=
  match s with
  | .cell ⟨.list e, xs⟩ => match elemIs T P t e with
    | true => if 0 ≤ j ∧ j < ((List.length (α := den T.U e) xs : Nat) : Int) then K (.lptr e xs j.toNat 0) else none
    | false => none
  | .own i => match H[i]? with
    | some (.row _ ty xs) => match elemIs T P t ty with
      | true => if 0 ≤ j ∧ j < ((xs.length : Nat) : Int) then K (.eptr i (szT T ty) j.toNat 0) else none
      | false => none
    | _ => none
  | .sl i sz o n => match H[i]? with
    | some (.row _ ty xs) => match elemIs T P t ty, Nat.beq sz (szT T ty) with
      | true, true => if 0 ≤ j ∧ j < ((n : Nat) : Int) then (if o + j.toNat < xs.length then K (.eptr i sz (o + j.toNat) 0) else none) else none
      | _, _ => none
    | some (.blk _ _) => match elemSize P t with
      | some s => match Nat.beq s sz with
        | true => if 0 ≤ j ∧ j < ((n : Nat) : Int) then K (.ptr i ((o + j.toNat) * sz)) else none
        | false => none
      | none => none
    | _ => none
  | .asl i o sz n lo m => match elemSize P t with
    | some s => match Nat.beq s sz with
      | true => if 0 ≤ j ∧ j < ((m : Nat) : Int) then K (.aptr i o sz n (lo + j.toNat) 0) else none
      | false => none
    | none => none
  | _ => none
/-- an index into an array that is pointed to. -/
def indexR (n sz : Nat) (H : List (Ent T.U)) (s : AV T.U) (j : Int) (K : AV T.U → Option R) : Option R :=
  match s with
  | .ptr i o => match H[i]? with
    | some (.blk _ cs) => match locB T cs o with
      | some (a :: _) => match arrI a with
        | some ⟨ty, m, _⟩ => match Nat.beq m n && Nat.beq (szT T ty) sz with
          | true => if 0 ≤ j ∧ j < ((n : Nat) : Int) then K (.aptr i o sz n j.toNat 0) else none
          | false => none
        | none => if 0 ≤ j ∧ j < ((n : Nat) : Int) then K (.ptr i (o + j.toNat * sz)) else none
      | _ => none
    | _ => none
  | .lptr e xs k c => match Nat.beq (szT T e) sz && Nat.beq c 0 with
    | true => if 0 ≤ j ∧ j < ((n : Nat) : Int) then (if k + j.toNat < List.length (α := den T.U e) xs then K (.lptr e xs (k + j.toNat) 0) else none) else none
    | false => none
  | .eptr i s k c => match H[i]? with
    | some (.row _ ty xs) => match Nat.beq (szT T ty) sz && (Nat.beq s sz && Nat.beq c 0) with
      | true => if 0 ≤ j ∧ j < ((n : Nat) : Int) then (if k + j.toNat < xs.length then K (.eptr i sz (k + j.toNat) 0) else none) else none
      | false => none
    | _ => none
  | _ => none
/-- a slice of an array that is pointed to. -/
def sliceR (n sz : Nat) (H : List (Ent T.U)) (s : AV T.U) (lo hi : Option Int) (K : AV T.U → Option R) : Option R :=
  let l := lo.getD 0
  let h := hi.getD ((n : Nat) : Int)
  match s with
  | .ptr i o => match H[i]? with
    | some (.blk _ cs) => match locB T cs o with
      | some (a :: _) => match arrI a with
        | some ⟨ty, m, _⟩ => match Nat.beq m n && Nat.beq (szT T ty) sz with
          | true => if 0 ≤ l ∧ l ≤ h ∧ h ≤ ((n : Nat) : Int) then K (.asl i o sz n l.toNat (h.toNat - l.toNat)) else none
          | false => none
        | none => none
      | _ => none
    | _ => none
  | .lptr e xs k c => match Nat.beq (szT T e) sz && (Nat.beq c 0 && Nat.beq k 0) with
    | true => if n ≤ List.length (α := den T.U e) xs then (if 0 ≤ l ∧ l ≤ h ∧ h ≤ ((n : Nat) : Int) then K (.cell ⟨.list e, (List.take (h.toNat - l.toNat) (List.drop l.toNat (xs : List (den T.U e))))⟩) else none) else none
    | false => none
  | _ => none
/-- an array out of a slice, pointed to. -/
def arrOfA (n sz : Nat) (H : List (Ent T.U)) (s : AV T.U) (K : AV T.U → Option R) : Option R :=
  match s with
  | .cell ⟨.list e, xs⟩ => match Nat.beq (szT T e) sz && Nat.ble 1 n with
    | true => if n ≤ List.length (α := den T.U e) xs then K (.lptr e xs 0 0) else none
    | false => none
  | .own i => match H[i]? with
    | some (.row _ ty xs) => match Nat.beq (szT T ty) sz && Nat.ble 1 n with
      | true => if n ≤ xs.length then K (.eptr i sz 0 0) else none
      | false => none
    | _ => none
  | _ => none
/-- an array that is loaded whole. -/
def loadR (n sz : Nat) (ok : Bool) (H : List (Ent T.U)) (s : AV T.U) (K : AV T.U → Option R) (D : Option R) : Option R :=
  match s with
  | .lptr e xs k c => match ok && (Nat.beq (szT T e) sz && Nat.beq c 0) with
    | true => if k + n ≤ List.length (α := den T.U e) xs then K (.arr e n (List.take n (List.drop k (xs : List (den T.U e))))) else none
    | false => D
  | .eptr i s k c => match H[i]? with
    | some (.row _ ty xs) => match ok && (Nat.beq (szT T ty) sz && (Nat.beq s sz && Nat.beq c 0)) with
      | true => if k + n ≤ xs.length then K (.arr ty n (List.take n (List.drop k xs))) else none
      | false => D
    | _ => D
  | _ => D
def eIs (t : TypeId) (e : Ty) : Bool := match eInfo P t with | some (_, sz, _, _) => Nat.beq sz (szT T e) | none => false
/-- s[lo:hi]. -/
def sliceA (t : TypeId) (H : List (Ent T.U)) (s : AV T.U) (lo hi : Option Int) (K : AV T.U → Option R) : Option R :=
  match s with
  | .cell ⟨.list e, xs⟩ =>
    let n := List.length (α := den T.U e) xs
    let l := lo.getD 0
    let h := hi.getD ((n : Nat) : Int)
    match eIs T P t e with
    | true => if 0 ≤ l ∧ l ≤ h ∧ h ≤ ((n : Nat) : Int) then K (.cell ⟨.list e, (List.take (h.toNat - l.toNat) (List.drop l.toNat (xs : List (den T.U e))))⟩) else none
    | false => none
  | .own i => match H[i]? with
    | some (.row _ ty xs) =>
      let l := lo.getD 0
      let h := hi.getD ((xs.length : Nat) : Int)
      match eIs T P t ty with
      | true => if 0 ≤ l ∧ l ≤ h ∧ h ≤ ((xs.length : Nat) : Int) then K (.sl i (szT T ty) l.toNat (h.toNat - l.toNat)) else none
      | false => none
    | _ => none
  | .sl i sz o n => match H[i]? with
    | some (.row _ ty xs) =>
      let l := lo.getD 0
      let h := hi.getD ((n : Nat) : Int)
      match eIs T P t ty, Nat.beq sz (szT T ty) with
      | true, true => if 0 ≤ l ∧ l ≤ h ∧ (h ≤ ((n : Nat) : Int) ∨ (((o : Nat) : Int) + h ≤ ((xs.length : Nat) : Int) ∧ (o = 0 ∨ 0 < n))) then K (.sl i sz (o + l.toNat) (h.toNat - l.toNat)) else none
      | _, _ => none
    | _ => none
  | .asl i o sz n o1 m =>
    let l := lo.getD 0
    let h := hi.getD ((m : Nat) : Int)
    match eInfo P t with
    | some (_, s, _, _) => match Nat.beq s sz with
      | true => if 0 ≤ l ∧ l ≤ h ∧ ((o1 : Nat) : Int) + h ≤ ((n : Nat) : Int) then K (.asl i o sz n (o1 + l.toNat) (h.toNat - l.toNat)) else none
      | false => none
    | none => none
  | _ => none
/-! ### Rows that are made -/
def buildA (ty : Ty) (t : TypeId) (len : Nat) (ps : List (Nat × AV T.U)) : Option (TypeId × List (den T.U ty)) :=
  match eInfo P t with
  | some (e, sz, _, zc) => match Nat.beq sz (szT T ty) && (Nat.ble 1 sz && Nat.ble (len * sz) 16777216) with
    | true => match fillA T (fun j => some (j * sz, sz)) ((List.range (len * sz)).map fun j => ofV1 T (zc[j % sz]!)) ps with
      | some cs => match rowOf T ty len cs with | some xs => some (e, xs) | none => none
      | none => none
    | false => none
  | none => none
/-- the same, thing by thing. -/
def buildB (t : TypeId) (len : Nat) (ps : List (Nat × AV T.U)) : Option (TypeId × Nat × List (AV T.U)) :=
  match eInfo P t with
  | some (e, sz, _, zc) => match Nat.ble 1 sz && Nat.ble (len * sz) 16777216 with
    | true => match fillA T (fun j => some (j * sz, sz)) ((List.range (len * sz)).map fun j => ofV1 T (zc[j % sz]!)) ps with
      | some cs => match cs.all (notArr T) with | true => some (e, sz, cs) | false => none
      | none => none
    | false => none
  | none => none
/-- a part of a row becomes nothing again; a map has nothing any more. -/
def clearA (t : TypeId) (H : List (Ent T.U)) (s : AV T.U) (K : AV T.U → List (Ent T.U) → Option R) : Option R :=
  match s with
  | .mp i => match H[i]?, P.underlying t with
    | some (.tmap k ty _), some (.map _ _) => K (.tup []) (H.set i (.tmap k ty []))
    | _, _ => none
  | .sl i sz o n => match H[i]? with
    | some (.row e ty xs) => match eInfo P t with
      | some (_, s, _, zc) => match Nat.beq s (szT T ty) && Nat.beq sz (szT T ty), cellsOf T (zc.toList.map (ofV1 T)) with
        | true, some z => match unflat T ty z with
          | some x0 => if o + n ≤ xs.length then K (.tup []) (H.set i (.row e ty (xs.take o ++ (List.replicate n x0 ++ xs.drop (o + n))))) else none
          | none => none
        | _, _ => none
      | none => none
    | _ => none
  | _ => none
/-! ### Arrays among new cells -/
def eqII (x y : Int) : Bool := x == y
def eqBB (x y : Bool) : Bool := x == y
def sameAV : AV T.U → AV T.U → Bool
  | .cell ⟨.int k, x⟩, .cell ⟨.int k', y⟩ => kindEq k k' && eqII x y
  | .cell ⟨.bool, a⟩, .cell ⟨.bool, b⟩ => eqBB a b
  | _, _ => false
def stripA : List (AV T.U) → List (AV T.U) → Option (List (AV T.U))
  | [], r => some r
  | _ :: _, [] => none
  | a :: z, b :: r => match sameAV T a b with | true => stripA z r | false => none
def repAll (z : List (AV T.U)) : Nat → List (AV T.U) → Bool
  | 0, r => r.isEmpty
  | n + 1, r => match stripA T z r with | some s => repAll z n s | none => false
def isNilR {U : Nat → Type} : AV U → Bool | .raw (.slice none 0 0) => true | _ => false
/-- slices that are all nil. -/
def nilsOf (n : Nat) (as : List (AV T.U)) : (t : Ty) → Option (List (den T.U t))
  | .nl e => match as.all isNilR && Nat.beq as.length n with | true => some (List.replicate n ([] : List (den T.U e))) | false => none
  | _ => none
def arrOf (t : Ty) (n : Nat) (as : List (AV T.U)) : Option (List (den T.U t)) :=
  match nilsOf T n as t with
  | some xs => some xs
  | none => match cellsOf T (as.take (szT T t)) with
    | some l => match unflat T t l with
      | some x => match repAll T (as.take (szT T t)) n as with | true => some (List.replicate n x) | false => rowOf T t n as
      | none => none
    | none => none
abbrev Lay := List (Option (Ty × Nat))
def groupA : Lay → List (AV T.U) → Option (List (AV T.U))
  | [], as => match as with | [] => some [] | _ :: _ => none
  | none :: r, as => match as with
    | a :: s => match notArr T a with | true => (match groupA r s with | some l => some (a :: l) | none => none) | false => none
    | [] => none
  | some (t, n) :: r, as => match arrOf T t n (as.take (n * szT T t)), groupA r (as.drop (n * szT T t)) with | some xs, some l => some (.arr t n xs :: l) | _, _ => none
def layA (ls : Option Lay) (as : List (AV T.U)) : Option (List (AV T.U)) :=
  match ls with
  | none => match as.all (notArr T) with | true => some as | false => none
  | some l => groupA T l as
/-- what is put into a new block. -/
def boxA (ls : Option Lay) (a : AV T.U) : Option (List (AV T.U)) :=
  match arrI a with
  | some _ => some [a]
  | none => match cellsOk T a with | true => layA T ls (cellsA T a) | false => none
/-- of a slice, and what is put behind it, as rows. -/
def appA (ty : Ty) (t : TypeId) (H : List (Ent T.U)) (s x : AV T.U) (K : AV T.U → List (Ent T.U) → Option R) : Option R :=
  match eInfo P t with
  | some (e, sz, by_, _) => match Nat.beq sz (szT T ty) && (Nat.ble 1 sz && (Nat.ble 1 by_ && eOk e H s)) with
    | true => match rowIn ty H s with
      | some xs => rowX ty H x fun ys => if (xs.length + ys.length) * by_ ≤ 140737488355328 then K (.own H.length) (goneA H s ++ [.row e ty (xs ++ ys)]) else none
      | none => none
    | false => none
  | none => none
where
  rowIn (ty : Ty) (H : List (Ent T.U)) : AV T.U → Option (List (den T.U ty))
    | .cell c => match c.as (.list ty) with | some xs => some xs | none => none
    | .own i => match H[i]? with | some (.row _ ty' xs) => (if h : ty' = ty then some (h ▸ xs) else none) | _ => none
    | .raw (.slice none 0 0) => some []
    | _ => none
  rowX {R : Type} (ty : Ty) (H : List (Ent T.U)) (x : AV T.U) (K : List (den T.U ty) → Option R) : Option R :=
    match rowIn ty H x with
    | some ys => K ys
    | none => match x with
      | .sl i sz o n => match H[i]? with
        | some (.row _ ty' xs) => match Nat.beq sz (szT T ty') with
          | true => (if h : ty' = ty then (if o + n ≤ xs.length then K ((h ▸ xs : List (den T.U ty)).drop o |>.take n) else none) else none)
          | false => none
        | _ => none
      | _ => none
  eOk (e : TypeId) (H : List (Ent T.U)) : AV T.U → Bool
    | .own i => match H[i]? with | some (.row e' _ _) => Nat.beq e' e | _ => false
    | .cell _ => false
    | _ => true
  goneA (H : List (Ent T.U)) : AV T.U → List (Ent T.U)
    | .own i => H.set i .gone
    | _ => H
def makeA (ty : Ty) (t : TypeId) (H : List (Ent T.U)) (l c : Int) (K : AV T.U → List (Ent T.U) → Option R) : Option R :=
  match eInfo P t with
  | some (e, sz, by_, zc) => match Nat.beq sz (szT T ty), cellsOf T (zc.toList.map (ofV1 T)) with
    | true, some z => match unflat T ty z with
      | some x0 => if 0 ≤ l ∧ l ≤ c ∧ by_ * c.toNat ≤ 281474976710656 ∧ c ≤ 9223372036854775807 then K (.own H.length) (H ++ [.row e ty (List.replicate l.toNat x0)]) else none
      | none => none
    | _, _ => none
  | none => none
def zeroV (e : TypeId) : Option (AV T.U) := match P.info? e with | some i => (match i.zero with | some z => some (ofV T z) | none => none) | none => none
def assertA (a : AV T.U) (at_ : TypeId) (ok : Bool) : Option (AV T.U) :=
  match P.underlying at_, a with
  | some d, .ifc t x => match d with
    | .interface _ => none
    | _ => match Nat.beq t at_ with
      | true => match ok with | true => some (.tup [x, cB T true]) | false => some x
      | false => match ok, zeroV T P at_ with
        | true, some z => some (.tup [z, cB T false])
        | _, _ => none
  | _, _ => none
/-! ### Maps of typed things -/
def tget (ty : Ty) : List (Int × den T.U ty) → Int → den T.U ty
  | [], _ => dflt T ty
  | (y, a) :: r, x => if x = y then a else tget ty r x
def thas {α : Type} : List (Int × α) → Int → Bool
  | [], _ => false
  | (y, _) :: r, x => if x = y then true else thas r x
def tset {α : Type} : List (Int × α) → Int → α → List (Int × α)
  | [], x, a => [(x, a)]
  | (y, b) :: r, x, a => if x = y then (x, a) :: r else (y, b) :: tset r x a
def tdel {α : Type} : List (Int × α) → Int → List (Int × α)
  | [], _ => []
  | (y, b) :: r, x => if x = y then r else (y, b) :: tdel r x
def zTy : Ty → Value → Bool
  | .int k, .int k' x => kindEq k k' && eqZ x
  | .bool, .bool b => !b
  | .list _, .slice none n c => Nat.beq n 0 && Nat.beq c 0
  | _, _ => false
where
  eqZ (x : Int) : Bool := x == 0
def zeroT (e : TypeId) (ty : Ty) : Bool := match P.info? e with | some i => (match i.zero with | some z => zTy ty z | none => false) | none => false
def lookTm (co : Bool) (ty : Ty) (es : List (Int × den T.U ty)) (x : Int) : AV T.U :=
  match co with | true => .tup [.cell ⟨ty, tget T ty es x⟩, cB T (thas es x)] | false => .cell ⟨ty, tget T ty es x⟩
def oneOf (ty : Ty) (a : AV T.U) : Option (den T.U ty) := match a with | .cell c => c.as ty | _ => none
/-! ### Maps of few known keys -/
def mapK (t : TypeId) : Option (IntKind × TypeId × TypeId) :=
  match P.underlying t with
  | some (.map kt et) => match P.underlying kt with | some (.int k) => some (k, kt, et) | _ => none
  | _ => none
def lookM (co : Bool) (z : AV T.U) (x : Int) (K : AV T.U → Option R) : List (Int × AV T.U) → Option R
  | [] => K (match co with | true => .tup [z, cB T false] | false => z)
  | (y, a) :: r => if x = y then K (match co with | true => .tup [a, cB T true] | false => a) else lookM co z x K r
def lookA (t : TypeId) (co : Bool) (H : List (Ent T.U)) (m : AV T.U) (kx : IntKind) (x : Int) (K : AV T.U → Option R) : Option R :=
  match m, mapK P t with
  | .mp i, some (k, _, et) => match H[i]? with
    | some (.map k' es) => match kindEq k k' && kindEq kx k', zeroV T P et with | true, some z => lookM T co z x K es | _, _ => none
    | some (.tmap k' ty es) => match kindEq k k' && (kindEq kx k' && zeroT P et ty) with | true => K (lookTm T co ty es x) | false => none
    | _ => none
  | _, _ => none
def insA (t : TypeId) (H : List (Ent T.U)) (m : AV T.U) (kx : IntKind) (x : Int) (a : AV T.U) : Option (List (Ent T.U)) :=
  match m, mapK P t with
  | .mp i, some (k, _, _) => match H[i]? with
    | some (.map k' es) => match kindEq k k' && kindEq kx k' with | true => some (H.set i (.map k' (tset es x a))) | false => none
    | some (.tmap k' ty es) => match kindEq k k' && kindEq kx k', oneOf T ty a with | true, some y => some (H.set i (.tmap k' ty (tset es x y))) | _, _ => none
    | _ => none
  | _, _ => none
def delA (t : TypeId) (H : List (Ent T.U)) (m : AV T.U) (kx : IntKind) (x : Int) : Option (List (Ent T.U)) :=
  match m, mapK P t with
  | .mp i, some (k, _, _) => match H[i]? with
    | some (.map k' es) => match kindEq k k' && kindEq kx k' with | true => some (H.set i (.map k' (tdel es x))) | false => none
    | some (.tmap k' ty es) => match kindEq k k' && kindEq kx k' with | true => some (H.set i (.tmap k' ty (tdel es x))) | false => none
    | _ => none
  | _, _ => none
end
end
end Go.X
