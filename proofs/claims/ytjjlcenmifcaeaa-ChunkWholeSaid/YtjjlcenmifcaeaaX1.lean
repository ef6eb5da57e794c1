/- Abstract states: typed cells, lists that no one changes any more, entries that are owned; how they stand for values and memory. Nothing here is about one program. -/
import Derived.Test.YtjjlcenmifcaeaaG3
namespace Go.X
open Go.RowKit Go.V

/-- What an element, a parameter is. -/
inductive Ty where
  | int (k : IntKind) | bool | str | list (e : Ty) | user (i : Nat) | nl (e : Ty)
  deriving DecidableEq
def den (U : Nat → Type) : Ty → Type
  | .int _ => Int
  | .bool => Bool
  | .str => ByteArray
  | .list e => List (den U e)
  | .nl e => List (den U e)
  | .user i => U i
/-- One cell's worth: an integer, a truth, a text, a list. -/
structure Cell (U : Nat → Type) where
  t : Ty
  x : den U t
/-- no list lies in it. -/
def Ty.scal : Ty → Bool | .int _ => true | .bool => true | .str => true | _ => false
/-- An abstract value: a cell; a pointer into an entry; a pointer to an element of an entry, of a list; a slice of an entry; an aggregate; several; a function with what it holds; what lies in an interface; a value as it is; an array; a pointer to an element of an array within a block, a slice of it; a map. -/
inductive AV (U : Nat → Type) where
  | cell (c : Cell U)
  | ptr (i o : Nat)
  | eptr (i sz k c : Nat)
  | lptr (e : Ty) (xs : List (den U e)) (k o : Nat)
  | own (i : Nat)
  | sl (i sz o n : Nat)
  | agg (cs : List (AV U))
  | tup (vs : List (AV U))
  | fn (f : Fn) (first caps : List (AV U))
  | ifc (t : TypeId) (v : AV U)
  | raw (v : Value)
  | arr (t : Ty) (n : Nat) (xs : List (den U t))
  | aptr (i o sz n k c : Nat)
  | asl (i o sz n lo m : Nat)
  | mp (i : Nat)
mutual
def AV.ids {U : Nat → Type} : AV U → List Nat
  | .cell _ => []
  | .ptr i _ => [i]
  | .eptr i _ _ _ => [i]
  | .lptr _ _ _ _ => []
  | .own i => [i]
  | .sl i _ _ _ => [i]
  | .agg cs => idsL cs
  | .tup cs => idsL cs
  | .fn _ a b => idsL a ++ idsL b
  | .ifc _ a => a.ids
  | .raw _ => []
  | .arr _ _ _ => []
  | .aptr i _ _ _ _ _ => [i]
  | .asl i _ _ _ _ _ => [i]
  | .mp i => [i]
def idsL {U : Nat → Type} : List (AV U) → List Nat
  | [] => []
  | a :: r => a.ids ++ idsL r
end
/-- arrays are as long as they say. -/
def lensU {U : Nat → Type} (as : List (AV U)) : Prop := ∀ t n xs, AV.arr t n xs ∈ as → xs.length = n
/-- The struct types of a program, as types of Lean; a struct as a block's cells, arrays among them (bl), and back (rb). -/
structure Tab where
  U : Nat → Type
  d : (i : Nat) → U i
  size : Nat → Nat
  cells : (i : Nat) → U i → List (Cell U)
  len : ∀ i x, (cells i x).length = size i
  pack : (i : Nat) → List (Cell U) → Option (U i)
  packed : ∀ i cs x, pack i cs = some x → cells i x = cs
  scal : Nat → Bool
  scals : ∀ i x, scal i = true → ∀ c ∈ cells i x, c.t.scal = true
  bl : (i : Nat) → U i → List (AV U) := fun _ _ => []
  rb : (i : Nat) → List (AV U) → Option (U i) := fun _ _ => none
  rbl : ∀ i as x, rb i as = some x → lensU as → bl i x = as := by intro _ _ _ h; cases h
  bl0 : ∀ i x, idsL (bl i x) = [] := by intro _ _; rfl
section
variable (T : Tab)
def szT : Ty → Nat
  | .user i => T.size i
  | _ => 1
def flat : (t : Ty) → den T.U t → List (Cell T.U)
  | .user i, x => T.cells i x
  | .int k, x => [⟨.int k, x⟩]
  | .bool, x => [⟨.bool, x⟩]
  | .str, x => [⟨.str, x⟩]
  | .list e, x => [⟨.list e, x⟩]
  | .nl e, x => [⟨.nl e, x⟩]
def dflt : (t : Ty) → den T.U t
  | .user i => T.d i
  | .int _ => (0 : Int)
  | .bool => false
  | .str => ByteArray.empty
  | .list _ => []
  | .nl _ => []
theorem flat_len (t : Ty) (x : den T.U t) : (flat T t x).length = szT T t := by
  cases t <;> first | rfl | exact T.len _ _
def Cell.as {U : Nat → Type} (c : Cell U) (t : Ty) : Option (den U t) := if h : c.t = t then some (h ▸ c.x) else none
theorem Cell.as_eq {U : Nat → Type} {c : Cell U} {t : Ty} {x : den U t} (h : c.as t = some x) : c = ⟨t, x⟩ := by
  unfold Cell.as at h
  split at h
  · rename_i hk; subst hk; simp only [Option.some.injEq] at h; subst h; rfl
  · cases h
def Ty.one : Ty → Bool | .user _ => false | _ => true
theorem flat_one {t : Ty} (h : t.one = true) (x : den T.U t) : flat T t x = [⟨t, x⟩] := by cases t <;> first | rfl | cases h
def asOne {U : Nat → Type} (t : Ty) : List (Cell U) → Option (den U t)
  | [c] => c.as t
  | _ => none
/-- of cells a typed thing. -/
def unflat (t : Ty) (cs : List (Cell T.U)) : Option (den T.U t) :=
  match t with
  | .user i => T.pack i cs
  | t => asOne t cs
theorem unflat_flat {t : Ty} {cs : List (Cell T.U)} {x : den T.U t} (h : unflat T t cs = some x) : flat T t x = cs := by
  have key : ∀ t : Ty, t.one = true → ∀ x : den T.U t, asOne t cs = some x → flat T t x = cs := by
    intro t ht x h
    unfold asOne at h
    split at h
    · rw [Cell.as_eq h, flat_one T ht]
    · cases h
  cases t with
  | user i => exact T.packed _ _ _ h
  | int k => exact key _ rfl x h
  | bool => exact key _ rfl x h
  | str => exact key _ rfl x h
  | list e => exact key _ rfl x h
  | nl e => exact key _ rfl x h

/-- where an entry lies: its address, its length, its room. -/
structure RA where
  ad : Option Addr
  n : Nat
  cap : Nat
  xs : List Nat
/-- An entry: a block whose cells are known (an array among them stands for as many as it has); a row that is owned; a map of known keys; a map of typed things, whatever its keys; a row of structs whose lists lie in blocks of their own (one of them may be open: its place, its cells); a map of pointers to blocks that it owns (one of them may be open: its key, its entry); one that is gone. -/
inductive Ent (U : Nat → Type) where
  | blk (e : TypeId) (cs : List (AV U))
  | row (e : TypeId) (t : Ty) (xs : List (den U t))
  | map (k : IntKind) (es : List (Int × AV U))
  | tmap (k : IntKind) (t : Ty) (m : List (Int × den U t))
  | drow (e : TypeId) (d : Nat) (fe : List TypeId) (xs : List (U d)) (op : Option (Nat × List (AV U)))
  | pmap (k : IntKind) (be : TypeId) (d : Nat) (m : List (Int × U d)) (op : Option (Int × Nat))
  | gone

/-! ### What they stand for -/
/-- A typed cell stands for a value; the blocks of S may still change. -/
inductive CR (w : World) (S : List Nat) : (t : Ty) → den T.U t → Value → Prop
  | int (k : IntKind) (x : Int) : CR w S (.int k) x (.int k x)
  | bool (b : Bool) : CR w S .bool b (.bool b)
  | str (s : ByteArray) : CR w S .str s (.string s)
  | list (e : Ty) (xs : List (den T.U e)) (ad : Option Addr) (cap : Nat) (u : Nat → Nat → Value) (hcap : xs.length ≤ cap) (hnil : ad = none → xs.length = 0 ∧ cap = 0)
      (had : xs ≠ [] → ad = some ⟨bk ad, of ad, none⟩ ∧ bk ad < w.heap.size ∧ bk ad ∉ S)
      (hcell : ∀ k j (c : Cell T.U), (xs[k]?.map fun x => (flat T e x)[j]?) = some (some c) → w.cell? ⟨bk ad, of ad + (k * szT T e + j), none⟩ = some (u k j))
      (hrel : ∀ k j (c : Cell T.U), (xs[k]?.map fun x => (flat T e x)[j]?) = some (some c) → CR w S c.t c.x (u k j)) : CR w S (.list e) xs (.slice ad xs.length cap)
  | nl (e : Ty) (xs : List (den T.U e)) (ad : Option Addr) (cap : Nat) (h : CR w S (.list e) xs (.slice ad xs.length cap)) (hn : xs = [] → ad = none ∧ cap = 0) : CR w S (.nl e) xs (.slice ad xs.length cap)
abbrev CellR (w : World) (S : List Nat) (c : Cell T.U) (v : Value) : Prop := CR T w S c.t c.x v
/-- cells, one by one. -/
def CellsR (w : World) (S : List Nat) (cs : List (Cell T.U)) (vs : List Value) : Prop := cs.length = vs.length ∧ ∀ (j : Nat) (c : Cell T.U) (v : Value), cs[j]? = some c → vs[j]? = some v → CellR T w S c v
mutual
def VR (w : World) (S : List Nat) (φ : Nat → RA) : AV T.U → Value → Prop
  | .cell c, v => CellR T w S c v
  | .ptr i o, v => ∃ g, (φ i).ad = some ⟨g, 0, none⟩ ∧ v = .pointer (some ⟨g, o, none⟩)
  | .eptr i sz k c, v => ∃ g, (φ i).ad = some ⟨g, 0, none⟩ ∧ v = .pointer (some ⟨g, 0 + (k * sz + c), none⟩)
  | .lptr e xs k o, v => ∃ ad cap, CR T w S (.list e) xs (.slice ad xs.length cap) ∧ k < xs.length ∧ v = .pointer (some ⟨bk ad, of ad + (k * szT T e + o), none⟩)
  | .own i, v => v = .slice (φ i).ad (φ i).n (φ i).cap
  | .sl i sz o n, v => ∃ ad, v = .slice ad n ((φ i).cap - o) ∧ o + n ≤ (φ i).cap ∧ (n = 0 ∨ ∃ g, (φ i).ad = some ⟨g, 0, none⟩ ∧ ad = some ⟨g, 0 + o * sz, none⟩) ∧ (ad = none → n = 0 ∧ (φ i).cap - o = 0) ∧ (o = 0 → ad = (φ i).ad)
  | .agg cs, v => ∃ vs : Array Value, v = .agg vs ∧ VRL w S φ cs vs.toList
  | .tup cs, v => ∃ vs : Array Value, v = .tuple vs ∧ VRL w S φ cs vs.toList
  | .fn f a b, v => ∃ va vb : Array Value, v = .func f va vb ∧ VRL w S φ a va.toList ∧ VRL w S φ b vb.toList
  | .ifc t a, v => ∃ u, v = .iface t u ∧ VR w S φ a u
  | .raw u, v => v = u
  | .arr t n xs, v => ∃ vs : Array Value, v = .agg vs ∧ xs.length = n ∧ CellsR T w S (xs.flatMap (flat T t)) vs.toList
  | .aptr i o sz n k c, v => ∃ g, (φ i).ad = some ⟨g, 0, none⟩ ∧ k < n ∧ v = .pointer (some ⟨g, o + (k * sz + c), none⟩)
  | .asl i o sz n lo m, v => ∃ g ad, (φ i).ad = some ⟨g, 0, none⟩ ∧ v = .slice (some ad) m (n - lo) ∧ lo + m ≤ n ∧ (lo = n ∨ ad = ⟨g, o + lo * sz, none⟩)
  | .mp i, v => ∃ g, (φ i).ad = some ⟨g, 0, none⟩ ∧ v = .map (some g)
def VRL (w : World) (S : List Nat) (φ : Nat → RA) : List (AV T.U) → List Value → Prop
  | [], [] => True
  | a :: r, v :: s => VR w S φ a v ∧ VRL w S φ r s
  | _, _ => False
end

/-! ### What stays -/
theorem cell_chg {Tc : List Nat} {w w' : World} {a : Addr} {v : Value} (hc : Chg Tc w w') (hb : a.block ∉ Tc) (h : w.cell? a = some v) : w'.cell? a = some v :=
  (World.cell?_of_block (hc.block _ (World.block_lt_of_cell? w _ h) hb)).trans h
theorem CR.chg {Tc S S' : List Nat} {w w' : World} (hc : Chg Tc w w') (hT : ∀ b ∈ Tc, b ∈ S) (hS : ∀ b ∈ S', b ∈ S ∨ w.heap.size ≤ b) {t : Ty} {x : den T.U t} {v : Value} (h : CR T w S t x v) : CR T w' S' t x v := by
  induction h with
  | int k x => exact .int k x
  | bool b => exact .bool b
  | str s => exact .str s
  | nl e xs ad cap _ hn ih => exact .nl e xs ad cap ih hn
  | list e xs ad cap u hcap hnil had hcell hrel ih =>
    refine .list e xs ad cap u hcap hnil ?_ ?_ ih
    · intro hx
      obtain ⟨h1, h2, h3⟩ := had hx
      refine ⟨h1, Nat.lt_of_lt_of_le h2 hc.size, fun hm => ?_⟩
      rcases hS _ hm with h | h
      · exact h3 h
      · omega
    · intro k j c hk
      have hx : xs ≠ [] := by intro e; subst e; simp at hk
      obtain ⟨_, _, h3⟩ := had hx
      exact cell_chg hc (fun hm => h3 (hT _ hm)) (hcell k j c hk)
theorem CellsR.chg {Tc S S' : List Nat} {w w' : World} (hc : Chg Tc w w') (hT : ∀ b ∈ Tc, b ∈ S) (hS : ∀ b ∈ S', b ∈ S ∨ w.heap.size ≤ b) {cs : List (Cell T.U)} {vs : List Value} (h : CellsR T w S cs vs) : CellsR T w' S' cs vs :=
  ⟨h.1, fun j c v h1 h2 => (h.2 j c v h1 h2).chg T hc hT hS⟩
mutual
theorem VR.chg {Tc S S' : List Nat} {w w' : World} {φ : Nat → RA} (hc : Chg Tc w w') (hT : ∀ b ∈ Tc, b ∈ S) (hS : ∀ b ∈ S', b ∈ S ∨ w.heap.size ≤ b) : ∀ {a : AV T.U} {v : Value}, VR T w S φ a v → VR T w' S' φ a v
  | .cell c, v, h => CR.chg T hc hT hS h
  | .ptr i o, v, h => h
  | .eptr i sz k c, v, h => h
  | .lptr e xs k o, v, h => by obtain ⟨ad, cap, h1, h2, h3⟩ := h; exact ⟨ad, cap, h1.chg T hc hT hS, h2, h3⟩
  | .own i, v, h => h
  | .sl i sz o n, v, h => h
  | .agg cs, v, h => by obtain ⟨vs, h1, h2⟩ := h; exact ⟨vs, h1, VRL.chg hc hT hS h2⟩
  | .tup cs, v, h => by obtain ⟨vs, h1, h2⟩ := h; exact ⟨vs, h1, VRL.chg hc hT hS h2⟩
  | .fn f a b, v, h => by obtain ⟨va, vb, h1, h2, h3⟩ := h; exact ⟨va, vb, h1, VRL.chg hc hT hS h2, VRL.chg hc hT hS h3⟩
  | .ifc t a, v, h => by obtain ⟨u, h1, h2⟩ := h; exact ⟨u, h1, VR.chg hc hT hS h2⟩
  | .raw u, v, h => h
  | .arr t n xs, v, h => by obtain ⟨vs, h1, h2, h3⟩ := h; exact ⟨vs, h1, h2, h3.chg T hc hT hS⟩
  | .aptr i o sz n k c, v, h => h
  | .asl i o sz n lo m, v, h => h
  | .mp i, v, h => h
theorem VRL.chg {Tc S S' : List Nat} {w w' : World} {φ : Nat → RA} (hc : Chg Tc w w') (hT : ∀ b ∈ Tc, b ∈ S) (hS : ∀ b ∈ S', b ∈ S ∨ w.heap.size ≤ b) : ∀ {as : List (AV T.U)} {vs : List Value}, VRL T w S φ as vs → VRL T w' S' φ as vs
  | [], [], _ => trivial
  | [], _ :: _, h => h.elim
  | _ :: _, [], h => h.elim
  | _ :: _, _ :: _, h => ⟨VR.chg hc hT hS h.1, VRL.chg hc hT hS h.2⟩
end
theorem VRL.len {S : List Nat} {w : World} {φ : Nat → RA} : ∀ {as : List (AV T.U)} {vs : List Value}, VRL T w S φ as vs → as.length = vs.length
  | [], [], _ => rfl
  | [], _ :: _, h => h.elim
  | _ :: _, [], h => h.elim
  | _ :: r, _ :: s, h => by simp [VRL.len h.2]
theorem VRL.get {S : List Nat} {w : World} {φ : Nat → RA} : ∀ {as : List (AV T.U)} {vs : List Value} {j : Nat} {a : AV T.U}, VRL T w S φ as vs → as[j]? = some a → ∃ v, vs[j]? = some v ∧ VR T w S φ a v
  | [], _, _, _, _, h => by simp at h
  | _ :: _, [], _, _, h, _ => h.elim
  | _ :: _, v :: _, 0, b, h, hj => by simp at hj; subst hj; exact ⟨v, rfl, h.1⟩
  | _ :: _, _ :: _, j + 1, b, h, hj => by simp at hj; simpa using VRL.get h.2 hj
theorem VRL.app {S : List Nat} {w : World} {φ : Nat → RA} : ∀ {as bs : List (AV T.U)} {vs us : List Value}, VRL T w S φ as vs → VRL T w S φ bs us → VRL T w S φ (as ++ bs) (vs ++ us)
  | [], _, [], _, _, h => h
  | [], _, _ :: _, _, h, _ => h.elim
  | _ :: _, _, [], _, h, _ => h.elim
  | _ :: _, _, _ :: _, _, h, h' => ⟨h.1, VRL.app h.2 h'⟩
theorem VRL.drop {S : List Nat} {w : World} {φ : Nat → RA} : ∀ {as : List (AV T.U)} {vs : List Value} (n : Nat), VRL T w S φ as vs → VRL T w S φ (as.drop n) (vs.drop n)
  | _, _, 0, h => h
  | [], [], _ + 1, _ => trivial
  | [], _ :: _, _ + 1, h => h.elim
  | _ :: _, [], _ + 1, h => h.elim
  | _ :: r, _ :: s, n + 1, h => VRL.drop (as := r) (vs := s) n h.2
theorem VRL.take {S : List Nat} {w : World} {φ : Nat → RA} : ∀ {as : List (AV T.U)} {vs : List Value} (n : Nat), VRL T w S φ as vs → VRL T w S φ (as.take n) (vs.take n)
  | _, _, 0, _ => by simp [VRL]
  | [], [], _ + 1, _ => by simp [VRL]
  | [], _ :: _, _ + 1, h => h.elim
  | _ :: _, [], _ + 1, h => h.elim
  | _ :: r, _ :: s, n + 1, h => ⟨h.1, VRL.take (as := r) (vs := s) n h.2⟩
theorem VRL.set {S : List Nat} {w : World} {φ : Nat → RA} : ∀ {as : List (AV T.U)} {vs : List Value} (n : Nat) {a : AV T.U} {v : Value}, VRL T w S φ as vs → VR T w S φ a v → VRL T w S φ (as.set n a) (vs.set n v)
  | [], [], _, _, _, _, _ => trivial
  | [], _ :: _, _, _, _, h, _ => h.elim
  | _ :: _, [], _, _, _, h, _ => h.elim
  | _ :: _, _ :: _, 0, _, _, h, h' => ⟨h', h.2⟩
  | _ :: r, _ :: s, n + 1, _, _, h, h' => ⟨h.1, VRL.set (as := r) (vs := s) n h.2 h'⟩

/-! ### Other numbers for the same entries -/
mutual
def AV.ren {U : Nat → Type} (ρ : Nat → Nat) : AV U → AV U
  | .cell c => .cell c
  | .ptr i o => .ptr (ρ i) o
  | .eptr i sz k c => .eptr (ρ i) sz k c
  | .lptr e xs k o => .lptr e xs k o
  | .own i => .own (ρ i)
  | .sl i sz o n => .sl (ρ i) sz o n
  | .agg cs => .agg (renL ρ cs)
  | .tup cs => .tup (renL ρ cs)
  | .fn f a b => .fn f (renL ρ a) (renL ρ b)
  | .ifc t a => .ifc t (a.ren ρ)
  | .raw v => .raw v
  | .arr t n xs => .arr t n xs
  | .aptr i o sz n k c => .aptr (ρ i) o sz n k c
  | .asl i o sz n lo m => .asl (ρ i) o sz n lo m
  | .mp i => .mp (ρ i)
def renL {U : Nat → Type} (ρ : Nat → Nat) : List (AV U) → List (AV U)
  | [] => []
  | a :: r => a.ren ρ :: renL ρ r
end
/-- the same but for the blocks of a family. -/
def RSame (r r' : RA) : Prop := r.ad = r'.ad ∧ r.n = r'.n ∧ r.cap = r'.cap
theorem RSame.trans {r r' r'' : RA} (h : RSame r r') (k : RSame r' r'') : RSame r r'' := ⟨h.1.trans k.1, h.2.1.trans k.2.1, h.2.2.trans k.2.2⟩
theorem RSame.symm {r r' : RA} (h : RSame r r') : RSame r' r := ⟨h.1.symm, h.2.1.symm, h.2.2.symm⟩
theorem RSame.of {r r' : RA} (h : r = r') : RSame r r' := by subst h; exact ⟨rfl, rfl, rfl⟩
mutual
theorem VR.renS {S : List Nat} {w : World} {φ φ' : Nat → RA} {ρ : Nat → Nat} : ∀ {a : AV T.U} {v : Value}, (∀ i ∈ a.ids, RSame (φ' (ρ i)) (φ i)) → VR T w S φ a v → VR T w S φ' (a.ren ρ) v
  | .cell c, v, _, h => by rw [AV.ren]; exact h
  | .ptr i o, v, hi, h => by rw [AV.ren]; obtain ⟨g, h1, h2⟩ := h; exact ⟨g, (hi i (by simp [AV.ids])).1.trans h1, h2⟩
  | .eptr i sz k c, v, hi, h => by rw [AV.ren]; obtain ⟨g, h1, h2⟩ := h; exact ⟨g, (hi i (by simp [AV.ids])).1.trans h1, h2⟩
  | .lptr e xs k o, v, _, h => by rw [AV.ren]; exact h
  | .own i, v, hi, h => by obtain ⟨h1, h2, h3⟩ := hi i (by simp [AV.ids]); rw [AV.ren, VR, h1, h2, h3]; exact h
  | .sl i sz o n, v, hi, h => by
    obtain ⟨r1, r2, r3⟩ := hi i (by simp [AV.ids])
    rw [AV.ren]; obtain ⟨ad, h1, h2, h3, h4, h5⟩ := h
    rw [VR, r1, r3]
    refine ⟨ad, h1, h2, ?_, h4, h5⟩
    rcases h3 with h3 | ⟨g, h3, h5⟩
    · exact .inl h3
    · exact .inr ⟨g, h3, h5⟩
  | .agg cs, v, hi, h => by rw [AV.ren]; obtain ⟨vs, h1, h2⟩ := h; exact ⟨vs, h1, VRL.renS (fun i hm => hi i (by rw [AV.ids]; exact hm)) h2⟩
  | .tup cs, v, hi, h => by rw [AV.ren]; obtain ⟨vs, h1, h2⟩ := h; exact ⟨vs, h1, VRL.renS (fun i hm => hi i (by rw [AV.ids]; exact hm)) h2⟩
  | .fn f a b, v, hi, h => by
    rw [AV.ren]; obtain ⟨va, vb, h1, h2, h3⟩ := h
    exact ⟨va, vb, h1, VRL.renS (fun i hm => hi i (by rw [AV.ids]; exact List.mem_append.2 (.inl hm))) h2, VRL.renS (fun i hm => hi i (by rw [AV.ids]; exact List.mem_append.2 (.inr hm))) h3⟩
  | .ifc t a, v, hi, h => by rw [AV.ren]; obtain ⟨u, h1, h2⟩ := h; exact ⟨u, h1, VR.renS (fun i hm => hi i (by rw [AV.ids]; exact hm)) h2⟩
  | .raw u, v, _, h => by rw [AV.ren]; exact h
  | .arr t n xs, v, _, h => by rw [AV.ren]; exact h
  | .aptr i o sz n k c, v, hi, h => by rw [AV.ren]; obtain ⟨g, h1, h2⟩ := h; exact ⟨g, (hi i (by simp [AV.ids])).1.trans h1, h2⟩
  | .asl i o sz n lo m, v, hi, h => by rw [AV.ren]; obtain ⟨g, ad, h1, h2⟩ := h; exact ⟨g, ad, (hi i (by simp [AV.ids])).1.trans h1, h2⟩
  | .mp i, v, hi, h => by rw [AV.ren]; obtain ⟨g, h1, h2⟩ := h; exact ⟨g, (hi i (by simp [AV.ids])).1.trans h1, h2⟩
theorem VRL.renS {S : List Nat} {w : World} {φ φ' : Nat → RA} {ρ : Nat → Nat} : ∀ {as : List (AV T.U)} {vs : List Value}, (∀ i ∈ idsL as, RSame (φ' (ρ i)) (φ i)) → VRL T w S φ as vs → VRL T w S φ' (renL ρ as) vs
  | [], [], _, _ => trivial
  | [], _ :: _, _, h => h.elim
  | _ :: _, [], _, h => h.elim
  | a :: r, v :: s, hi, h => ⟨VR.renS (fun i hm => hi i (by rw [idsL]; exact List.mem_append.2 (.inl hm))) h.1, VRL.renS (fun i hm => hi i (by rw [idsL]; exact List.mem_append.2 (.inr hm))) h.2⟩
end
theorem VR.ren {S : List Nat} {w : World} {φ φ' : Nat → RA} {ρ : Nat → Nat} {a : AV T.U} {v : Value} (hi : ∀ i ∈ a.ids, φ' (ρ i) = φ i) (h : VR T w S φ a v) : VR T w S φ' (a.ren ρ) v := VR.renS T (fun i m => RSame.of (hi i m)) h
theorem VRL.ren {S : List Nat} {w : World} {φ φ' : Nat → RA} {ρ : Nat → Nat} {as : List (AV T.U)} {vs : List Value} (hi : ∀ i ∈ idsL as, φ' (ρ i) = φ i) (h : VRL T w S φ as vs) : VRL T w S φ' (renL ρ as) vs := VRL.renS T (fun i m => RSame.of (hi i m)) h
/-! ### A block's cells, arrays laid out -/
/-- how many cells it stands for; what they are. -/
def wd : AV T.U → Nat | .arr t n _ => n * szT T t | _ => 1
def exp1 : AV T.U → List (AV T.U) | .arr t _ xs => (xs.flatMap (flat T t)).map .cell | a => [a]
def expL : List (AV T.U) → List (AV T.U)
  | [] => []
  | a :: r => exp1 T a ++ expL r
def lenA1 : AV T.U → Prop | .arr _ n xs => xs.length = n | _ => True
def lensA : List (AV T.U) → Prop
  | [] => True
  | a :: r => lenA1 T a ∧ lensA r
def notArr : AV T.U → Bool | .arr _ _ _ => false | _ => true
theorem exp1_one {a : AV T.U} (h : notArr T a = true) : exp1 T a = [a] := by cases a <;> first | rfl | cases h
theorem lenA1_one {a : AV T.U} (h : notArr T a = true) : lenA1 T a := by cases a <;> first | trivial | cases h
theorem wd_one {a : AV T.U} (h : notArr T a = true) : wd T a = 1 := by cases a <;> first | rfl | cases h
theorem flatMap_lenT {α β : Type} {f : α → List β} {sz : Nat} (hf : ∀ y, (f y).length = sz) (l : List α) : (l.flatMap f).length = l.length * sz := by
  induction l with
  | nil => simp
  | cons a r ih => rw [List.flatMap_cons, List.length_append, hf, ih, List.length_cons, Nat.succ_mul, Nat.add_comm]
theorem exp1_len {a : AV T.U} (h : lenA1 T a) : (exp1 T a).length = wd T a := by
  cases a <;> try rfl
  rename_i t n xs
  rw [exp1, List.length_map, flatMap_lenT (flat_len T t), wd, show xs.length = n from h]
theorem expL_app (as bs : List (AV T.U)) : expL T (as ++ bs) = expL T as ++ expL T bs := by
  induction as with
  | nil => rfl
  | cons a r ih => rw [List.cons_append, expL, expL, ih, List.append_assoc]
theorem expL_one {cs : List (AV T.U)} (h : cs.all (notArr T) = true) : expL T cs = cs := by
  induction cs with
  | nil => rfl
  | cons a r ih => rw [List.all_cons, Bool.and_eq_true] at h; rw [expL, exp1_one T h.1, ih h.2]; rfl
theorem lensA_one {cs : List (AV T.U)} (h : cs.all (notArr T) = true) : lensA T cs := by
  induction cs with
  | nil => trivial
  | cons a r ih => rw [List.all_cons, Bool.and_eq_true] at h; exact ⟨lenA1_one T h.1, ih h.2⟩
theorem lensA_app {as bs : List (AV T.U)} : lensA T (as ++ bs) ↔ lensA T as ∧ lensA T bs := by
  induction as with
  | nil => simp [lensA]
  | cons a r ih => rw [List.cons_append, lensA, lensA, ih, and_assoc]
theorem idsL_app {U : Nat → Type} (as bs : List (AV U)) : idsL (as ++ bs) = idsL as ++ idsL bs := by
  induction as with
  | nil => rfl
  | cons a r ih => rw [List.cons_append, idsL, idsL, ih, List.append_assoc]
theorem idsL_cells {U : Nat → Type} (cs : List (Cell U)) : idsL (cs.map AV.cell) = [] := by
  induction cs with
  | nil => rfl
  | cons a r ih => rw [List.map_cons, idsL, ih]; rfl
theorem exp1_ids (a : AV T.U) : idsL (exp1 T a) = a.ids := by
  cases a <;> first | exact idsL_cells _ | exact List.append_nil _
theorem expL_ids (cs : List (AV T.U)) : idsL (expL T cs) = idsL cs := by
  induction cs with
  | nil => rfl
  | cons a r ih => rw [expL, idsL_app, exp1_ids, ih, idsL]
theorem renL_app {U : Nat → Type} (ρ : Nat → Nat) (as bs : List (AV U)) : renL ρ (as ++ bs) = renL ρ as ++ renL ρ bs := by
  induction as with
  | nil => rfl
  | cons a r ih => rw [List.cons_append, renL, renL, ih]; rfl
theorem renL_cells {U : Nat → Type} (ρ : Nat → Nat) (cs : List (Cell U)) : renL ρ (cs.map AV.cell) = cs.map AV.cell := by
  induction cs with
  | nil => rfl
  | cons a r ih => rw [List.map_cons, renL, ih]; rfl
theorem exp1_ren (ρ : Nat → Nat) (a : AV T.U) : exp1 T (a.ren ρ) = renL ρ (exp1 T a) := by
  cases a <;> first | exact (renL_cells ρ _).symm | rfl
theorem expL_ren (ρ : Nat → Nat) (cs : List (AV T.U)) : expL T (renL ρ cs) = renL ρ (expL T cs) := by
  induction cs with
  | nil => rfl
  | cons a r ih => rw [renL, expL, expL, renL_app, ih, exp1_ren]
theorem lenA1_ren {ρ : Nat → Nat} {a : AV T.U} (h : lenA1 T a) : lenA1 T (a.ren ρ) := by cases a <;> first | trivial | exact h
theorem lensA_ren {ρ : Nat → Nat} {cs : List (AV T.U)} (h : lensA T cs) : lensA T (renL ρ cs) := by
  induction cs with
  | nil => trivial
  | cons a r ih => exact ⟨lenA1_ren T h.1, ih h.2⟩
/-- A block's cells. -/
def BR (w : World) (S : List Nat) (φ : Nat → RA) (cs : List (AV T.U)) (vs : List Value) : Prop := VRL T w S φ (expL T cs) vs ∧ lensA T cs
theorem BR.of {w : World} {S : List Nat} {φ : Nat → RA} {cs : List (AV T.U)} {vs : List Value} (h : VRL T w S φ cs vs) (hn : cs.all (notArr T) = true) : BR T w S φ cs vs := ⟨by rw [expL_one T hn]; exact h, lensA_one T hn⟩
theorem BR.vrl {w : World} {S : List Nat} {φ : Nat → RA} {cs : List (AV T.U)} {vs : List Value} (h : BR T w S φ cs vs) (hn : cs.all (notArr T) = true) : VRL T w S φ cs vs := by have := h.1; rwa [expL_one T hn] at this
theorem BR.chg {Tc S S' : List Nat} {w w' : World} {φ : Nat → RA} (hc : Chg Tc w w') (hT : ∀ b ∈ Tc, b ∈ S) (hS : ∀ b ∈ S', b ∈ S ∨ w.heap.size ≤ b) {cs : List (AV T.U)} {vs : List Value} (h : BR T w S φ cs vs) : BR T w' S' φ cs vs := ⟨h.1.chg T hc hT hS, h.2⟩
theorem BR.ren {S : List Nat} {w : World} {φ φ' : Nat → RA} {ρ : Nat → Nat} {cs : List (AV T.U)} {vs : List Value} (hi : ∀ i ∈ idsL cs, φ' (ρ i) = φ i) (h : BR T w S φ cs vs) : BR T w S φ' (renL ρ cs) vs :=
  ⟨by rw [expL_ren]; exact VRL.ren T (by rw [expL_ids]; exact hi) h.1, lensA_ren T h.2⟩
theorem BR.renS {S : List Nat} {w : World} {φ φ' : Nat → RA} {ρ : Nat → Nat} {cs : List (AV T.U)} {vs : List Value} (hi : ∀ i ∈ idsL cs, RSame (φ' (ρ i)) (φ i)) (h : BR T w S φ cs vs) : BR T w S φ' (renL ρ cs) vs :=
  ⟨by rw [expL_ren]; exact VRL.renS T (by rw [expL_ids]; exact hi) h.1, lensA_ren T h.2⟩
/-- A map's entries. -/
def MR (w : World) (S : List Nat) (φ : Nat → RA) (k : IntKind) : List (Int × AV T.U) → List MapEntry → Prop
  | [], [] => True
  | (x, a) :: r, e :: s => e.key = .int k x ∧ VR T w S φ a e.val ∧ MR w S φ k r s
  | _, _ => False
def idsM {U : Nat → Type} : List (Int × AV U) → List Nat
  | [] => []
  | (_, a) :: r => a.ids ++ idsM r
def renM {U : Nat → Type} (ρ : Nat → Nat) : List (Int × AV U) → List (Int × AV U)
  | [] => []
  | (x, a) :: r => (x, a.ren ρ) :: renM ρ r
theorem MR.chg {Tc S S' : List Nat} {w w' : World} {φ : Nat → RA} (hc : Chg Tc w w') (hT : ∀ b ∈ Tc, b ∈ S) (hS : ∀ b ∈ S', b ∈ S ∨ w.heap.size ≤ b) {k : IntKind} : ∀ {es : List (Int × AV T.U)} {l : List MapEntry}, MR T w S φ k es l → MR T w' S' φ k es l
  | [], [], _ => trivial
  | [], _ :: _, h => h.elim
  | _ :: _, [], h => h.elim
  | (_, _) :: _, _ :: _, h => ⟨h.1, h.2.1.chg T hc hT hS, MR.chg hc hT hS h.2.2⟩
theorem MR.ren {S : List Nat} {w : World} {φ φ' : Nat → RA} {ρ : Nat → Nat} {k : IntKind} : ∀ {es : List (Int × AV T.U)} {l : List MapEntry}, (∀ i ∈ idsM es, φ' (ρ i) = φ i) → MR T w S φ k es l → MR T w S φ' k (renM ρ es) l
  | [], [], _, _ => trivial
  | [], _ :: _, _, h => h.elim
  | _ :: _, [], _, h => h.elim
  | (_, a) :: r, _ :: _, hi, h => ⟨h.1, h.2.1.ren T fun i hm => hi i (by rw [idsM]; exact List.mem_append.2 (.inl hm)), MR.ren (fun i hm => hi i (by rw [idsM]; exact List.mem_append.2 (.inr hm))) h.2.2⟩
theorem MR.renS {S : List Nat} {w : World} {φ φ' : Nat → RA} {ρ : Nat → Nat} {k : IntKind} : ∀ {es : List (Int × AV T.U)} {l : List MapEntry}, (∀ i ∈ idsM es, RSame (φ' (ρ i)) (φ i)) → MR T w S φ k es l → MR T w S φ' k (renM ρ es) l
  | [], [], _, _ => trivial
  | [], _ :: _, _, h => h.elim
  | _ :: _, [], _, h => h.elim
  | (_, a) :: r, _ :: _, hi, h => ⟨h.1, h.2.1.renS T fun i hm => hi i (by rw [idsM]; exact List.mem_append.2 (.inl hm)), MR.renS (fun i hm => hi i (by rw [idsM]; exact List.mem_append.2 (.inr hm))) h.2.2⟩
/-- a typed map's entries. -/
def TR (w : World) (S : List Nat) (k : IntKind) (t : Ty) : List (Int × den T.U t) → List MapEntry → Prop
  | [], [] => True
  | (x, a) :: r, e :: s => e.key = .int k x ∧ CR T w S t a e.val ∧ TR w S k t r s
  | _, _ => False
theorem TR.chg {Tc S S' : List Nat} {w w' : World} (hc : Chg Tc w w') (hT : ∀ b ∈ Tc, b ∈ S) (hS : ∀ b ∈ S', b ∈ S ∨ w.heap.size ≤ b) {k : IntKind} {t : Ty} : ∀ {es : List (Int × den T.U t)} {l : List MapEntry}, TR T w S k t es l → TR T w' S' k t es l
  | [], [], _ => trivial
  | [], _ :: _, h => h.elim
  | _ :: _, [], h => h.elim
  | (_, _) :: _, _ :: _, h => ⟨h.1, h.2.1.chg T hc hT hS, TR.chg hc hT hS h.2.2⟩
/-- a struct's cell whose list lies in a block of its own (e: of what elements; 0: it is a list that does not change); that block. -/
def DC (w : World) (S : List Nat) (e : TypeId) : Cell T.U → Value → Prop
  | ⟨.list t, ys⟩, v => (e = 0 → CellR T w S ⟨.list t, ys⟩ v) ∧ (e ≠ 0 → ∃ B ad cap vals, v = .slice ad (List.length (α := den T.U t) ys) cap ∧ Own w B e (szT T t) ad (List.length (α := den T.U t) ys) cap vals ∧ B ≤ w.heap.size ∧ CellsR T w S (List.flatMap (flat T t) (ys : List (den T.U t))) vals)
  | c, v => CellR T w S c v
def cblk (e : TypeId) (c : Cell T.U) (v : Value) : List Nat := match Nat.beq e 0 with | true => [] | false => match c.t, v with | .list _, .slice ad _ _ => blks ad | _, _ => []
/-- the cells of what is open. -/
def inOp (sz : Nat) (op : Option (Nat × List (AV T.U))) (j : Nat) : Prop := match op with | some (a, _) => a * sz ≤ j ∧ j < a * sz + sz | none => False
structure DRel (w : World) (S : List Nat) (φ : Nat → RA) (r : RA) (d : Nat) (fe : List TypeId) (xs : List (T.U d)) (op : Option (Nat × List (AV T.U))) (vals : List Value) : Prop where
  cl : ∀ j c v, (xs.flatMap (T.cells d))[j]? = some c → vals[j]? = some v → ¬ inOp T (T.size d) op j → DC T w S (fe.getD (j % T.size d) 0) c v ∧ ∀ b ∈ cblk T (fe.getD (j % T.size d) 0) c v, b ∈ r.xs ∧ ∀ a, r.ad = some a → a.block ≠ b
  ap : ∀ j j' c c' v v', j ≠ j' → (xs.flatMap (T.cells d))[j]? = some c → vals[j]? = some v → ¬ inOp T (T.size d) op j → (xs.flatMap (T.cells d))[j']? = some c' → vals[j']? = some v' → ¬ inOp T (T.size d) op j' → ∀ b ∈ cblk T (fe.getD (j % T.size d) 0) c v, b ∉ cblk T (fe.getD (j' % T.size d) 0) c' v'
  opn : ∀ a cs, op = some (a, cs) → a < xs.length ∧ cs.length = T.size d ∧ ∀ f x, cs[f]? = some x → ∃ v, vals[a * T.size d + f]? = some v ∧ VR T w S φ x v
/-- a block that a map's value points to, closed. -/
def PB (w : World) (S : List Nat) (φ : Nat → RA) (be : TypeId) (d : Nat) (u : T.U d) (b : Nat) : Prop := ∃ c, Blk w b c be ∧ BR T w S φ (T.bl d u) c.toList
def opAt (op : Option (Int × Nat)) (x : Int) : Option Nat := match op with | some (y, j) => if y = x then some j else none | none => none
/-- where a map's value points to; what lies there. -/
def PV (w : World) (S : List Nat) (φ : Nat → RA) (r : RA) (be : TypeId) (d : Nat) (op : Option (Int × Nat)) (x : Int) (u : T.U d) (v : Value) (b : Nat) : Prop :=
  v = .pointer (some ⟨b, 0, none⟩) ∧ (∀ j, opAt op x = some j → (φ j).ad = some ⟨b, 0, none⟩) ∧ (opAt op x = none → b ∈ r.xs ∧ (∀ a, r.ad = some a → a.block ≠ b) ∧ PB T w S φ be d u b)
structure PRel (w : World) (S : List Nat) (φ : Nat → RA) (r : RA) (k : IntKind) (be : TypeId) (d : Nat) (m : List (Int × T.U d)) (op : Option (Int × Nat)) (l : List MapEntry) (bs : List Nat) : Prop where
  len : m.length = l.length
  lenb : m.length = bs.length
  nd : (m.map Prod.fst).Nodup
  at_ : ∀ (p : Nat) (x : Int) (u : T.U d) (e : MapEntry) (b : Nat), m[p]? = some (x, u) → l[p]? = some e → bs[p]? = some b → e.key = .int k x ∧ PV T w S φ r be d op x u e.val b
  ap : ∀ (p p' : Nat) (x x' : Int) (u u' : T.U d) (b : Nat), p ≠ p' → m[p]? = some (x, u) → m[p']? = some (x', u') → opAt op x = none → opAt op x' = none → bs[p]? = some b → bs[p']? ≠ some b
  opn : ∀ x j, op = some (x, j) → x ∈ m.map Prod.fst
/-- entries. -/
def EntR (w : World) (S : List Nat) (φ : Nat → RA) (i : Nat) : Ent T.U → Prop
  | .blk e cs => ∃ g c, (φ i).ad = some ⟨g, 0, none⟩ ∧ Blk w g c e ∧ g ∈ S ∧ BR T w S φ cs c.toList
  | .row e t xs => ∃ B vals, Own w B e (szT T t) (φ i).ad (φ i).n (φ i).cap vals ∧ (φ i).n = xs.length ∧ B ≤ w.heap.size ∧ CellsR T w S (xs.flatMap (flat T t)) vals ∧ ∀ a, (φ i).ad = some a → a.block ∈ S
  | .map k es => ∃ g l c, (φ i).ad = some ⟨g, 0, none⟩ ∧ Mp w g l c ∧ g ∈ S ∧ MR T w S φ k es l.toList ∧ MapKept.Stamped l c
  | .tmap k t m => ∃ g l c, (φ i).ad = some ⟨g, 0, none⟩ ∧ Mp w g l c ∧ g ∈ S ∧ TR T w S k t m l.toList ∧ MapKept.Stamped l c
  | .drow e d fe xs op => ∃ B vals, Own w B e (T.size d) (φ i).ad (φ i).n (φ i).cap vals ∧ (φ i).n = xs.length ∧ B ≤ w.heap.size ∧ (∀ a, (φ i).ad = some a → a.block ∈ S) ∧ DRel T w S φ (φ i) d fe xs op vals
  | .pmap k be d m op => ∃ g l c bs, (φ i).ad = some ⟨g, 0, none⟩ ∧ Mp w g l c ∧ g ∈ S ∧ PRel T w S φ (φ i) k be d m op l.toList bs ∧ MapKept.Stamped l c
  | .gone => True
/-- a block of an entry: where it lies, or one more that it has. -/
def At (r : RA) (a : Addr) : Prop := r.ad = some a ∨ a.block ∈ r.xs
theorem DC.chg {Tc S S' : List Nat} {w w' : World} {e : TypeId} {c : Cell T.U} {v : Value} (hc : Chg Tc w w') (hT : ∀ b ∈ Tc, b ∈ S) (hS : ∀ b ∈ S', b ∈ S ∨ w.heap.size ≤ b) (hb : ∀ b ∈ cblk T e c v, b ∉ Tc) (h : DC T w S e c v) : DC T w' S' e c v := by
  obtain ⟨t, x⟩ := c
  cases t with
  | list t =>
    refine ⟨fun he => (h.1 he).chg T hc hT hS, fun he => ?_⟩
    obtain ⟨B, ad, cap, vals, rfl, h1, h2, h3⟩ := h.2 he
    refine ⟨B, ad, cap, vals, rfl, h1.chg hc ?_, Nat.le_trans h2 hc.size, h3.chg T hc hT hS⟩
    have hz : Nat.beq e 0 = false := by cases hb : Nat.beq e 0; rfl; exact absurd (Nat.eq_of_beq_eq_true hb) he
    cases had : ad with
    | none => exact .inr rfl
    | some a => subst had; exact .inl (hb _ (by simp [cblk, hz, blks, bk]))
  | _ => exact CR.chg T hc hT hS h
theorem DRel.chg {Tc S S' : List Nat} {w w' : World} {φ : Nat → RA} {r : RA} {d : Nat} {fe : List TypeId} {xs : List (T.U d)} {op : Option (Nat × List (AV T.U))} {vals : List Value} (hc : Chg Tc w w') (hT : ∀ b ∈ Tc, b ∈ S) (hS : ∀ b ∈ S', b ∈ S ∨ w.heap.size ≤ b) (hb : ∀ b ∈ r.xs, (∀ a, r.ad = some a → a.block ≠ b) → b ∉ Tc) (h : DRel T w S φ r d fe xs op vals) : DRel T w' S' φ r d fe xs op vals :=
  ⟨fun j c v h1 h2 h3 => ⟨((h.cl j c v h1 h2 h3).1).chg T hc hT hS fun b hm => hb b ((h.cl j c v h1 h2 h3).2 b hm).1 ((h.cl j c v h1 h2 h3).2 b hm).2, (h.cl j c v h1 h2 h3).2⟩, h.ap,
   fun a cs h1 => ⟨(h.opn a cs h1).1, (h.opn a cs h1).2.1, fun f x hx => by obtain ⟨v, h2, h3⟩ := (h.opn a cs h1).2.2 f x hx; exact ⟨v, h2, h3.chg T hc hT hS⟩⟩⟩
theorem PB.chg {Tc S S' : List Nat} {w w' : World} {φ : Nat → RA} {be : TypeId} {d : Nat} {u : T.U d} {b : Nat} (hc : Chg Tc w w') (hT : ∀ b ∈ Tc, b ∈ S) (hS : ∀ b ∈ S', b ∈ S ∨ w.heap.size ≤ b) (hb : b ∉ Tc) (h : PB T w S φ be d u b) : PB T w' S' φ be d u b := by
  obtain ⟨c, h1, h2⟩ := h; exact ⟨c, h1.chg hc hb, h2.chg T hc hT hS⟩
theorem PRel.chg {Tc S S' : List Nat} {w w' : World} {φ : Nat → RA} {r : RA} {k : IntKind} {be : TypeId} {d : Nat} {m : List (Int × T.U d)} {op : Option (Int × Nat)} {l : List MapEntry} {bs : List Nat} (hc : Chg Tc w w') (hT : ∀ b ∈ Tc, b ∈ S) (hS : ∀ b ∈ S', b ∈ S ∨ w.heap.size ≤ b) (hb : ∀ b ∈ r.xs, (∀ a, r.ad = some a → a.block ≠ b) → b ∉ Tc) (h : PRel T w S φ r k be d m op l bs) : PRel T w' S' φ r k be d m op l bs :=
  ⟨h.len, h.lenb, h.nd, fun p x u e b h1 h2 h3 => by
    obtain ⟨g1, g2, g3, g4⟩ := h.at_ p x u e b h1 h2 h3
    exact ⟨g1, g2, g3, fun hn => ⟨(g4 hn).1, (g4 hn).2.1, (g4 hn).2.2.chg T hc hT hS (hb b (g4 hn).1 (g4 hn).2.1)⟩⟩, h.ap, h.opn⟩
def Ent.live {U : Nat → Type} : Ent U → Bool | .gone => false | _ => true
theorem EntR.chg {Tc S S' : List Nat} {w w' : World} {φ : Nat → RA} (hc : Chg Tc w w') (hT : ∀ b ∈ Tc, b ∈ S) (hS : ∀ b ∈ S', b ∈ S ∨ w.heap.size ≤ b) {i : Nat} {e : Ent T.U} (h : EntR T w S φ i e)
    (hl : e.live = true → ∀ a, At (φ i) a → a.block ∉ Tc ∧ a.block ∈ S') : EntR T w' S' φ i e := by
  cases e with
  | blk e cs =>
    obtain ⟨g, c, h1, h2, h3, h4⟩ := h
    obtain ⟨h5, h6⟩ := hl rfl _ (.inl h1)
    exact ⟨g, c, h1, h2.chg hc h5, h6, h4.chg T hc hT hS⟩
  | row e t xs =>
    obtain ⟨B, vals, h1, hn, h2, h3, h4⟩ := h
    refine ⟨B, vals, ?_, hn, Nat.le_trans h2 hc.size, h3.chg T hc hT hS, fun a ha => (hl rfl a (.inl ha)).2⟩
    cases hφ : (φ i).ad with
    | none => rw [hφ] at h1; exact h1.chg hc (.inr rfl)
    | some a => rw [hφ] at h1; exact h1.chg hc (.inl (hl rfl a (.inl hφ)).1)
  | map k es =>
    obtain ⟨g, l, c, h1, h2, h3, h4, h7⟩ := h
    obtain ⟨h5, h6⟩ := hl rfl _ (.inl h1)
    exact ⟨g, l, c, h1, h2.chg hc h5, h6, h4.chg T hc hT hS, h7⟩
  | tmap k t m =>
    obtain ⟨g, l, c, h1, h2, h3, h4, h7⟩ := h
    obtain ⟨h5, h6⟩ := hl rfl _ (.inl h1)
    exact ⟨g, l, c, h1, h2.chg hc h5, h6, h4.chg T hc hT hS, h7⟩
  | drow e d fe xs op =>
    obtain ⟨B, vals, h1, hn, h2, h4, h5⟩ := h
    refine ⟨B, vals, ?_, hn, Nat.le_trans h2 hc.size, fun a ha => (hl rfl a (.inl ha)).2, h5.chg T hc hT hS fun b hb _ => (hl rfl ⟨b, 0, none⟩ (.inr hb)).1⟩
    cases hφ : (φ i).ad with
    | none => rw [hφ] at h1; exact h1.chg hc (.inr rfl)
    | some a => rw [hφ] at h1; exact h1.chg hc (.inl (hl rfl a (.inl hφ)).1)
  | pmap k be d m op =>
    obtain ⟨g, l, c, bs, h1, h2, h3, h4, h7⟩ := h
    obtain ⟨h5, h6⟩ := hl rfl _ (.inl h1)
    exact ⟨g, l, c, bs, h1, h2.chg hc h5, h6, h4.chg T hc hT hS fun b hb _ => (hl rfl ⟨b, 0, none⟩ (.inr hb)).1, h7⟩
  | gone => trivial
def idsP : Option (Int × Nat) → List Nat | some (_, j) => [j] | none => []
def renP (ρ : Nat → Nat) : Option (Int × Nat) → Option (Int × Nat) | some (x, j) => some (x, ρ j) | none => none
mutual
theorem ren_nil {U : Nat → Type} {ρ : Nat → Nat} : ∀ {a : AV U}, a.ids = [] → a.ren ρ = a
  | .cell _, _ => by rw [AV.ren]
  | .ptr _ _, h => by simp [AV.ids] at h
  | .eptr _ _ _ _, h => by simp [AV.ids] at h
  | .lptr _ _ _ _, _ => by rw [AV.ren]
  | .own _, h => by simp [AV.ids] at h
  | .sl _ _ _ _, h => by simp [AV.ids] at h
  | .agg cs, h => by rw [AV.ren, renL_nil (by rwa [AV.ids] at h)]
  | .tup cs, h => by rw [AV.ren, renL_nil (by rwa [AV.ids] at h)]
  | .fn _ a b, h => by rw [AV.ids, List.append_eq_nil_iff] at h; rw [AV.ren, renL_nil h.1, renL_nil h.2]
  | .ifc _ a, h => by rw [AV.ren, ren_nil (by rwa [AV.ids] at h)]
  | .raw _, _ => by rw [AV.ren]
  | .arr _ _ _, _ => by rw [AV.ren]
  | .aptr _ _ _ _ _ _, h => by simp [AV.ids] at h
  | .asl _ _ _ _ _ _, h => by simp [AV.ids] at h
  | .mp _, h => by simp [AV.ids] at h
theorem renL_nil {U : Nat → Type} {ρ : Nat → Nat} : ∀ {as : List (AV U)}, idsL as = [] → renL ρ as = as
  | [], _ => by rw [renL]
  | a :: r, h => by rw [idsL, List.append_eq_nil_iff] at h; rw [renL, ren_nil h.1, renL_nil h.2]
end
theorem PB.renS {w : World} {S : List Nat} {φ φ' : Nat → RA} {be : TypeId} {d : Nat} {u : T.U d} {b : Nat} (h : PB T w S φ be d u b) : PB T w S φ' be d u b := by
  obtain ⟨c, h1, h2⟩ := h
  have := h2.renS T (ρ := id) (φ' := φ') fun i hi => by rw [T.bl0] at hi; cases hi
  rw [renL_nil (T.bl0 d u)] at this
  exact ⟨c, h1, this⟩
theorem opAt_ren {ρ : Nat → Nat} {op : Option (Int × Nat)} {x : Int} : opAt (renP ρ op) x = (opAt op x).map ρ := by
  cases op with
  | none => rfl
  | some p => obtain ⟨y, j⟩ := p; simp only [renP, opAt]; split <;> rfl
theorem opAt_ids {op : Option (Int × Nat)} {x : Int} {j : Nat} (h : opAt op x = some j) : j ∈ idsP op := by
  cases op with
  | none => cases h
  | some p => obtain ⟨y, i⟩ := p; simp only [opAt] at h; split at h <;> simp_all [idsP]
theorem PRel.renS {w : World} {S : List Nat} {φ φ' : Nat → RA} {ρ : Nat → Nat} {r : RA} {k : IntKind} {be : TypeId} {d : Nat} {m : List (Int × T.U d)} {op : Option (Int × Nat)} {l : List MapEntry} {bs : List Nat} (hc : ∀ k ∈ idsP op, RSame (φ' (ρ k)) (φ k)) (h : PRel T w S φ r k be d m op l bs) : PRel T w S φ' r k be d m (renP ρ op) l bs := by
  refine ⟨h.len, h.lenb, h.nd, fun p x u e b h1 h2 h3 => ?_, fun p p' x x' u u' b hp h1 h2 h3 h4 => h.ap p p' x x' u u' b hp h1 h2 ?_ ?_, fun x j hj => ?_⟩
  · obtain ⟨g1, g2, g3, g4⟩ := h.at_ p x u e b h1 h2 h3
    refine ⟨g1, g2, fun j hj => ?_, fun hn => ?_⟩
    · rw [opAt_ren] at hj
      obtain ⟨j0, hj0, rfl⟩ := Option.map_eq_some_iff.1 hj
      exact (hc j0 (opAt_ids hj0)).1.trans (g3 j0 hj0)
    · rw [opAt_ren, Option.map_eq_none_iff] at hn
      exact ⟨(g4 hn).1, (g4 hn).2.1, (g4 hn).2.2.renS T⟩
  · rwa [opAt_ren, Option.map_eq_none_iff] at h3
  · rwa [opAt_ren, Option.map_eq_none_iff] at h4
  · cases op with
    | none => cases hj
    | some p =>
      obtain ⟨y, i⟩ := p
      simp only [renP, Option.some.injEq, Prod.mk.injEq] at hj
      exact hj.1 ▸ h.opn y i rfl
def idsQ {U : Nat → Type} : Option (Nat × List (AV U)) → List Nat | some (_, cs) => idsL cs | none => []
def renQ {U : Nat → Type} (ρ : Nat → Nat) : Option (Nat × List (AV U)) → Option (Nat × List (AV U)) | some (a, cs) => some (a, renL ρ cs) | none => none
theorem renL_get {U : Nat → Type} {ρ : Nat → Nat} {x : AV U} : ∀ {cs : List (AV U)} {f : Nat}, (renL ρ cs)[f]? = some x → ∃ y, cs[f]? = some y ∧ x = y.ren ρ
  | [], f, h => by simp [renL] at h
  | a :: r, 0, h => by simp [renL] at h; exact ⟨a, rfl, h.symm⟩
  | a :: r, f + 1, h => by simp [renL] at h; simpa using renL_get h
theorem renL_len {U : Nat → Type} {ρ : Nat → Nat} : ∀ (cs : List (AV U)), (renL ρ cs).length = cs.length
  | [] => rfl
  | a :: r => by simp [renL, renL_len r]
theorem idsL_in {U : Nat → Type} {i : Nat} {x : AV U} : ∀ {cs : List (AV U)} {f : Nat}, cs[f]? = some x → i ∈ x.ids → i ∈ idsL cs
  | [], f, h, _ => by simp at h
  | a :: r, 0, h, hi => by simp at h; subst h; rw [idsL]; exact List.mem_append.2 (.inl hi)
  | a :: r, f + 1, h, hi => by simp at h; rw [idsL]; exact List.mem_append.2 (.inr (idsL_in h hi))
theorem inOp_ren {sz j : Nat} {ρ : Nat → Nat} (op : Option (Nat × List (AV T.U))) : inOp T sz (renQ ρ op) j ↔ inOp T sz op j := by cases op <;> exact Iff.rfl
theorem DRel.renS {w : World} {S : List Nat} {φ φ' : Nat → RA} {ρ : Nat → Nat} {r : RA} {d : Nat} {fe : List TypeId} {xs : List (T.U d)} {op : Option (Nat × List (AV T.U))} {vals : List Value} (hc : ∀ k ∈ idsQ op, RSame (φ' (ρ k)) (φ k)) (h : DRel T w S φ r d fe xs op vals) : DRel T w S φ' r d fe xs (renQ ρ op) vals := by
  refine ⟨fun j c v h1 h2 h3 => h.cl j c v h1 h2 fun q => h3 ((inOp_ren T op).2 q), fun j j' c c' v v' hj h1 h2 h3 h4 h5 h6 => h.ap j j' c c' v v' hj h1 h2 (fun q => h3 ((inOp_ren T op).2 q)) h4 h5 fun q => h6 ((inOp_ren T op).2 q), fun a cs hop => ?_⟩
  cases op with
  | none => cases hop
  | some p =>
    obtain ⟨a0, cs0⟩ := p
    simp only [renQ, Option.some.injEq, Prod.mk.injEq] at hop
    obtain ⟨rfl, rfl⟩ := hop
    obtain ⟨h1, h2, h3⟩ := h.opn _ _ rfl
    refine ⟨h1, by rw [renL_len]; exact h2, fun f x hx => ?_⟩
    obtain ⟨y, hy, rfl⟩ := renL_get hx
    obtain ⟨v, h4, h5⟩ := h3 f y hy
    exact ⟨v, h4, h5.renS T fun i hi => hc i (idsL_in hy hi)⟩
end
end Go.X
