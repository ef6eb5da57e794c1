/- Shapes: what is handed and answered as a part of a state; entries are seen anew by their places. Nothing here is about one program. -/
import Derived.Test.YthlhbjahlanneaaGreatX15
namespace Go.X
open Go.RowKit Go.V

/-- What lies where: a value; a row; a slice of a row; a pointer into a block; a slice of a block; what was seen before, as a pointer, a row, a slice; a function with what it holds; an aggregate; what lies in an interface; nothing; an array; a pointer to an element of a list; a slice of an array within a block that was seen, within a new one; a pointer to an element of such an array; a map, one that was seen; nothing of another sort. -/
inductive Sh where
  | val (t : Ty)
  | row (e : TypeId) (t : Ty)
  | slr (e : TypeId) (t : Ty)
  | ptr (o : Nat) (e : TypeId) (cs : List Sh)
  | slb (sz n : Nat) (e : TypeId) (cs : List Sh)
  | at_ (i o : Nat)
  | own (i : Nat)
  | part (i sz : Nat)
  | fn (f : FuncId) (a b : List Sh)
  | agg (cs : List Sh)
  | ifc (t : TypeId) (s : Sh)
  | nils
  | nilp
  | arr (t : Ty) (n : Nat)
  | lp (e : Ty) (o : Nat)
  | asp (i o sz n : Nat)
  | asn (e : TypeId) (cs : List Sh) (o sz n : Nat)
  | ap (i o sz n c : Nat)
  | mp (k : IntKind) (keys : List Int) (cs : List Sh)
  | mpo (i : Nat)
  | rw (n : Nat)
  | lpk (e : Ty) (k o : Nat)
  | tm (k : IntKind) (t : Ty)
section
variable (T : Tab)
mutual
def Sh.den : Sh → Type
  | .val t => den T.U t
  | .row _ t => List (den T.U t)
  | .slr _ t => List (den T.U t) × Nat × Nat
  | .ptr _ _ cs => denL cs
  | .slb _ _ _ cs => denL cs
  | .at_ _ _ => Unit
  | .own _ => Unit
  | .part _ _ => Nat × Nat
  | .fn _ a b => denL a × denL b
  | .agg cs => denL cs
  | .ifc _ s => s.den
  | .nils => Unit
  | .nilp => Unit
  | .arr t _ => List (den T.U t)
  | .lp e _ => List (den T.U e) × Nat
  | .asp _ _ _ _ => Nat × Nat
  | .asn _ cs _ _ _ => denL cs × Nat × Nat
  | .ap _ _ _ _ _ => Nat
  | .mp _ _ cs => denL cs
  | .mpo _ => Unit
  | .rw _ => Unit
  | .lpk e _ _ => List (den T.U e)
  | .tm _ t => List (Int × den T.U t)
def denL : List Sh → Type
  | [] => Unit
  | s :: r => s.den × denL r
end
mutual
/-- how many entries it brings. -/
def Sh.cnt : Sh → Nat
  | .row _ _ => 1
  | .slr _ _ => 1
  | .ptr _ _ cs => 1 + cntL cs
  | .slb _ _ _ cs => 1 + cntL cs
  | .fn _ a b => cntL a + cntL b
  | .agg cs => cntL cs
  | .ifc _ s => s.cnt
  | .asn _ cs _ _ _ => 1 + cntL cs
  | .mp _ _ cs => 1 + cntL cs
  | .tm _ _ => 1
  | _ => 0
def cntL : List Sh → Nat
  | [] => 0
  | s :: r => s.cnt + cntL r
end
/-- nothing of a sort. -/
def rawV : Nat → Value
  | 0 => .nilFunc
  | 1 => .nilIface
  | 2 => .map none
  | _ => .pointer none
/-- a map's entries. -/
def zipK {U : Nat → Type} : List Int → List (AV U) → List (Int × AV U)
  | x :: r, a :: s => (x, a) :: zipK r s
  | _, _ => []
mutual
/-- its abstract value: its entries are numbered from k on; σ says what the numbers are. -/
def mkA (σ : Nat → Nat) : (s : Sh) → s.den T → Nat → AV T.U
  | .val t, x, _ => toAV T t x
  | .row _ _, _, k => .own (σ k)
  | .slr _ t, x, k => .sl (σ k) (szT T t) x.2.1 x.2.2
  | .ptr o _ _, _, k => .ptr (σ k) o
  | .slb sz n _ _, _, k => .sl (σ k) sz 0 n
  | .at_ i o, _, _ => .ptr (σ i) o
  | .own i, _, _ => .own (σ i)
  | .part i sz, x, _ => .sl (σ i) sz x.1 x.2
  | .fn f a b, x, k => .fn (.func f) (mkAL σ a x.1 k) (mkAL σ b x.2 (k + cntL a))
  | .agg cs, x, k => .agg (mkAL σ cs x k)
  | .ifc t s, x, k => .ifc t (mkA σ s x k)
  | .nils, _, _ => .raw (.slice none 0 0)
  | .nilp, _, _ => .raw (.pointer none)
  | .arr t n, x, _ => .arr t n x
  | .lp e o, x, _ => .lptr e x.1 x.2 o
  | .asp i o sz n, x, _ => .asl (σ i) o sz n x.1 x.2
  | .asn _ _ o sz n, x, k => .asl (σ k) o sz n x.2.1 x.2.2
  | .ap i o sz n c, x, _ => .aptr (σ i) o sz n x c
  | .mp _ _ _, _, k => .mp (σ k)
  | .mpo i, _, _ => .mp (σ i)
  | .rw n, _, _ => .raw (rawV n)
  | .lpk e k o, x, _ => .lptr e x k o
  | .tm _ _, _, k => .mp (σ k)
def mkAL (σ : Nat → Nat) : (l : List Sh) → denL T l → Nat → List (AV T.U)
  | [], _, _ => []
  | s :: r, x, k => mkA σ s x.1 k :: mkAL σ r x.2 (k + s.cnt)
end
mutual
/-- its entries. -/
def mkE (σ : Nat → Nat) : (s : Sh) → s.den T → Nat → List (Ent T.U)
  | .row e t, x, _ => [.row e t x]
  | .slr e t, x, _ => [.row e t x.1]
  | .ptr _ e cs, x, k => .blk e (mkAL T σ cs x (k + 1)) :: mkEL σ cs x (k + 1)
  | .slb _ _ e cs, x, k => .blk e (mkAL T σ cs x (k + 1)) :: mkEL σ cs x (k + 1)
  | .fn _ a b, x, k => mkEL σ a x.1 k ++ mkEL σ b x.2 (k + cntL a)
  | .agg cs, x, k => mkEL σ cs x k
  | .ifc _ s, x, k => mkE σ s x k
  | .val _, _, _ => []
  | .at_ _ _, _, _ => []
  | .own _, _, _ => []
  | .part _ _, _, _ => []
  | .nils, _, _ => []
  | .nilp, _, _ => []
  | .arr _ _, _, _ => []
  | .lp _ _, _, _ => []
  | .asp _ _ _ _, _, _ => []
  | .asn e cs _ _ _, x, k => .blk e (mkAL T σ cs x.1 (k + 1)) :: mkEL σ cs x.1 (k + 1)
  | .ap _ _ _ _ _, _, _ => []
  | .mp kd keys cs, x, k => .map kd (zipK keys (mkAL T σ cs x (k + 1))) :: mkEL σ cs x (k + 1)
  | .mpo _, _, _ => []
  | .rw _, _, _ => []
  | .lpk _ _ _, _, _ => []
  | .tm kd t, x, _ => [.tmap kd t x]
def mkEL (σ : Nat → Nat) : (l : List Sh) → denL T l → Nat → List (Ent T.U)
  | [], _, _ => []
  | s :: r, x, k => mkE σ s x.1 k ++ mkEL σ r x.2 (k + s.cnt)
end
abbrev Src := List (Option Nat)
def rowAt (H : List (Ent T.U)) (e : TypeId) (t : Ty) (i : Nat) : Option (List (den T.U t)) :=
  match H[i]? with
  | some (.row e' t' xs) => match Nat.beq e' e with | true => (if h : t' = t then some (h ▸ xs) else none) | false => none
  | _ => none
def blkAt (H : List (Ent T.U)) (e : TypeId) (i : Nat) : Option (List (AV T.U)) :=
  match H[i]? with
  | some (.blk e' cs) => match Nat.beq e' e with | true => some cs | false => none
  | _ => none
def seenAt (l : Src) (p i : Nat) : Bool := match l[p]? with | some (some j) => Nat.beq j i | _ => false
def pairO {α β γ : Type} (f : α → β) : Option (α × γ) → Option (β × γ)
  | some (x, l) => some (f x, l)
  | none => none
def ownI {U : Nat → Type} : AV U → Option Nat | .own i => some i | _ => none
def slI {U : Nat → Type} : AV U → Option (Nat × Nat × Nat × Nat) | .sl i sz o n => some (i, sz, o, n) | _ => none
def ptrI {U : Nat → Type} : AV U → Option (Nat × Nat) | .ptr i o => some (i, o) | _ => none
def fnI {U : Nat → Type} : AV U → Option (FuncId × List (AV U) × List (AV U)) | .fn (.func f) a b => some (f, a, b) | _ => none
def aggI {U : Nat → Type} : AV U → Option (List (AV U)) | .agg cs => some cs | _ => none
def ifcI {U : Nat → Type} : AV U → Option (TypeId × AV U) | .ifc t a => some (t, a) | _ => none
def nilsI {U : Nat → Type} : AV U → Bool | .raw (.slice none 0 0) => true | _ => false
def arrSh {U : Nat → Type} (t : Ty) (n : Nat) : AV U → Option (List (den U t))
  | .arr t' n' xs => match Nat.beq n' n with | true => (if h : t' = t then some (h ▸ xs) else none) | false => none
  | _ => none
def lpI {U : Nat → Type} (e : Ty) (o : Nat) : AV U → Option (List (den U e) × Nat)
  | .lptr e' xs k o' => match Nat.beq o' o with | true => (if h : e' = e then some (h ▸ xs, k) else none) | false => none
  | _ => none
def aslI {U : Nat → Type} : AV U → Option (Nat × Nat × Nat × Nat × Nat × Nat) | .asl i o sz n lo m => some (i, o, sz, n, lo, m) | _ => none
def aptrI {U : Nat → Type} : AV U → Option (Nat × Nat × Nat × Nat × Nat × Nat) | .aptr i o sz n k c => some (i, o, sz, n, k, c) | _ => none
def mpI {U : Nat → Type} : AV U → Option Nat | .mp i => some i | _ => none
def rawI {U : Nat → Type} (n : Nat) : AV U → Bool
  | .raw .nilFunc => Nat.beq n 0
  | .raw .nilIface => Nat.beq n 1
  | .raw (.map none) => Nat.beq n 2
  | _ => false
def keysEq {U : Nat → Type} : List Int → List (Int × AV U) → Bool
  | [], [] => true
  | x :: r, (y, _) :: s => match eqII x y with | true => keysEq r s | false => false
  | _, _ => false
def mapAt (H : List (Ent T.U)) (k : IntKind) (keys : List Int) (i : Nat) : Option (List (AV T.U)) :=
  match H[i]? with
  | some (.map k' es) => match kindEq k' k && keysEq keys es with | true => some (es.map Prod.snd) | false => none
  | _ => none
def tmAt (H : List (Ent T.U)) (k : IntKind) (t : Ty) (i : Nat) : Option (List (Int × den T.U t)) :=
  match H[i]? with
  | some (.tmap k' t' xs) => match kindEq k' k with | true => (if h : t' = t then some (h ▸ xs) else none) | false => none
  | _ => none
def nilpI {U : Nat → Type} : AV U → Bool | .raw (.pointer none) => true | _ => false
mutual
/-- what lies in a state, as a shape says; the entries that are seen are noted. -/
def rdS (H : List (Ent T.U)) : (s : Sh) → AV T.U → Src → Option (s.den T × Src)
  | .val t, a, l => match ofAV T t a with | some x => some (x, l) | none => none
  | .row e t, a, l => match ownI a with
    | some i => (match rowAt T H e t i with | some xs => some (xs, l ++ [some i]) | none => none)
    | none => none
  | .slr e t, a, l => match slI a with
    | some (i, sz, o, n) => (match rowAt T H e t i with | some xs => (match Nat.beq sz (szT T t) with | true => some ((xs, o, n), l ++ [some i]) | false => none) | none => none)
    | none => none
  | .ptr o e cs, a, l => match ptrI a with
    | some (i, o') => (match blkAt T H e i with | some as => (match Nat.beq o' o with | true => rdSL H cs as (l ++ [some i]) | false => none) | none => none)
    | none => none
  | .slb sz n e cs, a, l => match slI a with
    | some (i, sz', o, n') => (match blkAt T H e i with | some as => (match Nat.beq sz' sz && (Nat.beq n' n && Nat.beq o 0) with | true => rdSL H cs as (l ++ [some i]) | false => none) | none => none)
    | none => none
  | .at_ p o, a, l => match ptrI a with
    | some (i, o') => (match Nat.beq o' o && seenAt l p i with | true => some ((), l) | false => none)
    | none => none
  | .own p, a, l => match ownI a with
    | some i => (match seenAt l p i with | true => some ((), l) | false => none)
    | none => none
  | .part p sz, a, l => match slI a with
    | some (i, sz', o, n) => (match Nat.beq sz' sz && seenAt l p i with | true => some ((o, n), l) | false => none)
    | none => none
  | .fn f a b, c, l => match fnI c with
    | some (f', as, bs) => (match rdSL H a as l with
      | some (x, l1) => (match Nat.beq f' f with | true => pairO (fun y => (x, y)) (rdSL H b bs l1) | false => none)
      | none => none)
    | none => none
  | .agg cs, a, l => match aggI a with | some as => rdSL H cs as l | none => none
  | .ifc t s, a, l => match ifcI a with
    | some (t', b) => (match Nat.beq t' t with | true => rdS H s b l | false => none)
    | none => none
  | .nils, a, l => match nilsI a with | true => some ((), l) | false => none
  | .nilp, a, l => match nilpI a with | true => some ((), l) | false => none
  | .arr t n, a, l => match arrSh t n a with | some xs => some (xs, l) | none => none
  | .lp e o, a, l => match lpI e o a with | some x => some (x, l) | none => none
  | .asp p o sz n, a, l => match aslI a with
    | some (i, o', sz', n', lo, m) => (match seenAt l p i && (Nat.beq o' o && (Nat.beq sz' sz && Nat.beq n' n)) with | true => some ((lo, m), l) | false => none)
    | none => none
  | .asn e cs o sz n, a, l => match aslI a with
    | some (i, o', sz', n', lo, m) => (match blkAt T H e i with | some as => (match Nat.beq o' o && (Nat.beq sz' sz && Nat.beq n' n) with | true => pairO (fun x => (x, lo, m)) (rdSL H cs as (l ++ [some i])) | false => none) | none => none)
    | none => none
  | .ap p o sz n c, a, l => match aptrI a with
    | some (i, o', sz', n', k, c') => (match seenAt l p i && (Nat.beq o' o && (Nat.beq sz' sz && (Nat.beq n' n && Nat.beq c' c))) with | true => some (k, l) | false => none)
    | none => none
  | .mp kd keys cs, a, l => match mpI a with
    | some i => (match mapAt T H kd keys i with | some as => rdSL H cs as (l ++ [some i]) | none => none)
    | none => none
  | .mpo p, a, l => match mpI a with
    | some i => (match seenAt l p i with | true => some ((), l) | false => none)
    | none => none
  | .rw n, a, l => match rawI n a with | true => some ((), l) | false => none
  | .lpk e k o, a, l => match lpI e o a with | some x => (match Nat.beq x.2 k with | true => some (x.1, l) | false => none) | none => none
  | .tm kd t, a, l => match mpI a with
    | some i => (match tmAt T H kd t i with | some xs => some (xs, l ++ [some i]) | none => none)
    | none => none
def rdSL (H : List (Ent T.U)) : (ss : List Sh) → List (AV T.U) → Src → Option (denL T ss × Src)
  | [], as, l => match as with | [] => some ((), l) | _ :: _ => none
  | s :: r, as, l => match as with
    | a :: as => (match rdS H s a l with | some (x, l1) => pairO (fun y => (x, y)) (rdSL H r as l1) | none => none)
    | [] => none
end
/-- What becomes of an entry that was handed. -/
inductive PE where
  | gone
  | row (e : TypeId) (t : Ty)
  | blk (e : TypeId) (cs : List Sh)
  | map (k : IntKind) (keys : List Int) (cs : List Sh)
  | tmap (k : IntKind) (t : Ty)
def PE.den : PE → Type
  | .gone => Unit
  | .row _ t => List (Go.X.den T.U t)
  | .blk _ cs => denL T cs
  | .map _ _ cs => denL T cs
  | .tmap _ t => List (Int × Go.X.den T.U t)
def denP : List PE → Type
  | [] => Unit
  | p :: r => p.den T × denP r
def PE.cnt : PE → Nat | .blk _ cs => cntL cs | .map _ _ cs => cntL cs | _ => 0
def cntP : List PE → Nat
  | [] => 0
  | p :: r => p.cnt + cntP r
def srcP : List PE → Nat → Src
  | [], _ => []
  | .gone :: r, j => none :: srcP r (j + 1)
  | _ :: r, j => some j :: srcP r (j + 1)
def mkP1 (σ : Nat → Nat) : (p : PE) → p.den T → Nat → Ent T.U
  | .gone, _, _ => .gone
  | .row e t, x, _ => .row e t x
  | .blk e cs, x, k => .blk e (mkAL T σ cs x k)
  | .map kd keys cs, x, k => .map kd (zipK keys (mkAL T σ cs x k))
  | .tmap kd t, x, _ => .tmap kd t x
def mkP1N (σ : Nat → Nat) : (p : PE) → p.den T → Nat → List (Ent T.U)
  | .blk _ cs, x, k => mkEL T σ cs x k
  | .map _ _ cs, x, k => mkEL T σ cs x k
  | .gone, _, _ => []
  | .row _ _, _, _ => []
  | .tmap _ _, _, _ => []
def mkP (σ : Nat → Nat) : (ps : List PE) → denP T ps → Nat → List (Ent T.U)
  | [], _, _ => []
  | p :: r, x, k => mkP1 T σ p x.1 k :: mkP σ r x.2 (k + p.cnt)
def mkPN (σ : Nat → Nat) : (ps : List PE) → denP T ps → Nat → List (Ent T.U)
  | [], _, _ => []
  | p :: r, x, k => mkP1N T σ p x.1 k ++ mkPN σ r x.2 (k + p.cnt)
def rdP1 (H : List (Ent T.U)) (j : Nat) : (p : PE) → Src → Option (p.den T × Src)
  | .gone, l => some ((), l)
  | .row e t, l => match rowAt T H e t j with | some xs => some (xs, l) | none => none
  | .blk e cs, l => match blkAt T H e j with | some as => rdSL T H cs as l | none => none
  | .map kd keys cs, l => match mapAt T H kd keys j with | some as => rdSL T H cs as l | none => none
  | .tmap kd t, l => match tmAt T H kd t j with | some xs => some (xs, l) | none => none
def rdP (H : List (Ent T.U)) : (ps : List PE) → Nat → Src → Option (denP T ps × Src)
  | [], _, l => some ((), l)
  | p :: r, j, l => match rdP1 T H j p l with | some (x, l1) => pairO (fun y => (x, y)) (rdP H r (j + 1) l1) | none => none
/-- the entries of a source. -/
def entsO (H : List (Ent T.U)) (ρ : Nat → Nat) : Src → List (Ent T.U)
  | [] => []
  | some i :: r => (match H[i]? with | some e => e.ren ρ | none => .gone) :: entsO H ρ r
  | none :: r => .gone :: entsO H ρ r
def idxO (i : Nat) : Src → Nat
  | [] => 0
  | some j :: r => match Nat.beq j i with | true => 0 | false => idxO i r + 1
  | none :: r => idxO i r + 1
def memO (i : Nat) : Src → Bool | [] => false | some j :: r => (match Nat.beq j i with | true => true | false => memO i r) | none :: r => memO i r
def nodupO : Src → Bool | [] => true | some i :: r => !memO i r && nodupO r | none :: r => nodupO r
end
section
variable {T : Tab}
theorem memO_iff {i : Nat} : ∀ {l : Src}, memO i l = true ↔ some i ∈ l
  | [] => by simp [memO]
  | none :: r => by simp [memO, memO_iff (l := r)]
  | some j :: r => by
    unfold memO
    split
    · rename_i h; have := Nat.eq_of_beq_eq_true h; subst this; simp
    · rename_i h
      rw [memO_iff (l := r)]
      have : j ≠ i := fun e => by subst e; simp at h
      simp [Ne.symm this]
theorem nodupO_inj : ∀ {l : Src}, nodupO l = true → ∀ {a b x : Nat}, l[a]? = some (some x) → l[b]? = some (some x) → a = b
  | [], _, _, _, _, h, _ => by simp at h
  | none :: r, hn, a, b, x, ha, hb => by
    unfold nodupO at hn
    cases a with
    | zero => simp at ha
    | succ a =>
      cases b with
      | zero => simp at hb
      | succ b => have := nodupO_inj hn (a := a) (b := b) (by simpa using ha) (by simpa using hb); omega
  | some j :: r, hn, a, b, x, ha, hb => by
    unfold nodupO at hn
    simp only [Bool.and_eq_true, Bool.not_eq_true'] at hn
    have no : ∀ {c : Nat}, r[c]? = some (some j) → False := fun hc => by
      have := memO_iff.2 (List.mem_of_getElem? hc)
      rw [hn.1] at this; cases this
    cases a with
    | zero =>
      simp at ha; subst ha
      cases b with
      | zero => rfl
      | succ b => exact (no (by simpa using hb)).elim
    | succ a =>
      cases b with
      | zero => simp at hb; subst hb; exact (no (by simpa using ha)).elim
      | succ b => have := nodupO_inj hn.2 (a := a) (b := b) (by simpa using ha) (by simpa using hb); omega
theorem idxO_spec {i : Nat} : ∀ {l : Src}, some i ∈ l → l[idxO i l]? = some (some i)
  | [], h => by cases h
  | none :: r, h => by
    have h : some i ∈ r := by simpa using h
    show (none :: r)[idxO i r + 1]? = _
    simpa using idxO_spec h
  | some j :: r, h => by
    unfold idxO
    split
    · rename_i hb; have := Nat.eq_of_beq_eq_true hb; subst this; rfl
    · rename_i hb
      rcases List.mem_cons.1 h with h | h
      · cases h; simp at hb
      · simpa using idxO_spec h
/-- every number that is seen has its place. -/
def Places (ρ : Nat → Nat) (l : Src) : Prop := ∀ (p i : Nat), l[p]? = some (some i) → ρ i = p
theorem Places.pre {ρ : Nat → Nat} {l m : Src} (h : Places ρ (l ++ m)) : Places ρ l := fun p i hp => h p i (by
  rw [List.getElem?_append_left (List.getElem?_eq_some_iff.1 hp).1]; exact hp)
theorem places_idx {l : Src} (h : nodupO l = true) : Places (fun i => idxO i l) l := fun p i hp => nodupO_inj h (idxO_spec (List.mem_of_getElem? hp)) hp
theorem rowAt_spec {H : List (Ent T.U)} {e : TypeId} {t : Ty} {i : Nat} {xs : List (den T.U t)} (h : rowAt T H e t i = some xs) : H[i]? = some (.row e t xs) := by
  unfold rowAt at h
  split at h
  · rename_i e' t' ys hi
    split at h
    · rename_i hb
      have := Nat.eq_of_beq_eq_true hb; subst this
      split at h
      · rename_i ht
        subst ht
        have h : ys = xs := Option.some.inj h
        subst h; exact hi
      · cases h
    · cases h
  · cases h
theorem tmAt_spec {H : List (Ent T.U)} {k : IntKind} {t : Ty} {i : Nat} {xs : List (Int × den T.U t)} (h : tmAt T H k t i = some xs) : H[i]? = some (.tmap k t xs) := by
  unfold tmAt at h
  split at h
  · rename_i k' t' ys hi
    split at h
    · rename_i hb
      have := kindEq_eq hb; subst this
      split at h
      · rename_i ht
        subst ht
        have h : ys = xs := Option.some.inj h
        subst h; exact hi
      · cases h
    · cases h
  · cases h
theorem blkAt_spec {H : List (Ent T.U)} {e : TypeId} {i : Nat} {cs : List (AV T.U)} (h : blkAt T H e i = some cs) : H[i]? = some (.blk e cs) := by
  unfold blkAt at h
  split at h
  · rename_i e' cs' hi
    split at h
    · rename_i hb
      have := Nat.eq_of_beq_eq_true hb; subst this
      simp only [Option.some.injEq] at h; subst h; exact hi
    · cases h
  · cases h
theorem mapAt_spec {H : List (Ent T.U)} {k : IntKind} {keys : List Int} {i : Nat} {as : List (AV T.U)} (h : mapAt T H k keys i = some as) : H[i]? = some (.map k (zipK keys as)) := by
  unfold mapAt at h
  split at h
  · rename_i k' es hi
    split at h
    · rename_i hb
      rw [Bool.and_eq_true] at hb
      have := kindEq_eq hb.1; subst this
      simp only [Option.some.injEq] at h; subst h
      rw [hi]
      have key : ∀ (keys : List Int) (es : List (Int × AV T.U)), keysEq keys es = true → es = zipK keys (es.map Prod.snd) := by
        intro keys
        induction keys with
        | nil => intro es h; cases es with | nil => rfl | cons _ _ => cases h
        | cons x r ih =>
          intro es h
          match es, h with
          | (y, a) :: s, h =>
            unfold keysEq at h
            split at h
            · rename_i he
              have : x = y := by simpa [eqII] using he
              subst this
              rw [List.map_cons, zipK, ← ih s h]
            · cases h
      rw [← key keys es hb.2]
    · cases h
  · cases h
theorem seenAt_spec {l : Src} {p i : Nat} (h : seenAt l p i = true) : l[p]? = some (some i) := by
  unfold seenAt at h
  split at h
  · rename_i j hj; rw [Nat.eq_of_beq_eq_true h] at hj; exact hj
  · cases h
theorem entsOf_app (H : List (Ent T.U)) (ρ : Nat → Nat) : ∀ (l m : List Nat), entsOf T H ρ (l ++ m) = entsOf T H ρ l ++ entsOf T H ρ m
  | [], _ => rfl
  | i :: r, m => by
    rw [List.cons_append, entsOf, entsOf]
    split
    · rw [entsOf_app H ρ r m]; rfl
    · rw [entsOf_app H ρ r m]; rfl
theorem pairO_some {α β γ : Type} {f : α → β} {o : Option (α × γ)} {y : β} {l : γ} (h : pairO f o = some (y, l)) : ∃ x, o = some (x, l) ∧ f x = y := by
  unfold pairO at h
  split at h
  · simp only [Option.some.injEq, Prod.mk.injEq] at h
    obtain ⟨h1, rfl⟩ := h
    exact ⟨_, rfl, h1⟩
  · cases h
/-- what reading a shape tells. -/
structure RdOk (T : Tab) (H : List (Ent T.U)) (ids : List Nat) (l l' : Src) (new : List Nat) : Prop where
  eq : l' = l ++ new.map some
  ids : ∀ j ∈ ids, some j ∈ l'
  ents : ∀ i ∈ new, ∃ e, H[i]? = some e ∧ e.live = true ∧ ∀ j ∈ e.cellIds, some j ∈ l'
end
end Go.X
