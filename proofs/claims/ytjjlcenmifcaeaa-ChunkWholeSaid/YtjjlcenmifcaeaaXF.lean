/- A region of a drawn order, in the order of its text: what is noted of its operations. Nothing here is about one program. -/
import Derived.Test.YtjjlcenmifcaeaaXL
namespace Go.X
open Go.RowKit Go.V

/-- What is noted of an operation: its place, its new entries, what it touched, what it may have changed. -/
structure DR where
  j : Nat
  nb : Nat
  ne : Nat
  tch : List Nat
  wr : List Nat
  loc : Option (Nat × Nat × Bool)
def DR.isSt (r : DR) : Bool := match r.loc with | some (_, _, true) => true | _ => false
def DR.wrE (r : DR) (e : Nat) : Bool := memN e r.wr || (Nat.ble r.nb e && Nat.blt e r.ne)
section
variable (T : Tab) (P : Program) (C : Ctx T) {R : Type}
def idsX (F : AF T) (x : Operand) : List Nat := match aev T F x with | some a => a.ids | none => []
def idsXL (F : AF T) (l : List Operand) : List Nat := match aevL T F l with | some as => idsL as | none => []
def isDr (H : List (Ent T.U)) (i : Nat) : Bool := match H[i]? with | some (.drow _ _ _ _ _) => true | _ => false
def epX (F : AF T) (H : List (Ent T.U)) (x : Operand) : List Nat := match aev T F x with | some (.eptr i _ _ _) => (match isDr T H i with | true => [] | false => [i]) | _ => []
def epIn (l : List Nat) (nb : Nat) (HB : List (Ent T.U)) : AV T.U → Bool | .eptr i _ _ _ => memN i l || (Nat.ble nb i || isDr T HB i) | _ => true
/-- The entries that an operation touches. -/
def touchA (o : Oper) (F : AF T) (H : List (Ent T.U)) : List Nat :=
  match o.op with
  | .move x => epX T F H x
  | .assign x => epX T F H x
  | .fieldAddr _ x _ => epX T F H x
  | .load _ x => idsX T F x
  | .store _ x _ => idsX T F x
  | .indexAddr _ x _ => idsX T F x
  | .slice _ x _ _ _ => idsX T F x
  | .sliceToArrayPointer _ x => idsX T F x
  | .nilCheck x => epX T F H x
  | .lookup _ m _ _ => idsX T F m
  | .insert _ m _ v => addN [] (idsX T F m)
  | .mapUpdate _ m _ v => addN [] (idsX T F m)
  | .convert _ _ x => idsX T F x
  | .call c => match c.callee with
    | .value f => closeN T H (H.length + 1) (addN [] (idsX T F f ++ idsXL T F c.args.toList))
    | _ => addN [] (idsXL T F c.args.toList)
  | _ => []
def liveOnly (H : List (Ent T.U)) (l : List Nat) : List Nat := l.filter fun i => match H[i]? with | some e => e.live | none => false
def maskH (l : List Nat) : List (Ent T.U) → Nat → List (Ent T.U)
  | [], _ => []
  | e :: r, i => (match memN i l with | true => e | false => .gone) :: maskH l r (i + 1)
def mergeH (l : List Nat) : List (Ent T.U) → List (Ent T.U) → Nat → List (Ent T.U)
  | [], s, _ => s
  | _ :: _, [], _ => []
  | e :: r, f :: s, i => (match memN i l with | true => f | false => e) :: mergeH l r s (i + 1)
def idOk (B nb ne : Nat) (clo : List Nat) (recs : List DR) (i : Nat) : Bool := Nat.blt i B || ((Nat.ble nb i && Nat.blt i ne) || recs.any fun r => Nat.ble r.nb i && (Nat.blt i r.ne && memN r.j clo))
def dstA (F : AF T) (dst : Option Tmp) : AV T.U := match dst with | some d => (match F.get T d with | some a => a | none => .raw undef) | none => .raw undef
/-- what is done on one cell, and what is not. -/
def locC (r : DR) (tch wr : List Nat) (lc : Option (Nat × Nat × Bool)) : Bool :=
  (match r.loc with | none => true | some (k, _, st) => (!st || !memN k tch) && !memN k wr) &&
  (match lc with | none => true | some (k, c, st) => !r.wrE k && ((!st || !memN k r.tch) && (match r.loc with | none => true | some (k', c', st') => !(Nat.beq k' k) || (!(st || st') || !(Nat.beq c' c)))))
def chkD (clo : List Nat) (recs : List DR) (tch wr : List Nat) (lc : Option (Nat × Nat × Bool)) : Bool := recs.all fun r => memN r.j clo || ((tch.all (fun e => !r.wrE e) && wr.all fun e => !memN e r.tch) && locC r tch wr lc)
def ltAll (n : Nat) (l : List Nat) : Bool := l.all fun i => Nat.blt i n
/-- the slots that none of these operations writes. -/
def offD (l : List Nat) : AF T → AF T
  | [] => []
  | (t, a) :: r => match memN t l with | true => offD l r | false => (t, a) :: offD l r
/-- behind a panic: is an operation one that waits for the one that panicked; may it do what it does. -/
def deadP {R : Type} (pz : Option (Nat × Option R)) (clo : List Nat) : Bool := match pz with | some (j, _) => memN j clo | none => false
def laterP {R : Type} (pz : Option (Nat × Option R)) (wr : List Nat) : Bool := match pz with | some _ => wr.isEmpty | none => true
def firstP {R : Type} (pm : Bool) (pz : Option (Nat × Option R)) : Bool := match pz with | some _ => false | none => pm
/-- what a panic leaves of the entries of before. -/
def corePan (B : Nat) (tch : List Nat) (Hc Hp : List (Ent T.U)) : List (Ent T.U) := (mergeH T tch Hc Hp 0).take B
/-- may it panic here: nothing that may be exchanged with it has changed anything. -/
def okPan (B : Nat) (clo : List Nat) (recs : List DR) (tch wr : List Nat) (a : AV T.U) (core : List (Ent T.U)) : Bool :=
  chkD clo recs tch wr none && (a.ids.isEmpty && ((recs.all fun r => memN r.j clo || (r.wr.isEmpty && !r.isSt)) && core.all fun e => ltAll B e.cellIds))
/-- An operation that is done; G: what comes behind it. -/
def takeP (ops : Array Oper) (n B : Nat) (HB : List (Ent T.U)) (Fp : AF T) (pm : Bool) (Kp : AV T.U → St T → Option R) (o : Oper) (j : Nat) (pz : Option (Nat × Option R)) (FF : AF T) (Hc : List (Ent T.U)) (recs : List DR) (G : Option (Nat × Option R) → AF T → List (Ent T.U) → List DR → Option R) : Option R :=
  let F := keepA T FF (opTmps o)
  let tch := liveOnly T Hc (touchA T o F Hc ++ frzIds C o F Hc)
  let Hm := maskH T tch Hc 0
  let clo := (cloN ops ops.size).getD j []
  match okDst n o.dst && (notSelect o && (presA F o && (ltAll Hc.length (idsF T F) && Hm.all fun e => ltAll Hc.length e.cellIds))) with
  | true => match locP P o F Hm with
    | some (k, c, sv) => stepF P C o ⟨F, Hm⟩ (fun st' =>
      match laterP pz (match sv with | some _ => [k] | none => []) && (chkD clo recs [] [] (some (k, c, sv.isSome)) && ((dstA T st'.F o.dst).ids.all (idOk B Hc.length Hc.length clo recs) && (match sv with | some v => v.ids | none => []).all (idOk B Hc.length Hc.length clo recs))) with
      | true => G pz (updA T FF o.dst (dstA T st'.F o.dst)) (putE k c sv (Hc.getD k .gone) Hc) (recs ++ [⟨j, Hc.length, Hc.length, [], [], some (k, c, sv.isSome)⟩])
      | false => none) (fun _ _ => none)
    | none => stepF P C o ⟨F, Hm⟩ (fun st' =>
      match laterP pz (wrF C o ⟨F, Hm⟩) && (chkD clo recs tch (wrF C o ⟨F, Hm⟩) none && (((dstA T st'.F o.dst).ids.all (idOk B Hc.length st'.H.length clo recs) && epIn T tch Hc.length HB (dstA T st'.F o.dst)) && st'.H.all fun e => e.cellIds.all (idOk B Hc.length st'.H.length clo recs))) with
      | true => G pz (updA T FF o.dst (dstA T st'.F o.dst)) (mergeH T tch Hc st'.H 0) (recs ++ [⟨j, Hc.length, st'.H.length, tch, wrF C o ⟨F, Hm⟩, none⟩])
      | false => none) (fun a st' => match firstP pm pz && okPan T B clo recs tch (wrF C o ⟨F, Hm⟩) a (corePan T B tch Hc st'.H) with
      | true => G (some (j, Kp a ⟨Fp, corePan T B tch Hc st'.H⟩)) (updA T FF o.dst (.raw undef)) (Hc ++ List.replicate (st'.H.length - Hc.length) .gone) (recs ++ [⟨j, Hc.length, st'.H.length, [], [], none⟩])
      | false => none)
  | false => none
/-- One that is not done. -/
def passP (n : Nat) (o : Oper) (j : Nat) (pz : Option (Nat × Option R)) (FF : AF T) (Hc : List (Ent T.U)) (recs : List DR) (G : Option (Nat × Option R) → AF T → List (Ent T.U) → List DR → Option R) : Option R :=
  match okDst n o.dst with
  | true => G pz (updA T FF o.dst (.raw undef)) Hc (recs ++ [⟨j, Hc.length, Hc.length, [], [], none⟩])
  | false => none
/-- A drawn region's operations, one behind the other; each sees just what it touches. -/
def regP (ops : Array Oper) (n B : Nat) (HB : List (Ent T.U)) (Fp : AF T) (pm : Bool) (Kp : AV T.U → St T → Option R) (K : St T → Option R) : List Oper → Nat → Option (Nat × Option R) → AF T → List (Ent T.U) → List DR → Option R
  | [], _, pz, FF, Hc, _ => match pz with | none => K ⟨FF, Hc⟩ | some (_, kf) => kf
  | o :: r, j, pz, FF, Hc, recs =>
    let G := fun pz FF Hc recs => regP ops n B HB Fp pm Kp K r (j + 1) pz FF Hc recs
    match deadP pz ((cloN ops ops.size).getD j []) with
    | true => passP T n o j pz FF Hc recs G
    | false => match o.guard with
      | none => takeP T P C ops n B HB Fp pm Kp o j pz FF Hc recs G
      | some (g, b) => match dstAt ops g with
        | none => none
        | some d => match FF.get T d with
          | some (.cell ⟨.bool, c⟩) => forkB c (match b with | true => takeP T P C ops n B HB Fp pm Kp o j pz ((d, cB T true) :: FF) Hc recs G | false => passP T n o j pz ((d, cB T true) :: FF) Hc recs G) (match b with | true => passP T n o j pz ((d, cB T false) :: FF) Hc recs G | false => takeP T P C ops n B HB Fp pm Kp o j pz ((d, cB T false) :: FF) Hc recs G)
          | some (.raw (.tuple _)) => passP T n o j pz FF Hc recs G
          | _ => none
/-- what an operation reads is written by one that it waits for, or by none but such as wait for it. -/
def depOkD (ops : Array Oper) (m : Nat) : Bool := (List.range m).all fun i => match ops[i]? with
  | some o => notSelect o && ((opTmps o ++ guardTmp ops o).all fun t => (dpreds ops i).any (fun j => Nat.blt j m && dstOf ops j == some t) || (List.range m).all fun j => dstOf ops j != some t || ((cloN ops ops.size).getD j []).contains i)
  | none => true
def okD (ops : Array Oper) (n : Nat) : Bool := depOkD ops ops.size && (Go.V.distinct (dsts ops ops.size) && (edgesBack ops && (guardsBack ops ops.size && (dsts ops ops.size).all fun d => Nat.blt d n)))
def regD (ops : Array Oper) (n : Nat) (pm : Bool) (Kp : AV T.U → St T → Option R) (K : St T → Option R) (st : St T) : Option R :=
  match okD ops n with
  | true => regP T P C ops n st.H.length st.H (offD T (dsts ops ops.size) st.F) pm Kp K ops.toList 0 none st.F st.H []
  | false => none
end
end Go.X
