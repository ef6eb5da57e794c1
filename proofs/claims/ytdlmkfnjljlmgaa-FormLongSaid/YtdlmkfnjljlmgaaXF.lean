/- A region of a drawn order, in the order of its text: what is noted of its operations. Nothing here is about one program. -/
import Derived.Test.YtdlmkfnjljlmgaaXD
namespace Go.X
open Go.RowKit Go.V

/-- What is noted of an operation: its place, its new entries, what it touched, what it may have changed. -/
structure DR where
  j : Nat
  nb : Nat
  ne : Nat
  tch : List Nat
  wr : List Nat
def DR.wrE (r : DR) (e : Nat) : Bool := memN e r.wr || (Nat.ble r.nb e && Nat.blt e r.ne)
section
variable (T : Tab) (P : Program) (C : Ctx T) {R : Type}
def idsX (F : AF T) (x : Operand) : List Nat := match aev T F x with | some a => a.ids | none => []
def idsXL (F : AF T) (l : List Operand) : List Nat := match aevL T F l with | some as => idsL as | none => []
def epX (F : AF T) (x : Operand) : List Nat := match aev T F x with | some (.eptr i _ _ _) => [i] | _ => []
def epIn (l : List Nat) (nb : Nat) : AV T.U → Bool | .eptr i _ _ _ => memN i l || Nat.ble nb i | _ => true
/-- The entries that an operation touches. -/
def touchA (o : Oper) (F : AF T) (H : List (Ent T.U)) : List Nat :=
  match o.op with
  | .move x => epX T F x
  | .assign x => epX T F x
  | .fieldAddr _ x _ => epX T F x
  | .load _ x => idsX T F x
  | .store _ x _ => idsX T F x
  | .indexAddr _ x _ => idsX T F x
  | .slice _ x _ _ _ => idsX T F x
  | .convert _ _ x => idsX T F x
  | .call c => match c.callee with
    | .value f => closeN T H (H.length + 1) (addN [] (idsX T F f ++ idsXL T F c.args.toList))
    | _ => addN [] (idsXL T F c.args.toList)
  | _ => []
def liveOnly (H : List (Ent T.U)) (l : List Nat) : List Nat := l.filter fun i => match H[i]? with | some e => e.live | none => false
def maskH (l : List Nat) : List (Ent T.U) → Nat → List (Ent T.U)
  | [], _ => []
  | e :: r, i => (match memN i l with | true => e | false => .gone) :: maskH l r (i + 1)
def mergeH (l : List Nat) : List (Ent T.U) → List (Ent T.U) → Nat → List (Ent T.U)
  | [], s, _ => s
  | _ :: _, [], _ => []
  | e :: r, f :: s, i => (match memN i l with | true => f | false => e) :: mergeH l r s (i + 1)
def idOk (B nb ne : Nat) (clo : List Nat) (recs : List DR) (i : Nat) : Bool := Nat.blt i B || ((Nat.ble nb i && Nat.blt i ne) || recs.any fun r => Nat.ble r.nb i && (Nat.blt i r.ne && memN r.j clo))
def dstA (F : AF T) (dst : Option Tmp) : AV T.U := match dst with | some d => (match F.get T d with | some a => a | none => .raw undef) | none => .raw undef
def chkD (clo : List Nat) (recs : List DR) (tch wr : List Nat) : Bool := recs.all fun r => memN r.j clo || (tch.all (fun e => !r.wrE e) && wr.all fun e => !memN e r.tch)
def ltAll (n : Nat) (l : List Nat) : Bool := l.all fun i => Nat.blt i n
/-- A drawn region's operations, one behind the other; each sees just what it touches. -/
def regP (ops : Array Oper) (n B : Nat) (K : St T → Option R) : List Oper → Nat → AF T → List (Ent T.U) → List DR → Option R
  | [], _, FF, Hc, _ => K ⟨FF, Hc⟩
  | o :: r, j, FF, Hc, recs =>
    let take := fun (FF : AF T) =>
      let F := keepA T FF (opTmps o)
      let tch := liveOnly T Hc (touchA T o F Hc)
      let Hm := maskH T tch Hc 0
      let clo := (cloN ops ops.size).getD j []
      match okDst n o.dst && (notSelect o && (presA F o && (ltAll Hc.length (idsF T F) && Hm.all fun e => ltAll Hc.length e.cellIds))) with
      | true => stepA P C o ⟨F, Hm⟩ (fun st' =>
          match chkD clo recs tch (wrA C o ⟨F, Hm⟩) && (((dstA T st'.F o.dst).ids.all (idOk B Hc.length st'.H.length clo recs) && epIn T tch Hc.length (dstA T st'.F o.dst)) && st'.H.all fun e => e.cellIds.all (idOk B Hc.length st'.H.length clo recs)) with
          | true => regP ops n B K r (j + 1) (updA T FF o.dst (dstA T st'.F o.dst)) (mergeH T tch Hc st'.H 0) (recs ++ [⟨j, Hc.length, st'.H.length, tch, wrA C o ⟨F, Hm⟩⟩])
          | false => none) (fun _ _ => none)
      | false => none
    let pass := fun (FF : AF T) => match okDst n o.dst with
      | true => regP ops n B K r (j + 1) (updA T FF o.dst (.raw undef)) Hc (recs ++ [⟨j, Hc.length, Hc.length, [], []⟩])
      | false => none
    match o.guard with
    | none => take FF
    | some (g, b) => match dstAt ops g with
      | none => none
      | some d => match FF.get T d with
        | some (.cell ⟨.bool, c⟩) => forkB c (match b with | true => take ((d, cB T true) :: FF) | false => pass ((d, cB T true) :: FF)) (match b with | true => pass ((d, cB T false) :: FF) | false => take ((d, cB T false) :: FF))
        | some (.raw (.tuple _)) => pass FF
        | _ => none
def okD (ops : Array Oper) (n : Nat) : Bool := depOk ops ops.size && (Go.V.distinct (dsts ops ops.size) && (edgesBack ops && (guardsBack ops ops.size && (dsts ops ops.size).all fun d => Nat.blt d n)))
def regD (ops : Array Oper) (n : Nat) (K : St T → Option R) (st : St T) : Option R :=
  match okD ops n with
  | true => regP T P C ops n st.H.length K ops.toList 0 st.F st.H []
  | false => none
end
end Go.X
