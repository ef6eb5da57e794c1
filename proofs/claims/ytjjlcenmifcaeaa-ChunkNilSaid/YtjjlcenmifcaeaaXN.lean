/- A function that leaves all that it was handed as it was. Nothing here is about one program. -/
import Derived.Test.YtjjlcenmifcaeaaXK
namespace Go.X
open Go.RowKit Go.V

def Sh.kshape : Sh → Bool | .row _ _ => true | .dr _ _ _ => true | s => s.simple
section
variable (T : Tab)
/-- a block's cells, as they were read: rows by their places, from p on. -/
def kcells (σ : Nat → Nat) : (cs : List Sh) → denL T cs → Nat → List (AV T.U)
  | [], _, _ => []
  | .row _ _ :: r, x, p => .own (σ p) :: kcells σ r x.2 (p + 1)
  | .dr _ _ _ :: r, x, p => .own (σ p) :: kcells σ r x.2 (p + 1)
  | s :: r, x, p => mkA T σ s x.1 0 :: kcells σ r x.2 p
def kents : (cs : List Sh) → denL T cs → List (Ent T.U)
  | [], _ => []
  | .row e t :: r, x => .row e t x.1 :: kents r x.2
  | .dr e d fe :: r, x => .drow e d fe x.1 none :: kents r x.2
  | _ :: r, x => kents r x.2
end
section
variable {T : Tab} {P : Program}
/-- is it such a call: its first argument is a pointer to a block; nothing else that is handed holds entries. -/
def keepOk (H : List (Ent T.U)) (as : List (AV T.U)) : List Sh → Bool
  | .ptr _ _ cs :: ps => cs.all Sh.kshape && (ps.all Sh.simple && headOk H as)
  | _ => false
/-- what a spec says of what it was handed: it is as it was. -/
def Stays (ps : List Sh) (post : List PE) (x : denL T ps) (y : denP T post) : Prop := match ps, x with
  | .ptr _ e cs :: _, x => ∀ (σ : Nat → Nat) (m : Nat), mkP T σ post y m = Ent.blk e (kcells T σ cs x.1 1) :: kents T cs x.1
  | _, _ => True
/-- the same as a call; nothing that was handed is changed. -/
def GSpec.toKeep (sp : GSpec T) (alt : CallSpec T) : CallSpec T where
  call := fun as H K Kp => match rdSL T H sp.ps as [] with
    | some (x, l) => match (nodupN (idsO l) && rowsOk T H (idsO l) sp.post) && keepOk H as sp.ps with
      | true => obind (sp.g x) fun y => K (packR T (mkAL T (σJ (idsO l) H.length) sp.rs y.2 (sp.post.length + cntP sp.post))) (H ++ (mkPN T (σJ (idsO l) H.length) sp.post y.1 sp.post.length ++ mkEL T (σJ (idsO l) H.length) sp.rs y.2 (sp.post.length + cntP sp.post)))
      | false => none
    | none => alt.call as H K Kp
  q := alt.q
  isq := alt.isq
  wr := fun as H => match rdSL T H sp.ps as [] with | some _ => [] | none => alt.wr as H
def PSpec.toKeep (sp : PSpec T) (alt : CallSpec T) : CallSpec T where
  call := fun as H K Kp => match rdSL T H sp.ps as [] with
    | some (x, l) => match (nodupN (idsO l) && rowsOk T H (idsO l) sp.post) && keepOk H as sp.ps with
      | true => obind (sp.g x) fun y => match y.2 with
        | .inl z => K (packR T (mkAL T (σJ (idsO l) H.length) sp.rs z (sp.post.length + cntP sp.post))) (H ++ (mkPN T (σJ (idsO l) H.length) sp.post y.1 sp.post.length ++ mkEL T (σJ (idsO l) H.length) sp.rs z (sp.post.length + cntP sp.post)))
        | .inr z => Kp (packR T (mkAL T (σJ (idsO l) H.length) [sp.pv] z (sp.post.length + cntP sp.post))) (H ++ (mkPN T (σJ (idsO l) H.length) sp.post y.1 sp.post.length ++ mkEL T (σJ (idsO l) H.length) [sp.pv] z (sp.post.length + cntP sp.post)))
      | false => none
    | none => alt.call as H K Kp
  q := alt.q
  isq := alt.isq
  wr := fun as H => match rdSL T H sp.ps as [] with | some _ => [] | none => alt.wr as H
end
end Go.X
