import Derived.Test.YtampgjnliepkiaaGreatA9
import Derived.Test.YtampgjnliepkiaaGreatA5
import Derived.Test.YtampgjnliepkiaaGreatAD
set_option linter.defProp false
namespace Go.X
open Go.RowKit Go.V
section
variable {T:Tab}
end
section
variable {T:Tab} {P:Program} {w w':World} {S S1:List Nat} {φ φ1:Nat->RA}
end
section
variable {T:Tab} {P:Program}
end
end Go.X
namespace Go.X
open Go.RowKit Go.V
section
variable {T:Tab} {P:Program}
def km8 {w w':World} {S:List Nat} {φ:Nat->RA} {C:List Nat} {pin:List RA} {H H':List (Ent T.U)} (hs:Sim T w ⟨C,S,pin⟩ ⟨[],H⟩ [] w S φ) {R:List Nat} (hc:Chg R w w') (hR: ∀b∈R,b∈C) (hg: ∀(i:Nat) (e:Ent T.U),H'[i]?=some e->e=.gone) (hl:H'.length=H.length):Sim T w ⟨C,S,pin⟩ ⟨[],H'⟩ [] w' S φ:=by
 refine ⟨(fun i a h=>by cases h),(fun i a h=>by cases h),hc.weak hR,(fun b hb=>⟨.inl hb,V1 (hs.own b hb).2 hc.size⟩),(fun b hb _ _=>hb),(fun i e h hv=>?_),(fun k r hk=>?_),(fun i e h=>?_),(fun i e h j hj=>?_),(fun i j e e' h h' hv=>?_)⟩
 ·rw [hg i e h] at hv;cases hv
 ·exact ⟨(hs.pins k r hk).1,by have:=(hs.pins k r hk).2;simp only at this⊢;omega⟩
 ·rw [hg i e h];trivial
 ·rw [hg i e h] at hj;cases hj
 ·rw [hg i e h] at hv;cases hv
end
end Go.X
