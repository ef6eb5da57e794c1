import Derived.Test.YtbklhipicfimeaaProg
import Derived.Test.YtbklhipicfimeaaRf
import Derived.Test.YtbklhipicfimeaaAn
namespace Go.V
open Go.RowKit Go.Proofs
theorem of_yes (b o cap : Nat) (w : World) : Calls Try.prog 27 #[.slice (some ⟨b, o, none⟩) 512 cap] w (RetV w (.pointer (some ⟨b, o, none⟩))) := by
  refine calls_of_CW Try.func27 rfl (n := 9) Try.ntmps27 (by kernel_rfl) [0] (F := [(0, .slice (some ⟨b, o, none⟩) 512 cap)]) (by kernel_rfl) ?_
  refine CW.seq fun K1 hK1 => ?_
  refine CW.region ?_
  refine WR.batch 1 [(0, .slice (some ⟨b, o, none⟩) 512 cap)] (by kernel_rfl) ?_
  refine WR.fin (by kernel_rfl) ?_
  refine go hK1 ?_
  refine CW.seq fun K2 hK2 => ?_
  refine CW.seq fun K3 hK3 => ?_
  refine CW.region ?_
  refine WR.batch 3 [(0, .slice (some ⟨b, o, none⟩) 512 cap), (5, .bool false)] (by kernel_rfl) ?_
  refine WR.fin (by kernel_rfl) ?_
  refine go hK3 ?_
  refine CW.no (by kernel_rfl) ?_
  refine CW.skip ?_
  refine go hK2 ?_
  refine CW.seq fun K4 hK4 => ?_
  refine CW.region ?_
  refine WR.batch 3 [(2, .pointer (some ⟨b, o, none⟩))] (by kernel_rfl) ?_
  refine WR.fin (by kernel_rfl) ?_
  refine go hK4 ?_
  refine CW.ret ?_
  exact retV (.pointer (some ⟨b, o, none⟩)) (by kernel_rfl) ⟨(Chg.refl _ _), rfl⟩

theorem of_no (ad : Option Addr) (n cap : Nat) (w : World) (_hn : n ≠ 512) : Calls Try.prog 27 #[.slice ad n cap] w (Pan w (.iface 25 (.int .i64 2))) := by
  refine calls_of_CW Try.func27 rfl (n := 9) Try.ntmps27 (by kernel_rfl) [0] (F := [(0, .slice ad n cap)]) (by kernel_rfl) ?_
  refine CW.seq fun K1 hK1 => ?_
  refine CW.region ?_
  refine WR.batch 1 [(0, .slice ad n cap)] (by kernel_rfl) ?_
  refine WR.fin (by kernel_rfl) ?_
  refine go hK1 ?_
  refine CW.seq fun K2 hK2 => ?_
  refine CW.seq fun K3 hK3 => ?_
  refine CW.region ?_
  refine WR.batch 3 [(0, .slice ad n cap), (5, .bool (((n : Nat) : Int) != (512 : Int)))] (by kernel_rfl) ?_
  refine WR.fin (by kernel_rfl) ?_
  refine go hK3 ?_
  have ht4 : (((n : Nat) : Int) != (512 : Int)) = true := by simp; omega
  refine CW.eqF (F' := [(0, .slice ad n cap), (5, .bool true)]) (by rw [ht4]) ?_
  refine CW.yes (by kernel_rfl) ?_
  refine CW.region ?_
  refine WR.batch 1 [(0, .slice ad n cap), (6, .iface 25 (.int .i64 (2 : Int)))] (by kernel_rfl) ?_
  refine WR.throwR (dst := none) (v := .iface 25 (.int .i64 (2 : Int))) (w' := w) (by kernel_rfl) ?_
  exact panicV (P := Try.prog) (fn := Try.f27) ⟨rfl, Chg.refl _ _⟩

theorem part_yes (g o : Nat) (at_ size : Int) (w : World) (o2 : Nat) (ho2 : o2 = o + (512 + at_).toNat) (_hs : (size = 1 ∨ size = 2 ∨ size = 4 ∨ size = 8)) (_hp : -512 ≤ at_ ∧ at_ ≤ -size) : Calls Try.prog 28 #[.pointer (some ⟨g, o, none⟩), .int .i64 at_, .int .i64 size] w (RetV w (.slice (some ⟨g, o2, none⟩) size.toNat (512 - (512 + at_).toNat))) := by
  refine calls_of_CW Try.func28 rfl (n := 30) Try.ntmps28 (by kernel_rfl) [0, 1, 2] (F := [(0, .pointer (some ⟨g, o, none⟩)), (1, .int .i64 at_), (2, .int .i64 size)]) (by kernel_rfl) ?_
  refine CW.seq fun K1 hK1 => ?_
  refine CW.region ?_
  refine WR.batch 1 [(0, .pointer (some ⟨g, o, none⟩)), (1, .int .i64 at_), (2, .int .i64 size)] (by kernel_rfl) ?_
  refine WR.fin (by kernel_rfl) ?_
  refine go hK1 ?_
  refine CW.seq fun K2 hK2 => ?_
  refine CW.seq fun K3 hK3 => ?_
  refine CW.region ?_
  refine WR.batch 1 [(0, .pointer (some ⟨g, o, none⟩)), (1, .int .i64 at_), (2, .int .i64 size), (7, .int .i64 size)] (by kernel_rfl) ?_
  refine WR.fin (by kernel_rfl) ?_
  refine go hK3 ?_
  refine CW.block ?_
  refine CW.seq fun K4 hK4 => ?_
  refine CW.seq fun K5 hK5 => ?_
  refine CW.region ?_
  refine WR.batch 2 [(0, .pointer (some ⟨g, o, none⟩)), (1, .int .i64 at_), (2, .int .i64 size), (7, .int .i64 size), (9, .bool (size == (1 : Int)))] (by kernel_rfl) ?_
  refine WR.fin (by kernel_rfl) ?_
  refine go hK5 ?_
  refine CW.cond ((size == (1 : Int))) (by kernel_rfl) (fun ht6 => ?_) (fun ht6 => ?_)
  ·
    refine CW.keep [0, 1, 2, 9] (F' := [(0, .pointer (some ⟨g, o, none⟩)), (1, .int .i64 at_), (2, .int .i64 size), (9, .bool (size == (1 : Int)))]) (by kernel_rfl) ?_
    refine CW.eqF (F' := [(0, .pointer (some ⟨g, o, none⟩)), (1, .int .i64 at_), (2, .int .i64 size), (9, .bool true)]) (by rw [ht6]) ?_
    replace ht6 : size = (1 : Int) := (bEqT ht6)
    refine CW.skip ?_
    refine go hK4 ?_
    refine CW.yes (by kernel_rfl) ?_
    refine CW.skip ?_
    refine go hK2 ?_
    refine CW.seq fun K7 hK7 => ?_
    refine CW.seq fun K8 hK8 => ?_
    refine CW.region ?_
    refine WR.batch 3 [(0, .pointer (some ⟨g, o, none⟩)), (1, .int .i64 at_), (2, .int .i64 size), (16, .bool (decide (at_ < (-512 : Int))))] (by kernel_rfl) ?_
    refine WR.merge 8 [(0, .pointer (some ⟨g, o, none⟩)), (1, .int .i64 at_), (2, .int .i64 size), (21, .bool ((decide (at_ < (-512 : Int))) || (decide (at_ > (0 - size)))))] (fun Q' => ?_) ?_
    ·
      cases hg9 : decide (at_ < (-512 : Int))
      ·
        replace hg9 : ¬ (at_ < (-512 : Int)) := (of_decide_eq_false hg9)
        intro hM10
        refine WR.batch 3 [(0, .pointer (some ⟨g, o, none⟩)), (1, .int .i64 at_), (2, .int .i64 size), (16, .bool false), (17, .int .i64 at_), (19, .int .i64 (IntKind.i64.wrap (0 - size)))] (by kernel_rfl) ?_
        have hw11 : IntKind.i64.wrap (0 - size) = (0 - size) := IntWalk.i64_in _ (by omega)
        refine WR.eqF (F' := [(0, .pointer (some ⟨g, o, none⟩)), (1, .int .i64 at_), (2, .int .i64 size), (16, .bool false), (17, .int .i64 at_), (19, .int .i64 (0 - size))]) (by rw [hw11]) ?_
        refine WR.batch 2 [(0, .pointer (some ⟨g, o, none⟩)), (1, .int .i64 at_), (2, .int .i64 size), (21, .bool (decide (at_ > (0 - size))))] (by kernel_rfl) ?_
        exact WR.keep [0, 1, 2, 21] (by kernel_rfl) hM10
      ·
        replace hg9 : at_ < (-512 : Int) := (of_decide_eq_true hg9)
        intro hM10
        refine WR.batch 5 [(0, .pointer (some ⟨g, o, none⟩)), (1, .int .i64 at_), (2, .int .i64 size), (21, .bool true)] (by kernel_rfl) ?_
        exact WR.keep [0, 1, 2, 21] (by kernel_rfl) hM10
    ·
      refine WR.fin (by kernel_rfl) ?_
      refine go hK8 ?_
      have ht12 : ((decide (at_ < (-512 : Int))) || (decide (at_ > (0 - size)))) = false := by simp; omega
      refine CW.eqF (F' := [(0, .pointer (some ⟨g, o, none⟩)), (1, .int .i64 at_), (2, .int .i64 size), (21, .bool false)]) (by rw [ht12]) ?_
      refine CW.no (by kernel_rfl) ?_
      refine CW.skip ?_
      refine go hK7 ?_
      refine CW.seq fun K13 hK13 => ?_
      refine CW.region ?_
      refine WR.batch 4 [(2, .int .i64 size), (24, .pointer (some ⟨g, o, none⟩)), (26, .int .i64 (IntKind.i64.wrap ((512 : Int) + at_)))] (by kernel_rfl) ?_
      have hw14 : IntKind.i64.wrap ((512 : Int) + at_) = ((512 : Int) + at_) := IntWalk.i64_in _ (by omega)
      refine WR.eqF (F' := [(2, .int .i64 size), (24, .pointer (some ⟨g, o, none⟩)), (26, .int .i64 ((512 : Int) + at_))]) (by rw [hw14]) ?_
      refine WR.sliceA (dst := some 27) (t := 47) (e := 4) (g := g) (o := o) (len := 512) (kl := .i64) (l := ((512 : Int) + at_)) (sz := 1) (by kernel_rfl) (by kernel_rfl) (by kernel_rfl) ((((512 : Int) + at_)).toNat) (by omega) (by omega) (o + (((512 : Int) + at_)).toNat) (by omega) ?_
      refine WR.batch 1 [(27, .slice (some ⟨g, o + (((512 : Int) + at_)).toNat, none⟩) (512 - (((512 : Int) + at_)).toNat) (512 - (((512 : Int) + at_)).toNat)), (28, .int .i64 size)] (by kernel_rfl) ?_
      refine WR.sliceH (dst := some 29) (ad := (some ⟨g, o + (((512 : Int) + at_)).toNat, none⟩)) (t := 22) (e := 4) (m := 512 - (((512 : Int) + at_)).toNat) (cap := 512 - (((512 : Int) + at_)).toNat) (kk := .i64) (h := size) (sz := 1) (by_ := 1) (zc := #[.bool false]) (by kernel_rfl) (by kernel_rfl) ((size).toNat) (by omega) (by omega) ?_
      refine WR.batch 1 [(6, .slice (some ⟨g, o + (((512 : Int) + at_)).toNat, none⟩) (size).toNat (512 - (((512 : Int) + at_)).toNat))] (by kernel_rfl) ?_
      refine WR.fin (by kernel_rfl) ?_
      refine go hK13 ?_
      refine CW.ret ?_
      exact retV (.slice (some ⟨g, o + (((512 : Int) + at_)).toNat, none⟩) (size).toNat (512 - (((512 : Int) + at_)).toNat)) (by kernel_rfl) ⟨(Chg.refl _ _), by rw [ho2]⟩
  ·
    replace ht6 : size ≠ (1 : Int) := (bEqF ht6)
    refine CW.seq fun K15 hK15 => ?_
    refine CW.region ?_
    refine WR.batch 2 [(0, .pointer (some ⟨g, o, none⟩)), (1, .int .i64 at_), (2, .int .i64 size), (7, .int .i64 size), (9, .bool (size == (2 : Int)))] (by kernel_rfl) ?_
    refine WR.fin (by kernel_rfl) ?_
    refine go hK15 ?_
    refine CW.cond ((size == (2 : Int))) (by kernel_rfl) (fun ht16 => ?_) (fun ht16 => ?_)
    ·
      refine CW.keep [0, 1, 2, 9] (F' := [(0, .pointer (some ⟨g, o, none⟩)), (1, .int .i64 at_), (2, .int .i64 size), (9, .bool (size == (2 : Int)))]) (by kernel_rfl) ?_
      refine CW.eqF (F' := [(0, .pointer (some ⟨g, o, none⟩)), (1, .int .i64 at_), (2, .int .i64 size), (9, .bool true)]) (by rw [ht16]) ?_
      replace ht16 : size = (2 : Int) := (bEqT ht16)
      refine CW.skip ?_
      refine go hK4 ?_
      refine CW.yes (by kernel_rfl) ?_
      refine CW.skip ?_
      refine go hK2 ?_
      refine CW.seq fun K17 hK17 => ?_
      refine CW.seq fun K18 hK18 => ?_
      refine CW.region ?_
      refine WR.batch 3 [(0, .pointer (some ⟨g, o, none⟩)), (1, .int .i64 at_), (2, .int .i64 size), (16, .bool (decide (at_ < (-512 : Int))))] (by kernel_rfl) ?_
      refine WR.merge 8 [(0, .pointer (some ⟨g, o, none⟩)), (1, .int .i64 at_), (2, .int .i64 size), (21, .bool ((decide (at_ < (-512 : Int))) || (decide (at_ > (0 - size)))))] (fun Q' => ?_) ?_
      ·
        cases hg19 : decide (at_ < (-512 : Int))
        ·
          replace hg19 : ¬ (at_ < (-512 : Int)) := (of_decide_eq_false hg19)
          intro hM20
          refine WR.batch 3 [(0, .pointer (some ⟨g, o, none⟩)), (1, .int .i64 at_), (2, .int .i64 size), (16, .bool false), (17, .int .i64 at_), (19, .int .i64 (IntKind.i64.wrap (0 - size)))] (by kernel_rfl) ?_
          have hw21 : IntKind.i64.wrap (0 - size) = (0 - size) := IntWalk.i64_in _ (by omega)
          refine WR.eqF (F' := [(0, .pointer (some ⟨g, o, none⟩)), (1, .int .i64 at_), (2, .int .i64 size), (16, .bool false), (17, .int .i64 at_), (19, .int .i64 (0 - size))]) (by rw [hw21]) ?_
          refine WR.batch 2 [(0, .pointer (some ⟨g, o, none⟩)), (1, .int .i64 at_), (2, .int .i64 size), (21, .bool (decide (at_ > (0 - size))))] (by kernel_rfl) ?_
          exact WR.keep [0, 1, 2, 21] (by kernel_rfl) hM20
        ·
          replace hg19 : at_ < (-512 : Int) := (of_decide_eq_true hg19)
          intro hM20
          refine WR.batch 5 [(0, .pointer (some ⟨g, o, none⟩)), (1, .int .i64 at_), (2, .int .i64 size), (21, .bool true)] (by kernel_rfl) ?_
          exact WR.keep [0, 1, 2, 21] (by kernel_rfl) hM20
      ·
        refine WR.fin (by kernel_rfl) ?_
        refine go hK18 ?_
        have ht22 : ((decide (at_ < (-512 : Int))) || (decide (at_ > (0 - size)))) = false := by simp; omega
        refine CW.eqF (F' := [(0, .pointer (some ⟨g, o, none⟩)), (1, .int .i64 at_), (2, .int .i64 size), (21, .bool false)]) (by rw [ht22]) ?_
        refine CW.no (by kernel_rfl) ?_
        refine CW.skip ?_
        refine go hK17 ?_
        refine CW.seq fun K23 hK23 => ?_
        refine CW.region ?_
        refine WR.batch 4 [(2, .int .i64 size), (24, .pointer (some ⟨g, o, none⟩)), (26, .int .i64 (IntKind.i64.wrap ((512 : Int) + at_)))] (by kernel_rfl) ?_
        have hw24 : IntKind.i64.wrap ((512 : Int) + at_) = ((512 : Int) + at_) := IntWalk.i64_in _ (by omega)
        refine WR.eqF (F' := [(2, .int .i64 size), (24, .pointer (some ⟨g, o, none⟩)), (26, .int .i64 ((512 : Int) + at_))]) (by rw [hw24]) ?_
        refine WR.sliceA (dst := some 27) (t := 47) (e := 4) (g := g) (o := o) (len := 512) (kl := .i64) (l := ((512 : Int) + at_)) (sz := 1) (by kernel_rfl) (by kernel_rfl) (by kernel_rfl) ((((512 : Int) + at_)).toNat) (by omega) (by omega) (o + (((512 : Int) + at_)).toNat) (by omega) ?_
        refine WR.batch 1 [(27, .slice (some ⟨g, o + (((512 : Int) + at_)).toNat, none⟩) (512 - (((512 : Int) + at_)).toNat) (512 - (((512 : Int) + at_)).toNat)), (28, .int .i64 size)] (by kernel_rfl) ?_
        refine WR.sliceH (dst := some 29) (ad := (some ⟨g, o + (((512 : Int) + at_)).toNat, none⟩)) (t := 22) (e := 4) (m := 512 - (((512 : Int) + at_)).toNat) (cap := 512 - (((512 : Int) + at_)).toNat) (kk := .i64) (h := size) (sz := 1) (by_ := 1) (zc := #[.bool false]) (by kernel_rfl) (by kernel_rfl) ((size).toNat) (by omega) (by omega) ?_
        refine WR.batch 1 [(6, .slice (some ⟨g, o + (((512 : Int) + at_)).toNat, none⟩) (size).toNat (512 - (((512 : Int) + at_)).toNat))] (by kernel_rfl) ?_
        refine WR.fin (by kernel_rfl) ?_
        refine go hK23 ?_
        refine CW.ret ?_
        exact retV (.slice (some ⟨g, o + (((512 : Int) + at_)).toNat, none⟩) (size).toNat (512 - (((512 : Int) + at_)).toNat)) (by kernel_rfl) ⟨(Chg.refl _ _), by rw [ho2]⟩
    ·
      replace ht16 : size ≠ (2 : Int) := (bEqF ht16)
      refine CW.seq fun K25 hK25 => ?_
      refine CW.region ?_
      refine WR.batch 2 [(0, .pointer (some ⟨g, o, none⟩)), (1, .int .i64 at_), (2, .int .i64 size), (7, .int .i64 size), (9, .bool (size == (4 : Int)))] (by kernel_rfl) ?_
      refine WR.fin (by kernel_rfl) ?_
      refine go hK25 ?_
      refine CW.cond ((size == (4 : Int))) (by kernel_rfl) (fun ht26 => ?_) (fun ht26 => ?_)
      ·
        refine CW.keep [0, 1, 2, 9] (F' := [(0, .pointer (some ⟨g, o, none⟩)), (1, .int .i64 at_), (2, .int .i64 size), (9, .bool (size == (4 : Int)))]) (by kernel_rfl) ?_
        refine CW.eqF (F' := [(0, .pointer (some ⟨g, o, none⟩)), (1, .int .i64 at_), (2, .int .i64 size), (9, .bool true)]) (by rw [ht26]) ?_
        replace ht26 : size = (4 : Int) := (bEqT ht26)
        refine CW.skip ?_
        refine go hK4 ?_
        refine CW.yes (by kernel_rfl) ?_
        refine CW.skip ?_
        refine go hK2 ?_
        refine CW.seq fun K27 hK27 => ?_
        refine CW.seq fun K28 hK28 => ?_
        refine CW.region ?_
        refine WR.batch 3 [(0, .pointer (some ⟨g, o, none⟩)), (1, .int .i64 at_), (2, .int .i64 size), (16, .bool (decide (at_ < (-512 : Int))))] (by kernel_rfl) ?_
        refine WR.merge 8 [(0, .pointer (some ⟨g, o, none⟩)), (1, .int .i64 at_), (2, .int .i64 size), (21, .bool ((decide (at_ < (-512 : Int))) || (decide (at_ > (0 - size)))))] (fun Q' => ?_) ?_
        ·
          cases hg29 : decide (at_ < (-512 : Int))
          ·
            replace hg29 : ¬ (at_ < (-512 : Int)) := (of_decide_eq_false hg29)
            intro hM30
            refine WR.batch 3 [(0, .pointer (some ⟨g, o, none⟩)), (1, .int .i64 at_), (2, .int .i64 size), (16, .bool false), (17, .int .i64 at_), (19, .int .i64 (IntKind.i64.wrap (0 - size)))] (by kernel_rfl) ?_
            have hw31 : IntKind.i64.wrap (0 - size) = (0 - size) := IntWalk.i64_in _ (by omega)
            refine WR.eqF (F' := [(0, .pointer (some ⟨g, o, none⟩)), (1, .int .i64 at_), (2, .int .i64 size), (16, .bool false), (17, .int .i64 at_), (19, .int .i64 (0 - size))]) (by rw [hw31]) ?_
            refine WR.batch 2 [(0, .pointer (some ⟨g, o, none⟩)), (1, .int .i64 at_), (2, .int .i64 size), (21, .bool (decide (at_ > (0 - size))))] (by kernel_rfl) ?_
            exact WR.keep [0, 1, 2, 21] (by kernel_rfl) hM30
          ·
            replace hg29 : at_ < (-512 : Int) := (of_decide_eq_true hg29)
            intro hM30
            refine WR.batch 5 [(0, .pointer (some ⟨g, o, none⟩)), (1, .int .i64 at_), (2, .int .i64 size), (21, .bool true)] (by kernel_rfl) ?_
            exact WR.keep [0, 1, 2, 21] (by kernel_rfl) hM30
        ·
          refine WR.fin (by kernel_rfl) ?_
          refine go hK28 ?_
          have ht32 : ((decide (at_ < (-512 : Int))) || (decide (at_ > (0 - size)))) = false := by simp; omega
          refine CW.eqF (F' := [(0, .pointer (some ⟨g, o, none⟩)), (1, .int .i64 at_), (2, .int .i64 size), (21, .bool false)]) (by rw [ht32]) ?_
          refine CW.no (by kernel_rfl) ?_
          refine CW.skip ?_
          refine go hK27 ?_
          refine CW.seq fun K33 hK33 => ?_
          refine CW.region ?_
          refine WR.batch 4 [(2, .int .i64 size), (24, .pointer (some ⟨g, o, none⟩)), (26, .int .i64 (IntKind.i64.wrap ((512 : Int) + at_)))] (by kernel_rfl) ?_
          have hw34 : IntKind.i64.wrap ((512 : Int) + at_) = ((512 : Int) + at_) := IntWalk.i64_in _ (by omega)
          refine WR.eqF (F' := [(2, .int .i64 size), (24, .pointer (some ⟨g, o, none⟩)), (26, .int .i64 ((512 : Int) + at_))]) (by rw [hw34]) ?_
          refine WR.sliceA (dst := some 27) (t := 47) (e := 4) (g := g) (o := o) (len := 512) (kl := .i64) (l := ((512 : Int) + at_)) (sz := 1) (by kernel_rfl) (by kernel_rfl) (by kernel_rfl) ((((512 : Int) + at_)).toNat) (by omega) (by omega) (o + (((512 : Int) + at_)).toNat) (by omega) ?_
          refine WR.batch 1 [(27, .slice (some ⟨g, o + (((512 : Int) + at_)).toNat, none⟩) (512 - (((512 : Int) + at_)).toNat) (512 - (((512 : Int) + at_)).toNat)), (28, .int .i64 size)] (by kernel_rfl) ?_
          refine WR.sliceH (dst := some 29) (ad := (some ⟨g, o + (((512 : Int) + at_)).toNat, none⟩)) (t := 22) (e := 4) (m := 512 - (((512 : Int) + at_)).toNat) (cap := 512 - (((512 : Int) + at_)).toNat) (kk := .i64) (h := size) (sz := 1) (by_ := 1) (zc := #[.bool false]) (by kernel_rfl) (by kernel_rfl) ((size).toNat) (by omega) (by omega) ?_
          refine WR.batch 1 [(6, .slice (some ⟨g, o + (((512 : Int) + at_)).toNat, none⟩) (size).toNat (512 - (((512 : Int) + at_)).toNat))] (by kernel_rfl) ?_
          refine WR.fin (by kernel_rfl) ?_
          refine go hK33 ?_
          refine CW.ret ?_
          exact retV (.slice (some ⟨g, o + (((512 : Int) + at_)).toNat, none⟩) (size).toNat (512 - (((512 : Int) + at_)).toNat)) (by kernel_rfl) ⟨(Chg.refl _ _), by rw [ho2]⟩
      ·
        replace ht26 : size ≠ (4 : Int) := (bEqF ht26)
        refine CW.region ?_
        refine WR.batch 2 [(0, .pointer (some ⟨g, o, none⟩)), (1, .int .i64 at_), (2, .int .i64 size), (9, .bool (size == (8 : Int)))] (by kernel_rfl) ?_
        refine WR.fin (by kernel_rfl) ?_
        refine go hK4 ?_
        refine CW.cond ((size == (8 : Int))) (by kernel_rfl) (fun ht35 => ?_) (fun ht35 => ?_)
        ·
          replace ht35 : size = (8 : Int) := (bEqT ht35)
          refine CW.skip ?_
          refine go hK2 ?_
          refine CW.seq fun K36 hK36 => ?_
          refine CW.seq fun K37 hK37 => ?_
          refine CW.region ?_
          refine WR.batch 3 [(0, .pointer (some ⟨g, o, none⟩)), (1, .int .i64 at_), (2, .int .i64 size), (16, .bool (decide (at_ < (-512 : Int))))] (by kernel_rfl) ?_
          refine WR.merge 8 [(0, .pointer (some ⟨g, o, none⟩)), (1, .int .i64 at_), (2, .int .i64 size), (21, .bool ((decide (at_ < (-512 : Int))) || (decide (at_ > (0 - size)))))] (fun Q' => ?_) ?_
          ·
            cases hg38 : decide (at_ < (-512 : Int))
            ·
              replace hg38 : ¬ (at_ < (-512 : Int)) := (of_decide_eq_false hg38)
              intro hM39
              refine WR.batch 3 [(0, .pointer (some ⟨g, o, none⟩)), (1, .int .i64 at_), (2, .int .i64 size), (16, .bool false), (17, .int .i64 at_), (19, .int .i64 (IntKind.i64.wrap (0 - size)))] (by kernel_rfl) ?_
              have hw40 : IntKind.i64.wrap (0 - size) = (0 - size) := IntWalk.i64_in _ (by omega)
              refine WR.eqF (F' := [(0, .pointer (some ⟨g, o, none⟩)), (1, .int .i64 at_), (2, .int .i64 size), (16, .bool false), (17, .int .i64 at_), (19, .int .i64 (0 - size))]) (by rw [hw40]) ?_
              refine WR.batch 2 [(0, .pointer (some ⟨g, o, none⟩)), (1, .int .i64 at_), (2, .int .i64 size), (21, .bool (decide (at_ > (0 - size))))] (by kernel_rfl) ?_
              exact WR.keep [0, 1, 2, 21] (by kernel_rfl) hM39
            ·
              replace hg38 : at_ < (-512 : Int) := (of_decide_eq_true hg38)
              intro hM39
              refine WR.batch 5 [(0, .pointer (some ⟨g, o, none⟩)), (1, .int .i64 at_), (2, .int .i64 size), (21, .bool true)] (by kernel_rfl) ?_
              exact WR.keep [0, 1, 2, 21] (by kernel_rfl) hM39
          ·
            refine WR.fin (by kernel_rfl) ?_
            refine go hK37 ?_
            have ht41 : ((decide (at_ < (-512 : Int))) || (decide (at_ > (0 - size)))) = false := by simp; omega
            refine CW.eqF (F' := [(0, .pointer (some ⟨g, o, none⟩)), (1, .int .i64 at_), (2, .int .i64 size), (21, .bool false)]) (by rw [ht41]) ?_
            refine CW.no (by kernel_rfl) ?_
            refine CW.skip ?_
            refine go hK36 ?_
            refine CW.seq fun K42 hK42 => ?_
            refine CW.region ?_
            refine WR.batch 4 [(2, .int .i64 size), (24, .pointer (some ⟨g, o, none⟩)), (26, .int .i64 (IntKind.i64.wrap ((512 : Int) + at_)))] (by kernel_rfl) ?_
            have hw43 : IntKind.i64.wrap ((512 : Int) + at_) = ((512 : Int) + at_) := IntWalk.i64_in _ (by omega)
            refine WR.eqF (F' := [(2, .int .i64 size), (24, .pointer (some ⟨g, o, none⟩)), (26, .int .i64 ((512 : Int) + at_))]) (by rw [hw43]) ?_
            refine WR.sliceA (dst := some 27) (t := 47) (e := 4) (g := g) (o := o) (len := 512) (kl := .i64) (l := ((512 : Int) + at_)) (sz := 1) (by kernel_rfl) (by kernel_rfl) (by kernel_rfl) ((((512 : Int) + at_)).toNat) (by omega) (by omega) (o + (((512 : Int) + at_)).toNat) (by omega) ?_
            refine WR.batch 1 [(27, .slice (some ⟨g, o + (((512 : Int) + at_)).toNat, none⟩) (512 - (((512 : Int) + at_)).toNat) (512 - (((512 : Int) + at_)).toNat)), (28, .int .i64 size)] (by kernel_rfl) ?_
            refine WR.sliceH (dst := some 29) (ad := (some ⟨g, o + (((512 : Int) + at_)).toNat, none⟩)) (t := 22) (e := 4) (m := 512 - (((512 : Int) + at_)).toNat) (cap := 512 - (((512 : Int) + at_)).toNat) (kk := .i64) (h := size) (sz := 1) (by_ := 1) (zc := #[.bool false]) (by kernel_rfl) (by kernel_rfl) ((size).toNat) (by omega) (by omega) ?_
            refine WR.batch 1 [(6, .slice (some ⟨g, o + (((512 : Int) + at_)).toNat, none⟩) (size).toNat (512 - (((512 : Int) + at_)).toNat))] (by kernel_rfl) ?_
            refine WR.fin (by kernel_rfl) ?_
            refine go hK42 ?_
            refine CW.ret ?_
            exact retV (.slice (some ⟨g, o + (((512 : Int) + at_)).toNat, none⟩) (size).toNat (512 - (((512 : Int) + at_)).toNat)) (by kernel_rfl) ⟨(Chg.refl _ _), by rw [ho2]⟩
        ·
          replace ht35 : size ≠ (8 : Int) := (bEqF ht35)
          exfalso; omega

theorem part_size (g o : Nat) (at_ size : Int) (w : World) (_hs : ¬ (size = 1 ∨ size = 2 ∨ size = 4 ∨ size = 8)) : Calls Try.prog 28 #[.pointer (some ⟨g, o, none⟩), .int .i64 at_, .int .i64 size] w (Pan w (.iface 25 (.int .i64 2))) := by
  refine calls_of_CW Try.func28 rfl (n := 30) Try.ntmps28 (by kernel_rfl) [0, 1, 2] (F := [(0, .pointer (some ⟨g, o, none⟩)), (1, .int .i64 at_), (2, .int .i64 size)]) (by kernel_rfl) ?_
  refine CW.seq fun K1 hK1 => ?_
  refine CW.region ?_
  refine WR.batch 1 [(0, .pointer (some ⟨g, o, none⟩)), (1, .int .i64 at_), (2, .int .i64 size)] (by kernel_rfl) ?_
  refine WR.fin (by kernel_rfl) ?_
  refine go hK1 ?_
  refine CW.seq fun K2 hK2 => ?_
  refine CW.seq fun K3 hK3 => ?_
  refine CW.region ?_
  refine WR.batch 1 [(0, .pointer (some ⟨g, o, none⟩)), (1, .int .i64 at_), (2, .int .i64 size), (7, .int .i64 size)] (by kernel_rfl) ?_
  refine WR.fin (by kernel_rfl) ?_
  refine go hK3 ?_
  refine CW.block ?_
  refine CW.seq fun K4 hK4 => ?_
  refine CW.seq fun K5 hK5 => ?_
  refine CW.region ?_
  refine WR.batch 2 [(0, .pointer (some ⟨g, o, none⟩)), (1, .int .i64 at_), (2, .int .i64 size), (7, .int .i64 size), (9, .bool (size == (1 : Int)))] (by kernel_rfl) ?_
  refine WR.fin (by kernel_rfl) ?_
  refine go hK5 ?_
  refine CW.cond ((size == (1 : Int))) (by kernel_rfl) (fun ht6 => ?_) (fun ht6 => ?_)
  ·
    refine CW.keep [0, 1, 2, 9] (F' := [(0, .pointer (some ⟨g, o, none⟩)), (1, .int .i64 at_), (2, .int .i64 size), (9, .bool (size == (1 : Int)))]) (by kernel_rfl) ?_
    refine CW.eqF (F' := [(0, .pointer (some ⟨g, o, none⟩)), (1, .int .i64 at_), (2, .int .i64 size), (9, .bool true)]) (by rw [ht6]) ?_
    replace ht6 : size = (1 : Int) := (bEqT ht6)
    exfalso; omega
  ·
    replace ht6 : size ≠ (1 : Int) := (bEqF ht6)
    refine CW.seq fun K7 hK7 => ?_
    refine CW.region ?_
    refine WR.batch 2 [(0, .pointer (some ⟨g, o, none⟩)), (1, .int .i64 at_), (2, .int .i64 size), (7, .int .i64 size), (9, .bool (size == (2 : Int)))] (by kernel_rfl) ?_
    refine WR.fin (by kernel_rfl) ?_
    refine go hK7 ?_
    refine CW.cond ((size == (2 : Int))) (by kernel_rfl) (fun ht8 => ?_) (fun ht8 => ?_)
    ·
      refine CW.keep [0, 1, 2, 9] (F' := [(0, .pointer (some ⟨g, o, none⟩)), (1, .int .i64 at_), (2, .int .i64 size), (9, .bool (size == (2 : Int)))]) (by kernel_rfl) ?_
      refine CW.eqF (F' := [(0, .pointer (some ⟨g, o, none⟩)), (1, .int .i64 at_), (2, .int .i64 size), (9, .bool true)]) (by rw [ht8]) ?_
      replace ht8 : size = (2 : Int) := (bEqT ht8)
      exfalso; omega
    ·
      replace ht8 : size ≠ (2 : Int) := (bEqF ht8)
      refine CW.seq fun K9 hK9 => ?_
      refine CW.region ?_
      refine WR.batch 2 [(0, .pointer (some ⟨g, o, none⟩)), (1, .int .i64 at_), (2, .int .i64 size), (7, .int .i64 size), (9, .bool (size == (4 : Int)))] (by kernel_rfl) ?_
      refine WR.fin (by kernel_rfl) ?_
      refine go hK9 ?_
      refine CW.cond ((size == (4 : Int))) (by kernel_rfl) (fun ht10 => ?_) (fun ht10 => ?_)
      ·
        refine CW.keep [0, 1, 2, 9] (F' := [(0, .pointer (some ⟨g, o, none⟩)), (1, .int .i64 at_), (2, .int .i64 size), (9, .bool (size == (4 : Int)))]) (by kernel_rfl) ?_
        refine CW.eqF (F' := [(0, .pointer (some ⟨g, o, none⟩)), (1, .int .i64 at_), (2, .int .i64 size), (9, .bool true)]) (by rw [ht10]) ?_
        replace ht10 : size = (4 : Int) := (bEqT ht10)
        exfalso; omega
      ·
        replace ht10 : size ≠ (4 : Int) := (bEqF ht10)
        refine CW.region ?_
        refine WR.batch 2 [(0, .pointer (some ⟨g, o, none⟩)), (1, .int .i64 at_), (2, .int .i64 size), (9, .bool (size == (8 : Int)))] (by kernel_rfl) ?_
        refine WR.fin (by kernel_rfl) ?_
        refine go hK4 ?_
        refine CW.cond ((size == (8 : Int))) (by kernel_rfl) (fun ht11 => ?_) (fun ht11 => ?_)
        ·
          replace ht11 : size = (8 : Int) := (bEqT ht11)
          exfalso; omega
        ·
          replace ht11 : size ≠ (8 : Int) := (bEqF ht11)
          refine CW.region ?_
          refine WR.batch 1 [(0, .pointer (some ⟨g, o, none⟩)), (1, .int .i64 at_), (2, .int .i64 size), (8, .iface 25 (.int .i64 (2 : Int)))] (by kernel_rfl) ?_
          refine WR.throwR (dst := none) (v := .iface 25 (.int .i64 (2 : Int))) (w' := w) (by kernel_rfl) ?_
          exact panicV (P := Try.prog) (fn := Try.f28) ⟨rfl, Chg.refl _ _⟩

theorem part_at (g o : Nat) (at_ size : Int) (w : World) (_hs : (size = 1 ∨ size = 2 ∨ size = 4 ∨ size = 8)) (_hp : at_ < -512 ∨ at_ > -size) : Calls Try.prog 28 #[.pointer (some ⟨g, o, none⟩), .int .i64 at_, .int .i64 size] w (Pan w (.iface 25 (.int .i64 112))) := by
  refine calls_of_CW Try.func28 rfl (n := 30) Try.ntmps28 (by kernel_rfl) [0, 1, 2] (F := [(0, .pointer (some ⟨g, o, none⟩)), (1, .int .i64 at_), (2, .int .i64 size)]) (by kernel_rfl) ?_
  refine CW.seq fun K1 hK1 => ?_
  refine CW.region ?_
  refine WR.batch 1 [(0, .pointer (some ⟨g, o, none⟩)), (1, .int .i64 at_), (2, .int .i64 size)] (by kernel_rfl) ?_
  refine WR.fin (by kernel_rfl) ?_
  refine go hK1 ?_
  refine CW.seq fun K2 hK2 => ?_
  refine CW.seq fun K3 hK3 => ?_
  refine CW.region ?_
  refine WR.batch 1 [(0, .pointer (some ⟨g, o, none⟩)), (1, .int .i64 at_), (2, .int .i64 size), (7, .int .i64 size)] (by kernel_rfl) ?_
  refine WR.fin (by kernel_rfl) ?_
  refine go hK3 ?_
  refine CW.block ?_
  refine CW.seq fun K4 hK4 => ?_
  refine CW.seq fun K5 hK5 => ?_
  refine CW.region ?_
  refine WR.batch 2 [(0, .pointer (some ⟨g, o, none⟩)), (1, .int .i64 at_), (2, .int .i64 size), (7, .int .i64 size), (9, .bool (size == (1 : Int)))] (by kernel_rfl) ?_
  refine WR.fin (by kernel_rfl) ?_
  refine go hK5 ?_
  refine CW.cond ((size == (1 : Int))) (by kernel_rfl) (fun ht6 => ?_) (fun ht6 => ?_)
  ·
    refine CW.keep [0, 1, 2, 9] (F' := [(0, .pointer (some ⟨g, o, none⟩)), (1, .int .i64 at_), (2, .int .i64 size), (9, .bool (size == (1 : Int)))]) (by kernel_rfl) ?_
    refine CW.eqF (F' := [(0, .pointer (some ⟨g, o, none⟩)), (1, .int .i64 at_), (2, .int .i64 size), (9, .bool true)]) (by rw [ht6]) ?_
    replace ht6 : size = (1 : Int) := (bEqT ht6)
    refine CW.skip ?_
    refine go hK4 ?_
    refine CW.yes (by kernel_rfl) ?_
    refine CW.skip ?_
    refine go hK2 ?_
    refine CW.seq fun K7 hK7 => ?_
    refine CW.seq fun K8 hK8 => ?_
    refine CW.region ?_
    refine WR.batch 3 [(0, .pointer (some ⟨g, o, none⟩)), (1, .int .i64 at_), (2, .int .i64 size), (16, .bool (decide (at_ < (-512 : Int))))] (by kernel_rfl) ?_
    refine WR.merge 8 [(0, .pointer (some ⟨g, o, none⟩)), (1, .int .i64 at_), (2, .int .i64 size), (21, .bool ((decide (at_ < (-512 : Int))) || (decide (at_ > (0 - size)))))] (fun Q' => ?_) ?_
    ·
      cases hg9 : decide (at_ < (-512 : Int))
      ·
        replace hg9 : ¬ (at_ < (-512 : Int)) := (of_decide_eq_false hg9)
        intro hM10
        refine WR.batch 3 [(0, .pointer (some ⟨g, o, none⟩)), (1, .int .i64 at_), (2, .int .i64 size), (16, .bool false), (17, .int .i64 at_), (19, .int .i64 (IntKind.i64.wrap (0 - size)))] (by kernel_rfl) ?_
        have hw11 : IntKind.i64.wrap (0 - size) = (0 - size) := IntWalk.i64_in _ (by omega)
        refine WR.eqF (F' := [(0, .pointer (some ⟨g, o, none⟩)), (1, .int .i64 at_), (2, .int .i64 size), (16, .bool false), (17, .int .i64 at_), (19, .int .i64 (0 - size))]) (by rw [hw11]) ?_
        refine WR.batch 2 [(0, .pointer (some ⟨g, o, none⟩)), (1, .int .i64 at_), (2, .int .i64 size), (21, .bool (decide (at_ > (0 - size))))] (by kernel_rfl) ?_
        exact WR.keep [0, 1, 2, 21] (by kernel_rfl) hM10
      ·
        replace hg9 : at_ < (-512 : Int) := (of_decide_eq_true hg9)
        intro hM10
        refine WR.batch 5 [(0, .pointer (some ⟨g, o, none⟩)), (1, .int .i64 at_), (2, .int .i64 size), (21, .bool true)] (by kernel_rfl) ?_
        exact WR.keep [0, 1, 2, 21] (by kernel_rfl) hM10
    ·
      refine WR.fin (by kernel_rfl) ?_
      refine go hK8 ?_
      have ht12 : ((decide (at_ < (-512 : Int))) || (decide (at_ > (0 - size)))) = true := by simp; omega
      refine CW.eqF (F' := [(0, .pointer (some ⟨g, o, none⟩)), (1, .int .i64 at_), (2, .int .i64 size), (21, .bool true)]) (by rw [ht12]) ?_
      refine CW.yes (by kernel_rfl) ?_
      refine CW.region ?_
      refine WR.batch 1 [(0, .pointer (some ⟨g, o, none⟩)), (1, .int .i64 at_), (2, .int .i64 size), (22, .iface 25 (.int .i64 (112 : Int)))] (by kernel_rfl) ?_
      refine WR.throwR (dst := none) (v := .iface 25 (.int .i64 (112 : Int))) (w' := w) (by kernel_rfl) ?_
      exact panicV (P := Try.prog) (fn := Try.f28) ⟨rfl, Chg.refl _ _⟩
  ·
    replace ht6 : size ≠ (1 : Int) := (bEqF ht6)
    refine CW.seq fun K13 hK13 => ?_
    refine CW.region ?_
    refine WR.batch 2 [(0, .pointer (some ⟨g, o, none⟩)), (1, .int .i64 at_), (2, .int .i64 size), (7, .int .i64 size), (9, .bool (size == (2 : Int)))] (by kernel_rfl) ?_
    refine WR.fin (by kernel_rfl) ?_
    refine go hK13 ?_
    refine CW.cond ((size == (2 : Int))) (by kernel_rfl) (fun ht14 => ?_) (fun ht14 => ?_)
    ·
      refine CW.keep [0, 1, 2, 9] (F' := [(0, .pointer (some ⟨g, o, none⟩)), (1, .int .i64 at_), (2, .int .i64 size), (9, .bool (size == (2 : Int)))]) (by kernel_rfl) ?_
      refine CW.eqF (F' := [(0, .pointer (some ⟨g, o, none⟩)), (1, .int .i64 at_), (2, .int .i64 size), (9, .bool true)]) (by rw [ht14]) ?_
      replace ht14 : size = (2 : Int) := (bEqT ht14)
      refine CW.skip ?_
      refine go hK4 ?_
      refine CW.yes (by kernel_rfl) ?_
      refine CW.skip ?_
      refine go hK2 ?_
      refine CW.seq fun K15 hK15 => ?_
      refine CW.seq fun K16 hK16 => ?_
      refine CW.region ?_
      refine WR.batch 3 [(0, .pointer (some ⟨g, o, none⟩)), (1, .int .i64 at_), (2, .int .i64 size), (16, .bool (decide (at_ < (-512 : Int))))] (by kernel_rfl) ?_
      refine WR.merge 8 [(0, .pointer (some ⟨g, o, none⟩)), (1, .int .i64 at_), (2, .int .i64 size), (21, .bool ((decide (at_ < (-512 : Int))) || (decide (at_ > (0 - size)))))] (fun Q' => ?_) ?_
      ·
        cases hg17 : decide (at_ < (-512 : Int))
        ·
          replace hg17 : ¬ (at_ < (-512 : Int)) := (of_decide_eq_false hg17)
          intro hM18
          refine WR.batch 3 [(0, .pointer (some ⟨g, o, none⟩)), (1, .int .i64 at_), (2, .int .i64 size), (16, .bool false), (17, .int .i64 at_), (19, .int .i64 (IntKind.i64.wrap (0 - size)))] (by kernel_rfl) ?_
          have hw19 : IntKind.i64.wrap (0 - size) = (0 - size) := IntWalk.i64_in _ (by omega)
          refine WR.eqF (F' := [(0, .pointer (some ⟨g, o, none⟩)), (1, .int .i64 at_), (2, .int .i64 size), (16, .bool false), (17, .int .i64 at_), (19, .int .i64 (0 - size))]) (by rw [hw19]) ?_
          refine WR.batch 2 [(0, .pointer (some ⟨g, o, none⟩)), (1, .int .i64 at_), (2, .int .i64 size), (21, .bool (decide (at_ > (0 - size))))] (by kernel_rfl) ?_
          exact WR.keep [0, 1, 2, 21] (by kernel_rfl) hM18
        ·
          replace hg17 : at_ < (-512 : Int) := (of_decide_eq_true hg17)
          intro hM18
          refine WR.batch 5 [(0, .pointer (some ⟨g, o, none⟩)), (1, .int .i64 at_), (2, .int .i64 size), (21, .bool true)] (by kernel_rfl) ?_
          exact WR.keep [0, 1, 2, 21] (by kernel_rfl) hM18
      ·
        refine WR.fin (by kernel_rfl) ?_
        refine go hK16 ?_
        have ht20 : ((decide (at_ < (-512 : Int))) || (decide (at_ > (0 - size)))) = true := by simp; omega
        refine CW.eqF (F' := [(0, .pointer (some ⟨g, o, none⟩)), (1, .int .i64 at_), (2, .int .i64 size), (21, .bool true)]) (by rw [ht20]) ?_
        refine CW.yes (by kernel_rfl) ?_
        refine CW.region ?_
        refine WR.batch 1 [(0, .pointer (some ⟨g, o, none⟩)), (1, .int .i64 at_), (2, .int .i64 size), (22, .iface 25 (.int .i64 (112 : Int)))] (by kernel_rfl) ?_
        refine WR.throwR (dst := none) (v := .iface 25 (.int .i64 (112 : Int))) (w' := w) (by kernel_rfl) ?_
        exact panicV (P := Try.prog) (fn := Try.f28) ⟨rfl, Chg.refl _ _⟩
    ·
      replace ht14 : size ≠ (2 : Int) := (bEqF ht14)
      refine CW.seq fun K21 hK21 => ?_
      refine CW.region ?_
      refine WR.batch 2 [(0, .pointer (some ⟨g, o, none⟩)), (1, .int .i64 at_), (2, .int .i64 size), (7, .int .i64 size), (9, .bool (size == (4 : Int)))] (by kernel_rfl) ?_
      refine WR.fin (by kernel_rfl) ?_
      refine go hK21 ?_
      refine CW.cond ((size == (4 : Int))) (by kernel_rfl) (fun ht22 => ?_) (fun ht22 => ?_)
      ·
        refine CW.keep [0, 1, 2, 9] (F' := [(0, .pointer (some ⟨g, o, none⟩)), (1, .int .i64 at_), (2, .int .i64 size), (9, .bool (size == (4 : Int)))]) (by kernel_rfl) ?_
        refine CW.eqF (F' := [(0, .pointer (some ⟨g, o, none⟩)), (1, .int .i64 at_), (2, .int .i64 size), (9, .bool true)]) (by rw [ht22]) ?_
        replace ht22 : size = (4 : Int) := (bEqT ht22)
        refine CW.skip ?_
        refine go hK4 ?_
        refine CW.yes (by kernel_rfl) ?_
        refine CW.skip ?_
        refine go hK2 ?_
        refine CW.seq fun K23 hK23 => ?_
        refine CW.seq fun K24 hK24 => ?_
        refine CW.region ?_
        refine WR.batch 3 [(0, .pointer (some ⟨g, o, none⟩)), (1, .int .i64 at_), (2, .int .i64 size), (16, .bool (decide (at_ < (-512 : Int))))] (by kernel_rfl) ?_
        refine WR.merge 8 [(0, .pointer (some ⟨g, o, none⟩)), (1, .int .i64 at_), (2, .int .i64 size), (21, .bool ((decide (at_ < (-512 : Int))) || (decide (at_ > (0 - size)))))] (fun Q' => ?_) ?_
        ·
          cases hg25 : decide (at_ < (-512 : Int))
          ·
            replace hg25 : ¬ (at_ < (-512 : Int)) := (of_decide_eq_false hg25)
            intro hM26
            refine WR.batch 3 [(0, .pointer (some ⟨g, o, none⟩)), (1, .int .i64 at_), (2, .int .i64 size), (16, .bool false), (17, .int .i64 at_), (19, .int .i64 (IntKind.i64.wrap (0 - size)))] (by kernel_rfl) ?_
            have hw27 : IntKind.i64.wrap (0 - size) = (0 - size) := IntWalk.i64_in _ (by omega)
            refine WR.eqF (F' := [(0, .pointer (some ⟨g, o, none⟩)), (1, .int .i64 at_), (2, .int .i64 size), (16, .bool false), (17, .int .i64 at_), (19, .int .i64 (0 - size))]) (by rw [hw27]) ?_
            refine WR.batch 2 [(0, .pointer (some ⟨g, o, none⟩)), (1, .int .i64 at_), (2, .int .i64 size), (21, .bool (decide (at_ > (0 - size))))] (by kernel_rfl) ?_
            exact WR.keep [0, 1, 2, 21] (by kernel_rfl) hM26
          ·
            replace hg25 : at_ < (-512 : Int) := (of_decide_eq_true hg25)
            intro hM26
            refine WR.batch 5 [(0, .pointer (some ⟨g, o, none⟩)), (1, .int .i64 at_), (2, .int .i64 size), (21, .bool true)] (by kernel_rfl) ?_
            exact WR.keep [0, 1, 2, 21] (by kernel_rfl) hM26
        ·
          refine WR.fin (by kernel_rfl) ?_
          refine go hK24 ?_
          have ht28 : ((decide (at_ < (-512 : Int))) || (decide (at_ > (0 - size)))) = true := by simp; omega
          refine CW.eqF (F' := [(0, .pointer (some ⟨g, o, none⟩)), (1, .int .i64 at_), (2, .int .i64 size), (21, .bool true)]) (by rw [ht28]) ?_
          refine CW.yes (by kernel_rfl) ?_
          refine CW.region ?_
          refine WR.batch 1 [(0, .pointer (some ⟨g, o, none⟩)), (1, .int .i64 at_), (2, .int .i64 size), (22, .iface 25 (.int .i64 (112 : Int)))] (by kernel_rfl) ?_
          refine WR.throwR (dst := none) (v := .iface 25 (.int .i64 (112 : Int))) (w' := w) (by kernel_rfl) ?_
          exact panicV (P := Try.prog) (fn := Try.f28) ⟨rfl, Chg.refl _ _⟩
      ·
        replace ht22 : size ≠ (4 : Int) := (bEqF ht22)
        refine CW.region ?_
        refine WR.batch 2 [(0, .pointer (some ⟨g, o, none⟩)), (1, .int .i64 at_), (2, .int .i64 size), (9, .bool (size == (8 : Int)))] (by kernel_rfl) ?_
        refine WR.fin (by kernel_rfl) ?_
        refine go hK4 ?_
        refine CW.cond ((size == (8 : Int))) (by kernel_rfl) (fun ht29 => ?_) (fun ht29 => ?_)
        ·
          replace ht29 : size = (8 : Int) := (bEqT ht29)
          refine CW.skip ?_
          refine go hK2 ?_
          refine CW.seq fun K30 hK30 => ?_
          refine CW.seq fun K31 hK31 => ?_
          refine CW.region ?_
          refine WR.batch 3 [(0, .pointer (some ⟨g, o, none⟩)), (1, .int .i64 at_), (2, .int .i64 size), (16, .bool (decide (at_ < (-512 : Int))))] (by kernel_rfl) ?_
          refine WR.merge 8 [(0, .pointer (some ⟨g, o, none⟩)), (1, .int .i64 at_), (2, .int .i64 size), (21, .bool ((decide (at_ < (-512 : Int))) || (decide (at_ > (0 - size)))))] (fun Q' => ?_) ?_
          ·
            cases hg32 : decide (at_ < (-512 : Int))
            ·
              replace hg32 : ¬ (at_ < (-512 : Int)) := (of_decide_eq_false hg32)
              intro hM33
              refine WR.batch 3 [(0, .pointer (some ⟨g, o, none⟩)), (1, .int .i64 at_), (2, .int .i64 size), (16, .bool false), (17, .int .i64 at_), (19, .int .i64 (IntKind.i64.wrap (0 - size)))] (by kernel_rfl) ?_
              have hw34 : IntKind.i64.wrap (0 - size) = (0 - size) := IntWalk.i64_in _ (by omega)
              refine WR.eqF (F' := [(0, .pointer (some ⟨g, o, none⟩)), (1, .int .i64 at_), (2, .int .i64 size), (16, .bool false), (17, .int .i64 at_), (19, .int .i64 (0 - size))]) (by rw [hw34]) ?_
              refine WR.batch 2 [(0, .pointer (some ⟨g, o, none⟩)), (1, .int .i64 at_), (2, .int .i64 size), (21, .bool (decide (at_ > (0 - size))))] (by kernel_rfl) ?_
              exact WR.keep [0, 1, 2, 21] (by kernel_rfl) hM33
            ·
              replace hg32 : at_ < (-512 : Int) := (of_decide_eq_true hg32)
              intro hM33
              refine WR.batch 5 [(0, .pointer (some ⟨g, o, none⟩)), (1, .int .i64 at_), (2, .int .i64 size), (21, .bool true)] (by kernel_rfl) ?_
              exact WR.keep [0, 1, 2, 21] (by kernel_rfl) hM33
          ·
            refine WR.fin (by kernel_rfl) ?_
            refine go hK31 ?_
            have ht35 : ((decide (at_ < (-512 : Int))) || (decide (at_ > (0 - size)))) = true := by simp; omega
            refine CW.eqF (F' := [(0, .pointer (some ⟨g, o, none⟩)), (1, .int .i64 at_), (2, .int .i64 size), (21, .bool true)]) (by rw [ht35]) ?_
            refine CW.yes (by kernel_rfl) ?_
            refine CW.region ?_
            refine WR.batch 1 [(0, .pointer (some ⟨g, o, none⟩)), (1, .int .i64 at_), (2, .int .i64 size), (22, .iface 25 (.int .i64 (112 : Int)))] (by kernel_rfl) ?_
            refine WR.throwR (dst := none) (v := .iface 25 (.int .i64 (112 : Int))) (w' := w) (by kernel_rfl) ?_
            exact panicV (P := Try.prog) (fn := Try.f28) ⟨rfl, Chg.refl _ _⟩
        ·
          replace ht29 : size ≠ (8 : Int) := (bEqF ht29)
          exfalso; omega

theorem tb_ret (g : Nat) (w : World) : CallsD Try.prog 34 #[.pointer (some ⟨g, 0, none⟩)] .returning w (fun e u' w' => (∃ v0, e = .returned v0) ∧ u' = .returning ∧ Chg [] w w') := by
  refine callsD_rec (u' := .returning) (v := .nilIface) Try.func34 rfl (n := 14) Try.ntmps34 (by kernel_rfl) [0] (F := [(0, .pointer (some ⟨g, 0, none⟩))]) (by kernel_rfl) 3 (by kernel_rfl) (by kernel_rfl) rfl ?_
  intro K1 hK1
  refine WR.batch 1 [(0, .pointer (some ⟨g, 0, none⟩)), (1, .nilIface)] (by kernel_rfl) ?_
  refine WR.fin (by kernel_rfl) ?_
  refine go hK1 ?_
  refine CW.seq fun K2 hK2 => ?_
  refine CW.region ?_
  refine WR.batch 2 [(0, .pointer (some ⟨g, 0, none⟩)), (1, .nilIface), (5, .bool false)] (by kernel_rfl) ?_
  refine WR.fin (by kernel_rfl) ?_
  refine go hK2 ?_
  refine CW.no (by kernel_rfl) ?_
  refine CW.skip ?_
  exact endV (P := Try.prog) (fn := Try.f34) (.tuple #[]) (by kernel_rfl) ⟨⟨_, rfl⟩, rfl, Chg.refl _ _⟩

theorem tb_pan (g : Nat) (x : Int) (w : World) (hb : Blk w g #[.int .i64 0] 25) : CallsD Try.prog 34 #[.pointer (some ⟨g, 0, none⟩)] (.panicking [{ v := .iface 25 (.int .i64 x), recovered := false }]) w (fun e u' w' => (∃ v0, e = .returned v0) ∧ u' = .panicking [{ v := .iface 25 (.int .i64 x), recovered := true }] ∧ Chg [g] w w' ∧ Blk w' g #[.int .i64 x] 25) := by
  refine callsD_rec (u' := (.panicking [{ v := .iface 25 (.int .i64 x), recovered := true }])) (v := .iface 25 (.int .i64 x)) Try.func34 rfl (n := 14) Try.ntmps34 (by kernel_rfl) [0] (F := [(0, .pointer (some ⟨g, 0, none⟩))]) (by kernel_rfl) 3 (by kernel_rfl) (by kernel_rfl) rfl ?_
  intro K1 hK1
  refine WR.batch 1 [(0, .pointer (some ⟨g, 0, none⟩)), (1, .iface 25 (.int .i64 x))] (by kernel_rfl) ?_
  refine WR.fin (by kernel_rfl) ?_
  refine go hK1 ?_
  refine CW.seq fun K2 hK2 => ?_
  refine CW.region ?_
  refine WR.batch 2 [(0, .pointer (some ⟨g, 0, none⟩)), (1, .iface 25 (.int .i64 x)), (5, .bool true)] (by kernel_rfl) ?_
  refine WR.fin (by kernel_rfl) ?_
  refine go hK2 ?_
  refine CW.yes (by kernel_rfl) ?_
  refine CW.seq fun K3 hK3 => ?_
  refine CW.region ?_
  refine WR.batch 1 [(0, .pointer (some ⟨g, 0, none⟩)), (1, .iface 25 (.int .i64 x))] (by kernel_rfl) ?_
  refine WR.fin (by kernel_rfl) ?_
  refine go hK3 ?_
  refine CW.seq fun K4 hK4 => ?_
  refine CW.region ?_
  refine WR.batch 5 [(0, .pointer (some ⟨g, 0, none⟩)), (1, .iface 25 (.int .i64 x)), (9, .int .i64 x), (10, .bool true)] (by kernel_rfl) ?_
  refine WR.store (t := 25) (o := 0) (v := .int .i64 x) hb (by kernel_rfl) #[.int .i64 x] (by kernel_rfl) ?_
  intro w5 hb6 hc7
  have hz9 := hc7.size
  have hC8 := (Chg.refl [g] w).step hc7 (by intro t ht; simp only [List.mem_cons, List.not_mem_nil, or_false] at ht; subst ht; first | exact .inr (by omega) | exact .inl (by simp))
  refine WR.batch 1 [(1, .iface 25 (.int .i64 x)), (2, .bool true)] (by kernel_rfl) ?_
  refine WR.fin (by kernel_rfl) ?_
  refine go hK4 ?_
  refine CW.seq fun K10 hK10 => ?_
  refine CW.region ?_
  refine WR.batch 2 [(1, .iface 25 (.int .i64 x)), (12, .bool false)] (by kernel_rfl) ?_
  refine WR.fin (by kernel_rfl) ?_
  refine go hK10 ?_
  refine CW.no (by kernel_rfl) ?_
  refine CW.skip ?_
  exact endV (P := Try.prog) (fn := Try.f34) (.tuple #[]) (by kernel_rfl) ⟨⟨_, rfl⟩, rfl, hC8, hb6⟩

theorem tt_ret (g : Nat) (w : World) : CallsD Try.prog 35 #[.pointer (some ⟨g, 0, none⟩)] .returning w (fun e u' w' => (∃ v0, e = .returned v0) ∧ u' = .returning ∧ Chg [] w w') := by
  refine callsD_rec (u' := .returning) (v := .nilIface) Try.func35 rfl (n := 14) Try.ntmps35 (by kernel_rfl) [0] (F := [(0, .pointer (some ⟨g, 0, none⟩))]) (by kernel_rfl) 3 (by kernel_rfl) (by kernel_rfl) rfl ?_
  intro K1 hK1
  refine WR.batch 1 [(0, .pointer (some ⟨g, 0, none⟩)), (1, .nilIface)] (by kernel_rfl) ?_
  refine WR.fin (by kernel_rfl) ?_
  refine go hK1 ?_
  refine CW.seq fun K2 hK2 => ?_
  refine CW.region ?_
  refine WR.batch 2 [(0, .pointer (some ⟨g, 0, none⟩)), (1, .nilIface), (5, .bool false)] (by kernel_rfl) ?_
  refine WR.fin (by kernel_rfl) ?_
  refine go hK2 ?_
  refine CW.no (by kernel_rfl) ?_
  refine CW.skip ?_
  exact endV (P := Try.prog) (fn := Try.f35) (.tuple #[]) (by kernel_rfl) ⟨⟨_, rfl⟩, rfl, Chg.refl _ _⟩

theorem tt_pan (g : Nat) (x : Int) (w : World) (hb : Blk w g #[.int .i64 0] 25) : CallsD Try.prog 35 #[.pointer (some ⟨g, 0, none⟩)] (.panicking [{ v := .iface 25 (.int .i64 x), recovered := false }]) w (fun e u' w' => (∃ v0, e = .returned v0) ∧ u' = .panicking [{ v := .iface 25 (.int .i64 x), recovered := true }] ∧ Chg [g] w w' ∧ Blk w' g #[.int .i64 x] 25) := by
  refine callsD_rec (u' := (.panicking [{ v := .iface 25 (.int .i64 x), recovered := true }])) (v := .iface 25 (.int .i64 x)) Try.func35 rfl (n := 14) Try.ntmps35 (by kernel_rfl) [0] (F := [(0, .pointer (some ⟨g, 0, none⟩))]) (by kernel_rfl) 3 (by kernel_rfl) (by kernel_rfl) rfl ?_
  intro K1 hK1
  refine WR.batch 1 [(0, .pointer (some ⟨g, 0, none⟩)), (1, .iface 25 (.int .i64 x))] (by kernel_rfl) ?_
  refine WR.fin (by kernel_rfl) ?_
  refine go hK1 ?_
  refine CW.seq fun K2 hK2 => ?_
  refine CW.region ?_
  refine WR.batch 2 [(0, .pointer (some ⟨g, 0, none⟩)), (1, .iface 25 (.int .i64 x)), (5, .bool true)] (by kernel_rfl) ?_
  refine WR.fin (by kernel_rfl) ?_
  refine go hK2 ?_
  refine CW.yes (by kernel_rfl) ?_
  refine CW.seq fun K3 hK3 => ?_
  refine CW.region ?_
  refine WR.batch 1 [(0, .pointer (some ⟨g, 0, none⟩)), (1, .iface 25 (.int .i64 x))] (by kernel_rfl) ?_
  refine WR.fin (by kernel_rfl) ?_
  refine go hK3 ?_
  refine CW.seq fun K4 hK4 => ?_
  refine CW.region ?_
  refine WR.batch 5 [(0, .pointer (some ⟨g, 0, none⟩)), (1, .iface 25 (.int .i64 x)), (9, .int .i64 x), (10, .bool true)] (by kernel_rfl) ?_
  refine WR.store (t := 25) (o := 0) (v := .int .i64 x) hb (by kernel_rfl) #[.int .i64 x] (by kernel_rfl) ?_
  intro w5 hb6 hc7
  have hz9 := hc7.size
  have hC8 := (Chg.refl [g] w).step hc7 (by intro t ht; simp only [List.mem_cons, List.not_mem_nil, or_false] at ht; subst ht; first | exact .inr (by omega) | exact .inl (by simp))
  refine WR.batch 1 [(1, .iface 25 (.int .i64 x)), (2, .bool true)] (by kernel_rfl) ?_
  refine WR.fin (by kernel_rfl) ?_
  refine go hK4 ?_
  refine CW.seq fun K10 hK10 => ?_
  refine CW.region ?_
  refine WR.batch 2 [(1, .iface 25 (.int .i64 x)), (12, .bool false)] (by kernel_rfl) ?_
  refine WR.fin (by kernel_rfl) ?_
  refine go hK10 ?_
  refine CW.no (by kernel_rfl) ?_
  refine CW.skip ?_
  exact endV (P := Try.prog) (fn := Try.f35) (.tuple #[]) (by kernel_rfl) ⟨⟨_, rfl⟩, rfl, hC8, hb6⟩
end Go.V
