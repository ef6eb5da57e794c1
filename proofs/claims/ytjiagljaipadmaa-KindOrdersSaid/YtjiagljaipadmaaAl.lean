import Derived.Test.YtjiagljaipadmaaProg
import Derived.Test.YtjiagljaipadmaaSp
namespace Go.V
open Go.RowKit Go.Proofs
def alu_do_u32_1  (c0 : Int) (c1 : Int) : Int := (IntKind.u32.wrap (c0 + c1))

theorem alu_do_u32_1_ok  (c0 : Int) (c1 : Int) (_h_c0 : (0 ≤ c0 ∧ c0 ≤ 4294967295)) (_h_c1 : (0 ≤ c1 ∧ c1 ≤ 4294967295))  : (0 ≤ (alu_do_u32_1 c0 c1) ∧ (alu_do_u32_1 c0 c1) ≤ 4294967295) := by
 rw [alu_do_u32_1.eq_1]
 exact (by exact (show (0 ≤ (IntKind.u32.wrap (c0 + c1)) ∧ (IntKind.u32.wrap (c0 + c1)) ≤ 4294967295) from (wrapU32 _)))

theorem alu_do_u32_1_any  (c0 : Int) (c1 : Int) (g0_ : Nat) (g1_ : Nat)  (w : World) (hb0_ : Blk w g0_ #[.int .u32 c0] 84) (hb1_ : Blk w g1_ #[.int .u32 c1] 84) (_h_c0 : (0 ≤ c0 ∧ c0 ≤ 4294967295)) (_h_c1 : (0 ≤ c1 ∧ c1 ≤ 4294967295))  : Calls Try.prog 94 #[pt g0_ 0, pt g1_ 0] w (RetV w (.int .u32 (alu_do_u32_1 c0 c1))) := by
 have hs := alu_do_u32_1.eq_1 c0 c1
 refine calls_of_CW Try.func94 rfl (n := 6) Try.ntmps94 (by kernel_rfl) [0, 1] (F := [(0, pt g0_ 0), (1, pt g1_ 0)]) (by kernel_rfl) ?_
 have hg1 := hb0_.lt
 have hg2 := hb1_.lt
 refine CW.seq fun K3 hK3 => ?_
 refine CW.region ?_
 refine WR.batch 1 [(0, pt g0_ 0), (1, pt g1_ 0)] (by kernel_rfl) ?_
 refine WR.fin (by kernel_rfl) ?_
 refine go hK3 ?_
 refine CW.seq fun K4 hK4 => ?_
 refine CW.region ?_
 refine WR.load (dst := some 3) (t := 84) (o := 0) hb0_ (by kernel_rfl) (.int .u32 c0) (by kernel_rfl) ?_
 refine WR.load (dst := some 4) (t := 84) (o := 0) hb1_ (by kernel_rfl) (.int .u32 c1) (by kernel_rfl) ?_
 refine WR.batch 2 [(2, .int .u32 (IntKind.u32.wrap (c0 + c1)))] (by kernel_rfl) ?_
 refine WR.fin (by kernel_rfl) ?_
 refine go hK4 ?_
 refine CW.ret ?_
 exact retV (.int .u32 (IntKind.u32.wrap (c0 + c1))) (by kernel_rfl) (⟨(Chg.refl _ _), (congrArg (fun r : Int => (.int .u32 r : Value)) hs).symm⟩)

def alu_do_u32_2  (c0 : Int) (c1 : Int) : Int := (IntKind.u32.wrap (c0 - c1))

theorem alu_do_u32_2_ok  (c0 : Int) (c1 : Int) (_h_c0 : (0 ≤ c0 ∧ c0 ≤ 4294967295)) (_h_c1 : (0 ≤ c1 ∧ c1 ≤ 4294967295))  : (0 ≤ (alu_do_u32_2 c0 c1) ∧ (alu_do_u32_2 c0 c1) ≤ 4294967295) := by
 rw [alu_do_u32_2.eq_1]
 exact (by exact (show (0 ≤ (IntKind.u32.wrap (c0 - c1)) ∧ (IntKind.u32.wrap (c0 - c1)) ≤ 4294967295) from (wrapU32 _)))

theorem alu_do_u32_2_any  (c0 : Int) (c1 : Int) (g0_ : Nat) (g1_ : Nat)  (w : World) (hb0_ : Blk w g0_ #[.int .u32 c0] 84) (hb1_ : Blk w g1_ #[.int .u32 c1] 84) (_h_c0 : (0 ≤ c0 ∧ c0 ≤ 4294967295)) (_h_c1 : (0 ≤ c1 ∧ c1 ≤ 4294967295))  : Calls Try.prog 95 #[pt g0_ 0, pt g1_ 0] w (RetV w (.int .u32 (alu_do_u32_2 c0 c1))) := by
 have hs := alu_do_u32_2.eq_1 c0 c1
 refine calls_of_CW Try.func95 rfl (n := 6) Try.ntmps95 (by kernel_rfl) [0, 1] (F := [(0, pt g0_ 0), (1, pt g1_ 0)]) (by kernel_rfl) ?_
 have hg1 := hb0_.lt
 have hg2 := hb1_.lt
 refine CW.seq fun K3 hK3 => ?_
 refine CW.region ?_
 refine WR.batch 1 [(0, pt g0_ 0), (1, pt g1_ 0)] (by kernel_rfl) ?_
 refine WR.fin (by kernel_rfl) ?_
 refine go hK3 ?_
 refine CW.seq fun K4 hK4 => ?_
 refine CW.region ?_
 refine WR.load (dst := some 3) (t := 84) (o := 0) hb0_ (by kernel_rfl) (.int .u32 c0) (by kernel_rfl) ?_
 refine WR.load (dst := some 4) (t := 84) (o := 0) hb1_ (by kernel_rfl) (.int .u32 c1) (by kernel_rfl) ?_
 refine WR.batch 2 [(2, .int .u32 (IntKind.u32.wrap (c0 - c1)))] (by kernel_rfl) ?_
 refine WR.fin (by kernel_rfl) ?_
 refine go hK4 ?_
 refine CW.ret ?_
 exact retV (.int .u32 (IntKind.u32.wrap (c0 - c1))) (by kernel_rfl) (⟨(Chg.refl _ _), (congrArg (fun r : Int => (.int .u32 r : Value)) hs).symm⟩)

def alu_do_u32_3  (c0 : Int) (c1 : Int) : Int := (IntKind.u32.wrap (c0 * c1))

theorem alu_do_u32_3_ok  (c0 : Int) (c1 : Int) (_h_c0 : (0 ≤ c0 ∧ c0 ≤ 4294967295)) (_h_c1 : (0 ≤ c1 ∧ c1 ≤ 4294967295))  : (0 ≤ (alu_do_u32_3 c0 c1) ∧ (alu_do_u32_3 c0 c1) ≤ 4294967295) := by
 rw [alu_do_u32_3.eq_1]
 exact (by exact (show (0 ≤ (IntKind.u32.wrap (c0 * c1)) ∧ (IntKind.u32.wrap (c0 * c1)) ≤ 4294967295) from (wrapU32 _)))

theorem alu_do_u32_3_any  (c0 : Int) (c1 : Int) (g0_ : Nat) (g1_ : Nat)  (w : World) (hb0_ : Blk w g0_ #[.int .u32 c0] 84) (hb1_ : Blk w g1_ #[.int .u32 c1] 84) (_h_c0 : (0 ≤ c0 ∧ c0 ≤ 4294967295)) (_h_c1 : (0 ≤ c1 ∧ c1 ≤ 4294967295))  : Calls Try.prog 96 #[pt g0_ 0, pt g1_ 0] w (RetV w (.int .u32 (alu_do_u32_3 c0 c1))) := by
 have hs := alu_do_u32_3.eq_1 c0 c1
 refine calls_of_CW Try.func96 rfl (n := 6) Try.ntmps96 (by kernel_rfl) [0, 1] (F := [(0, pt g0_ 0), (1, pt g1_ 0)]) (by kernel_rfl) ?_
 have hg1 := hb0_.lt
 have hg2 := hb1_.lt
 refine CW.seq fun K3 hK3 => ?_
 refine CW.region ?_
 refine WR.batch 1 [(0, pt g0_ 0), (1, pt g1_ 0)] (by kernel_rfl) ?_
 refine WR.fin (by kernel_rfl) ?_
 refine go hK3 ?_
 refine CW.seq fun K4 hK4 => ?_
 refine CW.region ?_
 refine WR.load (dst := some 3) (t := 84) (o := 0) hb0_ (by kernel_rfl) (.int .u32 c0) (by kernel_rfl) ?_
 refine WR.load (dst := some 4) (t := 84) (o := 0) hb1_ (by kernel_rfl) (.int .u32 c1) (by kernel_rfl) ?_
 refine WR.batch 2 [(2, .int .u32 (IntKind.u32.wrap (c0 * c1)))] (by kernel_rfl) ?_
 refine WR.fin (by kernel_rfl) ?_
 refine go hK4 ?_
 refine CW.ret ?_
 exact retV (.int .u32 (IntKind.u32.wrap (c0 * c1))) (by kernel_rfl) (⟨(Chg.refl _ _), (congrArg (fun r : Int => (.int .u32 r : Value)) hs).symm⟩)

def alu_do_u32_4  (c0 : Int) (c1 : Int) : Int := (IntKind.u32.wrap ((c0).tdiv c1))

theorem alu_do_u32_4_ok  (c0 : Int) (c1 : Int) (_h_c0 : (0 ≤ c0 ∧ c0 ≤ 4294967295)) (_h_c1 : (0 ≤ c1 ∧ c1 ≤ 4294967295)) (_hc : c1 ≠ 0) : (0 ≤ (alu_do_u32_4 c0 c1) ∧ (alu_do_u32_4 c0 c1) ≤ 4294967295) := by
 rw [alu_do_u32_4.eq_1]
 exact (by exact (show (0 ≤ (IntKind.u32.wrap ((c0).tdiv c1)) ∧ (IntKind.u32.wrap ((c0).tdiv c1)) ≤ 4294967295) from (wrapU32 _)))

theorem alu_do_u32_4_any  (c0 : Int) (c1 : Int) (g0_ : Nat) (g1_ : Nat)  (w : World) (hb0_ : Blk w g0_ #[.int .u32 c0] 84) (hb1_ : Blk w g1_ #[.int .u32 c1] 84) (_h_c0 : (0 ≤ c0 ∧ c0 ≤ 4294967295)) (_h_c1 : (0 ≤ c1 ∧ c1 ≤ 4294967295)) (_hc : c1 ≠ 0) : Calls Try.prog 97 #[pt g0_ 0, pt g1_ 0] w (RetV w (.int .u32 (alu_do_u32_4 c0 c1))) := by
 have hs := alu_do_u32_4.eq_1 c0 c1
 refine calls_of_CW Try.func97 rfl (n := 6) Try.ntmps97 (by kernel_rfl) [0, 1] (F := [(0, pt g0_ 0), (1, pt g1_ 0)]) (by kernel_rfl) ?_
 have hg1 := hb0_.lt
 have hg2 := hb1_.lt
 refine CW.seq fun K3 hK3 => ?_
 refine CW.region ?_
 refine WR.batch 1 [(0, pt g0_ 0), (1, pt g1_ 0)] (by kernel_rfl) ?_
 refine WR.fin (by kernel_rfl) ?_
 refine go hK3 ?_
 refine CW.seq fun K4 hK4 => ?_
 refine CW.region ?_
 refine WR.load (dst := some 3) (t := 84) (o := 0) hb0_ (by kernel_rfl) (.int .u32 c0) (by kernel_rfl) ?_
 refine WR.load (dst := some 4) (t := 84) (o := 0) hb1_ (by kernel_rfl) (.int .u32 c1) (by kernel_rfl) ?_
 refine WR.valR (dst := some 5) (v := .int .u32 (IntKind.u32.wrap ((c0).tdiv c1))) (w' := w) (run_quo (kk := .u32) (x := c0) (y := c1) (by kernel_rfl) (by omega) w) ?_
 refine WR.batch 1 [(2, .int .u32 (IntKind.u32.wrap ((c0).tdiv c1)))] (by kernel_rfl) ?_
 refine WR.fin (by kernel_rfl) ?_
 refine go hK4 ?_
 refine CW.ret ?_
 exact retV (.int .u32 (IntKind.u32.wrap ((c0).tdiv c1))) (by kernel_rfl) (⟨(Chg.refl _ _), (congrArg (fun r : Int => (.int .u32 r : Value)) hs).symm⟩)

def alu_do_u32_5  (c0 : Int) (c1 : Int) : Int := ((c0).tmod c1)

theorem alu_do_u32_5_ok  (c0 : Int) (c1 : Int) (_h_c0 : (0 ≤ c0 ∧ c0 ≤ 4294967295)) (_h_c1 : (0 ≤ c1 ∧ c1 ≤ 4294967295)) (_hc : c1 ≠ 0) : (0 ≤ (alu_do_u32_5 c0 c1) ∧ (alu_do_u32_5 c0 c1) ≤ 4294967295) := by
 rw [alu_do_u32_5.eq_1]
 exact (by exact (show (0 ≤ ((c0).tmod c1) ∧ ((c0).tmod c1) ≤ 4294967295) from (tmod_rng (by omega) (by omega))))

theorem alu_do_u32_5_any  (c0 : Int) (c1 : Int) (g0_ : Nat) (g1_ : Nat)  (w : World) (hb0_ : Blk w g0_ #[.int .u32 c0] 84) (hb1_ : Blk w g1_ #[.int .u32 c1] 84) (_h_c0 : (0 ≤ c0 ∧ c0 ≤ 4294967295)) (_h_c1 : (0 ≤ c1 ∧ c1 ≤ 4294967295)) (_hc : c1 ≠ 0) : Calls Try.prog 98 #[pt g0_ 0, pt g1_ 0] w (RetV w (.int .u32 (alu_do_u32_5 c0 c1))) := by
 have hs := alu_do_u32_5.eq_1 c0 c1
 refine calls_of_CW Try.func98 rfl (n := 6) Try.ntmps98 (by kernel_rfl) [0, 1] (F := [(0, pt g0_ 0), (1, pt g1_ 0)]) (by kernel_rfl) ?_
 have hg1 := hb0_.lt
 have hg2 := hb1_.lt
 refine CW.seq fun K3 hK3 => ?_
 refine CW.region ?_
 refine WR.batch 1 [(0, pt g0_ 0), (1, pt g1_ 0)] (by kernel_rfl) ?_
 refine WR.fin (by kernel_rfl) ?_
 refine go hK3 ?_
 refine CW.seq fun K4 hK4 => ?_
 refine CW.region ?_
 refine WR.load (dst := some 3) (t := 84) (o := 0) hb0_ (by kernel_rfl) (.int .u32 c0) (by kernel_rfl) ?_
 refine WR.load (dst := some 4) (t := 84) (o := 0) hb1_ (by kernel_rfl) (.int .u32 c1) (by kernel_rfl) ?_
 refine WR.valR (dst := some 5) (v := .int .u32 ((c0).tmod c1)) (w' := w) (run_rem (kk := .u32) (x := c0) (y := c1) (by kernel_rfl) (by omega) w) ?_
 have hm5 := tmod_rng (x := c0) (y := c1) (m := 4294967295) (by omega) (by omega)
 refine WR.batch 1 [(2, .int .u32 ((c0).tmod c1))] (by kernel_rfl) ?_
 refine WR.fin (by kernel_rfl) ?_
 refine go hK4 ?_
 refine CW.ret ?_
 exact retV (.int .u32 ((c0).tmod c1)) (by kernel_rfl) (⟨(Chg.refl _ _), (congrArg (fun r : Int => (.int .u32 r : Value)) hs).symm⟩)

def alu_do_u32_6  (c0 : Int) (c1 : Int) : Int := (bAnd .u32 c0 c1)

theorem alu_do_u32_6_ok  (c0 : Int) (c1 : Int) (_h_c0 : (0 ≤ c0 ∧ c0 ≤ 4294967295)) (_h_c1 : (0 ≤ c1 ∧ c1 ≤ 4294967295))  : (0 ≤ (alu_do_u32_6 c0 c1) ∧ (alu_do_u32_6 c0 c1) ≤ 4294967295) := by
 rw [alu_do_u32_6.eq_1]
 exact (by exact (show (0 ≤ (bAnd .u32 c0 c1) ∧ (bAnd .u32 c0 c1) ≤ 4294967295) from (wrapU32 _)))

theorem alu_do_u32_6_any  (c0 : Int) (c1 : Int) (g0_ : Nat) (g1_ : Nat)  (w : World) (hb0_ : Blk w g0_ #[.int .u32 c0] 84) (hb1_ : Blk w g1_ #[.int .u32 c1] 84) (_h_c0 : (0 ≤ c0 ∧ c0 ≤ 4294967295)) (_h_c1 : (0 ≤ c1 ∧ c1 ≤ 4294967295))  : Calls Try.prog 99 #[pt g0_ 0, pt g1_ 0] w (RetV w (.int .u32 (alu_do_u32_6 c0 c1))) := by
 have hs := alu_do_u32_6.eq_1 c0 c1
 refine calls_of_CW Try.func99 rfl (n := 6) Try.ntmps99 (by kernel_rfl) [0, 1] (F := [(0, pt g0_ 0), (1, pt g1_ 0)]) (by kernel_rfl) ?_
 have hg1 := hb0_.lt
 have hg2 := hb1_.lt
 refine CW.seq fun K3 hK3 => ?_
 refine CW.region ?_
 refine WR.batch 1 [(0, pt g0_ 0), (1, pt g1_ 0)] (by kernel_rfl) ?_
 refine WR.fin (by kernel_rfl) ?_
 refine go hK3 ?_
 refine CW.seq fun K4 hK4 => ?_
 refine CW.region ?_
 refine WR.load (dst := some 3) (t := 84) (o := 0) hb0_ (by kernel_rfl) (.int .u32 c0) (by kernel_rfl) ?_
 refine WR.load (dst := some 4) (t := 84) (o := 0) hb1_ (by kernel_rfl) (.int .u32 c1) (by kernel_rfl) ?_
 refine WR.batch 2 [(2, .int .u32 (bAnd .u32 c0 c1))] (by kernel_rfl) ?_
 refine WR.fin (by kernel_rfl) ?_
 refine go hK4 ?_
 refine CW.ret ?_
 exact retV (.int .u32 (bAnd .u32 c0 c1)) (by kernel_rfl) (⟨(Chg.refl _ _), (congrArg (fun r : Int => (.int .u32 r : Value)) hs).symm⟩)

def alu_do_u32_7  (c0 : Int) (c1 : Int) : Int := (bOr .u32 c0 c1)

theorem alu_do_u32_7_ok  (c0 : Int) (c1 : Int) (_h_c0 : (0 ≤ c0 ∧ c0 ≤ 4294967295)) (_h_c1 : (0 ≤ c1 ∧ c1 ≤ 4294967295))  : (0 ≤ (alu_do_u32_7 c0 c1) ∧ (alu_do_u32_7 c0 c1) ≤ 4294967295) := by
 rw [alu_do_u32_7.eq_1]
 exact (by exact (show (0 ≤ (bOr .u32 c0 c1) ∧ (bOr .u32 c0 c1) ≤ 4294967295) from (wrapU32 _)))

theorem alu_do_u32_7_any  (c0 : Int) (c1 : Int) (g0_ : Nat) (g1_ : Nat)  (w : World) (hb0_ : Blk w g0_ #[.int .u32 c0] 84) (hb1_ : Blk w g1_ #[.int .u32 c1] 84) (_h_c0 : (0 ≤ c0 ∧ c0 ≤ 4294967295)) (_h_c1 : (0 ≤ c1 ∧ c1 ≤ 4294967295))  : Calls Try.prog 100 #[pt g0_ 0, pt g1_ 0] w (RetV w (.int .u32 (alu_do_u32_7 c0 c1))) := by
 have hs := alu_do_u32_7.eq_1 c0 c1
 refine calls_of_CW Try.func100 rfl (n := 6) Try.ntmps100 (by kernel_rfl) [0, 1] (F := [(0, pt g0_ 0), (1, pt g1_ 0)]) (by kernel_rfl) ?_
 have hg1 := hb0_.lt
 have hg2 := hb1_.lt
 refine CW.seq fun K3 hK3 => ?_
 refine CW.region ?_
 refine WR.batch 1 [(0, pt g0_ 0), (1, pt g1_ 0)] (by kernel_rfl) ?_
 refine WR.fin (by kernel_rfl) ?_
 refine go hK3 ?_
 refine CW.seq fun K4 hK4 => ?_
 refine CW.region ?_
 refine WR.load (dst := some 3) (t := 84) (o := 0) hb0_ (by kernel_rfl) (.int .u32 c0) (by kernel_rfl) ?_
 refine WR.load (dst := some 4) (t := 84) (o := 0) hb1_ (by kernel_rfl) (.int .u32 c1) (by kernel_rfl) ?_
 refine WR.batch 2 [(2, .int .u32 (bOr .u32 c0 c1))] (by kernel_rfl) ?_
 refine WR.fin (by kernel_rfl) ?_
 refine go hK4 ?_
 refine CW.ret ?_
 exact retV (.int .u32 (bOr .u32 c0 c1)) (by kernel_rfl) (⟨(Chg.refl _ _), (congrArg (fun r : Int => (.int .u32 r : Value)) hs).symm⟩)

def alu_do_u32_8  (c0 : Int) (c1 : Int) : Int := (bXor .u32 c0 c1)

theorem alu_do_u32_8_ok  (c0 : Int) (c1 : Int) (_h_c0 : (0 ≤ c0 ∧ c0 ≤ 4294967295)) (_h_c1 : (0 ≤ c1 ∧ c1 ≤ 4294967295))  : (0 ≤ (alu_do_u32_8 c0 c1) ∧ (alu_do_u32_8 c0 c1) ≤ 4294967295) := by
 rw [alu_do_u32_8.eq_1]
 exact (by exact (show (0 ≤ (bXor .u32 c0 c1) ∧ (bXor .u32 c0 c1) ≤ 4294967295) from (wrapU32 _)))

theorem alu_do_u32_8_any  (c0 : Int) (c1 : Int) (g0_ : Nat) (g1_ : Nat)  (w : World) (hb0_ : Blk w g0_ #[.int .u32 c0] 84) (hb1_ : Blk w g1_ #[.int .u32 c1] 84) (_h_c0 : (0 ≤ c0 ∧ c0 ≤ 4294967295)) (_h_c1 : (0 ≤ c1 ∧ c1 ≤ 4294967295))  : Calls Try.prog 101 #[pt g0_ 0, pt g1_ 0] w (RetV w (.int .u32 (alu_do_u32_8 c0 c1))) := by
 have hs := alu_do_u32_8.eq_1 c0 c1
 refine calls_of_CW Try.func101 rfl (n := 6) Try.ntmps101 (by kernel_rfl) [0, 1] (F := [(0, pt g0_ 0), (1, pt g1_ 0)]) (by kernel_rfl) ?_
 have hg1 := hb0_.lt
 have hg2 := hb1_.lt
 refine CW.seq fun K3 hK3 => ?_
 refine CW.region ?_
 refine WR.batch 1 [(0, pt g0_ 0), (1, pt g1_ 0)] (by kernel_rfl) ?_
 refine WR.fin (by kernel_rfl) ?_
 refine go hK3 ?_
 refine CW.seq fun K4 hK4 => ?_
 refine CW.region ?_
 refine WR.load (dst := some 3) (t := 84) (o := 0) hb0_ (by kernel_rfl) (.int .u32 c0) (by kernel_rfl) ?_
 refine WR.load (dst := some 4) (t := 84) (o := 0) hb1_ (by kernel_rfl) (.int .u32 c1) (by kernel_rfl) ?_
 refine WR.batch 2 [(2, .int .u32 (bXor .u32 c0 c1))] (by kernel_rfl) ?_
 refine WR.fin (by kernel_rfl) ?_
 refine go hK4 ?_
 refine CW.ret ?_
 exact retV (.int .u32 (bXor .u32 c0 c1)) (by kernel_rfl) (⟨(Chg.refl _ _), (congrArg (fun r : Int => (.int .u32 r : Value)) hs).symm⟩)

def alu_do_u32_9  (c0 : Int) (c1 : Int) (c2 : Int) : Int := (sShl .u32 c0 ((c1).tmod c2))

theorem alu_do_u32_9_ok  (c0 : Int) (c1 : Int) (c2 : Int) (_h_c0 : (0 ≤ c0 ∧ c0 ≤ 4294967295)) (_h_c1 : (0 ≤ c1 ∧ c1 ≤ 4294967295)) (_h_c2 : (0 ≤ c2 ∧ c2 ≤ 4294967295)) (_hc : c2 ≠ 0) : (0 ≤ (alu_do_u32_9 c0 c1 c2) ∧ (alu_do_u32_9 c0 c1 c2) ≤ 4294967295) := by
 rw [alu_do_u32_9.eq_1]
 exact (by exact (show (0 ≤ (sShl .u32 c0 ((c1).tmod c2)) ∧ (sShl .u32 c0 ((c1).tmod c2)) ≤ 4294967295) from (wrapU32 _)))

theorem alu_do_u32_9_any  (c0 : Int) (c1 : Int) (c2 : Int) (g0_ : Nat) (g1_ : Nat) (g2_ : Nat)  (w : World) (hb0_ : Blk w g0_ #[.int .u32 c0] 84) (hb1_ : Blk w g1_ #[.int .u32 c1] 84) (hb2_ : Blk w g2_ #[.int .u32 c2] 84) (_h_c0 : (0 ≤ c0 ∧ c0 ≤ 4294967295)) (_h_c1 : (0 ≤ c1 ∧ c1 ≤ 4294967295)) (_h_c2 : (0 ≤ c2 ∧ c2 ≤ 4294967295)) (_hc : c2 ≠ 0) : Calls Try.prog 102 #[pt g0_ 0, pt g1_ 0, pt g2_ 0] w (RetV w (.int .u32 (alu_do_u32_9 c0 c1 c2))) := by
 have hs := alu_do_u32_9.eq_1 c0 c1 c2
 refine calls_of_CW Try.func102 rfl (n := 9) Try.ntmps102 (by kernel_rfl) [0, 1, 2] (F := [(0, pt g0_ 0), (1, pt g1_ 0), (2, pt g2_ 0)]) (by kernel_rfl) ?_
 have hg1 := hb0_.lt
 have hg2 := hb1_.lt
 have hg3 := hb2_.lt
 refine CW.seq fun K4 hK4 => ?_
 refine CW.region ?_
 refine WR.batch 1 [(0, pt g0_ 0), (1, pt g1_ 0), (2, pt g2_ 0)] (by kernel_rfl) ?_
 refine WR.fin (by kernel_rfl) ?_
 refine go hK4 ?_
 refine CW.seq fun K5 hK5 => ?_
 refine CW.regionQ (by kernel_rfl) (by kernel_rfl) ?_
 refine WQ.load (dst := some 4) (t := 84) (o := 0) (fun _ hq => hb0_.pure hq) (by kernel_rfl) (.int .u32 c0) (by kernel_rfl) ?_
 refine WQ.load (dst := some 5) (t := 84) (o := 0) (fun _ hq => hb1_.pure hq) (by kernel_rfl) (.int .u32 c1) (by kernel_rfl) ?_
 refine WQ.load (dst := some 6) (t := 84) (o := 0) (fun _ hq => hb2_.pure hq) (by kernel_rfl) (.int .u32 c2) (by kernel_rfl) ?_
 refine WQ.val (dst := some 7) (.int .u32 ((c1).tmod c2)) (run_rem (kk := .u32) (x := c1) (y := c2) (by kernel_rfl) (by omega)) ?_
 have hm6 := tmod_rng (x := c1) (y := c2) (m := 4294967295) (by omega) (by omega)
 refine WQ.val (dst := some 8) (.int .u32 (sShl .u32 c0 ((c1).tmod c2))) (run_shl (kk := .u32) (k' := .u32) (x := c0) (y := ((c1).tmod c2)) (by kernel_rfl) (show 0 ≤ ((c1).tmod c2) ∧ ((c1).tmod c2) ≤ 4294967295 from (tmod_rng (by omega) (by omega))).1) ?_
 refine WQ.val (dst := some 3) (.int .u32 (sShl .u32 c0 ((c1).tmod c2))) (fun _ => by kernel_rfl) ?_
 refine WQ.fin (by kernel_rfl) ?_
 intro w7 hc8
 have hz10 := hc8.size
 have hC9 := (Chg.refl [] w).pure hc8
 have hb11 := hb0_.pure hc8
 have hb12 := hb1_.pure hc8
 have hb13 := hb2_.pure hc8
 refine go hK5 ?_
 refine CW.ret ?_
 exact retV (.int .u32 (sShl .u32 c0 ((c1).tmod c2))) (by kernel_rfl) (⟨hC9, (congrArg (fun r : Int => (.int .u32 r : Value)) hs).symm⟩)

def alu_do_u32_10  (c0 : Int) (c1 : Int) (c2 : Int) : Int := (sShr .u32 c0 ((c1).tmod c2))

theorem alu_do_u32_10_ok  (c0 : Int) (c1 : Int) (c2 : Int) (_h_c0 : (0 ≤ c0 ∧ c0 ≤ 4294967295)) (_h_c1 : (0 ≤ c1 ∧ c1 ≤ 4294967295)) (_h_c2 : (0 ≤ c2 ∧ c2 ≤ 4294967295)) (_hc : c2 ≠ 0) : (0 ≤ (alu_do_u32_10 c0 c1 c2) ∧ (alu_do_u32_10 c0 c1 c2) ≤ 4294967295) := by
 rw [alu_do_u32_10.eq_1]
 exact (by exact (show (0 ≤ (sShr .u32 c0 ((c1).tmod c2)) ∧ (sShr .u32 c0 ((c1).tmod c2)) ≤ 4294967295) from (sShr_rng (by omega))))

theorem alu_do_u32_10_any  (c0 : Int) (c1 : Int) (c2 : Int) (g0_ : Nat) (g1_ : Nat) (g2_ : Nat)  (w : World) (hb0_ : Blk w g0_ #[.int .u32 c0] 84) (hb1_ : Blk w g1_ #[.int .u32 c1] 84) (hb2_ : Blk w g2_ #[.int .u32 c2] 84) (_h_c0 : (0 ≤ c0 ∧ c0 ≤ 4294967295)) (_h_c1 : (0 ≤ c1 ∧ c1 ≤ 4294967295)) (_h_c2 : (0 ≤ c2 ∧ c2 ≤ 4294967295)) (_hc : c2 ≠ 0) : Calls Try.prog 103 #[pt g0_ 0, pt g1_ 0, pt g2_ 0] w (RetV w (.int .u32 (alu_do_u32_10 c0 c1 c2))) := by
 have hs := alu_do_u32_10.eq_1 c0 c1 c2
 refine calls_of_CW Try.func103 rfl (n := 9) Try.ntmps103 (by kernel_rfl) [0, 1, 2] (F := [(0, pt g0_ 0), (1, pt g1_ 0), (2, pt g2_ 0)]) (by kernel_rfl) ?_
 have hg1 := hb0_.lt
 have hg2 := hb1_.lt
 have hg3 := hb2_.lt
 refine CW.seq fun K4 hK4 => ?_
 refine CW.region ?_
 refine WR.batch 1 [(0, pt g0_ 0), (1, pt g1_ 0), (2, pt g2_ 0)] (by kernel_rfl) ?_
 refine WR.fin (by kernel_rfl) ?_
 refine go hK4 ?_
 refine CW.seq fun K5 hK5 => ?_
 refine CW.regionQ (by kernel_rfl) (by kernel_rfl) ?_
 refine WQ.load (dst := some 4) (t := 84) (o := 0) (fun _ hq => hb0_.pure hq) (by kernel_rfl) (.int .u32 c0) (by kernel_rfl) ?_
 refine WQ.load (dst := some 5) (t := 84) (o := 0) (fun _ hq => hb1_.pure hq) (by kernel_rfl) (.int .u32 c1) (by kernel_rfl) ?_
 refine WQ.load (dst := some 6) (t := 84) (o := 0) (fun _ hq => hb2_.pure hq) (by kernel_rfl) (.int .u32 c2) (by kernel_rfl) ?_
 refine WQ.val (dst := some 7) (.int .u32 ((c1).tmod c2)) (run_rem (kk := .u32) (x := c1) (y := c2) (by kernel_rfl) (by omega)) ?_
 have hm6 := tmod_rng (x := c1) (y := c2) (m := 4294967295) (by omega) (by omega)
 refine WQ.val (dst := some 8) (.int .u32 (sShr .u32 c0 ((c1).tmod c2))) (run_shr (kk := .u32) (k' := .u32) (x := c0) (y := ((c1).tmod c2)) (by kernel_rfl) (show 0 ≤ ((c1).tmod c2) ∧ ((c1).tmod c2) ≤ 4294967295 from (tmod_rng (by omega) (by omega))).1) ?_
 refine WQ.val (dst := some 3) (.int .u32 (sShr .u32 c0 ((c1).tmod c2))) (fun _ => by kernel_rfl) ?_
 refine WQ.fin (by kernel_rfl) ?_
 intro w7 hc8
 have hz10 := hc8.size
 have hC9 := (Chg.refl [] w).pure hc8
 have hb11 := hb0_.pure hc8
 have hb12 := hb1_.pure hc8
 have hb13 := hb2_.pure hc8
 refine go hK5 ?_
 refine CW.ret ?_
 exact retV (.int .u32 (sShr .u32 c0 ((c1).tmod c2))) (by kernel_rfl) (⟨hC9, (congrArg (fun r : Int => (.int .u32 r : Value)) hs).symm⟩)

def alu_do_u32_11  (c0 : Int) (c1 : Int) (c2 : Int) : Int := (IntKind.u32.wrap (sShr .i32 (IntKind.i32.wrap c0) ((c1).tmod c2)))

theorem alu_do_u32_11_ok  (c0 : Int) (c1 : Int) (c2 : Int) (_h_c0 : (0 ≤ c0 ∧ c0 ≤ 4294967295)) (_h_c1 : (0 ≤ c1 ∧ c1 ≤ 4294967295)) (_h_c2 : (0 ≤ c2 ∧ c2 ≤ 4294967295)) (_hc : c2 ≠ 0) : (0 ≤ (alu_do_u32_11 c0 c1 c2) ∧ (alu_do_u32_11 c0 c1 c2) ≤ 4294967295) := by
 rw [alu_do_u32_11.eq_1]
 exact (by exact (show (0 ≤ (IntKind.u32.wrap (sShr .i32 (IntKind.i32.wrap c0) ((c1).tmod c2))) ∧ (IntKind.u32.wrap (sShr .i32 (IntKind.i32.wrap c0) ((c1).tmod c2))) ≤ 4294967295) from (wrapU32 _)))

theorem alu_do_u32_11_any  (c0 : Int) (c1 : Int) (c2 : Int) (g0_ : Nat) (g1_ : Nat) (g2_ : Nat)  (w : World) (hb0_ : Blk w g0_ #[.int .u32 c0] 84) (hb1_ : Blk w g1_ #[.int .u32 c1] 84) (hb2_ : Blk w g2_ #[.int .u32 c2] 84) (_h_c0 : (0 ≤ c0 ∧ c0 ≤ 4294967295)) (_h_c1 : (0 ≤ c1 ∧ c1 ≤ 4294967295)) (_h_c2 : (0 ≤ c2 ∧ c2 ≤ 4294967295)) (_hc : c2 ≠ 0) : Calls Try.prog 104 #[pt g0_ 0, pt g1_ 0, pt g2_ 0] w (RetV w (.int .u32 (alu_do_u32_11 c0 c1 c2))) := by
 have hs := alu_do_u32_11.eq_1 c0 c1 c2
 refine calls_of_CW Try.func104 rfl (n := 11) Try.ntmps104 (by kernel_rfl) [0, 1, 2] (F := [(0, pt g0_ 0), (1, pt g1_ 0), (2, pt g2_ 0)]) (by kernel_rfl) ?_
 have hg1 := hb0_.lt
 have hg2 := hb1_.lt
 have hg3 := hb2_.lt
 refine CW.seq fun K4 hK4 => ?_
 refine CW.region ?_
 refine WR.batch 1 [(0, pt g0_ 0), (1, pt g1_ 0), (2, pt g2_ 0)] (by kernel_rfl) ?_
 refine WR.fin (by kernel_rfl) ?_
 refine go hK4 ?_
 refine CW.seq fun K5 hK5 => ?_
 refine CW.regionQ (by kernel_rfl) (by kernel_rfl) ?_
 refine WQ.load (dst := some 4) (t := 84) (o := 0) (fun _ hq => hb0_.pure hq) (by kernel_rfl) (.int .u32 c0) (by kernel_rfl) ?_
 refine WQ.val (dst := some 5) (.int .i32 (IntKind.i32.wrap c0)) (fun _ => by kernel_rfl) ?_
 refine WQ.load (dst := some 6) (t := 84) (o := 0) (fun _ hq => hb1_.pure hq) (by kernel_rfl) (.int .u32 c1) (by kernel_rfl) ?_
 refine WQ.load (dst := some 7) (t := 84) (o := 0) (fun _ hq => hb2_.pure hq) (by kernel_rfl) (.int .u32 c2) (by kernel_rfl) ?_
 refine WQ.val (dst := some 8) (.int .u32 ((c1).tmod c2)) (run_rem (kk := .u32) (x := c1) (y := c2) (by kernel_rfl) (by omega)) ?_
 have hm6 := tmod_rng (x := c1) (y := c2) (m := 4294967295) (by omega) (by omega)
 refine WQ.val (dst := some 9) (.int .i32 (sShr .i32 (IntKind.i32.wrap c0) ((c1).tmod c2))) (run_shr (kk := .i32) (k' := .u32) (x := (IntKind.i32.wrap c0)) (y := ((c1).tmod c2)) (by kernel_rfl) (show 0 ≤ ((c1).tmod c2) ∧ ((c1).tmod c2) ≤ 4294967295 from (tmod_rng (by omega) (by omega))).1) ?_
 refine WQ.val (dst := some 10) (.int .u32 (IntKind.u32.wrap (sShr .i32 (IntKind.i32.wrap c0) ((c1).tmod c2)))) (fun _ => by kernel_rfl) ?_
 refine WQ.val (dst := some 3) (.int .u32 (IntKind.u32.wrap (sShr .i32 (IntKind.i32.wrap c0) ((c1).tmod c2)))) (fun _ => by kernel_rfl) ?_
 refine WQ.fin (by kernel_rfl) ?_
 intro w7 hc8
 have hz10 := hc8.size
 have hC9 := (Chg.refl [] w).pure hc8
 have hb11 := hb0_.pure hc8
 have hb12 := hb1_.pure hc8
 have hb13 := hb2_.pure hc8
 refine go hK5 ?_
 refine CW.ret ?_
 exact retV (.int .u32 (IntKind.u32.wrap (sShr .i32 (IntKind.i32.wrap c0) ((c1).tmod c2)))) (by kernel_rfl) (⟨hC9, (congrArg (fun r : Int => (.int .u32 r : Value)) hs).symm⟩)

def alu_do_u32_12  (c0 : Int) : Int := c0

theorem alu_do_u32_12_ok  (c0 : Int) (_h_c0 : (0 ≤ c0 ∧ c0 ≤ 4294967295))  : (0 ≤ (alu_do_u32_12 c0) ∧ (alu_do_u32_12 c0) ≤ 4294967295) := by
 rw [alu_do_u32_12.eq_1]
 exact (by exact (show (0 ≤ c0 ∧ c0 ≤ 4294967295) from (by omega)))

theorem alu_do_u32_12_any  (c0 : Int) (g0_ : Nat)  (w : World) (hb0_ : Blk w g0_ #[.int .u32 c0] 84) (_h_c0 : (0 ≤ c0 ∧ c0 ≤ 4294967295))  : Calls Try.prog 105 #[pt g0_ 0] w (RetV w (.int .u32 (alu_do_u32_12 c0))) := by
 have hs := alu_do_u32_12.eq_1 c0
 refine calls_of_CW Try.func105 rfl (n := 3) Try.ntmps105 (by kernel_rfl) [0] (F := [(0, pt g0_ 0)]) (by kernel_rfl) ?_
 have hg1 := hb0_.lt
 refine CW.seq fun K2 hK2 => ?_
 refine CW.region ?_
 refine WR.batch 1 [(0, pt g0_ 0)] (by kernel_rfl) ?_
 refine WR.fin (by kernel_rfl) ?_
 refine go hK2 ?_
 refine CW.seq fun K3 hK3 => ?_
 refine CW.region ?_
 refine WR.load (dst := some 2) (t := 84) (o := 0) hb0_ (by kernel_rfl) (.int .u32 c0) (by kernel_rfl) ?_
 refine WR.batch 1 [(1, .int .u32 c0)] (by kernel_rfl) ?_
 refine WR.fin (by kernel_rfl) ?_
 refine go hK3 ?_
 refine CW.ret ?_
 exact retV (.int .u32 c0) (by kernel_rfl) (⟨(Chg.refl _ _), (congrArg (fun r : Int => (.int .u32 r : Value)) hs).symm⟩)

def alu_do_u32_13  (c0 : Int) : Int := (IntKind.u32.wrap (0 - c0))

theorem alu_do_u32_13_ok  (c0 : Int) (_h_c0 : (0 ≤ c0 ∧ c0 ≤ 4294967295))  : (0 ≤ (alu_do_u32_13 c0) ∧ (alu_do_u32_13 c0) ≤ 4294967295) := by
 rw [alu_do_u32_13.eq_1]
 exact (by exact (show (0 ≤ (IntKind.u32.wrap (0 - c0)) ∧ (IntKind.u32.wrap (0 - c0)) ≤ 4294967295) from (wrapU32 _)))

theorem alu_do_u32_13_any  (c0 : Int) (g0_ : Nat)  (w : World) (hb0_ : Blk w g0_ #[.int .u32 c0] 84) (_h_c0 : (0 ≤ c0 ∧ c0 ≤ 4294967295))  : Calls Try.prog 106 #[pt g0_ 0] w (RetV w (.int .u32 (alu_do_u32_13 c0))) := by
 have hs := alu_do_u32_13.eq_1 c0
 refine calls_of_CW Try.func106 rfl (n := 4) Try.ntmps106 (by kernel_rfl) [0] (F := [(0, pt g0_ 0)]) (by kernel_rfl) ?_
 have hg1 := hb0_.lt
 refine CW.seq fun K2 hK2 => ?_
 refine CW.region ?_
 refine WR.batch 1 [(0, pt g0_ 0)] (by kernel_rfl) ?_
 refine WR.fin (by kernel_rfl) ?_
 refine go hK2 ?_
 refine CW.seq fun K3 hK3 => ?_
 refine CW.region ?_
 refine WR.load (dst := some 2) (t := 84) (o := 0) hb0_ (by kernel_rfl) (.int .u32 c0) (by kernel_rfl) ?_
 refine WR.batch 2 [(1, .int .u32 (IntKind.u32.wrap (0 - c0)))] (by kernel_rfl) ?_
 refine WR.fin (by kernel_rfl) ?_
 refine go hK3 ?_
 refine CW.ret ?_
 exact retV (.int .u32 (IntKind.u32.wrap (0 - c0))) (by kernel_rfl) (⟨(Chg.refl _ _), (congrArg (fun r : Int => (.int .u32 r : Value)) hs).symm⟩)

def alu_do_u32 (a0 : Int) (a1 : Int) (a2 : Int) (a3 : Int)  : (Int × Int) := (if (((a0 == (4 : Int)) || (a0 == (5 : Int))) && (a3 == (0 : Int))) then ((0 : Int), (113 : Int)) else (if (a0 == (1 : Int)) then (letF (alu_do_u32_1 a2 a3) fun x179 => (x179, (0 : Int))) else (if (a0 == (2 : Int)) then (letF (alu_do_u32_2 a2 a3) fun x198 => (x198, (0 : Int))) else (if (a0 == (3 : Int)) then (letF (alu_do_u32_3 a2 a3) fun x217 => (x217, (0 : Int))) else (if (a0 == (4 : Int)) then (letF (alu_do_u32_4 a2 a3) fun x236 => (x236, (0 : Int))) else (if (a0 == (5 : Int)) then (letF (alu_do_u32_5 a2 a3) fun x255 => (x255, (0 : Int))) else (if (a0 == (6 : Int)) then (letF (alu_do_u32_6 a2 a3) fun x274 => (x274, (0 : Int))) else (if (a0 == (7 : Int)) then (letF (alu_do_u32_7 a2 a3) fun x293 => (x293, (0 : Int))) else (if (a0 == (8 : Int)) then (letF (alu_do_u32_8 a2 a3) fun x312 => (x312, (0 : Int))) else (if (a0 == (9 : Int)) then (letF (alu_do_u32_9 a2 a3 a1) fun x331 => (x331, (0 : Int))) else (if (a0 == (10 : Int)) then (letF (alu_do_u32_10 a2 a3 a1) fun x350 => (x350, (0 : Int))) else (if (a0 == (11 : Int)) then (letF (alu_do_u32_11 a2 a3 a1) fun x369 => (x369, (0 : Int))) else (if (a0 == (12 : Int)) then (letF (alu_do_u32_12 a3) fun x388 => (x388, (0 : Int))) else (if (a0 == (13 : Int)) then (letF (alu_do_u32_13 a2) fun x407 => (x407, (0 : Int))) else ((0 : Int), (2 : Int))))))))))))))))

theorem alu_do_u32_ok (a0 : Int) (a1 : Int) (a2 : Int) (a3 : Int)  (_h_a0 : (0 ≤ a0 ∧ a0 ≤ 255)) (_h_a1 : (0 ≤ a1 ∧ a1 ≤ 4294967295)) (_h_a2 : (0 ≤ a2 ∧ a2 ≤ 4294967295)) (_h_a3 : (0 ≤ a3 ∧ a3 ≤ 4294967295)) (_hb : a1 = 32) : (0 ≤ (alu_do_u32 a0 a1 a2 a3).1 ∧ (alu_do_u32 a0 a1 a2 a3).1 ≤ 4294967295) ∧ (-9223372036854775808 ≤ (alu_do_u32 a0 a1 a2 a3).2 ∧ (alu_do_u32 a0 a1 a2 a3).2 ≤ 9223372036854775807) := by
 rw [alu_do_u32.eq_1]
 refine iteR (p := fun r : (Int × Int) => (0 ≤ r.1 ∧ r.1 ≤ 4294967295) ∧ (-9223372036854775808 ≤ r.2 ∧ r.2 ≤ 9223372036854775807)) (fun hi1001 => ?_) (fun hi1001 => ?_)
 ·
  replace hi1001 : ((a0 = (4 : Int)) ∨ (a0 = (5 : Int))) ∧ (a3 = (0 : Int)) := ⟨(orMap (bOrT (bAndT hi1001).1) (fun h => (bEqT h)) (fun h => (bEqT h))), (bEqT (bAndT hi1001).2)⟩
  exact (by exact (show (0 ≤ (0 : Int) ∧ (0 : Int) ≤ 4294967295) ∧ (-9223372036854775808 ≤ (113 : Int) ∧ (113 : Int) ≤ 9223372036854775807) from ⟨(by omega), (by omega)⟩))
 replace hi1001 : ((a0 ≠ (4 : Int)) ∧ (a0 ≠ (5 : Int))) ∨ (a3 ≠ (0 : Int)) := (orMap (bAndF hi1001) (fun h => ⟨(bEqF (bOrF h).1), (bEqF (bOrF h).2)⟩) (fun h => (bEqF h)))
 refine iteR (p := fun r : (Int × Int) => (0 ≤ r.1 ∧ r.1 ≤ 4294967295) ∧ (-9223372036854775808 ≤ r.2 ∧ r.2 ≤ 9223372036854775807)) (fun hi1002 => ?_) (fun hi1002 => ?_)
 ·
  replace hi1002 : a0 = (1 : Int) := (bEqT hi1002)
  refine letR (p := fun r : (Int × Int) => (0 ≤ r.1 ∧ r.1 ≤ 4294967295) ∧ (-9223372036854775808 ≤ r.2 ∧ r.2 ≤ 9223372036854775807)) fun x179 hx180 => ?_
  have hx181 : (0 ≤ x179 ∧ x179 ≤ 4294967295) := by rw [← hx180]; exact alu_do_u32_1_ok a2 a3 (by omega) (by omega) 
  exact (by exact (show (0 ≤ x179 ∧ x179 ≤ 4294967295) ∧ (-9223372036854775808 ≤ (0 : Int) ∧ (0 : Int) ≤ 9223372036854775807) from ⟨(by omega), (by omega)⟩))
 replace hi1002 : a0 ≠ (1 : Int) := (bEqF hi1002)
 refine iteR (p := fun r : (Int × Int) => (0 ≤ r.1 ∧ r.1 ≤ 4294967295) ∧ (-9223372036854775808 ≤ r.2 ∧ r.2 ≤ 9223372036854775807)) (fun hi1003 => ?_) (fun hi1003 => ?_)
 ·
  replace hi1003 : a0 = (2 : Int) := (bEqT hi1003)
  refine letR (p := fun r : (Int × Int) => (0 ≤ r.1 ∧ r.1 ≤ 4294967295) ∧ (-9223372036854775808 ≤ r.2 ∧ r.2 ≤ 9223372036854775807)) fun x198 hx199 => ?_
  have hx200 : (0 ≤ x198 ∧ x198 ≤ 4294967295) := by rw [← hx199]; exact alu_do_u32_2_ok a2 a3 (by omega) (by omega) 
  exact (by exact (show (0 ≤ x198 ∧ x198 ≤ 4294967295) ∧ (-9223372036854775808 ≤ (0 : Int) ∧ (0 : Int) ≤ 9223372036854775807) from ⟨(by omega), (by omega)⟩))
 replace hi1003 : a0 ≠ (2 : Int) := (bEqF hi1003)
 refine iteR (p := fun r : (Int × Int) => (0 ≤ r.1 ∧ r.1 ≤ 4294967295) ∧ (-9223372036854775808 ≤ r.2 ∧ r.2 ≤ 9223372036854775807)) (fun hi1004 => ?_) (fun hi1004 => ?_)
 ·
  replace hi1004 : a0 = (3 : Int) := (bEqT hi1004)
  refine letR (p := fun r : (Int × Int) => (0 ≤ r.1 ∧ r.1 ≤ 4294967295) ∧ (-9223372036854775808 ≤ r.2 ∧ r.2 ≤ 9223372036854775807)) fun x217 hx218 => ?_
  have hx219 : (0 ≤ x217 ∧ x217 ≤ 4294967295) := by rw [← hx218]; exact alu_do_u32_3_ok a2 a3 (by omega) (by omega) 
  exact (by exact (show (0 ≤ x217 ∧ x217 ≤ 4294967295) ∧ (-9223372036854775808 ≤ (0 : Int) ∧ (0 : Int) ≤ 9223372036854775807) from ⟨(by omega), (by omega)⟩))
 replace hi1004 : a0 ≠ (3 : Int) := (bEqF hi1004)
 refine iteR (p := fun r : (Int × Int) => (0 ≤ r.1 ∧ r.1 ≤ 4294967295) ∧ (-9223372036854775808 ≤ r.2 ∧ r.2 ≤ 9223372036854775807)) (fun hi1005 => ?_) (fun hi1005 => ?_)
 ·
  replace hi1005 : a0 = (4 : Int) := (bEqT hi1005)
  refine letR (p := fun r : (Int × Int) => (0 ≤ r.1 ∧ r.1 ≤ 4294967295) ∧ (-9223372036854775808 ≤ r.2 ∧ r.2 ≤ 9223372036854775807)) fun x236 hx237 => ?_
  have hx238 : (0 ≤ x236 ∧ x236 ≤ 4294967295) := by rw [← hx237]; exact alu_do_u32_4_ok a2 a3 (by omega) (by omega) (by omega)
  exact (by exact (show (0 ≤ x236 ∧ x236 ≤ 4294967295) ∧ (-9223372036854775808 ≤ (0 : Int) ∧ (0 : Int) ≤ 9223372036854775807) from ⟨(by omega), (by omega)⟩))
 replace hi1005 : a0 ≠ (4 : Int) := (bEqF hi1005)
 refine iteR (p := fun r : (Int × Int) => (0 ≤ r.1 ∧ r.1 ≤ 4294967295) ∧ (-9223372036854775808 ≤ r.2 ∧ r.2 ≤ 9223372036854775807)) (fun hi1006 => ?_) (fun hi1006 => ?_)
 ·
  replace hi1006 : a0 = (5 : Int) := (bEqT hi1006)
  refine letR (p := fun r : (Int × Int) => (0 ≤ r.1 ∧ r.1 ≤ 4294967295) ∧ (-9223372036854775808 ≤ r.2 ∧ r.2 ≤ 9223372036854775807)) fun x255 hx256 => ?_
  have hx257 : (0 ≤ x255 ∧ x255 ≤ 4294967295) := by rw [← hx256]; exact alu_do_u32_5_ok a2 a3 (by omega) (by omega) (by omega)
  exact (by exact (show (0 ≤ x255 ∧ x255 ≤ 4294967295) ∧ (-9223372036854775808 ≤ (0 : Int) ∧ (0 : Int) ≤ 9223372036854775807) from ⟨(by omega), (by omega)⟩))
 replace hi1006 : a0 ≠ (5 : Int) := (bEqF hi1006)
 refine iteR (p := fun r : (Int × Int) => (0 ≤ r.1 ∧ r.1 ≤ 4294967295) ∧ (-9223372036854775808 ≤ r.2 ∧ r.2 ≤ 9223372036854775807)) (fun hi1007 => ?_) (fun hi1007 => ?_)
 ·
  replace hi1007 : a0 = (6 : Int) := (bEqT hi1007)
  refine letR (p := fun r : (Int × Int) => (0 ≤ r.1 ∧ r.1 ≤ 4294967295) ∧ (-9223372036854775808 ≤ r.2 ∧ r.2 ≤ 9223372036854775807)) fun x274 hx275 => ?_
  have hx276 : (0 ≤ x274 ∧ x274 ≤ 4294967295) := by rw [← hx275]; exact alu_do_u32_6_ok a2 a3 (by omega) (by omega) 
  exact (by exact (show (0 ≤ x274 ∧ x274 ≤ 4294967295) ∧ (-9223372036854775808 ≤ (0 : Int) ∧ (0 : Int) ≤ 9223372036854775807) from ⟨(by omega), (by omega)⟩))
 replace hi1007 : a0 ≠ (6 : Int) := (bEqF hi1007)
 refine iteR (p := fun r : (Int × Int) => (0 ≤ r.1 ∧ r.1 ≤ 4294967295) ∧ (-9223372036854775808 ≤ r.2 ∧ r.2 ≤ 9223372036854775807)) (fun hi1008 => ?_) (fun hi1008 => ?_)
 ·
  replace hi1008 : a0 = (7 : Int) := (bEqT hi1008)
  refine letR (p := fun r : (Int × Int) => (0 ≤ r.1 ∧ r.1 ≤ 4294967295) ∧ (-9223372036854775808 ≤ r.2 ∧ r.2 ≤ 9223372036854775807)) fun x293 hx294 => ?_
  have hx295 : (0 ≤ x293 ∧ x293 ≤ 4294967295) := by rw [← hx294]; exact alu_do_u32_7_ok a2 a3 (by omega) (by omega) 
  exact (by exact (show (0 ≤ x293 ∧ x293 ≤ 4294967295) ∧ (-9223372036854775808 ≤ (0 : Int) ∧ (0 : Int) ≤ 9223372036854775807) from ⟨(by omega), (by omega)⟩))
 replace hi1008 : a0 ≠ (7 : Int) := (bEqF hi1008)
 refine iteR (p := fun r : (Int × Int) => (0 ≤ r.1 ∧ r.1 ≤ 4294967295) ∧ (-9223372036854775808 ≤ r.2 ∧ r.2 ≤ 9223372036854775807)) (fun hi1009 => ?_) (fun hi1009 => ?_)
 ·
  replace hi1009 : a0 = (8 : Int) := (bEqT hi1009)
  refine letR (p := fun r : (Int × Int) => (0 ≤ r.1 ∧ r.1 ≤ 4294967295) ∧ (-9223372036854775808 ≤ r.2 ∧ r.2 ≤ 9223372036854775807)) fun x312 hx313 => ?_
  have hx314 : (0 ≤ x312 ∧ x312 ≤ 4294967295) := by rw [← hx313]; exact alu_do_u32_8_ok a2 a3 (by omega) (by omega) 
  exact (by exact (show (0 ≤ x312 ∧ x312 ≤ 4294967295) ∧ (-9223372036854775808 ≤ (0 : Int) ∧ (0 : Int) ≤ 9223372036854775807) from ⟨(by omega), (by omega)⟩))
 replace hi1009 : a0 ≠ (8 : Int) := (bEqF hi1009)
 refine iteR (p := fun r : (Int × Int) => (0 ≤ r.1 ∧ r.1 ≤ 4294967295) ∧ (-9223372036854775808 ≤ r.2 ∧ r.2 ≤ 9223372036854775807)) (fun hi1010 => ?_) (fun hi1010 => ?_)
 ·
  replace hi1010 : a0 = (9 : Int) := (bEqT hi1010)
  refine letR (p := fun r : (Int × Int) => (0 ≤ r.1 ∧ r.1 ≤ 4294967295) ∧ (-9223372036854775808 ≤ r.2 ∧ r.2 ≤ 9223372036854775807)) fun x331 hx332 => ?_
  have hx333 : (0 ≤ x331 ∧ x331 ≤ 4294967295) := by rw [← hx332]; exact alu_do_u32_9_ok a2 a3 a1 (by omega) (by omega) (by omega) (by omega)
  exact (by exact (show (0 ≤ x331 ∧ x331 ≤ 4294967295) ∧ (-9223372036854775808 ≤ (0 : Int) ∧ (0 : Int) ≤ 9223372036854775807) from ⟨(by omega), (by omega)⟩))
 replace hi1010 : a0 ≠ (9 : Int) := (bEqF hi1010)
 refine iteR (p := fun r : (Int × Int) => (0 ≤ r.1 ∧ r.1 ≤ 4294967295) ∧ (-9223372036854775808 ≤ r.2 ∧ r.2 ≤ 9223372036854775807)) (fun hi1011 => ?_) (fun hi1011 => ?_)
 ·
  replace hi1011 : a0 = (10 : Int) := (bEqT hi1011)
  refine letR (p := fun r : (Int × Int) => (0 ≤ r.1 ∧ r.1 ≤ 4294967295) ∧ (-9223372036854775808 ≤ r.2 ∧ r.2 ≤ 9223372036854775807)) fun x350 hx351 => ?_
  have hx352 : (0 ≤ x350 ∧ x350 ≤ 4294967295) := by rw [← hx351]; exact alu_do_u32_10_ok a2 a3 a1 (by omega) (by omega) (by omega) (by omega)
  exact (by exact (show (0 ≤ x350 ∧ x350 ≤ 4294967295) ∧ (-9223372036854775808 ≤ (0 : Int) ∧ (0 : Int) ≤ 9223372036854775807) from ⟨(by omega), (by omega)⟩))
 replace hi1011 : a0 ≠ (10 : Int) := (bEqF hi1011)
 refine iteR (p := fun r : (Int × Int) => (0 ≤ r.1 ∧ r.1 ≤ 4294967295) ∧ (-9223372036854775808 ≤ r.2 ∧ r.2 ≤ 9223372036854775807)) (fun hi1012 => ?_) (fun hi1012 => ?_)
 ·
  replace hi1012 : a0 = (11 : Int) := (bEqT hi1012)
  refine letR (p := fun r : (Int × Int) => (0 ≤ r.1 ∧ r.1 ≤ 4294967295) ∧ (-9223372036854775808 ≤ r.2 ∧ r.2 ≤ 9223372036854775807)) fun x369 hx370 => ?_
  have hx371 : (0 ≤ x369 ∧ x369 ≤ 4294967295) := by rw [← hx370]; exact alu_do_u32_11_ok a2 a3 a1 (by omega) (by omega) (by omega) (by omega)
  exact (by exact (show (0 ≤ x369 ∧ x369 ≤ 4294967295) ∧ (-9223372036854775808 ≤ (0 : Int) ∧ (0 : Int) ≤ 9223372036854775807) from ⟨(by omega), (by omega)⟩))
 replace hi1012 : a0 ≠ (11 : Int) := (bEqF hi1012)
 refine iteR (p := fun r : (Int × Int) => (0 ≤ r.1 ∧ r.1 ≤ 4294967295) ∧ (-9223372036854775808 ≤ r.2 ∧ r.2 ≤ 9223372036854775807)) (fun hi1013 => ?_) (fun hi1013 => ?_)
 ·
  replace hi1013 : a0 = (12 : Int) := (bEqT hi1013)
  refine letR (p := fun r : (Int × Int) => (0 ≤ r.1 ∧ r.1 ≤ 4294967295) ∧ (-9223372036854775808 ≤ r.2 ∧ r.2 ≤ 9223372036854775807)) fun x388 hx389 => ?_
  have hx390 : (0 ≤ x388 ∧ x388 ≤ 4294967295) := by rw [← hx389]; exact alu_do_u32_12_ok a3 (by omega) 
  exact (by exact (show (0 ≤ x388 ∧ x388 ≤ 4294967295) ∧ (-9223372036854775808 ≤ (0 : Int) ∧ (0 : Int) ≤ 9223372036854775807) from ⟨(by omega), (by omega)⟩))
 replace hi1013 : a0 ≠ (12 : Int) := (bEqF hi1013)
 refine iteR (p := fun r : (Int × Int) => (0 ≤ r.1 ∧ r.1 ≤ 4294967295) ∧ (-9223372036854775808 ≤ r.2 ∧ r.2 ≤ 9223372036854775807)) (fun hi1014 => ?_) (fun hi1014 => ?_)
 ·
  replace hi1014 : a0 = (13 : Int) := (bEqT hi1014)
  refine letR (p := fun r : (Int × Int) => (0 ≤ r.1 ∧ r.1 ≤ 4294967295) ∧ (-9223372036854775808 ≤ r.2 ∧ r.2 ≤ 9223372036854775807)) fun x407 hx408 => ?_
  have hx409 : (0 ≤ x407 ∧ x407 ≤ 4294967295) := by rw [← hx408]; exact alu_do_u32_13_ok a2 (by omega) 
  exact (by exact (show (0 ≤ x407 ∧ x407 ≤ 4294967295) ∧ (-9223372036854775808 ≤ (0 : Int) ∧ (0 : Int) ≤ 9223372036854775807) from ⟨(by omega), (by omega)⟩))
 replace hi1014 : a0 ≠ (13 : Int) := (bEqF hi1014)
 exact (by exact (show (0 ≤ (0 : Int) ∧ (0 : Int) ≤ 4294967295) ∧ (-9223372036854775808 ≤ (2 : Int) ∧ (2 : Int) ≤ 9223372036854775807) from ⟨(by omega), (by omega)⟩))

set_option maxHeartbeats 4000000 in
theorem alu_do_u32_any (a0 : Int) (a1 : Int) (a2 : Int) (a3 : Int)   (w : World)  (_h_a0 : (0 ≤ a0 ∧ a0 ≤ 255)) (_h_a1 : (0 ≤ a1 ∧ a1 ≤ 4294967295)) (_h_a2 : (0 ≤ a2 ∧ a2 ≤ 4294967295)) (_h_a3 : (0 ≤ a3 ∧ a3 ≤ 4294967295)) (_hb : a1 = 32) : Calls Try.prog 59 #[.int .u8 a0, .int .u32 a1, .int .u32 a2, .int .u32 a3] w (RetV w (.tuple #[.int .u32 (alu_do_u32 a0 a1 a2 a3).1, .int .i64 (alu_do_u32 a0 a1 a2 a3).2])) := by
 have hs := alu_do_u32.eq_1 a0 a1 a2 a3
 refine calls_of_CW Try.func59 rfl (n := 46) Try.ntmps59 (by kernel_rfl) [0, 1, 2, 3] (F := [(0, .int .u8 a0), (1, .int .u32 a1), (2, .int .u32 a2), (3, .int .u32 a3)]) (by kernel_rfl) ?_
 refine CW.seq fun K1 hK1 => ?_
 refine CW.region ?_
 refine WR.box (dst := some 5) (e := 84) (v := .int .u32 a1) (by kernel_rfl) #[.int .u32 a1] (by kernel_rfl) ?_
 intro g2 w3 hN4
 have hf6 : w.heap.size ≤ g2 := hN4.fresh
 have hfr8 := hN4.fresh
 have hc7 := hN4.chg
 have hz10 := hc7.size
 have hC9 := (Chg.refl [] w).pure hc7
 have hb5 := hN4.blk
 have hg11 := hb5.lt
 refine WR.box (dst := some 6) (e := 84) (v := .int .u32 a2) (by kernel_rfl) #[.int .u32 a2] (by kernel_rfl) ?_
 intro g12 w13 hN14
 have hl17 : g2 < g12 := Nat.lt_of_lt_of_le hb5.lt hN14.fresh
 have hf16 : w.heap.size ≤ g12 := Nat.le_trans hC9.size hN14.fresh
 have hfr19 := hN14.fresh
 have hc18 := hN14.chg
 have hz21 := hc18.size
 have hC20 := hC9.pure hc18
 have hb22 := hb5.pure hc18
 have hb15 := hN14.blk
 have hg23 := hb15.lt
 refine WR.box (dst := some 7) (e := 84) (v := .int .u32 a3) (by kernel_rfl) #[.int .u32 a3] (by kernel_rfl) ?_
 intro g24 w25 hN26
 have hl29 : g2 < g24 := Nat.lt_of_lt_of_le hb22.lt hN26.fresh
 have hl30 : g12 < g24 := Nat.lt_of_lt_of_le hb15.lt hN26.fresh
 have hf28 : w.heap.size ≤ g24 := Nat.le_trans hC20.size hN26.fresh
 have hfr32 := hN26.fresh
 have hc31 := hN26.chg
 have hz34 := hc31.size
 have hC33 := hC20.pure hc31
 have hb35 := hb22.pure hc31
 have hb36 := hb15.pure hc31
 have hb27 := hN26.blk
 have hg37 := hb27.lt
 refine WR.batch 2 [(0, .int .u8 a0), (5, pt g2 0), (6, pt g12 0), (7, pt g24 0)] (by kernel_rfl) ?_
 refine WR.fin (by kernel_rfl) ?_
 refine go hK1 ?_
 refine CW.seq fun K38 hK38 => ?_
 refine CW.seq fun K39 hK39 => ?_
 refine CW.region ?_
 refine WR.batch 3 [(0, .int .u8 a0), (5, pt g2 0), (6, pt g12 0), (7, pt g24 0), (14, .bool (a0 == (4 : Int)))] (by kernel_rfl) ?_
 refine WR.batch 3 [(0, .int .u8 a0), (5, pt g2 0), (6, pt g12 0), (7, pt g24 0), (17, .bool ((a0 == (4 : Int)) || (a0 == (5 : Int))))] (by generalize (a0 == (4 : Int)) = b; cases b <;> kernel_rfl) ?_
 refine WR.batch 1 [(0, .int .u8 a0), (5, pt g2 0), (6, pt g12 0), (7, pt g24 0), (18, .bool ((a0 == (4 : Int)) || (a0 == (5 : Int))))] (by kernel_rfl) ?_
 refine WR.mergeW 10 [(0, .int .u8 a0), (5, pt g2 0), (6, pt g12 0), (7, pt g24 0), (21, .bool (((a0 == (4 : Int)) || (a0 == (5 : Int))) && (a3 == (0 : Int))))] (fun w' => Chg [] w25 w') (fun Q' => ?_) ?_
 ·
  cases hg40 : ((a0 == (4 : Int)) || (a0 == (5 : Int)))
  ·
   replace hg40 : (a0 ≠ (4 : Int)) ∧ (a0 ≠ (5 : Int)) := ⟨(bEqF (bOrF hg40).1), (bEqF (bOrF hg40).2)⟩
   intro hM41
   refine WR.batch 3 [(0, .int .u8 a0), (5, pt g2 0), (6, pt g12 0), (7, pt g24 0), (21, .bool false)] (by kernel_rfl) ?_
   exact WR.keep [0, 5, 6, 7, 21] (by kernel_rfl) (hM41 _ (Chg.refl [] w25))
  ·
   replace hg40 : (a0 = (4 : Int)) ∨ (a0 = (5 : Int)) := (orMap (bOrT hg40) (fun h => (bEqT h)) (fun h => (bEqT h)))
   intro hM41
   refine WR.load (dst := some 19) (t := 84) (o := 0) hb27 (by kernel_rfl) (.int .u32 a3) (by kernel_rfl) ?_
   refine WR.batch 2 [(0, .int .u8 a0), (5, pt g2 0), (6, pt g12 0), (7, pt g24 0), (21, .bool (a3 == (0 : Int)))] (by kernel_rfl) ?_
   exact WR.keep [0, 5, 6, 7, 21] (by kernel_rfl) (hM41 _ (Chg.refl [] w25))
 intro w42 hc43
 have hz45 := hc43.size
 have hC44 := hC33.pure hc43
 have hb46 := hb35.pure hc43
 have hb47 := hb36.pure hc43
 have hb48 := hb27.pure hc43
 refine WR.fin (by kernel_rfl) ?_
 refine go hK39 ?_
 refine CW.cond ((((a0 == (4 : Int)) || (a0 == (5 : Int))) && (a3 == (0 : Int)))) (by kernel_rfl) (fun ht49 => ?_) (fun ht49 => ?_)
 ·
  have hs50 := ifT ht49 hs
  replace ht49 : ((a0 = (4 : Int)) ∨ (a0 = (5 : Int))) ∧ (a3 = (0 : Int)) := ⟨(orMap (bOrT (bAndT ht49).1) (fun h => (bEqT h)) (fun h => (bEqT h))), (bEqT (bAndT ht49).2)⟩
  refine CW.seq fun K51 hK51 => ?_
  refine CW.region ?_
  refine WR.batch 2 [(8, .int .u32 0), (9, .int .i64 113)] (by kernel_rfl) ?_
  refine WR.fin (by kernel_rfl) ?_
  refine go hK51 ?_
  refine CW.ret ?_
  exact retV (.tuple #[.int .u32 0, .int .i64 113]) (by kernel_rfl) (⟨hC44, (congrArg (fun r : (Int × Int) => (.tuple #[.int .u32 r.1, .int .i64 r.2] : Value)) hs50).symm⟩)
 have hs52 := ifF ht49 hs
 replace ht49 : ((a0 ≠ (4 : Int)) ∧ (a0 ≠ (5 : Int))) ∨ (a3 ≠ (0 : Int)) := (orMap (bAndF ht49) (fun h => ⟨(bEqF (bOrF h).1), (bEqF (bOrF h).2)⟩) (fun h => (bEqF h)))
 refine CW.skip ?_
 refine go hK38 ?_
 refine CW.seq fun K53 hK53 => ?_
 refine CW.region ?_
 refine WR.mkMap (dst := some 23) (t := 108) (by kernel_rfl) ?_
 intro g54 w55 hN56
 have hl59 : g2 < g54 := Nat.lt_of_lt_of_le hb46.lt hN56.fresh
 have hl60 : g12 < g54 := Nat.lt_of_lt_of_le hb47.lt hN56.fresh
 have hl61 : g24 < g54 := Nat.lt_of_lt_of_le hb48.lt hN56.fresh
 have hf58 : w.heap.size ≤ g54 := Nat.le_trans hC44.size hN56.fresh
 have hfr63 := hN56.fresh
 have hc62 := hN56.chg
 have hz65 := hc62.size
 have hC64 := hC44.pure hc62
 have hb66 := hb46.pure hc62
 have hb67 := hb47.pure hc62
 have hb68 := hb48.pure hc62
 have hb57 := hN56.blk
 have hg69 := hb57.lt
 refine WR.batch 1 [(0, .int .u8 a0), (5, pt g2 0), (6, pt g12 0), (7, pt g24 0), (23, .map (some g54)), (24, .func (.func 94) #[] #[pt g12 0, pt g24 0])] (by kernel_rfl) ?_
 refine WR.insert (t := 108) (kt := 22) (et := 106) (d := .int .u8) (x := .int .u8 1) (v := .func (.func 94) #[] #[pt g12 0, pt g24 0]) hb57 (by kernel_rfl) (by kernel_rfl) rfl (by kernel_rfl) #[({ key := .int .u8 1, val := .func (.func 94) #[] #[pt g12 0, pt g24 0], born := 0 } : MapEntry)] (by kernel_rfl) ?_
 intro w70 hb71 hc72
 have hz74 := hc72.size
 have hC73 := hC64.step1 hc72 (by omega)
 have hb75 := hb66.chg1 hc72 (by omega)
 have hb76 := hb67.chg1 hc72 (by omega)
 have hb77 := hb68.chg1 hc72 (by omega)
 refine WR.batch 1 [(0, .int .u8 a0), (5, pt g2 0), (6, pt g12 0), (7, pt g24 0), (23, .map (some g54)), (25, .func (.func 95) #[] #[pt g12 0, pt g24 0])] (by kernel_rfl) ?_
 refine WR.insert (t := 108) (kt := 22) (et := 106) (d := .int .u8) (x := .int .u8 2) (v := .func (.func 95) #[] #[pt g12 0, pt g24 0]) hb71 (by kernel_rfl) (by kernel_rfl) rfl (by kernel_rfl) #[({ key := .int .u8 1, val := .func (.func 94) #[] #[pt g12 0, pt g24 0], born := 0 } : MapEntry), ({ key := .int .u8 2, val := .func (.func 95) #[] #[pt g12 0, pt g24 0], born := 1 } : MapEntry)] (by kernel_rfl) ?_
 intro w78 hb79 hc80
 have hz82 := hc80.size
 have hC81 := hC73.step1 hc80 (by omega)
 have hb83 := hb75.chg1 hc80 (by omega)
 have hb84 := hb76.chg1 hc80 (by omega)
 have hb85 := hb77.chg1 hc80 (by omega)
 refine WR.batch 1 [(0, .int .u8 a0), (5, pt g2 0), (6, pt g12 0), (7, pt g24 0), (23, .map (some g54)), (26, .func (.func 96) #[] #[pt g12 0, pt g24 0])] (by kernel_rfl) ?_
 refine WR.insert (t := 108) (kt := 22) (et := 106) (d := .int .u8) (x := .int .u8 3) (v := .func (.func 96) #[] #[pt g12 0, pt g24 0]) hb79 (by kernel_rfl) (by kernel_rfl) rfl (by kernel_rfl) #[({ key := .int .u8 1, val := .func (.func 94) #[] #[pt g12 0, pt g24 0], born := 0 } : MapEntry), ({ key := .int .u8 2, val := .func (.func 95) #[] #[pt g12 0, pt g24 0], born := 1 } : MapEntry), ({ key := .int .u8 3, val := .func (.func 96) #[] #[pt g12 0, pt g24 0], born := 2 } : MapEntry)] (by kernel_rfl) ?_
 intro w86 hb87 hc88
 have hz90 := hc88.size
 have hC89 := hC81.step1 hc88 (by omega)
 have hb91 := hb83.chg1 hc88 (by omega)
 have hb92 := hb84.chg1 hc88 (by omega)
 have hb93 := hb85.chg1 hc88 (by omega)
 refine WR.batch 1 [(0, .int .u8 a0), (5, pt g2 0), (6, pt g12 0), (7, pt g24 0), (23, .map (some g54)), (27, .func (.func 97) #[] #[pt g12 0, pt g24 0])] (by kernel_rfl) ?_
 refine WR.insert (t := 108) (kt := 22) (et := 106) (d := .int .u8) (x := .int .u8 4) (v := .func (.func 97) #[] #[pt g12 0, pt g24 0]) hb87 (by kernel_rfl) (by kernel_rfl) rfl (by kernel_rfl) #[({ key := .int .u8 1, val := .func (.func 94) #[] #[pt g12 0, pt g24 0], born := 0 } : MapEntry), ({ key := .int .u8 2, val := .func (.func 95) #[] #[pt g12 0, pt g24 0], born := 1 } : MapEntry), ({ key := .int .u8 3, val := .func (.func 96) #[] #[pt g12 0, pt g24 0], born := 2 } : MapEntry), ({ key := .int .u8 4, val := .func (.func 97) #[] #[pt g12 0, pt g24 0], born := 3 } : MapEntry)] (by kernel_rfl) ?_
 intro w94 hb95 hc96
 have hz98 := hc96.size
 have hC97 := hC89.step1 hc96 (by omega)
 have hb99 := hb91.chg1 hc96 (by omega)
 have hb100 := hb92.chg1 hc96 (by omega)
 have hb101 := hb93.chg1 hc96 (by omega)
 refine WR.batch 1 [(0, .int .u8 a0), (5, pt g2 0), (6, pt g12 0), (7, pt g24 0), (23, .map (some g54)), (28, .func (.func 98) #[] #[pt g12 0, pt g24 0])] (by kernel_rfl) ?_
 refine WR.insert (t := 108) (kt := 22) (et := 106) (d := .int .u8) (x := .int .u8 5) (v := .func (.func 98) #[] #[pt g12 0, pt g24 0]) hb95 (by kernel_rfl) (by kernel_rfl) rfl (by kernel_rfl) #[({ key := .int .u8 1, val := .func (.func 94) #[] #[pt g12 0, pt g24 0], born := 0 } : MapEntry), ({ key := .int .u8 2, val := .func (.func 95) #[] #[pt g12 0, pt g24 0], born := 1 } : MapEntry), ({ key := .int .u8 3, val := .func (.func 96) #[] #[pt g12 0, pt g24 0], born := 2 } : MapEntry), ({ key := .int .u8 4, val := .func (.func 97) #[] #[pt g12 0, pt g24 0], born := 3 } : MapEntry), ({ key := .int .u8 5, val := .func (.func 98) #[] #[pt g12 0, pt g24 0], born := 4 } : MapEntry)] (by kernel_rfl) ?_
 intro w102 hb103 hc104
 have hz106 := hc104.size
 have hC105 := hC97.step1 hc104 (by omega)
 have hb107 := hb99.chg1 hc104 (by omega)
 have hb108 := hb100.chg1 hc104 (by omega)
 have hb109 := hb101.chg1 hc104 (by omega)
 refine WR.batch 1 [(0, .int .u8 a0), (5, pt g2 0), (6, pt g12 0), (7, pt g24 0), (23, .map (some g54)), (29, .func (.func 99) #[] #[pt g12 0, pt g24 0])] (by kernel_rfl) ?_
 refine WR.insert (t := 108) (kt := 22) (et := 106) (d := .int .u8) (x := .int .u8 6) (v := .func (.func 99) #[] #[pt g12 0, pt g24 0]) hb103 (by kernel_rfl) (by kernel_rfl) rfl (by kernel_rfl) #[({ key := .int .u8 1, val := .func (.func 94) #[] #[pt g12 0, pt g24 0], born := 0 } : MapEntry), ({ key := .int .u8 2, val := .func (.func 95) #[] #[pt g12 0, pt g24 0], born := 1 } : MapEntry), ({ key := .int .u8 3, val := .func (.func 96) #[] #[pt g12 0, pt g24 0], born := 2 } : MapEntry), ({ key := .int .u8 4, val := .func (.func 97) #[] #[pt g12 0, pt g24 0], born := 3 } : MapEntry), ({ key := .int .u8 5, val := .func (.func 98) #[] #[pt g12 0, pt g24 0], born := 4 } : MapEntry), ({ key := .int .u8 6, val := .func (.func 99) #[] #[pt g12 0, pt g24 0], born := 5 } : MapEntry)] (by kernel_rfl) ?_
 intro w110 hb111 hc112
 have hz114 := hc112.size
 have hC113 := hC105.step1 hc112 (by omega)
 have hb115 := hb107.chg1 hc112 (by omega)
 have hb116 := hb108.chg1 hc112 (by omega)
 have hb117 := hb109.chg1 hc112 (by omega)
 refine WR.batch 1 [(0, .int .u8 a0), (5, pt g2 0), (6, pt g12 0), (7, pt g24 0), (23, .map (some g54)), (30, .func (.func 100) #[] #[pt g12 0, pt g24 0])] (by kernel_rfl) ?_
 refine WR.insert (t := 108) (kt := 22) (et := 106) (d := .int .u8) (x := .int .u8 7) (v := .func (.func 100) #[] #[pt g12 0, pt g24 0]) hb111 (by kernel_rfl) (by kernel_rfl) rfl (by kernel_rfl) #[({ key := .int .u8 1, val := .func (.func 94) #[] #[pt g12 0, pt g24 0], born := 0 } : MapEntry), ({ key := .int .u8 2, val := .func (.func 95) #[] #[pt g12 0, pt g24 0], born := 1 } : MapEntry), ({ key := .int .u8 3, val := .func (.func 96) #[] #[pt g12 0, pt g24 0], born := 2 } : MapEntry), ({ key := .int .u8 4, val := .func (.func 97) #[] #[pt g12 0, pt g24 0], born := 3 } : MapEntry), ({ key := .int .u8 5, val := .func (.func 98) #[] #[pt g12 0, pt g24 0], born := 4 } : MapEntry), ({ key := .int .u8 6, val := .func (.func 99) #[] #[pt g12 0, pt g24 0], born := 5 } : MapEntry), ({ key := .int .u8 7, val := .func (.func 100) #[] #[pt g12 0, pt g24 0], born := 6 } : MapEntry)] (by kernel_rfl) ?_
 intro w118 hb119 hc120
 have hz122 := hc120.size
 have hC121 := hC113.step1 hc120 (by omega)
 have hb123 := hb115.chg1 hc120 (by omega)
 have hb124 := hb116.chg1 hc120 (by omega)
 have hb125 := hb117.chg1 hc120 (by omega)
 refine WR.batch 1 [(0, .int .u8 a0), (5, pt g2 0), (6, pt g12 0), (7, pt g24 0), (23, .map (some g54)), (31, .func (.func 101) #[] #[pt g12 0, pt g24 0])] (by kernel_rfl) ?_
 refine WR.insert (t := 108) (kt := 22) (et := 106) (d := .int .u8) (x := .int .u8 8) (v := .func (.func 101) #[] #[pt g12 0, pt g24 0]) hb119 (by kernel_rfl) (by kernel_rfl) rfl (by kernel_rfl) #[({ key := .int .u8 1, val := .func (.func 94) #[] #[pt g12 0, pt g24 0], born := 0 } : MapEntry), ({ key := .int .u8 2, val := .func (.func 95) #[] #[pt g12 0, pt g24 0], born := 1 } : MapEntry), ({ key := .int .u8 3, val := .func (.func 96) #[] #[pt g12 0, pt g24 0], born := 2 } : MapEntry), ({ key := .int .u8 4, val := .func (.func 97) #[] #[pt g12 0, pt g24 0], born := 3 } : MapEntry), ({ key := .int .u8 5, val := .func (.func 98) #[] #[pt g12 0, pt g24 0], born := 4 } : MapEntry), ({ key := .int .u8 6, val := .func (.func 99) #[] #[pt g12 0, pt g24 0], born := 5 } : MapEntry), ({ key := .int .u8 7, val := .func (.func 100) #[] #[pt g12 0, pt g24 0], born := 6 } : MapEntry), ({ key := .int .u8 8, val := .func (.func 101) #[] #[pt g12 0, pt g24 0], born := 7 } : MapEntry)] (by kernel_rfl) ?_
 intro w126 hb127 hc128
 have hz130 := hc128.size
 have hC129 := hC121.step1 hc128 (by omega)
 have hb131 := hb123.chg1 hc128 (by omega)
 have hb132 := hb124.chg1 hc128 (by omega)
 have hb133 := hb125.chg1 hc128 (by omega)
 refine WR.batch 1 [(0, .int .u8 a0), (5, pt g2 0), (6, pt g12 0), (7, pt g24 0), (23, .map (some g54)), (32, .func (.func 102) #[] #[pt g12 0, pt g24 0, pt g2 0])] (by kernel_rfl) ?_
 refine WR.insert (t := 108) (kt := 22) (et := 106) (d := .int .u8) (x := .int .u8 9) (v := .func (.func 102) #[] #[pt g12 0, pt g24 0, pt g2 0]) hb127 (by kernel_rfl) (by kernel_rfl) rfl (by kernel_rfl) #[({ key := .int .u8 1, val := .func (.func 94) #[] #[pt g12 0, pt g24 0], born := 0 } : MapEntry), ({ key := .int .u8 2, val := .func (.func 95) #[] #[pt g12 0, pt g24 0], born := 1 } : MapEntry), ({ key := .int .u8 3, val := .func (.func 96) #[] #[pt g12 0, pt g24 0], born := 2 } : MapEntry), ({ key := .int .u8 4, val := .func (.func 97) #[] #[pt g12 0, pt g24 0], born := 3 } : MapEntry), ({ key := .int .u8 5, val := .func (.func 98) #[] #[pt g12 0, pt g24 0], born := 4 } : MapEntry), ({ key := .int .u8 6, val := .func (.func 99) #[] #[pt g12 0, pt g24 0], born := 5 } : MapEntry), ({ key := .int .u8 7, val := .func (.func 100) #[] #[pt g12 0, pt g24 0], born := 6 } : MapEntry), ({ key := .int .u8 8, val := .func (.func 101) #[] #[pt g12 0, pt g24 0], born := 7 } : MapEntry), ({ key := .int .u8 9, val := .func (.func 102) #[] #[pt g12 0, pt g24 0, pt g2 0], born := 8 } : MapEntry)] (by kernel_rfl) ?_
 intro w134 hb135 hc136
 have hz138 := hc136.size
 have hC137 := hC129.step1 hc136 (by omega)
 have hb139 := hb131.chg1 hc136 (by omega)
 have hb140 := hb132.chg1 hc136 (by omega)
 have hb141 := hb133.chg1 hc136 (by omega)
 refine WR.batch 1 [(0, .int .u8 a0), (5, pt g2 0), (6, pt g12 0), (7, pt g24 0), (23, .map (some g54)), (33, .func (.func 103) #[] #[pt g12 0, pt g24 0, pt g2 0])] (by kernel_rfl) ?_
 refine WR.insert (t := 108) (kt := 22) (et := 106) (d := .int .u8) (x := .int .u8 10) (v := .func (.func 103) #[] #[pt g12 0, pt g24 0, pt g2 0]) hb135 (by kernel_rfl) (by kernel_rfl) rfl (by kernel_rfl) #[({ key := .int .u8 1, val := .func (.func 94) #[] #[pt g12 0, pt g24 0], born := 0 } : MapEntry), ({ key := .int .u8 2, val := .func (.func 95) #[] #[pt g12 0, pt g24 0], born := 1 } : MapEntry), ({ key := .int .u8 3, val := .func (.func 96) #[] #[pt g12 0, pt g24 0], born := 2 } : MapEntry), ({ key := .int .u8 4, val := .func (.func 97) #[] #[pt g12 0, pt g24 0], born := 3 } : MapEntry), ({ key := .int .u8 5, val := .func (.func 98) #[] #[pt g12 0, pt g24 0], born := 4 } : MapEntry), ({ key := .int .u8 6, val := .func (.func 99) #[] #[pt g12 0, pt g24 0], born := 5 } : MapEntry), ({ key := .int .u8 7, val := .func (.func 100) #[] #[pt g12 0, pt g24 0], born := 6 } : MapEntry), ({ key := .int .u8 8, val := .func (.func 101) #[] #[pt g12 0, pt g24 0], born := 7 } : MapEntry), ({ key := .int .u8 9, val := .func (.func 102) #[] #[pt g12 0, pt g24 0, pt g2 0], born := 8 } : MapEntry), ({ key := .int .u8 10, val := .func (.func 103) #[] #[pt g12 0, pt g24 0, pt g2 0], born := 9 } : MapEntry)] (by kernel_rfl) ?_
 intro w142 hb143 hc144
 have hz146 := hc144.size
 have hC145 := hC137.step1 hc144 (by omega)
 have hb147 := hb139.chg1 hc144 (by omega)
 have hb148 := hb140.chg1 hc144 (by omega)
 have hb149 := hb141.chg1 hc144 (by omega)
 refine WR.batch 1 [(0, .int .u8 a0), (6, pt g12 0), (7, pt g24 0), (23, .map (some g54)), (34, .func (.func 104) #[] #[pt g12 0, pt g24 0, pt g2 0])] (by kernel_rfl) ?_
 refine WR.insert (t := 108) (kt := 22) (et := 106) (d := .int .u8) (x := .int .u8 11) (v := .func (.func 104) #[] #[pt g12 0, pt g24 0, pt g2 0]) hb143 (by kernel_rfl) (by kernel_rfl) rfl (by kernel_rfl) #[({ key := .int .u8 1, val := .func (.func 94) #[] #[pt g12 0, pt g24 0], born := 0 } : MapEntry), ({ key := .int .u8 2, val := .func (.func 95) #[] #[pt g12 0, pt g24 0], born := 1 } : MapEntry), ({ key := .int .u8 3, val := .func (.func 96) #[] #[pt g12 0, pt g24 0], born := 2 } : MapEntry), ({ key := .int .u8 4, val := .func (.func 97) #[] #[pt g12 0, pt g24 0], born := 3 } : MapEntry), ({ key := .int .u8 5, val := .func (.func 98) #[] #[pt g12 0, pt g24 0], born := 4 } : MapEntry), ({ key := .int .u8 6, val := .func (.func 99) #[] #[pt g12 0, pt g24 0], born := 5 } : MapEntry), ({ key := .int .u8 7, val := .func (.func 100) #[] #[pt g12 0, pt g24 0], born := 6 } : MapEntry), ({ key := .int .u8 8, val := .func (.func 101) #[] #[pt g12 0, pt g24 0], born := 7 } : MapEntry), ({ key := .int .u8 9, val := .func (.func 102) #[] #[pt g12 0, pt g24 0, pt g2 0], born := 8 } : MapEntry), ({ key := .int .u8 10, val := .func (.func 103) #[] #[pt g12 0, pt g24 0, pt g2 0], born := 9 } : MapEntry), ({ key := .int .u8 11, val := .func (.func 104) #[] #[pt g12 0, pt g24 0, pt g2 0], born := 10 } : MapEntry)] (by kernel_rfl) ?_
 intro w150 hb151 hc152
 have hz154 := hc152.size
 have hC153 := hC145.step1 hc152 (by omega)
 have hb155 := hb147.chg1 hc152 (by omega)
 have hb156 := hb148.chg1 hc152 (by omega)
 have hb157 := hb149.chg1 hc152 (by omega)
 refine WR.batch 1 [(0, .int .u8 a0), (6, pt g12 0), (23, .map (some g54)), (35, .func (.func 105) #[] #[pt g24 0])] (by kernel_rfl) ?_
 refine WR.insert (t := 108) (kt := 22) (et := 106) (d := .int .u8) (x := .int .u8 12) (v := .func (.func 105) #[] #[pt g24 0]) hb151 (by kernel_rfl) (by kernel_rfl) rfl (by kernel_rfl) #[({ key := .int .u8 1, val := .func (.func 94) #[] #[pt g12 0, pt g24 0], born := 0 } : MapEntry), ({ key := .int .u8 2, val := .func (.func 95) #[] #[pt g12 0, pt g24 0], born := 1 } : MapEntry), ({ key := .int .u8 3, val := .func (.func 96) #[] #[pt g12 0, pt g24 0], born := 2 } : MapEntry), ({ key := .int .u8 4, val := .func (.func 97) #[] #[pt g12 0, pt g24 0], born := 3 } : MapEntry), ({ key := .int .u8 5, val := .func (.func 98) #[] #[pt g12 0, pt g24 0], born := 4 } : MapEntry), ({ key := .int .u8 6, val := .func (.func 99) #[] #[pt g12 0, pt g24 0], born := 5 } : MapEntry), ({ key := .int .u8 7, val := .func (.func 100) #[] #[pt g12 0, pt g24 0], born := 6 } : MapEntry), ({ key := .int .u8 8, val := .func (.func 101) #[] #[pt g12 0, pt g24 0], born := 7 } : MapEntry), ({ key := .int .u8 9, val := .func (.func 102) #[] #[pt g12 0, pt g24 0, pt g2 0], born := 8 } : MapEntry), ({ key := .int .u8 10, val := .func (.func 103) #[] #[pt g12 0, pt g24 0, pt g2 0], born := 9 } : MapEntry), ({ key := .int .u8 11, val := .func (.func 104) #[] #[pt g12 0, pt g24 0, pt g2 0], born := 10 } : MapEntry), ({ key := .int .u8 12, val := .func (.func 105) #[] #[pt g24 0], born := 11 } : MapEntry)] (by kernel_rfl) ?_
 intro w158 hb159 hc160
 have hz162 := hc160.size
 have hC161 := hC153.step1 hc160 (by omega)
 have hb163 := hb155.chg1 hc160 (by omega)
 have hb164 := hb156.chg1 hc160 (by omega)
 have hb165 := hb157.chg1 hc160 (by omega)
 refine WR.batch 1 [(0, .int .u8 a0), (23, .map (some g54)), (36, .func (.func 106) #[] #[pt g12 0])] (by kernel_rfl) ?_
 refine WR.insert (t := 108) (kt := 22) (et := 106) (d := .int .u8) (x := .int .u8 13) (v := .func (.func 106) #[] #[pt g12 0]) hb159 (by kernel_rfl) (by kernel_rfl) rfl (by kernel_rfl) #[({ key := .int .u8 1, val := .func (.func 94) #[] #[pt g12 0, pt g24 0], born := 0 } : MapEntry), ({ key := .int .u8 2, val := .func (.func 95) #[] #[pt g12 0, pt g24 0], born := 1 } : MapEntry), ({ key := .int .u8 3, val := .func (.func 96) #[] #[pt g12 0, pt g24 0], born := 2 } : MapEntry), ({ key := .int .u8 4, val := .func (.func 97) #[] #[pt g12 0, pt g24 0], born := 3 } : MapEntry), ({ key := .int .u8 5, val := .func (.func 98) #[] #[pt g12 0, pt g24 0], born := 4 } : MapEntry), ({ key := .int .u8 6, val := .func (.func 99) #[] #[pt g12 0, pt g24 0], born := 5 } : MapEntry), ({ key := .int .u8 7, val := .func (.func 100) #[] #[pt g12 0, pt g24 0], born := 6 } : MapEntry), ({ key := .int .u8 8, val := .func (.func 101) #[] #[pt g12 0, pt g24 0], born := 7 } : MapEntry), ({ key := .int .u8 9, val := .func (.func 102) #[] #[pt g12 0, pt g24 0, pt g2 0], born := 8 } : MapEntry), ({ key := .int .u8 10, val := .func (.func 103) #[] #[pt g12 0, pt g24 0, pt g2 0], born := 9 } : MapEntry), ({ key := .int .u8 11, val := .func (.func 104) #[] #[pt g12 0, pt g24 0, pt g2 0], born := 10 } : MapEntry), ({ key := .int .u8 12, val := .func (.func 105) #[] #[pt g24 0], born := 11 } : MapEntry), ({ key := .int .u8 13, val := .func (.func 106) #[] #[pt g12 0], born := 12 } : MapEntry)] (by kernel_rfl) ?_
 intro w166 hb167 hc168
 have hz170 := hc168.size
 have hC169 := hC161.step1 hc168 (by omega)
 have hb171 := hb163.chg1 hc168 (by omega)
 have hb172 := hb164.chg1 hc168 (by omega)
 have hb173 := hb165.chg1 hc168 (by omega)
 refine WR.batch 2 [(37, .map (some g54)), (38, .int .u8 a0)] (by kernel_rfl) ?_
 rcases Bool.eq_false_or_eq_true (a0 == (1 : Int)) with hq174 | hq174
 ·
  have hs175 := ifT hq174 hs52
  replace hq174 := bEqT hq174
  refine WR.valR (dst := some 39) (v := .tuple #[.func (.func 94) #[] #[pt g12 0, pt g24 0], .bool true]) (w' := w166) (run_lookup (t := 108) (co := true) (kt := 22) (et := 106) (d := .int .u8) (x := .int .u8 a0) (z := .nilFunc) hb167 (by kernel_rfl) (by kernel_rfl) rfl (some (0, .func (.func 94) #[] #[pt g12 0, pt g24 0])) (by rw [hq174]; rfl) (by kernel_rfl) _ (by kernel_rfl)) ?_
  refine WR.batch 5 [(10, .func (.func 94) #[] #[pt g12 0, pt g24 0]), (11, .bool true)] (by kernel_rfl) ?_
  refine WR.fin (by kernel_rfl) ?_
  refine go hK53 ?_
  refine CW.seq fun K176 hK176 => ?_
  refine CW.seq fun K177 hK177 => ?_
  refine CW.region ?_
  refine WR.batch 2 [(10, .func (.func 94) #[] #[pt g12 0, pt g24 0]), (43, .bool false)] (by kernel_rfl) ?_
  refine WR.fin (by kernel_rfl) ?_
  refine go hK177 ?_
  refine CW.no (by kernel_rfl) ?_
  refine CW.skip ?_
  refine go hK176 ?_
  refine CW.seq fun K178 hK178 => ?_
  refine CW.region ?_
  refine WR.batch 1 [(44, .func (.func 94) #[] #[pt g12 0, pt g24 0])] (by kernel_rfl) ?_
  obtain ⟨x179, hx180⟩ : ∃ x, alu_do_u32_1 a2 a3 = x := ⟨_, rfl⟩
  have hs182 := letS hx180 hs175
  have hx183 : (0 ≤ x179 ∧ x179 ≤ 4294967295) := by rw [← hx180]; exact alu_do_u32_1_ok a2 a3 (by omega) (by omega) 
  refine WR.call (dst := some 45) (by kernel_rfl) (retE (g := fun r : Int => (.int .u32 r : Value)) hx180 (alu_do_u32_1_any a2 a3 g12 g24 w166 hb172 hb173 (by omega) (by omega) )) ?_
  rintro _ w184 hc185 rfl
  have hz187 := hc185.size
  have hC186 := hC169.pure hc185
  have hb188 := hb171.pure hc185
  have hb189 := hb172.pure hc185
  have hb190 := hb173.pure hc185
  have hb191 := hb167.pure hc185
  refine WR.batch 2 [(8, .int .u32 x179), (9, .int .i64 0)] (by kernel_rfl) ?_
  refine WR.fin (by kernel_rfl) ?_
  refine go hK178 ?_
  refine CW.ret ?_
  exact retV (.tuple #[.int .u32 x179, .int .i64 0]) (by kernel_rfl) (⟨hC186, (congrArg (fun r : (Int × Int) => (.tuple #[.int .u32 r.1, .int .i64 r.2] : Value)) hs182).symm⟩)
 have hs192 := ifF hq174 hs52
 rcases Bool.eq_false_or_eq_true (a0 == (2 : Int)) with hq193 | hq193
 ·
  have hs194 := ifT hq193 hs192
  replace hq193 := bEqT hq193
  refine WR.valR (dst := some 39) (v := .tuple #[.func (.func 95) #[] #[pt g12 0, pt g24 0], .bool true]) (w' := w166) (run_lookup (t := 108) (co := true) (kt := 22) (et := 106) (d := .int .u8) (x := .int .u8 a0) (z := .nilFunc) hb167 (by kernel_rfl) (by kernel_rfl) rfl (some (1, .func (.func 95) #[] #[pt g12 0, pt g24 0])) (by rw [hq193]; rfl) (by kernel_rfl) _ (by kernel_rfl)) ?_
  refine WR.batch 5 [(10, .func (.func 95) #[] #[pt g12 0, pt g24 0]), (11, .bool true)] (by kernel_rfl) ?_
  refine WR.fin (by kernel_rfl) ?_
  refine go hK53 ?_
  refine CW.seq fun K195 hK195 => ?_
  refine CW.seq fun K196 hK196 => ?_
  refine CW.region ?_
  refine WR.batch 2 [(10, .func (.func 95) #[] #[pt g12 0, pt g24 0]), (43, .bool false)] (by kernel_rfl) ?_
  refine WR.fin (by kernel_rfl) ?_
  refine go hK196 ?_
  refine CW.no (by kernel_rfl) ?_
  refine CW.skip ?_
  refine go hK195 ?_
  refine CW.seq fun K197 hK197 => ?_
  refine CW.region ?_
  refine WR.batch 1 [(44, .func (.func 95) #[] #[pt g12 0, pt g24 0])] (by kernel_rfl) ?_
  obtain ⟨x198, hx199⟩ : ∃ x, alu_do_u32_2 a2 a3 = x := ⟨_, rfl⟩
  have hs201 := letS hx199 hs194
  have hx202 : (0 ≤ x198 ∧ x198 ≤ 4294967295) := by rw [← hx199]; exact alu_do_u32_2_ok a2 a3 (by omega) (by omega) 
  refine WR.call (dst := some 45) (by kernel_rfl) (retE (g := fun r : Int => (.int .u32 r : Value)) hx199 (alu_do_u32_2_any a2 a3 g12 g24 w166 hb172 hb173 (by omega) (by omega) )) ?_
  rintro _ w203 hc204 rfl
  have hz206 := hc204.size
  have hC205 := hC169.pure hc204
  have hb207 := hb171.pure hc204
  have hb208 := hb172.pure hc204
  have hb209 := hb173.pure hc204
  have hb210 := hb167.pure hc204
  refine WR.batch 2 [(8, .int .u32 x198), (9, .int .i64 0)] (by kernel_rfl) ?_
  refine WR.fin (by kernel_rfl) ?_
  refine go hK197 ?_
  refine CW.ret ?_
  exact retV (.tuple #[.int .u32 x198, .int .i64 0]) (by kernel_rfl) (⟨hC205, (congrArg (fun r : (Int × Int) => (.tuple #[.int .u32 r.1, .int .i64 r.2] : Value)) hs201).symm⟩)
 have hs211 := ifF hq193 hs192
 rcases Bool.eq_false_or_eq_true (a0 == (3 : Int)) with hq212 | hq212
 ·
  have hs213 := ifT hq212 hs211
  replace hq212 := bEqT hq212
  refine WR.valR (dst := some 39) (v := .tuple #[.func (.func 96) #[] #[pt g12 0, pt g24 0], .bool true]) (w' := w166) (run_lookup (t := 108) (co := true) (kt := 22) (et := 106) (d := .int .u8) (x := .int .u8 a0) (z := .nilFunc) hb167 (by kernel_rfl) (by kernel_rfl) rfl (some (2, .func (.func 96) #[] #[pt g12 0, pt g24 0])) (by rw [hq212]; rfl) (by kernel_rfl) _ (by kernel_rfl)) ?_
  refine WR.batch 5 [(10, .func (.func 96) #[] #[pt g12 0, pt g24 0]), (11, .bool true)] (by kernel_rfl) ?_
  refine WR.fin (by kernel_rfl) ?_
  refine go hK53 ?_
  refine CW.seq fun K214 hK214 => ?_
  refine CW.seq fun K215 hK215 => ?_
  refine CW.region ?_
  refine WR.batch 2 [(10, .func (.func 96) #[] #[pt g12 0, pt g24 0]), (43, .bool false)] (by kernel_rfl) ?_
  refine WR.fin (by kernel_rfl) ?_
  refine go hK215 ?_
  refine CW.no (by kernel_rfl) ?_
  refine CW.skip ?_
  refine go hK214 ?_
  refine CW.seq fun K216 hK216 => ?_
  refine CW.region ?_
  refine WR.batch 1 [(44, .func (.func 96) #[] #[pt g12 0, pt g24 0])] (by kernel_rfl) ?_
  obtain ⟨x217, hx218⟩ : ∃ x, alu_do_u32_3 a2 a3 = x := ⟨_, rfl⟩
  have hs220 := letS hx218 hs213
  have hx221 : (0 ≤ x217 ∧ x217 ≤ 4294967295) := by rw [← hx218]; exact alu_do_u32_3_ok a2 a3 (by omega) (by omega) 
  refine WR.call (dst := some 45) (by kernel_rfl) (retE (g := fun r : Int => (.int .u32 r : Value)) hx218 (alu_do_u32_3_any a2 a3 g12 g24 w166 hb172 hb173 (by omega) (by omega) )) ?_
  rintro _ w222 hc223 rfl
  have hz225 := hc223.size
  have hC224 := hC169.pure hc223
  have hb226 := hb171.pure hc223
  have hb227 := hb172.pure hc223
  have hb228 := hb173.pure hc223
  have hb229 := hb167.pure hc223
  refine WR.batch 2 [(8, .int .u32 x217), (9, .int .i64 0)] (by kernel_rfl) ?_
  refine WR.fin (by kernel_rfl) ?_
  refine go hK216 ?_
  refine CW.ret ?_
  exact retV (.tuple #[.int .u32 x217, .int .i64 0]) (by kernel_rfl) (⟨hC224, (congrArg (fun r : (Int × Int) => (.tuple #[.int .u32 r.1, .int .i64 r.2] : Value)) hs220).symm⟩)
 have hs230 := ifF hq212 hs211
 rcases Bool.eq_false_or_eq_true (a0 == (4 : Int)) with hq231 | hq231
 ·
  have hs232 := ifT hq231 hs230
  replace hq231 := bEqT hq231
  refine WR.valR (dst := some 39) (v := .tuple #[.func (.func 97) #[] #[pt g12 0, pt g24 0], .bool true]) (w' := w166) (run_lookup (t := 108) (co := true) (kt := 22) (et := 106) (d := .int .u8) (x := .int .u8 a0) (z := .nilFunc) hb167 (by kernel_rfl) (by kernel_rfl) rfl (some (3, .func (.func 97) #[] #[pt g12 0, pt g24 0])) (by rw [hq231]; rfl) (by kernel_rfl) _ (by kernel_rfl)) ?_
  refine WR.batch 5 [(10, .func (.func 97) #[] #[pt g12 0, pt g24 0]), (11, .bool true)] (by kernel_rfl) ?_
  refine WR.fin (by kernel_rfl) ?_
  refine go hK53 ?_
  refine CW.seq fun K233 hK233 => ?_
  refine CW.seq fun K234 hK234 => ?_
  refine CW.region ?_
  refine WR.batch 2 [(10, .func (.func 97) #[] #[pt g12 0, pt g24 0]), (43, .bool false)] (by kernel_rfl) ?_
  refine WR.fin (by kernel_rfl) ?_
  refine go hK234 ?_
  refine CW.no (by kernel_rfl) ?_
  refine CW.skip ?_
  refine go hK233 ?_
  refine CW.seq fun K235 hK235 => ?_
  refine CW.region ?_
  refine WR.batch 1 [(44, .func (.func 97) #[] #[pt g12 0, pt g24 0])] (by kernel_rfl) ?_
  obtain ⟨x236, hx237⟩ : ∃ x, alu_do_u32_4 a2 a3 = x := ⟨_, rfl⟩
  have hs239 := letS hx237 hs232
  have hx240 : (0 ≤ x236 ∧ x236 ≤ 4294967295) := by rw [← hx237]; exact alu_do_u32_4_ok a2 a3 (by omega) (by omega) (by omega)
  refine WR.call (dst := some 45) (by kernel_rfl) (retE (g := fun r : Int => (.int .u32 r : Value)) hx237 (alu_do_u32_4_any a2 a3 g12 g24 w166 hb172 hb173 (by omega) (by omega) (by omega))) ?_
  rintro _ w241 hc242 rfl
  have hz244 := hc242.size
  have hC243 := hC169.pure hc242
  have hb245 := hb171.pure hc242
  have hb246 := hb172.pure hc242
  have hb247 := hb173.pure hc242
  have hb248 := hb167.pure hc242
  refine WR.batch 2 [(8, .int .u32 x236), (9, .int .i64 0)] (by kernel_rfl) ?_
  refine WR.fin (by kernel_rfl) ?_
  refine go hK235 ?_
  refine CW.ret ?_
  exact retV (.tuple #[.int .u32 x236, .int .i64 0]) (by kernel_rfl) (⟨hC243, (congrArg (fun r : (Int × Int) => (.tuple #[.int .u32 r.1, .int .i64 r.2] : Value)) hs239).symm⟩)
 have hs249 := ifF hq231 hs230
 rcases Bool.eq_false_or_eq_true (a0 == (5 : Int)) with hq250 | hq250
 ·
  have hs251 := ifT hq250 hs249
  replace hq250 := bEqT hq250
  refine WR.valR (dst := some 39) (v := .tuple #[.func (.func 98) #[] #[pt g12 0, pt g24 0], .bool true]) (w' := w166) (run_lookup (t := 108) (co := true) (kt := 22) (et := 106) (d := .int .u8) (x := .int .u8 a0) (z := .nilFunc) hb167 (by kernel_rfl) (by kernel_rfl) rfl (some (4, .func (.func 98) #[] #[pt g12 0, pt g24 0])) (by rw [hq250]; rfl) (by kernel_rfl) _ (by kernel_rfl)) ?_
  refine WR.batch 5 [(10, .func (.func 98) #[] #[pt g12 0, pt g24 0]), (11, .bool true)] (by kernel_rfl) ?_
  refine WR.fin (by kernel_rfl) ?_
  refine go hK53 ?_
  refine CW.seq fun K252 hK252 => ?_
  refine CW.seq fun K253 hK253 => ?_
  refine CW.region ?_
  refine WR.batch 2 [(10, .func (.func 98) #[] #[pt g12 0, pt g24 0]), (43, .bool false)] (by kernel_rfl) ?_
  refine WR.fin (by kernel_rfl) ?_
  refine go hK253 ?_
  refine CW.no (by kernel_rfl) ?_
  refine CW.skip ?_
  refine go hK252 ?_
  refine CW.seq fun K254 hK254 => ?_
  refine CW.region ?_
  refine WR.batch 1 [(44, .func (.func 98) #[] #[pt g12 0, pt g24 0])] (by kernel_rfl) ?_
  obtain ⟨x255, hx256⟩ : ∃ x, alu_do_u32_5 a2 a3 = x := ⟨_, rfl⟩
  have hs258 := letS hx256 hs251
  have hx259 : (0 ≤ x255 ∧ x255 ≤ 4294967295) := by rw [← hx256]; exact alu_do_u32_5_ok a2 a3 (by omega) (by omega) (by omega)
  refine WR.call (dst := some 45) (by kernel_rfl) (retE (g := fun r : Int => (.int .u32 r : Value)) hx256 (alu_do_u32_5_any a2 a3 g12 g24 w166 hb172 hb173 (by omega) (by omega) (by omega))) ?_
  rintro _ w260 hc261 rfl
  have hz263 := hc261.size
  have hC262 := hC169.pure hc261
  have hb264 := hb171.pure hc261
  have hb265 := hb172.pure hc261
  have hb266 := hb173.pure hc261
  have hb267 := hb167.pure hc261
  refine WR.batch 2 [(8, .int .u32 x255), (9, .int .i64 0)] (by kernel_rfl) ?_
  refine WR.fin (by kernel_rfl) ?_
  refine go hK254 ?_
  refine CW.ret ?_
  exact retV (.tuple #[.int .u32 x255, .int .i64 0]) (by kernel_rfl) (⟨hC262, (congrArg (fun r : (Int × Int) => (.tuple #[.int .u32 r.1, .int .i64 r.2] : Value)) hs258).symm⟩)
 have hs268 := ifF hq250 hs249
 rcases Bool.eq_false_or_eq_true (a0 == (6 : Int)) with hq269 | hq269
 ·
  have hs270 := ifT hq269 hs268
  replace hq269 := bEqT hq269
  refine WR.valR (dst := some 39) (v := .tuple #[.func (.func 99) #[] #[pt g12 0, pt g24 0], .bool true]) (w' := w166) (run_lookup (t := 108) (co := true) (kt := 22) (et := 106) (d := .int .u8) (x := .int .u8 a0) (z := .nilFunc) hb167 (by kernel_rfl) (by kernel_rfl) rfl (some (5, .func (.func 99) #[] #[pt g12 0, pt g24 0])) (by rw [hq269]; rfl) (by kernel_rfl) _ (by kernel_rfl)) ?_
  refine WR.batch 5 [(10, .func (.func 99) #[] #[pt g12 0, pt g24 0]), (11, .bool true)] (by kernel_rfl) ?_
  refine WR.fin (by kernel_rfl) ?_
  refine go hK53 ?_
  refine CW.seq fun K271 hK271 => ?_
  refine CW.seq fun K272 hK272 => ?_
  refine CW.region ?_
  refine WR.batch 2 [(10, .func (.func 99) #[] #[pt g12 0, pt g24 0]), (43, .bool false)] (by kernel_rfl) ?_
  refine WR.fin (by kernel_rfl) ?_
  refine go hK272 ?_
  refine CW.no (by kernel_rfl) ?_
  refine CW.skip ?_
  refine go hK271 ?_
  refine CW.seq fun K273 hK273 => ?_
  refine CW.region ?_
  refine WR.batch 1 [(44, .func (.func 99) #[] #[pt g12 0, pt g24 0])] (by kernel_rfl) ?_
  obtain ⟨x274, hx275⟩ : ∃ x, alu_do_u32_6 a2 a3 = x := ⟨_, rfl⟩
  have hs277 := letS hx275 hs270
  have hx278 : (0 ≤ x274 ∧ x274 ≤ 4294967295) := by rw [← hx275]; exact alu_do_u32_6_ok a2 a3 (by omega) (by omega) 
  refine WR.call (dst := some 45) (by kernel_rfl) (retE (g := fun r : Int => (.int .u32 r : Value)) hx275 (alu_do_u32_6_any a2 a3 g12 g24 w166 hb172 hb173 (by omega) (by omega) )) ?_
  rintro _ w279 hc280 rfl
  have hz282 := hc280.size
  have hC281 := hC169.pure hc280
  have hb283 := hb171.pure hc280
  have hb284 := hb172.pure hc280
  have hb285 := hb173.pure hc280
  have hb286 := hb167.pure hc280
  refine WR.batch 2 [(8, .int .u32 x274), (9, .int .i64 0)] (by kernel_rfl) ?_
  refine WR.fin (by kernel_rfl) ?_
  refine go hK273 ?_
  refine CW.ret ?_
  exact retV (.tuple #[.int .u32 x274, .int .i64 0]) (by kernel_rfl) (⟨hC281, (congrArg (fun r : (Int × Int) => (.tuple #[.int .u32 r.1, .int .i64 r.2] : Value)) hs277).symm⟩)
 have hs287 := ifF hq269 hs268
 rcases Bool.eq_false_or_eq_true (a0 == (7 : Int)) with hq288 | hq288
 ·
  have hs289 := ifT hq288 hs287
  replace hq288 := bEqT hq288
  refine WR.valR (dst := some 39) (v := .tuple #[.func (.func 100) #[] #[pt g12 0, pt g24 0], .bool true]) (w' := w166) (run_lookup (t := 108) (co := true) (kt := 22) (et := 106) (d := .int .u8) (x := .int .u8 a0) (z := .nilFunc) hb167 (by kernel_rfl) (by kernel_rfl) rfl (some (6, .func (.func 100) #[] #[pt g12 0, pt g24 0])) (by rw [hq288]; rfl) (by kernel_rfl) _ (by kernel_rfl)) ?_
  refine WR.batch 5 [(10, .func (.func 100) #[] #[pt g12 0, pt g24 0]), (11, .bool true)] (by kernel_rfl) ?_
  refine WR.fin (by kernel_rfl) ?_
  refine go hK53 ?_
  refine CW.seq fun K290 hK290 => ?_
  refine CW.seq fun K291 hK291 => ?_
  refine CW.region ?_
  refine WR.batch 2 [(10, .func (.func 100) #[] #[pt g12 0, pt g24 0]), (43, .bool false)] (by kernel_rfl) ?_
  refine WR.fin (by kernel_rfl) ?_
  refine go hK291 ?_
  refine CW.no (by kernel_rfl) ?_
  refine CW.skip ?_
  refine go hK290 ?_
  refine CW.seq fun K292 hK292 => ?_
  refine CW.region ?_
  refine WR.batch 1 [(44, .func (.func 100) #[] #[pt g12 0, pt g24 0])] (by kernel_rfl) ?_
  obtain ⟨x293, hx294⟩ : ∃ x, alu_do_u32_7 a2 a3 = x := ⟨_, rfl⟩
  have hs296 := letS hx294 hs289
  have hx297 : (0 ≤ x293 ∧ x293 ≤ 4294967295) := by rw [← hx294]; exact alu_do_u32_7_ok a2 a3 (by omega) (by omega) 
  refine WR.call (dst := some 45) (by kernel_rfl) (retE (g := fun r : Int => (.int .u32 r : Value)) hx294 (alu_do_u32_7_any a2 a3 g12 g24 w166 hb172 hb173 (by omega) (by omega) )) ?_
  rintro _ w298 hc299 rfl
  have hz301 := hc299.size
  have hC300 := hC169.pure hc299
  have hb302 := hb171.pure hc299
  have hb303 := hb172.pure hc299
  have hb304 := hb173.pure hc299
  have hb305 := hb167.pure hc299
  refine WR.batch 2 [(8, .int .u32 x293), (9, .int .i64 0)] (by kernel_rfl) ?_
  refine WR.fin (by kernel_rfl) ?_
  refine go hK292 ?_
  refine CW.ret ?_
  exact retV (.tuple #[.int .u32 x293, .int .i64 0]) (by kernel_rfl) (⟨hC300, (congrArg (fun r : (Int × Int) => (.tuple #[.int .u32 r.1, .int .i64 r.2] : Value)) hs296).symm⟩)
 have hs306 := ifF hq288 hs287
 rcases Bool.eq_false_or_eq_true (a0 == (8 : Int)) with hq307 | hq307
 ·
  have hs308 := ifT hq307 hs306
  replace hq307 := bEqT hq307
  refine WR.valR (dst := some 39) (v := .tuple #[.func (.func 101) #[] #[pt g12 0, pt g24 0], .bool true]) (w' := w166) (run_lookup (t := 108) (co := true) (kt := 22) (et := 106) (d := .int .u8) (x := .int .u8 a0) (z := .nilFunc) hb167 (by kernel_rfl) (by kernel_rfl) rfl (some (7, .func (.func 101) #[] #[pt g12 0, pt g24 0])) (by rw [hq307]; rfl) (by kernel_rfl) _ (by kernel_rfl)) ?_
  refine WR.batch 5 [(10, .func (.func 101) #[] #[pt g12 0, pt g24 0]), (11, .bool true)] (by kernel_rfl) ?_
  refine WR.fin (by kernel_rfl) ?_
  refine go hK53 ?_
  refine CW.seq fun K309 hK309 => ?_
  refine CW.seq fun K310 hK310 => ?_
  refine CW.region ?_
  refine WR.batch 2 [(10, .func (.func 101) #[] #[pt g12 0, pt g24 0]), (43, .bool false)] (by kernel_rfl) ?_
  refine WR.fin (by kernel_rfl) ?_
  refine go hK310 ?_
  refine CW.no (by kernel_rfl) ?_
  refine CW.skip ?_
  refine go hK309 ?_
  refine CW.seq fun K311 hK311 => ?_
  refine CW.region ?_
  refine WR.batch 1 [(44, .func (.func 101) #[] #[pt g12 0, pt g24 0])] (by kernel_rfl) ?_
  obtain ⟨x312, hx313⟩ : ∃ x, alu_do_u32_8 a2 a3 = x := ⟨_, rfl⟩
  have hs315 := letS hx313 hs308
  have hx316 : (0 ≤ x312 ∧ x312 ≤ 4294967295) := by rw [← hx313]; exact alu_do_u32_8_ok a2 a3 (by omega) (by omega) 
  refine WR.call (dst := some 45) (by kernel_rfl) (retE (g := fun r : Int => (.int .u32 r : Value)) hx313 (alu_do_u32_8_any a2 a3 g12 g24 w166 hb172 hb173 (by omega) (by omega) )) ?_
  rintro _ w317 hc318 rfl
  have hz320 := hc318.size
  have hC319 := hC169.pure hc318
  have hb321 := hb171.pure hc318
  have hb322 := hb172.pure hc318
  have hb323 := hb173.pure hc318
  have hb324 := hb167.pure hc318
  refine WR.batch 2 [(8, .int .u32 x312), (9, .int .i64 0)] (by kernel_rfl) ?_
  refine WR.fin (by kernel_rfl) ?_
  refine go hK311 ?_
  refine CW.ret ?_
  exact retV (.tuple #[.int .u32 x312, .int .i64 0]) (by kernel_rfl) (⟨hC319, (congrArg (fun r : (Int × Int) => (.tuple #[.int .u32 r.1, .int .i64 r.2] : Value)) hs315).symm⟩)
 have hs325 := ifF hq307 hs306
 rcases Bool.eq_false_or_eq_true (a0 == (9 : Int)) with hq326 | hq326
 ·
  have hs327 := ifT hq326 hs325
  replace hq326 := bEqT hq326
  refine WR.valR (dst := some 39) (v := .tuple #[.func (.func 102) #[] #[pt g12 0, pt g24 0, pt g2 0], .bool true]) (w' := w166) (run_lookup (t := 108) (co := true) (kt := 22) (et := 106) (d := .int .u8) (x := .int .u8 a0) (z := .nilFunc) hb167 (by kernel_rfl) (by kernel_rfl) rfl (some (8, .func (.func 102) #[] #[pt g12 0, pt g24 0, pt g2 0])) (by rw [hq326]; rfl) (by kernel_rfl) _ (by kernel_rfl)) ?_
  refine WR.batch 5 [(10, .func (.func 102) #[] #[pt g12 0, pt g24 0, pt g2 0]), (11, .bool true)] (by kernel_rfl) ?_
  refine WR.fin (by kernel_rfl) ?_
  refine go hK53 ?_
  refine CW.seq fun K328 hK328 => ?_
  refine CW.seq fun K329 hK329 => ?_
  refine CW.region ?_
  refine WR.batch 2 [(10, .func (.func 102) #[] #[pt g12 0, pt g24 0, pt g2 0]), (43, .bool false)] (by kernel_rfl) ?_
  refine WR.fin (by kernel_rfl) ?_
  refine go hK329 ?_
  refine CW.no (by kernel_rfl) ?_
  refine CW.skip ?_
  refine go hK328 ?_
  refine CW.seq fun K330 hK330 => ?_
  refine CW.region ?_
  refine WR.batch 1 [(44, .func (.func 102) #[] #[pt g12 0, pt g24 0, pt g2 0])] (by kernel_rfl) ?_
  obtain ⟨x331, hx332⟩ : ∃ x, alu_do_u32_9 a2 a3 a1 = x := ⟨_, rfl⟩
  have hs334 := letS hx332 hs327
  have hx335 : (0 ≤ x331 ∧ x331 ≤ 4294967295) := by rw [← hx332]; exact alu_do_u32_9_ok a2 a3 a1 (by omega) (by omega) (by omega) (by omega)
  refine WR.call (dst := some 45) (by kernel_rfl) (retE (g := fun r : Int => (.int .u32 r : Value)) hx332 (alu_do_u32_9_any a2 a3 a1 g12 g24 g2 w166 hb172 hb173 hb171 (by omega) (by omega) (by omega) (by omega))) ?_
  rintro _ w336 hc337 rfl
  have hz339 := hc337.size
  have hC338 := hC169.pure hc337
  have hb340 := hb171.pure hc337
  have hb341 := hb172.pure hc337
  have hb342 := hb173.pure hc337
  have hb343 := hb167.pure hc337
  refine WR.batch 2 [(8, .int .u32 x331), (9, .int .i64 0)] (by kernel_rfl) ?_
  refine WR.fin (by kernel_rfl) ?_
  refine go hK330 ?_
  refine CW.ret ?_
  exact retV (.tuple #[.int .u32 x331, .int .i64 0]) (by kernel_rfl) (⟨hC338, (congrArg (fun r : (Int × Int) => (.tuple #[.int .u32 r.1, .int .i64 r.2] : Value)) hs334).symm⟩)
 have hs344 := ifF hq326 hs325
 rcases Bool.eq_false_or_eq_true (a0 == (10 : Int)) with hq345 | hq345
 ·
  have hs346 := ifT hq345 hs344
  replace hq345 := bEqT hq345
  refine WR.valR (dst := some 39) (v := .tuple #[.func (.func 103) #[] #[pt g12 0, pt g24 0, pt g2 0], .bool true]) (w' := w166) (run_lookup (t := 108) (co := true) (kt := 22) (et := 106) (d := .int .u8) (x := .int .u8 a0) (z := .nilFunc) hb167 (by kernel_rfl) (by kernel_rfl) rfl (some (9, .func (.func 103) #[] #[pt g12 0, pt g24 0, pt g2 0])) (by rw [hq345]; rfl) (by kernel_rfl) _ (by kernel_rfl)) ?_
  refine WR.batch 5 [(10, .func (.func 103) #[] #[pt g12 0, pt g24 0, pt g2 0]), (11, .bool true)] (by kernel_rfl) ?_
  refine WR.fin (by kernel_rfl) ?_
  refine go hK53 ?_
  refine CW.seq fun K347 hK347 => ?_
  refine CW.seq fun K348 hK348 => ?_
  refine CW.region ?_
  refine WR.batch 2 [(10, .func (.func 103) #[] #[pt g12 0, pt g24 0, pt g2 0]), (43, .bool false)] (by kernel_rfl) ?_
  refine WR.fin (by kernel_rfl) ?_
  refine go hK348 ?_
  refine CW.no (by kernel_rfl) ?_
  refine CW.skip ?_
  refine go hK347 ?_
  refine CW.seq fun K349 hK349 => ?_
  refine CW.region ?_
  refine WR.batch 1 [(44, .func (.func 103) #[] #[pt g12 0, pt g24 0, pt g2 0])] (by kernel_rfl) ?_
  obtain ⟨x350, hx351⟩ : ∃ x, alu_do_u32_10 a2 a3 a1 = x := ⟨_, rfl⟩
  have hs353 := letS hx351 hs346
  have hx354 : (0 ≤ x350 ∧ x350 ≤ 4294967295) := by rw [← hx351]; exact alu_do_u32_10_ok a2 a3 a1 (by omega) (by omega) (by omega) (by omega)
  refine WR.call (dst := some 45) (by kernel_rfl) (retE (g := fun r : Int => (.int .u32 r : Value)) hx351 (alu_do_u32_10_any a2 a3 a1 g12 g24 g2 w166 hb172 hb173 hb171 (by omega) (by omega) (by omega) (by omega))) ?_
  rintro _ w355 hc356 rfl
  have hz358 := hc356.size
  have hC357 := hC169.pure hc356
  have hb359 := hb171.pure hc356
  have hb360 := hb172.pure hc356
  have hb361 := hb173.pure hc356
  have hb362 := hb167.pure hc356
  refine WR.batch 2 [(8, .int .u32 x350), (9, .int .i64 0)] (by kernel_rfl) ?_
  refine WR.fin (by kernel_rfl) ?_
  refine go hK349 ?_
  refine CW.ret ?_
  exact retV (.tuple #[.int .u32 x350, .int .i64 0]) (by kernel_rfl) (⟨hC357, (congrArg (fun r : (Int × Int) => (.tuple #[.int .u32 r.1, .int .i64 r.2] : Value)) hs353).symm⟩)
 have hs363 := ifF hq345 hs344
 rcases Bool.eq_false_or_eq_true (a0 == (11 : Int)) with hq364 | hq364
 ·
  have hs365 := ifT hq364 hs363
  replace hq364 := bEqT hq364
  refine WR.valR (dst := some 39) (v := .tuple #[.func (.func 104) #[] #[pt g12 0, pt g24 0, pt g2 0], .bool true]) (w' := w166) (run_lookup (t := 108) (co := true) (kt := 22) (et := 106) (d := .int .u8) (x := .int .u8 a0) (z := .nilFunc) hb167 (by kernel_rfl) (by kernel_rfl) rfl (some (10, .func (.func 104) #[] #[pt g12 0, pt g24 0, pt g2 0])) (by rw [hq364]; rfl) (by kernel_rfl) _ (by kernel_rfl)) ?_
  refine WR.batch 5 [(10, .func (.func 104) #[] #[pt g12 0, pt g24 0, pt g2 0]), (11, .bool true)] (by kernel_rfl) ?_
  refine WR.fin (by kernel_rfl) ?_
  refine go hK53 ?_
  refine CW.seq fun K366 hK366 => ?_
  refine CW.seq fun K367 hK367 => ?_
  refine CW.region ?_
  refine WR.batch 2 [(10, .func (.func 104) #[] #[pt g12 0, pt g24 0, pt g2 0]), (43, .bool false)] (by kernel_rfl) ?_
  refine WR.fin (by kernel_rfl) ?_
  refine go hK367 ?_
  refine CW.no (by kernel_rfl) ?_
  refine CW.skip ?_
  refine go hK366 ?_
  refine CW.seq fun K368 hK368 => ?_
  refine CW.region ?_
  refine WR.batch 1 [(44, .func (.func 104) #[] #[pt g12 0, pt g24 0, pt g2 0])] (by kernel_rfl) ?_
  obtain ⟨x369, hx370⟩ : ∃ x, alu_do_u32_11 a2 a3 a1 = x := ⟨_, rfl⟩
  have hs372 := letS hx370 hs365
  have hx373 : (0 ≤ x369 ∧ x369 ≤ 4294967295) := by rw [← hx370]; exact alu_do_u32_11_ok a2 a3 a1 (by omega) (by omega) (by omega) (by omega)
  refine WR.call (dst := some 45) (by kernel_rfl) (retE (g := fun r : Int => (.int .u32 r : Value)) hx370 (alu_do_u32_11_any a2 a3 a1 g12 g24 g2 w166 hb172 hb173 hb171 (by omega) (by omega) (by omega) (by omega))) ?_
  rintro _ w374 hc375 rfl
  have hz377 := hc375.size
  have hC376 := hC169.pure hc375
  have hb378 := hb171.pure hc375
  have hb379 := hb172.pure hc375
  have hb380 := hb173.pure hc375
  have hb381 := hb167.pure hc375
  refine WR.batch 2 [(8, .int .u32 x369), (9, .int .i64 0)] (by kernel_rfl) ?_
  refine WR.fin (by kernel_rfl) ?_
  refine go hK368 ?_
  refine CW.ret ?_
  exact retV (.tuple #[.int .u32 x369, .int .i64 0]) (by kernel_rfl) (⟨hC376, (congrArg (fun r : (Int × Int) => (.tuple #[.int .u32 r.1, .int .i64 r.2] : Value)) hs372).symm⟩)
 have hs382 := ifF hq364 hs363
 rcases Bool.eq_false_or_eq_true (a0 == (12 : Int)) with hq383 | hq383
 ·
  have hs384 := ifT hq383 hs382
  replace hq383 := bEqT hq383
  refine WR.valR (dst := some 39) (v := .tuple #[.func (.func 105) #[] #[pt g24 0], .bool true]) (w' := w166) (run_lookup (t := 108) (co := true) (kt := 22) (et := 106) (d := .int .u8) (x := .int .u8 a0) (z := .nilFunc) hb167 (by kernel_rfl) (by kernel_rfl) rfl (some (11, .func (.func 105) #[] #[pt g24 0])) (by rw [hq383]; rfl) (by kernel_rfl) _ (by kernel_rfl)) ?_
  refine WR.batch 5 [(10, .func (.func 105) #[] #[pt g24 0]), (11, .bool true)] (by kernel_rfl) ?_
  refine WR.fin (by kernel_rfl) ?_
  refine go hK53 ?_
  refine CW.seq fun K385 hK385 => ?_
  refine CW.seq fun K386 hK386 => ?_
  refine CW.region ?_
  refine WR.batch 2 [(10, .func (.func 105) #[] #[pt g24 0]), (43, .bool false)] (by kernel_rfl) ?_
  refine WR.fin (by kernel_rfl) ?_
  refine go hK386 ?_
  refine CW.no (by kernel_rfl) ?_
  refine CW.skip ?_
  refine go hK385 ?_
  refine CW.seq fun K387 hK387 => ?_
  refine CW.region ?_
  refine WR.batch 1 [(44, .func (.func 105) #[] #[pt g24 0])] (by kernel_rfl) ?_
  obtain ⟨x388, hx389⟩ : ∃ x, alu_do_u32_12 a3 = x := ⟨_, rfl⟩
  have hs391 := letS hx389 hs384
  have hx392 : (0 ≤ x388 ∧ x388 ≤ 4294967295) := by rw [← hx389]; exact alu_do_u32_12_ok a3 (by omega) 
  refine WR.call (dst := some 45) (by kernel_rfl) (retE (g := fun r : Int => (.int .u32 r : Value)) hx389 (alu_do_u32_12_any a3 g24 w166 hb173 (by omega) )) ?_
  rintro _ w393 hc394 rfl
  have hz396 := hc394.size
  have hC395 := hC169.pure hc394
  have hb397 := hb171.pure hc394
  have hb398 := hb172.pure hc394
  have hb399 := hb173.pure hc394
  have hb400 := hb167.pure hc394
  refine WR.batch 2 [(8, .int .u32 x388), (9, .int .i64 0)] (by kernel_rfl) ?_
  refine WR.fin (by kernel_rfl) ?_
  refine go hK387 ?_
  refine CW.ret ?_
  exact retV (.tuple #[.int .u32 x388, .int .i64 0]) (by kernel_rfl) (⟨hC395, (congrArg (fun r : (Int × Int) => (.tuple #[.int .u32 r.1, .int .i64 r.2] : Value)) hs391).symm⟩)
 have hs401 := ifF hq383 hs382
 rcases Bool.eq_false_or_eq_true (a0 == (13 : Int)) with hq402 | hq402
 ·
  have hs403 := ifT hq402 hs401
  replace hq402 := bEqT hq402
  refine WR.valR (dst := some 39) (v := .tuple #[.func (.func 106) #[] #[pt g12 0], .bool true]) (w' := w166) (run_lookup (t := 108) (co := true) (kt := 22) (et := 106) (d := .int .u8) (x := .int .u8 a0) (z := .nilFunc) hb167 (by kernel_rfl) (by kernel_rfl) rfl (some (12, .func (.func 106) #[] #[pt g12 0])) (by rw [hq402]; rfl) (by kernel_rfl) _ (by kernel_rfl)) ?_
  refine WR.batch 5 [(10, .func (.func 106) #[] #[pt g12 0]), (11, .bool true)] (by kernel_rfl) ?_
  refine WR.fin (by kernel_rfl) ?_
  refine go hK53 ?_
  refine CW.seq fun K404 hK404 => ?_
  refine CW.seq fun K405 hK405 => ?_
  refine CW.region ?_
  refine WR.batch 2 [(10, .func (.func 106) #[] #[pt g12 0]), (43, .bool false)] (by kernel_rfl) ?_
  refine WR.fin (by kernel_rfl) ?_
  refine go hK405 ?_
  refine CW.no (by kernel_rfl) ?_
  refine CW.skip ?_
  refine go hK404 ?_
  refine CW.seq fun K406 hK406 => ?_
  refine CW.region ?_
  refine WR.batch 1 [(44, .func (.func 106) #[] #[pt g12 0])] (by kernel_rfl) ?_
  obtain ⟨x407, hx408⟩ : ∃ x, alu_do_u32_13 a2 = x := ⟨_, rfl⟩
  have hs410 := letS hx408 hs403
  have hx411 : (0 ≤ x407 ∧ x407 ≤ 4294967295) := by rw [← hx408]; exact alu_do_u32_13_ok a2 (by omega) 
  refine WR.call (dst := some 45) (by kernel_rfl) (retE (g := fun r : Int => (.int .u32 r : Value)) hx408 (alu_do_u32_13_any a2 g12 w166 hb172 (by omega) )) ?_
  rintro _ w412 hc413 rfl
  have hz415 := hc413.size
  have hC414 := hC169.pure hc413
  have hb416 := hb171.pure hc413
  have hb417 := hb172.pure hc413
  have hb418 := hb173.pure hc413
  have hb419 := hb167.pure hc413
  refine WR.batch 2 [(8, .int .u32 x407), (9, .int .i64 0)] (by kernel_rfl) ?_
  refine WR.fin (by kernel_rfl) ?_
  refine go hK406 ?_
  refine CW.ret ?_
  exact retV (.tuple #[.int .u32 x407, .int .i64 0]) (by kernel_rfl) (⟨hC414, (congrArg (fun r : (Int × Int) => (.tuple #[.int .u32 r.1, .int .i64 r.2] : Value)) hs410).symm⟩)
 have hs420 := ifF hq402 hs401
 refine WR.valR (dst := some 39) (v := .tuple #[.nilFunc, .bool false]) (w' := w166) (run_lookup (t := 108) (co := true) (kt := 22) (et := 106) (d := .int .u8) (x := .int .u8 a0) (z := .nilFunc) hb167 (by kernel_rfl) (by kernel_rfl) rfl (none) (by exact findNow_no _ _ _ _ (by simp only [keysNe, hq174, hq193, hq212, hq231, hq250, hq269, hq288, hq307, hq326, hq345, hq364, hq383, hq402]; rfl)) (by kernel_rfl) _ (by kernel_rfl)) ?_
 refine WR.batch 5 [(10, .nilFunc), (11, .bool false)] (by kernel_rfl) ?_
 refine WR.fin (by kernel_rfl) ?_
 refine go hK53 ?_
 refine CW.seq fun K421 hK421 => ?_
 refine CW.seq fun K422 hK422 => ?_
 refine CW.region ?_
 refine WR.batch 2 [(10, .nilFunc), (43, .bool true)] (by kernel_rfl) ?_
 refine WR.fin (by kernel_rfl) ?_
 refine go hK422 ?_
 refine CW.yes (by kernel_rfl) ?_
 refine CW.seq fun K423 hK423 => ?_
 refine CW.region ?_
 refine WR.batch 2 [(8, .int .u32 0), (9, .int .i64 2)] (by kernel_rfl) ?_
 refine WR.fin (by kernel_rfl) ?_
 refine go hK423 ?_
 refine CW.ret ?_
 exact retV (.tuple #[.int .u32 0, .int .i64 2]) (by kernel_rfl) (⟨hC169, (congrArg (fun r : (Int × Int) => (.tuple #[.int .u32 r.1, .int .i64 r.2] : Value)) hs420).symm⟩)

def alu_is_u32 (a0 : Int) (a1 : Int) (a2 : Int)  : (Bool × Int) := (if (a0 == (17 : Int)) then ((a1 == a2), (0 : Int)) else (if (a0 == (18 : Int)) then ((a1 != a2), (0 : Int)) else (if (a0 == (19 : Int)) then (decide (a1 > a2), (0 : Int)) else (if (a0 == (20 : Int)) then (decide (a1 ≥ a2), (0 : Int)) else (if (a0 == (21 : Int)) then (decide (a1 < a2), (0 : Int)) else (if (a0 == (22 : Int)) then (decide (a1 ≤ a2), (0 : Int)) else (if (a0 == (23 : Int)) then (decide ((IntKind.i32.wrap a1) > (IntKind.i32.wrap a2)), (0 : Int)) else (if (a0 == (24 : Int)) then (decide ((IntKind.i32.wrap a1) ≥ (IntKind.i32.wrap a2)), (0 : Int)) else (if (a0 == (25 : Int)) then (decide ((IntKind.i32.wrap a1) < (IntKind.i32.wrap a2)), (0 : Int)) else (if (a0 == (26 : Int)) then (decide ((IntKind.i32.wrap a1) ≤ (IntKind.i32.wrap a2)), (0 : Int)) else (if (a0 == (27 : Int)) then (((bAnd .u32 a1 a2) != (0 : Int)), (0 : Int)) else (false, (2 : Int)))))))))))))

theorem alu_is_u32_ok (a0 : Int) (a1 : Int) (a2 : Int)  (_h_a0 : (0 ≤ a0 ∧ a0 ≤ 255)) (_h_a1 : (0 ≤ a1 ∧ a1 ≤ 4294967295)) (_h_a2 : (0 ≤ a2 ∧ a2 ≤ 4294967295))  : (-9223372036854775808 ≤ (alu_is_u32 a0 a1 a2).2 ∧ (alu_is_u32 a0 a1 a2).2 ≤ 9223372036854775807) := by
 rw [alu_is_u32.eq_1]
 refine iteR (p := fun r : (Bool × Int) => (-9223372036854775808 ≤ r.2 ∧ r.2 ≤ 9223372036854775807)) (fun hi1001 => ?_) (fun hi1001 => ?_)
 ·
  replace hi1001 : a0 = (17 : Int) := (bEqT hi1001)
  exact (by exact (show (-9223372036854775808 ≤ (0 : Int) ∧ (0 : Int) ≤ 9223372036854775807) from (by omega)))
 replace hi1001 : a0 ≠ (17 : Int) := (bEqF hi1001)
 refine iteR (p := fun r : (Bool × Int) => (-9223372036854775808 ≤ r.2 ∧ r.2 ≤ 9223372036854775807)) (fun hi1002 => ?_) (fun hi1002 => ?_)
 ·
  replace hi1002 : a0 = (18 : Int) := (bEqT hi1002)
  exact (by exact (show (-9223372036854775808 ≤ (0 : Int) ∧ (0 : Int) ≤ 9223372036854775807) from (by omega)))
 replace hi1002 : a0 ≠ (18 : Int) := (bEqF hi1002)
 refine iteR (p := fun r : (Bool × Int) => (-9223372036854775808 ≤ r.2 ∧ r.2 ≤ 9223372036854775807)) (fun hi1003 => ?_) (fun hi1003 => ?_)
 ·
  replace hi1003 : a0 = (19 : Int) := (bEqT hi1003)
  exact (by exact (show (-9223372036854775808 ≤ (0 : Int) ∧ (0 : Int) ≤ 9223372036854775807) from (by omega)))
 replace hi1003 : a0 ≠ (19 : Int) := (bEqF hi1003)
 refine iteR (p := fun r : (Bool × Int) => (-9223372036854775808 ≤ r.2 ∧ r.2 ≤ 9223372036854775807)) (fun hi1004 => ?_) (fun hi1004 => ?_)
 ·
  replace hi1004 : a0 = (20 : Int) := (bEqT hi1004)
  exact (by exact (show (-9223372036854775808 ≤ (0 : Int) ∧ (0 : Int) ≤ 9223372036854775807) from (by omega)))
 replace hi1004 : a0 ≠ (20 : Int) := (bEqF hi1004)
 refine iteR (p := fun r : (Bool × Int) => (-9223372036854775808 ≤ r.2 ∧ r.2 ≤ 9223372036854775807)) (fun hi1005 => ?_) (fun hi1005 => ?_)
 ·
  replace hi1005 : a0 = (21 : Int) := (bEqT hi1005)
  exact (by exact (show (-9223372036854775808 ≤ (0 : Int) ∧ (0 : Int) ≤ 9223372036854775807) from (by omega)))
 replace hi1005 : a0 ≠ (21 : Int) := (bEqF hi1005)
 refine iteR (p := fun r : (Bool × Int) => (-9223372036854775808 ≤ r.2 ∧ r.2 ≤ 9223372036854775807)) (fun hi1006 => ?_) (fun hi1006 => ?_)
 ·
  replace hi1006 : a0 = (22 : Int) := (bEqT hi1006)
  exact (by exact (show (-9223372036854775808 ≤ (0 : Int) ∧ (0 : Int) ≤ 9223372036854775807) from (by omega)))
 replace hi1006 : a0 ≠ (22 : Int) := (bEqF hi1006)
 refine iteR (p := fun r : (Bool × Int) => (-9223372036854775808 ≤ r.2 ∧ r.2 ≤ 9223372036854775807)) (fun hi1007 => ?_) (fun hi1007 => ?_)
 ·
  replace hi1007 : a0 = (23 : Int) := (bEqT hi1007)
  exact (by exact (show (-9223372036854775808 ≤ (0 : Int) ∧ (0 : Int) ≤ 9223372036854775807) from (by omega)))
 replace hi1007 : a0 ≠ (23 : Int) := (bEqF hi1007)
 refine iteR (p := fun r : (Bool × Int) => (-9223372036854775808 ≤ r.2 ∧ r.2 ≤ 9223372036854775807)) (fun hi1008 => ?_) (fun hi1008 => ?_)
 ·
  replace hi1008 : a0 = (24 : Int) := (bEqT hi1008)
  exact (by exact (show (-9223372036854775808 ≤ (0 : Int) ∧ (0 : Int) ≤ 9223372036854775807) from (by omega)))
 replace hi1008 : a0 ≠ (24 : Int) := (bEqF hi1008)
 refine iteR (p := fun r : (Bool × Int) => (-9223372036854775808 ≤ r.2 ∧ r.2 ≤ 9223372036854775807)) (fun hi1009 => ?_) (fun hi1009 => ?_)
 ·
  replace hi1009 : a0 = (25 : Int) := (bEqT hi1009)
  exact (by exact (show (-9223372036854775808 ≤ (0 : Int) ∧ (0 : Int) ≤ 9223372036854775807) from (by omega)))
 replace hi1009 : a0 ≠ (25 : Int) := (bEqF hi1009)
 refine iteR (p := fun r : (Bool × Int) => (-9223372036854775808 ≤ r.2 ∧ r.2 ≤ 9223372036854775807)) (fun hi1010 => ?_) (fun hi1010 => ?_)
 ·
  replace hi1010 : a0 = (26 : Int) := (bEqT hi1010)
  exact (by exact (show (-9223372036854775808 ≤ (0 : Int) ∧ (0 : Int) ≤ 9223372036854775807) from (by omega)))
 replace hi1010 : a0 ≠ (26 : Int) := (bEqF hi1010)
 refine iteR (p := fun r : (Bool × Int) => (-9223372036854775808 ≤ r.2 ∧ r.2 ≤ 9223372036854775807)) (fun hi1011 => ?_) (fun hi1011 => ?_)
 ·
  replace hi1011 : a0 = (27 : Int) := (bEqT hi1011)
  exact (by exact (show (-9223372036854775808 ≤ (0 : Int) ∧ (0 : Int) ≤ 9223372036854775807) from (by omega)))
 replace hi1011 : a0 ≠ (27 : Int) := (bEqF hi1011)
 exact (by exact (show (-9223372036854775808 ≤ (2 : Int) ∧ (2 : Int) ≤ 9223372036854775807) from (by omega)))

set_option maxHeartbeats 4000000 in
theorem alu_is_u32_any (a0 : Int) (a1 : Int) (a2 : Int)   (w : World)  (_h_a0 : (0 ≤ a0 ∧ a0 ≤ 255)) (_h_a1 : (0 ≤ a1 ∧ a1 ≤ 4294967295)) (_h_a2 : (0 ≤ a2 ∧ a2 ≤ 4294967295))  : Calls Try.prog 61 #[.int .u8 a0, .int .u32 a1, .int .u32 a2] w (RetV w (.tuple #[.bool (alu_is_u32 a0 a1 a2).1, .int .i64 (alu_is_u32 a0 a1 a2).2])) := by
 have hs := alu_is_u32.eq_1 a0 a1 a2
 refine calls_of_CW Try.func61 rfl (n := 73) Try.ntmps61 (by kernel_rfl) [0, 1, 2] (F := [(0, .int .u8 a0), (1, .int .u32 a1), (2, .int .u32 a2)]) (by kernel_rfl) ?_
 refine CW.seq fun K1 hK1 => ?_
 refine CW.region ?_
 refine WR.batch 2 [(0, .int .u8 a0), (1, .int .u32 a1), (2, .int .u32 a2)] (by kernel_rfl) ?_
 refine WR.fin (by kernel_rfl) ?_
 refine go hK1 ?_
 refine CW.seq fun K2 hK2 => ?_
 refine CW.seq fun K3 hK3 => ?_
 refine CW.region ?_
 refine WR.batch 1 [(1, .int .u32 a1), (2, .int .u32 a2), (8, .int .u8 a0)] (by kernel_rfl) ?_
 refine WR.fin (by kernel_rfl) ?_
 refine go hK3 ?_
 refine CW.block ?_
 refine CW.seq fun K4 hK4 => ?_
 refine CW.region ?_
 refine WR.batch 2 [(1, .int .u32 a1), (2, .int .u32 a2), (8, .int .u8 a0), (9, .bool (a0 == (17 : Int)))] (by kernel_rfl) ?_
 refine WR.fin (by kernel_rfl) ?_
 refine go hK4 ?_
 refine CW.cond ((a0 == (17 : Int))) (by kernel_rfl) (fun ht5 => ?_) (fun ht5 => ?_)
 ·
  have hs6 := ifT ht5 hs
  replace ht5 : a0 = (17 : Int) := (bEqT ht5)
  refine CW.seq fun K7 hK7 => ?_
  refine CW.region ?_
  refine WR.batch 5 [(6, .bool (a1 == a2)), (7, .int .i64 0)] (by kernel_rfl) ?_
  refine WR.fin (by kernel_rfl) ?_
  refine go hK7 ?_
  refine CW.ret ?_
  exact retV (.tuple #[.bool (a1 == a2), .int .i64 0]) (by kernel_rfl) (⟨(Chg.refl _ _), (congrArg (fun r : (Bool × Int) => (.tuple #[.bool r.1, .int .i64 r.2] : Value)) hs6).symm⟩)
 have hs8 := ifF ht5 hs
 replace ht5 : a0 ≠ (17 : Int) := (bEqF ht5)
 refine CW.seq fun K9 hK9 => ?_
 refine CW.region ?_
 refine WR.batch 2 [(1, .int .u32 a1), (2, .int .u32 a2), (8, .int .u8 a0), (14, .bool (a0 == (18 : Int)))] (by kernel_rfl) ?_
 refine WR.fin (by kernel_rfl) ?_
 refine go hK9 ?_
 refine CW.cond ((a0 == (18 : Int))) (by kernel_rfl) (fun ht10 => ?_) (fun ht10 => ?_)
 ·
  have hs11 := ifT ht10 hs8
  replace ht10 : a0 = (18 : Int) := (bEqT ht10)
  refine CW.seq fun K12 hK12 => ?_
  refine CW.region ?_
  refine WR.batch 5 [(6, .bool (a1 != a2)), (7, .int .i64 0)] (by kernel_rfl) ?_
  refine WR.fin (by kernel_rfl) ?_
  refine go hK12 ?_
  refine CW.ret ?_
  exact retV (.tuple #[.bool (a1 != a2), .int .i64 0]) (by kernel_rfl) (⟨(Chg.refl _ _), (congrArg (fun r : (Bool × Int) => (.tuple #[.bool r.1, .int .i64 r.2] : Value)) hs11).symm⟩)
 have hs13 := ifF ht10 hs8
 replace ht10 : a0 ≠ (18 : Int) := (bEqF ht10)
 refine CW.seq fun K14 hK14 => ?_
 refine CW.region ?_
 refine WR.batch 2 [(1, .int .u32 a1), (2, .int .u32 a2), (8, .int .u8 a0), (19, .bool (a0 == (19 : Int)))] (by kernel_rfl) ?_
 refine WR.fin (by kernel_rfl) ?_
 refine go hK14 ?_
 refine CW.cond ((a0 == (19 : Int))) (by kernel_rfl) (fun ht15 => ?_) (fun ht15 => ?_)
 ·
  have hs16 := ifT ht15 hs13
  replace ht15 : a0 = (19 : Int) := (bEqT ht15)
  refine CW.seq fun K17 hK17 => ?_
  refine CW.region ?_
  refine WR.batch 5 [(6, .bool (decide (a1 > a2))), (7, .int .i64 0)] (by kernel_rfl) ?_
  refine WR.fin (by kernel_rfl) ?_
  refine go hK17 ?_
  refine CW.ret ?_
  exact retV (.tuple #[.bool (decide (a1 > a2)), .int .i64 0]) (by kernel_rfl) (⟨(Chg.refl _ _), (congrArg (fun r : (Bool × Int) => (.tuple #[.bool r.1, .int .i64 r.2] : Value)) hs16).symm⟩)
 have hs18 := ifF ht15 hs13
 replace ht15 : a0 ≠ (19 : Int) := (bEqF ht15)
 refine CW.seq fun K19 hK19 => ?_
 refine CW.region ?_
 refine WR.batch 2 [(1, .int .u32 a1), (2, .int .u32 a2), (8, .int .u8 a0), (24, .bool (a0 == (20 : Int)))] (by kernel_rfl) ?_
 refine WR.fin (by kernel_rfl) ?_
 refine go hK19 ?_
 refine CW.cond ((a0 == (20 : Int))) (by kernel_rfl) (fun ht20 => ?_) (fun ht20 => ?_)
 ·
  have hs21 := ifT ht20 hs18
  replace ht20 : a0 = (20 : Int) := (bEqT ht20)
  refine CW.seq fun K22 hK22 => ?_
  refine CW.region ?_
  refine WR.batch 5 [(6, .bool (decide (a1 ≥ a2))), (7, .int .i64 0)] (by kernel_rfl) ?_
  refine WR.fin (by kernel_rfl) ?_
  refine go hK22 ?_
  refine CW.ret ?_
  exact retV (.tuple #[.bool (decide (a1 ≥ a2)), .int .i64 0]) (by kernel_rfl) (⟨(Chg.refl _ _), (congrArg (fun r : (Bool × Int) => (.tuple #[.bool r.1, .int .i64 r.2] : Value)) hs21).symm⟩)
 have hs23 := ifF ht20 hs18
 replace ht20 : a0 ≠ (20 : Int) := (bEqF ht20)
 refine CW.seq fun K24 hK24 => ?_
 refine CW.region ?_
 refine WR.batch 2 [(1, .int .u32 a1), (2, .int .u32 a2), (8, .int .u8 a0), (29, .bool (a0 == (21 : Int)))] (by kernel_rfl) ?_
 refine WR.fin (by kernel_rfl) ?_
 refine go hK24 ?_
 refine CW.cond ((a0 == (21 : Int))) (by kernel_rfl) (fun ht25 => ?_) (fun ht25 => ?_)
 ·
  have hs26 := ifT ht25 hs23
  replace ht25 : a0 = (21 : Int) := (bEqT ht25)
  refine CW.seq fun K27 hK27 => ?_
  refine CW.region ?_
  refine WR.batch 5 [(6, .bool (decide (a1 < a2))), (7, .int .i64 0)] (by kernel_rfl) ?_
  refine WR.fin (by kernel_rfl) ?_
  refine go hK27 ?_
  refine CW.ret ?_
  exact retV (.tuple #[.bool (decide (a1 < a2)), .int .i64 0]) (by kernel_rfl) (⟨(Chg.refl _ _), (congrArg (fun r : (Bool × Int) => (.tuple #[.bool r.1, .int .i64 r.2] : Value)) hs26).symm⟩)
 have hs28 := ifF ht25 hs23
 replace ht25 : a0 ≠ (21 : Int) := (bEqF ht25)
 refine CW.seq fun K29 hK29 => ?_
 refine CW.region ?_
 refine WR.batch 2 [(1, .int .u32 a1), (2, .int .u32 a2), (8, .int .u8 a0), (34, .bool (a0 == (22 : Int)))] (by kernel_rfl) ?_
 refine WR.fin (by kernel_rfl) ?_
 refine go hK29 ?_
 refine CW.cond ((a0 == (22 : Int))) (by kernel_rfl) (fun ht30 => ?_) (fun ht30 => ?_)
 ·
  have hs31 := ifT ht30 hs28
  replace ht30 : a0 = (22 : Int) := (bEqT ht30)
  refine CW.seq fun K32 hK32 => ?_
  refine CW.region ?_
  refine WR.batch 5 [(6, .bool (decide (a1 ≤ a2))), (7, .int .i64 0)] (by kernel_rfl) ?_
  refine WR.fin (by kernel_rfl) ?_
  refine go hK32 ?_
  refine CW.ret ?_
  exact retV (.tuple #[.bool (decide (a1 ≤ a2)), .int .i64 0]) (by kernel_rfl) (⟨(Chg.refl _ _), (congrArg (fun r : (Bool × Int) => (.tuple #[.bool r.1, .int .i64 r.2] : Value)) hs31).symm⟩)
 have hs33 := ifF ht30 hs28
 replace ht30 : a0 ≠ (22 : Int) := (bEqF ht30)
 refine CW.seq fun K34 hK34 => ?_
 refine CW.region ?_
 refine WR.batch 2 [(1, .int .u32 a1), (2, .int .u32 a2), (8, .int .u8 a0), (39, .bool (a0 == (23 : Int)))] (by kernel_rfl) ?_
 refine WR.fin (by kernel_rfl) ?_
 refine go hK34 ?_
 refine CW.cond ((a0 == (23 : Int))) (by kernel_rfl) (fun ht35 => ?_) (fun ht35 => ?_)
 ·
  have hs36 := ifT ht35 hs33
  replace ht35 : a0 = (23 : Int) := (bEqT ht35)
  refine CW.seq fun K37 hK37 => ?_
  refine CW.region ?_
  refine WR.batch 7 [(6, .bool (decide ((IntKind.i32.wrap a1) > (IntKind.i32.wrap a2)))), (7, .int .i64 0)] (by kernel_rfl) ?_
  refine WR.fin (by kernel_rfl) ?_
  refine go hK37 ?_
  refine CW.ret ?_
  exact retV (.tuple #[.bool (decide ((IntKind.i32.wrap a1) > (IntKind.i32.wrap a2))), .int .i64 0]) (by kernel_rfl) (⟨(Chg.refl _ _), (congrArg (fun r : (Bool × Int) => (.tuple #[.bool r.1, .int .i64 r.2] : Value)) hs36).symm⟩)
 have hs38 := ifF ht35 hs33
 replace ht35 : a0 ≠ (23 : Int) := (bEqF ht35)
 refine CW.seq fun K39 hK39 => ?_
 refine CW.region ?_
 refine WR.batch 2 [(1, .int .u32 a1), (2, .int .u32 a2), (8, .int .u8 a0), (46, .bool (a0 == (24 : Int)))] (by kernel_rfl) ?_
 refine WR.fin (by kernel_rfl) ?_
 refine go hK39 ?_
 refine CW.cond ((a0 == (24 : Int))) (by kernel_rfl) (fun ht40 => ?_) (fun ht40 => ?_)
 ·
  have hs41 := ifT ht40 hs38
  replace ht40 : a0 = (24 : Int) := (bEqT ht40)
  refine CW.seq fun K42 hK42 => ?_
  refine CW.region ?_
  refine WR.batch 7 [(6, .bool (decide ((IntKind.i32.wrap a1) ≥ (IntKind.i32.wrap a2)))), (7, .int .i64 0)] (by kernel_rfl) ?_
  refine WR.fin (by kernel_rfl) ?_
  refine go hK42 ?_
  refine CW.ret ?_
  exact retV (.tuple #[.bool (decide ((IntKind.i32.wrap a1) ≥ (IntKind.i32.wrap a2))), .int .i64 0]) (by kernel_rfl) (⟨(Chg.refl _ _), (congrArg (fun r : (Bool × Int) => (.tuple #[.bool r.1, .int .i64 r.2] : Value)) hs41).symm⟩)
 have hs43 := ifF ht40 hs38
 replace ht40 : a0 ≠ (24 : Int) := (bEqF ht40)
 refine CW.seq fun K44 hK44 => ?_
 refine CW.region ?_
 refine WR.batch 2 [(1, .int .u32 a1), (2, .int .u32 a2), (8, .int .u8 a0), (53, .bool (a0 == (25 : Int)))] (by kernel_rfl) ?_
 refine WR.fin (by kernel_rfl) ?_
 refine go hK44 ?_
 refine CW.cond ((a0 == (25 : Int))) (by kernel_rfl) (fun ht45 => ?_) (fun ht45 => ?_)
 ·
  have hs46 := ifT ht45 hs43
  replace ht45 : a0 = (25 : Int) := (bEqT ht45)
  refine CW.seq fun K47 hK47 => ?_
  refine CW.region ?_
  refine WR.batch 7 [(6, .bool (decide ((IntKind.i32.wrap a1) < (IntKind.i32.wrap a2)))), (7, .int .i64 0)] (by kernel_rfl) ?_
  refine WR.fin (by kernel_rfl) ?_
  refine go hK47 ?_
  refine CW.ret ?_
  exact retV (.tuple #[.bool (decide ((IntKind.i32.wrap a1) < (IntKind.i32.wrap a2))), .int .i64 0]) (by kernel_rfl) (⟨(Chg.refl _ _), (congrArg (fun r : (Bool × Int) => (.tuple #[.bool r.1, .int .i64 r.2] : Value)) hs46).symm⟩)
 have hs48 := ifF ht45 hs43
 replace ht45 : a0 ≠ (25 : Int) := (bEqF ht45)
 refine CW.seq fun K49 hK49 => ?_
 refine CW.region ?_
 refine WR.batch 2 [(1, .int .u32 a1), (2, .int .u32 a2), (8, .int .u8 a0), (60, .bool (a0 == (26 : Int)))] (by kernel_rfl) ?_
 refine WR.fin (by kernel_rfl) ?_
 refine go hK49 ?_
 refine CW.cond ((a0 == (26 : Int))) (by kernel_rfl) (fun ht50 => ?_) (fun ht50 => ?_)
 ·
  have hs51 := ifT ht50 hs48
  replace ht50 : a0 = (26 : Int) := (bEqT ht50)
  refine CW.seq fun K52 hK52 => ?_
  refine CW.region ?_
  refine WR.batch 7 [(6, .bool (decide ((IntKind.i32.wrap a1) ≤ (IntKind.i32.wrap a2)))), (7, .int .i64 0)] (by kernel_rfl) ?_
  refine WR.fin (by kernel_rfl) ?_
  refine go hK52 ?_
  refine CW.ret ?_
  exact retV (.tuple #[.bool (decide ((IntKind.i32.wrap a1) ≤ (IntKind.i32.wrap a2))), .int .i64 0]) (by kernel_rfl) (⟨(Chg.refl _ _), (congrArg (fun r : (Bool × Int) => (.tuple #[.bool r.1, .int .i64 r.2] : Value)) hs51).symm⟩)
 have hs53 := ifF ht50 hs48
 replace ht50 : a0 ≠ (26 : Int) := (bEqF ht50)
 refine CW.seq fun K54 hK54 => ?_
 refine CW.region ?_
 refine WR.batch 2 [(1, .int .u32 a1), (2, .int .u32 a2), (67, .bool (a0 == (27 : Int)))] (by kernel_rfl) ?_
 refine WR.fin (by kernel_rfl) ?_
 refine go hK54 ?_
 refine CW.cond ((a0 == (27 : Int))) (by kernel_rfl) (fun ht55 => ?_) (fun ht55 => ?_)
 ·
  have hs56 := ifT ht55 hs53
  replace ht55 : a0 = (27 : Int) := (bEqT ht55)
  refine CW.seq fun K57 hK57 => ?_
  refine CW.region ?_
  refine WR.batch 6 [(6, .bool ((bAnd .u32 a1 a2) != (0 : Int))), (7, .int .i64 0)] (by kernel_rfl) ?_
  refine WR.fin (by kernel_rfl) ?_
  refine go hK57 ?_
  refine CW.ret ?_
  exact retV (.tuple #[.bool ((bAnd .u32 a1 a2) != (0 : Int)), .int .i64 0]) (by kernel_rfl) (⟨(Chg.refl _ _), (congrArg (fun r : (Bool × Int) => (.tuple #[.bool r.1, .int .i64 r.2] : Value)) hs56).symm⟩)
 have hs58 := ifF ht55 hs53
 replace ht55 : a0 ≠ (27 : Int) := (bEqF ht55)
 refine CW.skip ?_
 refine go hK2 ?_
 refine CW.seq fun K59 hK59 => ?_
 refine CW.region ?_
 refine WR.batch 2 [(6, .bool false), (7, .int .i64 2)] (by kernel_rfl) ?_
 refine WR.fin (by kernel_rfl) ?_
 refine go hK59 ?_
 refine CW.ret ?_
 exact retV (.tuple #[.bool false, .int .i64 2]) (by kernel_rfl) (⟨(Chg.refl _ _), (congrArg (fun r : (Bool × Int) => (.tuple #[.bool r.1, .int .i64 r.2] : Value)) hs58).symm⟩)

def alu_do_u64_1  (c0 : Int) (c1 : Int) : Int := (IntKind.u64.wrap (c0 + c1))

theorem alu_do_u64_1_ok  (c0 : Int) (c1 : Int) (_h_c0 : (0 ≤ c0 ∧ c0 ≤ 18446744073709551615)) (_h_c1 : (0 ≤ c1 ∧ c1 ≤ 18446744073709551615))  : (0 ≤ (alu_do_u64_1 c0 c1) ∧ (alu_do_u64_1 c0 c1) ≤ 18446744073709551615) := by
 rw [alu_do_u64_1.eq_1]
 exact (by exact (show (0 ≤ (IntKind.u64.wrap (c0 + c1)) ∧ (IntKind.u64.wrap (c0 + c1)) ≤ 18446744073709551615) from (wrapU64 _)))

theorem alu_do_u64_1_any  (c0 : Int) (c1 : Int) (g0_ : Nat) (g1_ : Nat)  (w : World) (hb0_ : Blk w g0_ #[.int .u64 c0] 23) (hb1_ : Blk w g1_ #[.int .u64 c1] 23) (_h_c0 : (0 ≤ c0 ∧ c0 ≤ 18446744073709551615)) (_h_c1 : (0 ≤ c1 ∧ c1 ≤ 18446744073709551615))  : Calls Try.prog 107 #[pt g0_ 0, pt g1_ 0] w (RetV w (.int .u64 (alu_do_u64_1 c0 c1))) := by
 have hs := alu_do_u64_1.eq_1 c0 c1
 refine calls_of_CW Try.func107 rfl (n := 6) Try.ntmps107 (by kernel_rfl) [0, 1] (F := [(0, pt g0_ 0), (1, pt g1_ 0)]) (by kernel_rfl) ?_
 have hg1 := hb0_.lt
 have hg2 := hb1_.lt
 refine CW.seq fun K3 hK3 => ?_
 refine CW.region ?_
 refine WR.batch 1 [(0, pt g0_ 0), (1, pt g1_ 0)] (by kernel_rfl) ?_
 refine WR.fin (by kernel_rfl) ?_
 refine go hK3 ?_
 refine CW.seq fun K4 hK4 => ?_
 refine CW.region ?_
 refine WR.load (dst := some 3) (t := 23) (o := 0) hb0_ (by kernel_rfl) (.int .u64 c0) (by kernel_rfl) ?_
 refine WR.load (dst := some 4) (t := 23) (o := 0) hb1_ (by kernel_rfl) (.int .u64 c1) (by kernel_rfl) ?_
 refine WR.batch 2 [(2, .int .u64 (IntKind.u64.wrap (c0 + c1)))] (by kernel_rfl) ?_
 refine WR.fin (by kernel_rfl) ?_
 refine go hK4 ?_
 refine CW.ret ?_
 exact retV (.int .u64 (IntKind.u64.wrap (c0 + c1))) (by kernel_rfl) (⟨(Chg.refl _ _), (congrArg (fun r : Int => (.int .u64 r : Value)) hs).symm⟩)

def alu_do_u64_2  (c0 : Int) (c1 : Int) : Int := (IntKind.u64.wrap (c0 - c1))

theorem alu_do_u64_2_ok  (c0 : Int) (c1 : Int) (_h_c0 : (0 ≤ c0 ∧ c0 ≤ 18446744073709551615)) (_h_c1 : (0 ≤ c1 ∧ c1 ≤ 18446744073709551615))  : (0 ≤ (alu_do_u64_2 c0 c1) ∧ (alu_do_u64_2 c0 c1) ≤ 18446744073709551615) := by
 rw [alu_do_u64_2.eq_1]
 exact (by exact (show (0 ≤ (IntKind.u64.wrap (c0 - c1)) ∧ (IntKind.u64.wrap (c0 - c1)) ≤ 18446744073709551615) from (wrapU64 _)))

theorem alu_do_u64_2_any  (c0 : Int) (c1 : Int) (g0_ : Nat) (g1_ : Nat)  (w : World) (hb0_ : Blk w g0_ #[.int .u64 c0] 23) (hb1_ : Blk w g1_ #[.int .u64 c1] 23) (_h_c0 : (0 ≤ c0 ∧ c0 ≤ 18446744073709551615)) (_h_c1 : (0 ≤ c1 ∧ c1 ≤ 18446744073709551615))  : Calls Try.prog 108 #[pt g0_ 0, pt g1_ 0] w (RetV w (.int .u64 (alu_do_u64_2 c0 c1))) := by
 have hs := alu_do_u64_2.eq_1 c0 c1
 refine calls_of_CW Try.func108 rfl (n := 6) Try.ntmps108 (by kernel_rfl) [0, 1] (F := [(0, pt g0_ 0), (1, pt g1_ 0)]) (by kernel_rfl) ?_
 have hg1 := hb0_.lt
 have hg2 := hb1_.lt
 refine CW.seq fun K3 hK3 => ?_
 refine CW.region ?_
 refine WR.batch 1 [(0, pt g0_ 0), (1, pt g1_ 0)] (by kernel_rfl) ?_
 refine WR.fin (by kernel_rfl) ?_
 refine go hK3 ?_
 refine CW.seq fun K4 hK4 => ?_
 refine CW.region ?_
 refine WR.load (dst := some 3) (t := 23) (o := 0) hb0_ (by kernel_rfl) (.int .u64 c0) (by kernel_rfl) ?_
 refine WR.load (dst := some 4) (t := 23) (o := 0) hb1_ (by kernel_rfl) (.int .u64 c1) (by kernel_rfl) ?_
 refine WR.batch 2 [(2, .int .u64 (IntKind.u64.wrap (c0 - c1)))] (by kernel_rfl) ?_
 refine WR.fin (by kernel_rfl) ?_
 refine go hK4 ?_
 refine CW.ret ?_
 exact retV (.int .u64 (IntKind.u64.wrap (c0 - c1))) (by kernel_rfl) (⟨(Chg.refl _ _), (congrArg (fun r : Int => (.int .u64 r : Value)) hs).symm⟩)

def alu_do_u64_3  (c0 : Int) (c1 : Int) : Int := (IntKind.u64.wrap (c0 * c1))

theorem alu_do_u64_3_ok  (c0 : Int) (c1 : Int) (_h_c0 : (0 ≤ c0 ∧ c0 ≤ 18446744073709551615)) (_h_c1 : (0 ≤ c1 ∧ c1 ≤ 18446744073709551615))  : (0 ≤ (alu_do_u64_3 c0 c1) ∧ (alu_do_u64_3 c0 c1) ≤ 18446744073709551615) := by
 rw [alu_do_u64_3.eq_1]
 exact (by exact (show (0 ≤ (IntKind.u64.wrap (c0 * c1)) ∧ (IntKind.u64.wrap (c0 * c1)) ≤ 18446744073709551615) from (wrapU64 _)))

theorem alu_do_u64_3_any  (c0 : Int) (c1 : Int) (g0_ : Nat) (g1_ : Nat)  (w : World) (hb0_ : Blk w g0_ #[.int .u64 c0] 23) (hb1_ : Blk w g1_ #[.int .u64 c1] 23) (_h_c0 : (0 ≤ c0 ∧ c0 ≤ 18446744073709551615)) (_h_c1 : (0 ≤ c1 ∧ c1 ≤ 18446744073709551615))  : Calls Try.prog 109 #[pt g0_ 0, pt g1_ 0] w (RetV w (.int .u64 (alu_do_u64_3 c0 c1))) := by
 have hs := alu_do_u64_3.eq_1 c0 c1
 refine calls_of_CW Try.func109 rfl (n := 6) Try.ntmps109 (by kernel_rfl) [0, 1] (F := [(0, pt g0_ 0), (1, pt g1_ 0)]) (by kernel_rfl) ?_
 have hg1 := hb0_.lt
 have hg2 := hb1_.lt
 refine CW.seq fun K3 hK3 => ?_
 refine CW.region ?_
 refine WR.batch 1 [(0, pt g0_ 0), (1, pt g1_ 0)] (by kernel_rfl) ?_
 refine WR.fin (by kernel_rfl) ?_
 refine go hK3 ?_
 refine CW.seq fun K4 hK4 => ?_
 refine CW.region ?_
 refine WR.load (dst := some 3) (t := 23) (o := 0) hb0_ (by kernel_rfl) (.int .u64 c0) (by kernel_rfl) ?_
 refine WR.load (dst := some 4) (t := 23) (o := 0) hb1_ (by kernel_rfl) (.int .u64 c1) (by kernel_rfl) ?_
 refine WR.batch 2 [(2, .int .u64 (IntKind.u64.wrap (c0 * c1)))] (by kernel_rfl) ?_
 refine WR.fin (by kernel_rfl) ?_
 refine go hK4 ?_
 refine CW.ret ?_
 exact retV (.int .u64 (IntKind.u64.wrap (c0 * c1))) (by kernel_rfl) (⟨(Chg.refl _ _), (congrArg (fun r : Int => (.int .u64 r : Value)) hs).symm⟩)

def alu_do_u64_4  (c0 : Int) (c1 : Int) : Int := (IntKind.u64.wrap ((c0).tdiv c1))

theorem alu_do_u64_4_ok  (c0 : Int) (c1 : Int) (_h_c0 : (0 ≤ c0 ∧ c0 ≤ 18446744073709551615)) (_h_c1 : (0 ≤ c1 ∧ c1 ≤ 18446744073709551615)) (_hc : c1 ≠ 0) : (0 ≤ (alu_do_u64_4 c0 c1) ∧ (alu_do_u64_4 c0 c1) ≤ 18446744073709551615) := by
 rw [alu_do_u64_4.eq_1]
 exact (by exact (show (0 ≤ (IntKind.u64.wrap ((c0).tdiv c1)) ∧ (IntKind.u64.wrap ((c0).tdiv c1)) ≤ 18446744073709551615) from (wrapU64 _)))

theorem alu_do_u64_4_any  (c0 : Int) (c1 : Int) (g0_ : Nat) (g1_ : Nat)  (w : World) (hb0_ : Blk w g0_ #[.int .u64 c0] 23) (hb1_ : Blk w g1_ #[.int .u64 c1] 23) (_h_c0 : (0 ≤ c0 ∧ c0 ≤ 18446744073709551615)) (_h_c1 : (0 ≤ c1 ∧ c1 ≤ 18446744073709551615)) (_hc : c1 ≠ 0) : Calls Try.prog 110 #[pt g0_ 0, pt g1_ 0] w (RetV w (.int .u64 (alu_do_u64_4 c0 c1))) := by
 have hs := alu_do_u64_4.eq_1 c0 c1
 refine calls_of_CW Try.func110 rfl (n := 6) Try.ntmps110 (by kernel_rfl) [0, 1] (F := [(0, pt g0_ 0), (1, pt g1_ 0)]) (by kernel_rfl) ?_
 have hg1 := hb0_.lt
 have hg2 := hb1_.lt
 refine CW.seq fun K3 hK3 => ?_
 refine CW.region ?_
 refine WR.batch 1 [(0, pt g0_ 0), (1, pt g1_ 0)] (by kernel_rfl) ?_
 refine WR.fin (by kernel_rfl) ?_
 refine go hK3 ?_
 refine CW.seq fun K4 hK4 => ?_
 refine CW.region ?_
 refine WR.load (dst := some 3) (t := 23) (o := 0) hb0_ (by kernel_rfl) (.int .u64 c0) (by kernel_rfl) ?_
 refine WR.load (dst := some 4) (t := 23) (o := 0) hb1_ (by kernel_rfl) (.int .u64 c1) (by kernel_rfl) ?_
 refine WR.valR (dst := some 5) (v := .int .u64 (IntKind.u64.wrap ((c0).tdiv c1))) (w' := w) (run_quo (kk := .u64) (x := c0) (y := c1) (by kernel_rfl) (by omega) w) ?_
 refine WR.batch 1 [(2, .int .u64 (IntKind.u64.wrap ((c0).tdiv c1)))] (by kernel_rfl) ?_
 refine WR.fin (by kernel_rfl) ?_
 refine go hK4 ?_
 refine CW.ret ?_
 exact retV (.int .u64 (IntKind.u64.wrap ((c0).tdiv c1))) (by kernel_rfl) (⟨(Chg.refl _ _), (congrArg (fun r : Int => (.int .u64 r : Value)) hs).symm⟩)

def alu_do_u64_5  (c0 : Int) (c1 : Int) : Int := ((c0).tmod c1)

theorem alu_do_u64_5_ok  (c0 : Int) (c1 : Int) (_h_c0 : (0 ≤ c0 ∧ c0 ≤ 18446744073709551615)) (_h_c1 : (0 ≤ c1 ∧ c1 ≤ 18446744073709551615)) (_hc : c1 ≠ 0) : (0 ≤ (alu_do_u64_5 c0 c1) ∧ (alu_do_u64_5 c0 c1) ≤ 18446744073709551615) := by
 rw [alu_do_u64_5.eq_1]
 exact (by exact (show (0 ≤ ((c0).tmod c1) ∧ ((c0).tmod c1) ≤ 18446744073709551615) from (tmod_rng (by omega) (by omega))))

theorem alu_do_u64_5_any  (c0 : Int) (c1 : Int) (g0_ : Nat) (g1_ : Nat)  (w : World) (hb0_ : Blk w g0_ #[.int .u64 c0] 23) (hb1_ : Blk w g1_ #[.int .u64 c1] 23) (_h_c0 : (0 ≤ c0 ∧ c0 ≤ 18446744073709551615)) (_h_c1 : (0 ≤ c1 ∧ c1 ≤ 18446744073709551615)) (_hc : c1 ≠ 0) : Calls Try.prog 111 #[pt g0_ 0, pt g1_ 0] w (RetV w (.int .u64 (alu_do_u64_5 c0 c1))) := by
 have hs := alu_do_u64_5.eq_1 c0 c1
 refine calls_of_CW Try.func111 rfl (n := 6) Try.ntmps111 (by kernel_rfl) [0, 1] (F := [(0, pt g0_ 0), (1, pt g1_ 0)]) (by kernel_rfl) ?_
 have hg1 := hb0_.lt
 have hg2 := hb1_.lt
 refine CW.seq fun K3 hK3 => ?_
 refine CW.region ?_
 refine WR.batch 1 [(0, pt g0_ 0), (1, pt g1_ 0)] (by kernel_rfl) ?_
 refine WR.fin (by kernel_rfl) ?_
 refine go hK3 ?_
 refine CW.seq fun K4 hK4 => ?_
 refine CW.region ?_
 refine WR.load (dst := some 3) (t := 23) (o := 0) hb0_ (by kernel_rfl) (.int .u64 c0) (by kernel_rfl) ?_
 refine WR.load (dst := some 4) (t := 23) (o := 0) hb1_ (by kernel_rfl) (.int .u64 c1) (by kernel_rfl) ?_
 refine WR.valR (dst := some 5) (v := .int .u64 ((c0).tmod c1)) (w' := w) (run_rem (kk := .u64) (x := c0) (y := c1) (by kernel_rfl) (by omega) w) ?_
 have hm5 := tmod_rng (x := c0) (y := c1) (m := 18446744073709551615) (by omega) (by omega)
 refine WR.batch 1 [(2, .int .u64 ((c0).tmod c1))] (by kernel_rfl) ?_
 refine WR.fin (by kernel_rfl) ?_
 refine go hK4 ?_
 refine CW.ret ?_
 exact retV (.int .u64 ((c0).tmod c1)) (by kernel_rfl) (⟨(Chg.refl _ _), (congrArg (fun r : Int => (.int .u64 r : Value)) hs).symm⟩)

def alu_do_u64_6  (c0 : Int) (c1 : Int) : Int := (bAnd .u64 c0 c1)

theorem alu_do_u64_6_ok  (c0 : Int) (c1 : Int) (_h_c0 : (0 ≤ c0 ∧ c0 ≤ 18446744073709551615)) (_h_c1 : (0 ≤ c1 ∧ c1 ≤ 18446744073709551615))  : (0 ≤ (alu_do_u64_6 c0 c1) ∧ (alu_do_u64_6 c0 c1) ≤ 18446744073709551615) := by
 rw [alu_do_u64_6.eq_1]
 exact (by exact (show (0 ≤ (bAnd .u64 c0 c1) ∧ (bAnd .u64 c0 c1) ≤ 18446744073709551615) from (wrapU64 _)))

theorem alu_do_u64_6_any  (c0 : Int) (c1 : Int) (g0_ : Nat) (g1_ : Nat)  (w : World) (hb0_ : Blk w g0_ #[.int .u64 c0] 23) (hb1_ : Blk w g1_ #[.int .u64 c1] 23) (_h_c0 : (0 ≤ c0 ∧ c0 ≤ 18446744073709551615)) (_h_c1 : (0 ≤ c1 ∧ c1 ≤ 18446744073709551615))  : Calls Try.prog 112 #[pt g0_ 0, pt g1_ 0] w (RetV w (.int .u64 (alu_do_u64_6 c0 c1))) := by
 have hs := alu_do_u64_6.eq_1 c0 c1
 refine calls_of_CW Try.func112 rfl (n := 6) Try.ntmps112 (by kernel_rfl) [0, 1] (F := [(0, pt g0_ 0), (1, pt g1_ 0)]) (by kernel_rfl) ?_
 have hg1 := hb0_.lt
 have hg2 := hb1_.lt
 refine CW.seq fun K3 hK3 => ?_
 refine CW.region ?_
 refine WR.batch 1 [(0, pt g0_ 0), (1, pt g1_ 0)] (by kernel_rfl) ?_
 refine WR.fin (by kernel_rfl) ?_
 refine go hK3 ?_
 refine CW.seq fun K4 hK4 => ?_
 refine CW.region ?_
 refine WR.load (dst := some 3) (t := 23) (o := 0) hb0_ (by kernel_rfl) (.int .u64 c0) (by kernel_rfl) ?_
 refine WR.load (dst := some 4) (t := 23) (o := 0) hb1_ (by kernel_rfl) (.int .u64 c1) (by kernel_rfl) ?_
 refine WR.batch 2 [(2, .int .u64 (bAnd .u64 c0 c1))] (by kernel_rfl) ?_
 refine WR.fin (by kernel_rfl) ?_
 refine go hK4 ?_
 refine CW.ret ?_
 exact retV (.int .u64 (bAnd .u64 c0 c1)) (by kernel_rfl) (⟨(Chg.refl _ _), (congrArg (fun r : Int => (.int .u64 r : Value)) hs).symm⟩)

def alu_do_u64_7  (c0 : Int) (c1 : Int) : Int := (bOr .u64 c0 c1)

theorem alu_do_u64_7_ok  (c0 : Int) (c1 : Int) (_h_c0 : (0 ≤ c0 ∧ c0 ≤ 18446744073709551615)) (_h_c1 : (0 ≤ c1 ∧ c1 ≤ 18446744073709551615))  : (0 ≤ (alu_do_u64_7 c0 c1) ∧ (alu_do_u64_7 c0 c1) ≤ 18446744073709551615) := by
 rw [alu_do_u64_7.eq_1]
 exact (by exact (show (0 ≤ (bOr .u64 c0 c1) ∧ (bOr .u64 c0 c1) ≤ 18446744073709551615) from (wrapU64 _)))

theorem alu_do_u64_7_any  (c0 : Int) (c1 : Int) (g0_ : Nat) (g1_ : Nat)  (w : World) (hb0_ : Blk w g0_ #[.int .u64 c0] 23) (hb1_ : Blk w g1_ #[.int .u64 c1] 23) (_h_c0 : (0 ≤ c0 ∧ c0 ≤ 18446744073709551615)) (_h_c1 : (0 ≤ c1 ∧ c1 ≤ 18446744073709551615))  : Calls Try.prog 113 #[pt g0_ 0, pt g1_ 0] w (RetV w (.int .u64 (alu_do_u64_7 c0 c1))) := by
 have hs := alu_do_u64_7.eq_1 c0 c1
 refine calls_of_CW Try.func113 rfl (n := 6) Try.ntmps113 (by kernel_rfl) [0, 1] (F := [(0, pt g0_ 0), (1, pt g1_ 0)]) (by kernel_rfl) ?_
 have hg1 := hb0_.lt
 have hg2 := hb1_.lt
 refine CW.seq fun K3 hK3 => ?_
 refine CW.region ?_
 refine WR.batch 1 [(0, pt g0_ 0), (1, pt g1_ 0)] (by kernel_rfl) ?_
 refine WR.fin (by kernel_rfl) ?_
 refine go hK3 ?_
 refine CW.seq fun K4 hK4 => ?_
 refine CW.region ?_
 refine WR.load (dst := some 3) (t := 23) (o := 0) hb0_ (by kernel_rfl) (.int .u64 c0) (by kernel_rfl) ?_
 refine WR.load (dst := some 4) (t := 23) (o := 0) hb1_ (by kernel_rfl) (.int .u64 c1) (by kernel_rfl) ?_
 refine WR.batch 2 [(2, .int .u64 (bOr .u64 c0 c1))] (by kernel_rfl) ?_
 refine WR.fin (by kernel_rfl) ?_
 refine go hK4 ?_
 refine CW.ret ?_
 exact retV (.int .u64 (bOr .u64 c0 c1)) (by kernel_rfl) (⟨(Chg.refl _ _), (congrArg (fun r : Int => (.int .u64 r : Value)) hs).symm⟩)

def alu_do_u64_8  (c0 : Int) (c1 : Int) : Int := (bXor .u64 c0 c1)

theorem alu_do_u64_8_ok  (c0 : Int) (c1 : Int) (_h_c0 : (0 ≤ c0 ∧ c0 ≤ 18446744073709551615)) (_h_c1 : (0 ≤ c1 ∧ c1 ≤ 18446744073709551615))  : (0 ≤ (alu_do_u64_8 c0 c1) ∧ (alu_do_u64_8 c0 c1) ≤ 18446744073709551615) := by
 rw [alu_do_u64_8.eq_1]
 exact (by exact (show (0 ≤ (bXor .u64 c0 c1) ∧ (bXor .u64 c0 c1) ≤ 18446744073709551615) from (wrapU64 _)))

theorem alu_do_u64_8_any  (c0 : Int) (c1 : Int) (g0_ : Nat) (g1_ : Nat)  (w : World) (hb0_ : Blk w g0_ #[.int .u64 c0] 23) (hb1_ : Blk w g1_ #[.int .u64 c1] 23) (_h_c0 : (0 ≤ c0 ∧ c0 ≤ 18446744073709551615)) (_h_c1 : (0 ≤ c1 ∧ c1 ≤ 18446744073709551615))  : Calls Try.prog 114 #[pt g0_ 0, pt g1_ 0] w (RetV w (.int .u64 (alu_do_u64_8 c0 c1))) := by
 have hs := alu_do_u64_8.eq_1 c0 c1
 refine calls_of_CW Try.func114 rfl (n := 6) Try.ntmps114 (by kernel_rfl) [0, 1] (F := [(0, pt g0_ 0), (1, pt g1_ 0)]) (by kernel_rfl) ?_
 have hg1 := hb0_.lt
 have hg2 := hb1_.lt
 refine CW.seq fun K3 hK3 => ?_
 refine CW.region ?_
 refine WR.batch 1 [(0, pt g0_ 0), (1, pt g1_ 0)] (by kernel_rfl) ?_
 refine WR.fin (by kernel_rfl) ?_
 refine go hK3 ?_
 refine CW.seq fun K4 hK4 => ?_
 refine CW.region ?_
 refine WR.load (dst := some 3) (t := 23) (o := 0) hb0_ (by kernel_rfl) (.int .u64 c0) (by kernel_rfl) ?_
 refine WR.load (dst := some 4) (t := 23) (o := 0) hb1_ (by kernel_rfl) (.int .u64 c1) (by kernel_rfl) ?_
 refine WR.batch 2 [(2, .int .u64 (bXor .u64 c0 c1))] (by kernel_rfl) ?_
 refine WR.fin (by kernel_rfl) ?_
 refine go hK4 ?_
 refine CW.ret ?_
 exact retV (.int .u64 (bXor .u64 c0 c1)) (by kernel_rfl) (⟨(Chg.refl _ _), (congrArg (fun r : Int => (.int .u64 r : Value)) hs).symm⟩)

def alu_do_u64_9  (c0 : Int) (c1 : Int) (c2 : Int) : Int := (sShl .u64 c0 ((c1).tmod c2))

theorem alu_do_u64_9_ok  (c0 : Int) (c1 : Int) (c2 : Int) (_h_c0 : (0 ≤ c0 ∧ c0 ≤ 18446744073709551615)) (_h_c1 : (0 ≤ c1 ∧ c1 ≤ 18446744073709551615)) (_h_c2 : (0 ≤ c2 ∧ c2 ≤ 18446744073709551615)) (_hc : c2 ≠ 0) : (0 ≤ (alu_do_u64_9 c0 c1 c2) ∧ (alu_do_u64_9 c0 c1 c2) ≤ 18446744073709551615) := by
 rw [alu_do_u64_9.eq_1]
 exact (by exact (show (0 ≤ (sShl .u64 c0 ((c1).tmod c2)) ∧ (sShl .u64 c0 ((c1).tmod c2)) ≤ 18446744073709551615) from (wrapU64 _)))

theorem alu_do_u64_9_any  (c0 : Int) (c1 : Int) (c2 : Int) (g0_ : Nat) (g1_ : Nat) (g2_ : Nat)  (w : World) (hb0_ : Blk w g0_ #[.int .u64 c0] 23) (hb1_ : Blk w g1_ #[.int .u64 c1] 23) (hb2_ : Blk w g2_ #[.int .u64 c2] 23) (_h_c0 : (0 ≤ c0 ∧ c0 ≤ 18446744073709551615)) (_h_c1 : (0 ≤ c1 ∧ c1 ≤ 18446744073709551615)) (_h_c2 : (0 ≤ c2 ∧ c2 ≤ 18446744073709551615)) (_hc : c2 ≠ 0) : Calls Try.prog 115 #[pt g0_ 0, pt g1_ 0, pt g2_ 0] w (RetV w (.int .u64 (alu_do_u64_9 c0 c1 c2))) := by
 have hs := alu_do_u64_9.eq_1 c0 c1 c2
 refine calls_of_CW Try.func115 rfl (n := 9) Try.ntmps115 (by kernel_rfl) [0, 1, 2] (F := [(0, pt g0_ 0), (1, pt g1_ 0), (2, pt g2_ 0)]) (by kernel_rfl) ?_
 have hg1 := hb0_.lt
 have hg2 := hb1_.lt
 have hg3 := hb2_.lt
 refine CW.seq fun K4 hK4 => ?_
 refine CW.region ?_
 refine WR.batch 1 [(0, pt g0_ 0), (1, pt g1_ 0), (2, pt g2_ 0)] (by kernel_rfl) ?_
 refine WR.fin (by kernel_rfl) ?_
 refine go hK4 ?_
 refine CW.seq fun K5 hK5 => ?_
 refine CW.regionQ (by kernel_rfl) (by kernel_rfl) ?_
 refine WQ.load (dst := some 4) (t := 23) (o := 0) (fun _ hq => hb0_.pure hq) (by kernel_rfl) (.int .u64 c0) (by kernel_rfl) ?_
 refine WQ.load (dst := some 5) (t := 23) (o := 0) (fun _ hq => hb1_.pure hq) (by kernel_rfl) (.int .u64 c1) (by kernel_rfl) ?_
 refine WQ.load (dst := some 6) (t := 23) (o := 0) (fun _ hq => hb2_.pure hq) (by kernel_rfl) (.int .u64 c2) (by kernel_rfl) ?_
 refine WQ.val (dst := some 7) (.int .u64 ((c1).tmod c2)) (run_rem (kk := .u64) (x := c1) (y := c2) (by kernel_rfl) (by omega)) ?_
 have hm6 := tmod_rng (x := c1) (y := c2) (m := 18446744073709551615) (by omega) (by omega)
 refine WQ.val (dst := some 8) (.int .u64 (sShl .u64 c0 ((c1).tmod c2))) (run_shl (kk := .u64) (k' := .u64) (x := c0) (y := ((c1).tmod c2)) (by kernel_rfl) (show 0 ≤ ((c1).tmod c2) ∧ ((c1).tmod c2) ≤ 18446744073709551615 from (tmod_rng (by omega) (by omega))).1) ?_
 refine WQ.val (dst := some 3) (.int .u64 (sShl .u64 c0 ((c1).tmod c2))) (fun _ => by kernel_rfl) ?_
 refine WQ.fin (by kernel_rfl) ?_
 intro w7 hc8
 have hz10 := hc8.size
 have hC9 := (Chg.refl [] w).pure hc8
 have hb11 := hb0_.pure hc8
 have hb12 := hb1_.pure hc8
 have hb13 := hb2_.pure hc8
 refine go hK5 ?_
 refine CW.ret ?_
 exact retV (.int .u64 (sShl .u64 c0 ((c1).tmod c2))) (by kernel_rfl) (⟨hC9, (congrArg (fun r : Int => (.int .u64 r : Value)) hs).symm⟩)

def alu_do_u64_10  (c0 : Int) (c1 : Int) (c2 : Int) : Int := (sShr .u64 c0 ((c1).tmod c2))

theorem alu_do_u64_10_ok  (c0 : Int) (c1 : Int) (c2 : Int) (_h_c0 : (0 ≤ c0 ∧ c0 ≤ 18446744073709551615)) (_h_c1 : (0 ≤ c1 ∧ c1 ≤ 18446744073709551615)) (_h_c2 : (0 ≤ c2 ∧ c2 ≤ 18446744073709551615)) (_hc : c2 ≠ 0) : (0 ≤ (alu_do_u64_10 c0 c1 c2) ∧ (alu_do_u64_10 c0 c1 c2) ≤ 18446744073709551615) := by
 rw [alu_do_u64_10.eq_1]
 exact (by exact (show (0 ≤ (sShr .u64 c0 ((c1).tmod c2)) ∧ (sShr .u64 c0 ((c1).tmod c2)) ≤ 18446744073709551615) from (sShr_rng (by omega))))

theorem alu_do_u64_10_any  (c0 : Int) (c1 : Int) (c2 : Int) (g0_ : Nat) (g1_ : Nat) (g2_ : Nat)  (w : World) (hb0_ : Blk w g0_ #[.int .u64 c0] 23) (hb1_ : Blk w g1_ #[.int .u64 c1] 23) (hb2_ : Blk w g2_ #[.int .u64 c2] 23) (_h_c0 : (0 ≤ c0 ∧ c0 ≤ 18446744073709551615)) (_h_c1 : (0 ≤ c1 ∧ c1 ≤ 18446744073709551615)) (_h_c2 : (0 ≤ c2 ∧ c2 ≤ 18446744073709551615)) (_hc : c2 ≠ 0) : Calls Try.prog 116 #[pt g0_ 0, pt g1_ 0, pt g2_ 0] w (RetV w (.int .u64 (alu_do_u64_10 c0 c1 c2))) := by
 have hs := alu_do_u64_10.eq_1 c0 c1 c2
 refine calls_of_CW Try.func116 rfl (n := 9) Try.ntmps116 (by kernel_rfl) [0, 1, 2] (F := [(0, pt g0_ 0), (1, pt g1_ 0), (2, pt g2_ 0)]) (by kernel_rfl) ?_
 have hg1 := hb0_.lt
 have hg2 := hb1_.lt
 have hg3 := hb2_.lt
 refine CW.seq fun K4 hK4 => ?_
 refine CW.region ?_
 refine WR.batch 1 [(0, pt g0_ 0), (1, pt g1_ 0), (2, pt g2_ 0)] (by kernel_rfl) ?_
 refine WR.fin (by kernel_rfl) ?_
 refine go hK4 ?_
 refine CW.seq fun K5 hK5 => ?_
 refine CW.regionQ (by kernel_rfl) (by kernel_rfl) ?_
 refine WQ.load (dst := some 4) (t := 23) (o := 0) (fun _ hq => hb0_.pure hq) (by kernel_rfl) (.int .u64 c0) (by kernel_rfl) ?_
 refine WQ.load (dst := some 5) (t := 23) (o := 0) (fun _ hq => hb1_.pure hq) (by kernel_rfl) (.int .u64 c1) (by kernel_rfl) ?_
 refine WQ.load (dst := some 6) (t := 23) (o := 0) (fun _ hq => hb2_.pure hq) (by kernel_rfl) (.int .u64 c2) (by kernel_rfl) ?_
 refine WQ.val (dst := some 7) (.int .u64 ((c1).tmod c2)) (run_rem (kk := .u64) (x := c1) (y := c2) (by kernel_rfl) (by omega)) ?_
 have hm6 := tmod_rng (x := c1) (y := c2) (m := 18446744073709551615) (by omega) (by omega)
 refine WQ.val (dst := some 8) (.int .u64 (sShr .u64 c0 ((c1).tmod c2))) (run_shr (kk := .u64) (k' := .u64) (x := c0) (y := ((c1).tmod c2)) (by kernel_rfl) (show 0 ≤ ((c1).tmod c2) ∧ ((c1).tmod c2) ≤ 18446744073709551615 from (tmod_rng (by omega) (by omega))).1) ?_
 refine WQ.val (dst := some 3) (.int .u64 (sShr .u64 c0 ((c1).tmod c2))) (fun _ => by kernel_rfl) ?_
 refine WQ.fin (by kernel_rfl) ?_
 intro w7 hc8
 have hz10 := hc8.size
 have hC9 := (Chg.refl [] w).pure hc8
 have hb11 := hb0_.pure hc8
 have hb12 := hb1_.pure hc8
 have hb13 := hb2_.pure hc8
 refine go hK5 ?_
 refine CW.ret ?_
 exact retV (.int .u64 (sShr .u64 c0 ((c1).tmod c2))) (by kernel_rfl) (⟨hC9, (congrArg (fun r : Int => (.int .u64 r : Value)) hs).symm⟩)

def alu_do_u64_11  (c0 : Int) (c1 : Int) (c2 : Int) : Int := (IntKind.u64.wrap (sShr .i64 (IntKind.i64.wrap c0) ((c1).tmod c2)))

theorem alu_do_u64_11_ok  (c0 : Int) (c1 : Int) (c2 : Int) (_h_c0 : (0 ≤ c0 ∧ c0 ≤ 18446744073709551615)) (_h_c1 : (0 ≤ c1 ∧ c1 ≤ 18446744073709551615)) (_h_c2 : (0 ≤ c2 ∧ c2 ≤ 18446744073709551615)) (_hc : c2 ≠ 0) : (0 ≤ (alu_do_u64_11 c0 c1 c2) ∧ (alu_do_u64_11 c0 c1 c2) ≤ 18446744073709551615) := by
 rw [alu_do_u64_11.eq_1]
 exact (by exact (show (0 ≤ (IntKind.u64.wrap (sShr .i64 (IntKind.i64.wrap c0) ((c1).tmod c2))) ∧ (IntKind.u64.wrap (sShr .i64 (IntKind.i64.wrap c0) ((c1).tmod c2))) ≤ 18446744073709551615) from (wrapU64 _)))

theorem alu_do_u64_11_any  (c0 : Int) (c1 : Int) (c2 : Int) (g0_ : Nat) (g1_ : Nat) (g2_ : Nat)  (w : World) (hb0_ : Blk w g0_ #[.int .u64 c0] 23) (hb1_ : Blk w g1_ #[.int .u64 c1] 23) (hb2_ : Blk w g2_ #[.int .u64 c2] 23) (_h_c0 : (0 ≤ c0 ∧ c0 ≤ 18446744073709551615)) (_h_c1 : (0 ≤ c1 ∧ c1 ≤ 18446744073709551615)) (_h_c2 : (0 ≤ c2 ∧ c2 ≤ 18446744073709551615)) (_hc : c2 ≠ 0) : Calls Try.prog 117 #[pt g0_ 0, pt g1_ 0, pt g2_ 0] w (RetV w (.int .u64 (alu_do_u64_11 c0 c1 c2))) := by
 have hs := alu_do_u64_11.eq_1 c0 c1 c2
 refine calls_of_CW Try.func117 rfl (n := 11) Try.ntmps117 (by kernel_rfl) [0, 1, 2] (F := [(0, pt g0_ 0), (1, pt g1_ 0), (2, pt g2_ 0)]) (by kernel_rfl) ?_
 have hg1 := hb0_.lt
 have hg2 := hb1_.lt
 have hg3 := hb2_.lt
 refine CW.seq fun K4 hK4 => ?_
 refine CW.region ?_
 refine WR.batch 1 [(0, pt g0_ 0), (1, pt g1_ 0), (2, pt g2_ 0)] (by kernel_rfl) ?_
 refine WR.fin (by kernel_rfl) ?_
 refine go hK4 ?_
 refine CW.seq fun K5 hK5 => ?_
 refine CW.regionQ (by kernel_rfl) (by kernel_rfl) ?_
 refine WQ.load (dst := some 4) (t := 23) (o := 0) (fun _ hq => hb0_.pure hq) (by kernel_rfl) (.int .u64 c0) (by kernel_rfl) ?_
 refine WQ.val (dst := some 5) (.int .i64 (IntKind.i64.wrap c0)) (fun _ => by kernel_rfl) ?_
 refine WQ.load (dst := some 6) (t := 23) (o := 0) (fun _ hq => hb1_.pure hq) (by kernel_rfl) (.int .u64 c1) (by kernel_rfl) ?_
 refine WQ.load (dst := some 7) (t := 23) (o := 0) (fun _ hq => hb2_.pure hq) (by kernel_rfl) (.int .u64 c2) (by kernel_rfl) ?_
 refine WQ.val (dst := some 8) (.int .u64 ((c1).tmod c2)) (run_rem (kk := .u64) (x := c1) (y := c2) (by kernel_rfl) (by omega)) ?_
 have hm6 := tmod_rng (x := c1) (y := c2) (m := 18446744073709551615) (by omega) (by omega)
 refine WQ.val (dst := some 9) (.int .i64 (sShr .i64 (IntKind.i64.wrap c0) ((c1).tmod c2))) (run_shr (kk := .i64) (k' := .u64) (x := (IntKind.i64.wrap c0)) (y := ((c1).tmod c2)) (by kernel_rfl) (show 0 ≤ ((c1).tmod c2) ∧ ((c1).tmod c2) ≤ 18446744073709551615 from (tmod_rng (by omega) (by omega))).1) ?_
 refine WQ.val (dst := some 10) (.int .u64 (IntKind.u64.wrap (sShr .i64 (IntKind.i64.wrap c0) ((c1).tmod c2)))) (fun _ => by kernel_rfl) ?_
 refine WQ.val (dst := some 3) (.int .u64 (IntKind.u64.wrap (sShr .i64 (IntKind.i64.wrap c0) ((c1).tmod c2)))) (fun _ => by kernel_rfl) ?_
 refine WQ.fin (by kernel_rfl) ?_
 intro w7 hc8
 have hz10 := hc8.size
 have hC9 := (Chg.refl [] w).pure hc8
 have hb11 := hb0_.pure hc8
 have hb12 := hb1_.pure hc8
 have hb13 := hb2_.pure hc8
 refine go hK5 ?_
 refine CW.ret ?_
 exact retV (.int .u64 (IntKind.u64.wrap (sShr .i64 (IntKind.i64.wrap c0) ((c1).tmod c2)))) (by kernel_rfl) (⟨hC9, (congrArg (fun r : Int => (.int .u64 r : Value)) hs).symm⟩)

def alu_do_u64_12  (c0 : Int) : Int := c0

theorem alu_do_u64_12_ok  (c0 : Int) (_h_c0 : (0 ≤ c0 ∧ c0 ≤ 18446744073709551615))  : (0 ≤ (alu_do_u64_12 c0) ∧ (alu_do_u64_12 c0) ≤ 18446744073709551615) := by
 rw [alu_do_u64_12.eq_1]
 exact (by exact (show (0 ≤ c0 ∧ c0 ≤ 18446744073709551615) from (by omega)))

theorem alu_do_u64_12_any  (c0 : Int) (g0_ : Nat)  (w : World) (hb0_ : Blk w g0_ #[.int .u64 c0] 23) (_h_c0 : (0 ≤ c0 ∧ c0 ≤ 18446744073709551615))  : Calls Try.prog 118 #[pt g0_ 0] w (RetV w (.int .u64 (alu_do_u64_12 c0))) := by
 have hs := alu_do_u64_12.eq_1 c0
 refine calls_of_CW Try.func118 rfl (n := 3) Try.ntmps118 (by kernel_rfl) [0] (F := [(0, pt g0_ 0)]) (by kernel_rfl) ?_
 have hg1 := hb0_.lt
 refine CW.seq fun K2 hK2 => ?_
 refine CW.region ?_
 refine WR.batch 1 [(0, pt g0_ 0)] (by kernel_rfl) ?_
 refine WR.fin (by kernel_rfl) ?_
 refine go hK2 ?_
 refine CW.seq fun K3 hK3 => ?_
 refine CW.region ?_
 refine WR.load (dst := some 2) (t := 23) (o := 0) hb0_ (by kernel_rfl) (.int .u64 c0) (by kernel_rfl) ?_
 refine WR.batch 1 [(1, .int .u64 c0)] (by kernel_rfl) ?_
 refine WR.fin (by kernel_rfl) ?_
 refine go hK3 ?_
 refine CW.ret ?_
 exact retV (.int .u64 c0) (by kernel_rfl) (⟨(Chg.refl _ _), (congrArg (fun r : Int => (.int .u64 r : Value)) hs).symm⟩)

def alu_do_u64_13  (c0 : Int) : Int := (IntKind.u64.wrap (0 - c0))

theorem alu_do_u64_13_ok  (c0 : Int) (_h_c0 : (0 ≤ c0 ∧ c0 ≤ 18446744073709551615))  : (0 ≤ (alu_do_u64_13 c0) ∧ (alu_do_u64_13 c0) ≤ 18446744073709551615) := by
 rw [alu_do_u64_13.eq_1]
 exact (by exact (show (0 ≤ (IntKind.u64.wrap (0 - c0)) ∧ (IntKind.u64.wrap (0 - c0)) ≤ 18446744073709551615) from (wrapU64 _)))

theorem alu_do_u64_13_any  (c0 : Int) (g0_ : Nat)  (w : World) (hb0_ : Blk w g0_ #[.int .u64 c0] 23) (_h_c0 : (0 ≤ c0 ∧ c0 ≤ 18446744073709551615))  : Calls Try.prog 119 #[pt g0_ 0] w (RetV w (.int .u64 (alu_do_u64_13 c0))) := by
 have hs := alu_do_u64_13.eq_1 c0
 refine calls_of_CW Try.func119 rfl (n := 4) Try.ntmps119 (by kernel_rfl) [0] (F := [(0, pt g0_ 0)]) (by kernel_rfl) ?_
 have hg1 := hb0_.lt
 refine CW.seq fun K2 hK2 => ?_
 refine CW.region ?_
 refine WR.batch 1 [(0, pt g0_ 0)] (by kernel_rfl) ?_
 refine WR.fin (by kernel_rfl) ?_
 refine go hK2 ?_
 refine CW.seq fun K3 hK3 => ?_
 refine CW.region ?_
 refine WR.load (dst := some 2) (t := 23) (o := 0) hb0_ (by kernel_rfl) (.int .u64 c0) (by kernel_rfl) ?_
 refine WR.batch 2 [(1, .int .u64 (IntKind.u64.wrap (0 - c0)))] (by kernel_rfl) ?_
 refine WR.fin (by kernel_rfl) ?_
 refine go hK3 ?_
 refine CW.ret ?_
 exact retV (.int .u64 (IntKind.u64.wrap (0 - c0))) (by kernel_rfl) (⟨(Chg.refl _ _), (congrArg (fun r : Int => (.int .u64 r : Value)) hs).symm⟩)

def alu_do_u64 (a0 : Int) (a1 : Int) (a2 : Int) (a3 : Int)  : (Int × Int) := (if (((a0 == (4 : Int)) || (a0 == (5 : Int))) && (a3 == (0 : Int))) then ((0 : Int), (113 : Int)) else (if (a0 == (1 : Int)) then (letF (alu_do_u64_1 a2 a3) fun x179 => (x179, (0 : Int))) else (if (a0 == (2 : Int)) then (letF (alu_do_u64_2 a2 a3) fun x198 => (x198, (0 : Int))) else (if (a0 == (3 : Int)) then (letF (alu_do_u64_3 a2 a3) fun x217 => (x217, (0 : Int))) else (if (a0 == (4 : Int)) then (letF (alu_do_u64_4 a2 a3) fun x236 => (x236, (0 : Int))) else (if (a0 == (5 : Int)) then (letF (alu_do_u64_5 a2 a3) fun x255 => (x255, (0 : Int))) else (if (a0 == (6 : Int)) then (letF (alu_do_u64_6 a2 a3) fun x274 => (x274, (0 : Int))) else (if (a0 == (7 : Int)) then (letF (alu_do_u64_7 a2 a3) fun x293 => (x293, (0 : Int))) else (if (a0 == (8 : Int)) then (letF (alu_do_u64_8 a2 a3) fun x312 => (x312, (0 : Int))) else (if (a0 == (9 : Int)) then (letF (alu_do_u64_9 a2 a3 a1) fun x331 => (x331, (0 : Int))) else (if (a0 == (10 : Int)) then (letF (alu_do_u64_10 a2 a3 a1) fun x350 => (x350, (0 : Int))) else (if (a0 == (11 : Int)) then (letF (alu_do_u64_11 a2 a3 a1) fun x369 => (x369, (0 : Int))) else (if (a0 == (12 : Int)) then (letF (alu_do_u64_12 a3) fun x388 => (x388, (0 : Int))) else (if (a0 == (13 : Int)) then (letF (alu_do_u64_13 a2) fun x407 => (x407, (0 : Int))) else ((0 : Int), (2 : Int))))))))))))))))

theorem alu_do_u64_ok (a0 : Int) (a1 : Int) (a2 : Int) (a3 : Int)  (_h_a0 : (0 ≤ a0 ∧ a0 ≤ 255)) (_h_a1 : (0 ≤ a1 ∧ a1 ≤ 18446744073709551615)) (_h_a2 : (0 ≤ a2 ∧ a2 ≤ 18446744073709551615)) (_h_a3 : (0 ≤ a3 ∧ a3 ≤ 18446744073709551615)) (_hb : a1 = 64) : (0 ≤ (alu_do_u64 a0 a1 a2 a3).1 ∧ (alu_do_u64 a0 a1 a2 a3).1 ≤ 18446744073709551615) ∧ (-9223372036854775808 ≤ (alu_do_u64 a0 a1 a2 a3).2 ∧ (alu_do_u64 a0 a1 a2 a3).2 ≤ 9223372036854775807) := by
 rw [alu_do_u64.eq_1]
 refine iteR (p := fun r : (Int × Int) => (0 ≤ r.1 ∧ r.1 ≤ 18446744073709551615) ∧ (-9223372036854775808 ≤ r.2 ∧ r.2 ≤ 9223372036854775807)) (fun hi1001 => ?_) (fun hi1001 => ?_)
 ·
  replace hi1001 : ((a0 = (4 : Int)) ∨ (a0 = (5 : Int))) ∧ (a3 = (0 : Int)) := ⟨(orMap (bOrT (bAndT hi1001).1) (fun h => (bEqT h)) (fun h => (bEqT h))), (bEqT (bAndT hi1001).2)⟩
  exact (by exact (show (0 ≤ (0 : Int) ∧ (0 : Int) ≤ 18446744073709551615) ∧ (-9223372036854775808 ≤ (113 : Int) ∧ (113 : Int) ≤ 9223372036854775807) from ⟨(by omega), (by omega)⟩))
 replace hi1001 : ((a0 ≠ (4 : Int)) ∧ (a0 ≠ (5 : Int))) ∨ (a3 ≠ (0 : Int)) := (orMap (bAndF hi1001) (fun h => ⟨(bEqF (bOrF h).1), (bEqF (bOrF h).2)⟩) (fun h => (bEqF h)))
 refine iteR (p := fun r : (Int × Int) => (0 ≤ r.1 ∧ r.1 ≤ 18446744073709551615) ∧ (-9223372036854775808 ≤ r.2 ∧ r.2 ≤ 9223372036854775807)) (fun hi1002 => ?_) (fun hi1002 => ?_)
 ·
  replace hi1002 : a0 = (1 : Int) := (bEqT hi1002)
  refine letR (p := fun r : (Int × Int) => (0 ≤ r.1 ∧ r.1 ≤ 18446744073709551615) ∧ (-9223372036854775808 ≤ r.2 ∧ r.2 ≤ 9223372036854775807)) fun x179 hx180 => ?_
  have hx181 : (0 ≤ x179 ∧ x179 ≤ 18446744073709551615) := by rw [← hx180]; exact alu_do_u64_1_ok a2 a3 (by omega) (by omega) 
  exact (by exact (show (0 ≤ x179 ∧ x179 ≤ 18446744073709551615) ∧ (-9223372036854775808 ≤ (0 : Int) ∧ (0 : Int) ≤ 9223372036854775807) from ⟨(by omega), (by omega)⟩))
 replace hi1002 : a0 ≠ (1 : Int) := (bEqF hi1002)
 refine iteR (p := fun r : (Int × Int) => (0 ≤ r.1 ∧ r.1 ≤ 18446744073709551615) ∧ (-9223372036854775808 ≤ r.2 ∧ r.2 ≤ 9223372036854775807)) (fun hi1003 => ?_) (fun hi1003 => ?_)
 ·
  replace hi1003 : a0 = (2 : Int) := (bEqT hi1003)
  refine letR (p := fun r : (Int × Int) => (0 ≤ r.1 ∧ r.1 ≤ 18446744073709551615) ∧ (-9223372036854775808 ≤ r.2 ∧ r.2 ≤ 9223372036854775807)) fun x198 hx199 => ?_
  have hx200 : (0 ≤ x198 ∧ x198 ≤ 18446744073709551615) := by rw [← hx199]; exact alu_do_u64_2_ok a2 a3 (by omega) (by omega) 
  exact (by exact (show (0 ≤ x198 ∧ x198 ≤ 18446744073709551615) ∧ (-9223372036854775808 ≤ (0 : Int) ∧ (0 : Int) ≤ 9223372036854775807) from ⟨(by omega), (by omega)⟩))
 replace hi1003 : a0 ≠ (2 : Int) := (bEqF hi1003)
 refine iteR (p := fun r : (Int × Int) => (0 ≤ r.1 ∧ r.1 ≤ 18446744073709551615) ∧ (-9223372036854775808 ≤ r.2 ∧ r.2 ≤ 9223372036854775807)) (fun hi1004 => ?_) (fun hi1004 => ?_)
 ·
  replace hi1004 : a0 = (3 : Int) := (bEqT hi1004)
  refine letR (p := fun r : (Int × Int) => (0 ≤ r.1 ∧ r.1 ≤ 18446744073709551615) ∧ (-9223372036854775808 ≤ r.2 ∧ r.2 ≤ 9223372036854775807)) fun x217 hx218 => ?_
  have hx219 : (0 ≤ x217 ∧ x217 ≤ 18446744073709551615) := by rw [← hx218]; exact alu_do_u64_3_ok a2 a3 (by omega) (by omega) 
  exact (by exact (show (0 ≤ x217 ∧ x217 ≤ 18446744073709551615) ∧ (-9223372036854775808 ≤ (0 : Int) ∧ (0 : Int) ≤ 9223372036854775807) from ⟨(by omega), (by omega)⟩))
 replace hi1004 : a0 ≠ (3 : Int) := (bEqF hi1004)
 refine iteR (p := fun r : (Int × Int) => (0 ≤ r.1 ∧ r.1 ≤ 18446744073709551615) ∧ (-9223372036854775808 ≤ r.2 ∧ r.2 ≤ 9223372036854775807)) (fun hi1005 => ?_) (fun hi1005 => ?_)
 ·
  replace hi1005 : a0 = (4 : Int) := (bEqT hi1005)
  refine letR (p := fun r : (Int × Int) => (0 ≤ r.1 ∧ r.1 ≤ 18446744073709551615) ∧ (-9223372036854775808 ≤ r.2 ∧ r.2 ≤ 9223372036854775807)) fun x236 hx237 => ?_
  have hx238 : (0 ≤ x236 ∧ x236 ≤ 18446744073709551615) := by rw [← hx237]; exact alu_do_u64_4_ok a2 a3 (by omega) (by omega) (by omega)
  exact (by exact (show (0 ≤ x236 ∧ x236 ≤ 18446744073709551615) ∧ (-9223372036854775808 ≤ (0 : Int) ∧ (0 : Int) ≤ 9223372036854775807) from ⟨(by omega), (by omega)⟩))
 replace hi1005 : a0 ≠ (4 : Int) := (bEqF hi1005)
 refine iteR (p := fun r : (Int × Int) => (0 ≤ r.1 ∧ r.1 ≤ 18446744073709551615) ∧ (-9223372036854775808 ≤ r.2 ∧ r.2 ≤ 9223372036854775807)) (fun hi1006 => ?_) (fun hi1006 => ?_)
 ·
  replace hi1006 : a0 = (5 : Int) := (bEqT hi1006)
  refine letR (p := fun r : (Int × Int) => (0 ≤ r.1 ∧ r.1 ≤ 18446744073709551615) ∧ (-9223372036854775808 ≤ r.2 ∧ r.2 ≤ 9223372036854775807)) fun x255 hx256 => ?_
  have hx257 : (0 ≤ x255 ∧ x255 ≤ 18446744073709551615) := by rw [← hx256]; exact alu_do_u64_5_ok a2 a3 (by omega) (by omega) (by omega)
  exact (by exact (show (0 ≤ x255 ∧ x255 ≤ 18446744073709551615) ∧ (-9223372036854775808 ≤ (0 : Int) ∧ (0 : Int) ≤ 9223372036854775807) from ⟨(by omega), (by omega)⟩))
 replace hi1006 : a0 ≠ (5 : Int) := (bEqF hi1006)
 refine iteR (p := fun r : (Int × Int) => (0 ≤ r.1 ∧ r.1 ≤ 18446744073709551615) ∧ (-9223372036854775808 ≤ r.2 ∧ r.2 ≤ 9223372036854775807)) (fun hi1007 => ?_) (fun hi1007 => ?_)
 ·
  replace hi1007 : a0 = (6 : Int) := (bEqT hi1007)
  refine letR (p := fun r : (Int × Int) => (0 ≤ r.1 ∧ r.1 ≤ 18446744073709551615) ∧ (-9223372036854775808 ≤ r.2 ∧ r.2 ≤ 9223372036854775807)) fun x274 hx275 => ?_
  have hx276 : (0 ≤ x274 ∧ x274 ≤ 18446744073709551615) := by rw [← hx275]; exact alu_do_u64_6_ok a2 a3 (by omega) (by omega) 
  exact (by exact (show (0 ≤ x274 ∧ x274 ≤ 18446744073709551615) ∧ (-9223372036854775808 ≤ (0 : Int) ∧ (0 : Int) ≤ 9223372036854775807) from ⟨(by omega), (by omega)⟩))
 replace hi1007 : a0 ≠ (6 : Int) := (bEqF hi1007)
 refine iteR (p := fun r : (Int × Int) => (0 ≤ r.1 ∧ r.1 ≤ 18446744073709551615) ∧ (-9223372036854775808 ≤ r.2 ∧ r.2 ≤ 9223372036854775807)) (fun hi1008 => ?_) (fun hi1008 => ?_)
 ·
  replace hi1008 : a0 = (7 : Int) := (bEqT hi1008)
  refine letR (p := fun r : (Int × Int) => (0 ≤ r.1 ∧ r.1 ≤ 18446744073709551615) ∧ (-9223372036854775808 ≤ r.2 ∧ r.2 ≤ 9223372036854775807)) fun x293 hx294 => ?_
  have hx295 : (0 ≤ x293 ∧ x293 ≤ 18446744073709551615) := by rw [← hx294]; exact alu_do_u64_7_ok a2 a3 (by omega) (by omega) 
  exact (by exact (show (0 ≤ x293 ∧ x293 ≤ 18446744073709551615) ∧ (-9223372036854775808 ≤ (0 : Int) ∧ (0 : Int) ≤ 9223372036854775807) from ⟨(by omega), (by omega)⟩))
 replace hi1008 : a0 ≠ (7 : Int) := (bEqF hi1008)
 refine iteR (p := fun r : (Int × Int) => (0 ≤ r.1 ∧ r.1 ≤ 18446744073709551615) ∧ (-9223372036854775808 ≤ r.2 ∧ r.2 ≤ 9223372036854775807)) (fun hi1009 => ?_) (fun hi1009 => ?_)
 ·
  replace hi1009 : a0 = (8 : Int) := (bEqT hi1009)
  refine letR (p := fun r : (Int × Int) => (0 ≤ r.1 ∧ r.1 ≤ 18446744073709551615) ∧ (-9223372036854775808 ≤ r.2 ∧ r.2 ≤ 9223372036854775807)) fun x312 hx313 => ?_
  have hx314 : (0 ≤ x312 ∧ x312 ≤ 18446744073709551615) := by rw [← hx313]; exact alu_do_u64_8_ok a2 a3 (by omega) (by omega) 
  exact (by exact (show (0 ≤ x312 ∧ x312 ≤ 18446744073709551615) ∧ (-9223372036854775808 ≤ (0 : Int) ∧ (0 : Int) ≤ 9223372036854775807) from ⟨(by omega), (by omega)⟩))
 replace hi1009 : a0 ≠ (8 : Int) := (bEqF hi1009)
 refine iteR (p := fun r : (Int × Int) => (0 ≤ r.1 ∧ r.1 ≤ 18446744073709551615) ∧ (-9223372036854775808 ≤ r.2 ∧ r.2 ≤ 9223372036854775807)) (fun hi1010 => ?_) (fun hi1010 => ?_)
 ·
  replace hi1010 : a0 = (9 : Int) := (bEqT hi1010)
  refine letR (p := fun r : (Int × Int) => (0 ≤ r.1 ∧ r.1 ≤ 18446744073709551615) ∧ (-9223372036854775808 ≤ r.2 ∧ r.2 ≤ 9223372036854775807)) fun x331 hx332 => ?_
  have hx333 : (0 ≤ x331 ∧ x331 ≤ 18446744073709551615) := by rw [← hx332]; exact alu_do_u64_9_ok a2 a3 a1 (by omega) (by omega) (by omega) (by omega)
  exact (by exact (show (0 ≤ x331 ∧ x331 ≤ 18446744073709551615) ∧ (-9223372036854775808 ≤ (0 : Int) ∧ (0 : Int) ≤ 9223372036854775807) from ⟨(by omega), (by omega)⟩))
 replace hi1010 : a0 ≠ (9 : Int) := (bEqF hi1010)
 refine iteR (p := fun r : (Int × Int) => (0 ≤ r.1 ∧ r.1 ≤ 18446744073709551615) ∧ (-9223372036854775808 ≤ r.2 ∧ r.2 ≤ 9223372036854775807)) (fun hi1011 => ?_) (fun hi1011 => ?_)
 ·
  replace hi1011 : a0 = (10 : Int) := (bEqT hi1011)
  refine letR (p := fun r : (Int × Int) => (0 ≤ r.1 ∧ r.1 ≤ 18446744073709551615) ∧ (-9223372036854775808 ≤ r.2 ∧ r.2 ≤ 9223372036854775807)) fun x350 hx351 => ?_
  have hx352 : (0 ≤ x350 ∧ x350 ≤ 18446744073709551615) := by rw [← hx351]; exact alu_do_u64_10_ok a2 a3 a1 (by omega) (by omega) (by omega) (by omega)
  exact (by exact (show (0 ≤ x350 ∧ x350 ≤ 18446744073709551615) ∧ (-9223372036854775808 ≤ (0 : Int) ∧ (0 : Int) ≤ 9223372036854775807) from ⟨(by omega), (by omega)⟩))
 replace hi1011 : a0 ≠ (10 : Int) := (bEqF hi1011)
 refine iteR (p := fun r : (Int × Int) => (0 ≤ r.1 ∧ r.1 ≤ 18446744073709551615) ∧ (-9223372036854775808 ≤ r.2 ∧ r.2 ≤ 9223372036854775807)) (fun hi1012 => ?_) (fun hi1012 => ?_)
 ·
  replace hi1012 : a0 = (11 : Int) := (bEqT hi1012)
  refine letR (p := fun r : (Int × Int) => (0 ≤ r.1 ∧ r.1 ≤ 18446744073709551615) ∧ (-9223372036854775808 ≤ r.2 ∧ r.2 ≤ 9223372036854775807)) fun x369 hx370 => ?_
  have hx371 : (0 ≤ x369 ∧ x369 ≤ 18446744073709551615) := by rw [← hx370]; exact alu_do_u64_11_ok a2 a3 a1 (by omega) (by omega) (by omega) (by omega)
  exact (by exact (show (0 ≤ x369 ∧ x369 ≤ 18446744073709551615) ∧ (-9223372036854775808 ≤ (0 : Int) ∧ (0 : Int) ≤ 9223372036854775807) from ⟨(by omega), (by omega)⟩))
 replace hi1012 : a0 ≠ (11 : Int) := (bEqF hi1012)
 refine iteR (p := fun r : (Int × Int) => (0 ≤ r.1 ∧ r.1 ≤ 18446744073709551615) ∧ (-9223372036854775808 ≤ r.2 ∧ r.2 ≤ 9223372036854775807)) (fun hi1013 => ?_) (fun hi1013 => ?_)
 ·
  replace hi1013 : a0 = (12 : Int) := (bEqT hi1013)
  refine letR (p := fun r : (Int × Int) => (0 ≤ r.1 ∧ r.1 ≤ 18446744073709551615) ∧ (-9223372036854775808 ≤ r.2 ∧ r.2 ≤ 9223372036854775807)) fun x388 hx389 => ?_
  have hx390 : (0 ≤ x388 ∧ x388 ≤ 18446744073709551615) := by rw [← hx389]; exact alu_do_u64_12_ok a3 (by omega) 
  exact (by exact (show (0 ≤ x388 ∧ x388 ≤ 18446744073709551615) ∧ (-9223372036854775808 ≤ (0 : Int) ∧ (0 : Int) ≤ 9223372036854775807) from ⟨(by omega), (by omega)⟩))
 replace hi1013 : a0 ≠ (12 : Int) := (bEqF hi1013)
 refine iteR (p := fun r : (Int × Int) => (0 ≤ r.1 ∧ r.1 ≤ 18446744073709551615) ∧ (-9223372036854775808 ≤ r.2 ∧ r.2 ≤ 9223372036854775807)) (fun hi1014 => ?_) (fun hi1014 => ?_)
 ·
  replace hi1014 : a0 = (13 : Int) := (bEqT hi1014)
  refine letR (p := fun r : (Int × Int) => (0 ≤ r.1 ∧ r.1 ≤ 18446744073709551615) ∧ (-9223372036854775808 ≤ r.2 ∧ r.2 ≤ 9223372036854775807)) fun x407 hx408 => ?_
  have hx409 : (0 ≤ x407 ∧ x407 ≤ 18446744073709551615) := by rw [← hx408]; exact alu_do_u64_13_ok a2 (by omega) 
  exact (by exact (show (0 ≤ x407 ∧ x407 ≤ 18446744073709551615) ∧ (-9223372036854775808 ≤ (0 : Int) ∧ (0 : Int) ≤ 9223372036854775807) from ⟨(by omega), (by omega)⟩))
 replace hi1014 : a0 ≠ (13 : Int) := (bEqF hi1014)
 exact (by exact (show (0 ≤ (0 : Int) ∧ (0 : Int) ≤ 18446744073709551615) ∧ (-9223372036854775808 ≤ (2 : Int) ∧ (2 : Int) ≤ 9223372036854775807) from ⟨(by omega), (by omega)⟩))

set_option maxHeartbeats 4000000 in
theorem alu_do_u64_any (a0 : Int) (a1 : Int) (a2 : Int) (a3 : Int)   (w : World)  (_h_a0 : (0 ≤ a0 ∧ a0 ≤ 255)) (_h_a1 : (0 ≤ a1 ∧ a1 ≤ 18446744073709551615)) (_h_a2 : (0 ≤ a2 ∧ a2 ≤ 18446744073709551615)) (_h_a3 : (0 ≤ a3 ∧ a3 ≤ 18446744073709551615)) (_hb : a1 = 64) : Calls Try.prog 60 #[.int .u8 a0, .int .u64 a1, .int .u64 a2, .int .u64 a3] w (RetV w (.tuple #[.int .u64 (alu_do_u64 a0 a1 a2 a3).1, .int .i64 (alu_do_u64 a0 a1 a2 a3).2])) := by
 have hs := alu_do_u64.eq_1 a0 a1 a2 a3
 refine calls_of_CW Try.func60 rfl (n := 46) Try.ntmps60 (by kernel_rfl) [0, 1, 2, 3] (F := [(0, .int .u8 a0), (1, .int .u64 a1), (2, .int .u64 a2), (3, .int .u64 a3)]) (by kernel_rfl) ?_
 refine CW.seq fun K1 hK1 => ?_
 refine CW.region ?_
 refine WR.box (dst := some 5) (e := 23) (v := .int .u64 a1) (by kernel_rfl) #[.int .u64 a1] (by kernel_rfl) ?_
 intro g2 w3 hN4
 have hf6 : w.heap.size ≤ g2 := hN4.fresh
 have hfr8 := hN4.fresh
 have hc7 := hN4.chg
 have hz10 := hc7.size
 have hC9 := (Chg.refl [] w).pure hc7
 have hb5 := hN4.blk
 have hg11 := hb5.lt
 refine WR.box (dst := some 6) (e := 23) (v := .int .u64 a2) (by kernel_rfl) #[.int .u64 a2] (by kernel_rfl) ?_
 intro g12 w13 hN14
 have hl17 : g2 < g12 := Nat.lt_of_lt_of_le hb5.lt hN14.fresh
 have hf16 : w.heap.size ≤ g12 := Nat.le_trans hC9.size hN14.fresh
 have hfr19 := hN14.fresh
 have hc18 := hN14.chg
 have hz21 := hc18.size
 have hC20 := hC9.pure hc18
 have hb22 := hb5.pure hc18
 have hb15 := hN14.blk
 have hg23 := hb15.lt
 refine WR.box (dst := some 7) (e := 23) (v := .int .u64 a3) (by kernel_rfl) #[.int .u64 a3] (by kernel_rfl) ?_
 intro g24 w25 hN26
 have hl29 : g2 < g24 := Nat.lt_of_lt_of_le hb22.lt hN26.fresh
 have hl30 : g12 < g24 := Nat.lt_of_lt_of_le hb15.lt hN26.fresh
 have hf28 : w.heap.size ≤ g24 := Nat.le_trans hC20.size hN26.fresh
 have hfr32 := hN26.fresh
 have hc31 := hN26.chg
 have hz34 := hc31.size
 have hC33 := hC20.pure hc31
 have hb35 := hb22.pure hc31
 have hb36 := hb15.pure hc31
 have hb27 := hN26.blk
 have hg37 := hb27.lt
 refine WR.batch 2 [(0, .int .u8 a0), (5, pt g2 0), (6, pt g12 0), (7, pt g24 0)] (by kernel_rfl) ?_
 refine WR.fin (by kernel_rfl) ?_
 refine go hK1 ?_
 refine CW.seq fun K38 hK38 => ?_
 refine CW.seq fun K39 hK39 => ?_
 refine CW.region ?_
 refine WR.batch 3 [(0, .int .u8 a0), (5, pt g2 0), (6, pt g12 0), (7, pt g24 0), (14, .bool (a0 == (4 : Int)))] (by kernel_rfl) ?_
 refine WR.batch 3 [(0, .int .u8 a0), (5, pt g2 0), (6, pt g12 0), (7, pt g24 0), (17, .bool ((a0 == (4 : Int)) || (a0 == (5 : Int))))] (by generalize (a0 == (4 : Int)) = b; cases b <;> kernel_rfl) ?_
 refine WR.batch 1 [(0, .int .u8 a0), (5, pt g2 0), (6, pt g12 0), (7, pt g24 0), (18, .bool ((a0 == (4 : Int)) || (a0 == (5 : Int))))] (by kernel_rfl) ?_
 refine WR.mergeW 10 [(0, .int .u8 a0), (5, pt g2 0), (6, pt g12 0), (7, pt g24 0), (21, .bool (((a0 == (4 : Int)) || (a0 == (5 : Int))) && (a3 == (0 : Int))))] (fun w' => Chg [] w25 w') (fun Q' => ?_) ?_
 ·
  cases hg40 : ((a0 == (4 : Int)) || (a0 == (5 : Int)))
  ·
   replace hg40 : (a0 ≠ (4 : Int)) ∧ (a0 ≠ (5 : Int)) := ⟨(bEqF (bOrF hg40).1), (bEqF (bOrF hg40).2)⟩
   intro hM41
   refine WR.batch 3 [(0, .int .u8 a0), (5, pt g2 0), (6, pt g12 0), (7, pt g24 0), (21, .bool false)] (by kernel_rfl) ?_
   exact WR.keep [0, 5, 6, 7, 21] (by kernel_rfl) (hM41 _ (Chg.refl [] w25))
  ·
   replace hg40 : (a0 = (4 : Int)) ∨ (a0 = (5 : Int)) := (orMap (bOrT hg40) (fun h => (bEqT h)) (fun h => (bEqT h)))
   intro hM41
   refine WR.load (dst := some 19) (t := 23) (o := 0) hb27 (by kernel_rfl) (.int .u64 a3) (by kernel_rfl) ?_
   refine WR.batch 2 [(0, .int .u8 a0), (5, pt g2 0), (6, pt g12 0), (7, pt g24 0), (21, .bool (a3 == (0 : Int)))] (by kernel_rfl) ?_
   exact WR.keep [0, 5, 6, 7, 21] (by kernel_rfl) (hM41 _ (Chg.refl [] w25))
 intro w42 hc43
 have hz45 := hc43.size
 have hC44 := hC33.pure hc43
 have hb46 := hb35.pure hc43
 have hb47 := hb36.pure hc43
 have hb48 := hb27.pure hc43
 refine WR.fin (by kernel_rfl) ?_
 refine go hK39 ?_
 refine CW.cond ((((a0 == (4 : Int)) || (a0 == (5 : Int))) && (a3 == (0 : Int)))) (by kernel_rfl) (fun ht49 => ?_) (fun ht49 => ?_)
 ·
  have hs50 := ifT ht49 hs
  replace ht49 : ((a0 = (4 : Int)) ∨ (a0 = (5 : Int))) ∧ (a3 = (0 : Int)) := ⟨(orMap (bOrT (bAndT ht49).1) (fun h => (bEqT h)) (fun h => (bEqT h))), (bEqT (bAndT ht49).2)⟩
  refine CW.seq fun K51 hK51 => ?_
  refine CW.region ?_
  refine WR.batch 2 [(8, .int .u64 0), (9, .int .i64 113)] (by kernel_rfl) ?_
  refine WR.fin (by kernel_rfl) ?_
  refine go hK51 ?_
  refine CW.ret ?_
  exact retV (.tuple #[.int .u64 0, .int .i64 113]) (by kernel_rfl) (⟨hC44, (congrArg (fun r : (Int × Int) => (.tuple #[.int .u64 r.1, .int .i64 r.2] : Value)) hs50).symm⟩)
 have hs52 := ifF ht49 hs
 replace ht49 : ((a0 ≠ (4 : Int)) ∧ (a0 ≠ (5 : Int))) ∨ (a3 ≠ (0 : Int)) := (orMap (bAndF ht49) (fun h => ⟨(bEqF (bOrF h).1), (bEqF (bOrF h).2)⟩) (fun h => (bEqF h)))
 refine CW.skip ?_
 refine go hK38 ?_
 refine CW.seq fun K53 hK53 => ?_
 refine CW.region ?_
 refine WR.mkMap (dst := some 23) (t := 111) (by kernel_rfl) ?_
 intro g54 w55 hN56
 have hl59 : g2 < g54 := Nat.lt_of_lt_of_le hb46.lt hN56.fresh
 have hl60 : g12 < g54 := Nat.lt_of_lt_of_le hb47.lt hN56.fresh
 have hl61 : g24 < g54 := Nat.lt_of_lt_of_le hb48.lt hN56.fresh
 have hf58 : w.heap.size ≤ g54 := Nat.le_trans hC44.size hN56.fresh
 have hfr63 := hN56.fresh
 have hc62 := hN56.chg
 have hz65 := hc62.size
 have hC64 := hC44.pure hc62
 have hb66 := hb46.pure hc62
 have hb67 := hb47.pure hc62
 have hb68 := hb48.pure hc62
 have hb57 := hN56.blk
 have hg69 := hb57.lt
 refine WR.batch 1 [(0, .int .u8 a0), (5, pt g2 0), (6, pt g12 0), (7, pt g24 0), (23, .map (some g54)), (24, .func (.func 107) #[] #[pt g12 0, pt g24 0])] (by kernel_rfl) ?_
 refine WR.insert (t := 111) (kt := 22) (et := 109) (d := .int .u8) (x := .int .u8 1) (v := .func (.func 107) #[] #[pt g12 0, pt g24 0]) hb57 (by kernel_rfl) (by kernel_rfl) rfl (by kernel_rfl) #[({ key := .int .u8 1, val := .func (.func 107) #[] #[pt g12 0, pt g24 0], born := 0 } : MapEntry)] (by kernel_rfl) ?_
 intro w70 hb71 hc72
 have hz74 := hc72.size
 have hC73 := hC64.step1 hc72 (by omega)
 have hb75 := hb66.chg1 hc72 (by omega)
 have hb76 := hb67.chg1 hc72 (by omega)
 have hb77 := hb68.chg1 hc72 (by omega)
 refine WR.batch 1 [(0, .int .u8 a0), (5, pt g2 0), (6, pt g12 0), (7, pt g24 0), (23, .map (some g54)), (25, .func (.func 108) #[] #[pt g12 0, pt g24 0])] (by kernel_rfl) ?_
 refine WR.insert (t := 111) (kt := 22) (et := 109) (d := .int .u8) (x := .int .u8 2) (v := .func (.func 108) #[] #[pt g12 0, pt g24 0]) hb71 (by kernel_rfl) (by kernel_rfl) rfl (by kernel_rfl) #[({ key := .int .u8 1, val := .func (.func 107) #[] #[pt g12 0, pt g24 0], born := 0 } : MapEntry), ({ key := .int .u8 2, val := .func (.func 108) #[] #[pt g12 0, pt g24 0], born := 1 } : MapEntry)] (by kernel_rfl) ?_
 intro w78 hb79 hc80
 have hz82 := hc80.size
 have hC81 := hC73.step1 hc80 (by omega)
 have hb83 := hb75.chg1 hc80 (by omega)
 have hb84 := hb76.chg1 hc80 (by omega)
 have hb85 := hb77.chg1 hc80 (by omega)
 refine WR.batch 1 [(0, .int .u8 a0), (5, pt g2 0), (6, pt g12 0), (7, pt g24 0), (23, .map (some g54)), (26, .func (.func 109) #[] #[pt g12 0, pt g24 0])] (by kernel_rfl) ?_
 refine WR.insert (t := 111) (kt := 22) (et := 109) (d := .int .u8) (x := .int .u8 3) (v := .func (.func 109) #[] #[pt g12 0, pt g24 0]) hb79 (by kernel_rfl) (by kernel_rfl) rfl (by kernel_rfl) #[({ key := .int .u8 1, val := .func (.func 107) #[] #[pt g12 0, pt g24 0], born := 0 } : MapEntry), ({ key := .int .u8 2, val := .func (.func 108) #[] #[pt g12 0, pt g24 0], born := 1 } : MapEntry), ({ key := .int .u8 3, val := .func (.func 109) #[] #[pt g12 0, pt g24 0], born := 2 } : MapEntry)] (by kernel_rfl) ?_
 intro w86 hb87 hc88
 have hz90 := hc88.size
 have hC89 := hC81.step1 hc88 (by omega)
 have hb91 := hb83.chg1 hc88 (by omega)
 have hb92 := hb84.chg1 hc88 (by omega)
 have hb93 := hb85.chg1 hc88 (by omega)
 refine WR.batch 1 [(0, .int .u8 a0), (5, pt g2 0), (6, pt g12 0), (7, pt g24 0), (23, .map (some g54)), (27, .func (.func 110) #[] #[pt g12 0, pt g24 0])] (by kernel_rfl) ?_
 refine WR.insert (t := 111) (kt := 22) (et := 109) (d := .int .u8) (x := .int .u8 4) (v := .func (.func 110) #[] #[pt g12 0, pt g24 0]) hb87 (by kernel_rfl) (by kernel_rfl) rfl (by kernel_rfl) #[({ key := .int .u8 1, val := .func (.func 107) #[] #[pt g12 0, pt g24 0], born := 0 } : MapEntry), ({ key := .int .u8 2, val := .func (.func 108) #[] #[pt g12 0, pt g24 0], born := 1 } : MapEntry), ({ key := .int .u8 3, val := .func (.func 109) #[] #[pt g12 0, pt g24 0], born := 2 } : MapEntry), ({ key := .int .u8 4, val := .func (.func 110) #[] #[pt g12 0, pt g24 0], born := 3 } : MapEntry)] (by kernel_rfl) ?_
 intro w94 hb95 hc96
 have hz98 := hc96.size
 have hC97 := hC89.step1 hc96 (by omega)
 have hb99 := hb91.chg1 hc96 (by omega)
 have hb100 := hb92.chg1 hc96 (by omega)
 have hb101 := hb93.chg1 hc96 (by omega)
 refine WR.batch 1 [(0, .int .u8 a0), (5, pt g2 0), (6, pt g12 0), (7, pt g24 0), (23, .map (some g54)), (28, .func (.func 111) #[] #[pt g12 0, pt g24 0])] (by kernel_rfl) ?_
 refine WR.insert (t := 111) (kt := 22) (et := 109) (d := .int .u8) (x := .int .u8 5) (v := .func (.func 111) #[] #[pt g12 0, pt g24 0]) hb95 (by kernel_rfl) (by kernel_rfl) rfl (by kernel_rfl) #[({ key := .int .u8 1, val := .func (.func 107) #[] #[pt g12 0, pt g24 0], born := 0 } : MapEntry), ({ key := .int .u8 2, val := .func (.func 108) #[] #[pt g12 0, pt g24 0], born := 1 } : MapEntry), ({ key := .int .u8 3, val := .func (.func 109) #[] #[pt g12 0, pt g24 0], born := 2 } : MapEntry), ({ key := .int .u8 4, val := .func (.func 110) #[] #[pt g12 0, pt g24 0], born := 3 } : MapEntry), ({ key := .int .u8 5, val := .func (.func 111) #[] #[pt g12 0, pt g24 0], born := 4 } : MapEntry)] (by kernel_rfl) ?_
 intro w102 hb103 hc104
 have hz106 := hc104.size
 have hC105 := hC97.step1 hc104 (by omega)
 have hb107 := hb99.chg1 hc104 (by omega)
 have hb108 := hb100.chg1 hc104 (by omega)
 have hb109 := hb101.chg1 hc104 (by omega)
 refine WR.batch 1 [(0, .int .u8 a0), (5, pt g2 0), (6, pt g12 0), (7, pt g24 0), (23, .map (some g54)), (29, .func (.func 112) #[] #[pt g12 0, pt g24 0])] (by kernel_rfl) ?_
 refine WR.insert (t := 111) (kt := 22) (et := 109) (d := .int .u8) (x := .int .u8 6) (v := .func (.func 112) #[] #[pt g12 0, pt g24 0]) hb103 (by kernel_rfl) (by kernel_rfl) rfl (by kernel_rfl) #[({ key := .int .u8 1, val := .func (.func 107) #[] #[pt g12 0, pt g24 0], born := 0 } : MapEntry), ({ key := .int .u8 2, val := .func (.func 108) #[] #[pt g12 0, pt g24 0], born := 1 } : MapEntry), ({ key := .int .u8 3, val := .func (.func 109) #[] #[pt g12 0, pt g24 0], born := 2 } : MapEntry), ({ key := .int .u8 4, val := .func (.func 110) #[] #[pt g12 0, pt g24 0], born := 3 } : MapEntry), ({ key := .int .u8 5, val := .func (.func 111) #[] #[pt g12 0, pt g24 0], born := 4 } : MapEntry), ({ key := .int .u8 6, val := .func (.func 112) #[] #[pt g12 0, pt g24 0], born := 5 } : MapEntry)] (by kernel_rfl) ?_
 intro w110 hb111 hc112
 have hz114 := hc112.size
 have hC113 := hC105.step1 hc112 (by omega)
 have hb115 := hb107.chg1 hc112 (by omega)
 have hb116 := hb108.chg1 hc112 (by omega)
 have hb117 := hb109.chg1 hc112 (by omega)
 refine WR.batch 1 [(0, .int .u8 a0), (5, pt g2 0), (6, pt g12 0), (7, pt g24 0), (23, .map (some g54)), (30, .func (.func 113) #[] #[pt g12 0, pt g24 0])] (by kernel_rfl) ?_
 refine WR.insert (t := 111) (kt := 22) (et := 109) (d := .int .u8) (x := .int .u8 7) (v := .func (.func 113) #[] #[pt g12 0, pt g24 0]) hb111 (by kernel_rfl) (by kernel_rfl) rfl (by kernel_rfl) #[({ key := .int .u8 1, val := .func (.func 107) #[] #[pt g12 0, pt g24 0], born := 0 } : MapEntry), ({ key := .int .u8 2, val := .func (.func 108) #[] #[pt g12 0, pt g24 0], born := 1 } : MapEntry), ({ key := .int .u8 3, val := .func (.func 109) #[] #[pt g12 0, pt g24 0], born := 2 } : MapEntry), ({ key := .int .u8 4, val := .func (.func 110) #[] #[pt g12 0, pt g24 0], born := 3 } : MapEntry), ({ key := .int .u8 5, val := .func (.func 111) #[] #[pt g12 0, pt g24 0], born := 4 } : MapEntry), ({ key := .int .u8 6, val := .func (.func 112) #[] #[pt g12 0, pt g24 0], born := 5 } : MapEntry), ({ key := .int .u8 7, val := .func (.func 113) #[] #[pt g12 0, pt g24 0], born := 6 } : MapEntry)] (by kernel_rfl) ?_
 intro w118 hb119 hc120
 have hz122 := hc120.size
 have hC121 := hC113.step1 hc120 (by omega)
 have hb123 := hb115.chg1 hc120 (by omega)
 have hb124 := hb116.chg1 hc120 (by omega)
 have hb125 := hb117.chg1 hc120 (by omega)
 refine WR.batch 1 [(0, .int .u8 a0), (5, pt g2 0), (6, pt g12 0), (7, pt g24 0), (23, .map (some g54)), (31, .func (.func 114) #[] #[pt g12 0, pt g24 0])] (by kernel_rfl) ?_
 refine WR.insert (t := 111) (kt := 22) (et := 109) (d := .int .u8) (x := .int .u8 8) (v := .func (.func 114) #[] #[pt g12 0, pt g24 0]) hb119 (by kernel_rfl) (by kernel_rfl) rfl (by kernel_rfl) #[({ key := .int .u8 1, val := .func (.func 107) #[] #[pt g12 0, pt g24 0], born := 0 } : MapEntry), ({ key := .int .u8 2, val := .func (.func 108) #[] #[pt g12 0, pt g24 0], born := 1 } : MapEntry), ({ key := .int .u8 3, val := .func (.func 109) #[] #[pt g12 0, pt g24 0], born := 2 } : MapEntry), ({ key := .int .u8 4, val := .func (.func 110) #[] #[pt g12 0, pt g24 0], born := 3 } : MapEntry), ({ key := .int .u8 5, val := .func (.func 111) #[] #[pt g12 0, pt g24 0], born := 4 } : MapEntry), ({ key := .int .u8 6, val := .func (.func 112) #[] #[pt g12 0, pt g24 0], born := 5 } : MapEntry), ({ key := .int .u8 7, val := .func (.func 113) #[] #[pt g12 0, pt g24 0], born := 6 } : MapEntry), ({ key := .int .u8 8, val := .func (.func 114) #[] #[pt g12 0, pt g24 0], born := 7 } : MapEntry)] (by kernel_rfl) ?_
 intro w126 hb127 hc128
 have hz130 := hc128.size
 have hC129 := hC121.step1 hc128 (by omega)
 have hb131 := hb123.chg1 hc128 (by omega)
 have hb132 := hb124.chg1 hc128 (by omega)
 have hb133 := hb125.chg1 hc128 (by omega)
 refine WR.batch 1 [(0, .int .u8 a0), (5, pt g2 0), (6, pt g12 0), (7, pt g24 0), (23, .map (some g54)), (32, .func (.func 115) #[] #[pt g12 0, pt g24 0, pt g2 0])] (by kernel_rfl) ?_
 refine WR.insert (t := 111) (kt := 22) (et := 109) (d := .int .u8) (x := .int .u8 9) (v := .func (.func 115) #[] #[pt g12 0, pt g24 0, pt g2 0]) hb127 (by kernel_rfl) (by kernel_rfl) rfl (by kernel_rfl) #[({ key := .int .u8 1, val := .func (.func 107) #[] #[pt g12 0, pt g24 0], born := 0 } : MapEntry), ({ key := .int .u8 2, val := .func (.func 108) #[] #[pt g12 0, pt g24 0], born := 1 } : MapEntry), ({ key := .int .u8 3, val := .func (.func 109) #[] #[pt g12 0, pt g24 0], born := 2 } : MapEntry), ({ key := .int .u8 4, val := .func (.func 110) #[] #[pt g12 0, pt g24 0], born := 3 } : MapEntry), ({ key := .int .u8 5, val := .func (.func 111) #[] #[pt g12 0, pt g24 0], born := 4 } : MapEntry), ({ key := .int .u8 6, val := .func (.func 112) #[] #[pt g12 0, pt g24 0], born := 5 } : MapEntry), ({ key := .int .u8 7, val := .func (.func 113) #[] #[pt g12 0, pt g24 0], born := 6 } : MapEntry), ({ key := .int .u8 8, val := .func (.func 114) #[] #[pt g12 0, pt g24 0], born := 7 } : MapEntry), ({ key := .int .u8 9, val := .func (.func 115) #[] #[pt g12 0, pt g24 0, pt g2 0], born := 8 } : MapEntry)] (by kernel_rfl) ?_
 intro w134 hb135 hc136
 have hz138 := hc136.size
 have hC137 := hC129.step1 hc136 (by omega)
 have hb139 := hb131.chg1 hc136 (by omega)
 have hb140 := hb132.chg1 hc136 (by omega)
 have hb141 := hb133.chg1 hc136 (by omega)
 refine WR.batch 1 [(0, .int .u8 a0), (5, pt g2 0), (6, pt g12 0), (7, pt g24 0), (23, .map (some g54)), (33, .func (.func 116) #[] #[pt g12 0, pt g24 0, pt g2 0])] (by kernel_rfl) ?_
 refine WR.insert (t := 111) (kt := 22) (et := 109) (d := .int .u8) (x := .int .u8 10) (v := .func (.func 116) #[] #[pt g12 0, pt g24 0, pt g2 0]) hb135 (by kernel_rfl) (by kernel_rfl) rfl (by kernel_rfl) #[({ key := .int .u8 1, val := .func (.func 107) #[] #[pt g12 0, pt g24 0], born := 0 } : MapEntry), ({ key := .int .u8 2, val := .func (.func 108) #[] #[pt g12 0, pt g24 0], born := 1 } : MapEntry), ({ key := .int .u8 3, val := .func (.func 109) #[] #[pt g12 0, pt g24 0], born := 2 } : MapEntry), ({ key := .int .u8 4, val := .func (.func 110) #[] #[pt g12 0, pt g24 0], born := 3 } : MapEntry), ({ key := .int .u8 5, val := .func (.func 111) #[] #[pt g12 0, pt g24 0], born := 4 } : MapEntry), ({ key := .int .u8 6, val := .func (.func 112) #[] #[pt g12 0, pt g24 0], born := 5 } : MapEntry), ({ key := .int .u8 7, val := .func (.func 113) #[] #[pt g12 0, pt g24 0], born := 6 } : MapEntry), ({ key := .int .u8 8, val := .func (.func 114) #[] #[pt g12 0, pt g24 0], born := 7 } : MapEntry), ({ key := .int .u8 9, val := .func (.func 115) #[] #[pt g12 0, pt g24 0, pt g2 0], born := 8 } : MapEntry), ({ key := .int .u8 10, val := .func (.func 116) #[] #[pt g12 0, pt g24 0, pt g2 0], born := 9 } : MapEntry)] (by kernel_rfl) ?_
 intro w142 hb143 hc144
 have hz146 := hc144.size
 have hC145 := hC137.step1 hc144 (by omega)
 have hb147 := hb139.chg1 hc144 (by omega)
 have hb148 := hb140.chg1 hc144 (by omega)
 have hb149 := hb141.chg1 hc144 (by omega)
 refine WR.batch 1 [(0, .int .u8 a0), (6, pt g12 0), (7, pt g24 0), (23, .map (some g54)), (34, .func (.func 117) #[] #[pt g12 0, pt g24 0, pt g2 0])] (by kernel_rfl) ?_
 refine WR.insert (t := 111) (kt := 22) (et := 109) (d := .int .u8) (x := .int .u8 11) (v := .func (.func 117) #[] #[pt g12 0, pt g24 0, pt g2 0]) hb143 (by kernel_rfl) (by kernel_rfl) rfl (by kernel_rfl) #[({ key := .int .u8 1, val := .func (.func 107) #[] #[pt g12 0, pt g24 0], born := 0 } : MapEntry), ({ key := .int .u8 2, val := .func (.func 108) #[] #[pt g12 0, pt g24 0], born := 1 } : MapEntry), ({ key := .int .u8 3, val := .func (.func 109) #[] #[pt g12 0, pt g24 0], born := 2 } : MapEntry), ({ key := .int .u8 4, val := .func (.func 110) #[] #[pt g12 0, pt g24 0], born := 3 } : MapEntry), ({ key := .int .u8 5, val := .func (.func 111) #[] #[pt g12 0, pt g24 0], born := 4 } : MapEntry), ({ key := .int .u8 6, val := .func (.func 112) #[] #[pt g12 0, pt g24 0], born := 5 } : MapEntry), ({ key := .int .u8 7, val := .func (.func 113) #[] #[pt g12 0, pt g24 0], born := 6 } : MapEntry), ({ key := .int .u8 8, val := .func (.func 114) #[] #[pt g12 0, pt g24 0], born := 7 } : MapEntry), ({ key := .int .u8 9, val := .func (.func 115) #[] #[pt g12 0, pt g24 0, pt g2 0], born := 8 } : MapEntry), ({ key := .int .u8 10, val := .func (.func 116) #[] #[pt g12 0, pt g24 0, pt g2 0], born := 9 } : MapEntry), ({ key := .int .u8 11, val := .func (.func 117) #[] #[pt g12 0, pt g24 0, pt g2 0], born := 10 } : MapEntry)] (by kernel_rfl) ?_
 intro w150 hb151 hc152
 have hz154 := hc152.size
 have hC153 := hC145.step1 hc152 (by omega)
 have hb155 := hb147.chg1 hc152 (by omega)
 have hb156 := hb148.chg1 hc152 (by omega)
 have hb157 := hb149.chg1 hc152 (by omega)
 refine WR.batch 1 [(0, .int .u8 a0), (6, pt g12 0), (23, .map (some g54)), (35, .func (.func 118) #[] #[pt g24 0])] (by kernel_rfl) ?_
 refine WR.insert (t := 111) (kt := 22) (et := 109) (d := .int .u8) (x := .int .u8 12) (v := .func (.func 118) #[] #[pt g24 0]) hb151 (by kernel_rfl) (by kernel_rfl) rfl (by kernel_rfl) #[({ key := .int .u8 1, val := .func (.func 107) #[] #[pt g12 0, pt g24 0], born := 0 } : MapEntry), ({ key := .int .u8 2, val := .func (.func 108) #[] #[pt g12 0, pt g24 0], born := 1 } : MapEntry), ({ key := .int .u8 3, val := .func (.func 109) #[] #[pt g12 0, pt g24 0], born := 2 } : MapEntry), ({ key := .int .u8 4, val := .func (.func 110) #[] #[pt g12 0, pt g24 0], born := 3 } : MapEntry), ({ key := .int .u8 5, val := .func (.func 111) #[] #[pt g12 0, pt g24 0], born := 4 } : MapEntry), ({ key := .int .u8 6, val := .func (.func 112) #[] #[pt g12 0, pt g24 0], born := 5 } : MapEntry), ({ key := .int .u8 7, val := .func (.func 113) #[] #[pt g12 0, pt g24 0], born := 6 } : MapEntry), ({ key := .int .u8 8, val := .func (.func 114) #[] #[pt g12 0, pt g24 0], born := 7 } : MapEntry), ({ key := .int .u8 9, val := .func (.func 115) #[] #[pt g12 0, pt g24 0, pt g2 0], born := 8 } : MapEntry), ({ key := .int .u8 10, val := .func (.func 116) #[] #[pt g12 0, pt g24 0, pt g2 0], born := 9 } : MapEntry), ({ key := .int .u8 11, val := .func (.func 117) #[] #[pt g12 0, pt g24 0, pt g2 0], born := 10 } : MapEntry), ({ key := .int .u8 12, val := .func (.func 118) #[] #[pt g24 0], born := 11 } : MapEntry)] (by kernel_rfl) ?_
 intro w158 hb159 hc160
 have hz162 := hc160.size
 have hC161 := hC153.step1 hc160 (by omega)
 have hb163 := hb155.chg1 hc160 (by omega)
 have hb164 := hb156.chg1 hc160 (by omega)
 have hb165 := hb157.chg1 hc160 (by omega)
 refine WR.batch 1 [(0, .int .u8 a0), (23, .map (some g54)), (36, .func (.func 119) #[] #[pt g12 0])] (by kernel_rfl) ?_
 refine WR.insert (t := 111) (kt := 22) (et := 109) (d := .int .u8) (x := .int .u8 13) (v := .func (.func 119) #[] #[pt g12 0]) hb159 (by kernel_rfl) (by kernel_rfl) rfl (by kernel_rfl) #[({ key := .int .u8 1, val := .func (.func 107) #[] #[pt g12 0, pt g24 0], born := 0 } : MapEntry), ({ key := .int .u8 2, val := .func (.func 108) #[] #[pt g12 0, pt g24 0], born := 1 } : MapEntry), ({ key := .int .u8 3, val := .func (.func 109) #[] #[pt g12 0, pt g24 0], born := 2 } : MapEntry), ({ key := .int .u8 4, val := .func (.func 110) #[] #[pt g12 0, pt g24 0], born := 3 } : MapEntry), ({ key := .int .u8 5, val := .func (.func 111) #[] #[pt g12 0, pt g24 0], born := 4 } : MapEntry), ({ key := .int .u8 6, val := .func (.func 112) #[] #[pt g12 0, pt g24 0], born := 5 } : MapEntry), ({ key := .int .u8 7, val := .func (.func 113) #[] #[pt g12 0, pt g24 0], born := 6 } : MapEntry), ({ key := .int .u8 8, val := .func (.func 114) #[] #[pt g12 0, pt g24 0], born := 7 } : MapEntry), ({ key := .int .u8 9, val := .func (.func 115) #[] #[pt g12 0, pt g24 0, pt g2 0], born := 8 } : MapEntry), ({ key := .int .u8 10, val := .func (.func 116) #[] #[pt g12 0, pt g24 0, pt g2 0], born := 9 } : MapEntry), ({ key := .int .u8 11, val := .func (.func 117) #[] #[pt g12 0, pt g24 0, pt g2 0], born := 10 } : MapEntry), ({ key := .int .u8 12, val := .func (.func 118) #[] #[pt g24 0], born := 11 } : MapEntry), ({ key := .int .u8 13, val := .func (.func 119) #[] #[pt g12 0], born := 12 } : MapEntry)] (by kernel_rfl) ?_
 intro w166 hb167 hc168
 have hz170 := hc168.size
 have hC169 := hC161.step1 hc168 (by omega)
 have hb171 := hb163.chg1 hc168 (by omega)
 have hb172 := hb164.chg1 hc168 (by omega)
 have hb173 := hb165.chg1 hc168 (by omega)
 refine WR.batch 2 [(37, .map (some g54)), (38, .int .u8 a0)] (by kernel_rfl) ?_
 rcases Bool.eq_false_or_eq_true (a0 == (1 : Int)) with hq174 | hq174
 ·
  have hs175 := ifT hq174 hs52
  replace hq174 := bEqT hq174
  refine WR.valR (dst := some 39) (v := .tuple #[.func (.func 107) #[] #[pt g12 0, pt g24 0], .bool true]) (w' := w166) (run_lookup (t := 111) (co := true) (kt := 22) (et := 109) (d := .int .u8) (x := .int .u8 a0) (z := .nilFunc) hb167 (by kernel_rfl) (by kernel_rfl) rfl (some (0, .func (.func 107) #[] #[pt g12 0, pt g24 0])) (by rw [hq174]; rfl) (by kernel_rfl) _ (by kernel_rfl)) ?_
  refine WR.batch 5 [(10, .func (.func 107) #[] #[pt g12 0, pt g24 0]), (11, .bool true)] (by kernel_rfl) ?_
  refine WR.fin (by kernel_rfl) ?_
  refine go hK53 ?_
  refine CW.seq fun K176 hK176 => ?_
  refine CW.seq fun K177 hK177 => ?_
  refine CW.region ?_
  refine WR.batch 2 [(10, .func (.func 107) #[] #[pt g12 0, pt g24 0]), (43, .bool false)] (by kernel_rfl) ?_
  refine WR.fin (by kernel_rfl) ?_
  refine go hK177 ?_
  refine CW.no (by kernel_rfl) ?_
  refine CW.skip ?_
  refine go hK176 ?_
  refine CW.seq fun K178 hK178 => ?_
  refine CW.region ?_
  refine WR.batch 1 [(44, .func (.func 107) #[] #[pt g12 0, pt g24 0])] (by kernel_rfl) ?_
  obtain ⟨x179, hx180⟩ : ∃ x, alu_do_u64_1 a2 a3 = x := ⟨_, rfl⟩
  have hs182 := letS hx180 hs175
  have hx183 : (0 ≤ x179 ∧ x179 ≤ 18446744073709551615) := by rw [← hx180]; exact alu_do_u64_1_ok a2 a3 (by omega) (by omega) 
  refine WR.call (dst := some 45) (by kernel_rfl) (retE (g := fun r : Int => (.int .u64 r : Value)) hx180 (alu_do_u64_1_any a2 a3 g12 g24 w166 hb172 hb173 (by omega) (by omega) )) ?_
  rintro _ w184 hc185 rfl
  have hz187 := hc185.size
  have hC186 := hC169.pure hc185
  have hb188 := hb171.pure hc185
  have hb189 := hb172.pure hc185
  have hb190 := hb173.pure hc185
  have hb191 := hb167.pure hc185
  refine WR.batch 2 [(8, .int .u64 x179), (9, .int .i64 0)] (by kernel_rfl) ?_
  refine WR.fin (by kernel_rfl) ?_
  refine go hK178 ?_
  refine CW.ret ?_
  exact retV (.tuple #[.int .u64 x179, .int .i64 0]) (by kernel_rfl) (⟨hC186, (congrArg (fun r : (Int × Int) => (.tuple #[.int .u64 r.1, .int .i64 r.2] : Value)) hs182).symm⟩)
 have hs192 := ifF hq174 hs52
 rcases Bool.eq_false_or_eq_true (a0 == (2 : Int)) with hq193 | hq193
 ·
  have hs194 := ifT hq193 hs192
  replace hq193 := bEqT hq193
  refine WR.valR (dst := some 39) (v := .tuple #[.func (.func 108) #[] #[pt g12 0, pt g24 0], .bool true]) (w' := w166) (run_lookup (t := 111) (co := true) (kt := 22) (et := 109) (d := .int .u8) (x := .int .u8 a0) (z := .nilFunc) hb167 (by kernel_rfl) (by kernel_rfl) rfl (some (1, .func (.func 108) #[] #[pt g12 0, pt g24 0])) (by rw [hq193]; rfl) (by kernel_rfl) _ (by kernel_rfl)) ?_
  refine WR.batch 5 [(10, .func (.func 108) #[] #[pt g12 0, pt g24 0]), (11, .bool true)] (by kernel_rfl) ?_
  refine WR.fin (by kernel_rfl) ?_
  refine go hK53 ?_
  refine CW.seq fun K195 hK195 => ?_
  refine CW.seq fun K196 hK196 => ?_
  refine CW.region ?_
  refine WR.batch 2 [(10, .func (.func 108) #[] #[pt g12 0, pt g24 0]), (43, .bool false)] (by kernel_rfl) ?_
  refine WR.fin (by kernel_rfl) ?_
  refine go hK196 ?_
  refine CW.no (by kernel_rfl) ?_
  refine CW.skip ?_
  refine go hK195 ?_
  refine CW.seq fun K197 hK197 => ?_
  refine CW.region ?_
  refine WR.batch 1 [(44, .func (.func 108) #[] #[pt g12 0, pt g24 0])] (by kernel_rfl) ?_
  obtain ⟨x198, hx199⟩ : ∃ x, alu_do_u64_2 a2 a3 = x := ⟨_, rfl⟩
  have hs201 := letS hx199 hs194
  have hx202 : (0 ≤ x198 ∧ x198 ≤ 18446744073709551615) := by rw [← hx199]; exact alu_do_u64_2_ok a2 a3 (by omega) (by omega) 
  refine WR.call (dst := some 45) (by kernel_rfl) (retE (g := fun r : Int => (.int .u64 r : Value)) hx199 (alu_do_u64_2_any a2 a3 g12 g24 w166 hb172 hb173 (by omega) (by omega) )) ?_
  rintro _ w203 hc204 rfl
  have hz206 := hc204.size
  have hC205 := hC169.pure hc204
  have hb207 := hb171.pure hc204
  have hb208 := hb172.pure hc204
  have hb209 := hb173.pure hc204
  have hb210 := hb167.pure hc204
  refine WR.batch 2 [(8, .int .u64 x198), (9, .int .i64 0)] (by kernel_rfl) ?_
  refine WR.fin (by kernel_rfl) ?_
  refine go hK197 ?_
  refine CW.ret ?_
  exact retV (.tuple #[.int .u64 x198, .int .i64 0]) (by kernel_rfl) (⟨hC205, (congrArg (fun r : (Int × Int) => (.tuple #[.int .u64 r.1, .int .i64 r.2] : Value)) hs201).symm⟩)
 have hs211 := ifF hq193 hs192
 rcases Bool.eq_false_or_eq_true (a0 == (3 : Int)) with hq212 | hq212
 ·
  have hs213 := ifT hq212 hs211
  replace hq212 := bEqT hq212
  refine WR.valR (dst := some 39) (v := .tuple #[.func (.func 109) #[] #[pt g12 0, pt g24 0], .bool true]) (w' := w166) (run_lookup (t := 111) (co := true) (kt := 22) (et := 109) (d := .int .u8) (x := .int .u8 a0) (z := .nilFunc) hb167 (by kernel_rfl) (by kernel_rfl) rfl (some (2, .func (.func 109) #[] #[pt g12 0, pt g24 0])) (by rw [hq212]; rfl) (by kernel_rfl) _ (by kernel_rfl)) ?_
  refine WR.batch 5 [(10, .func (.func 109) #[] #[pt g12 0, pt g24 0]), (11, .bool true)] (by kernel_rfl) ?_
  refine WR.fin (by kernel_rfl) ?_
  refine go hK53 ?_
  refine CW.seq fun K214 hK214 => ?_
  refine CW.seq fun K215 hK215 => ?_
  refine CW.region ?_
  refine WR.batch 2 [(10, .func (.func 109) #[] #[pt g12 0, pt g24 0]), (43, .bool false)] (by kernel_rfl) ?_
  refine WR.fin (by kernel_rfl) ?_
  refine go hK215 ?_
  refine CW.no (by kernel_rfl) ?_
  refine CW.skip ?_
  refine go hK214 ?_
  refine CW.seq fun K216 hK216 => ?_
  refine CW.region ?_
  refine WR.batch 1 [(44, .func (.func 109) #[] #[pt g12 0, pt g24 0])] (by kernel_rfl) ?_
  obtain ⟨x217, hx218⟩ : ∃ x, alu_do_u64_3 a2 a3 = x := ⟨_, rfl⟩
  have hs220 := letS hx218 hs213
  have hx221 : (0 ≤ x217 ∧ x217 ≤ 18446744073709551615) := by rw [← hx218]; exact alu_do_u64_3_ok a2 a3 (by omega) (by omega) 
  refine WR.call (dst := some 45) (by kernel_rfl) (retE (g := fun r : Int => (.int .u64 r : Value)) hx218 (alu_do_u64_3_any a2 a3 g12 g24 w166 hb172 hb173 (by omega) (by omega) )) ?_
  rintro _ w222 hc223 rfl
  have hz225 := hc223.size
  have hC224 := hC169.pure hc223
  have hb226 := hb171.pure hc223
  have hb227 := hb172.pure hc223
  have hb228 := hb173.pure hc223
  have hb229 := hb167.pure hc223
  refine WR.batch 2 [(8, .int .u64 x217), (9, .int .i64 0)] (by kernel_rfl) ?_
  refine WR.fin (by kernel_rfl) ?_
  refine go hK216 ?_
  refine CW.ret ?_
  exact retV (.tuple #[.int .u64 x217, .int .i64 0]) (by kernel_rfl) (⟨hC224, (congrArg (fun r : (Int × Int) => (.tuple #[.int .u64 r.1, .int .i64 r.2] : Value)) hs220).symm⟩)
 have hs230 := ifF hq212 hs211
 rcases Bool.eq_false_or_eq_true (a0 == (4 : Int)) with hq231 | hq231
 ·
  have hs232 := ifT hq231 hs230
  replace hq231 := bEqT hq231
  refine WR.valR (dst := some 39) (v := .tuple #[.func (.func 110) #[] #[pt g12 0, pt g24 0], .bool true]) (w' := w166) (run_lookup (t := 111) (co := true) (kt := 22) (et := 109) (d := .int .u8) (x := .int .u8 a0) (z := .nilFunc) hb167 (by kernel_rfl) (by kernel_rfl) rfl (some (3, .func (.func 110) #[] #[pt g12 0, pt g24 0])) (by rw [hq231]; rfl) (by kernel_rfl) _ (by kernel_rfl)) ?_
  refine WR.batch 5 [(10, .func (.func 110) #[] #[pt g12 0, pt g24 0]), (11, .bool true)] (by kernel_rfl) ?_
  refine WR.fin (by kernel_rfl) ?_
  refine go hK53 ?_
  refine CW.seq fun K233 hK233 => ?_
  refine CW.seq fun K234 hK234 => ?_
  refine CW.region ?_
  refine WR.batch 2 [(10, .func (.func 110) #[] #[pt g12 0, pt g24 0]), (43, .bool false)] (by kernel_rfl) ?_
  refine WR.fin (by kernel_rfl) ?_
  refine go hK234 ?_
  refine CW.no (by kernel_rfl) ?_
  refine CW.skip ?_
  refine go hK233 ?_
  refine CW.seq fun K235 hK235 => ?_
  refine CW.region ?_
  refine WR.batch 1 [(44, .func (.func 110) #[] #[pt g12 0, pt g24 0])] (by kernel_rfl) ?_
  obtain ⟨x236, hx237⟩ : ∃ x, alu_do_u64_4 a2 a3 = x := ⟨_, rfl⟩
  have hs239 := letS hx237 hs232
  have hx240 : (0 ≤ x236 ∧ x236 ≤ 18446744073709551615) := by rw [← hx237]; exact alu_do_u64_4_ok a2 a3 (by omega) (by omega) (by omega)
  refine WR.call (dst := some 45) (by kernel_rfl) (retE (g := fun r : Int => (.int .u64 r : Value)) hx237 (alu_do_u64_4_any a2 a3 g12 g24 w166 hb172 hb173 (by omega) (by omega) (by omega))) ?_
  rintro _ w241 hc242 rfl
  have hz244 := hc242.size
  have hC243 := hC169.pure hc242
  have hb245 := hb171.pure hc242
  have hb246 := hb172.pure hc242
  have hb247 := hb173.pure hc242
  have hb248 := hb167.pure hc242
  refine WR.batch 2 [(8, .int .u64 x236), (9, .int .i64 0)] (by kernel_rfl) ?_
  refine WR.fin (by kernel_rfl) ?_
  refine go hK235 ?_
  refine CW.ret ?_
  exact retV (.tuple #[.int .u64 x236, .int .i64 0]) (by kernel_rfl) (⟨hC243, (congrArg (fun r : (Int × Int) => (.tuple #[.int .u64 r.1, .int .i64 r.2] : Value)) hs239).symm⟩)
 have hs249 := ifF hq231 hs230
 rcases Bool.eq_false_or_eq_true (a0 == (5 : Int)) with hq250 | hq250
 ·
  have hs251 := ifT hq250 hs249
  replace hq250 := bEqT hq250
  refine WR.valR (dst := some 39) (v := .tuple #[.func (.func 111) #[] #[pt g12 0, pt g24 0], .bool true]) (w' := w166) (run_lookup (t := 111) (co := true) (kt := 22) (et := 109) (d := .int .u8) (x := .int .u8 a0) (z := .nilFunc) hb167 (by kernel_rfl) (by kernel_rfl) rfl (some (4, .func (.func 111) #[] #[pt g12 0, pt g24 0])) (by rw [hq250]; rfl) (by kernel_rfl) _ (by kernel_rfl)) ?_
  refine WR.batch 5 [(10, .func (.func 111) #[] #[pt g12 0, pt g24 0]), (11, .bool true)] (by kernel_rfl) ?_
  refine WR.fin (by kernel_rfl) ?_
  refine go hK53 ?_
  refine CW.seq fun K252 hK252 => ?_
  refine CW.seq fun K253 hK253 => ?_
  refine CW.region ?_
  refine WR.batch 2 [(10, .func (.func 111) #[] #[pt g12 0, pt g24 0]), (43, .bool false)] (by kernel_rfl) ?_
  refine WR.fin (by kernel_rfl) ?_
  refine go hK253 ?_
  refine CW.no (by kernel_rfl) ?_
  refine CW.skip ?_
  refine go hK252 ?_
  refine CW.seq fun K254 hK254 => ?_
  refine CW.region ?_
  refine WR.batch 1 [(44, .func (.func 111) #[] #[pt g12 0, pt g24 0])] (by kernel_rfl) ?_
  obtain ⟨x255, hx256⟩ : ∃ x, alu_do_u64_5 a2 a3 = x := ⟨_, rfl⟩
  have hs258 := letS hx256 hs251
  have hx259 : (0 ≤ x255 ∧ x255 ≤ 18446744073709551615) := by rw [← hx256]; exact alu_do_u64_5_ok a2 a3 (by omega) (by omega) (by omega)
  refine WR.call (dst := some 45) (by kernel_rfl) (retE (g := fun r : Int => (.int .u64 r : Value)) hx256 (alu_do_u64_5_any a2 a3 g12 g24 w166 hb172 hb173 (by omega) (by omega) (by omega))) ?_
  rintro _ w260 hc261 rfl
  have hz263 := hc261.size
  have hC262 := hC169.pure hc261
  have hb264 := hb171.pure hc261
  have hb265 := hb172.pure hc261
  have hb266 := hb173.pure hc261
  have hb267 := hb167.pure hc261
  refine WR.batch 2 [(8, .int .u64 x255), (9, .int .i64 0)] (by kernel_rfl) ?_
  refine WR.fin (by kernel_rfl) ?_
  refine go hK254 ?_
  refine CW.ret ?_
  exact retV (.tuple #[.int .u64 x255, .int .i64 0]) (by kernel_rfl) (⟨hC262, (congrArg (fun r : (Int × Int) => (.tuple #[.int .u64 r.1, .int .i64 r.2] : Value)) hs258).symm⟩)
 have hs268 := ifF hq250 hs249
 rcases Bool.eq_false_or_eq_true (a0 == (6 : Int)) with hq269 | hq269
 ·
  have hs270 := ifT hq269 hs268
  replace hq269 := bEqT hq269
  refine WR.valR (dst := some 39) (v := .tuple #[.func (.func 112) #[] #[pt g12 0, pt g24 0], .bool true]) (w' := w166) (run_lookup (t := 111) (co := true) (kt := 22) (et := 109) (d := .int .u8) (x := .int .u8 a0) (z := .nilFunc) hb167 (by kernel_rfl) (by kernel_rfl) rfl (some (5, .func (.func 112) #[] #[pt g12 0, pt g24 0])) (by rw [hq269]; rfl) (by kernel_rfl) _ (by kernel_rfl)) ?_
  refine WR.batch 5 [(10, .func (.func 112) #[] #[pt g12 0, pt g24 0]), (11, .bool true)] (by kernel_rfl) ?_
  refine WR.fin (by kernel_rfl) ?_
  refine go hK53 ?_
  refine CW.seq fun K271 hK271 => ?_
  refine CW.seq fun K272 hK272 => ?_
  refine CW.region ?_
  refine WR.batch 2 [(10, .func (.func 112) #[] #[pt g12 0, pt g24 0]), (43, .bool false)] (by kernel_rfl) ?_
  refine WR.fin (by kernel_rfl) ?_
  refine go hK272 ?_
  refine CW.no (by kernel_rfl) ?_
  refine CW.skip ?_
  refine go hK271 ?_
  refine CW.seq fun K273 hK273 => ?_
  refine CW.region ?_
  refine WR.batch 1 [(44, .func (.func 112) #[] #[pt g12 0, pt g24 0])] (by kernel_rfl) ?_
  obtain ⟨x274, hx275⟩ : ∃ x, alu_do_u64_6 a2 a3 = x := ⟨_, rfl⟩
  have hs277 := letS hx275 hs270
  have hx278 : (0 ≤ x274 ∧ x274 ≤ 18446744073709551615) := by rw [← hx275]; exact alu_do_u64_6_ok a2 a3 (by omega) (by omega) 
  refine WR.call (dst := some 45) (by kernel_rfl) (retE (g := fun r : Int => (.int .u64 r : Value)) hx275 (alu_do_u64_6_any a2 a3 g12 g24 w166 hb172 hb173 (by omega) (by omega) )) ?_
  rintro _ w279 hc280 rfl
  have hz282 := hc280.size
  have hC281 := hC169.pure hc280
  have hb283 := hb171.pure hc280
  have hb284 := hb172.pure hc280
  have hb285 := hb173.pure hc280
  have hb286 := hb167.pure hc280
  refine WR.batch 2 [(8, .int .u64 x274), (9, .int .i64 0)] (by kernel_rfl) ?_
  refine WR.fin (by kernel_rfl) ?_
  refine go hK273 ?_
  refine CW.ret ?_
  exact retV (.tuple #[.int .u64 x274, .int .i64 0]) (by kernel_rfl) (⟨hC281, (congrArg (fun r : (Int × Int) => (.tuple #[.int .u64 r.1, .int .i64 r.2] : Value)) hs277).symm⟩)
 have hs287 := ifF hq269 hs268
 rcases Bool.eq_false_or_eq_true (a0 == (7 : Int)) with hq288 | hq288
 ·
  have hs289 := ifT hq288 hs287
  replace hq288 := bEqT hq288
  refine WR.valR (dst := some 39) (v := .tuple #[.func (.func 113) #[] #[pt g12 0, pt g24 0], .bool true]) (w' := w166) (run_lookup (t := 111) (co := true) (kt := 22) (et := 109) (d := .int .u8) (x := .int .u8 a0) (z := .nilFunc) hb167 (by kernel_rfl) (by kernel_rfl) rfl (some (6, .func (.func 113) #[] #[pt g12 0, pt g24 0])) (by rw [hq288]; rfl) (by kernel_rfl) _ (by kernel_rfl)) ?_
  refine WR.batch 5 [(10, .func (.func 113) #[] #[pt g12 0, pt g24 0]), (11, .bool true)] (by kernel_rfl) ?_
  refine WR.fin (by kernel_rfl) ?_
  refine go hK53 ?_
  refine CW.seq fun K290 hK290 => ?_
  refine CW.seq fun K291 hK291 => ?_
  refine CW.region ?_
  refine WR.batch 2 [(10, .func (.func 113) #[] #[pt g12 0, pt g24 0]), (43, .bool false)] (by kernel_rfl) ?_
  refine WR.fin (by kernel_rfl) ?_
  refine go hK291 ?_
  refine CW.no (by kernel_rfl) ?_
  refine CW.skip ?_
  refine go hK290 ?_
  refine CW.seq fun K292 hK292 => ?_
  refine CW.region ?_
  refine WR.batch 1 [(44, .func (.func 113) #[] #[pt g12 0, pt g24 0])] (by kernel_rfl) ?_
  obtain ⟨x293, hx294⟩ : ∃ x, alu_do_u64_7 a2 a3 = x := ⟨_, rfl⟩
  have hs296 := letS hx294 hs289
  have hx297 : (0 ≤ x293 ∧ x293 ≤ 18446744073709551615) := by rw [← hx294]; exact alu_do_u64_7_ok a2 a3 (by omega) (by omega) 
  refine WR.call (dst := some 45) (by kernel_rfl) (retE (g := fun r : Int => (.int .u64 r : Value)) hx294 (alu_do_u64_7_any a2 a3 g12 g24 w166 hb172 hb173 (by omega) (by omega) )) ?_
  rintro _ w298 hc299 rfl
  have hz301 := hc299.size
  have hC300 := hC169.pure hc299
  have hb302 := hb171.pure hc299
  have hb303 := hb172.pure hc299
  have hb304 := hb173.pure hc299
  have hb305 := hb167.pure hc299
  refine WR.batch 2 [(8, .int .u64 x293), (9, .int .i64 0)] (by kernel_rfl) ?_
  refine WR.fin (by kernel_rfl) ?_
  refine go hK292 ?_
  refine CW.ret ?_
  exact retV (.tuple #[.int .u64 x293, .int .i64 0]) (by kernel_rfl) (⟨hC300, (congrArg (fun r : (Int × Int) => (.tuple #[.int .u64 r.1, .int .i64 r.2] : Value)) hs296).symm⟩)
 have hs306 := ifF hq288 hs287
 rcases Bool.eq_false_or_eq_true (a0 == (8 : Int)) with hq307 | hq307
 ·
  have hs308 := ifT hq307 hs306
  replace hq307 := bEqT hq307
  refine WR.valR (dst := some 39) (v := .tuple #[.func (.func 114) #[] #[pt g12 0, pt g24 0], .bool true]) (w' := w166) (run_lookup (t := 111) (co := true) (kt := 22) (et := 109) (d := .int .u8) (x := .int .u8 a0) (z := .nilFunc) hb167 (by kernel_rfl) (by kernel_rfl) rfl (some (7, .func (.func 114) #[] #[pt g12 0, pt g24 0])) (by rw [hq307]; rfl) (by kernel_rfl) _ (by kernel_rfl)) ?_
  refine WR.batch 5 [(10, .func (.func 114) #[] #[pt g12 0, pt g24 0]), (11, .bool true)] (by kernel_rfl) ?_
  refine WR.fin (by kernel_rfl) ?_
  refine go hK53 ?_
  refine CW.seq fun K309 hK309 => ?_
  refine CW.seq fun K310 hK310 => ?_
  refine CW.region ?_
  refine WR.batch 2 [(10, .func (.func 114) #[] #[pt g12 0, pt g24 0]), (43, .bool false)] (by kernel_rfl) ?_
  refine WR.fin (by kernel_rfl) ?_
  refine go hK310 ?_
  refine CW.no (by kernel_rfl) ?_
  refine CW.skip ?_
  refine go hK309 ?_
  refine CW.seq fun K311 hK311 => ?_
  refine CW.region ?_
  refine WR.batch 1 [(44, .func (.func 114) #[] #[pt g12 0, pt g24 0])] (by kernel_rfl) ?_
  obtain ⟨x312, hx313⟩ : ∃ x, alu_do_u64_8 a2 a3 = x := ⟨_, rfl⟩
  have hs315 := letS hx313 hs308
  have hx316 : (0 ≤ x312 ∧ x312 ≤ 18446744073709551615) := by rw [← hx313]; exact alu_do_u64_8_ok a2 a3 (by omega) (by omega) 
  refine WR.call (dst := some 45) (by kernel_rfl) (retE (g := fun r : Int => (.int .u64 r : Value)) hx313 (alu_do_u64_8_any a2 a3 g12 g24 w166 hb172 hb173 (by omega) (by omega) )) ?_
  rintro _ w317 hc318 rfl
  have hz320 := hc318.size
  have hC319 := hC169.pure hc318
  have hb321 := hb171.pure hc318
  have hb322 := hb172.pure hc318
  have hb323 := hb173.pure hc318
  have hb324 := hb167.pure hc318
  refine WR.batch 2 [(8, .int .u64 x312), (9, .int .i64 0)] (by kernel_rfl) ?_
  refine WR.fin (by kernel_rfl) ?_
  refine go hK311 ?_
  refine CW.ret ?_
  exact retV (.tuple #[.int .u64 x312, .int .i64 0]) (by kernel_rfl) (⟨hC319, (congrArg (fun r : (Int × Int) => (.tuple #[.int .u64 r.1, .int .i64 r.2] : Value)) hs315).symm⟩)
 have hs325 := ifF hq307 hs306
 rcases Bool.eq_false_or_eq_true (a0 == (9 : Int)) with hq326 | hq326
 ·
  have hs327 := ifT hq326 hs325
  replace hq326 := bEqT hq326
  refine WR.valR (dst := some 39) (v := .tuple #[.func (.func 115) #[] #[pt g12 0, pt g24 0, pt g2 0], .bool true]) (w' := w166) (run_lookup (t := 111) (co := true) (kt := 22) (et := 109) (d := .int .u8) (x := .int .u8 a0) (z := .nilFunc) hb167 (by kernel_rfl) (by kernel_rfl) rfl (some (8, .func (.func 115) #[] #[pt g12 0, pt g24 0, pt g2 0])) (by rw [hq326]; rfl) (by kernel_rfl) _ (by kernel_rfl)) ?_
  refine WR.batch 5 [(10, .func (.func 115) #[] #[pt g12 0, pt g24 0, pt g2 0]), (11, .bool true)] (by kernel_rfl) ?_
  refine WR.fin (by kernel_rfl) ?_
  refine go hK53 ?_
  refine CW.seq fun K328 hK328 => ?_
  refine CW.seq fun K329 hK329 => ?_
  refine CW.region ?_
  refine WR.batch 2 [(10, .func (.func 115) #[] #[pt g12 0, pt g24 0, pt g2 0]), (43, .bool false)] (by kernel_rfl) ?_
  refine WR.fin (by kernel_rfl) ?_
  refine go hK329 ?_
  refine CW.no (by kernel_rfl) ?_
  refine CW.skip ?_
  refine go hK328 ?_
  refine CW.seq fun K330 hK330 => ?_
  refine CW.region ?_
  refine WR.batch 1 [(44, .func (.func 115) #[] #[pt g12 0, pt g24 0, pt g2 0])] (by kernel_rfl) ?_
  obtain ⟨x331, hx332⟩ : ∃ x, alu_do_u64_9 a2 a3 a1 = x := ⟨_, rfl⟩
  have hs334 := letS hx332 hs327
  have hx335 : (0 ≤ x331 ∧ x331 ≤ 18446744073709551615) := by rw [← hx332]; exact alu_do_u64_9_ok a2 a3 a1 (by omega) (by omega) (by omega) (by omega)
  refine WR.call (dst := some 45) (by kernel_rfl) (retE (g := fun r : Int => (.int .u64 r : Value)) hx332 (alu_do_u64_9_any a2 a3 a1 g12 g24 g2 w166 hb172 hb173 hb171 (by omega) (by omega) (by omega) (by omega))) ?_
  rintro _ w336 hc337 rfl
  have hz339 := hc337.size
  have hC338 := hC169.pure hc337
  have hb340 := hb171.pure hc337
  have hb341 := hb172.pure hc337
  have hb342 := hb173.pure hc337
  have hb343 := hb167.pure hc337
  refine WR.batch 2 [(8, .int .u64 x331), (9, .int .i64 0)] (by kernel_rfl) ?_
  refine WR.fin (by kernel_rfl) ?_
  refine go hK330 ?_
  refine CW.ret ?_
  exact retV (.tuple #[.int .u64 x331, .int .i64 0]) (by kernel_rfl) (⟨hC338, (congrArg (fun r : (Int × Int) => (.tuple #[.int .u64 r.1, .int .i64 r.2] : Value)) hs334).symm⟩)
 have hs344 := ifF hq326 hs325
 rcases Bool.eq_false_or_eq_true (a0 == (10 : Int)) with hq345 | hq345
 ·
  have hs346 := ifT hq345 hs344
  replace hq345 := bEqT hq345
  refine WR.valR (dst := some 39) (v := .tuple #[.func (.func 116) #[] #[pt g12 0, pt g24 0, pt g2 0], .bool true]) (w' := w166) (run_lookup (t := 111) (co := true) (kt := 22) (et := 109) (d := .int .u8) (x := .int .u8 a0) (z := .nilFunc) hb167 (by kernel_rfl) (by kernel_rfl) rfl (some (9, .func (.func 116) #[] #[pt g12 0, pt g24 0, pt g2 0])) (by rw [hq345]; rfl) (by kernel_rfl) _ (by kernel_rfl)) ?_
  refine WR.batch 5 [(10, .func (.func 116) #[] #[pt g12 0, pt g24 0, pt g2 0]), (11, .bool true)] (by kernel_rfl) ?_
  refine WR.fin (by kernel_rfl) ?_
  refine go hK53 ?_
  refine CW.seq fun K347 hK347 => ?_
  refine CW.seq fun K348 hK348 => ?_
  refine CW.region ?_
  refine WR.batch 2 [(10, .func (.func 116) #[] #[pt g12 0, pt g24 0, pt g2 0]), (43, .bool false)] (by kernel_rfl) ?_
  refine WR.fin (by kernel_rfl) ?_
  refine go hK348 ?_
  refine CW.no (by kernel_rfl) ?_
  refine CW.skip ?_
  refine go hK347 ?_
  refine CW.seq fun K349 hK349 => ?_
  refine CW.region ?_
  refine WR.batch 1 [(44, .func (.func 116) #[] #[pt g12 0, pt g24 0, pt g2 0])] (by kernel_rfl) ?_
  obtain ⟨x350, hx351⟩ : ∃ x, alu_do_u64_10 a2 a3 a1 = x := ⟨_, rfl⟩
  have hs353 := letS hx351 hs346
  have hx354 : (0 ≤ x350 ∧ x350 ≤ 18446744073709551615) := by rw [← hx351]; exact alu_do_u64_10_ok a2 a3 a1 (by omega) (by omega) (by omega) (by omega)
  refine WR.call (dst := some 45) (by kernel_rfl) (retE (g := fun r : Int => (.int .u64 r : Value)) hx351 (alu_do_u64_10_any a2 a3 a1 g12 g24 g2 w166 hb172 hb173 hb171 (by omega) (by omega) (by omega) (by omega))) ?_
  rintro _ w355 hc356 rfl
  have hz358 := hc356.size
  have hC357 := hC169.pure hc356
  have hb359 := hb171.pure hc356
  have hb360 := hb172.pure hc356
  have hb361 := hb173.pure hc356
  have hb362 := hb167.pure hc356
  refine WR.batch 2 [(8, .int .u64 x350), (9, .int .i64 0)] (by kernel_rfl) ?_
  refine WR.fin (by kernel_rfl) ?_
  refine go hK349 ?_
  refine CW.ret ?_
  exact retV (.tuple #[.int .u64 x350, .int .i64 0]) (by kernel_rfl) (⟨hC357, (congrArg (fun r : (Int × Int) => (.tuple #[.int .u64 r.1, .int .i64 r.2] : Value)) hs353).symm⟩)
 have hs363 := ifF hq345 hs344
 rcases Bool.eq_false_or_eq_true (a0 == (11 : Int)) with hq364 | hq364
 ·
  have hs365 := ifT hq364 hs363
  replace hq364 := bEqT hq364
  refine WR.valR (dst := some 39) (v := .tuple #[.func (.func 117) #[] #[pt g12 0, pt g24 0, pt g2 0], .bool true]) (w' := w166) (run_lookup (t := 111) (co := true) (kt := 22) (et := 109) (d := .int .u8) (x := .int .u8 a0) (z := .nilFunc) hb167 (by kernel_rfl) (by kernel_rfl) rfl (some (10, .func (.func 117) #[] #[pt g12 0, pt g24 0, pt g2 0])) (by rw [hq364]; rfl) (by kernel_rfl) _ (by kernel_rfl)) ?_
  refine WR.batch 5 [(10, .func (.func 117) #[] #[pt g12 0, pt g24 0, pt g2 0]), (11, .bool true)] (by kernel_rfl) ?_
  refine WR.fin (by kernel_rfl) ?_
  refine go hK53 ?_
  refine CW.seq fun K366 hK366 => ?_
  refine CW.seq fun K367 hK367 => ?_
  refine CW.region ?_
  refine WR.batch 2 [(10, .func (.func 117) #[] #[pt g12 0, pt g24 0, pt g2 0]), (43, .bool false)] (by kernel_rfl) ?_
  refine WR.fin (by kernel_rfl) ?_
  refine go hK367 ?_
  refine CW.no (by kernel_rfl) ?_
  refine CW.skip ?_
  refine go hK366 ?_
  refine CW.seq fun K368 hK368 => ?_
  refine CW.region ?_
  refine WR.batch 1 [(44, .func (.func 117) #[] #[pt g12 0, pt g24 0, pt g2 0])] (by kernel_rfl) ?_
  obtain ⟨x369, hx370⟩ : ∃ x, alu_do_u64_11 a2 a3 a1 = x := ⟨_, rfl⟩
  have hs372 := letS hx370 hs365
  have hx373 : (0 ≤ x369 ∧ x369 ≤ 18446744073709551615) := by rw [← hx370]; exact alu_do_u64_11_ok a2 a3 a1 (by omega) (by omega) (by omega) (by omega)
  refine WR.call (dst := some 45) (by kernel_rfl) (retE (g := fun r : Int => (.int .u64 r : Value)) hx370 (alu_do_u64_11_any a2 a3 a1 g12 g24 g2 w166 hb172 hb173 hb171 (by omega) (by omega) (by omega) (by omega))) ?_
  rintro _ w374 hc375 rfl
  have hz377 := hc375.size
  have hC376 := hC169.pure hc375
  have hb378 := hb171.pure hc375
  have hb379 := hb172.pure hc375
  have hb380 := hb173.pure hc375
  have hb381 := hb167.pure hc375
  refine WR.batch 2 [(8, .int .u64 x369), (9, .int .i64 0)] (by kernel_rfl) ?_
  refine WR.fin (by kernel_rfl) ?_
  refine go hK368 ?_
  refine CW.ret ?_
  exact retV (.tuple #[.int .u64 x369, .int .i64 0]) (by kernel_rfl) (⟨hC376, (congrArg (fun r : (Int × Int) => (.tuple #[.int .u64 r.1, .int .i64 r.2] : Value)) hs372).symm⟩)
 have hs382 := ifF hq364 hs363
 rcases Bool.eq_false_or_eq_true (a0 == (12 : Int)) with hq383 | hq383
 ·
  have hs384 := ifT hq383 hs382
  replace hq383 := bEqT hq383
  refine WR.valR (dst := some 39) (v := .tuple #[.func (.func 118) #[] #[pt g24 0], .bool true]) (w' := w166) (run_lookup (t := 111) (co := true) (kt := 22) (et := 109) (d := .int .u8) (x := .int .u8 a0) (z := .nilFunc) hb167 (by kernel_rfl) (by kernel_rfl) rfl (some (11, .func (.func 118) #[] #[pt g24 0])) (by rw [hq383]; rfl) (by kernel_rfl) _ (by kernel_rfl)) ?_
  refine WR.batch 5 [(10, .func (.func 118) #[] #[pt g24 0]), (11, .bool true)] (by kernel_rfl) ?_
  refine WR.fin (by kernel_rfl) ?_
  refine go hK53 ?_
  refine CW.seq fun K385 hK385 => ?_
  refine CW.seq fun K386 hK386 => ?_
  refine CW.region ?_
  refine WR.batch 2 [(10, .func (.func 118) #[] #[pt g24 0]), (43, .bool false)] (by kernel_rfl) ?_
  refine WR.fin (by kernel_rfl) ?_
  refine go hK386 ?_
  refine CW.no (by kernel_rfl) ?_
  refine CW.skip ?_
  refine go hK385 ?_
  refine CW.seq fun K387 hK387 => ?_
  refine CW.region ?_
  refine WR.batch 1 [(44, .func (.func 118) #[] #[pt g24 0])] (by kernel_rfl) ?_
  obtain ⟨x388, hx389⟩ : ∃ x, alu_do_u64_12 a3 = x := ⟨_, rfl⟩
  have hs391 := letS hx389 hs384
  have hx392 : (0 ≤ x388 ∧ x388 ≤ 18446744073709551615) := by rw [← hx389]; exact alu_do_u64_12_ok a3 (by omega) 
  refine WR.call (dst := some 45) (by kernel_rfl) (retE (g := fun r : Int => (.int .u64 r : Value)) hx389 (alu_do_u64_12_any a3 g24 w166 hb173 (by omega) )) ?_
  rintro _ w393 hc394 rfl
  have hz396 := hc394.size
  have hC395 := hC169.pure hc394
  have hb397 := hb171.pure hc394
  have hb398 := hb172.pure hc394
  have hb399 := hb173.pure hc394
  have hb400 := hb167.pure hc394
  refine WR.batch 2 [(8, .int .u64 x388), (9, .int .i64 0)] (by kernel_rfl) ?_
  refine WR.fin (by kernel_rfl) ?_
  refine go hK387 ?_
  refine CW.ret ?_
  exact retV (.tuple #[.int .u64 x388, .int .i64 0]) (by kernel_rfl) (⟨hC395, (congrArg (fun r : (Int × Int) => (.tuple #[.int .u64 r.1, .int .i64 r.2] : Value)) hs391).symm⟩)
 have hs401 := ifF hq383 hs382
 rcases Bool.eq_false_or_eq_true (a0 == (13 : Int)) with hq402 | hq402
 ·
  have hs403 := ifT hq402 hs401
  replace hq402 := bEqT hq402
  refine WR.valR (dst := some 39) (v := .tuple #[.func (.func 119) #[] #[pt g12 0], .bool true]) (w' := w166) (run_lookup (t := 111) (co := true) (kt := 22) (et := 109) (d := .int .u8) (x := .int .u8 a0) (z := .nilFunc) hb167 (by kernel_rfl) (by kernel_rfl) rfl (some (12, .func (.func 119) #[] #[pt g12 0])) (by rw [hq402]; rfl) (by kernel_rfl) _ (by kernel_rfl)) ?_
  refine WR.batch 5 [(10, .func (.func 119) #[] #[pt g12 0]), (11, .bool true)] (by kernel_rfl) ?_
  refine WR.fin (by kernel_rfl) ?_
  refine go hK53 ?_
  refine CW.seq fun K404 hK404 => ?_
  refine CW.seq fun K405 hK405 => ?_
  refine CW.region ?_
  refine WR.batch 2 [(10, .func (.func 119) #[] #[pt g12 0]), (43, .bool false)] (by kernel_rfl) ?_
  refine WR.fin (by kernel_rfl) ?_
  refine go hK405 ?_
  refine CW.no (by kernel_rfl) ?_
  refine CW.skip ?_
  refine go hK404 ?_
  refine CW.seq fun K406 hK406 => ?_
  refine CW.region ?_
  refine WR.batch 1 [(44, .func (.func 119) #[] #[pt g12 0])] (by kernel_rfl) ?_
  obtain ⟨x407, hx408⟩ : ∃ x, alu_do_u64_13 a2 = x := ⟨_, rfl⟩
  have hs410 := letS hx408 hs403
  have hx411 : (0 ≤ x407 ∧ x407 ≤ 18446744073709551615) := by rw [← hx408]; exact alu_do_u64_13_ok a2 (by omega) 
  refine WR.call (dst := some 45) (by kernel_rfl) (retE (g := fun r : Int => (.int .u64 r : Value)) hx408 (alu_do_u64_13_any a2 g12 w166 hb172 (by omega) )) ?_
  rintro _ w412 hc413 rfl
  have hz415 := hc413.size
  have hC414 := hC169.pure hc413
  have hb416 := hb171.pure hc413
  have hb417 := hb172.pure hc413
  have hb418 := hb173.pure hc413
  have hb419 := hb167.pure hc413
  refine WR.batch 2 [(8, .int .u64 x407), (9, .int .i64 0)] (by kernel_rfl) ?_
  refine WR.fin (by kernel_rfl) ?_
  refine go hK406 ?_
  refine CW.ret ?_
  exact retV (.tuple #[.int .u64 x407, .int .i64 0]) (by kernel_rfl) (⟨hC414, (congrArg (fun r : (Int × Int) => (.tuple #[.int .u64 r.1, .int .i64 r.2] : Value)) hs410).symm⟩)
 have hs420 := ifF hq402 hs401
 refine WR.valR (dst := some 39) (v := .tuple #[.nilFunc, .bool false]) (w' := w166) (run_lookup (t := 111) (co := true) (kt := 22) (et := 109) (d := .int .u8) (x := .int .u8 a0) (z := .nilFunc) hb167 (by kernel_rfl) (by kernel_rfl) rfl (none) (by exact findNow_no _ _ _ _ (by simp only [keysNe, hq174, hq193, hq212, hq231, hq250, hq269, hq288, hq307, hq326, hq345, hq364, hq383, hq402]; rfl)) (by kernel_rfl) _ (by kernel_rfl)) ?_
 refine WR.batch 5 [(10, .nilFunc), (11, .bool false)] (by kernel_rfl) ?_
 refine WR.fin (by kernel_rfl) ?_
 refine go hK53 ?_
 refine CW.seq fun K421 hK421 => ?_
 refine CW.seq fun K422 hK422 => ?_
 refine CW.region ?_
 refine WR.batch 2 [(10, .nilFunc), (43, .bool true)] (by kernel_rfl) ?_
 refine WR.fin (by kernel_rfl) ?_
 refine go hK422 ?_
 refine CW.yes (by kernel_rfl) ?_
 refine CW.seq fun K423 hK423 => ?_
 refine CW.region ?_
 refine WR.batch 2 [(8, .int .u64 0), (9, .int .i64 2)] (by kernel_rfl) ?_
 refine WR.fin (by kernel_rfl) ?_
 refine go hK423 ?_
 refine CW.ret ?_
 exact retV (.tuple #[.int .u64 0, .int .i64 2]) (by kernel_rfl) (⟨hC169, (congrArg (fun r : (Int × Int) => (.tuple #[.int .u64 r.1, .int .i64 r.2] : Value)) hs420).symm⟩)

def alu_is_u64 (a0 : Int) (a1 : Int) (a2 : Int)  : (Bool × Int) := (if (a0 == (17 : Int)) then ((a1 == a2), (0 : Int)) else (if (a0 == (18 : Int)) then ((a1 != a2), (0 : Int)) else (if (a0 == (19 : Int)) then (decide (a1 > a2), (0 : Int)) else (if (a0 == (20 : Int)) then (decide (a1 ≥ a2), (0 : Int)) else (if (a0 == (21 : Int)) then (decide (a1 < a2), (0 : Int)) else (if (a0 == (22 : Int)) then (decide (a1 ≤ a2), (0 : Int)) else (if (a0 == (23 : Int)) then (decide ((IntKind.i64.wrap a1) > (IntKind.i64.wrap a2)), (0 : Int)) else (if (a0 == (24 : Int)) then (decide ((IntKind.i64.wrap a1) ≥ (IntKind.i64.wrap a2)), (0 : Int)) else (if (a0 == (25 : Int)) then (decide ((IntKind.i64.wrap a1) < (IntKind.i64.wrap a2)), (0 : Int)) else (if (a0 == (26 : Int)) then (decide ((IntKind.i64.wrap a1) ≤ (IntKind.i64.wrap a2)), (0 : Int)) else (if (a0 == (27 : Int)) then (((bAnd .u64 a1 a2) != (0 : Int)), (0 : Int)) else (false, (2 : Int)))))))))))))

theorem alu_is_u64_ok (a0 : Int) (a1 : Int) (a2 : Int)  (_h_a0 : (0 ≤ a0 ∧ a0 ≤ 255)) (_h_a1 : (0 ≤ a1 ∧ a1 ≤ 18446744073709551615)) (_h_a2 : (0 ≤ a2 ∧ a2 ≤ 18446744073709551615))  : (-9223372036854775808 ≤ (alu_is_u64 a0 a1 a2).2 ∧ (alu_is_u64 a0 a1 a2).2 ≤ 9223372036854775807) := by
 rw [alu_is_u64.eq_1]
 refine iteR (p := fun r : (Bool × Int) => (-9223372036854775808 ≤ r.2 ∧ r.2 ≤ 9223372036854775807)) (fun hi1001 => ?_) (fun hi1001 => ?_)
 ·
  replace hi1001 : a0 = (17 : Int) := (bEqT hi1001)
  exact (by exact (show (-9223372036854775808 ≤ (0 : Int) ∧ (0 : Int) ≤ 9223372036854775807) from (by omega)))
 replace hi1001 : a0 ≠ (17 : Int) := (bEqF hi1001)
 refine iteR (p := fun r : (Bool × Int) => (-9223372036854775808 ≤ r.2 ∧ r.2 ≤ 9223372036854775807)) (fun hi1002 => ?_) (fun hi1002 => ?_)
 ·
  replace hi1002 : a0 = (18 : Int) := (bEqT hi1002)
  exact (by exact (show (-9223372036854775808 ≤ (0 : Int) ∧ (0 : Int) ≤ 9223372036854775807) from (by omega)))
 replace hi1002 : a0 ≠ (18 : Int) := (bEqF hi1002)
 refine iteR (p := fun r : (Bool × Int) => (-9223372036854775808 ≤ r.2 ∧ r.2 ≤ 9223372036854775807)) (fun hi1003 => ?_) (fun hi1003 => ?_)
 ·
  replace hi1003 : a0 = (19 : Int) := (bEqT hi1003)
  exact (by exact (show (-9223372036854775808 ≤ (0 : Int) ∧ (0 : Int) ≤ 9223372036854775807) from (by omega)))
 replace hi1003 : a0 ≠ (19 : Int) := (bEqF hi1003)
 refine iteR (p := fun r : (Bool × Int) => (-9223372036854775808 ≤ r.2 ∧ r.2 ≤ 9223372036854775807)) (fun hi1004 => ?_) (fun hi1004 => ?_)
 ·
  replace hi1004 : a0 = (20 : Int) := (bEqT hi1004)
  exact (by exact (show (-9223372036854775808 ≤ (0 : Int) ∧ (0 : Int) ≤ 9223372036854775807) from (by omega)))
 replace hi1004 : a0 ≠ (20 : Int) := (bEqF hi1004)
 refine iteR (p := fun r : (Bool × Int) => (-9223372036854775808 ≤ r.2 ∧ r.2 ≤ 9223372036854775807)) (fun hi1005 => ?_) (fun hi1005 => ?_)
 ·
  replace hi1005 : a0 = (21 : Int) := (bEqT hi1005)
  exact (by exact (show (-9223372036854775808 ≤ (0 : Int) ∧ (0 : Int) ≤ 9223372036854775807) from (by omega)))
 replace hi1005 : a0 ≠ (21 : Int) := (bEqF hi1005)
 refine iteR (p := fun r : (Bool × Int) => (-9223372036854775808 ≤ r.2 ∧ r.2 ≤ 9223372036854775807)) (fun hi1006 => ?_) (fun hi1006 => ?_)
 ·
  replace hi1006 : a0 = (22 : Int) := (bEqT hi1006)
  exact (by exact (show (-9223372036854775808 ≤ (0 : Int) ∧ (0 : Int) ≤ 9223372036854775807) from (by omega)))
 replace hi1006 : a0 ≠ (22 : Int) := (bEqF hi1006)
 refine iteR (p := fun r : (Bool × Int) => (-9223372036854775808 ≤ r.2 ∧ r.2 ≤ 9223372036854775807)) (fun hi1007 => ?_) (fun hi1007 => ?_)
 ·
  replace hi1007 : a0 = (23 : Int) := (bEqT hi1007)
  exact (by exact (show (-9223372036854775808 ≤ (0 : Int) ∧ (0 : Int) ≤ 9223372036854775807) from (by omega)))
 replace hi1007 : a0 ≠ (23 : Int) := (bEqF hi1007)
 refine iteR (p := fun r : (Bool × Int) => (-9223372036854775808 ≤ r.2 ∧ r.2 ≤ 9223372036854775807)) (fun hi1008 => ?_) (fun hi1008 => ?_)
 ·
  replace hi1008 : a0 = (24 : Int) := (bEqT hi1008)
  exact (by exact (show (-9223372036854775808 ≤ (0 : Int) ∧ (0 : Int) ≤ 9223372036854775807) from (by omega)))
 replace hi1008 : a0 ≠ (24 : Int) := (bEqF hi1008)
 refine iteR (p := fun r : (Bool × Int) => (-9223372036854775808 ≤ r.2 ∧ r.2 ≤ 9223372036854775807)) (fun hi1009 => ?_) (fun hi1009 => ?_)
 ·
  replace hi1009 : a0 = (25 : Int) := (bEqT hi1009)
  exact (by exact (show (-9223372036854775808 ≤ (0 : Int) ∧ (0 : Int) ≤ 9223372036854775807) from (by omega)))
 replace hi1009 : a0 ≠ (25 : Int) := (bEqF hi1009)
 refine iteR (p := fun r : (Bool × Int) => (-9223372036854775808 ≤ r.2 ∧ r.2 ≤ 9223372036854775807)) (fun hi1010 => ?_) (fun hi1010 => ?_)
 ·
  replace hi1010 : a0 = (26 : Int) := (bEqT hi1010)
  exact (by exact (show (-9223372036854775808 ≤ (0 : Int) ∧ (0 : Int) ≤ 9223372036854775807) from (by omega)))
 replace hi1010 : a0 ≠ (26 : Int) := (bEqF hi1010)
 refine iteR (p := fun r : (Bool × Int) => (-9223372036854775808 ≤ r.2 ∧ r.2 ≤ 9223372036854775807)) (fun hi1011 => ?_) (fun hi1011 => ?_)
 ·
  replace hi1011 : a0 = (27 : Int) := (bEqT hi1011)
  exact (by exact (show (-9223372036854775808 ≤ (0 : Int) ∧ (0 : Int) ≤ 9223372036854775807) from (by omega)))
 replace hi1011 : a0 ≠ (27 : Int) := (bEqF hi1011)
 exact (by exact (show (-9223372036854775808 ≤ (2 : Int) ∧ (2 : Int) ≤ 9223372036854775807) from (by omega)))

set_option maxHeartbeats 4000000 in
theorem alu_is_u64_any (a0 : Int) (a1 : Int) (a2 : Int)   (w : World)  (_h_a0 : (0 ≤ a0 ∧ a0 ≤ 255)) (_h_a1 : (0 ≤ a1 ∧ a1 ≤ 18446744073709551615)) (_h_a2 : (0 ≤ a2 ∧ a2 ≤ 18446744073709551615))  : Calls Try.prog 62 #[.int .u8 a0, .int .u64 a1, .int .u64 a2] w (RetV w (.tuple #[.bool (alu_is_u64 a0 a1 a2).1, .int .i64 (alu_is_u64 a0 a1 a2).2])) := by
 have hs := alu_is_u64.eq_1 a0 a1 a2
 refine calls_of_CW Try.func62 rfl (n := 73) Try.ntmps62 (by kernel_rfl) [0, 1, 2] (F := [(0, .int .u8 a0), (1, .int .u64 a1), (2, .int .u64 a2)]) (by kernel_rfl) ?_
 refine CW.seq fun K1 hK1 => ?_
 refine CW.region ?_
 refine WR.batch 2 [(0, .int .u8 a0), (1, .int .u64 a1), (2, .int .u64 a2)] (by kernel_rfl) ?_
 refine WR.fin (by kernel_rfl) ?_
 refine go hK1 ?_
 refine CW.seq fun K2 hK2 => ?_
 refine CW.seq fun K3 hK3 => ?_
 refine CW.region ?_
 refine WR.batch 1 [(1, .int .u64 a1), (2, .int .u64 a2), (8, .int .u8 a0)] (by kernel_rfl) ?_
 refine WR.fin (by kernel_rfl) ?_
 refine go hK3 ?_
 refine CW.block ?_
 refine CW.seq fun K4 hK4 => ?_
 refine CW.region ?_
 refine WR.batch 2 [(1, .int .u64 a1), (2, .int .u64 a2), (8, .int .u8 a0), (9, .bool (a0 == (17 : Int)))] (by kernel_rfl) ?_
 refine WR.fin (by kernel_rfl) ?_
 refine go hK4 ?_
 refine CW.cond ((a0 == (17 : Int))) (by kernel_rfl) (fun ht5 => ?_) (fun ht5 => ?_)
 ·
  have hs6 := ifT ht5 hs
  replace ht5 : a0 = (17 : Int) := (bEqT ht5)
  refine CW.seq fun K7 hK7 => ?_
  refine CW.region ?_
  refine WR.batch 5 [(6, .bool (a1 == a2)), (7, .int .i64 0)] (by kernel_rfl) ?_
  refine WR.fin (by kernel_rfl) ?_
  refine go hK7 ?_
  refine CW.ret ?_
  exact retV (.tuple #[.bool (a1 == a2), .int .i64 0]) (by kernel_rfl) (⟨(Chg.refl _ _), (congrArg (fun r : (Bool × Int) => (.tuple #[.bool r.1, .int .i64 r.2] : Value)) hs6).symm⟩)
 have hs8 := ifF ht5 hs
 replace ht5 : a0 ≠ (17 : Int) := (bEqF ht5)
 refine CW.seq fun K9 hK9 => ?_
 refine CW.region ?_
 refine WR.batch 2 [(1, .int .u64 a1), (2, .int .u64 a2), (8, .int .u8 a0), (14, .bool (a0 == (18 : Int)))] (by kernel_rfl) ?_
 refine WR.fin (by kernel_rfl) ?_
 refine go hK9 ?_
 refine CW.cond ((a0 == (18 : Int))) (by kernel_rfl) (fun ht10 => ?_) (fun ht10 => ?_)
 ·
  have hs11 := ifT ht10 hs8
  replace ht10 : a0 = (18 : Int) := (bEqT ht10)
  refine CW.seq fun K12 hK12 => ?_
  refine CW.region ?_
  refine WR.batch 5 [(6, .bool (a1 != a2)), (7, .int .i64 0)] (by kernel_rfl) ?_
  refine WR.fin (by kernel_rfl) ?_
  refine go hK12 ?_
  refine CW.ret ?_
  exact retV (.tuple #[.bool (a1 != a2), .int .i64 0]) (by kernel_rfl) (⟨(Chg.refl _ _), (congrArg (fun r : (Bool × Int) => (.tuple #[.bool r.1, .int .i64 r.2] : Value)) hs11).symm⟩)
 have hs13 := ifF ht10 hs8
 replace ht10 : a0 ≠ (18 : Int) := (bEqF ht10)
 refine CW.seq fun K14 hK14 => ?_
 refine CW.region ?_
 refine WR.batch 2 [(1, .int .u64 a1), (2, .int .u64 a2), (8, .int .u8 a0), (19, .bool (a0 == (19 : Int)))] (by kernel_rfl) ?_
 refine WR.fin (by kernel_rfl) ?_
 refine go hK14 ?_
 refine CW.cond ((a0 == (19 : Int))) (by kernel_rfl) (fun ht15 => ?_) (fun ht15 => ?_)
 ·
  have hs16 := ifT ht15 hs13
  replace ht15 : a0 = (19 : Int) := (bEqT ht15)
  refine CW.seq fun K17 hK17 => ?_
  refine CW.region ?_
  refine WR.batch 5 [(6, .bool (decide (a1 > a2))), (7, .int .i64 0)] (by kernel_rfl) ?_
  refine WR.fin (by kernel_rfl) ?_
  refine go hK17 ?_
  refine CW.ret ?_
  exact retV (.tuple #[.bool (decide (a1 > a2)), .int .i64 0]) (by kernel_rfl) (⟨(Chg.refl _ _), (congrArg (fun r : (Bool × Int) => (.tuple #[.bool r.1, .int .i64 r.2] : Value)) hs16).symm⟩)
 have hs18 := ifF ht15 hs13
 replace ht15 : a0 ≠ (19 : Int) := (bEqF ht15)
 refine CW.seq fun K19 hK19 => ?_
 refine CW.region ?_
 refine WR.batch 2 [(1, .int .u64 a1), (2, .int .u64 a2), (8, .int .u8 a0), (24, .bool (a0 == (20 : Int)))] (by kernel_rfl) ?_
 refine WR.fin (by kernel_rfl) ?_
 refine go hK19 ?_
 refine CW.cond ((a0 == (20 : Int))) (by kernel_rfl) (fun ht20 => ?_) (fun ht20 => ?_)
 ·
  have hs21 := ifT ht20 hs18
  replace ht20 : a0 = (20 : Int) := (bEqT ht20)
  refine CW.seq fun K22 hK22 => ?_
  refine CW.region ?_
  refine WR.batch 5 [(6, .bool (decide (a1 ≥ a2))), (7, .int .i64 0)] (by kernel_rfl) ?_
  refine WR.fin (by kernel_rfl) ?_
  refine go hK22 ?_
  refine CW.ret ?_
  exact retV (.tuple #[.bool (decide (a1 ≥ a2)), .int .i64 0]) (by kernel_rfl) (⟨(Chg.refl _ _), (congrArg (fun r : (Bool × Int) => (.tuple #[.bool r.1, .int .i64 r.2] : Value)) hs21).symm⟩)
 have hs23 := ifF ht20 hs18
 replace ht20 : a0 ≠ (20 : Int) := (bEqF ht20)
 refine CW.seq fun K24 hK24 => ?_
 refine CW.region ?_
 refine WR.batch 2 [(1, .int .u64 a1), (2, .int .u64 a2), (8, .int .u8 a0), (29, .bool (a0 == (21 : Int)))] (by kernel_rfl) ?_
 refine WR.fin (by kernel_rfl) ?_
 refine go hK24 ?_
 refine CW.cond ((a0 == (21 : Int))) (by kernel_rfl) (fun ht25 => ?_) (fun ht25 => ?_)
 ·
  have hs26 := ifT ht25 hs23
  replace ht25 : a0 = (21 : Int) := (bEqT ht25)
  refine CW.seq fun K27 hK27 => ?_
  refine CW.region ?_
  refine WR.batch 5 [(6, .bool (decide (a1 < a2))), (7, .int .i64 0)] (by kernel_rfl) ?_
  refine WR.fin (by kernel_rfl) ?_
  refine go hK27 ?_
  refine CW.ret ?_
  exact retV (.tuple #[.bool (decide (a1 < a2)), .int .i64 0]) (by kernel_rfl) (⟨(Chg.refl _ _), (congrArg (fun r : (Bool × Int) => (.tuple #[.bool r.1, .int .i64 r.2] : Value)) hs26).symm⟩)
 have hs28 := ifF ht25 hs23
 replace ht25 : a0 ≠ (21 : Int) := (bEqF ht25)
 refine CW.seq fun K29 hK29 => ?_
 refine CW.region ?_
 refine WR.batch 2 [(1, .int .u64 a1), (2, .int .u64 a2), (8, .int .u8 a0), (34, .bool (a0 == (22 : Int)))] (by kernel_rfl) ?_
 refine WR.fin (by kernel_rfl) ?_
 refine go hK29 ?_
 refine CW.cond ((a0 == (22 : Int))) (by kernel_rfl) (fun ht30 => ?_) (fun ht30 => ?_)
 ·
  have hs31 := ifT ht30 hs28
  replace ht30 : a0 = (22 : Int) := (bEqT ht30)
  refine CW.seq fun K32 hK32 => ?_
  refine CW.region ?_
  refine WR.batch 5 [(6, .bool (decide (a1 ≤ a2))), (7, .int .i64 0)] (by kernel_rfl) ?_
  refine WR.fin (by kernel_rfl) ?_
  refine go hK32 ?_
  refine CW.ret ?_
  exact retV (.tuple #[.bool (decide (a1 ≤ a2)), .int .i64 0]) (by kernel_rfl) (⟨(Chg.refl _ _), (congrArg (fun r : (Bool × Int) => (.tuple #[.bool r.1, .int .i64 r.2] : Value)) hs31).symm⟩)
 have hs33 := ifF ht30 hs28
 replace ht30 : a0 ≠ (22 : Int) := (bEqF ht30)
 refine CW.seq fun K34 hK34 => ?_
 refine CW.region ?_
 refine WR.batch 2 [(1, .int .u64 a1), (2, .int .u64 a2), (8, .int .u8 a0), (39, .bool (a0 == (23 : Int)))] (by kernel_rfl) ?_
 refine WR.fin (by kernel_rfl) ?_
 refine go hK34 ?_
 refine CW.cond ((a0 == (23 : Int))) (by kernel_rfl) (fun ht35 => ?_) (fun ht35 => ?_)
 ·
  have hs36 := ifT ht35 hs33
  replace ht35 : a0 = (23 : Int) := (bEqT ht35)
  refine CW.seq fun K37 hK37 => ?_
  refine CW.region ?_
  refine WR.batch 7 [(6, .bool (decide ((IntKind.i64.wrap a1) > (IntKind.i64.wrap a2)))), (7, .int .i64 0)] (by kernel_rfl) ?_
  refine WR.fin (by kernel_rfl) ?_
  refine go hK37 ?_
  refine CW.ret ?_
  exact retV (.tuple #[.bool (decide ((IntKind.i64.wrap a1) > (IntKind.i64.wrap a2))), .int .i64 0]) (by kernel_rfl) (⟨(Chg.refl _ _), (congrArg (fun r : (Bool × Int) => (.tuple #[.bool r.1, .int .i64 r.2] : Value)) hs36).symm⟩)
 have hs38 := ifF ht35 hs33
 replace ht35 : a0 ≠ (23 : Int) := (bEqF ht35)
 refine CW.seq fun K39 hK39 => ?_
 refine CW.region ?_
 refine WR.batch 2 [(1, .int .u64 a1), (2, .int .u64 a2), (8, .int .u8 a0), (46, .bool (a0 == (24 : Int)))] (by kernel_rfl) ?_
 refine WR.fin (by kernel_rfl) ?_
 refine go hK39 ?_
 refine CW.cond ((a0 == (24 : Int))) (by kernel_rfl) (fun ht40 => ?_) (fun ht40 => ?_)
 ·
  have hs41 := ifT ht40 hs38
  replace ht40 : a0 = (24 : Int) := (bEqT ht40)
  refine CW.seq fun K42 hK42 => ?_
  refine CW.region ?_
  refine WR.batch 7 [(6, .bool (decide ((IntKind.i64.wrap a1) ≥ (IntKind.i64.wrap a2)))), (7, .int .i64 0)] (by kernel_rfl) ?_
  refine WR.fin (by kernel_rfl) ?_
  refine go hK42 ?_
  refine CW.ret ?_
  exact retV (.tuple #[.bool (decide ((IntKind.i64.wrap a1) ≥ (IntKind.i64.wrap a2))), .int .i64 0]) (by kernel_rfl) (⟨(Chg.refl _ _), (congrArg (fun r : (Bool × Int) => (.tuple #[.bool r.1, .int .i64 r.2] : Value)) hs41).symm⟩)
 have hs43 := ifF ht40 hs38
 replace ht40 : a0 ≠ (24 : Int) := (bEqF ht40)
 refine CW.seq fun K44 hK44 => ?_
 refine CW.region ?_
 refine WR.batch 2 [(1, .int .u64 a1), (2, .int .u64 a2), (8, .int .u8 a0), (53, .bool (a0 == (25 : Int)))] (by kernel_rfl) ?_
 refine WR.fin (by kernel_rfl) ?_
 refine go hK44 ?_
 refine CW.cond ((a0 == (25 : Int))) (by kernel_rfl) (fun ht45 => ?_) (fun ht45 => ?_)
 ·
  have hs46 := ifT ht45 hs43
  replace ht45 : a0 = (25 : Int) := (bEqT ht45)
  refine CW.seq fun K47 hK47 => ?_
  refine CW.region ?_
  refine WR.batch 7 [(6, .bool (decide ((IntKind.i64.wrap a1) < (IntKind.i64.wrap a2)))), (7, .int .i64 0)] (by kernel_rfl) ?_
  refine WR.fin (by kernel_rfl) ?_
  refine go hK47 ?_
  refine CW.ret ?_
  exact retV (.tuple #[.bool (decide ((IntKind.i64.wrap a1) < (IntKind.i64.wrap a2))), .int .i64 0]) (by kernel_rfl) (⟨(Chg.refl _ _), (congrArg (fun r : (Bool × Int) => (.tuple #[.bool r.1, .int .i64 r.2] : Value)) hs46).symm⟩)
 have hs48 := ifF ht45 hs43
 replace ht45 : a0 ≠ (25 : Int) := (bEqF ht45)
 refine CW.seq fun K49 hK49 => ?_
 refine CW.region ?_
 refine WR.batch 2 [(1, .int .u64 a1), (2, .int .u64 a2), (8, .int .u8 a0), (60, .bool (a0 == (26 : Int)))] (by kernel_rfl) ?_
 refine WR.fin (by kernel_rfl) ?_
 refine go hK49 ?_
 refine CW.cond ((a0 == (26 : Int))) (by kernel_rfl) (fun ht50 => ?_) (fun ht50 => ?_)
 ·
  have hs51 := ifT ht50 hs48
  replace ht50 : a0 = (26 : Int) := (bEqT ht50)
  refine CW.seq fun K52 hK52 => ?_
  refine CW.region ?_
  refine WR.batch 7 [(6, .bool (decide ((IntKind.i64.wrap a1) ≤ (IntKind.i64.wrap a2)))), (7, .int .i64 0)] (by kernel_rfl) ?_
  refine WR.fin (by kernel_rfl) ?_
  refine go hK52 ?_
  refine CW.ret ?_
  exact retV (.tuple #[.bool (decide ((IntKind.i64.wrap a1) ≤ (IntKind.i64.wrap a2))), .int .i64 0]) (by kernel_rfl) (⟨(Chg.refl _ _), (congrArg (fun r : (Bool × Int) => (.tuple #[.bool r.1, .int .i64 r.2] : Value)) hs51).symm⟩)
 have hs53 := ifF ht50 hs48
 replace ht50 : a0 ≠ (26 : Int) := (bEqF ht50)
 refine CW.seq fun K54 hK54 => ?_
 refine CW.region ?_
 refine WR.batch 2 [(1, .int .u64 a1), (2, .int .u64 a2), (67, .bool (a0 == (27 : Int)))] (by kernel_rfl) ?_
 refine WR.fin (by kernel_rfl) ?_
 refine go hK54 ?_
 refine CW.cond ((a0 == (27 : Int))) (by kernel_rfl) (fun ht55 => ?_) (fun ht55 => ?_)
 ·
  have hs56 := ifT ht55 hs53
  replace ht55 : a0 = (27 : Int) := (bEqT ht55)
  refine CW.seq fun K57 hK57 => ?_
  refine CW.region ?_
  refine WR.batch 6 [(6, .bool ((bAnd .u64 a1 a2) != (0 : Int))), (7, .int .i64 0)] (by kernel_rfl) ?_
  refine WR.fin (by kernel_rfl) ?_
  refine go hK57 ?_
  refine CW.ret ?_
  exact retV (.tuple #[.bool ((bAnd .u64 a1 a2) != (0 : Int)), .int .i64 0]) (by kernel_rfl) (⟨(Chg.refl _ _), (congrArg (fun r : (Bool × Int) => (.tuple #[.bool r.1, .int .i64 r.2] : Value)) hs56).symm⟩)
 have hs58 := ifF ht55 hs53
 replace ht55 : a0 ≠ (27 : Int) := (bEqF ht55)
 refine CW.skip ?_
 refine go hK2 ?_
 refine CW.seq fun K59 hK59 => ?_
 refine CW.region ?_
 refine WR.batch 2 [(6, .bool false), (7, .int .i64 2)] (by kernel_rfl) ?_
 refine WR.fin (by kernel_rfl) ?_
 refine go hK59 ?_
 refine CW.ret ?_
 exact retV (.tuple #[.bool false, .int .i64 2]) (by kernel_rfl) (⟨(Chg.refl _ _), (congrArg (fun r : (Bool × Int) => (.tuple #[.bool r.1, .int .i64 r.2] : Value)) hs58).symm⟩)

def alu_Do (a0 : Int) (a1 : Bool) (a2 : Int) (a3 : Int)  : (Int × Int) := (if a1 then (letF (alu_do_u32 a0 (32 : Int) (IntKind.u32.wrap a2) (IntKind.u32.wrap a3)) fun x7 => ((x7.1), x7.2)) else (letF (alu_do_u64 a0 (64 : Int) a2 a3) fun x20 => (x20.1, x20.2)))

theorem alu_Do_ok (a0 : Int) (a1 : Bool) (a2 : Int) (a3 : Int)  (_h_a0 : (0 ≤ a0 ∧ a0 ≤ 255)) (_h_a2 : (0 ≤ a2 ∧ a2 ≤ 18446744073709551615)) (_h_a3 : (0 ≤ a3 ∧ a3 ≤ 18446744073709551615))  : (0 ≤ (alu_Do a0 a1 a2 a3).1 ∧ (alu_Do a0 a1 a2 a3).1 ≤ 18446744073709551615) ∧ (-9223372036854775808 ≤ (alu_Do a0 a1 a2 a3).2 ∧ (alu_Do a0 a1 a2 a3).2 ≤ 9223372036854775807) := by
 rw [alu_Do.eq_1]
 refine iteR (p := fun r : (Int × Int) => (0 ≤ r.1 ∧ r.1 ≤ 18446744073709551615) ∧ (-9223372036854775808 ≤ r.2 ∧ r.2 ≤ 9223372036854775807)) (fun hi1001 => ?_) (fun hi1001 => ?_)
 ·
  refine letR (p := fun r : (Int × Int) => (0 ≤ r.1 ∧ r.1 ≤ 18446744073709551615) ∧ (-9223372036854775808 ≤ r.2 ∧ r.2 ≤ 9223372036854775807)) fun x7 hx8 => ?_
  have hx9 : (0 ≤ x7.1 ∧ x7.1 ≤ 4294967295) ∧ (-9223372036854775808 ≤ x7.2 ∧ x7.2 ≤ 9223372036854775807) := by rw [← hx8]; exact alu_do_u32_ok a0 (32 : Int) (IntKind.u32.wrap a2) (IntKind.u32.wrap a3) (by omega) (by omega) (wrapU32 _) (wrapU32 _) rfl
  exact (by exact (show (0 ≤ (x7.1) ∧ (x7.1) ≤ 18446744073709551615) ∧ (-9223372036854775808 ≤ x7.2 ∧ x7.2 ≤ 9223372036854775807) from ⟨(by omega), (by omega)⟩))
 refine letR (p := fun r : (Int × Int) => (0 ≤ r.1 ∧ r.1 ≤ 18446744073709551615) ∧ (-9223372036854775808 ≤ r.2 ∧ r.2 ≤ 9223372036854775807)) fun x20 hx21 => ?_
 have hx22 : (0 ≤ x20.1 ∧ x20.1 ≤ 18446744073709551615) ∧ (-9223372036854775808 ≤ x20.2 ∧ x20.2 ≤ 9223372036854775807) := by rw [← hx21]; exact alu_do_u64_ok a0 (64 : Int) a2 a3 (by omega) (by omega) (by omega) (by omega) rfl
 exact (by exact (show (0 ≤ x20.1 ∧ x20.1 ≤ 18446744073709551615) ∧ (-9223372036854775808 ≤ x20.2 ∧ x20.2 ≤ 9223372036854775807) from ⟨(by omega), (by omega)⟩))

theorem alu_Do_any (a0 : Int) (a1 : Bool) (a2 : Int) (a3 : Int)   (w : World)  (_h_a0 : (0 ≤ a0 ∧ a0 ≤ 255)) (_h_a2 : (0 ≤ a2 ∧ a2 ≤ 18446744073709551615)) (_h_a3 : (0 ≤ a3 ∧ a3 ≤ 18446744073709551615))  : Calls Try.prog 35 #[.int .u8 a0, .bool a1, .int .u64 a2, .int .u64 a3] w (RetV w (.tuple #[.int .u64 (alu_Do a0 a1 a2 a3).1, .int .i64 (alu_Do a0 a1 a2 a3).2])) := by
 have hs := alu_Do.eq_1 a0 a1 a2 a3
 refine calls_of_CW Try.func35 rfl (n := 31) Try.ntmps35 (by kernel_rfl) [0, 1, 2, 3] (F := [(0, .int .u8 a0), (1, .bool a1), (2, .int .u64 a2), (3, .int .u64 a3)]) (by kernel_rfl) ?_
 refine CW.seq fun K1 hK1 => ?_
 refine CW.region ?_
 refine WR.batch 2 [(0, .int .u8 a0), (1, .bool a1), (2, .int .u64 a2), (3, .int .u64 a3)] (by kernel_rfl) ?_
 refine WR.fin (by kernel_rfl) ?_
 refine go hK1 ?_
 refine CW.seq fun K2 hK2 => ?_
 refine CW.seq fun K3 hK3 => ?_
 refine CW.region ?_
 refine WR.batch 1 [(0, .int .u8 a0), (2, .int .u64 a2), (3, .int .u64 a3), (12, .bool a1)] (by kernel_rfl) ?_
 refine WR.fin (by kernel_rfl) ?_
 refine go hK3 ?_
 refine CW.cond (a1) (by kernel_rfl) (fun ht4 => ?_) (fun ht4 => ?_)
 ·
  have hs5 := ifT ht4 hs
  refine CW.seq fun K6 hK6 => ?_
  refine CW.region ?_
  refine WR.batch 5 [(14, .int .u8 a0), (16, .int .u32 (IntKind.u32.wrap a2)), (18, .int .u32 (IntKind.u32.wrap a3))] (by kernel_rfl) ?_
  obtain ⟨x7, hx8⟩ : ∃ x, alu_do_u32 a0 (32 : Int) (IntKind.u32.wrap a2) (IntKind.u32.wrap a3) = x := ⟨_, rfl⟩
  have hs10 := letS hx8 hs5
  have hx11 : (0 ≤ x7.1 ∧ x7.1 ≤ 4294967295) ∧ (-9223372036854775808 ≤ x7.2 ∧ x7.2 ≤ 9223372036854775807) := by rw [← hx8]; exact alu_do_u32_ok a0 (32 : Int) (IntKind.u32.wrap a2) (IntKind.u32.wrap a3) (by omega) (by omega) (wrapU32 _) (wrapU32 _) rfl
  refine WR.call (dst := some 19) (by kernel_rfl) (retE (g := fun r : (Int × Int) => (.tuple #[.int .u32 r.1, .int .i64 r.2] : Value)) hx8 (alu_do_u32_any a0 (32 : Int) (IntKind.u32.wrap a2) (IntKind.u32.wrap a3) w  (by omega) (by omega) (wrapU32 _) (wrapU32 _) rfl)) ?_
  rintro _ w12 hc13 rfl
  have hz15 := hc13.size
  have hC14 := (Chg.refl [] w).pure hc13
  refine WR.batch 5 [(10, .int .u32 x7.1), (11, .int .i64 x7.2)] (by kernel_rfl) ?_
  refine WR.fin (by kernel_rfl) ?_
  refine go hK6 ?_
  refine CW.seq fun K16 hK16 => ?_
  refine CW.region ?_
  refine WR.batch 2 [(11, .int .i64 x7.2), (23, .int .u64 (IntKind.u64.wrap (x7.1)))] (by kernel_rfl) ?_
  have hw17 : IntKind.u64.wrap (x7.1) = (x7.1) := IntWalk.u64_in _ (by omega)
  refine WR.eqF (F' := [(11, .int .i64 x7.2), (23, .int .u64 (x7.1))]) (by rw [hw17]) ?_
  refine WR.batch 3 [(8, .int .u64 (x7.1)), (9, .int .i64 x7.2)] (by kernel_rfl) ?_
  refine WR.fin (by kernel_rfl) ?_
  refine go hK16 ?_
  refine CW.ret ?_
  exact retV (.tuple #[.int .u64 (x7.1), .int .i64 x7.2]) (by kernel_rfl) (⟨hC14, (congrArg (fun r : (Int × Int) => (.tuple #[.int .u64 r.1, .int .i64 r.2] : Value)) hs10).symm⟩)
 have hs18 := ifF ht4 hs
 refine CW.skip ?_
 refine go hK2 ?_
 refine CW.seq fun K19 hK19 => ?_
 refine CW.region ?_
 refine WR.batch 3 [(25, .int .u8 a0), (26, .int .u64 a2), (27, .int .u64 a3)] (by kernel_rfl) ?_
 obtain ⟨x20, hx21⟩ : ∃ x, alu_do_u64 a0 (64 : Int) a2 a3 = x := ⟨_, rfl⟩
 have hs23 := letS hx21 hs18
 have hx24 : (0 ≤ x20.1 ∧ x20.1 ≤ 18446744073709551615) ∧ (-9223372036854775808 ≤ x20.2 ∧ x20.2 ≤ 9223372036854775807) := by rw [← hx21]; exact alu_do_u64_ok a0 (64 : Int) a2 a3 (by omega) (by omega) (by omega) (by omega) rfl
 refine WR.call (dst := some 28) (by kernel_rfl) (retE (g := fun r : (Int × Int) => (.tuple #[.int .u64 r.1, .int .i64 r.2] : Value)) hx21 (alu_do_u64_any a0 (64 : Int) a2 a3 w  (by omega) (by omega) (by omega) (by omega) rfl)) ?_
 rintro _ w25 hc26 rfl
 have hz28 := hc26.size
 have hC27 := (Chg.refl [] w).pure hc26
 refine WR.batch 4 [(8, .int .u64 x20.1), (9, .int .i64 x20.2)] (by kernel_rfl) ?_
 refine WR.fin (by kernel_rfl) ?_
 refine go hK19 ?_
 refine CW.ret ?_
 exact retV (.tuple #[.int .u64 x20.1, .int .i64 x20.2]) (by kernel_rfl) (⟨hC27, (congrArg (fun r : (Int × Int) => (.tuple #[.int .u64 r.1, .int .i64 r.2] : Value)) hs23).symm⟩)

def alu_Is (a0 : Int) (a1 : Bool) (a2 : Int) (a3 : Int)  : (Bool × Int) := (if a1 then (letF (alu_is_u32 a0 (IntKind.u32.wrap a2) (IntKind.u32.wrap a3)) fun x7 => (x7.1, x7.2)) else (letF (alu_is_u64 a0 a2 a3) fun x18 => (x18.1, x18.2)))

theorem alu_Is_ok (a0 : Int) (a1 : Bool) (a2 : Int) (a3 : Int)  (_h_a0 : (0 ≤ a0 ∧ a0 ≤ 255)) (_h_a2 : (0 ≤ a2 ∧ a2 ≤ 18446744073709551615)) (_h_a3 : (0 ≤ a3 ∧ a3 ≤ 18446744073709551615))  : (-9223372036854775808 ≤ (alu_Is a0 a1 a2 a3).2 ∧ (alu_Is a0 a1 a2 a3).2 ≤ 9223372036854775807) := by
 rw [alu_Is.eq_1]
 refine iteR (p := fun r : (Bool × Int) => (-9223372036854775808 ≤ r.2 ∧ r.2 ≤ 9223372036854775807)) (fun hi1001 => ?_) (fun hi1001 => ?_)
 ·
  refine letR (p := fun r : (Bool × Int) => (-9223372036854775808 ≤ r.2 ∧ r.2 ≤ 9223372036854775807)) fun x7 hx8 => ?_
  have hx9 : (-9223372036854775808 ≤ x7.2 ∧ x7.2 ≤ 9223372036854775807) := by rw [← hx8]; exact alu_is_u32_ok a0 (IntKind.u32.wrap a2) (IntKind.u32.wrap a3) (by omega) (wrapU32 _) (wrapU32 _) 
  exact (by exact (show (-9223372036854775808 ≤ x7.2 ∧ x7.2 ≤ 9223372036854775807) from (by omega)))
 refine letR (p := fun r : (Bool × Int) => (-9223372036854775808 ≤ r.2 ∧ r.2 ≤ 9223372036854775807)) fun x18 hx19 => ?_
 have hx20 : (-9223372036854775808 ≤ x18.2 ∧ x18.2 ≤ 9223372036854775807) := by rw [← hx19]; exact alu_is_u64_ok a0 a2 a3 (by omega) (by omega) (by omega) 
 exact (by exact (show (-9223372036854775808 ≤ x18.2 ∧ x18.2 ≤ 9223372036854775807) from (by omega)))

theorem alu_Is_any (a0 : Int) (a1 : Bool) (a2 : Int) (a3 : Int)   (w : World)  (_h_a0 : (0 ≤ a0 ∧ a0 ≤ 255)) (_h_a2 : (0 ≤ a2 ∧ a2 ≤ 18446744073709551615)) (_h_a3 : (0 ≤ a3 ∧ a3 ≤ 18446744073709551615))  : Calls Try.prog 36 #[.int .u8 a0, .bool a1, .int .u64 a2, .int .u64 a3] w (RetV w (.tuple #[.bool (alu_Is a0 a1 a2 a3).1, .int .i64 (alu_Is a0 a1 a2 a3).2])) := by
 have hs := alu_Is.eq_1 a0 a1 a2 a3
 refine calls_of_CW Try.func36 rfl (n := 25) Try.ntmps36 (by kernel_rfl) [0, 1, 2, 3] (F := [(0, .int .u8 a0), (1, .bool a1), (2, .int .u64 a2), (3, .int .u64 a3)]) (by kernel_rfl) ?_
 refine CW.seq fun K1 hK1 => ?_
 refine CW.region ?_
 refine WR.batch 2 [(0, .int .u8 a0), (1, .bool a1), (2, .int .u64 a2), (3, .int .u64 a3)] (by kernel_rfl) ?_
 refine WR.fin (by kernel_rfl) ?_
 refine go hK1 ?_
 refine CW.seq fun K2 hK2 => ?_
 refine CW.seq fun K3 hK3 => ?_
 refine CW.region ?_
 refine WR.batch 1 [(0, .int .u8 a0), (2, .int .u64 a2), (3, .int .u64 a3), (10, .bool a1)] (by kernel_rfl) ?_
 refine WR.fin (by kernel_rfl) ?_
 refine go hK3 ?_
 refine CW.cond (a1) (by kernel_rfl) (fun ht4 => ?_) (fun ht4 => ?_)
 ·
  have hs5 := ifT ht4 hs
  refine CW.seq fun K6 hK6 => ?_
  refine CW.region ?_
  refine WR.batch 5 [(11, .int .u8 a0), (13, .int .u32 (IntKind.u32.wrap a2)), (15, .int .u32 (IntKind.u32.wrap a3))] (by kernel_rfl) ?_
  obtain ⟨x7, hx8⟩ : ∃ x, alu_is_u32 a0 (IntKind.u32.wrap a2) (IntKind.u32.wrap a3) = x := ⟨_, rfl⟩
  have hs10 := letS hx8 hs5
  have hx11 : (-9223372036854775808 ≤ x7.2 ∧ x7.2 ≤ 9223372036854775807) := by rw [← hx8]; exact alu_is_u32_ok a0 (IntKind.u32.wrap a2) (IntKind.u32.wrap a3) (by omega) (wrapU32 _) (wrapU32 _) 
  refine WR.call (dst := some 16) (by kernel_rfl) (retE (g := fun r : (Bool × Int) => (.tuple #[.bool r.1, .int .i64 r.2] : Value)) hx8 (alu_is_u32_any a0 (IntKind.u32.wrap a2) (IntKind.u32.wrap a3) w  (by omega) (wrapU32 _) (wrapU32 _) )) ?_
  rintro _ w12 hc13 rfl
  have hz15 := hc13.size
  have hC14 := (Chg.refl [] w).pure hc13
  refine WR.batch 4 [(8, .bool x7.1), (9, .int .i64 x7.2)] (by kernel_rfl) ?_
  refine WR.fin (by kernel_rfl) ?_
  refine go hK6 ?_
  refine CW.ret ?_
  exact retV (.tuple #[.bool x7.1, .int .i64 x7.2]) (by kernel_rfl) (⟨hC14, (congrArg (fun r : (Bool × Int) => (.tuple #[.bool r.1, .int .i64 r.2] : Value)) hs10).symm⟩)
 have hs16 := ifF ht4 hs
 refine CW.skip ?_
 refine go hK2 ?_
 refine CW.seq fun K17 hK17 => ?_
 refine CW.region ?_
 refine WR.batch 3 [(19, .int .u8 a0), (20, .int .u64 a2), (21, .int .u64 a3)] (by kernel_rfl) ?_
 obtain ⟨x18, hx19⟩ : ∃ x, alu_is_u64 a0 a2 a3 = x := ⟨_, rfl⟩
 have hs21 := letS hx19 hs16
 have hx22 : (-9223372036854775808 ≤ x18.2 ∧ x18.2 ≤ 9223372036854775807) := by rw [← hx19]; exact alu_is_u64_ok a0 a2 a3 (by omega) (by omega) (by omega) 
 refine WR.call (dst := some 22) (by kernel_rfl) (retE (g := fun r : (Bool × Int) => (.tuple #[.bool r.1, .int .i64 r.2] : Value)) hx19 (alu_is_u64_any a0 a2 a3 w  (by omega) (by omega) (by omega) )) ?_
 rintro _ w23 hc24 rfl
 have hz26 := hc24.size
 have hC25 := (Chg.refl [] w).pure hc24
 refine WR.batch 4 [(8, .bool x18.1), (9, .int .i64 x18.2)] (by kernel_rfl) ?_
 refine WR.fin (by kernel_rfl) ?_
 refine go hK17 ?_
 refine CW.ret ?_
 exact retV (.tuple #[.bool x18.1, .int .i64 x18.2]) (by kernel_rfl) (⟨hC25, (congrArg (fun r : (Bool × Int) => (.tuple #[.bool r.1, .int .i64 r.2] : Value)) hs21).symm⟩)
end Go.V
