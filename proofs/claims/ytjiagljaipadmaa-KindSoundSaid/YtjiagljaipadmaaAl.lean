import Derived.Test.YtjiagljaipadmaaProg
import Derived.Test.YtjiagljaipadmaaSp
namespace Go.V
open Go.RowKit Go.Proofs
def alu_do_u32_1  (c0 : Int) (c1 : Int) : Int := (IntKind.u32.wrap (c0 + c1))

theorem alu_do_u32_1_ok  (c0 : Int) (c1 : Int) (_h_c0 : IU32 c0) (_h_c1 : IU32 c1)  : IU32 (alu_do_u32_1 c0 c1) := by
 rw [alu_do_u32_1.eq_1]
 exact (by exact (show IU32 (IntKind.u32.wrap (c0 + c1)) from (wrapU32 _)))

theorem alu_do_u32_1_any  (c0 : Int) (c1 : Int) (g0_ : Nat) (g1_ : Nat)  (w : World) (hb0_ : Blk w g0_ #[.int .u32 c0] 84) (hb1_ : Blk w g1_ #[.int .u32 c1] 84) (_h_c0 : IU32 c0) (_h_c1 : IU32 c1)  : Calls Try.prog 94 #[pt g0_ 0, pt g1_ 0] w (RetV w (.int .u32 (alu_do_u32_1 c0 c1))) := by
 have hs := alu_do_u32_1.eq_1 c0 c1
 refine calls_of_CW Try.func94 rfl (n := 6) Try.ntmps94 (by kernel_rfl) [0, 1] (F := [(0, pt g0_ 0), (1, pt g1_ 0)]) (by kernel_rfl) ?_
 have hg1 := hb0_.lt
 have hg2 := hb1_.lt
 refine CW.seq fun K3 hK3 => ?_
 refine CW.region ?_
 refine WR.batch 1 [(0, pt g0_ 0), (1, pt g1_ 0)] (by kernel_rfl) ?_
 refine WR.fin (by kernel_rfl) ?_
 refine go hK3 ?_
 refine CW.seq fun K4 hK4 => ?_
 refine CW.region ?_
 refine WR.load (dst := some 3) (t := 84) (o := 0) hb0_ (by kernel_rfl) (.int .u32 c0) (by kernel_rfl) ?_
 refine WR.load (dst := some 4) (t := 84) (o := 0) hb1_ (by kernel_rfl) (.int .u32 c1) (by kernel_rfl) ?_
 refine WR.batch 2 [(2, .int .u32 (IntKind.u32.wrap (c0 + c1)))] (by kernel_rfl) ?_
 refine WR.fin (by kernel_rfl) ?_
 refine go hK4 ?_
 refine CW.ret ?_
 exact retV (.int .u32 (IntKind.u32.wrap (c0 + c1))) (by kernel_rfl) (⟨(Chg.refl _ _), (congrArg (fun r : Int => (.int .u32 r : Value)) hs).symm⟩)

def alu_do_u32_2  (c0 : Int) (c1 : Int) : Int := (IntKind.u32.wrap (c0 - c1))

theorem alu_do_u32_2_ok  (c0 : Int) (c1 : Int) (_h_c0 : IU32 c0) (_h_c1 : IU32 c1)  : IU32 (alu_do_u32_2 c0 c1) := by
 rw [alu_do_u32_2.eq_1]
 exact (by exact (show IU32 (IntKind.u32.wrap (c0 - c1)) from (wrapU32 _)))

theorem alu_do_u32_2_any  (c0 : Int) (c1 : Int) (g0_ : Nat) (g1_ : Nat)  (w : World) (hb0_ : Blk w g0_ #[.int .u32 c0] 84) (hb1_ : Blk w g1_ #[.int .u32 c1] 84) (_h_c0 : IU32 c0) (_h_c1 : IU32 c1)  : Calls Try.prog 95 #[pt g0_ 0, pt g1_ 0] w (RetV w (.int .u32 (alu_do_u32_2 c0 c1))) := by
 have hs := alu_do_u32_2.eq_1 c0 c1
 refine calls_of_CW Try.func95 rfl (n := 6) Try.ntmps95 (by kernel_rfl) [0, 1] (F := [(0, pt g0_ 0), (1, pt g1_ 0)]) (by kernel_rfl) ?_
 have hg1 := hb0_.lt
 have hg2 := hb1_.lt
 refine CW.seq fun K3 hK3 => ?_
 refine CW.region ?_
 refine WR.batch 1 [(0, pt g0_ 0), (1, pt g1_ 0)] (by kernel_rfl) ?_
 refine WR.fin (by kernel_rfl) ?_
 refine go hK3 ?_
 refine CW.seq fun K4 hK4 => ?_
 refine CW.region ?_
 refine WR.load (dst := some 3) (t := 84) (o := 0) hb0_ (by kernel_rfl) (.int .u32 c0) (by kernel_rfl) ?_
 refine WR.load (dst := some 4) (t := 84) (o := 0) hb1_ (by kernel_rfl) (.int .u32 c1) (by kernel_rfl) ?_
 refine WR.batch 2 [(2, .int .u32 (IntKind.u32.wrap (c0 - c1)))] (by kernel_rfl) ?_
 refine WR.fin (by kernel_rfl) ?_
 refine go hK4 ?_
 refine CW.ret ?_
 exact retV (.int .u32 (IntKind.u32.wrap (c0 - c1))) (by kernel_rfl) (⟨(Chg.refl _ _), (congrArg (fun r : Int => (.int .u32 r : Value)) hs).symm⟩)

def alu_do_u32_3  (c0 : Int) (c1 : Int) : Int := (IntKind.u32.wrap (c0 * c1))

theorem alu_do_u32_3_ok  (c0 : Int) (c1 : Int) (_h_c0 : IU32 c0) (_h_c1 : IU32 c1)  : IU32 (alu_do_u32_3 c0 c1) := by
 rw [alu_do_u32_3.eq_1]
 exact (by exact (show IU32 (IntKind.u32.wrap (c0 * c1)) from (wrapU32 _)))

theorem alu_do_u32_3_any  (c0 : Int) (c1 : Int) (g0_ : Nat) (g1_ : Nat)  (w : World) (hb0_ : Blk w g0_ #[.int .u32 c0] 84) (hb1_ : Blk w g1_ #[.int .u32 c1] 84) (_h_c0 : IU32 c0) (_h_c1 : IU32 c1)  : Calls Try.prog 96 #[pt g0_ 0, pt g1_ 0] w (RetV w (.int .u32 (alu_do_u32_3 c0 c1))) := by
 have hs := alu_do_u32_3.eq_1 c0 c1
 refine calls_of_CW Try.func96 rfl (n := 6) Try.ntmps96 (by kernel_rfl) [0, 1] (F := [(0, pt g0_ 0), (1, pt g1_ 0)]) (by kernel_rfl) ?_
 have hg1 := hb0_.lt
 have hg2 := hb1_.lt
 refine CW.seq fun K3 hK3 => ?_
 refine CW.region ?_
 refine WR.batch 1 [(0, pt g0_ 0), (1, pt g1_ 0)] (by kernel_rfl) ?_
 refine WR.fin (by kernel_rfl) ?_
 refine go hK3 ?_
 refine CW.seq fun K4 hK4 => ?_
 refine CW.region ?_
 refine WR.load (dst := some 3) (t := 84) (o := 0) hb0_ (by kernel_rfl) (.int .u32 c0) (by kernel_rfl) ?_
 refine WR.load (dst := some 4) (t := 84) (o := 0) hb1_ (by kernel_rfl) (.int .u32 c1) (by kernel_rfl) ?_
 refine WR.batch 2 [(2, .int .u32 (IntKind.u32.wrap (c0 * c1)))] (by kernel_rfl) ?_
 refine WR.fin (by kernel_rfl) ?_
 refine go hK4 ?_
 refine CW.ret ?_
 exact retV (.int .u32 (IntKind.u32.wrap (c0 * c1))) (by kernel_rfl) (⟨(Chg.refl _ _), (congrArg (fun r : Int => (.int .u32 r : Value)) hs).symm⟩)

def alu_do_u32_4  (c0 : Int) (c1 : Int) : Int := (IntKind.u32.wrap ((c0).tdiv c1))

theorem alu_do_u32_4_ok  (c0 : Int) (c1 : Int) (_h_c0 : IU32 c0) (_h_c1 : IU32 c1) (_hc : c1 ≠ 0) : IU32 (alu_do_u32_4 c0 c1) := by
 rw [alu_do_u32_4.eq_1]
 exact (by exact (show IU32 (IntKind.u32.wrap ((c0).tdiv c1)) from (wrapU32 _)))

theorem alu_do_u32_4_any  (c0 : Int) (c1 : Int) (g0_ : Nat) (g1_ : Nat)  (w : World) (hb0_ : Blk w g0_ #[.int .u32 c0] 84) (hb1_ : Blk w g1_ #[.int .u32 c1] 84) (_h_c0 : IU32 c0) (_h_c1 : IU32 c1) (_hc : c1 ≠ 0) : Calls Try.prog 97 #[pt g0_ 0, pt g1_ 0] w (RetV w (.int .u32 (alu_do_u32_4 c0 c1))) := by
 have hs := alu_do_u32_4.eq_1 c0 c1
 refine calls_of_CW Try.func97 rfl (n := 6) Try.ntmps97 (by kernel_rfl) [0, 1] (F := [(0, pt g0_ 0), (1, pt g1_ 0)]) (by kernel_rfl) ?_
 have hg1 := hb0_.lt
 have hg2 := hb1_.lt
 refine CW.seq fun K3 hK3 => ?_
 refine CW.region ?_
 refine WR.batch 1 [(0, pt g0_ 0), (1, pt g1_ 0)] (by kernel_rfl) ?_
 refine WR.fin (by kernel_rfl) ?_
 refine go hK3 ?_
 refine CW.seq fun K4 hK4 => ?_
 refine CW.region ?_
 refine WR.load (dst := some 3) (t := 84) (o := 0) hb0_ (by kernel_rfl) (.int .u32 c0) (by kernel_rfl) ?_
 refine WR.load (dst := some 4) (t := 84) (o := 0) hb1_ (by kernel_rfl) (.int .u32 c1) (by kernel_rfl) ?_
 refine WR.valR (dst := some 5) (v := .int .u32 (IntKind.u32.wrap ((c0).tdiv c1))) (w' := w) (run_quo (kk := .u32) (x := c0) (y := c1) (by kernel_rfl) (by omega) w) ?_
 refine WR.batch 1 [(2, .int .u32 (IntKind.u32.wrap ((c0).tdiv c1)))] (by kernel_rfl) ?_
 refine WR.fin (by kernel_rfl) ?_
 refine go hK4 ?_
 refine CW.ret ?_
 exact retV (.int .u32 (IntKind.u32.wrap ((c0).tdiv c1))) (by kernel_rfl) (⟨(Chg.refl _ _), (congrArg (fun r : Int => (.int .u32 r : Value)) hs).symm⟩)

def alu_do_u32_5  (c0 : Int) (c1 : Int) : Int := ((c0).tmod c1)

theorem alu_do_u32_5_ok  (c0 : Int) (c1 : Int) (_h_c0 : IU32 c0) (_h_c1 : IU32 c1) (_hc : c1 ≠ 0) : IU32 (alu_do_u32_5 c0 c1) := by
 rw [alu_do_u32_5.eq_1]
 exact (by exact (show IU32 ((c0).tmod c1) from (tmod_rng (by omega) (by omega))))

theorem alu_do_u32_5_any  (c0 : Int) (c1 : Int) (g0_ : Nat) (g1_ : Nat)  (w : World) (hb0_ : Blk w g0_ #[.int .u32 c0] 84) (hb1_ : Blk w g1_ #[.int .u32 c1] 84) (_h_c0 : IU32 c0) (_h_c1 : IU32 c1) (_hc : c1 ≠ 0) : Calls Try.prog 98 #[pt g0_ 0, pt g1_ 0] w (RetV w (.int .u32 (alu_do_u32_5 c0 c1))) := by
 have hs := alu_do_u32_5.eq_1 c0 c1
 refine calls_of_CW Try.func98 rfl (n := 6) Try.ntmps98 (by kernel_rfl) [0, 1] (F := [(0, pt g0_ 0), (1, pt g1_ 0)]) (by kernel_rfl) ?_
 have hg1 := hb0_.lt
 have hg2 := hb1_.lt
 refine CW.seq fun K3 hK3 => ?_
 refine CW.region ?_
 refine WR.batch 1 [(0, pt g0_ 0), (1, pt g1_ 0)] (by kernel_rfl) ?_
 refine WR.fin (by kernel_rfl) ?_
 refine go hK3 ?_
 refine CW.seq fun K4 hK4 => ?_
 refine CW.region ?_
 refine WR.load (dst := some 3) (t := 84) (o := 0) hb0_ (by kernel_rfl) (.int .u32 c0) (by kernel_rfl) ?_
 refine WR.load (dst := some 4) (t := 84) (o := 0) hb1_ (by kernel_rfl) (.int .u32 c1) (by kernel_rfl) ?_
 refine WR.valR (dst := some 5) (v := .int .u32 ((c0).tmod c1)) (w' := w) (run_rem (kk := .u32) (x := c0) (y := c1) (by kernel_rfl) (by omega) w) ?_
 have hm5 := tmod_rng (x := c0) (y := c1) (m := 4294967295) (by omega) (by omega)
 refine WR.batch 1 [(2, .int .u32 ((c0).tmod c1))] (by kernel_rfl) ?_
 refine WR.fin (by kernel_rfl) ?_
 refine go hK4 ?_
 refine CW.ret ?_
 exact retV (.int .u32 ((c0).tmod c1)) (by kernel_rfl) (⟨(Chg.refl _ _), (congrArg (fun r : Int => (.int .u32 r : Value)) hs).symm⟩)

def alu_do_u32_6  (c0 : Int) (c1 : Int) : Int := (bAnd .u32 c0 c1)

theorem alu_do_u32_6_ok  (c0 : Int) (c1 : Int) (_h_c0 : IU32 c0) (_h_c1 : IU32 c1)  : IU32 (alu_do_u32_6 c0 c1) := by
 rw [alu_do_u32_6.eq_1]
 exact (by exact (show IU32 (bAnd .u32 c0 c1) from (wrapU32 _)))

theorem alu_do_u32_6_any  (c0 : Int) (c1 : Int) (g0_ : Nat) (g1_ : Nat)  (w : World) (hb0_ : Blk w g0_ #[.int .u32 c0] 84) (hb1_ : Blk w g1_ #[.int .u32 c1] 84) (_h_c0 : IU32 c0) (_h_c1 : IU32 c1)  : Calls Try.prog 99 #[pt g0_ 0, pt g1_ 0] w (RetV w (.int .u32 (alu_do_u32_6 c0 c1))) := by
 have hs := alu_do_u32_6.eq_1 c0 c1
 refine calls_of_CW Try.func99 rfl (n := 6) Try.ntmps99 (by kernel_rfl) [0, 1] (F := [(0, pt g0_ 0), (1, pt g1_ 0)]) (by kernel_rfl) ?_
 have hg1 := hb0_.lt
 have hg2 := hb1_.lt
 refine CW.seq fun K3 hK3 => ?_
 refine CW.region ?_
 refine WR.batch 1 [(0, pt g0_ 0), (1, pt g1_ 0)] (by kernel_rfl) ?_
 refine WR.fin (by kernel_rfl) ?_
 refine go hK3 ?_
 refine CW.seq fun K4 hK4 => ?_
 refine CW.region ?_
 refine WR.load (dst := some 3) (t := 84) (o := 0) hb0_ (by kernel_rfl) (.int .u32 c0) (by kernel_rfl) ?_
 refine WR.load (dst := some 4) (t := 84) (o := 0) hb1_ (by kernel_rfl) (.int .u32 c1) (by kernel_rfl) ?_
 refine WR.batch 2 [(2, .int .u32 (bAnd .u32 c0 c1))] (by kernel_rfl) ?_
 refine WR.fin (by kernel_rfl) ?_
 refine go hK4 ?_
 refine CW.ret ?_
 exact retV (.int .u32 (bAnd .u32 c0 c1)) (by kernel_rfl) (⟨(Chg.refl _ _), (congrArg (fun r : Int => (.int .u32 r : Value)) hs).symm⟩)

def alu_do_u32_7  (c0 : Int) (c1 : Int) : Int := (bOr .u32 c0 c1)

theorem alu_do_u32_7_ok  (c0 : Int) (c1 : Int) (_h_c0 : IU32 c0) (_h_c1 : IU32 c1)  : IU32 (alu_do_u32_7 c0 c1) := by
 rw [alu_do_u32_7.eq_1]
 exact (by exact (show IU32 (bOr .u32 c0 c1) from (wrapU32 _)))

theorem alu_do_u32_7_any  (c0 : Int) (c1 : Int) (g0_ : Nat) (g1_ : Nat)  (w : World) (hb0_ : Blk w g0_ #[.int .u32 c0] 84) (hb1_ : Blk w g1_ #[.int .u32 c1] 84) (_h_c0 : IU32 c0) (_h_c1 : IU32 c1)  : Calls Try.prog 100 #[pt g0_ 0, pt g1_ 0] w (RetV w (.int .u32 (alu_do_u32_7 c0 c1))) := by
 have hs := alu_do_u32_7.eq_1 c0 c1
 refine calls_of_CW Try.func100 rfl (n := 6) Try.ntmps100 (by kernel_rfl) [0, 1] (F := [(0, pt g0_ 0), (1, pt g1_ 0)]) (by kernel_rfl) ?_
 have hg1 := hb0_.lt
 have hg2 := hb1_.lt
 refine CW.seq fun K3 hK3 => ?_
 refine CW.region ?_
 refine WR.batch 1 [(0, pt g0_ 0), (1, pt g1_ 0)] (by kernel_rfl) ?_
 refine WR.fin (by kernel_rfl) ?_
 refine go hK3 ?_
 refine CW.seq fun K4 hK4 => ?_
 refine CW.region ?_
 refine WR.load (dst := some 3) (t := 84) (o := 0) hb0_ (by kernel_rfl) (.int .u32 c0) (by kernel_rfl) ?_
 refine WR.load (dst := some 4) (t := 84) (o := 0) hb1_ (by kernel_rfl) (.int .u32 c1) (by kernel_rfl) ?_
 refine WR.batch 2 [(2, .int .u32 (bOr .u32 c0 c1))] (by kernel_rfl) ?_
 refine WR.fin (by kernel_rfl) ?_
 refine go hK4 ?_
 refine CW.ret ?_
 exact retV (.int .u32 (bOr .u32 c0 c1)) (by kernel_rfl) (⟨(Chg.refl _ _), (congrArg (fun r : Int => (.int .u32 r : Value)) hs).symm⟩)

def alu_do_u32_8  (c0 : Int) (c1 : Int) : Int := (bXor .u32 c0 c1)

theorem alu_do_u32_8_ok  (c0 : Int) (c1 : Int) (_h_c0 : IU32 c0) (_h_c1 : IU32 c1)  : IU32 (alu_do_u32_8 c0 c1) := by
 rw [alu_do_u32_8.eq_1]
 exact (by exact (show IU32 (bXor .u32 c0 c1) from (wrapU32 _)))

theorem alu_do_u32_8_any  (c0 : Int) (c1 : Int) (g0_ : Nat) (g1_ : Nat)  (w : World) (hb0_ : Blk w g0_ #[.int .u32 c0] 84) (hb1_ : Blk w g1_ #[.int .u32 c1] 84) (_h_c0 : IU32 c0) (_h_c1 : IU32 c1)  : Calls Try.prog 101 #[pt g0_ 0, pt g1_ 0] w (RetV w (.int .u32 (alu_do_u32_8 c0 c1))) := by
 have hs := alu_do_u32_8.eq_1 c0 c1
 refine calls_of_CW Try.func101 rfl (n := 6) Try.ntmps101 (by kernel_rfl) [0, 1] (F := [(0, pt g0_ 0), (1, pt g1_ 0)]) (by kernel_rfl) ?_
 have hg1 := hb0_.lt
 have hg2 := hb1_.lt
 refine CW.seq fun K3 hK3 => ?_
 refine CW.region ?_
 refine WR.batch 1 [(0, pt g0_ 0), (1, pt g1_ 0)] (by kernel_rfl) ?_
 refine WR.fin (by kernel_rfl) ?_
 refine go hK3 ?_
 refine CW.seq fun K4 hK4 => ?_
 refine CW.region ?_
 refine WR.load (dst := some 3) (t := 84) (o := 0) hb0_ (by kernel_rfl) (.int .u32 c0) (by kernel_rfl) ?_
 refine WR.load (dst := some 4) (t := 84) (o := 0) hb1_ (by kernel_rfl) (.int .u32 c1) (by kernel_rfl) ?_
 refine WR.batch 2 [(2, .int .u32 (bXor .u32 c0 c1))] (by kernel_rfl) ?_
 refine WR.fin (by kernel_rfl) ?_
 refine go hK4 ?_
 refine CW.ret ?_
 exact retV (.int .u32 (bXor .u32 c0 c1)) (by kernel_rfl) (⟨(Chg.refl _ _), (congrArg (fun r : Int => (.int .u32 r : Value)) hs).symm⟩)

def alu_do_u32_9  (c0 : Int) (c1 : Int) (c2 : Int) : Int := (sShl .u32 c0 ((c1).tmod c2))

theorem alu_do_u32_9_ok  (c0 : Int) (c1 : Int) (c2 : Int) (_h_c0 : IU32 c0) (_h_c1 : IU32 c1) (_h_c2 : IU32 c2) (_hc : c2 ≠ 0) : IU32 (alu_do_u32_9 c0 c1 c2) := by
 rw [alu_do_u32_9.eq_1]
 exact (by exact (show IU32 (sShl .u32 c0 ((c1).tmod c2)) from (wrapU32 _)))

theorem alu_do_u32_9_any  (c0 : Int) (c1 : Int) (c2 : Int) (g0_ : Nat) (g1_ : Nat) (g2_ : Nat)  (w : World) (hb0_ : Blk w g0_ #[.int .u32 c0] 84) (hb1_ : Blk w g1_ #[.int .u32 c1] 84) (hb2_ : Blk w g2_ #[.int .u32 c2] 84) (_h_c0 : IU32 c0) (_h_c1 : IU32 c1) (_h_c2 : IU32 c2) (_hc : c2 ≠ 0) : Calls Try.prog 102 #[pt g0_ 0, pt g1_ 0, pt g2_ 0] w (RetV w (.int .u32 (alu_do_u32_9 c0 c1 c2))) := by
 have hs := alu_do_u32_9.eq_1 c0 c1 c2
 refine calls_of_CW Try.func102 rfl (n := 9) Try.ntmps102 (by kernel_rfl) [0, 1, 2] (F := [(0, pt g0_ 0), (1, pt g1_ 0), (2, pt g2_ 0)]) (by kernel_rfl) ?_
 have hg1 := hb0_.lt
 have hg2 := hb1_.lt
 have hg3 := hb2_.lt
 refine CW.seq fun K4 hK4 => ?_
 refine CW.region ?_
 refine WR.batch 1 [(0, pt g0_ 0), (1, pt g1_ 0), (2, pt g2_ 0)] (by kernel_rfl) ?_
 refine WR.fin (by kernel_rfl) ?_
 refine go hK4 ?_
 refine CW.seq fun K5 hK5 => ?_
 refine CW.regionQ (by kernel_rfl) (by kernel_rfl) ?_
 refine WQ.load (dst := some 4) (t := 84) (o := 0) (fun _ hq => hb0_.pure hq) (by kernel_rfl) (.int .u32 c0) (by kernel_rfl) ?_
 refine WQ.load (dst := some 5) (t := 84) (o := 0) (fun _ hq => hb1_.pure hq) (by kernel_rfl) (.int .u32 c1) (by kernel_rfl) ?_
 refine WQ.load (dst := some 6) (t := 84) (o := 0) (fun _ hq => hb2_.pure hq) (by kernel_rfl) (.int .u32 c2) (by kernel_rfl) ?_
 refine WQ.val (dst := some 7) (.int .u32 ((c1).tmod c2)) (run_rem (kk := .u32) (x := c1) (y := c2) (by kernel_rfl) (by omega)) ?_
 have hm6 := tmod_rng (x := c1) (y := c2) (m := 4294967295) (by omega) (by omega)
 refine WQ.val (dst := some 8) (.int .u32 (sShl .u32 c0 ((c1).tmod c2))) (run_shl (kk := .u32) (k' := .u32) (x := c0) (y := ((c1).tmod c2)) (by kernel_rfl) (show IU32 ((c1).tmod c2) from (tmod_rng (by omega) (by omega))).1) ?_
 refine WQ.val (dst := some 3) (.int .u32 (sShl .u32 c0 ((c1).tmod c2))) (fun _ => by kernel_rfl) ?_
 refine WQ.fin (by kernel_rfl) ?_
 intro w7 hc8
 have hz10 := hc8.size
 have hC9 := (Chg.refl [] w).pure hc8
 refine go hK5 ?_
 refine CW.ret ?_
 exact retV (.int .u32 (sShl .u32 c0 ((c1).tmod c2))) (by kernel_rfl) (⟨hC9, (congrArg (fun r : Int => (.int .u32 r : Value)) hs).symm⟩)

def alu_do_u32_10  (c0 : Int) (c1 : Int) (c2 : Int) : Int := (sShr .u32 c0 ((c1).tmod c2))

theorem alu_do_u32_10_ok  (c0 : Int) (c1 : Int) (c2 : Int) (_h_c0 : IU32 c0) (_h_c1 : IU32 c1) (_h_c2 : IU32 c2) (_hc : c2 ≠ 0) : IU32 (alu_do_u32_10 c0 c1 c2) := by
 rw [alu_do_u32_10.eq_1]
 exact (by exact (show IU32 (sShr .u32 c0 ((c1).tmod c2)) from (sShr_rng (by omega))))

theorem alu_do_u32_10_any  (c0 : Int) (c1 : Int) (c2 : Int) (g0_ : Nat) (g1_ : Nat) (g2_ : Nat)  (w : World) (hb0_ : Blk w g0_ #[.int .u32 c0] 84) (hb1_ : Blk w g1_ #[.int .u32 c1] 84) (hb2_ : Blk w g2_ #[.int .u32 c2] 84) (_h_c0 : IU32 c0) (_h_c1 : IU32 c1) (_h_c2 : IU32 c2) (_hc : c2 ≠ 0) : Calls Try.prog 103 #[pt g0_ 0, pt g1_ 0, pt g2_ 0] w (RetV w (.int .u32 (alu_do_u32_10 c0 c1 c2))) := by
 have hs := alu_do_u32_10.eq_1 c0 c1 c2
 refine calls_of_CW Try.func103 rfl (n := 9) Try.ntmps103 (by kernel_rfl) [0, 1, 2] (F := [(0, pt g0_ 0), (1, pt g1_ 0), (2, pt g2_ 0)]) (by kernel_rfl) ?_
 have hg1 := hb0_.lt
 have hg2 := hb1_.lt
 have hg3 := hb2_.lt
 refine CW.seq fun K4 hK4 => ?_
 refine CW.region ?_
 refine WR.batch 1 [(0, pt g0_ 0), (1, pt g1_ 0), (2, pt g2_ 0)] (by kernel_rfl) ?_
 refine WR.fin (by kernel_rfl) ?_
 refine go hK4 ?_
 refine CW.seq fun K5 hK5 => ?_
 refine CW.regionQ (by kernel_rfl) (by kernel_rfl) ?_
 refine WQ.load (dst := some 4) (t := 84) (o := 0) (fun _ hq => hb0_.pure hq) (by kernel_rfl) (.int .u32 c0) (by kernel_rfl) ?_
 refine WQ.load (dst := some 5) (t := 84) (o := 0) (fun _ hq => hb1_.pure hq) (by kernel_rfl) (.int .u32 c1) (by kernel_rfl) ?_
 refine WQ.load (dst := some 6) (t := 84) (o := 0) (fun _ hq => hb2_.pure hq) (by kernel_rfl) (.int .u32 c2) (by kernel_rfl) ?_
 refine WQ.val (dst := some 7) (.int .u32 ((c1).tmod c2)) (run_rem (kk := .u32) (x := c1) (y := c2) (by kernel_rfl) (by omega)) ?_
 have hm6 := tmod_rng (x := c1) (y := c2) (m := 4294967295) (by omega) (by omega)
 refine WQ.val (dst := some 8) (.int .u32 (sShr .u32 c0 ((c1).tmod c2))) (run_shr (kk := .u32) (k' := .u32) (x := c0) (y := ((c1).tmod c2)) (by kernel_rfl) (show IU32 ((c1).tmod c2) from (tmod_rng (by omega) (by omega))).1) ?_
 refine WQ.val (dst := some 3) (.int .u32 (sShr .u32 c0 ((c1).tmod c2))) (fun _ => by kernel_rfl) ?_
 refine WQ.fin (by kernel_rfl) ?_
 intro w7 hc8
 have hz10 := hc8.size
 have hC9 := (Chg.refl [] w).pure hc8
 refine go hK5 ?_
 refine CW.ret ?_
 exact retV (.int .u32 (sShr .u32 c0 ((c1).tmod c2))) (by kernel_rfl) (⟨hC9, (congrArg (fun r : Int => (.int .u32 r : Value)) hs).symm⟩)

def alu_do_u32_11  (c0 : Int) (c1 : Int) (c2 : Int) : Int := (IntKind.u32.wrap (sShr .i32 (IntKind.i32.wrap c0) ((c1).tmod c2)))

theorem alu_do_u32_11_ok  (c0 : Int) (c1 : Int) (c2 : Int) (_h_c0 : IU32 c0) (_h_c1 : IU32 c1) (_h_c2 : IU32 c2) (_hc : c2 ≠ 0) : IU32 (alu_do_u32_11 c0 c1 c2) := by
 rw [alu_do_u32_11.eq_1]
 exact (by exact (show IU32 (IntKind.u32.wrap (sShr .i32 (IntKind.i32.wrap c0) ((c1).tmod c2))) from (wrapU32 _)))

theorem alu_do_u32_11_any  (c0 : Int) (c1 : Int) (c2 : Int) (g0_ : Nat) (g1_ : Nat) (g2_ : Nat)  (w : World) (hb0_ : Blk w g0_ #[.int .u32 c0] 84) (hb1_ : Blk w g1_ #[.int .u32 c1] 84) (hb2_ : Blk w g2_ #[.int .u32 c2] 84) (_h_c0 : IU32 c0) (_h_c1 : IU32 c1) (_h_c2 : IU32 c2) (_hc : c2 ≠ 0) : Calls Try.prog 104 #[pt g0_ 0, pt g1_ 0, pt g2_ 0] w (RetV w (.int .u32 (alu_do_u32_11 c0 c1 c2))) := by
 have hs := alu_do_u32_11.eq_1 c0 c1 c2
 refine calls_of_CW Try.func104 rfl (n := 11) Try.ntmps104 (by kernel_rfl) [0, 1, 2] (F := [(0, pt g0_ 0), (1, pt g1_ 0), (2, pt g2_ 0)]) (by kernel_rfl) ?_
 have hg1 := hb0_.lt
 have hg2 := hb1_.lt
 have hg3 := hb2_.lt
 refine CW.seq fun K4 hK4 => ?_
 refine CW.region ?_
 refine WR.batch 1 [(0, pt g0_ 0), (1, pt g1_ 0), (2, pt g2_ 0)] (by kernel_rfl) ?_
 refine WR.fin (by kernel_rfl) ?_
 refine go hK4 ?_
 refine CW.seq fun K5 hK5 => ?_
 refine CW.regionQ (by kernel_rfl) (by kernel_rfl) ?_
 refine WQ.load (dst := some 4) (t := 84) (o := 0) (fun _ hq => hb0_.pure hq) (by kernel_rfl) (.int .u32 c0) (by kernel_rfl) ?_
 refine WQ.val (dst := some 5) (.int .i32 (IntKind.i32.wrap c0)) (fun _ => by kernel_rfl) ?_
 refine WQ.load (dst := some 6) (t := 84) (o := 0) (fun _ hq => hb1_.pure hq) (by kernel_rfl) (.int .u32 c1) (by kernel_rfl) ?_
 refine WQ.load (dst := some 7) (t := 84) (o := 0) (fun _ hq => hb2_.pure hq) (by kernel_rfl) (.int .u32 c2) (by kernel_rfl) ?_
 refine WQ.val (dst := some 8) (.int .u32 ((c1).tmod c2)) (run_rem (kk := .u32) (x := c1) (y := c2) (by kernel_rfl) (by omega)) ?_
 have hm6 := tmod_rng (x := c1) (y := c2) (m := 4294967295) (by omega) (by omega)
 refine WQ.val (dst := some 9) (.int .i32 (sShr .i32 (IntKind.i32.wrap c0) ((c1).tmod c2))) (run_shr (kk := .i32) (k' := .u32) (x := (IntKind.i32.wrap c0)) (y := ((c1).tmod c2)) (by kernel_rfl) (show IU32 ((c1).tmod c2) from (tmod_rng (by omega) (by omega))).1) ?_
 refine WQ.val (dst := some 10) (.int .u32 (IntKind.u32.wrap (sShr .i32 (IntKind.i32.wrap c0) ((c1).tmod c2)))) (fun _ => by kernel_rfl) ?_
 refine WQ.val (dst := some 3) (.int .u32 (IntKind.u32.wrap (sShr .i32 (IntKind.i32.wrap c0) ((c1).tmod c2)))) (fun _ => by kernel_rfl) ?_
 refine WQ.fin (by kernel_rfl) ?_
 intro w7 hc8
 have hz10 := hc8.size
 have hC9 := (Chg.refl [] w).pure hc8
 refine go hK5 ?_
 refine CW.ret ?_
 exact retV (.int .u32 (IntKind.u32.wrap (sShr .i32 (IntKind.i32.wrap c0) ((c1).tmod c2)))) (by kernel_rfl) (⟨hC9, (congrArg (fun r : Int => (.int .u32 r : Value)) hs).symm⟩)

def alu_do_u32_12  (c0 : Int) : Int := c0

theorem alu_do_u32_12_ok  (c0 : Int) (_h_c0 : IU32 c0)  : IU32 (alu_do_u32_12 c0) := by
 rw [alu_do_u32_12.eq_1]
 exact (by exact (show IU32 c0 from (by omega)))

theorem alu_do_u32_12_any  (c0 : Int) (g0_ : Nat)  (w : World) (hb0_ : Blk w g0_ #[.int .u32 c0] 84) (_h_c0 : IU32 c0)  : Calls Try.prog 105 #[pt g0_ 0] w (RetV w (.int .u32 (alu_do_u32_12 c0))) := by
 have hs := alu_do_u32_12.eq_1 c0
 refine calls_of_CW Try.func105 rfl (n := 3) Try.ntmps105 (by kernel_rfl) [0] (F := [(0, pt g0_ 0)]) (by kernel_rfl) ?_
 have hg1 := hb0_.lt
 refine CW.seq fun K2 hK2 => ?_
 refine CW.region ?_
 refine WR.batch 1 [(0, pt g0_ 0)] (by kernel_rfl) ?_
 refine WR.fin (by kernel_rfl) ?_
 refine go hK2 ?_
 refine CW.seq fun K3 hK3 => ?_
 refine CW.region ?_
 refine WR.load (dst := some 2) (t := 84) (o := 0) hb0_ (by kernel_rfl) (.int .u32 c0) (by kernel_rfl) ?_
 refine WR.batch 1 [(1, .int .u32 c0)] (by kernel_rfl) ?_
 refine WR.fin (by kernel_rfl) ?_
 refine go hK3 ?_
 refine CW.ret ?_
 exact retV (.int .u32 c0) (by kernel_rfl) (⟨(Chg.refl _ _), (congrArg (fun r : Int => (.int .u32 r : Value)) hs).symm⟩)

def alu_do_u32_13  (c0 : Int) : Int := (IntKind.u32.wrap (0 - c0))

theorem alu_do_u32_13_ok  (c0 : Int) (_h_c0 : IU32 c0)  : IU32 (alu_do_u32_13 c0) := by
 rw [alu_do_u32_13.eq_1]
 exact (by exact (show IU32 (IntKind.u32.wrap (0 - c0)) from (wrapU32 _)))

theorem alu_do_u32_13_any  (c0 : Int) (g0_ : Nat)  (w : World) (hb0_ : Blk w g0_ #[.int .u32 c0] 84) (_h_c0 : IU32 c0)  : Calls Try.prog 106 #[pt g0_ 0] w (RetV w (.int .u32 (alu_do_u32_13 c0))) := by
 have hs := alu_do_u32_13.eq_1 c0
 refine calls_of_CW Try.func106 rfl (n := 4) Try.ntmps106 (by kernel_rfl) [0] (F := [(0, pt g0_ 0)]) (by kernel_rfl) ?_
 have hg1 := hb0_.lt
 refine CW.seq fun K2 hK2 => ?_
 refine CW.region ?_
 refine WR.batch 1 [(0, pt g0_ 0)] (by kernel_rfl) ?_
 refine WR.fin (by kernel_rfl) ?_
 refine go hK2 ?_
 refine CW.seq fun K3 hK3 => ?_
 refine CW.region ?_
 refine WR.load (dst := some 2) (t := 84) (o := 0) hb0_ (by kernel_rfl) (.int .u32 c0) (by kernel_rfl) ?_
 refine WR.batch 2 [(1, .int .u32 (IntKind.u32.wrap (0 - c0)))] (by kernel_rfl) ?_
 refine WR.fin (by kernel_rfl) ?_
 refine go hK3 ?_
 refine CW.ret ?_
 exact retV (.int .u32 (IntKind.u32.wrap (0 - c0))) (by kernel_rfl) (⟨(Chg.refl _ _), (congrArg (fun r : Int => (.int .u32 r : Value)) hs).symm⟩)

def alu_do_u32 (a0 : Int) (a1 : Int) (a2 : Int) (a3 : Int)  : (Int × Int) := (if (((a0 == (4 : Int)) || (a0 == (5 : Int))) && (a3 == (0 : Int))) then ((0 : Int), (113 : Int)) else (if (a0 == (1 : Int)) then (letF (alu_do_u32_1 a2 a3) fun x129 => (x129, (0 : Int))) else (if (a0 == (2 : Int)) then (letF (alu_do_u32_2 a2 a3) fun x145 => (x145, (0 : Int))) else (if (a0 == (3 : Int)) then (letF (alu_do_u32_3 a2 a3) fun x161 => (x161, (0 : Int))) else (if (a0 == (4 : Int)) then (letF (alu_do_u32_4 a2 a3) fun x177 => (x177, (0 : Int))) else (if (a0 == (5 : Int)) then (letF (alu_do_u32_5 a2 a3) fun x193 => (x193, (0 : Int))) else (if (a0 == (6 : Int)) then (letF (alu_do_u32_6 a2 a3) fun x209 => (x209, (0 : Int))) else (if (a0 == (7 : Int)) then (letF (alu_do_u32_7 a2 a3) fun x225 => (x225, (0 : Int))) else (if (a0 == (8 : Int)) then (letF (alu_do_u32_8 a2 a3) fun x241 => (x241, (0 : Int))) else (if (a0 == (9 : Int)) then (letF (alu_do_u32_9 a2 a3 a1) fun x258 => (x258, (0 : Int))) else (if (a0 == (10 : Int)) then (letF (alu_do_u32_10 a2 a3 a1) fun x275 => (x275, (0 : Int))) else (if (a0 == (11 : Int)) then (letF (alu_do_u32_11 a2 a3 a1) fun x292 => (x292, (0 : Int))) else (if (a0 == (12 : Int)) then (letF (alu_do_u32_12 a3) fun x307 => (x307, (0 : Int))) else (if (a0 == (13 : Int)) then (letF (alu_do_u32_13 a2) fun x322 => (x322, (0 : Int))) else ((0 : Int), (2 : Int))))))))))))))))

theorem alu_do_u32_ok (a0 : Int) (a1 : Int) (a2 : Int) (a3 : Int)  (_h_a0 : IU8 a0) (_h_a1 : IU32 a1) (_h_a2 : IU32 a2) (_h_a3 : IU32 a3) (_hb : a1 = 32) : IU32 (alu_do_u32 a0 a1 a2 a3).1 ∧ II64 (alu_do_u32 a0 a1 a2 a3).2 := by
 rw [alu_do_u32.eq_1]
 refine iteR (p := fun r : (Int × Int) => IU32 r.1 ∧ II64 r.2) (fun hi1001 => ?_) (fun hi1001 => ?_)
 ·
  replace hi1001 : ((a0 = (4 : Int)) ∨ (a0 = (5 : Int))) ∧ (a3 = (0 : Int)) := ⟨(orMap (bOrT (bAndT hi1001).1) (fun h => (bEqT h)) (fun h => (bEqT h))), (bEqT (bAndT hi1001).2)⟩
  exact (by exact (show IU32 (0 : Int) ∧ II64 (113 : Int) from ⟨(by omega), (by omega)⟩))
 replace hi1001 : ((a0 ≠ (4 : Int)) ∧ (a0 ≠ (5 : Int))) ∨ (a3 ≠ (0 : Int)) := (orMap (bAndF hi1001) (fun h => ⟨(bEqF (bOrF h).1), (bEqF (bOrF h).2)⟩) (fun h => (bEqF h)))
 refine iteR (p := fun r : (Int × Int) => IU32 r.1 ∧ II64 r.2) (fun hi1002 => ?_) (fun hi1002 => ?_)
 ·
  replace hi1002 : a0 = (1 : Int) := (bEqT hi1002)
  refine letR (p := fun r : (Int × Int) => IU32 r.1 ∧ II64 r.2) fun x129 hx130 => ?_
  have hx131 : IU32 x129 := by rw [← hx130]; exact alu_do_u32_1_ok a2 a3 (by omega) (by omega) 
  exact (by exact (show IU32 x129 ∧ II64 (0 : Int) from ⟨(by omega), (by omega)⟩))
 replace hi1002 : a0 ≠ (1 : Int) := (bEqF hi1002)
 refine iteR (p := fun r : (Int × Int) => IU32 r.1 ∧ II64 r.2) (fun hi1003 => ?_) (fun hi1003 => ?_)
 ·
  replace hi1003 : a0 = (2 : Int) := (bEqT hi1003)
  refine letR (p := fun r : (Int × Int) => IU32 r.1 ∧ II64 r.2) fun x145 hx146 => ?_
  have hx147 : IU32 x145 := by rw [← hx146]; exact alu_do_u32_2_ok a2 a3 (by omega) (by omega) 
  exact (by exact (show IU32 x145 ∧ II64 (0 : Int) from ⟨(by omega), (by omega)⟩))
 replace hi1003 : a0 ≠ (2 : Int) := (bEqF hi1003)
 refine iteR (p := fun r : (Int × Int) => IU32 r.1 ∧ II64 r.2) (fun hi1004 => ?_) (fun hi1004 => ?_)
 ·
  replace hi1004 : a0 = (3 : Int) := (bEqT hi1004)
  refine letR (p := fun r : (Int × Int) => IU32 r.1 ∧ II64 r.2) fun x161 hx162 => ?_
  have hx163 : IU32 x161 := by rw [← hx162]; exact alu_do_u32_3_ok a2 a3 (by omega) (by omega) 
  exact (by exact (show IU32 x161 ∧ II64 (0 : Int) from ⟨(by omega), (by omega)⟩))
 replace hi1004 : a0 ≠ (3 : Int) := (bEqF hi1004)
 refine iteR (p := fun r : (Int × Int) => IU32 r.1 ∧ II64 r.2) (fun hi1005 => ?_) (fun hi1005 => ?_)
 ·
  replace hi1005 : a0 = (4 : Int) := (bEqT hi1005)
  refine letR (p := fun r : (Int × Int) => IU32 r.1 ∧ II64 r.2) fun x177 hx178 => ?_
  have hx179 : IU32 x177 := by rw [← hx178]; exact alu_do_u32_4_ok a2 a3 (by omega) (by omega) (by omega)
  exact (by exact (show IU32 x177 ∧ II64 (0 : Int) from ⟨(by omega), (by omega)⟩))
 replace hi1005 : a0 ≠ (4 : Int) := (bEqF hi1005)
 refine iteR (p := fun r : (Int × Int) => IU32 r.1 ∧ II64 r.2) (fun hi1006 => ?_) (fun hi1006 => ?_)
 ·
  replace hi1006 : a0 = (5 : Int) := (bEqT hi1006)
  refine letR (p := fun r : (Int × Int) => IU32 r.1 ∧ II64 r.2) fun x193 hx194 => ?_
  have hx195 : IU32 x193 := by rw [← hx194]; exact alu_do_u32_5_ok a2 a3 (by omega) (by omega) (by omega)
  exact (by exact (show IU32 x193 ∧ II64 (0 : Int) from ⟨(by omega), (by omega)⟩))
 replace hi1006 : a0 ≠ (5 : Int) := (bEqF hi1006)
 refine iteR (p := fun r : (Int × Int) => IU32 r.1 ∧ II64 r.2) (fun hi1007 => ?_) (fun hi1007 => ?_)
 ·
  replace hi1007 : a0 = (6 : Int) := (bEqT hi1007)
  refine letR (p := fun r : (Int × Int) => IU32 r.1 ∧ II64 r.2) fun x209 hx210 => ?_
  have hx211 : IU32 x209 := by rw [← hx210]; exact alu_do_u32_6_ok a2 a3 (by omega) (by omega) 
  exact (by exact (show IU32 x209 ∧ II64 (0 : Int) from ⟨(by omega), (by omega)⟩))
 replace hi1007 : a0 ≠ (6 : Int) := (bEqF hi1007)
 refine iteR (p := fun r : (Int × Int) => IU32 r.1 ∧ II64 r.2) (fun hi1008 => ?_) (fun hi1008 => ?_)
 ·
  replace hi1008 : a0 = (7 : Int) := (bEqT hi1008)
  refine letR (p := fun r : (Int × Int) => IU32 r.1 ∧ II64 r.2) fun x225 hx226 => ?_
  have hx227 : IU32 x225 := by rw [← hx226]; exact alu_do_u32_7_ok a2 a3 (by omega) (by omega) 
  exact (by exact (show IU32 x225 ∧ II64 (0 : Int) from ⟨(by omega), (by omega)⟩))
 replace hi1008 : a0 ≠ (7 : Int) := (bEqF hi1008)
 refine iteR (p := fun r : (Int × Int) => IU32 r.1 ∧ II64 r.2) (fun hi1009 => ?_) (fun hi1009 => ?_)
 ·
  replace hi1009 : a0 = (8 : Int) := (bEqT hi1009)
  refine letR (p := fun r : (Int × Int) => IU32 r.1 ∧ II64 r.2) fun x241 hx242 => ?_
  have hx243 : IU32 x241 := by rw [← hx242]; exact alu_do_u32_8_ok a2 a3 (by omega) (by omega) 
  exact (by exact (show IU32 x241 ∧ II64 (0 : Int) from ⟨(by omega), (by omega)⟩))
 replace hi1009 : a0 ≠ (8 : Int) := (bEqF hi1009)
 refine iteR (p := fun r : (Int × Int) => IU32 r.1 ∧ II64 r.2) (fun hi1010 => ?_) (fun hi1010 => ?_)
 ·
  replace hi1010 : a0 = (9 : Int) := (bEqT hi1010)
  refine letR (p := fun r : (Int × Int) => IU32 r.1 ∧ II64 r.2) fun x258 hx259 => ?_
  have hx260 : IU32 x258 := by rw [← hx259]; exact alu_do_u32_9_ok a2 a3 a1 (by omega) (by omega) (by omega) (by omega)
  exact (by exact (show IU32 x258 ∧ II64 (0 : Int) from ⟨(by omega), (by omega)⟩))
 replace hi1010 : a0 ≠ (9 : Int) := (bEqF hi1010)
 refine iteR (p := fun r : (Int × Int) => IU32 r.1 ∧ II64 r.2) (fun hi1011 => ?_) (fun hi1011 => ?_)
 ·
  replace hi1011 : a0 = (10 : Int) := (bEqT hi1011)
  refine letR (p := fun r : (Int × Int) => IU32 r.1 ∧ II64 r.2) fun x275 hx276 => ?_
  have hx277 : IU32 x275 := by rw [← hx276]; exact alu_do_u32_10_ok a2 a3 a1 (by omega) (by omega) (by omega) (by omega)
  exact (by exact (show IU32 x275 ∧ II64 (0 : Int) from ⟨(by omega), (by omega)⟩))
 replace hi1011 : a0 ≠ (10 : Int) := (bEqF hi1011)
 refine iteR (p := fun r : (Int × Int) => IU32 r.1 ∧ II64 r.2) (fun hi1012 => ?_) (fun hi1012 => ?_)
 ·
  replace hi1012 : a0 = (11 : Int) := (bEqT hi1012)
  refine letR (p := fun r : (Int × Int) => IU32 r.1 ∧ II64 r.2) fun x292 hx293 => ?_
  have hx294 : IU32 x292 := by rw [← hx293]; exact alu_do_u32_11_ok a2 a3 a1 (by omega) (by omega) (by omega) (by omega)
  exact (by exact (show IU32 x292 ∧ II64 (0 : Int) from ⟨(by omega), (by omega)⟩))
 replace hi1012 : a0 ≠ (11 : Int) := (bEqF hi1012)
 refine iteR (p := fun r : (Int × Int) => IU32 r.1 ∧ II64 r.2) (fun hi1013 => ?_) (fun hi1013 => ?_)
 ·
  replace hi1013 : a0 = (12 : Int) := (bEqT hi1013)
  refine letR (p := fun r : (Int × Int) => IU32 r.1 ∧ II64 r.2) fun x307 hx308 => ?_
  have hx309 : IU32 x307 := by rw [← hx308]; exact alu_do_u32_12_ok a3 (by omega) 
  exact (by exact (show IU32 x307 ∧ II64 (0 : Int) from ⟨(by omega), (by omega)⟩))
 replace hi1013 : a0 ≠ (12 : Int) := (bEqF hi1013)
 refine iteR (p := fun r : (Int × Int) => IU32 r.1 ∧ II64 r.2) (fun hi1014 => ?_) (fun hi1014 => ?_)
 ·
  replace hi1014 : a0 = (13 : Int) := (bEqT hi1014)
  refine letR (p := fun r : (Int × Int) => IU32 r.1 ∧ II64 r.2) fun x322 hx323 => ?_
  have hx324 : IU32 x322 := by rw [← hx323]; exact alu_do_u32_13_ok a2 (by omega) 
  exact (by exact (show IU32 x322 ∧ II64 (0 : Int) from ⟨(by omega), (by omega)⟩))
 replace hi1014 : a0 ≠ (13 : Int) := (bEqF hi1014)
 exact (by exact (show IU32 (0 : Int) ∧ II64 (2 : Int) from ⟨(by omega), (by omega)⟩))

set_option maxRecDepth 100000 in
set_option maxHeartbeats 4000000 in
theorem alu_do_u32_any (a0 : Int) (a1 : Int) (a2 : Int) (a3 : Int)   (w : World)  (_h_a0 : IU8 a0) (_h_a1 : IU32 a1) (_h_a2 : IU32 a2) (_h_a3 : IU32 a3) (_hb : a1 = 32) : Calls Try.prog 59 #[.int .u8 a0, .int .u32 a1, .int .u32 a2, .int .u32 a3] w (RetV w (.tuple #[.int .u32 (alu_do_u32 a0 a1 a2 a3).1, .int .i64 (alu_do_u32 a0 a1 a2 a3).2])) := by
 have hs := alu_do_u32.eq_1 a0 a1 a2 a3
 refine calls_of_CW Try.func59 rfl (n := 46) Try.ntmps59 (by kernel_rfl) [0, 1, 2, 3] (F := [(0, .int .u8 a0), (1, .int .u32 a1), (2, .int .u32 a2), (3, .int .u32 a3)]) (by kernel_rfl) ?_
 refine CW.seq fun K1 hK1 => ?_
 refine CW.region ?_
 refine WR.box (dst := some 5) (e := 84) (v := .int .u32 a1) (by kernel_rfl) #[.int .u32 a1] (by kernel_rfl) ?_
 intro g2 w3 hN4
 have hf6 : w.heap.size ≤ g2 := hN4.fresh
 have hfr8 := hN4.fresh
 have hc7 := hN4.chg
 have hz10 := hc7.size
 have hC9 := (Chg.refl [] w).pure hc7
 have hb5 := hN4.blk
 have hg11 := hb5.lt
 refine WR.box (dst := some 6) (e := 84) (v := .int .u32 a2) (by kernel_rfl) #[.int .u32 a2] (by kernel_rfl) ?_
 intro g12 w13 hN14
 have hf16 : w.heap.size ≤ g12 := Nat.le_trans hC9.size hN14.fresh
 have hfr18 := hN14.fresh
 have hc17 := hN14.chg
 have hz20 := hc17.size
 have hC19 := hC9.pure hc17
 have hb15 := hN14.blk
 have hg21 := hb15.lt
 refine WR.box (dst := some 7) (e := 84) (v := .int .u32 a3) (by kernel_rfl) #[.int .u32 a3] (by kernel_rfl) ?_
 intro g22 w23 hN24
 have hf26 : w.heap.size ≤ g22 := Nat.le_trans hC19.size hN24.fresh
 have hfr28 := hN24.fresh
 have hc27 := hN24.chg
 have hz30 := hc27.size
 have hC29 := hC19.pure hc27
 have hb25 := hN24.blk
 have hg31 := hb25.lt
 refine WR.batch 2 [(0, .int .u8 a0), (5, pt g2 0), (6, pt g12 0), (7, pt g22 0)] (by kernel_rfl) ?_
 refine WR.fin (by kernel_rfl) ?_
 refine go hK1 ?_
 refine CW.seq fun K32 hK32 => ?_
 refine CW.seq fun K33 hK33 => ?_
 refine CW.region ?_
 refine WR.batch 3 [(0, .int .u8 a0), (5, pt g2 0), (6, pt g12 0), (7, pt g22 0), (14, .bool (a0 == (4 : Int)))] (by kernel_rfl) ?_
 refine WR.batch 3 [(0, .int .u8 a0), (5, pt g2 0), (6, pt g12 0), (7, pt g22 0), (17, .bool ((a0 == (4 : Int)) || (a0 == (5 : Int))))] (by generalize (a0 == (4 : Int)) = b; cases b <;> kernel_rfl) ?_
 refine WR.batch 1 [(0, .int .u8 a0), (5, pt g2 0), (6, pt g12 0), (7, pt g22 0), (18, .bool ((a0 == (4 : Int)) || (a0 == (5 : Int))))] (by kernel_rfl) ?_
 refine WR.mergeW 10 [(0, .int .u8 a0), (5, pt g2 0), (6, pt g12 0), (7, pt g22 0), (21, .bool (((a0 == (4 : Int)) || (a0 == (5 : Int))) && (a3 == (0 : Int))))] (fun w' => Chg [] w23 w') (fun Q' => ?_) ?_
 ·
  cases hg34 : ((a0 == (4 : Int)) || (a0 == (5 : Int)))
  ·
   have hk36 := hg34
   replace hg34 : (a0 ≠ (4 : Int)) ∧ (a0 ≠ (5 : Int)) := ⟨(bEqF (bOrF hg34).1), (bEqF (bOrF hg34).2)⟩
   intro hM35
   refine WR.batch 3 [(0, .int .u8 a0), (5, pt g2 0), (6, pt g12 0), (7, pt g22 0), (21, .bool false)] (by kernel_rfl) ?_
   exact WR.keep [0, 5, 6, 7, 21] (by kernel_rfl) (hM35 _ (Chg.refl [] w23))
  ·
   have hk37 := hg34
   replace hg34 : (a0 = (4 : Int)) ∨ (a0 = (5 : Int)) := (orMap (bOrT hg34) (fun h => (bEqT h)) (fun h => (bEqT h)))
   intro hM35
   refine WR.load (dst := some 19) (t := 84) (o := 0) hb25 (by kernel_rfl) (.int .u32 a3) (by kernel_rfl) ?_
   refine WR.batch 2 [(0, .int .u8 a0), (5, pt g2 0), (6, pt g12 0), (7, pt g22 0), (21, .bool (a3 == (0 : Int)))] (by kernel_rfl) ?_
   exact WR.keep [0, 5, 6, 7, 21] (by kernel_rfl) (hM35 _ (Chg.refl [] w23))
 intro w38 hc39
 have hz41 := hc39.size
 have hC40 := hC29.pure hc39
 refine WR.fin (by kernel_rfl) ?_
 refine go hK33 ?_
 refine CW.cond ((((a0 == (4 : Int)) || (a0 == (5 : Int))) && (a3 == (0 : Int)))) (by kernel_rfl) (fun ht42 => ?_) (fun ht42 => ?_)
 ·
  have hs43 := ifT ht42 hs
  replace ht42 : ((a0 = (4 : Int)) ∨ (a0 = (5 : Int))) ∧ (a3 = (0 : Int)) := ⟨(orMap (bOrT (bAndT ht42).1) (fun h => (bEqT h)) (fun h => (bEqT h))), (bEqT (bAndT ht42).2)⟩
  refine CW.seq fun K44 hK44 => ?_
  refine CW.region ?_
  refine WR.batch 2 [(8, .int .u32 0), (9, .int .i64 113)] (by kernel_rfl) ?_
  refine WR.fin (by kernel_rfl) ?_
  refine go hK44 ?_
  refine CW.ret ?_
  exact retV (.tuple #[.int .u32 0, .int .i64 113]) (by kernel_rfl) (⟨hC40, (congrArg (fun r : (Int × Int) => (.tuple #[.int .u32 r.1, .int .i64 r.2] : Value)) hs43).symm⟩)
 have hs45 := ifF ht42 hs
 replace ht42 : ((a0 ≠ (4 : Int)) ∧ (a0 ≠ (5 : Int))) ∨ (a3 ≠ (0 : Int)) := (orMap (bAndF ht42) (fun h => ⟨(bEqF (bOrF h).1), (bEqF (bOrF h).2)⟩) (fun h => (bEqF h)))
 refine CW.skip ?_
 refine go hK32 ?_
 refine CW.seq fun K46 hK46 => ?_
 refine CW.region ?_
 refine WR.mkMap (dst := some 23) (t := 108) (by kernel_rfl) ?_
 intro g47 w48 hN49
 have hf51 : w.heap.size ≤ g47 := Nat.le_trans hC40.size hN49.fresh
 have hfr53 := hN49.fresh
 have hc52 := hN49.chg
 have hz55 := hc52.size
 have hC54 := hC40.pure hc52
 have hb50 := hN49.blk
 have hg56 := hb50.lt
 refine WR.batch 1 [(0, .int .u8 a0), (5, pt g2 0), (6, pt g12 0), (7, pt g22 0), (23, .map (some g47)), (24, .func (.func 94) #[] #[pt g12 0, pt g22 0])] (by kernel_rfl) ?_
 refine WR.insert (t := 108) (kt := 22) (et := 106) (d := .int .u8) (x := .int .u8 1) (v := .func (.func 94) #[] #[pt g12 0, pt g22 0]) hb50 (by kernel_rfl) (by kernel_rfl) rfl (by kernel_rfl) #[({ key := .int .u8 1, val := .func (.func 94) #[] #[pt g12 0, pt g22 0], born := 0 } : MapEntry)] (by kernel_rfl) ?_
 intro w57 hb58 hc59
 have hz61 := hc59.size
 have hC60 := hC54.step1 hc59 (by omega)
 refine WR.batch 1 [(0, .int .u8 a0), (5, pt g2 0), (6, pt g12 0), (7, pt g22 0), (23, .map (some g47)), (25, .func (.func 95) #[] #[pt g12 0, pt g22 0])] (by kernel_rfl) ?_
 refine WR.insert (t := 108) (kt := 22) (et := 106) (d := .int .u8) (x := .int .u8 2) (v := .func (.func 95) #[] #[pt g12 0, pt g22 0]) hb58 (by kernel_rfl) (by kernel_rfl) rfl (by kernel_rfl) #[({ key := .int .u8 1, val := .func (.func 94) #[] #[pt g12 0, pt g22 0], born := 0 } : MapEntry), ({ key := .int .u8 2, val := .func (.func 95) #[] #[pt g12 0, pt g22 0], born := 1 } : MapEntry)] (by kernel_rfl) ?_
 intro w62 hb63 hc64
 have hz66 := hc64.size
 have hC65 := hC60.step1 hc64 (by omega)
 refine WR.batch 1 [(0, .int .u8 a0), (5, pt g2 0), (6, pt g12 0), (7, pt g22 0), (23, .map (some g47)), (26, .func (.func 96) #[] #[pt g12 0, pt g22 0])] (by kernel_rfl) ?_
 refine WR.insert (t := 108) (kt := 22) (et := 106) (d := .int .u8) (x := .int .u8 3) (v := .func (.func 96) #[] #[pt g12 0, pt g22 0]) hb63 (by kernel_rfl) (by kernel_rfl) rfl (by kernel_rfl) #[({ key := .int .u8 1, val := .func (.func 94) #[] #[pt g12 0, pt g22 0], born := 0 } : MapEntry), ({ key := .int .u8 2, val := .func (.func 95) #[] #[pt g12 0, pt g22 0], born := 1 } : MapEntry), ({ key := .int .u8 3, val := .func (.func 96) #[] #[pt g12 0, pt g22 0], born := 2 } : MapEntry)] (by kernel_rfl) ?_
 intro w67 hb68 hc69
 have hz71 := hc69.size
 have hC70 := hC65.step1 hc69 (by omega)
 refine WR.batch 1 [(0, .int .u8 a0), (5, pt g2 0), (6, pt g12 0), (7, pt g22 0), (23, .map (some g47)), (27, .func (.func 97) #[] #[pt g12 0, pt g22 0])] (by kernel_rfl) ?_
 refine WR.insert (t := 108) (kt := 22) (et := 106) (d := .int .u8) (x := .int .u8 4) (v := .func (.func 97) #[] #[pt g12 0, pt g22 0]) hb68 (by kernel_rfl) (by kernel_rfl) rfl (by kernel_rfl) #[({ key := .int .u8 1, val := .func (.func 94) #[] #[pt g12 0, pt g22 0], born := 0 } : MapEntry), ({ key := .int .u8 2, val := .func (.func 95) #[] #[pt g12 0, pt g22 0], born := 1 } : MapEntry), ({ key := .int .u8 3, val := .func (.func 96) #[] #[pt g12 0, pt g22 0], born := 2 } : MapEntry), ({ key := .int .u8 4, val := .func (.func 97) #[] #[pt g12 0, pt g22 0], born := 3 } : MapEntry)] (by kernel_rfl) ?_
 intro w72 hb73 hc74
 have hz76 := hc74.size
 have hC75 := hC70.step1 hc74 (by omega)
 refine WR.batch 1 [(0, .int .u8 a0), (5, pt g2 0), (6, pt g12 0), (7, pt g22 0), (23, .map (some g47)), (28, .func (.func 98) #[] #[pt g12 0, pt g22 0])] (by kernel_rfl) ?_
 refine WR.insert (t := 108) (kt := 22) (et := 106) (d := .int .u8) (x := .int .u8 5) (v := .func (.func 98) #[] #[pt g12 0, pt g22 0]) hb73 (by kernel_rfl) (by kernel_rfl) rfl (by kernel_rfl) #[({ key := .int .u8 1, val := .func (.func 94) #[] #[pt g12 0, pt g22 0], born := 0 } : MapEntry), ({ key := .int .u8 2, val := .func (.func 95) #[] #[pt g12 0, pt g22 0], born := 1 } : MapEntry), ({ key := .int .u8 3, val := .func (.func 96) #[] #[pt g12 0, pt g22 0], born := 2 } : MapEntry), ({ key := .int .u8 4, val := .func (.func 97) #[] #[pt g12 0, pt g22 0], born := 3 } : MapEntry), ({ key := .int .u8 5, val := .func (.func 98) #[] #[pt g12 0, pt g22 0], born := 4 } : MapEntry)] (by kernel_rfl) ?_
 intro w77 hb78 hc79
 have hz81 := hc79.size
 have hC80 := hC75.step1 hc79 (by omega)
 refine WR.batch 1 [(0, .int .u8 a0), (5, pt g2 0), (6, pt g12 0), (7, pt g22 0), (23, .map (some g47)), (29, .func (.func 99) #[] #[pt g12 0, pt g22 0])] (by kernel_rfl) ?_
 refine WR.insert (t := 108) (kt := 22) (et := 106) (d := .int .u8) (x := .int .u8 6) (v := .func (.func 99) #[] #[pt g12 0, pt g22 0]) hb78 (by kernel_rfl) (by kernel_rfl) rfl (by kernel_rfl) #[({ key := .int .u8 1, val := .func (.func 94) #[] #[pt g12 0, pt g22 0], born := 0 } : MapEntry), ({ key := .int .u8 2, val := .func (.func 95) #[] #[pt g12 0, pt g22 0], born := 1 } : MapEntry), ({ key := .int .u8 3, val := .func (.func 96) #[] #[pt g12 0, pt g22 0], born := 2 } : MapEntry), ({ key := .int .u8 4, val := .func (.func 97) #[] #[pt g12 0, pt g22 0], born := 3 } : MapEntry), ({ key := .int .u8 5, val := .func (.func 98) #[] #[pt g12 0, pt g22 0], born := 4 } : MapEntry), ({ key := .int .u8 6, val := .func (.func 99) #[] #[pt g12 0, pt g22 0], born := 5 } : MapEntry)] (by kernel_rfl) ?_
 intro w82 hb83 hc84
 have hz86 := hc84.size
 have hC85 := hC80.step1 hc84 (by omega)
 refine WR.batch 1 [(0, .int .u8 a0), (5, pt g2 0), (6, pt g12 0), (7, pt g22 0), (23, .map (some g47)), (30, .func (.func 100) #[] #[pt g12 0, pt g22 0])] (by kernel_rfl) ?_
 refine WR.insert (t := 108) (kt := 22) (et := 106) (d := .int .u8) (x := .int .u8 7) (v := .func (.func 100) #[] #[pt g12 0, pt g22 0]) hb83 (by kernel_rfl) (by kernel_rfl) rfl (by kernel_rfl) #[({ key := .int .u8 1, val := .func (.func 94) #[] #[pt g12 0, pt g22 0], born := 0 } : MapEntry), ({ key := .int .u8 2, val := .func (.func 95) #[] #[pt g12 0, pt g22 0], born := 1 } : MapEntry), ({ key := .int .u8 3, val := .func (.func 96) #[] #[pt g12 0, pt g22 0], born := 2 } : MapEntry), ({ key := .int .u8 4, val := .func (.func 97) #[] #[pt g12 0, pt g22 0], born := 3 } : MapEntry), ({ key := .int .u8 5, val := .func (.func 98) #[] #[pt g12 0, pt g22 0], born := 4 } : MapEntry), ({ key := .int .u8 6, val := .func (.func 99) #[] #[pt g12 0, pt g22 0], born := 5 } : MapEntry), ({ key := .int .u8 7, val := .func (.func 100) #[] #[pt g12 0, pt g22 0], born := 6 } : MapEntry)] (by kernel_rfl) ?_
 intro w87 hb88 hc89
 have hz91 := hc89.size
 have hC90 := hC85.step1 hc89 (by omega)
 refine WR.batch 1 [(0, .int .u8 a0), (5, pt g2 0), (6, pt g12 0), (7, pt g22 0), (23, .map (some g47)), (31, .func (.func 101) #[] #[pt g12 0, pt g22 0])] (by kernel_rfl) ?_
 refine WR.insert (t := 108) (kt := 22) (et := 106) (d := .int .u8) (x := .int .u8 8) (v := .func (.func 101) #[] #[pt g12 0, pt g22 0]) hb88 (by kernel_rfl) (by kernel_rfl) rfl (by kernel_rfl) #[({ key := .int .u8 1, val := .func (.func 94) #[] #[pt g12 0, pt g22 0], born := 0 } : MapEntry), ({ key := .int .u8 2, val := .func (.func 95) #[] #[pt g12 0, pt g22 0], born := 1 } : MapEntry), ({ key := .int .u8 3, val := .func (.func 96) #[] #[pt g12 0, pt g22 0], born := 2 } : MapEntry), ({ key := .int .u8 4, val := .func (.func 97) #[] #[pt g12 0, pt g22 0], born := 3 } : MapEntry), ({ key := .int .u8 5, val := .func (.func 98) #[] #[pt g12 0, pt g22 0], born := 4 } : MapEntry), ({ key := .int .u8 6, val := .func (.func 99) #[] #[pt g12 0, pt g22 0], born := 5 } : MapEntry), ({ key := .int .u8 7, val := .func (.func 100) #[] #[pt g12 0, pt g22 0], born := 6 } : MapEntry), ({ key := .int .u8 8, val := .func (.func 101) #[] #[pt g12 0, pt g22 0], born := 7 } : MapEntry)] (by kernel_rfl) ?_
 intro w92 hb93 hc94
 have hz96 := hc94.size
 have hC95 := hC90.step1 hc94 (by omega)
 refine WR.batch 1 [(0, .int .u8 a0), (5, pt g2 0), (6, pt g12 0), (7, pt g22 0), (23, .map (some g47)), (32, .func (.func 102) #[] #[pt g12 0, pt g22 0, pt g2 0])] (by kernel_rfl) ?_
 refine WR.insert (t := 108) (kt := 22) (et := 106) (d := .int .u8) (x := .int .u8 9) (v := .func (.func 102) #[] #[pt g12 0, pt g22 0, pt g2 0]) hb93 (by kernel_rfl) (by kernel_rfl) rfl (by kernel_rfl) #[({ key := .int .u8 1, val := .func (.func 94) #[] #[pt g12 0, pt g22 0], born := 0 } : MapEntry), ({ key := .int .u8 2, val := .func (.func 95) #[] #[pt g12 0, pt g22 0], born := 1 } : MapEntry), ({ key := .int .u8 3, val := .func (.func 96) #[] #[pt g12 0, pt g22 0], born := 2 } : MapEntry), ({ key := .int .u8 4, val := .func (.func 97) #[] #[pt g12 0, pt g22 0], born := 3 } : MapEntry), ({ key := .int .u8 5, val := .func (.func 98) #[] #[pt g12 0, pt g22 0], born := 4 } : MapEntry), ({ key := .int .u8 6, val := .func (.func 99) #[] #[pt g12 0, pt g22 0], born := 5 } : MapEntry), ({ key := .int .u8 7, val := .func (.func 100) #[] #[pt g12 0, pt g22 0], born := 6 } : MapEntry), ({ key := .int .u8 8, val := .func (.func 101) #[] #[pt g12 0, pt g22 0], born := 7 } : MapEntry), ({ key := .int .u8 9, val := .func (.func 102) #[] #[pt g12 0, pt g22 0, pt g2 0], born := 8 } : MapEntry)] (by kernel_rfl) ?_
 intro w97 hb98 hc99
 have hz101 := hc99.size
 have hC100 := hC95.step1 hc99 (by omega)
 refine WR.batch 1 [(0, .int .u8 a0), (5, pt g2 0), (6, pt g12 0), (7, pt g22 0), (23, .map (some g47)), (33, .func (.func 103) #[] #[pt g12 0, pt g22 0, pt g2 0])] (by kernel_rfl) ?_
 refine WR.insert (t := 108) (kt := 22) (et := 106) (d := .int .u8) (x := .int .u8 10) (v := .func (.func 103) #[] #[pt g12 0, pt g22 0, pt g2 0]) hb98 (by kernel_rfl) (by kernel_rfl) rfl (by kernel_rfl) #[({ key := .int .u8 1, val := .func (.func 94) #[] #[pt g12 0, pt g22 0], born := 0 } : MapEntry), ({ key := .int .u8 2, val := .func (.func 95) #[] #[pt g12 0, pt g22 0], born := 1 } : MapEntry), ({ key := .int .u8 3, val := .func (.func 96) #[] #[pt g12 0, pt g22 0], born := 2 } : MapEntry), ({ key := .int .u8 4, val := .func (.func 97) #[] #[pt g12 0, pt g22 0], born := 3 } : MapEntry), ({ key := .int .u8 5, val := .func (.func 98) #[] #[pt g12 0, pt g22 0], born := 4 } : MapEntry), ({ key := .int .u8 6, val := .func (.func 99) #[] #[pt g12 0, pt g22 0], born := 5 } : MapEntry), ({ key := .int .u8 7, val := .func (.func 100) #[] #[pt g12 0, pt g22 0], born := 6 } : MapEntry), ({ key := .int .u8 8, val := .func (.func 101) #[] #[pt g12 0, pt g22 0], born := 7 } : MapEntry), ({ key := .int .u8 9, val := .func (.func 102) #[] #[pt g12 0, pt g22 0, pt g2 0], born := 8 } : MapEntry), ({ key := .int .u8 10, val := .func (.func 103) #[] #[pt g12 0, pt g22 0, pt g2 0], born := 9 } : MapEntry)] (by kernel_rfl) ?_
 intro w102 hb103 hc104
 have hz106 := hc104.size
 have hC105 := hC100.step1 hc104 (by omega)
 refine WR.batch 1 [(0, .int .u8 a0), (6, pt g12 0), (7, pt g22 0), (23, .map (some g47)), (34, .func (.func 104) #[] #[pt g12 0, pt g22 0, pt g2 0])] (by kernel_rfl) ?_
 refine WR.insert (t := 108) (kt := 22) (et := 106) (d := .int .u8) (x := .int .u8 11) (v := .func (.func 104) #[] #[pt g12 0, pt g22 0, pt g2 0]) hb103 (by kernel_rfl) (by kernel_rfl) rfl (by kernel_rfl) #[({ key := .int .u8 1, val := .func (.func 94) #[] #[pt g12 0, pt g22 0], born := 0 } : MapEntry), ({ key := .int .u8 2, val := .func (.func 95) #[] #[pt g12 0, pt g22 0], born := 1 } : MapEntry), ({ key := .int .u8 3, val := .func (.func 96) #[] #[pt g12 0, pt g22 0], born := 2 } : MapEntry), ({ key := .int .u8 4, val := .func (.func 97) #[] #[pt g12 0, pt g22 0], born := 3 } : MapEntry), ({ key := .int .u8 5, val := .func (.func 98) #[] #[pt g12 0, pt g22 0], born := 4 } : MapEntry), ({ key := .int .u8 6, val := .func (.func 99) #[] #[pt g12 0, pt g22 0], born := 5 } : MapEntry), ({ key := .int .u8 7, val := .func (.func 100) #[] #[pt g12 0, pt g22 0], born := 6 } : MapEntry), ({ key := .int .u8 8, val := .func (.func 101) #[] #[pt g12 0, pt g22 0], born := 7 } : MapEntry), ({ key := .int .u8 9, val := .func (.func 102) #[] #[pt g12 0, pt g22 0, pt g2 0], born := 8 } : MapEntry), ({ key := .int .u8 10, val := .func (.func 103) #[] #[pt g12 0, pt g22 0, pt g2 0], born := 9 } : MapEntry), ({ key := .int .u8 11, val := .func (.func 104) #[] #[pt g12 0, pt g22 0, pt g2 0], born := 10 } : MapEntry)] (by kernel_rfl) ?_
 intro w107 hb108 hc109
 have hz111 := hc109.size
 have hC110 := hC105.step1 hc109 (by omega)
 refine WR.batch 1 [(0, .int .u8 a0), (6, pt g12 0), (23, .map (some g47)), (35, .func (.func 105) #[] #[pt g22 0])] (by kernel_rfl) ?_
 refine WR.insert (t := 108) (kt := 22) (et := 106) (d := .int .u8) (x := .int .u8 12) (v := .func (.func 105) #[] #[pt g22 0]) hb108 (by kernel_rfl) (by kernel_rfl) rfl (by kernel_rfl) #[({ key := .int .u8 1, val := .func (.func 94) #[] #[pt g12 0, pt g22 0], born := 0 } : MapEntry), ({ key := .int .u8 2, val := .func (.func 95) #[] #[pt g12 0, pt g22 0], born := 1 } : MapEntry), ({ key := .int .u8 3, val := .func (.func 96) #[] #[pt g12 0, pt g22 0], born := 2 } : MapEntry), ({ key := .int .u8 4, val := .func (.func 97) #[] #[pt g12 0, pt g22 0], born := 3 } : MapEntry), ({ key := .int .u8 5, val := .func (.func 98) #[] #[pt g12 0, pt g22 0], born := 4 } : MapEntry), ({ key := .int .u8 6, val := .func (.func 99) #[] #[pt g12 0, pt g22 0], born := 5 } : MapEntry), ({ key := .int .u8 7, val := .func (.func 100) #[] #[pt g12 0, pt g22 0], born := 6 } : MapEntry), ({ key := .int .u8 8, val := .func (.func 101) #[] #[pt g12 0, pt g22 0], born := 7 } : MapEntry), ({ key := .int .u8 9, val := .func (.func 102) #[] #[pt g12 0, pt g22 0, pt g2 0], born := 8 } : MapEntry), ({ key := .int .u8 10, val := .func (.func 103) #[] #[pt g12 0, pt g22 0, pt g2 0], born := 9 } : MapEntry), ({ key := .int .u8 11, val := .func (.func 104) #[] #[pt g12 0, pt g22 0, pt g2 0], born := 10 } : MapEntry), ({ key := .int .u8 12, val := .func (.func 105) #[] #[pt g22 0], born := 11 } : MapEntry)] (by kernel_rfl) ?_
 intro w112 hb113 hc114
 have hz116 := hc114.size
 have hC115 := hC110.step1 hc114 (by omega)
 refine WR.batch 1 [(0, .int .u8 a0), (23, .map (some g47)), (36, .func (.func 106) #[] #[pt g12 0])] (by kernel_rfl) ?_
 refine WR.insert (t := 108) (kt := 22) (et := 106) (d := .int .u8) (x := .int .u8 13) (v := .func (.func 106) #[] #[pt g12 0]) hb113 (by kernel_rfl) (by kernel_rfl) rfl (by kernel_rfl) #[({ key := .int .u8 1, val := .func (.func 94) #[] #[pt g12 0, pt g22 0], born := 0 } : MapEntry), ({ key := .int .u8 2, val := .func (.func 95) #[] #[pt g12 0, pt g22 0], born := 1 } : MapEntry), ({ key := .int .u8 3, val := .func (.func 96) #[] #[pt g12 0, pt g22 0], born := 2 } : MapEntry), ({ key := .int .u8 4, val := .func (.func 97) #[] #[pt g12 0, pt g22 0], born := 3 } : MapEntry), ({ key := .int .u8 5, val := .func (.func 98) #[] #[pt g12 0, pt g22 0], born := 4 } : MapEntry), ({ key := .int .u8 6, val := .func (.func 99) #[] #[pt g12 0, pt g22 0], born := 5 } : MapEntry), ({ key := .int .u8 7, val := .func (.func 100) #[] #[pt g12 0, pt g22 0], born := 6 } : MapEntry), ({ key := .int .u8 8, val := .func (.func 101) #[] #[pt g12 0, pt g22 0], born := 7 } : MapEntry), ({ key := .int .u8 9, val := .func (.func 102) #[] #[pt g12 0, pt g22 0, pt g2 0], born := 8 } : MapEntry), ({ key := .int .u8 10, val := .func (.func 103) #[] #[pt g12 0, pt g22 0, pt g2 0], born := 9 } : MapEntry), ({ key := .int .u8 11, val := .func (.func 104) #[] #[pt g12 0, pt g22 0, pt g2 0], born := 10 } : MapEntry), ({ key := .int .u8 12, val := .func (.func 105) #[] #[pt g22 0], born := 11 } : MapEntry), ({ key := .int .u8 13, val := .func (.func 106) #[] #[pt g12 0], born := 12 } : MapEntry)] (by kernel_rfl) ?_
 intro w117 hb118 hc119
 have hz121 := hc119.size
 have hC120 := hC115.step1 hc119 (by omega)
 refine WR.batch 2 [(37, .map (some g47)), (38, .int .u8 a0)] (by kernel_rfl) ?_
 rcases Bool.eq_false_or_eq_true (a0 == (1 : Int)) with hq122 | hq122
 ·
  have hs123 := ifT hq122 hs45
  replace hq122 := bEqT hq122
  refine WR.valR (dst := some 39) (v := .tuple #[.func (.func 94) #[] #[pt g12 0, pt g22 0], .bool true]) (w' := w117) (run_lookup (t := 108) (co := true) (kt := 22) (et := 106) (d := .int .u8) (x := .int .u8 a0) (z := .nilFunc) hb118 (by kernel_rfl) (by kernel_rfl) rfl (some (0, .func (.func 94) #[] #[pt g12 0, pt g22 0])) (by rw [hq122]; rfl) (by kernel_rfl) _ (by kernel_rfl)) ?_
  refine WR.batch 5 [(10, .func (.func 94) #[] #[pt g12 0, pt g22 0]), (11, .bool true)] (by kernel_rfl) ?_
  refine WR.fin (by kernel_rfl) ?_
  refine go hK46 ?_
  refine CW.seq fun K124 hK124 => ?_
  refine CW.seq fun K125 hK125 => ?_
  refine CW.region ?_
  refine WR.batch 2 [(10, .func (.func 94) #[] #[pt g12 0, pt g22 0]), (43, .bool false)] (by kernel_rfl) ?_
  refine WR.fin (by kernel_rfl) ?_
  refine go hK125 ?_
  refine CW.no (by kernel_rfl) ?_
  refine CW.skip ?_
  refine go hK124 ?_
  refine CW.seq fun K126 hK126 => ?_
  refine CW.region ?_
  refine WR.batch 1 [(44, .func (.func 94) #[] #[pt g12 0, pt g22 0])] (by kernel_rfl) ?_
  have hb127 := (((((((((((((((hb15.pure hc27).pure hc39).pure hc52).chg1 hc59 (by omega)).chg1 hc64 (by omega)).chg1 hc69 (by omega)).chg1 hc74 (by omega)).chg1 hc79 (by omega)).chg1 hc84 (by omega)).chg1 hc89 (by omega)).chg1 hc94 (by omega)).chg1 hc99 (by omega)).chg1 hc104 (by omega)).chg1 hc109 (by omega)).chg1 hc114 (by omega)).chg1 hc119 (by omega)
  have hb128 := ((((((((((((((hb25.pure hc39).pure hc52).chg1 hc59 (by omega)).chg1 hc64 (by omega)).chg1 hc69 (by omega)).chg1 hc74 (by omega)).chg1 hc79 (by omega)).chg1 hc84 (by omega)).chg1 hc89 (by omega)).chg1 hc94 (by omega)).chg1 hc99 (by omega)).chg1 hc104 (by omega)).chg1 hc109 (by omega)).chg1 hc114 (by omega)).chg1 hc119 (by omega)
  obtain ⟨x129, hx130⟩ : ∃ x, alu_do_u32_1 a2 a3 = x := ⟨_, rfl⟩
  have hs132 := letS hx130 hs123
  have hx131 : IU32 x129 := by rw [← hx130]; exact alu_do_u32_1_ok a2 a3 (by omega) (by omega) 
  refine WR.call (dst := some 45) (by kernel_rfl) (retE (g := (fun r : Int => (.int .u32 r : Value))) hx130 (alu_do_u32_1_any a2 a3 g12 g22 w117 hb127 hb128 (by omega) (by omega) )) ?_
  rintro _ w133 hc134 rfl
  have hz136 := hc134.size
  have hC135 := hC120.pure hc134
  refine WR.batch 2 [(8, .int .u32 x129), (9, .int .i64 0)] (by kernel_rfl) ?_
  refine WR.fin (by kernel_rfl) ?_
  refine go hK126 ?_
  refine CW.ret ?_
  exact retV (.tuple #[.int .u32 x129, .int .i64 0]) (by kernel_rfl) (⟨hC135, (congrArg (fun r : (Int × Int) => (.tuple #[.int .u32 r.1, .int .i64 r.2] : Value)) hs132).symm⟩)
 have hs137 := ifF hq122 hs45
 rcases Bool.eq_false_or_eq_true (a0 == (2 : Int)) with hq138 | hq138
 ·
  have hs139 := ifT hq138 hs137
  replace hq138 := bEqT hq138
  refine WR.valR (dst := some 39) (v := .tuple #[.func (.func 95) #[] #[pt g12 0, pt g22 0], .bool true]) (w' := w117) (run_lookup (t := 108) (co := true) (kt := 22) (et := 106) (d := .int .u8) (x := .int .u8 a0) (z := .nilFunc) hb118 (by kernel_rfl) (by kernel_rfl) rfl (some (1, .func (.func 95) #[] #[pt g12 0, pt g22 0])) (by rw [hq138]; rfl) (by kernel_rfl) _ (by kernel_rfl)) ?_
  refine WR.batch 5 [(10, .func (.func 95) #[] #[pt g12 0, pt g22 0]), (11, .bool true)] (by kernel_rfl) ?_
  refine WR.fin (by kernel_rfl) ?_
  refine go hK46 ?_
  refine CW.seq fun K140 hK140 => ?_
  refine CW.seq fun K141 hK141 => ?_
  refine CW.region ?_
  refine WR.batch 2 [(10, .func (.func 95) #[] #[pt g12 0, pt g22 0]), (43, .bool false)] (by kernel_rfl) ?_
  refine WR.fin (by kernel_rfl) ?_
  refine go hK141 ?_
  refine CW.no (by kernel_rfl) ?_
  refine CW.skip ?_
  refine go hK140 ?_
  refine CW.seq fun K142 hK142 => ?_
  refine CW.region ?_
  refine WR.batch 1 [(44, .func (.func 95) #[] #[pt g12 0, pt g22 0])] (by kernel_rfl) ?_
  have hb143 := (((((((((((((((hb15.pure hc27).pure hc39).pure hc52).chg1 hc59 (by omega)).chg1 hc64 (by omega)).chg1 hc69 (by omega)).chg1 hc74 (by omega)).chg1 hc79 (by omega)).chg1 hc84 (by omega)).chg1 hc89 (by omega)).chg1 hc94 (by omega)).chg1 hc99 (by omega)).chg1 hc104 (by omega)).chg1 hc109 (by omega)).chg1 hc114 (by omega)).chg1 hc119 (by omega)
  have hb144 := ((((((((((((((hb25.pure hc39).pure hc52).chg1 hc59 (by omega)).chg1 hc64 (by omega)).chg1 hc69 (by omega)).chg1 hc74 (by omega)).chg1 hc79 (by omega)).chg1 hc84 (by omega)).chg1 hc89 (by omega)).chg1 hc94 (by omega)).chg1 hc99 (by omega)).chg1 hc104 (by omega)).chg1 hc109 (by omega)).chg1 hc114 (by omega)).chg1 hc119 (by omega)
  obtain ⟨x145, hx146⟩ : ∃ x, alu_do_u32_2 a2 a3 = x := ⟨_, rfl⟩
  have hs148 := letS hx146 hs139
  have hx147 : IU32 x145 := by rw [← hx146]; exact alu_do_u32_2_ok a2 a3 (by omega) (by omega) 
  refine WR.call (dst := some 45) (by kernel_rfl) (retE (g := (fun r : Int => (.int .u32 r : Value))) hx146 (alu_do_u32_2_any a2 a3 g12 g22 w117 hb143 hb144 (by omega) (by omega) )) ?_
  rintro _ w149 hc150 rfl
  have hz152 := hc150.size
  have hC151 := hC120.pure hc150
  refine WR.batch 2 [(8, .int .u32 x145), (9, .int .i64 0)] (by kernel_rfl) ?_
  refine WR.fin (by kernel_rfl) ?_
  refine go hK142 ?_
  refine CW.ret ?_
  exact retV (.tuple #[.int .u32 x145, .int .i64 0]) (by kernel_rfl) (⟨hC151, (congrArg (fun r : (Int × Int) => (.tuple #[.int .u32 r.1, .int .i64 r.2] : Value)) hs148).symm⟩)
 have hs153 := ifF hq138 hs137
 rcases Bool.eq_false_or_eq_true (a0 == (3 : Int)) with hq154 | hq154
 ·
  have hs155 := ifT hq154 hs153
  replace hq154 := bEqT hq154
  refine WR.valR (dst := some 39) (v := .tuple #[.func (.func 96) #[] #[pt g12 0, pt g22 0], .bool true]) (w' := w117) (run_lookup (t := 108) (co := true) (kt := 22) (et := 106) (d := .int .u8) (x := .int .u8 a0) (z := .nilFunc) hb118 (by kernel_rfl) (by kernel_rfl) rfl (some (2, .func (.func 96) #[] #[pt g12 0, pt g22 0])) (by rw [hq154]; rfl) (by kernel_rfl) _ (by kernel_rfl)) ?_
  refine WR.batch 5 [(10, .func (.func 96) #[] #[pt g12 0, pt g22 0]), (11, .bool true)] (by kernel_rfl) ?_
  refine WR.fin (by kernel_rfl) ?_
  refine go hK46 ?_
  refine CW.seq fun K156 hK156 => ?_
  refine CW.seq fun K157 hK157 => ?_
  refine CW.region ?_
  refine WR.batch 2 [(10, .func (.func 96) #[] #[pt g12 0, pt g22 0]), (43, .bool false)] (by kernel_rfl) ?_
  refine WR.fin (by kernel_rfl) ?_
  refine go hK157 ?_
  refine CW.no (by kernel_rfl) ?_
  refine CW.skip ?_
  refine go hK156 ?_
  refine CW.seq fun K158 hK158 => ?_
  refine CW.region ?_
  refine WR.batch 1 [(44, .func (.func 96) #[] #[pt g12 0, pt g22 0])] (by kernel_rfl) ?_
  have hb159 := (((((((((((((((hb15.pure hc27).pure hc39).pure hc52).chg1 hc59 (by omega)).chg1 hc64 (by omega)).chg1 hc69 (by omega)).chg1 hc74 (by omega)).chg1 hc79 (by omega)).chg1 hc84 (by omega)).chg1 hc89 (by omega)).chg1 hc94 (by omega)).chg1 hc99 (by omega)).chg1 hc104 (by omega)).chg1 hc109 (by omega)).chg1 hc114 (by omega)).chg1 hc119 (by omega)
  have hb160 := ((((((((((((((hb25.pure hc39).pure hc52).chg1 hc59 (by omega)).chg1 hc64 (by omega)).chg1 hc69 (by omega)).chg1 hc74 (by omega)).chg1 hc79 (by omega)).chg1 hc84 (by omega)).chg1 hc89 (by omega)).chg1 hc94 (by omega)).chg1 hc99 (by omega)).chg1 hc104 (by omega)).chg1 hc109 (by omega)).chg1 hc114 (by omega)).chg1 hc119 (by omega)
  obtain ⟨x161, hx162⟩ : ∃ x, alu_do_u32_3 a2 a3 = x := ⟨_, rfl⟩
  have hs164 := letS hx162 hs155
  have hx163 : IU32 x161 := by rw [← hx162]; exact alu_do_u32_3_ok a2 a3 (by omega) (by omega) 
  refine WR.call (dst := some 45) (by kernel_rfl) (retE (g := (fun r : Int => (.int .u32 r : Value))) hx162 (alu_do_u32_3_any a2 a3 g12 g22 w117 hb159 hb160 (by omega) (by omega) )) ?_
  rintro _ w165 hc166 rfl
  have hz168 := hc166.size
  have hC167 := hC120.pure hc166
  refine WR.batch 2 [(8, .int .u32 x161), (9, .int .i64 0)] (by kernel_rfl) ?_
  refine WR.fin (by kernel_rfl) ?_
  refine go hK158 ?_
  refine CW.ret ?_
  exact retV (.tuple #[.int .u32 x161, .int .i64 0]) (by kernel_rfl) (⟨hC167, (congrArg (fun r : (Int × Int) => (.tuple #[.int .u32 r.1, .int .i64 r.2] : Value)) hs164).symm⟩)
 have hs169 := ifF hq154 hs153
 rcases Bool.eq_false_or_eq_true (a0 == (4 : Int)) with hq170 | hq170
 ·
  have hs171 := ifT hq170 hs169
  replace hq170 := bEqT hq170
  refine WR.valR (dst := some 39) (v := .tuple #[.func (.func 97) #[] #[pt g12 0, pt g22 0], .bool true]) (w' := w117) (run_lookup (t := 108) (co := true) (kt := 22) (et := 106) (d := .int .u8) (x := .int .u8 a0) (z := .nilFunc) hb118 (by kernel_rfl) (by kernel_rfl) rfl (some (3, .func (.func 97) #[] #[pt g12 0, pt g22 0])) (by rw [hq170]; rfl) (by kernel_rfl) _ (by kernel_rfl)) ?_
  refine WR.batch 5 [(10, .func (.func 97) #[] #[pt g12 0, pt g22 0]), (11, .bool true)] (by kernel_rfl) ?_
  refine WR.fin (by kernel_rfl) ?_
  refine go hK46 ?_
  refine CW.seq fun K172 hK172 => ?_
  refine CW.seq fun K173 hK173 => ?_
  refine CW.region ?_
  refine WR.batch 2 [(10, .func (.func 97) #[] #[pt g12 0, pt g22 0]), (43, .bool false)] (by kernel_rfl) ?_
  refine WR.fin (by kernel_rfl) ?_
  refine go hK173 ?_
  refine CW.no (by kernel_rfl) ?_
  refine CW.skip ?_
  refine go hK172 ?_
  refine CW.seq fun K174 hK174 => ?_
  refine CW.region ?_
  refine WR.batch 1 [(44, .func (.func 97) #[] #[pt g12 0, pt g22 0])] (by kernel_rfl) ?_
  have hb175 := (((((((((((((((hb15.pure hc27).pure hc39).pure hc52).chg1 hc59 (by omega)).chg1 hc64 (by omega)).chg1 hc69 (by omega)).chg1 hc74 (by omega)).chg1 hc79 (by omega)).chg1 hc84 (by omega)).chg1 hc89 (by omega)).chg1 hc94 (by omega)).chg1 hc99 (by omega)).chg1 hc104 (by omega)).chg1 hc109 (by omega)).chg1 hc114 (by omega)).chg1 hc119 (by omega)
  have hb176 := ((((((((((((((hb25.pure hc39).pure hc52).chg1 hc59 (by omega)).chg1 hc64 (by omega)).chg1 hc69 (by omega)).chg1 hc74 (by omega)).chg1 hc79 (by omega)).chg1 hc84 (by omega)).chg1 hc89 (by omega)).chg1 hc94 (by omega)).chg1 hc99 (by omega)).chg1 hc104 (by omega)).chg1 hc109 (by omega)).chg1 hc114 (by omega)).chg1 hc119 (by omega)
  obtain ⟨x177, hx178⟩ : ∃ x, alu_do_u32_4 a2 a3 = x := ⟨_, rfl⟩
  have hs180 := letS hx178 hs171
  have hx179 : IU32 x177 := by rw [← hx178]; exact alu_do_u32_4_ok a2 a3 (by omega) (by omega) (by omega)
  refine WR.call (dst := some 45) (by kernel_rfl) (retE (g := (fun r : Int => (.int .u32 r : Value))) hx178 (alu_do_u32_4_any a2 a3 g12 g22 w117 hb175 hb176 (by omega) (by omega) (by omega))) ?_
  rintro _ w181 hc182 rfl
  have hz184 := hc182.size
  have hC183 := hC120.pure hc182
  refine WR.batch 2 [(8, .int .u32 x177), (9, .int .i64 0)] (by kernel_rfl) ?_
  refine WR.fin (by kernel_rfl) ?_
  refine go hK174 ?_
  refine CW.ret ?_
  exact retV (.tuple #[.int .u32 x177, .int .i64 0]) (by kernel_rfl) (⟨hC183, (congrArg (fun r : (Int × Int) => (.tuple #[.int .u32 r.1, .int .i64 r.2] : Value)) hs180).symm⟩)
 have hs185 := ifF hq170 hs169
 rcases Bool.eq_false_or_eq_true (a0 == (5 : Int)) with hq186 | hq186
 ·
  have hs187 := ifT hq186 hs185
  replace hq186 := bEqT hq186
  refine WR.valR (dst := some 39) (v := .tuple #[.func (.func 98) #[] #[pt g12 0, pt g22 0], .bool true]) (w' := w117) (run_lookup (t := 108) (co := true) (kt := 22) (et := 106) (d := .int .u8) (x := .int .u8 a0) (z := .nilFunc) hb118 (by kernel_rfl) (by kernel_rfl) rfl (some (4, .func (.func 98) #[] #[pt g12 0, pt g22 0])) (by rw [hq186]; rfl) (by kernel_rfl) _ (by kernel_rfl)) ?_
  refine WR.batch 5 [(10, .func (.func 98) #[] #[pt g12 0, pt g22 0]), (11, .bool true)] (by kernel_rfl) ?_
  refine WR.fin (by kernel_rfl) ?_
  refine go hK46 ?_
  refine CW.seq fun K188 hK188 => ?_
  refine CW.seq fun K189 hK189 => ?_
  refine CW.region ?_
  refine WR.batch 2 [(10, .func (.func 98) #[] #[pt g12 0, pt g22 0]), (43, .bool false)] (by kernel_rfl) ?_
  refine WR.fin (by kernel_rfl) ?_
  refine go hK189 ?_
  refine CW.no (by kernel_rfl) ?_
  refine CW.skip ?_
  refine go hK188 ?_
  refine CW.seq fun K190 hK190 => ?_
  refine CW.region ?_
  refine WR.batch 1 [(44, .func (.func 98) #[] #[pt g12 0, pt g22 0])] (by kernel_rfl) ?_
  have hb191 := (((((((((((((((hb15.pure hc27).pure hc39).pure hc52).chg1 hc59 (by omega)).chg1 hc64 (by omega)).chg1 hc69 (by omega)).chg1 hc74 (by omega)).chg1 hc79 (by omega)).chg1 hc84 (by omega)).chg1 hc89 (by omega)).chg1 hc94 (by omega)).chg1 hc99 (by omega)).chg1 hc104 (by omega)).chg1 hc109 (by omega)).chg1 hc114 (by omega)).chg1 hc119 (by omega)
  have hb192 := ((((((((((((((hb25.pure hc39).pure hc52).chg1 hc59 (by omega)).chg1 hc64 (by omega)).chg1 hc69 (by omega)).chg1 hc74 (by omega)).chg1 hc79 (by omega)).chg1 hc84 (by omega)).chg1 hc89 (by omega)).chg1 hc94 (by omega)).chg1 hc99 (by omega)).chg1 hc104 (by omega)).chg1 hc109 (by omega)).chg1 hc114 (by omega)).chg1 hc119 (by omega)
  obtain ⟨x193, hx194⟩ : ∃ x, alu_do_u32_5 a2 a3 = x := ⟨_, rfl⟩
  have hs196 := letS hx194 hs187
  have hx195 : IU32 x193 := by rw [← hx194]; exact alu_do_u32_5_ok a2 a3 (by omega) (by omega) (by omega)
  refine WR.call (dst := some 45) (by kernel_rfl) (retE (g := (fun r : Int => (.int .u32 r : Value))) hx194 (alu_do_u32_5_any a2 a3 g12 g22 w117 hb191 hb192 (by omega) (by omega) (by omega))) ?_
  rintro _ w197 hc198 rfl
  have hz200 := hc198.size
  have hC199 := hC120.pure hc198
  refine WR.batch 2 [(8, .int .u32 x193), (9, .int .i64 0)] (by kernel_rfl) ?_
  refine WR.fin (by kernel_rfl) ?_
  refine go hK190 ?_
  refine CW.ret ?_
  exact retV (.tuple #[.int .u32 x193, .int .i64 0]) (by kernel_rfl) (⟨hC199, (congrArg (fun r : (Int × Int) => (.tuple #[.int .u32 r.1, .int .i64 r.2] : Value)) hs196).symm⟩)
 have hs201 := ifF hq186 hs185
 rcases Bool.eq_false_or_eq_true (a0 == (6 : Int)) with hq202 | hq202
 ·
  have hs203 := ifT hq202 hs201
  replace hq202 := bEqT hq202
  refine WR.valR (dst := some 39) (v := .tuple #[.func (.func 99) #[] #[pt g12 0, pt g22 0], .bool true]) (w' := w117) (run_lookup (t := 108) (co := true) (kt := 22) (et := 106) (d := .int .u8) (x := .int .u8 a0) (z := .nilFunc) hb118 (by kernel_rfl) (by kernel_rfl) rfl (some (5, .func (.func 99) #[] #[pt g12 0, pt g22 0])) (by rw [hq202]; rfl) (by kernel_rfl) _ (by kernel_rfl)) ?_
  refine WR.batch 5 [(10, .func (.func 99) #[] #[pt g12 0, pt g22 0]), (11, .bool true)] (by kernel_rfl) ?_
  refine WR.fin (by kernel_rfl) ?_
  refine go hK46 ?_
  refine CW.seq fun K204 hK204 => ?_
  refine CW.seq fun K205 hK205 => ?_
  refine CW.region ?_
  refine WR.batch 2 [(10, .func (.func 99) #[] #[pt g12 0, pt g22 0]), (43, .bool false)] (by kernel_rfl) ?_
  refine WR.fin (by kernel_rfl) ?_
  refine go hK205 ?_
  refine CW.no (by kernel_rfl) ?_
  refine CW.skip ?_
  refine go hK204 ?_
  refine CW.seq fun K206 hK206 => ?_
  refine CW.region ?_
  refine WR.batch 1 [(44, .func (.func 99) #[] #[pt g12 0, pt g22 0])] (by kernel_rfl) ?_
  have hb207 := (((((((((((((((hb15.pure hc27).pure hc39).pure hc52).chg1 hc59 (by omega)).chg1 hc64 (by omega)).chg1 hc69 (by omega)).chg1 hc74 (by omega)).chg1 hc79 (by omega)).chg1 hc84 (by omega)).chg1 hc89 (by omega)).chg1 hc94 (by omega)).chg1 hc99 (by omega)).chg1 hc104 (by omega)).chg1 hc109 (by omega)).chg1 hc114 (by omega)).chg1 hc119 (by omega)
  have hb208 := ((((((((((((((hb25.pure hc39).pure hc52).chg1 hc59 (by omega)).chg1 hc64 (by omega)).chg1 hc69 (by omega)).chg1 hc74 (by omega)).chg1 hc79 (by omega)).chg1 hc84 (by omega)).chg1 hc89 (by omega)).chg1 hc94 (by omega)).chg1 hc99 (by omega)).chg1 hc104 (by omega)).chg1 hc109 (by omega)).chg1 hc114 (by omega)).chg1 hc119 (by omega)
  obtain ⟨x209, hx210⟩ : ∃ x, alu_do_u32_6 a2 a3 = x := ⟨_, rfl⟩
  have hs212 := letS hx210 hs203
  have hx211 : IU32 x209 := by rw [← hx210]; exact alu_do_u32_6_ok a2 a3 (by omega) (by omega) 
  refine WR.call (dst := some 45) (by kernel_rfl) (retE (g := (fun r : Int => (.int .u32 r : Value))) hx210 (alu_do_u32_6_any a2 a3 g12 g22 w117 hb207 hb208 (by omega) (by omega) )) ?_
  rintro _ w213 hc214 rfl
  have hz216 := hc214.size
  have hC215 := hC120.pure hc214
  refine WR.batch 2 [(8, .int .u32 x209), (9, .int .i64 0)] (by kernel_rfl) ?_
  refine WR.fin (by kernel_rfl) ?_
  refine go hK206 ?_
  refine CW.ret ?_
  exact retV (.tuple #[.int .u32 x209, .int .i64 0]) (by kernel_rfl) (⟨hC215, (congrArg (fun r : (Int × Int) => (.tuple #[.int .u32 r.1, .int .i64 r.2] : Value)) hs212).symm⟩)
 have hs217 := ifF hq202 hs201
 rcases Bool.eq_false_or_eq_true (a0 == (7 : Int)) with hq218 | hq218
 ·
  have hs219 := ifT hq218 hs217
  replace hq218 := bEqT hq218
  refine WR.valR (dst := some 39) (v := .tuple #[.func (.func 100) #[] #[pt g12 0, pt g22 0], .bool true]) (w' := w117) (run_lookup (t := 108) (co := true) (kt := 22) (et := 106) (d := .int .u8) (x := .int .u8 a0) (z := .nilFunc) hb118 (by kernel_rfl) (by kernel_rfl) rfl (some (6, .func (.func 100) #[] #[pt g12 0, pt g22 0])) (by rw [hq218]; rfl) (by kernel_rfl) _ (by kernel_rfl)) ?_
  refine WR.batch 5 [(10, .func (.func 100) #[] #[pt g12 0, pt g22 0]), (11, .bool true)] (by kernel_rfl) ?_
  refine WR.fin (by kernel_rfl) ?_
  refine go hK46 ?_
  refine CW.seq fun K220 hK220 => ?_
  refine CW.seq fun K221 hK221 => ?_
  refine CW.region ?_
  refine WR.batch 2 [(10, .func (.func 100) #[] #[pt g12 0, pt g22 0]), (43, .bool false)] (by kernel_rfl) ?_
  refine WR.fin (by kernel_rfl) ?_
  refine go hK221 ?_
  refine CW.no (by kernel_rfl) ?_
  refine CW.skip ?_
  refine go hK220 ?_
  refine CW.seq fun K222 hK222 => ?_
  refine CW.region ?_
  refine WR.batch 1 [(44, .func (.func 100) #[] #[pt g12 0, pt g22 0])] (by kernel_rfl) ?_
  have hb223 := (((((((((((((((hb15.pure hc27).pure hc39).pure hc52).chg1 hc59 (by omega)).chg1 hc64 (by omega)).chg1 hc69 (by omega)).chg1 hc74 (by omega)).chg1 hc79 (by omega)).chg1 hc84 (by omega)).chg1 hc89 (by omega)).chg1 hc94 (by omega)).chg1 hc99 (by omega)).chg1 hc104 (by omega)).chg1 hc109 (by omega)).chg1 hc114 (by omega)).chg1 hc119 (by omega)
  have hb224 := ((((((((((((((hb25.pure hc39).pure hc52).chg1 hc59 (by omega)).chg1 hc64 (by omega)).chg1 hc69 (by omega)).chg1 hc74 (by omega)).chg1 hc79 (by omega)).chg1 hc84 (by omega)).chg1 hc89 (by omega)).chg1 hc94 (by omega)).chg1 hc99 (by omega)).chg1 hc104 (by omega)).chg1 hc109 (by omega)).chg1 hc114 (by omega)).chg1 hc119 (by omega)
  obtain ⟨x225, hx226⟩ : ∃ x, alu_do_u32_7 a2 a3 = x := ⟨_, rfl⟩
  have hs228 := letS hx226 hs219
  have hx227 : IU32 x225 := by rw [← hx226]; exact alu_do_u32_7_ok a2 a3 (by omega) (by omega) 
  refine WR.call (dst := some 45) (by kernel_rfl) (retE (g := (fun r : Int => (.int .u32 r : Value))) hx226 (alu_do_u32_7_any a2 a3 g12 g22 w117 hb223 hb224 (by omega) (by omega) )) ?_
  rintro _ w229 hc230 rfl
  have hz232 := hc230.size
  have hC231 := hC120.pure hc230
  refine WR.batch 2 [(8, .int .u32 x225), (9, .int .i64 0)] (by kernel_rfl) ?_
  refine WR.fin (by kernel_rfl) ?_
  refine go hK222 ?_
  refine CW.ret ?_
  exact retV (.tuple #[.int .u32 x225, .int .i64 0]) (by kernel_rfl) (⟨hC231, (congrArg (fun r : (Int × Int) => (.tuple #[.int .u32 r.1, .int .i64 r.2] : Value)) hs228).symm⟩)
 have hs233 := ifF hq218 hs217
 rcases Bool.eq_false_or_eq_true (a0 == (8 : Int)) with hq234 | hq234
 ·
  have hs235 := ifT hq234 hs233
  replace hq234 := bEqT hq234
  refine WR.valR (dst := some 39) (v := .tuple #[.func (.func 101) #[] #[pt g12 0, pt g22 0], .bool true]) (w' := w117) (run_lookup (t := 108) (co := true) (kt := 22) (et := 106) (d := .int .u8) (x := .int .u8 a0) (z := .nilFunc) hb118 (by kernel_rfl) (by kernel_rfl) rfl (some (7, .func (.func 101) #[] #[pt g12 0, pt g22 0])) (by rw [hq234]; rfl) (by kernel_rfl) _ (by kernel_rfl)) ?_
  refine WR.batch 5 [(10, .func (.func 101) #[] #[pt g12 0, pt g22 0]), (11, .bool true)] (by kernel_rfl) ?_
  refine WR.fin (by kernel_rfl) ?_
  refine go hK46 ?_
  refine CW.seq fun K236 hK236 => ?_
  refine CW.seq fun K237 hK237 => ?_
  refine CW.region ?_
  refine WR.batch 2 [(10, .func (.func 101) #[] #[pt g12 0, pt g22 0]), (43, .bool false)] (by kernel_rfl) ?_
  refine WR.fin (by kernel_rfl) ?_
  refine go hK237 ?_
  refine CW.no (by kernel_rfl) ?_
  refine CW.skip ?_
  refine go hK236 ?_
  refine CW.seq fun K238 hK238 => ?_
  refine CW.region ?_
  refine WR.batch 1 [(44, .func (.func 101) #[] #[pt g12 0, pt g22 0])] (by kernel_rfl) ?_
  have hb239 := (((((((((((((((hb15.pure hc27).pure hc39).pure hc52).chg1 hc59 (by omega)).chg1 hc64 (by omega)).chg1 hc69 (by omega)).chg1 hc74 (by omega)).chg1 hc79 (by omega)).chg1 hc84 (by omega)).chg1 hc89 (by omega)).chg1 hc94 (by omega)).chg1 hc99 (by omega)).chg1 hc104 (by omega)).chg1 hc109 (by omega)).chg1 hc114 (by omega)).chg1 hc119 (by omega)
  have hb240 := ((((((((((((((hb25.pure hc39).pure hc52).chg1 hc59 (by omega)).chg1 hc64 (by omega)).chg1 hc69 (by omega)).chg1 hc74 (by omega)).chg1 hc79 (by omega)).chg1 hc84 (by omega)).chg1 hc89 (by omega)).chg1 hc94 (by omega)).chg1 hc99 (by omega)).chg1 hc104 (by omega)).chg1 hc109 (by omega)).chg1 hc114 (by omega)).chg1 hc119 (by omega)
  obtain ⟨x241, hx242⟩ : ∃ x, alu_do_u32_8 a2 a3 = x := ⟨_, rfl⟩
  have hs244 := letS hx242 hs235
  have hx243 : IU32 x241 := by rw [← hx242]; exact alu_do_u32_8_ok a2 a3 (by omega) (by omega) 
  refine WR.call (dst := some 45) (by kernel_rfl) (retE (g := (fun r : Int => (.int .u32 r : Value))) hx242 (alu_do_u32_8_any a2 a3 g12 g22 w117 hb239 hb240 (by omega) (by omega) )) ?_
  rintro _ w245 hc246 rfl
  have hz248 := hc246.size
  have hC247 := hC120.pure hc246
  refine WR.batch 2 [(8, .int .u32 x241), (9, .int .i64 0)] (by kernel_rfl) ?_
  refine WR.fin (by kernel_rfl) ?_
  refine go hK238 ?_
  refine CW.ret ?_
  exact retV (.tuple #[.int .u32 x241, .int .i64 0]) (by kernel_rfl) (⟨hC247, (congrArg (fun r : (Int × Int) => (.tuple #[.int .u32 r.1, .int .i64 r.2] : Value)) hs244).symm⟩)
 have hs249 := ifF hq234 hs233
 rcases Bool.eq_false_or_eq_true (a0 == (9 : Int)) with hq250 | hq250
 ·
  have hs251 := ifT hq250 hs249
  replace hq250 := bEqT hq250
  refine WR.valR (dst := some 39) (v := .tuple #[.func (.func 102) #[] #[pt g12 0, pt g22 0, pt g2 0], .bool true]) (w' := w117) (run_lookup (t := 108) (co := true) (kt := 22) (et := 106) (d := .int .u8) (x := .int .u8 a0) (z := .nilFunc) hb118 (by kernel_rfl) (by kernel_rfl) rfl (some (8, .func (.func 102) #[] #[pt g12 0, pt g22 0, pt g2 0])) (by rw [hq250]; rfl) (by kernel_rfl) _ (by kernel_rfl)) ?_
  refine WR.batch 5 [(10, .func (.func 102) #[] #[pt g12 0, pt g22 0, pt g2 0]), (11, .bool true)] (by kernel_rfl) ?_
  refine WR.fin (by kernel_rfl) ?_
  refine go hK46 ?_
  refine CW.seq fun K252 hK252 => ?_
  refine CW.seq fun K253 hK253 => ?_
  refine CW.region ?_
  refine WR.batch 2 [(10, .func (.func 102) #[] #[pt g12 0, pt g22 0, pt g2 0]), (43, .bool false)] (by kernel_rfl) ?_
  refine WR.fin (by kernel_rfl) ?_
  refine go hK253 ?_
  refine CW.no (by kernel_rfl) ?_
  refine CW.skip ?_
  refine go hK252 ?_
  refine CW.seq fun K254 hK254 => ?_
  refine CW.region ?_
  refine WR.batch 1 [(44, .func (.func 102) #[] #[pt g12 0, pt g22 0, pt g2 0])] (by kernel_rfl) ?_
  have hb255 := (((((((((((((((hb15.pure hc27).pure hc39).pure hc52).chg1 hc59 (by omega)).chg1 hc64 (by omega)).chg1 hc69 (by omega)).chg1 hc74 (by omega)).chg1 hc79 (by omega)).chg1 hc84 (by omega)).chg1 hc89 (by omega)).chg1 hc94 (by omega)).chg1 hc99 (by omega)).chg1 hc104 (by omega)).chg1 hc109 (by omega)).chg1 hc114 (by omega)).chg1 hc119 (by omega)
  have hb256 := ((((((((((((((hb25.pure hc39).pure hc52).chg1 hc59 (by omega)).chg1 hc64 (by omega)).chg1 hc69 (by omega)).chg1 hc74 (by omega)).chg1 hc79 (by omega)).chg1 hc84 (by omega)).chg1 hc89 (by omega)).chg1 hc94 (by omega)).chg1 hc99 (by omega)).chg1 hc104 (by omega)).chg1 hc109 (by omega)).chg1 hc114 (by omega)).chg1 hc119 (by omega)
  have hb257 := ((((((((((((((((hb5.pure hc17).pure hc27).pure hc39).pure hc52).chg1 hc59 (by omega)).chg1 hc64 (by omega)).chg1 hc69 (by omega)).chg1 hc74 (by omega)).chg1 hc79 (by omega)).chg1 hc84 (by omega)).chg1 hc89 (by omega)).chg1 hc94 (by omega)).chg1 hc99 (by omega)).chg1 hc104 (by omega)).chg1 hc109 (by omega)).chg1 hc114 (by omega)).chg1 hc119 (by omega)
  obtain ⟨x258, hx259⟩ : ∃ x, alu_do_u32_9 a2 a3 a1 = x := ⟨_, rfl⟩
  have hs261 := letS hx259 hs251
  have hx260 : IU32 x258 := by rw [← hx259]; exact alu_do_u32_9_ok a2 a3 a1 (by omega) (by omega) (by omega) (by omega)
  refine WR.call (dst := some 45) (by kernel_rfl) (retE (g := (fun r : Int => (.int .u32 r : Value))) hx259 (alu_do_u32_9_any a2 a3 a1 g12 g22 g2 w117 hb255 hb256 hb257 (by omega) (by omega) (by omega) (by omega))) ?_
  rintro _ w262 hc263 rfl
  have hz265 := hc263.size
  have hC264 := hC120.pure hc263
  refine WR.batch 2 [(8, .int .u32 x258), (9, .int .i64 0)] (by kernel_rfl) ?_
  refine WR.fin (by kernel_rfl) ?_
  refine go hK254 ?_
  refine CW.ret ?_
  exact retV (.tuple #[.int .u32 x258, .int .i64 0]) (by kernel_rfl) (⟨hC264, (congrArg (fun r : (Int × Int) => (.tuple #[.int .u32 r.1, .int .i64 r.2] : Value)) hs261).symm⟩)
 have hs266 := ifF hq250 hs249
 rcases Bool.eq_false_or_eq_true (a0 == (10 : Int)) with hq267 | hq267
 ·
  have hs268 := ifT hq267 hs266
  replace hq267 := bEqT hq267
  refine WR.valR (dst := some 39) (v := .tuple #[.func (.func 103) #[] #[pt g12 0, pt g22 0, pt g2 0], .bool true]) (w' := w117) (run_lookup (t := 108) (co := true) (kt := 22) (et := 106) (d := .int .u8) (x := .int .u8 a0) (z := .nilFunc) hb118 (by kernel_rfl) (by kernel_rfl) rfl (some (9, .func (.func 103) #[] #[pt g12 0, pt g22 0, pt g2 0])) (by rw [hq267]; rfl) (by kernel_rfl) _ (by kernel_rfl)) ?_
  refine WR.batch 5 [(10, .func (.func 103) #[] #[pt g12 0, pt g22 0, pt g2 0]), (11, .bool true)] (by kernel_rfl) ?_
  refine WR.fin (by kernel_rfl) ?_
  refine go hK46 ?_
  refine CW.seq fun K269 hK269 => ?_
  refine CW.seq fun K270 hK270 => ?_
  refine CW.region ?_
  refine WR.batch 2 [(10, .func (.func 103) #[] #[pt g12 0, pt g22 0, pt g2 0]), (43, .bool false)] (by kernel_rfl) ?_
  refine WR.fin (by kernel_rfl) ?_
  refine go hK270 ?_
  refine CW.no (by kernel_rfl) ?_
  refine CW.skip ?_
  refine go hK269 ?_
  refine CW.seq fun K271 hK271 => ?_
  refine CW.region ?_
  refine WR.batch 1 [(44, .func (.func 103) #[] #[pt g12 0, pt g22 0, pt g2 0])] (by kernel_rfl) ?_
  have hb272 := (((((((((((((((hb15.pure hc27).pure hc39).pure hc52).chg1 hc59 (by omega)).chg1 hc64 (by omega)).chg1 hc69 (by omega)).chg1 hc74 (by omega)).chg1 hc79 (by omega)).chg1 hc84 (by omega)).chg1 hc89 (by omega)).chg1 hc94 (by omega)).chg1 hc99 (by omega)).chg1 hc104 (by omega)).chg1 hc109 (by omega)).chg1 hc114 (by omega)).chg1 hc119 (by omega)
  have hb273 := ((((((((((((((hb25.pure hc39).pure hc52).chg1 hc59 (by omega)).chg1 hc64 (by omega)).chg1 hc69 (by omega)).chg1 hc74 (by omega)).chg1 hc79 (by omega)).chg1 hc84 (by omega)).chg1 hc89 (by omega)).chg1 hc94 (by omega)).chg1 hc99 (by omega)).chg1 hc104 (by omega)).chg1 hc109 (by omega)).chg1 hc114 (by omega)).chg1 hc119 (by omega)
  have hb274 := ((((((((((((((((hb5.pure hc17).pure hc27).pure hc39).pure hc52).chg1 hc59 (by omega)).chg1 hc64 (by omega)).chg1 hc69 (by omega)).chg1 hc74 (by omega)).chg1 hc79 (by omega)).chg1 hc84 (by omega)).chg1 hc89 (by omega)).chg1 hc94 (by omega)).chg1 hc99 (by omega)).chg1 hc104 (by omega)).chg1 hc109 (by omega)).chg1 hc114 (by omega)).chg1 hc119 (by omega)
  obtain ⟨x275, hx276⟩ : ∃ x, alu_do_u32_10 a2 a3 a1 = x := ⟨_, rfl⟩
  have hs278 := letS hx276 hs268
  have hx277 : IU32 x275 := by rw [← hx276]; exact alu_do_u32_10_ok a2 a3 a1 (by omega) (by omega) (by omega) (by omega)
  refine WR.call (dst := some 45) (by kernel_rfl) (retE (g := (fun r : Int => (.int .u32 r : Value))) hx276 (alu_do_u32_10_any a2 a3 a1 g12 g22 g2 w117 hb272 hb273 hb274 (by omega) (by omega) (by omega) (by omega))) ?_
  rintro _ w279 hc280 rfl
  have hz282 := hc280.size
  have hC281 := hC120.pure hc280
  refine WR.batch 2 [(8, .int .u32 x275), (9, .int .i64 0)] (by kernel_rfl) ?_
  refine WR.fin (by kernel_rfl) ?_
  refine go hK271 ?_
  refine CW.ret ?_
  exact retV (.tuple #[.int .u32 x275, .int .i64 0]) (by kernel_rfl) (⟨hC281, (congrArg (fun r : (Int × Int) => (.tuple #[.int .u32 r.1, .int .i64 r.2] : Value)) hs278).symm⟩)
 have hs283 := ifF hq267 hs266
 rcases Bool.eq_false_or_eq_true (a0 == (11 : Int)) with hq284 | hq284
 ·
  have hs285 := ifT hq284 hs283
  replace hq284 := bEqT hq284
  refine WR.valR (dst := some 39) (v := .tuple #[.func (.func 104) #[] #[pt g12 0, pt g22 0, pt g2 0], .bool true]) (w' := w117) (run_lookup (t := 108) (co := true) (kt := 22) (et := 106) (d := .int .u8) (x := .int .u8 a0) (z := .nilFunc) hb118 (by kernel_rfl) (by kernel_rfl) rfl (some (10, .func (.func 104) #[] #[pt g12 0, pt g22 0, pt g2 0])) (by rw [hq284]; rfl) (by kernel_rfl) _ (by kernel_rfl)) ?_
  refine WR.batch 5 [(10, .func (.func 104) #[] #[pt g12 0, pt g22 0, pt g2 0]), (11, .bool true)] (by kernel_rfl) ?_
  refine WR.fin (by kernel_rfl) ?_
  refine go hK46 ?_
  refine CW.seq fun K286 hK286 => ?_
  refine CW.seq fun K287 hK287 => ?_
  refine CW.region ?_
  refine WR.batch 2 [(10, .func (.func 104) #[] #[pt g12 0, pt g22 0, pt g2 0]), (43, .bool false)] (by kernel_rfl) ?_
  refine WR.fin (by kernel_rfl) ?_
  refine go hK287 ?_
  refine CW.no (by kernel_rfl) ?_
  refine CW.skip ?_
  refine go hK286 ?_
  refine CW.seq fun K288 hK288 => ?_
  refine CW.region ?_
  refine WR.batch 1 [(44, .func (.func 104) #[] #[pt g12 0, pt g22 0, pt g2 0])] (by kernel_rfl) ?_
  have hb289 := (((((((((((((((hb15.pure hc27).pure hc39).pure hc52).chg1 hc59 (by omega)).chg1 hc64 (by omega)).chg1 hc69 (by omega)).chg1 hc74 (by omega)).chg1 hc79 (by omega)).chg1 hc84 (by omega)).chg1 hc89 (by omega)).chg1 hc94 (by omega)).chg1 hc99 (by omega)).chg1 hc104 (by omega)).chg1 hc109 (by omega)).chg1 hc114 (by omega)).chg1 hc119 (by omega)
  have hb290 := ((((((((((((((hb25.pure hc39).pure hc52).chg1 hc59 (by omega)).chg1 hc64 (by omega)).chg1 hc69 (by omega)).chg1 hc74 (by omega)).chg1 hc79 (by omega)).chg1 hc84 (by omega)).chg1 hc89 (by omega)).chg1 hc94 (by omega)).chg1 hc99 (by omega)).chg1 hc104 (by omega)).chg1 hc109 (by omega)).chg1 hc114 (by omega)).chg1 hc119 (by omega)
  have hb291 := ((((((((((((((((hb5.pure hc17).pure hc27).pure hc39).pure hc52).chg1 hc59 (by omega)).chg1 hc64 (by omega)).chg1 hc69 (by omega)).chg1 hc74 (by omega)).chg1 hc79 (by omega)).chg1 hc84 (by omega)).chg1 hc89 (by omega)).chg1 hc94 (by omega)).chg1 hc99 (by omega)).chg1 hc104 (by omega)).chg1 hc109 (by omega)).chg1 hc114 (by omega)).chg1 hc119 (by omega)
  obtain ⟨x292, hx293⟩ : ∃ x, alu_do_u32_11 a2 a3 a1 = x := ⟨_, rfl⟩
  have hs295 := letS hx293 hs285
  have hx294 : IU32 x292 := by rw [← hx293]; exact alu_do_u32_11_ok a2 a3 a1 (by omega) (by omega) (by omega) (by omega)
  refine WR.call (dst := some 45) (by kernel_rfl) (retE (g := (fun r : Int => (.int .u32 r : Value))) hx293 (alu_do_u32_11_any a2 a3 a1 g12 g22 g2 w117 hb289 hb290 hb291 (by omega) (by omega) (by omega) (by omega))) ?_
  rintro _ w296 hc297 rfl
  have hz299 := hc297.size
  have hC298 := hC120.pure hc297
  refine WR.batch 2 [(8, .int .u32 x292), (9, .int .i64 0)] (by kernel_rfl) ?_
  refine WR.fin (by kernel_rfl) ?_
  refine go hK288 ?_
  refine CW.ret ?_
  exact retV (.tuple #[.int .u32 x292, .int .i64 0]) (by kernel_rfl) (⟨hC298, (congrArg (fun r : (Int × Int) => (.tuple #[.int .u32 r.1, .int .i64 r.2] : Value)) hs295).symm⟩)
 have hs300 := ifF hq284 hs283
 rcases Bool.eq_false_or_eq_true (a0 == (12 : Int)) with hq301 | hq301
 ·
  have hs302 := ifT hq301 hs300
  replace hq301 := bEqT hq301
  refine WR.valR (dst := some 39) (v := .tuple #[.func (.func 105) #[] #[pt g22 0], .bool true]) (w' := w117) (run_lookup (t := 108) (co := true) (kt := 22) (et := 106) (d := .int .u8) (x := .int .u8 a0) (z := .nilFunc) hb118 (by kernel_rfl) (by kernel_rfl) rfl (some (11, .func (.func 105) #[] #[pt g22 0])) (by rw [hq301]; rfl) (by kernel_rfl) _ (by kernel_rfl)) ?_
  refine WR.batch 5 [(10, .func (.func 105) #[] #[pt g22 0]), (11, .bool true)] (by kernel_rfl) ?_
  refine WR.fin (by kernel_rfl) ?_
  refine go hK46 ?_
  refine CW.seq fun K303 hK303 => ?_
  refine CW.seq fun K304 hK304 => ?_
  refine CW.region ?_
  refine WR.batch 2 [(10, .func (.func 105) #[] #[pt g22 0]), (43, .bool false)] (by kernel_rfl) ?_
  refine WR.fin (by kernel_rfl) ?_
  refine go hK304 ?_
  refine CW.no (by kernel_rfl) ?_
  refine CW.skip ?_
  refine go hK303 ?_
  refine CW.seq fun K305 hK305 => ?_
  refine CW.region ?_
  refine WR.batch 1 [(44, .func (.func 105) #[] #[pt g22 0])] (by kernel_rfl) ?_
  have hb306 := ((((((((((((((hb25.pure hc39).pure hc52).chg1 hc59 (by omega)).chg1 hc64 (by omega)).chg1 hc69 (by omega)).chg1 hc74 (by omega)).chg1 hc79 (by omega)).chg1 hc84 (by omega)).chg1 hc89 (by omega)).chg1 hc94 (by omega)).chg1 hc99 (by omega)).chg1 hc104 (by omega)).chg1 hc109 (by omega)).chg1 hc114 (by omega)).chg1 hc119 (by omega)
  obtain ⟨x307, hx308⟩ : ∃ x, alu_do_u32_12 a3 = x := ⟨_, rfl⟩
  have hs310 := letS hx308 hs302
  have hx309 : IU32 x307 := by rw [← hx308]; exact alu_do_u32_12_ok a3 (by omega) 
  refine WR.call (dst := some 45) (by kernel_rfl) (retE (g := (fun r : Int => (.int .u32 r : Value))) hx308 (alu_do_u32_12_any a3 g22 w117 hb306 (by omega) )) ?_
  rintro _ w311 hc312 rfl
  have hz314 := hc312.size
  have hC313 := hC120.pure hc312
  refine WR.batch 2 [(8, .int .u32 x307), (9, .int .i64 0)] (by kernel_rfl) ?_
  refine WR.fin (by kernel_rfl) ?_
  refine go hK305 ?_
  refine CW.ret ?_
  exact retV (.tuple #[.int .u32 x307, .int .i64 0]) (by kernel_rfl) (⟨hC313, (congrArg (fun r : (Int × Int) => (.tuple #[.int .u32 r.1, .int .i64 r.2] : Value)) hs310).symm⟩)
 have hs315 := ifF hq301 hs300
 rcases Bool.eq_false_or_eq_true (a0 == (13 : Int)) with hq316 | hq316
 ·
  have hs317 := ifT hq316 hs315
  replace hq316 := bEqT hq316
  refine WR.valR (dst := some 39) (v := .tuple #[.func (.func 106) #[] #[pt g12 0], .bool true]) (w' := w117) (run_lookup (t := 108) (co := true) (kt := 22) (et := 106) (d := .int .u8) (x := .int .u8 a0) (z := .nilFunc) hb118 (by kernel_rfl) (by kernel_rfl) rfl (some (12, .func (.func 106) #[] #[pt g12 0])) (by rw [hq316]; rfl) (by kernel_rfl) _ (by kernel_rfl)) ?_
  refine WR.batch 5 [(10, .func (.func 106) #[] #[pt g12 0]), (11, .bool true)] (by kernel_rfl) ?_
  refine WR.fin (by kernel_rfl) ?_
  refine go hK46 ?_
  refine CW.seq fun K318 hK318 => ?_
  refine CW.seq fun K319 hK319 => ?_
  refine CW.region ?_
  refine WR.batch 2 [(10, .func (.func 106) #[] #[pt g12 0]), (43, .bool false)] (by kernel_rfl) ?_
  refine WR.fin (by kernel_rfl) ?_
  refine go hK319 ?_
  refine CW.no (by kernel_rfl) ?_
  refine CW.skip ?_
  refine go hK318 ?_
  refine CW.seq fun K320 hK320 => ?_
  refine CW.region ?_
  refine WR.batch 1 [(44, .func (.func 106) #[] #[pt g12 0])] (by kernel_rfl) ?_
  have hb321 := (((((((((((((((hb15.pure hc27).pure hc39).pure hc52).chg1 hc59 (by omega)).chg1 hc64 (by omega)).chg1 hc69 (by omega)).chg1 hc74 (by omega)).chg1 hc79 (by omega)).chg1 hc84 (by omega)).chg1 hc89 (by omega)).chg1 hc94 (by omega)).chg1 hc99 (by omega)).chg1 hc104 (by omega)).chg1 hc109 (by omega)).chg1 hc114 (by omega)).chg1 hc119 (by omega)
  obtain ⟨x322, hx323⟩ : ∃ x, alu_do_u32_13 a2 = x := ⟨_, rfl⟩
  have hs325 := letS hx323 hs317
  have hx324 : IU32 x322 := by rw [← hx323]; exact alu_do_u32_13_ok a2 (by omega) 
  refine WR.call (dst := some 45) (by kernel_rfl) (retE (g := (fun r : Int => (.int .u32 r : Value))) hx323 (alu_do_u32_13_any a2 g12 w117 hb321 (by omega) )) ?_
  rintro _ w326 hc327 rfl
  have hz329 := hc327.size
  have hC328 := hC120.pure hc327
  refine WR.batch 2 [(8, .int .u32 x322), (9, .int .i64 0)] (by kernel_rfl) ?_
  refine WR.fin (by kernel_rfl) ?_
  refine go hK320 ?_
  refine CW.ret ?_
  exact retV (.tuple #[.int .u32 x322, .int .i64 0]) (by kernel_rfl) (⟨hC328, (congrArg (fun r : (Int × Int) => (.tuple #[.int .u32 r.1, .int .i64 r.2] : Value)) hs325).symm⟩)
 have hs330 := ifF hq316 hs315
 refine WR.valR (dst := some 39) (v := .tuple #[.nilFunc, .bool false]) (w' := w117) (run_lookup (t := 108) (co := true) (kt := 22) (et := 106) (d := .int .u8) (x := .int .u8 a0) (z := .nilFunc) hb118 (by kernel_rfl) (by kernel_rfl) rfl (none) (by exact findNow_no _ _ _ _ (by simp only [keysNe, hq122, hq138, hq154, hq170, hq186, hq202, hq218, hq234, hq250, hq267, hq284, hq301, hq316]; rfl)) (by kernel_rfl) _ (by kernel_rfl)) ?_
 refine WR.batch 5 [(10, .nilFunc), (11, .bool false)] (by kernel_rfl) ?_
 refine WR.fin (by kernel_rfl) ?_
 refine go hK46 ?_
 refine CW.seq fun K331 hK331 => ?_
 refine CW.seq fun K332 hK332 => ?_
 refine CW.region ?_
 refine WR.batch 2 [(10, .nilFunc), (43, .bool true)] (by kernel_rfl) ?_
 refine WR.fin (by kernel_rfl) ?_
 refine go hK332 ?_
 refine CW.yes (by kernel_rfl) ?_
 refine CW.seq fun K333 hK333 => ?_
 refine CW.region ?_
 refine WR.batch 2 [(8, .int .u32 0), (9, .int .i64 2)] (by kernel_rfl) ?_
 refine WR.fin (by kernel_rfl) ?_
 refine go hK333 ?_
 refine CW.ret ?_
 exact retV (.tuple #[.int .u32 0, .int .i64 2]) (by kernel_rfl) (⟨hC120, (congrArg (fun r : (Int × Int) => (.tuple #[.int .u32 r.1, .int .i64 r.2] : Value)) hs330).symm⟩)

def alu_do_u64_1  (c0 : Int) (c1 : Int) : Int := (IntKind.u64.wrap (c0 + c1))

theorem alu_do_u64_1_ok  (c0 : Int) (c1 : Int) (_h_c0 : IU64 c0) (_h_c1 : IU64 c1)  : IU64 (alu_do_u64_1 c0 c1) := by
 rw [alu_do_u64_1.eq_1]
 exact (by exact (show IU64 (IntKind.u64.wrap (c0 + c1)) from (wrapU64 _)))

theorem alu_do_u64_1_any  (c0 : Int) (c1 : Int) (g0_ : Nat) (g1_ : Nat)  (w : World) (hb0_ : Blk w g0_ #[.int .u64 c0] 23) (hb1_ : Blk w g1_ #[.int .u64 c1] 23) (_h_c0 : IU64 c0) (_h_c1 : IU64 c1)  : Calls Try.prog 107 #[pt g0_ 0, pt g1_ 0] w (RetV w (.int .u64 (alu_do_u64_1 c0 c1))) := by
 have hs := alu_do_u64_1.eq_1 c0 c1
 refine calls_of_CW Try.func107 rfl (n := 6) Try.ntmps107 (by kernel_rfl) [0, 1] (F := [(0, pt g0_ 0), (1, pt g1_ 0)]) (by kernel_rfl) ?_
 have hg1 := hb0_.lt
 have hg2 := hb1_.lt
 refine CW.seq fun K3 hK3 => ?_
 refine CW.region ?_
 refine WR.batch 1 [(0, pt g0_ 0), (1, pt g1_ 0)] (by kernel_rfl) ?_
 refine WR.fin (by kernel_rfl) ?_
 refine go hK3 ?_
 refine CW.seq fun K4 hK4 => ?_
 refine CW.region ?_
 refine WR.load (dst := some 3) (t := 23) (o := 0) hb0_ (by kernel_rfl) (.int .u64 c0) (by kernel_rfl) ?_
 refine WR.load (dst := some 4) (t := 23) (o := 0) hb1_ (by kernel_rfl) (.int .u64 c1) (by kernel_rfl) ?_
 refine WR.batch 2 [(2, .int .u64 (IntKind.u64.wrap (c0 + c1)))] (by kernel_rfl) ?_
 refine WR.fin (by kernel_rfl) ?_
 refine go hK4 ?_
 refine CW.ret ?_
 exact retV (.int .u64 (IntKind.u64.wrap (c0 + c1))) (by kernel_rfl) (⟨(Chg.refl _ _), (congrArg (fun r : Int => (.int .u64 r : Value)) hs).symm⟩)

def alu_do_u64_2  (c0 : Int) (c1 : Int) : Int := (IntKind.u64.wrap (c0 - c1))

theorem alu_do_u64_2_ok  (c0 : Int) (c1 : Int) (_h_c0 : IU64 c0) (_h_c1 : IU64 c1)  : IU64 (alu_do_u64_2 c0 c1) := by
 rw [alu_do_u64_2.eq_1]
 exact (by exact (show IU64 (IntKind.u64.wrap (c0 - c1)) from (wrapU64 _)))

theorem alu_do_u64_2_any  (c0 : Int) (c1 : Int) (g0_ : Nat) (g1_ : Nat)  (w : World) (hb0_ : Blk w g0_ #[.int .u64 c0] 23) (hb1_ : Blk w g1_ #[.int .u64 c1] 23) (_h_c0 : IU64 c0) (_h_c1 : IU64 c1)  : Calls Try.prog 108 #[pt g0_ 0, pt g1_ 0] w (RetV w (.int .u64 (alu_do_u64_2 c0 c1))) := by
 have hs := alu_do_u64_2.eq_1 c0 c1
 refine calls_of_CW Try.func108 rfl (n := 6) Try.ntmps108 (by kernel_rfl) [0, 1] (F := [(0, pt g0_ 0), (1, pt g1_ 0)]) (by kernel_rfl) ?_
 have hg1 := hb0_.lt
 have hg2 := hb1_.lt
 refine CW.seq fun K3 hK3 => ?_
 refine CW.region ?_
 refine WR.batch 1 [(0, pt g0_ 0), (1, pt g1_ 0)] (by kernel_rfl) ?_
 refine WR.fin (by kernel_rfl) ?_
 refine go hK3 ?_
 refine CW.seq fun K4 hK4 => ?_
 refine CW.region ?_
 refine WR.load (dst := some 3) (t := 23) (o := 0) hb0_ (by kernel_rfl) (.int .u64 c0) (by kernel_rfl) ?_
 refine WR.load (dst := some 4) (t := 23) (o := 0) hb1_ (by kernel_rfl) (.int .u64 c1) (by kernel_rfl) ?_
 refine WR.batch 2 [(2, .int .u64 (IntKind.u64.wrap (c0 - c1)))] (by kernel_rfl) ?_
 refine WR.fin (by kernel_rfl) ?_
 refine go hK4 ?_
 refine CW.ret ?_
 exact retV (.int .u64 (IntKind.u64.wrap (c0 - c1))) (by kernel_rfl) (⟨(Chg.refl _ _), (congrArg (fun r : Int => (.int .u64 r : Value)) hs).symm⟩)

def alu_do_u64_3  (c0 : Int) (c1 : Int) : Int := (IntKind.u64.wrap (c0 * c1))

theorem alu_do_u64_3_ok  (c0 : Int) (c1 : Int) (_h_c0 : IU64 c0) (_h_c1 : IU64 c1)  : IU64 (alu_do_u64_3 c0 c1) := by
 rw [alu_do_u64_3.eq_1]
 exact (by exact (show IU64 (IntKind.u64.wrap (c0 * c1)) from (wrapU64 _)))

theorem alu_do_u64_3_any  (c0 : Int) (c1 : Int) (g0_ : Nat) (g1_ : Nat)  (w : World) (hb0_ : Blk w g0_ #[.int .u64 c0] 23) (hb1_ : Blk w g1_ #[.int .u64 c1] 23) (_h_c0 : IU64 c0) (_h_c1 : IU64 c1)  : Calls Try.prog 109 #[pt g0_ 0, pt g1_ 0] w (RetV w (.int .u64 (alu_do_u64_3 c0 c1))) := by
 have hs := alu_do_u64_3.eq_1 c0 c1
 refine calls_of_CW Try.func109 rfl (n := 6) Try.ntmps109 (by kernel_rfl) [0, 1] (F := [(0, pt g0_ 0), (1, pt g1_ 0)]) (by kernel_rfl) ?_
 have hg1 := hb0_.lt
 have hg2 := hb1_.lt
 refine CW.seq fun K3 hK3 => ?_
 refine CW.region ?_
 refine WR.batch 1 [(0, pt g0_ 0), (1, pt g1_ 0)] (by kernel_rfl) ?_
 refine WR.fin (by kernel_rfl) ?_
 refine go hK3 ?_
 refine CW.seq fun K4 hK4 => ?_
 refine CW.region ?_
 refine WR.load (dst := some 3) (t := 23) (o := 0) hb0_ (by kernel_rfl) (.int .u64 c0) (by kernel_rfl) ?_
 refine WR.load (dst := some 4) (t := 23) (o := 0) hb1_ (by kernel_rfl) (.int .u64 c1) (by kernel_rfl) ?_
 refine WR.batch 2 [(2, .int .u64 (IntKind.u64.wrap (c0 * c1)))] (by kernel_rfl) ?_
 refine WR.fin (by kernel_rfl) ?_
 refine go hK4 ?_
 refine CW.ret ?_
 exact retV (.int .u64 (IntKind.u64.wrap (c0 * c1))) (by kernel_rfl) (⟨(Chg.refl _ _), (congrArg (fun r : Int => (.int .u64 r : Value)) hs).symm⟩)

def alu_do_u64_4  (c0 : Int) (c1 : Int) : Int := (IntKind.u64.wrap ((c0).tdiv c1))

theorem alu_do_u64_4_ok  (c0 : Int) (c1 : Int) (_h_c0 : IU64 c0) (_h_c1 : IU64 c1) (_hc : c1 ≠ 0) : IU64 (alu_do_u64_4 c0 c1) := by
 rw [alu_do_u64_4.eq_1]
 exact (by exact (show IU64 (IntKind.u64.wrap ((c0).tdiv c1)) from (wrapU64 _)))

theorem alu_do_u64_4_any  (c0 : Int) (c1 : Int) (g0_ : Nat) (g1_ : Nat)  (w : World) (hb0_ : Blk w g0_ #[.int .u64 c0] 23) (hb1_ : Blk w g1_ #[.int .u64 c1] 23) (_h_c0 : IU64 c0) (_h_c1 : IU64 c1) (_hc : c1 ≠ 0) : Calls Try.prog 110 #[pt g0_ 0, pt g1_ 0] w (RetV w (.int .u64 (alu_do_u64_4 c0 c1))) := by
 have hs := alu_do_u64_4.eq_1 c0 c1
 refine calls_of_CW Try.func110 rfl (n := 6) Try.ntmps110 (by kernel_rfl) [0, 1] (F := [(0, pt g0_ 0), (1, pt g1_ 0)]) (by kernel_rfl) ?_
 have hg1 := hb0_.lt
 have hg2 := hb1_.lt
 refine CW.seq fun K3 hK3 => ?_
 refine CW.region ?_
 refine WR.batch 1 [(0, pt g0_ 0), (1, pt g1_ 0)] (by kernel_rfl) ?_
 refine WR.fin (by kernel_rfl) ?_
 refine go hK3 ?_
 refine CW.seq fun K4 hK4 => ?_
 refine CW.region ?_
 refine WR.load (dst := some 3) (t := 23) (o := 0) hb0_ (by kernel_rfl) (.int .u64 c0) (by kernel_rfl) ?_
 refine WR.load (dst := some 4) (t := 23) (o := 0) hb1_ (by kernel_rfl) (.int .u64 c1) (by kernel_rfl) ?_
 refine WR.valR (dst := some 5) (v := .int .u64 (IntKind.u64.wrap ((c0).tdiv c1))) (w' := w) (run_quo (kk := .u64) (x := c0) (y := c1) (by kernel_rfl) (by omega) w) ?_
 refine WR.batch 1 [(2, .int .u64 (IntKind.u64.wrap ((c0).tdiv c1)))] (by kernel_rfl) ?_
 refine WR.fin (by kernel_rfl) ?_
 refine go hK4 ?_
 refine CW.ret ?_
 exact retV (.int .u64 (IntKind.u64.wrap ((c0).tdiv c1))) (by kernel_rfl) (⟨(Chg.refl _ _), (congrArg (fun r : Int => (.int .u64 r : Value)) hs).symm⟩)

def alu_do_u64_5  (c0 : Int) (c1 : Int) : Int := ((c0).tmod c1)

theorem alu_do_u64_5_ok  (c0 : Int) (c1 : Int) (_h_c0 : IU64 c0) (_h_c1 : IU64 c1) (_hc : c1 ≠ 0) : IU64 (alu_do_u64_5 c0 c1) := by
 rw [alu_do_u64_5.eq_1]
 exact (by exact (show IU64 ((c0).tmod c1) from (tmod_rng (by omega) (by omega))))

theorem alu_do_u64_5_any  (c0 : Int) (c1 : Int) (g0_ : Nat) (g1_ : Nat)  (w : World) (hb0_ : Blk w g0_ #[.int .u64 c0] 23) (hb1_ : Blk w g1_ #[.int .u64 c1] 23) (_h_c0 : IU64 c0) (_h_c1 : IU64 c1) (_hc : c1 ≠ 0) : Calls Try.prog 111 #[pt g0_ 0, pt g1_ 0] w (RetV w (.int .u64 (alu_do_u64_5 c0 c1))) := by
 have hs := alu_do_u64_5.eq_1 c0 c1
 refine calls_of_CW Try.func111 rfl (n := 6) Try.ntmps111 (by kernel_rfl) [0, 1] (F := [(0, pt g0_ 0), (1, pt g1_ 0)]) (by kernel_rfl) ?_
 have hg1 := hb0_.lt
 have hg2 := hb1_.lt
 refine CW.seq fun K3 hK3 => ?_
 refine CW.region ?_
 refine WR.batch 1 [(0, pt g0_ 0), (1, pt g1_ 0)] (by kernel_rfl) ?_
 refine WR.fin (by kernel_rfl) ?_
 refine go hK3 ?_
 refine CW.seq fun K4 hK4 => ?_
 refine CW.region ?_
 refine WR.load (dst := some 3) (t := 23) (o := 0) hb0_ (by kernel_rfl) (.int .u64 c0) (by kernel_rfl) ?_
 refine WR.load (dst := some 4) (t := 23) (o := 0) hb1_ (by kernel_rfl) (.int .u64 c1) (by kernel_rfl) ?_
 refine WR.valR (dst := some 5) (v := .int .u64 ((c0).tmod c1)) (w' := w) (run_rem (kk := .u64) (x := c0) (y := c1) (by kernel_rfl) (by omega) w) ?_
 have hm5 := tmod_rng (x := c0) (y := c1) (m := 18446744073709551615) (by omega) (by omega)
 refine WR.batch 1 [(2, .int .u64 ((c0).tmod c1))] (by kernel_rfl) ?_
 refine WR.fin (by kernel_rfl) ?_
 refine go hK4 ?_
 refine CW.ret ?_
 exact retV (.int .u64 ((c0).tmod c1)) (by kernel_rfl) (⟨(Chg.refl _ _), (congrArg (fun r : Int => (.int .u64 r : Value)) hs).symm⟩)

def alu_do_u64_6  (c0 : Int) (c1 : Int) : Int := (bAnd .u64 c0 c1)

theorem alu_do_u64_6_ok  (c0 : Int) (c1 : Int) (_h_c0 : IU64 c0) (_h_c1 : IU64 c1)  : IU64 (alu_do_u64_6 c0 c1) := by
 rw [alu_do_u64_6.eq_1]
 exact (by exact (show IU64 (bAnd .u64 c0 c1) from (wrapU64 _)))

theorem alu_do_u64_6_any  (c0 : Int) (c1 : Int) (g0_ : Nat) (g1_ : Nat)  (w : World) (hb0_ : Blk w g0_ #[.int .u64 c0] 23) (hb1_ : Blk w g1_ #[.int .u64 c1] 23) (_h_c0 : IU64 c0) (_h_c1 : IU64 c1)  : Calls Try.prog 112 #[pt g0_ 0, pt g1_ 0] w (RetV w (.int .u64 (alu_do_u64_6 c0 c1))) := by
 have hs := alu_do_u64_6.eq_1 c0 c1
 refine calls_of_CW Try.func112 rfl (n := 6) Try.ntmps112 (by kernel_rfl) [0, 1] (F := [(0, pt g0_ 0), (1, pt g1_ 0)]) (by kernel_rfl) ?_
 have hg1 := hb0_.lt
 have hg2 := hb1_.lt
 refine CW.seq fun K3 hK3 => ?_
 refine CW.region ?_
 refine WR.batch 1 [(0, pt g0_ 0), (1, pt g1_ 0)] (by kernel_rfl) ?_
 refine WR.fin (by kernel_rfl) ?_
 refine go hK3 ?_
 refine CW.seq fun K4 hK4 => ?_
 refine CW.region ?_
 refine WR.load (dst := some 3) (t := 23) (o := 0) hb0_ (by kernel_rfl) (.int .u64 c0) (by kernel_rfl) ?_
 refine WR.load (dst := some 4) (t := 23) (o := 0) hb1_ (by kernel_rfl) (.int .u64 c1) (by kernel_rfl) ?_
 refine WR.batch 2 [(2, .int .u64 (bAnd .u64 c0 c1))] (by kernel_rfl) ?_
 refine WR.fin (by kernel_rfl) ?_
 refine go hK4 ?_
 refine CW.ret ?_
 exact retV (.int .u64 (bAnd .u64 c0 c1)) (by kernel_rfl) (⟨(Chg.refl _ _), (congrArg (fun r : Int => (.int .u64 r : Value)) hs).symm⟩)

def alu_do_u64_7  (c0 : Int) (c1 : Int) : Int := (bOr .u64 c0 c1)

theorem alu_do_u64_7_ok  (c0 : Int) (c1 : Int) (_h_c0 : IU64 c0) (_h_c1 : IU64 c1)  : IU64 (alu_do_u64_7 c0 c1) := by
 rw [alu_do_u64_7.eq_1]
 exact (by exact (show IU64 (bOr .u64 c0 c1) from (wrapU64 _)))

theorem alu_do_u64_7_any  (c0 : Int) (c1 : Int) (g0_ : Nat) (g1_ : Nat)  (w : World) (hb0_ : Blk w g0_ #[.int .u64 c0] 23) (hb1_ : Blk w g1_ #[.int .u64 c1] 23) (_h_c0 : IU64 c0) (_h_c1 : IU64 c1)  : Calls Try.prog 113 #[pt g0_ 0, pt g1_ 0] w (RetV w (.int .u64 (alu_do_u64_7 c0 c1))) := by
 have hs := alu_do_u64_7.eq_1 c0 c1
 refine calls_of_CW Try.func113 rfl (n := 6) Try.ntmps113 (by kernel_rfl) [0, 1] (F := [(0, pt g0_ 0), (1, pt g1_ 0)]) (by kernel_rfl) ?_
 have hg1 := hb0_.lt
 have hg2 := hb1_.lt
 refine CW.seq fun K3 hK3 => ?_
 refine CW.region ?_
 refine WR.batch 1 [(0, pt g0_ 0), (1, pt g1_ 0)] (by kernel_rfl) ?_
 refine WR.fin (by kernel_rfl) ?_
 refine go hK3 ?_
 refine CW.seq fun K4 hK4 => ?_
 refine CW.region ?_
 refine WR.load (dst := some 3) (t := 23) (o := 0) hb0_ (by kernel_rfl) (.int .u64 c0) (by kernel_rfl) ?_
 refine WR.load (dst := some 4) (t := 23) (o := 0) hb1_ (by kernel_rfl) (.int .u64 c1) (by kernel_rfl) ?_
 refine WR.batch 2 [(2, .int .u64 (bOr .u64 c0 c1))] (by kernel_rfl) ?_
 refine WR.fin (by kernel_rfl) ?_
 refine go hK4 ?_
 refine CW.ret ?_
 exact retV (.int .u64 (bOr .u64 c0 c1)) (by kernel_rfl) (⟨(Chg.refl _ _), (congrArg (fun r : Int => (.int .u64 r : Value)) hs).symm⟩)

def alu_do_u64_8  (c0 : Int) (c1 : Int) : Int := (bXor .u64 c0 c1)

theorem alu_do_u64_8_ok  (c0 : Int) (c1 : Int) (_h_c0 : IU64 c0) (_h_c1 : IU64 c1)  : IU64 (alu_do_u64_8 c0 c1) := by
 rw [alu_do_u64_8.eq_1]
 exact (by exact (show IU64 (bXor .u64 c0 c1) from (wrapU64 _)))

theorem alu_do_u64_8_any  (c0 : Int) (c1 : Int) (g0_ : Nat) (g1_ : Nat)  (w : World) (hb0_ : Blk w g0_ #[.int .u64 c0] 23) (hb1_ : Blk w g1_ #[.int .u64 c1] 23) (_h_c0 : IU64 c0) (_h_c1 : IU64 c1)  : Calls Try.prog 114 #[pt g0_ 0, pt g1_ 0] w (RetV w (.int .u64 (alu_do_u64_8 c0 c1))) := by
 have hs := alu_do_u64_8.eq_1 c0 c1
 refine calls_of_CW Try.func114 rfl (n := 6) Try.ntmps114 (by kernel_rfl) [0, 1] (F := [(0, pt g0_ 0), (1, pt g1_ 0)]) (by kernel_rfl) ?_
 have hg1 := hb0_.lt
 have hg2 := hb1_.lt
 refine CW.seq fun K3 hK3 => ?_
 refine CW.region ?_
 refine WR.batch 1 [(0, pt g0_ 0), (1, pt g1_ 0)] (by kernel_rfl) ?_
 refine WR.fin (by kernel_rfl) ?_
 refine go hK3 ?_
 refine CW.seq fun K4 hK4 => ?_
 refine CW.region ?_
 refine WR.load (dst := some 3) (t := 23) (o := 0) hb0_ (by kernel_rfl) (.int .u64 c0) (by kernel_rfl) ?_
 refine WR.load (dst := some 4) (t := 23) (o := 0) hb1_ (by kernel_rfl) (.int .u64 c1) (by kernel_rfl) ?_
 refine WR.batch 2 [(2, .int .u64 (bXor .u64 c0 c1))] (by kernel_rfl) ?_
 refine WR.fin (by kernel_rfl) ?_
 refine go hK4 ?_
 refine CW.ret ?_
 exact retV (.int .u64 (bXor .u64 c0 c1)) (by kernel_rfl) (⟨(Chg.refl _ _), (congrArg (fun r : Int => (.int .u64 r : Value)) hs).symm⟩)

def alu_do_u64_9  (c0 : Int) (c1 : Int) (c2 : Int) : Int := (sShl .u64 c0 ((c1).tmod c2))

theorem alu_do_u64_9_ok  (c0 : Int) (c1 : Int) (c2 : Int) (_h_c0 : IU64 c0) (_h_c1 : IU64 c1) (_h_c2 : IU64 c2) (_hc : c2 ≠ 0) : IU64 (alu_do_u64_9 c0 c1 c2) := by
 rw [alu_do_u64_9.eq_1]
 exact (by exact (show IU64 (sShl .u64 c0 ((c1).tmod c2)) from (wrapU64 _)))

theorem alu_do_u64_9_any  (c0 : Int) (c1 : Int) (c2 : Int) (g0_ : Nat) (g1_ : Nat) (g2_ : Nat)  (w : World) (hb0_ : Blk w g0_ #[.int .u64 c0] 23) (hb1_ : Blk w g1_ #[.int .u64 c1] 23) (hb2_ : Blk w g2_ #[.int .u64 c2] 23) (_h_c0 : IU64 c0) (_h_c1 : IU64 c1) (_h_c2 : IU64 c2) (_hc : c2 ≠ 0) : Calls Try.prog 115 #[pt g0_ 0, pt g1_ 0, pt g2_ 0] w (RetV w (.int .u64 (alu_do_u64_9 c0 c1 c2))) := by
 have hs := alu_do_u64_9.eq_1 c0 c1 c2
 refine calls_of_CW Try.func115 rfl (n := 9) Try.ntmps115 (by kernel_rfl) [0, 1, 2] (F := [(0, pt g0_ 0), (1, pt g1_ 0), (2, pt g2_ 0)]) (by kernel_rfl) ?_
 have hg1 := hb0_.lt
 have hg2 := hb1_.lt
 have hg3 := hb2_.lt
 refine CW.seq fun K4 hK4 => ?_
 refine CW.region ?_
 refine WR.batch 1 [(0, pt g0_ 0), (1, pt g1_ 0), (2, pt g2_ 0)] (by kernel_rfl) ?_
 refine WR.fin (by kernel_rfl) ?_
 refine go hK4 ?_
 refine CW.seq fun K5 hK5 => ?_
 refine CW.regionQ (by kernel_rfl) (by kernel_rfl) ?_
 refine WQ.load (dst := some 4) (t := 23) (o := 0) (fun _ hq => hb0_.pure hq) (by kernel_rfl) (.int .u64 c0) (by kernel_rfl) ?_
 refine WQ.load (dst := some 5) (t := 23) (o := 0) (fun _ hq => hb1_.pure hq) (by kernel_rfl) (.int .u64 c1) (by kernel_rfl) ?_
 refine WQ.load (dst := some 6) (t := 23) (o := 0) (fun _ hq => hb2_.pure hq) (by kernel_rfl) (.int .u64 c2) (by kernel_rfl) ?_
 refine WQ.val (dst := some 7) (.int .u64 ((c1).tmod c2)) (run_rem (kk := .u64) (x := c1) (y := c2) (by kernel_rfl) (by omega)) ?_
 have hm6 := tmod_rng (x := c1) (y := c2) (m := 18446744073709551615) (by omega) (by omega)
 refine WQ.val (dst := some 8) (.int .u64 (sShl .u64 c0 ((c1).tmod c2))) (run_shl (kk := .u64) (k' := .u64) (x := c0) (y := ((c1).tmod c2)) (by kernel_rfl) (show IU64 ((c1).tmod c2) from (tmod_rng (by omega) (by omega))).1) ?_
 refine WQ.val (dst := some 3) (.int .u64 (sShl .u64 c0 ((c1).tmod c2))) (fun _ => by kernel_rfl) ?_
 refine WQ.fin (by kernel_rfl) ?_
 intro w7 hc8
 have hz10 := hc8.size
 have hC9 := (Chg.refl [] w).pure hc8
 refine go hK5 ?_
 refine CW.ret ?_
 exact retV (.int .u64 (sShl .u64 c0 ((c1).tmod c2))) (by kernel_rfl) (⟨hC9, (congrArg (fun r : Int => (.int .u64 r : Value)) hs).symm⟩)

def alu_do_u64_10  (c0 : Int) (c1 : Int) (c2 : Int) : Int := (sShr .u64 c0 ((c1).tmod c2))

theorem alu_do_u64_10_ok  (c0 : Int) (c1 : Int) (c2 : Int) (_h_c0 : IU64 c0) (_h_c1 : IU64 c1) (_h_c2 : IU64 c2) (_hc : c2 ≠ 0) : IU64 (alu_do_u64_10 c0 c1 c2) := by
 rw [alu_do_u64_10.eq_1]
 exact (by exact (show IU64 (sShr .u64 c0 ((c1).tmod c2)) from (sShr_rng (by omega))))

theorem alu_do_u64_10_any  (c0 : Int) (c1 : Int) (c2 : Int) (g0_ : Nat) (g1_ : Nat) (g2_ : Nat)  (w : World) (hb0_ : Blk w g0_ #[.int .u64 c0] 23) (hb1_ : Blk w g1_ #[.int .u64 c1] 23) (hb2_ : Blk w g2_ #[.int .u64 c2] 23) (_h_c0 : IU64 c0) (_h_c1 : IU64 c1) (_h_c2 : IU64 c2) (_hc : c2 ≠ 0) : Calls Try.prog 116 #[pt g0_ 0, pt g1_ 0, pt g2_ 0] w (RetV w (.int .u64 (alu_do_u64_10 c0 c1 c2))) := by
 have hs := alu_do_u64_10.eq_1 c0 c1 c2
 refine calls_of_CW Try.func116 rfl (n := 9) Try.ntmps116 (by kernel_rfl) [0, 1, 2] (F := [(0, pt g0_ 0), (1, pt g1_ 0), (2, pt g2_ 0)]) (by kernel_rfl) ?_
 have hg1 := hb0_.lt
 have hg2 := hb1_.lt
 have hg3 := hb2_.lt
 refine CW.seq fun K4 hK4 => ?_
 refine CW.region ?_
 refine WR.batch 1 [(0, pt g0_ 0), (1, pt g1_ 0), (2, pt g2_ 0)] (by kernel_rfl) ?_
 refine WR.fin (by kernel_rfl) ?_
 refine go hK4 ?_
 refine CW.seq fun K5 hK5 => ?_
 refine CW.regionQ (by kernel_rfl) (by kernel_rfl) ?_
 refine WQ.load (dst := some 4) (t := 23) (o := 0) (fun _ hq => hb0_.pure hq) (by kernel_rfl) (.int .u64 c0) (by kernel_rfl) ?_
 refine WQ.load (dst := some 5) (t := 23) (o := 0) (fun _ hq => hb1_.pure hq) (by kernel_rfl) (.int .u64 c1) (by kernel_rfl) ?_
 refine WQ.load (dst := some 6) (t := 23) (o := 0) (fun _ hq => hb2_.pure hq) (by kernel_rfl) (.int .u64 c2) (by kernel_rfl) ?_
 refine WQ.val (dst := some 7) (.int .u64 ((c1).tmod c2)) (run_rem (kk := .u64) (x := c1) (y := c2) (by kernel_rfl) (by omega)) ?_
 have hm6 := tmod_rng (x := c1) (y := c2) (m := 18446744073709551615) (by omega) (by omega)
 refine WQ.val (dst := some 8) (.int .u64 (sShr .u64 c0 ((c1).tmod c2))) (run_shr (kk := .u64) (k' := .u64) (x := c0) (y := ((c1).tmod c2)) (by kernel_rfl) (show IU64 ((c1).tmod c2) from (tmod_rng (by omega) (by omega))).1) ?_
 refine WQ.val (dst := some 3) (.int .u64 (sShr .u64 c0 ((c1).tmod c2))) (fun _ => by kernel_rfl) ?_
 refine WQ.fin (by kernel_rfl) ?_
 intro w7 hc8
 have hz10 := hc8.size
 have hC9 := (Chg.refl [] w).pure hc8
 refine go hK5 ?_
 refine CW.ret ?_
 exact retV (.int .u64 (sShr .u64 c0 ((c1).tmod c2))) (by kernel_rfl) (⟨hC9, (congrArg (fun r : Int => (.int .u64 r : Value)) hs).symm⟩)

def alu_do_u64_11  (c0 : Int) (c1 : Int) (c2 : Int) : Int := (IntKind.u64.wrap (sShr .i64 (IntKind.i64.wrap c0) ((c1).tmod c2)))

theorem alu_do_u64_11_ok  (c0 : Int) (c1 : Int) (c2 : Int) (_h_c0 : IU64 c0) (_h_c1 : IU64 c1) (_h_c2 : IU64 c2) (_hc : c2 ≠ 0) : IU64 (alu_do_u64_11 c0 c1 c2) := by
 rw [alu_do_u64_11.eq_1]
 exact (by exact (show IU64 (IntKind.u64.wrap (sShr .i64 (IntKind.i64.wrap c0) ((c1).tmod c2))) from (wrapU64 _)))

theorem alu_do_u64_11_any  (c0 : Int) (c1 : Int) (c2 : Int) (g0_ : Nat) (g1_ : Nat) (g2_ : Nat)  (w : World) (hb0_ : Blk w g0_ #[.int .u64 c0] 23) (hb1_ : Blk w g1_ #[.int .u64 c1] 23) (hb2_ : Blk w g2_ #[.int .u64 c2] 23) (_h_c0 : IU64 c0) (_h_c1 : IU64 c1) (_h_c2 : IU64 c2) (_hc : c2 ≠ 0) : Calls Try.prog 117 #[pt g0_ 0, pt g1_ 0, pt g2_ 0] w (RetV w (.int .u64 (alu_do_u64_11 c0 c1 c2))) := by
 have hs := alu_do_u64_11.eq_1 c0 c1 c2
 refine calls_of_CW Try.func117 rfl (n := 11) Try.ntmps117 (by kernel_rfl) [0, 1, 2] (F := [(0, pt g0_ 0), (1, pt g1_ 0), (2, pt g2_ 0)]) (by kernel_rfl) ?_
 have hg1 := hb0_.lt
 have hg2 := hb1_.lt
 have hg3 := hb2_.lt
 refine CW.seq fun K4 hK4 => ?_
 refine CW.region ?_
 refine WR.batch 1 [(0, pt g0_ 0), (1, pt g1_ 0), (2, pt g2_ 0)] (by kernel_rfl) ?_
 refine WR.fin (by kernel_rfl) ?_
 refine go hK4 ?_
 refine CW.seq fun K5 hK5 => ?_
 refine CW.regionQ (by kernel_rfl) (by kernel_rfl) ?_
 refine WQ.load (dst := some 4) (t := 23) (o := 0) (fun _ hq => hb0_.pure hq) (by kernel_rfl) (.int .u64 c0) (by kernel_rfl) ?_
 refine WQ.val (dst := some 5) (.int .i64 (IntKind.i64.wrap c0)) (fun _ => by kernel_rfl) ?_
 refine WQ.load (dst := some 6) (t := 23) (o := 0) (fun _ hq => hb1_.pure hq) (by kernel_rfl) (.int .u64 c1) (by kernel_rfl) ?_
 refine WQ.load (dst := some 7) (t := 23) (o := 0) (fun _ hq => hb2_.pure hq) (by kernel_rfl) (.int .u64 c2) (by kernel_rfl) ?_
 refine WQ.val (dst := some 8) (.int .u64 ((c1).tmod c2)) (run_rem (kk := .u64) (x := c1) (y := c2) (by kernel_rfl) (by omega)) ?_
 have hm6 := tmod_rng (x := c1) (y := c2) (m := 18446744073709551615) (by omega) (by omega)
 refine WQ.val (dst := some 9) (.int .i64 (sShr .i64 (IntKind.i64.wrap c0) ((c1).tmod c2))) (run_shr (kk := .i64) (k' := .u64) (x := (IntKind.i64.wrap c0)) (y := ((c1).tmod c2)) (by kernel_rfl) (show IU64 ((c1).tmod c2) from (tmod_rng (by omega) (by omega))).1) ?_
 refine WQ.val (dst := some 10) (.int .u64 (IntKind.u64.wrap (sShr .i64 (IntKind.i64.wrap c0) ((c1).tmod c2)))) (fun _ => by kernel_rfl) ?_
 refine WQ.val (dst := some 3) (.int .u64 (IntKind.u64.wrap (sShr .i64 (IntKind.i64.wrap c0) ((c1).tmod c2)))) (fun _ => by kernel_rfl) ?_
 refine WQ.fin (by kernel_rfl) ?_
 intro w7 hc8
 have hz10 := hc8.size
 have hC9 := (Chg.refl [] w).pure hc8
 refine go hK5 ?_
 refine CW.ret ?_
 exact retV (.int .u64 (IntKind.u64.wrap (sShr .i64 (IntKind.i64.wrap c0) ((c1).tmod c2)))) (by kernel_rfl) (⟨hC9, (congrArg (fun r : Int => (.int .u64 r : Value)) hs).symm⟩)

def alu_do_u64_12  (c0 : Int) : Int := c0

theorem alu_do_u64_12_ok  (c0 : Int) (_h_c0 : IU64 c0)  : IU64 (alu_do_u64_12 c0) := by
 rw [alu_do_u64_12.eq_1]
 exact (by exact (show IU64 c0 from (by omega)))

theorem alu_do_u64_12_any  (c0 : Int) (g0_ : Nat)  (w : World) (hb0_ : Blk w g0_ #[.int .u64 c0] 23) (_h_c0 : IU64 c0)  : Calls Try.prog 118 #[pt g0_ 0] w (RetV w (.int .u64 (alu_do_u64_12 c0))) := by
 have hs := alu_do_u64_12.eq_1 c0
 refine calls_of_CW Try.func118 rfl (n := 3) Try.ntmps118 (by kernel_rfl) [0] (F := [(0, pt g0_ 0)]) (by kernel_rfl) ?_
 have hg1 := hb0_.lt
 refine CW.seq fun K2 hK2 => ?_
 refine CW.region ?_
 refine WR.batch 1 [(0, pt g0_ 0)] (by kernel_rfl) ?_
 refine WR.fin (by kernel_rfl) ?_
 refine go hK2 ?_
 refine CW.seq fun K3 hK3 => ?_
 refine CW.region ?_
 refine WR.load (dst := some 2) (t := 23) (o := 0) hb0_ (by kernel_rfl) (.int .u64 c0) (by kernel_rfl) ?_
 refine WR.batch 1 [(1, .int .u64 c0)] (by kernel_rfl) ?_
 refine WR.fin (by kernel_rfl) ?_
 refine go hK3 ?_
 refine CW.ret ?_
 exact retV (.int .u64 c0) (by kernel_rfl) (⟨(Chg.refl _ _), (congrArg (fun r : Int => (.int .u64 r : Value)) hs).symm⟩)

def alu_do_u64_13  (c0 : Int) : Int := (IntKind.u64.wrap (0 - c0))

theorem alu_do_u64_13_ok  (c0 : Int) (_h_c0 : IU64 c0)  : IU64 (alu_do_u64_13 c0) := by
 rw [alu_do_u64_13.eq_1]
 exact (by exact (show IU64 (IntKind.u64.wrap (0 - c0)) from (wrapU64 _)))

theorem alu_do_u64_13_any  (c0 : Int) (g0_ : Nat)  (w : World) (hb0_ : Blk w g0_ #[.int .u64 c0] 23) (_h_c0 : IU64 c0)  : Calls Try.prog 119 #[pt g0_ 0] w (RetV w (.int .u64 (alu_do_u64_13 c0))) := by
 have hs := alu_do_u64_13.eq_1 c0
 refine calls_of_CW Try.func119 rfl (n := 4) Try.ntmps119 (by kernel_rfl) [0] (F := [(0, pt g0_ 0)]) (by kernel_rfl) ?_
 have hg1 := hb0_.lt
 refine CW.seq fun K2 hK2 => ?_
 refine CW.region ?_
 refine WR.batch 1 [(0, pt g0_ 0)] (by kernel_rfl) ?_
 refine WR.fin (by kernel_rfl) ?_
 refine go hK2 ?_
 refine CW.seq fun K3 hK3 => ?_
 refine CW.region ?_
 refine WR.load (dst := some 2) (t := 23) (o := 0) hb0_ (by kernel_rfl) (.int .u64 c0) (by kernel_rfl) ?_
 refine WR.batch 2 [(1, .int .u64 (IntKind.u64.wrap (0 - c0)))] (by kernel_rfl) ?_
 refine WR.fin (by kernel_rfl) ?_
 refine go hK3 ?_
 refine CW.ret ?_
 exact retV (.int .u64 (IntKind.u64.wrap (0 - c0))) (by kernel_rfl) (⟨(Chg.refl _ _), (congrArg (fun r : Int => (.int .u64 r : Value)) hs).symm⟩)

def alu_do_u64 (a0 : Int) (a1 : Int) (a2 : Int) (a3 : Int)  : (Int × Int) := (if (((a0 == (4 : Int)) || (a0 == (5 : Int))) && (a3 == (0 : Int))) then ((0 : Int), (113 : Int)) else (if (a0 == (1 : Int)) then (letF (alu_do_u64_1 a2 a3) fun x129 => (x129, (0 : Int))) else (if (a0 == (2 : Int)) then (letF (alu_do_u64_2 a2 a3) fun x145 => (x145, (0 : Int))) else (if (a0 == (3 : Int)) then (letF (alu_do_u64_3 a2 a3) fun x161 => (x161, (0 : Int))) else (if (a0 == (4 : Int)) then (letF (alu_do_u64_4 a2 a3) fun x177 => (x177, (0 : Int))) else (if (a0 == (5 : Int)) then (letF (alu_do_u64_5 a2 a3) fun x193 => (x193, (0 : Int))) else (if (a0 == (6 : Int)) then (letF (alu_do_u64_6 a2 a3) fun x209 => (x209, (0 : Int))) else (if (a0 == (7 : Int)) then (letF (alu_do_u64_7 a2 a3) fun x225 => (x225, (0 : Int))) else (if (a0 == (8 : Int)) then (letF (alu_do_u64_8 a2 a3) fun x241 => (x241, (0 : Int))) else (if (a0 == (9 : Int)) then (letF (alu_do_u64_9 a2 a3 a1) fun x258 => (x258, (0 : Int))) else (if (a0 == (10 : Int)) then (letF (alu_do_u64_10 a2 a3 a1) fun x275 => (x275, (0 : Int))) else (if (a0 == (11 : Int)) then (letF (alu_do_u64_11 a2 a3 a1) fun x292 => (x292, (0 : Int))) else (if (a0 == (12 : Int)) then (letF (alu_do_u64_12 a3) fun x307 => (x307, (0 : Int))) else (if (a0 == (13 : Int)) then (letF (alu_do_u64_13 a2) fun x322 => (x322, (0 : Int))) else ((0 : Int), (2 : Int))))))))))))))))

theorem alu_do_u64_ok (a0 : Int) (a1 : Int) (a2 : Int) (a3 : Int)  (_h_a0 : IU8 a0) (_h_a1 : IU64 a1) (_h_a2 : IU64 a2) (_h_a3 : IU64 a3) (_hb : a1 = 64) : IU64 (alu_do_u64 a0 a1 a2 a3).1 ∧ II64 (alu_do_u64 a0 a1 a2 a3).2 := by
 rw [alu_do_u64.eq_1]
 refine iteR (p := fun r : (Int × Int) => IU64 r.1 ∧ II64 r.2) (fun hi1001 => ?_) (fun hi1001 => ?_)
 ·
  replace hi1001 : ((a0 = (4 : Int)) ∨ (a0 = (5 : Int))) ∧ (a3 = (0 : Int)) := ⟨(orMap (bOrT (bAndT hi1001).1) (fun h => (bEqT h)) (fun h => (bEqT h))), (bEqT (bAndT hi1001).2)⟩
  exact (by exact (show IU64 (0 : Int) ∧ II64 (113 : Int) from ⟨(by omega), (by omega)⟩))
 replace hi1001 : ((a0 ≠ (4 : Int)) ∧ (a0 ≠ (5 : Int))) ∨ (a3 ≠ (0 : Int)) := (orMap (bAndF hi1001) (fun h => ⟨(bEqF (bOrF h).1), (bEqF (bOrF h).2)⟩) (fun h => (bEqF h)))
 refine iteR (p := fun r : (Int × Int) => IU64 r.1 ∧ II64 r.2) (fun hi1002 => ?_) (fun hi1002 => ?_)
 ·
  replace hi1002 : a0 = (1 : Int) := (bEqT hi1002)
  refine letR (p := fun r : (Int × Int) => IU64 r.1 ∧ II64 r.2) fun x129 hx130 => ?_
  have hx131 : IU64 x129 := by rw [← hx130]; exact alu_do_u64_1_ok a2 a3 (by omega) (by omega) 
  exact (by exact (show IU64 x129 ∧ II64 (0 : Int) from ⟨(by omega), (by omega)⟩))
 replace hi1002 : a0 ≠ (1 : Int) := (bEqF hi1002)
 refine iteR (p := fun r : (Int × Int) => IU64 r.1 ∧ II64 r.2) (fun hi1003 => ?_) (fun hi1003 => ?_)
 ·
  replace hi1003 : a0 = (2 : Int) := (bEqT hi1003)
  refine letR (p := fun r : (Int × Int) => IU64 r.1 ∧ II64 r.2) fun x145 hx146 => ?_
  have hx147 : IU64 x145 := by rw [← hx146]; exact alu_do_u64_2_ok a2 a3 (by omega) (by omega) 
  exact (by exact (show IU64 x145 ∧ II64 (0 : Int) from ⟨(by omega), (by omega)⟩))
 replace hi1003 : a0 ≠ (2 : Int) := (bEqF hi1003)
 refine iteR (p := fun r : (Int × Int) => IU64 r.1 ∧ II64 r.2) (fun hi1004 => ?_) (fun hi1004 => ?_)
 ·
  replace hi1004 : a0 = (3 : Int) := (bEqT hi1004)
  refine letR (p := fun r : (Int × Int) => IU64 r.1 ∧ II64 r.2) fun x161 hx162 => ?_
  have hx163 : IU64 x161 := by rw [← hx162]; exact alu_do_u64_3_ok a2 a3 (by omega) (by omega) 
  exact (by exact (show IU64 x161 ∧ II64 (0 : Int) from ⟨(by omega), (by omega)⟩))
 replace hi1004 : a0 ≠ (3 : Int) := (bEqF hi1004)
 refine iteR (p := fun r : (Int × Int) => IU64 r.1 ∧ II64 r.2) (fun hi1005 => ?_) (fun hi1005 => ?_)
 ·
  replace hi1005 : a0 = (4 : Int) := (bEqT hi1005)
  refine letR (p := fun r : (Int × Int) => IU64 r.1 ∧ II64 r.2) fun x177 hx178 => ?_
  have hx179 : IU64 x177 := by rw [← hx178]; exact alu_do_u64_4_ok a2 a3 (by omega) (by omega) (by omega)
  exact (by exact (show IU64 x177 ∧ II64 (0 : Int) from ⟨(by omega), (by omega)⟩))
 replace hi1005 : a0 ≠ (4 : Int) := (bEqF hi1005)
 refine iteR (p := fun r : (Int × Int) => IU64 r.1 ∧ II64 r.2) (fun hi1006 => ?_) (fun hi1006 => ?_)
 ·
  replace hi1006 : a0 = (5 : Int) := (bEqT hi1006)
  refine letR (p := fun r : (Int × Int) => IU64 r.1 ∧ II64 r.2) fun x193 hx194 => ?_
  have hx195 : IU64 x193 := by rw [← hx194]; exact alu_do_u64_5_ok a2 a3 (by omega) (by omega) (by omega)
  exact (by exact (show IU64 x193 ∧ II64 (0 : Int) from ⟨(by omega), (by omega)⟩))
 replace hi1006 : a0 ≠ (5 : Int) := (bEqF hi1006)
 refine iteR (p := fun r : (Int × Int) => IU64 r.1 ∧ II64 r.2) (fun hi1007 => ?_) (fun hi1007 => ?_)
 ·
  replace hi1007 : a0 = (6 : Int) := (bEqT hi1007)
  refine letR (p := fun r : (Int × Int) => IU64 r.1 ∧ II64 r.2) fun x209 hx210 => ?_
  have hx211 : IU64 x209 := by rw [← hx210]; exact alu_do_u64_6_ok a2 a3 (by omega) (by omega) 
  exact (by exact (show IU64 x209 ∧ II64 (0 : Int) from ⟨(by omega), (by omega)⟩))
 replace hi1007 : a0 ≠ (6 : Int) := (bEqF hi1007)
 refine iteR (p := fun r : (Int × Int) => IU64 r.1 ∧ II64 r.2) (fun hi1008 => ?_) (fun hi1008 => ?_)
 ·
  replace hi1008 : a0 = (7 : Int) := (bEqT hi1008)
  refine letR (p := fun r : (Int × Int) => IU64 r.1 ∧ II64 r.2) fun x225 hx226 => ?_
  have hx227 : IU64 x225 := by rw [← hx226]; exact alu_do_u64_7_ok a2 a3 (by omega) (by omega) 
  exact (by exact (show IU64 x225 ∧ II64 (0 : Int) from ⟨(by omega), (by omega)⟩))
 replace hi1008 : a0 ≠ (7 : Int) := (bEqF hi1008)
 refine iteR (p := fun r : (Int × Int) => IU64 r.1 ∧ II64 r.2) (fun hi1009 => ?_) (fun hi1009 => ?_)
 ·
  replace hi1009 : a0 = (8 : Int) := (bEqT hi1009)
  refine letR (p := fun r : (Int × Int) => IU64 r.1 ∧ II64 r.2) fun x241 hx242 => ?_
  have hx243 : IU64 x241 := by rw [← hx242]; exact alu_do_u64_8_ok a2 a3 (by omega) (by omega) 
  exact (by exact (show IU64 x241 ∧ II64 (0 : Int) from ⟨(by omega), (by omega)⟩))
 replace hi1009 : a0 ≠ (8 : Int) := (bEqF hi1009)
 refine iteR (p := fun r : (Int × Int) => IU64 r.1 ∧ II64 r.2) (fun hi1010 => ?_) (fun hi1010 => ?_)
 ·
  replace hi1010 : a0 = (9 : Int) := (bEqT hi1010)
  refine letR (p := fun r : (Int × Int) => IU64 r.1 ∧ II64 r.2) fun x258 hx259 => ?_
  have hx260 : IU64 x258 := by rw [← hx259]; exact alu_do_u64_9_ok a2 a3 a1 (by omega) (by omega) (by omega) (by omega)
  exact (by exact (show IU64 x258 ∧ II64 (0 : Int) from ⟨(by omega), (by omega)⟩))
 replace hi1010 : a0 ≠ (9 : Int) := (bEqF hi1010)
 refine iteR (p := fun r : (Int × Int) => IU64 r.1 ∧ II64 r.2) (fun hi1011 => ?_) (fun hi1011 => ?_)
 ·
  replace hi1011 : a0 = (10 : Int) := (bEqT hi1011)
  refine letR (p := fun r : (Int × Int) => IU64 r.1 ∧ II64 r.2) fun x275 hx276 => ?_
  have hx277 : IU64 x275 := by rw [← hx276]; exact alu_do_u64_10_ok a2 a3 a1 (by omega) (by omega) (by omega) (by omega)
  exact (by exact (show IU64 x275 ∧ II64 (0 : Int) from ⟨(by omega), (by omega)⟩))
 replace hi1011 : a0 ≠ (10 : Int) := (bEqF hi1011)
 refine iteR (p := fun r : (Int × Int) => IU64 r.1 ∧ II64 r.2) (fun hi1012 => ?_) (fun hi1012 => ?_)
 ·
  replace hi1012 : a0 = (11 : Int) := (bEqT hi1012)
  refine letR (p := fun r : (Int × Int) => IU64 r.1 ∧ II64 r.2) fun x292 hx293 => ?_
  have hx294 : IU64 x292 := by rw [← hx293]; exact alu_do_u64_11_ok a2 a3 a1 (by omega) (by omega) (by omega) (by omega)
  exact (by exact (show IU64 x292 ∧ II64 (0 : Int) from ⟨(by omega), (by omega)⟩))
 replace hi1012 : a0 ≠ (11 : Int) := (bEqF hi1012)
 refine iteR (p := fun r : (Int × Int) => IU64 r.1 ∧ II64 r.2) (fun hi1013 => ?_) (fun hi1013 => ?_)
 ·
  replace hi1013 : a0 = (12 : Int) := (bEqT hi1013)
  refine letR (p := fun r : (Int × Int) => IU64 r.1 ∧ II64 r.2) fun x307 hx308 => ?_
  have hx309 : IU64 x307 := by rw [← hx308]; exact alu_do_u64_12_ok a3 (by omega) 
  exact (by exact (show IU64 x307 ∧ II64 (0 : Int) from ⟨(by omega), (by omega)⟩))
 replace hi1013 : a0 ≠ (12 : Int) := (bEqF hi1013)
 refine iteR (p := fun r : (Int × Int) => IU64 r.1 ∧ II64 r.2) (fun hi1014 => ?_) (fun hi1014 => ?_)
 ·
  replace hi1014 : a0 = (13 : Int) := (bEqT hi1014)
  refine letR (p := fun r : (Int × Int) => IU64 r.1 ∧ II64 r.2) fun x322 hx323 => ?_
  have hx324 : IU64 x322 := by rw [← hx323]; exact alu_do_u64_13_ok a2 (by omega) 
  exact (by exact (show IU64 x322 ∧ II64 (0 : Int) from ⟨(by omega), (by omega)⟩))
 replace hi1014 : a0 ≠ (13 : Int) := (bEqF hi1014)
 exact (by exact (show IU64 (0 : Int) ∧ II64 (2 : Int) from ⟨(by omega), (by omega)⟩))

set_option maxRecDepth 100000 in
set_option maxHeartbeats 4000000 in
theorem alu_do_u64_any (a0 : Int) (a1 : Int) (a2 : Int) (a3 : Int)   (w : World)  (_h_a0 : IU8 a0) (_h_a1 : IU64 a1) (_h_a2 : IU64 a2) (_h_a3 : IU64 a3) (_hb : a1 = 64) : Calls Try.prog 60 #[.int .u8 a0, .int .u64 a1, .int .u64 a2, .int .u64 a3] w (RetV w (.tuple #[.int .u64 (alu_do_u64 a0 a1 a2 a3).1, .int .i64 (alu_do_u64 a0 a1 a2 a3).2])) := by
 have hs := alu_do_u64.eq_1 a0 a1 a2 a3
 refine calls_of_CW Try.func60 rfl (n := 46) Try.ntmps60 (by kernel_rfl) [0, 1, 2, 3] (F := [(0, .int .u8 a0), (1, .int .u64 a1), (2, .int .u64 a2), (3, .int .u64 a3)]) (by kernel_rfl) ?_
 refine CW.seq fun K1 hK1 => ?_
 refine CW.region ?_
 refine WR.box (dst := some 5) (e := 23) (v := .int .u64 a1) (by kernel_rfl) #[.int .u64 a1] (by kernel_rfl) ?_
 intro g2 w3 hN4
 have hf6 : w.heap.size ≤ g2 := hN4.fresh
 have hfr8 := hN4.fresh
 have hc7 := hN4.chg
 have hz10 := hc7.size
 have hC9 := (Chg.refl [] w).pure hc7
 have hb5 := hN4.blk
 have hg11 := hb5.lt
 refine WR.box (dst := some 6) (e := 23) (v := .int .u64 a2) (by kernel_rfl) #[.int .u64 a2] (by kernel_rfl) ?_
 intro g12 w13 hN14
 have hf16 : w.heap.size ≤ g12 := Nat.le_trans hC9.size hN14.fresh
 have hfr18 := hN14.fresh
 have hc17 := hN14.chg
 have hz20 := hc17.size
 have hC19 := hC9.pure hc17
 have hb15 := hN14.blk
 have hg21 := hb15.lt
 refine WR.box (dst := some 7) (e := 23) (v := .int .u64 a3) (by kernel_rfl) #[.int .u64 a3] (by kernel_rfl) ?_
 intro g22 w23 hN24
 have hf26 : w.heap.size ≤ g22 := Nat.le_trans hC19.size hN24.fresh
 have hfr28 := hN24.fresh
 have hc27 := hN24.chg
 have hz30 := hc27.size
 have hC29 := hC19.pure hc27
 have hb25 := hN24.blk
 have hg31 := hb25.lt
 refine WR.batch 2 [(0, .int .u8 a0), (5, pt g2 0), (6, pt g12 0), (7, pt g22 0)] (by kernel_rfl) ?_
 refine WR.fin (by kernel_rfl) ?_
 refine go hK1 ?_
 refine CW.seq fun K32 hK32 => ?_
 refine CW.seq fun K33 hK33 => ?_
 refine CW.region ?_
 refine WR.batch 3 [(0, .int .u8 a0), (5, pt g2 0), (6, pt g12 0), (7, pt g22 0), (14, .bool (a0 == (4 : Int)))] (by kernel_rfl) ?_
 refine WR.batch 3 [(0, .int .u8 a0), (5, pt g2 0), (6, pt g12 0), (7, pt g22 0), (17, .bool ((a0 == (4 : Int)) || (a0 == (5 : Int))))] (by generalize (a0 == (4 : Int)) = b; cases b <;> kernel_rfl) ?_
 refine WR.batch 1 [(0, .int .u8 a0), (5, pt g2 0), (6, pt g12 0), (7, pt g22 0), (18, .bool ((a0 == (4 : Int)) || (a0 == (5 : Int))))] (by kernel_rfl) ?_
 refine WR.mergeW 10 [(0, .int .u8 a0), (5, pt g2 0), (6, pt g12 0), (7, pt g22 0), (21, .bool (((a0 == (4 : Int)) || (a0 == (5 : Int))) && (a3 == (0 : Int))))] (fun w' => Chg [] w23 w') (fun Q' => ?_) ?_
 ·
  cases hg34 : ((a0 == (4 : Int)) || (a0 == (5 : Int)))
  ·
   have hk36 := hg34
   replace hg34 : (a0 ≠ (4 : Int)) ∧ (a0 ≠ (5 : Int)) := ⟨(bEqF (bOrF hg34).1), (bEqF (bOrF hg34).2)⟩
   intro hM35
   refine WR.batch 3 [(0, .int .u8 a0), (5, pt g2 0), (6, pt g12 0), (7, pt g22 0), (21, .bool false)] (by kernel_rfl) ?_
   exact WR.keep [0, 5, 6, 7, 21] (by kernel_rfl) (hM35 _ (Chg.refl [] w23))
  ·
   have hk37 := hg34
   replace hg34 : (a0 = (4 : Int)) ∨ (a0 = (5 : Int)) := (orMap (bOrT hg34) (fun h => (bEqT h)) (fun h => (bEqT h)))
   intro hM35
   refine WR.load (dst := some 19) (t := 23) (o := 0) hb25 (by kernel_rfl) (.int .u64 a3) (by kernel_rfl) ?_
   refine WR.batch 2 [(0, .int .u8 a0), (5, pt g2 0), (6, pt g12 0), (7, pt g22 0), (21, .bool (a3 == (0 : Int)))] (by kernel_rfl) ?_
   exact WR.keep [0, 5, 6, 7, 21] (by kernel_rfl) (hM35 _ (Chg.refl [] w23))
 intro w38 hc39
 have hz41 := hc39.size
 have hC40 := hC29.pure hc39
 refine WR.fin (by kernel_rfl) ?_
 refine go hK33 ?_
 refine CW.cond ((((a0 == (4 : Int)) || (a0 == (5 : Int))) && (a3 == (0 : Int)))) (by kernel_rfl) (fun ht42 => ?_) (fun ht42 => ?_)
 ·
  have hs43 := ifT ht42 hs
  replace ht42 : ((a0 = (4 : Int)) ∨ (a0 = (5 : Int))) ∧ (a3 = (0 : Int)) := ⟨(orMap (bOrT (bAndT ht42).1) (fun h => (bEqT h)) (fun h => (bEqT h))), (bEqT (bAndT ht42).2)⟩
  refine CW.seq fun K44 hK44 => ?_
  refine CW.region ?_
  refine WR.batch 2 [(8, .int .u64 0), (9, .int .i64 113)] (by kernel_rfl) ?_
  refine WR.fin (by kernel_rfl) ?_
  refine go hK44 ?_
  refine CW.ret ?_
  exact retV (.tuple #[.int .u64 0, .int .i64 113]) (by kernel_rfl) (⟨hC40, (congrArg (fun r : (Int × Int) => (.tuple #[.int .u64 r.1, .int .i64 r.2] : Value)) hs43).symm⟩)
 have hs45 := ifF ht42 hs
 replace ht42 : ((a0 ≠ (4 : Int)) ∧ (a0 ≠ (5 : Int))) ∨ (a3 ≠ (0 : Int)) := (orMap (bAndF ht42) (fun h => ⟨(bEqF (bOrF h).1), (bEqF (bOrF h).2)⟩) (fun h => (bEqF h)))
 refine CW.skip ?_
 refine go hK32 ?_
 refine CW.seq fun K46 hK46 => ?_
 refine CW.region ?_
 refine WR.mkMap (dst := some 23) (t := 111) (by kernel_rfl) ?_
 intro g47 w48 hN49
 have hf51 : w.heap.size ≤ g47 := Nat.le_trans hC40.size hN49.fresh
 have hfr53 := hN49.fresh
 have hc52 := hN49.chg
 have hz55 := hc52.size
 have hC54 := hC40.pure hc52
 have hb50 := hN49.blk
 have hg56 := hb50.lt
 refine WR.batch 1 [(0, .int .u8 a0), (5, pt g2 0), (6, pt g12 0), (7, pt g22 0), (23, .map (some g47)), (24, .func (.func 107) #[] #[pt g12 0, pt g22 0])] (by kernel_rfl) ?_
 refine WR.insert (t := 111) (kt := 22) (et := 109) (d := .int .u8) (x := .int .u8 1) (v := .func (.func 107) #[] #[pt g12 0, pt g22 0]) hb50 (by kernel_rfl) (by kernel_rfl) rfl (by kernel_rfl) #[({ key := .int .u8 1, val := .func (.func 107) #[] #[pt g12 0, pt g22 0], born := 0 } : MapEntry)] (by kernel_rfl) ?_
 intro w57 hb58 hc59
 have hz61 := hc59.size
 have hC60 := hC54.step1 hc59 (by omega)
 refine WR.batch 1 [(0, .int .u8 a0), (5, pt g2 0), (6, pt g12 0), (7, pt g22 0), (23, .map (some g47)), (25, .func (.func 108) #[] #[pt g12 0, pt g22 0])] (by kernel_rfl) ?_
 refine WR.insert (t := 111) (kt := 22) (et := 109) (d := .int .u8) (x := .int .u8 2) (v := .func (.func 108) #[] #[pt g12 0, pt g22 0]) hb58 (by kernel_rfl) (by kernel_rfl) rfl (by kernel_rfl) #[({ key := .int .u8 1, val := .func (.func 107) #[] #[pt g12 0, pt g22 0], born := 0 } : MapEntry), ({ key := .int .u8 2, val := .func (.func 108) #[] #[pt g12 0, pt g22 0], born := 1 } : MapEntry)] (by kernel_rfl) ?_
 intro w62 hb63 hc64
 have hz66 := hc64.size
 have hC65 := hC60.step1 hc64 (by omega)
 refine WR.batch 1 [(0, .int .u8 a0), (5, pt g2 0), (6, pt g12 0), (7, pt g22 0), (23, .map (some g47)), (26, .func (.func 109) #[] #[pt g12 0, pt g22 0])] (by kernel_rfl) ?_
 refine WR.insert (t := 111) (kt := 22) (et := 109) (d := .int .u8) (x := .int .u8 3) (v := .func (.func 109) #[] #[pt g12 0, pt g22 0]) hb63 (by kernel_rfl) (by kernel_rfl) rfl (by kernel_rfl) #[({ key := .int .u8 1, val := .func (.func 107) #[] #[pt g12 0, pt g22 0], born := 0 } : MapEntry), ({ key := .int .u8 2, val := .func (.func 108) #[] #[pt g12 0, pt g22 0], born := 1 } : MapEntry), ({ key := .int .u8 3, val := .func (.func 109) #[] #[pt g12 0, pt g22 0], born := 2 } : MapEntry)] (by kernel_rfl) ?_
 intro w67 hb68 hc69
 have hz71 := hc69.size
 have hC70 := hC65.step1 hc69 (by omega)
 refine WR.batch 1 [(0, .int .u8 a0), (5, pt g2 0), (6, pt g12 0), (7, pt g22 0), (23, .map (some g47)), (27, .func (.func 110) #[] #[pt g12 0, pt g22 0])] (by kernel_rfl) ?_
 refine WR.insert (t := 111) (kt := 22) (et := 109) (d := .int .u8) (x := .int .u8 4) (v := .func (.func 110) #[] #[pt g12 0, pt g22 0]) hb68 (by kernel_rfl) (by kernel_rfl) rfl (by kernel_rfl) #[({ key := .int .u8 1, val := .func (.func 107) #[] #[pt g12 0, pt g22 0], born := 0 } : MapEntry), ({ key := .int .u8 2, val := .func (.func 108) #[] #[pt g12 0, pt g22 0], born := 1 } : MapEntry), ({ key := .int .u8 3, val := .func (.func 109) #[] #[pt g12 0, pt g22 0], born := 2 } : MapEntry), ({ key := .int .u8 4, val := .func (.func 110) #[] #[pt g12 0, pt g22 0], born := 3 } : MapEntry)] (by kernel_rfl) ?_
 intro w72 hb73 hc74
 have hz76 := hc74.size
 have hC75 := hC70.step1 hc74 (by omega)
 refine WR.batch 1 [(0, .int .u8 a0), (5, pt g2 0), (6, pt g12 0), (7, pt g22 0), (23, .map (some g47)), (28, .func (.func 111) #[] #[pt g12 0, pt g22 0])] (by kernel_rfl) ?_
 refine WR.insert (t := 111) (kt := 22) (et := 109) (d := .int .u8) (x := .int .u8 5) (v := .func (.func 111) #[] #[pt g12 0, pt g22 0]) hb73 (by kernel_rfl) (by kernel_rfl) rfl (by kernel_rfl) #[({ key := .int .u8 1, val := .func (.func 107) #[] #[pt g12 0, pt g22 0], born := 0 } : MapEntry), ({ key := .int .u8 2, val := .func (.func 108) #[] #[pt g12 0, pt g22 0], born := 1 } : MapEntry), ({ key := .int .u8 3, val := .func (.func 109) #[] #[pt g12 0, pt g22 0], born := 2 } : MapEntry), ({ key := .int .u8 4, val := .func (.func 110) #[] #[pt g12 0, pt g22 0], born := 3 } : MapEntry), ({ key := .int .u8 5, val := .func (.func 111) #[] #[pt g12 0, pt g22 0], born := 4 } : MapEntry)] (by kernel_rfl) ?_
 intro w77 hb78 hc79
 have hz81 := hc79.size
 have hC80 := hC75.step1 hc79 (by omega)
 refine WR.batch 1 [(0, .int .u8 a0), (5, pt g2 0), (6, pt g12 0), (7, pt g22 0), (23, .map (some g47)), (29, .func (.func 112) #[] #[pt g12 0, pt g22 0])] (by kernel_rfl) ?_
 refine WR.insert (t := 111) (kt := 22) (et := 109) (d := .int .u8) (x := .int .u8 6) (v := .func (.func 112) #[] #[pt g12 0, pt g22 0]) hb78 (by kernel_rfl) (by kernel_rfl) rfl (by kernel_rfl) #[({ key := .int .u8 1, val := .func (.func 107) #[] #[pt g12 0, pt g22 0], born := 0 } : MapEntry), ({ key := .int .u8 2, val := .func (.func 108) #[] #[pt g12 0, pt g22 0], born := 1 } : MapEntry), ({ key := .int .u8 3, val := .func (.func 109) #[] #[pt g12 0, pt g22 0], born := 2 } : MapEntry), ({ key := .int .u8 4, val := .func (.func 110) #[] #[pt g12 0, pt g22 0], born := 3 } : MapEntry), ({ key := .int .u8 5, val := .func (.func 111) #[] #[pt g12 0, pt g22 0], born := 4 } : MapEntry), ({ key := .int .u8 6, val := .func (.func 112) #[] #[pt g12 0, pt g22 0], born := 5 } : MapEntry)] (by kernel_rfl) ?_
 intro w82 hb83 hc84
 have hz86 := hc84.size
 have hC85 := hC80.step1 hc84 (by omega)
 refine WR.batch 1 [(0, .int .u8 a0), (5, pt g2 0), (6, pt g12 0), (7, pt g22 0), (23, .map (some g47)), (30, .func (.func 113) #[] #[pt g12 0, pt g22 0])] (by kernel_rfl) ?_
 refine WR.insert (t := 111) (kt := 22) (et := 109) (d := .int .u8) (x := .int .u8 7) (v := .func (.func 113) #[] #[pt g12 0, pt g22 0]) hb83 (by kernel_rfl) (by kernel_rfl) rfl (by kernel_rfl) #[({ key := .int .u8 1, val := .func (.func 107) #[] #[pt g12 0, pt g22 0], born := 0 } : MapEntry), ({ key := .int .u8 2, val := .func (.func 108) #[] #[pt g12 0, pt g22 0], born := 1 } : MapEntry), ({ key := .int .u8 3, val := .func (.func 109) #[] #[pt g12 0, pt g22 0], born := 2 } : MapEntry), ({ key := .int .u8 4, val := .func (.func 110) #[] #[pt g12 0, pt g22 0], born := 3 } : MapEntry), ({ key := .int .u8 5, val := .func (.func 111) #[] #[pt g12 0, pt g22 0], born := 4 } : MapEntry), ({ key := .int .u8 6, val := .func (.func 112) #[] #[pt g12 0, pt g22 0], born := 5 } : MapEntry), ({ key := .int .u8 7, val := .func (.func 113) #[] #[pt g12 0, pt g22 0], born := 6 } : MapEntry)] (by kernel_rfl) ?_
 intro w87 hb88 hc89
 have hz91 := hc89.size
 have hC90 := hC85.step1 hc89 (by omega)
 refine WR.batch 1 [(0, .int .u8 a0), (5, pt g2 0), (6, pt g12 0), (7, pt g22 0), (23, .map (some g47)), (31, .func (.func 114) #[] #[pt g12 0, pt g22 0])] (by kernel_rfl) ?_
 refine WR.insert (t := 111) (kt := 22) (et := 109) (d := .int .u8) (x := .int .u8 8) (v := .func (.func 114) #[] #[pt g12 0, pt g22 0]) hb88 (by kernel_rfl) (by kernel_rfl) rfl (by kernel_rfl) #[({ key := .int .u8 1, val := .func (.func 107) #[] #[pt g12 0, pt g22 0], born := 0 } : MapEntry), ({ key := .int .u8 2, val := .func (.func 108) #[] #[pt g12 0, pt g22 0], born := 1 } : MapEntry), ({ key := .int .u8 3, val := .func (.func 109) #[] #[pt g12 0, pt g22 0], born := 2 } : MapEntry), ({ key := .int .u8 4, val := .func (.func 110) #[] #[pt g12 0, pt g22 0], born := 3 } : MapEntry), ({ key := .int .u8 5, val := .func (.func 111) #[] #[pt g12 0, pt g22 0], born := 4 } : MapEntry), ({ key := .int .u8 6, val := .func (.func 112) #[] #[pt g12 0, pt g22 0], born := 5 } : MapEntry), ({ key := .int .u8 7, val := .func (.func 113) #[] #[pt g12 0, pt g22 0], born := 6 } : MapEntry), ({ key := .int .u8 8, val := .func (.func 114) #[] #[pt g12 0, pt g22 0], born := 7 } : MapEntry)] (by kernel_rfl) ?_
 intro w92 hb93 hc94
 have hz96 := hc94.size
 have hC95 := hC90.step1 hc94 (by omega)
 refine WR.batch 1 [(0, .int .u8 a0), (5, pt g2 0), (6, pt g12 0), (7, pt g22 0), (23, .map (some g47)), (32, .func (.func 115) #[] #[pt g12 0, pt g22 0, pt g2 0])] (by kernel_rfl) ?_
 refine WR.insert (t := 111) (kt := 22) (et := 109) (d := .int .u8) (x := .int .u8 9) (v := .func (.func 115) #[] #[pt g12 0, pt g22 0, pt g2 0]) hb93 (by kernel_rfl) (by kernel_rfl) rfl (by kernel_rfl) #[({ key := .int .u8 1, val := .func (.func 107) #[] #[pt g12 0, pt g22 0], born := 0 } : MapEntry), ({ key := .int .u8 2, val := .func (.func 108) #[] #[pt g12 0, pt g22 0], born := 1 } : MapEntry), ({ key := .int .u8 3, val := .func (.func 109) #[] #[pt g12 0, pt g22 0], born := 2 } : MapEntry), ({ key := .int .u8 4, val := .func (.func 110) #[] #[pt g12 0, pt g22 0], born := 3 } : MapEntry), ({ key := .int .u8 5, val := .func (.func 111) #[] #[pt g12 0, pt g22 0], born := 4 } : MapEntry), ({ key := .int .u8 6, val := .func (.func 112) #[] #[pt g12 0, pt g22 0], born := 5 } : MapEntry), ({ key := .int .u8 7, val := .func (.func 113) #[] #[pt g12 0, pt g22 0], born := 6 } : MapEntry), ({ key := .int .u8 8, val := .func (.func 114) #[] #[pt g12 0, pt g22 0], born := 7 } : MapEntry), ({ key := .int .u8 9, val := .func (.func 115) #[] #[pt g12 0, pt g22 0, pt g2 0], born := 8 } : MapEntry)] (by kernel_rfl) ?_
 intro w97 hb98 hc99
 have hz101 := hc99.size
 have hC100 := hC95.step1 hc99 (by omega)
 refine WR.batch 1 [(0, .int .u8 a0), (5, pt g2 0), (6, pt g12 0), (7, pt g22 0), (23, .map (some g47)), (33, .func (.func 116) #[] #[pt g12 0, pt g22 0, pt g2 0])] (by kernel_rfl) ?_
 refine WR.insert (t := 111) (kt := 22) (et := 109) (d := .int .u8) (x := .int .u8 10) (v := .func (.func 116) #[] #[pt g12 0, pt g22 0, pt g2 0]) hb98 (by kernel_rfl) (by kernel_rfl) rfl (by kernel_rfl) #[({ key := .int .u8 1, val := .func (.func 107) #[] #[pt g12 0, pt g22 0], born := 0 } : MapEntry), ({ key := .int .u8 2, val := .func (.func 108) #[] #[pt g12 0, pt g22 0], born := 1 } : MapEntry), ({ key := .int .u8 3, val := .func (.func 109) #[] #[pt g12 0, pt g22 0], born := 2 } : MapEntry), ({ key := .int .u8 4, val := .func (.func 110) #[] #[pt g12 0, pt g22 0], born := 3 } : MapEntry), ({ key := .int .u8 5, val := .func (.func 111) #[] #[pt g12 0, pt g22 0], born := 4 } : MapEntry), ({ key := .int .u8 6, val := .func (.func 112) #[] #[pt g12 0, pt g22 0], born := 5 } : MapEntry), ({ key := .int .u8 7, val := .func (.func 113) #[] #[pt g12 0, pt g22 0], born := 6 } : MapEntry), ({ key := .int .u8 8, val := .func (.func 114) #[] #[pt g12 0, pt g22 0], born := 7 } : MapEntry), ({ key := .int .u8 9, val := .func (.func 115) #[] #[pt g12 0, pt g22 0, pt g2 0], born := 8 } : MapEntry), ({ key := .int .u8 10, val := .func (.func 116) #[] #[pt g12 0, pt g22 0, pt g2 0], born := 9 } : MapEntry)] (by kernel_rfl) ?_
 intro w102 hb103 hc104
 have hz106 := hc104.size
 have hC105 := hC100.step1 hc104 (by omega)
 refine WR.batch 1 [(0, .int .u8 a0), (6, pt g12 0), (7, pt g22 0), (23, .map (some g47)), (34, .func (.func 117) #[] #[pt g12 0, pt g22 0, pt g2 0])] (by kernel_rfl) ?_
 refine WR.insert (t := 111) (kt := 22) (et := 109) (d := .int .u8) (x := .int .u8 11) (v := .func (.func 117) #[] #[pt g12 0, pt g22 0, pt g2 0]) hb103 (by kernel_rfl) (by kernel_rfl) rfl (by kernel_rfl) #[({ key := .int .u8 1, val := .func (.func 107) #[] #[pt g12 0, pt g22 0], born := 0 } : MapEntry), ({ key := .int .u8 2, val := .func (.func 108) #[] #[pt g12 0, pt g22 0], born := 1 } : MapEntry), ({ key := .int .u8 3, val := .func (.func 109) #[] #[pt g12 0, pt g22 0], born := 2 } : MapEntry), ({ key := .int .u8 4, val := .func (.func 110) #[] #[pt g12 0, pt g22 0], born := 3 } : MapEntry), ({ key := .int .u8 5, val := .func (.func 111) #[] #[pt g12 0, pt g22 0], born := 4 } : MapEntry), ({ key := .int .u8 6, val := .func (.func 112) #[] #[pt g12 0, pt g22 0], born := 5 } : MapEntry), ({ key := .int .u8 7, val := .func (.func 113) #[] #[pt g12 0, pt g22 0], born := 6 } : MapEntry), ({ key := .int .u8 8, val := .func (.func 114) #[] #[pt g12 0, pt g22 0], born := 7 } : MapEntry), ({ key := .int .u8 9, val := .func (.func 115) #[] #[pt g12 0, pt g22 0, pt g2 0], born := 8 } : MapEntry), ({ key := .int .u8 10, val := .func (.func 116) #[] #[pt g12 0, pt g22 0, pt g2 0], born := 9 } : MapEntry), ({ key := .int .u8 11, val := .func (.func 117) #[] #[pt g12 0, pt g22 0, pt g2 0], born := 10 } : MapEntry)] (by kernel_rfl) ?_
 intro w107 hb108 hc109
 have hz111 := hc109.size
 have hC110 := hC105.step1 hc109 (by omega)
 refine WR.batch 1 [(0, .int .u8 a0), (6, pt g12 0), (23, .map (some g47)), (35, .func (.func 118) #[] #[pt g22 0])] (by kernel_rfl) ?_
 refine WR.insert (t := 111) (kt := 22) (et := 109) (d := .int .u8) (x := .int .u8 12) (v := .func (.func 118) #[] #[pt g22 0]) hb108 (by kernel_rfl) (by kernel_rfl) rfl (by kernel_rfl) #[({ key := .int .u8 1, val := .func (.func 107) #[] #[pt g12 0, pt g22 0], born := 0 } : MapEntry), ({ key := .int .u8 2, val := .func (.func 108) #[] #[pt g12 0, pt g22 0], born := 1 } : MapEntry), ({ key := .int .u8 3, val := .func (.func 109) #[] #[pt g12 0, pt g22 0], born := 2 } : MapEntry), ({ key := .int .u8 4, val := .func (.func 110) #[] #[pt g12 0, pt g22 0], born := 3 } : MapEntry), ({ key := .int .u8 5, val := .func (.func 111) #[] #[pt g12 0, pt g22 0], born := 4 } : MapEntry), ({ key := .int .u8 6, val := .func (.func 112) #[] #[pt g12 0, pt g22 0], born := 5 } : MapEntry), ({ key := .int .u8 7, val := .func (.func 113) #[] #[pt g12 0, pt g22 0], born := 6 } : MapEntry), ({ key := .int .u8 8, val := .func (.func 114) #[] #[pt g12 0, pt g22 0], born := 7 } : MapEntry), ({ key := .int .u8 9, val := .func (.func 115) #[] #[pt g12 0, pt g22 0, pt g2 0], born := 8 } : MapEntry), ({ key := .int .u8 10, val := .func (.func 116) #[] #[pt g12 0, pt g22 0, pt g2 0], born := 9 } : MapEntry), ({ key := .int .u8 11, val := .func (.func 117) #[] #[pt g12 0, pt g22 0, pt g2 0], born := 10 } : MapEntry), ({ key := .int .u8 12, val := .func (.func 118) #[] #[pt g22 0], born := 11 } : MapEntry)] (by kernel_rfl) ?_
 intro w112 hb113 hc114
 have hz116 := hc114.size
 have hC115 := hC110.step1 hc114 (by omega)
 refine WR.batch 1 [(0, .int .u8 a0), (23, .map (some g47)), (36, .func (.func 119) #[] #[pt g12 0])] (by kernel_rfl) ?_
 refine WR.insert (t := 111) (kt := 22) (et := 109) (d := .int .u8) (x := .int .u8 13) (v := .func (.func 119) #[] #[pt g12 0]) hb113 (by kernel_rfl) (by kernel_rfl) rfl (by kernel_rfl) #[({ key := .int .u8 1, val := .func (.func 107) #[] #[pt g12 0, pt g22 0], born := 0 } : MapEntry), ({ key := .int .u8 2, val := .func (.func 108) #[] #[pt g12 0, pt g22 0], born := 1 } : MapEntry), ({ key := .int .u8 3, val := .func (.func 109) #[] #[pt g12 0, pt g22 0], born := 2 } : MapEntry), ({ key := .int .u8 4, val := .func (.func 110) #[] #[pt g12 0, pt g22 0], born := 3 } : MapEntry), ({ key := .int .u8 5, val := .func (.func 111) #[] #[pt g12 0, pt g22 0], born := 4 } : MapEntry), ({ key := .int .u8 6, val := .func (.func 112) #[] #[pt g12 0, pt g22 0], born := 5 } : MapEntry), ({ key := .int .u8 7, val := .func (.func 113) #[] #[pt g12 0, pt g22 0], born := 6 } : MapEntry), ({ key := .int .u8 8, val := .func (.func 114) #[] #[pt g12 0, pt g22 0], born := 7 } : MapEntry), ({ key := .int .u8 9, val := .func (.func 115) #[] #[pt g12 0, pt g22 0, pt g2 0], born := 8 } : MapEntry), ({ key := .int .u8 10, val := .func (.func 116) #[] #[pt g12 0, pt g22 0, pt g2 0], born := 9 } : MapEntry), ({ key := .int .u8 11, val := .func (.func 117) #[] #[pt g12 0, pt g22 0, pt g2 0], born := 10 } : MapEntry), ({ key := .int .u8 12, val := .func (.func 118) #[] #[pt g22 0], born := 11 } : MapEntry), ({ key := .int .u8 13, val := .func (.func 119) #[] #[pt g12 0], born := 12 } : MapEntry)] (by kernel_rfl) ?_
 intro w117 hb118 hc119
 have hz121 := hc119.size
 have hC120 := hC115.step1 hc119 (by omega)
 refine WR.batch 2 [(37, .map (some g47)), (38, .int .u8 a0)] (by kernel_rfl) ?_
 rcases Bool.eq_false_or_eq_true (a0 == (1 : Int)) with hq122 | hq122
 ·
  have hs123 := ifT hq122 hs45
  replace hq122 := bEqT hq122
  refine WR.valR (dst := some 39) (v := .tuple #[.func (.func 107) #[] #[pt g12 0, pt g22 0], .bool true]) (w' := w117) (run_lookup (t := 111) (co := true) (kt := 22) (et := 109) (d := .int .u8) (x := .int .u8 a0) (z := .nilFunc) hb118 (by kernel_rfl) (by kernel_rfl) rfl (some (0, .func (.func 107) #[] #[pt g12 0, pt g22 0])) (by rw [hq122]; rfl) (by kernel_rfl) _ (by kernel_rfl)) ?_
  refine WR.batch 5 [(10, .func (.func 107) #[] #[pt g12 0, pt g22 0]), (11, .bool true)] (by kernel_rfl) ?_
  refine WR.fin (by kernel_rfl) ?_
  refine go hK46 ?_
  refine CW.seq fun K124 hK124 => ?_
  refine CW.seq fun K125 hK125 => ?_
  refine CW.region ?_
  refine WR.batch 2 [(10, .func (.func 107) #[] #[pt g12 0, pt g22 0]), (43, .bool false)] (by kernel_rfl) ?_
  refine WR.fin (by kernel_rfl) ?_
  refine go hK125 ?_
  refine CW.no (by kernel_rfl) ?_
  refine CW.skip ?_
  refine go hK124 ?_
  refine CW.seq fun K126 hK126 => ?_
  refine CW.region ?_
  refine WR.batch 1 [(44, .func (.func 107) #[] #[pt g12 0, pt g22 0])] (by kernel_rfl) ?_
  have hb127 := (((((((((((((((hb15.pure hc27).pure hc39).pure hc52).chg1 hc59 (by omega)).chg1 hc64 (by omega)).chg1 hc69 (by omega)).chg1 hc74 (by omega)).chg1 hc79 (by omega)).chg1 hc84 (by omega)).chg1 hc89 (by omega)).chg1 hc94 (by omega)).chg1 hc99 (by omega)).chg1 hc104 (by omega)).chg1 hc109 (by omega)).chg1 hc114 (by omega)).chg1 hc119 (by omega)
  have hb128 := ((((((((((((((hb25.pure hc39).pure hc52).chg1 hc59 (by omega)).chg1 hc64 (by omega)).chg1 hc69 (by omega)).chg1 hc74 (by omega)).chg1 hc79 (by omega)).chg1 hc84 (by omega)).chg1 hc89 (by omega)).chg1 hc94 (by omega)).chg1 hc99 (by omega)).chg1 hc104 (by omega)).chg1 hc109 (by omega)).chg1 hc114 (by omega)).chg1 hc119 (by omega)
  obtain ⟨x129, hx130⟩ : ∃ x, alu_do_u64_1 a2 a3 = x := ⟨_, rfl⟩
  have hs132 := letS hx130 hs123
  have hx131 : IU64 x129 := by rw [← hx130]; exact alu_do_u64_1_ok a2 a3 (by omega) (by omega) 
  refine WR.call (dst := some 45) (by kernel_rfl) (retE (g := (fun r : Int => (.int .u64 r : Value))) hx130 (alu_do_u64_1_any a2 a3 g12 g22 w117 hb127 hb128 (by omega) (by omega) )) ?_
  rintro _ w133 hc134 rfl
  have hz136 := hc134.size
  have hC135 := hC120.pure hc134
  refine WR.batch 2 [(8, .int .u64 x129), (9, .int .i64 0)] (by kernel_rfl) ?_
  refine WR.fin (by kernel_rfl) ?_
  refine go hK126 ?_
  refine CW.ret ?_
  exact retV (.tuple #[.int .u64 x129, .int .i64 0]) (by kernel_rfl) (⟨hC135, (congrArg (fun r : (Int × Int) => (.tuple #[.int .u64 r.1, .int .i64 r.2] : Value)) hs132).symm⟩)
 have hs137 := ifF hq122 hs45
 rcases Bool.eq_false_or_eq_true (a0 == (2 : Int)) with hq138 | hq138
 ·
  have hs139 := ifT hq138 hs137
  replace hq138 := bEqT hq138
  refine WR.valR (dst := some 39) (v := .tuple #[.func (.func 108) #[] #[pt g12 0, pt g22 0], .bool true]) (w' := w117) (run_lookup (t := 111) (co := true) (kt := 22) (et := 109) (d := .int .u8) (x := .int .u8 a0) (z := .nilFunc) hb118 (by kernel_rfl) (by kernel_rfl) rfl (some (1, .func (.func 108) #[] #[pt g12 0, pt g22 0])) (by rw [hq138]; rfl) (by kernel_rfl) _ (by kernel_rfl)) ?_
  refine WR.batch 5 [(10, .func (.func 108) #[] #[pt g12 0, pt g22 0]), (11, .bool true)] (by kernel_rfl) ?_
  refine WR.fin (by kernel_rfl) ?_
  refine go hK46 ?_
  refine CW.seq fun K140 hK140 => ?_
  refine CW.seq fun K141 hK141 => ?_
  refine CW.region ?_
  refine WR.batch 2 [(10, .func (.func 108) #[] #[pt g12 0, pt g22 0]), (43, .bool false)] (by kernel_rfl) ?_
  refine WR.fin (by kernel_rfl) ?_
  refine go hK141 ?_
  refine CW.no (by kernel_rfl) ?_
  refine CW.skip ?_
  refine go hK140 ?_
  refine CW.seq fun K142 hK142 => ?_
  refine CW.region ?_
  refine WR.batch 1 [(44, .func (.func 108) #[] #[pt g12 0, pt g22 0])] (by kernel_rfl) ?_
  have hb143 := (((((((((((((((hb15.pure hc27).pure hc39).pure hc52).chg1 hc59 (by omega)).chg1 hc64 (by omega)).chg1 hc69 (by omega)).chg1 hc74 (by omega)).chg1 hc79 (by omega)).chg1 hc84 (by omega)).chg1 hc89 (by omega)).chg1 hc94 (by omega)).chg1 hc99 (by omega)).chg1 hc104 (by omega)).chg1 hc109 (by omega)).chg1 hc114 (by omega)).chg1 hc119 (by omega)
  have hb144 := ((((((((((((((hb25.pure hc39).pure hc52).chg1 hc59 (by omega)).chg1 hc64 (by omega)).chg1 hc69 (by omega)).chg1 hc74 (by omega)).chg1 hc79 (by omega)).chg1 hc84 (by omega)).chg1 hc89 (by omega)).chg1 hc94 (by omega)).chg1 hc99 (by omega)).chg1 hc104 (by omega)).chg1 hc109 (by omega)).chg1 hc114 (by omega)).chg1 hc119 (by omega)
  obtain ⟨x145, hx146⟩ : ∃ x, alu_do_u64_2 a2 a3 = x := ⟨_, rfl⟩
  have hs148 := letS hx146 hs139
  have hx147 : IU64 x145 := by rw [← hx146]; exact alu_do_u64_2_ok a2 a3 (by omega) (by omega) 
  refine WR.call (dst := some 45) (by kernel_rfl) (retE (g := (fun r : Int => (.int .u64 r : Value))) hx146 (alu_do_u64_2_any a2 a3 g12 g22 w117 hb143 hb144 (by omega) (by omega) )) ?_
  rintro _ w149 hc150 rfl
  have hz152 := hc150.size
  have hC151 := hC120.pure hc150
  refine WR.batch 2 [(8, .int .u64 x145), (9, .int .i64 0)] (by kernel_rfl) ?_
  refine WR.fin (by kernel_rfl) ?_
  refine go hK142 ?_
  refine CW.ret ?_
  exact retV (.tuple #[.int .u64 x145, .int .i64 0]) (by kernel_rfl) (⟨hC151, (congrArg (fun r : (Int × Int) => (.tuple #[.int .u64 r.1, .int .i64 r.2] : Value)) hs148).symm⟩)
 have hs153 := ifF hq138 hs137
 rcases Bool.eq_false_or_eq_true (a0 == (3 : Int)) with hq154 | hq154
 ·
  have hs155 := ifT hq154 hs153
  replace hq154 := bEqT hq154
  refine WR.valR (dst := some 39) (v := .tuple #[.func (.func 109) #[] #[pt g12 0, pt g22 0], .bool true]) (w' := w117) (run_lookup (t := 111) (co := true) (kt := 22) (et := 109) (d := .int .u8) (x := .int .u8 a0) (z := .nilFunc) hb118 (by kernel_rfl) (by kernel_rfl) rfl (some (2, .func (.func 109) #[] #[pt g12 0, pt g22 0])) (by rw [hq154]; rfl) (by kernel_rfl) _ (by kernel_rfl)) ?_
  refine WR.batch 5 [(10, .func (.func 109) #[] #[pt g12 0, pt g22 0]), (11, .bool true)] (by kernel_rfl) ?_
  refine WR.fin (by kernel_rfl) ?_
  refine go hK46 ?_
  refine CW.seq fun K156 hK156 => ?_
  refine CW.seq fun K157 hK157 => ?_
  refine CW.region ?_
  refine WR.batch 2 [(10, .func (.func 109) #[] #[pt g12 0, pt g22 0]), (43, .bool false)] (by kernel_rfl) ?_
  refine WR.fin (by kernel_rfl) ?_
  refine go hK157 ?_
  refine CW.no (by kernel_rfl) ?_
  refine CW.skip ?_
  refine go hK156 ?_
  refine CW.seq fun K158 hK158 => ?_
  refine CW.region ?_
  refine WR.batch 1 [(44, .func (.func 109) #[] #[pt g12 0, pt g22 0])] (by kernel_rfl) ?_
  have hb159 := (((((((((((((((hb15.pure hc27).pure hc39).pure hc52).chg1 hc59 (by omega)).chg1 hc64 (by omega)).chg1 hc69 (by omega)).chg1 hc74 (by omega)).chg1 hc79 (by omega)).chg1 hc84 (by omega)).chg1 hc89 (by omega)).chg1 hc94 (by omega)).chg1 hc99 (by omega)).chg1 hc104 (by omega)).chg1 hc109 (by omega)).chg1 hc114 (by omega)).chg1 hc119 (by omega)
  have hb160 := ((((((((((((((hb25.pure hc39).pure hc52).chg1 hc59 (by omega)).chg1 hc64 (by omega)).chg1 hc69 (by omega)).chg1 hc74 (by omega)).chg1 hc79 (by omega)).chg1 hc84 (by omega)).chg1 hc89 (by omega)).chg1 hc94 (by omega)).chg1 hc99 (by omega)).chg1 hc104 (by omega)).chg1 hc109 (by omega)).chg1 hc114 (by omega)).chg1 hc119 (by omega)
  obtain ⟨x161, hx162⟩ : ∃ x, alu_do_u64_3 a2 a3 = x := ⟨_, rfl⟩
  have hs164 := letS hx162 hs155
  have hx163 : IU64 x161 := by rw [← hx162]; exact alu_do_u64_3_ok a2 a3 (by omega) (by omega) 
  refine WR.call (dst := some 45) (by kernel_rfl) (retE (g := (fun r : Int => (.int .u64 r : Value))) hx162 (alu_do_u64_3_any a2 a3 g12 g22 w117 hb159 hb160 (by omega) (by omega) )) ?_
  rintro _ w165 hc166 rfl
  have hz168 := hc166.size
  have hC167 := hC120.pure hc166
  refine WR.batch 2 [(8, .int .u64 x161), (9, .int .i64 0)] (by kernel_rfl) ?_
  refine WR.fin (by kernel_rfl) ?_
  refine go hK158 ?_
  refine CW.ret ?_
  exact retV (.tuple #[.int .u64 x161, .int .i64 0]) (by kernel_rfl) (⟨hC167, (congrArg (fun r : (Int × Int) => (.tuple #[.int .u64 r.1, .int .i64 r.2] : Value)) hs164).symm⟩)
 have hs169 := ifF hq154 hs153
 rcases Bool.eq_false_or_eq_true (a0 == (4 : Int)) with hq170 | hq170
 ·
  have hs171 := ifT hq170 hs169
  replace hq170 := bEqT hq170
  refine WR.valR (dst := some 39) (v := .tuple #[.func (.func 110) #[] #[pt g12 0, pt g22 0], .bool true]) (w' := w117) (run_lookup (t := 111) (co := true) (kt := 22) (et := 109) (d := .int .u8) (x := .int .u8 a0) (z := .nilFunc) hb118 (by kernel_rfl) (by kernel_rfl) rfl (some (3, .func (.func 110) #[] #[pt g12 0, pt g22 0])) (by rw [hq170]; rfl) (by kernel_rfl) _ (by kernel_rfl)) ?_
  refine WR.batch 5 [(10, .func (.func 110) #[] #[pt g12 0, pt g22 0]), (11, .bool true)] (by kernel_rfl) ?_
  refine WR.fin (by kernel_rfl) ?_
  refine go hK46 ?_
  refine CW.seq fun K172 hK172 => ?_
  refine CW.seq fun K173 hK173 => ?_
  refine CW.region ?_
  refine WR.batch 2 [(10, .func (.func 110) #[] #[pt g12 0, pt g22 0]), (43, .bool false)] (by kernel_rfl) ?_
  refine WR.fin (by kernel_rfl) ?_
  refine go hK173 ?_
  refine CW.no (by kernel_rfl) ?_
  refine CW.skip ?_
  refine go hK172 ?_
  refine CW.seq fun K174 hK174 => ?_
  refine CW.region ?_
  refine WR.batch 1 [(44, .func (.func 110) #[] #[pt g12 0, pt g22 0])] (by kernel_rfl) ?_
  have hb175 := (((((((((((((((hb15.pure hc27).pure hc39).pure hc52).chg1 hc59 (by omega)).chg1 hc64 (by omega)).chg1 hc69 (by omega)).chg1 hc74 (by omega)).chg1 hc79 (by omega)).chg1 hc84 (by omega)).chg1 hc89 (by omega)).chg1 hc94 (by omega)).chg1 hc99 (by omega)).chg1 hc104 (by omega)).chg1 hc109 (by omega)).chg1 hc114 (by omega)).chg1 hc119 (by omega)
  have hb176 := ((((((((((((((hb25.pure hc39).pure hc52).chg1 hc59 (by omega)).chg1 hc64 (by omega)).chg1 hc69 (by omega)).chg1 hc74 (by omega)).chg1 hc79 (by omega)).chg1 hc84 (by omega)).chg1 hc89 (by omega)).chg1 hc94 (by omega)).chg1 hc99 (by omega)).chg1 hc104 (by omega)).chg1 hc109 (by omega)).chg1 hc114 (by omega)).chg1 hc119 (by omega)
  obtain ⟨x177, hx178⟩ : ∃ x, alu_do_u64_4 a2 a3 = x := ⟨_, rfl⟩
  have hs180 := letS hx178 hs171
  have hx179 : IU64 x177 := by rw [← hx178]; exact alu_do_u64_4_ok a2 a3 (by omega) (by omega) (by omega)
  refine WR.call (dst := some 45) (by kernel_rfl) (retE (g := (fun r : Int => (.int .u64 r : Value))) hx178 (alu_do_u64_4_any a2 a3 g12 g22 w117 hb175 hb176 (by omega) (by omega) (by omega))) ?_
  rintro _ w181 hc182 rfl
  have hz184 := hc182.size
  have hC183 := hC120.pure hc182
  refine WR.batch 2 [(8, .int .u64 x177), (9, .int .i64 0)] (by kernel_rfl) ?_
  refine WR.fin (by kernel_rfl) ?_
  refine go hK174 ?_
  refine CW.ret ?_
  exact retV (.tuple #[.int .u64 x177, .int .i64 0]) (by kernel_rfl) (⟨hC183, (congrArg (fun r : (Int × Int) => (.tuple #[.int .u64 r.1, .int .i64 r.2] : Value)) hs180).symm⟩)
 have hs185 := ifF hq170 hs169
 rcases Bool.eq_false_or_eq_true (a0 == (5 : Int)) with hq186 | hq186
 ·
  have hs187 := ifT hq186 hs185
  replace hq186 := bEqT hq186
  refine WR.valR (dst := some 39) (v := .tuple #[.func (.func 111) #[] #[pt g12 0, pt g22 0], .bool true]) (w' := w117) (run_lookup (t := 111) (co := true) (kt := 22) (et := 109) (d := .int .u8) (x := .int .u8 a0) (z := .nilFunc) hb118 (by kernel_rfl) (by kernel_rfl) rfl (some (4, .func (.func 111) #[] #[pt g12 0, pt g22 0])) (by rw [hq186]; rfl) (by kernel_rfl) _ (by kernel_rfl)) ?_
  refine WR.batch 5 [(10, .func (.func 111) #[] #[pt g12 0, pt g22 0]), (11, .bool true)] (by kernel_rfl) ?_
  refine WR.fin (by kernel_rfl) ?_
  refine go hK46 ?_
  refine CW.seq fun K188 hK188 => ?_
  refine CW.seq fun K189 hK189 => ?_
  refine CW.region ?_
  refine WR.batch 2 [(10, .func (.func 111) #[] #[pt g12 0, pt g22 0]), (43, .bool false)] (by kernel_rfl) ?_
  refine WR.fin (by kernel_rfl) ?_
  refine go hK189 ?_
  refine CW.no (by kernel_rfl) ?_
  refine CW.skip ?_
  refine go hK188 ?_
  refine CW.seq fun K190 hK190 => ?_
  refine CW.region ?_
  refine WR.batch 1 [(44, .func (.func 111) #[] #[pt g12 0, pt g22 0])] (by kernel_rfl) ?_
  have hb191 := (((((((((((((((hb15.pure hc27).pure hc39).pure hc52).chg1 hc59 (by omega)).chg1 hc64 (by omega)).chg1 hc69 (by omega)).chg1 hc74 (by omega)).chg1 hc79 (by omega)).chg1 hc84 (by omega)).chg1 hc89 (by omega)).chg1 hc94 (by omega)).chg1 hc99 (by omega)).chg1 hc104 (by omega)).chg1 hc109 (by omega)).chg1 hc114 (by omega)).chg1 hc119 (by omega)
  have hb192 := ((((((((((((((hb25.pure hc39).pure hc52).chg1 hc59 (by omega)).chg1 hc64 (by omega)).chg1 hc69 (by omega)).chg1 hc74 (by omega)).chg1 hc79 (by omega)).chg1 hc84 (by omega)).chg1 hc89 (by omega)).chg1 hc94 (by omega)).chg1 hc99 (by omega)).chg1 hc104 (by omega)).chg1 hc109 (by omega)).chg1 hc114 (by omega)).chg1 hc119 (by omega)
  obtain ⟨x193, hx194⟩ : ∃ x, alu_do_u64_5 a2 a3 = x := ⟨_, rfl⟩
  have hs196 := letS hx194 hs187
  have hx195 : IU64 x193 := by rw [← hx194]; exact alu_do_u64_5_ok a2 a3 (by omega) (by omega) (by omega)
  refine WR.call (dst := some 45) (by kernel_rfl) (retE (g := (fun r : Int => (.int .u64 r : Value))) hx194 (alu_do_u64_5_any a2 a3 g12 g22 w117 hb191 hb192 (by omega) (by omega) (by omega))) ?_
  rintro _ w197 hc198 rfl
  have hz200 := hc198.size
  have hC199 := hC120.pure hc198
  refine WR.batch 2 [(8, .int .u64 x193), (9, .int .i64 0)] (by kernel_rfl) ?_
  refine WR.fin (by kernel_rfl) ?_
  refine go hK190 ?_
  refine CW.ret ?_
  exact retV (.tuple #[.int .u64 x193, .int .i64 0]) (by kernel_rfl) (⟨hC199, (congrArg (fun r : (Int × Int) => (.tuple #[.int .u64 r.1, .int .i64 r.2] : Value)) hs196).symm⟩)
 have hs201 := ifF hq186 hs185
 rcases Bool.eq_false_or_eq_true (a0 == (6 : Int)) with hq202 | hq202
 ·
  have hs203 := ifT hq202 hs201
  replace hq202 := bEqT hq202
  refine WR.valR (dst := some 39) (v := .tuple #[.func (.func 112) #[] #[pt g12 0, pt g22 0], .bool true]) (w' := w117) (run_lookup (t := 111) (co := true) (kt := 22) (et := 109) (d := .int .u8) (x := .int .u8 a0) (z := .nilFunc) hb118 (by kernel_rfl) (by kernel_rfl) rfl (some (5, .func (.func 112) #[] #[pt g12 0, pt g22 0])) (by rw [hq202]; rfl) (by kernel_rfl) _ (by kernel_rfl)) ?_
  refine WR.batch 5 [(10, .func (.func 112) #[] #[pt g12 0, pt g22 0]), (11, .bool true)] (by kernel_rfl) ?_
  refine WR.fin (by kernel_rfl) ?_
  refine go hK46 ?_
  refine CW.seq fun K204 hK204 => ?_
  refine CW.seq fun K205 hK205 => ?_
  refine CW.region ?_
  refine WR.batch 2 [(10, .func (.func 112) #[] #[pt g12 0, pt g22 0]), (43, .bool false)] (by kernel_rfl) ?_
  refine WR.fin (by kernel_rfl) ?_
  refine go hK205 ?_
  refine CW.no (by kernel_rfl) ?_
  refine CW.skip ?_
  refine go hK204 ?_
  refine CW.seq fun K206 hK206 => ?_
  refine CW.region ?_
  refine WR.batch 1 [(44, .func (.func 112) #[] #[pt g12 0, pt g22 0])] (by kernel_rfl) ?_
  have hb207 := (((((((((((((((hb15.pure hc27).pure hc39).pure hc52).chg1 hc59 (by omega)).chg1 hc64 (by omega)).chg1 hc69 (by omega)).chg1 hc74 (by omega)).chg1 hc79 (by omega)).chg1 hc84 (by omega)).chg1 hc89 (by omega)).chg1 hc94 (by omega)).chg1 hc99 (by omega)).chg1 hc104 (by omega)).chg1 hc109 (by omega)).chg1 hc114 (by omega)).chg1 hc119 (by omega)
  have hb208 := ((((((((((((((hb25.pure hc39).pure hc52).chg1 hc59 (by omega)).chg1 hc64 (by omega)).chg1 hc69 (by omega)).chg1 hc74 (by omega)).chg1 hc79 (by omega)).chg1 hc84 (by omega)).chg1 hc89 (by omega)).chg1 hc94 (by omega)).chg1 hc99 (by omega)).chg1 hc104 (by omega)).chg1 hc109 (by omega)).chg1 hc114 (by omega)).chg1 hc119 (by omega)
  obtain ⟨x209, hx210⟩ : ∃ x, alu_do_u64_6 a2 a3 = x := ⟨_, rfl⟩
  have hs212 := letS hx210 hs203
  have hx211 : IU64 x209 := by rw [← hx210]; exact alu_do_u64_6_ok a2 a3 (by omega) (by omega) 
  refine WR.call (dst := some 45) (by kernel_rfl) (retE (g := (fun r : Int => (.int .u64 r : Value))) hx210 (alu_do_u64_6_any a2 a3 g12 g22 w117 hb207 hb208 (by omega) (by omega) )) ?_
  rintro _ w213 hc214 rfl
  have hz216 := hc214.size
  have hC215 := hC120.pure hc214
  refine WR.batch 2 [(8, .int .u64 x209), (9, .int .i64 0)] (by kernel_rfl) ?_
  refine WR.fin (by kernel_rfl) ?_
  refine go hK206 ?_
  refine CW.ret ?_
  exact retV (.tuple #[.int .u64 x209, .int .i64 0]) (by kernel_rfl) (⟨hC215, (congrArg (fun r : (Int × Int) => (.tuple #[.int .u64 r.1, .int .i64 r.2] : Value)) hs212).symm⟩)
 have hs217 := ifF hq202 hs201
 rcases Bool.eq_false_or_eq_true (a0 == (7 : Int)) with hq218 | hq218
 ·
  have hs219 := ifT hq218 hs217
  replace hq218 := bEqT hq218
  refine WR.valR (dst := some 39) (v := .tuple #[.func (.func 113) #[] #[pt g12 0, pt g22 0], .bool true]) (w' := w117) (run_lookup (t := 111) (co := true) (kt := 22) (et := 109) (d := .int .u8) (x := .int .u8 a0) (z := .nilFunc) hb118 (by kernel_rfl) (by kernel_rfl) rfl (some (6, .func (.func 113) #[] #[pt g12 0, pt g22 0])) (by rw [hq218]; rfl) (by kernel_rfl) _ (by kernel_rfl)) ?_
  refine WR.batch 5 [(10, .func (.func 113) #[] #[pt g12 0, pt g22 0]), (11, .bool true)] (by kernel_rfl) ?_
  refine WR.fin (by kernel_rfl) ?_
  refine go hK46 ?_
  refine CW.seq fun K220 hK220 => ?_
  refine CW.seq fun K221 hK221 => ?_
  refine CW.region ?_
  refine WR.batch 2 [(10, .func (.func 113) #[] #[pt g12 0, pt g22 0]), (43, .bool false)] (by kernel_rfl) ?_
  refine WR.fin (by kernel_rfl) ?_
  refine go hK221 ?_
  refine CW.no (by kernel_rfl) ?_
  refine CW.skip ?_
  refine go hK220 ?_
  refine CW.seq fun K222 hK222 => ?_
  refine CW.region ?_
  refine WR.batch 1 [(44, .func (.func 113) #[] #[pt g12 0, pt g22 0])] (by kernel_rfl) ?_
  have hb223 := (((((((((((((((hb15.pure hc27).pure hc39).pure hc52).chg1 hc59 (by omega)).chg1 hc64 (by omega)).chg1 hc69 (by omega)).chg1 hc74 (by omega)).chg1 hc79 (by omega)).chg1 hc84 (by omega)).chg1 hc89 (by omega)).chg1 hc94 (by omega)).chg1 hc99 (by omega)).chg1 hc104 (by omega)).chg1 hc109 (by omega)).chg1 hc114 (by omega)).chg1 hc119 (by omega)
  have hb224 := ((((((((((((((hb25.pure hc39).pure hc52).chg1 hc59 (by omega)).chg1 hc64 (by omega)).chg1 hc69 (by omega)).chg1 hc74 (by omega)).chg1 hc79 (by omega)).chg1 hc84 (by omega)).chg1 hc89 (by omega)).chg1 hc94 (by omega)).chg1 hc99 (by omega)).chg1 hc104 (by omega)).chg1 hc109 (by omega)).chg1 hc114 (by omega)).chg1 hc119 (by omega)
  obtain ⟨x225, hx226⟩ : ∃ x, alu_do_u64_7 a2 a3 = x := ⟨_, rfl⟩
  have hs228 := letS hx226 hs219
  have hx227 : IU64 x225 := by rw [← hx226]; exact alu_do_u64_7_ok a2 a3 (by omega) (by omega) 
  refine WR.call (dst := some 45) (by kernel_rfl) (retE (g := (fun r : Int => (.int .u64 r : Value))) hx226 (alu_do_u64_7_any a2 a3 g12 g22 w117 hb223 hb224 (by omega) (by omega) )) ?_
  rintro _ w229 hc230 rfl
  have hz232 := hc230.size
  have hC231 := hC120.pure hc230
  refine WR.batch 2 [(8, .int .u64 x225), (9, .int .i64 0)] (by kernel_rfl) ?_
  refine WR.fin (by kernel_rfl) ?_
  refine go hK222 ?_
  refine CW.ret ?_
  exact retV (.tuple #[.int .u64 x225, .int .i64 0]) (by kernel_rfl) (⟨hC231, (congrArg (fun r : (Int × Int) => (.tuple #[.int .u64 r.1, .int .i64 r.2] : Value)) hs228).symm⟩)
 have hs233 := ifF hq218 hs217
 rcases Bool.eq_false_or_eq_true (a0 == (8 : Int)) with hq234 | hq234
 ·
  have hs235 := ifT hq234 hs233
  replace hq234 := bEqT hq234
  refine WR.valR (dst := some 39) (v := .tuple #[.func (.func 114) #[] #[pt g12 0, pt g22 0], .bool true]) (w' := w117) (run_lookup (t := 111) (co := true) (kt := 22) (et := 109) (d := .int .u8) (x := .int .u8 a0) (z := .nilFunc) hb118 (by kernel_rfl) (by kernel_rfl) rfl (some (7, .func (.func 114) #[] #[pt g12 0, pt g22 0])) (by rw [hq234]; rfl) (by kernel_rfl) _ (by kernel_rfl)) ?_
  refine WR.batch 5 [(10, .func (.func 114) #[] #[pt g12 0, pt g22 0]), (11, .bool true)] (by kernel_rfl) ?_
  refine WR.fin (by kernel_rfl) ?_
  refine go hK46 ?_
  refine CW.seq fun K236 hK236 => ?_
  refine CW.seq fun K237 hK237 => ?_
  refine CW.region ?_
  refine WR.batch 2 [(10, .func (.func 114) #[] #[pt g12 0, pt g22 0]), (43, .bool false)] (by kernel_rfl) ?_
  refine WR.fin (by kernel_rfl) ?_
  refine go hK237 ?_
  refine CW.no (by kernel_rfl) ?_
  refine CW.skip ?_
  refine go hK236 ?_
  refine CW.seq fun K238 hK238 => ?_
  refine CW.region ?_
  refine WR.batch 1 [(44, .func (.func 114) #[] #[pt g12 0, pt g22 0])] (by kernel_rfl) ?_
  have hb239 := (((((((((((((((hb15.pure hc27).pure hc39).pure hc52).chg1 hc59 (by omega)).chg1 hc64 (by omega)).chg1 hc69 (by omega)).chg1 hc74 (by omega)).chg1 hc79 (by omega)).chg1 hc84 (by omega)).chg1 hc89 (by omega)).chg1 hc94 (by omega)).chg1 hc99 (by omega)).chg1 hc104 (by omega)).chg1 hc109 (by omega)).chg1 hc114 (by omega)).chg1 hc119 (by omega)
  have hb240 := ((((((((((((((hb25.pure hc39).pure hc52).chg1 hc59 (by omega)).chg1 hc64 (by omega)).chg1 hc69 (by omega)).chg1 hc74 (by omega)).chg1 hc79 (by omega)).chg1 hc84 (by omega)).chg1 hc89 (by omega)).chg1 hc94 (by omega)).chg1 hc99 (by omega)).chg1 hc104 (by omega)).chg1 hc109 (by omega)).chg1 hc114 (by omega)).chg1 hc119 (by omega)
  obtain ⟨x241, hx242⟩ : ∃ x, alu_do_u64_8 a2 a3 = x := ⟨_, rfl⟩
  have hs244 := letS hx242 hs235
  have hx243 : IU64 x241 := by rw [← hx242]; exact alu_do_u64_8_ok a2 a3 (by omega) (by omega) 
  refine WR.call (dst := some 45) (by kernel_rfl) (retE (g := (fun r : Int => (.int .u64 r : Value))) hx242 (alu_do_u64_8_any a2 a3 g12 g22 w117 hb239 hb240 (by omega) (by omega) )) ?_
  rintro _ w245 hc246 rfl
  have hz248 := hc246.size
  have hC247 := hC120.pure hc246
  refine WR.batch 2 [(8, .int .u64 x241), (9, .int .i64 0)] (by kernel_rfl) ?_
  refine WR.fin (by kernel_rfl) ?_
  refine go hK238 ?_
  refine CW.ret ?_
  exact retV (.tuple #[.int .u64 x241, .int .i64 0]) (by kernel_rfl) (⟨hC247, (congrArg (fun r : (Int × Int) => (.tuple #[.int .u64 r.1, .int .i64 r.2] : Value)) hs244).symm⟩)
 have hs249 := ifF hq234 hs233
 rcases Bool.eq_false_or_eq_true (a0 == (9 : Int)) with hq250 | hq250
 ·
  have hs251 := ifT hq250 hs249
  replace hq250 := bEqT hq250
  refine WR.valR (dst := some 39) (v := .tuple #[.func (.func 115) #[] #[pt g12 0, pt g22 0, pt g2 0], .bool true]) (w' := w117) (run_lookup (t := 111) (co := true) (kt := 22) (et := 109) (d := .int .u8) (x := .int .u8 a0) (z := .nilFunc) hb118 (by kernel_rfl) (by kernel_rfl) rfl (some (8, .func (.func 115) #[] #[pt g12 0, pt g22 0, pt g2 0])) (by rw [hq250]; rfl) (by kernel_rfl) _ (by kernel_rfl)) ?_
  refine WR.batch 5 [(10, .func (.func 115) #[] #[pt g12 0, pt g22 0, pt g2 0]), (11, .bool true)] (by kernel_rfl) ?_
  refine WR.fin (by kernel_rfl) ?_
  refine go hK46 ?_
  refine CW.seq fun K252 hK252 => ?_
  refine CW.seq fun K253 hK253 => ?_
  refine CW.region ?_
  refine WR.batch 2 [(10, .func (.func 115) #[] #[pt g12 0, pt g22 0, pt g2 0]), (43, .bool false)] (by kernel_rfl) ?_
  refine WR.fin (by kernel_rfl) ?_
  refine go hK253 ?_
  refine CW.no (by kernel_rfl) ?_
  refine CW.skip ?_
  refine go hK252 ?_
  refine CW.seq fun K254 hK254 => ?_
  refine CW.region ?_
  refine WR.batch 1 [(44, .func (.func 115) #[] #[pt g12 0, pt g22 0, pt g2 0])] (by kernel_rfl) ?_
  have hb255 := (((((((((((((((hb15.pure hc27).pure hc39).pure hc52).chg1 hc59 (by omega)).chg1 hc64 (by omega)).chg1 hc69 (by omega)).chg1 hc74 (by omega)).chg1 hc79 (by omega)).chg1 hc84 (by omega)).chg1 hc89 (by omega)).chg1 hc94 (by omega)).chg1 hc99 (by omega)).chg1 hc104 (by omega)).chg1 hc109 (by omega)).chg1 hc114 (by omega)).chg1 hc119 (by omega)
  have hb256 := ((((((((((((((hb25.pure hc39).pure hc52).chg1 hc59 (by omega)).chg1 hc64 (by omega)).chg1 hc69 (by omega)).chg1 hc74 (by omega)).chg1 hc79 (by omega)).chg1 hc84 (by omega)).chg1 hc89 (by omega)).chg1 hc94 (by omega)).chg1 hc99 (by omega)).chg1 hc104 (by omega)).chg1 hc109 (by omega)).chg1 hc114 (by omega)).chg1 hc119 (by omega)
  have hb257 := ((((((((((((((((hb5.pure hc17).pure hc27).pure hc39).pure hc52).chg1 hc59 (by omega)).chg1 hc64 (by omega)).chg1 hc69 (by omega)).chg1 hc74 (by omega)).chg1 hc79 (by omega)).chg1 hc84 (by omega)).chg1 hc89 (by omega)).chg1 hc94 (by omega)).chg1 hc99 (by omega)).chg1 hc104 (by omega)).chg1 hc109 (by omega)).chg1 hc114 (by omega)).chg1 hc119 (by omega)
  obtain ⟨x258, hx259⟩ : ∃ x, alu_do_u64_9 a2 a3 a1 = x := ⟨_, rfl⟩
  have hs261 := letS hx259 hs251
  have hx260 : IU64 x258 := by rw [← hx259]; exact alu_do_u64_9_ok a2 a3 a1 (by omega) (by omega) (by omega) (by omega)
  refine WR.call (dst := some 45) (by kernel_rfl) (retE (g := (fun r : Int => (.int .u64 r : Value))) hx259 (alu_do_u64_9_any a2 a3 a1 g12 g22 g2 w117 hb255 hb256 hb257 (by omega) (by omega) (by omega) (by omega))) ?_
  rintro _ w262 hc263 rfl
  have hz265 := hc263.size
  have hC264 := hC120.pure hc263
  refine WR.batch 2 [(8, .int .u64 x258), (9, .int .i64 0)] (by kernel_rfl) ?_
  refine WR.fin (by kernel_rfl) ?_
  refine go hK254 ?_
  refine CW.ret ?_
  exact retV (.tuple #[.int .u64 x258, .int .i64 0]) (by kernel_rfl) (⟨hC264, (congrArg (fun r : (Int × Int) => (.tuple #[.int .u64 r.1, .int .i64 r.2] : Value)) hs261).symm⟩)
 have hs266 := ifF hq250 hs249
 rcases Bool.eq_false_or_eq_true (a0 == (10 : Int)) with hq267 | hq267
 ·
  have hs268 := ifT hq267 hs266
  replace hq267 := bEqT hq267
  refine WR.valR (dst := some 39) (v := .tuple #[.func (.func 116) #[] #[pt g12 0, pt g22 0, pt g2 0], .bool true]) (w' := w117) (run_lookup (t := 111) (co := true) (kt := 22) (et := 109) (d := .int .u8) (x := .int .u8 a0) (z := .nilFunc) hb118 (by kernel_rfl) (by kernel_rfl) rfl (some (9, .func (.func 116) #[] #[pt g12 0, pt g22 0, pt g2 0])) (by rw [hq267]; rfl) (by kernel_rfl) _ (by kernel_rfl)) ?_
  refine WR.batch 5 [(10, .func (.func 116) #[] #[pt g12 0, pt g22 0, pt g2 0]), (11, .bool true)] (by kernel_rfl) ?_
  refine WR.fin (by kernel_rfl) ?_
  refine go hK46 ?_
  refine CW.seq fun K269 hK269 => ?_
  refine CW.seq fun K270 hK270 => ?_
  refine CW.region ?_
  refine WR.batch 2 [(10, .func (.func 116) #[] #[pt g12 0, pt g22 0, pt g2 0]), (43, .bool false)] (by kernel_rfl) ?_
  refine WR.fin (by kernel_rfl) ?_
  refine go hK270 ?_
  refine CW.no (by kernel_rfl) ?_
  refine CW.skip ?_
  refine go hK269 ?_
  refine CW.seq fun K271 hK271 => ?_
  refine CW.region ?_
  refine WR.batch 1 [(44, .func (.func 116) #[] #[pt g12 0, pt g22 0, pt g2 0])] (by kernel_rfl) ?_
  have hb272 := (((((((((((((((hb15.pure hc27).pure hc39).pure hc52).chg1 hc59 (by omega)).chg1 hc64 (by omega)).chg1 hc69 (by omega)).chg1 hc74 (by omega)).chg1 hc79 (by omega)).chg1 hc84 (by omega)).chg1 hc89 (by omega)).chg1 hc94 (by omega)).chg1 hc99 (by omega)).chg1 hc104 (by omega)).chg1 hc109 (by omega)).chg1 hc114 (by omega)).chg1 hc119 (by omega)
  have hb273 := ((((((((((((((hb25.pure hc39).pure hc52).chg1 hc59 (by omega)).chg1 hc64 (by omega)).chg1 hc69 (by omega)).chg1 hc74 (by omega)).chg1 hc79 (by omega)).chg1 hc84 (by omega)).chg1 hc89 (by omega)).chg1 hc94 (by omega)).chg1 hc99 (by omega)).chg1 hc104 (by omega)).chg1 hc109 (by omega)).chg1 hc114 (by omega)).chg1 hc119 (by omega)
  have hb274 := ((((((((((((((((hb5.pure hc17).pure hc27).pure hc39).pure hc52).chg1 hc59 (by omega)).chg1 hc64 (by omega)).chg1 hc69 (by omega)).chg1 hc74 (by omega)).chg1 hc79 (by omega)).chg1 hc84 (by omega)).chg1 hc89 (by omega)).chg1 hc94 (by omega)).chg1 hc99 (by omega)).chg1 hc104 (by omega)).chg1 hc109 (by omega)).chg1 hc114 (by omega)).chg1 hc119 (by omega)
  obtain ⟨x275, hx276⟩ : ∃ x, alu_do_u64_10 a2 a3 a1 = x := ⟨_, rfl⟩
  have hs278 := letS hx276 hs268
  have hx277 : IU64 x275 := by rw [← hx276]; exact alu_do_u64_10_ok a2 a3 a1 (by omega) (by omega) (by omega) (by omega)
  refine WR.call (dst := some 45) (by kernel_rfl) (retE (g := (fun r : Int => (.int .u64 r : Value))) hx276 (alu_do_u64_10_any a2 a3 a1 g12 g22 g2 w117 hb272 hb273 hb274 (by omega) (by omega) (by omega) (by omega))) ?_
  rintro _ w279 hc280 rfl
  have hz282 := hc280.size
  have hC281 := hC120.pure hc280
  refine WR.batch 2 [(8, .int .u64 x275), (9, .int .i64 0)] (by kernel_rfl) ?_
  refine WR.fin (by kernel_rfl) ?_
  refine go hK271 ?_
  refine CW.ret ?_
  exact retV (.tuple #[.int .u64 x275, .int .i64 0]) (by kernel_rfl) (⟨hC281, (congrArg (fun r : (Int × Int) => (.tuple #[.int .u64 r.1, .int .i64 r.2] : Value)) hs278).symm⟩)
 have hs283 := ifF hq267 hs266
 rcases Bool.eq_false_or_eq_true (a0 == (11 : Int)) with hq284 | hq284
 ·
  have hs285 := ifT hq284 hs283
  replace hq284 := bEqT hq284
  refine WR.valR (dst := some 39) (v := .tuple #[.func (.func 117) #[] #[pt g12 0, pt g22 0, pt g2 0], .bool true]) (w' := w117) (run_lookup (t := 111) (co := true) (kt := 22) (et := 109) (d := .int .u8) (x := .int .u8 a0) (z := .nilFunc) hb118 (by kernel_rfl) (by kernel_rfl) rfl (some (10, .func (.func 117) #[] #[pt g12 0, pt g22 0, pt g2 0])) (by rw [hq284]; rfl) (by kernel_rfl) _ (by kernel_rfl)) ?_
  refine WR.batch 5 [(10, .func (.func 117) #[] #[pt g12 0, pt g22 0, pt g2 0]), (11, .bool true)] (by kernel_rfl) ?_
  refine WR.fin (by kernel_rfl) ?_
  refine go hK46 ?_
  refine CW.seq fun K286 hK286 => ?_
  refine CW.seq fun K287 hK287 => ?_
  refine CW.region ?_
  refine WR.batch 2 [(10, .func (.func 117) #[] #[pt g12 0, pt g22 0, pt g2 0]), (43, .bool false)] (by kernel_rfl) ?_
  refine WR.fin (by kernel_rfl) ?_
  refine go hK287 ?_
  refine CW.no (by kernel_rfl) ?_
  refine CW.skip ?_
  refine go hK286 ?_
  refine CW.seq fun K288 hK288 => ?_
  refine CW.region ?_
  refine WR.batch 1 [(44, .func (.func 117) #[] #[pt g12 0, pt g22 0, pt g2 0])] (by kernel_rfl) ?_
  have hb289 := (((((((((((((((hb15.pure hc27).pure hc39).pure hc52).chg1 hc59 (by omega)).chg1 hc64 (by omega)).chg1 hc69 (by omega)).chg1 hc74 (by omega)).chg1 hc79 (by omega)).chg1 hc84 (by omega)).chg1 hc89 (by omega)).chg1 hc94 (by omega)).chg1 hc99 (by omega)).chg1 hc104 (by omega)).chg1 hc109 (by omega)).chg1 hc114 (by omega)).chg1 hc119 (by omega)
  have hb290 := ((((((((((((((hb25.pure hc39).pure hc52).chg1 hc59 (by omega)).chg1 hc64 (by omega)).chg1 hc69 (by omega)).chg1 hc74 (by omega)).chg1 hc79 (by omega)).chg1 hc84 (by omega)).chg1 hc89 (by omega)).chg1 hc94 (by omega)).chg1 hc99 (by omega)).chg1 hc104 (by omega)).chg1 hc109 (by omega)).chg1 hc114 (by omega)).chg1 hc119 (by omega)
  have hb291 := ((((((((((((((((hb5.pure hc17).pure hc27).pure hc39).pure hc52).chg1 hc59 (by omega)).chg1 hc64 (by omega)).chg1 hc69 (by omega)).chg1 hc74 (by omega)).chg1 hc79 (by omega)).chg1 hc84 (by omega)).chg1 hc89 (by omega)).chg1 hc94 (by omega)).chg1 hc99 (by omega)).chg1 hc104 (by omega)).chg1 hc109 (by omega)).chg1 hc114 (by omega)).chg1 hc119 (by omega)
  obtain ⟨x292, hx293⟩ : ∃ x, alu_do_u64_11 a2 a3 a1 = x := ⟨_, rfl⟩
  have hs295 := letS hx293 hs285
  have hx294 : IU64 x292 := by rw [← hx293]; exact alu_do_u64_11_ok a2 a3 a1 (by omega) (by omega) (by omega) (by omega)
  refine WR.call (dst := some 45) (by kernel_rfl) (retE (g := (fun r : Int => (.int .u64 r : Value))) hx293 (alu_do_u64_11_any a2 a3 a1 g12 g22 g2 w117 hb289 hb290 hb291 (by omega) (by omega) (by omega) (by omega))) ?_
  rintro _ w296 hc297 rfl
  have hz299 := hc297.size
  have hC298 := hC120.pure hc297
  refine WR.batch 2 [(8, .int .u64 x292), (9, .int .i64 0)] (by kernel_rfl) ?_
  refine WR.fin (by kernel_rfl) ?_
  refine go hK288 ?_
  refine CW.ret ?_
  exact retV (.tuple #[.int .u64 x292, .int .i64 0]) (by kernel_rfl) (⟨hC298, (congrArg (fun r : (Int × Int) => (.tuple #[.int .u64 r.1, .int .i64 r.2] : Value)) hs295).symm⟩)
 have hs300 := ifF hq284 hs283
 rcases Bool.eq_false_or_eq_true (a0 == (12 : Int)) with hq301 | hq301
 ·
  have hs302 := ifT hq301 hs300
  replace hq301 := bEqT hq301
  refine WR.valR (dst := some 39) (v := .tuple #[.func (.func 118) #[] #[pt g22 0], .bool true]) (w' := w117) (run_lookup (t := 111) (co := true) (kt := 22) (et := 109) (d := .int .u8) (x := .int .u8 a0) (z := .nilFunc) hb118 (by kernel_rfl) (by kernel_rfl) rfl (some (11, .func (.func 118) #[] #[pt g22 0])) (by rw [hq301]; rfl) (by kernel_rfl) _ (by kernel_rfl)) ?_
  refine WR.batch 5 [(10, .func (.func 118) #[] #[pt g22 0]), (11, .bool true)] (by kernel_rfl) ?_
  refine WR.fin (by kernel_rfl) ?_
  refine go hK46 ?_
  refine CW.seq fun K303 hK303 => ?_
  refine CW.seq fun K304 hK304 => ?_
  refine CW.region ?_
  refine WR.batch 2 [(10, .func (.func 118) #[] #[pt g22 0]), (43, .bool false)] (by kernel_rfl) ?_
  refine WR.fin (by kernel_rfl) ?_
  refine go hK304 ?_
  refine CW.no (by kernel_rfl) ?_
  refine CW.skip ?_
  refine go hK303 ?_
  refine CW.seq fun K305 hK305 => ?_
  refine CW.region ?_
  refine WR.batch 1 [(44, .func (.func 118) #[] #[pt g22 0])] (by kernel_rfl) ?_
  have hb306 := ((((((((((((((hb25.pure hc39).pure hc52).chg1 hc59 (by omega)).chg1 hc64 (by omega)).chg1 hc69 (by omega)).chg1 hc74 (by omega)).chg1 hc79 (by omega)).chg1 hc84 (by omega)).chg1 hc89 (by omega)).chg1 hc94 (by omega)).chg1 hc99 (by omega)).chg1 hc104 (by omega)).chg1 hc109 (by omega)).chg1 hc114 (by omega)).chg1 hc119 (by omega)
  obtain ⟨x307, hx308⟩ : ∃ x, alu_do_u64_12 a3 = x := ⟨_, rfl⟩
  have hs310 := letS hx308 hs302
  have hx309 : IU64 x307 := by rw [← hx308]; exact alu_do_u64_12_ok a3 (by omega) 
  refine WR.call (dst := some 45) (by kernel_rfl) (retE (g := (fun r : Int => (.int .u64 r : Value))) hx308 (alu_do_u64_12_any a3 g22 w117 hb306 (by omega) )) ?_
  rintro _ w311 hc312 rfl
  have hz314 := hc312.size
  have hC313 := hC120.pure hc312
  refine WR.batch 2 [(8, .int .u64 x307), (9, .int .i64 0)] (by kernel_rfl) ?_
  refine WR.fin (by kernel_rfl) ?_
  refine go hK305 ?_
  refine CW.ret ?_
  exact retV (.tuple #[.int .u64 x307, .int .i64 0]) (by kernel_rfl) (⟨hC313, (congrArg (fun r : (Int × Int) => (.tuple #[.int .u64 r.1, .int .i64 r.2] : Value)) hs310).symm⟩)
 have hs315 := ifF hq301 hs300
 rcases Bool.eq_false_or_eq_true (a0 == (13 : Int)) with hq316 | hq316
 ·
  have hs317 := ifT hq316 hs315
  replace hq316 := bEqT hq316
  refine WR.valR (dst := some 39) (v := .tuple #[.func (.func 119) #[] #[pt g12 0], .bool true]) (w' := w117) (run_lookup (t := 111) (co := true) (kt := 22) (et := 109) (d := .int .u8) (x := .int .u8 a0) (z := .nilFunc) hb118 (by kernel_rfl) (by kernel_rfl) rfl (some (12, .func (.func 119) #[] #[pt g12 0])) (by rw [hq316]; rfl) (by kernel_rfl) _ (by kernel_rfl)) ?_
  refine WR.batch 5 [(10, .func (.func 119) #[] #[pt g12 0]), (11, .bool true)] (by kernel_rfl) ?_
  refine WR.fin (by kernel_rfl) ?_
  refine go hK46 ?_
  refine CW.seq fun K318 hK318 => ?_
  refine CW.seq fun K319 hK319 => ?_
  refine CW.region ?_
  refine WR.batch 2 [(10, .func (.func 119) #[] #[pt g12 0]), (43, .bool false)] (by kernel_rfl) ?_
  refine WR.fin (by kernel_rfl) ?_
  refine go hK319 ?_
  refine CW.no (by kernel_rfl) ?_
  refine CW.skip ?_
  refine go hK318 ?_
  refine CW.seq fun K320 hK320 => ?_
  refine CW.region ?_
  refine WR.batch 1 [(44, .func (.func 119) #[] #[pt g12 0])] (by kernel_rfl) ?_
  have hb321 := (((((((((((((((hb15.pure hc27).pure hc39).pure hc52).chg1 hc59 (by omega)).chg1 hc64 (by omega)).chg1 hc69 (by omega)).chg1 hc74 (by omega)).chg1 hc79 (by omega)).chg1 hc84 (by omega)).chg1 hc89 (by omega)).chg1 hc94 (by omega)).chg1 hc99 (by omega)).chg1 hc104 (by omega)).chg1 hc109 (by omega)).chg1 hc114 (by omega)).chg1 hc119 (by omega)
  obtain ⟨x322, hx323⟩ : ∃ x, alu_do_u64_13 a2 = x := ⟨_, rfl⟩
  have hs325 := letS hx323 hs317
  have hx324 : IU64 x322 := by rw [← hx323]; exact alu_do_u64_13_ok a2 (by omega) 
  refine WR.call (dst := some 45) (by kernel_rfl) (retE (g := (fun r : Int => (.int .u64 r : Value))) hx323 (alu_do_u64_13_any a2 g12 w117 hb321 (by omega) )) ?_
  rintro _ w326 hc327 rfl
  have hz329 := hc327.size
  have hC328 := hC120.pure hc327
  refine WR.batch 2 [(8, .int .u64 x322), (9, .int .i64 0)] (by kernel_rfl) ?_
  refine WR.fin (by kernel_rfl) ?_
  refine go hK320 ?_
  refine CW.ret ?_
  exact retV (.tuple #[.int .u64 x322, .int .i64 0]) (by kernel_rfl) (⟨hC328, (congrArg (fun r : (Int × Int) => (.tuple #[.int .u64 r.1, .int .i64 r.2] : Value)) hs325).symm⟩)
 have hs330 := ifF hq316 hs315
 refine WR.valR (dst := some 39) (v := .tuple #[.nilFunc, .bool false]) (w' := w117) (run_lookup (t := 111) (co := true) (kt := 22) (et := 109) (d := .int .u8) (x := .int .u8 a0) (z := .nilFunc) hb118 (by kernel_rfl) (by kernel_rfl) rfl (none) (by exact findNow_no _ _ _ _ (by simp only [keysNe, hq122, hq138, hq154, hq170, hq186, hq202, hq218, hq234, hq250, hq267, hq284, hq301, hq316]; rfl)) (by kernel_rfl) _ (by kernel_rfl)) ?_
 refine WR.batch 5 [(10, .nilFunc), (11, .bool false)] (by kernel_rfl) ?_
 refine WR.fin (by kernel_rfl) ?_
 refine go hK46 ?_
 refine CW.seq fun K331 hK331 => ?_
 refine CW.seq fun K332 hK332 => ?_
 refine CW.region ?_
 refine WR.batch 2 [(10, .nilFunc), (43, .bool true)] (by kernel_rfl) ?_
 refine WR.fin (by kernel_rfl) ?_
 refine go hK332 ?_
 refine CW.yes (by kernel_rfl) ?_
 refine CW.seq fun K333 hK333 => ?_
 refine CW.region ?_
 refine WR.batch 2 [(8, .int .u64 0), (9, .int .i64 2)] (by kernel_rfl) ?_
 refine WR.fin (by kernel_rfl) ?_
 refine go hK333 ?_
 refine CW.ret ?_
 exact retV (.tuple #[.int .u64 0, .int .i64 2]) (by kernel_rfl) (⟨hC120, (congrArg (fun r : (Int × Int) => (.tuple #[.int .u64 r.1, .int .i64 r.2] : Value)) hs330).symm⟩)

def alu_Do (a0 : Int) (a1 : Bool) (a2 : Int) (a3 : Int)  : (Int × Int) := (if a1 then (letF (alu_do_u32 a0 (32 : Int) (IntKind.u32.wrap a2) (IntKind.u32.wrap a3)) fun x7 => ((x7.1), x7.2)) else (letF (alu_do_u64 a0 (64 : Int) a2 a3) fun x19 => (x19.1, x19.2)))

theorem alu_Do_ok (a0 : Int) (a1 : Bool) (a2 : Int) (a3 : Int)  (_h_a0 : IU8 a0) (_h_a2 : IU64 a2) (_h_a3 : IU64 a3)  : IU64 (alu_Do a0 a1 a2 a3).1 ∧ II64 (alu_Do a0 a1 a2 a3).2 := by
 rw [alu_Do.eq_1]
 refine iteR (p := fun r : (Int × Int) => IU64 r.1 ∧ II64 r.2) (fun hi1001 => ?_) (fun hi1001 => ?_)
 ·
  refine letR (p := fun r : (Int × Int) => IU64 r.1 ∧ II64 r.2) fun x7 hx8 => ?_
  have hx9 : IU32 x7.1 ∧ II64 x7.2 := by rw [← hx8]; exact alu_do_u32_ok a0 (32 : Int) (IntKind.u32.wrap a2) (IntKind.u32.wrap a3) (by omega) (by omega) (wrapU32 _) (wrapU32 _) rfl
  exact (by exact (show IU64 (x7.1) ∧ II64 x7.2 from ⟨(by omega), (by omega)⟩))
 refine letR (p := fun r : (Int × Int) => IU64 r.1 ∧ II64 r.2) fun x19 hx20 => ?_
 have hx21 : IU64 x19.1 ∧ II64 x19.2 := by rw [← hx20]; exact alu_do_u64_ok a0 (64 : Int) a2 a3 (by omega) (by omega) (by omega) (by omega) rfl
 exact (by exact (show IU64 x19.1 ∧ II64 x19.2 from ⟨(by omega), (by omega)⟩))

theorem alu_Do_any (a0 : Int) (a1 : Bool) (a2 : Int) (a3 : Int)   (w : World)  (_h_a0 : IU8 a0) (_h_a2 : IU64 a2) (_h_a3 : IU64 a3)  : Calls Try.prog 35 #[.int .u8 a0, .bool a1, .int .u64 a2, .int .u64 a3] w (RetV w (.tuple #[.int .u64 (alu_Do a0 a1 a2 a3).1, .int .i64 (alu_Do a0 a1 a2 a3).2])) := by
 have hs := alu_Do.eq_1 a0 a1 a2 a3
 refine calls_of_CW Try.func35 rfl (n := 31) Try.ntmps35 (by kernel_rfl) [0, 1, 2, 3] (F := [(0, .int .u8 a0), (1, .bool a1), (2, .int .u64 a2), (3, .int .u64 a3)]) (by kernel_rfl) ?_
 refine CW.seq fun K1 hK1 => ?_
 refine CW.region ?_
 refine WR.batch 2 [(0, .int .u8 a0), (1, .bool a1), (2, .int .u64 a2), (3, .int .u64 a3)] (by kernel_rfl) ?_
 refine WR.fin (by kernel_rfl) ?_
 refine go hK1 ?_
 refine CW.seq fun K2 hK2 => ?_
 refine CW.seq fun K3 hK3 => ?_
 refine CW.region ?_
 refine WR.batch 1 [(0, .int .u8 a0), (2, .int .u64 a2), (3, .int .u64 a3), (12, .bool a1)] (by kernel_rfl) ?_
 refine WR.fin (by kernel_rfl) ?_
 refine go hK3 ?_
 refine CW.cond (a1) (by kernel_rfl) (fun ht4 => ?_) (fun ht4 => ?_)
 ·
  have hs5 := ifT ht4 hs
  refine CW.seq fun K6 hK6 => ?_
  refine CW.region ?_
  refine WR.batch 5 [(14, .int .u8 a0), (16, .int .u32 (IntKind.u32.wrap a2)), (18, .int .u32 (IntKind.u32.wrap a3))] (by kernel_rfl) ?_
  obtain ⟨x7, hx8⟩ : ∃ x, alu_do_u32 a0 (32 : Int) (IntKind.u32.wrap a2) (IntKind.u32.wrap a3) = x := ⟨_, rfl⟩
  have hs10 := letS hx8 hs5
  have hx9 : IU32 x7.1 ∧ II64 x7.2 := by rw [← hx8]; exact alu_do_u32_ok a0 (32 : Int) (IntKind.u32.wrap a2) (IntKind.u32.wrap a3) (by omega) (by omega) (wrapU32 _) (wrapU32 _) rfl
  refine WR.call (dst := some 19) (by kernel_rfl) (retE (g := (fun r : (Int × Int) => (.tuple #[.int .u32 r.1, .int .i64 r.2] : Value))) hx8 (alu_do_u32_any a0 (32 : Int) (IntKind.u32.wrap a2) (IntKind.u32.wrap a3) w  (by omega) (by omega) (wrapU32 _) (wrapU32 _) rfl)) ?_
  rintro _ w11 hc12 rfl
  have hz14 := hc12.size
  have hC13 := (Chg.refl [] w).pure hc12
  refine WR.batch 5 [(10, .int .u32 x7.1), (11, .int .i64 x7.2)] (by kernel_rfl) ?_
  refine WR.fin (by kernel_rfl) ?_
  refine go hK6 ?_
  refine CW.seq fun K15 hK15 => ?_
  refine CW.region ?_
  refine WR.batch 2 [(11, .int .i64 x7.2), (23, .int .u64 (IntKind.u64.wrap (x7.1)))] (by kernel_rfl) ?_
  have hw16 : IntKind.u64.wrap (x7.1) = (x7.1) := IntWalk.u64_in _ (by omega)
  refine WR.eqF (F' := [(11, .int .i64 x7.2), (23, .int .u64 (x7.1))]) (by rw [hw16]) ?_
  refine WR.batch 3 [(8, .int .u64 (x7.1)), (9, .int .i64 x7.2)] (by kernel_rfl) ?_
  refine WR.fin (by kernel_rfl) ?_
  refine go hK15 ?_
  refine CW.ret ?_
  exact retV (.tuple #[.int .u64 (x7.1), .int .i64 x7.2]) (by kernel_rfl) (⟨hC13, (congrArg (fun r : (Int × Int) => (.tuple #[.int .u64 r.1, .int .i64 r.2] : Value)) hs10).symm⟩)
 have hs17 := ifF ht4 hs
 refine CW.skip ?_
 refine go hK2 ?_
 refine CW.seq fun K18 hK18 => ?_
 refine CW.region ?_
 refine WR.batch 3 [(25, .int .u8 a0), (26, .int .u64 a2), (27, .int .u64 a3)] (by kernel_rfl) ?_
 obtain ⟨x19, hx20⟩ : ∃ x, alu_do_u64 a0 (64 : Int) a2 a3 = x := ⟨_, rfl⟩
 have hs22 := letS hx20 hs17
 have hx21 : IU64 x19.1 ∧ II64 x19.2 := by rw [← hx20]; exact alu_do_u64_ok a0 (64 : Int) a2 a3 (by omega) (by omega) (by omega) (by omega) rfl
 refine WR.call (dst := some 28) (by kernel_rfl) (retE (g := (fun r : (Int × Int) => (.tuple #[.int .u64 r.1, .int .i64 r.2] : Value))) hx20 (alu_do_u64_any a0 (64 : Int) a2 a3 w  (by omega) (by omega) (by omega) (by omega) rfl)) ?_
 rintro _ w23 hc24 rfl
 have hz26 := hc24.size
 have hC25 := (Chg.refl [] w).pure hc24
 refine WR.batch 4 [(8, .int .u64 x19.1), (9, .int .i64 x19.2)] (by kernel_rfl) ?_
 refine WR.fin (by kernel_rfl) ?_
 refine go hK18 ?_
 refine CW.ret ?_
 exact retV (.tuple #[.int .u64 x19.1, .int .i64 x19.2]) (by kernel_rfl) (⟨hC25, (congrArg (fun r : (Int × Int) => (.tuple #[.int .u64 r.1, .int .i64 r.2] : Value)) hs22).symm⟩)
end Go.V
