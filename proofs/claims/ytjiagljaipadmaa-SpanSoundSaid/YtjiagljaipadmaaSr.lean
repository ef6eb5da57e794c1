import Derived.Test.YtjiagljaipadmaaProg
import Derived.Test.YtjiagljaipadmaaAl
namespace Go.V
open Go.RowKit Go.Proofs
def span_without_J0 (a0 : TSpan) (a1 : TSpan) (_x35 : Bool) (v100 : Int) : TSpan := (if (a0.Hi == a1.Lo) then (⟨v100, (IntKind.u64.wrap (a0.Hi - (1 : Int)))⟩ : TSpan) else (⟨v100, a0.Hi⟩ : TSpan))

def span_without (a0 : TSpan) (a1 : TSpan)  : TSpan := (letF (span_one a0) fun x35 => (if (x35 || (!(span_one a1))) then a0 else (if (a0.Lo == a1.Lo) then (span_without_J0 a0 a1 x35 (IntKind.u64.wrap (a0.Lo + (1 : Int)))) else (span_without_J0 a0 a1 x35 a0.Lo))))

theorem span_without_J0_ok (a0 : TSpan) (a1 : TSpan) (x35 : Bool) (_h_a0 : IU64 a0.Lo ∧ IU64 a0.Hi) (_h_a1 : IU64 a1.Lo ∧ IU64 a1.Hi)  (v100 : Int) (_hr_v100 : IU64 v100) : IU64 (span_without_J0 a0 a1 x35 v100).Lo ∧ IU64 (span_without_J0 a0 a1 x35 v100).Hi := by
 rw [span_without_J0.eq_1]
 refine iteR (p := fun r : TSpan => IU64 r.Lo ∧ IU64 r.Hi) (fun hi1001 => ?_) (fun hi1001 => ?_)
 ·
  replace hi1001 : a0.Hi = a1.Lo := (bEqT hi1001)
  exact (by exact (show IU64 v100 ∧ IU64 (IntKind.u64.wrap (a0.Hi - (1 : Int))) from ⟨(by omega), (wrapU64 _)⟩))
 replace hi1001 : a0.Hi ≠ a1.Lo := (bEqF hi1001)
 exact (by exact (show IU64 v100 ∧ IU64 a0.Hi from ⟨(by omega), (by omega)⟩))

theorem span_without_ok (a0 : TSpan) (a1 : TSpan)  (h_a0 : IU64 a0.Lo ∧ IU64 a0.Hi) (h_a1 : IU64 a1.Lo ∧ IU64 a1.Hi)  : IU64 (span_without a0 a1).Lo ∧ IU64 (span_without a0 a1).Hi := by
 rw [span_without.eq_1]
 refine letR (p := fun r : TSpan => IU64 r.Lo ∧ IU64 r.Hi) fun x35 _ => ?_
 refine iteR (p := fun r : TSpan => IU64 r.Lo ∧ IU64 r.Hi) (fun hi1002 => ?_) (fun hi1002 => ?_)
 ·
  replace hi1002 : (x35 = true) ∨ ((span_one a1) = false) := (orMap (bOrT hi1002) (fun h => h) (fun h => (bNotT h)))
  exact (by exact (show IU64 a0.Lo ∧ IU64 a0.Hi from ⟨(by omega), (by omega)⟩))
 replace hi1002 : (x35 = false) ∧ ((span_one a1) = true) := ⟨(bOrF hi1002).1, (bNotF (bOrF hi1002).2)⟩
 refine iteR (p := fun r : TSpan => IU64 r.Lo ∧ IU64 r.Hi) (fun hi1003 => ?_) (fun hi1003 => ?_)
 ·
  replace hi1003 : a0.Lo = a1.Lo := (bEqT hi1003)
  exact span_without_J0_ok a0 a1 x35 h_a0 h_a1  (IntKind.u64.wrap (a0.Lo + (1 : Int))) (wrapU64 _)
 replace hi1003 : a0.Lo ≠ a1.Lo := (bEqF hi1003)
 exact span_without_J0_ok a0 a1 x35 h_a0 h_a1  a0.Lo (by omega)

set_option maxRecDepth 100000 in
set_option maxHeartbeats 4000000 in
theorem span_without_any (a0 : TSpan) (a1 : TSpan)   (w : World)  (_h_a0 : IU64 a0.Lo ∧ IU64 a0.Hi) (_h_a1 : IU64 a1.Lo ∧ IU64 a1.Hi)  : Calls Try.prog 134 #[.agg #[.int .u64 a0.Lo, .int .u64 a0.Hi], .agg #[.int .u64 a1.Lo, .int .u64 a1.Hi]] w (RetV w (TSpan.v (span_without a0 a1))) := by
 have hs := span_without.eq_1 a0 a1
 refine calls_of_CW Try.func134 rfl (n := 32) Try.ntmps134 (by kernel_rfl) [0, 1] (F := [(0, .agg #[.int .u64 a0.Lo, .int .u64 a0.Hi]), (1, .agg #[.int .u64 a1.Lo, .int .u64 a1.Hi])]) (by kernel_rfl) ?_
 refine CW.seq fun K1 hK1 => ?_
 refine CW.region ?_
 refine WR.box (dst := some 2) (e := 25) (v := .agg #[.int .u64 a0.Lo, .int .u64 a0.Hi]) (by kernel_rfl) #[.int .u64 a0.Lo, .int .u64 a0.Hi] (by kernel_rfl) ?_
 intro g2 w3 hN4
 have hf6 : w.heap.size ≤ g2 := hN4.fresh
 have hfr8 := hN4.fresh
 have hc7 := hN4.chg
 have hz10 := hc7.size
 have hC9 := (Chg.refl [] w).pure hc7
 have hb5 := hN4.blk
 have hg11 := hb5.lt
 refine WR.box (dst := some 3) (e := 25) (v := .agg #[.int .u64 a1.Lo, .int .u64 a1.Hi]) (by kernel_rfl) #[.int .u64 a1.Lo, .int .u64 a1.Hi] (by kernel_rfl) ?_
 intro g12 w13 hN14
 have hf16 : w.heap.size ≤ g12 := Nat.le_trans hC9.size hN14.fresh
 have hfr18 := hN14.fresh
 have hc17 := hN14.chg
 have hz20 := hc17.size
 have hC19 := hC9.pure hc17
 have hb15 := hN14.blk
 have hg21 := hb15.lt
 refine WR.alloc (dst := some 4) (e := 25) (by kernel_rfl) #[.int .u64 0, .int .u64 0] (by kernel_rfl) ?_
 intro g22 w23 hN24
 have hf26 : w.heap.size ≤ g22 := Nat.le_trans hC19.size hN24.fresh
 have hfr28 := hN24.fresh
 have hc27 := hN24.chg
 have hz30 := hc27.size
 have hC29 := hC19.pure hc27
 have hb25 := hN24.blk
 have hg31 := hb25.lt
 refine WR.fin (by kernel_rfl) ?_
 refine go hK1 ?_
 refine CW.seq fun K32 hK32 => ?_
 refine CW.seq fun K33 hK33 => ?_
 refine CW.region ?_
 have hb34 := (hb5.pure hc17).pure hc27
 refine WR.load (dst := some 5) (t := 25) (o := 0) hb34 (by kernel_rfl) (.agg #[.int .u64 a0.Lo, .int .u64 a0.Hi]) (by kernel_rfl) ?_
 obtain ⟨x35, hx36⟩ : ∃ x, span_one a0 = x := ⟨_, rfl⟩
 have hs37 := letS hx36 hs
 refine WR.call (dst := some 6) (by kernel_rfl) (retE (g := (fun r : Bool => (.bool r : Value))) hx36 (span_one_any a0 w23  ⟨(by omega), (by omega)⟩ )) ?_
 rintro _ w38 hc39 rfl
 have hz41 := hc39.size
 have hC40 := hC29.pure hc39
 refine WR.batch 1 [(2, pt g2 0), (3, pt g12 0), (4, pt g22 0), (7, .bool x35)] (by kernel_rfl) ?_
 refine WR.mergeW 7 [(2, pt g2 0), (3, pt g12 0), (4, pt g22 0), (11, .bool (x35 || (!(span_one a1))))] (fun w' => Chg [] w38 w') (fun Q' => ?_) ?_
 ·
  cases hg42 : x35
  ·
   have hk44 := hg42
   intro hM43
   have hb45 := (hb15.pure hc27).pure hc39
   refine WR.load (dst := some 8) (t := 25) (o := 0) hb45 (by kernel_rfl) (.agg #[.int .u64 a1.Lo, .int .u64 a1.Hi]) (by kernel_rfl) ?_
   refine WR.call (dst := some 9) (by kernel_rfl) (span_one_any a1 w38  ⟨(by omega), (by omega)⟩ ) ?_
   rintro _ w46 hc47 rfl
   have hz49 := hc47.size
   have hC48 := hC40.pure hc47
   refine WR.batch 2 [(2, pt g2 0), (3, pt g12 0), (4, pt g22 0), (11, .bool (!(span_one a1)))] (by kernel_rfl) ?_
   exact WR.keep [2, 3, 4, 11] (by kernel_rfl) (hM43 _ ((Chg.refl [] w38).pure hc47))
  ·
   have hk50 := hg42
   intro hM43
   refine WR.batch 4 [(2, pt g2 0), (3, pt g12 0), (4, pt g22 0), (11, .bool true)] (by kernel_rfl) ?_
   exact WR.keep [2, 3, 4, 11] (by kernel_rfl) (hM43 _ (Chg.refl [] w38))
 intro w51 hc52
 have hz54 := hc52.size
 have hC53 := hC40.pure hc52
 refine WR.fin (by kernel_rfl) ?_
 refine go hK33 ?_
 refine CW.cond ((x35 || (!(span_one a1)))) (by kernel_rfl) (fun ht55 => ?_) (fun ht55 => ?_)
 ·
  have hs56 := ifT ht55 hs37
  replace ht55 : (x35 = true) ∨ ((span_one a1) = false) := (orMap (bOrT ht55) (fun h => h) (fun h => (bNotT h)))
  refine CW.seq fun K57 hK57 => ?_
  refine CW.region ?_
  have hb58 := (hb34.pure hc39).pure hc52
  refine WR.load (dst := some 12) (t := 25) (o := 0) hb58 (by kernel_rfl) (.agg #[.int .u64 a0.Lo, .int .u64 a0.Hi]) (by kernel_rfl) ?_
  have hb62 := (hb25.pure hc39).pure hc52
  refine WR.store (t := 25) (o := 0) (v := .agg #[.int .u64 a0.Lo, .int .u64 a0.Hi]) hb62 (by kernel_rfl) #[.int .u64 a0.Lo, .int .u64 a0.Hi] (by kernel_rfl) ?_
  intro w59 hb60 hc61
  have hz64 := hc61.size
  have hC63 := hC53.step1 hc61 (by omega)
  refine WR.fin (by kernel_rfl) ?_
  refine go hK57 ?_
  refine CW.ret ?_
  exact retC [.agg #[.int .u64 a0.Lo, .int .u64 a0.Hi]] _ rfl ⟨resCell hb60 rfl (by kernel_rfl), trivial⟩ (⟨hC63, (congrArg TSpan.v hs56).symm⟩)
 have hs65 := ifF ht55 hs37
 replace ht55 : (x35 = false) ∧ ((span_one a1) = true) := ⟨(bOrF ht55).1, (bNotF (bOrF ht55).2)⟩
 refine CW.skip ?_
 refine go hK32 ?_
 refine CW.seq fun K66 hK66 => ?_
 refine CW.seq fun K67 hK67 => ?_
 refine CW.region ?_
 refine WR.batch 1 [(2, pt g2 0), (3, pt g12 0), (4, pt g22 0), (13, pt g2 0)] (by kernel_rfl) ?_
 have hb68 := (hb34.pure hc39).pure hc52
 refine WR.load (dst := some 14) (t := 23) (o := 0) hb68 (by kernel_rfl) (.int .u64 a0.Lo) (by kernel_rfl) ?_
 refine WR.batch 1 [(2, pt g2 0), (3, pt g12 0), (4, pt g22 0), (14, .int .u64 a0.Lo), (15, pt g12 0)] (by kernel_rfl) ?_
 have hb69 := ((hb15.pure hc27).pure hc39).pure hc52
 refine WR.load (dst := some 16) (t := 23) (o := 0) hb69 (by kernel_rfl) (.int .u64 a1.Lo) (by kernel_rfl) ?_
 refine WR.batch 1 [(2, pt g2 0), (3, pt g12 0), (4, pt g22 0), (17, .bool (a0.Lo == a1.Lo))] (by kernel_rfl) ?_
 refine WR.fin (by kernel_rfl) ?_
 refine go hK67 ?_
 refine CW.join hK66 (fun F' w' => ∃ (v100 : Int), F' = [(2, pt g2 0), (3, pt g12 0), (4, pt g22 0)] ∧ Chg [] w w' ∧ Blk w' g2 #[.int .u64 v100, .int .u64 a0.Hi] 25 ∧ Blk w' g12 #[.int .u64 a1.Lo, .int .u64 a1.Hi] 25 ∧ Blk w' g22 #[.int .u64 0, .int .u64 0] 25 ∧ (IU64 v100) ∧ (span_without a0 a1) = span_without_J0 a0 a1 x35 v100) ?_ ?_
 ·
  refine CW.cond ((a0.Lo == a1.Lo)) (by kernel_rfl) (fun ht76 => ?_) (fun ht76 => ?_)
  ·
   have hs77 := ifT ht76 hs65
   replace ht76 : a0.Lo = a1.Lo := (bEqT ht76)
   refine CW.region ?_
   refine WR.batch 1 [(2, pt g2 0), (3, pt g12 0), (4, pt g22 0), (18, pt g2 0)] (by kernel_rfl) ?_
   refine WR.load (dst := some 19) (t := 23) (o := 0) hb68 (by kernel_rfl) (.int .u64 a0.Lo) (by kernel_rfl) ?_
   refine WR.batch 2 [(2, pt g2 0), (3, pt g12 0), (4, pt g22 0), (20, .int .u64 (IntKind.u64.wrap (a0.Lo + (1 : Int)))), (21, pt g2 0)] (by kernel_rfl) ?_
   refine WR.store (t := 23) (o := 0) (v := .int .u64 (IntKind.u64.wrap (a0.Lo + (1 : Int)))) hb68 (by kernel_rfl) #[.int .u64 (IntKind.u64.wrap (a0.Lo + (1 : Int))), .int .u64 a0.Hi] (by kernel_rfl) ?_
   intro w78 hb79 hc80
   have hz82 := hc80.size
   have hC81 := hC53.step1 hc80 (by omega)
   refine WR.fin (by kernel_rfl) ?_
   have hb83 := hb69.chg1 hc80 (by omega)
   have hb84 := ((hb25.pure hc39).pure hc52).chg1 hc80 (by omega)
   exact fun _ ha => ⟨_, ha.keep [2, 3, 4] (F' := [(2, pt g2 0), (3, pt g12 0), (4, pt g22 0)]) (by kernel_rfl), (IntKind.u64.wrap (a0.Lo + (1 : Int))), rfl, hC81, hb79, hb83, hb84, (wrapU64 _), hs77⟩
  have hs85 := ifF ht76 hs65
  replace ht76 : a0.Lo ≠ a1.Lo := (bEqF ht76)
  refine CW.skip ?_
  have hb86 := (hb25.pure hc39).pure hc52
  exact fun _ ha => ⟨_, ha.keep [2, 3, 4] (F' := [(2, pt g2 0), (3, pt g12 0), (4, pt g22 0)]) (by kernel_rfl), a0.Lo, rfl, hC53, hb68, hb69, hb86, (by omega), hs85⟩
 rintro _ w72 ⟨v100, rfl, hC70, hb73, hb74, hb75, hr_v100, hsj71⟩
 have hz87 := hC70.size
 have hs88 := hsj71.trans (span_without_J0.eq_1 _ _ _ _)
 have hg89 := hb73.lt
 have hg90 := hb74.lt
 have hg91 := hb75.lt
 refine CW.seq fun K92 hK92 => ?_
 refine CW.seq fun K93 hK93 => ?_
 refine CW.region ?_
 refine WR.batch 1 [(2, pt g2 0), (3, pt g12 0), (4, pt g22 0), (22, pt g2 1)] (by kernel_rfl) ?_
 refine WR.load (dst := some 23) (t := 23) (o := 1) hb73 (by kernel_rfl) (.int .u64 a0.Hi) (by kernel_rfl) ?_
 refine WR.batch 1 [(2, pt g2 0), (4, pt g22 0), (23, .int .u64 a0.Hi), (24, pt g12 0)] (by kernel_rfl) ?_
 refine WR.load (dst := some 25) (t := 23) (o := 0) hb74 (by kernel_rfl) (.int .u64 a1.Lo) (by kernel_rfl) ?_
 refine WR.batch 1 [(2, pt g2 0), (4, pt g22 0), (26, .bool (a0.Hi == a1.Lo))] (by kernel_rfl) ?_
 refine WR.fin (by kernel_rfl) ?_
 refine go hK93 ?_
 refine CW.cond ((a0.Hi == a1.Lo)) (by kernel_rfl) (fun ht94 => ?_) (fun ht94 => ?_)
 ·
  have hs95 := ifT ht94 hs88
  replace ht94 : a0.Hi = a1.Lo := (bEqT ht94)
  refine CW.region ?_
  refine WR.batch 1 [(2, pt g2 0), (4, pt g22 0), (27, pt g2 1)] (by kernel_rfl) ?_
  refine WR.load (dst := some 28) (t := 23) (o := 1) hb73 (by kernel_rfl) (.int .u64 a0.Hi) (by kernel_rfl) ?_
  refine WR.batch 2 [(2, pt g2 0), (4, pt g22 0), (29, .int .u64 (IntKind.u64.wrap (a0.Hi - (1 : Int)))), (30, pt g2 1)] (by kernel_rfl) ?_
  refine WR.store (t := 23) (o := 1) (v := .int .u64 (IntKind.u64.wrap (a0.Hi - (1 : Int)))) hb73 (by kernel_rfl) #[.int .u64 v100, .int .u64 (IntKind.u64.wrap (a0.Hi - (1 : Int)))] (by kernel_rfl) ?_
  intro w96 hb97 hc98
  have hz100 := hc98.size
  have hC99 := hC70.step1 hc98 (by omega)
  refine WR.fin (by kernel_rfl) ?_
  refine go hK92 ?_
  refine CW.seq fun K101 hK101 => ?_
  refine CW.region ?_
  refine WR.load (dst := some 31) (t := 25) (o := 0) hb97 (by kernel_rfl) (.agg #[.int .u64 v100, .int .u64 (IntKind.u64.wrap (a0.Hi - (1 : Int)))]) (by kernel_rfl) ?_
  have hb105 := hb75.chg1 hc98 (by omega)
  refine WR.store (t := 25) (o := 0) (v := .agg #[.int .u64 v100, .int .u64 (IntKind.u64.wrap (a0.Hi - (1 : Int)))]) hb105 (by kernel_rfl) #[.int .u64 v100, .int .u64 (IntKind.u64.wrap (a0.Hi - (1 : Int)))] (by kernel_rfl) ?_
  intro w102 hb103 hc104
  have hz107 := hc104.size
  have hC106 := hC99.step1 hc104 (by omega)
  refine WR.fin (by kernel_rfl) ?_
  refine go hK101 ?_
  refine CW.ret ?_
  exact retC [.agg #[.int .u64 v100, .int .u64 (IntKind.u64.wrap (a0.Hi - (1 : Int)))]] _ rfl ⟨resCell hb103 rfl (by kernel_rfl), trivial⟩ (⟨hC106, (congrArg TSpan.v hs95).symm⟩)
 have hs108 := ifF ht94 hs88
 replace ht94 : a0.Hi ≠ a1.Lo := (bEqF ht94)
 refine CW.skip ?_
 refine go hK92 ?_
 refine CW.seq fun K109 hK109 => ?_
 refine CW.region ?_
 refine WR.load (dst := some 31) (t := 25) (o := 0) hb73 (by kernel_rfl) (.agg #[.int .u64 v100, .int .u64 a0.Hi]) (by kernel_rfl) ?_
 refine WR.store (t := 25) (o := 0) (v := .agg #[.int .u64 v100, .int .u64 a0.Hi]) hb75 (by kernel_rfl) #[.int .u64 v100, .int .u64 a0.Hi] (by kernel_rfl) ?_
 intro w110 hb111 hc112
 have hz114 := hc112.size
 have hC113 := hC70.step1 hc112 (by omega)
 refine WR.fin (by kernel_rfl) ?_
 refine go hK109 ?_
 refine CW.ret ?_
 exact retC [.agg #[.int .u64 v100, .int .u64 a0.Hi]] _ rfl ⟨resCell hb111 rfl (by kernel_rfl), trivial⟩ (⟨hC113, (congrArg TSpan.v hs108).symm⟩)

def span_work_turned (a0 : Twork)  : Twork := (⟨a0.b, a0.a, a0.narrow, a0.most, a0.size⟩ : Twork)

theorem span_work_turned_ok (a0 : Twork)  (_h_a0 : IU64 a0.a.Lo ∧ IU64 a0.a.Hi ∧ IU64 a0.b.Lo ∧ IU64 a0.b.Hi ∧ IU64 a0.most ∧ IU64 a0.size)  : IU64 (span_work_turned a0).a.Lo ∧ IU64 (span_work_turned a0).a.Hi ∧ IU64 (span_work_turned a0).b.Lo ∧ IU64 (span_work_turned a0).b.Hi ∧ IU64 (span_work_turned a0).most ∧ IU64 (span_work_turned a0).size := by
 rw [span_work_turned.eq_1]
 exact (by exact (show IU64 a0.b.Lo ∧ IU64 a0.b.Hi ∧ IU64 a0.a.Lo ∧ IU64 a0.a.Hi ∧ IU64 a0.most ∧ IU64 a0.size from ⟨(by omega), (by omega), (by omega), (by omega), (by omega), (by omega)⟩))

theorem span_work_turned_any (a0 : Twork)   (w : World)  (_h_a0 : IU64 a0.a.Lo ∧ IU64 a0.a.Hi ∧ IU64 a0.b.Lo ∧ IU64 a0.b.Hi ∧ IU64 a0.most ∧ IU64 a0.size)  : Calls Try.prog 135 #[.agg #[.int .u64 a0.a.Lo, .int .u64 a0.a.Hi, .int .u64 a0.b.Lo, .int .u64 a0.b.Hi, .bool a0.narrow, .int .u64 a0.most, .int .u64 a0.size]] w (RetV w (Twork.v (span_work_turned a0))) := by
 have hs := span_work_turned.eq_1 a0
 refine calls_of_CW Try.func135 rfl (n := 10) Try.ntmps135 (by kernel_rfl) [0] (F := [(0, .agg #[.int .u64 a0.a.Lo, .int .u64 a0.a.Hi, .int .u64 a0.b.Lo, .int .u64 a0.b.Hi, .bool a0.narrow, .int .u64 a0.most, .int .u64 a0.size])]) (by kernel_rfl) ?_
 refine CW.seq fun K1 hK1 => ?_
 refine CW.region ?_
 refine WR.box (dst := some 1) (e := 79) (v := .agg #[.int .u64 a0.a.Lo, .int .u64 a0.a.Hi, .int .u64 a0.b.Lo, .int .u64 a0.b.Hi, .bool a0.narrow, .int .u64 a0.most, .int .u64 a0.size]) (by kernel_rfl) #[.int .u64 a0.a.Lo, .int .u64 a0.a.Hi, .int .u64 a0.b.Lo, .int .u64 a0.b.Hi, .bool a0.narrow, .int .u64 a0.most, .int .u64 a0.size] (by kernel_rfl) ?_
 intro g2 w3 hN4
 have hf6 : w.heap.size ≤ g2 := hN4.fresh
 have hfr8 := hN4.fresh
 have hc7 := hN4.chg
 have hz10 := hc7.size
 have hC9 := (Chg.refl [] w).pure hc7
 have hb5 := hN4.blk
 have hg11 := hb5.lt
 refine WR.alloc (dst := some 2) (e := 79) (by kernel_rfl) #[.int .u64 0, .int .u64 0, .int .u64 0, .int .u64 0, .bool false, .int .u64 0, .int .u64 0] (by kernel_rfl) ?_
 intro g12 w13 hN14
 have hf16 : w.heap.size ≤ g12 := Nat.le_trans hC9.size hN14.fresh
 have hfr18 := hN14.fresh
 have hc17 := hN14.chg
 have hz20 := hc17.size
 have hC19 := hC9.pure hc17
 have hb15 := hN14.blk
 have hg21 := hb15.lt
 refine WR.fin (by kernel_rfl) ?_
 refine go hK1 ?_
 refine CW.seq fun K22 hK22 => ?_
 refine CW.region ?_
 refine WR.batch 1 [(1, pt g2 0), (2, pt g12 0), (3, pt g2 2)] (by kernel_rfl) ?_
 have hb23 := hb5.pure hc17
 refine WR.load (dst := some 4) (t := 25) (o := 2) hb23 (by kernel_rfl) (.agg #[.int .u64 a0.b.Lo, .int .u64 a0.b.Hi]) (by kernel_rfl) ?_
 refine WR.batch 1 [(1, pt g2 0), (2, pt g12 0), (4, .agg #[.int .u64 a0.b.Lo, .int .u64 a0.b.Hi]), (5, pt g2 0)] (by kernel_rfl) ?_
 refine WR.load (dst := some 6) (t := 25) (o := 0) hb23 (by kernel_rfl) (.agg #[.int .u64 a0.a.Lo, .int .u64 a0.a.Hi]) (by kernel_rfl) ?_
 refine WR.batch 1 [(1, pt g2 0), (2, pt g12 0), (4, .agg #[.int .u64 a0.b.Lo, .int .u64 a0.b.Hi]), (6, .agg #[.int .u64 a0.a.Lo, .int .u64 a0.a.Hi]), (7, pt g2 0)] (by kernel_rfl) ?_
 refine WR.store (t := 25) (o := 0) (v := .agg #[.int .u64 a0.b.Lo, .int .u64 a0.b.Hi]) hb23 (by kernel_rfl) #[.int .u64 a0.b.Lo, .int .u64 a0.b.Hi, .int .u64 a0.b.Lo, .int .u64 a0.b.Hi, .bool a0.narrow, .int .u64 a0.most, .int .u64 a0.size] (by kernel_rfl) ?_
 intro w24 hb25 hc26
 have hz28 := hc26.size
 have hC27 := hC19.step1 hc26 (by omega)
 refine WR.batch 1 [(1, pt g2 0), (2, pt g12 0), (6, .agg #[.int .u64 a0.a.Lo, .int .u64 a0.a.Hi]), (8, pt g2 2)] (by kernel_rfl) ?_
 refine WR.store (t := 25) (o := 2) (v := .agg #[.int .u64 a0.a.Lo, .int .u64 a0.a.Hi]) hb25 (by kernel_rfl) #[.int .u64 a0.b.Lo, .int .u64 a0.b.Hi, .int .u64 a0.a.Lo, .int .u64 a0.a.Hi, .bool a0.narrow, .int .u64 a0.most, .int .u64 a0.size] (by kernel_rfl) ?_
 intro w29 hb30 hc31
 have hz33 := hc31.size
 have hC32 := hC27.step1 hc31 (by omega)
 refine WR.fin (by kernel_rfl) ?_
 refine go hK22 ?_
 refine CW.seq fun K34 hK34 => ?_
 refine CW.region ?_
 refine WR.load (dst := some 9) (t := 79) (o := 0) hb30 (by kernel_rfl) (.agg #[.int .u64 a0.b.Lo, .int .u64 a0.b.Hi, .int .u64 a0.a.Lo, .int .u64 a0.a.Hi, .bool a0.narrow, .int .u64 a0.most, .int .u64 a0.size]) (by kernel_rfl) ?_
 have hb38 := (hb15.chg1 hc26 (by omega)).chg1 hc31 (by omega)
 refine WR.store (t := 79) (o := 0) (v := .agg #[.int .u64 a0.b.Lo, .int .u64 a0.b.Hi, .int .u64 a0.a.Lo, .int .u64 a0.a.Hi, .bool a0.narrow, .int .u64 a0.most, .int .u64 a0.size]) hb38 (by kernel_rfl) #[.int .u64 a0.b.Lo, .int .u64 a0.b.Hi, .int .u64 a0.a.Lo, .int .u64 a0.a.Hi, .bool a0.narrow, .int .u64 a0.most, .int .u64 a0.size] (by kernel_rfl) ?_
 intro w35 hb36 hc37
 have hz40 := hc37.size
 have hC39 := hC32.step1 hc37 (by omega)
 refine WR.fin (by kernel_rfl) ?_
 refine go hK34 ?_
 refine CW.ret ?_
 exact retC [.agg #[.int .u64 a0.b.Lo, .int .u64 a0.b.Hi, .int .u64 a0.a.Lo, .int .u64 a0.a.Hi, .bool a0.narrow, .int .u64 a0.most, .int .u64 a0.size]] _ rfl ⟨resCell hb36 rfl (by kernel_rfl), trivial⟩ (⟨hC39, (congrArg Twork.v hs).symm⟩)

def span_work_add (a0 : Twork)  : Option TSpan := (optF (span_must ((decide (a0.b.Hi ≤ (IntKind.u64.wrap (a0.most - a0.a.Hi)))) || (decide (a0.b.Lo > (IntKind.u64.wrap (a0.most - a0.a.Lo)))))) (none) fun _ => (letF (span_work_ends a0 (IntKind.u64.wrap (a0.a.Lo + a0.b.Lo)) (IntKind.u64.wrap (a0.a.Hi + a0.b.Hi))) fun x46 => some x46))

theorem span_work_add_ok (a0 : Twork)  (_h_a0 : IU64 a0.a.Lo ∧ IU64 a0.a.Hi ∧ IU64 a0.b.Lo ∧ IU64 a0.b.Hi ∧ IU64 a0.most ∧ IU64 a0.size)  : ∀ y, (span_work_add a0) = some y → IU64 y.Lo ∧ IU64 y.Hi := by
 rw [span_work_add.eq_1]
 refine optR (p := fun r : Option TSpan => ∀ y, r = some y → IU64 y.Lo ∧ IU64 y.Hi) (fun _ => ?_) (fun x32 _ => ?_)
 ·
  intro y hy; cases hy
 refine letR (p := fun r : Option TSpan => ∀ y, r = some y → IU64 y.Lo ∧ IU64 y.Hi) fun x46 hx47 => ?_
 have hx48 : IU64 x46.Lo ∧ IU64 x46.Hi := by rw [← hx47]; exact span_work_ends_ok a0 (IntKind.u64.wrap (a0.a.Lo + a0.b.Lo)) (IntKind.u64.wrap (a0.a.Hi + a0.b.Hi)) ⟨(by omega), (by omega), (by omega), (by omega), (by omega), (by omega)⟩ (wrapU64 _) (wrapU64 _) 
 intro y hy; cases hy; exact (by exact (show IU64 x46.Lo ∧ IU64 x46.Hi from ⟨(by omega), (by omega)⟩))

theorem span_work_add_any (a0 : Twork)   (w : World)  (_h_a0 : IU64 a0.a.Lo ∧ IU64 a0.a.Hi ∧ IU64 a0.b.Lo ∧ IU64 a0.b.Hi ∧ IU64 a0.most ∧ IU64 a0.size)  : Calls Try.prog 76 #[.agg #[.int .u64 a0.a.Lo, .int .u64 a0.a.Hi, .int .u64 a0.b.Lo, .int .u64 a0.b.Hi, .bool a0.narrow, .int .u64 a0.most, .int .u64 a0.size]] w (RetP w (.iface 76 (.agg #[])) (((span_work_add a0)).map TSpan.v)) := by
 have hs := span_work_add.eq_1 a0
 refine calls_of_CW Try.func76 rfl (n := 42) Try.ntmps76 (by kernel_rfl) [0] (F := [(0, .agg #[.int .u64 a0.a.Lo, .int .u64 a0.a.Hi, .int .u64 a0.b.Lo, .int .u64 a0.b.Hi, .bool a0.narrow, .int .u64 a0.most, .int .u64 a0.size])]) (by kernel_rfl) ?_
 refine CW.seq fun K1 hK1 => ?_
 refine CW.region ?_
 refine WR.box (dst := some 1) (e := 79) (v := .agg #[.int .u64 a0.a.Lo, .int .u64 a0.a.Hi, .int .u64 a0.b.Lo, .int .u64 a0.b.Hi, .bool a0.narrow, .int .u64 a0.most, .int .u64 a0.size]) (by kernel_rfl) #[.int .u64 a0.a.Lo, .int .u64 a0.a.Hi, .int .u64 a0.b.Lo, .int .u64 a0.b.Hi, .bool a0.narrow, .int .u64 a0.most, .int .u64 a0.size] (by kernel_rfl) ?_
 intro g2 w3 hN4
 have hf6 : w.heap.size ≤ g2 := hN4.fresh
 have hfr8 := hN4.fresh
 have hc7 := hN4.chg
 have hz10 := hc7.size
 have hC9 := (Chg.refl [] w).pure hc7
 have hb5 := hN4.blk
 have hg11 := hb5.lt
 refine WR.alloc (dst := some 2) (e := 25) (by kernel_rfl) #[.int .u64 0, .int .u64 0] (by kernel_rfl) ?_
 intro g12 w13 hN14
 have hf16 : w.heap.size ≤ g12 := Nat.le_trans hC9.size hN14.fresh
 have hfr18 := hN14.fresh
 have hc17 := hN14.chg
 have hz20 := hc17.size
 have hC19 := hC9.pure hc17
 have hb15 := hN14.blk
 have hg21 := hb15.lt
 refine WR.fin (by kernel_rfl) ?_
 refine go hK1 ?_
 refine CW.seq fun K22 hK22 => ?_
 refine CW.region ?_
 refine WR.batch 2 [(1, pt g2 0), (2, pt g12 0), (4, pt g2 3)] (by kernel_rfl) ?_
 have hb23 := hb5.pure hc17
 refine WR.load (dst := some 5) (t := 23) (o := 3) hb23 (by kernel_rfl) (.int .u64 a0.b.Hi) (by kernel_rfl) ?_
 refine WR.batch 1 [(1, pt g2 0), (2, pt g12 0), (5, .int .u64 a0.b.Hi), (6, pt g2 5)] (by kernel_rfl) ?_
 refine WR.load (dst := some 7) (t := 23) (o := 5) hb23 (by kernel_rfl) (.int .u64 a0.most) (by kernel_rfl) ?_
 refine WR.batch 2 [(1, pt g2 0), (2, pt g12 0), (5, .int .u64 a0.b.Hi), (7, .int .u64 a0.most), (9, pt g2 1)] (by kernel_rfl) ?_
 refine WR.load (dst := some 10) (t := 23) (o := 1) hb23 (by kernel_rfl) (.int .u64 a0.a.Hi) (by kernel_rfl) ?_
 refine WR.batch 3 [(1, pt g2 0), (2, pt g12 0), (13, .bool (decide (a0.b.Hi ≤ (IntKind.u64.wrap (a0.most - a0.a.Hi)))))] (by kernel_rfl) ?_
 refine WR.mergeW 22 [(1, pt g2 0), (2, pt g12 0), (24, .bool ((decide (a0.b.Hi ≤ (IntKind.u64.wrap (a0.most - a0.a.Hi)))) || (decide (a0.b.Lo > (IntKind.u64.wrap (a0.most - a0.a.Lo))))))] (fun w' => Chg [] w13 w') (fun Q' => ?_) ?_
 ·
  cases hg24 : decide (a0.b.Hi ≤ (IntKind.u64.wrap (a0.most - a0.a.Hi)))
  ·
   have hk26 := hg24
   replace hg24 : ¬ (a0.b.Hi ≤ (IntKind.u64.wrap (a0.most - a0.a.Hi))) := (of_decide_eq_false hg24)
   intro hM25
   refine WR.batch 2 [(1, pt g2 0), (2, pt g12 0), (13, .bool false), (15, pt g2 2)] (by kernel_rfl) ?_
   refine WR.load (dst := some 16) (t := 23) (o := 2) hb23 (by kernel_rfl) (.int .u64 a0.b.Lo) (by kernel_rfl) ?_
   refine WR.batch 1 [(1, pt g2 0), (2, pt g12 0), (13, .bool false), (16, .int .u64 a0.b.Lo), (17, pt g2 5)] (by kernel_rfl) ?_
   refine WR.load (dst := some 18) (t := 23) (o := 5) hb23 (by kernel_rfl) (.int .u64 a0.most) (by kernel_rfl) ?_
   refine WR.batch 2 [(1, pt g2 0), (2, pt g12 0), (13, .bool false), (16, .int .u64 a0.b.Lo), (18, .int .u64 a0.most), (20, pt g2 0)] (by kernel_rfl) ?_
   refine WR.load (dst := some 21) (t := 23) (o := 0) hb23 (by kernel_rfl) (.int .u64 a0.a.Lo) (by kernel_rfl) ?_
   refine WR.batch 3 [(1, pt g2 0), (2, pt g12 0), (24, .bool (decide (a0.b.Lo > (IntKind.u64.wrap (a0.most - a0.a.Lo)))))] (by kernel_rfl) ?_
   exact WR.keep [1, 2, 24] (by kernel_rfl) (hM25 _ (Chg.refl [] w13))
  ·
   have hk27 := hg24
   replace hg24 : a0.b.Hi ≤ (IntKind.u64.wrap (a0.most - a0.a.Hi)) := (of_decide_eq_true hg24)
   intro hM25
   refine WR.batch 11 [(1, pt g2 0), (2, pt g12 0), (24, .bool true)] (by kernel_rfl) ?_
   exact WR.keep [1, 2, 24] (by kernel_rfl) (hM25 _ (Chg.refl [] w13))
 intro w28 hc29
 have hz31 := hc29.size
 have hC30 := hC19.pure hc29
 rcases hx33 : span_must ((decide (a0.b.Hi ≤ (IntKind.u64.wrap (a0.most - a0.a.Hi)))) || (decide (a0.b.Lo > (IntKind.u64.wrap (a0.most - a0.a.Lo))))) with _ | x32
 ·
  have hs36 := optN hx33 hs
  refine WR.callX (dst := some 25) (by kernel_rfl) (retP_no (g := (fun _ : Unit => (.tuple #[] : Value))) hx33 (span_must_any ((decide (a0.b.Hi ≤ (IntKind.u64.wrap (a0.most - a0.a.Hi)))) || (decide (a0.b.Lo > (IntKind.u64.wrap (a0.most - a0.a.Lo))))) w28  )) ?_
  intro w34 hc35
  have hz38 := hc35.size
  have hC37 := hC30.pure hc35
  exact panicV (P := Try.prog) (fn := Try.f76) (retP_pan hs36 hC37)
 have hs39 := optS hx33 hs
 refine WR.call (dst := some 25) (by kernel_rfl) (retP_yes (g := (fun _ : Unit => (.tuple #[] : Value))) hx33 (span_must_any ((decide (a0.b.Hi ≤ (IntKind.u64.wrap (a0.most - a0.a.Hi)))) || (decide (a0.b.Lo > (IntKind.u64.wrap (a0.most - a0.a.Lo))))) w28  )) ?_
 rintro _ w40 hc41 rfl
 have hz43 := hc41.size
 have hC42 := hC30.pure hc41
 refine WR.fin (by kernel_rfl) ?_
 refine go hK22 ?_
 refine CW.seq fun K44 hK44 => ?_
 refine CW.region ?_
 have hb45 := (hb23.pure hc29).pure hc41
 refine WR.load (dst := some 26) (t := 79) (o := 0) hb45 (by kernel_rfl) (.agg #[.int .u64 a0.a.Lo, .int .u64 a0.a.Hi, .int .u64 a0.b.Lo, .int .u64 a0.b.Hi, .bool a0.narrow, .int .u64 a0.most, .int .u64 a0.size]) (by kernel_rfl) ?_
 refine WR.batch 2 [(1, pt g2 0), (2, pt g12 0), (26, .agg #[.int .u64 a0.a.Lo, .int .u64 a0.a.Hi, .int .u64 a0.b.Lo, .int .u64 a0.b.Hi, .bool a0.narrow, .int .u64 a0.most, .int .u64 a0.size]), (28, pt g2 0)] (by kernel_rfl) ?_
 refine WR.load (dst := some 29) (t := 23) (o := 0) hb45 (by kernel_rfl) (.int .u64 a0.a.Lo) (by kernel_rfl) ?_
 refine WR.batch 2 [(1, pt g2 0), (2, pt g12 0), (26, .agg #[.int .u64 a0.a.Lo, .int .u64 a0.a.Hi, .int .u64 a0.b.Lo, .int .u64 a0.b.Hi, .bool a0.narrow, .int .u64 a0.most, .int .u64 a0.size]), (29, .int .u64 a0.a.Lo), (31, pt g2 2)] (by kernel_rfl) ?_
 refine WR.load (dst := some 32) (t := 23) (o := 2) hb45 (by kernel_rfl) (.int .u64 a0.b.Lo) (by kernel_rfl) ?_
 refine WR.batch 3 [(1, pt g2 0), (2, pt g12 0), (26, .agg #[.int .u64 a0.a.Lo, .int .u64 a0.a.Hi, .int .u64 a0.b.Lo, .int .u64 a0.b.Hi, .bool a0.narrow, .int .u64 a0.most, .int .u64 a0.size]), (33, .int .u64 (IntKind.u64.wrap (a0.a.Lo + a0.b.Lo))), (35, pt g2 1)] (by kernel_rfl) ?_
 refine WR.load (dst := some 36) (t := 23) (o := 1) hb45 (by kernel_rfl) (.int .u64 a0.a.Hi) (by kernel_rfl) ?_
 refine WR.batch 2 [(2, pt g12 0), (26, .agg #[.int .u64 a0.a.Lo, .int .u64 a0.a.Hi, .int .u64 a0.b.Lo, .int .u64 a0.b.Hi, .bool a0.narrow, .int .u64 a0.most, .int .u64 a0.size]), (33, .int .u64 (IntKind.u64.wrap (a0.a.Lo + a0.b.Lo))), (36, .int .u64 a0.a.Hi), (38, pt g2 3)] (by kernel_rfl) ?_
 refine WR.load (dst := some 39) (t := 23) (o := 3) hb45 (by kernel_rfl) (.int .u64 a0.b.Hi) (by kernel_rfl) ?_
 refine WR.batch 1 [(2, pt g12 0), (26, .agg #[.int .u64 a0.a.Lo, .int .u64 a0.a.Hi, .int .u64 a0.b.Lo, .int .u64 a0.b.Hi, .bool a0.narrow, .int .u64 a0.most, .int .u64 a0.size]), (33, .int .u64 (IntKind.u64.wrap (a0.a.Lo + a0.b.Lo))), (40, .int .u64 (IntKind.u64.wrap (a0.a.Hi + a0.b.Hi)))] (by kernel_rfl) ?_
 obtain ⟨x46, hx47⟩ : ∃ x, span_work_ends a0 (IntKind.u64.wrap (a0.a.Lo + a0.b.Lo)) (IntKind.u64.wrap (a0.a.Hi + a0.b.Hi)) = x := ⟨_, rfl⟩
 have hs49 := letS hx47 hs39
 have hx48 : IU64 x46.Lo ∧ IU64 x46.Hi := by rw [← hx47]; exact span_work_ends_ok a0 (IntKind.u64.wrap (a0.a.Lo + a0.b.Lo)) (IntKind.u64.wrap (a0.a.Hi + a0.b.Hi)) ⟨(by omega), (by omega), (by omega), (by omega), (by omega), (by omega)⟩ (wrapU64 _) (wrapU64 _) 
 refine WR.call (dst := some 41) (by kernel_rfl) (retE (g := TSpan.v) hx47 (span_work_ends_any a0 (IntKind.u64.wrap (a0.a.Lo + a0.b.Lo)) (IntKind.u64.wrap (a0.a.Hi + a0.b.Hi)) w40  ⟨(by omega), (by omega), (by omega), (by omega), (by omega), (by omega)⟩ (wrapU64 _) (wrapU64 _) )) ?_
 rintro _ w50 hc51 rfl
 have hz53 := hc51.size
 have hC52 := hC42.pure hc51
 have hb57 := ((hb15.pure hc29).pure hc41).pure hc51
 refine WR.store (t := 25) (o := 0) (v := .agg #[.int .u64 x46.Lo, .int .u64 x46.Hi]) hb57 (by kernel_rfl) #[.int .u64 x46.Lo, .int .u64 x46.Hi] (by kernel_rfl) ?_
 intro w54 hb55 hc56
 have hz59 := hc56.size
 have hC58 := hC52.step1 hc56 (by omega)
 refine WR.fin (by kernel_rfl) ?_
 refine go hK44 ?_
 refine CW.ret ?_
 exact retC [.agg #[.int .u64 x46.Lo, .int .u64 x46.Hi]] _ rfl ⟨resCell hb55 rfl (by kernel_rfl), trivial⟩ (retP_ret (g := TSpan.v) hs49 rfl hC58)

def span_work_sub (a0 : Twork)  : Option TSpan := (optF (span_must ((decide (a0.a.Lo ≥ a0.b.Hi)) || (decide (a0.a.Hi < a0.b.Lo)))) (none) fun _ => (letF (span_work_ends a0 (IntKind.u64.wrap (a0.a.Lo - a0.b.Hi)) (IntKind.u64.wrap (a0.a.Hi - a0.b.Lo))) fun x46 => some x46))

theorem span_work_sub_ok (a0 : Twork)  (_h_a0 : IU64 a0.a.Lo ∧ IU64 a0.a.Hi ∧ IU64 a0.b.Lo ∧ IU64 a0.b.Hi ∧ IU64 a0.most ∧ IU64 a0.size)  : ∀ y, (span_work_sub a0) = some y → IU64 y.Lo ∧ IU64 y.Hi := by
 rw [span_work_sub.eq_1]
 refine optR (p := fun r : Option TSpan => ∀ y, r = some y → IU64 y.Lo ∧ IU64 y.Hi) (fun _ => ?_) (fun x32 _ => ?_)
 ·
  intro y hy; cases hy
 refine letR (p := fun r : Option TSpan => ∀ y, r = some y → IU64 y.Lo ∧ IU64 y.Hi) fun x46 hx47 => ?_
 have hx48 : IU64 x46.Lo ∧ IU64 x46.Hi := by rw [← hx47]; exact span_work_ends_ok a0 (IntKind.u64.wrap (a0.a.Lo - a0.b.Hi)) (IntKind.u64.wrap (a0.a.Hi - a0.b.Lo)) ⟨(by omega), (by omega), (by omega), (by omega), (by omega), (by omega)⟩ (wrapU64 _) (wrapU64 _) 
 intro y hy; cases hy; exact (by exact (show IU64 x46.Lo ∧ IU64 x46.Hi from ⟨(by omega), (by omega)⟩))

theorem span_work_sub_any (a0 : Twork)   (w : World)  (_h_a0 : IU64 a0.a.Lo ∧ IU64 a0.a.Hi ∧ IU64 a0.b.Lo ∧ IU64 a0.b.Hi ∧ IU64 a0.most ∧ IU64 a0.size)  : Calls Try.prog 77 #[.agg #[.int .u64 a0.a.Lo, .int .u64 a0.a.Hi, .int .u64 a0.b.Lo, .int .u64 a0.b.Hi, .bool a0.narrow, .int .u64 a0.most, .int .u64 a0.size]] w (RetP w (.iface 76 (.agg #[])) (((span_work_sub a0)).map TSpan.v)) := by
 have hs := span_work_sub.eq_1 a0
 refine calls_of_CW Try.func77 rfl (n := 36) Try.ntmps77 (by kernel_rfl) [0] (F := [(0, .agg #[.int .u64 a0.a.Lo, .int .u64 a0.a.Hi, .int .u64 a0.b.Lo, .int .u64 a0.b.Hi, .bool a0.narrow, .int .u64 a0.most, .int .u64 a0.size])]) (by kernel_rfl) ?_
 refine CW.seq fun K1 hK1 => ?_
 refine CW.region ?_
 refine WR.box (dst := some 1) (e := 79) (v := .agg #[.int .u64 a0.a.Lo, .int .u64 a0.a.Hi, .int .u64 a0.b.Lo, .int .u64 a0.b.Hi, .bool a0.narrow, .int .u64 a0.most, .int .u64 a0.size]) (by kernel_rfl) #[.int .u64 a0.a.Lo, .int .u64 a0.a.Hi, .int .u64 a0.b.Lo, .int .u64 a0.b.Hi, .bool a0.narrow, .int .u64 a0.most, .int .u64 a0.size] (by kernel_rfl) ?_
 intro g2 w3 hN4
 have hf6 : w.heap.size ≤ g2 := hN4.fresh
 have hfr8 := hN4.fresh
 have hc7 := hN4.chg
 have hz10 := hc7.size
 have hC9 := (Chg.refl [] w).pure hc7
 have hb5 := hN4.blk
 have hg11 := hb5.lt
 refine WR.alloc (dst := some 2) (e := 25) (by kernel_rfl) #[.int .u64 0, .int .u64 0] (by kernel_rfl) ?_
 intro g12 w13 hN14
 have hf16 : w.heap.size ≤ g12 := Nat.le_trans hC9.size hN14.fresh
 have hfr18 := hN14.fresh
 have hc17 := hN14.chg
 have hz20 := hc17.size
 have hC19 := hC9.pure hc17
 have hb15 := hN14.blk
 have hg21 := hb15.lt
 refine WR.fin (by kernel_rfl) ?_
 refine go hK1 ?_
 refine CW.seq fun K22 hK22 => ?_
 refine CW.region ?_
 refine WR.batch 2 [(1, pt g2 0), (2, pt g12 0), (4, pt g2 0)] (by kernel_rfl) ?_
 have hb23 := hb5.pure hc17
 refine WR.load (dst := some 5) (t := 23) (o := 0) hb23 (by kernel_rfl) (.int .u64 a0.a.Lo) (by kernel_rfl) ?_
 refine WR.batch 2 [(1, pt g2 0), (2, pt g12 0), (5, .int .u64 a0.a.Lo), (7, pt g2 3)] (by kernel_rfl) ?_
 refine WR.load (dst := some 8) (t := 23) (o := 3) hb23 (by kernel_rfl) (.int .u64 a0.b.Hi) (by kernel_rfl) ?_
 refine WR.batch 2 [(1, pt g2 0), (2, pt g12 0), (10, .bool (decide (a0.a.Lo ≥ a0.b.Hi)))] (by kernel_rfl) ?_
 refine WR.mergeW 16 [(1, pt g2 0), (2, pt g12 0), (18, .bool ((decide (a0.a.Lo ≥ a0.b.Hi)) || (decide (a0.a.Hi < a0.b.Lo))))] (fun w' => Chg [] w13 w') (fun Q' => ?_) ?_
 ·
  cases hg24 : decide (a0.a.Lo ≥ a0.b.Hi)
  ·
   have hk26 := hg24
   replace hg24 : ¬ (a0.a.Lo ≥ a0.b.Hi) := (of_decide_eq_false hg24)
   intro hM25
   refine WR.batch 2 [(1, pt g2 0), (2, pt g12 0), (10, .bool false), (12, pt g2 1)] (by kernel_rfl) ?_
   refine WR.load (dst := some 13) (t := 23) (o := 1) hb23 (by kernel_rfl) (.int .u64 a0.a.Hi) (by kernel_rfl) ?_
   refine WR.batch 2 [(1, pt g2 0), (2, pt g12 0), (10, .bool false), (13, .int .u64 a0.a.Hi), (15, pt g2 2)] (by kernel_rfl) ?_
   refine WR.load (dst := some 16) (t := 23) (o := 2) hb23 (by kernel_rfl) (.int .u64 a0.b.Lo) (by kernel_rfl) ?_
   refine WR.batch 2 [(1, pt g2 0), (2, pt g12 0), (18, .bool (decide (a0.a.Hi < a0.b.Lo)))] (by kernel_rfl) ?_
   exact WR.keep [1, 2, 18] (by kernel_rfl) (hM25 _ (Chg.refl [] w13))
  ·
   have hk27 := hg24
   replace hg24 : a0.a.Lo ≥ a0.b.Hi := (of_decide_eq_true hg24)
   intro hM25
   refine WR.batch 8 [(1, pt g2 0), (2, pt g12 0), (18, .bool true)] (by kernel_rfl) ?_
   exact WR.keep [1, 2, 18] (by kernel_rfl) (hM25 _ (Chg.refl [] w13))
 intro w28 hc29
 have hz31 := hc29.size
 have hC30 := hC19.pure hc29
 rcases hx33 : span_must ((decide (a0.a.Lo ≥ a0.b.Hi)) || (decide (a0.a.Hi < a0.b.Lo))) with _ | x32
 ·
  have hs36 := optN hx33 hs
  refine WR.callX (dst := some 19) (by kernel_rfl) (retP_no (g := (fun _ : Unit => (.tuple #[] : Value))) hx33 (span_must_any ((decide (a0.a.Lo ≥ a0.b.Hi)) || (decide (a0.a.Hi < a0.b.Lo))) w28  )) ?_
  intro w34 hc35
  have hz38 := hc35.size
  have hC37 := hC30.pure hc35
  exact panicV (P := Try.prog) (fn := Try.f77) (retP_pan hs36 hC37)
 have hs39 := optS hx33 hs
 refine WR.call (dst := some 19) (by kernel_rfl) (retP_yes (g := (fun _ : Unit => (.tuple #[] : Value))) hx33 (span_must_any ((decide (a0.a.Lo ≥ a0.b.Hi)) || (decide (a0.a.Hi < a0.b.Lo))) w28  )) ?_
 rintro _ w40 hc41 rfl
 have hz43 := hc41.size
 have hC42 := hC30.pure hc41
 refine WR.fin (by kernel_rfl) ?_
 refine go hK22 ?_
 refine CW.seq fun K44 hK44 => ?_
 refine CW.region ?_
 have hb45 := (hb23.pure hc29).pure hc41
 refine WR.load (dst := some 20) (t := 79) (o := 0) hb45 (by kernel_rfl) (.agg #[.int .u64 a0.a.Lo, .int .u64 a0.a.Hi, .int .u64 a0.b.Lo, .int .u64 a0.b.Hi, .bool a0.narrow, .int .u64 a0.most, .int .u64 a0.size]) (by kernel_rfl) ?_
 refine WR.batch 2 [(1, pt g2 0), (2, pt g12 0), (20, .agg #[.int .u64 a0.a.Lo, .int .u64 a0.a.Hi, .int .u64 a0.b.Lo, .int .u64 a0.b.Hi, .bool a0.narrow, .int .u64 a0.most, .int .u64 a0.size]), (22, pt g2 0)] (by kernel_rfl) ?_
 refine WR.load (dst := some 23) (t := 23) (o := 0) hb45 (by kernel_rfl) (.int .u64 a0.a.Lo) (by kernel_rfl) ?_
 refine WR.batch 2 [(1, pt g2 0), (2, pt g12 0), (20, .agg #[.int .u64 a0.a.Lo, .int .u64 a0.a.Hi, .int .u64 a0.b.Lo, .int .u64 a0.b.Hi, .bool a0.narrow, .int .u64 a0.most, .int .u64 a0.size]), (23, .int .u64 a0.a.Lo), (25, pt g2 3)] (by kernel_rfl) ?_
 refine WR.load (dst := some 26) (t := 23) (o := 3) hb45 (by kernel_rfl) (.int .u64 a0.b.Hi) (by kernel_rfl) ?_
 refine WR.batch 3 [(1, pt g2 0), (2, pt g12 0), (20, .agg #[.int .u64 a0.a.Lo, .int .u64 a0.a.Hi, .int .u64 a0.b.Lo, .int .u64 a0.b.Hi, .bool a0.narrow, .int .u64 a0.most, .int .u64 a0.size]), (27, .int .u64 (IntKind.u64.wrap (a0.a.Lo - a0.b.Hi))), (29, pt g2 1)] (by kernel_rfl) ?_
 refine WR.load (dst := some 30) (t := 23) (o := 1) hb45 (by kernel_rfl) (.int .u64 a0.a.Hi) (by kernel_rfl) ?_
 refine WR.batch 2 [(2, pt g12 0), (20, .agg #[.int .u64 a0.a.Lo, .int .u64 a0.a.Hi, .int .u64 a0.b.Lo, .int .u64 a0.b.Hi, .bool a0.narrow, .int .u64 a0.most, .int .u64 a0.size]), (27, .int .u64 (IntKind.u64.wrap (a0.a.Lo - a0.b.Hi))), (30, .int .u64 a0.a.Hi), (32, pt g2 2)] (by kernel_rfl) ?_
 refine WR.load (dst := some 33) (t := 23) (o := 2) hb45 (by kernel_rfl) (.int .u64 a0.b.Lo) (by kernel_rfl) ?_
 refine WR.batch 1 [(2, pt g12 0), (20, .agg #[.int .u64 a0.a.Lo, .int .u64 a0.a.Hi, .int .u64 a0.b.Lo, .int .u64 a0.b.Hi, .bool a0.narrow, .int .u64 a0.most, .int .u64 a0.size]), (27, .int .u64 (IntKind.u64.wrap (a0.a.Lo - a0.b.Hi))), (34, .int .u64 (IntKind.u64.wrap (a0.a.Hi - a0.b.Lo)))] (by kernel_rfl) ?_
 obtain ⟨x46, hx47⟩ : ∃ x, span_work_ends a0 (IntKind.u64.wrap (a0.a.Lo - a0.b.Hi)) (IntKind.u64.wrap (a0.a.Hi - a0.b.Lo)) = x := ⟨_, rfl⟩
 have hs49 := letS hx47 hs39
 have hx48 : IU64 x46.Lo ∧ IU64 x46.Hi := by rw [← hx47]; exact span_work_ends_ok a0 (IntKind.u64.wrap (a0.a.Lo - a0.b.Hi)) (IntKind.u64.wrap (a0.a.Hi - a0.b.Lo)) ⟨(by omega), (by omega), (by omega), (by omega), (by omega), (by omega)⟩ (wrapU64 _) (wrapU64 _) 
 refine WR.call (dst := some 35) (by kernel_rfl) (retE (g := TSpan.v) hx47 (span_work_ends_any a0 (IntKind.u64.wrap (a0.a.Lo - a0.b.Hi)) (IntKind.u64.wrap (a0.a.Hi - a0.b.Lo)) w40  ⟨(by omega), (by omega), (by omega), (by omega), (by omega), (by omega)⟩ (wrapU64 _) (wrapU64 _) )) ?_
 rintro _ w50 hc51 rfl
 have hz53 := hc51.size
 have hC52 := hC42.pure hc51
 have hb57 := ((hb15.pure hc29).pure hc41).pure hc51
 refine WR.store (t := 25) (o := 0) (v := .agg #[.int .u64 x46.Lo, .int .u64 x46.Hi]) hb57 (by kernel_rfl) #[.int .u64 x46.Lo, .int .u64 x46.Hi] (by kernel_rfl) ?_
 intro w54 hb55 hc56
 have hz59 := hc56.size
 have hC58 := hC52.step1 hc56 (by omega)
 refine WR.fin (by kernel_rfl) ?_
 refine go hK44 ?_
 refine CW.ret ?_
 exact retC [.agg #[.int .u64 x46.Lo, .int .u64 x46.Hi]] _ rfl ⟨resCell hb55 rfl (by kernel_rfl), trivial⟩ (retP_ret (g := TSpan.v) hs49 rfl hC58)

def span_work_div (a0 : Twork)  : TSpan := (⟨(IntKind.u64.wrap ((a0.a.Lo).tdiv (gMax a0.b.Hi (1 : Int)))), (IntKind.u64.wrap ((a0.a.Hi).tdiv (gMax a0.b.Lo (1 : Int))))⟩ : TSpan)

theorem span_work_div_ok (a0 : Twork)  (_h_a0 : IU64 a0.a.Lo ∧ IU64 a0.a.Hi ∧ IU64 a0.b.Lo ∧ IU64 a0.b.Hi ∧ IU64 a0.most ∧ IU64 a0.size)  : IU64 (span_work_div a0).Lo ∧ IU64 (span_work_div a0).Hi := by
 rw [span_work_div.eq_1]
 exact (by exact (show IU64 (IntKind.u64.wrap ((a0.a.Lo).tdiv (gMax a0.b.Hi (1 : Int)))) ∧ IU64 (IntKind.u64.wrap ((a0.a.Hi).tdiv (gMax a0.b.Lo (1 : Int)))) from ⟨(wrapU64 _), (wrapU64 _)⟩))

theorem span_work_div_any (a0 : Twork)   (w : World)  (_h_a0 : IU64 a0.a.Lo ∧ IU64 a0.a.Hi ∧ IU64 a0.b.Lo ∧ IU64 a0.b.Hi ∧ IU64 a0.most ∧ IU64 a0.size)  : Calls Try.prog 79 #[.agg #[.int .u64 a0.a.Lo, .int .u64 a0.a.Hi, .int .u64 a0.b.Lo, .int .u64 a0.b.Hi, .bool a0.narrow, .int .u64 a0.most, .int .u64 a0.size]] w (RetV w (TSpan.v (span_work_div a0))) := by
 have hs := span_work_div.eq_1 a0
 refine calls_of_CW Try.func79 rfl (n := 20) Try.ntmps79 (by kernel_rfl) [0] (F := [(0, .agg #[.int .u64 a0.a.Lo, .int .u64 a0.a.Hi, .int .u64 a0.b.Lo, .int .u64 a0.b.Hi, .bool a0.narrow, .int .u64 a0.most, .int .u64 a0.size])]) (by kernel_rfl) ?_
 refine CW.seq fun K1 hK1 => ?_
 refine CW.region ?_
 refine WR.box (dst := some 1) (e := 79) (v := .agg #[.int .u64 a0.a.Lo, .int .u64 a0.a.Hi, .int .u64 a0.b.Lo, .int .u64 a0.b.Hi, .bool a0.narrow, .int .u64 a0.most, .int .u64 a0.size]) (by kernel_rfl) #[.int .u64 a0.a.Lo, .int .u64 a0.a.Hi, .int .u64 a0.b.Lo, .int .u64 a0.b.Hi, .bool a0.narrow, .int .u64 a0.most, .int .u64 a0.size] (by kernel_rfl) ?_
 intro g2 w3 hN4
 have hf6 : w.heap.size ≤ g2 := hN4.fresh
 have hfr8 := hN4.fresh
 have hc7 := hN4.chg
 have hz10 := hc7.size
 have hC9 := (Chg.refl [] w).pure hc7
 have hb5 := hN4.blk
 have hg11 := hb5.lt
 refine WR.alloc (dst := some 2) (e := 25) (by kernel_rfl) #[.int .u64 0, .int .u64 0] (by kernel_rfl) ?_
 intro g12 w13 hN14
 have hf16 : w.heap.size ≤ g12 := Nat.le_trans hC9.size hN14.fresh
 have hfr18 := hN14.fresh
 have hc17 := hN14.chg
 have hz20 := hc17.size
 have hC19 := hC9.pure hc17
 have hb15 := hN14.blk
 have hg21 := hb15.lt
 refine WR.fin (by kernel_rfl) ?_
 refine go hK1 ?_
 refine CW.seq fun K22 hK22 => ?_
 refine CW.keep [1, 2] (F' := [(1, pt g2 0), (2, pt g12 0)]) (by kernel_rfl) ?_
 refine CW.regionG 17 [some (pt g2 0), some (pt g2 0), some (.int .u64 a0.a.Lo), some (pt g2 2), some (pt g2 3), some (.int .u64 a0.b.Hi), some (.int .u64 (gMax a0.b.Hi (1 : Int))), some (.int .u64 (IntKind.u64.wrap ((a0.a.Lo).tdiv (gMax a0.b.Hi (1 : Int))))), some (pt g2 0), some (pt g2 1), some (.int .u64 a0.a.Hi), some (pt g2 2), some (pt g2 2), some (.int .u64 a0.b.Lo), some (.int .u64 (gMax a0.b.Lo (1 : Int))), some (.int .u64 (IntKind.u64.wrap ((a0.a.Hi).tdiv (gMax a0.b.Lo (1 : Int))))), some (.agg #[.int .u64 (IntKind.u64.wrap ((a0.a.Lo).tdiv (gMax a0.b.Hi (1 : Int)))), .int .u64 (IntKind.u64.wrap ((a0.a.Hi).tdiv (gMax a0.b.Lo (1 : Int))))])] (fun u => [(3, pt g2 0), (4, pt g2 0), (5, .int .u64 a0.a.Lo), (6, pt g2 2), (7, pt g2 3), (8, .int .u64 a0.b.Hi), (9, .int .u64 (gMax a0.b.Hi (1 : Int))), (10, .int .u64 (IntKind.u64.wrap ((a0.a.Lo).tdiv (gMax a0.b.Hi (1 : Int))))), (11, pt g2 0), (12, pt g2 1), (13, .int .u64 a0.a.Hi), (14, pt g2 2), (15, pt g2 2), (16, .int .u64 a0.b.Lo), (17, .int .u64 (gMax a0.b.Lo (1 : Int))), (18, .int .u64 (IntKind.u64.wrap ((a0.a.Hi).tdiv (gMax a0.b.Lo (1 : Int))))), (19, .agg #[.int .u64 (IntKind.u64.wrap ((a0.a.Lo).tdiv (gMax a0.b.Hi (1 : Int)))), .int .u64 (IntKind.u64.wrap ((a0.a.Hi).tdiv (gMax a0.b.Lo (1 : Int))))]), (1, pt g2 0), (2, pt g12 0)]) (fun _ => by kernel_rfl) (by kernel_rfl) [] (fun _ _ => True) (fun _ => trivial) (fun _ _ _ _ _ _ _ => trivial) [] [] (by kernel_rfl) (fun w' => Chg [] w13 w') (fun _ _ _ => True) (fun j x w hj h => absurd hj (by simp)) (by kernel_rfl) (by kernel_rfl) (by kernel_rfl) (by kernel_rfl) (Chg.drew w13) (fun _ _ _ h h' => h.step h' (fun t ht => .inl (cL_sub t ht))) (fun _ _ _ _ _ _ _ _ => trivial) (obsG_batch 2 0 15 (fun _ _ => by kernel_rfl) (by kernel_rfl) ⟨?_, (obsG_batch 2 3 12 (fun _ _ => by kernel_rfl) (by kernel_rfl) ⟨?_, (obsG_batch 1 6 10 (fun _ _ => by kernel_rfl) (by kernel_rfl) ⟨?_, (obsG_batch 2 8 7 (fun _ _ => by kernel_rfl) (by kernel_rfl) ⟨?_, (obsG_batch 2 11 4 (fun _ _ => by kernel_rfl) (by kernel_rfl) ⟨?_, (obsG_batch 1 14 2 (fun _ _ => by kernel_rfl) (by kernel_rfl) ⟨?_, (obsG_batch 1 16 0 (fun _ _ => by kernel_rfl) (by kernel_rfl) trivial)⟩)⟩)⟩)⟩)⟩)⟩) ?_
 ·
  intro u23 w24 hW25 _ hp26 hal27
  have hz30 := hW25.size
  have hC29 := hC19.pure hW25
  have hb31 := (hb5.pure hc17).pure hW25
  refine WR.load (dst := some 5) (t := 23) (o := 0) hb31 (by kernel_rfl) (.int .u64 a0.a.Lo) (by kernel_rfl) ?_
  refine WR.fin (by kernel_rfl) ?_
  exact fun _ ha => ⟨Chg.refl _ _, _, ha, ⟨⟨fun h => absurd h (by decide), alNone (by decide)⟩, rfl⟩⟩
 ·
  intro u32 w33 hW34 _ hp35 hal36
  have hz39 := hW34.size
  have hC38 := hC19.pure hW34
  have hb40 := (hb5.pure hc17).pure hW34
  refine WR.load (dst := some 8) (t := 23) (o := 3) hb40 (by kernel_rfl) (.int .u64 a0.b.Hi) (by kernel_rfl) ?_
  refine WR.fin (by kernel_rfl) ?_
  exact fun _ ha => ⟨Chg.refl _ _, _, ha, ⟨⟨fun h => absurd h (by decide), alNone (by decide)⟩, rfl⟩⟩
 ·
  intro u41 w42 hW43 _ hp44 hal45
  have hz48 := hW43.size
  have hC47 := hC19.pure hW43
  refine WR.valR (dst := some 10) (v := .int .u64 (IntKind.u64.wrap ((a0.a.Lo).tdiv (gMax a0.b.Hi (1 : Int))))) (w' := w42) (run_quo (kk := .u64) (x := a0.a.Lo) (y := (gMax a0.b.Hi (1 : Int))) (by kernel_rfl) (by simp only [gMax_eq]; omega) w42) ?_
  refine WR.fin (by kernel_rfl) ?_
  exact fun _ ha => ⟨Chg.refl _ _, _, ha, ⟨⟨fun h => absurd h (by decide), alNone (by decide)⟩, rfl⟩⟩
 ·
  intro u49 w50 hW51 _ hp52 hal53
  have hz56 := hW51.size
  have hC55 := hC19.pure hW51
  have hb57 := (hb5.pure hc17).pure hW51
  refine WR.load (dst := some 13) (t := 23) (o := 1) hb57 (by kernel_rfl) (.int .u64 a0.a.Hi) (by kernel_rfl) ?_
  refine WR.fin (by kernel_rfl) ?_
  exact fun _ ha => ⟨Chg.refl _ _, _, ha, ⟨⟨fun h => absurd h (by decide), alNone (by decide)⟩, rfl⟩⟩
 ·
  intro u58 w59 hW60 _ hp61 hal62
  have hz65 := hW60.size
  have hC64 := hC19.pure hW60
  have hb66 := (hb5.pure hc17).pure hW60
  refine WR.load (dst := some 16) (t := 23) (o := 2) hb66 (by kernel_rfl) (.int .u64 a0.b.Lo) (by kernel_rfl) ?_
  refine WR.fin (by kernel_rfl) ?_
  exact fun _ ha => ⟨Chg.refl _ _, _, ha, ⟨⟨fun h => absurd h (by decide), alNone (by decide)⟩, rfl⟩⟩
 ·
  intro u67 w68 hW69 _ hp70 hal71
  have hz74 := hW69.size
  have hC73 := hC19.pure hW69
  refine WR.valR (dst := some 18) (v := .int .u64 (IntKind.u64.wrap ((a0.a.Hi).tdiv (gMax a0.b.Lo (1 : Int))))) (w' := w68) (run_quo (kk := .u64) (x := a0.a.Hi) (y := (gMax a0.b.Lo (1 : Int))) (by kernel_rfl) (by simp only [gMax_eq]; omega) w68) ?_
  refine WR.fin (by kernel_rfl) ?_
  exact fun _ ha => ⟨Chg.refl _ _, _, ha, ⟨⟨fun h => absurd h (by decide), alNone (by decide)⟩, rfl⟩⟩
 intro u75 w76 hW77 _ _ _
 have hz82 := hW77.size
 have hC81 := hC19.pure hW77
 refine WR.keep [2, 19] (F' := [(2, pt g12 0), (19, .agg #[.int .u64 (IntKind.u64.wrap ((a0.a.Lo).tdiv (gMax a0.b.Hi (1 : Int)))), .int .u64 (IntKind.u64.wrap ((a0.a.Hi).tdiv (gMax a0.b.Lo (1 : Int))))])]) (by kernel_rfl) ?_
 have hb86 := hb15.pure hW77
 refine WR.store (t := 25) (o := 0) (v := .agg #[.int .u64 (IntKind.u64.wrap ((a0.a.Lo).tdiv (gMax a0.b.Hi (1 : Int)))), .int .u64 (IntKind.u64.wrap ((a0.a.Hi).tdiv (gMax a0.b.Lo (1 : Int))))]) hb86 (by kernel_rfl) #[.int .u64 (IntKind.u64.wrap ((a0.a.Lo).tdiv (gMax a0.b.Hi (1 : Int)))), .int .u64 (IntKind.u64.wrap ((a0.a.Hi).tdiv (gMax a0.b.Lo (1 : Int))))] (by kernel_rfl) ?_
 intro w83 hb84 hc85
 have hz88 := hc85.size
 have hC87 := hC81.step1 hc85 (by omega)
 refine WR.fin (by kernel_rfl) ?_
 refine go hK22 ?_
 refine CW.ret ?_
 exact retC [.agg #[.int .u64 (IntKind.u64.wrap ((a0.a.Lo).tdiv (gMax a0.b.Hi (1 : Int)))), .int .u64 (IntKind.u64.wrap ((a0.a.Hi).tdiv (gMax a0.b.Lo (1 : Int))))]] _ rfl ⟨resCell hb84 rfl (by kernel_rfl), trivial⟩ (⟨hC87, (congrArg TSpan.v hs).symm⟩)

def span_work_mod (a0 : Twork)  : TSpan := (if decide (a0.a.Hi < (gMax a0.b.Lo (1 : Int))) then a0.a else (⟨(0 : Int), (gMin a0.a.Hi (IntKind.u64.wrap ((gMax a0.b.Hi (1 : Int)) - (1 : Int))))⟩ : TSpan))

theorem span_work_mod_ok (a0 : Twork)  (_h_a0 : IU64 a0.a.Lo ∧ IU64 a0.a.Hi ∧ IU64 a0.b.Lo ∧ IU64 a0.b.Hi ∧ IU64 a0.most ∧ IU64 a0.size)  : IU64 (span_work_mod a0).Lo ∧ IU64 (span_work_mod a0).Hi := by
 rw [span_work_mod.eq_1]
 refine iteR (p := fun r : TSpan => IU64 r.Lo ∧ IU64 r.Hi) (fun hi1001 => ?_) (fun hi1001 => ?_)
 ·
  replace hi1001 : a0.a.Hi < (gMax a0.b.Lo (1 : Int)) := (of_decide_eq_true hi1001)
  exact (by exact (show IU64 a0.a.Lo ∧ IU64 a0.a.Hi from ⟨(by omega), (by omega)⟩))
 replace hi1001 : ¬ (a0.a.Hi < (gMax a0.b.Lo (1 : Int))) := (of_decide_eq_false hi1001)
 exact (by exact (show IU64 (0 : Int) ∧ IU64 (gMin a0.a.Hi (IntKind.u64.wrap ((gMax a0.b.Hi (1 : Int)) - (1 : Int)))) from ⟨(by omega), (gMin_rng (by omega) (wrapU64 _))⟩))

theorem span_work_mod_any (a0 : Twork)   (w : World)  (_h_a0 : IU64 a0.a.Lo ∧ IU64 a0.a.Hi ∧ IU64 a0.b.Lo ∧ IU64 a0.b.Hi ∧ IU64 a0.most ∧ IU64 a0.size)  : Calls Try.prog 80 #[.agg #[.int .u64 a0.a.Lo, .int .u64 a0.a.Hi, .int .u64 a0.b.Lo, .int .u64 a0.b.Hi, .bool a0.narrow, .int .u64 a0.most, .int .u64 a0.size]] w (RetV w (TSpan.v (span_work_mod a0))) := by
 have hs := span_work_mod.eq_1 a0
 refine calls_of_CW Try.func80 rfl (n := 23) Try.ntmps80 (by kernel_rfl) [0] (F := [(0, .agg #[.int .u64 a0.a.Lo, .int .u64 a0.a.Hi, .int .u64 a0.b.Lo, .int .u64 a0.b.Hi, .bool a0.narrow, .int .u64 a0.most, .int .u64 a0.size])]) (by kernel_rfl) ?_
 refine CW.seq fun K1 hK1 => ?_
 refine CW.region ?_
 refine WR.box (dst := some 1) (e := 79) (v := .agg #[.int .u64 a0.a.Lo, .int .u64 a0.a.Hi, .int .u64 a0.b.Lo, .int .u64 a0.b.Hi, .bool a0.narrow, .int .u64 a0.most, .int .u64 a0.size]) (by kernel_rfl) #[.int .u64 a0.a.Lo, .int .u64 a0.a.Hi, .int .u64 a0.b.Lo, .int .u64 a0.b.Hi, .bool a0.narrow, .int .u64 a0.most, .int .u64 a0.size] (by kernel_rfl) ?_
 intro g2 w3 hN4
 have hf6 : w.heap.size ≤ g2 := hN4.fresh
 have hfr8 := hN4.fresh
 have hc7 := hN4.chg
 have hz10 := hc7.size
 have hC9 := (Chg.refl [] w).pure hc7
 have hb5 := hN4.blk
 have hg11 := hb5.lt
 refine WR.alloc (dst := some 2) (e := 25) (by kernel_rfl) #[.int .u64 0, .int .u64 0] (by kernel_rfl) ?_
 intro g12 w13 hN14
 have hf16 : w.heap.size ≤ g12 := Nat.le_trans hC9.size hN14.fresh
 have hfr18 := hN14.fresh
 have hc17 := hN14.chg
 have hz20 := hc17.size
 have hC19 := hC9.pure hc17
 have hb15 := hN14.blk
 have hg21 := hb15.lt
 refine WR.fin (by kernel_rfl) ?_
 refine go hK1 ?_
 refine CW.seq fun K22 hK22 => ?_
 refine CW.seq fun K23 hK23 => ?_
 refine CW.region ?_
 refine WR.batch 2 [(1, pt g2 0), (2, pt g12 0), (4, pt g2 1)] (by kernel_rfl) ?_
 have hb24 := hb5.pure hc17
 refine WR.load (dst := some 5) (t := 23) (o := 1) hb24 (by kernel_rfl) (.int .u64 a0.a.Hi) (by kernel_rfl) ?_
 refine WR.batch 2 [(1, pt g2 0), (2, pt g12 0), (5, .int .u64 a0.a.Hi), (7, pt g2 2)] (by kernel_rfl) ?_
 refine WR.load (dst := some 8) (t := 23) (o := 2) hb24 (by kernel_rfl) (.int .u64 a0.b.Lo) (by kernel_rfl) ?_
 refine WR.batch 2 [(1, pt g2 0), (2, pt g12 0), (10, .bool (decide (a0.a.Hi < (gMax a0.b.Lo (1 : Int)))))] (by kernel_rfl) ?_
 refine WR.fin (by kernel_rfl) ?_
 refine go hK23 ?_
 refine CW.cond (decide (a0.a.Hi < (gMax a0.b.Lo (1 : Int)))) (by kernel_rfl) (fun ht25 => ?_) (fun ht25 => ?_)
 ·
  have hs26 := ifT ht25 hs
  replace ht25 : a0.a.Hi < (gMax a0.b.Lo (1 : Int)) := (of_decide_eq_true ht25)
  refine CW.seq fun K27 hK27 => ?_
  refine CW.region ?_
  refine WR.batch 1 [(2, pt g12 0), (11, pt g2 0)] (by kernel_rfl) ?_
  refine WR.load (dst := some 12) (t := 25) (o := 0) hb24 (by kernel_rfl) (.agg #[.int .u64 a0.a.Lo, .int .u64 a0.a.Hi]) (by kernel_rfl) ?_
  refine WR.store (t := 25) (o := 0) (v := .agg #[.int .u64 a0.a.Lo, .int .u64 a0.a.Hi]) hb15 (by kernel_rfl) #[.int .u64 a0.a.Lo, .int .u64 a0.a.Hi] (by kernel_rfl) ?_
  intro w28 hb29 hc30
  have hz32 := hc30.size
  have hC31 := hC19.step1 hc30 (by omega)
  refine WR.fin (by kernel_rfl) ?_
  refine go hK27 ?_
  refine CW.ret ?_
  exact retC [.agg #[.int .u64 a0.a.Lo, .int .u64 a0.a.Hi]] _ rfl ⟨resCell hb29 rfl (by kernel_rfl), trivial⟩ (⟨hC31, (congrArg TSpan.v hs26).symm⟩)
 have hs33 := ifF ht25 hs
 replace ht25 : ¬ (a0.a.Hi < (gMax a0.b.Lo (1 : Int))) := (of_decide_eq_false ht25)
 refine CW.skip ?_
 refine go hK22 ?_
 refine CW.seq fun K34 hK34 => ?_
 refine CW.region ?_
 refine WR.batch 2 [(1, pt g2 0), (2, pt g12 0), (14, pt g2 1)] (by kernel_rfl) ?_
 refine WR.load (dst := some 15) (t := 23) (o := 1) hb24 (by kernel_rfl) (.int .u64 a0.a.Hi) (by kernel_rfl) ?_
 refine WR.batch 2 [(2, pt g12 0), (15, .int .u64 a0.a.Hi), (17, pt g2 3)] (by kernel_rfl) ?_
 refine WR.load (dst := some 18) (t := 23) (o := 3) hb24 (by kernel_rfl) (.int .u64 a0.b.Hi) (by kernel_rfl) ?_
 refine WR.batch 4 [(2, pt g12 0), (22, .agg #[.int .u64 0, .int .u64 (gMin a0.a.Hi (IntKind.u64.wrap ((gMax a0.b.Hi (1 : Int)) - (1 : Int))))])] (by kernel_rfl) ?_
 refine WR.store (t := 25) (o := 0) (v := .agg #[.int .u64 0, .int .u64 (gMin a0.a.Hi (IntKind.u64.wrap ((gMax a0.b.Hi (1 : Int)) - (1 : Int))))]) hb15 (by kernel_rfl) #[.int .u64 0, .int .u64 (gMin a0.a.Hi (IntKind.u64.wrap ((gMax a0.b.Hi (1 : Int)) - (1 : Int))))] (by kernel_rfl) ?_
 intro w35 hb36 hc37
 have hz39 := hc37.size
 have hC38 := hC19.step1 hc37 (by omega)
 refine WR.fin (by kernel_rfl) ?_
 refine go hK34 ?_
 refine CW.ret ?_
 exact retC [.agg #[.int .u64 0, .int .u64 (gMin a0.a.Hi (IntKind.u64.wrap ((gMax a0.b.Hi (1 : Int)) - (1 : Int))))]] _ rfl ⟨resCell hb36 rfl (by kernel_rfl), trivial⟩ (⟨hC38, (congrArg TSpan.v hs33).symm⟩)

def span_work_and (a0 : Twork)  : TSpan := (letF (span_work_both a0) fun x25 => (if x25 then (letF (span_Of (bAnd .u64 a0.a.Lo a0.b.Lo)) fun x36 => x36) else (⟨(0 : Int), (gMin a0.a.Hi a0.b.Hi)⟩ : TSpan)))

theorem span_work_and_ok (a0 : Twork)  (_h_a0 : IU64 a0.a.Lo ∧ IU64 a0.a.Hi ∧ IU64 a0.b.Lo ∧ IU64 a0.b.Hi ∧ IU64 a0.most ∧ IU64 a0.size)  : IU64 (span_work_and a0).Lo ∧ IU64 (span_work_and a0).Hi := by
 rw [span_work_and.eq_1]
 refine letR (p := fun r : TSpan => IU64 r.Lo ∧ IU64 r.Hi) fun x25 _ => ?_
 refine iteR (p := fun r : TSpan => IU64 r.Lo ∧ IU64 r.Hi) (fun hi1001 => ?_) (fun hi1001 => ?_)
 ·
  refine letR (p := fun r : TSpan => IU64 r.Lo ∧ IU64 r.Hi) fun x36 hx37 => ?_
  have hx38 : IU64 x36.Lo ∧ IU64 x36.Hi := by rw [← hx37]; exact span_Of_ok (bAnd .u64 a0.a.Lo a0.b.Lo) (wrapU64 _) 
  exact (by exact (show IU64 x36.Lo ∧ IU64 x36.Hi from ⟨(by omega), (by omega)⟩))
 exact (by exact (show IU64 (0 : Int) ∧ IU64 (gMin a0.a.Hi a0.b.Hi) from ⟨(by omega), (gMin_rng (by omega) (by omega))⟩))

theorem span_work_and_any (a0 : Twork)   (w : World)  (_h_a0 : IU64 a0.a.Lo ∧ IU64 a0.a.Hi ∧ IU64 a0.b.Lo ∧ IU64 a0.b.Hi ∧ IU64 a0.most ∧ IU64 a0.size)  : Calls Try.prog 81 #[.agg #[.int .u64 a0.a.Lo, .int .u64 a0.a.Hi, .int .u64 a0.b.Lo, .int .u64 a0.b.Hi, .bool a0.narrow, .int .u64 a0.most, .int .u64 a0.size]] w (RetV w (TSpan.v (span_work_and a0))) := by
 have hs := span_work_and.eq_1 a0
 refine calls_of_CW Try.func81 rfl (n := 21) Try.ntmps81 (by kernel_rfl) [0] (F := [(0, .agg #[.int .u64 a0.a.Lo, .int .u64 a0.a.Hi, .int .u64 a0.b.Lo, .int .u64 a0.b.Hi, .bool a0.narrow, .int .u64 a0.most, .int .u64 a0.size])]) (by kernel_rfl) ?_
 refine CW.seq fun K1 hK1 => ?_
 refine CW.region ?_
 refine WR.box (dst := some 1) (e := 79) (v := .agg #[.int .u64 a0.a.Lo, .int .u64 a0.a.Hi, .int .u64 a0.b.Lo, .int .u64 a0.b.Hi, .bool a0.narrow, .int .u64 a0.most, .int .u64 a0.size]) (by kernel_rfl) #[.int .u64 a0.a.Lo, .int .u64 a0.a.Hi, .int .u64 a0.b.Lo, .int .u64 a0.b.Hi, .bool a0.narrow, .int .u64 a0.most, .int .u64 a0.size] (by kernel_rfl) ?_
 intro g2 w3 hN4
 have hf6 : w.heap.size ≤ g2 := hN4.fresh
 have hfr8 := hN4.fresh
 have hc7 := hN4.chg
 have hz10 := hc7.size
 have hC9 := (Chg.refl [] w).pure hc7
 have hb5 := hN4.blk
 have hg11 := hb5.lt
 refine WR.alloc (dst := some 2) (e := 25) (by kernel_rfl) #[.int .u64 0, .int .u64 0] (by kernel_rfl) ?_
 intro g12 w13 hN14
 have hf16 : w.heap.size ≤ g12 := Nat.le_trans hC9.size hN14.fresh
 have hfr18 := hN14.fresh
 have hc17 := hN14.chg
 have hz20 := hc17.size
 have hC19 := hC9.pure hc17
 have hb15 := hN14.blk
 have hg21 := hb15.lt
 refine WR.fin (by kernel_rfl) ?_
 refine go hK1 ?_
 refine CW.seq fun K22 hK22 => ?_
 refine CW.seq fun K23 hK23 => ?_
 refine CW.region ?_
 have hb24 := hb5.pure hc17
 refine WR.load (dst := some 3) (t := 79) (o := 0) hb24 (by kernel_rfl) (.agg #[.int .u64 a0.a.Lo, .int .u64 a0.a.Hi, .int .u64 a0.b.Lo, .int .u64 a0.b.Hi, .bool a0.narrow, .int .u64 a0.most, .int .u64 a0.size]) (by kernel_rfl) ?_
 obtain ⟨x25, hx26⟩ : ∃ x, span_work_both a0 = x := ⟨_, rfl⟩
 have hs27 := letS hx26 hs
 refine WR.call (dst := some 4) (by kernel_rfl) (retE (g := (fun r : Bool => (.bool r : Value))) hx26 (span_work_both_any a0 w13  ⟨(by omega), (by omega), (by omega), (by omega), (by omega), (by omega)⟩ )) ?_
 rintro _ w28 hc29 rfl
 have hz31 := hc29.size
 have hC30 := hC19.pure hc29
 refine WR.fin (by kernel_rfl) ?_
 refine go hK23 ?_
 refine CW.cond (x25) (by kernel_rfl) (fun ht32 => ?_) (fun ht32 => ?_)
 ·
  have hs33 := ifT ht32 hs27
  refine CW.seq fun K34 hK34 => ?_
  refine CW.region ?_
  refine WR.batch 2 [(1, pt g2 0), (2, pt g12 0), (6, pt g2 0)] (by kernel_rfl) ?_
  have hb35 := hb24.pure hc29
  refine WR.load (dst := some 7) (t := 23) (o := 0) hb35 (by kernel_rfl) (.int .u64 a0.a.Lo) (by kernel_rfl) ?_
  refine WR.batch 2 [(2, pt g12 0), (7, .int .u64 a0.a.Lo), (9, pt g2 2)] (by kernel_rfl) ?_
  refine WR.load (dst := some 10) (t := 23) (o := 2) hb35 (by kernel_rfl) (.int .u64 a0.b.Lo) (by kernel_rfl) ?_
  refine WR.batch 1 [(2, pt g12 0), (11, .int .u64 (bAnd .u64 a0.a.Lo a0.b.Lo))] (by kernel_rfl) ?_
  obtain ⟨x36, hx37⟩ : ∃ x, span_Of (bAnd .u64 a0.a.Lo a0.b.Lo) = x := ⟨_, rfl⟩
  have hs39 := letS hx37 hs33
  have hx38 : IU64 x36.Lo ∧ IU64 x36.Hi := by rw [← hx37]; exact span_Of_ok (bAnd .u64 a0.a.Lo a0.b.Lo) (wrapU64 _) 
  refine WR.call (dst := some 12) (by kernel_rfl) (retE (g := TSpan.v) hx37 (span_Of_any (bAnd .u64 a0.a.Lo a0.b.Lo) w28  (wrapU64 _) )) ?_
  rintro _ w40 hc41 rfl
  have hz43 := hc41.size
  have hC42 := hC30.pure hc41
  have hb47 := (hb15.pure hc29).pure hc41
  refine WR.store (t := 25) (o := 0) (v := .agg #[.int .u64 x36.Lo, .int .u64 x36.Hi]) hb47 (by kernel_rfl) #[.int .u64 x36.Lo, .int .u64 x36.Hi] (by kernel_rfl) ?_
  intro w44 hb45 hc46
  have hz49 := hc46.size
  have hC48 := hC42.step1 hc46 (by omega)
  refine WR.fin (by kernel_rfl) ?_
  refine go hK34 ?_
  refine CW.ret ?_
  exact retC [.agg #[.int .u64 x36.Lo, .int .u64 x36.Hi]] _ rfl ⟨resCell hb45 rfl (by kernel_rfl), trivial⟩ (⟨hC48, (congrArg TSpan.v hs39).symm⟩)
 have hs50 := ifF ht32 hs27
 refine CW.skip ?_
 refine go hK22 ?_
 refine CW.seq fun K51 hK51 => ?_
 refine CW.region ?_
 refine WR.batch 2 [(1, pt g2 0), (2, pt g12 0), (14, pt g2 1)] (by kernel_rfl) ?_
 have hb52 := hb24.pure hc29
 refine WR.load (dst := some 15) (t := 23) (o := 1) hb52 (by kernel_rfl) (.int .u64 a0.a.Hi) (by kernel_rfl) ?_
 refine WR.batch 2 [(2, pt g12 0), (15, .int .u64 a0.a.Hi), (17, pt g2 3)] (by kernel_rfl) ?_
 refine WR.load (dst := some 18) (t := 23) (o := 3) hb52 (by kernel_rfl) (.int .u64 a0.b.Hi) (by kernel_rfl) ?_
 refine WR.batch 2 [(2, pt g12 0), (20, .agg #[.int .u64 0, .int .u64 (gMin a0.a.Hi a0.b.Hi)])] (by kernel_rfl) ?_
 have hb56 := hb15.pure hc29
 refine WR.store (t := 25) (o := 0) (v := .agg #[.int .u64 0, .int .u64 (gMin a0.a.Hi a0.b.Hi)]) hb56 (by kernel_rfl) #[.int .u64 0, .int .u64 (gMin a0.a.Hi a0.b.Hi)] (by kernel_rfl) ?_
 intro w53 hb54 hc55
 have hz58 := hc55.size
 have hC57 := hC30.step1 hc55 (by omega)
 refine WR.fin (by kernel_rfl) ?_
 refine go hK51 ?_
 refine CW.ret ?_
 exact retC [.agg #[.int .u64 0, .int .u64 (gMin a0.a.Hi a0.b.Hi)]] _ rfl ⟨resCell hb54 rfl (by kernel_rfl), trivial⟩ (⟨hC57, (congrArg TSpan.v hs50).symm⟩)

def span_work_mov (a0 : Twork)  : TSpan := a0.b

theorem span_work_mov_ok (a0 : Twork)  (_h_a0 : IU64 a0.a.Lo ∧ IU64 a0.a.Hi ∧ IU64 a0.b.Lo ∧ IU64 a0.b.Hi ∧ IU64 a0.most ∧ IU64 a0.size)  : IU64 (span_work_mov a0).Lo ∧ IU64 (span_work_mov a0).Hi := by
 rw [span_work_mov.eq_1]
 exact (by exact (show IU64 a0.b.Lo ∧ IU64 a0.b.Hi from ⟨(by omega), (by omega)⟩))

theorem span_work_mov_any (a0 : Twork)   (w : World)  (_h_a0 : IU64 a0.a.Lo ∧ IU64 a0.a.Hi ∧ IU64 a0.b.Lo ∧ IU64 a0.b.Hi ∧ IU64 a0.most ∧ IU64 a0.size)  : Calls Try.prog 87 #[.agg #[.int .u64 a0.a.Lo, .int .u64 a0.a.Hi, .int .u64 a0.b.Lo, .int .u64 a0.b.Hi, .bool a0.narrow, .int .u64 a0.most, .int .u64 a0.size]] w (RetV w (TSpan.v (span_work_mov a0))) := by
 have hs := span_work_mov.eq_1 a0
 refine calls_of_CW Try.func87 rfl (n := 5) Try.ntmps87 (by kernel_rfl) [0] (F := [(0, .agg #[.int .u64 a0.a.Lo, .int .u64 a0.a.Hi, .int .u64 a0.b.Lo, .int .u64 a0.b.Hi, .bool a0.narrow, .int .u64 a0.most, .int .u64 a0.size])]) (by kernel_rfl) ?_
 refine CW.seq fun K1 hK1 => ?_
 refine CW.region ?_
 refine WR.box (dst := some 1) (e := 79) (v := .agg #[.int .u64 a0.a.Lo, .int .u64 a0.a.Hi, .int .u64 a0.b.Lo, .int .u64 a0.b.Hi, .bool a0.narrow, .int .u64 a0.most, .int .u64 a0.size]) (by kernel_rfl) #[.int .u64 a0.a.Lo, .int .u64 a0.a.Hi, .int .u64 a0.b.Lo, .int .u64 a0.b.Hi, .bool a0.narrow, .int .u64 a0.most, .int .u64 a0.size] (by kernel_rfl) ?_
 intro g2 w3 hN4
 have hf6 : w.heap.size ≤ g2 := hN4.fresh
 have hfr8 := hN4.fresh
 have hc7 := hN4.chg
 have hz10 := hc7.size
 have hC9 := (Chg.refl [] w).pure hc7
 have hb5 := hN4.blk
 have hg11 := hb5.lt
 refine WR.alloc (dst := some 2) (e := 25) (by kernel_rfl) #[.int .u64 0, .int .u64 0] (by kernel_rfl) ?_
 intro g12 w13 hN14
 have hf16 : w.heap.size ≤ g12 := Nat.le_trans hC9.size hN14.fresh
 have hfr18 := hN14.fresh
 have hc17 := hN14.chg
 have hz20 := hc17.size
 have hC19 := hC9.pure hc17
 have hb15 := hN14.blk
 have hg21 := hb15.lt
 refine WR.fin (by kernel_rfl) ?_
 refine go hK1 ?_
 refine CW.seq fun K22 hK22 => ?_
 refine CW.region ?_
 refine WR.batch 1 [(2, pt g12 0), (3, pt g2 2)] (by kernel_rfl) ?_
 have hb23 := hb5.pure hc17
 refine WR.load (dst := some 4) (t := 25) (o := 2) hb23 (by kernel_rfl) (.agg #[.int .u64 a0.b.Lo, .int .u64 a0.b.Hi]) (by kernel_rfl) ?_
 refine WR.store (t := 25) (o := 0) (v := .agg #[.int .u64 a0.b.Lo, .int .u64 a0.b.Hi]) hb15 (by kernel_rfl) #[.int .u64 a0.b.Lo, .int .u64 a0.b.Hi] (by kernel_rfl) ?_
 intro w24 hb25 hc26
 have hz28 := hc26.size
 have hC27 := hC19.step1 hc26 (by omega)
 refine WR.fin (by kernel_rfl) ?_
 refine go hK22 ?_
 refine CW.ret ?_
 exact retC [.agg #[.int .u64 a0.b.Lo, .int .u64 a0.b.Hi]] _ rfl ⟨resCell hb25 rfl (by kernel_rfl), trivial⟩ (⟨hC27, (congrArg TSpan.v hs).symm⟩)

def span_work_neg (a0 : Twork)  : Option TSpan := (if (a0.a.Hi == (0 : Int)) then some a0.a else (optF (span_must (decide (a0.a.Lo > (0 : Int)))) (none) fun _ => (letF (span_work_ends a0 (IntKind.u64.wrap (0 - a0.a.Hi)) (IntKind.u64.wrap (0 - a0.a.Lo))) fun x49 => some x49)))

theorem span_work_neg_ok (a0 : Twork)  (_h_a0 : IU64 a0.a.Lo ∧ IU64 a0.a.Hi ∧ IU64 a0.b.Lo ∧ IU64 a0.b.Hi ∧ IU64 a0.most ∧ IU64 a0.size)  : ∀ y, (span_work_neg a0) = some y → IU64 y.Lo ∧ IU64 y.Hi := by
 rw [span_work_neg.eq_1]
 refine iteR (p := fun r : Option TSpan => ∀ y, r = some y → IU64 y.Lo ∧ IU64 y.Hi) (fun hi1001 => ?_) (fun hi1001 => ?_)
 ·
  replace hi1001 : a0.a.Hi = (0 : Int) := (bEqT hi1001)
  intro y hy; cases hy; exact (by exact (show IU64 a0.a.Lo ∧ IU64 a0.a.Hi from ⟨(by omega), (by omega)⟩))
 replace hi1001 : a0.a.Hi ≠ (0 : Int) := (bEqF hi1001)
 refine optR (p := fun r : Option TSpan => ∀ y, r = some y → IU64 y.Lo ∧ IU64 y.Hi) (fun _ => ?_) (fun x35 _ => ?_)
 ·
  intro y hy; cases hy
 refine letR (p := fun r : Option TSpan => ∀ y, r = some y → IU64 y.Lo ∧ IU64 y.Hi) fun x49 hx50 => ?_
 have hx51 : IU64 x49.Lo ∧ IU64 x49.Hi := by rw [← hx50]; exact span_work_ends_ok a0 (IntKind.u64.wrap (0 - a0.a.Hi)) (IntKind.u64.wrap (0 - a0.a.Lo)) ⟨(by omega), (by omega), (by omega), (by omega), (by omega), (by omega)⟩ (wrapU64 _) (wrapU64 _) 
 intro y hy; cases hy; exact (by exact (show IU64 x49.Lo ∧ IU64 x49.Hi from ⟨(by omega), (by omega)⟩))

theorem span_work_neg_any (a0 : Twork)   (w : World)  (_h_a0 : IU64 a0.a.Lo ∧ IU64 a0.a.Hi ∧ IU64 a0.b.Lo ∧ IU64 a0.b.Hi ∧ IU64 a0.most ∧ IU64 a0.size)  : Calls Try.prog 88 #[.agg #[.int .u64 a0.a.Lo, .int .u64 a0.a.Hi, .int .u64 a0.b.Lo, .int .u64 a0.b.Hi, .bool a0.narrow, .int .u64 a0.most, .int .u64 a0.size]] w (RetP w (.iface 76 (.agg #[])) (((span_work_neg a0)).map TSpan.v)) := by
 have hs := span_work_neg.eq_1 a0
 refine calls_of_CW Try.func88 rfl (n := 24) Try.ntmps88 (by kernel_rfl) [0] (F := [(0, .agg #[.int .u64 a0.a.Lo, .int .u64 a0.a.Hi, .int .u64 a0.b.Lo, .int .u64 a0.b.Hi, .bool a0.narrow, .int .u64 a0.most, .int .u64 a0.size])]) (by kernel_rfl) ?_
 refine CW.seq fun K1 hK1 => ?_
 refine CW.region ?_
 refine WR.box (dst := some 1) (e := 79) (v := .agg #[.int .u64 a0.a.Lo, .int .u64 a0.a.Hi, .int .u64 a0.b.Lo, .int .u64 a0.b.Hi, .bool a0.narrow, .int .u64 a0.most, .int .u64 a0.size]) (by kernel_rfl) #[.int .u64 a0.a.Lo, .int .u64 a0.a.Hi, .int .u64 a0.b.Lo, .int .u64 a0.b.Hi, .bool a0.narrow, .int .u64 a0.most, .int .u64 a0.size] (by kernel_rfl) ?_
 intro g2 w3 hN4
 have hf6 : w.heap.size ≤ g2 := hN4.fresh
 have hfr8 := hN4.fresh
 have hc7 := hN4.chg
 have hz10 := hc7.size
 have hC9 := (Chg.refl [] w).pure hc7
 have hb5 := hN4.blk
 have hg11 := hb5.lt
 refine WR.alloc (dst := some 2) (e := 25) (by kernel_rfl) #[.int .u64 0, .int .u64 0] (by kernel_rfl) ?_
 intro g12 w13 hN14
 have hf16 : w.heap.size ≤ g12 := Nat.le_trans hC9.size hN14.fresh
 have hfr18 := hN14.fresh
 have hc17 := hN14.chg
 have hz20 := hc17.size
 have hC19 := hC9.pure hc17
 have hb15 := hN14.blk
 have hg21 := hb15.lt
 refine WR.fin (by kernel_rfl) ?_
 refine go hK1 ?_
 refine CW.seq fun K22 hK22 => ?_
 refine CW.seq fun K23 hK23 => ?_
 refine CW.region ?_
 refine WR.batch 2 [(1, pt g2 0), (2, pt g12 0), (4, pt g2 1)] (by kernel_rfl) ?_
 have hb24 := hb5.pure hc17
 refine WR.load (dst := some 5) (t := 23) (o := 1) hb24 (by kernel_rfl) (.int .u64 a0.a.Hi) (by kernel_rfl) ?_
 refine WR.batch 1 [(1, pt g2 0), (2, pt g12 0), (6, .bool (a0.a.Hi == (0 : Int)))] (by kernel_rfl) ?_
 refine WR.fin (by kernel_rfl) ?_
 refine go hK23 ?_
 refine CW.cond ((a0.a.Hi == (0 : Int))) (by kernel_rfl) (fun ht25 => ?_) (fun ht25 => ?_)
 ·
  have hs26 := ifT ht25 hs
  replace ht25 : a0.a.Hi = (0 : Int) := (bEqT ht25)
  refine CW.seq fun K27 hK27 => ?_
  refine CW.region ?_
  refine WR.batch 1 [(2, pt g12 0), (7, pt g2 0)] (by kernel_rfl) ?_
  refine WR.load (dst := some 8) (t := 25) (o := 0) hb24 (by kernel_rfl) (.agg #[.int .u64 a0.a.Lo, .int .u64 a0.a.Hi]) (by kernel_rfl) ?_
  refine WR.store (t := 25) (o := 0) (v := .agg #[.int .u64 a0.a.Lo, .int .u64 a0.a.Hi]) hb15 (by kernel_rfl) #[.int .u64 a0.a.Lo, .int .u64 a0.a.Hi] (by kernel_rfl) ?_
  intro w28 hb29 hc30
  have hz32 := hc30.size
  have hC31 := hC19.step1 hc30 (by omega)
  refine WR.fin (by kernel_rfl) ?_
  refine go hK27 ?_
  refine CW.ret ?_
  exact retC [.agg #[.int .u64 a0.a.Lo, .int .u64 a0.a.Hi]] _ rfl ⟨resCell hb29 rfl (by kernel_rfl), trivial⟩ (retP_ret (g := TSpan.v) hs26 rfl hC31)
 have hs33 := ifF ht25 hs
 replace ht25 : a0.a.Hi ≠ (0 : Int) := (bEqF ht25)
 refine CW.skip ?_
 refine go hK22 ?_
 refine CW.seq fun K34 hK34 => ?_
 refine CW.region ?_
 refine WR.batch 2 [(1, pt g2 0), (2, pt g12 0), (10, pt g2 0)] (by kernel_rfl) ?_
 refine WR.load (dst := some 11) (t := 23) (o := 0) hb24 (by kernel_rfl) (.int .u64 a0.a.Lo) (by kernel_rfl) ?_
 refine WR.batch 1 [(1, pt g2 0), (2, pt g12 0), (12, .bool (decide (a0.a.Lo > (0 : Int))))] (by kernel_rfl) ?_
 rcases hx36 : span_must (decide (a0.a.Lo > (0 : Int))) with _ | x35
 ·
  have hs39 := optN hx36 hs33
  refine WR.callX (dst := some 13) (by kernel_rfl) (retP_no (g := (fun _ : Unit => (.tuple #[] : Value))) hx36 (span_must_any (decide (a0.a.Lo > (0 : Int))) w13  )) ?_
  intro w37 hc38
  have hz41 := hc38.size
  have hC40 := hC19.pure hc38
  exact panicV (P := Try.prog) (fn := Try.f88) (retP_pan hs39 hC40)
 have hs42 := optS hx36 hs33
 refine WR.call (dst := some 13) (by kernel_rfl) (retP_yes (g := (fun _ : Unit => (.tuple #[] : Value))) hx36 (span_must_any (decide (a0.a.Lo > (0 : Int))) w13  )) ?_
 rintro _ w43 hc44 rfl
 have hz46 := hc44.size
 have hC45 := hC19.pure hc44
 refine WR.fin (by kernel_rfl) ?_
 refine go hK34 ?_
 refine CW.seq fun K47 hK47 => ?_
 refine CW.region ?_
 have hb48 := hb24.pure hc44
 refine WR.load (dst := some 14) (t := 79) (o := 0) hb48 (by kernel_rfl) (.agg #[.int .u64 a0.a.Lo, .int .u64 a0.a.Hi, .int .u64 a0.b.Lo, .int .u64 a0.b.Hi, .bool a0.narrow, .int .u64 a0.most, .int .u64 a0.size]) (by kernel_rfl) ?_
 refine WR.batch 2 [(1, pt g2 0), (2, pt g12 0), (14, .agg #[.int .u64 a0.a.Lo, .int .u64 a0.a.Hi, .int .u64 a0.b.Lo, .int .u64 a0.b.Hi, .bool a0.narrow, .int .u64 a0.most, .int .u64 a0.size]), (16, pt g2 1)] (by kernel_rfl) ?_
 refine WR.load (dst := some 17) (t := 23) (o := 1) hb48 (by kernel_rfl) (.int .u64 a0.a.Hi) (by kernel_rfl) ?_
 refine WR.batch 3 [(2, pt g12 0), (14, .agg #[.int .u64 a0.a.Lo, .int .u64 a0.a.Hi, .int .u64 a0.b.Lo, .int .u64 a0.b.Hi, .bool a0.narrow, .int .u64 a0.most, .int .u64 a0.size]), (18, .int .u64 (IntKind.u64.wrap (0 - a0.a.Hi))), (20, pt g2 0)] (by kernel_rfl) ?_
 refine WR.load (dst := some 21) (t := 23) (o := 0) hb48 (by kernel_rfl) (.int .u64 a0.a.Lo) (by kernel_rfl) ?_
 refine WR.batch 1 [(2, pt g12 0), (14, .agg #[.int .u64 a0.a.Lo, .int .u64 a0.a.Hi, .int .u64 a0.b.Lo, .int .u64 a0.b.Hi, .bool a0.narrow, .int .u64 a0.most, .int .u64 a0.size]), (18, .int .u64 (IntKind.u64.wrap (0 - a0.a.Hi))), (22, .int .u64 (IntKind.u64.wrap (0 - a0.a.Lo)))] (by kernel_rfl) ?_
 obtain ⟨x49, hx50⟩ : ∃ x, span_work_ends a0 (IntKind.u64.wrap (0 - a0.a.Hi)) (IntKind.u64.wrap (0 - a0.a.Lo)) = x := ⟨_, rfl⟩
 have hs52 := letS hx50 hs42
 have hx51 : IU64 x49.Lo ∧ IU64 x49.Hi := by rw [← hx50]; exact span_work_ends_ok a0 (IntKind.u64.wrap (0 - a0.a.Hi)) (IntKind.u64.wrap (0 - a0.a.Lo)) ⟨(by omega), (by omega), (by omega), (by omega), (by omega), (by omega)⟩ (wrapU64 _) (wrapU64 _) 
 refine WR.call (dst := some 23) (by kernel_rfl) (retE (g := TSpan.v) hx50 (span_work_ends_any a0 (IntKind.u64.wrap (0 - a0.a.Hi)) (IntKind.u64.wrap (0 - a0.a.Lo)) w43  ⟨(by omega), (by omega), (by omega), (by omega), (by omega), (by omega)⟩ (wrapU64 _) (wrapU64 _) )) ?_
 rintro _ w53 hc54 rfl
 have hz56 := hc54.size
 have hC55 := hC45.pure hc54
 have hb60 := (hb15.pure hc44).pure hc54
 refine WR.store (t := 25) (o := 0) (v := .agg #[.int .u64 x49.Lo, .int .u64 x49.Hi]) hb60 (by kernel_rfl) #[.int .u64 x49.Lo, .int .u64 x49.Hi] (by kernel_rfl) ?_
 intro w57 hb58 hc59
 have hz62 := hc59.size
 have hC61 := hC55.step1 hc59 (by omega)
 refine WR.fin (by kernel_rfl) ?_
 refine go hK47 ?_
 refine CW.ret ?_
 exact retC [.agg #[.int .u64 x49.Lo, .int .u64 x49.Hi]] _ rfl ⟨resCell hb58 rfl (by kernel_rfl), trivial⟩ (retP_ret (g := TSpan.v) hs52 rfl hC61)

def span_work_shl (a0 : Twork)  : Option TSpan := (letF (span_one a0.b) fun x26 => (optF (span_must (x26 && (decide (a0.a.Hi ≤ (sShr .u64 a0.most ((a0.b.Lo).tmod a0.size)))))) (none) fun _ => some (⟨(sShl .u64 a0.a.Lo ((a0.b.Lo).tmod a0.size)), (sShl .u64 a0.a.Hi ((a0.b.Lo).tmod a0.size))⟩ : TSpan)))

theorem span_work_shl_ok (a0 : Twork)  (_h_a0 : IU64 a0.a.Lo ∧ IU64 a0.a.Hi ∧ IU64 a0.b.Lo ∧ IU64 a0.b.Hi ∧ IU64 a0.most ∧ IU64 a0.size) (_hsz : a0.size = 32 ∨ a0.size = 64) : ∀ y, (span_work_shl a0) = some y → IU64 y.Lo ∧ IU64 y.Hi := by
 rw [span_work_shl.eq_1]
 refine letR (p := fun r : Option TSpan => ∀ y, r = some y → IU64 y.Lo ∧ IU64 y.Hi) fun x26 _ => ?_
 refine optR (p := fun r : Option TSpan => ∀ y, r = some y → IU64 y.Lo ∧ IU64 y.Hi) (fun _ => ?_) (fun x42 _ => ?_)
 ·
  intro y hy; cases hy
 intro y hy; cases hy; exact (by exact (show IU64 (sShl .u64 a0.a.Lo ((a0.b.Lo).tmod a0.size)) ∧ IU64 (sShl .u64 a0.a.Hi ((a0.b.Lo).tmod a0.size)) from ⟨(wrapU64 _), (wrapU64 _)⟩))

theorem span_work_shl_any (a0 : Twork)   (w : World)  (_h_a0 : IU64 a0.a.Lo ∧ IU64 a0.a.Hi ∧ IU64 a0.b.Lo ∧ IU64 a0.b.Hi ∧ IU64 a0.most ∧ IU64 a0.size) (_hsz : a0.size = 32 ∨ a0.size = 64) : Calls Try.prog 84 #[.agg #[.int .u64 a0.a.Lo, .int .u64 a0.a.Hi, .int .u64 a0.b.Lo, .int .u64 a0.b.Hi, .bool a0.narrow, .int .u64 a0.most, .int .u64 a0.size]] w (RetP w (.iface 76 (.agg #[])) (((span_work_shl a0)).map TSpan.v)) := by
 have hs := span_work_shl.eq_1 a0
 refine calls_of_CW Try.func84 rfl (n := 35) Try.ntmps84 (by kernel_rfl) [0] (F := [(0, .agg #[.int .u64 a0.a.Lo, .int .u64 a0.a.Hi, .int .u64 a0.b.Lo, .int .u64 a0.b.Hi, .bool a0.narrow, .int .u64 a0.most, .int .u64 a0.size])]) (by kernel_rfl) ?_
 refine CW.seq fun K1 hK1 => ?_
 refine CW.region ?_
 refine WR.box (dst := some 1) (e := 79) (v := .agg #[.int .u64 a0.a.Lo, .int .u64 a0.a.Hi, .int .u64 a0.b.Lo, .int .u64 a0.b.Hi, .bool a0.narrow, .int .u64 a0.most, .int .u64 a0.size]) (by kernel_rfl) #[.int .u64 a0.a.Lo, .int .u64 a0.a.Hi, .int .u64 a0.b.Lo, .int .u64 a0.b.Hi, .bool a0.narrow, .int .u64 a0.most, .int .u64 a0.size] (by kernel_rfl) ?_
 intro g2 w3 hN4
 have hf6 : w.heap.size ≤ g2 := hN4.fresh
 have hfr8 := hN4.fresh
 have hc7 := hN4.chg
 have hz10 := hc7.size
 have hC9 := (Chg.refl [] w).pure hc7
 have hb5 := hN4.blk
 have hg11 := hb5.lt
 refine WR.alloc (dst := some 2) (e := 25) (by kernel_rfl) #[.int .u64 0, .int .u64 0] (by kernel_rfl) ?_
 intro g12 w13 hN14
 have hf16 : w.heap.size ≤ g12 := Nat.le_trans hC9.size hN14.fresh
 have hfr18 := hN14.fresh
 have hc17 := hN14.chg
 have hz20 := hc17.size
 have hC19 := hC9.pure hc17
 have hb15 := hN14.blk
 have hg21 := hb15.lt
 refine WR.fin (by kernel_rfl) ?_
 refine go hK1 ?_
 refine CW.seq fun K22 hK22 => ?_
 refine CW.region ?_
 refine WR.batch 2 [(1, pt g2 0), (2, pt g12 0), (5, pt g2 2)] (by kernel_rfl) ?_
 have hb23 := hb5.pure hc17
 refine WR.load (dst := some 6) (t := 23) (o := 2) hb23 (by kernel_rfl) (.int .u64 a0.b.Lo) (by kernel_rfl) ?_
 refine WR.batch 1 [(1, pt g2 0), (2, pt g12 0), (6, .int .u64 a0.b.Lo), (7, pt g2 6)] (by kernel_rfl) ?_
 refine WR.load (dst := some 8) (t := 23) (o := 6) hb23 (by kernel_rfl) (.int .u64 a0.size) (by kernel_rfl) ?_
 refine WR.valR (dst := some 9) (v := .int .u64 ((a0.b.Lo).tmod a0.size)) (w' := w13) (run_rem (kk := .u64) (x := a0.b.Lo) (y := a0.size) (by kernel_rfl) (by omega) w13) ?_
 have hm24 := tmod_rng (x := a0.b.Lo) (y := a0.size) (m := 18446744073709551615) (by omega) (by omega)
 refine WR.batch 1 [(1, pt g2 0), (2, pt g12 0), (3, .int .u64 ((a0.b.Lo).tmod a0.size))] (by kernel_rfl) ?_
 refine WR.fin (by kernel_rfl) ?_
 refine go hK22 ?_
 refine CW.seq fun K25 hK25 => ?_
 refine CW.region ?_
 refine WR.batch 1 [(1, pt g2 0), (2, pt g12 0), (3, .int .u64 ((a0.b.Lo).tmod a0.size)), (10, pt g2 2)] (by kernel_rfl) ?_
 refine WR.load (dst := some 11) (t := 25) (o := 2) hb23 (by kernel_rfl) (.agg #[.int .u64 a0.b.Lo, .int .u64 a0.b.Hi]) (by kernel_rfl) ?_
 obtain ⟨x26, hx27⟩ : ∃ x, span_one a0.b = x := ⟨_, rfl⟩
 have hs28 := letS hx27 hs
 refine WR.call (dst := some 12) (by kernel_rfl) (retE (g := (fun r : Bool => (.bool r : Value))) hx27 (span_one_any a0.b w13  ⟨(by omega), (by omega)⟩ )) ?_
 rintro _ w29 hc30 rfl
 have hz32 := hc30.size
 have hC31 := hC19.pure hc30
 refine WR.batch 1 [(1, pt g2 0), (2, pt g12 0), (3, .int .u64 ((a0.b.Lo).tmod a0.size)), (13, .bool x26)] (by kernel_rfl) ?_
 refine WR.mergeW 13 [(1, pt g2 0), (2, pt g12 0), (3, .int .u64 ((a0.b.Lo).tmod a0.size)), (22, .bool (x26 && (decide (a0.a.Hi ≤ (sShr .u64 a0.most ((a0.b.Lo).tmod a0.size))))))] (fun w' => Chg [] w29 w') (fun Q' => ?_) ?_
 ·
  cases hg33 : x26
  ·
   have hk35 := hg33
   intro hM34
   refine WR.batch 9 [(1, pt g2 0), (2, pt g12 0), (3, .int .u64 ((a0.b.Lo).tmod a0.size)), (22, .bool false)] (by kernel_rfl) ?_
   exact WR.keep [1, 2, 3, 22] (by kernel_rfl) (hM34 _ (Chg.refl [] w29))
  ·
   have hk36 := hg33
   intro hM34
   refine WR.batch 2 [(1, pt g2 0), (2, pt g12 0), (3, .int .u64 ((a0.b.Lo).tmod a0.size)), (13, .bool true), (15, pt g2 1)] (by kernel_rfl) ?_
   have hb37 := hb23.pure hc30
   refine WR.load (dst := some 16) (t := 23) (o := 1) hb37 (by kernel_rfl) (.int .u64 a0.a.Hi) (by kernel_rfl) ?_
   refine WR.batch 1 [(1, pt g2 0), (2, pt g12 0), (3, .int .u64 ((a0.b.Lo).tmod a0.size)), (13, .bool true), (16, .int .u64 a0.a.Hi), (17, pt g2 5)] (by kernel_rfl) ?_
   refine WR.load (dst := some 18) (t := 23) (o := 5) hb37 (by kernel_rfl) (.int .u64 a0.most) (by kernel_rfl) ?_
   refine WR.batch 1 [(1, pt g2 0), (2, pt g12 0), (3, .int .u64 ((a0.b.Lo).tmod a0.size)), (13, .bool true), (16, .int .u64 a0.a.Hi), (18, .int .u64 a0.most), (19, .int .u64 ((a0.b.Lo).tmod a0.size))] (by kernel_rfl) ?_
   refine WR.valR (dst := some 20) (v := .int .u64 (sShr .u64 a0.most ((a0.b.Lo).tmod a0.size))) (w' := w29) (run_shr (kk := .u64) (k' := .u64) (x := a0.most) (y := ((a0.b.Lo).tmod a0.size)) (by kernel_rfl) (show IU64 ((a0.b.Lo).tmod a0.size) from (tmod_rng (by omega) (by omega))).1 w29) ?_
   refine WR.batch 2 [(1, pt g2 0), (2, pt g12 0), (3, .int .u64 ((a0.b.Lo).tmod a0.size)), (22, .bool (decide (a0.a.Hi ≤ (sShr .u64 a0.most ((a0.b.Lo).tmod a0.size)))))] (by kernel_rfl) ?_
   exact WR.keep [1, 2, 3, 22] (by kernel_rfl) (hM34 _ (Chg.refl [] w29))
 intro w38 hc39
 have hz41 := hc39.size
 have hC40 := hC31.pure hc39
 rcases hx43 : span_must (x26 && (decide (a0.a.Hi ≤ (sShr .u64 a0.most ((a0.b.Lo).tmod a0.size))))) with _ | x42
 ·
  have hs46 := optN hx43 hs28
  refine WR.callX (dst := some 23) (by kernel_rfl) (retP_no (g := (fun _ : Unit => (.tuple #[] : Value))) hx43 (span_must_any (x26 && (decide (a0.a.Hi ≤ (sShr .u64 a0.most ((a0.b.Lo).tmod a0.size))))) w38  )) ?_
  intro w44 hc45
  have hz48 := hc45.size
  have hC47 := hC40.pure hc45
  exact panicV (P := Try.prog) (fn := Try.f84) (retP_pan hs46 hC47)
 have hs49 := optS hx43 hs28
 refine WR.call (dst := some 23) (by kernel_rfl) (retP_yes (g := (fun _ : Unit => (.tuple #[] : Value))) hx43 (span_must_any (x26 && (decide (a0.a.Hi ≤ (sShr .u64 a0.most ((a0.b.Lo).tmod a0.size))))) w38  )) ?_
 rintro _ w50 hc51 rfl
 have hz53 := hc51.size
 have hC52 := hC40.pure hc51
 refine WR.fin (by kernel_rfl) ?_
 refine go hK25 ?_
 refine CW.seq fun K54 hK54 => ?_
 refine CW.region ?_
 refine WR.batch 2 [(1, pt g2 0), (2, pt g12 0), (3, .int .u64 ((a0.b.Lo).tmod a0.size)), (25, pt g2 0)] (by kernel_rfl) ?_
 have hb55 := ((hb23.pure hc30).pure hc39).pure hc51
 refine WR.load (dst := some 26) (t := 23) (o := 0) hb55 (by kernel_rfl) (.int .u64 a0.a.Lo) (by kernel_rfl) ?_
 refine WR.batch 1 [(1, pt g2 0), (2, pt g12 0), (3, .int .u64 ((a0.b.Lo).tmod a0.size)), (26, .int .u64 a0.a.Lo), (27, .int .u64 ((a0.b.Lo).tmod a0.size))] (by kernel_rfl) ?_
 refine WR.valR (dst := some 28) (v := .int .u64 (sShl .u64 a0.a.Lo ((a0.b.Lo).tmod a0.size))) (w' := w50) (run_shl (kk := .u64) (k' := .u64) (x := a0.a.Lo) (y := ((a0.b.Lo).tmod a0.size)) (by kernel_rfl) (show IU64 ((a0.b.Lo).tmod a0.size) from (tmod_rng (by omega) (by omega))).1 w50) ?_
 refine WR.batch 2 [(2, pt g12 0), (3, .int .u64 ((a0.b.Lo).tmod a0.size)), (28, .int .u64 (sShl .u64 a0.a.Lo ((a0.b.Lo).tmod a0.size))), (30, pt g2 1)] (by kernel_rfl) ?_
 refine WR.load (dst := some 31) (t := 23) (o := 1) hb55 (by kernel_rfl) (.int .u64 a0.a.Hi) (by kernel_rfl) ?_
 refine WR.batch 1 [(2, pt g12 0), (28, .int .u64 (sShl .u64 a0.a.Lo ((a0.b.Lo).tmod a0.size))), (31, .int .u64 a0.a.Hi), (32, .int .u64 ((a0.b.Lo).tmod a0.size))] (by kernel_rfl) ?_
 refine WR.valR (dst := some 33) (v := .int .u64 (sShl .u64 a0.a.Hi ((a0.b.Lo).tmod a0.size))) (w' := w50) (run_shl (kk := .u64) (k' := .u64) (x := a0.a.Hi) (y := ((a0.b.Lo).tmod a0.size)) (by kernel_rfl) (show IU64 ((a0.b.Lo).tmod a0.size) from (tmod_rng (by omega) (by omega))).1 w50) ?_
 refine WR.batch 1 [(2, pt g12 0), (34, .agg #[.int .u64 (sShl .u64 a0.a.Lo ((a0.b.Lo).tmod a0.size)), .int .u64 (sShl .u64 a0.a.Hi ((a0.b.Lo).tmod a0.size))])] (by kernel_rfl) ?_
 have hb59 := ((hb15.pure hc30).pure hc39).pure hc51
 refine WR.store (t := 25) (o := 0) (v := .agg #[.int .u64 (sShl .u64 a0.a.Lo ((a0.b.Lo).tmod a0.size)), .int .u64 (sShl .u64 a0.a.Hi ((a0.b.Lo).tmod a0.size))]) hb59 (by kernel_rfl) #[.int .u64 (sShl .u64 a0.a.Lo ((a0.b.Lo).tmod a0.size)), .int .u64 (sShl .u64 a0.a.Hi ((a0.b.Lo).tmod a0.size))] (by kernel_rfl) ?_
 intro w56 hb57 hc58
 have hz61 := hc58.size
 have hC60 := hC52.step1 hc58 (by omega)
 refine WR.fin (by kernel_rfl) ?_
 refine go hK54 ?_
 refine CW.ret ?_
 exact retC [.agg #[.int .u64 (sShl .u64 a0.a.Lo ((a0.b.Lo).tmod a0.size)), .int .u64 (sShl .u64 a0.a.Hi ((a0.b.Lo).tmod a0.size))]] _ rfl ⟨resCell hb57 rfl (by kernel_rfl), trivial⟩ (retP_ret (g := TSpan.v) hs49 rfl hC60)

def span_work_shr_J0 (a0 : Twork) (v100 : Int) (v101 : Int) : TSpan := (⟨(sShr .u64 a0.a.Lo v100), (sShr .u64 a0.a.Hi v101)⟩ : TSpan)

def span_work_shr (a0 : Twork)  : TSpan := (letF (span_one a0.b) fun x36 => (if x36 then (span_work_shr_J0 a0 ((a0.b.Hi).tmod a0.size) ((a0.b.Lo).tmod a0.size)) else (if decide (a0.b.Hi ≥ a0.size) then (⟨(0 : Int), a0.a.Hi⟩ : TSpan) else (span_work_shr_J0 a0 a0.b.Hi a0.b.Lo))))

theorem span_work_shr_J0_ok (a0 : Twork) (_h_a0 : IU64 a0.a.Lo ∧ IU64 a0.a.Hi ∧ IU64 a0.b.Lo ∧ IU64 a0.b.Hi ∧ IU64 a0.most ∧ IU64 a0.size) (_hsz : a0.size = 32 ∨ a0.size = 64) (v100 : Int) (v101 : Int) (_hr_v100 : IU64 v100) (_hr_v101 : IU64 v101) : IU64 (span_work_shr_J0 a0 v100 v101).Lo ∧ IU64 (span_work_shr_J0 a0 v100 v101).Hi := by
 rw [span_work_shr_J0.eq_1]
 exact (by exact (show IU64 (sShr .u64 a0.a.Lo v100) ∧ IU64 (sShr .u64 a0.a.Hi v101) from ⟨(sShr_rng (by omega)), (sShr_rng (by omega))⟩))

theorem span_work_shr_ok (a0 : Twork)  (h_a0 : IU64 a0.a.Lo ∧ IU64 a0.a.Hi ∧ IU64 a0.b.Lo ∧ IU64 a0.b.Hi ∧ IU64 a0.most ∧ IU64 a0.size) (hsz : a0.size = 32 ∨ a0.size = 64) : IU64 (span_work_shr a0).Lo ∧ IU64 (span_work_shr a0).Hi := by
 rw [span_work_shr.eq_1]
 refine letR (p := fun r : TSpan => IU64 r.Lo ∧ IU64 r.Hi) fun x36 _ => ?_
 refine iteR (p := fun r : TSpan => IU64 r.Lo ∧ IU64 r.Hi) (fun hi1001 => ?_) (fun hi1001 => ?_)
 ·
  exact span_work_shr_J0_ok a0 h_a0 hsz  ((a0.b.Hi).tmod a0.size) ((a0.b.Lo).tmod a0.size) (tmod_rng (by omega) (by omega)) (tmod_rng (by omega) (by omega))
 refine iteR (p := fun r : TSpan => IU64 r.Lo ∧ IU64 r.Hi) (fun hi1002 => ?_) (fun hi1002 => ?_)
 ·
  replace hi1002 : a0.b.Hi ≥ a0.size := (of_decide_eq_true hi1002)
  exact (by exact (show IU64 (0 : Int) ∧ IU64 a0.a.Hi from ⟨(by omega), (by omega)⟩))
 replace hi1002 : ¬ (a0.b.Hi ≥ a0.size) := (of_decide_eq_false hi1002)
 exact span_work_shr_J0_ok a0 h_a0 hsz  a0.b.Hi a0.b.Lo (by omega) (by omega)

set_option maxRecDepth 100000 in
set_option maxHeartbeats 4000000 in
theorem span_work_shr_any (a0 : Twork)   (w : World)  (_h_a0 : IU64 a0.a.Lo ∧ IU64 a0.a.Hi ∧ IU64 a0.b.Lo ∧ IU64 a0.b.Hi ∧ IU64 a0.most ∧ IU64 a0.size) (_hsz : a0.size = 32 ∨ a0.size = 64) : Calls Try.prog 85 #[.agg #[.int .u64 a0.a.Lo, .int .u64 a0.a.Hi, .int .u64 a0.b.Lo, .int .u64 a0.b.Hi, .bool a0.narrow, .int .u64 a0.most, .int .u64 a0.size]] w (RetV w (TSpan.v (span_work_shr a0))) := by
 have hs := span_work_shr.eq_1 a0
 refine calls_of_CW Try.func85 rfl (n := 43) Try.ntmps85 (by kernel_rfl) [0] (F := [(0, .agg #[.int .u64 a0.a.Lo, .int .u64 a0.a.Hi, .int .u64 a0.b.Lo, .int .u64 a0.b.Hi, .bool a0.narrow, .int .u64 a0.most, .int .u64 a0.size])]) (by kernel_rfl) ?_
 refine CW.seq fun K1 hK1 => ?_
 refine CW.region ?_
 refine WR.box (dst := some 1) (e := 79) (v := .agg #[.int .u64 a0.a.Lo, .int .u64 a0.a.Hi, .int .u64 a0.b.Lo, .int .u64 a0.b.Hi, .bool a0.narrow, .int .u64 a0.most, .int .u64 a0.size]) (by kernel_rfl) #[.int .u64 a0.a.Lo, .int .u64 a0.a.Hi, .int .u64 a0.b.Lo, .int .u64 a0.b.Hi, .bool a0.narrow, .int .u64 a0.most, .int .u64 a0.size] (by kernel_rfl) ?_
 intro g2 w3 hN4
 have hf6 : w.heap.size ≤ g2 := hN4.fresh
 have hfr8 := hN4.fresh
 have hc7 := hN4.chg
 have hz10 := hc7.size
 have hC9 := (Chg.refl [] w).pure hc7
 have hb5 := hN4.blk
 have hg11 := hb5.lt
 refine WR.alloc (dst := some 2) (e := 25) (by kernel_rfl) #[.int .u64 0, .int .u64 0] (by kernel_rfl) ?_
 intro g12 w13 hN14
 have hf16 : w.heap.size ≤ g12 := Nat.le_trans hC9.size hN14.fresh
 have hfr18 := hN14.fresh
 have hc17 := hN14.chg
 have hz20 := hc17.size
 have hC19 := hC9.pure hc17
 have hb15 := hN14.blk
 have hg21 := hb15.lt
 refine WR.fin (by kernel_rfl) ?_
 refine go hK1 ?_
 refine CW.seq fun K22 hK22 => ?_
 refine CW.regionQ (by kernel_rfl) (by kernel_rfl) ?_
 refine WQ.val (dst := some 5) (pt g2 2) (fun _ => by kernel_rfl) ?_
 refine WQ.val (dst := some 6) (pt g2 3) (fun _ => by kernel_rfl) ?_
 have hb23 := hb5.pure hc17
 refine WQ.load (dst := some 7) (t := 23) (o := 3) (fun _ hq => hb23.pure hq) (by kernel_rfl) (.int .u64 a0.b.Hi) (by kernel_rfl) ?_
 refine WQ.val (dst := some 8) (pt g2 2) (fun _ => by kernel_rfl) ?_
 refine WQ.val (dst := some 9) (pt g2 2) (fun _ => by kernel_rfl) ?_
 refine WQ.load (dst := some 10) (t := 23) (o := 2) (fun _ hq => hb23.pure hq) (by kernel_rfl) (.int .u64 a0.b.Lo) (by kernel_rfl) ?_
 refine WQ.val (dst := some 3) (.int .u64 a0.b.Hi) (fun _ => by kernel_rfl) ?_
 refine WQ.val (dst := some 4) (.int .u64 a0.b.Lo) (fun _ => by kernel_rfl) ?_
 refine WQ.fin (by kernel_rfl) ?_
 intro w24 hc25
 have hz27 := hc25.size
 have hC26 := hC19.pure hc25
 refine go hK22 ?_
 refine CW.seq fun K28 hK28 => ?_
 refine CW.join hK28 (fun F' w' => ∃ (v100 : Int) (v101 : Int), F' = [(1, pt g2 0), (2, pt g12 0), (3, .int .u64 v100), (4, .int .u64 v101)] ∧ Chg [] w w' ∧ Blk w' g2 #[.int .u64 a0.a.Lo, .int .u64 a0.a.Hi, .int .u64 a0.b.Lo, .int .u64 a0.b.Hi, .bool a0.narrow, .int .u64 a0.most, .int .u64 a0.size] 79 ∧ Blk w' g12 #[.int .u64 0, .int .u64 0] 25 ∧ (IU64 v100) ∧ (IU64 v101) ∧ (span_work_shr a0) = span_work_shr_J0 a0 v100 v101) ?_ ?_
 ·
  refine CW.block ?_
  refine CW.seq fun K34 hK34 => ?_
  refine CW.region ?_
  refine WR.batch 1 [(1, pt g2 0), (2, pt g12 0), (3, .int .u64 a0.b.Hi), (4, .int .u64 a0.b.Lo), (12, pt g2 2)] (by kernel_rfl) ?_
  have hb35 := hb23.pure hc25
  refine WR.load (dst := some 13) (t := 25) (o := 2) hb35 (by kernel_rfl) (.agg #[.int .u64 a0.b.Lo, .int .u64 a0.b.Hi]) (by kernel_rfl) ?_
  obtain ⟨x36, hx37⟩ : ∃ x, span_one a0.b = x := ⟨_, rfl⟩
  have hs38 := letS hx37 hs
  refine WR.call (dst := some 14) (by kernel_rfl) (retE (g := (fun r : Bool => (.bool r : Value))) hx37 (span_one_any a0.b w24  ⟨(by omega), (by omega)⟩ )) ?_
  rintro _ w39 hc40 rfl
  have hz42 := hc40.size
  have hC41 := hC26.pure hc40
  refine WR.batch 1 [(1, pt g2 0), (2, pt g12 0), (3, .int .u64 a0.b.Hi), (4, .int .u64 a0.b.Lo), (11, .bool x36)] (by kernel_rfl) ?_
  refine WR.fin (by kernel_rfl) ?_
  refine go hK34 ?_
  refine CW.cond (x36) (by kernel_rfl) (fun ht43 => ?_) (fun ht43 => ?_)
  ·
   have hs44 := ifT ht43 hs38
   refine CW.regionQ (by kernel_rfl) (by kernel_rfl) ?_
   refine WQ.val (dst := some 15) (.int .u64 a0.b.Hi) (fun _ => by kernel_rfl) ?_
   refine WQ.val (dst := some 16) (pt g2 6) (fun _ => by kernel_rfl) ?_
   have hb45 := hb35.pure hc40
   refine WQ.load (dst := some 17) (t := 23) (o := 6) (fun _ hq => hb45.pure hq) (by kernel_rfl) (.int .u64 a0.size) (by kernel_rfl) ?_
   refine WQ.val (dst := some 18) (.int .u64 ((a0.b.Hi).tmod a0.size)) (run_rem (kk := .u64) (x := a0.b.Hi) (y := a0.size) (by kernel_rfl) (by omega)) ?_
   have hm46 := tmod_rng (x := a0.b.Hi) (y := a0.size) (m := 18446744073709551615) (by omega) (by omega)
   refine WQ.val (dst := some 19) (.int .u64 a0.b.Lo) (fun _ => by kernel_rfl) ?_
   refine WQ.val (dst := some 20) (pt g2 6) (fun _ => by kernel_rfl) ?_
   refine WQ.load (dst := some 21) (t := 23) (o := 6) (fun _ hq => hb45.pure hq) (by kernel_rfl) (.int .u64 a0.size) (by kernel_rfl) ?_
   refine WQ.val (dst := some 22) (.int .u64 ((a0.b.Lo).tmod a0.size)) (run_rem (kk := .u64) (x := a0.b.Lo) (y := a0.size) (by kernel_rfl) (by omega)) ?_
   have hm47 := tmod_rng (x := a0.b.Lo) (y := a0.size) (m := 18446744073709551615) (by omega) (by omega)
   refine WQ.val (dst := some 3) (.int .u64 ((a0.b.Hi).tmod a0.size)) (fun _ => by kernel_rfl) ?_
   refine WQ.val (dst := some 4) (.int .u64 ((a0.b.Lo).tmod a0.size)) (fun _ => by kernel_rfl) ?_
   refine WQ.fin (by kernel_rfl) ?_
   intro w48 hc49
   have hz51 := hc49.size
   have hC50 := hC41.pure hc49
   have hb52 := hb45.pure hc49
   have hb53 := ((hb15.pure hc25).pure hc40).pure hc49
   exact fun _ ha => ⟨_, ha.keep [1, 2, 3, 4] (F' := [(1, pt g2 0), (2, pt g12 0), (3, .int .u64 ((a0.b.Hi).tmod a0.size)), (4, .int .u64 ((a0.b.Lo).tmod a0.size))]) (by kernel_rfl), ((a0.b.Hi).tmod a0.size), ((a0.b.Lo).tmod a0.size), rfl, hC50, hb52, hb53, (tmod_rng (by omega) (by omega)), (tmod_rng (by omega) (by omega)), hs44⟩
  have hs54 := ifF ht43 hs38
  refine CW.seq fun K55 hK55 => ?_
  refine CW.region ?_
  refine WR.batch 2 [(1, pt g2 0), (2, pt g12 0), (3, .int .u64 a0.b.Hi), (4, .int .u64 a0.b.Lo), (24, .int .u64 a0.b.Hi), (25, pt g2 6)] (by kernel_rfl) ?_
  have hb56 := hb35.pure hc40
  refine WR.load (dst := some 26) (t := 23) (o := 6) hb56 (by kernel_rfl) (.int .u64 a0.size) (by kernel_rfl) ?_
  refine WR.batch 2 [(1, pt g2 0), (2, pt g12 0), (3, .int .u64 a0.b.Hi), (4, .int .u64 a0.b.Lo), (23, .bool (decide (a0.b.Hi ≥ a0.size)))] (by kernel_rfl) ?_
  refine WR.fin (by kernel_rfl) ?_
  refine go hK55 ?_
  refine CW.cond (decide (a0.b.Hi ≥ a0.size)) (by kernel_rfl) (fun ht57 => ?_) (fun ht57 => ?_)
  ·
   have hs58 := ifT ht57 hs54
   replace ht57 : a0.b.Hi ≥ a0.size := (of_decide_eq_true ht57)
   refine CW.seq fun K59 hK59 => ?_
   refine CW.region ?_
   refine WR.batch 2 [(2, pt g12 0), (29, pt g2 1)] (by kernel_rfl) ?_
   refine WR.load (dst := some 30) (t := 23) (o := 1) hb56 (by kernel_rfl) (.int .u64 a0.a.Hi) (by kernel_rfl) ?_
   refine WR.batch 1 [(2, pt g12 0), (31, .agg #[.int .u64 0, .int .u64 a0.a.Hi])] (by kernel_rfl) ?_
   have hb63 := (hb15.pure hc25).pure hc40
   refine WR.store (t := 25) (o := 0) (v := .agg #[.int .u64 0, .int .u64 a0.a.Hi]) hb63 (by kernel_rfl) #[.int .u64 0, .int .u64 a0.a.Hi] (by kernel_rfl) ?_
   intro w60 hb61 hc62
   have hz65 := hc62.size
   have hC64 := hC41.step1 hc62 (by omega)
   refine WR.fin (by kernel_rfl) ?_
   refine go hK59 ?_
   refine CW.ret ?_
   exact retC [.agg #[.int .u64 0, .int .u64 a0.a.Hi]] _ rfl ⟨resCell hb61 rfl (by kernel_rfl), trivial⟩ (⟨hC64, (congrArg TSpan.v hs58).symm⟩)
  have hs66 := ifF ht57 hs54
  replace ht57 : ¬ (a0.b.Hi ≥ a0.size) := (of_decide_eq_false ht57)
  refine CW.skip ?_
  have hb67 := (hb15.pure hc25).pure hc40
  exact fun _ ha => ⟨_, ha.keep [1, 2, 3, 4] (F' := [(1, pt g2 0), (2, pt g12 0), (3, .int .u64 a0.b.Hi), (4, .int .u64 a0.b.Lo)]) (by kernel_rfl), a0.b.Hi, a0.b.Lo, rfl, hC41, hb56, hb67, (by omega), (by omega), hs66⟩
 rintro _ w31 ⟨v100, v101, rfl, hC29, hb32, hb33, hr_v100, hr_v101, hsj30⟩
 have hz68 := hC29.size
 have hs69 := hsj30.trans (span_work_shr_J0.eq_1 _ _ _)
 have hg70 := hb32.lt
 have hg71 := hb33.lt
 refine CW.seq fun K72 hK72 => ?_
 refine CW.region ?_
 refine WR.batch 2 [(1, pt g2 0), (2, pt g12 0), (3, .int .u64 v100), (4, .int .u64 v101), (33, pt g2 0)] (by kernel_rfl) ?_
 refine WR.load (dst := some 34) (t := 23) (o := 0) hb32 (by kernel_rfl) (.int .u64 a0.a.Lo) (by kernel_rfl) ?_
 refine WR.batch 1 [(1, pt g2 0), (2, pt g12 0), (4, .int .u64 v101), (34, .int .u64 a0.a.Lo), (35, .int .u64 v100)] (by kernel_rfl) ?_
 refine WR.valR (dst := some 36) (v := .int .u64 (sShr .u64 a0.a.Lo v100)) (w' := w31) (run_shr (kk := .u64) (k' := .u64) (x := a0.a.Lo) (y := v100) (by kernel_rfl) (by omega) w31) ?_
 refine WR.batch 2 [(2, pt g12 0), (4, .int .u64 v101), (36, .int .u64 (sShr .u64 a0.a.Lo v100)), (38, pt g2 1)] (by kernel_rfl) ?_
 refine WR.load (dst := some 39) (t := 23) (o := 1) hb32 (by kernel_rfl) (.int .u64 a0.a.Hi) (by kernel_rfl) ?_
 refine WR.batch 1 [(2, pt g12 0), (36, .int .u64 (sShr .u64 a0.a.Lo v100)), (39, .int .u64 a0.a.Hi), (40, .int .u64 v101)] (by kernel_rfl) ?_
 refine WR.valR (dst := some 41) (v := .int .u64 (sShr .u64 a0.a.Hi v101)) (w' := w31) (run_shr (kk := .u64) (k' := .u64) (x := a0.a.Hi) (y := v101) (by kernel_rfl) (by omega) w31) ?_
 refine WR.batch 1 [(2, pt g12 0), (42, .agg #[.int .u64 (sShr .u64 a0.a.Lo v100), .int .u64 (sShr .u64 a0.a.Hi v101)])] (by kernel_rfl) ?_
 refine WR.store (t := 25) (o := 0) (v := .agg #[.int .u64 (sShr .u64 a0.a.Lo v100), .int .u64 (sShr .u64 a0.a.Hi v101)]) hb33 (by kernel_rfl) #[.int .u64 (sShr .u64 a0.a.Lo v100), .int .u64 (sShr .u64 a0.a.Hi v101)] (by kernel_rfl) ?_
 intro w73 hb74 hc75
 have hz77 := hc75.size
 have hC76 := hC29.step1 hc75 (by omega)
 refine WR.fin (by kernel_rfl) ?_
 refine go hK72 ?_
 refine CW.ret ?_
 exact retC [.agg #[.int .u64 (sShr .u64 a0.a.Lo v100), .int .u64 (sShr .u64 a0.a.Hi v101)]] _ rfl ⟨resCell hb74 rfl (by kernel_rfl), trivial⟩ (⟨hC76, (congrArg TSpan.v hs69).symm⟩)

def span_work_sar (a0 : Twork)  : Option TSpan := (letF (span_one a0.b) fun x24 => (optF (span_must (x24 && (!(span_work_mixed a0 a0.a)))) (none) fun _ => (letF (alu_Do (11 : Int) a0.narrow a0.a.Lo a0.b.Lo) fun x58 => (letF (alu_Do (11 : Int) a0.narrow a0.a.Hi a0.b.Lo) fun x68 => some (⟨x58.1, x68.1⟩ : TSpan)))))

theorem span_work_sar_ok (a0 : Twork)  (_h_a0 : IU64 a0.a.Lo ∧ IU64 a0.a.Hi ∧ IU64 a0.b.Lo ∧ IU64 a0.b.Hi ∧ IU64 a0.most ∧ IU64 a0.size)  : ∀ y, (span_work_sar a0) = some y → IU64 y.Lo ∧ IU64 y.Hi := by
 rw [span_work_sar.eq_1]
 refine letR (p := fun r : Option TSpan => ∀ y, r = some y → IU64 y.Lo ∧ IU64 y.Hi) fun x24 _ => ?_
 refine optR (p := fun r : Option TSpan => ∀ y, r = some y → IU64 y.Lo ∧ IU64 y.Hi) (fun _ => ?_) (fun x44 _ => ?_)
 ·
  intro y hy; cases hy
 refine letR (p := fun r : Option TSpan => ∀ y, r = some y → IU64 y.Lo ∧ IU64 y.Hi) fun x58 hx59 => ?_
 have hx60 : IU64 x58.1 ∧ II64 x58.2 := by rw [← hx59]; exact alu_Do_ok (11 : Int) a0.narrow a0.a.Lo a0.b.Lo (by omega) (by omega) (by omega) 
 refine letR (p := fun r : Option TSpan => ∀ y, r = some y → IU64 y.Lo ∧ IU64 y.Hi) fun x68 hx69 => ?_
 have hx70 : IU64 x68.1 ∧ II64 x68.2 := by rw [← hx69]; exact alu_Do_ok (11 : Int) a0.narrow a0.a.Hi a0.b.Lo (by omega) (by omega) (by omega) 
 intro y hy; cases hy; exact (by exact (show IU64 x58.1 ∧ IU64 x68.1 from ⟨(by omega), (by omega)⟩))

set_option maxRecDepth 100000 in
set_option maxHeartbeats 4000000 in
theorem span_work_sar_any (a0 : Twork)   (w : World)  (_h_a0 : IU64 a0.a.Lo ∧ IU64 a0.a.Hi ∧ IU64 a0.b.Lo ∧ IU64 a0.b.Hi ∧ IU64 a0.most ∧ IU64 a0.size)  : Calls Try.prog 86 #[.agg #[.int .u64 a0.a.Lo, .int .u64 a0.a.Hi, .int .u64 a0.b.Lo, .int .u64 a0.b.Hi, .bool a0.narrow, .int .u64 a0.most, .int .u64 a0.size]] w (RetP w (.iface 76 (.agg #[])) (((span_work_sar a0)).map TSpan.v)) := by
 have hs := span_work_sar.eq_1 a0
 refine calls_of_CW Try.func86 rfl (n := 45) Try.ntmps86 (by kernel_rfl) [0] (F := [(0, .agg #[.int .u64 a0.a.Lo, .int .u64 a0.a.Hi, .int .u64 a0.b.Lo, .int .u64 a0.b.Hi, .bool a0.narrow, .int .u64 a0.most, .int .u64 a0.size])]) (by kernel_rfl) ?_
 refine CW.seq fun K1 hK1 => ?_
 refine CW.region ?_
 refine WR.box (dst := some 1) (e := 79) (v := .agg #[.int .u64 a0.a.Lo, .int .u64 a0.a.Hi, .int .u64 a0.b.Lo, .int .u64 a0.b.Hi, .bool a0.narrow, .int .u64 a0.most, .int .u64 a0.size]) (by kernel_rfl) #[.int .u64 a0.a.Lo, .int .u64 a0.a.Hi, .int .u64 a0.b.Lo, .int .u64 a0.b.Hi, .bool a0.narrow, .int .u64 a0.most, .int .u64 a0.size] (by kernel_rfl) ?_
 intro g2 w3 hN4
 have hf6 : w.heap.size ≤ g2 := hN4.fresh
 have hfr8 := hN4.fresh
 have hc7 := hN4.chg
 have hz10 := hc7.size
 have hC9 := (Chg.refl [] w).pure hc7
 have hb5 := hN4.blk
 have hg11 := hb5.lt
 refine WR.alloc (dst := some 2) (e := 25) (by kernel_rfl) #[.int .u64 0, .int .u64 0] (by kernel_rfl) ?_
 intro g12 w13 hN14
 have hf16 : w.heap.size ≤ g12 := Nat.le_trans hC9.size hN14.fresh
 have hfr18 := hN14.fresh
 have hc17 := hN14.chg
 have hz20 := hc17.size
 have hC19 := hC9.pure hc17
 have hb15 := hN14.blk
 have hg21 := hb15.lt
 refine WR.fin (by kernel_rfl) ?_
 refine go hK1 ?_
 refine CW.seq fun K22 hK22 => ?_
 refine CW.region ?_
 refine WR.batch 1 [(1, pt g2 0), (2, pt g12 0), (7, pt g2 2)] (by kernel_rfl) ?_
 have hb23 := hb5.pure hc17
 refine WR.load (dst := some 8) (t := 25) (o := 2) hb23 (by kernel_rfl) (.agg #[.int .u64 a0.b.Lo, .int .u64 a0.b.Hi]) (by kernel_rfl) ?_
 obtain ⟨x24, hx25⟩ : ∃ x, span_one a0.b = x := ⟨_, rfl⟩
 have hs26 := letS hx25 hs
 refine WR.call (dst := some 9) (by kernel_rfl) (retE (g := (fun r : Bool => (.bool r : Value))) hx25 (span_one_any a0.b w13  ⟨(by omega), (by omega)⟩ )) ?_
 rintro _ w27 hc28 rfl
 have hz30 := hc28.size
 have hC29 := hC19.pure hc28
 refine WR.batch 1 [(1, pt g2 0), (2, pt g12 0), (10, .bool x24)] (by kernel_rfl) ?_
 refine WR.mergeW 10 [(1, pt g2 0), (2, pt g12 0), (16, .bool (x24 && (!(span_work_mixed a0 a0.a))))] (fun w' => Chg [] w27 w') (fun Q' => ?_) ?_
 ·
  cases hg31 : x24
  ·
   have hk33 := hg31
   intro hM32
   refine WR.batch 6 [(1, pt g2 0), (2, pt g12 0), (16, .bool false)] (by kernel_rfl) ?_
   exact WR.keep [1, 2, 16] (by kernel_rfl) (hM32 _ (Chg.refl [] w27))
  ·
   have hk34 := hg31
   intro hM32
   have hb35 := hb23.pure hc28
   refine WR.load (dst := some 11) (t := 79) (o := 0) hb35 (by kernel_rfl) (.agg #[.int .u64 a0.a.Lo, .int .u64 a0.a.Hi, .int .u64 a0.b.Lo, .int .u64 a0.b.Hi, .bool a0.narrow, .int .u64 a0.most, .int .u64 a0.size]) (by kernel_rfl) ?_
   refine WR.batch 1 [(1, pt g2 0), (2, pt g12 0), (10, .bool true), (11, .agg #[.int .u64 a0.a.Lo, .int .u64 a0.a.Hi, .int .u64 a0.b.Lo, .int .u64 a0.b.Hi, .bool a0.narrow, .int .u64 a0.most, .int .u64 a0.size]), (12, pt g2 0)] (by kernel_rfl) ?_
   refine WR.load (dst := some 13) (t := 25) (o := 0) hb35 (by kernel_rfl) (.agg #[.int .u64 a0.a.Lo, .int .u64 a0.a.Hi]) (by kernel_rfl) ?_
   refine WR.call (dst := some 14) (by kernel_rfl) (span_work_mixed_any a0 a0.a w27  ⟨(by omega), (by omega), (by omega), (by omega), (by omega), (by omega)⟩ ⟨(by omega), (by omega)⟩ ) ?_
   rintro _ w36 hc37 rfl
   have hz39 := hc37.size
   have hC38 := hC29.pure hc37
   refine WR.batch 2 [(1, pt g2 0), (2, pt g12 0), (16, .bool (!(span_work_mixed a0 a0.a)))] (by kernel_rfl) ?_
   exact WR.keep [1, 2, 16] (by kernel_rfl) (hM32 _ ((Chg.refl [] w27).pure hc37))
 intro w40 hc41
 have hz43 := hc41.size
 have hC42 := hC29.pure hc41
 rcases hx45 : span_must (x24 && (!(span_work_mixed a0 a0.a))) with _ | x44
 ·
  have hs48 := optN hx45 hs26
  refine WR.callX (dst := some 17) (by kernel_rfl) (retP_no (g := (fun _ : Unit => (.tuple #[] : Value))) hx45 (span_must_any (x24 && (!(span_work_mixed a0 a0.a))) w40  )) ?_
  intro w46 hc47
  have hz50 := hc47.size
  have hC49 := hC42.pure hc47
  exact panicV (P := Try.prog) (fn := Try.f86) (retP_pan hs48 hC49)
 have hs51 := optS hx45 hs26
 refine WR.call (dst := some 17) (by kernel_rfl) (retP_yes (g := (fun _ : Unit => (.tuple #[] : Value))) hx45 (span_must_any (x24 && (!(span_work_mixed a0 a0.a))) w40  )) ?_
 rintro _ w52 hc53 rfl
 have hz55 := hc53.size
 have hC54 := hC42.pure hc53
 refine WR.fin (by kernel_rfl) ?_
 refine go hK22 ?_
 refine CW.seq fun K56 hK56 => ?_
 refine CW.region ?_
 refine WR.batch 1 [(1, pt g2 0), (2, pt g12 0), (19, pt g2 4)] (by kernel_rfl) ?_
 have hb57 := ((hb23.pure hc28).pure hc41).pure hc53
 refine WR.load (dst := some 20) (t := 4) (o := 4) hb57 (by kernel_rfl) (.bool a0.narrow) (by kernel_rfl) ?_
 refine WR.batch 2 [(1, pt g2 0), (2, pt g12 0), (20, .bool a0.narrow), (22, pt g2 0)] (by kernel_rfl) ?_
 refine WR.load (dst := some 23) (t := 23) (o := 0) hb57 (by kernel_rfl) (.int .u64 a0.a.Lo) (by kernel_rfl) ?_
 refine WR.batch 2 [(1, pt g2 0), (2, pt g12 0), (20, .bool a0.narrow), (23, .int .u64 a0.a.Lo), (25, pt g2 2)] (by kernel_rfl) ?_
 refine WR.load (dst := some 26) (t := 23) (o := 2) hb57 (by kernel_rfl) (.int .u64 a0.b.Lo) (by kernel_rfl) ?_
 obtain ⟨x58, hx59⟩ : ∃ x, alu_Do (11 : Int) a0.narrow a0.a.Lo a0.b.Lo = x := ⟨_, rfl⟩
 have hs61 := letS hx59 hs51
 have hx60 : IU64 x58.1 ∧ II64 x58.2 := by rw [← hx59]; exact alu_Do_ok (11 : Int) a0.narrow a0.a.Lo a0.b.Lo (by omega) (by omega) (by omega) 
 refine WR.call (dst := some 27) (by kernel_rfl) (retE (g := (fun r : (Int × Int) => (.tuple #[.int .u64 r.1, .int .i64 r.2] : Value))) hx59 (alu_Do_any (11 : Int) a0.narrow a0.a.Lo a0.b.Lo w52  (by omega) (by omega) (by omega) )) ?_
 rintro _ w62 hc63 rfl
 have hz65 := hc63.size
 have hC64 := hC54.pure hc63
 refine WR.batch 5 [(1, pt g2 0), (2, pt g12 0), (3, .int .u64 x58.1)] (by kernel_rfl) ?_
 refine WR.fin (by kernel_rfl) ?_
 refine go hK56 ?_
 refine CW.seq fun K66 hK66 => ?_
 refine CW.region ?_
 refine WR.batch 1 [(1, pt g2 0), (2, pt g12 0), (3, .int .u64 x58.1), (31, pt g2 4)] (by kernel_rfl) ?_
 have hb67 := hb57.pure hc63
 refine WR.load (dst := some 32) (t := 4) (o := 4) hb67 (by kernel_rfl) (.bool a0.narrow) (by kernel_rfl) ?_
 refine WR.batch 2 [(1, pt g2 0), (2, pt g12 0), (3, .int .u64 x58.1), (32, .bool a0.narrow), (34, pt g2 1)] (by kernel_rfl) ?_
 refine WR.load (dst := some 35) (t := 23) (o := 1) hb67 (by kernel_rfl) (.int .u64 a0.a.Hi) (by kernel_rfl) ?_
 refine WR.batch 2 [(2, pt g12 0), (3, .int .u64 x58.1), (32, .bool a0.narrow), (35, .int .u64 a0.a.Hi), (37, pt g2 2)] (by kernel_rfl) ?_
 refine WR.load (dst := some 38) (t := 23) (o := 2) hb67 (by kernel_rfl) (.int .u64 a0.b.Lo) (by kernel_rfl) ?_
 obtain ⟨x68, hx69⟩ : ∃ x, alu_Do (11 : Int) a0.narrow a0.a.Hi a0.b.Lo = x := ⟨_, rfl⟩
 have hs71 := letS hx69 hs61
 have hx70 : IU64 x68.1 ∧ II64 x68.2 := by rw [← hx69]; exact alu_Do_ok (11 : Int) a0.narrow a0.a.Hi a0.b.Lo (by omega) (by omega) (by omega) 
 refine WR.call (dst := some 39) (by kernel_rfl) (retE (g := (fun r : (Int × Int) => (.tuple #[.int .u64 r.1, .int .i64 r.2] : Value))) hx69 (alu_Do_any (11 : Int) a0.narrow a0.a.Hi a0.b.Lo w62  (by omega) (by omega) (by omega) )) ?_
 rintro _ w72 hc73 rfl
 have hz75 := hc73.size
 have hC74 := hC64.pure hc73
 refine WR.batch 5 [(2, pt g12 0), (3, .int .u64 x58.1), (5, .int .u64 x68.1)] (by kernel_rfl) ?_
 refine WR.fin (by kernel_rfl) ?_
 refine go hK66 ?_
 refine CW.seq fun K76 hK76 => ?_
 refine CW.region ?_
 refine WR.batch 3 [(2, pt g12 0), (44, .agg #[.int .u64 x58.1, .int .u64 x68.1])] (by kernel_rfl) ?_
 have hb80 := ((((hb15.pure hc28).pure hc41).pure hc53).pure hc63).pure hc73
 refine WR.store (t := 25) (o := 0) (v := .agg #[.int .u64 x58.1, .int .u64 x68.1]) hb80 (by kernel_rfl) #[.int .u64 x58.1, .int .u64 x68.1] (by kernel_rfl) ?_
 intro w77 hb78 hc79
 have hz82 := hc79.size
 have hC81 := hC74.step1 hc79 (by omega)
 refine WR.fin (by kernel_rfl) ?_
 refine go hK76 ?_
 refine CW.ret ?_
 exact retC [.agg #[.int .u64 x58.1, .int .u64 x68.1]] _ rfl ⟨resCell hb78 rfl (by kernel_rfl), trivial⟩ (retP_ret (g := TSpan.v) hs71 rfl hC81)

def span_work_set (a0 : Twork) (a1 : Bool)  : Option (TSpan × TSpan) := (if (!a1) then (letF (span_work_both a0) fun x39 => (optF (span_must ((!x39) || (!((bAnd .u64 a0.a.Lo a0.b.Lo) != (0 : Int))))) (none) fun _ => some (a0.a, a0.b))) else (optF (span_must (((decide (a0.a.Hi > (0 : Int))) && (decide (a0.b.Hi > (0 : Int)))) && ((!(span_work_both a0)) || ((bAnd .u64 a0.a.Lo a0.b.Lo) != (0 : Int))))) (none) fun _ => some ((⟨(gMax a0.a.Lo (1 : Int)), a0.a.Hi⟩ : TSpan), (⟨(gMax a0.b.Lo (1 : Int)), a0.b.Hi⟩ : TSpan))))

theorem span_work_set_ok (a0 : Twork) (a1 : Bool)  (_h_a0 : IU64 a0.a.Lo ∧ IU64 a0.a.Hi ∧ IU64 a0.b.Lo ∧ IU64 a0.b.Hi ∧ IU64 a0.most ∧ IU64 a0.size)  : ∀ y, (span_work_set a0 a1) = some y → IU64 y.1.Lo ∧ IU64 y.1.Hi ∧ IU64 y.2.Lo ∧ IU64 y.2.Hi := by
 rw [span_work_set.eq_1]
 refine iteR (p := fun r : Option (TSpan × TSpan) => ∀ y, r = some y → IU64 y.1.Lo ∧ IU64 y.1.Hi ∧ IU64 y.2.Lo ∧ IU64 y.2.Hi) (fun hi1001 => ?_) (fun hi1001 => ?_)
 ·
  replace hi1001 : a1 = false := (bNotT hi1001)
  refine letR (p := fun r : Option (TSpan × TSpan) => ∀ y, r = some y → IU64 y.1.Lo ∧ IU64 y.1.Hi ∧ IU64 y.2.Lo ∧ IU64 y.2.Hi) fun x39 _ => ?_
  refine optR (p := fun r : Option (TSpan × TSpan) => ∀ y, r = some y → IU64 y.1.Lo ∧ IU64 y.1.Hi ∧ IU64 y.2.Lo ∧ IU64 y.2.Hi) (fun _ => ?_) (fun x46 _ => ?_)
  ·
   intro y hy; cases hy
  intro y hy; cases hy; exact (by exact (show IU64 a0.a.Lo ∧ IU64 a0.a.Hi ∧ IU64 a0.b.Lo ∧ IU64 a0.b.Hi from ⟨(by omega), (by omega), (by omega), (by omega)⟩))
 replace hi1001 : a1 = true := (bNotF hi1001)
 refine optR (p := fun r : Option (TSpan × TSpan) => ∀ y, r = some y → IU64 y.1.Lo ∧ IU64 y.1.Hi ∧ IU64 y.2.Lo ∧ IU64 y.2.Hi) (fun _ => ?_) (fun x132 _ => ?_)
 ·
  intro y hy; cases hy
 intro y hy; cases hy; exact (by exact (show IU64 (gMax a0.a.Lo (1 : Int)) ∧ IU64 a0.a.Hi ∧ IU64 (gMax a0.b.Lo (1 : Int)) ∧ IU64 a0.b.Hi from ⟨(gMax_rng (by omega) (by omega)), (by omega), (gMax_rng (by omega) (by omega)), (by omega)⟩))

set_option maxRecDepth 100000 in
set_option maxHeartbeats 4000000 in
theorem span_work_set_any (a0 : Twork) (a1 : Bool)   (w : World)  (_h_a0 : IU64 a0.a.Lo ∧ IU64 a0.a.Hi ∧ IU64 a0.b.Lo ∧ IU64 a0.b.Hi ∧ IU64 a0.most ∧ IU64 a0.size)  : Calls Try.prog 90 #[.agg #[.int .u64 a0.a.Lo, .int .u64 a0.a.Hi, .int .u64 a0.b.Lo, .int .u64 a0.b.Hi, .bool a0.narrow, .int .u64 a0.most, .int .u64 a0.size], .bool a1] w (RetP w (.iface 76 (.agg #[])) (((span_work_set a0 a1)).map (fun r : (TSpan × TSpan) => (.tuple #[TSpan.v r.1, TSpan.v r.2] : Value)))) := by
 have hs := span_work_set.eq_1 a0 a1
 refine calls_of_CW Try.func90 rfl (n := 64) Try.ntmps90 (by kernel_rfl) [0, 1] (F := [(0, .agg #[.int .u64 a0.a.Lo, .int .u64 a0.a.Hi, .int .u64 a0.b.Lo, .int .u64 a0.b.Hi, .bool a0.narrow, .int .u64 a0.most, .int .u64 a0.size]), (1, .bool a1)]) (by kernel_rfl) ?_
 refine CW.seq fun K1 hK1 => ?_
 refine CW.region ?_
 refine WR.box (dst := some 2) (e := 79) (v := .agg #[.int .u64 a0.a.Lo, .int .u64 a0.a.Hi, .int .u64 a0.b.Lo, .int .u64 a0.b.Hi, .bool a0.narrow, .int .u64 a0.most, .int .u64 a0.size]) (by kernel_rfl) #[.int .u64 a0.a.Lo, .int .u64 a0.a.Hi, .int .u64 a0.b.Lo, .int .u64 a0.b.Hi, .bool a0.narrow, .int .u64 a0.most, .int .u64 a0.size] (by kernel_rfl) ?_
 intro g2 w3 hN4
 have hf6 : w.heap.size ≤ g2 := hN4.fresh
 have hfr8 := hN4.fresh
 have hc7 := hN4.chg
 have hz10 := hc7.size
 have hC9 := (Chg.refl [] w).pure hc7
 have hb5 := hN4.blk
 have hg11 := hb5.lt
 refine WR.alloc (dst := some 4) (e := 25) (by kernel_rfl) #[.int .u64 0, .int .u64 0] (by kernel_rfl) ?_
 intro g12 w13 hN14
 have hf16 : w.heap.size ≤ g12 := Nat.le_trans hC9.size hN14.fresh
 have hfr18 := hN14.fresh
 have hc17 := hN14.chg
 have hz20 := hc17.size
 have hC19 := hC9.pure hc17
 have hb15 := hN14.blk
 have hg21 := hb15.lt
 refine WR.alloc (dst := some 5) (e := 25) (by kernel_rfl) #[.int .u64 0, .int .u64 0] (by kernel_rfl) ?_
 intro g22 w23 hN24
 have hf26 : w.heap.size ≤ g22 := Nat.le_trans hC19.size hN24.fresh
 have hfr28 := hN24.fresh
 have hc27 := hN24.chg
 have hz30 := hc27.size
 have hC29 := hC19.pure hc27
 have hb25 := hN24.blk
 have hg31 := hb25.lt
 refine WR.fin (by kernel_rfl) ?_
 refine go hK1 ?_
 refine CW.seq fun K32 hK32 => ?_
 refine CW.region ?_
 refine WR.batch 2 [(1, .bool a1), (2, pt g2 0), (4, pt g12 0), (5, pt g22 0), (8, pt g2 0)] (by kernel_rfl) ?_
 have hb33 := (hb5.pure hc17).pure hc27
 refine WR.load (dst := some 9) (t := 23) (o := 0) hb33 (by kernel_rfl) (.int .u64 a0.a.Lo) (by kernel_rfl) ?_
 refine WR.batch 2 [(1, .bool a1), (2, pt g2 0), (4, pt g12 0), (5, pt g22 0), (9, .int .u64 a0.a.Lo), (11, pt g2 2)] (by kernel_rfl) ?_
 refine WR.load (dst := some 12) (t := 23) (o := 2) hb33 (by kernel_rfl) (.int .u64 a0.b.Lo) (by kernel_rfl) ?_
 refine WR.batch 3 [(1, .bool a1), (2, pt g2 0), (4, pt g12 0), (5, pt g22 0), (6, .bool ((bAnd .u64 a0.a.Lo a0.b.Lo) != (0 : Int)))] (by kernel_rfl) ?_
 refine WR.fin (by kernel_rfl) ?_
 refine go hK32 ?_
 refine CW.seq fun K34 hK34 => ?_
 refine CW.seq fun K35 hK35 => ?_
 refine CW.region ?_
 refine WR.batch 2 [(2, pt g2 0), (4, pt g12 0), (5, pt g22 0), (6, .bool ((bAnd .u64 a0.a.Lo a0.b.Lo) != (0 : Int))), (16, .bool (!a1))] (by kernel_rfl) ?_
 refine WR.fin (by kernel_rfl) ?_
 refine go hK35 ?_
 refine CW.cond ((!a1)) (by kernel_rfl) (fun ht36 => ?_) (fun ht36 => ?_)
 ·
  have hs37 := ifT ht36 hs
  replace ht36 : a1 = false := (bNotT ht36)
  refine CW.seq fun K38 hK38 => ?_
  refine CW.region ?_
  refine WR.load (dst := some 17) (t := 79) (o := 0) hb33 (by kernel_rfl) (.agg #[.int .u64 a0.a.Lo, .int .u64 a0.a.Hi, .int .u64 a0.b.Lo, .int .u64 a0.b.Hi, .bool a0.narrow, .int .u64 a0.most, .int .u64 a0.size]) (by kernel_rfl) ?_
  obtain ⟨x39, hx40⟩ : ∃ x, span_work_both a0 = x := ⟨_, rfl⟩
  have hs41 := letS hx40 hs37
  refine WR.call (dst := some 18) (by kernel_rfl) (retE (g := (fun r : Bool => (.bool r : Value))) hx40 (span_work_both_any a0 w23  ⟨(by omega), (by omega), (by omega), (by omega), (by omega), (by omega)⟩ )) ?_
  rintro _ w42 hc43 rfl
  have hz45 := hc43.size
  have hC44 := hC29.pure hc43
  refine WR.batch 2 [(2, pt g2 0), (4, pt g12 0), (5, pt g22 0), (6, .bool ((bAnd .u64 a0.a.Lo a0.b.Lo) != (0 : Int))), (20, .bool (!x39))] (by kernel_rfl) ?_
  refine WR.batch 3 [(2, pt g2 0), (4, pt g12 0), (5, pt g22 0), (23, .bool ((!x39) || (!((bAnd .u64 a0.a.Lo a0.b.Lo) != (0 : Int)))))] (by generalize (!x39) = b; cases b <;> kernel_rfl) ?_
  rcases hx47 : span_must ((!x39) || (!((bAnd .u64 a0.a.Lo a0.b.Lo) != (0 : Int)))) with _ | x46
  ·
   have hs50 := optN hx47 hs41
   refine WR.callX (dst := some 24) (by kernel_rfl) (retP_no (g := (fun _ : Unit => (.tuple #[] : Value))) hx47 (span_must_any ((!x39) || (!((bAnd .u64 a0.a.Lo a0.b.Lo) != (0 : Int)))) w42  )) ?_
   intro w48 hc49
   have hz52 := hc49.size
   have hC51 := hC44.pure hc49
   exact panicV (P := Try.prog) (fn := Try.f90) (retP_pan hs50 hC51)
  have hs53 := optS hx47 hs41
  refine WR.call (dst := some 24) (by kernel_rfl) (retP_yes (g := (fun _ : Unit => (.tuple #[] : Value))) hx47 (span_must_any ((!x39) || (!((bAnd .u64 a0.a.Lo a0.b.Lo) != (0 : Int)))) w42  )) ?_
  rintro _ w54 hc55 rfl
  have hz57 := hc55.size
  have hC56 := hC44.pure hc55
  refine WR.fin (by kernel_rfl) ?_
  refine go hK38 ?_
  refine CW.seq fun K58 hK58 => ?_
  refine CW.keep [2, 4, 5] (F' := [(2, pt g2 0), (4, pt g12 0), (5, pt g22 0)]) (by kernel_rfl) ?_
  have hb59 := ((hb15.pure hc27).pure hc43).pure hc55
  refine CW.regionG 5 [some (pt g2 0), some (.agg #[.int .u64 a0.a.Lo, .int .u64 a0.a.Hi]), some (pt g2 2), some (.agg #[.int .u64 a0.b.Lo, .int .u64 a0.b.Hi]), none] (fun u => [(25, pt g2 0), (26, .agg #[.int .u64 a0.a.Lo, .int .u64 a0.a.Hi]), (27, pt g2 2), (28, .agg #[.int .u64 a0.b.Lo, .int .u64 a0.b.Hi]), (2, pt g2 0), (4, pt g12 0), (5, pt g22 0)]) (fun _ => by kernel_rfl) (by kernel_rfl) [(4, g12)] (fun i w' => match i with | 0 => True | 1 => True | 2 => True | 3 => True | 4 => Blk w' g12 #[.int .u64 0, .int .u64 0] 25 | _ => True) (fun j => match j with | 0 => trivial | 1 => trivial | 2 => trivial | 3 => trivial | 4 => hb59.pure (Chg.drew w54) | j + 5 => trivial) ?_ [] [] (by kernel_rfl) (fun w' => Chg [g12] w54 w') (fun i v w' => match i with | 0 => True | 1 => True | 2 => True | 3 => True | 4 => Blk w' g12 #[.int .u64 a0.a.Lo, .int .u64 a0.a.Hi] 25 | _ => True) (fun j x w hj h => absurd hj (by simp)) (by kernel_rfl) (by kernel_rfl) (by kernel_rfl) (by kernel_rfl) ((Chg.drew w54).weak (by simp)) (fun _ _ _ h h' => h.step h' (fun t ht => .inl (cL_sub t ht))) ?_ (obsG_batch 1 0 4 (fun _ _ => by kernel_rfl) (by kernel_rfl) ⟨?_, (obsG_batch 1 2 2 (fun _ _ => by kernel_rfl) (by kernel_rfl) ⟨?_, ⟨?_, trivial⟩⟩)⟩) ?_
  ·
   intro i j w1 w2 hij h hc
   match j, hij, h with
   | 0, hij, h => exact trivial
   | 1, hij, h => exact trivial
   | 2, hij, h => exact trivial
   | 3, hij, h => exact trivial
   | 4, hij, h => exact h.chg hc (cL_not (by intro p hp e; simp only [List.mem_cons, List.not_mem_nil, or_false] at hp; rcases hp with rfl <;> (simp only at e ⊢; omega)))
   | n + 5, _, _ => trivial
  ·
   intro i j v w1 w2 hij h hc
   match j, hij, h with
   | 0, _, _ => trivial
   | 1, _, _ => trivial
   | 2, _, _ => trivial
   | 3, _, _ => trivial
   | 4, hij, h => exact h.chg hc (cL_not (by intro p hp e; simp only [List.mem_cons, List.not_mem_nil, or_false] at hp; rcases hp with rfl <;> (simp only at e ⊢; omega)))
   | n + 5, _, _ => trivial
  ·
   intro u60 w61 hW62 hPr65 hp63 hal64
   have hz67 := hW62.size
   have hC66 := hC56.step1 hW62 (by omega)
   have hb68 : Blk w61 g12 #[.int .u64 0, .int .u64 0] 25 := hPr65 4 (.inr (.one (by kernel_rfl)))
   have hb69 := ((hb33.pure hc43).pure hc55).chg1 hW62 (by omega)
   refine WR.load (dst := some 26) (t := 25) (o := 0) hb69 (by kernel_rfl) (.agg #[.int .u64 a0.a.Lo, .int .u64 a0.a.Hi]) (by kernel_rfl) ?_
   refine WR.fin (by kernel_rfl) ?_
   exact fun _ ha => ⟨Chg.refl _ _, _, ha, ⟨⟨fun h => absurd h (by decide), alNone (by decide)⟩, rfl⟩⟩
  ·
   intro u70 w71 hW72 _ hp73 hal74
   have hz77 := hW72.size
   have hC76 := hC56.step1 hW72 (by omega)
   have hb78 := ((hb33.pure hc43).pure hc55).chg1 hW72 (by omega)
   refine WR.load (dst := some 28) (t := 25) (o := 2) hb78 (by kernel_rfl) (.agg #[.int .u64 a0.b.Lo, .int .u64 a0.b.Hi]) (by kernel_rfl) ?_
   refine WR.fin (by kernel_rfl) ?_
   exact fun _ ha => ⟨Chg.refl _ _, _, ha, ⟨⟨fun h => absurd h (by decide), alNone (by decide)⟩, rfl⟩⟩
  ·
   intro u79 w80 hW81 hPr84 hp82 hal83
   have hz86 := hW81.size
   have hC85 := hC56.step1 hW81 (by omega)
   have hb87 : Blk w80 g12 #[.int .u64 0, .int .u64 0] 25 := hPr84 4 (.inl rfl)
   refine WR.store (t := 25) (o := 0) (v := .agg #[.int .u64 a0.a.Lo, .int .u64 a0.a.Hi]) hb87 (by kernel_rfl) #[.int .u64 a0.a.Lo, .int .u64 a0.a.Hi] (by kernel_rfl) ?_
   intro w88 hb89 hc90
   have hz92 := hc90.size
   have hC91 := hC85.step1 hc90 (by omega)
   refine WR.fin (by kernel_rfl) ?_
   exact fun _ ha => ⟨hc90, undef, ha, ⟨⟨fun h => absurd h (by decide), alNone (by decide)⟩, hb89⟩⟩
  intro u93 w94 hW95 hr96 _ _
  have hz100 := hW95.size
  have hC99 := hC56.step1 hW95 (by omega)
  have hp101 : Blk w94 g12 #[.int .u64 a0.a.Lo, .int .u64 a0.a.Hi] 25 := hr96 4 (by omega) (by kernel_rfl)
  refine WR.keep [4, 5, 28] (F' := [(4, pt g12 0), (5, pt g22 0), (28, .agg #[.int .u64 a0.b.Lo, .int .u64 a0.b.Hi])]) (by kernel_rfl) ?_
  have hb105 := ((hb25.pure hc43).pure hc55).chg1 hW95 (by omega)
  refine WR.store (t := 25) (o := 0) (v := .agg #[.int .u64 a0.b.Lo, .int .u64 a0.b.Hi]) hb105 (by kernel_rfl) #[.int .u64 a0.b.Lo, .int .u64 a0.b.Hi] (by kernel_rfl) ?_
  intro w102 hb103 hc104
  have hz107 := hc104.size
  have hC106 := hC99.step1 hc104 (by omega)
  refine WR.fin (by kernel_rfl) ?_
  refine go hK58 ?_
  refine CW.ret ?_
  have hb108 := hp101.chg1 hc104 (by omega)
  exact retC [.agg #[.int .u64 a0.a.Lo, .int .u64 a0.a.Hi], .agg #[.int .u64 a0.b.Lo, .int .u64 a0.b.Hi]] _ rfl ⟨resCell hb108 rfl (by kernel_rfl), resCell hb103 rfl (by kernel_rfl), trivial⟩ (retP_ret (g := (fun r : (TSpan × TSpan) => (.tuple #[TSpan.v r.1, TSpan.v r.2] : Value))) hs53 rfl hC106)
 have hs109 := ifF ht36 hs
 replace ht36 : a1 = true := (bNotF ht36)
 refine CW.skip ?_
 refine go hK34 ?_
 refine CW.seq fun K110 hK110 => ?_
 refine CW.region ?_
 refine WR.batch 2 [(2, pt g2 0), (4, pt g12 0), (5, pt g22 0), (6, .bool ((bAnd .u64 a0.a.Lo a0.b.Lo) != (0 : Int))), (30, pt g2 1)] (by kernel_rfl) ?_
 refine WR.load (dst := some 31) (t := 23) (o := 1) hb33 (by kernel_rfl) (.int .u64 a0.a.Hi) (by kernel_rfl) ?_
 refine WR.batch 2 [(2, pt g2 0), (4, pt g12 0), (5, pt g22 0), (6, .bool ((bAnd .u64 a0.a.Lo a0.b.Lo) != (0 : Int))), (33, .bool (decide (a0.a.Hi > (0 : Int))))] (by kernel_rfl) ?_
 refine WR.mergeW 10 [(2, pt g2 0), (4, pt g12 0), (5, pt g22 0), (6, .bool ((bAnd .u64 a0.a.Lo a0.b.Lo) != (0 : Int))), (38, .bool ((decide (a0.a.Hi > (0 : Int))) && (decide (a0.b.Hi > (0 : Int)))))] (fun w' => Chg [] w23 w') (fun Q' => ?_) ?_
 ·
  cases hg111 : decide (a0.a.Hi > (0 : Int))
  ·
   have hk113 := hg111
   replace hg111 : ¬ (a0.a.Hi > (0 : Int)) := (of_decide_eq_false hg111)
   intro hM112
   refine WR.batch 5 [(2, pt g2 0), (4, pt g12 0), (5, pt g22 0), (6, .bool ((bAnd .u64 a0.a.Lo a0.b.Lo) != (0 : Int))), (38, .bool false)] (by kernel_rfl) ?_
   exact WR.keep [2, 4, 5, 6, 38] (by kernel_rfl) (hM112 _ (Chg.refl [] w23))
  ·
   have hk114 := hg111
   replace hg111 : a0.a.Hi > (0 : Int) := (of_decide_eq_true hg111)
   intro hM112
   refine WR.batch 2 [(2, pt g2 0), (4, pt g12 0), (5, pt g22 0), (6, .bool ((bAnd .u64 a0.a.Lo a0.b.Lo) != (0 : Int))), (33, .bool true), (35, pt g2 3)] (by kernel_rfl) ?_
   refine WR.load (dst := some 36) (t := 23) (o := 3) hb33 (by kernel_rfl) (.int .u64 a0.b.Hi) (by kernel_rfl) ?_
   refine WR.batch 2 [(2, pt g2 0), (4, pt g12 0), (5, pt g22 0), (6, .bool ((bAnd .u64 a0.a.Lo a0.b.Lo) != (0 : Int))), (38, .bool (decide (a0.b.Hi > (0 : Int))))] (by kernel_rfl) ?_
   exact WR.keep [2, 4, 5, 6, 38] (by kernel_rfl) (hM112 _ (Chg.refl [] w23))
 intro w115 hc116
 have hz118 := hc116.size
 have hC117 := hC29.pure hc116
 refine WR.batch 1 [(2, pt g2 0), (4, pt g12 0), (5, pt g22 0), (6, .bool ((bAnd .u64 a0.a.Lo a0.b.Lo) != (0 : Int))), (39, .bool ((decide (a0.a.Hi > (0 : Int))) && (decide (a0.b.Hi > (0 : Int)))))] (by kernel_rfl) ?_
 refine WR.mergeW 18 [(2, pt g2 0), (4, pt g12 0), (5, pt g22 0), (46, .bool (((decide (a0.a.Hi > (0 : Int))) && (decide (a0.b.Hi > (0 : Int)))) && ((!(span_work_both a0)) || ((bAnd .u64 a0.a.Lo a0.b.Lo) != (0 : Int)))))] (fun w' => Chg [] w115 w') (fun Q' => ?_) ?_
 ·
  cases hg119 : ((decide (a0.a.Hi > (0 : Int))) && (decide (a0.b.Hi > (0 : Int))))
  ·
   have hk121 := hg119
   replace hg119 : (¬ (a0.a.Hi > (0 : Int))) ∨ (¬ (a0.b.Hi > (0 : Int))) := (orMap (bAndF hg119) (fun h => (of_decide_eq_false h)) (fun h => (of_decide_eq_false h)))
   intro hM120
   refine WR.batch 7 [(2, pt g2 0), (4, pt g12 0), (5, pt g22 0), (46, .bool false)] (by kernel_rfl) ?_
   exact WR.keep [2, 4, 5, 46] (by kernel_rfl) (hM120 _ (Chg.refl [] w115))
  ·
   have hk122 := hg119
   replace hg119 : (a0.a.Hi > (0 : Int)) ∧ (a0.b.Hi > (0 : Int)) := ⟨(of_decide_eq_true (bAndT hg119).1), (of_decide_eq_true (bAndT hg119).2)⟩
   intro hM120
   have hb123 := hb33.pure hc116
   refine WR.load (dst := some 40) (t := 79) (o := 0) hb123 (by kernel_rfl) (.agg #[.int .u64 a0.a.Lo, .int .u64 a0.a.Hi, .int .u64 a0.b.Lo, .int .u64 a0.b.Hi, .bool a0.narrow, .int .u64 a0.most, .int .u64 a0.size]) (by kernel_rfl) ?_
   refine WR.call (dst := some 41) (by kernel_rfl) (span_work_both_any a0 w115  ⟨(by omega), (by omega), (by omega), (by omega), (by omega), (by omega)⟩ ) ?_
   rintro _ w124 hc125 rfl
   have hz127 := hc125.size
   have hC126 := hC117.pure hc125
   refine WR.batch 2 [(2, pt g2 0), (4, pt g12 0), (5, pt g22 0), (6, .bool ((bAnd .u64 a0.a.Lo a0.b.Lo) != (0 : Int))), (39, .bool true), (43, .bool (!(span_work_both a0)))] (by kernel_rfl) ?_
   refine WR.batch 2 [(2, pt g2 0), (4, pt g12 0), (5, pt g22 0), (39, .bool true), (45, .bool ((!(span_work_both a0)) || ((bAnd .u64 a0.a.Lo a0.b.Lo) != (0 : Int))))] (by generalize (!(span_work_both a0)) = b; cases b <;> kernel_rfl) ?_
   refine WR.batch 1 [(2, pt g2 0), (4, pt g12 0), (5, pt g22 0), (46, .bool ((!(span_work_both a0)) || ((bAnd .u64 a0.a.Lo a0.b.Lo) != (0 : Int))))] (by kernel_rfl) ?_
   exact WR.keep [2, 4, 5, 46] (by kernel_rfl) (hM120 _ ((Chg.refl [] w115).pure hc125))
 intro w128 hc129
 have hz131 := hc129.size
 have hC130 := hC117.pure hc129
 rcases hx133 : span_must (((decide (a0.a.Hi > (0 : Int))) && (decide (a0.b.Hi > (0 : Int)))) && ((!(span_work_both a0)) || ((bAnd .u64 a0.a.Lo a0.b.Lo) != (0 : Int)))) with _ | x132
 ·
  have hs136 := optN hx133 hs109
  refine WR.callX (dst := some 47) (by kernel_rfl) (retP_no (g := (fun _ : Unit => (.tuple #[] : Value))) hx133 (span_must_any (((decide (a0.a.Hi > (0 : Int))) && (decide (a0.b.Hi > (0 : Int)))) && ((!(span_work_both a0)) || ((bAnd .u64 a0.a.Lo a0.b.Lo) != (0 : Int)))) w128  )) ?_
  intro w134 hc135
  have hz138 := hc135.size
  have hC137 := hC130.pure hc135
  exact panicV (P := Try.prog) (fn := Try.f90) (retP_pan hs136 hC137)
 have hs139 := optS hx133 hs109
 refine WR.call (dst := some 47) (by kernel_rfl) (retP_yes (g := (fun _ : Unit => (.tuple #[] : Value))) hx133 (span_must_any (((decide (a0.a.Hi > (0 : Int))) && (decide (a0.b.Hi > (0 : Int)))) && ((!(span_work_both a0)) || ((bAnd .u64 a0.a.Lo a0.b.Lo) != (0 : Int)))) w128  )) ?_
 rintro _ w140 hc141 rfl
 have hz143 := hc141.size
 have hC142 := hC130.pure hc141
 refine WR.fin (by kernel_rfl) ?_
 refine go hK110 ?_
 refine CW.seq fun K144 hK144 => ?_
 refine CW.keep [2, 4, 5] (F' := [(2, pt g2 0), (4, pt g12 0), (5, pt g22 0)]) (by kernel_rfl) ?_
 have hb145 := (((hb15.pure hc27).pure hc116).pure hc129).pure hc141
 refine CW.regionG 17 [some (pt g2 0), some (pt g2 0), some (.int .u64 a0.a.Lo), some (.int .u64 (gMax a0.a.Lo (1 : Int))), some (pt g2 0), some (pt g2 1), some (.int .u64 a0.a.Hi), some (.agg #[.int .u64 (gMax a0.a.Lo (1 : Int)), .int .u64 a0.a.Hi]), some (pt g2 2), some (pt g2 2), some (.int .u64 a0.b.Lo), some (.int .u64 (gMax a0.b.Lo (1 : Int))), some (pt g2 2), some (pt g2 3), some (.int .u64 a0.b.Hi), some (.agg #[.int .u64 (gMax a0.b.Lo (1 : Int)), .int .u64 a0.b.Hi]), none] (fun u => [(48, pt g2 0), (49, pt g2 0), (50, .int .u64 a0.a.Lo), (51, .int .u64 (gMax a0.a.Lo (1 : Int))), (52, pt g2 0), (53, pt g2 1), (54, .int .u64 a0.a.Hi), (55, .agg #[.int .u64 (gMax a0.a.Lo (1 : Int)), .int .u64 a0.a.Hi]), (56, pt g2 2), (57, pt g2 2), (58, .int .u64 a0.b.Lo), (59, .int .u64 (gMax a0.b.Lo (1 : Int))), (60, pt g2 2), (61, pt g2 3), (62, .int .u64 a0.b.Hi), (63, .agg #[.int .u64 (gMax a0.b.Lo (1 : Int)), .int .u64 a0.b.Hi]), (2, pt g2 0), (4, pt g12 0), (5, pt g22 0)]) (fun _ => by kernel_rfl) (by kernel_rfl) [(16, g12)] (fun i w' => match i with | 0 => True | 1 => True | 2 => True | 3 => True | 4 => True | 5 => True | 6 => True | 7 => True | 8 => True | 9 => True | 10 => True | 11 => True | 12 => True | 13 => True | 14 => True | 15 => True | 16 => Blk w' g12 #[.int .u64 0, .int .u64 0] 25 | _ => True) (fun j => match j with | 0 => trivial | 1 => trivial | 2 => trivial | 3 => trivial | 4 => trivial | 5 => trivial | 6 => trivial | 7 => trivial | 8 => trivial | 9 => trivial | 10 => trivial | 11 => trivial | 12 => trivial | 13 => trivial | 14 => trivial | 15 => trivial | 16 => hb145.pure (Chg.drew w140) | j + 17 => trivial) ?_ [] [] (by kernel_rfl) (fun w' => Chg [g12] w140 w') (fun i v w' => match i with | 0 => True | 1 => True | 2 => True | 3 => True | 4 => True | 5 => True | 6 => True | 7 => True | 8 => True | 9 => True | 10 => True | 11 => True | 12 => True | 13 => True | 14 => True | 15 => True | 16 => Blk w' g12 #[.int .u64 (gMax a0.a.Lo (1 : Int)), .int .u64 a0.a.Hi] 25 | _ => True) (fun j x w hj h => absurd hj (by simp)) (by kernel_rfl) (by kernel_rfl) (by kernel_rfl) (by kernel_rfl) ((Chg.drew w140).weak (by simp)) (fun _ _ _ h h' => h.step h' (fun t ht => .inl (cL_sub t ht))) ?_ (obsG_batch 2 0 15 (fun _ _ => by kernel_rfl) (by kernel_rfl) ⟨?_, (obsG_batch 3 3 11 (fun _ _ => by kernel_rfl) (by kernel_rfl) ⟨?_, (obsG_batch 3 7 7 (fun _ _ => by kernel_rfl) (by kernel_rfl) ⟨?_, (obsG_batch 3 11 3 (fun _ _ => by kernel_rfl) (by kernel_rfl) ⟨?_, (obsG_batch 1 15 1 (fun _ _ => by kernel_rfl) (by kernel_rfl) ⟨?_, trivial⟩)⟩)⟩)⟩)⟩) ?_
 ·
  intro i j w1 w2 hij h hc
  match j, hij, h with
  | 0, hij, h => exact trivial
  | 1, hij, h => exact trivial
  | 2, hij, h => exact trivial
  | 3, hij, h => exact trivial
  | 4, hij, h => exact trivial
  | 5, hij, h => exact trivial
  | 6, hij, h => exact trivial
  | 7, hij, h => exact trivial
  | 8, hij, h => exact trivial
  | 9, hij, h => exact trivial
  | 10, hij, h => exact trivial
  | 11, hij, h => exact trivial
  | 12, hij, h => exact trivial
  | 13, hij, h => exact trivial
  | 14, hij, h => exact trivial
  | 15, hij, h => exact trivial
  | 16, hij, h => exact h.chg hc (cL_not (by intro p hp e; simp only [List.mem_cons, List.not_mem_nil, or_false] at hp; rcases hp with rfl <;> (simp only at e ⊢; omega)))
  | n + 17, _, _ => trivial
 ·
  intro i j v w1 w2 hij h hc
  match j, hij, h with
  | 0, _, _ => trivial
  | 1, _, _ => trivial
  | 2, _, _ => trivial
  | 3, _, _ => trivial
  | 4, _, _ => trivial
  | 5, _, _ => trivial
  | 6, _, _ => trivial
  | 7, _, _ => trivial
  | 8, _, _ => trivial
  | 9, _, _ => trivial
  | 10, _, _ => trivial
  | 11, _, _ => trivial
  | 12, _, _ => trivial
  | 13, _, _ => trivial
  | 14, _, _ => trivial
  | 15, _, _ => trivial
  | 16, hij, h => exact h.chg hc (cL_not (by intro p hp e; simp only [List.mem_cons, List.not_mem_nil, or_false] at hp; rcases hp with rfl <;> (simp only at e ⊢; omega)))
  | n + 17, _, _ => trivial
 ·
  intro u146 w147 hW148 hPr151 hp149 hal150
  have hz153 := hW148.size
  have hC152 := hC142.step1 hW148 (by omega)
  have hb154 : Blk w147 g12 #[.int .u64 0, .int .u64 0] 25 := hPr151 16 (.inr (.one (by kernel_rfl)))
  have hb155 := (((hb33.pure hc116).pure hc129).pure hc141).chg1 hW148 (by omega)
  refine WR.load (dst := some 50) (t := 23) (o := 0) hb155 (by kernel_rfl) (.int .u64 a0.a.Lo) (by kernel_rfl) ?_
  refine WR.fin (by kernel_rfl) ?_
  exact fun _ ha => ⟨Chg.refl _ _, _, ha, ⟨⟨fun h => absurd h (by decide), alNone (by decide)⟩, rfl⟩⟩
 ·
  intro u156 w157 hW158 hPr161 hp159 hal160
  have hz163 := hW158.size
  have hC162 := hC142.step1 hW158 (by omega)
  have hb164 : Blk w157 g12 #[.int .u64 0, .int .u64 0] 25 := hPr161 16 (.inr (.one (by kernel_rfl)))
  have hb165 := (((hb33.pure hc116).pure hc129).pure hc141).chg1 hW158 (by omega)
  refine WR.load (dst := some 54) (t := 23) (o := 1) hb165 (by kernel_rfl) (.int .u64 a0.a.Hi) (by kernel_rfl) ?_
  refine WR.fin (by kernel_rfl) ?_
  exact fun _ ha => ⟨Chg.refl _ _, _, ha, ⟨⟨fun h => absurd h (by decide), alNone (by decide)⟩, rfl⟩⟩
 ·
  intro u166 w167 hW168 _ hp169 hal170
  have hz173 := hW168.size
  have hC172 := hC142.step1 hW168 (by omega)
  have hb174 := (((hb33.pure hc116).pure hc129).pure hc141).chg1 hW168 (by omega)
  refine WR.load (dst := some 58) (t := 23) (o := 2) hb174 (by kernel_rfl) (.int .u64 a0.b.Lo) (by kernel_rfl) ?_
  refine WR.fin (by kernel_rfl) ?_
  exact fun _ ha => ⟨Chg.refl _ _, _, ha, ⟨⟨fun h => absurd h (by decide), alNone (by decide)⟩, rfl⟩⟩
 ·
  intro u175 w176 hW177 _ hp178 hal179
  have hz182 := hW177.size
  have hC181 := hC142.step1 hW177 (by omega)
  have hb183 := (((hb33.pure hc116).pure hc129).pure hc141).chg1 hW177 (by omega)
  refine WR.load (dst := some 62) (t := 23) (o := 3) hb183 (by kernel_rfl) (.int .u64 a0.b.Hi) (by kernel_rfl) ?_
  refine WR.fin (by kernel_rfl) ?_
  exact fun _ ha => ⟨Chg.refl _ _, _, ha, ⟨⟨fun h => absurd h (by decide), alNone (by decide)⟩, rfl⟩⟩
 ·
  intro u184 w185 hW186 hPr189 hp187 hal188
  have hz191 := hW186.size
  have hC190 := hC142.step1 hW186 (by omega)
  have hb192 : Blk w185 g12 #[.int .u64 0, .int .u64 0] 25 := hPr189 16 (.inl rfl)
  refine WR.store (t := 25) (o := 0) (v := .agg #[.int .u64 (gMax a0.a.Lo (1 : Int)), .int .u64 a0.a.Hi]) hb192 (by kernel_rfl) #[.int .u64 (gMax a0.a.Lo (1 : Int)), .int .u64 a0.a.Hi] (by kernel_rfl) ?_
  intro w193 hb194 hc195
  have hz197 := hc195.size
  have hC196 := hC190.step1 hc195 (by omega)
  refine WR.fin (by kernel_rfl) ?_
  exact fun _ ha => ⟨hc195, undef, ha, ⟨⟨fun h => absurd h (by decide), alNone (by decide)⟩, hb194⟩⟩
 intro u198 w199 hW200 hr201 _ _
 have hz205 := hW200.size
 have hC204 := hC142.step1 hW200 (by omega)
 have hp206 : Blk w199 g12 #[.int .u64 (gMax a0.a.Lo (1 : Int)), .int .u64 a0.a.Hi] 25 := hr201 16 (by omega) (by kernel_rfl)
 refine WR.keep [4, 5, 63] (F' := [(4, pt g12 0), (5, pt g22 0), (63, .agg #[.int .u64 (gMax a0.b.Lo (1 : Int)), .int .u64 a0.b.Hi])]) (by kernel_rfl) ?_
 have hb210 := (((hb25.pure hc116).pure hc129).pure hc141).chg1 hW200 (by omega)
 refine WR.store (t := 25) (o := 0) (v := .agg #[.int .u64 (gMax a0.b.Lo (1 : Int)), .int .u64 a0.b.Hi]) hb210 (by kernel_rfl) #[.int .u64 (gMax a0.b.Lo (1 : Int)), .int .u64 a0.b.Hi] (by kernel_rfl) ?_
 intro w207 hb208 hc209
 have hz212 := hc209.size
 have hC211 := hC204.step1 hc209 (by omega)
 refine WR.fin (by kernel_rfl) ?_
 refine go hK144 ?_
 refine CW.ret ?_
 have hb213 := hp206.chg1 hc209 (by omega)
 exact retC [.agg #[.int .u64 (gMax a0.a.Lo (1 : Int)), .int .u64 a0.a.Hi], .agg #[.int .u64 (gMax a0.b.Lo (1 : Int)), .int .u64 a0.b.Hi]] _ rfl ⟨resCell hb213 rfl (by kernel_rfl), resCell hb208 rfl (by kernel_rfl), trivial⟩ (retP_ret (g := (fun r : (TSpan × TSpan) => (.tuple #[TSpan.v r.1, TSpan.v r.2] : Value))) hs139 rfl hC211)
end Go.V
