import Derived.Test.YtbklhipicfimeaaProg
import Derived.Test.YtbklhipicfimeaaSd
namespace Go.V
open Go.RowKit Go.Proofs
theorem setL_le (xs : List Bool) (at_ size : Int) : (setL xs at_ size).length ≤ xs.length := by
  unfold setL; split
  · simp
  · rw [setTo_len]; exact Nat.le_refl _
theorem joinL_le (xs ys : List Bool) : (joinL xs ys).length ≤ 512 := by
  unfold joinL; split
  · rw [joinTo_len]; exact Nat.le_refl _
  · simp

theorem reads_any (ad : Option Addr) (cap : Nat) (xs : List Bool) (at_ size e : Int) (w : World) (hr : Rg w ad (bo xs)) : Calls Try.prog 22 #[.slice ad xs.length cap, .int .i64 at_, .int .i64 size, .int .i64 e] w (RetV w (.bool (readE xs at_ size == e))) := by
  refine calls_of_CW Try.func22 rfl (n := 15) Try.ntmps22 (by kernel_rfl) [0, 1, 2, 3] (F := [(0, .slice ad xs.length cap), (1, .int .i64 at_), (2, .int .i64 size), (3, .int .i64 e)]) (by kernel_rfl) ?_
  refine CW.seq fun K1 hK1 => ?_
  refine CW.region ?_
  refine WR.batch 1 [(0, .slice ad xs.length cap), (1, .int .i64 at_), (2, .int .i64 size), (3, .int .i64 e)] (by kernel_rfl) ?_
  refine WR.fin (by kernel_rfl) ?_
  refine go hK1 ?_
  refine CW.seq fun K2 hK2 => ?_
  refine CW.region ?_
  refine WR.batch 3 [(3, .int .i64 e), (9, .slice ad xs.length cap), (10, .int .i64 at_), (11, .int .i64 size)] (by kernel_rfl) ?_
  refine WR.call (dst := some 12) (by kernel_rfl) (Read_any ad cap xs at_ size w hr) ?_
  rintro _ w3 hc4 rfl
  have hz6 := hc4.size
  have hC5 := (Chg.refl [] w).pure hc4
  refine WR.batch 3 [(8, .bool ((readE xs at_ size) == e))] (by kernel_rfl) ?_
  refine WR.fin (by kernel_rfl) ?_
  refine go hK2 ?_
  refine CW.ret ?_
  exact retV (.bool ((readE xs at_ size) == e)) (by kernel_rfl) ⟨hC5, rfl⟩

theorem awake_any (w : World) : Calls Try.prog 7 #[] w (RetV w (.bool true)) := by
  refine calls_of_CW Try.func7 rfl (n := 37) Try.ntmps7 (by kernel_rfl) [] (F := []) (by kernel_rfl) ?_
  refine CW.seq fun K1 hK1 => ?_
  refine CW.region ?_
  refine WR.batch 1 [] (by kernel_rfl) ?_
  refine WR.fin (by kernel_rfl) ?_
  refine go hK1 ?_
  refine CW.seq fun K2 hK2 => ?_
  refine CW.region ?_
  refine WR.call (dst := some 6) (by kernel_rfl) (New_any w) ?_
  rintro _ w7 hc8 ⟨ad3, cap4, e6, rfl, ho5⟩
  have hz10 := hc8.size
  have hC9 := (Chg.refl [] w).pure hc8
  have hge15 := ho5.ge
  refine WR.call (dst := some 7) (by kernel_rfl) (Set_any ad3 cap4 newL (-8 : Int) (4 : Int) w7 ho5.rg) ?_
  rintro _ w16 hc17 ⟨ad11, cap12, e14, rfl, ho13⟩
  have hz19 := hc17.size
  have hC18 := hC9.pure hc17
  have ho20 := ho5.pure hc17
  have hap21 := Apart.new hge15 ho13 (by omega)
  refine WR.batch 5 [(1, .slice ad11 (setL newL (-8 : Int) (4 : Int)).length cap12), (2, .int .i64 (placeE (newL).length (-8 : Int) (4 : Int)))] (by kernel_rfl) ?_
  refine WR.fin (by kernel_rfl) ?_
  refine go hK2 ?_
  refine CW.seq fun K22 hK22 => ?_
  refine CW.region ?_
  have hge27 := ho20.ge
  have hge28 := ho13.ge
  refine WR.call (dst := some 11) (by kernel_rfl) (New_any w16) ?_
  rintro _ w29 hc30 ⟨ad23, cap24, e26, rfl, ho25⟩
  have hz32 := hc30.size
  have hC31 := hC18.pure hc30
  have ho33 := ho20.pure hc30
  have ho34 := ho13.pure hc30
  have hap35 := Apart.new hge27 ho25 (by omega)
  have hap36 := Apart.new hge28 ho25 (by omega)
  have hge41 := ho33.ge
  have hge42 := ho34.ge
  have hge43 := ho25.ge
  refine WR.call (dst := some 12) (by kernel_rfl) (Set_any ad23 cap24 newL (-8 : Int) (3 : Int) w29 ho25.rg) ?_
  rintro _ w44 hc45 ⟨ad37, cap38, e40, rfl, ho39⟩
  have hz47 := hc45.size
  have hC46 := hC31.pure hc45
  have ho48 := ho33.pure hc45
  have ho49 := ho34.pure hc45
  have ho50 := ho25.pure hc45
  have hap51 := Apart.new hge41 ho39 (by omega)
  have hap52 := Apart.new hge42 ho39 (by omega)
  have hap53 := Apart.new hge43 ho39 (by omega)
  refine WR.batch 5 [(1, .slice ad11 (setL newL (-8 : Int) (4 : Int)).length cap12), (2, .int .i64 (placeE (newL).length (-8 : Int) (4 : Int))), (4, .int .i64 (placeE (newL).length (-8 : Int) (3 : Int)))] (by kernel_rfl) ?_
  refine WR.fin (by kernel_rfl) ?_
  refine go hK22 ?_
  refine CW.seq fun K54 hK54 => ?_
  refine CW.region ?_
  refine WR.batch 2 [(1, .slice ad11 (setL newL (-8 : Int) (4 : Int)).length cap12), (4, .int .i64 (placeE (newL).length (-8 : Int) (3 : Int))), (16, .bool ((placeE (newL).length (-8 : Int) (4 : Int)) == (0 : Int)))] (by kernel_rfl) ?_
  have hk55 : ((placeE (newL).length (-8 : Int) (4 : Int)) == (0 : Int)) = true := by kernel_rfl
  refine WR.eqF (F' := [(1, .slice ad11 (setL newL (-8 : Int) (4 : Int)).length cap12), (4, .int .i64 (placeE (newL).length (-8 : Int) (3 : Int))), (16, .bool true)]) (by rw [hk55]) ?_
  refine WR.batch 2 [(1, .slice ad11 (setL newL (-8 : Int) (4 : Int)).length cap12), (4, .int .i64 (placeE (newL).length (-8 : Int) (3 : Int))), (17, .bool true), (18, .slice ad11 (setL newL (-8 : Int) (4 : Int)).length cap12)] (by kernel_rfl) ?_
  refine WR.call (dst := some 19) (by kernel_rfl) (reads_any ad11 cap12 (setL newL (-8 : Int) (4 : Int)) (-8 : Int) (4 : Int) (0 : Int) w44 ho49.rg) ?_
  rintro _ w56 hc57 rfl
  have hz59 := hc57.size
  have hC58 := hC46.pure hc57
  have ho60 := ho48.pure hc57
  have ho61 := ho49.pure hc57
  have ho62 := ho50.pure hc57
  have ho63 := ho39.pure hc57
  refine WR.batch 1 [(1, .slice ad11 (setL newL (-8 : Int) (4 : Int)).length cap12), (4, .int .i64 (placeE (newL).length (-8 : Int) (3 : Int))), (20, .bool ((readE (setL newL (-8 : Int) (4 : Int)) (-8 : Int) (4 : Int)) == (0 : Int)))] (by kernel_rfl) ?_
  have hk64 : ((readE (setL newL (-8 : Int) (4 : Int)) (-8 : Int) (4 : Int)) == (0 : Int)) = true := by kernel_rfl
  refine WR.eqF (F' := [(1, .slice ad11 (setL newL (-8 : Int) (4 : Int)).length cap12), (4, .int .i64 (placeE (newL).length (-8 : Int) (3 : Int))), (20, .bool true)]) (by rw [hk64]) ?_
  refine WR.batch 2 [(1, .slice ad11 (setL newL (-8 : Int) (4 : Int)).length cap12), (4, .int .i64 (placeE (newL).length (-8 : Int) (3 : Int))), (21, .bool true), (22, .slice ad11 (setL newL (-8 : Int) (4 : Int)).length cap12)] (by kernel_rfl) ?_
  refine WR.call (dst := some 23) (by kernel_rfl) (reads_any ad11 cap12 (setL newL (-8 : Int) (4 : Int)) (-6 : Int) (2 : Int) (0 : Int) w56 ho61.rg) ?_
  rintro _ w65 hc66 rfl
  have hz68 := hc66.size
  have hC67 := hC58.pure hc66
  have ho69 := ho60.pure hc66
  have ho70 := ho61.pure hc66
  have ho71 := ho62.pure hc66
  have ho72 := ho63.pure hc66
  refine WR.batch 1 [(1, .slice ad11 (setL newL (-8 : Int) (4 : Int)).length cap12), (4, .int .i64 (placeE (newL).length (-8 : Int) (3 : Int))), (24, .bool ((readE (setL newL (-8 : Int) (4 : Int)) (-6 : Int) (2 : Int)) == (0 : Int)))] (by kernel_rfl) ?_
  have hk73 : ((readE (setL newL (-8 : Int) (4 : Int)) (-6 : Int) (2 : Int)) == (0 : Int)) = true := by kernel_rfl
  refine WR.eqF (F' := [(1, .slice ad11 (setL newL (-8 : Int) (4 : Int)).length cap12), (4, .int .i64 (placeE (newL).length (-8 : Int) (3 : Int))), (24, .bool true)]) (by rw [hk73]) ?_
  refine WR.batch 2 [(1, .slice ad11 (setL newL (-8 : Int) (4 : Int)).length cap12), (4, .int .i64 (placeE (newL).length (-8 : Int) (3 : Int))), (25, .bool true), (26, .slice ad11 (setL newL (-8 : Int) (4 : Int)).length cap12)] (by kernel_rfl) ?_
  refine WR.call (dst := some 27) (by kernel_rfl) (reads_any ad11 cap12 (setL newL (-8 : Int) (4 : Int)) (-8 : Int) (8 : Int) (110 : Int) w65 ho70.rg) ?_
  rintro _ w74 hc75 rfl
  have hz77 := hc75.size
  have hC76 := hC67.pure hc75
  have ho78 := ho69.pure hc75
  have ho79 := ho70.pure hc75
  have ho80 := ho71.pure hc75
  have ho81 := ho72.pure hc75
  refine WR.batch 1 [(1, .slice ad11 (setL newL (-8 : Int) (4 : Int)).length cap12), (4, .int .i64 (placeE (newL).length (-8 : Int) (3 : Int))), (28, .bool ((readE (setL newL (-8 : Int) (4 : Int)) (-8 : Int) (8 : Int)) == (110 : Int)))] (by kernel_rfl) ?_
  have hk82 : ((readE (setL newL (-8 : Int) (4 : Int)) (-8 : Int) (8 : Int)) == (110 : Int)) = true := by kernel_rfl
  refine WR.eqF (F' := [(1, .slice ad11 (setL newL (-8 : Int) (4 : Int)).length cap12), (4, .int .i64 (placeE (newL).length (-8 : Int) (3 : Int))), (28, .bool true)]) (by rw [hk82]) ?_
  refine WR.batch 2 [(4, .int .i64 (placeE (newL).length (-8 : Int) (3 : Int))), (29, .bool true), (30, .slice ad11 (setL newL (-8 : Int) (4 : Int)).length cap12)] (by kernel_rfl) ?_
  refine WR.call (dst := some 31) (by kernel_rfl) (reads_any ad11 cap12 (setL newL (-8 : Int) (4 : Int)) (-4 : Int) (8 : Int) (112 : Int) w74 ho79.rg) ?_
  rintro _ w83 hc84 rfl
  have hz86 := hc84.size
  have hC85 := hC76.pure hc84
  have ho87 := ho78.pure hc84
  have ho88 := ho79.pure hc84
  have ho89 := ho80.pure hc84
  have ho90 := ho81.pure hc84
  refine WR.batch 1 [(4, .int .i64 (placeE (newL).length (-8 : Int) (3 : Int))), (32, .bool ((readE (setL newL (-8 : Int) (4 : Int)) (-4 : Int) (8 : Int)) == (112 : Int)))] (by kernel_rfl) ?_
  have hk91 : ((readE (setL newL (-8 : Int) (4 : Int)) (-4 : Int) (8 : Int)) == (112 : Int)) = true := by kernel_rfl
  refine WR.eqF (F' := [(4, .int .i64 (placeE (newL).length (-8 : Int) (3 : Int))), (32, .bool true)]) (by rw [hk91]) ?_
  refine WR.batch 3 [(33, .bool true), (35, .bool ((placeE (newL).length (-8 : Int) (3 : Int)) == (2 : Int)))] (by kernel_rfl) ?_
  have hk92 : ((placeE (newL).length (-8 : Int) (3 : Int)) == (2 : Int)) = true := by kernel_rfl
  refine WR.eqF (F' := [(33, .bool true), (35, .bool true)]) (by rw [hk92]) ?_
  refine WR.batch 2 [(0, .bool true)] (by kernel_rfl) ?_
  refine WR.fin (by kernel_rfl) ?_
  refine go hK54 ?_
  refine CW.ret ?_
  exact retV (.bool true) (by kernel_rfl) ⟨hC85, rfl⟩

theorem stackTells_any (ad1 ad2 : Option Addr) (cap1 cap2 : Nat) (xs ys : List Bool) (at_ size : Int) (w : World) (h1 : Rg w ad1 (bo xs)) (h2 : Rg w ad2 (bo ys)) (hn1 : ad1 = none → xs.length = 0 ∧ cap1 = 0) (hn2 : ad2 = none → ys.length = 0 ∧ cap2 = 0) (_hat_ : -9223372036854775808 ≤ at_ ∧ at_ ≤ 9223372036854775807) (_hsize : -9223372036854775808 ≤ size ∧ size ≤ 9223372036854775807) : Calls Try.prog 3 #[.slice ad1 xs.length cap1, .slice ad2 ys.length cap2, .int .i64 at_, .int .i64 size] w (RetV w (.bool true)) := by
  have hsl := setL_le xs at_ size
  refine calls_of_CW Try.func3 rfl (n := 162) Try.ntmps3 (by kernel_rfl) [0, 1, 2, 3] (F := [(0, .slice ad1 xs.length cap1), (1, .slice ad2 ys.length cap2), (2, .int .i64 at_), (3, .int .i64 size)]) (by kernel_rfl) ?_
  refine CW.seq fun K1 hK1 => ?_
  refine CW.region ?_
  refine WR.batch 1 [(0, .slice ad1 xs.length cap1), (1, .slice ad2 ys.length cap2), (2, .int .i64 at_), (3, .int .i64 size)] (by kernel_rfl) ?_
  refine WR.fin (by kernel_rfl) ?_
  refine go hK1 ?_
  refine CW.seq fun K2 hK2 => ?_
  refine CW.seq fun K3 hK3 => ?_
  refine CW.region ?_
  refine WR.batch 4 [(0, .slice ad1 xs.length cap1), (1, .slice ad2 ys.length cap2), (2, .int .i64 at_), (3, .int .i64 size), (22, .bool (decide (((xs.length : Nat) : Int) > (3000 : Int))))] (by kernel_rfl) ?_
  refine WR.batch 4 [(0, .slice ad1 xs.length cap1), (1, .slice ad2 ys.length cap2), (2, .int .i64 at_), (3, .int .i64 size), (26, .bool ((decide (((xs.length : Nat) : Int) > (3000 : Int))) || (decide (((ys.length : Nat) : Int) > (3000 : Int)))))] (by generalize decide (((xs.length : Nat) : Int) > (3000 : Int)) = b; cases b <;> kernel_rfl) ?_
  refine WR.fin (by kernel_rfl) ?_
  refine go hK3 ?_
  refine CW.cond (((decide (((xs.length : Nat) : Int) > (3000 : Int))) || (decide (((ys.length : Nat) : Int) > (3000 : Int))))) (by kernel_rfl) (fun ht4 => ?_) (fun ht4 => ?_)
  ·
    replace ht4 : (((xs.length : Nat) : Int) > (3000 : Int)) ∨ (((ys.length : Nat) : Int) > (3000 : Int)) := (orMap (bOrT ht4) (fun h => (of_decide_eq_true h)) (fun h => (of_decide_eq_true h)))
    refine CW.seq fun K5 hK5 => ?_
    refine CW.region ?_
    refine WR.call (dst := some 27) (by kernel_rfl) (awake_any w) ?_
    rintro _ w6 hc7 rfl
    have hz9 := hc7.size
    have hC8 := (Chg.refl [] w).pure hc7
    refine WR.batch 1 [(8, .bool true)] (by kernel_rfl) ?_
    refine WR.fin (by kernel_rfl) ?_
    refine go hK5 ?_
    refine CW.ret ?_
    exact retV (.bool true) (by kernel_rfl) ⟨hC8, rfl⟩
  ·
    replace ht4 : (¬ (((xs.length : Nat) : Int) > (3000 : Int))) ∧ (¬ (((ys.length : Nat) : Int) > (3000 : Int))) := ⟨(of_decide_eq_false (bOrF ht4).1), (of_decide_eq_false (bOrF ht4).2)⟩
    refine CW.skip ?_
    refine go hK2 ?_
    refine CW.seq fun K10 hK10 => ?_
    refine CW.region ?_
    refine WR.batch 1 [(0, .slice ad1 xs.length cap1), (1, .slice ad2 ys.length cap2), (2, .int .i64 at_), (3, .int .i64 size), (28, .slice ad1 xs.length cap1)] (by kernel_rfl) ?_
    refine WR.call (dst := some 29) (by kernel_rfl) (lentTruths_any ad1 cap1 xs w h1 (by omega) hn1) ?_
    rintro _ w15 hc16 ⟨ad11, cap12, rfl, hr13, hcap14⟩
    have hz18 := hc16.size
    have hC17 := (Chg.refl [] w).pure hc16
    have hlt19 := hr13.lt (mapNe _ _ 0 (by simp [lentMarks_len]))
    have hr20 := lentLeft hr13
    refine WR.batch 1 [(0, .slice ad1 xs.length cap1), (1, .slice ad2 ys.length cap2), (2, .int .i64 at_), (3, .int .i64 size), (29, .slice ad11 xs.length cap12), (30, .slice ad2 ys.length cap2)] (by kernel_rfl) ?_
    refine WR.call (dst := some 31) (by kernel_rfl) (lentTruths_any ad2 cap2 ys w15 (h2.pure hC17) (by omega) hn2) ?_
    rintro _ w25 hc26 ⟨ad21, cap22, rfl, hr23, hcap24⟩
    have hz28 := hc26.size
    have hC27 := hC17.pure hc26
    have hr29 := hr20.pure hc26
    have hr30 := hr13.pure hc26
    have hlt31 := hr23.lt (mapNe _ _ 0 (by simp [lentMarks_len]))
    have hr32 := lentLeft hr23
    refine WR.batch 2 [(0, .slice ad1 xs.length cap1), (1, .slice ad2 ys.length cap2), (2, .int .i64 at_), (3, .int .i64 size), (9, .slice ad11 xs.length cap12), (10, .slice ad21 ys.length cap22)] (by kernel_rfl) ?_
    refine WR.fin (by kernel_rfl) ?_
    refine go hK10 ?_
    refine CW.seq fun K33 hK33 => ?_
    refine CW.region ?_
    refine WR.batch 3 [(0, .slice ad1 xs.length cap1), (1, .slice ad2 ys.length cap2), (2, .int .i64 at_), (3, .int .i64 size), (9, .slice ad11 xs.length cap12), (10, .slice ad21 ys.length cap22), (33, .slice ad11 xs.length cap12), (34, .int .i64 at_), (35, .int .i64 size)] (by kernel_rfl) ?_
    refine WR.call (dst := some 36) (by kernel_rfl) (Set_any ad11 cap12 xs at_ size w25 hr29) ?_
    rintro _ w38 hc39 ⟨ad34, cap35, e37, rfl, ho36⟩
    have hz41 := hc39.size
    have hC40 := hC27.pure hc39
    have hr42 := hr29.pure hc39
    have hr43 := hr30.pure hc39
    have hr44 := hr32.pure hc39
    have hr45 := hr23.pure hc39
    refine WR.batch 5 [(0, .slice ad1 xs.length cap1), (1, .slice ad2 ys.length cap2), (2, .int .i64 at_), (3, .int .i64 size), (9, .slice ad11 xs.length cap12), (10, .slice ad21 ys.length cap22), (11, .slice ad34 (setL xs at_ size).length cap35), (12, .int .i64 (placeE (xs).length at_ size))] (by kernel_rfl) ?_
    refine WR.fin (by kernel_rfl) ?_
    refine go hK33 ?_
    refine CW.seq fun K46 hK46 => ?_
    refine CW.region ?_
    refine WR.batch 3 [(0, .slice ad1 xs.length cap1), (1, .slice ad2 ys.length cap2), (2, .int .i64 at_), (3, .int .i64 size), (9, .slice ad11 xs.length cap12), (10, .slice ad21 ys.length cap22), (11, .slice ad34 (setL xs at_ size).length cap35), (12, .int .i64 (placeE (xs).length at_ size)), (40, .slice ad1 xs.length cap1), (41, .int .i64 at_), (42, .int .i64 size)] (by kernel_rfl) ?_
    have hge51 := ho36.ge
    refine WR.call (dst := some 43) (by kernel_rfl) (refSet_any ad1 cap1 xs at_ size w38 (h1.pure hC40) (by omega) (by omega) hn1) ?_
    rintro _ w52 hc53 ⟨ad47, cap48, e50, rfl, ho49⟩
    have hz55 := hc53.size
    have hC54 := hC40.pure hc53
    have ho56 := ho36.pure hc53
    have hr57 := hr42.pure hc53
    have hr58 := hr43.pure hc53
    have hr59 := hr44.pure hc53
    have hr60 := hr45.pure hc53
    have hap61 := Apart.new hge51 ho49 (by omega)
    refine WR.batch 5 [(0, .slice ad1 xs.length cap1), (1, .slice ad2 ys.length cap2), (2, .int .i64 at_), (3, .int .i64 size), (9, .slice ad11 xs.length cap12), (10, .slice ad21 ys.length cap22), (11, .slice ad34 (setL xs at_ size).length cap35), (12, .int .i64 (placeE (xs).length at_ size)), (13, .slice ad47 (setL xs at_ size).length cap48), (14, .int .i64 (placeE (xs).length at_ size))] (by kernel_rfl) ?_
    refine WR.fin (by kernel_rfl) ?_
    refine go hK46 ?_
    refine CW.seq fun K62 hK62 => ?_
    refine CW.region ?_
    refine WR.batch 2 [(0, .slice ad1 xs.length cap1), (1, .slice ad2 ys.length cap2), (2, .int .i64 at_), (3, .int .i64 size), (9, .slice ad11 xs.length cap12), (10, .slice ad21 ys.length cap22), (11, .slice ad34 (setL xs at_ size).length cap35), (12, .int .i64 (placeE (xs).length at_ size)), (13, .slice ad47 (setL xs at_ size).length cap48), (14, .int .i64 (placeE (xs).length at_ size)), (46, .slice ad11 xs.length cap12), (47, .slice ad21 ys.length cap22)] (by kernel_rfl) ?_
    have hge67 := ho56.ge
    have hge68 := ho49.ge
    refine WR.call (dst := some 48) (by kernel_rfl) (Join_any ad11 ad21 cap12 cap22 xs ys w52 hr57 hr59) ?_
    rintro _ w69 hc70 ⟨ad63, cap64, e66, rfl, ho65⟩
    have hz72 := hc70.size
    have hC71 := hC54.pure hc70
    have ho73 := ho56.pure hc70
    have ho74 := ho49.pure hc70
    have hr75 := hr57.pure hc70
    have hr76 := hr58.pure hc70
    have hr77 := hr59.pure hc70
    have hr78 := hr60.pure hc70
    have hap79 := Apart.new hge67 ho65 (by omega)
    have hap80 := Apart.new hge68 ho65 (by omega)
    refine WR.batch 1 [(0, .slice ad1 xs.length cap1), (1, .slice ad2 ys.length cap2), (2, .int .i64 at_), (3, .int .i64 size), (9, .slice ad11 xs.length cap12), (10, .slice ad21 ys.length cap22), (11, .slice ad34 (setL xs at_ size).length cap35), (12, .int .i64 (placeE (xs).length at_ size)), (13, .slice ad47 (setL xs at_ size).length cap48), (14, .int .i64 (placeE (xs).length at_ size)), (15, .slice ad63 (joinL xs ys).length cap64)] (by kernel_rfl) ?_
    refine WR.fin (by kernel_rfl) ?_
    refine go hK62 ?_
    refine CW.seq fun K81 hK81 => ?_
    refine CW.seq fun K82 hK82 => ?_
    refine CW.region ?_
    refine WR.batch 3 [(0, .slice ad1 xs.length cap1), (1, .slice ad2 ys.length cap2), (2, .int .i64 at_), (3, .int .i64 size), (9, .slice ad11 xs.length cap12), (10, .slice ad21 ys.length cap22), (11, .slice ad34 (setL xs at_ size).length cap35), (13, .slice ad47 (setL xs at_ size).length cap48), (15, .slice ad63 (joinL xs ys).length cap64), (51, .bool ((placeE (xs).length at_ size) != (placeE (xs).length at_ size)))] (by kernel_rfl) ?_
    have hk83 : ((placeE (xs).length at_ size) != (placeE (xs).length at_ size)) = false := (bne_self_eq_false _)
    refine WR.eqF (F' := [(0, .slice ad1 xs.length cap1), (1, .slice ad2 ys.length cap2), (2, .int .i64 at_), (3, .int .i64 size), (9, .slice ad11 xs.length cap12), (10, .slice ad21 ys.length cap22), (11, .slice ad34 (setL xs at_ size).length cap35), (13, .slice ad47 (setL xs at_ size).length cap48), (15, .slice ad63 (joinL xs ys).length cap64), (51, .bool false)]) (by rw [hk83]) ?_
    refine WR.batch 3 [(0, .slice ad1 xs.length cap1), (1, .slice ad2 ys.length cap2), (2, .int .i64 at_), (3, .int .i64 size), (9, .slice ad11 xs.length cap12), (10, .slice ad21 ys.length cap22), (11, .slice ad34 (setL xs at_ size).length cap35), (13, .slice ad47 (setL xs at_ size).length cap48), (15, .slice ad63 (joinL xs ys).length cap64), (52, .bool false), (53, .slice ad34 (setL xs at_ size).length cap35), (54, .slice ad47 (setL xs at_ size).length cap48)] (by kernel_rfl) ?_
    refine WR.call (dst := some 55) (by kernel_rfl) (sameTruths_refl ad34 ad47 cap35 cap48 (setL xs at_ size) w69 ho73.rg ho74.rg (by first | omega | exact Nat.le_trans (setL_le _ _ _) (by omega) | exact Nat.le_trans (joinL_le _ _) (by omega) | exact Nat.le_trans (Nat.le_of_eq newL_len) (by omega))) ?_
    rintro _ w84 hc85 rfl
    have hz87 := hc85.size
    have hC86 := hC71.pure hc85
    have ho88 := ho73.pure hc85
    have ho89 := ho74.pure hc85
    have ho90 := ho65.pure hc85
    have hr91 := hr75.pure hc85
    have hr92 := hr76.pure hc85
    have hr93 := hr77.pure hc85
    have hr94 := hr78.pure hc85
    refine WR.batch 6 [(0, .slice ad1 xs.length cap1), (1, .slice ad2 ys.length cap2), (2, .int .i64 at_), (3, .int .i64 size), (9, .slice ad11 xs.length cap12), (10, .slice ad21 ys.length cap22), (11, .slice ad34 (setL xs at_ size).length cap35), (13, .slice ad47 (setL xs at_ size).length cap48), (15, .slice ad63 (joinL xs ys).length cap64), (58, .bool false), (59, .slice ad11 xs.length cap12), (60, .int .i64 at_), (61, .int .i64 size)] (by kernel_rfl) ?_
    refine WR.call (dst := some 62) (by kernel_rfl) (Read_any ad11 cap12 xs at_ size w84 hr91) ?_
    rintro _ w95 hc96 rfl
    have hz98 := hc96.size
    have hC97 := hC86.pure hc96
    have ho99 := ho88.pure hc96
    have ho100 := ho89.pure hc96
    have ho101 := ho90.pure hc96
    have hr102 := hr91.pure hc96
    have hr103 := hr92.pure hc96
    have hr104 := hr93.pure hc96
    have hr105 := hr94.pure hc96
    refine WR.batch 3 [(0, .slice ad1 xs.length cap1), (1, .slice ad2 ys.length cap2), (2, .int .i64 at_), (3, .int .i64 size), (9, .slice ad11 xs.length cap12), (10, .slice ad21 ys.length cap22), (11, .slice ad34 (setL xs at_ size).length cap35), (13, .slice ad47 (setL xs at_ size).length cap48), (15, .slice ad63 (joinL xs ys).length cap64), (58, .bool false), (62, .int .i64 (readE xs at_ size)), (63, .slice ad1 xs.length cap1), (64, .int .i64 at_), (65, .int .i64 size)] (by kernel_rfl) ?_
    refine WR.call (dst := some 66) (by kernel_rfl) (refRead_any ad1 cap1 xs at_ size w95 (h1.pure hC97) (by omega)) ?_
    rintro _ w106 hc107 rfl
    have hz109 := hc107.size
    have hC108 := hC97.pure hc107
    have ho110 := ho99.pure hc107
    have ho111 := ho100.pure hc107
    have ho112 := ho101.pure hc107
    have hr113 := hr102.pure hc107
    have hr114 := hr103.pure hc107
    have hr115 := hr104.pure hc107
    have hr116 := hr105.pure hc107
    refine WR.batch 1 [(0, .slice ad1 xs.length cap1), (1, .slice ad2 ys.length cap2), (2, .int .i64 at_), (3, .int .i64 size), (9, .slice ad11 xs.length cap12), (10, .slice ad21 ys.length cap22), (11, .slice ad34 (setL xs at_ size).length cap35), (13, .slice ad47 (setL xs at_ size).length cap48), (15, .slice ad63 (joinL xs ys).length cap64), (58, .bool false), (67, .bool ((readE xs at_ size) != (readE xs at_ size)))] (by kernel_rfl) ?_
    have hk117 : ((readE xs at_ size) != (readE xs at_ size)) = false := (bne_self_eq_false _)
    refine WR.eqF (F' := [(0, .slice ad1 xs.length cap1), (1, .slice ad2 ys.length cap2), (2, .int .i64 at_), (3, .int .i64 size), (9, .slice ad11 xs.length cap12), (10, .slice ad21 ys.length cap22), (11, .slice ad34 (setL xs at_ size).length cap35), (13, .slice ad47 (setL xs at_ size).length cap48), (15, .slice ad63 (joinL xs ys).length cap64), (58, .bool false), (67, .bool false)]) (by rw [hk117]) ?_
    refine WR.batch 4 [(0, .slice ad1 xs.length cap1), (1, .slice ad2 ys.length cap2), (2, .int .i64 at_), (3, .int .i64 size), (9, .slice ad11 xs.length cap12), (10, .slice ad21 ys.length cap22), (11, .slice ad34 (setL xs at_ size).length cap35), (13, .slice ad47 (setL xs at_ size).length cap48), (15, .slice ad63 (joinL xs ys).length cap64), (69, .bool false), (70, .slice ad11 xs.length cap12), (71, .slice ad21 ys.length cap22)] (by kernel_rfl) ?_
    refine WR.call (dst := some 72) (by kernel_rfl) (Within_any ad11 ad21 cap12 cap22 xs ys w106 hr113 hr115) ?_
    rintro _ w118 hc119 rfl
    have hz121 := hc119.size
    have hC120 := hC108.pure hc119
    have ho122 := ho110.pure hc119
    have ho123 := ho111.pure hc119
    have ho124 := ho112.pure hc119
    have hr125 := hr113.pure hc119
    have hr126 := hr114.pure hc119
    have hr127 := hr115.pure hc119
    have hr128 := hr116.pure hc119
    refine WR.batch 2 [(0, .slice ad1 xs.length cap1), (1, .slice ad2 ys.length cap2), (2, .int .i64 at_), (3, .int .i64 size), (9, .slice ad11 xs.length cap12), (10, .slice ad21 ys.length cap22), (11, .slice ad34 (setL xs at_ size).length cap35), (13, .slice ad47 (setL xs at_ size).length cap48), (15, .slice ad63 (joinL xs ys).length cap64), (69, .bool false), (72, .bool (withinE xs ys)), (73, .slice ad1 xs.length cap1), (74, .slice ad2 ys.length cap2)] (by kernel_rfl) ?_
    refine WR.call (dst := some 75) (by kernel_rfl) (refWithin_any ad1 ad2 cap1 cap2 xs ys w118 (h1.pure hC120) (h2.pure hC120)) ?_
    rintro _ w129 hc130 rfl
    have hz132 := hc130.size
    have hC131 := hC120.pure hc130
    have ho133 := ho122.pure hc130
    have ho134 := ho123.pure hc130
    have ho135 := ho124.pure hc130
    have hr136 := hr125.pure hc130
    have hr137 := hr126.pure hc130
    have hr138 := hr127.pure hc130
    have hr139 := hr128.pure hc130
    refine WR.batch 1 [(0, .slice ad1 xs.length cap1), (1, .slice ad2 ys.length cap2), (2, .int .i64 at_), (3, .int .i64 size), (9, .slice ad11 xs.length cap12), (10, .slice ad21 ys.length cap22), (11, .slice ad34 (setL xs at_ size).length cap35), (13, .slice ad47 (setL xs at_ size).length cap48), (15, .slice ad63 (joinL xs ys).length cap64), (69, .bool false), (76, .bool ((withinE xs ys) != (withinE xs ys)))] (by kernel_rfl) ?_
    have hk140 : ((withinE xs ys) != (withinE xs ys)) = false := (bne_self_eq_false _)
    refine WR.eqF (F' := [(0, .slice ad1 xs.length cap1), (1, .slice ad2 ys.length cap2), (2, .int .i64 at_), (3, .int .i64 size), (9, .slice ad11 xs.length cap12), (10, .slice ad21 ys.length cap22), (11, .slice ad34 (setL xs at_ size).length cap35), (13, .slice ad47 (setL xs at_ size).length cap48), (15, .slice ad63 (joinL xs ys).length cap64), (69, .bool false), (76, .bool false)]) (by rw [hk140]) ?_
    refine WR.batch 5 [(0, .slice ad1 xs.length cap1), (1, .slice ad2 ys.length cap2), (2, .int .i64 at_), (3, .int .i64 size), (9, .slice ad11 xs.length cap12), (10, .slice ad21 ys.length cap22), (11, .slice ad34 (setL xs at_ size).length cap35), (13, .slice ad47 (setL xs at_ size).length cap48), (15, .slice ad63 (joinL xs ys).length cap64), (78, .bool false), (79, .slice ad63 (joinL xs ys).length cap64), (80, .slice ad1 xs.length cap1), (81, .slice ad2 ys.length cap2)] (by kernel_rfl) ?_
    have hge145 := ho133.ge
    have hge146 := ho134.ge
    have hge147 := ho135.ge
    refine WR.call (dst := some 82) (by kernel_rfl) (refJoin_any ad1 ad2 cap1 cap2 xs ys w129 (h1.pure hC131) (h2.pure hC131)) ?_
    rintro _ w148 hc149 ⟨ad141, cap142, e144, rfl, ho143⟩
    have hz151 := hc149.size
    have hC150 := hC131.pure hc149
    have ho152 := ho133.pure hc149
    have ho153 := ho134.pure hc149
    have ho154 := ho135.pure hc149
    have hr155 := hr136.pure hc149
    have hr156 := hr137.pure hc149
    have hr157 := hr138.pure hc149
    have hr158 := hr139.pure hc149
    have hap159 := Apart.new hge145 ho143 (by omega)
    have hap160 := Apart.new hge146 ho143 (by omega)
    have hap161 := Apart.new hge147 ho143 (by omega)
    refine WR.call (dst := some 83) (by kernel_rfl) (sameTruths_refl ad63 ad141 cap64 cap142 (joinL xs ys) w148 ho154.rg ho143.rg (by first | omega | exact Nat.le_trans (setL_le _ _ _) (by omega) | exact Nat.le_trans (joinL_le _ _) (by omega) | exact Nat.le_trans (Nat.le_of_eq newL_len) (by omega))) ?_
    rintro _ w162 hc163 rfl
    have hz165 := hc163.size
    have hC164 := hC150.pure hc163
    have ho166 := ho152.pure hc163
    have ho167 := ho153.pure hc163
    have ho168 := ho154.pure hc163
    have ho169 := ho143.pure hc163
    have hr170 := hr155.pure hc163
    have hr171 := hr156.pure hc163
    have hr172 := hr157.pure hc163
    have hr173 := hr158.pure hc163
    refine WR.batch 3 [(0, .slice ad1 xs.length cap1), (1, .slice ad2 ys.length cap2), (2, .int .i64 at_), (3, .int .i64 size), (9, .slice ad11 xs.length cap12), (10, .slice ad21 ys.length cap22), (11, .slice ad34 (setL xs at_ size).length cap35), (13, .slice ad47 (setL xs at_ size).length cap48), (15, .slice ad63 (joinL xs ys).length cap64), (86, .bool false)] (by kernel_rfl) ?_
    have hge178 := ho166.ge
    have hge179 := ho167.ge
    have hge180 := ho168.ge
    have hge181 := ho169.ge
    refine WR.call (dst := some 87) (by kernel_rfl) (New_any w162) ?_
    rintro _ w182 hc183 ⟨ad174, cap175, e177, rfl, ho176⟩
    have hz185 := hc183.size
    have hC184 := hC164.pure hc183
    have ho186 := ho166.pure hc183
    have ho187 := ho167.pure hc183
    have ho188 := ho168.pure hc183
    have ho189 := ho169.pure hc183
    have hr190 := hr170.pure hc183
    have hr191 := hr171.pure hc183
    have hr192 := hr172.pure hc183
    have hr193 := hr173.pure hc183
    have hap194 := Apart.new hge178 ho176 (by omega)
    have hap195 := Apart.new hge179 ho176 (by omega)
    have hap196 := Apart.new hge180 ho176 (by omega)
    have hap197 := Apart.new hge181 ho176 (by omega)
    have hge202 := ho186.ge
    have hge203 := ho187.ge
    have hge204 := ho188.ge
    have hge205 := ho189.ge
    have hge206 := ho176.ge
    refine WR.call (dst := some 88) (by kernel_rfl) (refNew_any w182) ?_
    rintro _ w207 hc208 ⟨ad198, cap199, e201, rfl, ho200⟩
    have hz210 := hc208.size
    have hC209 := hC184.pure hc208
    have ho211 := ho186.pure hc208
    have ho212 := ho187.pure hc208
    have ho213 := ho188.pure hc208
    have ho214 := ho189.pure hc208
    have ho215 := ho176.pure hc208
    have hr216 := hr190.pure hc208
    have hr217 := hr191.pure hc208
    have hr218 := hr192.pure hc208
    have hr219 := hr193.pure hc208
    have hap220 := Apart.new hge202 ho200 (by omega)
    have hap221 := Apart.new hge203 ho200 (by omega)
    have hap222 := Apart.new hge204 ho200 (by omega)
    have hap223 := Apart.new hge205 ho200 (by omega)
    have hap224 := Apart.new hge206 ho200 (by omega)
    refine WR.call (dst := some 89) (by kernel_rfl) (sameTruths_refl ad174 ad198 cap175 cap199 newL w207 ho215.rg ho200.rg (by first | omega | exact Nat.le_trans (setL_le _ _ _) (by omega) | exact Nat.le_trans (joinL_le _ _) (by omega) | exact Nat.le_trans (Nat.le_of_eq newL_len) (by omega))) ?_
    rintro _ w225 hc226 rfl
    have hz228 := hc226.size
    have hC227 := hC209.pure hc226
    have ho229 := ho211.pure hc226
    have ho230 := ho212.pure hc226
    have ho231 := ho213.pure hc226
    have ho232 := ho214.pure hc226
    have ho233 := ho215.pure hc226
    have ho234 := ho200.pure hc226
    have hr235 := hr216.pure hc226
    have hr236 := hr217.pure hc226
    have hr237 := hr218.pure hc226
    have hr238 := hr219.pure hc226
    refine WR.batch 2 [(0, .slice ad1 xs.length cap1), (1, .slice ad2 ys.length cap2), (2, .int .i64 at_), (3, .int .i64 size), (9, .slice ad11 xs.length cap12), (10, .slice ad21 ys.length cap22), (11, .slice ad34 (setL xs at_ size).length cap35), (13, .slice ad47 (setL xs at_ size).length cap48), (15, .slice ad63 (joinL xs ys).length cap64), (91, .bool false)] (by kernel_rfl) ?_
    refine WR.fin (by kernel_rfl) ?_
    refine go hK82 ?_
    refine CW.no (by kernel_rfl) ?_
    refine CW.skip ?_
    refine go hK81 ?_
    refine CW.seq fun K239 hK239 => ?_
    refine CW.seq fun K240 hK240 => ?_
    refine CW.region ?_
    refine WR.batch 2 [(0, .slice ad1 xs.length cap1), (1, .slice ad2 ys.length cap2), (2, .int .i64 at_), (3, .int .i64 size), (9, .slice ad11 xs.length cap12), (10, .slice ad21 ys.length cap22), (11, .slice ad34 (setL xs at_ size).length cap35), (13, .slice ad47 (setL xs at_ size).length cap48), (15, .slice ad63 (joinL xs ys).length cap64), (92, .slice ad11 xs.length cap12), (93, .slice ad1 xs.length cap1)] (by kernel_rfl) ?_
    refine WR.call (dst := some 94) (by kernel_rfl) (keptTruths_any ad11 ad1 cap12 cap1 xs w225 hr236 (h1.pure hC227) (by omega) (by omega)) ?_
    rintro _ w241 hc242 rfl
    have hz244 := hc242.size
    have hC243 := hC227.pure hc242
    have ho245 := ho229.pure hc242
    have ho246 := ho230.pure hc242
    have ho247 := ho231.pure hc242
    have ho248 := ho232.pure hc242
    have ho249 := ho233.pure hc242
    have ho250 := ho234.pure hc242
    have hr251 := hr235.pure hc242
    have hr252 := hr236.pure hc242
    have hr253 := hr237.pure hc242
    have hr254 := hr238.pure hc242
    refine WR.batch 4 [(0, .slice ad1 xs.length cap1), (1, .slice ad2 ys.length cap2), (2, .int .i64 at_), (3, .int .i64 size), (9, .slice ad11 xs.length cap12), (10, .slice ad21 ys.length cap22), (11, .slice ad34 (setL xs at_ size).length cap35), (13, .slice ad47 (setL xs at_ size).length cap48), (15, .slice ad63 (joinL xs ys).length cap64), (96, .bool false), (97, .slice ad21 ys.length cap22), (98, .slice ad2 ys.length cap2)] (by kernel_rfl) ?_
    refine WR.call (dst := some 99) (by kernel_rfl) (keptTruths_any ad21 ad2 cap22 cap2 ys w241 hr254 (h2.pure hC243) (by omega) (by omega)) ?_
    rintro _ w255 hc256 rfl
    have hz258 := hc256.size
    have hC257 := hC243.pure hc256
    have ho259 := ho245.pure hc256
    have ho260 := ho246.pure hc256
    have ho261 := ho247.pure hc256
    have ho262 := ho248.pure hc256
    have ho263 := ho249.pure hc256
    have ho264 := ho250.pure hc256
    have hr265 := hr251.pure hc256
    have hr266 := hr252.pure hc256
    have hr267 := hr253.pure hc256
    have hr268 := hr254.pure hc256
    refine WR.batch 2 [(0, .slice ad1 xs.length cap1), (1, .slice ad2 ys.length cap2), (2, .int .i64 at_), (3, .int .i64 size), (9, .slice ad11 xs.length cap12), (10, .slice ad21 ys.length cap22), (11, .slice ad34 (setL xs at_ size).length cap35), (13, .slice ad47 (setL xs at_ size).length cap48), (15, .slice ad63 (joinL xs ys).length cap64), (101, .bool false)] (by kernel_rfl) ?_
    refine WR.fin (by kernel_rfl) ?_
    refine go hK240 ?_
    refine CW.no (by kernel_rfl) ?_
    refine CW.skip ?_
    refine go hK239 ?_
    refine CW.seq fun K269 hK269 => ?_
    refine CW.seq fun K270 hK270 => ?_
    refine CW.region ?_
    refine WR.batch 1 [(0, .slice ad1 xs.length cap1), (1, .slice ad2 ys.length cap2), (2, .int .i64 at_), (3, .int .i64 size), (9, .slice ad11 xs.length cap12), (10, .slice ad21 ys.length cap22), (11, .slice ad34 (setL xs at_ size).length cap35), (13, .slice ad47 (setL xs at_ size).length cap48), (15, .slice ad63 (joinL xs ys).length cap64), (16, .int .i64 (0 : Int))] (by kernel_rfl) ?_
    refine WR.fin (by kernel_rfl) ?_
    refine go hK270 ?_
    refine CW.block ?_
    refine CW.loop (σ := Nat × List Bool × List Bool) (fun (⟨k, ls, lj⟩ : Nat × List Bool × List Bool) w271 => Chg [] w w271 ∧ (k ≤ (setL xs at_ size).length) ∧ (ls.length = (setL xs at_ size).length) ∧ (lj.length = (joinL xs ys).length) ∧ (Own w271 w25.heap.size e37 1 ad34 (setL xs at_ size).length cap35 (bo (ls))) ∧ (Own w271 w38.heap.size e50 1 ad47 (setL xs at_ size).length cap48 (bo (setL xs at_ size))) ∧ (Own w271 w52.heap.size e66 1 ad63 (joinL xs ys).length cap64 (bo (lj))) ∧ (Own w271 w129.heap.size e144 1 ad141 (joinL xs ys).length cap142 (bo (joinL xs ys))) ∧ (Own w271 w162.heap.size e177 1 ad174 (newL).length cap175 (bo (newL))) ∧ (Own w271 w182.heap.size e201 1 ad198 (newL).length cap199 (bo (newL))) ∧ (Rg w271 ad11 (bo xs)) ∧ (Rg w271 ad11 (bo (xs ++ lentMarks 12))) ∧ (Rg w271 ad21 (bo ys)) ∧ (Rg w271 ad21 (bo (ys ++ lentMarks 12)))) (fun (⟨k, ls, lj⟩ : Nat × List Bool × List Bool) => [(0, .slice ad1 xs.length cap1), (1, .slice ad2 ys.length cap2), (2, .int .i64 at_), (3, .int .i64 size), (9, .slice ad11 xs.length cap12), (10, .slice ad21 ys.length cap22), (11, .slice ad34 (setL xs at_ size).length cap35), (13, .slice ad47 (setL xs at_ size).length cap48), (15, .slice ad63 (joinL xs ys).length cap64), (16, .int .i64 ((k : Nat) : Int))]) (fun (⟨k, ls, lj⟩ : Nat × List Bool × List Bool) => (setL xs at_ size).length - k) (⟨0, setL xs at_ size, joinL xs ys⟩) ⟨hC257, (by omega), rfl, rfl, ho259, ho260, ho261, ho262, ho263, ho264, hr265, hr266, hr267, hr268⟩ [0, 1, 2, 3, 9, 10, 11, 13, 15, 16] (by kernel_rfl) ?_
    rintro ⟨k, ls, lj⟩ w271 ⟨hC272, hk, hls, hlj, hv273, hv274, hv275, hv276, hv277, hv278, hv279, hv280, hv281, hv282⟩
    refine CW.seq fun K283 hK283 => ?_
    refine CW.seq fun K284 hK284 => ?_
    refine CW.region ?_
    refine WR.batch 5 [(0, .slice ad1 xs.length cap1), (1, .slice ad2 ys.length cap2), (2, .int .i64 at_), (3, .int .i64 size), (9, .slice ad11 xs.length cap12), (10, .slice ad21 ys.length cap22), (11, .slice ad34 (setL xs at_ size).length cap35), (13, .slice ad47 (setL xs at_ size).length cap48), (15, .slice ad63 (joinL xs ys).length cap64), (16, .int .i64 ((k : Nat) : Int)), (106, .bool (decide (((k : Nat) : Int) < (((setL xs at_ size).length : Nat) : Int))))] (by kernel_rfl) ?_
    refine WR.batch 5 [(0, .slice ad1 xs.length cap1), (1, .slice ad2 ys.length cap2), (2, .int .i64 at_), (3, .int .i64 size), (9, .slice ad11 xs.length cap12), (10, .slice ad21 ys.length cap22), (11, .slice ad34 (setL xs at_ size).length cap35), (13, .slice ad47 (setL xs at_ size).length cap48), (15, .slice ad63 (joinL xs ys).length cap64), (16, .int .i64 ((k : Nat) : Int)), (111, .bool ((decide (((k : Nat) : Int) < (((setL xs at_ size).length : Nat) : Int))) && (decide (((k : Nat) : Int) < (((joinL xs ys).length : Nat) : Int)))))] (by generalize decide (((k : Nat) : Int) < (((setL xs at_ size).length : Nat) : Int)) = b; cases b <;> kernel_rfl) ?_
    refine WR.fin (by kernel_rfl) ?_
    refine go hK284 ?_
    refine CW.cond (((decide (((k : Nat) : Int) < (((setL xs at_ size).length : Nat) : Int))) && (decide (((k : Nat) : Int) < (((joinL xs ys).length : Nat) : Int))))) (by kernel_rfl) (fun ht285 => ?_) (fun ht285 => ?_)
    ·
      replace ht285 : (((k : Nat) : Int) < (((setL xs at_ size).length : Nat) : Int)) ∧ (((k : Nat) : Int) < (((joinL xs ys).length : Nat) : Int)) := ⟨(of_decide_eq_true (bAndT ht285).1), (of_decide_eq_true (bAndT ht285).2)⟩
      refine CW.skip ?_
      refine go hK283 ?_
      refine CW.seq fun K286 hK286 => ?_
      refine CW.block ?_
      refine CW.seq fun K287 hK287 => ?_
      refine CW.region ?_
      refine WR.batch 4 [(0, .slice ad1 xs.length cap1), (1, .slice ad2 ys.length cap2), (2, .int .i64 at_), (3, .int .i64 size), (9, .slice ad11 xs.length cap12), (10, .slice ad21 ys.length cap22), (11, .slice ad34 (setL xs at_ size).length cap35), (13, .slice ad47 (setL xs at_ size).length cap48), (15, .slice ad63 (joinL xs ys).length cap64), (16, .int .i64 ((k : Nat) : Int)), (114, .slice ad34 (setL xs at_ size).length cap35), (115, .int .i64 ((k : Nat) : Int)), (116, .slice ad34 (setL xs at_ size).length cap35), (117, .int .i64 ((k : Nat) : Int))] (by kernel_rfl) ?_
      refine WR.index (dst := some 118) (t := 22) (m := (setL xs at_ size).length) (cap := cap35) (kk := .i64) (i := ((k : Nat) : Int)) hv273.rg (by kernel_rfl) 1 (by kernel_rfl) (by omega) (by omega) (mapNe _ ls (k) (by omega)) k (by omega) ?_
      refine WR.load1 (dst := some 119) (t := 4) (a := ⟨bk ad34, of ad34 + k, none⟩) (by kernel_rfl) (by kernel_rfl) (.bool (ls.getD k false)) (hv273.rg _ _ (getMap _ ls (k) false (by omega))).2 ?_
      refine WR.batch 1 [(0, .slice ad1 xs.length cap1), (1, .slice ad2 ys.length cap2), (2, .int .i64 at_), (3, .int .i64 size), (9, .slice ad11 xs.length cap12), (10, .slice ad21 ys.length cap22), (11, .slice ad34 (setL xs at_ size).length cap35), (13, .slice ad47 (setL xs at_ size).length cap48), (15, .slice ad63 (joinL xs ys).length cap64), (16, .int .i64 ((k : Nat) : Int)), (114, .slice ad34 (setL xs at_ size).length cap35), (115, .int .i64 ((k : Nat) : Int)), (120, .bool (!(ls.getD k false)))] (by kernel_rfl) ?_
      refine WR.index (dst := some 121) (t := 22) (m := (setL xs at_ size).length) (cap := cap35) (kk := .i64) (i := ((k : Nat) : Int)) hv273.rg (by kernel_rfl) 1 (by kernel_rfl) (by omega) (by omega) (mapNe _ ls (k) (by omega)) k (by omega) ?_
      refine WR.storeE (t := 4) (j := k) (v := .bool (!(ls.getD k false))) hv273 (by kernel_rfl) (by kernel_rfl) rfl rfl (by omega) ?_
      intro w288 ho289 hc290
      have hz293 := hc290.size
      have hC292 := hC272.own hc290 (blks_ge hv273 (by omega))
      have ho294 := hv274.chg hc290 (hap61.symm.off)
      have ho295 := hv275.chg hc290 (hap79.symm.off)
      have ho296 := hv276.chg hc290 (hap159.symm.off)
      have ho297 := hv277.chg hc290 (hap194.symm.off)
      have ho298 := hv278.chg hc290 (hap220.symm.off)
      have hr299 := hv279.chg hc290 (.inl (not_blks hv273 (by omega)))
      have hr300 := hv280.chg hc290 (.inl (not_blks hv273 (by omega)))
      have hr301 := hv281.chg hc290 (.inl (not_blks hv273 (by omega)))
      have hr302 := hv282.chg hc290 (.inl (not_blks hv273 (by omega)))
      have ho291 := (boSet ho289)
      refine WR.fin (by kernel_rfl) ?_
      refine go hK287 ?_
      refine CW.region ?_
      refine WR.batch 4 [(0, .slice ad1 xs.length cap1), (1, .slice ad2 ys.length cap2), (2, .int .i64 at_), (3, .int .i64 size), (9, .slice ad11 xs.length cap12), (10, .slice ad21 ys.length cap22), (11, .slice ad34 (setL xs at_ size).length cap35), (13, .slice ad47 (setL xs at_ size).length cap48), (15, .slice ad63 (joinL xs ys).length cap64), (16, .int .i64 ((k : Nat) : Int)), (122, .slice ad63 (joinL xs ys).length cap64), (123, .int .i64 ((k : Nat) : Int)), (124, .slice ad63 (joinL xs ys).length cap64), (125, .int .i64 ((k : Nat) : Int))] (by kernel_rfl) ?_
      refine WR.index (dst := some 126) (t := 22) (m := (joinL xs ys).length) (cap := cap64) (kk := .i64) (i := ((k : Nat) : Int)) ho295.rg (by kernel_rfl) 1 (by kernel_rfl) (by omega) (by omega) (mapNe _ lj (k) (by omega)) k (by omega) ?_
      refine WR.load1 (dst := some 127) (t := 4) (a := ⟨bk ad63, of ad63 + k, none⟩) (by kernel_rfl) (by kernel_rfl) (.bool (lj.getD k false)) (ho295.rg _ _ (getMap _ lj (k) false (by omega))).2 ?_
      refine WR.batch 1 [(0, .slice ad1 xs.length cap1), (1, .slice ad2 ys.length cap2), (2, .int .i64 at_), (3, .int .i64 size), (9, .slice ad11 xs.length cap12), (10, .slice ad21 ys.length cap22), (11, .slice ad34 (setL xs at_ size).length cap35), (13, .slice ad47 (setL xs at_ size).length cap48), (15, .slice ad63 (joinL xs ys).length cap64), (16, .int .i64 ((k : Nat) : Int)), (122, .slice ad63 (joinL xs ys).length cap64), (123, .int .i64 ((k : Nat) : Int)), (128, .bool (!(lj.getD k false)))] (by kernel_rfl) ?_
      refine WR.index (dst := some 129) (t := 22) (m := (joinL xs ys).length) (cap := cap64) (kk := .i64) (i := ((k : Nat) : Int)) ho295.rg (by kernel_rfl) 1 (by kernel_rfl) (by omega) (by omega) (mapNe _ lj (k) (by omega)) k (by omega) ?_
      refine WR.storeE (t := 4) (j := k) (v := .bool (!(lj.getD k false))) ho295 (by kernel_rfl) (by kernel_rfl) rfl rfl (by omega) ?_
      intro w303 ho304 hc305
      have hz308 := hc305.size
      have hC307 := hC292.own hc305 (blks_ge ho295 (by omega))
      have ho309 := ho291.chg hc305 (hap79.off)
      have ho310 := ho294.chg hc305 (hap80.off)
      have ho311 := ho296.chg hc305 (hap161.symm.off)
      have ho312 := ho297.chg hc305 (hap196.symm.off)
      have ho313 := ho298.chg hc305 (hap222.symm.off)
      have hr314 := hr299.chg hc305 (.inl (not_blks ho295 (by omega)))
      have hr315 := hr300.chg hc305 (.inl (not_blks ho295 (by omega)))
      have hr316 := hr301.chg hc305 (.inl (not_blks ho295 (by omega)))
      have hr317 := hr302.chg hc305 (.inl (not_blks ho295 (by omega)))
      have ho306 := (boSet ho304)
      refine WR.fin (by kernel_rfl) ?_
      refine go hK286 ?_
      refine CW.region ?_
      refine WR.batch 2 [(0, .slice ad1 xs.length cap1), (1, .slice ad2 ys.length cap2), (2, .int .i64 at_), (3, .int .i64 size), (9, .slice ad11 xs.length cap12), (10, .slice ad21 ys.length cap22), (11, .slice ad34 (setL xs at_ size).length cap35), (13, .slice ad47 (setL xs at_ size).length cap48), (15, .slice ad63 (joinL xs ys).length cap64), (113, .int .i64 (IntKind.i64.wrap (((k : Nat) : Int) + (1 : Int))))] (by kernel_rfl) ?_
      have hw318 : IntKind.i64.wrap (((k : Nat) : Int) + (1 : Int)) = (((k : Nat) : Int) + (1 : Int)) := IntWalk.i64_in _ (by omega)
      refine WR.eqF (F' := [(0, .slice ad1 xs.length cap1), (1, .slice ad2 ys.length cap2), (2, .int .i64 at_), (3, .int .i64 size), (9, .slice ad11 xs.length cap12), (10, .slice ad21 ys.length cap22), (11, .slice ad34 (setL xs at_ size).length cap35), (13, .slice ad47 (setL xs at_ size).length cap48), (15, .slice ad63 (joinL xs ys).length cap64), (113, .int .i64 (((k : Nat) : Int) + (1 : Int)))]) (by rw [hw318]) ?_
      refine WR.batch 1 [(0, .slice ad1 xs.length cap1), (1, .slice ad2 ys.length cap2), (2, .int .i64 at_), (3, .int .i64 size), (9, .slice ad11 xs.length cap12), (10, .slice ad21 ys.length cap22), (11, .slice ad34 (setL xs at_ size).length cap35), (13, .slice ad47 (setL xs at_ size).length cap48), (15, .slice ad63 (joinL xs ys).length cap64), (16, .int .i64 (((k : Nat) : Int) + (1 : Int)))] (by kernel_rfl) ?_
      refine WR.fin (by kernel_rfl) ?_
      exact fun _ ha => ⟨⟨k + 1, (ls).set k (!(ls.getD k false)), (lj).set k (!(lj.getD k false))⟩, ⟨hC307, (by omega), (by simp only [List.length_set]; omega), (by simp only [List.length_set]; omega), ho309, ho310, ho306, ho311, ho312, ho313, hr314, hr315, hr316, hr317⟩, (by dsimp only; omega), ha.keep [0, 1, 2, 3, 9, 10, 11, 13, 15, 16] (by kernel_rfl)⟩
    ·
      replace ht285 : (¬ (((k : Nat) : Int) < (((setL xs at_ size).length : Nat) : Int))) ∨ (¬ (((k : Nat) : Int) < (((joinL xs ys).length : Nat) : Int))) := (orMap (bAndF ht285) (fun h => (of_decide_eq_false h)) (fun h => (of_decide_eq_false h)))
      refine CW.exit ?_
      refine go hK269 ?_
      refine CW.seq fun K319 hK319 => ?_
      refine CW.region ?_
      refine WR.batch 3 [(0, .slice ad1 xs.length cap1), (1, .slice ad2 ys.length cap2), (9, .slice ad11 xs.length cap12), (10, .slice ad21 ys.length cap22), (13, .slice ad47 (setL xs at_ size).length cap48), (131, .slice ad11 xs.length cap12), (132, .int .i64 at_), (133, .int .i64 size)] (by kernel_rfl) ?_
      have hge324 := hv273.ge
      have hge325 := hv274.ge
      have hge326 := hv275.ge
      have hge327 := hv276.ge
      have hge328 := hv277.ge
      have hge329 := hv278.ge
      refine WR.call (dst := some 134) (by kernel_rfl) (Set_any ad11 cap12 xs at_ size w271 hv279) ?_
      rintro _ w330 hc331 ⟨ad320, cap321, e323, rfl, ho322⟩
      have hz333 := hc331.size
      have hC332 := hC272.pure hc331
      have ho334 := hv273.pure hc331
      have ho335 := hv274.pure hc331
      have ho336 := hv275.pure hc331
      have ho337 := hv276.pure hc331
      have ho338 := hv277.pure hc331
      have ho339 := hv278.pure hc331
      have hr340 := hv279.pure hc331
      have hr341 := hv280.pure hc331
      have hr342 := hv281.pure hc331
      have hr343 := hv282.pure hc331
      have hap344 := Apart.new hge324 ho322 (by omega)
      have hap345 := Apart.new hge325 ho322 (by omega)
      have hap346 := Apart.new hge326 ho322 (by omega)
      have hap347 := Apart.new hge327 ho322 (by omega)
      have hap348 := Apart.new hge328 ho322 (by omega)
      have hap349 := Apart.new hge329 ho322 (by omega)
      refine WR.batch 5 [(0, .slice ad1 xs.length cap1), (1, .slice ad2 ys.length cap2), (9, .slice ad11 xs.length cap12), (10, .slice ad21 ys.length cap22), (13, .slice ad47 (setL xs at_ size).length cap48), (17, .slice ad320 (setL xs at_ size).length cap321)] (by kernel_rfl) ?_
      refine WR.fin (by kernel_rfl) ?_
      refine go hK319 ?_
      refine CW.seq fun K350 hK350 => ?_
      refine CW.region ?_
      refine WR.batch 2 [(0, .slice ad1 xs.length cap1), (1, .slice ad2 ys.length cap2), (9, .slice ad11 xs.length cap12), (10, .slice ad21 ys.length cap22), (13, .slice ad47 (setL xs at_ size).length cap48), (17, .slice ad320 (setL xs at_ size).length cap321), (137, .slice ad11 xs.length cap12), (138, .slice ad1 xs.length cap1)] (by kernel_rfl) ?_
      refine WR.call (dst := some 139) (by kernel_rfl) (keptTruths_any ad11 ad1 cap12 cap1 xs w330 hr341 (h1.pure hC332) (by omega) (by omega)) ?_
      rintro _ w351 hc352 rfl
      have hz354 := hc352.size
      have hC353 := hC332.pure hc352
      have ho355 := ho334.pure hc352
      have ho356 := ho335.pure hc352
      have ho357 := ho336.pure hc352
      have ho358 := ho337.pure hc352
      have ho359 := ho338.pure hc352
      have ho360 := ho339.pure hc352
      have ho361 := ho322.pure hc352
      have hr362 := hr340.pure hc352
      have hr363 := hr341.pure hc352
      have hr364 := hr342.pure hc352
      have hr365 := hr343.pure hc352
      refine WR.batch 3 [(0, .slice ad1 xs.length cap1), (1, .slice ad2 ys.length cap2), (9, .slice ad11 xs.length cap12), (10, .slice ad21 ys.length cap22), (13, .slice ad47 (setL xs at_ size).length cap48), (17, .slice ad320 (setL xs at_ size).length cap321), (140, .bool true), (141, .slice ad21 ys.length cap22), (142, .slice ad2 ys.length cap2)] (by kernel_rfl) ?_
      refine WR.call (dst := some 143) (by kernel_rfl) (keptTruths_any ad21 ad2 cap22 cap2 ys w351 hr365 (h2.pure hC353) (by omega) (by omega)) ?_
      rintro _ w366 hc367 rfl
      have hz369 := hc367.size
      have hC368 := hC353.pure hc367
      have ho370 := ho355.pure hc367
      have ho371 := ho356.pure hc367
      have ho372 := ho357.pure hc367
      have ho373 := ho358.pure hc367
      have ho374 := ho359.pure hc367
      have ho375 := ho360.pure hc367
      have ho376 := ho361.pure hc367
      have hr377 := hr362.pure hc367
      have hr378 := hr363.pure hc367
      have hr379 := hr364.pure hc367
      have hr380 := hr365.pure hc367
      refine WR.batch 4 [(0, .slice ad1 xs.length cap1), (1, .slice ad2 ys.length cap2), (9, .slice ad11 xs.length cap12), (10, .slice ad21 ys.length cap22), (145, .bool true), (146, .slice ad320 (setL xs at_ size).length cap321), (147, .slice ad47 (setL xs at_ size).length cap48)] (by kernel_rfl) ?_
      refine WR.call (dst := some 148) (by kernel_rfl) (sameTruths_refl ad320 ad47 cap321 cap48 (setL xs at_ size) w366 ho376.rg ho371.rg (by first | omega | exact Nat.le_trans (setL_le _ _ _) (by omega) | exact Nat.le_trans (joinL_le _ _) (by omega) | exact Nat.le_trans (Nat.le_of_eq newL_len) (by omega))) ?_
      rintro _ w381 hc382 rfl
      have hz384 := hc382.size
      have hC383 := hC368.pure hc382
      have ho385 := ho370.pure hc382
      have ho386 := ho371.pure hc382
      have ho387 := ho372.pure hc382
      have ho388 := ho373.pure hc382
      have ho389 := ho374.pure hc382
      have ho390 := ho375.pure hc382
      have ho391 := ho376.pure hc382
      have hr392 := hr377.pure hc382
      have hr393 := hr378.pure hc382
      have hr394 := hr379.pure hc382
      have hr395 := hr380.pure hc382
      refine WR.batch 4 [(0, .slice ad1 xs.length cap1), (1, .slice ad2 ys.length cap2), (150, .bool true), (151, .slice ad11 xs.length cap12), (152, .slice ad21 ys.length cap22)] (by kernel_rfl) ?_
      have hge400 := ho385.ge
      have hge401 := ho386.ge
      have hge402 := ho387.ge
      have hge403 := ho388.ge
      have hge404 := ho389.ge
      have hge405 := ho390.ge
      have hge406 := ho391.ge
      refine WR.call (dst := some 153) (by kernel_rfl) (Join_any ad11 ad21 cap12 cap22 xs ys w381 hr392 hr394) ?_
      rintro _ w407 hc408 ⟨ad396, cap397, e399, rfl, ho398⟩
      have hz410 := hc408.size
      have hC409 := hC383.pure hc408
      have ho411 := ho385.pure hc408
      have ho412 := ho386.pure hc408
      have ho413 := ho387.pure hc408
      have ho414 := ho388.pure hc408
      have ho415 := ho389.pure hc408
      have ho416 := ho390.pure hc408
      have ho417 := ho391.pure hc408
      have hr418 := hr392.pure hc408
      have hr419 := hr393.pure hc408
      have hr420 := hr394.pure hc408
      have hr421 := hr395.pure hc408
      have hap422 := Apart.new hge400 ho398 (by omega)
      have hap423 := Apart.new hge401 ho398 (by omega)
      have hap424 := Apart.new hge402 ho398 (by omega)
      have hap425 := Apart.new hge403 ho398 (by omega)
      have hap426 := Apart.new hge404 ho398 (by omega)
      have hap427 := Apart.new hge405 ho398 (by omega)
      have hap428 := Apart.new hge406 ho398 (by omega)
      refine WR.batch 2 [(150, .bool true), (153, .slice ad396 (joinL xs ys).length cap397), (154, .slice ad1 xs.length cap1), (155, .slice ad2 ys.length cap2)] (by kernel_rfl) ?_
      have hge433 := ho411.ge
      have hge434 := ho412.ge
      have hge435 := ho413.ge
      have hge436 := ho414.ge
      have hge437 := ho415.ge
      have hge438 := ho416.ge
      have hge439 := ho417.ge
      have hge440 := ho398.ge
      refine WR.call (dst := some 156) (by kernel_rfl) (refJoin_any ad1 ad2 cap1 cap2 xs ys w407 (h1.pure hC409) (h2.pure hC409)) ?_
      rintro _ w441 hc442 ⟨ad429, cap430, e432, rfl, ho431⟩
      have hz444 := hc442.size
      have hC443 := hC409.pure hc442
      have ho445 := ho411.pure hc442
      have ho446 := ho412.pure hc442
      have ho447 := ho413.pure hc442
      have ho448 := ho414.pure hc442
      have ho449 := ho415.pure hc442
      have ho450 := ho416.pure hc442
      have ho451 := ho417.pure hc442
      have ho452 := ho398.pure hc442
      have hr453 := hr418.pure hc442
      have hr454 := hr419.pure hc442
      have hr455 := hr420.pure hc442
      have hr456 := hr421.pure hc442
      have hap457 := Apart.new hge433 ho431 (by omega)
      have hap458 := Apart.new hge434 ho431 (by omega)
      have hap459 := Apart.new hge435 ho431 (by omega)
      have hap460 := Apart.new hge436 ho431 (by omega)
      have hap461 := Apart.new hge437 ho431 (by omega)
      have hap462 := Apart.new hge438 ho431 (by omega)
      have hap463 := Apart.new hge439 ho431 (by omega)
      have hap464 := Apart.new hge440 ho431 (by omega)
      refine WR.call (dst := some 157) (by kernel_rfl) (sameTruths_refl ad396 ad429 cap397 cap430 (joinL xs ys) w441 ho452.rg ho431.rg (by first | omega | exact Nat.le_trans (setL_le _ _ _) (by omega) | exact Nat.le_trans (joinL_le _ _) (by omega) | exact Nat.le_trans (Nat.le_of_eq newL_len) (by omega))) ?_
      rintro _ w465 hc466 rfl
      have hz468 := hc466.size
      have hC467 := hC443.pure hc466
      have ho469 := ho445.pure hc466
      have ho470 := ho446.pure hc466
      have ho471 := ho447.pure hc466
      have ho472 := ho448.pure hc466
      have ho473 := ho449.pure hc466
      have ho474 := ho450.pure hc466
      have ho475 := ho451.pure hc466
      have ho476 := ho452.pure hc466
      have ho477 := ho431.pure hc466
      have hr478 := hr453.pure hc466
      have hr479 := hr454.pure hc466
      have hr480 := hr455.pure hc466
      have hr481 := hr456.pure hc466
      refine WR.batch 2 [(159, .bool true)] (by kernel_rfl) ?_
      refine WR.call (dst := some 160) (by kernel_rfl) (awake_any w465) ?_
      rintro _ w482 hc483 rfl
      have hz485 := hc483.size
      have hC484 := hC467.pure hc483
      have ho486 := ho469.pure hc483
      have ho487 := ho470.pure hc483
      have ho488 := ho471.pure hc483
      have ho489 := ho472.pure hc483
      have ho490 := ho473.pure hc483
      have ho491 := ho474.pure hc483
      have ho492 := ho475.pure hc483
      have ho493 := ho476.pure hc483
      have ho494 := ho477.pure hc483
      have hr495 := hr478.pure hc483
      have hr496 := hr479.pure hc483
      have hr497 := hr480.pure hc483
      have hr498 := hr481.pure hc483
      refine WR.batch 2 [(8, .bool true)] (by kernel_rfl) ?_
      refine WR.fin (by kernel_rfl) ?_
      refine go hK350 ?_
      refine CW.ret ?_
      exact retV (.bool true) (by kernel_rfl) ⟨hC484, rfl⟩
end Go.V
