import Derived.Test.YtbchneelmiflaaaGreatTb
namespace Go.X
open Go.RowKit Go.V Go.Proofs
theorem places_run (g1 g2 l : Nat) (sz : Int) (J : Nat -> World -> Prop) (w : World) (hsz : sz <= 8) (hB : ∃ y, Blk w g1 #[.int .i64 sz] 3 /\ Blk w g2 #[.int .i64 y] 2)
  (hround : ∀ k W, k < sz.toNat -> J k W -> ∃ x y, Blk W g1 #[.int .i64 x] 3 /\ Blk W g2 #[.int .i64 y] 2 /\ YieldW Tryz.prog l #[.int .i64 (IntKind.i64.wrap (y + (k : Int))), .int .i64 (IntKind.i64.wrap (8 * IntKind.i64.wrap (IntKind.i64.wrap (x - 1) - (k : Int))))] W fun e W' => e = .returned (.bool true) /\ J (k + 1) W')
  (h0 : J 0 w) : Calls Tryz.prog 125 #[.func (.yield l) #[] #[], .pointer (some ⟨g1, 0, none⟩), .pointer (some ⟨g2, 0, none⟩)] w fun e W' => (∃ v, e = .returned v) /\ J sz.toNat W' := by
 obtain ⟨y, b1, b2⟩ := hB
 have key : CWI Tryz.prog (bodyOf Tryz.f125) (bodyPostM Fence.wide 0 Tryz.prog Tryz.f125 fun e W' => (∃ v, e = .returned v) /\ J sz.toNat W') 21 [(0, .func (.yield l) #[] #[]), (1, .pointer (some ⟨g1, 0, none⟩)), (2, .pointer (some ⟨g2, 0, none⟩))] w := by
  refine CWI.seq (CWI.region ?_)
  refine WRI.load (dst := some 5) (t := 3) (o := 0) b1 (by kernel_rfl) (.int .i64 sz) (by kernel_rfl) ?_
  refine WRI.batch 1 [(0, .func (.yield l) #[] #[]), (1, .pointer (some ⟨g1, 0, none⟩)), (2, .pointer (some ⟨g2, 0, none⟩)), (5, .int .i64 sz), (6, .int .i64 0)] (by kernel_rfl) ?_
  refine WRI.fin (by kernel_rfl) fun a ha => ⟨_, ha, ?_⟩
  refine CWI.block fun a ha => wpIn_loop (fun a W => ∃ k : Nat, k <= sz.toNat /\ J k W /\ Fr 21 [] [(0, .func (.yield l) #[] #[]), (1, .pointer (some ⟨g1, 0, none⟩)), (2, .pointer (some ⟨g2, 0, none⟩)), (5, .int .i64 sz), (6, .int .i64 (k : Int))] a) (fun a _ => match a.tmps.getD 6 undef with | .int _ x => (sz - x).toNat | _ => 0) ⟨0, Nat.zero_le _, h0, ha⟩ ?_
  rintro a W ⟨k, hk, hJ, hf⟩
  have hμ : (match a.tmps.getD 6 undef with | .int _ x => (sz - x).toNat | _ => 0) = (sz - (k : Int)).toNat := by rw [(hf.val 6 (.int .i64 (k : Int)) rfl).1]
  rw [hμ]
  refine CWI.seq (F := [(0, .func (.yield l) #[] #[]), (1, .pointer (some ⟨g1, 0, none⟩)), (2, .pointer (some ⟨g2, 0, none⟩)), (5, .int .i64 sz), (6, .int .i64 (k : Int))]) (CWI.region ?_) a hf
  refine WRI.batch 1 [(0, .func (.yield l) #[] #[]), (1, .pointer (some ⟨g1, 0, none⟩)), (2, .pointer (some ⟨g2, 0, none⟩)), (5, .int .i64 sz), (6, .int .i64 (k : Int)), (7, .bool (decide ((k : Int) < sz)))] (by kernel_rfl) ?_
  refine WRI.fin (by kernel_rfl) fun a ha => ⟨_, ha, ?_⟩
  refine CWI.seq (CWI.cond (decide ((k : Int) < sz)) (by kernel_rfl) (fun ht => CWI.skip fun a ha => ⟨_, ha, ?_⟩) fun hf => CWI.exit fun a ha => ?_)
  ·have hlt : (k : Int) < sz := of_decide_eq_true ht
   obtain ⟨x, y', c1, c2, hy⟩ := hround k W (by omega) hJ
   refine CWI.seq (CWI.block (CWI.seq (CWI.region ?_)))
   refine WRI.batch 2 [(0, .func (.yield l) #[] #[]), (1, .pointer (some ⟨g1, 0, none⟩)), (2, .pointer (some ⟨g2, 0, none⟩)), (4, .int .i64 (k : Int)), (5, .int .i64 sz), (6, .int .i64 (k : Int))] (by kernel_rfl) ?_
   refine WRI.fin (by kernel_rfl) fun a ha => ⟨_, ha, ?_⟩
   refine CWI.seq (CWI.region ?_)
   refine WRI.batch 1 [(0, .func (.yield l) #[] #[]), (1, .pointer (some ⟨g1, 0, none⟩)), (2, .pointer (some ⟨g2, 0, none⟩)), (4, .int .i64 (k : Int)), (5, .int .i64 sz), (6, .int .i64 (k : Int)), (9, .func (.yield l) #[] #[])] (by kernel_rfl) ?_
   refine WRI.load (dst := some 10) (t := 2) (o := 0) c2 (by kernel_rfl) (.int .i64 y') (by kernel_rfl) ?_
   refine WRI.batch 2 [(0, .func (.yield l) #[] #[]), (1, .pointer (some ⟨g1, 0, none⟩)), (2, .pointer (some ⟨g2, 0, none⟩)), (4, .int .i64 (k : Int)), (5, .int .i64 sz), (6, .int .i64 (k : Int)), (9, .func (.yield l) #[] #[]), (12, .int .i64 (IntKind.i64.wrap (y' + (k : Int))))] (by kernel_rfl) ?_
   refine WRI.load (dst := some 13) (t := 3) (o := 0) c1 (by kernel_rfl) (.int .i64 x) (by kernel_rfl) ?_
   refine WRI.batch 4 [(0, .func (.yield l) #[] #[]), (1, .pointer (some ⟨g1, 0, none⟩)), (2, .pointer (some ⟨g2, 0, none⟩)), (5, .int .i64 sz), (6, .int .i64 (k : Int)), (9, .func (.yield l) #[] #[]), (12, .int .i64 (IntKind.i64.wrap (y' + (k : Int)))), (17, .int .i64 (IntKind.i64.wrap (8 * IntKind.i64.wrap (IntKind.i64.wrap (x - 1) - (k : Int)))))] (by kernel_rfl) ?_
   refine WRI.yield (dst := some 18) (l := l) (us := [.int .i64 (IntKind.i64.wrap (y' + (k : Int))), .int .i64 (IntKind.i64.wrap (8 * IntKind.i64.wrap (IntKind.i64.wrap (x - 1) - (k : Int))))]) (by kernel_rfl) hy (fun e w' h => ⟨_, h.1⟩) ?_
   rintro v W' ⟨hv, hJ'⟩
   cases hv
   refine WRI.batch 1 [(0, .func (.yield l) #[] #[]), (1, .pointer (some ⟨g1, 0, none⟩)), (2, .pointer (some ⟨g2, 0, none⟩)), (5, .int .i64 sz), (6, .int .i64 (k : Int)), (19, .bool false)] (by kernel_rfl) ?_
   refine WRI.fin (by kernel_rfl) fun a ha => ⟨_, ha, ?_⟩
   refine CWI.cond false (by kernel_rfl) (fun h => (by cases h)) fun _ => CWI.skip fun a ha => ⟨_, ha, ?_⟩
   refine CWI.region (WRI.batch 2 [(0, .func (.yield l) #[] #[]), (1, .pointer (some ⟨g1, 0, none⟩)), (2, .pointer (some ⟨g2, 0, none⟩)), (5, .int .i64 sz), (6, .int .i64 (IntKind.i64.wrap ((k : Int) + 1)))] (by kernel_rfl) ?_)
   have hw : IntKind.i64.wrap ((k : Int) + 1) = ((k + 1 : Nat) : Int) := by
    show IntKind.wrap _ _ = _
    unfold IntKind.wrap
    simp [IntKind.signed, IntKind.bits]
    omega
   rw [hw]
   refine WRI.fin (by kernel_rfl) fun a ha => ⟨⟨k + 1, by omega, hJ', ha⟩, ?_⟩
   rw [(ha.val 6 (.int .i64 ((k + 1 : Nat) : Int)) rfl).1]
   show (sz - ((k + 1 : Nat) : Int)).toNat < (sz - (k : Int)).toNat
   omega
  ·have hge : ¬ (k : Int) < sz := of_decide_eq_false hf
   have hk' : k = sz.toNat := by omega
   show Exit.inBlock 0 (bodyPostM Fence.wide 0 Tryz.prog Tryz.f125 fun e W' => (∃ v, e = .returned v) /\ J sz.toNat W') (.exit 0) a W
   refine inBlock_exit ?_
   show LeavesInM Fence.wide 0 Tryz.prog Tryz.f125 a.tmps _ a.defers .returning W
   rw [ha.defers]
   exact ⟨.tuple #[], by kernel_rfl, ⟨_, rfl⟩, hk' ▸ hJ⟩
 exact calls_of_CWI Tryz.func125 (show Tryz.f125.body = some (bodyOf Tryz.f125) by kernel_rfl) Tryz.ntmps125 (by kernel_rfl) [0, 1, 2] (by kernel_rfl) key
theorem places_it : ItOk TT Tryz.prog 125 (itPl 3 2) := itPl_ok places_run
end Go.X
