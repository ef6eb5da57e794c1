import Derived.Test.YtjiagljaipadmaaProg
import Derived.Test.YtjiagljaipadmaaLs
import Derived.Test.YtjiagljaipadmaaKr
namespace Go.V
open Go.RowKit Go.Proofs
def law12_KindTells (a0 : TKnown) (a1 : TKnown) (a2 : Int) (a3 : Int) (a4 : Int)  : Bool := (letF (law12_awake) fun x24 => (if (!x24) then false else (letF (kind_Right a0) fun x37 => (letF (ref12_Right a0) fun x40 => ((((x37 == x40) && ((kind_Holds a0 a2 a3 a4) == (ref12_Holds a0 a2 a3 a4))) && ((kind_Within a0 a1) == (ref12_Within a0 a1))) && (((kind_Join a0 a1).Kind == (ref12_Join a0 a1).Kind) && (((kind_Join a0 a1).In.Lo == (ref12_Join a0 a1).In.Lo) && ((kind_Join a0 a1).In.Hi == (ref12_Join a0 a1).In.Hi))))))))

set_option maxRecDepth 100000 in
set_option maxHeartbeats 4000000 in
theorem law12_KindTells_any (a0 : TKnown) (a1 : TKnown) (a2 : Int) (a3 : Int) (a4 : Int)   (w : World)  (_h_a0 : IU8 a0.Kind ∧ IU64 a0.In.Lo ∧ IU64 a0.In.Hi) (_h_a1 : IU8 a1.Kind ∧ IU64 a1.In.Lo ∧ IU64 a1.In.Hi) (_h_a2 : IU8 a2) (_h_a3 : IU64 a3) (_h_a4 : II64 a4)  : Calls Try.prog 9 #[.agg #[.int .u8 a0.Kind, .int .u64 a0.In.Lo, .int .u64 a0.In.Hi], .agg #[.int .u8 a1.Kind, .int .u64 a1.In.Lo, .int .u64 a1.In.Hi], .int .u8 a2, .int .u64 a3, .int .i64 a4] w (RetV w (.bool (law12_KindTells a0 a1 a2 a3 a4))) := by
 have hs := law12_KindTells.eq_1 a0 a1 a2 a3 a4
 refine calls_of_CW Try.func9 rfl (n := 49) Try.ntmps9 (by kernel_rfl) [0, 1, 2, 3, 4] (F := [(0, .agg #[.int .u8 a0.Kind, .int .u64 a0.In.Lo, .int .u64 a0.In.Hi]), (1, .agg #[.int .u8 a1.Kind, .int .u64 a1.In.Lo, .int .u64 a1.In.Hi]), (2, .int .u8 a2), (3, .int .u64 a3), (4, .int .i64 a4)]) (by kernel_rfl) ?_
 refine CW.seq fun K1 hK1 => ?_
 refine CW.region ?_
 refine WR.box (dst := some 5) (e := 56) (v := .agg #[.int .u8 a0.Kind, .int .u64 a0.In.Lo, .int .u64 a0.In.Hi]) (by kernel_rfl) #[.int .u8 a0.Kind, .int .u64 a0.In.Lo, .int .u64 a0.In.Hi] (by kernel_rfl) ?_
 intro g2 w3 hN4
 have hf6 : w.heap.size ≤ g2 := hN4.fresh
 have hfr8 := hN4.fresh
 have hc7 := hN4.chg
 have hz10 := hc7.size
 have hC9 := (Chg.refl [] w).pure hc7
 have hb5 := hN4.blk
 have hg11 := hb5.lt
 refine WR.box (dst := some 6) (e := 56) (v := .agg #[.int .u8 a1.Kind, .int .u64 a1.In.Lo, .int .u64 a1.In.Hi]) (by kernel_rfl) #[.int .u8 a1.Kind, .int .u64 a1.In.Lo, .int .u64 a1.In.Hi] (by kernel_rfl) ?_
 intro g12 w13 hN14
 have hf16 : w.heap.size ≤ g12 := Nat.le_trans hC9.size hN14.fresh
 have hfr18 := hN14.fresh
 have hc17 := hN14.chg
 have hz20 := hc17.size
 have hC19 := hC9.pure hc17
 have hb15 := hN14.blk
 have hg21 := hb15.lt
 refine WR.batch 1 [(2, .int .u8 a2), (3, .int .u64 a3), (4, .int .i64 a4), (5, pt g2 0), (6, pt g12 0)] (by kernel_rfl) ?_
 refine WR.fin (by kernel_rfl) ?_
 refine go hK1 ?_
 refine CW.seq fun K22 hK22 => ?_
 refine CW.seq fun K23 hK23 => ?_
 refine CW.region ?_
 obtain ⟨x24, hx25⟩ : ∃ x, law12_awake = x := ⟨_, rfl⟩
 have hs26 := letS hx25 hs
 refine WR.call (dst := some 11) (by kernel_rfl) (retE (g := (fun r : Bool => (.bool r : Value))) hx25 (law12_awake_any  w13  )) ?_
 rintro _ w27 hc28 rfl
 have hz30 := hc28.size
 have hC29 := hC19.pure hc28
 refine WR.batch 1 [(2, .int .u8 a2), (3, .int .u64 a3), (4, .int .i64 a4), (5, pt g2 0), (6, pt g12 0), (12, .bool (!x24))] (by kernel_rfl) ?_
 refine WR.fin (by kernel_rfl) ?_
 refine go hK23 ?_
 refine CW.cond ((!x24)) (by kernel_rfl) (fun ht31 => ?_) (fun ht31 => ?_)
 ·
  have hs32 := ifT ht31 hs26
  replace ht31 : x24 = false := (bNotT ht31)
  refine CW.seq fun K33 hK33 => ?_
  refine CW.region ?_
  refine WR.batch 1 [(10, .bool false)] (by kernel_rfl) ?_
  refine WR.fin (by kernel_rfl) ?_
  refine go hK33 ?_
  refine CW.ret ?_
  exact retV (.bool false) (by kernel_rfl) (⟨hC29, (congrArg (fun r : Bool => (.bool r : Value)) hs32).symm⟩)
 have hs34 := ifF ht31 hs26
 replace ht31 : x24 = true := (bNotF ht31)
 refine CW.skip ?_
 refine go hK22 ?_
 refine CW.seq fun K35 hK35 => ?_
 refine CW.regionQ (by kernel_rfl) (by kernel_rfl) ?_
 have hb36 := (hb5.pure hc17).pure hc28
 refine WQ.load (dst := some 13) (t := 56) (o := 0) (fun _ hq => hb36.pure hq) (by kernel_rfl) (.agg #[.int .u8 a0.Kind, .int .u64 a0.In.Lo, .int .u64 a0.In.Hi]) (by kernel_rfl) ?_
 obtain ⟨x37, hx38⟩ : ∃ x, kind_Right a0 = x := ⟨_, rfl⟩
 have hs39 := letS hx38 hs34
 refine WQ.call (dst := some 14) (.bool x37) (fun _ => by kernel_rfl) (fun _ _ h h' => h.pure h') (fun wq hq => retE (g := (fun r : Bool => (.bool r : Value))) hx38 (kind_Right_any a0 wq  ⟨(by omega), (by omega), (by omega)⟩ )) ?_
 refine WQ.load (dst := some 15) (t := 56) (o := 0) (fun _ hq => hb36.pure hq) (by kernel_rfl) (.agg #[.int .u8 a0.Kind, .int .u64 a0.In.Lo, .int .u64 a0.In.Hi]) (by kernel_rfl) ?_
 obtain ⟨x40, hx41⟩ : ∃ x, ref12_Right a0 = x := ⟨_, rfl⟩
 have hs42 := letS hx41 hs39
 refine WQ.call (dst := some 16) (.bool x40) (fun _ => by kernel_rfl) (fun _ _ h h' => h.pure h') (fun wq hq => retE (g := (fun r : Bool => (.bool r : Value))) hx41 (ref12_Right_any a0 wq  ⟨(by omega), (by omega), (by omega)⟩ )) ?_
 refine WQ.val (dst := some 17) (.bool (x37 == x40)) (fun _ => by kernel_rfl) ?_
 refine WQ.val (dst := some 18) (.bool (x37 == x40)) (fun _ => by kernel_rfl) ?_
 refine WQ.merge 18 [(5, pt g2 0), (6, pt g12 0), (30, .bool ((x37 == x40) && ((kind_Holds a0 a2 a3 a4) == (ref12_Holds a0 a2 a3 a4))))] (fun Q' => ?_) ?_
 ·
  cases hg43 : (x37 == x40)
  ·
   have hk45 := hg43
   replace hg43 : x37 ≠ x40 := (bEqF hg43)
   intro hM44
   refine WQ.pass1 (dst := some 19) (by kernel_rfl) ?_
   refine WQ.pass1 (dst := some 20) (by kernel_rfl) ?_
   refine WQ.pass1 (dst := some 21) (by kernel_rfl) ?_
   refine WQ.pass1 (dst := some 22) (by kernel_rfl) ?_
   refine WQ.pass1 (dst := some 23) (by kernel_rfl) ?_
   refine WQ.pass1 (dst := some 24) (by kernel_rfl) ?_
   refine WQ.pass1 (dst := some 25) (by kernel_rfl) ?_
   refine WQ.pass1 (dst := some 26) (by kernel_rfl) ?_
   refine WQ.pass1 (dst := some 27) (by kernel_rfl) ?_
   refine WQ.pass1 (dst := some 28) (by kernel_rfl) ?_
   refine WQ.pass1 (dst := some 29) (by kernel_rfl) ?_
   refine WQ.val (dst := some 30) (.bool false) (fun _ => by kernel_rfl) ?_
   exact WQ.keep [5, 6, 30] (by kernel_rfl) hM44
  ·
   have hk46 := hg43
   replace hg43 : x37 = x40 := (bEqT hg43)
   intro hM44
   refine WQ.load (dst := some 19) (t := 56) (o := 0) (fun _ hq => hb36.pure hq) (by kernel_rfl) (.agg #[.int .u8 a0.Kind, .int .u64 a0.In.Lo, .int .u64 a0.In.Hi]) (by kernel_rfl) ?_
   refine WQ.val (dst := some 20) (.int .u8 a2) (fun _ => by kernel_rfl) ?_
   refine WQ.val (dst := some 21) (.int .u64 a3) (fun _ => by kernel_rfl) ?_
   refine WQ.val (dst := some 22) (.int .i64 a4) (fun _ => by kernel_rfl) ?_
   refine WQ.call (dst := some 23) (.bool (kind_Holds a0 a2 a3 a4)) (fun _ => by kernel_rfl) (fun _ _ h h' => h.pure h') (fun wq hq => kind_Holds_any a0 a2 a3 a4 wq  ⟨(by omega), (by omega), (by omega)⟩ (by omega) (by omega) (by omega) ) ?_
   refine WQ.load (dst := some 24) (t := 56) (o := 0) (fun _ hq => hb36.pure hq) (by kernel_rfl) (.agg #[.int .u8 a0.Kind, .int .u64 a0.In.Lo, .int .u64 a0.In.Hi]) (by kernel_rfl) ?_
   refine WQ.val (dst := some 25) (.int .u8 a2) (fun _ => by kernel_rfl) ?_
   refine WQ.val (dst := some 26) (.int .u64 a3) (fun _ => by kernel_rfl) ?_
   refine WQ.val (dst := some 27) (.int .i64 a4) (fun _ => by kernel_rfl) ?_
   refine WQ.call (dst := some 28) (.bool (ref12_Holds a0 a2 a3 a4)) (fun _ => by kernel_rfl) (fun _ _ h h' => h.pure h') (fun wq hq => ref12_Holds_any a0 a2 a3 a4 wq  ⟨(by omega), (by omega), (by omega)⟩ (by omega) (by omega) (by omega) ) ?_
   refine WQ.val (dst := some 29) (.bool ((kind_Holds a0 a2 a3 a4) == (ref12_Holds a0 a2 a3 a4))) (fun _ => by kernel_rfl) ?_
   refine WQ.val (dst := some 30) (.bool ((kind_Holds a0 a2 a3 a4) == (ref12_Holds a0 a2 a3 a4))) (fun _ => by kernel_rfl) ?_
   exact WQ.keep [5, 6, 30] (by kernel_rfl) hM44
 have hx47 : IU8 (kind_Join a0 a1).Kind ∧ IU64 (kind_Join a0 a1).In.Lo ∧ IU64 (kind_Join a0 a1).In.Hi := kind_Join_ok a0 a1 ⟨(by omega), (by omega), (by omega)⟩ ⟨(by omega), (by omega), (by omega)⟩ 
 have hx48 : IU8 (ref12_Join a0 a1).Kind ∧ IU64 (ref12_Join a0 a1).In.Lo ∧ IU64 (ref12_Join a0 a1).In.Hi := ref12_Join_ok a0 a1 ⟨(by omega), (by omega), (by omega)⟩ ⟨(by omega), (by omega), (by omega)⟩ 
 refine WQ.val (dst := some 31) (.bool ((x37 == x40) && ((kind_Holds a0 a2 a3 a4) == (ref12_Holds a0 a2 a3 a4)))) (fun _ => by kernel_rfl) ?_
 refine WQ.merge 27 [(5, pt g2 0), (6, pt g12 0), (39, .bool (((x37 == x40) && ((kind_Holds a0 a2 a3 a4) == (ref12_Holds a0 a2 a3 a4))) && ((kind_Within a0 a1) == (ref12_Within a0 a1))))] (fun Q' => ?_) ?_
 ·
  cases hg49 : ((x37 == x40) && ((kind_Holds a0 a2 a3 a4) == (ref12_Holds a0 a2 a3 a4)))
  ·
   have hk51 := hg49
   replace hg49 : (x37 ≠ x40) ∨ ((kind_Holds a0 a2 a3 a4) ≠ (ref12_Holds a0 a2 a3 a4)) := (orMap (bAndF hg49) (fun h => (bEqF h)) (fun h => (bEqF h)))
   intro hM50
   refine WQ.pass1 (dst := some 32) (by kernel_rfl) ?_
   refine WQ.pass1 (dst := some 33) (by kernel_rfl) ?_
   refine WQ.pass1 (dst := some 34) (by kernel_rfl) ?_
   refine WQ.pass1 (dst := some 35) (by kernel_rfl) ?_
   refine WQ.pass1 (dst := some 36) (by kernel_rfl) ?_
   refine WQ.pass1 (dst := some 37) (by kernel_rfl) ?_
   refine WQ.pass1 (dst := some 38) (by kernel_rfl) ?_
   refine WQ.val (dst := some 39) (.bool false) (fun _ => by kernel_rfl) ?_
   exact WQ.keep [5, 6, 39] (by kernel_rfl) hM50
  ·
   have hk52 := hg49
   replace hg49 : (x37 = x40) ∧ ((kind_Holds a0 a2 a3 a4) = (ref12_Holds a0 a2 a3 a4)) := ⟨(bEqT (bAndT hg49).1), (bEqT (bAndT hg49).2)⟩
   intro hM50
   refine WQ.load (dst := some 32) (t := 56) (o := 0) (fun _ hq => hb36.pure hq) (by kernel_rfl) (.agg #[.int .u8 a0.Kind, .int .u64 a0.In.Lo, .int .u64 a0.In.Hi]) (by kernel_rfl) ?_
   have hb53 := hb15.pure hc28
   refine WQ.load (dst := some 33) (t := 56) (o := 0) (fun _ hq => hb53.pure hq) (by kernel_rfl) (.agg #[.int .u8 a1.Kind, .int .u64 a1.In.Lo, .int .u64 a1.In.Hi]) (by kernel_rfl) ?_
   refine WQ.call (dst := some 34) (.bool (kind_Within a0 a1)) (fun _ => by kernel_rfl) (fun _ _ h h' => h.pure h') (fun wq hq => kind_Within_any a0 a1 wq  ⟨(by omega), (by omega), (by omega)⟩ ⟨(by omega), (by omega), (by omega)⟩ ) ?_
   refine WQ.load (dst := some 35) (t := 56) (o := 0) (fun _ hq => hb36.pure hq) (by kernel_rfl) (.agg #[.int .u8 a0.Kind, .int .u64 a0.In.Lo, .int .u64 a0.In.Hi]) (by kernel_rfl) ?_
   refine WQ.load (dst := some 36) (t := 56) (o := 0) (fun _ hq => hb53.pure hq) (by kernel_rfl) (.agg #[.int .u8 a1.Kind, .int .u64 a1.In.Lo, .int .u64 a1.In.Hi]) (by kernel_rfl) ?_
   refine WQ.call (dst := some 37) (.bool (ref12_Within a0 a1)) (fun _ => by kernel_rfl) (fun _ _ h h' => h.pure h') (fun wq hq => ref12_Within_any a0 a1 wq  ⟨(by omega), (by omega), (by omega)⟩ ⟨(by omega), (by omega), (by omega)⟩ ) ?_
   refine WQ.val (dst := some 38) (.bool ((kind_Within a0 a1) == (ref12_Within a0 a1))) (fun _ => by kernel_rfl) ?_
   refine WQ.val (dst := some 39) (.bool ((kind_Within a0 a1) == (ref12_Within a0 a1))) (fun _ => by kernel_rfl) ?_
   exact WQ.keep [5, 6, 39] (by kernel_rfl) hM50
 have hx54 : IU8 (kind_Join a0 a1).Kind ∧ IU64 (kind_Join a0 a1).In.Lo ∧ IU64 (kind_Join a0 a1).In.Hi := kind_Join_ok a0 a1 ⟨(by omega), (by omega), (by omega)⟩ ⟨(by omega), (by omega), (by omega)⟩ 
 have hx55 : IU8 (ref12_Join a0 a1).Kind ∧ IU64 (ref12_Join a0 a1).In.Lo ∧ IU64 (ref12_Join a0 a1).In.Hi := ref12_Join_ok a0 a1 ⟨(by omega), (by omega), (by omega)⟩ ⟨(by omega), (by omega), (by omega)⟩ 
 refine WQ.val (dst := some 40) (.bool (((x37 == x40) && ((kind_Holds a0 a2 a3 a4) == (ref12_Holds a0 a2 a3 a4))) && ((kind_Within a0 a1) == (ref12_Within a0 a1)))) (fun _ => by kernel_rfl) ?_
 refine WQ.merge 36 [(48, .bool ((((x37 == x40) && ((kind_Holds a0 a2 a3 a4) == (ref12_Holds a0 a2 a3 a4))) && ((kind_Within a0 a1) == (ref12_Within a0 a1))) && (((kind_Join a0 a1).Kind == (ref12_Join a0 a1).Kind) && (((kind_Join a0 a1).In.Lo == (ref12_Join a0 a1).In.Lo) && ((kind_Join a0 a1).In.Hi == (ref12_Join a0 a1).In.Hi)))))] (fun Q' => ?_) ?_
 ·
  cases hg56 : (((x37 == x40) && ((kind_Holds a0 a2 a3 a4) == (ref12_Holds a0 a2 a3 a4))) && ((kind_Within a0 a1) == (ref12_Within a0 a1)))
  ·
   have hk58 := hg56
   replace hg56 : ((x37 ≠ x40) ∨ ((kind_Holds a0 a2 a3 a4) ≠ (ref12_Holds a0 a2 a3 a4))) ∨ ((kind_Within a0 a1) ≠ (ref12_Within a0 a1)) := (orMap (bAndF hg56) (fun h => (orMap (bAndF h) (fun h => (bEqF h)) (fun h => (bEqF h)))) (fun h => (bEqF h)))
   intro hM57
   refine WQ.pass1 (dst := some 41) (by kernel_rfl) ?_
   refine WQ.pass1 (dst := some 42) (by kernel_rfl) ?_
   refine WQ.pass1 (dst := some 43) (by kernel_rfl) ?_
   refine WQ.pass1 (dst := some 44) (by kernel_rfl) ?_
   refine WQ.pass1 (dst := some 45) (by kernel_rfl) ?_
   refine WQ.pass1 (dst := some 46) (by kernel_rfl) ?_
   refine WQ.pass1 (dst := some 47) (by kernel_rfl) ?_
   refine WQ.val (dst := some 48) (.bool false) (fun _ => by kernel_rfl) ?_
   exact WQ.keep [48] (by kernel_rfl) hM57
  ·
   have hk59 := hg56
   replace hg56 : ((x37 = x40) ∧ ((kind_Holds a0 a2 a3 a4) = (ref12_Holds a0 a2 a3 a4))) ∧ ((kind_Within a0 a1) = (ref12_Within a0 a1)) := ⟨⟨(bEqT (bAndT (bAndT hg56).1).1), (bEqT (bAndT (bAndT hg56).1).2)⟩, (bEqT (bAndT hg56).2)⟩
   intro hM57
   refine WQ.load (dst := some 41) (t := 56) (o := 0) (fun _ hq => hb36.pure hq) (by kernel_rfl) (.agg #[.int .u8 a0.Kind, .int .u64 a0.In.Lo, .int .u64 a0.In.Hi]) (by kernel_rfl) ?_
   have hb60 := hb15.pure hc28
   refine WQ.load (dst := some 42) (t := 56) (o := 0) (fun _ hq => hb60.pure hq) (by kernel_rfl) (.agg #[.int .u8 a1.Kind, .int .u64 a1.In.Lo, .int .u64 a1.In.Hi]) (by kernel_rfl) ?_
   have hx61 : IU8 (kind_Join a0 a1).Kind ∧ IU64 (kind_Join a0 a1).In.Lo ∧ IU64 (kind_Join a0 a1).In.Hi := kind_Join_ok a0 a1 ⟨(by omega), (by omega), (by omega)⟩ ⟨(by omega), (by omega), (by omega)⟩ 
   refine WQ.call (dst := some 43) (.agg #[.int .u8 (kind_Join a0 a1).Kind, .int .u64 (kind_Join a0 a1).In.Lo, .int .u64 (kind_Join a0 a1).In.Hi]) (fun _ => by kernel_rfl) (fun _ _ h h' => h.pure h') (fun wq hq => kind_Join_any a0 a1 wq  ⟨(by omega), (by omega), (by omega)⟩ ⟨(by omega), (by omega), (by omega)⟩ ) ?_
   refine WQ.load (dst := some 44) (t := 56) (o := 0) (fun _ hq => hb36.pure hq) (by kernel_rfl) (.agg #[.int .u8 a0.Kind, .int .u64 a0.In.Lo, .int .u64 a0.In.Hi]) (by kernel_rfl) ?_
   refine WQ.load (dst := some 45) (t := 56) (o := 0) (fun _ hq => hb60.pure hq) (by kernel_rfl) (.agg #[.int .u8 a1.Kind, .int .u64 a1.In.Lo, .int .u64 a1.In.Hi]) (by kernel_rfl) ?_
   have hx62 : IU8 (ref12_Join a0 a1).Kind ∧ IU64 (ref12_Join a0 a1).In.Lo ∧ IU64 (ref12_Join a0 a1).In.Hi := ref12_Join_ok a0 a1 ⟨(by omega), (by omega), (by omega)⟩ ⟨(by omega), (by omega), (by omega)⟩ 
   refine WQ.call (dst := some 46) (.agg #[.int .u8 (ref12_Join a0 a1).Kind, .int .u64 (ref12_Join a0 a1).In.Lo, .int .u64 (ref12_Join a0 a1).In.Hi]) (fun _ => by kernel_rfl) (fun _ _ h h' => h.pure h') (fun wq hq => ref12_Join_any a0 a1 wq  ⟨(by omega), (by omega), (by omega)⟩ ⟨(by omega), (by omega), (by omega)⟩ ) ?_
   refine WQ.val (dst := some 47) (.bool (((kind_Join a0 a1).Kind == (ref12_Join a0 a1).Kind) && (((kind_Join a0 a1).In.Lo == (ref12_Join a0 a1).In.Lo) && ((kind_Join a0 a1).In.Hi == (ref12_Join a0 a1).In.Hi)))) (run_eqS (t := 56) (xs := #[.int .u8 (kind_Join a0 a1).Kind, .int .u64 (kind_Join a0 a1).In.Lo, .int .u64 (kind_Join a0 a1).In.Hi]) (ys := #[.int .u8 (ref12_Join a0 a1).Kind, .int .u64 (ref12_Join a0 a1).In.Lo, .int .u64 (ref12_Join a0 a1).In.Hi]) (neg := false) (b := (((kind_Join a0 a1).Kind == (ref12_Join a0 a1).Kind) && (((kind_Join a0 a1).In.Lo == (ref12_Join a0 a1).In.Lo) && ((kind_Join a0 a1).In.Hi == (ref12_Join a0 a1).In.Hi)))) (by kernel_rfl) (by kernel_rfl) (by kernel_rfl)) ?_
   refine WQ.val (dst := some 48) (.bool (((kind_Join a0 a1).Kind == (ref12_Join a0 a1).Kind) && (((kind_Join a0 a1).In.Lo == (ref12_Join a0 a1).In.Lo) && ((kind_Join a0 a1).In.Hi == (ref12_Join a0 a1).In.Hi)))) (fun _ => by kernel_rfl) ?_
   exact WQ.keep [48] (by kernel_rfl) hM57
 have hx63 : IU8 (kind_Join a0 a1).Kind ∧ IU64 (kind_Join a0 a1).In.Lo ∧ IU64 (kind_Join a0 a1).In.Hi := kind_Join_ok a0 a1 ⟨(by omega), (by omega), (by omega)⟩ ⟨(by omega), (by omega), (by omega)⟩ 
 have hx64 : IU8 (ref12_Join a0 a1).Kind ∧ IU64 (ref12_Join a0 a1).In.Lo ∧ IU64 (ref12_Join a0 a1).In.Hi := ref12_Join_ok a0 a1 ⟨(by omega), (by omega), (by omega)⟩ ⟨(by omega), (by omega), (by omega)⟩ 
 refine WQ.val (dst := some 10) (.bool ((((x37 == x40) && ((kind_Holds a0 a2 a3 a4) == (ref12_Holds a0 a2 a3 a4))) && ((kind_Within a0 a1) == (ref12_Within a0 a1))) && (((kind_Join a0 a1).Kind == (ref12_Join a0 a1).Kind) && (((kind_Join a0 a1).In.Lo == (ref12_Join a0 a1).In.Lo) && ((kind_Join a0 a1).In.Hi == (ref12_Join a0 a1).In.Hi))))) (fun _ => by kernel_rfl) ?_
 refine WQ.fin (by kernel_rfl) ?_
 intro w65 hc66
 have hz68 := hc66.size
 have hC67 := hC29.pure hc66
 refine go hK35 ?_
 refine CW.ret ?_
 exact retV (.bool ((((x37 == x40) && ((kind_Holds a0 a2 a3 a4) == (ref12_Holds a0 a2 a3 a4))) && ((kind_Within a0 a1) == (ref12_Within a0 a1))) && (((kind_Join a0 a1).Kind == (ref12_Join a0 a1).Kind) && (((kind_Join a0 a1).In.Lo == (ref12_Join a0 a1).In.Lo) && ((kind_Join a0 a1).In.Hi == (ref12_Join a0 a1).In.Hi))))) (by kernel_rfl) (⟨hC67, (congrArg (fun r : Bool => (.bool r : Value)) hs42).symm⟩)
end Go.V
