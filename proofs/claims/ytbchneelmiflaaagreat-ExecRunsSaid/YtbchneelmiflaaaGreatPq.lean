import Derived.Test.YtbchneelmiflaaaGreatTb
import Derived.Test.YtbchneelmiflaaaGreatXO
namespace Go.Y
open Go.RowKit Go.V Go.X Go.Proofs
def ctT (i : Nat) : List Ty := match i with
 | 0 => [.int .u8, .bool, .int .i64, .int .i64, .bool, .int .i64, .int .i64, .int .i64]
 | 1 => [.int .i64, .int .i64]
 | 2 => [.int .i64, .int .i64, .int .u64, .int .i64]
 | 3 => [.int .u8, .int .u64]
 | 4 => [.int .u8, .int .u64]
 | _ + 5 => []
theorem Ins_of (cl : List (Cell UU)) (h : cl.map (·.t) = [.int .u8, .bool, .int .i64, .int .i64, .bool, .int .i64, .int .i64, .int .i64]) : ∃ x, Ins.of cl = some x := by
 match cl, h with
 | [⟨t0, a0⟩, ⟨t1, a1⟩, ⟨t2, a2⟩, ⟨t3, a3⟩, ⟨t4, a4⟩, ⟨t5, a5⟩, ⟨t6, a6⟩, ⟨t7, a7⟩], h =>
  simp only [List.map_cons, List.map_nil, List.cons.injEq, and_true] at h
  obtain ⟨rfl, rfl, rfl, rfl, rfl, rfl, rfl, rfl⟩ := h
  exact ⟨⟨a0, a1, a2, a3, a4, a5, a6, a7⟩, rfl⟩
theorem Fault_of (cl : List (Cell UU)) (h : cl.map (·.t) = [.int .i64, .int .i64]) : ∃ x, Fault.of cl = some x := by
 match cl, h with
 | [⟨t0, a0⟩, ⟨t1, a1⟩], h =>
  simp only [List.map_cons, List.map_nil, List.cons.injEq, and_true] at h
  obtain ⟨rfl, rfl⟩ := h
  exact ⟨⟨a0, a1⟩, rfl⟩
theorem Outcome_of (cl : List (Cell UU)) (h : cl.map (·.t) = [.int .i64, .int .i64, .int .u64, .int .i64]) : ∃ x, Outcome.of cl = some x := by
 match cl, h with
 | [⟨t0, a0⟩, ⟨t1, a1⟩, ⟨t2, a2⟩, ⟨t3, a3⟩], h =>
  simp only [List.map_cons, List.map_nil, List.cons.injEq, and_true] at h
  obtain ⟨rfl, rfl, rfl, rfl⟩ := h
  exact ⟨⟨a0, a1, a2, a3⟩, rfl⟩
theorem Val_of (cl : List (Cell UU)) (h : cl.map (·.t) = [.int .u8, .int .u64]) : ∃ x, Val.of cl = some x := by
 match cl, h with
 | [⟨t0, a0⟩, ⟨t1, a1⟩], h =>
  simp only [List.map_cons, List.map_nil, List.cons.injEq, and_true] at h
  obtain ⟨rfl, rfl⟩ := h
  exact ⟨⟨a0, a1⟩, rfl⟩
theorem RVal_of (cl : List (Cell UU)) (h : cl.map (·.t) = [.int .u8, .int .u64]) : ∃ x, RVal.of cl = some x := by
 match cl, h with
 | [⟨t0, a0⟩, ⟨t1, a1⟩], h =>
  simp only [List.map_cons, List.map_nil, List.cons.injEq, and_true] at h
  obtain ⟨rfl, rfl⟩ := h
  exact ⟨⟨a0, a1⟩, rfl⟩
theorem packT : Packs TT ctT where
 pack := fun i cl h => match i with
  | 0 => Ins_of cl h
  | 1 => Fault_of cl h
  | 2 => Outcome_of cl h
  | 3 => Val_of cl h
  | 4 => RVal_of cl h
  | _ + 5 => by
   cases cl with
   | nil => exact ⟨(), rfl⟩
   | cons a r => cases h
 size := fun i => match i with
  | 0 => rfl
  | 1 => rfl
  | 2 => rfl
  | 3 => rfl
  | 4 => rfl
  | _ + 5 => rfl
theorem goodBytes {l : List Int} (h : Go.X.Good TT (.list (.int .u8)) l) : ∀ x ∈ l, 0 <= x /\ x <= 255 := fun x hx => by
 have hc : Go.X.GoodV TT (.list (.int .u8)) l := h ⟨.list (.int .u8), l⟩ (List.mem_singleton.2 rfl)
 cases hc with
 | list _ _ _ h2 => exact Go.X.GoodV.intB (T := TT) (k := .u8) (h2 x hx ⟨.int .u8, x⟩ (List.mem_singleton.2 rfl))
end Go.Y
