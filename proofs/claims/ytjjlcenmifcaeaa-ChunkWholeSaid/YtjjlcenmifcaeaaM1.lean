/- Texts put together. -/
import Derived.Test.YtjjlcenmifcaeaaXO
import Derived.Test.YtjjlcenmifcaeaaM2
/- Rules for plain laws: tests, wraps, loops. Nothing here is about one program. -/
namespace Go.Y
open Go.RowKit Go.V Go.X

theorem forkB_if {R : Type} (c : Bool) (x y : Option R) : forkB c x y = if c = true then x else y := rfl
theorem forkB_true {R : Type} (x y : Option R) : forkB true x y = x := rfl
theorem forkB_false {R : Type} (x y : Option R) : forkB false x y = y := rfl
theorem obind_of {α β : Type} (a : α) (f : α → Option β) : obind (some a) f = f a := rfl
theorem forkB_or (c x : Bool) : forkB c (some true) (some x) = some (c || x) := by cases c <;> rfl
theorem wrap64 {x : Int} (h : -9223372036854775808 ≤ x ∧ x ≤ 9223372036854775807) : IntKind.i64.wrap x = x := by
  unfold IntKind.wrap; simp [IntKind.bits, IntKind.signed]; omega
/-- a loop that counts up; each round takes c of fuel. -/
theorem loop {α : Type} (f : Nat → Nat → Option α) (c len : Nat) (r : Option α) (hstep : ∀ n k, k < len → f (n + c) k = f n (k + 1)) (hend : ∀ n, f (n + 1) len = r) : ∀ m k n, k + m = len → c * m + 1 ≤ n → f n k = r
  | 0, k, n, hk, hn => by
    obtain ⟨n', rfl⟩ : ∃ n', n = n' + 1 := ⟨n - 1, by omega⟩
    have : k = len := by omega
    subst this; exact hend n'
  | m + 1, k, n, hk, hn => by
    obtain ⟨n', rfl⟩ : ∃ n', n = n' + c := ⟨n - c, by rw [Nat.mul_succ] at hn; omega⟩
    rw [hstep n' k (by omega)]
    exact loop f c len r hstep hend m (k + 1) n' (by omega) (by rw [Nat.mul_succ] at hn; omega)
theorem loop0 {α : Type} (f : Nat → Nat → Option α) (c len : Nat) (r : Option α) (hstep : ∀ n k, k < len → f (n + c) k = f n (k + 1)) (hend : ∀ n, f (n + 1) len = r) (n : Nat) (hn : c * len + 1 ≤ n) : f n 0 = r := loop f c len r hstep hend len 0 n (by omega) hn
theorem nx {k len : Nat} (h : k < len) (hl : len ≤ 1000000000) : IntKind.i64.wrap ((k : Int) + 1) = ((k + 1 : Nat) : Int) := by rw [wrap64 (by omega)]; omega
theorem up {n : Nat} {c : Nat} (h : c ≤ n) : ∃ m, n = m + c := ⟨n - c, by omega⟩
end Go.Y

/- One upload, and one chunk of it. -/
namespace Go.Y
open Go.RowKit Go.V Go.X
abbrev Tbl := List (Int × Upload)
/-! ### Bytes -/
theorem toList_loop (a : ByteArray) : ∀ m i r, a.size - i = m → ByteArray.toList.loop a i r = r.reverse ++ a.data.toList.drop i
  | 0, i, r, h => by
    rw [ByteArray.toList.loop.eq_1, if_neg (by omega), List.drop_eq_nil_of_le (by show a.data.toList.length ≤ i; rw [Array.length_toList]; exact Nat.sub_eq_zero_iff_le.1 h), List.append_nil]
  | m + 1, i, r, h => by
    have hi : i < a.data.size := by show i < a.size; omega
    rw [ByteArray.toList.loop.eq_1, if_pos (by show i < a.size; omega), toList_loop a m (i + 1) _ (by omega), List.reverse_cons, List.append_assoc]
    congr 1
    rw [List.drop_eq_getElem_cons (by rw [Array.length_toList]; exact hi : i < a.data.toList.length)]
    show [a.get! i] ++ _ = _
    rw [List.singleton_append]
    congr 1
    show a.data[i]! = _
    rw [getElem!_pos a.data i hi, Array.getElem_toList]
theorem toList_data (a : ByteArray) : a.toList = a.data.toList := by
  unfold ByteArray.toList
  rw [toList_loop a _ 0 [] rfl]; rfl
theorem bytesStr_data : ∀ (l : List Int) (a : ByteArray), (l.foldl (fun r n => r.push (UInt8.ofNat n.toNat)) a).data.toList = a.data.toList ++ u8s l
  | [], a => by simp [u8s]
  | x :: l, a => by
    rw [List.foldl_cons, bytesStr_data l]
    show (a.data.push _).toList ++ _ = _
    rw [Array.toList_push, List.append_assoc]; rfl
theorem bytesStr_toList (l : List Int) : ByteArray.toList (bytesStr l) = u8s l := by
  rw [toList_data]; unfold bytesStr; rw [bytesStr_data]; rfl
theorem u8s_inj : ∀ {a b : List Int}, byteOk a = true → byteOk b = true → u8s a = u8s b → a = b
  | [], [], _, _, _ => rfl
  | [], _ :: _, _, _, h => by cases h
  | _ :: _, [], _, _, h => by cases h
  | x :: a, y :: b, ha, hb, h => by
    unfold byteOk at ha hb
    rw [List.all_cons, Bool.and_eq_true] at ha hb
    have h1 : UInt8.ofNat x.toNat = UInt8.ofNat y.toNat := (List.cons.inj h).1
    have h2 : u8s a = u8s b := (List.cons.inj h).2
    have hx : 0 ≤ x ∧ x ≤ 255 := by simpa using ha.1
    have hy : 0 ≤ y ∧ y ≤ 255 := by simpa using hb.1
    have := u8_int hx; rw [h1, u8_int hy] at this
    rw [this, u8s_inj ha.2 hb.2 h2]
theorem equal_v {a b : List Int} (ha : byteOk a = true) (hb : byteOk b = true) : bytesEqual BIG a b = some (decide (a = b)) := by
  rw [bytesEqual_eq, bytesStr_toList, bytesStr_toList]
  congr 1
  rw [Bool.eq_iff_iff, beq_iff_eq, decide_eq_true_iff]
  exact ⟨u8s_inj ha hb, fun h => by rw [h]⟩
theorem clone_v {b : List Int} (h : b ≠ []) (hl : b.length ≤ 1024) : bytesClone BIG b = some b := by
  rw [bytesClone_eq]
  cases b with
  | nil => exact absurd rfl h
  | cons x b =>
    show (if (0 + (x :: b).length) * 1 ≤ 140737488355328 then some ([] ++ x :: b) else none) = _
    rw [if_pos (by omega)]; rfl
/-! ### The table -/
def get0 (m : Tbl) (v : Int) : Upload := tget TT (.user 0) m v
theorem get0_cons (y : Int) (b : Upload) (r : Tbl) (v : Int) : get0 ((y, b) :: r) v = if v = y then b else get0 r v := rfl
theorem thas_cons {α : Type} (y : Int) (b : α) (r : List (Int × α)) (v : Int) : thas ((y, b) :: r) v = if v = y then true else thas r v := rfl
theorem tset_cons {α : Type} (y : Int) (b : α) (r : List (Int × α)) (v : Int) (a : α) : tset ((y, b) :: r) v a = if v = y then (v, a) :: r else (y, b) :: tset r v a := rfl
theorem tset_get : ∀ {m : Tbl} {v : Int}, thas m v = true → tset m v (get0 m v) = m
  | [], v, h => by cases h
  | (y, b) :: r, v, h => by
    rw [tset_cons, get0_cons]
    rw [thas_cons] at h
    by_cases e : v = y
    · subst e; rw [if_pos rfl, if_pos rfl]
    · rw [if_neg e] at h
      rw [if_neg e, if_neg e, tset_get h]
theorem tset_tset {α : Type} : ∀ (m : List (Int × α)) (v : Int) (a b : α), tset (tset m v a) v b = tset m v b
  | [], v, a, b => by simp [tset]
  | (y, c) :: r, v, a, b => by
    by_cases e : v = y
    · simp [tset, e]
    · simp [tset, e, tset_tset r]
theorem tdel_tset {α : Type} : ∀ (m : List (Int × α)) (v : Int) (a : α), tdel (tset m v a) v = tdel m v
  | [], v, a => by simp [tset, tdel]
  | (y, c) :: r, v, a => by
    by_cases e : v = y
    · simp [tset, tdel, e]
    · simp [tset, tdel, e, tdel_tset r]
theorem tget_mem : ∀ {m : Tbl} {v : Int}, thas m v = true → (v, get0 m v) ∈ m
  | [], v, h => by cases h
  | (y, b) :: r, v, h => by
    rw [get0_cons]
    by_cases e : v = y
    · subst e; rw [if_pos rfl]; exact List.mem_cons_self
    · have h : thas r v = true := by unfold thas at h; rwa [if_neg e] at h
      rw [if_neg e]
      exact List.mem_cons_of_mem _ (tget_mem h)
theorem tset_mem {α : Type} : ∀ {m : List (Int × α)} {v : Int} {a : α} {x : Int × α}, x ∈ tset m v a → x = (v, a) ∨ x ∈ m
  | [], v, a, x, h => by simp [tset] at h; exact .inl h
  | (y, c) :: r, v, a, x, h => by
    unfold tset at h
    split at h
    · rcases List.mem_cons.1 h with h | h
      · exact .inl h
      · exact .inr (List.mem_cons_of_mem _ h)
    · rcases List.mem_cons.1 h with h | h
      · exact .inr (h ▸ List.mem_cons_self)
      · rcases tset_mem h with h | h
        · exact .inl h
        · exact .inr (List.mem_cons_of_mem _ h)
theorem tdel_mem {α : Type} : ∀ {m : List (Int × α)} {v : Int} {x : Int × α}, x ∈ tdel m v → x ∈ m
  | [], v, x, h => h
  | (y, c) :: r, v, x, h => by
    unfold tdel at h
    split at h
    · exact List.mem_cons_of_mem _ h
    · rcases List.mem_cons.1 h with h | h
      · exact h ▸ List.mem_cons_self
      · exact List.mem_cons_of_mem _ (tdel_mem h)
/-! ### What may be asked, and what is kept -/
def rightP (v i n : Int) (b : List Int) : Bool := decide (1 ≤ v ∧ v ≤ 1073741824 ∧ 1 ≤ n ∧ n ≤ 40 ∧ 0 ≤ i ∧ i < n ∧ 1 ≤ b.length ∧ b.length ≤ 1024 ∧ (b.length = 1024 ∨ i = n - 1))
theorem right_v (v i n : Int) (b : List Int) : chunk_right BIG v i n b = some (rightP v i n b) := by
  have e : (BIG : Nat) = 999999999 + 1 := rfl
  have e2 : (BIG : Nat) = 999999998 + 1 + 1 := rfl
  have hJ1 : ∀ n i k c, chunk_right_J1 (n + 1) i k c true = some false := fun n i k c => by rw [chunk_right_J1_eq]; rfl
  have hJ0 : ∀ n i k c, chunk_right_J0 (n + 1) i k c true = some false := fun n i k c => by rw [chunk_right_J0_eq]; rfl
  rw [chunk_right_eq, e2, hJ0]
  by_cases h1 : 1 ≤ v ∧ v ≤ 1073741824 ∧ 1 ≤ n ∧ n ≤ 40
  · rw [decide_eq_false (by omega), forkB_false, decide_eq_false (by omega), forkB_false, decide_eq_false (by omega), forkB_false, decide_eq_false (by omega), chunk_right_J0_eq, forkB_false, hJ1]
    by_cases h2 : 0 ≤ i ∧ i < n ∧ 1 ≤ b.length ∧ b.length ≤ 1024
    · rw [decide_eq_false (by omega), forkB_false, decide_eq_false (by omega), forkB_false, decide_eq_false (by omega), forkB_false, decide_eq_false (by omega), chunk_right_J1_eq, forkB_false, forkB_or, wrap64 (by omega)]
      congr 1
      unfold rightP
      rw [Bool.eq_iff_iff, Bool.or_eq_true, beq_iff_eq, beq_iff_eq, decide_eq_true_iff]
      omega
    · have : rightP v i n b = false := by unfold rightP; rw [decide_eq_false_iff_not]; omega
      rw [this, forkB_if]
      split
      · rfl
      rw [forkB_if]
      split
      · rfl
      rw [forkB_if]
      split
      · rfl
      rename_i a1 a2 a3
      simp only [decide_eq_true_eq] at a1 a2 a3
      rw [decide_eq_true (by omega), hJ1]
  · have : rightP v i n b = false := by unfold rightP; rw [decide_eq_false_iff_not]; omega
    rw [this, forkB_if]
    split
    · rfl
    rw [forkB_if]
    split
    · rfl
    rw [forkB_if]
    split
    · rfl
    rename_i a1 a2 a3
    simp only [decide_eq_true_eq] at a1 a2 a3
    rw [decide_eq_true (by omega), hJ0]
def PieceOk (p : List Int) : Prop := p.length ≤ 1024 ∧ byteOk p = true
structure UpOk (u : Upload) : Prop where
  len : u.pieces.length = 40
  whole : 1 ≤ u.whole ∧ u.whole ≤ 40
  ok : ∀ p ∈ u.pieces, PieceOk p
def TblOk (m : Tbl) : Prop := ∀ x ∈ m, UpOk x.2
theorem pieceNil : PieceOk [] := ⟨Nat.zero_le _, rfl⟩
theorem newUp {n : Int} (h : 1 ≤ n ∧ n ≤ 40) : UpOk ⟨List.replicate 40 [], n⟩ := ⟨rfl, h, fun p hp => by rw [List.eq_of_mem_replicate hp]; exact pieceNil⟩
theorem UpOk.set {u : Upload} (h : UpOk u) {b : List Int} (hb : PieceOk b) (i : Nat) : UpOk ⟨u.pieces.set i b, u.whole⟩ :=
  ⟨by show (u.pieces.set i b).length = 40; rw [List.length_set, h.len], h.whole, fun p hp => by
    rcases List.mem_or_eq_of_mem_set hp with hp | hp
    · exact h.ok p hp
    · exact hp ▸ hb⟩
theorem fix_up {u : Upload} (h : UpOk u) : fixL 40 ([] : List Int) u.pieces = u.pieces := fixL_eq h.len
theorem sumLen : ∀ (l : List (List Int)), (∀ p ∈ l, p.length ≤ 1024) → l.flatten.length ≤ 1024 * l.length
  | [], _ => Nat.zero_le _
  | p :: l, h => by
    rw [List.flatten_cons, List.length_append, List.length_cons]
    have := sumLen l fun p hp => h p (List.mem_cons_of_mem _ hp)
    have := h p List.mem_cons_self
    omega
/-- what was missing is there: all the bytes; else nothing yet. -/
def outP (u : Upload) : List Int := if missing u.pieces u.whole = true then [] else (u.pieces.take u.whole.toNat).flatten
theorem miss_v {ps : List (List Int)} {n : Int} : chunk_upload_missing_g1 BIG ps n = some (((ps, n, ()), ()), (((), (((), ()), ())), ())) := chunk_upload_missing_g1_eq BIG ps n
theorem done1_v {u : Upload} (h : UpOk u) (hm : missing u.pieces u.whole = true) : chunk_upload_done_g1a1 u.pieces u.whole = some (((u.pieces, u.whole, ()), ()), ((), ())) := by
  have := h.whole
  rw [chunk_upload_done_g1a1_eq, miss_v, obind_of]
  dsimp only
  rw [if_pos (by unfold missOk; simp; omega), hm]; rfl
theorem done2_v {u : Upload} (h : UpOk u) (hm : missing u.pieces u.whole = false) : chunk_upload_done_g1a2 u.pieces u.whole = some (((u.pieces, u.whole, ()), ()), (outP u, ())) := by
  have hw := h.whole
  rw [chunk_upload_done_g1a2_eq, miss_v, obind_of]
  dsimp only
  rw [if_pos (by unfold missOk; simp; omega), hm, forkB_false, if_pos (by omega)]
  have e : joinG u.pieces u.whole 0 (u.whole.toNat - 0) = some (((u.pieces, u.whole, ()), ()), ((u.pieces.take u.whole.toNat).flatten, ())) := by
    unfold joinG
    have hj : joinOk ((u.pieces.drop 0).take (u.whole.toNat - 0)) = true := by
      rw [List.drop_zero, Nat.sub_zero]
      unfold joinOk
      have hl : (u.pieces.take u.whole.toNat).length = u.whole.toNat := by rw [List.length_take, h.len]; omega
      have hin : ∀ p ∈ u.pieces.take u.whole.toNat, p ∈ u.pieces := fun p hp => List.mem_of_mem_take hp
      have := sumLen _ fun p hp => (h.ok p (hin p hp)).1
      rw [Bool.and_eq_true, Bool.and_eq_true]
      refine ⟨?_, ?_, ?_⟩
      · cases hq : u.pieces.take u.whole.toNat with
        | nil => rw [hq] at hl; simp at hl; omega
        | cons a b => rfl
      · rw [List.all_eq_true]
        intro p hp
        rw [Bool.and_eq_true]
        refine ⟨?_, (h.ok p (hin p hp)).2⟩
        unfold missing at hm
        rw [List.any_eq_false] at hm
        simpa using hm p hp
      · rw [hl] at this
        exact Nat.ble_eq_true_of_le (by omega)
    rw [hj]; simp
  rw [e, obind_of]
  unfold outP
  rw [hm]; simp
theorem outP_ne {u : Upload} (h : UpOk u) (hm : missing u.pieces u.whole = false) : (outP u).isEmpty = false := by
  have hw := h.whole
  unfold outP
  rw [hm]
  simp only [Bool.false_eq_true, if_false]
  have hl : (u.pieces.take u.whole.toNat).length = u.whole.toNat := by rw [List.length_take, h.len]; omega
  unfold missing at hm
  rw [List.any_eq_false] at hm
  cases hq : u.pieces.take u.whole.toNat with
  | nil => rw [hq] at hl; simp at hl; omega
  | cons a b =>
    have := hm a (by rw [hq]; exact List.mem_cons_self)
    cases a with
    | nil => simp at this
    | cons x a => rfl
/-- the table, and what is told, when a piece has been put. -/
def afterP (m : Tbl) (v : Int) (u : Upload) : Tbl × List Int × Int := if missing u.pieces u.whole = true then (tset m v u, [], 0) else (tdel m v, outP u, 0)
def putP (m : Tbl) (v i n : Int) (b : List Int) : Tbl × List Int × Int :=
  if rightP v i n b = false then (m, [], 2) else
  let u : Upload := if thas m v = true then get0 m v else ⟨List.replicate 40 [], n⟩
  if u.whole ≠ n ∨ (u.pieces.getD i.toNat [] ≠ [] ∧ u.pieces.getD i.toNat [] ≠ b) then (m, [], 7) else afterP m v ⟨u.pieces.set i.toNat b, u.whole⟩
theorem getD_ok {u : Upload} (h : UpOk u) (i : Nat) : PieceOk (u.pieces.getD i []) := by
  rw [List.getD_eq_getElem?_getD]
  cases e : u.pieces[i]? with
  | none => exact pieceNil
  | some p => exact h.ok p (List.mem_of_getElem? e)
theorem rightP_iff {v i n : Int} {b : List Int} : rightP v i n b = true ↔ 1 ≤ v ∧ v ≤ 1073741824 ∧ 1 ≤ n ∧ n ≤ 40 ∧ 0 ≤ i ∧ i < n ∧ 1 ≤ b.length ∧ b.length ≤ 1024 ∧ (b.length = 1024 ∨ i = n - 1) := by unfold rightP; exact decide_eq_true_iff
theorem nilF_false {R : Type} (a b : Option R) : nilF false a b = b := rfl
theorem known_v (m : Tbl) : chunkBoard_known_g1 BIG m = some ((((), ()), m, ()), (true, ())) := chunkBoard_known_g1_eq BIG m
theorem put_v {m : Tbl} (hm : TblOk m) {v i n : Int} {b : List Int} (hb : byteOk b = true) :
    chunkBoardPut_g1 BIG m v i n b = some ((((), ()), (putP m v i n b).1, ()), ((putP m v i n b).2.1, (putP m v i n b).2.2, ())) := by
  rw [chunkBoardPut_g1_eq, known_v, obind_of]
  dsimp only
  rw [Bool.not_true, forkB_false, right_v, obind_of]
  cases hr : rightP v i n b with
  | false => unfold putP; rw [hr]; rfl
  | true =>
    have hr' := rightP_iff.1 hr
    have hbp : PieceOk b := ⟨by omega, hb⟩
    have hbn : b ≠ [] := fun e => by rw [e] at hr'; simp at hr'
    rw [Bool.not_true, forkB_false]
    unfold putP
    rw [hr]
    simp only [Bool.true_eq_false, if_false]
    cases ht : thas m v with
    | true =>
      have hu : UpOk (get0 m v) := hm _ (tget_mem ht)
      have hse : tset m v (get0 m v) = m := tset_get ht
      have hfx := fix_up hu
      rw [forkB_true]
      simp only [if_true]
      have hq0 : (tget TT (.user 0) m v : Upload) = get0 m v := rfl
      rw [hq0]
      generalize get0 m v = u at hu hse hfx ⊢
      rw [if_pos (by omega), hfx]
      by_cases hw : u.whole = n
      · have hw' : (u.whole != n) = false := by simp [hw]
        rw [hw', forkB_false]
        have hg := getD_ok hu i.toNat
        have hU := hu.set hbp i.toNat
        have key : (forkB (missing (u.pieces.set i.toNat b) u.whole)
            (obind (chunk_upload_done_g1a1 (u.pieces.set i.toNat b) u.whole) fun y4 => some ((((), ()), tset m v (⟨y4.1.1.1, y4.1.1.2.1⟩ : Upload), ()), (([] : List Int), (0 : Int), ())))
            (obind (chunk_upload_done_g1a2 (u.pieces.set i.toNat b) u.whole) fun y5 => nilF y5.2.1.isEmpty
              (some ((((), ()), tset m v (⟨y5.1.1.1, y5.1.1.2.1⟩ : Upload), ()), (y5.2.1, (0 : Int), ())))
              (some ((((), ()), tdel m v, ()), (y5.2.1, (0 : Int), ())))))
            = some ((((), ()), (afterP m v ⟨u.pieces.set i.toNat b, u.whole⟩).1, ()), ((afterP m v ⟨u.pieces.set i.toNat b, u.whole⟩).2.1, (afterP m v ⟨u.pieces.set i.toNat b, u.whole⟩).2.2, ())) := by
          unfold afterP
          cases hmi : missing (u.pieces.set i.toNat b) u.whole with
          | true => rw [forkB_true, done1_v hU hmi, obind_of]; rfl
          | false =>
            rw [forkB_false, done2_v hU hmi, obind_of]
            dsimp only
            rw [outP_ne hU hmi, nilF_false]; rfl
        cases hp : (u.pieces.getD i.toNat ([] : List Int)).isEmpty with
        | true =>
          have hp' : u.pieces.getD i.toNat ([] : List Int) = [] := by simpa using hp
          rw [forkB_true, clone_v hbn hbp.1, obind_of]
          rw [if_pos (by omega), if_pos (by omega), key, if_neg (by rw [hp']; simp [hw])]
        | false =>
          have hp' : u.pieces.getD i.toNat ([] : List Int) ≠ [] := fun e => by rw [e] at hp; cases hp
          rw [forkB_false, equal_v hg.2 hb, obind_of]
          by_cases he : u.pieces.getD i.toNat ([] : List Int) = b
          · rw [decide_eq_true he, Bool.not_true, forkB_false, clone_v hbn hbp.1, obind_of]
            rw [if_pos (by omega), if_pos (by omega), key, if_neg (fun h => h.elim (fun h => h hw) fun h => h.2 he)]
          · rw [decide_eq_false he, Bool.not_false, forkB_true, if_pos (.inr ⟨hp', he⟩)]
            show some ((((), ()), tset m v u, ()), (([] : List Int), (7 : Int), ())) = _
            rw [hse]
      · have hw' : (u.whole != n) = true := by simp [hw]
        rw [hw', forkB_true, if_pos (.inl hw)]
        show some ((((), ()), tset m v u, ()), (([] : List Int), (7 : Int), ())) = _
        rw [hse]
    | false =>
      rw [forkB_false]
      simp only [Bool.false_eq_true, if_false]
      have hu : UpOk ⟨List.replicate 40 [], n⟩ := newUp (by omega)
      have hU : UpOk ⟨(List.replicate 40 []).set i.toNat b, n⟩ := hu.set hbp i.toNat
      have hd : (List.replicate 40 ([] : List Int)).getD i.toNat ([] : List Int) = [] := by
        rw [List.getD_eq_getElem?_getD, List.getElem?_replicate]; split <;> rfl
      have hn : (n != n) = false := by simp
      rw [if_pos (by omega), hn, forkB_false, hd]
      show (obind (bytesClone BIG b) fun y10 => _) = _
      rw [clone_v hbn hbp.1, obind_of]
      rw [if_pos (by omega), if_pos (by omega), if_neg (fun h => h.elim (fun h => h rfl) fun h => h.1 rfl)]
      unfold afterP
      cases hmi : missing ((List.replicate 40 ([] : List Int)).set i.toNat b) n with
      | true =>
        rw [forkB_true, done1_v hU hmi, obind_of]
        dsimp only
        rw [tset_tset]; rfl
      | false =>
        rw [forkB_false, done2_v hU hmi, obind_of]
        dsimp only
        rw [outP_ne hU hmi, nilF_false, tdel_tset]; rfl
theorem put2_v {m : Tbl} (hm : TblOk m) {v i n : Int} {b : List Int} (hb : byteOk b = true) :
    chunkBoardPut_g2 BIG m v i n b = some ((((), ()), (putP m v i n b).1, b, ()), ((putP m v i n b).2.1, (putP m v i n b).2.2, ())) := by
  rw [chunkBoardPut_g2_eq, known_v, obind_of]
  dsimp only
  rw [Bool.not_true, forkB_false, right_v, obind_of]
  cases hr : rightP v i n b with
  | false => unfold putP; rw [hr]; rfl
  | true =>
    have hr' := rightP_iff.1 hr
    have hbp : PieceOk b := ⟨by omega, hb⟩
    have hbn : b ≠ [] := fun e => by rw [e] at hr'; simp at hr'
    rw [Bool.not_true, forkB_false]
    unfold putP
    rw [hr]
    simp only [Bool.true_eq_false, if_false]
    cases ht : thas m v with
    | true =>
      have hu : UpOk (get0 m v) := hm _ (tget_mem ht)
      have hse : tset m v (get0 m v) = m := tset_get ht
      have hfx := fix_up hu
      rw [forkB_true]
      simp only [if_true]
      have hq0 : (tget TT (.user 0) m v : Upload) = get0 m v := rfl
      rw [hq0]
      generalize get0 m v = u at hu hse hfx ⊢
      rw [if_pos (by omega), hfx]
      by_cases hw : u.whole = n
      · have hw' : (u.whole != n) = false := by simp [hw]
        rw [hw', forkB_false]
        have hg := getD_ok hu i.toNat
        have hU := hu.set hbp i.toNat
        have key : (forkB (missing (u.pieces.set i.toNat b) u.whole)
            (obind (chunk_upload_done_g1a1 (u.pieces.set i.toNat b) u.whole) fun y4 => some ((((), ()), tset m v (⟨y4.1.1.1, y4.1.1.2.1⟩ : Upload), b, ()), (([] : List Int), (0 : Int), ())))
            (obind (chunk_upload_done_g1a2 (u.pieces.set i.toNat b) u.whole) fun y5 => nilF y5.2.1.isEmpty
              (some ((((), ()), tset m v (⟨y5.1.1.1, y5.1.1.2.1⟩ : Upload), b, ()), (y5.2.1, (0 : Int), ())))
              (some ((((), ()), tdel m v, b, ()), (y5.2.1, (0 : Int), ())))))
            = some ((((), ()), (afterP m v ⟨u.pieces.set i.toNat b, u.whole⟩).1, b, ()), ((afterP m v ⟨u.pieces.set i.toNat b, u.whole⟩).2.1, (afterP m v ⟨u.pieces.set i.toNat b, u.whole⟩).2.2, ())) := by
          unfold afterP
          cases hmi : missing (u.pieces.set i.toNat b) u.whole with
          | true => rw [forkB_true, done1_v hU hmi, obind_of]; rfl
          | false =>
            rw [forkB_false, done2_v hU hmi, obind_of]
            dsimp only
            rw [outP_ne hU hmi, nilF_false]; rfl
        cases hp : (u.pieces.getD i.toNat ([] : List Int)).isEmpty with
        | true =>
          have hp' : u.pieces.getD i.toNat ([] : List Int) = [] := by simpa using hp
          rw [forkB_true, clone_v hbn hbp.1, obind_of]
          rw [if_pos (by omega), if_pos (by omega), key, if_neg (by rw [hp']; simp [hw])]
        | false =>
          have hp' : u.pieces.getD i.toNat ([] : List Int) ≠ [] := fun e => by rw [e] at hp; cases hp
          rw [forkB_false, equal_v hg.2 hb, obind_of]
          by_cases he : u.pieces.getD i.toNat ([] : List Int) = b
          · rw [decide_eq_true he, Bool.not_true, forkB_false, clone_v hbn hbp.1, obind_of]
            rw [if_pos (by omega), if_pos (by omega), key, if_neg (fun h => h.elim (fun h => h hw) fun h => h.2 he)]
          · rw [decide_eq_false he, Bool.not_false, forkB_true, if_pos (.inr ⟨hp', he⟩)]
            show some ((((), ()), tset m v u, b, ()), (([] : List Int), (7 : Int), ())) = _
            rw [hse]
      · have hw' : (u.whole != n) = true := by simp [hw]
        rw [hw', forkB_true, if_pos (.inl hw)]
        show some ((((), ()), tset m v u, b, ()), (([] : List Int), (7 : Int), ())) = _
        rw [hse]
    | false =>
      rw [forkB_false]
      simp only [Bool.false_eq_true, if_false]
      have hu : UpOk ⟨List.replicate 40 [], n⟩ := newUp (by omega)
      have hU : UpOk ⟨(List.replicate 40 []).set i.toNat b, n⟩ := hu.set hbp i.toNat
      have hd : (List.replicate 40 ([] : List Int)).getD i.toNat ([] : List Int) = [] := by
        rw [List.getD_eq_getElem?_getD, List.getElem?_replicate]; split <;> rfl
      have hn : (n != n) = false := by simp
      rw [if_pos (by omega), hn, forkB_false, hd]
      show (obind (bytesClone BIG b) fun y10 => _) = _
      rw [clone_v hbn hbp.1, obind_of]
      rw [if_pos (by omega), if_pos (by omega), if_neg (fun h => h.elim (fun h => h rfl) fun h => h.1 rfl)]
      unfold afterP
      cases hmi : missing ((List.replicate 40 ([] : List Int)).set i.toNat b) n with
      | true =>
        rw [forkB_true, done1_v hU hmi, obind_of]
        dsimp only
        rw [tset_tset]; rfl
      | false =>
        rw [forkB_false, done2_v hU hmi, obind_of]
        dsimp only
        rw [outP_ne hU hmi, nilF_false, tdel_tset]; rfl
theorem putP_ok {m : Tbl} (hm : TblOk m) {v i n : Int} {b : List Int} (hb : byteOk b = true) : TblOk (putP m v i n b).1 := by
  unfold putP
  split
  · exact hm
  rename_i hr
  have hr := rightP_iff.1 (Bool.not_eq_false _ ▸ hr : rightP v i n b = true)
  have hu : UpOk (if thas m v = true then get0 m v else ⟨List.replicate 40 [], n⟩) := by
    split
    · rename_i h; exact hm _ (tget_mem h)
    · exact newUp (by omega)
  generalize (if thas m v = true then get0 m v else (⟨List.replicate 40 [], n⟩ : Upload)) = u at hu
  show TblOk (if u.whole ≠ n ∨ (u.pieces.getD i.toNat [] ≠ [] ∧ u.pieces.getD i.toNat [] ≠ b) then (m, [], 7) else afterP m v ⟨u.pieces.set i.toNat b, u.whole⟩ : Tbl × List Int × Int).1
  split
  · exact hm
  · have hb' : PieceOk b := ⟨by omega, hb⟩
    unfold afterP
    split
    · intro x hx
      rcases tset_mem hx with rfl | hx
      · exact hu.set hb' _
      · exact hm x hx
    · exact fun x hx => hm x (tdel_mem hx)
end Go.Y

/- A board that works, and the law ChunkNil. -/
namespace Go.Y
open Go.RowKit Go.V Go.X
theorem open_v {m : Tbl} (hk : keysOk m = true) : chunkBoardOpen_g1 BIG m = some ((((), ()), m, ()), (sortI (m.map Prod.fst), ())) := by
  rw [chunkBoardOpen_g1_eq, known_v, obind_of]
  dsimp only
  rw [Bool.not_true, forkB_false, chunk_table_versions_g1_eq, mapsKeys_g1_eq, obind_of]
  dsimp only
  unfold sortedKeys
  rw [hk]; rfl
def mA : Tbl := [(7, ⟨(List.replicate 40 []).set 1 [98], 2⟩)]
theorem zeros_ok : byteOk (List.replicate 1024 (0 : Int)) = true := by
  unfold byteOk; rw [List.all_eq_true]; intro x hx; rw [List.eq_of_mem_replicate hx]; rfl
theorem awake_true : law20_awake BIG = some true := by
  have h0 : TblOk [] := fun x hx => by cases hx
  have e2 : putP [] 7 1 2 [98] = (mA, [], 0) := by kernel_rfl
  have h2 : TblOk mA := by have := putP_ok h0 (v := 7) (i := 1) (n := 2) (b := [98]) rfl; rwa [e2] at this
  have e4 : putP mA 7 1 2 [98] = (mA, [], 0) := by kernel_rfl
  have e5 : putP mA 7 1 2 [99] = (mA, [], 7) := by kernel_rfl
  have e6 : putP mA 7 0 2 [97] = (mA, [], 2) := by kernel_rfl
  have e7 : putP mA 7 0 2 (List.replicate 1024 (0 : Int)) = ([], List.replicate 1024 (0 : Int) ++ [98], 0) := by kernel_rfl
  rw [law20_awake_eq, chunkNew_g1_eq, obind_of]
  dsimp only
  rw [put_v h0 rfl, obind_of, e2]
  dsimp only
  rw [open_v rfl, obind_of]
  dsimp only
  rw [put_v h2 rfl, obind_of, e4]
  dsimp only
  rw [put_v h2 rfl, obind_of, e5]
  dsimp only
  rw [put_v h2 rfl, obind_of, e6]
  dsimp only
  rw [if_pos (by omega), put2_v h2 zeros_ok, obind_of, e7]
  dsimp only
  rw [open_v rfl, obind_of]
  have hs : kitSameInts BIG (sortI (List.map Prod.fst mA)) [7] = some true := by
    obtain ⟨k, e⟩ : ∃ k : Nat, (BIG : Nat) = k + 1 + 1 := ⟨999999998, rfl⟩
    have hk : sortI (List.map Prod.fst mA) = [7] := by kernel_rfl
    have b1 : (((([7] : List Int).length : Nat) : Int) != ((([7] : List Int).length : Nat) : Int)) = false := by decide
    have b2 : decide ((0 : Int) < ((([7] : List Int).length : Nat) : Int)) = true := by decide
    have b3 : (([7] : List Int).getD (0 : Int).toNat (0 : Int) != ([7] : List Int).getD (0 : Int).toNat (0 : Int)) = false := by decide
    have b4 : IntKind.i64.wrap ((0 : Int) + 1) = 1 := by decide
    have b5 : decide ((1 : Int) < ((([7] : List Int).length : Nat) : Int)) = false := by decide
    rw [hk, kitSameInts_eq, b1, forkB_false, e, kitSameInts_L0_eq, b2, forkB_true, if_pos (by decide), if_pos (by decide), b3, forkB_false, b4, kitSameInts_L0_eq, b5, forkB_false]
  rw [hs, obind_of]
  have hl : ((List.replicate 1024 (0 : Int) ++ [98]).length : Int) = 1025 := by rw [List.length_append, List.length_replicate]; rfl
  rw [hl]
  have hg : (List.replicate 1024 (0 : Int) ++ [98]).getD 1024 (0 : Int) = 98 := by
    rw [List.getD_eq_getElem?_getD, List.getElem?_append_right (by rw [List.length_replicate]; exact Nat.le_refl _), List.length_replicate]; rfl
  rw [hg]
  rfl
end Go.Y

/- Bytes, cut; tables and their keys. -/
namespace Go.Y
open Go.RowKit Go.V Go.X
/-! ### Bytes, cut -/
def pieceP (b : List Int) (k : Nat) : List Int := List.take 1024 (List.drop (k * 1024) b)
def nP (b : List Int) : Nat := (b.length + 1023) / 1024
def cutP (b : List Int) : List (List Int) := (List.range (nP b)).map (pieceP b)
theorem piece_len (b : List Int) (k : Nat) : (pieceP b k).length ≤ 1024 := by unfold pieceP; rw [List.length_take]; omega
theorem piece_full {b : List Int} {k : Nat} (h : k + 1 < nP b) : (pieceP b k).length = 1024 := by unfold pieceP; unfold nP at h; rw [List.length_take, List.length_drop]; omega
theorem piece_pos {b : List Int} {k : Nat} (h : k < nP b) : 1 ≤ (pieceP b k).length := by unfold pieceP; unfold nP at h; rw [List.length_take, List.length_drop]; omega
theorem piece_ne {b : List Int} {k : Nat} (h : k < nP b) : pieceP b k ≠ [] := fun e => by have := piece_pos h; rw [e] at this; simp at this
theorem byteOk_sub {a b : List Int} (h : byteOk b = true) (hs : ∀ x ∈ a, x ∈ b) : byteOk a = true := by
  unfold byteOk at h ⊢
  rw [List.all_eq_true] at h ⊢
  exact fun x hx => h x (hs x hx)
theorem piece_byte {b : List Int} (h : byteOk b = true) (k : Nat) : byteOk (pieceP b k) = true := byteOk_sub h fun x hx => List.mem_of_mem_drop (List.mem_of_mem_take hx)
theorem rounds_v (b : List Int) (hb : b.length ≤ 40960) : ∀ (m k : Nat) (r : List (List Int)), k + m = nP b → r.length = k → chunkCut_g1_R0 m k b 1024 r = some ((), (r ++ (List.range' k m).map (pieceP b), ()))
  | 0, k, r, hk, hr => by
    have hc : (decide ((1024 : Int) = 1024) && (Nat.beq ((b.length + 1023) / 1024) k && Nat.ble b.length 1099511627776)) = true := by
      rw [Bool.and_eq_true, Bool.and_eq_true]
      refine ⟨by decide, ?_, Nat.ble_eq_true_of_le (by omega)⟩
      unfold nP at hk
      rw [← hk, Nat.add_zero]; exact Nat.beq_refl k
    rw [chunkCut_g1_R0_zero, hc, forkB_true]
    simp
  | m + 1, k, r, hk, hr => by
    have hc : (decide ((1024 : Int) = 1024) && (Nat.beq ((b.length + 1023) / 1024) (k + (m + 1)) && Nat.ble b.length 1099511627776)) = true := by
      rw [Bool.and_eq_true, Bool.and_eq_true]
      refine ⟨by decide, ?_, Nat.ble_eq_true_of_le (by omega)⟩
      unfold nP at hk
      rw [← hk]; exact Nat.beq_refl _
    have hn : nP b ≤ 40 := by unfold nP; omega
    rw [chunkCut_g1_R0_succ, hc, forkB_true]
    show (obind (bytesClone BIG (pieceP b k)) fun y1 => _) = _
    rw [clone_v (piece_ne (by omega)) (piece_len b k), obind_of, if_pos (by omega), rounds_v b hb m (k + 1) _ (by omega) (by simp [hr])]
    rw [List.range'_succ, List.map_cons, List.append_assoc]; rfl
theorem cut_v (b : List Int) (hb : b.length ≤ 40960) : chunkCut_g1 b = some ((), (cutP b, ())) := by
  have hc : (decide ((1024 : Int) = 1024) && Nat.ble b.length 1099511627776) = true := by
    rw [Bool.and_eq_true]; exact ⟨by decide, Nat.ble_eq_true_of_le (by omega)⟩
  rw [chunkCut_g1_eq, slicesChunk_g1_eq]
  show (match forkB (decide ((1024 : Int) = 1024) && Nat.ble b.length 1099511627776) (some ((b.length + 1023) / 1024)) none with
   | some N => chunkCut_g1_R0 N 0 b 1024 ([] : List (List Int))
   | none => none) = _
  rw [hc, forkB_true]
  show chunkCut_g1_R0 (nP b) 0 b 1024 [] = _
  rw [rounds_v b hb (nP b) 0 [] (by omega) rfl]
  unfold cutP
  rw [List.range_eq_range', List.nil_append]
theorem cut_len (b : List Int) : (cutP b).length = nP b := by unfold cutP; simp
theorem cut_get {b : List Int} {k : Nat} (h : k < nP b) : (cutP b).getD k [] = pieceP b k := by
  unfold cutP
  rw [List.getD_eq_getElem?_getD, List.getElem?_map, List.getElem?_range h, Option.map_some, Option.getD_some]
theorem flat_v (b : List Int) : ∀ (m k : Nat), k + m = nP b → ((List.range' k m).map (pieceP b)).flatten = b.drop (k * 1024)
  | 0, k, h => by
    unfold nP at h
    rw [List.drop_eq_nil_of_le (by omega)]; rfl
  | m + 1, k, h => by
    rw [List.range'_succ, List.map_cons, List.flatten_cons, flat_v b m (k + 1) (by omega)]
    unfold pieceP
    have e1 : (k + 1) * 1024 = k * 1024 + 1024 := by rw [Nat.add_mul, Nat.one_mul]
    have : b.drop ((k + 1) * 1024) = (b.drop (k * 1024)).drop 1024 := by rw [List.drop_drop, e1]
    rw [this, List.take_append_drop]
theorem cut_flat (b : List Int) : (cutP b).flatten = b := by
  unfold cutP
  rw [List.range_eq_range', flat_v b (nP b) 0 (by omega)]; rfl
/-! ### Keys -/
def keysP {α : Type} (m : List (Int × α)) : List Int := m.map Prod.fst
theorem thas_iff {α : Type} : ∀ {m : List (Int × α)} {v : Int}, thas m v = true ↔ v ∈ keysP m
  | [], v => by simp [thas, keysP]
  | (y, b) :: r, v => by
    rw [thas_cons]
    show _ ↔ v ∈ y :: keysP r
    rw [List.mem_cons, ← thas_iff (m := r)]
    by_cases e : v = y
    · simp [e]
    · simp [e]
theorem keys_tset {α : Type} : ∀ (m : List (Int × α)) (v : Int) (a : α), keysP (tset m v a) = if thas m v = true then keysP m else keysP m ++ [v]
  | [], v, a => rfl
  | (y, b) :: r, v, a => by
    rw [tset_cons, thas_cons]
    by_cases e : v = y
    · subst e; simp [keysP]
    · rw [if_neg e, if_neg e]
      show y :: keysP (tset r v a) = _
      rw [keys_tset r]
      split <;> rfl
theorem nd_tset {α : Type} {m : List (Int × α)} {v : Int} {a : α} (h : (keysP m).Nodup) : (keysP (tset m v a)).Nodup := by
  rw [keys_tset]
  split
  · exact h
  · rename_i hn
    rw [thas_iff] at hn
    rw [List.nodup_append]
    exact ⟨h, List.nodup_cons.2 ⟨by simp, List.nodup_nil⟩, fun x hx y hy e => hn (by rw [List.mem_singleton] at hy; rw [← hy, ← e]; exact hx)⟩
theorem keys_tdel {α : Type} : ∀ (m : List (Int × α)) (v : Int), keysP (tdel m v) = (keysP m).erase v
  | [], v => rfl
  | (y, b) :: r, v => by
    show keysP (if v = y then r else (y, b) :: tdel r v) = (y :: keysP r).erase v
    by_cases e : v = y
    · subst e; rw [if_pos rfl, List.erase_cons_head]
    · rw [if_neg e, List.erase_cons_tail (by simpa using fun h : y = v => e h.symm)]
      show y :: keysP (tdel r v) = _
      rw [keys_tdel r]
theorem nd_tdel {α : Type} {m : List (Int × α)} {v : Int} (h : (keysP m).Nodup) : (keysP (tdel m v)).Nodup := by rw [keys_tdel]; exact h.erase v
theorem thas_tdel {α : Type} {m : List (Int × α)} {v : Int} (h : (keysP m).Nodup) : thas (tdel m v) v = false := by
  rw [Bool.eq_false_iff, Ne, thas_iff, keys_tdel]
  exact h.not_mem_erase
theorem thas_tset {α : Type} : ∀ (m : List (Int × α)) (v : Int) (a : α), thas (tset m v a) v = true
  | [], v, a => by simp [tset, thas]
  | (y, b) :: r, v, a => by
    rw [tset_cons]
    by_cases e : v = y
    · rw [if_pos e, thas_cons, if_pos rfl]
    · rw [if_neg e, thas_cons, if_neg e, thas_tset r]
theorem thas_tset_ne {α : Type} : ∀ (m : List (Int × α)) {v v' : Int} (a : α), v' ≠ v → thas (tset m v a) v' = thas m v'
  | [], v, v', a, h => by simp [tset, thas, h]
  | (y, b) :: r, v, v', a, h => by
    rw [tset_cons]
    by_cases e : v = y
    · subst e; rw [if_pos rfl, thas_cons, thas_cons, if_neg h]
    · rw [if_neg e, thas_cons, thas_cons, thas_tset_ne r a h]
theorem thas_tdel_ne {α : Type} : ∀ (m : List (Int × α)) {v v' : Int}, v' ≠ v → thas (tdel m v) v' = thas m v'
  | [], v, v', h => rfl
  | (y, b) :: r, v, v', h => by
    show thas (if v = y then r else (y, b) :: tdel r v) v' = _
    by_cases e : v = y
    · subst e; rw [if_pos rfl, thas_cons, if_neg h]
    · rw [if_neg e, thas_cons, thas_cons, thas_tdel_ne r h]
theorem get0_tset : ∀ (m : Tbl) (v : Int) (a : Upload), get0 (tset m v a) v = a
  | [], v, a => by show get0 [(v, a)] v = a; rw [get0_cons, if_pos rfl]
  | (y, b) :: r, v, a => by
    rw [tset_cons]
    by_cases e : v = y
    · rw [if_pos e, get0_cons, if_pos rfl]
    · rw [if_neg e, get0_cons, if_neg e, get0_tset r]
theorem get0_tset_ne : ∀ (m : Tbl) {v v' : Int} (a : Upload), v' ≠ v → get0 (tset m v a) v' = get0 m v'
  | [], v, v', a, h => by show get0 [(v, a)] v' = _; rw [get0_cons, if_neg h]
  | (y, b) :: r, v, v', a, h => by
    rw [tset_cons]
    by_cases e : v = y
    · subst e; rw [if_pos rfl, get0_cons, get0_cons, if_neg h, if_neg h]
    · rw [if_neg e, get0_cons, get0_cons, get0_tset_ne r a h]
theorem get0_tdel_ne : ∀ (m : Tbl) {v v' : Int}, v' ≠ v → get0 (tdel m v) v' = get0 m v'
  | [], v, v', h => rfl
  | (y, b) :: r, v, v', h => by
    show get0 (if v = y then r else (y, b) :: tdel r v) v' = _
    by_cases e : v = y
    · subst e; rw [if_pos rfl, get0_cons, if_neg h]
    · rw [if_neg e, get0_cons, get0_cons, get0_tdel_ne r h]
/-- what is known of an upload. -/
def view (t : Tbl) (v n : Int) : Upload := if thas t v = true then get0 t v else ⟨List.replicate 40 [], n⟩
theorem view_tset (t : Tbl) (v n : Int) (u : Upload) : view (tset t v u) v n = u := by unfold view; rw [thas_tset, if_pos rfl, get0_tset]
theorem view_tset_ne (t : Tbl) {v v' : Int} (n : Int) (u : Upload) (h : v' ≠ v) : view (tset t v u) v' n = view t v' n := by unfold view; rw [thas_tset_ne t u h, get0_tset_ne t u h]
theorem view_tdel_ne (t : Tbl) {v v' : Int} (n : Int) (h : v' ≠ v) : view (tdel t v) v' n = view t v' n := by unfold view; rw [thas_tdel_ne t h, get0_tdel_ne t h]
theorem view_ok {t : Tbl} (h : TblOk t) {v n : Int} (hn : 1 ≤ n ∧ n ≤ 40) : UpOk (view t v n) := by
  unfold view
  split
  · rename_i hh; exact h _ (tget_mem hh)
  · exact newUp hn
theorem put_in {t : Tbl} {v n : Int} {i : Nat} {b : List Int} (hr : rightP v (i : Int) n b = true) (hw : (view t v n).whole = n) (hp : (view t v n).pieces.getD i [] = [] ∨ (view t v n).pieces.getD i [] = b) :
    putP t v (i : Int) n b = afterP t v ⟨(view t v n).pieces.set i b, n⟩ := by
  unfold putP
  rw [hr]
  simp only [Bool.true_eq_false, if_false]
  show (if (view t v n).whole ≠ n ∨ ((view t v n).pieces.getD (i : Int).toNat [] ≠ [] ∧ (view t v n).pieces.getD (i : Int).toNat [] ≠ b) then ((t, [], 7) : Tbl × List Int × Int) else afterP t v ⟨(view t v n).pieces.set (i : Int).toNat b, (view t v n).whole⟩) = _
  rw [Int.toNat_natCast, if_neg, hw]
  rintro (h | ⟨h1, h2⟩)
  · exact h hw
  · exact hp.elim h1 h2
theorem getD_set (l : List (List Int)) (i k : Nat) (b : List Int) (hi : i < l.length) : (l.set i b).getD k [] = if k = i then b else l.getD k [] := by
  rw [List.getD_eq_getElem?_getD, List.getElem?_set]
  by_cases h : i = k
  · subst h; simp [hi]
  · rw [if_neg h, if_neg (fun e => h e.symm), List.getD_eq_getElem?_getD]
theorem miss_iff {ps : List (List Int)} {n : Nat} (hl : n ≤ ps.length) : missing ps (n : Int) = true ↔ ∃ k, k < n ∧ ps.getD k [] = [] := by
  constructor
  · intro h
    by_cases hh : ∃ k, k < n ∧ ps.getD k [] = []
    · exact hh
    · rw [missing_no hl (fun i hi he => hh ⟨i, hi, he⟩)] at h; cases h
  · rintro ⟨k, hk, he⟩
    unfold missing
    rw [List.any_eq_true]
    refine ⟨[], ?_, rfl⟩
    rw [Int.toNat_natCast]
    refine List.mem_iff_getElem?.2 ⟨k, ?_⟩
    rw [List.getElem?_take, if_pos hk, List.getElem?_eq_getElem (by omega)]
    rw [List.getD_eq_getElem?_getD, List.getElem?_eq_getElem (by omega)] at he
    exact congrArg some he
end Go.Y

/- The law ChunkWhole. -/
namespace Go.Y
open Go.RowKit Go.V Go.X
theorem sameBytes (a : List Int) (h : a.length ≤ 400000000) : kitSameBytes BIG a a = some true := by
  rw [kitSameBytes_eq]
  rw [show (((a.length : Nat) : Int) != ((a.length : Nat) : Int)) = false by simp, forkB_false]
  refine loop0 (fun n k => kitSameBytes_L0 n a a (k : Int)) 1 a.length _ (fun n k hk => ?_) (fun n => ?_) BIG (by unfold BIG; omega)
  · show kitSameBytes_L0 (n + 1) a a (k : Int) = kitSameBytes_L0 n a a ((k + 1 : Nat) : Int)
    rw [kitSameBytes_L0_eq, decide_eq_true (by omega), forkB_true, if_pos (by omega), if_pos (by omega), nx hk (by omega)]
    simp [forkB_false]
  · show kitSameBytes_L0 (n + 1) a a ((a.length : Nat) : Int) = some true
    rw [kitSameBytes_L0_eq, decide_eq_false (by omega), forkB_false]
theorem drop_no {m : Tbl} {v : Int} (h : thas m v = false) : chunkBoardDrop_g3 BIG m v = some ((((), ()), m, ()), ((6 : Int), ())) := by
  rw [chunkBoardDrop_g3_eq, known_v, obind_of]
  dsimp only
  rw [Bool.not_true, forkB_false, h, forkB_false]
theorem pick_v (x : Int) (n : Nat) (hn : 1 ≤ n) (hb : n ≤ 1000) : ∃ p : Nat, p < n ∧ kitPick BIG x (n : Int) = some (p : Int) ∧ ∀ k : Nat, x = (k : Int) → k < n → p = k := by
  have hn0 : (0 : Int) < (n : Int) := by omega
  rw [kitPick_eq, decide_eq_false (by omega), forkB_false, if_neg (by omega)]
  rcases Int.le_total 0 x with hx | hx
  · have h1 := Int.tmod_nonneg (n : Int) hx
    have h2 := Int.tmod_lt_of_pos x hn0
    rw [decide_eq_false (by omega), forkB_false]
    refine ⟨(x.tmod n).toNat, by omega, by rw [Int.toNat_of_nonneg h1], fun k hk hkn => ?_⟩
    subst hk
    rw [Int.tmod_eq_of_lt hx (by omega), Int.toNat_natCast]
  · have h1 := Int.tmod_nonneg (n : Int) (a := -x) (by omega)
    have h2 := Int.tmod_lt_of_pos (-x) hn0
    have h3 : x.tmod n = -((-x).tmod n) := by rw [← Int.neg_tmod, Int.neg_neg]
    rw [h3]
    by_cases hz : (-x).tmod n = 0
    · rw [hz, decide_eq_false (by omega), forkB_false]
      refine ⟨0, by omega, rfl, fun k hk hkn => by omega⟩
    · rw [decide_eq_true (by omega), forkB_true, wrap64 (by omega)]
      exact ⟨(-((-x).tmod n) + n).toNat, by omega, by rw [Int.toNat_of_nonneg (by omega)], fun k hk hkn => by
        have : x = 0 := by omega
        subst this; simp at hz⟩
/-- how far the loop has come. -/
structure Inv (d o : List Int) (len0 i left : Nat) (sent : List Bool) (t : Tbl) : Prop where
  hs : sent.length = nP d
  hl : left = sent.count false
  ht : TblOk t
  nd : (keysP t).Nodup
  w1 : 0 < left → (view t 1 (nP d : Int)).whole = (nP d : Int) ∧ ∀ k, (view t 1 (nP d : Int)).pieces.getD k [] = if sent.getD k false = true then pieceP d k else []
  e1 : left = 0 → thas t 1 = false
  w2 : (view t 2 (nP o : Int)).whole = (nP o : Int) ∧ ∀ k, (view t 2 (nP o : Int)).pieces.getD k [] = [] ∨ (k + 1 < nP o ∧ (view t 2 (nP o : Int)).pieces.getD k [] = pieceP o k)
  done : ∀ k, k + len0 < i → k < nP d → sent.getD k false = true
theorem nP_rng {d : List Int} (h1 : 1 ≤ d.length) (h2 : d.length ≤ 40960) : 1 ≤ nP d ∧ nP d ≤ 40 := by unfold nP; omega
theorem right_piece {v : Int} (hv : 1 ≤ v ∧ v ≤ 2) {d : List Int} (h1 : 1 ≤ d.length) (h2 : d.length ≤ 40960) {k : Nat} (hk : k < nP d) : rightP v (k : Int) (nP d : Int) (pieceP d k) = true := by
  have hn := nP_rng h1 h2
  rw [rightP_iff]
  have h3 := piece_pos hk
  have h4 := piece_len d k
  refine ⟨by omega, by omega, by omega, by omega, by omega, by omega, h3, h4, ?_⟩
  by_cases hl : k + 1 < nP d
  · exact .inl (piece_full hl)
  · exact .inr (by omega)
section
variable {d o : List Int} {len0 i left : Nat} {sent : List Bool} {t : Tbl}
theorem put2_step (ho1 : 1 ≤ o.length) (ho2 : o.length ≤ 40960) (hob : byteOk o = true) (h : Inv d o len0 i left sent t) {q : Nat} (hq : q + 1 < nP o) :
    ∃ t', putP t 2 (q : Int) (nP o : Int) (pieceP o q) = (t', [], 0) ∧ Inv d o len0 i left sent t' := by
  have hn := nP_rng ho1 ho2
  have hv := view_ok h.ht (v := 2) (n := (nP o : Int)) (by omega)
  have hpb : PieceOk (pieceP o q) := ⟨piece_len o q, piece_byte hob q⟩
  have hin := put_in (t := t) (v := 2) (n := (nP o : Int)) (i := q) (b := pieceP o q) (right_piece (by omega) ho1 ho2 (by omega)) h.w2.1 (by
    rcases h.w2.2 q with h | h
    · exact .inl h
    · exact .inr h.2)
  have hlen := hv.len
  have hU : UpOk ⟨(view t 2 (nP o : Int)).pieces.set q (pieceP o q), (nP o : Int)⟩ := by have := hv.set hpb q; rwa [h.w2.1] at this
  have hget := fun k => getD_set (view t 2 (nP o : Int)).pieces q k (pieceP o q) (by omega)
  have hm : missing ((view t 2 (nP o : Int)).pieces.set q (pieceP o q)) (nP o : Int) = true := by
    rw [miss_iff (by rw [List.length_set]; omega)]
    refine ⟨nP o - 1, by omega, ?_⟩
    rw [hget, if_neg (by omega)]
    rcases h.w2.2 (nP o - 1) with h | h
    · exact h
    · omega
  refine ⟨_, by rw [hin]; unfold afterP; rw [if_pos hm], ?_⟩
  have hok := putP_ok h.ht (v := 2) (i := (q : Int)) (n := (nP o : Int)) (b := pieceP o q) hpb.2
  rw [hin] at hok; unfold afterP at hok; rw [if_pos hm] at hok
  refine ⟨h.hs, h.hl, hok, nd_tset h.nd, ?_, ?_, ?_, h.done⟩
  · rw [view_tset_ne _ _ _ (by decide : (1 : Int) ≠ 2)]; exact h.w1
  · rw [thas_tset_ne _ _ (by decide : (1 : Int) ≠ 2)]; exact h.e1
  · rw [view_tset]
    refine ⟨rfl, fun k => ?_⟩
    show ((view t 2 (nP o : Int)).pieces.set q (pieceP o q)).getD k [] = [] ∨ _
    rw [hget]
    by_cases hk : k = q
    · subst hk; rw [if_pos rfl]
      exact .inr ⟨hq, rfl⟩
    · rw [if_neg hk]
      rcases h.w2.2 k with h | h
      · exact .inl h
      · exact .inr h
theorem sent_set {l : List Bool} {p k : Nat} (hp : p < l.length) : (l.set p true).getD k false = if k = p then true else l.getD k false := by
  rw [List.getD_eq_getElem?_getD, List.getElem?_set]
  by_cases h : p = k
  · subst h; simp [hp]
  · rw [if_neg h, if_neg (fun e => h e.symm), List.getD_eq_getElem?_getD]
theorem count0 {l : List Bool} : l.count false = 0 ↔ ∀ k, k < l.length → l.getD k false = true := by
  rw [List.count_eq_zero]
  constructor
  · intro h k hk
    rw [List.getD_eq_getElem?_getD, List.getElem?_eq_getElem hk]
    cases e : l[k] with
    | true => rfl
    | false => exact absurd (e ▸ List.getElem_mem hk) h
  · intro h hm
    obtain ⟨k, hk, e⟩ := List.mem_iff_getElem.1 hm
    have := h k hk
    rw [List.getD_eq_getElem?_getD, List.getElem?_eq_getElem hk, e] at this
    cases this
theorem put1_step (hd1 : 1 ≤ d.length) (hd2 : d.length ≤ 40960) (hdb : byteOk d = true) (h : Inv d o len0 i left sent t) (hpos : 0 < left) {p : Nat} (hp : p < nP d) (hpi : ∀ k, k + len0 = i → k < nP d → p = k) :
    ∃ t' out, putP t 1 (p : Int) (nP d : Int) (pieceP d p) = (t', out, 0) ∧ (0 < (sent.set p true).count false → out = []) ∧ ((sent.set p true).count false = 0 → out = d) ∧ Inv d o len0 (i + 1) ((sent.set p true).count false) (sent.set p true) t' := by
  have hn := nP_rng hd1 hd2
  have hs := h.hs
  have hv := view_ok h.ht (v := 1) (n := (nP d : Int)) (by omega)
  have hpb : PieceOk (pieceP d p) := ⟨piece_len d p, piece_byte hdb p⟩
  obtain ⟨hw, hg⟩ := h.w1 hpos
  have hin := put_in (t := t) (v := 1) (n := (nP d : Int)) (i := p) (b := pieceP d p) (right_piece (by omega) hd1 hd2 hp) hw (by
    rw [hg]; split
    · exact .inr rfl
    · exact .inl rfl)
  have hlen := hv.len
  have hget : ∀ k, ((view t 1 (nP d : Int)).pieces.set p (pieceP d p)).getD k [] = if (sent.set p true).getD k false = true then pieceP d k else [] := fun k => by
    rw [getD_set _ _ _ _ (by omega), sent_set (by omega), hg]
    by_cases hk : k = p
    · subst hk; simp
    · rw [if_neg hk, if_neg hk]
  have hl' : (sent.set p true).length = nP d := by rw [List.length_set, hs]
  have hmiss : missing ((view t 1 (nP d : Int)).pieces.set p (pieceP d p)) (nP d : Int) = true ↔ 0 < (sent.set p true).count false := by
    rw [miss_iff (by rw [List.length_set]; omega)]
    constructor
    · rintro ⟨k, hk, he⟩
      rcases Nat.eq_zero_or_pos ((sent.set p true).count false) with h0 | h0
      · rw [hget, count0.1 h0 k (by omega), if_pos rfl] at he
        exact absurd he (piece_ne hk)
      · exact h0
    · intro h0
      by_cases hh : ∃ k, k < nP d ∧ ((view t 1 (nP d : Int)).pieces.set p (pieceP d p)).getD k [] = []
      · exact hh
      · have : (sent.set p true).count false = 0 := count0.2 fun k hk => by
          by_cases hb : (sent.set p true).getD k false = true
          · exact hb
          · exact absurd ⟨k, by omega, by rw [hget, if_neg hb]⟩ hh
        omega
  have hok := putP_ok h.ht (v := 1) (i := (p : Int)) (n := (nP d : Int)) (b := pieceP d p) hpb.2
  have hdone : ∀ k, k + len0 < i + 1 → k < nP d → (sent.set p true).getD k false = true := fun k hk hkn => by
    rw [sent_set (by omega)]
    by_cases hkp : k = p
    · rw [if_pos hkp]
    · rw [if_neg hkp]
      exact h.done k (by rcases Nat.lt_or_ge (k + len0) i with h | h; exact h; exact absurd (hpi k (by omega) hkn).symm hkp) hkn
  rw [hin] at hok
  by_cases hm : missing ((view t 1 (nP d : Int)).pieces.set p (pieceP d p)) (nP d : Int) = true
  · have h0 := hmiss.1 hm
    unfold afterP at hok; rw [if_pos hm] at hok
    refine ⟨_, _, by rw [hin]; unfold afterP; rw [if_pos hm], fun _ => rfl, fun h => by omega, hl', rfl, hok, nd_tset h.nd, fun _ => ?_, fun h => by omega, ?_, hdone⟩
    · rw [view_tset]; exact ⟨rfl, hget⟩
    · rw [view_tset_ne _ _ _ (by decide : (2 : Int) ≠ 1)]; exact h.w2
  · have h0 : (sent.set p true).count false = 0 := by
      rcases Nat.eq_zero_or_pos ((sent.set p true).count false) with h0 | h0
      · exact h0
      · exact absurd (hmiss.2 h0) hm
    unfold afterP at hok; rw [if_neg hm] at hok
    refine ⟨_, _, by rw [hin]; unfold afterP; rw [if_neg hm], fun h => by omega, fun _ => ?_, hl', rfl, hok, nd_tdel h.nd, fun h => by omega, fun _ => thas_tdel h.nd, ?_, hdone⟩
    · unfold outP
      rw [if_neg hm]
      show (((view t 1 (nP d : Int)).pieces.set p (pieceP d p)).take (nP d : Int).toNat).flatten = d
      rw [Int.toNat_natCast]
      have : ((view t 1 (nP d : Int)).pieces.set p (pieceP d p)).take (nP d) = cutP d := by
        refine List.ext_getElem (by rw [List.length_take, List.length_set, cut_len]; omega) fun k h1 h2 => ?_
        rw [cut_len] at h2
        have e1 := hget k
        rw [count0.1 h0 k (by omega), if_pos rfl, List.getD_eq_getElem?_getD, List.getElem?_eq_getElem (by rw [List.length_set]; omega)] at e1
        have e2 := cut_get h2
        rw [List.getD_eq_getElem?_getD, List.getElem?_eq_getElem (by rw [cut_len]; exact h2)] at e2
        rw [List.getElem_take]
        exact e1.trans e2.symm
      rw [this, cut_flat]
    · rw [view_tdel_ne _ _ (by decide : (2 : Int) ≠ 1)]; exact h.w2
theorem fin_v (hd1 : 1 ≤ d.length) (hdb : byteOk d = true) (ht : TblOk t) (h1 : thas t 1 = false) (n : Nat) : law20ChunkWhole_J10 (n + 1) d false t = some true := by
  have e1 : List.take 1 (List.drop 0 d) = d.take 1 := by rw [List.drop_zero]
  have hl : (d.take 1).length = 1 := by rw [List.length_take]; omega
  have hb : byteOk (d.take 1) = true := byteOk_sub hdb fun x hx => List.mem_of_mem_take hx
  have hr : rightP 1 ((0 : Nat) : Int) 1 (d.take 1) = true := by rw [rightP_iff]; omega
  have hview : view t 1 1 = ⟨List.replicate 40 [], 1⟩ := by unfold view; rw [h1]; rfl
  have hin := put_in (t := t) (v := 1) (n := 1) (i := 0) (b := d.take 1) hr (by rw [hview]) (by rw [hview]; exact .inl rfl)
  rw [hview] at hin
  have hm : missing ((List.replicate 40 ([] : List Int)).set 0 (d.take 1)) ((1 : Nat) : Int) = false := by
    rw [Bool.eq_false_iff, Ne, miss_iff (by rw [List.length_set, List.length_replicate]; omega)]
    rintro ⟨k, hk, he⟩
    rw [getD_set _ _ _ _ (by rw [List.length_replicate]; omega), if_pos (by omega)] at he
    rw [he] at hl; simp at hl
  have hm' : missing ((List.replicate 40 ([] : List Int)).set 0 (d.take 1)) 1 = false := hm
  have ho : putP t 1 0 1 (d.take 1) = (tdel t 1, d.take 1, 0) := by
    have : putP t 1 0 1 (d.take 1) = afterP t 1 ⟨(List.replicate 40 []).set 0 (d.take 1), 1⟩ := hin
    rw [this]
    unfold afterP outP
    rw [hm']
    simp only [Bool.false_eq_true, if_false]
    congr 1; congr 1
    show (d.take 1 ++ []) = _
    rw [List.append_nil]
  rw [law20ChunkWhole_J10_eq, forkB_false, if_pos (by omega), e1, put_v ht hb, obind_of, ho]
  dsimp only
  rw [if_pos (by omega), sameBytes _ (by omega)]
  rfl
end
end Go.Y

/- The law ChunkWhole: its loops. -/
namespace Go.Y
open Go.RowKit Go.V Go.X
def r2P (d ord : List Int) : List Int := ord ++ (List.range' 0 (nP d)).map (fun k : Nat => (k : Int))
theorem r2_len (d ord : List Int) : (r2P d ord).length = ord.length + nP d := by unfold r2P; simp
theorem r2_get {d ord : List Int} {k : Nat} (h : k < nP d) : (r2P d ord).getD (k + ord.length) 0 = (k : Int) := by
  unfold r2P
  rw [List.getD_eq_getElem?_getD, List.getElem?_append_right (by omega), Nat.add_sub_cancel, List.getElem?_map, List.getElem?_range' h]
  simp
section
variable {d o ord : List Int} {len0 i left : Nat} {sent : List Bool} {t : Tbl}
theorem J68_v (hd1 : 1 ≤ d.length) (hd2 : d.length ≤ 40960) (hdb : byteOk d = true) (h : Inv d o len0 i left sent t) (hpos : 0 < left) {p : Nat} (hp : p < nP d) (hpi : ∀ k, k + len0 = i → k < nP d → p = k) (hi : i < 1000000) (r2 : List Int) :
    ∃ t', Inv d o len0 (i + 1) ((sent.set p true).count false) (sent.set p true) t' ∧ ∀ n, law20ChunkWhole_J6 (n + 3) d (left : Int) (i : Int) (p : Int) (cutP d) (cutP o) r2 sent t = law20ChunkWhole_L4 n d (((sent.set p true).count false : Nat) : Int) ((i + 1 : Nat) : Int) (cutP d) (cutP o) r2 (sent.set p true) t' := by
  have hs := h.hs
  have hcl : left ≤ nP d := by rw [h.hl, ← hs]; exact List.count_le_length
  have hn := nP_rng hd1 hd2
  obtain ⟨t', out, hput, ho1, ho2, hI⟩ := put1_step hd1 hd2 hdb h hpos hp hpi
  refine ⟨t', hI, fun n => ?_⟩
  obtain ⟨cnt, hc⟩ : ∃ cnt, (sent.set p true).count false = cnt := ⟨_, rfl⟩
  rw [hc] at ho1 ho2 hI ⊢
  have hJ9 : law20ChunkWhole_J9 (n + 1) d (cnt : Int) (i : Int) false (cutP d) (cutP o) r2 (sent.set p true) t' = law20ChunkWhole_L4 n d (cnt : Int) ((i + 1 : Nat) : Int) (cutP d) (cutP o) r2 (sent.set p true) t' := by
    rw [law20ChunkWhole_J9_eq, forkB_false, wrap64 (by omega)]; rfl
  have hJ8 : law20ChunkWhole_J8 (n + 2) d (cnt : Int) (i : Int) (p : Int) (cutP d) (cutP o) r2 (sent.set p true) t = law20ChunkWhole_L4 n d (cnt : Int) ((i + 1 : Nat) : Int) (cutP d) (cutP o) r2 (sent.set p true) t' := by
    rw [law20ChunkWhole_J8_eq, if_pos (by rw [cut_len]; omega), cut_len, Int.toNat_natCast, cut_get hp, put_v h.ht (piece_byte hdb p), obind_of, hput]
    dsimp only
    rw [show ((0 : Int) != 0) = false from rfl, forkB_false]
    rcases Nat.eq_zero_or_pos cnt with h0 | h0
    · subst h0
      rw [show decide (((0 : Nat) : Int) > 0) = false from rfl, forkB_false, show (((0 : Nat) : Int) == 0) = true from rfl, forkB_true, ho2 rfl, sameBytes d (by omega), obind_of, Bool.not_true, hJ9]
    · have e1 : ((cnt : Int) == 0) = false := by rw [beq_eq_false_iff_ne]; omega
      rw [decide_eq_true (by omega : (cnt : Int) > 0), forkB_true, ho1 h0, e1]
      exact hJ9
  rw [law20ChunkWhole_J6_eq, if_pos (by omega), Int.toNat_natCast]
  cases hb : sent.getD p false with
  | true =>
    have hge : sent[p]'(by omega) = true := by rw [List.getD_eq_getElem?_getD, List.getElem?_eq_getElem (by omega)] at hb; exact hb
    have hset : sent.set p true = sent := by conv => lhs; rw [← hge]
                                             exact List.set_getElem_self _
    rw [hset] at hc hJ8 ⊢
    have : left = cnt := h.hl.trans hc
    subst this
    rw [Bool.not_true, forkB_false]
    exact hJ8
  | false =>
    have hge : sent[p]'(by omega) = false := by rw [List.getD_eq_getElem?_getD, List.getElem?_eq_getElem (by omega)] at hb; exact hb
    have hcs := List.count_set (a := true) (b := false) (l := sent) (i := p) (by omega)
    rw [hc, ← h.hl, hge] at hcs
    have hcn : cnt = left - 1 := by simpa using hcs
    have e2 : IntKind.i64.wrap ((left : Int) - 1) = (cnt : Int) := by rw [wrap64 (by omega)]; omega
    rw [Bool.not_false, forkB_true, if_pos (by omega), e2]
    exact hJ8
theorem end_v (hd1 : 1 ≤ d.length) (hdb : byteOk d = true) (h : Inv d o len0 i 0 sent t) (n : Nat) (s16 : Int) (r2 : List Int) (c c2 : List (List Int)) : law20ChunkWhole_J5 (n + 2) d ((0 : Nat) : Int) s16 false c c2 r2 sent t = some true := by
  rw [law20ChunkWhole_J5_eq, forkB_false, show (((0 : Nat) : Int) != 0) = false from rfl, forkB_false, drop_no (h.e1 rfl), obind_of]
  exact fin_v hd1 hdb h.ht (h.e1 rfl) n
theorem loop4 (hd1 : 1 ≤ d.length) (hd2 : d.length ≤ 40960) (hdb : byteOk d = true) (ho1 : 1 ≤ o.length) (ho2 : o.length ≤ 40960) (hob : byteOk o = true) (hord : ord.length ≤ 100) :
    ∀ (m i n left : Nat) (sent : List Bool) (t : Tbl), i + m = (r2P d ord).length → 6 * m + 10 ≤ n → Inv d o ord.length i left sent t → law20ChunkWhole_L4 n d (left : Int) (i : Int) (cutP d) (cutP o) (r2P d ord) sent t = some true
  | 0, i, n, left, sent, t, hk, hn, h => by
    obtain ⟨n', rfl⟩ := up (c := 3) (n := n) (by omega)
    have hs := h.hs
    rw [r2_len] at hk
    have h0 : left = 0 := by rw [h.hl]; exact count0.2 fun k hk' => h.done k (by omega) (by omega)
    subst h0
    rw [law20ChunkWhole_L4_eq, decide_eq_false (by rw [r2_len]; omega), forkB_false]
    exact end_v hd1 hdb h _ _ _ _ _
  | m + 1, i, n, left, sent, t, hk, hn, h => by
    obtain ⟨n', rfl⟩ := up (c := 6) (n := n) (by omega)
    have hnd := nP_rng hd1 hd2
    have hno := nP_rng ho1 ho2
    have hlt : i < (r2P d ord).length := by omega
    rw [r2_len] at hk
    rw [law20ChunkWhole_L4_eq, decide_eq_true (by omega), forkB_true]
    rcases Nat.eq_zero_or_pos left with h0 | hpos
    · subst h0
      rw [show decide (((0 : Nat) : Int) > 0) = false from rfl]
      exact end_v hd1 hdb h _ _ _ _ _
    rw [decide_eq_true (by omega : (left : Int) > 0), law20ChunkWhole_J5_eq, forkB_true, if_pos (by omega), cut_len, cut_len, Int.toNat_natCast]
    obtain ⟨p, hp, hpk, hpx⟩ := pick_v ((r2P d ord).getD i 0) (nP d) hnd.1 (by omega)
    have hpi : ∀ k, k + ord.length = i → k < nP d → p = k := fun k h1 h2 => hpx k (by subst h1; exact r2_get h2) h2
    rw [hpk, obind_of]
    obtain ⟨t1, hI1, hJ6⟩ := J68_v hd1 hd2 hdb h hpos hp hpi (by omega) (r2P d ord)
    have step : law20ChunkWhole_J6 (n' + 1 + 3) d (left : Int) (i : Int) (p : Int) (cutP d) (cutP o) (r2P d ord) sent t = some true := by
      rw [hJ6 (n' + 1)]
      exact loop4 hd1 hd2 hdb ho1 ho2 hob hord m (i + 1) (n' + 1) _ _ _ (by rw [r2_len]; omega) (by omega) hI1
    cases hodd : ((i : Int).tmod 2 == 1) with
    | false => rw [forkB_false]; exact step
    | true =>
      rw [forkB_true, if_pos (by omega)]
      obtain ⟨q, hq, hqk, _⟩ := pick_v ((r2P d ord).getD i 0) (nP o) hno.1 (by omega)
      rw [hqk, obind_of, wrap64 (by omega)]
      by_cases hqM : q + 1 < nP o
      · obtain ⟨t2, hput2, hI2⟩ := put2_step ho1 ho2 hob h hqM
        rw [decide_eq_true (by omega), forkB_true, if_pos (by omega), Int.toNat_natCast, cut_get hq, put_v h.ht (piece_byte hob q), obind_of, hput2]
        dsimp only
        rw [show ((0 : Int) != 0) = false from rfl, forkB_false]
        show law20ChunkWhole_J7 (n' + 4) d (left : Int) (i : Int) (p : Int) false (cutP d) (cutP o) (r2P d ord) sent t2 = some true
        rw [law20ChunkWhole_J7_eq, forkB_false]
        obtain ⟨t3, hI3, hJ63⟩ := J68_v hd1 hd2 hdb hI2 hpos hp hpi (by omega) (r2P d ord)
        rw [hJ63 n']
        exact loop4 hd1 hd2 hdb ho1 ho2 hob hord m (i + 1) n' _ _ _ (by rw [r2_len]; omega) (by omega) hI3
      · rw [decide_eq_false (by omega), forkB_false]; exact step
theorem loop1 (c c2 : List (List Int)) (hc : ∀ p ∈ c, p.length ≤ 1024) (hl : c.length ≤ 40) : ∀ (m k n : Nat) (acc : List Int), k + m = c.length → acc.length ≤ 1024 * k →
    law20ChunkWhole_L1 (n + (m + 1)) d ord (k : Int) c c2 acc = law20ChunkWhole_L1 (n + 1) d ord (c.length : Int) c c2 (acc ++ (c.drop k).flatten)
  | 0, k, n, acc, hk, ha => by
    have : k = c.length := by omega
    subst this
    rw [List.drop_length, List.flatten_nil, List.append_nil]
  | m + 1, k, n, acc, hk, ha => by
    have hkl : k < c.length := by omega
    have hg : c.getD k [] = c[k] := by rw [List.getD_eq_getElem?_getD, List.getElem?_eq_getElem hkl]; rfl
    have hlen := hc _ (List.getElem_mem hkl)
    rw [show n + (m + 1 + 1) = n + (m + 1) + 1 from rfl, law20ChunkWhole_L1_eq, decide_eq_true (by omega), forkB_true, if_pos (by omega), Int.toNat_natCast, hg, if_pos (by omega), wrap64 (by omega)]
    have := loop1 c c2 hc hl m (k + 1) n (acc ++ c[k]) (by omega) (by rw [List.length_append]; omega)
    rw [List.drop_eq_getElem_cons hkl, List.flatten_cons, ← List.append_assoc]
    exact this
theorem loop3 (c c2 : List (List Int)) (hl : c.length ≤ 40) : ∀ (m k n : Nat) (acc : List Int), k + m = c.length → acc.length ≤ 100 + k →
    law20ChunkWhole_L3 (n + (m + 1)) d (k : Int) c c2 acc = law20ChunkWhole_L3 (n + 1) d (c.length : Int) c c2 (acc ++ (List.range' k m).map (fun k : Nat => (k : Int)))
  | 0, k, n, acc, hk, ha => by
    have : k = c.length := by omega
    subst this
    simp
  | m + 1, k, n, acc, hk, ha => by
    rw [show n + (m + 1 + 1) = n + (m + 1) + 1 from rfl, law20ChunkWhole_L3_eq, decide_eq_true (by omega), forkB_true, if_pos (by omega), wrap64 (by omega)]
    have := loop3 c c2 hl m (k + 1) n (acc ++ [(k : Int)]) (by omega) (by rw [List.length_append]; simp; omega)
    rw [List.range'_succ, List.map_cons]
    rw [List.append_assoc] at this
    exact this
theorem start_inv (hd1 : 1 ≤ d.length) (hd2 : d.length ≤ 40960) (ho1 : 1 ≤ o.length) (ho2 : o.length ≤ 40960) : Inv d o ord.length 0 (nP d) (List.replicate (nP d) false) [] := by
  have hn := nP_rng hd1 hd2
  have hr : ∀ k, (List.replicate 40 ([] : List Int)).getD k [] = [] := fun k => by rw [List.getD_eq_getElem?_getD, List.getElem?_replicate]; split <;> rfl
  refine ⟨List.length_replicate, ?_, fun x hx => (by cases hx), List.nodup_nil, fun _ => ⟨rfl, fun k => ?_⟩, fun h => by omega, ⟨rfl, fun k => .inl (hr k)⟩, fun k hk => by omega⟩
  · rw [List.count_replicate]; simp
  · have : (List.replicate (nP d) false).getD k false = false := by rw [List.getD_eq_getElem?_getD, List.getElem?_replicate]; split <;> rfl
    rw [this]; exact hr k
end
theorem chunkWhole_true (d o ord : List Int) (hdb : byteOk d = true) (hob : byteOk o = true) : law20ChunkWhole BIG d o ord = some true := by
  obtain ⟨N, eN⟩ : ∃ N : Nat, (BIG : Nat) = N + 100000 := ⟨999900000, rfl⟩
  have hJ0 : ∀ n, law20ChunkWhole_J0 (n + 1) d o ord true = some true := fun n => by rw [law20ChunkWhole_J0_eq, forkB_true]
  have eB : law20ChunkWhole BIG d o ord = law20ChunkWhole (N + 99999 + 1) d o ord := by rw [eN]
  rw [eB, law20ChunkWhole_eq, awake_true, obind_of, Bool.not_true, forkB_false, hJ0]
  rw [forkB_if]; split
  · rfl
  rename_i c1
  rw [forkB_if]; split
  · rfl
  rename_i c2
  rw [forkB_if]; split
  · rfl
  rename_i c3
  rw [forkB_if]; split
  · rfl
  rename_i c4
  by_cases c5 : (ord.length : Int) > 100
  · rw [decide_eq_true c5, hJ0]
  rw [decide_eq_false c5]
  simp only [decide_eq_true_eq, beq_iff_eq] at c1 c2 c3 c4
  have hd1 : 1 ≤ d.length := by omega
  have hd2 : d.length ≤ 40960 := by omega
  have ho1 : 1 ≤ o.length := by omega
  have ho2 : o.length ≤ 40960 := by omega
  have hord : ord.length ≤ 100 := by omega
  have hn := nP_rng hd1 hd2
  rw [law20ChunkWhole_J0_eq, forkB_false, cut_v d hd2, obind_of, cut_v o ho2, obind_of]
  dsimp only
  have hpl : ∀ p ∈ cutP d, p.length ≤ 1024 := fun p hp => by
    unfold cutP at hp
    obtain ⟨k, _, rfl⟩ := List.mem_map.1 hp
    exact piece_len d k
  have hcl : (cutP d).length ≤ 40 := by rw [cut_len]; omega
  have s1 := loop1 (d := d) (ord := ord) (cutP d) (cutP o) hpl hcl (cutP d).length 0 (N + 99999 - ((cutP d).length + 1)) [] (by omega) (by simp)
  rw [show N + 99999 - ((cutP d).length + 1) + ((cutP d).length + 1) = N + 99999 by omega] at s1
  refine Eq.trans s1 ?_
  obtain ⟨n2, e2⟩ : ∃ n2, N + 99999 - ((cutP d).length + 1) = n2 + 1 := ⟨N + 99999 - ((cutP d).length + 1) - 1, by omega⟩
  rw [e2, law20ChunkWhole_L1_eq, decide_eq_false (by omega), forkB_false, List.drop_zero, List.nil_append, cut_flat, sameBytes d (by omega), obind_of, Bool.not_true, forkB_false]
  have hq : (((cutP d).length : Int) != (IntKind.i64.wrap ((IntKind.i64.wrap (((d.length : Nat) : Int) + (1023 : Int))).tdiv (1024 : Int)))) = false := by
    have w1 : IntKind.i64.wrap (((d.length : Nat) : Int) + (1023 : Int)) = ((d.length : Nat) : Int) + 1023 := wrap64 (by omega)
    rw [w1, Int.tdiv_eq_ediv_of_nonneg (by omega), wrap64 (by omega), cut_len]
    unfold nP
    rw [bne_eq_false_iff_eq]
    omega
  rw [hq, law20ChunkWhole_J2_eq, forkB_false, if_pos (by omega), List.nil_append]
  have s3 := loop3 (d := d) (cutP d) (cutP o) hcl (cutP d).length 0 (n2 - ((cutP d).length + 1)) ord (by omega) (by omega)
  rw [show n2 - ((cutP d).length + 1) + ((cutP d).length + 1) = n2 by omega] at s3
  refine Eq.trans s3 ?_
  obtain ⟨n3, e3⟩ : ∃ n3, n2 - ((cutP d).length + 1) = n3 := ⟨_, rfl⟩
  rw [e3, law20ChunkWhole_L3_eq, decide_eq_false (by omega), forkB_false, chunkNew_g1_eq, obind_of, if_pos (by omega)]
  dsimp only
  rw [Int.toNat_natCast]
  have s4 := loop4 hd1 hd2 hdb ho1 ho2 hob hord (r2P d ord).length 0 n3 (nP d) (List.replicate (nP d) false) [] (by omega) (by rw [r2_len]; omega) (start_inv hd1 hd2 ho1 ho2)
  have er : ord ++ List.map (fun k : Nat => (k : Int)) (List.range' 0 (cutP d).length) = r2P d ord := by unfold r2P; rw [cut_len]
  rw [er, cut_len]
  exact s4
theorem goodBytes {b : List Int} (h : Go.X.Good TT (.list (.int .u8)) b) : byteOk b = true := by
  unfold byteOk
  rw [List.all_eq_true]
  intro x hx
  have : IntKind.has .u8 x := Go.X.Good.int (T := TT) (k := .u8) ((Go.X.Good.list (T := TT) (e := .int .u8) h).2 x hx)
  unfold IntKind.has at this
  simp [IntKind.min, IntKind.max, IntKind.signed, IntKind.bits] at this
  simp; omega
end Go.Y
