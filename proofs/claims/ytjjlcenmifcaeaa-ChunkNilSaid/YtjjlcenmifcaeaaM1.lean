/- Texts put together. -/
import Derived.Test.YtjjlcenmifcaeaaXO
import Derived.Test.YtjjlcenmifcaeaaM2
/- Rules for plain laws: tests, wraps, loops. Nothing here is about one program. -/
namespace Go.Y
open Go.RowKit Go.V Go.X

theorem forkB_if {R : Type} (c : Bool) (x y : Option R) : forkB c x y = if c = true then x else y := rfl
theorem forkB_true {R : Type} (x y : Option R) : forkB true x y = x := rfl
theorem forkB_false {R : Type} (x y : Option R) : forkB false x y = y := rfl
theorem obind_of {α β : Type} (a : α) (f : α → Option β) : obind (some a) f = f a := rfl
theorem forkB_or (c x : Bool) : forkB c (some true) (some x) = some (c || x) := by cases c <;> rfl
theorem wrap64 {x : Int} (h : -9223372036854775808 ≤ x ∧ x ≤ 9223372036854775807) : IntKind.i64.wrap x = x := by
  unfold IntKind.wrap; simp [IntKind.bits, IntKind.signed]; omega
end Go.Y

/- One upload, and one chunk of it. -/
namespace Go.Y
open Go.RowKit Go.V Go.X
abbrev Tbl := List (Int × Upload)
/-! ### Bytes -/
theorem toList_loop (a : ByteArray) : ∀ m i r, a.size - i = m → ByteArray.toList.loop a i r = r.reverse ++ a.data.toList.drop i
  | 0, i, r, h => by
    rw [ByteArray.toList.loop.eq_1, if_neg (by omega), List.drop_eq_nil_of_le (by show a.data.toList.length ≤ i; rw [Array.length_toList]; exact Nat.sub_eq_zero_iff_le.1 h), List.append_nil]
  | m + 1, i, r, h => by
    have hi : i < a.data.size := by show i < a.size; omega
    rw [ByteArray.toList.loop.eq_1, if_pos (by show i < a.size; omega), toList_loop a m (i + 1) _ (by omega), List.reverse_cons, List.append_assoc]
    congr 1
    rw [List.drop_eq_getElem_cons (by rw [Array.length_toList]; exact hi : i < a.data.toList.length)]
    show [a.get! i] ++ _ = _
    rw [List.singleton_append]
    congr 1
    show a.data[i]! = _
    rw [getElem!_pos a.data i hi, Array.getElem_toList]
theorem toList_data (a : ByteArray) : a.toList = a.data.toList := by
  unfold ByteArray.toList
  rw [toList_loop a _ 0 [] rfl]; rfl
theorem bytesStr_data : ∀ (l : List Int) (a : ByteArray), (l.foldl (fun r n => r.push (UInt8.ofNat n.toNat)) a).data.toList = a.data.toList ++ u8s l
  | [], a => by simp [u8s]
  | x :: l, a => by
    rw [List.foldl_cons, bytesStr_data l]
    show (a.data.push _).toList ++ _ = _
    rw [Array.toList_push, List.append_assoc]; rfl
theorem bytesStr_toList (l : List Int) : ByteArray.toList (bytesStr l) = u8s l := by
  rw [toList_data]; unfold bytesStr; rw [bytesStr_data]; rfl
theorem u8s_inj : ∀ {a b : List Int}, byteOk a = true → byteOk b = true → u8s a = u8s b → a = b
  | [], [], _, _, _ => rfl
  | [], _ :: _, _, _, h => by cases h
  | _ :: _, [], _, _, h => by cases h
  | x :: a, y :: b, ha, hb, h => by
    unfold byteOk at ha hb
    rw [List.all_cons, Bool.and_eq_true] at ha hb
    have h1 : UInt8.ofNat x.toNat = UInt8.ofNat y.toNat := (List.cons.inj h).1
    have h2 : u8s a = u8s b := (List.cons.inj h).2
    have hx : 0 ≤ x ∧ x ≤ 255 := by simpa using ha.1
    have hy : 0 ≤ y ∧ y ≤ 255 := by simpa using hb.1
    have := u8_int hx; rw [h1, u8_int hy] at this
    rw [this, u8s_inj ha.2 hb.2 h2]
theorem equal_v {a b : List Int} (ha : byteOk a = true) (hb : byteOk b = true) : bytesEqual BIG a b = some (decide (a = b)) := by
  rw [bytesEqual_eq, bytesStr_toList, bytesStr_toList]
  congr 1
  rw [Bool.eq_iff_iff, beq_iff_eq, decide_eq_true_iff]
  exact ⟨u8s_inj ha hb, fun h => by rw [h]⟩
theorem clone_v {b : List Int} (h : b ≠ []) (hl : b.length ≤ 1024) : bytesClone BIG b = some b := by
  rw [bytesClone_eq]
  cases b with
  | nil => exact absurd rfl h
  | cons x b =>
    show (if (0 + (x :: b).length) * 1 ≤ 140737488355328 then some ([] ++ x :: b) else none) = _
    rw [if_pos (by omega)]; rfl
/-! ### The table -/
def get0 (m : Tbl) (v : Int) : Upload := tget TT (.user 0) m v
theorem get0_cons (y : Int) (b : Upload) (r : Tbl) (v : Int) : get0 ((y, b) :: r) v = if v = y then b else get0 r v := rfl
theorem thas_cons {α : Type} (y : Int) (b : α) (r : List (Int × α)) (v : Int) : thas ((y, b) :: r) v = if v = y then true else thas r v := rfl
theorem tset_cons {α : Type} (y : Int) (b : α) (r : List (Int × α)) (v : Int) (a : α) : tset ((y, b) :: r) v a = if v = y then (v, a) :: r else (y, b) :: tset r v a := rfl
theorem tset_get : ∀ {m : Tbl} {v : Int}, thas m v = true → tset m v (get0 m v) = m
  | [], v, h => by cases h
  | (y, b) :: r, v, h => by
    rw [tset_cons, get0_cons]
    rw [thas_cons] at h
    by_cases e : v = y
    · subst e; rw [if_pos rfl, if_pos rfl]
    · rw [if_neg e] at h
      rw [if_neg e, if_neg e, tset_get h]
theorem tset_tset {α : Type} : ∀ (m : List (Int × α)) (v : Int) (a b : α), tset (tset m v a) v b = tset m v b
  | [], v, a, b => by simp [tset]
  | (y, c) :: r, v, a, b => by
    by_cases e : v = y
    · simp [tset, e]
    · simp [tset, e, tset_tset r]
theorem tdel_tset {α : Type} : ∀ (m : List (Int × α)) (v : Int) (a : α), tdel (tset m v a) v = tdel m v
  | [], v, a => by simp [tset, tdel]
  | (y, c) :: r, v, a => by
    by_cases e : v = y
    · simp [tset, tdel, e]
    · simp [tset, tdel, e, tdel_tset r]
theorem tget_mem : ∀ {m : Tbl} {v : Int}, thas m v = true → (v, get0 m v) ∈ m
  | [], v, h => by cases h
  | (y, b) :: r, v, h => by
    rw [get0_cons]
    by_cases e : v = y
    · subst e; rw [if_pos rfl]; exact List.mem_cons_self
    · have h : thas r v = true := by unfold thas at h; rwa [if_neg e] at h
      rw [if_neg e]
      exact List.mem_cons_of_mem _ (tget_mem h)
theorem tset_mem {α : Type} : ∀ {m : List (Int × α)} {v : Int} {a : α} {x : Int × α}, x ∈ tset m v a → x = (v, a) ∨ x ∈ m
  | [], v, a, x, h => by simp [tset] at h; exact .inl h
  | (y, c) :: r, v, a, x, h => by
    unfold tset at h
    split at h
    · rcases List.mem_cons.1 h with h | h
      · exact .inl h
      · exact .inr (List.mem_cons_of_mem _ h)
    · rcases List.mem_cons.1 h with h | h
      · exact .inr (h ▸ List.mem_cons_self)
      · rcases tset_mem h with h | h
        · exact .inl h
        · exact .inr (List.mem_cons_of_mem _ h)
theorem tdel_mem {α : Type} : ∀ {m : List (Int × α)} {v : Int} {x : Int × α}, x ∈ tdel m v → x ∈ m
  | [], v, x, h => h
  | (y, c) :: r, v, x, h => by
    unfold tdel at h
    split at h
    · exact List.mem_cons_of_mem _ h
    · rcases List.mem_cons.1 h with h | h
      · exact h ▸ List.mem_cons_self
      · exact List.mem_cons_of_mem _ (tdel_mem h)
/-! ### What may be asked, and what is kept -/
def rightP (v i n : Int) (b : List Int) : Bool := decide (1 ≤ v ∧ v ≤ 1073741824 ∧ 1 ≤ n ∧ n ≤ 40 ∧ 0 ≤ i ∧ i < n ∧ 1 ≤ b.length ∧ b.length ≤ 1024 ∧ (b.length = 1024 ∨ i = n - 1))
theorem right_v (v i n : Int) (b : List Int) : chunk_right BIG v i n b = some (rightP v i n b) := by
  have e : (BIG : Nat) = 999999999 + 1 := rfl
  have e2 : (BIG : Nat) = 999999998 + 1 + 1 := rfl
  have hJ1 : ∀ n i k c, chunk_right_J1 (n + 1) i k c true = some false := fun n i k c => by rw [chunk_right_J1_eq]; rfl
  have hJ0 : ∀ n i k c, chunk_right_J0 (n + 1) i k c true = some false := fun n i k c => by rw [chunk_right_J0_eq]; rfl
  rw [chunk_right_eq, e2, hJ0]
  by_cases h1 : 1 ≤ v ∧ v ≤ 1073741824 ∧ 1 ≤ n ∧ n ≤ 40
  · rw [decide_eq_false (by omega), forkB_false, decide_eq_false (by omega), forkB_false, decide_eq_false (by omega), forkB_false, decide_eq_false (by omega), chunk_right_J0_eq, forkB_false, hJ1]
    by_cases h2 : 0 ≤ i ∧ i < n ∧ 1 ≤ b.length ∧ b.length ≤ 1024
    · rw [decide_eq_false (by omega), forkB_false, decide_eq_false (by omega), forkB_false, decide_eq_false (by omega), forkB_false, decide_eq_false (by omega), chunk_right_J1_eq, forkB_false, forkB_or, wrap64 (by omega)]
      congr 1
      unfold rightP
      rw [Bool.eq_iff_iff, Bool.or_eq_true, beq_iff_eq, beq_iff_eq, decide_eq_true_iff]
      omega
    · have : rightP v i n b = false := by unfold rightP; rw [decide_eq_false_iff_not]; omega
      rw [this, forkB_if]
      split
      · rfl
      rw [forkB_if]
      split
      · rfl
      rw [forkB_if]
      split
      · rfl
      rename_i a1 a2 a3
      simp only [decide_eq_true_eq] at a1 a2 a3
      rw [decide_eq_true (by omega), hJ1]
  · have : rightP v i n b = false := by unfold rightP; rw [decide_eq_false_iff_not]; omega
    rw [this, forkB_if]
    split
    · rfl
    rw [forkB_if]
    split
    · rfl
    rw [forkB_if]
    split
    · rfl
    rename_i a1 a2 a3
    simp only [decide_eq_true_eq] at a1 a2 a3
    rw [decide_eq_true (by omega), hJ0]
def PieceOk (p : List Int) : Prop := p.length ≤ 1024 ∧ byteOk p = true
structure UpOk (u : Upload) : Prop where
  len : u.pieces.length = 40
  whole : 1 ≤ u.whole ∧ u.whole ≤ 40
  ok : ∀ p ∈ u.pieces, PieceOk p
def TblOk (m : Tbl) : Prop := ∀ x ∈ m, UpOk x.2
theorem pieceNil : PieceOk [] := ⟨Nat.zero_le _, rfl⟩
theorem newUp {n : Int} (h : 1 ≤ n ∧ n ≤ 40) : UpOk ⟨List.replicate 40 [], n⟩ := ⟨rfl, h, fun p hp => by rw [List.eq_of_mem_replicate hp]; exact pieceNil⟩
theorem UpOk.set {u : Upload} (h : UpOk u) {b : List Int} (hb : PieceOk b) (i : Nat) : UpOk ⟨u.pieces.set i b, u.whole⟩ :=
  ⟨by show (u.pieces.set i b).length = 40; rw [List.length_set, h.len], h.whole, fun p hp => by
    rcases List.mem_or_eq_of_mem_set hp with hp | hp
    · exact h.ok p hp
    · exact hp ▸ hb⟩
theorem fix_up {u : Upload} (h : UpOk u) : fixL 40 ([] : List Int) u.pieces = u.pieces := fixL_eq h.len
theorem sumLen : ∀ (l : List (List Int)), (∀ p ∈ l, p.length ≤ 1024) → l.flatten.length ≤ 1024 * l.length
  | [], _ => Nat.zero_le _
  | p :: l, h => by
    rw [List.flatten_cons, List.length_append, List.length_cons]
    have := sumLen l fun p hp => h p (List.mem_cons_of_mem _ hp)
    have := h p List.mem_cons_self
    omega
/-- what was missing is there: all the bytes; else nothing yet. -/
def outP (u : Upload) : List Int := if missing u.pieces u.whole = true then [] else (u.pieces.take u.whole.toNat).flatten
theorem miss_v {ps : List (List Int)} {n : Int} : chunk_upload_missing_g1 BIG ps n = some (((ps, n, ()), ()), (((), (((), ()), ())), ())) := chunk_upload_missing_g1_eq BIG ps n
theorem done1_v {u : Upload} (h : UpOk u) (hm : missing u.pieces u.whole = true) : chunk_upload_done_g1a1 u.pieces u.whole = some (((u.pieces, u.whole, ()), ()), ((), ())) := by
  have := h.whole
  rw [chunk_upload_done_g1a1_eq, miss_v, obind_of]
  dsimp only
  rw [if_pos (by unfold missOk; simp; omega), hm]; rfl
theorem done2_v {u : Upload} (h : UpOk u) (hm : missing u.pieces u.whole = false) : chunk_upload_done_g1a2 u.pieces u.whole = some (((u.pieces, u.whole, ()), ()), (outP u, ())) := by
  have hw := h.whole
  rw [chunk_upload_done_g1a2_eq, miss_v, obind_of]
  dsimp only
  rw [if_pos (by unfold missOk; simp; omega), hm, forkB_false, if_pos (by omega)]
  have e : joinG u.pieces u.whole 0 (u.whole.toNat - 0) = some (((u.pieces, u.whole, ()), ()), ((u.pieces.take u.whole.toNat).flatten, ())) := by
    unfold joinG
    have hj : joinOk ((u.pieces.drop 0).take (u.whole.toNat - 0)) = true := by
      rw [List.drop_zero, Nat.sub_zero]
      unfold joinOk
      have hl : (u.pieces.take u.whole.toNat).length = u.whole.toNat := by rw [List.length_take, h.len]; omega
      have hin : ∀ p ∈ u.pieces.take u.whole.toNat, p ∈ u.pieces := fun p hp => List.mem_of_mem_take hp
      have := sumLen _ fun p hp => (h.ok p (hin p hp)).1
      rw [Bool.and_eq_true, Bool.and_eq_true]
      refine ⟨?_, ?_, ?_⟩
      · cases hq : u.pieces.take u.whole.toNat with
        | nil => rw [hq] at hl; simp at hl; omega
        | cons a b => rfl
      · rw [List.all_eq_true]
        intro p hp
        rw [Bool.and_eq_true]
        refine ⟨?_, (h.ok p (hin p hp)).2⟩
        unfold missing at hm
        rw [List.any_eq_false] at hm
        simpa using hm p hp
      · rw [hl] at this
        exact Nat.ble_eq_true_of_le (by omega)
    rw [hj]; simp
  rw [e, obind_of]
  unfold outP
  rw [hm]; simp
theorem outP_ne {u : Upload} (h : UpOk u) (hm : missing u.pieces u.whole = false) : (outP u).isEmpty = false := by
  have hw := h.whole
  unfold outP
  rw [hm]
  simp only [Bool.false_eq_true, if_false]
  have hl : (u.pieces.take u.whole.toNat).length = u.whole.toNat := by rw [List.length_take, h.len]; omega
  unfold missing at hm
  rw [List.any_eq_false] at hm
  cases hq : u.pieces.take u.whole.toNat with
  | nil => rw [hq] at hl; simp at hl; omega
  | cons a b =>
    have := hm a (by rw [hq]; exact List.mem_cons_self)
    cases a with
    | nil => simp at this
    | cons x a => rfl
/-- the table, and what is told, when a piece has been put. -/
def afterP (m : Tbl) (v : Int) (u : Upload) : Tbl × List Int × Int := if missing u.pieces u.whole = true then (tset m v u, [], 0) else (tdel m v, outP u, 0)
def putP (m : Tbl) (v i n : Int) (b : List Int) : Tbl × List Int × Int :=
  if rightP v i n b = false then (m, [], 2) else
  let u : Upload := if thas m v = true then get0 m v else ⟨List.replicate 40 [], n⟩
  if u.whole ≠ n ∨ (u.pieces.getD i.toNat [] ≠ [] ∧ u.pieces.getD i.toNat [] ≠ b) then (m, [], 7) else afterP m v ⟨u.pieces.set i.toNat b, u.whole⟩
theorem getD_ok {u : Upload} (h : UpOk u) (i : Nat) : PieceOk (u.pieces.getD i []) := by
  rw [List.getD_eq_getElem?_getD]
  cases e : u.pieces[i]? with
  | none => exact pieceNil
  | some p => exact h.ok p (List.mem_of_getElem? e)
theorem rightP_iff {v i n : Int} {b : List Int} : rightP v i n b = true ↔ 1 ≤ v ∧ v ≤ 1073741824 ∧ 1 ≤ n ∧ n ≤ 40 ∧ 0 ≤ i ∧ i < n ∧ 1 ≤ b.length ∧ b.length ≤ 1024 ∧ (b.length = 1024 ∨ i = n - 1) := by unfold rightP; exact decide_eq_true_iff
theorem nilF_false {R : Type} (a b : Option R) : nilF false a b = b := rfl
theorem known_v (m : Tbl) : chunkBoard_known_g1 BIG m = some ((((), ()), m, ()), (true, ())) := chunkBoard_known_g1_eq BIG m
theorem put_v {m : Tbl} (hm : TblOk m) {v i n : Int} {b : List Int} (hb : byteOk b = true) :
    chunkBoardPut_g1 BIG m v i n b = some ((((), ()), (putP m v i n b).1, ()), ((putP m v i n b).2.1, (putP m v i n b).2.2, ())) := by
  rw [chunkBoardPut_g1_eq, known_v, obind_of]
  dsimp only
  rw [Bool.not_true, forkB_false, right_v, obind_of]
  cases hr : rightP v i n b with
  | false => unfold putP; rw [hr]; rfl
  | true =>
    have hr' := rightP_iff.1 hr
    have hbp : PieceOk b := ⟨by omega, hb⟩
    have hbn : b ≠ [] := fun e => by rw [e] at hr'; simp at hr'
    rw [Bool.not_true, forkB_false]
    unfold putP
    rw [hr]
    simp only [Bool.true_eq_false, if_false]
    cases ht : thas m v with
    | true =>
      have hu : UpOk (get0 m v) := hm _ (tget_mem ht)
      have hse : tset m v (get0 m v) = m := tset_get ht
      have hfx := fix_up hu
      rw [forkB_true]
      simp only [if_true]
      have hq0 : (tget TT (.user 0) m v : Upload) = get0 m v := rfl
      rw [hq0]
      generalize get0 m v = u at hu hse hfx ⊢
      rw [if_pos (by omega), hfx]
      by_cases hw : u.whole = n
      · have hw' : (u.whole != n) = false := by simp [hw]
        rw [hw', forkB_false]
        have hg := getD_ok hu i.toNat
        have hU := hu.set hbp i.toNat
        have key : (forkB (missing (u.pieces.set i.toNat b) u.whole)
            (obind (chunk_upload_done_g1a1 (u.pieces.set i.toNat b) u.whole) fun y4 => some ((((), ()), tset m v (⟨y4.1.1.1, y4.1.1.2.1⟩ : Upload), ()), (([] : List Int), (0 : Int), ())))
            (obind (chunk_upload_done_g1a2 (u.pieces.set i.toNat b) u.whole) fun y5 => nilF y5.2.1.isEmpty
              (some ((((), ()), tset m v (⟨y5.1.1.1, y5.1.1.2.1⟩ : Upload), ()), (y5.2.1, (0 : Int), ())))
              (some ((((), ()), tdel m v, ()), (y5.2.1, (0 : Int), ())))))
            = some ((((), ()), (afterP m v ⟨u.pieces.set i.toNat b, u.whole⟩).1, ()), ((afterP m v ⟨u.pieces.set i.toNat b, u.whole⟩).2.1, (afterP m v ⟨u.pieces.set i.toNat b, u.whole⟩).2.2, ())) := by
          unfold afterP
          cases hmi : missing (u.pieces.set i.toNat b) u.whole with
          | true => rw [forkB_true, done1_v hU hmi, obind_of]; rfl
          | false =>
            rw [forkB_false, done2_v hU hmi, obind_of]
            dsimp only
            rw [outP_ne hU hmi, nilF_false]; rfl
        cases hp : (u.pieces.getD i.toNat ([] : List Int)).isEmpty with
        | true =>
          have hp' : u.pieces.getD i.toNat ([] : List Int) = [] := by simpa using hp
          rw [forkB_true, clone_v hbn hbp.1, obind_of]
          rw [if_pos (by omega), if_pos (by omega), key, if_neg (by rw [hp']; simp [hw])]
        | false =>
          have hp' : u.pieces.getD i.toNat ([] : List Int) ≠ [] := fun e => by rw [e] at hp; cases hp
          rw [forkB_false, equal_v hg.2 hb, obind_of]
          by_cases he : u.pieces.getD i.toNat ([] : List Int) = b
          · rw [decide_eq_true he, Bool.not_true, forkB_false, clone_v hbn hbp.1, obind_of]
            rw [if_pos (by omega), if_pos (by omega), key, if_neg (fun h => h.elim (fun h => h hw) fun h => h.2 he)]
          · rw [decide_eq_false he, Bool.not_false, forkB_true, if_pos (.inr ⟨hp', he⟩)]
            show some ((((), ()), tset m v u, ()), (([] : List Int), (7 : Int), ())) = _
            rw [hse]
      · have hw' : (u.whole != n) = true := by simp [hw]
        rw [hw', forkB_true, if_pos (.inl hw)]
        show some ((((), ()), tset m v u, ()), (([] : List Int), (7 : Int), ())) = _
        rw [hse]
    | false =>
      rw [forkB_false]
      simp only [Bool.false_eq_true, if_false]
      have hu : UpOk ⟨List.replicate 40 [], n⟩ := newUp (by omega)
      have hU : UpOk ⟨(List.replicate 40 []).set i.toNat b, n⟩ := hu.set hbp i.toNat
      have hd : (List.replicate 40 ([] : List Int)).getD i.toNat ([] : List Int) = [] := by
        rw [List.getD_eq_getElem?_getD, List.getElem?_replicate]; split <;> rfl
      have hn : (n != n) = false := by simp
      rw [if_pos (by omega), hn, forkB_false, hd]
      show (obind (bytesClone BIG b) fun y10 => _) = _
      rw [clone_v hbn hbp.1, obind_of]
      rw [if_pos (by omega), if_pos (by omega), if_neg (fun h => h.elim (fun h => h rfl) fun h => h.1 rfl)]
      unfold afterP
      cases hmi : missing ((List.replicate 40 ([] : List Int)).set i.toNat b) n with
      | true =>
        rw [forkB_true, done1_v hU hmi, obind_of]
        dsimp only
        rw [tset_tset]; rfl
      | false =>
        rw [forkB_false, done2_v hU hmi, obind_of]
        dsimp only
        rw [outP_ne hU hmi, nilF_false, tdel_tset]; rfl
theorem put2_v {m : Tbl} (hm : TblOk m) {v i n : Int} {b : List Int} (hb : byteOk b = true) :
    chunkBoardPut_g2 BIG m v i n b = some ((((), ()), (putP m v i n b).1, b, ()), ((putP m v i n b).2.1, (putP m v i n b).2.2, ())) := by
  rw [chunkBoardPut_g2_eq, known_v, obind_of]
  dsimp only
  rw [Bool.not_true, forkB_false, right_v, obind_of]
  cases hr : rightP v i n b with
  | false => unfold putP; rw [hr]; rfl
  | true =>
    have hr' := rightP_iff.1 hr
    have hbp : PieceOk b := ⟨by omega, hb⟩
    have hbn : b ≠ [] := fun e => by rw [e] at hr'; simp at hr'
    rw [Bool.not_true, forkB_false]
    unfold putP
    rw [hr]
    simp only [Bool.true_eq_false, if_false]
    cases ht : thas m v with
    | true =>
      have hu : UpOk (get0 m v) := hm _ (tget_mem ht)
      have hse : tset m v (get0 m v) = m := tset_get ht
      have hfx := fix_up hu
      rw [forkB_true]
      simp only [if_true]
      have hq0 : (tget TT (.user 0) m v : Upload) = get0 m v := rfl
      rw [hq0]
      generalize get0 m v = u at hu hse hfx ⊢
      rw [if_pos (by omega), hfx]
      by_cases hw : u.whole = n
      · have hw' : (u.whole != n) = false := by simp [hw]
        rw [hw', forkB_false]
        have hg := getD_ok hu i.toNat
        have hU := hu.set hbp i.toNat
        have key : (forkB (missing (u.pieces.set i.toNat b) u.whole)
            (obind (chunk_upload_done_g1a1 (u.pieces.set i.toNat b) u.whole) fun y4 => some ((((), ()), tset m v (⟨y4.1.1.1, y4.1.1.2.1⟩ : Upload), b, ()), (([] : List Int), (0 : Int), ())))
            (obind (chunk_upload_done_g1a2 (u.pieces.set i.toNat b) u.whole) fun y5 => nilF y5.2.1.isEmpty
              (some ((((), ()), tset m v (⟨y5.1.1.1, y5.1.1.2.1⟩ : Upload), b, ()), (y5.2.1, (0 : Int), ())))
              (some ((((), ()), tdel m v, b, ()), (y5.2.1, (0 : Int), ())))))
            = some ((((), ()), (afterP m v ⟨u.pieces.set i.toNat b, u.whole⟩).1, b, ()), ((afterP m v ⟨u.pieces.set i.toNat b, u.whole⟩).2.1, (afterP m v ⟨u.pieces.set i.toNat b, u.whole⟩).2.2, ())) := by
          unfold afterP
          cases hmi : missing (u.pieces.set i.toNat b) u.whole with
          | true => rw [forkB_true, done1_v hU hmi, obind_of]; rfl
          | false =>
            rw [forkB_false, done2_v hU hmi, obind_of]
            dsimp only
            rw [outP_ne hU hmi, nilF_false]; rfl
        cases hp : (u.pieces.getD i.toNat ([] : List Int)).isEmpty with
        | true =>
          have hp' : u.pieces.getD i.toNat ([] : List Int) = [] := by simpa using hp
          rw [forkB_true, clone_v hbn hbp.1, obind_of]
          rw [if_pos (by omega), if_pos (by omega), key, if_neg (by rw [hp']; simp [hw])]
        | false =>
          have hp' : u.pieces.getD i.toNat ([] : List Int) ≠ [] := fun e => by rw [e] at hp; cases hp
          rw [forkB_false, equal_v hg.2 hb, obind_of]
          by_cases he : u.pieces.getD i.toNat ([] : List Int) = b
          · rw [decide_eq_true he, Bool.not_true, forkB_false, clone_v hbn hbp.1, obind_of]
            rw [if_pos (by omega), if_pos (by omega), key, if_neg (fun h => h.elim (fun h => h hw) fun h => h.2 he)]
          · rw [decide_eq_false he, Bool.not_false, forkB_true, if_pos (.inr ⟨hp', he⟩)]
            show some ((((), ()), tset m v u, b, ()), (([] : List Int), (7 : Int), ())) = _
            rw [hse]
      · have hw' : (u.whole != n) = true := by simp [hw]
        rw [hw', forkB_true, if_pos (.inl hw)]
        show some ((((), ()), tset m v u, b, ()), (([] : List Int), (7 : Int), ())) = _
        rw [hse]
    | false =>
      rw [forkB_false]
      simp only [Bool.false_eq_true, if_false]
      have hu : UpOk ⟨List.replicate 40 [], n⟩ := newUp (by omega)
      have hU : UpOk ⟨(List.replicate 40 []).set i.toNat b, n⟩ := hu.set hbp i.toNat
      have hd : (List.replicate 40 ([] : List Int)).getD i.toNat ([] : List Int) = [] := by
        rw [List.getD_eq_getElem?_getD, List.getElem?_replicate]; split <;> rfl
      have hn : (n != n) = false := by simp
      rw [if_pos (by omega), hn, forkB_false, hd]
      show (obind (bytesClone BIG b) fun y10 => _) = _
      rw [clone_v hbn hbp.1, obind_of]
      rw [if_pos (by omega), if_pos (by omega), if_neg (fun h => h.elim (fun h => h rfl) fun h => h.1 rfl)]
      unfold afterP
      cases hmi : missing ((List.replicate 40 ([] : List Int)).set i.toNat b) n with
      | true =>
        rw [forkB_true, done1_v hU hmi, obind_of]
        dsimp only
        rw [tset_tset]; rfl
      | false =>
        rw [forkB_false, done2_v hU hmi, obind_of]
        dsimp only
        rw [outP_ne hU hmi, nilF_false, tdel_tset]; rfl
theorem putP_ok {m : Tbl} (hm : TblOk m) {v i n : Int} {b : List Int} (hb : byteOk b = true) : TblOk (putP m v i n b).1 := by
  unfold putP
  split
  · exact hm
  rename_i hr
  have hr := rightP_iff.1 (Bool.not_eq_false _ ▸ hr : rightP v i n b = true)
  have hu : UpOk (if thas m v = true then get0 m v else ⟨List.replicate 40 [], n⟩) := by
    split
    · rename_i h; exact hm _ (tget_mem h)
    · exact newUp (by omega)
  generalize (if thas m v = true then get0 m v else (⟨List.replicate 40 [], n⟩ : Upload)) = u at hu
  show TblOk (if u.whole ≠ n ∨ (u.pieces.getD i.toNat [] ≠ [] ∧ u.pieces.getD i.toNat [] ≠ b) then (m, [], 7) else afterP m v ⟨u.pieces.set i.toNat b, u.whole⟩ : Tbl × List Int × Int).1
  split
  · exact hm
  · have hb' : PieceOk b := ⟨by omega, hb⟩
    unfold afterP
    split
    · intro x hx
      rcases tset_mem hx with rfl | hx
      · exact hu.set hb' _
      · exact hm x hx
    · exact fun x hx => hm x (tdel_mem hx)
end Go.Y

/- A board that works, and the law ChunkNil. -/
namespace Go.Y
open Go.RowKit Go.V Go.X
theorem open_v {m : Tbl} (hk : keysOk m = true) : chunkBoardOpen_g1 BIG m = some ((((), ()), m, ()), (sortI (m.map Prod.fst), ())) := by
  rw [chunkBoardOpen_g1_eq, known_v, obind_of]
  dsimp only
  rw [Bool.not_true, forkB_false, chunk_table_versions_g1_eq, mapsKeys_g1_eq, obind_of]
  dsimp only
  unfold sortedKeys
  rw [hk]; rfl
def mA : Tbl := [(7, ⟨(List.replicate 40 []).set 1 [98], 2⟩)]
theorem zeros_ok : byteOk (List.replicate 1024 (0 : Int)) = true := by
  unfold byteOk; rw [List.all_eq_true]; intro x hx; rw [List.eq_of_mem_replicate hx]; rfl
theorem awake_true : law20_awake BIG = some true := by
  have h0 : TblOk [] := fun x hx => by cases hx
  have e2 : putP [] 7 1 2 [98] = (mA, [], 0) := by kernel_rfl
  have h2 : TblOk mA := by have := putP_ok h0 (v := 7) (i := 1) (n := 2) (b := [98]) rfl; rwa [e2] at this
  have e4 : putP mA 7 1 2 [98] = (mA, [], 0) := by kernel_rfl
  have e5 : putP mA 7 1 2 [99] = (mA, [], 7) := by kernel_rfl
  have e6 : putP mA 7 0 2 [97] = (mA, [], 2) := by kernel_rfl
  have e7 : putP mA 7 0 2 (List.replicate 1024 (0 : Int)) = ([], List.replicate 1024 (0 : Int) ++ [98], 0) := by kernel_rfl
  rw [law20_awake_eq, chunkNew_g1_eq, obind_of]
  dsimp only
  rw [put_v h0 rfl, obind_of, e2]
  dsimp only
  rw [open_v rfl, obind_of]
  dsimp only
  rw [put_v h2 rfl, obind_of, e4]
  dsimp only
  rw [put_v h2 rfl, obind_of, e5]
  dsimp only
  rw [put_v h2 rfl, obind_of, e6]
  dsimp only
  rw [if_pos (by omega), put2_v h2 zeros_ok, obind_of, e7]
  dsimp only
  rw [open_v rfl, obind_of]
  have hs : kitSameInts BIG (sortI (List.map Prod.fst mA)) [7] = some true := by
    obtain ⟨k, e⟩ : ∃ k : Nat, (BIG : Nat) = k + 1 + 1 := ⟨999999998, rfl⟩
    have hk : sortI (List.map Prod.fst mA) = [7] := by kernel_rfl
    have b1 : (((([7] : List Int).length : Nat) : Int) != ((([7] : List Int).length : Nat) : Int)) = false := by decide
    have b2 : decide ((0 : Int) < ((([7] : List Int).length : Nat) : Int)) = true := by decide
    have b3 : (([7] : List Int).getD (0 : Int).toNat (0 : Int) != ([7] : List Int).getD (0 : Int).toNat (0 : Int)) = false := by decide
    have b4 : IntKind.i64.wrap ((0 : Int) + 1) = 1 := by decide
    have b5 : decide ((1 : Int) < ((([7] : List Int).length : Nat) : Int)) = false := by decide
    rw [hk, kitSameInts_eq, b1, forkB_false, e, kitSameInts_L0_eq, b2, forkB_true, if_pos (by decide), if_pos (by decide), b3, forkB_false, b4, kitSameInts_L0_eq, b5, forkB_false]
  rw [hs, obind_of]
  have hl : ((List.replicate 1024 (0 : Int) ++ [98]).length : Int) = 1025 := by rw [List.length_append, List.length_replicate]; rfl
  rw [hl]
  have hg : (List.replicate 1024 (0 : Int) ++ [98]).getD 1024 (0 : Int) = 98 := by
    rw [List.getD_eq_getElem?_getD, List.getElem?_append_right (by rw [List.length_replicate]; exact Nat.le_refl _), List.length_replicate]; rfl
  rw [hg]
  rfl
theorem chunkNil_true (v : Int) (b : List Int) : law20ChunkNil BIG v b = some true := by
  obtain ⟨k, e⟩ : ∃ k : Nat, (BIG : Nat) = k + 2 + 2 + 1 := ⟨999999995, rfl⟩
  have q1 : ∀ i n b, chunkBoardPut_g3 BIG v i n b = some ((), ((), (1 : Int), ())) := fun i n b => by rw [chunkBoardPut_g3_eq, chunkBoard_known_g2_eq]; rfl
  have q2 : ∀ i n b, chunkBoardPut_g4 BIG v i n b = some ((((), ()), ()), ((), (1 : Int), ())) := fun i n b => by rw [chunkBoardPut_g4_eq, chunkBoard_known_g3_eq]; rfl
  have q3 : chunkBoardOpen_g2 BIG = some ((), ((), ())) := by rw [chunkBoardOpen_g2_eq, chunkBoard_known_g2_eq]; rfl
  have q4 : chunkBoardOpen_g3 BIG = some ((((), ()), ()), ((), ())) := by rw [chunkBoardOpen_g3_eq, chunkBoard_known_g3_eq]; rfl
  have q5 : chunkBoardDrop_g1 BIG v = some ((), ((1 : Int), ())) := by rw [chunkBoardDrop_g1_eq, chunkBoard_known_g2_eq]; rfl
  have q6 : chunkBoardDrop_g2 BIG v = some ((((), ()), ()), ((1 : Int), ())) := by rw [chunkBoardDrop_g2_eq, chunkBoard_known_g3_eq]; rfl
  have e0 : law20ChunkNil BIG v b = law20ChunkNil (k + 2 + 2 + 1) v b := by rw [e]
  rw [e0, law20ChunkNil_eq, q1, obind_of]
  show (obind (chunkBoardOpen_g2 BIG) fun y2 => obind (chunkBoardDrop_g1 BIG v) fun y3 => law20ChunkNil_J1 (k + 2 + 2) v b (y3.2.1 != (1 : Int))) = _
  rw [q3, obind_of, q5, obind_of]
  show law20ChunkNil_J1 (k + 2 + 2) v b false = _
  rw [law20ChunkNil_J1_eq, forkB_false, q2, obind_of]
  show (obind (chunkBoardOpen_g3 BIG) fun y2 => obind (chunkBoardDrop_g2 BIG v) fun y3 => law20ChunkNil_J1a (k + 2) v b (y3.2.1 != (1 : Int))) = _
  rw [q4, obind_of, q6, obind_of]
  show law20ChunkNil_J1a (k + 2) v b false = _
  rw [law20ChunkNil_J1a_eq, forkB_false, awake_true]; rfl
end Go.Y
