/- The interpreter's steps are the machine's: operations that touch memory. Nothing here is about one program. -/
import Derived.Test.YtjjlcenmifcaeaaX4
namespace Go.X
open Go.RowKit Go.V

section
variable {T : Tab} {P : Program} {w w' : World} {S S' : List Nat} {φ φ' : Nat → RA} {w0 : World} {S0 : Ow} {F : AF T} {H : List (Ent T.U)} {F' : PF}
variable {rd : List Nat} {ops : Array Oper} {Q : Exit → Act → World → Prop} {k n : Nat} {ds : List Deferred} {o : Oper}
/-- what stands behind an operation. -/
def Kont (P : Program) (ops : Array Oper) (Q : Exit → Act → World → Prop) (k n : Nat) (ds : List Deferred) (w0 : World) (S0 : Ow) (st : St T) : Prop := ∀ F1 w1, Stands T w0 S0 st F1 w1 → WR P ops Q k n ds F1 w1
theorem okA_of_nil {a : AV T.U} (h : a.ids = []) (h2 : ∀ i sz k c, a ≠ .eptr i sz k c) : okA H a := by
  refine ⟨fun i hi => (by rw [h] at hi; cases hi), ?_⟩
  cases a <;> first | trivial | exact absurd rfl (h2 _ _ _ _)
theorem ofV1_ids (v : Value) : (ofV1 T v).ids = [] := by cases v <;> rfl
theorem ofV1_idsL : ∀ l : List Value, idsL (l.map (ofV1 T)) = []
  | [] => rfl
  | v :: r => by rw [List.map_cons, idsL, ofV1_ids, ofV1_idsL r]; rfl
theorem ofV_ids (v : Value) : (ofV T v).ids = [] := by
  have h := ofV1_ids (T := T) v
  cases v <;> first | exact h | (show (AV.agg _).ids = []; rw [AV.ids]; exact ofV1_idsL _)
theorem ofV_ok (v : Value) : okA H (ofV T v) := okA_of_nil (ofV_ids v) (by intro i sz k c; cases v <;> simp [ofV, ofV1])
theorem aev_ok (h : Sim T w0 S0 ⟨F, H⟩ F' w S φ) {x : Operand} {a : AV T.U} (ha : aev T F x = some a) : okA H a := by
  cases x with
  | tmp t => exact h.ids t a ha
  | const v => simp only [aev, Option.some.injEq] at ha; subst ha; exact ofV_ok v
  | global g => cases ha
  | func f => simp only [aev, Option.some.injEq] at ha; subst ha; exact okA_of_nil rfl (by intros; simp)
theorem decAlloc_of {e : TypeId} (hd : dec ops k n F' = some o) (hop : o.op = .alloc e) : decAlloc ops k n F' = some (o.dst, e) := by
  unfold decAlloc; rw [hd]; cases o; simp only at hop; subst hop; rfl
theorem decBox_of {e : TypeId} {x : Operand} (hd : dec ops k n F' = some o) (hop : o.op = .box e x) : decBox ops k n F' = some (o.dst, e, evD F' x) := by
  unfold decBox; rw [hd]; cases o; simp only at hop; subst hop; rfl
theorem decLoad_of {t : TypeId} {x : Operand} (hd : dec ops k n F' = some o) (hop : o.op = .load t x) : decLoad ops k n F' = some (o.dst, t, evD F' x) := by
  unfold decLoad; rw [hd]; cases o; simp only at hop; subst hop; rfl
theorem cellsA_ids {a : AV T.U} (h : cellsOk T a = true) : idsL (cellsA T a) = a.ids := by
  rcases cellsOk_cases h with ⟨cs, rfl⟩ | ⟨_, h2⟩
  · rfl
  · rw [h2, idsL, idsL, List.append_nil]
theorem box_wr {e : TypeId} {x : Operand} (hd : dec ops k n F' = some o) (hop : o.op = .box e x) {a : AV T.U} (ha : aev T F x = some a) {cs : List (AV T.U)} (hcs : ∀ (w : World) (S : List Nat) (φ : Nat → RA) (v : Value), VR T w S φ a v → BR T w S φ cs v.cells.toList) (hci : ∀ i ∈ idsL cs, i ∈ a.ids) (h : Sim T w0 S0 ⟨F, H⟩ F' w S φ)
    (K : Kont P ops Q (k + 1) n ds w0 S0 (⟨updA T F o.dst (.ptr H.length 0), H ++ [.blk e cs]⟩ : St T)) : WR P ops Q k n ds F' w := by
  obtain ⟨v, h1, h2⟩ := aev_rel h.fr ha
  have hak := aev_ok h ha
  refine WR.box (v := v) (by rw [decBox_of hd hop, evD_of h1]) _ rfl fun g w' hN => K _ _ ⟨g :: S, setR φ H.length ⟨some ⟨g, 0, none⟩, 0, 0, []⟩, ?_⟩
  have hS : ∀ b ∈ g :: S, b ∈ S ∨ w.heap.size ≤ b := by
    intro b hb
    rcases List.mem_cons.1 hb with rfl | hb
    · exact .inr hN.fresh
    · exact .inl hb
  have h3 := h.add (r := ⟨some ⟨g, 0, none⟩, 0, 0, []⟩) hN.chg hN.fresh hN.blk.lt (fun a ha => at_new ha) (e := .blk e cs)
    ⟨g, v.cells, by rw [setR_eq], hN.blk, by simp, ((hcs _ _ _ _ h2).chg T hN.chg (by simp) hS).phi fun i hi => setR_ne (by have := hak.1 i (hci i hi); omega)⟩
    (by intro j hj; rw [Ent.cellIds] at hj; have := hak.1 j (hci j hj); omega)
  refine h3.slot ⟨g, by rw [setR_eq], rfl⟩ ⟨by intro i hi; simp [AV.ids] at hi; subst hi; simp, trivial⟩
theorem loadC_spec {t : TypeId} {cs : List (AV T.U)} {j : Nat} {a : AV T.U} (h : loadC T P t cs j = some a) : ∃ i d, P.info? t = some i ∧ P.underlying t = some d ∧ cutA T cs j i.size (aggD d) = some a := by
  unfold loadC at h
  split at h
  · rename_i i d hi hd; exact ⟨i, d, hi, hd, h⟩
  · cases h
theorem ldvB_of {t : TypeId} {cs : List (AV T.U)} {c : Array Value} {j : Nat} {a : AV T.U} (hc : BR T w S φ cs c.toList) (h : loadB T P t cs j = some a) : ∃ v, ldv P t c j = some v ∧ VR T w S φ a v := by
  unfold loadB at h
  split at h
  · rename_i i d hi hd
    obtain ⟨v, h2, h3, h4⟩ := cutB_rel hc h
    refine ⟨v, ?_, h3⟩
    unfold ldv
    rw [hi, hd]
    cases d <;> simp only [aggD] at h2 h4 ⊢ <;> first | simpa using h2 | (rw [show Nat.ble (j + i.size) c.size = true from Nat.ble_eq_true_of_le (h4 trivial)]; simpa using h2)
  · cases h
theorem loadB_ids {t : TypeId} {cs : List (AV T.U)} {j : Nat} {a : AV T.U} (h : loadB T P t cs j = some a) : ∀ i ∈ a.ids, i ∈ idsL cs := by
  unfold loadB at h
  split at h
  · exact cutB_ids h
  · cases h
theorem idsL_mem {a : AV T.U} : ∀ {l : List (AV T.U)}, a ∈ l → ∀ i ∈ a.ids, i ∈ idsL l
  | [], h, _, _ => by cases h
  | b :: r, h, i, hi => by
    rw [idsL]
    rcases List.mem_cons.1 h with rfl | h
    · exact List.mem_append.2 (.inl hi)
    · exact List.mem_append.2 (.inr (idsL_mem h i hi))
theorem idsL_of {i : Nat} : ∀ {l : List (AV T.U)}, i ∈ idsL l → ∃ a ∈ l, i ∈ a.ids
  | [], h => by cases h
  | b :: r, h => by
    rw [idsL] at h
    rcases List.mem_append.1 h with h | h
    · exact ⟨b, by simp, h⟩
    · obtain ⟨a, h1, h2⟩ := idsL_of h; exact ⟨a, List.mem_cons_of_mem _ h1, h2⟩
theorem cutA_ids {cs : List (AV T.U)} {j m : Nat} {ag : Bool} {a : AV T.U} (h : cutA T cs j m ag = some a) : ∀ i ∈ a.ids, i ∈ idsL cs := by
  unfold cutA at h
  split at h
  · split at h
    · simp only [Option.some.injEq] at h; subst h
      intro i hi
      rw [AV.ids] at hi
      obtain ⟨b, hb, hi⟩ := idsL_of hi
      exact idsL_mem (List.mem_of_mem_drop (List.mem_of_mem_take hb)) i hi
    · cases h
  · intro i hi; exact idsL_mem (List.mem_of_getElem? h) i hi
/-- cells that lie in a block are no pointers into rows. -/
def noE (cs : List (AV T.U)) : Prop := ∀ a ∈ cs, ∀ i sz k c, a ≠ .eptr i sz k c
theorem cutA_ok {cs : List (AV T.U)} (hn : noE cs) {j m : Nat} {ag : Bool} {a : AV T.U} (h : cutA T cs j m ag = some a) (hl : ∀ i ∈ idsL cs, i < H.length) : okA H a := by
  refine ⟨fun i hi => hl i (cutA_ids h i hi), ?_⟩
  cases a with
  | eptr i sz k c =>
    unfold cutA at h
    split at h
    · split at h
      · cases h
      · cases h
    · exact absurd rfl (hn _ (List.mem_of_getElem? h) i sz k c)
  | _ => trivial
/-! ### What only reads -/
/-- In each world that has new memory, and in which what it reads is as it was, the operation yields v. -/
def Same (φ : Nat → RA) (rd : List Nat) (w w1 : World) : Prop := ∀ e ∈ rd, ∀ a, (φ e).ad = some a → a.block < w.heap.size → w1.heap[a.block]? = w.heap[a.block]?
def QR (P : Program) (F' : PF) (o : Oper) (S : List Nat) (φ : Nat → RA) (rd : List Nat) (w : World) (v : Value) : Prop := ∀ w1, Chg S w w1 → Same φ rd w w1 → (execOp (evD F') o).run P w1 = .ok (.value v) w1
theorem Same.pure {rd : List Nat} {w1 : World} (hc : Chg [] w w1) : Same φ rd w w1 := fun _ _ _ _ hlt => hc.block _ hlt (by simp)
theorem chgWide {w1 : World} (hc : Chg [] w w1) (S : List Nat) : Chg S w w1 := (Chg.refl S w).step hc (by simp)
theorem Rg.same {ad : Option Addr} {cs : List Value} {w1 : World} (h : Rg w ad cs) (hb : w1.heap[bk ad]? = w.heap[bk ad]?) : Rg w1 ad cs := fun j u hj => ⟨(h j u hj).1, (World.cell?_of_block hb).trans (h j u hj).2⟩
theorem dec_inj {o' : Oper} (h : dec ops k n F' = some o) (h' : dec ops k n F' = some o') : o' = o := by rw [h] at h'; cases h'; rfl
theorem QR.load {t : TypeId} {g j : Nat} {c : Array Value} {e : TypeId} {dst : Option Tmp} (h0 : dec ops k n F' = some o) (hb : ∀ w1, Chg S w w1 → Same φ rd w w1 → Blk w1 g c e) (hd : decLoad ops k n F' = some (dst, t, .pointer (some ⟨g, j, none⟩))) (v : Value) (hv : ldv P t c j = some v) : QR P F' o S φ rd w v := by
  intro w1 hc hs
  obtain ⟨op, hdec, _, he⟩ := decLoad_spec hd
  rw [← dec_inj h0 hdec, he]
  simp [Instr.loadAt, Instr.sureAddr, run_loadVar_ldv (hb w1 hc hs) hv]
theorem QR.load1 {dst : Option Tmp} {t : TypeId} {a : Addr} (h0 : dec ops k n F' = some o) (hd : decLoad ops k n F' = some (dst, t, .pointer (some a))) (hs : scalar P t = true) (v : Value) (hv : ∀ w1, Chg S w w1 → Same φ rd w w1 → w1.cell? a = some v) : QR P F' o S φ rd w v := by
  intro w1 hc hsm
  obtain ⟨op, hdec, _, he⟩ := decLoad_spec hd
  rw [← dec_inj h0 hdec, he]
  simp [Instr.loadAt, Instr.sureAddr, run_loadVar_scalar hs (hv w1 hc hsm)]
theorem QR.loadA {dst : Option Tmp} {t : TypeId} {ad : Option Addr} {j : Nat} {cs : List Value} {sz : Nat} (h0 : dec ops k n F' = some o) (hr : ∀ w1, Chg S w w1 → Same φ rd w w1 → Rg w1 ad cs) (hd : decLoad ops k n F' = some (dst, t, .pointer (some ⟨bk ad, of ad + j, none⟩))) (ha : scalar P t = false) (hu : (P.underlying t).isSome = true) (hs : sizeT P t = some sz) (vs : List Value) (hl : vs.length = sz) (hv : (cs.drop j).take sz = vs) : QR P F' o S φ rd w (.agg vs.toArray) := by
  intro w1 hc1 hsm1
  have hr := hr w1 hc1 hsm1
  obtain ⟨op, hdec, _, he⟩ := decLoad_spec hd
  rw [← dec_inj h0 hdec]
  obtain ⟨d, hd'⟩ := Option.isSome_iff_exists.1 hu
  have hag : aggD d = true := by
    unfold scalar at ha; rw [hd'] at ha; cases d <;> first | rfl | cases ha
  have hs' : (sizeOf t).run P w1 = .ok sz w1 := by
    unfold sizeT at hs
    cases hin : P.info? t with
    | none => rw [hin] at hs; cases hs
    | some inf => rw [hin] at hs; simp at hs; simp [sizeOf, typeInfo, hin, hs]
  have hc := run_loadCells_list (P := P) (w := w1) ⟨bk ad, of ad + j, none⟩ vs (fun i v hi => by
    have hadd : (⟨bk ad, of ad + j, none⟩ : Addr).add i = ⟨bk ad, of ad + (j + i), none⟩ := by unfold Addr.add; split <;> simp_all [Nat.add_assoc]
    rw [hadd]
    rw [← hv, List.getElem?_take] at hi
    split at hi
    · rw [List.getElem?_drop] at hi; exact (hr (j + i) v hi).2
    · cases hi)
  rw [hl] at hc
  have hlv : (loadVar t ⟨bk ad, of ad + j, none⟩).run P w1 = .ok (.agg vs.toArray) w1 := by
    unfold loadVar
    rw [Sem.run_bind, run_isAgg_of hd', hag]
    simp only [Result.andThen_ok, if_true, Sem.run_bind, hs', hc, Sem.run_pure]
  rw [he]
  simp [Instr.loadAt, Instr.sureAddr, hlv]
theorem QR.indexS {dst : Option Tmp} {t : TypeId} {b o1 m cap : Nat} {kk : IntKind} {i : Int} (h0 : dec ops k n F' = some o) (hd : decIndex ops k n F' = some (dst, t, .slice (some ⟨b, o1, none⟩) m cap, .int kk i)) (sz : Nat) (hsz : elemSize P t = some sz) (j : Nat) (hj : i = (j : Int)) (hi : j < m) : QR P F' o S φ rd w (.pointer (some ⟨b, o1 + j * sz, none⟩)) := by
  subst hj
  obtain ⟨op, hdec, _, hrun⟩ := decIndex_run hd hsz (by omega) (by omega)
  rw [← dec_inj h0 hdec]
  intro w1 _ _
  simpa using hrun w1
theorem QR.sliceH {dst : Option Tmp} {t e : TypeId} {ad : Option Addr} {m cap : Nat} {kk : IntKind} {h : Int} {sz by_ : Nat} {zc : Array Value} (h0 : dec ops k n F' = some o) (hd : decSlice ops k n F' = some (dst, t, .slice ad m cap, none, some (.int kk h))) (hi : eInfo P t = some (e, sz, by_, zc)) (j : Nat) (hj : h = (j : Int)) (hle : j ≤ cap) : QR P F' o S φ rd w (.slice ad j cap) := by
  subst hj
  intro w _ _
  obtain ⟨o', hdec, _, he⟩ := decSlice_spec hd
  obtain ⟨i, z, hu, hin, _⟩ := eInfo_spec hi
  have hel : P.elem t = e := by simp [Program.elem, hu]
  have hs : (sizeOf e).run P w = .ok i.size w := by simp [sizeOf, typeInfo, hin]
  rw [← dec_inj h0 hdec, he, Sem.run_bind, run_sliceAt_slice w t _ _ _ _ (elem_of hu), run_slice_h w t ad m cap (elem_of hu) kk j (by omega) (by omega), hel, hs]
  simp only [Result.andThen_ok, sliced, Int.toNat_natCast, Nat.zero_mul, Nat.sub_zero]
  split <;> (cases ad <;> simp [Addr.add])
theorem QR.sliceLH {dst : Option Tmp} {t e : TypeId} {ad : Option Addr} {m cap : Nat} {kl kk : IntKind} {l h : Int} {sz by_ : Nat} {zc : Array Value} (h0 : dec ops k n F' = some o) (hd : decSlice ops k n F' = some (dst, t, .slice ad m cap, some (.int kl l), some (.int kk h))) (hi : eInfo P t = some (e, sz, by_, zc)) (i j : Nat) (hl : l = (i : Int)) (hj : h = (j : Int)) (hij : i ≤ j) (hle : j ≤ cap) :
    QR P F' o S φ rd w (.slice (if cap = i then ad else ad.map (·.add (i * sz))) (j - i) (cap - i)) := by
  subst hj hl
  intro w _ _
  obtain ⟨o', hdec, _, he⟩ := decSlice_spec hd
  obtain ⟨inf, z, hu, hin, _, hsz, _⟩ := eInfo_spec hi
  have hel : P.elem t = e := by simp [Program.elem, hu]
  have hs : (sizeOf e).run P w = .ok sz w := by simp [sizeOf, typeInfo, hin, hsz]
  rw [← dec_inj h0 hdec, he, Sem.run_bind, run_sliceAt_slice w t _ _ _ _ (elem_of hu), run_slice_lh w t ad m cap (elem_of hu) kl kk i j (by omega) (by omega) (by omega), hel, hs]
  simp only [Result.andThen_ok, sliced, Int.toNat_natCast]
  rfl
theorem QR.sliceL {dst : Option Tmp} {t e : TypeId} {ad : Option Addr} {m cap : Nat} {kl : IntKind} {l : Int} {sz by_ : Nat} {zc : Array Value} (h0 : dec ops k n F' = some o) (hd : decSlice ops k n F' = some (dst, t, .slice ad m cap, some (.int kl l), none)) (hi : eInfo P t = some (e, sz, by_, zc)) (i : Nat) (hl : l = (i : Int)) (hle : i ≤ m) :
    QR P F' o S φ rd w (.slice (if cap = i then ad else ad.map (·.add (i * sz))) (m - i) (cap - i)) := by
  subst hl
  intro w _ _
  obtain ⟨o', hdec, _, he⟩ := decSlice_spec hd
  obtain ⟨inf, z, hu, hin, _, hsz, _⟩ := eInfo_spec hi
  have hel : P.elem t = e := by simp [Program.elem, hu]
  have hs : (sizeOf e).run P w = .ok sz w := by simp [sizeOf, typeInfo, hin, hsz]
  rw [← dec_inj h0 hdec, he, Sem.run_bind, run_sliceAt_slice w t _ _ _ _ (elem_of hu), run_slice_l w t ad m cap (elem_of hu) kl i (by omega) (by omega), hel, hs]
  simp only [Result.andThen_ok, sliced, Int.toNat_natCast]
  rfl
theorem load_ptr_q {Z : Prop} {t : TypeId} {x : Operand} (hd : dec ops k n F' = some o) (hop : o.op = .load t x) {i j : Nat} {e : TypeId} {cs : List (AV T.U)} {a : AV T.U} (hx : aev T F x = some (.ptr i j)) (hi : H[i]? = some (.blk e cs)) (hn : ∀ i sz k c, a ≠ .eptr i sz k c) (hl : loadB T P t cs j = some a)
    (h : Sim T w0 S0 ⟨F, H⟩ F' w S φ) (hrd : i ∈ rd) (K : ∀ v, QR P F' o S φ rd w v → VR T w S φ a v → okA H a → Z) : Z := by
  obtain ⟨v, h1, g, h2, rfl⟩ := aev_rel h.fr hx
  obtain ⟨g', c, h3, hb, h5, h6⟩ := h.ents i _ hi
  rw [h2] at h3; simp only [Option.some.injEq, Addr.mk.injEq, and_true] at h3; subst h3
  obtain ⟨v, h7, h8⟩ := ldvB_of h6 hl
  refine K v (QR.load hd (fun w1 _ hsm => (hsm i hrd _ h2 hb.lt).trans hb) (by rw [decLoad_of hd hop, evD_of h1]) v h7) h8 ⟨fun i hi' => h.eids _ _ hi i (loadB_ids hl i hi'), ?_⟩
  cases a <;> first | trivial | exact absurd rfl (hn _ _ _ _)
theorem cellsE_ids (t : Ty) (x : den T.U t) : idsL (cellsE T t x) = [] := by
  unfold cellsE
  generalize flat T t x = l
  induction l with
  | nil => rfl
  | cons c r ih => rw [List.map_cons, idsL, ih]; rfl
theorem cellsE_noE (t : Ty) (x : den T.U t) : noE (cellsE T t x) := by
  intro a ha i sz k c e
  unfold cellsE at ha
  obtain ⟨c', _, rfl⟩ := List.mem_map.1 ha
  cases e
/-- cells that lie somewhere, loaded. -/
theorem load_rg {Z : Prop} {t : TypeId} {x : Operand} (hd : dec ops k n F' = some o) (hop : o.op = .load t x) {b o0 c : Nat} {cs : List (AV T.U)} {vals : List Value} {a : AV T.U} (hx : ev F' x = some (.pointer (some ⟨b, o0 + c, none⟩)))
    (hr : ∀ w1, Chg S w w1 → Same φ rd w w1 → Rg w1 (some ⟨b, o0, none⟩) vals) (hv : VRL T w S φ cs vals) (hn : noE cs) (hids : idsL cs = []) (hl : loadC T P t cs c = some a)
    (K : ∀ v, QR P F' o S φ rd w v → VR T w S φ a v → okA H a → Z) : Z := by
  obtain ⟨i, d, hi, hu, hc⟩ := loadC_spec hl
  have hok : okA H a := cutA_ok hn hc (by rw [hids]; intro i hi; cases hi)
  have hdl := decLoad_of hd hop
  rw [evD_of hx] at hdl
  cases hag : aggD d with
  | false =>
    rw [hag] at hc
    obtain ⟨v, h1, h2⟩ := hv.get T (show cs[c]? = some a from hc)
    have hs : scalar P t = true := by unfold scalar; rw [hu]; cases d <;> simp_all [aggD]
    refine K v (QR.load1 hd hdl hs v ?_) h2 hok
    exact fun w1 hc hsm => (hr w1 hc hsm c v h1).2
  | true =>
    rw [hag] at hc
    unfold cutA at hc
    simp only at hc
    split at hc
    · rename_i hle
      simp only [Option.some.injEq] at hc; subst hc
      have hs : scalar P t = false := by unfold scalar; rw [hu]; cases d <;> simp_all [aggD]
      have hlen := hv.len T
      have hle := Nat.le_of_ble_eq_true hle
      refine K _ (QR.loadA (ad := some ⟨b, o0, none⟩) (j := c) (cs := vals) (sz := i.size) hd hr hdl hs (by rw [hu]; rfl) (by unfold sizeT; rw [hi]; rfl) ((vals.drop c).take i.size) (by rw [List.length_take, List.length_drop]; omega) rfl) ⟨_, rfl, ?_⟩ hok
      simpa using (hv.drop T c).take T i.size
    · cases hc
theorem getD_get {α : Type} {xs : List α} {k : Nat} (d : α) (hk : k < xs.length) : xs[k]? = some (xs.getD k d) := by
  rw [List.getD_eq_getElem?_getD, List.getElem?_eq_getElem hk]; rfl
/-- an element of a list that stays. -/
theorem list_elem {e : Ty} {xs : List (den T.U e)} {ad : Option Addr} {cap : Nat} (h : CR T w S (.list e) xs (.slice ad xs.length cap)) {k : Nat} (hk : k < xs.length) :
    ∃ vals, Rg w (some ⟨bk ad, of ad + k * szT T e, none⟩) vals ∧ VRL T w S φ (cellsE T e (xs.getD k (dflt T e))) vals ∧ bk ad ∉ S := by
  generalize hv : Value.slice ad xs.length cap = v at h
  cases h with
  | list _ _ ad' cap' u hcap hnil had hcell hrel =>
    simp only [Value.slice.injEq, true_and] at hv
    obtain ⟨rfl, rfl⟩ := hv
    have hx := getD_get (dflt T e) hk
    generalize xs.getD k (dflt T e) = x at *
    refine ⟨(List.range (szT T e)).map (u k), ?_, ?_, (had (fun e0 => by subst e0; simp at hk)).2.2⟩
    · intro j v hj
      refine ⟨rfl, ?_⟩
      simp only [bk, of]
      have hjl : j < szT T e := by
        have := (List.getElem?_eq_some_iff.1 hj).1; simpa using this
      rw [List.getElem?_map, List.getElem?_range hjl] at hj
      simp only [Option.map_some, Option.some.injEq] at hj
      subst hj
      have hc : (flat T e x)[j]? = some ((flat T e x)[j]'(by rw [flat_len]; exact hjl)) := List.getElem?_eq_getElem _
      have := hcell k j _ (by rw [hx]; exact congrArg some hc)
      rw [Nat.add_assoc]; exact this
    · have key : ∀ (l : List (Cell T.U)) (s m : Nat), l.length = m → (∀ j c, l[j]? = some c → CR T w S c.t c.x (u k (s + j))) → VRL T w S φ (l.map .cell) ((List.range' s m).map (u k)) := by
        intro l
        induction l with
        | nil => intro s m hm _; simp at hm; subst hm; simp [VRL]
        | cons c r ih =>
          intro s m hm hc
          cases m with
          | zero => simp at hm
          | succ m =>
            rw [List.map_cons, List.range'_succ, List.map_cons]
            refine ⟨hc 0 c rfl, ih (s + 1) m (by simpa using hm) fun j c' hj => ?_⟩
            have := hc (j + 1) c' (by simpa using hj)
            rwa [show s + 1 + j = s + (j + 1) by omega]
      have := key (flat T e x) 0 (szT T e) (flat_len T e x) (fun j c hj => by rw [Nat.zero_add]; exact hrel k j c (by rw [hx]; exact congrArg some hj))
      unfold cellsE
      rw [List.range_eq_range']
      exact this
theorem load_lptr_q {Z : Prop} {t : TypeId} {x : Operand} (hd : dec ops k n F' = some o) (hop : o.op = .load t x) {e : Ty} {xs : List (den T.U e)} {i c : Nat} {a : AV T.U} (hx : aev T F x = some (.lptr e xs i c)) (hl : loadC T P t (cellsE T e (xs.getD i (dflt T e))) c = some a)
    (h : Sim T w0 S0 ⟨F, H⟩ F' w S φ) (K : ∀ v, QR P F' o S φ rd w v → VR T w S φ a v → okA H a → Z) : Z := by
  obtain ⟨v, h1, ad, cap, h2, h3, rfl⟩ := aev_rel h.fr hx
  obtain ⟨vals, h4, h5, h6⟩ := list_elem (φ := φ) h2 h3
  exact load_rg hd hop (b := bk ad) (o0 := of ad + i * szT T e) (c := c) (by rw [h1, Nat.add_assoc]) (fun w1 hc _ => h4.chg hc (.inl h6)) h5 (cellsE_noE _ _) (cellsE_ids _ _) hl K
theorem decIndex_of {t : TypeId} {x y : Operand} (hd : dec ops k n F' = some o) (hop : o.op = .indexAddr t x y) : decIndex ops k n F' = some (o.dst, t, evD F' x, evD F' y) := by
  unfold decIndex; rw [hd]; cases o; simp only at hop; subst hop; rfl
theorem elemIs_spec {t : TypeId} {e : Ty} (h : elemIs T P t e = true) : elemSize P t = some (szT T e) := by
  unfold elemIs at h
  split at h
  · rename_i s hs; rw [hs, Nat.eq_of_beq_eq_true h]
  · cases h
theorem iteOpt {R : Type} {c : Prop} [Decidable c] {x : Option R} {r : R} (h : (if c then x else none) = some r) : c ∧ x = some r := by
  split at h
  · rename_i hc; exact ⟨hc, h⟩
  · cases h
/-- a row that is owned: where it lies. -/
theorem row_at (h : Sim T w0 S0 ⟨F, H⟩ F' w S φ) {i : Nat} {e : TypeId} {ty : Ty} {xs : List (den T.U ty)} (hi : H[i]? = some (.row e ty xs)) (hx : 0 < xs.length) :
    ∃ g c B vals, (φ i).ad = some ⟨g, 0, none⟩ ∧ (φ i).n = xs.length ∧ Own w B e (szT T ty) (φ i).ad xs.length (φ i).cap vals ∧ Blk w g c e ∧ c.size = (φ i).cap * szT T ty ∧ c.toList.take (xs.length * szT T ty) = vals ∧ CellsR T w S (xs.flatMap (flat T ty)) vals ∧ g ∈ S ∧ B ≤ g ∧ B ≤ w.heap.size ∧ xs.length ≤ (φ i).cap ∧ (φ i).cap ≤ maxLen := by
  obtain ⟨B, vals, h1, h2, h3, h4, h5⟩ := h.ents i _ hi
  rw [h2] at h1
  rcases h1.cases with ⟨_, hn, _⟩ | ⟨c, had, hB, hb, hle, hm, hs, ht⟩
  · omega
  · exact ⟨bk (φ i).ad, c, B, vals, had, h2, h1, hb, hs, ht, h4, h5 _ had, hB, h3, hle, hm⟩
theorem flat_at {α β : Type} {f : α → List β} {sz : Nat} (hf : ∀ y, (f y).length = sz) : ∀ {l : List α} {k : Nat} {x : α}, l[k]? = some x → ((l.flatMap f).drop (k * sz)).take sz = f x
  | [], k, x, h => by simp at h
  | y :: r, 0, x, h => by
    simp at h; subst h
    rw [List.flatMap_cons, Nat.zero_mul, List.drop_zero, List.take_append_of_le_length (by rw [hf]; exact Nat.le_refl _), List.take_of_length_le (by rw [hf]; exact Nat.le_refl _)]
  | y :: r, k + 1, x, h => by
    rw [List.flatMap_cons, show (k + 1) * sz = (f y).length + k * sz by rw [hf, Nat.succ_mul, Nat.add_comm], ← List.drop_drop, List.drop_left]
    exact flat_at hf (by simpa using h)
theorem CellsR.vrl : ∀ {cs : List (Cell T.U)} {vs : List Value}, CellsR T w S cs vs → VRL T w S φ (cs.map .cell) vs
  | [], [], _ => trivial
  | [], _ :: _, h => by have := h.1; simp at this
  | _ :: _, [], h => by have := h.1; simp at this
  | c :: r, v :: s, h => ⟨h.2 0 c v rfl rfl, CellsR.vrl ⟨by have := h.1; simpa using this, fun j c' v' h1 h2 => h.2 (j + 1) c' v' (by simpa using h1) (by simpa using h2)⟩⟩
theorem CellsR.cut {cs : List (Cell T.U)} {vs : List Value} (h : CellsR T w S cs vs) (a b : Nat) : CellsR T w S ((cs.drop a).take b) ((vs.drop a).take b) := by
  refine ⟨by rw [List.length_take, List.length_take, List.length_drop, List.length_drop, h.1], fun j c v h1 h2 => ?_⟩
  rw [List.getElem?_take] at h1 h2
  split at h1
  · rename_i hj
    rw [if_pos hj] at h2
    rw [List.getElem?_drop] at h1 h2
    exact h.2 _ c v h1 h2
  · cases h1
theorem row_elem (h : Sim T w0 S0 ⟨F, H⟩ F' w S φ) {i : Nat} {e : TypeId} {ty : Ty} {xs : List (den T.U ty)} (hi : H[i]? = some (.row e ty xs)) {j : Nat} (hj : j < xs.length) :
    ∃ g vals, (φ i).ad = some ⟨g, 0, none⟩ ∧ Rg w (some ⟨g, 0 + j * szT T ty, none⟩) vals ∧ VRL T w S φ (cellsE T ty (xs.getD j (dflt T ty))) vals := by
  obtain ⟨g, c, B, vals, h1, _, h3, _, _, _, h4, _⟩ := row_at h hi (by omega)
  refine ⟨g, (vals.drop (j * szT T ty)).take (szT T ty), h1, ?_, ?_⟩
  · have hr := h3.rg
    rw [h1] at hr
    exact hr.sub (j * szT T ty) (szT T ty) _ (fun _ => rfl)
  · have hc := h4.cut (j * szT T ty) (szT T ty)
    rw [flat_at (flat_len T ty) (getD_get (dflt T ty) hj)] at hc
    exact hc.vrl
theorem load_eptr_q {Z : Prop} {t : TypeId} {x : Operand} (hd : dec ops k n F' = some o) (hop : o.op = .load t x) {i sz j c : Nat} {e : TypeId} {ty : Ty} {xs : List (den T.U ty)} {a : AV T.U} (hx : aev T F x = some (.eptr i sz j c)) (hi : H[i]? = some (.row e ty xs)) (hl : loadC T P t (cellsE T ty (xs.getD j (dflt T ty))) c = some a)
    (h : Sim T w0 S0 ⟨F, H⟩ F' w S φ) (hrd : i ∈ rd) (K : ∀ v, QR P F' o S φ rd w v → VR T w S φ a v → okA H a → Z) : Z := by
  obtain ⟨v, h1, g, h2, rfl⟩ := aev_rel h.fr hx
  obtain ⟨hj, hsz⟩ := (aev_ok h hx).2 e ty xs hi
  obtain ⟨g', vals, h3, h4, h5⟩ := row_elem h hi hj
  have hlt := (h.own _ (liveIn h hi rfl h2)).2
  rw [h2] at h3; simp only [Option.some.injEq, Addr.mk.injEq, and_true] at h3; subst h3
  subst hsz
  exact load_rg hd hop (b := g) (o0 := 0 + j * szT T ty) (c := c) (by rw [h1, Nat.add_assoc]) (fun w1 _ hsm => Rg.same h4 (show w1.heap[g]? = w.heap[g]? from hsm i hrd ⟨g, 0, none⟩ h2 hlt)) h5 (cellsE_noE _ _) (cellsE_ids _ _) hl K
/-- an index into a slice. -/
theorem index_q {Z : Prop} {R : Type} {r : R} {t : TypeId} {x y : Operand} (hd : dec ops k n F' = some o) (hop : o.op = .indexAddr t x y) {s : AV T.U} {kk : IntKind} {j : Int} (hx : aev T F x = some s) (hy : aev T F y = some (cI T kk j)) {K0 : AV T.U → Option R} (hK0 : indexA T P t H s j K0 = some r)
    (h : Sim T w0 S0 ⟨F, H⟩ F' w S φ) (K : ∀ a v, K0 a = some r → QR P F' o S φ rd w v → VR T w S φ a v → okA H a → Z) : Z := by
  obtain ⟨X, h1, h2⟩ := aev_rel h.fr hx
  obtain ⟨Y, h3, h4⟩ := aev_rel h.fr hy
  have e := cint_rel h4; subst e
  have hdi := decIndex_of hd hop
  rw [evD_of h1, evD_of h3] at hdi
  unfold indexA at hK0
  split at hK0
  · rename_i e xs
    split at hK0
    · rename_i hel
      obtain ⟨hj, hK⟩ := iteOpt hK0
      have h2 : CR T w S (.list e) xs X := h2
      have h2' := h2
      cases h2' with
      | list _ _ ad cap u hcap hnil had hcell hrel =>
        have hne : xs ≠ [] := by intro e; subst e; simp at hj; omega
        obtain ⟨ha, _, _⟩ := had hne
        generalize bk ad = b at ha
        generalize of ad = of0 at ha
        subst ha
        refine K _ _ hK (QR.indexS hd hdi _ (elemIs_spec hel) j.toNat (by omega) (by omega)) ⟨_, cap, h2, by omega, rfl⟩ ?_
        exact ⟨fun i hi => (by cases hi), trivial⟩
    · cases hK0
  · rename_i i
    split at hK0
    · rename_i e ty xs hi
      split at hK0
      · rename_i hel
        obtain ⟨hj, hK⟩ := iteOpt hK0
        obtain ⟨g, c, B, vals, h5, h6, _⟩ := row_at h hi (by omega)
        rw [VR] at h2; subst h2
        rw [h5, h6] at hdi
        refine K _ _ hK (QR.indexS hd hdi _ (elemIs_spec hel) j.toNat (by omega) (by omega)) ⟨g, h5, by simp⟩ ?_
        refine ⟨(aev_ok h hx).1, ?_⟩
        intro e1 t1 ys hy1
        have hi' : H[i]? = some (.row e ty xs) := hi
        rw [hi'] at hy1
        simp only [Option.some.injEq, Ent.row.injEq] at hy1
        obtain ⟨rfl, rfl, hh⟩ := hy1
        have := eq_of_heq hh; subst this
        exact ⟨by omega, rfl⟩
      · cases hK0
    · cases hK0
  · rename_i i sz o1 m
    split at hK0
    · rename_i e ty xs hi
      split at hK0
      · rename_i hel hsz
        have hsz := Nat.eq_of_beq_eq_true hsz; subst hsz
        obtain ⟨hj, hK1⟩ := iteOpt hK0
        obtain ⟨hj2, hK⟩ := iteOpt hK1
        obtain ⟨ad, rfl, hcap, hn, _⟩ := h2
        rcases hn with hn | ⟨g, hg1, hg2⟩
        · omega
        · subst hg2
          refine K _ _ hK (QR.indexS hd hdi _ (elemIs_spec hel) j.toNat (by omega) (by omega)) ⟨g, hg1, by simp [Nat.add_mul]⟩ ?_
          refine ⟨(aev_ok h hx).1, ?_⟩
          intro e1 t1 ys hy1
          have hi' : H[i]? = some (.row e ty xs) := hi
          rw [hi'] at hy1
          simp only [Option.some.injEq, Ent.row.injEq] at hy1
          obtain ⟨rfl, rfl, hh⟩ := hy1
          have := eq_of_heq hh; subst this
          exact ⟨by omega, rfl⟩
      · cases hK0
    · rename_i e cs hi
      split at hK0
      · rename_i s hes
        split at hK0
        · rename_i hsz
          have hsz := Nat.eq_of_beq_eq_true hsz; subst hsz
          obtain ⟨hj, hK⟩ := iteOpt hK0
          obtain ⟨ad, rfl, hcap, hn, _⟩ := h2
          rcases hn with hn | ⟨g, hg1, hg2⟩
          · omega
          · subst hg2
            exact K _ _ hK (QR.indexS hd hdi _ hes j.toNat (by omega) (by omega)) ⟨g, hg1, by simp [Nat.add_mul]⟩ ⟨(aev_ok h hx).1, trivial⟩
        · cases hK0
      · cases hK0
    · cases hK0
  · rename_i i o0 sz n0 lo m
    split at hK0
    · rename_i s hes
      split at hK0
      · rename_i hsz
        have hsz := Nat.eq_of_beq_eq_true hsz; subst hsz
        obtain ⟨hj, hK⟩ := iteOpt hK0
        obtain ⟨g, ad, hg, rfl, hle, had⟩ := h2
        rcases had with had | rfl
        · omega
        · exact K _ _ hK (QR.indexS hd hdi _ hes j.toNat (by omega) (by omega)) ⟨g, hg, by omega, by simp [Nat.add_mul, Nat.add_assoc]⟩ ⟨(aev_ok h hx).1, trivial⟩
      · cases hK0
    · cases hK0
  · cases hK0
theorem decSlice_of {t : TypeId} {x : Operand} {lo hi : Option Operand} (hd : dec ops k n F' = some o) (hop : o.op = .slice t x lo hi none) : decSlice ops k n F' = some (o.dst, t, evD F' x, lo.map (evD F'), hi.map (evD F')) := by
  unfold decSlice; rw [hd]; cases o; simp only at hop; subst hop; rfl
theorem eIs_spec {t : TypeId} {e : Ty} (h : eIs T P t e = true) : ∃ et by_ zc, eInfo P t = some (et, szT T e, by_, zc) := by
  unfold eIs at h
  split at h
  · rename_i et sz by_ zc hs; exact ⟨et, by_, zc, by rw [hs, Nat.eq_of_beq_eq_true h]⟩
  · cases h
/-- where a part of a slice begins. -/
def cutAd (ad : Option Addr) (cap i sz : Nat) : Option Addr := if cap = i then ad else ad.map (·.add (i * sz))
theorem cutAd0 (ad : Option Addr) (cap sz : Nat) : cutAd ad cap 0 sz = ad := by
  unfold cutAd
  split
  · rfl
  · cases ad <;> simp [Addr.add]
theorem slice_q_any {Z : Prop} {t : TypeId} {x : Operand} {lo hi : Option Operand} (hd : dec ops k n F' = some o) (hop : o.op = .slice t x lo hi none) {ad : Option Addr} {m cap sz et by_ : Nat} {zc : Array Value} (hX : ev F' x = some (.slice ad m cap)) (hmc : m ≤ cap) {l h : Option Int} {kl kh : IntKind}
    (hl : lo.map (evD F') = l.map (Value.int kl)) (hh : hi.map (evD F') = h.map (Value.int kh)) (he : eInfo P t = some (et, sz, by_, zc)) (hj : 0 ≤ l.getD 0 ∧ l.getD 0 ≤ h.getD m ∧ h.getD m ≤ cap) (hne : l ≠ none ∨ h ≠ none)
    (K : QR P F' o S φ rd w (.slice (if l = none then ad else cutAd ad cap (l.getD 0).toNat sz) ((h.getD m).toNat - (l.getD 0).toNat) (if l = none then cap else cap - (l.getD 0).toNat)) → Z) : Z := by
  have hds := decSlice_of hd hop
  rw [evD_of hX, hl, hh] at hds
  cases l with
  | none =>
    cases h with
    | none => simp at hne
    | some h =>
      have := QR.sliceH (S := S) (φ := φ) (rd := rd) (w := w) hd hds he h.toNat (by simp at hj; omega) (by simp at hj; omega)
      exact K (by simpa using this)
  | some l =>
    cases h with
    | none =>
      have := QR.sliceL (S := S) (φ := φ) (rd := rd) (w := w) hd hds he l.toNat (by simp at hj; omega) (by simp at hj; omega)
      exact K (by simpa [cutAd] using this)
    | some h =>
      have := QR.sliceLH (S := S) (φ := φ) (rd := rd) (w := w) hd hds he l.toNat h.toNat (by simp at hj; omega) (by simp at hj; omega) (by simp at hj; omega) (by simp at hj; omega)
      exact K (by simpa [cutAd] using this)
theorem CR.sub {e : Ty} {xs : List (den T.U e)} {ad : Option Addr} {cap i m : Nat} (h : CR T w S (.list e) xs (.slice ad xs.length cap)) (hle : i + m ≤ xs.length) : CR T w S (.list e) ((xs.drop i).take m) (.slice (cutAd ad cap i (szT T e)) m (cap - i)) := by
  generalize hv : Value.slice ad xs.length cap = v at h
  cases h with
  | list _ _ ad' cap' u hcap hnil had hcell hrel =>
    simp only [Value.slice.injEq, true_and] at hv
    obtain ⟨rfl, rfl⟩ := hv
    have hlen : ((xs.drop i).take m).length = m := by rw [List.length_take, List.length_drop]; omega
    have hne : (xs.drop i).take m ≠ [] → xs ≠ [] := by intro h e; subst e; simp at h
    have hpos : (xs.drop i).take m ≠ [] → 0 < m := by
      intro h; cases m with
      | zero => simp at h
      | succ m => omega
    have hat : ∀ j, j < m → ((xs.drop i).take m)[j]? = xs[i + j]? := by intro j hj; rw [List.getElem?_take, if_pos hj, List.getElem?_drop]
    have hadr : (xs.drop i).take m ≠ [] → cutAd ad cap i (szT T e) = some ⟨bk ad, of ad + i * szT T e, none⟩ := by
      intro h
      obtain ⟨h1, _, _⟩ := had (hne h)
      have := hpos h
      unfold cutAd
      rw [if_neg (by omega)]
      generalize bk ad = b at h1 ⊢
      generalize of ad = o1 at h1 ⊢
      subst h1
      simp only [Option.map_some, Addr.add]
      split
      · rename_i h0; rw [h0]; rfl
      · rfl
    have hres : CR T w S (.list e) ((xs.drop i).take m) (.slice (cutAd ad cap i (szT T e)) ((xs.drop i).take m).length (cap - i)) := by
      refine .list e _ _ _ (fun k j => u (i + k) j) (by rw [hlen]; omega) ?_ ?_ ?_ ?_
      · intro ha
        unfold cutAd at ha
        split at ha
        · have := hnil ha; rw [hlen]; omega
        · cases ad with
          | none => have := hnil rfl; rw [hlen]; omega
          | some a => cases ha
      · intro h
        obtain ⟨h1, h2, h3⟩ := had (hne h)
        rw [hadr h]
        exact ⟨rfl, h2, h3⟩
      · intro k j c hk
        have hkm : k < m := by
          apply Classical.byContradiction; intro hn
          rw [List.getElem?_eq_none (by rw [hlen]; omega)] at hk; cases hk
        have hn : (xs.drop i).take m ≠ [] := by intro e; rw [e] at hk; simp at hk
        rw [hat k hkm] at hk
        have := hcell (i + k) j c hk
        rw [hadr hn]
        show w.cell? ⟨bk ad, of ad + i * szT T e + (k * szT T e + j), none⟩ = some (u (i + k) j)
        rw [show of ad + i * szT T e + (k * szT T e + j) = of ad + ((i + k) * szT T e + j) by rw [Nat.add_mul]; omega]
        exact this
      · intro k j c hk
        have hkm : k < m := by
          apply Classical.byContradiction; intro hn
          rw [List.getElem?_eq_none (by rw [hlen]; omega)] at hk; cases hk
        rw [hat k hkm] at hk
        exact hrel (i + k) j c hk
    rwa [hlen] at hres
/-- bounds of a slice expression. -/
def bndA (F : AF T) : Option Operand → Option (Option Int)
  | none => some none
  | some x => match aev T F x with | some a => (match intOf T a with | some i => some (some i) | none => none) | none => none
theorem bndA_rel (hF : FR T w S φ F F') {x : Option Operand} {l : Option Int} (h : bndA F x = some l) : ∃ kl, x.map (evD F') = l.map (Value.int kl) := by
  cases x with
  | none => simp only [bndA, Option.some.injEq] at h; subst h; exact ⟨.i64, rfl⟩
  | some y =>
    simp only [bndA] at h
    split at h
    · rename_i a ha
      split at h
      · rename_i i hi
        simp only [Option.some.injEq] at h; subst h
        obtain ⟨v, h1, h2⟩ := aev_rel hF ha
        unfold intOf at hi
        split at hi
        · rename_i k x
          have e := cint_rel h2; subst e
          refine ⟨k, ?_⟩
          have hi : x = i := Option.some.inj hi
          subst hi
          show some (evD F' y) = some (Value.int k x)
          rw [evD_of h1]
        · cases hi
      · cases h
    · cases h
theorem slice_q {Z : Prop} {R : Type} {r : R} {t : TypeId} {x : Operand} {lo hi : Option Operand} (hd : dec ops k n F' = some o) (hop : o.op = .slice t x lo hi none) {s : AV T.U} {l m : Option Int} (hx : aev T F x = some s) (hlo : bndA F lo = some l) (hhi : bndA F hi = some m) (hne : l ≠ none ∨ m ≠ none)
    {K0 : AV T.U → Option R} (hK0 : sliceA T P t H s l m K0 = some r) (h : Sim T w0 S0 ⟨F, H⟩ F' w S φ) (K : ∀ a v, K0 a = some r → QR P F' o S φ rd w v → VR T w S φ a v → okA H a → Z) : Z := by
  obtain ⟨X, h1, h2⟩ := aev_rel h.fr hx
  obtain ⟨kl, e1⟩ := bndA_rel h.fr hlo
  obtain ⟨kh, e2⟩ := bndA_rel h.fr hhi
  unfold sliceA at hK0
  split at hK0
  · rename_i e xs
    simp only at hK0
    split at hK0
    · rename_i he
      obtain ⟨hj, hK⟩ := iteOpt hK0
      obtain ⟨et, by_, zc, hei⟩ := eIs_spec he
      have h2 : CR T w S (.list e) xs X := h2
      have h2' := h2
      cases h2' with
      | list _ _ ad cap u hcap hnil had hcell hrel =>
        refine slice_q_any hd hop h1 hcap e1 e2 hei ⟨hj.1, hj.2.1, Int.le_trans hj.2.2 (by have := hcap; omega)⟩ hne fun hq => K (.cell ⟨.list e, _⟩) _ hK hq ?_ ⟨fun i hi => (by cases hi), trivial⟩
        show CR T w S (.list e) (List.take ((m.getD (xs.length : Int)).toNat - (l.getD 0).toNat) (List.drop (l.getD 0).toNat xs)) _
        have hle : (l.getD 0).toNat + ((m.getD (xs.length : Int)).toNat - (l.getD 0).toNat) ≤ xs.length := by omega
        have := CR.sub h2 hle
        cases l with
        | none =>
          have e0 : cutAd ad cap 0 (szT T e) = ad := by
            unfold cutAd
            split
            · rfl
            · cases ad with
              | none => rfl
              | some a => simp [Addr.add]
          simpa [e0] using this
        | some l => simpa using this
    · cases hK0
  · rename_i i
    split at hK0
    · rename_i e ty xs hi
      simp only at hK0
      split at hK0
      · rename_i he
        obtain ⟨hj, hK⟩ := iteOpt hK0
        obtain ⟨et, by_, zc, hei⟩ := eIs_spec he
        rw [VR] at h2; subst h2
        obtain ⟨B, vals, g1, g2, _, _, _⟩ := h.ents i _ hi
        have hcap : (φ i).n ≤ (φ i).cap := g1.le.1
        rw [← g2] at hj
        refine slice_q_any hd hop h1 hcap e1 e2 hei ⟨hj.1, hj.2.1, by have := hj.2.2; omega⟩ hne fun hq => K (.sl i (szT T ty) (l.getD 0).toNat ((m.getD (xs.length : Int)).toNat - (l.getD 0).toNat)) _ hK hq ?_ ⟨(aev_ok h hx).1, trivial⟩
        have hlo : (if l = none then (φ i).cap else (φ i).cap - (l.getD 0).toNat) = (φ i).cap - (l.getD 0).toNat := by cases l <;> simp
        have had0 : (l.getD 0).toNat = 0 → (if l = none then (φ i).ad else cutAd (φ i).ad (φ i).cap (l.getD 0).toNat (szT T ty)) = (φ i).ad := by
          intro h0
          cases l with
          | none => rfl
          | some l => simp only [reduceCtorEq, if_false]; rw [h0, cutAd0]
        rw [VR, ← g2, hlo]
        refine ⟨_, rfl, ?_, ?_, ?_, had0⟩
        · cases l <;> simp at hj ⊢ <;> omega
        · rcases g1.cases with ⟨_, hn, _⟩ | ⟨c, had, _, _, _⟩
          · left; omega
          · by_cases h0 : (m.getD ((φ i).n : Int)).toNat - (l.getD 0).toNat = 0
            · exact .inl h0
            · obtain ⟨g, hg⟩ : ∃ g, (φ i).ad = some ⟨g, 0, none⟩ := ⟨_, had⟩
              refine .inr ⟨g, hg, ?_⟩
              cases l with
              | none => simpa using hg
              | some l =>
                simp only [reduceCtorEq, if_false, Option.getD_some] at hj h0 ⊢
                unfold cutAd
                rw [if_neg (by omega), hg]
                simp only [Option.map_some, Addr.add]
                split
                · rename_i hz; simp [hz]
                · simp
        · intro ha
          rcases g1.cases with ⟨hn0, hn, hc0, _⟩ | ⟨c, had, _, _, _⟩
          · cases l <;> simp at hj ⊢ <;> omega
          · cases l with
            | none => simp at ha; rw [ha] at had; cases had
            | some l =>
              simp only [reduceCtorEq, if_false, Option.getD_some] at ha hj ⊢
              unfold cutAd at ha
              split at ha
              · rw [ha] at had; cases had
              · rw [had] at ha; cases ha
      · cases hK0
    · cases hK0
  · rename_i i sz o1 m1
    split at hK0
    · rename_i e ty xs hi
      simp only at hK0
      split at hK0
      · rename_i he hsz
        have hsz := Nat.eq_of_beq_eq_true hsz; subst hsz
        obtain ⟨hj, hK⟩ := iteOpt hK0
        obtain ⟨et, by_, zc, hei⟩ := eIs_spec he
        obtain ⟨ad, rfl, hcap, hn, hnil, hz1⟩ := h2
        have hrow : xs.length ≤ (φ i).cap := by
          obtain ⟨B, vals, g1, g2, _, _, _⟩ := h.ents i _ hi
          have := g1.le.1; omega
        have hjc : m.getD (m1 : Int) ≤ (((φ i).cap - o1 : Nat) : Int) := by
          have := hj.2.1
          rcases hj.2.2 with h3 | ⟨h3, _⟩ <;> omega
        refine slice_q_any hd hop h1 (by omega) e1 e2 hei ⟨hj.1, hj.2.1, hjc⟩ hne fun hq => K (.sl i (szT T ty) (o1 + (l.getD 0).toNat) ((m.getD (m1 : Int)).toNat - (l.getD 0).toNat)) _ hK hq ?_ ⟨(aev_ok h hx).1, trivial⟩
        have hlo : (if l = none then (φ i).cap - o1 else (φ i).cap - o1 - (l.getD 0).toNat) = (φ i).cap - (o1 + (l.getD 0).toNat) := by cases l <;> simp <;> omega
        have had0 : o1 + (l.getD 0).toNat = 0 → (if l = none then ad else cutAd ad ((φ i).cap - o1) (l.getD 0).toNat (szT T ty)) = (φ i).ad := by
          intro h0
          rw [← hz1 (by omega)]
          cases l with
          | none => rfl
          | some l => simp only [reduceCtorEq, if_false]; rw [show (Option.getD (some l) (0 : Int)).toNat = 0 by omega, cutAd0]
        rw [VR, hlo]
        refine ⟨_, rfl, ?_, ?_, ?_, had0⟩
        · have := hj.1; have := hj.2.1; omega
        · by_cases h0 : (m.getD (m1 : Int)).toNat - (l.getD 0).toNat = 0
          · exact .inl h0
          · have hn : ∃ g, (φ i).ad = some ⟨g, 0, none⟩ ∧ ad = some ⟨g, 0 + o1 * szT T ty, none⟩ := by
              rcases hn with hn | hn
              · rcases hj.2.2 with h3 | ⟨h3, h4⟩
                · omega
                · have ho : o1 = 0 := by omega
                  subst ho
                  obtain ⟨B, vals, g1, g2, _, _, _⟩ := h.ents i _ hi
                  rcases g1.cases with ⟨_, hn0, _⟩ | ⟨c, had, _, _, _⟩
                  · omega
                  · exact ⟨_, had, (hz1 rfl).trans (had.trans (by rw [Nat.zero_mul]))⟩
              · exact hn
            rcases hn with ⟨g, hg1, hg2⟩
            · refine .inr ⟨g, hg1, ?_⟩
              subst hg2
              cases l with
              | none => simp
              | some l =>
                simp only [reduceCtorEq, if_false, Option.getD_some] at hj h0 ⊢
                unfold cutAd
                rw [if_neg (by omega)]
                simp only [Option.map_some, Addr.add]
                split
                · rename_i hz; simp [Nat.add_mul, hz]
                · simp [Nat.add_mul]
        · intro ha
          cases l with
          | none => simp at ha; have := hnil ha; simp at hj ⊢; omega
          | some l =>
            simp only [reduceCtorEq, if_false, Option.getD_some] at ha hj ⊢
            unfold cutAd at ha
            split at ha
            · have := hnil ha; omega
            · cases ad with
              | none => have := hnil rfl; omega
              | some a => cases ha
      · cases hK0
    · cases hK0
  · rename_i i o0 sz n0 o1 m1
    simp only at hK0
    split at hK0
    · rename_i et s by_ zc hei
      split at hK0
      · rename_i hsz
        have hsz := Nat.eq_of_beq_eq_true hsz; subst hsz
        obtain ⟨hj, hK⟩ := iteOpt hK0
        obtain ⟨g, ad, hg, rfl, hle, had⟩ := h2
        refine slice_q_any hd hop h1 (by omega) e1 e2 hei ⟨hj.1, hj.2.1, by have := hj.2.2; omega⟩ hne fun hq => K (.asl i o0 s n0 (o1 + (l.getD 0).toNat) ((m.getD (m1 : Int)).toNat - (l.getD 0).toNat)) _ hK hq ?_ ⟨(aev_ok h hx).1, trivial⟩
        rw [VR]
        cases l with
        | none => exact ⟨g, ad, hg, by simp, by simp at hj ⊢; omega, by simpa using had⟩
        | some l =>
          simp only [reduceCtorEq, if_false, Option.getD_some] at hj ⊢
          unfold cutAd
          split
          · rename_i hc0
            exact ⟨g, ad, hg, by rw [Nat.sub_sub], by omega, .inl (by omega)⟩
          · rename_i hc0
            refine ⟨g, ad.add (l.toNat * s), hg, by rw [Nat.sub_sub]; rfl, by omega, ?_⟩
            rcases had with had | had
            · left; omega
            · right
              subst had
              simp only [Addr.add]
              split
              · rename_i hz; simp [Nat.add_mul, hz]
              · simp [Nat.add_mul, Nat.add_assoc]
      · cases hK0
    · cases hK0
  · cases hK0
end
end Go.X
