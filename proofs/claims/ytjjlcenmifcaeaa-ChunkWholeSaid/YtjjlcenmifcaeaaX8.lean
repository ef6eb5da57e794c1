/- One step of the interpreter is the machine's. Nothing here is about one program. -/
import Derived.Test.YtjjlcenmifcaeaaX7
import Derived.Laws.BytesString
import Derived.Laws.IdiomStrings
namespace Go.X
open Go.RowKit Go.V

section
variable {T : Tab} {P : Program} {C : Ctx T} {w w' : World} {S S' : List Nat} {φ φ' : Nat → RA} {w0 : World} {S0 : Ow} {F : AF T} {H : List (Ent T.U)} {F' : PF}
variable {ops : Array Oper} {Q : Exit → Act → World → Prop} {k n : Nat} {ds : List Deferred} {o : Oper}
/-- what stands behind a panic. -/
def PKont (Q : Exit → Act → World → Prop) (n : Nat) (ds : List Deferred) (w0 : World) (S0 : Ow) (a : AV T.U) (st : St T) : Prop :=
  ∀ F1 w1 S1 φ1 v, Sim T w0 S0 st F1 w1 S1 φ1 → VR T w1 S1 φ1 a v → okA st.H a → ∀ act, Fr n ds F1 act → Q (.panic [{ v := v, recovered := false }]) act w1
theorem VRL.append : ∀ {as bs : List (AV T.U)} {us vs : List Value}, VRL T w S φ as us → VRL T w S φ bs vs → VRL T w S φ (as ++ bs) (us ++ vs)
  | [], _, [], _, _, h => h
  | [], _, _ :: _, _, h, _ => h.elim
  | _ :: _, _, [], _, h, _ => h.elim
  | _ :: _, _, _ :: _, _, h, h2 => ⟨h.1, VRL.append h.2 h2⟩
theorem idsL_append : ∀ (as bs : List (AV T.U)), idsL (as ++ bs) = idsL as ++ idsL bs
  | [], _ => rfl
  | a :: r, bs => by rw [List.cons_append, idsL, idsL_append r bs, idsL, List.append_assoc]
theorem all_okA : ∀ {as : List (AV T.U)}, as.all notEp = true → (∀ i ∈ idsL as, i < H.length) → ∀ a ∈ as, okA H a
  | [], _, _, a, ha => by cases ha
  | b :: r, h, hi, a, ha => by
    simp only [List.all_cons, Bool.and_eq_true] at h
    rw [idsL] at hi
    rcases List.mem_cons.1 ha with rfl | ha
    · exact okA_notEp h.1 fun i hj => hi i (List.mem_append.2 (.inl hj))
    · exact all_okA h.2 (fun i hj => hi i (List.mem_append.2 (.inr hj))) a ha
theorem enterable_run {f : FuncId} (h : enterable P f = true) (args : Array Value) (w : World) : (callFunc f args).run P w = .ok (.enter f args) w := by
  unfold enterable at h
  split at h
  · rename_i fn hf
    simp only [Bool.and_eq_true, Bool.not_eq_true', beq_eq_false_iff_ne, ne_eq] at h
    have hb : fn.body ≠ none := by intro e; rw [e] at h; cases h.2
    simp [callFunc, hf, h.1, hb]
  · cases h
theorem callV_args {c : Call} {f : Operand} {g : FuncId} {first caps as : List (AV T.U)} (hop : o.op = .call c) (hc : c.callee = .value f) (hf : aev T F f = some (.fn (.func g) first caps)) (ha : aevL T F c.args.toList = some as)
    (he : enterable P g = true) (hall : (first ++ as ++ caps).all notEp = true) (h : Sim T w0 S0 ⟨F, H⟩ F' w S φ) :
    ∃ vs : List Value, VRL T w S φ (first ++ as ++ caps) vs ∧ (∀ a ∈ first ++ as ++ caps, okA H a) ∧ ∀ w1, (execOp (evD F') o).run P w1 = .ok (.enter g vs.toArray) w1 := by
  obtain ⟨X, h1, va, vb, rfl, h3, h4⟩ := aev_rel h.fr hf
  have h5 := aevL_rel h.fr ha
  have hids : ∀ i ∈ idsL (first ++ as ++ caps), i < H.length := by
    intro i hi
    rw [idsL_append, idsL_append] at hi
    have hfi := (aev_ok h hf).1
    rcases List.mem_append.1 hi with hi | hi
    · rcases List.mem_append.1 hi with hi | hi
      · exact hfi i (by rw [AV.ids]; exact List.mem_append.2 (.inl hi))
      · exact aevL_ids h ha i hi
    · exact hfi i (by rw [AV.ids]; exact List.mem_append.2 (.inr hi))
  refine ⟨_, (h3.append h5).append h4, all_okA hall hids, fun w1 => ?_⟩
  simp [execOp, hop, resolve, hc, evD_of h1, Deferred.ofValue, invoke, enterable_run he]
theorem callV_wr {R : Type} {r : R} {c : Call} {f : Operand} {g : FuncId} {first caps as : List (AV T.U)} {cs : CallSpec T} (hd : dec ops k n F' = some o) (hop : o.op = .call c) (hc : c.callee = .value f) (hf : aev T F f = some (.fn (.func g) first caps)) (ha : aevL T F c.args.toList = some as)
    (he : enterable P g = true) (hs : SoundCall T P g cs) (hall : (first ++ as ++ caps).all notEp = true) {K0 Kp : AV T.U → List (Ent T.U) → Option R} (hK0 : cs.call (first ++ as ++ caps) H K0 Kp = some r) (h : Sim T w0 S0 ⟨F, H⟩ F' w S φ)
    (K : ∀ b H1, K0 b H1 = some r → Kont P ops Q (k + 1) n ds w0 S0 (⟨updA T F o.dst b, H1⟩ : St T)) (Kpan : ∀ b H1, Kp b H1 = some r → PKont Q n ds w0 S0 b (⟨F, H1⟩ : St T)) : WR P ops Q k n ds F' w := by
  obtain ⟨vs, h1, h2, h3⟩ := callV_args hop hc hf ha he hall h
  refine .enter (f := g) (args := vs.toArray) hd (h3 w) (hs _ H K0 Kp r hK0 w0 S0 F F' w S φ h _ h1 h2) ?_ ?_ ?_
  · rintro v w'' ⟨a, H1, g1, S1, φ1, g2, g3, g4⟩
    exact K a H1 g1 _ _ ⟨S1, φ1, g2.slot g3 g4⟩
  · rintro ch w'' ⟨a, H1, g1, v, rfl, S1, φ1, g2, g3, g4⟩ act hact
    exact Kpan a H1 g1 _ _ _ _ _ g2 g3 g4 act hact
  · intro w'' hR; exact hR.elim
theorem cI_ok (kk : IntKind) (z : Int) : okA H (cI T kk z) := ⟨fun i hi => (by cases hi), trivial⟩
theorem lenOf_rel {t : TypeId} {a : AV T.U} {z : Int} (hl : lenOf P t H a = some z) (h : Sim T w0 S0 ⟨F, H⟩ F' w S φ) {v : Value} (hv : VR T w S φ a v) (ty : TypeId) (w1 : World) : (Builtin.len_ #[t] ty #[v]).run P w1 = .ok (.int .i64 z) w1 := by
  unfold lenOf at hl
  split at hl
  · rename_i e hu
    split at hl
    · rename_i m hm
      simp only [Option.some.injEq] at hl; subst hl
      have hv' : ∃ ad cap, v = .slice ad m cap := by
        unfold lenA at hm
        split at hm
        · simp only [Option.some.injEq] at hm; subst hm
          have hv : CR T w S _ _ v := hv
          cases hv; exact ⟨_, _, rfl⟩
        · split at hm
          · rename_i e' t' xs hi
            simp only [Option.some.injEq] at hm; subst hm
            rw [VR] at hv; subst hv
            obtain ⟨B, vals, _, q2, _⟩ := h.ents _ _ hi
            rw [q2]; exact ⟨_, _, rfl⟩
          · rename_i hi
            simp only [Option.some.injEq] at hm; subst hm
            rw [VR] at hv; subst hv
            obtain ⟨B, vals, _, q2, _⟩ := h.ents _ _ hi
            rw [q2]; exact ⟨_, _, rfl⟩
          · cases hm
        · simp only [Option.some.injEq] at hm; subst hm
          obtain ⟨ad, rfl, _⟩ := hv
          exact ⟨_, _, rfl⟩
        · simp only [Option.some.injEq] at hm; subst hm
          obtain ⟨g, ad, _, rfl, _⟩ := hv
          exact ⟨_, _, rfl⟩
        · simp only [Option.some.injEq] at hm; subst hm
          rw [VR] at hv; subst hv; exact ⟨_, _, rfl⟩
        · cases hm
      obtain ⟨ad, cap, rfl⟩ := hv'
      simp [Builtin.len_, run_underlying hu, goInt]
    · cases hl
  · rename_i hu
    split at hl
    · simp only [Option.some.injEq] at hl; subst hl
      have := cstr_rel hv; subst this
      simp [Builtin.len_, run_underlying hu, goInt]
    · cases hl
  · cases hl
theorem minA_rel {as : List (AV T.U)} {a : AV T.U} (ha : minA T as = some a) {vs : List Value} (hv : VRL T w S φ as vs) (t : Array TypeId) (ty : TypeId) : ∃ v, (∀ w1, (Builtin.min_ t ty vs.toArray).run P w1 = .ok v w1) ∧ VR T w S φ a v ∧ okA H a := by
  unfold minA at ha
  split at ha
  · simp only [Option.some.injEq] at ha; subst ha
    match vs, hv with
    | [v], hv => have := cint_rel hv.1; subst this; exact ⟨_, fun w1 => by simp [Builtin.min_], VR.int _ _, cI_ok _ _⟩
  · split at ha
    · rename_i hk
      have := kindEq_eq hk; subst this
      simp only [Option.some.injEq] at ha; subst ha
      match vs, hv with
      | [u, v], hv => have := cint_rel hv.1; subst this; have := cint_rel hv.2.1; subst this; exact ⟨_, fun w1 => by simp [Builtin.min_, Builtin.min2, gMin], VR.int _ _, cI_ok _ _⟩
    · cases ha
  · cases ha
theorem maxA_rel {as : List (AV T.U)} {a : AV T.U} (ha : maxA T as = some a) {vs : List Value} (hv : VRL T w S φ as vs) (t : Array TypeId) (ty : TypeId) : ∃ v, (∀ w1, (Builtin.max_ t ty vs.toArray).run P w1 = .ok v w1) ∧ VR T w S φ a v ∧ okA H a := by
  unfold maxA at ha
  split at ha
  · simp only [Option.some.injEq] at ha; subst ha
    match vs, hv with
    | [v], hv => have := cint_rel hv.1; subst this; exact ⟨_, fun w1 => by simp [Builtin.max_], VR.int _ _, cI_ok _ _⟩
  · split at ha
    · rename_i hk
      have := kindEq_eq hk; subst this
      simp only [Option.some.injEq] at ha; subst ha
      match vs, hv with
      | [u, v], hv => have := cint_rel hv.1; subst this; have := cint_rel hv.2.1; subst this; exact ⟨_, fun w1 => by simp [Builtin.max_, Builtin.max2, gMax], VR.int _ _, cI_ok _ _⟩
    · cases ha
  · cases ha
theorem toList_eq_one {α : Type} {a : Array α} {x : α} (h : a.toList = [x]) : a = #[x] := by rw [← Array.toArray_toList (xs := a), h]
theorem assertA_ids {a b : AV T.U} {t : TypeId} {ok : Bool} (h : assertA T P a t ok = some b) : ∀ i ∈ b.ids, i ∈ a.ids := by
  unfold assertA at h
  split at h
  · split at h
    · cases h
    · split at h
      · split at h
        · simp only [Option.some.injEq] at h; subst h; intro i hi; simpa [AV.ids, idsL] using hi
        · simp only [Option.some.injEq] at h; subst h; intro i hi; simpa [AV.ids] using hi
      · split at h
        · rename_i z hz
          simp only [Option.some.injEq] at h; subst h
          unfold zeroV at hz
          split at hz
          · split at hz
            · simp only [Option.some.injEq] at hz; subst hz
              intro i hi; simp [AV.ids, idsL, ofV_ids] at hi
            · cases hz
          · cases hz
        · cases h
  · cases h
theorem assertA_run {a b : AV T.U} {t xt : TypeId} {ok : Bool} (h : assertA T P a t ok = some b) {v : Value} (hv : VR T w S φ a v) : ∃ u, (∀ w1, (Instr.typeAssert v xt t ok).run P w1 = .ok u w1) ∧ VR T w S φ b u := by
  unfold assertA at h
  split at h
  · rename_i d t' x hu
    obtain ⟨u, rfl, hu'⟩ := hv
    split at h
    · cases h
    · rename_i hni
      split at h
      · rename_i hb
        have := Nat.eq_of_beq_eq_true hb; subst this
        split at h
        · simp only [Option.some.injEq] at h; subst h
          refine ⟨.tuple #[u, .bool true], fun w1 => ?_, ⟨_, rfl, hu', VR.bool _, trivial⟩⟩
          cases d <;> first | (exact (hni _ rfl).elim) | simp [Instr.typeAssert, run_underlying hu]
        · simp only [Option.some.injEq] at h; subst h
          refine ⟨u, fun w1 => ?_, hu'⟩
          cases d <;> first | (exact (hni _ rfl).elim) | simp [Instr.typeAssert, run_underlying hu]
      · rename_i hb
        have hne : t' ≠ t := by intro e; subst e; simp at hb
        split at h
        · rename_i z hz
          simp only [Option.some.injEq] at h; subst h
          unfold zeroV at hz
          split at hz
          · rename_i i hi
            split at hz
            · rename_i zv hzv
              simp only [Option.some.injEq] at hz; subst hz
              refine ⟨.tuple #[zv, .bool false], fun w1 => ?_, ⟨_, rfl, ofV_rel T zv, VR.bool _, trivial⟩⟩
              cases d <;> first | (exact (hni _ rfl).elim) | simp [Instr.typeAssert, run_underlying hu, hne, zeroValue, typeInfo, hi, hzv]
            · cases hz
          · cases hz
        · cases h
  · cases h
theorem CellsR.cons {c : Cell T.U} {cs : List (Cell T.U)} {vs : List Value} (h : CellsR T w S (c :: cs) vs) : ∃ v r, vs = v :: r ∧ CellR T w S c v ∧ CellsR T w S cs r := by
  obtain ⟨h1, h2⟩ := h
  cases vs with
  | nil => cases h1
  | cons v r => exact ⟨v, r, rfl, h2 0 c v rfl rfl, by simpa using h1, fun j c' v' hc hv => h2 (j + 1) c' v' (by simpa using hc) (by simpa using hv)⟩
theorem bytes_map : ∀ (xs : List (den T.U (.int .u8))) {vals : List Value}, CellsR T w S (xs.flatMap (flat T (.int .u8))) vals → vals = List.map (fun x : Int => Value.int .u8 x) xs
  | [], vals, h => by
    obtain ⟨h1, _⟩ := h
    cases vals with
    | nil => rfl
    | cons _ _ => cases h1
  | x :: r, vals, h => by
    have h : CellsR T w S (⟨.int .u8, x⟩ :: r.flatMap (flat T (.int .u8))) vals := h
    obtain ⟨v, vs, rfl, h1, h2⟩ := h.cons
    rw [bytes_map r h2]
    have := cint_rel (T := T) (φ := fun _ => ⟨none, 0, 0, []⟩) (v := v) h1
    rw [this]; rfl
/-- what is owned, in a world in which it is as it was. -/
theorem rows_same {rd ids : List Nat} {w1 : World} (h : Sim T w0 S0 ⟨F, H⟩ F' w S φ) (hc : Chg S w w1) (hsm : Same φ rd w w1) (hrd : ∀ i ∈ ids, i ∈ rd) : RowsR T w1 S φ H ids := by
  intro i hi en hy hm
  have hent := h.ents i _ hy
  cases en with
  | row e1 t1 ys =>
    obtain ⟨B, vals, o1, o2, o3, o4, o5⟩ := hent
    refine ⟨B, vals, ?_, o2, Nat.le_trans o3 hc.size, o4.chg T hc (fun _ h => h) (fun b hb => .inl hb), o5⟩
    rcases o1.cases with ⟨g1, g2, g3, g4⟩ | ⟨c, had, hB, hblk, hle, hmx, hsz, ht⟩
    · rw [g1, g2, g3, g4]; exact Own.nil _ _ _ _
    · have hq := hsm i (hrd i hi) _ had hblk.lt
      have hblk' : Blk w1 (bk (φ i).ad) c e1 := hq.trans hblk
      rw [had]
      exact Own.ofBlk hblk' hB hle hmx hsz _ ht
  | blk e1 cs =>
    obtain ⟨g, c, o1, o2, o3, o4⟩ := hent
    exact ⟨g, c, o1, (hsm i (hrd i hi) _ o1 o2.lt).trans o2, o3, o4.chg T hc (fun _ h => h) (fun b hb => .inl hb)⟩
  | map k es => cases hm
  | tmap k t m => cases hm
  | drow _ _ _ _ _ => cases hm
  | pmap _ _ _ _ _ => cases hm
  | gone => cases hm
theorem convert_q {Z : Prop} {R : Type} {r : R} {rd : List Nat} {s d e : TypeId} {x : Operand} (hop : o.op = .convert s d x) {a : AV T.U} (hx : aev T F x = some a) (hs : P.underlying s = some (.slice e)) (hdu : P.underlying d = some .string) (he : P.underlying e = some (.int .u8))
    {K0 : AV T.U → Option R} (hK0 : rdF T H (.list (.int .u8)) a (fun xs => K0 (.cell ⟨.str, bytesStr xs⟩)) = some r) (hrd : ∀ i ∈ a.ids, i ∈ rd) (h : Sim T w0 S0 ⟨F, H⟩ F' w S φ) (K : ∀ a v, K0 a = some r → QR P F' o S φ rd w v → VR T w S φ a v → okA H a → Z) : Z := by
  obtain ⟨X, h1, h2⟩ := aev_rel h.fr hx
  obtain ⟨xs, hK, hdet⟩ := rdF_det (t := .list (.int .u8)) hK0
  refine K _ (.string (bytesStr xs)) hK ?_ (CR.str _) (okA_of_nil rfl (by intro _ _ _ _ e; cases e))
  intro w1 hc hsm
  have hrows : RowsR T w1 S φ H a.ids := rows_same h hc hsm hrd
  obtain ⟨xs', hx', hv⟩ := rdF_rel (w := w1) (t := .list (.int .u8)) (K := some) (by rw [hdet]) hrows (h2.chg T hc (fun _ h => h) fun b hb => .inl hb) φ
  have hx' : xs' = xs := Option.some.inj hx'
  rw [hx'] at hv
  have hcr : CR T w1 [] (.list (.int .u8)) xs X := hv
  have hsl : ∃ ad cap, X = .slice ad (List.length (α := Int) xs) cap := by
    cases hcr with
    | list _ _ ad cap u _ _ _ _ _ => exact ⟨ad, cap, rfl⟩
  obtain ⟨ad, cap, rfl⟩ := hsl
  obtain ⟨_, hnil, vals, hrg, hcl⟩ := list_row hcr
  have hvals := bytes_map _ hcl
  have hexec : execOp (evD F') o = (do return Next.value (← convert s d (evD F' x))) := by
    cases o; simp only at hop; subst hop; rfl
  have hcv : (convert s d (.slice ad (List.length (α := Int) xs) cap)).run P w1 = .ok (.string (bytesStr xs)) w1 := by
    rw [run_convert_bytes_string w1 s d e ad _ cap hs he hdu]
    cases had : ad with
    | none =>
      have : xs = [] := List.eq_nil_of_length_eq_zero (hnil had).1
      subst this
      rfl
    | some a0 =>
      subst had
      have hcells := run_loadCells_list (P := P) (w := w1) a0 vals (fun j v hj => by
        have := (hrg j v hj).2
        by_cases hne : xs = []
        · subst hne; rw [hvals] at hj; cases hj
        · cases hcr with
          | list _ _ _ _ u hcap hnil' had' _ _ =>
            obtain ⟨e1, _, _⟩ := had' hne
            simp only [Option.some.injEq] at e1
            rw [e1, Addr.add]
            split
            · rename_i h0; simpa [h0] using this
            · simpa using this)
      have hl : vals.length = List.length (α := Int) xs := by rw [hvals]; exact List.length_map ..
      rw [hl, hvals] at hcells
      exact run_bytesToString w1 a0 _ cap xs hcells
  rw [hexec, evD_of h1]
  show ((convert s d (.slice ad (List.length (α := Int) xs) cap)) >>= fun y => pure (Next.value y)).run P w1 = _
  rw [Sem.run_bind, hcv]; rfl
theorem bytes_cr {g : Nat} {e : TypeId} {fz : Nat × Nat} {b : ByteArray} {cap : Nat} (hb : w.heap[g]? = some (.cells (bytesRow b cap) e fz)) (hge : b.size ≤ cap) (hg : g ∉ S) : CR T w S (.list (.int .u8)) (strBytes b) (.slice (some ⟨g, 0, none⟩) b.size cap) := by
  have hl : List.length (α := den T.U (.int .u8)) (strBytes b) = b.size := by
    exact strBytes_len b
  have hlt := (Array.getElem?_eq_some_iff.1 hb).1
  have hone : ∀ (k j : Nat) (c : Cell T.U), ((strBytes b : List (den T.U (.int .u8)))[k]?.map fun x => (flat T (.int .u8) x)[j]?) = some (some c) → ∃ y : UInt8, b.data[k]? = some y ∧ j = 0 ∧ c = ⟨.int .u8, (y.toNat : Int)⟩ := by
    intro k j c h
    have h : ((b.data.toList.map fun b => (b.toNat : Int))[k]?.map fun x => ([⟨.int .u8, x⟩] : List (Cell T.U))[j]?) = some (some c) := h
    rw [List.getElem?_map, Array.getElem?_toList] at h
    cases hk : b.data[k]? with
    | none => rw [hk] at h; cases h
    | some y =>
      rw [hk] at h
      have h : ([⟨.int .u8, (y.toNat : Int)⟩] : List (Cell T.U))[j]? = some c := Option.some.inj h
      cases j with
      | zero => exact ⟨y, rfl, rfl, (Option.some.inj h).symm⟩
      | succ j => cases h
  have key := CR.list (T := T) (w := w) (S := S) (.int .u8) (strBytes b) (some ⟨g, 0, none⟩) cap (fun k _ => .int .u8 (((b.data[k]?).getD 0).toNat : Int)) (by rw [hl]; exact hge) (fun h => by cases h) (fun _ => ⟨rfl, hlt, hg⟩)
    (fun k j c h => by
      obtain ⟨y, h1, h2, _⟩ := hone k j c h
      subst h2
      have hk := (Array.getElem?_eq_some_iff.1 h1).1
      show w.cell? ⟨g, 0 + (k * 1 + 0), none⟩ = _
      have e1 : 0 + (k * 1 + 0) = k := by omega
      rw [e1]
      unfold World.cell?
      simp only [hb]
      show (bytesRow b cap)[k]? = _
      unfold bytesRow
      rw [Array.getElem?_append_left (by rw [Array.size_map]; exact hk), Array.getElem?_map, h1]; rfl)
    (fun k j c h => by
      obtain ⟨y, h1, h2, rfl⟩ := hone k j c h
      show CR T w S (.int .u8) (y.toNat : Int) (.int .u8 (((b.data[k]?).getD 0).toNat : Int))
      rw [h1]; exact .int _ _)
  rwa [hl] at key
theorem CR.same (hs : w.heap.size ≤ w'.heap.size) (hc : ∀ (a : Addr) (v : Value), w.cell? a = some v → w'.cell? a = some v) {t : Ty} {x : den T.U t} {v : Value} (h : CR T w S t x v) : CR T w' S t x v := by
  induction h with
  | int k x => exact .int k x
  | bool b => exact .bool b
  | str s => exact .str s
  | nl e xs ad cap _ hn ih => exact .nl e xs ad cap ih hn
  | list e xs ad cap u hcap hnil had hcell hrel ih =>
    refine .list e xs ad cap u hcap hnil (fun hx => ?_) (fun k j c hk => hc _ _ (hcell k j c hk)) ih
    obtain ⟨h1, h2, h3⟩ := had hx
    exact ⟨h1, Nat.lt_of_lt_of_le h2 hs, h3⟩
/-- a block that no entry holds does not change any more. -/
theorem Sim.less (h : Sim T w0 S0 ⟨F, H⟩ F' w S φ) {g : Nat} (hfree : ∀ (j : Nat) (e : Ent T.U), H[j]? = some e → e.live = true → ∀ a, At (φ j) a → a.block ≠ g) (hg : g ∈ S0.chg ∨ w0.heap.size ≤ g) : Sim T w0 S0 ⟨F, H⟩ F' w (S.filter fun b => !Nat.beq b g) φ := by
  have hsub : ∀ b ∈ S.filter (fun b => !Nat.beq b g), b ∈ S := fun b hb => (List.mem_filter.1 hb).1
  have hin : ∀ {b : Nat}, b ∈ S → b ≠ g → b ∈ S.filter fun b => !Nat.beq b g := fun hb hne => List.mem_filter.2 ⟨hb, by cases hq : Nat.beq _ g with | true => exact absurd (Nat.eq_of_beq_eq_true hq) hne | false => rfl⟩
  refine ⟨fun j a ha => ?_, h.ids, h.chg, fun b hb => h.own b (hsub b hb), fun b hb q1 q2 => hin (h.ex b hb q1 q2) (fun e => ?_), fun j f hf hl a ha => ⟨hin (h.lives j f hf hl a ha).1 (hfree j f hf hl a ha), (h.lives j f hf hl a ha).2⟩, h.pins, fun j f hf => ?_, h.eids, h.apart⟩
  · obtain ⟨v, h1, h2⟩ := h.fr j a ha
    exact ⟨v, h1, h2.chg T (Chg.refl [] w) (by simp) fun b hb => .inl (hsub b hb)⟩
  · subst e
    rcases hg with hg | hg
    · exact q1 hg
    · omega
  · exact (h.ents j f hf).chg T (Chg.refl [] w) (by simp) (fun b hb => .inl (hsub b hb)) fun hl a ha => ⟨by simp, hin (liveAt h hf hl ha) (hfree j f hf hl a ha)⟩
theorem freeze_cell (w : World) (a : Addr) (n : Nat) (b : Addr) : (w.freeze a n).cell? b = w.cell? b := by
  unfold World.freeze
  split
  · rfl
  · unfold World.cell?
    simp only [Array.getElem?_modify]
    by_cases he : a.block = b.block
    · rw [if_pos he]
      cases hq : w.heap[b.block]? with
      | none => rfl
      | some q => cases q <;> rfl
    · rw [if_neg he]
theorem freeze_chg (w : World) (g k n : Nat) : Chg [g] w (w.freeze ⟨g, k, none⟩ n) := by
  unfold World.freeze
  split
  · exact Chg.refl [g] w
  · refine ⟨rfl, rfl, rfl, by simp, fun j hj hm => ?_⟩
    simp only [List.mem_singleton] at hm
    show (w.heap.modify g _)[j]? = _
    rw [Array.getElem?_modify, if_neg (Ne.symm hm)]
theorem convSl_wr {s e : TypeId} {x : Operand} (hd : dec ops k n F' = some o) (hop : o.op = .convert s s x) {i : Nat} (hx : aev T F x = some (.own i)) (hs : P.underlying s = some (.slice e)) (he : P.underlying e = some (.int .u8)) {et : TypeId} {xs : List (den T.U (.int .u8))} (hi : H[i]? = some (.row et (.int .u8) xs)) (hne : xs ≠ [])
    (h : Sim T w0 S0 ⟨F, H⟩ F' w S φ) (K : Kont P ops Q (k + 1) n ds w0 S0 (⟨updA T F o.dst (.cell ⟨.list (.int .u8), xs⟩), H.set i .gone⟩ : St T)) : WR P ops Q k n ds F' w := by
  obtain ⟨X, h1, h2⟩ := aev_rel h.fr hx
  rw [VR] at h2; subst h2
  have hent := h.ents i _ hi
  obtain ⟨B, vals, q1, q2, q3, q4, q5⟩ := id hent
  have hg : ∃ g, (φ i).ad = some ⟨g, 0, none⟩ := by
    rcases q1.cases with ⟨_, hn, _⟩ | ⟨c, had, _⟩
    · rw [q2] at hn; exact absurd (List.eq_nil_of_length_eq_zero hn) hne
    · exact ⟨_, had⟩
  obtain ⟨g, had⟩ := hg
  have hu1 : ∀ w, (underlying s).run P w = .ok (.slice e) w := run_underlying hs
  have hu2 : ∀ w, (underlying e).run P w = .ok (.int .u8) w := run_underlying he
  have hrun : ∃ w', (convert s s (.slice (φ i).ad (φ i).n (φ i).cap)).run P w = .ok (.slice (φ i).ad (φ i).n (φ i).cap) w' ∧ Chg [g] w w' ∧ ∀ b, w'.cell? b = w.cell? b := by
    rw [had]
    cases hsh : w.shape? g with
    | none => exact ⟨w, by simp [convert, hu1, hu2, markStringish, hsh, Result.andThen], Chg.refl [g] w, fun _ => rfl⟩
    | some q => exact ⟨w.freeze ⟨g, q.2, none⟩ 1, by simp [convert, hu1, hu2, markStringish, hsh, Result.andThen], freeze_chg w g _ 1, freeze_cell w _ 1⟩
  obtain ⟨w', hr, hc, hcell⟩ := hrun
  have h3 := h.upd (w' := w') (i := i) (e := .gone) hi rfl (Tc := [g]) hc (fun b hb => ⟨_, .inl had, by simp at hb; exact hb.symm⟩) trivial (fun j hj => by cases hj) (by intro _ _ _ h; cases h)
  have hgone : ∀ (j : Nat) (e : Ent T.U), (H.set i .gone)[j]? = some e → e.live = true → j ≠ i ∧ H[j]? = some e := by
    intro j e he hl
    by_cases hji : j = i
    · subst hji
      have hlt := (List.getElem?_eq_some_iff.1 he).1
      rw [List.getElem?_set_self (by simpa using hlt)] at he
      simp only [Option.some.injEq] at he; subst he; cases hl
    · rw [List.getElem?_set_ne (Ne.symm hji)] at he; exact ⟨hji, he⟩
  have h4 := h3.less (g := g) (fun j f hf hl a ha he => by
    obtain ⟨hji, hf⟩ := hgone j f hf hl
    exact h.apart j i f _ hf hi hl rfl hji a _ ha (.inl had) he) (h.lives i _ hi rfl _ (.inl had)).2
  have hcr : CR T w (S.filter fun b => !Nat.beq b g) (.list (.int .u8)) xs (.slice (φ i).ad (φ i).n (φ i).cap) := row_cr hent (fun b hb => (List.mem_filter.1 hb).1) (fun a ha hm => by
    rw [had] at ha; simp only [Option.some.injEq] at ha; subst ha
    have := (List.mem_filter.1 hm).2
    simp [Nat.beq_refl] at this)
  refine WR.val (v := .slice (φ i).ad (φ i).n (φ i).cap) hd ?_ (K _ _ ⟨_, φ, h4.slot (a := .cell ⟨.list (.int .u8), xs⟩) (hcr.same hc.size fun a v hv => (hcell a).trans hv) (okA_of_nil rfl (by intro _ _ _ _ e; cases e))⟩)
  cases o; simp only at hop; subst hop
  show ((convert s s (evD F' x)) >>= fun y => pure (Next.value y)).run P w = _
  rw [evD_of h1, Sem.run_bind, hr]; rfl
theorem convStr_wr {s d e : TypeId} {x : Operand} (hd : dec ops k n F' = some o) (hop : o.op = .convert s d x) {b : ByteArray} (hx : aev T F x = some (.cell ⟨.str, b⟩)) (hs : P.underlying s = some .string) (hdu : P.underlying d = some (.slice e)) (he : P.underlying e = some (.int .u8))
    (h : Sim T w0 S0 ⟨F, H⟩ F' w S φ) (K : Kont P ops Q (k + 1) n ds w0 S0 (⟨updA T F o.dst (.cell ⟨.list (.int .u8), strBytes b⟩), H⟩ : St T)) : WR P ops Q k n ds F' w := by
  obtain ⟨X, h1, h2⟩ := aev_rel h.fr hx
  have h2 : CR T w S .str b X := h2
  cases h2
  have hr := run_bytes_of_string (P := P) w s d e b hs hdu he
  generalize hcap : grownCap w b.size 0 e = cap at hr
  have hge : b.size ≤ cap := by rw [← hcap]; exact grownCap_ge w b.size 0 e
  have hc : Chg [] w (w.drew.alloc (.cells (bytesRow b cap) e ((bytesRow b cap).size, (bytesRow b cap).size + 1))) := (Chg.drew w).pure (Chg.alloc _ _)
  refine WR.val (v := .slice (some ⟨w.heap.size, 0, none⟩) b.size cap) hd ?_ (K _ _ ⟨S, φ, (h.pure hc).slot (a := .cell ⟨.list (.int .u8), strBytes b⟩) (bytes_cr (heap_alloc_new w.drew _) hge fun hm => Nat.lt_irrefl _ (h.own _ hm).2) (okA_of_nil rfl (by intro _ _ _ _ e; cases e))⟩)
  cases o; simp only at hop; subst hop
  show ((convert s d (evD F' x)) >>= fun y => pure (Next.value y)).run P w = _
  rw [evD_of h1, Sem.run_bind, hr]; rfl
theorem bsliceB_wr {t : TypeId} {len : Nat} {ps : Array (Nat × Operand)} (hd : dec ops k n F' = some o) (hop : o.op = .buildSlice t len ps) {l : List (Nat × AV T.U)} (hl : partsA T F ps.toList = some l) {e : TypeId} {sz : Nat} {cs : List (AV T.U)} (hb : buildB T P t len l = some (e, sz, cs))
    (h : Sim T w0 S0 ⟨F, H⟩ F' w S φ) (K : Kont P ops Q (k + 1) n ds w0 S0 (⟨updA T F o.dst (.sl H.length sz 0 len), H ++ [.blk e cs]⟩ : St T)) : WR P ops Q k n ds F' w := by
  unfold buildB at hb
  split at hb
  · rename_i et s1 by_ zc he
    split at hb
    · rename_i hok
      simp only [Bool.and_eq_true] at hok
      have hs1 := Nat.le_of_ble_eq_true hok.1
      have h16 := Nat.le_of_ble_eq_true hok.2
      split at hb
      · rename_i cs1 hcs
        split at hb
        case h_2 => cases hb
        rename_i hna
        simp only [Option.some.injEq, Prod.mk.injEq] at hb
        obtain ⟨rfl, rfl, rfl⟩ := hb
        obtain ⟨i, zv, hu, hin, hzv, hsi, _, hzc, hzl⟩ := eInfo_spec he
        subst hzc
        obtain ⟨e1, e2⟩ := partsA_rel h.fr hl
        have hz0 : VRL T w S φ ((List.range (len * s1)).map fun j => ofV1 T (zv.cells[j % s1]!)) ((Array.range (len * i.size)).map (zv.cells[· % zv.cells.size]!)).toList := by
          rw [hsi, hzl, Array.toList_map, Array.toList_range]
          generalize List.range (len * s1) = rr
          induction rr with
          | nil => trivial
          | cons a r ih => exact ⟨ofV1_rel T _, ih⟩
        obtain ⟨c', g1, g2⟩ := fillA_run hz0 e1 e2 hcs
        have hbs : bsCells P t len (ps.toList.map fun p => (p.1, evD F' p.2)) = some (et, c') := by
          unfold bsCells
          rw [hu]
          simp only [hin]
          rw [hsi, Nat.ble_eq_true_of_le h16]
          simp only
          rw [hsi] at g1
          have hfin : Instr.fill (fun j => some (j * s1, s1)) ((Array.range (len * s1)).map (zv.cells[· % zv.cells.size]!)) (ps.toList.map fun p => (p.1, evD F' p.2)) = some c' := g1
          cases hz : Nat.beq (len * s1) 0 with
          | true =>
            have := Nat.eq_of_beq_eq_true hz
            simp only
            rw [this] at hfin ⊢
            have hr0 : Array.range 0 = #[] := rfl
            rw [hr0] at hfin ⊢
            have em : ∀ f : Nat → Value, Array.map f #[] = #[] := fun f => by simp
            rw [em] at hfin ⊢
            rw [hfin]
          | false => simp only [hzv, hfin]
        have hpi : ∀ i ∈ idsL cs1, i < H.length := fillA_ids hcs (fun i hi => by
          obtain ⟨a, ha, hia⟩ := idsL_of hi
          obtain ⟨j, _, rfl⟩ := List.mem_map.1 ha
          rw [ofV1_ids] at hia; cases hia) (partsA_ids h hl)
        refine WR.bslice c' (decBs_of hd hop hbs) fun g w' hN => ?_
        have hS : ∀ b ∈ g :: S, b ∈ S ∨ w.heap.size ≤ b := by
          intro b hb
          rcases List.mem_cons.1 hb with rfl | hb
          · exact .inr hN.fresh
          · exact .inl hb
        have hadd := h.add (r := ⟨some ⟨g, 0, none⟩, len, len, []⟩) hN.chg hN.fresh hN.blk.lt (fun a ha => at_new ha) (e := .blk et cs1)
          ⟨g, c', by rw [setR_eq], hN.blk, by simp, BR.of T ((g2.chg T hN.chg (by simp) hS).phi fun i hi => setR_ne (by have := hpi i hi; omega)) hna⟩ (by intro j hj; have := hpi j hj; omega)
        refine K _ _ ⟨_, _, hadd.slot (a := .sl H.length s1 0 len) ?_ ⟨by intro i hi; simp [AV.ids] at hi; subst hi; simp, trivial⟩⟩
        rw [VR, setR_eq]
        exact ⟨some ⟨g, 0, none⟩, rfl, by simp, .inr ⟨g, rfl, by simp⟩, fun h => (by cases h), fun _ => rfl⟩
      · cases hb
    · cases hb
  · cases hb
theorem val_wr' {v : Value} (hd : dec ops k n F' = some o) (hr : (execOp (evD F') o).run P w = .ok (.value v) w') (K : WR P ops Q (k + 1) n ds (upd F' o.dst v) w') : WR P ops Q k n ds F' w := WR.val hd hr K
theorem lenM_q {t : TypeId} {a : AV T.U} {z : Int} (hl : lenM P t H a = some z) (h : Sim T w0 S0 ⟨F, H⟩ F' w S φ) {v : Value} (hv : VR T w S φ a v) (ty : TypeId) {w1 : World} (hsm : Same φ (mpIds [a]) w w1) : (Builtin.len_ #[t] ty #[v]).run P w1 = .ok (.int .i64 z) w1 := by
  unfold lenM at hl
  split at hl <;> try (cases hl; done)
  rename_i kt et hu
  split at hl <;> try (cases hl; done)
  rename_i i
  split at hl <;> try (cases hl; done)
  rename_i kd ty es hi
  simp only [Option.some.injEq] at hl; subst hl
  obtain ⟨g, hg, rfl⟩ := hv
  obtain ⟨g', l, cl, a1, a2, a3, a4, a5⟩ := h.ents i _ hi
  rw [hg] at a1; simp only [Option.some.injEq, Addr.mk.injEq, and_true] at a1; subst a1
  have hm1 : w1.heap[g]? = some (.map l cl) := (hsm i (by simp [mpIds]) _ hg a2.lt).trans a2
  have hlen : ∀ {es : List (Int × den T.U ty)} {l : List MapEntry}, TR T w S kd ty es l → es.length = l.length := by
    intro es
    induction es with
    | nil => intro l h; cases l with | nil => rfl | cons _ _ => exact h.elim
    | cons p r ih => intro l h; obtain ⟨x, a⟩ := p; cases l with | nil => exact h.elim | cons e s => simp [ih h.2.2]
  have := hlen a4
  simp [Builtin.len_, run_underlying hu, MapKept.run_getObj_map hm1, Result.andThen, this, goInt]
theorem delete_wr {m : AV T.U} {xm xk : Operand} {t : TypeId} {at2 : List TypeId} {kx : IntKind} {x : Int} {c : Call} (hd : dec ops k n F' = some o) (hop : o.op = .call c) (hc : c.callee = .builtin .delete) (ha : c.args.toList = [xm, xk]) (hat : c.argTypes.toList = t :: at2) (hm : aev T F xm = some m) (hk : aev T F xk = some (cI T kx x))
    {H1 : List (Ent T.U)} (hi : delA T P t H m kx x = some H1) (h : Sim T w0 S0 ⟨F, H⟩ F' w S φ) (K : Kont P ops Q (k + 1) n ds w0 S0 (⟨updA T F o.dst (.tup []), H1⟩ : St T)) : WR P ops Q k n ds F' w := by
  obtain ⟨M, h1, h2⟩ := aev_rel h.fr hm
  obtain ⟨X, h3, h4⟩ := aev_rel h.fr hk
  have e := cint_rel h4; subst e
  unfold delA at hi
  split at hi <;> try (cases hi; done)
  rename_i i kd kt et hmk
  have hargs : c.args = #[xm, xk] := by rw [← Array.toArray_toList (xs := c.args), ha]
  have hatt : c.argTypes = (t :: at2).toArray := by rw [← hat]
  split at hi <;> try (cases hi; done)
  · rename_i kd' es hHi
    split at hi <;> try (cases hi; done)
    rename_i hb
    rw [Bool.and_eq_true] at hb
    have b1 := kindEq_eq hb.1; have b2 := kindEq_eq hb.2
    subst b1; subst b2
    simp only [Option.some.injEq] at hi; subst hi
    obtain ⟨g, hg, rfl⟩ := h2
    obtain ⟨g', l, cl, a1, a2, a3, a4, a5⟩ := h.ents i _ hHi
    rw [hg] at a1; simp only [Option.some.injEq, Addr.mk.injEq, and_true] at a1; subst a1
    obtain ⟨w', hr, hs⟩ := map_del (x := x) (ty' := o.type) (at2 := at2) hmk h hHi hg a2 a3 a4 a5
    refine val_wr' (v := .tuple #[]) hd (w' := w') ?_ (K _ _ ⟨S, φ, hs.slot (a := .tup []) ⟨#[], rfl, trivial⟩ ⟨fun i hi => (by cases hi), trivial⟩⟩)
    rw [← hatt] at hr
    cases o; simp only at hop hr; subst hop
    simp [execOp, resolve, hc, invoke, builtin, hargs, evD_of h1, evD_of h3, hr]
  · rename_i kd' ty es hHi
    split at hi <;> try (cases hi; done)
    rename_i hb
    rw [Bool.and_eq_true] at hb
    have b1 := kindEq_eq hb.1; have b2 := kindEq_eq hb.2
    subst b1; subst b2
    simp only [Option.some.injEq] at hi; subst hi
    obtain ⟨g, hg, rfl⟩ := h2
    obtain ⟨g', l, cl, a1, a2, a3, a4, a5⟩ := h.ents i _ hHi
    rw [hg] at a1; simp only [Option.some.injEq, Addr.mk.injEq, and_true] at a1; subst a1
    obtain ⟨w', hr, hs⟩ := tmap_del (x := x) (ty' := o.type) (at2 := at2) hmk h hHi hg a2 a3 a4 a5
    refine val_wr' (v := .tuple #[]) hd (w' := w') ?_ (K _ _ ⟨S, φ, hs.slot (a := .tup []) ⟨#[], rfl, trivial⟩ ⟨fun i hi => (by cases hi), trivial⟩⟩)
    rw [← hatt] at hr
    cases o; simp only at hop hr; subst hop
    simp [execOp, resolve, hc, invoke, builtin, hargs, evD_of h1, evD_of h3, hr]
theorem clear_wr {R : Type} {r : R} {x : Operand} {t : TypeId} {c : Call} (hd : dec ops k n F' = some o) (hop : o.op = .call c) (hc : c.callee = .builtin .clear) (ha : c.args.toList = [x]) (hat : c.argTypes.toList = [t]) {s : AV T.U} (hx : aev T F x = some s)
    {K0 : AV T.U → List (Ent T.U) → Option R} (hK0 : clearA T P t H s K0 = some r) (h : Sim T w0 S0 ⟨F, H⟩ F' w S φ) (K : ∀ b H1, K0 b H1 = some r → Kont P ops Q (k + 1) n ds w0 S0 (⟨updA T F o.dst b, H1⟩ : St T)) : WR P ops Q k n ds F' w := by
  obtain ⟨X, h1, h2⟩ := aev_rel h.fr hx
  unfold clearA at hK0
  split at hK0 <;> try (cases hK0; done)
  · rename_i i
    split at hK0 <;> try (cases hK0; done)
    rename_i kd ty es kt et hi hu
    obtain ⟨g, hg, rfl⟩ := h2
    obtain ⟨g', l, cl, a1, a2, a3, a4, a5⟩ := h.ents i _ hi
    rw [hg] at a1; simp only [Option.some.injEq, Addr.mk.injEq, and_true] at a1; subst a1
    have hb : w.heap[g]? = some (.map l cl) := a2
    have hargs : c.args = #[x] := toList_eq_one ha
    have hatt : c.argTypes = #[t] := toList_eq_one hat
    refine val_wr' (v := .tuple #[]) hd (w' := { w with heap := w.heap.setIfInBounds g (.map #[] cl) }) ?_ (K _ _ hK0 _ _ ⟨S, φ, (tmap_put (l' := #[]) (c' := cl) (es' := []) h hi hg a2 a3 (by simp only [TR]) (MapKept.stamped_empty cl)).slot (a := .tup []) ⟨#[], rfl, trivial⟩ ⟨fun i hi => (by cases hi), trivial⟩⟩)
    cases o; simp only at hop; subst hop
    simp [execOp, resolve, hc, invoke, builtin, hargs, hatt, evD_of h1, Builtin.clear_, run_underlying hu, MapKept.run_getObj_map hb, MapKept.run_setObj_map _ hb, Result.andThen]
  rename_i i sz o1 m
  split at hK0 <;> try (cases hK0; done)
  rename_i e ty xs hi
  split at hK0 <;> try (cases hK0; done)
  rename_i et s1 by_ zc he
  split at hK0 <;> try (cases hK0; done)
  rename_i z hsz hz
  simp only [Bool.and_eq_true] at hsz
  have := Nat.eq_of_beq_eq_true hsz.1; subst this
  have := Nat.eq_of_beq_eq_true hsz.2; subst this
  split at hK0 <;> try (cases hK0; done)
  rename_i x0 hx0
  obtain ⟨hle, hK⟩ := iteOpt hK0
  obtain ⟨ii, zv, hu, hin, hzv, hsi, _, hzc, hzl⟩ := eInfo_spec he
  subst hzc
  obtain ⟨ad, rfl, hcap, hn, hnil, _⟩ := h2
  have hargs : c.args = #[x] := toList_eq_one ha
  have hatt : c.argTypes = #[t] := toList_eq_one hat
  have hval : ∀ w', (Builtin.clear_ #[t] o.type #[Value.slice ad m ((φ i).cap - o1)]).run P w = .ok (.tuple #[]) w' → (execOp (evD F') o).run P w = .ok (.value (.tuple #[])) w' := by
    intro w' hr
    have : execOp (evD F') o = (do return Next.value (← Builtin.clear_ #[t] o.type #[Value.slice ad m ((φ i).cap - o1)])) := by
      cases o; simp only at hop; subst hop
      simp only [execOp, resolve, hc, invoke, builtin, hargs, hatt, Array.map_singleton, evD_of h1] <;> rfl
    rw [this]
    simp only [Sem.run_bind, hr, Result.andThen_ok]; rfl
  have hi' : H[i]? = some (.row e ty xs) := hi
  by_cases hm : m = 0
  · subst hm
    have hsame : H.set i (.row e ty (xs.take o1 ++ (List.replicate 0 x0 ++ xs.drop (o1 + 0)))) = H := by
      rw [List.replicate_zero, List.nil_append, Nat.add_zero, List.take_append_drop]
      obtain ⟨hlt, hg⟩ := List.getElem?_eq_some_iff.1 hi'
      rw [← hg, List.set_getElem_self]
    rw [hsame] at hK
    have hrun : (Builtin.clear_ #[t] o.type #[Value.slice ad 0 ((φ i).cap - o1)]).run P w = .ok (.tuple #[]) w := by
      unfold Builtin.clear_
      cases ad <;> simp [run_underlying hu, Sem.run_bind, Sem.run_pure, Result.andThen_ok]
    exact val_wr hd (hval w hrun) h (a := .tup []) ⟨#[], rfl, trivial⟩ ⟨fun i hi => (by cases hi), trivial⟩ (K _ _ hK)
  · rcases hn with hn | ⟨g, hg1, hg2⟩
    · exact absurd hn hm
    · subst hg2
      obtain ⟨g', carr, B, vals, a1, a2, a3, a4, a5, a6, a7, a8, a9, a10, a11, a12⟩ := row_at h hi (by omega)
      rw [hg1] at a1; simp only [Option.some.injEq, Addr.mk.injEq, and_true] at a1; subst a1
      have hzlen : (Builtin.zeroCells zv.cells m).toList.length = m * szT T ty := by simp [Builtin.zeroCells, hzl]
      have hmul : (o1 + m) * szT T ty ≤ xs.length * szT T ty := Nat.mul_le_mul_right _ hle
      have hmul2 : xs.length * szT T ty ≤ (φ i).cap * szT T ty := Nat.mul_le_mul_right _ a11
      rw [Nat.add_mul] at hmul
      have hz1 : CellsR T w S (flat T ty x0) zv.cells.toList := by rw [unflat_flat T hx0]; exact cellsOf_ofV1 hz
      have hzc : CellsR T w S ((List.replicate m x0).flatMap (flat T ty)) (Builtin.zeroCells zv.cells m).toList := by
        refine ⟨by rw [flatMap_len' (flat_len T ty), List.length_replicate, hzlen], fun j c v h1 h2 => ?_⟩
        have hj := (List.getElem?_eq_some_iff.1 h1).1
        rw [flatMap_len' (flat_len T ty), List.length_replicate] at hj
        rw [replicate_at (flat_len T ty x0) _ _ hj] at h1
        refine hz1.2 _ c v h1 ?_
        have hpos : 0 < szT T ty := by
          rcases Nat.eq_zero_or_pos (szT T ty) with h0 | h0
          · rw [h0] at hj; omega
          · exact h0
        rw [← hzl] at hpos
        unfold Builtin.zeroCells at h2
        simp only [Array.toList_map, Array.toList_range, List.getElem?_map] at h2
        rw [hzl, List.getElem?_range hj] at h2
        simp only [Option.map_some, Option.some.injEq] at h2
        subst h2
        rw [← hzl, Array.getElem?_toList, Array.getElem?_eq_getElem (Nat.mod_lt _ hpos)]
        congr 1
        rw [getElem!_pos zv.cells _ (Nat.mod_lt _ hpos)]
      have hone : ∀ v ∈ (Builtin.zeroCells zv.cells m).toList, v.oneCell' = true := hzc.one
      obtain ⟨w', r1, r2, r3⟩ := run_storeCells_blk P e g (Builtin.zeroCells zv.cells m).toList (0 + o1 * szT T ty) 0 carr w a4 (by rw [hzlen, a5]; omega) hone
      have hrun : (Builtin.clear_ #[t] o.type #[Value.slice (some ⟨g, 0 + o1 * szT T ty, none⟩) m ((φ i).cap - o1)]).run P w = .ok (.tuple #[]) w' := by
        unfold Builtin.clear_
        cases m with
        | zero => exact absurd rfl hm
        | succ m =>
          have hzr : (zeroValue et).run P w = .ok zv w := by simp [zeroValue, typeInfo, hin, hzv, Sem.run_bind, Sem.run_pure, Result.andThen_ok]
          have r1' := r1
          rw [Nat.zero_add] at r1'
          simp [run_underlying hu, Sem.run_bind, Sem.run_pure, Result.andThen_ok, hzr, r1']
      refine val_wr' hd (hval w' hrun) ?_
      refine K _ _ hK _ _ ⟨S, φ, (h.upd (e := .row e ty (xs.take o1 ++ (List.replicate m x0 ++ xs.drop (o1 + m)))) hi rfl r3 (fun b hb => ?_) ⟨B, (puts carr (0 + o1 * szT T ty + 0) (Builtin.zeroCells zv.cells m).toList).toList.take (xs.length * szT T ty), ?_, ?_, Nat.le_trans a10 r3.size, ?_, ?_⟩ ?_ ?_).slot (a := .tup []) ⟨#[], rfl, trivial⟩ ⟨fun i hi => (by cases hi), trivial⟩⟩
      · simp at hb; subst hb; exact ⟨_, .inl hg1, rfl⟩
      · rw [hg1, a2]
        exact Own.ofBlk r2 a9 a11 (by have := a12; unfold maxLen at this; omega) (by rw [puts_size]; exact a5) _ rfl
      · rw [a2]; simp; omega
      · have hxs : xs = xs.take o1 ++ ((xs.drop o1).take m ++ xs.drop (o1 + m)) := by
          rw [← List.drop_drop, List.take_append_drop, List.take_append_drop]
        have hnew : (xs.take o1 ++ (List.replicate m x0 ++ xs.drop (o1 + m))).flatMap (flat T ty) = putL (xs.flatMap (flat T ty)) (o1 * szT T ty) ((List.replicate m x0).flatMap (flat T ty)) := by
          conv => rhs; rw [hxs]
          have hp := putL_app ((List.replicate m x0).flatMap (flat T ty)) ((xs.take o1).flatMap (flat T ty)) (((xs.drop o1).take m).flatMap (flat T ty)) ((xs.drop (o1 + m)).flatMap (flat T ty)) 0
            (by rw [flatMap_len' (flat_len T ty), flatMap_len' (flat_len T ty), List.length_replicate, List.length_take, List.length_drop, Nat.min_eq_left (by omega), Nat.zero_add]; exact Nat.le_refl _)
          rw [flatMap_len' (flat_len T ty), List.length_take, Nat.min_eq_left (by omega), Nat.add_zero] at hp
          rw [List.flatMap_append, List.flatMap_append, List.flatMap_append, List.flatMap_append, ← List.append_assoc ((xs.take o1).flatMap (flat T ty)) (((xs.drop o1).take m).flatMap (flat T ty)), hp, List.append_assoc]
          congr 2
          have hl2 : ((xs.drop o1).take m).length = m := by rw [List.length_take, List.length_drop]; omega
          have : ∀ (l cs : List (Cell T.U)), l.length = cs.length → putL cs 0 l = l := by
            have gen : ∀ (l pre cs : List (Cell T.U)), l.length = cs.length → putL (pre ++ cs) pre.length l = pre ++ l := by
              intro l
              induction l with
              | nil => intro pre cs h; cases cs with | nil => rfl | cons _ _ => simp at h
              | cons a r ih =>
                intro pre cs h
                cases cs with
                | nil => simp at h
                | cons b q =>
                  rw [putL, List.set_append_right _ _ (Nat.le_refl _), Nat.sub_self, List.set_cons_zero]
                  have := ih (pre ++ [a]) q (by simpa using h)
                  simpa using this
            intro l cs h
            simpa using gen l [] cs h
          rw [this _ _ (by rw [flatMap_len' (flat_len T ty), flatMap_len' (flat_len T ty), List.length_replicate, hl2])]
        rw [hnew, puts_putL, putL_take, Nat.add_zero, Nat.zero_add, a6]
        exact (CellsR.put hzc a7).chg T r3 (by intro b hb; simp at hb; subst hb; exact a8) (fun b hb => .inl hb)
      · intro a ha
        rw [hg1] at ha; simp only [Option.some.injEq] at ha; subst ha; exact a8
      · intro q hq; cases hq
      · intro e1 t1 zs he
        simp only [Ent.row.injEq] at he
        obtain ⟨rfl, rfl, hh⟩ := he
        have := eq_of_heq hh; subst this
        exact ⟨e, xs, rfl, by simp; omega⟩
end
end Go.X
