/- Maps of few known keys. Nothing here is about one program. -/
import Derived.Test.YtjjlcenmifcaeaaXA
namespace Go.X
open Go.RowKit Go.V

section
variable {T : Tab} {P : Program} {w w' : World} {S S' : List Nat} {φ φ' : Nat → RA} {w0 : World} {S0 : Ow} {F : AF T} {H : List (Ent T.U)} {F' : PF}
variable {rd : List Nat} {ops : Array Oper} {Q : Exit → Act → World → Prop} {k n : Nat} {ds : List Deferred} {o : Oper}
theorem mapK_spec {t kt et : TypeId} {kd : IntKind} (h : mapK P t = some (kd, kt, et)) : mapInfo P t = some (kt, et, .int kd) := by
  unfold mapK at h
  split at h
  · rename_i kt' et' hu
    split at h
    · rename_i k' hk
      simp only [Option.some.injEq, Prod.mk.injEq] at h
      obtain ⟨rfl, rfl, rfl⟩ := h
      simp [mapInfo, hu, hk]
    · cases h
  · cases h
theorem mkMap_wr {t kt et : TypeId} {kd : IntKind} (hd : dec ops k n F' = some o) (hop : o.op = .makeMap t none) (_ : mapK P t = some (kd, kt, et)) (h : Sim T w0 S0 ⟨F, H⟩ F' w S φ)
    (K : Kont P ops Q (k + 1) n ds w0 S0 (⟨updA T F o.dst (.mp H.length), H ++ [.map kd []]⟩ : St T)) : WR P ops Q k n ds F' w := by
  have hdm : decMkMap ops k n F' = some (o.dst, t) := by
    unfold decMkMap; rw [hd]; cases o; simp only at hop; subst hop; rfl
  refine WR.mkMap hdm fun g w' hN => K _ _ ⟨g :: S, setR φ H.length ⟨some ⟨g, 0, none⟩, 0, 0, []⟩, ?_⟩
  have h1 := h.add (r := ⟨some ⟨g, 0, none⟩, 0, 0, []⟩) hN.chg hN.fresh hN.blk.lt (fun a ha => at_new ha) (e := .map kd [])
    ⟨g, #[], 0, by rw [setR_eq], hN.blk, by simp, trivial, MapKept.stamped_empty 0⟩ (by intro j hj; cases hj)
  exact h1.slot ⟨g, by rw [setR_eq], rfl⟩ ⟨by intro i hi; simp [AV.ids] at hi; subst hi; simp, trivial⟩
theorem mkTmap_wr {t kt et : TypeId} {kd : IntKind} {ty : Ty} (hd : dec ops k n F' = some o) (hop : o.op = .makeMap t none) (_ : mapK P t = some (kd, kt, et)) (h : Sim T w0 S0 ⟨F, H⟩ F' w S φ)
    (K : Kont P ops Q (k + 1) n ds w0 S0 (⟨updA T F o.dst (.mp H.length), H ++ [.tmap kd ty []]⟩ : St T)) : WR P ops Q k n ds F' w := by
  have hdm : decMkMap ops k n F' = some (o.dst, t) := by
    unfold decMkMap; rw [hd]; cases o; simp only at hop; subst hop; rfl
  refine WR.mkMap hdm fun g w' hN => K _ _ ⟨g :: S, setR φ H.length ⟨some ⟨g, 0, none⟩, 0, 0, []⟩, ?_⟩
  have h1 := h.add (r := ⟨some ⟨g, 0, none⟩, 0, 0, []⟩) hN.chg hN.fresh hN.blk.lt (fun a ha => at_new ha) (e := .tmap kd ty [])
    ⟨g, #[], 0, by rw [setR_eq], hN.blk, by simp, trivial, MapKept.stamped_empty 0⟩ (by intro j hj; cases hj)
  exact h1.slot ⟨g, by rw [setR_eq], rfl⟩ ⟨by intro i hi; simp [AV.ids] at hi; subst hi; simp, trivial⟩
/-! ### Typed maps -/
theorem TR.find {kd : IntKind} {ty : Ty} {x : Int} : ∀ {es : List (Int × den T.U ty)} {l : List MapEntry} (i : Nat), TR T w S kd ty es l →
    (Instr.findNow (.int kd) (.int kd x) l i = some none ∧ thas es x = false ∧ tget T ty es x = dflt T ty ∧ (∀ a, tset es x a = es ++ [(x, a)]) ∧ tdel es x = es ∧ ∀ e ∈ l, e.key ≠ .int kd x) ∨
    ∃ j e, Instr.findNow (.int kd) (.int kd x) l i = some (some (i + j, e.val)) ∧ l[j]? = some e ∧ e.key = .int kd x ∧ CR T w S ty (tget T ty es x) e.val ∧ thas es x = true ∧ (∀ a v, CR T w S ty a v → TR T w S kd ty (tset es x a) (l.modify j fun e => { e with key := .int kd x, val := v })) ∧ TR T w S kd ty (tdel es x) (l.eraseIdx j)
  | [], [], _, _ => .inl ⟨rfl, rfl, rfl, fun _ => rfl, rfl, by simp⟩
  | [], _ :: _, _, h => h.elim
  | _ :: _, [], _, h => h.elim
  | (y, a) :: r, e :: l, i, h => by
    obtain ⟨h1, h2, h3⟩ := h
    by_cases hx : x = y
    · subst hx
      refine .inr ⟨0, e, ?_, rfl, h1, ?_, ?_, ?_, ?_⟩
      · unfold Instr.findNow
        rw [h1]
        simp [Instr.sameNow]
      · simpa [tget] using h2
      · simp [thas]
      · intro b v hb
        simp only [tset, if_true]
        exact ⟨rfl, hb, h3⟩
      · simp only [tdel, if_true]
        exact h3
    · have hf : Instr.findNow (.int kd) (.int kd x) (e :: l) i = Instr.findNow (.int kd) (.int kd x) l (i + 1) := by
        rw [Instr.findNow, h1]
        simp only [Instr.sameNow, if_true]
        rw [show (x == y) = false from by simpa using hx]
      rcases TR.find (x := x) (i + 1) h3 with ⟨g1, g2, g3, g4, g5, g6⟩ | ⟨j, e', g1, g2, g3, g4, g5, g6, g7⟩
      · refine .inl ⟨hf.trans g1, by simp [thas, hx, g2], by simp [tget, hx, g3], fun b => by simp [tset, hx, g4], by simp [tdel, hx, g5], ?_⟩
        intro q hq
        rcases List.mem_cons.1 hq with rfl | hq
        · rw [h1]; simp; exact fun e => hx e.symm
        · exact g6 q hq
      · refine .inr ⟨j + 1, e', by rw [hf, g1]; simp; omega, by simpa using g2, g3, by simpa [tget, hx] using g4, by simp [thas, hx, g5], fun b v hb => ?_, ?_⟩
        · simp only [tset, hx, if_false]
          exact ⟨h1, h2, g6 b v hb⟩
        · simp only [tdel, hx, if_false]
          exact ⟨h1, h2, g7⟩
theorem TR.snoc {kd : IntKind} {ty : Ty} {x : Int} {a : den T.U ty} {v : Value} {c : Nat} (hv : CR T w S ty a v) : ∀ {es : List (Int × den T.U ty)} {l : List MapEntry}, TR T w S kd ty es l → TR T w S kd ty (es ++ [(x, a)]) (l ++ [{ key := .int kd x, val := v, born := c }])
  | [], [], _ => ⟨rfl, hv, trivial⟩
  | [], _ :: _, h => h.elim
  | _ :: _, [], h => h.elim
  | (_, _) :: _, _ :: _, h => ⟨h.1, h.2.1, TR.snoc hv h.2.2⟩
theorem tmap_put {i g : Nat} {kd : IntKind} {ty : Ty} {es es' : List (Int × den T.U ty)} {l l' : Array MapEntry} {c c' : Nat} (h : Sim T w0 S0 ⟨F, H⟩ F' w S φ) (hHi : H[i]? = some (.tmap kd ty es)) (hg : (φ i).ad = some ⟨g, 0, none⟩) (hm : Mp w g l c)
    (hgS : g ∈ S) (ht : TR T w S kd ty es' l'.toList) (hst : MapKept.Stamped l' c') : Sim T w0 S0 ⟨F, H.set i (.tmap kd ty es')⟩ F' { w with heap := w.heap.setIfInBounds g (.map l' c') } S φ := by
  have hset := MapKept.heap_set (o' := .map l' c') hm
  have hC : Chg [g] w { w with heap := w.heap.setIfInBounds g (.map l' c') } := ⟨rfl, rfl, rfl, by simp, fun r _ hr => hset.2 r (by simpa using hr)⟩
  refine h.upd hHi rfl hC ?_ ⟨g, _, _, hg, hset.1, hgS, ht.chg T hC ?_ fun b hb => .inl hb, hst⟩ ?_ ?_
  · intro b hb; simp at hb; subst hb; exact ⟨_, .inl hg, rfl⟩
  · intro b hb; simp at hb; subst hb; exact hgS
  · intro q hq; cases hq
  · intro e1 t1 xs he; cases he
theorem tmap_set {i g : Nat} {t kt et : TypeId} {kd : IntKind} {ty : Ty} {es : List (Int × den T.U ty)} {l : Array MapEntry} {c : Nat} {x : Int} {a : den T.U ty} {v : Value} (hmk : mapK P t = some (kd, kt, et)) (h : Sim T w0 S0 ⟨F, H⟩ F' w S φ) (hHi : H[i]? = some (.tmap kd ty es)) (hg : (φ i).ad = some ⟨g, 0, none⟩) (hm : Mp w g l c)
    (hgS : g ∈ S) (ht : TR T w S kd ty es l.toList) (hst : MapKept.Stamped l c) (hv : CR T w S ty a v) : ∃ w', (Instr.mapUpdate t (.map (some g)) (.int kd x) v).run P w = .ok () w' ∧ Sim T w0 S0 ⟨F, H.set i (.tmap kd ty (tset es x a))⟩ F' w' S φ := by
  obtain ⟨hu, hkd⟩ := mapInfo_spec (mapK_spec hmk)
  have hb : w.heap[g]? = some (.map l c) := hm
  rcases TR.find (x := x) 0 ht with ⟨g1, _, _, g4, _, g6⟩ | ⟨j, e', g1, g2, g3, _, _, g6, _⟩
  · refine ⟨_, ?_, tmap_put (l' := l.push { key := .int kd x, val := v, born := c }) (c' := c + 1) h hHi hg hm hgS ?_ (MapKept.stamped_push hst g6)⟩
    · simp [Instr.mapUpdate, run_underlying hu, MapKept.run_getObj_map hb, MapKept.run_checkKey hkd (show MapKept.IsKey (.int kd) (.int kd x) from rfl), MapKept.run_findKey hkd g1, MapKept.run_setObj_map _ hb, Result.andThen]
    · rw [g4, Array.toList_push]; exact TR.snoc hv ht
  · have hlt : j < l.size := by have := (List.getElem?_eq_some_iff.1 g2).1; simpa using this
    have g2' : l[j]? = some e' := by simpa using g2
    have hl' : (l.modify j fun e => { e with key := .int kd x, val := v }).toList = l.toList.modify j fun e => { e with key := .int kd x, val := v } := by simp
    refine ⟨_, ?_, tmap_put (l' := l.modify j fun e => { e with key := .int kd x, val := v }) (c' := c) h hHi hg hm hgS (by rw [hl']; exact g6 a v hv) (MapKept.stamped_modify hst j _ (fun _ _ => rfl) fun e _ he => ?_)⟩
    · rw [Nat.zero_add] at g1
      have g2'' : l[j] = e' := by rw [Array.getElem?_eq_getElem hlt] at g2'; exact Option.some.inj g2'
      simp [Instr.mapUpdate, run_underlying hu, MapKept.run_getObj_map hb, MapKept.run_checkKey hkd (show MapKept.IsKey (.int kd) (.int kd x) from rfl), MapKept.run_findKey hkd g1, MapKept.run_setObj_map _ hb, Result.andThen, g2', g2'', g3, MapKept.run_keyThatStays (show MapKept.IsKey (.int kd) (.int kd x) from rfl)]
    · rw [g2'] at he; have := Option.some.inj he; subst this; exact g3.symm
theorem tmap_del {i g : Nat} {t kt et ty' : TypeId} {at2 : List TypeId} {kd : IntKind} {ty : Ty} {es : List (Int × den T.U ty)} {l : Array MapEntry} {c : Nat} {x : Int} (hmk : mapK P t = some (kd, kt, et)) (h : Sim T w0 S0 ⟨F, H⟩ F' w S φ) (hHi : H[i]? = some (.tmap kd ty es)) (hg : (φ i).ad = some ⟨g, 0, none⟩) (hm : Mp w g l c)
    (hgS : g ∈ S) (ht : TR T w S kd ty es l.toList) (hst : MapKept.Stamped l c) : ∃ w', (Builtin.delete_ (t :: at2).toArray ty' #[.map (some g), .int kd x]).run P w = .ok (.tuple #[]) w' ∧ Sim T w0 S0 ⟨F, H.set i (.tmap kd ty (tdel es x))⟩ F' w' S φ := by
  obtain ⟨hu, hkd⟩ := mapInfo_spec (mapK_spec hmk)
  have hb : w.heap[g]? = some (.map l c) := hm
  rcases TR.find (x := x) 0 ht with ⟨g1, _, _, _, g5, _⟩ | ⟨j, e', g1, g2, g3, _, _, _, g7⟩
  · refine ⟨_, ?_, tmap_put (l' := l) (c' := c) h hHi hg hm hgS (by rw [g5]; exact ht) hst⟩
    simp [Builtin.delete_, run_underlying hu, MapKept.run_getObj_map hb, MapKept.run_checkKey hkd (show MapKept.IsKey (.int kd) (.int kd x) from rfl), MapKept.run_findKey hkd g1, MapKept.run_setObj_map _ hb, Result.andThen]
  · have hlt : j < l.size := by have := (List.getElem?_eq_some_iff.1 g2).1; simpa using this
    refine ⟨_, ?_, tmap_put (l' := l.eraseIdxIfInBounds j) (c' := c) h hHi hg hm hgS ?_ (MapKept.stamped_erase hst j)⟩
    · rw [Nat.zero_add] at g1
      simp [Builtin.delete_, run_underlying hu, MapKept.run_getObj_map hb, MapKept.run_checkKey hkd (show MapKept.IsKey (.int kd) (.int kd x) from rfl), MapKept.run_findKey hkd g1, MapKept.run_setObj_map _ hb, Result.andThen]
    · have : (l.eraseIdxIfInBounds j).toList = l.toList.eraseIdx j := by
        unfold Array.eraseIdxIfInBounds
        rw [dif_pos hlt, Array.toList_eraseIdx]
      rw [this]; exact g7
theorem zTy_rel {ty : Ty} {z : Value} (h : zTy ty z = true) : CR T w S ty (dflt T ty) z := by
  unfold zTy at h
  split at h
  · rename_i k k' x
    rw [Bool.and_eq_true] at h
    have := kindEq_eq h.1; subst this
    have hx : x = 0 := by simpa [zTy.eqZ] using h.2
    subst hx; exact .int _ _
  · rename_i b
    have hb : b = false := by simpa using h
    subst hb; exact .bool _
  · rename_i e n c
    rw [Bool.and_eq_true] at h
    have h1 := Nat.eq_of_beq_eq_true h.1; have h2 := Nat.eq_of_beq_eq_true h.2
    subst h1; subst h2
    exact .list e [] none 0 (fun _ _ => .int .i64 0) (Nat.le_refl _) (fun _ => ⟨rfl, rfl⟩) (fun h => absurd rfl h) (fun k j c h => by simp at h) (fun k j c h => by simp at h)
  · cases h
theorem zeroT_rel {et : TypeId} {ty : Ty} (h : zeroT P et ty = true) : ∃ z, (P.info? et).bind (·.zero) = some z ∧ CR T w S ty (dflt T ty) z := by
  unfold zeroT at h
  split at h
  · rename_i inf hinf
    split at h
    · rename_i z hz; exact ⟨z, by rw [hinf]; exact hz, zTy_rel h⟩
    · cases h
  · cases h
theorem MR.snoc {kd : IntKind} {x : Int} {a : AV T.U} {v : Value} {c : Nat} (hv : VR T w S φ a v) : ∀ {es : List (Int × AV T.U)} {l : List MapEntry}, MR T w S φ kd es l → MR T w S φ kd (es ++ [(x, a)]) (l ++ [{ key := .int kd x, val := v, born := c }])
  | [], [], _ => ⟨rfl, hv, trivial⟩
  | [], _ :: _, h => h.elim
  | _ :: _, [], h => h.elim
  | (_, _) :: _, _ :: _, h => ⟨h.1, h.2.1, MR.snoc hv h.2.2⟩
theorem MR.find2 {kd : IntKind} {x : Int} : ∀ {es : List (Int × AV T.U)} {l : List MapEntry} (i : Nat), MR T w S φ kd es l →
    (Instr.findNow (.int kd) (.int kd x) l i = some none ∧ (∀ a, tset es x a = es ++ [(x, a)]) ∧ tdel es x = es ∧ ∀ e ∈ l, e.key ≠ .int kd x) ∨
    ∃ j e, Instr.findNow (.int kd) (.int kd x) l i = some (some (i + j, e.val)) ∧ l[j]? = some e ∧ e.key = .int kd x ∧ (∀ a v, VR T w S φ a v → MR T w S φ kd (tset es x a) (l.modify j fun e => { e with key := .int kd x, val := v })) ∧ MR T w S φ kd (tdel es x) (l.eraseIdx j)
  | [], [], _, _ => .inl ⟨rfl, fun _ => rfl, rfl, by simp⟩
  | [], _ :: _, _, h => h.elim
  | _ :: _, [], _, h => h.elim
  | (y, a) :: r, e :: l, i, h => by
    obtain ⟨h1, h2, h3⟩ := h
    by_cases hx : x = y
    · subst hx
      refine .inr ⟨0, e, ?_, rfl, h1, ?_, ?_⟩
      · unfold Instr.findNow
        rw [h1]
        simp [Instr.sameNow]
      · intro b v hb
        simp only [tset, if_true]
        exact ⟨rfl, hb, h3⟩
      · simp only [tdel, if_true]
        exact h3
    · have hf : Instr.findNow (.int kd) (.int kd x) (e :: l) i = Instr.findNow (.int kd) (.int kd x) l (i + 1) := by
        rw [Instr.findNow, h1]
        simp only [Instr.sameNow, if_true]
        rw [show (x == y) = false from by simpa using hx]
      rcases MR.find2 (x := x) (i + 1) h3 with ⟨g1, g4, g5, g6⟩ | ⟨j, e', g1, g2, g3, g6, g7⟩
      · refine .inl ⟨hf.trans g1, fun b => by simp [tset, hx, g4], by simp [tdel, hx, g5], ?_⟩
        intro q hq
        rcases List.mem_cons.1 hq with rfl | hq
        · rw [h1]; simp; exact fun e => hx e.symm
        · exact g6 q hq
      · refine .inr ⟨j + 1, e', by rw [hf, g1]; simp; omega, by simpa using g2, g3, fun b v hb => ?_, ?_⟩
        · simp only [tset, hx, if_false]
          exact ⟨h1, h2, g6 b v hb⟩
        · simp only [tdel, hx, if_false]
          exact ⟨h1, h2, g7⟩
theorem idsM_tset {U : Nat → Type} (x : Int) (a : AV U) : ∀ (es : List (Int × AV U)) (q : Nat), q ∈ idsM (tset es x a) → q ∈ idsM es ∨ q ∈ a.ids
  | [], q, h => by simpa [tset, idsM] using h
  | (y, b) :: r, q, h => by
    unfold tset at h
    split at h
    · rw [idsM] at h ⊢
      rcases List.mem_append.1 h with h | h
      · exact .inr h
      · exact .inl (List.mem_append.2 (.inr h))
    · rw [idsM] at h ⊢
      rcases List.mem_append.1 h with h | h
      · exact .inl (List.mem_append.2 (.inl h))
      · rcases idsM_tset x a r q h with h | h
        · exact .inl (List.mem_append.2 (.inr h))
        · exact .inr h
theorem idsM_tdel {U : Nat → Type} (x : Int) : ∀ (es : List (Int × AV U)) (q : Nat), q ∈ idsM (tdel es x) → q ∈ idsM es
  | [], q, h => h
  | (y, b) :: r, q, h => by
    unfold tdel at h
    rw [idsM]
    split at h
    · exact List.mem_append.2 (.inr h)
    · rw [idsM] at h
      rcases List.mem_append.1 h with h | h
      · exact List.mem_append.2 (.inl h)
      · exact List.mem_append.2 (.inr (idsM_tdel x r q h))
theorem map_put {i g : Nat} {kd : IntKind} {es es' : List (Int × AV T.U)} {l l' : Array MapEntry} {c c' : Nat} (h : Sim T w0 S0 ⟨F, H⟩ F' w S φ) (hHi : H[i]? = some (.map kd es)) (hg : (φ i).ad = some ⟨g, 0, none⟩) (hm : Mp w g l c)
    (hgS : g ∈ S) (ht : MR T w S φ kd es' l'.toList) (hst : MapKept.Stamped l' c') (hids : ∀ q ∈ idsM es', q < H.length) : Sim T w0 S0 ⟨F, H.set i (.map kd es')⟩ F' { w with heap := w.heap.setIfInBounds g (.map l' c') } S φ := by
  have hset := MapKept.heap_set (o' := .map l' c') hm
  have hC : Chg [g] w { w with heap := w.heap.setIfInBounds g (.map l' c') } := ⟨rfl, rfl, rfl, by simp, fun r _ hr => hset.2 r (by simpa using hr)⟩
  have hT : ∀ b ∈ [g], b ∈ S := by intro b hb; simp at hb; subst hb; exact hgS
  refine h.upd hHi rfl hC ?_ ⟨g, _, _, hg, hset.1, hgS, ht.chg T hC hT fun b hb => .inl hb, hst⟩ ?_ ?_
  · intro b hb; simp at hb; subst hb; exact ⟨_, .inl hg, rfl⟩
  · exact hids
  · intro e1 t1 xs he; cases he
theorem map_set {i g : Nat} {t kt et : TypeId} {kd : IntKind} {es : List (Int × AV T.U)} {l : Array MapEntry} {c : Nat} {x : Int} {a : AV T.U} {v : Value} (hmk : mapK P t = some (kd, kt, et)) (h : Sim T w0 S0 ⟨F, H⟩ F' w S φ) (hHi : H[i]? = some (.map kd es)) (hg : (φ i).ad = some ⟨g, 0, none⟩) (hm : Mp w g l c)
    (hgS : g ∈ S) (ht : MR T w S φ kd es l.toList) (hst : MapKept.Stamped l c) (hv : VR T w S φ a v) (hok : ∀ q ∈ a.ids, q < H.length) : ∃ w', (Instr.mapUpdate t (.map (some g)) (.int kd x) v).run P w = .ok () w' ∧ Sim T w0 S0 ⟨F, H.set i (.map kd (tset es x a))⟩ F' w' S φ := by
  obtain ⟨hu, hkd⟩ := mapInfo_spec (mapK_spec hmk)
  have hb : w.heap[g]? = some (.map l c) := hm
  have hids : ∀ q ∈ idsM (tset es x a), q < H.length := fun q hq => (idsM_tset x a es q hq).elim (h.eids _ _ hHi q) (hok q)
  rcases MR.find2 (x := x) 0 ht with ⟨g1, g4, _, gk⟩ | ⟨j, e', g1, g2, g3, g6, _⟩
  · refine ⟨_, ?_, map_put (l' := l.push { key := .int kd x, val := v, born := c }) (c' := c + 1) h hHi hg hm hgS ?_ (MapKept.stamped_push hst gk) hids⟩
    · simp [Instr.mapUpdate, run_underlying hu, MapKept.run_getObj_map hb, MapKept.run_checkKey hkd (show MapKept.IsKey (.int kd) (.int kd x) from rfl), MapKept.run_findKey hkd g1, MapKept.run_setObj_map _ hb, Result.andThen]
    · rw [g4, Array.toList_push]; exact MR.snoc hv ht
  · have hlt : j < l.size := by have := (List.getElem?_eq_some_iff.1 g2).1; simpa using this
    have g2' : l[j]? = some e' := by simpa using g2
    have hl' : (l.modify j fun e => { e with key := .int kd x, val := v }).toList = l.toList.modify j fun e => { e with key := .int kd x, val := v } := by simp
    refine ⟨_, ?_, map_put (l' := l.modify j fun e => { e with key := .int kd x, val := v }) (c' := c) h hHi hg hm hgS (by rw [hl']; exact g6 a v hv) (MapKept.stamped_modify hst j _ (fun _ _ => rfl) fun e _ he => by rw [g2'] at he; have := Option.some.inj he; subst this; exact g3.symm) hids⟩
    rw [Nat.zero_add] at g1
    have g2'' : l[j] = e' := by rw [Array.getElem?_eq_getElem hlt] at g2'; exact Option.some.inj g2'
    simp [Instr.mapUpdate, run_underlying hu, MapKept.run_getObj_map hb, MapKept.run_checkKey hkd (show MapKept.IsKey (.int kd) (.int kd x) from rfl), MapKept.run_findKey hkd g1, MapKept.run_setObj_map _ hb, Result.andThen, g2', g2'', g3, MapKept.run_keyThatStays (show MapKept.IsKey (.int kd) (.int kd x) from rfl)]
theorem map_del {i g : Nat} {t kt et ty' : TypeId} {at2 : List TypeId} {kd : IntKind} {es : List (Int × AV T.U)} {l : Array MapEntry} {c : Nat} {x : Int} (hmk : mapK P t = some (kd, kt, et)) (h : Sim T w0 S0 ⟨F, H⟩ F' w S φ) (hHi : H[i]? = some (.map kd es)) (hg : (φ i).ad = some ⟨g, 0, none⟩) (hm : Mp w g l c)
    (hgS : g ∈ S) (ht : MR T w S φ kd es l.toList) (hst : MapKept.Stamped l c) : ∃ w', (Builtin.delete_ (t :: at2).toArray ty' #[.map (some g), .int kd x]).run P w = .ok (.tuple #[]) w' ∧ Sim T w0 S0 ⟨F, H.set i (.map kd (tdel es x))⟩ F' w' S φ := by
  obtain ⟨hu, hkd⟩ := mapInfo_spec (mapK_spec hmk)
  have hb : w.heap[g]? = some (.map l c) := hm
  have hids : ∀ q ∈ idsM (tdel es x), q < H.length := fun q hq => h.eids _ _ hHi q (idsM_tdel x es q hq)
  rcases MR.find2 (x := x) 0 ht with ⟨g1, _, g5, _⟩ | ⟨j, e', g1, g2, g3, _, g7⟩
  · refine ⟨_, ?_, map_put (l' := l) (c' := c) h hHi hg hm hgS (by rw [g5]; exact ht) hst hids⟩
    simp [Builtin.delete_, run_underlying hu, MapKept.run_getObj_map hb, MapKept.run_checkKey hkd (show MapKept.IsKey (.int kd) (.int kd x) from rfl), MapKept.run_findKey hkd g1, MapKept.run_setObj_map _ hb, Result.andThen]
  · have hlt : j < l.size := by have := (List.getElem?_eq_some_iff.1 g2).1; simpa using this
    refine ⟨_, ?_, map_put (l' := l.eraseIdxIfInBounds j) (c' := c) h hHi hg hm hgS ?_ (MapKept.stamped_erase hst j) hids⟩
    · rw [Nat.zero_add] at g1
      simp [Builtin.delete_, run_underlying hu, MapKept.run_getObj_map hb, MapKept.run_checkKey hkd (show MapKept.IsKey (.int kd) (.int kd x) from rfl), MapKept.run_findKey hkd g1, MapKept.run_setObj_map _ hb, Result.andThen]
    · have : (l.eraseIdxIfInBounds j).toList = l.toList.eraseIdx j := by
        unfold Array.eraseIdxIfInBounds
        rw [dif_pos hlt, Array.toList_eraseIdx]
      rw [this]; exact g7
theorem insert_wr {t : TypeId} {xm xk xv : Operand} (hd : dec ops k n F' = some o) (hop : o.op = .insert t xm xk xv ∨ o.op = .mapUpdate t xm xk xv) (hdst : o.dst = none) {m a : AV T.U} {kx : IntKind} {x : Int} (hm : aev T F xm = some m) (hk : aev T F xk = some (cI T kx x)) (hv : aev T F xv = some a) {H1 : List (Ent T.U)} (hi : insA T P t H m kx x a = some H1)
    (h : Sim T w0 S0 ⟨F, H⟩ F' w S φ) (K : Kont P ops Q (k + 1) n ds w0 S0 (⟨F, H1⟩ : St T)) : WR P ops Q k n ds F' w := by
  obtain ⟨M, h1, h2⟩ := aev_rel h.fr hm
  obtain ⟨X, h3, h4⟩ := aev_rel h.fr hk
  obtain ⟨V, h5, h6⟩ := aev_rel h.fr hv
  have e := cint_rel h4; subst e
  have hok := aev_ok h hv
  unfold insA at hi
  split at hi
  · rename_i i kd kt et hmk
    split at hi
    · rename_i kd' es hHi
      split at hi
      · rename_i hb
        rw [Bool.and_eq_true] at hb
        have b1 := kindEq_eq hb.1; have b2 := kindEq_eq hb.2
        subst b1; subst b2
        simp only [Option.some.injEq] at hi; subst hi
        obtain ⟨g, hg, rfl⟩ := h2
        obtain ⟨g', l, c, a1, a2, a3, a4, a5⟩ := h.ents i _ hHi
        rw [hg] at a1; simp only [Option.some.injEq, Addr.mk.injEq, and_true] at a1; subst a1
        obtain ⟨w', hr, hs⟩ := map_set (x := x) hmk h hHi hg a2 a3 a4 a5 h6 hok.1
        rcases hop with hop | hop
        · refine WR.skip hd (w' := w') ?_ (by rw [hdst]; exact K _ _ ⟨S, φ, hs⟩)
          cases o; simp only at hop hdst; subst hop; subst hdst
          simp [execOp, evD_of h1, evD_of h3, evD_of h5, hr]
        · refine WR.skip hd (w' := w') ?_ (by rw [hdst]; exact K _ _ ⟨S, φ, hs⟩)
          cases o; simp only at hop hdst; subst hop; subst hdst
          simp [execOp, evD_of h1, evD_of h3, evD_of h5, hr]
      · cases hi
    · rename_i kd' ty es hHi
      split at hi
      · rename_i y hb hy
        rw [Bool.and_eq_true] at hb
        have b1 := kindEq_eq hb.1; have b2 := kindEq_eq hb.2
        subst b1; subst b2
        simp only [Option.some.injEq] at hi; subst hi
        obtain ⟨g, hg, rfl⟩ := h2
        obtain ⟨g', l, c, a1, a2, a3, a4, a5⟩ := h.ents i _ hHi
        rw [hg] at a1; simp only [Option.some.injEq, Addr.mk.injEq, and_true] at a1; subst a1
        unfold oneOf at hy
        split at hy
        · rename_i cl
          have e := Cell.as_eq hy; subst e
          obtain ⟨w', hr, hs⟩ := tmap_set (x := x) hmk h hHi hg a2 a3 a4 a5 h6
          rcases hop with hop | hop
          · refine WR.skip hd (w' := w') ?_ (by rw [hdst]; exact K _ _ ⟨S, φ, hs⟩)
            cases o; simp only at hop hdst; subst hop; subst hdst
            simp [execOp, evD_of h1, evD_of h3, evD_of h5, hr]
          · refine WR.skip hd (w' := w') ?_ (by rw [hdst]; exact K _ _ ⟨S, φ, hs⟩)
            cases o; simp only at hop hdst; subst hop; subst hdst
            simp [execOp, evD_of h1, evD_of h3, evD_of h5, hr]
        · cases hy
      · cases hi
    · cases hi
  · cases hi
theorem lookM_rel {R : Type} {r : R} {kd : IntKind} {x : Int} {co : Bool} {z : AV T.U} {Z : Value} (hz : VR T w S φ z Z) {K : AV T.U → Option R} : ∀ {es : List (Int × AV T.U)} {l : List MapEntry} (i : Nat), lookM T co z x K es = some r → MR T w S φ kd es l →
    ∃ a q, K a = some r ∧ Instr.findNow (.int kd) (.int kd x) l i = some q ∧ VR T w S φ a (lkV Z co q) ∧ ∀ j ∈ a.ids, j ∈ z.ids ∨ j ∈ idsM es
  | [], [], i, h, _ => by
    refine ⟨_, none, h, rfl, ?_, fun j hj => .inl ?_⟩
    · cases co
      · exact hz
      · exact ⟨_, rfl, hz, CR.bool _, trivial⟩
    · cases co
      · exact hj
      · simpa [AV.ids, idsL] using hj
  | [], _ :: _, _, _, h => h.elim
  | _ :: _, [], _, _, h => h.elim
  | (y, b) :: es, e :: l, i, h, hm => by
    obtain ⟨h1, h2, h3⟩ := hm
    unfold lookM at h
    unfold Instr.findNow
    rw [h1]
    simp only [Instr.sameNow, if_true]
    split at h
    · rename_i he
      subst he
      rw [show (x == x) = true from by simp]
      refine ⟨_, some (i, e.val), h, rfl, ?_, fun j hj => .inr ?_⟩
      · cases co
        · exact h2
        · exact ⟨_, rfl, h2, CR.bool _, trivial⟩
      · rw [idsM]
        cases co
        · exact List.mem_append.2 (.inl hj)
        · exact List.mem_append.2 (.inl (by simpa [AV.ids, idsL] using hj))
    · rename_i hne
      rw [show (x == y) = false from by simpa using hne]
      obtain ⟨a, q, q1, q2, q3, q4⟩ := lookM_rel hz (i + 1) h h3
      exact ⟨a, q, q1, q2, q3, fun j hj => (q4 j hj).imp id fun hj => by rw [idsM]; exact List.mem_append.2 (.inr hj)⟩
theorem lookA_q {Z : Prop} {R : Type} {r : R} {t : TypeId} {xm xk : Operand} {co : Bool} (hd : dec ops k n F' = some o) (hop : o.op = .lookup t xm xk co) {m : AV T.U} {kx : IntKind} {x : Int} (hm : aev T F xm = some m) (hk : aev T F xk = some (cI T kx x)) {K0 : AV T.U → Option R} (hl : lookA T P t co H m kx x K0 = some r)
    (h : Sim T w0 S0 ⟨F, H⟩ F' w S φ) (hrd : ∀ i ∈ m.ids, i ∈ rd) (K : ∀ a v, K0 a = some r → QR P F' o S φ rd w v → VR T w S φ a v → (∀ i ∈ a.ids, i < H.length) → Z) : Z := by
  obtain ⟨M, h1, h2⟩ := aev_rel h.fr hm
  obtain ⟨X, h3, h4⟩ := aev_rel h.fr hk
  have e := cint_rel h4; subst e
  unfold lookA at hl
  split at hl
  · rename_i i kd kt et hmk
    split at hl
    · rename_i kd' es hHi
      split at hl
      · rename_i z hb hz
        rw [Bool.and_eq_true] at hb
        obtain ⟨b1, b2⟩ := hb
        have b1 := kindEq_eq b1; have b2 := kindEq_eq b2
        subst b1; subst b2
        obtain ⟨g, hg, rfl⟩ := h2
        obtain ⟨g', l, c, a1, a2, a3, a4, a5⟩ := h.ents i _ hHi
        rw [hg] at a1; simp only [Option.some.injEq, Addr.mk.injEq, and_true] at a1; subst a1
        obtain ⟨zv, hzv, hze⟩ : ∃ zv, (P.info? et).bind (·.zero) = some zv ∧ z = ofV T zv := by
          unfold zeroV at hz
          split at hz
          · rename_i inf hinf
            split at hz
            · rename_i zv hzv
              simp only [Option.some.injEq] at hz
              exact ⟨zv, by rw [hinf]; exact hzv, hz.symm⟩
            · cases hz
          · cases hz
        subst hze
        obtain ⟨a, q, q1, q2, q3, q4⟩ := lookM_rel (ofV_rel T zv) 0 hl a4
        have hdl : decLookup ops k n F' = some (o.dst, t, .map (some g), .int kx x, co) := by
          unfold decLookup; rw [hd]; cases o; simp only at hop; subst hop; simp only [evD_of h1, evD_of h3]
        refine K a _ q1 (fun w1 _ hsm => ?_) q3 fun j hj => ?_
        · have hm1 : Mp w1 g l c := (hsm i (hrd i (by simp [AV.ids])) _ hg a2.lt).trans a2
          have hr := run_lookup (P := P) hm1 hdl (mapK_spec hmk) rfl q q2 hzv _ rfl
          unfold decRun at hr
          rw [hd] at hr
          simp only [Option.some.injEq, Prod.mk.injEq] at hr
          exact hr.2
        · rcases q4 j hj with hj | hj
          · rw [ofV_ids] at hj; cases hj
          · exact h.eids _ _ hHi j hj
      · cases hl
    · rename_i kd' ty es hHi
      split at hl
      · rename_i hb
        rw [Bool.and_eq_true, Bool.and_eq_true] at hb
        have b1 := kindEq_eq hb.1; have b2 := kindEq_eq hb.2.1
        subst b1; subst b2
        obtain ⟨g, hg, rfl⟩ := h2
        obtain ⟨g', l, c, a1, a2, a3, a4, a5⟩ := h.ents i _ hHi
        rw [hg] at a1; simp only [Option.some.injEq, Addr.mk.injEq, and_true] at a1; subst a1
        obtain ⟨zv, hzv, hzr⟩ := zeroT_rel (T := T) (w := w) (S := S) hb.2.2
        have hdl : decLookup ops k n F' = some (o.dst, t, .map (some g), .int kx x, co) := by
          unfold decLookup; rw [hd]; cases o; simp only at hop; subst hop; simp only [evD_of h1, evD_of h3]
        have hq : ∀ q, Instr.findNow (.int kx) (.int kx x) l.toList 0 = some q → QR P F' o S φ rd w (lkV zv co q) := fun q q2 w1 _ hsm => by
          have hm1 : Mp w1 g l c := (hsm i (hrd i (by simp [AV.ids])) _ hg a2.lt).trans a2
          have hr := run_lookup (P := P) hm1 hdl (mapK_spec hmk) rfl q q2 hzv _ rfl
          unfold decRun at hr
          rw [hd] at hr
          simp only [Option.some.injEq, Prod.mk.injEq] at hr
          exact hr.2
        have hids : ∀ j ∈ (lookTm T co ty es x).ids, j < H.length := by
          intro j hj; cases co <;> simp [lookTm, AV.ids, idsL] at hj
        rcases TR.find (x := x) 0 a4 with ⟨g1, g2, g3, _⟩ | ⟨j, e', g1, g2, g3, g4, g5, _⟩
        · refine K _ _ hl (hq _ g1) ?_ hids
          cases co
          · show CR T w S ty _ _; rw [g3]; exact hzr
          · exact ⟨_, rfl, by rw [g3]; exact hzr, by rw [g2]; exact CR.bool _, trivial⟩
        · refine K _ _ hl (hq _ g1) ?_ hids
          cases co
          · exact g4
          · exact ⟨_, rfl, g4, by rw [g5]; exact CR.bool _, trivial⟩
      · cases hl
    · cases hl
  · cases hl
end
end Go.X
