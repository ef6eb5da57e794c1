/- Rules for an iterator's code (its calls of yield among them); an iterator that looks at two numbers. Nothing here is about one program. -/
import Derived.Test.YtjjlcenmifcaeaaXV
namespace Go.X
open Go.RowKit Go.V

/-- Code, a region from an operation on, in every frame that fits, without a round around it. -/
def CWI (P : Program) (c : Code) (Q : Exit → Act → World → Prop) (n : Nat) (F : PF) (w : World) : Prop := ∀ a, Fr n [] F a → c.wpIn Fence.wide 0 P Q a w
def WRI (P : Program) (ops : Array Oper) (Q : Exit → Act → World → Prop) (k n : Nat) (F : PF) (w : World) : Prop := ∀ a, Fr n [] F a → wpListIn Fence.wide 0 P ops Q (ops.toList.drop k) a w
section
variable {P : Program} {ops : Array Oper} {Q : Exit → Act → World → Prop} {k n : Nat} {F F' : PF} {w w' : World}
theorem wpOp_wide {o : Oper} {a : Act} {K : Act → World → Prop} (h : o.uponIn Fence.wide 0 P a K Q ((execOp a.eval o).run P w)) : o.wpIn Fence.wide 0 P a w K Q :=
  ⟨fun _ _ => trivial, by rw [show Fence.wide.round = none from rfl, Oper.semAt_none]; exact h⟩
theorem WRI.step {o : Oper} (hd : dec ops k n F = some o) (h : ∀ a, Fr n [] F a → execOp a.eval o = execOp (evD F) o → o.wpIn Fence.wide 0 P a w (wpListIn Fence.wide 0 P ops Q (ops.toList.drop (k + 1))) Q) : WRI P ops Q k n F w := by
  intro a ha
  obtain ⟨ho, _, hs, hp, hw⟩ := dec_spec hd
  rw [drop_of_get ho]
  unfold wpListIn
  rw [if_pos (hw ha)]
  exact h a ha (exec_eq ha hs hp)
theorem WRI.val {o : Oper} {v : Value} (hd : dec ops k n F = some o) (hr : (execOp (evD F) o).run P w = .ok (.value v) w') (K : WRI P ops Q (k + 1) n (upd F o.dst v) w') : WRI P ops Q k n F w :=
  .step hd fun a ha he => wpOp_wide (by rw [he, hr]; exact K _ (ha.upd (dec_spec hd).2.1 v))
theorem WRI.skip {o : Oper} (hd : dec ops k n F = some o) (hr : (execOp (evD F) o).run P w = .ok .skip w') (K : WRI P ops Q (k + 1) n (upd F o.dst undef) w') : WRI P ops Q k n F w :=
  .step hd fun a ha he => wpOp_wide (by rw [he, hr]; exact K _ (ha.upd (dec_spec hd).2.1 undef))
theorem WRI.one (h : step1 P ops k n F w = some (F', w')) (K : WRI P ops Q (k + 1) n F' w') : WRI P ops Q k n F w := by
  unfold step1 at h
  split at h
  · cases h
  · rename_i o ho
    split at h
    · rename_i hw
      split at h
      · rename_i hb
        have hd : dec ops k n F = some o := by unfold dec; simp only [ho, hw, hb]
        split at h
        · rename_i v w₁ hr
          simp only [Option.some.injEq, Prod.mk.injEq] at h
          obtain ⟨rfl, rfl⟩ := h
          exact .val hd hr K
        · rename_i w₁ hr
          simp only [Option.some.injEq, Prod.mk.injEq] at h
          obtain ⟨rfl, rfl⟩ := h
          exact .skip hd hr K
        · cases h
      · cases h
    · rename_i hw
      split at h
      · rename_i hb
        simp only [Option.some.injEq, Prod.mk.injEq] at h
        obtain ⟨rfl, rfl⟩ := h
        intro a ha
        rw [drop_of_get ho]
        unfold wpListIn
        rw [if_neg (by rw [wants_spec ha hw]; simp)]
        exact ⟨fun _ _ => trivial, K _ (ha.upd hb undef)⟩
      · cases h
    · cases h
theorem WRI.evs : ∀ (m k : Nat) (F : PF) (w : World), evK P ops n m k F w = some (F', w') → WRI P ops Q (k + m) n F' w' → WRI P ops Q k n F w
  | 0, _, _, _, h, K => by
    simp only [evK, Option.some.injEq, Prod.mk.injEq] at h
    obtain ⟨rfl, rfl⟩ := h
    exact K
  | m + 1, k, F, w, h, K => by
    unfold evK at h
    split at h
    · rename_i F₁ w₁ h1
      exact WRI.one h1 (WRI.evs m (k + 1) F₁ w₁ h (by rw [Nat.add_assoc, Nat.add_comm 1 m]; exact K))
    · cases h
theorem WRI.batch (m : Nat) (F' : PF) (h : (match evK P ops n m k F w with | some (G, w₁) => some (G.keep (F'.map Prod.fst), w₁) | none => none) = some (F', w)) (K : WRI P ops Q (k + m) n F' w) : WRI P ops Q k n F w := by
  split at h
  · rename_i G w₁ hG
    simp only [Option.some.injEq, Prod.mk.injEq] at h
    obtain ⟨h1, rfl⟩ := h
    exact .evs m k F _ hG fun a ha => K a (ha.keep _ h1)
  · cases h
def decCallV (ops : Array Oper) (k n : Nat) (F : PF) : Option (Option Tmp × Value × List Value) :=
  match dec ops k n F with | some ⟨dst, .call ⟨.value x, as, _⟩, _, _, _, _⟩ => some (dst, evD F x, as.toList.map (evD F)) | _ => none
theorem WRI.yield {dst : Option Tmp} {l : Nat} {us : List Value} {R : Ending → World → Prop} (hd : decCallV ops k n F = some (dst, .func (.yield l) #[] #[], us)) (hy : YieldW P l us.toArray w R)
    (hR : ∀ e w', R e w' → ∃ v, e = .returned v) (K : ∀ v w', R (.returned v) w' → WRI P ops Q (k + 1) n (upd F dst v) w') : WRI P ops Q k n F w := by
  unfold decCallV at hd
  split at hd
  · rename_i d x as ats ty pos af gd hdec
    simp only [Option.some.injEq, Prod.mk.injEq] at hd
    obtain ⟨rfl, h1, rfl⟩ := hd
    obtain ⟨fn, tmps, asg, body, hrun, hround⟩ := hy
    refine .step hdec fun a ha he => wpOp_wide ?_
    have hex : (execOp (evD F) ⟨d, .call ⟨.value x, as, ats⟩, ty, pos, af, gd⟩).run P w = .ok (.round l fn tmps asg body) w := by
      have e : (List.map (evD F) as.toList).toArray = as.map (evD F) := by rw [← Array.toList_map]
      rw [e] at hrun
      simp [execOp, resolve, h1, Deferred.ofValue, invoke, hrun]
    rw [he, hex]
    refine ⟨fun h => (by cases h), hround.mono fun e w'' hr => ?_⟩
    obtain ⟨v, rfl⟩ := hR e w'' hr
    exact K v w'' hr _ (ha.upd (dec_spec hdec).2.1 v)
  · cases hd
theorem WRI.fin (hk : Nat.ble ops.size k = true) (K : ∀ a, Fr n [] F a → Q .normal a w) : WRI P ops Q k n F w := fun a ha => by
  rw [List.drop_eq_nil_of_le (by simpa using Nat.le_of_ble_eq_true hk)]
  exact K a ha
theorem CWI.region {id : Nat} (h : WRI P ops Q 0 n F w) : CWI P (.region id ops false) Q n F w := fun a ha => wpIn_region_list (by simpa using h a ha)
theorem CWI.seq {x y : Code} (h : CWI P x (Exit.then (fun a w => ∃ F1, Fr n [] F1 a ∧ CWI P y Q n F1 w) Q) n F w) : CWI P (.seq x y) Q n F w :=
  fun a ha => wpIn_seq (wpIn_mono (h a ha) fun e a' w' hq => by cases e <;> first | exact hq | (obtain ⟨F1, h1, h2⟩ := hq; exact h2 a' h1))
theorem CWI.block {id : Nat} {c : Code} (h : CWI P c (Exit.inBlock id Q) n F w) : CWI P (.block id c) Q n F w := fun a ha => wpIn_block (h a ha)
theorem CWI.cond {c : Operand} {x y : Code} (t : Bool) (hc : ev F c = some (.bool t)) (ht : t = true → CWI P x Q n F w) (hf : t = false → CWI P y Q n F w) : CWI P (.cond c x y) Q n F w :=
  fun a ha => wpIn_cond_split (ha.eval hc) (fun h => ht h a ha) (fun h => hf h a ha)
theorem CWI.skip (K : ∀ a, Fr n [] F a → Q .normal a w) : CWI P .skip Q n F w := fun a ha => wpIn_skip (K a ha)
theorem CWI.exit {id : Nat} (K : ∀ a, Fr n [] F a → Q (.exit id) a w) : CWI P (.exit id) Q n F w := fun a ha => wpIn_exit (K a ha)
theorem CWI.ret (K : ∀ a, Fr n [] F a → Q .ret a w) : CWI P .ret Q n F w := fun a ha => wpIn_ret (K a ha)
end
theorem inBlock_exit {Q : Exit → Act → World → Prop} {id : Nat} {a : Act} {w : World} (h : Q .normal a w) : Exit.inBlock id Q (.exit id) a w := by
  show (if id = id then Q .normal a w else Q (.exit id) a w)
  rw [if_pos rfl]; exact h
theorem calls_of_CWI {P : Program} {n : Nat} {F : PF} {w : World} {f : FuncId} {fn : Func} {c : Code} {args : Array Value} {R : Ending → World → Prop} (hf : P.funcs[f]? = some fn) (hb : fn.body = some c) (hn : fn.ntmps = n) (hs : Nat.ble args.size n = true)
    (l : List Nat) (hF : (argF args.toList 0).keep l = F) (h : CWI P c (bodyPostM Fence.wide 0 P fn R) n F w) : Calls P f args w R := by
  have hsz : args.size ≤ n := Nat.le_of_ble_eq_true hs
  refine callsIn_wide.1 (callsIn_of_wp_marks (F := Fence.wide) (n := 0) hf hb trivial (h _ (Fr.keep ⟨?_, rfl, ?_⟩ l hF)))
  · simp [hn]; omega
  · intro i v hv
    obtain ⟨_, h2⟩ := argF_get args.toList 0 i v hv
    simp only [Nat.sub_zero, Array.getElem?_toList] at h2
    have hi := (Array.getElem?_eq_some_iff.1 h2).1
    refine ⟨?_, by omega⟩
    rw [Array.getD_eq_getD_getElem?, Array.getElem?_append_left hi, h2]
    rfl
/-! ### An iterator that looks at two numbers: a size, a place -/
section
variable {T : Tab}
variable {w0 w : World} {S0 : Ow} {F : AF T} {H : List (Ent T.U)} {F' : PF} {S : List Nat} {φ : Nat → RA}
theorem cell_blk (hs : Sim T w0 S0 ⟨F, H⟩ F' w S φ) {i : Nat} {t : TypeId} {x : Int} (hi : H[i]? = some (.blk t [cI T .i64 x])) {g : Nat} (hg : (φ i).ad = some ⟨g, 0, none⟩) : Blk w g #[.int .i64 x] t := by
  obtain ⟨g', c, h1, h2, _, h4⟩ := hs.ents i _ hi
  rw [hg] at h1; simp only [Option.some.injEq, Addr.mk.injEq, and_true] at h1; subst h1
  have h5 := h4.vrl T rfl
  match hc : c.toList, h5 with
  | [v], h5 =>
    obtain ⟨h6, _⟩ := h5
    have h6 : CR T w S (.int .i64) x v := h6
    cases h6
    have : c = #[Value.int .i64 x] := Array.toList_inj.1 (by rw [hc])
    rw [← this]; exact h2
  | [], h5 => exact h5.elim
  | _ :: _ :: _, h5 => exact h5.2.elim
end
end Go.X
