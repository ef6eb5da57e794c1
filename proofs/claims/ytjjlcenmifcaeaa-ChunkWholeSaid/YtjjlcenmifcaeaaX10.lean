/- A region in the order of its text; a region of a drawn order whose operations only read. Nothing here is about one program. -/
import Derived.Test.YtjjlcenmifcaeaaXP
namespace Go.X
open Go.RowKit Go.V

section
variable {T : Tab} (P : Program) (C : Ctx T) {R : Type}
def presA (F : AF T) (o : Oper) : Bool := o.op.operands.toList.all fun x => (aev T F x).isSome
def dstAt (ops : Array Oper) (j : Nat) : Option Tmp := (ops[j]?).bind (·.dst)
def callQ (c : Call) (st : St T) (K : AV T.U → Option R) : Option R :=
  match aevL T st.F c.args.toList with
  | none => none
  | some as =>
    match c.callee with
    | .value f => match aev T st.F f with
      | some (.fn (.func g) first caps) => match enterable P g, findE C.E g with
        | true, some cs => match (first ++ as ++ caps).all notEp with | true => cs.q (first ++ as ++ caps) st.H K | false => none
        | _, _ => none
      | _ => none
    | _ => none
/-- an operation that only reads, a call that leaves all as it was. -/
def stepQ (o : Oper) (st : St T) (K : AV T.U → Option R) : Option R :=
  match o.op with
  | .call c => match stepA.reads c with
    | true => readA P o st K
    | false => callQ P C c st K
  | _ => readA P o st K
/-- A region's operations, one behind the other. -/
def regG (stp : Oper → St T → (St T → Option R) → Option R) (ops : Array Oper) (n : Nat) (K : St T → Option R) : List Oper → St T → Option R
  | [], st => K st
  | o :: r, st =>
    let take := fun (st : St T) => match okDst n o.dst && (notSelect o && presA st.F o) with
      | true => stp o st (fun st => regG stp ops n K r st)
      | false => none
    let pass := fun (st : St T) => match okDst n o.dst with
      | true => regG stp ops n K r ⟨updA T st.F o.dst (.raw undef), st.H⟩
      | false => none
    match o.guard with
    | none => take st
    | some (j, b) => match dstAt ops j with
      | none => none
      | some d => match st.F.get T d with
        | some (.cell ⟨.bool, c⟩) => forkB c (let st := ⟨(d, cB T true) :: st.F, st.H⟩; match b with | true => take st | false => pass st)
          (let st := ⟨(d, cB T false) :: st.F, st.H⟩; match b with | true => pass st | false => take st)
        | some (.raw (.tuple _)) => pass st
        | _ => none
/-! ### A list held against nothing: of one without things it is not known whether it is nothing; then both ways come to the same -/
open Classical in
noncomputable def both (a b : Option R) : Option R := if a = b then a else none
noncomputable def nilF (e : Bool) (a b : Option R) : Option R := match e with | true => both a b | false => b
def isNilC : Operand → Bool | .const (.slice none _ _) => true | _ => false
def negOf : BinOp → Option Bool | .eql => some false | .neq => some true | _ => none
def emptyA (H : List (Ent T.U)) : AV T.U → Option Bool
  | .cell ⟨.list e, xs⟩ => some (List.isEmpty (α := den T.U e) xs)
  | .cell ⟨.nl e, xs⟩ => some (List.isEmpty (α := den T.U e) xs)
  | .own i => match H[i]? with | some (.row _ _ xs) => some xs.isEmpty | _ => none
  | _ => none
/-- a list that is nothing just if it has nothing. -/
def isNl : AV T.U → Bool | .cell ⟨.nl _, _⟩ => true | _ => false
noncomputable def nilG (kn e : Bool) (a b : Option R) : Option R := match kn with | true => forkB e a b | false => nilF e a b
/-- whether it's the other way about; whether it has nothing. -/
def nilL (o : Oper) (st : St T) : Option (Bool × Bool × Bool) :=
  match o.op with
  | .binOp b t x y _ => match P.underlying t with
    | some (.slice _) => match negOf b, isNilC y, aev T st.F x with
      | some neg, true, some a => match emptyA st.H a with | some e => some (neg, e, isNl a) | none => none
      | _, _, _ => none
    | _ => none
  | _ => none
noncomputable def stepN (o : Oper) (st : St T) (K : St T → Option R) (Kp : AV T.U → St T → Option R) : Option R :=
  match nilL P o st with
  | some (neg, e, kn) => nilG kn e (K ⟨updA T st.F o.dst (cB T (negB neg true)), st.H⟩) (K ⟨updA T st.F o.dst (cB T (negB neg false)), st.H⟩)
  | none => match stepM P C o st K with | some z => z | none => stepF P C o st K Kp
noncomputable def regA (ops : Array Oper) (n : Nat) (Kp : AV T.U → St T → Option R) (K : St T → Option R) (st : St T) : Option R := regG (fun o st K => stepN P C o st K Kp) ops n K ops.toList st
def regQ (ops : Array Oper) (n : Nat) (K : St T → Option R) (st : St T) : Option R := regG (fun o st K => stepQ P C o st fun a => K ⟨updA T st.F o.dst a, st.H⟩) ops n K ops.toList st
end
section
variable {T : Tab} {P : Program} {C : Ctx T} {w w' : World} {S S' : List Nat} {φ φ' : Nat → RA} {w0 : World} {S0 : Ow} {F : AF T} {H : List (Ent T.U)} {F' : PF}
variable {ops : Array Oper} {Q : Exit → Act → World → Prop} {k n : Nat} {ds : List Deferred} {o : Oper}
theorem Sim.again (h : Sim T w0 S0 ⟨F, H⟩ F' w S φ) {d : Nat} {a : AV T.U} (ha : F.get T d = some a) : Sim T w0 S0 ⟨(d, a) :: F, H⟩ F' w S φ := by
  obtain ⟨v, h1, h2⟩ := h.fr d a ha
  exact h.seen h1 h2 (h.ids d a ha)
theorem presA_rel (hF : FR T w S φ F F') {o : Oper} (h : presA F o = true) : present F' o = true := by
  unfold presA at h; unfold present
  rw [List.all_eq_true] at h ⊢
  intro x hx
  obtain ⟨a, ha⟩ := Option.isSome_iff_exists.1 (h x hx)
  obtain ⟨v, hv, _⟩ := aev_rel hF ha
  rw [hv]; rfl
/-- what stands behind a region. -/
def RKont (Q : Exit → Act → World → Prop) (n : Nat) (ds : List Deferred) (w0 : World) (S0 : Ow) (st : St T) : Prop := ∀ F1 w1, Stands T w0 S0 st F1 w1 → ∀ a, Fr n ds F1 a → Q .normal a w1
theorem reg_gen {R : Type} {r : R} {stp : Oper → St T → (St T → Option R) → Option R} {K : St T → Option R} (G : Nat → PF → World → Prop)
    (hstep : ∀ (k : Nat) (o : Oper) (F : AF T) (H : List (Ent T.U)) (F' : PF) (w : World) (S : List Nat) (φ : Nat → RA) (K : St T → Option R), dec ops k n F' = some o → stp o ⟨F, H⟩ K = some r → Sim T w0 S0 ⟨F, H⟩ F' w S φ → (∀ st, K st = some r → ∀ F1 w1 S1 φ1, Sim T w0 S0 st F1 w1 S1 φ1 → G (k + 1) F1 w1) → G k F' w)
    (hpass : ∀ (k : Nat) (dst : Option Tmp) (F' : PF) (w : World), passDst ops k n F' = some dst → G (k + 1) (upd F' dst undef) w → G k F' w)
    (hfin : ∀ (k : Nat) (st : St T) (F' : PF) (w : World) (S : List Nat) (φ : Nat → RA), ops.size ≤ k → K st = some r → Sim T w0 S0 st F' w S φ → G k F' w) :
    ∀ (rest : List Oper) (k : Nat), ops.toList.drop k = rest → ∀ (F : AF T) (H : List (Ent T.U)) (F' : PF) (w : World) (S : List Nat) (φ : Nat → RA), regG stp ops n K rest ⟨F, H⟩ = some r → Sim T w0 S0 ⟨F, H⟩ F' w S φ → G k F' w
  | [], k, hk, F, H, F', w, S, φ, hr, h => by
    have : ops.size ≤ k := by simpa using List.drop_eq_nil_iff.1 hk
    exact hfin k _ F' w S φ this hr h
  | o :: rest, k, hk, F, H, F', w, S, φ, hr, h => by
    have hlt : k < ops.size := by
      apply Classical.byContradiction; intro hn
      rw [List.drop_eq_nil_of_le (by simpa using hn)] at hk; cases hk
    have ho : ops[k]? = some o := by
      have := List.drop_eq_getElem_cons (l := ops.toList) (i := k) (by simpa using hlt)
      rw [hk] at this
      rw [Array.getElem?_eq_getElem hlt]
      have h1 := (List.cons.inj this).1
      simpa using h1.symm
    have hk' : ops.toList.drop (k + 1) = rest := by
      have := List.drop_eq_getElem_cons (l := ops.toList) (i := k) (by simpa using hlt)
      rw [hk] at this
      exact (List.cons.inj this).2.symm
    have htake : ∀ (F : AF T), (match okDst n o.dst && (notSelect o && presA F o) with
        | true => stp o ⟨F, H⟩ (fun st => regG stp ops n K rest st)
        | false => none) = some r → Sim T w0 S0 ⟨F, H⟩ F' w S φ → wants ops F' o = some true → G k F' w := by
      intro F hr h hw
      split at hr
      · rename_i hb
        simp only [Bool.and_eq_true] at hb
        have hd : dec ops k n F' = some o := by
          unfold dec
          rw [ho]; simp only [hw, hb.1, hb.2.1, presA_rel h.fr hb.2.2, Bool.and_self]
        exact hstep k o F H F' w S φ _ hd hr h fun st hs F1 w1 S1 φ1 h1 => reg_gen G hstep hpass hfin rest (k + 1) hk' st.F st.H F1 w1 S1 φ1 hs h1
      · cases hr
    have hpass' : ∀ (F : AF T), (match okDst n o.dst with
        | true => regG stp ops n K rest ⟨updA T F o.dst (.raw undef), H⟩
        | false => none) = some r → Sim T w0 S0 ⟨F, H⟩ F' w S φ → wants ops F' o = some false → G k F' w := by
      intro F hr h hw
      split at hr
      · rename_i hb
        refine hpass k o.dst F' w ?_ (reg_gen G hstep hpass hfin rest (k + 1) hk' _ _ _ _ S φ hr (h.slot rfl ⟨fun i hi => (by cases hi), trivial⟩))
        unfold passDst
        rw [ho]; simp only [hw, hb]
      · cases hr
    unfold regG at hr
    simp only at hr
    split at hr
    · rename_i hg
      exact htake F hr h (by unfold wants; rw [hg])
    · rename_i j b hg
      split at hr
      · cases hr
      · rename_i d hdj
        have hgv : ∀ v, F'.get d = some v → guardVal ops F' j = match v with | .bool b => some (some b) | .tuple _ => some none | _ => none := by
          intro v hv
          unfold dstAt at hdj
          unfold guardVal
          rw [hdj]; simp only [hv]
          cases v <;> rfl
        split at hr
        · rename_i c hc
          obtain ⟨v, hv, hvr⟩ := h.fr d _ hc
          have := cbool_rel hvr; subst this
          have hgv := hgv _ hv
          simp only at hgv
          have h' := h.again hc
          rcases forkB_cases hr with ⟨hct, hr⟩ | ⟨hct, hr⟩
          · have hct : c = true := hct
            subst hct
            cases b with
            | true => exact htake _ hr h' (by unfold wants; rw [hg]; simp only [hgv]; rfl)
            | false => exact hpass' _ hr h' (by unfold wants; rw [hg]; simp only [hgv]; rfl)
          · have hct : c = false := hct
            subst hct
            cases b with
            | true => exact hpass' _ hr h' (by unfold wants; rw [hg]; simp only [hgv]; rfl)
            | false => exact htake _ hr h' (by unfold wants; rw [hg]; simp only [hgv]; rfl)
        · rename_i u hc
          obtain ⟨v, hv, hvr⟩ := h.fr d _ hc
          rw [VR] at hvr; subst hvr
          have hgv := hgv _ hv
          simp only at hgv
          exact hpass' _ hr h (by unfold wants; rw [hg]; simp only [hgv]; cases b <;> rfl)
        · cases hr
theorem both_some {R : Type} {a b : Option R} {r : R} (h : both a b = some r) : a = some r ∧ b = some r := by
  unfold both at h
  split at h
  · rename_i he; exact ⟨h, he ▸ h⟩
  · cases h
theorem stepN_sound {R : Type} {r : R} (hE : EnvOk T P C.E) (hd : dec ops k n F' = some o) {K : St T → Option R} {Kp : AV T.U → St T → Option R} (hs : stepN P C o ⟨F, H⟩ K Kp = some r) (h : Sim T w0 S0 ⟨F, H⟩ F' w S φ)
    (HK : ∀ st, K st = some r → Kont P ops Q (k + 1) n ds w0 S0 st) (HP : ∀ a st, Kp a st = some r → PKont Q n ds w0 S0 a st) : WR P ops Q k n ds F' w := by
  unfold stepN at hs
  split at hs
  · rename_i neg e kn hn
    unfold nilL at hn
    split at hn <;> try (cases hn; done)
    rename_i b t x y ty hop
    split at hn <;> try (cases hn; done)
    rename_i et hu
    split at hn <;> try (cases hn; done)
    rename_i neg' a hneg hy hx
    split at hn <;> try (cases hn; done)
    rename_i e' he
    simp only [Option.some.injEq, Prod.mk.injEq] at hn
    obtain ⟨rfl, rfl, rfl⟩ := hn
    have hb : b = if neg' then .neq else .eql := by cases b <;> simp [negOf] at hneg <;> subst hneg <;> rfl
    obtain ⟨X, h1, h2⟩ := aev_rel h.fr hx
    obtain ⟨m, c, rfl⟩ : ∃ m c, y = .const (.slice none m c) := by
      unfold isNilC at hy
      split at hy
      · exact ⟨_, _, rfl⟩
      · cases hy
    -- what is held against nothing
    have key : ∃ ad n' c', X = .slice ad n' c' ∧ (e' = false → ad.isNone = false) ∧ (isNl a = true → e' = true → ad.isNone = true) := by
      unfold emptyA at he
      split at he <;> try (cases he; done)
      · rename_i el xs
        simp only [Option.some.injEq] at he
        have h2 : CR T w S (.list el) xs X := h2
        cases h2 with
        | list _ _ ad cap u hcap hnil had _ _ =>
          refine ⟨ad, _, _, rfl, fun hf => ?_, fun q => by cases q⟩
          cases ad with
          | some _ => rfl
          | none =>
            have := (hnil rfl).1
            rw [hf] at he
            cases xs with
            | nil => cases he
            | cons _ _ => cases this
      · rename_i el xs
        simp only [Option.some.injEq] at he
        have h2 : CR T w S (.nl el) xs X := h2
        cases h2 with
        | nl _ _ ad cap h3 hz =>
          refine ⟨ad, _, _, rfl, fun hf => ?_, fun _ ht => ?_⟩
          · cases ad with
            | some _ => rfl
            | none =>
              rw [hf] at he
              cases xs with
              | nil => cases he
              | cons _ _ => cases h3 with
                | list _ _ _ _ _ _ hnil _ _ _ => have := (hnil rfl).1; cases this
          · rw [ht] at he
            cases xs with
            | nil => rw [(hz rfl).1]; rfl
            | cons _ _ => cases he
      · rename_i i
        split at he <;> try (cases he; done)
        rename_i et' ty' xs hi
        simp only [Option.some.injEq] at he
        rw [VR] at h2; subst h2
        obtain ⟨B, vals, q1, q2, _⟩ := h.ents i _ hi
        refine ⟨_, _, _, rfl, fun hf => ?_, fun q => by cases q⟩
        cases had : (φ i).ad with
        | some _ => rfl
        | none =>
          have := (q1.nil0 had).1
          rw [q2] at this
          rw [hf] at he
          cases xs with
          | nil => cases he
          | cons _ _ => cases this
    obtain ⟨ad, n', c', rfl, hkey, hkn⟩ := key
    have hrun : (execOp (evD F') o).run P w = .ok (.value (.bool (negB neg' ad.isNone))) w := by
      have g1 := guard_fin (P := P) (t := t) (X := .slice ad n' c') (Y := .slice none m c) (b := b) x (.const (.slice none m c)) rfl rfl (.inl (by simp)) w
      have g2 := eql_fin (P := P) hb (X := .slice ad n' c') (Y := .slice none m c) rfl rfl (fun w0 => (eqIn_sl P hu m c ad n' c' w0).2) w
      obtain ⟨Y, h3, h4⟩ := aev_rel h.fr (show aev T F (.const (.slice none m c)) = some (.raw (.slice none m c)) from rfl)
      rw [VR] at h4; subst h4
      simp [execOp, hop, evD_of h1, evD_of h3, g1, g2]
    have hk : K ⟨updA T F o.dst (cB T (negB neg' ad.isNone)), H⟩ = some r := by
      unfold nilG at hs
      split at hs
      · rename_i hq
        unfold forkB at hs
        cases e' with
        | true => rw [hkn hq rfl]; exact hs
        | false => rw [hkey rfl]; exact hs
      unfold nilF at hs
      split at hs
      · obtain ⟨k1, k2⟩ := both_some hs
        cases ad with
        | none => exact k1
        | some _ => exact k2
      · rw [hkey rfl]; exact hs
    exact WR.val hd hrun (HK _ hk _ _ ⟨S, φ, h.slot (a := cB T (negB neg' ad.isNone)) (CR.bool _) (okA_of_nil rfl (by intro _ _ _ _ e; cases e))⟩)
  · split at hs
    · rename_i z hz
      subst hs
      exact stepM_sound hd hz h HK
    · exact stepF_sound hE hd hs h HK HP
theorem reg_sound {R : Type} {r : R} (hE : EnvOk T P C.E) {K : St T → Option R} {Kp : AV T.U → St T → Option R} (HK : ∀ st, K st = some r → RKont Q n ds w0 S0 st) (HP : ∀ a st, Kp a st = some r → PKont Q n ds w0 S0 a st)
    (hr : regA P C ops n Kp K ⟨F, H⟩ = some r) (h : Sim T w0 S0 ⟨F, H⟩ F' w S φ) : WR P ops Q 0 n ds F' w := by
  refine reg_gen (w0 := w0) (S0 := S0) (K := K) (stp := fun o st K => stepN P C o st K Kp) (r := r) (fun k F' w => WR P ops Q k n ds F' w) ?_ ?_ ?_ ops.toList 0 rfl F H F' w S φ hr h
  · intro k o F H F' w S φ K hd hs h HK
    exact stepN_sound hE hd hs h (fun st hst F1 w1 ⟨S1, φ1, h1⟩ => HK st hst F1 w1 S1 φ1 h1) HP
  · intro k dst F' w hp K
    exact WR.pass1 hp K
  · intro k st F' w S φ hk hst h
    exact .fin (Nat.ble_eq_true_of_le hk) fun a ha => HK st hst F' w ⟨S, φ, h⟩ a ha
theorem stepQ_sound {R : Type} {r : R} {Qf : Act → Prop} (hE : EnvOk T P C.E) (hd : dec ops k n F' = some o) {K : AV T.U → Option R} (hs : stepQ P C o ⟨F, H⟩ K = some r) (h : Sim T w0 S0 ⟨F, H⟩ F' w S φ)
    (HK : ∀ a v, K a = some r → VR T w S φ a v → okA H a → WQ P ops (fun w' => Chg [] w w') Qf (k + 1) n ds (upd F' o.dst v)) : WQ P ops (fun w' => Chg [] w w') Qf k n ds F' := by
  have hread : readA P o ⟨F, H⟩ K = some r → WQ P ops (fun w' => Chg [] w w') Qf k n ds F' := fun hs =>
    read_q hd hs h fun a v hK hq hv hok => WQ.step hd (fun w1 hw => by rw [hq w1 (chgWide hw S) (Same.pure hw)]; exact ⟨rfl, rfl⟩) (HK a v hK hv hok)
  unfold stepQ at hs
  split at hs
  · rename_i hop
    split at hs
    · exact hread hs
    · unfold callQ at hs
      split at hs
      · cases hs
      · rename_i as has
        split at hs
        · rename_i f hc
          split at hs
          · rename_i g first caps hf
            split at hs
            · rename_i cs he hcs
              split at hs
              · rename_i hall
                obtain ⟨vs, h1, h2, h3⟩ := callV_args hop hc hf has he hall h
                obtain ⟨a, v, g1, g3, g4, g5⟩ := (hE g cs hcs).2.1 _ H K r hs w0 S0 F F' w S φ h vs h1 h2
                refine WQ.step hd (fun w1 hw => ?_) (HK a v g1 g3 g4)
                rw [h3 w1]
                refine ⟨rfl, (g5 w1 (chgWide hw S) (Same.pure hw)).mono fun e w'' hR => ?_⟩
                cases e with
                | returned u => obtain ⟨q1, q2⟩ := hR; exact ⟨by rw [q2], hw.pure q1⟩
                | panicked ch => exact hR.elim
                | outgrown => exact hR.elim
              · cases hs
            · cases hs
          · cases hs
        · cases hs
  · exact hread hs
theorem regQ_sound {R : Type} {r : R} (hE : EnvOk T P C.E) {K : St T → Option R} (HK : ∀ st, K st = some r → RKont Q n ds w0 S0 st) (hr : regQ P C ops n K ⟨F, H⟩ = some r) (h : Sim T w0 S0 ⟨F, H⟩ F' w S φ) :
    WQ P ops (fun w' => Chg [] w w') (fun a' => ∀ w', Chg [] w w' → Q .normal a' w') 0 n ds F' := by
  refine reg_gen (w0 := w0) (S0 := S0) (K := K) (stp := fun o st K => stepQ P C o st fun a => K ⟨updA T st.F o.dst a, st.H⟩) (r := r) (fun k F' w => WQ P ops (fun w' => Chg [] w w') (fun a' => ∀ w', Chg [] w w' → Q .normal a' w') k n ds F') ?_ ?_ ?_ ops.toList 0 rfl F H F' w S φ hr h
  · intro k o F H F' w S φ K hd hs h HK
    exact stepQ_sound hE hd hs h fun a v hK hv hok => HK _ hK _ w S φ (h.slot hv hok)
  · intro k dst F' w hp K
    exact WQ.pass1 hp K
  · intro k st F' w S φ hk hst h
    exact WQ.fin (Nat.ble_eq_true_of_le hk) fun w' hw a ha => HK st hst F' w' ⟨S, φ, h.pure hw⟩ a ha
end
end Go.X
