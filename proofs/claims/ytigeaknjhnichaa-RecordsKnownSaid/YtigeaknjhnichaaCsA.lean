/- Frames as lists of written slots, and step rules for straight-line code over them: lemmas only, for any program. No condition. -/
import Derived.WalkKit
import Derived.Deep.LoopGhost
import Derived.WalkSpells
import Derived.WalkLawsBesides
set_option linter.all false
set_option linter.unusedVariables false
namespace Go.Cs
open Go Go.RowKit

/-- The value that was last written into slot t. -/
def lk : List (Nat × Value) → Nat → Value
  | [], _ => undef
  | (k, v) :: r, t => bif Nat.beq k t then v else lk r t

/-- The frame of n slots that the list describes. -/
def Fr (n : Nat) (σ : List (Nat × Value)) : Act := { tmps := ((List.range n).map (lk σ)).toArray, defers := [] }

def ev (n : Nat) (σ : List (Nat × Value)) : Operand → Value
  | .tmp t => bif Nat.blt t n then lk σ t else undef
  | .const v => v
  | .global g => .pointer (some ⟨g, 0, none⟩)
  | .func f => .func (.func f) #[] #[]

def putσ (σ : List (Nat × Value)) : Option Tmp → Value → List (Nat × Value)
  | none, _ => σ
  | some d, v => (d, v) :: σ

theorem blt_true {a b : Nat} (h : a < b) : Nat.blt a b = true := by simpa [Nat.blt_eq] using h
theorem blt_false {a b : Nat} (h : b ≤ a) : Nat.blt a b = false := by
  cases hb : Nat.blt a b with
  | false => rfl
  | true => rw [Nat.blt_eq] at hb; omega

theorem lk_cons_ne {k t : Nat} {v : Value} {σ : List (Nat × Value)} (h : k ≠ t) : lk ((k, v) :: σ) t = lk σ t := by
  have : Nat.beq k t = false := by
    cases hb : Nat.beq k t with
    | false => rfl
    | true => exact absurd (Nat.eq_of_beq_eq_true hb) h
  simp [lk, this]

theorem lk_cons_eq {k : Nat} {v : Value} {σ : List (Nat × Value)} : lk ((k, v) :: σ) k = v := by
  simp [lk]

theorem Fr_eval (n : Nat) (σ : List (Nat × Value)) : (Fr n σ).eval = ev n σ := by
  funext x
  cases x with
  | tmp t =>
    rcases Nat.lt_or_ge t n with h | h
    · simp [Act.eval, Fr, ev, blt_true h, h]
    · simp [Act.eval, Fr, ev, blt_false h, h]
  | _ => rfl

theorem Fr_put (n : Nat) (σ : List (Nat × Value)) (d : Option Tmp) (v : Value) : (Fr n σ).put d v = Fr n (putσ σ d v) := by
  cases d with
  | none => rfl
  | some d =>
    simp only [Act.put, Fr, putσ]
    congr 1
    apply Array.ext
    · simp
    · intro i h1 h2
      simp only [Array.size_setIfInBounds, List.size_toArray, List.length_map, List.length_range] at h1
      by_cases hd : d = i
      · subst hd; simp [lk_cons_eq]
      · simp [hd, lk_cons_ne hd]

theorem Fr_congr {n : Nat} {σ τ : List (Nat × Value)} (h : (List.range n).map (lk σ) = (List.range n).map (lk τ)) : Fr n σ = Fr n τ := by
  simp [Fr, h]

/-- What the guard's operation has yielded. -/
def yl (ops : Array Oper) (n : Nat) (σ : List (Nat × Value)) (j : Nat) : Option Bool :=
  match (ops[j]?).bind (·.dst) with
  | some d => bif Nat.blt d n then (match lk σ d with | .bool b => some b | _ => none) else none
  | none => none

theorem yielded_Fr (ops : Array Oper) (n : Nat) (σ : List (Nat × Value)) (j : Nat) : yielded ops (Fr n σ).tmps j = yl ops n σ j := by
  unfold yielded yl
  cases hd : (ops[j]?).bind (·.dst) with
  | none => rfl
  | some d =>
    rcases Nat.lt_or_ge d n with h | h
    · simp only [Option.bind_some, Fr, blt_true h, cond_true]
      have : (List.map (lk σ) (List.range n)).toArray[d]? = some (lk σ d) := by simp [h]
      rw [this]
      cases lk σ d <;> rfl
    · have : (Fr n σ).tmps[d]? = none := by simp [Fr, h]
      simp [this, blt_false h]

def wnt (ops : Array Oper) (n : Nat) (σ : List (Nat × Value)) (o : Oper) : Bool :=
  match o.guard with
  | none => true
  | some (j, b) => match yl ops n σ j, b with
    | some true, true => true
    | some false, false => true
    | _, _ => false

theorem wanted_Fr (ops : Array Oper) (n : Nat) (σ : List (Nat × Value)) (o : Oper) : Region.wanted o (yielded ops (Fr n σ).tmps) = wnt ops n σ o := by
  unfold Region.wanted wnt
  cases hg : o.guard with
  | none => rfl
  | some p =>
    obtain ⟨j, b⟩ := p
    simp only [yielded_Fr]
    cases yl ops n σ j with
    | none => cases b <;> rfl
    | some c => cases c <;> cases b <;> rfl

/-- The operations of a region from number k on. -/
def wpF (P : Program) (ops : Array Oper) (Q : Exit → Act → World → Prop) (n k : Nat) (σ : List (Nat × Value)) (w : World) : Prop :=
  wpList P ops Q (ops.toList.drop k) (Fr n σ) w

def wpC (P : Program) (c : Code) (Q : Exit → Act → World → Prop) (n : Nat) (σ : List (Nat × Value)) (w : World) : Prop :=
  c.wp P Q (Fr n σ) w

section
variable {P : Program} {Q : Exit → Act → World → Prop} {n : Nat} {σ : List (Nat × Value)} {w : World} {ops : Array Oper} {k : Nat}

theorem wpC_region {id : Nat} (h : wpF P ops Q n 0 σ w) : wpC P (.region id ops false) Q n σ w :=
  wp_region_list (by simpa [wpF] using h)

theorem wpC_seq {x y : Code} (h : wpC P x (Exit.then (y.wp P Q) Q) n σ w) : wpC P (.seq x y) Q n σ w := wp_seq h
theorem wpC_block {id : Nat} {c : Code} (h : wpC P c (Exit.inBlock id Q) n σ w) : wpC P (.block id c) Q n σ w := wp_block h
theorem wpC_skip (h : Q .normal (Fr n σ) w) : wpC P .skip Q n σ w := wp_skip h
theorem wpC_ret (h : Q .ret (Fr n σ) w) : wpC P .ret Q n σ w := wp_ret h
theorem wpC_exit {id : Nat} (h : Q (.exit id) (Fr n σ) w) : wpC P (.exit id) Q n σ w := wp_exit h
theorem wpC_true {c : Operand} {x y : Code} (hc : ev n σ c = .bool true) (h : wpC P x Q n σ w) : wpC P (.cond c x y) Q n σ w :=
  wp_cond_true (by rw [Fr_eval]; exact hc) h
theorem wpC_false {c : Operand} {x y : Code} (hc : ev n σ c = .bool false) (h : wpC P y Q n σ w) : wpC P (.cond c x y) Q n σ w :=
  wp_cond_false (by rw [Fr_eval]; exact hc) h

theorem then_normal {K : Act → World → Prop} {a : Act} (h : K a w) : Exit.then K Q .normal a w := h
theorem then_code {c : Code} (h : wpC P c Q n σ w) : Exit.then (c.wp P Q) Q .normal (Fr n σ) w := h
theorem inBlock_normal {id : Nat} {a : Act} (h : Q .normal a w) : Exit.inBlock id Q .normal a w := h
theorem inBlock_exit {id : Nat} {a : Act} (h : Q .normal a w) : Exit.inBlock id Q (.exit id) a w := by simpa [Exit.inBlock] using h
theorem inBlock_exit_ne {id i : Nat} {a : Act} (hne : i ≠ id) (h : Q (.exit i) a w) : Exit.inBlock id Q (.exit i) a w := by simpa [Exit.inBlock, hne] using h

theorem wpF_end (hk : ops.size = k) (h : Q .normal (Fr n σ) w) : wpF P ops Q n k σ w := by
  unfold wpF
  have : ops.toList.drop k = [] := by simp [← hk]
  rw [this]; exact wpList_nil h

theorem drop_of {o : Oper} (ho : ops[k]? = some o) : ops.toList.drop k = o :: ops.toList.drop (k + 1) := by
  obtain ⟨hk, he⟩ := Array.getElem?_eq_some_iff.1 ho
  rw [List.drop_eq_getElem_cons (by simpa using hk)]
  simp [he]

/-- One operation that yields a value. -/
theorem wpF_val {o : Oper} (v : Value) (w' : World) (ho : ops[k]? = some o) (hg : wnt ops n σ o = true) (hr : (execOp (ev n σ) o).run P w = .ok (.value v) w')
    (h : wpF P ops Q n (k + 1) (putσ σ o.dst v) w') : wpF P ops Q n k σ w := by
  unfold wpF at *
  rw [drop_of ho]
  unfold wpList
  rw [wanted_Fr, hg, if_pos rfl]
  refine .inl ?_
  unfold Oper.wp
  rw [Fr_eval, hr, Oper.upon_value, Fr_put]
  exact h

/-- One operation that yields nothing (a store). -/
theorem wpF_do {o : Oper} (w' : World) (ho : ops[k]? = some o) (hg : wnt ops n σ o = true) (hr : (execOp (ev n σ) o).run P w = .ok .skip w')
    (h : wpF P ops Q n (k + 1) (putσ σ o.dst undef) w') : wpF P ops Q n k σ w := by
  unfold wpF at *
  rw [drop_of ho]
  unfold wpList
  rw [wanted_Fr, hg, if_pos rfl]
  refine .inl ?_
  unfold Oper.wp
  rw [Fr_eval, hr, Oper.upon_skip, Fr_put]
  exact h

/-- One operation whose guard shuts it out. -/
theorem wpF_not {o : Oper} (ho : ops[k]? = some o) (hg : wnt ops n σ o = false)
    (h : wpF P ops Q n (k + 1) (putσ σ o.dst undef) w) : wpF P ops Q n k σ w := by
  unfold wpF at *
  rw [drop_of ho]
  unfold wpList
  rw [wanted_Fr, hg, if_neg (by simp), Fr_put]
  exact h

/-- What a call ends in: it returns, and of the result and the world this holds. -/
def Ret (R : Value → World → Prop) : Ending → World → Prop := fun e w' => ∃ v, e = .returned v ∧ R v w'

/-- Operation number k, carried out from here: what it leaves is of the kind K. -/
def opWp (P : Program) (ops : Array Oper) (n k : Nat) (σ : List (Nat × Value)) (w : World) (K : List (Nat × Value) → World → Prop) : Prop :=
  ∃ o, ops[k]? = some o ∧ ((wnt ops n σ o = true ∧ (match (execOp (ev n σ) o).run P w with
    | .ok (.value v) w' => K (putσ σ o.dst v) w'
    | .ok .skip w' => K (putσ σ o.dst undef) w'
    | .ok (.enter f args) w' => Calls P f args w' (Ret fun v w'' => K (putσ σ o.dst v) w'')
    | _ => False)) ∨ (wnt ops n σ o = false ∧ K (putσ σ o.dst undef) w))

/-- What operation number k is, its operands read: nothing, if its guard shuts it out. -/
def exAt (ops : Array Oper) (n : Nat) (σ : List (Nat × Value)) (k : Nat) : Option (Option Tmp × Sem Next) :=
  match ops[k]? with
  | none => none
  | some o => match wnt ops n σ o with
    | true => some (o.dst, execOp (ev n σ) o)
    | false => none

theorem exAt_spec {d : Option Tmp} {s : Sem Next} (h : exAt ops n σ k = some (d, s)) : ∃ o, ops[k]? = some o ∧ wnt ops n σ o = true ∧ o.dst = d ∧ execOp (ev n σ) o = s := by
  unfold exAt at h
  cases ho : ops[k]? with
  | none => simp [ho] at h
  | some o =>
    simp only [ho] at h
    cases hw : wnt ops n σ o with
    | false => simp [hw] at h
    | true =>
      simp only [hw, Option.some.injEq, Prod.mk.injEq] at h
      exact ⟨o, rfl, hw, h.1, h.2⟩

theorem opWp_val {K : List (Nat × Value) → World → Prop} {d : Option Tmp} {s : Sem Next} {v : Value} {w' : World} (he : exAt ops n σ k = some (d, s)) (hr : s.run P w = .ok (.value v) w') (h : K (putσ σ d v) w') : opWp P ops n k σ w K := by
  obtain ⟨o, ho, hw, rfl, rfl⟩ := exAt_spec he
  exact ⟨o, ho, .inl ⟨hw, by rw [hr]; exact h⟩⟩

theorem opWp_do {K : List (Nat × Value) → World → Prop} {d : Option Tmp} {s : Sem Next} {w' : World} (he : exAt ops n σ k = some (d, s)) (hr : s.run P w = .ok .skip w') (h : K (putσ σ d undef) w') : opWp P ops n k σ w K := by
  obtain ⟨o, ho, hw, rfl, rfl⟩ := exAt_spec he
  exact ⟨o, ho, .inl ⟨hw, by rw [hr]; exact h⟩⟩

/-- The call of a function of the program's: by what is known of it. -/
theorem opWp_call {K : List (Nat × Value) → World → Prop} {d : Option Tmp} {s : Sem Next} {f : FuncId} {args : Array Value} {R : Value → World → Prop} (he : exAt ops n σ k = some (d, s)) (hr : s.run P w = .ok (.enter f args) w)
    (hc : Calls P f args w (Ret R)) (h : ∀ v w', R v w' → K (putσ σ d v) w') : opWp P ops n k σ w K := by
  obtain ⟨o, ho, hw, rfl, rfl⟩ := exAt_spec he
  refine ⟨o, ho, .inl ⟨hw, ?_⟩⟩
  rw [hr]
  exact hc.mono fun e w' ⟨v, he, hv⟩ => ⟨v, he, h v w' hv⟩

/-- The value that it yields, in which world: for the kernel to run. -/
def valAt (P : Program) (ops : Array Oper) (n : Nat) (σ : List (Nat × Value)) (k : Nat) (w : World) : Option (Option Tmp × Value × World) :=
  match exAt ops n σ k with
  | some (d, s) => match s.run P w with
    | .ok (.value v) w' => some (d, v, w')
    | _ => none
  | none => none
/-- The function that it enters, with which arguments: for the kernel to run. -/
def callAt (P : Program) (ops : Array Oper) (n : Nat) (σ : List (Nat × Value)) (k : Nat) (w : World) : Option (Option Tmp × FuncId × Array Value × World) :=
  match exAt ops n σ k with
  | some (d, s) => match s.run P w with
    | .ok (.enter f args) w' => some (d, f, args, w')
    | _ => none
  | none => none

theorem op_valAt {K : List (Nat × Value) → World → Prop} {d : Option Tmp} {v : Value} {w' : World} (he : valAt P ops n σ k w = some (d, v, w')) (h : K (putσ σ d v) w') : opWp P ops n k σ w K := by
  unfold valAt at he
  cases hx : exAt ops n σ k with
  | none => simp [hx] at he
  | some p =>
    obtain ⟨d', s⟩ := p
    simp only [hx] at he
    cases hr : s.run P w with
    | halt _ _ => simp [hr] at he
    | ok nx w1 =>
      cases nx with
      | value u =>
        simp only [hr, Option.some.injEq, Prod.mk.injEq] at he
        obtain ⟨rfl, rfl, rfl⟩ := he
        exact opWp_val hx hr h
      | _ => simp [hr] at he

theorem op_callAt {K : List (Nat × Value) → World → Prop} {d : Option Tmp} {f : FuncId} {args : Array Value} {R : Value → World → Prop} (he : callAt P ops n σ k w = some (d, f, args, w))
    (hc : Calls P f args w (Ret R)) (h : ∀ v w', R v w' → K (putσ σ d v) w') : opWp P ops n k σ w K := by
  unfold callAt at he
  cases hx : exAt ops n σ k with
  | none => simp [hx] at he
  | some p =>
    obtain ⟨d', s⟩ := p
    simp only [hx] at he
    cases hr : s.run P w with
    | halt _ _ => simp [hr] at he
    | ok nx w1 =>
      cases nx with
      | enter g as =>
        simp only [hr, Option.some.injEq, Prod.mk.injEq] at he
        obtain ⟨rfl, rfl, rfl, rfl⟩ := he
        exact opWp_call hx hr hc h
      | _ => simp [hr] at he

/-- A truth value that the run leaves open: both ways. -/
theorem op_split {K : List (Nat × Value) → World → Prop} {d : Option Tmp} (x : Bool) (he : valAt P ops n σ k w = some (d, .bool x, w)) (ht : x = true → K (putσ σ d (.bool true)) w) (hf : x = false → K (putσ σ d (.bool false)) w) : opWp P ops n k σ w K := by
  cases hx : x with
  | true => exact op_valAt he (hx ▸ ht hx)
  | false => exact op_valAt he (hx ▸ hf hx)
theorem op_bool {K : List (Nat × Value) → World → Prop} {d : Option Tmp} (x y : Bool) (he : valAt P ops n σ k w = some (d, .bool x, w)) (hx : x = y) (h : K (putσ σ d (.bool y)) w) : opWp P ops n k σ w K :=
  op_valAt he (hx ▸ h)
theorem op_int {K : List (Nat × Value) → World → Prop} {d : Option Tmp} (kk : IntKind) (x y : Int) (he : valAt P ops n σ k w = some (d, .int kk x, w)) (hx : x = y) (h : K (putσ σ d (.int kk y)) w) : opWp P ops n k σ w K :=
  op_valAt he (hx ▸ h)
theorem op_eqv {K : List (Nat × Value) → World → Prop} {d : Option Tmp} (u v : Value) (he : valAt P ops n σ k w = some (d, u, w)) (hx : u = v) (h : K (putσ σ d v) w) : opWp P ops n k σ w K :=
  op_valAt he (hx ▸ h)

theorem opWp_mono {K K' : List (Nat × Value) → World → Prop} (h : opWp P ops n k σ w K) (hk : ∀ τ w', K τ w' → K' τ w') : opWp P ops n k σ w K' := by
  obtain ⟨o, ho, hw | hw⟩ := h
  · refine ⟨o, ho, .inl ⟨hw.1, ?_⟩⟩
    have h2 := hw.2
    cases hr : (execOp (ev n σ) o).run P w with
    | halt x w' => simp only [hr] at h2
    | ok nx w' =>
      cases nx with
      | value v => simp only [hr] at h2; exact hk _ _ h2
      | skip => simp only [hr] at h2; exact hk _ _ h2
      | enter f args => simp only [hr] at h2; exact h2.mono fun e w' ⟨v, he, hv⟩ => ⟨v, he, hk _ _ hv⟩
      | _ => simp only [hr] at h2
  · exact ⟨o, ho, .inr ⟨hw.1, hk _ _ hw.2⟩⟩

theorem wpF_step (h : opWp P ops n k σ w (fun τ w' => wpF P ops Q n (k + 1) τ w')) : wpF P ops Q n k σ w := by
  obtain ⟨o, ho, ⟨hw, h⟩ | ⟨hw, h⟩⟩ := h
  · cases hr : (execOp (ev n σ) o).run P w with
    | halt x w' => simp only [hr] at h
    | ok nx w' =>
      cases nx with
      | value v => simp only [hr] at h; exact wpF_val v w' ho hw hr h
      | skip => simp only [hr] at h; exact wpF_do w' ho hw hr h
      | enter f args =>
        simp only [hr] at h
        unfold wpF
        rw [drop_of ho]
        unfold wpList
        rw [wanted_Fr, hw, if_pos rfl]
        refine .inl ?_
        unfold Oper.wp
        rw [Fr_eval, hr, Oper.upon_enter]
        refine h.mono ?_
        rintro e w'' ⟨v, rfl, hv⟩
        show wpList P ops Q _ ((Fr n σ).put o.dst v) w''
        rw [Fr_put]
        exact hv
      | _ => simp only [hr] at h
  · exact wpF_not ho hw h

/-- m operations from number k on, each of which yields a value in the very world that it got (that is asked of the kernel: 'w' is given back at each step), or is shut out: what they write, the last first. -/
def runD (P : Program) (ops : Array Oper) (n : Nat) : Nat → Nat → List (Nat × Value) → List (Nat × Value) → World → Option (List (Nat × Value) × World)
  | 0, _, _, acc, w => some (acc, w)
  | m + 1, k, σ, acc, w =>
    match ops[k]? with
    | none => none
    | some o =>
      match wnt ops n σ o with
      | true => match (execOp (ev n σ) o).run P w with
        | .ok (.value v) w' => runD P ops n m (k + 1) (putσ σ o.dst v) (putσ acc o.dst v) w'
        | _ => none
      | false => runD P ops n m (k + 1) (putσ σ o.dst undef) (putσ acc o.dst undef) w

theorem runD_spec : ∀ (m k : Nat) (σ acc τ : List (Nat × Value)) (w w' : World), runD P ops n m k σ acc w = some (τ, w') →
    (∀ δ, τ = δ ++ acc → wpF P ops Q n (k + m) (δ ++ σ) w') → (∃ δ, τ = δ ++ acc) ∧ wpF P ops Q n k σ w := by
  intro m
  induction m with
  | zero =>
    intro k σ acc τ w w' h hk
    simp only [runD, Option.some.injEq, Prod.mk.injEq] at h
    obtain ⟨rfl, rfl⟩ := h
    exact ⟨⟨[], rfl⟩, hk [] rfl⟩
  | succ m ih =>
    intro k σ acc τ w w' h hk
    unfold runD at h
    cases ho : ops[k]? with
    | none => simp [ho] at h
    | some o =>
      simp only [ho] at h
      have step : ∀ (v : Value) (w1 : World), runD P ops n m (k + 1) (putσ σ o.dst v) (putσ acc o.dst v) w1 = some (τ, w') →
          (∃ δ, τ = δ ++ acc) ∧ wpF P ops Q n (k + 1) (putσ σ o.dst v) w1 := by
        intro v w1 hh
        cases hd : o.dst with
        | none =>
          simp only [hd, putσ] at hh ⊢
          have := ih (k + 1) σ acc τ w1 w' hh (fun δ e => by have := hk δ e; rwa [Nat.add_comm m 1, ← Nat.add_assoc] at this)
          exact this
        | some d =>
          simp only [hd, putσ] at hh ⊢
          have := ih (k + 1) ((d, v) :: σ) ((d, v) :: acc) τ w1 w' hh (fun δ e => by
            have := hk (δ ++ [(d, v)]) (by simpa using e)
            rw [Nat.add_comm m 1, ← Nat.add_assoc] at this
            simpa using this)
          obtain ⟨⟨δ, hδ⟩, h2⟩ := this
          exact ⟨⟨δ ++ [(d, v)], by simpa using hδ⟩, h2⟩
      cases hw : wnt ops n σ o with
      | true =>
        simp only [hw] at h
        cases hr : (execOp (ev n σ) o).run P w with
        | halt x w1 => simp [hr] at h
        | ok nx w1 =>
          cases nx with
          | value v =>
            simp only [hr] at h
            obtain ⟨h1, h2⟩ := step v w1 h
            exact ⟨h1, wpF_val v w1 ho hw hr h2⟩
          | _ => simp [hr] at h
      | false =>
        simp only [hw] at h
        obtain ⟨h1, h2⟩ := step undef w h
        exact ⟨h1, wpF_not ho hw h2⟩

/-- Many operations at once: the kernel runs them. -/
theorem wpF_run (m : Nat) (δ : List (Nat × Value)) (h : runD P ops n m k σ [] w = some (δ, w)) (hk : wpF P ops Q n (k + m) (δ ++ σ) w) : wpF P ops Q n k σ w := by
  refine (runD_spec (Q := Q) m k σ [] δ w w h ?_).2
  intro δ' e
  simp only [List.append_nil] at e
  exact e ▸ hk

end

section
variable {P : Program} {Q : Exit → Act → World → Prop} {n : Nat} {σ : List (Nat × Value)} {w : World}
theorem then_exit {K : Act → World → Prop} {a : Act} {i : Nat} (h : Q (.exit i) a w) : Exit.then K Q (.exit i) a w := h
theorem then_ret {K : Act → World → Prop} {a : Act} (h : Q .ret a w) : Exit.then K Q .ret a w := h
theorem inBlock_ret {id : Nat} {a : Act} (h : Q .ret a w) : Exit.inBlock id Q .ret a w := h

/-- The end of a round. -/
def EndR {X : Type} (live : X → List (Nat × Value)) (dead : List Nat) (n : Nat) (σ : List (Nat × Value)) (I : X → World → Prop) (μ : X → Nat) (x : X) (a : Act) (w' : World) : Prop :=
  ∃ (x' : X) (d' : Nat → Value), a = Fr n (live x' ++ (dead.map fun s => (s, d' s)) ++ σ) ∧ I x' w' ∧ μ x' < μ x

/-- A loop: 'live': the slots that it writes and that are read later, by what varies; 'dead': the others that it writes. -/
theorem wpC_loop {X : Type} {c : Code} (live : X → List (Nat × Value)) (dead : List Nat) (I : X → World → Prop) (μ : X → Nat) (x0 : X)
    (h0 : (List.range n).map (lk σ) = (List.range n).map (lk (live x0 ++ (dead.map fun s => (s, lk σ s)) ++ σ))) (hI : I x0 w)
    (round : ∀ (x : X) (d : Nat → Value) (w' : World), I x w' → wpC P c (Exit.then (EndR live dead n σ I μ x) Q) n (live x ++ (dead.map fun s => (s, d s)) ++ σ) w') : wpC P (.loop c) Q n σ w := by
  unfold wpC
  rw [Fr_congr h0]
  refine wp_loop_ghost (fun m a w' => ∃ (x : X) (d : Nat → Value), a = Fr n (live x ++ (dead.map fun s => (s, d s)) ++ σ) ∧ I x w' ∧ μ x = m) (μ x0) ⟨x0, _, rfl, hI, rfl⟩ ?_
  rintro m a w' ⟨x, d, rfl, hx, rfl⟩
  refine wp_mono (round x d w' hx) ?_
  intro e a' w'' hq
  cases e with
  | normal =>
    obtain ⟨x', d', rfl, hx', hlt⟩ := hq
    exact ⟨μ x', hlt, x', d', rfl, hx', rfl⟩
  | exit id => exact hq
  | goto l => exact hq
  | ret => exact hq
  | panic ch => exact hq
  | outgrown => exact hq
end

/-- The body of a function, entered. -/
theorem calls_of {P : Program} {f : FuncId} {fn : Func} {c : Code} {args : Array Value} {w : World} {R : Value → World → Prop}
    (hf : P.funcs[f]? = some fn) (hb : fn.body = some c) {n : Nat} {σ : List (Nat × Value)}
    (hn : args ++ Array.replicate (fn.ntmps - args.size) undef = (Fr n σ).tmps)
    (h : wpC P c (bodyPost P fn (Ret R)) n σ w) : Calls P f args w (Ret R) := by
  refine calls_of_wp hf hb ?_
  rw [hn]; exact h

theorem body_ret {P : Program} {fn : Func} {R : Value → World → Prop} {n : Nat} {σ : List (Nat × Value)} {w : World} {v : Value}
    (hr : (results fn (Fr n σ).tmps).run P w = .ok v w) (h : R v w) : bodyPost P fn (Ret R) .ret (Fr n σ) w :=
  ⟨rfl, v, hr, v, rfl, h⟩

/-- One result, read. -/
def resVal (P : Program) (n : Nat) (σ : List (Nat × Value)) (w : World) : ResultVar → Value → Prop
  | .tmp t, v => ev n σ (.tmp t) = v
  | .cell a T, v => ∃ ad, ev n σ (.tmp a) = .pointer (some ad) ∧ (loadVar T ad).run P w = .ok v w

theorem getD_Fr (n : Nat) (σ : List (Nat × Value)) (t : Nat) : (Fr n σ).tmps.getD t undef = ev n σ (.tmp t) := by
  have := congrFun (Fr_eval n σ) (.tmp t)
  simpa [Act.eval] using this

def rsem (tmps : Array Value) : ResultVar → Sem Value
  | .tmp t => pure (tmps.getD t undef)
  | .cell a t => do loadVar t (← asAddr (tmps.getD a undef))

theorem results_eq (fn : Func) (tmps : Array Value) : results fn tmps = (do
    let vs ← fn.results.mapM (rsem tmps)
    pure (if h : vs.size = 1 then vs[0] else .tuple vs)) := rfl

theorem run_rsem {P : Program} {n : Nat} {σ : List (Nat × Value)} {w : World} {r : ResultVar} {v : Value} (h : resVal P n σ w r v) : (rsem (Fr n σ).tmps r).run P w = .ok v w := by
  cases r with
  | tmp t => simp only [resVal] at h; simp only [rsem, getD_Fr, h, Sem.run_pure]
  | cell a T =>
    obtain ⟨ad, h1, h2⟩ := h
    simp only [rsem, getD_Fr, h1, asAddr]
    simpa using h2

theorem body_ret1 {P : Program} {fn : Func} {R : Value → World → Prop} {n : Nat} {σ : List (Nat × Value)} {w : World} {r : ResultVar} {v : Value}
    (hf : fn.results = #[r]) (h1 : resVal P n σ w r v) (h : R v w) : bodyPost P fn (Ret R) .ret (Fr n σ) w := by
  refine ⟨rfl, v, ?_, v, rfl, h⟩
  have g1 := run_rsem h1
  rw [results_eq, hf]
  simp [g1]
theorem body_ret2 {P : Program} {fn : Func} {R : Value → World → Prop} {n : Nat} {σ : List (Nat × Value)} {w : World} {r1 r2 : ResultVar} {v1 v2 : Value}
    (hf : fn.results = #[r1, r2]) (h1 : resVal P n σ w r1 v1) (h2 : resVal P n σ w r2 v2) (h : R (.tuple #[v1, v2]) w) : bodyPost P fn (Ret R) .ret (Fr n σ) w := by
  refine ⟨rfl, _, ?_, _, rfl, h⟩
  have g1 := run_rsem h1
  have g2 := run_rsem h2
  rw [results_eq, hf]
  simp [g1, g2]
theorem body_ret3 {P : Program} {fn : Func} {R : Value → World → Prop} {n : Nat} {σ : List (Nat × Value)} {w : World} {r1 r2 r3 : ResultVar} {v1 v2 v3 : Value}
    (hf : fn.results = #[r1, r2, r3]) (h1 : resVal P n σ w r1 v1) (h2 : resVal P n σ w r2 v2) (h3 : resVal P n σ w r3 v3) (h : R (.tuple #[v1, v2, v3]) w) : bodyPost P fn (Ret R) .ret (Fr n σ) w := by
  refine ⟨rfl, _, ?_, _, rfl, h⟩
  have g1 := run_rsem h1
  have g2 := run_rsem h2
  have g3 := run_rsem h3
  rw [results_eq, hf]
  simp [g1, g2, g3]
theorem body_ret0 {P : Program} {fn : Func} {R : Value → World → Prop} {n : Nat} {σ : List (Nat × Value)} {w : World}
    (hf : fn.results = #[]) (h : R (.tuple #[]) w) : bodyPost P fn (Ret R) .ret (Fr n σ) w := by
  refine ⟨rfl, _, ?_, _, rfl, h⟩
  rw [results_eq, hf]
  simp
end Go.Cs
