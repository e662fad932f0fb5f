/- Frames as lists of written slots, and step rules for straight-line code over them: lemmas only, for any program. No condition. -/
import Derived.WalkKit
import Derived.Deep.LoopGhost
import Derived.WalkSpells
import Derived.WalkLawsBesides
import Derived.OrdersIn
import Derived.OwnWalkIn
import Derived.LoopIn
import Derived.RangeFuncNested
import Derived.RangeFuncLeaves
set_option linter.all false
set_option linter.unusedVariables false
namespace Go.Cs
open Go Go.RowKit

/-- The value that was last written into slot t. -/
def lk : List (Nat × Value) → Nat → Value
  | [], _ => undef
  | (k, v) :: r, t => bif Nat.beq k t then v else lk r t

/-- The frame of n slots that the list describes. -/
def Fr (ds : List Deferred) (n : Nat) (σ : List (Nat × Value)) : Act := { tmps := ((List.range n).map (lk σ)).toArray, defers := ds }

/-- The wide fence: for an activation, or for a round of the loop whose record lies there. -/
def fen (ro : Option Nat) : Fence := { Fence.wide with round := ro }
theorem fen_none : fen none = Fence.wide := rfl
theorem fen_some (l : Nat) : fen (some l) = Fence.wide.inRound l := rfl
abbrev wpR (ro : Option Nat) (P : Program) (c : Code) (Q : Exit → Act → World → Prop) (a : Act) (w : World) : Prop := c.wpIn (fen ro) 0 P Q a w

/-- Short names for values. -/
abbrev vI (n : Nat) : Value := .int .i64 (n : Int)
abbrev vB (n : Nat) : Value := .int .u8 (n : Int)
abbrev vW (n : Nat) : Value := .int .u32 (n : Int)
abbrev vQ (n : Nat) : Value := .int .u64 (n : Int)
abbrev vH (n : Nat) : Value := .int .u16 (n : Int)
abbrev vT : Value := .bool true
abbrev vF : Value := .bool false
abbrev pA (b o : Nat) : Option Addr := some ⟨b, o, none⟩
abbrev vP (b o : Nat) : Value := .pointer (some ⟨b, o, none⟩)
abbrev vA (l : List Value) : Value := .agg l.toArray

def ev (n : Nat) (σ : List (Nat × Value)) : Operand → Value
  | .tmp t => bif Nat.blt t n then lk σ t else undef
  | .const v => v
  | .global g => .pointer (some ⟨g, 0, none⟩)
  | .func f => .func (.func f) #[] #[]

def putσ (σ : List (Nat × Value)) : Option Tmp → Value → List (Nat × Value)
  | none, _ => σ
  | some d, v => (d, v) :: σ

theorem blt_true {a b : Nat} (h : a < b) : Nat.blt a b = true := by simpa [Nat.blt_eq] using h
theorem blt_false {a b : Nat} (h : b ≤ a) : Nat.blt a b = false := by
  cases hb : Nat.blt a b with
  | false => rfl
  | true => rw [Nat.blt_eq] at hb; omega

theorem lk_cons_ne {k t : Nat} {v : Value} {σ : List (Nat × Value)} (h : k ≠ t) : lk ((k, v) :: σ) t = lk σ t := by
  have : Nat.beq k t = false := by
    cases hb : Nat.beq k t with
    | false => rfl
    | true => exact absurd (Nat.eq_of_beq_eq_true hb) h
  simp [lk, this]

theorem lk_cons_eq {k : Nat} {v : Value} {σ : List (Nat × Value)} : lk ((k, v) :: σ) k = v := by
  simp [lk]

theorem Fr_eval (ds : List Deferred) (n : Nat) (σ : List (Nat × Value)) : (Fr ds n σ).eval = ev n σ := by
  funext x
  cases x with
  | tmp t =>
    rcases Nat.lt_or_ge t n with h | h
    · simp [Act.eval, Fr, ev, blt_true h, h]
    · simp [Act.eval, Fr, ev, blt_false h, h]
  | _ => rfl

theorem Fr_put (ds : List Deferred) (n : Nat) (σ : List (Nat × Value)) (d : Option Tmp) (v : Value) : (Fr ds n σ).put d v = Fr ds n (putσ σ d v) := by
  cases d with
  | none => rfl
  | some d =>
    simp only [Act.put, Fr, putσ]
    congr 1
    apply Array.ext
    · simp
    · intro i h1 h2
      simp only [Array.size_setIfInBounds, List.size_toArray, List.length_map, List.length_range] at h1
      by_cases hd : d = i
      · subst hd; simp [lk_cons_eq]
      · simp [hd, lk_cons_ne hd]

theorem Fr_congr {ds : List Deferred} {n : Nat} {σ τ : List (Nat × Value)} (h : (List.range n).map (lk σ) = (List.range n).map (lk τ)) : Fr ds n σ = Fr ds n τ := by
  simp [Fr, h]

/-- What the guard's operation has yielded. -/
def yl (ops : Array Oper) (n : Nat) (σ : List (Nat × Value)) (j : Nat) : Option Bool :=
  match (ops[j]?).bind (·.dst) with
  | some d => bif Nat.blt d n then (match lk σ d with | .bool b => some b | _ => none) else none
  | none => none

theorem yielded_Fr (ds : List Deferred) (ops : Array Oper) (n : Nat) (σ : List (Nat × Value)) (j : Nat) : yielded ops (Fr ds n σ).tmps j = yl ops n σ j := by
  unfold yielded yl
  cases hd : (ops[j]?).bind (·.dst) with
  | none => rfl
  | some d =>
    rcases Nat.lt_or_ge d n with h | h
    · simp only [Option.bind_some, Fr, blt_true h, cond_true]
      have : (List.map (lk σ) (List.range n)).toArray[d]? = some (lk σ d) := by simp [h]
      rw [this]
      cases lk σ d <;> rfl
    · have : (Fr ds n σ).tmps[d]? = none := by simp [Fr, h]
      simp [this, blt_false h]

def wnt (ops : Array Oper) (n : Nat) (σ : List (Nat × Value)) (o : Oper) : Bool :=
  match o.guard with
  | none => true
  | some (j, b) => match yl ops n σ j, b with
    | some true, true => true
    | some false, false => true
    | _, _ => false

theorem wanted_Fr (ds : List Deferred) (ops : Array Oper) (n : Nat) (σ : List (Nat × Value)) (o : Oper) : Region.wanted o (yielded ops (Fr ds n σ).tmps) = wnt ops n σ o := by
  unfold Region.wanted wnt
  cases hg : o.guard with
  | none => rfl
  | some p =>
    obtain ⟨j, b⟩ := p
    simp only [yielded_Fr]
    cases yl ops n σ j with
    | none => cases b <;> rfl
    | some c => cases c <;> cases b <;> rfl

/-- The operations of a region from number k on. -/
def wpF {ro : Option Nat} {ds : List Deferred} (P : Program) (ops : Array Oper) (Q : Exit → Act → World → Prop) (n k : Nat) (σ : List (Nat × Value)) (w : World) : Prop :=
  wpListIn (fen ro) 0 P ops Q (ops.toList.drop k) (Fr ds n σ) w

def wpC {ro : Option Nat} {ds : List Deferred} (P : Program) (c : Code) (Q : Exit → Act → World → Prop) (n : Nat) (σ : List (Nat × Value)) (w : World) : Prop :=
  wpR ro P c Q (Fr ds n σ) w

section
variable {ro : Option Nat} {ds : List Deferred} {P : Program} {Q : Exit → Act → World → Prop} {n : Nat} {σ : List (Nat × Value)} {w : World} {ops : Array Oper} {k : Nat}

theorem wpC_region {id : Nat} (h : wpF (ro := ro) (ds := ds) P ops Q n 0 σ w) : wpC (ro := ro) (ds := ds) P (.region id ops false) Q n σ w :=
  wpIn_region_list (by simpa [wpF] using h)

theorem wpC_seq {x y : Code} (h : wpC (ro := ro) (ds := ds) P x (Exit.then (wpR ro P y Q) Q) n σ w) : wpC (ro := ro) (ds := ds) P (.seq x y) Q n σ w := wpIn_seq h
theorem wpC_block {id : Nat} {c : Code} (h : wpC (ro := ro) (ds := ds) P c (Exit.inBlock id Q) n σ w) : wpC (ro := ro) (ds := ds) P (.block id c) Q n σ w := wpIn_block h
theorem wpC_skip (h : Q .normal (Fr ds n σ) w) : wpC (ro := ro) (ds := ds) P .skip Q n σ w := wpIn_skip h
theorem wpC_ret (h : Q .ret (Fr ds n σ) w) : wpC (ro := ro) (ds := ds) P .ret Q n σ w := wpIn_ret h
theorem wpC_exit {id : Nat} (h : Q (.exit id) (Fr ds n σ) w) : wpC (ro := ro) (ds := ds) P (.exit id) Q n σ w := wpIn_exit h
theorem wpC_true {c : Operand} {x y : Code} (h : wpC (ro := ro) (ds := ds) P x Q n σ w) (hc : ev n σ c = .bool true := by kernel_rfl) : wpC (ro := ro) (ds := ds) P (.cond c x y) Q n σ w :=
  wpIn_cond_true (by rw [Fr_eval]; exact hc) h
theorem wpC_false {c : Operand} {x y : Code} (h : wpC (ro := ro) (ds := ds) P y Q n σ w) (hc : ev n σ c = .bool false := by kernel_rfl) : wpC (ro := ro) (ds := ds) P (.cond c x y) Q n σ w :=
  wpIn_cond_false (by rw [Fr_eval]; exact hc) h

theorem then_normal {K : Act → World → Prop} {a : Act} (h : K a w) : Exit.then K Q .normal a w := h
theorem then_code {c : Code} (h : wpC (ro := ro) (ds := ds) P c Q n σ w) : Exit.then (wpR ro P c Q) Q .normal (Fr ds n σ) w := h
theorem inBlock_normal {id : Nat} {a : Act} (h : Q .normal a w) : Exit.inBlock id Q .normal a w := h
theorem inBlock_exit {id : Nat} {a : Act} (h : Q .normal a w) : Exit.inBlock id Q (.exit id) a w := by simpa [Exit.inBlock] using h
theorem inBlock_exit_ne {id i : Nat} {a : Act} (hne : i ≠ id) (h : Q (.exit i) a w) : Exit.inBlock id Q (.exit i) a w := by simpa [Exit.inBlock, hne] using h

theorem wpF_end (h : Q .normal (Fr ds n σ) w) (hk : ops.size = k := by kernel_rfl) : wpF (ro := ro) (ds := ds) P ops Q n k σ w := by
  unfold wpF
  have : ops.toList.drop k = [] := by simp [← hk]
  rw [this]; exact wpListIn_nil h

theorem drop_of {o : Oper} (ho : ops[k]? = some o) : ops.toList.drop k = o :: ops.toList.drop (k + 1) := by
  obtain ⟨hk, he⟩ := Array.getElem?_eq_some_iff.1 ho
  rw [List.drop_eq_getElem_cons (by simpa using hk)]
  simp [he]

/-- An operation of these kinds is no 'defer'. -/
def plainNext : Result Next → Bool
  | .ok (.value _) _ | .ok .skip _ | .ok (.enter _ _) _ | .ok (.round _ _ _ _ _) _ => true
  | _ => false
theorem semAt_plainNext {o : Oper} {ρ : Operand → Value} (h : plainNext ((execOp ρ o).run P w) = true) (ro : Option Nat) : o.semAt ro ρ = execOp ρ o := by
  refine Oper.semAt_eq _ _ _ ?_
  intro c hc
  revert h
  unfold execOp
  rw [hc]
  simp only [Sem.run_bind]
  cases hr : (resolve ρ c o.type).run P w <;> simp [Result.andThen, plainNext]

/-- One operation that yields a value. -/
theorem wpF_val {o : Oper} (v : Value) (w' : World) (ho : ops[k]? = some o) (hg : wnt ops n σ o = true) (hr : (execOp (ev n σ) o).run P w = .ok (.value v) w')
    (h : wpF (ro := ro) (ds := ds) P ops Q n (k + 1) (putσ σ o.dst v) w') : wpF (ro := ro) (ds := ds) P ops Q n k σ w := by
  unfold wpF at *
  rw [drop_of ho]
  unfold wpListIn
  rw [wanted_Fr, hg, if_pos rfl]
  unfold Oper.wpIn
  refine ⟨fun _ _ => trivial, ?_⟩
  rw [Fr_eval, semAt_plainNext (P := P) (w := w) (by rw [hr]; rfl), hr, Oper.uponIn_value, Fr_put]
  exact h

/-- One operation that yields nothing (a store). -/
theorem wpF_do {o : Oper} (w' : World) (ho : ops[k]? = some o) (hg : wnt ops n σ o = true) (hr : (execOp (ev n σ) o).run P w = .ok .skip w')
    (h : wpF (ro := ro) (ds := ds) P ops Q n (k + 1) (putσ σ o.dst undef) w') : wpF (ro := ro) (ds := ds) P ops Q n k σ w := by
  unfold wpF at *
  rw [drop_of ho]
  unfold wpListIn
  rw [wanted_Fr, hg, if_pos rfl]
  unfold Oper.wpIn
  refine ⟨fun _ _ => trivial, ?_⟩
  rw [Fr_eval, semAt_plainNext (P := P) (w := w) (by rw [hr]; rfl), hr, Oper.uponIn_skip, Fr_put]
  exact h

/-- One operation whose guard shuts it out. -/
theorem wpF_not {o : Oper} (ho : ops[k]? = some o) (hg : wnt ops n σ o = false)
    (h : wpF (ro := ro) (ds := ds) P ops Q n (k + 1) (putσ σ o.dst undef) w) : wpF (ro := ro) (ds := ds) P ops Q n k σ w := by
  unfold wpF at *
  rw [drop_of ho]
  unfold wpListIn
  rw [wanted_Fr, hg, if_neg (by simp), Fr_put]
  exact ⟨fun _ _ => trivial, h⟩

/-- What a call ends in: it returns, and of the result and the world this holds. -/
def Ret (R : Value → World → Prop) : Ending → World → Prop := fun e w' => ∃ v, e = .returned v ∧ R v w'

/-- A round of a range over a function, from where an iterator calls yield. -/
abbrev Rnd (P : Program) (l : Nat) (f : FuncId) (tmps : Array Value) (assign body : Code) (w : World) (R : Ending → World → Prop) : Prop :=
  RoundIn Fence.wide 0 P l f tmps assign body w R

/-- Operation number k, carried out from here: what it leaves is of the kind K. -/
def opWp (P : Program) (ops : Array Oper) (n k : Nat) (σ : List (Nat × Value)) (w : World) (K : List (Nat × Value) → World → Prop) : Prop :=
  ∃ o, ops[k]? = some o ∧ ((wnt ops n σ o = true ∧ (match (execOp (ev n σ) o).run P w with
    | .ok (.value v) w' => K (putσ σ o.dst v) w'
    | .ok .skip w' => K (putσ σ o.dst undef) w'
    | .ok (.enter f args) w' => Calls P f args w' (Ret fun v w'' => K (putσ σ o.dst v) w'')
    | .ok (.round l f tmps assign body) w' => Rnd P l f tmps assign body w' (Ret fun v w'' => K (putσ σ o.dst v) w'')
    | _ => False)) ∨ (wnt ops n σ o = false ∧ K (putσ σ o.dst undef) w))

/-- What operation number k is, its operands read: nothing, if its guard shuts it out. -/
def exAt (ops : Array Oper) (n : Nat) (σ : List (Nat × Value)) (k : Nat) : Option (Option Tmp × Sem Next) :=
  match ops[k]? with
  | none => none
  | some o => match wnt ops n σ o with
    | true => some (o.dst, execOp (ev n σ) o)
    | false => none

theorem exAt_spec {d : Option Tmp} {s : Sem Next} (h : exAt ops n σ k = some (d, s)) : ∃ o, ops[k]? = some o ∧ wnt ops n σ o = true ∧ o.dst = d ∧ execOp (ev n σ) o = s := by
  unfold exAt at h
  cases ho : ops[k]? with
  | none => simp [ho] at h
  | some o =>
    simp only [ho] at h
    cases hw : wnt ops n σ o with
    | false => simp [hw] at h
    | true =>
      simp only [hw, Option.some.injEq, Prod.mk.injEq] at h
      exact ⟨o, rfl, hw, h.1, h.2⟩

theorem opWp_val {K : List (Nat × Value) → World → Prop} {d : Option Tmp} {s : Sem Next} {v : Value} {w' : World} (he : exAt ops n σ k = some (d, s)) (hr : s.run P w = .ok (.value v) w') (h : K (putσ σ d v) w') : opWp P ops n k σ w K := by
  obtain ⟨o, ho, hw, rfl, rfl⟩ := exAt_spec he
  exact ⟨o, ho, .inl ⟨hw, by rw [hr]; exact h⟩⟩

theorem opWp_do {K : List (Nat × Value) → World → Prop} {d : Option Tmp} {s : Sem Next} {w' : World} (he : exAt ops n σ k = some (d, s)) (hr : s.run P w = .ok .skip w') (h : K (putσ σ d undef) w') : opWp P ops n k σ w K := by
  obtain ⟨o, ho, hw, rfl, rfl⟩ := exAt_spec he
  exact ⟨o, ho, .inl ⟨hw, by rw [hr]; exact h⟩⟩

/-- The call of a function of the program's: by what is known of it. -/
theorem opWp_call {K : List (Nat × Value) → World → Prop} {d : Option Tmp} {s : Sem Next} {f : FuncId} {args : Array Value} {R : Value → World → Prop} (he : exAt ops n σ k = some (d, s)) (hr : s.run P w = .ok (.enter f args) w)
    (hc : Calls P f args w (Ret R)) (h : ∀ v w', R v w' → K (putσ σ d v) w') : opWp P ops n k σ w K := by
  obtain ⟨o, ho, hw, rfl, rfl⟩ := exAt_spec he
  refine ⟨o, ho, .inl ⟨hw, ?_⟩⟩
  rw [hr]
  exact hc.mono fun e w' ⟨v, he, hv⟩ => ⟨v, he, h v w' hv⟩

/-- A call of yield: by what is known of a round. -/
theorem opWp_round {K : List (Nat × Value) → World → Prop} {d : Option Tmp} {s : Sem Next} {l : Nat} {f : FuncId} {tmps : Array Value} {assign body : Code} {R : Value → World → Prop} (he : exAt ops n σ k = some (d, s)) (hr : s.run P w = .ok (.round l f tmps assign body) w)
    (hc : Rnd P l f tmps assign body w (Ret R)) (h : ∀ v w', R v w' → K (putσ σ d v) w') : opWp P ops n k σ w K := by
  obtain ⟨o, ho, hw, rfl, rfl⟩ := exAt_spec he
  refine ⟨o, ho, .inl ⟨hw, ?_⟩⟩
  rw [hr]
  exact hc.mono fun e w' ⟨v, he, hv⟩ => ⟨v, he, h v w' hv⟩

/-- The value that it yields, in which world: for the kernel to run. -/
def valAt (P : Program) (ops : Array Oper) (n : Nat) (σ : List (Nat × Value)) (k : Nat) (w : World) : Option (Option Tmp × Value × World) :=
  match exAt ops n σ k with
  | some (d, s) => match s.run P w with
    | .ok (.value v) w' => some (d, v, w')
    | _ => none
  | none => none
/-- The function that it enters, with which arguments: for the kernel to run. -/
def callAt (P : Program) (ops : Array Oper) (n : Nat) (σ : List (Nat × Value)) (k : Nat) (w : World) : Option (Option Tmp × FuncId × Array Value × World) :=
  match exAt ops n σ k with
  | some (d, s) => match s.run P w with
    | .ok (.enter f args) w' => some (d, f, args, w')
    | _ => none
  | none => none

theorem op_valAt {K : List (Nat × Value) → World → Prop} {d : Option Tmp} {v : Value} {w' : World} (he : valAt P ops n σ k w = some (d, v, w')) (h : K (putσ σ d v) w') : opWp P ops n k σ w K := by
  unfold valAt at he
  cases hx : exAt ops n σ k with
  | none => simp [hx] at he
  | some p =>
    obtain ⟨d', s⟩ := p
    simp only [hx] at he
    cases hr : s.run P w with
    | halt _ _ => simp [hr] at he
    | ok nx w1 =>
      cases nx with
      | value u =>
        simp only [hr, Option.some.injEq, Prod.mk.injEq] at he
        obtain ⟨rfl, rfl, rfl⟩ := he
        exact opWp_val hx hr h
      | _ => simp [hr] at he

theorem op_callAt {K : List (Nat × Value) → World → Prop} {d : Option Tmp} {f : FuncId} {args : Array Value} {R : Value → World → Prop} (he : callAt P ops n σ k w = some (d, f, args, w))
    (hc : Calls P f args w (Ret R)) (h : ∀ v w', R v w' → K (putσ σ d v) w') : opWp P ops n k σ w K := by
  unfold callAt at he
  cases hx : exAt ops n σ k with
  | none => simp [hx] at he
  | some p =>
    obtain ⟨d', s⟩ := p
    simp only [hx] at he
    cases hr : s.run P w with
    | halt _ _ => simp [hr] at he
    | ok nx w1 =>
      cases nx with
      | enter g as =>
        simp only [hr, Option.some.injEq, Prod.mk.injEq] at he
        obtain ⟨rfl, rfl, rfl, rfl⟩ := he
        exact opWp_call hx hr hc h
      | _ => simp [hr] at he

theorem opWp_mono {K K' : List (Nat × Value) → World → Prop} (h : opWp P ops n k σ w K) (hk : ∀ τ w', K τ w' → K' τ w') : opWp P ops n k σ w K' := by
  obtain ⟨o, ho, hw | hw⟩ := h
  · refine ⟨o, ho, .inl ⟨hw.1, ?_⟩⟩
    have h2 := hw.2
    cases hr : (execOp (ev n σ) o).run P w with
    | halt x w' => simp only [hr] at h2
    | ok nx w' =>
      cases nx with
      | value v => simp only [hr] at h2; exact hk _ _ h2
      | skip => simp only [hr] at h2; exact hk _ _ h2
      | enter f args => simp only [hr] at h2; exact h2.mono fun e w' ⟨v, he, hv⟩ => ⟨v, he, hk _ _ hv⟩
      | round l f tmps assign body => simp only [hr] at h2; exact h2.mono fun e w' ⟨v, he, hv⟩ => ⟨v, he, hk _ _ hv⟩
      | _ => simp only [hr] at h2
  · exact ⟨o, ho, .inr ⟨hw.1, hk _ _ hw.2⟩⟩

theorem wpF_step (h : opWp P ops n k σ w (fun τ w' => wpF (ro := ro) (ds := ds) P ops Q n (k + 1) τ w')) : wpF (ro := ro) (ds := ds) P ops Q n k σ w := by
  obtain ⟨o, ho, ⟨hw, h⟩ | ⟨hw, h⟩⟩ := h
  · cases hr : (execOp (ev n σ) o).run P w with
    | halt x w' => simp only [hr] at h
    | ok nx w' =>
      cases nx with
      | value v => simp only [hr] at h; exact wpF_val v w' ho hw hr h
      | skip => simp only [hr] at h; exact wpF_do w' ho hw hr h
      | enter f args =>
        simp only [hr] at h
        unfold wpF
        rw [drop_of ho]
        unfold wpListIn
        rw [wanted_Fr, hw, if_pos rfl]
        unfold Oper.wpIn
        refine ⟨fun _ _ => trivial, ?_⟩
        rw [Fr_eval, semAt_plainNext (P := P) (w := w) (by rw [hr]; rfl), hr, Oper.uponIn_enter]
        refine ⟨fun h => (by cases h), ?_⟩
        have h' : CallsIn (fen ro) (0 - 1) P f args w' (Ret fun v w'' => wpF (ro := ro) (ds := ds) P ops Q n (k + 1) (putσ σ o.dst v) w'') := callsIn_wide (n := 0 - 1).2 h
        refine CallsIn.mono h' ?_
        rintro e w'' ⟨v, rfl, hv⟩
        show wpListIn (fen ro) 0 P ops Q _ ((Fr ds n σ).put o.dst v) w''
        rw [Fr_put]
        exact hv
      | round l f tmps assign body =>
        simp only [hr] at h
        unfold wpF
        rw [drop_of ho]
        unfold wpListIn
        rw [wanted_Fr, hw, if_pos rfl]
        unfold Oper.wpIn
        refine ⟨fun _ _ => trivial, ?_⟩
        rw [Fr_eval, semAt_plainNext (P := P) (w := w) (by rw [hr]; rfl), hr, Oper.uponIn_round]
        refine ⟨fun h => (by cases h), ?_⟩
        have h' : RoundIn (fen ro) (0 - 1) P l f tmps assign body w' (Ret fun v w'' => wpF (ro := ro) (ds := ds) P ops Q n (k + 1) (putσ σ o.dst v) w'') := h
        refine RoundIn.mono h' ?_
        rintro e w'' ⟨v, rfl, hv⟩
        show wpListIn (fen ro) 0 P ops Q _ ((Fr ds n σ).put o.dst v) w''
        rw [Fr_put]
        exact hv
      | _ => simp only [hr] at h
  · exact wpF_not ho hw h

/-- m operations from number k on, each of which yields a value in the very world that it got (that is asked of the kernel: 'w' is given back at each step), or is shut out: what they write, the last first. -/
def runD (P : Program) (ops : Array Oper) (n : Nat) : Nat → Nat → List (Nat × Value) → List (Nat × Value) → World → Option (List (Nat × Value) × World)
  | 0, _, _, acc, w => some (acc, w)
  | m + 1, k, σ, acc, w =>
    match ops[k]? with
    | none => none
    | some o =>
      match wnt ops n σ o with
      | true => match (execOp (ev n σ) o).run P w with
        | .ok (.value v) w' => runD P ops n m (k + 1) (putσ σ o.dst v) (putσ acc o.dst v) w'
        | _ => none
      | false => runD P ops n m (k + 1) (putσ σ o.dst undef) (putσ acc o.dst undef) w

theorem runD_spec : ∀ (m k : Nat) (σ acc τ : List (Nat × Value)) (w w' : World), runD P ops n m k σ acc w = some (τ, w') →
    (∀ δ, τ = δ ++ acc → wpF (ro := ro) (ds := ds) P ops Q n (k + m) (δ ++ σ) w') → (∃ δ, τ = δ ++ acc) ∧ wpF (ro := ro) (ds := ds) P ops Q n k σ w := by
  intro m
  induction m with
  | zero =>
    intro k σ acc τ w w' h hk
    simp only [runD, Option.some.injEq, Prod.mk.injEq] at h
    obtain ⟨rfl, rfl⟩ := h
    exact ⟨⟨[], rfl⟩, hk [] rfl⟩
  | succ m ih =>
    intro k σ acc τ w w' h hk
    unfold runD at h
    cases ho : ops[k]? with
    | none => simp [ho] at h
    | some o =>
      simp only [ho] at h
      have step : ∀ (v : Value) (w1 : World), runD P ops n m (k + 1) (putσ σ o.dst v) (putσ acc o.dst v) w1 = some (τ, w') →
          (∃ δ, τ = δ ++ acc) ∧ wpF (ro := ro) (ds := ds) P ops Q n (k + 1) (putσ σ o.dst v) w1 := by
        intro v w1 hh
        cases hd : o.dst with
        | none =>
          simp only [hd, putσ] at hh ⊢
          have := ih (k + 1) σ acc τ w1 w' hh (fun δ e => by have := hk δ e; rwa [Nat.add_comm m 1, ← Nat.add_assoc] at this)
          exact this
        | some d =>
          simp only [hd, putσ] at hh ⊢
          have := ih (k + 1) ((d, v) :: σ) ((d, v) :: acc) τ w1 w' hh (fun δ e => by
            have := hk (δ ++ [(d, v)]) (by simpa using e)
            rw [Nat.add_comm m 1, ← Nat.add_assoc] at this
            simpa using this)
          obtain ⟨⟨δ, hδ⟩, h2⟩ := this
          exact ⟨⟨δ ++ [(d, v)], by simpa using hδ⟩, h2⟩
      cases hw : wnt ops n σ o with
      | true =>
        simp only [hw] at h
        cases hr : (execOp (ev n σ) o).run P w with
        | halt x w1 => simp [hr] at h
        | ok nx w1 =>
          cases nx with
          | value v =>
            simp only [hr] at h
            obtain ⟨h1, h2⟩ := step v w1 h
            exact ⟨h1, wpF_val v w1 ho hw hr h2⟩
          | _ => simp [hr] at h
      | false =>
        simp only [hw] at h
        obtain ⟨h1, h2⟩ := step undef w h
        exact ⟨h1, wpF_not ho hw h2⟩

/-- Many operations at once: the kernel runs them. -/
theorem wpF_run (m : Nat) (δ : List (Nat × Value)) (hk : wpF (ro := ro) (ds := ds) P ops Q n (k + m) (δ ++ σ) w) (h : runD P ops n m k σ [] w = some (δ, w) := by kernel_rfl) : wpF (ro := ro) (ds := ds) P ops Q n k σ w := by
  refine (runD_spec (Q := Q) m k σ [] δ w w h ?_).2
  intro δ' e
  simp only [List.append_nil] at e
  exact e ▸ hk

end

section
variable {ro : Option Nat} {ds : List Deferred} {P : Program} {Q : Exit → Act → World → Prop} {n : Nat} {σ : List (Nat × Value)} {w : World}
theorem then_exit {K : Act → World → Prop} {a : Act} {i : Nat} (h : Q (.exit i) a w) : Exit.then K Q (.exit i) a w := h
theorem then_ret {K : Act → World → Prop} {a : Act} (h : Q .ret a w) : Exit.then K Q .ret a w := h
theorem inBlock_ret {id : Nat} {a : Act} (h : Q .ret a w) : Exit.inBlock id Q .ret a w := h

/-- The slots that were written are among these. -/
def keysOk (δ live : List (Nat × Value)) (dead : List Nat) : Bool := δ.all fun p => (live.any fun q => Nat.beq q.1 p.1) || dead.any fun s => Nat.beq s p.1
theorem lk_append (a b : List (Nat × Value)) (t : Nat) : lk (a ++ b) t = if (a.any fun q => Nat.beq q.1 t) = true then lk a t else lk b t := by
  induction a with
  | nil => rfl
  | cons p a ih =>
    obtain ⟨k, v⟩ := p
    simp only [List.cons_append, lk, List.any_cons, Bool.or_eq_true]
    cases h : Nat.beq k t with
    | true => simp
    | false => simp only [cond_false, ih, Bool.false_eq_true, false_or]
theorem lk_dead (f : Nat → Value) (dead : List Nat) (t : Nat) (h : (dead.any fun s => Nat.beq s t) = true) : lk (dead.map fun s => (s, f s)) t = f t := by
  induction dead with
  | nil => simp at h
  | cons s dead ih =>
    simp only [List.map_cons, lk]
    cases hb : Nat.beq s t with
    | true => rw [Nat.eq_of_beq_eq_true hb]; rfl
    | false =>
      simp only [List.any_cons, hb, Bool.false_or] at h
      exact ih h
theorem any_dead (f : Nat → Value) (dead : List Nat) (t : Nat) : ((dead.map fun s => (s, f s)).any fun q => Nat.beq q.1 t) = dead.any fun s => Nat.beq s t := by
  induction dead with
  | nil => rfl
  | cons s dead ih => simp only [List.map_cons, List.any_cons, ih]
theorem lk_vals {τ : List (Nat × Value)} : ∀ {live : List (Nat × Value)}, (live.map fun p => lk τ p.1) = live.map Prod.snd → ∀ t, (live.any fun q => Nat.beq q.1 t) = true → lk live t = lk τ t
  | [], _, t, h => by simp at h
  | (k, v) :: live, hv, t, h => by
    simp only [List.map_cons, List.cons.injEq] at hv
    simp only [lk]
    cases hb : Nat.beq k t with
    | true => rw [← Nat.eq_of_beq_eq_true hb]; exact hv.1.symm
    | false =>
      simp only [List.any_cons, hb, Bool.false_or] at h
      exact lk_vals hv.2 t h
/-- The frame behind a stretch of writes, by what is live and what is dead. -/
theorem frame_eq {n : Nat} {τ σ live : List (Nat × Value)} {dead : List Nat} (hs : τ.drop (τ.length - σ.length) = σ) (hk : keysOk (τ.take (τ.length - σ.length)) live dead = true) (hv : (live.map fun p => lk τ p.1) = live.map Prod.snd) :
    (List.range n).map (lk τ) = (List.range n).map (lk (live ++ (dead.map fun s => (s, lk τ s)) ++ σ)) := by
  apply List.map_congr_left
  intro t _
  rw [lk_append, lk_append]
  by_cases h1 : (live.any fun q => Nat.beq q.1 t) = true
  · rw [List.any_append, h1, Bool.true_or, if_pos rfl, if_pos rfl, lk_vals hv t h1]
  · by_cases h2 : (dead.any fun s => Nat.beq s t) = true
    · rw [List.any_append, any_dead, h2, Bool.or_true, if_pos rfl, if_neg h1, lk_dead _ _ _ h2]
    · rw [List.any_append, any_dead, if_neg (by simp [h1, h2])]
      have h3 : τ = τ.take (τ.length - σ.length) ++ σ := by
        have := List.take_append_drop (τ.length - σ.length) τ
        rw [hs] at this; exact this.symm
      have h4 : lk τ t = lk (τ.take (τ.length - σ.length) ++ σ) t := congrArg (fun z => lk z t) h3
      rw [h4, lk_append, if_neg]
      intro h5
      rw [List.any_eq_true] at h5
      obtain ⟨q, hq, hqt⟩ := h5
      have h6 := List.all_eq_true.1 hk q hq
      rw [Nat.eq_of_beq_eq_true hqt] at h6
      simp only [Bool.or_eq_true] at h6
      exact h6.elim h1 h2

/-- The end of a round. -/
def EndR {ds : List Deferred} {X : Type} (live : X → List (Nat × Value)) (dead : List Nat) (n : Nat) (σ : List (Nat × Value)) (I : X → World → Prop) (μ : X → Nat) (x : X) (a : Act) (w' : World) : Prop :=
  ∃ (x' : X) (d' : Nat → Value), a = Fr ds n (live x' ++ (dead.map fun s => (s, d' s)) ++ σ) ∧ I x' w' ∧ μ x' < μ x

theorem wpIn_loop_ghost {F : Fence} {m : Nat} {a : Act} {c : Code} (I : Nat → Act → World → Prop) (n₀ : Nat) (h₀ : I n₀ a w)
    (round : ∀ n a w, I n a w → c.wpIn F m P (Exit.then (fun a' w' => ∃ n', n' < n ∧ I n' a' w') Q) a w) : (Code.loop c).wpIn F m P Q a w := by
  refine wpIn_loop (fun a w => ∃ n, I n a w) (fun a w => leastOf (fun n => I n a w)) ⟨n₀, h₀⟩ ?_
  intro a w hI
  refine wpIn_mono (round _ a w (leastOf_spec hI).1) ?_
  intro e a' w' hq
  cases e with
  | normal =>
    obtain ⟨n', hlt, hI'⟩ := hq
    exact show (∃ n, I n a' w') ∧ leastOf (fun n => I n a' w') < leastOf (fun n => I n a w) from ⟨⟨n', hI'⟩, Nat.lt_of_le_of_lt ((leastOf_spec ⟨n', hI'⟩).2 n' hI') hlt⟩
  | exit id => exact hq
  | goto l => exact hq
  | ret => exact hq
  | panic ch => exact hq
  | outgrown => exact hq

/-- A loop: 'live': the slots that it writes and that are read later, by what varies; 'dead': the others that it writes. -/
theorem wpC_loop {X : Type} {c : Code} (live : X → List (Nat × Value)) (dead : List Nat) (I : X → World → Prop) (μ : X → Nat) (x0 : X)
    (h0 : ((live x0).map fun p => lk σ p.1) = (live x0).map Prod.snd) (hI : I x0 w)
    (round : ∀ (x : X) (d : Nat → Value) (w' : World), I x w' → wpC (ro := ro) (ds := ds) P c (Exit.then (EndR (ds := ds) live dead n σ I μ x) Q) n (live x ++ (dead.map fun s => (s, d s)) ++ σ) w') : wpC (ro := ro) (ds := ds) P (.loop c) Q n σ w := by
  unfold wpC
  have h0 : (List.range n).map (lk σ) = (List.range n).map (lk (live x0 ++ (dead.map fun s => (s, lk σ s)) ++ σ)) := frame_eq (by simp) (by simp [keysOk]) h0
  rw [Fr_congr h0]
  refine wpIn_loop_ghost (fun m a w' => ∃ (x : X) (d : Nat → Value), a = Fr ds n (live x ++ (dead.map fun s => (s, d s)) ++ σ) ∧ I x w' ∧ μ x = m) (μ x0) ⟨x0, _, rfl, hI, rfl⟩ ?_
  rintro m a w' ⟨x, d, rfl, hx, rfl⟩
  refine wpIn_mono (round x d w' hx) ?_
  intro e a' w'' hq
  cases e with
  | normal =>
    obtain ⟨x', d', rfl, hx', hlt⟩ := hq
    exact ⟨μ x', hlt, x', d', rfl, hx', rfl⟩
  | exit id => exact hq
  | goto l => exact hq
  | ret => exact hq
  | panic ch => exact hq
  | outgrown => exact hq
end

/-- The body of a function, entered. -/
theorem calls_of {P : Program} {f : FuncId} {fn : Func} {c : Code} {args : Array Value} {w : World} {R : Value → World → Prop}
    (hf : P.funcs[f]? = some fn) (hb : fn.body = some c) {n : Nat} {σ : List (Nat × Value)}
    (h : wpC (ro := none) (ds := []) P c (bodyPost P fn (Ret R)) n σ w) (hn : args ++ Array.replicate (fn.ntmps - args.size) undef = (Fr [] n σ).tmps := by kernel_rfl) : Calls P f args w (Ret R) := by
  refine calls_of_wp hf hb ?_
  rw [hn]; exact wpIn_wide.1 h

/-- What a body that holds a range over a function ends in: a return, its marks taken up. -/
def bodyPostN (P : Program) (fn : Func) (R : Value → World → Prop) : Exit → Act → World → Prop
  | .ret, a, w | .normal, a, w => LeavesInM Fence.wide 0 P fn a.tmps (Ret R) a.defers .returning w
  | _, _, _ => False

/-- The same where the body holds a range over a function. -/
theorem calls_ofM {P : Program} {f : FuncId} {fn : Func} {c : Code} {args : Array Value} {w : World} {R : Value → World → Prop}
    (hf : P.funcs[f]? = some fn) (hb : fn.body = some c) {n : Nat} {σ : List (Nat × Value)}
    (h : wpC (ro := none) (ds := []) P c (bodyPostN P fn R) n σ w) (hn : args ++ Array.replicate (fn.ntmps - args.size) undef = (Fr [] n σ).tmps := by kernel_rfl) : Calls P f args w (Ret R) := by
  refine callsIn_wide (n := 0).1 (callsIn_of_wp_marks hf hb trivial ?_)
  rw [hn]
  refine wpIn_mono h ?_
  intro e a w' hq
  cases e with
  | ret => exact hq
  | normal => exact hq
  | _ => exact hq.elim

theorem body_ret {P : Program} {fn : Func} {R : Value → World → Prop} {n : Nat} {σ : List (Nat × Value)} {w : World} {v : Value}
    (hr : (results fn (Fr [] n σ).tmps).run P w = .ok v w) (h : R v w) : bodyPost P fn (Ret R) .ret (Fr [] n σ) w :=
  ⟨rfl, v, hr, v, rfl, h⟩

/-- One result, read. -/
def resVal (P : Program) (n : Nat) (σ : List (Nat × Value)) (w : World) : ResultVar → Value → Prop
  | .tmp t, v => ev n σ (.tmp t) = v
  | .cell a T, v => ∃ ad, ev n σ (.tmp a) = .pointer (some ad) ∧ (loadVar T ad).run P w = .ok v w

theorem getD_Fr (ds : List Deferred) (n : Nat) (σ : List (Nat × Value)) (t : Nat) : (Fr ds n σ).tmps.getD t undef = ev n σ (.tmp t) := by
  have := congrFun (Fr_eval ds n σ) (.tmp t)
  simpa [Act.eval] using this

def rsem (tmps : Array Value) : ResultVar → Sem Value
  | .tmp t => pure (tmps.getD t undef)
  | .cell a t => do loadVar t (← asAddr (tmps.getD a undef))

theorem results_eq (fn : Func) (tmps : Array Value) : results fn tmps = (do
    let vs ← fn.results.mapM (rsem tmps)
    pure (if h : vs.size = 1 then vs[0] else .tuple vs)) := rfl

theorem run_rsem {ds : List Deferred} {P : Program} {n : Nat} {σ : List (Nat × Value)} {w : World} {r : ResultVar} {v : Value} (h : resVal P n σ w r v) : (rsem (Fr ds n σ).tmps r).run P w = .ok v w := by
  cases r with
  | tmp t => simp only [resVal] at h; simp only [rsem, getD_Fr, h, Sem.run_pure]
  | cell a T =>
    obtain ⟨ad, h1, h2⟩ := h
    simp only [rsem, getD_Fr, h1, asAddr]
    simpa using h2

/-- What a function's return asks of its results; m: whether a mark of a range over a function is taken up first. -/
def RetOf (P : Program) (fn : Func) (R : Value → World → Prop) (Q : Exit → Act → World → Prop) (ds : List Deferred) (w : World) : Prop :=
  ∀ (n : Nat) (σ : List (Nat × Value)) (v : Value), (results fn (Fr ds n σ).tmps).run P w = .ok v w → R v w → Q .ret (Fr ds n σ) w
theorem retOf_body {P : Program} {fn : Func} {R : Value → World → Prop} {w : World} : RetOf P fn R (bodyPost P fn (Ret R)) [] w := fun n σ v hr h => ⟨rfl, v, hr, v, rfl, h⟩

section
variable {P : Program} {fn : Func} {R : Value → World → Prop} {n : Nat} {σ : List (Nat × Value)} {w : World} {ds : List Deferred} {Q : Act → World → Prop}
theorem run_res1 {r : ResultVar} {v : Value} (hf : fn.results = #[r]) (h1 : resVal P n σ w r v) : (results fn (Fr ds n σ).tmps).run P w = .ok v w := by
  have g1 := run_rsem (ds := ds) h1
  rw [results_eq, hf]
  simp [g1]
theorem run_res2 {r1 r2 : ResultVar} {v1 v2 : Value} (hf : fn.results = #[r1, r2]) (h1 : resVal P n σ w r1 v1) (h2 : resVal P n σ w r2 v2) : (results fn (Fr ds n σ).tmps).run P w = .ok (.tuple #[v1, v2]) w := by
  have g1 := run_rsem (ds := ds) h1
  have g2 := run_rsem (ds := ds) h2
  rw [results_eq, hf]
  simp [g1, g2]
theorem run_res3 {r1 r2 r3 : ResultVar} {v1 v2 v3 : Value} (hf : fn.results = #[r1, r2, r3]) (h1 : resVal P n σ w r1 v1) (h2 : resVal P n σ w r2 v2) (h3 : resVal P n σ w r3 v3) : (results fn (Fr ds n σ).tmps).run P w = .ok (.tuple #[v1, v2, v3]) w := by
  have g1 := run_rsem (ds := ds) h1
  have g2 := run_rsem (ds := ds) h2
  have g3 := run_rsem (ds := ds) h3
  rw [results_eq, hf]
  simp [g1, g2, g3]
theorem run_res0 (hf : fn.results = #[]) : (results fn (Fr ds n σ).tmps).run P w = .ok (.tuple #[]) w := by
  rw [results_eq, hf]
  simp
/-- A result in a slot, for the kernel to read. -/
theorem body_ret0 (h : R (.tuple #[]) w) (hf : fn.results = #[] := by kernel_rfl) : bodyPost P fn (Ret R) .ret (Fr [] n σ) w := retOf_body n σ _ (run_res0 hf) h
theorem body_ret1 {r : ResultVar} {v : Value} (h1 : resVal P n σ w r v) (h : R v w) (hf : fn.results = #[r] := by kernel_rfl) : bodyPost P fn (Ret R) .ret (Fr [] n σ) w := retOf_body n σ _ (run_res1 hf h1) h
theorem body_ret2 {r1 r2 : ResultVar} {v1 v2 : Value} (h1 : resVal P n σ w r1 v1) (h2 : resVal P n σ w r2 v2) (h : R (.tuple #[v1, v2]) w) (hf : fn.results = #[r1, r2] := by kernel_rfl) : bodyPost P fn (Ret R) .ret (Fr [] n σ) w := retOf_body n σ _ (run_res2 hf h1 h2) h
theorem body_ret3 {r1 r2 r3 : ResultVar} {v1 v2 v3 : Value} (h1 : resVal P n σ w r1 v1) (h2 : resVal P n σ w r2 v2) (h3 : resVal P n σ w r3 v3) (h : R (.tuple #[v1, v2, v3]) w) (hf : fn.results = #[r1, r2, r3] := by kernel_rfl) : bodyPost P fn (Ret R) .ret (Fr [] n σ) w := retOf_body n σ _ (run_res3 hf h1 h2 h3) h

/-- All results in slots: the kernel reads them. -/
def resT (fn : Func) (n : Nat) (σ : List (Nat × Value)) : Option Value :=
  match fn.results.toList with
  | [] => some (.tuple #[])
  | [.tmp a] => some (ev n σ (.tmp a))
  | [.tmp a, .tmp b] => some (.tuple #[ev n σ (.tmp a), ev n σ (.tmp b)])
  | [.tmp a, .tmp b, .tmp c] => some (.tuple #[ev n σ (.tmp a), ev n σ (.tmp b), ev n σ (.tmp c)])
  | _ => none
theorem run_resT {v : Value} (h : resT fn n σ = some v) : (results fn (Fr ds n σ).tmps).run P w = .ok v w := by
  obtain ⟨rs, hrs⟩ : ∃ l, fn.results.toList = l := ⟨_, rfl⟩
  have hf : fn.results = rs.toArray := by rw [← hrs]
  unfold resT at h
  rw [hrs] at h
  split at h
  · cases h; exact run_res0 hf
  · cases h; exact run_res1 hf rfl
  · cases h; exact run_res2 hf rfl rfl
  · cases h; exact run_res3 hf rfl rfl rfl
  · cases h
theorem body_rets (v : Value) (h : R v w) (hf : resT fn n σ = some v := by kernel_rfl) : bodyPost P fn (Ret R) .ret (Fr [] n σ) w := retOf_body n σ _ (run_resT hf) h

/-- The end of a body that returns nothing. -/
theorem body_end (h : R (.tuple #[]) w) (hf : fn.results = #[] := by kernel_rfl) : bodyPost P fn (Ret R) .normal (Fr [] n σ) w := ⟨rfl, _, run_res0 hf, _, rfl, h⟩

/-- A return, a mark of a range over a function taken up: in the world w' behind it. -/
theorem retM {D : Nat} {w' : World} (ht : (Instr.takeDeferred D).run P w = .ok [] w') {v : Value} (hr : (results fn (Fr [{ target := .collected D, args := #[] }] n σ).tmps).run P w' = .ok v w') (h : R v w') :
    bodyPostN P fn R .ret (Fr [{ target := .collected D, args := #[] }] n σ) w := by
  refine ⟨by simp, .inl ⟨_, _, rfl, ht, ?_⟩⟩
  exact ⟨_, hr, _, rfl, h⟩
theorem bodyM_rets {D : Nat} {w' : World} (ht : (Instr.takeDeferred D).run P w = .ok [] w') (v : Value) (h : R v w') (hf : resT fn n σ = some v := by kernel_rfl) :
    bodyPostN P fn R .ret (Fr [{ target := .collected D, args := #[] }] n σ) w := retM ht (run_resT hf) h
theorem bodyM0_ret {v : Value} (hr : (results fn (Fr [] n σ).tmps).run P w = .ok v w) (h : R v w) : bodyPostN P fn R .ret (Fr [] n σ) w :=
  ⟨_, hr, _, rfl, h⟩
/-- A return ahead of any range over a function. -/
theorem bodyM0_rets (v : Value) (h : R v w) (hf : resT fn n σ = some v := by kernel_rfl) : bodyPostN P fn R .ret (Fr [] n σ) w :=
  ⟨_, run_resT hf, _, rfl, h⟩
end

/-- It does not end in a panic. -/
class NoPan (Q : Exit → Act → World → Prop) : Prop where
  no : ∀ c a w, ¬ Q (.panic c) a w
instance {K : Act → World → Prop} {Q : Exit → Act → World → Prop} [h : NoPan Q] : NoPan (Exit.then K Q) := ⟨h.no⟩
instance {id : Nat} {Q : Exit → Act → World → Prop} [h : NoPan Q] : NoPan (Exit.inBlock id Q) := ⟨h.no⟩
instance {P : Program} {fn : Func} {R : Value → World → Prop} : NoPan (bodyPostN P fn R) := ⟨fun _ _ _ h => h⟩
instance {P : Program} {fn : Func} {R : Value → World → Prop} : NoPan (bodyPost P fn (Ret R)) := ⟨fun c a w h => by obtain ⟨_, v, hv, _⟩ := h; cases hv⟩
end Go.Cs
