/- Regions whose order Go leaves open: whatever only reads is taken first; the rest in every order. For any program; no condition. -/
import Derived.Test.YthjplefmfjkhfaaDoorCsN
set_option linter.all false
set_option linter.unusedVariables false
namespace Go.Cs
open Go Go.RowKit

section
variable {ro : Option Nat} {P : Program} {ops : Array Oper} {Q : Exit → Act → World → Prop} {md : Region.Mode} {C : World → Prop}

/-- No 'defer' statement. -/
def noDef (ops : Array Oper) : Bool := ops.all fun o => match o.op with | .defer _ => false | _ => true
theorem noDef_spec (h : noDef ops = true) {j : Nat} {o : Oper} (hj : ops[j]? = some o) (c : Call) : o.op ≠ .defer c := by
  intro e
  obtain ⟨hlt, rfl⟩ := Array.getElem?_eq_some_iff.1 hj
  have := Array.all_eq_true.1 h j hlt
  simp [e] at this

/-- It waits for all the others. -/
def lastB (md : Region.Mode) (ops : Array Oper) (j : Nat) : Bool :=
  match ops[j]? with
  | none => false
  | some o => (List.range ops.size).all fun k => k == j || o.after.any fun e => Region.binds md e && e.on == k

/-- Whatever order is picked from here on; every world on the way is of the class C. -/
def wpAnyC (ro : Option Nat) (P : Program) (md : Region.Mode) (ops : Array Oper) (Q : Exit → Act → World → Prop) (C : World → Prop) : Nat → Array Bool → Act → World → Prop
  | 0, listed, a, w => Region.ready md ops listed = [] ∧ Q .normal a w
  | fuel + 1, listed, a, w =>
    (Region.ready md ops listed = [] → Q .normal a w) ∧
    ∀ i ∈ Region.ready md ops listed, wpOpIn (fen ro) 0 P ops Q i (fun a' w' => (lastB md ops i = true ∨ C w') ∧ wpAnyC ro P md ops Q C fuel (listed.setIfInBounds i true) a' w') a w

theorem wpAny_of_C : ∀ (fuel : Nat) (listed : Array Bool) (a : Act) (w : World), wpAnyC ro P md ops Q C fuel listed a w → wpAnyIn (fen ro) 0 P md ops Q fuel listed a w
  | 0, _, _, _, h => h
  | fuel + 1, _, _, _, h => ⟨h.1, fun i hi => wpOpIn_mono (fun a' w' h' => wpAny_of_C fuel _ a' w' h'.2) (h.2 i hi)⟩

theorem wpAnyC_mono {C' : World → Prop} (hC : ∀ w, C w → C' w) : ∀ (fuel : Nat) (listed : Array Bool) (a : Act) (w : World), wpAnyC ro P md ops Q C fuel listed a w → wpAnyC ro P md ops Q C' fuel listed a w
  | 0, _, _, _, h => h
  | fuel + 1, _, _, _, h => ⟨h.1, fun i hi => wpOpIn_mono (fun a' w' h' => ⟨h'.1.imp id (hC _), wpAnyC_mono hC fuel _ a' w' h'.2⟩) (h.2 i hi)⟩

/-- It yields v and leaves the world alone. -/
def yUpon (P : Program) (w : World) (v : Value) : Result Next → Prop
  | .ok (.value u) w' => w' = w ∧ u = v
  | .ok .skip w' => w' = w ∧ v = undef
  | .ok (.enter f args) w' => w' = w ∧ Calls P f args w (Ret fun u w'' => u = v ∧ w = w'')
  | _ => False

def YC (P : Program) (ops : Array Oper) (C : World → Prop) (o : Oper) (v : Value) (a : Act) : Prop :=
  (Region.wanted o (yielded ops a.tmps) = true ∧ ∀ w, C w → yUpon P w v ((execOp a.eval o).run P w)) ∨
  (Region.wanted o (yielded ops a.tmps) = false ∧ v = undef)

theorem YC.wpOp {i : Nat} {o : Oper} {v : Value} {a : Act} (hd : ∀ c, o.op ≠ .defer c) (hi : ops[i]? = some o) (hy : YC P ops C o v a)
    {K : Act → World → Prop} {w : World} (hw : C w) (h : K (a.put o.dst v) w) : wpOpIn (fen ro) 0 P ops Q i K a w := by
  unfold Go.wpOpIn
  simp only [hi]
  rcases hy with ⟨hwn, hv⟩ | ⟨hwn, rfl⟩
  · simp only [hwn, if_true]
    have h2 := hv w hw
    unfold Oper.wpIn
    refine ⟨fun _ _ => trivial, ?_⟩
    rw [Oper.semAt_eq _ _ _ hd]
    cases hr : (execOp a.eval o).run P w with
    | halt _ _ => simp only [hr, yUpon] at h2
    | ok nx w' =>
      cases nx with
      | value u => simp only [hr, yUpon] at h2; obtain ⟨rfl, rfl⟩ := h2; exact h
      | skip => simp only [hr, yUpon] at h2; obtain ⟨rfl, rfl⟩ := h2; exact h
      | enter f args =>
        simp only [hr, yUpon] at h2
        obtain ⟨rfl, h3⟩ := h2
        rw [Oper.uponIn_enter]
        refine ⟨fun h => (by cases h), CallsIn.mono (show CallsIn (fen ro) (0 - 1) P f args w' _ from callsIn_wide (n := 0 - 1).2 h3) ?_⟩
        rintro e w'' ⟨u, rfl, rfl, rfl⟩
        exact h
      | _ => simp only [hr, yUpon] at h2
  · simp only [hwn, Bool.false_eq_true, if_false]; exact ⟨fun _ _ => trivial, h⟩

theorem YC.of_same {o : Oper} {v : Value} {a a' : Act} (hy : YC P ops C o v a) (he : execOp a'.eval o = execOp a.eval o)
    (hw : Region.wanted o (yielded ops a'.tmps) = Region.wanted o (yielded ops a.tmps)) : YC P ops C o v a' := by
  unfold YC at *
  rw [he, hw]
  exact hy

theorem wpOp_putC {j : Nat} {oi oj : Oper} {v : Value} (hj : ops[j]? = some oj) (hap : oi.apart ops oj = true)
    (hsi : ∀ cs b, oi.op ≠ .select cs b) (hsj : ∀ cs b, oj.op ≠ .select cs b) (hdj : ∀ c, oj.op ≠ .defer c)
    (hQ : ∀ c a w, ¬ Q (.panic c) a w) {K : Act → World → Prop} {a : Act} {w : World}
    (hy : YC P ops C oi v a) (h : wpOpIn (fen ro) 0 P ops Q j K (a.put oi.dst v) w) :
    wpOpIn (fen ro) 0 P ops Q j (fun a' w' => YC P ops C oi v a' ∧ K (a'.put oi.dst v) w') a w := by
  obtain ⟨h1, h2, h3⟩ := Oper.apart_spec hap
  have keep : ∀ (a : Act), YC P ops C oi v a → ∀ u, YC P ops C oi v (a.put oj.dst u) := fun a hy u =>
    hy.of_same (execOp_put oi hsi a oj.dst u h3) (wanted_put oi a oj.dst u h3)
  have keepD : ∀ d, YC P ops C oi v { a with defers := d :: a.defers } := fun d => hy.of_same rfl rfl
  unfold wpOpIn at *
  simp only [hj] at *
  rw [wanted_put oj a oi.dst v h1] at h
  split
  · rename_i hw
    simp only [hw, if_true] at h
    unfold Oper.wpIn at *
    refine ⟨fun _ _ => trivial, ?_⟩
    have h := h.2
    rw [Oper.semAt_eq _ _ _ hdj] at h ⊢
    rw [execOp_put oj hsj a oi.dst v h1] at h
    generalize (execOp a.eval oj).run P w = r at *
    cases r with
    | ok n w' =>
      cases n <;> simp only [Oper.uponIn] at h ⊢
      case value u => exact ⟨keep a hy u, by rw [← Act.put_comm a v u h2]; exact h⟩
      case skip => exact ⟨keep a hy _, by rw [← Act.put_comm a v undef h2]; exact h⟩
      case defer d =>
        refine ⟨keep _ (keepD d) _, ?_⟩
        rw [← Act.put_comm _ v undef h2, ← Act.put_defers]
        exact h
      case enter f args =>
        refine ⟨h.1, CallsIn.mono h.2 fun e w'' he => ?_⟩
        cases e with
        | returned u => exact ⟨keep a hy u, by rw [← Act.put_comm a v u h2]; exact he⟩
        | panicked c => exact (hQ _ _ _ he).elim
        | outgrown => exact he
      case row row args => exact ⟨h.1, RowsIn.mono h.2 fun u w'' he => ⟨keep a hy u, by rw [← Act.put_comm a v u h2]; exact he⟩⟩
      case round l f tmps assign body =>
        refine ⟨h.1, RoundIn.mono h.2 fun e w'' he => ?_⟩
        cases e with
        | returned u => exact ⟨keep a hy u, by rw [← Act.put_comm a v u h2]; exact he⟩
        | panicked c => exact (hQ _ _ _ he).elim
        | outgrown => exact he
    | halt x w' =>
      cases x <;> simp only [Oper.uponIn] at h ⊢
      case panic u => exact (hQ _ _ _ h).elim
  · rename_i hw
    simp only [hw] at h
    exact ⟨fun _ _ => trivial, keep a hy _, by rw [← Act.put_comm a v undef h2]; exact h.2⟩

theorem wpAnyC_first {i : Nat} {oi : Oper} {v : Value} (hi : ops[i]? = some oi) (hdef : noDef ops = true) (hsel : ∀ (j : Nat) (o : Oper) cs b, ops[j]? = some o → o.op ≠ .select cs b)
    (hQ : ∀ c a w, ¬ Q (.panic c) a w) :
    ∀ (fuel : Nat) (listed : Array Bool) (a : Act) (w : World), C w →
      (∀ j oj, ops[j]? = some oj → j ≠ i → listed.getD j true = false → (∀ e ∈ oj.after, Region.binds md e = true → e.on ≠ i) → oi.apart ops oj = true) →
      i ∈ Region.ready md ops listed → YC P ops C oi v a →
      wpAnyC ro P md ops Q C fuel (listed.setIfInBounds i true) (a.put oi.dst v) w → wpAnyC ro P md ops Q C (fuel + 1) listed a w := by
  intro fuel
  induction fuel with
  | zero =>
    intro listed a w hw _ hr hy H
    refine ⟨fun h => (by rw [h] at hr; cases hr), fun j hj => ?_⟩
    by_cases hji : j = i
    · subst hji; exact hy.wpOp (noDef_spec hdef hi) hi hw ⟨.inr hw, H⟩
    · have := ready_mono hj hji
      rw [H.1] at this
      cases this
  | succ fuel ih =>
    intro listed a w hw hfree hr hy H
    refine ⟨fun h => (by rw [h] at hr; cases hr), fun j hj => ?_⟩
    by_cases hji : j = i
    · subst hji; exact hy.wpOp (noDef_spec hdef hi) hi hw ⟨.inr hw, H⟩
    · have h1 := H.2 j (ready_mono hj hji)
      obtain ⟨hjun, oj, hoj, hall⟩ := mem_ready.1 hj
      have hnot : ∀ e ∈ oj.after, Region.binds md e = true → e.on ≠ i := fun e he hb heq => by
        have h1 := hall e he hb
        have h0 := (mem_ready.1 hr).1
        rw [heq] at h1
        rcases Nat.lt_or_ge i listed.size with h' | h'
        · simp [h'] at h0 h1; rw [h0] at h1; cases h1
        · simp [Array.getElem?_eq_none h'] at h1
      have h2 := wpOp_putC hoj (hfree j oj hoj hji hjun hnot) (fun cs b => hsel i oi cs b hi) (fun cs b => hsel j oj cs b hoj) (noDef_spec hdef hoj) hQ hy h1
      have hfree' : ∀ k ok, ops[k]? = some ok → k ≠ i → (listed.setIfInBounds j true).getD k true = false →
          (∀ e ∈ ok.after, Region.binds md e = true → e.on ≠ i) → oi.apart ops ok = true := fun k ok hk hki hun hno => by
        refine hfree k ok hk hki ?_ hno
        by_cases hjk : j = k
        · subst hjk; exact hjun
        · rw [getD_set_ne true hjk] at hun; exact hun
      have hnl : lastB md ops j = false := by
        cases hb : lastB md ops j with
        | false => rfl
        | true =>
          simp only [lastB, hoj, List.all_eq_true, List.mem_range, Bool.or_eq_true, beq_iff_eq] at hb
          rcases hb i (Array.getElem?_eq_some_iff.1 hi).1 with h9 | h9
          · exact absurd h9.symm hji
          · obtain ⟨e, he, hbe⟩ := Array.any_eq_true'.1 h9
            simp only [Bool.and_eq_true, beq_iff_eq] at hbe
            exact absurd hbe.2 (hnot e he hbe.1)
      refine wpOpIn_mono (fun a' w' h3 => ?_) h2
      have hcw : C w' := h3.2.1.resolve_left (by rw [hnl]; simp)
      refine ⟨.inr hcw, ih (listed.setIfInBounds j true) a' w' hcw hfree' (ready_mono hr (Ne.symm hji)) h3.1 ?_⟩
      rw [Array.setIfInBounds_comm _ _ hji]
      exact h3.2.2

theorem wpAnyC_take {i : Nat} {oi : Oper} {v : Value} {fuel : Nat} {listed : Array Bool} {a : Act} {w : World} (hi : ops[i]? = some oi)
    (hdef : noDef ops = true) (hs : Region.noSelect ops = true) (hf : Region.free md ops listed i = true) (hr : (Region.ready md ops listed).contains i = true)
    (hQ : ∀ c a w, ¬ Q (.panic c) a w) (hw : C w) (hy : YC P ops C oi v a)
    (h : wpAnyC ro P md ops Q C fuel (listed.setIfInBounds i true) (a.put oi.dst v) w) : wpAnyC ro P md ops Q C (fuel + 1) listed a w :=
  wpAnyC_first hi hdef (Region.noSelect_spec hs) hQ fuel listed a w hw (Region.free_spec hi hf) (by simpa using hr) hy h
end

/-! ### Over frames that are lists -/

def anyF {ro : Option Nat} {ds : List Deferred} (P : Program) (ops : Array Oper) (Q : Exit → Act → World → Prop) (C : World → Prop) (n fuel : Nat) (listed : Array Bool) (σ : List (Nat × Value)) (w : World) : Prop :=
  wpAnyC ro P .any ops Q C fuel listed (Fr ds n σ) w

section
variable {ro : Option Nat} {ds : List Deferred} {P : Program} {ops : Array Oper} {Q : Exit → Act → World → Prop} {C : World → Prop} {n fuel : Nat} {listed : Array Bool} {σ : List (Nat × Value)} {w : World}

theorem wpC_draw {id : Nat} (C : World → Prop) (fuel : Nat) (hm : P.follows .mixedOrders = true) (hn : ops.size = fuel)
    (h : anyF (ro := ro) (ds := ds) P ops Q C n fuel (Array.replicate fuel false) σ w.drew) : wpC (ro := ro) (ds := ds) P (.region id ops true) Q n σ w := by
  subst hn
  exact wpIn_region_any hm (wpAny_of_C _ _ _ _ h)

theorem any_class {C' : World → Prop} (hC : ∀ w', C' w' → C w') (h : anyF (ro := ro) (ds := ds) P ops Q C' n fuel listed σ w) : anyF (ro := ro) (ds := ds) P ops Q C n fuel listed σ w :=
  wpAnyC_mono hC _ _ _ _ h

/-- Operation i yields v in every world of the class. -/
def yld (P : Program) (ops : Array Oper) (C : World → Prop) (n : Nat) (σ : List (Nat × Value)) (i : Nat) (d : Option Tmp) (v : Value) : Prop :=
  ∃ o, ops[i]? = some o ∧ o.dst = d ∧ ((wnt ops n σ o = true ∧ ∀ w', C w' → yUpon P w' v ((execOp (ev n σ) o).run P w')) ∨ (wnt ops n σ o = false ∧ v = undef))

theorem yld_val {i : Nat} {d : Option Tmp} {v : Value} (s : Sem Value) (h : ∀ w', C w' → s.run P w' = .ok v w') (he : exAt ops n σ i = some (d, vS s) := by kernel_rfl) : yld P ops C n σ i d v := by
  obtain ⟨o, ho, hw, rfl, h2⟩ := exAt_spec he
  refine ⟨o, ho, rfl, .inl ⟨hw, fun w' hC => ?_⟩⟩
  rw [h2, run_vS (h w' hC)]
  exact ⟨rfl, rfl⟩

theorem yld_valAt {i : Nat} {d : Option Tmp} {u v : Value} (he : ∀ w', valAt P ops n σ i w' = some (d, u, w')) (hu : u = v) (hne : ∃ w', C w') : yld P ops C n σ i d v := by
  subst hu
  obtain ⟨w0, _⟩ := hne
  have h0 := he w0
  unfold valAt at h0
  cases hx : exAt ops n σ i with
  | none => simp [hx] at h0
  | some p =>
    obtain ⟨d', s⟩ := p
    obtain ⟨o, ho, hw, hd, h2⟩ := exAt_spec hx
    have hdd : d' = d := by
      simp only [hx] at h0
      cases hr : s.run P w0 with
      | halt _ _ => simp [hr] at h0
      | ok nx w1 => cases nx <;> simp_all
    refine ⟨o, ho, hd.trans hdd, .inl ⟨hw, fun w' _ => ?_⟩⟩
    have h1 := he w'
    unfold valAt at h1
    simp only [hx] at h1
    rw [h2]
    cases hr : s.run P w' with
    | halt _ _ => simp [hr] at h1
    | ok nx w1 =>
      cases nx with
      | value u' =>
        simp only [hr, Option.some.injEq, Prod.mk.injEq] at h1
        exact ⟨h1.2.2, h1.2.1⟩
      | _ => simp [hr] at h1

theorem yld_eqv {i : Nat} {d : Option Tmp} {v : Value} (u : Value) (hu : u = v) (hne : ∃ w', C w' := by first | exact ⟨_, Ext.refl _⟩ | exact ⟨_, Chg.refl _ _⟩) (he : ∀ w', valAt P ops n σ i w' = some (d, u, w') := by intro _; kernel_rfl) : yld P ops C n σ i d v := yld_valAt he hu hne
theorem yld_in {i : Nat} {d : Option Tmp} (kk : IntKind) (x : Int) {y : Nat} (hx : x = (y : Int)) (hne : ∃ w', C w' := by first | exact ⟨_, Ext.refl _⟩ | exact ⟨_, Chg.refl _ _⟩) (he : ∀ w', valAt P ops n σ i w' = some (d, .int kk x, w') := by intro _; kernel_rfl) : yld P ops C n σ i d (.int kk (y : Int)) := yld_valAt he (by rw [hx]) hne
theorem yld_iz {i : Nat} {d : Option Tmp} (kk : IntKind) (x : Int) {y : Int} (hx : x = y) (hne : ∃ w', C w' := by first | exact ⟨_, Ext.refl _⟩ | exact ⟨_, Chg.refl _ _⟩) (he : ∀ w', valAt P ops n σ i w' = some (d, .int kk x, w') := by intro _; kernel_rfl) : yld P ops C n σ i d (.int kk y) := yld_valAt he (by rw [hx]) hne
theorem yld_b {i : Nat} {d : Option Tmp} (x : Bool) {y : Bool} (hx : x = y) (hne : ∃ w', C w' := by first | exact ⟨_, Ext.refl _⟩ | exact ⟨_, Chg.refl _ _⟩) (he : ∀ w', valAt P ops n σ i w' = some (d, .bool x, w') := by intro _; kernel_rfl) : yld P ops C n σ i d (.bool y) := yld_valAt he (by rw [hx]) hne

theorem yld_call {i : Nat} {d : Option Tmp} {v : Value} {f : FuncId} {args : Array Value} (hc : ∀ w', C w' → Calls P f args w' (Ret fun u w'' => u = v ∧ w' = w'')) (hne : ∃ w', C w' := by first | exact ⟨_, Ext.refl _⟩ | exact ⟨_, Chg.refl _ _⟩) (he : ∀ w', callAt P ops n σ i w' = some (d, f, args, w') := by intro _; kernel_rfl) : yld P ops C n σ i d v := by
  obtain ⟨w0, _⟩ := hne
  have h0 := he w0
  unfold callAt at h0
  cases hx : exAt ops n σ i with
  | none => simp [hx] at h0
  | some p =>
    obtain ⟨d', s⟩ := p
    obtain ⟨o, ho, hw, hd, h2⟩ := exAt_spec hx
    have hdd : d' = d := by
      simp only [hx] at h0
      cases hr : s.run P w0 with
      | halt _ _ => simp [hr] at h0
      | ok nx w1 => cases nx <;> simp_all
    refine ⟨o, ho, hd.trans hdd, .inl ⟨hw, fun w' hC => ?_⟩⟩
    have h1 := he w'
    unfold callAt at h1
    simp only [hx] at h1
    rw [h2]
    cases hr : s.run P w' with
    | halt _ _ => simp [hr] at h1
    | ok nx w1 =>
      cases nx with
      | enter g as =>
        simp only [hr, Option.some.injEq, Prod.mk.injEq] at h1
        obtain ⟨_, rfl, rfl, rfl⟩ := h1
        exact ⟨rfl, hc _ hC⟩
      | _ => simp [hr] at h1

/-- ready and free, for the kernel -/
def canTake (ops : Array Oper) (listed : Array Bool) (i : Nat) : Bool :=
  noDef ops && Region.noSelect ops && Region.free .any ops listed i && (Region.ready .any ops listed).contains i && (match ops[i]? with | some o => o.dst.isSome | none => false)

theorem any_take [hq : NoPan Q] (i : Nat) (d : Option Tmp) (v : Value) (hc : canTake ops listed i = true) (hw : C w) (hy : yld P ops C n σ i d v)
    (h : anyF (ro := ro) (ds := ds) P ops Q C n fuel (listed.setIfInBounds i true) (putσ σ d v) w) : anyF (ro := ro) (ds := ds) P ops Q C n (fuel + 1) listed σ w := by
  simp only [canTake, Bool.and_eq_true] at hc
  obtain ⟨⟨⟨⟨h0, h1⟩, h2⟩, h3⟩, _⟩ := hc
  obtain ⟨o, ho, rfl, h5⟩ := hy
  refine wpAnyC_take ho h0 h1 h2 h3 hq.no hw ?_ (by rw [Fr_put]; exact h)
  rcases h5 with ⟨h6, h7⟩ | ⟨h6, h7⟩
  · exact .inl ⟨by rw [wanted_Fr]; exact h6, fun w' hw' => by rw [Fr_eval]; exact h7 w' hw'⟩
  · exact .inr ⟨by rw [wanted_Fr]; exact h6, h7⟩

theorem yld_not {i : Nat} {d : Option Tmp} (h : (match ops[i]? with | some o => o.dst == d && !wnt ops n σ o | none => false) = true) : yld P ops C n σ i d undef := by
  cases ho : ops[i]? with
  | none => simp [ho] at h
  | some o =>
    simp only [ho, Bool.and_eq_true, beq_iff_eq, Bool.not_eq_true'] at h
    exact ⟨o, ho, h.1, .inr ⟨h.2, rfl⟩⟩

theorem wpOp_of_opWp {i : Nat} {K : List (Nat × Value) → World → Prop} (h : opWp P ops n i σ w K) : wpOpIn (fen ro) 0 P ops Q i (fun a w' => ∃ τ, a = Fr ds n τ ∧ K τ w') (Fr ds n σ) w := by
  obtain ⟨o, ho, ⟨hw, h⟩ | ⟨hw, h⟩⟩ := h
  · unfold wpOpIn
    simp only [ho, wanted_Fr, hw, if_true]
    unfold Oper.wpIn
    refine ⟨fun _ _ => trivial, ?_⟩
    rw [Fr_eval]
    cases hr : (execOp (ev n σ) o).run P w with
    | halt x w' => simp only [hr] at h
    | ok nx w' =>
      cases nx with
      | value v => simp only [hr] at h; rw [semAt_plainNext (P := P) (w := w) (by rw [hr]; rfl), hr]; exact ⟨_, Fr_put .., h⟩
      | skip => simp only [hr] at h; rw [semAt_plainNext (P := P) (w := w) (by rw [hr]; rfl), hr]; exact ⟨_, Fr_put .., h⟩
      | enter f args =>
        simp only [hr] at h
        rw [semAt_plainNext (P := P) (w := w) (by rw [hr]; rfl), hr, Oper.uponIn_enter]
        refine ⟨fun h => (by cases h), CallsIn.mono (show CallsIn (fen ro) (0 - 1) P f args w' _ from callsIn_wide (n := 0 - 1).2 h) ?_⟩
        rintro e w'' ⟨v, rfl, hv⟩
        exact ⟨_, Fr_put .., hv⟩
      | round l f tmps assign body =>
        simp only [hr] at h
        rw [semAt_plainNext (P := P) (w := w) (by rw [hr]; rfl), hr, Oper.uponIn_round]
        refine ⟨fun h => (by cases h), RoundIn.mono (show RoundIn (fen ro) (0 - 1) P l f tmps assign body w' _ from h) ?_⟩
        rintro e w'' ⟨v, rfl, hv⟩
        exact ⟨_, Fr_put .., hv⟩
      | _ => simp only [hr] at h
  · unfold wpOpIn
    simp only [ho, wanted_Fr, hw, Bool.false_eq_true, if_false]
    exact ⟨fun _ _ => trivial, _, Fr_put .., h⟩

/-- The operations that may come up now, one or more of them. -/
theorem any_of (rs : List Nat) (hr : Region.ready .any ops listed = rs) (hne : rs ≠ []) (h : ∀ i ∈ rs, opWp P ops n i σ w (fun τ w' => (lastB .any ops i = true ∨ C w') ∧ anyF (ro := ro) (ds := ds) P ops Q C n fuel (listed.setIfInBounds i true) τ w')) : anyF (ro := ro) (ds := ds) P ops Q C n (fuel + 1) listed σ w := by
  unfold anyF wpAnyC
  refine ⟨fun h0 => absurd (hr ▸ h0) hne, fun j hj => ?_⟩
  rw [hr] at hj
  refine wpOpIn_mono ?_ (wpOp_of_opWp (h j hj))
  rintro a w' ⟨τ, rfl, h1, h2⟩
  exact ⟨h1, h2⟩

theorem any_one (i : Nat) (hr : Region.ready .any ops listed = [i]) (h : opWp P ops n i σ w (fun τ w' => (lastB .any ops i = true ∨ C w') ∧ anyF (ro := ro) (ds := ds) P ops Q C n fuel (listed.setIfInBounds i true) τ w')) : anyF (ro := ro) (ds := ds) P ops Q C n (fuel + 1) listed σ w :=
  any_of [i] hr (by simp) (by simpa using h)
theorem any_two (i j : Nat) (hr : Region.ready .any ops listed = [i, j]) (h1 : opWp P ops n i σ w (fun τ w' => (lastB .any ops i = true ∨ C w') ∧ anyF (ro := ro) (ds := ds) P ops Q C n fuel (listed.setIfInBounds i true) τ w'))
    (h2 : opWp P ops n j σ w (fun τ w' => (lastB .any ops j = true ∨ C w') ∧ anyF (ro := ro) (ds := ds) P ops Q C n fuel (listed.setIfInBounds j true) τ w')) : anyF (ro := ro) (ds := ds) P ops Q C n (fuel + 1) listed σ w :=
  any_of [i, j] hr (by simp) (by
    intro k hk
    simp only [List.mem_cons, List.not_mem_nil, or_false] at hk
    rcases hk with rfl | rfl
    · exact h1
    · exact h2)
theorem any_three (i j l : Nat) (hr : Region.ready .any ops listed = [i, j, l]) (h1 : opWp P ops n i σ w (fun τ w' => (lastB .any ops i = true ∨ C w') ∧ anyF (ro := ro) (ds := ds) P ops Q C n fuel (listed.setIfInBounds i true) τ w'))
    (h2 : opWp P ops n j σ w (fun τ w' => (lastB .any ops j = true ∨ C w') ∧ anyF (ro := ro) (ds := ds) P ops Q C n fuel (listed.setIfInBounds j true) τ w')) (h3 : opWp P ops n l σ w (fun τ w' => (lastB .any ops l = true ∨ C w') ∧ anyF (ro := ro) (ds := ds) P ops Q C n fuel (listed.setIfInBounds l true) τ w')) : anyF (ro := ro) (ds := ds) P ops Q C n (fuel + 1) listed σ w :=
  any_of [i, j, l] hr (by simp) (by
    intro k hk
    simp only [List.mem_cons, List.not_mem_nil, or_false] at hk
    rcases hk with rfl | rfl | rfl
    · exact h1
    · exact h2
    · exact h3)

theorem any_done (hr : Region.ready .any ops listed = []) (h : Q .normal (Fr ds n σ) w) : anyF (ro := ro) (ds := ds) P ops Q C n fuel listed σ w := by
  unfold anyF
  cases fuel with
  | zero => exact ⟨hr, h⟩
  | succ f => exact ⟨fun _ => h, by rw [hr]; simp⟩

/-- The same, what is listed written out anew. -/
theorem any_listed (listed' : Array Bool) (hl : listed = listed') (h : anyF (ro := ro) (ds := ds) P ops Q C n fuel listed' σ w) : anyF (ro := ro) (ds := ds) P ops Q C n fuel listed σ w := hl ▸ h
end

/-! ### The same by numbers that are read bit by bit: quick for the kernel -/

def maskL : List Nat → Nat
  | [] => 0
  | t :: l => 2 ^ t ||| maskL l

theorem maskL_bit (l : List Nat) (t : Nat) : (maskL l).testBit t = decide (t ∈ l) := by
  induction l with
  | nil => simp [maskL]
  | cons a l ih =>
    rw [maskL, Nat.testBit_or, ih, Nat.testBit_two_pow]
    by_cases h : a = t
    · subst h; simp
    · have h2 : ¬ t = a := fun e => h e.symm
      simp [h, h2]

/-- Of one operation: the slot that it writes, plus one; the slots that it looks at; the operations that it waits for. -/
def rowOf (ops : Array Oper) (o : Oper) : Nat × Nat × Nat :=
  (match o.dst with | none => 0 | some d => d + 1, maskL (o.looksAt ops), maskL ((o.after.toList.filter fun e => Region.binds .any e).map (·.on)))

def rowsOf (ops : Array Oper) : List (Nat × Nat × Nat) := ops.toList.map (rowOf ops)

/-- The operations of a mask. -/
def lm (n m : Nat) : Array Bool := ((List.range n).map fun i => m.testBit i).toArray

theorem lm_getD (n m i : Nat) (d : Bool) : (lm n m).getD i d = if i < n then m.testBit i else d := by
  by_cases h : i < n <;> simp [lm, h]

theorem lm_set (n m i : Nat) : (lm n m).setIfInBounds i true = lm n (m ||| 2 ^ i) := by
  apply Array.ext
  · simp [lm]
  · intro j h1 h2
    simp only [lm, Array.size_setIfInBounds, List.size_toArray, List.length_map, List.length_range] at h1
    rw [Array.getElem_setIfInBounds (by simpa [lm] using h1)]
    by_cases hij : i = j
    · subst hij; simp [lm, Nat.testBit_or]
    · simp [lm, hij, Nat.testBit_or]

theorem lm_zero (n : Nat) : lm n 0 = Array.replicate n false := by
  apply Array.ext
  · simp [lm]
  · intro i h1 h2; simp [lm]

def canT (T : List (Nat × Nat × Nat)) (m i : Nat) : Bool :=
  match T[i]? with
  | none => false
  | some (d, r, a) => (d != 0) && !m.testBit i && (a &&& m == a) && Nat.blt a (2 ^ T.length) && rest d r 0 T
where
  rest (d r : Nat) : Nat → List (Nat × Nat × Nat) → Bool
    | _, [] => true
    | j, (d', r', a') :: l => (Nat.beq j i || m.testBit j || a'.testBit i || (!r'.testBit (d - 1) && !Nat.beq d' d && (Nat.beq d' 0 || !r.testBit (d' - 1)))) && rest d r (j + 1) l

theorem canT_rest {T : List (Nat × Nat × Nat)} {m i d r : Nat} : ∀ (l : List (Nat × Nat × Nat)) (j : Nat), canT.rest m i d r j l = true → ∀ (k : Nat) (d' r' a' : Nat), l[k]? = some (d', r', a') →
    (j + k = i ∨ m.testBit (j + k) = true ∨ a'.testBit i = true ∨ (r'.testBit (d - 1) = false ∧ d' ≠ d ∧ (d' = 0 ∨ r.testBit (d' - 1) = false))) := by
  intro l
  induction l with
  | nil => intro j _ k d' r' a' h; simp at h
  | cons x l ih =>
    intro j h k d' r' a' hk
    obtain ⟨d1, r1, a1⟩ := x
    simp only [canT.rest, Bool.and_eq_true, Bool.or_eq_true, Bool.not_eq_true'] at h
    cases k with
    | zero =>
      simp only [List.getElem?_cons_zero, Option.some.injEq, Prod.mk.injEq] at hk
      obtain ⟨rfl, rfl, rfl⟩ := hk
      rcases h.1 with ((h1 | h1) | h1) | ⟨⟨h1, h2⟩, h3⟩
      · exact .inl (by rw [Nat.add_zero]; exact Nat.eq_of_beq_eq_true h1)
      · exact .inr (.inl (by rw [Nat.add_zero]; exact h1))
      · exact .inr (.inr (.inl h1))
      · refine .inr (.inr (.inr ⟨h1, ?_, h3.imp Nat.eq_of_beq_eq_true id⟩))
        intro e; subst e; simp at h2
    | succ k =>
      have := ih (j + 1) h.2 k d' r' a' (by simpa using hk)
      rw [show j + (k + 1) = j + 1 + k by omega]
      exact this

theorem canTake_of_T {ops : Array Oper} {T : List (Nat × Nat × Nat)} {n m i : Nat} (hT : rowsOf ops = T) (hn : ops.size = n) (hdef : noDef ops = true) (hs : Region.noSelect ops = true) (h : canT T m i = true) : canTake ops (lm n m) i = true := by
  subst hT
  unfold canT at h
  have hrow : ∀ k : Nat, (rowsOf ops)[k]? = (ops[k]?).map (rowOf ops) := by intro k; simp [rowsOf]
  rw [hrow] at h
  cases ho : ops[i]? with
  | none => simp [ho] at h
  | some o =>
    have hi : i < n := by rw [← hn]; exact (Array.getElem?_eq_some_iff.1 ho).1
    simp only [ho, Option.map_some] at h
    unfold rowOf at h
    simp only [Bool.and_eq_true, bne_iff_ne, ne_eq, Bool.not_eq_true', beq_iff_eq] at h
    obtain ⟨⟨⟨⟨h1, h2⟩, h3⟩, h8⟩, h4⟩ := h
    have h4' := canT_rest (T := rowsOf ops) _ 0 h4
    cases hd : o.dst with
    | none => simp [hd] at h1
    | some d =>
      simp only [hd, Nat.add_sub_cancel] at h4'
      unfold canTake
      simp only [Bool.and_eq_true, ho, hd]
      refine ⟨⟨⟨⟨hdef, hs⟩, ?_⟩, ?_⟩, rfl⟩
      · -- free
        unfold Region.free
        simp only [ho, List.all_eq_true, List.mem_range]
        intro j hj
        cases hoj : ops[j]? with
        | none => simp
        | some oj =>
          have hj' : j < n := by rw [← hn]; exact hj
          have h5 := h4' j _ _ _ (by rw [hrow, hoj]; rfl)
          rw [Nat.zero_add] at h5
          simp only [Bool.or_eq_true, beq_iff_eq, lm_getD, hj', if_true]
          rcases h5 with h5 | h5 | h5 | ⟨h5, h6, h7⟩
          · exact .inl (.inl h5)
          · exact .inl (.inr h5)
          · refine .inr (.inl ?_)
            rw [maskL_bit] at h5
            simp only [List.mem_map, List.mem_filter, decide_eq_true_eq] at h5
            obtain ⟨e, ⟨he, hb⟩, heq⟩ := h5
            rw [Array.any_eq_true']
            exact ⟨e, by simpa using he, by simp [hb, heq]⟩
          · refine .inr (.inr ?_)
            unfold Oper.apart
            rw [maskL_bit] at h5
            simp only [decide_eq_false_iff_not] at h5
            simp only [hd, Bool.and_eq_true, Bool.not_eq_true', bne_iff_ne, ne_eq]
            refine ⟨⟨by simpa using h5, ?_⟩, ?_⟩
            · intro e; rw [e] at h6; exact h6 rfl
            · cases hdj : oj.dst with
              | none => rfl
              | some dj =>
                simp only [hdj] at h7
                rcases h7 with h7 | h7
                · cases h7
                · rw [Nat.add_sub_cancel, maskL_bit] at h7
                  simpa using h7
      · rw [List.contains_iff_mem, mem_ready]
        refine ⟨by rw [lm_getD, if_pos hi]; exact h2, o, ho, fun e he hb => ?_⟩
        have hbit : (maskL ((o.after.toList.filter fun e => Region.binds .any e).map (·.on))).testBit e.on = true := by
          rw [maskL_bit]
          simp only [List.mem_map, List.mem_filter, decide_eq_true_eq]
          exact ⟨e, ⟨by simpa using he, hb⟩, rfl⟩
        have hm : m.testBit e.on = true := by
          rw [← h3] at hbit
          rw [Nat.testBit_and] at hbit
          simp only [Bool.and_eq_true] at hbit
          exact hbit.2
        rw [lm_getD]
        split
        · exact hm
        · rename_i hge
          have hlen : (rowsOf ops).length = n := by simp [rowsOf, hn]
          rw [Nat.blt_eq, hlen] at h8
          rw [Nat.testBit_lt_two_pow (Nat.lt_of_lt_of_le h8 (Nat.pow_le_pow_right (by decide) (by omega)))] at hbit
          cases hbit

structure RT (ops : Array Oper) (T : List (Nat × Nat × Nat)) (N : Nat) : Prop where
  rows : rowsOf ops = T
  size : ops.size = N
  nosel : Region.noSelect ops = true
  nodef : noDef ops = true
def rtB (ops : Array Oper) (T : List (Nat × Nat × Nat)) (N : Nat) : Bool := (rowsOf ops == T) && Nat.beq ops.size N && Region.noSelect ops && noDef ops
theorem rt_of {ops : Array Oper} {T : List (Nat × Nat × Nat)} {N : Nat} (h : rtB ops T N = true) : RT ops T N := by
  simp only [rtB, Bool.and_eq_true, beq_iff_eq] at h
  exact ⟨h.1.1.1, Nat.eq_of_beq_eq_true h.1.1.2, h.1.2, h.2⟩

def anyM {ro : Option Nat} {ds : List Deferred} (P : Program) (ops : Array Oper) (Q : Exit → Act → World → Prop) (C : World → Prop) (n N fuel m : Nat) (σ : List (Nat × Value)) (w : World) : Prop :=
  anyF (ro := ro) (ds := ds) P ops Q C n fuel (lm N m) σ w

/-- Operation i, run by the kernel. -/
def runI (P : Program) (ops : Array Oper) (n : Nat) (i : Nat) (σ : List (Nat × Value)) (w : World) : Option (List (Nat × Value) × World) :=
  match ops[i]? with
  | none => none
  | some o => match wnt ops n σ o with
    | true => match (execOp (ev n σ) o).run P w with
      | .ok (.value v) w' => some (putσ [] o.dst v, w')
      | _ => none
    | false => some (putσ [] o.dst undef, w)

/-- Operations that the kernel can run with nothing asked, each with what it writes, taken one behind the other. -/
def runM (P : Program) (ops : Array Oper) (n : Nat) (T : List (Nat × Nat × Nat)) : List (Nat × Nat × Value) → Nat → List (Nat × Value) → World → List (Bool × Option (List (Nat × Value) × World))
  | [], _, _, _ => []
  | (i, p) :: is, m, σ, w => (canT T m i, runI P ops n i σ w) :: runM P ops n T is (m ||| 2 ^ i) (p :: σ) w
def ranM : List (Nat × Nat × Value) → World → List (Bool × Option (List (Nat × Value) × World))
  | [], _ => []
  | (_, p) :: is, w => (true, some ([p], w)) :: ranM is w
def pushM : List (Nat × Nat × Value) → List (Nat × Value) → List (Nat × Value)
  | [], σ => σ
  | (_, p) :: is, σ => pushM is (p :: σ)
def maskM : List (Nat × Nat × Value) → Nat → Nat
  | [], m => m
  | (i, _) :: is, m => maskM is (m ||| 2 ^ i)

section
variable {ro : Option Nat} {ds : List Deferred} {P : Program} {ops : Array Oper} {Q : Exit → Act → World → Prop} {C : World → Prop} {n N fuel m : Nat} {σ : List (Nat × Value)} {w : World} {T : List (Nat × Nat × Nat)}

theorem wpC_drawM {id : Nat} (C : World → Prop) (N : Nat) (T : List (Nat × Nat × Nat))
    (h : RT ops T N → anyM (ro := ro) (ds := ds) P ops Q C n N N 0 σ w.drew) (hm : P.follows .mixedOrders = true := by kernel_rfl) (hT : rtB ops T N = true := by kernel_rfl) : wpC (ro := ro) (ds := ds) P (.region id ops true) Q n σ w :=
  wpC_draw C N hm (rt_of hT).size (by rw [← lm_zero]; exact h (rt_of hT))

theorem anyM_class {C' : World → Prop} (hC : ∀ w', C' w' → C w') (h : anyM (ro := ro) (ds := ds) P ops Q C' n N fuel m σ w) : anyM (ro := ro) (ds := ds) P ops Q C n N fuel m σ w := any_class hC h

theorem anyM_take [hq : NoPan Q] (hT : RT ops T N) (i m' : Nat) (d : Option Tmp) (v : Value) (hy : yld P ops C n σ i d v)
    (h : anyM (ro := ro) (ds := ds) P ops Q C n N fuel m' (putσ σ d v) w) (hw : C w := by exact Ext.refl _) (hc : canT T m i = true := by kernel_rfl) (hm : m ||| 2 ^ i = m' := by kernel_rfl) : anyM (ro := ro) (ds := ds) P ops Q C n N (fuel + 1) m σ w := by
  refine any_take i d v (canTake_of_T hT.rows hT.size hT.nodef hT.nosel hc) hw hy ?_
  rw [lm_set, hm]; exact h

theorem anyM_run1 [hq : NoPan Q] (hT : RT ops T N) (i m' : Nat) (p : Nat × Value) (hc : canT T m i = true) (hm : m ||| 2 ^ i = m') (hw : C w) (hr : ∀ w', runI P ops n i σ w' = some ([p], w'))
    (h : anyM (ro := ro) (ds := ds) P ops Q C n N fuel m' (p :: σ) w) : anyM (ro := ro) (ds := ds) P ops Q C n N (fuel + 1) m σ w := by
  have hc' := canTake_of_T hT.rows hT.size hT.nodef hT.nosel hc
  have h1 := hr w
  unfold runI at h1
  cases ho : ops[i]? with
  | none => simp [ho] at h1
  | some o =>
    simp only [ho] at h1
    cases hd : o.dst with
    | none => simp [canTake, ho, hd] at hc'
    | some x =>
      cases hwn : wnt ops n σ o with
      | false =>
        simp only [hwn, hd, putσ, Option.some.injEq, Prod.mk.injEq, List.cons.injEq, and_true] at h1
        subst h1
        refine any_take i (some x) undef hc' hw ⟨o, ho, hd, .inr ⟨hwn, rfl⟩⟩ ?_
        rw [lm_set, hm]; exact h
      | true =>
        simp only [hwn] at h1
        cases hx : (execOp (ev n σ) o).run P w with
        | halt _ _ => simp [hx] at h1
        | ok nx w2 =>
          cases nx with
          | value v =>
            simp only [hx, hd, putσ, Option.some.injEq, Prod.mk.injEq, List.cons.injEq, and_true] at h1
            obtain ⟨rfl, _⟩ := h1
            refine any_take i (some x) v hc' hw ⟨o, ho, hd, .inl ⟨hwn, fun w' _ => ?_⟩⟩ (by rw [lm_set, hm]; exact h)
            have h3 := hr w'
            simp only [runI, ho, hwn] at h3
            cases hx' : (execOp (ev n σ) o).run P w' with
            | halt _ _ => simp [hx'] at h3
            | ok nx' w4 =>
              cases nx' with
              | value v' =>
                simp only [hx', hd, putσ, Option.some.injEq, Prod.mk.injEq, List.cons.injEq, true_and, and_true] at h3
                exact ⟨h3.2, h3.1⟩
              | _ => simp [hx'] at h3
          | _ => simp [hx] at h1

theorem anyM_run [hq : NoPan Q] (hT : RT ops T N) (is : List (Nat × Nat × Value)) (k m' : Nat) 
    (h : anyM (ro := ro) (ds := ds) P ops Q C n N fuel m' (pushM is σ) w) (hw : C w := by exact Ext.refl _) (hr : ∀ w', runM P ops n T is m σ w' = ranM is w' := by intro _; kernel_rfl) (hk : is.length = k := by kernel_rfl) (hm : maskM is m = m' := by kernel_rfl) : anyM (ro := ro) (ds := ds) P ops Q C n N (fuel + k) m σ w := by
  induction is generalizing k m σ with
  | nil => subst hk; subst hm; exact h
  | cons p is ih =>
    obtain ⟨i, p⟩ := p
    subst hk
    have h0 := hr w
    simp only [runM, ranM, List.cons.injEq, Prod.mk.injEq] at h0
    refine anyM_run1 hT i (m ||| 2 ^ i) p h0.1.1 rfl hw (fun w' => ?_) (ih (m := m ||| 2 ^ i) (σ := p :: σ) is.length h (fun w' => ?_) rfl hm)
    · have := hr w'
      simp only [runM, ranM, List.cons.injEq, Prod.mk.injEq] at this
      exact this.1.2
    · have := hr w'
      simp only [runM, ranM, List.cons.injEq, Prod.mk.injEq] at this
      exact this.2

theorem anyM_one (i m' : Nat) (h : opWp P ops n i σ w (fun τ w' => (lastB .any ops i = true ∨ C w') ∧ anyM (ro := ro) (ds := ds) P ops Q C n N fuel m' τ w')) (hm : m ||| 2 ^ i = m' := by kernel_rfl) (hr : Region.ready .any ops (lm N m) = [i] := by kernel_rfl) : anyM (ro := ro) (ds := ds) P ops Q C n N (fuel + 1) m σ w :=
  any_one i hr (by rw [lm_set, hm]; exact h)
theorem anyM_two (i j m1 m2 : Nat) (h1 : opWp P ops n i σ w (fun τ w' => (lastB .any ops i = true ∨ C w') ∧ anyM (ro := ro) (ds := ds) P ops Q C n N fuel m1 τ w'))
    (h2 : opWp P ops n j σ w (fun τ w' => (lastB .any ops j = true ∨ C w') ∧ anyM (ro := ro) (ds := ds) P ops Q C n N fuel m2 τ w')) (hm1 : m ||| 2 ^ i = m1 := by kernel_rfl) (hm2 : m ||| 2 ^ j = m2 := by kernel_rfl) (hr : Region.ready .any ops (lm N m) = [i, j] := by kernel_rfl) : anyM (ro := ro) (ds := ds) P ops Q C n N (fuel + 1) m σ w :=
  any_two i j hr (by rw [lm_set, hm1]; exact h1) (by rw [lm_set, hm2]; exact h2)
theorem anyM_three (i j l m1 m2 m3 : Nat) (h1 : opWp P ops n i σ w (fun τ w' => (lastB .any ops i = true ∨ C w') ∧ anyM (ro := ro) (ds := ds) P ops Q C n N fuel m1 τ w'))
    (h2 : opWp P ops n j σ w (fun τ w' => (lastB .any ops j = true ∨ C w') ∧ anyM (ro := ro) (ds := ds) P ops Q C n N fuel m2 τ w')) (h3 : opWp P ops n l σ w (fun τ w' => (lastB .any ops l = true ∨ C w') ∧ anyM (ro := ro) (ds := ds) P ops Q C n N fuel m3 τ w')) (hm1 : m ||| 2 ^ i = m1 := by kernel_rfl) (hm2 : m ||| 2 ^ j = m2 := by kernel_rfl) (hm3 : m ||| 2 ^ l = m3 := by kernel_rfl) (hr : Region.ready .any ops (lm N m) = [i, j, l] := by kernel_rfl) : anyM (ro := ro) (ds := ds) P ops Q C n N (fuel + 1) m σ w :=
  any_three i j l hr (by rw [lm_set, hm1]; exact h1) (by rw [lm_set, hm2]; exact h2) (by rw [lm_set, hm3]; exact h3)
theorem anyM_done (h : Q .normal (Fr ds n σ) w) (hr : Region.ready .any ops (lm N m) = [] := by kernel_rfl) : anyM (ro := ro) (ds := ds) P ops Q C n N fuel m σ w := any_done hr h
end
end Go.Cs
