/- A range over a function: the rule for the caller's loop and the rule for the iterator's calls of yield; an iterator may keep state of its own in cells. For any program; no condition. -/
import Derived.Test.YthjplefmfjkhfaaDoorCsE
import Derived.RangeFuncNested
import Derived.RangeFuncLeaves
set_option linter.all false
set_option linter.unusedVariables false
namespace Go.Cs
open Go Go.RowKit

/-- Only the loop's book-keeping turned: below B nothing, of the rest no row of cells. -/
structure Book (B : Nat) (w w' : World) : Prop where
  os : w'.os = w.os
  tape : w'.tape = w.tape
  output : w'.output = w.output
  size : w.heap.size ≤ w'.heap.size
  low : ∀ k, k < B → k < w.heap.size → w'.heap[k]? = w.heap[k]?
  cells : ∀ (k : Nat) (o : Obj), w.heap[k]? = some o → o.isCells = true → w'.heap[k]? = some o

theorem Book.refl (B : Nat) (w : World) : Book B w w := ⟨rfl, rfl, rfl, Nat.le_refl _, fun _ _ _ => rfl, fun _ _ h _ => h⟩
theorem Book.trans {B : Nat} {a b c : World} (h : Book B a b) (g : Book B b c) : Book B a c :=
  ⟨g.os.trans h.os, g.tape.trans h.tape, g.output.trans h.output, Nat.le_trans h.size g.size, fun k hk h1 => (g.low k hk (Nat.lt_of_lt_of_le h1 h.size)).trans (h.low k hk h1), fun k o h1 h2 => g.cells k o (h.cells k o h1 h2) h2⟩
theorem Book.alloc {B : Nat} (w : World) (o : Obj) : Book B w (w.alloc o) :=
  ⟨rfl, rfl, rfl, by simp, fun k _ hk => Below.heap_alloc _ _ _ hk, fun k o' h _ => (Below.heap_alloc _ _ _ (Array.getElem?_eq_some_iff.1 h).1).trans h⟩
theorem Book.putObj {B l : Nat} {w : World} {o : Obj} (o' : Obj) (hB : B ≤ l) (hl : w.heap[l]? = some o) (ho : o.isCells = false) : Book B w (w.putObj l o') :=
  ⟨rfl, rfl, rfl, by simp [World.putObj], fun k hk _ => World.putObj_heap_other (by omega), fun k o2 h h2 => by
    have : k ≠ l := by rintro rfl; rw [hl] at h; cases h; rw [ho] at h2; cases h2
    exact (World.putObj_heap_other this).trans h⟩

theorem Blk.book {B : Nat} {w w' : World} {b : Nat} {cs : List Value} {e : TypeId} (h : Blk w b cs e) (g : Book B w w') : Blk w' b cs e := g.cells _ _ h rfl
theorem Book.cell {B : Nat} {w w' : World} (g : Book B w w') {a : Addr} {v : Value} (h : w.cell? a = some v) : w'.cell? a = some v := by
  obtain ⟨o, h1, h2⟩ := cells_of_cell h
  exact (World.cell?_of_block ((g.cells _ _ h1 h2).trans h1.symm)).trans h
theorem SlA.book {B lo hi : Nat} {w w' : World} {a : Option Addr} {len cap : Nat} {vs : List Value} (h : SlA lo hi w a len cap vs) (g : Book B w w') : SlA lo hi w' a len cap vs := by
  cases a with
  | none => exact h
  | some ad =>
    obtain ⟨g1, g2, g3⟩ := h
    exact ⟨g1, g2, g3.imp id fun ⟨g4, g5, g6, g7, g8⟩ => ⟨g4, g5, g6, Nat.lt_of_lt_of_le g7 g.size, fun i v hv => g.cell (g8 i v hv)⟩⟩
theorem Es.book {α : Type} {f : α → Value} {B lo hi : Nat} {w w' : World} {a : Option Addr} {len cap : Nat} {l : List α} (h : Es f lo hi w a len cap l) (g : Book B w w') : Es f lo hi w' a len cap l := ⟨h.sla.book g, h.len_eq⟩
theorem Bs.book {B lo hi : Nat} {w w' : World} {a : Option Addr} {len cap : Nat} {l : List UInt8} (h : Bs lo hi w a len cap l) (g : Book B w w') : Bs lo hi w' a len cap l := ⟨h.sla.book g, h.len_eq⟩
theorem Ms.book {α : Type} {f : α → List Value} {sz : Nat} {B lo hi : Nat} {w w' : World} {a : Option Addr} {len cap : Nat} {l : List α} (h : Ms f sz lo hi w a len cap l) (g : Book B w w') : Ms f sz lo hi w' a len cap l := ⟨h.sla.book g, h.len_eq, h.each⟩
theorem Own.book {α : Type} {f : α → Value} {B lo hi : Nat} {w w' : World} {a : Option Addr} {len cap : Nat} {e : TypeId} {l : List α} (h : Own f lo hi w a len cap e l) (g : Book B w w') : Own f lo hi w' a len cap e l := by
  refine ⟨⟨h.row.1, ?_⟩, h.len_eq, h.below⟩
  rcases h.row.2 with h1 | ⟨b, c, cur, h1, h2, h3, h4⟩
  · exact .inl h1
  · exact .inr ⟨b, c, cur, h1, h2, g.cells _ _ h3 rfl, h4⟩
theorem Chg.book {S : Nat → Prop} {B : Nat} {u w w' : World} (h : Chg S u w) (g : Book B w w') (hB : u.heap.size ≤ B) : Chg S u w' :=
  ⟨g.os.trans h.os, g.tape.trans h.tape, g.output.trans h.output, Nat.le_trans h.size g.size, fun k hk hs => (g.low k (by omega) (Nat.lt_of_lt_of_le hk h.size)).trans (h.block k hk hs)⟩
/-- Book-keeping changes only what lies at or above B. -/
theorem Book.chg {B : Nat} {w w' : World} (g : Book B w w') : Chg (fun b => B ≤ b) w w' := ⟨g.os, g.tape, g.output, g.size, fun k hk hs => g.low k (by omega) hk⟩

/-- What is no row of cells lies as it lay. -/
structure Kpt (w w' : World) : Prop where
  size : w.heap.size ≤ w'.heap.size
  same : ∀ (k : Nat) (o : Obj), w.heap[k]? = some o → o.isCells = false → w'.heap[k]? = some o
theorem Kpt.refl (w : World) : Kpt w w := ⟨Nat.le_refl _, fun _ _ h _ => h⟩
theorem Kpt.trans {a b c : World} (h : Kpt a b) (g : Kpt b c) : Kpt a c := ⟨Nat.le_trans h.size g.size, fun k o h1 h2 => g.same k o (h.same k o h1 h2) h2⟩
theorem Kpt.ext {a b c : World} (h : Kpt a b) (g : Ext b c) : Kpt a c := h.trans ⟨g.size, fun k o h1 _ => (g.block k (Array.getElem?_eq_some_iff.1 h1).1 (fun hf => hf)).trans h1⟩
theorem Kpt.blk {a b c : World} {k : Nat} {cs : List Value} {e : TypeId} (h : Kpt a b) (hB : Blk b k cs e) (g : Chg (· = k) b c) : Kpt a c := h.trans ⟨g.size, fun j o h1 h2 => by
  have : j ≠ k := by
    rintro rfl
    have h3 : b.heap[j]? = _ := hB
    rw [h3] at h1; cases h1; cases h2
  exact (g.block j (Array.getElem?_eq_some_iff.1 h1).1 this).trans h1⟩
theorem Kpt.own {α : Type} {f : α → Value} {lo hi len cap : Nat} {e : TypeId} {l : List α} {a b c : World} {ad : Option Addr} (h : Kpt a b) (hO : Own f lo hi b ad len cap e l) (g : Chg (blkOf ad) b c) : Kpt a c := h.trans ⟨g.size, fun j o h1 h2 => by
  refine (g.block j (Array.getElem?_eq_some_iff.1 h1).1 ?_).trans h1
  rintro ⟨ad', rfl, rfl⟩
  rcases hO.blk with ⟨h3, _⟩ | ⟨b', cs, h3, hB, _⟩
  · cases h3
  · cases h3
    have h4 : b.heap[b']? = _ := hB
    rw [h4] at h1; cases h1; cases h2⟩

/-- A call of yield. -/
def Yat (P : Program) (l : Nat) (args : List Value) (w : World) (R : Value → World → Prop) : Prop :=
  ∃ fn tmps assign body, (Instr.yield l args.toArray).run P w = .ok (.round l fn tmps assign body) w ∧ Rnd P l fn tmps assign body w (Ret R)

/-- How the body of a round may be left. -/
def RPost (B : Nat) (U : Nat → Prop) (I : Nat → World → Prop) (Ix : Code → Nat → World → Prop) (k : Nat) (w : World) : Exit → Act → World → Prop
  | .normal, _, w' => Kpt w w' ∧ Chg (fun b => B ≤ b ∨ U b) w w' ∧ I (k + 1) w'
  | .ret, _, w' => Kpt w w' ∧ Chg (fun b => B ≤ b ∨ U b) w w' ∧ Ix .ret k w'
  | .exit id, _, w' => Kpt w w' ∧ Chg (fun b => B ≤ b ∨ U b) w w' ∧ Ix (.exit id) k w'
  | .goto t, _, w' => Kpt w w' ∧ Chg (fun b => B ≤ b ∨ U b) w w' ∧ Ix (.goto t) k w'
  | .panic _, _, _ => False
  | .outgrown, _, _ => False
instance {B : Nat} {U : Nat → Prop} {I : Nat → World → Prop} {Ix : Code → Nat → World → Prop} {k : Nat} {w : World} : NoPan (RPost B U I Ix k w) := ⟨fun _ _ _ h => h⟩

/-- Between the assignment to a loop's left sides and its body. -/
def Mid (P : Program) (l B : Nat) (U : Nat → Prop) (I : Nat → World → Prop) (Ix : Code → Nat → World → Prop) (k : Nat) (body : Code) (w : World) : Exit → Act → World → Prop :=
  Exit.then (fun a w1 => Kpt w w1 ∧ Chg (fun b => B ≤ b ∨ U b) w w1 ∧ ∀ w2, Book B w1 w2 → wpR (some l) P body (RPost B U I Ix k w2) a w2) (fun _ _ _ => False)
instance {P : Program} {l B : Nat} {U : Nat → Prop} {I : Nat → World → Prop} {Ix : Code → Nat → World → Prop} {k : Nat} {body : Code} {w : World} : NoPan (Mid P l B U I Ix k body w) := ⟨fun _ _ _ h => h⟩
theorem mid_mk {P : Program} {l B : Nat} {U : Nat → Prop} {I : Nat → World → Prop} {Ix : Code → Nat → World → Prop} {k : Nat} {body : Code} {w w1 : World} {n : Nat} {σ : List (Nat × Value)} (h1 : Kpt w w1) (h2 : Chg (fun b => B ≤ b ∨ U b) w w1)
    (h : ∀ w2, Book B w1 w2 → wpC (ro := some l) (ds := []) P body (RPost B U I Ix k w2) n σ w2) : Mid P l B U I Ix k body w .normal (Fr [] n σ) w1 := ⟨h1, h2, h⟩
theorem rpost_normal {B : Nat} {U : Nat → Prop} {I : Nat → World → Prop} {Ix : Code → Nat → World → Prop} {k : Nat} {w w' : World} {a : Act} (h1 : Kpt w w') (h2 : Chg (fun b => B ≤ b ∨ U b) w w') (h3 : I (k + 1) w') : RPost B U I Ix k w .normal a w' := ⟨h1, h2, h3⟩
theorem rpost_ret {B : Nat} {U : Nat → Prop} {I : Nat → World → Prop} {Ix : Code → Nat → World → Prop} {k : Nat} {w w' : World} {a : Act} (h1 : Kpt w w') (h2 : Chg (fun b => B ≤ b ∨ U b) w w') (h3 : Ix .ret k w') : RPost B U I Ix k w .ret a w' := ⟨h1, h2, h3⟩

def pushP : List Tmp → List Value → List (Nat × Value) → List (Nat × Value)
  | p :: ps, v :: vs, σ => pushP ps vs ((p, v) :: σ)
  | _, _, σ => σ
theorem pushP_list (n : Nat) : ∀ (ps : List Tmp) (vs : List Value) (σ : List (Nat × Value)), (ps.zip vs).foldl (fun t (x : Tmp × Value) => t.setIfInBounds x.1 x.2) (Fr [] n σ).tmps = (Fr [] n (pushP ps vs σ)).tmps := by
  intro ps
  induction ps with
  | nil => intro vs σ; rfl
  | cons p ps ih =>
    intro vs σ
    cases vs with
    | nil => rfl
    | cons v vs =>
      have h2 : (Fr [] n σ).tmps.setIfInBounds p v = (Fr [] n ((p, v) :: σ)).tmps := congrArg Act.tmps (Fr_put [] n σ (some p) v)
      rw [pushP, ← ih vs ((p, v) :: σ), ← h2]
      rfl
theorem pushP_tmps (n : Nat) (ps : List Tmp) (vs : List Value) (σ : List (Nat × Value)) : ((ps.toArray.zip vs.toArray).foldl (fun t (x : Tmp × Value) => t.setIfInBounds x.1 x.2) (Fr [] n σ).tmps) = (Fr [] n (pushP ps vs σ)).tmps := by
  have hz : ps.toArray.zip vs.toArray = (ps.zip vs).toArray := by simp
  rw [← pushP_list, hz, ← Array.foldl_toList]

/-- The loop's block for deferred calls: nothing was deferred. -/
def Mk (w : World) (D : Nat) : Prop := w.heap[D]? = some (.deferred (some []))
theorem Mk.lt {w : World} {D : Nat} (h : Mk w D) : D < w.heap.size := (Array.getElem?_eq_some_iff.1 h).1
theorem Mk.chg {S : Nat → Prop} {w w' : World} {D : Nat} (h : Mk w D) (hc : Chg S w w') (hs : ¬ S D) : Mk w' D := (hc.block D h.lt hs).trans h
theorem Mk.ext {w w' : World} {D : Nat} (h : Mk w D) (hc : Ext w w') : Mk w' D := h.chg hc (fun hf => hf)
theorem Yat.mono {P : Program} {l : Nat} {args : List Value} {w : World} {R R' : Value → World → Prop} (h : Yat P l args w R) (hr : ∀ v w', R v w' → R' v w') : Yat P l args w R' := by
  obtain ⟨fn, tmps, assign, body, h1, h2⟩ := h
  exact ⟨fn, tmps, assign, body, h1, RoundIn.mono h2 fun e w' ⟨v, he, hv⟩ => ⟨v, he, hr v w' hv⟩⟩

/-- It is called by being entered. -/
def entersB (P : Program) (f : FuncId) : Bool := match P.funcs[f]? with
  | some fn => !(fn.name == "runtime.NumGoroutine") && fn.body.isSome
  | none => false
theorem enters_ofB {P : Program} {f : FuncId} (h : entersB P f = true) (args : Array Value) (w : World) : (callFunc f args).run P w = .ok (.enter f args) w := by
  unfold entersB at h
  cases hf : P.funcs[f]? with
  | none => simp [hf] at h
  | some fn =>
    simp only [hf, Bool.and_eq_true, Bool.not_eq_true'] at h
    have h1 : fn.name ≠ "runtime.NumGoroutine" := by simpa using h.1
    obtain ⟨c, hb⟩ := Option.isSome_iff_exists.1 h.2
    simp [callFunc, hf, h1, hb]

abbrev mark (D : Nat) : List Deferred := [{ target := .collected D, args := #[] }]

/-- The caller's rule. I k: what holds when k rounds are over; Ix c k: what holds where round k is left by the jump c; U: the blocks below the loop's that a body may change; T: the iterator's own blocks. -/
theorem wpC_range {P : Program} {Q : Exit → Act → World → Prop} {n : Nat} {σ : List (Nat × Value)} {w : World} {g : Operand} {psA : Array Tmp} {assign body : Code} (ps : List Tmp) (gf : Nat) (lb : List Value) (m : Nat) (vals : Nat → List Value) (U T : Nat → Prop)
    (I : Nat → World → Prop) (Ix : Code → Nat → World → Prop) 
    (hT : ∀ b, T b → b < w.heap.size) (hv : ∀ k, (vals k).length = ps.length)
    (hI : ∀ k W W', I k W → Book w.heap.size W W' → I k W') (hIx : ∀ c k W W', Ix c k W → Book w.heap.size W W' → Ix c k W') (hIT : ∀ k W W', I k W → Chg T W W' → I k W') (h0 : I 0 w)
    (hiter : ∀ (l : Nat) (J Jx : Nat → World → Prop) (w1 : World), Ext w w1 → (∀ k W W', J k W → Chg T W W' → J k W') →
      (∀ k W, k < m → J k W → Yat P l (vals k) W (fun v W' => (v = .bool true ∧ J (k + 1) W' ∧ Chg (fun b => w.heap.size ≤ b ∨ U b) W W') ∨ (v = .bool false ∧ Chg (fun b => w.heap.size ≤ b ∨ U b) W W' ∧ Jx k W'))) → J 0 w1 →
      Calls P gf (.func (.yield l) #[] #[] :: lb).toArray w1 (Ret fun _ w' => J m w' ∨ ∃ k, k < m ∧ Jx k w'))
    (hround : ∀ (l k : Nat) (W : World), w.heap.size ≤ l → I k W → k < m → wpC (ro := some l) (ds := []) P assign (Mid P l w.heap.size U I Ix k body W) n (pushP ps (vals k) σ) W)
    (hdone : ∀ (D : Nat) (W : World), w.heap.size ≤ D → I m W → Mk W D → Q .normal (Fr (mark D) n σ) W)
    (hstop : ∀ (D : Nat) (c : Code) (k : Nat) (W : World), w.heap.size ≤ D → k < m → Ix c k W → Mk W D → wpC (ro := none) (ds := mark D) P c Q n σ W)
    (hps : psA = ps.toArray := by rfl) (hg : ev n σ g = .func (.func gf) #[] lb.toArray := by kernel_rfl) (heg : ∀ args w, (callFunc gf args).run P w = .ok (.enter gf args) w := by exact enters_ofB (by kernel_rfl)) :
    wpC (ro := none) (ds := []) P (.rangeFunc g psA assign body) Q n σ w := by
  subst hps
  unfold wpC
  refine wpIn_rangeFunc ?_
  intro fn _
  obtain ⟨rec, hrec⟩ : ∃ rec : LoopState → Option Code → Loop, rec = fun st pe => { state := st, pending := pe, fn, tmps := (Fr [] n σ).tmps, params := ps.toArray, assign, body, defers := w.heap.size } := ⟨_, rfl⟩
  obtain ⟨W1, hW1⟩ : ∃ W1, (w.alloc (.deferred (some []))).alloc (.loop (rec .ready none)) = W1 := ⟨_, rfl⟩
  have hL1 : W1.heap[w.heap.size + 1]? = some (.loop (rec .ready none)) := by
    rw [← hW1]; have := World.alloc_heap_new (w.alloc (.deferred (some []))) (.loop (rec .ready none)); rwa [World.size_alloc] at this
  have hK1 : W1.heap[w.heap.size]? = some (.deferred (some [])) := by
    rw [← hW1]; exact (Below.heap_alloc _ _ _ (by simp)).trans (World.alloc_heap_new w _)
  have hbk : Book w.heap.size w W1 := by rw [← hW1]; exact (Book.alloc _ _).trans (Book.alloc _ _)
  have hE1 : Ext w W1 := by rw [← hW1]; exact (Ext.alloc _ _).trans (Ext.alloc _ _)
  have hI1 : I 0 W1 := hI _ _ _ h0 hbk
  refine ⟨w.heap.size + 1, mark w.heap.size, W1, { target := .fn (.func gf) lb.toArray, args := #[.func (.yield (w.heap.size + 1)) #[] #[]] }, W1, gf,
    (.func (.yield (w.heap.size + 1)) #[] #[] :: lb).toArray, W1, ?_, ?_, fun _ _ => trivial, ?_, fun h => (by cases h), ?_⟩
  · rw [← hW1, hrec]; exact run_enterLoop_outer _ _ _ _ _
  · simp only [resolve, Fr_eval, hg]
    simp [go_sem, ev]
  · have := heg (#[.func (.yield (w.heap.size + 1)) #[] #[]] ++ lb.toArray) W1
    simp [invoke, go_sem] at this ⊢
    exact this
  · have hit := hiter (w.heap.size + 1)
      (fun k W => I k W ∧ W.heap[w.heap.size + 1]? = some (.loop (rec .ready none)) ∧ W.heap[w.heap.size]? = some (.deferred (some [])))
      (fun k W => ∃ c, Ix c k W ∧ W.heap[w.heap.size + 1]? = some (.loop (rec .done (some c))) ∧ W.heap[w.heap.size]? = some (.deferred (some [])))
      W1 hE1 (fun k W W' ⟨h1, h2, h3⟩ hc => ⟨hIT _ _ _ h1 hc, (hc.block _ (Array.getElem?_eq_some_iff.1 h2).1 (fun ht => by have := hT _ ht; omega)).trans h2, (hc.block _ (Array.getElem?_eq_some_iff.1 h3).1 (fun ht => by have := hT _ ht; omega)).trans h3⟩)
      ?_ ⟨hI1, hL1, hK1⟩
    · refine CallsIn.mono (show CallsIn (fen none) (0 - 1) P gf _ W1 _ from callsIn_wide (n := 0 - 1).2 hit) ?_
      rintro e W2 ⟨v, rfl, ⟨hi, hl, hk⟩ | ⟨k, hk0, c, hi, hl, hk⟩⟩
      · exact ⟨none, _, by have := run_endLoop (P := P) hl (by rw [hrec]; simp); rw [hrec] at this; exact this, hdone _ _ (Nat.le_refl _) (hI _ _ _ hi (Book.putObj _ (by omega) hl rfl)) ((World.putObj_heap_other (by omega)).trans hk)⟩
      · exact ⟨some c, _, by have := run_endLoop (P := P) hl (by rw [hrec]; simp); rw [hrec] at this; exact this, hstop _ c k _ (Nat.le_refl _) hk0 (hIx _ _ _ _ hi (Book.putObj _ (by omega) hl rfl)) ((World.putObj_heap_other (by omega)).trans hk)⟩
    · rintro k W hkm ⟨hi, hl, hk⟩
      have hlt : w.heap.size + 1 < W.heap.size := (Array.getElem?_eq_some_iff.1 hl).1
      have hy := run_yield (P := P) (args := (vals k).toArray) hl (by rw [hrec]; simp [hv])
      rw [hrec] at hy
      refine ⟨fn, _, assign, body, hy, ?_⟩
      have hr := hround (w.heap.size + 1) k W (by omega) hi hkm
      refine roundIn_of_wpIn (F := Fence.wide) trivial ?_
      have ht : ((ps.toArray.zip (vals k).toArray).foldl (fun t (x : Tmp × Value) => t.setIfInBounds x.1 x.2) (Fr [] n σ).tmps) = (Fr [] n (pushP ps (vals k) σ)).tmps := pushP_tmps n ps (vals k) σ
      have hfr : ({ tmps := ((ps.toArray.zip (vals k).toArray).foldl (fun t (x : Tmp × Value) => t.setIfInBounds x.1 x.2) (Fr [] n σ).tmps), defers := [] } : Act) = Fr [] n (pushP ps (vals k) σ) := by rw [ht]; rfl
      have hr' : assign.wpIn (Fence.wide.inRound (w.heap.size + 1)) 0 P (Mid P (w.heap.size + 1) w.heap.size U I Ix k body W) (Fr [] n (pushP ps (vals k) σ)) W := hr
      rw [← hfr] at hr'
      refine wpIn_mono hr' ?_
      intro e a Wa hm
      cases e with
      | normal =>
        obtain ⟨hkp, hch, hbody⟩ := hm
        have hla := hkp.same _ _ hl rfl
        have hka := hkp.same _ _ hk rfl
        have hlta : w.heap.size + 1 < Wa.heap.size := (Array.getElem?_eq_some_iff.1 hla).1
        refine ⟨_, run_beginRound hla (by rw [hrec]), ?_⟩
        have hbk2 : Book w.heap.size Wa (Wa.putObj (w.heap.size + 1) (.loop { rec .ready none with state := .busy })) := Book.putObj _ (by omega) hla rfl
        have hl2 : (Wa.putObj (w.heap.size + 1) (.loop { rec .ready none with state := .busy })).heap[w.heap.size + 1]? = some (.loop { rec .ready none with state := .busy }) := World.putObj_heap_same hlta
        have hk2 : (Wa.putObj (w.heap.size + 1) (.loop { rec .ready none with state := .busy })).heap[w.heap.size]? = some (.deferred (some [])) := (World.putObj_heap_other (by omega)).trans hka
        refine wpIn_mono (hbody _ hbk2) ?_
        have fin : ∀ (jump : Option Code) (W3 : World), Kpt (Wa.putObj (w.heap.size + 1) (.loop { rec .ready none with state := .busy })) W3 →
            (Instr.endRound (w.heap.size + 1) jump).run P W3 = .ok (.bool jump.isNone) (W3.putObj (w.heap.size + 1) (.loop (rec (if jump.isNone then .ready else .done) jump))) ∧
            W3.heap[w.heap.size + 1]? = some (.loop { rec .ready none with state := .busy }) ∧
            (W3.putObj (w.heap.size + 1) (.loop (rec (if jump.isNone then .ready else .done) jump))).heap[w.heap.size + 1]? = some (.loop (rec (if jump.isNone then .ready else .done) jump)) ∧
            (W3.putObj (w.heap.size + 1) (.loop (rec (if jump.isNone then .ready else .done) jump))).heap[w.heap.size]? = some (.deferred (some [])) := fun jump W3 hk3 => by
          have hl3 := hk3.same _ _ hl2 rfl
          have := run_endRound (P := P) jump hl3
          rw [hrec] at this ⊢
          exact ⟨this, by rw [hrec] at hl3; exact hl3, World.putObj_heap_same (Array.getElem?_eq_some_iff.1 hl3).1, (World.putObj_heap_other (by omega)).trans (hk3.same _ _ hk2 rfl)⟩
        intro e3 a3 W3 hp
        cases e3 with
        | normal =>
          obtain ⟨hk3, hc3, hi3⟩ := hp
          obtain ⟨hr3, hl3, hl4, hk4⟩ := fin none W3 hk3
          refine ⟨_, _, hr3, _, rfl, .inl ⟨rfl, ⟨hI _ _ _ hi3 (Book.putObj _ (by omega) hl3 rfl), hl4, hk4⟩, ?_⟩⟩
          have hb2 := hbk2.chg
          have hb3 := (Book.putObj (B := w.heap.size) (Obj.loop (rec (if (none : Option Code).isNone then .ready else .done) none)) (by omega) hl3 rfl).chg
          exact ((hch.trans (hb2.mono fun b _ h => .inl h)).trans hc3).trans (hb3.mono fun b _ h => .inl h)
        | ret =>
          obtain ⟨hk3, hc3, hi3⟩ := hp
          obtain ⟨hr3, hl3, hl4, hk4⟩ := fin (some .ret) W3 hk3
          exact ⟨_, _, hr3, _, rfl, .inr ⟨rfl, ((hch.trans (hbk2.chg.mono fun b _ h => .inl h)).trans hc3).trans ((Book.putObj (B := w.heap.size) (Obj.loop (rec (if (some Code.ret : Option Code).isNone then .ready else .done) (some .ret))) (by omega) hl3 rfl).chg.mono fun b _ h => .inl h), .ret, hIx _ _ _ _ hi3 (Book.putObj _ (by omega) hl3 rfl), hl4, hk4⟩⟩
        | exit id =>
          obtain ⟨hk3, hc3, hi3⟩ := hp
          obtain ⟨hr3, hl3, hl4, hk4⟩ := fin (some (.exit id)) W3 hk3
          exact ⟨_, _, hr3, _, rfl, .inr ⟨rfl, ((hch.trans (hbk2.chg.mono fun b _ h => .inl h)).trans hc3).trans ((Book.putObj (B := w.heap.size) (Obj.loop (rec (if (some (Code.exit id) : Option Code).isNone then .ready else .done) (some (.exit id)))) (by omega) hl3 rfl).chg.mono fun b _ h => .inl h), .exit id, hIx _ _ _ _ hi3 (Book.putObj _ (by omega) hl3 rfl), hl4, hk4⟩⟩
        | goto t =>
          obtain ⟨hk3, hc3, hi3⟩ := hp
          obtain ⟨hr3, hl3, hl4, hk4⟩ := fin (some (.goto t)) W3 hk3
          exact ⟨_, _, hr3, _, rfl, .inr ⟨rfl, ((hch.trans (hbk2.chg.mono fun b _ h => .inl h)).trans hc3).trans ((Book.putObj (B := w.heap.size) (Obj.loop (rec (if (some (Code.goto t) : Option Code).isNone then .ready else .done) (some (.goto t)))) (by omega) hl3 rfl).chg.mono fun b _ h => .inl h), .goto t, hIx _ _ _ _ hi3 (Book.putObj _ (by omega) hl3 rfl), hl4, hk4⟩⟩
        | panic ch => exact hp.elim
        | outgrown => exact hp.elim
      | exit id => exact hm
      | goto l => exact hm
      | ret => exact hm
      | panic ch => exact hm
      | outgrown => exact hm

/-- A call of yield, in an iterator's body. -/
theorem op_yield {P : Program} {n k : Nat} {σ : List (Nat × Value)} {w : World} {ops : Array Oper} {K : List (Nat × Value) → World → Prop} (d : Option Tmp) (l : Nat) (args : List Value) {R : Value → World → Prop} (hY : Yat P l args w R)
    (h : ∀ v w', R v w' → K (putσ σ d v) w') (he : exAt ops n σ k = some (d, Instr.yield l args.toArray) := by kernel_rfl) : opWp P ops n k σ w K := by
  obtain ⟨fn, tmps, assign, body, hr, hR⟩ := hY
  exact opWp_round he hr hR h

/-- The mark of a loop, taken up at the return. -/
theorem take_mark {P : Program} {w : World} {D : Nat} (h : Mk w D) : ∃ w', (Instr.takeDeferred D).run P w = .ok [] w' ∧ Chg (· = D) w w' ∧ Book D w w' := by
  refine ⟨_, run_takeDeferred h, ⟨rfl, rfl, rfl, by simp [World.putObj], fun k _ hs => World.putObj_heap_other hs⟩, Book.putObj _ (Nat.le_refl _) h rfl⟩
end Go.Cs
