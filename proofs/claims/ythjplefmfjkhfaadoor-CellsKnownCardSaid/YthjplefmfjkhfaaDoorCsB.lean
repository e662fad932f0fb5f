/- Memory: what a slice reads as, what a change leaves alone, and the step rules for the operations that touch memory; for any program. No condition. -/
import Derived.Test.YthjplefmfjkhfaaDoorCsA
set_option linter.all false
set_option linter.unusedVariables false
namespace Go.Cs
open Go Go.RowKit

/-- Of the blocks that there were, only those in S may have turned. -/
structure Chg (S : Nat → Prop) (w w' : World) : Prop where
  os : w'.os = w.os
  tape : w'.tape = w.tape
  output : w'.output = w.output
  size : w.heap.size ≤ w'.heap.size
  block : ∀ k, k < w.heap.size → ¬ S k → w'.heap[k]? = w.heap[k]?

/-- Nothing that there was has turned. -/
abbrev Ext (w w' : World) : Prop := Chg (fun _ => False) w w'

theorem Chg.refl (S : Nat → Prop) (w : World) : Chg S w w := ⟨rfl, rfl, rfl, Nat.le_refl _, fun _ _ _ => rfl⟩
theorem Ext.refl (w : World) : Ext w w := Chg.refl _ w
theorem Chg.trans {S : Nat → Prop} {a b c : World} (h : Chg S a b) (g : Chg S b c) : Chg S a c :=
  ⟨g.os.trans h.os, g.tape.trans h.tape, g.output.trans h.output, Nat.le_trans h.size g.size,
    fun k hk hs => (g.block k (Nat.lt_of_lt_of_le hk h.size) hs).trans (h.block k hk hs)⟩
theorem Chg.mono {S T : Nat → Prop} {a b : World} (h : Chg S a b) (hst : ∀ k, k < a.heap.size → S k → T k) : Chg T a b :=
  ⟨h.os, h.tape, h.output, h.size, fun k hk ht => h.block k hk (fun hs => ht (hst k hk hs))⟩
/-- Two changes, the second of which touches only what is new or what the first may touch. -/
theorem Chg.then {S T : Nat → Prop} {a b c : World} (h : Chg S a b) (g : Chg T b c) (hst : ∀ k, k < a.heap.size → T k → S k) : Chg S a c :=
  ⟨g.os.trans h.os, g.tape.trans h.tape, g.output.trans h.output, Nat.le_trans h.size g.size,
    fun k hk hs => (g.block k (Nat.lt_of_lt_of_le hk h.size) (fun ht => hs (hst k hk ht))).trans (h.block k hk hs)⟩
theorem Ext.chg {S : Nat → Prop} {a b : World} (h : Ext a b) : Chg S a b := h.mono (fun _ _ hf => hf.elim)
theorem Ext.below {a b : World} (h : Ext a b) : Below a.heap.size a b := ⟨h.os, h.tape, h.output, h.size, fun k hk => h.block k hk (fun hf => hf)⟩
theorem Ext.of_below {a b : World} (h : Below a.heap.size a b) : Ext a b := ⟨h.os, h.tape, h.output, h.size, fun k hk _ => h.block k hk⟩

theorem Ext.alloc (w : World) (o : Obj) : Ext w (w.alloc o) :=
  ⟨rfl, rfl, rfl, by simp, fun k hk _ => Below.heap_alloc _ _ _ hk⟩
theorem Ext.drew (w : World) : Ext w w.drew := ⟨rfl, rfl, rfl, Nat.le_refl _, fun _ _ _ => rfl⟩
theorem Chg.setCell (w : World) (a : Addr) (u : Value) : Chg (· = a.block) w (w.setCell a u) :=
  ⟨rfl, rfl, rfl, by simp [World.setCell], fun _ _ hs => Below.heap_setCell _ _ _ _ hs⟩

theorem Chg.cell {S : Nat → Prop} {w w' : World} (h : Chg S w w') {a : Addr} {v : Value} (hs : ¬ S a.block) (hc : w.cell? a = some v) : w'.cell? a = some v :=
  (World.cell?_of_block (h.block a.block (World.block_lt_of_cell? w a hc) hs)).trans hc

/-- Block b is a plain row of these cells. -/
def Blk (w : World) (b : Nat) (cs : List Value) (e : TypeId) : Prop := w.heap[b]? = some (.cells cs.toArray e (0, 0))

theorem Blk.lt {w : World} {b : Nat} {cs : List Value} {e : TypeId} (h : Blk w b cs e) : b < w.heap.size := (Array.getElem?_eq_some_iff.1 h).1
theorem Blk.chg {S : Nat → Prop} {w w' : World} {b : Nat} {cs : List Value} {e : TypeId} (h : Blk w b cs e) (hc : Chg S w w') (hs : ¬ S b) : Blk w' b cs e :=
  (hc.block b h.lt hs).trans h
theorem Blk.ext {w w' : World} {b : Nat} {cs : List Value} {e : TypeId} (h : Blk w b cs e) (hc : Ext w w') : Blk w' b cs e := h.chg hc (fun hf => hf)
theorem Blk.cell {w : World} {b : Nat} {cs : List Value} {e : TypeId} (h : Blk w b cs e) {i : Nat} {v : Value} (hv : cs[i]? = some v) : w.cell? ⟨b, i, none⟩ = some v := by
  unfold Blk at h
  simp [World.cell?, h, hv]
theorem Blk.free {w : World} {b : Nat} {cs : List Value} {e : TypeId} (h : Blk w b cs e) (i : Nat) : w.frozen? ⟨b, i, none⟩ = false := by
  unfold Blk at h
  simp [World.frozen?, h]
theorem Blk.new (w : World) (cs : List Value) (e : TypeId) : Blk (w.alloc (.cells cs.toArray e)) w.heap.size cs e := heap_alloc_new w _
theorem Blk.shape {w : World} {b : Nat} {cs : List Value} {e : TypeId} (h : Blk w b cs e) : w.shape? b = some (e, cs.length) := by
  unfold Blk at h
  simp [World.shape?, h]

theorem Blk.setCell {w : World} {b : Nat} {cs : List Value} {e : TypeId} (h : Blk w b cs e) (i : Nat) (u : Value) : Blk (w.setCell ⟨b, i, none⟩ u) b (cs.set i u) e := by
  unfold Blk at *
  simp only [World.setCell]
  rw [Array.getElem?_modify, if_pos rfl, h]
  simp

/-- What is stored from cell i on. -/
def setFrom : List Value → Nat → List Value → List Value
  | cs, _, [] => cs
  | cs, i, v :: vs => setFrom (cs.set i v) (i + 1) vs

theorem length_setFrom (vs : List Value) : ∀ (cs : List Value) (i : Nat), (setFrom cs i vs).length = cs.length := by
  induction vs with
  | nil => intro cs i; rfl
  | cons v vs ih => intro cs i; simp [setFrom, ih]

theorem setFrom_eq (vs : List Value) : ∀ (cs : List Value) (i : Nat), i + vs.length ≤ cs.length → setFrom cs i vs = cs.take i ++ vs ++ cs.drop (i + vs.length) := by
  induction vs with
  | nil => intro cs i _; simp [setFrom]
  | cons v vs ih =>
    intro cs i h
    simp only [List.length_cons] at h
    rw [setFrom, ih _ _ (by simpa using by omega)]
    rw [List.take_set, List.drop_set]
    rw [if_pos (by omega)]
    have : (List.take (i + 1) cs).set i v = cs.take i ++ [v] := by
      rw [List.take_succ_eq_append_getElem (by omega : i < cs.length)]
      rw [List.set_append_right _ _ (by simp; omega)]
      simp [Nat.min_eq_left (by omega : i ≤ cs.length)]
    rw [this]
    simp [Nat.add_assoc, Nat.add_comm 1]

theorem run_storeCells_blk {P : Program} (vs : List Value) : ∀ (w : World) (b o j : Nat) (cs : List Value) (e : TypeId), Blk w b cs e → o + j + vs.length ≤ cs.length → (∀ u ∈ vs, u.oneCell' = true) →
    ∃ w', (storeCells ⟨b, o, none⟩ vs j).run P w = .ok () w' ∧ Blk w' b (setFrom cs (o + j) vs) e ∧ Chg (· = b) w w' := by
  induction vs with
  | nil => intro w b o j cs e h _ _; exact ⟨w, by simp [storeCells], h, Chg.refl _ _⟩
  | cons v vs ih =>
    intro w b o j cs e h hl h1
    simp only [List.length_cons] at hl
    have hv : v.oneCell' = true := h1 v (by simp)
    have hcell : w.cell? ⟨b, o + j, none⟩ = some cs[o + j] := h.cell (by simp [show o + j < cs.length by omega])
    obtain ⟨w', h2, h3, h4⟩ := ih (w.setCell ⟨b, o + j, none⟩ v) b o (j + 1) (cs.set (o + j) v) e (h.setCell _ _) (by simpa using by omega) (fun u hu => h1 u (by simp [hu]))
    refine ⟨w', ?_, by simpa [setFrom, Nat.add_assoc] using h3, (Chg.setCell w ⟨b, o + j, none⟩ v).trans h4⟩
    have hs : (store ((⟨b, o, none⟩ : Addr).add j) v).run P w = .ok () (w.setCell ⟨b, o + j, none⟩ v) := by
      rw [Addr.add_lit]
      cases v <;> simp_all [store, Sem.run, h.free, Value.oneCell']
    simp [storeCells, hs, h2]

/-- The slice at a, of this length and capacity, reads as these cells; its block lies in [lo, hi). -/
def SlA (lo hi : Nat) (w : World) (a : Option Addr) (len cap : Nat) (vs : List Value) : Prop :=
  match a with
  | none => len = 0 ∧ cap = 0 ∧ vs = []
  | some ad => len ≤ cap ∧ cap ≤ maxLen ∧ (vs = [] ∨ (ad.spot = none ∧ lo ≤ ad.block ∧ ad.block < hi ∧ ad.block < w.heap.size ∧ ∀ (i : Nat) (v : Value), vs[i]? = some v → w.cell? ⟨ad.block, ad.off + i, none⟩ = some v))

section
variable {lo hi : Nat} {w w' : World} {a : Option Addr} {len cap : Nat} {vs : List Value}
theorem SlA.nil (lo hi : Nat) (w : World) : SlA lo hi w none 0 0 [] := ⟨rfl, rfl, rfl⟩
theorem SlA.le (h : SlA lo hi w a len cap vs) : len ≤ cap ∧ cap ≤ maxLen := by
  cases a with
  | none => obtain ⟨rfl, rfl, _⟩ := h; simp
  | some ad => exact ⟨h.1, h.2.1⟩
theorem SlA.mono {lo' hi' : Nat} (h : SlA lo hi w a len cap vs) (h1 : lo' ≤ lo) (h2 : hi ≤ hi') : SlA lo' hi' w a len cap vs := by
  cases a with
  | none => exact h
  | some ad =>
    obtain ⟨g1, g2, g3⟩ := h
    exact ⟨g1, g2, g3.imp id fun ⟨g4, g5, g6, g7, g8⟩ => ⟨g4, by omega, by omega, g7, g8⟩⟩
theorem SlA.chg {S : Nat → Prop} (h : SlA lo hi w a len cap vs) (hc : Chg S w w') (hs : ∀ k, lo ≤ k → k < hi → ¬ S k) : SlA lo hi w' a len cap vs := by
  cases a with
  | none => exact h
  | some ad =>
    obtain ⟨g1, g2, g3⟩ := h
    exact ⟨g1, g2, g3.imp id fun ⟨g4, g5, g6, g7, g8⟩ => ⟨g4, g5, g6, Nat.lt_of_lt_of_le g7 hc.size, fun i v hv => hc.cell (hs _ g5 g6) (g8 i v hv)⟩⟩
theorem SlA.ext (h : SlA lo hi w a len cap vs) (hc : Ext w w') : SlA lo hi w' a len cap vs := h.chg hc (fun _ _ _ hf => hf)
theorem SlA.now (h : SlA lo hi w a len cap vs) : SlA lo w.heap.size w a len cap vs := by
  cases a with
  | none => exact h
  | some ad =>
    obtain ⟨g1, g2, g3⟩ := h
    exact ⟨g1, g2, g3.imp id fun ⟨g4, g5, g6, g7, g8⟩ => ⟨g4, g5, g7, g7, g8⟩⟩
theorem SlA.of_blk {b : Nat} {cs : List Value} {e : TypeId} (h : Blk w b cs e) (hl : len ≤ cap) (hm : cap ≤ maxLen) (h1 : lo ≤ b) (h2 : b < hi) : SlA lo hi w (some ⟨b, 0, none⟩) len cap cs :=
  ⟨hl, hm, .inr ⟨rfl, h1, h2, h.lt, fun i v hv => by simpa using h.cell hv⟩⟩
theorem SlA.get {ad : Addr} (h : SlA lo hi w (some ad) len cap vs) {i : Nat} {v : Value} (hv : vs[i]? = some v) : ad.spot = none ∧ lo ≤ ad.block ∧ ad.block < hi ∧ w.cell? ⟨ad.block, ad.off + i, none⟩ = some v := by
  obtain ⟨_, _, rfl | ⟨g4, g5, g6, _, g8⟩⟩ := h
  · simp at hv
  · exact ⟨g4, g5, g6, g8 i v hv⟩
theorem SlA.cell (h : SlA lo hi w a len cap vs) {i : Nat} {v : Value} (hv : vs[i]? = some v) :
    ∃ b o, a = some ⟨b, o, none⟩ ∧ w.cell? ⟨b, o + i, none⟩ = some v := by
  cases a with
  | none => obtain ⟨_, _, rfl⟩ := h; simp at hv
  | some ad =>
    obtain ⟨g1, _, _, g2⟩ := h.get hv
    obtain ⟨b, o, s⟩ := ad
    simp only at g1; subst g1
    exact ⟨b, o, rfl, g2⟩
theorem SlA.addr (h : SlA lo hi w a len cap vs) (hp : 0 < vs.length) : ∃ b o, a = some ⟨b, o, none⟩ := by
  obtain ⟨b, o, h1, _⟩ := h.cell (i := 0) (v := vs[0]) (by simp [hp])
  exact ⟨b, o, h1⟩
/-- A value read in its place: the address, as the operations have it. -/
theorem SlA.load_add {ad : Addr} (h : SlA lo hi w (some ad) len cap vs) {i : Nat} {v : Value} (hv : vs[i]? = some v) : w.cell? (ad.add i) = some v := by
  obtain ⟨g1, _, _, g2⟩ := h.get hv
  obtain ⟨b, o, s⟩ := ad
  simp only at g1; subst g1
  rw [Addr.add_lit]; exact g2

/-- Any stretch of it. -/
theorem SlA.part (h : SlA lo hi w a len cap vs) (sz l r m : Nat) (h1 : l ≤ r) (h2 : r ≤ m) (h3 : m ≤ cap) (hcells : vs.length = len * sz) (hr : r ≤ len) :
    SlA lo hi w (if m = l then a else a.map (·.add (l * sz))) (r - l) (m - l) ((vs.drop (l * sz)).take ((r - l) * sz)) := by
  cases a with
  | none =>
    obtain ⟨rfl, rfl, rfl⟩ := h
    have : m = l := by omega
    subst this
    simp only [if_pos]
    exact ⟨by omega, by omega, by simp⟩
  | some ad =>
    have hle := h.le
    by_cases hm : m = l
    · rw [if_pos hm]
      have hrl : r = l := by omega
      subst hrl
      exact ⟨by omega, by omega, .inl (by simp)⟩
    · rw [if_neg hm]
      simp only [Option.map_some]
      refine ⟨by omega, by omega, ?_⟩
      obtain ⟨_, _, rfl | ⟨g4, g5, g6, g7, g8⟩⟩ := h
      · exact .inl (by simp)
      · obtain ⟨b, o, s⟩ := ad
        simp only at g4 g5 g6 g7 g8; subst g4
        rw [Addr.add_lit]
        refine .inr ⟨rfl, g5, g6, g7, fun i v hv => ?_⟩
        rw [List.getElem?_take] at hv
        split at hv
        · rw [List.getElem?_drop] at hv
          have := g8 _ _ hv
          simpa [Nat.add_assoc] using this
        · cases hv

theorem SlA.loads {P : Program} {ad : Addr} (h : SlA lo hi w (some ad) len cap vs) :
    (loadCells ad vs.length).run P w = .ok vs.toArray w :=
  run_loadCells_list w ad vs (fun _ _ hj => h.load_add hj)
end

end Go.Cs
