/- Slices of wider elements that the call owns, and append to them. For any program; no condition. -/
import Derived.Test.YthjplefmfjkhfaaDoorCsG
import Derived.Test.YthjplefmfjkhfaaDoorCsR
import Derived.Great.BuildSlice
set_option linter.all false
set_option linter.unusedVariables false
namespace Go.Cs
open Go Go.RowKit

/-- A slice of elements of sz cells that the call owns: nil, or at the head of a row of the call's own. -/
structure OwM {α : Type} (f : α → List Value) (sz lo hi : Nat) (w : World) (a : Option Addr) (len cap : Nat) (e : TypeId) (l : List α) : Prop where
  row : w.ownsRow lo e sz (.slice a len cap) len (l.flatMap f)
  len_eq : len = l.length
  below : ∀ ad, a = some ad → ad.block < hi
  each : ∀ x, (f x).length = sz

section
variable {α : Type} {f : α → List Value} {sz lo hi : Nat} {w w' : World} {a : Option Addr} {len cap : Nat} {e : TypeId} {l : List α}
theorem OwM.nil (f : α → List Value) (sz lo hi : Nat) (w : World) (e : TypeId) (hf : ∀ x, (f x).length = sz) : OwM f sz lo hi w none 0 0 e [] := ⟨by simpa using World.ownsRow_nil w lo e sz, rfl, by (intro ad h; cases h), hf⟩
theorem OwM.ne {k : Nat} (h : OwM f sz lo hi w a len cap e l) (hk : blkOf a k) : lo ≤ k ∧ k < hi := by
  obtain ⟨ad, rfl, rfl⟩ := hk
  refine ⟨?_, h.below ad rfl⟩
  have := h.row.lt ad.block rfl
  exact this.1
theorem OwM.blk (h : OwM f sz lo hi w a len cap e l) : (a = none ∧ len = 0 ∧ cap = 0) ∨ ∃ b cs, a = some ⟨b, 0, none⟩ ∧ Blk w b cs e ∧ lo ≤ b ∧ b < hi ∧ len ≤ cap ∧ cap ≤ maxLen ∧ cs.length = cap * sz ∧ cs.take (len * sz) = l.flatMap f := by
  rcases h.row.2 with ⟨h1, h2⟩ | ⟨g, c, cur, h1, h2, h3, h4, h5, h6, h7⟩
  · cases h1; exact .inl ⟨rfl, rfl, rfl⟩
  · cases h1
    refine .inr ⟨g, cur.toList, rfl, by simpa [Blk] using h3, h2, h.below _ rfl, h4, h5, by simpa using h6, by simpa using h7⟩
/-- The row, where there is one: the elements, and what is spare. -/
theorem OwM.row_of (h : OwM f sz lo hi w a len cap e l) (hp : 0 < len) : ∃ b r, a = some ⟨b, 0, none⟩ ∧ Blk w b (l.flatMap f ++ r) e ∧ r.length = (cap - len) * sz ∧ lo ≤ b ∧ b < hi ∧ len ≤ cap ∧ cap ≤ maxLen := by
  rcases h.blk with ⟨_, h1, _⟩ | ⟨b, cs, h1, h2, h3, h4, h5, h6, h7, h8⟩
  · omega
  · refine ⟨b, cs.drop (len * sz), h1, ?_, ?_, h3, h4, h5, h6⟩
    · rw [← h8, List.take_append_drop]; exact h2
    · rw [List.length_drop, h7, Nat.sub_mul]
theorem OwM.chg {S : Nat → Prop} (h : OwM f sz lo hi w a len cap e l) (hc : Chg S w w') (hs : ∀ k, lo ≤ k → k < hi → ¬ S k) : OwM f sz lo hi w' a len cap e l := by
  refine ⟨⟨h.row.1, ?_⟩, h.len_eq, h.below, h.each⟩
  rcases h.row.2 with h1 | ⟨g, c, cur, h1, h2, h3, h4⟩
  · exact .inl h1
  · cases h1
    have hlt : g < w.heap.size := (Array.getElem?_eq_some_iff.1 h3).1
    exact .inr ⟨g, cap, cur, rfl, h2, by rw [hc.block g hlt (hs g h2 (h.below _ rfl))]; exact h3, h4⟩
theorem OwM.ext (h : OwM f sz lo hi w a len cap e l) (hc : Ext w w') : OwM f sz lo hi w' a len cap e l := h.chg hc (fun _ _ _ hf => hf)
theorem OwM.mono {lo' hi' : Nat} (h : OwM f sz lo hi w a len cap e l) (h1 : lo' ≤ lo) (h2 : hi ≤ hi') : OwM f sz lo' hi' w a len cap e l := by
  refine ⟨⟨h.row.1, ?_⟩, h.len_eq, fun ad ha => Nat.lt_of_lt_of_le (h.below ad ha) h2, h.each⟩
  rcases h.row.2 with h3 | ⟨g, c, cur, h3, h4, h5⟩
  · exact .inl h3
  · exact .inr ⟨g, c, cur, h3, by omega, h5⟩
theorem OwM.now (h : OwM f sz lo hi w a len cap e l) : OwM f sz lo w.heap.size w a len cap e l :=
  ⟨h.row, h.len_eq, by (rintro ad rfl; exact (h.row.lt ad.block rfl).2), h.each⟩
theorem OwM.ms (h : OwM f sz lo hi w a len cap e l) : Ms f sz lo hi w a len cap l := by
  refine ⟨?_, h.len_eq, h.each⟩
  rcases h.blk with ⟨rfl, rfl, rfl⟩ | ⟨b, cs, rfl, hB, h1, h2, h3, h4, h5, h6⟩
  · have : l = [] := List.eq_nil_of_length_eq_zero h.len_eq.symm
    subst this
    exact SlA.nil _ _ _
  · refine ⟨h3, h4, .inr ⟨rfl, h1, h2, hB.lt, fun i v hv => ?_⟩⟩
    rw [← h6, List.getElem?_take] at hv
    split at hv
    · simpa using hB.cell hv
    · cases hv
theorem OwM.of_blk {b : Nat} {cs : List Value} (h : Blk w b cs e) (hf : ∀ x, (f x).length = sz) (hcs : cs.length = cap * sz) (hl : cs.take (len * sz) = l.flatMap f) (hn : len = l.length) (hc : len ≤ cap) (hm : cap ≤ maxLen) (h1 : lo ≤ b) (h2 : b < hi) : OwM f sz lo hi w (some ⟨b, 0, none⟩) len cap e l :=
  ⟨⟨by rw [flatMap_len hf, hn], .inr ⟨b, cap, cs.toArray, rfl, h1, h, hc, hm, by simp [hcs], by simpa using hl⟩⟩, hn, by (intro ad ha; cases ha; exact h2), hf⟩
/-- A row that is known whole, with nothing spare. -/
theorem OwM.of_full {b : Nat} (h : Blk w b (l.flatMap f) e) (hf : ∀ x, (f x).length = sz) (hn : len = l.length) (hm : len ≤ maxLen) (h1 : lo ≤ b) (h2 : b < hi) : OwM f sz lo hi w (some ⟨b, 0, none⟩) len len e l :=
  OwM.of_blk h hf (by rw [flatMap_len hf, hn]) (by rw [List.take_of_length_le (by rw [flatMap_len hf, hn]; exact Nat.le_refl _)]) hn (Nat.le_refl _) hm h1 h2
theorem OwM.book {B : Nat} (h : OwM f sz lo hi w a len cap e l) (g : Book B w w') : OwM f sz lo hi w' a len cap e l := by
  refine ⟨⟨h.row.1, ?_⟩, h.len_eq, h.below, h.each⟩
  rcases h.row.2 with h1 | ⟨b, c, cur, h1, h2, h3, h4⟩
  · exact .inl h1
  · exact .inr ⟨b, c, cur, h1, h2, g.cells _ _ h3 rfl, h4⟩
theorem Kpt.owm {a b c : World} {ad : Option Addr} (h : Kpt a b) (hO : OwM f sz lo hi b ad len cap e l) (g : Chg (blkOf ad) b c) : Kpt a c := h.trans ⟨g.size, fun j o h1 h2 => by
  refine (g.block j (Array.getElem?_eq_some_iff.1 h1).1 ?_).trans h1
  rintro ⟨ad', rfl, rfl⟩
  rcases hO.blk with ⟨h3, _⟩ | ⟨b', cs, h3, hB, _⟩
  · cases h3
  · cases h3
    have h4 : b.heap[b']? = _ := hB
    rw [h4] at h1; cases h1; cases h2⟩
end

theorem At.sub2 {w : World} {b o : Nat} {vs : List Value} (h : At w b o vs) (x y : Nat) (us : List Value) (hu : (vs.drop (x + y)).take us.length = us) : At w b (o + x + y) us := by
  rw [Nat.add_assoc]; exact h.sub (x + y) us hu
/-- Elements put one behind the other. -/
theorem fill_row {α : Type} {f : α → List Value} {sz : Nat} (hf : ∀ x, (f x).length = sz) : ∀ (xs : List α) (j : Nat) (p r : List Value), p.length = j * sz → r.length = xs.length * sz →
    Instr.fill (fun i => some (i * sz, sz)) (p ++ r).toArray ((xs.zipIdx j).map fun x => (x.2, Value.agg (f x.1).toArray)) = some (p ++ xs.flatMap f).toArray
  | [], j, p, r, h1, h2 => by
    have : r = [] := List.eq_nil_of_length_eq_zero (by simpa using h2)
    subst this
    simp [Instr.fill]
  | x :: xs, j, p, r, h1, h2 => by
    rw [List.length_cons, Nat.add_mul, Nat.one_mul] at h2
    rw [List.zipIdx_cons, List.map_cons, fill_cons (off := j * sz) (size := sz) (vs := f x) rfl rfl (hf x) (by rw [List.length_append, h1]; omega)]
    have h3 : setFrom (p ++ r) (j * sz) (f x) = (p ++ f x) ++ r.drop sz := by
      rw [← h1, setFrom_mid _ _ _ (by rw [hf]; omega), hf]
    rw [h3, fill_row hf xs (j + 1) (p ++ f x) (r.drop sz) (by rw [List.length_append, hf, h1, Nat.add_mul, Nat.one_mul]) (by rw [List.length_drop]; omega), List.append_assoc, List.flatMap_cons]
theorem run_bsM {P : Program} {w : World} {α : Type} {f : α → List Value} {sz T E len : Nat} {parts : Array (Nat × Value)} {z : Value} (xs : List α) (hf : ∀ x, (f x).length = sz) (hz : 0 < sz) (hl : len = xs.length) (h0 : 0 < xs.length) (hs : xs.length * sz ≤ 2 ^ 24)
    (hp : parts.toList = (xs.zipIdx 0).map fun x => (x.2, Value.agg (f x.1).toArray)) (hT : P.underlying T = some (.slice E) := by kernel_rfl) (hE : (P.info? E).map (fun i => (i.zero, i.size)) = some (some z, sz) := by kernel_rfl) :
    (Instr.buildSlice T len parts).run P w = .ok (.slice (some ⟨w.heap.size, 0, none⟩) len len) (w.alloc (.cells (xs.flatMap f).toArray E)) := by
  obtain ⟨ie, hie, he⟩ := Option.map_eq_some_iff.1 hE
  simp only [Prod.mk.injEq] at he
  obtain ⟨he1, rfl⟩ := he
  subst hl
  have hpos : 0 < xs.length * ie.size := Nat.mul_pos h0 hz
  refine run_buildSlice w T E xs.length parts _ ie z hT hie he1 (by omega) (by omega) ?_
  have h1 : ((Array.range (xs.length * ie.size)).map (z.cells[· % z.cells.size]!)) = ([] ++ (List.range (xs.length * ie.size)).map (z.cells[· % z.cells.size]!)).toArray := by
    apply Array.ext'
    simp
  rw [h1, hp, fill_row hf xs 0 [] _ (by simp) (by simp), List.nil_append]

section
variable {P : Program} {n k : Nat} {σ : List (Nat × Value)} {w : World} {ops : Array Oper} {K : List (Nat × Value) → World → Prop} {d : Option Tmp}
theorem op_appendM {α : Type} {f : α → List Value} {sz lo hi lo2 hi2 : Nat} {l m : List α} (d : Option Tmp) (T ty E bys : Nat) (z : Value) {a : Option Addr} {len cap : Nat} {a2 : Option Addr} {len2 cap2 : Nat}
    (hO : OwM f sz lo hi w a len cap E l) (hS : Ms f sz lo2 hi2 w a2 len2 cap2 m) (h1 : ∀ x, ∀ u ∈ f x, u.oneCell' = true)
    (h : ∀ a' cap' w', OwM f sz lo w'.heap.size w' a' (len + len2) cap' E (l ++ m) → Chg (blkOf a) w w' → K (putσ σ d (.slice a' (len + len2) cap')) w')
    (hz : z.cells.size = sz) (hsz : 0 < sz) (h63 : len + len2 ≤ maxLen := by simp only [maxLen]; omega) (hb : (len + len2) * bys ≤ 140737488355328 := by omega) (hbase : lo ≤ w.heap.size := by omega)
    (hT : P.underlying T = some (.slice E) := by kernel_rfl)
    (hE : (P.info? E).map (fun i => (i.zero, i.size, i.bytes)) = some (some z, sz, bys) := by kernel_rfl) 
    (he : exAt ops n σ k = some (d, vS (Builtin.append_ #[T, T] ty #[.slice a len cap, .slice a2 len2 cap2])) := by kernel_rfl) : opWp P ops n k σ w K := by
  obtain ⟨i, hi, hz1, hz2, hz3⟩ := info_parts hE
  have shape : ∀ (v' : Value) (w' : World), w'.ownsRow lo E sz v' (len + len2) ((l ++ m).flatMap f) → w.grownBy w' (Value.ownBlock (.slice a len cap)) → ∃ a' cap', v' = .slice a' (len + len2) cap' ∧ OwM f sz lo w'.heap.size w' a' (len + len2) cap' E (l ++ m) := by
    intro v' w' hr _
    have hn : len + len2 = (l ++ m).length := by rw [List.length_append, hO.len_eq, hS.len_eq]
    rcases hr.2 with ⟨h1, h2⟩ | ⟨g, c, cur, h1, h2, h3, h4⟩
    · rw [h2] at hr hn ⊢
      exact ⟨none, 0, h1, by subst h1; exact hr, hn, by (intro ad hx; cases hx), hO.each⟩
    · exact ⟨_, c, h1, by subst h1; exact hr, hn, by (intro ad hx; cases hx; exact (Array.getElem?_eq_some_iff.1 h3).1), hO.each⟩
  cases a2 with
  | none =>
    obtain ⟨h2, h3, h4⟩ := hS.sla
    have hm : m = [] := by
      have := hS.len_eq
      exact List.eq_nil_of_length_eq_zero (by omega)
    subst hm
    subst h2
    subst h3
    have hr := run_append_owned_none (P := P) w lo T ty E i sz hT hi _ len _ hO.row
    have hO' : OwM f sz lo w.heap.size w a (len + 0) cap E (l ++ []) := by rw [List.append_nil]; exact hO.now
    exact op_v d _ _ hr (h a cap w hO' (Chg.refl _ _)) he
  | some ad =>
    obtain ⟨v', w', hr, h5, h6, _⟩ := run_append_own (P := P) w lo T ty E i z sz bys hT hi hz1 hz2 hz3 hz hsz _ len _ hO.row ad len2 cap2 (m.flatMap f) (by rw [flatMap_len hS.each, hS.len_eq]) (fun j u hu => hS.sla.load_add hu) (by
      intro u hu
      obtain ⟨x, _, hx⟩ := List.mem_flatMap.1 hu
      exact h1 x u hx) h63 hb hbase
    rw [← List.flatMap_append] at h5
    obtain ⟨a', cap', rfl, h7⟩ := shape v' w' h5 h6
    exact op_v d _ _ hr (h a' cap' w' h7 (Chg.of_grown h6)) he
end
end Go.Cs
