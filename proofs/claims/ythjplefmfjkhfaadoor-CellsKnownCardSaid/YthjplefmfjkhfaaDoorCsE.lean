/- Slices of one-cell elements; slices that the call owns, append, copy; small bridges. For any program; no condition. -/
import Derived.Test.YthjplefmfjkhfaaDoorCsD
set_option linter.all false
set_option linter.unusedVariables false
namespace Go.Cs
open Go Go.RowKit

def nv (k : IntKind) (n : Nat) : Value := .int k (n : Int)
def iv (k : IntKind) (n : Int) : Value := .int k n
def u8v (c : UInt8) : Value := .int .u8 (c.toNat : Int)
def gt (l : List Nat) (i : Nat) : Nat := l.getD i 0
def gz (l : List Int) (i : Nat) : Int := l.getD i 0

/-- A slice of one-cell elements reads as this list. -/
structure Es {α : Type} (f : α → Value) (lo hi : Nat) (w : World) (a : Option Addr) (len cap : Nat) (l : List α) : Prop where
  sla : SlA lo hi w a len cap (l.map f)
  len_eq : len = l.length

section
variable {α : Type} {f : α → Value} {lo hi : Nat} {w w' : World} {a : Option Addr} {len cap : Nat} {l : List α}
theorem Es.ext (h : Es f lo hi w a len cap l) (hc : Ext w w') : Es f lo hi w' a len cap l := ⟨h.sla.ext hc, h.len_eq⟩
theorem Es.chg {S : Nat → Prop} (h : Es f lo hi w a len cap l) (hc : Chg S w w') (hs : ∀ k, lo ≤ k → k < hi → ¬ S k) : Es f lo hi w' a len cap l := ⟨h.sla.chg hc hs, h.len_eq⟩
theorem Es.mono {lo' hi' : Nat} (h : Es f lo hi w a len cap l) (h1 : lo' ≤ lo) (h2 : hi ≤ hi') : Es f lo' hi' w a len cap l := ⟨h.sla.mono h1 h2, h.len_eq⟩
theorem Es.nil (f : α → Value) (lo hi : Nat) (w : World) : Es f lo hi w none 0 0 [] := ⟨SlA.nil lo hi w, rfl⟩
theorem Es.le (h : Es f lo hi w a len cap l) : len ≤ cap ∧ cap ≤ 9223372036854775807 := by
  have := h.sla.le; simpa [maxLen] using this
theorem Es.addr (h : Es f lo hi w a len cap l) (hp : 0 < len) : ∃ b o, a = some ⟨b, o, none⟩ :=
  h.sla.addr (by have := h.len_eq; simp; omega)
theorem Es.of_blk {b : Nat} {cs : List Value} {e : TypeId} (h : Blk w b cs e) (hcs : cs = l.map f) (hl : len = l.length) (hc : len ≤ cap) (hm : cap ≤ maxLen) (h1 : lo ≤ b) (h2 : b < hi) : Es f lo hi w (some ⟨b, 0, none⟩) len cap l := by
  subst hcs
  exact ⟨SlA.of_blk h hc hm h1 h2, hl⟩
theorem Es.cell {b o : Nat} (h : Es f lo hi w (some ⟨b, o, none⟩) len cap l) {i : Nat} {x : α} (hx : l[i]? = some x) : w.cell? ⟨b, o + i * 1, none⟩ = some (f x) := by
  rw [Nat.mul_one]
  exact (h.sla.get (i := i) (v := f x) (by simp [hx])).2.2.2
theorem Es.celln {k : IntKind} {xs : List Nat} {b o : Nat} (h : Es (nv k) lo hi w (some ⟨b, o, none⟩) len cap xs) {i : Nat} (hi' : i < len) : w.cell? ⟨b, o + i * 1, none⟩ = some (.int k ((gt xs i : Nat) : Int)) := by
  have h1 : i < xs.length := by have := h.len_eq; omega
  rw [h.cell (x := xs[i]) (by simp [h1])]
  simp [nv, gt, List.getD, h1]
theorem Es.celli {k : IntKind} {xs : List Int} {b o : Nat} (h : Es (iv k) lo hi w (some ⟨b, o, none⟩) len cap xs) {i : Nat} (hi' : i < len) : w.cell? ⟨b, o + i * 1, none⟩ = some (.int k (gz xs i)) := by
  have h1 : i < xs.length := by have := h.len_eq; omega
  rw [h.cell (x := xs[i]) (by simp [h1])]
  simp [iv, gz, List.getD, h1]
theorem Bs.es {l : List UInt8} (h : Bs lo hi w a len cap l) : Es u8v lo hi w a len cap l := ⟨h.sla, h.len_eq⟩
theorem Es.bs {l : List UInt8} (h : Es u8v lo hi w a len cap l) : Bs lo hi w a len cap l := ⟨h.sla, h.len_eq⟩

theorem Es.slice (h : Es f lo hi w a len cap l) (P : Program) (T E x r m : Nat) (xl xh mx : Option Value) (hl : bnd xl 0 x := by first | exact .inl ⟨rfl, rfl⟩ | exact .inr ⟨_, rfl⟩) (hh : bnd xh len r := by first | exact .inl ⟨rfl, rfl⟩ | exact .inr ⟨_, rfl⟩) (hm : bnd mx cap m := by first | exact .inl ⟨rfl, rfl⟩ | exact .inr ⟨_, rfl⟩) (hmh : mx = none ∨ xh ≠ none := by simp) (h1 : x ≤ r := by omega) (h2 : r ≤ m := by omega) (h3 : m ≤ cap := by omega) (h4 : r ≤ len := by omega) (hT : P.underlying T = some (.slice E) := by kernel_rfl) (hsz : (P.info? E).map (·.size) = some 1 := by kernel_rfl) :
    ∃ a', (∀ w', (Instr.sliceAt T (.slice a len cap) xl xh mx).run P w' = .ok (.slice a' (r - x) (m - x)) w') ∧ Es f lo hi w a' (r - x) (m - x) ((l.drop x).take (r - x)) := by
  refine ⟨_, fun w' => rn_sls hT hsz hl hh hm hmh h1 h2 h3, ?_, by have := h.len_eq; simp; omega⟩
  have := h.sla.part 1 x r m h1 h2 h3 (by have := h.len_eq; simp; omega) h4
  simpa [List.map_drop, List.map_take] using this
theorem Bs.slice {l : List UInt8} (h : Bs lo hi w a len cap l) (P : Program) (T E x r m : Nat) (xl xh mx : Option Value) (hl : bnd xl 0 x := by first | exact .inl ⟨rfl, rfl⟩ | exact .inr ⟨_, rfl⟩) (hh : bnd xh len r := by first | exact .inl ⟨rfl, rfl⟩ | exact .inr ⟨_, rfl⟩) (hm : bnd mx cap m := by first | exact .inl ⟨rfl, rfl⟩ | exact .inr ⟨_, rfl⟩) (hmh : mx = none ∨ xh ≠ none := by simp) (h1 : x ≤ r := by omega) (h2 : r ≤ m := by omega) (h3 : m ≤ cap := by omega) (h4 : r ≤ len := by omega) (hT : P.underlying T = some (.slice E) := by kernel_rfl) (hsz : (P.info? E).map (·.size) = some 1 := by kernel_rfl) :
    ∃ a', (∀ w', (Instr.sliceAt T (.slice a len cap) xl xh mx).run P w' = .ok (.slice a' (r - x) (m - x)) w') ∧ Bs lo hi w a' (r - x) (m - x) ((l.drop x).take (r - x)) := by
  obtain ⟨a', h5, h6⟩ := h.es.slice P T E x r m xl xh mx hl hh hm hmh h1 h2 h3 h4 hT hsz
  exact ⟨a', h5, h6.bs⟩

theorem run_string {P : Program} {src dst : Nat} {l : List UInt8} (E : Nat) (h : Bs lo hi w a len cap l) (hs : P.underlying src = some (.slice E) := by kernel_rfl) (he : P.underlying E = some (.int .u8) := by kernel_rfl) (hd : P.underlying dst = some .string := by kernel_rfl) :
    (convert src dst (.slice a len cap)).run P w = .ok (.string ⟨l.toArray⟩) w := by
  have := h.len_eq
  subst this
  exact run_bytes_string hs he hd h.sla
end

/-- A slice of elements of sz cells each. -/
structure Ms {α : Type} (f : α → List Value) (sz lo hi : Nat) (w : World) (a : Option Addr) (len cap : Nat) (l : List α) : Prop where
  sla : SlA lo hi w a len cap (l.flatMap f)
  len_eq : len = l.length
  each : ∀ x, (f x).length = sz

theorem flatMap_len {α : Type} {f : α → List Value} {sz : Nat} (hf : ∀ x, (f x).length = sz) : ∀ (l : List α), (l.flatMap f).length = l.length * sz
  | [] => by simp
  | x :: l => by simp only [List.flatMap_cons, List.length_append, List.length_cons, hf, flatMap_len hf l]; rw [Nat.add_mul, Nat.one_mul, Nat.add_comm]
theorem flatMap_drop {α : Type} {f : α → List Value} {sz : Nat} (hf : ∀ x, (f x).length = sz) : ∀ (l : List α) (i : Nat), (l.flatMap f).drop (i * sz) = (l.drop i).flatMap f
  | l, 0 => by simp
  | [], i + 1 => by simp
  | x :: l, i + 1 => by
    rw [List.flatMap_cons, List.drop_succ_cons, ← flatMap_drop hf l i, Nat.add_mul, Nat.one_mul, Nat.add_comm (i * sz), ← List.drop_drop, List.drop_left' (hf x)]
theorem flatMap_take {α : Type} {f : α → List Value} {sz : Nat} (hf : ∀ x, (f x).length = sz) : ∀ (l : List α) (i : Nat), (l.flatMap f).take (i * sz) = (l.take i).flatMap f
  | l, 0 => by simp
  | [], i + 1 => by simp
  | x :: l, i + 1 => by
    rw [List.flatMap_cons, List.take_succ_cons, List.flatMap_cons, ← flatMap_take hf l i, Nat.add_mul, Nat.one_mul, Nat.add_comm (i * sz), List.take_append, hf x]
    rw [List.take_of_length_le (by rw [hf x]; omega), Nat.add_sub_cancel_left]
section
variable {α : Type} {f : α → List Value} {sz lo hi : Nat} {w w' : World} {a : Option Addr} {len cap : Nat} {l : List α}
theorem Ms.ext (h : Ms f sz lo hi w a len cap l) (hc : Ext w w') : Ms f sz lo hi w' a len cap l := ⟨h.sla.ext hc, h.len_eq, h.each⟩
theorem Ms.chg {S : Nat → Prop} (h : Ms f sz lo hi w a len cap l) (hc : Chg S w w') (hs : ∀ k, lo ≤ k → k < hi → ¬ S k) : Ms f sz lo hi w' a len cap l := ⟨h.sla.chg hc hs, h.len_eq, h.each⟩
theorem Ms.mono {lo' hi' : Nat} (h : Ms f sz lo hi w a len cap l) (h1 : lo' ≤ lo) (h2 : hi ≤ hi') : Ms f sz lo' hi' w a len cap l := ⟨h.sla.mono h1 h2, h.len_eq, h.each⟩
theorem Ms.nil (f : α → List Value) (lo hi : Nat) (w : World) (hf : ∀ x, (f x).length = sz) : Ms f sz lo hi w none 0 0 [] := ⟨SlA.nil lo hi w, rfl, hf⟩
theorem Ms.now (h : Ms f sz lo hi w a len cap l) : Ms f sz lo w.heap.size w a len cap l := ⟨h.sla.now, h.len_eq, h.each⟩
theorem Ms.le (h : Ms f sz lo hi w a len cap l) : len ≤ cap ∧ cap ≤ 9223372036854775807 := by
  have := h.sla.le; simpa [maxLen] using this
theorem Ms.addr (h : Ms f sz lo hi w a len cap l) (hp : 0 < len) (hz : 0 < sz) : ∃ b o, a = some ⟨b, o, none⟩ :=
  h.sla.addr (by rw [flatMap_len h.each]; have := h.len_eq; exact Nat.mul_pos (by omega) hz)
theorem Ms.of_pre {b : Nat} {e : TypeId} {r : List Value} (h : Blk w b (l.flatMap f ++ r) e) (hf : ∀ x, (f x).length = sz) (hl : len = l.length) (hc : len ≤ cap) (hm : cap ≤ maxLen) (h1 : lo ≤ b) (h2 : b < hi) : Ms f sz lo hi w (some ⟨b, 0, none⟩) len cap l :=
  ⟨⟨hc, hm, .inr ⟨rfl, h1, h2, h.lt, fun i v hv => by
    have := h.cell (i := i) (v := v) (by rw [List.getElem?_append_left (List.getElem?_eq_some_iff.1 hv).1]; exact hv)
    simpa using this⟩⟩, hl, hf⟩
theorem Ms.at {b o : Nat} (h : Ms f sz lo hi w (some ⟨b, o, none⟩) len cap l) (d : α) {i : Nat} (hi : i < len) : At w b (o + i * sz) (f (l.getD i d)) := by
  refine (h.sla.at).sub (i * sz) _ ?_
  have h1 : i < l.length := by have := h.len_eq; omega
  rw [flatMap_drop h.each, List.drop_eq_getElem_cons h1, List.flatMap_cons]
  simp [List.getD, h1]
theorem Ms.cell {b o : Nat} (h : Ms f sz lo hi w (some ⟨b, o, none⟩) len cap l) (d : α) {i j : Nat} {v : Value} (hi : i < len) (hv : (f (l.getD i d))[j]? = some v) : w.cell? ⟨b, o + i * sz + j, none⟩ = some v := h.at d hi j v hv
end
theorem Ms.slice {α : Type} {f : α → List Value} {sz lo hi : Nat} {w : World} {a : Option Addr} {len cap : Nat} {l : List α} (h : Ms f sz lo hi w a len cap l) (P : Program) (T E x r m : Nat) (xl xh mx : Option Value) (hl : bnd xl 0 x := by first | exact .inl ⟨rfl, rfl⟩ | exact .inr ⟨_, rfl⟩) (hh : bnd xh len r := by first | exact .inl ⟨rfl, rfl⟩ | exact .inr ⟨_, rfl⟩) (hm : bnd mx cap m := by first | exact .inl ⟨rfl, rfl⟩ | exact .inr ⟨_, rfl⟩) (hmh : mx = none ∨ xh ≠ none := by simp) (h1 : x ≤ r := by omega) (h2 : r ≤ m := by omega) (h3 : m ≤ cap := by omega) (h4 : r ≤ len := by omega) (hT : P.underlying T = some (.slice E) := by kernel_rfl) (hsz : (P.info? E).map (·.size) = some sz := by kernel_rfl) :
    ∃ a', (∀ w', (Instr.sliceAt T (.slice a len cap) xl xh mx).run P w' = .ok (.slice a' (r - x) (m - x)) w') ∧ Ms f sz lo hi w a' (r - x) (m - x) ((l.drop x).take (r - x)) := by
  refine ⟨_, fun w' => rn_sls hT hsz hl hh hm hmh h1 h2 h3, ?_, by have := h.len_eq; simp; omega, h.each⟩
  have := h.sla.part sz x r m h1 h2 h3 (by rw [flatMap_len h.each, h.len_eq]) h4
  rw [flatMap_drop h.each, flatMap_take h.each] at this
  exact this
/-- A stretch in the middle of a row, stored anew. -/
theorem setFrom_mid (p r vs : List Value) (h : vs.length ≤ r.length) : setFrom (p ++ r) p.length vs = p ++ vs ++ r.drop vs.length := by
  rw [setFrom_eq _ _ _ (by simp; omega)]
  simp [List.drop_append]
theorem Es.of_pre {α : Type} {f : α → Value} {lo hi : Nat} {w : World} {len cap : Nat} {l : List α} {b : Nat} {e : TypeId} {r : List Value} (h : Blk w b (l.map f ++ r) e) (hl : len = l.length) (hc : len ≤ cap) (hm : cap ≤ maxLen) (h1 : lo ≤ b) (h2 : b < hi) : Es f lo hi w (some ⟨b, 0, none⟩) len cap l :=
  ⟨⟨hc, hm, .inr ⟨rfl, h1, h2, h.lt, fun i v hv => by
    have := h.cell (i := i) (v := v) (by rw [List.getElem?_append_left (List.getElem?_eq_some_iff.1 hv).1]; exact hv)
    simpa using this⟩⟩, hl⟩
def plaV (p : Nat × Nat) : List Value := [.int .i64 (p.1 : Int), .int .i64 (p.2 : Int)]
/-- A pair of bytes, as cells. -/
def b2C (x : UInt8 × UInt8) : List Value := [.int .u8 ((x.1.toNat : Nat) : Int), .int .u8 ((x.2.toNat : Nat) : Int)]
@[simp] theorem b2C_len (x : UInt8 × UInt8) : (b2C x).length = 2 := rfl

/-- The block of a slice's address. -/
def blkOf (a : Option Addr) (k : Nat) : Prop := ∃ ad, a = some ad ∧ ad.block = k
theorem blkOf_none {k : Nat} : ¬ blkOf none k := by rintro ⟨ad, h, _⟩; cases h

theorem Ext.of_none {w w' : World} (h : Chg (blkOf none) w w') : Ext w w' := h.mono fun _ _ hk => (blkOf_none hk).elim

/-- A slice that the call owns: nil, or at the head of a row of the call's own. -/
structure Own {α : Type} (f : α → Value) (lo hi : Nat) (w : World) (a : Option Addr) (len cap : Nat) (e : TypeId) (l : List α) : Prop where
  row : w.ownsRow lo e 1 (.slice a len cap) len (l.map f)
  len_eq : len = l.length
  below : ∀ ad, a = some ad → ad.block < hi

section
variable {α : Type} {f : α → Value} {lo hi : Nat} {w w' : World} {a : Option Addr} {len cap : Nat} {e : TypeId} {l : List α}

theorem Own.nil (f : α → Value) (lo hi : Nat) (w : World) (e : TypeId) : Own f lo hi w none 0 0 e [] := ⟨by simpa using World.ownsRow_nil w lo e 1, rfl, by intro ad h; cases h⟩
theorem Own.ne {k : Nat} (h : Own f lo hi w a len cap e l) (hk : blkOf a k) : lo ≤ k ∧ k < hi := by
  obtain ⟨ad, rfl, rfl⟩ := hk
  refine ⟨?_, h.below ad rfl⟩
  have := h.row.lt ad.block rfl
  exact this.1
theorem Own.blk (h : Own f lo hi w a len cap e l) : (a = none ∧ len = 0 ∧ cap = 0) ∨ ∃ b cs, a = some ⟨b, 0, none⟩ ∧ Blk w b cs e ∧ lo ≤ b ∧ b < hi ∧ len ≤ cap ∧ cap ≤ maxLen ∧ cs.length = cap ∧ cs.take len = l.map f := by
  rcases h.row.2 with ⟨h1, h2⟩ | ⟨g, c, cur, h1, h2, h3, h4, h5, h6, h7⟩
  · cases h1; exact .inl ⟨rfl, rfl, rfl⟩
  · cases h1
    refine .inr ⟨g, cur.toList, rfl, by simpa [Blk] using h3, h2, h.below _ rfl, h4, h5, by simpa using h6, by simpa using h7⟩
theorem Own.chg {S : Nat → Prop} (h : Own f lo hi w a len cap e l) (hc : Chg S w w') (hs : ∀ k, lo ≤ k → k < hi → ¬ S k) : Own f lo hi w' a len cap e l := by
  refine ⟨⟨h.row.1, ?_⟩, h.len_eq, h.below⟩
  rcases h.row.2 with h1 | ⟨g, c, cur, h1, h2, h3, h4⟩
  · exact .inl h1
  · cases h1
    have hlt : g < w.heap.size := (Array.getElem?_eq_some_iff.1 h3).1
    exact .inr ⟨g, cap, cur, rfl, h2, by rw [hc.block g hlt (hs g h2 (h.below _ rfl))]; exact h3, h4⟩
theorem Own.ext (h : Own f lo hi w a len cap e l) (hc : Ext w w') : Own f lo hi w' a len cap e l := h.chg hc (fun _ _ _ hf => hf)
theorem Own.mono {lo' hi' : Nat} (h : Own f lo hi w a len cap e l) (h1 : lo' ≤ lo) (h2 : hi ≤ hi') : Own f lo' hi' w a len cap e l := by
  refine ⟨⟨h.row.1, ?_⟩, h.len_eq, fun ad ha => Nat.lt_of_lt_of_le (h.below ad ha) h2⟩
  rcases h.row.2 with h3 | ⟨g, c, cur, h3, h4, h5⟩
  · exact .inl h3
  · exact .inr ⟨g, c, cur, h3, by omega, h5⟩
theorem Own.es (h : Own f lo hi w a len cap e l) : Es f lo hi w a len cap l := by
  refine ⟨?_, h.len_eq⟩
  rcases h.blk with ⟨rfl, rfl, rfl⟩ | ⟨b, cs, rfl, hB, h1, h2, h3, h4, h5, h6⟩
  · have : l = [] := List.eq_nil_of_length_eq_zero h.len_eq.symm
    subst this
    exact SlA.nil _ _ _
  · refine ⟨h3, h4, .inr ⟨rfl, h1, h2, hB.lt, fun i v hv => ?_⟩⟩
    rw [← h6, List.getElem?_take] at hv
    split at hv
    · simpa using hB.cell hv
    · cases hv
theorem Own.bs {l : List UInt8} (h : Own u8v lo hi w a len cap e l) : Bs lo hi w a len cap l := h.es.bs
theorem Own.of_blk {b : Nat} {cs : List Value} (h : Blk w b cs e) (hcs : cs.length = cap) (hl : cs.take len = l.map f) (hn : len = l.length) (hc : len ≤ cap) (hm : cap ≤ maxLen) (h1 : lo ≤ b) (h2 : b < hi) : Own f lo hi w (some ⟨b, 0, none⟩) len cap e l :=
  ⟨⟨by simp [hn], .inr ⟨b, cap, cs.toArray, rfl, h1, h, hc, hm, by simp [hcs], by simpa using hl⟩⟩, hn, by intro ad ha; cases ha; exact h2⟩
theorem Own.now (h : Own f lo hi w a len cap e l) : Own f lo w.heap.size w a len cap e l :=
  ⟨h.row, h.len_eq, by rintro ad rfl; exact (h.row.lt ad.block rfl).2⟩
theorem Ext.ownS {S : Nat → Prop} {u w w' : World} (h : Ext u w) (g : Chg S w w') (hs : ∀ k, S k → k < u.heap.size → False) : Ext u w' :=
  Chg.then h g (fun k hk h2 => hs k h2 hk)
end

theorem Chg.of_grown {w w' : World} {a : Option Addr} {len cap : Nat} (h : w.grownBy w' (Value.ownBlock (.slice a len cap))) : Chg (blkOf a) w w' := by
  refine ⟨h.os, h.tape, h.output, h.size, fun k hk hs => h.block k hk ?_⟩
  intro e
  cases a with
  | none => simp [Value.ownBlock] at e
  | some ad => simp [Value.ownBlock] at e; exact hs ⟨ad, rfl, e.symm⟩

section
variable {P : Program} {n k : Nat} {σ : List (Nat × Value)} {w : World} {ops : Array Oper} {K : List (Nat × Value) → World → Prop} {d : Option Tmp}

theorem op_append {α : Type} {f : α → Value} {lo hi lo2 hi2 : Nat} {l m : List α} (d : Option Tmp) (T ty E bys : Nat) (z : Value) {a : Option Addr} {len cap : Nat} {a2 : Option Addr} {len2 cap2 : Nat}
    (hO : Own f lo hi w a len cap E l) (hS : Es f lo2 hi2 w a2 len2 cap2 m) (h1 : ∀ x, (f x).oneCell' = true)
    (h : ∀ a' cap' w', Own f lo w'.heap.size w' a' (len + len2) cap' E (l ++ m) → Chg (blkOf a) w w' → K (putσ σ d (.slice a' (len + len2) cap')) w')
    (h63 : len + len2 ≤ maxLen := by simp only [maxLen]; omega) (hb : (len + len2) * bys ≤ 140737488355328 := by omega) (hbase : lo ≤ w.heap.size := by omega)
    (hz : z.cells.size = 1 := by rfl) (hT : P.underlying T = some (.slice E) := by kernel_rfl)
    (hE : (P.info? E).map (fun i => (i.zero, i.size, i.bytes)) = some (some z, 1, bys) := by kernel_rfl) 
    (he : exAt ops n σ k = some (d, vS (Builtin.append_ #[T, T] ty #[.slice a len cap, .slice a2 len2 cap2])) := by kernel_rfl) : opWp P ops n k σ w K := by
  obtain ⟨i, hi, hz1, hz2, hz3⟩ := info_parts hE
  have shape : ∀ (v' : Value) (w' : World), w'.ownsRow lo E 1 v' (len + len2) ((l ++ m).map f) → w.grownBy w' (Value.ownBlock (.slice a len cap)) → ∃ a' cap', v' = .slice a' (len + len2) cap' ∧ Own f lo w'.heap.size w' a' (len + len2) cap' E (l ++ m) := by
    intro v' w' hr _
    have hn : len + len2 = (l ++ m).length := by rw [List.length_append, hO.len_eq, hS.len_eq]
    rcases hr.2 with ⟨h1, h2⟩ | ⟨g, c, cur, h1, h2, h3, h4⟩
    · rw [h2] at hr hn ⊢
      exact ⟨none, 0, h1, by subst h1; exact hr, hn, by intro ad hx; cases hx⟩
    · exact ⟨_, c, h1, by subst h1; exact hr, hn, by intro ad hx; cases hx; exact (Array.getElem?_eq_some_iff.1 h3).1⟩
  cases a2 with
  | none =>
    obtain ⟨h2, h3, h4⟩ := hS.sla
    have hm : m = [] := by simpa using h4
    subst hm
    subst h2
    subst h3
    have hr := run_append_owned_none (P := P) w lo T ty E i 1 hT hi _ len _ hO.row
    have hO' : Own f lo w.heap.size w a (len + 0) cap E (l ++ []) := by rw [List.append_nil]; exact hO.now
    exact op_v d _ _ hr (h a cap w hO' (Chg.refl _ _)) he
  | some ad =>
    obtain ⟨v', w', hr, h5, h6, _⟩ := run_append_own (P := P) w lo T ty E i z 1 bys hT hi hz1 hz2 hz3 hz (by omega) _ len _ hO.row ad len2 cap2 (m.map f) (by simp [hS.len_eq]) (fun j u hu => hS.sla.load_add hu) (by
      intro u hu
      obtain ⟨x, _, rfl⟩ := List.mem_map.1 hu
      exact h1 x) h63 hb hbase
    rw [← List.map_append] at h5
    obtain ⟨a', cap', rfl, h7⟩ := shape v' w' h5 h6
    exact op_v d _ _ hr (h a' cap' w' h7 (Chg.of_grown h6)) he

/-- An append that has room, onto a row that is known whole: exactly this slice. -/
theorem op_appendB {lo hi e : Nat} {cs news : List Value} (d : Option Tmp) (T ty E sz b n₀ cap : Nat) (ad : Addr) (len2 cap2 : Nat)
    (hB : Blk w b cs e) (hS : SlA lo hi w (some ad) len2 cap2 news) (hn : news.length = len2 * sz) (h1 : ∀ u ∈ news, u.oneCell' = true) (hfit : (n₀ + len2) * sz ≤ cs.length)
    (h : ∀ w', Blk w' b (setFrom cs (n₀ * sz) news) e → Chg (· = b) w w' → K (putσ σ d (.slice (some ⟨b, 0, none⟩) (n₀ + len2) cap)) w')
    (hroom : n₀ + len2 ≤ cap := by omega) (hT : P.underlying T = some (.slice E) := by kernel_rfl) (hE : (P.info? E).map (·.size) = some sz := by kernel_rfl)
    (he : exAt ops n σ k = some (d, vS (Builtin.append_ #[T, T] ty #[.slice (some ⟨b, 0, none⟩) n₀ cap, .slice (some ad) len2 cap2])) := by kernel_rfl) : opWp P ops n k σ w K := by
  obtain ⟨i, hi, rfl⟩ := Option.map_eq_some_iff.1 hE
  obtain ⟨w', h4, h5, h6⟩ := run_storeCells_blk (P := P) news w b (n₀ * i.size) 0 cs e hB (by rw [hn, Nat.add_zero, ← Nat.add_mul]; exact hfit) h1
  have hfc := run_firstCells_some (P := P) w i.size len2 ad len2 cap2 news hn (fun j u hu => hS.load_add hu)
  refine op_v d _ _ (w' := w') ?_ (h w' (by simpa using h5) h6) he
  simp [Builtin.append_, run_underlying hT, sizeOf, typeInfo, hi, Builtin.lenOf, hroom, hfc, Addr.add_lit, h4]
end

theorem setFrom_all (cs vs : List Value) (h : vs.length = cs.length) : setFrom cs 0 vs = vs := by
  rw [setFrom_eq _ _ _ (by omega)]
  simp [h]
theorem minN (x y : Nat) : (if (y : Int) < (x : Int) then (y : Int) else (x : Int)) = ((min x y : Nat) : Int) := by
  split <;> omega
theorem maxN (x y : Nat) : (if (x : Int) < (y : Int) then (y : Int) else (x : Int)) = ((max x y : Nat) : Int) := by
  split <;> omega
theorem minZ (x y : Int) : (if y < x then y else x) = min x y := by
  split <;> omega

/-- A stretch of a row that is known whole. -/
theorem Blk.slice {w : World} {b : Nat} {cs : List Value} {e : TypeId} {len cap : Nat} (_h : Blk w b cs e) (P : Program) (T E x r m : Nat) (xl xh mx : Option Value) (hl : bnd xl 0 x := by first | exact .inl ⟨rfl, rfl⟩ | exact .inr ⟨_, rfl⟩) (hh : bnd xh len r := by first | exact .inl ⟨rfl, rfl⟩ | exact .inr ⟨_, rfl⟩) (hm : bnd mx cap m := by first | exact .inl ⟨rfl, rfl⟩ | exact .inr ⟨_, rfl⟩) (hmh : mx = none ∨ xh ≠ none := by simp) (h1 : x ≤ r := by omega) (h2 : r ≤ m := by omega) (h3 : m ≤ cap := by omega) (hT : P.underlying T = some (.slice E) := by kernel_rfl) (hsz : (P.info? E).map (·.size) = some 1 := by kernel_rfl) :
    ∃ a', (∀ w', (Instr.sliceAt T (.slice (some ⟨b, 0, none⟩) len cap) xl xh mx).run P w' = .ok (.slice a' (r - x) (m - x)) w') ∧ (x < r → a' = some ⟨b, x, none⟩) := by
  refine ⟨_, fun w' => rn_sls hT hsz hl hh hm hmh h1 h2 h3, fun hlt => ?_⟩
  rw [if_neg (by omega)]
  simp [Addr.add_lit]

theorem run_firstCells {P : Program} {w : World} {α : Type} {f : α → Value} {lo hi len cap : Nat} {a : Option Addr} {l : List α} (hS : Es f lo hi w a len cap l) (n : Nat) (hn : n ≤ len) :
    (Builtin.firstCells 1 n (.slice a len cap)).run P w = .ok ((l.take n).map f).toArray w := by
  cases a with
  | none =>
    obtain ⟨h1, _, h3⟩ := hS.sla
    have : l = [] := by simpa using h3
    subst this
    simp [Builtin.firstCells]
  | some ad =>
    have h2 := run_loadCells_list (P := P) w ad ((l.take n).map f) (fun j v hj => by
      refine hS.sla.load_add (i := j) (v := v) ?_
      rw [List.map_take, List.getElem?_take] at hj
      split at hj
      · exact hj
      · cases hj)
    have h3 : ((l.take n).map f).length = n := by have := hS.len_eq; simp; omega
    rw [h3] at h2
    simpa [Builtin.firstCells] using h2

section
variable {P : Program} {n k : Nat} {σ : List (Nat × Value)} {w : World} {ops : Array Oper} {K : List (Nat × Value) → World → Prop} {d : Option Tmp}
/-- copy into a row that is known whole. -/
theorem op_copy {α : Type} {f : α → Value} {lo hi : Nat} {l : List α} {cs : List Value} {e : TypeId} (d : Option Tmp) (T T2 ty E b o : Nat) {a : Option Addr} {dl dc : Nat} {a2 : Option Addr} {sl sc : Nat}
    (hB : Blk w b cs e) (ha : 0 < min sl dl → a = some ⟨b, o, none⟩) (hfit : o + min sl dl ≤ cs.length) (hS : Es f lo hi w a2 sl sc l) (h1 : ∀ x, (f x).oneCell' = true)
    (h : ∀ w', Blk w' b (setFrom cs o ((l.take (min sl dl)).map f)) e → Chg (· = b) w w' → K (putσ σ d (.int .i64 ((min sl dl : Nat) : Int))) w')
    (hT : P.underlying T = some (.slice E) := by kernel_rfl) (hE : (P.info? E).map (·.size) = some 1 := by kernel_rfl)
    (he : exAt ops n σ k = some (d, vS (Builtin.copy_ #[T, T2] ty #[.slice a dl dc, .slice a2 sl sc])) := by kernel_rfl) : opWp P ops n k σ w K := by
  have h2 := run_sizeOf (w := w) hE
  have h3 := run_firstCells (P := P) hS (min sl dl) (Nat.min_le_left _ _)
  have hlen : ((l.take (min sl dl)).map f).length = min sl dl := by have := hS.len_eq; simp; omega
  by_cases h0 : 0 < min sl dl
  · have ha' := ha h0
    subst ha'
    obtain ⟨w', h4, h5, h6⟩ := run_storeCells_blk (P := P) ((l.take (min sl dl)).map f) w b o 0 cs e hB (by rw [hlen]; simpa using hfit) (by
      intro u hu
      obtain ⟨x, _, rfl⟩ := List.mem_map.1 hu
      exact h1 x)
    refine op_v d _ _ (w' := w') ?_ (h w' (by simpa using h5) h6) he
    simp only [Nat.min_def] at *
    simp_all [Builtin.copy_, run_underlying hT, Builtin.lenOf, goInt, Nat.min_def]
  · have h00 : min sl dl = 0 := by omega
    have hnil : (l.take (min sl dl)).map f = [] := by rw [h00]; simp
    refine op_v d _ _ (w' := w) ?_ (h w (by rw [hnil]; exact hB) (Chg.refl _ _)) he
    have h3' : (Builtin.firstCells 1 (Nat.min sl dl) (.slice a2 sl sc)).run P w = .ok #[] w := by
      rw [hnil] at h3
      exact h3
    cases a with
    | none =>
      simp [Builtin.copy_, run_underlying hT, h2, Builtin.lenOf, goInt, h3']
    | some ad =>
      simp [Builtin.copy_, run_underlying hT, h2, Builtin.lenOf, goInt, h3', storeCells]
end

theorem run_shl {P : Program} {w : World} {T : TypeId} {ox oy : Operand} {kk yk : IntKind} {a s : Nat} (hk : kk.signed = false) (hs : s ≤ kk.bits) : (do eqGuard .shl T ox oy (.int kk (a : Int)) (.int yk (s : Int)); binOp .shl T (.int kk (a : Int)) (.int yk (s : Int)) : Sem Value).run P w = .ok (.int kk ((a * 2 ^ s % 2 ^ kk.bits : Nat) : Int)) w := by
  have h1 : ¬ ((s : Int) < 0) := by omega
  have h2 : min s kk.bits = s := by omega
  simp only [eqGuard, binOp, Op.shift, h1, if_false, Int.toNat_natCast, h2, shlU hk]
  simp

/-- A value that is a slice which reads as these bytes. -/
def Part (lo hi : Nat) (w : World) (v : Value) (l : List UInt8) : Prop := ∃ a n c, v = .slice a n c ∧ Bs lo hi w a n c l
theorem Part.of {lo hi lo' hi' : Nat} {w : World} {a : Option Addr} {n c : Nat} {l : List UInt8} (h : Bs lo' hi' w a n c l) (h1 : lo ≤ lo') (h2 : hi' ≤ hi) : Part lo hi w (.slice a n c) l := ⟨a, n, c, rfl, h.mono h1 h2⟩
theorem Part.nil (lo hi : Nat) (w : World) : Part lo hi w (.slice none 0 0) [] := ⟨none, 0, 0, rfl, Bs.nil _ _ _⟩
theorem Part.chg {S : Nat → Prop} {lo hi : Nat} {w w' : World} {v : Value} {l : List UInt8} (h : Part lo hi w v l) (hc : Chg S w w') (hs : ∀ k, lo ≤ k → k < hi → ¬ S k) : Part lo hi w' v l := by
  obtain ⟨a, n, c, h1, h2⟩ := h
  exact ⟨a, n, c, h1, h2.chg hc hs⟩

/-- These values are slices that read as these strings of bytes. -/
def Parts (lo hi : Nat) (w : World) : List Value → List (List UInt8) → Prop
  | [], [] => True
  | v :: vs, l :: ls => Part lo hi w v l ∧ Parts lo hi w vs ls
  | _, _ => False
theorem Parts.nil {lo hi : Nat} {w : World} : Parts lo hi w [] [] := trivial
theorem Parts.cons {lo hi : Nat} {w : World} {v : Value} {l : List UInt8} {vs : List Value} {ls : List (List UInt8)} (h : Part lo hi w v l) (g : Parts lo hi w vs ls) : Parts lo hi w (v :: vs) (l :: ls) := ⟨h, g⟩

theorem Parts.length {lo hi : Nat} {w : World} : ∀ {vs : List Value} {ls : List (List UInt8)}, Parts lo hi w vs ls → vs.length = ls.length
  | [], [], _ => rfl
  | _ :: _, _ :: _, h => by simpa using Parts.length h.2
theorem Parts.chg {S : Nat → Prop} {lo hi : Nat} {w w' : World} (hc : Chg S w w') (hs : ∀ k, lo ≤ k → k < hi → ¬ S k) : ∀ {vs : List Value} {ls : List (List UInt8)}, Parts lo hi w vs ls → Parts lo hi w' vs ls
  | [], [], _ => trivial
  | _ :: _, _ :: _, h => ⟨h.1.chg hc hs, Parts.chg hc hs h.2⟩
theorem Parts.get {lo hi : Nat} {w : World} : ∀ {vs : List Value} {ls : List (List UInt8)}, Parts lo hi w vs ls → ∀ (i : Nat), i < ls.length → ∃ a n c, vs[i]? = some (.slice a n c) ∧ Bs lo hi w a n c (ls.getD i [])
  | [], [], _, i, hi => by simp at hi
  | _ :: _, _ :: _, h, i, hi => by
    cases i with
    | zero =>
      obtain ⟨a, n, c, rfl, h3⟩ := h.1
      exact ⟨a, n, c, rfl, by simpa using h3⟩
    | succ i => simpa using Parts.get h.2 i (by simpa using hi)

/-- A slice of slices of bytes. -/
structure Ps (lo hi : Nat) (w : World) (a : Option Addr) (len cap : Nat) (vs : List Value) (ls : List (List UInt8)) : Prop where
  sla : SlA lo hi w a len cap vs
  len_eq : len = ls.length
  parts : Parts lo hi w vs ls

section
variable {lo hi : Nat} {w w' : World} {a : Option Addr} {len cap : Nat} {vs : List Value} {ls : List (List UInt8)}
theorem Ps.chg {S : Nat → Prop} (h : Ps lo hi w a len cap vs ls) (hc : Chg S w w') (hs : ∀ k, lo ≤ k → k < hi → ¬ S k) : Ps lo hi w' a len cap vs ls := ⟨h.sla.chg hc hs, h.len_eq, Parts.chg hc hs h.parts⟩
theorem Ps.ext (h : Ps lo hi w a len cap vs ls) (hc : Ext w w') : Ps lo hi w' a len cap vs ls := h.chg hc (fun _ _ _ hf => hf)
theorem Ps.le (h : Ps lo hi w a len cap vs ls) : len ≤ cap ∧ cap ≤ 9223372036854775807 := by
  have := h.sla.le; simpa [maxLen] using this
theorem Ps.nil (lo hi : Nat) (w : World) : Ps lo hi w none 0 0 [] [] := ⟨SlA.nil lo hi w, rfl, .nil⟩
theorem Ps.of_blk {b : Nat} {e : TypeId} (h : Blk w b vs e) (hc : len ≤ cap) (hm : cap ≤ maxLen) (h1 : lo ≤ b) (h2 : b < hi) (hp : Parts lo hi w vs ls) (hl : len = ls.length := by rfl) : Ps lo hi w (some ⟨b, 0, none⟩) len cap vs ls :=
  ⟨SlA.of_blk h hc hm h1 h2, hl, hp⟩
theorem Ps.addr (h : Ps lo hi w a len cap vs ls) (hp : 0 < len) : ∃ b o, a = some ⟨b, o, none⟩ :=
  h.sla.addr (by have := h.len_eq; have := Parts.length h.parts; omega)
theorem Ps.cell {b o : Nat} (h : Ps lo hi w (some ⟨b, o, none⟩) len cap vs ls) {i : Nat} (hi' : i < len) : ∃ a' n c, w.cell? ⟨b, o + i * 1, none⟩ = some (.slice a' n c) ∧ Bs lo hi w a' n c (ls.getD i []) := by
  obtain ⟨a', n, c, h1, h2⟩ := h.parts.get i (by have := h.len_eq; omega)
  exact ⟨a', n, c, by rw [Nat.mul_one]; exact (h.sla.get h1).2.2.2, h2⟩
end

theorem Bs.now {lo hi : Nat} {w : World} {a : Option Addr} {len cap : Nat} {l : List UInt8} (h : Bs lo hi w a len cap l) : Bs lo w.heap.size w a len cap l := ⟨h.sla.now, h.len_eq⟩
theorem Es.now {α : Type} {f : α → Value} {lo hi : Nat} {w : World} {a : Option Addr} {len cap : Nat} {l : List α} (h : Es f lo hi w a len cap l) : Es f lo w.heap.size w a len cap l := ⟨h.sla.now, h.len_eq⟩
theorem Parts.now {lo hi : Nat} {w : World} : ∀ {vs : List Value} {ls : List (List UInt8)}, Parts lo hi w vs ls → Parts lo w.heap.size w vs ls
  | [], [], _ => trivial
  | _ :: _, _ :: _, ⟨⟨a, n, c, e, h⟩, h2⟩ => ⟨⟨a, n, c, e, h.now⟩, Parts.now h2⟩
theorem Ps.now {lo hi : Nat} {w : World} {a : Option Addr} {len cap : Nat} {vs : List Value} {ls : List (List UInt8)} (h : Ps lo hi w a len cap vs ls) : Ps lo w.heap.size w a len cap vs ls := ⟨h.sla.now, h.len_eq, Parts.now h.parts⟩

theorem Part.at {lo hi : Nat} {w : World} {a : Option Addr} {n c : Nat} {l : List UInt8} (h : Bs lo hi w a n c l) : Part 0 w.heap.size w (.slice a n c) l := ⟨a, n, c, rfl, h.now.mono (Nat.zero_le _) (Nat.le_refl _)⟩
theorem Ps.of_new {w : World} {b n : Nat} {e : TypeId} {vs : List Value} {ls : List (List UInt8)} (h : Blk w b vs e) (hl : n = ls.length) (hm : n ≤ maxLen) (hp : Parts 0 w.heap.size w vs ls) : Ps 0 w.heap.size w (some ⟨b, 0, none⟩) n n vs ls :=
  ⟨SlA.of_blk h (Nat.le_refl _) hm (Nat.zero_le _) h.lt, hl, hp⟩
theorem le_maxLen {n : Nat} (h : n ≤ 1099511627776) : n ≤ maxLen := by simp only [maxLen]; omega

/-- Where two ways meet again. -/
def EndJ {ds : List Deferred} {X : Type} (live : X → List (Nat × Value)) (dead : List Nat) (n : Nat) (σ : List (Nat × Value)) (I : X → World → Prop) (a : Act) (w' : World) : Prop :=
  ∃ (x' : X) (d' : Nat → Value), a = Fr ds n (live x' ++ (dead.map fun s => (s, d' s)) ++ σ) ∧ I x' w'
theorem endJ_mk {ds : List Deferred} {X : Type} {live : X → List (Nat × Value)} {dead : List Nat} {n : Nat} {σ τ : List (Nat × Value)} {I : X → World → Prop} {w' : World} (x' : X)
    (hI : I x' w') (hs : τ.drop (τ.length - σ.length) = σ := by kernel_rfl) (hk : keysOk (τ.take (τ.length - σ.length)) (live x') dead = true := by kernel_rfl) (hv : ((live x').map fun p => lk τ p.1) = (live x').map Prod.snd := by kernel_rfl) : EndJ (ds := ds) live dead n σ I (Fr ds n τ) w' :=
  ⟨x', lk τ, Fr_congr (frame_eq hs hk hv), hI⟩
theorem wpC_join {ro : Option Nat} {ds : List Deferred} {P : Program} {Q : Exit → Act → World → Prop} {n : Nat} {σ : List (Nat × Value)} {w : World} {X : Type} {x y : Code} (live : X → List (Nat × Value)) (dead : List Nat) (I : X → World → Prop)
    (hx : wpC (ro := ro) (ds := ds) P x (Exit.then (EndJ (ds := ds) live dead n σ I) Q) n σ w) (hy : ∀ (x' : X) (d : Nat → Value) (w' : World), I x' w' → wpC (ro := ro) (ds := ds) P y Q n (live x' ++ (dead.map fun s => (s, d s)) ++ σ) w') : wpC (ro := ro) (ds := ds) P (.seq x y) Q n σ w := by
  refine wpC_seq (wpIn_mono hx ?_)
  intro e a w' hq
  cases e with
  | normal =>
    obtain ⟨x', d, rfl, hI⟩ := hq
    exact hy x' d w' hI
  | exit id => exact hq
  | goto l => exact hq
  | ret => exact hq
  | panic ch => exact hq
  | outgrown => exact hq

/-- The bytes of a slice that came in. -/
theorem bs_open {w : World} {x : Addr} {len cap : Nat} {zs : List Int} (hl : len ≤ cap) (hm : cap ≤ maxLen) (hz : zs.length = cap) (hcell : ∀ i, i < zs.length → w.cell? (x.add i) = some (.int .u8 (zs.getD i 0))) (hwz : ∀ n ∈ zs, (Lit.int .u8 n).wf = true) :
    ∃ l, Bs 0 w.heap.size w (some x) len cap l := by
  refine ⟨(zs.take len).map fun n => UInt8.ofNat n.toNat, ⟨hl, hm, ?_⟩, by simp; omega⟩
  by_cases h0 : len = 0
  · subst h0; exact .inl (by simp [u8s])
  · have hc0 := hcell 0 (by omega)
    have hx0 : x.add 0 = x := by simp [Addr.add]
    rw [hx0] at hc0
    have hsp : x.spot = none := by
      cases hs : x.spot with
      | none => rfl
      | some k =>
        exfalso
        simp only [World.cell?, hs] at hc0
        split at hc0 <;> simp at hc0
    have hlt := World.block_lt_of_cell? w x hc0
    obtain ⟨b, o, s⟩ := x
    simp only at hsp hlt; subst hsp
    refine .inr ⟨rfl, Nat.zero_le _, hlt, hlt, fun i v hv => ?_⟩
    have hi : i < len := by
      have h1 := (List.getElem?_eq_some_iff.1 hv).1
      simp at h1
      omega
    have h2 := hcell i (by omega)
    rw [Addr.add_lit] at h2
    rw [h2]
    have h3 : i < zs.length := by omega
    have h4 := hwz _ (List.getElem_mem h3)
    have h5 : 0 ≤ zs[i] ∧ zs[i] ≤ 255 := by
      simp [Lit.wf, IntKind.min, IntKind.max, IntKind.signed, IntKind.bits] at h4
      omega
    simp [u8s, hi, h3] at hv
    rw [← hv]
    simp [List.getD, h3]
    omega
end Go.Cs
