/- The step rules for single operations, for any program: loads, stores, new memory, indexes, slices, conversions. No condition. -/
import Derived.Test.YthjplefmfjkhfaaDoorCsB
set_option linter.all false
set_option linter.unusedVariables false
namespace Go.Cs
open Go Go.RowKit

def vS (s : Sem Value) : Sem Next := do pure (.value (← s))
def uS (s : Sem Unit) : Sem Next := do s; pure .skip

theorem run_vS {P : Program} {s : Sem Value} {w w' : World} {v : Value} (h : s.run P w = .ok v w') : (vS s).run P w = .ok (.value v) w' := by
  simp [vS, h]
theorem run_uS {P : Program} {s : Sem Unit} {w w' : World} (h : s.run P w = .ok () w') : (uS s).run P w = .ok .skip w' := by
  simp [uS, h]

/-- An operation on two numbers, the guard of its divisor or its shift ahead of it. -/
abbrev bo (op : BinOp) (T : TypeId) (ox oy : Operand) (x y : Value) : Sem Value := do eqGuard op T ox oy x y; binOp op T x y
theorem Blk.set1 {w : World} {b : Nat} {x v : Value} {e : TypeId} (h : Blk w b ([x].set 0 v) e) : Blk w b [v] e := h

/-- A struct or an array? -/
def aggB : TypeDesc → Bool
  | .struct _ | .array _ _ => true
  | _ => false

section
variable {P : Program} {n k : Nat} {σ : List (Nat × Value)} {w : World} {ops : Array Oper} {K : List (Nat × Value) → World → Prop} {d : Option Tmp}

theorem op_v (d : Option Tmp) (s : Sem Value) (v : Value) {w' : World} (hr : s.run P w = .ok v w') (h : K (putσ σ d v) w') (he : exAt ops n σ k = some (d, vS s) := by kernel_rfl) : opWp P ops n k σ w K :=
  opWp_val he (run_vS hr) h
theorem op_eqv (d : Option Tmp) (u v : Value) (hx : u = v) (h : K (putσ σ d v) w) (he : valAt P ops n σ k w = some (d, u, w) := by kernel_rfl) : opWp P ops n k σ w K :=
  op_valAt he (hx ▸ h)
/-- A whole number, spelt otherwise. -/
theorem op_in (d : Option Tmp) (kk : IntKind) (x : Int) (y : Nat) (hx : x = (y : Int)) (h : K (putσ σ d (.int kk (y : Int))) w) (he : valAt P ops n σ k w = some (d, .int kk x, w) := by kernel_rfl) : opWp P ops n k σ w K :=
  op_valAt he (hx ▸ h)
theorem op_iz (d : Option Tmp) (kk : IntKind) (x y : Int) (hx : x = y) (h : K (putσ σ d (.int kk y)) w) (he : valAt P ops n σ k w = some (d, .int kk x, w) := by kernel_rfl) : opWp P ops n k σ w K :=
  op_valAt he (hx ▸ h)
theorem op_b (d : Option Tmp) (x y : Bool) (hx : x = y) (h : K (putσ σ d (.bool y)) w) (he : valAt P ops n σ k w = some (d, .bool x, w) := by kernel_rfl) : opWp P ops n k σ w K :=
  op_valAt he (hx ▸ h)
theorem op_split (d : Option Tmp) (x : Bool) (ht : x = true → K (putσ σ d (.bool true)) w) (hf : x = false → K (putσ σ d (.bool false)) w) (he : valAt P ops n σ k w = some (d, .bool x, w) := by kernel_rfl) : opWp P ops n k σ w K := by
  cases hx : x with
  | true => exact op_valAt he (hx ▸ ht hx)
  | false => exact op_valAt he (hx ▸ hf hx)
/-- What a step of the kernel's yields. -/
theorem op_val (d : Option Tmp) (v : Value) (h : K (putσ σ d v) w) (he : valAt P ops n σ k w = some (d, v, w) := by kernel_rfl) : opWp P ops n k σ w K :=
  op_valAt he h
theorem op_call (d : Option Tmp) {f : FuncId} {args : Array Value} {R : Value → World → Prop} (hc : Calls P f args w (Ret R)) (h : ∀ v w', R v w' → K (putσ σ d v) w') (he : callAt P ops n σ k w = some (d, f, args, w) := by kernel_rfl) : opWp P ops n k σ w K :=
  op_callAt he hc h
theorem op_u {s : Sem Unit} {w' : World} (he : exAt ops n σ k = some (d, uS s)) (hr : s.run P w = .ok () w') (h : K (putσ σ d undef) w') : opWp P ops n k σ w K :=
  opWp_do he (run_uS hr) h
/-- A new block of cells. -/
theorem op_new (d : Option Tmp) (s : Sem Value) (v : Value) (cs : List Value) (e : TypeId) 
    (h : ∀ w', Blk w' w.heap.size cs e → Ext w w' → K (putσ σ d v) w') (hr : s.run P w = .ok v (w.alloc (.cells cs.toArray e)) := by kernel_rfl) (he : exAt ops n σ k = some (d, vS s) := by kernel_rfl) : opWp P ops n k σ w K :=
  op_v d s v hr (h _ (Blk.new w cs e) (Ext.alloc w _)) he

theorem rn_ld {T : TypeId} {ad : Addr} {v : Value} (hc : w.cell? ad = some v) (hT : (P.underlying T).map aggB = some false := by kernel_rfl) :
    (Instr.loadAt T (.pointer (some ad))).run P w = .ok v w := by
  obtain ⟨t, ht, hb⟩ := Option.map_eq_some_iff.1 hT
  have ha : (isAgg T).run P w = .ok false w := by
    cases t <;> simp_all [isAgg, run_underlying ht, aggB]
  simp [Instr.loadAt, Instr.sureAddr, loadVar, ha, load, Sem.run, hc]

theorem run_isAgg_true {T : TypeId} (hT : (P.underlying T).map aggB = some true) : (isAgg T).run P w = .ok true w := by
  obtain ⟨t, ht, hb⟩ := Option.map_eq_some_iff.1 hT
  cases t <;> simp_all [isAgg, run_underlying ht, aggB]
theorem run_isAgg_false {T : TypeId} (hT : (P.underlying T).map aggB = some false) : (isAgg T).run P w = .ok false w := by
  obtain ⟨t, ht, hb⟩ := Option.map_eq_some_iff.1 hT
  cases t <;> simp_all [isAgg, run_underlying ht, aggB]
theorem run_sizeOf {T sz : Nat} (hT : (P.info? T).map (·.size) = some sz) : (sizeOf T).run P w = .ok sz w := by
  obtain ⟨i, hi, rfl⟩ := Option.map_eq_some_iff.1 hT
  simp [sizeOf, typeInfo, hi]

/-- The cells from o on of block b are these. -/
def At (w : World) (b o : Nat) (vs : List Value) : Prop := ∀ (i : Nat) (v : Value), vs[i]? = some v → w.cell? ⟨b, o + i, none⟩ = some v

theorem Blk.at {w : World} {b : Nat} {cs : List Value} {e : TypeId} (h : Blk w b cs e) (o : Nat) (vs : List Value) (hv : (cs.drop o).take vs.length = vs) : At w b o vs := by
  intro i v hi
  refine h.cell ?_
  rw [← hv, List.getElem?_take] at hi
  split at hi
  · rwa [List.getElem?_drop] at hi
  · cases hi
theorem Blk.all {w : World} {b : Nat} {cs : List Value} {e : TypeId} (h : Blk w b cs e) : At w b 0 cs := fun i v hi => by simpa using h.cell hi
theorem At.chg {S : Nat → Prop} {w w' : World} {b o : Nat} {vs : List Value} (h : At w b o vs) (hc : Chg S w w') (hs : ¬ S b) : At w' b o vs := fun i v hi => hc.cell hs (h i v hi)
theorem At.ext {w w' : World} {b o : Nat} {vs : List Value} (h : At w b o vs) (hc : Ext w w') : At w' b o vs := h.chg hc (fun hf => hf)
theorem At.sub {w : World} {b o : Nat} {vs : List Value} (h : At w b o vs) (l : Nat) (us : List Value) (hu : (vs.drop l).take us.length = us) : At w b (o + l) us := by
  intro i v hi
  rw [← hu, List.getElem?_take] at hi
  split at hi
  · rw [List.getElem?_drop] at hi
    rw [Nat.add_assoc]; exact h _ _ hi
  · cases hi
theorem At.one {w : World} {b o : Nat} {vs : List Value} (h : At w b o vs) (l : Nat) (v : Value) (hv : vs[l]? = some v) : w.cell? ⟨b, o + l, none⟩ = some v := h l v hv
theorem SlA.at {lo hi : Nat} {w : World} {b o len cap : Nat} {vs : List Value} (h : SlA lo hi w (some ⟨b, o, none⟩) len cap vs) : At w b o vs := fun _ _ hi => (h.get hi).2.2.2

theorem rn_lda {T b o : Nat} {vs : List Value} (hc : At w b o vs) (hsz : (P.info? T).map (·.size) = some vs.length := by kernel_rfl) (hT : (P.underlying T).map aggB = some true := by kernel_rfl) :
    (Instr.loadAt T (.pointer (some ⟨b, o, none⟩))).run P w = .ok (.agg vs.toArray) w := by
  have h1 := run_isAgg_true (w := w) hT
  have h2 := run_sizeOf (w := w) hsz
  have h3 : (loadCells ⟨b, o, none⟩ vs.length).run P w = .ok vs.toArray w := run_loadCells_list w ⟨b, o, none⟩ vs (fun j v hj => by rw [Addr.add_lit]; exact hc j v hj)
  simp [Instr.loadAt, Instr.sureAddr, loadVar, h1, h2, h3]

/-- A store of a value, whole, into a block that is known whole. -/
theorem rn_st {T b o e : Nat} {v : Value} {cs vs : List Value} (hB : Blk w b cs e) (hv : v.cells = vs.toArray) (hsz : (P.info? T).map (·.size) = some vs.length) (ho : o + vs.length ≤ cs.length) (h1 : ∀ u ∈ vs, u.oneCell' = true) :
    ∃ w', (Instr.storeAt T (.pointer (some ⟨b, o, none⟩)) v).run P w = .ok () w' ∧ Blk w' b (setFrom cs o vs) e ∧ Chg (· = b) w w' := by
  obtain ⟨w', h2, h3, h4⟩ := run_storeCells_blk (P := P) vs w b o 0 cs e hB (by simpa using ho) h1
  refine ⟨w', ?_, by simpa using h3, h4⟩
  have h5 := run_sizeOf (w := w) hsz
  simp [Instr.storeAt, Instr.sureAddr, storeVar, hv, h5, h2]

theorem op_store (T b o e : Nat) (v : Value) (cs vs : List Value) (hB : Blk w b cs e) (hsz : (P.info? T).map (·.size) = some vs.length) (ho : o + vs.length ≤ cs.length) (h1 : ∀ u ∈ vs, u.oneCell' = true)
    (h : ∀ w', Blk w' b (setFrom cs o vs) e → Chg (· = b) w w' → K (putσ σ none undef) w') (hv : v.cells = vs.toArray := by rfl) (he : exAt ops n σ k = some (none, uS (Instr.storeAt T (.pointer (some ⟨b, o, none⟩)) v)) := by kernel_rfl) : opWp P ops n k σ w K := by
  obtain ⟨w', h2, h3, h4⟩ := rn_st (P := P) hB hv hsz ho h1
  exact op_u he h2 (h w' h3 h4)
/-- A store of one cell. -/
theorem op_store1 (T b o e : Nat) (v : Value) (cs : List Value) (hB : Blk w b cs e) (ho : o < cs.length)
    (h : ∀ w', Blk w' b (cs.set o v) e → Chg (· = b) w w' → K (putσ σ none undef) w') (h1 : v.oneCell' = true := by rfl) (hv : v.cells = #[v] := by rfl) (hsz : (P.info? T).map (·.size) = some 1 := by kernel_rfl)
    (he : exAt ops n σ k = some (none, uS (Instr.storeAt T (.pointer (some ⟨b, o, none⟩)) v)) := by kernel_rfl) : opWp P ops n k σ w K :=
  op_store T b o e v cs [v] hB hsz ho (by intro u hu; simp only [List.mem_singleton] at hu; subst hu; exact h1) h hv he

theorem rn_ixs {T E sz b o len cap : Nat} {kk : IntKind} {i : Nat} (hi : i < len) (hT : P.underlying T = some (.slice E) := by kernel_rfl) (hsz : (P.info? E).map (·.size) = some sz := by kernel_rfl) :
    (Instr.indexAt T (.slice (some ⟨b, o, none⟩) len cap) (.int kk (i : Int))).run P w = .ok (.pointer (some ⟨b, o + i * sz, none⟩)) w := by
  have h2 := run_sizeOf (w := w) hsz
  have h3 : (0 : Int) ≤ (i : Int) ∧ (i : Int) < (len : Int) := by omega
  simp [Instr.indexAt, asIntOf, run_underlying hT, h2, Addr.add_lit, hi]

theorem rn_ixa {T E sz b o m : Nat} {kk : IntKind} {i : Nat} (hi : i < m) (hT : P.underlying T = some (.array m E) := by kernel_rfl) (hsz : (P.info? E).map (·.size) = some sz := by kernel_rfl) :
    (Instr.indexAt T (.pointer (some ⟨b, o, none⟩)) (.int kk (i : Int))).run P w = .ok (.pointer (some ⟨b, o + i * sz, none⟩)) w := by
  have h2 := run_sizeOf (w := w) hsz
  simp [Instr.indexAt, asIntOf, run_underlying hT, h2, Addr.add_lit, hi, Instr.sureAddr]

/-- The bounds of a slice expression, read. -/
def bnd (x : Option Value) (y : Nat) (z : Nat) : Prop := (x = none ∧ z = y) ∨ ∃ kk, x = some (.int kk (z : Int))

theorem rn_sls {T E sz len cap l r m : Nat} {a : Option Addr} {lo hi mx : Option Value} (hT : P.underlying T = some (.slice E)) (hsz : (P.info? E).map (·.size) = some sz)
    (hl : bnd lo 0 l) (hh : bnd hi len r) (hm : bnd mx cap m) (hmh : mx = none ∨ hi ≠ none) (h1 : l ≤ r) (h2 : r ≤ m) (h3 : m ≤ cap) :
    (Instr.sliceAt T (.slice a len cap) lo hi mx).run P w = .ok (.slice (if m = l then a else a.map (·.add (l * sz))) (r - l) (m - l)) w := by
  have g2 := run_sizeOf (w := w) hsz
  have c1 : ((m : Int) ≤ (cap : Int)) := by omega
  have c2 : ((r : Int) ≤ (m : Int)) := by omega
  have c3 : ((l : Int) ≤ (r : Int)) := by omega
  have c4 : r ≤ cap := by omega
  rcases hl with ⟨rfl, rfl⟩ | ⟨k1, rfl⟩ <;> rcases hm with ⟨rfl, rfl⟩ | ⟨k3, rfl⟩ <;> rcases hh with ⟨rfl, rfl⟩ | ⟨k2, rfl⟩ <;>
    simp_all [Instr.sliceAt, Instr.slice, Instr.sliceBounds, Instr.sliceBound, asIntOf, run_underlying hT]

/-- A slice of a whole array in memory. -/
theorem rn_sla {T E sz m b o : Nat} (hT : P.underlying T = some (.array m E) := by kernel_rfl) (hsz : (P.info? E).map (·.size) = some sz := by kernel_rfl) :
    (Instr.sliceAt T (.pointer (some ⟨b, o, none⟩)) none none none).run P w = .ok (.slice (some ⟨b, o, none⟩) m m) w := by
  have g2 := run_sizeOf (w := w) hsz
  have : (if m = 0 then (⟨b, o, none⟩ : Addr) else Addr.add ⟨b, o, none⟩ 0) = ⟨b, o, none⟩ := by split <;> simp [Addr.add_lit]
  simp [Instr.sliceAt, Instr.sliceBounds, Instr.sureAddr, run_underlying hT, g2, Addr.add_lit]

/-- A slice of an array in memory, by bounds. -/
theorem rn_slb {T E sz len b o l r m : Nat} {lo hi mx : Option Value} (hl : bnd lo 0 l) (hh : bnd hi len r) (hm : bnd mx len m) (hmh : mx = none ∨ hi ≠ none) (h1 : l ≤ r) (h2 : r ≤ m) (h3 : m ≤ len) (hT : P.underlying T = some (.array len E) := by kernel_rfl) (hsz : (P.info? E).map (·.size) = some sz := by kernel_rfl) :
    (Instr.sliceAt T (.pointer (some ⟨b, o, none⟩)) lo hi mx).run P w = .ok (.slice (if m = l then some ⟨b, o, none⟩ else some ⟨b, o + l * sz, none⟩) (r - l) (m - l)) w := by
  have g2 := run_sizeOf (w := w) hsz
  have c1 : ((m : Int) ≤ (len : Int)) := by omega
  have c2 : ((r : Int) ≤ (m : Int)) := by omega
  have c3 : ((l : Int) ≤ (r : Int)) := by omega
  have c4 : r ≤ len := by omega
  rcases hl with ⟨rfl, rfl⟩ | ⟨k1, rfl⟩ <;> rcases hm with ⟨rfl, rfl⟩ | ⟨k3, rfl⟩ <;> rcases hh with ⟨rfl, rfl⟩ | ⟨k2, rfl⟩ <;>
    simp_all [Instr.sliceAt, Instr.slice, Instr.sliceBounds, Instr.sliceBound, Instr.sureAddr, asIntOf, run_underlying hT, Addr.add_lit] <;> (try split) <;> rfl

theorem At.sla {w : World} {b o len : Nat} {vs : List Value} (h : At w b o vs) (hb : b < w.heap.size) (lo hi : Nat) (h1 : lo ≤ b) (h2 : b < hi) (hm : len ≤ maxLen) : SlA lo hi w (some ⟨b, o, none⟩) len len vs :=
  ⟨Nat.le_refl _, hm, .inr ⟨rfl, h1, h2, hb, h⟩⟩

theorem mul_le_cast {a b : Nat} (h : a * b ≤ 281474976710656) : (a : Int) * (b : Int) ≤ 281474976710656 := by
  have g : ((a * b : Nat) : Int) ≤ 281474976710656 := by omega
  rwa [Int.natCast_mul] at g

/-- 'make([]T, len, cap)'. -/
theorem op_make (d : Option Tmp) (T E sz bys len cap : Nat) (k1 k2 : IntKind) (z : Value) (hlc : len ≤ cap) (hb : bys * cap ≤ 281474976710656) (h63 : cap ≤ 9223372036854775807)
    (h : ∀ w', Blk w' w.heap.size (madeCells z.cells (cap * sz)).toList E → Ext w w' → K (putσ σ d (.slice (some ⟨w.heap.size, 0, none⟩) len cap)) w') (hT : P.underlying T = some (.slice E) := by kernel_rfl)
    (hE : (P.info? E).map (fun i => (i.zero, i.size, i.bytes)) = some (some z, sz, bys) := by kernel_rfl) (he : exAt ops n σ k = some (d, vS (Instr.makeSlice T (.int k1 (len : Int)) (.int k2 (cap : Int)))) := by kernel_rfl) : opWp P ops n k σ w K := by
  obtain ⟨i, hi, hz, rfl, rfl⟩ := info_parts hE
  have hr := run_make (P := P) w T E i z hT hi hz k1 k2 len cap (by omega) (by omega) (mul_le_cast hb) (by omega)
  simp only [Int.toNat_natCast] at hr
  have he' := he
  exact op_new d _ _ (madeCells z.cells (cap * i.size)).toList E h (by simpa using hr) he'

theorem madeCells_one (z : Value) (m : Nat) : (madeCells #[z] m).toList = List.replicate m z := by
  simp only [madeCells, Array.toList_map, Array.toList_range]
  rw [List.eq_replicate_iff]
  refine ⟨by simp, ?_⟩
  intro b hb
  simp only [List.mem_map] at hb
  obtain ⟨i, _, rfl⟩ := hb
  simp [Nat.mod_one]

/-! ### Bytes -/

def u8s (l : List UInt8) : List Value := l.map fun c => .int .u8 c.toNat

@[simp] theorem u8s_length (l : List UInt8) : (u8s l).length = l.length := by simp [u8s]
theorem u8s_append (l m : List UInt8) : u8s (l ++ m) = u8s l ++ u8s m := by simp [u8s]
theorem u8s_getElem? (l : List UInt8) (i : Nat) : (u8s l)[i]? = (l[i]?).map fun c => Value.int .u8 c.toNat := by simp [u8s]
theorem u8s_get {l : List UInt8} {i : Nat} (h : i < l.length) : (u8s l)[i]? = some (.int .u8 (l[i]).toNat) := by simp [u8s, h]
theorem u8s_drop (l : List UInt8) (i : Nat) : (u8s l).drop i = u8s (l.drop i) := by simp [u8s, List.map_drop]
theorem u8s_take (l : List UInt8) (i : Nat) : (u8s l).take i = u8s (l.take i) := by simp [u8s, List.map_take]
theorem u8s_one (l : List UInt8) : ∀ u ∈ u8s l, u.oneCell' = true := by
  intro u hu
  simp only [u8s, List.mem_map] at hu
  obtain ⟨c, _, rfl⟩ := hu
  rfl

/-- One cell each: of elements that are one cell. -/
theorem made_one (z : Value) (hz : z.cells = #[z]) (m : Nat) : (madeCells z.cells (m * 1)).toList = List.replicate m z := by
  rw [hz, Nat.mul_one, madeCells_one]

theorem run_bytes_string {src E dst : Nat} (hs : P.underlying src = some (.slice E)) (he : P.underlying E = some (.int .u8)) (hd : P.underlying dst = some .string) {lo hi : Nat} {a : Option Addr} {cap : Nat} {l : List UInt8} (hS : SlA lo hi w a l.length cap (u8s l)) :
    (convert src dst (.slice a l.length cap)).run P w = .ok (.string ⟨l.toArray⟩) w := by
  cases a with
  | none =>
    obtain ⟨h1, _, _⟩ := hS
    have : l = [] := List.eq_nil_of_length_eq_zero h1
    subst this
    exact run_convert_bytes_nil w src E hs he _ _ dst hd
  | some ad =>
    have hl : (loadCells ad l.length).run P w = .ok ((l.map fun c => (c.toNat : Int)).map (Value.int .u8)).toArray w := by
      have := hS.loads (P := P)
      rw [u8s_length] at this
      simpa [u8s, Function.comp_def] using this
    rw [run_convert_bytes_string w src dst E _ _ cap hs he hd, run_bytesToString w ad l.length cap _ hl, foldl_push_bytes]
    congr 2
    simp [Function.comp_def, ByteArray.empty, ByteArray.emptyWithCapacity]
    rfl

theorem str_eq (l m : List UInt8) : ((⟨l.toArray⟩ : ByteArray).toList == (⟨m.toArray⟩ : ByteArray).toList) = decide (l = m) := by
  rw [ByteArray.toList_mk, ByteArray.toList_mk]
  by_cases h : l = m <;> simp [h]

end
end Go.Cs
