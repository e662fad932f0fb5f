/- Integer facts in natural numbers: what a sum, a shift, a conversion wraps to. Lemmas only; no condition. -/
import Derived.Test.YthjplefmfjkhfaaDoorCsC
set_option linter.all false
set_option linter.unusedVariables false
namespace Go.Cs
open Go Go.RowKit

theorem wrapS {x y : Int} (h : x = y) (h1 : -9223372036854775808 ≤ y) (h2 : y ≤ 9223372036854775807) : IntKind.i64.wrap x = y := by
  subst h; rw [IntKind.wrap_i64]; omega

theorem wrapU {k : IntKind} (hk : k.signed = false) {x : Int} {m : Nat} (h : x = (m : Int)) : k.wrap x = ((m % 2 ^ k.bits : Nat) : Int) := by
  subst h
  simp [IntKind.wrap, hk]

theorem wrapUx {k : IntKind} (hk : k.signed = false) {x : Int} {m : Nat} (h : x = (m : Int)) (hm : m < 2 ^ k.bits) : k.wrap x = (m : Int) := by
  rw [wrapU hk h, Nat.mod_eq_of_lt hm]

theorem wrapUsub {k : IntKind} (hk : k.signed = false) {a b : Nat} (hb : b ≤ 2 ^ k.bits) : k.wrap ((a : Int) - (b : Int)) = (((a + (2 ^ k.bits - b)) % 2 ^ k.bits : Nat) : Int) := by
  have h1 : ((a : Int) - (b : Int)) % ((2 ^ k.bits : Nat) : Int) = ((a + (2 ^ k.bits - b) : Nat) : Int) % ((2 ^ k.bits : Nat) : Int) := by
    have : ((a + (2 ^ k.bits - b) : Nat) : Int) = ((a : Int) - (b : Int)) + ((2 ^ k.bits : Nat) : Int) := by omega
    rw [this, Int.add_emod_right]
  simp only [IntKind.wrap, hk, Bool.false_and, Bool.false_eq_true, if_false]
  rw [show ((2 : Int) ^ k.bits) = ((2 ^ k.bits : Nat) : Int) by simp, h1]
  omega

theorem bitsU (k : IntKind) (hk : k.signed = false) (r : BitVec k.bits) : k.wrap (r.toNat : Int) = (r.toNat : Int) :=
  wrapUx hk rfl r.isLt

theorem ofIntNat (n m : Nat) : BitVec.ofInt n (m : Int) = BitVec.ofNat n m := by simp

theorem orU (k : IntKind) (hk : k.signed = false) {a b : Nat} (ha : a < 2 ^ k.bits) (hb : b < 2 ^ k.bits) : k.wrap ((BitVec.ofInt k.bits (a : Int) ||| BitVec.ofInt k.bits (b : Int)).toNat : Int) = ((a ||| b : Nat) : Int) := by
  rw [bitsU k hk, ofIntNat, ofIntNat, BitVec.toNat_or, BitVec.toNat_ofNat, BitVec.toNat_ofNat, Nat.mod_eq_of_lt ha, Nat.mod_eq_of_lt hb]
theorem andU (k : IntKind) (hk : k.signed = false) {a b : Nat} (ha : a < 2 ^ k.bits) (hb : b < 2 ^ k.bits) : k.wrap ((BitVec.ofInt k.bits (a : Int) &&& BitVec.ofInt k.bits (b : Int)).toNat : Int) = ((a &&& b : Nat) : Int) := by
  rw [bitsU k hk, ofIntNat, ofIntNat, BitVec.toNat_and, BitVec.toNat_ofNat, BitVec.toNat_ofNat, Nat.mod_eq_of_lt ha, Nat.mod_eq_of_lt hb]
theorem xorU (k : IntKind) (hk : k.signed = false) {a b : Nat} (ha : a < 2 ^ k.bits) (hb : b < 2 ^ k.bits) : k.wrap ((BitVec.ofInt k.bits (a : Int) ^^^ BitVec.ofInt k.bits (b : Int)).toNat : Int) = ((a ^^^ b : Nat) : Int) := by
  rw [bitsU k hk, ofIntNat, ofIntNat, BitVec.toNat_xor, BitVec.toNat_ofNat, BitVec.toNat_ofNat, Nat.mod_eq_of_lt ha, Nat.mod_eq_of_lt hb]

theorem shlU {k : IntKind} (hk : k.signed = false) {a s : Nat} : k.wrap ((a : Int) * 2 ^ s) = ((a * 2 ^ s % 2 ^ k.bits : Nat) : Int) :=
  wrapU hk (by simp)
theorem fdivN (a s : Nat) : (a : Int).fdiv (2 ^ s) = ((a / 2 ^ s : Nat) : Int) := by
  rw [Int.fdiv_eq_ediv_of_nonneg _ (by exact_mod_cast Nat.zero_le (2 ^ s))]
  simp
theorem tdivN (a b : Nat) : (a : Int).tdiv (b : Int) = ((a / b : Nat) : Int) := by
  rw [Int.tdiv_eq_ediv_of_nonneg (by omega)]; simp
theorem tmodN (a b : Nat) : (a : Int).tmod (b : Int) = ((a % b : Nat) : Int) := by
  rw [Int.tmod_eq_emod_of_nonneg (by omega)]; simp

/-- Bytes that a slice reads as. -/
structure Bs (lo hi : Nat) (w : World) (a : Option Addr) (len cap : Nat) (l : List UInt8) : Prop where
  sla : SlA lo hi w a len cap (u8s l)
  len_eq : len = l.length

theorem Bs.ext {lo hi : Nat} {w w' : World} {a : Option Addr} {len cap : Nat} {l : List UInt8} (h : Bs lo hi w a len cap l) (hc : Ext w w') : Bs lo hi w' a len cap l := ⟨h.sla.ext hc, h.len_eq⟩
theorem Bs.chg {S : Nat → Prop} {lo hi : Nat} {w w' : World} {a : Option Addr} {len cap : Nat} {l : List UInt8} (h : Bs lo hi w a len cap l) (hc : Chg S w w') (hs : ∀ k, lo ≤ k → k < hi → ¬ S k) : Bs lo hi w' a len cap l := ⟨h.sla.chg hc hs, h.len_eq⟩
theorem Bs.mono {lo hi lo' hi' : Nat} {w : World} {a : Option Addr} {len cap : Nat} {l : List UInt8} (h : Bs lo hi w a len cap l) (h1 : lo' ≤ lo) (h2 : hi ≤ hi') : Bs lo' hi' w a len cap l := ⟨h.sla.mono h1 h2, h.len_eq⟩
theorem Bs.nil (lo hi : Nat) (w : World) : Bs lo hi w none 0 0 [] := ⟨SlA.nil lo hi w, rfl⟩
theorem Bs.of_blk {lo hi : Nat} {w : World} {b : Nat} {cs : List Value} {e : TypeId} {l : List UInt8} (h : Blk w b cs e) (hcs : cs = u8s l) {len cap : Nat} (hl : len = l.length) (hc : len ≤ cap) (hm : cap ≤ maxLen) (h1 : lo ≤ b) (h2 : b < hi) : Bs lo hi w (some ⟨b, 0, none⟩) len cap l := by
  subst hcs
  exact ⟨SlA.of_blk h hc hm h1 h2, hl⟩
theorem Bs.of_at {lo hi : Nat} {w : World} {b o : Nat} {l : List UInt8} (h : At w b o (u8s l)) (hb : b < w.heap.size) {len : Nat} (hl : len = l.length) (hm : len ≤ maxLen) (h1 : lo ≤ b) (h2 : b < hi) : Bs lo hi w (some ⟨b, o, none⟩) len len l :=
  ⟨h.sla hb lo hi h1 h2 hm, hl⟩
theorem Bs.le {lo hi : Nat} {w : World} {a : Option Addr} {len cap : Nat} {l : List UInt8} (h : Bs lo hi w a len cap l) : len ≤ cap ∧ cap ≤ 9223372036854775807 := by
  have := h.sla.le; simpa [maxLen] using this
theorem Bs.addr {lo hi : Nat} {w : World} {a : Option Addr} {len cap : Nat} {l : List UInt8} (h : Bs lo hi w a len cap l) (hp : 0 < len) : ∃ b o, a = some ⟨b, o, none⟩ :=
  h.sla.addr (by have := h.len_eq; simp; omega)
theorem Bs.cell {lo hi : Nat} {w : World} {b o len cap : Nat} {l : List UInt8} (h : Bs lo hi w (some ⟨b, o, none⟩) len cap l) {i : Nat} (hi' : i < l.length) : w.cell? ⟨b, o + i, none⟩ = some (.int .u8 ((l[i]).toNat : Int)) :=
  (h.sla.get (u8s_get hi')).2.2.2
/-- The byte at i, as a number (0 beyond the end). -/
def byt (l : List UInt8) (i : Nat) : Nat := (l.getD i 0).toNat
theorem byt_lt (l : List UInt8) (i : Nat) : byt l i < 256 := (l.getD i 0).toNat_lt
theorem byt_eq {l : List UInt8} {i : Nat} (h : i < l.length) : byt l i = (l[i]).toNat := by simp [byt, List.getD, h]
theorem Bs.cell1 {lo hi : Nat} {w : World} {b o len cap : Nat} {l : List UInt8} (h : Bs lo hi w (some ⟨b, o, none⟩) len cap l) {i : Nat} (hi' : i < len) : w.cell? ⟨b, o + i * 1, none⟩ = some (.int .u8 ((byt l i : Nat) : Int)) := by
  have h1 : i < l.length := by have := h.len_eq; omega
  rw [Nat.mul_one, h.cell h1, byt_eq h1]
theorem Bs.part {lo hi : Nat} {w : World} {a : Option Addr} {len cap : Nat} {l : List UInt8} (h : Bs lo hi w a len cap l) {a' : Option Addr} {x r m : Nat} (hr : r ≤ len) (h1 : x ≤ r) (hS : SlA lo hi w a' (r - x) (m - x) (((u8s l).drop (x * 1)).take ((r - x) * 1))) : Bs lo hi w a' (r - x) (m - x) ((l.drop x).take (r - x)) := by
  refine ⟨?_, by have := h.len_eq; simp; omega⟩
  rw [u8s_drop, u8s_take] at hS
  simpa using hS

theorem of_d_t {p : Prop} [Decidable p] (h : decide p = true) : p := of_decide_eq_true h
theorem of_d_f {p : Prop} [Decidable p] (h : decide p = false) : ¬ p := of_decide_eq_false h
theorem of_eq_t {a b : Int} (h : (a == b) = true) : a = b := by simpa using h
theorem of_eq_f {a b : Int} (h : (a == b) = false) : ¬ a = b := by simpa using h
theorem of_ne_t {a b : Int} (h : (a != b) = true) : ¬ a = b := by simpa using h
theorem of_ne_f {a b : Int} (h : (a != b) = false) : a = b := by simpa using h
theorem cmpDT {p : Prop} [Decidable p] (h : p) : decide p = true := decide_eq_true h
theorem cmpDF {p : Prop} [Decidable p] (h : ¬ p) : decide p = false := decide_eq_false h
theorem cmpEqT {a b : Int} (h : a = b) : (a == b) = true := by simpa using h
theorem cmpEqF {a b : Int} (h : ¬ a = b) : (a == b) = false := by simpa using h
theorem cmpNeT {a b : Int} (h : ¬ a = b) : (a != b) = true := by simpa using h
theorem cmpNeF {a b : Int} (h : a = b) : (a != b) = false := by simpa using h
theorem strT {l m : List UInt8} (h : l = m) : ((⟨l.toArray⟩ : ByteArray).toList == (⟨m.toArray⟩ : ByteArray).toList) = true := by rw [str_eq]; exact decide_eq_true h
theorem strF {l m : List UInt8} (h : ¬ l = m) : ((⟨l.toArray⟩ : ByteArray).toList == (⟨m.toArray⟩ : ByteArray).toList) = false := by rw [str_eq]; exact decide_eq_false h
theorem strNT {l m : List UInt8} (h : ¬ l = m) : (!((⟨l.toArray⟩ : ByteArray).toList == (⟨m.toArray⟩ : ByteArray).toList)) = true := by rw [strF h]; rfl
theorem strNF {l m : List UInt8} (h : l = m) : (!((⟨l.toArray⟩ : ByteArray).toList == (⟨m.toArray⟩ : ByteArray).toList)) = false := by rw [strT h]; rfl
theorem of_str_t {l m : List UInt8} (h : ((⟨l.toArray⟩ : ByteArray).toList == (⟨m.toArray⟩ : ByteArray).toList) = true) : l = m := by rw [str_eq] at h; exact of_decide_eq_true h
theorem of_str_f {l m : List UInt8} (h : ((⟨l.toArray⟩ : ByteArray).toList == (⟨m.toArray⟩ : ByteArray).toList) = false) : ¬ l = m := by rw [str_eq] at h; exact of_decide_eq_false h
theorem of_strn_t {l m : List UInt8} (h : (!((⟨l.toArray⟩ : ByteArray).toList == (⟨m.toArray⟩ : ByteArray).toList)) = true) : ¬ l = m := of_str_f (by simpa using h)
theorem of_strn_f {l m : List UInt8} (h : (!((⟨l.toArray⟩ : ByteArray).toList == (⟨m.toArray⟩ : ByteArray).toList)) = false) : l = m := of_str_t (by simpa using h)

theorem endR_mk {ds : List Deferred} {X : Type} {live : X → List (Nat × Value)} {dead : List Nat} {n : Nat} {σ τ : List (Nat × Value)} {I : X → World → Prop} {μ : X → Nat} {x : X} {w' : World} (x' : X)
    (hI : I x' w') (hm : μ x' < μ x) (hs : τ.drop (τ.length - σ.length) = σ := by kernel_rfl) (hk : keysOk (τ.take (τ.length - σ.length)) (live x') dead = true := by kernel_rfl) (hv : ((live x').map fun p => lk τ p.1) = (live x').map Prod.snd := by kernel_rfl) : EndR (ds := ds) live dead n σ I μ x (Fr ds n τ) w' :=
  ⟨x', lk τ, Fr_congr (frame_eq hs hk hv), hI, hm⟩

theorem Ext.own {b : Nat} {u w w' : World} (h : Ext u w) (g : Chg (· = b) w w') (hb : u.heap.size ≤ b) : Ext u w' :=
  Chg.then h g (fun k hk hs => by have : k = b := hs; omega)

theorem run_loadVar_agg {P : Program} {w : World} {T b o : Nat} {vs : List Value} (hc : At w b o vs) (hsz : (P.info? T).map (·.size) = some vs.length := by kernel_rfl) (hT : (P.underlying T).map aggB = some true := by kernel_rfl) :
    (loadVar T ⟨b, o, none⟩).run P w = .ok (.agg vs.toArray) w := by
  simpa [Instr.loadAt, Instr.sureAddr] using rn_lda hc hsz hT

theorem run_loadVar_cell {P : Program} {w : World} {T b o : Nat} {v : Value} (hc : w.cell? ⟨b, o, none⟩ = some v) (hT : (P.underlying T).map aggB = some false := by kernel_rfl) :
    (loadVar T ⟨b, o, none⟩).run P w = .ok v w := by
  simpa [Instr.loadAt, Instr.sureAddr] using rn_ld hc hT

section
variable {P : Program} {n k : Nat} {σ : List (Nat × Value)} {w : World} {ops : Array Oper} {K : List (Nat × Value) → World → Prop} {d : Option Tmp}

theorem run_shr {T : TypeId} {ox oy : Operand} {kk yk : IntKind} {a s : Nat} (hs : s ≤ kk.bits) : (do eqGuard .shr T ox oy (.int kk (a : Int)) (.int yk (s : Int)); binOp .shr T (.int kk (a : Int)) (.int yk (s : Int)) : Sem Value).run P w = .ok (.int kk ((a / 2 ^ s : Nat) : Int)) w := by
  have h1 : ¬ ((s : Int) < 0) := by omega
  have h2 : min s kk.bits = s := by omega
  simp only [eqGuard, binOp, Op.shift, h1, if_false, Int.toNat_natCast, h2, fdivN]
  simp

theorem run_rem {T : TypeId} {ox oy : Operand} {kk : IntKind} {a b : Nat} (hb : 0 < b) : (bo .rem T ox oy (.int kk (a : Int)) (.int kk (b : Int))).run P w = .ok (.int kk ((a % b : Nat) : Int)) w := by
  have h1 : ¬ ((b : Int) = 0) := by omega
  simp only [bo, eqGuard, binOp, Op.intDiv, h1, if_false, tmodN]
  simp

theorem run_quo {T : TypeId} {ox oy : Operand} {kk : IntKind} {a b : Nat} (hb : 0 < b) (ha : ∀ x : Nat, x ≤ a → kk.wrap (x : Int) = (x : Int)) : (do eqGuard .quo T ox oy (.int kk (a : Int)) (.int kk (b : Int)); binOp .quo T (.int kk (a : Int)) (.int kk (b : Int)) : Sem Value).run P w = .ok (.int kk ((a / b : Nat) : Int)) w := by
  have h1 : ¬ ((b : Int) = 0) := by omega
  simp only [eqGuard, binOp, Op.intDiv, h1, if_false, tdivN, ha _ (Nat.div_le_self a b)]
  simp

end
end Go.Cs
