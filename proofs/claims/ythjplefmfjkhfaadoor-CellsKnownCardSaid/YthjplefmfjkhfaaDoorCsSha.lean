/- SHA-256 as plain data: words, the state, the schedule, a block, a message. Plain definitions and laws; no condition beyond those of each statement. -/
import Derived.Test.YthjplefmfjkhfaaDoorCsNod
set_option linter.all false
set_option linter.unusedVariables false
namespace Go.Cs
open Go Go.RowKit

/-- A number rotated to the right. -/
def rr (x : UInt32) (k : Nat) : UInt32 := UInt32.ofNat (rot x.toNat (-(k : Int)))
theorem rr_nat (x : UInt32) (k : Nat) : (rr x k).toNat = rot x.toNat (-(k : Int)) := by
  rw [rr, UInt32.toNat_ofNat', Nat.mod_eq_of_lt (rot_lt x.toNat_lt)]
theorem rr_ref (x : UInt32) {k : Nat} (h1 : 1 ≤ k) (h2 : k ≤ 31) : x.toNat / 2 ^ k ||| x.toNat * 2 ^ (32 - k) % 2 ^ 32 = (rr x k).toNat := by
  rw [rr_nat, rot, rotl, show (-(k : Int) % 32).toNat = 32 - k by omega, show 32 - (32 - k) = k by omega, Nat.or_comm]

/-- A row of words. -/
structure WA (n : Nat) where
  l : List UInt32
  h : l.length = n
theorem WA.ext' {n : Nat} {a b : WA n} (h : a.l = b.l) : a = b := by cases a; cases b; cases h; rfl
def WA.zero (n : Nat) : WA n := ⟨List.replicate n 0, by simp⟩
def WA.get {n : Nat} (x : WA n) (i : Nat) : UInt32 := x.l.getD i 0
def WA.set {n : Nat} (x : WA n) (i : Nat) (v : UInt32) : WA n := ⟨x.l.set i v, by simp [x.h]⟩
theorem WA.get_set {n : Nat} {x : WA n} {i j : Nat} {v : UInt32} (hi : i < n) : (x.set i v).get j = if j = i then v else x.get j := by
  have h4 := x.h
  simp only [WA.get, WA.set, List.getD, List.getElem?_set]
  by_cases h : i = j
  · subst h; rw [if_pos rfl, if_pos (by omega), if_pos rfl]; rfl
  · rw [if_neg h, if_neg (fun h2 => h h2.symm)]
theorem WA.ext_get {n : Nat} {x y : WA n} (h : ∀ i, i < n → x.get i = y.get i) : x = y := by
  refine WA.ext' (List.ext_getElem (x.h.trans y.h.symm) fun i h1 h2 => ?_)
  have := h i (by rw [← x.h]; exact h1)
  simpa [WA.get, List.getD, h1, h2] using this
theorem WA.get_mk {n : Nat} (f : Nat → UInt32) (h : ((List.range n).map f).length = n) {i : Nat} (hi : i < n) : (WA.mk ((List.range n).map f) h).get i = f i := by simp [WA.get, List.getD, hi]

/-- A block's schedule: the first t words. -/
def sig0 (x : UInt32) : UInt32 := rr x 7 ^^^ rr x 18 ^^^ (x >>> 3)
def sig1 (x : UInt32) : UInt32 := rr x 17 ^^^ rr x 19 ^^^ (x >>> 10)
def nextW (b : List UInt8) (x : WA 64) (t : Nat) : UInt32 :=
  if t < 16 then UInt32.ofNat (getV ((b.drop (4 * t)).take 4) 4) else x.get (t - 16) + x.get (t - 7) + sig0 (x.get (t - 15)) + sig1 (x.get (t - 2))
def schd (b : List UInt8) : Nat → WA 64
  | 0 => WA.zero 64
  | t + 1 => (schd b t).set t (nextW b (schd b t) t)
def kL : List UInt32 := [1116352408, 1899447441, 3049323471, 3921009573, 961987163, 1508970993, 2453635748, 2870763221, 3624381080, 310598401, 607225278, 1426881987, 1925078388, 2162078206, 2614888103, 3248222580, 3835390401, 4022224774, 264347078, 604807628, 770255983, 1249150122, 1555081692, 1996064986, 2554220882, 2821834349, 2952996808, 3210313671, 3336571891, 3584528711, 113926993, 338241895, 666307205, 773529912, 1294757372, 1396182291, 1695183700, 1986661051, 2177026350, 2456956037, 2730485921, 2820302411, 3259730800, 3345764771, 3516065817, 3600352804, 4094571909, 275423344, 430227734, 506948616, 659060556, 883997877, 958139571, 1322822218, 1537002063, 1747873779, 1955562222, 2024104815, 2227730452, 2361852424, 2428436474, 2756734187, 3204031479, 3329325298]
def kA : WA 64 := ⟨kL, rfl⟩
def iniA : WA 8 := ⟨[1779033703, 3144134277, 1013904242, 2773480762, 1359893119, 2600822924, 528734635, 1541459225], rfl⟩

/-- A round. -/
def T1 (x : WA 8) (k w : UInt32) : UInt32 := x.get 7 + (rr (x.get 4) 6 ^^^ rr (x.get 4) 11 ^^^ rr (x.get 4) 25) + ((x.get 4 &&& x.get 5) ^^^ (~~~(x.get 4) &&& x.get 6)) + k + w
def T2 (x : WA 8) : UInt32 := (rr (x.get 0) 2 ^^^ rr (x.get 0) 13 ^^^ rr (x.get 0) 22) + ((x.get 0 &&& x.get 1) ^^^ (x.get 0 &&& x.get 2) ^^^ (x.get 1 &&& x.get 2))
def rnd (x : WA 8) (k w : UInt32) : WA 8 := ⟨[T1 x k w + T2 x, x.get 0, x.get 1, x.get 2, x.get 3 + T1 x k w, x.get 4, x.get 5, x.get 6], rfl⟩
def rnds (h : WA 8) (w : WA 64) : Nat → WA 8
  | 0 => h
  | t + 1 => rnd (rnds h w t) (kA.get t) (w.get t)
/-- The first i words, added. -/
def addW (h x : WA 8) (i : Nat) : WA 8 := ⟨(List.range 8).map fun j => if j < i then h.get j + x.get j else h.get j, by simp⟩
theorem addW_get (h x : WA 8) (i : Nat) {j : Nat} (hj : j < 8) : (addW h x i).get j = if j < i then h.get j + x.get j else h.get j := WA.get_mk _ _ hj
theorem addW_zero (h x : WA 8) : addW h x 0 = h := WA.ext_get fun j hj => by rw [addW_get _ _ _ hj, if_neg (Nat.not_lt_zero _)]
theorem addW_step {h x : WA 8} {i : Nat} (hi : i < 8) : (addW h x i).set i ((addW h x i).get i + x.get i) = addW h x (i + 1) := WA.ext_get fun j hj => by
  by_cases h1 : j = i
  · subst h1; rw [WA.get_set hi, if_pos rfl, addW_get _ _ _ hi, if_neg (Nat.lt_irrefl _), addW_get _ _ _ hi, if_pos (Nat.lt_succ_self _)]
  · rw [WA.get_set hi, if_neg h1, addW_get _ _ _ hj, addW_get _ _ _ hj]
    by_cases h2 : j < i
    · rw [if_pos h2, if_pos (by omega)]
    · rw [if_neg h2, if_neg (by omega)]
def cmpr (h : WA 8) (b : List UInt8) : WA 8 := addW h (rnds h (schd b 64) 64) 8
theorem cmpr_list (h : WA 8) (b : List UInt8) : cmpr h b = ⟨[h.get 0 + (rnds h (schd b 64) 64).get 0, h.get 1 + (rnds h (schd b 64) 64).get 1, h.get 2 + (rnds h (schd b 64) 64).get 2, h.get 3 + (rnds h (schd b 64) 64).get 3, h.get 4 + (rnds h (schd b 64) 64).get 4, h.get 5 + (rnds h (schd b 64) 64).get 5, h.get 6 + (rnds h (schd b 64) 64).get 6, h.get 7 + (rnds h (schd b 64) 64).get 7], rfl⟩ := by
  apply WA.ext'; simp [cmpr, addW, List.range, List.range.loop]

/-- After n blocks of a message. -/
def blkB (l : List UInt8) (k : Nat) : List UInt8 := (l.drop (64 * k)).take 64
def shaH (l : List UInt8) : Nat → WA 8
  | 0 => iniA
  | k + 1 => cmpr (shaH l k) (blkB l k)
/-- How many zeros are put in; the padded message. -/
def padZ (n : Nat) : Nat := (119 - n % 64) % 64
def padB (l : List UInt8) : List UInt8 := l ++ [128] ++ List.replicate (padZ l.length) 0 ++ be (8 * l.length % 2 ^ 64) 8
theorem padB_len (l : List UInt8) : (padB l).length % 64 = 0 := by simp [padB, padZ]; omega
def digO (x : WA 8) (i : Nat) : List UInt8 := catA (fun k => be (x.get k).toNat 4) (fun k => k) i
theorem digO_len (x : WA 8) (i : Nat) : (digO x i).length = i * 4 := catA_len (fun k => be_length _ _) i
def shaD (l : List UInt8) : Dig := ⟨digO (shaH (padB l) ((padB l).length / 64)) 8, digO_len _ 8⟩

theorem shaH_app {l m : List UInt8} : ∀ {k : Nat}, 64 * k ≤ l.length → shaH (l ++ m) k = shaH l k
  | 0, _ => rfl
  | k + 1, h => by
    rw [shaH, shaH, shaH_app (by omega)]
    congr 1
    rw [blkB, blkB, List.drop_append_of_le_length (by omega), List.take_append_of_le_length (by simp; omega)]

/-- A state that takes in bytes. -/
structure Sta where
  bg : Bool
  h : WA 8
  rest : List UInt8
  many : Nat
  hr : rest.length = 64
  hm : many < 2 ^ 64
def Sta.new : Sta := ⟨true, iniA, List.replicate 64 0, 0, by simp, by decide⟩
/-- It has taken in these bytes. -/
structure Sm (s : Sta) (l : List UInt8) : Prop where
  bg : s.bg = true
  h : s.h = shaH l (l.length / 64)
  many : s.many = l.length
  rest : s.rest.take (l.length % 64) = l.drop (64 * (l.length / 64))
theorem Sm.new : Sm Sta.new [] := ⟨rfl, rfl, rfl, rfl⟩
/-- Bytes put into the row at a place. -/
def putAt (r : List UInt8) (at_ : Nat) (b : List UInt8) : List UInt8 := r.take at_ ++ b ++ r.drop (at_ + b.length)
theorem putAt_len {r b : List UInt8} {a : Nat} (h : a + b.length ≤ r.length) : (putAt r a b).length = r.length := by simp [putAt]; omega
theorem Sm.part {s : Sta} {l b : List UInt8} {a n : Nat} (h : Sm s l) (ha : a = l.length % 64) (hn : b.length = n) (h1 : a + n < 64) (hr : (putAt s.rest a b).length = 64) (hm : s.many + n < 2 ^ 64) :
    Sm ⟨s.bg, s.h, putAt s.rest a b, s.many + n, hr, hm⟩ (l ++ b) := by
  have e1 : (l ++ b).length / 64 = l.length / 64 := by rw [List.length_append]; omega
  have e2 : (l ++ b).length % 64 = a + n := by rw [List.length_append]; omega
  refine ⟨h.bg, by show s.h = _; rw [e1, shaH_app (by omega), h.h], by show s.many + n = _; rw [h.many, List.length_append, hn], ?_⟩
  show (putAt s.rest a b).take _ = _
  have hr64 := s.hr
  rw [e1, e2, putAt, List.take_append_of_le_length (by simp; omega), List.take_of_length_le (by simp; omega), ha, h.rest, List.drop_append_of_le_length (by omega)]
theorem Sm.full {s : Sta} {l b : List UInt8} {a n : Nat} (h : Sm s l) (ha : a = l.length % 64) (hn : b.length = n) (h1 : a + n = 64) (hr : (putAt s.rest a b).length = 64) (hm : s.many + n < 2 ^ 64) :
    Sm ⟨s.bg, cmpr s.h (putAt s.rest a b), putAt s.rest a b, s.many + n, hr, hm⟩ (l ++ b) := by
  have hr64 := s.hr
  have e1 : (l ++ b).length / 64 = l.length / 64 + 1 := by rw [List.length_append]; omega
  have e2 : (l ++ b).length % 64 = 0 := by rw [List.length_append]; omega
  have e3 : putAt s.rest a b = blkB (l ++ b) (l.length / 64) := by
    rw [putAt, List.drop_eq_nil_of_le (by omega), List.append_nil, ha, h.rest, blkB, List.drop_append_of_le_length (by omega), List.take_of_length_le (by simp; omega)]
  refine ⟨h.bg, ?_, by show s.many + n = _; rw [h.many, List.length_append, hn], ?_⟩
  · show cmpr s.h (putAt s.rest a b) = _
    rw [e1, shaH, shaH_app (by omega), ← h.h, e3]
  · show (putAt s.rest a b).take _ = _
    rw [e1, e2, List.take_zero, List.drop_eq_nil_of_le (by simp; omega)]
theorem Sm.done {s : Sta} {l : List UInt8} (h : Sm s (padB l)) : s.h = shaH (padB l) ((padB l).length / 64) := h.h

/-! Words with bits. -/
theorem u32_ext {a b : UInt32} (h : ∀ i, a.toNat.testBit i = b.toNat.testBit i) : a = b := UInt32.toNat_inj.1 (Nat.eq_of_testBit_eq h)
theorem ch_or (e f g : UInt32) : (e &&& f) ||| (~~~e &&& g) = (e &&& f) ^^^ (~~~e &&& g) := by
  apply UInt32.toBitVec_inj.1
  ext i hi
  simp
  cases e.toBitVec[i] <;> simp
theorem maj_or (a b c : UInt32) : (a &&& b) ||| (a &&& c) ||| (b &&& c) = (a &&& b) ^^^ (a &&& c) ^^^ (b &&& c) := by
  apply UInt32.toBitVec_inj.1
  ext i hi
  simp
  cases a.toBitVec[i] <;> cases b.toBitVec[i] <;> cases c.toBitVec[i] <;> rfl
end Go.Cs
