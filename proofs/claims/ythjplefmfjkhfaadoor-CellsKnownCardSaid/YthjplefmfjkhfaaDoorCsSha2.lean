/- SHA-256: rows of words and states in memory; the operations on words. For any program; no condition beyond those of each statement. -/
import Derived.Test.YthjplefmfjkhfaaDoorCsSha
set_option linter.all false
set_option linter.unusedVariables false
namespace Go.Cs
open Go Go.RowKit

def w8C (x : WA 8) : List Value := x.l.map fun v => .int .u32 ((v.toNat : Nat) : Int)
def w64C (x : WA 64) : List Value := x.l.map fun v => .int .u32 ((v.toNat : Nat) : Int)
/-- 64 bytes. -/
structure B64 where
  l : List UInt8
  h : l.length = 64
def B64.zero : B64 := ⟨List.replicate 64 0, by simp⟩
def b64C (x : B64) : List Value := u8s x.l
def Sta.rb (s : Sta) : B64 := ⟨s.rest, s.hr⟩
def Sta.zero : Sta := ⟨false, WA.zero 8, List.replicate 64 0, 0, by simp, by decide⟩
def Sta.setH (s : Sta) (x : WA 8) : Sta := ⟨s.bg, x, s.rest, s.many, s.hr, s.hm⟩
def Sta.setMany (s : Sta) (n : Nat) (h : n < 2 ^ 64) : Sta := ⟨s.bg, s.h, s.rest, n, s.hr, h⟩
def Sta.put (s : Sta) (a : Nat) (b : List UInt8) (h : a + b.length ≤ 64) : Sta := ⟨s.bg, s.h, putAt s.rest a b, s.many, by rw [putAt_len (by rw [s.hr]; exact h), s.hr], s.hm⟩
def stC (s : Sta) : List Value := .bool s.bg :: (w8C s.h ++ (u8s s.rest ++ [.int .u64 ((s.many : Nat) : Int)]))

@[simp] theorem w8C_len (x : WA 8) : (w8C x).length = 8 := by simp [w8C, x.h]
@[simp] theorem w64C_len (x : WA 64) : (w64C x).length = 64 := by simp [w64C, x.h]
@[simp] theorem b64C_len (x : B64) : (b64C x).length = 64 := by simp [b64C, x.h]
@[simp] theorem stC_len (x : Sta) : (stC x).length = 74 := by simp [stC, x.hr]
theorem w8C_one (x : WA 8) : ∀ u ∈ w8C x, u.oneCell' = true := by intro u hu; simp only [w8C, List.mem_map] at hu; obtain ⟨_, _, rfl⟩ := hu; rfl
theorem w64C_one (x : WA 64) : ∀ u ∈ w64C x, u.oneCell' = true := by intro u hu; simp only [w64C, List.mem_map] at hu; obtain ⟨_, _, rfl⟩ := hu; rfl
theorem b64C_one (x : B64) : ∀ u ∈ b64C x, u.oneCell' = true := u8s_one _
theorem stC_one (x : Sta) : ∀ u ∈ stC x, u.oneCell' = true := by
  intro u hu
  simp only [stC, List.mem_cons, List.mem_append, List.not_mem_nil, or_false] at hu
  rcases hu with rfl | hu | hu | rfl
  · rfl
  · exact w8C_one _ u hu
  · exact u8s_one _ u hu
  · rfl
theorem w8_at {x : WA 8} {i : Nat} (h : i < 8) : (w8C x)[i]? = some (.int .u32 (((x.get i).toNat : Nat) : Int)) := by
  have := x.h; simp [w8C, WA.get, List.getD, show i < x.l.length by omega]
theorem w64_at {x : WA 64} {i : Nat} (h : i < 64) : (w64C x)[i]? = some (.int .u32 (((x.get i).toNat : Nat) : Int)) := by
  have := x.h; simp [w64C, WA.get, List.getD, show i < x.l.length by omega]
theorem w8_cell {x : WA 8} (i : Nat) (h : i < 8) : (w8C x)[0 + i * 1]? = some (.int .u32 (((x.get i).toNat : Nat) : Int)) := by rw [Nat.zero_add, Nat.mul_one]; exact w8_at h
theorem w64_cell {x : WA 64} (i : Nat) (h : i < 64) : (w64C x)[0 + i * 1]? = some (.int .u32 (((x.get i).toNat : Nat) : Int)) := by rw [Nat.zero_add, Nat.mul_one]; exact w64_at h
theorem w8_set {x : WA 8} (i : Nat) (v : UInt32) : (w8C x).set (0 + i * 1) (.int .u32 ((v.toNat : Nat) : Int)) = w8C (x.set i v) := by rw [Nat.zero_add, Nat.mul_one]; simp [w8C, WA.set, List.map_set]
theorem w64_set {x : WA 64} (i : Nat) (v : UInt32) : (w64C x).set (0 + i * 1) (.int .u32 ((v.toNat : Nat) : Int)) = w64C (x.set i v) := by rw [Nat.zero_add, Nat.mul_one]; simp [w64C, WA.set, List.map_set]
theorem st_h (s : Sta) : ((stC s).drop 1).take (w8C s.h).length = w8C s.h := by
  show (w8C s.h ++ _).take _ = _
  rw [List.take_append_of_le_length (Nat.le_refl _), List.take_of_length_le (Nat.le_refl _)]
theorem st_drop (s : Sta) (k : Nat) : (stC s).drop (9 + k) = (u8s s.rest ++ [Value.int .u64 ((s.many : Nat) : Int)]).drop k := by
  rw [← List.drop_drop]; congr 1
  show (w8C s.h ++ (u8s s.rest ++ _)).drop 8 = _
  rw [List.drop_append, List.drop_eq_nil_of_le (by simp), List.nil_append, w8C_len]; rfl
theorem st_rest (s : Sta) : ((stC s).drop 9).take (b64C s.rb).length = b64C s.rb := by
  have h := st_drop s 0
  rw [Nat.add_zero, List.drop_zero] at h
  rw [h]
  show (u8s s.rest ++ _).take (u8s s.rest).length = u8s s.rest
  rw [List.take_append_of_le_length (Nat.le_refl _), List.take_of_length_le (Nat.le_refl _)]
theorem st_many (s : Sta) : (stC s)[73]? = some (.int .u64 ((s.many : Nat) : Int)) := by
  have h := congrArg (fun z => z[64]?) (st_drop s 0)
  simp only [Nat.add_zero, List.drop_zero, List.getElem?_drop] at h
  rw [show 9 + 64 = 73 from rfl] at h
  rw [h, List.getElem?_append_right (by simp [s.hr])]; simp [s.hr]
theorem st_setH {s : Sta} {x : WA 8} : setFrom (stC s) 1 (w8C x) = stC (s.setH x) := by
  have h1 := setFrom_appL (w8C s.h) (u8s s.rest ++ [.int .u64 ((s.many : Nat) : Int)]) (w8C x) 0 (by simp)
  have h2 := setFrom_appR [.bool s.bg] (w8C s.h ++ (u8s s.rest ++ [.int .u64 ((s.many : Nat) : Int)])) (w8C x) 0 (by simp)
  rw [h1, setFrom_all _ _ (by simp)] at h2
  exact h2
theorem set_last (p : List Value) (a v : Value) : (p ++ [a]).set p.length v = p ++ [v] := by simp
theorem st_setMany {s : Sta} {n : Nat} (h : n < 2 ^ 64) : (stC s).set 73 (.int .u64 ((n : Nat) : Int)) = stC (s.setMany n h) := by
  have e : stC s = (.bool s.bg :: (w8C s.h ++ u8s s.rest)) ++ [.int .u64 ((s.many : Nat) : Int)] := by simp [stC]
  have hl : (Value.bool s.bg :: (w8C s.h ++ u8s s.rest)).length = 73 := by simp [s.hr]
  rw [e, ← hl, set_last]; simp [stC, Sta.setMany]
theorem u8s_put {r b : List UInt8} {a : Nat} (h : a + b.length ≤ r.length) : setFrom (u8s r) a (u8s b) = u8s (putAt r a b) := by
  rw [setFrom_eq _ _ _ (by simpa using h)]; simp [putAt, u8s]
theorem st_put {s : Sta} {a : Nat} {b : List UInt8} (h : a + b.length ≤ 64) : setFrom (stC s) (9 + a) (u8s b) = stC (s.put a b h) := by
  have hr := s.hr
  have h1 := setFrom_appL (u8s s.rest) [.int .u64 ((s.many : Nat) : Int)] (u8s b) a (by simp; omega)
  have h2 := setFrom_appR (.bool s.bg :: w8C s.h) (u8s s.rest ++ [.int .u64 ((s.many : Nat) : Int)]) (u8s b) a (by simp; omega)
  rw [h1, u8s_put (by omega)] at h2
  simp only [List.length_cons, w8C_len, Nat.reduceAdd] at h2
  simpa [stC, Sta.put] using h2

section
variable {P : Program} {w w' : World}
theorem rn_idx1 {T E m : Nat} {kk : IntKind} {i : Nat} {cs : List Value} {v : Value} (hi : i < m) (hu : cs[i]? = some v) (hT : P.underlying T = some (.array m E) := by kernel_rfl) (hsz : (P.info? E).map (·.size) = some 1 := by kernel_rfl) (ha : (P.underlying E).map aggB = some false := by kernel_rfl) :
    (Instr.index T (.agg cs.toArray) (.int kk (i : Int))).run P w = .ok v w := by
  simp [Instr.index, asIntOf, run_underlying hT, run_sizeOf hsz, hi, run_part_int (w := w) ha hu]
theorem rn_slbN {T E sz len b o l r m : Nat} {lo hi mx : Option Value} (hl : bnd lo 0 l) (hh : bnd hi len r) (hm : bnd mx len m) (hmh : mx = none ∨ hi ≠ none) (h1 : l ≤ r) (h2 : r ≤ m) (h3 : m ≤ len) (h4 : l < m) (hT : P.underlying T = some (.array len E) := by kernel_rfl) (hsz : (P.info? E).map (·.size) = some sz := by kernel_rfl) :
    (Instr.sliceAt T (.pointer (some ⟨b, o, none⟩)) lo hi mx).run P w = .ok (.slice (some ⟨b, o + l * sz, none⟩) (r - l) (m - l)) w := by
  rw [rn_slb hl hh hm hmh h1 h2 h3 hT hsz, if_neg (by omega)]
theorem run_build_st {T : TypeId} (x : WA 8) (hp : placesB P T = some [(0, 1), (1, 8), (9, 64), (73, 1)] := by kernel_rfl) (hz : (P.info? T).map (·.zero) = some (some (.agg (stC Sta.zero).toArray)) := by kernel_rfl) :
    (Instr.build T #[(0, .bool true), (1, .agg (w8C x).toArray)]).run P w = .ok (.agg (stC ⟨true, x, List.replicate 64 0, 0, by simp, by decide⟩).toArray) w := by
  refine run_buildS hp hz rfl ?_
  rw [fill_cons (off := 0) (size := 1) (vs := [.bool true]) rfl rfl rfl (by simp), fill_cons (off := 1) (size := 8) (vs := w8C x) rfl rfl (by simp) (by simp [length_setFrom]),
    show setFrom (stC Sta.zero) 0 [.bool true] = stC ⟨true, WA.zero 8, List.replicate 64 0, 0, by simp, by decide⟩ from rfl, st_setH]
  rfl
end

/-! Operations on words. -/
theorem b32 (x : UInt32) : BitVec.ofInt IntKind.u32.bits ((x.toNat : Nat) : Int) = x.toBitVec := by
  show BitVec.ofInt 32 _ = _
  apply BitVec.eq_of_toNat_eq
  rw [BitVec.toNat_ofInt]
  have := x.toNat_lt
  show _ = x.toNat
  omega
theorem wr32 (x : UInt32) : IntKind.u32.wrap ((x.toNat : Nat) : Int) = ((x.toNat : Nat) : Int) := wrapUx rfl rfl (show _ < 2 ^ 32 from x.toNat_lt)
theorem wx_add (x y : UInt32) : IntKind.u32.wrap (((x.toNat : Nat) : Int) + ((y.toNat : Nat) : Int)) = (((x + y).toNat : Nat) : Int) := by
  rw [UInt32.toNat_add]; exact wrapU rfl (by simp)
theorem wx_xor (x y : UInt32) : IntKind.u32.wrap ((BitVec.ofInt IntKind.u32.bits ((x.toNat : Nat) : Int) ^^^ BitVec.ofInt IntKind.u32.bits ((y.toNat : Nat) : Int)).toNat : Int) = (((x ^^^ y).toNat : Nat) : Int) := by
  rw [b32, b32]; exact wr32 (x ^^^ y)
theorem wx_and (x y : UInt32) : IntKind.u32.wrap ((BitVec.ofInt IntKind.u32.bits ((x.toNat : Nat) : Int) &&& BitVec.ofInt IntKind.u32.bits ((y.toNat : Nat) : Int)).toNat : Int) = (((x &&& y).toNat : Nat) : Int) := by
  rw [b32, b32]; exact wr32 (x &&& y)
theorem wx_or (x y : UInt32) : IntKind.u32.wrap ((BitVec.ofInt IntKind.u32.bits ((x.toNat : Nat) : Int) ||| BitVec.ofInt IntKind.u32.bits ((y.toNat : Nat) : Int)).toNat : Int) = (((x ||| y).toNat : Nat) : Int) := by
  rw [b32, b32]; exact wr32 (x ||| y)
theorem wx_not (x : UInt32) : IntKind.u32.wrap ((BitVec.ofInt IntKind.u32.bits (if IntKind.u32.signed then -1 else IntKind.u32.max) ^^^ BitVec.ofInt IntKind.u32.bits ((x.toNat : Nat) : Int)).toNat : Int) = (((~~~x).toNat : Nat) : Int) := by
  rw [b32]
  show IntKind.u32.wrap ((BitVec.allOnes 32 ^^^ x.toBitVec).toNat : Int) = _
  rw [show (BitVec.allOnes 32 ^^^ x.toBitVec) = (~~~x).toBitVec by rw [UInt32.toBitVec_not, BitVec.allOnes_xor]]
  exact wr32 (~~~x)
theorem wx_shr (x : UInt32) (k : Nat) (hk : k < 32) : ((x.toNat : Nat) : Int).fdiv (2 ^ k) = (((x >>> UInt32.ofNat k).toNat : Nat) : Int) := by
  rw [UInt32.toNat_shiftRight, UInt32.toNat_ofNat', Nat.mod_eq_of_lt (show k < 2 ^ 32 by omega), Nat.mod_eq_of_lt hk, Nat.shiftRight_eq_div_pow]
  exact fdivN _ _
theorem b64_part {b : B64} {o : Nat} (h : o + 4 ≤ 64) : ((b64C b).drop o).take (u8s ((b.l.drop o).take 4)).length = u8s ((b.l.drop o).take 4) := by
  have := b.h
  rw [u8s_length, show ((b.l.drop o).take 4).length = 4 by simp; omega]
  simp [b64C, u8s, List.map_drop, List.map_take]
theorem nextW_lo {b : List UInt8} {t : Nat} {v : UInt32} (h : t < 16) (hv : v = UInt32.ofNat (getV ((b.drop (4 * t)).take 4) 4)) : (schd b t).set t v = schd b (t + 1) := by
  rw [schd, nextW, if_pos h, hv]
theorem nextW_hi {b : List UInt8} {t : Nat} {v : UInt32} (h : ¬ t < 16) (hv : v = (schd b t).get (t - 16) + (schd b t).get (t - 7) + sig0 ((schd b t).get (t - 15)) + sig1 ((schd b t).get (t - 2))) : (schd b t).set t v = schd b (t + 1) := by
  rw [schd, nextW, if_neg h, hv]
/-- The first i words' bytes, and zeros. -/
def dgP (x : WA 8) (i : Nat) : List UInt8 := digO x i ++ List.replicate (32 - i * 4) 0
theorem dgP_len (x : WA 8) {i : Nat} (h : i ≤ 8) : (dgP x i).length = 32 := by simp [dgP, digO_len]; omega
theorem dgP_step {x : WA 8} {i : Nat} (h : i < 8) : setFrom (u8s (dgP x i)) (i * 4) (u8s (be (x.get i).toNat 4)) = u8s (dgP x (i + 1)) := by
  have hl := digO_len x i
  rw [u8s_put (by rw [dgP_len x (by omega), be_length]; omega), putAt, dgP, dgP, List.take_append_of_le_length (by omega), List.take_of_length_le (by omega), List.drop_append, hl, be_length,
    List.drop_eq_nil_of_le (by omega), List.nil_append, List.drop_replicate, show 32 - i * 4 - (i * 4 + 4 - i * 4) = 32 - (i + 1) * 4 by omega]
  rfl
theorem dgP_all (l : List UInt8) : u8s (dgP (shaH (padB l) ((padB l).length / 64)) 8) = digC (shaD l) := by simp [dgP, digC, shaD]
theorem dgP_zero (x : WA 8) : u8s (dgP x 0) = digC Dig.zero := by simp [dgP, digO, catA, digC, Dig.zero]
/-- The first i words' bytes, k bytes of word i, and zeros. -/
def dgQ (x : WA 8) (i k : Nat) : List UInt8 := digO x i ++ (be (x.get i).toNat 4).take k ++ List.replicate (32 - i * 4 - k) 0
theorem dgQ_len (x : WA 8) {i k : Nat} (h : i < 8) (hk : k ≤ 4) : (dgQ x i k).length = 32 := by simp [dgQ, digO_len]; omega
theorem dgQ_zero (x : WA 8) (i : Nat) : dgQ x i 0 = dgP x i := by simp [dgQ, dgP]
theorem dgQ_four (x : WA 8) (i : Nat) : dgQ x i 4 = dgP x (i + 1) := by
  rw [dgQ, dgP, List.take_of_length_le (by simp), show 32 - (i + 1) * 4 = 32 - i * 4 - 4 by omega]; rfl
theorem dgQ_set {x : WA 8} {i k : Nat} (h : i < 8) (hk : k < 4) : (u8s (dgQ x i k)).set (0 + (4 * i + k) * 1) (.int .u8 ((byt (be (x.get i).toNat 4) k : Nat) : Int)) = u8s (dgQ x i (k + 1)) := by
  have hb : k < (be (x.get i).toNat 4).length := by simp; omega
  have hl : (u8s (digO x i ++ (be (x.get i).toNat 4).take k)).length = 4 * i + k := by simp [digO_len]; omega
  have e : u8s (dgQ x i k) = u8s (digO x i ++ (be (x.get i).toNat 4).take k) ++ (.int .u8 0 :: u8s (List.replicate (32 - i * 4 - (k + 1)) 0)) := by
    rw [dgQ, show 32 - i * 4 - k = (32 - i * 4 - (k + 1)) + 1 by omega, List.replicate_succ]; simp [u8s]
  rw [Nat.zero_add, Nat.mul_one, e, ← hl, List.set_append_right _ _ (Nat.le_refl _), Nat.sub_self, List.set_cons_zero, dgQ, List.take_succ_eq_append_getElem hb, byt_eq hb]
  simp only [u8s, List.map_append, List.map_cons, List.map_nil, List.append_assoc, List.cons_append, List.nil_append, List.map_take, List.map_replicate]
theorem padB_of {l : List UInt8} {n z : Nat} (hn : n = l.length) (hz : z = padZ l.length) : l ++ [128] ++ List.replicate z 0 ++ be (8 * n % 2 ^ 64) 8 = padB l := by subst hn hz; rfl
end Go.Cs
