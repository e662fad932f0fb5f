/- Arguments that are nodes, or what nodes are made of, opened; package-level variables that read as a known list of numbers. Lemmas only; no condition. -/
import Derived.Test.YthjplefmfjkhfaaDoorCsO
import Derived.Test.YthjplefmfjkhfaaDoorCsNod
import Derived.LaidMore
import Derived.Stop.Joined
set_option linter.all false
set_option linter.unusedVariables false
namespace Go.Cs
open Go Go.ChangeShapes Go.WideShapes Go.ChangeAt Go.RowKit

section
variable {H : Type} {enc : TypeId × Value → H} {P : Program} {W : World} {base : Nat} {sp : Nat → Bool} {held : Bool}

/-- An array, part by part. -/
theorem rd_list {α : Type} {f : α → List Value} {t e : TypeId} {n sz : Nat} {cs : List Value} (hx : ∀ us, Rd enc P W base sp held e us → ∃ x, us = f x) (h : Rd enc P W base sp held t cs) (hu : P.underlying t = some (.array n e)) (he : P.cellsOf e = sz) (ht : P.cellsOf t = n * sz) :
    ∃ l : List α, l.length = n ∧ cs = l.flatMap f := by
  obtain ⟨hl, hi⟩ := rd_array h hu
  have step : ∀ m, m ≤ n → ∃ l : List α, l.length = m ∧ cs.take (m * sz) = l.flatMap f := by
    intro m
    induction m with
    | zero => intro _; exact ⟨[], rfl, by simp⟩
    | succ m ih =>
      intro hm
      obtain ⟨l, h1, h2⟩ := ih (by omega)
      obtain ⟨x, h3⟩ := hx _ (hi m (by omega))
      rw [he] at h3
      exact ⟨l ++ [x], by simp [h1], by rw [Nat.add_mul, Nat.one_mul, List.take_add, h2, h3]; simp⟩
  obtain ⟨l, h1, h2⟩ := step n (Nat.le_refl _)
  exact ⟨l, h1, by rw [← h2, List.take_of_length_le (by omega)]⟩
theorem rd_u8s {t e : TypeId} {n : Nat} {cs : List Value} (h : Rd enc P W base sp held t cs) (hu : P.underlying t = some (.array n e)) (he : P.underlying e = some (.int .u8)) (h1 : P.cellsOf e = 1) (hn : P.cellsOf t = n) : ∃ l : List UInt8, cs = u8s l ∧ l.length = n := by
  obtain ⟨hl, hi⟩ := rd_array h hu
  rw [hn] at hl
  refine ⟨cs.map (fun v => match v with | .int _ n => UInt8.ofNat n.toNat | _ => 0), ?_, by simp [hl]⟩
  refine List.ext_getElem (by simp [hl]) (fun i h2 h3 => ?_)
  obtain ⟨n, hn, hw⟩ := rd_int (hi i (by omega)) he
  rw [h1, Nat.mul_one] at hn
  have hg : cs[i] = .int .u8 n := by
    have := congrArg (fun z => z[0]?) hn
    simp [List.getElem?_take, List.getElem?_drop, h2] at this
    exact this
  have hb := bounds_u8 hw
  simp only [u8s, List.getElem_map, hg]
  rw [UInt8.toNat_ofNat', Nat.mod_eq_of_lt (by omega)]
  congr 1; omega

/-- What reads as a list of numbers has the numbers in its cells. -/
theorem arr_of_trod {t e : TypeId} {k : IntKind} {fuel n : Nat} {cs : List Value} {p : List MemPlace} {ns : List Int} (h : DataW.trod enc P W base sp held fuel t cs = some (.agg (ns.map fun z => .lit (.int k z)), p)) (hu : P.underlying t = some (.array n e)) (he : P.underlying e = some (.int k)) (ce : P.cellsOf e = 1) (ct : P.cellsOf t = n) :
    cs = ns.map fun z => .int k z := by
  obtain ⟨xs, m, rfl, hx, hl, hn, hi⟩ := DataW.trod_array hu h
  simp only [Prod.mk.injEq, DataW.agg.injEq] at hx
  have hlen : ns.length = n := by rw [← hn, ← List.length_map (f := fun x => x.1) (as := xs), ← hx.1, List.length_map]
  refine List.ext_getElem (by simp; omega) fun i h1 h2 => ?_
  have h3 : i < xs.length := by omega
  have h4 := hi i (by omega)
  rw [List.getElem?_eq_getElem h3, ce, Nat.mul_one] at h4
  obtain ⟨z, e1, e2, _⟩ := DataW.trod_int he h4
  have e3 : cs[i] = .int k z := by
    have := congrArg (fun y => y[0]?) e1
    simp [List.getElem?_take, List.getElem?_drop, h1] at this
    exact this
  have e4 := congrArg (fun y => y[i]?) hx.1
  simp only [List.getElem?_map, List.getElem?_eq_getElem h3, e2, List.getElem?_eq_getElem (show i < ns.length by omega), Option.map_some, Option.some.injEq, DataW.lit.injEq, Lit.int.injEq, true_and] at e4
  rw [e3]; simp [e4]

theorem gl_of {name : String} {g : Nat} {cs : Array Value} {vs : List Value} (hg : P.globalNamed name = some g) (hv : W.var? P name = some cs) (hcs : cs.toList = vs) : Gl g vs W := by
  have hc := fun i => World.var?_cell hg hv i
  refine ⟨fun i v hi => ?_, ?_⟩
  · rw [Nat.zero_add, hc i, ← hi, ← hcs]; simp
  · simp only [World.var?, hg, Option.bind_some] at hv
    rcases Nat.lt_or_ge g W.heap.size with h | h
    · exact h
    · rw [Array.getElem?_eq_none h] at hv; simp at hv

theorem rd_nod {N R E r t8 tn td e t32 t64 en : TypeId} {cs : List Value} (h : Rd enc P W base sp held N cs) (hN : fieldsB P N = [(true, t8, 0), (true, t32, 1), (true, R, 2), (true, E, 142)])
    (hR : P.underlying R = some (.array 4 r)) (hE : P.underlying E = some (.array 4 en)) (h8 : P.underlying t8 = some (.int .u8)) (c8 : P.cellsOf t8 = 1) (hF : fieldsB P r = [(true, t8, 0), (true, tn, 1), (true, td, 3)]) (hFe : fieldsB P en = [(true, t8, 0), (true, td, 1)])
    (hFn : fieldsB P tn = [(true, t32, 0), (true, t64, 1)]) (h1 : P.underlying t32 = some (.int .u32)) (h2 : P.underlying t64 = some (.int .u64)) (c1 : P.cellsOf t32 = 1) (c2 : P.cellsOf t64 = 1) (cn : P.cellsOf tn = 2)
    (hu : P.underlying td = some (.array 32 e)) (he : P.underlying e = some (.int .u8)) (ce : P.cellsOf e = 1) (cd : P.cellsOf td = 32) (cr : P.cellsOf r = 35) (cen : P.cellsOf en = 33) (cR : P.cellsOf R = 140) (cE : P.cellsOf E = 132) (c : P.cellsOf N = 274) : ∃ x : Nod, cs = nodC x := by
  obtain ⟨hl, hf⟩ := rd_struct h hN
  obtain ⟨a, ha, ha2⟩ := rd_nat (hf (true, t8, 0) (by simp)) h8 w8
  obtain ⟨b, hb, hb2⟩ := rd_nat (hf (true, t32, 1) (by simp)) h1 w32
  obtain ⟨rs, hr1, hr2⟩ := rd_list (f := recC) (fun us hh => rd_rec hh hF h8 c8 hFn h1 h2 c1 c2 cn hu he ce cd cr) (hf (true, R, 2) (by simp)) hR cr cR
  obtain ⟨es, he1, he2⟩ := rd_list (f := entC) (fun us hh => rd_ent hh hFe h8 c8 hu he ce cd cen) (hf (true, E, 142) (by simp)) hE cen cE
  simp only [c8, c1, cR, cE] at ha hb hr2 he2
  refine ⟨⟨a, b, ⟨rs, hr1⟩, ⟨es, he1⟩, ha2, hb2⟩, ?_⟩
  have e1 := part_cat cs 0 1
  have e2 := part_cat cs 1 1
  have e3 := part_cat cs 2 140
  have e4 := part_cat cs 142 132
  rw [ha] at e1; rw [hb] at e2; rw [hr2] at e3; rw [he2, List.drop_eq_nil_of_le (by omega)] at e4
  rw [List.drop_zero] at e1
  rw [← e1, ← e2, ← e3, ← e4]; simp [nodC, r4C, e4C]

theorem rd_nn {N n12 t8 t16 A : TypeId} {cs : List Value} (h : Rd enc P W base sp held N cs) (hN : fieldsB P N = [(true, n12, 0), (true, t8, 1), (true, t16, 2), (true, A, 3), (true, A, 7)]) (hB : fieldsB P n12 = [(true, t16, 0)]) (h8 : P.underlying t8 = some (.int .u8)) (h16 : P.underlying t16 = some (.int .u16)) (hA : P.underlying A = some (.array 4 t8))
    (c8 : P.cellsOf t8 = 1) (c16 : P.cellsOf t16 = 1) (c12 : P.cellsOf n12 = 1) (cA : P.cellsOf A = 4) (c : P.cellsOf N = 11) : ∃ x : NN, cs = nnC x := by
  obtain ⟨hl, hf⟩ := rd_struct h hN
  obtain ⟨k, hk, hk2⟩ := rd_h16 (hf (true, n12, 0) (by simp)) hB h16 c16 c12
  obtain ⟨a, ha, ha2⟩ := rd_nat (hf (true, t8, 1) (by simp)) h8 w8
  obtain ⟨b, hb, hb2⟩ := rd_nat (hf (true, t16, 2) (by simp)) h16 w16
  obtain ⟨s, hs, hs2⟩ := rd_u8s (hf (true, A, 3) (by simp)) hA h8 c8 cA
  obtain ⟨d, hd, hd2⟩ := rd_u8s (hf (true, A, 7) (by simp)) hA h8 c8 cA
  simp only [c8, c16, c12, cA] at ha hb hk hs hd
  refine ⟨⟨k, a, b, s, d, hk2, ha2, hb2, hs2, hd2⟩, ?_⟩
  have e0 := part_cat cs 0 1
  have e1 := part_cat cs 1 1
  have e2 := part_cat cs 2 1
  have e3 := part_cat cs 3 4
  have e4 := part_cat cs 7 4
  rw [hk] at e0; rw [ha] at e1; rw [hb] at e2; rw [hs] at e3; rw [hd, List.drop_eq_nil_of_le (by omega)] at e4
  rw [List.drop_zero] at e0
  rw [← e0, ← e1, ← e2, ← e3, ← e4]; simp [nnC]

theorem rd_par {T r t8 tn td e t32 t64 en : TypeId} {cs : List Value} (h : Rd enc P W base sp held T cs) (hT : fieldsB P T = [(true, r, 0), (true, en, 35)]) (h8 : P.underlying t8 = some (.int .u8)) (c8 : P.cellsOf t8 = 1) (hF : fieldsB P r = [(true, t8, 0), (true, tn, 1), (true, td, 3)]) (hFe : fieldsB P en = [(true, t8, 0), (true, td, 1)])
    (hFn : fieldsB P tn = [(true, t32, 0), (true, t64, 1)]) (h1 : P.underlying t32 = some (.int .u32)) (h2 : P.underlying t64 = some (.int .u64)) (c1 : P.cellsOf t32 = 1) (c2 : P.cellsOf t64 = 1) (cn : P.cellsOf tn = 2)
    (hu : P.underlying td = some (.array 32 e)) (he : P.underlying e = some (.int .u8)) (ce : P.cellsOf e = 1) (cd : P.cellsOf td = 32) (cr : P.cellsOf r = 35) (cen : P.cellsOf en = 33) (c : P.cellsOf T = 68) : ∃ x : Par, cs = parC x := by
  obtain ⟨hl, hf⟩ := rd_struct h hT
  obtain ⟨x, hx⟩ := rd_rec (hf (true, r, 0) (by simp)) hF h8 c8 hFn h1 h2 c1 c2 cn hu he ce cd cr
  obtain ⟨y, hy⟩ := rd_ent (hf (true, en, 35) (by simp)) hFe h8 c8 hu he ce cd cen
  simp only [cr, cen] at hx hy
  refine ⟨⟨x, y⟩, ?_⟩
  have e0 := part_cat cs 0 35
  have e1 := part_cat cs 35 33
  rw [hx] at e0; rw [hy, List.drop_eq_nil_of_le (by omega)] at e1
  rw [List.drop_zero] at e0
  rw [← e0, ← e1]; simp [parC]
end
end Go.Cs
