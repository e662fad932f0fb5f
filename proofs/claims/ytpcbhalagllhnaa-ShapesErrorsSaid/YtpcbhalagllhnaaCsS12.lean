/- CsS12: what each function does, by its own code. No condition beyond those of each statement. -/
import Derived.Test.YtpcbhalagllhnaaCsS12b
import Derived.Test.YtpcbhalagllhnaaCsS12c
namespace Go.Proofs.Ytpcbhalagllhnaa
open Go Go.RowKit Go.Cs
set_option maxRecDepth 100000
set_option linter.all false
set_option linter.unusedVariables false

theorem c_ShapesErrors (n : Int) (l : Int) (j : Int) (s : Int)  (w : World) (hp0 : -9223372036854775808 ≤ n ∧ n ≤ 9223372036854775807) (hp1 : -9223372036854775808 ≤ l ∧ l ≤ 9223372036854775807) (hp2 : -9223372036854775808 ≤ j ∧ j ≤ 9223372036854775807) (hp3 : -9223372036854775808 ≤ s ∧ s ≤ 9223372036854775807) :
    Calls Try.prog 8 #[(vA [(.int .i64 n), (.int .i64 l), (.int .i64 j), (.int .i64 s)])] w (Ret fun r w' => r = vT ∧ Ext w w') := by
  by_cases hv : 1 ≤ n ∧ n ≤ 4096
  case neg =>
    by_cases hlo : n < 1
    · exact c_SE_lo n l j s w hlo
    · exact c_SE_hi n l j s w (by omega)
  obtain ⟨n, rfl⟩ := Int.eq_ofNat_of_zero_le (show 0 ≤ n by omega)
  have v1 : 1 ≤ n := by omega
  have v2 : n ≤ 4096 := by omega
  have hbg := bas_ge n (hgt n + 1)
  by_cases hl : 0 ≤ l ∧ l ≤ hgt n
  · obtain ⟨l, rfl⟩ := Int.eq_ofNat_of_zero_le hl.1
    have hl2 : l ≤ hgt n := by omega
    by_cases hb : 0 ≤ j ∧ j < n
    · obtain ⟨j, rfl⟩ := Int.eq_ofNat_of_zero_le hb.1
      have hb2 : j < n := by omega
      by_cases hj : j < cnt n l
      · by_cases s0 : s = 0
        · subst s0; exact c_SE_is_0 n l j w v1 v2 hl2 hj hb2
        by_cases s1 : s = 1
        · subst s1; exact c_SE_is_1 n l j w v1 v2 hl2 hj hb2
        by_cases s2 : s < 0
        · exact c_SE_is_lt n l j s w v1 v2 hl2 hj hb2 s2
        by_cases s3 : s > 3
        · exact c_SE_is_gt n l j s w v1 v2 hl2 hj hb2 s3
        obtain ⟨s, rfl⟩ := Int.eq_ofNat_of_zero_le (show 0 ≤ s by omega)
        exact c_SE_is_in n l j s w v1 v2 hl2 hj hb2 (by omega)
      · skip
        by_cases s0 : s = 0
        · subst s0; exact c_SE_cb_0 n l j w v1 v2 hl2 (by omega) hb2
        by_cases s1 : s = 1
        · subst s1; exact c_SE_cb_1 n l j w v1 v2 hl2 (by omega) hb2
        exact c_SE_cb_out n l j s w v1 v2 hl2 (by omega) hb2 s0 s1
    · by_cases hg : 0 ≤ j ∧ j < bas n (hgt n + 1)
      · obtain ⟨j, rfl⟩ := Int.eq_ofNat_of_zero_le hg.1
        exact c_SE_cg n l j s w v1 v2 hl2 (by omega) (by omega)
      · exact c_SE_cn n l j s w v1 v2 hl2 hg
  · by_cases hb : 0 ≤ j ∧ j < n
    · obtain ⟨j, rfl⟩ := Int.eq_ofNat_of_zero_le hb.1
      have hb2 : j < n := by omega
      by_cases s0 : s = 0
      · subst s0; exact c_SE_xb_0 n l j w v1 v2 hl hb2
      by_cases s1 : s = 1
      · subst s1; exact c_SE_xb_1 n l j w v1 v2 hl hb2
      exact c_SE_xb_out n l j s w v1 v2 hl hb2 s0 s1
    · by_cases hg : 0 ≤ j ∧ j < bas n (hgt n + 1)
      · obtain ⟨j, rfl⟩ := Int.eq_ofNat_of_zero_le hg.1
        exact c_SE_xg n l j s w v1 v2 hl (by omega) (by omega)
      · exact c_SE_xn n l j s w v1 v2 hl hg

end Go.Proofs.Ytpcbhalagllhnaa
