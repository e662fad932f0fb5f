/- CsL10g: what each function does, by its own code. No condition beyond those of each statement. -/
import Derived.Test.YtigeaknjhnichaaCsL10c
import Derived.Test.YtigeaknjhnichaaCsL10d
import Derived.Test.YtigeaknjhnichaaCsL10e
import Derived.Test.YtigeaknjhnichaaCsL10f
namespace Go.Proofs.Ytigeaknjhnichaa
open Go Go.RowKit Go.Cs
set_option maxRecDepth 100000
set_option linter.all false
set_option linter.unusedVariables false

theorem c_RecordsGet {lo_l hi_l : Nat} {a_l : Option Addr} {n_l c_l : Nat} {l : List UInt8} (w : World) (h_l : Bs lo_l hi_l w a_l n_l c_l l) :
    Calls Try.prog 13 #[(.slice a_l n_l c_l)] w (Ret fun r w' => r = (.bool true) ∧ Ext w w') := by
  by_cases h0 : 60 < n_l
  · exact c_RecordsGetBig w h_l h0
  by_cases h1 : n_l < 33
  · exact c_RGa w h_l h1
  by_cases h2 : n_l = 33
  · rcases chkE_le (Ent.of l) with h | h
    · exact c_RG33 w h_l h2 h
    · exact c_RG33b w h_l h2 h
  by_cases h3 : n_l < 45
  · exact c_RGb w h_l (by omega) h3
  by_cases h4 : n_l = 45
  · rcases chkR_le (Rec.of l) with h | h
    · exact c_RG45 w h_l h4 h
    · exact c_RG45b w h_l h4 h
  by_cases h5 : n_l < 48
  · exact c_RGc w h_l (by omega) h5
  by_cases h6 : n_l = 48
  · exact c_RG48 w h_l h6
  exact c_RGd w h_l (by omega) (by omega)

end Go.Proofs.Ytigeaknjhnichaa
