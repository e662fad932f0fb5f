/- Lemmas and walks: what each function does, by its own code. No condition beyond those of each statement. -/
import Derived.Test.YtbobhnldhpjdlaaGreatDoorP36
set_option linter.all false
set_option linter.unusedVariables false
namespace Go.Cz
open Go Go.RowKit Go.Cs
variable {P:Program} {O:List It} {F:List Pt} {S T E m:TypeId} {x y:Operand}
theorem ia {b A n c:Nat} {l:List UInt8} {p:Prop} [hs:Su P T] [hd:Ix P S E m none] [he:Ik P E .u8] [hl:Lb O F cB (some ⟨b,A,none⟩) n c l p] (hp:p:=by (repeat' (first | exact True.intro | refine And.intro ?_ ?_))<;>first | omega |(simp only [List.length_append,List.length_take,List.length_drop,List.length_replicate,List.length_set,List.length_map,List.length_nil,List.length_cons];omega)|(simp;done)|(simp;omega)) (hn:l.length=n:=by first | assumption | omega):Yv P O F (.cvt S T (.slice (some ⟨b,A,none⟩) n c)) (sZ l):=
 ⟨fun w h1 h2=>by
  have hA:=Sl.at_ (hl.lb hp w h1 h2)
  subst hn
  exact run_convert_bytes_back w S T E ⟨b,A,none⟩ c l hd.ix he.ik hs.su (fun j hj=>by
   rw [←cu] at hA
   have:=hA j (.int .u8 (l[j].toNat:Int)) (by simp [b8,hj])
   have e:(⟨b,A,none⟩:Addr).add j=⟨b,A+j,none⟩:=by
    by_cases h:j=0
    ·subst h;simp [Addr.add]
    ·simp [Addr.add,h]
   rw [e];exact this)⟩
theorem EU {a b:List UInt8} (h:a=b):Yv P O F (.bin .eql T x y (sZ a) (sZ b)) (.bool true):=by
 subst h
 exact aC fun w=>by
  simp [Ak.sem,eqGuard,sZ,binOp_string_eql]
theorem vH {a b:List UInt8} (h:a≠b):Yv P O F (.bin .eql T x y (sZ a) (sZ b)) (.bool false):=
 aC fun w=>by
  simp [Ak.sem,eqGuard,sZ,binOp_string_eql,h]
end Go.Cz
