/- Lemmas and walks: what each function does, by its own code. No condition beyond those of each statement. -/
import Derived.Test.YtbobhnldhpjdlaaGreatDoorP14
set_option linter.all false
set_option linter.unusedVariables false
namespace Go.Cz
open Go Go.RowKit Go.Cs
variable {P:Program} {G:Gc} {O:List It} {F:List Pt} {C:Value→Pt} {T E i o m:Nat} {cs vs:List Value} {v:Value} {p:Prop}
theorem Mw [h:Fo P T i o E] [hE:Sz P E m true] [hs:Sb cs o vs p] (k:Tr G O F (C (vA vs))) (hp:p:=by (repeat' (first | exact True.intro | refine And.intro ?_ ?_))<;>first | omega |(simp only [List.length_append,List.length_take,List.length_drop,List.length_replicate,List.length_set,List.length_map,List.length_nil,List.length_cons];omega)|(simp;done)|(simp;omega)) (hl:vs.length=m:=by first | exact CL.len _ | exact rfl |(simp;done)|(simp;omega)):Tr G O F (Rv P (.fd T (vA cs) i) C):=
 nF (tv (hs.sb hp) hl) k
theorem Jf {ops:Array Oper} {a b:Nat} [h:Fo P T i o E] [hE:Sz P E m true] [hs:Sb cs o vs p] (k:Tr G O F (C (vA vs))) (hp:p:=by (repeat' (first | exact True.intro | refine And.intro ?_ ?_))<;>first | omega |(simp only [List.length_append,List.length_take,List.length_drop,List.length_replicate,List.length_set,List.length_map,List.length_nil,List.length_cons];omega)|(simp;done)|(simp;omega)) (hl:vs.length=m:=by first | exact CL.len _ | exact rfl |(simp;done)|(simp;omega)) (hc:gu (bw ops) a b=true:=by kernel_rfl):Tr G O F (Dp P ops a b (fun C=>Rv P (.fd T (vA cs) i) C) C):=
 zH k (zq (tv (hs.sb hp) hl)) hc
section
variable {x y:Operand} {us:List Value} {b:Prop}
theorem Gk [h:Eqc P T vs us b] (hb:b):Yv P O F (Ak.bin .neq T x y (vA vs) (vA us)) (.bool false):=by
 obtain ⟨r,h1,h2⟩:=h.eq
 have hr:r=true:=h2.2 hb
 subst hr
 exact aC fun w=>gE (h1 w) h.gd
end
theorem Fx (l:List Bool):jj l=l.flatMap cT:=by
 induction l with
 | nil=>rfl
 | cons a l ih=>simp [cT,jj] at ih⊢;exact ih
instance {l:List Bool}:Fb (jj l) cT l:=⟨Fx l⟩
instance (priority:=2000) {f:Fn} {a b:Array Value} {cs:List Value}:Sb (.func f a b::cs) (0*1) [.func f a b] True:=⟨fun _=>⟨[],cs,rfl,rfl⟩⟩
end Go.Cz
