/- Lemmas and walks: what each function does, by its own code. No condition beyond those of each statement. -/
import Derived.Test.YtbobhnldhpjdlaaGreatDoorP16
set_option linter.all false
set_option linter.unusedVariables false
namespace Go.Cz
open Go Go.RowKit Go.Cs
instance (priority:=high) {cs us:List Value} {A:Nat} {p:Prop} [h:Sb cs A us p]:Sb cs (A+0) us p:=⟨fun hp=>h.sb hp⟩
instance (priority:=high) {cs us cs':List Value} {A:Nat} {p:Prop} [h:Ub cs A us cs' p]:Ub cs (A+0) us cs' p:=⟨fun hp=>h.ub hp⟩
instance (priority:=low) {cs us vs:List Value} {A j:Nat} {p q:Prop} [h:Sb cs A us p] [g:Sb us j vs q]:Sb cs (A+j) vs (p∧q):=⟨fun hp=>HO (h.sb hp.1) (g.sb hp.2)⟩
instance (priority:=3000) {cs cs':List Value} {A w:Nat} {b:Bool} {y:Un} {p r:Prop} [h:Sb cs A (a7 y) p] [k:Ub cs A (a7 (y.setCh w b)) cs' r]:Ub cs (A+276+w*1) [.bool b] cs' (p∧w<4∧r):=⟨fun hp=>by
 rw [Nat.add_assoc]
 exact GJ (h.sb hp.1) ((inferInstance:Ub (a7 y) (276+w*1) [.bool b] (a7 (y.setCh w b)) (w<4)).ub hp.2.1) (k.ub hp.2.2)⟩
end Go.Cz
