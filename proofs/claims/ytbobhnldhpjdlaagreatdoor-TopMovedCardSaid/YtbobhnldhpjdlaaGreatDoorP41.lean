/- Lemmas and walks: what each function does, by its own code. No condition beyond those of each statement. -/
import Derived.Test.YtbobhnldhpjdlaaGreatDoorP36
set_option linter.all false
set_option linter.unusedVariables false
namespace Go.Cz
open Go Go.RowKit Go.Cs
section
variable {P:Program} {G:Gc} {O O':List It} {F:List Pt} {C:Pt} {α:Type} {K:α→List Value} {m b n c:Nat} {e:TypeId} {t:List α} {p:Prop}
end
instance {P:Program} {T E m:Nat} [h:Ix P T E m none] [hz:Sz P E m true]:Nb P (.bls T 0 []) [] E (fun b=> .slice (some ⟨b,0,none⟩) 0 0) True:=⟨fun _ w=>by
 have h1:=h.ix
 have h2:=Cs.run_sizeOf (P:=P) (w:=w) hz.sz
 simp [Ak.sem,Instr.buildSlice,run_underlying h1,h2,Instr.fill,newRow];congr 2;apply Array.ext';simp⟩
end Go.Cz
