/- Lemmas and walks: what each function does, by its own code. No condition beyond those of each statement. -/
import Derived.Test.YtbobhnldhpjdlaaGreatDoorP11
set_option linter.all false
set_option linter.unusedVariables false
namespace Go.Cz
open Go Go.RowKit Go.Cs
def No {X:Type} (i:Nat) (live:X→Fm) (q:X→Prop) (Os:X→List It) (Fs:X→List Pt) (G:Gc) (F:List Pt) (ds0:List Deferred) (K:Kt):Kt:=fun e ds' σ'=>match e with | .nm=>K .nm ds' σ' | .ex j=>bif Nat.beq j i then Jd live q Os Fs G F ds0 ds' σ' else K (.ex j) ds' σ' | .rt=>K .rt ds' σ'
section
variable {P:Program} {ro:Option Nat} {n:Nat} {c:Code} {ds:List Deferred} {σ:Fm} {K:Kt} {G:Gc} {O:List It} {F:List Pt} {X:Type}
theorem Mb {i:Nat} {live:X→Fm} {q:X→Prop} {Os:X→List It} {Fs:X→List Pt} (after:∀x,q x→Tr G (Os x) (Fs x++F) (K (.ex i) ds (live x))) {e:Exit} {a:Act} {w:World} (h:KQ n (No i live q Os Fs G F ds K) e a w):KQ n K e a w:=by
 cases e with
 | exit j=>
  obtain ⟨ds',σ'',τ'',rfl,hk'',hL⟩:=h
  simp only [No] at hL
  cases hb:Nat.beq j i with
  | true=>
   simp only [hb,cond_true] at hL
   obtain ⟨rfl,x,hq,hl,hp'⟩:=hL.go
   have e:=Nat.eq_of_beq_eq_true hb
   subst e
   exact ⟨_,live x,τ'',rfl,Kn.of_all fun p hp=>hk'' _ _ (hl.lo hp),after x hq w hp'⟩
  | false=>
   simp only [hb,cond_false] at hL
   exact ⟨ds',σ'',τ'',rfl,hk'',hL⟩
 | normal=>exact h
 | ret=>exact h
 | _=>exact h
theorem xw (i:Nat) (live:X→Fm) (q:X→Prop) (Os:X→List It) (Fs:X→List Pt) (h:∀K':Kt,Tr G O F (Lp P ro n c ds σ (No i live q Os Fs G F ds K'))) (after:∀x,q x→Tr G (Os x) (Fs x++F) (K (.ex i) ds (live x))):Tr G O F (Lp P ro n c ds σ K):=⟨fun w hp=>⟨fun τ hk=>wpIn_mono ((h K w hp).go τ hk) fun e a w' hQ=>Mb after hQ⟩⟩
theorem Ih {C:Pt} (F0:List Pt) (hf:∀f∈F0,f∈F) (h:Tr G O F0 C):Tr G O F C:=⟨fun w hp=>h w (hp.wk (ar _) hf)⟩
end
end Go.Cz
