/- Lemmas and walks: what each function does, by its own code. No condition beyond those of each statement. -/
import Derived.Test.YtbobhnldhpjdlaaGreatDoorP11
set_option linter.all false
set_option linter.unusedVariables false
namespace Go.Cz
open Go Go.RowKit Go.Cs
section
variable {P:Program} {G:Gc} {O O':List It} {F:List Pt} {C:Pt} {α:Type} {K:α→List Value} {m b n c:Nat} {e:TypeId} {t:List α} {p:Prop}
theorem L5 (b:Nat) [hp:Pn O K m (some ⟨b,0,none⟩) n c e t O' p] (k:∀rs:List Value,n≤c→c≤9223372036854775807→Tr G (iB b (t.flatMap K++rs) e::O') F C) (hq:p:=by (repeat' (first | exact True.intro | refine And.intro ?_ ?_))<;>first | omega |(simp only [List.length_append,List.length_take,List.length_drop,List.length_replicate,List.length_set,List.length_map,List.length_nil,List.length_cons];omega)|(simp;done)|(simp;omega)):Tr G O F C:=⟨fun w h=>by
 have h1:=h.wk (hp.pn hq) (fun f hf=>hf)
 have hA:(iN K m (some ⟨b,0,none⟩) n c e t).A w:=h1.own _ (.head _)
 obtain ⟨h2,h3,h4 |⟨g,c',cur,h4,_,h5,h6,h7,h8,h9⟩⟩:=hA
 ·cases h4.1
 ·cases h4
  have hB:Blk w b cur.toList e:=by simpa [Blk] using h5
  have e1:cur.toList=t.flatMap K++cur.toList.drop (t.flatMap K).length:=by
   have h9':cur.toList.take (t.flatMap K).length=t.flatMap K:=by rw [h3];simpa using h9
   conv=>lhs;rw [←List.take_append_drop (t.flatMap K).length cur.toList,h9']
  rw [e1] at hB
  have hp2:Hp G (iB b (t.flatMap K++cur.toList.drop (t.flatMap K).length) e::O') F w:=⟨h1.ch,fun o ho=>by
   rcases List.mem_cons.1 ho with rfl | ho
   ·exact hB
   ·exact h1.own o (.tail _ ho),h1.nd,h1.fr,h1.bb,h1.st⟩
  exact (k _ h6 (by simpa [maxLen] using h7)).go w hp2⟩
theorem kz {rs:List Value} (K:α→List Value) (t:List α) (b n c:Nat) [hpb:Pb O b (t.flatMap K++rs) e O'] (k:Tr G O' (Sl K (some ⟨b,0,none⟩) n c t::F) C) (hn:n=t.length∧n≤c∧c≤9223372036854775807:=by (repeat' (first | exact True.intro | refine And.intro ?_ ?_))<;>first | omega |(simp only [List.length_append,List.length_take,List.length_drop,List.length_replicate,List.length_set,List.length_map,List.length_nil,List.length_cons];omega)|(simp;done)|(simp;omega)):Tr G O F C:=by
 refine qV _ hpb.pb ?_
 refine qc (L:= [iB b (t.flatMap K++rs) e]) [Sl K (some ⟨b,0,none⟩) n c t] ?_ k
 intro f hf'
 simp only [List.mem_singleton] at hf'
 subst hf'
 refine yY ?_ hn.1 hn.2.1 hn.2.2
 intro w h1 _
 have hB:Blk w b (t.flatMap K++rs) e:=h1 _ (.head _)
 exact hB.at 0 (t.flatMap K) (by rw [List.drop_zero,List.take_left' rfl])
instance (priority:=2000) {α:Type} {K:α→List Value} {t:List α} {rs:List Value} {O:List It} {F:List Pt} {b e:Nat}:Ab (iB b (t.flatMap K++rs) e::O) F b 0 (t.flatMap K) True:=⟨fun _ w h1 _=>by
 have hB:Blk w b (t.flatMap K++rs) e:=h1 _ (.head _)
 exact hB.at 0 (t.flatMap K) (by rw [List.drop_zero,List.take_left' rfl])⟩
end
instance {P:Program} {T E m:Nat} [h:Ix P T E m none] [hz:Sz P E m true]:Nb P (.bls T 0 []) [] E (fun b=> .slice (some ⟨b,0,none⟩) 0 0) True:=⟨fun _ w=>by
 have h1:=h.ix
 have h2:=Cs.run_sizeOf (P:=P) (w:=w) hz.sz
 simp [Ak.sem,Instr.buildSlice,run_underlying h1,h2,Instr.fill,newRow];congr 2;apply Array.ext';simp⟩
end Go.Cz
