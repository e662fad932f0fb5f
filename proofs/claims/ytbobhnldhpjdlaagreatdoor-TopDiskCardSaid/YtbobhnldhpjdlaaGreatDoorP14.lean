/- Lemmas and walks: what each function does, by its own code. No condition beyond those of each statement. -/
import Derived.Test.YtbobhnldhpjdlaaGreatDoorP13
set_option linter.all false
set_option linter.unusedVariables false
namespace Go.Cz
open Go Go.RowKit Go.Cs
instance (priority:=2000) {kk:IntKind} {z:Int} {cs:List Value}:Sb (.int kk z::cs) (0*1) [.int kk z] True:=⟨fun _=>⟨[],cs,rfl,rfl⟩⟩
instance (priority:=2000) {kk:IntKind} {z:Int} {v:Value} {cs:List Value}:Sb (v:: .int kk z::cs) (1*1) [.int kk z] True:=⟨fun _=>⟨[v],cs,rfl,rfl⟩⟩
theorem JX {α:Type} {K:α→List Value} {m:Nat} [hK:CL K m] (p:List α) (x:α) (l:List α):Sub ((p++x::l).flatMap K) (p.length*m) (K x):=
 ⟨p.flatMap K,l.flatMap K,by simp [List.flatMap_append],by rw [b8]⟩
instance (priority:=2000) {α:Type} {K:α→List Value} {m:Nat} [hK:CL K m] {x:α} {l:List α}:Sb ((x::l).flatMap K) (0*m) (K x) True:=⟨fun _=>JX [] x l⟩
instance (priority:=2000) {f:Fn} {a b:Array Value} {k:Nat}:Sb (gI ⟨some (f,a,b),k⟩) 0 [.func f a b] True:=⟨fun _=>(inferInstance:Sb (gI ⟨some (f,a,b),k⟩) 0 [fv (some (f,a,b))] True).sb True.intro⟩
@[simp] theorem KL (x:SDem):(gI x).length=2:=CL.len x
theorem DZ {G:Gc} {O:List It} {F:List Pt} {D:Pt} {α:Type} {K:α→List Value} {m:Nat} [hK:CL K m] {b o n c:Nat} {t:List α} (i k:Nat) (h:Tr G O (Sl K (some ⟨b,o+k*m,none⟩) (n-k) (c-k) (t.drop k)::F) D) (hF:F[i]? =some (Sl K (some ⟨b,o,none⟩) n c t):=by rfl) (hk:k≤n:=by omega) (hn:n≤c:=by omega) (hc:c≤9223372036854775807:=by omega):Tr G O F D:=by
 refine aR _ ?_ h
 intro w h0 hw
 have h1:=hw _ (List.mem_of_getElem? hF)
 have hl:n=t.length:=h1.1
 have h2:=(inferInstance:Lb ([]:List It) [Sl K (some ⟨b,o,none⟩) n c t] K (some ⟨b,o+k*m,none⟩) (n-k) (c-k) ((t.drop k).take (n-k)) _).lb ⟨True.intro,by omega,by omega,by omega⟩ w (fun o ho=>by cases ho) (fun f hf=>by simp only [List.mem_singleton] at hf;subst hf;exact h1)
 rwa [List.take_of_length_le (by simp;omega)] at h2
theorem JL {α:Type} {K:α→List Value} {m:Nat} [hK:CL K m] {O O1 O':List It} {b e n:Nat} {cs:List Value} {t:List α} [h:Pb O b cs e O1] (hf:cs=t.flatMap K) (hn:n=t.length) (hm:n≤9223372036854775807) (hk:Wk O1 O'):Wk O (iN K m (some ⟨b,0,none⟩) n n e t::O'):=by
 subst hf hn
 refine cZ h.pb ?_
 have h2:=(inferInstance:Pn (iB b (t.flatMap K) e::O1) K m (some ⟨b,0,none⟩) t.length t.length e (t.take t.length) O1 _).pn ⟨Nat.le_refl _,rfl,hm⟩
 rw [List.take_length] at h2
 exact cZ h2 (gF _ hk)
end Go.Cz
namespace Go.Cz
open Go Go.RowKit Go.Cs
variable {P:Program} {ro:Option Nat} {n:Nat} {c:Code} {ds:List Deferred} {σ:Fm} {K:Kt} {G:Gc} {O R:List It} {F:List Pt} {X:Type}
theorem q4 (bs:List Nat) (live:X→Fm) (q:X→Prop) (Os:X→List It) (μ:X→Nat) (x0:X) {e:Ex} {ds':List Deferred} {σ':Fm} {O':List It} [hr:Rbs O bs R] (h0:q x0) (hl:Hs (live x0) σ) (hw:Wk O (Os x0++R))
  (round:∀K':Kt,Jn (Tr G O' F (K' e ds' σ'))→∀x,q x→Tr G (Os x++R) F (zj (fun fl=>CX (fun σ''=>EC P ro n c ds σ'' (fun e ds' σ''=>match e with | .nm=>Le live q (fun x=>Os x++R) μ x G F fl ds ds' σ'' | .ex i=>K' (.ex i) ds' σ'' | .rt=>K' .rt ds' σ'')) (live x) fl) (qR c []) [] [] σ))
  (after:Tr G O' F (K e ds' σ')):Tr G O F (Lp P ro n c ds σ K):=
 dh bs live q Os μ x0 h0 hl hw (fun x hx=>round K ⟨after⟩ x hx)
theorem BD {id:Nat} {ops:Array Oper} (ks:List Nat) (h:Tr G O F (zo (fun σ'=>Dw P ro n id ops ds σ' K) σ ks [])):Tr G O F (Dw P ro n id ops ds σ K):=⟨fun w hp=>by
 obtain ⟨L,h1,h2⟩:=o8 (h w hp) (fun p hp=>by cases hp)
 exact ⟨fun τ hk=>h1.go τ (Kn.of_all fun p hp=>hk _ _ (h2 p hp))⟩⟩
end Go.Cz
