/- Lemmas and walks: what each function does, by its own code. No condition beyond those of each statement. -/
import Derived.Test.YtbobhnldhpjdlaaGreatDoorP11
set_option linter.all false
set_option linter.unusedVariables false
namespace Go.Cz
open Go Go.RowKit Go.Cs
theorem re {α:Type} {f:α→List Value} {sz:Nat} {z:Value} {x:α} (hz:z.cells=(f x).toArray) (hs:(f x).length=sz) (h0:0<sz) (n:Nat):(Builtin.zeroCells z.cells n).toList=(List.replicate n x).flatMap f:=by
 have hsz:z.cells.size=sz:=by rw [hz];simpa using hs
 have:=pr hz hs h0 n
 rw [←hsz] at this
 exact this
variable {P:Program} {G:Gc} {O O':List It} {F:List Pt} {C:Value→Pt} {D:Pt}
theorem Hx {T Ti E ty m bys:Nat} {α:Type} {K:α→List Value} {z:α} [h:Ix P T E m none] [hz:Zk P E α K z m bys] [hK:CL K m] [hi:Ik P Ti .i64] {zi:Int} {n:Nat} [hn:Ni zi n]
  (k:∀g c',n≤c'→c'≤9223372036854775807→Tr G (iB g ((List.replicate c' z).flatMap K) E::O) F (C (.slice (some ⟨g,0,none⟩) n c'))) (h0:0<n:=by omega) (h63:n≤9223372036854775807:=by omega) (hb:n*bys≤140737488355328:=by omega) (hm:0<m:=by decide):
  Tr G O F (Rv P (.bi .append #[T,Ti] ty [.slice none 0 0, .int .i64 zi]) C):=by
 cases hn.ni
 obtain ⟨v,hE,hv⟩:=hz.zk
 obtain ⟨i,hi',hz1,hz2,hz3⟩:=info_parts hE
 refine ⟨fun w hp=> ?_⟩
 have hge:n≤grownCap w n 0 E:=grownCap_ge w n 0 E
 have hle:grownCap w n 0 E≤9223372036854775807:=by simpa [maxLen] using grownCap_le_maxLen w n 0 E (by simpa [maxLen] using h63)
 have hw:IntKind.i64.wrap (n:Int)=(n:Int):=jz
 have hrun:(Ak.bi .append #[T,Ti] ty [.slice none 0 0, .int .i64 (n:Int)]).sem.run P w= .ok (.slice (some ⟨w.heap.size,0,none⟩) n (grownCap w n 0 E)) (w.drew.alloc (.cells ((List.replicate (grownCap w n 0 E) z).flatMap K).toArray E)):=by
  have e1:Builtin.zeroCells v.cells n++Builtin.zeroCells v.cells (grownCap w n 0 E-n)=((List.replicate (grownCap w n 0 E) z).flatMap K).toArray:=by
   apply Array.ext'
   rw [Array.toList_append,re hv (hK.len z) hm,re hv (hK.len z) hm,←List.flatMap_append,List.replicate_append_replicate,show n+(grownCap w n 0 E-n)=grownCap w n 0 E by omega]
  have h1:¬((n:Int)<0):=by omega
  have h2:¬(281474976710656<(n:Int)*(i.bytes:Int)):=by rw [hz3];omega
  have h3:¬(9223372036854775807<(n:Int)):=by omega
  have h4:¬(281474976710656<Builtin.nextslicecap n 0*i.bytes):=by rw [hz3];have:=growslice_fits (need:=n) (old:=0) (bytes:=bys) h0 hb;omega
  have h5:¬(n=0):=by omega
  have h6:¬(n*i.size=0):=by rw [hz2];exact fun g=>by rcases Nat.mul_eq_zero.1 g with g | g<;>omega
  show (Builtin.append_ #[T,Ti] ty #[.slice none 0 0, .int .i64 (n:Int)]).run P w=_
  have h7:¬(n=0∨i.size=0):=by rw [hz2];omega
  simp [Builtin.append_,run_underlying h.ix,run_underlying hi.ik,sizeOf,typeInfo,zeroValue,hi',hz1,asInt,asIntOf,hw,h1,h2,h3,h4,h5,h6,h7,Question.forced,Builtin.firstCells,newRow,grownCap]
  exact congrArg (fun x=>w.drew.alloc (.cells x E)) e1
 refine ⟨_,_,hrun,k w.heap.size _ hge hle _ ?_⟩
 have:=Hp.step (L:= []) (L':= [iB w.heap.size ((List.replicate (grownCap w n 0 E) z).flatMap K) E]) (F':= []) (w':=w.drew.alloc (.cells ((List.replicate (grownCap w n 0 E) z).flatMap K).toArray E)) (by simpa using hp) (((Ext.drew w).trans (Ext.alloc w.drew _)).mono fun k _ hk=>hk.elim) (by
  intro o ho;simp only [List.mem_singleton] at ho;subst ho;exact Blk.new w.drew _ E) (by simp [iB]) (by
  intro k hk
  simp [iB] at hk;subst hk
  exact ⟨.inr (Nat.le_refl _),by simp⟩) (fun f hf=>by cases hf)
 simpa using this
theorem Eu {α:Type} {K:α→List Value} {m:Nat} [hK:CL K m] {b o n c:Nat} {t:List α} (i k c':Nat) (t':List α) (h:Tr G O (Sl K (some ⟨b,o,none⟩) k c' t'::F) D) (hF:F[i]? =some (Sl K (some ⟨b,o,none⟩) n c t):=by rfl) (he:t.take k=t':=by rfl) (hk:k≤n:=by omega) (hc:k≤c':=by omega) (hm:c'≤9223372036854775807:=by omega):Tr G O F D:=by
 refine aR _ ?_ h
 intro w _ hw
 have:=o0 (hw _ (List.mem_of_getElem? hF)) hk hc hm
 rwa [he] at this
instance (priority:=2000) {a:Option Addr} {n c:Nat} {cs:List Value}:Sb (.slice a n c::cs) (0*1) [.slice a n c] True:=⟨fun _=>⟨[],cs,rfl,rfl⟩⟩
instance (priority:=2000) {v u:Value} {a:Option Addr} {n c:Nat} {cs:List Value}:Sb (v::u:: .slice a n c::cs) (2*1) [.slice a n c] True:=⟨fun _=>⟨[v,u],cs,rfl,rfl⟩⟩
instance {v:Value} {vs:List Value} [h:Cv v vs]:Cv (gr [v]) vs:=h
instance {v:Value} {vs:List Value} [h:Cv v vs]:Cv (gr [gr [v]]) vs:=h
structure Jn (p:Prop):Prop where
 go:p
theorem jn {p q:Prop} (f:Jn p→q) (h:p):q:=f ⟨h⟩
theorem qT {α:Type} {K:α→List Value} {m:Nat} {e:TypeId} {t:List α} {O O':List It} (ht:t= []) (h:Wk O O'):Wk O (iN K m none 0 0 e t::O'):=by
 subst ht
 exact cZ h ((inferInstance:Pn O' K m none 0 0 e [] O' True).pn True.intro)
theorem z6 {α:Type} (us:List α) (u:α) (l:List α):(us++u::l).take (us.length+1)=us++ [u]:=by rw [show us++u::l=(us++ [u])++l by simp,List.take_left' (by simp)]
def zo (C:Fm→Pt) (σ:Fm):List Nat→Fm→Pt
 | [],acc=>C acc
 | k::ks,acc=>Hm (fun v=>zo C σ ks ((k,v)::acc)) k σ
theorem o8 {C:Fm→Pt} {σ:Fm} {w:World}:∀{ks:List Nat} {acc:Fm},zo C σ ks acc w→(∀p∈acc,lo σ p.1=some p.2)→∃L,C L w∧∀p∈L,lo σ p.1=some p.2
 | [],acc,h,ha=>⟨acc,h,ha⟩
 | k::ks,acc,h,ha=>by
  obtain ⟨v,h1,h2⟩:=oH (C:=fun v=>zo C σ ks ((k,v)::acc)) h
  exact o8 h2 (fun p hp=>by
   rcases List.mem_cons.1 hp with rfl | h9
   ·exact h1
   ·exact ha p h9)
theorem sV {ro:Option Nat} {n:Nat} {c:Code} {ds:List Deferred} {σ:Fm} {K:Kt} (ks:List Nat) (h:Tr G O F (zo (fun σ'=>Lp P ro n c ds σ' K) σ ks [])):Tr G O F (Lp P ro n c ds σ K):=⟨fun w hp=>by
 obtain ⟨L,h1,h2⟩:=o8 (h w hp) (fun p hp=>by cases hp)
 exact ⟨fun τ hk=>h1.go τ (Kn.of_all fun p hp=>hk _ _ (h2 p hp))⟩⟩
end Go.Cz
