/- Lemmas and walks: what each function does, by its own code. No condition beyond those of each statement. -/
import Derived.Test.YtbobhnldhpjdlaaGreatDoorP1
import Derived.Test.YtbobhnldhpjdlaaGreatDoorP4
import Derived.Test.YtbobhnldhpjdlaaGreatDoorP11
import Derived.Laws.IdiomStrings
import Derived.Laws.BytesArg
import Derived.Laws.Pointers
import Derived.Stop.IfaceNil
set_option linter.all false
set_option linter.unusedVariables false
namespace Go.Cz
open Go Go.RowKit Go.Cs
attribute [simp] B16.h
section
variable {P:Program} {G:Gc} {O:List It} {F:List Pt} {C:Value→Pt} {T:TypeId} {x y:Operand} {vs us zs:List Value} {b:Prop}
class Su (P:Program) (T:TypeId):Prop where
 su:P.underlying T=some .string
def jc (l:List UInt8):Value:= .string ⟨l.toArray⟩
end
end Go.Cz
namespace Go.Cz
open Go Go.RowKit Go.Cs
variable {P:Program} {O:List It} {F:List Pt} {S T E m:TypeId} {x y:Operand}
theorem M5 {b A n c:Nat} {l:List UInt8} {p:Prop} [hs:Su P T] [hd:Ix P S E m none] [he:Ik P E .u8] [hl:Lb O F cB (some ⟨b,A,none⟩) n c l p] (hp:p:=by (repeat' (first | exact True.intro | refine And.intro ?_ ?_))<;>first | omega |(simp only [List.length_append,List.length_take,List.length_drop,List.length_replicate,List.length_set,List.length_map,List.length_nil,List.length_cons];omega)|(simp;done)|(simp;omega)) (hn:l.length=n:=by first | assumption | omega):Yv P O F (.cvt S T (.slice (some ⟨b,A,none⟩) n c)) (jc l):=
 ⟨fun w h1 h2=>by
  have hA:=Sl.at_ (hl.lb hp w h1 h2)
  subst hn
  exact run_convert_bytes_back w S T E ⟨b,A,none⟩ c l hd.ix he.ik hs.su (fun j hj=>by
   rw [←bL] at hA
   have:=hA j (.int .u8 (l[j].toNat:Int)) (by simp [bE,hj])
   have e:(⟨b,A,none⟩:Addr).add j=⟨b,A+j,none⟩:=by
    by_cases h:j=0
    ·subst h;simp [Addr.add]
    ·simp [Addr.add,h]
   rw [e];exact this)⟩
theorem L8 {a b:List UInt8} (h:a=b):Yv P O F (.bin .eql T x y (jc a) (jc b)) (.bool true):=by
 subst h
 exact aC fun w=>by
  simp [Ak.sem,eqGuard,jc,binOp_string_eql]
end Go.Cz
namespace Go.Cz
open Go Go.RowKit Go.Cs
attribute [simp] B16.h
section
variable {P:Program} {G:Gc} {O:List It} {F:List Pt} {C:Value→Pt} {T:TypeId} {x y:Operand} {vs us zs:List Value} {b:Prop}
theorem yL (l:List UInt8):(l.map fun b=>Value.int .u8 (b.toNat:Int))=l.flatMap cB:=(bL l)
theorem MG {S E m:TypeId} {s:ByteArray} [hs:Su P S] [hd:Ix P T E m none] [he:Ik P E .u8] (k:∀b c,s.size≤c→Tr G O (Sl cB (some ⟨b,0,none⟩) s.size c s.data.toList::F) (C (.slice (some ⟨b,0,none⟩) s.size c))) (hm:∀w:World,grownCap w s.size 0 E≤9223372036854775807∧s.size≤grownCap w s.size 0 E):Tr G O F (Rv P (.cvt S T (.string s)) C):=by
 refine ⟨fun w hp=> ?_⟩
 refine ⟨_,_,run_bytes_of_string w S T E s hs.su hd.ix he.ik,k _ _ (hm w).2 _ ?_⟩
 have hx:Ext w (w.drew.alloc (.cells (bytesRow s (grownCap w s.size 0 E)) E ((bytesRow s (grownCap w s.size 0 E)).size,(bytesRow s (grownCap w s.size 0 E)).size+1))):=(Ext.drew w).trans (Ext.alloc _ _)
 have:=Hp.step (L:= []) (L':= []) (F':= [Sl cB (some ⟨w.heap.size,0,none⟩) s.size (grownCap w s.size 0 E) s.data.toList]) (by simpa using hp) (hx.mono fun k _ hk=>hk.elim) (by simp) (by simp) (by simp) (by
  intro f hf w'' hc
  simp only [List.mem_singleton] at hf
  subst hf
  have hsz:w.drew.heap.size=w.heap.size:=rfl
  have hnew:(w.drew.alloc (.cells (bytesRow s (grownCap w s.size 0 E)) E ((bytesRow s (grownCap w s.size 0 E)).size,(bytesRow s (grownCap w s.size 0 E)).size+1))).heap[w.heap.size]? =some (.cells (bytesRow s (grownCap w s.size 0 E)) E ((bytesRow s (grownCap w s.size 0 E)).size,(bytesRow s (grownCap w s.size 0 E)).size+1)):=by
   have:=World.alloc_heap_new w.drew (.cells (bytesRow s (grownCap w s.size 0 E)) E ((bytesRow s (grownCap w s.size 0 E)).size,(bytesRow s (grownCap w s.size 0 E)).size+1))
   rwa [hsz] at this
  have hlt:=(Array.getElem?_eq_some_iff.1 hnew).1
  have hk:=hc.block w.heap.size hlt (by
   rintro (h | h)
   ·simp [fps] at h
   ·rcases List.mem_append.1 h with h | h
    ·exact Nat.lt_irrefl _ (Nat.lt_of_lt_of_le (hp.bb _ h) hp.ch.size)
    ·exact Nat.lt_irrefl _ (hp.fr _ h).2.1)
  rw [hnew] at hk
  refine ⟨by simp,(hm w).2,by simpa [maxLen] using (hm w).1, .inr ⟨rfl,Nat.zero_le _,(Array.getElem?_eq_some_iff.1 hk).1,(Array.getElem?_eq_some_iff.1 hk).1,fun i v hv=> ?_⟩⟩
  rw [←yL] at hv
  have hi:i<s.data.toList.length:=by
   rcases Nat.lt_or_ge i s.data.toList.length with h | h
   ·exact h
   ·rw [List.getElem?_eq_none (by simpa using h)] at hv;cases hv
  have hv2:(bytesRow s (grownCap w s.size 0 E))[i]? =some v:=by
   rw [bytesRow,Array.getElem?_append_left (by simpa using hi)]
   simpa using hv
  unfold World.cell?
  simp [hk,hv2])
 simpa using this
end
end Go.Cz
