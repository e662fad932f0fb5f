/- Lemmas and walks: what each function does, by its own code. No condition beyond those of each statement. -/
import Derived.Test.YtbobhnldhpjdlaaGreatDoorP4
import Derived.Lib.SliceRun
set_option linter.all false
set_option linter.unusedVariables false
namespace Go.Cz
open Go Go.RowKit Go.Cs
class Lu (z:Int) (c:outParam UInt8):Prop where
 lu:z=(c.toNat:Int)
instance:Lu ((1:Nat):Int) 1:=⟨rfl⟩
instance:Fb (α:=UInt8) [] cB []:=⟨rfl⟩
instance (priority:=low) {z:Int} {c:UInt8} {cs:List Value} {t:List UInt8} [h:Lu z c] [g:Fb cs cB t]:Fb (.int .u8 z::cs) cB (c::t):=⟨by rw [g.fm,h.lu];rfl⟩
theorem SPrb.ext' {x y:SPrb} (h:x.Sector=y.Sector) (g:x.Fault=y.Fault):x=y:=by cases x;cases y;simp at h g;subst h g;rfl
theorem CC {P:Program} {T ti tb:TypeId} {x y:SPrb} (hF:bj P T= [(true,ti,0),(true,tb,1)]) (hp:P.stoodInHeld T=false) (h1:P.underlying ti=some (.int .i64)) (h2:P.underlying tb=some (.int .u8)) (hg:P.eqGuardType P.depth T=false):Eqc P T (bW x) (bW y) (x=y):=
 ⟨⟨x.Sector==y.Sector&&(x.Fault==y.Fault&&true),fun w=>cp hF hp (a6 (aI (by rw [h1];rfl) rfl) (aI (by rw [h1];rfl) rfl) (de _ _ h1) (a6 (aI (by rw [h2];rfl) rfl) (aI (by rw [h2];rfl) rfl) (de _ _ h2) rfl)),by
  simp only [Bool.and_eq_true,beq_iff_eq,and_true]
  exact ⟨fun h=>SPrb.ext' h.1 h.2,fun h=>by subst h;exact ⟨rfl,rfl⟩⟩⟩,hg⟩
end Go.Cz
namespace Go.Cz
open Go Go.RowKit Go.Cs
abbrev Svp (x:Sv) (k:Nat):Prop:=x.2.1=k∧x.2.1≤x.2.2∧x.2.2≤9223372036854775807
instance {α:Type} {K:α→List Value} {O:List It} {F:List Pt}:Lb O F K none 0 0 ([]:List α) True:=⟨fun _ w _ _=>⟨rfl,rfl,rfl,rfl⟩⟩
section
variable {P:Program} {G:Gc} {O O':List It} {F:List Pt} {C:Value→Pt} {v:Value} {k:Ak}
theorem wY {T E m n c n' c':Nat} {x y:Operand} {a:Option Addr} [h:Ix P T E m none]:Yv P O F (Ak.bin .eql T x y (.slice a n c) (.slice none n' c')) (.bool a.isNone):=aC fun w=>by
 have h1:=Lib.run_eql_slice_nil (P:=P) w T E a n c n' c' h.ix
 simp [Ak.sem,eqGuard,h1]
theorem pI {T E ty m n c c2:Nat} {a a2:Option Addr} [h:Ix P T E m none] (hc:n≤c:=by omega):Yv P O F (Ak.bi .append #[T,T] ty [.slice a n c, .slice a2 0 c2]) (.slice a n c):=aC fun w=>by
 have h1:=h.ix
 have h2:=Cs.run_sizeOf (P:=P) (w:=w) h.sz
 have h3:(Builtin.firstCells m 0 (.slice a2 0 c2)).run P w= .ok #[] w:=by
  cases a2 with
  | none=>rfl
  | some ad=>simp [Builtin.firstCells,loadCells,loadCellsFrom]
 cases a with
 | none=>simp [Ak.sem,Builtin.append_,run_underlying h1,h2,Builtin.lenOf,h3,hc]
 | some ad=>simp [Ak.sem,Builtin.append_,run_underlying h1,h2,Builtin.lenOf,h3,hc,storeCells]
theorem pg {T E m n c A b:Nat} {kk:IntKind} {a:Option Addr} [h:Ix P T E m none] {z:Int} {i:Nat} [hz:Ni z i] (ha:a=some ⟨b,A,none⟩) (hi:i<n:=by omega):Yv P O F (Ak.ixa T (.slice a n c) (.int kk z)) (vP b (A+i*m)):=by
 subst ha;exact qm hi
theorem dq {T E e b n c:Nat} {cs:List Value} {l:List UInt8} [hT:Ix P T E 1 none] [hE:Ik P E .u8] [hpb:Pb O b cs e O'] [hf:Fb cs cB l] (h:Tr G O' (Sl cB (some ⟨b,0,none⟩) n c l::F) (C (.slice (some ⟨b,0,none⟩) n c)))
  (hn:n=l.length∧n≤c∧c≤9223372036854775807:=by (repeat' (first | exact True.intro | refine And.intro ?_ ?_))<;>first | omega |(simp only [List.length_append,List.length_take,List.length_drop,List.length_replicate,List.length_set,List.length_map,List.length_nil,List.length_cons];omega)|(simp;done)|(simp;omega)):Tr G O F (Rv P (.cvt T T (.slice (some ⟨b,0,none⟩) n c)) C):=by
 refine ⟨fun w hp0=> ?_⟩
 have hp1:Hp G ([iB b cs e]++O') F w:=hp0.wk hpb.pb (fun _ h=>h)
 have hB:w.heap[b]? =some (.cells cs.toArray e):=hp1.own _ (.head _)
 have hlt:=(Array.getElem?_eq_some_iff.1 hB).1
 have hsh:w.shape? b=some (e,cs.toArray.size):=by unfold World.shape?;rw [hB]
 have hnew:(w.freeze ⟨b,cs.toArray.size,none⟩ 1).heap[b]? =some (.cells cs.toArray e (cs.toArray.size,cs.toArray.size+1)):=by
  unfold World.freeze
  simp only [Nat.one_ne_zero,if_false,Array.getElem?_modify,if_true,hB,Option.map_some]
  simp
 have hoth:∀k,k≠b→(w.freeze ⟨b,cs.toArray.size,none⟩ 1).heap[k]? =w.heap[k]? :=by
  intro k hk
  unfold World.freeze
  simp only [Nat.one_ne_zero,if_false,Array.getElem?_modify,if_neg (Ne.symm hk)]
 have hsz:(w.freeze ⟨b,cs.toArray.size,none⟩ 1).heap.size=w.heap.size:=by
  unfold World.freeze
  simp
 have hc:Chg (·∈fps [iB b cs e]) w (w.freeze ⟨b,cs.toArray.size,none⟩ 1):=by
  refine ⟨?_, ?_, ?_,by rw [hsz];exact Nat.le_refl _,fun k hk hs=>hoth k (fun e=>hs (by simp [iB,e]))⟩<;>(unfold World.freeze;simp)
 refine ⟨_,w.freeze ⟨b,cs.toArray.size,none⟩ 1, ?_,h _ ?_⟩
 ·have h1:=hT.ix
  have h2:=hE.ik
  simp [Ak.sem,convert,run_underlying h1,run_underlying h2,markStringish,hsh]
 ·have:=Hp.step (L:= [iB b cs e]) (L':= []) (F':= [Sl cB (some ⟨b,0,none⟩) n c l]) hp1 hc (by simp) (by simp) (by simp) (by
   intro f hf' w'' hc'
   simp only [List.mem_singleton] at hf'
   subst hf'
   have hk:=hc'.block b (by rw [hsz];exact hlt) (by
    have hnd:=hp1.nd
    have hfr:=hp1.fr b (by simp [iB])
    rintro (h9 | h9)
    ·simp at h9
    ·rcases List.mem_append.1 h9 with h9 | h9
     ·exact hfr.2.2 h9
     ·rw [dM,List.nodup_append] at hnd
      exact hnd.2.2 b (by simp [iB]) b h9 rfl)
   rw [hnew] at hk
   refine ⟨hn.1,hn.2.1,by simpa [maxLen] using hn.2.2, .inr ⟨rfl,Nat.zero_le _,(Array.getElem?_eq_some_iff.1 hk).1,(Array.getElem?_eq_some_iff.1 hk).1,fun i v hv=> ?_⟩⟩
   rw [←hf.fm] at hv
   unfold World.cell?
   simp [hk,hv])
  simpa using this
theorem dm {q:Option Addr} {a:Addr} (h:q=some a) (k:Tr G O F (C (.pointer (some a)))):Tr G O F (Nck P (.pointer q) C):=by subst h;exact fa k
theorem m9 {T b A m:Nat} {g:Bool} {vs:List Value} {p:Prop} [hs:Sz P T m g] [hb:Ab O F b A vs p] [hv:Lv g vs v] (h:Tr G O F (C v)) (hp:p:=by (repeat' (first | exact True.intro | refine And.intro ?_ ?_))<;>first | omega |(simp only [List.length_append,List.length_take,List.length_drop,List.length_replicate,List.length_set,List.length_map,List.length_nil,List.length_cons];omega)|(simp;done)|(simp;omega))
  (hl:g=false∨vs.length=m:=by (right;rw [b8];omega)):Tr G O F (Rl P T (.pointer (some ⟨b,A,none⟩)) C):=sL h hp hl
theorem nj {T b A m e:Nat} {g:Bool} {D:Pt} {cs vs cs':List Value} {p:Prop} [hs:Sz P T m g] [hpb:Pb O b cs e O'] [hv:Cv v vs] [hu:Ub cs A vs cs' p] (k:Tr G (iB b cs' e::O') F D) (hp:p:=by first |(repeat' (first | exact True.intro | refine And.intro ?_ ?_))<;>first | omega |(simp only [List.length_append,List.length_take,List.length_drop,List.length_replicate,List.length_set,List.length_map,List.length_nil,List.length_cons];omega)|(simp;done)|(simp;omega)|(simp only [b8];omega))
  (hl:vs.length=m:=by first | exact CL.len _ | exact rfl |(simp;done)|(simp;omega)|(rw [b8];omega)):Tr G O F (Ru P (.st T (.pointer (some ⟨b,A,none⟩)) v) D):=sS k hp hl
theorem cw {f:FuncId} {args:List Value} {X:Type} {q:X→Prop} {r:X→Value} {Oo:X→List It} {Fo:X→List Pt} {Fi:List Pt} (hs:Zp P f args [] Fi X q r Oo Fo) (h:∀x,q x→Tr G (Oo x++O) (Fo x++F) (C (r x)))
  (hF:∀g∈Fi,En [] F g:=by (repeat' (first | exact oK | refine Dv ?_ ?_))<;>first | exact Ef.ef | exact Gq.gq | exact Lb.lb (by (repeat' (first | exact True.intro | refine And.intro ?_ ?_))<;>first | omega |(simp only [List.length_append,List.length_take,List.length_drop,List.length_replicate,List.length_set,List.length_map,List.length_nil,List.length_cons];omega)|(simp;done)|(simp;omega))| exact Pb2.pb (by (repeat' (first | exact True.intro | refine And.intro ?_ ?_))<;>first | omega |(simp only [List.length_append,List.length_take,List.length_drop,List.length_replicate,List.length_set,List.length_map,List.length_nil,List.length_cons];omega)|(simp;done)|(simp;omega))):Tr G O F (Cal P (.func (.func f) #[] #[]) args C):=Gh hs hF h (by simp)
end
end Go.Cz
