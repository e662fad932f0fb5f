/- Lemmas and walks: what each function does, by its own code. No condition beyond those of each statement. -/
import Derived.Test.YtbobhnldhpjdlaaGreatDoorP6
import Derived.Test.YtbobhnldhpjdlaaGreatDoorP9
set_option linter.all false
set_option linter.unusedVariables false
namespace Go.Cz
open Go Go.RowKit Go.Cs
def ji:Nat→List (List Value×Value)→List MapEntry
 | _, []=> []
 | i,x::l=>⟨vA x.1,x.2,i⟩::ji (i+1) l
theorem w5:∀(i:Nat) (l m:List (List Value×Value)),ji i (l++m)=ji i l++ji (i+l.length) m
 | i, [],m=>by simp [ji]
 | i,x::l,m=>by
  simp only [List.cons_append,ji,w5 (i+1) l m,List.length_cons]
  rw [show i+1+l.length=i+(l.length+1) by omega]
theorem rh:∀(i:Nat) (l:List (List Value×Value)) (x:List Value×Value),(ji i (l++ [x])).findIdx? (fun e=>(e.born:Int)==((i+l.length:Nat):Int))=some l.length
 | i, [],x=>by simp [ji,List.findIdx?_cons]
 | i,y::l,x=>by
  have:=rh (i+1) l x
  rw [show i+1+l.length=i+(l.length+1) by omega] at this
  simp only [List.cons_append,ji,List.findIdx?_cons,List.length_cons,this]
  rw [if_neg (by simp;omega)]
  rfl
theorem ww (v:Value):∀(i:Nat) (l:List (List Value×Value)) (x:List Value×Value),(ji i (l++ [x])).modify l.length (fun e=>{e with val:=v})=ji i (l++ [(x.1,v)])
 | i, [],x=>by simp [ji]
 | i,y::l,x=>by
  have:=ww v (i+1) l x
  simp only [List.cons_append,ji,List.length_cons,List.modify_succ_cons,this]
theorem DK:∀{i:Nat} {l:List (List Value×Value)} {e:MapEntry},e∈ji i l→∃x∈l,e.key=vA x.1
 | i, [],e,h=>by cases h
 | i,x::l,e,h=>by
  rcases List.mem_cons.1 h with rfl | h
  ·exact ⟨x, .head _,rfl⟩
  ·obtain ⟨y,h1,h2⟩:=DK h;exact ⟨y, .tail _ h1,h2⟩
def mo (b:Nat) (l:List (List Value×Value)):It:=⟨[b],fun w=>w.heap[b]? =some (.map (ji 0 l).toArray l.length),fun w w' hk h=>by rw [hk b (by simp)];exact h⟩
section
variable {P:Program} {G:Gc} {O O':List It} {F:List Pt} {C:Value→Pt} {D:Pt} {T K E:TypeId} {b:Nat} {l:List (List Value×Value)} {key:List Value} {v z:Value}
theorem IM (h:∀b,Tr G (mo b []::O) F (C (.map (some b)))):Tr G O F (Rv P (.mkm T none) C):=by
 refine ⟨fun w hp=> ?_⟩
 refine ⟨.map (some w.heap.size),w.alloc (.map #[] 0),rfl,h w.heap.size _ (Hp.step (L:= []) (L':= [mo w.heap.size []]) (F':= []) hp ((Ext.alloc w _).mono fun k _ hk=>hk.elim) ?_ (by simp [mo]) ?_ (fun f hf=>by cases hf))⟩
 ·intro o ho;simp only [List.mem_singleton] at ho;subst ho
  show (w.alloc (.map #[] 0)).heap[w.heap.size]? =_
  show (w.heap.push (Obj.map #[] 0))[w.heap.size]? =some (.map (ji 0 []).toArray 0)
  simp [ji]
 ·intro k hk
  simp [mo] at hk;subst hk
  exact ⟨.inr (Nat.le_refl _),by simp⟩
theorem mO {w:World} (h:(mo b l).A w):(getObj b).run P w= .ok (.map (ji 0 l).toArray l.length) w:=by
 have h':w.heap[b]? =some (.map (ji 0 l).toArray l.length):=h
 simp [getObj,Sem.run,h']
theorem w9 (hn:∀x∈l,∀w,(Op.equal K (vA key) (vA x.1)).run P w= .ok false w) (w:World):∀(i j:Nat) (m:List (List Value×Value)),(∀x∈m,x∈l)→(Instr.findAsking K (vA key) (ji i m) j).run P w= .ok none w
 | i,j, [],_=>rfl
 | i,j,x::m,hm=>by
  have h1:=hn x (hm x (.head _)) w
  have h2:=w9 hn w (i+1) (j+1) m (fun y hy=>hm y (.tail _ hy))
  simp [ji,Instr.findAsking,h1,h2,Result.andThen]
theorem rM {fs:Array Field} (hK:P.underlying K=some (.struct fs)) (hn:∀x∈l,∀w,(Op.equal K (vA key) (vA x.1)).run P w= .ok false w) (w:World):(Instr.findKey K (vA key) (ji 0 l)).run P w= .ok none w:=by
 cases l with
 | nil=>simp [ji,Instr.findKey,Instr.findNow,run_underlying hK,Result.andThen]
 | cons x l=>
  have h1:=w9 (l:=x::l) hn w 0 0 (x::l) (fun _ h=>h)
  simp only [Instr.findKey,Sem.run_bind,run_underlying hK,Result.andThen_ok]
  rw [show Instr.findNow (.struct fs) (vA key) (ji 0 (x::l)) 0=none from rfl]
  exact h1
theorem HI {fs:Array Field} (hO:Pk O (mo b l) O') (hT:P.underlying T=some (.map K E)) (hK:P.underlying K=some (.struct fs)) (hc:∀e w,(Instr.checkKey e 10000 K (vA key)).run P w= .ok () w) (hz:∀w,(zeroValue E).run P w= .ok z w)
  (hn:∀x∈l,∀w,(Op.equal K (vA key) (vA x.1)).run P w= .ok false w) (h:Tr G O F (C z)):Tr G O F (Rv P (.lku T (.map (some b)) (vA key) false) C):=by
 refine ⟨fun w hp=> ?_⟩
 have hp1:Hp G (mo b l::O') F w:=hp.wk hO (fun _ h=>h)
 have hg:=mO (P:=P) (hp1.own _ (.head _))
 refine ⟨z,w, ?_,h w hp⟩
 have h1:=rM hK hn w
 simp [Ak.sem,Instr.lookup,run_underlying hT,hg,hc,h1,hz,Result.andThen]
theorem Em {w:World} {o:Obj} (h:(mo b l).A w):(setObj b o).run P w= .ok () {w with heap:=w.heap.setIfInBounds b o}:=by
 have h':w.heap[b]? =some (.map (ji 0 l).toArray l.length):=h
 simp [setObj,Sem.run,h']
theorem BQ {l':List (List Value×Value)} {w:World} (hp:Hp G (mo b l::O') F w):Hp G (mo b l'::O') F {w with heap:=w.heap.setIfInBounds b (.map (ji 0 l').toArray l'.length)}:=by
 have h':w.heap[b]? =some (.map (ji 0 l).toArray l.length):=hp.own _ (.head _)
 have hb:b<w.heap.size:=by
  rcases Nat.lt_or_ge b w.heap.size with h | h
  ·exact h
  ·rw [Array.getElem?_eq_none h] at h';cases h'
 refine Hp.step (L:= [mo b l]) (L':= [mo b l']) (F':= []) hp ?_ ?_ (by simp [mo]) ?_ (fun f hf=>by cases hf)
 ·refine ⟨rfl,rfl,rfl,by simp,fun k hk hs=> ?_⟩
  have hne:b≠k:=fun e=>hs (by simp [mo,e])
  simp [Array.getElem?_setIfInBounds,hne]
 ·intro o ho;simp only [List.mem_singleton] at ho;subst ho
  show (w.heap.setIfInBounds b _)[b]? =_
  simp [Array.getElem?_setIfInBounds,hb]
 ·intro k hk
  simp [mo] at hk;subst hk
  exact ⟨.inl (by simp [mo]),by simpa using hb⟩
theorem HL {fs:Array Field} (hO:Pk O (mo b l) O') (hT:P.underlying T=some (.map K E)) (hK:P.underlying K=some (.struct fs)) (hc:∀e w,(Instr.checkKey e 10000 K (vA key)).run P w= .ok () w) (hz:∀w,(zeroValue E).run P w= .ok z w)
  (hn:∀x∈l,∀w,(Op.equal K (vA key) (vA x.1)).run P w= .ok false w) (h:Tr G (mo b (l++ [(key,z)])::O') F (C (.tuple #[z,vI l.length]))):Tr G O F (Rv P (.ment T (.map (some b)) (vA key)) C):=by
 refine ⟨fun w hp=> ?_⟩
 have hp1:Hp G (mo b l::O') F w:=hp.wk hO (fun _ h=>h)
 have hA:=hp1.own _ (.head _)
 have hg:=mO (P:=P) hA
 have h1:=rM hK hn w
 have hs:=fun o=>Em (P:=P) (o:=o) hA
 refine ⟨_,_, ?_,h _ (BQ (l':=l++ [(key,z)]) hp1)⟩
 have e1:(ji 0 l).toArray.push ⟨vA key,z,l.length⟩=(ji 0 (l++ [(key,z)])).toArray:=by
  rw [w5,Nat.zero_add];simp [ji]
 have e2:l.length+1=(l++ [(key,z)]).length:=by simp
 simp only [Ak.sem,Instr.mapEntry,Sem.run_bind,run_underlying hT,Result.andThen_ok,hg,hc,h1,hz,hs,Sem.run_pure,e1,e2,goInt]
theorem Ic {x:List Value×Value} (hO:Pk O (mo b (l++ [x])) O') (h:Tr G (mo b (l++ [(x.1,v)])::O') F D):Tr G O F (Ru P (.mst T (.map (some b)) (vI l.length) v) D):=by
 refine ⟨fun w hp=> ?_⟩
 have hp1:Hp G (mo b (l++ [x])::O') F w:=hp.wk hO (fun _ h=>h)
 have hA:=hp1.own _ (.head _)
 have hg:=mO (P:=P) hA
 have hs:=fun o=>Em (P:=P) (o:=o) hA
 refine ⟨_, ?_,h _ (BQ (l':=l++ [(x.1,v)]) hp1)⟩
 have h1:=rh 0 l x
 have h2:=ww v 0 l x
 rw [Nat.zero_add] at h1
 have h3:(l++ [x]).length=(l++ [(x.1,v)]).length:=by simp
 simp only [Dk.sem,Instr.entryStore,Sem.run_bind,Sem.run_pure,hg,Result.andThen_ok,asInt,asIntOf,List.findIdx?_toArray,h1,List.modify_toArray,h2,h3,hs]
theorem oU {e:Bool} {d t:Nat} {kk:IntKind} {a:Int} {w:World} (he:P.underlying t=some (.int kk)):(Instr.checkKey e (d+1) t (.int kk a)).run P w= .ok () w:=by
 rw [Instr.checkKey]
 simp only [Sem.run_bind,run_underlying he,Result.andThen_ok,Sem.run_pure]
theorem Cu {e:Bool} {d t el n:Nat} {kk:IntKind} {cs:List Value} {w:World} (ht:P.underlying t=some (.array n el)) (he:P.underlying el=some (.int kk)) (hsz:(P.info? el).map (·.size)=some 1) (hc:∀i,i<n→∃a,cs[i]? =some (.int kk a)):(Instr.checkKey e (d+2) t (.agg cs.toArray)).run P w= .ok () w:=by
 rw [Instr.checkKey]
 simp only [Sem.run_bind,run_underlying ht,Result.andThen_ok,Cs.run_sizeOf hsz,Std.Legacy.Range.forIn_eq_forIn_range',Std.Legacy.Range.size,Nat.sub_zero,Nat.add_sub_cancel,Nat.div_one]
 have hl:∀i∈List.range' 0 n 1,i<n:=fun i hi=>by simpa using (List.mem_range'_1.1 hi).2
 generalize List.range' 0 n 1=l at hl⊢
 induction l with
 | nil=>simp
 | cons i l ih=>
  obtain ⟨a,ha⟩:=hc i (hl i (by simp))
  have px:=aI (P:=P) (w:=w) (t:=el) (o:=i*1) (vs:=cs) (v:= .int kk a) (by rw [he];rfl) (by rw [Nat.mul_one];exact ha)
  have pk:=oU (P:=P) (e:=e) (d:=d) (a:=a) (w:=w) he
  simp only [List.forIn_cons,Sem.run_bind,Cs.run_sizeOf hsz,Result.andThen_ok,px,pk,Sem.run_pure]
  exact ih fun j hj=>hl j (.tail _ hj)
theorem uA {e:Bool} {d t:Nat} {cs:Array Value} {w:World} {x:Bool×TypeId×Nat} {fs:List (Bool×TypeId×Nat)} (hF:bj P t=x::fs) (h:∀y∈x::fs,∃v,(part y.2.1 cs y.2.2).run P w= .ok v w∧(Instr.checkKey e d y.2.1 v).run P w= .ok () w):(Instr.checkKey e (d+1) t (.agg cs)).run P w= .ok () w:=by
 rw [Instr.checkKey]
 simp only [Sem.run_bind,run_underlying (ci ⟨x,fs,hF⟩),Result.andThen_ok]
 rw [←Array.forIn_toList]
 rw [←hF] at h
 unfold bj at h
 generalize (P.fieldsOf t).toList=l at h
 clear hF
 induction l with
 | nil=>simp
 | cons f l ih=>
  have h2:=ih fun y hy=>h y (by rw [List.map_cons];exact .tail _ hy)
  obtain ⟨v,p1,p2⟩:=h (decide (f.name≠ "_"),f.type,f.offset) (by rw [List.map_cons];exact .head _)
  dsimp only at p1 p2
  rw [List.forIn_cons]
  by_cases hn:f.name≠ "_"
  ·simp only [hn,if_true,Sem.run_bind,p1,p2,Result.andThen_ok,Sem.run_pure,ne_eq,not_false_eq_true]
   simpa using h2
  ·simp only [hn,if_false,Sem.run_bind,Result.andThen_ok,Sem.run_pure]
   simpa using h2
end
end Go.Cz
