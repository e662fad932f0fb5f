/- Lemmas and walks: what each function does, by its own code. No condition beyond those of each statement. -/
import Derived.Test.YtbobhnldhpjdlaaGreatDoorP2
import Derived.Test.YtbobhnldhpjdlaaGreatDoorP3
set_option linter.all false
set_option linter.unusedVariables false
namespace Go.Cz
open Go Go.RowKit Go.Cs
def iL (D l n:Nat) (σ:Fm) (ps:Array Tmp) (assign body:Code) (st:LoopState) (pe:Option Code):It:=
 ⟨[D,l],fun w=>(∃(τ:Fm) (fn:FuncId),Kn σ τ∧w.heap[l]? =some (.loop {state:=st,pending:=pe,fn,tmps:=(Fr [] n τ).tmps,params:=ps,assign,body,defers:=D}))∧w.heap[D]? =some (.deferred (some [])),fun w w' hk h=>by
  obtain ⟨⟨τ,fn,h1,h2⟩,h3⟩:=h
  exact ⟨⟨τ,fn,h1,by rw [hk l (by simp)];exact h2⟩,by rw [hk D (by simp)];exact h3⟩⟩
def iM (D:Nat):It:=⟨[D],fun w=>w.heap[D]? =some (.deferred (some [])),fun w w' hk h=>by rw [hk D (by simp)];exact h⟩
def Hg (n:Nat) (σ:Fm):Operand→Option Value
 | .tmp t=>bif Nat.blt t n then lo σ t else none
 | .const v=>some v
 | .global g=>some (.pointer (some ⟨g,0,none⟩))
 | .func f=>some (.func (.func f) #[] #[])
theorem Gg {n:Nat} {σ τ:Fm} (hk:Kn σ τ) {x:Operand} {v:Value} (h:Hg n σ x=some v):ev n τ x=v:=by
 cases x with
 | tmp t=>
  simp only [Hg,ev] at*
  cases hb:Nat.blt t n with
  | true=>simp only [hb,cond_true] at h⊢;exact hk t v h
  | false=>simp [hb] at h
 | const u=>simpa [Hg,ev] using h
 | global g=>simpa [Hg,ev] using h
 | func f=>simpa [Hg,ev] using h
structure Af (P:Program) (n D l:Nat) (ds:List Deferred) (σ:Fm) (K:Kt) (w:World):Prop where
 go:∀τ,Kn σ τ→∃jump w4,(Instr.endLoop l).run P w= .ok jump w4∧(match jump with | none=>KQ n K .normal (Fr ({target:= .collected D,args:= #[]}::ds) n τ) w4 | some c=>c.wpIn (fen none) 0 P (KQ n K) (Fr ({target:= .collected D,args:= #[]}::ds) n τ) w4)
structure Bg (P:Program) (l:Nat) (C:Pt) (w:World):Prop where
 go:∃w2,(Instr.beginRound l).run P w= .ok () w2∧C w2
structure Er (P:Program) (l:Nat) (j:Option Code) (C:Value→Pt) (w:World):Prop where
 go:∃v w',(Instr.endRound l j).run P w= .ok v w'∧C v w'
def G3 (C:Fm→Pt):List Tmp→List Value→Fm→Pt
 | p::ps,v::vs,σ=>G3 C ps vs ((p,v)::σ)
 | _,_,σ=>C σ
theorem wV {C:Fm→Pt} {w:World}:∀{ps:List Tmp} {vs:List Value} {σ τ:Fm},Kn σ τ→G3 C ps vs σ w→∃σ',C σ' w∧Kn σ' (gX ps vs τ)
 | [],vs,σ,τ,hk,h=>⟨σ,h,hk⟩
 | p::ps, [],σ,τ,hk,h=>⟨σ,h,hk⟩
 | p::ps,v::vs,σ,τ,hk,h=>wV (ps:=ps) (vs:=vs) (σ:=(p,v)::σ) (τ:=(p,v)::τ) (hk.put p v) h
class Pl (O:List It) (l:Nat) (u:outParam It) (O':outParam (List It)):Prop where
 pl:Pk O u O'
instance {D l n:Nat} {σ:Fm} {ps:Array Tmp} {a b:Code} {st:LoopState} {pe:Option Code} {O:List It}:Pl (iL D l n σ ps a b st pe::O) l (iL D l n σ ps a b st pe) O:=⟨CB _ _⟩
instance (priority:=low) {u o:It} {O O':List It} {l:Nat} [h:Pl O l o O']:Pl (u::O) l o (u::O'):=⟨Cw h.pl⟩
class Pm (O:List It) (D:Nat) (O':outParam (List It)):Prop where
 pm:Pk O (iM D) O'
instance {D:Nat} {O:List It}:Pm (iM D::O) D O:=⟨CB _ _⟩
instance (priority:=low) {u:It} {O O':List It} {D:Nat} [h:Pm O D O']:Pm (u::O) D (u::O'):=⟨Cw h.pm⟩
section
variable {P:Program} {G:Gc} {O O':List It} {F:List Pt} {C:Value→Pt} {n D l:Nat} {σ:Fm} {ps:Array Tmp} {assign body:Code} {ds:List Deferred} {K:Kt}
theorem Hp.obj {w:World} {u u':It} {l:Nat} (o:Obj) (hp:Hp G (u::O) F w) (hl:l∈u.fp) (hu:∀k∈u'.fp,k∈u.fp) (hn:u'.fp.Nodup) (hA:u'.A (w.putObj l o)):Hp G (u'::O) F (w.putObj l o):=by
 have hc:Chg (·∈u.fp) w (w.putObj l o):=⟨rfl,rfl,rfl,by simp [World.putObj],fun k hk hs=>World.putObj_heap_other (by rintro rfl;exact hs hl)⟩
 have:=Hp.step (L:= [u]) (L':= [u']) (F':= []) (w':=w.putObj l o) (by simpa using hp) (by simpa [fps] using hc) (by intro q hq;simp only [List.mem_singleton] at hq;subst hq;exact hA) (by simpa [fps] using hn)
  (by intro k hk;simp [fps] at hk;refine ⟨.inl (by simpa [fps] using hu k hk), ?_⟩;have:=(hp.fr k (by simp [dB];exact .inl (hu k hk))).2.1;simpa [World.putObj] using this) (fun f hf=>by cases hf)
 simpa using this
theorem fq {st:LoopState} {pe:Option Code} [h:Pl O l (iL D l n σ ps assign body st pe) O'] (k:Tr G (iM D::O') F (match pe with | none=>K .nm ({target:= .collected D,args:= #[]}::ds) σ | some .ret=>K .rt ({target:= .collected D,args:= #[]}::ds) σ | some (.exit i)=>K (.ex i) ({target:= .collected D,args:= #[]}::ds) σ | _=>Nev 10)) (hst:st≠ .busy:=by decide) (hK:∀c,pe=some c→c= .ret∨∃i,c= .exit i:=by intro c h;cases h<;>first | exact .inl rfl | exact .inr ⟨_,rfl⟩):Tr G O F (Af P n D l ds σ K):=by
 refine ⟨fun w hp0=> ?_⟩
 have hp:=hp0.wk h.pl (fun _ h=>h)
 obtain ⟨⟨τ0,fn,hk0,hl⟩,hD⟩:=hp.own _ (.head _)
 have hne:D≠l:=by rintro rfl;rw [hD] at hl;cases hl
 refine ⟨fun τ hk=>⟨pe,_,run_endLoop hl hst, ?_⟩⟩
 have hp2:=k _ (Hp.obj (u':=iM D) (.loop {state:= .exhausted,pending:=pe,fn,tmps:=(Fr [] n τ0).tmps,params:=ps,assign,body,defers:=D}) hp (l:=l) (by simp [iL]) (by simp [iM,iL]) (by simp [iM]) (by
  show (w.putObj l _).heap[D]? =_
  rw [World.putObj_heap_other hne];exact hD))
 cases pe with
 | none=>exact ⟨_,σ,τ,rfl,hk,hp2⟩
 | some c=>
  rcases hK c rfl with rfl |⟨i,rfl⟩
  ·exact u9 ⟨_,σ,τ,rfl,hk,hp2⟩
  ·exact rn ⟨_,σ,τ,rfl,hk,hp2⟩
theorem fP [h:Pm O D O'] {D':Pt} (k:Tr G O' F D'):Tr G O F (Td P {target:= .collected D,args:= #[]} D'):=by
 refine ⟨fun w hp0=> ?_⟩
 have hp:=hp0.wk h.pm (fun _ h=>h)
 have hD:w.heap[D]? =_:=hp.own _ (.head _)
 refine ⟨D,_,rfl,run_takeDeferred hD,k _ ?_⟩
 have hc:Chg (·∈(iM D).fp) w (w.putObj D (.deferred none)):=⟨rfl,rfl,rfl,by simp [World.putObj],fun k hk hs=>World.putObj_heap_other (by rintro rfl;exact hs (by simp [iM]))⟩
 have:=Hp.step (L:= [iM D]) (L':= []) (F':= []) (w':=w.putObj D (.deferred none)) (by simpa using hp) (by simpa [fps] using hc) (by simp) (by simp) (by simp) (fun f hf=>by cases hf)
 simpa using this
theorem fB {st:LoopState} [h:Pl O l (iL D l n σ ps assign body .ready none) O'] {D':Pt} (k:Tr G (iL D l n σ ps assign body .busy none::O') F D'):Tr G O F (Bg P l D'):=by
 refine ⟨fun w hp0=> ?_⟩
 have hp:=hp0.wk h.pl (fun _ h=>h)
 obtain ⟨⟨τ0,fn,hk0,hl⟩,hD⟩:=hp.own _ (.head _)
 have hne:D≠l:=by rintro rfl;rw [hD] at hl;cases hl
 refine ⟨_,run_beginRound hl rfl,k _ (Hp.obj (u':=iL D l n σ ps assign body .busy none) _ hp (l:=l) (by simp [iL]) (by simp [iL]) (by simp [iL,hne]) ?_)⟩
 exact ⟨⟨τ0,fn,hk0,World.putObj_heap_same (Array.getElem?_eq_some_iff.1 hl).1⟩,by rw [World.putObj_heap_other hne];exact hD⟩
theorem fg {j:Option Code} [h:Pl O l (iL D l n σ ps assign body .busy none) O'] (k:Tr G (iL D l n σ ps assign body (if j.isNone then .ready else .done) j::O') F (C (.bool j.isNone))):Tr G O F (Er P l j C):=by
 refine ⟨fun w hp0=> ?_⟩
 have hp:=hp0.wk h.pl (fun _ h=>h)
 obtain ⟨⟨τ0,fn,hk0,hl⟩,hD⟩:=hp.own _ (.head _)
 have hne:D≠l:=by rintro rfl;rw [hD] at hl;cases hl
 refine ⟨_,_,run_endRound j hl,k _ (Hp.obj (u':=iL D l n σ ps assign body (if j.isNone then .ready else .done) j) _ hp (l:=l) (by simp [iL]) (by simp [iL]) (by simp [iL,hne]) ?_)⟩
 exact ⟨⟨τ0,fn,hk0,World.putObj_heap_same (Array.getElem?_eq_some_iff.1 hl).1⟩,by rw [World.putObj_heap_other hne];exact hD⟩
theorem ai {args:List Value} [h:Pl O l (iL D l n σ ps assign body .ready none) O']
  (k:Tr G O F (G3 (fun σ'=>EC P (some l) n assign [] σ' (fun e ds σ2=>match e with | .nm=>Bg P l (EC P (some l) n body ds σ2 (fun e _ _=>match e with | .nm=>Er P l none C | .rt=>Er P l (some .ret) C | .ex i=>Er P l (some (.exit i)) C))| _=>Nev 11)) ps.toList args σ))
  (ha:args.length=ps.size:=by rfl):Tr G O F (Cal P (.func (.yield l) #[] #[]) args C):=by
 simp only [et] at k
 refine ⟨fun w hp0=> ?_⟩
 have hp:=hp0.wk h.pl (fun _ h=>h)
 obtain ⟨⟨τ0,fn,hk0,hl⟩,hD⟩:=hp.own _ (.head _)
 refine ⟨?_⟩
 have hy:=run_yield (P:=P) (args:=args.toArray) hl (by simpa using ha)
 simp only [Deferred.ofValue,Sem.run_bind,Sem.run_pure,Result.andThen,invoke]
 rw [show (#[]:Array Value)++args.toArray=args.toArray by simp,hy]
 obtain ⟨σ',h1,h2⟩:=wV hk0 (k w hp0)
 refine roundIn_of_wpIn (F:=Fence.wide) trivial ?_
 have ht:((ps.zip args.toArray).foldl (fun t (x:Tmp×Value)=>t.setIfInBounds x.1 x.2) (Fr [] n τ0).tmps)=(Fr [] n (gX ps.toList args τ0)).tmps:=by
  have:=mG n ps.toList args τ0
  simpa using this
 have hfr:({tmps:=((ps.zip args.toArray).foldl (fun t (x:Tmp×Value)=>t.setIfInBounds x.1 x.2) (Fr [] n τ0).tmps),defers:= []}:Act)=Fr [] n (gX ps.toList args τ0):=by rw [ht];rfl
 rw [hfr]
 refine wpIn_mono (jf (ro:=some l) assign [] σ' _ _ w h2 h1) ?_
 intro e a w1 hq
 cases e with
 | normal=>
  obtain ⟨ds,σ2,τ2,rfl,hk2,hB⟩:=hq
  obtain ⟨w2,h3,h4⟩:=hB.go
  refine ⟨w2,h3,wpIn_mono (jf (ro:=some l) body ds σ2 τ2 _ w2 hk2 h4) ?_⟩
  intro e a w3 hq
  cases e with
  | normal=>
   obtain ⟨_,_,_,rfl,_,hE⟩:=hq
   obtain ⟨v,w',h5,h6⟩:=hE.go
   exact ⟨v,w',h5,v,rfl,h6⟩
  | ret=>
   obtain ⟨_,_,_,rfl,_,hE⟩:=hq
   obtain ⟨v,w',h5,h6⟩:=hE.go
   exact ⟨v,w',h5,v,rfl,h6⟩
  | exit i=>
   obtain ⟨_,_,_,rfl,_,hE⟩:=hq
   obtain ⟨v,w',h5,h6⟩:=hE.go
   exact ⟨v,w',h5,v,rfl,h6⟩
  | _=>exact hq.elim
 | exit i=>obtain ⟨_,_,_,rfl,_,hE⟩:=hq;exact hE.go.elim
 | ret=>obtain ⟨_,_,_,rfl,_,hE⟩:=hq;exact hE.go.elim
 | _=>exact hq.elim
theorem aj {g:Operand} {gf:FuncId} {first cap:Array Value} {fn:Func} {c:Code} {m:Nat} {rs:List ResultVar} (hg:Hg n σ g=some (.func (.func gf) first cap)) [hf:Fu P gf fn]
  (k:∀D l,Tr G (iL D l n σ ps assign body .ready none::O) F (Cal P (.func (.func gf) first cap) [.func (.yield l) #[] #[]] (fun _=>Af P n D l ds σ K))) (hu:Ha fn=some (c,m,rs):=by rfl) (hm:Iq fn=false:=by kernel_rfl):
  Tr G O F (Wh P none n (.rangeFunc g ps assign body) ds σ K):=by
 refine ⟨fun w hp=> ?_⟩
 refine ⟨fun τ hk=> ?_⟩
 unfold i4
 refine wpIn_rangeFunc ?_
 intro fid _
 obtain ⟨W1,hW1⟩:∃W1,(w.alloc (.deferred (some []))).alloc (.loop {state:= .ready,pending:=none,fn:=fid,tmps:=(Fr [] n τ).tmps,params:=ps,assign,body,defers:=w.heap.size})=W1:=⟨_,rfl⟩
 have hL1:W1.heap[w.heap.size+1]? =some (.loop {state:= .ready,pending:=none,fn:=fid,tmps:=(Fr [] n τ).tmps,params:=ps,assign,body,defers:=w.heap.size}):=by
  rw [←hW1];have:=World.alloc_heap_new (w.alloc (.deferred (some []))) (.loop {state:= .ready,pending:=none,fn:=fid,tmps:=(Fr [] n τ).tmps,params:=ps,assign,body,defers:=w.heap.size});rwa [World.size_alloc] at this
 have hK1:W1.heap[w.heap.size]? =some (.deferred (some [])):=by
  rw [←hW1];exact (Below.heap_alloc _ _ _ (by simp)).trans (World.alloc_heap_new w _)
 have hE1:Ext w W1:=by rw [←hW1];exact (Ext.alloc _ _).trans (Ext.alloc _ _)
 have hs1:w.heap.size+1<W1.heap.size:=(Array.getElem?_eq_some_iff.1 hL1).1
 have hp1:Hp G (iL w.heap.size (w.heap.size+1) n σ ps assign body .ready none::O) F W1:=by
  have:=Hp.step (L:= []) (L':= [iL w.heap.size (w.heap.size+1) n σ ps assign body .ready none]) (F':= []) (w':=W1) (by simpa using hp) (hE1.mono fun k _ hk=>hk.elim) (by
   intro q hq;simp only [List.mem_singleton] at hq;subst hq;exact ⟨⟨τ,fid,hk,hL1⟩,hK1⟩) (by simp [iL]) (by
   intro k hk;simp [iL] at hk;rcases hk with rfl | rfl<;>exact ⟨.inr (by omega),by omega⟩) (fun f hf=>by cases hf)
  simpa using this
 have hC:=(k _ _ W1 hp1).go
 have en:=nY (P:=P) hf.fn hu hm
 refine ⟨w.heap.size+1, [{target:= .collected w.heap.size,args:= #[]}],W1,{target:= .fn (.func gf) cap,args:=first++ #[.func (.yield (w.heap.size+1)) #[] #[]]},W1,gf,first++ #[.func (.yield (w.heap.size+1)) #[] #[]]++cap,W1, ?_, ?_,fun _ _=>trivial, ?_,fun h=>(by cases h), ?_⟩
 ·rw [←hW1];exact run_enterLoop_outer _ _ _ _ _
 ·simp only [resolve,dS,Gg hk hg]
  simp [Deferred.ofValue,ev,Sem.run_pure]
 ·simp only [invoke];exact en _ _
 ·simp only [Deferred.ofValue,Sem.run_bind,Sem.run_pure,Result.andThen,invoke] at hC
  rw [show (first++ [Value.func (.yield (w.heap.size+1)) #[] #[]].toArray++cap)=first++ #[.func (.yield (w.heap.size+1)) #[] #[]]++cap from rfl,en] at hC
  refine CallsIn.mono (show CallsIn (fen none) (0-1) P gf _ W1 _ from callsIn_wide (n:=0-1).2 hC) ?_
  rintro e W2 ⟨v,rfl,hA⟩
  obtain ⟨jump,w4,h1,h2⟩:=hA.go τ hk
  exact ⟨jump,w4,h1,h2⟩
end
end Go.Cz
