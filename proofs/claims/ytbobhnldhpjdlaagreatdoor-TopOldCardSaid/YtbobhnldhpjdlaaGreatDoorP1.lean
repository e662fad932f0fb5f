/- Lemmas and walks: what each function does, by its own code. No condition beyond those of each statement. -/
import Derived.WalkKit
import Derived.Deep.LoopGhost
import Derived.WalkSpells
import Derived.WalkLawsBesides
import Derived.OrdersIn
import Derived.OwnWalkIn
import Derived.LoopIn
import Derived.RangeFuncNested
import Derived.RangeFuncLeaves
import Derived.Stop.BytesEq
import Derived.Laws.Tables
set_option linter.all false
set_option linter.unusedVariables false
namespace Go.Cs
open Go Go.RowKit
def lk:List (Nat×Value)→Nat→Value
 | [],_=>undef
 |(k,v)::r,t=>bif Nat.beq k t then v else lk r t
def Fr (ds:List Deferred) (n:Nat) (σ:List (Nat×Value)):Act:={tmps:=((List.range n).map (lk σ)).toArray,defers:=ds}
def fen (ro:Option Nat):Fence:={Fence.wide with round:=ro}
abbrev Ly (ro:Option Nat) (P:Program) (c:Code) (Q:Exit→Act→World→Prop) (a:Act) (w:World):Prop:=c.wpIn (fen ro) 0 P Q a w
abbrev vI (n:Nat):Value:= .int .i64 (n:Int)
abbrev vQ (n:Nat):Value:= .int .u64 (n:Int)
abbrev vF:Value:= .bool false
abbrev vP (b o:Nat):Value:= .pointer (some ⟨b,o,none⟩)
abbrev vA (l:List Value):Value:= .agg l.toArray
def ev (n:Nat) (σ:List (Nat×Value)):Operand→Value
 | .tmp t=>bif Nat.blt t n then lk σ t else undef
 | .const v=>v
 | .global g=> .pointer (some ⟨g,0,none⟩)
 | .func f=> .func (.func f) #[] #[]
def putσ (σ:List (Nat×Value)):Option Tmp→Value→List (Nat×Value)
 | none,_=>σ
 | some d,v=>(d,v)::σ
theorem ru {a b:Nat} (h:a<b):Nat.blt a b=true:=by simpa [Nat.blt_eq] using h
theorem nQ {a b:Nat} (h:b≤a):Nat.blt a b=false:=by
 cases hb:Nat.blt a b with
 | false=>rfl
 | true=>rw [Nat.blt_eq] at hb;omega
theorem r9 {k t:Nat} {v:Value} {σ:List (Nat×Value)} (h:k≠t):lk ((k,v)::σ) t=lk σ t:=by
 have:Nat.beq k t=false:=by
  cases hb:Nat.beq k t with
  | false=>rfl
  | true=>exact absurd (Nat.eq_of_beq_eq_true hb) h
 simp [lk,this]
theorem tL {k:Nat} {v:Value} {σ:List (Nat×Value)}:lk ((k,v)::σ) k=v:=by
 simp [lk]
theorem dS (ds:List Deferred) (n:Nat) (σ:List (Nat×Value)):(Fr ds n σ).eval=ev n σ:=by
 funext x
 cases x with
 | tmp t=>
  rcases Nat.lt_or_ge t n with h | h
  ·simp [Act.eval,Fr,ev,ru h,h]
  ·simp [Act.eval,Fr,ev,nQ h,h]
 | _=>rfl
theorem eB (ds:List Deferred) (n:Nat) (σ:List (Nat×Value)) (d:Option Tmp) (v:Value):(Fr ds n σ).put d v=Fr ds n (putσ σ d v):=by
 cases d with
 | none=>rfl
 | some d=>
  simp only [Act.put,Fr,putσ]
  congr 1
  apply Array.ext
  ·simp
  ·intro i h1 h2
   simp only [Array.size_setIfInBounds,List.size_toArray,List.length_map,List.length_range] at h1
   by_cases hd:d=i
   ·subst hd;simp [tL]
   ·simp [hd,r9 hd]
theorem Bj {ds:List Deferred} {n:Nat} {σ τ:List (Nat×Value)} (h:(List.range n).map (lk σ)=(List.range n).map (lk τ)):Fr ds n σ=Fr ds n τ:=by
 simp [Fr,h]
def yl (ops:Array Oper) (n:Nat) (σ:List (Nat×Value)) (j:Nat):Option Bool:=
 match (ops[j]?).bind (·.dst) with
 | some d=>bif Nat.blt d n then (match lk σ d with | .bool b=>some b | _=>none) else none
 | none=>none
theorem sx (ds:List Deferred) (ops:Array Oper) (n:Nat) (σ:List (Nat×Value)) (j:Nat):yielded ops (Fr ds n σ).tmps j=yl ops n σ j:=by
 unfold yielded yl
 cases hd:(ops[j]?).bind (·.dst) with
 | none=>rfl
 | some d=>
  rcases Nat.lt_or_ge d n with h | h
  ·simp only [Option.bind_some,Fr,ru h,cond_true]
   have:(List.map (lk σ) (List.range n)).toArray[d]? =some (lk σ d):=by simp [h]
   rw [this]
   cases lk σ d<;>rfl
  ·have:(Fr ds n σ).tmps[d]? =none:=by simp [Fr,h]
   simp [this,nQ h]
def wnt (ops:Array Oper) (n:Nat) (σ:List (Nat×Value)) (o:Oper):Bool:=
 match o.guard with
 | none=>true
 | some (j,b)=>match yl ops n σ j,b with
  | some true,true=>true
  | some false,false=>true
  | _,_=>false
theorem df (ds:List Deferred) (ops:Array Oper) (n:Nat) (σ:List (Nat×Value)) (o:Oper):Region.wanted o (yielded ops (Fr ds n σ).tmps)=wnt ops n σ o:=by
 unfold Region.wanted wnt
 cases hg:o.guard with
 | none=>rfl
 | some p=>
  obtain ⟨j,b⟩:=p
  simp only [sx]
  cases yl ops n σ j with
  | none=>cases b<;>rfl
  | some c=>cases c<;>cases b<;>rfl
def pU {ro:Option Nat} {ds:List Deferred} (P:Program) (ops:Array Oper) (Q:Exit→Act→World→Prop) (n k:Nat) (σ:List (Nat×Value)) (w:World):Prop:=
 wpListIn (fen ro) 0 P ops Q (ops.toList.drop k) (Fr ds n σ) w
def i4 {ro:Option Nat} {ds:List Deferred} (P:Program) (c:Code) (Q:Exit→Act→World→Prop) (n:Nat) (σ:List (Nat×Value)) (w:World):Prop:=
 Ly ro P c Q (Fr ds n σ) w
section
variable {ro:Option Nat} {ds:List Deferred} {P:Program} {Q:Exit→Act→World→Prop} {n:Nat} {σ:List (Nat×Value)} {w:World} {ops:Array Oper} {k:Nat}
theorem t6 {id:Nat} (h:pU (ro:=ro) (ds:=ds) P ops Q n 0 σ w):i4 (ro:=ro) (ds:=ds) P (.region id ops false) Q n σ w:=
 wpIn_region_list (by simpa [pU] using h)
theorem CU {x y:Code} (h:i4 (ro:=ro) (ds:=ds) P x (Exit.then (Ly ro P y Q) Q) n σ w):i4 (ro:=ro) (ds:=ds) P (.seq x y) Q n σ w:=wpIn_seq h
theorem yj {id:Nat} {c:Code} (h:i4 (ro:=ro) (ds:=ds) P c (Exit.inBlock id Q) n σ w):i4 (ro:=ro) (ds:=ds) P (.block id c) Q n σ w:=wpIn_block h
theorem y6 (h:Q .normal (Fr ds n σ) w):i4 (ro:=ro) (ds:=ds) P .skip Q n σ w:=wpIn_skip h
theorem u9 (h:Q .ret (Fr ds n σ) w):i4 (ro:=ro) (ds:=ds) P .ret Q n σ w:=wpIn_ret h
theorem rn {id:Nat} (h:Q (.exit id) (Fr ds n σ) w):i4 (ro:=ro) (ds:=ds) P (.exit id) Q n σ w:=wpIn_exit h
theorem BO {c:Operand} {x y:Code} (h:i4 (ro:=ro) (ds:=ds) P x Q n σ w) (hc:ev n σ c= .bool true:=by kernel_rfl):i4 (ro:=ro) (ds:=ds) P (.cond c x y) Q n σ w:=
 wpIn_cond_true (by rw [dS];exact hc) h
theorem xZ {c:Operand} {x y:Code} (h:i4 (ro:=ro) (ds:=ds) P y Q n σ w) (hc:ev n σ c= .bool false:=by kernel_rfl):i4 (ro:=ro) (ds:=ds) P (.cond c x y) Q n σ w:=
 wpIn_cond_false (by rw [dS];exact hc) h
theorem oP {id:Nat} {a:Act} (h:Q .normal a w):Exit.inBlock id Q (.exit id) a w:=by simpa [Exit.inBlock] using h
theorem kU {id i:Nat} {a:Act} (hne:i≠id) (h:Q (.exit i) a w):Exit.inBlock id Q (.exit i) a w:=by simpa [Exit.inBlock,hne] using h
theorem jx {o:Oper} (ho:ops[k]? =some o):ops.toList.drop k=o::ops.toList.drop (k+1):=by
 obtain ⟨hk,he⟩:=Array.getElem?_eq_some_iff.1 ho
 rw [List.drop_eq_getElem_cons (by simpa using hk)]
 simp [he]
def ol:Result Next→Bool
 | .ok (.value _) _ | .ok .skip _ | .ok (.enter _ _) _ | .ok (.round _ _ _ _ _) _=>true
 | _=>false
theorem bQ {o:Oper} {ρ:Operand→Value} (h:ol ((execOp ρ o).run P w)=true) (ro:Option Nat):o.semAt ro ρ=execOp ρ o:=by
 refine Oper.semAt_eq _ _ _ ?_
 intro c hc
 revert h
 unfold execOp
 rw [hc]
 simp only [Sem.run_bind]
 cases hr:(resolve ρ c o.type).run P w<;>simp [Result.andThen,ol]
theorem DG {o:Oper} (v:Value) (w':World) (ho:ops[k]? =some o) (hg:wnt ops n σ o=true) (hr:(execOp (ev n σ) o).run P w= .ok (.value v) w')
  (h:pU (ro:=ro) (ds:=ds) P ops Q n (k+1) (putσ σ o.dst v) w'):pU (ro:=ro) (ds:=ds) P ops Q n k σ w:=by
 unfold pU at*
 rw [jx ho]
 unfold wpListIn
 rw [df,hg,if_pos rfl]
 unfold Oper.wpIn
 refine ⟨fun _ _=>trivial, ?_⟩
 rw [dS,bQ (P:=P) (w:=w) (by rw [hr];rfl),hr,Oper.uponIn_value,eB]
 exact h
theorem FL {o:Oper} (w':World) (ho:ops[k]? =some o) (hg:wnt ops n σ o=true) (hr:(execOp (ev n σ) o).run P w= .ok .skip w')
  (h:pU (ro:=ro) (ds:=ds) P ops Q n (k+1) (putσ σ o.dst undef) w'):pU (ro:=ro) (ds:=ds) P ops Q n k σ w:=by
 unfold pU at*
 rw [jx ho]
 unfold wpListIn
 rw [df,hg,if_pos rfl]
 unfold Oper.wpIn
 refine ⟨fun _ _=>trivial, ?_⟩
 rw [dS,bQ (P:=P) (w:=w) (by rw [hr];rfl),hr,Oper.uponIn_skip,eB]
 exact h
theorem DF {o:Oper} (ho:ops[k]? =some o) (hg:wnt ops n σ o=false)
  (h:pU (ro:=ro) (ds:=ds) P ops Q n (k+1) (putσ σ o.dst undef) w):pU (ro:=ro) (ds:=ds) P ops Q n k σ w:=by
 unfold pU at*
 rw [jx ho]
 unfold wpListIn
 rw [df,hg,if_neg (by simp),eB]
 exact ⟨fun _ _=>trivial,h⟩
def Ret (R:Value→World→Prop):Ending→World→Prop:=fun e w'=>∃v,e= .returned v∧R v w'
abbrev Rnd (P:Program) (l:Nat) (f:FuncId) (tmps:Array Value) (assign body:Code) (w:World) (R:Ending→World→Prop):Prop:=
 RoundIn Fence.wide 0 P l f tmps assign body w R
def gw (P:Program) (ops:Array Oper) (n k:Nat) (σ:List (Nat×Value)) (w:World) (K:List (Nat×Value)→World→Prop):Prop:=
 ∃o,ops[k]? =some o∧((wnt ops n σ o=true∧(match (execOp (ev n σ) o).run P w with
  | .ok (.value v) w'=>K (putσ σ o.dst v) w'
  | .ok .skip w'=>K (putσ σ o.dst undef) w'
  | .ok (.enter f args) w'=>Calls P f args w' (Ret fun v w''=>K (putσ σ o.dst v) w'')
  | .ok (.round l f tmps assign body) w'=>Rnd P l f tmps assign body w' (Ret fun v w''=>K (putσ σ o.dst v) w'')
  | _=>False))∨(wnt ops n σ o=false∧K (putσ σ o.dst undef) w))
def jH (ops:Array Oper) (n:Nat) (σ:List (Nat×Value)) (k:Nat):Option (Option Tmp×Sem Next):=
 match ops[k]? with
 | none=>none
 | some o=>match wnt ops n σ o with
  | true=>some (o.dst,execOp (ev n σ) o)
  | false=>none
theorem gk {d:Option Tmp} {s:Sem Next} (h:jH ops n σ k=some (d,s)):∃o,ops[k]? =some o∧wnt ops n σ o=true∧o.dst=d∧execOp (ev n σ) o=s:=by
 unfold jH at h
 cases ho:ops[k]? with
 | none=>simp [ho] at h
 | some o=>
  simp only [ho] at h
  cases hw:wnt ops n σ o with
  | false=>simp [hw] at h
  | true=>
   simp only [hw,Option.some.injEq,Prod.mk.injEq] at h
   exact ⟨o,rfl,hw,h.1,h.2⟩
theorem zP {K:List (Nat×Value)→World→Prop} {d:Option Tmp} {s:Sem Next} {v:Value} {w':World} (he:jH ops n σ k=some (d,s)) (hr:s.run P w= .ok (.value v) w') (h:K (putσ σ d v) w'):gw P ops n k σ w K:=by
 obtain ⟨o,ho,hw,rfl,rfl⟩:=gk he
 exact ⟨o,ho, .inl ⟨hw,by rw [hr];exact h⟩⟩
theorem Dr {K:List (Nat×Value)→World→Prop} {d:Option Tmp} {s:Sem Next} {w':World} (he:jH ops n σ k=some (d,s)) (hr:s.run P w= .ok .skip w') (h:K (putσ σ d undef) w'):gw P ops n k σ w K:=by
 obtain ⟨o,ho,hw,rfl,rfl⟩:=gk he
 exact ⟨o,ho, .inl ⟨hw,by rw [hr];exact h⟩⟩
theorem Hr {K:List (Nat×Value)→World→Prop} {d:Option Tmp} {s:Sem Next} {f:FuncId} {args:Array Value} {R:Value→World→Prop} (he:jH ops n σ k=some (d,s)) (hr:s.run P w= .ok (.enter f args) w)
  (hc:Calls P f args w (Ret R)) (h:∀v w',R v w'→K (putσ σ d v) w'):gw P ops n k σ w K:=by
 obtain ⟨o,ho,hw,rfl,rfl⟩:=gk he
 refine ⟨o,ho, .inl ⟨hw, ?_⟩⟩
 rw [hr]
 exact hc.mono fun e w' ⟨v,he,hv⟩=>⟨v,he,h v w' hv⟩
theorem r6 {K:List (Nat×Value)→World→Prop} {d:Option Tmp} {s:Sem Next} {l:Nat} {f:FuncId} {tmps:Array Value} {assign body:Code} {R:Value→World→Prop} (he:jH ops n σ k=some (d,s)) (hr:s.run P w= .ok (.round l f tmps assign body) w)
  (hc:Rnd P l f tmps assign body w (Ret R)) (h:∀v w',R v w'→K (putσ σ d v) w'):gw P ops n k σ w K:=by
 obtain ⟨o,ho,hw,rfl,rfl⟩:=gk he
 refine ⟨o,ho, .inl ⟨hw, ?_⟩⟩
 rw [hr]
 exact hc.mono fun e w' ⟨v,he,hv⟩=>⟨v,he,h v w' hv⟩
def Mp (P:Program) (ops:Array Oper) (n:Nat) (σ:List (Nat×Value)) (k:Nat) (w:World):Option (Option Tmp×Value×World):=
 match jH ops n σ k with
 | some (d,s)=>match s.run P w with
  | .ok (.value v) w'=>some (d,v,w')
  | _=>none
 | none=>none
def tW (P:Program) (ops:Array Oper) (n:Nat) (σ:List (Nat×Value)) (k:Nat) (w:World):Option (Option Tmp×FuncId×Array Value×World):=
 match jH ops n σ k with
 | some (d,s)=>match s.run P w with
  | .ok (.enter f args) w'=>some (d,f,args,w')
  | _=>none
 | none=>none
theorem jU {K K':List (Nat×Value)→World→Prop} (h:gw P ops n k σ w K) (hk:∀τ w',K τ w'→K' τ w'):gw P ops n k σ w K':=by
 obtain ⟨o,ho,hw | hw⟩:=h
 ·refine ⟨o,ho, .inl ⟨hw.1, ?_⟩⟩
  have h2:=hw.2
  cases hr:(execOp (ev n σ) o).run P w with
  | halt x w'=>simp only [hr] at h2
  | ok nx w'=>
   cases nx with
   | value v=>simp only [hr] at h2;exact hk _ _ h2
   | skip=>simp only [hr] at h2;exact hk _ _ h2
   | enter f args=>simp only [hr] at h2;exact h2.mono fun e w' ⟨v,he,hv⟩=>⟨v,he,hk _ _ hv⟩
   | round l f tmps assign body=>simp only [hr] at h2;exact h2.mono fun e w' ⟨v,he,hv⟩=>⟨v,he,hk _ _ hv⟩
   | _=>simp only [hr] at h2
 ·exact ⟨o,ho, .inr ⟨hw.1,hk _ _ hw.2⟩⟩
theorem zU (h:gw P ops n k σ w (fun τ w'=>pU (ro:=ro) (ds:=ds) P ops Q n (k+1) τ w')):pU (ro:=ro) (ds:=ds) P ops Q n k σ w:=by
 obtain ⟨o,ho,⟨hw,h⟩|⟨hw,h⟩⟩:=h
 ·cases hr:(execOp (ev n σ) o).run P w with
  | halt x w'=>simp only [hr] at h
  | ok nx w'=>
   cases nx with
   | value v=>simp only [hr] at h;exact DG v w' ho hw hr h
   | skip=>simp only [hr] at h;exact FL w' ho hw hr h
   | enter f args=>
    simp only [hr] at h
    unfold pU
    rw [jx ho]
    unfold wpListIn
    rw [df,hw,if_pos rfl]
    unfold Oper.wpIn
    refine ⟨fun _ _=>trivial, ?_⟩
    rw [dS,bQ (P:=P) (w:=w) (by rw [hr];rfl),hr,Oper.uponIn_enter]
    refine ⟨fun h=>(by cases h), ?_⟩
    have h':CallsIn (fen ro) (0-1) P f args w' (Ret fun v w''=>pU (ro:=ro) (ds:=ds) P ops Q n (k+1) (putσ σ o.dst v) w''):=callsIn_wide (n:=0-1).2 h
    refine CallsIn.mono h' ?_
    rintro e w'' ⟨v,rfl,hv⟩
    show wpListIn (fen ro) 0 P ops Q _ ((Fr ds n σ).put o.dst v) w''
    rw [eB]
    exact hv
   | round l f tmps assign body=>
    simp only [hr] at h
    unfold pU
    rw [jx ho]
    unfold wpListIn
    rw [df,hw,if_pos rfl]
    unfold Oper.wpIn
    refine ⟨fun _ _=>trivial, ?_⟩
    rw [dS,bQ (P:=P) (w:=w) (by rw [hr];rfl),hr,Oper.uponIn_round]
    refine ⟨fun h=>(by cases h), ?_⟩
    have h':RoundIn (fen ro) (0-1) P l f tmps assign body w' (Ret fun v w''=>pU (ro:=ro) (ds:=ds) P ops Q n (k+1) (putσ σ o.dst v) w''):=h
    refine RoundIn.mono h' ?_
    rintro e w'' ⟨v,rfl,hv⟩
    show wpListIn (fen ro) 0 P ops Q _ ((Fr ds n σ).put o.dst v) w''
    rw [eB]
    exact hv
   | _=>simp only [hr] at h
 ·exact DF ho hw h
def IJ (P:Program) (ops:Array Oper) (n:Nat):Nat→Nat→List (Nat×Value)→List (Nat×Value)→World→Option (List (Nat×Value)×World)
 | 0,_,_,acc,w=>some (acc,w)
 | m+1,k,σ,acc,w=>
  match ops[k]? with
  | none=>none
  | some o=>
   match wnt ops n σ o with
   | true=>match (execOp (ev n σ) o).run P w with
    | .ok (.value v) w'=>IJ P ops n m (k+1) (putσ σ o.dst v) (putσ acc o.dst v) w'
    | _=>none
   | false=>IJ P ops n m (k+1) (putσ σ o.dst undef) (putσ acc o.dst undef) w
end
section
variable {ro:Option Nat} {ds:List Deferred} {P:Program} {Q:Exit→Act→World→Prop} {n:Nat} {σ:List (Nat×Value)} {w:World}
theorem EL {id:Nat} {a:Act} (h:Q .ret a w):Exit.inBlock id Q .ret a w:=h
def y5 (δ live:List (Nat×Value)) (dead:List Nat):Bool:=δ.all fun p=>(live.any fun q=>Nat.beq q.1 p.1)|| dead.any fun s=>Nat.beq s p.1
theorem iJ (a b:List (Nat×Value)) (t:Nat):lk (a++b) t=if (a.any fun q=>Nat.beq q.1 t)=true then lk a t else lk b t:=by
 induction a with
 | nil=>rfl
 | cons p a ih=>
  obtain ⟨k,v⟩:=p
  simp only [List.cons_append,lk,List.any_cons,Bool.or_eq_true]
  cases h:Nat.beq k t with
  | true=>simp
  | false=>simp only [cond_false,ih,Bool.false_eq_true,false_or]
theorem DO (f:Nat→Value) (dead:List Nat) (t:Nat) (h:(dead.any fun s=>Nat.beq s t)=true):lk (dead.map fun s=>(s,f s)) t=f t:=by
 induction dead with
 | nil=>simp at h
 | cons s dead ih=>
  simp only [List.map_cons,lk]
  cases hb:Nat.beq s t with
  | true=>rw [Nat.eq_of_beq_eq_true hb];rfl
  | false=>
   simp only [List.any_cons,hb,Bool.false_or] at h
   exact ih h
theorem qI (f:Nat→Value) (dead:List Nat) (t:Nat):((dead.map fun s=>(s,f s)).any fun q=>Nat.beq q.1 t)=dead.any fun s=>Nat.beq s t:=by
 induction dead with
 | nil=>rfl
 | cons s dead ih=>simp only [List.map_cons,List.any_cons,ih]
theorem wB {τ:List (Nat×Value)}:∀{live:List (Nat×Value)},(live.map fun p=>lk τ p.1)=live.map Prod.snd→∀t,(live.any fun q=>Nat.beq q.1 t)=true→lk live t=lk τ t
 | [],_,t,h=>by simp at h
 |(k,v)::live,hv,t,h=>by
  simp only [List.map_cons,List.cons.injEq] at hv
  simp only [lk]
  cases hb:Nat.beq k t with
  | true=>rw [←Nat.eq_of_beq_eq_true hb];exact hv.1.symm
  | false=>
   simp only [List.any_cons,hb,Bool.false_or] at h
   exact wB hv.2 t h
theorem zg {n:Nat} {τ σ live:List (Nat×Value)} {dead:List Nat} (hs:τ.drop (τ.length-σ.length)=σ) (hk:y5 (τ.take (τ.length-σ.length)) live dead=true) (hv:(live.map fun p=>lk τ p.1)=live.map Prod.snd):
  (List.range n).map (lk τ)=(List.range n).map (lk (live++(dead.map fun s=>(s,lk τ s))++σ)):=by
 apply List.map_congr_left
 intro t _
 rw [iJ,iJ]
 by_cases h1:(live.any fun q=>Nat.beq q.1 t)=true
 ·rw [List.any_append,h1,Bool.true_or,if_pos rfl,if_pos rfl,wB hv t h1]
 ·by_cases h2:(dead.any fun s=>Nat.beq s t)=true
  ·rw [List.any_append,qI,h2,Bool.or_true,if_pos rfl,if_neg h1,DO _ _ _ h2]
  ·rw [List.any_append,qI,if_neg (by simp [h1,h2])]
   have h3:τ=τ.take (τ.length-σ.length)++σ:=by
    have:=List.take_append_drop (τ.length-σ.length) τ
    rw [hs] at this;exact this.symm
   have h4:lk τ t=lk (τ.take (τ.length-σ.length)++σ) t:=congrArg (fun z=>lk z t) h3
   rw [h4,iJ,if_neg]
   intro h5
   rw [List.any_eq_true] at h5
   obtain ⟨q,hq,hqt⟩:=h5
   have h6:=List.all_eq_true.1 hk q hq
   rw [Nat.eq_of_beq_eq_true hqt] at h6
   simp only [Bool.or_eq_true] at h6
   exact h6.elim h1 h2
def LX {ds:List Deferred} {X:Type} (live:X→List (Nat×Value)) (dead:List Nat) (n:Nat) (σ:List (Nat×Value)) (I:X→World→Prop) (μ:X→Nat) (x:X) (a:Act) (w':World):Prop:=
 ∃(x':X) (d':Nat→Value),a=Fr ds n (live x'++(dead.map fun s=>(s,d' s))++σ)∧I x' w'∧μ x'<μ x
theorem ey {F:Fence} {m:Nat} {a:Act} {c:Code} (I:Nat→Act→World→Prop) (n₀:Nat) (h₀:I n₀ a w)
  (round:∀n a w,I n a w→c.wpIn F m P (Exit.then (fun a' w'=>∃n',n'<n∧I n' a' w') Q) a w):(Code.loop c).wpIn F m P Q a w:=by
 refine wpIn_loop (fun a w=>∃n,I n a w) (fun a w=>leastOf (fun n=>I n a w)) ⟨n₀,h₀⟩ ?_
 intro a w hI
 refine wpIn_mono (round _ a w (leastOf_spec hI).1) ?_
 intro e a' w' hq
 cases e with
 | normal=>
  obtain ⟨n',hlt,hI'⟩:=hq
  exact show (∃n,I n a' w')∧leastOf (fun n=>I n a' w')<leastOf (fun n=>I n a w) from ⟨⟨n',hI'⟩,Nat.lt_of_le_of_lt ((leastOf_spec ⟨n',hI'⟩).2 n' hI') hlt⟩
 | exit id=>exact hq
 | goto l=>exact hq
 | ret=>exact hq
 | panic ch=>exact hq
 | outgrown=>exact hq
theorem JB {X:Type} {c:Code} (live:X→List (Nat×Value)) (dead:List Nat) (I:X→World→Prop) (μ:X→Nat) (x0:X)
  (h0:((live x0).map fun p=>lk σ p.1)=(live x0).map Prod.snd) (hI:I x0 w)
  (round:∀(x:X) (d:Nat→Value) (w':World),I x w'→i4 (ro:=ro) (ds:=ds) P c (Exit.then (LX (ds:=ds) live dead n σ I μ x) Q) n (live x++(dead.map fun s=>(s,d s))++σ) w'):i4 (ro:=ro) (ds:=ds) P (.loop c) Q n σ w:=by
 unfold i4
 have h0:(List.range n).map (lk σ)=(List.range n).map (lk (live x0++(dead.map fun s=>(s,lk σ s))++σ)):=zg (by simp) (by simp [y5]) h0
 rw [Bj h0]
 refine ey (fun m a w'=>∃(x:X) (d:Nat→Value),a=Fr ds n (live x++(dead.map fun s=>(s,d s))++σ)∧I x w'∧μ x=m) (μ x0) ⟨x0,_,rfl,hI,rfl⟩ ?_
 rintro m a w' ⟨x,d,rfl,hx,rfl⟩
 refine wpIn_mono (round x d w' hx) ?_
 intro e a' w'' hq
 cases e with
 | normal=>
  obtain ⟨x',d',rfl,hx',hlt⟩:=hq
  exact ⟨μ x',hlt,x',d',rfl,hx',rfl⟩
 | exit id=>exact hq
 | goto l=>exact hq
 | ret=>exact hq
 | panic ch=>exact hq
 | outgrown=>exact hq
end
theorem HA {P:Program} {f:FuncId} {fn:Func} {c:Code} {args:Array Value} {w:World} {R:Value→World→Prop}
  (hf:P.funcs[f]? =some fn) (hb:fn.body=some c) {n:Nat} {σ:List (Nat×Value)}
  (h:i4 (ro:=none) (ds:= []) P c (bodyPost P fn (Ret R)) n σ w) (hn:args++Array.replicate (fn.ntmps-args.size) undef=(Fr [] n σ).tmps:=by kernel_rfl):Calls P f args w (Ret R):=by
 refine calls_of_wp hf hb ?_
 rw [hn];exact wpIn_wide.1 h
def yQ (P:Program) (fn:Func) (R:Value→World→Prop):Exit→Act→World→Prop
 | .ret,a,w | .normal,a,w=>LeavesInM Fence.wide 0 P fn a.tmps (Ret R) a.defers .returning w
 | _,_,_=>False
theorem yq {P:Program} {f:FuncId} {fn:Func} {c:Code} {args:Array Value} {w:World} {R:Value→World→Prop}
  (hf:P.funcs[f]? =some fn) (hb:fn.body=some c) {n:Nat} {σ:List (Nat×Value)}
  (h:i4 (ro:=none) (ds:= []) P c (yQ P fn R) n σ w) (hn:args++Array.replicate (fn.ntmps-args.size) undef=(Fr [] n σ).tmps:=by kernel_rfl):Calls P f args w (Ret R):=by
 refine callsIn_wide (n:=0).1 (callsIn_of_wp_marks hf hb trivial ?_)
 rw [hn]
 refine wpIn_mono h ?_
 intro e a w' hq
 cases e with
 | ret=>exact hq
 | normal=>exact hq
 | _=>exact hq.elim
theorem vR (ds:List Deferred) (n:Nat) (σ:List (Nat×Value)) (t:Nat):(Fr ds n σ).tmps.getD t undef=ev n σ (.tmp t):=by
 have:=congrFun (dS ds n σ) (.tmp t)
 simpa [Act.eval] using this
def rsem (tmps:Array Value):ResultVar→Sem Value
 | .tmp t=>pure (tmps.getD t undef)
 | .cell a t=>do loadVar t (←asAddr (tmps.getD a undef))
theorem uf (fn:Func) (tmps:Array Value):results fn tmps=(do
  let vs←fn.results.mapM (rsem tmps)
  pure (if h:vs.size=1 then vs[0] else .tuple vs)):=rfl
class NoPan (Q:Exit→Act→World→Prop):Prop where
 no:∀c a w,¬Q (.panic c) a w
end Go.Cs
namespace Go.Cs
open Go Go.RowKit
structure Chg (S:Nat→Prop) (w w':World):Prop where
 os:w'.os=w.os
 tape:w'.tape=w.tape
 output:w'.output=w.output
 size:w.heap.size≤w'.heap.size
 block:∀k,k<w.heap.size→¬S k→w'.heap[k]? =w.heap[k]?
abbrev Ext (w w':World):Prop:=Chg (fun _=>False) w w'
theorem Chg.refl (S:Nat→Prop) (w:World):Chg S w w:=⟨rfl,rfl,rfl,Nat.le_refl _,fun _ _ _=>rfl⟩
theorem Ext.refl (w:World):Ext w w:=Chg.refl _ w
theorem Chg.trans {S:Nat→Prop} {a b c:World} (h:Chg S a b) (g:Chg S b c):Chg S a c:=
 ⟨g.os.trans h.os,g.tape.trans h.tape,g.output.trans h.output,Nat.le_trans h.size g.size,
  fun k hk hs=>(g.block k (Nat.lt_of_lt_of_le hk h.size) hs).trans (h.block k hk hs)⟩
theorem Chg.mono {S T:Nat→Prop} {a b:World} (h:Chg S a b) (hst:∀k,k<a.heap.size→S k→T k):Chg T a b:=
 ⟨h.os,h.tape,h.output,h.size,fun k hk ht=>h.block k hk (fun hs=>ht (hst k hk hs))⟩
theorem Chg.then {S T:Nat→Prop} {a b c:World} (h:Chg S a b) (g:Chg T b c) (hst:∀k,k<a.heap.size→T k→S k):Chg S a c:=
 ⟨g.os.trans h.os,g.tape.trans h.tape,g.output.trans h.output,Nat.le_trans h.size g.size,
  fun k hk hs=>(g.block k (Nat.lt_of_lt_of_le hk h.size) (fun ht=>hs (hst k hk ht))).trans (h.block k hk hs)⟩
theorem Ext.chg {S:Nat→Prop} {a b:World} (h:Ext a b):Chg S a b:=h.mono (fun _ _ hf=>hf.elim)
theorem Ext.below {a b:World} (h:Ext a b):Below a.heap.size a b:=⟨h.os,h.tape,h.output,h.size,fun k hk=>h.block k hk (fun hf=>hf)⟩
theorem Ext.alloc (w:World) (o:Obj):Ext w (w.alloc o):=
 ⟨rfl,rfl,rfl,by simp,fun k hk _=>Below.heap_alloc _ _ _ hk⟩
theorem Ext.drew (w:World):Ext w w.drew:=⟨rfl,rfl,rfl,Nat.le_refl _,fun _ _ _=>rfl⟩
theorem Chg.setCell (w:World) (a:Addr) (u:Value):Chg (· =a.block) w (w.setCell a u):=
 ⟨rfl,rfl,rfl,by simp [World.setCell],fun _ _ hs=>Below.heap_setCell _ _ _ _ hs⟩
theorem Chg.cell {S:Nat→Prop} {w w':World} (h:Chg S w w') {a:Addr} {v:Value} (hs:¬S a.block) (hc:w.cell? a=some v):w'.cell? a=some v:=
 (World.cell?_of_block (h.block a.block (World.block_lt_of_cell? w a hc) hs)).trans hc
def Blk (w:World) (b:Nat) (cs:List Value) (e:TypeId):Prop:=w.heap[b]? =some (.cells cs.toArray e (0,0))
theorem Blk.lt {w:World} {b:Nat} {cs:List Value} {e:TypeId} (h:Blk w b cs e):b<w.heap.size:=(Array.getElem?_eq_some_iff.1 h).1
theorem Blk.chg {S:Nat→Prop} {w w':World} {b:Nat} {cs:List Value} {e:TypeId} (h:Blk w b cs e) (hc:Chg S w w') (hs:¬S b:=by intro hs;first |(have h:_=_:=hs;omega)|(rcases hs with hs | hs<;>omega)):Blk w' b cs e:=
 (hc.block b h.lt hs).trans h
theorem Blk.ext {w w':World} {b:Nat} {cs:List Value} {e:TypeId} (h:Blk w b cs e) (hc:Ext w w'):Blk w' b cs e:=h.chg hc (fun hf=>hf)
theorem Blk.cell {w:World} {b:Nat} {cs:List Value} {e:TypeId} (h:Blk w b cs e) {i:Nat} {v:Value} (hv:cs[i]? =some v):w.cell? ⟨b,i,none⟩=some v:=by
 unfold Blk at h
 simp [World.cell?,h,hv]
theorem Blk.free {w:World} {b:Nat} {cs:List Value} {e:TypeId} (h:Blk w b cs e) (i:Nat):w.frozen? ⟨b,i,none⟩=false:=by
 unfold Blk at h
 simp [World.frozen?,h]
theorem Blk.new (w:World) (cs:List Value) (e:TypeId):Blk (w.alloc (.cells cs.toArray e)) w.heap.size cs e:=heap_alloc_new w _
theorem Blk.setCell {w:World} {b:Nat} {cs:List Value} {e:TypeId} (h:Blk w b cs e) (i:Nat) (u:Value):Blk (w.setCell ⟨b,i,none⟩ u) b (cs.set i u) e:=by
 unfold Blk at*
 simp only [World.setCell]
 rw [Array.getElem?_modify,if_pos rfl,h]
 simp
def bX:List Value→Nat→List Value→List Value
 | cs,_, []=>cs
 | cs,i,v::vs=>bX (cs.set i v) (i+1) vs
theorem gU (vs:List Value):∀(cs:List Value) (i:Nat),(bX cs i vs).length=cs.length:=by
 induction vs with
 | nil=>intro cs i;rfl
 | cons v vs ih=>intro cs i;simp [bX,ih]
theorem e8 (vs:List Value):∀(cs:List Value) (i:Nat),i+vs.length≤cs.length→bX cs i vs=cs.take i++vs++cs.drop (i+vs.length):=by
 induction vs with
 | nil=>intro cs i _;simp [bX]
 | cons v vs ih=>
  intro cs i h
  simp only [List.length_cons] at h
  rw [bX,ih _ _ (by simpa using by omega)]
  rw [List.take_set,List.drop_set]
  rw [if_pos (by omega)]
  have:(List.take (i+1) cs).set i v=cs.take i++ [v]:=by
   rw [List.take_succ_eq_append_getElem (by omega:i<cs.length)]
   rw [List.set_append_right _ _ (by simp;omega)]
   simp [Nat.min_eq_left (by omega:i≤cs.length)]
  rw [this]
  simp [Nat.add_assoc,Nat.add_comm 1]
theorem cG {P:Program} (vs:List Value):∀(w:World) (b o j:Nat) (cs:List Value) (e:TypeId),Blk w b cs e→o+j+vs.length≤cs.length→(∀u∈vs,u.oneCell'=true)→
  ∃w',(storeCells ⟨b,o,none⟩ vs j).run P w= .ok () w'∧Blk w' b (bX cs (o+j) vs) e∧Chg (· =b) w w':=by
 induction vs with
 | nil=>intro w b o j cs e h _ _;exact ⟨w,by simp [storeCells],h,Chg.refl _ _⟩
 | cons v vs ih=>
  intro w b o j cs e h hl h1
  simp only [List.length_cons] at hl
  have hv:v.oneCell'=true:=h1 v (by simp)
  have hcell:w.cell? ⟨b,o+j,none⟩=some cs[o+j]:=h.cell (by simp [show o+j<cs.length by omega])
  obtain ⟨w',h2,h3,h4⟩:=ih (w.setCell ⟨b,o+j,none⟩ v) b o (j+1) (cs.set (o+j) v) e (h.setCell _ _) (by simpa using by omega) (fun u hu=>h1 u (by simp [hu]))
  refine ⟨w', ?_,by simpa [bX,Nat.add_assoc] using h3,(Chg.setCell w ⟨b,o+j,none⟩ v).trans h4⟩
  have hs:(store ((⟨b,o,none⟩:Addr).add j) v).run P w= .ok () (w.setCell ⟨b,o+j,none⟩ v):=by
   rw [Addr.add_lit]
   cases v<;>simp_all [store,Sem.run,h.free,Value.oneCell']
  simp [storeCells,hs,h2]
def eN (lo hi:Nat) (w:World) (a:Option Addr) (len cap:Nat) (vs:List Value):Prop:=
 match a with
 | none=>len=0∧cap=0∧vs= []
 | some ad=>len≤cap∧cap≤maxLen∧(vs= []∨(ad.spot=none∧lo≤ad.block∧ad.block<hi∧ad.block<w.heap.size∧∀(i:Nat) (v:Value),vs[i]? =some v→w.cell? ⟨ad.block,ad.off+i,none⟩=some v))
section
variable {lo hi:Nat} {w w':World} {a:Option Addr} {len cap:Nat} {vs:List Value}
theorem eN.nil (lo hi:Nat) (w:World):eN lo hi w none 0 0 []:=⟨rfl,rfl,rfl⟩
theorem eN.le (h:eN lo hi w a len cap vs):len≤cap∧cap≤maxLen:=by
 cases a with
 | none=>obtain ⟨rfl,rfl,_⟩:=h;simp
 | some ad=>exact ⟨h.1,h.2.1⟩
theorem eN.mono {lo' hi':Nat} (h:eN lo hi w a len cap vs) (h1:lo'≤lo) (h2:hi≤hi'):eN lo' hi' w a len cap vs:=by
 cases a with
 | none=>exact h
 | some ad=>
  obtain ⟨g1,g2,g3⟩:=h
  exact ⟨g1,g2,g3.imp id fun ⟨g4,g5,g6,g7,g8⟩=>⟨g4,by omega,by omega,g7,g8⟩⟩
theorem eN.chg {S:Nat→Prop} (h:eN lo hi w a len cap vs) (hc:Chg S w w') (hs:∀k,lo≤k→k<hi→¬S k):eN lo hi w' a len cap vs:=by
 cases a with
 | none=>exact h
 | some ad=>
  obtain ⟨g1,g2,g3⟩:=h
  exact ⟨g1,g2,g3.imp id fun ⟨g4,g5,g6,g7,g8⟩=>⟨g4,g5,g6,Nat.lt_of_lt_of_le g7 hc.size,fun i v hv=>hc.cell (hs _ g5 g6) (g8 i v hv)⟩⟩
theorem eN.ext (h:eN lo hi w a len cap vs) (hc:Ext w w'):eN lo hi w' a len cap vs:=h.chg hc (fun _ _ _ hf=>hf)
theorem eN.now (h:eN lo hi w a len cap vs):eN lo w.heap.size w a len cap vs:=by
 cases a with
 | none=>exact h
 | some ad=>
  obtain ⟨g1,g2,g3⟩:=h
  exact ⟨g1,g2,g3.imp id fun ⟨g4,g5,g6,g7,g8⟩=>⟨g4,g5,g7,g7,g8⟩⟩
theorem eN.get {ad:Addr} (h:eN lo hi w (some ad) len cap vs) {i:Nat} {v:Value} (hv:vs[i]? =some v):ad.spot=none∧lo≤ad.block∧ad.block<hi∧w.cell? ⟨ad.block,ad.off+i,none⟩=some v:=by
 obtain ⟨_,_,rfl |⟨g4,g5,g6,_,g8⟩⟩:=h
 ·simp at hv
 ·exact ⟨g4,g5,g6,g8 i v hv⟩
theorem eN.cell (h:eN lo hi w a len cap vs) {i:Nat} {v:Value} (hv:vs[i]? =some v):
  ∃b o,a=some ⟨b,o,none⟩∧w.cell? ⟨b,o+i,none⟩=some v:=by
 cases a with
 | none=>obtain ⟨_,_,rfl⟩:=h;simp at hv
 | some ad=>
  obtain ⟨g1,_,_,g2⟩:=h.get hv
  obtain ⟨b,o,s⟩:=ad
  simp only at g1;subst g1
  exact ⟨b,o,rfl,g2⟩
theorem eN.addr (h:eN lo hi w a len cap vs) (hp:0<vs.length):∃b o,a=some ⟨b,o,none⟩:=by
 obtain ⟨b,o,h1,_⟩:=h.cell (i:=0) (v:=vs[0]) (by simp [hp])
 exact ⟨b,o,h1⟩
theorem eN.load_add {ad:Addr} (h:eN lo hi w (some ad) len cap vs) {i:Nat} {v:Value} (hv:vs[i]? =some v):w.cell? (ad.add i)=some v:=by
 obtain ⟨g1,_,_,g2⟩:=h.get hv
 obtain ⟨b,o,s⟩:=ad
 simp only at g1;subst g1
 rw [Addr.add_lit];exact g2
theorem eN.part (h:eN lo hi w a len cap vs) (sz l r m:Nat) (h1:l≤r) (h2:r≤m) (h3:m≤cap) (hcells:vs.length=len*sz) (hr:r≤len):
  eN lo hi w (if m=l then a else a.map (·.add (l*sz))) (r-l) (m-l) ((vs.drop (l*sz)).take ((r-l)*sz)):=by
 cases a with
 | none=>
  obtain ⟨rfl,rfl,rfl⟩:=h
  have:m=l:=by omega
  subst this
  simp only [if_pos]
  exact ⟨by omega,by omega,by simp⟩
 | some ad=>
  have hle:=h.le
  by_cases hm:m=l
  ·rw [if_pos hm]
   have hrl:r=l:=by omega
   subst hrl
   exact ⟨by omega,by omega, .inl (by simp)⟩
  ·rw [if_neg hm]
   simp only [Option.map_some]
   refine ⟨by omega,by omega, ?_⟩
   obtain ⟨_,_,rfl |⟨g4,g5,g6,g7,g8⟩⟩:=h
   ·exact .inl (by simp)
   ·obtain ⟨b,o,s⟩:=ad
    simp only at g4 g5 g6 g7 g8;subst g4
    rw [Addr.add_lit]
    refine .inr ⟨rfl,g5,g6,g7,fun i v hv=> ?_⟩
    rw [List.getElem?_take] at hv
    split at hv
    ·rw [List.getElem?_drop] at hv
     have:=g8 _ _ hv
     simpa [Nat.add_assoc] using this
    ·cases hv
end
end Go.Cs
namespace Go.Cs
open Go Go.RowKit
def vS (s:Sem Value):Sem Next:=do pure (.value (←s))
def uS (s:Sem Unit):Sem Next:=do s;pure .skip
theorem tj {P:Program} {s:Sem Value} {w w':World} {v:Value} (h:s.run P w= .ok v w'):(vS s).run P w= .ok (.value v) w':=by
 simp [vS,h]
theorem A6 {P:Program} {s:Sem Unit} {w w':World} (h:s.run P w= .ok () w'):(uS s).run P w= .ok .skip w':=by
 simp [uS,h]
abbrev bo (op:BinOp) (T:TypeId) (ox oy:Operand) (x y:Value):Sem Value:=do eqGuard op T ox oy x y;binOp op T x y
theorem Blk.set1 {w:World} {b:Nat} {x v:Value} {e:TypeId} (h:Blk w b ([x].set 0 v) e):Blk w b [v] e:=h
def jb:TypeDesc→Bool
 | .struct _ | .array _ _=>true
 | _=>false
section
variable {P:Program} {n k:Nat} {σ:List (Nat×Value)} {w:World} {ops:Array Oper} {K:List (Nat×Value)→World→Prop} {d:Option Tmp}
theorem LR (d:Option Tmp) (s:Sem Value) (v:Value) {w':World} (hr:s.run P w= .ok v w') (h:K (putσ σ d v) w') (he:jH ops n σ k=some (d,vS s):=by kernel_rfl):gw P ops n k σ w K:=
 zP he (tj hr) h
theorem MG {s:Sem Unit} {w':World} (he:jH ops n σ k=some (d,uS s)) (hr:s.run P w= .ok () w') (h:K (putσ σ d undef) w'):gw P ops n k σ w K:=
 Dr he (A6 hr) h
theorem F7 (d:Option Tmp) (s:Sem Value) (v:Value) (cs:List Value) (e:TypeId)
  (h:∀w',Blk w' w.heap.size cs e→Ext w w'→K (putσ σ d v) w') (hr:s.run P w= .ok v (w.alloc (.cells cs.toArray e)):=by kernel_rfl) (he:jH ops n σ k=some (d,vS s):=by kernel_rfl):gw P ops n k σ w K:=
 LR d s v hr (h _ (Blk.new w cs e) (Ext.alloc w _)) he
theorem EA {T:TypeId} {ad:Addr} {v:Value} (hc:w.cell? ad=some v) (hT:(P.underlying T).map jb=some false:=by kernel_rfl):
  (Instr.loadAt T (.pointer (some ad))).run P w= .ok v w:=by
 obtain ⟨t,ht,hb⟩:=Option.map_eq_some_iff.1 hT
 have ha:(isAgg T).run P w= .ok false w:=by
  cases t<;>simp_all [isAgg,run_underlying ht,jb]
 simp [Instr.loadAt,Instr.sureAddr,loadVar,ha,load,Sem.run,hc]
theorem ir {T:TypeId} (hT:(P.underlying T).map jb=some true):(isAgg T).run P w= .ok true w:=by
 obtain ⟨t,ht,hb⟩:=Option.map_eq_some_iff.1 hT
 cases t<;>simp_all [isAgg,run_underlying ht,jb]
theorem kY {T:TypeId} (hT:(P.underlying T).map jb=some false):(isAgg T).run P w= .ok false w:=by
 obtain ⟨t,ht,hb⟩:=Option.map_eq_some_iff.1 hT
 cases t<;>simp_all [isAgg,run_underlying ht,jb]
theorem run_sizeOf {T sz:Nat} (hT:(P.info? T).map (·.size)=some sz):(sizeOf T).run P w= .ok sz w:=by
 obtain ⟨i,hi,rfl⟩:=Option.map_eq_some_iff.1 hT
 simp [sizeOf,typeInfo,hi]
def At (w:World) (b o:Nat) (vs:List Value):Prop:=∀(i:Nat) (v:Value),vs[i]? =some v→w.cell? ⟨b,o+i,none⟩=some v
theorem Blk.at {w:World} {b:Nat} {cs:List Value} {e:TypeId} (h:Blk w b cs e) (o:Nat) (vs:List Value) (hv:(cs.drop o).take vs.length=vs):At w b o vs:=by
 intro i v hi
 refine h.cell ?_
 rw [←hv,List.getElem?_take] at hi
 split at hi
 ·rwa [List.getElem?_drop] at hi
 ·cases hi
theorem Blk.all {w:World} {b:Nat} {cs:List Value} {e:TypeId} (h:Blk w b cs e):At w b 0 cs:=fun i v hi=>by simpa using h.cell hi
theorem At.chg {S:Nat→Prop} {w w':World} {b o:Nat} {vs:List Value} (h:At w b o vs) (hc:Chg S w w') (hs:¬S b:=by intro hs;first |(have h:_=_:=hs;omega)|(rcases hs with hs | hs<;>omega)):At w' b o vs:=fun i v hi=>hc.cell hs (h i v hi)
theorem At.ext {w w':World} {b o:Nat} {vs:List Value} (h:At w b o vs) (hc:Ext w w'):At w' b o vs:=h.chg hc (fun hf=>hf)
theorem At.sub {w:World} {b o:Nat} {vs:List Value} (h:At w b o vs) (l:Nat) (us:List Value) (hu:(vs.drop l).take us.length=us):At w b (o+l) us:=by
 intro i v hi
 rw [←hu,List.getElem?_take] at hi
 split at hi
 ·rw [List.getElem?_drop] at hi
  rw [Nat.add_assoc];exact h _ _ hi
 ·cases hi
theorem At.one {w:World} {b o:Nat} {vs:List Value} (h:At w b o vs) (l:Nat) (v:Value) (hv:vs[l]? =some v):w.cell? ⟨b,o+l,none⟩=some v:=h l v hv
theorem eN.at {lo hi:Nat} {w:World} {b o len cap:Nat} {vs:List Value} (h:eN lo hi w (some ⟨b,o,none⟩) len cap vs):At w b o vs:=fun _ _ hi=>(h.get hi).2.2.2
theorem kg {T b o:Nat} {vs:List Value} (hc:At w b o vs) (hsz:(P.info? T).map (·.size)=some vs.length:=by kernel_rfl) (hT:(P.underlying T).map jb=some true:=by kernel_rfl):
  (Instr.loadAt T (.pointer (some ⟨b,o,none⟩))).run P w= .ok (.agg vs.toArray) w:=by
 have h1:=ir (w:=w) hT
 have h2:=run_sizeOf (w:=w) hsz
 have h3:(loadCells ⟨b,o,none⟩ vs.length).run P w= .ok vs.toArray w:=run_loadCells_list w ⟨b,o,none⟩ vs (fun j v hj=>by rw [Addr.add_lit];exact hc j v hj)
 simp [Instr.loadAt,Instr.sureAddr,loadVar,h1,h2,h3]
theorem J1 {T b o e:Nat} {v:Value} {cs vs:List Value} (hB:Blk w b cs e) (hv:v.cells=vs.toArray) (hsz:(P.info? T).map (·.size)=some vs.length) (ho:o+vs.length≤cs.length) (h1:∀u∈vs,u.oneCell'=true):
  ∃w',(Instr.storeAt T (.pointer (some ⟨b,o,none⟩)) v).run P w= .ok () w'∧Blk w' b (bX cs o vs) e∧Chg (· =b) w w':=by
 obtain ⟨w',h2,h3,h4⟩:=cG (P:=P) vs w b o 0 cs e hB (by simpa using ho) h1
 refine ⟨w', ?_,by simpa using h3,h4⟩
 have h5:=run_sizeOf (w:=w) hsz
 simp [Instr.storeAt,Instr.sureAddr,storeVar,hv,h5,h2]
theorem GC {T E sz b o len cap:Nat} {kk:IntKind} {i:Nat} (hi:i<len:=by omega) (hT:P.underlying T=some (.slice E):=by kernel_rfl) (hsz:(P.info? E).map (·.size)=some sz:=by kernel_rfl):
  (Instr.indexAt T (.slice (some ⟨b,o,none⟩) len cap) (.int kk (i:Int))).run P w= .ok (.pointer (some ⟨b,o+i*sz,none⟩)) w:=by
 have h2:=run_sizeOf (w:=w) hsz
 have h3:(0:Int)≤(i:Int)∧(i:Int)<(len:Int):=by omega
 simp [Instr.indexAt,asIntOf,run_underlying hT,h2,Addr.add_lit,hi]
theorem FE {T E sz b o m:Nat} {kk:IntKind} {i:Nat} (hi:i<m:=by omega) (hT:P.underlying T=some (.array m E):=by kernel_rfl) (hsz:(P.info? E).map (·.size)=some sz:=by kernel_rfl):
  (Instr.indexAt T (.pointer (some ⟨b,o,none⟩)) (.int kk (i:Int))).run P w= .ok (.pointer (some ⟨b,o+i*sz,none⟩)) w:=by
 have h2:=run_sizeOf (w:=w) hsz
 simp [Instr.indexAt,asIntOf,run_underlying hT,h2,Addr.add_lit,hi,Instr.sureAddr]
def bnd (x:Option Value) (y:Nat) (z:Nat):Prop:=(x=none∧z=y)∨∃kk,x=some (.int kk (z:Int))
theorem kf {T E sz len cap l r m:Nat} {a:Option Addr} {lo hi mx:Option Value} (hT:P.underlying T=some (.slice E)) (hsz:(P.info? E).map (·.size)=some sz)
  (hl:bnd lo 0 l) (hh:bnd hi len r) (hm:bnd mx cap m) (hmh:mx=none∨hi≠none) (h1:l≤r) (h2:r≤m) (h3:m≤cap):
  (Instr.sliceAt T (.slice a len cap) lo hi mx).run P w= .ok (.slice (if m=l then a else a.map (·.add (l*sz))) (r-l) (m-l)) w:=by
 have g2:=run_sizeOf (w:=w) hsz
 have c1:((m:Int)≤(cap:Int)):=by omega
 have c2:((r:Int)≤(m:Int)):=by omega
 have c3:((l:Int)≤(r:Int)):=by omega
 have c4:r≤cap:=by omega
 rcases hl with ⟨rfl,rfl⟩|⟨k1,rfl⟩<;>rcases hm with ⟨rfl,rfl⟩|⟨k3,rfl⟩<;>rcases hh with ⟨rfl,rfl⟩|⟨k2,rfl⟩<;>
  simp_all [Instr.sliceAt,Instr.slice,Instr.sliceBounds,Instr.sliceBound,asIntOf,run_underlying hT]
theorem FB {T E sz m b o:Nat} (hT:P.underlying T=some (.array m E):=by kernel_rfl) (hsz:(P.info? E).map (·.size)=some sz:=by kernel_rfl):
  (Instr.sliceAt T (.pointer (some ⟨b,o,none⟩)) none none none).run P w= .ok (.slice (some ⟨b,o,none⟩) m m) w:=by
 have g2:=run_sizeOf (w:=w) hsz
 have:(if m=0 then (⟨b,o,none⟩:Addr) else Addr.add ⟨b,o,none⟩ 0)=⟨b,o,none⟩:=by split<;>simp [Addr.add_lit]
 simp [Instr.sliceAt,Instr.sliceBounds,Instr.sureAddr,run_underlying hT,g2,Addr.add_lit]
theorem FG {T E sz len b o l r m:Nat} {lo hi mx:Option Value} (hl:bnd lo 0 l) (hh:bnd hi len r) (hm:bnd mx len m) (hmh:mx=none∨hi≠none) (h1:l≤r) (h2:r≤m) (h3:m≤len) (hT:P.underlying T=some (.array len E):=by kernel_rfl) (hsz:(P.info? E).map (·.size)=some sz:=by kernel_rfl):
  (Instr.sliceAt T (.pointer (some ⟨b,o,none⟩)) lo hi mx).run P w= .ok (.slice (if m=l then some ⟨b,o,none⟩ else some ⟨b,o+l*sz,none⟩) (r-l) (m-l)) w:=by
 have g2:=run_sizeOf (w:=w) hsz
 have c1:((m:Int)≤(len:Int)):=by omega
 have c2:((r:Int)≤(m:Int)):=by omega
 have c3:((l:Int)≤(r:Int)):=by omega
 have c4:r≤len:=by omega
 rcases hl with ⟨rfl,rfl⟩|⟨k1,rfl⟩<;>rcases hm with ⟨rfl,rfl⟩|⟨k3,rfl⟩<;>rcases hh with ⟨rfl,rfl⟩|⟨k2,rfl⟩<;>
  simp_all [Instr.sliceAt,Instr.slice,Instr.sliceBounds,Instr.sliceBound,Instr.sureAddr,asIntOf,run_underlying hT,Addr.add_lit]<;>(try split)<;>rfl
theorem At.sla {w:World} {b o len:Nat} {vs:List Value} (h:At w b o vs) (hb:b<w.heap.size) (lo hi:Nat) (h1:lo≤b) (h2:b<hi) (hm:len≤maxLen):eN lo hi w (some ⟨b,o,none⟩) len len vs:=
 ⟨Nat.le_refl _,hm, .inr ⟨rfl,h1,h2,hb,h⟩⟩
theorem kK {a b:Nat} (h:a*b≤281474976710656):(a:Int)*(b:Int)≤281474976710656:=by
 have g:((a*b:Nat):Int)≤281474976710656:=by omega
 rwa [Int.natCast_mul] at g
theorem Kk (d:Option Tmp) (T E sz bys len cap:Nat) (k1 k2:IntKind) (z:Value) (hlc:len≤cap) (hb:bys*cap≤281474976710656) (h63:cap≤9223372036854775807)
  (h:∀w',Blk w' w.heap.size (madeCells z.cells (cap*sz)).toList E→Ext w w'→K (putσ σ d (.slice (some ⟨w.heap.size,0,none⟩) len cap)) w') (hT:P.underlying T=some (.slice E):=by kernel_rfl)
  (hE:(P.info? E).map (fun i=>(i.zero,i.size,i.bytes))=some (some z,sz,bys):=by kernel_rfl) (he:jH ops n σ k=some (d,vS (Instr.makeSlice T (.int k1 (len:Int)) (.int k2 (cap:Int)))):=by kernel_rfl):gw P ops n k σ w K:=by
 obtain ⟨i,hi,hz,rfl,rfl⟩:=info_parts hE
 have hr:=run_make (P:=P) w T E i z hT hi hz k1 k2 len cap (by omega) (by omega) (kK hb) (by omega)
 simp only [Int.toNat_natCast] at hr
 have he':=he
 exact F7 d _ _ (madeCells z.cells (cap*i.size)).toList E h (by simpa using hr) he'
theorem nJ (z:Value) (m:Nat):(madeCells #[z] m).toList=List.replicate m z:=by
 simp only [madeCells,Array.toList_map,Array.toList_range]
 rw [List.eq_replicate_iff]
 refine ⟨by simp, ?_⟩
 intro b hb
 simp only [List.mem_map] at hb
 obtain ⟨i,_,rfl⟩:=hb
 simp [Nat.mod_one]
def bE (l:List UInt8):List Value:=l.map fun c=> .int .u8 c.toNat
@[simp] theorem FD (l:List UInt8):(bE l).length=l.length:=by simp [bE]
theorem DT {l:List UInt8} {i:Nat} (h:i<l.length):(bE l)[i]? =some (.int .u8 (l[i]).toNat):=by simp [bE,h]
theorem AF (l:List UInt8) (i:Nat):(bE l).drop i=bE (l.drop i):=by simp [bE,List.map_drop]
theorem AY (l:List UInt8) (i:Nat):(bE l).take i=bE (l.take i):=by simp [bE,List.map_take]
theorem iD (l:List UInt8):∀u∈bE l,u.oneCell'=true:=by
 intro u hu
 simp only [bE,List.mem_map] at hu
 obtain ⟨c,_,rfl⟩:=hu
 rfl
theorem IS (z:Value) (hz:z.cells= #[z]) (m:Nat):(madeCells z.cells (m*1)).toList=List.replicate m z:=by
 rw [hz,Nat.mul_one,nJ]
end
def MX (P:Program) (t:TypeId):TypeId:=match P.underlying t with
 | some (.slice e)=>e
 | some (.array _ e)=>e
 | _=>0
def FQ (P:Program) (t:TypeId):List Value:=match P.info? t with
 | some i=>match i.zero with
  | some z=>z.cells.toList
  | none=> []
 | none=> []
end Go.Cs
namespace Go.Cs
open Go Go.RowKit
theorem jz {x y:Int} (h:x=y:=by omega) (h1: -9223372036854775808≤y:=by omega) (h2:y≤9223372036854775807:=by omega):IntKind.i64.wrap x=y:=by
 subst h;rw [IntKind.wrap_i64];omega
theorem iA {k:IntKind} (hk:k.signed=false) {x:Int} {m:Nat} (h:x=(m:Int)):k.wrap x=((m%2^k.bits:Nat):Int):=by
 subst h
 simp [IntKind.wrap,hk]
theorem mF {k:IntKind} (hk:k.signed=false) {x:Int} {m:Nat} (h:x=(m:Int)) (hm:m<2^k.bits):k.wrap x=(m:Int):=by
 rw [iA hk h,Nat.mod_eq_of_lt hm]
theorem mn {k:IntKind} (hk:k.signed=false) {a b:Nat} (hb:b≤2^k.bits):k.wrap ((a:Int)-(b:Int))=(((a+(2^k.bits-b))%2^k.bits:Nat):Int):=by
 have h1:((a:Int)-(b:Int))%((2^k.bits:Nat):Int)=((a+(2^k.bits-b):Nat):Int)%((2^k.bits:Nat):Int):=by
  have:((a+(2^k.bits-b):Nat):Int)=((a:Int)-(b:Int))+((2^k.bits:Nat):Int):=by omega
  rw [this,Int.add_emod_right]
 simp only [IntKind.wrap,hk,Bool.false_and,Bool.false_eq_true,if_false]
 rw [show ((2:Int)^k.bits)=((2^k.bits:Nat):Int) by simp,h1]
 omega
theorem zr (k:IntKind) (hk:k.signed=false) (r:BitVec k.bits):k.wrap (r.toNat:Int)=(r.toNat:Int):=
 mF hk rfl r.isLt
theorem gj (n m:Nat):BitVec.ofInt n (m:Int)=BitVec.ofNat n m:=by simp
theorem Kr (k:IntKind) (hk:k.signed=false) {a b:Nat} (ha:a<2^k.bits) (hb:b<2^k.bits):k.wrap ((BitVec.ofInt k.bits (a:Int)||| BitVec.ofInt k.bits (b:Int)).toNat:Int)=((a ||| b:Nat):Int):=by
 rw [zr k hk,gj,gj,BitVec.toNat_or,BitVec.toNat_ofNat,BitVec.toNat_ofNat,Nat.mod_eq_of_lt ha,Nat.mod_eq_of_lt hb]
theorem DJ (k:IntKind) (hk:k.signed=false) {a b:Nat} (ha:a<2^k.bits) (hb:b<2^k.bits):k.wrap ((BitVec.ofInt k.bits (a:Int)&&&BitVec.ofInt k.bits (b:Int)).toNat:Int)=((a&&&b:Nat):Int):=by
 rw [zr k hk,gj,gj,BitVec.toNat_and,BitVec.toNat_ofNat,BitVec.toNat_ofNat,Nat.mod_eq_of_lt ha,Nat.mod_eq_of_lt hb]
theorem yT (k:IntKind) (hk:k.signed=false) {a b:Nat} (ha:a<2^k.bits) (hb:b<2^k.bits):k.wrap ((BitVec.ofInt k.bits (a:Int)^^^BitVec.ofInt k.bits (b:Int)).toNat:Int)=((a^^^b:Nat):Int):=by
 rw [zr k hk,gj,gj,BitVec.toNat_xor,BitVec.toNat_ofNat,BitVec.toNat_ofNat,Nat.mod_eq_of_lt ha,Nat.mod_eq_of_lt hb]
theorem zT {k:IntKind} (hk:k.signed=false) {a s:Nat}:k.wrap ((a:Int)*2^s)=((a*2^s%2^k.bits:Nat):Int):=
 iA hk (by simp)
theorem vi (a s:Nat):(a:Int).fdiv (2^s)=((a/2^s:Nat):Int):=by
 rw [Int.fdiv_eq_ediv_of_nonneg _ (by exact_mod_cast Nat.zero_le (2^s))]
 simp
theorem IA (a b:Nat):(a:Int).tdiv (b:Int)=((a/b:Nat):Int):=by
 rw [Int.tdiv_eq_ediv_of_nonneg (by omega)];simp
theorem E5 (a b:Nat):(a:Int).tmod (b:Int)=((a%b:Nat):Int):=by
 rw [Int.tmod_eq_emod_of_nonneg (by omega)];simp
structure Bs (lo hi:Nat) (w:World) (a:Option Addr) (len cap:Nat) (l:List UInt8):Prop where
 sla:eN lo hi w a len cap (bE l)
 len_eq:len=l.length
theorem Bs.ext {lo hi:Nat} {w w':World} {a:Option Addr} {len cap:Nat} {l:List UInt8} (h:Bs lo hi w a len cap l) (hc:Ext w w'):Bs lo hi w' a len cap l:=⟨h.sla.ext hc,h.len_eq⟩
theorem Bs.chg {S:Nat→Prop} {lo hi:Nat} {w w':World} {a:Option Addr} {len cap:Nat} {l:List UInt8} (h:Bs lo hi w a len cap l) (hc:Chg S w w') (hs:∀k,lo≤k→k<hi→¬S k:=by intro k h1 h2 hs;first |(have h:k=_:=hs;omega)|(rcases hs with hs | hs<;>omega)):Bs lo hi w' a len cap l:=⟨h.sla.chg hc hs,h.len_eq⟩
theorem Bs.mono {lo hi lo' hi':Nat} {w:World} {a:Option Addr} {len cap:Nat} {l:List UInt8} (h:Bs lo hi w a len cap l) (h1:lo'≤lo) (h2:hi≤hi'):Bs lo' hi' w a len cap l:=⟨h.sla.mono h1 h2,h.len_eq⟩
theorem Bs.nil (lo hi:Nat) (w:World):Bs lo hi w none 0 0 []:=⟨eN.nil lo hi w,rfl⟩
theorem Bs.le {lo hi:Nat} {w:World} {a:Option Addr} {len cap:Nat} {l:List UInt8} (h:Bs lo hi w a len cap l):len≤cap∧cap≤9223372036854775807:=by
 have:=h.sla.le;simpa [maxLen] using this
theorem Bs.addr {lo hi:Nat} {w:World} {a:Option Addr} {len cap:Nat} {l:List UInt8} (h:Bs lo hi w a len cap l) (hp:0<len):∃b o,a=some ⟨b,o,none⟩:=
 h.sla.addr (by have:=h.len_eq;simp;omega)
theorem Bs.cell {lo hi:Nat} {w:World} {b o len cap:Nat} {l:List UInt8} (h:Bs lo hi w (some ⟨b,o,none⟩) len cap l) {i:Nat} (hi':i<l.length):w.cell? ⟨b,o+i,none⟩=some (.int .u8 ((l[i]).toNat:Int)):=
 (h.sla.get (DT hi')).2.2.2
def byt (l:List UInt8) (i:Nat):Nat:=(l.getD i 0).toNat
theorem kc (l:List UInt8) (i:Nat):byt l i<256:=(l.getD i 0).toNat_lt
theorem GN {l:List UInt8} {i:Nat} (h:i<l.length):byt l i=(l[i]).toNat:=by simp [byt,List.getD,h]
theorem Bs.part {lo hi:Nat} {w:World} {a:Option Addr} {len cap:Nat} {l:List UInt8} (h:Bs lo hi w a len cap l) {a':Option Addr} {x r m:Nat} (hr:r≤len) (h1:x≤r) (hS:eN lo hi w a' (r-x) (m-x) (((bE l).drop (x*1)).take ((r-x)*1))):Bs lo hi w a' (r-x) (m-x) ((l.drop x).take (r-x)):=by
 refine ⟨?_,by have:=h.len_eq;simp;omega⟩
 rw [AF,AY] at hS
 simpa using hS
theorem Ext.own {b:Nat} {u w w':World} (h:Ext u w) (g:Chg (· =b) w w') (hb:u.heap.size≤b):Ext u w':=
 Chg.then h g (fun k hk hs=>by have:k=b:=hs;omega)
theorem kS {P:Program} {w:World} {T b o:Nat} {vs:List Value} (hc:At w b o vs) (hsz:(P.info? T).map (·.size)=some vs.length:=by kernel_rfl) (hT:(P.underlying T).map jb=some true:=by kernel_rfl):
  (loadVar T ⟨b,o,none⟩).run P w= .ok (.agg vs.toArray) w:=by
 simpa [Instr.loadAt,Instr.sureAddr] using kg hc hsz hT
section
variable {P:Program} {n k:Nat} {σ:List (Nat×Value)} {w:World} {ops:Array Oper} {K:List (Nat×Value)→World→Prop} {d:Option Tmp}
end
end Go.Cs
namespace Go.Cs
open Go Go.RowKit
section
variable {ro:Option Nat} {P:Program} {ops:Array Oper} {Q:Exit→Act→World→Prop} {md:Region.Mode} {C:World→Prop}
def lH (ops:Array Oper):Bool:=ops.all fun o=>match o.op with | .defer _=>false | _=>true
theorem jg (h:lH ops=true) {j:Nat} {o:Oper} (hj:ops[j]? =some o) (c:Call):o.op≠ .defer c:=by
 intro e
 obtain ⟨hlt,rfl⟩:=Array.getElem?_eq_some_iff.1 hj
 have:=Array.all_eq_true.1 h j hlt
 simp [e] at this
def Ej (md:Region.Mode) (ops:Array Oper) (j:Nat):Bool:=
 match ops[j]? with
 | none=>false
 | some o=>(List.range ops.size).all fun k=>k==j || o.after.any fun e=>Region.binds md e&&e.on==k
def lT (ro:Option Nat) (P:Program) (md:Region.Mode) (ops:Array Oper) (Q:Exit→Act→World→Prop) (C:World→Prop):Nat→Array Bool→Act→World→Prop
 | 0,listed,a,w=>Region.ready md ops listed= []∧Q .normal a w
 | fuel+1,listed,a,w=>
  (Region.ready md ops listed= []→Q .normal a w)∧
  ∀i∈Region.ready md ops listed,wpOpIn (fen ro) 0 P ops Q i (fun a' w'=>(Ej md ops i=true∨C w')∧lT ro P md ops Q C fuel (listed.setIfInBounds i true) a' w') a w
theorem kG {C':World→Prop} (hC:∀w,C w→C' w):∀(fuel:Nat) (listed:Array Bool) (a:Act) (w:World),lT ro P md ops Q C fuel listed a w→lT ro P md ops Q C' fuel listed a w
 | 0,_,_,_,h=>h
 | fuel+1,_,_,_,h=>⟨h.1,fun i hi=>wpOpIn_mono (fun a' w' h'=>⟨h'.1.imp id (hC _),kG hC fuel _ a' w' h'.2⟩) (h.2 i hi)⟩
def mJ (P:Program) (w:World) (v:Value):Result Next→Prop
 | .ok (.value u) w'=>w'=w∧u=v
 | .ok .skip w'=>w'=w∧v=undef
 | .ok (.enter f args) w'=>w'=w∧Calls P f args w (Ret fun u w''=>u=v∧w=w'')
 | _=>False
def YC (P:Program) (ops:Array Oper) (C:World→Prop) (o:Oper) (v:Value) (a:Act):Prop:=
 (Region.wanted o (yielded ops a.tmps)=true∧∀w,C w→mJ P w v ((execOp a.eval o).run P w))∨
 (Region.wanted o (yielded ops a.tmps)=false∧v=undef)
theorem YC.wpOp {i:Nat} {o:Oper} {v:Value} {a:Act} (hd:∀c,o.op≠ .defer c) (hi:ops[i]? =some o) (hy:YC P ops C o v a)
  {K:Act→World→Prop} {w:World} (hw:C w) (h:K (a.put o.dst v) w):wpOpIn (fen ro) 0 P ops Q i K a w:=by
 unfold Go.wpOpIn
 simp only [hi]
 rcases hy with ⟨hwn,hv⟩|⟨hwn,rfl⟩
 ·simp only [hwn,if_true]
  have h2:=hv w hw
  unfold Oper.wpIn
  refine ⟨fun _ _=>trivial, ?_⟩
  rw [Oper.semAt_eq _ _ _ hd]
  cases hr:(execOp a.eval o).run P w with
  | halt _ _=>simp only [hr,mJ] at h2
  | ok nx w'=>
   cases nx with
   | value u=>simp only [hr,mJ] at h2;obtain ⟨rfl,rfl⟩:=h2;exact h
   | skip=>simp only [hr,mJ] at h2;obtain ⟨rfl,rfl⟩:=h2;exact h
   | enter f args=>
    simp only [hr,mJ] at h2
    obtain ⟨rfl,h3⟩:=h2
    rw [Oper.uponIn_enter]
    refine ⟨fun h=>(by cases h),CallsIn.mono (show CallsIn (fen ro) (0-1) P f args w' _ from callsIn_wide (n:=0-1).2 h3) ?_⟩
    rintro e w'' ⟨u,rfl,rfl,rfl⟩
    exact h
   | _=>simp only [hr,mJ] at h2
 ·simp only [hwn,Bool.false_eq_true,if_false];exact ⟨fun _ _=>trivial,h⟩
theorem YC.of_same {o:Oper} {v:Value} {a a':Act} (hy:YC P ops C o v a) (he:execOp a'.eval o=execOp a.eval o)
  (hw:Region.wanted o (yielded ops a'.tmps)=Region.wanted o (yielded ops a.tmps)):YC P ops C o v a':=by
 unfold YC at*
 rw [he,hw]
 exact hy
theorem xO {j:Nat} {oi oj:Oper} {v:Value} (hj:ops[j]? =some oj) (hap:oi.apart ops oj=true)
  (hsi:∀cs b,oi.op≠ .select cs b) (hsj:∀cs b,oj.op≠ .select cs b) (hdj:∀c,oj.op≠ .defer c)
  (hQ:∀c a w,¬Q (.panic c) a w) {K:Act→World→Prop} {a:Act} {w:World}
  (hy:YC P ops C oi v a) (h:wpOpIn (fen ro) 0 P ops Q j K (a.put oi.dst v) w):
  wpOpIn (fen ro) 0 P ops Q j (fun a' w'=>YC P ops C oi v a'∧K (a'.put oi.dst v) w') a w:=by
 obtain ⟨h1,h2,h3⟩:=Oper.apart_spec hap
 have keep:∀(a:Act),YC P ops C oi v a→∀u,YC P ops C oi v (a.put oj.dst u):=fun a hy u=>
  hy.of_same (execOp_put oi hsi a oj.dst u h3) (wanted_put oi a oj.dst u h3)
 have keepD:∀d,YC P ops C oi v {a with defers:=d::a.defers}:=fun d=>hy.of_same rfl rfl
 unfold wpOpIn at*
 simp only [hj] at*
 rw [wanted_put oj a oi.dst v h1] at h
 split
 ·rename_i hw
  simp only [hw,if_true] at h
  unfold Oper.wpIn at*
  refine ⟨fun _ _=>trivial, ?_⟩
  have h:=h.2
  rw [Oper.semAt_eq _ _ _ hdj] at h⊢
  rw [execOp_put oj hsj a oi.dst v h1] at h
  generalize (execOp a.eval oj).run P w=r at*
  cases r with
  | ok n w'=>
   cases n<;>simp only [Oper.uponIn] at h⊢
   case value u=>exact ⟨keep a hy u,by rw [←Act.put_comm a v u h2];exact h⟩
   case skip=>exact ⟨keep a hy _,by rw [←Act.put_comm a v undef h2];exact h⟩
   case defer d=>
    refine ⟨keep _ (keepD d) _, ?_⟩
    rw [←Act.put_comm _ v undef h2,←Act.put_defers]
    exact h
   case enter f args=>
    refine ⟨h.1,CallsIn.mono h.2 fun e w'' he=> ?_⟩
    cases e with
    | returned u=>exact ⟨keep a hy u,by rw [←Act.put_comm a v u h2];exact he⟩
    | panicked c=>exact (hQ _ _ _ he).elim
    | outgrown=>exact he
   case row row args=>exact ⟨h.1,RowsIn.mono h.2 fun u w'' he=>⟨keep a hy u,by rw [←Act.put_comm a v u h2];exact he⟩⟩
   case round l f tmps assign body=>
    refine ⟨h.1,RoundIn.mono h.2 fun e w'' he=> ?_⟩
    cases e with
    | returned u=>exact ⟨keep a hy u,by rw [←Act.put_comm a v u h2];exact he⟩
    | panicked c=>exact (hQ _ _ _ he).elim
    | outgrown=>exact he
  | halt x w'=>
   cases x<;>simp only [Oper.uponIn] at h⊢
   case panic u=>exact (hQ _ _ _ h).elim
 ·rename_i hw
  simp only [hw] at h
  exact ⟨fun _ _=>trivial,keep a hy _,by rw [←Act.put_comm a v undef h2];exact h.2⟩
end
def AK {ro:Option Nat} {ds:List Deferred} (P:Program) (ops:Array Oper) (Q:Exit→Act→World→Prop) (C:World→Prop) (n fuel:Nat) (listed:Array Bool) (σ:List (Nat×Value)) (w:World):Prop:=
 lT ro P .any ops Q C fuel listed (Fr ds n σ) w
section
variable {ro:Option Nat} {ds:List Deferred} {P:Program} {ops:Array Oper} {Q:Exit→Act→World→Prop} {C:World→Prop} {n fuel:Nat} {listed:Array Bool} {σ:List (Nat×Value)} {w:World}
theorem Hf {C':World→Prop} (hC:∀w',C' w'→C w') (h:AK (ro:=ro) (ds:=ds) P ops Q C' n fuel listed σ w):AK (ro:=ro) (ds:=ds) P ops Q C n fuel listed σ w:=
 kG hC _ _ _ _ h
def yld (P:Program) (ops:Array Oper) (C:World→Prop) (n:Nat) (σ:List (Nat×Value)) (i:Nat) (d:Option Tmp) (v:Value):Prop:=
 ∃o,ops[i]? =some o∧o.dst=d∧((wnt ops n σ o=true∧∀w',C w'→mJ P w' v ((execOp (ev n σ) o).run P w'))∨(wnt ops n σ o=false∧v=undef))
theorem JC {i:Nat} {d:Option Tmp} {v:Value} {f:FuncId} {args:Array Value} (hc:∀w',C w'→Calls P f args w' (Ret fun u w''=>u=v∧w'=w'')) (hne:∃w',C w':=by first | exact ⟨_,Ext.refl _⟩| exact ⟨_,Chg.refl _ _⟩) (he:∀w',tW P ops n σ i w'=some (d,f,args,w'):=by intro _;kernel_rfl):yld P ops C n σ i d v:=by
 obtain ⟨w0,_⟩:=hne
 have h0:=he w0
 unfold tW at h0
 cases hx:jH ops n σ i with
 | none=>simp [hx] at h0
 | some p=>
  obtain ⟨d',s⟩:=p
  obtain ⟨o,ho,hw,hd,h2⟩:=gk hx
  have hdd:d'=d:=by
   simp only [hx] at h0
   cases hr:s.run P w0 with
   | halt _ _=>simp [hr] at h0
   | ok nx w1=>cases nx<;>simp_all
  refine ⟨o,ho,hd.trans hdd, .inl ⟨hw,fun w' hC=> ?_⟩⟩
  have h1:=he w'
  unfold tW at h1
  simp only [hx] at h1
  rw [h2]
  cases hr:s.run P w' with
  | halt _ _=>simp [hr] at h1
  | ok nx w1=>
   cases nx with
   | enter g as=>
    simp only [hr,Option.some.injEq,Prod.mk.injEq] at h1
    obtain ⟨_,rfl,rfl,rfl⟩:=h1
    exact ⟨rfl,hc _ hC⟩
   | _=>simp [hr] at h1
def pf (ops:Array Oper) (listed:Array Bool) (i:Nat):Bool:=
 lH ops&&Region.noSelect ops&&Region.free .any ops listed i&&(Region.ready .any ops listed).contains i&&(match ops[i]? with | some o=>o.dst.isSome | none=>false)
theorem jp {i:Nat} {K:List (Nat×Value)→World→Prop} (h:gw P ops n i σ w K):wpOpIn (fen ro) 0 P ops Q i (fun a w'=>∃τ,a=Fr ds n τ∧K τ w') (Fr ds n σ) w:=by
 obtain ⟨o,ho,⟨hw,h⟩|⟨hw,h⟩⟩:=h
 ·unfold wpOpIn
  simp only [ho,df,hw,if_true]
  unfold Oper.wpIn
  refine ⟨fun _ _=>trivial, ?_⟩
  rw [dS]
  cases hr:(execOp (ev n σ) o).run P w with
  | halt x w'=>simp only [hr] at h
  | ok nx w'=>
   cases nx with
   | value v=>simp only [hr] at h;rw [bQ (P:=P) (w:=w) (by rw [hr];rfl),hr];exact ⟨_,eB ..,h⟩
   | skip=>simp only [hr] at h;rw [bQ (P:=P) (w:=w) (by rw [hr];rfl),hr];exact ⟨_,eB ..,h⟩
   | enter f args=>
    simp only [hr] at h
    rw [bQ (P:=P) (w:=w) (by rw [hr];rfl),hr,Oper.uponIn_enter]
    refine ⟨fun h=>(by cases h),CallsIn.mono (show CallsIn (fen ro) (0-1) P f args w' _ from callsIn_wide (n:=0-1).2 h) ?_⟩
    rintro e w'' ⟨v,rfl,hv⟩
    exact ⟨_,eB ..,hv⟩
   | round l f tmps assign body=>
    simp only [hr] at h
    rw [bQ (P:=P) (w:=w) (by rw [hr];rfl),hr,Oper.uponIn_round]
    refine ⟨fun h=>(by cases h),RoundIn.mono (show RoundIn (fen ro) (0-1) P l f tmps assign body w' _ from h) ?_⟩
    rintro e w'' ⟨v,rfl,hv⟩
    exact ⟨_,eB ..,hv⟩
   | _=>simp only [hr] at h
 ·unfold wpOpIn
  simp only [ho,df,hw,Bool.false_eq_true,if_false]
  exact ⟨fun _ _=>trivial,_,eB ..,h⟩
theorem LO (rs:List Nat) (hr:Region.ready .any ops listed=rs) (hne:rs≠ []) (h:∀i∈rs,gw P ops n i σ w (fun τ w'=>(Ej .any ops i=true∨C w')∧AK (ro:=ro) (ds:=ds) P ops Q C n fuel (listed.setIfInBounds i true) τ w')):AK (ro:=ro) (ds:=ds) P ops Q C n (fuel+1) listed σ w:=by
 unfold AK lT
 refine ⟨fun h0=>absurd (hr▸h0) hne,fun j hj=> ?_⟩
 rw [hr] at hj
 refine wpOpIn_mono ?_ (jp (h j hj))
 rintro a w' ⟨τ,rfl,h1,h2⟩
 exact ⟨h1,h2⟩
end
def mX:List Nat→Nat
 | []=>0
 | t::l=>2^t ||| mX l
theorem iO (l:List Nat) (t:Nat):(mX l).testBit t=decide (t∈l):=by
 induction l with
 | nil=>simp [mX]
 | cons a l ih=>
  rw [mX,Nat.testBit_or,ih,Nat.testBit_two_pow]
  by_cases h:a=t
  ·subst h;simp
  ·have h2:¬t=a:=fun e=>h e.symm
   simp [h,h2]
def BI (ops:Array Oper) (o:Oper):Nat×Nat×Nat:=
 (match o.dst with | none=>0 | some d=>d+1,mX (o.looksAt ops),mX ((o.after.toList.filter fun e=>Region.binds .any e).map (·.on)))
def bw (ops:Array Oper):List (Nat×Nat×Nat):=ops.toList.map (BI ops)
def lm (n m:Nat):Array Bool:=((List.range n).map fun i=>m.testBit i).toArray
theorem o7 (n m i:Nat) (d:Bool):(lm n m).getD i d=if i<n then m.testBit i else d:=by
 by_cases h:i<n<;>simp [lm,h]
theorem BN (n m i:Nat):(lm n m).setIfInBounds i true=lm n (m ||| 2^i):=by
 apply Array.ext
 ·simp [lm]
 ·intro j h1 h2
  simp only [lm,Array.size_setIfInBounds,List.size_toArray,List.length_map,List.length_range] at h1
  rw [Array.getElem_setIfInBounds (by simpa [lm] using h1)]
  by_cases hij:i=j
  ·subst hij;simp [lm,Nat.testBit_or]
  ·simp [lm,hij,Nat.testBit_or]
theorem CO (n:Nat):lm n 0=Array.replicate n false:=by
 apply Array.ext
 ·simp [lm]
 ·intro i h1 h2;simp [lm]
def gu (T:List (Nat×Nat×Nat)) (m i:Nat):Bool:=
 match T[i]? with
 | none=>false
 | some (d,r,a)=>(d !=0)&& !m.testBit i&&(a&&&m==a)&&Nat.blt a (2^T.length)&&rest d r 0 T
where
 rest (d r:Nat):Nat→List (Nat×Nat×Nat)→Bool
  | _, []=>true
  | j,(d',r',a')::l=>(Nat.beq j i || m.testBit j || a'.testBit i ||(!r'.testBit (d-1)&& !Nat.beq d' d&&(Nat.beq d' 0 || !r.testBit (d'-1))))&&rest d r (j+1) l
theorem yD {T:List (Nat×Nat×Nat)} {m i d r:Nat}:∀(l:List (Nat×Nat×Nat)) (j:Nat),gu.rest m i d r j l=true→∀(k:Nat) (d' r' a':Nat),l[k]? =some (d',r',a')→
  (j+k=i∨m.testBit (j+k)=true∨a'.testBit i=true∨(r'.testBit (d-1)=false∧d'≠d∧(d'=0∨r.testBit (d'-1)=false))):=by
 intro l
 induction l with
 | nil=>intro j _ k d' r' a' h;simp at h
 | cons x l ih=>
  intro j h k d' r' a' hk
  obtain ⟨d1,r1,a1⟩:=x
  simp only [gu.rest,Bool.and_eq_true,Bool.or_eq_true,Bool.not_eq_true'] at h
  cases k with
  | zero=>
   simp only [List.getElem?_cons_zero,Option.some.injEq,Prod.mk.injEq] at hk
   obtain ⟨rfl,rfl,rfl⟩:=hk
   rcases h.1 with ((h1 | h1)| h1)|⟨⟨h1,h2⟩,h3⟩
   ·exact .inl (by rw [Nat.add_zero];exact Nat.eq_of_beq_eq_true h1)
   ·exact .inr (.inl (by rw [Nat.add_zero];exact h1))
   ·exact .inr (.inr (.inl h1))
   ·refine .inr (.inr (.inr ⟨h1, ?_,h3.imp Nat.eq_of_beq_eq_true id⟩))
    intro e;subst e;simp at h2
  | succ k=>
   have:=ih (j+1) h.2 k d' r' a' (by simpa using hk)
   rw [show j+(k+1)=j+1+k by omega]
   exact this
theorem pQ {ops:Array Oper} {T:List (Nat×Nat×Nat)} {n m i:Nat} (hT:bw ops=T) (hn:ops.size=n) (hdef:lH ops=true) (hs:Region.noSelect ops=true) (h:gu T m i=true):pf ops (lm n m) i=true:=by
 subst hT
 unfold gu at h
 have hrow:∀k:Nat,(bw ops)[k]? =(ops[k]?).map (BI ops):=by intro k;simp [bw]
 rw [hrow] at h
 cases ho:ops[i]? with
 | none=>simp [ho] at h
 | some o=>
  have hi:i<n:=by rw [←hn];exact (Array.getElem?_eq_some_iff.1 ho).1
  simp only [ho,Option.map_some] at h
  unfold BI at h
  simp only [Bool.and_eq_true,bne_iff_ne,ne_eq,Bool.not_eq_true',beq_iff_eq] at h
  obtain ⟨⟨⟨⟨h1,h2⟩,h3⟩,h8⟩,h4⟩:=h
  have h4':=yD (T:=bw ops) _ 0 h4
  cases hd:o.dst with
  | none=>simp [hd] at h1
  | some d=>
   simp only [hd,Nat.add_sub_cancel] at h4'
   unfold pf
   simp only [Bool.and_eq_true,ho,hd]
   refine ⟨⟨⟨⟨hdef,hs⟩, ?_⟩, ?_⟩,rfl⟩
   ·
    unfold Region.free
    simp only [ho,List.all_eq_true,List.mem_range]
    intro j hj
    cases hoj:ops[j]? with
    | none=>simp
    | some oj=>
     have hj':j<n:=by rw [←hn];exact hj
     have h5:=h4' j _ _ _ (by rw [hrow,hoj];rfl)
     rw [Nat.zero_add] at h5
     simp only [Bool.or_eq_true,beq_iff_eq,o7,hj',if_true]
     rcases h5 with h5 | h5 | h5 |⟨h5,h6,h7⟩
     ·exact .inl (.inl h5)
     ·exact .inl (.inr h5)
     ·refine .inr (.inl ?_)
      rw [iO] at h5
      simp only [List.mem_map,List.mem_filter,decide_eq_true_eq] at h5
      obtain ⟨e,⟨he,hb⟩,heq⟩:=h5
      rw [Array.any_eq_true']
      exact ⟨e,by simpa using he,by simp [hb,heq]⟩
     ·refine .inr (.inr ?_)
      unfold Oper.apart
      rw [iO] at h5
      simp only [decide_eq_false_iff_not] at h5
      simp only [hd,Bool.and_eq_true,Bool.not_eq_true',bne_iff_ne,ne_eq]
      refine ⟨⟨by simpa using h5, ?_⟩, ?_⟩
      ·intro e;rw [e] at h6;exact h6 rfl
      ·cases hdj:oj.dst with
       | none=>rfl
       | some dj=>
        simp only [hdj] at h7
        rcases h7 with h7 | h7
        ·cases h7
        ·rw [Nat.add_sub_cancel,iO] at h7
         simpa using h7
   ·rw [List.contains_iff_mem,mem_ready]
    refine ⟨by rw [o7,if_pos hi];exact h2,o,ho,fun e he hb=> ?_⟩
    have hbit:(mX ((o.after.toList.filter fun e=>Region.binds .any e).map (·.on))).testBit e.on=true:=by
     rw [iO]
     simp only [List.mem_map,List.mem_filter,decide_eq_true_eq]
     exact ⟨e,⟨by simpa using he,hb⟩,rfl⟩
    have hm:m.testBit e.on=true:=by
     rw [←h3] at hbit
     rw [Nat.testBit_and] at hbit
     simp only [Bool.and_eq_true] at hbit
     exact hbit.2
    rw [o7]
    split
    ·exact hm
    ·rename_i hge
     have hlen:(bw ops).length=n:=by simp [bw,hn]
     rw [Nat.blt_eq,hlen] at h8
     rw [Nat.testBit_lt_two_pow (Nat.lt_of_lt_of_le h8 (Nat.pow_le_pow_right (by decide) (by omega)))] at hbit
     cases hbit
structure RT (ops:Array Oper) (T:List (Nat×Nat×Nat)) (N:Nat):Prop where
 rows:bw ops=T
 size:ops.size=N
 nosel:Region.noSelect ops=true
 nodef:lH ops=true
def CT (ops:Array Oper) (T:List (Nat×Nat×Nat)) (N:Nat):Bool:=(bw ops==T)&&Nat.beq ops.size N&&Region.noSelect ops&&lH ops
theorem E8 {ops:Array Oper} {T:List (Nat×Nat×Nat)} {N:Nat} (h:CT ops T N=true):RT ops T N:=by
 simp only [CT,Bool.and_eq_true,beq_iff_eq] at h
 exact ⟨h.1.1.1,Nat.eq_of_beq_eq_true h.1.1.2,h.1.2,h.2⟩
section
variable {ro:Option Nat} {ds:List Deferred} {P:Program} {ops:Array Oper} {Q:Exit→Act→World→Prop} {C:World→Prop} {n N fuel m:Nat} {σ:List (Nat×Value)} {w:World} {T:List (Nat×Nat×Nat)}
end
end Go.Cs
namespace Go.Cs
open Go Go.RowKit
def L2 (c:UInt8):Value:= .int .u8 (c.toNat:Int)
def gt (l:List Nat) (i:Nat):Nat:=l.getD i 0
def gz (l:List Int) (i:Nat):Int:=l.getD i 0
structure Es {α:Type} (f:α→Value) (lo hi:Nat) (w:World) (a:Option Addr) (len cap:Nat) (l:List α):Prop where
 sla:eN lo hi w a len cap (l.map f)
 len_eq:len=l.length
section
variable {α:Type} {f:α→Value} {lo hi:Nat} {w w':World} {a:Option Addr} {len cap:Nat} {l:List α}
theorem Es.ext (h:Es f lo hi w a len cap l) (hc:Ext w w'):Es f lo hi w' a len cap l:=⟨h.sla.ext hc,h.len_eq⟩
theorem Es.chg {S:Nat→Prop} (h:Es f lo hi w a len cap l) (hc:Chg S w w') (hs:∀k,lo≤k→k<hi→¬S k:=by intro k h1 h2 hs;first |(have h:k=_:=hs;omega)|(rcases hs with hs | hs<;>omega)):Es f lo hi w' a len cap l:=⟨h.sla.chg hc hs,h.len_eq⟩
theorem Es.mono {lo' hi':Nat} (h:Es f lo hi w a len cap l) (h1:lo'≤lo) (h2:hi≤hi'):Es f lo' hi' w a len cap l:=⟨h.sla.mono h1 h2,h.len_eq⟩
theorem Es.nil (f:α→Value) (lo hi:Nat) (w:World):Es f lo hi w none 0 0 []:=⟨eN.nil lo hi w,rfl⟩
theorem Es.le (h:Es f lo hi w a len cap l):len≤cap∧cap≤9223372036854775807:=by
 have:=h.sla.le;simpa [maxLen] using this
theorem Es.addr (h:Es f lo hi w a len cap l) (hp:0<len):∃b o,a=some ⟨b,o,none⟩:=
 h.sla.addr (by have:=h.len_eq;simp;omega)
theorem Es.cell {b o:Nat} (h:Es f lo hi w (some ⟨b,o,none⟩) len cap l) {i:Nat} {x:α} (hx:l[i]? =some x):w.cell? ⟨b,o+i*1,none⟩=some (f x):=by
 rw [Nat.mul_one]
 exact (h.sla.get (i:=i) (v:=f x) (by simp [hx])).2.2.2
theorem Bs.es {l:List UInt8} (h:Bs lo hi w a len cap l):Es L2 lo hi w a len cap l:=⟨h.sla,h.len_eq⟩
theorem Es.bs {l:List UInt8} (h:Es L2 lo hi w a len cap l):Bs lo hi w a len cap l:=⟨h.sla,h.len_eq⟩
theorem Es.slice (h:Es f lo hi w a len cap l) (P:Program) (T E x r m:Nat) (xl xh mx:Option Value) (hl:bnd xl 0 x:=by first | exact .inl ⟨rfl,rfl⟩| exact .inr ⟨_,rfl⟩) (hh:bnd xh len r:=by first | exact .inl ⟨rfl,rfl⟩| exact .inr ⟨_,rfl⟩) (hm:bnd mx cap m:=by first | exact .inl ⟨rfl,rfl⟩| exact .inr ⟨_,rfl⟩) (hmh:mx=none∨xh≠none:=by simp) (h1:x≤r:=by omega) (h2:r≤m:=by omega) (h3:m≤cap:=by omega) (h4:r≤len:=by omega) (hT:P.underlying T=some (.slice E):=by kernel_rfl) (hsz:(P.info? E).map (·.size)=some 1:=by kernel_rfl):
  ∃a',(∀w',(Instr.sliceAt T (.slice a len cap) xl xh mx).run P w'= .ok (.slice a' (r-x) (m-x)) w')∧Es f lo hi w a' (r-x) (m-x) ((l.drop x).take (r-x)):=by
 refine ⟨_,fun w'=>kf hT hsz hl hh hm hmh h1 h2 h3, ?_,by have:=h.len_eq;simp;omega⟩
 have:=h.sla.part 1 x r m h1 h2 h3 (by have:=h.len_eq;simp;omega) h4
 simpa [List.map_drop,List.map_take] using this
theorem Bs.slice {l:List UInt8} (h:Bs lo hi w a len cap l) (P:Program) (T E x r m:Nat) (xl xh mx:Option Value) (hl:bnd xl 0 x:=by first | exact .inl ⟨rfl,rfl⟩| exact .inr ⟨_,rfl⟩) (hh:bnd xh len r:=by first | exact .inl ⟨rfl,rfl⟩| exact .inr ⟨_,rfl⟩) (hm:bnd mx cap m:=by first | exact .inl ⟨rfl,rfl⟩| exact .inr ⟨_,rfl⟩) (hmh:mx=none∨xh≠none:=by simp) (h1:x≤r:=by omega) (h2:r≤m:=by omega) (h3:m≤cap:=by omega) (h4:r≤len:=by omega) (hT:P.underlying T=some (.slice E):=by kernel_rfl) (hsz:(P.info? E).map (·.size)=some 1:=by kernel_rfl):
  ∃a',(∀w',(Instr.sliceAt T (.slice a len cap) xl xh mx).run P w'= .ok (.slice a' (r-x) (m-x)) w')∧Bs lo hi w a' (r-x) (m-x) ((l.drop x).take (r-x)):=by
 obtain ⟨a',h5,h6⟩:=h.es.slice P T E x r m xl xh mx hl hh hm hmh h1 h2 h3 h4 hT hsz
 exact ⟨a',h5,h6.bs⟩
end
structure Ms {α:Type} (f:α→List Value) (sz lo hi:Nat) (w:World) (a:Option Addr) (len cap:Nat) (l:List α):Prop where
 sla:eN lo hi w a len cap (l.flatMap f)
 len_eq:len=l.length
 each:∀x,(f x).length=sz
theorem cC {α:Type} {f:α→List Value} {sz:Nat} (hf:∀x,(f x).length=sz):∀(l:List α),(l.flatMap f).length=l.length*sz
 | []=>by simp
 | x::l=>by simp only [List.flatMap_cons,List.length_append,List.length_cons,hf,cC hf l];rw [Nat.add_mul,Nat.one_mul,Nat.add_comm]
theorem eG {α:Type} {f:α→List Value} {sz:Nat} (hf:∀x,(f x).length=sz):∀(l:List α) (i:Nat),(l.flatMap f).drop (i*sz)=(l.drop i).flatMap f
 | l,0=>by simp
 | [],i+1=>by simp
 | x::l,i+1=>by
  rw [List.flatMap_cons,List.drop_succ_cons,←eG hf l i,Nat.add_mul,Nat.one_mul,Nat.add_comm (i*sz),←List.drop_drop,List.drop_left' (hf x)]
theorem eH {α:Type} {f:α→List Value} {sz:Nat} (hf:∀x,(f x).length=sz):∀(l:List α) (i:Nat),(l.flatMap f).take (i*sz)=(l.take i).flatMap f
 | l,0=>by simp
 | [],i+1=>by simp
 | x::l,i+1=>by
  rw [List.flatMap_cons,List.take_succ_cons,List.flatMap_cons,←eH hf l i,Nat.add_mul,Nat.one_mul,Nat.add_comm (i*sz),List.take_append,hf x]
  rw [List.take_of_length_le (by rw [hf x];omega),Nat.add_sub_cancel_left]
section
variable {α:Type} {f:α→List Value} {sz lo hi:Nat} {w w':World} {a:Option Addr} {len cap:Nat} {l:List α}
theorem Ms.ext (h:Ms f sz lo hi w a len cap l) (hc:Ext w w'):Ms f sz lo hi w' a len cap l:=⟨h.sla.ext hc,h.len_eq,h.each⟩
theorem Ms.chg {S:Nat→Prop} (h:Ms f sz lo hi w a len cap l) (hc:Chg S w w') (hs:∀k,lo≤k→k<hi→¬S k:=by intro k h1 h2 hs;first |(have h:k=_:=hs;omega)|(rcases hs with hs | hs<;>omega)):Ms f sz lo hi w' a len cap l:=⟨h.sla.chg hc hs,h.len_eq,h.each⟩
theorem Ms.mono {lo' hi':Nat} (h:Ms f sz lo hi w a len cap l) (h1:lo'≤lo) (h2:hi≤hi'):Ms f sz lo' hi' w a len cap l:=⟨h.sla.mono h1 h2,h.len_eq,h.each⟩
theorem Ms.nil (f:α→List Value) (lo hi:Nat) (w:World) (hf:∀x,(f x).length=sz):Ms f sz lo hi w none 0 0 []:=⟨eN.nil lo hi w,rfl,hf⟩
theorem Ms.now (h:Ms f sz lo hi w a len cap l):Ms f sz lo w.heap.size w a len cap l:=⟨h.sla.now,h.len_eq,h.each⟩
theorem Ms.le (h:Ms f sz lo hi w a len cap l):len≤cap∧cap≤9223372036854775807:=by
 have:=h.sla.le;simpa [maxLen] using this
theorem Ms.addr (h:Ms f sz lo hi w a len cap l) (hp:0<len) (hz:0<sz):∃b o,a=some ⟨b,o,none⟩:=
 h.sla.addr (by rw [cC h.each];have:=h.len_eq;exact Nat.mul_pos (by omega) hz)
theorem Ms.at {b o:Nat} (h:Ms f sz lo hi w (some ⟨b,o,none⟩) len cap l) (d:α) {i:Nat} (hi:i<len):At w b (o+i*sz) (f (l.getD i d)):=by
 refine (h.sla.at).sub (i*sz) _ ?_
 have h1:i<l.length:=by have:=h.len_eq;omega
 rw [eG h.each,List.drop_eq_getElem_cons h1,List.flatMap_cons]
 simp [List.getD,h1]
theorem Ms.cell {b o:Nat} (h:Ms f sz lo hi w (some ⟨b,o,none⟩) len cap l) (d:α) {i j:Nat} {v:Value} (hi:i<len) (hv:(f (l.getD i d))[j]? =some v):w.cell? ⟨b,o+i*sz+j,none⟩=some v:=h.at d hi j v hv
end
theorem Ms.slice {α:Type} {f:α→List Value} {sz lo hi:Nat} {w:World} {a:Option Addr} {len cap:Nat} {l:List α} (h:Ms f sz lo hi w a len cap l) (P:Program) (T E x r m:Nat) (xl xh mx:Option Value) (hl:bnd xl 0 x:=by first | exact .inl ⟨rfl,rfl⟩| exact .inr ⟨_,rfl⟩) (hh:bnd xh len r:=by first | exact .inl ⟨rfl,rfl⟩| exact .inr ⟨_,rfl⟩) (hm:bnd mx cap m:=by first | exact .inl ⟨rfl,rfl⟩| exact .inr ⟨_,rfl⟩) (hmh:mx=none∨xh≠none:=by simp) (h1:x≤r:=by omega) (h2:r≤m:=by omega) (h3:m≤cap:=by omega) (h4:r≤len:=by omega) (hT:P.underlying T=some (.slice E):=by kernel_rfl) (hsz:(P.info? E).map (·.size)=some sz:=by kernel_rfl):
  ∃a',(∀w',(Instr.sliceAt T (.slice a len cap) xl xh mx).run P w'= .ok (.slice a' (r-x) (m-x)) w')∧Ms f sz lo hi w a' (r-x) (m-x) ((l.drop x).take (r-x)):=by
 refine ⟨_,fun w'=>kf hT hsz hl hh hm hmh h1 h2 h3, ?_,by have:=h.len_eq;simp;omega,h.each⟩
 have:=h.sla.part sz x r m h1 h2 h3 (by rw [cC h.each,h.len_eq]) h4
 rw [eG h.each,eH h.each] at this
 exact this
theorem E7 (p r vs:List Value) (h:vs.length≤r.length):bX (p++r) p.length vs=p++vs++r.drop vs.length:=by
 rw [e8 _ _ _ (by simp;omega)]
 simp [List.drop_append]
def MK (p:Nat×Nat):List Value:= [.int .i64 (p.1:Int), .int .i64 (p.2:Int)]
def Lz (x:UInt8×UInt8):List Value:= [.int .u8 ((x.1.toNat:Nat):Int), .int .u8 ((x.2.toNat:Nat):Int)]
@[simp] theorem Kp (x:UInt8×UInt8):(Lz x).length=2:=rfl
def ov (a:Option Addr) (k:Nat):Prop:=∃ad,a=some ad∧ad.block=k
theorem sO {k:Nat}:¬ov none k:=by rintro ⟨ad,h,_⟩;cases h
theorem Ext.of_none {w w':World} (h:Chg (ov none) w w'):Ext w w':=h.mono fun _ _ hk=>(sO hk).elim
structure Own {α:Type} (f:α→Value) (lo hi:Nat) (w:World) (a:Option Addr) (len cap:Nat) (e:TypeId) (l:List α):Prop where
 row:w.ownsRow lo e 1 (.slice a len cap) len (l.map f)
 len_eq:len=l.length
 below:∀ad,a=some ad→ad.block<hi
section
variable {α:Type} {f:α→Value} {lo hi:Nat} {w w':World} {a:Option Addr} {len cap:Nat} {e:TypeId} {l:List α}
theorem Own.nil (f:α→Value) (lo hi:Nat) (w:World) (e:TypeId):Own f lo hi w none 0 0 e []:=⟨by simpa using World.ownsRow_nil w lo e 1,rfl,by intro ad h;cases h⟩
theorem Own.ne {k:Nat} (h:Own f lo hi w a len cap e l) (hk:ov a k):lo≤k∧k<hi:=by
 obtain ⟨ad,rfl,rfl⟩:=hk
 refine ⟨?_,h.below ad rfl⟩
 have:=h.row.lt ad.block rfl
 exact this.1
theorem Own.blk (h:Own f lo hi w a len cap e l):(a=none∧len=0∧cap=0)∨∃b cs,a=some ⟨b,0,none⟩∧Blk w b cs e∧lo≤b∧b<hi∧len≤cap∧cap≤maxLen∧cs.length=cap∧cs.take len=l.map f:=by
 rcases h.row.2 with ⟨h1,h2⟩|⟨g,c,cur,h1,h2,h3,h4,h5,h6,h7⟩
 ·cases h1;exact .inl ⟨rfl,rfl,rfl⟩
 ·cases h1
  refine .inr ⟨g,cur.toList,rfl,by simpa [Blk] using h3,h2,h.below _ rfl,h4,h5,by simpa using h6,by simpa using h7⟩
theorem Own.chg {S:Nat→Prop} (h:Own f lo hi w a len cap e l) (hc:Chg S w w') (hs:∀k,lo≤k→k<hi→¬S k:=by intro k h1 h2 hs;first |(have h:k=_:=hs;omega)|(rcases hs with hs | hs<;>omega)):Own f lo hi w' a len cap e l:=by
 refine ⟨⟨h.row.1, ?_⟩,h.len_eq,h.below⟩
 rcases h.row.2 with h1 |⟨g,c,cur,h1,h2,h3,h4⟩
 ·exact .inl h1
 ·cases h1
  have hlt:g<w.heap.size:=(Array.getElem?_eq_some_iff.1 h3).1
  exact .inr ⟨g,cap,cur,rfl,h2,by rw [hc.block g hlt (hs g h2 (h.below _ rfl))];exact h3,h4⟩
theorem Own.ext (h:Own f lo hi w a len cap e l) (hc:Ext w w'):Own f lo hi w' a len cap e l:=h.chg hc (fun _ _ _ hf=>hf)
theorem Own.mono {lo' hi':Nat} (h:Own f lo hi w a len cap e l) (h1:lo'≤lo) (h2:hi≤hi'):Own f lo' hi' w a len cap e l:=by
 refine ⟨⟨h.row.1, ?_⟩,h.len_eq,fun ad ha=>Nat.lt_of_lt_of_le (h.below ad ha) h2⟩
 rcases h.row.2 with h3 |⟨g,c,cur,h3,h4,h5⟩
 ·exact .inl h3
 ·exact .inr ⟨g,c,cur,h3,by omega,h5⟩
theorem Own.es (h:Own f lo hi w a len cap e l):Es f lo hi w a len cap l:=by
 refine ⟨?_,h.len_eq⟩
 rcases h.blk with ⟨rfl,rfl,rfl⟩|⟨b,cs,rfl,hB,h1,h2,h3,h4,h5,h6⟩
 ·have:l= []:=List.eq_nil_of_length_eq_zero h.len_eq.symm
  subst this
  exact eN.nil _ _ _
 ·refine ⟨h3,h4, .inr ⟨rfl,h1,h2,hB.lt,fun i v hv=> ?_⟩⟩
  rw [←h6,List.getElem?_take] at hv
  split at hv
  ·simpa using hB.cell hv
  ·cases hv
theorem Own.bs {l:List UInt8} (h:Own L2 lo hi w a len cap e l):Bs lo hi w a len cap l:=h.es.bs
theorem Own.now (h:Own f lo hi w a len cap e l):Own f lo w.heap.size w a len cap e l:=
 ⟨h.row,h.len_eq,by rintro ad rfl;exact (h.row.lt ad.block rfl).2⟩
end
theorem Chg.of_grown {w w':World} {a:Option Addr} {len cap:Nat} (h:w.grownBy w' (Value.ownBlock (.slice a len cap))):Chg (ov a) w w':=by
 refine ⟨h.os,h.tape,h.output,h.size,fun k hk hs=>h.block k hk ?_⟩
 intro e
 cases a with
 | none=>simp [Value.ownBlock] at e
 | some ad=>simp [Value.ownBlock] at e;exact hs ⟨ad,rfl,e.symm⟩
section
variable {P:Program} {n k:Nat} {σ:List (Nat×Value)} {w:World} {ops:Array Oper} {K:List (Nat×Value)→World→Prop} {d:Option Tmp}
end
theorem qN (cs vs:List Value) (h:vs.length=cs.length):bX cs 0 vs=vs:=by
 rw [e8 _ _ _ (by omega)]
 simp [h]
theorem MF (x y:Int):(if y<x then y else x)=min x y:=by
 split<;>omega
theorem Blk.slice {w:World} {b:Nat} {cs:List Value} {e:TypeId} {len cap:Nat} (_h:Blk w b cs e) (P:Program) (T E x r m:Nat) (xl xh mx:Option Value) (hl:bnd xl 0 x:=by first | exact .inl ⟨rfl,rfl⟩| exact .inr ⟨_,rfl⟩) (hh:bnd xh len r:=by first | exact .inl ⟨rfl,rfl⟩| exact .inr ⟨_,rfl⟩) (hm:bnd mx cap m:=by first | exact .inl ⟨rfl,rfl⟩| exact .inr ⟨_,rfl⟩) (hmh:mx=none∨xh≠none:=by simp) (h1:x≤r:=by omega) (h2:r≤m:=by omega) (h3:m≤cap:=by omega) (hT:P.underlying T=some (.slice E):=by kernel_rfl) (hsz:(P.info? E).map (·.size)=some 1:=by kernel_rfl):
  ∃a',(∀w',(Instr.sliceAt T (.slice (some ⟨b,0,none⟩) len cap) xl xh mx).run P w'= .ok (.slice a' (r-x) (m-x)) w')∧(x<r→a'=some ⟨b,x,none⟩):=by
 refine ⟨_,fun w'=>kf hT hsz hl hh hm hmh h1 h2 h3,fun hlt=> ?_⟩
 rw [if_neg (by omega)]
 simp [Addr.add_lit]
section
variable {P:Program} {n k:Nat} {σ:List (Nat×Value)} {w:World} {ops:Array Oper} {K:List (Nat×Value)→World→Prop} {d:Option Tmp}
end
theorem KM {P:Program} {w:World} {T:TypeId} {ox oy:Operand} {kk yk:IntKind} {a s:Nat} (hk:kk.signed=false) (hs:s≤kk.bits):(do eqGuard .shl T ox oy (.int kk (a:Int)) (.int yk (s:Int));binOp .shl T (.int kk (a:Int)) (.int yk (s:Int)):Sem Value).run P w= .ok (.int kk ((a*2^s%2^kk.bits:Nat):Int)) w:=by
 have h1:¬((s:Int)<0):=by omega
 have h2:min s kk.bits=s:=by omega
 simp only [eqGuard,binOp,Op.shift,h1,if_false,Int.toNat_natCast,h2,zT hk]
 simp
def Part (lo hi:Nat) (w:World) (v:Value) (l:List UInt8):Prop:=∃a n c,v= .slice a n c∧Bs lo hi w a n c l
theorem Part.of {lo hi lo' hi':Nat} {w:World} {a:Option Addr} {n c:Nat} {l:List UInt8} (h:Bs lo' hi' w a n c l) (h1:lo≤lo') (h2:hi'≤hi):Part lo hi w (.slice a n c) l:=⟨a,n,c,rfl,h.mono h1 h2⟩
theorem Part.nil (lo hi:Nat) (w:World):Part lo hi w (.slice none 0 0) []:=⟨none,0,0,rfl,Bs.nil _ _ _⟩
theorem Part.chg {S:Nat→Prop} {lo hi:Nat} {w w':World} {v:Value} {l:List UInt8} (h:Part lo hi w v l) (hc:Chg S w w') (hs:∀k,lo≤k→k<hi→¬S k):Part lo hi w' v l:=by
 obtain ⟨a,n,c,h1,h2⟩:=h
 exact ⟨a,n,c,h1,h2.chg hc hs⟩
def Parts (lo hi:Nat) (w:World):List Value→List (List UInt8)→Prop
 | [], []=>True
 | v::vs,l::ls=>Part lo hi w v l∧Parts lo hi w vs ls
 | _,_=>False
theorem Parts.nil {lo hi:Nat} {w:World}:Parts lo hi w [] []:=trivial
theorem Parts.cons {lo hi:Nat} {w:World} {v:Value} {l:List UInt8} {vs:List Value} {ls:List (List UInt8)} (h:Part lo hi w v l) (g:Parts lo hi w vs ls):Parts lo hi w (v::vs) (l::ls):=⟨h,g⟩
theorem Parts.length {lo hi:Nat} {w:World}:∀{vs:List Value} {ls:List (List UInt8)},Parts lo hi w vs ls→vs.length=ls.length
 | [], [],_=>rfl
 | _::_,_::_,h=>by simpa using Parts.length h.2
theorem Parts.chg {S:Nat→Prop} {lo hi:Nat} {w w':World} (hc:Chg S w w') (hs:∀k,lo≤k→k<hi→¬S k):∀{vs:List Value} {ls:List (List UInt8)},Parts lo hi w vs ls→Parts lo hi w' vs ls
 | [], [],_=>trivial
 | _::_,_::_,h=>⟨h.1.chg hc hs,Parts.chg hc hs h.2⟩
theorem Parts.get {lo hi:Nat} {w:World}:∀{vs:List Value} {ls:List (List UInt8)},Parts lo hi w vs ls→∀(i:Nat),i<ls.length→∃a n c,vs[i]? =some (.slice a n c)∧Bs lo hi w a n c (ls.getD i [])
 | [], [],_,i,hi=>by simp at hi
 | _::_,_::_,h,i,hi=>by
  cases i with
  | zero=>
   obtain ⟨a,n,c,rfl,h3⟩:=h.1
   exact ⟨a,n,c,rfl,by simpa using h3⟩
  | succ i=>simpa using Parts.get h.2 i (by simpa using hi)
structure Ps (lo hi:Nat) (w:World) (a:Option Addr) (len cap:Nat) (vs:List Value) (ls:List (List UInt8)):Prop where
 sla:eN lo hi w a len cap vs
 len_eq:len=ls.length
 parts:Parts lo hi w vs ls
section
variable {lo hi:Nat} {w w':World} {a:Option Addr} {len cap:Nat} {vs:List Value} {ls:List (List UInt8)}
theorem Ps.chg {S:Nat→Prop} (h:Ps lo hi w a len cap vs ls) (hc:Chg S w w') (hs:∀k,lo≤k→k<hi→¬S k:=by intro k h1 h2 hs;first |(have h:k=_:=hs;omega)|(rcases hs with hs | hs<;>omega)):Ps lo hi w' a len cap vs ls:=⟨h.sla.chg hc hs,h.len_eq,Parts.chg hc hs h.parts⟩
theorem Ps.ext (h:Ps lo hi w a len cap vs ls) (hc:Ext w w'):Ps lo hi w' a len cap vs ls:=h.chg hc (fun _ _ _ hf=>hf)
theorem Ps.le (h:Ps lo hi w a len cap vs ls):len≤cap∧cap≤9223372036854775807:=by
 have:=h.sla.le;simpa [maxLen] using this
theorem Ps.nil (lo hi:Nat) (w:World):Ps lo hi w none 0 0 [] []:=⟨eN.nil lo hi w,rfl, .nil⟩
theorem Ps.addr (h:Ps lo hi w a len cap vs ls) (hp:0<len):∃b o,a=some ⟨b,o,none⟩:=
 h.sla.addr (by have:=h.len_eq;have:=Parts.length h.parts;omega)
theorem Ps.cell {b o:Nat} (h:Ps lo hi w (some ⟨b,o,none⟩) len cap vs ls) {i:Nat} (hi':i<len):∃a' n c,w.cell? ⟨b,o+i*1,none⟩=some (.slice a' n c)∧Bs lo hi w a' n c (ls.getD i []):=by
 obtain ⟨a',n,c,h1,h2⟩:=h.parts.get i (by have:=h.len_eq;omega)
 exact ⟨a',n,c,by rw [Nat.mul_one];exact (h.sla.get h1).2.2.2,h2⟩
end
theorem Bs.now {lo hi:Nat} {w:World} {a:Option Addr} {len cap:Nat} {l:List UInt8} (h:Bs lo hi w a len cap l):Bs lo w.heap.size w a len cap l:=⟨h.sla.now,h.len_eq⟩
theorem Es.now {α:Type} {f:α→Value} {lo hi:Nat} {w:World} {a:Option Addr} {len cap:Nat} {l:List α} (h:Es f lo hi w a len cap l):Es f lo w.heap.size w a len cap l:=⟨h.sla.now,h.len_eq⟩
theorem Parts.now {lo hi:Nat} {w:World}:∀{vs:List Value} {ls:List (List UInt8)},Parts lo hi w vs ls→Parts lo w.heap.size w vs ls
 | [], [],_=>trivial
 | _::_,_::_,⟨⟨a,n,c,e,h⟩,h2⟩=>⟨⟨a,n,c,e,h.now⟩,Parts.now h2⟩
theorem Ps.now {lo hi:Nat} {w:World} {a:Option Addr} {len cap:Nat} {vs:List Value} {ls:List (List UInt8)} (h:Ps lo hi w a len cap vs ls):Ps lo w.heap.size w a len cap vs ls:=⟨h.sla.now,h.len_eq,Parts.now h.parts⟩
theorem Part.at {lo hi:Nat} {w:World} {a:Option Addr} {n c:Nat} {l:List UInt8} (h:Bs lo hi w a n c l):Part 0 w.heap.size w (.slice a n c) l:=⟨a,n,c,rfl,h.now.mono (Nat.zero_le _) (Nat.le_refl _)⟩
end Go.Cs
namespace Go.Cs
open Go Go.RowKit
structure Dig where
 l:List UInt8
 h:l.length=32
structure Non where
 sh:Nat
 ct:Nat
 hsh:sh<2^32
 hct:ct<2^64
structure Rec where
 st:Nat
 non:Non
 tag:Dig
 hst:st<256
structure Ent where
 st:Nat
 dg:Dig
 hst:st<256
structure Cel where
 root:Dig
 ep:Nat
 mark:Nat
 hep:ep<2^64
 hmk:mark<2^64
theorem Dig.ext' {a b:Dig} (h:a.l=b.l):a=b:=by cases a;cases b;cases h;rfl
theorem Non.ext' {a b:Non} (h:a.sh=b.sh) (h2:a.ct=b.ct):a=b:=by cases a;cases b;cases h;cases h2;rfl
theorem Rec.ext' {a b:Rec} (h:a.st=b.st) (h2:a.non=b.non) (h3:a.tag=b.tag):a=b:=by cases a;cases b;cases h;cases h2;cases h3;rfl
theorem Ent.ext' {a b:Ent} (h:a.st=b.st) (h3:a.dg=b.dg):a=b:=by cases a;cases b;cases h;cases h3;rfl
theorem Cel.ext' {a b:Cel} (h:a.root=b.root) (h2:a.ep=b.ep) (h3:a.mark=b.mark):a=b:=by cases a;cases b;cases h;cases h2;cases h3;rfl
def Dig.zero:Dig:=⟨List.replicate 32 0,by simp⟩
def Non.zero:Non:=⟨0,0,by decide,by decide⟩
def Rec.zero:Rec:=⟨0,Non.zero,Dig.zero,by decide⟩
def Ent.zero:Ent:=⟨0,Dig.zero,by decide⟩
def Cel.zero:Cel:=⟨Dig.zero,0,0,by decide,by decide⟩
def Dig.of (l:List UInt8):Dig:=⟨(l++List.replicate 32 0).take 32,by simp⟩
theorem Dig.of_l {l:List UInt8} (h:l.length=32):(Dig.of l).l=l:=by simp [Dig.of,List.take_append,←h]
def ay (d:Dig):List Value:=bE d.l
def br (x:Non):List Value:= [.int .u32 ((x.sh:Nat):Int), .int .u64 ((x.ct:Nat):Int)]
def bY (x:Rec):List Value:= .int .u8 ((x.st:Nat):Int):: .int .u32 ((x.non.sh:Nat):Int):: .int .u64 ((x.non.ct:Nat):Int)::ay x.tag
def c6 (x:Ent):List Value:= .int .u8 ((x.st:Nat):Int)::ay x.dg
def aL (x:Cel):List Value:=ay x.root++ [.int .u64 ((x.ep:Nat):Int), .int .u64 ((x.mark:Nat):Int)]
@[simp] theorem c5 (d:Dig):(ay d).length=32:=by simp [ay,d.h]
@[simp] theorem qu (x:Non):(br x).length=2:=rfl
@[simp] theorem hZ (x:Rec):(bY x).length=35:=by simp [bY]
@[simp] theorem jG (x:Ent):(c6 x).length=33:=by simp [c6]
@[simp] theorem rW (x:Cel):(aL x).length=34:=by simp [aL]
theorem jM (d:Dig):∀u∈ay d,u.oneCell'=true:=iD _
theorem Ar (x:Non):∀u∈br x,u.oneCell'=true:=by intro u hu;simp [br] at hu;rcases hu with rfl | rfl<;>rfl
theorem mj (x:Rec):∀u∈bY x,u.oneCell'=true:=by
 intro u hu
 simp only [bY,List.mem_cons] at hu
 rcases hu with rfl | rfl | rfl | hu
 ·rfl
 ·rfl
 ·rfl
 ·exact jM _ u hu
theorem lK (x:Ent):∀u∈c6 x,u.oneCell'=true:=by
 intro u hu
 simp only [c6,List.mem_cons] at hu
 rcases hu with rfl | hu
 ·rfl
 ·exact jM _ u hu
theorem Bm (x:Cel):∀u∈aL x,u.oneCell'=true:=by
 intro u hu
 simp only [aL,List.mem_append,List.mem_cons,List.not_mem_nil,or_false] at hu
 rcases hu with hu | rfl | rfl
 ·exact jM _ u hu
 ·rfl
 ·rfl
theorem uO (x:Rec):((bY x).drop 3).take (ay x.tag).length=ay x.tag:=List.take_of_length_le (Nat.le_refl _)
theorem zN (x:Ent):((c6 x).drop 1).take (ay x.dg).length=ay x.dg:=List.take_of_length_le (Nat.le_refl _)
theorem rA (x:Cel):((aL x).drop 0).take (ay x.root).length=ay x.root:=by simp [aL,List.take_append]
theorem Ai (x:Cel):(aL x)[32]? =some (.int .u64 ((x.ep:Nat):Int)):=by rw [aL,List.getElem?_append_right (by simp)];simp
theorem A4 (x:Cel):(aL x)[33]? =some (.int .u64 ((x.mark:Nat):Int)):=by rw [aL,List.getElem?_append_right (by simp)];simp
theorem yN (vs:List Value):∀(cs:List Value) (off k:Nat),(vs.zipIdx k).foldl (fun (cs:Array Value) (x:Value×Nat)=>match x with |(c,j)=>cs.setIfInBounds (off+j) c) cs.toArray=(bX cs (off+k) vs).toArray:=by
 induction vs with
 | nil=>intro cs off k;rfl
 | cons v vs ih=>
  intro cs off k
  rw [List.zipIdx_cons,List.foldl_cons]
  simp only [List.setIfInBounds_toArray]
  rw [ih]
  rfl
theorem eM {place:Nat→Option (Nat×Nat)} {cs vs:List Value} {i:Nat} {v:Value} {rest:List (Nat×Value)} {off size:Nat} (hp:place i=some (off,size)) (hv:v.cells=vs.toArray) (hl:vs.length=size) (ho:off+size≤cs.length):
  Instr.fill place cs.toArray ((i,v)::rest)=Instr.fill place (bX cs off vs).toArray rest:=by
 have hf:=yN vs cs off 0
 rw [Instr.fill,hp]
 simp only [hv,List.size_toArray,hl]
 rw [if_neg (by simp;omega),←Array.foldl_toList,Array.toList_zipIdx]
 rw [Nat.add_zero] at hf
 exact congrArg (fun z=>Instr.fill place z rest) hf
def lf (P:Program) (t:TypeId):Option (List (Nat×Nat)):=
 match P.underlying t with
 | some (.struct fs)=>fs.toList.mapM (fun f=>(P.info? f.type).map fun i=>(f.offset,i.size))
 | _=>none
section
variable {P:Program} {n k:Nat} {σ:List (Nat×Value)} {w w':World} {ops:Array Oper} {K:List (Nat×Value)→World→Prop} {d:Option Tmp}
theorem mp {T:TypeId} {parts:Array (Nat×Value)} {pl:List (Nat×Nat)} {z:Value} {cs vs:List Value} (hp:lf P T=some pl) (hz:(P.info? T).map (·.zero)=some (some z)) (hzc:z.cells=cs.toArray)
  (hf:Instr.fill (pl.toArray[·]?) cs.toArray parts.toList=some vs.toArray):(Instr.build T parts).run P w= .ok (.agg vs.toArray) w:=by
 refine run_build w T parts _ ?_
 unfold lf at hp
 unfold Program.built
 obtain ⟨it,hit,hz2⟩:=Option.map_eq_some_iff.1 hz
 cases hu:P.underlying T with
 | none=>simp [hu] at hp
 | some u=>
  cases u<;>simp [hu] at hp
  simp only [hit,hz2,hp,hzc,hf]
theorem rU (t:Dig) (e m:Nat) (he:e<2^64) (hm:m<2^64) (cs:List Value) (hcs:cs.length=34):bX (bX (bX cs 0 (ay t)) 32 [.int .u64 ((e:Nat):Int)]) 33 [.int .u64 ((m:Nat):Int)]=aL ⟨t,e,m,he,hm⟩:=by
 rw [e8 (ay t) _ _ (by simp [hcs])]
 obtain ⟨x,y,hxy⟩:∃x y,cs.drop 32= [x,y]:=by
  have:(cs.drop 32).length=2:=by simp [hcs]
  match h:cs.drop 32,this with
  | [x,y],_=>exact ⟨x,y,rfl⟩
 simp only [List.take_zero,List.nil_append,c5,Nat.zero_add,hxy]
 simp [bX,aL,List.set_append,c5]
theorem B5 {T:TypeId} (t:Dig) (e m:Nat) (he:e<2^64) (hm:m<2^64) (hp:lf P T=some [(0,32),(32,1),(33,1)]:=by kernel_rfl) (hz:(P.info? T).map (·.zero)=some (some (.agg (aL Cel.zero).toArray)):=by kernel_rfl):
  (Instr.build T #[(0, .agg (ay t).toArray),(1, .int .u64 ((e:Nat):Int)),(2, .int .u64 ((m:Nat):Int))]).run P w= .ok (.agg (aL ⟨t,e,m,he,hm⟩).toArray) w:=by
 refine mp hp hz rfl ?_
 rw [eM (off:=0) (size:=32) (vs:=ay t) rfl rfl (by simp) (by simp),eM (off:=32) (size:=1) (vs:= [.int .u64 ((e:Nat):Int)]) rfl rfl rfl (by simp [gU]),eM (off:=33) (size:=1) (vs:= [.int .u64 ((m:Nat):Int)]) rfl rfl rfl (by simp [gU]),
  rU t e m he hm _ (by simp)]
 rfl
def bj (P:Program) (t:TypeId):List (Bool×TypeId×Nat):=(P.fieldsOf t).toList.map fun f=>(decide (f.name≠ "_"),f.type,f.offset)
def Cj (d:Nat) (xs ys:Array Value):List (Bool×TypeId×Nat)→Sem Bool
 | []=>pure true
 |(b,t,o)::fs=>
  if b=true then do
   let a←part t xs o
   let c←part t ys o
   let r←Op.equalIn d t a c
   if (!r)=true then pure false else Cj d xs ys fs
  else Cj d xs ys fs
theorem FT (d:Nat) (xs ys:Array Value) (fs:List Field):Op.eqFields d xs ys fs=Cj d xs ys (fs.map fun f=>(decide (f.name≠ "_"),f.type,f.offset)):=by
 induction fs with
 | nil=>rfl
 | cons f fs ih=>
  rw [Op.eqFields,List.map_cons,Cj,ih]
  by_cases h:f.name= "_" <;>simp [h]
theorem a6 {dd:Nat} {xs ys:Array Value} {t o:Nat} {fs:List (Bool×TypeId×Nat)} {a c:Value} {r s:Bool} (h1:(part t xs o).run P w= .ok a w) (h2:(part t ys o).run P w= .ok c w)
  (h3:(Op.equalIn dd t a c).run P w= .ok r w) (h4:(Cj dd xs ys fs).run P w= .ok s w):(Cj dd xs ys ((true,t,o)::fs)).run P w= .ok (r&&s) w:=by
 rw [Cj]
 simp only [if_true,Sem.run_bind,h1,h2,h3,Result.andThen_ok]
 cases r<;>simp [h4]
theorem aI {t o:Nat} {vs:List Value} {v:Value} (hT:(P.underlying t).map jb=some false) (hv:vs[o]? =some v):(part t vs.toArray o).run P w= .ok v w:=by
 simp [part,kY hT,hv]
theorem aT {t o sz:Nat} {vs us:List Value} (hT:(P.underlying t).map jb=some true) (hsz:(P.info? t).map (·.size)=some sz) (hv:(vs.drop o).take sz=us):(part t vs.toArray o).run P w= .ok (.agg us.toArray) w:=by
 simp [part,ir hT,run_sizeOf hsz,←hv,List.extract_eq_take_drop]
theorem gB {dd t e:Nat} (x y:Dig) (ht:P.underlying t=some (.array 32 e):=by kernel_rfl) (he:P.underlying e=some (.int .u8):=by kernel_rfl) (hsz:(P.info? e).map (·.size)=some 1:=by kernel_rfl):(Op.equalIn (dd+2) t (.agg (ay x).toArray) (.agg (ay y).toArray)).run P w= .ok (x.l==y.l) w:=
 run_equalIn_bytes w dd t e 32 ht he (fun w=>run_sizeOf hsz) x.l y.l x.h y.h
theorem de {dd t:Nat} {kk:IntKind} (a b:Nat) (h:P.underlying t=some (.int kk)):(Op.equalIn (dd+1) t (.int kk ((a:Nat):Int)) (.int kk ((b:Nat):Int))).run P w= .ok (a==b) w:=by
 rw [run_equalIn_int w dd t kk kk _ _ h]
 congr 1
 rw [Bool.eq_iff_iff];simp;omega
theorem ci {t:TypeId} (h:∃x xs,bj P t=x::xs):P.underlying t=some (.struct (P.fieldsOf t)):=by
 obtain ⟨x,xs,h⟩:=h
 unfold bj Program.fieldsOf at*
 split at h
 ·next fs hu=>simp [hu,Program.fieldsOf]
 ·simp at h
theorem cp {dd t:Nat} {xs ys:Array Value} {fs:List (Bool×TypeId×Nat)} {x:Bool×TypeId×Nat} {r:Bool} (hF:bj P t=x::fs) (hp:P.stoodInHeld t=false) (h:(Cj dd xs ys (x::fs)).run P w= .ok r w):
  (Op.equalIn (dd+1) t (.agg xs) (.agg ys)).run P w= .ok r w:=by
 rw [run_equalIn_struct w dd t xs ys (ci ⟨x,fs,hF⟩) hp,FT]
 unfold bj at hF
 rw [hF,h]
def Non.eqb (x y:Non):Bool:=x.sh==y.sh&&(x.ct==y.ct&&true)
def Rec.eqb (x y:Rec):Bool:=x.st==y.st&&(x.non.eqb y.non&&(x.tag.l==y.tag.l&&true))
def Ent.eqb (x y:Ent):Bool:=x.st==y.st&&(x.dg.l==y.dg.l&&true)
def Cel.eqb (x y:Cel):Bool:=x.root.l==y.root.l&&(x.ep==y.ep&&(x.mark==y.mark&&true))
theorem Non.eqb_iff (x y:Non):x.eqb y=true↔x=y:=by
 constructor
 ·intro h;simp [Non.eqb] at h;exact Non.ext' h.1 h.2
 ·rintro rfl;simp [Non.eqb]
theorem Rec.eqb_iff (x y:Rec):x.eqb y=true↔x=y:=by
 constructor
 ·intro h;simp [Rec.eqb] at h;exact Rec.ext' h.1 ((Non.eqb_iff _ _).1 h.2.1) (Dig.ext' h.2.2)
 ·rintro rfl;simp [Rec.eqb,(Non.eqb_iff x.non x.non).2 rfl]
theorem Ent.eqb_iff (x y:Ent):x.eqb y=true↔x=y:=by
 constructor
 ·intro h;simp [Ent.eqb] at h;exact Ent.ext' h.1 (Dig.ext' h.2)
 ·rintro rfl;simp [Ent.eqb]
theorem Cel.eqb_iff (x y:Cel):x.eqb y=true↔x=y:=by
 constructor
 ·intro h;simp [Cel.eqb] at h;exact Cel.ext' (Dig.ext' h.1) h.2.1 h.2.2
 ·rintro rfl;simp [Cel.eqb]
theorem i5 {dd t t32 t64:Nat} (x y:Non) (hF:bj P t= [(true,t32,0),(true,t64,1)]:=by kernel_rfl) (hp:P.stoodInHeld t=false:=by kernel_rfl) (h1:P.underlying t32=some (.int .u32):=by kernel_rfl) (h2:P.underlying t64=some (.int .u64):=by kernel_rfl):
  (Op.equalIn (dd+2) t (.agg (br x).toArray) (.agg (br y).toArray)).run P w= .ok (x.eqb y) w:=
 cp hF hp (a6 (aI (by rw [h1];rfl) rfl) (aI (by rw [h1];rfl) rfl) (de _ _ h1)
  (a6 (aI (by rw [h2];rfl) rfl) (aI (by rw [h2];rfl) rfl) (de _ _ h2) rfl))
theorem mP {dd t t8 tn td e t32 t64:Nat} (x y:Rec) (hF:bj P t= [(true,t8,0),(true,tn,1),(true,td,3)]:=by kernel_rfl) (hp:P.stoodInHeld t=false:=by kernel_rfl) (h8:P.underlying t8=some (.int .u8):=by kernel_rfl)
  (hFn:bj P tn= [(true,t32,0),(true,t64,1)]:=by kernel_rfl) (hpn:P.stoodInHeld tn=false:=by kernel_rfl) (h1:P.underlying t32=some (.int .u32):=by kernel_rfl) (h2:P.underlying t64=some (.int .u64):=by kernel_rfl) (hsn:(P.info? tn).map (·.size)=some 2:=by kernel_rfl)
  (hd:P.underlying td=some (.array 32 e):=by kernel_rfl) (he:P.underlying e=some (.int .u8):=by kernel_rfl) (hse:(P.info? e).map (·.size)=some 1:=by kernel_rfl) (hsd:(P.info? td).map (·.size)=some 32:=by kernel_rfl):
  (Op.equalIn (dd+3) t (.agg (bY x).toArray) (.agg (bY y).toArray)).run P w= .ok (x.eqb y) w:=
 cp hF hp (a6 (aI (by rw [h8];rfl) rfl) (aI (by rw [h8];rfl) rfl) (de _ _ h8)
  (a6 (aT (us:=br x.non) (by rw [ci ⟨_,_,hFn⟩];rfl) hsn rfl) (aT (us:=br y.non) (by rw [ci ⟨_,_,hFn⟩];rfl) hsn rfl) (i5 _ _ hFn hpn h1 h2)
   (a6 (aT (us:=ay x.tag) (by rw [hd];rfl) hsd (by have:=uO x;rwa [c5] at this)) (aT (us:=ay y.tag) (by rw [hd];rfl) hsd (by have:=uO y;rwa [c5] at this)) (gB _ _ hd he hse) rfl)))
theorem mm {dd t t8 td e:Nat} (x y:Ent) (hF:bj P t= [(true,t8,0),(true,td,1)]:=by kernel_rfl) (hp:P.stoodInHeld t=false:=by kernel_rfl) (h8:P.underlying t8=some (.int .u8):=by kernel_rfl)
  (hd:P.underlying td=some (.array 32 e):=by kernel_rfl) (he:P.underlying e=some (.int .u8):=by kernel_rfl) (hse:(P.info? e).map (·.size)=some 1:=by kernel_rfl) (hsd:(P.info? td).map (·.size)=some 32:=by kernel_rfl):
  (Op.equalIn (dd+3) t (.agg (c6 x).toArray) (.agg (c6 y).toArray)).run P w= .ok (x.eqb y) w:=
 cp hF hp (a6 (aI (by rw [h8];rfl) rfl) (aI (by rw [h8];rfl) rfl) (de _ _ h8)
   (a6 (aT (us:=ay x.dg) (by rw [hd];rfl) hsd (by have:=zN x;rwa [c5] at this)) (aT (us:=ay y.dg) (by rw [hd];rfl) hsd (by have:=zN y;rwa [c5] at this)) (gB _ _ hd he hse) rfl))
theorem tq {dd t td e t64:Nat} (x y:Cel) (hF:bj P t= [(true,td,0),(true,t64,32),(true,t64,33)]:=by kernel_rfl) (hp:P.stoodInHeld t=false:=by kernel_rfl) (h2:P.underlying t64=some (.int .u64):=by kernel_rfl)
  (hd:P.underlying td=some (.array 32 e):=by kernel_rfl) (he:P.underlying e=some (.int .u8):=by kernel_rfl) (hse:(P.info? e).map (·.size)=some 1:=by kernel_rfl) (hsd:(P.info? td).map (·.size)=some 32:=by kernel_rfl):
  (Op.equalIn (dd+3) t (.agg (aL x).toArray) (.agg (aL y).toArray)).run P w= .ok (x.eqb y) w:=
 cp hF hp (a6 (aT (us:=ay x.root) (by rw [hd];rfl) hsd (by have:=rA x;rwa [c5] at this)) (aT (us:=ay y.root) (by rw [hd];rfl) hsd (by have:=rA y;rwa [c5] at this)) (gB _ _ hd he hse)
  (a6 (aI (by rw [h2];rfl) (Ai x)) (aI (by rw [h2];rfl) (Ai y)) (de _ _ h2)
   (a6 (aI (by rw [h2];rfl) (A4 x)) (aI (by rw [h2];rfl) (A4 y)) (de _ _ h2) rfl)))
def eqv:Value→Value→Bool
 | .int _ a, .int _ b=>a==b
 | .bool a, .bool b=>a==b
 | _,_=>false
def eqvs:List Value→List Value→Bool
 | [], []=>true
 | a::as,b::bs=>eqv a b&&eqvs as bs
 | _,_=>false
def zy (P:Program) (t:TypeId):Value→Value→Bool
 | .int k _, .int k' _=>(match P.underlying t with | some (.int k2)=>decide (k=k2)&&decide (k'=k2)| _=>false)
 | .bool _, .bool _=>(match P.underlying t with | some .bool=>true | _=>false)
 | _,_=>false
def m6 (P:Program):Nat→List (Bool×TypeId×Nat)→List Value→List Value→Bool
 | _, [], [], []=>true
 | i,(b,t,o)::fs,v::vs,u::us=>b&&Nat.beq o i&&zy P t v u&&m6 P (i+1) fs vs us
 | _,_,_,_=>false
theorem tr {dd t:Nat} {v u:Value} (h:zy P t v u=true):(Op.equalIn (dd+1) t v u).run P w= .ok (eqv v u) w∧(P.underlying t).map jb=some false:=by
 cases v<;>cases u<;>simp only [zy] at h<;>try (cases h;done)
 ·cases hu:P.underlying t with
  | none=>simp [hu] at h
  | some ty=>
   cases ty<;>simp [hu] at h
   exact ⟨run_equalIn_bool w dd t _ _ hu,rfl⟩
 ·cases hu:P.underlying t with
  | none=>simp [hu] at h
  | some ty=>
   cases ty<;>simp [hu] at h
   obtain ⟨rfl,rfl⟩:=h
   exact ⟨run_equalIn_int w dd t _ _ _ _ hu,rfl⟩
theorem oF {dd:Nat}:∀(fs:List (Bool×TypeId×Nat)) (i:Nat) (pv pu vs us:List Value),m6 P i fs vs us=true→pv.length=i→pu.length=i→
  (Cj (dd+1) (pv++vs).toArray (pu++us).toArray fs).run P w= .ok (eqvs vs us) w:=by
 intro fs
 induction fs with
 | nil=>
  intro i pv pu vs us h _ _
  cases vs<;>cases us<;>simp only [m6] at h<;>first |(cases h;done)| rfl
 | cons f fs ih=>
  intro i pv pu vs us h h1 h2
  obtain ⟨b,t,o⟩:=f
  cases vs with
  | nil=>simp [m6] at h
  | cons v vs=>
   cases us with
   | nil=>simp [m6] at h
   | cons u us=>
    simp only [m6,Bool.and_eq_true] at h
    obtain ⟨⟨⟨hb,ho⟩,hv⟩,hr⟩:=h
    subst hb
    obtain rfl:=Nat.eq_of_beq_eq_true ho
    obtain ⟨h3,h4⟩:=tr (P:=P) (w:=w) (dd:=dd) hv
    refine a6 (aI h4 (by rw [←h1];simp)) (aI h4 (by rw [←h2];simp)) h3 ?_
    have:=ih (o+1) (pv++ [v]) (pu++ [u]) vs us hr (by simp [h1]) (by simp [h2])
    simpa using this
theorem EV {dd t:Nat} (vs us:List Value) (hF:(match bj P t with | []=>false | f::fs=>m6 P 0 (f::fs) vs us)=true:=by kernel_rfl) (hp:P.stoodInHeld t=false:=by kernel_rfl):
  (Op.equalIn (dd+2) t (.agg vs.toArray) (.agg us.toArray)).run P w= .ok (eqvs vs us) w:=by
 cases hf:bj P t with
 | nil=>simp [hf] at hF
 | cons f fs=>
  simp only [hf] at hF
  exact cp hf hp (by simpa using oF (P:=P) (w:=w) (dd:=dd) (f::fs) 0 [] [] vs us hF rfl rfl)
theorem se {T:TypeId} {ox oy:Operand} {xs ys:Array Value} {r:Bool} (h:(Op.equalIn 10000 T (.agg xs) (.agg ys)).run P w= .ok r w) (hm:P.eqGuardType P.depth T=false:=by kernel_rfl):
  (bo .eql T ox oy (.agg xs) (.agg ys)).run P w= .ok (.bool r) w:=by
 simp only [Sem.run_bind,run_eqGuard_agg w .eql T ox oy xs ys hm,Result.andThen_ok,run_eql_struct,h]
theorem gE {T:TypeId} {ox oy:Operand} {xs ys:Array Value} {r:Bool} (h:(Op.equalIn 10000 T (.agg xs) (.agg ys)).run P w= .ok r w) (hm:P.eqGuardType P.depth T=false:=by kernel_rfl):
  (bo .neq T ox oy (.agg xs) (.agg ys)).run P w= .ok (.bool (!r)) w:=by
 simp only [Sem.run_bind,run_eqGuard_agg w .neq T ox oy xs ys hm,Result.andThen_ok,run_neq_struct,h]
theorem sD {T E m len cap:Nat} {a:Option Addr} (h:m≤len) (hT:P.underlying T=some (.array m E):=by kernel_rfl):(Instr.arrayAt T (.slice a len cap)).run P w= .ok (.pointer a) w:=by
 simp [Instr.arrayAt,run_underlying hT,Nat.not_lt.2 h]
end
end Go.Cs
namespace Go.Cs
open Go Go.RowKit
def xR (o:Oper):Bool:=match o.op with
 | .load _ _=>true
 | _=>false
def Mv (es:List Edge) (k:Nat):Bool:=es.any fun e=>Region.binds .any e&&Nat.beq e.on k
def vW (j:Nat) (es:List Edge):Nat→List Oper→Bool
 | _, []=>true
 | k,o::r=>(Nat.beq k j || !xR o || Mv es k)&&vW j es (k+1) r
def iu (ops:Array Oper) (j:Nat):Bool:=match ops[j]? with
 | none=>false
 | some o=>vW j o.after.toList 0 ops.toList
theorem mB {j:Nat} {es:List Edge}:∀{l:List Oper} {k:Nat},vW j es k l=true→∀i o,l[i]? =some o→xR o=true→k+i≠j→∃e∈es,Region.binds .any e=true∧e.on=k+i
 | [],k,h,i,o,ho,_,_=>by simp at ho
 | q::l,k,h,i,o,ho,hr,hj=>by
  simp only [vW,Bool.and_eq_true] at h
  cases i with
  | zero=>
   simp only [List.getElem?_cons_zero,Option.some.injEq] at ho
   subst ho
   have h1:=h.1
   rw [hr] at h1
   have h2:Nat.beq k j=false:=by
    cases hb:Nat.beq k j with
    | false=>rfl
    | true=>exact absurd (Nat.eq_of_beq_eq_true hb) hj
   rw [h2] at h1
   simp only [Bool.not_true,Bool.or_self,Bool.false_or,Mv,List.any_eq_true,Bool.and_eq_true] at h1
   obtain ⟨e,he,h3,h4⟩:=h1
   exact ⟨e,he,h3,Nat.eq_of_beq_eq_true h4⟩
  | succ i=>
   simp only [List.getElem?_cons_succ] at ho
   have:=mB h.2 i o ho hr (by omega)
   rwa [show k+1+i=k+(i+1) by omega] at this
theorem t3 {ops:Array Oper} {j i:Nat} {oj oi:Oper} (h:iu ops j=true) (hj:ops[j]? =some oj) (hi:ops[i]? =some oi) (hr:xR oi=true) (hne:i≠j):∃e∈oj.after,Region.binds .any e=true∧e.on=i:=by
 unfold iu at h
 rw [hj] at h
 obtain ⟨e,he,h1,h2⟩:=mB h i oi (by simpa using hi) hr (by omega)
 exact ⟨e,by simpa using he,h1,by omega⟩
def iz (ro:Option Nat) (P:Program) (ops:Array Oper) (Q:Exit→Act→World→Prop) (C:World→Prop):Nat→Array Bool→Act→World→Prop
 | 0,listed,a,w=>Region.ready .any ops listed= []∧Q .normal a w
 | fuel+1,listed,a,w=>
  (Region.ready .any ops listed= []→Q .normal a w)∧
  ∀i∈Region.ready .any ops listed,wpOpIn (fen ro) 0 P ops Q i (fun a' w'=>(C w→iu ops i=true∨C w')∧iz ro P ops Q C fuel (listed.setIfInBounds i true) a' w') a w
section
variable {ro:Option Nat} {P:Program} {ops:Array Oper} {Q:Exit→Act→World→Prop} {C:World→Prop}
theorem lP:∀(fuel:Nat) (listed:Array Bool) (a:Act) (w:World),iz ro P ops Q C fuel listed a w→wpAnyIn (fen ro) 0 P .any ops Q fuel listed a w
 | 0,_,_,_,h=>h
 | fuel+1,_,_,_,h=>⟨h.1,fun i hi=>wpOpIn_mono (fun a' w' h'=>lP fuel _ a' w' h'.2) (h.2 i hi)⟩
theorem pN {i:Nat} {oi:Oper} {v:Value} {D:World→Prop} (hi:ops[i]? =some oi) (hdef:lH ops=true) (hsel:∀(j:Nat) (o:Oper) cs b,ops[j]? =some o→o.op≠ .select cs b)
  (hQ:∀c a w,¬Q (.panic c) a w) (hD:(xR oi=true∧D=C)∨∀w,D w):
  ∀(fuel:Nat) (listed:Array Bool) (a:Act) (w:World),(C w∨∀w,D w)→
   (∀j oj,ops[j]? =some oj→j≠i→listed.getD j true=false→(∀e∈oj.after,Region.binds .any e=true→e.on≠i)→oi.apart ops oj=true)→
   i∈Region.ready .any ops listed→YC P ops D oi v a→
   iz ro P ops Q C fuel (listed.setIfInBounds i true) (a.put oi.dst v) w→iz ro P ops Q C (fuel+1) listed a w:=by
 have hDw:∀w,(C w∨∀w,D w)→D w:=fun w h=>by
  rcases hD with ⟨_,rfl⟩| hD
  ·rcases h with h | h;exact h;exact h w
  ·exact hD w
 intro fuel
 induction fuel with
 | zero=>
  intro listed a w hw _ hr hy H
  refine ⟨fun h=>(by rw [h] at hr;cases hr),fun j hj=> ?_⟩
  by_cases hji:j=i
  ·subst hji;exact hy.wpOp (jg hdef hi) hi (hDw w hw) ⟨.inr,H⟩
  ·have:=ready_mono hj hji
   rw [H.1] at this
   cases this
 | succ fuel ih=>
  intro listed a w hw hfree hr hy H
  refine ⟨fun h=>(by rw [h] at hr;cases hr),fun j hj=> ?_⟩
  by_cases hji:j=i
  ·subst hji;exact hy.wpOp (jg hdef hi) hi (hDw w hw) ⟨.inr,H⟩
  ·have h1:=H.2 j (ready_mono hj hji)
   obtain ⟨hjun,oj,hoj,hall⟩:=mem_ready.1 hj
   have hnot:∀e∈oj.after,Region.binds .any e=true→e.on≠i:=fun e he hb heq=>by
    have h1:=hall e he hb
    have h0:=(mem_ready.1 hr).1
    rw [heq] at h1
    rcases Nat.lt_or_ge i listed.size with h' | h'
    ·simp [h'] at h0 h1;rw [h0] at h1;cases h1
    ·simp [Array.getElem?_eq_none h'] at h1
   have h2:=xO hoj (hfree j oj hoj hji hjun hnot) (fun cs b=>hsel i oi cs b hi) (fun cs b=>hsel j oj cs b hoj) (jg hdef hoj) hQ hy h1
   have hfree':∀k ok,ops[k]? =some ok→k≠i→(listed.setIfInBounds j true).getD k true=false→
     (∀e∈ok.after,Region.binds .any e=true→e.on≠i)→oi.apart ops ok=true:=fun k ok hk hki hun hno=>by
    refine hfree k ok hk hki ?_ hno
    by_cases hjk:j=k
    ·subst hjk;exact hjun
    ·rw [getD_set_ne true hjk] at hun;exact hun
   have hnl:xR oi=true→iu ops j=false:=fun hrd=>by
    cases hb:iu ops j with
    | false=>rfl
    | true=>
     obtain ⟨e,he,h3,h4⟩:=t3 hb hoj hi hrd (Ne.symm hji)
     exact absurd h4 (hnot e he h3)
   refine wpOpIn_mono (fun a' w' h3=> ?_) h2
   have hcw:C w'∨∀w,D w:=by
    rcases hw with hw | hw
    ·rcases hD with ⟨hrd,_⟩| hD
     ·exact .inl ((h3.2.1 hw).resolve_left (by rw [hnl hrd];simp))
     ·exact .inr hD
    ·exact .inr hw
   refine ⟨h3.2.1,ih (listed.setIfInBounds j true) a' w' hcw hfree' (ready_mono hr (Ne.symm hji)) h3.1 ?_⟩
   rw [Array.setIfInBounds_comm _ _ hji]
   exact h3.2.2
theorem ri {i:Nat} {oi:Oper} {v:Value} {D:World→Prop} {fuel:Nat} {listed:Array Bool} {a:Act} {w:World} (hi:ops[i]? =some oi)
  (hdef:lH ops=true) (hs:Region.noSelect ops=true) (hf:Region.free .any ops listed i=true) (hr:(Region.ready .any ops listed).contains i=true)
  (hQ:∀c a w,¬Q (.panic c) a w) (hD:(xR oi=true∧D=C)∨∀w,D w) (hw:C w∨∀w,D w) (hy:YC P ops D oi v a)
  (h:iz ro P ops Q C fuel (listed.setIfInBounds i true) (a.put oi.dst v) w):iz ro P ops Q C (fuel+1) listed a w:=
 pN hi hdef (Region.noSelect_spec hs) hQ hD fuel listed a w hw (Region.free_spec hi hf) (by simpa using hr) hy h
end
def kR {ro:Option Nat} {ds:List Deferred} (P:Program) (ops:Array Oper) (Q:Exit→Act→World→Prop) (C:World→Prop) (n N fuel m:Nat) (σ:List (Nat×Value)) (w:World):Prop:=
 iz ro P ops Q C fuel (lm N m) (Fr ds n σ) w
section
variable {ro:Option Nat} {ds:List Deferred} {P:Program} {ops:Array Oper} {Q:Exit→Act→World→Prop} {C D:World→Prop} {n N fuel m:Nat} {σ:List (Nat×Value)} {w:World} {T:List (Nat×Nat×Nat)}
theorem ke {id:Nat} (C:World→Prop) (N:Nat) (T:List (Nat×Nat×Nat))
  (h:RT ops T N→kR (ro:=ro) (ds:=ds) P ops Q C n N N 0 σ w.drew) (hm:P.follows .mixedOrders=true:=by kernel_rfl) (hT:CT ops T N=true:=by kernel_rfl):i4 (ro:=ro) (ds:=ds) P (.region id ops true) Q n σ w:=by
 have h1:=h (E8 hT)
 have h2:=(E8 hT).size
 subst h2
 refine wpIn_region_any hm (lP (C:=C) _ _ _ _ ?_)
 rw [←CO];exact h1
theorem jZ [hq:NoPan Q] (hT:RT ops T N) (i m':Nat) {o:Oper} (ho:ops[i]? =some o) (v:Value) (hD:(xR o=true∧D=C)∨∀w,D w) (hw:C w∨∀w,D w) (hy:yld P ops D n σ i o.dst v)
  (h:kR (ro:=ro) (ds:=ds) P ops Q C n N fuel m' (putσ σ o.dst v) w) (hc:gu T m i=true) (hm:m ||| 2^i=m'):kR (ro:=ro) (ds:=ds) P ops Q C n N (fuel+1) m σ w:=by
 have hc':=pQ hT.rows hT.size hT.nodef hT.nosel hc
 simp only [pf,Bool.and_eq_true] at hc'
 obtain ⟨⟨⟨⟨h0,h1⟩,h2⟩,h3⟩,_⟩:=hc'
 obtain ⟨o',ho',hd,h5⟩:=hy
 rw [ho] at ho'
 cases ho'
 refine ri ho h0 h1 h2 h3 hq.no hD hw ?_ (by rw [eB,BN,hm];exact h)
 rcases h5 with ⟨h6,h7⟩|⟨h6,h7⟩
 ·exact .inl ⟨by rw [df];exact h6,fun w' hw'=>by rw [dS];exact h7 w' hw'⟩
 ·exact .inr ⟨by rw [df];exact h6,h7⟩
theorem iV (rs:List Nat) (hr:Region.ready .any ops (lm N m)=rs) (hne:rs≠ []) (h:∀i∈rs,gw P ops n i σ w (fun τ w'=>(C w→iu ops i=true∨C w')∧kR (ro:=ro) (ds:=ds) P ops Q C n N fuel (m ||| 2^i) τ w')):kR (ro:=ro) (ds:=ds) P ops Q C n N (fuel+1) m σ w:=by
 unfold kR iz
 refine ⟨fun h0=>absurd (hr▸h0) hne,fun j hj=> ?_⟩
 rw [hr] at hj
 refine wpOpIn_mono ?_ (jp (h j hj))
 rintro a w' ⟨τ,rfl,h1,h2⟩
 rw [BN]
 exact ⟨h1,h2⟩
theorem oA (h:Q .normal (Fr ds n σ) w) (hr:Region.ready .any ops (lm N m)= []):kR (ro:=ro) (ds:=ds) P ops Q C n N fuel m σ w:=by
 unfold kR
 cases fuel with
 | zero=>exact ⟨hr,h⟩
 | succ f=>exact ⟨fun _=>h,by rw [hr];simp⟩
end
end Go.Cs
