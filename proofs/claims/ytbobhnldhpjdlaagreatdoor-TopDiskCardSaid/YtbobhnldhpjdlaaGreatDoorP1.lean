/- Lemmas and walks: what each function does, by its own code. No condition beyond those of each statement. -/
import Derived.WalkKit
import Derived.Deep.LoopGhost
import Derived.WalkSpells
import Derived.WalkLawsBesides
import Derived.OrdersIn
import Derived.OwnWalkIn
import Derived.LoopIn
import Derived.RangeFuncNested
import Derived.RangeFuncLeaves
import Derived.Stop.BytesEq
import Derived.Laws.Tables
import Derived.Laws.Concat
set_option linter.all false
set_option linter.unusedVariables false
namespace Go.Cs
open Go Go.RowKit
def lk:List (Nat×Value)→Nat→Value
 | [],_=>undef
 |(k,v)::r,t=>bif Nat.beq k t then v else lk r t
def Fr (ds:List Deferred) (n:Nat) (σ:List (Nat×Value)):Act:={tmps:=((List.range n).map (lk σ)).toArray,defers:=ds}
def fen (ro:Option Nat):Fence:={Fence.wide with round:=ro}
abbrev Ly (ro:Option Nat) (P:Program) (c:Code) (Q:Exit→Act→World→Prop) (a:Act) (w:World):Prop:=c.wpIn (fen ro) 0 P Q a w
abbrev vI (n:Nat):Value:= .int .i64 (n:Int)
abbrev vQ (n:Nat):Value:= .int .u64 (n:Int)
abbrev vP (b o:Nat):Value:= .pointer (some ⟨b,o,none⟩)
abbrev vA (l:List Value):Value:= .agg l.toArray
def ev (n:Nat) (σ:List (Nat×Value)):Operand→Value
 | .tmp t=>bif Nat.blt t n then lk σ t else undef
 | .const v=>v
 | .global g=> .pointer (some ⟨g,0,none⟩)
 | .func f=> .func (.func f) #[] #[]
def putσ (σ:List (Nat×Value)):Option Tmp→Value→List (Nat×Value)
 | none,_=>σ
 | some d,v=>(d,v)::σ
theorem ru {a b:Nat} (h:a<b):Nat.blt a b=true:=by simpa [Nat.blt_eq] using h
theorem nQ {a b:Nat} (h:b≤a):Nat.blt a b=false:=by
 cases hb:Nat.blt a b with
 | false=>rfl
 | true=>rw [Nat.blt_eq] at hb;omega
theorem r9 {k t:Nat} {v:Value} {σ:List (Nat×Value)} (h:k≠t):lk ((k,v)::σ) t=lk σ t:=by
 have:Nat.beq k t=false:=by
  cases hb:Nat.beq k t with
  | false=>rfl
  | true=>exact absurd (Nat.eq_of_beq_eq_true hb) h
 simp [lk,this]
theorem tL {k:Nat} {v:Value} {σ:List (Nat×Value)}:lk ((k,v)::σ) k=v:=by
 simp [lk]
theorem dS (ds:List Deferred) (n:Nat) (σ:List (Nat×Value)):(Fr ds n σ).eval=ev n σ:=by
 funext x
 cases x with
 | tmp t=>
  rcases Nat.lt_or_ge t n with h | h
  ·simp [Act.eval,Fr,ev,ru h,h]
  ·simp [Act.eval,Fr,ev,nQ h,h]
 | _=>rfl
theorem eB (ds:List Deferred) (n:Nat) (σ:List (Nat×Value)) (d:Option Tmp) (v:Value):(Fr ds n σ).put d v=Fr ds n (putσ σ d v):=by
 cases d with
 | none=>rfl
 | some d=>
  simp only [Act.put,Fr,putσ]
  congr 1
  apply Array.ext
  ·simp
  ·intro i h1 h2
   simp only [Array.size_setIfInBounds,List.size_toArray,List.length_map,List.length_range] at h1
   by_cases hd:d=i
   ·subst hd;simp [tL]
   ·simp [hd,r9 hd]
def yl (ops:Array Oper) (n:Nat) (σ:List (Nat×Value)) (j:Nat):Option Bool:=
 match (ops[j]?).bind (·.dst) with
 | some d=>bif Nat.blt d n then (match lk σ d with | .bool b=>some b | _=>none) else none
 | none=>none
theorem sx (ds:List Deferred) (ops:Array Oper) (n:Nat) (σ:List (Nat×Value)) (j:Nat):yielded ops (Fr ds n σ).tmps j=yl ops n σ j:=by
 unfold yielded yl
 cases hd:(ops[j]?).bind (·.dst) with
 | none=>rfl
 | some d=>
  rcases Nat.lt_or_ge d n with h | h
  ·simp only [Option.bind_some,Fr,ru h,cond_true]
   have:(List.map (lk σ) (List.range n)).toArray[d]? =some (lk σ d):=by simp [h]
   rw [this]
   cases lk σ d<;>rfl
  ·have:(Fr ds n σ).tmps[d]? =none:=by simp [Fr,h]
   simp [this,nQ h]
def wnt (ops:Array Oper) (n:Nat) (σ:List (Nat×Value)) (o:Oper):Bool:=
 match o.guard with
 | none=>true
 | some (j,b)=>match yl ops n σ j,b with
  | some true,true=>true
  | some false,false=>true
  | _,_=>false
theorem df (ds:List Deferred) (ops:Array Oper) (n:Nat) (σ:List (Nat×Value)) (o:Oper):Region.wanted o (yielded ops (Fr ds n σ).tmps)=wnt ops n σ o:=by
 unfold Region.wanted wnt
 cases hg:o.guard with
 | none=>rfl
 | some p=>
  obtain ⟨j,b⟩:=p
  simp only [sx]
  cases yl ops n σ j with
  | none=>cases b<;>rfl
  | some c=>cases c<;>cases b<;>rfl
def pU {ro:Option Nat} {ds:List Deferred} (P:Program) (ops:Array Oper) (Q:Exit→Act→World→Prop) (n k:Nat) (σ:List (Nat×Value)) (w:World):Prop:=
 wpListIn (fen ro) 0 P ops Q (ops.toList.drop k) (Fr ds n σ) w
def i4 {ro:Option Nat} {ds:List Deferred} (P:Program) (c:Code) (Q:Exit→Act→World→Prop) (n:Nat) (σ:List (Nat×Value)) (w:World):Prop:=
 Ly ro P c Q (Fr ds n σ) w
section
variable {ro:Option Nat} {ds:List Deferred} {P:Program} {Q:Exit→Act→World→Prop} {n:Nat} {σ:List (Nat×Value)} {w:World} {ops:Array Oper} {k:Nat}
theorem t6 {id:Nat} (h:pU (ro:=ro) (ds:=ds) P ops Q n 0 σ w):i4 (ro:=ro) (ds:=ds) P (.region id ops false) Q n σ w:=
 wpIn_region_list (by simpa [pU] using h)
theorem CU {x y:Code} (h:i4 (ro:=ro) (ds:=ds) P x (Exit.then (Ly ro P y Q) Q) n σ w):i4 (ro:=ro) (ds:=ds) P (.seq x y) Q n σ w:=wpIn_seq h
theorem yj {id:Nat} {c:Code} (h:i4 (ro:=ro) (ds:=ds) P c (Exit.inBlock id Q) n σ w):i4 (ro:=ro) (ds:=ds) P (.block id c) Q n σ w:=wpIn_block h
theorem y6 (h:Q .normal (Fr ds n σ) w):i4 (ro:=ro) (ds:=ds) P .skip Q n σ w:=wpIn_skip h
theorem u9 (h:Q .ret (Fr ds n σ) w):i4 (ro:=ro) (ds:=ds) P .ret Q n σ w:=wpIn_ret h
theorem rn {id:Nat} (h:Q (.exit id) (Fr ds n σ) w):i4 (ro:=ro) (ds:=ds) P (.exit id) Q n σ w:=wpIn_exit h
theorem BO {c:Operand} {x y:Code} (h:i4 (ro:=ro) (ds:=ds) P x Q n σ w) (hc:ev n σ c= .bool true:=by kernel_rfl):i4 (ro:=ro) (ds:=ds) P (.cond c x y) Q n σ w:=
 wpIn_cond_true (by rw [dS];exact hc) h
theorem xZ {c:Operand} {x y:Code} (h:i4 (ro:=ro) (ds:=ds) P y Q n σ w) (hc:ev n σ c= .bool false:=by kernel_rfl):i4 (ro:=ro) (ds:=ds) P (.cond c x y) Q n σ w:=
 wpIn_cond_false (by rw [dS];exact hc) h
theorem oP {id:Nat} {a:Act} (h:Q .normal a w):Exit.inBlock id Q (.exit id) a w:=by simpa [Exit.inBlock] using h
theorem kU {id i:Nat} {a:Act} (hne:i≠id) (h:Q (.exit i) a w):Exit.inBlock id Q (.exit i) a w:=by simpa [Exit.inBlock,hne] using h
theorem jx {o:Oper} (ho:ops[k]? =some o):ops.toList.drop k=o::ops.toList.drop (k+1):=by
 obtain ⟨hk,he⟩:=Array.getElem?_eq_some_iff.1 ho
 rw [List.drop_eq_getElem_cons (by simpa using hk)]
 simp [he]
def ol:Result Next→Bool
 | .ok (.value _) _ | .ok .skip _ | .ok (.enter _ _) _ | .ok (.round _ _ _ _ _) _=>true
 | _=>false
theorem bQ {o:Oper} {ρ:Operand→Value} (h:ol ((execOp ρ o).run P w)=true) (ro:Option Nat):o.semAt ro ρ=execOp ρ o:=by
 refine Oper.semAt_eq _ _ _ ?_
 intro c hc
 revert h
 unfold execOp
 rw [hc]
 simp only [Sem.run_bind]
 cases hr:(resolve ρ c o.type).run P w<;>simp [Result.andThen,ol]
theorem DG {o:Oper} (v:Value) (w':World) (ho:ops[k]? =some o) (hg:wnt ops n σ o=true) (hr:(execOp (ev n σ) o).run P w= .ok (.value v) w')
  (h:pU (ro:=ro) (ds:=ds) P ops Q n (k+1) (putσ σ o.dst v) w'):pU (ro:=ro) (ds:=ds) P ops Q n k σ w:=by
 unfold pU at*
 rw [jx ho]
 unfold wpListIn
 rw [df,hg,if_pos rfl]
 unfold Oper.wpIn
 refine ⟨fun _ _=>trivial, ?_⟩
 rw [dS,bQ (P:=P) (w:=w) (by rw [hr];rfl),hr,Oper.uponIn_value,eB]
 exact h
theorem FL {o:Oper} (w':World) (ho:ops[k]? =some o) (hg:wnt ops n σ o=true) (hr:(execOp (ev n σ) o).run P w= .ok .skip w')
  (h:pU (ro:=ro) (ds:=ds) P ops Q n (k+1) (putσ σ o.dst undef) w'):pU (ro:=ro) (ds:=ds) P ops Q n k σ w:=by
 unfold pU at*
 rw [jx ho]
 unfold wpListIn
 rw [df,hg,if_pos rfl]
 unfold Oper.wpIn
 refine ⟨fun _ _=>trivial, ?_⟩
 rw [dS,bQ (P:=P) (w:=w) (by rw [hr];rfl),hr,Oper.uponIn_skip,eB]
 exact h
theorem DF {o:Oper} (ho:ops[k]? =some o) (hg:wnt ops n σ o=false)
  (h:pU (ro:=ro) (ds:=ds) P ops Q n (k+1) (putσ σ o.dst undef) w):pU (ro:=ro) (ds:=ds) P ops Q n k σ w:=by
 unfold pU at*
 rw [jx ho]
 unfold wpListIn
 rw [df,hg,if_neg (by simp),eB]
 exact ⟨fun _ _=>trivial,h⟩
def Ret (R:Value→World→Prop):Ending→World→Prop:=fun e w'=>∃v,e= .returned v∧R v w'
abbrev Rnd (P:Program) (l:Nat) (f:FuncId) (tmps:Array Value) (assign body:Code) (w:World) (R:Ending→World→Prop):Prop:=
 RoundIn Fence.wide 0 P l f tmps assign body w R
def gw (P:Program) (ops:Array Oper) (n k:Nat) (σ:List (Nat×Value)) (w:World) (K:List (Nat×Value)→World→Prop):Prop:=
 ∃o,ops[k]? =some o∧((wnt ops n σ o=true∧(match (execOp (ev n σ) o).run P w with
  | .ok (.value v) w'=>K (putσ σ o.dst v) w'
  | .ok .skip w'=>K (putσ σ o.dst undef) w'
  | .ok (.enter f args) w'=>Calls P f args w' (Ret fun v w''=>K (putσ σ o.dst v) w'')
  | .ok (.round l f tmps assign body) w'=>Rnd P l f tmps assign body w' (Ret fun v w''=>K (putσ σ o.dst v) w'')
  | _=>False))∨(wnt ops n σ o=false∧K (putσ σ o.dst undef) w))
theorem jU {K K':List (Nat×Value)→World→Prop} (h:gw P ops n k σ w K) (hk:∀τ w',K τ w'→K' τ w'):gw P ops n k σ w K':=by
 obtain ⟨o,ho,hw | hw⟩:=h
 ·refine ⟨o,ho, .inl ⟨hw.1, ?_⟩⟩
  have h2:=hw.2
  cases hr:(execOp (ev n σ) o).run P w with
  | halt x w'=>simp only [hr] at h2
  | ok nx w'=>
   cases nx with
   | value v=>simp only [hr] at h2;exact hk _ _ h2
   | skip=>simp only [hr] at h2;exact hk _ _ h2
   | enter f args=>simp only [hr] at h2;exact h2.mono fun e w' ⟨v,he,hv⟩=>⟨v,he,hk _ _ hv⟩
   | round l f tmps assign body=>simp only [hr] at h2;exact h2.mono fun e w' ⟨v,he,hv⟩=>⟨v,he,hk _ _ hv⟩
   | _=>simp only [hr] at h2
 ·exact ⟨o,ho, .inr ⟨hw.1,hk _ _ hw.2⟩⟩
theorem zU (h:gw P ops n k σ w (fun τ w'=>pU (ro:=ro) (ds:=ds) P ops Q n (k+1) τ w')):pU (ro:=ro) (ds:=ds) P ops Q n k σ w:=by
 obtain ⟨o,ho,⟨hw,h⟩|⟨hw,h⟩⟩:=h
 ·cases hr:(execOp (ev n σ) o).run P w with
  | halt x w'=>simp only [hr] at h
  | ok nx w'=>
   cases nx with
   | value v=>simp only [hr] at h;exact DG v w' ho hw hr h
   | skip=>simp only [hr] at h;exact FL w' ho hw hr h
   | enter f args=>
    simp only [hr] at h
    unfold pU
    rw [jx ho]
    unfold wpListIn
    rw [df,hw,if_pos rfl]
    unfold Oper.wpIn
    refine ⟨fun _ _=>trivial, ?_⟩
    rw [dS,bQ (P:=P) (w:=w) (by rw [hr];rfl),hr,Oper.uponIn_enter]
    refine ⟨fun h=>(by cases h), ?_⟩
    have h':CallsIn (fen ro) (0-1) P f args w' (Ret fun v w''=>pU (ro:=ro) (ds:=ds) P ops Q n (k+1) (putσ σ o.dst v) w''):=callsIn_wide (n:=0-1).2 h
    refine CallsIn.mono h' ?_
    rintro e w'' ⟨v,rfl,hv⟩
    show wpListIn (fen ro) 0 P ops Q _ ((Fr ds n σ).put o.dst v) w''
    rw [eB]
    exact hv
   | round l f tmps assign body=>
    simp only [hr] at h
    unfold pU
    rw [jx ho]
    unfold wpListIn
    rw [df,hw,if_pos rfl]
    unfold Oper.wpIn
    refine ⟨fun _ _=>trivial, ?_⟩
    rw [dS,bQ (P:=P) (w:=w) (by rw [hr];rfl),hr,Oper.uponIn_round]
    refine ⟨fun h=>(by cases h), ?_⟩
    have h':RoundIn (fen ro) (0-1) P l f tmps assign body w' (Ret fun v w''=>pU (ro:=ro) (ds:=ds) P ops Q n (k+1) (putσ σ o.dst v) w''):=h
    refine RoundIn.mono h' ?_
    rintro e w'' ⟨v,rfl,hv⟩
    show wpListIn (fen ro) 0 P ops Q _ ((Fr ds n σ).put o.dst v) w''
    rw [eB]
    exact hv
   | _=>simp only [hr] at h
 ·exact DF ho hw h
end
section
variable {ro:Option Nat} {ds:List Deferred} {P:Program} {Q:Exit→Act→World→Prop} {n:Nat} {σ:List (Nat×Value)} {w:World}
theorem iJ (a b:List (Nat×Value)) (t:Nat):lk (a++b) t=if (a.any fun q=>Nat.beq q.1 t)=true then lk a t else lk b t:=by
 induction a with
 | nil=>rfl
 | cons p a ih=>
  obtain ⟨k,v⟩:=p
  simp only [List.cons_append,lk,List.any_cons,Bool.or_eq_true]
  cases h:Nat.beq k t with
  | true=>simp
  | false=>simp only [cond_false,ih,Bool.false_eq_true,false_or]
theorem ey {F:Fence} {m:Nat} {a:Act} {c:Code} (I:Nat→Act→World→Prop) (n₀:Nat) (h₀:I n₀ a w)
  (round:∀n a w,I n a w→c.wpIn F m P (Exit.then (fun a' w'=>∃n',n'<n∧I n' a' w') Q) a w):(Code.loop c).wpIn F m P Q a w:=by
 refine wpIn_loop (fun a w=>∃n,I n a w) (fun a w=>leastOf (fun n=>I n a w)) ⟨n₀,h₀⟩ ?_
 intro a w hI
 refine wpIn_mono (round _ a w (leastOf_spec hI).1) ?_
 intro e a' w' hq
 cases e with
 | normal=>
  obtain ⟨n',hlt,hI'⟩:=hq
  exact show (∃n,I n a' w')∧leastOf (fun n=>I n a' w')<leastOf (fun n=>I n a w) from ⟨⟨n',hI'⟩,Nat.lt_of_le_of_lt ((leastOf_spec ⟨n',hI'⟩).2 n' hI') hlt⟩
 | exit id=>exact hq
 | goto l=>exact hq
 | ret=>exact hq
 | panic ch=>exact hq
 | outgrown=>exact hq
end
def yQ (P:Program) (fn:Func) (R:Value→World→Prop):Exit→Act→World→Prop
 | .ret,a,w | .normal,a,w=>LeavesInM Fence.wide 0 P fn a.tmps (Ret R) a.defers .returning w
 | _,_,_=>False
theorem yq {P:Program} {f:FuncId} {fn:Func} {c:Code} {args:Array Value} {w:World} {R:Value→World→Prop}
  (hf:P.funcs[f]? =some fn) (hb:fn.body=some c) {n:Nat} {σ:List (Nat×Value)}
  (h:i4 (ro:=none) (ds:= []) P c (yQ P fn R) n σ w) (hn:args++Array.replicate (fn.ntmps-args.size) undef=(Fr [] n σ).tmps:=by kernel_rfl):Calls P f args w (Ret R):=by
 refine callsIn_wide (n:=0).1 (callsIn_of_wp_marks hf hb trivial ?_)
 rw [hn]
 refine wpIn_mono h ?_
 intro e a w' hq
 cases e with
 | ret=>exact hq
 | normal=>exact hq
 | _=>exact hq.elim
theorem vR (ds:List Deferred) (n:Nat) (σ:List (Nat×Value)) (t:Nat):(Fr ds n σ).tmps.getD t undef=ev n σ (.tmp t):=by
 have:=congrFun (dS ds n σ) (.tmp t)
 simpa [Act.eval] using this
def rsem (tmps:Array Value):ResultVar→Sem Value
 | .tmp t=>pure (tmps.getD t undef)
 | .cell a t=>do loadVar t (←asAddr (tmps.getD a undef))
theorem uf (fn:Func) (tmps:Array Value):results fn tmps=(do
  let vs←fn.results.mapM (rsem tmps)
  pure (if h:vs.size=1 then vs[0] else .tuple vs)):=rfl
class NoPan (Q:Exit→Act→World→Prop):Prop where
 no:∀c a w,¬Q (.panic c) a w
end Go.Cs
namespace Go.Cs
open Go Go.RowKit
structure Chg (S:Nat→Prop) (w w':World):Prop where
 os:w'.os=w.os
 tape:w'.tape=w.tape
 output:w'.output=w.output
 size:w.heap.size≤w'.heap.size
 block:∀k,k<w.heap.size→¬S k→w'.heap[k]? =w.heap[k]?
abbrev Ext (w w':World):Prop:=Chg (fun _=>False) w w'
theorem Chg.refl (S:Nat→Prop) (w:World):Chg S w w:=⟨rfl,rfl,rfl,Nat.le_refl _,fun _ _ _=>rfl⟩
theorem Ext.refl (w:World):Ext w w:=Chg.refl _ w
theorem Chg.trans {S:Nat→Prop} {a b c:World} (h:Chg S a b) (g:Chg S b c):Chg S a c:=
 ⟨g.os.trans h.os,g.tape.trans h.tape,g.output.trans h.output,Nat.le_trans h.size g.size,
  fun k hk hs=>(g.block k (Nat.lt_of_lt_of_le hk h.size) hs).trans (h.block k hk hs)⟩
theorem Chg.mono {S T:Nat→Prop} {a b:World} (h:Chg S a b) (hst:∀k,k<a.heap.size→S k→T k):Chg T a b:=
 ⟨h.os,h.tape,h.output,h.size,fun k hk ht=>h.block k hk (fun hs=>ht (hst k hk hs))⟩
theorem Chg.then {S T:Nat→Prop} {a b c:World} (h:Chg S a b) (g:Chg T b c) (hst:∀k,k<a.heap.size→T k→S k):Chg S a c:=
 ⟨g.os.trans h.os,g.tape.trans h.tape,g.output.trans h.output,Nat.le_trans h.size g.size,
  fun k hk hs=>(g.block k (Nat.lt_of_lt_of_le hk h.size) (fun ht=>hs (hst k hk ht))).trans (h.block k hk hs)⟩
theorem Ext.chg {S:Nat→Prop} {a b:World} (h:Ext a b):Chg S a b:=h.mono (fun _ _ hf=>hf.elim)
theorem Ext.below {a b:World} (h:Ext a b):Below a.heap.size a b:=⟨h.os,h.tape,h.output,h.size,fun k hk=>h.block k hk (fun hf=>hf)⟩
theorem Ext.alloc (w:World) (o:Obj):Ext w (w.alloc o):=
 ⟨rfl,rfl,rfl,by simp,fun k hk _=>Below.heap_alloc _ _ _ hk⟩
theorem Ext.drew (w:World):Ext w w.drew:=⟨rfl,rfl,rfl,Nat.le_refl _,fun _ _ _=>rfl⟩
theorem Chg.setCell (w:World) (a:Addr) (u:Value):Chg (· =a.block) w (w.setCell a u):=
 ⟨rfl,rfl,rfl,by simp [World.setCell],fun _ _ hs=>Below.heap_setCell _ _ _ _ hs⟩
theorem Chg.cell {S:Nat→Prop} {w w':World} (h:Chg S w w') {a:Addr} {v:Value} (hs:¬S a.block) (hc:w.cell? a=some v):w'.cell? a=some v:=
 (World.cell?_of_block (h.block a.block (World.block_lt_of_cell? w a hc) hs)).trans hc
def Blk (w:World) (b:Nat) (cs:List Value) (e:TypeId):Prop:=w.heap[b]? =some (.cells cs.toArray e (0,0))
theorem Blk.lt {w:World} {b:Nat} {cs:List Value} {e:TypeId} (h:Blk w b cs e):b<w.heap.size:=(Array.getElem?_eq_some_iff.1 h).1
theorem Blk.chg {S:Nat→Prop} {w w':World} {b:Nat} {cs:List Value} {e:TypeId} (h:Blk w b cs e) (hc:Chg S w w') (hs:¬S b:=by intro hs;first |(have h:_=_:=hs;omega)|(rcases hs with hs | hs<;>omega)):Blk w' b cs e:=
 (hc.block b h.lt hs).trans h
theorem Blk.ext {w w':World} {b:Nat} {cs:List Value} {e:TypeId} (h:Blk w b cs e) (hc:Ext w w'):Blk w' b cs e:=h.chg hc (fun hf=>hf)
theorem Blk.cell {w:World} {b:Nat} {cs:List Value} {e:TypeId} (h:Blk w b cs e) {i:Nat} {v:Value} (hv:cs[i]? =some v):w.cell? ⟨b,i,none⟩=some v:=by
 unfold Blk at h
 simp [World.cell?,h,hv]
theorem Blk.free {w:World} {b:Nat} {cs:List Value} {e:TypeId} (h:Blk w b cs e) (i:Nat):w.frozen? ⟨b,i,none⟩=false:=by
 unfold Blk at h
 simp [World.frozen?,h]
theorem Blk.new (w:World) (cs:List Value) (e:TypeId):Blk (w.alloc (.cells cs.toArray e)) w.heap.size cs e:=heap_alloc_new w _
theorem Blk.setCell {w:World} {b:Nat} {cs:List Value} {e:TypeId} (h:Blk w b cs e) (i:Nat) (u:Value):Blk (w.setCell ⟨b,i,none⟩ u) b (cs.set i u) e:=by
 unfold Blk at*
 simp only [World.setCell]
 rw [Array.getElem?_modify,if_pos rfl,h]
 simp
def bX:List Value→Nat→List Value→List Value
 | cs,_, []=>cs
 | cs,i,v::vs=>bX (cs.set i v) (i+1) vs
theorem e8 (vs:List Value):∀(cs:List Value) (i:Nat),i+vs.length≤cs.length→bX cs i vs=cs.take i++vs++cs.drop (i+vs.length):=by
 induction vs with
 | nil=>intro cs i _;simp [bX]
 | cons v vs ih=>
  intro cs i h
  simp only [List.length_cons] at h
  rw [bX,ih _ _ (by simpa using by omega)]
  rw [List.take_set,List.drop_set]
  rw [if_pos (by omega)]
  have:(List.take (i+1) cs).set i v=cs.take i++ [v]:=by
   rw [List.take_succ_eq_append_getElem (by omega:i<cs.length)]
   rw [List.set_append_right _ _ (by simp;omega)]
   simp [Nat.min_eq_left (by omega:i≤cs.length)]
  rw [this]
  simp [Nat.add_assoc,Nat.add_comm 1]
theorem cG {P:Program} (vs:List Value):∀(w:World) (b o j:Nat) (cs:List Value) (e:TypeId),Blk w b cs e→o+j+vs.length≤cs.length→(∀u∈vs,u.oneCell'=true)→
  ∃w',(storeCells ⟨b,o,none⟩ vs j).run P w= .ok () w'∧Blk w' b (bX cs (o+j) vs) e∧Chg (· =b) w w':=by
 induction vs with
 | nil=>intro w b o j cs e h _ _;exact ⟨w,by simp [storeCells],h,Chg.refl _ _⟩
 | cons v vs ih=>
  intro w b o j cs e h hl h1
  simp only [List.length_cons] at hl
  have hv:v.oneCell'=true:=h1 v (by simp)
  have hcell:w.cell? ⟨b,o+j,none⟩=some cs[o+j]:=h.cell (by simp [show o+j<cs.length by omega])
  obtain ⟨w',h2,h3,h4⟩:=ih (w.setCell ⟨b,o+j,none⟩ v) b o (j+1) (cs.set (o+j) v) e (h.setCell _ _) (by simpa using by omega) (fun u hu=>h1 u (by simp [hu]))
  refine ⟨w', ?_,by simpa [bX,Nat.add_assoc] using h3,(Chg.setCell w ⟨b,o+j,none⟩ v).trans h4⟩
  have hs:(store ((⟨b,o,none⟩:Addr).add j) v).run P w= .ok () (w.setCell ⟨b,o+j,none⟩ v):=by
   rw [Addr.add_lit]
   cases v<;>simp_all [store,Sem.run,h.free,Value.oneCell']
  simp [storeCells,hs,h2]
def eN (lo hi:Nat) (w:World) (a:Option Addr) (len cap:Nat) (vs:List Value):Prop:=
 match a with
 | none=>len=0∧cap=0∧vs= []
 | some ad=>len≤cap∧cap≤maxLen∧(vs= []∨(ad.spot=none∧lo≤ad.block∧ad.block<hi∧ad.block<w.heap.size∧∀(i:Nat) (v:Value),vs[i]? =some v→w.cell? ⟨ad.block,ad.off+i,none⟩=some v))
section
variable {lo hi:Nat} {w w':World} {a:Option Addr} {len cap:Nat} {vs:List Value}
theorem eN.nil (lo hi:Nat) (w:World):eN lo hi w none 0 0 []:=⟨rfl,rfl,rfl⟩
theorem eN.le (h:eN lo hi w a len cap vs):len≤cap∧cap≤maxLen:=by
 cases a with
 | none=>obtain ⟨rfl,rfl,_⟩:=h;simp
 | some ad=>exact ⟨h.1,h.2.1⟩
theorem eN.mono {lo' hi':Nat} (h:eN lo hi w a len cap vs) (h1:lo'≤lo) (h2:hi≤hi'):eN lo' hi' w a len cap vs:=by
 cases a with
 | none=>exact h
 | some ad=>
  obtain ⟨g1,g2,g3⟩:=h
  exact ⟨g1,g2,g3.imp id fun ⟨g4,g5,g6,g7,g8⟩=>⟨g4,by omega,by omega,g7,g8⟩⟩
theorem eN.chg {S:Nat→Prop} (h:eN lo hi w a len cap vs) (hc:Chg S w w') (hs:∀k,lo≤k→k<hi→¬S k):eN lo hi w' a len cap vs:=by
 cases a with
 | none=>exact h
 | some ad=>
  obtain ⟨g1,g2,g3⟩:=h
  exact ⟨g1,g2,g3.imp id fun ⟨g4,g5,g6,g7,g8⟩=>⟨g4,g5,g6,Nat.lt_of_lt_of_le g7 hc.size,fun i v hv=>hc.cell (hs _ g5 g6) (g8 i v hv)⟩⟩
theorem eN.ext (h:eN lo hi w a len cap vs) (hc:Ext w w'):eN lo hi w' a len cap vs:=h.chg hc (fun _ _ _ hf=>hf)
theorem eN.now (h:eN lo hi w a len cap vs):eN lo w.heap.size w a len cap vs:=by
 cases a with
 | none=>exact h
 | some ad=>
  obtain ⟨g1,g2,g3⟩:=h
  exact ⟨g1,g2,g3.imp id fun ⟨g4,g5,g6,g7,g8⟩=>⟨g4,g5,g7,g7,g8⟩⟩
theorem eN.get {ad:Addr} (h:eN lo hi w (some ad) len cap vs) {i:Nat} {v:Value} (hv:vs[i]? =some v):ad.spot=none∧lo≤ad.block∧ad.block<hi∧w.cell? ⟨ad.block,ad.off+i,none⟩=some v:=by
 obtain ⟨_,_,rfl |⟨g4,g5,g6,_,g8⟩⟩:=h
 ·simp at hv
 ·exact ⟨g4,g5,g6,g8 i v hv⟩
theorem eN.cell (h:eN lo hi w a len cap vs) {i:Nat} {v:Value} (hv:vs[i]? =some v):
  ∃b o,a=some ⟨b,o,none⟩∧w.cell? ⟨b,o+i,none⟩=some v:=by
 cases a with
 | none=>obtain ⟨_,_,rfl⟩:=h;simp at hv
 | some ad=>
  obtain ⟨g1,_,_,g2⟩:=h.get hv
  obtain ⟨b,o,s⟩:=ad
  simp only at g1;subst g1
  exact ⟨b,o,rfl,g2⟩
theorem eN.addr (h:eN lo hi w a len cap vs) (hp:0<vs.length):∃b o,a=some ⟨b,o,none⟩:=by
 obtain ⟨b,o,h1,_⟩:=h.cell (i:=0) (v:=vs[0]) (by simp [hp])
 exact ⟨b,o,h1⟩
theorem eN.load_add {ad:Addr} (h:eN lo hi w (some ad) len cap vs) {i:Nat} {v:Value} (hv:vs[i]? =some v):w.cell? (ad.add i)=some v:=by
 obtain ⟨g1,_,_,g2⟩:=h.get hv
 obtain ⟨b,o,s⟩:=ad
 simp only at g1;subst g1
 rw [Addr.add_lit];exact g2
theorem eN.part (h:eN lo hi w a len cap vs) (sz l r m:Nat) (h1:l≤r) (h2:r≤m) (h3:m≤cap) (hcells:vs.length=len*sz) (hr:r≤len):
  eN lo hi w (if m=l then a else a.map (·.add (l*sz))) (r-l) (m-l) ((vs.drop (l*sz)).take ((r-l)*sz)):=by
 cases a with
 | none=>
  obtain ⟨rfl,rfl,rfl⟩:=h
  have:m=l:=by omega
  subst this
  simp only [if_pos]
  exact ⟨by omega,by omega,by simp⟩
 | some ad=>
  have hle:=h.le
  by_cases hm:m=l
  ·rw [if_pos hm]
   have hrl:r=l:=by omega
   subst hrl
   exact ⟨by omega,by omega, .inl (by simp)⟩
  ·rw [if_neg hm]
   simp only [Option.map_some]
   refine ⟨by omega,by omega, ?_⟩
   obtain ⟨_,_,rfl |⟨g4,g5,g6,g7,g8⟩⟩:=h
   ·exact .inl (by simp)
   ·obtain ⟨b,o,s⟩:=ad
    simp only at g4 g5 g6 g7 g8;subst g4
    rw [Addr.add_lit]
    refine .inr ⟨rfl,g5,g6,g7,fun i v hv=> ?_⟩
    rw [List.getElem?_take] at hv
    split at hv
    ·rw [List.getElem?_drop] at hv
     have:=g8 _ _ hv
     simpa [Nat.add_assoc] using this
    ·cases hv
end
end Go.Cs
namespace Go.Cs
open Go Go.RowKit
def vS (s:Sem Value):Sem Next:=do pure (.value (←s))
def uS (s:Sem Unit):Sem Next:=do s;pure .skip
theorem tj {P:Program} {s:Sem Value} {w w':World} {v:Value} (h:s.run P w= .ok v w'):(vS s).run P w= .ok (.value v) w':=by
 simp [vS,h]
theorem A6 {P:Program} {s:Sem Unit} {w w':World} (h:s.run P w= .ok () w'):(uS s).run P w= .ok .skip w':=by
 simp [uS,h]
abbrev bo (op:BinOp) (T:TypeId) (ox oy:Operand) (x y:Value):Sem Value:=do eqGuard op T ox oy x y;binOp op T x y
theorem Blk.set1 {w:World} {b:Nat} {x v:Value} {e:TypeId} (h:Blk w b ([x].set 0 v) e):Blk w b [v] e:=h
def jb:TypeDesc→Bool
 | .struct _ | .array _ _=>true
 | _=>false
section
variable {P:Program} {n k:Nat} {σ:List (Nat×Value)} {w:World} {ops:Array Oper} {K:List (Nat×Value)→World→Prop} {d:Option Tmp}
theorem EA {T:TypeId} {ad:Addr} {v:Value} (hc:w.cell? ad=some v) (hT:(P.underlying T).map jb=some false:=by kernel_rfl):
  (Instr.loadAt T (.pointer (some ad))).run P w= .ok v w:=by
 obtain ⟨t,ht,hb⟩:=Option.map_eq_some_iff.1 hT
 have ha:(isAgg T).run P w= .ok false w:=by
  cases t<;>simp_all [isAgg,run_underlying ht,jb]
 simp [Instr.loadAt,Instr.sureAddr,loadVar,ha,load,Sem.run,hc]
theorem ir {T:TypeId} (hT:(P.underlying T).map jb=some true):(isAgg T).run P w= .ok true w:=by
 obtain ⟨t,ht,hb⟩:=Option.map_eq_some_iff.1 hT
 cases t<;>simp_all [isAgg,run_underlying ht,jb]
theorem kY {T:TypeId} (hT:(P.underlying T).map jb=some false):(isAgg T).run P w= .ok false w:=by
 obtain ⟨t,ht,hb⟩:=Option.map_eq_some_iff.1 hT
 cases t<;>simp_all [isAgg,run_underlying ht,jb]
theorem run_sizeOf {T sz:Nat} (hT:(P.info? T).map (·.size)=some sz):(sizeOf T).run P w= .ok sz w:=by
 obtain ⟨i,hi,rfl⟩:=Option.map_eq_some_iff.1 hT
 simp [sizeOf,typeInfo,hi]
def At (w:World) (b o:Nat) (vs:List Value):Prop:=∀(i:Nat) (v:Value),vs[i]? =some v→w.cell? ⟨b,o+i,none⟩=some v
theorem Blk.at {w:World} {b:Nat} {cs:List Value} {e:TypeId} (h:Blk w b cs e) (o:Nat) (vs:List Value) (hv:(cs.drop o).take vs.length=vs):At w b o vs:=by
 intro i v hi
 refine h.cell ?_
 rw [←hv,List.getElem?_take] at hi
 split at hi
 ·rwa [List.getElem?_drop] at hi
 ·cases hi
theorem Blk.all {w:World} {b:Nat} {cs:List Value} {e:TypeId} (h:Blk w b cs e):At w b 0 cs:=fun i v hi=>by simpa using h.cell hi
theorem At.chg {S:Nat→Prop} {w w':World} {b o:Nat} {vs:List Value} (h:At w b o vs) (hc:Chg S w w') (hs:¬S b:=by intro hs;first |(have h:_=_:=hs;omega)|(rcases hs with hs | hs<;>omega)):At w' b o vs:=fun i v hi=>hc.cell hs (h i v hi)
theorem At.ext {w w':World} {b o:Nat} {vs:List Value} (h:At w b o vs) (hc:Ext w w'):At w' b o vs:=h.chg hc (fun hf=>hf)
theorem At.sub {w:World} {b o:Nat} {vs:List Value} (h:At w b o vs) (l:Nat) (us:List Value) (hu:(vs.drop l).take us.length=us):At w b (o+l) us:=by
 intro i v hi
 rw [←hu,List.getElem?_take] at hi
 split at hi
 ·rw [List.getElem?_drop] at hi
  rw [Nat.add_assoc];exact h _ _ hi
 ·cases hi
theorem At.one {w:World} {b o:Nat} {vs:List Value} (h:At w b o vs) (l:Nat) (v:Value) (hv:vs[l]? =some v):w.cell? ⟨b,o+l,none⟩=some v:=h l v hv
theorem eN.at {lo hi:Nat} {w:World} {b o len cap:Nat} {vs:List Value} (h:eN lo hi w (some ⟨b,o,none⟩) len cap vs):At w b o vs:=fun _ _ hi=>(h.get hi).2.2.2
theorem kg {T b o:Nat} {vs:List Value} (hc:At w b o vs) (hsz:(P.info? T).map (·.size)=some vs.length:=by kernel_rfl) (hT:(P.underlying T).map jb=some true:=by kernel_rfl):
  (Instr.loadAt T (.pointer (some ⟨b,o,none⟩))).run P w= .ok (.agg vs.toArray) w:=by
 have h1:=ir (w:=w) hT
 have h2:=run_sizeOf (w:=w) hsz
 have h3:(loadCells ⟨b,o,none⟩ vs.length).run P w= .ok vs.toArray w:=run_loadCells_list w ⟨b,o,none⟩ vs (fun j v hj=>by rw [Addr.add_lit];exact hc j v hj)
 simp [Instr.loadAt,Instr.sureAddr,loadVar,h1,h2,h3]
theorem J1 {T b o e:Nat} {v:Value} {cs vs:List Value} (hB:Blk w b cs e) (hv:v.cells=vs.toArray) (hsz:(P.info? T).map (·.size)=some vs.length) (ho:o+vs.length≤cs.length) (h1:∀u∈vs,u.oneCell'=true):
  ∃w',(Instr.storeAt T (.pointer (some ⟨b,o,none⟩)) v).run P w= .ok () w'∧Blk w' b (bX cs o vs) e∧Chg (· =b) w w':=by
 obtain ⟨w',h2,h3,h4⟩:=cG (P:=P) vs w b o 0 cs e hB (by simpa using ho) h1
 refine ⟨w', ?_,by simpa using h3,h4⟩
 have h5:=run_sizeOf (w:=w) hsz
 simp [Instr.storeAt,Instr.sureAddr,storeVar,hv,h5,h2]
theorem GC {T E sz b o len cap:Nat} {kk:IntKind} {i:Nat} (hi:i<len:=by omega) (hT:P.underlying T=some (.slice E):=by kernel_rfl) (hsz:(P.info? E).map (·.size)=some sz:=by kernel_rfl):
  (Instr.indexAt T (.slice (some ⟨b,o,none⟩) len cap) (.int kk (i:Int))).run P w= .ok (.pointer (some ⟨b,o+i*sz,none⟩)) w:=by
 have h2:=run_sizeOf (w:=w) hsz
 have h3:(0:Int)≤(i:Int)∧(i:Int)<(len:Int):=by omega
 simp [Instr.indexAt,asIntOf,run_underlying hT,h2,Addr.add_lit,hi]
theorem FE {T E sz b o m:Nat} {kk:IntKind} {i:Nat} (hi:i<m:=by omega) (hT:P.underlying T=some (.array m E):=by kernel_rfl) (hsz:(P.info? E).map (·.size)=some sz:=by kernel_rfl):
  (Instr.indexAt T (.pointer (some ⟨b,o,none⟩)) (.int kk (i:Int))).run P w= .ok (.pointer (some ⟨b,o+i*sz,none⟩)) w:=by
 have h2:=run_sizeOf (w:=w) hsz
 simp [Instr.indexAt,asIntOf,run_underlying hT,h2,Addr.add_lit,hi,Instr.sureAddr]
def bnd (x:Option Value) (y:Nat) (z:Nat):Prop:=(x=none∧z=y)∨∃kk,x=some (.int kk (z:Int))
theorem kf {T E sz len cap l r m:Nat} {a:Option Addr} {lo hi mx:Option Value} (hT:P.underlying T=some (.slice E)) (hsz:(P.info? E).map (·.size)=some sz)
  (hl:bnd lo 0 l) (hh:bnd hi len r) (hm:bnd mx cap m) (hmh:mx=none∨hi≠none) (h1:l≤r) (h2:r≤m) (h3:m≤cap):
  (Instr.sliceAt T (.slice a len cap) lo hi mx).run P w= .ok (.slice (if m=l then a else a.map (·.add (l*sz))) (r-l) (m-l)) w:=by
 have g2:=run_sizeOf (w:=w) hsz
 have c1:((m:Int)≤(cap:Int)):=by omega
 have c2:((r:Int)≤(m:Int)):=by omega
 have c3:((l:Int)≤(r:Int)):=by omega
 have c4:r≤cap:=by omega
 rcases hl with ⟨rfl,rfl⟩|⟨k1,rfl⟩<;>rcases hm with ⟨rfl,rfl⟩|⟨k3,rfl⟩<;>rcases hh with ⟨rfl,rfl⟩|⟨k2,rfl⟩<;>
  simp_all [Instr.sliceAt,Instr.slice,Instr.sliceBounds,Instr.sliceBound,asIntOf,run_underlying hT]
theorem FB {T E sz m b o:Nat} (hT:P.underlying T=some (.array m E):=by kernel_rfl) (hsz:(P.info? E).map (·.size)=some sz:=by kernel_rfl):
  (Instr.sliceAt T (.pointer (some ⟨b,o,none⟩)) none none none).run P w= .ok (.slice (some ⟨b,o,none⟩) m m) w:=by
 have g2:=run_sizeOf (w:=w) hsz
 have:(if m=0 then (⟨b,o,none⟩:Addr) else Addr.add ⟨b,o,none⟩ 0)=⟨b,o,none⟩:=by split<;>simp [Addr.add_lit]
 simp [Instr.sliceAt,Instr.sliceBounds,Instr.sureAddr,run_underlying hT,g2,Addr.add_lit]
theorem FG {T E sz len b o l r m:Nat} {lo hi mx:Option Value} (hl:bnd lo 0 l) (hh:bnd hi len r) (hm:bnd mx len m) (hmh:mx=none∨hi≠none) (h1:l≤r) (h2:r≤m) (h3:m≤len) (hT:P.underlying T=some (.array len E):=by kernel_rfl) (hsz:(P.info? E).map (·.size)=some sz:=by kernel_rfl):
  (Instr.sliceAt T (.pointer (some ⟨b,o,none⟩)) lo hi mx).run P w= .ok (.slice (if m=l then some ⟨b,o,none⟩ else some ⟨b,o+l*sz,none⟩) (r-l) (m-l)) w:=by
 have g2:=run_sizeOf (w:=w) hsz
 have c1:((m:Int)≤(len:Int)):=by omega
 have c2:((r:Int)≤(m:Int)):=by omega
 have c3:((l:Int)≤(r:Int)):=by omega
 have c4:r≤len:=by omega
 rcases hl with ⟨rfl,rfl⟩|⟨k1,rfl⟩<;>rcases hm with ⟨rfl,rfl⟩|⟨k3,rfl⟩<;>rcases hh with ⟨rfl,rfl⟩|⟨k2,rfl⟩<;>
  simp_all [Instr.sliceAt,Instr.slice,Instr.sliceBounds,Instr.sliceBound,Instr.sureAddr,asIntOf,run_underlying hT,Addr.add_lit]<;>(try split)<;>rfl
theorem At.sla {w:World} {b o len:Nat} {vs:List Value} (h:At w b o vs) (hb:b<w.heap.size) (lo hi:Nat) (h1:lo≤b) (h2:b<hi) (hm:len≤maxLen):eN lo hi w (some ⟨b,o,none⟩) len len vs:=
 ⟨Nat.le_refl _,hm, .inr ⟨rfl,h1,h2,hb,h⟩⟩
theorem kK {a b:Nat} (h:a*b≤281474976710656):(a:Int)*(b:Int)≤281474976710656:=by
 have g:((a*b:Nat):Int)≤281474976710656:=by omega
 rwa [Int.natCast_mul] at g
def bE (l:List UInt8):List Value:=l.map fun c=> .int .u8 c.toNat
@[simp] theorem FD (l:List UInt8):(bE l).length=l.length:=by simp [bE]
theorem DT {l:List UInt8} {i:Nat} (h:i<l.length):(bE l)[i]? =some (.int .u8 (l[i]).toNat):=by simp [bE,h]
theorem AF (l:List UInt8) (i:Nat):(bE l).drop i=bE (l.drop i):=by simp [bE,List.map_drop]
theorem AY (l:List UInt8) (i:Nat):(bE l).take i=bE (l.take i):=by simp [bE,List.map_take]
theorem iD (l:List UInt8):∀u∈bE l,u.oneCell'=true:=by
 intro u hu
 simp only [bE,List.mem_map] at hu
 obtain ⟨c,_,rfl⟩:=hu
 rfl
end
def FQ (P:Program) (t:TypeId):List Value:=match P.info? t with
 | some i=>match i.zero with
  | some z=>z.cells.toList
  | none=> []
 | none=> []
end Go.Cs
namespace Go.Cs
open Go Go.RowKit
theorem jz {x y:Int} (h:x=y:=by omega) (h1: -9223372036854775808≤y:=by omega) (h2:y≤9223372036854775807:=by omega):IntKind.i64.wrap x=y:=by
 subst h;rw [IntKind.wrap_i64];omega
theorem iA {k:IntKind} (hk:k.signed=false) {x:Int} {m:Nat} (h:x=(m:Int)):k.wrap x=((m%2^k.bits:Nat):Int):=by
 subst h
 simp [IntKind.wrap,hk]
theorem mF {k:IntKind} (hk:k.signed=false) {x:Int} {m:Nat} (h:x=(m:Int)) (hm:m<2^k.bits):k.wrap x=(m:Int):=by
 rw [iA hk h,Nat.mod_eq_of_lt hm]
theorem zr (k:IntKind) (hk:k.signed=false) (r:BitVec k.bits):k.wrap (r.toNat:Int)=(r.toNat:Int):=
 mF hk rfl r.isLt
theorem gj (n m:Nat):BitVec.ofInt n (m:Int)=BitVec.ofNat n m:=by simp
theorem Kr (k:IntKind) (hk:k.signed=false) {a b:Nat} (ha:a<2^k.bits) (hb:b<2^k.bits):k.wrap ((BitVec.ofInt k.bits (a:Int)||| BitVec.ofInt k.bits (b:Int)).toNat:Int)=((a ||| b:Nat):Int):=by
 rw [zr k hk,gj,gj,BitVec.toNat_or,BitVec.toNat_ofNat,BitVec.toNat_ofNat,Nat.mod_eq_of_lt ha,Nat.mod_eq_of_lt hb]
theorem DJ (k:IntKind) (hk:k.signed=false) {a b:Nat} (ha:a<2^k.bits) (hb:b<2^k.bits):k.wrap ((BitVec.ofInt k.bits (a:Int)&&&BitVec.ofInt k.bits (b:Int)).toNat:Int)=((a&&&b:Nat):Int):=by
 rw [zr k hk,gj,gj,BitVec.toNat_and,BitVec.toNat_ofNat,BitVec.toNat_ofNat,Nat.mod_eq_of_lt ha,Nat.mod_eq_of_lt hb]
theorem yT (k:IntKind) (hk:k.signed=false) {a b:Nat} (ha:a<2^k.bits) (hb:b<2^k.bits):k.wrap ((BitVec.ofInt k.bits (a:Int)^^^BitVec.ofInt k.bits (b:Int)).toNat:Int)=((a^^^b:Nat):Int):=by
 rw [zr k hk,gj,gj,BitVec.toNat_xor,BitVec.toNat_ofNat,BitVec.toNat_ofNat,Nat.mod_eq_of_lt ha,Nat.mod_eq_of_lt hb]
theorem zT {k:IntKind} (hk:k.signed=false) {a s:Nat}:k.wrap ((a:Int)*2^s)=((a*2^s%2^k.bits:Nat):Int):=
 iA hk (by simp)
theorem vi (a s:Nat):(a:Int).fdiv (2^s)=((a/2^s:Nat):Int):=by
 rw [Int.fdiv_eq_ediv_of_nonneg _ (by exact_mod_cast Nat.zero_le (2^s))]
 simp
theorem IA (a b:Nat):(a:Int).tdiv (b:Int)=((a/b:Nat):Int):=by
 rw [Int.tdiv_eq_ediv_of_nonneg (by omega)];simp
theorem E5 (a b:Nat):(a:Int).tmod (b:Int)=((a%b:Nat):Int):=by
 rw [Int.tmod_eq_emod_of_nonneg (by omega)];simp
structure Bs (lo hi:Nat) (w:World) (a:Option Addr) (len cap:Nat) (l:List UInt8):Prop where
 sla:eN lo hi w a len cap (bE l)
 len_eq:len=l.length
theorem Bs.ext {lo hi:Nat} {w w':World} {a:Option Addr} {len cap:Nat} {l:List UInt8} (h:Bs lo hi w a len cap l) (hc:Ext w w'):Bs lo hi w' a len cap l:=⟨h.sla.ext hc,h.len_eq⟩
theorem Bs.chg {S:Nat→Prop} {lo hi:Nat} {w w':World} {a:Option Addr} {len cap:Nat} {l:List UInt8} (h:Bs lo hi w a len cap l) (hc:Chg S w w') (hs:∀k,lo≤k→k<hi→¬S k:=by intro k h1 h2 hs;first |(have h:k=_:=hs;omega)|(rcases hs with hs | hs<;>omega)):Bs lo hi w' a len cap l:=⟨h.sla.chg hc hs,h.len_eq⟩
theorem Bs.mono {lo hi lo' hi':Nat} {w:World} {a:Option Addr} {len cap:Nat} {l:List UInt8} (h:Bs lo hi w a len cap l) (h1:lo'≤lo) (h2:hi≤hi'):Bs lo' hi' w a len cap l:=⟨h.sla.mono h1 h2,h.len_eq⟩
theorem Bs.nil (lo hi:Nat) (w:World):Bs lo hi w none 0 0 []:=⟨eN.nil lo hi w,rfl⟩
theorem Bs.le {lo hi:Nat} {w:World} {a:Option Addr} {len cap:Nat} {l:List UInt8} (h:Bs lo hi w a len cap l):len≤cap∧cap≤9223372036854775807:=by
 have:=h.sla.le;simpa [maxLen] using this
theorem Bs.addr {lo hi:Nat} {w:World} {a:Option Addr} {len cap:Nat} {l:List UInt8} (h:Bs lo hi w a len cap l) (hp:0<len):∃b o,a=some ⟨b,o,none⟩:=
 h.sla.addr (by have:=h.len_eq;simp;omega)
theorem Bs.cell {lo hi:Nat} {w:World} {b o len cap:Nat} {l:List UInt8} (h:Bs lo hi w (some ⟨b,o,none⟩) len cap l) {i:Nat} (hi':i<l.length):w.cell? ⟨b,o+i,none⟩=some (.int .u8 ((l[i]).toNat:Int)):=
 (h.sla.get (DT hi')).2.2.2
def byt (l:List UInt8) (i:Nat):Nat:=(l.getD i 0).toNat
theorem kc (l:List UInt8) (i:Nat):byt l i<256:=(l.getD i 0).toNat_lt
theorem GN {l:List UInt8} {i:Nat} (h:i<l.length):byt l i=(l[i]).toNat:=by simp [byt,List.getD,h]
theorem Bs.part {lo hi:Nat} {w:World} {a:Option Addr} {len cap:Nat} {l:List UInt8} (h:Bs lo hi w a len cap l) {a':Option Addr} {x r m:Nat} (hr:r≤len) (h1:x≤r) (hS:eN lo hi w a' (r-x) (m-x) (((bE l).drop (x*1)).take ((r-x)*1))):Bs lo hi w a' (r-x) (m-x) ((l.drop x).take (r-x)):=by
 refine ⟨?_,by have:=h.len_eq;simp;omega⟩
 rw [AF,AY] at hS
 simpa using hS
theorem Ext.own {b:Nat} {u w w':World} (h:Ext u w) (g:Chg (· =b) w w') (hb:u.heap.size≤b):Ext u w':=
 Chg.then h g (fun k hk hs=>by have:k=b:=hs;omega)
end Go.Cs
namespace Go.Cs
open Go Go.RowKit
section
variable {ro:Option Nat} {P:Program} {ops:Array Oper} {Q:Exit→Act→World→Prop} {md:Region.Mode} {C:World→Prop}
def lH (ops:Array Oper):Bool:=ops.all fun o=>match o.op with | .defer _=>false | _=>true
theorem jg (h:lH ops=true) {j:Nat} {o:Oper} (hj:ops[j]? =some o) (c:Call):o.op≠ .defer c:=by
 intro e
 obtain ⟨hlt,rfl⟩:=Array.getElem?_eq_some_iff.1 hj
 have:=Array.all_eq_true.1 h j hlt
 simp [e] at this
def mJ (P:Program) (w:World) (v:Value):Result Next→Prop
 | .ok (.value u) w'=>w'=w∧u=v
 | .ok .skip w'=>w'=w∧v=undef
 | .ok (.enter f args) w'=>w'=w∧Calls P f args w (Ret fun u w''=>u=v∧w=w'')
 | _=>False
def YC (P:Program) (ops:Array Oper) (C:World→Prop) (o:Oper) (v:Value) (a:Act):Prop:=
 (Region.wanted o (yielded ops a.tmps)=true∧∀w,C w→mJ P w v ((execOp a.eval o).run P w))∨
 (Region.wanted o (yielded ops a.tmps)=false∧v=undef)
theorem YC.wpOp {i:Nat} {o:Oper} {v:Value} {a:Act} (hd:∀c,o.op≠ .defer c) (hi:ops[i]? =some o) (hy:YC P ops C o v a)
  {K:Act→World→Prop} {w:World} (hw:C w) (h:K (a.put o.dst v) w):wpOpIn (fen ro) 0 P ops Q i K a w:=by
 unfold Go.wpOpIn
 simp only [hi]
 rcases hy with ⟨hwn,hv⟩|⟨hwn,rfl⟩
 ·simp only [hwn,if_true]
  have h2:=hv w hw
  unfold Oper.wpIn
  refine ⟨fun _ _=>trivial, ?_⟩
  rw [Oper.semAt_eq _ _ _ hd]
  cases hr:(execOp a.eval o).run P w with
  | halt _ _=>simp only [hr,mJ] at h2
  | ok nx w'=>
   cases nx with
   | value u=>simp only [hr,mJ] at h2;obtain ⟨rfl,rfl⟩:=h2;exact h
   | skip=>simp only [hr,mJ] at h2;obtain ⟨rfl,rfl⟩:=h2;exact h
   | enter f args=>
    simp only [hr,mJ] at h2
    obtain ⟨rfl,h3⟩:=h2
    rw [Oper.uponIn_enter]
    refine ⟨fun h=>(by cases h),CallsIn.mono (show CallsIn (fen ro) (0-1) P f args w' _ from callsIn_wide (n:=0-1).2 h3) ?_⟩
    rintro e w'' ⟨u,rfl,rfl,rfl⟩
    exact h
   | _=>simp only [hr,mJ] at h2
 ·simp only [hwn,Bool.false_eq_true,if_false];exact ⟨fun _ _=>trivial,h⟩
theorem YC.of_same {o:Oper} {v:Value} {a a':Act} (hy:YC P ops C o v a) (he:execOp a'.eval o=execOp a.eval o)
  (hw:Region.wanted o (yielded ops a'.tmps)=Region.wanted o (yielded ops a.tmps)):YC P ops C o v a':=by
 unfold YC at*
 rw [he,hw]
 exact hy
theorem xO {j:Nat} {oi oj:Oper} {v:Value} (hj:ops[j]? =some oj) (hap:oi.apart ops oj=true)
  (hsi:∀cs b,oi.op≠ .select cs b) (hsj:∀cs b,oj.op≠ .select cs b) (hdj:∀c,oj.op≠ .defer c)
  (hQ:∀c a w,¬Q (.panic c) a w) {K:Act→World→Prop} {a:Act} {w:World}
  (hy:YC P ops C oi v a) (h:wpOpIn (fen ro) 0 P ops Q j K (a.put oi.dst v) w):
  wpOpIn (fen ro) 0 P ops Q j (fun a' w'=>YC P ops C oi v a'∧K (a'.put oi.dst v) w') a w:=by
 obtain ⟨h1,h2,h3⟩:=Oper.apart_spec hap
 have keep:∀(a:Act),YC P ops C oi v a→∀u,YC P ops C oi v (a.put oj.dst u):=fun a hy u=>
  hy.of_same (execOp_put oi hsi a oj.dst u h3) (wanted_put oi a oj.dst u h3)
 have keepD:∀d,YC P ops C oi v {a with defers:=d::a.defers}:=fun d=>hy.of_same rfl rfl
 unfold wpOpIn at*
 simp only [hj] at*
 rw [wanted_put oj a oi.dst v h1] at h
 split
 ·rename_i hw
  simp only [hw,if_true] at h
  unfold Oper.wpIn at*
  refine ⟨fun _ _=>trivial, ?_⟩
  have h:=h.2
  rw [Oper.semAt_eq _ _ _ hdj] at h⊢
  rw [execOp_put oj hsj a oi.dst v h1] at h
  generalize (execOp a.eval oj).run P w=r at*
  cases r with
  | ok n w'=>
   cases n<;>simp only [Oper.uponIn] at h⊢
   case value u=>exact ⟨keep a hy u,by rw [←Act.put_comm a v u h2];exact h⟩
   case skip=>exact ⟨keep a hy _,by rw [←Act.put_comm a v undef h2];exact h⟩
   case defer d=>
    refine ⟨keep _ (keepD d) _, ?_⟩
    rw [←Act.put_comm _ v undef h2,←Act.put_defers]
    exact h
   case enter f args=>
    refine ⟨h.1,CallsIn.mono h.2 fun e w'' he=> ?_⟩
    cases e with
    | returned u=>exact ⟨keep a hy u,by rw [←Act.put_comm a v u h2];exact he⟩
    | panicked c=>exact (hQ _ _ _ he).elim
    | outgrown=>exact he
   case row row args=>exact ⟨h.1,RowsIn.mono h.2 fun u w'' he=>⟨keep a hy u,by rw [←Act.put_comm a v u h2];exact he⟩⟩
   case round l f tmps assign body=>
    refine ⟨h.1,RoundIn.mono h.2 fun e w'' he=> ?_⟩
    cases e with
    | returned u=>exact ⟨keep a hy u,by rw [←Act.put_comm a v u h2];exact he⟩
    | panicked c=>exact (hQ _ _ _ he).elim
    | outgrown=>exact he
  | halt x w'=>
   cases x<;>simp only [Oper.uponIn] at h⊢
   case panic u=>exact (hQ _ _ _ h).elim
 ·rename_i hw
  simp only [hw] at h
  exact ⟨fun _ _=>trivial,keep a hy _,by rw [←Act.put_comm a v undef h2];exact h.2⟩
end
section
variable {ro:Option Nat} {ds:List Deferred} {P:Program} {ops:Array Oper} {Q:Exit→Act→World→Prop} {C:World→Prop} {n fuel:Nat} {listed:Array Bool} {σ:List (Nat×Value)} {w:World}
def yld (P:Program) (ops:Array Oper) (C:World→Prop) (n:Nat) (σ:List (Nat×Value)) (i:Nat) (d:Option Tmp) (v:Value):Prop:=
 ∃o,ops[i]? =some o∧o.dst=d∧((wnt ops n σ o=true∧∀w',C w'→mJ P w' v ((execOp (ev n σ) o).run P w'))∨(wnt ops n σ o=false∧v=undef))
def pf (ops:Array Oper) (listed:Array Bool) (i:Nat):Bool:=
 lH ops&&Region.noSelect ops&&Region.free .any ops listed i&&(Region.ready .any ops listed).contains i&&(match ops[i]? with | some o=>o.dst.isSome | none=>false)
theorem jp {i:Nat} {K:List (Nat×Value)→World→Prop} (h:gw P ops n i σ w K):wpOpIn (fen ro) 0 P ops Q i (fun a w'=>∃τ,a=Fr ds n τ∧K τ w') (Fr ds n σ) w:=by
 obtain ⟨o,ho,⟨hw,h⟩|⟨hw,h⟩⟩:=h
 ·unfold wpOpIn
  simp only [ho,df,hw,if_true]
  unfold Oper.wpIn
  refine ⟨fun _ _=>trivial, ?_⟩
  rw [dS]
  cases hr:(execOp (ev n σ) o).run P w with
  | halt x w'=>simp only [hr] at h
  | ok nx w'=>
   cases nx with
   | value v=>simp only [hr] at h;rw [bQ (P:=P) (w:=w) (by rw [hr];rfl),hr];exact ⟨_,eB ..,h⟩
   | skip=>simp only [hr] at h;rw [bQ (P:=P) (w:=w) (by rw [hr];rfl),hr];exact ⟨_,eB ..,h⟩
   | enter f args=>
    simp only [hr] at h
    rw [bQ (P:=P) (w:=w) (by rw [hr];rfl),hr,Oper.uponIn_enter]
    refine ⟨fun h=>(by cases h),CallsIn.mono (show CallsIn (fen ro) (0-1) P f args w' _ from callsIn_wide (n:=0-1).2 h) ?_⟩
    rintro e w'' ⟨v,rfl,hv⟩
    exact ⟨_,eB ..,hv⟩
   | round l f tmps assign body=>
    simp only [hr] at h
    rw [bQ (P:=P) (w:=w) (by rw [hr];rfl),hr,Oper.uponIn_round]
    refine ⟨fun h=>(by cases h),RoundIn.mono (show RoundIn (fen ro) (0-1) P l f tmps assign body w' _ from h) ?_⟩
    rintro e w'' ⟨v,rfl,hv⟩
    exact ⟨_,eB ..,hv⟩
   | _=>simp only [hr] at h
 ·unfold wpOpIn
  simp only [ho,df,hw,Bool.false_eq_true,if_false]
  exact ⟨fun _ _=>trivial,_,eB ..,h⟩
end
def mX:List Nat→Nat
 | []=>0
 | t::l=>2^t ||| mX l
theorem iO (l:List Nat) (t:Nat):(mX l).testBit t=decide (t∈l):=by
 induction l with
 | nil=>simp [mX]
 | cons a l ih=>
  rw [mX,Nat.testBit_or,ih,Nat.testBit_two_pow]
  by_cases h:a=t
  ·subst h;simp
  ·have h2:¬t=a:=fun e=>h e.symm
   simp [h,h2]
def BI (ops:Array Oper) (o:Oper):Nat×Nat×Nat:=
 (match o.dst with | none=>0 | some d=>d+1,mX (o.looksAt ops),mX ((o.after.toList.filter fun e=>Region.binds .any e).map (·.on)))
def bw (ops:Array Oper):List (Nat×Nat×Nat):=ops.toList.map (BI ops)
def lm (n m:Nat):Array Bool:=((List.range n).map fun i=>m.testBit i).toArray
theorem o7 (n m i:Nat) (d:Bool):(lm n m).getD i d=if i<n then m.testBit i else d:=by
 by_cases h:i<n<;>simp [lm,h]
theorem BN (n m i:Nat):(lm n m).setIfInBounds i true=lm n (m ||| 2^i):=by
 apply Array.ext
 ·simp [lm]
 ·intro j h1 h2
  simp only [lm,Array.size_setIfInBounds,List.size_toArray,List.length_map,List.length_range] at h1
  rw [Array.getElem_setIfInBounds (by simpa [lm] using h1)]
  by_cases hij:i=j
  ·subst hij;simp [lm,Nat.testBit_or]
  ·simp [lm,hij,Nat.testBit_or]
theorem CO (n:Nat):lm n 0=Array.replicate n false:=by
 apply Array.ext
 ·simp [lm]
 ·intro i h1 h2;simp [lm]
def gu (T:List (Nat×Nat×Nat)) (m i:Nat):Bool:=
 match T[i]? with
 | none=>false
 | some (d,r,a)=>(d !=0)&& !m.testBit i&&(a&&&m==a)&&Nat.blt a (2^T.length)&&rest d r 0 T
where
 rest (d r:Nat):Nat→List (Nat×Nat×Nat)→Bool
  | _, []=>true
  | j,(d',r',a')::l=>(Nat.beq j i || m.testBit j || a'.testBit i ||(!r'.testBit (d-1)&& !Nat.beq d' d&&(Nat.beq d' 0 || !r.testBit (d'-1))))&&rest d r (j+1) l
theorem yD {T:List (Nat×Nat×Nat)} {m i d r:Nat}:∀(l:List (Nat×Nat×Nat)) (j:Nat),gu.rest m i d r j l=true→∀(k:Nat) (d' r' a':Nat),l[k]? =some (d',r',a')→
  (j+k=i∨m.testBit (j+k)=true∨a'.testBit i=true∨(r'.testBit (d-1)=false∧d'≠d∧(d'=0∨r.testBit (d'-1)=false))):=by
 intro l
 induction l with
 | nil=>intro j _ k d' r' a' h;simp at h
 | cons x l ih=>
  intro j h k d' r' a' hk
  obtain ⟨d1,r1,a1⟩:=x
  simp only [gu.rest,Bool.and_eq_true,Bool.or_eq_true,Bool.not_eq_true'] at h
  cases k with
  | zero=>
   simp only [List.getElem?_cons_zero,Option.some.injEq,Prod.mk.injEq] at hk
   obtain ⟨rfl,rfl,rfl⟩:=hk
   rcases h.1 with ((h1 | h1)| h1)|⟨⟨h1,h2⟩,h3⟩
   ·exact .inl (by rw [Nat.add_zero];exact Nat.eq_of_beq_eq_true h1)
   ·exact .inr (.inl (by rw [Nat.add_zero];exact h1))
   ·exact .inr (.inr (.inl h1))
   ·refine .inr (.inr (.inr ⟨h1, ?_,h3.imp Nat.eq_of_beq_eq_true id⟩))
    intro e;subst e;simp at h2
  | succ k=>
   have:=ih (j+1) h.2 k d' r' a' (by simpa using hk)
   rw [show j+(k+1)=j+1+k by omega]
   exact this
theorem pQ {ops:Array Oper} {T:List (Nat×Nat×Nat)} {n m i:Nat} (hT:bw ops=T) (hn:ops.size=n) (hdef:lH ops=true) (hs:Region.noSelect ops=true) (h:gu T m i=true):pf ops (lm n m) i=true:=by
 subst hT
 unfold gu at h
 have hrow:∀k:Nat,(bw ops)[k]? =(ops[k]?).map (BI ops):=by intro k;simp [bw]
 rw [hrow] at h
 cases ho:ops[i]? with
 | none=>simp [ho] at h
 | some o=>
  have hi:i<n:=by rw [←hn];exact (Array.getElem?_eq_some_iff.1 ho).1
  simp only [ho,Option.map_some] at h
  unfold BI at h
  simp only [Bool.and_eq_true,bne_iff_ne,ne_eq,Bool.not_eq_true',beq_iff_eq] at h
  obtain ⟨⟨⟨⟨h1,h2⟩,h3⟩,h8⟩,h4⟩:=h
  have h4':=yD (T:=bw ops) _ 0 h4
  cases hd:o.dst with
  | none=>simp [hd] at h1
  | some d=>
   simp only [hd,Nat.add_sub_cancel] at h4'
   unfold pf
   simp only [Bool.and_eq_true,ho,hd]
   refine ⟨⟨⟨⟨hdef,hs⟩, ?_⟩, ?_⟩,rfl⟩
   ·
    unfold Region.free
    simp only [ho,List.all_eq_true,List.mem_range]
    intro j hj
    cases hoj:ops[j]? with
    | none=>simp
    | some oj=>
     have hj':j<n:=by rw [←hn];exact hj
     have h5:=h4' j _ _ _ (by rw [hrow,hoj];rfl)
     rw [Nat.zero_add] at h5
     simp only [Bool.or_eq_true,beq_iff_eq,o7,hj',if_true]
     rcases h5 with h5 | h5 | h5 |⟨h5,h6,h7⟩
     ·exact .inl (.inl h5)
     ·exact .inl (.inr h5)
     ·refine .inr (.inl ?_)
      rw [iO] at h5
      simp only [List.mem_map,List.mem_filter,decide_eq_true_eq] at h5
      obtain ⟨e,⟨he,hb⟩,heq⟩:=h5
      rw [Array.any_eq_true']
      exact ⟨e,by simpa using he,by simp [hb,heq]⟩
     ·refine .inr (.inr ?_)
      unfold Oper.apart
      rw [iO] at h5
      simp only [decide_eq_false_iff_not] at h5
      simp only [hd,Bool.and_eq_true,Bool.not_eq_true',bne_iff_ne,ne_eq]
      refine ⟨⟨by simpa using h5, ?_⟩, ?_⟩
      ·intro e;rw [e] at h6;exact h6 rfl
      ·cases hdj:oj.dst with
       | none=>rfl
       | some dj=>
        simp only [hdj] at h7
        rcases h7 with h7 | h7
        ·cases h7
        ·rw [Nat.add_sub_cancel,iO] at h7
         simpa using h7
   ·rw [List.contains_iff_mem,mem_ready]
    refine ⟨by rw [o7,if_pos hi];exact h2,o,ho,fun e he hb=> ?_⟩
    have hbit:(mX ((o.after.toList.filter fun e=>Region.binds .any e).map (·.on))).testBit e.on=true:=by
     rw [iO]
     simp only [List.mem_map,List.mem_filter,decide_eq_true_eq]
     exact ⟨e,⟨by simpa using he,hb⟩,rfl⟩
    have hm:m.testBit e.on=true:=by
     rw [←h3] at hbit
     rw [Nat.testBit_and] at hbit
     simp only [Bool.and_eq_true] at hbit
     exact hbit.2
    rw [o7]
    split
    ·exact hm
    ·rename_i hge
     have hlen:(bw ops).length=n:=by simp [bw,hn]
     rw [Nat.blt_eq,hlen] at h8
     rw [Nat.testBit_lt_two_pow (Nat.lt_of_lt_of_le h8 (Nat.pow_le_pow_right (by decide) (by omega)))] at hbit
     cases hbit
structure RT (ops:Array Oper) (T:List (Nat×Nat×Nat)) (N:Nat):Prop where
 rows:bw ops=T
 size:ops.size=N
 nosel:Region.noSelect ops=true
 nodef:lH ops=true
def CT (ops:Array Oper) (T:List (Nat×Nat×Nat)) (N:Nat):Bool:=(bw ops==T)&&Nat.beq ops.size N&&Region.noSelect ops&&lH ops
theorem E8 {ops:Array Oper} {T:List (Nat×Nat×Nat)} {N:Nat} (h:CT ops T N=true):RT ops T N:=by
 simp only [CT,Bool.and_eq_true,beq_iff_eq] at h
 exact ⟨h.1.1.1,Nat.eq_of_beq_eq_true h.1.1.2,h.1.2,h.2⟩
end Go.Cs
namespace Go.Cs
open Go Go.RowKit
def L2 (c:UInt8):Value:= .int .u8 (c.toNat:Int)
structure Es {α:Type} (f:α→Value) (lo hi:Nat) (w:World) (a:Option Addr) (len cap:Nat) (l:List α):Prop where
 sla:eN lo hi w a len cap (l.map f)
 len_eq:len=l.length
section
variable {α:Type} {f:α→Value} {lo hi:Nat} {w w':World} {a:Option Addr} {len cap:Nat} {l:List α}
theorem Es.ext (h:Es f lo hi w a len cap l) (hc:Ext w w'):Es f lo hi w' a len cap l:=⟨h.sla.ext hc,h.len_eq⟩
theorem Es.chg {S:Nat→Prop} (h:Es f lo hi w a len cap l) (hc:Chg S w w') (hs:∀k,lo≤k→k<hi→¬S k:=by intro k h1 h2 hs;first |(have h:k=_:=hs;omega)|(rcases hs with hs | hs<;>omega)):Es f lo hi w' a len cap l:=⟨h.sla.chg hc hs,h.len_eq⟩
theorem Es.mono {lo' hi':Nat} (h:Es f lo hi w a len cap l) (h1:lo'≤lo) (h2:hi≤hi'):Es f lo' hi' w a len cap l:=⟨h.sla.mono h1 h2,h.len_eq⟩
theorem Es.nil (f:α→Value) (lo hi:Nat) (w:World):Es f lo hi w none 0 0 []:=⟨eN.nil lo hi w,rfl⟩
theorem Es.le (h:Es f lo hi w a len cap l):len≤cap∧cap≤9223372036854775807:=by
 have:=h.sla.le;simpa [maxLen] using this
theorem Es.addr (h:Es f lo hi w a len cap l) (hp:0<len):∃b o,a=some ⟨b,o,none⟩:=
 h.sla.addr (by have:=h.len_eq;simp;omega)
theorem Es.cell {b o:Nat} (h:Es f lo hi w (some ⟨b,o,none⟩) len cap l) {i:Nat} {x:α} (hx:l[i]? =some x):w.cell? ⟨b,o+i*1,none⟩=some (f x):=by
 rw [Nat.mul_one]
 exact (h.sla.get (i:=i) (v:=f x) (by simp [hx])).2.2.2
theorem Bs.es {l:List UInt8} (h:Bs lo hi w a len cap l):Es L2 lo hi w a len cap l:=⟨h.sla,h.len_eq⟩
theorem Es.bs {l:List UInt8} (h:Es L2 lo hi w a len cap l):Bs lo hi w a len cap l:=⟨h.sla,h.len_eq⟩
theorem Es.slice (h:Es f lo hi w a len cap l) (P:Program) (T E x r m:Nat) (xl xh mx:Option Value) (hl:bnd xl 0 x:=by first | exact .inl ⟨rfl,rfl⟩| exact .inr ⟨_,rfl⟩) (hh:bnd xh len r:=by first | exact .inl ⟨rfl,rfl⟩| exact .inr ⟨_,rfl⟩) (hm:bnd mx cap m:=by first | exact .inl ⟨rfl,rfl⟩| exact .inr ⟨_,rfl⟩) (hmh:mx=none∨xh≠none:=by simp) (h1:x≤r:=by omega) (h2:r≤m:=by omega) (h3:m≤cap:=by omega) (h4:r≤len:=by omega) (hT:P.underlying T=some (.slice E):=by kernel_rfl) (hsz:(P.info? E).map (·.size)=some 1:=by kernel_rfl):
  ∃a',(∀w',(Instr.sliceAt T (.slice a len cap) xl xh mx).run P w'= .ok (.slice a' (r-x) (m-x)) w')∧Es f lo hi w a' (r-x) (m-x) ((l.drop x).take (r-x)):=by
 refine ⟨_,fun w'=>kf hT hsz hl hh hm hmh h1 h2 h3, ?_,by have:=h.len_eq;simp;omega⟩
 have:=h.sla.part 1 x r m h1 h2 h3 (by have:=h.len_eq;simp;omega) h4
 simpa [List.map_drop,List.map_take] using this
theorem Bs.slice {l:List UInt8} (h:Bs lo hi w a len cap l) (P:Program) (T E x r m:Nat) (xl xh mx:Option Value) (hl:bnd xl 0 x:=by first | exact .inl ⟨rfl,rfl⟩| exact .inr ⟨_,rfl⟩) (hh:bnd xh len r:=by first | exact .inl ⟨rfl,rfl⟩| exact .inr ⟨_,rfl⟩) (hm:bnd mx cap m:=by first | exact .inl ⟨rfl,rfl⟩| exact .inr ⟨_,rfl⟩) (hmh:mx=none∨xh≠none:=by simp) (h1:x≤r:=by omega) (h2:r≤m:=by omega) (h3:m≤cap:=by omega) (h4:r≤len:=by omega) (hT:P.underlying T=some (.slice E):=by kernel_rfl) (hsz:(P.info? E).map (·.size)=some 1:=by kernel_rfl):
  ∃a',(∀w',(Instr.sliceAt T (.slice a len cap) xl xh mx).run P w'= .ok (.slice a' (r-x) (m-x)) w')∧Bs lo hi w a' (r-x) (m-x) ((l.drop x).take (r-x)):=by
 obtain ⟨a',h5,h6⟩:=h.es.slice P T E x r m xl xh mx hl hh hm hmh h1 h2 h3 h4 hT hsz
 exact ⟨a',h5,h6.bs⟩
end
structure Ms {α:Type} (f:α→List Value) (sz lo hi:Nat) (w:World) (a:Option Addr) (len cap:Nat) (l:List α):Prop where
 sla:eN lo hi w a len cap (l.flatMap f)
 len_eq:len=l.length
 each:∀x,(f x).length=sz
theorem cC {α:Type} {f:α→List Value} {sz:Nat} (hf:∀x,(f x).length=sz):∀(l:List α),(l.flatMap f).length=l.length*sz
 | []=>by simp
 | x::l=>by simp only [List.flatMap_cons,List.length_append,List.length_cons,hf,cC hf l];rw [Nat.add_mul,Nat.one_mul,Nat.add_comm]
theorem eG {α:Type} {f:α→List Value} {sz:Nat} (hf:∀x,(f x).length=sz):∀(l:List α) (i:Nat),(l.flatMap f).drop (i*sz)=(l.drop i).flatMap f
 | l,0=>by simp
 | [],i+1=>by simp
 | x::l,i+1=>by
  rw [List.flatMap_cons,List.drop_succ_cons,←eG hf l i,Nat.add_mul,Nat.one_mul,Nat.add_comm (i*sz),←List.drop_drop,List.drop_left' (hf x)]
theorem eH {α:Type} {f:α→List Value} {sz:Nat} (hf:∀x,(f x).length=sz):∀(l:List α) (i:Nat),(l.flatMap f).take (i*sz)=(l.take i).flatMap f
 | l,0=>by simp
 | [],i+1=>by simp
 | x::l,i+1=>by
  rw [List.flatMap_cons,List.take_succ_cons,List.flatMap_cons,←eH hf l i,Nat.add_mul,Nat.one_mul,Nat.add_comm (i*sz),List.take_append,hf x]
  rw [List.take_of_length_le (by rw [hf x];omega),Nat.add_sub_cancel_left]
section
variable {α:Type} {f:α→List Value} {sz lo hi:Nat} {w w':World} {a:Option Addr} {len cap:Nat} {l:List α}
theorem Ms.ext (h:Ms f sz lo hi w a len cap l) (hc:Ext w w'):Ms f sz lo hi w' a len cap l:=⟨h.sla.ext hc,h.len_eq,h.each⟩
theorem Ms.chg {S:Nat→Prop} (h:Ms f sz lo hi w a len cap l) (hc:Chg S w w') (hs:∀k,lo≤k→k<hi→¬S k:=by intro k h1 h2 hs;first |(have h:k=_:=hs;omega)|(rcases hs with hs | hs<;>omega)):Ms f sz lo hi w' a len cap l:=⟨h.sla.chg hc hs,h.len_eq,h.each⟩
theorem Ms.mono {lo' hi':Nat} (h:Ms f sz lo hi w a len cap l) (h1:lo'≤lo) (h2:hi≤hi'):Ms f sz lo' hi' w a len cap l:=⟨h.sla.mono h1 h2,h.len_eq,h.each⟩
theorem Ms.nil (f:α→List Value) (lo hi:Nat) (w:World) (hf:∀x,(f x).length=sz):Ms f sz lo hi w none 0 0 []:=⟨eN.nil lo hi w,rfl,hf⟩
theorem Ms.now (h:Ms f sz lo hi w a len cap l):Ms f sz lo w.heap.size w a len cap l:=⟨h.sla.now,h.len_eq,h.each⟩
theorem Ms.le (h:Ms f sz lo hi w a len cap l):len≤cap∧cap≤9223372036854775807:=by
 have:=h.sla.le;simpa [maxLen] using this
theorem Ms.addr (h:Ms f sz lo hi w a len cap l) (hp:0<len) (hz:0<sz):∃b o,a=some ⟨b,o,none⟩:=
 h.sla.addr (by rw [cC h.each];have:=h.len_eq;exact Nat.mul_pos (by omega) hz)
theorem Ms.at {b o:Nat} (h:Ms f sz lo hi w (some ⟨b,o,none⟩) len cap l) (d:α) {i:Nat} (hi:i<len):At w b (o+i*sz) (f (l.getD i d)):=by
 refine (h.sla.at).sub (i*sz) _ ?_
 have h1:i<l.length:=by have:=h.len_eq;omega
 rw [eG h.each,List.drop_eq_getElem_cons h1,List.flatMap_cons]
 simp [List.getD,h1]
theorem Ms.cell {b o:Nat} (h:Ms f sz lo hi w (some ⟨b,o,none⟩) len cap l) (d:α) {i j:Nat} {v:Value} (hi:i<len) (hv:(f (l.getD i d))[j]? =some v):w.cell? ⟨b,o+i*sz+j,none⟩=some v:=h.at d hi j v hv
end
theorem Ms.slice {α:Type} {f:α→List Value} {sz lo hi:Nat} {w:World} {a:Option Addr} {len cap:Nat} {l:List α} (h:Ms f sz lo hi w a len cap l) (P:Program) (T E x r m:Nat) (xl xh mx:Option Value) (hl:bnd xl 0 x:=by first | exact .inl ⟨rfl,rfl⟩| exact .inr ⟨_,rfl⟩) (hh:bnd xh len r:=by first | exact .inl ⟨rfl,rfl⟩| exact .inr ⟨_,rfl⟩) (hm:bnd mx cap m:=by first | exact .inl ⟨rfl,rfl⟩| exact .inr ⟨_,rfl⟩) (hmh:mx=none∨xh≠none:=by simp) (h1:x≤r:=by omega) (h2:r≤m:=by omega) (h3:m≤cap:=by omega) (h4:r≤len:=by omega) (hT:P.underlying T=some (.slice E):=by kernel_rfl) (hsz:(P.info? E).map (·.size)=some sz:=by kernel_rfl):
  ∃a',(∀w',(Instr.sliceAt T (.slice a len cap) xl xh mx).run P w'= .ok (.slice a' (r-x) (m-x)) w')∧Ms f sz lo hi w a' (r-x) (m-x) ((l.drop x).take (r-x)):=by
 refine ⟨_,fun w'=>kf hT hsz hl hh hm hmh h1 h2 h3, ?_,by have:=h.len_eq;simp;omega,h.each⟩
 have:=h.sla.part sz x r m h1 h2 h3 (by rw [cC h.each,h.len_eq]) h4
 rw [eG h.each,eH h.each] at this
 exact this
def Lz (x:UInt8×UInt8):List Value:= [.int .u8 ((x.1.toNat:Nat):Int), .int .u8 ((x.2.toNat:Nat):Int)]
@[simp] theorem Kp (x:UInt8×UInt8):(Lz x).length=2:=rfl
def ov (a:Option Addr) (k:Nat):Prop:=∃ad,a=some ad∧ad.block=k
structure Own {α:Type} (f:α→Value) (lo hi:Nat) (w:World) (a:Option Addr) (len cap:Nat) (e:TypeId) (l:List α):Prop where
 row:w.ownsRow lo e 1 (.slice a len cap) len (l.map f)
 len_eq:len=l.length
 below:∀ad,a=some ad→ad.block<hi
section
variable {α:Type} {f:α→Value} {lo hi:Nat} {w w':World} {a:Option Addr} {len cap:Nat} {e:TypeId} {l:List α}
theorem Own.nil (f:α→Value) (lo hi:Nat) (w:World) (e:TypeId):Own f lo hi w none 0 0 e []:=⟨by simpa using World.ownsRow_nil w lo e 1,rfl,by intro ad h;cases h⟩
theorem Own.ne {k:Nat} (h:Own f lo hi w a len cap e l) (hk:ov a k):lo≤k∧k<hi:=by
 obtain ⟨ad,rfl,rfl⟩:=hk
 refine ⟨?_,h.below ad rfl⟩
 have:=h.row.lt ad.block rfl
 exact this.1
theorem Own.blk (h:Own f lo hi w a len cap e l):(a=none∧len=0∧cap=0)∨∃b cs,a=some ⟨b,0,none⟩∧Blk w b cs e∧lo≤b∧b<hi∧len≤cap∧cap≤maxLen∧cs.length=cap∧cs.take len=l.map f:=by
 rcases h.row.2 with ⟨h1,h2⟩|⟨g,c,cur,h1,h2,h3,h4,h5,h6,h7⟩
 ·cases h1;exact .inl ⟨rfl,rfl,rfl⟩
 ·cases h1
  refine .inr ⟨g,cur.toList,rfl,by simpa [Blk] using h3,h2,h.below _ rfl,h4,h5,by simpa using h6,by simpa using h7⟩
theorem Own.chg {S:Nat→Prop} (h:Own f lo hi w a len cap e l) (hc:Chg S w w') (hs:∀k,lo≤k→k<hi→¬S k:=by intro k h1 h2 hs;first |(have h:k=_:=hs;omega)|(rcases hs with hs | hs<;>omega)):Own f lo hi w' a len cap e l:=by
 refine ⟨⟨h.row.1, ?_⟩,h.len_eq,h.below⟩
 rcases h.row.2 with h1 |⟨g,c,cur,h1,h2,h3,h4⟩
 ·exact .inl h1
 ·cases h1
  have hlt:g<w.heap.size:=(Array.getElem?_eq_some_iff.1 h3).1
  exact .inr ⟨g,cap,cur,rfl,h2,by rw [hc.block g hlt (hs g h2 (h.below _ rfl))];exact h3,h4⟩
theorem Own.ext (h:Own f lo hi w a len cap e l) (hc:Ext w w'):Own f lo hi w' a len cap e l:=h.chg hc (fun _ _ _ hf=>hf)
theorem Own.mono {lo' hi':Nat} (h:Own f lo hi w a len cap e l) (h1:lo'≤lo) (h2:hi≤hi'):Own f lo' hi' w a len cap e l:=by
 refine ⟨⟨h.row.1, ?_⟩,h.len_eq,fun ad ha=>Nat.lt_of_lt_of_le (h.below ad ha) h2⟩
 rcases h.row.2 with h3 |⟨g,c,cur,h3,h4,h5⟩
 ·exact .inl h3
 ·exact .inr ⟨g,c,cur,h3,by omega,h5⟩
theorem Own.es (h:Own f lo hi w a len cap e l):Es f lo hi w a len cap l:=by
 refine ⟨?_,h.len_eq⟩
 rcases h.blk with ⟨rfl,rfl,rfl⟩|⟨b,cs,rfl,hB,h1,h2,h3,h4,h5,h6⟩
 ·have:l= []:=List.eq_nil_of_length_eq_zero h.len_eq.symm
  subst this
  exact eN.nil _ _ _
 ·refine ⟨h3,h4, .inr ⟨rfl,h1,h2,hB.lt,fun i v hv=> ?_⟩⟩
  rw [←h6,List.getElem?_take] at hv
  split at hv
  ·simpa using hB.cell hv
  ·cases hv
theorem Own.bs {l:List UInt8} (h:Own L2 lo hi w a len cap e l):Bs lo hi w a len cap l:=h.es.bs
theorem Own.now (h:Own f lo hi w a len cap e l):Own f lo w.heap.size w a len cap e l:=
 ⟨h.row,h.len_eq,by rintro ad rfl;exact (h.row.lt ad.block rfl).2⟩
end
theorem Chg.of_grown {w w':World} {a:Option Addr} {len cap:Nat} (h:w.grownBy w' (Value.ownBlock (.slice a len cap))):Chg (ov a) w w':=by
 refine ⟨h.os,h.tape,h.output,h.size,fun k hk hs=>h.block k hk ?_⟩
 intro e
 cases a with
 | none=>simp [Value.ownBlock] at e
 | some ad=>simp [Value.ownBlock] at e;exact hs ⟨ad,rfl,e.symm⟩
theorem Blk.slice {w:World} {b:Nat} {cs:List Value} {e:TypeId} {len cap:Nat} (_h:Blk w b cs e) (P:Program) (T E x r m:Nat) (xl xh mx:Option Value) (hl:bnd xl 0 x:=by first | exact .inl ⟨rfl,rfl⟩| exact .inr ⟨_,rfl⟩) (hh:bnd xh len r:=by first | exact .inl ⟨rfl,rfl⟩| exact .inr ⟨_,rfl⟩) (hm:bnd mx cap m:=by first | exact .inl ⟨rfl,rfl⟩| exact .inr ⟨_,rfl⟩) (hmh:mx=none∨xh≠none:=by simp) (h1:x≤r:=by omega) (h2:r≤m:=by omega) (h3:m≤cap:=by omega) (hT:P.underlying T=some (.slice E):=by kernel_rfl) (hsz:(P.info? E).map (·.size)=some 1:=by kernel_rfl):
  ∃a',(∀w',(Instr.sliceAt T (.slice (some ⟨b,0,none⟩) len cap) xl xh mx).run P w'= .ok (.slice a' (r-x) (m-x)) w')∧(x<r→a'=some ⟨b,x,none⟩):=by
 refine ⟨_,fun w'=>kf hT hsz hl hh hm hmh h1 h2 h3,fun hlt=> ?_⟩
 rw [if_neg (by omega)]
 simp [Addr.add_lit]
def Part (lo hi:Nat) (w:World) (v:Value) (l:List UInt8):Prop:=∃a n c,v= .slice a n c∧Bs lo hi w a n c l
theorem Part.of {lo hi lo' hi':Nat} {w:World} {a:Option Addr} {n c:Nat} {l:List UInt8} (h:Bs lo' hi' w a n c l) (h1:lo≤lo') (h2:hi'≤hi):Part lo hi w (.slice a n c) l:=⟨a,n,c,rfl,h.mono h1 h2⟩
theorem Part.nil (lo hi:Nat) (w:World):Part lo hi w (.slice none 0 0) []:=⟨none,0,0,rfl,Bs.nil _ _ _⟩
theorem Part.chg {S:Nat→Prop} {lo hi:Nat} {w w':World} {v:Value} {l:List UInt8} (h:Part lo hi w v l) (hc:Chg S w w') (hs:∀k,lo≤k→k<hi→¬S k):Part lo hi w' v l:=by
 obtain ⟨a,n,c,h1,h2⟩:=h
 exact ⟨a,n,c,h1,h2.chg hc hs⟩
def Parts (lo hi:Nat) (w:World):List Value→List (List UInt8)→Prop
 | [], []=>True
 | v::vs,l::ls=>Part lo hi w v l∧Parts lo hi w vs ls
 | _,_=>False
theorem Parts.nil {lo hi:Nat} {w:World}:Parts lo hi w [] []:=trivial
theorem Parts.cons {lo hi:Nat} {w:World} {v:Value} {l:List UInt8} {vs:List Value} {ls:List (List UInt8)} (h:Part lo hi w v l) (g:Parts lo hi w vs ls):Parts lo hi w (v::vs) (l::ls):=⟨h,g⟩
theorem Parts.length {lo hi:Nat} {w:World}:∀{vs:List Value} {ls:List (List UInt8)},Parts lo hi w vs ls→vs.length=ls.length
 | [], [],_=>rfl
 | _::_,_::_,h=>by simpa using Parts.length h.2
theorem Parts.chg {S:Nat→Prop} {lo hi:Nat} {w w':World} (hc:Chg S w w') (hs:∀k,lo≤k→k<hi→¬S k):∀{vs:List Value} {ls:List (List UInt8)},Parts lo hi w vs ls→Parts lo hi w' vs ls
 | [], [],_=>trivial
 | _::_,_::_,h=>⟨h.1.chg hc hs,Parts.chg hc hs h.2⟩
theorem Parts.get {lo hi:Nat} {w:World}:∀{vs:List Value} {ls:List (List UInt8)},Parts lo hi w vs ls→∀(i:Nat),i<ls.length→∃a n c,vs[i]? =some (.slice a n c)∧Bs lo hi w a n c (ls.getD i [])
 | [], [],_,i,hi=>by simp at hi
 | _::_,_::_,h,i,hi=>by
  cases i with
  | zero=>
   obtain ⟨a,n,c,rfl,h3⟩:=h.1
   exact ⟨a,n,c,rfl,by simpa using h3⟩
  | succ i=>simpa using Parts.get h.2 i (by simpa using hi)
structure Ps (lo hi:Nat) (w:World) (a:Option Addr) (len cap:Nat) (vs:List Value) (ls:List (List UInt8)):Prop where
 sla:eN lo hi w a len cap vs
 len_eq:len=ls.length
 parts:Parts lo hi w vs ls
section
variable {lo hi:Nat} {w w':World} {a:Option Addr} {len cap:Nat} {vs:List Value} {ls:List (List UInt8)}
theorem Ps.chg {S:Nat→Prop} (h:Ps lo hi w a len cap vs ls) (hc:Chg S w w') (hs:∀k,lo≤k→k<hi→¬S k:=by intro k h1 h2 hs;first |(have h:k=_:=hs;omega)|(rcases hs with hs | hs<;>omega)):Ps lo hi w' a len cap vs ls:=⟨h.sla.chg hc hs,h.len_eq,Parts.chg hc hs h.parts⟩
theorem Ps.ext (h:Ps lo hi w a len cap vs ls) (hc:Ext w w'):Ps lo hi w' a len cap vs ls:=h.chg hc (fun _ _ _ hf=>hf)
theorem Ps.le (h:Ps lo hi w a len cap vs ls):len≤cap∧cap≤9223372036854775807:=by
 have:=h.sla.le;simpa [maxLen] using this
theorem Ps.nil (lo hi:Nat) (w:World):Ps lo hi w none 0 0 [] []:=⟨eN.nil lo hi w,rfl, .nil⟩
theorem Ps.addr (h:Ps lo hi w a len cap vs ls) (hp:0<len):∃b o,a=some ⟨b,o,none⟩:=
 h.sla.addr (by have:=h.len_eq;have:=Parts.length h.parts;omega)
theorem Ps.cell {b o:Nat} (h:Ps lo hi w (some ⟨b,o,none⟩) len cap vs ls) {i:Nat} (hi':i<len):∃a' n c,w.cell? ⟨b,o+i*1,none⟩=some (.slice a' n c)∧Bs lo hi w a' n c (ls.getD i []):=by
 obtain ⟨a',n,c,h1,h2⟩:=h.parts.get i (by have:=h.len_eq;omega)
 exact ⟨a',n,c,by rw [Nat.mul_one];exact (h.sla.get h1).2.2.2,h2⟩
end
theorem Bs.now {lo hi:Nat} {w:World} {a:Option Addr} {len cap:Nat} {l:List UInt8} (h:Bs lo hi w a len cap l):Bs lo w.heap.size w a len cap l:=⟨h.sla.now,h.len_eq⟩
theorem Es.now {α:Type} {f:α→Value} {lo hi:Nat} {w:World} {a:Option Addr} {len cap:Nat} {l:List α} (h:Es f lo hi w a len cap l):Es f lo w.heap.size w a len cap l:=⟨h.sla.now,h.len_eq⟩
theorem Parts.now {lo hi:Nat} {w:World}:∀{vs:List Value} {ls:List (List UInt8)},Parts lo hi w vs ls→Parts lo w.heap.size w vs ls
 | [], [],_=>trivial
 | _::_,_::_,⟨⟨a,n,c,e,h⟩,h2⟩=>⟨⟨a,n,c,e,h.now⟩,Parts.now h2⟩
theorem Ps.now {lo hi:Nat} {w:World} {a:Option Addr} {len cap:Nat} {vs:List Value} {ls:List (List UInt8)} (h:Ps lo hi w a len cap vs ls):Ps lo w.heap.size w a len cap vs ls:=⟨h.sla.now,h.len_eq,Parts.now h.parts⟩
theorem Part.at {lo hi:Nat} {w:World} {a:Option Addr} {n c:Nat} {l:List UInt8} (h:Bs lo hi w a n c l):Part 0 w.heap.size w (.slice a n c) l:=⟨a,n,c,rfl,h.now.mono (Nat.zero_le _) (Nat.le_refl _)⟩
end Go.Cs
namespace Go.Cs
open Go Go.RowKit
structure Dig where
 l:List UInt8
 h:l.length=32
structure Non where
 sh:Nat
 ct:Nat
 hsh:sh<2^32
 hct:ct<2^64
structure Rec where
 st:Nat
 non:Non
 tag:Dig
 hst:st<256
structure Ent where
 st:Nat
 dg:Dig
 hst:st<256
structure Cel where
 root:Dig
 ep:Nat
 mark:Nat
 hep:ep<2^64
 hmk:mark<2^64
theorem Dig.ext' {a b:Dig} (h:a.l=b.l):a=b:=by cases a;cases b;cases h;rfl
theorem Non.ext' {a b:Non} (h:a.sh=b.sh) (h2:a.ct=b.ct):a=b:=by cases a;cases b;cases h;cases h2;rfl
theorem Rec.ext' {a b:Rec} (h:a.st=b.st) (h2:a.non=b.non) (h3:a.tag=b.tag):a=b:=by cases a;cases b;cases h;cases h2;cases h3;rfl
theorem Ent.ext' {a b:Ent} (h:a.st=b.st) (h3:a.dg=b.dg):a=b:=by cases a;cases b;cases h;cases h3;rfl
theorem Cel.ext' {a b:Cel} (h:a.root=b.root) (h2:a.ep=b.ep) (h3:a.mark=b.mark):a=b:=by cases a;cases b;cases h;cases h2;cases h3;rfl
def Dig.zero:Dig:=⟨List.replicate 32 0,by simp⟩
def Non.zero:Non:=⟨0,0,by decide,by decide⟩
def Rec.zero:Rec:=⟨0,Non.zero,Dig.zero,by decide⟩
def Ent.zero:Ent:=⟨0,Dig.zero,by decide⟩
def Cel.zero:Cel:=⟨Dig.zero,0,0,by decide,by decide⟩
def Dig.of (l:List UInt8):Dig:=⟨(l++List.replicate 32 0).take 32,by simp⟩
theorem Dig.of_l {l:List UInt8} (h:l.length=32):(Dig.of l).l=l:=by simp [Dig.of,List.take_append,←h]
def ay (d:Dig):List Value:=bE d.l
def br (x:Non):List Value:= [.int .u32 ((x.sh:Nat):Int), .int .u64 ((x.ct:Nat):Int)]
def bY (x:Rec):List Value:= .int .u8 ((x.st:Nat):Int):: .int .u32 ((x.non.sh:Nat):Int):: .int .u64 ((x.non.ct:Nat):Int)::ay x.tag
def c6 (x:Ent):List Value:= .int .u8 ((x.st:Nat):Int)::ay x.dg
def aL (x:Cel):List Value:=ay x.root++ [.int .u64 ((x.ep:Nat):Int), .int .u64 ((x.mark:Nat):Int)]
@[simp] theorem c5 (d:Dig):(ay d).length=32:=by simp [ay,d.h]
@[simp] theorem qu (x:Non):(br x).length=2:=rfl
@[simp] theorem hZ (x:Rec):(bY x).length=35:=by simp [bY]
@[simp] theorem jG (x:Ent):(c6 x).length=33:=by simp [c6]
@[simp] theorem rW (x:Cel):(aL x).length=34:=by simp [aL]
theorem jM (d:Dig):∀u∈ay d,u.oneCell'=true:=iD _
theorem Ar (x:Non):∀u∈br x,u.oneCell'=true:=by intro u hu;simp [br] at hu;rcases hu with rfl | rfl<;>rfl
theorem mj (x:Rec):∀u∈bY x,u.oneCell'=true:=by
 intro u hu
 simp only [bY,List.mem_cons] at hu
 rcases hu with rfl | rfl | rfl | hu
 ·rfl
 ·rfl
 ·rfl
 ·exact jM _ u hu
theorem lK (x:Ent):∀u∈c6 x,u.oneCell'=true:=by
 intro u hu
 simp only [c6,List.mem_cons] at hu
 rcases hu with rfl | hu
 ·rfl
 ·exact jM _ u hu
theorem Bm (x:Cel):∀u∈aL x,u.oneCell'=true:=by
 intro u hu
 simp only [aL,List.mem_append,List.mem_cons,List.not_mem_nil,or_false] at hu
 rcases hu with hu | rfl | rfl
 ·exact jM _ u hu
 ·rfl
 ·rfl
theorem uO (x:Rec):((bY x).drop 3).take (ay x.tag).length=ay x.tag:=List.take_of_length_le (Nat.le_refl _)
theorem zN (x:Ent):((c6 x).drop 1).take (ay x.dg).length=ay x.dg:=List.take_of_length_le (Nat.le_refl _)
theorem rA (x:Cel):((aL x).drop 0).take (ay x.root).length=ay x.root:=by simp [aL,List.take_append]
theorem Ai (x:Cel):(aL x)[32]? =some (.int .u64 ((x.ep:Nat):Int)):=by rw [aL,List.getElem?_append_right (by simp)];simp
theorem A4 (x:Cel):(aL x)[33]? =some (.int .u64 ((x.mark:Nat):Int)):=by rw [aL,List.getElem?_append_right (by simp)];simp
theorem yN (vs:List Value):∀(cs:List Value) (off k:Nat),(vs.zipIdx k).foldl (fun (cs:Array Value) (x:Value×Nat)=>match x with |(c,j)=>cs.setIfInBounds (off+j) c) cs.toArray=(bX cs (off+k) vs).toArray:=by
 induction vs with
 | nil=>intro cs off k;rfl
 | cons v vs ih=>
  intro cs off k
  rw [List.zipIdx_cons,List.foldl_cons]
  simp only [List.setIfInBounds_toArray]
  rw [ih]
  rfl
theorem eM {place:Nat→Option (Nat×Nat)} {cs vs:List Value} {i:Nat} {v:Value} {rest:List (Nat×Value)} {off size:Nat} (hp:place i=some (off,size)) (hv:v.cells=vs.toArray) (hl:vs.length=size) (ho:off+size≤cs.length):
  Instr.fill place cs.toArray ((i,v)::rest)=Instr.fill place (bX cs off vs).toArray rest:=by
 have hf:=yN vs cs off 0
 rw [Instr.fill,hp]
 simp only [hv,List.size_toArray,hl]
 rw [if_neg (by simp;omega),←Array.foldl_toList,Array.toList_zipIdx]
 rw [Nat.add_zero] at hf
 exact congrArg (fun z=>Instr.fill place z rest) hf
def lf (P:Program) (t:TypeId):Option (List (Nat×Nat)):=
 match P.underlying t with
 | some (.struct fs)=>fs.toList.mapM (fun f=>(P.info? f.type).map fun i=>(f.offset,i.size))
 | _=>none
section
variable {P:Program} {n k:Nat} {σ:List (Nat×Value)} {w w':World} {ops:Array Oper} {K:List (Nat×Value)→World→Prop} {d:Option Tmp}
theorem mp {T:TypeId} {parts:Array (Nat×Value)} {pl:List (Nat×Nat)} {z:Value} {cs vs:List Value} (hp:lf P T=some pl) (hz:(P.info? T).map (·.zero)=some (some z)) (hzc:z.cells=cs.toArray)
  (hf:Instr.fill (pl.toArray[·]?) cs.toArray parts.toList=some vs.toArray):(Instr.build T parts).run P w= .ok (.agg vs.toArray) w:=by
 refine run_build w T parts _ ?_
 unfold lf at hp
 unfold Program.built
 obtain ⟨it,hit,hz2⟩:=Option.map_eq_some_iff.1 hz
 cases hu:P.underlying T with
 | none=>simp [hu] at hp
 | some u=>
  cases u<;>simp [hu] at hp
  simp only [hit,hz2,hp,hzc,hf]
def bj (P:Program) (t:TypeId):List (Bool×TypeId×Nat):=(P.fieldsOf t).toList.map fun f=>(decide (f.name≠ "_"),f.type,f.offset)
def Cj (d:Nat) (xs ys:Array Value):List (Bool×TypeId×Nat)→Sem Bool
 | []=>pure true
 |(b,t,o)::fs=>
  if b=true then do
   let a←part t xs o
   let c←part t ys o
   let r←Op.equalIn d t a c
   if (!r)=true then pure false else Cj d xs ys fs
  else Cj d xs ys fs
theorem FT (d:Nat) (xs ys:Array Value) (fs:List Field):Op.eqFields d xs ys fs=Cj d xs ys (fs.map fun f=>(decide (f.name≠ "_"),f.type,f.offset)):=by
 induction fs with
 | nil=>rfl
 | cons f fs ih=>
  rw [Op.eqFields,List.map_cons,Cj,ih]
  by_cases h:f.name= "_" <;>simp [h]
theorem a6 {dd:Nat} {xs ys:Array Value} {t o:Nat} {fs:List (Bool×TypeId×Nat)} {a c:Value} {r s:Bool} (h1:(part t xs o).run P w= .ok a w) (h2:(part t ys o).run P w= .ok c w)
  (h3:(Op.equalIn dd t a c).run P w= .ok r w) (h4:(Cj dd xs ys fs).run P w= .ok s w):(Cj dd xs ys ((true,t,o)::fs)).run P w= .ok (r&&s) w:=by
 rw [Cj]
 simp only [if_true,Sem.run_bind,h1,h2,h3,Result.andThen_ok]
 cases r<;>simp [h4]
theorem aI {t o:Nat} {vs:List Value} {v:Value} (hT:(P.underlying t).map jb=some false) (hv:vs[o]? =some v):(part t vs.toArray o).run P w= .ok v w:=by
 simp [part,kY hT,hv]
theorem aT {t o sz:Nat} {vs us:List Value} (hT:(P.underlying t).map jb=some true) (hsz:(P.info? t).map (·.size)=some sz) (hv:(vs.drop o).take sz=us):(part t vs.toArray o).run P w= .ok (.agg us.toArray) w:=by
 simp [part,ir hT,run_sizeOf hsz,←hv,List.extract_eq_take_drop]
theorem gB {dd t e:Nat} (x y:Dig) (ht:P.underlying t=some (.array 32 e):=by kernel_rfl) (he:P.underlying e=some (.int .u8):=by kernel_rfl) (hsz:(P.info? e).map (·.size)=some 1:=by kernel_rfl):(Op.equalIn (dd+2) t (.agg (ay x).toArray) (.agg (ay y).toArray)).run P w= .ok (x.l==y.l) w:=
 run_equalIn_bytes w dd t e 32 ht he (fun w=>run_sizeOf hsz) x.l y.l x.h y.h
theorem de {dd t:Nat} {kk:IntKind} (a b:Nat) (h:P.underlying t=some (.int kk)):(Op.equalIn (dd+1) t (.int kk ((a:Nat):Int)) (.int kk ((b:Nat):Int))).run P w= .ok (a==b) w:=by
 rw [run_equalIn_int w dd t kk kk _ _ h]
 congr 1
 rw [Bool.eq_iff_iff];simp;omega
theorem ci {t:TypeId} (h:∃x xs,bj P t=x::xs):P.underlying t=some (.struct (P.fieldsOf t)):=by
 obtain ⟨x,xs,h⟩:=h
 unfold bj Program.fieldsOf at*
 split at h
 ·next fs hu=>simp [hu,Program.fieldsOf]
 ·simp at h
theorem cp {dd t:Nat} {xs ys:Array Value} {fs:List (Bool×TypeId×Nat)} {x:Bool×TypeId×Nat} {r:Bool} (hF:bj P t=x::fs) (hp:P.stoodInHeld t=false) (h:(Cj dd xs ys (x::fs)).run P w= .ok r w):
  (Op.equalIn (dd+1) t (.agg xs) (.agg ys)).run P w= .ok r w:=by
 rw [run_equalIn_struct w dd t xs ys (ci ⟨x,fs,hF⟩) hp,FT]
 unfold bj at hF
 rw [hF,h]
def Non.eqb (x y:Non):Bool:=x.sh==y.sh&&(x.ct==y.ct&&true)
def Rec.eqb (x y:Rec):Bool:=x.st==y.st&&(x.non.eqb y.non&&(x.tag.l==y.tag.l&&true))
def Ent.eqb (x y:Ent):Bool:=x.st==y.st&&(x.dg.l==y.dg.l&&true)
def Cel.eqb (x y:Cel):Bool:=x.root.l==y.root.l&&(x.ep==y.ep&&(x.mark==y.mark&&true))
theorem Non.eqb_iff (x y:Non):x.eqb y=true↔x=y:=by
 constructor
 ·intro h;simp [Non.eqb] at h;exact Non.ext' h.1 h.2
 ·rintro rfl;simp [Non.eqb]
theorem Rec.eqb_iff (x y:Rec):x.eqb y=true↔x=y:=by
 constructor
 ·intro h;simp [Rec.eqb] at h;exact Rec.ext' h.1 ((Non.eqb_iff _ _).1 h.2.1) (Dig.ext' h.2.2)
 ·rintro rfl;simp [Rec.eqb,(Non.eqb_iff x.non x.non).2 rfl]
theorem Ent.eqb_iff (x y:Ent):x.eqb y=true↔x=y:=by
 constructor
 ·intro h;simp [Ent.eqb] at h;exact Ent.ext' h.1 (Dig.ext' h.2)
 ·rintro rfl;simp [Ent.eqb]
theorem Cel.eqb_iff (x y:Cel):x.eqb y=true↔x=y:=by
 constructor
 ·intro h;simp [Cel.eqb] at h;exact Cel.ext' (Dig.ext' h.1) h.2.1 h.2.2
 ·rintro rfl;simp [Cel.eqb]
theorem i5 {dd t t32 t64:Nat} (x y:Non) (hF:bj P t= [(true,t32,0),(true,t64,1)]:=by kernel_rfl) (hp:P.stoodInHeld t=false:=by kernel_rfl) (h1:P.underlying t32=some (.int .u32):=by kernel_rfl) (h2:P.underlying t64=some (.int .u64):=by kernel_rfl):
  (Op.equalIn (dd+2) t (.agg (br x).toArray) (.agg (br y).toArray)).run P w= .ok (x.eqb y) w:=
 cp hF hp (a6 (aI (by rw [h1];rfl) rfl) (aI (by rw [h1];rfl) rfl) (de _ _ h1)
  (a6 (aI (by rw [h2];rfl) rfl) (aI (by rw [h2];rfl) rfl) (de _ _ h2) rfl))
theorem mP {dd t t8 tn td e t32 t64:Nat} (x y:Rec) (hF:bj P t= [(true,t8,0),(true,tn,1),(true,td,3)]:=by kernel_rfl) (hp:P.stoodInHeld t=false:=by kernel_rfl) (h8:P.underlying t8=some (.int .u8):=by kernel_rfl)
  (hFn:bj P tn= [(true,t32,0),(true,t64,1)]:=by kernel_rfl) (hpn:P.stoodInHeld tn=false:=by kernel_rfl) (h1:P.underlying t32=some (.int .u32):=by kernel_rfl) (h2:P.underlying t64=some (.int .u64):=by kernel_rfl) (hsn:(P.info? tn).map (·.size)=some 2:=by kernel_rfl)
  (hd:P.underlying td=some (.array 32 e):=by kernel_rfl) (he:P.underlying e=some (.int .u8):=by kernel_rfl) (hse:(P.info? e).map (·.size)=some 1:=by kernel_rfl) (hsd:(P.info? td).map (·.size)=some 32:=by kernel_rfl):
  (Op.equalIn (dd+3) t (.agg (bY x).toArray) (.agg (bY y).toArray)).run P w= .ok (x.eqb y) w:=
 cp hF hp (a6 (aI (by rw [h8];rfl) rfl) (aI (by rw [h8];rfl) rfl) (de _ _ h8)
  (a6 (aT (us:=br x.non) (by rw [ci ⟨_,_,hFn⟩];rfl) hsn rfl) (aT (us:=br y.non) (by rw [ci ⟨_,_,hFn⟩];rfl) hsn rfl) (i5 _ _ hFn hpn h1 h2)
   (a6 (aT (us:=ay x.tag) (by rw [hd];rfl) hsd (by have:=uO x;rwa [c5] at this)) (aT (us:=ay y.tag) (by rw [hd];rfl) hsd (by have:=uO y;rwa [c5] at this)) (gB _ _ hd he hse) rfl)))
theorem mm {dd t t8 td e:Nat} (x y:Ent) (hF:bj P t= [(true,t8,0),(true,td,1)]:=by kernel_rfl) (hp:P.stoodInHeld t=false:=by kernel_rfl) (h8:P.underlying t8=some (.int .u8):=by kernel_rfl)
  (hd:P.underlying td=some (.array 32 e):=by kernel_rfl) (he:P.underlying e=some (.int .u8):=by kernel_rfl) (hse:(P.info? e).map (·.size)=some 1:=by kernel_rfl) (hsd:(P.info? td).map (·.size)=some 32:=by kernel_rfl):
  (Op.equalIn (dd+3) t (.agg (c6 x).toArray) (.agg (c6 y).toArray)).run P w= .ok (x.eqb y) w:=
 cp hF hp (a6 (aI (by rw [h8];rfl) rfl) (aI (by rw [h8];rfl) rfl) (de _ _ h8)
   (a6 (aT (us:=ay x.dg) (by rw [hd];rfl) hsd (by have:=zN x;rwa [c5] at this)) (aT (us:=ay y.dg) (by rw [hd];rfl) hsd (by have:=zN y;rwa [c5] at this)) (gB _ _ hd he hse) rfl))
theorem tq {dd t td e t64:Nat} (x y:Cel) (hF:bj P t= [(true,td,0),(true,t64,32),(true,t64,33)]:=by kernel_rfl) (hp:P.stoodInHeld t=false:=by kernel_rfl) (h2:P.underlying t64=some (.int .u64):=by kernel_rfl)
  (hd:P.underlying td=some (.array 32 e):=by kernel_rfl) (he:P.underlying e=some (.int .u8):=by kernel_rfl) (hse:(P.info? e).map (·.size)=some 1:=by kernel_rfl) (hsd:(P.info? td).map (·.size)=some 32:=by kernel_rfl):
  (Op.equalIn (dd+3) t (.agg (aL x).toArray) (.agg (aL y).toArray)).run P w= .ok (x.eqb y) w:=
 cp hF hp (a6 (aT (us:=ay x.root) (by rw [hd];rfl) hsd (by have:=rA x;rwa [c5] at this)) (aT (us:=ay y.root) (by rw [hd];rfl) hsd (by have:=rA y;rwa [c5] at this)) (gB _ _ hd he hse)
  (a6 (aI (by rw [h2];rfl) (Ai x)) (aI (by rw [h2];rfl) (Ai y)) (de _ _ h2)
   (a6 (aI (by rw [h2];rfl) (A4 x)) (aI (by rw [h2];rfl) (A4 y)) (de _ _ h2) rfl)))
theorem se {T:TypeId} {ox oy:Operand} {xs ys:Array Value} {r:Bool} (h:(Op.equalIn 10000 T (.agg xs) (.agg ys)).run P w= .ok r w) (hm:P.eqGuardType P.depth T=false:=by kernel_rfl):
  (bo .eql T ox oy (.agg xs) (.agg ys)).run P w= .ok (.bool r) w:=by
 simp only [Sem.run_bind,run_eqGuard_agg w .eql T ox oy xs ys hm,Result.andThen_ok,run_eql_struct,h]
theorem gE {T:TypeId} {ox oy:Operand} {xs ys:Array Value} {r:Bool} (h:(Op.equalIn 10000 T (.agg xs) (.agg ys)).run P w= .ok r w) (hm:P.eqGuardType P.depth T=false:=by kernel_rfl):
  (bo .neq T ox oy (.agg xs) (.agg ys)).run P w= .ok (.bool (!r)) w:=by
 simp only [Sem.run_bind,run_eqGuard_agg w .neq T ox oy xs ys hm,Result.andThen_ok,run_neq_struct,h]
theorem sD {T E m len cap:Nat} {a:Option Addr} (h:m≤len) (hT:P.underlying T=some (.array m E):=by kernel_rfl):(Instr.arrayAt T (.slice a len cap)).run P w= .ok (.pointer a) w:=by
 simp [Instr.arrayAt,run_underlying hT,Nat.not_lt.2 h]
end
end Go.Cs
namespace Go.Cs
open Go Go.RowKit
def xR (o:Oper):Bool:=match o.op with
 | .load _ _=>true
 | _=>false
def Mv (es:List Edge) (k:Nat):Bool:=es.any fun e=>Region.binds .any e&&Nat.beq e.on k
def vW (j:Nat) (es:List Edge):Nat→List Oper→Bool
 | _, []=>true
 | k,o::r=>(Nat.beq k j || !xR o || Mv es k)&&vW j es (k+1) r
def iu (ops:Array Oper) (j:Nat):Bool:=match ops[j]? with
 | none=>false
 | some o=>vW j o.after.toList 0 ops.toList
theorem mB {j:Nat} {es:List Edge}:∀{l:List Oper} {k:Nat},vW j es k l=true→∀i o,l[i]? =some o→xR o=true→k+i≠j→∃e∈es,Region.binds .any e=true∧e.on=k+i
 | [],k,h,i,o,ho,_,_=>by simp at ho
 | q::l,k,h,i,o,ho,hr,hj=>by
  simp only [vW,Bool.and_eq_true] at h
  cases i with
  | zero=>
   simp only [List.getElem?_cons_zero,Option.some.injEq] at ho
   subst ho
   have h1:=h.1
   rw [hr] at h1
   have h2:Nat.beq k j=false:=by
    cases hb:Nat.beq k j with
    | false=>rfl
    | true=>exact absurd (Nat.eq_of_beq_eq_true hb) hj
   rw [h2] at h1
   simp only [Bool.not_true,Bool.or_self,Bool.false_or,Mv,List.any_eq_true,Bool.and_eq_true] at h1
   obtain ⟨e,he,h3,h4⟩:=h1
   exact ⟨e,he,h3,Nat.eq_of_beq_eq_true h4⟩
  | succ i=>
   simp only [List.getElem?_cons_succ] at ho
   have:=mB h.2 i o ho hr (by omega)
   rwa [show k+1+i=k+(i+1) by omega] at this
theorem t3 {ops:Array Oper} {j i:Nat} {oj oi:Oper} (h:iu ops j=true) (hj:ops[j]? =some oj) (hi:ops[i]? =some oi) (hr:xR oi=true) (hne:i≠j):∃e∈oj.after,Region.binds .any e=true∧e.on=i:=by
 unfold iu at h
 rw [hj] at h
 obtain ⟨e,he,h1,h2⟩:=mB h i oi (by simpa using hi) hr (by omega)
 exact ⟨e,by simpa using he,h1,by omega⟩
def iz (ro:Option Nat) (P:Program) (ops:Array Oper) (Q:Exit→Act→World→Prop) (C:World→Prop):Nat→Array Bool→Act→World→Prop
 | 0,listed,a,w=>Region.ready .any ops listed= []∧Q .normal a w
 | fuel+1,listed,a,w=>
  (Region.ready .any ops listed= []→Q .normal a w)∧
  ∀i∈Region.ready .any ops listed,wpOpIn (fen ro) 0 P ops Q i (fun a' w'=>(C w→iu ops i=true∨C w')∧iz ro P ops Q C fuel (listed.setIfInBounds i true) a' w') a w
section
variable {ro:Option Nat} {P:Program} {ops:Array Oper} {Q:Exit→Act→World→Prop} {C:World→Prop}
theorem lP:∀(fuel:Nat) (listed:Array Bool) (a:Act) (w:World),iz ro P ops Q C fuel listed a w→wpAnyIn (fen ro) 0 P .any ops Q fuel listed a w
 | 0,_,_,_,h=>h
 | fuel+1,_,_,_,h=>⟨h.1,fun i hi=>wpOpIn_mono (fun a' w' h'=>lP fuel _ a' w' h'.2) (h.2 i hi)⟩
theorem pN {i:Nat} {oi:Oper} {v:Value} {D:World→Prop} (hi:ops[i]? =some oi) (hdef:lH ops=true) (hsel:∀(j:Nat) (o:Oper) cs b,ops[j]? =some o→o.op≠ .select cs b)
  (hQ:∀c a w,¬Q (.panic c) a w) (hD:(xR oi=true∧D=C)∨∀w,D w):
  ∀(fuel:Nat) (listed:Array Bool) (a:Act) (w:World),(C w∨∀w,D w)→
   (∀j oj,ops[j]? =some oj→j≠i→listed.getD j true=false→(∀e∈oj.after,Region.binds .any e=true→e.on≠i)→oi.apart ops oj=true)→
   i∈Region.ready .any ops listed→YC P ops D oi v a→
   iz ro P ops Q C fuel (listed.setIfInBounds i true) (a.put oi.dst v) w→iz ro P ops Q C (fuel+1) listed a w:=by
 have hDw:∀w,(C w∨∀w,D w)→D w:=fun w h=>by
  rcases hD with ⟨_,rfl⟩| hD
  ·rcases h with h | h;exact h;exact h w
  ·exact hD w
 intro fuel
 induction fuel with
 | zero=>
  intro listed a w hw _ hr hy H
  refine ⟨fun h=>(by rw [h] at hr;cases hr),fun j hj=> ?_⟩
  by_cases hji:j=i
  ·subst hji;exact hy.wpOp (jg hdef hi) hi (hDw w hw) ⟨.inr,H⟩
  ·have:=ready_mono hj hji
   rw [H.1] at this
   cases this
 | succ fuel ih=>
  intro listed a w hw hfree hr hy H
  refine ⟨fun h=>(by rw [h] at hr;cases hr),fun j hj=> ?_⟩
  by_cases hji:j=i
  ·subst hji;exact hy.wpOp (jg hdef hi) hi (hDw w hw) ⟨.inr,H⟩
  ·have h1:=H.2 j (ready_mono hj hji)
   obtain ⟨hjun,oj,hoj,hall⟩:=mem_ready.1 hj
   have hnot:∀e∈oj.after,Region.binds .any e=true→e.on≠i:=fun e he hb heq=>by
    have h1:=hall e he hb
    have h0:=(mem_ready.1 hr).1
    rw [heq] at h1
    rcases Nat.lt_or_ge i listed.size with h' | h'
    ·simp [h'] at h0 h1;rw [h0] at h1;cases h1
    ·simp [Array.getElem?_eq_none h'] at h1
   have h2:=xO hoj (hfree j oj hoj hji hjun hnot) (fun cs b=>hsel i oi cs b hi) (fun cs b=>hsel j oj cs b hoj) (jg hdef hoj) hQ hy h1
   have hfree':∀k ok,ops[k]? =some ok→k≠i→(listed.setIfInBounds j true).getD k true=false→
     (∀e∈ok.after,Region.binds .any e=true→e.on≠i)→oi.apart ops ok=true:=fun k ok hk hki hun hno=>by
    refine hfree k ok hk hki ?_ hno
    by_cases hjk:j=k
    ·subst hjk;exact hjun
    ·rw [getD_set_ne true hjk] at hun;exact hun
   have hnl:xR oi=true→iu ops j=false:=fun hrd=>by
    cases hb:iu ops j with
    | false=>rfl
    | true=>
     obtain ⟨e,he,h3,h4⟩:=t3 hb hoj hi hrd (Ne.symm hji)
     exact absurd h4 (hnot e he h3)
   refine wpOpIn_mono (fun a' w' h3=> ?_) h2
   have hcw:C w'∨∀w,D w:=by
    rcases hw with hw | hw
    ·rcases hD with ⟨hrd,_⟩| hD
     ·exact .inl ((h3.2.1 hw).resolve_left (by rw [hnl hrd];simp))
     ·exact .inr hD
    ·exact .inr hw
   refine ⟨h3.2.1,ih (listed.setIfInBounds j true) a' w' hcw hfree' (ready_mono hr (Ne.symm hji)) h3.1 ?_⟩
   rw [Array.setIfInBounds_comm _ _ hji]
   exact h3.2.2
theorem ri {i:Nat} {oi:Oper} {v:Value} {D:World→Prop} {fuel:Nat} {listed:Array Bool} {a:Act} {w:World} (hi:ops[i]? =some oi)
  (hdef:lH ops=true) (hs:Region.noSelect ops=true) (hf:Region.free .any ops listed i=true) (hr:(Region.ready .any ops listed).contains i=true)
  (hQ:∀c a w,¬Q (.panic c) a w) (hD:(xR oi=true∧D=C)∨∀w,D w) (hw:C w∨∀w,D w) (hy:YC P ops D oi v a)
  (h:iz ro P ops Q C fuel (listed.setIfInBounds i true) (a.put oi.dst v) w):iz ro P ops Q C (fuel+1) listed a w:=
 pN hi hdef (Region.noSelect_spec hs) hQ hD fuel listed a w hw (Region.free_spec hi hf) (by simpa using hr) hy h
end
def kR {ro:Option Nat} {ds:List Deferred} (P:Program) (ops:Array Oper) (Q:Exit→Act→World→Prop) (C:World→Prop) (n N fuel m:Nat) (σ:List (Nat×Value)) (w:World):Prop:=
 iz ro P ops Q C fuel (lm N m) (Fr ds n σ) w
section
variable {ro:Option Nat} {ds:List Deferred} {P:Program} {ops:Array Oper} {Q:Exit→Act→World→Prop} {C D:World→Prop} {n N fuel m:Nat} {σ:List (Nat×Value)} {w:World} {T:List (Nat×Nat×Nat)}
theorem ke {id:Nat} (C:World→Prop) (N:Nat) (T:List (Nat×Nat×Nat))
  (h:RT ops T N→kR (ro:=ro) (ds:=ds) P ops Q C n N N 0 σ w.drew) (hm:P.follows .mixedOrders=true:=by kernel_rfl) (hT:CT ops T N=true:=by kernel_rfl):i4 (ro:=ro) (ds:=ds) P (.region id ops true) Q n σ w:=by
 have h1:=h (E8 hT)
 have h2:=(E8 hT).size
 subst h2
 refine wpIn_region_any hm (lP (C:=C) _ _ _ _ ?_)
 rw [←CO];exact h1
theorem jZ [hq:NoPan Q] (hT:RT ops T N) (i m':Nat) {o:Oper} (ho:ops[i]? =some o) (v:Value) (hD:(xR o=true∧D=C)∨∀w,D w) (hw:C w∨∀w,D w) (hy:yld P ops D n σ i o.dst v)
  (h:kR (ro:=ro) (ds:=ds) P ops Q C n N fuel m' (putσ σ o.dst v) w) (hc:gu T m i=true) (hm:m ||| 2^i=m'):kR (ro:=ro) (ds:=ds) P ops Q C n N (fuel+1) m σ w:=by
 have hc':=pQ hT.rows hT.size hT.nodef hT.nosel hc
 simp only [pf,Bool.and_eq_true] at hc'
 obtain ⟨⟨⟨⟨h0,h1⟩,h2⟩,h3⟩,_⟩:=hc'
 obtain ⟨o',ho',hd,h5⟩:=hy
 rw [ho] at ho'
 cases ho'
 refine ri ho h0 h1 h2 h3 hq.no hD hw ?_ (by rw [eB,BN,hm];exact h)
 rcases h5 with ⟨h6,h7⟩|⟨h6,h7⟩
 ·exact .inl ⟨by rw [df];exact h6,fun w' hw'=>by rw [dS];exact h7 w' hw'⟩
 ·exact .inr ⟨by rw [df];exact h6,h7⟩
theorem iV (rs:List Nat) (hr:Region.ready .any ops (lm N m)=rs) (hne:rs≠ []) (h:∀i∈rs,gw P ops n i σ w (fun τ w'=>(C w→iu ops i=true∨C w')∧kR (ro:=ro) (ds:=ds) P ops Q C n N fuel (m ||| 2^i) τ w')):kR (ro:=ro) (ds:=ds) P ops Q C n N (fuel+1) m σ w:=by
 unfold kR iz
 refine ⟨fun h0=>absurd (hr▸h0) hne,fun j hj=> ?_⟩
 rw [hr] at hj
 refine wpOpIn_mono ?_ (jp (h j hj))
 rintro a w' ⟨τ,rfl,h1,h2⟩
 rw [BN]
 exact ⟨h1,h2⟩
theorem oA (h:Q .normal (Fr ds n σ) w) (hr:Region.ready .any ops (lm N m)= []):kR (ro:=ro) (ds:=ds) P ops Q C n N fuel m σ w:=by
 unfold kR
 cases fuel with
 | zero=>exact ⟨hr,h⟩
 | succ f=>exact ⟨fun _=>h,by rw [hr];simp⟩
end
end Go.Cs
namespace Go.Cs
open Go Go.RowKit
structure Book (B:Nat) (w w':World):Prop where
 os:w'.os=w.os
 tape:w'.tape=w.tape
 output:w'.output=w.output
 size:w.heap.size≤w'.heap.size
 low:∀k,k<B→k<w.heap.size→w'.heap[k]? =w.heap[k]?
 cells:∀(k:Nat) (o:Obj),w.heap[k]? =some o→o.isCells=true→w'.heap[k]? =some o
theorem Book.refl (B:Nat) (w:World):Book B w w:=⟨rfl,rfl,rfl,Nat.le_refl _,fun _ _ _=>rfl,fun _ _ h _=>h⟩
theorem Book.trans {B:Nat} {a b c:World} (h:Book B a b) (g:Book B b c):Book B a c:=
 ⟨g.os.trans h.os,g.tape.trans h.tape,g.output.trans h.output,Nat.le_trans h.size g.size,fun k hk h1=>(g.low k hk (Nat.lt_of_lt_of_le h1 h.size)).trans (h.low k hk h1),fun k o h1 h2=>g.cells k o (h.cells k o h1 h2) h2⟩
theorem Book.alloc {B:Nat} (w:World) (o:Obj):Book B w (w.alloc o):=
 ⟨rfl,rfl,rfl,by simp,fun k _ hk=>Below.heap_alloc _ _ _ hk,fun k o' h _=>(Below.heap_alloc _ _ _ (Array.getElem?_eq_some_iff.1 h).1).trans h⟩
theorem Book.putObj {B l:Nat} {w:World} {o:Obj} (o':Obj) (hB:B≤l) (hl:w.heap[l]? =some o) (ho:o.isCells=false):Book B w (w.putObj l o'):=
 ⟨rfl,rfl,rfl,by simp [World.putObj],fun k hk _=>World.putObj_heap_other (by omega),fun k o2 h h2=>by
  have:k≠l:=by rintro rfl;rw [hl] at h;cases h;rw [ho] at h2;cases h2
  exact (World.putObj_heap_other this).trans h⟩
theorem Book.cell {B:Nat} {w w':World} (g:Book B w w') {a:Addr} {v:Value} (h:w.cell? a=some v):w'.cell? a=some v:=by
 obtain ⟨o,h1,h2⟩:=cells_of_cell h
 exact (World.cell?_of_block ((g.cells _ _ h1 h2).trans h1.symm)).trans h
theorem Book.chg {B:Nat} {w w':World} (g:Book B w w'):Chg (fun b=>B≤b) w w':=⟨g.os,g.tape,g.output,g.size,fun k hk hs=>g.low k (by omega) hk⟩
structure Kpt (w w':World):Prop where
 size:w.heap.size≤w'.heap.size
 same:∀(k:Nat) (o:Obj),w.heap[k]? =some o→o.isCells=false→w'.heap[k]? =some o
theorem Kpt.refl (w:World):Kpt w w:=⟨Nat.le_refl _,fun _ _ h _=>h⟩
theorem Kpt.trans {a b c:World} (h:Kpt a b) (g:Kpt b c):Kpt a c:=⟨Nat.le_trans h.size g.size,fun k o h1 h2=>g.same k o (h.same k o h1 h2) h2⟩
theorem Kpt.ext {a b c:World} (h:Kpt a b) (g:Ext b c):Kpt a c:=h.trans ⟨g.size,fun k o h1 _=>(g.block k (Array.getElem?_eq_some_iff.1 h1).1 (fun hf=>hf)).trans h1⟩
theorem Kpt.blk {a b c:World} {k:Nat} {cs:List Value} {e:TypeId} (h:Kpt a b) (hB:Blk b k cs e) (g:Chg (· =k) b c):Kpt a c:=h.trans ⟨g.size,fun j o h1 h2=>by
 have:j≠k:=by
  rintro rfl
  have h3:b.heap[j]? =_:=hB
  rw [h3] at h1;cases h1;cases h2
 exact (g.block j (Array.getElem?_eq_some_iff.1 h1).1 this).trans h1⟩
theorem Kpt.own {α:Type} {f:α→Value} {lo hi len cap:Nat} {e:TypeId} {l:List α} {a b c:World} {ad:Option Addr} (h:Kpt a b) (hO:Own f lo hi b ad len cap e l) (g:Chg (ov ad) b c):Kpt a c:=h.trans ⟨g.size,fun j o h1 h2=>by
 refine (g.block j (Array.getElem?_eq_some_iff.1 h1).1 ?_).trans h1
 rintro ⟨ad',rfl,rfl⟩
 rcases hO.blk with ⟨h3,_⟩|⟨b',cs,h3,hB,_⟩
 ·cases h3
 ·cases h3
  have h4:b.heap[b']? =_:=hB
  rw [h4] at h1;cases h1;cases h2⟩
def Yat (P:Program) (l:Nat) (args:List Value) (w:World) (R:Value→World→Prop):Prop:=
 ∃fn tmps assign body,(Instr.yield l args.toArray).run P w= .ok (.round l fn tmps assign body) w∧Rnd P l fn tmps assign body w (Ret R)
def RPost (B:Nat) (U:Nat→Prop) (I:Nat→World→Prop) (Ix:Code→Nat→World→Prop) (k:Nat) (w:World):Exit→Act→World→Prop
 | .normal,_,w'=>Kpt w w'∧Chg (fun b=>B≤b∨U b) w w'∧I (k+1) w'
 | .ret,_,w'=>Kpt w w'∧Chg (fun b=>B≤b∨U b) w w'∧Ix .ret k w'
 | .exit id,_,w'=>Kpt w w'∧Chg (fun b=>B≤b∨U b) w w'∧Ix (.exit id) k w'
 | .goto t,_,w'=>Kpt w w'∧Chg (fun b=>B≤b∨U b) w w'∧Ix (.goto t) k w'
 | .panic _,_,_=>False
 | .outgrown,_,_=>False
instance {B:Nat} {U:Nat→Prop} {I:Nat→World→Prop} {Ix:Code→Nat→World→Prop} {k:Nat} {w:World}:NoPan (RPost B U I Ix k w):=⟨fun _ _ _ h=>h⟩
def gX:List Tmp→List Value→List (Nat×Value)→List (Nat×Value)
 | p::ps,v::vs,σ=>gX ps vs ((p,v)::σ)
 | _,_,σ=>σ
theorem sB (n:Nat):∀(ps:List Tmp) (vs:List Value) (σ:List (Nat×Value)),(ps.zip vs).foldl (fun t (x:Tmp×Value)=>t.setIfInBounds x.1 x.2) (Fr [] n σ).tmps=(Fr [] n (gX ps vs σ)).tmps:=by
 intro ps
 induction ps with
 | nil=>intro vs σ;rfl
 | cons p ps ih=>
  intro vs σ
  cases vs with
  | nil=>rfl
  | cons v vs=>
   have h2:(Fr [] n σ).tmps.setIfInBounds p v=(Fr [] n ((p,v)::σ)).tmps:=congrArg Act.tmps (eB [] n σ (some p) v)
   rw [gX,←ih vs ((p,v)::σ),←h2]
   rfl
theorem mG (n:Nat) (ps:List Tmp) (vs:List Value) (σ:List (Nat×Value)):((ps.toArray.zip vs.toArray).foldl (fun t (x:Tmp×Value)=>t.setIfInBounds x.1 x.2) (Fr [] n σ).tmps)=(Fr [] n (gX ps vs σ)).tmps:=by
 have hz:ps.toArray.zip vs.toArray=(ps.zip vs).toArray:=by simp
 rw [←sB,hz,←Array.foldl_toList]
def Mk (w:World) (D:Nat):Prop:=w.heap[D]? =some (.deferred (some []))
theorem Mk.lt {w:World} {D:Nat} (h:Mk w D):D<w.heap.size:=(Array.getElem?_eq_some_iff.1 h).1
theorem Mk.chg {S:Nat→Prop} {w w':World} {D:Nat} (h:Mk w D) (hc:Chg S w w') (hs:¬S D:=by intro hs;first |(have h:_=_:=hs;omega)|(rcases hs with hs | hs<;>omega)):Mk w' D:=(hc.block D h.lt hs).trans h
theorem Mk.ext {w w':World} {D:Nat} (h:Mk w D) (hc:Ext w w'):Mk w' D:=h.chg hc (fun hf=>hf)
theorem Yat.mono {P:Program} {l:Nat} {args:List Value} {w:World} {R R':Value→World→Prop} (h:Yat P l args w R) (hr:∀v w',R v w'→R' v w'):Yat P l args w R':=by
 obtain ⟨fn,tmps,assign,body,h1,h2⟩:=h
 exact ⟨fn,tmps,assign,body,h1,RoundIn.mono h2 fun e w' ⟨v,he,hv⟩=>⟨v,he,hr v w' hv⟩⟩
abbrev mark (D:Nat):List Deferred:= [{target:= .collected D,args:= #[]}]
end Go.Cs
namespace Go.Cs
open Go Go.RowKit
def pick (sz:Nat) (P:Nat→Bool) (g:Nat→UInt8):List UInt8:=(List.range sz).map fun j=>if P j then g j else 0
@[simp] theorem D8 (sz:Nat) (P:Nat→Bool) (g:Nat→UInt8):(pick sz P g).length=sz:=by simp [pick]
theorem nT (sz:Nat) (P:Nat→Bool) (g:Nat→UInt8) (h:∀j,j<sz→P j=false):pick sz P g=List.replicate sz 0:=by
 apply List.ext_getElem
 ·simp
 ·intro j h1 h2
  simp at h1
  simp [pick,h j h1]
theorem qt (sz:Nat) (P:Nat→Bool) (g:Nat→UInt8) (h:∀j,j<sz→P j=true):pick sz P g=(List.range sz).map g:=by
 apply List.ext_getElem
 ·simp
 ·intro j h1 h2
  simp at h1
  simp [pick,h j h1]
def be (v sz:Nat):List UInt8:=(List.range sz).map fun j=>UInt8.ofNat (v/256^(sz-1-j))
@[simp] theorem gl (v sz:Nat):(be v sz).length=sz:=by simp [be]
theorem oC (i:Nat):2^(8*i)=256^i:=by rw [Nat.pow_mul]
def kV (l:List UInt8):Nat:=l.foldl (fun v c=>v*256+c.toNat) 0
theorem oD (l:List UInt8) (c:UInt8):kV (l++ [c])=kV l*256+c.toNat:=by simp [kV]
theorem qd:∀(l:List UInt8) (a:Nat),l.foldl (fun v c=>v*256+c.toNat) a<(a+1)*256^l.length:=by
 intro l
 induction l with
 | nil=>intro a;simp
 | cons c l ih=>
  intro a
  have h1:=ih (a*256+c.toNat)
  have h2:=c.toNat_lt
  have h3:(a*256+c.toNat+1)*256^l.length≤((a+1)*256)*256^l.length:=Nat.mul_le_mul_right _ (by omega)
  simp only [List.foldl_cons,List.length_cons,Nat.pow_succ]
  rw [Nat.mul_comm (256^l.length) 256,←Nat.mul_assoc]
  omega
theorem vt (l:List UInt8):kV l<256^l.length:=by simpa [kV] using qd l 0
theorem yC {l:List UInt8} {i:Nat} (h:i<l.length):kV (l.take (i+1))=kV (l.take i)*256+byt l i:=by
 rw [List.take_succ_eq_append_getElem h,oD,GN h]
theorem oN {l:List UInt8} {i:Nat} (h:i<8):kV (l.take i)*256+255<2^64:=by
 have h1:=vt (l.take i)
 have h2:(l.take i).length≤i:=by simp;omega
 have h3:256^(l.take i).length≤256^i:=Nat.pow_le_pow_right (by omega) h2
 have h4:256^i≤256^7:=Nat.pow_le_pow_right (by omega) (by omega)
 omega
theorem Cf (a b:Nat) (h:b<256):a*256 ||| b=a*256+b:=by
 have:=Nat.two_pow_add_eq_or_of_lt (i:=8) (b:=b) (by simpa using h) a
 rw [show (2:Nat)^8=256 from rfl,Nat.mul_comm 256 a] at this
 exact this.symm
def dz (l:List UInt8) (sz:Nat):Nat:=if l.length=sz then kV l else 0
def np (l:List UInt8) (sz:Nat):Nat:=if l.length<sz then 6 else if l.length>sz then 5 else 0
theorem uC {l:List UInt8} {sz:Nat} (h:l.length≠sz):dz l sz=0:=by simp [dz,h]
theorem pP {l:List UInt8} {sz:Nat} (h:l.length=sz):dz l sz=kV l:=by simp [dz,h]
theorem tH {l:List UInt8} {sz:Nat} (h:l.length<sz):np l sz=6:=by simp [np,h]
theorem xY {l:List UInt8} {sz:Nat} (h:l.length>sz):np l sz=5:=by
 have:¬l.length<sz:=by omega
 simp [np,h,this]
theorem C8 {l:List UInt8} {sz:Nat} (h:l.length=sz):np l sz=0:=by simp [np,h]
theorem d5 (l:List UInt8) (sz:Nat):dz l sz<2^(8*sz):=by
 unfold dz
 split
 ·rename_i h
  have:=vt l
  rw [h] at this
  rw [oC];exact this
 ·exact Nat.two_pow_pos _
end Go.Cs
namespace Go.Cs
open Go Go.RowKit
def rotl (v s:Nat):Nat:=v*2^s%2^32 ||| v/2^(32-s)
def rot (v:Nat) (n:Int):Nat:=rotl v (n%32).toNat
def jQ (v m:Nat):List Nat:=(List.range m).map fun j=>v/2^(31-j)%2
@[simp] theorem Cb (v m:Nat):(jQ v m).length=m:=by simp [jQ]
def xorl (a b:List UInt8):List UInt8:=List.zipWith (· ^^^·) a b
end Go.Cs
namespace Go.Cs
open Go Go.RowKit
theorem Dh (v n:Nat):be v (n+1)=be (v/256) n++ [UInt8.ofNat v]:=by
 unfold be
 rw [List.range_succ,List.map_append]
 congr 1
 ·apply List.map_congr_left
  intro j hj
  simp only [List.mem_range] at hj
  rw [Nat.div_div_eq_div_mul,show n+1-1-j=(n-1-j)+1 by omega,Nat.pow_succ,Nat.mul_comm]
 ·simp
theorem wP:∀(n v:Nat),v<256^n→kV (be v n)=v:=by
 intro n
 induction n with
 | zero=>intro v h;simp at h;subst h;rfl
 | succ n ih=>
  intro v h
  rw [Dh,oD,ih _ (by rw [Nat.pow_succ] at h;omega)]
  simp
  omega
theorem lZ {v:Nat} (h:v<2^64):dz (be v 8) 8=v:=by
 rw [pP (gl v 8),wP 8 v (by simpa using h)]
theorem qA {v:Nat} (h:v<2^32):dz (be v 4) 4=v:=by
 rw [pP (gl v 4),wP 4 v (by simpa using h)]
theorem Du {v k:Nat} (hv:v<2^32):rotl v k<2^32:=
 Nat.or_lt_two_pow (Nat.mod_lt _ (by decide)) (Nat.lt_of_le_of_lt (Nat.div_le_self _ _) hv)
theorem Fh {v:Nat} {n:Int} (hv:v<2^32):rot v n<2^32:=Du hv
end Go.Cs
namespace Go.Cs
open Go
def eA (x:Non):List UInt8:=be x.sh 4++be x.ct 8
def ga (x:Rec):List UInt8:= [UInt8.ofNat x.st]++eA x.non++x.tag.l
def gP (x:Ent):List UInt8:= [UInt8.ofNat x.st]++x.dg.l
def iY (x:Cel):List UInt8:=x.root.l++be x.ep 8++be x.mark 8
def bS (x:Rec):Nat:=if 2<x.st then 1 else if x.st=0 then (if x.eqb Rec.zero=true then 0 else 1) else 0
def dK (x:Ent):Nat:=if 2<x.st then 1 else if x.st=0 then (if x.eqb Ent.zero=true then 0 else 1) else 0
def Non.of (l:List UInt8):Non:=⟨dz (l.take 4) 4,dz (l.drop 4) 8,d5 _ 4,d5 _ 8⟩
def Rec.of (l:List UInt8):Rec:=⟨byt l 0,Non.of ((l.drop 1).take 12),Dig.of ((l.drop 13).take 32),kc _ _⟩
def Ent.of (l:List UInt8):Ent:=⟨byt l 0,Dig.of ((l.drop 1).take 32),kc _ _⟩
def Cel.of (l:List UInt8):Cel:=⟨Dig.of (l.take 32),dz ((l.drop 32).take 8) 8,dz ((l.drop 40).take 8) 8,d5 _ 8,d5 _ 8⟩
theorem d4 (x:Non):(eA x).length=12:=by simp [eA]
theorem fe (x:Rec):(ga x).length=45:=by simp [ga,d4,x.tag.h]
theorem eZ (x:Ent):(gP x).length=33:=by simp [gP,x.dg.h]
theorem Non.of_B (x:Non):Non.of (eA x)=x:=by
 refine Non.ext' ?_ ?_
 ·show dz ((eA x).take 4) 4=x.sh
  rw [eA,List.take_append_of_le_length (by simp),List.take_of_length_le (by simp)]
  exact qA x.hsh
 ·show dz ((eA x).drop 4) 8=x.ct
  rw [eA,List.drop_append_of_le_length (by simp),List.drop_eq_nil_of_le (by simp),List.nil_append]
  exact lZ x.hct
theorem Dig.of_B (x:Dig):Dig.of x.l=x:=Dig.ext' (Dig.of_l x.h)
theorem q7 {n:Nat} (h:n<256) (l:List UInt8):byt ([UInt8.ofNat n]++l) 0=n:=by
 simp [byt,Nat.mod_eq_of_lt h]
theorem Rec.of_B (x:Rec):Rec.of (ga x)=x:=by
 refine Rec.ext' ?_ ?_ ?_
 ·show byt (ga x) 0=x.st
  rw [ga,List.append_assoc];exact q7 x.hst _
 ·show Non.of (((ga x).drop 1).take 12)=x.non
  have h:((ga x).drop 1).take 12=eA x.non:=by
   have:=d4 x.non
   simp only [ga,List.cons_append,List.nil_append,List.append_assoc,List.drop_succ_cons,List.drop_zero]
   rw [List.take_append_of_le_length (by omega),List.take_of_length_le (by omega)]
  rw [h];exact Non.of_B _
 ·show Dig.of (((ga x).drop 13).take 32)=x.tag
  have h:((ga x).drop 13).take 32=x.tag.l:=by
   have:=d4 x.non
   simp only [ga,List.cons_append,List.nil_append,List.append_assoc,List.drop_succ_cons]
   rw [List.drop_append,List.drop_eq_nil_of_le (by omega),List.nil_append,this]
   simp [x.tag.h,List.take_of_length_le]
  rw [h];exact Dig.of_B _
theorem Ent.of_B (x:Ent):Ent.of (gP x)=x:=by
 refine Ent.ext' ?_ ?_
 ·show byt (gP x) 0=x.st
  rw [gP];exact q7 x.hst _
 ·show Dig.of (((gP x).drop 1).take 32)=x.dg
  have h:((gP x).drop 1).take 32=x.dg.l:=by simp [gP,x.dg.h,List.take_of_length_le]
  rw [h];exact Dig.of_B _
theorem Cel.of_B (x:Cel):Cel.of (iY x)=x:=by
 have hr:=x.root.h
 refine Cel.ext' ?_ ?_ ?_
 ·show Dig.of ((iY x).take 32)=x.root
  have h:(iY x).take 32=x.root.l:=by
   rw [iY,List.append_assoc,List.take_append_of_le_length (by omega),List.take_of_length_le (by omega)]
  rw [h];exact Dig.of_B _
 ·show dz (((iY x).drop 32).take 8) 8=x.ep
  have h:((iY x).drop 32).take 8=be x.ep 8:=by
   rw [iY,List.append_assoc,List.drop_append,List.drop_eq_nil_of_le (by omega),List.nil_append,hr,Nat.sub_self,List.drop_zero,List.take_append_of_le_length (by simp),List.take_of_length_le (by simp)]
  rw [h];exact lZ x.hep
 ·show dz (((iY x).drop 40).take 8) 8=x.mark
  have h:((iY x).drop 40).take 8=be x.mark 8:=by
   rw [iY,List.drop_append,List.drop_eq_nil_of_le (by simp;omega),List.nil_append]
   simp [hr]
   rw [List.take_of_length_le (by simp)]
  rw [h];exact lZ x.hmk
theorem gK (x:Rec):bS x=0∨bS x=1:=by
 unfold bS;split
 ·exact .inr rfl
 ·split
  ·split
   ·exact .inl rfl
   ·exact .inr rfl
  ·exact .inl rfl
theorem iW (x:Ent):dK x=0∨dK x=1:=by
 unfold dK;split
 ·exact .inr rfl
 ·split
  ·split
   ·exact .inl rfl
   ·exact .inr rfl
  ·exact .inl rfl
end Go.Cs
namespace Go.Cs
open Go
end Go.Cs
namespace Go.Cs
def jR (c:Nat):Nat:=(c+3)/4
def und (n:Nat):Nat→Nat
 | 0=>n
 | l+1=>jR (und n l)
def cnt (n l:Nat):Nat:=jR (und n l)
def hgt (n:Nat):Nat:=if n≤4 then 0 else if n≤16 then 1 else if n≤64 then 2 else if n≤256 then 3 else if n≤1024 then 4 else 5
def bas (n:Nat):Nat→Nat
 | 0=>2*n
 | l+1=>bas n l+2*cnt n l
def num (n:Nat):Nat→Nat
 | 0=>0
 | l+1=>num n l+cnt n l
def tot (n:Nat):Nat:=num n (hgt n+1)
def cts (n:Nat):List Nat:=(List.range (hgt n+1)).map (cnt n)
def prt (n l j:Nat):Nat:=min 4 (und n l-4*j)
def idx (i:Nat):Nat→Nat
 | 0=>i/4
 | l+1=>idx i l/4
theorem gn (n l:Nat):und n (l+1)=cnt n l:=rfl
theorem ry (n l:Nat):cnt n (l+1)=jR (cnt n l):=rfl
theorem gm (n:Nat):cnt n 0=jR n:=rfl
theorem a8 (n:Nat):hgt n≤5:=by unfold hgt;repeat' split<;>first | omega | skip
theorem GD (n l:Nat):und n (l+1)≤und n l:=by rw [und];unfold jR;omega
theorem vD {n:Nat} (h:1≤n):∀l,1≤und n l
 | 0=>h
 | l+1=>by have:=vD h l;rw [und];unfold jR;omega
theorem dk {n:Nat} (h:1≤n) (l:Nat):1≤cnt n l:=vD h (l+1)
theorem wp (n:Nat):∀l,und n l≤n
 | 0=>Nat.le_refl _
 | l+1=>Nat.le_trans (GD n l) (wp n l)
theorem cH (n l:Nat):cnt n l≤n:=wp n (l+1)
theorem eg {n:Nat} (h1:1≤n) (h:n≤4096):cnt n (hgt n)=1:=by
 unfold hgt
 repeat' split
 all_goals simp only [cnt,und,jR];omega
theorem Ad {n l:Nat} (hl:l<hgt n):2≤cnt n l:=by
 have h5:=a8 n
 have:l=0∨l=1∨l=2∨l=3∨l=4:=by omega
 unfold hgt at hl
 rcases this with rfl | rfl | rfl | rfl | rfl<;>simp only [cnt,und,jR]<;>(repeat' split at hl)<;>omega
theorem AQ (n:Nat) {l m:Nat} (h:l≤m):bas n l≤bas n m:=by
 induction m with
 | zero=>
  have:l=0:=by omega
  subst this;exact Nat.le_refl _
 | succ m ih=>
  rcases Nat.lt_or_ge m l with h2 | h2
  ·have:l=m+1:=by omega
   subst this;exact Nat.le_refl _
  ·exact Nat.le_trans (ih h2) (by rw [bas];omega)
theorem G9 {n:Nat} (h1:1≤n) (l:Nat):bas n l<bas n (l+1):=by have:=dk h1 l;rw [bas];omega
theorem pY (n l:Nat):2*n≤bas n l:=AQ n (Nat.zero_le l)
theorem vK (n:Nat):∀l,bas n l≤2*n+2*n*l
 | 0=>by simp [bas]
 | l+1=>by have:=vK n l;have:=cH n l;rw [bas,Nat.mul_add];omega
theorem oz {n l:Nat} (h:n≤4096) (hl:l≤6):bas n l≤57344:=by
 have h1:=vK n l
 have h2:2*n*l≤2*n*6:=Nat.mul_le_mul_left _ hl
 omega
theorem c7 (n:Nat) {l m:Nat} (h:l≤m):num n l≤num n m:=by
 induction m with
 | zero=>
  have:l=0:=by omega
  subst this;exact Nat.le_refl _
 | succ m ih=>
  rcases Nat.lt_or_ge m l with h2 | h2
  ·have:l=m+1:=by omega
   subst this;exact Nat.le_refl _
  ·exact Nat.le_trans (ih h2) (by rw [num];omega)
theorem wm (n:Nat):∀l,num n l≤n*l
 | 0=>by simp [num]
 | l+1=>by have:=wm n l;have:=cH n l;rw [num,Nat.mul_add];omega
theorem cz {n l:Nat} (h:n≤4096) (hl:l≤6):num n l≤24576:=by
 have h1:=wm n l
 have h2:n*l≤n*6:=Nat.mul_le_mul_left _ hl
 omega
theorem o6 (n:Nat):∀l,bas n l=2*n+2*num n l
 | 0=>by simp [bas,num]
 | l+1=>by rw [bas,num,o6 n l];omega
theorem i8 (n:Nat):(cts n).length=hgt n+1:=by simp [cts]
theorem jD {n l:Nat} (h:l≤hgt n):(cts n).getD l 0=cnt n l:=by
 have:l<hgt n+1:=by omega
 simp [cts,List.getD,this]
theorem nn {n l:Nat} (h:l≤hgt n):(cts n).take (l+1)=(cts n).take l++ [cnt n l]:=by
 have h2:l<(cts n).length:=by rw [i8];omega
 rw [List.take_succ_eq_append_getElem h2]
 simp [cts]
theorem mW {n l:Nat} (h:0<l):und n l=cnt n (l-1):=by
 obtain ⟨k,rfl⟩:∃k,l=k+1:=⟨l-1,by omega⟩
 rfl
def nof (k:Nat):Nat:=1+k%4096
theorem m3 (n l j:Nat):prt n l j≤4:=Nat.min_le_left _ _
theorem FY {n l j:Nat}:j<cnt n l↔4*j<und n l:=by unfold cnt jR;omega
theorem bM {n l j w:Nat} (hw:w<4):w<prt n l j↔4*j+w<und n l:=by unfold prt;omega
theorem bm {n i:Nat} (h:i<n):∀l,idx i l<cnt n l
 | 0=>by rw [idx,gm];unfold jR;omega
 | l+1=>by have:=bm h l;rw [idx,ry];unfold jR;omega
end Go.Cs
namespace Go.Cs
open Go
def qs (i:Nat):Nat→Nat
 | 0=>i
 | k+1=>qs i k/4
theorem Bl (i:Nat):∀l,idx i l=qs i l/4
 | 0=>rfl
 | l+1=>by rw [idx,Bl i l];rfl
theorem Ed (i:Nat):∀k,qs i k≤i
 | 0=>Nat.le_refl _
 | k+1=>by have:=Ed i k;rw [qs];omega
end Go.Cs
namespace Go.Cs
open Go Go.RowKit
structure R4 where
 l:List Rec
 h:l.length=4
structure E4 where
 l:List Ent
 h:l.length=4
structure Nod where
 lv:Nat
 ix:Nat
 rs:R4
 es:E4
 hlv:lv<256
 hix:ix<2^32
structure NN where
 k:Nat
 lv:Nat
 ix:Nat
 st:List UInt8
 sd:List UInt8
 hk:k<65536
 hlv:lv<256
 hix:ix<65536
 hst:st.length=4
 hsd:sd.length=4
structure Par where
 r:Rec
 e:Ent
theorem R4.ext' {a b:R4} (h:a.l=b.l):a=b:=by cases a;cases b;cases h;rfl
theorem E4.ext' {a b:E4} (h:a.l=b.l):a=b:=by cases a;cases b;cases h;rfl
theorem Nod.ext' {a b:Nod} (h:a.lv=b.lv) (h2:a.ix=b.ix) (h3:a.rs=b.rs) (h4:a.es=b.es):a=b:=by cases a;cases b;cases h;cases h2;cases h3;cases h4;rfl
def R4.zero:R4:=⟨List.replicate 4 Rec.zero,by simp⟩
def E4.zero:E4:=⟨List.replicate 4 Ent.zero,by simp⟩
def Nod.emp (lv ix:Nat) (h1:lv<256) (h2:ix<2^32):Nod:=⟨lv,ix,R4.zero,E4.zero,h1,h2⟩
def Nod.mt (lv ix:Nat):Nod:=⟨lv%256,ix%2^32,R4.zero,E4.zero,Nat.mod_lt _ (by decide),Nat.mod_lt _ (by decide)⟩
theorem Nod.mt_eq {lv ix:Nat} (h1:lv<256) (h2:ix<2^32):Nod.emp lv ix h1 h2=Nod.mt lv ix:=Nod.ext' (Nat.mod_eq_of_lt h1).symm (Nat.mod_eq_of_lt h2).symm rfl rfl
def Nod.zero:Nod:=Nod.emp 0 0 (by decide) (by decide)
def R4.get (x:R4) (i:Nat):Rec:=x.l.getD i Rec.zero
def E4.get (x:E4) (i:Nat):Ent:=x.l.getD i Ent.zero
def R4.set (x:R4) (i:Nat) (r:Rec):R4:=⟨x.l.set i r,by simp [x.h]⟩
def E4.set (x:E4) (i:Nat) (r:Ent):E4:=⟨x.l.set i r,by simp [x.h]⟩
def Nod.setR (x:Nod) (i:Nat) (r:Rec):Nod:=⟨x.lv,x.ix,x.rs.set i r,x.es,x.hlv,x.hix⟩
def Nod.setE (x:Nod) (i:Nat) (r:Ent):Nod:=⟨x.lv,x.ix,x.rs,x.es.set i r,x.hlv,x.hix⟩
def Nod.setLv (x:Nod) (n:Nat) (h:n<256):Nod:=⟨n,x.ix,x.rs,x.es,h,x.hix⟩
def Nod.setIx (x:Nod) (n:Nat) (h:n<2^32):Nod:=⟨x.lv,n,x.rs,x.es,x.hlv,h⟩
theorem R4.get_set {x:R4} {i j:Nat} {r:Rec} (hi:i<4):(x.set i r).get j=if j=i then r else x.get j:=by
 have h4:=x.h
 simp only [R4.get,R4.set,List.getD,List.getElem?_set]
 by_cases h:i=j
 ·subst h;rw [if_pos rfl,if_pos (by omega),if_pos rfl];rfl
 ·rw [if_neg h,if_neg (fun h2=>h h2.symm)]
theorem E4.get_set {x:E4} {i j:Nat} {r:Ent} (hi:i<4):(x.set i r).get j=if j=i then r else x.get j:=by
 have h4:=x.h
 simp only [E4.get,E4.set,List.getD,List.getElem?_set]
 by_cases h:i=j
 ·subst h;rw [if_pos rfl,if_pos (by omega),if_pos rfl];rfl
 ·rw [if_neg h,if_neg (fun h2=>h h2.symm)]
theorem R4.get_zero (i:Nat):R4.zero.get i=Rec.zero:=by
 simp only [R4.get,R4.zero,List.getD,List.getElem?_replicate];split<;>rfl
theorem E4.get_zero (i:Nat):E4.zero.get i=Ent.zero:=by
 simp only [E4.get,E4.zero,List.getD,List.getElem?_replicate];split<;>rfl
theorem R4.ext_get {x y:R4} (h:∀i,i<4→x.get i=y.get i):x=y:=by
 refine R4.ext' (List.ext_getElem (x.h.trans y.h.symm) fun i h1 h2=> ?_)
 have:=h i (by rw [←x.h];exact h1)
 simpa [R4.get,List.getD,h1,h2] using this
theorem E4.ext_get {x y:E4} (h:∀i,i<4→x.get i=y.get i):x=y:=by
 refine E4.ext' (List.ext_getElem (x.h.trans y.h.symm) fun i h1 h2=> ?_)
 have:=h i (by rw [←x.h];exact h1)
 simpa [E4.get,List.getD,h1,h2] using this
def kT (x:R4):List Value:=x.l.flatMap bY
def kO (x:E4):List Value:=x.l.flatMap c6
def aU (x:Nod):List Value:= .int .u8 ((x.lv:Nat):Int):: .int .u32 ((x.ix:Nat):Int)::(kT x.rs++kO x.es)
def Kx (x:NN):List Value:= .int .u16 ((x.k:Nat):Int):: .int .u8 ((x.lv:Nat):Int):: .int .u16 ((x.ix:Nat):Int)::(bE x.st++bE x.sd)
def Jo (x:Par):List Value:=bY x.r++c6 x.e
@[simp] theorem Kg (x:R4):(kT x).length=140:=by rw [kT,cC hZ,x.h]
@[simp] theorem J9 (x:E4):(kO x).length=132:=by rw [kO,cC jG,x.h]
@[simp] theorem IL (x:Nod):(aU x).length=274:=by simp [aU]
@[simp] theorem KA (x:NN):(Kx x).length=11:=by simp [Kx,x.hst,x.hsd]
@[simp] theorem H4 (x:Par):(Jo x).length=68:=by simp [Jo]
theorem k5 (x:R4):∀u∈kT x,u.oneCell'=true:=by
 intro u hu;obtain ⟨r,_,h⟩:=List.mem_flatMap.1 hu;exact mj r u h
theorem ly (x:E4):∀u∈kO x,u.oneCell'=true:=by
 intro u hu;obtain ⟨r,_,h⟩:=List.mem_flatMap.1 hu;exact lK r u h
theorem mf (x:Nod):∀u∈aU x,u.oneCell'=true:=by
 intro u hu
 simp only [aU,List.mem_cons,List.mem_append] at hu
 rcases hu with rfl | rfl | hu | hu
 ·rfl
 ·rfl
 ·exact k5 _ u hu
 ·exact ly _ u hu
theorem m0 {α:Type} {f:α→List Value} {sz:Nat} (hf:∀x,(f x).length=sz) {l:List α} {i:Nat} (d:α) (h:i<l.length):((l.flatMap f).drop (i*sz)).take sz=f (l.getD i d):=by
 rw [eG hf,List.drop_eq_getElem_cons h,List.flatMap_cons,List.take_append_of_le_length (by rw [hf];omega),List.take_of_length_le (by rw [hf];omega)]
 simp [List.getD,h]
structure Gl (b:Nat) (vs:List Value) (w:World):Prop where
 all:At w b 0 vs
 lt:b<w.heap.size
theorem Gl.chg {S:Nat→Prop} {b:Nat} {vs:List Value} {w w':World} (h:Gl b vs w) (hc:Chg S w w') (hs:¬S b:=by intro hs;first |(have h:_=_:=hs;omega)|(rcases hs with hs | hs<;>omega)):Gl b vs w':=⟨h.all.chg hc hs,Nat.lt_of_lt_of_le h.lt hc.size⟩
theorem Gl.ext {b:Nat} {vs:List Value} {w w':World} (h:Gl b vs w) (hc:Ext w w'):Gl b vs w':=h.chg hc (fun hf=>hf)
section
variable {P:Program} {n k:Nat} {σ:List (Nat×Value)} {w w':World}
def yU {α:Type} (d:α) (eqb:α→α→Bool) (n:Nat) (xs ys:List α):Bool:=(List.range n).all fun i=>eqb (xs.getD i d) (ys.getD i d)
theorem k4 {α:Type} {d:α} {eqb:α→α→Bool} (h:∀x y,eqb x y=true↔x=y) {n:Nat} {xs ys:List α} (hx:xs.length=n) (hy:ys.length=n):yU d eqb n xs ys=true↔xs=ys:=by
 simp only [yU,List.all_eq_true,List.mem_range,h]
 constructor
 ·intro hh
  refine List.ext_getElem (hx.trans hy.symm) fun i h1 h2=> ?_
  have:=hh i (by omega)
  simpa [List.getD,h1,h2] using this
 ·rintro rfl i _;rfl
theorem mC {α:Type} {f:α→List Value} {eqb:α→α→Bool} {dd t e n sz:Nat} (d:α) (hf:∀x,(f x).length=sz) (he:∀x y:α,(Op.equalIn dd e (.agg (f x).toArray) (.agg (f y).toArray)).run P w= .ok (eqb x y) w)
  (xs ys:List α) (hx:xs.length=n) (hy:ys.length=n) (ht:P.underlying t=some (.array n e)) (hsz:(P.info? e).map (·.size)=some sz) (ha:(P.underlying e).map jb=some true):
  (Op.equalIn (dd+1) t (.agg (xs.flatMap f).toArray) (.agg (ys.flatMap f).toArray)).run P w= .ok (yU d eqb n xs ys) w:=by
 rw [yU,List.range_eq_range',Op.equalIn]
 simp only [Sem.run_bind,run_underlying ht,Result.andThen_ok,run_sizeOf hsz,Std.Legacy.Range.forIn_eq_forIn_range',Std.Legacy.Range.size,Nat.sub_zero,Nat.add_sub_cancel,Nat.div_one]
 have hl:∀i∈List.range' 0 n 1,i<n:=fun i hi=>by simpa using (List.mem_range'_1.1 hi).2
 generalize List.range' 0 n 1=l at hl⊢
 induction l with
 | nil=>simp
 | cons i l ih=>
  have hi:i<n:=hl i (by simp)
  have px:=aT (P:=P) (w:=w) (o:=i*sz) ha hsz (m0 hf d (l:=xs) (i:=i) (by omega))
  have py:=aT (P:=P) (w:=w) (o:=i*sz) ha hsz (m0 hf d (l:=ys) (i:=i) (by omega))
  have pe:=he (xs.getD i d) (ys.getD i d)
  simp only [List.forIn_cons,Sem.run_bind,px,py,pe,Result.andThen_ok,List.all_cons]
  cases hb:eqb (xs.getD i d) (ys.getD i d)
  ·simp
  ·simp only [Bool.not_true,Bool.false_eq_true,if_false,Sem.run_pure,Result.andThen_ok,Bool.true_and]
   exact ih fun j hj=>hl j (by simp [hj])
def R4.eqb (x y:R4):Bool:=yU Rec.zero Rec.eqb 4 x.l y.l
def E4.eqb (x y:E4):Bool:=yU Ent.zero Ent.eqb 4 x.l y.l
def Nod.eqb (x y:Nod):Bool:=x.lv==y.lv&&(x.ix==y.ix&&(x.rs.eqb y.rs&&(x.es.eqb y.es&&true)))
theorem R4.eqb_iff (x y:R4):x.eqb y=true↔x=y:=(k4 Rec.eqb_iff x.h y.h).trans ⟨R4.ext',fun h=>by rw [h]⟩
theorem E4.eqb_iff (x y:E4):x.eqb y=true↔x=y:=(k4 Ent.eqb_iff x.h y.h).trans ⟨E4.ext',fun h=>by rw [h]⟩
theorem Nod.eqb_iff (x y:Nod):x.eqb y=true↔x=y:=by
 constructor
 ·intro h;simp [Nod.eqb] at h;exact Nod.ext' h.1 h.2.1 ((R4.eqb_iff _ _).1 h.2.2.1) ((E4.eqb_iff _ _).1 h.2.2.2)
 ·rintro rfl;simp [Nod.eqb,(R4.eqb_iff x.rs x.rs).2 rfl,(E4.eqb_iff x.es x.es).2 rfl]
theorem xW {dd T t t8 tn td e t32 t64:Nat} (x y:R4) (hT:P.underlying T=some (.array 4 t):=by kernel_rfl) (hst:(P.info? t).map (·.size)=some 35:=by kernel_rfl)
  (hF:bj P t= [(true,t8,0),(true,tn,1),(true,td,3)]:=by kernel_rfl) (hp:P.stoodInHeld t=false:=by kernel_rfl) (h8:P.underlying t8=some (.int .u8):=by kernel_rfl)
  (hFn:bj P tn= [(true,t32,0),(true,t64,1)]:=by kernel_rfl) (hpn:P.stoodInHeld tn=false:=by kernel_rfl) (h1:P.underlying t32=some (.int .u32):=by kernel_rfl) (h2:P.underlying t64=some (.int .u64):=by kernel_rfl) (hsn:(P.info? tn).map (·.size)=some 2:=by kernel_rfl)
  (hd:P.underlying td=some (.array 32 e):=by kernel_rfl) (he:P.underlying e=some (.int .u8):=by kernel_rfl) (hse:(P.info? e).map (·.size)=some 1:=by kernel_rfl) (hsd:(P.info? td).map (·.size)=some 32:=by kernel_rfl):
  (Op.equalIn (dd+4) T (.agg (kT x).toArray) (.agg (kT y).toArray)).run P w= .ok (x.eqb y) w:=
 mC Rec.zero hZ (fun a b=>mP (dd:=dd) a b hF hp h8 hFn hpn h1 h2 hsn hd he hse hsd) x.l y.l x.h y.h hT hst (by rw [ci ⟨_,_,hF⟩];rfl)
theorem xJ {dd T t t8 td e:Nat} (x y:E4) (hT:P.underlying T=some (.array 4 t):=by kernel_rfl) (hst:(P.info? t).map (·.size)=some 33:=by kernel_rfl)
  (hF:bj P t= [(true,t8,0),(true,td,1)]:=by kernel_rfl) (hp:P.stoodInHeld t=false:=by kernel_rfl) (h8:P.underlying t8=some (.int .u8):=by kernel_rfl)
  (hd:P.underlying td=some (.array 32 e):=by kernel_rfl) (he:P.underlying e=some (.int .u8):=by kernel_rfl) (hse:(P.info? e).map (·.size)=some 1:=by kernel_rfl) (hsd:(P.info? td).map (·.size)=some 32:=by kernel_rfl):
  (Op.equalIn (dd+4) T (.agg (kO x).toArray) (.agg (kO y).toArray)).run P w= .ok (x.eqb y) w:=
 mC Ent.zero jG (fun a b=>mm (dd:=dd) a b hF hp h8 hd he hse hsd) x.l y.l x.h y.h hT hst (by rw [ci ⟨_,_,hF⟩];rfl)
end
def jm {α:Type} (f:α→Nat) (g:Nat→α):Nat→Nat
 | 0=>0
 | n+1=>if jm f g n=0 then f (g n) else jm f g n
theorem aZ {α:Type} {f:α→Nat} {g:Nat→α}:∀{n:Nat},jm f g n=0↔∀i,i<n→f (g i)=0
 | 0=>⟨fun _ i h=>absurd h (by omega),fun _=>rfl⟩
 | n+1=>by
  rw [jm]
  split
  ·next h=>exact ⟨fun h2 i hi=>by rcases Nat.lt_or_ge i n with h3 | h3;exact aZ.1 h i h3;rwa [show i=n by omega],fun h2=>h2 n (by omega)⟩
  ·next h=>exact ⟨fun h2=>absurd h2 h,fun h2=>absurd (aZ.2 fun i hi=>h2 i (by omega)) h⟩
theorem lr {α:Type} {f:α→Nat} {g:Nat→α} (hf:∀x,f x=0∨f x=1):∀n,jm f g n=0∨jm f g n=1
 | 0=> .inl rfl
 | n+1=>by rw [jm];split;exact hf _;exact lr hf n
theorem iQ {α:Type} {f:α→Nat} {g:Nat→α} (hf:∀x,f x=0∨f x=1) {n i:Nat} (hi:i<n) (h:f (g i)≠0):jm f g n=1:=by
 rcases lr (g:=g) hf n with h1 | h1
 ·exact absurd (aZ.1 h1 i hi) h
 ·exact h1
def lz (x:R4):Nat:=jm bS x.get 4
def mL (x:E4):Nat:=jm dK x.get 4
def bA (x:Nod):Nat:=if 5<x.lv then 1 else if x.lv=0 then (if x.es.eqb E4.zero=true then lz x.rs else 1) else if x.rs.eqb R4.zero=true then mL x.es else 1
def fV {α:Type} (f:α→List UInt8) (g:Nat→α):Nat→List UInt8
 | 0=> []
 | n+1=>fV f g n++f (g n)
theorem dU {α:Type} {f:α→List UInt8} {g:Nat→α} {sz:Nat} (hf:∀x,(f x).length=sz):∀n,(fV f g n).length=n*sz
 | 0=>by simp [fV]
 | n+1=>by rw [fV,List.length_append,dU hf n,hf,Nat.add_mul,Nat.one_mul]
theorem pK {α:Type} {f:α→List UInt8} {g:Nat→α} {sz:Nat} (hf:∀x,(f x).length=sz) {i:Nat}:∀{n:Nat},i<n→((fV f g n).drop (i*sz)).take sz=f (g i)
 | n+1,h=>by
  have hl:=dU (g:=g) hf n
  rcases Nat.lt_or_ge i n with h1 | h1
  ·have h2:=Nat.mul_le_mul_right sz (show i+1≤n from h1)
   rw [Nat.add_mul,Nat.one_mul] at h2
   rw [fV,List.drop_append_of_le_length (by omega),List.take_append_of_le_length (by simp;omega)]
   exact pK hf h1
  ·obtain rfl:i=n:=by omega
   rw [fV,List.drop_append,hl,Nat.sub_self,List.drop_zero,List.drop_eq_nil_of_le (by omega),List.nil_append,List.take_of_length_le (by rw [hf];omega)]
def iZ (x:Nod):List UInt8:=UInt8.ofNat x.lv::be x.ix 4
def aM (x:Nod):List UInt8:=iZ x++(if x.lv=0 then fV ga x.rs.get 4 else fV gP x.es.get 4)
theorem dN (x:Nod):(aM x).length=if x.lv=0 then 185 else 137:=by
 rw [aM,List.length_append]
 split
 ·simp [iZ,dU fe]
 ·simp [iZ,dU eZ]
def R4.of (l:List UInt8):R4:=⟨(List.range 4).map fun i=>Rec.of ((l.drop (5+i*45)).take 45),by simp⟩
def E4.of (l:List UInt8):E4:=⟨(List.range 4).map fun i=>Ent.of ((l.drop (5+i*33)).take 33),by simp⟩
def Nod.of (l:List UInt8):Nod:=⟨byt l 0,dz ((l.drop 1).take 4) 4,if byt l 0=0 then R4.of l else R4.zero,if byt l 0=0 then E4.zero else E4.of l,kc _ _,d5 _ 4⟩
def NN.n (x:NN):Nat:=nof x.k
def NN.l (x:NN):Nat:=x.lv%(hgt x.n+1)
def NN.j (x:NN):Nat:=x.ix%cnt x.n x.l
def NN.p (x:NN):Nat:=prt x.n x.l x.j
def Zs (x:Nod) (i:Nat):Prop:=(x.lv=0→∀k,k<i→x.es.get k=Ent.zero)∧(¬x.lv=0→∀k,k<i→x.rs.get k=Rec.zero)
theorem Zs.zero (x:Nod):Zs x 0:=⟨fun _ k h=>absurd h (by omega),fun _ k h=>absurd h (by omega)⟩
def IN (x:Nod) (i:Nat):Nat:=if x.lv=0 then jm bS x.rs.get i else jm dK x.es.get i
theorem oR {x:Nod} (h5:x.lv≤5) (h:Zs x 4):bA x=IN x 4:=by
 unfold bA IN
 rw [if_neg (by omega)]
 by_cases h0:x.lv=0
 ·rw [if_pos h0,if_pos h0,if_pos ((E4.eqb_iff _ _).2 (E4.ext_get fun i hi=>by rw [h.1 h0 i hi,E4.get_zero]))];rfl
 ·rw [if_neg h0,if_neg h0,if_pos ((R4.eqb_iff _ _).2 (R4.ext_get fun i hi=>by rw [h.2 h0 i hi,R4.get_zero]))];rfl
theorem tP {x:R4} {i:Nat} (hi:i<4) (h:¬bS (x.get i)=0):bS (x.get i)=lz x:=by
 unfold lz;rw [iQ gK hi h];rcases gK (x.get i) with h1 | h1<;>omega
theorem ss {x:E4} {i:Nat} (hi:i<4) (h:¬dK (x.get i)=0):dK (x.get i)=mL x:=by
 unfold mL;rw [iQ iW hi h];rcases iW (x.get i) with h1 | h1<;>omega
def usd (x:Nod):Nat→Nat
 | 0=>0
 | i+1=>usd x i+(if x.lv=0 then (if (x.rs.get i).st=0 then 0 else 1) else (if (x.es.get i).st=0 then 0 else 1))
theorem pA (x:Nod):∀i,usd x i≤i
 | 0=>Nat.le_refl _
 | i+1=>by
  have:=pA x i
  rw [usd]
  repeat' split
  all_goals omega
def emp (x:Nod) (p:Nat):Bool:=(List.range 4).all fun i=>decide (i<p)||((x.rs.get i).eqb Rec.zero&&(x.es.get i).eqb Ent.zero)
theorem o9 {x:Nod} {p:Nat}:emp x p=true↔∀k,p≤k→k<4→(x.rs.get k).eqb Rec.zero=true∧(x.es.get k).eqb Ent.zero=true:=by
 simp only [emp,List.all_eq_true,List.mem_range,Bool.or_eq_true,decide_eq_true_eq,Bool.and_eq_true]
 exact ⟨fun h k h1 h2=>(h k h2).resolve_left (by omega),fun h k h2=>by rcases Nat.lt_or_ge k p with h1 | h1;exact .inl h1;exact .inr (h k h1 h2)⟩
def fj (n:Nat) (x:Nod):Nat:=if bA x=0 then (if x.lv≤hgt n∧x.ix<cnt n x.lv then (if emp x (prt n x.lv x.ix)=true then 0 else 17) else 17) else 1
theorem CI {n:Nat} {x:Nod} (h:bA x=0) (h1:x.lv≤hgt n∧x.ix<cnt n x.lv):fj n x=if emp x (prt n x.lv x.ix)=true then 0 else 17:=by
 unfold fj;rw [if_pos h,if_pos h1]
def dx (x:Nod):Nat:=if x.lv=0 then 185 else 137
theorem FN (x:Nod):(aM x).length=dx x:=dN x
theorem gA {x:Nod} (h:bA x=0) (h0:x.lv=0):lz x.rs=0:=by
 unfold bA at h
 rw [if_neg (by omega),if_pos h0] at h
 split at h
 ·exact h
 ·cases h
theorem gG {x:Nod} (h:bA x=0):x.lv≤5:=by
 unfold bA at h
 split at h
 ·cases h
 ·omega
theorem jy {x:Nod} (h:bA x=0) (h0:¬x.lv=0):mL x.es=0:=by
 have h5:=gG h
 unfold bA at h
 rw [if_neg (by omega),if_neg h0] at h
 split at h
 ·exact h
 ·cases h
end Go.Cs
namespace Go.Cs
open Go Go.RowKit
def eI (l:List UInt8) (sz i:Nat):List UInt8:=(l.drop (5+i*sz)).take sz
def c9 (l:List UInt8) (i:Nat):Nod:=⟨byt l 0,dz ((l.drop 1).take 4) 4,
 ⟨(List.range 4).map fun k=>if k<i∧byt l 0=0 then Rec.of (eI l 45 k) else Rec.zero,by simp⟩,
 ⟨(List.range 4).map fun k=>if k<i∧¬byt l 0=0 then Ent.of (eI l 33 k) else Ent.zero,by simp⟩,kc _ _,d5 _ 4⟩
theorem j4 (l:List UInt8) (i:Nat) {k:Nat} (h:k<4):(c9 l i).rs.get k=if k<i∧byt l 0=0 then Rec.of (eI l 45 k) else Rec.zero:=by simp [c9,R4.get,List.getD,h]
theorem kx (l:List UInt8) (i:Nat) {k:Nat} (h:k<4):(c9 l i).es.get k=if k<i∧¬byt l 0=0 then Ent.of (eI l 33 k) else Ent.zero:=by simp [c9,E4.get,List.getD,h]
theorem nX (l:List UInt8) (h1:byt l 0<256) (h2:dz ((l.drop 1).take 4) 4<2^32):(Nod.zero.setLv (byt l 0) h1).setIx (dz ((l.drop 1).take 4) 4) h2=c9 l 0:=by
 refine Nod.ext' rfl rfl (R4.ext_get fun i hi=> ?_) (E4.ext_get fun i hi=> ?_)
 ·rw [j4 l 0 hi,if_neg (by omega)];exact R4.get_zero i
 ·rw [kx l 0 hi,if_neg (by omega)];exact E4.get_zero i
theorem xA {l:List UInt8} {p:Nat} (h:p<4) (h0:byt l 0=0):(c9 l p).setR p (Rec.of (eI l 45 p))=c9 l (p+1):=by
 refine Nod.ext' rfl rfl (R4.ext_get fun i hi=> ?_) (E4.ext_get fun i hi=> ?_)
 ·show ((c9 l p).rs.set p _).get i=_
  rw [R4.get_set h,j4 l _ hi,j4 l _ hi]
  by_cases h1:i=p
  ·subst h1;rw [if_pos rfl,if_pos ⟨by omega,h0⟩]
  ·rw [if_neg h1];by_cases h2:i<p
   ·rw [if_pos ⟨h2,h0⟩,if_pos ⟨by omega,h0⟩]
   ·rw [if_neg (by omega),if_neg (by omega)]
 ·show (c9 l p).es.get i=_
  rw [kx l _ hi,kx l _ hi,if_neg (by simp [h0]),if_neg (by simp [h0])]
theorem xK {l:List UInt8} {p:Nat} (h:p<4) (h0:¬byt l 0=0):(c9 l p).setE p (Ent.of (eI l 33 p))=c9 l (p+1):=by
 refine Nod.ext' rfl rfl (R4.ext_get fun i hi=> ?_) (E4.ext_get fun i hi=> ?_)
 ·show (c9 l p).rs.get i=_
  rw [j4 l _ hi,j4 l _ hi,if_neg (by simp [h0]),if_neg (by simp [h0])]
 ·show ((c9 l p).es.set p _).get i=_
  rw [E4.get_set h,kx l _ hi,kx l _ hi]
  by_cases h1:i=p
  ·subst h1;rw [if_pos rfl,if_pos ⟨by omega,h0⟩]
  ·rw [if_neg h1];by_cases h2:i<p
   ·rw [if_pos ⟨h2,h0⟩,if_pos ⟨by omega,h0⟩]
   ·rw [if_neg (by omega),if_neg (by omega)]
def LT (l:List UInt8) (i:Nat):Nat:=if byt l 0=0 then jm bS (fun k=>Rec.of (eI l 45 k)) i else jm dK (fun k=>Ent.of (eI l 33 k)) i
def xX (l:List UInt8):Nat:=if byt l 0=0 then 185 else 137
def nN (l:List UInt8):Nat:=if l.length=0 then 6 else if 5<byt l 0 then 1 else if l.length<xX l then 6 else if xX l<l.length then 5 else LT l 4
def yw (l:List UInt8):Nod:=if nN l=0 then c9 l 4 else Nod.zero
theorem pR {l:List UInt8} {e:Nat} (h:nN l=e):yw l=if e=0 then c9 l 4 else Nod.zero:=by rw [yw,h]
theorem Bc {l:List UInt8} (h1:¬5<byt l 0) (h2:l.length=xX l):nN l=LT l 4:=by
 have:0<xX l:=by unfold xX;split<;>decide
 unfold nN;rw [if_neg (by omega),if_neg h1,if_neg (by omega),if_neg (by omega)]
theorem ou (l:List UInt8) (sz i:Nat):eI l sz i=((l.drop 5).drop (i*sz)).take sz:=by rw [eI,List.drop_drop]
theorem dZ (x:Nod):byt (aM x) 0=x.lv:=by
 show byt (UInt8.ofNat x.lv::_) 0=_
 simp [byt,Nat.mod_eq_of_lt (show x.lv<256 from x.hlv)]
theorem qx (x:Nod):(aM x).drop 5=if x.lv=0 then fV ga x.rs.get 4 else fV gP x.es.get 4:=by
 rw [aM,List.drop_append_of_le_length (by simp [iZ]),List.drop_eq_nil_of_le (by simp [iZ]),List.nil_append]
theorem sq {x:Nod} (h0:x.lv=0) {i:Nat} (hi:i<4):eI (aM x) 45 i=ga (x.rs.get i):=by
 rw [ou,qx,if_pos h0];exact pK fe hi
theorem s5 {x:Nod} (h0:¬x.lv=0) {i:Nat} (hi:i<4):eI (aM x) 33 i=gP (x.es.get i):=by
 rw [ou,qx,if_neg h0];exact pK eZ hi
theorem Cq (x:Nod):dz (((aM x).drop 1).take 4) 4=x.ix:=by
 have h:((aM x).drop 1).take 4=be x.ix 4:=by
  rw [aM,iZ,List.cons_append,List.drop_succ_cons,List.drop_zero,List.take_append_of_le_length (by simp),List.take_of_length_le (by simp)]
 rw [h];exact qA x.hix
theorem gx {x:Nod} (h:bA x=0):nN (aM x)=0:=by
 have h5:=gG h
 rw [Bc (by rw [dZ];omega) (by rw [dN,xX,dZ])]
 unfold LT;rw [dZ]
 by_cases h0:x.lv=0
 ·rw [if_pos h0];exact aZ.2 fun i hi=>by rw [sq h0 hi,Rec.of_B];exact aZ.1 (gA h h0) i hi
 ·rw [if_neg h0];exact aZ.2 fun i hi=>by rw [s5 h0 hi,Ent.of_B];exact aZ.1 (jy h h0) i hi
theorem jL {x:Nod} (h:bA x=0):(x.lv=0→x.es=E4.zero)∧(¬x.lv=0→x.rs=R4.zero):=by
 have h5:=gG h
 unfold bA at h
 rw [if_neg (by omega)] at h
 constructor
 ·intro h0;rw [if_pos h0] at h;split at h
  ·exact (E4.eqb_iff _ _).1 ‹_›
  ·cases h
 ·intro h0;rw [if_neg h0] at h;split at h
  ·exact (R4.eqb_iff _ _).1 ‹_›
  ·cases h
theorem jN {x:Nod} (h:bA x=0):yw (aM x)=x:=by
 rw [pR (gx h),if_pos rfl]
 refine Nod.ext' (dZ x) (Cq x) (R4.ext_get fun i hi=> ?_) (E4.ext_get fun i hi=> ?_)
 ·rw [j4 _ 4 hi,dZ]
  by_cases h0:x.lv=0
  ·rw [if_pos ⟨hi,h0⟩,sq h0 hi,Rec.of_B]
  ·rw [if_neg (by intro hh;exact h0 hh.2),(jL h).2 h0,R4.get_zero]
 ·rw [kx _ 4 hi,dZ]
  by_cases h0:x.lv=0
  ·rw [if_neg (by intro hh;exact hh.2 h0),(jL h).1 h0,E4.get_zero]
  ·rw [if_pos ⟨hi,h0⟩,s5 h0 hi,Ent.of_B]
end Go.Cs
namespace Go.Cs
open Go Go.RowKit
theorem R4.set_set (x:R4) (i:Nat) (a b:Rec):(x.set i a).set i b=x.set i b:=R4.ext' (by simp [R4.set])
theorem E4.set_set (x:E4) (i:Nat) (a b:Ent):(x.set i a).set i b=x.set i b:=E4.ext' (by simp [E4.set])
theorem xL {y:Nod} {i:Nat} {r:Rec} (hi:i<4) (h:bA y=0) (h0:y.lv=0):bA (y.setR i r)=bS r:=by
 have hz:=gA h h0
 rw [oR (x:=y.setR i r) (show y.lv≤5 by omega) ⟨fun _ k hk=>by rw [show (y.setR i r).es=y.es from rfl,(jL h).1 h0,E4.get_zero],fun h1=>absurd h0 h1⟩]
 unfold IN;rw [if_pos (show (y.setR i r).lv=0 from h0)]
 have hg:∀k,(y.setR i r).rs.get k=if k=i then r else y.rs.get k:=fun k=>R4.get_set hi
 rcases gK r with h1 | h1
 ·rw [h1];refine aZ.2 fun k hk=> ?_
  rw [hg];split
  ·exact h1
  ·exact aZ.1 hz k hk
 ·rw [h1];exact iQ (i:=i) gK hi (by rw [hg,if_pos rfl,h1];decide)
theorem yh {y:Nod} {i:Nat} {r:Ent} (hi:i<4) (h:bA y=0) (h0:¬y.lv=0):bA (y.setE i r)=dK r:=by
 have hz:=jy h h0
 rw [oR (x:=y.setE i r) (show y.lv≤5 from gG h) ⟨fun h1=>absurd h1 h0,fun _ k hk=>by rw [show (y.setE i r).rs=y.rs from rfl,(jL h).2 h0,R4.get_zero]⟩]
 unfold IN;rw [if_neg (show ¬(y.setE i r).lv=0 from h0)]
 have hg:∀k,(y.setE i r).es.get k=if k=i then r else y.es.get k:=fun k=>E4.get_set hi
 rcases iW r with h1 | h1
 ·rw [h1];refine aZ.2 fun k hk=> ?_
  rw [hg];split
  ·exact h1
  ·exact aZ.1 hz k hk
 ·rw [h1];exact iQ (i:=i) iW hi (by rw [hg,if_pos rfl,h1];decide)
end Go.Cs
namespace Go.Cs
open Go Go.RowKit
def rr (x:UInt32) (k:Nat):UInt32:=UInt32.ofNat (rot x.toNat (-(k:Int)))
theorem GV (x:UInt32) (k:Nat):(rr x k).toNat=rot x.toNat (-(k:Int)):=by
 rw [rr,UInt32.toNat_ofNat',Nat.mod_eq_of_lt (Fh x.toNat_lt)]
theorem Ft (x:UInt32) {k:Nat} (h1:1≤k) (h2:k≤31):x.toNat/2^k ||| x.toNat*2^(32-k)%2^32=(rr x k).toNat:=by
 rw [GV,rot,rotl,show (-(k:Int)%32).toNat=32-k by omega,show 32-(32-k)=k by omega,Nat.or_comm]
structure WA (n:Nat) where
 l:List UInt32
 h:l.length=n
theorem WA.ext' {n:Nat} {a b:WA n} (h:a.l=b.l):a=b:=by cases a;cases b;cases h;rfl
def WA.zero (n:Nat):WA n:=⟨List.replicate n 0,by simp⟩
def WA.get {n:Nat} (x:WA n) (i:Nat):UInt32:=x.l.getD i 0
def WA.set {n:Nat} (x:WA n) (i:Nat) (v:UInt32):WA n:=⟨x.l.set i v,by simp [x.h]⟩
theorem WA.get_set {n:Nat} {x:WA n} {i j:Nat} {v:UInt32} (hi:i<n):(x.set i v).get j=if j=i then v else x.get j:=by
 have h4:=x.h
 simp only [WA.get,WA.set,List.getD,List.getElem?_set]
 by_cases h:i=j
 ·subst h;rw [if_pos rfl,if_pos (by omega),if_pos rfl];rfl
 ·rw [if_neg h,if_neg (fun h2=>h h2.symm)]
theorem WA.ext_get {n:Nat} {x y:WA n} (h:∀i,i<n→x.get i=y.get i):x=y:=by
 refine WA.ext' (List.ext_getElem (x.h.trans y.h.symm) fun i h1 h2=> ?_)
 have:=h i (by rw [←x.h];exact h1)
 simpa [WA.get,List.getD,h1,h2] using this
theorem WA.get_mk {n:Nat} (f:Nat→UInt32) (h:((List.range n).map f).length=n) {i:Nat} (hi:i<n):(WA.mk ((List.range n).map f) h).get i=f i:=by simp [WA.get,List.getD,hi]
def DS (x:UInt32):UInt32:=rr x 7^^^rr x 18^^^(x>>>3)
def CM (x:UInt32):UInt32:=rr x 17^^^rr x 19^^^(x>>>10)
def yR (b:List UInt8) (x:WA 64) (t:Nat):UInt32:=
 if t<16 then UInt32.ofNat (dz ((b.drop (4*t)).take 4) 4) else x.get (t-16)+x.get (t-7)+DS (x.get (t-15))+CM (x.get (t-2))
def schd (b:List UInt8):Nat→WA 64
 | 0=>WA.zero 64
 | t+1=>(schd b t).set t (yR b (schd b t) t)
def kL:List UInt32:= [1116352408,1899447441,3049323471,3921009573,961987163,1508970993,2453635748,2870763221,3624381080,310598401,607225278,1426881987,1925078388,2162078206,2614888103,3248222580,3835390401,4022224774,264347078,604807628,770255983,1249150122,1555081692,1996064986,2554220882,2821834349,2952996808,3210313671,3336571891,3584528711,113926993,338241895,666307205,773529912,1294757372,1396182291,1695183700,1986661051,2177026350,2456956037,2730485921,2820302411,3259730800,3345764771,3516065817,3600352804,4094571909,275423344,430227734,506948616,659060556,883997877,958139571,1322822218,1537002063,1747873779,1955562222,2024104815,2227730452,2361852424,2428436474,2756734187,3204031479,3329325298]
def kA:WA 64:=⟨kL,rfl⟩
def ye:WA 8:=⟨[1779033703,3144134277,1013904242,2773480762,1359893119,2600822924,528734635,1541459225],rfl⟩
def T1 (x:WA 8) (k w:UInt32):UInt32:=x.get 7+(rr (x.get 4) 6^^^rr (x.get 4) 11^^^rr (x.get 4) 25)+((x.get 4&&&x.get 5)^^^(~~~(x.get 4)&&&x.get 6))+k+w
def T2 (x:WA 8):UInt32:=(rr (x.get 0) 2^^^rr (x.get 0) 13^^^rr (x.get 0) 22)+((x.get 0&&&x.get 1)^^^(x.get 0&&&x.get 2)^^^(x.get 1&&&x.get 2))
def rnd (x:WA 8) (k w:UInt32):WA 8:=⟨[T1 x k w+T2 x,x.get 0,x.get 1,x.get 2,x.get 3+T1 x k w,x.get 4,x.get 5,x.get 6],rfl⟩
def rnds (h:WA 8) (w:WA 64):Nat→WA 8
 | 0=>h
 | t+1=>rnd (rnds h w t) (kA.get t) (w.get t)
def rd (h x:WA 8) (i:Nat):WA 8:=⟨(List.range 8).map fun j=>if j<i then h.get j+x.get j else h.get j,by simp⟩
theorem gW (h x:WA 8) (i:Nat) {j:Nat} (hj:j<8):(rd h x i).get j=if j<i then h.get j+x.get j else h.get j:=WA.get_mk _ _ hj
theorem yP (h x:WA 8):rd h x 0=h:=WA.ext_get fun j hj=>by rw [gW _ _ _ hj,if_neg (Nat.not_lt_zero _)]
theorem xB {h x:WA 8} {i:Nat} (hi:i<8):(rd h x i).set i ((rd h x i).get i+x.get i)=rd h x (i+1):=WA.ext_get fun j hj=>by
 by_cases h1:j=i
 ·subst h1;rw [WA.get_set hi,if_pos rfl,gW _ _ _ hi,if_neg (Nat.lt_irrefl _),gW _ _ _ hi,if_pos (Nat.lt_succ_self _)]
 ·rw [WA.get_set hi,if_neg h1,gW _ _ _ hj,gW _ _ _ hj]
  by_cases h2:j<i
  ·rw [if_pos h2,if_pos (by omega)]
  ·rw [if_neg h2,if_neg (by omega)]
def cmpr (h:WA 8) (b:List UInt8):WA 8:=rd h (rnds h (schd b 64) 64) 8
theorem Hj (h:WA 8) (b:List UInt8):cmpr h b=⟨[h.get 0+(rnds h (schd b 64) 64).get 0,h.get 1+(rnds h (schd b 64) 64).get 1,h.get 2+(rnds h (schd b 64) 64).get 2,h.get 3+(rnds h (schd b 64) 64).get 3,h.get 4+(rnds h (schd b 64) 64).get 4,h.get 5+(rnds h (schd b 64) 64).get 5,h.get 6+(rnds h (schd b 64) 64).get 6,h.get 7+(rnds h (schd b 64) 64).get 7],rfl⟩:=by
 apply WA.ext';simp [cmpr,rd,List.range,List.range.loop]
def AO (l:List UInt8) (k:Nat):List UInt8:=(l.drop (64*k)).take 64
def l9 (l:List UInt8):Nat→WA 8
 | 0=>ye
 | k+1=>cmpr (l9 l k) (AO l k)
def qB (n:Nat):Nat:=(119-n%64)%64
def nD (l:List UInt8):List UInt8:=l++ [128]++List.replicate (qB l.length) 0++be (8*l.length%2^64) 8
def BP (x:WA 8) (i:Nat):List UInt8:=fV (fun k=>be (x.get k).toNat 4) (fun k=>k) i
theorem lW (x:WA 8) (i:Nat):(BP x i).length=i*4:=dU (fun k=>gl _ _) i
def bI (l:List UInt8):Dig:=⟨BP (l9 (nD l) ((nD l).length/64)) 8,lW _ 8⟩
theorem mv {l m:List UInt8}:∀{k:Nat},64*k≤l.length→l9 (l++m) k=l9 l k
 | 0,_=>rfl
 | k+1,h=>by
  rw [l9,l9,mv (by omega)]
  congr 1
  rw [AO,AO,List.drop_append_of_le_length (by omega),List.take_append_of_le_length (by simp;omega)]
structure Sta where
 bg:Bool
 h:WA 8
 rest:List UInt8
 many:Nat
 hr:rest.length=64
 hm:many<2^64
def Sta.new:Sta:=⟨true,ye,List.replicate 64 0,0,by simp,by decide⟩
structure Sm (s:Sta) (l:List UInt8):Prop where
 bg:s.bg=true
 h:s.h=l9 l (l.length/64)
 many:s.many=l.length
 rest:s.rest.take (l.length%64)=l.drop (64*(l.length/64))
theorem Sm.new:Sm Sta.new []:=⟨rfl,rfl,rfl,rfl⟩
def dF (r:List UInt8) (at_:Nat) (b:List UInt8):List UInt8:=r.take at_++b++r.drop (at_+b.length)
theorem yz {r b:List UInt8} {a:Nat} (h:a+b.length≤r.length):(dF r a b).length=r.length:=by simp [dF];omega
theorem Sm.part {s:Sta} {l b:List UInt8} {a n:Nat} (h:Sm s l) (ha:a=l.length%64) (hn:b.length=n) (h1:a+n<64) (hr:(dF s.rest a b).length=64) (hm:s.many+n<2^64):
  Sm ⟨s.bg,s.h,dF s.rest a b,s.many+n,hr,hm⟩ (l++b):=by
 have e1:(l++b).length/64=l.length/64:=by rw [List.length_append];omega
 have e2:(l++b).length%64=a+n:=by rw [List.length_append];omega
 refine ⟨h.bg,by show s.h=_;rw [e1,mv (by omega),h.h],by show s.many+n=_;rw [h.many,List.length_append,hn], ?_⟩
 show (dF s.rest a b).take _=_
 have hr64:=s.hr
 rw [e1,e2,dF,List.take_append_of_le_length (by simp;omega),List.take_of_length_le (by simp;omega),ha,h.rest,List.drop_append_of_le_length (by omega)]
theorem Sm.full {s:Sta} {l b:List UInt8} {a n:Nat} (h:Sm s l) (ha:a=l.length%64) (hn:b.length=n) (h1:a+n=64) (hr:(dF s.rest a b).length=64) (hm:s.many+n<2^64):
  Sm ⟨s.bg,cmpr s.h (dF s.rest a b),dF s.rest a b,s.many+n,hr,hm⟩ (l++b):=by
 have hr64:=s.hr
 have e1:(l++b).length/64=l.length/64+1:=by rw [List.length_append];omega
 have e2:(l++b).length%64=0:=by rw [List.length_append];omega
 have e3:dF s.rest a b=AO (l++b) (l.length/64):=by
  rw [dF,List.drop_eq_nil_of_le (by omega),List.append_nil,ha,h.rest,AO,List.drop_append_of_le_length (by omega),List.take_of_length_le (by simp;omega)]
 refine ⟨h.bg, ?_,by show s.many+n=_;rw [h.many,List.length_append,hn], ?_⟩
 ·show cmpr s.h (dF s.rest a b)=_
  rw [e1,l9,mv (by omega),←h.h,e3]
 ·show (dF s.rest a b).take _=_
  rw [e1,e2,List.take_zero,List.drop_eq_nil_of_le (by simp;omega)]
theorem Sm.done {s:Sta} {l:List UInt8} (h:Sm s (nD l)):s.h=l9 (nD l) ((nD l).length/64):=h.h
end Go.Cs
namespace Go.Cs
open Go Go.RowKit
def fW (x:WA 8):List Value:=x.l.map fun v=> .int .u32 ((v.toNat:Nat):Int)
def fX (x:WA 64):List Value:=x.l.map fun v=> .int .u32 ((v.toNat:Nat):Int)
structure B64 where
 l:List UInt8
 h:l.length=64
def B64.zero:B64:=⟨List.replicate 64 0,by simp⟩
def Io (x:B64):List Value:=bE x.l
def Sta.rb (s:Sta):B64:=⟨s.rest,s.hr⟩
def Sta.zero:Sta:=⟨false,WA.zero 8,List.replicate 64 0,0,by simp,by decide⟩
def Sta.put (s:Sta) (a:Nat) (b:List UInt8) (h:a+b.length≤64):Sta:=⟨s.bg,s.h,dF s.rest a b,s.many,by rw [yz (by rw [s.hr];exact h),s.hr],s.hm⟩
def Mf (s:Sta):List Value:= .bool s.bg::(fW s.h++(bE s.rest++ [.int .u64 ((s.many:Nat):Int)]))
@[simp] theorem J8 (x:WA 8):(fW x).length=8:=by simp [fW,x.h]
@[simp] theorem JU (x:WA 64):(fX x).length=64:=by simp [fX,x.h]
@[simp] theorem Hu (x:B64):(Io x).length=64:=by simp [Io,x.h]
@[simp] theorem KB (x:Sta):(Mf x).length=74:=by simp [Mf,x.hr]
theorem vM (x:WA 8):∀u∈fW x,u.oneCell'=true:=by intro u hu;simp only [fW,List.mem_map] at hu;obtain ⟨_,_,rfl⟩:=hu;rfl
theorem AJ (x:WA 64):∀u∈fX x,u.oneCell'=true:=by intro u hu;simp only [fX,List.mem_map] at hu;obtain ⟨_,_,rfl⟩:=hu;rfl
section
variable {P:Program} {w w':World}
theorem C2 {T E m:Nat} {kk:IntKind} {i:Nat} {cs:List Value} {v:Value} (hi:i<m) (hu:cs[i]? =some v) (hT:P.underlying T=some (.array m E):=by kernel_rfl) (hsz:(P.info? E).map (·.size)=some 1:=by kernel_rfl) (ha:(P.underlying E).map jb=some false:=by kernel_rfl):
  (Instr.index T (.agg cs.toArray) (.int kk (i:Int))).run P w= .ok v w:=by
 simp [Instr.index,asIntOf,run_underlying hT,run_sizeOf hsz,hi,aI (w:=w) ha hu]
end
theorem AT {b:List UInt8} {t:Nat} {v:UInt32} (h:t<16) (hv:v=UInt32.ofNat (dz ((b.drop (4*t)).take 4) 4)):(schd b t).set t v=schd b (t+1):=by
 rw [schd,yR,if_pos h,hv]
theorem BH {b:List UInt8} {t:Nat} {v:UInt32} (h:¬t<16) (hv:v=(schd b t).get (t-16)+(schd b t).get (t-7)+DS ((schd b t).get (t-15))+CM ((schd b t).get (t-2))):(schd b t).set t v=schd b (t+1):=by
 rw [schd,yR,if_neg h,hv]
def As (x:WA 8) (i:Nat):List UInt8:=BP x i++List.replicate (32-i*4) 0
theorem DB (x:WA 8) {i:Nat} (h:i≤8):(As x i).length=32:=by simp [As,lW];omega
theorem CG (l:List UInt8):bE (As (l9 (nD l) ((nD l).length/64)) 8)=ay (bI l):=by simp [As,ay,bI]
theorem yZ (x:WA 8):bE (As x 0)=ay Dig.zero:=by simp [As,BP,fV,ay,Dig.zero]
def MZ (x:WA 8) (i k:Nat):List UInt8:=BP x i++(be (x.get i).toNat 4).take k++List.replicate (32-i*4-k) 0
theorem DE {l:List UInt8} {n z:Nat} (hn:n=l.length) (hz:z=qB l.length):l++ [128]++List.replicate z 0++be (8*n%2^64) 8=nD l:=by subst hn hz;rfl
end Go.Cs
namespace Go.Cs
open Go Go.RowKit
def Cel.nxt (c:Cel) (r:Dig):Cel:=⟨r,(c.ep+1)%2^64,c.mark,Nat.mod_lt _ (by decide),c.hmk⟩
def Cel.rsv (c:Cel) (k:Nat):Cel:=⟨c.root,c.ep,(c.mark+k)%2^64,c.hep,Nat.mod_lt _ (by decide)⟩
def gO (n:Nat):Cel:=⟨bI (aM (Nod.mt (hgt n) 0)),0,0,by decide,by decide⟩
theorem xq {h:Nat} (h5:h≤5):bA (Nod.mt h 0)=0:=by
 have:∀k,k<6→bA (Nod.mt k 0)=0:=by decide
 exact this h (by omega)
end Go.Cs
namespace Go.Cs
open Go Go.RowKit
def iy (k:List UInt8) (w:UInt8):List UInt8:=xorl (k++List.replicate (64-k.length) 0) (List.replicate 64 w)
def ej (k m:List UInt8):Dig:=bI (iy k 92++(bI (iy k 54++m)).l)
theorem qk {k:List UInt8} {w:UInt8} (h:k.length≤64):(iy k w).length=64:=by simp [iy,xorl];omega
structure B16 where
 l:List UInt8
 h:l.length=16
theorem B16.ext' {x y:B16} (h:x.l=y.l):x=y:=by cases x;cases y;simp at h;subst h;rfl
def B16.zero:B16:=⟨List.replicate 16 0,by simp⟩
def dE (x:B16):List Value:=bE x.l
def gQ (new old:List UInt8) (t:Nat):List UInt8:=new.take t++old.drop t
theorem eX (new old:List UInt8):gQ new old 0=old:=by simp [gQ]
theorem gy {new old:List UInt8} {t:Nat} (h:new.length≤t) (h2:old.length≤t):gQ new old t=new:=by
 simp [gQ,List.take_of_length_le h,List.drop_eq_nil_of_le h2]
theorem fS {new old:List UInt8} {t:Nat} (h:new.length=old.length) (h2:t≤old.length):(gQ new old t).length=old.length:=by simp [gQ];omega
theorem eF {new old:List UInt8} {t:Nat} {x:UInt8} (h:new.length=old.length) (h2:t<old.length) (hx:x=new.getD t default):(gQ new old t).set t x=gQ new old (t+1):=by
 subst hx
 apply List.ext_getElem (by simp [gQ];omega)
 intro j h3 h4
 simp only [gQ,List.getElem_set,List.getElem_append,List.length_take,List.getElem_take,List.getElem_drop]
 by_cases e:t=j
 ·subst e;rw [if_pos rfl,dif_pos (by omega)];simp [List.getD,List.getElem?_eq_getElem (show t<new.length by omega)]
 ·rw [if_neg e]
  by_cases e2:j<t
  ·rw [dif_pos (by omega),dif_pos (by omega)]
  ·rw [dif_neg (by omega),dif_neg (by omega)]
   congr 1;omega
theorem pG {new old:List UInt8} {t j:Nat} (h:new.length=old.length) (h2:t≤j) (h3:j<old.length):(gQ new old t).getD j default=old.getD j default:=by
 have e:(gQ new old t)[j]? =old[j]? :=by
  simp only [gQ]
  rw [List.getElem?_append_right (by simp;omega),List.getElem?_drop,List.length_take,Nat.min_eq_left (by omega)]
  congr 1;omega
 simp [List.getD,e]
def nE (a b:UInt8):Nat→UInt8×UInt8
 | 0=>(a,0)
 | i+1=>((nE a b i).1<<<1^^^((nE a b i).1>>>7)*27,if b>>>UInt8.ofNat i&&&1=1 then (nE a b i).2^^^(nE a b i).1 else (nE a b i).2)
def tI (a b:UInt8):UInt8:=(nE a b 8).2
def Al (a:UInt8) (k:Nat) (o:UInt8):UInt8:=if k=0 then o else Al (tI a a) (k/2) (if k%2=1 then tI o a else o)
termination_by k
def rj (a:UInt8) (n:Nat):UInt8:=if a=0 then (if n=0 then 1 else 0) else Al a (n%255) 1
def LG (b:UInt8) (k:Nat):UInt8:=b<<<UInt8.ofNat k ||| b>>>UInt8.ofNat (8-k)
def Gj (b:UInt8):Nat→UInt8
 | 0=>b
 | i+1=>Gj b i^^^LG b (i+1)
def fU (a:UInt8):UInt8:=Gj (rj a 254) 4^^^99
def tC (b:List UInt8) (k:Nat):List UInt8:= [fU (b.getD 13 default)^^^rj 2 k,fU (b.getD 14 default),fU (b.getD 15 default),fU (b.getD 12 default)]
def qH (b w:List UInt8):Nat→List UInt8
 | 0=>w
 | i+1=>(qH b w i).set (i%4) ((qH b w i).getD (i%4) default^^^b.getD i default)
theorem qY {b w:List UInt8}:∀{i},(qH b w i).length=w.length
 | 0=>rfl
 | i+1=>by simp [qH,qY (i:=i)]
def Df (b w:List UInt8):List UInt8:=(List.range 16).map fun j=>(qH b w (j+1)).getD (j%4) default
def HV (b:B16) (k:Nat):B16:=⟨Df b.l (tC b.l k),by simp [Df]⟩
def dT (key:B16):Nat→B16
 | 0=>key
 | k+1=>HV (dT key k) k
def ez (key:B16) (k:Nat):List B16:=(List.range 11).map fun j=>if j≤k then dT key j else B16.zero
def kq (p:Nat) (old:List UInt8):List UInt8:=(List.range 16).map fun j=>old.getD (4*((j/4+p*(j%4))%4)+j%4) default
def Do (f old:List UInt8) (c r:Nat):Nat→UInt8
 | 0=>0
 | i+1=>Do f old c r i^^^tI (f.getD i default) (old.getD (4*c+(r+i)%4) default)
def kW (f old:List UInt8):List UInt8:=(List.range 16).map fun j=>Do f old (j/4) (j%4) 4
def kQ (s k:List UInt8):List UInt8:=(List.range 16).map fun j=>s.getD j default^^^k.getD j default
def kr (f:UInt8→UInt8) (s:List UInt8):List UInt8:=(List.range 16).map fun j=>f (s.getD j default)
def nr (sch:List B16) (b:B16):Nat→B16
 | 0=>⟨kQ b.l (sch.getD 0 B16.zero).l,by simp [kQ]⟩
 | k+1=>⟨kQ (if k+1<10 then kW [2,3,1,1] (kq 1 (kr fU (nr sch b k).l)) else kq 1 (kr fU (nr sch b k).l)) (sch.getD (k+1) B16.zero).l,by simp [kQ]⟩
def xQ (sch:List B16) (b:B16):B16:=nr sch b 10
def rN (n:Non) (c:Nat):B16:=⟨be n.sh 4++(be n.ct 8++be c 4),by simp⟩
def B9 (key:B16) (n:Non) (c:Nat):B16:=xQ (ez key 10) (rN n c)
def li (key:B16) (n:Non) (l:List UInt8):List UInt8:=(List.range l.length).map fun j=>l.getD j default^^^(B9 key n (j/16)).l.getD (j%16) default
@[simp] theorem Dg (key:B16) (n:Non) (l:List UInt8):(li key n l).length=l.length:=by simp [li]
theorem CF (key:B16) (n:Non) (l:List UInt8):li key n (li key n l)=l:=by
 apply List.ext_getElem (by simp)
 intro j h1 h2
 simp only [li,List.getElem_map,List.getElem_range,List.length_map,List.length_range]
 have e:((List.range l.length).map fun j=>l.getD j default^^^(B9 key n (j/16)).l.getD (j%16) default).getD j default=l.getD j default^^^(B9 key n (j/16)).l.getD (j%16) default:=by
  simp [List.getD,List.getElem?_eq_getElem,h2]
 rw [e,UInt8.xor_assoc,UInt8.xor_self,UInt8.xor_zero]
 simp [List.getD,List.getElem?_eq_getElem h2]
structure Key where
 enc:B16
 mac:Dig
def De (m:Dig):Dig:=ej [99,97,105,115,115,111,110] m.l
def nv (m:Dig):Key:=⟨⟨((ej (De m).l ([101,110,99,114,121,112,116]++ [1])).l).take 16,by simp [Dig.h]⟩,ej (De m).l ([109,97,99]++ [1])⟩
def fz (i:Nat) (n:Non) (d:Dig):List UInt8:=be i 4++((be n.sh 4++be n.ct 8)++d.l)
def cJ (k:Key) (n:Non) (d:Dig):Dig:=⟨li k.enc n d.l,by simp [d.h]⟩
def il (k:Key) (i:Nat) (n:Non) (d:Dig):Dig:=ej k.mac.l (fz i n d)
theorem n7 (k:Key) (n:Non) (d:Dig):cJ k n (cJ k n d)=d:=Dig.ext' (CF _ _ _)
end Go.Cs
