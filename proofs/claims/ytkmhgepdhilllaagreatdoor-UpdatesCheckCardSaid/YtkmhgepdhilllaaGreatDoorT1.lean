/- Lemmas and walks: what each function does, by its own code. No condition beyond those of each statement. -/
import Derived.WalkKit
import Derived.Deep.LoopGhost
import Derived.WalkSpells
import Derived.WalkLawsBesides
import Derived.OrdersIn
import Derived.OwnWalkIn
import Derived.LoopIn
import Derived.RangeFuncNested
import Derived.RangeFuncLeaves
import Derived.Stop.BytesEq
import Derived.Laws.Tables
import Derived.Laws.Concat
import Derived.Great.BuildSlice
import Derived.Deep.AppendLies
set_option linter.all false
set_option linter.unusedVariables false
namespace Go.Cs
open Go Go.RowKit
def lk:List (Nat×Value)→Nat→Value
 | [],_=>undef
 |(k,v)::r,t=>bif Nat.beq k t then v else lk r t
def Fr (ds:List Deferred) (n:Nat) (σ:List (Nat×Value)):Act:={tmps:=((List.range n).map (lk σ)).toArray,defers:=ds}
def fen (ro:Option Nat):Fence:={Fence.wide with round:=ro}
abbrev wpR (ro:Option Nat) (P:Program) (c:Code) (Q:Exit→Act→World→Prop) (a:Act) (w:World):Prop:=c.wpIn (fen ro) 0 P Q a w
abbrev vI (n:Nat):Value:= .int .i64 (n:Int)
abbrev vB (n:Nat):Value:= .int .u8 (n:Int)
abbrev vW (n:Nat):Value:= .int .u32 (n:Int)
abbrev vQ (n:Nat):Value:= .int .u64 (n:Int)
abbrev vH (n:Nat):Value:= .int .u16 (n:Int)
abbrev vT:Value:= .bool true
abbrev vF:Value:= .bool false
abbrev pA (b o:Nat):Option Addr:=some ⟨b,o,none⟩
abbrev vP (b o:Nat):Value:= .pointer (some ⟨b,o,none⟩)
abbrev vA (l:List Value):Value:= .agg l.toArray
def ev (n:Nat) (σ:List (Nat×Value)):Operand→Value
 | .tmp t=>bif Nat.blt t n then lk σ t else undef
 | .const v=>v
 | .global g=> .pointer (some ⟨g,0,none⟩)
 | .func f=> .func (.func f) #[] #[]
def zak (σ:List (Nat×Value)):Option Tmp→Value→List (Nat×Value)
 | none,_=>σ
 | some d,v=>(d,v)::σ
theorem zmr {a b:Nat} (h:a<b):Nat.blt a b=true:=by simpa [Nat.blt_eq] using h
theorem zkD {a b:Nat} (h:b≤a):Nat.blt a b=false:=by
 cases hb:Nat.blt a b with
 | false=>rfl
 | true=>rw [Nat.blt_eq] at hb;omega
theorem zoF {k t:Nat} {v:Value} {σ:List (Nat×Value)} (h:k≠t):lk ((k,v)::σ) t=lk σ t:=by
 have:Nat.beq k t=false:=by
  cases hb:Nat.beq k t with
  | false=>rfl
  | true=>exact absurd (Nat.eq_of_beq_eq_true hb) h
 simp [lk,this]
theorem zog {k:Nat} {v:Value} {σ:List (Nat×Value)}:lk ((k,v)::σ) k=v:=by
 simp [lk]
theorem zd5 (ds:List Deferred) (n:Nat) (σ:List (Nat×Value)):(Fr ds n σ).eval=ev n σ:=by
 funext x
 cases x with
 | tmp t=>
  rcases Nat.lt_or_ge t n with h | h
  ·simp [Act.eval,Fr,ev,zmr h,h]
  ·simp [Act.eval,Fr,ev,zkD h,h]
 | _=>rfl
theorem zdZ (ds:List Deferred) (n:Nat) (σ:List (Nat×Value)) (d:Option Tmp) (v:Value):(Fr ds n σ).put d v=Fr ds n (zak σ d v):=by
 cases d with
 | none=>rfl
 | some d=>
  simp only [Act.put,Fr,zak]
  congr 1
  apply Array.ext
  ·simp
  ·intro i h1 h2
   simp only [Array.size_setIfInBounds,List.size_toArray,List.length_map,List.length_range] at h1
   by_cases hd:d=i
   ·subst hd;simp [zog]
   ·simp [hd,zoF hd]
theorem zjh {ds:List Deferred} {n:Nat} {σ τ:List (Nat×Value)} (h:(List.range n).map (lk σ)=(List.range n).map (lk τ)):Fr ds n σ=Fr ds n τ:=by
 simp [Fr,h]
def yl (ops:Array Oper) (n:Nat) (σ:List (Nat×Value)) (j:Nat):Option Bool:=
 match (ops[j]?).bind (·.dst) with
 | some d=>bif Nat.blt d n then (match lk σ d with | .bool b=>some b | _=>none) else none
 | none=>none
theorem zox (ds:List Deferred) (ops:Array Oper) (n:Nat) (σ:List (Nat×Value)) (j:Nat):yielded ops (Fr ds n σ).tmps j=yl ops n σ j:=by
 unfold yielded yl
 cases hd:(ops[j]?).bind (·.dst) with
 | none=>rfl
 | some d=>
  rcases Nat.lt_or_ge d n with h | h
  ·simp only [Option.bind_some,Fr,zmr h,cond_true]
   have:(List.map (lk σ) (List.range n)).toArray[d]? =some (lk σ d):=by simp [h]
   rw [this]
   cases lk σ d<;>rfl
  ·have:(Fr ds n σ).tmps[d]? =none:=by simp [Fr,h]
   simp [this,zkD h]
def wnt (ops:Array Oper) (n:Nat) (σ:List (Nat×Value)) (o:Oper):Bool:=
 match o.guard with
 | none=>true
 | some (j,b)=>match yl ops n σ j,b with
  | some true,true=>true
  | some false,false=>true
  | _,_=>false
theorem zdp (ds:List Deferred) (ops:Array Oper) (n:Nat) (σ:List (Nat×Value)) (o:Oper):Region.wanted o (yielded ops (Fr ds n σ).tmps)=wnt ops n σ o:=by
 unfold Region.wanted wnt
 cases hg:o.guard with
 | none=>rfl
 | some p=>
  obtain ⟨j,b⟩:=p
  simp only [zox]
  cases yl ops n σ j with
  | none=>cases b<;>rfl
  | some c=>cases c<;>cases b<;>rfl
def wpF {ro:Option Nat} {ds:List Deferred} (P:Program) (ops:Array Oper) (Q:Exit→Act→World→Prop) (n k:Nat) (σ:List (Nat×Value)) (w:World):Prop:=
 wpListIn (fen ro) 0 P ops Q (ops.toList.drop k) (Fr ds n σ) w
def wpC {ro:Option Nat} {ds:List Deferred} (P:Program) (c:Code) (Q:Exit→Act→World→Prop) (n:Nat) (σ:List (Nat×Value)) (w:World):Prop:=
 wpR ro P c Q (Fr ds n σ) w
section
variable {ro:Option Nat} {ds:List Deferred} {P:Program} {Q:Exit→Act→World→Prop} {n:Nat} {σ:List (Nat×Value)} {w:World} {ops:Array Oper} {k:Nat}
theorem zg {id:Nat} (h:wpF (ro:=ro) (ds:=ds) P ops Q n 0 σ w):wpC (ro:=ro) (ds:=ds) P (.region id ops false) Q n σ w:=
 wpIn_region_list (by simpa [wpF] using h)
theorem zd {x y:Code} (h:wpC (ro:=ro) (ds:=ds) P x (Exit.then (wpR ro P y Q) Q) n σ w):wpC (ro:=ro) (ds:=ds) P (.seq x y) Q n σ w:=wpIn_seq h
theorem zp {id:Nat} {c:Code} (h:wpC (ro:=ro) (ds:=ds) P c (Exit.inBlock id Q) n σ w):wpC (ro:=ro) (ds:=ds) P (.block id c) Q n σ w:=wpIn_block h
theorem zl (h:Q .normal (Fr ds n σ) w):wpC (ro:=ro) (ds:=ds) P .skip Q n σ w:=wpIn_skip h
theorem zaH (h:Q .ret (Fr ds n σ) w):wpC (ro:=ro) (ds:=ds) P .ret Q n σ w:=wpIn_ret h
theorem zP {id:Nat} (h:Q (.exit id) (Fr ds n σ) w):wpC (ro:=ro) (ds:=ds) P (.exit id) Q n σ w:=wpIn_exit h
theorem zk {c:Operand} {x y:Code} (h:wpC (ro:=ro) (ds:=ds) P x Q n σ w) (hc:ev n σ c= .bool true:=by kernel_rfl):wpC (ro:=ro) (ds:=ds) P (.cond c x y) Q n σ w:=
 wpIn_cond_true (by rw [zd5];exact hc) h
theorem zf {c:Operand} {x y:Code} (h:wpC (ro:=ro) (ds:=ds) P y Q n σ w) (hc:ev n σ c= .bool false:=by kernel_rfl):wpC (ro:=ro) (ds:=ds) P (.cond c x y) Q n σ w:=
 wpIn_cond_false (by rw [zd5];exact hc) h
theorem zn {K:Act→World→Prop} {a:Act} (h:K a w):Exit.then K Q .normal a w:=h
theorem zc {c:Code} (h:wpC (ro:=ro) (ds:=ds) P c Q n σ w):Exit.then (wpR ro P c Q) Q .normal (Fr ds n σ) w:=h
theorem zi {id:Nat} {a:Act} (h:Q .normal a w):Exit.inBlock id Q .normal a w:=h
theorem zD {id:Nat} {a:Act} (h:Q .normal a w):Exit.inBlock id Q (.exit id) a w:=by simpa [Exit.inBlock] using h
theorem zq (h:Q .normal (Fr ds n σ) w) (hk:ops.size=k:=by kernel_rfl):wpF (ro:=ro) (ds:=ds) P ops Q n k σ w:=by
 unfold wpF
 have:ops.toList.drop k= []:=by simp [←hk]
 rw [this];exact wpListIn_nil h
theorem zg5 {o:Oper} (ho:ops[k]? =some o):ops.toList.drop k=o::ops.toList.drop (k+1):=by
 obtain ⟨hk,he⟩:=Array.getElem?_eq_some_iff.1 ho
 rw [List.drop_eq_getElem_cons (by simpa using hk)]
 simp [he]
def zkI:Result Next→Bool
 | .ok (.value _) _ | .ok .skip _ | .ok (.enter _ _) _ | .ok (.round _ _ _ _ _) _=>true
 | _=>false
theorem zb6 {o:Oper} {ρ:Operand→Value} (h:zkI ((execOp ρ o).run P w)=true) (ro:Option Nat):o.semAt ro ρ=execOp ρ o:=by
 refine Oper.semAt_eq _ _ _ ?_
 intro c hc
 revert h
 unfold execOp
 rw [hc]
 simp only [Sem.run_bind]
 cases hr:(resolve ρ c o.type).run P w<;>simp [Result.andThen,zkI]
theorem znU {o:Oper} (v:Value) (w':World) (ho:ops[k]? =some o) (hg:wnt ops n σ o=true) (hr:(execOp (ev n σ) o).run P w= .ok (.value v) w')
  (h:wpF (ro:=ro) (ds:=ds) P ops Q n (k+1) (zak σ o.dst v) w'):wpF (ro:=ro) (ds:=ds) P ops Q n k σ w:=by
 unfold wpF at*
 rw [zg5 ho]
 unfold wpListIn
 rw [zdp,hg,if_pos rfl]
 unfold Oper.wpIn
 refine ⟨fun _ _=>trivial, ?_⟩
 rw [zd5,zb6 (P:=P) (w:=w) (by rw [hr];rfl),hr,Oper.uponIn_value,zdZ]
 exact h
theorem zuz {o:Oper} (w':World) (ho:ops[k]? =some o) (hg:wnt ops n σ o=true) (hr:(execOp (ev n σ) o).run P w= .ok .skip w')
  (h:wpF (ro:=ro) (ds:=ds) P ops Q n (k+1) (zak σ o.dst undef) w'):wpF (ro:=ro) (ds:=ds) P ops Q n k σ w:=by
 unfold wpF at*
 rw [zg5 ho]
 unfold wpListIn
 rw [zdp,hg,if_pos rfl]
 unfold Oper.wpIn
 refine ⟨fun _ _=>trivial, ?_⟩
 rw [zd5,zb6 (P:=P) (w:=w) (by rw [hr];rfl),hr,Oper.uponIn_skip,zdZ]
 exact h
theorem znq {o:Oper} (ho:ops[k]? =some o) (hg:wnt ops n σ o=false)
  (h:wpF (ro:=ro) (ds:=ds) P ops Q n (k+1) (zak σ o.dst undef) w):wpF (ro:=ro) (ds:=ds) P ops Q n k σ w:=by
 unfold wpF at*
 rw [zg5 ho]
 unfold wpListIn
 rw [zdp,hg,if_neg (by simp),zdZ]
 exact ⟨fun _ _=>trivial,h⟩
def Ret (R:Value→World→Prop):Ending→World→Prop:=fun e w'=>∃v,e= .returned v∧R v w'
abbrev Rnd (P:Program) (l:Nat) (f:FuncId) (tmps:Array Value) (assign body:Code) (w:World) (R:Ending→World→Prop):Prop:=
 RoundIn Fence.wide 0 P l f tmps assign body w R
def zaA (P:Program) (ops:Array Oper) (n k:Nat) (σ:List (Nat×Value)) (w:World) (K:List (Nat×Value)→World→Prop):Prop:=
 ∃o,ops[k]? =some o∧((wnt ops n σ o=true∧(match (execOp (ev n σ) o).run P w with
  | .ok (.value v) w'=>K (zak σ o.dst v) w'
  | .ok .skip w'=>K (zak σ o.dst undef) w'
  | .ok (.enter f args) w'=>Calls P f args w' (Ret fun v w''=>K (zak σ o.dst v) w'')
  | .ok (.round l f tmps assign body) w'=>Rnd P l f tmps assign body w' (Ret fun v w''=>K (zak σ o.dst v) w'')
  | _=>False))∨(wnt ops n σ o=false∧K (zak σ o.dst undef) w))
def zbp (ops:Array Oper) (n:Nat) (σ:List (Nat×Value)) (k:Nat):Option (Option Tmp×Sem Next):=
 match ops[k]? with
 | none=>none
 | some o=>match wnt ops n σ o with
  | true=>some (o.dst,execOp (ev n σ) o)
  | false=>none
theorem zed {d:Option Tmp} {s:Sem Next} (h:zbp ops n σ k=some (d,s)):∃o,ops[k]? =some o∧wnt ops n σ o=true∧o.dst=d∧execOp (ev n σ) o=s:=by
 unfold zbp at h
 cases ho:ops[k]? with
 | none=>simp [ho] at h
 | some o=>
  simp only [ho] at h
  cases hw:wnt ops n σ o with
  | false=>simp [hw] at h
  | true=>
   simp only [hw,Option.some.injEq,Prod.mk.injEq] at h
   exact ⟨o,rfl,hw,h.1,h.2⟩
theorem zlD {K:List (Nat×Value)→World→Prop} {d:Option Tmp} {s:Sem Next} {v:Value} {w':World} (he:zbp ops n σ k=some (d,s)) (hr:s.run P w= .ok (.value v) w') (h:K (zak σ d v) w'):zaA P ops n k σ w K:=by
 obtain ⟨o,ho,hw,rfl,rfl⟩:=zed he
 exact ⟨o,ho, .inl ⟨hw,by rw [hr];exact h⟩⟩
theorem zuj {K:List (Nat×Value)→World→Prop} {d:Option Tmp} {s:Sem Next} {w':World} (he:zbp ops n σ k=some (d,s)) (hr:s.run P w= .ok .skip w') (h:K (zak σ d undef) w'):zaA P ops n k σ w K:=by
 obtain ⟨o,ho,hw,rfl,rfl⟩:=zed he
 exact ⟨o,ho, .inl ⟨hw,by rw [hr];exact h⟩⟩
theorem zo3 {K:List (Nat×Value)→World→Prop} {d:Option Tmp} {s:Sem Next} {f:FuncId} {args:Array Value} {R:Value→World→Prop} (he:zbp ops n σ k=some (d,s)) (hr:s.run P w= .ok (.enter f args) w)
  (hc:Calls P f args w (Ret R)) (h:∀v w',R v w'→K (zak σ d v) w'):zaA P ops n k σ w K:=by
 obtain ⟨o,ho,hw,rfl,rfl⟩:=zed he
 refine ⟨o,ho, .inl ⟨hw, ?_⟩⟩
 rw [hr]
 exact hc.mono fun e w' ⟨v,he,hv⟩=>⟨v,he,h v w' hv⟩
theorem zoX {K:List (Nat×Value)→World→Prop} {d:Option Tmp} {s:Sem Next} {l:Nat} {f:FuncId} {tmps:Array Value} {assign body:Code} {R:Value→World→Prop} (he:zbp ops n σ k=some (d,s)) (hr:s.run P w= .ok (.round l f tmps assign body) w)
  (hc:Rnd P l f tmps assign body w (Ret R)) (h:∀v w',R v w'→K (zak σ d v) w'):zaA P ops n k σ w K:=by
 obtain ⟨o,ho,hw,rfl,rfl⟩:=zed he
 refine ⟨o,ho, .inl ⟨hw, ?_⟩⟩
 rw [hr]
 exact hc.mono fun e w' ⟨v,he,hv⟩=>⟨v,he,h v w' hv⟩
def zbc (P:Program) (ops:Array Oper) (n:Nat) (σ:List (Nat×Value)) (k:Nat) (w:World):Option (Option Tmp×Value×World):=
 match zbp ops n σ k with
 | some (d,s)=>match s.run P w with
  | .ok (.value v) w'=>some (d,v,w')
  | _=>none
 | none=>none
def zgI (P:Program) (ops:Array Oper) (n:Nat) (σ:List (Nat×Value)) (k:Nat) (w:World):Option (Option Tmp×FuncId×Array Value×World):=
 match zbp ops n σ k with
 | some (d,s)=>match s.run P w with
  | .ok (.enter f args) w'=>some (d,f,args,w')
  | _=>none
 | none=>none
theorem zeS {K:List (Nat×Value)→World→Prop} {d:Option Tmp} {v:Value} {w':World} (he:zbc P ops n σ k w=some (d,v,w')) (h:K (zak σ d v) w'):zaA P ops n k σ w K:=by
 unfold zbc at he
 cases hx:zbp ops n σ k with
 | none=>simp [hx] at he
 | some p=>
  obtain ⟨d',s⟩:=p
  simp only [hx] at he
  cases hr:s.run P w with
  | halt _ _=>simp [hr] at he
  | ok nx w1=>
   cases nx with
   | value u=>
    simp only [hr,Option.some.injEq,Prod.mk.injEq] at he
    obtain ⟨rfl,rfl,rfl⟩:=he
    exact zlD hx hr h
   | _=>simp [hr] at he
theorem zpX {K:List (Nat×Value)→World→Prop} {d:Option Tmp} {f:FuncId} {args:Array Value} {R:Value→World→Prop} (he:zgI P ops n σ k w=some (d,f,args,w))
  (hc:Calls P f args w (Ret R)) (h:∀v w',R v w'→K (zak σ d v) w'):zaA P ops n k σ w K:=by
 unfold zgI at he
 cases hx:zbp ops n σ k with
 | none=>simp [hx] at he
 | some p=>
  obtain ⟨d',s⟩:=p
  simp only [hx] at he
  cases hr:s.run P w with
  | halt _ _=>simp [hr] at he
  | ok nx w1=>
   cases nx with
   | enter g azz=>
    simp only [hr,Option.some.injEq,Prod.mk.injEq] at he
    obtain ⟨rfl,rfl,rfl,rfl⟩:=he
    exact zo3 hx hr hc h
   | _=>simp [hr] at he
theorem za (h:zaA P ops n k σ w (fun τ w'=>wpF (ro:=ro) (ds:=ds) P ops Q n (k+1) τ w')):wpF (ro:=ro) (ds:=ds) P ops Q n k σ w:=by
 obtain ⟨o,ho,⟨hw,h⟩|⟨hw,h⟩⟩:=h
 ·cases hr:(execOp (ev n σ) o).run P w with
  | halt x w'=>simp only [hr] at h
  | ok nx w'=>
   cases nx with
   | value v=>simp only [hr] at h;exact znU v w' ho hw hr h
   | skip=>simp only [hr] at h;exact zuz w' ho hw hr h
   | enter f args=>
    simp only [hr] at h
    unfold wpF
    rw [zg5 ho]
    unfold wpListIn
    rw [zdp,hw,if_pos rfl]
    unfold Oper.wpIn
    refine ⟨fun _ _=>trivial, ?_⟩
    rw [zd5,zb6 (P:=P) (w:=w) (by rw [hr];rfl),hr,Oper.uponIn_enter]
    refine ⟨fun h=>(by cases h), ?_⟩
    have h':CallsIn (fen ro) (0-1) P f args w' (Ret fun v w''=>wpF (ro:=ro) (ds:=ds) P ops Q n (k+1) (zak σ o.dst v) w''):=callsIn_wide (n:=0-1).2 h
    refine CallsIn.mono h' ?_
    rintro e w'' ⟨v,rfl,hv⟩
    show wpListIn (fen ro) 0 P ops Q _ ((Fr ds n σ).put o.dst v) w''
    rw [zdZ]
    exact hv
   | round l f tmps assign body=>
    simp only [hr] at h
    unfold wpF
    rw [zg5 ho]
    unfold wpListIn
    rw [zdp,hw,if_pos rfl]
    unfold Oper.wpIn
    refine ⟨fun _ _=>trivial, ?_⟩
    rw [zd5,zb6 (P:=P) (w:=w) (by rw [hr];rfl),hr,Oper.uponIn_round]
    refine ⟨fun h=>(by cases h), ?_⟩
    have h':RoundIn (fen ro) (0-1) P l f tmps assign body w' (Ret fun v w''=>wpF (ro:=ro) (ds:=ds) P ops Q n (k+1) (zak σ o.dst v) w''):=h
    refine RoundIn.mono h' ?_
    rintro e w'' ⟨v,rfl,hv⟩
    show wpListIn (fen ro) 0 P ops Q _ ((Fr ds n σ).put o.dst v) w''
    rw [zdZ]
    exact hv
   | _=>simp only [hr] at h
 ·exact znq ho hw h
def zjb (P:Program) (ops:Array Oper) (n:Nat):Nat→Nat→List (Nat×Value)→List (Nat×Value)→World→Option (List (Nat×Value)×World)
 | 0,_,_,acc,w=>some (acc,w)
 | m+1,k,σ,acc,w=>
  match ops[k]? with
  | none=>none
  | some o=>
   match wnt ops n σ o with
   | true=>match (execOp (ev n σ) o).run P w with
    | .ok (.value v) w'=>zjb P ops n m (k+1) (zak σ o.dst v) (zak acc o.dst v) w'
    | _=>none
   | false=>zjb P ops n m (k+1) (zak σ o.dst undef) (zak acc o.dst undef) w
theorem zpD:∀(m k:Nat) (σ acc τ:List (Nat×Value)) (w w':World),zjb P ops n m k σ acc w=some (τ,w')→
  (∀δ,τ=δ++acc→wpF (ro:=ro) (ds:=ds) P ops Q n (k+m) (δ++σ) w')→(∃δ,τ=δ++acc)∧wpF (ro:=ro) (ds:=ds) P ops Q n k σ w:=by
 intro m
 induction m with
 | zero=>
  intro k σ acc τ w w' h hk
  simp only [zjb,Option.some.injEq,Prod.mk.injEq] at h
  obtain ⟨rfl,rfl⟩:=h
  exact ⟨⟨[],rfl⟩,hk [] rfl⟩
 | succ m ih=>
  intro k σ acc τ w w' h hk
  unfold zjb at h
  cases ho:ops[k]? with
  | none=>simp [ho] at h
  | some o=>
   simp only [ho] at h
   have step:∀(v:Value) (w1:World),zjb P ops n m (k+1) (zak σ o.dst v) (zak acc o.dst v) w1=some (τ,w')→
     (∃δ,τ=δ++acc)∧wpF (ro:=ro) (ds:=ds) P ops Q n (k+1) (zak σ o.dst v) w1:=by
    intro v w1 hh
    cases hd:o.dst with
    | none=>
     simp only [hd,zak] at hh⊢
     have:=ih (k+1) σ acc τ w1 w' hh (fun δ e=>by have:=hk δ e;rwa [Nat.add_comm m 1,←Nat.add_assoc] at this)
     exact this
    | some d=>
     simp only [hd,zak] at hh⊢
     have:=ih (k+1) ((d,v)::σ) ((d,v)::acc) τ w1 w' hh (fun δ e=>by
      have:=hk (δ++ [(d,v)]) (by simpa using e)
      rw [Nat.add_comm m 1,←Nat.add_assoc] at this
      simpa using this)
     obtain ⟨⟨δ,hδ⟩,h2⟩:=this
     exact ⟨⟨δ++ [(d,v)],by simpa using hδ⟩,h2⟩
   cases hw:wnt ops n σ o with
   | true=>
    simp only [hw] at h
    cases hr:(execOp (ev n σ) o).run P w with
    | halt x w1=>simp [hr] at h
    | ok nx w1=>
     cases nx with
     | value v=>
      simp only [hr] at h
      obtain ⟨h1,h2⟩:=step v w1 h
      exact ⟨h1,znU v w1 ho hw hr h2⟩
     | _=>simp [hr] at h
   | false=>
    simp only [hw] at h
    obtain ⟨h1,h2⟩:=step undef w h
    exact ⟨h1,znq ho hw h2⟩
theorem zb (m:Nat) (δ:List (Nat×Value)) (hk:wpF (ro:=ro) (ds:=ds) P ops Q n (k+m) (δ++σ) w) (h:zjb P ops n m k σ [] w=some (δ,w):=by kernel_rfl):wpF (ro:=ro) (ds:=ds) P ops Q n k σ w:=by
 refine (zpD (Q:=Q) m k σ [] δ w w h ?_).2
 intro δ' e
 simp only [List.append_nil] at e
 exact e▸hk
def dAt (ops:Array Oper) (k:Nat):Option Tmp:=match ops[k]? with | some o=>o.dst | none=>none
def zbH (ops:Array Oper) (k:Nat):TypeId:=match ops[k]? with
 | some o=>match o.op with
  | .load t _=>t
  | .store t _ _=>t
  | .indexAddr t _ _=>t
  | .index t _ _=>t
  | .alloc t=>t
  | .box t _=>t
  | _=>0
 | none=>0
theorem wEt {c:Code} (h:wpC (ro:=ro) (ds:=ds) P c Q n σ w) (hk:ops.size=k:=by kernel_rfl):wpF (ro:=ro) (ds:=ds) P ops (Exit.then (wpR ro P c Q) Q) n k σ w:=zq (zc h) hk
theorem wsr {id:Nat} {y:Code} {ops:Array Oper} (h:wpF (ro:=ro) (ds:=ds) P ops (Exit.then (wpR ro P y Q) Q) n 0 σ w):wpC (ro:=ro) (ds:=ds) P (.seq (.region id ops false) y) Q n σ w:=zd (zg h)
theorem zz {id:Nat} {y:Code} {o2:Array Oper} (h:wpF (ro:=ro) (ds:=ds) P o2 (Exit.then (wpR ro P y Q) Q) n 0 σ w) (hk:ops.size=k:=by kernel_rfl):wpF (ro:=ro) (ds:=ds) P ops (Exit.then (wpR ro P (.seq (.region id o2 false) y) Q) Q) n k σ w:=wEt (wsr h) hk
theorem zM {id:Nat} {x y:Code} {o2:Array Oper} (h:wpF (ro:=ro) (ds:=ds) P o2 (Exit.then (wpR ro P x (Exit.then (wpR ro P y Q) Q)) (Exit.then (wpR ro P y Q) Q)) n 0 σ w) (hk:ops.size=k:=by kernel_rfl):wpF (ro:=ro) (ds:=ds) P ops (Exit.then (wpR ro P (.seq (.seq (.region id o2 false) x) y) Q) Q) n k σ w:=wEt (zd (wsr h)) hk
theorem zdx {id:Nat} {o2:Array Oper} (h:wpF (ro:=ro) (ds:=ds) P o2 Q n 0 σ w) (hk:ops.size=k:=by kernel_rfl):wpF (ro:=ro) (ds:=ds) P ops (Exit.then (wpR ro P (.region id o2 false) Q) Q) n k σ w:=wEt (zg h) hk
theorem zF (h:Q .ret (Fr ds n σ) w) (hk:ops.size=k:=by kernel_rfl):wpF (ro:=ro) (ds:=ds) P ops (Exit.then (wpR ro P .ret Q) Q) n k σ w:=wEt (zaH h) hk
end
section
variable {ro:Option Nat} {ds:List Deferred} {P:Program} {Q:Exit→Act→World→Prop} {n:Nat} {σ:List (Nat×Value)} {w:World}
theorem zo {K:Act→World→Prop} {a:Act} {i:Nat} (h:Q (.exit i) a w):Exit.then K Q (.exit i) a w:=h
theorem zj {K:Act→World→Prop} {a:Act} (h:Q .ret a w):Exit.then K Q .ret a w:=h
theorem zu {id:Nat} {a:Act} (h:Q .ret a w):Exit.inBlock id Q .ret a w:=h
def zjq (δ live:List (Nat×Value)) (dead:List Nat):Bool:=δ.all fun p=>(live.any fun q=>Nat.beq q.1 p.1)|| dead.any fun s=>Nat.beq s p.1
theorem zh0 (a b:List (Nat×Value)) (t:Nat):lk (a++b) t=if (a.any fun q=>Nat.beq q.1 t)=true then lk a t else lk b t:=by
 induction a with
 | nil=>rfl
 | cons p a ih=>
  obtain ⟨k,v⟩:=p
  simp only [List.cons_append,lk,List.any_cons,Bool.or_eq_true]
  cases h:Nat.beq k t with
  | true=>simp
  | false=>simp only [cond_false,ih,Bool.false_eq_true,false_or]
theorem ztd (f:Nat→Value) (dead:List Nat) (t:Nat) (h:(dead.any fun s=>Nat.beq s t)=true):lk (dead.map fun s=>(s,f s)) t=f t:=by
 induction dead with
 | nil=>simp at h
 | cons s dead ih=>
  simp only [List.map_cons,lk]
  cases hb:Nat.beq s t with
  | true=>rw [Nat.eq_of_beq_eq_true hb];rfl
  | false=>
   simp only [List.any_cons,hb,Bool.false_or] at h
   exact ih h
theorem zmu (f:Nat→Value) (dead:List Nat) (t:Nat):((dead.map fun s=>(s,f s)).any fun q=>Nat.beq q.1 t)=dead.any fun s=>Nat.beq s t:=by
 induction dead with
 | nil=>rfl
 | cons s dead ih=>simp only [List.map_cons,List.any_cons,ih]
theorem znb {τ:List (Nat×Value)}:∀{live:List (Nat×Value)},(live.map fun p=>lk τ p.1)=live.map Prod.snd→∀t,(live.any fun q=>Nat.beq q.1 t)=true→lk live t=lk τ t
 | [],_,t,h=>by simp at h
 |(k,v)::live,hv,t,h=>by
  simp only [List.map_cons,List.cons.injEq] at hv
  simp only [lk]
  cases hb:Nat.beq k t with
  | true=>rw [←Nat.eq_of_beq_eq_true hb];exact hv.1.symm
  | false=>
   simp only [List.any_cons,hb,Bool.false_or] at h
   exact znb hv.2 t h
theorem zjo {n:Nat} {τ σ live:List (Nat×Value)} {dead:List Nat} (hs:τ.drop (τ.length-σ.length)=σ) (hk:zjq (τ.take (τ.length-σ.length)) live dead=true) (hv:(live.map fun p=>lk τ p.1)=live.map Prod.snd):
  (List.range n).map (lk τ)=(List.range n).map (lk (live++(dead.map fun s=>(s,lk τ s))++σ)):=by
 apply List.map_congr_left
 intro t _
 rw [zh0,zh0]
 by_cases h1:(live.any fun q=>Nat.beq q.1 t)=true
 ·rw [List.any_append,h1,Bool.true_or,if_pos rfl,if_pos rfl,znb hv t h1]
 ·by_cases h2:(dead.any fun s=>Nat.beq s t)=true
  ·rw [List.any_append,zmu,h2,Bool.or_true,if_pos rfl,if_neg h1,ztd _ _ _ h2]
  ·rw [List.any_append,zmu,if_neg (by simp [h1,h2])]
   have h3:τ=τ.take (τ.length-σ.length)++σ:=by
    have:=List.take_append_drop (τ.length-σ.length) τ
    rw [hs] at this;exact this.symm
   have h4:lk τ t=lk (τ.take (τ.length-σ.length)++σ) t:=congrArg (fun z=>lk z t) h3
   rw [h4,zh0,if_neg]
   intro h5
   rw [List.any_eq_true] at h5
   obtain ⟨q,hq,hqt⟩:=h5
   have h6:=List.all_eq_true.1 hk q hq
   rw [Nat.eq_of_beq_eq_true hqt] at h6
   simp only [Bool.or_eq_true] at h6
   exact h6.elim h1 h2
def zu5 {ds:List Deferred} {X:Type} (live:X→List (Nat×Value)) (dead:List Nat) (n:Nat) (σ:List (Nat×Value)) (I:X→World→Prop) (μ:X→Nat) (x:X) (a:Act) (w':World):Prop:=
 ∃(x':X) (d':Nat→Value),a=Fr ds n (live x'++(dead.map fun s=>(s,d' s))++σ)∧I x' w'∧μ x'<μ x
theorem zjA {F:Fence} {m:Nat} {a:Act} {c:Code} (I:Nat→Act→World→Prop) (n₀:Nat) (h₀:I n₀ a w)
  (round:∀n a w,I n a w→c.wpIn F m P (Exit.then (fun a' w'=>∃n',n'<n∧I n' a' w') Q) a w):(Code.loop c).wpIn F m P Q a w:=by
 refine wpIn_loop (fun a w=>∃n,I n a w) (fun a w=>leastOf (fun n=>I n a w)) ⟨n₀,h₀⟩ ?_
 intro a w hI
 refine wpIn_mono (round _ a w (leastOf_spec hI).1) ?_
 intro e a' w' hq
 cases e with
 | normal=>
  obtain ⟨n',hlt,hI'⟩:=hq
  exact show (∃n,I n a' w')∧leastOf (fun n=>I n a' w')<leastOf (fun n=>I n a w) from ⟨⟨n',hI'⟩,Nat.lt_of_le_of_lt ((leastOf_spec ⟨n',hI'⟩).2 n' hI') hlt⟩
 | exit id=>exact hq
 | goto l=>exact hq
 | ret=>exact hq
 | panic ch=>exact hq
 | outgrown=>exact hq
theorem zU {X:Type} {c:Code} (live:X→List (Nat×Value)) (dead:List Nat) (I:X→World→Prop) (μ:X→Nat) (x0:X)
  (h0:((live x0).map fun p=>lk σ p.1)=(live x0).map Prod.snd) (hI:I x0 w)
  (round:∀(x:X) (d:Nat→Value) (w':World),I x w'→wpC (ro:=ro) (ds:=ds) P c (Exit.then (zu5 (ds:=ds) live dead n σ I μ x) Q) n (live x++(dead.map fun s=>(s,d s))++σ) w'):wpC (ro:=ro) (ds:=ds) P (.loop c) Q n σ w:=by
 unfold wpC
 have h0:(List.range n).map (lk σ)=(List.range n).map (lk (live x0++(dead.map fun s=>(s,lk σ s))++σ)):=zjo (by simp) (by simp [zjq]) h0
 rw [zjh h0]
 refine zjA (fun m a w'=>∃(x:X) (d:Nat→Value),a=Fr ds n (live x++(dead.map fun s=>(s,d s))++σ)∧I x w'∧μ x=m) (μ x0) ⟨x0,_,rfl,hI,rfl⟩ ?_
 rintro m a w' ⟨x,d,rfl,hx,rfl⟩
 refine wpIn_mono (round x d w' hx) ?_
 intro e a' w'' hq
 cases e with
 | normal=>
  obtain ⟨x',d',rfl,hx',hlt⟩:=hq
  exact ⟨μ x',hlt,x',d',rfl,hx',rfl⟩
 | exit id=>exact hq
 | goto l=>exact hq
 | ret=>exact hq
 | panic ch=>exact hq
 | outgrown=>exact hq
end
theorem zw {P:Program} {f:FuncId} {fn:Func} {c:Code} {args:Array Value} {w:World} {R:Value→World→Prop}
  (hf:P.funcs[f]? =some fn) (hb:fn.body=some c) {n:Nat} {σ:List (Nat×Value)}
  (h:wpC (ro:=none) (ds:= []) P c (bodyPost P fn (Ret R)) n σ w) (hn:args++Array.replicate (fn.ntmps-args.size) undef=(Fr [] n σ).tmps:=by kernel_rfl):Calls P f args w (Ret R):=by
 refine calls_of_wp hf hb ?_
 rw [hn];exact wpIn_wide.1 h
def ze9 (P:Program) (fn:Func) (R:Value→World→Prop):Exit→Act→World→Prop
 | .ret,a,w | .normal,a,w=>LeavesInM Fence.wide 0 P fn a.tmps (Ret R) a.defers .returning w
 | _,_,_=>False
theorem zcZ {P:Program} {f:FuncId} {fn:Func} {c:Code} {args:Array Value} {w:World} {R:Value→World→Prop}
  (hf:P.funcs[f]? =some fn) (hb:fn.body=some c) {n:Nat} {σ:List (Nat×Value)}
  (h:wpC (ro:=none) (ds:= []) P c (ze9 P fn R) n σ w) (hn:args++Array.replicate (fn.ntmps-args.size) undef=(Fr [] n σ).tmps:=by kernel_rfl):Calls P f args w (Ret R):=by
 refine callsIn_wide (n:=0).1 (callsIn_of_wp_marks hf hb trivial ?_)
 rw [hn]
 refine wpIn_mono h ?_
 intro e a w' hq
 cases e with
 | ret=>exact hq
 | normal=>exact hq
 | _=>exact hq.elim
def zO (P:Program) (n:Nat) (σ:List (Nat×Value)) (w:World):ResultVar→Value→Prop
 | .tmp t,v=>ev n σ (.tmp t)=v
 | .cell a T,v=>∃ad,ev n σ (.tmp a)= .pointer (some ad)∧(loadVar T ad).run P w= .ok v w
theorem znJ (ds:List Deferred) (n:Nat) (σ:List (Nat×Value)) (t:Nat):(Fr ds n σ).tmps.getD t undef=ev n σ (.tmp t):=by
 have:=congrFun (zd5 ds n σ) (.tmp t)
 simpa [Act.eval] using this
def znZ (tmps:Array Value):ResultVar→Sem Value
 | .tmp t=>pure (tmps.getD t undef)
 | .cell a t=>do loadVar t (←asAddr (tmps.getD a undef))
theorem zgf (fn:Func) (tmps:Array Value):results fn tmps=(do
  let vs←fn.results.mapM (znZ tmps)
  pure (if h:vs.size=1 then vs[0] else .tuple vs)):=rfl
theorem zfD {ds:List Deferred} {P:Program} {n:Nat} {σ:List (Nat×Value)} {w:World} {r:ResultVar} {v:Value} (h:zO P n σ w r v):(znZ (Fr ds n σ).tmps r).run P w= .ok v w:=by
 cases r with
 | tmp t=>simp only [zO] at h;simp only [znZ,znJ,h,Sem.run_pure]
 | cell a T=>
  obtain ⟨ad,h1,h2⟩:=h
  simp only [znZ,znJ,h1,asAddr]
  simpa using h2
def zwo (P:Program) (fn:Func) (R:Value→World→Prop) (Q:Exit→Act→World→Prop) (ds:List Deferred) (w:World):Prop:=
 ∀(n:Nat) (σ:List (Nat×Value)) (v:Value),(results fn (Fr ds n σ).tmps).run P w= .ok v w→R v w→Q .ret (Fr ds n σ) w
theorem zfn {P:Program} {fn:Func} {R:Value→World→Prop} {w:World}:zwo P fn R (bodyPost P fn (Ret R)) [] w:=fun n σ v hr h=>⟨rfl,v,hr,v,rfl,h⟩
section
variable {P:Program} {fn:Func} {R:Value→World→Prop} {n:Nat} {σ:List (Nat×Value)} {w:World} {ds:List Deferred} {Q:Act→World→Prop}
theorem zk5 {r:ResultVar} {v:Value} (hf:fn.results= #[r]) (h1:zO P n σ w r v):(results fn (Fr ds n σ).tmps).run P w= .ok v w:=by
 have g1:=zfD (ds:=ds) h1
 rw [zgf,hf]
 simp [g1]
theorem ze0 {r1 r2:ResultVar} {v1 v2:Value} (hf:fn.results= #[r1,r2]) (h1:zO P n σ w r1 v1) (h2:zO P n σ w r2 v2):(results fn (Fr ds n σ).tmps).run P w= .ok (.tuple #[v1,v2]) w:=by
 have g1:=zfD (ds:=ds) h1
 have g2:=zfD (ds:=ds) h2
 rw [zgf,hf]
 simp [g1,g2]
theorem zgy {r1 r2 r3:ResultVar} {v1 v2 v3:Value} (hf:fn.results= #[r1,r2,r3]) (h1:zO P n σ w r1 v1) (h2:zO P n σ w r2 v2) (h3:zO P n σ w r3 v3):(results fn (Fr ds n σ).tmps).run P w= .ok (.tuple #[v1,v2,v3]) w:=by
 have g1:=zfD (ds:=ds) h1
 have g2:=zfD (ds:=ds) h2
 have g3:=zfD (ds:=ds) h3
 rw [zgf,hf]
 simp [g1,g2,g3]
theorem zi5 (hf:fn.results= #[]):(results fn (Fr ds n σ).tmps).run P w= .ok (.tuple #[]) w:=by
 rw [zgf,hf]
 simp
theorem zaR {r:ResultVar} {v:Value} (h1:zO P n σ w r v) (h:R v w) (hf:fn.results= #[r]:=by kernel_rfl):bodyPost P fn (Ret R) .ret (Fr [] n σ) w:=zfn n σ _ (zk5 hf h1) h
theorem zaQ {r1 r2:ResultVar} {v1 v2:Value} (h1:zO P n σ w r1 v1) (h2:zO P n σ w r2 v2) (h:R (.tuple #[v1,v2]) w) (hf:fn.results= #[r1,r2]:=by kernel_rfl):bodyPost P fn (Ret R) .ret (Fr [] n σ) w:=zfn n σ _ (ze0 hf h1 h2) h
theorem zhN {r1 r2 r3:ResultVar} {v1 v2 v3:Value} (h1:zO P n σ w r1 v1) (h2:zO P n σ w r2 v2) (h3:zO P n σ w r3 v3) (h:R (.tuple #[v1,v2,v3]) w) (hf:fn.results= #[r1,r2,r3]:=by kernel_rfl):bodyPost P fn (Ret R) .ret (Fr [] n σ) w:=zfn n σ _ (zgy hf h1 h2 h3) h
def zlT (fn:Func) (n:Nat) (σ:List (Nat×Value)):Option Value:=
 match fn.results.toList with
 | []=>some (.tuple #[])
 | [.tmp a]=>some (ev n σ (.tmp a))
 | [.tmp a, .tmp b]=>some (.tuple #[ev n σ (.tmp a),ev n σ (.tmp b)])
 | [.tmp a, .tmp b, .tmp c]=>some (.tuple #[ev n σ (.tmp a),ev n σ (.tmp b),ev n σ (.tmp c)])
 | _=>none
theorem ziW {v:Value} (h:zlT fn n σ=some v):(results fn (Fr ds n σ).tmps).run P w= .ok v w:=by
 obtain ⟨rs,hrs⟩:∃l,fn.results.toList=l:=⟨_,rfl⟩
 have hf:fn.results=rs.toArray:=by rw [←hrs]
 unfold zlT at h
 rw [hrs] at h
 split at h
 ·cases h;exact zi5 hf
 ·cases h;exact zk5 hf rfl
 ·cases h;exact ze0 hf rfl rfl
 ·cases h;exact zgy hf rfl rfl rfl
 ·cases h
theorem zh (v:Value) (h:R v w) (hf:zlT fn n σ=some v:=by kernel_rfl):bodyPost P fn (Ret R) .ret (Fr [] n σ) w:=zfn n σ _ (ziW hf) h
theorem zlY (h:R (.tuple #[]) w) (hf:fn.results= #[]:=by kernel_rfl):bodyPost P fn (Ret R) .normal (Fr [] n σ) w:=⟨rfl,_,zi5 hf,_,rfl,h⟩
theorem zoz {D:Nat} {w':World} (ht:(Instr.takeDeferred D).run P w= .ok [] w') {v:Value} (hr:(results fn (Fr [{target:= .collected D,args:= #[]}] n σ).tmps).run P w'= .ok v w') (h:R v w'):
  ze9 P fn R .ret (Fr [{target:= .collected D,args:= #[]}] n σ) w:=by
 refine ⟨by simp, .inl ⟨_,_,rfl,ht, ?_⟩⟩
 exact ⟨_,hr,_,rfl,h⟩
theorem zn4 {D:Nat} {w':World} (ht:(Instr.takeDeferred D).run P w= .ok [] w') (v:Value) (h:R v w') (hf:zlT fn n σ=some v:=by kernel_rfl):
  ze9 P fn R .ret (Fr [{target:= .collected D,args:= #[]}] n σ) w:=zoz ht (ziW hf) h
theorem zfg {v:Value} (hr:(results fn (Fr [] n σ).tmps).run P w= .ok v w) (h:R v w):ze9 P fn R .ret (Fr [] n σ) w:=
 ⟨_,hr,_,rfl,h⟩
theorem ziM (v:Value) (h:R v w) (hf:zlT fn n σ=some v:=by kernel_rfl):ze9 P fn R .ret (Fr [] n σ) w:=
 ⟨_,ziW hf,_,rfl,h⟩
end
class NoPan (Q:Exit→Act→World→Prop):Prop where
 no:∀c a w,¬Q (.panic c) a w
instance {K:Act→World→Prop} {Q:Exit→Act→World→Prop} [h:NoPan Q]:NoPan (Exit.then K Q):=⟨h.no⟩
instance {id:Nat} {Q:Exit→Act→World→Prop} [h:NoPan Q]:NoPan (Exit.inBlock id Q):=⟨h.no⟩
instance {P:Program} {fn:Func} {R:Value→World→Prop}:NoPan (ze9 P fn R):=⟨fun _ _ _ h=>h⟩
instance {P:Program} {fn:Func} {R:Value→World→Prop}:NoPan (bodyPost P fn (Ret R)):=⟨fun c a w h=>by obtain ⟨_,v,hv,_⟩:=h;cases hv⟩
end Go.Cs
namespace Go.Cs
open Go Go.RowKit
structure Chg (S:Nat→Prop) (w w':World):Prop where
 os:w'.os=w.os
 tape:w'.tape=w.tape
 output:w'.output=w.output
 size:w.heap.size≤w'.heap.size
 block:∀k,k<w.heap.size→¬S k→w'.heap[k]? =w.heap[k]?
abbrev Ext (w w':World):Prop:=Chg (fun _=>False) w w'
theorem Chg.refl (S:Nat→Prop) (w:World):Chg S w w:=⟨rfl,rfl,rfl,Nat.le_refl _,fun _ _ _=>rfl⟩
theorem Ext.refl (w:World):Ext w w:=Chg.refl _ w
theorem Chg.trans {S:Nat→Prop} {a b c:World} (h:Chg S a b) (g:Chg S b c):Chg S a c:=
 ⟨g.os.trans h.os,g.tape.trans h.tape,g.output.trans h.output,Nat.le_trans h.size g.size,
  fun k hk hs=>(g.block k (Nat.lt_of_lt_of_le hk h.size) hs).trans (h.block k hk hs)⟩
theorem Chg.mono {S T:Nat→Prop} {a b:World} (h:Chg S a b) (hst:∀k,k<a.heap.size→S k→T k):Chg T a b:=
 ⟨h.os,h.tape,h.output,h.size,fun k hk ht=>h.block k hk (fun hs=>ht (hst k hk hs))⟩
theorem Chg.then {S T:Nat→Prop} {a b c:World} (h:Chg S a b) (g:Chg T b c) (hst:∀k,k<a.heap.size→T k→S k):Chg S a c:=
 ⟨g.os.trans h.os,g.tape.trans h.tape,g.output.trans h.output,Nat.le_trans h.size g.size,
  fun k hk hs=>(g.block k (Nat.lt_of_lt_of_le hk h.size) (fun ht=>hs (hst k hk ht))).trans (h.block k hk hs)⟩
theorem Ext.chg {S:Nat→Prop} {a b:World} (h:Ext a b):Chg S a b:=h.mono (fun _ _ hf=>hf.elim)
theorem Ext.below {a b:World} (h:Ext a b):Below a.heap.size a b:=⟨h.os,h.tape,h.output,h.size,fun k hk=>h.block k hk (fun hf=>hf)⟩
theorem Ext.alloc (w:World) (o:Obj):Ext w (w.alloc o):=
 ⟨rfl,rfl,rfl,by simp,fun k hk _=>Below.heap_alloc _ _ _ hk⟩
theorem Ext.drew (w:World):Ext w w.drew:=⟨rfl,rfl,rfl,Nat.le_refl _,fun _ _ _=>rfl⟩
theorem Chg.setCell (w:World) (a:Addr) (u:Value):Chg (· =a.block) w (w.setCell a u):=
 ⟨rfl,rfl,rfl,by simp [World.setCell],fun _ _ hs=>Below.heap_setCell _ _ _ _ hs⟩
theorem Chg.cell {S:Nat→Prop} {w w':World} (h:Chg S w w') {a:Addr} {v:Value} (hs:¬S a.block) (hc:w.cell? a=some v):w'.cell? a=some v:=
 (World.cell?_of_block (h.block a.block (World.block_lt_of_cell? w a hc) hs)).trans hc
def Blk (w:World) (b:Nat) (cs:List Value) (e:TypeId):Prop:=w.heap[b]? =some (.cells cs.toArray e (0,0))
theorem Blk.lt {w:World} {b:Nat} {cs:List Value} {e:TypeId} (h:Blk w b cs e):b<w.heap.size:=(Array.getElem?_eq_some_iff.1 h).1
theorem Blk.chg {S:Nat→Prop} {w w':World} {b:Nat} {cs:List Value} {e:TypeId} (h:Blk w b cs e) (hc:Chg S w w') (hs:¬S b:=by intro hs;first |(have h:_=_:=hs;omega)|(rcases hs with hs | hs<;>omega)):Blk w' b cs e:=
 (hc.block b h.lt hs).trans h
theorem Blk.ext {w w':World} {b:Nat} {cs:List Value} {e:TypeId} (h:Blk w b cs e) (hc:Ext w w'):Blk w' b cs e:=h.chg hc (fun hf=>hf)
theorem Blk.cell {w:World} {b:Nat} {cs:List Value} {e:TypeId} (h:Blk w b cs e) {i:Nat} {v:Value} (hv:cs[i]? =some v):w.cell? ⟨b,i,none⟩=some v:=by
 unfold Blk at h
 simp [World.cell?,h,hv]
theorem Blk.free {w:World} {b:Nat} {cs:List Value} {e:TypeId} (h:Blk w b cs e) (i:Nat):w.frozen? ⟨b,i,none⟩=false:=by
 unfold Blk at h
 simp [World.frozen?,h]
theorem Blk.new (w:World) (cs:List Value) (e:TypeId):Blk (w.alloc (.cells cs.toArray e)) w.heap.size cs e:=heap_alloc_new w _
theorem Blk.shape {w:World} {b:Nat} {cs:List Value} {e:TypeId} (h:Blk w b cs e):w.shape? b=some (e,cs.length):=by
 unfold Blk at h
 simp [World.shape?,h]
theorem Blk.setCell {w:World} {b:Nat} {cs:List Value} {e:TypeId} (h:Blk w b cs e) (i:Nat) (u:Value):Blk (w.setCell ⟨b,i,none⟩ u) b (cs.set i u) e:=by
 unfold Blk at*
 simp only [World.setCell]
 rw [Array.getElem?_modify,if_pos rfl,h]
 simp
def zZ:List Value→Nat→List Value→List Value
 | cs,_, []=>cs
 | cs,i,v::vs=>zZ (cs.set i v) (i+1) vs
theorem zbD (vs:List Value):∀(cs:List Value) (i:Nat),(zZ cs i vs).length=cs.length:=by
 induction vs with
 | nil=>intro cs i;rfl
 | cons v vs ih=>intro cs i;simp [zZ,ih]
theorem zce (vs:List Value):∀(cs:List Value) (i:Nat),i+vs.length≤cs.length→zZ cs i vs=cs.take i++vs++cs.drop (i+vs.length):=by
 induction vs with
 | nil=>intro cs i _;simp [zZ]
 | cons v vs ih=>
  intro cs i h
  simp only [List.length_cons] at h
  rw [zZ,ih _ _ (by simpa using by omega)]
  rw [List.take_set,List.drop_set]
  rw [if_pos (by omega)]
  have:(List.take (i+1) cs).set i v=cs.take i++ [v]:=by
   rw [List.take_succ_eq_append_getElem (by omega:i<cs.length)]
   rw [List.set_append_right _ _ (by simp;omega)]
   simp [Nat.min_eq_left (by omega:i≤cs.length)]
  rw [this]
  simp [Nat.add_assoc,Nat.add_comm 1]
theorem zcK {P:Program} (vs:List Value):∀(w:World) (b o j:Nat) (cs:List Value) (e:TypeId),Blk w b cs e→o+j+vs.length≤cs.length→(∀u∈vs,u.oneCell'=true)→
  ∃w',(storeCells ⟨b,o,none⟩ vs j).run P w= .ok () w'∧Blk w' b (zZ cs (o+j) vs) e∧Chg (· =b) w w':=by
 induction vs with
 | nil=>intro w b o j cs e h _ _;exact ⟨w,by simp [storeCells],h,Chg.refl _ _⟩
 | cons v vs ih=>
  intro w b o j cs e h hl h1
  simp only [List.length_cons] at hl
  have hv:v.oneCell'=true:=h1 v (by simp)
  have hcell:w.cell? ⟨b,o+j,none⟩=some cs[o+j]:=h.cell (by simp [show o+j<cs.length by omega])
  obtain ⟨w',h2,h3,h4⟩:=ih (w.setCell ⟨b,o+j,none⟩ v) b o (j+1) (cs.set (o+j) v) e (h.setCell _ _) (by simpa using by omega) (fun u hu=>h1 u (by simp [hu]))
  refine ⟨w', ?_,by simpa [zZ,Nat.add_assoc] using h3,(Chg.setCell w ⟨b,o+j,none⟩ v).trans h4⟩
  have hs:(store ((⟨b,o,none⟩:Addr).add j) v).run P w= .ok () (w.setCell ⟨b,o+j,none⟩ v):=by
   rw [Addr.add_lit]
   cases v<;>simp_all [store,Sem.run,h.free,Value.oneCell']
  simp [storeCells,hs,h2]
def SlA (lo hi:Nat) (w:World) (a:Option Addr) (len cap:Nat) (vs:List Value):Prop:=
 match a with
 | none=>len=0∧cap=0∧vs= []
 | some ad=>len≤cap∧cap≤maxLen∧(vs= []∨(ad.spot=none∧lo≤ad.block∧ad.block<hi∧ad.block<w.heap.size∧∀(i:Nat) (v:Value),vs[i]? =some v→w.cell? ⟨ad.block,ad.off+i,none⟩=some v))
section
variable {lo hi:Nat} {w w':World} {a:Option Addr} {len cap:Nat} {vs:List Value}
theorem SlA.nil (lo hi:Nat) (w:World):SlA lo hi w none 0 0 []:=⟨rfl,rfl,rfl⟩
theorem SlA.le (h:SlA lo hi w a len cap vs):len≤cap∧cap≤maxLen:=by
 cases a with
 | none=>obtain ⟨rfl,rfl,_⟩:=h;simp
 | some ad=>exact ⟨h.1,h.2.1⟩
theorem SlA.mono {lo' hi':Nat} (h:SlA lo hi w a len cap vs) (h1:lo'≤lo) (h2:hi≤hi'):SlA lo' hi' w a len cap vs:=by
 cases a with
 | none=>exact h
 | some ad=>
  obtain ⟨g1,g2,g3⟩:=h
  exact ⟨g1,g2,g3.imp id fun ⟨g4,g5,g6,g7,g8⟩=>⟨g4,by omega,by omega,g7,g8⟩⟩
theorem SlA.chg {S:Nat→Prop} (h:SlA lo hi w a len cap vs) (hc:Chg S w w') (hs:∀k,lo≤k→k<hi→¬S k):SlA lo hi w' a len cap vs:=by
 cases a with
 | none=>exact h
 | some ad=>
  obtain ⟨g1,g2,g3⟩:=h
  exact ⟨g1,g2,g3.imp id fun ⟨g4,g5,g6,g7,g8⟩=>⟨g4,g5,g6,Nat.lt_of_lt_of_le g7 hc.size,fun i v hv=>hc.cell (hs _ g5 g6) (g8 i v hv)⟩⟩
theorem SlA.ext (h:SlA lo hi w a len cap vs) (hc:Ext w w'):SlA lo hi w' a len cap vs:=h.chg hc (fun _ _ _ hf=>hf)
theorem SlA.now (h:SlA lo hi w a len cap vs):SlA lo w.heap.size w a len cap vs:=by
 cases a with
 | none=>exact h
 | some ad=>
  obtain ⟨g1,g2,g3⟩:=h
  exact ⟨g1,g2,g3.imp id fun ⟨g4,g5,g6,g7,g8⟩=>⟨g4,g5,g7,g7,g8⟩⟩
theorem SlA.of_blk {b:Nat} {cs:List Value} {e:TypeId} (h:Blk w b cs e) (hl:len≤cap) (hm:cap≤maxLen) (h1:lo≤b) (h2:b<hi):SlA lo hi w (some ⟨b,0,none⟩) len cap cs:=
 ⟨hl,hm, .inr ⟨rfl,h1,h2,h.lt,fun i v hv=>by simpa using h.cell hv⟩⟩
theorem SlA.get {ad:Addr} (h:SlA lo hi w (some ad) len cap vs) {i:Nat} {v:Value} (hv:vs[i]? =some v):ad.spot=none∧lo≤ad.block∧ad.block<hi∧w.cell? ⟨ad.block,ad.off+i,none⟩=some v:=by
 obtain ⟨_,_,rfl |⟨g4,g5,g6,_,g8⟩⟩:=h
 ·simp at hv
 ·exact ⟨g4,g5,g6,g8 i v hv⟩
theorem SlA.cell (h:SlA lo hi w a len cap vs) {i:Nat} {v:Value} (hv:vs[i]? =some v):
  ∃b o,a=some ⟨b,o,none⟩∧w.cell? ⟨b,o+i,none⟩=some v:=by
 cases a with
 | none=>obtain ⟨_,_,rfl⟩:=h;simp at hv
 | some ad=>
  obtain ⟨g1,_,_,g2⟩:=h.get hv
  obtain ⟨b,o,s⟩:=ad
  simp only at g1;subst g1
  exact ⟨b,o,rfl,g2⟩
theorem SlA.addr (h:SlA lo hi w a len cap vs) (hp:0<vs.length):∃b o,a=some ⟨b,o,none⟩:=by
 obtain ⟨b,o,h1,_⟩:=h.cell (i:=0) (v:=vs[0]) (by simp [hp])
 exact ⟨b,o,h1⟩
theorem SlA.load_add {ad:Addr} (h:SlA lo hi w (some ad) len cap vs) {i:Nat} {v:Value} (hv:vs[i]? =some v):w.cell? (ad.add i)=some v:=by
 obtain ⟨g1,_,_,g2⟩:=h.get hv
 obtain ⟨b,o,s⟩:=ad
 simp only at g1;subst g1
 rw [Addr.add_lit];exact g2
theorem SlA.part (h:SlA lo hi w a len cap vs) (sz l r m:Nat) (h1:l≤r) (h2:r≤m) (h3:m≤cap) (hcells:vs.length=len*sz) (hr:r≤len):
  SlA lo hi w (if m=l then a else a.map (·.add (l*sz))) (r-l) (m-l) ((vs.drop (l*sz)).take ((r-l)*sz)):=by
 cases a with
 | none=>
  obtain ⟨rfl,rfl,rfl⟩:=h
  have:m=l:=by omega
  subst this
  simp only [if_pos]
  exact ⟨by omega,by omega,by simp⟩
 | some ad=>
  have hle:=h.le
  by_cases hm:m=l
  ·rw [if_pos hm]
   have hrl:r=l:=by omega
   subst hrl
   exact ⟨by omega,by omega, .inl (by simp)⟩
  ·rw [if_neg hm]
   simp only [Option.map_some]
   refine ⟨by omega,by omega, ?_⟩
   obtain ⟨_,_,rfl |⟨g4,g5,g6,g7,g8⟩⟩:=h
   ·exact .inl (by simp)
   ·obtain ⟨b,o,s⟩:=ad
    simp only at g4 g5 g6 g7 g8;subst g4
    rw [Addr.add_lit]
    refine .inr ⟨rfl,g5,g6,g7,fun i v hv=> ?_⟩
    rw [List.getElem?_take] at hv
    split at hv
    ·rw [List.getElem?_drop] at hv
     have:=g8 _ _ hv
     simpa [Nat.add_assoc] using this
    ·cases hv
end
end Go.Cs
namespace Go.Cs
open Go Go.RowKit
def vS (s:Sem Value):Sem Next:=do pure (.value (←s))
def uS (s:Sem Unit):Sem Next:=do s;pure .skip
theorem zqC {P:Program} {s:Sem Value} {w w':World} {v:Value} (h:s.run P w= .ok v w'):(vS s).run P w= .ok (.value v) w':=by
 simp [vS,h]
theorem zvd {P:Program} {s:Sem Unit} {w w':World} (h:s.run P w= .ok () w'):(uS s).run P w= .ok .skip w':=by
 simp [uS,h]
abbrev bo (op:BinOp) (T:TypeId) (ox oy:Operand) (x y:Value):Sem Value:=do eqGuard op T ox oy x y;binOp op T x y
theorem Blk.set1 {w:World} {b:Nat} {x v:Value} {e:TypeId} (h:Blk w b ([x].set 0 v) e):Blk w b [v] e:=h
def zcY:TypeDesc→Bool
 | .struct _ | .array _ _=>true
 | _=>false
section
variable {P:Program} {n k:Nat} {σ:List (Nat×Value)} {w:World} {ops:Array Oper} {K:List (Nat×Value)→World→Prop} {d:Option Tmp}
theorem zbG (d:Option Tmp) (s:Sem Value) (v:Value) {w':World} (hr:s.run P w= .ok v w') (h:K (zak σ d v) w') (he:zbp ops n σ k=some (d,vS s):=by kernel_rfl):zaA P ops n k σ w K:=
 zlD he (zqC hr) h
theorem zju (d:Option Tmp) (u v:Value) (hx:u=v) (h:K (zak σ d v) w) (he:zbc P ops n σ k w=some (d,u,w):=by kernel_rfl):zaA P ops n k σ w K:=
 zeS he (hx▸h)
theorem zae (d:Option Tmp) (kk:IntKind) (x:Int) (y:Nat) (hx:x=(y:Int)) (h:K (zak σ d (.int kk (y:Int))) w) (he:zbc P ops n σ k w=some (d, .int kk x,w):=by kernel_rfl):zaA P ops n k σ w K:=
 zeS he (hx▸h)
theorem zeR (d:Option Tmp) (kk:IntKind) (x y:Int) (hx:x=y) (h:K (zak σ d (.int kk y)) w) (he:zbc P ops n σ k w=some (d, .int kk x,w):=by kernel_rfl):zaA P ops n k σ w K:=
 zeS he (hx▸h)
theorem zbn (d:Option Tmp) (x y:Bool) (hx:x=y) (h:K (zak σ d (.bool y)) w) (he:zbc P ops n σ k w=some (d, .bool x,w):=by kernel_rfl):zaA P ops n k σ w K:=
 zeS he (hx▸h)
theorem zcD (d:Option Tmp) (x:Bool) (ht:x=true→K (zak σ d (.bool true)) w) (hf:x=false→K (zak σ d (.bool false)) w) (he:zbc P ops n σ k w=some (d, .bool x,w):=by kernel_rfl):zaA P ops n k σ w K:=by
 cases hx:x with
 | true=>exact zeS he (hx▸ht hx)
 | false=>exact zeS he (hx▸hf hx)
theorem zcL (d:Option Tmp) {f:FuncId} {args:Array Value} {R:Value→World→Prop} (hc:Calls P f args w (Ret R)) (h:∀v w',R v w'→K (zak σ d v) w') (he:zgI P ops n σ k w=some (d,f,args,w):=by kernel_rfl):zaA P ops n k σ w K:=
 zpX he hc h
theorem zx4 {s:Sem Unit} {w':World} (he:zbp ops n σ k=some (d,uS s)) (hr:s.run P w= .ok () w') (h:K (zak σ d undef) w'):zaA P ops n k σ w K:=
 zuj he (zvd hr) h
theorem zdr (d:Option Tmp) (s:Sem Value) (v:Value) (cs:List Value) (e:TypeId)
  (h:∀w',Blk w' w.heap.size cs e→Ext w w'→K (zak σ d v) w') (hr:s.run P w= .ok v (w.alloc (.cells cs.toArray e)):=by kernel_rfl) (he:zbp ops n σ k=some (d,vS s):=by kernel_rfl):zaA P ops n k σ w K:=
 zbG d s v hr (h _ (Blk.new w cs e) (Ext.alloc w _)) he
theorem zn7 {T:TypeId} {ad:Addr} {v:Value} (hc:w.cell? ad=some v) (hT:(P.underlying T).map zcY=some false:=by kernel_rfl):
  (Instr.loadAt T (.pointer (some ad))).run P w= .ok v w:=by
 obtain ⟨t,ht,hb⟩:=Option.map_eq_some_iff.1 hT
 have ha:(isAgg T).run P w= .ok false w:=by
  cases t<;>simp_all [isAgg,run_underlying ht,zcY]
 simp [Instr.loadAt,Instr.sureAddr,loadVar,ha,load,Sem.run,hc]
theorem zhf {T:TypeId} (hT:(P.underlying T).map zcY=some true):(isAgg T).run P w= .ok true w:=by
 obtain ⟨t,ht,hb⟩:=Option.map_eq_some_iff.1 hT
 cases t<;>simp_all [isAgg,run_underlying ht,zcY]
theorem zjS {T:TypeId} (hT:(P.underlying T).map zcY=some false):(isAgg T).run P w= .ok false w:=by
 obtain ⟨t,ht,hb⟩:=Option.map_eq_some_iff.1 hT
 cases t<;>simp_all [isAgg,run_underlying ht,zcY]
theorem zbA {T sz:Nat} (hT:(P.info? T).map (·.size)=some sz):(sizeOf T).run P w= .ok sz w:=by
 obtain ⟨i,hi,rfl⟩:=Option.map_eq_some_iff.1 hT
 simp [sizeOf,typeInfo,hi]
def At (w:World) (b o:Nat) (vs:List Value):Prop:=∀(i:Nat) (v:Value),vs[i]? =some v→w.cell? ⟨b,o+i,none⟩=some v
theorem Blk.at {w:World} {b:Nat} {cs:List Value} {e:TypeId} (h:Blk w b cs e) (o:Nat) (vs:List Value) (hv:(cs.drop o).take vs.length=vs):At w b o vs:=by
 intro i v hi
 refine h.cell ?_
 rw [←hv,List.getElem?_take] at hi
 split at hi
 ·rwa [List.getElem?_drop] at hi
 ·cases hi
theorem Blk.all {w:World} {b:Nat} {cs:List Value} {e:TypeId} (h:Blk w b cs e):At w b 0 cs:=fun i v hi=>by simpa using h.cell hi
theorem At.chg {S:Nat→Prop} {w w':World} {b o:Nat} {vs:List Value} (h:At w b o vs) (hc:Chg S w w') (hs:¬S b:=by intro hs;first |(have h:_=_:=hs;omega)|(rcases hs with hs | hs<;>omega)):At w' b o vs:=fun i v hi=>hc.cell hs (h i v hi)
theorem At.ext {w w':World} {b o:Nat} {vs:List Value} (h:At w b o vs) (hc:Ext w w'):At w' b o vs:=h.chg hc (fun hf=>hf)
theorem At.sub {w:World} {b o:Nat} {vs:List Value} (h:At w b o vs) (l:Nat) (us:List Value) (hu:(vs.drop l).take us.length=us):At w b (o+l) us:=by
 intro i v hi
 rw [←hu,List.getElem?_take] at hi
 split at hi
 ·rw [List.getElem?_drop] at hi
  rw [Nat.add_assoc];exact h _ _ hi
 ·cases hi
theorem At.one {w:World} {b o:Nat} {vs:List Value} (h:At w b o vs) (l:Nat) (v:Value) (hv:vs[l]? =some v):w.cell? ⟨b,o+l,none⟩=some v:=h l v hv
theorem SlA.at {lo hi:Nat} {w:World} {b o len cap:Nat} {vs:List Value} (h:SlA lo hi w (some ⟨b,o,none⟩) len cap vs):At w b o vs:=fun _ _ hi=>(h.get hi).2.2.2
theorem zfZ {T b o:Nat} {vs:List Value} (hc:At w b o vs) (hsz:(P.info? T).map (·.size)=some vs.length:=by kernel_rfl) (hT:(P.underlying T).map zcY=some true:=by kernel_rfl):
  (Instr.loadAt T (.pointer (some ⟨b,o,none⟩))).run P w= .ok (.agg vs.toArray) w:=by
 have h1:=zhf (w:=w) hT
 have h2:=zbA (w:=w) hsz
 have h3:(loadCells ⟨b,o,none⟩ vs.length).run P w= .ok vs.toArray w:=run_loadCells_list w ⟨b,o,none⟩ vs (fun j v hj=>by rw [Addr.add_lit];exact hc j v hj)
 simp [Instr.loadAt,Instr.sureAddr,loadVar,h1,h2,h3]
theorem zwu {T b o e:Nat} {v:Value} {cs vs:List Value} (hB:Blk w b cs e) (hv:v.cells=vs.toArray) (hsz:(P.info? T).map (·.size)=some vs.length) (ho:o+vs.length≤cs.length) (h1:∀u∈vs,u.oneCell'=true):
  ∃w',(Instr.storeAt T (.pointer (some ⟨b,o,none⟩)) v).run P w= .ok () w'∧Blk w' b (zZ cs o vs) e∧Chg (· =b) w w':=by
 obtain ⟨w',h2,h3,h4⟩:=zcK (P:=P) vs w b o 0 cs e hB (by simpa using ho) h1
 refine ⟨w', ?_,by simpa using h3,h4⟩
 have h5:=zbA (w:=w) hsz
 simp [Instr.storeAt,Instr.sureAddr,storeVar,hv,h5,h2]
theorem zC (T b o e:Nat) (v:Value) (cs vs:List Value) (hB:Blk w b cs e) (hsz:(P.info? T).map (·.size)=some vs.length) (ho:o+vs.length≤cs.length) (h1:∀u∈vs,u.oneCell'=true)
  (h:∀w',Blk w' b (zZ cs o vs) e→Chg (· =b) w w'→K (zak σ none undef) w') (hv:v.cells=vs.toArray:=by rfl) (he:zbp ops n σ k=some (none,uS (Instr.storeAt T (.pointer (some ⟨b,o,none⟩)) v)):=by kernel_rfl):zaA P ops n k σ w K:=by
 obtain ⟨w',h2,h3,h4⟩:=zwu (P:=P) hB hv hsz ho h1
 exact zx4 he h2 (h w' h3 h4)
theorem zah (T b o e:Nat) (v:Value) (cs:List Value) (hB:Blk w b cs e) (ho:o<cs.length)
  (h:∀w',Blk w' b (cs.set o v) e→Chg (· =b) w w'→K (zak σ none undef) w') (h1:v.oneCell'=true:=by rfl) (hv:v.cells= #[v]:=by rfl) (hsz:(P.info? T).map (·.size)=some 1:=by kernel_rfl)
  (he:zbp ops n σ k=some (none,uS (Instr.storeAt T (.pointer (some ⟨b,o,none⟩)) v)):=by kernel_rfl):zaA P ops n k σ w K:=
 zC T b o e v cs [v] hB hsz ho (by intro u hu;simp only [List.mem_singleton] at hu;subst hu;exact h1) h hv he
theorem zlJ {T E sz b o len cap:Nat} {kk:IntKind} {i:Nat} (hi:i<len:=by omega) (hT:P.underlying T=some (.slice E):=by kernel_rfl) (hsz:(P.info? E).map (·.size)=some sz:=by kernel_rfl):
  (Instr.indexAt T (.slice (some ⟨b,o,none⟩) len cap) (.int kk (i:Int))).run P w= .ok (.pointer (some ⟨b,o+i*sz,none⟩)) w:=by
 have h2:=zbA (w:=w) hsz
 have h3:(0:Int)≤(i:Int)∧(i:Int)<(len:Int):=by omega
 simp [Instr.indexAt,asIntOf,run_underlying hT,h2,Addr.add_lit,hi]
theorem za8 {T E sz b o m:Nat} {kk:IntKind} {i:Nat} (hi:i<m:=by omega) (hT:P.underlying T=some (.array m E):=by kernel_rfl) (hsz:(P.info? E).map (·.size)=some sz:=by kernel_rfl):
  (Instr.indexAt T (.pointer (some ⟨b,o,none⟩)) (.int kk (i:Int))).run P w= .ok (.pointer (some ⟨b,o+i*sz,none⟩)) w:=by
 have h2:=zbA (w:=w) hsz
 simp [Instr.indexAt,asIntOf,run_underlying hT,h2,Addr.add_lit,hi,Instr.sureAddr]
def bnd (x:Option Value) (y:Nat) (z:Nat):Prop:=(x=none∧z=y)∨∃kk,x=some (.int kk (z:Int))
theorem zmj {T E sz len cap l r m:Nat} {a:Option Addr} {lo hi mx:Option Value} (hT:P.underlying T=some (.slice E)) (hsz:(P.info? E).map (·.size)=some sz)
  (hl:bnd lo 0 l) (hh:bnd hi len r) (hm:bnd mx cap m) (hmh:mx=none∨hi≠none) (h1:l≤r) (h2:r≤m) (h3:m≤cap):
  (Instr.sliceAt T (.slice a len cap) lo hi mx).run P w= .ok (.slice (if m=l then a else a.map (·.add (l*sz))) (r-l) (m-l)) w:=by
 have g2:=zbA (w:=w) hsz
 have c1:((m:Int)≤(cap:Int)):=by omega
 have c2:((r:Int)≤(m:Int)):=by omega
 have c3:((l:Int)≤(r:Int)):=by omega
 have c4:r≤cap:=by omega
 rcases hl with ⟨rfl,rfl⟩|⟨k1,rfl⟩<;>rcases hm with ⟨rfl,rfl⟩|⟨k3,rfl⟩<;>rcases hh with ⟨rfl,rfl⟩|⟨k2,rfl⟩<;>
  simp_all [Instr.sliceAt,Instr.slice,Instr.sliceBounds,Instr.sliceBound,asIntOf,run_underlying hT]
theorem zjK {T E sz m b o:Nat} (hT:P.underlying T=some (.array m E):=by kernel_rfl) (hsz:(P.info? E).map (·.size)=some sz:=by kernel_rfl):
  (Instr.sliceAt T (.pointer (some ⟨b,o,none⟩)) none none none).run P w= .ok (.slice (some ⟨b,o,none⟩) m m) w:=by
 have g2:=zbA (w:=w) hsz
 have:(if m=0 then (⟨b,o,none⟩:Addr) else Addr.add ⟨b,o,none⟩ 0)=⟨b,o,none⟩:=by split<;>simp [Addr.add_lit]
 simp [Instr.sliceAt,Instr.sliceBounds,Instr.sureAddr,run_underlying hT,g2,Addr.add_lit]
theorem zpW {T E sz len b o l r m:Nat} {lo hi mx:Option Value} (hl:bnd lo 0 l) (hh:bnd hi len r) (hm:bnd mx len m) (hmh:mx=none∨hi≠none) (h1:l≤r) (h2:r≤m) (h3:m≤len) (hT:P.underlying T=some (.array len E):=by kernel_rfl) (hsz:(P.info? E).map (·.size)=some sz:=by kernel_rfl):
  (Instr.sliceAt T (.pointer (some ⟨b,o,none⟩)) lo hi mx).run P w= .ok (.slice (if m=l then some ⟨b,o,none⟩ else some ⟨b,o+l*sz,none⟩) (r-l) (m-l)) w:=by
 have g2:=zbA (w:=w) hsz
 have c1:((m:Int)≤(len:Int)):=by omega
 have c2:((r:Int)≤(m:Int)):=by omega
 have c3:((l:Int)≤(r:Int)):=by omega
 have c4:r≤len:=by omega
 rcases hl with ⟨rfl,rfl⟩|⟨k1,rfl⟩<;>rcases hm with ⟨rfl,rfl⟩|⟨k3,rfl⟩<;>rcases hh with ⟨rfl,rfl⟩|⟨k2,rfl⟩<;>
  simp_all [Instr.sliceAt,Instr.slice,Instr.sliceBounds,Instr.sliceBound,Instr.sureAddr,asIntOf,run_underlying hT,Addr.add_lit]<;>(try split)<;>rfl
theorem At.sla {w:World} {b o len:Nat} {vs:List Value} (h:At w b o vs) (hb:b<w.heap.size) (lo hi:Nat) (h1:lo≤b) (h2:b<hi) (hm:len≤maxLen):SlA lo hi w (some ⟨b,o,none⟩) len len vs:=
 ⟨Nat.le_refl _,hm, .inr ⟨rfl,h1,h2,hb,h⟩⟩
theorem zm2 {a b:Nat} (h:a*b≤281474976710656):(a:Int)*(b:Int)≤281474976710656:=by
 have g:((a*b:Nat):Int)≤281474976710656:=by omega
 rwa [Int.natCast_mul] at g
theorem zb8 (d:Option Tmp) (T E sz bys len cap:Nat) (k1 k2:IntKind) (z:Value) (hlc:len≤cap) (hb:bys*cap≤281474976710656) (h63:cap≤9223372036854775807)
  (h:∀w',Blk w' w.heap.size (madeCells z.cells (cap*sz)).toList E→Ext w w'→K (zak σ d (.slice (some ⟨w.heap.size,0,none⟩) len cap)) w') (hT:P.underlying T=some (.slice E):=by kernel_rfl)
  (hE:(P.info? E).map (fun i=>(i.zero,i.size,i.bytes))=some (some z,sz,bys):=by kernel_rfl) (he:zbp ops n σ k=some (d,vS (Instr.makeSlice T (.int k1 (len:Int)) (.int k2 (cap:Int)))):=by kernel_rfl):zaA P ops n k σ w K:=by
 obtain ⟨i,hi,hz,rfl,rfl⟩:=info_parts hE
 have hr:=run_make (P:=P) w T E i z hT hi hz k1 k2 len cap (by omega) (by omega) (zm2 hb) (by omega)
 simp only [Int.toNat_natCast] at hr
 have he':=he
 exact zdr d _ _ (madeCells z.cells (cap*i.size)).toList E h (by simpa using hr) he'
theorem zkW (z:Value) (m:Nat):(madeCells #[z] m).toList=List.replicate m z:=by
 simp only [madeCells,Array.toList_map,Array.toList_range]
 rw [List.eq_replicate_iff]
 refine ⟨by simp, ?_⟩
 intro b hb
 simp only [List.mem_map] at hb
 obtain ⟨i,_,rfl⟩:=hb
 simp [Nat.mod_one]
def u8s (l:List UInt8):List Value:=l.map fun c=> .int .u8 c.toNat
@[simp] theorem zbd (l:List UInt8):(u8s l).length=l.length:=by simp [u8s]
theorem zn0 (l m:List UInt8):u8s (l++m)=u8s l++u8s m:=by simp [u8s]
theorem ztz {l:List UInt8} {i:Nat} (h:i<l.length):(u8s l)[i]? =some (.int .u8 (l[i]).toNat):=by simp [u8s,h]
theorem zlW (l:List UInt8) (i:Nat):(u8s l).drop i=u8s (l.drop i):=by simp [u8s,List.map_drop]
theorem zrn (l:List UInt8) (i:Nat):(u8s l).take i=u8s (l.take i):=by simp [u8s,List.map_take]
theorem zdm (l:List UInt8):∀u∈u8s l,u.oneCell'=true:=by
 intro u hu
 simp only [u8s,List.mem_map] at hu
 obtain ⟨c,_,rfl⟩:=hu
 rfl
theorem zdy (z:Value) (hz:z.cells= #[z]) (m:Nat):(madeCells z.cells (m*1)).toList=List.replicate m z:=by
 rw [hz,Nat.mul_one,zkW]
end
def elT (P:Program) (t:TypeId):TypeId:=match P.underlying t with
 | some (.slice e)=>e
 | some (.array _ e)=>e
 | _=>0
def zg6 (P:Program) (t:TypeId):List Value:=match P.info? t with
 | some i=>match i.zero with
  | some z=>z.cells.toList
  | none=> []
 | none=> []
theorem zhU:∀(vs p cs:List Value),vs.length=cs.length→zZ (p++cs) p.length vs=p++vs
 | [],p, [],_=>rfl
 | v::vs,p,c::cs,h=>by
  have hs:(p++c::cs).set p.length v=(p++ [v])++cs:=by simp
  have ih:=zhU vs (p++ [v]) cs (by simpa using h)
  rw [zZ,hs,show p.length+1=(p++ [v]).length by simp,ih];simp
theorem zlw (cs vs:List Value) (h:vs.length=cs.length):zZ cs 0 vs=vs:=zhU vs [] cs h
theorem zwl {cs:List Value} {v:Value} (h:cs.length=1):cs.set 0 v= [v]:=by
 match cs,h with
 | [x],_=>rfl
section
variable {ro:Option Nat} {ds:List Deferred} {P:Program} {n k:Nat} {σ:List (Nat×Value)} {w:World} {ops:Array Oper} {Q:Exit→Act→World→Prop} {K:List (Nat×Value)→World→Prop}
theorem zaN (s:Sem Value) (v:Value) {w':World} (hr:s.run P w= .ok v w') (h:K (zak σ (dAt ops k) v) w') (he:zbp ops n σ k=some (dAt ops k,vS s):=by kernel_rfl):zaA P ops n k σ w K:=zbG _ s v hr h he
theorem zm (b o:Nat) {v:Value} (hc:w.cell? ⟨b,o,none⟩=some v) (h:K (zak σ (dAt ops k) v) w) (hT:(P.underlying (zbH ops k)).map zcY=some false:=by kernel_rfl) (he:zbp ops n σ k=some (dAt ops k,vS (Instr.loadAt (zbH ops k) (vP b o))):=by kernel_rfl):zaA P ops n k σ w K:=
 zbG _ _ v (zn7 hc hT) h he
theorem zV (b o:Nat) {vs:List Value} (hc:At w b o vs) (h:K (zak σ (dAt ops k) (vA vs)) w) (hsz:(P.info? (zbH ops k)).map (·.size)=some vs.length:=by kernel_rfl) (hT:(P.underlying (zbH ops k)).map zcY=some true:=by kernel_rfl)
  (he:zbp ops n σ k=some (dAt ops k,vS (Instr.loadAt (zbH ops k) (.pointer (some ⟨b,o,none⟩)))):=by kernel_rfl):zaA P ops n k σ w K:=
 zbG _ _ _ (zfZ hc hsz hT) h he
theorem zQ (b o:Nat) {N:Nat} {vs:List Value} (hc:At w b o vs) (hl:vs.length=N) (h:K (zak σ (dAt ops k) (vA vs)) w) (hsz:(P.info? (zbH ops k)).map (·.size)=some N:=by kernel_rfl) (hT:(P.underlying (zbH ops k)).map zcY=some true:=by kernel_rfl)
  (he:zbp ops n σ k=some (dAt ops k,vS (Instr.loadAt (zbH ops k) (.pointer (some ⟨b,o,none⟩)))):=by kernel_rfl):zaA P ops n k σ w K:=
 zbG _ _ _ (zfZ hc (by rw [hl];exact hsz) hT) h he
theorem zan (b o len cap i sz:Nat) (h:K (zak σ (dAt ops k) (vP b (o+i*sz))) w) (hi:i<len:=by omega) (hT:P.underlying (zbH ops k)=some (.slice (elT P (zbH ops k))):=by kernel_rfl) (hsz:(P.info? (elT P (zbH ops k))).map (·.size)=some sz:=by kernel_rfl)
  (he:zbp ops n σ k=some (dAt ops k,vS (Instr.indexAt (zbH ops k) (.slice (some ⟨b,o,none⟩) len cap) (vI i))):=by kernel_rfl):zaA P ops n k σ w K:=
 zbG _ _ _ (zlJ hi hT hsz) h he
theorem zaW (b o i m sz:Nat) (h:K (zak σ (dAt ops k) (vP b (o+i*sz))) w) (hi:i<m:=by omega) (hT:P.underlying (zbH ops k)=some (.array m (elT P (zbH ops k))):=by kernel_rfl) (hsz:(P.info? (elT P (zbH ops k))).map (·.size)=some sz:=by kernel_rfl)
  (he:zbp ops n σ k=some (dAt ops k,vS (Instr.indexAt (zbH ops k) (vP b o) (vI i))):=by kernel_rfl):zaA P ops n k σ w K:=
 zbG _ _ _ (za8 hi hT hsz) h he
theorem zS (s:Sem Value) (v:Value) (cs:List Value) (e:TypeId) (h:∀w',Blk w' w.heap.size cs e→Ext w w'→w.heap.size≤w'.heap.size→w.heap.size<w'.heap.size→K (zak σ (dAt ops k) v) w') (hr:s.run P w= .ok v (w.alloc (.cells cs.toArray e)):=by kernel_rfl) (he:zbp ops n σ k=some (dAt ops k,vS s):=by kernel_rfl):zaA P ops n k σ w K:=
 zdr _ s v cs e (fun w' h1 h2=>h w' h1 h2 h2.size h1.lt) hr he
theorem zad (cs:List Value) (e:TypeId) (h:∀w',Blk w' w.heap.size cs e→Ext w w'→w.heap.size≤w'.heap.size→w.heap.size<w'.heap.size→K (zak σ (dAt ops k) (vP w.heap.size 0)) w') (hr:(Instr.alloc e true (.tuple #[])).run P w= .ok (vP w.heap.size 0) (w.alloc (.cells cs.toArray e)):=by kernel_rfl) (he:zbp ops n σ k=some (dAt ops k,vS (Instr.alloc e true (.tuple #[]))):=by kernel_rfl):zaA P ops n k σ w K:=
 zS _ _ cs e h hr he
theorem zt {f:FuncId} {args:Array Value} {R:Value→World→Prop} (hc:Calls P f args w (Ret R)) (h:∀v w',R v w'→K (zak σ (dAt ops k) v) w') (he:zgI P ops n σ k w=some (dAt ops k,f,args,w):=by kernel_rfl):zaA P ops n k σ w K:=zcL _ hc h he
theorem zvS (b:Nat) {e:TypeId} {cs:List Value} (vs:List Value) {N:Nat} (hB:Blk w b cs e) (hl:vs.length=N) (h1:∀u∈vs,u.oneCell'=true)
  (h:∀w',Blk w' b vs e→Chg (· =b) w w'→w.heap.size≤w'.heap.size→K (zak σ none undef) w') (hcl:cs.length=N:=by first | kernel_rfl |(simp;done)) (hsz:(P.info? (zbH ops k)).map (·.size)=some N:=by kernel_rfl) (he:zbp ops n σ k=some (none,uS (Instr.storeAt (zbH ops k) (vP b 0) (vA vs))):=by kernel_rfl):zaA P ops n k σ w K:=
 zC _ b 0 e (vA vs) cs vs hB (by rw [hl];exact hsz) (by omega) h1 (fun w' h1 h2=>h w' (by rw [zlw _ _ (hl.trans hcl.symm)] at h1;exact h1) h2 h2.size) rfl he
theorem zal (vs:List Value) (e:TypeId) {N:Nat} (hl:vs.length=N) (h1:∀u∈vs,u.oneCell'=true)
  (h:∀w',Blk w' w.heap.size vs e→Ext w w'→w.heap.size≤w'.heap.size→w.heap.size<w'.heap.size→wpF (ro:=ro) (ds:=ds) P ops Q n (k+2) (zak (zak σ (dAt ops k) (vP w.heap.size 0)) none undef) w')
  (hz:(zg6 P e).length=N:=by first | kernel_rfl |(simp;done)) (hr:(Instr.alloc e true (.tuple #[])).run P w= .ok (vP w.heap.size 0) (w.alloc (.cells (zg6 P e).toArray e)):=by kernel_rfl) (he:zbp ops n σ k=some (dAt ops k,vS (Instr.alloc e true (.tuple #[]))):=by kernel_rfl)
  (hsz:(P.info? (zbH ops (k+1))).map (·.size)=some N:=by kernel_rfl) (he2:zbp ops n (zak σ (dAt ops k) (vP w.heap.size 0)) (k+1)=some (none,uS (Instr.storeAt (zbH ops (k+1)) (vP w.heap.size 0) (vA vs))):=by kernel_rfl):wpF (ro:=ro) (ds:=ds) P ops Q n k σ w:=
 za (zad (zg6 P e) e (fun w1 hB hE h3 h4=>za (zvS w.heap.size vs hB hl h1 (fun w2 hB2 hC h5=>h w2 hB2 (Chg.then hE hC (fun j hj hs=>by have h:j=_:=hs;omega)) (Nat.le_trans h3 h5) (Nat.lt_of_lt_of_le h4 h5)) hz hsz he2)) hr he)
theorem zgl (v:Value) (e:TypeId)
  (h:∀w',Blk w' w.heap.size [v] e→Ext w w'→w.heap.size≤w'.heap.size→w.heap.size<w'.heap.size→wpF (ro:=ro) (ds:=ds) P ops Q n (k+2) (zak (zak σ (dAt ops k) (vP w.heap.size 0)) none undef) w')
  (h1:v.oneCell'=true:=by rfl) (hv:v.cells= #[v]:=by rfl) (hz:(zg6 P e).length=1:=by kernel_rfl) (hr:(Instr.alloc e true (.tuple #[])).run P w= .ok (vP w.heap.size 0) (w.alloc (.cells (zg6 P e).toArray e)):=by kernel_rfl) (he:zbp ops n σ k=some (dAt ops k,vS (Instr.alloc e true (.tuple #[]))):=by kernel_rfl)
  (hsz:(P.info? (zbH ops (k+1))).map (·.size)=some 1:=by kernel_rfl) (he2:zbp ops n (zak σ (dAt ops k) (vP w.heap.size 0)) (k+1)=some (none,uS (Instr.storeAt (zbH ops (k+1)) (vP w.heap.size 0) v)):=by kernel_rfl):wpF (ro:=ro) (ds:=ds) P ops Q n k σ w:=
 za (zad (zg6 P e) e (fun w1 hB hE h3 h4=>za (zah _ w.heap.size 0 e v _ hB (by omega) (fun w2 hB2 hC=>h w2 (by rw [zwl hz] at hB2;exact hB2) (Chg.then hE hC (fun j hj hs=>by have h:j=_:=hs;omega)) (Nat.le_trans h3 hC.size) (Nat.lt_of_lt_of_le h4 hC.size)) h1 hv hsz he2)) hr he)
end
end Go.Cs
namespace Go.Cs
open Go Go.RowKit
theorem zao {x y:Int} (h:x=y:=by omega) (h1: -9223372036854775808≤y:=by omega) (h2:y≤9223372036854775807:=by omega):IntKind.i64.wrap x=y:=by
 subst h;rw [IntKind.wrap_i64];omega
theorem zcz {k:IntKind} (hk:k.signed=false) {x:Int} {m:Nat} (h:x=(m:Int)):k.wrap x=((m%2^k.bits:Nat):Int):=by
 subst h
 simp [IntKind.wrap,hk]
theorem zbF {k:IntKind} (hk:k.signed=false) {x:Int} {m:Nat} (h:x=(m:Int)) (hm:m<2^k.bits):k.wrap x=(m:Int):=by
 rw [zcz hk h,Nat.mod_eq_of_lt hm]
theorem zoK (k:IntKind) (hk:k.signed=false) (r:BitVec k.bits):k.wrap (r.toNat:Int)=(r.toNat:Int):=
 zbF hk rfl r.isLt
theorem zfM (n m:Nat):BitVec.ofInt n (m:Int)=BitVec.ofNat n m:=by simp
theorem orU (k:IntKind) (hk:k.signed=false) {a b:Nat} (ha:a<2^k.bits) (hb:b<2^k.bits):k.wrap ((BitVec.ofInt k.bits (a:Int)||| BitVec.ofInt k.bits (b:Int)).toNat:Int)=((a ||| b:Nat):Int):=by
 rw [zoK k hk,zfM,zfM,BitVec.toNat_or,BitVec.toNat_ofNat,BitVec.toNat_ofNat,Nat.mod_eq_of_lt ha,Nat.mod_eq_of_lt hb]
theorem zxi (k:IntKind) (hk:k.signed=false) {a b:Nat} (ha:a<2^k.bits) (hb:b<2^k.bits):k.wrap ((BitVec.ofInt k.bits (a:Int)&&&BitVec.ofInt k.bits (b:Int)).toNat:Int)=((a&&&b:Nat):Int):=by
 rw [zoK k hk,zfM,zfM,BitVec.toNat_and,BitVec.toNat_ofNat,BitVec.toNat_ofNat,Nat.mod_eq_of_lt ha,Nat.mod_eq_of_lt hb]
theorem zuS {k:IntKind} (hk:k.signed=false) {a s:Nat}:k.wrap ((a:Int)*2^s)=((a*2^s%2^k.bits:Nat):Int):=
 zcz hk (by simp)
theorem zgO (a s:Nat):(a:Int).fdiv (2^s)=((a/2^s:Nat):Int):=by
 rw [Int.fdiv_eq_ediv_of_nonneg _ (by exact_mod_cast Nat.zero_le (2^s))]
 simp
theorem zez (a b:Nat):(a:Int).tdiv (b:Int)=((a/b:Nat):Int):=by
 rw [Int.tdiv_eq_ediv_of_nonneg (by omega)];simp
theorem zcX (a b:Nat):(a:Int).tmod (b:Int)=((a%b:Nat):Int):=by
 rw [Int.tmod_eq_emod_of_nonneg (by omega)];simp
structure Bs (lo hi:Nat) (w:World) (a:Option Addr) (len cap:Nat) (l:List UInt8):Prop where
 sla:SlA lo hi w a len cap (u8s l)
 len_eq:len=l.length
theorem Bs.ext {lo hi:Nat} {w w':World} {a:Option Addr} {len cap:Nat} {l:List UInt8} (h:Bs lo hi w a len cap l) (hc:Ext w w'):Bs lo hi w' a len cap l:=⟨h.sla.ext hc,h.len_eq⟩
theorem Bs.chg {S:Nat→Prop} {lo hi:Nat} {w w':World} {a:Option Addr} {len cap:Nat} {l:List UInt8} (h:Bs lo hi w a len cap l) (hc:Chg S w w') (hs:∀k,lo≤k→k<hi→¬S k:=by intro k h1 h2 hs;first |(have h:k=_:=hs;omega)|(rcases hs with hs | hs<;>omega)):Bs lo hi w' a len cap l:=⟨h.sla.chg hc hs,h.len_eq⟩
theorem Bs.mono {lo hi lo' hi':Nat} {w:World} {a:Option Addr} {len cap:Nat} {l:List UInt8} (h:Bs lo hi w a len cap l) (h1:lo'≤lo) (h2:hi≤hi'):Bs lo' hi' w a len cap l:=⟨h.sla.mono h1 h2,h.len_eq⟩
theorem Bs.nil (lo hi:Nat) (w:World):Bs lo hi w none 0 0 []:=⟨SlA.nil lo hi w,rfl⟩
theorem Bs.of_blk {lo hi:Nat} {w:World} {b:Nat} {cs:List Value} {e:TypeId} {l:List UInt8} (h:Blk w b cs e) (hcs:cs=u8s l) {len cap:Nat} (hl:len=l.length) (hc:len≤cap) (hm:cap≤maxLen) (h1:lo≤b) (h2:b<hi):Bs lo hi w (some ⟨b,0,none⟩) len cap l:=by
 subst hcs
 exact ⟨SlA.of_blk h hc hm h1 h2,hl⟩
theorem Bs.of_at {lo hi:Nat} {w:World} {b o:Nat} {l:List UInt8} (h:At w b o (u8s l)) (hb:b<w.heap.size) {len:Nat} (hl:len=l.length) (hm:len≤maxLen) (h1:lo≤b) (h2:b<hi):Bs lo hi w (some ⟨b,o,none⟩) len len l:=
 ⟨h.sla hb lo hi h1 h2 hm,hl⟩
theorem Bs.le {lo hi:Nat} {w:World} {a:Option Addr} {len cap:Nat} {l:List UInt8} (h:Bs lo hi w a len cap l):len≤cap∧cap≤9223372036854775807:=by
 have:=h.sla.le;simpa [maxLen] using this
theorem Bs.addr {lo hi:Nat} {w:World} {a:Option Addr} {len cap:Nat} {l:List UInt8} (h:Bs lo hi w a len cap l) (hp:0<len):∃b o,a=some ⟨b,o,none⟩:=
 h.sla.addr (by have:=h.len_eq;simp;omega)
theorem Bs.cell {lo hi:Nat} {w:World} {b o len cap:Nat} {l:List UInt8} (h:Bs lo hi w (some ⟨b,o,none⟩) len cap l) {i:Nat} (hi':i<l.length):w.cell? ⟨b,o+i,none⟩=some (.int .u8 ((l[i]).toNat:Int)):=
 (h.sla.get (ztz hi')).2.2.2
def byt (l:List UInt8) (i:Nat):Nat:=(l.getD i 0).toNat
theorem zfq (l:List UInt8) (i:Nat):byt l i<256:=(l.getD i 0).toNat_lt
theorem zjF {l:List UInt8} {i:Nat} (h:i<l.length):byt l i=(l[i]).toNat:=by simp [byt,List.getD,h]
theorem Bs.cell1 {lo hi:Nat} {w:World} {b o len cap:Nat} {l:List UInt8} (h:Bs lo hi w (some ⟨b,o,none⟩) len cap l) {i:Nat} (hi':i<len):w.cell? ⟨b,o+i*1,none⟩=some (.int .u8 ((byt l i:Nat):Int)):=by
 have h1:i<l.length:=by have:=h.len_eq;omega
 rw [Nat.mul_one,h.cell h1,zjF h1]
theorem Bs.part {lo hi:Nat} {w:World} {a:Option Addr} {len cap:Nat} {l:List UInt8} (h:Bs lo hi w a len cap l) {a':Option Addr} {x r m:Nat} (hr:r≤len) (h1:x≤r) (hS:SlA lo hi w a' (r-x) (m-x) (((u8s l).drop (x*1)).take ((r-x)*1))):Bs lo hi w a' (r-x) (m-x) ((l.drop x).take (r-x)):=by
 refine ⟨?_,by have:=h.len_eq;simp;omega⟩
 rw [zlW,zrn] at hS
 simpa using hS
theorem zfl {p:Prop} [Decidable p] (h:decide p=true):p:=of_decide_eq_true h
theorem zfj {p:Prop} [Decidable p] (h:decide p=false):¬p:=of_decide_eq_false h
theorem znT {a b:Int} (h:(a==b)=true):a=b:=by simpa using h
theorem znt {a b:Int} (h:(a==b)=false):¬a=b:=by simpa using h
theorem znG {a b:Int} (h:(a !=b)=true):¬a=b:=by simpa using h
theorem znI {a b:Int} (h:(a !=b)=false):a=b:=by simpa using h
theorem zeA {p:Prop} [Decidable p] (h:p:=by omega):decide p=true:=decide_eq_true h
theorem zbW {p:Prop} [Decidable p] (h:¬p:=by omega):decide p=false:=decide_eq_false h
theorem zc8 {a b:Int} (h:a=b:=by omega):(a==b)=true:=by simpa using h
theorem zh4 {a b:Int} (h:¬a=b:=by omega):(a==b)=false:=by simpa using h
theorem zd1 {a b:Int} (h:¬a=b:=by omega):(a !=b)=true:=by simpa using h
theorem zcb {a b:Int} (h:a=b:=by omega):(a !=b)=false:=by simpa using h
theorem zG {ds:List Deferred} {X:Type} {live:X→List (Nat×Value)} {dead:List Nat} {n:Nat} {σ τ:List (Nat×Value)} {I:X→World→Prop} {μ:X→Nat} {x:X} {w':World} (x':X)
  (hI:I x' w') (hm:μ x'<μ x) (hs:τ.drop (τ.length-σ.length)=σ:=by kernel_rfl) (hk:zjq (τ.take (τ.length-σ.length)) (live x') dead=true:=by kernel_rfl) (hv:((live x').map fun p=>lk τ p.1)=(live x').map Prod.snd:=by kernel_rfl):zu5 (ds:=ds) live dead n σ I μ x (Fr ds n τ) w':=
 ⟨x',lk τ,zjh (zjo hs hk hv),hI,hm⟩
theorem Ext.own {b:Nat} {u w w':World} (h:Ext u w) (g:Chg (· =b) w w') (hb:u.heap.size≤b):Ext u w':=
 Chg.then h g (fun k hk hs=>by have:k=b:=hs;omega)
theorem zE {P:Program} {w:World} {T b o:Nat} {vs:List Value} (hc:At w b o vs) (hsz:(P.info? T).map (·.size)=some vs.length:=by kernel_rfl) (hT:(P.underlying T).map zcY=some true:=by kernel_rfl):
  (loadVar T ⟨b,o,none⟩).run P w= .ok (.agg vs.toArray) w:=by
 simpa [Instr.loadAt,Instr.sureAddr] using zfZ hc hsz hT
theorem zc3 {P:Program} {w:World} {T b o:Nat} {v:Value} (hc:w.cell? ⟨b,o,none⟩=some v) (hT:(P.underlying T).map zcY=some false:=by kernel_rfl):
  (loadVar T ⟨b,o,none⟩).run P w= .ok v w:=by
 simpa [Instr.loadAt,Instr.sureAddr] using zn7 hc hT
section
variable {P:Program} {n k:Nat} {σ:List (Nat×Value)} {w:World} {ops:Array Oper} {K:List (Nat×Value)→World→Prop} {d:Option Tmp}
theorem zjV {T:TypeId} {ox oy:Operand} {kk yk:IntKind} {a s:Nat} (hs:s≤kk.bits):(do eqGuard .shr T ox oy (.int kk (a:Int)) (.int yk (s:Int));binOp .shr T (.int kk (a:Int)) (.int yk (s:Int)):Sem Value).run P w= .ok (.int kk ((a/2^s:Nat):Int)) w:=by
 have h1:¬((s:Int)<0):=by omega
 have h2:min s kk.bits=s:=by omega
 simp only [eqGuard,binOp,Op.shift,h1,if_false,Int.toNat_natCast,h2,zgO]
 simp
theorem zm8 {T:TypeId} {ox oy:Operand} {kk:IntKind} {a b:Nat} (hb:0<b):(bo .rem T ox oy (.int kk (a:Int)) (.int kk (b:Int))).run P w= .ok (.int kk ((a%b:Nat):Int)) w:=by
 have h1:¬((b:Int)=0):=by omega
 simp only [bo,eqGuard,binOp,Op.intDiv,h1,if_false,zcX]
 simp
end
section
variable {P:Program} {n k:Nat} {σ:List (Nat×Value)} {w:World} {ops:Array Oper} {K:List (Nat×Value)→World→Prop}
theorem zaI (d:Nat) (a b:Nat) (ht:a=b→K (zak σ (some d) vT) w) (hf:¬a=b→K (zak σ (some d) vF) w) (he:zbc P ops n σ k w=some (some d, .bool (((a:Nat):Int)==((b:Nat):Int)),w):=by kernel_rfl):zaA P ops n k σ w K:=
 zcD (some d) _ (fun h=>ht (by have:=znT h;omega)) (fun h=>hf (by have:=znt h;omega)) he
theorem zbT (d:Nat) (a b:Nat) (ht:¬a=b→K (zak σ (some d) vT) w) (hf:a=b→K (zak σ (some d) vF) w) (he:zbc P ops n σ k w=some (some d, .bool (((a:Nat):Int) !=((b:Nat):Int)),w):=by kernel_rfl):zaA P ops n k σ w K:=
 zcD (some d) _ (fun h=>ht (by have:=znG h;omega)) (fun h=>hf (by have:=znI h;omega)) he
theorem zag (d:Nat) (a b:Nat) (ht:a<b→K (zak σ (some d) vT) w) (hf:¬(a<b)→K (zak σ (some d) vF) w) (he:zbc P ops n σ k w=some (some d, .bool (decide (((a:Nat):Int)<((b:Nat):Int))),w):=by kernel_rfl):zaA P ops n k σ w K:=
 zcD (some d) _ (fun h=>ht (by have:=zfl h;omega)) (fun h=>hf (by have:=zfj h;omega)) he
theorem zjO (d:Nat) (a b:Nat) (ht:a≤b→K (zak σ (some d) vT) w) (hf:¬(a≤b)→K (zak σ (some d) vF) w) (he:zbc P ops n σ k w=some (some d, .bool (decide (((a:Nat):Int)≤((b:Nat):Int))),w):=by kernel_rfl):zaA P ops n k σ w K:=
 zcD (some d) _ (fun h=>ht (by have:=zfl h;omega)) (fun h=>hf (by have:=zfj h;omega)) he
theorem zcn (d:Nat) (a b:Nat) (ht:a>b→K (zak σ (some d) vT) w) (hf:¬(a>b)→K (zak σ (some d) vF) w) (he:zbc P ops n σ k w=some (some d, .bool (decide (((a:Nat):Int)>((b:Nat):Int))),w):=by kernel_rfl):zaA P ops n k σ w K:=
 zcD (some d) _ (fun h=>ht (by have:=zfl h;omega)) (fun h=>hf (by have:=zfj h;omega)) he
theorem zuT (d:Nat) (a b:Nat) (ht:a≥b→K (zak σ (some d) vT) w) (hf:¬(a≥b)→K (zak σ (some d) vF) w) (he:zbc P ops n σ k w=some (some d, .bool (decide (((a:Nat):Int)≥((b:Nat):Int))),w):=by kernel_rfl):zaA P ops n k σ w K:=
 zcD (some d) _ (fun h=>ht (by have:=zfl h;omega)) (fun h=>hf (by have:=zfj h;omega)) he
theorem zg9 (d:Nat) (a b:Int) (ht:¬a=b→K (zak σ (some d) vT) w) (hf:a=b→K (zak σ (some d) vF) w) (he:zbc P ops n σ k w=some (some d, .bool (a !=b),w):=by kernel_rfl):zaA P ops n k σ w K:=
 zcD (some d) _ (fun h=>ht (by have:=znG h;omega)) (fun h=>hf (by have:=znI h;omega)) he
theorem zmL (d:Nat) (a b:Int) (ht:a<b→K (zak σ (some d) vT) w) (hf:¬(a<b)→K (zak σ (some d) vF) w) (he:zbc P ops n σ k w=some (some d, .bool (decide (a<b)),w):=by kernel_rfl):zaA P ops n k σ w K:=
 zcD (some d) _ (fun h=>ht (by have:=zfl h;omega)) (fun h=>hf (by have:=zfj h;omega)) he
theorem zo7 (d:Nat) (a b:Int) (ht:a≥b→K (zak σ (some d) vT) w) (hf:¬(a≥b)→K (zak σ (some d) vF) w) (he:zbc P ops n σ k w=some (some d, .bool (decide (a≥b)),w):=by kernel_rfl):zaA P ops n k σ w K:=
 zcD (some d) _ (fun h=>ht (by have:=zfl h;omega)) (fun h=>hf (by have:=zfj h;omega)) he
theorem zJ (d a b z:Nat) (h:K (zak σ (some d) (vI z)) w) (hz:((a:Nat):Int)+((b:Nat):Int)=((z:Nat):Int):=by omega) (h2:z≤9223372036854775807:=by omega) (he:zbc P ops n σ k w=some (some d, .int .i64 (IntKind.i64.wrap (((a:Nat):Int)+((b:Nat):Int))),w):=by kernel_rfl):zaA P ops n k σ w K:=
 zae (some d) .i64 _ z (zao hz (by omega) (by omega)) h he
theorem zb5 (d a b z:Nat) (h:K (zak σ (some d) (vI z)) w) (hz:((a:Nat):Int)-((b:Nat):Int)=((z:Nat):Int):=by omega) (h2:z≤9223372036854775807:=by omega) (he:zbc P ops n σ k w=some (some d, .int .i64 (IntKind.i64.wrap (((a:Nat):Int)-((b:Nat):Int))),w):=by kernel_rfl):zaA P ops n k σ w K:=
 zae (some d) .i64 _ z (zao hz (by omega) (by omega)) h he
theorem zcg (d a b z:Nat) (h:K (zak σ (some d) (vI z)) w) (hz:((a:Nat):Int)*((b:Nat):Int)=((z:Nat):Int):=by omega) (h2:z≤9223372036854775807:=by omega) (he:zbc P ops n σ k w=some (some d, .int .i64 (IntKind.i64.wrap (((a:Nat):Int)*((b:Nat):Int))),w):=by kernel_rfl):zaA P ops n k σ w K:=
 zae (some d) .i64 _ z (zao hz (by omega) (by omega)) h he
theorem zdq (d a:Nat) (h:K (zak σ (some d) (vI a)) w) (h2:a≤9223372036854775807:=by omega) (he:zbc P ops n σ k w=some (some d, .int .i64 (IntKind.i64.wrap ((a:Nat):Int)),w):=by kernel_rfl):zaA P ops n k σ w K:=
 zae (some d) .i64 _ a (zao rfl (by omega) (by omega)) h he
theorem zbe (d a b:Nat) (h:K (zak σ (some d) vF) w) (hh:a=b:=by omega) (he:zbc P ops n σ k w=some (some d, .bool (((a:Nat):Int) !=((b:Nat):Int)),w):=by kernel_rfl):zaA P ops n k σ w K:=
 zbn (some d) _ false (zcb (by omega)) h he
theorem zda (d a b:Nat) (h:K (zak σ (some d) vT) w) (hh:¬a=b:=by omega) (he:zbc P ops n σ k w=some (some d, .bool (((a:Nat):Int) !=((b:Nat):Int)),w):=by kernel_rfl):zaA P ops n k σ w K:=
 zbn (some d) _ true (zd1 (by omega)) h he
theorem zdv (d a b:Nat) (h:K (zak σ (some d) vF) w) (hh:¬a=b:=by omega) (he:zbc P ops n σ k w=some (some d, .bool (((a:Nat):Int)==((b:Nat):Int)),w):=by kernel_rfl):zaA P ops n k σ w K:=
 zbn (some d) _ false (zh4 (by omega)) h he
theorem zdI (d a b:Nat) (h:K (zak σ (some d) vT) w) (hh:a=b:=by omega) (he:zbc P ops n σ k w=some (some d, .bool (((a:Nat):Int)==((b:Nat):Int)),w):=by kernel_rfl):zaA P ops n k σ w K:=
 zbn (some d) _ true (zc8 (by omega)) h he
theorem zvc (d a b:Nat) (h:K (zak σ (some d) vT) w) (hh:a<b:=by omega) (he:zbc P ops n σ k w=some (some d, .bool (decide (((a:Nat):Int)<((b:Nat):Int))),w):=by kernel_rfl):zaA P ops n k σ w K:=
 zbn (some d) _ true (zeA (by omega)) h he
theorem zjL (d a b:Nat) (h:K (zak σ (some d) vF) w) (hh:¬(a<b):=by omega) (he:zbc P ops n σ k w=some (some d, .bool (decide (((a:Nat):Int)<((b:Nat):Int))),w):=by kernel_rfl):zaA P ops n k σ w K:=
 zbn (some d) _ false (zbW (by omega)) h he
theorem zmf (d a b:Nat) (h:K (zak σ (some d) vT) w) (hh:a≤b:=by omega) (he:zbc P ops n σ k w=some (some d, .bool (decide (((a:Nat):Int)≤((b:Nat):Int))),w):=by kernel_rfl):zaA P ops n k σ w K:=
 zbn (some d) _ true (zeA (by omega)) h he
theorem zvB (d a b:Nat) (h:K (zak σ (some d) vF) w) (hh:¬(a≤b):=by omega) (he:zbc P ops n σ k w=some (some d, .bool (decide (((a:Nat):Int)≤((b:Nat):Int))),w):=by kernel_rfl):zaA P ops n k σ w K:=
 zbn (some d) _ false (zbW (by omega)) h he
theorem zvi (d a b:Nat) (h:K (zak σ (some d) vT) w) (hh:a>b:=by omega) (he:zbc P ops n σ k w=some (some d, .bool (decide (((a:Nat):Int)>((b:Nat):Int))),w):=by kernel_rfl):zaA P ops n k σ w K:=
 zbn (some d) _ true (zeA (by omega)) h he
theorem zgE (d a b:Nat) (h:K (zak σ (some d) vF) w) (hh:¬(a>b):=by omega) (he:zbc P ops n σ k w=some (some d, .bool (decide (((a:Nat):Int)>((b:Nat):Int))),w):=by kernel_rfl):zaA P ops n k σ w K:=
 zbn (some d) _ false (zbW (by omega)) h he
theorem zf0 (d a b:Nat) (h:K (zak σ (some d) vT) w) (hh:a≥b:=by omega) (he:zbc P ops n σ k w=some (some d, .bool (decide (((a:Nat):Int)≥((b:Nat):Int))),w):=by kernel_rfl):zaA P ops n k σ w K:=
 zbn (some d) _ true (zeA (by omega)) h he
theorem zuX (d a b:Nat) (h:K (zak σ (some d) vF) w) (hh:¬(a≥b):=by omega) (he:zbc P ops n σ k w=some (some d, .bool (decide (((a:Nat):Int)≥((b:Nat):Int))),w):=by kernel_rfl):zaA P ops n k σ w K:=
 zbn (some d) _ false (zbW (by omega)) h he
end
end Go.Cs
namespace Go.Cs
open Go Go.RowKit
section
variable {ro:Option Nat} {P:Program} {ops:Array Oper} {Q:Exit→Act→World→Prop} {md:Region.Mode} {C:World→Prop}
def zhw (ops:Array Oper):Bool:=ops.all fun o=>match o.op with | .defer _=>false | _=>true
theorem zhh (h:zhw ops=true) {j:Nat} {o:Oper} (hj:ops[j]? =some o) (c:Call):o.op≠ .defer c:=by
 intro e
 obtain ⟨hlt,rfl⟩:=Array.getElem?_eq_some_iff.1 hj
 have:=Array.all_eq_true.1 h j hlt
 simp [e] at this
def zcw (md:Region.Mode) (ops:Array Oper) (j:Nat):Bool:=
 match ops[j]? with
 | none=>false
 | some o=>(List.range ops.size).all fun k=>k==j || o.after.any fun e=>Region.binds md e&&e.on==k
def zeM (ro:Option Nat) (P:Program) (md:Region.Mode) (ops:Array Oper) (Q:Exit→Act→World→Prop) (C:World→Prop):Nat→Array Bool→Act→World→Prop
 | 0,listed,a,w=>Region.ready md ops listed= []∧Q .normal a w
 | fuel+1,listed,a,w=>
  (Region.ready md ops listed= []→Q .normal a w)∧
  ∀i∈Region.ready md ops listed,wpOpIn (fen ro) 0 P ops Q i (fun a' w'=>(zcw md ops i=true∨C w')∧zeM ro P md ops Q C fuel (listed.setIfInBounds i true) a' w') a w
theorem zjw:∀(fuel:Nat) (listed:Array Bool) (a:Act) (w:World),zeM ro P md ops Q C fuel listed a w→wpAnyIn (fen ro) 0 P md ops Q fuel listed a w
 | 0,_,_,_,h=>h
 | fuel+1,_,_,_,h=>⟨h.1,fun i hi=>wpOpIn_mono (fun a' w' h'=>zjw fuel _ a' w' h'.2) (h.2 i hi)⟩
def zhn (P:Program) (w:World) (v:Value):Result Next→Prop
 | .ok (.value u) w'=>w'=w∧u=v
 | .ok .skip w'=>w'=w∧v=undef
 | .ok (.enter f args) w'=>w'=w∧Calls P f args w (Ret fun u w''=>u=v∧w=w'')
 | _=>False
def YC (P:Program) (ops:Array Oper) (C:World→Prop) (o:Oper) (v:Value) (a:Act):Prop:=
 (Region.wanted o (yielded ops a.tmps)=true∧∀w,C w→zhn P w v ((execOp a.eval o).run P w))∨
 (Region.wanted o (yielded ops a.tmps)=false∧v=undef)
theorem YC.wpOp {i:Nat} {o:Oper} {v:Value} {a:Act} (hd:∀c,o.op≠ .defer c) (hi:ops[i]? =some o) (hy:YC P ops C o v a)
  {K:Act→World→Prop} {w:World} (hw:C w) (h:K (a.put o.dst v) w):wpOpIn (fen ro) 0 P ops Q i K a w:=by
 unfold Go.wpOpIn
 simp only [hi]
 rcases hy with ⟨hwn,hv⟩|⟨hwn,rfl⟩
 ·simp only [hwn,if_true]
  have h2:=hv w hw
  unfold Oper.wpIn
  refine ⟨fun _ _=>trivial, ?_⟩
  rw [Oper.semAt_eq _ _ _ hd]
  cases hr:(execOp a.eval o).run P w with
  | halt _ _=>simp only [hr,zhn] at h2
  | ok nx w'=>
   cases nx with
   | value u=>simp only [hr,zhn] at h2;obtain ⟨rfl,rfl⟩:=h2;exact h
   | skip=>simp only [hr,zhn] at h2;obtain ⟨rfl,rfl⟩:=h2;exact h
   | enter f args=>
    simp only [hr,zhn] at h2
    obtain ⟨rfl,h3⟩:=h2
    rw [Oper.uponIn_enter]
    refine ⟨fun h=>(by cases h),CallsIn.mono (show CallsIn (fen ro) (0-1) P f args w' _ from callsIn_wide (n:=0-1).2 h3) ?_⟩
    rintro e w'' ⟨u,rfl,rfl,rfl⟩
    exact h
   | _=>simp only [hr,zhn] at h2
 ·simp only [hwn,Bool.false_eq_true,if_false];exact ⟨fun _ _=>trivial,h⟩
theorem YC.of_same {o:Oper} {v:Value} {a a':Act} (hy:YC P ops C o v a) (he:execOp a'.eval o=execOp a.eval o)
  (hw:Region.wanted o (yielded ops a'.tmps)=Region.wanted o (yielded ops a.tmps)):YC P ops C o v a':=by
 unfold YC at*
 rw [he,hw]
 exact hy
theorem zqF {j:Nat} {oi oj:Oper} {v:Value} (hj:ops[j]? =some oj) (hap:oi.apart ops oj=true)
  (hsi:∀cs b,oi.op≠ .select cs b) (hsj:∀cs b,oj.op≠ .select cs b) (hdj:∀c,oj.op≠ .defer c)
  (hQ:∀c a w,¬Q (.panic c) a w) {K:Act→World→Prop} {a:Act} {w:World}
  (hy:YC P ops C oi v a) (h:wpOpIn (fen ro) 0 P ops Q j K (a.put oi.dst v) w):
  wpOpIn (fen ro) 0 P ops Q j (fun a' w'=>YC P ops C oi v a'∧K (a'.put oi.dst v) w') a w:=by
 obtain ⟨h1,h2,h3⟩:=Oper.apart_spec hap
 have keep:∀(a:Act),YC P ops C oi v a→∀u,YC P ops C oi v (a.put oj.dst u):=fun a hy u=>
  hy.of_same (execOp_put oi hsi a oj.dst u h3) (wanted_put oi a oj.dst u h3)
 have keepD:∀d,YC P ops C oi v {a with defers:=d::a.defers}:=fun d=>hy.of_same rfl rfl
 unfold wpOpIn at*
 simp only [hj] at*
 rw [wanted_put oj a oi.dst v h1] at h
 split
 ·rename_i hw
  simp only [hw,if_true] at h
  unfold Oper.wpIn at*
  refine ⟨fun _ _=>trivial, ?_⟩
  have h:=h.2
  rw [Oper.semAt_eq _ _ _ hdj] at h⊢
  rw [execOp_put oj hsj a oi.dst v h1] at h
  generalize (execOp a.eval oj).run P w=r at*
  cases r with
  | ok n w'=>
   cases n<;>simp only [Oper.uponIn] at h⊢
   case value u=>exact ⟨keep a hy u,by rw [←Act.put_comm a v u h2];exact h⟩
   case skip=>exact ⟨keep a hy _,by rw [←Act.put_comm a v undef h2];exact h⟩
   case defer d=>
    refine ⟨keep _ (keepD d) _, ?_⟩
    rw [←Act.put_comm _ v undef h2,←Act.put_defers]
    exact h
   case enter f args=>
    refine ⟨h.1,CallsIn.mono h.2 fun e w'' he=> ?_⟩
    cases e with
    | returned u=>exact ⟨keep a hy u,by rw [←Act.put_comm a v u h2];exact he⟩
    | panicked c=>exact (hQ _ _ _ he).elim
    | outgrown=>exact he
   case row row args=>exact ⟨h.1,RowsIn.mono h.2 fun u w'' he=>⟨keep a hy u,by rw [←Act.put_comm a v u h2];exact he⟩⟩
   case round l f tmps assign body=>
    refine ⟨h.1,RoundIn.mono h.2 fun e w'' he=> ?_⟩
    cases e with
    | returned u=>exact ⟨keep a hy u,by rw [←Act.put_comm a v u h2];exact he⟩
    | panicked c=>exact (hQ _ _ _ he).elim
    | outgrown=>exact he
  | halt x w'=>
   cases x<;>simp only [Oper.uponIn] at h⊢
   case panic u=>exact (hQ _ _ _ h).elim
 ·rename_i hw
  simp only [hw] at h
  exact ⟨fun _ _=>trivial,keep a hy _,by rw [←Act.put_comm a v undef h2];exact h.2⟩
theorem zmJ {i:Nat} {oi:Oper} {v:Value} (hi:ops[i]? =some oi) (hdef:zhw ops=true) (hsel:∀(j:Nat) (o:Oper) cs b,ops[j]? =some o→o.op≠ .select cs b)
  (hQ:∀c a w,¬Q (.panic c) a w):
  ∀(fuel:Nat) (listed:Array Bool) (a:Act) (w:World),C w→
   (∀j oj,ops[j]? =some oj→j≠i→listed.getD j true=false→(∀e∈oj.after,Region.binds md e=true→e.on≠i)→oi.apart ops oj=true)→
   i∈Region.ready md ops listed→YC P ops C oi v a→
   zeM ro P md ops Q C fuel (listed.setIfInBounds i true) (a.put oi.dst v) w→zeM ro P md ops Q C (fuel+1) listed a w:=by
 intro fuel
 induction fuel with
 | zero=>
  intro listed a w hw _ hr hy H
  refine ⟨fun h=>(by rw [h] at hr;cases hr),fun j hj=> ?_⟩
  by_cases hji:j=i
  ·subst hji;exact hy.wpOp (zhh hdef hi) hi hw ⟨.inr hw,H⟩
  ·have:=ready_mono hj hji
   rw [H.1] at this
   cases this
 | succ fuel ih=>
  intro listed a w hw hfree hr hy H
  refine ⟨fun h=>(by rw [h] at hr;cases hr),fun j hj=> ?_⟩
  by_cases hji:j=i
  ·subst hji;exact hy.wpOp (zhh hdef hi) hi hw ⟨.inr hw,H⟩
  ·have h1:=H.2 j (ready_mono hj hji)
   obtain ⟨hjun,oj,hoj,hall⟩:=mem_ready.1 hj
   have hnot:∀e∈oj.after,Region.binds md e=true→e.on≠i:=fun e he hb heq=>by
    have h1:=hall e he hb
    have h0:=(mem_ready.1 hr).1
    rw [heq] at h1
    rcases Nat.lt_or_ge i listed.size with h' | h'
    ·simp [h'] at h0 h1;rw [h0] at h1;cases h1
    ·simp [Array.getElem?_eq_none h'] at h1
   have h2:=zqF hoj (hfree j oj hoj hji hjun hnot) (fun cs b=>hsel i oi cs b hi) (fun cs b=>hsel j oj cs b hoj) (zhh hdef hoj) hQ hy h1
   have hfree':∀k ok,ops[k]? =some ok→k≠i→(listed.setIfInBounds j true).getD k true=false→
     (∀e∈ok.after,Region.binds md e=true→e.on≠i)→oi.apart ops ok=true:=fun k ok hk hki hun hno=>by
    refine hfree k ok hk hki ?_ hno
    by_cases hjk:j=k
    ·subst hjk;exact hjun
    ·rw [getD_set_ne true hjk] at hun;exact hun
   have hnl:zcw md ops j=false:=by
    cases hb:zcw md ops j with
    | false=>rfl
    | true=>
     simp only [zcw,hoj,List.all_eq_true,List.mem_range,Bool.or_eq_true,beq_iff_eq] at hb
     rcases hb i (Array.getElem?_eq_some_iff.1 hi).1 with h9 | h9
     ·exact absurd h9.symm hji
     ·obtain ⟨e,he,hbe⟩:=Array.any_eq_true'.1 h9
      simp only [Bool.and_eq_true,beq_iff_eq] at hbe
      exact absurd hbe.2 (hnot e he hbe.1)
   refine wpOpIn_mono (fun a' w' h3=> ?_) h2
   have hcw:C w':=h3.2.1.resolve_left (by rw [hnl];simp)
   refine ⟨.inr hcw,ih (listed.setIfInBounds j true) a' w' hcw hfree' (ready_mono hr (Ne.symm hji)) h3.1 ?_⟩
   rw [Array.setIfInBounds_comm _ _ hji]
   exact h3.2.2
theorem zmN {i:Nat} {oi:Oper} {v:Value} {fuel:Nat} {listed:Array Bool} {a:Act} {w:World} (hi:ops[i]? =some oi)
  (hdef:zhw ops=true) (hs:Region.noSelect ops=true) (hf:Region.free md ops listed i=true) (hr:(Region.ready md ops listed).contains i=true)
  (hQ:∀c a w,¬Q (.panic c) a w) (hw:C w) (hy:YC P ops C oi v a)
  (h:zeM ro P md ops Q C fuel (listed.setIfInBounds i true) (a.put oi.dst v) w):zeM ro P md ops Q C (fuel+1) listed a w:=
 zmJ hi hdef (Region.noSelect_spec hs) hQ fuel listed a w hw (Region.free_spec hi hf) (by simpa using hr) hy h
end
def zdh {ro:Option Nat} {ds:List Deferred} (P:Program) (ops:Array Oper) (Q:Exit→Act→World→Prop) (C:World→Prop) (n fuel:Nat) (listed:Array Bool) (σ:List (Nat×Value)) (w:World):Prop:=
 zeM ro P .any ops Q C fuel listed (Fr ds n σ) w
section
variable {ro:Option Nat} {ds:List Deferred} {P:Program} {ops:Array Oper} {Q:Exit→Act→World→Prop} {C:World→Prop} {n fuel:Nat} {listed:Array Bool} {σ:List (Nat×Value)} {w:World}
theorem zrl {id:Nat} (C:World→Prop) (fuel:Nat) (hm:P.follows .mixedOrders=true) (hn:ops.size=fuel)
  (h:zdh (ro:=ro) (ds:=ds) P ops Q C n fuel (Array.replicate fuel false) σ w.drew):wpC (ro:=ro) (ds:=ds) P (.region id ops true) Q n σ w:=by
 subst hn
 exact wpIn_region_any hm (zjw _ _ _ _ h)
def yld (P:Program) (ops:Array Oper) (C:World→Prop) (n:Nat) (σ:List (Nat×Value)) (i:Nat) (d:Option Tmp) (v:Value):Prop:=
 ∃o,ops[i]? =some o∧o.dst=d∧((wnt ops n σ o=true∧∀w',C w'→zhn P w' v ((execOp (ev n σ) o).run P w'))∨(wnt ops n σ o=false∧v=undef))
theorem zai {i:Nat} {d:Option Tmp} {v:Value} (s:Sem Value) (h:∀w',C w'→s.run P w'= .ok v w') (he:zbp ops n σ i=some (d,vS s):=by kernel_rfl):yld P ops C n σ i d v:=by
 obtain ⟨o,ho,hw,rfl,h2⟩:=zed he
 refine ⟨o,ho,rfl, .inl ⟨hw,fun w' hC=> ?_⟩⟩
 rw [h2,zqC (h w' hC)]
 exact ⟨rfl,rfl⟩
theorem zgT {i:Nat} {d:Option Tmp} {u v:Value} (he:∀w',zbc P ops n σ i w'=some (d,u,w')) (hu:u=v) (hne:∃w',C w'):yld P ops C n σ i d v:=by
 subst hu
 obtain ⟨w0,_⟩:=hne
 have h0:=he w0
 unfold zbc at h0
 cases hx:zbp ops n σ i with
 | none=>simp [hx] at h0
 | some p=>
  obtain ⟨d',s⟩:=p
  obtain ⟨o,ho,hw,hd,h2⟩:=zed hx
  have hdd:d'=d:=by
   simp only [hx] at h0
   cases hr:s.run P w0 with
   | halt _ _=>simp [hr] at h0
   | ok nx w1=>cases nx<;>simp_all
  refine ⟨o,ho,hd.trans hdd, .inl ⟨hw,fun w' _=> ?_⟩⟩
  have h1:=he w'
  unfold zbc at h1
  simp only [hx] at h1
  rw [h2]
  cases hr:s.run P w' with
  | halt _ _=>simp [hr] at h1
  | ok nx w1=>
   cases nx with
   | value u'=>
    simp only [hr,Option.some.injEq,Prod.mk.injEq] at h1
    exact ⟨h1.2.2,h1.2.1⟩
   | _=>simp [hr] at h1
theorem zsJ {i:Nat} {d:Option Tmp} {v:Value} (u:Value) (hu:u=v) (hne:∃w',C w':=by first | exact ⟨_,Ext.refl _⟩| exact ⟨_,Chg.refl _ _⟩) (he:∀w',zbc P ops n σ i w'=some (d,u,w'):=by intro _;kernel_rfl):yld P ops C n σ i d v:=zgT he hu hne
theorem zac {i:Nat} {d:Option Tmp} (kk:IntKind) (x:Int) {y:Nat} (hx:x=(y:Int)) (hne:∃w',C w':=by first | exact ⟨_,Ext.refl _⟩| exact ⟨_,Chg.refl _ _⟩) (he:∀w',zbc P ops n σ i w'=some (d, .int kk x,w'):=by intro _;kernel_rfl):yld P ops C n σ i d (.int kk (y:Int)):=zgT he (by rw [hx]) hne
theorem zaS {i:Nat} {d:Option Tmp} (x:Bool) {y:Bool} (hx:x=y) (hne:∃w',C w':=by first | exact ⟨_,Ext.refl _⟩| exact ⟨_,Chg.refl _ _⟩) (he:∀w',zbc P ops n σ i w'=some (d, .bool x,w'):=by intro _;kernel_rfl):yld P ops C n σ i d (.bool y):=zgT he (by rw [hx]) hne
theorem zcv {i:Nat} {d:Option Tmp} {v:Value} {f:FuncId} {args:Array Value} (hc:∀w',C w'→Calls P f args w' (Ret fun u w''=>u=v∧w'=w'')) (hne:∃w',C w':=by first | exact ⟨_,Ext.refl _⟩| exact ⟨_,Chg.refl _ _⟩) (he:∀w',zgI P ops n σ i w'=some (d,f,args,w'):=by intro _;kernel_rfl):yld P ops C n σ i d v:=by
 obtain ⟨w0,_⟩:=hne
 have h0:=he w0
 unfold zgI at h0
 cases hx:zbp ops n σ i with
 | none=>simp [hx] at h0
 | some p=>
  obtain ⟨d',s⟩:=p
  obtain ⟨o,ho,hw,hd,h2⟩:=zed hx
  have hdd:d'=d:=by
   simp only [hx] at h0
   cases hr:s.run P w0 with
   | halt _ _=>simp [hr] at h0
   | ok nx w1=>cases nx<;>simp_all
  refine ⟨o,ho,hd.trans hdd, .inl ⟨hw,fun w' hC=> ?_⟩⟩
  have h1:=he w'
  unfold zgI at h1
  simp only [hx] at h1
  rw [h2]
  cases hr:s.run P w' with
  | halt _ _=>simp [hr] at h1
  | ok nx w1=>
   cases nx with
   | enter g azz=>
    simp only [hr,Option.some.injEq,Prod.mk.injEq] at h1
    obtain ⟨_,rfl,rfl,rfl⟩:=h1
    exact ⟨rfl,hc _ hC⟩
   | _=>simp [hr] at h1
def zhd (ops:Array Oper) (listed:Array Bool) (i:Nat):Bool:=
 zhw ops&&Region.noSelect ops&&Region.free .any ops listed i&&(Region.ready .any ops listed).contains i&&(match ops[i]? with | some o=>o.dst.isSome | none=>false)
theorem zi4 [hq:NoPan Q] (i:Nat) (d:Option Tmp) (v:Value) (hc:zhd ops listed i=true) (hw:C w) (hy:yld P ops C n σ i d v)
  (h:zdh (ro:=ro) (ds:=ds) P ops Q C n fuel (listed.setIfInBounds i true) (zak σ d v) w):zdh (ro:=ro) (ds:=ds) P ops Q C n (fuel+1) listed σ w:=by
 simp only [zhd,Bool.and_eq_true] at hc
 obtain ⟨⟨⟨⟨h0,h1⟩,h2⟩,h3⟩,_⟩:=hc
 obtain ⟨o,ho,rfl,h5⟩:=hy
 refine zmN ho h0 h1 h2 h3 hq.no hw ?_ (by rw [zdZ];exact h)
 rcases h5 with ⟨h6,h7⟩|⟨h6,h7⟩
 ·exact .inl ⟨by rw [zdp];exact h6,fun w' hw'=>by rw [zd5];exact h7 w' hw'⟩
 ·exact .inr ⟨by rw [zdp];exact h6,h7⟩
theorem zk9 {i:Nat} {K:List (Nat×Value)→World→Prop} (h:zaA P ops n i σ w K):wpOpIn (fen ro) 0 P ops Q i (fun a w'=>∃τ,a=Fr ds n τ∧K τ w') (Fr ds n σ) w:=by
 obtain ⟨o,ho,⟨hw,h⟩|⟨hw,h⟩⟩:=h
 ·unfold wpOpIn
  simp only [ho,zdp,hw,if_true]
  unfold Oper.wpIn
  refine ⟨fun _ _=>trivial, ?_⟩
  rw [zd5]
  cases hr:(execOp (ev n σ) o).run P w with
  | halt x w'=>simp only [hr] at h
  | ok nx w'=>
   cases nx with
   | value v=>simp only [hr] at h;rw [zb6 (P:=P) (w:=w) (by rw [hr];rfl),hr];exact ⟨_,zdZ ..,h⟩
   | skip=>simp only [hr] at h;rw [zb6 (P:=P) (w:=w) (by rw [hr];rfl),hr];exact ⟨_,zdZ ..,h⟩
   | enter f args=>
    simp only [hr] at h
    rw [zb6 (P:=P) (w:=w) (by rw [hr];rfl),hr,Oper.uponIn_enter]
    refine ⟨fun h=>(by cases h),CallsIn.mono (show CallsIn (fen ro) (0-1) P f args w' _ from callsIn_wide (n:=0-1).2 h) ?_⟩
    rintro e w'' ⟨v,rfl,hv⟩
    exact ⟨_,zdZ ..,hv⟩
   | round l f tmps assign body=>
    simp only [hr] at h
    rw [zb6 (P:=P) (w:=w) (by rw [hr];rfl),hr,Oper.uponIn_round]
    refine ⟨fun h=>(by cases h),RoundIn.mono (show RoundIn (fen ro) (0-1) P l f tmps assign body w' _ from h) ?_⟩
    rintro e w'' ⟨v,rfl,hv⟩
    exact ⟨_,zdZ ..,hv⟩
   | _=>simp only [hr] at h
 ·unfold wpOpIn
  simp only [ho,zdp,hw,Bool.false_eq_true,if_false]
  exact ⟨fun _ _=>trivial,_,zdZ ..,h⟩
theorem zlH (rs:List Nat) (hr:Region.ready .any ops listed=rs) (hne:rs≠ []) (h:∀i∈rs,zaA P ops n i σ w (fun τ w'=>(zcw .any ops i=true∨C w')∧zdh (ro:=ro) (ds:=ds) P ops Q C n fuel (listed.setIfInBounds i true) τ w')):zdh (ro:=ro) (ds:=ds) P ops Q C n (fuel+1) listed σ w:=by
 unfold zdh zeM
 refine ⟨fun h0=>absurd (hr▸h0) hne,fun j hj=> ?_⟩
 rw [hr] at hj
 refine wpOpIn_mono ?_ (zk9 (h j hj))
 rintro a w' ⟨τ,rfl,h1,h2⟩
 exact ⟨h1,h2⟩
theorem zst (i:Nat) (hr:Region.ready .any ops listed= [i]) (h:zaA P ops n i σ w (fun τ w'=>(zcw .any ops i=true∨C w')∧zdh (ro:=ro) (ds:=ds) P ops Q C n fuel (listed.setIfInBounds i true) τ w')):zdh (ro:=ro) (ds:=ds) P ops Q C n (fuel+1) listed σ w:=
 zlH [i] hr (by simp) (by simpa using h)
theorem ztR (i j:Nat) (hr:Region.ready .any ops listed= [i,j]) (h1:zaA P ops n i σ w (fun τ w'=>(zcw .any ops i=true∨C w')∧zdh (ro:=ro) (ds:=ds) P ops Q C n fuel (listed.setIfInBounds i true) τ w'))
  (h2:zaA P ops n j σ w (fun τ w'=>(zcw .any ops j=true∨C w')∧zdh (ro:=ro) (ds:=ds) P ops Q C n fuel (listed.setIfInBounds j true) τ w')):zdh (ro:=ro) (ds:=ds) P ops Q C n (fuel+1) listed σ w:=
 zlH [i,j] hr (by simp) (by
  intro k hk
  simp only [List.mem_cons,List.not_mem_nil,or_false] at hk
  rcases hk with rfl | rfl
  ·exact h1
  ·exact h2)
theorem zqS (hr:Region.ready .any ops listed= []) (h:Q .normal (Fr ds n σ) w):zdh (ro:=ro) (ds:=ds) P ops Q C n fuel listed σ w:=by
 unfold zdh
 cases fuel with
 | zero=>exact ⟨hr,h⟩
 | succ f=>exact ⟨fun _=>h,by rw [hr];simp⟩
end
def zhi:List Nat→Nat
 | []=>0
 | t::l=>2^t ||| zhi l
theorem zgQ (l:List Nat) (t:Nat):(zhi l).testBit t=decide (t∈l):=by
 induction l with
 | nil=>simp [zhi]
 | cons a l ih=>
  rw [zhi,Nat.testBit_or,ih,Nat.testBit_two_pow]
  by_cases h:a=t
  ·subst h;simp
  ·have h2:¬t=a:=fun e=>h e.symm
   simp [h,h2]
def zoh (ops:Array Oper) (o:Oper):Nat×Nat×Nat:=
 (match o.dst with | none=>0 | some d=>d+1,zhi (o.looksAt ops),zhi ((o.after.toList.filter fun e=>Region.binds .any e).map (·.on)))
def zd0 (ops:Array Oper):List (Nat×Nat×Nat):=ops.toList.map (zoh ops)
def lm (n m:Nat):Array Bool:=((List.range n).map fun i=>m.testBit i).toArray
theorem zkp (n m i:Nat) (d:Bool):(lm n m).getD i d=if i<n then m.testBit i else d:=by
 by_cases h:i<n<;>simp [lm,h]
theorem zfc (n m i:Nat):(lm n m).setIfInBounds i true=lm n (m ||| 2^i):=by
 apply Array.ext
 ·simp [lm]
 ·intro j h1 h2
  simp only [lm,Array.size_setIfInBounds,List.size_toArray,List.length_map,List.length_range] at h1
  rw [Array.getElem_setIfInBounds (by simpa [lm] using h1)]
  by_cases hij:i=j
  ·subst hij;simp [lm,Nat.testBit_or]
  ·simp [lm,hij,Nat.testBit_or]
theorem zsA (n:Nat):lm n 0=Array.replicate n false:=by
 apply Array.ext
 ·simp [lm]
 ·intro i h1 h2;simp [lm]
def zfK (T:List (Nat×Nat×Nat)) (m i:Nat):Bool:=
 match T[i]? with
 | none=>false
 | some (d,r,a)=>(d !=0)&& !m.testBit i&&(a&&&m==a)&&Nat.blt a (2^T.length)&&rest d r 0 T
where
 rest (d r:Nat):Nat→List (Nat×Nat×Nat)→Bool
  | _, []=>true
  | j,(d',r',a')::l=>(Nat.beq j i || m.testBit j || a'.testBit i ||(!r'.testBit (d-1)&& !Nat.beq d' d&&(Nat.beq d' 0 || !r.testBit (d'-1))))&&rest d r (j+1) l
theorem zpE {T:List (Nat×Nat×Nat)} {m i d r:Nat}:∀(l:List (Nat×Nat×Nat)) (j:Nat),zfK.rest m i d r j l=true→∀(k:Nat) (d' r' a':Nat),l[k]? =some (d',r',a')→
  (j+k=i∨m.testBit (j+k)=true∨a'.testBit i=true∨(r'.testBit (d-1)=false∧d'≠d∧(d'=0∨r.testBit (d'-1)=false))):=by
 intro l
 induction l with
 | nil=>intro j _ k d' r' a' h;simp at h
 | cons x l ih=>
  intro j h k d' r' a' hk
  obtain ⟨d1,r1,a1⟩:=x
  simp only [zfK.rest,Bool.and_eq_true,Bool.or_eq_true,Bool.not_eq_true'] at h
  cases k with
  | zero=>
   simp only [List.getElem?_cons_zero,Option.some.injEq,Prod.mk.injEq] at hk
   obtain ⟨rfl,rfl,rfl⟩:=hk
   rcases h.1 with ((h1 | h1)| h1)|⟨⟨h1,h2⟩,h3⟩
   ·exact .inl (by rw [Nat.add_zero];exact Nat.eq_of_beq_eq_true h1)
   ·exact .inr (.inl (by rw [Nat.add_zero];exact h1))
   ·exact .inr (.inr (.inl h1))
   ·refine .inr (.inr (.inr ⟨h1, ?_,h3.imp Nat.eq_of_beq_eq_true id⟩))
    intro e;subst e;simp at h2
  | succ k=>
   have:=ih (j+1) h.2 k d' r' a' (by simpa using hk)
   rw [show j+(k+1)=j+1+k by omega]
   exact this
theorem zii {ops:Array Oper} {T:List (Nat×Nat×Nat)} {n m i:Nat} (hT:zd0 ops=T) (hn:ops.size=n) (hdef:zhw ops=true) (hs:Region.noSelect ops=true) (h:zfK T m i=true):zhd ops (lm n m) i=true:=by
 subst hT
 unfold zfK at h
 have hrow:∀k:Nat,(zd0 ops)[k]? =(ops[k]?).map (zoh ops):=by intro k;simp [zd0]
 rw [hrow] at h
 cases ho:ops[i]? with
 | none=>simp [ho] at h
 | some o=>
  have hi:i<n:=by rw [←hn];exact (Array.getElem?_eq_some_iff.1 ho).1
  simp only [ho,Option.map_some] at h
  unfold zoh at h
  simp only [Bool.and_eq_true,bne_iff_ne,ne_eq,Bool.not_eq_true',beq_iff_eq] at h
  obtain ⟨⟨⟨⟨h1,h2⟩,h3⟩,h8⟩,h4⟩:=h
  have h4':=zpE (T:=zd0 ops) _ 0 h4
  cases hd:o.dst with
  | none=>simp [hd] at h1
  | some d=>
   simp only [hd,Nat.add_sub_cancel] at h4'
   unfold zhd
   simp only [Bool.and_eq_true,ho,hd]
   refine ⟨⟨⟨⟨hdef,hs⟩, ?_⟩, ?_⟩,rfl⟩
   ·
    unfold Region.free
    simp only [ho,List.all_eq_true,List.mem_range]
    intro j hj
    cases hoj:ops[j]? with
    | none=>simp
    | some oj=>
     have hj':j<n:=by rw [←hn];exact hj
     have h5:=h4' j _ _ _ (by rw [hrow,hoj];rfl)
     rw [Nat.zero_add] at h5
     simp only [Bool.or_eq_true,beq_iff_eq,zkp,hj',if_true]
     rcases h5 with h5 | h5 | h5 |⟨h5,h6,h7⟩
     ·exact .inl (.inl h5)
     ·exact .inl (.inr h5)
     ·refine .inr (.inl ?_)
      rw [zgQ] at h5
      simp only [List.mem_map,List.mem_filter,decide_eq_true_eq] at h5
      obtain ⟨e,⟨he,hb⟩,heq⟩:=h5
      rw [Array.any_eq_true']
      exact ⟨e,by simpa using he,by simp [hb,heq]⟩
     ·refine .inr (.inr ?_)
      unfold Oper.apart
      rw [zgQ] at h5
      simp only [decide_eq_false_iff_not] at h5
      simp only [hd,Bool.and_eq_true,Bool.not_eq_true',bne_iff_ne,ne_eq]
      refine ⟨⟨by simpa using h5, ?_⟩, ?_⟩
      ·intro e;rw [e] at h6;exact h6 rfl
      ·cases hdj:oj.dst with
       | none=>rfl
       | some dj=>
        simp only [hdj] at h7
        rcases h7 with h7 | h7
        ·cases h7
        ·rw [Nat.add_sub_cancel,zgQ] at h7
         simpa using h7
   ·rw [List.contains_iff_mem,mem_ready]
    refine ⟨by rw [zkp,if_pos hi];exact h2,o,ho,fun e he hb=> ?_⟩
    have hbit:(zhi ((o.after.toList.filter fun e=>Region.binds .any e).map (·.on))).testBit e.on=true:=by
     rw [zgQ]
     simp only [List.mem_map,List.mem_filter,decide_eq_true_eq]
     exact ⟨e,⟨by simpa using he,hb⟩,rfl⟩
    have hm:m.testBit e.on=true:=by
     rw [←h3] at hbit
     rw [Nat.testBit_and] at hbit
     simp only [Bool.and_eq_true] at hbit
     exact hbit.2
    rw [zkp]
    split
    ·exact hm
    ·rename_i hge
     have hlen:(zd0 ops).length=n:=by simp [zd0,hn]
     rw [Nat.blt_eq,hlen] at h8
     rw [Nat.testBit_lt_two_pow (Nat.lt_of_lt_of_le h8 (Nat.pow_le_pow_right (by decide) (by omega)))] at hbit
     cases hbit
structure RT (ops:Array Oper) (T:List (Nat×Nat×Nat)) (N:Nat):Prop where
 rows:zd0 ops=T
 size:ops.size=N
 nosel:Region.noSelect ops=true
 nodef:zhw ops=true
def rtB (ops:Array Oper) (T:List (Nat×Nat×Nat)) (N:Nat):Bool:=(zd0 ops==T)&&Nat.beq ops.size N&&Region.noSelect ops&&zhw ops
theorem zsc {ops:Array Oper} {T:List (Nat×Nat×Nat)} {N:Nat} (h:rtB ops T N=true):RT ops T N:=by
 simp only [rtB,Bool.and_eq_true,beq_iff_eq] at h
 exact ⟨h.1.1.1,Nat.eq_of_beq_eq_true h.1.1.2,h.1.2,h.2⟩
def zbq {ro:Option Nat} {ds:List Deferred} (P:Program) (ops:Array Oper) (Q:Exit→Act→World→Prop) (C:World→Prop) (n N fuel m:Nat) (σ:List (Nat×Value)) (w:World):Prop:=
 zdh (ro:=ro) (ds:=ds) P ops Q C n fuel (lm N m) σ w
def zoE (P:Program) (ops:Array Oper) (n:Nat) (i:Nat) (σ:List (Nat×Value)) (w:World):Option (List (Nat×Value)×World):=
 match ops[i]? with
 | none=>none
 | some o=>match wnt ops n σ o with
  | true=>match (execOp (ev n σ) o).run P w with
   | .ok (.value v) w'=>some (zak [] o.dst v,w')
   | _=>none
  | false=>some (zak [] o.dst undef,w)
def zj7 (P:Program) (ops:Array Oper) (n:Nat) (T:List (Nat×Nat×Nat)):List (Nat×Nat×Value)→Nat→List (Nat×Value)→World→List (Bool×Option (List (Nat×Value)×World))
 | [],_,_,_=> []
 |(i,p)::is,m,σ,w=>(zfK T m i,zoE P ops n i σ w)::zj7 P ops n T is (m ||| 2^i) (p::σ) w
def zkj:List (Nat×Nat×Value)→World→List (Bool×Option (List (Nat×Value)×World))
 | [],_=> []
 |(_,p)::is,w=>(true,some ([p],w))::zkj is w
def zn8:List (Nat×Nat×Value)→List (Nat×Value)→List (Nat×Value)
 | [],σ=>σ
 |(_,p)::is,σ=>zn8 is (p::σ)
def zoL:List (Nat×Nat×Value)→Nat→Nat
 | [],m=>m
 |(i,_)::is,m=>zoL is (m ||| 2^i)
section
variable {ro:Option Nat} {ds:List Deferred} {P:Program} {ops:Array Oper} {Q:Exit→Act→World→Prop} {C:World→Prop} {n N fuel m:Nat} {σ:List (Nat×Value)} {w:World} {T:List (Nat×Nat×Nat)}
theorem zkM {id:Nat} (C:World→Prop) (N:Nat) (T:List (Nat×Nat×Nat))
  (h:RT ops T N→zbq (ro:=ro) (ds:=ds) P ops Q C n N N 0 σ w.drew) (hm:P.follows .mixedOrders=true:=by kernel_rfl) (hT:rtB ops T N=true:=by kernel_rfl):wpC (ro:=ro) (ds:=ds) P (.region id ops true) Q n σ w:=
 zrl C N hm (zsc hT).size (by rw [←zsA];exact h (zsc hT))
theorem zqO [hq:NoPan Q] (hT:RT ops T N) (i m':Nat) (d:Option Tmp) (v:Value) (hy:yld P ops C n σ i d v)
  (h:zbq (ro:=ro) (ds:=ds) P ops Q C n N fuel m' (zak σ d v) w) (hw:C w:=by exact Ext.refl _) (hc:zfK T m i=true:=by kernel_rfl) (hm:m ||| 2^i=m':=by kernel_rfl):zbq (ro:=ro) (ds:=ds) P ops Q C n N (fuel+1) m σ w:=by
 refine zi4 i d v (zii hT.rows hT.size hT.nodef hT.nosel hc) hw hy ?_
 rw [zfc,hm];exact h
theorem zqp [hq:NoPan Q] (hT:RT ops T N) (i m':Nat) (p:Nat×Value) (hc:zfK T m i=true) (hm:m ||| 2^i=m') (hw:C w) (hr:∀w',zoE P ops n i σ w'=some ([p],w'))
  (h:zbq (ro:=ro) (ds:=ds) P ops Q C n N fuel m' (p::σ) w):zbq (ro:=ro) (ds:=ds) P ops Q C n N (fuel+1) m σ w:=by
 have hc':=zii hT.rows hT.size hT.nodef hT.nosel hc
 have h1:=hr w
 unfold zoE at h1
 cases ho:ops[i]? with
 | none=>simp [ho] at h1
 | some o=>
  simp only [ho] at h1
  cases hd:o.dst with
  | none=>simp [zhd,ho,hd] at hc'
  | some x=>
   cases hwn:wnt ops n σ o with
   | false=>
    simp only [hwn,hd,zak,Option.some.injEq,Prod.mk.injEq,List.cons.injEq,and_true] at h1
    subst h1
    refine zi4 i (some x) undef hc' hw ⟨o,ho,hd, .inr ⟨hwn,rfl⟩⟩ ?_
    rw [zfc,hm];exact h
   | true=>
    simp only [hwn] at h1
    cases hx:(execOp (ev n σ) o).run P w with
    | halt _ _=>simp [hx] at h1
    | ok nx w2=>
     cases nx with
     | value v=>
      simp only [hx,hd,zak,Option.some.injEq,Prod.mk.injEq,List.cons.injEq,and_true] at h1
      obtain ⟨rfl,_⟩:=h1
      refine zi4 i (some x) v hc' hw ⟨o,ho,hd, .inl ⟨hwn,fun w' _=> ?_⟩⟩ (by rw [zfc,hm];exact h)
      have h3:=hr w'
      simp only [zoE,ho,hwn] at h3
      cases hx':(execOp (ev n σ) o).run P w' with
      | halt _ _=>simp [hx'] at h3
      | ok nx' w4=>
       cases nx' with
       | value v'=>
        simp only [hx',hd,zak,Option.some.injEq,Prod.mk.injEq,List.cons.injEq,true_and,and_true] at h3
        exact ⟨h3.2,h3.1⟩
       | _=>simp [hx'] at h3
     | _=>simp [hx] at h1
theorem zre [hq:NoPan Q] (hT:RT ops T N) (is:List (Nat×Nat×Value)) (k m':Nat)
  (h:zbq (ro:=ro) (ds:=ds) P ops Q C n N fuel m' (zn8 is σ) w) (hw:C w:=by exact Ext.refl _) (hr:∀w',zj7 P ops n T is m σ w'=zkj is w':=by intro _;kernel_rfl) (hk:is.length=k:=by kernel_rfl) (hm:zoL is m=m':=by kernel_rfl):zbq (ro:=ro) (ds:=ds) P ops Q C n N (fuel+k) m σ w:=by
 induction is generalizing k m σ with
 | nil=>subst hk;subst hm;exact h
 | cons p is ih=>
  obtain ⟨i,p⟩:=p
  subst hk
  have h0:=hr w
  simp only [zj7,zkj,List.cons.injEq,Prod.mk.injEq] at h0
  refine zqp hT i (m ||| 2^i) p h0.1.1 rfl hw (fun w'=> ?_) (ih (m:=m ||| 2^i) (σ:=p::σ) is.length h (fun w'=> ?_) rfl hm)
  ·have:=hr w'
   simp only [zj7,zkj,List.cons.injEq,Prod.mk.injEq] at this
   exact this.1.2
  ·have:=hr w'
   simp only [zj7,zkj,List.cons.injEq,Prod.mk.injEq] at this
   exact this.2
theorem zrH (i m':Nat) (h:zaA P ops n i σ w (fun τ w'=>(zcw .any ops i=true∨C w')∧zbq (ro:=ro) (ds:=ds) P ops Q C n N fuel m' τ w')) (hm:m ||| 2^i=m':=by kernel_rfl) (hr:Region.ready .any ops (lm N m)= [i]:=by kernel_rfl):zbq (ro:=ro) (ds:=ds) P ops Q C n N (fuel+1) m σ w:=
 zst i hr (by rw [zfc,hm];exact h)
theorem zq2 (i j m1 m2:Nat) (h1:zaA P ops n i σ w (fun τ w'=>(zcw .any ops i=true∨C w')∧zbq (ro:=ro) (ds:=ds) P ops Q C n N fuel m1 τ w'))
  (h2:zaA P ops n j σ w (fun τ w'=>(zcw .any ops j=true∨C w')∧zbq (ro:=ro) (ds:=ds) P ops Q C n N fuel m2 τ w')) (hm1:m ||| 2^i=m1:=by kernel_rfl) (hm2:m ||| 2^j=m2:=by kernel_rfl) (hr:Region.ready .any ops (lm N m)= [i,j]:=by kernel_rfl):zbq (ro:=ro) (ds:=ds) P ops Q C n N (fuel+1) m σ w:=
 ztR i j hr (by rw [zfc,hm1];exact h1) (by rw [zfc,hm2];exact h2)
theorem zB (h:Q .normal (Fr ds n σ) w) (hr:Region.ready .any ops (lm N m)= []:=by kernel_rfl):zbq (ro:=ro) (ds:=ds) P ops Q C n N fuel m σ w:=zqS hr h
theorem zY {id:Nat} (N:Nat) (h:∀w2,Ext w w2→w.heap.size≤w2.heap.size→RT ops (zd0 ops) N→zbq (ro:=ro) (ds:=ds) P ops Q (Ext w2) n N N 0 σ w2) (hm:P.follows .mixedOrders=true:=by kernel_rfl) (hT:rtB ops (zd0 ops) N=true:=by kernel_rfl):wpC (ro:=ro) (ds:=ds) P (.region id ops true) Q n σ w:=
 zkM (Ext w.drew) N _ (fun hR=>h _ (Ext.drew w) (Ext.drew w).size hR) hm hT
theorem zbO {id:Nat} (S:Nat→Prop) (N:Nat) (h:∀w2,Ext w w2→w.heap.size≤w2.heap.size→RT ops (zd0 ops) N→zbq (ro:=ro) (ds:=ds) P ops Q (Chg S w2) n N N 0 σ w2) (hm:P.follows .mixedOrders=true:=by kernel_rfl) (hT:rtB ops (zd0 ops) N=true:=by kernel_rfl):wpC (ro:=ro) (ds:=ds) P (.region id ops true) Q n σ w:=
 zkM (Chg S w.drew) N _ (fun hR=>h _ (Ext.drew w) (Ext.drew w).size hR) hm hT
theorem zr [hq:NoPan Q] (hT:RT ops T N) (i:Nat) (v:Value) (hy:yld P ops C n σ i (dAt ops i) v)
  (h:zbq (ro:=ro) (ds:=ds) P ops Q C n N fuel (m ||| 2^i) (zak σ (dAt ops i) v) w) (hw:C w:=by exact Ext.refl _) (hc:zfK T m i=true:=by kernel_rfl):zbq (ro:=ro) (ds:=ds) P ops Q C n N (fuel+1) m σ w:=zqO hT i _ _ v hy h hw hc rfl
theorem zx [hq:NoPan Q] (hT:RT ops T N) (i b o:Nat) {v:Value} (hl:∀w',C w'→w'.cell? ⟨b,o,none⟩=some v)
  (h:zbq (ro:=ro) (ds:=ds) P ops Q C n N fuel (m ||| 2^i) (zak σ (dAt ops i) v) w) (hw:C w:=by exact Ext.refl _) (hc:zfK T m i=true:=by kernel_rfl) (ha:(P.underlying (zbH ops i)).map zcY=some false:=by kernel_rfl) (he:zbp ops n σ i=some (dAt ops i,vS (Instr.loadAt (zbH ops i) (vP b o))):=by kernel_rfl):zbq (ro:=ro) (ds:=ds) P ops Q C n N (fuel+1) m σ w:=
 zr hT i v (zai _ (fun w' hC=>zn7 (hl w' hC) ha) he) h hw hc
theorem zbj [hq:NoPan Q] (hT:RT ops T N) (i b o:Nat) {vs:List Value} (hl:∀w',C w'→At w' b o vs)
  (h:zbq (ro:=ro) (ds:=ds) P ops Q C n N fuel (m ||| 2^i) (zak σ (dAt ops i) (vA vs)) w) (hw:C w:=by exact Ext.refl _) (hc:zfK T m i=true:=by kernel_rfl) (hsz:(P.info? (zbH ops i)).map (·.size)=some vs.length:=by kernel_rfl) (ha:(P.underlying (zbH ops i)).map zcY=some true:=by kernel_rfl) (he:zbp ops n σ i=some (dAt ops i,vS (Instr.loadAt (zbH ops i) (vP b o))):=by kernel_rfl):zbq (ro:=ro) (ds:=ds) P ops Q C n N (fuel+1) m σ w:=
 zr hT i _ (zai _ (fun w' hC=>zfZ (hl w' hC) hsz ha) he) h hw hc
theorem zaq [hq:NoPan Q] (hT:RT ops T N) (i b o:Nat) {M:Nat} {vs:List Value} (hl:∀w',C w'→At w' b o vs) (hn:vs.length=M)
  (h:zbq (ro:=ro) (ds:=ds) P ops Q C n N fuel (m ||| 2^i) (zak σ (dAt ops i) (vA vs)) w) (hw:C w:=by exact Ext.refl _) (hc:zfK T m i=true:=by kernel_rfl) (hsz:(P.info? (zbH ops i)).map (·.size)=some M:=by kernel_rfl) (ha:(P.underlying (zbH ops i)).map zcY=some true:=by kernel_rfl) (he:zbp ops n σ i=some (dAt ops i,vS (Instr.loadAt (zbH ops i) (vP b o))):=by kernel_rfl):zbq (ro:=ro) (ds:=ds) P ops Q C n N (fuel+1) m σ w:=
 zr hT i _ (zai _ (fun w' hC=>zfZ (hl w' hC) (by rw [hn];exact hsz) ha) he) h hw hc
theorem zaD [hq:NoPan Q] (hT:RT ops T N) (i b o len cap j sz:Nat)
  (h:zbq (ro:=ro) (ds:=ds) P ops Q C n N fuel (m ||| 2^i) (zak σ (dAt ops i) (vP b (o+j*sz))) w) (hj:j<len:=by omega) (hw:C w:=by exact Ext.refl _) (hc:zfK T m i=true:=by kernel_rfl) (hE:P.underlying (zbH ops i)=some (.slice (elT P (zbH ops i))):=by kernel_rfl) (hsz:(P.info? (elT P (zbH ops i))).map (·.size)=some sz:=by kernel_rfl)
  (he:zbp ops n σ i=some (dAt ops i,vS (Instr.indexAt (zbH ops i) (.slice (some ⟨b,o,none⟩) len cap) (vI j))):=by kernel_rfl):zbq (ro:=ro) (ds:=ds) P ops Q C n N (fuel+1) m σ w:=
 zr hT i _ (zai _ (fun w' hC=>zlJ hj hE hsz) he) h hw hc
theorem zaP [hq:NoPan Q] (hT:RT ops T N) (i b o j M sz:Nat)
  (h:zbq (ro:=ro) (ds:=ds) P ops Q C n N fuel (m ||| 2^i) (zak σ (dAt ops i) (vP b (o+j*sz))) w) (hj:j<M:=by omega) (hw:C w:=by exact Ext.refl _) (hc:zfK T m i=true:=by kernel_rfl) (hE:P.underlying (zbH ops i)=some (.array M (elT P (zbH ops i))):=by kernel_rfl) (hsz:(P.info? (elT P (zbH ops i))).map (·.size)=some sz:=by kernel_rfl)
  (he:zbp ops n σ i=some (dAt ops i,vS (Instr.indexAt (zbH ops i) (vP b o) (vI j))):=by kernel_rfl):zbq (ro:=ro) (ds:=ds) P ops Q C n N (fuel+1) m σ w:=
 zr hT i _ (zai _ (fun w' hC=>za8 hj hE hsz) he) h hw hc
theorem ze [hq:NoPan Q] (hT:RT ops T N) (is:List (Nat×Nat×Value)) (k:Nat)
  (h:zbq (ro:=ro) (ds:=ds) P ops Q C n N fuel (zoL is m) (zn8 is σ) w) (hw:C w:=by exact Ext.refl _) (hr:∀w',zj7 P ops n T is m σ w'=zkj is w':=by intro _;kernel_rfl) (hk:is.length=k:=by kernel_rfl):zbq (ro:=ro) (ds:=ds) P ops Q C n N (fuel+k) m σ w:=
 zre hT is k _ h hw hr hk rfl
theorem zy (i:Nat) (h:zaA P ops n i σ w (fun τ w'=>(zcw .any ops i=true∨C w')∧zbq (ro:=ro) (ds:=ds) P ops Q C n N fuel (m ||| 2^i) τ w')) (hr:Region.ready .any ops (lm N m)= [i]:=by kernel_rfl):zbq (ro:=ro) (ds:=ds) P ops Q C n N (fuel+1) m σ w:=zrH i _ h rfl hr
theorem zbB (i j:Nat) (h1:zaA P ops n i σ w (fun τ w'=>(zcw .any ops i=true∨C w')∧zbq (ro:=ro) (ds:=ds) P ops Q C n N fuel (m ||| 2^i) τ w'))
  (h2:zaA P ops n j σ w (fun τ w'=>(zcw .any ops j=true∨C w')∧zbq (ro:=ro) (ds:=ds) P ops Q C n N fuel (m ||| 2^j) τ w')) (hr:Region.ready .any ops (lm N m)= [i,j]:=by kernel_rfl):zbq (ro:=ro) (ds:=ds) P ops Q C n N (fuel+1) m σ w:=zq2 i j _ _ h1 h2 rfl rfl hr
end
end Go.Cs
namespace Go.Cs
open Go Go.RowKit
def nv (k:IntKind) (n:Nat):Value:= .int k (n:Int)
def iv (k:IntKind) (n:Int):Value:= .int k n
def u8v (c:UInt8):Value:= .int .u8 (c.toNat:Int)
def gt (l:List Nat) (i:Nat):Nat:=l.getD i 0
def gz (l:List Int) (i:Nat):Int:=l.getD i 0
structure Es {α:Type} (f:α→Value) (lo hi:Nat) (w:World) (a:Option Addr) (len cap:Nat) (l:List α):Prop where
 sla:SlA lo hi w a len cap (l.map f)
 len_eq:len=l.length
section
variable {α:Type} {f:α→Value} {lo hi:Nat} {w w':World} {a:Option Addr} {len cap:Nat} {l:List α}
theorem Es.ext (h:Es f lo hi w a len cap l) (hc:Ext w w'):Es f lo hi w' a len cap l:=⟨h.sla.ext hc,h.len_eq⟩
theorem Es.chg {S:Nat→Prop} (h:Es f lo hi w a len cap l) (hc:Chg S w w') (hs:∀k,lo≤k→k<hi→¬S k:=by intro k h1 h2 hs;first |(have h:k=_:=hs;omega)|(rcases hs with hs | hs<;>omega)):Es f lo hi w' a len cap l:=⟨h.sla.chg hc hs,h.len_eq⟩
theorem Es.mono {lo' hi':Nat} (h:Es f lo hi w a len cap l) (h1:lo'≤lo) (h2:hi≤hi'):Es f lo' hi' w a len cap l:=⟨h.sla.mono h1 h2,h.len_eq⟩
theorem Es.nil (f:α→Value) (lo hi:Nat) (w:World):Es f lo hi w none 0 0 []:=⟨SlA.nil lo hi w,rfl⟩
theorem Es.le (h:Es f lo hi w a len cap l):len≤cap∧cap≤9223372036854775807:=by
 have:=h.sla.le;simpa [maxLen] using this
theorem Es.addr (h:Es f lo hi w a len cap l) (hp:0<len):∃b o,a=some ⟨b,o,none⟩:=
 h.sla.addr (by have:=h.len_eq;simp;omega)
theorem Es.of_blk {b:Nat} {cs:List Value} {e:TypeId} (h:Blk w b cs e) (hcs:cs=l.map f) (hl:len=l.length) (hc:len≤cap) (hm:cap≤maxLen) (h1:lo≤b) (h2:b<hi):Es f lo hi w (some ⟨b,0,none⟩) len cap l:=by
 subst hcs
 exact ⟨SlA.of_blk h hc hm h1 h2,hl⟩
theorem Es.cell {b o:Nat} (h:Es f lo hi w (some ⟨b,o,none⟩) len cap l) {i:Nat} {x:α} (hx:l[i]? =some x):w.cell? ⟨b,o+i*1,none⟩=some (f x):=by
 rw [Nat.mul_one]
 exact (h.sla.get (i:=i) (v:=f x) (by simp [hx])).2.2.2
theorem Es.celln {k:IntKind} {xs:List Nat} {b o:Nat} (h:Es (nv k) lo hi w (some ⟨b,o,none⟩) len cap xs) {i:Nat} (hi':i<len):w.cell? ⟨b,o+i*1,none⟩=some (.int k ((gt xs i:Nat):Int)):=by
 have h1:i<xs.length:=by have:=h.len_eq;omega
 rw [h.cell (x:=xs[i]) (by simp [h1])]
 simp [nv,gt,List.getD,h1]
theorem Es.celli {k:IntKind} {xs:List Int} {b o:Nat} (h:Es (iv k) lo hi w (some ⟨b,o,none⟩) len cap xs) {i:Nat} (hi':i<len):w.cell? ⟨b,o+i*1,none⟩=some (.int k (gz xs i)):=by
 have h1:i<xs.length:=by have:=h.len_eq;omega
 rw [h.cell (x:=xs[i]) (by simp [h1])]
 simp [iv,gz,List.getD,h1]
theorem Bs.es {l:List UInt8} (h:Bs lo hi w a len cap l):Es u8v lo hi w a len cap l:=⟨h.sla,h.len_eq⟩
theorem Es.bs {l:List UInt8} (h:Es u8v lo hi w a len cap l):Bs lo hi w a len cap l:=⟨h.sla,h.len_eq⟩
theorem Es.slice (h:Es f lo hi w a len cap l) (P:Program) (T E x r m:Nat) (xl xh mx:Option Value) (hl:bnd xl 0 x:=by first | exact .inl ⟨rfl,rfl⟩| exact .inr ⟨_,rfl⟩) (hh:bnd xh len r:=by first | exact .inl ⟨rfl,rfl⟩| exact .inr ⟨_,rfl⟩) (hm:bnd mx cap m:=by first | exact .inl ⟨rfl,rfl⟩| exact .inr ⟨_,rfl⟩) (hmh:mx=none∨xh≠none:=by simp) (h1:x≤r:=by omega) (h2:r≤m:=by omega) (h3:m≤cap:=by omega) (h4:r≤len:=by omega) (hT:P.underlying T=some (.slice E):=by kernel_rfl) (hsz:(P.info? E).map (·.size)=some 1:=by kernel_rfl):
  ∃a',(∀w',(Instr.sliceAt T (.slice a len cap) xl xh mx).run P w'= .ok (.slice a' (r-x) (m-x)) w')∧Es f lo hi w a' (r-x) (m-x) ((l.drop x).take (r-x)):=by
 refine ⟨_,fun w'=>zmj hT hsz hl hh hm hmh h1 h2 h3, ?_,by have:=h.len_eq;simp;omega⟩
 have:=h.sla.part 1 x r m h1 h2 h3 (by have:=h.len_eq;simp;omega) h4
 simpa [List.map_drop,List.map_take] using this
theorem Bs.slice {l:List UInt8} (h:Bs lo hi w a len cap l) (P:Program) (T E x r m:Nat) (xl xh mx:Option Value) (hl:bnd xl 0 x:=by first | exact .inl ⟨rfl,rfl⟩| exact .inr ⟨_,rfl⟩) (hh:bnd xh len r:=by first | exact .inl ⟨rfl,rfl⟩| exact .inr ⟨_,rfl⟩) (hm:bnd mx cap m:=by first | exact .inl ⟨rfl,rfl⟩| exact .inr ⟨_,rfl⟩) (hmh:mx=none∨xh≠none:=by simp) (h1:x≤r:=by omega) (h2:r≤m:=by omega) (h3:m≤cap:=by omega) (h4:r≤len:=by omega) (hT:P.underlying T=some (.slice E):=by kernel_rfl) (hsz:(P.info? E).map (·.size)=some 1:=by kernel_rfl):
  ∃a',(∀w',(Instr.sliceAt T (.slice a len cap) xl xh mx).run P w'= .ok (.slice a' (r-x) (m-x)) w')∧Bs lo hi w a' (r-x) (m-x) ((l.drop x).take (r-x)):=by
 obtain ⟨a',h5,h6⟩:=h.es.slice P T E x r m xl xh mx hl hh hm hmh h1 h2 h3 h4 hT hsz
 exact ⟨a',h5,h6.bs⟩
end
structure Ms {α:Type} (f:α→List Value) (sz lo hi:Nat) (w:World) (a:Option Addr) (len cap:Nat) (l:List α):Prop where
 sla:SlA lo hi w a len cap (l.flatMap f)
 len_eq:len=l.length
 each:∀x,(f x).length=sz
theorem zaC {α:Type} {f:α→List Value} {sz:Nat} (hf:∀x,(f x).length=sz):∀(l:List α),(l.flatMap f).length=l.length*sz
 | []=>by simp
 | x::l=>by simp only [List.flatMap_cons,List.length_append,List.length_cons,hf,zaC hf l];rw [Nat.add_mul,Nat.one_mul,Nat.add_comm]
theorem zee {α:Type} {f:α→List Value} {sz:Nat} (hf:∀x,(f x).length=sz):∀(l:List α) (i:Nat),(l.flatMap f).drop (i*sz)=(l.drop i).flatMap f
 | l,0=>by simp
 | [],i+1=>by simp
 | x::l,i+1=>by
  rw [List.flatMap_cons,List.drop_succ_cons,←zee hf l i,Nat.add_mul,Nat.one_mul,Nat.add_comm (i*sz),←List.drop_drop,List.drop_left' (hf x)]
theorem zgr {α:Type} {f:α→List Value} {sz:Nat} (hf:∀x,(f x).length=sz):∀(l:List α) (i:Nat),(l.flatMap f).take (i*sz)=(l.take i).flatMap f
 | l,0=>by simp
 | [],i+1=>by simp
 | x::l,i+1=>by
  rw [List.flatMap_cons,List.take_succ_cons,List.flatMap_cons,←zgr hf l i,Nat.add_mul,Nat.one_mul,Nat.add_comm (i*sz),List.take_append,hf x]
  rw [List.take_of_length_le (by rw [hf x];omega),Nat.add_sub_cancel_left]
section
variable {α:Type} {f:α→List Value} {sz lo hi:Nat} {w w':World} {a:Option Addr} {len cap:Nat} {l:List α}
theorem Ms.ext (h:Ms f sz lo hi w a len cap l) (hc:Ext w w'):Ms f sz lo hi w' a len cap l:=⟨h.sla.ext hc,h.len_eq,h.each⟩
theorem Ms.chg {S:Nat→Prop} (h:Ms f sz lo hi w a len cap l) (hc:Chg S w w') (hs:∀k,lo≤k→k<hi→¬S k:=by intro k h1 h2 hs;first |(have h:k=_:=hs;omega)|(rcases hs with hs | hs<;>omega)):Ms f sz lo hi w' a len cap l:=⟨h.sla.chg hc hs,h.len_eq,h.each⟩
theorem Ms.mono {lo' hi':Nat} (h:Ms f sz lo hi w a len cap l) (h1:lo'≤lo) (h2:hi≤hi'):Ms f sz lo' hi' w a len cap l:=⟨h.sla.mono h1 h2,h.len_eq,h.each⟩
theorem Ms.nil (f:α→List Value) (lo hi:Nat) (w:World) (hf:∀x,(f x).length=sz):Ms f sz lo hi w none 0 0 []:=⟨SlA.nil lo hi w,rfl,hf⟩
theorem Ms.now (h:Ms f sz lo hi w a len cap l):Ms f sz lo w.heap.size w a len cap l:=⟨h.sla.now,h.len_eq,h.each⟩
theorem Ms.le (h:Ms f sz lo hi w a len cap l):len≤cap∧cap≤9223372036854775807:=by
 have:=h.sla.le;simpa [maxLen] using this
theorem Ms.addr (h:Ms f sz lo hi w a len cap l) (hp:0<len) (hz:0<sz):∃b o,a=some ⟨b,o,none⟩:=
 h.sla.addr (by rw [zaC h.each];have:=h.len_eq;exact Nat.mul_pos (by omega) hz)
theorem Ms.of_pre {b:Nat} {e:TypeId} {r:List Value} (h:Blk w b (l.flatMap f++r) e) (hf:∀x,(f x).length=sz) (hl:len=l.length) (hc:len≤cap) (hm:cap≤maxLen) (h1:lo≤b) (h2:b<hi):Ms f sz lo hi w (some ⟨b,0,none⟩) len cap l:=
 ⟨⟨hc,hm, .inr ⟨rfl,h1,h2,h.lt,fun i v hv=>by
  have:=h.cell (i:=i) (v:=v) (by rw [List.getElem?_append_left (List.getElem?_eq_some_iff.1 hv).1];exact hv)
  simpa using this⟩⟩,hl,hf⟩
theorem Ms.at {b o:Nat} (h:Ms f sz lo hi w (some ⟨b,o,none⟩) len cap l) (d:α) {i:Nat} (hi:i<len):At w b (o+i*sz) (f (l.getD i d)):=by
 refine (h.sla.at).sub (i*sz) _ ?_
 have h1:i<l.length:=by have:=h.len_eq;omega
 rw [zee h.each,List.drop_eq_getElem_cons h1,List.flatMap_cons]
 simp [List.getD,h1]
theorem Ms.cell {b o:Nat} (h:Ms f sz lo hi w (some ⟨b,o,none⟩) len cap l) (d:α) {i j:Nat} {v:Value} (hi:i<len) (hv:(f (l.getD i d))[j]? =some v):w.cell? ⟨b,o+i*sz+j,none⟩=some v:=h.at d hi j v hv
end
theorem Ms.slice {α:Type} {f:α→List Value} {sz lo hi:Nat} {w:World} {a:Option Addr} {len cap:Nat} {l:List α} (h:Ms f sz lo hi w a len cap l) (P:Program) (T E x r m:Nat) (xl xh mx:Option Value) (hl:bnd xl 0 x:=by first | exact .inl ⟨rfl,rfl⟩| exact .inr ⟨_,rfl⟩) (hh:bnd xh len r:=by first | exact .inl ⟨rfl,rfl⟩| exact .inr ⟨_,rfl⟩) (hm:bnd mx cap m:=by first | exact .inl ⟨rfl,rfl⟩| exact .inr ⟨_,rfl⟩) (hmh:mx=none∨xh≠none:=by simp) (h1:x≤r:=by omega) (h2:r≤m:=by omega) (h3:m≤cap:=by omega) (h4:r≤len:=by omega) (hT:P.underlying T=some (.slice E):=by kernel_rfl) (hsz:(P.info? E).map (·.size)=some sz:=by kernel_rfl):
  ∃a',(∀w',(Instr.sliceAt T (.slice a len cap) xl xh mx).run P w'= .ok (.slice a' (r-x) (m-x)) w')∧Ms f sz lo hi w a' (r-x) (m-x) ((l.drop x).take (r-x)):=by
 refine ⟨_,fun w'=>zmj hT hsz hl hh hm hmh h1 h2 h3, ?_,by have:=h.len_eq;simp;omega,h.each⟩
 have:=h.sla.part sz x r m h1 h2 h3 (by rw [zaC h.each,h.len_eq]) h4
 rw [zee h.each,zgr h.each] at this
 exact this
theorem zfP (p r vs:List Value) (h:vs.length≤r.length):zZ (p++r) p.length vs=p++vs++r.drop vs.length:=by
 rw [zce _ _ _ (by simp;omega)]
 simp [List.drop_append]
theorem Es.of_pre {α:Type} {f:α→Value} {lo hi:Nat} {w:World} {len cap:Nat} {l:List α} {b:Nat} {e:TypeId} {r:List Value} (h:Blk w b (l.map f++r) e) (hl:len=l.length) (hc:len≤cap) (hm:cap≤maxLen) (h1:lo≤b) (h2:b<hi):Es f lo hi w (some ⟨b,0,none⟩) len cap l:=
 ⟨⟨hc,hm, .inr ⟨rfl,h1,h2,h.lt,fun i v hv=>by
  have:=h.cell (i:=i) (v:=v) (by rw [List.getElem?_append_left (List.getElem?_eq_some_iff.1 hv).1];exact hv)
  simpa using this⟩⟩,hl⟩
def zhQ (p:Nat×Nat):List Value:= [.int .i64 (p.1:Int), .int .i64 (p.2:Int)]
def b2C (x:UInt8×UInt8):List Value:= [.int .u8 ((x.1.toNat:Nat):Int), .int .u8 ((x.2.toNat:Nat):Int)]
@[simp] theorem zj9 (x:UInt8×UInt8):(b2C x).length=2:=rfl
def zeb (a:Option Addr) (k:Nat):Prop:=∃ad,a=some ad∧ad.block=k
theorem zav {k:Nat}:¬zeb none k:=by rintro ⟨ad,h,_⟩;cases h
structure Own {α:Type} (f:α→Value) (lo hi:Nat) (w:World) (a:Option Addr) (len cap:Nat) (e:TypeId) (l:List α):Prop where
 row:w.ownsRow lo e 1 (.slice a len cap) len (l.map f)
 len_eq:len=l.length
 below:∀ad,a=some ad→ad.block<hi
section
variable {α:Type} {f:α→Value} {lo hi:Nat} {w w':World} {a:Option Addr} {len cap:Nat} {e:TypeId} {l:List α}
theorem Own.nil (f:α→Value) (lo hi:Nat) (w:World) (e:TypeId):Own f lo hi w none 0 0 e []:=⟨by simpa using World.ownsRow_nil w lo e 1,rfl,by intro ad h;cases h⟩
theorem Own.ne {k:Nat} (h:Own f lo hi w a len cap e l) (hk:zeb a k):lo≤k∧k<hi:=by
 obtain ⟨ad,rfl,rfl⟩:=hk
 refine ⟨?_,h.below ad rfl⟩
 have:=h.row.lt ad.block rfl
 exact this.1
theorem Own.blk (h:Own f lo hi w a len cap e l):(a=none∧len=0∧cap=0)∨∃b cs,a=some ⟨b,0,none⟩∧Blk w b cs e∧lo≤b∧b<hi∧len≤cap∧cap≤maxLen∧cs.length=cap∧cs.take len=l.map f:=by
 rcases h.row.2 with ⟨h1,h2⟩|⟨g,c,cur,h1,h2,h3,h4,h5,h6,h7⟩
 ·cases h1;exact .inl ⟨rfl,rfl,rfl⟩
 ·cases h1
  refine .inr ⟨g,cur.toList,rfl,by simpa [Blk] using h3,h2,h.below _ rfl,h4,h5,by simpa using h6,by simpa using h7⟩
theorem Own.chg {S:Nat→Prop} (h:Own f lo hi w a len cap e l) (hc:Chg S w w') (hs:∀k,lo≤k→k<hi→¬S k:=by intro k h1 h2 hs;first |(have h:k=_:=hs;omega)|(rcases hs with hs | hs<;>omega)):Own f lo hi w' a len cap e l:=by
 refine ⟨⟨h.row.1, ?_⟩,h.len_eq,h.below⟩
 rcases h.row.2 with h1 |⟨g,c,cur,h1,h2,h3,h4⟩
 ·exact .inl h1
 ·cases h1
  have hlt:g<w.heap.size:=(Array.getElem?_eq_some_iff.1 h3).1
  exact .inr ⟨g,cap,cur,rfl,h2,by rw [hc.block g hlt (hs g h2 (h.below _ rfl))];exact h3,h4⟩
theorem Own.ext (h:Own f lo hi w a len cap e l) (hc:Ext w w'):Own f lo hi w' a len cap e l:=h.chg hc (fun _ _ _ hf=>hf)
theorem Own.mono {lo' hi':Nat} (h:Own f lo hi w a len cap e l) (h1:lo'≤lo) (h2:hi≤hi'):Own f lo' hi' w a len cap e l:=by
 refine ⟨⟨h.row.1, ?_⟩,h.len_eq,fun ad ha=>Nat.lt_of_lt_of_le (h.below ad ha) h2⟩
 rcases h.row.2 with h3 |⟨g,c,cur,h3,h4,h5⟩
 ·exact .inl h3
 ·exact .inr ⟨g,c,cur,h3,by omega,h5⟩
theorem Own.es (h:Own f lo hi w a len cap e l):Es f lo hi w a len cap l:=by
 refine ⟨?_,h.len_eq⟩
 rcases h.blk with ⟨rfl,rfl,rfl⟩|⟨b,cs,rfl,hB,h1,h2,h3,h4,h5,h6⟩
 ·have:l= []:=List.eq_nil_of_length_eq_zero h.len_eq.symm
  subst this
  exact SlA.nil _ _ _
 ·refine ⟨h3,h4, .inr ⟨rfl,h1,h2,hB.lt,fun i v hv=> ?_⟩⟩
  rw [←h6,List.getElem?_take] at hv
  split at hv
  ·simpa using hB.cell hv
  ·cases hv
theorem Own.bs {l:List UInt8} (h:Own u8v lo hi w a len cap e l):Bs lo hi w a len cap l:=h.es.bs
theorem Own.of_blk {b:Nat} {cs:List Value} (h:Blk w b cs e) (hcs:cs.length=cap) (hl:cs.take len=l.map f) (hn:len=l.length) (hc:len≤cap) (hm:cap≤maxLen) (h1:lo≤b) (h2:b<hi):Own f lo hi w (some ⟨b,0,none⟩) len cap e l:=
 ⟨⟨by simp [hn], .inr ⟨b,cap,cs.toArray,rfl,h1,h,hc,hm,by simp [hcs],by simpa using hl⟩⟩,hn,by intro ad ha;cases ha;exact h2⟩
theorem Own.now (h:Own f lo hi w a len cap e l):Own f lo w.heap.size w a len cap e l:=
 ⟨h.row,h.len_eq,by rintro ad rfl;exact (h.row.lt ad.block rfl).2⟩
theorem Ext.ownS {S:Nat→Prop} {u w w':World} (h:Ext u w) (g:Chg S w w') (hs:∀k,S k→k<u.heap.size→False):Ext u w':=
 Chg.then h g (fun k hk h2=>hs k h2 hk)
end
theorem Chg.of_grown {w w':World} {a:Option Addr} {len cap:Nat} (h:w.grownBy w' (Value.ownBlock (.slice a len cap))):Chg (zeb a) w w':=by
 refine ⟨h.os,h.tape,h.output,h.size,fun k hk hs=>h.block k hk ?_⟩
 intro e
 cases a with
 | none=>simp [Value.ownBlock] at e
 | some ad=>simp [Value.ownBlock] at e;exact hs ⟨ad,rfl,e.symm⟩
section
variable {P:Program} {n k:Nat} {σ:List (Nat×Value)} {w:World} {ops:Array Oper} {K:List (Nat×Value)→World→Prop} {d:Option Tmp}
theorem zbr {α:Type} {f:α→Value} {lo hi lo2 hi2:Nat} {l m:List α} (d:Option Tmp) (T ty E bys:Nat) (z:Value) {a:Option Addr} {len cap:Nat} {a2:Option Addr} {len2 cap2:Nat}
  (hO:Own f lo hi w a len cap E l) (hS:Es f lo2 hi2 w a2 len2 cap2 m) (h1:∀x,(f x).oneCell'=true)
  (h:∀a' cap' w',Own f lo w'.heap.size w' a' (len+len2) cap' E (l++m)→Chg (zeb a) w w'→K (zak σ d (.slice a' (len+len2) cap')) w')
  (h63:len+len2≤maxLen:=by simp only [maxLen];omega) (hb:(len+len2)*bys≤140737488355328:=by omega) (hbase:lo≤w.heap.size:=by omega)
  (hz:z.cells.size=1:=by rfl) (hT:P.underlying T=some (.slice E):=by kernel_rfl)
  (hE:(P.info? E).map (fun i=>(i.zero,i.size,i.bytes))=some (some z,1,bys):=by kernel_rfl)
  (he:zbp ops n σ k=some (d,vS (Builtin.append_ #[T,T] ty #[.slice a len cap, .slice a2 len2 cap2])):=by kernel_rfl):zaA P ops n k σ w K:=by
 obtain ⟨i,hi,hz1,hz2,hz3⟩:=info_parts hE
 have shape:∀(v':Value) (w':World),w'.ownsRow lo E 1 v' (len+len2) ((l++m).map f)→w.grownBy w' (Value.ownBlock (.slice a len cap))→∃a' cap',v'= .slice a' (len+len2) cap'∧Own f lo w'.heap.size w' a' (len+len2) cap' E (l++m):=by
  intro v' w' hr _
  have hn:len+len2=(l++m).length:=by rw [List.length_append,hO.len_eq,hS.len_eq]
  rcases hr.2 with ⟨h1,h2⟩|⟨g,c,cur,h1,h2,h3,h4⟩
  ·rw [h2] at hr hn⊢
   exact ⟨none,0,h1,by subst h1;exact hr,hn,by intro ad hx;cases hx⟩
  ·exact ⟨_,c,h1,by subst h1;exact hr,hn,by intro ad hx;cases hx;exact (Array.getElem?_eq_some_iff.1 h3).1⟩
 cases a2 with
 | none=>
  obtain ⟨h2,h3,h4⟩:=hS.sla
  have hm:m= []:=by simpa using h4
  subst hm
  subst h2
  subst h3
  have hr:=run_append_owned_none (P:=P) w lo T ty E i 1 hT hi _ len _ hO.row
  have hO':Own f lo w.heap.size w a (len+0) cap E (l++ []):=by rw [List.append_nil];exact hO.now
  exact zbG d _ _ hr (h a cap w hO' (Chg.refl _ _)) he
 | some ad=>
  obtain ⟨v',w',hr,h5,h6,_⟩:=run_append_own (P:=P) w lo T ty E i z 1 bys hT hi hz1 hz2 hz3 hz (by omega) _ len _ hO.row ad len2 cap2 (m.map f) (by simp [hS.len_eq]) (fun j u hu=>hS.sla.load_add hu) (by
   intro u hu
   obtain ⟨x,_,rfl⟩:=List.mem_map.1 hu
   exact h1 x) h63 hb hbase
  rw [←List.map_append] at h5
  obtain ⟨a',cap',rfl,h7⟩:=shape v' w' h5 h6
  exact zbG d _ _ hr (h a' cap' w' h7 (Chg.of_grown h6)) he
theorem zdn {lo hi e:Nat} {cs news:List Value} (d:Option Tmp) (T ty E sz b n₀ cap:Nat) (ad:Addr) (len2 cap2:Nat)
  (hB:Blk w b cs e) (hS:SlA lo hi w (some ad) len2 cap2 news) (hn:news.length=len2*sz) (h1:∀u∈news,u.oneCell'=true) (hfit:(n₀+len2)*sz≤cs.length)
  (h:∀w',Blk w' b (zZ cs (n₀*sz) news) e→Chg (· =b) w w'→K (zak σ d (.slice (some ⟨b,0,none⟩) (n₀+len2) cap)) w')
  (hroom:n₀+len2≤cap:=by omega) (hT:P.underlying T=some (.slice E):=by kernel_rfl) (hE:(P.info? E).map (·.size)=some sz:=by kernel_rfl)
  (he:zbp ops n σ k=some (d,vS (Builtin.append_ #[T,T] ty #[.slice (some ⟨b,0,none⟩) n₀ cap, .slice (some ad) len2 cap2])):=by kernel_rfl):zaA P ops n k σ w K:=by
 obtain ⟨i,hi,rfl⟩:=Option.map_eq_some_iff.1 hE
 obtain ⟨w',h4,h5,h6⟩:=zcK (P:=P) news w b (n₀*i.size) 0 cs e hB (by rw [hn,Nat.add_zero,←Nat.add_mul];exact hfit) h1
 have hfc:=run_firstCells_some (P:=P) w i.size len2 ad len2 cap2 news hn (fun j u hu=>hS.load_add hu)
 refine zbG d _ _ (w':=w') ?_ (h w' (by simpa using h5) h6) he
 simp [Builtin.append_,run_underlying hT,sizeOf,typeInfo,hi,Builtin.lenOf,hroom,hfc,Addr.add_lit,h4]
end
theorem zv (cs vs:List Value) (h:vs.length=cs.length):zZ cs 0 vs=vs:=by
 rw [zce _ _ _ (by omega)]
 simp [h]
theorem zmt (x y:Nat):(if (y:Int)<(x:Int) then (y:Int) else (x:Int))=((min x y:Nat):Int):=by
 split<;>omega
theorem Blk.slice {w:World} {b:Nat} {cs:List Value} {e:TypeId} {len cap:Nat} (_h:Blk w b cs e) (P:Program) (T E x r m:Nat) (xl xh mx:Option Value) (hl:bnd xl 0 x:=by first | exact .inl ⟨rfl,rfl⟩| exact .inr ⟨_,rfl⟩) (hh:bnd xh len r:=by first | exact .inl ⟨rfl,rfl⟩| exact .inr ⟨_,rfl⟩) (hm:bnd mx cap m:=by first | exact .inl ⟨rfl,rfl⟩| exact .inr ⟨_,rfl⟩) (hmh:mx=none∨xh≠none:=by simp) (h1:x≤r:=by omega) (h2:r≤m:=by omega) (h3:m≤cap:=by omega) (hT:P.underlying T=some (.slice E):=by kernel_rfl) (hsz:(P.info? E).map (·.size)=some 1:=by kernel_rfl):
  ∃a',(∀w',(Instr.sliceAt T (.slice (some ⟨b,0,none⟩) len cap) xl xh mx).run P w'= .ok (.slice a' (r-x) (m-x)) w')∧(x<r→a'=some ⟨b,x,none⟩):=by
 refine ⟨_,fun w'=>zmj hT hsz hl hh hm hmh h1 h2 h3,fun hlt=> ?_⟩
 rw [if_neg (by omega)]
 simp [Addr.add_lit]
theorem zj3 {P:Program} {w:World} {α:Type} {f:α→Value} {lo hi len cap:Nat} {a:Option Addr} {l:List α} (hS:Es f lo hi w a len cap l) (n:Nat) (hn:n≤len):
  (Builtin.firstCells 1 n (.slice a len cap)).run P w= .ok ((l.take n).map f).toArray w:=by
 cases a with
 | none=>
  obtain ⟨h1,_,h3⟩:=hS.sla
  have:l= []:=by simpa using h3
  subst this
  simp [Builtin.firstCells]
 | some ad=>
  have h2:=run_loadCells_list (P:=P) w ad ((l.take n).map f) (fun j v hj=>by
   refine hS.sla.load_add (i:=j) (v:=v) ?_
   rw [List.map_take,List.getElem?_take] at hj
   split at hj
   ·exact hj
   ·cases hj)
  have h3:((l.take n).map f).length=n:=by have:=hS.len_eq;simp;omega
  rw [h3] at h2
  simpa [Builtin.firstCells] using h2
section
variable {P:Program} {n k:Nat} {σ:List (Nat×Value)} {w:World} {ops:Array Oper} {K:List (Nat×Value)→World→Prop} {d:Option Tmp}
theorem ziy {α:Type} {f:α→Value} {lo hi:Nat} {l:List α} {cs:List Value} {e:TypeId} (d:Option Tmp) (T T2 ty E b o:Nat) {a:Option Addr} {dl dc:Nat} {a2:Option Addr} {sl sc:Nat}
  (hB:Blk w b cs e) (ha:0<min sl dl→a=some ⟨b,o,none⟩) (hfit:o+min sl dl≤cs.length) (hS:Es f lo hi w a2 sl sc l) (h1:∀x,(f x).oneCell'=true)
  (h:∀w',Blk w' b (zZ cs o ((l.take (min sl dl)).map f)) e→Chg (· =b) w w'→K (zak σ d (.int .i64 ((min sl dl:Nat):Int))) w')
  (hT:P.underlying T=some (.slice E):=by kernel_rfl) (hE:(P.info? E).map (·.size)=some 1:=by kernel_rfl)
  (he:zbp ops n σ k=some (d,vS (Builtin.copy_ #[T,T2] ty #[.slice a dl dc, .slice a2 sl sc])):=by kernel_rfl):zaA P ops n k σ w K:=by
 have h2:=zbA (w:=w) hE
 have h3:=zj3 (P:=P) hS (min sl dl) (Nat.min_le_left _ _)
 have hlen:((l.take (min sl dl)).map f).length=min sl dl:=by have:=hS.len_eq;simp;omega
 by_cases h0:0<min sl dl
 ·have ha':=ha h0
  subst ha'
  obtain ⟨w',h4,h5,h6⟩:=zcK (P:=P) ((l.take (min sl dl)).map f) w b o 0 cs e hB (by rw [hlen];simpa using hfit) (by
   intro u hu
   obtain ⟨x,_,rfl⟩:=List.mem_map.1 hu
   exact h1 x)
  refine zbG d _ _ (w':=w') ?_ (h w' (by simpa using h5) h6) he
  simp only [Nat.min_def] at*
  simp_all [Builtin.copy_,run_underlying hT,Builtin.lenOf,goInt,Nat.min_def]
 ·have h00:min sl dl=0:=by omega
  have hnil:(l.take (min sl dl)).map f= []:=by rw [h00];simp
  refine zbG d _ _ (w':=w) ?_ (h w (by rw [hnil];exact hB) (Chg.refl _ _)) he
  have h3':(Builtin.firstCells 1 (Nat.min sl dl) (.slice a2 sl sc)).run P w= .ok #[] w:=by
   rw [hnil] at h3
   exact h3
  cases a with
  | none=>
   simp [Builtin.copy_,run_underlying hT,h2,Builtin.lenOf,goInt,h3']
  | some ad=>
   simp [Builtin.copy_,run_underlying hT,h2,Builtin.lenOf,goInt,h3',storeCells]
end
theorem znH {P:Program} {w:World} {T:TypeId} {ox oy:Operand} {kk yk:IntKind} {a s:Nat} (hk:kk.signed=false) (hs:s≤kk.bits):(do eqGuard .shl T ox oy (.int kk (a:Int)) (.int yk (s:Int));binOp .shl T (.int kk (a:Int)) (.int yk (s:Int)):Sem Value).run P w= .ok (.int kk ((a*2^s%2^kk.bits:Nat):Int)) w:=by
 have h1:¬((s:Int)<0):=by omega
 have h2:min s kk.bits=s:=by omega
 simp only [eqGuard,binOp,Op.shift,h1,if_false,Int.toNat_natCast,h2,zuS hk]
 simp
def zde (lo hi:Nat) (w:World) (v:Value) (l:List UInt8):Prop:=∃a n c,v= .slice a n c∧Bs lo hi w a n c l
theorem zde.of {lo hi lo' hi':Nat} {w:World} {a:Option Addr} {n c:Nat} {l:List UInt8} (h:Bs lo' hi' w a n c l) (h1:lo≤lo') (h2:hi'≤hi):zde lo hi w (.slice a n c) l:=⟨a,n,c,rfl,h.mono h1 h2⟩
theorem zde.nil (lo hi:Nat) (w:World):zde lo hi w (.slice none 0 0) []:=⟨none,0,0,rfl,Bs.nil _ _ _⟩
theorem zde.chg {S:Nat→Prop} {lo hi:Nat} {w w':World} {v:Value} {l:List UInt8} (h:zde lo hi w v l) (hc:Chg S w w') (hs:∀k,lo≤k→k<hi→¬S k):zde lo hi w' v l:=by
 obtain ⟨a,n,c,h1,h2⟩:=h
 exact ⟨a,n,c,h1,h2.chg hc hs⟩
def zbg (lo hi:Nat) (w:World):List Value→List (List UInt8)→Prop
 | [], []=>True
 | v::vs,l::ls=>zde lo hi w v l∧zbg lo hi w vs ls
 | _,_=>False
theorem zbg.nil {lo hi:Nat} {w:World}:zbg lo hi w [] []:=trivial
theorem zbg.cons {lo hi:Nat} {w:World} {v:Value} {l:List UInt8} {vs:List Value} {ls:List (List UInt8)} (h:zde lo hi w v l) (g:zbg lo hi w vs ls):zbg lo hi w (v::vs) (l::ls):=⟨h,g⟩
theorem zbg.length {lo hi:Nat} {w:World}:∀{vs:List Value} {ls:List (List UInt8)},zbg lo hi w vs ls→vs.length=ls.length
 | [], [],_=>rfl
 | _::_,_::_,h=>by simpa using zbg.length h.2
theorem zbg.chg {S:Nat→Prop} {lo hi:Nat} {w w':World} (hc:Chg S w w') (hs:∀k,lo≤k→k<hi→¬S k):∀{vs:List Value} {ls:List (List UInt8)},zbg lo hi w vs ls→zbg lo hi w' vs ls
 | [], [],_=>trivial
 | _::_,_::_,h=>⟨h.1.chg hc hs,zbg.chg hc hs h.2⟩
theorem zbg.get {lo hi:Nat} {w:World}:∀{vs:List Value} {ls:List (List UInt8)},zbg lo hi w vs ls→∀(i:Nat),i<ls.length→∃a n c,vs[i]? =some (.slice a n c)∧Bs lo hi w a n c (ls.getD i [])
 | [], [],_,i,hi=>by simp at hi
 | _::_,_::_,h,i,hi=>by
  cases i with
  | zero=>
   obtain ⟨a,n,c,rfl,h3⟩:=h.1
   exact ⟨a,n,c,rfl,by simpa using h3⟩
  | succ i=>simpa using zbg.get h.2 i (by simpa using hi)
structure Ps (lo hi:Nat) (w:World) (a:Option Addr) (len cap:Nat) (vs:List Value) (ls:List (List UInt8)):Prop where
 sla:SlA lo hi w a len cap vs
 len_eq:len=ls.length
 parts:zbg lo hi w vs ls
section
variable {lo hi:Nat} {w w':World} {a:Option Addr} {len cap:Nat} {vs:List Value} {ls:List (List UInt8)}
theorem Ps.chg {S:Nat→Prop} (h:Ps lo hi w a len cap vs ls) (hc:Chg S w w') (hs:∀k,lo≤k→k<hi→¬S k:=by intro k h1 h2 hs;first |(have h:k=_:=hs;omega)|(rcases hs with hs | hs<;>omega)):Ps lo hi w' a len cap vs ls:=⟨h.sla.chg hc hs,h.len_eq,zbg.chg hc hs h.parts⟩
theorem Ps.ext (h:Ps lo hi w a len cap vs ls) (hc:Ext w w'):Ps lo hi w' a len cap vs ls:=h.chg hc (fun _ _ _ hf=>hf)
theorem Ps.le (h:Ps lo hi w a len cap vs ls):len≤cap∧cap≤9223372036854775807:=by
 have:=h.sla.le;simpa [maxLen] using this
theorem Ps.nil (lo hi:Nat) (w:World):Ps lo hi w none 0 0 [] []:=⟨SlA.nil lo hi w,rfl, .nil⟩
theorem Ps.of_blk {b:Nat} {e:TypeId} (h:Blk w b vs e) (hc:len≤cap) (hm:cap≤maxLen) (h1:lo≤b) (h2:b<hi) (hp:zbg lo hi w vs ls) (hl:len=ls.length:=by rfl):Ps lo hi w (some ⟨b,0,none⟩) len cap vs ls:=
 ⟨SlA.of_blk h hc hm h1 h2,hl,hp⟩
theorem Ps.addr (h:Ps lo hi w a len cap vs ls) (hp:0<len):∃b o,a=some ⟨b,o,none⟩:=
 h.sla.addr (by have:=h.len_eq;have:=zbg.length h.parts;omega)
theorem Ps.cell {b o:Nat} (h:Ps lo hi w (some ⟨b,o,none⟩) len cap vs ls) {i:Nat} (hi':i<len):∃a' n c,w.cell? ⟨b,o+i*1,none⟩=some (.slice a' n c)∧Bs lo hi w a' n c (ls.getD i []):=by
 obtain ⟨a',n,c,h1,h2⟩:=h.parts.get i (by have:=h.len_eq;omega)
 exact ⟨a',n,c,by rw [Nat.mul_one];exact (h.sla.get h1).2.2.2,h2⟩
end
theorem Bs.now {lo hi:Nat} {w:World} {a:Option Addr} {len cap:Nat} {l:List UInt8} (h:Bs lo hi w a len cap l):Bs lo w.heap.size w a len cap l:=⟨h.sla.now,h.len_eq⟩
theorem Es.now {α:Type} {f:α→Value} {lo hi:Nat} {w:World} {a:Option Addr} {len cap:Nat} {l:List α} (h:Es f lo hi w a len cap l):Es f lo w.heap.size w a len cap l:=⟨h.sla.now,h.len_eq⟩
theorem zbg.now {lo hi:Nat} {w:World}:∀{vs:List Value} {ls:List (List UInt8)},zbg lo hi w vs ls→zbg lo w.heap.size w vs ls
 | [], [],_=>trivial
 | _::_,_::_,⟨⟨a,n,c,e,h⟩,h2⟩=>⟨⟨a,n,c,e,h.now⟩,zbg.now h2⟩
theorem Ps.now {lo hi:Nat} {w:World} {a:Option Addr} {len cap:Nat} {vs:List Value} {ls:List (List UInt8)} (h:Ps lo hi w a len cap vs ls):Ps lo w.heap.size w a len cap vs ls:=⟨h.sla.now,h.len_eq,zbg.now h.parts⟩
theorem zde.at {lo hi:Nat} {w:World} {a:Option Addr} {n c:Nat} {l:List UInt8} (h:Bs lo hi w a n c l):zde 0 w.heap.size w (.slice a n c) l:=⟨a,n,c,rfl,h.now.mono (Nat.zero_le _) (Nat.le_refl _)⟩
theorem Ps.of_new {w:World} {b n:Nat} {e:TypeId} {vs:List Value} {ls:List (List UInt8)} (h:Blk w b vs e) (hl:n=ls.length) (hm:n≤maxLen) (hp:zbg 0 w.heap.size w vs ls):Ps 0 w.heap.size w (some ⟨b,0,none⟩) n n vs ls:=
 ⟨SlA.of_blk h (Nat.le_refl _) hm (Nat.zero_le _) h.lt,hl,hp⟩
theorem zcI {n:Nat} (h:n≤1099511627776):n≤maxLen:=by simp only [maxLen];omega
def zvt {ds:List Deferred} {X:Type} (live:X→List (Nat×Value)) (dead:List Nat) (n:Nat) (σ:List (Nat×Value)) (I:X→World→Prop) (a:Act) (w':World):Prop:=
 ∃(x':X) (d':Nat→Value),a=Fr ds n (live x'++(dead.map fun s=>(s,d' s))++σ)∧I x' w'
theorem zbI {ds:List Deferred} {X:Type} {live:X→List (Nat×Value)} {dead:List Nat} {n:Nat} {σ τ:List (Nat×Value)} {I:X→World→Prop} {w':World} (x':X)
  (hI:I x' w') (hs:τ.drop (τ.length-σ.length)=σ:=by kernel_rfl) (hk:zjq (τ.take (τ.length-σ.length)) (live x') dead=true:=by kernel_rfl) (hv:((live x').map fun p=>lk τ p.1)=(live x').map Prod.snd:=by kernel_rfl):zvt (ds:=ds) live dead n σ I (Fr ds n τ) w':=
 ⟨x',lk τ,zjh (zjo hs hk hv),hI⟩
theorem zeU {ro:Option Nat} {ds:List Deferred} {P:Program} {Q:Exit→Act→World→Prop} {n:Nat} {σ:List (Nat×Value)} {w:World} {X:Type} {x y:Code} (live:X→List (Nat×Value)) (dead:List Nat) (I:X→World→Prop)
  (hx:wpC (ro:=ro) (ds:=ds) P x (Exit.then (zvt (ds:=ds) live dead n σ I) Q) n σ w) (hy:∀(x':X) (d:Nat→Value) (w':World),I x' w'→wpC (ro:=ro) (ds:=ds) P y Q n (live x'++(dead.map fun s=>(s,d s))++σ) w'):wpC (ro:=ro) (ds:=ds) P (.seq x y) Q n σ w:=by
 refine zd (wpIn_mono hx ?_)
 intro e a w' hq
 cases e with
 | normal=>
  obtain ⟨x',d,rfl,hI⟩:=hq
  exact hy x' d w' hI
 | exit id=>exact hq
 | goto l=>exact hq
 | ret=>exact hq
 | panic ch=>exact hq
 | outgrown=>exact hq
end Go.Cs
namespace Go.Cs
open Go Go.RowKit
def zdj (sz:Nat) (P:Nat→Bool) (g:Nat→UInt8):List UInt8:=(List.range sz).map fun j=>if P j then g j else 0
@[simp] theorem zvY (sz:Nat) (P:Nat→Bool) (g:Nat→UInt8):(zdj sz P g).length=sz:=by simp [zdj]
theorem zhR (sz:Nat) (P:Nat→Bool) (g:Nat→UInt8) (h:∀j,j<sz→P j=false):zdj sz P g=List.replicate sz 0:=by
 apply List.ext_getElem
 ·simp
 ·intro j h1 h2
  simp at h1
  simp [zdj,h j h1]
theorem ziR (sz:Nat) (P Q:Nat→Bool) (g:Nat→UInt8) (i:Nat) (x:UInt8) (hi:i<sz) (hx:x=g i) (hq:∀j,j<sz→Q j=(P j || j==i)):(u8s (zdj sz P g)).set i (.int .u8 (x.toNat:Int))=u8s (zdj sz Q g):=by
 subst hx
 apply List.ext_getElem
 ·simp
 ·intro j h1 h2
  simp at h1
  rw [List.getElem_set]
  by_cases hij:i=j
  ·subst hij;simp [u8s,zdj,hq i hi]
  ·have:(j==i)=false:=by simp;omega
   simp [hij,u8s,zdj,hq j h1,this]
theorem ziZ (sz:Nat) (P:Nat→Bool) (g:Nat→UInt8) (h:∀j,j<sz→P j=true):zdj sz P g=(List.range sz).map g:=by
 apply List.ext_getElem
 ·simp
 ·intro j h1 h2
  simp at h1
  simp [zdj,h j h1]
def be (v sz:Nat):List UInt8:=(List.range sz).map fun j=>UInt8.ofNat (v/256^(sz-1-j))
@[simp] theorem ze3 (v sz:Nat):(be v sz).length=sz:=by simp [be]
theorem zfA (n:Nat):List.replicate n (Value.int .u8 0)=u8s (List.replicate n 0):=by simp [u8s]
theorem zh2 (i:Nat):2^(8*i)=256^i:=by rw [Nat.pow_mul]
def zbP (l:List UInt8):Nat:=l.foldl (fun v c=>v*256+c.toNat) 0
theorem zid (l:List UInt8) (c:UInt8):zbP (l++ [c])=zbP l*256+c.toNat:=by simp [zbP]
theorem zm0:∀(l:List UInt8) (a:Nat),l.foldl (fun v c=>v*256+c.toNat) a<(a+1)*256^l.length:=by
 intro l
 induction l with
 | nil=>intro a;simp
 | cons c l ih=>
  intro a
  have h1:=ih (a*256+c.toNat)
  have h2:=c.toNat_lt
  have h3:(a*256+c.toNat+1)*256^l.length≤((a+1)*256)*256^l.length:=Nat.mul_le_mul_right _ (by omega)
  simp only [List.foldl_cons,List.length_cons,Nat.pow_succ]
  rw [Nat.mul_comm (256^l.length) 256,←Nat.mul_assoc]
  omega
theorem znF (l:List UInt8):zbP l<256^l.length:=by simpa [zbP] using zm0 l 0
theorem zh9 {l:List UInt8} {i:Nat} (h:i<l.length):zbP (l.take (i+1))=zbP (l.take i)*256+byt l i:=by
 rw [List.take_succ_eq_append_getElem h,zid,zjF h]
theorem zhV {l:List UInt8} {i:Nat} (h:i<8):zbP (l.take i)*256+255<2^64:=by
 have h1:=znF (l.take i)
 have h2:(l.take i).length≤i:=by simp;omega
 have h3:256^(l.take i).length≤256^i:=Nat.pow_le_pow_right (by omega) h2
 have h4:256^i≤256^7:=Nat.pow_le_pow_right (by omega) (by omega)
 omega
theorem zue (a b:Nat) (h:b<256):a*256 ||| b=a*256+b:=by
 have:=Nat.two_pow_add_eq_or_of_lt (i:=8) (b:=b) (by simpa using h) a
 rw [show (2:Nat)^8=256 from rfl,Nat.mul_comm 256 a] at this
 exact this.symm
theorem zlF (n:Nat):UInt8.ofNat (n%256)=UInt8.ofNat n:=by
 apply UInt8.toNat_inj.1
 simp
def za6 (l:List UInt8) (sz:Nat):Nat:=if l.length=sz then zbP l else 0
def zcU (l:List UInt8) (sz:Nat):Nat:=if l.length<sz then 6 else if l.length>sz then 5 else 0
theorem zik {l:List UInt8} {sz:Nat} (h:l.length≠sz):za6 l sz=0:=by simp [za6,h]
theorem zg8 {l:List UInt8} {sz:Nat} (h:l.length=sz):za6 l sz=zbP l:=by simp [za6,h]
theorem zjG {l:List UInt8} {sz:Nat} (h:l.length<sz):zcU l sz=6:=by simp [zcU,h]
theorem zkz {l:List UInt8} {sz:Nat} (h:l.length>sz):zcU l sz=5:=by
 have:¬l.length<sz:=by omega
 simp [zcU,h,this]
theorem ziz {l:List UInt8} {sz:Nat} (h:l.length=sz):zcU l sz=0:=by simp [zcU,h]
theorem zd2 (l:List UInt8) (sz:Nat):za6 l sz<2^(8*sz):=by
 unfold za6
 split
 ·rename_i h
  have:=znF l
  rw [h] at this
  rw [zh2];exact this
 ·exact Nat.two_pow_pos _
end Go.Cs
namespace Go.Cs
open Go Go.RowKit
def zf3 (v s:Nat):Nat:=v*2^s%2^32 ||| v/2^(32-s)
def rot (v:Nat) (n:Int):Nat:=zf3 v (n%32).toNat
theorem zwk (k:Int):((k%18446744073709551616).toNat&&&31)=(k%32).toNat:=by
 rw [show 31=2^5-1 from rfl,Nat.and_two_pow_sub_one_eq_mod]
 omega
theorem zlZ (k:Int):IntKind.u64.wrap k=(((k%18446744073709551616).toNat:Nat):Int):=by
 simp [IntKind.wrap,IntKind.signed,IntKind.bits]
 omega
theorem zut (n:Int): -31≤n.tmod 32∧n.tmod 32≤31∧(n.tmod 32)%32=n%32:=by
 have h:=Int.tmod_add_mul_tdiv n 32
 have h1:=Int.tmod_lt_of_pos n (b:=32) (by omega)
 have h2: -32<n.tmod 32:=Int.lt_tmod_of_pos n (by omega)
 omega
def zco (v m:Nat):List Nat:=(List.range m).map fun j=>v/2^(31-j)%2
@[simp] theorem zhF (v m:Nat):(zco v m).length=m:=by simp [zco]
def zd9 (l:List Nat):Nat:=l.foldl (fun v b=>2*v+b) 0
def zdf (a b:List UInt8):List UInt8:=List.zipWith (· ^^^·) a b
def zaa (ls:List (List UInt8)):Nat:=(ls.map List.length).sum
theorem zfR {ls:List (List UInt8)} {i:Nat} (h:i<ls.length):zaa (ls.take (i+1))=zaa (ls.take i)+(ls.getD i []).length:=by
 unfold zaa
 rw [List.take_succ_eq_append_getElem h,List.map_append,List.sum_append]
 simp [List.getD,h]
theorem zey (ls:List (List UInt8)):ls.flatten.length=zaa ls:=by simp [zaa,List.length_flatten]
theorem ze5 (ls:List (List UInt8)) (i:Nat):zaa (ls.take i)≤zaa ls:=by
 have h2:zaa (ls.take i++ls.drop i)=zaa (ls.take i)+zaa (ls.drop i):=by
  unfold zaa
  rw [List.map_append,List.sum_append]
 rw [List.take_append_drop] at h2
 omega
theorem zh3 {ls:List (List UInt8)} {i:Nat} (h:i<ls.length):(ls.take (i+1)).flatten=(ls.take i).flatten++ls.getD i []:=by
 rw [List.take_succ_eq_append_getElem h,List.flatten_append]
 simp [List.getD,h]
theorem zqt (pre p:List UInt8) (n at_:Nat) (hat:at_=pre.length) (hn:at_+p.length≤n):
  zZ (u8s (pre++List.replicate (n-at_) 0)) at_ ((p.take p.length).map u8v)=u8s ((pre++p)++List.replicate (n-(at_+p.length)) 0):=by
 subst hat
 rw [zce _ _ _ (by simp;omega)]
 simp only [zn0,List.take_length,List.length_map]
 have h1:(u8s pre++u8s (List.replicate (n-pre.length) 0)).take pre.length=u8s pre:=by
  rw [List.take_append_of_le_length (by simp),List.take_of_length_le (by simp)]
 have h2:(u8s pre++u8s (List.replicate (n-pre.length) 0)).drop (pre.length+p.length)=u8s (List.replicate (n-(pre.length+p.length)) 0):=by
  rw [List.drop_append,List.drop_eq_nil_of_le (by simp),List.nil_append,zlW]
  simp
  rw [Nat.sub_sub]
 rw [h1,h2]
 simp [u8s,u8v,List.append_assoc]
theorem zdb {n:Nat} (h:n<256): [Value.int .u8 (n:Int)]=u8s [UInt8.ofNat n]:=by
 simp [u8s]
 omega
end Go.Cs
namespace Go.Cs
open Go Go.RowKit
structure Dig where
 l:List UInt8
 h:l.length=32
structure Non where
 sh:Nat
 ct:Nat
 hsh:sh<2^32
 hct:ct<2^64
structure Rec where
 st:Nat
 non:Non
 tag:Dig
 hst:st<256
structure Ent where
 st:Nat
 dg:Dig
 hst:st<256
structure Cel where
 root:Dig
 ep:Nat
 mark:Nat
 hep:ep<2^64
 hmk:mark<2^64
theorem Dig.ext' {a b:Dig} (h:a.l=b.l):a=b:=by cases a;cases b;cases h;rfl
theorem Non.ext' {a b:Non} (h:a.sh=b.sh) (h2:a.ct=b.ct):a=b:=by cases a;cases b;cases h;cases h2;rfl
theorem Rec.ext' {a b:Rec} (h:a.st=b.st) (h2:a.non=b.non) (h3:a.tag=b.tag):a=b:=by cases a;cases b;cases h;cases h2;cases h3;rfl
theorem Ent.ext' {a b:Ent} (h:a.st=b.st) (h3:a.dg=b.dg):a=b:=by cases a;cases b;cases h;cases h3;rfl
theorem Cel.ext' {a b:Cel} (h:a.root=b.root) (h2:a.ep=b.ep) (h3:a.mark=b.mark):a=b:=by cases a;cases b;cases h;cases h2;cases h3;rfl
def Dig.zero:Dig:=⟨List.replicate 32 0,by simp⟩
def Non.zero:Non:=⟨0,0,by decide,by decide⟩
def Rec.zero:Rec:=⟨0,Non.zero,Dig.zero,by decide⟩
def Ent.zero:Ent:=⟨0,Dig.zero,by decide⟩
def Cel.zero:Cel:=⟨Dig.zero,0,0,by decide,by decide⟩
def Dig.of (l:List UInt8):Dig:=⟨(l++List.replicate 32 0).take 32,by simp⟩
def zK (d:Dig):List Value:=u8s d.l
def zbb (x:Non):List Value:= [.int .u32 ((x.sh:Nat):Int), .int .u64 ((x.ct:Nat):Int)]
def zL (x:Rec):List Value:= .int .u8 ((x.st:Nat):Int):: .int .u32 ((x.non.sh:Nat):Int):: .int .u64 ((x.non.ct:Nat):Int)::zK x.tag
def zW (x:Ent):List Value:= .int .u8 ((x.st:Nat):Int)::zK x.dg
def zcu (x:Cel):List Value:=zK x.root++ [.int .u64 ((x.ep:Nat):Int), .int .u64 ((x.mark:Nat):Int)]
@[simp] theorem zar (d:Dig):(zK d).length=32:=by simp [zK,d.h]
@[simp] theorem zfN (x:Non):(zbb x).length=2:=rfl
@[simp] theorem zab (x:Rec):(zL x).length=35:=by simp [zL]
@[simp] theorem zat (x:Ent):(zW x).length=33:=by simp [zW]
@[simp] theorem zxA (x:Cel):(zcu x).length=34:=by simp [zcu]
theorem zbK (d:Dig):∀u∈zK d,u.oneCell'=true:=zdm _
theorem zrF (x:Non):∀u∈zbb x,u.oneCell'=true:=by intro u hu;simp [zbb] at hu;rcases hu with rfl | rfl<;>rfl
theorem zbi (x:Rec):∀u∈zL x,u.oneCell'=true:=by
 intro u hu
 simp only [zL,List.mem_cons] at hu
 rcases hu with rfl | rfl | rfl | hu
 ·rfl
 ·rfl
 ·rfl
 ·exact zbK _ u hu
theorem zch (x:Ent):∀u∈zW x,u.oneCell'=true:=by
 intro u hu
 simp only [zW,List.mem_cons] at hu
 rcases hu with rfl | hu
 ·rfl
 ·exact zbK _ u hu
theorem zm9 (x:Rec):((zL x).drop 1).take (zbb x.non).length=zbb x.non:=rfl
theorem zg3 (x:Rec):((zL x).drop 3).take (zK x.tag).length=zK x.tag:=List.take_of_length_le (Nat.le_refl _)
theorem zfY (x:Ent):((zW x).drop 1).take (zK x.dg).length=zK x.dg:=List.take_of_length_le (Nat.le_refl _)
theorem zpI (vs:List Value):∀(cs:List Value) (off k:Nat),(vs.zipIdx k).foldl (fun (cs:Array Value) (x:Value×Nat)=>match x with |(c,j)=>cs.setIfInBounds (off+j) c) cs.toArray=(zZ cs (off+k) vs).toArray:=by
 induction vs with
 | nil=>intro cs off k;rfl
 | cons v vs ih=>
  intro cs off k
  rw [List.zipIdx_cons,List.foldl_cons]
  simp only [List.setIfInBounds_toArray]
  rw [ih]
  rfl
theorem zbf {place:Nat→Option (Nat×Nat)} {cs vs:List Value} {i:Nat} {v:Value} {rest:List (Nat×Value)} {off size:Nat} (hp:place i=some (off,size)) (hv:v.cells=vs.toArray) (hl:vs.length=size) (ho:off+size≤cs.length):
  Instr.fill place cs.toArray ((i,v)::rest)=Instr.fill place (zZ cs off vs).toArray rest:=by
 have hf:=zpI vs cs off 0
 rw [Instr.fill,hp]
 simp only [hv,List.size_toArray,hl]
 rw [if_neg (by simp;omega),←Array.foldl_toList,Array.toList_zipIdx]
 rw [Nat.add_zero] at hf
 exact congrArg (fun z=>Instr.fill place z rest) hf
def zdl (P:Program) (t:TypeId):Option (List (Nat×Nat)):=
 match P.underlying t with
 | some (.struct fs)=>fs.toList.mapM (fun f=>(P.info? f.type).map fun i=>(f.offset,i.size))
 | _=>none
section
variable {P:Program} {n k:Nat} {σ:List (Nat×Value)} {w w':World} {ops:Array Oper} {K:List (Nat×Value)→World→Prop} {d:Option Tmp}
theorem zcH {T:TypeId} {parts:Array (Nat×Value)} {pl:List (Nat×Nat)} {z:Value} {cs vs:List Value} (hp:zdl P T=some pl) (hz:(P.info? T).map (·.zero)=some (some z)) (hzc:z.cells=cs.toArray)
  (hf:Instr.fill (pl.toArray[·]?) cs.toArray parts.toList=some vs.toArray):(Instr.build T parts).run P w= .ok (.agg vs.toArray) w:=by
 refine run_build w T parts _ ?_
 unfold zdl at hp
 unfold Program.built
 obtain ⟨it,hit,hz2⟩:=Option.map_eq_some_iff.1 hz
 cases hu:P.underlying T with
 | none=>simp [hu] at hp
 | some u=>
  cases u<;>simp [hu] at hp
  simp only [hit,hz2,hp,hzc,hf]
theorem zmX (st:Nat) (x:Non) (t:Dig) (hst:st<256) (cs:List Value) (hcs:cs.length=35):zZ (zZ (zZ cs 0 [.int .u8 ((st:Nat):Int)]) 1 (zbb x)) 3 (zK t)=zL ⟨st,x,t,hst⟩:=by
 rw [zce (zK t) _ _ (by simp [zbD,hcs]),List.drop_eq_nil_of_le (by simp [zbD,hcs]),List.append_nil]
 match cs,hcs with
 | a::b::c::r,_=>rfl
theorem zmR (st:Nat) (t:Dig) (hst:st<256) (cs:List Value) (hcs:cs.length=33):zZ (zZ cs 0 [.int .u8 ((st:Nat):Int)]) 1 (zK t)=zW ⟨st,t,hst⟩:=by
 rw [zce (zK t) _ _ (by simp [zbD,hcs]),List.drop_eq_nil_of_le (by simp [zbD,hcs]),List.append_nil]
 match cs,hcs with
 | a::r,_=>rfl
theorem zeP {T:TypeId} (st:Nat) (x:Non) (t:Dig) (hst:st<256) (hp:zdl P T=some [(0,1),(1,2),(3,32)]:=by kernel_rfl) (hz:(P.info? T).map (·.zero)=some (some (.agg (zL Rec.zero).toArray)):=by kernel_rfl):
  (Instr.build T #[(0, .int .u8 ((st:Nat):Int)),(1, .agg (zbb x).toArray),(2, .agg (zK t).toArray)]).run P w= .ok (.agg (zL ⟨st,x,t,hst⟩).toArray) w:=by
 refine zcH hp hz rfl ?_
 rw [zbf (off:=0) (size:=1) (vs:= [.int .u8 ((st:Nat):Int)]) rfl rfl rfl (by simp),zbf (off:=1) (size:=2) (vs:=zbb x) rfl rfl rfl (by simp [zbD]),zbf (off:=3) (size:=32) (vs:=zK t) rfl rfl (by simp) (by simp [zbD]),
  zmX st x t hst _ (by simp)]
 rfl
theorem zcf {T:TypeId} (st:Nat) (t:Dig) (hst:st<256) (hp:zdl P T=some [(0,1),(1,32)]:=by kernel_rfl) (hz:(P.info? T).map (·.zero)=some (some (.agg (zW Ent.zero).toArray)):=by kernel_rfl):
  (Instr.build T #[(0, .int .u8 ((st:Nat):Int)),(1, .agg (zK t).toArray)]).run P w= .ok (.agg (zW ⟨st,t,hst⟩).toArray) w:=by
 refine zcH hp hz rfl ?_
 rw [zbf (off:=0) (size:=1) (vs:= [.int .u8 ((st:Nat):Int)]) rfl rfl rfl (by simp),zbf (off:=1) (size:=32) (vs:=zK t) rfl rfl (by simp) (by simp [zbD]),
  zmR st t hst _ (by simp)]
 rfl
def zay (P:Program) (t:TypeId):List (Bool×TypeId×Nat):=(P.fieldsOf t).toList.map fun f=>(decide (f.name≠ "_"),f.type,f.offset)
def eqF (d:Nat) (xs ys:Array Value):List (Bool×TypeId×Nat)→Sem Bool
 | []=>pure true
 |(b,t,o)::fs=>
  if b=true then do
   let a←part t xs o
   let c←part t ys o
   let r←Op.equalIn d t a c
   if (!r)=true then pure false else eqF d xs ys fs
  else eqF d xs ys fs
theorem zuB (d:Nat) (xs ys:Array Value) (fs:List Field):Op.eqFields d xs ys fs=eqF d xs ys (fs.map fun f=>(decide (f.name≠ "_"),f.type,f.offset)):=by
 induction fs with
 | nil=>rfl
 | cons f fs ih=>
  rw [Op.eqFields,List.map_cons,eqF,ih]
  by_cases h:f.name= "_" <;>simp [h]
theorem za5 {dd:Nat} {xs ys:Array Value} {t o:Nat} {fs:List (Bool×TypeId×Nat)} {a c:Value} {r s:Bool} (h1:(part t xs o).run P w= .ok a w) (h2:(part t ys o).run P w= .ok c w)
  (h3:(Op.equalIn dd t a c).run P w= .ok r w) (h4:(eqF dd xs ys fs).run P w= .ok s w):(eqF dd xs ys ((true,t,o)::fs)).run P w= .ok (r&&s) w:=by
 rw [eqF]
 simp only [if_true,Sem.run_bind,h1,h2,h3,Result.andThen_ok]
 cases r<;>simp [h4]
theorem zaJ {t o:Nat} {vs:List Value} {v:Value} (hT:(P.underlying t).map zcY=some false) (hv:vs[o]? =some v):(part t vs.toArray o).run P w= .ok v w:=by
 simp [part,zjS hT,hv]
theorem za0 {t o sz:Nat} {vs us:List Value} (hT:(P.underlying t).map zcY=some true) (hsz:(P.info? t).map (·.size)=some sz) (hv:(vs.drop o).take sz=us):(part t vs.toArray o).run P w= .ok (.agg us.toArray) w:=by
 simp [part,zhf hT,zbA hsz,←hv,List.extract_eq_take_drop]
theorem zbS {dd t e:Nat} (x y:Dig) (ht:P.underlying t=some (.array 32 e):=by kernel_rfl) (he:P.underlying e=some (.int .u8):=by kernel_rfl) (hsz:(P.info? e).map (·.size)=some 1:=by kernel_rfl):(Op.equalIn (dd+2) t (.agg (zK x).toArray) (.agg (zK y).toArray)).run P w= .ok (x.l==y.l) w:=
 run_equalIn_bytes w dd t e 32 ht he (fun w=>zbA hsz) x.l y.l x.h y.h
theorem zds {dd t:Nat} {kk:IntKind} (a b:Nat) (h:P.underlying t=some (.int kk)):(Op.equalIn (dd+1) t (.int kk ((a:Nat):Int)) (.int kk ((b:Nat):Int))).run P w= .ok (a==b) w:=by
 rw [run_equalIn_int w dd t kk kk _ _ h]
 congr 1
 rw [Bool.eq_iff_iff];simp;omega
theorem zc0 {t:TypeId} (h:∃x xs,zay P t=x::xs):P.underlying t=some (.struct (P.fieldsOf t)):=by
 obtain ⟨x,xs,h⟩:=h
 unfold zay Program.fieldsOf at*
 split at h
 ·next fs hu=>simp [hu,Program.fieldsOf]
 ·simp at h
theorem zcN {dd t:Nat} {xs ys:Array Value} {fs:List (Bool×TypeId×Nat)} {x:Bool×TypeId×Nat} {r:Bool} (hF:zay P t=x::fs) (hp:P.stoodInHeld t=false) (h:(eqF dd xs ys (x::fs)).run P w= .ok r w):
  (Op.equalIn (dd+1) t (.agg xs) (.agg ys)).run P w= .ok r w:=by
 rw [run_equalIn_struct w dd t xs ys (zc0 ⟨x,fs,hF⟩) hp,zuB]
 unfold zay at hF
 rw [hF,h]
def Non.eqb (x y:Non):Bool:=x.sh==y.sh&&(x.ct==y.ct&&true)
def Rec.eqb (x y:Rec):Bool:=x.st==y.st&&(x.non.eqb y.non&&(x.tag.l==y.tag.l&&true))
def Ent.eqb (x y:Ent):Bool:=x.st==y.st&&(x.dg.l==y.dg.l&&true)
def Cel.eqb (x y:Cel):Bool:=x.root.l==y.root.l&&(x.ep==y.ep&&(x.mark==y.mark&&true))
theorem Non.eqb_iff (x y:Non):x.eqb y=true↔x=y:=by
 constructor
 ·intro h;simp [Non.eqb] at h;exact Non.ext' h.1 h.2
 ·rintro rfl;simp [Non.eqb]
theorem Rec.eqb_iff (x y:Rec):x.eqb y=true↔x=y:=by
 constructor
 ·intro h;simp [Rec.eqb] at h;exact Rec.ext' h.1 ((Non.eqb_iff _ _).1 h.2.1) (Dig.ext' h.2.2)
 ·rintro rfl;simp [Rec.eqb,(Non.eqb_iff x.non x.non).2 rfl]
theorem Ent.eqb_iff (x y:Ent):x.eqb y=true↔x=y:=by
 constructor
 ·intro h;simp [Ent.eqb] at h;exact Ent.ext' h.1 (Dig.ext' h.2)
 ·rintro rfl;simp [Ent.eqb]
theorem Cel.eqb_iff (x y:Cel):x.eqb y=true↔x=y:=by
 constructor
 ·intro h;simp [Cel.eqb] at h;exact Cel.ext' (Dig.ext' h.1) h.2.1 h.2.2
 ·rintro rfl;simp [Cel.eqb]
theorem zoH {dd t t32 t64:Nat} (x y:Non) (hF:zay P t= [(true,t32,0),(true,t64,1)]:=by kernel_rfl) (hp:P.stoodInHeld t=false:=by kernel_rfl) (h1:P.underlying t32=some (.int .u32):=by kernel_rfl) (h2:P.underlying t64=some (.int .u64):=by kernel_rfl):
  (Op.equalIn (dd+2) t (.agg (zbb x).toArray) (.agg (zbb y).toArray)).run P w= .ok (x.eqb y) w:=
 zcN hF hp (za5 (zaJ (by rw [h1];rfl) rfl) (zaJ (by rw [h1];rfl) rfl) (zds _ _ h1)
  (za5 (zaJ (by rw [h2];rfl) rfl) (zaJ (by rw [h2];rfl) rfl) (zds _ _ h2) rfl))
theorem zcd {dd t t8 tn td e t32 t64:Nat} (x y:Rec) (hF:zay P t= [(true,t8,0),(true,tn,1),(true,td,3)]:=by kernel_rfl) (hp:P.stoodInHeld t=false:=by kernel_rfl) (h8:P.underlying t8=some (.int .u8):=by kernel_rfl)
  (hFn:zay P tn= [(true,t32,0),(true,t64,1)]:=by kernel_rfl) (hpn:P.stoodInHeld tn=false:=by kernel_rfl) (h1:P.underlying t32=some (.int .u32):=by kernel_rfl) (h2:P.underlying t64=some (.int .u64):=by kernel_rfl) (hsn:(P.info? tn).map (·.size)=some 2:=by kernel_rfl)
  (hd:P.underlying td=some (.array 32 e):=by kernel_rfl) (he:P.underlying e=some (.int .u8):=by kernel_rfl) (hse:(P.info? e).map (·.size)=some 1:=by kernel_rfl) (hsd:(P.info? td).map (·.size)=some 32:=by kernel_rfl):
  (Op.equalIn (dd+3) t (.agg (zL x).toArray) (.agg (zL y).toArray)).run P w= .ok (x.eqb y) w:=
 zcN hF hp (za5 (zaJ (by rw [h8];rfl) rfl) (zaJ (by rw [h8];rfl) rfl) (zds _ _ h8)
  (za5 (za0 (us:=zbb x.non) (by rw [zc0 ⟨_,_,hFn⟩];rfl) hsn rfl) (za0 (us:=zbb y.non) (by rw [zc0 ⟨_,_,hFn⟩];rfl) hsn rfl) (zoH _ _ hFn hpn h1 h2)
   (za5 (za0 (us:=zK x.tag) (by rw [hd];rfl) hsd (by have:=zg3 x;rwa [zar] at this)) (za0 (us:=zK y.tag) (by rw [hd];rfl) hsd (by have:=zg3 y;rwa [zar] at this)) (zbS _ _ hd he hse) rfl)))
theorem za2 {dd t t8 td e:Nat} (x y:Ent) (hF:zay P t= [(true,t8,0),(true,td,1)]:=by kernel_rfl) (hp:P.stoodInHeld t=false:=by kernel_rfl) (h8:P.underlying t8=some (.int .u8):=by kernel_rfl)
  (hd:P.underlying td=some (.array 32 e):=by kernel_rfl) (he:P.underlying e=some (.int .u8):=by kernel_rfl) (hse:(P.info? e).map (·.size)=some 1:=by kernel_rfl) (hsd:(P.info? td).map (·.size)=some 32:=by kernel_rfl):
  (Op.equalIn (dd+3) t (.agg (zW x).toArray) (.agg (zW y).toArray)).run P w= .ok (x.eqb y) w:=
 zcN hF hp (za5 (zaJ (by rw [h8];rfl) rfl) (zaJ (by rw [h8];rfl) rfl) (zds _ _ h8)
   (za5 (za0 (us:=zK x.dg) (by rw [hd];rfl) hsd (by have:=zfY x;rwa [zar] at this)) (za0 (us:=zK y.dg) (by rw [hd];rfl) hsd (by have:=zfY y;rwa [zar] at this)) (zbS _ _ hd he hse) rfl))
def eqv:Value→Value→Bool
 | .int _ a, .int _ b=>a==b
 | .bool a, .bool b=>a==b
 | _,_=>false
def zmg:List Value→List Value→Bool
 | [], []=>true
 | a::azz,b::bs=>eqv a b&&zmg azz bs
 | _,_=>false
def zoP (P:Program) (t:TypeId):Value→Value→Bool
 | .int k _, .int k' _=>(match P.underlying t with | some (.int k2)=>decide (k=k2)&&decide (k'=k2)| _=>false)
 | .bool _, .bool _=>(match P.underlying t with | some .bool=>true | _=>false)
 | _,_=>false
def zhr (P:Program):Nat→List (Bool×TypeId×Nat)→List Value→List Value→Bool
 | _, [], [], []=>true
 | i,(b,t,o)::fs,v::vs,u::us=>b&&Nat.beq o i&&zoP P t v u&&zhr P (i+1) fs vs us
 | _,_,_,_=>false
theorem zos {dd t:Nat} {v u:Value} (h:zoP P t v u=true):(Op.equalIn (dd+1) t v u).run P w= .ok (eqv v u) w∧(P.underlying t).map zcY=some false:=by
 cases v<;>cases u<;>simp only [zoP] at h<;>try (cases h;done)
 ·cases hu:P.underlying t with
  | none=>simp [hu] at h
  | some ty=>
   cases ty<;>simp [hu] at h
   exact ⟨run_equalIn_bool w dd t _ _ hu,rfl⟩
 ·cases hu:P.underlying t with
  | none=>simp [hu] at h
  | some ty=>
   cases ty<;>simp [hu] at h
   obtain ⟨rfl,rfl⟩:=h
   exact ⟨run_equalIn_int w dd t _ _ _ _ hu,rfl⟩
theorem zmc {dd:Nat}:∀(fs:List (Bool×TypeId×Nat)) (i:Nat) (pv pu vs us:List Value),zhr P i fs vs us=true→pv.length=i→pu.length=i→
  (eqF (dd+1) (pv++vs).toArray (pu++us).toArray fs).run P w= .ok (zmg vs us) w:=by
 intro fs
 induction fs with
 | nil=>
  intro i pv pu vs us h _ _
  cases vs<;>cases us<;>simp only [zhr] at h<;>first |(cases h;done)| rfl
 | cons f fs ih=>
  intro i pv pu vs us h h1 h2
  obtain ⟨b,t,o⟩:=f
  cases vs with
  | nil=>simp [zhr] at h
  | cons v vs=>
   cases us with
   | nil=>simp [zhr] at h
   | cons u us=>
    simp only [zhr,Bool.and_eq_true] at h
    obtain ⟨⟨⟨hb,ho⟩,hv⟩,hr⟩:=h
    subst hb
    obtain rfl:=Nat.eq_of_beq_eq_true ho
    obtain ⟨h3,h4⟩:=zos (P:=P) (w:=w) (dd:=dd) hv
    refine za5 (zaJ h4 (by rw [←h1];simp)) (zaJ h4 (by rw [←h2];simp)) h3 ?_
    have:=ih (o+1) (pv++ [v]) (pu++ [u]) vs us hr (by simp [h1]) (by simp [h2])
    simpa using this
theorem ziG {dd t:Nat} (vs us:List Value) (hF:(match zay P t with | []=>false | f::fs=>zhr P 0 (f::fs) vs us)=true:=by kernel_rfl) (hp:P.stoodInHeld t=false:=by kernel_rfl):
  (Op.equalIn (dd+2) t (.agg vs.toArray) (.agg us.toArray)).run P w= .ok (zmg vs us) w:=by
 cases hf:zay P t with
 | nil=>simp [hf] at hF
 | cons f fs=>
  simp only [hf] at hF
  exact zcN hf hp (by simpa using zmc (P:=P) (w:=w) (dd:=dd) (f::fs) 0 [] [] vs us hF rfl rfl)
theorem zeF {T:TypeId} {ox oy:Operand} {xs ys:Array Value} {r:Bool} (h:(Op.equalIn 10000 T (.agg xs) (.agg ys)).run P w= .ok r w) (hm:P.eqGuardType P.depth T=false:=by kernel_rfl):
  (bo .eql T ox oy (.agg xs) (.agg ys)).run P w= .ok (.bool r) w:=by
 simp only [Sem.run_bind,run_eqGuard_agg w .eql T ox oy xs ys hm,Result.andThen_ok,run_eql_struct,h]
theorem zaj {T:TypeId} {ox oy:Operand} {xs ys:Array Value} {r:Bool} (h:(Op.equalIn 10000 T (.agg xs) (.agg ys)).run P w= .ok r w) (hm:P.eqGuardType P.depth T=false:=by kernel_rfl):
  (bo .neq T ox oy (.agg xs) (.agg ys)).run P w= .ok (.bool (!r)) w:=by
 simp only [Sem.run_bind,run_eqGuard_agg w .neq T ox oy xs ys hm,Result.andThen_ok,run_neq_struct,h]
end
end Go.Cs
namespace Go.Cs
open Go Go.RowKit
theorem ztw {v k:Nat} (hv:v<2^32):zf3 v k<2^32:=
 Nat.or_lt_two_pow (Nat.mod_lt _ (by decide)) (Nat.lt_of_le_of_lt (Nat.div_le_self _ _) hv)
theorem zqe {v:Nat} {n:Int} (hv:v<2^32):rot v n<2^32:=ztw hv
end Go.Cs
namespace Go.Cs
open Go
def zbC (x:Non):List UInt8:=be x.sh 4++be x.ct 8
def zb0 (x:Rec):List UInt8:= [UInt8.ofNat x.st]++zbC x.non++x.tag.l
def zcp (x:Ent):List UInt8:= [UInt8.ofNat x.st]++x.dg.l
def zdJ (x:Cel):List UInt8:=x.root.l++be x.ep 8++be x.mark 8
def zaB (x:Rec):Nat:=if 2<x.st then 1 else if x.st=0 then (if x.eqb Rec.zero=true then 0 else 1) else 0
def za3 (x:Ent):Nat:=if 2<x.st then 1 else if x.st=0 then (if x.eqb Ent.zero=true then 0 else 1) else 0
def Non.of (l:List UInt8):Non:=⟨za6 (l.take 4) 4,za6 (l.drop 4) 8,zd2 _ 4,zd2 _ 8⟩
def Rec.of (l:List UInt8):Rec:=⟨byt l 0,Non.of ((l.drop 1).take 12),Dig.of ((l.drop 13).take 32),zfq _ _⟩
def Ent.of (l:List UInt8):Ent:=⟨byt l 0,Dig.of ((l.drop 1).take 32),zfq _ _⟩
def Cel.of (l:List UInt8):Cel:=⟨Dig.of (l.take 32),za6 ((l.drop 32).take 8) 8,za6 ((l.drop 40).take 8) 8,zd2 _ 8,zd2 _ 8⟩
theorem zjg (x:Non):(zbC x).length=12:=by simp [zbC]
theorem zi7 (x:Rec):(zb0 x).length=45:=by simp [zb0,zjg,x.tag.h]
theorem zjc (x:Ent):(zcp x).length=33:=by simp [zcp,x.dg.h]
theorem zeC (x:Rec):zaB x=0∨zaB x=1:=by
 unfold zaB;split
 ·exact .inr rfl
 ·split
  ·split
   ·exact .inl rfl
   ·exact .inr rfl
  ·exact .inl rfl
theorem zeE (x:Ent):za3 x=0∨za3 x=1:=by
 unfold za3;split
 ·exact .inr rfl
 ·split
  ·split
   ·exact .inl rfl
   ·exact .inr rfl
  ·exact .inl rfl
end Go.Cs
namespace Go.Cs
open Go Go.RowKit
structure Book (B:Nat) (w w':World):Prop where
 os:w'.os=w.os
 tape:w'.tape=w.tape
 output:w'.output=w.output
 size:w.heap.size≤w'.heap.size
 low:∀k,k<B→k<w.heap.size→w'.heap[k]? =w.heap[k]?
 cells:∀(k:Nat) (o:Obj),w.heap[k]? =some o→o.isCells=true→w'.heap[k]? =some o
theorem Book.refl (B:Nat) (w:World):Book B w w:=⟨rfl,rfl,rfl,Nat.le_refl _,fun _ _ _=>rfl,fun _ _ h _=>h⟩
theorem Book.trans {B:Nat} {a b c:World} (h:Book B a b) (g:Book B b c):Book B a c:=
 ⟨g.os.trans h.os,g.tape.trans h.tape,g.output.trans h.output,Nat.le_trans h.size g.size,fun k hk h1=>(g.low k hk (Nat.lt_of_lt_of_le h1 h.size)).trans (h.low k hk h1),fun k o h1 h2=>g.cells k o (h.cells k o h1 h2) h2⟩
theorem Book.alloc {B:Nat} (w:World) (o:Obj):Book B w (w.alloc o):=
 ⟨rfl,rfl,rfl,by simp,fun k _ hk=>Below.heap_alloc _ _ _ hk,fun k o' h _=>(Below.heap_alloc _ _ _ (Array.getElem?_eq_some_iff.1 h).1).trans h⟩
theorem Book.putObj {B l:Nat} {w:World} {o:Obj} (o':Obj) (hB:B≤l) (hl:w.heap[l]? =some o) (ho:o.isCells=false):Book B w (w.putObj l o'):=
 ⟨rfl,rfl,rfl,by simp [World.putObj],fun k hk _=>World.putObj_heap_other (by omega),fun k o2 h h2=>by
  have:k≠l:=by rintro rfl;rw [hl] at h;cases h;rw [ho] at h2;cases h2
  exact (World.putObj_heap_other this).trans h⟩
theorem Blk.book {B:Nat} {w w':World} {b:Nat} {cs:List Value} {e:TypeId} (h:Blk w b cs e) (g:Book B w w'):Blk w' b cs e:=g.cells _ _ h rfl
theorem Book.cell {B:Nat} {w w':World} (g:Book B w w') {a:Addr} {v:Value} (h:w.cell? a=some v):w'.cell? a=some v:=by
 obtain ⟨o,h1,h2⟩:=cells_of_cell h
 exact (World.cell?_of_block ((g.cells _ _ h1 h2).trans h1.symm)).trans h
theorem SlA.book {B lo hi:Nat} {w w':World} {a:Option Addr} {len cap:Nat} {vs:List Value} (h:SlA lo hi w a len cap vs) (g:Book B w w'):SlA lo hi w' a len cap vs:=by
 cases a with
 | none=>exact h
 | some ad=>
  obtain ⟨g1,g2,g3⟩:=h
  exact ⟨g1,g2,g3.imp id fun ⟨g4,g5,g6,g7,g8⟩=>⟨g4,g5,g6,Nat.lt_of_lt_of_le g7 g.size,fun i v hv=>g.cell (g8 i v hv)⟩⟩
theorem Es.book {α:Type} {f:α→Value} {B lo hi:Nat} {w w':World} {a:Option Addr} {len cap:Nat} {l:List α} (h:Es f lo hi w a len cap l) (g:Book B w w'):Es f lo hi w' a len cap l:=⟨h.sla.book g,h.len_eq⟩
theorem Bs.book {B lo hi:Nat} {w w':World} {a:Option Addr} {len cap:Nat} {l:List UInt8} (h:Bs lo hi w a len cap l) (g:Book B w w'):Bs lo hi w' a len cap l:=⟨h.sla.book g,h.len_eq⟩
theorem Ms.book {α:Type} {f:α→List Value} {sz:Nat} {B lo hi:Nat} {w w':World} {a:Option Addr} {len cap:Nat} {l:List α} (h:Ms f sz lo hi w a len cap l) (g:Book B w w'):Ms f sz lo hi w' a len cap l:=⟨h.sla.book g,h.len_eq,h.each⟩
theorem Own.book {α:Type} {f:α→Value} {B lo hi:Nat} {w w':World} {a:Option Addr} {len cap:Nat} {e:TypeId} {l:List α} (h:Own f lo hi w a len cap e l) (g:Book B w w'):Own f lo hi w' a len cap e l:=by
 refine ⟨⟨h.row.1, ?_⟩,h.len_eq,h.below⟩
 rcases h.row.2 with h1 |⟨b,c,cur,h1,h2,h3,h4⟩
 ·exact .inl h1
 ·exact .inr ⟨b,c,cur,h1,h2,g.cells _ _ h3 rfl,h4⟩
theorem Chg.book {S:Nat→Prop} {B:Nat} {u w w':World} (h:Chg S u w) (g:Book B w w') (hB:u.heap.size≤B):Chg S u w':=
 ⟨g.os.trans h.os,g.tape.trans h.tape,g.output.trans h.output,Nat.le_trans h.size g.size,fun k hk hs=>(g.low k (by omega) (Nat.lt_of_lt_of_le hk h.size)).trans (h.block k hk hs)⟩
theorem Book.chg {B:Nat} {w w':World} (g:Book B w w'):Chg (fun b=>B≤b) w w':=⟨g.os,g.tape,g.output,g.size,fun k hk hs=>g.low k (by omega) hk⟩
structure Kpt (w w':World):Prop where
 size:w.heap.size≤w'.heap.size
 same:∀(k:Nat) (o:Obj),w.heap[k]? =some o→o.isCells=false→w'.heap[k]? =some o
theorem Kpt.refl (w:World):Kpt w w:=⟨Nat.le_refl _,fun _ _ h _=>h⟩
theorem Kpt.trans {a b c:World} (h:Kpt a b) (g:Kpt b c):Kpt a c:=⟨Nat.le_trans h.size g.size,fun k o h1 h2=>g.same k o (h.same k o h1 h2) h2⟩
theorem Kpt.ext {a b c:World} (h:Kpt a b) (g:Ext b c):Kpt a c:=h.trans ⟨g.size,fun k o h1 _=>(g.block k (Array.getElem?_eq_some_iff.1 h1).1 (fun hf=>hf)).trans h1⟩
theorem Kpt.blk {a b c:World} {k:Nat} {cs:List Value} {e:TypeId} (h:Kpt a b) (hB:Blk b k cs e) (g:Chg (· =k) b c):Kpt a c:=h.trans ⟨g.size,fun j o h1 h2=>by
 have:j≠k:=by
  rintro rfl
  have h3:b.heap[j]? =_:=hB
  rw [h3] at h1;cases h1;cases h2
 exact (g.block j (Array.getElem?_eq_some_iff.1 h1).1 this).trans h1⟩
theorem Kpt.own {α:Type} {f:α→Value} {lo hi len cap:Nat} {e:TypeId} {l:List α} {a b c:World} {ad:Option Addr} (h:Kpt a b) (hO:Own f lo hi b ad len cap e l) (g:Chg (zeb ad) b c):Kpt a c:=h.trans ⟨g.size,fun j o h1 h2=>by
 refine (g.block j (Array.getElem?_eq_some_iff.1 h1).1 ?_).trans h1
 rintro ⟨ad',rfl,rfl⟩
 rcases hO.blk with ⟨h3,_⟩|⟨b',cs,h3,hB,_⟩
 ·cases h3
 ·cases h3
  have h4:b.heap[b']? =_:=hB
  rw [h4] at h1;cases h1;cases h2⟩
def Yat (P:Program) (l:Nat) (args:List Value) (w:World) (R:Value→World→Prop):Prop:=
 ∃fn tmps assign body,(Instr.yield l args.toArray).run P w= .ok (.round l fn tmps assign body) w∧Rnd P l fn tmps assign body w (Ret R)
def zjv (B:Nat) (U:Nat→Prop) (I:Nat→World→Prop) (Ix:Code→Nat→World→Prop) (k:Nat) (w:World):Exit→Act→World→Prop
 | .normal,_,w'=>Kpt w w'∧Chg (fun b=>B≤b∨U b) w w'∧I (k+1) w'
 | .ret,_,w'=>Kpt w w'∧Chg (fun b=>B≤b∨U b) w w'∧Ix .ret k w'
 | .exit id,_,w'=>Kpt w w'∧Chg (fun b=>B≤b∨U b) w w'∧Ix (.exit id) k w'
 | .goto t,_,w'=>Kpt w w'∧Chg (fun b=>B≤b∨U b) w w'∧Ix (.goto t) k w'
 | .panic _,_,_=>False
 | .outgrown,_,_=>False
instance {B:Nat} {U:Nat→Prop} {I:Nat→World→Prop} {Ix:Code→Nat→World→Prop} {k:Nat} {w:World}:NoPan (zjv B U I Ix k w):=⟨fun _ _ _ h=>h⟩
def Mid (P:Program) (l B:Nat) (U:Nat→Prop) (I:Nat→World→Prop) (Ix:Code→Nat→World→Prop) (k:Nat) (body:Code) (w:World):Exit→Act→World→Prop:=
 Exit.then (fun a w1=>Kpt w w1∧Chg (fun b=>B≤b∨U b) w w1∧∀w2,Book B w1 w2→wpR (some l) P body (zjv B U I Ix k w2) a w2) (fun _ _ _=>False)
instance {P:Program} {l B:Nat} {U:Nat→Prop} {I:Nat→World→Prop} {Ix:Code→Nat→World→Prop} {k:Nat} {body:Code} {w:World}:NoPan (Mid P l B U I Ix k body w):=⟨fun _ _ _ h=>h⟩
theorem zl0 {P:Program} {l B:Nat} {U:Nat→Prop} {I:Nat→World→Prop} {Ix:Code→Nat→World→Prop} {k:Nat} {body:Code} {w w1:World} {n:Nat} {σ:List (Nat×Value)} (h1:Kpt w w1) (h2:Chg (fun b=>B≤b∨U b) w w1)
  (h:∀w2,Book B w1 w2→wpC (ro:=some l) (ds:= []) P body (zjv B U I Ix k w2) n σ w2):Mid P l B U I Ix k body w .normal (Fr [] n σ) w1:=⟨h1,h2,h⟩
theorem zeh {B:Nat} {U:Nat→Prop} {I:Nat→World→Prop} {Ix:Code→Nat→World→Prop} {k:Nat} {w w':World} {a:Act} (h1:Kpt w w') (h2:Chg (fun b=>B≤b∨U b) w w') (h3:I (k+1) w'):zjv B U I Ix k w .normal a w':=⟨h1,h2,h3⟩
theorem zhX {B:Nat} {U:Nat→Prop} {I:Nat→World→Prop} {Ix:Code→Nat→World→Prop} {k:Nat} {w w':World} {a:Act} (h1:Kpt w w') (h2:Chg (fun b=>B≤b∨U b) w w') (h3:Ix .ret k w'):zjv B U I Ix k w .ret a w':=⟨h1,h2,h3⟩
def zgR:List Tmp→List Value→List (Nat×Value)→List (Nat×Value)
 | p::ps,v::vs,σ=>zgR ps vs ((p,v)::σ)
 | _,_,σ=>σ
theorem zou (n:Nat):∀(ps:List Tmp) (vs:List Value) (σ:List (Nat×Value)),(ps.zip vs).foldl (fun t (x:Tmp×Value)=>t.setIfInBounds x.1 x.2) (Fr [] n σ).tmps=(Fr [] n (zgR ps vs σ)).tmps:=by
 intro ps
 induction ps with
 | nil=>intro vs σ;rfl
 | cons p ps ih=>
  intro vs σ
  cases vs with
  | nil=>rfl
  | cons v vs=>
   have h2:(Fr [] n σ).tmps.setIfInBounds p v=(Fr [] n ((p,v)::σ)).tmps:=congrArg Act.tmps (zdZ [] n σ (some p) v)
   rw [zgR,←ih vs ((p,v)::σ),←h2]
   rfl
theorem zom (n:Nat) (ps:List Tmp) (vs:List Value) (σ:List (Nat×Value)):((ps.toArray.zip vs.toArray).foldl (fun t (x:Tmp×Value)=>t.setIfInBounds x.1 x.2) (Fr [] n σ).tmps)=(Fr [] n (zgR ps vs σ)).tmps:=by
 have hz:ps.toArray.zip vs.toArray=(ps.zip vs).toArray:=by simp
 rw [←zou,hz,←Array.foldl_toList]
def Mk (w:World) (D:Nat):Prop:=w.heap[D]? =some (.deferred (some []))
theorem Mk.lt {w:World} {D:Nat} (h:Mk w D):D<w.heap.size:=(Array.getElem?_eq_some_iff.1 h).1
theorem Mk.chg {S:Nat→Prop} {w w':World} {D:Nat} (h:Mk w D) (hc:Chg S w w') (hs:¬S D:=by intro hs;first |(have h:_=_:=hs;omega)|(rcases hs with hs | hs<;>omega)):Mk w' D:=(hc.block D h.lt hs).trans h
theorem Mk.ext {w w':World} {D:Nat} (h:Mk w D) (hc:Ext w w'):Mk w' D:=h.chg hc (fun hf=>hf)
theorem Yat.mono {P:Program} {l:Nat} {args:List Value} {w:World} {R R':Value→World→Prop} (h:Yat P l args w R) (hr:∀v w',R v w'→R' v w'):Yat P l args w R':=by
 obtain ⟨fn,tmps,assign,body,h1,h2⟩:=h
 exact ⟨fn,tmps,assign,body,h1,RoundIn.mono h2 fun e w' ⟨v,he,hv⟩=>⟨v,he,hr v w' hv⟩⟩
def zno (P:Program) (f:FuncId):Bool:=match P.funcs[f]? with
 | some fn=> !(fn.name== "runtime.NumGoroutine")&&fn.body.isSome
 | none=>false
theorem znY {P:Program} {f:FuncId} (h:zno P f=true) (args:Array Value) (w:World):(callFunc f args).run P w= .ok (.enter f args) w:=by
 unfold zno at h
 cases hf:P.funcs[f]? with
 | none=>simp [hf] at h
 | some fn=>
  simp only [hf,Bool.and_eq_true,Bool.not_eq_true'] at h
  have h1:fn.name≠ "runtime.NumGoroutine" :=by simpa using h.1
  obtain ⟨c,hb⟩:=Option.isSome_iff_exists.1 h.2
  simp [callFunc,hf,h1,hb]
abbrev mark (D:Nat):List Deferred:= [{target:= .collected D,args:= #[]}]
theorem zhY {P:Program} {Q:Exit→Act→World→Prop} {n:Nat} {σ:List (Nat×Value)} {w:World} {g:Operand} {psA:Array Tmp} {assign body:Code} (ps:List Tmp) (gf:Nat) (lb:List Value) (m:Nat) (vals:Nat→List Value) (U T:Nat→Prop)
  (I:Nat→World→Prop) (Ix:Code→Nat→World→Prop)
  (hT:∀b,T b→b<w.heap.size) (hv:∀k,(vals k).length=ps.length)
  (hI:∀k W W',I k W→Book w.heap.size W W'→I k W') (hIx:∀c k W W',Ix c k W→Book w.heap.size W W'→Ix c k W') (hIT:∀k W W',I k W→Chg T W W'→I k W') (h0:I 0 w)
  (hiter:∀(l:Nat) (J Jx:Nat→World→Prop) (w1:World),Ext w w1→(∀k W W',J k W→Chg T W W'→J k W')→
   (∀k W,k<m→J k W→Yat P l (vals k) W (fun v W'=>(v= .bool true∧J (k+1) W'∧Chg (fun b=>w.heap.size≤b∨U b) W W')∨(v= .bool false∧Chg (fun b=>w.heap.size≤b∨U b) W W'∧Jx k W')))→J 0 w1→
   Calls P gf (.func (.yield l) #[] #[]::lb).toArray w1 (Ret fun _ w'=>J m w'∨∃k,k<m∧Jx k w'))
  (hround:∀(l k:Nat) (W:World),w.heap.size≤l→I k W→k<m→wpC (ro:=some l) (ds:= []) P assign (Mid P l w.heap.size U I Ix k body W) n (zgR ps (vals k) σ) W)
  (hdone:∀(D:Nat) (W:World),w.heap.size≤D→I m W→Mk W D→Q .normal (Fr (mark D) n σ) W)
  (hstop:∀(D:Nat) (c:Code) (k:Nat) (W:World),w.heap.size≤D→k<m→Ix c k W→Mk W D→wpC (ro:=none) (ds:=mark D) P c Q n σ W)
  (hps:psA=ps.toArray:=by rfl) (hg:ev n σ g= .func (.func gf) #[] lb.toArray:=by kernel_rfl) (heg:∀args w,(callFunc gf args).run P w= .ok (.enter gf args) w:=by exact znY (by kernel_rfl)):
  wpC (ro:=none) (ds:= []) P (.rangeFunc g psA assign body) Q n σ w:=by
 subst hps
 unfold wpC
 refine wpIn_rangeFunc ?_
 intro fn _
 obtain ⟨rec,hrec⟩:∃rec:LoopState→Option Code→Loop,rec=fun st pe=>{state:=st,pending:=pe,fn,tmps:=(Fr [] n σ).tmps,params:=ps.toArray,assign,body,defers:=w.heap.size}:=⟨_,rfl⟩
 obtain ⟨W1,hW1⟩:∃W1,(w.alloc (.deferred (some []))).alloc (.loop (rec .ready none))=W1:=⟨_,rfl⟩
 have hL1:W1.heap[w.heap.size+1]? =some (.loop (rec .ready none)):=by
  rw [←hW1];have:=World.alloc_heap_new (w.alloc (.deferred (some []))) (.loop (rec .ready none));rwa [World.size_alloc] at this
 have hK1:W1.heap[w.heap.size]? =some (.deferred (some [])):=by
  rw [←hW1];exact (Below.heap_alloc _ _ _ (by simp)).trans (World.alloc_heap_new w _)
 have hbk:Book w.heap.size w W1:=by rw [←hW1];exact (Book.alloc _ _).trans (Book.alloc _ _)
 have hE1:Ext w W1:=by rw [←hW1];exact (Ext.alloc _ _).trans (Ext.alloc _ _)
 have hI1:I 0 W1:=hI _ _ _ h0 hbk
 refine ⟨w.heap.size+1,mark w.heap.size,W1,{target:= .fn (.func gf) lb.toArray,args:= #[.func (.yield (w.heap.size+1)) #[] #[]]},W1,gf,
  (.func (.yield (w.heap.size+1)) #[] #[]::lb).toArray,W1, ?_, ?_,fun _ _=>trivial, ?_,fun h=>(by cases h), ?_⟩
 ·rw [←hW1,hrec];exact run_enterLoop_outer _ _ _ _ _
 ·simp only [resolve,zd5,hg]
  simp [go_sem,ev]
 ·have:=heg (#[.func (.yield (w.heap.size+1)) #[] #[]]++lb.toArray) W1
  simp [invoke,go_sem] at this⊢
  exact this
 ·have hit:=hiter (w.heap.size+1)
   (fun k W=>I k W∧W.heap[w.heap.size+1]? =some (.loop (rec .ready none))∧W.heap[w.heap.size]? =some (.deferred (some [])))
   (fun k W=>∃c,Ix c k W∧W.heap[w.heap.size+1]? =some (.loop (rec .done (some c)))∧W.heap[w.heap.size]? =some (.deferred (some [])))
   W1 hE1 (fun k W W' ⟨h1,h2,h3⟩ hc=>⟨hIT _ _ _ h1 hc,(hc.block _ (Array.getElem?_eq_some_iff.1 h2).1 (fun ht=>by have:=hT _ ht;omega)).trans h2,(hc.block _ (Array.getElem?_eq_some_iff.1 h3).1 (fun ht=>by have:=hT _ ht;omega)).trans h3⟩)
   ?_ ⟨hI1,hL1,hK1⟩
  ·refine CallsIn.mono (show CallsIn (fen none) (0-1) P gf _ W1 _ from callsIn_wide (n:=0-1).2 hit) ?_
   rintro e W2 ⟨v,rfl,⟨hi,hl,hk⟩|⟨k,hk0,c,hi,hl,hk⟩⟩
   ·exact ⟨none,_,by have:=run_endLoop (P:=P) hl (by rw [hrec];simp);rw [hrec] at this;exact this,hdone _ _ (Nat.le_refl _) (hI _ _ _ hi (Book.putObj _ (by omega) hl rfl)) ((World.putObj_heap_other (by omega)).trans hk)⟩
   ·exact ⟨some c,_,by have:=run_endLoop (P:=P) hl (by rw [hrec];simp);rw [hrec] at this;exact this,hstop _ c k _ (Nat.le_refl _) hk0 (hIx _ _ _ _ hi (Book.putObj _ (by omega) hl rfl)) ((World.putObj_heap_other (by omega)).trans hk)⟩
  ·rintro k W hkm ⟨hi,hl,hk⟩
   have hlt:w.heap.size+1<W.heap.size:=(Array.getElem?_eq_some_iff.1 hl).1
   have hy:=run_yield (P:=P) (args:=(vals k).toArray) hl (by rw [hrec];simp [hv])
   rw [hrec] at hy
   refine ⟨fn,_,assign,body,hy, ?_⟩
   have hr:=hround (w.heap.size+1) k W (by omega) hi hkm
   refine roundIn_of_wpIn (F:=Fence.wide) trivial ?_
   have ht:((ps.toArray.zip (vals k).toArray).foldl (fun t (x:Tmp×Value)=>t.setIfInBounds x.1 x.2) (Fr [] n σ).tmps)=(Fr [] n (zgR ps (vals k) σ)).tmps:=zom n ps (vals k) σ
   have hfr:({tmps:=((ps.toArray.zip (vals k).toArray).foldl (fun t (x:Tmp×Value)=>t.setIfInBounds x.1 x.2) (Fr [] n σ).tmps),defers:= []}:Act)=Fr [] n (zgR ps (vals k) σ):=by rw [ht];rfl
   have hr':assign.wpIn (Fence.wide.inRound (w.heap.size+1)) 0 P (Mid P (w.heap.size+1) w.heap.size U I Ix k body W) (Fr [] n (zgR ps (vals k) σ)) W:=hr
   rw [←hfr] at hr'
   refine wpIn_mono hr' ?_
   intro e a Wa hm
   cases e with
   | normal=>
    obtain ⟨hkp,hch,hbody⟩:=hm
    have hla:=hkp.same _ _ hl rfl
    have hka:=hkp.same _ _ hk rfl
    have hlta:w.heap.size+1<Wa.heap.size:=(Array.getElem?_eq_some_iff.1 hla).1
    refine ⟨_,run_beginRound hla (by rw [hrec]), ?_⟩
    have hbk2:Book w.heap.size Wa (Wa.putObj (w.heap.size+1) (.loop {rec .ready none with state:= .busy})):=Book.putObj _ (by omega) hla rfl
    have hl2:(Wa.putObj (w.heap.size+1) (.loop {rec .ready none with state:= .busy})).heap[w.heap.size+1]? =some (.loop {rec .ready none with state:= .busy}):=World.putObj_heap_same hlta
    have hk2:(Wa.putObj (w.heap.size+1) (.loop {rec .ready none with state:= .busy})).heap[w.heap.size]? =some (.deferred (some [])):=(World.putObj_heap_other (by omega)).trans hka
    refine wpIn_mono (hbody _ hbk2) ?_
    have fin:∀(jump:Option Code) (W3:World),Kpt (Wa.putObj (w.heap.size+1) (.loop {rec .ready none with state:= .busy})) W3→
      (Instr.endRound (w.heap.size+1) jump).run P W3= .ok (.bool jump.isNone) (W3.putObj (w.heap.size+1) (.loop (rec (if jump.isNone then .ready else .done) jump)))∧
      W3.heap[w.heap.size+1]? =some (.loop {rec .ready none with state:= .busy})∧
      (W3.putObj (w.heap.size+1) (.loop (rec (if jump.isNone then .ready else .done) jump))).heap[w.heap.size+1]? =some (.loop (rec (if jump.isNone then .ready else .done) jump))∧
      (W3.putObj (w.heap.size+1) (.loop (rec (if jump.isNone then .ready else .done) jump))).heap[w.heap.size]? =some (.deferred (some [])):=fun jump W3 hk3=>by
     have hl3:=hk3.same _ _ hl2 rfl
     have:=run_endRound (P:=P) jump hl3
     rw [hrec] at this⊢
     exact ⟨this,by rw [hrec] at hl3;exact hl3,World.putObj_heap_same (Array.getElem?_eq_some_iff.1 hl3).1,(World.putObj_heap_other (by omega)).trans (hk3.same _ _ hk2 rfl)⟩
    intro e3 a3 W3 hp
    cases e3 with
    | normal=>
     obtain ⟨hk3,hc3,hi3⟩:=hp
     obtain ⟨hr3,hl3,hl4,hk4⟩:=fin none W3 hk3
     refine ⟨_,_,hr3,_,rfl, .inl ⟨rfl,⟨hI _ _ _ hi3 (Book.putObj _ (by omega) hl3 rfl),hl4,hk4⟩, ?_⟩⟩
     have hb2:=hbk2.chg
     have hb3:=(Book.putObj (B:=w.heap.size) (Obj.loop (rec (if (none:Option Code).isNone then .ready else .done) none)) (by omega) hl3 rfl).chg
     exact ((hch.trans (hb2.mono fun b _ h=> .inl h)).trans hc3).trans (hb3.mono fun b _ h=> .inl h)
    | ret=>
     obtain ⟨hk3,hc3,hi3⟩:=hp
     obtain ⟨hr3,hl3,hl4,hk4⟩:=fin (some .ret) W3 hk3
     exact ⟨_,_,hr3,_,rfl, .inr ⟨rfl,((hch.trans (hbk2.chg.mono fun b _ h=> .inl h)).trans hc3).trans ((Book.putObj (B:=w.heap.size) (Obj.loop (rec (if (some Code.ret:Option Code).isNone then .ready else .done) (some .ret))) (by omega) hl3 rfl).chg.mono fun b _ h=> .inl h), .ret,hIx _ _ _ _ hi3 (Book.putObj _ (by omega) hl3 rfl),hl4,hk4⟩⟩
    | exit id=>
     obtain ⟨hk3,hc3,hi3⟩:=hp
     obtain ⟨hr3,hl3,hl4,hk4⟩:=fin (some (.exit id)) W3 hk3
     exact ⟨_,_,hr3,_,rfl, .inr ⟨rfl,((hch.trans (hbk2.chg.mono fun b _ h=> .inl h)).trans hc3).trans ((Book.putObj (B:=w.heap.size) (Obj.loop (rec (if (some (Code.exit id):Option Code).isNone then .ready else .done) (some (.exit id)))) (by omega) hl3 rfl).chg.mono fun b _ h=> .inl h), .exit id,hIx _ _ _ _ hi3 (Book.putObj _ (by omega) hl3 rfl),hl4,hk4⟩⟩
    | goto t=>
     obtain ⟨hk3,hc3,hi3⟩:=hp
     obtain ⟨hr3,hl3,hl4,hk4⟩:=fin (some (.goto t)) W3 hk3
     exact ⟨_,_,hr3,_,rfl, .inr ⟨rfl,((hch.trans (hbk2.chg.mono fun b _ h=> .inl h)).trans hc3).trans ((Book.putObj (B:=w.heap.size) (Obj.loop (rec (if (some (Code.goto t):Option Code).isNone then .ready else .done) (some (.goto t)))) (by omega) hl3 rfl).chg.mono fun b _ h=> .inl h), .goto t,hIx _ _ _ _ hi3 (Book.putObj _ (by omega) hl3 rfl),hl4,hk4⟩⟩
    | panic ch=>exact hp.elim
    | outgrown=>exact hp.elim
   | exit id=>exact hm
   | goto l=>exact hm
   | ret=>exact hm
   | panic ch=>exact hm
   | outgrown=>exact hm
theorem zma {P:Program} {n k:Nat} {σ:List (Nat×Value)} {w:World} {ops:Array Oper} {K:List (Nat×Value)→World→Prop} (d:Option Tmp) (l:Nat) (args:List Value) {R:Value→World→Prop} (hY:Yat P l args w R)
  (h:∀v w',R v w'→K (zak σ d v) w') (he:zbp ops n σ k=some (d,Instr.yield l args.toArray):=by kernel_rfl):zaA P ops n k σ w K:=by
 obtain ⟨fn,tmps,assign,body,hr,hR⟩:=hY
 exact zoX he hr hR h
theorem zgV {P:Program} {w:World} {D:Nat} (h:Mk w D):∃w',(Instr.takeDeferred D).run P w= .ok [] w'∧Chg (· =D) w w'∧Book D w w':=by
 refine ⟨_,run_takeDeferred h,⟨rfl,rfl,rfl,by simp [World.putObj],fun k _ hs=>World.putObj_heap_other hs⟩,Book.putObj _ (Nat.le_refl _) h rfl⟩
end Go.Cs
namespace Go.Cs
def up4 (c:Nat):Nat:=(c+3)/4
def und (n:Nat):Nat→Nat
 | 0=>n
 | l+1=>up4 (und n l)
def cnt (n l:Nat):Nat:=up4 (und n l)
def hgt (n:Nat):Nat:=if n≤4 then 0 else if n≤16 then 1 else if n≤64 then 2 else if n≤256 then 3 else if n≤1024 then 4 else 5
def bas (n:Nat):Nat→Nat
 | 0=>2*n
 | l+1=>bas n l+2*cnt n l
def num (n:Nat):Nat→Nat
 | 0=>0
 | l+1=>num n l+cnt n l
def tot (n:Nat):Nat:=num n (hgt n+1)
def cts (n:Nat):List Nat:=(List.range (hgt n+1)).map (cnt n)
def prt (n l j:Nat):Nat:=min 4 (und n l-4*j)
def idx (i:Nat):Nat→Nat
 | 0=>i/4
 | l+1=>idx i l/4
def wid:Nat→Nat
 | 0=>4
 | l+1=>wid l*4
theorem zec (n l:Nat):und n (l+1)=cnt n l:=rfl
theorem zhp (n l:Nat):cnt n (l+1)=up4 (cnt n l):=rfl
theorem zmi (n:Nat):cnt n 0=up4 n:=rfl
theorem zam (n:Nat):hgt n≤5:=by unfold hgt;repeat' split<;>first | omega | skip
theorem zvR (n l:Nat):und n (l+1)≤und n l:=by rw [und];unfold up4;omega
theorem zkd {n:Nat} (h:1≤n):∀l,1≤und n l
 | 0=>h
 | l+1=>by have:=zkd h l;rw [und];unfold up4;omega
theorem zkf {n:Nat} (h:1≤n) (l:Nat):1≤cnt n l:=zkd h (l+1)
theorem zhE (n:Nat):∀l,und n l≤n
 | 0=>Nat.le_refl _
 | l+1=>Nat.le_trans (zvR n l) (zhE n l)
theorem zbl (n l:Nat):cnt n l≤n:=zhE n (l+1)
theorem zex {n:Nat} (h1:1≤n) (h:n≤4096):cnt n (hgt n)=1:=by
 unfold hgt
 repeat' split
 all_goals simp only [cnt,und,up4];omega
theorem zli {n l:Nat} (hl:l<hgt n):2≤cnt n l:=by
 have h5:=zam n
 have:l=0∨l=1∨l=2∨l=3∨l=4:=by omega
 unfold hgt at hl
 rcases this with rfl | rfl | rfl | rfl | rfl<;>simp only [cnt,und,up4]<;>(repeat' split at hl)<;>omega
theorem zg1 {n l:Nat} (h1:1≤n) (h:n≤4096) (hl:l≤hgt n):cnt n l=1↔l=hgt n:=by
 constructor
 ·intro e
  rcases Nat.lt_or_ge l (hgt n) with h2 | h2
  ·have:=zli h2;omega
  ·omega
 ·rintro rfl;exact zex h1 h
theorem zdX (n:Nat) {l m:Nat} (h:l≤m):num n l≤num n m:=by
 induction m with
 | zero=>
  have:l=0:=by omega
  subst this;exact Nat.le_refl _
 | succ m ih=>
  rcases Nat.lt_or_ge m l with h2 | h2
  ·have:l=m+1:=by omega
   subst this;exact Nat.le_refl _
  ·exact Nat.le_trans (ih h2) (by rw [num];omega)
theorem znV (n:Nat):∀l,num n l≤n*l
 | 0=>by simp [num]
 | l+1=>by have:=znV n l;have:=zbl n l;rw [num,Nat.mul_add];omega
theorem zbN {n l:Nat} (h:n≤4096) (hl:l≤6):num n l≤24576:=by
 have h1:=znV n l
 have h2:n*l≤n*6:=Nat.mul_le_mul_left _ hl
 omega
theorem zev (n:Nat):(cts n).length=hgt n+1:=by simp [cts]
theorem ztC {n l:Nat} (h:l≤hgt n):(cts n).getD l 0=cnt n l:=by
 have:l<hgt n+1:=by omega
 simp [cts,List.getD,this]
theorem zk0 {n l:Nat} (h:l≤hgt n):(cts n).take (l+1)=(cts n).take l++ [cnt n l]:=by
 have h2:l<(cts n).length:=by rw [zev];omega
 rw [List.take_succ_eq_append_getElem h2]
 simp [cts]
theorem zjr {n l:Nat} (h:l≤hgt n):gt (cts n) l=cnt n l:=ztC h
theorem zmV {n l:Nat} (h0:l≠0) (h:l≤hgt n+1):gt (cts n) (l-1)=und n l:=by
 obtain ⟨k,rfl⟩:∃k,l=k+1:=⟨l-1,by omega⟩
 rw [Nat.add_sub_cancel,zjr (by omega),zec]
theorem zt4 {n k:Nat} (hk:k≤hgt n):zZ (((cts n).take k).map (nv .i64)++List.replicate (6-k) (vI 0)) (k*1) [vI (cnt n k)]=((cts n).take (k+1)).map (nv .i64)++List.replicate (6-(k+1)) (vI 0):=by
 have h5:=zam n
 have hl:(((cts n).take k).map (nv .i64)).length=k:=by simp [zev];omega
 have h:=zfP (((cts n).take k).map (nv .i64)) (List.replicate (6-k) (vI 0)) [vI (cnt n k)] (by simp;omega)
 rw [hl] at h
 rw [Nat.mul_one,h,zk0 hk,List.map_append,List.drop_replicate]
 simp [nv,show 6-k-1=6-(k+1) by omega]
theorem zcO {n l:Nat} (h:0<l):und n l=cnt n (l-1):=by
 obtain ⟨k,rfl⟩:∃k,l=k+1:=⟨l-1,by omega⟩
 rfl
def nof (k:Nat):Nat:=1+k%4096
theorem zdo (n l j:Nat):prt n l j≤4:=Nat.min_le_left _ _
theorem zjE {n l j:Nat}:j<cnt n l↔4*j<und n l:=by unfold cnt up4;omega
theorem zbm {n l j w:Nat} (hw:w<4):w<prt n l j↔4*j+w<und n l:=by unfold prt;omega
theorem zbw {n i:Nat} (h:i<n):∀l,idx i l<cnt n l
 | 0=>by rw [idx,zmi];unfold up4;omega
 | l+1=>by have:=zbw h l;rw [idx,zhp];unfold up4;omega
def lev (n s:Nat):Nat:=if s<bas n 1 then 0 else if s<bas n 2 then 1 else if s<bas n 3 then 2 else if s<bas n 4 then 3 else if s<bas n 5 then 4 else 5
end Go.Cs
namespace Go.Cs
open Go
def pup (i k:Nat):List (Nat×Nat):=(List.range k).map fun l=>(l,idx i l)
def zjR (n i:Nat):List (Nat×Nat):=(pup i (hgt n+1)).reverse
def qs (i:Nat):Nat→Nat
 | 0=>i
 | k+1=>qs i k/4
theorem zpa (i:Nat):∀l,idx i l=qs i l/4
 | 0=>rfl
 | l+1=>by rw [idx,zpa i l];rfl
theorem zsk (i:Nat):∀k,qs i k≤i
 | 0=>Nat.le_refl _
 | k+1=>by have:=zsk i k;rw [qs];omega
theorem zl7 (i l:Nat):idx i l≤i:=by rw [zpa];have:=zsk i l;omega
theorem zle (p:Nat×Nat):(zhQ p).length=2:=rfl
theorem zr7 (p:Nat×Nat):∀u∈zhQ p,u.oneCell'=true:=by intro u hu;simp [zhQ] at hu;rcases hu with rfl | rfl<;>rfl
theorem zca {α:Type} {f:α→List Value} {sz:Nat} (hf:∀x,(f x).length=sz) (x:α):∀(l:List α) (i:Nat),i<l.length→zZ (l.flatMap f) (0+i*sz) (f x)=(l.set i x).flatMap f:=by
 intro l i h
 rw [Nat.zero_add]
 rw [zce _ _ _ (by rw [hf,zaC hf];have:=Nat.mul_le_mul_right sz (show i+1≤l.length from h);rw [Nat.add_mul,Nat.one_mul] at this;exact this),zgr hf,hf,
  show i*sz+sz=(i+1)*sz by rw [Nat.add_mul,Nat.one_mul],zee hf,List.set_eq_take_append_cons_drop,if_pos h]
 simp
def rv (l:List (Nat×Nat)) (k:Nat):List (Nat×Nat):=(List.range l.length).map fun p=>if p<k∨l.length≤p+k then l.getD (l.length-1-p) (0,0) else l.getD p (0,0)
end Go.Cs
namespace Go.Cs
open Go
def zmC (n m:Nat):Nat:=if n<m then 6 else if n>m then 5 else 0
def zdQ (l:List UInt8) (t:Nat):Nat:=(((l.drop 1).take t).map UInt8.toNat).sum
end Go.Cs
namespace Go.Cs
open Go Go.RowKit
structure R4 where
 l:List Rec
 h:l.length=4
structure E4 where
 l:List Ent
 h:l.length=4
structure Nod where
 lv:Nat
 ix:Nat
 rs:R4
 es:E4
 hlv:lv<256
 hix:ix<2^32
structure NN where
 k:Nat
 lv:Nat
 ix:Nat
 st:List UInt8
 sd:List UInt8
 hk:k<65536
 hlv:lv<256
 hix:ix<65536
 hst:st.length=4
 hsd:sd.length=4
structure Par where
 r:Rec
 e:Ent
theorem R4.ext' {a b:R4} (h:a.l=b.l):a=b:=by cases a;cases b;cases h;rfl
theorem E4.ext' {a b:E4} (h:a.l=b.l):a=b:=by cases a;cases b;cases h;rfl
theorem Nod.ext' {a b:Nod} (h:a.lv=b.lv) (h2:a.ix=b.ix) (h3:a.rs=b.rs) (h4:a.es=b.es):a=b:=by cases a;cases b;cases h;cases h2;cases h3;cases h4;rfl
def R4.zero:R4:=⟨List.replicate 4 Rec.zero,by simp⟩
def E4.zero:E4:=⟨List.replicate 4 Ent.zero,by simp⟩
def Nod.emp (lv ix:Nat) (h1:lv<256) (h2:ix<2^32):Nod:=⟨lv,ix,R4.zero,E4.zero,h1,h2⟩
def Nod.mt (lv ix:Nat):Nod:=⟨lv%256,ix%2^32,R4.zero,E4.zero,Nat.mod_lt _ (by decide),Nat.mod_lt _ (by decide)⟩
theorem Nod.mt_eq {lv ix:Nat} (h1:lv<256) (h2:ix<2^32):Nod.emp lv ix h1 h2=Nod.mt lv ix:=Nod.ext' (Nat.mod_eq_of_lt h1).symm (Nat.mod_eq_of_lt h2).symm rfl rfl
def Nod.zero:Nod:=Nod.emp 0 0 (by decide) (by decide)
def R4.get (x:R4) (i:Nat):Rec:=x.l.getD i Rec.zero
def E4.get (x:E4) (i:Nat):Ent:=x.l.getD i Ent.zero
def R4.set (x:R4) (i:Nat) (r:Rec):R4:=⟨x.l.set i r,by simp [x.h]⟩
def E4.set (x:E4) (i:Nat) (r:Ent):E4:=⟨x.l.set i r,by simp [x.h]⟩
def Nod.setR (x:Nod) (i:Nat) (r:Rec):Nod:=⟨x.lv,x.ix,x.rs.set i r,x.es,x.hlv,x.hix⟩
def Nod.setE (x:Nod) (i:Nat) (r:Ent):Nod:=⟨x.lv,x.ix,x.rs,x.es.set i r,x.hlv,x.hix⟩
def Nod.setLv (x:Nod) (n:Nat) (h:n<256):Nod:=⟨n,x.ix,x.rs,x.es,h,x.hix⟩
def Nod.setIx (x:Nod) (n:Nat) (h:n<2^32):Nod:=⟨x.lv,n,x.rs,x.es,x.hlv,h⟩
theorem R4.get_set {x:R4} {i j:Nat} {r:Rec} (hi:i<4):(x.set i r).get j=if j=i then r else x.get j:=by
 have h4:=x.h
 simp only [R4.get,R4.set,List.getD,List.getElem?_set]
 by_cases h:i=j
 ·subst h;rw [if_pos rfl,if_pos (by omega),if_pos rfl];rfl
 ·rw [if_neg h,if_neg (fun h2=>h h2.symm)]
theorem E4.get_set {x:E4} {i j:Nat} {r:Ent} (hi:i<4):(x.set i r).get j=if j=i then r else x.get j:=by
 have h4:=x.h
 simp only [E4.get,E4.set,List.getD,List.getElem?_set]
 by_cases h:i=j
 ·subst h;rw [if_pos rfl,if_pos (by omega),if_pos rfl];rfl
 ·rw [if_neg h,if_neg (fun h2=>h h2.symm)]
theorem R4.get_zero (i:Nat):R4.zero.get i=Rec.zero:=by
 simp only [R4.get,R4.zero,List.getD,List.getElem?_replicate];split<;>rfl
theorem E4.get_zero (i:Nat):E4.zero.get i=Ent.zero:=by
 simp only [E4.get,E4.zero,List.getD,List.getElem?_replicate];split<;>rfl
theorem R4.ext_get {x y:R4} (h:∀i,i<4→x.get i=y.get i):x=y:=by
 refine R4.ext' (List.ext_getElem (x.h.trans y.h.symm) fun i h1 h2=> ?_)
 have:=h i (by rw [←x.h];exact h1)
 simpa [R4.get,List.getD,h1,h2] using this
theorem E4.ext_get {x y:E4} (h:∀i,i<4→x.get i=y.get i):x=y:=by
 refine E4.ext' (List.ext_getElem (x.h.trans y.h.symm) fun i h1 h2=> ?_)
 have:=h i (by rw [←x.h];exact h1)
 simpa [E4.get,List.getD,h1,h2] using this
def r4C (x:R4):List Value:=x.l.flatMap zL
def e4C (x:E4):List Value:=x.l.flatMap zW
def zH (x:Nod):List Value:= .int .u8 ((x.lv:Nat):Int):: .int .u32 ((x.ix:Nat):Int)::(r4C x.rs++e4C x.es)
def nnC (x:NN):List Value:= .int .u16 ((x.k:Nat):Int):: .int .u8 ((x.lv:Nat):Int):: .int .u16 ((x.ix:Nat):Int)::(u8s x.st++u8s x.sd)
def zgZ (x:Par):List Value:=zL x.r++zW x.e
@[simp] theorem zdL (x:R4):(r4C x).length=140:=by rw [r4C,zaC zab,x.h]
@[simp] theorem zew (x:E4):(e4C x).length=132:=by rw [e4C,zaC zat,x.h]
@[simp] theorem zN (x:Nod):(zH x).length=274:=by simp [zH]
@[simp] theorem zyT (x:NN):(nnC x).length=11:=by simp [nnC,x.hst,x.hsd]
@[simp] theorem zyi (x:Par):(zgZ x).length=68:=by simp [zgZ]
theorem zto (x:R4):∀u∈r4C x,u.oneCell'=true:=by
 intro u hu;obtain ⟨r,_,h⟩:=List.mem_flatMap.1 hu;exact zbi r u h
theorem ztJ (x:E4):∀u∈e4C x,u.oneCell'=true:=by
 intro u hu;obtain ⟨r,_,h⟩:=List.mem_flatMap.1 hu;exact zch r u h
theorem zct (x:Nod):∀u∈zH x,u.oneCell'=true:=by
 intro u hu
 simp only [zH,List.mem_cons,List.mem_append] at hu
 rcases hu with rfl | rfl | hu | hu
 ·rfl
 ·rfl
 ·exact zto _ u hu
 ·exact ztJ _ u hu
theorem zgb {α:Type} {f:α→List Value} {sz:Nat} (hf:∀x,(f x).length=sz) {l:List α} {i:Nat} (d:α) (h:i<l.length):((l.flatMap f).drop (i*sz)).take sz=f (l.getD i d):=by
 rw [zee hf,List.drop_eq_getElem_cons h,List.flatMap_cons,List.take_append_of_le_length (by rw [hf];omega),List.take_of_length_le (by rw [hf];omega)]
 simp [List.getD,h]
theorem zo1 {x:R4} {i:Nat} (h:i<4):((r4C x).drop (i*35)).take 35=zL (x.get i):=zgb zab _ (by rw [x.h];exact h)
theorem zk3 {x:E4} {i:Nat} (h:i<4):((e4C x).drop (i*33)).take 33=zW (x.get i):=zgb zat _ (by rw [x.h];exact h)
theorem zg4 (x:Nod):((zH x).drop 2).take (r4C x.rs).length=r4C x.rs:=by
 show ((r4C x.rs++e4C x.es)).take _=_
 rw [List.take_append_of_le_length (Nat.le_refl _),List.take_of_length_le (Nat.le_refl _)]
theorem zgK (x:Nod):((zH x).drop 142).take (e4C x.es).length=e4C x.es:=by
 show ((r4C x.rs++e4C x.es).drop 140).take _=_
 rw [List.drop_append,zdL,Nat.sub_self,List.drop_zero,List.drop_eq_nil_of_le (by simp),List.nil_append,List.take_of_length_le (Nat.le_refl _)]
theorem zmb (x:Nod) (k:Nat):(zH x).drop (2+k)=(r4C x.rs++e4C x.es).drop k:=by rw [←List.drop_drop];rfl
theorem nod_r {x:Nod} {i:Nat} (h:i<4):((zH x).drop (2+i*35)).take (zL (x.rs.get i)).length=zL (x.rs.get i):=by
 rw [zmb,zab,List.drop_append_of_le_length (by simp;omega),List.take_append_of_le_length (by simp;omega)]
 exact zo1 h
theorem nod_e {x:Nod} {i:Nat} (h:i<4):((zH x).drop (142+i*33)).take (zW (x.es.get i)).length=zW (x.es.get i):=by
 rw [show 142+i*33=2+(140+i*33) by omega,zmb,zat,List.drop_append,zdL,List.drop_eq_nil_of_le (by simp),List.nil_append,Nat.add_sub_cancel_left]
 exact zk3 h
theorem zge {cs us:List Value} {o j:Nat} {v:Value} (h:(cs.drop o).take us.length=us) (hv:us[j]? =some v):cs[o+j]? =some v:=by
 rw [←h,List.getElem?_take] at hv
 split at hv
 ·rwa [List.getElem?_drop] at hv
 ·cases hv
theorem zsF {x:Nod} {i:Nat} (h:i<4):(zH x)[2+i*35]? =some (.int .u8 (((x.rs.get i).st:Nat):Int)):=zge (j:=0) (nod_r h) rfl
theorem zs3 {x:Nod} {i:Nat} (h:i<4):(zH x)[142+i*33]? =some (.int .u8 (((x.es.get i).st:Nat):Int)):=zge (j:=0) (nod_e h) rfl
theorem zf8 (a b:Value) (cs vs:List Value) (k:Nat):zZ (a::b::cs) (2+k) vs=a::b::zZ cs k vs:=by
 induction vs generalizing cs k with
 | nil=>rfl
 | cons v vs ih=>
  rw [zZ,zZ,Nat.add_assoc,show (a::b::cs).set (2+k) v=a::b::cs.set k v by rw [Nat.add_comm 2 k];rfl,ih]
theorem zcr (p r vs:List Value) (k:Nat) (h:k+vs.length≤p.length):zZ (p++r) k vs=zZ p k vs++r:=by
 rw [zce _ _ _ (by simp;omega),zce _ _ _ h,List.take_append_of_le_length (by omega),List.drop_append_of_le_length h];simp
theorem zfr (p r vs:List Value) (k:Nat) (h:k+vs.length≤r.length):zZ (p++r) (p.length+k) vs=p++zZ r k vs:=by
 rw [zce _ _ _ (by simp;omega),zce _ _ _ h,Nat.add_assoc,List.take_length_add_append,List.drop_length_add_append];simp
theorem nod_setR {x:Nod} {i:Nat} {r:Rec} (h:i<4):zZ (zH x) (2+i*35) (zL r)=zH (x.setR i r):=by
 have h1:=zca zab r x.rs.l i (by rw [x.rs.h];exact h)
 rw [Nat.zero_add] at h1
 rw [zH,zf8,zcr _ _ _ _ (by simp;omega),r4C,h1]
 rfl
theorem nod_setE {x:Nod} {i:Nat} {r:Ent} (h:i<4):zZ (zH x) (142+i*33) (zW r)=zH (x.setE i r):=by
 have h1:=zca zat r x.es.l i (by rw [x.es.h];exact h)
 rw [Nat.zero_add] at h1
 have h2:=zfr (r4C x.rs) (e4C x.es) (zW r) (i*33) (by simp;omega)
 rw [zdL] at h2
 rw [zH,show 142+i*33=2+(140+i*33) by omega,zf8,h2,e4C,h1]
 rfl
structure Gl (b:Nat) (vs:List Value) (w:World):Prop where
 all:At w b 0 vs
 lt:b<w.heap.size
theorem Gl.chg {S:Nat→Prop} {b:Nat} {vs:List Value} {w w':World} (h:Gl b vs w) (hc:Chg S w w') (hs:¬S b:=by intro hs;first |(have h:_=_:=hs;omega)|(rcases hs with hs | hs<;>omega)):Gl b vs w':=⟨h.all.chg hc hs,Nat.lt_of_lt_of_le h.lt hc.size⟩
theorem Gl.ext {b:Nat} {vs:List Value} {w w':World} (h:Gl b vs w) (hc:Ext w w'):Gl b vs w':=h.chg hc (fun hf=>hf)
section
variable {P:Program} {n k:Nat} {σ:List (Nat×Value)} {w w':World}
theorem zhS {T E m sz:Nat} {kk:IntKind} {i:Nat} {cs us:List Value} (hi:i<m) (hu:(cs.drop (i*sz)).take sz=us) (hT:P.underlying T=some (.array m E):=by kernel_rfl) (hsz:(P.info? E).map (·.size)=some sz:=by kernel_rfl) (ha:(P.underlying E).map zcY=some true:=by kernel_rfl):
  (Instr.index T (.agg cs.toArray) (.int kk (i:Int))).run P w= .ok (.agg us.toArray) w:=by
 simp [Instr.index,asIntOf,run_underlying hT,zbA hsz,hi,za0 (w:=w) ha hsz hu]
theorem zf6 {T:TypeId} (a b:Nat) (ha:a<256) (hb:b<2^32) (hp:zdl P T=some [(0,1),(1,1),(2,140),(142,132)]:=by kernel_rfl) (hz:(P.info? T).map (·.zero)=some (some (.agg (zH Nod.zero).toArray)):=by kernel_rfl):
  (Instr.build T #[(0, .int .u8 ((a:Nat):Int)),(1, .int .u32 ((b:Nat):Int))]).run P w= .ok (.agg (zH (Nod.emp a b ha hb)).toArray) w:=by
 refine zcH hp hz rfl ?_
 rw [zbf (off:=0) (size:=1) (vs:= [.int .u8 ((a:Nat):Int)]) rfl rfl rfl (by simp),zbf (off:=1) (size:=1) (vs:= [.int .u32 ((b:Nat):Int)]) rfl rfl rfl (by simp [zbD])]
 rfl
def eqL {α:Type} (d:α) (eqb:α→α→Bool) (n:Nat) (xs ys:List α):Bool:=(List.range n).all fun i=>eqb (xs.getD i d) (ys.getD i d)
theorem ziC {α:Type} {d:α} {eqb:α→α→Bool} (h:∀x y,eqb x y=true↔x=y) {n:Nat} {xs ys:List α} (hx:xs.length=n) (hy:ys.length=n):eqL d eqb n xs ys=true↔xs=ys:=by
 simp only [eqL,List.all_eq_true,List.mem_range,h]
 constructor
 ·intro hh
  refine List.ext_getElem (hx.trans hy.symm) fun i h1 h2=> ?_
  have:=hh i (by omega)
  simpa [List.getD,h1,h2] using this
 ·rintro rfl i _;rfl
theorem zjM {α:Type} {f:α→List Value} {eqb:α→α→Bool} {dd t e n sz:Nat} (d:α) (hf:∀x,(f x).length=sz) (he:∀x y:α,(Op.equalIn dd e (.agg (f x).toArray) (.agg (f y).toArray)).run P w= .ok (eqb x y) w)
  (xs ys:List α) (hx:xs.length=n) (hy:ys.length=n) (ht:P.underlying t=some (.array n e)) (hsz:(P.info? e).map (·.size)=some sz) (ha:(P.underlying e).map zcY=some true):
  (Op.equalIn (dd+1) t (.agg (xs.flatMap f).toArray) (.agg (ys.flatMap f).toArray)).run P w= .ok (eqL d eqb n xs ys) w:=by
 rw [eqL,List.range_eq_range',Op.equalIn]
 simp only [Sem.run_bind,run_underlying ht,Result.andThen_ok,zbA hsz,Std.Legacy.Range.forIn_eq_forIn_range',Std.Legacy.Range.size,Nat.sub_zero,Nat.add_sub_cancel,Nat.div_one]
 have hl:∀i∈List.range' 0 n 1,i<n:=fun i hi=>by simpa using (List.mem_range'_1.1 hi).2
 generalize List.range' 0 n 1=l at hl⊢
 induction l with
 | nil=>simp
 | cons i l ih=>
  have hi:i<n:=hl i (by simp)
  have px:=za0 (P:=P) (w:=w) (o:=i*sz) ha hsz (zgb hf d (l:=xs) (i:=i) (by omega))
  have py:=za0 (P:=P) (w:=w) (o:=i*sz) ha hsz (zgb hf d (l:=ys) (i:=i) (by omega))
  have pe:=he (xs.getD i d) (ys.getD i d)
  simp only [List.forIn_cons,Sem.run_bind,px,py,pe,Result.andThen_ok,List.all_cons]
  cases hb:eqb (xs.getD i d) (ys.getD i d)
  ·simp
  ·simp only [Bool.not_true,Bool.false_eq_true,if_false,Sem.run_pure,Result.andThen_ok,Bool.true_and]
   exact ih fun j hj=>hl j (by simp [hj])
def R4.eqb (x y:R4):Bool:=eqL Rec.zero Rec.eqb 4 x.l y.l
def E4.eqb (x y:E4):Bool:=eqL Ent.zero Ent.eqb 4 x.l y.l
def Nod.eqb (x y:Nod):Bool:=x.lv==y.lv&&(x.ix==y.ix&&(x.rs.eqb y.rs&&(x.es.eqb y.es&&true)))
theorem R4.eqb_iff (x y:R4):x.eqb y=true↔x=y:=(ziC Rec.eqb_iff x.h y.h).trans ⟨R4.ext',fun h=>by rw [h]⟩
theorem E4.eqb_iff (x y:E4):x.eqb y=true↔x=y:=(ziC Ent.eqb_iff x.h y.h).trans ⟨E4.ext',fun h=>by rw [h]⟩
theorem Nod.eqb_iff (x y:Nod):x.eqb y=true↔x=y:=by
 constructor
 ·intro h;simp [Nod.eqb] at h;exact Nod.ext' h.1 h.2.1 ((R4.eqb_iff _ _).1 h.2.2.1) ((E4.eqb_iff _ _).1 h.2.2.2)
 ·rintro rfl;simp [Nod.eqb,(R4.eqb_iff x.rs x.rs).2 rfl,(E4.eqb_iff x.es x.es).2 rfl]
theorem zhO {dd T t t8 tn td e t32 t64:Nat} (x y:R4) (hT:P.underlying T=some (.array 4 t):=by kernel_rfl) (hst:(P.info? t).map (·.size)=some 35:=by kernel_rfl)
  (hF:zay P t= [(true,t8,0),(true,tn,1),(true,td,3)]:=by kernel_rfl) (hp:P.stoodInHeld t=false:=by kernel_rfl) (h8:P.underlying t8=some (.int .u8):=by kernel_rfl)
  (hFn:zay P tn= [(true,t32,0),(true,t64,1)]:=by kernel_rfl) (hpn:P.stoodInHeld tn=false:=by kernel_rfl) (h1:P.underlying t32=some (.int .u32):=by kernel_rfl) (h2:P.underlying t64=some (.int .u64):=by kernel_rfl) (hsn:(P.info? tn).map (·.size)=some 2:=by kernel_rfl)
  (hd:P.underlying td=some (.array 32 e):=by kernel_rfl) (he:P.underlying e=some (.int .u8):=by kernel_rfl) (hse:(P.info? e).map (·.size)=some 1:=by kernel_rfl) (hsd:(P.info? td).map (·.size)=some 32:=by kernel_rfl):
  (Op.equalIn (dd+4) T (.agg (r4C x).toArray) (.agg (r4C y).toArray)).run P w= .ok (x.eqb y) w:=
 zjM Rec.zero zab (fun a b=>zcd (dd:=dd) a b hF hp h8 hFn hpn h1 h2 hsn hd he hse hsd) x.l y.l x.h y.h hT hst (by rw [zc0 ⟨_,_,hF⟩];rfl)
theorem zhT {dd T t t8 td e:Nat} (x y:E4) (hT:P.underlying T=some (.array 4 t):=by kernel_rfl) (hst:(P.info? t).map (·.size)=some 33:=by kernel_rfl)
  (hF:zay P t= [(true,t8,0),(true,td,1)]:=by kernel_rfl) (hp:P.stoodInHeld t=false:=by kernel_rfl) (h8:P.underlying t8=some (.int .u8):=by kernel_rfl)
  (hd:P.underlying td=some (.array 32 e):=by kernel_rfl) (he:P.underlying e=some (.int .u8):=by kernel_rfl) (hse:(P.info? e).map (·.size)=some 1:=by kernel_rfl) (hsd:(P.info? td).map (·.size)=some 32:=by kernel_rfl):
  (Op.equalIn (dd+4) T (.agg (e4C x).toArray) (.agg (e4C y).toArray)).run P w= .ok (x.eqb y) w:=
 zjM Ent.zero zat (fun a b=>za2 (dd:=dd) a b hF hp h8 hd he hse hsd) x.l y.l x.h y.h hT hst (by rw [zc0 ⟨_,_,hF⟩];rfl)
end
def zc7 {α:Type} (f:α→Nat) (g:Nat→α):Nat→Nat
 | 0=>0
 | n+1=>if zc7 f g n=0 then f (g n) else zc7 f g n
theorem zba {α:Type} {f:α→Nat} {g:Nat→α}:∀{n:Nat},zc7 f g n=0↔∀i,i<n→f (g i)=0
 | 0=>⟨fun _ i h=>absurd h (by omega),fun _=>rfl⟩
 | n+1=>by
  rw [zc7]
  split
  ·next h=>exact ⟨fun h2 i hi=>by rcases Nat.lt_or_ge i n with h3 | h3;exact zba.1 h i h3;rwa [show i=n by omega],fun h2=>h2 n (by omega)⟩
  ·next h=>exact ⟨fun h2=>absurd h2 h,fun h2=>absurd (zba.2 fun i hi=>h2 i (by omega)) h⟩
theorem zgk {α:Type} {f:α→Nat} {g:Nat→α} (hf:∀x,f x=0∨f x=1):∀n,zc7 f g n=0∨zc7 f g n=1
 | 0=> .inl rfl
 | n+1=>by rw [zc7];split;exact hf _;exact zgk hf n
theorem zdO {α:Type} {f:α→Nat} {g:Nat→α} (hf:∀x,f x=0∨f x=1) {n i:Nat} (hi:i<n) (h:f (g i)≠0):zc7 f g n=1:=by
 rcases zgk (g:=g) hf n with h1 | h1
 ·exact absurd (zba.1 h1 i hi) h
 ·exact h1
def zgN (x:R4):Nat:=zc7 zaB x.get 4
def zgU (x:E4):Nat:=zc7 za3 x.get 4
def zaz (x:Nod):Nat:=if 5<x.lv then 1 else if x.lv=0 then (if x.es.eqb E4.zero=true then zgN x.rs else 1) else if x.rs.eqb R4.zero=true then zgU x.es else 1
theorem zj1 (x:Nod):zaz x=0∨zaz x=1:=by
 unfold zaz;repeat' split
 all_goals first | exact .inr rfl | exact zgk zeC 4 | exact zgk zeE 4
def zbU {α:Type} (f:α→List UInt8) (g:Nat→α):Nat→List UInt8
 | 0=> []
 | n+1=>zbU f g n++f (g n)
theorem ze1 {α:Type} {f:α→List UInt8} {g:Nat→α} {sz:Nat} (hf:∀x,(f x).length=sz):∀n,(zbU f g n).length=n*sz
 | 0=>by simp [zbU]
 | n+1=>by rw [zbU,List.length_append,ze1 hf n,hf,Nat.add_mul,Nat.one_mul]
def zeL (x:Nod):List UInt8:=UInt8.ofNat x.lv::be x.ix 4
def zR (x:Nod):List UInt8:=zeL x++(if x.lv=0 then zbU zb0 x.rs.get 4 else zbU zcp x.es.get 4)
theorem zfF (x:Nod):(zR x).length=if x.lv=0 then 185 else 137:=by
 rw [zR,List.length_append]
 split
 ·simp [zeL,ze1 zi7]
 ·simp [zeL,ze1 zjc]
def R4.of (l:List UInt8):R4:=⟨(List.range 4).map fun i=>Rec.of ((l.drop (5+i*45)).take 45),by simp⟩
def E4.of (l:List UInt8):E4:=⟨(List.range 4).map fun i=>Ent.of ((l.drop (5+i*33)).take 33),by simp⟩
def Nod.of (l:List UInt8):Nod:=⟨byt l 0,za6 ((l.drop 1).take 4) 4,if byt l 0=0 then R4.of l else R4.zero,if byt l 0=0 then E4.zero else E4.of l,zfq _ _,zd2 _ 4⟩
def mkD (s:Nat):Dig:=⟨(List.range 32).map fun i=>UInt8.ofNat (s+7*i),by simp⟩
def mkR (st sd:Nat):Rec:=if st%3=0 then Rec.zero else ⟨st%3,⟨sd%8,sd%256*257,by omega,by omega⟩,mkD sd,by omega⟩
def mkE (st sd:Nat):Ent:=if st%3=0 then Ent.zero else ⟨st%3,mkD sd,by omega⟩
theorem zj8 (st sd:Nat):zaB (mkR st sd)=0:=by
 unfold mkR
 split
 ·decide
 ·next h1=>unfold zaB;simp only [];rw [if_neg (by omega),if_neg h1]
def NN.n (x:NN):Nat:=nof x.k
def NN.l (x:NN):Nat:=x.lv%(hgt x.n+1)
def NN.j (x:NN):Nat:=x.ix%cnt x.n x.l
def NN.p (x:NN):Nat:=prt x.n x.l x.j
def NN.nod (x:NN) (p:Nat):Nod:=⟨x.l,x.j,⟨(List.range 4).map fun i=>if i<p∧x.l=0 then mkR (byt x.st i) (byt x.sd i) else Rec.zero,by simp⟩,
 ⟨(List.range 4).map fun i=>if i<p∧¬x.l=0 then mkE (byt x.st i) (byt x.sd i) else Ent.zero,by simp⟩,Nat.lt_of_le_of_lt (Nat.mod_le _ _) x.hlv,Nat.lt_of_le_of_lt (Nat.mod_le _ _) (Nat.lt_trans x.hix (by decide))⟩
theorem NN.nod_r (x:NN) (p:Nat) {i:Nat} (h:i<4):(x.nod p).rs.get i=if i<p∧x.l=0 then mkR (byt x.st i) (byt x.sd i) else Rec.zero:=by simp [NN.nod,R4.get,List.getD,h]
theorem NN.nod_e (x:NN) (p:Nat) {i:Nat} (h:i<4):(x.nod p).es.get i=if i<p∧¬x.l=0 then mkE (byt x.st i) (byt x.sd i) else Ent.zero:=by simp [NN.nod,E4.get,List.getD,h]
theorem NN.nod_setR (x:NN) {p:Nat} (h:p<4) (h0:x.l=0):(x.nod p).setR p (mkR (byt x.st p) (byt x.sd p))=x.nod (p+1):=by
 refine Nod.ext' rfl rfl (R4.ext_get fun i hi=> ?_) (E4.ext_get fun i hi=> ?_)
 ·show ((x.nod p).rs.set p _).get i=_
  rw [R4.get_set h,NN.nod_r x _ hi,NN.nod_r x _ hi]
  by_cases h1:i=p
  ·subst h1;rw [if_pos rfl,if_pos ⟨by omega,h0⟩]
  ·rw [if_neg h1];by_cases h2:i<p
   ·rw [if_pos ⟨h2,h0⟩,if_pos ⟨by omega,h0⟩]
   ·rw [if_neg (by omega),if_neg (by omega)]
 ·show (x.nod p).es.get i=_
  rw [NN.nod_e x _ hi,NN.nod_e x _ hi,if_neg (by simp [h0]),if_neg (by simp [h0])]
theorem NN.nod_setE (x:NN) {p:Nat} (h:p<4) (h0:¬x.l=0):(x.nod p).setE p (mkE (byt x.st p) (byt x.sd p))=x.nod (p+1):=by
 refine Nod.ext' rfl rfl (R4.ext_get fun i hi=> ?_) (E4.ext_get fun i hi=> ?_)
 ·show (x.nod p).rs.get i=_
  rw [NN.nod_r x _ hi,NN.nod_r x _ hi,if_neg (by simp [h0]),if_neg (by simp [h0])]
 ·show ((x.nod p).es.set p _).get i=_
  rw [E4.get_set h,NN.nod_e x _ hi,NN.nod_e x _ hi]
  by_cases h1:i=p
  ·subst h1;rw [if_pos rfl,if_pos ⟨by omega,h0⟩]
  ·rw [if_neg h1];by_cases h2:i<p
   ·rw [if_pos ⟨h2,h0⟩,if_pos ⟨by omega,h0⟩]
   ·rw [if_neg (by omega),if_neg (by omega)]
theorem zpg {x:Nod} {i:Nat} (h0:x.lv=0) (hi:i<4) (h:(x.es.get i).eqb Ent.zero=false):zaz x=1:=by
 unfold zaz
 rw [if_neg (by omega),if_pos h0,if_neg]
 intro hh
 rw [(E4.eqb_iff _ _).1 hh,E4.get_zero,(Ent.eqb_iff _ _).2 rfl] at h
 cases h
theorem zpU {x:Nod} {i:Nat} (h0:¬x.lv=0) (hi:i<4) (h:(x.rs.get i).eqb Rec.zero=false):zaz x=1:=by
 unfold zaz
 split
 ·rfl
 ·try rw [if_neg h0]
  rw [if_neg]
  intro hh
  rw [(R4.eqb_iff _ _).1 hh,R4.get_zero,(Rec.eqb_iff _ _).2 rfl] at h
  cases h
def Zs (x:Nod) (i:Nat):Prop:=(x.lv=0→∀k,k<i→x.es.get k=Ent.zero)∧(¬x.lv=0→∀k,k<i→x.rs.get k=Rec.zero)
theorem Zs.zero (x:Nod):Zs x 0:=⟨fun _ k h=>absurd h (by omega),fun _ k h=>absurd h (by omega)⟩
theorem Zs.stepE {x:Nod} {i:Nat} (h:Zs x i) (h0:x.lv=0) (hq:(x.es.get i).eqb Ent.zero=true):Zs x (i+1):=
 ⟨fun _ k hk=>by rcases Nat.lt_or_ge k i with h1 | h1;exact h.1 h0 k h1;rw [show k=i by omega];exact (Ent.eqb_iff _ _).1 hq,fun h1=>absurd h0 h1⟩
theorem Zs.stepR {x:Nod} {i:Nat} (h:Zs x i) (h0:¬x.lv=0) (hq:(x.rs.get i).eqb Rec.zero=true):Zs x (i+1):=
 ⟨fun h1=>absurd h1 h0,fun _ k hk=>by rcases Nat.lt_or_ge k i with h1 | h1;exact h.2 h0 k h1;rw [show k=i by omega];exact (Rec.eqb_iff _ _).1 hq⟩
def ckA (x:Nod) (i:Nat):Nat:=if x.lv=0 then zc7 zaB x.rs.get i else zc7 za3 x.es.get i
theorem zfE {x:Nod} (h5:x.lv≤5) (h:Zs x 4):zaz x=ckA x 4:=by
 unfold zaz ckA
 rw [if_neg (by omega)]
 by_cases h0:x.lv=0
 ·rw [if_pos h0,if_pos h0,if_pos ((E4.eqb_iff _ _).2 (E4.ext_get fun i hi=>by rw [h.1 h0 i hi,E4.get_zero]))];rfl
 ·rw [if_neg h0,if_neg h0,if_pos ((R4.eqb_iff _ _).2 (R4.ext_get fun i hi=>by rw [h.2 h0 i hi,R4.get_zero]))];rfl
theorem zrs (x:Nod):ckA x 0=0:=by unfold ckA;split<;>rfl
theorem zwG {x:Nod} {i:Nat} (h:ckA x i=0) (h0:x.lv=0):ckA x (i+1)=zaB (x.rs.get i):=by
 unfold ckA at*;rw [if_pos h0] at*;rw [zc7,if_pos h]
theorem zwp {x:Nod} {i:Nat} (h:ckA x i=0) (h0:¬x.lv=0):ckA x (i+1)=za3 (x.es.get i):=by
 unfold ckA at*;rw [if_neg h0] at*;rw [zc7,if_pos h]
theorem zpJ {x:Nod} {i:Nat} (hi:i<4) (h0:x.lv=0) (h:zaB (x.rs.get i)≠0):ckA x 4=zaB (x.rs.get i):=by
 unfold ckA;rw [if_pos h0,zdO zeC hi h];rcases zeC (x.rs.get i) with h1 | h1<;>omega
theorem zpx {x:Nod} {i:Nat} (hi:i<4) (h0:¬x.lv=0) (h:za3 (x.es.get i)≠0):ckA x 4=za3 (x.es.get i):=by
 unfold ckA;rw [if_neg h0,zdO zeE hi h];rcases zeE (x.es.get i) with h1 | h1<;>omega
theorem zob {x:R4} {i:Nat} (hi:i<4) (h:¬zaB (x.get i)=0):zaB (x.get i)=zgN x:=by
 unfold zgN;rw [zdO zeC hi h];rcases zeC (x.get i) with h1 | h1<;>omega
theorem zol {x:E4} {i:Nat} (hi:i<4) (h:¬za3 (x.get i)=0):za3 (x.get i)=zgU x:=by
 unfold zgU;rw [zdO zeE hi h];rcases zeE (x.get i) with h1 | h1<;>omega
def usd (x:Nod):Nat→Nat
 | 0=>0
 | i+1=>usd x i+(if x.lv=0 then (if (x.rs.get i).st=0 then 0 else 1) else (if (x.es.get i).st=0 then 0 else 1))
theorem zpM (x:Nod):∀i,usd x i≤i
 | 0=>Nat.le_refl _
 | i+1=>by
  have:=zpM x i
  rw [usd]
  repeat' split
  all_goals omega
def emp (x:Nod) (p:Nat):Bool:=(List.range 4).all fun i=>decide (i<p)||((x.rs.get i).eqb Rec.zero&&(x.es.get i).eqb Ent.zero)
theorem zfH {x:Nod} {p:Nat}:emp x p=true↔∀k,p≤k→k<4→(x.rs.get k).eqb Rec.zero=true∧(x.es.get k).eqb Ent.zero=true:=by
 simp only [emp,List.all_eq_true,List.mem_range,Bool.or_eq_true,decide_eq_true_eq,Bool.and_eq_true]
 exact ⟨fun h k h1 h2=>(h k h2).resolve_left (by omega),fun h k h2=>by rcases Nat.lt_or_ge k p with h1 | h1;exact .inl h1;exact .inr (h k h1 h2)⟩
theorem zlL {x:Nod} {p i:Nat} (hp:p≤i) (hi:i<4) (h:(x.rs.get i).eqb Rec.zero=false):emp x p=false:=by
 cases he:emp x p
 ·rfl
 ·have:=(zfH.1 he i hp hi).1;rw [h] at this;cases this
theorem zlI {x:Nod} {p i:Nat} (hp:p≤i) (hi:i<4) (h:(x.es.get i).eqb Ent.zero=false):emp x p=false:=by
 cases he:emp x p
 ·rfl
 ·have:=(zfH.1 he i hp hi).2;rw [h] at this;cases this
def zb1 (n:Nat) (x:Nod):Nat:=if zaz x=0 then (if x.lv≤hgt n∧x.ix<cnt n x.lv then (if emp x (prt n x.lv x.ix)=true then 0 else 17) else 17) else 1
theorem zlN {n:Nat} {x:Nod} (h:¬zaz x=0):zaz x=zb1 n x:=by
 unfold zb1;rw [if_neg h];rcases zj1 x with h1 | h1<;>omega
theorem zlz {n:Nat} {x:Nod} (h:zaz x=0) (h1:¬(x.lv≤hgt n∧x.ix<cnt n x.lv)):zb1 n x=17:=by
 unfold zb1;rw [if_pos h,if_neg h1]
theorem ze4 {n:Nat} {x:Nod} (h:zaz x=0) (h1:x.lv≤hgt n∧x.ix<cnt n x.lv):zb1 n x=if emp x (prt n x.lv x.ix)=true then 0 else 17:=by
 unfold zb1;rw [if_pos h,if_pos h1]
def zgc (x:Nod) (p:Int) (k:Nat):Nat:=if p<0 then 1 else if p≥4 then 1 else if zaz x=0 then (if min x.lv 1=k then 0 else 1) else 1
def zcj (x:Nod):Nat:=if x.lv=0 then 185 else 137
theorem zvf (x:Nod):(zR x).length=zcj x:=zfF x
theorem zgP (x:Nod):([.int .u8 ((x.lv:Nat):Int), .int .u8 ((x.ix/256^3%2^8:Nat):Int), .int .u8 ((x.ix/256^2%2^8:Nat):Int), .int .u8 ((x.ix/256^1%2^8:Nat):Int), .int .u8 ((x.ix%2^8:Nat):Int)]:List Value)=
  u8s [UInt8.ofNat x.lv,UInt8.ofNat (x.ix/256^3%2^8),UInt8.ofNat (x.ix/256^2%2^8),UInt8.ofNat (x.ix/256^1%2^8),UInt8.ofNat (x.ix%2^8)]:=by
 have h:=x.hlv
 simp only [u8s,List.map_cons,List.map_nil,UInt8.toNat_ofNat',Nat.mod_mod,Nat.mod_eq_of_lt (show x.lv<2^8 from h)]
theorem zsf (x:Nod): [UInt8.ofNat x.lv,UInt8.ofNat (x.ix/256^3%2^8),UInt8.ofNat (x.ix/256^2%2^8),UInt8.ofNat (x.ix/256^1%2^8),UInt8.ofNat (x.ix%2^8)]=zeL x:=by
 have hm:∀n:Nat,UInt8.ofNat (n%2^8)=UInt8.ofNat n:=zlF
 rw [hm,hm,hm,hm]
 show _=UInt8.ofNat x.lv::be x.ix 4
 simp [be,List.range,List.range.loop]
theorem zgF {L l:List UInt8} {v:Value} {n k m:Nat} (hL:L.length=n) (hk:l.length=k) (h:k≤m):zZ (u8s L++List.replicate m v) (n*1) (u8s l)=u8s (L++l)++List.replicate (m-k) v:=by
 have h1:=zfP (u8s L) (List.replicate m v) (u8s l) (by simp;omega)
 rw [zbd,hL,zbd,hk,List.drop_replicate] at h1
 rw [Nat.mul_one,h1]
 simp [u8s]
theorem zhb {x:Nod} (h:zaz x=0) (h0:x.lv=0):zgN x.rs=0:=by
 unfold zaz at h
 rw [if_neg (by omega),if_pos h0] at h
 split at h
 ·exact h
 ·cases h
theorem ziq {x:Nod} (h:zaz x=0):x.lv≤5:=by
 unfold zaz at h
 split at h
 ·cases h
 ·omega
theorem zgj {x:Nod} (h:zaz x=0) (h0:¬x.lv=0):zgU x.es=0:=by
 have h5:=ziq h
 unfold zaz at h
 rw [if_neg (by omega),if_neg h0] at h
 split at h
 ·exact h
 ·cases h
end Go.Cs
namespace Go.Cs
open Go Go.RowKit
def zdK (l:List UInt8) (sz i:Nat):List UInt8:=(l.drop (5+i*sz)).take sz
def zdD (l:List UInt8) (i:Nat):Nod:=⟨byt l 0,za6 ((l.drop 1).take 4) 4,
 ⟨(List.range 4).map fun k=>if k<i∧byt l 0=0 then Rec.of (zdK l 45 k) else Rec.zero,by simp⟩,
 ⟨(List.range 4).map fun k=>if k<i∧¬byt l 0=0 then Ent.of (zdK l 33 k) else Ent.zero,by simp⟩,zfq _ _,zd2 _ 4⟩
def ckL (l:List UInt8) (i:Nat):Nat:=if byt l 0=0 then zc7 zaB (fun k=>Rec.of (zdK l 45 k)) i else zc7 za3 (fun k=>Ent.of (zdK l 33 k)) i
def zeI (l:List UInt8):Nat:=if byt l 0=0 then 185 else 137
def zcG (l:List UInt8):Nat:=if l.length=0 then 6 else if 5<byt l 0 then 1 else if l.length<zeI l then 6 else if zeI l<l.length then 5 else ckL l 4
def zlV (l:List UInt8):Nod:=if zcG l=0 then zdD l 4 else Nod.zero
theorem zgq {x:Nod} (h:zaz x=0):(x.lv=0→x.es=E4.zero)∧(¬x.lv=0→x.rs=R4.zero):=by
 have h5:=ziq h
 unfold zaz at h
 rw [if_neg (by omega)] at h
 constructor
 ·intro h0;rw [if_pos h0] at h;split at h
  ·exact (E4.eqb_iff _ _).1 ‹_›
  ·cases h
 ·intro h0;rw [if_neg h0] at h;split at h
  ·exact (R4.eqb_iff _ _).1 ‹_›
  ·cases h
end Go.Cs
namespace Go.Cs
open Go Go.RowKit
theorem R4.set_set (x:R4) (i:Nat) (a b:Rec):(x.set i a).set i b=x.set i b:=R4.ext' (by simp [R4.set])
theorem E4.set_set (x:E4) (i:Nat) (a b:Ent):(x.set i a).set i b=x.set i b:=E4.ext' (by simp [E4.set])
theorem zkK {y:Nod} {i:Nat} {r:Rec} (hi:i<4) (h:zaz y=0) (h0:y.lv=0):zaz (y.setR i r)=zaB r:=by
 have hz:=zhb h h0
 rw [zfE (x:=y.setR i r) (show y.lv≤5 by omega) ⟨fun _ k hk=>by rw [show (y.setR i r).es=y.es from rfl,(zgq h).1 h0,E4.get_zero],fun h1=>absurd h0 h1⟩]
 unfold ckA;rw [if_pos (show (y.setR i r).lv=0 from h0)]
 have hg:∀k,(y.setR i r).rs.get k=if k=i then r else y.rs.get k:=fun k=>R4.get_set hi
 rcases zeC r with h1 | h1
 ·rw [h1];refine zba.2 fun k hk=> ?_
  rw [hg];split
  ·exact h1
  ·exact zba.1 hz k hk
 ·rw [h1];exact zdO (i:=i) zeC hi (by rw [hg,if_pos rfl,h1];decide)
theorem zpG {y:Nod} {i:Nat} {r:Ent} (hi:i<4) (h:zaz y=0) (h0:¬y.lv=0):zaz (y.setE i r)=za3 r:=by
 have hz:=zgj h h0
 rw [zfE (x:=y.setE i r) (show y.lv≤5 from ziq h) ⟨fun h1=>absurd h1 h0,fun _ k hk=>by rw [show (y.setE i r).rs=y.rs from rfl,(zgq h).2 h0,R4.get_zero]⟩]
 unfold ckA;rw [if_neg (show ¬(y.setE i r).lv=0 from h0)]
 have hg:∀k,(y.setE i r).es.get k=if k=i then r else y.es.get k:=fun k=>E4.get_set hi
 rcases zeE r with h1 | h1
 ·rw [h1];refine zba.2 fun k hk=> ?_
  rw [hg];split
  ·exact h1
  ·exact zba.1 hz k hk
 ·rw [h1];exact zdO (i:=i) zeE hi (by rw [hg,if_pos rfl,h1];decide)
end Go.Cs
namespace Go.Cs
open Go Go.RowKit
def rr (x:UInt32) (k:Nat):UInt32:=UInt32.ofNat (rot x.toNat (-(k:Int)))
theorem zqk (x:UInt32) (k:Nat):(rr x k).toNat=rot x.toNat (-(k:Int)):=by
 rw [rr,UInt32.toNat_ofNat',Nat.mod_eq_of_lt (zqe x.toNat_lt)]
theorem zuM (x:UInt32) {k:Nat} (h1:1≤k) (h2:k≤31):x.toNat/2^k ||| x.toNat*2^(32-k)%2^32=(rr x k).toNat:=by
 rw [zqk,rot,zf3,show (-(k:Int)%32).toNat=32-k by omega,show 32-(32-k)=k by omega,Nat.or_comm]
structure WA (n:Nat) where
 l:List UInt32
 h:l.length=n
theorem WA.ext' {n:Nat} {a b:WA n} (h:a.l=b.l):a=b:=by cases a;cases b;cases h;rfl
def WA.zero (n:Nat):WA n:=⟨List.replicate n 0,by simp⟩
def WA.get {n:Nat} (x:WA n) (i:Nat):UInt32:=x.l.getD i 0
def WA.set {n:Nat} (x:WA n) (i:Nat) (v:UInt32):WA n:=⟨x.l.set i v,by simp [x.h]⟩
theorem WA.get_set {n:Nat} {x:WA n} {i j:Nat} {v:UInt32} (hi:i<n):(x.set i v).get j=if j=i then v else x.get j:=by
 have h4:=x.h
 simp only [WA.get,WA.set,List.getD,List.getElem?_set]
 by_cases h:i=j
 ·subst h;rw [if_pos rfl,if_pos (by omega),if_pos rfl];rfl
 ·rw [if_neg h,if_neg (fun h2=>h h2.symm)]
theorem WA.ext_get {n:Nat} {x y:WA n} (h:∀i,i<n→x.get i=y.get i):x=y:=by
 refine WA.ext' (List.ext_getElem (x.h.trans y.h.symm) fun i h1 h2=> ?_)
 have:=h i (by rw [←x.h];exact h1)
 simpa [WA.get,List.getD,h1,h2] using this
theorem WA.get_mk {n:Nat} (f:Nat→UInt32) (h:((List.range n).map f).length=n) {i:Nat} (hi:i<n):(WA.mk ((List.range n).map f) h).get i=f i:=by simp [WA.get,List.getD,hi]
def zop (x:UInt32):UInt32:=rr x 7^^^rr x 18^^^(x>>>3)
def zoG (x:UInt32):UInt32:=rr x 17^^^rr x 19^^^(x>>>10)
def zn2 (b:List UInt8) (x:WA 64) (t:Nat):UInt32:=
 if t<16 then UInt32.ofNat (za6 ((b.drop (4*t)).take 4) 4) else x.get (t-16)+x.get (t-7)+zop (x.get (t-15))+zoG (x.get (t-2))
def zA (b:List UInt8):Nat→WA 64
 | 0=>WA.zero 64
 | t+1=>(zA b t).set t (zn2 b (zA b t) t)
def kL:List UInt32:= [1116352408,1899447441,3049323471,3921009573,961987163,1508970993,2453635748,2870763221,3624381080,310598401,607225278,1426881987,1925078388,2162078206,2614888103,3248222580,3835390401,4022224774,264347078,604807628,770255983,1249150122,1555081692,1996064986,2554220882,2821834349,2952996808,3210313671,3336571891,3584528711,113926993,338241895,666307205,773529912,1294757372,1396182291,1695183700,1986661051,2177026350,2456956037,2730485921,2820302411,3259730800,3345764771,3516065817,3600352804,4094571909,275423344,430227734,506948616,659060556,883997877,958139571,1322822218,1537002063,1747873779,1955562222,2024104815,2227730452,2361852424,2428436474,2756734187,3204031479,3329325298]
def kA:WA 64:=⟨kL,rfl⟩
def zaV:WA 8:=⟨[1779033703,3144134277,1013904242,2773480762,1359893119,2600822924,528734635,1541459225],rfl⟩
def T1 (x:WA 8) (k w:UInt32):UInt32:=x.get 7+(rr (x.get 4) 6^^^rr (x.get 4) 11^^^rr (x.get 4) 25)+((x.get 4&&&x.get 5)^^^(~~~(x.get 4)&&&x.get 6))+k+w
def T2 (x:WA 8):UInt32:=(rr (x.get 0) 2^^^rr (x.get 0) 13^^^rr (x.get 0) 22)+((x.get 0&&&x.get 1)^^^(x.get 0&&&x.get 2)^^^(x.get 1&&&x.get 2))
def rnd (x:WA 8) (k w:UInt32):WA 8:=⟨[T1 x k w+T2 x,x.get 0,x.get 1,x.get 2,x.get 3+T1 x k w,x.get 4,x.get 5,x.get 6],rfl⟩
def zfd (h:WA 8) (w:WA 64):Nat→WA 8
 | 0=>h
 | t+1=>rnd (zfd h w t) (kA.get t) (w.get t)
def zdA (h x:WA 8) (i:Nat):WA 8:=⟨(List.range 8).map fun j=>if j<i then h.get j+x.get j else h.get j,by simp⟩
theorem zgG (h x:WA 8) (i:Nat) {j:Nat} (hj:j<8):(zdA h x i).get j=if j<i then h.get j+x.get j else h.get j:=WA.get_mk _ _ hj
theorem zqA (h x:WA 8):zdA h x 0=h:=WA.ext_get fun j hj=>by rw [zgG _ _ _ hj,if_neg (Nat.not_lt_zero _)]
theorem zo8 {h x:WA 8} {i:Nat} (hi:i<8):(zdA h x i).set i ((zdA h x i).get i+x.get i)=zdA h x (i+1):=WA.ext_get fun j hj=>by
 by_cases h1:j=i
 ·subst h1;rw [WA.get_set hi,if_pos rfl,zgG _ _ _ hi,if_neg (Nat.lt_irrefl _),zgG _ _ _ hi,if_pos (Nat.lt_succ_self _)]
 ·rw [WA.get_set hi,if_neg h1,zgG _ _ _ hj,zgG _ _ _ hj]
  by_cases h2:j<i
  ·rw [if_pos h2,if_pos (by omega)]
  ·rw [if_neg h2,if_neg (by omega)]
def zfp (h:WA 8) (b:List UInt8):WA 8:=zdA h (zfd h (zA b 64) 64) 8
theorem zp0 (h:WA 8) (b:List UInt8):zfp h b=⟨[h.get 0+(zfd h (zA b 64) 64).get 0,h.get 1+(zfd h (zA b 64) 64).get 1,h.get 2+(zfd h (zA b 64) 64).get 2,h.get 3+(zfd h (zA b 64) 64).get 3,h.get 4+(zfd h (zA b 64) 64).get 4,h.get 5+(zfd h (zA b 64) 64).get 5,h.get 6+(zfd h (zA b 64) 64).get 6,h.get 7+(zfd h (zA b 64) 64).get 7],rfl⟩:=by
 apply WA.ext';simp [zfp,zdA,List.range,List.range.loop]
def zld (l:List UInt8) (k:Nat):List UInt8:=(l.drop (64*k)).take 64
def zef (l:List UInt8):Nat→WA 8
 | 0=>zaV
 | k+1=>zfp (zef l k) (zld l k)
def zdV (n:Nat):Nat:=(119-n%64)%64
def zcy (l:List UInt8):List UInt8:=l++ [128]++List.replicate (zdV l.length) 0++be (8*l.length%2^64) 8
theorem zrP (l:List UInt8):(zcy l).length%64=0:=by simp [zcy,zdV];omega
def zi3 (x:WA 8) (i:Nat):List UInt8:=zbU (fun k=>be (x.get k).toNat 4) (fun k=>k) i
theorem zgs (x:WA 8) (i:Nat):(zi3 x i).length=i*4:=ze1 (fun k=>ze3 _ _) i
def zX (l:List UInt8):Dig:=⟨zi3 (zef (zcy l) ((zcy l).length/64)) 8,zgs _ 8⟩
theorem zjp {l m:List UInt8}:∀{k:Nat},64*k≤l.length→zef (l++m) k=zef l k
 | 0,_=>rfl
 | k+1,h=>by
  rw [zef,zef,zjp (by omega)]
  congr 1
  rw [zld,zld,List.drop_append_of_le_length (by omega),List.take_append_of_le_length (by simp;omega)]
structure Sta where
 bg:Bool
 h:WA 8
 rest:List UInt8
 many:Nat
 hr:rest.length=64
 hm:many<2^64
def Sta.new:Sta:=⟨true,zaV,List.replicate 64 0,0,by simp,by decide⟩
structure Sm (s:Sta) (l:List UInt8):Prop where
 bg:s.bg=true
 h:s.h=zef l (l.length/64)
 many:s.many=l.length
 rest:s.rest.take (l.length%64)=l.drop (64*(l.length/64))
theorem Sm.new:Sm Sta.new []:=⟨rfl,rfl,rfl,rfl⟩
def zdw (r:List UInt8) (at_:Nat) (b:List UInt8):List UInt8:=r.take at_++b++r.drop (at_+b.length)
theorem zpm {r b:List UInt8} {a:Nat} (h:a+b.length≤r.length):(zdw r a b).length=r.length:=by simp [zdw];omega
theorem Sm.part {s:Sta} {l b:List UInt8} {a n:Nat} (h:Sm s l) (ha:a=l.length%64) (hn:b.length=n) (h1:a+n<64) (hr:(zdw s.rest a b).length=64) (hm:s.many+n<2^64):
  Sm ⟨s.bg,s.h,zdw s.rest a b,s.many+n,hr,hm⟩ (l++b):=by
 have e1:(l++b).length/64=l.length/64:=by rw [List.length_append];omega
 have e2:(l++b).length%64=a+n:=by rw [List.length_append];omega
 refine ⟨h.bg,by show s.h=_;rw [e1,zjp (by omega),h.h],by show s.many+n=_;rw [h.many,List.length_append,hn], ?_⟩
 show (zdw s.rest a b).take _=_
 have hr64:=s.hr
 rw [e1,e2,zdw,List.take_append_of_le_length (by simp;omega),List.take_of_length_le (by simp;omega),ha,h.rest,List.drop_append_of_le_length (by omega)]
theorem Sm.full {s:Sta} {l b:List UInt8} {a n:Nat} (h:Sm s l) (ha:a=l.length%64) (hn:b.length=n) (h1:a+n=64) (hr:(zdw s.rest a b).length=64) (hm:s.many+n<2^64):
  Sm ⟨s.bg,zfp s.h (zdw s.rest a b),zdw s.rest a b,s.many+n,hr,hm⟩ (l++b):=by
 have hr64:=s.hr
 have e1:(l++b).length/64=l.length/64+1:=by rw [List.length_append];omega
 have e2:(l++b).length%64=0:=by rw [List.length_append];omega
 have e3:zdw s.rest a b=zld (l++b) (l.length/64):=by
  rw [zdw,List.drop_eq_nil_of_le (by omega),List.append_nil,ha,h.rest,zld,List.drop_append_of_le_length (by omega),List.take_of_length_le (by simp;omega)]
 refine ⟨h.bg, ?_,by show s.many+n=_;rw [h.many,List.length_append,hn], ?_⟩
 ·show zfp s.h (zdw s.rest a b)=_
  rw [e1,zef,zjp (by omega),←h.h,e3]
 ·show (zdw s.rest a b).take _=_
  rw [e1,e2,List.take_zero,List.drop_eq_nil_of_le (by simp;omega)]
theorem Sm.done {s:Sta} {l:List UInt8} (h:Sm s (zcy l)):s.h=zef (zcy l) ((zcy l).length/64):=h.h
theorem zwC (e f g:UInt32):(e&&&f)|||(~~~e&&&g)=(e&&&f)^^^(~~~e&&&g):=by
 apply UInt32.toBitVec_inj.1
 ext i hi
 simp
 cases e.toBitVec[i]<;>simp
theorem zuF (a b c:UInt32):(a&&&b)|||(a&&&c)|||(b&&&c)=(a&&&b)^^^(a&&&c)^^^(b&&&c):=by
 apply UInt32.toBitVec_inj.1
 ext i hi
 simp
 cases a.toBitVec[i]<;>cases b.toBitVec[i]<;>cases c.toBitVec[i]<;>rfl
end Go.Cs
namespace Go.Cs
open Go Go.RowKit
def w8C (x:WA 8):List Value:=x.l.map fun v=> .int .u32 ((v.toNat:Nat):Int)
def zas (x:WA 64):List Value:=x.l.map fun v=> .int .u32 ((v.toNat:Nat):Int)
structure B64 where
 l:List UInt8
 h:l.length=64
def B64.zero:B64:=⟨List.replicate 64 0,by simp⟩
def zd8 (x:B64):List Value:=u8s x.l
def Sta.rb (s:Sta):B64:=⟨s.rest,s.hr⟩
def Sta.zero:Sta:=⟨false,WA.zero 8,List.replicate 64 0,0,by simp,by decide⟩
def Sta.setH (s:Sta) (x:WA 8):Sta:=⟨s.bg,x,s.rest,s.many,s.hr,s.hm⟩
def Sta.setMany (s:Sta) (n:Nat) (h:n<2^64):Sta:=⟨s.bg,s.h,s.rest,n,s.hr,h⟩
def Sta.put (s:Sta) (a:Nat) (b:List UInt8) (h:a+b.length≤64):Sta:=⟨s.bg,s.h,zdw s.rest a b,s.many,by rw [zpm (by rw [s.hr];exact h),s.hr],s.hm⟩
def stC (s:Sta):List Value:= .bool s.bg::(w8C s.h++(u8s s.rest++ [.int .u64 ((s.many:Nat):Int)]))
@[simp] theorem zbV (x:WA 8):(w8C x).length=8:=by simp [w8C,x.h]
@[simp] theorem zdW (x:WA 64):(zas x).length=64:=by simp [zas,x.h]
@[simp] theorem zlr (x:B64):(zd8 x).length=64:=by simp [zd8,x.h]
@[simp] theorem zcF (x:Sta):(stC x).length=74:=by simp [stC,x.hr]
theorem zd7 (x:WA 8):∀u∈w8C x,u.oneCell'=true:=by intro u hu;simp only [w8C,List.mem_map] at hu;obtain ⟨_,_,rfl⟩:=hu;rfl
theorem zgv (x:WA 64):∀u∈zas x,u.oneCell'=true:=by intro u hu;simp only [zas,List.mem_map] at hu;obtain ⟨_,_,rfl⟩:=hu;rfl
theorem zfB (x:Sta):∀u∈stC x,u.oneCell'=true:=by
 intro u hu
 simp only [stC,List.mem_cons,List.mem_append,List.not_mem_nil,or_false] at hu
 rcases hu with rfl | hu | hu | rfl
 ·rfl
 ·exact zd7 _ u hu
 ·exact zdm _ u hu
 ·rfl
theorem zsi {x:WA 8} {i:Nat} (h:i<8):(w8C x)[i]? =some (.int .u32 (((x.get i).toNat:Nat):Int)):=by
 have:=x.h;simp [w8C,WA.get,List.getD,show i<x.l.length by omega]
theorem zqd {x:WA 64} {i:Nat} (h:i<64):(zas x)[i]? =some (.int .u32 (((x.get i).toNat:Nat):Int)):=by
 have:=x.h;simp [zas,WA.get,List.getD,show i<x.l.length by omega]
theorem za1 {x:WA 8} (i:Nat) (h:i<8):(w8C x)[0+i*1]? =some (.int .u32 (((x.get i).toNat:Nat):Int)):=by rw [Nat.zero_add,Nat.mul_one];exact zsi h
theorem zc6 {x:WA 64} (i:Nat) (h:i<64):(zas x)[0+i*1]? =some (.int .u32 (((x.get i).toNat:Nat):Int)):=by rw [Nat.zero_add,Nat.mul_one];exact zqd h
theorem zuy {x:WA 8} (i:Nat) (v:UInt32):(w8C x).set (0+i*1) (.int .u32 ((v.toNat:Nat):Int))=w8C (x.set i v):=by rw [Nat.zero_add,Nat.mul_one];simp [w8C,WA.set,List.map_set]
theorem zit {x:WA 64} (i:Nat) (v:UInt32):(zas x).set (0+i*1) (.int .u32 ((v.toNat:Nat):Int))=zas (x.set i v):=by rw [Nat.zero_add,Nat.mul_one];simp [zas,WA.set,List.map_set]
theorem zu7 (s:Sta):((stC s).drop 1).take (w8C s.h).length=w8C s.h:=by
 show (w8C s.h++_).take _=_
 rw [List.take_append_of_le_length (Nat.le_refl _),List.take_of_length_le (Nat.le_refl _)]
theorem znE (s:Sta) (k:Nat):(stC s).drop (9+k)=(u8s s.rest++ [Value.int .u64 ((s.many:Nat):Int)]).drop k:=by
 rw [←List.drop_drop];congr 1
 show (w8C s.h++(u8s s.rest++_)).drop 8=_
 rw [List.drop_append,List.drop_eq_nil_of_le (by simp),List.nil_append,zbV];rfl
theorem ztE (s:Sta):((stC s).drop 9).take (zd8 s.rb).length=zd8 s.rb:=by
 have h:=znE s 0
 rw [Nat.add_zero,List.drop_zero] at h
 rw [h]
 show (u8s s.rest++_).take (u8s s.rest).length=u8s s.rest
 rw [List.take_append_of_le_length (Nat.le_refl _),List.take_of_length_le (Nat.le_refl _)]
theorem zim (s:Sta):(stC s)[73]? =some (.int .u64 ((s.many:Nat):Int)):=by
 have h:=congrArg (fun z=>z[64]?) (znE s 0)
 simp only [Nat.add_zero,List.drop_zero,List.getElem?_drop] at h
 rw [show 9+64=73 from rfl] at h
 rw [h,List.getElem?_append_right (by simp [s.hr])];simp [s.hr]
theorem znB {s:Sta} {x:WA 8}:zZ (stC s) 1 (w8C x)=stC (s.setH x):=by
 have h1:=zcr (w8C s.h) (u8s s.rest++ [.int .u64 ((s.many:Nat):Int)]) (w8C x) 0 (by simp)
 have h2:=zfr [.bool s.bg] (w8C s.h++(u8s s.rest++ [.int .u64 ((s.many:Nat):Int)])) (w8C x) 0 (by simp)
 rw [h1,zv _ _ (by simp)] at h2
 exact h2
theorem zrB (p:List Value) (a v:Value):(p++ [a]).set p.length v=p++ [v]:=by simp
theorem zoM {s:Sta} {n:Nat} (h:n<2^64):(stC s).set 73 (.int .u64 ((n:Nat):Int))=stC (s.setMany n h):=by
 have e:stC s=(.bool s.bg::(w8C s.h++u8s s.rest))++ [.int .u64 ((s.many:Nat):Int)]:=by simp [stC]
 have hl:(Value.bool s.bg::(w8C s.h++u8s s.rest)).length=73:=by simp [s.hr]
 rw [e,←hl,zrB];simp [stC,Sta.setMany]
theorem zm6 {r b:List UInt8} {a:Nat} (h:a+b.length≤r.length):zZ (u8s r) a (u8s b)=u8s (zdw r a b):=by
 rw [zce _ _ _ (by simpa using h)];simp [zdw,u8s]
theorem zvH {s:Sta} {a:Nat} {b:List UInt8} (h:a+b.length≤64):zZ (stC s) (9+a) (u8s b)=stC (s.put a b h):=by
 have hr:=s.hr
 have h1:=zcr (u8s s.rest) [.int .u64 ((s.many:Nat):Int)] (u8s b) a (by simp;omega)
 have h2:=zfr (.bool s.bg::w8C s.h) (u8s s.rest++ [.int .u64 ((s.many:Nat):Int)]) (u8s b) a (by simp;omega)
 rw [h1,zm6 (by omega)] at h2
 simp only [List.length_cons,zbV,Nat.reduceAdd] at h2
 simpa [stC,Sta.put] using h2
section
variable {P:Program} {w w':World}
theorem zix {T E m:Nat} {kk:IntKind} {i:Nat} {cs:List Value} {v:Value} (hi:i<m) (hu:cs[i]? =some v) (hT:P.underlying T=some (.array m E):=by kernel_rfl) (hsz:(P.info? E).map (·.size)=some 1:=by kernel_rfl) (ha:(P.underlying E).map zcY=some false:=by kernel_rfl):
  (Instr.index T (.agg cs.toArray) (.int kk (i:Int))).run P w= .ok v w:=by
 simp [Instr.index,asIntOf,run_underlying hT,zbA hsz,hi,zaJ (w:=w) ha hu]
theorem zkb {T E sz len b o l r m:Nat} {lo hi mx:Option Value} (hl:bnd lo 0 l) (hh:bnd hi len r) (hm:bnd mx len m) (hmh:mx=none∨hi≠none) (h1:l≤r) (h2:r≤m) (h3:m≤len) (h4:l<m) (hT:P.underlying T=some (.array len E):=by kernel_rfl) (hsz:(P.info? E).map (·.size)=some sz:=by kernel_rfl):
  (Instr.sliceAt T (.pointer (some ⟨b,o,none⟩)) lo hi mx).run P w= .ok (.slice (some ⟨b,o+l*sz,none⟩) (r-l) (m-l)) w:=by
 rw [zpW hl hh hm hmh h1 h2 h3 hT hsz,if_neg (by omega)]
theorem zlx {T:TypeId} (x:WA 8) (hp:zdl P T=some [(0,1),(1,8),(9,64),(73,1)]:=by kernel_rfl) (hz:(P.info? T).map (·.zero)=some (some (.agg (stC Sta.zero).toArray)):=by kernel_rfl):
  (Instr.build T #[(0, .bool true),(1, .agg (w8C x).toArray)]).run P w= .ok (.agg (stC ⟨true,x,List.replicate 64 0,0,by simp,by decide⟩).toArray) w:=by
 refine zcH hp hz rfl ?_
 rw [zbf (off:=0) (size:=1) (vs:= [.bool true]) rfl rfl rfl (by simp),zbf (off:=1) (size:=8) (vs:=w8C x) rfl rfl (by simp) (by simp [zbD]),
  show zZ (stC Sta.zero) 0 [.bool true]=stC ⟨true,WA.zero 8,List.replicate 64 0,0,by simp,by decide⟩ from rfl,znB]
 rfl
end
theorem b32 (x:UInt32):BitVec.ofInt IntKind.u32.bits ((x.toNat:Nat):Int)=x.toBitVec:=by
 show BitVec.ofInt 32 _=_
 apply BitVec.eq_of_toNat_eq
 rw [BitVec.toNat_ofInt]
 have:=x.toNat_lt
 show _=x.toNat
 omega
theorem zn3 (x:UInt32):IntKind.u32.wrap ((x.toNat:Nat):Int)=((x.toNat:Nat):Int):=zbF rfl rfl (show _<2^32 from x.toNat_lt)
theorem zbs (x y:UInt32):IntKind.u32.wrap (((x.toNat:Nat):Int)+((y.toNat:Nat):Int))=(((x+y).toNat:Nat):Int):=by
 rw [UInt32.toNat_add];exact zcz rfl (by simp)
theorem zcs (x y:UInt32):IntKind.u32.wrap ((BitVec.ofInt IntKind.u32.bits ((x.toNat:Nat):Int)^^^BitVec.ofInt IntKind.u32.bits ((y.toNat:Nat):Int)).toNat:Int)=(((x^^^y).toNat:Nat):Int):=by
 rw [b32,b32];exact zn3 (x^^^y)
theorem zeO (x y:UInt32):IntKind.u32.wrap ((BitVec.ofInt IntKind.u32.bits ((x.toNat:Nat):Int)&&&BitVec.ofInt IntKind.u32.bits ((y.toNat:Nat):Int)).toNat:Int)=(((x&&&y).toNat:Nat):Int):=by
 rw [b32,b32];exact zn3 (x&&&y)
theorem zoa (x y:UInt32):IntKind.u32.wrap ((BitVec.ofInt IntKind.u32.bits ((x.toNat:Nat):Int)||| BitVec.ofInt IntKind.u32.bits ((y.toNat:Nat):Int)).toNat:Int)=(((x ||| y).toNat:Nat):Int):=by
 rw [b32,b32];exact zn3 (x ||| y)
theorem zpH (x:UInt32):IntKind.u32.wrap ((BitVec.ofInt IntKind.u32.bits (if IntKind.u32.signed then-1 else IntKind.u32.max)^^^BitVec.ofInt IntKind.u32.bits ((x.toNat:Nat):Int)).toNat:Int)=(((~~~x).toNat:Nat):Int):=by
 rw [b32]
 show IntKind.u32.wrap ((BitVec.allOnes 32^^^x.toBitVec).toNat:Int)=_
 rw [show (BitVec.allOnes 32^^^x.toBitVec)=(~~~x).toBitVec by rw [UInt32.toBitVec_not,BitVec.allOnes_xor]]
 exact zn3 (~~~x)
theorem zjx (x:UInt32) (k:Nat) (hk:k<32):((x.toNat:Nat):Int).fdiv (2^k)=(((x>>>UInt32.ofNat k).toNat:Nat):Int):=by
 rw [UInt32.toNat_shiftRight,UInt32.toNat_ofNat',Nat.mod_eq_of_lt (show k<2^32 by omega),Nat.mod_eq_of_lt hk,Nat.shiftRight_eq_div_pow]
 exact zgO _ _
theorem zrY {b:B64} {o:Nat} (h:o+4≤64):((zd8 b).drop o).take (u8s ((b.l.drop o).take 4)).length=u8s ((b.l.drop o).take 4):=by
 have:=b.h
 rw [zbd,show ((b.l.drop o).take 4).length=4 by simp;omega]
 simp [zd8,u8s,List.map_drop,List.map_take]
theorem zmH {b:List UInt8} {t:Nat} {v:UInt32} (h:t<16) (hv:v=UInt32.ofNat (za6 ((b.drop (4*t)).take 4) 4)):(zA b t).set t v=zA b (t+1):=by
 rw [zA,zn2,if_pos h,hv]
theorem zl2 {b:List UInt8} {t:Nat} {v:UInt32} (h:¬t<16) (hv:v=(zA b t).get (t-16)+(zA b t).get (t-7)+zop ((zA b t).get (t-15))+zoG ((zA b t).get (t-2))):(zA b t).set t v=zA b (t+1):=by
 rw [zA,zn2,if_neg h,hv]
def dgP (x:WA 8) (i:Nat):List UInt8:=zi3 x i++List.replicate (32-i*4) 0
theorem zku (x:WA 8) {i:Nat} (h:i≤8):(dgP x i).length=32:=by simp [dgP,zgs];omega
theorem zrk {x:WA 8} {i:Nat} (h:i<8):zZ (u8s (dgP x i)) (i*4) (u8s (be (x.get i).toNat 4))=u8s (dgP x (i+1)):=by
 have hl:=zgs x i
 rw [zm6 (by rw [zku x (by omega),ze3];omega),zdw,dgP,dgP,List.take_append_of_le_length (by omega),List.take_of_length_le (by omega),List.drop_append,hl,ze3,
  List.drop_eq_nil_of_le (by omega),List.nil_append,List.drop_replicate,show 32-i*4-(i*4+4-i*4)=32-(i+1)*4 by omega]
 rfl
theorem znf (l:List UInt8):u8s (dgP (zef (zcy l) ((zcy l).length/64)) 8)=zK (zX l):=by simp [dgP,zK,zX]
theorem zlE (x:WA 8):u8s (dgP x 0)=zK Dig.zero:=by simp [dgP,zi3,zbU,zK,Dig.zero]
def dgQ (x:WA 8) (i k:Nat):List UInt8:=zi3 x i++(be (x.get i).toNat 4).take k++List.replicate (32-i*4-k) 0
theorem zt1 (x:WA 8) {i k:Nat} (h:i<8) (hk:k≤4):(dgQ x i k).length=32:=by simp [dgQ,zgs];omega
theorem zrm (x:WA 8) (i:Nat):dgQ x i 0=dgP x i:=by simp [dgQ,dgP]
theorem zr0 (x:WA 8) (i:Nat):dgQ x i 4=dgP x (i+1):=by
 rw [dgQ,dgP,List.take_of_length_le (by simp),show 32-(i+1)*4=32-i*4-4 by omega];rfl
theorem ztO {x:WA 8} {i k:Nat} (h:i<8) (hk:k<4):(u8s (dgQ x i k)).set (0+(4*i+k)*1) (.int .u8 ((byt (be (x.get i).toNat 4) k:Nat):Int))=u8s (dgQ x i (k+1)):=by
 have hb:k<(be (x.get i).toNat 4).length:=by simp;omega
 have hl:(u8s (zi3 x i++(be (x.get i).toNat 4).take k)).length=4*i+k:=by simp [zgs];omega
 have e:u8s (dgQ x i k)=u8s (zi3 x i++(be (x.get i).toNat 4).take k)++(.int .u8 0::u8s (List.replicate (32-i*4-(k+1)) 0)):=by
  rw [dgQ,show 32-i*4-k=(32-i*4-(k+1))+1 by omega,List.replicate_succ];simp [u8s]
 rw [Nat.zero_add,Nat.mul_one,e,←hl,List.set_append_right _ _ (Nat.le_refl _),Nat.sub_self,List.set_cons_zero,dgQ,List.take_succ_eq_append_getElem hb,zjF hb]
 simp only [u8s,List.map_append,List.map_cons,List.map_nil,List.append_assoc,List.cons_append,List.nil_append,List.map_take,List.map_replicate]
theorem zt2 {l:List UInt8} {n z:Nat} (hn:n=l.length) (hz:z=zdV l.length):l++ [128]++List.replicate z 0++be (8*n%2^64) 8=zcy l:=by subst hn hz;rfl
end Go.Cs
namespace Go.Cs
open Go Go.RowKit
structure OwM {α:Type} (f:α→List Value) (sz lo hi:Nat) (w:World) (a:Option Addr) (len cap:Nat) (e:TypeId) (l:List α):Prop where
 row:w.ownsRow lo e sz (.slice a len cap) len (l.flatMap f)
 len_eq:len=l.length
 below:∀ad,a=some ad→ad.block<hi
 each:∀x,(f x).length=sz
section
variable {α:Type} {f:α→List Value} {sz lo hi:Nat} {w w':World} {a:Option Addr} {len cap:Nat} {e:TypeId} {l:List α}
theorem OwM.nil (f:α→List Value) (sz lo hi:Nat) (w:World) (e:TypeId) (hf:∀x,(f x).length=sz):OwM f sz lo hi w none 0 0 e []:=⟨by simpa using World.ownsRow_nil w lo e sz,rfl,by (intro ad h;cases h),hf⟩
theorem OwM.ne {k:Nat} (h:OwM f sz lo hi w a len cap e l) (hk:zeb a k):lo≤k∧k<hi:=by
 obtain ⟨ad,rfl,rfl⟩:=hk
 refine ⟨?_,h.below ad rfl⟩
 have:=h.row.lt ad.block rfl
 exact this.1
theorem OwM.blk (h:OwM f sz lo hi w a len cap e l):(a=none∧len=0∧cap=0)∨∃b cs,a=some ⟨b,0,none⟩∧Blk w b cs e∧lo≤b∧b<hi∧len≤cap∧cap≤maxLen∧cs.length=cap*sz∧cs.take (len*sz)=l.flatMap f:=by
 rcases h.row.2 with ⟨h1,h2⟩|⟨g,c,cur,h1,h2,h3,h4,h5,h6,h7⟩
 ·cases h1;exact .inl ⟨rfl,rfl,rfl⟩
 ·cases h1
  refine .inr ⟨g,cur.toList,rfl,by simpa [Blk] using h3,h2,h.below _ rfl,h4,h5,by simpa using h6,by simpa using h7⟩
theorem OwM.row_of (h:OwM f sz lo hi w a len cap e l) (hp:0<len):∃b r,a=some ⟨b,0,none⟩∧Blk w b (l.flatMap f++r) e∧r.length=(cap-len)*sz∧lo≤b∧b<hi∧len≤cap∧cap≤maxLen:=by
 rcases h.blk with ⟨_,h1,_⟩|⟨b,cs,h1,h2,h3,h4,h5,h6,h7,h8⟩
 ·omega
 ·refine ⟨b,cs.drop (len*sz),h1, ?_, ?_,h3,h4,h5,h6⟩
  ·rw [←h8,List.take_append_drop];exact h2
  ·rw [List.length_drop,h7,Nat.sub_mul]
theorem OwM.chg {S:Nat→Prop} (h:OwM f sz lo hi w a len cap e l) (hc:Chg S w w') (hs:∀k,lo≤k→k<hi→¬S k:=by intro k h1 h2 hs;first |(have h:k=_:=hs;omega)|(rcases hs with hs | hs<;>omega)):OwM f sz lo hi w' a len cap e l:=by
 refine ⟨⟨h.row.1, ?_⟩,h.len_eq,h.below,h.each⟩
 rcases h.row.2 with h1 |⟨g,c,cur,h1,h2,h3,h4⟩
 ·exact .inl h1
 ·cases h1
  have hlt:g<w.heap.size:=(Array.getElem?_eq_some_iff.1 h3).1
  exact .inr ⟨g,cap,cur,rfl,h2,by rw [hc.block g hlt (hs g h2 (h.below _ rfl))];exact h3,h4⟩
theorem OwM.ext (h:OwM f sz lo hi w a len cap e l) (hc:Ext w w'):OwM f sz lo hi w' a len cap e l:=h.chg hc (fun _ _ _ hf=>hf)
theorem OwM.mono {lo' hi':Nat} (h:OwM f sz lo hi w a len cap e l) (h1:lo'≤lo) (h2:hi≤hi'):OwM f sz lo' hi' w a len cap e l:=by
 refine ⟨⟨h.row.1, ?_⟩,h.len_eq,fun ad ha=>Nat.lt_of_lt_of_le (h.below ad ha) h2,h.each⟩
 rcases h.row.2 with h3 |⟨g,c,cur,h3,h4,h5⟩
 ·exact .inl h3
 ·exact .inr ⟨g,c,cur,h3,by omega,h5⟩
theorem OwM.now (h:OwM f sz lo hi w a len cap e l):OwM f sz lo w.heap.size w a len cap e l:=
 ⟨h.row,h.len_eq,by (rintro ad rfl;exact (h.row.lt ad.block rfl).2),h.each⟩
theorem OwM.ms (h:OwM f sz lo hi w a len cap e l):Ms f sz lo hi w a len cap l:=by
 refine ⟨?_,h.len_eq,h.each⟩
 rcases h.blk with ⟨rfl,rfl,rfl⟩|⟨b,cs,rfl,hB,h1,h2,h3,h4,h5,h6⟩
 ·have:l= []:=List.eq_nil_of_length_eq_zero h.len_eq.symm
  subst this
  exact SlA.nil _ _ _
 ·refine ⟨h3,h4, .inr ⟨rfl,h1,h2,hB.lt,fun i v hv=> ?_⟩⟩
  rw [←h6,List.getElem?_take] at hv
  split at hv
  ·simpa using hB.cell hv
  ·cases hv
theorem OwM.of_blk {b:Nat} {cs:List Value} (h:Blk w b cs e) (hf:∀x,(f x).length=sz) (hcs:cs.length=cap*sz) (hl:cs.take (len*sz)=l.flatMap f) (hn:len=l.length) (hc:len≤cap) (hm:cap≤maxLen) (h1:lo≤b) (h2:b<hi):OwM f sz lo hi w (some ⟨b,0,none⟩) len cap e l:=
 ⟨⟨by rw [zaC hf,hn], .inr ⟨b,cap,cs.toArray,rfl,h1,h,hc,hm,by simp [hcs],by simpa using hl⟩⟩,hn,by (intro ad ha;cases ha;exact h2),hf⟩
theorem OwM.of_full {b:Nat} (h:Blk w b (l.flatMap f) e) (hf:∀x,(f x).length=sz) (hn:len=l.length) (hm:len≤maxLen) (h1:lo≤b) (h2:b<hi):OwM f sz lo hi w (some ⟨b,0,none⟩) len len e l:=
 OwM.of_blk h hf (by rw [zaC hf,hn]) (by rw [List.take_of_length_le (by rw [zaC hf,hn];exact Nat.le_refl _)]) hn (Nat.le_refl _) hm h1 h2
theorem OwM.book {B:Nat} (h:OwM f sz lo hi w a len cap e l) (g:Book B w w'):OwM f sz lo hi w' a len cap e l:=by
 refine ⟨⟨h.row.1, ?_⟩,h.len_eq,h.below,h.each⟩
 rcases h.row.2 with h1 |⟨b,c,cur,h1,h2,h3,h4⟩
 ·exact .inl h1
 ·exact .inr ⟨b,c,cur,h1,h2,g.cells _ _ h3 rfl,h4⟩
theorem Kpt.owm {a b c:World} {ad:Option Addr} (h:Kpt a b) (hO:OwM f sz lo hi b ad len cap e l) (g:Chg (zeb ad) b c):Kpt a c:=h.trans ⟨g.size,fun j o h1 h2=>by
 refine (g.block j (Array.getElem?_eq_some_iff.1 h1).1 ?_).trans h1
 rintro ⟨ad',rfl,rfl⟩
 rcases hO.blk with ⟨h3,_⟩|⟨b',cs,h3,hB,_⟩
 ·cases h3
 ·cases h3
  have h4:b.heap[b']? =_:=hB
  rw [h4] at h1;cases h1;cases h2⟩
end
theorem At.sub2 {w:World} {b o:Nat} {vs:List Value} (h:At w b o vs) (x y:Nat) (us:List Value) (hu:(vs.drop (x+y)).take us.length=us):At w b (o+x+y) us:=by
 rw [Nat.add_assoc];exact h.sub (x+y) us hu
theorem zmB {α:Type} {f:α→List Value} {sz:Nat} (hf:∀x,(f x).length=sz):∀(xs:List α) (j:Nat) (p r:List Value),p.length=j*sz→r.length=xs.length*sz→
  Instr.fill (fun i=>some (i*sz,sz)) (p++r).toArray ((xs.zipIdx j).map fun x=>(x.2,Value.agg (f x.1).toArray))=some (p++xs.flatMap f).toArray
 | [],j,p,r,h1,h2=>by
  have:r= []:=List.eq_nil_of_length_eq_zero (by simpa using h2)
  subst this
  simp [Instr.fill]
 | x::xs,j,p,r,h1,h2=>by
  rw [List.length_cons,Nat.add_mul,Nat.one_mul] at h2
  rw [List.zipIdx_cons,List.map_cons,zbf (off:=j*sz) (size:=sz) (vs:=f x) rfl rfl (hf x) (by rw [List.length_append,h1];omega)]
  have h3:zZ (p++r) (j*sz) (f x)=(p++f x)++r.drop sz:=by
   rw [←h1,zfP _ _ _ (by rw [hf];omega),hf]
  rw [h3,zmB hf xs (j+1) (p++f x) (r.drop sz) (by rw [List.length_append,hf,h1,Nat.add_mul,Nat.one_mul]) (by rw [List.length_drop];omega),List.append_assoc,List.flatMap_cons]
theorem zdH {P:Program} {w:World} {α:Type} {f:α→List Value} {sz T E len:Nat} {parts:Array (Nat×Value)} {z:Value} (xs:List α) (hf:∀x,(f x).length=sz) (hz:0<sz) (hl:len=xs.length) (h0:0<xs.length) (hs:xs.length*sz≤2^24)
  (hp:parts.toList=(xs.zipIdx 0).map fun x=>(x.2,Value.agg (f x.1).toArray)) (hT:P.underlying T=some (.slice E):=by kernel_rfl) (hE:(P.info? E).map (fun i=>(i.zero,i.size))=some (some z,sz):=by kernel_rfl):
  (Instr.buildSlice T len parts).run P w= .ok (.slice (some ⟨w.heap.size,0,none⟩) len len) (w.alloc (.cells (xs.flatMap f).toArray E)):=by
 obtain ⟨ie,hie,he⟩:=Option.map_eq_some_iff.1 hE
 simp only [Prod.mk.injEq] at he
 obtain ⟨he1,rfl⟩:=he
 subst hl
 have hpos:0<xs.length*ie.size:=Nat.mul_pos h0 hz
 refine run_buildSlice w T E xs.length parts _ ie z hT hie he1 (by omega) (by omega) ?_
 have h1:((Array.range (xs.length*ie.size)).map (z.cells[· %z.cells.size]!))=([]++(List.range (xs.length*ie.size)).map (z.cells[· %z.cells.size]!)).toArray:=by
  apply Array.ext'
  simp
 rw [h1,hp,zmB hf xs 0 [] _ (by simp) (by simp),List.nil_append]
section
variable {P:Program} {n k:Nat} {σ:List (Nat×Value)} {w:World} {ops:Array Oper} {K:List (Nat×Value)→World→Prop} {d:Option Tmp}
theorem zbR {α:Type} {f:α→List Value} {sz lo hi lo2 hi2:Nat} {l m:List α} (d:Option Tmp) (T ty E bys:Nat) (z:Value) {a:Option Addr} {len cap:Nat} {a2:Option Addr} {len2 cap2:Nat}
  (hO:OwM f sz lo hi w a len cap E l) (hS:Ms f sz lo2 hi2 w a2 len2 cap2 m) (h1:∀x,∀u∈f x,u.oneCell'=true)
  (h:∀a' cap' w',OwM f sz lo w'.heap.size w' a' (len+len2) cap' E (l++m)→Chg (zeb a) w w'→K (zak σ d (.slice a' (len+len2) cap')) w')
  (hz:z.cells.size=sz) (hsz:0<sz) (h63:len+len2≤maxLen:=by simp only [maxLen];omega) (hb:(len+len2)*bys≤140737488355328:=by omega) (hbase:lo≤w.heap.size:=by omega)
  (hT:P.underlying T=some (.slice E):=by kernel_rfl)
  (hE:(P.info? E).map (fun i=>(i.zero,i.size,i.bytes))=some (some z,sz,bys):=by kernel_rfl)
  (he:zbp ops n σ k=some (d,vS (Builtin.append_ #[T,T] ty #[.slice a len cap, .slice a2 len2 cap2])):=by kernel_rfl):zaA P ops n k σ w K:=by
 obtain ⟨i,hi,hz1,hz2,hz3⟩:=info_parts hE
 have shape:∀(v':Value) (w':World),w'.ownsRow lo E sz v' (len+len2) ((l++m).flatMap f)→w.grownBy w' (Value.ownBlock (.slice a len cap))→∃a' cap',v'= .slice a' (len+len2) cap'∧OwM f sz lo w'.heap.size w' a' (len+len2) cap' E (l++m):=by
  intro v' w' hr _
  have hn:len+len2=(l++m).length:=by rw [List.length_append,hO.len_eq,hS.len_eq]
  rcases hr.2 with ⟨h1,h2⟩|⟨g,c,cur,h1,h2,h3,h4⟩
  ·rw [h2] at hr hn⊢
   exact ⟨none,0,h1,by subst h1;exact hr,hn,by (intro ad hx;cases hx),hO.each⟩
  ·exact ⟨_,c,h1,by subst h1;exact hr,hn,by (intro ad hx;cases hx;exact (Array.getElem?_eq_some_iff.1 h3).1),hO.each⟩
 cases a2 with
 | none=>
  obtain ⟨h2,h3,h4⟩:=hS.sla
  have hm:m= []:=by
   have:=hS.len_eq
   exact List.eq_nil_of_length_eq_zero (by omega)
  subst hm
  subst h2
  subst h3
  have hr:=run_append_owned_none (P:=P) w lo T ty E i sz hT hi _ len _ hO.row
  have hO':OwM f sz lo w.heap.size w a (len+0) cap E (l++ []):=by rw [List.append_nil];exact hO.now
  exact zbG d _ _ hr (h a cap w hO' (Chg.refl _ _)) he
 | some ad=>
  obtain ⟨v',w',hr,h5,h6,_⟩:=run_append_own (P:=P) w lo T ty E i z sz bys hT hi hz1 hz2 hz3 hz hsz _ len _ hO.row ad len2 cap2 (m.flatMap f) (by rw [zaC hS.each,hS.len_eq]) (fun j u hu=>hS.sla.load_add hu) (by
   intro u hu
   obtain ⟨x,_,hx⟩:=List.mem_flatMap.1 hu
   exact h1 x u hx) h63 hb hbase
  rw [←List.flatMap_append] at h5
  obtain ⟨a',cap',rfl,h7⟩:=shape v' w' h5 h6
  exact zbG d _ _ hr (h a' cap' w' h7 (Chg.of_grown h6)) he
end
end Go.Cs
namespace Go.Cs
open Go Go.RowKit
def zbL (f:Nat→Nat):Nat→Nat
 | 0=>0
 | k+1=>if zbL f k=0 then f k else zbL f k
theorem zaT {f:Nat→Nat}:∀{k:Nat},zbL f k=0↔∀i,i<k→f i=0
 | 0=>⟨fun _ i h=>absurd h (Nat.not_lt_zero _),fun _=>rfl⟩
 | k+1=>by
  rw [zbL]
  split
  ·next h=>exact ⟨fun h2 i hi=>by rcases Nat.lt_succ_iff_lt_or_eq.1 hi with h3 | rfl;exact zaT.1 h i h3;exact h2,fun h2=>h2 k (Nat.lt_succ_self k)⟩
  ·next h=>exact ⟨fun h2=>absurd h2 h,fun h2=>absurd (zaT.2 fun i hi=>h2 i (Nat.lt_succ_of_lt hi)) h⟩
theorem zcJ {f:Nat→Nat} {k:Nat} (h:zbL f k=0) (hk:f k=0):zbL f (k+1)=0:=by rw [zbL,if_pos h,hk]
theorem zdP {f:Nat→Nat} {k e:Nat} (h:zbL f k=0) (hk:f k=e) (he:e≠0):∀m,k<m→zbL f m=e
 | 0,h1=>absurd h1 (Nat.not_lt_zero _)
 | m+1,h1=>by
  rcases Nat.lt_succ_iff_lt_or_eq.1 h1 with h2 | rfl
  ·have ih:=zdP h hk he m h2
   rw [zbL,if_neg (by rw [ih];exact he),ih]
  ·rw [zbL,if_pos h,hk]
section
variable {α:Type}
def TXp (n:Nat) (f:Nat→Nat→α) (m:Nat):List α:=(List.range m).flatMap fun l=>(List.range (cnt n l)).map (f l)
def TX (n:Nat) (f:Nat→Nat→α):List α:=TXp n f (hgt n+1)
theorem ziP (n:Nat) (f:Nat→Nat→α) (m:Nat):TXp n f (m+1)=TXp n f m++(List.range (cnt n m)).map (f m):=by
 simp [TXp,List.range_succ]
theorem zgm (n:Nat) (f:Nat→Nat→α):∀m,(TXp n f m).length=num n m
 | 0=>rfl
 | m+1=>by rw [ziP,List.length_append,zgm n f m];simp [num]
theorem zbQ (n:Nat) (f:Nat→Nat→α):(TX n f).length=tot n:=zgm n f _
theorem znp {n:Nat} {f:Nat→Nat→α} {l j:Nat} (hj:j<cnt n l):∀{m:Nat},l<m→(TXp n f m)[num n l+j]? =some (f l j)
 | 0,h=>absurd h (Nat.not_lt_zero _)
 | m+1,h=>by
  rw [ziP]
  rcases Nat.lt_succ_iff_lt_or_eq.1 h with h1 | rfl
  ·have hlt:num n l+j<(TXp n f m).length:=by
    rw [zgm]
    have:=zdX n (show l+1≤m from h1)
    rw [num] at this;omega
   rw [List.getElem?_append_left hlt];exact znp hj h1
  ·rw [List.getElem?_append_right (by rw [zgm];omega),zgm,Nat.add_sub_cancel_left]
   simp [hj]
theorem zsC {n:Nat} {f:Nat→Nat→α} {l j:Nat} (hl:l≤hgt n) (hj:j<cnt n l):(TX n f)[num n l+j]? =some (f l j):=znp hj (Nat.lt_succ_of_le hl)
theorem zcS {n:Nat} {f:Nat→Nat→α} {l j:Nat} (d:α) (hl:l≤hgt n) (hj:j<cnt n l):(TX n f).getD (num n l+j) d=f l j:=by
 rw [List.getD_eq_getElem?_getD,zsC hl hj];rfl
theorem zl4 {n:Nat}:∀{m k:Nat},k<num n m→∃l j,l<m∧j<cnt n l∧k=num n l+j
 | 0,k,h=>absurd h (Nat.not_lt_zero _)
 | m+1,k,h=>by
  rw [num] at h
  rcases Nat.lt_or_ge k (num n m) with h1 | h1
  ·obtain ⟨l,j,h2,h3,h4⟩:=zl4 h1
   exact ⟨l,j,Nat.lt_succ_of_lt h2,h3,h4⟩
  ·exact ⟨m,k-num n m,Nat.lt_succ_self m,by omega,by omega⟩
theorem zel {n k:Nat} (h:k<tot n):∃l j,l≤hgt n∧j<cnt n l∧k=num n l+j:=by
 obtain ⟨l,j,h1,h2,h3⟩:=zl4 h
 exact ⟨l,j,Nat.le_of_lt_succ h1,h2,h3⟩
theorem zaL {n l j:Nat} (hl:l≤hgt n) (hj:j<cnt n l):num n l+j<tot n:=by
 have:=zdX n (show l+1≤hgt n+1 from Nat.succ_le_succ hl)
 rw [num] at this;unfold tot;omega
theorem zhL {n l j a b:Nat} (hj:j<cnt n l) (hb:b<cnt n a) (h:num n l+j=num n a+b):l=a∧j=b:=by
 rcases Nat.lt_trichotomy l a with h1 | h1 | h1
 ·have:=zdX n (show l+1≤a from h1);rw [num] at this;omega
 ·subst h1;exact ⟨rfl,by omega⟩
 ·have:=zdX n (show a+1≤l from h1);rw [num] at this;omega
theorem zfm {n:Nat} {f:Nat→Nat→α} {ts:List α} (d:α) (hl:ts.length=tot n) (h:∀l j,l≤hgt n→j<cnt n l→ts.getD (num n l+j) d=f l j):ts=TX n f:=by
 refine List.ext_getElem (by rw [hl,zbQ]) fun k h1 h2=> ?_
 obtain ⟨l,j,h3,h4,rfl⟩:=zel (by rw [←hl];exact h1)
 have e1:=h l j h3 h4
 have e2:=zcS (f:=f) d h3 h4
 simp only [List.getD,List.getElem?_eq_getElem h1,Option.getD_some] at e1
 simp only [List.getD,List.getElem?_eq_getElem h2,Option.getD_some] at e2
 rw [e1,e2]
theorem zc5 {n:Nat} {f g:Nat→Nat→α} (d:α) (h:∀l j,l≤hgt n→j<cnt n l→f l j=g l j):TX n f=TX n g:=
 zfm d (zbQ n f) fun l j hl hj=>by rw [zcS d hl hj,h l j hl hj]
theorem zhM {n:Nat} {f:Nat→Nat→α} {l j:Nat} (d x:α) (hl:l≤hgt n) (hj:j<cnt n l):(TX n f).set (num n l+j) x=TX n (fun a b=>if a=l∧b=j then x else f a b):=
 zfm d (by rw [List.length_set,zbQ]) fun a b ha hb=>by
  simp only [List.getD,List.getElem?_set]
  by_cases h:num n l+j=num n a+b
  ·obtain ⟨rfl,rfl⟩:=zhL hj hb h
   rw [if_pos rfl,if_pos (show num n l+j<(TX n f).length by rw [zbQ];exact zaL hl hj),if_pos ⟨rfl,rfl⟩];rfl
  ·rw [if_neg h,if_neg (by rintro ⟨rfl,rfl⟩;exact h rfl)]
   exact zcS d ha hb
end
theorem zcq {n:Nat} (h1:1≤n) (h:n≤4096):tot n=num n (hgt n)+1:=by
 unfold tot;rw [num,zex h1 h]
theorem zau {n:Nat} (h:n≤4096):tot n≤24576:=zbN h (by have:=zam n;omega)
def zoo (n:Nat):List Nat:=(List.range (hgt n+1)).map (num n)
def ndA (n:Nat) (ts:List Nod) (l j:Nat):Nod:=ts.getD (num n l+j) Nod.zero
def zaO (L:List Rec) (l j:Nat):Bool:=(List.range L.length).all fun i=> !(idx i l==j&&(L.getD i Rec.zero).st !=0)
theorem zbt {L:List Rec} {l j:Nat}:zaO L l j=true↔∀i,i<L.length→idx i l=j→(L.getD i Rec.zero).st=0:=by
 simp only [zaO,List.all_eq_true,List.mem_range,Bool.not_eq_true',Bool.and_eq_false_iff,beq_eq_false_iff_ne,bne_eq_false_iff_eq]
 exact ⟨fun h i hi he=>(h i hi).resolve_left (fun hn=>hn he),fun h i hi=>by
  by_cases he:idx i l=j
  ·exact .inr (h i hi he)
  ·exact .inl he⟩
theorem zht {L:List Rec} {l j:Nat}:zaO L l j=false↔∃i,i<L.length∧idx i l=j∧(L.getD i Rec.zero).st≠0:=by
 constructor
 ·intro h
  refine Classical.byContradiction fun hn=> ?_
  have:zaO L l j=true:=zbt.2 fun i hi he=>Classical.byContradiction fun hs=>hn ⟨i,hi,he,hs⟩
  rw [h] at this;cases this
 ·rintro ⟨i,hi,he,hs⟩
  cases h:zaO L l j with
  | false=>rfl
  | true=>exact absurd (zbt.1 h i hi he) hs
def zbz (n:Nat) (ts:List Nod):List Rec:=(List.range n).map fun i=>(ts.getD (i/4) Nod.zero).rs.get (i%4)
theorem zen (n:Nat) (ts:List Nod):(zbz n ts).length=n:=by simp [zbz]
theorem zo5 {n:Nat} {ts:List Nod} {i:Nat} (h:i<n):(zbz n ts).getD i Rec.zero=(ts.getD (i/4) Nod.zero).rs.get (i%4):=by simp [zbz,List.getD,h]
theorem zhj {n:Nat} {ts:List Nod} {i:Nat} (h:i<n):(zbz n ts).getD i Rec.zero=(ndA n ts 0 (idx i 0)).rs.get (i%4):=by
 rw [zo5 h,ndA];show _=(ts.getD (0+i/4) Nod.zero).rs.get (i%4);rw [Nat.zero_add]
def zdg (n:Nat) (ts:List Nod) (l j w:Nat):Nat:=
 let e:=(ndA n ts l j).es.get w
 if (zaO (zbz n ts) (l-1) (4*j+w)=true↔e.st=0)∧(e.st=0∨e.dg.l=(zX (zR (ndA n ts (l-1) (4*j+w)))).l) then 0 else 9
def zb9 (n:Nat) (x:Nod) (l j:Nat):Prop:=¬(x.lv=l∧x.ix=j∧zb1 n x=0)
instance {n:Nat} {x:Nod} {l j:Nat}:Decidable (zb9 n x l j):=inferInstanceAs (Decidable (¬_))
def zcV (n:Nat) (ts:List Nod) (l j:Nat):Nat:=if zb9 n (ndA n ts l j) l j then 17 else if l=0 then 0 else zbL (zdg n ts l j) (prt n l j)
def zvI (n:Nat) (ts:List Nod) (l:Nat):Nat:=zbL (zcV n ts l) (cnt n l)
def zbZ (n:Nat) (ts:List Nod):Nat:=zbL (zvI n ts) (hgt n+1)
def zeJ (n:Int) (ts:List Nod):Nat:=if 1≤n∧n≤4096∧ts.length=tot n.toNat then zbZ n.toNat ts else 1
theorem zio {n:Nat} {ts:List Nod} {l j:Nat} (h:zb9 n (ndA n ts l j) l j):zcV n ts l j=17:=if_pos h
theorem zvb {n:Nat} {ts:List Nod} {j:Nat} (h:¬zb9 n (ndA n ts 0 j) 0 j):zcV n ts 0 j=0:=by unfold zcV;rw [if_neg h,if_pos rfl]
theorem zmG {n:Nat} {ts:List Nod} {l j:Nat} (h:¬zb9 n (ndA n ts l j) l j) (hl:¬l=0):zcV n ts l j=zbL (zdg n ts l j) (prt n l j):=by unfold zcV;rw [if_neg h,if_neg hl]
theorem zc4 {n:Nat} {ts:List Nod} {l j:Nat} (h:zcV n ts l j=0):(ndA n ts l j).lv=l∧(ndA n ts l j).ix=j∧zb1 n (ndA n ts l j)=0:=by
 unfold zcV at h
 split at h
 ·cases h
 ·next hm=>exact Classical.not_not.1 hm
def okT (n:Nat) (ts:List Nod) (l j:Nat):Prop:=zbL (zvI n ts) l=0∧zbL (zcV n ts l) j=0
theorem zr2 (n:Nat) (ts:List Nod):okT n ts 0 0:=⟨rfl,rfl⟩
theorem zmy {n:Nat} {ts:List Nod} {l j:Nat} (h:okT n ts l j) (h0:zcV n ts l j=0):okT n ts l (j+1):=⟨h.1,zcJ h.2 h0⟩
theorem zqN {n:Nat} {ts:List Nod} {l:Nat} (h:okT n ts l (cnt n l)):okT n ts (l+1) 0:=⟨zcJ h.1 h.2,rfl⟩
theorem zcR {n:Nat} {ts:List Nod} {l j e:Nat} (h:okT n ts l j) (hl:l≤hgt n) (hj:j<cnt n l) (he:zcV n ts l j=e) (h0:e≠0):zbZ n ts=e:=
 zdP h.1 (zdP h.2 he h0 _ hj) h0 _ (Nat.lt_succ_of_le hl)
theorem zq4 {n:Nat} {ts:List Nod} (h:okT n ts (hgt n+1) 0):zbZ n ts=0:=h.1
theorem zpj {n:Nat} {ts:List Nod} {l j a b:Nat} (h:okT n ts l j) (hb:b<cnt n a) (hlt:a<l∨(a=l∧b<j)):zcV n ts a b=0:=by
 rcases hlt with h1 |⟨rfl,h1⟩
 ·exact zaT.1 (zaT.1 h.1 a h1) b hb
 ·exact zaT.1 h.2 b h1
theorem zgB {x:Nod} (h0:x.lv=0):∀{k:Nat},usd x k=0↔∀w,w<k→(x.rs.get w).st=0
 | 0=>⟨fun _ w h=>absurd h (Nat.not_lt_zero _),fun _=>rfl⟩
 | k+1=>by
  have ih:=zgB h0 (k:=k)
  rw [usd,if_pos h0]
  by_cases hk:(x.rs.get k).st=0
  ·rw [if_pos hk,Nat.add_zero,ih]
   exact ⟨fun h w hw=>by rcases Nat.lt_succ_iff_lt_or_eq.1 hw with h1 | rfl;exact h w h1;exact hk,fun h w hw=>h w (Nat.lt_succ_of_lt hw)⟩
  ·rw [if_neg hk]
   exact ⟨fun h=>by omega,fun h=>absurd (h k (Nat.lt_succ_self k)) hk⟩
theorem zfV {x:Nod} (h0:¬x.lv=0):∀{k:Nat},usd x k=0↔∀w,w<k→(x.es.get w).st=0
 | 0=>⟨fun _ w h=>absurd h (Nat.not_lt_zero _),fun _=>rfl⟩
 | k+1=>by
  have ih:=zfV h0 (k:=k)
  rw [usd,if_neg h0]
  by_cases hk:(x.es.get k).st=0
  ·rw [if_pos hk,Nat.add_zero,ih]
   exact ⟨fun h w hw=>by rcases Nat.lt_succ_iff_lt_or_eq.1 hw with h1 | rfl;exact h w h1;exact hk,fun h w hw=>h w (Nat.lt_succ_of_lt hw)⟩
  ·rw [if_neg hk]
   exact ⟨fun h=>by omega,fun h=>absurd (h k (Nat.lt_succ_self k)) hk⟩
theorem zcx {n:Nat} {x:Nod} (h:zb1 n x=0):zaz x=0∧x.lv≤hgt n∧x.ix<cnt n x.lv∧∀k,prt n x.lv x.ix≤k→k<4→x.rs.get k=Rec.zero∧x.es.get k=Ent.zero:=by
 unfold zb1 at h
 split at h
 ·next h1=>
  split at h
  ·next h2=>
   split at h
   ·next h3=>exact ⟨h1,h2.1,h2.2,fun k hk hk4=>by
     have:=zfH.1 h3 k hk hk4
     exact ⟨(Rec.eqb_iff _ _).1 this.1,(Ent.eqb_iff _ _).1 this.2⟩⟩
   ·cases h
  ·cases h
 ·cases h
theorem zvC {n:Nat} {x:Nod} (h1:zaz x=0) (h2:x.lv≤hgt n) (h3:x.ix<cnt n x.lv) (h:∀k,prt n x.lv x.ix≤k→k<4→x.rs.get k=Rec.zero∧x.es.get k=Ent.zero):zb1 n x=0:=by
 rw [ze4 h1 ⟨h2,h3⟩,if_pos]
 exact zfH.2 fun k hk hk4=>⟨(Rec.eqb_iff _ _).2 (h k hk hk4).1,(Ent.eqb_iff _ _).2 (h k hk hk4).2⟩
def emP (n:Nat) (ts:List Nod):Nat→Nat→Bool
 | 0,j=>usd (ndA n ts 0 j) 4==0
 | l+1,j=>(List.range (prt n (l+1) j)).all fun w=>emP n ts l (4*j+w)
theorem zhe {n:Nat} {ts:List Nod} (h0:∀j,j<cnt n 0→zcV n ts 0 j=0):∀{l j:Nat},j<cnt n l→emP n ts l j=zaO (zbz n ts) l j
 | 0,j,hj=>by
  obtain ⟨e1,e2,e3⟩:=zc4 (h0 j hj)
  obtain ⟨f1,f2,f3,f4⟩:=zcx e3
  rw [e1,e2] at f4
  rw [Bool.eq_iff_iff,zbt,emP,beq_iff_eq,zgB e1,zen]
  constructor
  ·intro h i hi he
   rw [zhj hi,he]
   exact h _ (Nat.mod_lt _ (by decide))
  ·intro h w hw
   rcases Nat.lt_or_ge w (prt n 0 j) with h2 | h2
   ·have hi:4*j+w<n:=(zbm hw).1 h2
    have:=h (4*j+w) hi (show (4*j+w)/4=j by omega)
    rw [zhj hi,show idx (4*j+w) 0=j from (show (4*j+w)/4=j by omega),show (4*j+w)%4=w by omega] at this
    exact this
   ·rw [(f4 w h2 hw).1];rfl
 | l+1,j,hj=>by
  rw [Bool.eq_iff_iff,zbt,emP,List.all_eq_true,zen]
  constructor
  ·intro h i hi he
   have hlt:=zbw hi l
   have hq:idx i l/4=j:=he
   have hw:idx i l%4<prt n (l+1) j:=(zbm (Nat.mod_lt _ (by decide))).2 (by rw [zec];omega)
   have h1:=h (idx i l%4) (List.mem_range.2 hw)
   rw [show 4*j+idx i l%4=idx i l by omega,zhe h0 hlt,zbt,zen] at h1
   exact h1 i hi rfl
  ·intro h w hw
   have hw:=List.mem_range.1 hw
   have hw4:w<4:=Nat.lt_of_lt_of_le hw (zdo _ _ _)
   have hk:=(zbm hw4).1 hw
   rw [zec] at hk
   rw [zhe h0 hk,zbt,zen]
   intro i hi he
   exact h i hi (show idx i l/4=j by omega)
theorem zk8 {n:Nat} {ts:List Nod} {l j:Nat}:emP n ts (l+1) j=true↔∀w,w<prt n (l+1) j→emP n ts l (4*j+w)=true:=by
 rw [emP,List.all_eq_true];exact ⟨fun h w hw=>h w (List.mem_range.2 hw),fun h w hw=>h w (List.mem_range.1 hw)⟩
end Go.Cs
namespace Go.Cs
open Go Go.RowKit
def mkN (lv ix:Nat) (r:Nat→Rec) (e:Nat→Ent):Nod:=⟨lv%256,ix%2^32,⟨(List.range 4).map r,by simp⟩,⟨(List.range 4).map e,by simp⟩,Nat.mod_lt _ (by decide),Nat.mod_lt _ (by decide)⟩
theorem zir {lv ix:Nat} {r:Nat→Rec} {e:Nat→Ent} {i:Nat} (h:i<4):(mkN lv ix r e).rs.get i=r i:=by simp [mkN,R4.get,List.getD,h]
theorem zil {lv ix:Nat} {r:Nat→Rec} {e:Nat→Ent} {i:Nat} (h:i<4):(mkN lv ix r e).es.get i=e i:=by simp [mkN,E4.get,List.getD,h]
theorem zby {lv ix:Nat} {r r':Nat→Rec} {e e':Nat→Ent} (h1:∀i,i<4→r i=r' i) (h2:∀i,i<4→e i=e' i):mkN lv ix r e=mkN lv ix r' e':=
 Nod.ext' rfl rfl (R4.ext_get fun i hi=>by rw [zir hi,zir hi,h1 i hi]) (E4.ext_get fun i hi=>by rw [zil hi,zil hi,h2 i hi])
theorem zqH {lv ix:Nat} {r:Nat→Rec} {e:Nat→Ent} (h1:∀i,i<4→r i=Rec.zero) (h2:∀i,i<4→e i=Ent.zero):mkN lv ix r e=Nod.mt lv ix:=
 Nod.ext' rfl rfl (R4.ext_get fun i hi=>by rw [zir hi,h1 i hi];exact (R4.get_zero i).symm) (E4.ext_get fun i hi=>by rw [zil hi,h2 i hi];exact (E4.get_zero i).symm)
theorem zjk {lv ix p:Nat} {r:Nat→Rec} {e:Nat→Ent} (x:Rec) (h:p<4):(mkN lv ix r e).setR p x=mkN lv ix (fun i=>if i=p then x else r i) e:=by
 refine Nod.ext' rfl rfl (R4.ext_get fun i hi=> ?_) rfl
 show ((mkN lv ix r e).rs.set p x).get i=_
 rw [R4.get_set h,zir hi,zir hi]
theorem zja {lv ix p:Nat} {r:Nat→Rec} {e:Nat→Ent} (x:Ent) (h:p<4):(mkN lv ix r e).setE p x=mkN lv ix r (fun i=>if i=p then x else e i):=by
 refine Nod.ext' rfl rfl rfl (E4.ext_get fun i hi=> ?_)
 show ((mkN lv ix r e).es.set p x).get i=_
 rw [E4.get_set h,zil hi,zil hi]
def zaw (L:List Rec) (S:List Nat):Nat→Nat→Nod
 | 0,j=>mkN 0 j (fun w=>if w<prt L.length 0 j then L.getD (4*j+w) Rec.zero else Rec.zero) (fun _=>Ent.zero)
 | l+1,j=>mkN (l+1) j (fun _=>Rec.zero) (fun w=>if w<prt L.length (l+1) j then (if zaO L l (4*j+w)=true then Ent.zero else ⟨(S.getD (num L.length l+(4*j+w)) 0+1)%2^8,zX (zR (zaw L S l (4*j+w))),Nat.mod_lt _ (by decide)⟩) else Ent.zero)
def zbJ (L:List Rec) (S:List Nat) (l k:Nat):Ent:=if zaO L l k=true then Ent.zero else ⟨(S.getD (num L.length l+k) 0+1)%2^8,zX (zR (zaw L S l k)),Nat.mod_lt _ (by decide)⟩
def zcl (L:List Rec) (S:List Nat) (l j v:Nat):Nod:=mkN l j (fun w=>if w<v∧l=0 then L.getD (4*j+w) Rec.zero else Rec.zero) (fun w=>if w<v∧l≠0 then zbJ L S (l-1) (4*j+w) else Ent.zero)
theorem zaZ (L:List Rec) (S:List Nat):∀l j,zaw L S l j=zcl L S l j (prt L.length l j)
 | 0,j=>zby (fun i _=>by by_cases h:i<prt L.length 0 j<;>simp [h]) (fun i _=>by simp)
 | l+1,j=>zby (fun i _=>by simp) (fun i _=>by by_cases h:i<prt L.length (l+1) j<;>simp [h,zbJ])
theorem zky (L:List Rec) (S:List Nat) (l j:Nat):zcl L S l j 0=Nod.mt l j:=zqH (fun i _=>if_neg (by omega)) (fun i _=>if_neg (by omega))
theorem zeN (L:List Rec) (S:List Nat) (l j v:Nat) {i:Nat} (h:i<4):(zcl L S l j v).rs.get i=if i<v∧l=0 then L.getD (4*j+i) Rec.zero else Rec.zero:=zir h
theorem zdY (L:List Rec) (S:List Nat) (l j v:Nat) {i:Nat} (h:i<4):(zcl L S l j v).es.get i=if i<v∧l≠0 then zbJ L S (l-1) (4*j+i) else Ent.zero:=zil h
theorem zpr {L:List Rec} {S:List Nat} {j v:Nat} (h:v<4):(zcl L S 0 j v).setR v (L.getD (4*j+v) Rec.zero)=zcl L S 0 j (v+1):=by
 rw [zcl,zjk _ h]
 refine zby (fun i hi=> ?_) (fun i hi=>by simp)
 by_cases h1:i=v
 ·subst h1;simp
 ·rw [if_neg h1]
  by_cases h2:i<v
  ·rw [if_pos ⟨h2,rfl⟩,if_pos ⟨by omega,rfl⟩]
  ·rw [if_neg (by omega),if_neg (by omega)]
theorem zpR {L:List Rec} {S:List Nat} {l j v:Nat} (h:v<4) (hl:l≠0):(zcl L S l j v).setE v (zbJ L S (l-1) (4*j+v))=zcl L S l j (v+1):=by
 rw [zcl,zja _ h]
 refine zby (fun i hi=>by simp [hl]) (fun i hi=> ?_)
 by_cases h1:i=v
 ·subst h1;rw [if_pos rfl,if_pos ⟨by omega,hl⟩]
 ·rw [if_neg h1]
  by_cases h2:i<v
  ·rw [if_pos ⟨h2,hl⟩,if_pos ⟨by omega,hl⟩]
  ·rw [if_neg (by omega),if_neg (by omega)]
theorem zpz {L:List Rec} {S:List Nat} {l j v:Nat} (hl:l≠0) (he:zaO L (l-1) (4*j+v)=true):zcl L S l j v=zcl L S l j (v+1):=by
 refine zby (fun i hi=>by simp [hl]) (fun i hi=> ?_)
 by_cases h1:i=v
 ·subst h1;rw [if_neg (by omega),if_pos ⟨by omega,hl⟩,zbJ,if_pos he]
 ·by_cases h2:i<v
  ·rw [if_pos ⟨h2,hl⟩,if_pos ⟨by omega,hl⟩]
  ·rw [if_neg (by omega),if_neg (by omega)]
theorem ztv (L:List Rec) (S:List Nat) (l j:Nat):(zaw L S l j).lv=l%256:=by rw [zaZ];rfl
theorem zub (L:List Rec) (S:List Nat) (l j:Nat):(zaw L S l j).ix=j%2^32:=by rw [zaZ];rfl
def zap (L:List Rec) (S:List Nat):List Nod:=TX L.length (zaw L S)
structure OkM (L:List Rec) (S:List Nat):Prop where
 n1:1≤L.length
 n2:L.length≤4096
 rc:∀i,i<L.length→zaB (L.getD i Rec.zero)=0
 len:S.length=tot L.length
 sl:∀i,S.getD i 0≤1
theorem zje {n l j:Nat} (h:n≤4096) (hl:l≤hgt n) (hj:j<cnt n l):l%256=l∧j%2^32=j:=by
 have:=zam n
 have:=zbl n l
 omega
theorem ze2 {L:List Rec} {S:List Nat} {l j:Nat} (h:L.length≤4096) (hl:l≤hgt L.length) (hj:j<cnt L.length l):(zaw L S l j).lv=l:=by rw [ztv];exact (zje h hl hj).1
theorem zek {L:List Rec} {S:List Nat} {l j:Nat} (h:L.length≤4096) (hl:l≤hgt L.length) (hj:j<cnt L.length l):(zaw L S l j).ix=j:=by rw [zub];exact (zje h hl hj).2
theorem zfb {L:List Rec} {S:List Nat} (h:∀i,S.getD i 0≤1) (l k:Nat):(zbJ L S l k).st=0↔zaO L l k=true:=by
 unfold zbJ
 split
 ·next h1=>exact ⟨fun _=>h1,fun _=>rfl⟩
 ·next h1=>
  have:=h (num L.length l+k)
  exact ⟨fun h2=>absurd (show (S.getD (num L.length l+k) 0+1)%2^8=0 from h2) (by omega),fun h2=>absurd h2 h1⟩
theorem zqb {L:List Rec} {S:List Nat} (h:∀i,S.getD i 0≤1) (l k:Nat):za3 (zbJ L S l k)=0:=by
 by_cases h1:zaO L l k=true
 ·rw [zbJ,if_pos h1];rfl
 ·have h2:¬(zbJ L S l k).st=0:=fun hs=>h1 ((zfb h l k).1 hs)
  have h3:¬2<(zbJ L S l k).st:=by
   rw [zbJ,if_neg h1]
   have:=h (num L.length l+k)
   show ¬2<(S.getD (num L.length l+k) 0+1)%2^8
   omega
  unfold za3;rw [if_neg h3,if_neg h2]
theorem zpd {L:List Rec} {l j:Nat}:zaO L (l+1) j=true↔∀w,w<4→zaO L l (4*j+w)=true:=by
 constructor
 ·intro h w hw
  exact zbt.2 fun i hi he=>zbt.1 h i hi (show idx i l/4=j by omega)
 ·intro h
  refine zbt.2 fun i hi he=> ?_
  have hq:idx i l/4=j:=he
  exact zbt.1 (h (idx i l%4) (Nat.mod_lt _ (by decide))) i hi (by omega)
theorem zjU {L:List Rec} {l k:Nat} (h:cnt L.length l≤k):zaO L l k=true:=zbt.2 fun i hi he=>by
 have:=zbw hi l;omega
theorem zmD {L:List Rec} {S:List Nat} (hS:∀i,S.getD i 0≤1) (h2:L.length≤4096) {l j:Nat} (hl:l≤hgt L.length) (hj:j<cnt L.length l):usd (zaw L S l j) 4=0↔zaO L l j=true:=by
 have hlv:=ze2 (S:=S) h2 hl hj
 cases l with
 | zero=>
  rw [zgB hlv,zbt]
  constructor
  ·intro h i hi he
   have hq:i/4=j:=he
   have:=h (i%4) (Nat.mod_lt _ (by decide))
   rw [zaZ,zeN _ _ _ _ _ (Nat.mod_lt _ (by decide)),if_pos ⟨(zbm (Nat.mod_lt _ (by decide))).2 (show 4*j+i%4<L.length by omega),rfl⟩,show 4*j+i%4=i by omega] at this
   exact this
  ·intro h w hw
   rw [zaZ,zeN _ _ _ _ _ hw]
   split
   ·next h1=>exact h _ ((zbm hw).1 h1.1) (show (4*j+w)/4=j by omega)
   ·rfl
 | succ l=>
  rw [zfV (by omega),zpd]
  constructor
  ·intro h w hw
   rcases Nat.lt_or_ge w (prt L.length (l+1) j) with h1 | h1
   ·have:=h w hw
    rw [zaZ,zdY _ _ _ _ _ hw,if_pos ⟨h1,by omega⟩] at this
    exact (zfb hS _ _).1 this
   ·exact zjU (by have:¬w<prt L.length (l+1) j:=(by omega);rw [zbm hw,zec] at this;omega)
  ·intro h w hw
   rw [zaZ,zdY _ _ _ _ _ hw]
   split
   ·exact (zfb hS _ _).2 (h w hw)
   ·rfl
theorem zk6 {L:List Rec} {S:List Nat} (hO:OkM L S) {l j:Nat} (hl:l≤hgt L.length) (hj:j<cnt L.length l):zaz (zaw L S l j)=0:=by
 have hlv:=ze2 (S:=S) hO.n2 hl hj
 have h5:=zam L.length
 rw [zfE (by omega) ⟨fun h0 k hk=>by rw [zaZ,zdY _ _ _ _ _ hk,if_neg (by omega)],fun h0 k hk=>by rw [zaZ,zeN _ _ _ _ _ hk,if_neg (by omega)]⟩]
 unfold ckA
 split
 ·refine zba.2 fun i hi=> ?_
  rw [zaZ,zeN _ _ _ _ _ hi]
  split
  ·next h1=>exact hO.rc _ (by have:=(zbm hi).1 h1.1;have:=zhE L.length l;omega)
  ·decide
 ·refine zba.2 fun i hi=> ?_
  rw [zaZ,zdY _ _ _ _ _ hi]
  split
  ·exact zqb hO.sl _ _
  ·decide
theorem zho {L:List Rec} {S:List Nat} (hO:OkM L S) {l j:Nat} (hl:l≤hgt L.length) (hj:j<cnt L.length l):zb1 L.length (zaw L S l j)=0:=by
 have e1:=ze2 (S:=S) hO.n2 hl hj
 have e2:=zek (S:=S) hO.n2 hl hj
 refine zvC (zk6 hO hl hj) (by omega) (by rw [e1,e2];exact hj) fun k hk hk4=> ?_
 rw [e1,e2] at hk
 rw [zaZ,zeN _ _ _ _ _ hk4,zdY _ _ _ _ _ hk4,if_neg (by omega),if_neg (by omega)]
 exact ⟨rfl,rfl⟩
theorem zib (L:List Rec) (S:List Nat):(zap L S).length=tot L.length:=zbQ _ _
theorem zeZ {L:List Rec} {S:List Nat} {l j:Nat} (hl:l≤hgt L.length) (hj:j<cnt L.length l):ndA L.length (zap L S) l j=zaw L S l j:=zcS _ hl hj
theorem zjC {L:List Rec} {S:List Nat}:zbz L.length (zap L S)=L:=by
 refine List.ext_getElem (zen _ _) fun i h1 h2=> ?_
 have h3:=zhj (ts:=zap L S) h2
 rw [zeZ (Nat.zero_le _) (zbw h2 0),zaZ,zeN _ _ _ _ _ (Nat.mod_lt _ (by decide)),if_pos ⟨(zbm (Nat.mod_lt _ (by decide))).2 (show 4*(i/4)+i%4<L.length by omega),rfl⟩,show 4*idx i 0+i%4=i from (show 4*(i/4)+i%4=i by omega)] at h3
 simpa [List.getD,h1,h2] using h3
theorem zoR {L:List Rec} {S:List Nat} (hO:OkM L S) {l j:Nat} (hl:l≤hgt L.length) (hj:j<cnt L.length l):zcV L.length (zap L S) l j=0:=by
 unfold zcV
 rw [if_neg]
 ·split
  ·rfl
  ·next h0=>
   refine zaT.2 fun w hw=> ?_
   have hw4:w<4:=Nat.lt_of_lt_of_le hw (zdo _ _ _)
   have hee:(zaw L S l j).es.get w=zbJ L S (l-1) (4*j+w):=by rw [zaZ L S l j,zdY _ _ _ _ _ hw4,if_pos ⟨hw,h0⟩]
   unfold zdg
   rw [zjC,zeZ hl hj,hee,if_pos]
   refine ⟨(zfb hO.sl _ _).symm, ?_⟩
   have hk:4*j+w<cnt L.length (l-1):=by
    have:=(zbm hw4).1 hw
    rwa [zcO (by omega)] at this
   rw [zeZ (by omega) hk]
   by_cases he:zaO L (l-1) (4*j+w)=true
   ·exact .inl ((zfb hO.sl _ _).2 he)
   ·right;unfold zbJ;rw [if_neg he]
 ·intro hm
  exact hm (by rw [zeZ hl hj];exact ⟨ze2 hO.n2 hl hj,zek hO.n2 hl hj,zho hO hl hj⟩)
theorem zga {L:List Rec} {S:List Nat} (hO:OkM L S):zbZ L.length (zap L S)=0:=
 zaT.2 fun l hl=>zaT.2 fun j hj=>zoR hO (Nat.le_of_lt_succ hl) hj
end Go.Cs
namespace Go.Cs
open Go Go.RowKit
def zeD (root:Dig) (p:List Nod) (i:Nat):Dig:=if i=0 then root else ((p.getD (i-1) Nod.zero).es.get ((p.getD i Nod.zero).ix%4)).dg
def zeK (n b:Nat) (p:List Nod) (i:Nat):Ent:=(p.getD i Nod.zero).es.get (idx b (hgt n-i-1)%4)
def zfv (n:Nat) (root:Dig) (b:Nat) (p:List Nod) (i:Nat):Nat:=
 if zb9 n (p.getD i Nod.zero) (hgt n-i) (idx b (hgt n-i)) then 17
 else if ¬(zX (zR (p.getD i Nod.zero))).l=(zeD root p i).l then 9
 else if i=hgt n then 0
 else if ((zeK n b p i).st=0↔i+1=p.length) then 0 else 9
def zhB (n b:Int) (p:List Nod):Prop:=1≤n∧n≤4096∧0≤b∧b<n∧1≤p.length∧p.length≤hgt n.toNat+1
instance {n b:Int} {p:List Nod}:Decidable (zhB n b p):=inferInstanceAs (Decidable (_∧_))
def zeX (n:Int) (root:Dig) (b:Int) (p:List Nod):Nat:=if zhB n b p then zbL (zfv n.toNat root b.toNat p) p.length else 1
def zf2 (n:Int) (root:Dig) (b:Int) (p:List Nod):Rec:=if zeX n root b p=0∧p.length=hgt n.toNat+1 then (p.getD (hgt n.toNat) Nod.zero).rs.get (b.toNat%4) else Rec.zero
def zf7 (n:Nat) (ts:List Nod) (b i:Nat):Nod:=ndA n ts (hgt n-i) (idx b (hgt n-i))
def zg2 (n:Nat) (ts:List Nod) (b i:Nat):Prop:=i=hgt n∨((zf7 n ts b i).es.get (idx b (hgt n-i-1)%4)).st=0
instance {n:Nat} {ts:List Nod} {b i:Nat}:Decidable (zg2 n ts b i):=inferInstanceAs (Decidable (_∨_))
def zbX (n:Nat) (ts:List Nod) (b m:Nat):List Nod:=(List.range m).map (zf7 n ts b)
def mny (n:Nat) (ts:List Nod) (b:Nat):Nat:=match (List.range (hgt n+1)).find? (fun i=>decide (zg2 n ts b i)) with | some i=>i+1 | none=>hgt n+1
def zdd (L:List Rec) (S:List Nat):Dig:=zX (zR (zaw L S (hgt L.length) 0))
section
variable {L:List Rec} {S:List Nat} {b:Nat}
end
end Go.Cs
namespace Go.Cs
open Go Go.RowKit
section
variable {α:Type}
def TXq (n:Nat) (f:Nat→Nat→α) (l j:Nat):List α:=TXp n f l++(List.range j).map (f l)
theorem zmz (n:Nat) (f:Nat→Nat→α) (l:Nat):TXq n f l 0=TXp n f l:=by simp [TXq]
theorem zc2 (n:Nat) (f:Nat→Nat→α) (l j:Nat):TXq n f l (j+1)=TXq n f l j++ [f l j]:=by simp [TXq,List.range_succ]
theorem znv (n:Nat) (f:Nat→Nat→α) (l:Nat):TXq n f l (cnt n l)=TXp n f (l+1):=(ziP n f l).symm
end
theorem zgH (n l:Nat):num n (l+1)=num n l+cnt n l:=rfl
def zT (k:Nat):Nat:=1+k%24
theorem zhx (k:Nat):1≤zT k∧zT k≤24:=by unfold zT;omega
def zf1 (p:List (UInt8×UInt8)) (n:Nat):List Rec:=(List.range n).map fun i=>if i<p.length then mkR (p.getD i (0,0)).1.toNat (p.getD i (0,0)).2.toNat else Rec.zero
def zfG (s:List UInt8) (m:Nat):List Nat:=(List.range m).map fun i=>if i<s.length then byt s i%2 else 0
theorem zfw (p:List (UInt8×UInt8)) (n:Nat):(zf1 p n).length=n:=by simp [zf1]
theorem zlk (s:List UInt8) (m:Nat):(zfG s m).length=m:=by simp [zfG]
theorem zkE (p:List (UInt8×UInt8)) (n:Nat):zf1 p (n+1)=zf1 p n++ [if n<p.length then mkR (p.getD n (0,0)).1.toNat (p.getD n (0,0)).2.toNat else Rec.zero]:=by simp [zf1,List.range_succ]
theorem zkH (s:List UInt8) (m:Nat):zfG s (m+1)=zfG s m++ [if m<s.length then byt s m%2 else 0]:=by simp [zfG,List.range_succ]
theorem zqR {p:List (UInt8×UInt8)} {n i:Nat} (h:i<n):(zf1 p n).getD i Rec.zero=if i<p.length then mkR (p.getD i (0,0)).1.toNat (p.getD i (0,0)).2.toNat else Rec.zero:=by simp [zf1,List.getD,h]
theorem ztU (s:List UInt8) (m i:Nat):(zfG s m).getD i 0≤1:=by
 rcases Nat.lt_or_ge i m with h | h
 ·have:(zfG s m).getD i 0=if i<s.length then byt s i%2 else 0:=by simp [zfG,List.getD,h]
  rw [this];split<;>omega
 ·rw [List.getD_eq_getElem?_getD,List.getElem?_eq_none (by rw [zlk];exact h)];exact Nat.zero_le _
theorem zsd (p:List (UInt8×UInt8)) (s:List UInt8) (k:Nat):OkM (zf1 p (zT k)) (zfG s (tot (zT k))):=by
 have h:=zhx k
 refine ⟨by rw [zfw];exact h.1,by rw [zfw];omega,fun i hi=> ?_,by rw [zlk,zfw],ztU _ _⟩
 rw [zfw] at hi
 rw [zqR hi]
 split
 ·exact zj8 _ _
 ·decide
def zok (T k e:Nat):Value:=if e=0 then .nilIface else .iface T (.agg #[vI k,vI e])
theorem zcE {T k e:Nat} (h:e≠0):zok T k e= .iface T (.agg #[vI k,vI e]):=if_neg h
theorem Es.ints {k:IntKind} {lo hi:Nat} {w:World} {a:Option Addr} {n c:Nat} {l:List Nat} (h:Es (nv k) lo hi w a n c l):Es (iv k) lo hi w a n c (l.map fun (x:Nat)=>(x:Int)):=
 ⟨by have:=h.sla;rwa [show (l.map fun (x:Nat)=>(x:Int)).map (iv k)=l.map (nv k) by rw [List.map_map];rfl],by rw [h.len_eq,List.length_map]⟩
theorem zoc {α:Type} {x y:List α} (d:α) (hl:x.length=y.length) (h:∀i,i<x.length→x.getD i d=y.getD i d):x=y:=
 List.ext_getElem hl fun i h1 h2=>by simpa [List.getD,h1,h2] using h i h1
end Go.Cs
namespace Go.Cs
open Go Go.RowKit
theorem zgo {n l j w:Nat} {ts:List Nod} (h1:zaO (zbz n ts) (l-1) (4*j+w)=true↔((ndA n ts l j).es.get w).st=0) (h2:((ndA n ts l j).es.get w).st=0∨((ndA n ts l j).es.get w).dg.l=(zX (zR (ndA n ts (l-1) (4*j+w)))).l):zdg n ts l j w=0:=by
 unfold zdg;exact if_pos ⟨h1,h2⟩
theorem zfa {n l j w:Nat} {ts:List Nod} (h1:¬(zaO (zbz n ts) (l-1) (4*j+w)=true↔((ndA n ts l j).es.get w).st=0)):zdg n ts l j w=9:=by
 unfold zdg;exact if_neg fun h=>h1 h.1
theorem zh7 {n l j w:Nat} {ts:List Nod} (h1:¬((ndA n ts l j).es.get w).st=0) (h2:¬((ndA n ts l j).es.get w).dg.l=(zX (zR (ndA n ts (l-1) (4*j+w)))).l):zdg n ts l j w=9:=by
 unfold zdg;exact if_neg fun h=>h.2.elim h1 h2
theorem zdS {n l j w:Nat} {ts:List Nod} (hm:¬zb9 n (ndA n ts l j) l j) (hl:¬l=0) (h0:zbL (zdg n ts l j) w=0) (hw:w<prt n l j) (he:zdg n ts l j w=9):zcV n ts l j=9:=by
 rw [zmG hm hl];exact zdP h0 he (by decide) _ hw
theorem zqq {n l j w:Nat} {ts:List Nod} (hm:¬zb9 n (ndA n ts l j) l j) (hl:¬l=0) (h0:zbL (zdg n ts l j) w=0) (hw:prt n l j≤w):zcV n ts l j=0:=by
 rw [zmG hm hl];exact zaT.2 fun i hi=>zaT.1 h0 i (by omega)
theorem ziT {n l j:Nat} {x:Nod} (h1:x.lv=l) (h2:x.ix=j) (h3:zb1 n x=0):¬zb9 n x l j:=fun h=>h ⟨h1,h2,h3⟩
theorem zgz {n:Nat} {ts:List Nod} (h1:1≤n) (h2:n≤4096) (h3:ts.length=tot n):zeJ n ts=zbZ n ts:=by
 unfold zeJ;rw [if_pos ⟨by omega,by omega,by rw [Int.toNat_natCast];exact h3⟩,Int.toNat_natCast]
theorem zq9 {n:Int} {ts:List Nod} (h:¬(1≤n∧n≤4096∧ts.length=tot n.toNat)):zeJ n ts=1:=if_neg h
theorem zsa {n:Nat} {ts:List Nod} {v j:Nat} (hok:okT n ts v j) (hv:¬v=0):∀k,k<cnt n 0→zcV n ts 0 k=0:=fun k hk=>zpj hok hk (.inl (by omega))
section
variable {P:Program} {n k:Nat} {σ:List (Nat×Value)} {w:World} {ops:Array Oper} {K:List (Nat×Value)→World→Prop} {d:Option Tmp}
theorem zgd {α:Type} {f:α→Value} {lo hi lo2 hi2:Nat} {l m:List α} (d:Option Tmp) (T ty E bys:Nat) (z:Value) {a:Option Addr} {len cap:Nat} {a2:Addr} {len2 cap2:Nat}
  (hO:Own f lo hi w a len cap E l) (hS:Es f lo2 hi2 w (some a2) len2 cap2 m) (h1:∀x,(f x).oneCell'=true)
  (h:∀g cap' w',Own f g (g+1) w' (some ⟨g,0,none⟩) (len+len2) cap' E (l++m)→Chg (zeb a) w w'→(zeb a g∨g=w.heap.size)→K (zak σ d (.slice (some ⟨g,0,none⟩) (len+len2) cap')) w')
  (hm:0<len2:=by omega) (h63:len+len2≤maxLen:=by simp only [maxLen];omega) (hb:(len+len2)*bys≤140737488355328:=by omega) (hbase:lo≤w.heap.size:=by omega)
  (hz:z.cells.size=1:=by rfl) (hT:P.underlying T=some (.slice E):=by kernel_rfl)
  (hE:(P.info? E).map (fun i=>(i.zero,i.size,i.bytes))=some (some z,1,bys):=by kernel_rfl)
  (he:zbp ops n σ k=some (d,vS (Builtin.append_ #[T,T] ty #[.slice a len cap, .slice (some a2) len2 cap2])):=by kernel_rfl):zaA P ops n k σ w K:=by
 obtain ⟨i,hi,hz1,hz2,hz3⟩:=info_parts hE
 obtain ⟨g,cap',w',hr,h5,h6,h7,h8⟩:=run_append_lies (P:=P) w T ty lo E i z 1 bys hT hi hz1 hz2 hz3 hz (by omega) _ len _ hO.row a2 len2 cap2 (m.map f) (by simp [hS.len_eq]) (fun j u hu=>hS.sla.load_add hu) (by
   intro u hu
   obtain ⟨x,_,rfl⟩:=List.mem_map.1 hu
   exact h1 x) hm h63 hb hbase _ rfl
 rw [←List.map_append] at h5
 refine zbG d _ _ hr (h g cap' w' ⟨⟨h5.1, ?_⟩,by rw [List.length_append,hO.len_eq,hS.len_eq],by (intro ad hx;cases hx;exact Nat.lt_succ_self g)⟩ (Chg.of_grown h6) ?_) he
 ·rcases h5.2 with ⟨hn,_⟩|⟨b,c,cur,h9,h10,h11⟩
  ·cases hn
  ·cases h9
   exact .inr ⟨g,cap',cur,rfl,Nat.le_refl _,h11⟩
 ·rcases h7 with h7 | h7
  ·left
   cases a with
   | none=>simp [Value.ownBlock] at h7
   | some ad=>simp [Value.ownBlock] at h7;exact ⟨ad,rfl,h7⟩
  ·exact .inr h7
end
end Go.Cs
namespace Go.Cs
open Go Go.RowKit
def za9 (n v:Nat):List Nat:=(List.range v).map (cnt n)
def zbk (n v:Nat):List Nat:=(List.range v).map (num n)
theorem zkA (n v:Nat):za9 n (v+1)=za9 n v++ [cnt n v]:=by simp [za9,List.range_succ]
theorem zkw (n v:Nat):zbk n (v+1)=zbk n v++ [num n v]:=by simp [zbk,List.range_succ]
theorem zck (n v:Nat):(za9 n v).length=v:=by simp [za9]
theorem zcC (n v:Nat):(zbk n v).length=v:=by simp [zbk]
theorem zrS {n v i:Nat} (h:i<v):(za9 n v).getD i 0=cnt n i:=by simp [za9,List.getD,h]
theorem zrg {n v i:Nat} (h:i<v):(zbk n v).getD i 0=num n i:=by simp [zbk,List.getD,h]
theorem zfy {n v i:Nat} (h:i<v):gt (za9 n v) i=cnt n i:=zrS h
theorem zcM {n v i:Nat} (h:i<v):gt (zbk n v) i=num n i:=zrg h
theorem Own.ltk {α:Type} {f:α→Value} {lo hi:Nat} {w:World} {a:Option Addr} {len cap:Nat} {e:TypeId} {l:List α} {k:Nat} (h:Own f lo hi w a len cap e l) (hk:zeb a k):lo≤k∧k<hi∧k<w.heap.size:=by
 have h1:=h.ne hk
 obtain ⟨ad,rfl,rfl⟩:=hk
 exact ⟨h1.1,h1.2,(h.row.lt ad.block rfl).2⟩
theorem ztQ {n:Nat} {ts:List Nod} {l j w:Nat} (hw:w<prt n (l+1) j) (h:emP n ts l (4*j+w)=false):emP n ts (l+1) j=false:=by
 rcases (show emP n ts (l+1) j=true∨emP n ts (l+1) j=false by cases emP n ts (l+1) j<;>simp) with h1 | h1
 ·have:=zk8.1 h1 w hw;rw [h] at this;cases this
 ·exact h1
end Go.Cs
namespace Go.Cs
open Go Go.RowKit
def zrX (n b:Nat) (root:Dig) (p:List Nod) (i:Nat):Dig:=if i=0 then root else (zeK n b p (i-1)).dg
end Go.Cs
namespace Go.Cs
open Go Go.RowKit
theorem zcc {α:Type} {f:α→List Value} {sz:Nat} (hf:∀x,(f x).length=sz) (d x:α) (l:List α) (i off:Nat) (vs r:List Value) (h:i<l.length) (hx:zZ (f (l.getD i d)) off vs=f x) (ho:off+vs.length≤sz):
  zZ (l.flatMap f++r) (i*sz+off) vs=(l.set i x).flatMap f++r:=by
 have hlen:(l.take i).length=i:=by rw [List.length_take];omega
 have hd:l.getD i d=l[i]:=by simp [List.getD,h]
 have hsp:l.flatMap f=(l.take i).flatMap f++(f (l.getD i d)++(l.drop (i+1)).flatMap f):=by
  rw [hd,←List.flatMap_cons,←List.drop_eq_getElem_cons h,←List.flatMap_append,List.take_append_drop]
 have hp:((l.take i).flatMap f).length=i*sz:=by rw [zaC hf,hlen]
 rw [hsp,List.append_assoc,←hp,zfr _ _ _ _ (by rw [List.length_append,List.length_append,hf];omega),List.append_assoc,zcr _ _ _ _ (by rw [hf];exact ho),hx,
  List.set_eq_take_append_cons_drop,if_pos h,List.flatMap_append,List.flatMap_cons,List.append_assoc,List.append_assoc]
theorem zk1 {α:Type} (f:Nat→α) (m k:Nat):(List.range (m+k)).map f=(List.range m).map f++(List.range k).map (fun i=>f (m+i)):=by
 rw [List.range_add,List.map_append,List.map_map];rfl
theorem zdt {α:Type} {f:α→List Value} {sz:Nat} {z:Value} {x:α} (hz:z.cells=(f x).toArray) (hs:(f x).length=sz) (h0:0<sz):∀n,(madeCells z.cells (n*sz)).toList=(List.replicate n x).flatMap f
 | 0=>by simp [madeCells]
 | n+1=>by
  have ih:=zdt hz hs h0 n
  have hsz:z.cells.size=sz:=by rw [hz];simpa using hs
  simp only [madeCells,Array.toList_map,Array.toList_range] at ih⊢
  rw [show (n+1)*sz=sz+n*sz by rw [Nat.add_mul,Nat.one_mul,Nat.add_comm],zk1,List.replicate_succ,List.flatMap_cons,←ih]
  congr 1
  ·refine List.ext_getElem (by simp [hs]) fun i h1 h2=> ?_
   have hi:i<sz:=by simpa using h1
   have h4:i%(f x).length=i:=by rw [hs];exact Nat.mod_eq_of_lt hi
   have h5:i<(f x).length:=by rw [hs];exact hi
   simp [hz,h4,h5]
  ·refine List.map_congr_left fun i _=> ?_
   show z.cells[(sz+i)%z.cells.size]! =z.cells[i%z.cells.size]!
   rw [hsz,Nat.add_mod_left]
def gB (L:List Rec) (S:List Nat) (a l c v j:Nat):Nod:=mkN v j (fun w=>if v=0∧4*j+w<a then L.getD (4*j+w) Rec.zero else Rec.zero) (fun w=>if v≠0∧(v<l∨(v=l∧4*j+w<c)) then zbJ L S (v-1) (4*j+w) else Ent.zero)
section
variable {L:List Rec} {S:List Nat}
theorem zwn (v j:Nat):gB L S 0 1 0 v j=Nod.mt v j:=zqH (fun i _=>if_neg (by omega)) (fun i _=>if_neg (by omega))
theorem zu6 {n a:Nat} (h:a/4<cnt n 0):(TX n (gB L S a 1 0)).set (num n 0+a/4) ((gB L S a 1 0 0 (a/4)).setR (a%4) (L.getD a Rec.zero))=TX n (gB L S (a+1) 1 0):=by
 rw [zhM Nod.zero _ (Nat.zero_le _) h]
 refine zc5 Nod.zero fun v j hv hj=> ?_
 split
 ·next hh=>
  obtain ⟨rfl,rfl⟩:=hh
  unfold gB
  rw [zjk _ (Nat.mod_lt _ (by decide))]
  refine zby (fun i hi=> ?_) (fun i hi=> ?_)
  ·by_cases h1:i=a%4
   ·subst h1;rw [if_pos rfl,if_pos ⟨rfl,by omega⟩,show 4*(a/4)+a%4=a by omega]
   ·rw [if_neg h1]
    by_cases h2:4*(a/4)+i<a
    ·rw [if_pos ⟨rfl,h2⟩,if_pos ⟨rfl,by omega⟩]
    ·rw [if_neg (fun hh=>h2 hh.2),if_neg (fun hh=>by omega)]
  ·rfl
 ·next hh=>
  unfold gB
  refine zby (fun i hi=> ?_) (fun i hi=>rfl)
  by_cases h2:v=0∧4*j+i<a
  ·rw [if_pos h2,if_pos ⟨h2.1,by omega⟩]
  ·rw [if_neg h2,if_neg (fun h3=>by
    have h4:4*j+i=a:=by
     have:=h3.2
     rcases Nat.lt_or_ge (4*j+i) a with h5 | h5
     ·exact absurd ⟨h3.1,h5⟩ h2
     ·omega
    exact hh ⟨h3.1,by omega⟩)]
theorem zuK {n l c:Nat} (hl:l≤hgt n) (h0:l≠0) (h:c/4<cnt n l):(TX n (gB L S n l c)).set (num n l+c/4) ((gB L S n l c l (c/4)).setE (c%4) (zbJ L S (l-1) c))=TX n (gB L S n l (c+1)):=by
 rw [zhM Nod.zero _ hl h]
 refine zc5 Nod.zero fun v j hv hj=> ?_
 split
 ·next hh=>
  obtain ⟨rfl,rfl⟩:=hh
  unfold gB
  rw [zja _ (Nat.mod_lt _ (by decide))]
  refine zby (fun i hi=>rfl) (fun i hi=> ?_)
  by_cases h1:i=c%4
  ·subst h1;rw [if_pos rfl,if_pos ⟨h0, .inr ⟨rfl,by omega⟩⟩,show 4*(c/4)+c%4=c by omega]
  ·rw [if_neg h1]
   by_cases h2:4*(c/4)+i<c
   ·rw [if_pos ⟨h0, .inr ⟨rfl,h2⟩⟩,if_pos ⟨h0, .inr ⟨rfl,by omega⟩⟩]
   ·rw [if_neg (fun hh=>by omega),if_neg (fun hh=>by omega)]
 ·next hh=>
  unfold gB
  refine zby (fun i hi=>rfl) (fun i hi=> ?_)
  by_cases h2:v≠0∧(v<l∨v=l∧4*j+i<c)
  ·rw [if_pos h2,if_pos ⟨h2.1,by omega⟩]
  ·rw [if_neg h2,if_neg (fun h3=>by
    have h4:¬(v<l∨v=l∧4*j+i<c):=fun h5=>h2 ⟨h3.1,h5⟩
    exact hh ⟨by omega,by omega⟩)]
theorem ztx {n l c:Nat} (h:zbJ L S (l-1) c=Ent.zero):TX n (gB L S n l c)=TX n (gB L S n l (c+1)):=by
 refine zc5 Nod.zero fun v j hv hj=> ?_
 unfold gB
 refine zby (fun i hi=>rfl) (fun i hi=> ?_)
 by_cases h2:v≠0∧(v<l∨v=l∧4*j+i<c)
 ·rw [if_pos h2,if_pos ⟨h2.1,by omega⟩]
 ·rw [if_neg h2]
  split
  ·next h3=>
   have h4:¬(v<l∨v=l∧4*j+i<c):=fun h5=>h2 ⟨h3.1,h5⟩
   have h5:v=l:=by omega
   subst h5
   rw [show 4*j+i=c by omega];exact h.symm
  ·rfl
theorem zhk {l k:Nat} (h:zaO L l k=true):zbJ L S l k=Ent.zero:=if_pos h
theorem zrh {l:Nat} (hl:l≠0):TX L.length (gB L S L.length l (cnt L.length (l-1)))=TX L.length (gB L S L.length (l+1) 0):=by
 refine zc5 Nod.zero fun v j hv hj=> ?_
 unfold gB
 refine zby (fun i hi=>rfl) (fun i hi=> ?_)
 by_cases h2:v≠0∧(v<l∨v=l∧4*j+i<cnt L.length (l-1))
 ·rw [if_pos h2,if_pos ⟨h2.1,by omega⟩]
 ·rw [if_neg h2]
  split
  ·next h3=>
   have h4:¬(v<l∨v=l∧4*j+i<cnt L.length (l-1)):=fun h5=>h2 ⟨h3.1,h5⟩
   have h5:v=l:=by omega
   subst h5
   exact (zhk (zjU (by omega))).symm
  ·rfl
theorem zp5 {l c v j:Nat} (h:v<l):gB L S L.length l c v j=zaw L S v j:=by
 rw [zaZ]
 unfold gB zcl
 refine zby (fun i hi=> ?_) (fun i hi=> ?_)
 ·by_cases h0:v=0
  ·subst h0
   have hp:=zbm (n:=L.length) (l:=0) (j:=j) hi
   have hu:und L.length 0=L.length:=rfl
   by_cases h2:4*j+i<L.length
   ·rw [if_pos ⟨rfl,h2⟩,if_pos ⟨hp.2 (by omega),rfl⟩]
   ·rw [if_neg (fun hh=>h2 hh.2),if_neg (fun hh=>h2 (by have:=hp.1 hh.1;omega))]
  ·rw [if_neg (fun hh=>h0 hh.1),if_neg (fun hh=>h0 hh.2)]
 ·by_cases h0:v=0
  ·rw [if_neg (fun hh=>hh.1 h0),if_neg (fun hh=>hh.2 h0)]
  ·rw [if_pos ⟨h0, .inl h⟩]
   have hp:=zbm (n:=L.length) (l:=v) (j:=j) hi
   rw [zcO (by omega)] at hp
   split
   ·rfl
   ·next hh=>exact zhk (zjU (Nat.le_of_not_lt fun h3=>hh ⟨hp.2 h3,h0⟩))
theorem ztl:TX L.length (gB L S L.length (hgt L.length+1) 0)=zap L S:=zc5 Nod.zero fun v j hv hj=>zp5 (by omega)
theorem ztX {n a:Nat} (h:a/4<cnt n 0):(TX n (gB L S a 1 0)).set (a/4) (((TX n (gB L S a 1 0)).getD (a/4) Nod.zero).setR (a%4) (L.getD a Rec.zero))=TX n (gB L S (a+1) 1 0):=by
 have h0:num n 0+a/4=a/4:=Nat.zero_add _
 have h1:=zu6 (L:=L) (S:=S) h
 have h2:=zcS (f:=gB L S a 1 0) Nod.zero (Nat.zero_le _) h
 rw [h0] at h1 h2
 rw [h2];exact h1
theorem zso {n l c:Nat} {e:Ent} (hl:l≤hgt n) (h0:l≠0) (h:c/4<cnt n l) (he:e=zbJ L S (l-1) c):(TX n (gB L S n l c)).set (num n l+c/4) (((TX n (gB L S n l c)).getD (num n l+c/4) Nod.zero).setE (c%4) e)=TX n (gB L S n l (c+1)):=by
 rw [zcS Nod.zero hl h,he];exact zuK hl h0 h
theorem zpw {n l:Nat} (hn:n=L.length) (hl:l≠0):TX n (gB L S n l (cnt n (l-1)))=TX n (gB L S n (l+1) 0):=by subst hn;exact zrh hl
theorem zqX {n:Nat} (hn:n=L.length):TX n (gB L S n (hgt n+1) 0)=zap L S:=by subst hn;exact ztl
theorem zsO {n l c v j:Nat} (hn:n=L.length) (h:v<l) (hv:v≤hgt n) (hj:j<cnt n v):(TX n (gB L S n l c)).getD (num n v+j) Nod.zero=zaw L S v j:=by
 subst hn;rw [zcS Nod.zero hv hj];exact zp5 h
end
def gF (v j a b:Nat):Nod:=if a<v∨(a=v∧b<j) then Nod.mt a b else Nod.zero
theorem ztF (n:Nat):List.replicate (tot n) Nod.zero=TX n (gF 0 0):=zfm Nod.zero (by simp) fun l j hl hj=>by
 have h:gF 0 0 l j=Nod.zero:=if_neg (by omega)
 rw [h];simp [List.getD,zaL hl hj]
theorem zuH {n v j:Nat} (hv:v≤hgt n) (hj:j<cnt n v):(TX n (gF v j)).set (num n v+j) (Nod.mt v j)=TX n (gF v (j+1)):=by
 rw [zhM Nod.zero _ hv hj]
 refine zc5 Nod.zero fun a b ha hb=> ?_
 unfold gF
 split
 ·next h=>obtain ⟨rfl,rfl⟩:=h;rw [if_pos (.inr ⟨rfl,by omega⟩)]
 ·next h=>
  by_cases h2:a<v∨a=v∧b<j
  ·rw [if_pos h2,if_pos (by omega)]
  ·rw [if_neg h2,if_neg (fun h3=>h (by omega))]
theorem zq7 {n v:Nat}:TX n (gF v (cnt n v))=TX n (gF (v+1) 0):=zc5 Nod.zero fun a b ha hb=>by
 unfold gF
 by_cases h2:a<v∨a=v∧b<cnt n v
 ·rw [if_pos h2,if_pos (by omega)]
 ·rw [if_neg h2,if_neg (fun h3=>by
   have h4:a=v:=by omega
   subst h4;exact h2 (.inr ⟨rfl,hb⟩))]
theorem zsy {n:Nat} (L:List Rec) (S:List Nat):TX n (gF (hgt n+1) 0)=TX n (gB L S 0 1 0):=zc5 Nod.zero fun a b ha hb=>by
 rw [zwn];exact if_pos (by omega)
theorem Ms.of_row {α:Type} {f:α→List Value} {sz b len:Nat} {e:TypeId} {w:World} {l:List α} (h:Blk w b (l.flatMap f) e) (hf:∀x,(f x).length=sz) (hl:len=l.length) (hm:len≤maxLen):Ms f sz b (b+1) w (some ⟨b,0,none⟩) len len l:=
 Ms.of_pre (r:= []) (by rw [List.append_nil];exact h) hf hl (Nat.le_refl _) hm (Nat.le_refl _) (Nat.lt_succ_self _)
theorem zsE {L:List Rec} {S:List Nat} (hO:OkM L S) {n l j:Nat} (hn:n=L.length) (hl:l≤hgt n) (hj:j<cnt n l):(0<usd (zaw L S l j) 4→zaO L l j=false)∧(¬0<usd (zaw L S l j) 4→zaO L l j=true):=by
 subst hn
 have h:=zmD hO.sl hO.n2 hl hj
 constructor
 ·intro h2
  rcases (show zaO L l j=true∨zaO L l j=false by cases zaO L l j<;>simp) with h3 | h3
  ·have:=h.2 h3;omega
  ·exact h3
 ·intro h2;exact h.1 (by omega)
theorem zsR {L:List Rec} {S:List Nat} {n l k x:Nat} {d:Dig} {hb:x<256} (hn:n=L.length) (he:zaO L l k=false) (hx:x=S.getD (num n l+k) 0+1) (hd:d=zX (zR (zaw L S l k))):(⟨x,d,hb⟩:Ent)=zbJ L S l k:=by
 subst hn;subst hd;subst hx
 unfold zbJ
 rw [if_neg (by rw [he];decide)]
 simp only [Ent.mk.injEq,and_true]
 exact (Nat.mod_eq_of_lt hb).symm
theorem zkF (s:List Nat) (i:Nat):(s.map fun (x:Nat)=>(x:Int)).getD i 0=((s.getD i 0:Nat):Int):=by
 simp only [List.getD_eq_getElem?_getD,List.getElem?_map]
 cases s[i]? <;>rfl
end Go.Cs
namespace Go.Cs
open Go Go.RowKit
section
variable {P:Program} {w:World}
end
def exL (r:Rec):List Rec:= [r,Rec.zero,Rec.zero,Rec.zero,Rec.zero]
def wL (f:Nat→Nat) (n:Nat):Nat→Nat
 | 0=>0
 | k+1=>if f (n-1-k)=0 then wL f n k else 1
def wU (f:Nat→Nat) (w0:Nat):Nat→Nat
 | 0=>w0
 | k+1=>if f k=0 then wU f w0 k else 1
def zq5 (x:Int):Nat:=if x=0∨x=1 then 0 else 1
end Go.Cs
namespace Go.Cs
open Go Go.RowKit
structure Un where
 nd:Nod
 sl:Int
 dt:Bool
 ch:List Bool
 hch:ch.length=4
theorem Un.ext' {a b:Un} (h1:a.nd=b.nd) (h2:a.sl=b.sl) (h3:a.dt=b.dt) (h4:a.ch=b.ch):a=b:=by
 cases a;cases b;cases h1;cases h2;cases h3;cases h4;rfl
def Un.zero:Un:=⟨Nod.zero,0,false,List.replicate 4 false,rfl⟩
def blC (l:List Bool):List Value:=l.map Value.bool
def unC (x:Un):List Value:=zH x.nd++(.int .i64 x.sl:: .bool x.dt::blC x.ch)
def Un.g (x:Un) (i:Nat):Bool:=x.ch.getD i false
def Un.setR (x:Un) (i:Nat) (r:Rec):Un:=⟨x.nd.setR i r,x.sl,x.dt,x.ch,x.hch⟩
def Un.setE (x:Un) (i:Nat) (r:Ent):Un:=⟨x.nd.setE i r,x.sl,x.dt,x.ch,x.hch⟩
def Un.setDt (x:Un) (b:Bool):Un:=⟨x.nd,x.sl,b,x.ch,x.hch⟩
def Un.setCh (x:Un) (i:Nat) (b:Bool):Un:=⟨x.nd,x.sl,x.dt,x.ch.set i b,by rw [List.length_set];exact x.hch⟩
@[simp] theorem ziv (l:List Bool):(blC l).length=l.length:=by simp [blC]
@[simp] theorem zI (x:Un):(unC x).length=280:=by simp [unC,x.hch]
theorem za7 (x:Un):∀u∈unC x,u.oneCell'=true:=by
 intro u hu
 rcases List.mem_append.1 hu with h | h
 ·exact zct _ u h
 ·rcases List.mem_cons.1 h with rfl | h
  ·rfl
  ·rcases List.mem_cons.1 h with rfl | h
   ·rfl
   ·obtain ⟨b,_,rfl⟩:=List.mem_map.1 h;rfl
theorem zdE (x:Un):((unC x).drop 0).take (zH x.nd).length=zH x.nd:=by rw [List.drop_zero,unC,List.take_left]
theorem zdu (x:Un):(unC x)[274]? =some (.int .i64 x.sl):=by rw [unC,List.getElem?_append_right (by simp)];simp
theorem zdc (x:Un):(unC x)[275]? =some (.bool x.dt):=by rw [unC,List.getElem?_append_right (by simp)];simp
theorem zin {x:Un} {i:Nat} (h:i<4):(unC x)[276+i*1]? =some (.bool (x.g i)):=by
 rw [unC,List.getElem?_append_right (by rw [zN];omega),zN,show 276+i*1-274=i+1+1 by omega,List.getElem?_cons_succ,List.getElem?_cons_succ,blC,List.getElem?_map,List.getElem?_eq_getElem (by rw [x.hch];exact h)]
 simp [Un.g,List.getD,x.hch,h]
theorem zkG {α:Type} (p r:List α) (k m:Nat) (h:k+m≤p.length):((p++r).drop k).take m=(p.drop k).take m:=by
 rw [List.drop_append_of_le_length (by omega),List.take_append_of_le_length (by rw [List.length_drop];omega)]
theorem zu0 {x:Un} {i:Nat} (h:i<4):((unC x).drop (2+i*35)).take (zL (x.nd.rs.get i)).length=zL (x.nd.rs.get i):=by
 rw [unC,zkG _ _ _ _ (by rw [zN,zab];omega)];exact nod_r h
theorem zhK {x:Un} {i:Nat} (h:i<4):((unC x).drop (142+i*33)).take (zW (x.nd.es.get i)).length=zW (x.nd.es.get i):=by
 rw [unC,zkG _ _ _ _ (by rw [zN,zat];omega)];exact nod_e h
theorem zhJ {x:Un} {i:Nat} (h:i<4):(unC x)[2+i*35]? =some (.int .u8 (((x.nd.rs.get i).st:Nat):Int)):=zge (j:=0) (zu0 h) rfl
theorem zqi {x:Un} {i:Nat} (h:i<4):(unC x)[142+i*33]? =some (.int .u8 (((x.nd.es.get i).st:Nat):Int)):=zge (j:=0) (zhK h) rfl
theorem zsH {x:Un} {i:Nat} {r:Rec} (h:i<4):zZ (unC x) (2+i*35) (zL r)=unC (x.setR i r):=by
 rw [unC,zcr _ _ _ _ (by rw [zN,zab];omega),nod_setR h];rfl
theorem ztA {x:Un} {i:Nat} {r:Ent} (h:i<4):zZ (unC x) (142+i*33) (zW r)=unC (x.setE i r):=by
 rw [unC,zcr _ _ _ _ (by rw [zN,zat];omega),nod_setE h];rfl
theorem zi0 {x:Un} {b:Bool}:zZ (unC x) 275 [.bool b]=unC (x.setDt b):=by
 show (unC x).set 275 _=_
 rw [unC,List.set_append_right _ _ (by rw [zN];omega),zN];rfl
theorem zhy {x:Un} {i:Nat} {b:Bool} (h:i<4):zZ (unC x) (276+i*1) [.bool b]=unC (x.setCh i b):=by
 show (unC x).set (276+i*1) _=_
 rw [unC,List.set_append_right _ _ (by rw [zN];omega),zN,show 276+i*1-274=i+1+1 by omega,List.set_cons_succ,List.set_cons_succ,unC,Un.setCh,blC,blC,List.map_set]
def Un.eqb (x y:Un):Bool:=x.nd.eqb y.nd&&(x.sl==y.sl&&(x.dt==y.dt&&(eqL false (fun a b:Bool=>a==b) 4 x.ch y.ch&&true)))
theorem zth {x y:List Bool} (hx:x.length=4) (hy:y.length=4):eqL false (fun a b:Bool=>a==b) 4 x y=true↔x=y:=ziC (fun a b=>beq_iff_eq) hx hy
theorem Un.eqb_iff (x y:Un):x.eqb y=true↔x=y:=by
 unfold Un.eqb
 simp only [Bool.and_eq_true,Nod.eqb_iff,beq_iff_eq,and_true,zth x.hch y.hch]
 exact ⟨fun h=>Un.ext' h.1 h.2.1 h.2.2.1 h.2.2.2,fun h=>by subst h;exact ⟨rfl,rfl,rfl,rfl⟩⟩
end Go.Cs
