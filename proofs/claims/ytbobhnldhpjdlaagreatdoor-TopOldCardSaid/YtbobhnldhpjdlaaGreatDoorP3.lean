/- Lemmas and walks: what each function does, by its own code. No condition beyond those of each statement. -/
import Derived.Test.YtbobhnldhpjdlaaGreatDoorP1
import Derived.RangeFuncNested
import Derived.RangeFuncLeaves
import Derived.Laws.Concat
set_option linter.all false
set_option linter.unusedVariables false
namespace Go.Cs
open Go Go.RowKit
structure Book (B:Nat) (w w':World):Prop where
 os:w'.os=w.os
 tape:w'.tape=w.tape
 output:w'.output=w.output
 size:w.heap.size≤w'.heap.size
 low:∀k,k<B→k<w.heap.size→w'.heap[k]? =w.heap[k]?
 cells:∀(k:Nat) (o:Obj),w.heap[k]? =some o→o.isCells=true→w'.heap[k]? =some o
theorem Book.refl (B:Nat) (w:World):Book B w w:=⟨rfl,rfl,rfl,Nat.le_refl _,fun _ _ _=>rfl,fun _ _ h _=>h⟩
theorem Book.trans {B:Nat} {a b c:World} (h:Book B a b) (g:Book B b c):Book B a c:=
 ⟨g.os.trans h.os,g.tape.trans h.tape,g.output.trans h.output,Nat.le_trans h.size g.size,fun k hk h1=>(g.low k hk (Nat.lt_of_lt_of_le h1 h.size)).trans (h.low k hk h1),fun k o h1 h2=>g.cells k o (h.cells k o h1 h2) h2⟩
theorem Book.alloc {B:Nat} (w:World) (o:Obj):Book B w (w.alloc o):=
 ⟨rfl,rfl,rfl,by simp,fun k _ hk=>Below.heap_alloc _ _ _ hk,fun k o' h _=>(Below.heap_alloc _ _ _ (Array.getElem?_eq_some_iff.1 h).1).trans h⟩
theorem Book.putObj {B l:Nat} {w:World} {o:Obj} (o':Obj) (hB:B≤l) (hl:w.heap[l]? =some o) (ho:o.isCells=false):Book B w (w.putObj l o'):=
 ⟨rfl,rfl,rfl,by simp [World.putObj],fun k hk _=>World.putObj_heap_other (by omega),fun k o2 h h2=>by
  have:k≠l:=by rintro rfl;rw [hl] at h;cases h;rw [ho] at h2;cases h2
  exact (World.putObj_heap_other this).trans h⟩
theorem Blk.book {B:Nat} {w w':World} {b:Nat} {cs:List Value} {e:TypeId} (h:Blk w b cs e) (g:Book B w w'):Blk w' b cs e:=g.cells _ _ h rfl
theorem Book.cell {B:Nat} {w w':World} (g:Book B w w') {a:Addr} {v:Value} (h:w.cell? a=some v):w'.cell? a=some v:=by
 obtain ⟨o,h1,h2⟩:=cells_of_cell h
 exact (World.cell?_of_block ((g.cells _ _ h1 h2).trans h1.symm)).trans h
theorem eN.book {B lo hi:Nat} {w w':World} {a:Option Addr} {len cap:Nat} {vs:List Value} (h:eN lo hi w a len cap vs) (g:Book B w w'):eN lo hi w' a len cap vs:=by
 cases a with
 | none=>exact h
 | some ad=>
  obtain ⟨g1,g2,g3⟩:=h
  exact ⟨g1,g2,g3.imp id fun ⟨g4,g5,g6,g7,g8⟩=>⟨g4,g5,g6,Nat.lt_of_lt_of_le g7 g.size,fun i v hv=>g.cell (g8 i v hv)⟩⟩
theorem Es.book {α:Type} {f:α→Value} {B lo hi:Nat} {w w':World} {a:Option Addr} {len cap:Nat} {l:List α} (h:Es f lo hi w a len cap l) (g:Book B w w'):Es f lo hi w' a len cap l:=⟨h.sla.book g,h.len_eq⟩
theorem Bs.book {B lo hi:Nat} {w w':World} {a:Option Addr} {len cap:Nat} {l:List UInt8} (h:Bs lo hi w a len cap l) (g:Book B w w'):Bs lo hi w' a len cap l:=⟨h.sla.book g,h.len_eq⟩
theorem Ms.book {α:Type} {f:α→List Value} {sz:Nat} {B lo hi:Nat} {w w':World} {a:Option Addr} {len cap:Nat} {l:List α} (h:Ms f sz lo hi w a len cap l) (g:Book B w w'):Ms f sz lo hi w' a len cap l:=⟨h.sla.book g,h.len_eq,h.each⟩
theorem Own.book {α:Type} {f:α→Value} {B lo hi:Nat} {w w':World} {a:Option Addr} {len cap:Nat} {e:TypeId} {l:List α} (h:Own f lo hi w a len cap e l) (g:Book B w w'):Own f lo hi w' a len cap e l:=by
 refine ⟨⟨h.row.1, ?_⟩,h.len_eq,h.below⟩
 rcases h.row.2 with h1 |⟨b,c,cur,h1,h2,h3,h4⟩
 ·exact .inl h1
 ·exact .inr ⟨b,c,cur,h1,h2,g.cells _ _ h3 rfl,h4⟩
theorem Chg.book {S:Nat→Prop} {B:Nat} {u w w':World} (h:Chg S u w) (g:Book B w w') (hB:u.heap.size≤B):Chg S u w':=
 ⟨g.os.trans h.os,g.tape.trans h.tape,g.output.trans h.output,Nat.le_trans h.size g.size,fun k hk hs=>(g.low k (by omega) (Nat.lt_of_lt_of_le hk h.size)).trans (h.block k hk hs)⟩
theorem Book.chg {B:Nat} {w w':World} (g:Book B w w'):Chg (fun b=>B≤b) w w':=⟨g.os,g.tape,g.output,g.size,fun k hk hs=>g.low k (by omega) hk⟩
structure Kpt (w w':World):Prop where
 size:w.heap.size≤w'.heap.size
 same:∀(k:Nat) (o:Obj),w.heap[k]? =some o→o.isCells=false→w'.heap[k]? =some o
theorem Kpt.refl (w:World):Kpt w w:=⟨Nat.le_refl _,fun _ _ h _=>h⟩
theorem Kpt.trans {a b c:World} (h:Kpt a b) (g:Kpt b c):Kpt a c:=⟨Nat.le_trans h.size g.size,fun k o h1 h2=>g.same k o (h.same k o h1 h2) h2⟩
theorem Kpt.ext {a b c:World} (h:Kpt a b) (g:Ext b c):Kpt a c:=h.trans ⟨g.size,fun k o h1 _=>(g.block k (Array.getElem?_eq_some_iff.1 h1).1 (fun hf=>hf)).trans h1⟩
theorem Kpt.blk {a b c:World} {k:Nat} {cs:List Value} {e:TypeId} (h:Kpt a b) (hB:Blk b k cs e) (g:Chg (· =k) b c):Kpt a c:=h.trans ⟨g.size,fun j o h1 h2=>by
 have:j≠k:=by
  rintro rfl
  have h3:b.heap[j]? =_:=hB
  rw [h3] at h1;cases h1;cases h2
 exact (g.block j (Array.getElem?_eq_some_iff.1 h1).1 this).trans h1⟩
theorem Kpt.own {α:Type} {f:α→Value} {lo hi len cap:Nat} {e:TypeId} {l:List α} {a b c:World} {ad:Option Addr} (h:Kpt a b) (hO:Own f lo hi b ad len cap e l) (g:Chg (ov ad) b c):Kpt a c:=h.trans ⟨g.size,fun j o h1 h2=>by
 refine (g.block j (Array.getElem?_eq_some_iff.1 h1).1 ?_).trans h1
 rintro ⟨ad',rfl,rfl⟩
 rcases hO.blk with ⟨h3,_⟩|⟨b',cs,h3,hB,_⟩
 ·cases h3
 ·cases h3
  have h4:b.heap[b']? =_:=hB
  rw [h4] at h1;cases h1;cases h2⟩
def Yat (P:Program) (l:Nat) (args:List Value) (w:World) (R:Value→World→Prop):Prop:=
 ∃fn tmps assign body,(Instr.yield l args.toArray).run P w= .ok (.round l fn tmps assign body) w∧Rnd P l fn tmps assign body w (Ret R)
def RPost (B:Nat) (U:Nat→Prop) (I:Nat→World→Prop) (Ix:Code→Nat→World→Prop) (k:Nat) (w:World):Exit→Act→World→Prop
 | .normal,_,w'=>Kpt w w'∧Chg (fun b=>B≤b∨U b) w w'∧I (k+1) w'
 | .ret,_,w'=>Kpt w w'∧Chg (fun b=>B≤b∨U b) w w'∧Ix .ret k w'
 | .exit id,_,w'=>Kpt w w'∧Chg (fun b=>B≤b∨U b) w w'∧Ix (.exit id) k w'
 | .goto t,_,w'=>Kpt w w'∧Chg (fun b=>B≤b∨U b) w w'∧Ix (.goto t) k w'
 | .panic _,_,_=>False
 | .outgrown,_,_=>False
instance {B:Nat} {U:Nat→Prop} {I:Nat→World→Prop} {Ix:Code→Nat→World→Prop} {k:Nat} {w:World}:NoPan (RPost B U I Ix k w):=⟨fun _ _ _ h=>h⟩
def Mid (P:Program) (l B:Nat) (U:Nat→Prop) (I:Nat→World→Prop) (Ix:Code→Nat→World→Prop) (k:Nat) (body:Code) (w:World):Exit→Act→World→Prop:=
 Exit.then (fun a w1=>Kpt w w1∧Chg (fun b=>B≤b∨U b) w w1∧∀w2,Book B w1 w2→Ly (some l) P body (RPost B U I Ix k w2) a w2) (fun _ _ _=>False)
def gX:List Tmp→List Value→List (Nat×Value)→List (Nat×Value)
 | p::ps,v::vs,σ=>gX ps vs ((p,v)::σ)
 | _,_,σ=>σ
theorem sB (n:Nat):∀(ps:List Tmp) (vs:List Value) (σ:List (Nat×Value)),(ps.zip vs).foldl (fun t (x:Tmp×Value)=>t.setIfInBounds x.1 x.2) (Fr [] n σ).tmps=(Fr [] n (gX ps vs σ)).tmps:=by
 intro ps
 induction ps with
 | nil=>intro vs σ;rfl
 | cons p ps ih=>
  intro vs σ
  cases vs with
  | nil=>rfl
  | cons v vs=>
   have h2:(Fr [] n σ).tmps.setIfInBounds p v=(Fr [] n ((p,v)::σ)).tmps:=congrArg Act.tmps (eB [] n σ (some p) v)
   rw [gX,←ih vs ((p,v)::σ),←h2]
   rfl
theorem mG (n:Nat) (ps:List Tmp) (vs:List Value) (σ:List (Nat×Value)):((ps.toArray.zip vs.toArray).foldl (fun t (x:Tmp×Value)=>t.setIfInBounds x.1 x.2) (Fr [] n σ).tmps)=(Fr [] n (gX ps vs σ)).tmps:=by
 have hz:ps.toArray.zip vs.toArray=(ps.zip vs).toArray:=by simp
 rw [←sB,hz,←Array.foldl_toList]
def Mk (w:World) (D:Nat):Prop:=w.heap[D]? =some (.deferred (some []))
theorem Mk.lt {w:World} {D:Nat} (h:Mk w D):D<w.heap.size:=(Array.getElem?_eq_some_iff.1 h).1
theorem Mk.chg {S:Nat→Prop} {w w':World} {D:Nat} (h:Mk w D) (hc:Chg S w w') (hs:¬S D:=by intro hs;first |(have h:_=_:=hs;omega)|(rcases hs with hs | hs<;>omega)):Mk w' D:=(hc.block D h.lt hs).trans h
theorem Mk.ext {w w':World} {D:Nat} (h:Mk w D) (hc:Ext w w'):Mk w' D:=h.chg hc (fun hf=>hf)
theorem Yat.mono {P:Program} {l:Nat} {args:List Value} {w:World} {R R':Value→World→Prop} (h:Yat P l args w R) (hr:∀v w',R v w'→R' v w'):Yat P l args w R':=by
 obtain ⟨fn,tmps,assign,body,h1,h2⟩:=h
 exact ⟨fn,tmps,assign,body,h1,RoundIn.mono h2 fun e w' ⟨v,he,hv⟩=>⟨v,he,hr v w' hv⟩⟩
def uY (P:Program) (f:FuncId):Bool:=match P.funcs[f]? with
 | some fn=> !(fn.name== "runtime.NumGoroutine")&&fn.body.isSome
 | none=>false
theorem tR {P:Program} {f:FuncId} (h:uY P f=true) (args:Array Value) (w:World):(callFunc f args).run P w= .ok (.enter f args) w:=by
 unfold uY at h
 cases hf:P.funcs[f]? with
 | none=>simp [hf] at h
 | some fn=>
  simp only [hf,Bool.and_eq_true,Bool.not_eq_true'] at h
  have h1:fn.name≠ "runtime.NumGoroutine" :=by simpa using h.1
  obtain ⟨c,hb⟩:=Option.isSome_iff_exists.1 h.2
  simp [callFunc,hf,h1,hb]
abbrev mark (D:Nat):List Deferred:= [{target:= .collected D,args:= #[]}]
theorem Ht {P:Program} {Q:Exit→Act→World→Prop} {n:Nat} {σ:List (Nat×Value)} {w:World} {g:Operand} {psA:Array Tmp} {assign body:Code} (ps:List Tmp) (gf:Nat) (lb:List Value) (m:Nat) (vals:Nat→List Value) (U T:Nat→Prop)
  (I:Nat→World→Prop) (Ix:Code→Nat→World→Prop)
  (hT:∀b,T b→b<w.heap.size) (hv:∀k,(vals k).length=ps.length)
  (hI:∀k W W',I k W→Book w.heap.size W W'→I k W') (hIx:∀c k W W',Ix c k W→Book w.heap.size W W'→Ix c k W') (hIT:∀k W W',I k W→Chg T W W'→I k W') (h0:I 0 w)
  (hiter:∀(l:Nat) (J Jx:Nat→World→Prop) (w1:World),Ext w w1→(∀k W W',J k W→Chg T W W'→J k W')→
   (∀k W,k<m→J k W→Yat P l (vals k) W (fun v W'=>(v= .bool true∧J (k+1) W'∧Chg (fun b=>w.heap.size≤b∨U b) W W')∨(v= .bool false∧Chg (fun b=>w.heap.size≤b∨U b) W W'∧Jx k W')))→J 0 w1→
   Calls P gf (.func (.yield l) #[] #[]::lb).toArray w1 (Ret fun _ w'=>J m w'∨∃k,k<m∧Jx k w'))
  (hround:∀(l k:Nat) (W:World),w.heap.size≤l→I k W→k<m→i4 (ro:=some l) (ds:= []) P assign (Mid P l w.heap.size U I Ix k body W) n (gX ps (vals k) σ) W)
  (hdone:∀(D:Nat) (W:World),w.heap.size≤D→I m W→Mk W D→Q .normal (Fr (mark D) n σ) W)
  (hstop:∀(D:Nat) (c:Code) (k:Nat) (W:World),w.heap.size≤D→k<m→Ix c k W→Mk W D→i4 (ro:=none) (ds:=mark D) P c Q n σ W)
  (hps:psA=ps.toArray:=by rfl) (hg:ev n σ g= .func (.func gf) #[] lb.toArray:=by kernel_rfl) (heg:∀args w,(callFunc gf args).run P w= .ok (.enter gf args) w:=by exact tR (by kernel_rfl)):
  i4 (ro:=none) (ds:= []) P (.rangeFunc g psA assign body) Q n σ w:=by
 subst hps
 unfold i4
 refine wpIn_rangeFunc ?_
 intro fn _
 obtain ⟨rec,hrec⟩:∃rec:LoopState→Option Code→Loop,rec=fun st pe=>{state:=st,pending:=pe,fn,tmps:=(Fr [] n σ).tmps,params:=ps.toArray,assign,body,defers:=w.heap.size}:=⟨_,rfl⟩
 obtain ⟨W1,hW1⟩:∃W1,(w.alloc (.deferred (some []))).alloc (.loop (rec .ready none))=W1:=⟨_,rfl⟩
 have hL1:W1.heap[w.heap.size+1]? =some (.loop (rec .ready none)):=by
  rw [←hW1];have:=World.alloc_heap_new (w.alloc (.deferred (some []))) (.loop (rec .ready none));rwa [World.size_alloc] at this
 have hK1:W1.heap[w.heap.size]? =some (.deferred (some [])):=by
  rw [←hW1];exact (Below.heap_alloc _ _ _ (by simp)).trans (World.alloc_heap_new w _)
 have hbk:Book w.heap.size w W1:=by rw [←hW1];exact (Book.alloc _ _).trans (Book.alloc _ _)
 have hE1:Ext w W1:=by rw [←hW1];exact (Ext.alloc _ _).trans (Ext.alloc _ _)
 have hI1:I 0 W1:=hI _ _ _ h0 hbk
 refine ⟨w.heap.size+1,mark w.heap.size,W1,{target:= .fn (.func gf) lb.toArray,args:= #[.func (.yield (w.heap.size+1)) #[] #[]]},W1,gf,
  (.func (.yield (w.heap.size+1)) #[] #[]::lb).toArray,W1, ?_, ?_,fun _ _=>trivial, ?_,fun h=>(by cases h), ?_⟩
 ·rw [←hW1,hrec];exact run_enterLoop_outer _ _ _ _ _
 ·simp only [resolve,dS,hg]
  simp [go_sem,ev]
 ·have:=heg (#[.func (.yield (w.heap.size+1)) #[] #[]]++lb.toArray) W1
  simp [invoke,go_sem] at this⊢
  exact this
 ·have hit:=hiter (w.heap.size+1)
   (fun k W=>I k W∧W.heap[w.heap.size+1]? =some (.loop (rec .ready none))∧W.heap[w.heap.size]? =some (.deferred (some [])))
   (fun k W=>∃c,Ix c k W∧W.heap[w.heap.size+1]? =some (.loop (rec .done (some c)))∧W.heap[w.heap.size]? =some (.deferred (some [])))
   W1 hE1 (fun k W W' ⟨h1,h2,h3⟩ hc=>⟨hIT _ _ _ h1 hc,(hc.block _ (Array.getElem?_eq_some_iff.1 h2).1 (fun ht=>by have:=hT _ ht;omega)).trans h2,(hc.block _ (Array.getElem?_eq_some_iff.1 h3).1 (fun ht=>by have:=hT _ ht;omega)).trans h3⟩)
   ?_ ⟨hI1,hL1,hK1⟩
  ·refine CallsIn.mono (show CallsIn (fen none) (0-1) P gf _ W1 _ from callsIn_wide (n:=0-1).2 hit) ?_
   rintro e W2 ⟨v,rfl,⟨hi,hl,hk⟩|⟨k,hk0,c,hi,hl,hk⟩⟩
   ·exact ⟨none,_,by have:=run_endLoop (P:=P) hl (by rw [hrec];simp);rw [hrec] at this;exact this,hdone _ _ (Nat.le_refl _) (hI _ _ _ hi (Book.putObj _ (by omega) hl rfl)) ((World.putObj_heap_other (by omega)).trans hk)⟩
   ·exact ⟨some c,_,by have:=run_endLoop (P:=P) hl (by rw [hrec];simp);rw [hrec] at this;exact this,hstop _ c k _ (Nat.le_refl _) hk0 (hIx _ _ _ _ hi (Book.putObj _ (by omega) hl rfl)) ((World.putObj_heap_other (by omega)).trans hk)⟩
  ·rintro k W hkm ⟨hi,hl,hk⟩
   have hlt:w.heap.size+1<W.heap.size:=(Array.getElem?_eq_some_iff.1 hl).1
   have hy:=run_yield (P:=P) (args:=(vals k).toArray) hl (by rw [hrec];simp [hv])
   rw [hrec] at hy
   refine ⟨fn,_,assign,body,hy, ?_⟩
   have hr:=hround (w.heap.size+1) k W (by omega) hi hkm
   refine roundIn_of_wpIn (F:=Fence.wide) trivial ?_
   have ht:((ps.toArray.zip (vals k).toArray).foldl (fun t (x:Tmp×Value)=>t.setIfInBounds x.1 x.2) (Fr [] n σ).tmps)=(Fr [] n (gX ps (vals k) σ)).tmps:=mG n ps (vals k) σ
   have hfr:({tmps:=((ps.toArray.zip (vals k).toArray).foldl (fun t (x:Tmp×Value)=>t.setIfInBounds x.1 x.2) (Fr [] n σ).tmps),defers:= []}:Act)=Fr [] n (gX ps (vals k) σ):=by rw [ht];rfl
   have hr':assign.wpIn (Fence.wide.inRound (w.heap.size+1)) 0 P (Mid P (w.heap.size+1) w.heap.size U I Ix k body W) (Fr [] n (gX ps (vals k) σ)) W:=hr
   rw [←hfr] at hr'
   refine wpIn_mono hr' ?_
   intro e a Wa hm
   cases e with
   | normal=>
    obtain ⟨hkp,hch,hbody⟩:=hm
    have hla:=hkp.same _ _ hl rfl
    have hka:=hkp.same _ _ hk rfl
    have hlta:w.heap.size+1<Wa.heap.size:=(Array.getElem?_eq_some_iff.1 hla).1
    refine ⟨_,run_beginRound hla (by rw [hrec]), ?_⟩
    have hbk2:Book w.heap.size Wa (Wa.putObj (w.heap.size+1) (.loop {rec .ready none with state:= .busy})):=Book.putObj _ (by omega) hla rfl
    have hl2:(Wa.putObj (w.heap.size+1) (.loop {rec .ready none with state:= .busy})).heap[w.heap.size+1]? =some (.loop {rec .ready none with state:= .busy}):=World.putObj_heap_same hlta
    have hk2:(Wa.putObj (w.heap.size+1) (.loop {rec .ready none with state:= .busy})).heap[w.heap.size]? =some (.deferred (some [])):=(World.putObj_heap_other (by omega)).trans hka
    refine wpIn_mono (hbody _ hbk2) ?_
    have fin:∀(jump:Option Code) (W3:World),Kpt (Wa.putObj (w.heap.size+1) (.loop {rec .ready none with state:= .busy})) W3→
      (Instr.endRound (w.heap.size+1) jump).run P W3= .ok (.bool jump.isNone) (W3.putObj (w.heap.size+1) (.loop (rec (if jump.isNone then .ready else .done) jump)))∧
      W3.heap[w.heap.size+1]? =some (.loop {rec .ready none with state:= .busy})∧
      (W3.putObj (w.heap.size+1) (.loop (rec (if jump.isNone then .ready else .done) jump))).heap[w.heap.size+1]? =some (.loop (rec (if jump.isNone then .ready else .done) jump))∧
      (W3.putObj (w.heap.size+1) (.loop (rec (if jump.isNone then .ready else .done) jump))).heap[w.heap.size]? =some (.deferred (some [])):=fun jump W3 hk3=>by
     have hl3:=hk3.same _ _ hl2 rfl
     have:=run_endRound (P:=P) jump hl3
     rw [hrec] at this⊢
     exact ⟨this,by rw [hrec] at hl3;exact hl3,World.putObj_heap_same (Array.getElem?_eq_some_iff.1 hl3).1,(World.putObj_heap_other (by omega)).trans (hk3.same _ _ hk2 rfl)⟩
    intro e3 a3 W3 hp
    cases e3 with
    | normal=>
     obtain ⟨hk3,hc3,hi3⟩:=hp
     obtain ⟨hr3,hl3,hl4,hk4⟩:=fin none W3 hk3
     refine ⟨_,_,hr3,_,rfl, .inl ⟨rfl,⟨hI _ _ _ hi3 (Book.putObj _ (by omega) hl3 rfl),hl4,hk4⟩, ?_⟩⟩
     have hb2:=hbk2.chg
     have hb3:=(Book.putObj (B:=w.heap.size) (Obj.loop (rec (if (none:Option Code).isNone then .ready else .done) none)) (by omega) hl3 rfl).chg
     exact ((hch.trans (hb2.mono fun b _ h=> .inl h)).trans hc3).trans (hb3.mono fun b _ h=> .inl h)
    | ret=>
     obtain ⟨hk3,hc3,hi3⟩:=hp
     obtain ⟨hr3,hl3,hl4,hk4⟩:=fin (some .ret) W3 hk3
     exact ⟨_,_,hr3,_,rfl, .inr ⟨rfl,((hch.trans (hbk2.chg.mono fun b _ h=> .inl h)).trans hc3).trans ((Book.putObj (B:=w.heap.size) (Obj.loop (rec (if (some Code.ret:Option Code).isNone then .ready else .done) (some .ret))) (by omega) hl3 rfl).chg.mono fun b _ h=> .inl h), .ret,hIx _ _ _ _ hi3 (Book.putObj _ (by omega) hl3 rfl),hl4,hk4⟩⟩
    | exit id=>
     obtain ⟨hk3,hc3,hi3⟩:=hp
     obtain ⟨hr3,hl3,hl4,hk4⟩:=fin (some (.exit id)) W3 hk3
     exact ⟨_,_,hr3,_,rfl, .inr ⟨rfl,((hch.trans (hbk2.chg.mono fun b _ h=> .inl h)).trans hc3).trans ((Book.putObj (B:=w.heap.size) (Obj.loop (rec (if (some (Code.exit id):Option Code).isNone then .ready else .done) (some (.exit id)))) (by omega) hl3 rfl).chg.mono fun b _ h=> .inl h), .exit id,hIx _ _ _ _ hi3 (Book.putObj _ (by omega) hl3 rfl),hl4,hk4⟩⟩
    | goto t=>
     obtain ⟨hk3,hc3,hi3⟩:=hp
     obtain ⟨hr3,hl3,hl4,hk4⟩:=fin (some (.goto t)) W3 hk3
     exact ⟨_,_,hr3,_,rfl, .inr ⟨rfl,((hch.trans (hbk2.chg.mono fun b _ h=> .inl h)).trans hc3).trans ((Book.putObj (B:=w.heap.size) (Obj.loop (rec (if (some (Code.goto t):Option Code).isNone then .ready else .done) (some (.goto t)))) (by omega) hl3 rfl).chg.mono fun b _ h=> .inl h), .goto t,hIx _ _ _ _ hi3 (Book.putObj _ (by omega) hl3 rfl),hl4,hk4⟩⟩
    | panic ch=>exact hp.elim
    | outgrown=>exact hp.elim
   | exit id=>exact hm
   | goto l=>exact hm
   | ret=>exact hm
   | panic ch=>exact hm
   | outgrown=>exact hm
theorem Iu {P:Program} {n k:Nat} {σ:List (Nat×Value)} {w:World} {ops:Array Oper} {K:List (Nat×Value)→World→Prop} (d:Option Tmp) (l:Nat) (args:List Value) {R:Value→World→Prop} (hY:Yat P l args w R)
  (h:∀v w',R v w'→K (putσ σ d v) w') (he:jH ops n σ k=some (d,Instr.yield l args.toArray):=by kernel_rfl):gw P ops n k σ w K:=by
 obtain ⟨fn,tmps,assign,body,hr,hR⟩:=hY
 exact r6 he hr hR h
theorem Hk {P:Program} {w:World} {D:Nat} (h:Mk w D):∃w',(Instr.takeDeferred D).run P w= .ok [] w'∧Chg (· =D) w w'∧Book D w w':=by
 refine ⟨_,run_takeDeferred h,⟨rfl,rfl,rfl,by simp [World.putObj],fun k _ hs=>World.putObj_heap_other hs⟩,Book.putObj _ (Nat.le_refl _) h rfl⟩
end Go.Cs
namespace Go.Cs
open Go Go.RowKit
def pick (sz:Nat) (P:Nat→Bool) (g:Nat→UInt8):List UInt8:=(List.range sz).map fun j=>if P j then g j else 0
@[simp] theorem D8 (sz:Nat) (P:Nat→Bool) (g:Nat→UInt8):(pick sz P g).length=sz:=by simp [pick]
theorem nT (sz:Nat) (P:Nat→Bool) (g:Nat→UInt8) (h:∀j,j<sz→P j=false):pick sz P g=List.replicate sz 0:=by
 apply List.ext_getElem
 ·simp
 ·intro j h1 h2
  simp at h1
  simp [pick,h j h1]
theorem qt (sz:Nat) (P:Nat→Bool) (g:Nat→UInt8) (h:∀j,j<sz→P j=true):pick sz P g=(List.range sz).map g:=by
 apply List.ext_getElem
 ·simp
 ·intro j h1 h2
  simp at h1
  simp [pick,h j h1]
def be (v sz:Nat):List UInt8:=(List.range sz).map fun j=>UInt8.ofNat (v/256^(sz-1-j))
@[simp] theorem gl (v sz:Nat):(be v sz).length=sz:=by simp [be]
theorem oC (i:Nat):2^(8*i)=256^i:=by rw [Nat.pow_mul]
def kV (l:List UInt8):Nat:=l.foldl (fun v c=>v*256+c.toNat) 0
theorem oD (l:List UInt8) (c:UInt8):kV (l++ [c])=kV l*256+c.toNat:=by simp [kV]
theorem qd:∀(l:List UInt8) (a:Nat),l.foldl (fun v c=>v*256+c.toNat) a<(a+1)*256^l.length:=by
 intro l
 induction l with
 | nil=>intro a;simp
 | cons c l ih=>
  intro a
  have h1:=ih (a*256+c.toNat)
  have h2:=c.toNat_lt
  have h3:(a*256+c.toNat+1)*256^l.length≤((a+1)*256)*256^l.length:=Nat.mul_le_mul_right _ (by omega)
  simp only [List.foldl_cons,List.length_cons,Nat.pow_succ]
  rw [Nat.mul_comm (256^l.length) 256,←Nat.mul_assoc]
  omega
theorem vt (l:List UInt8):kV l<256^l.length:=by simpa [kV] using qd l 0
theorem yC {l:List UInt8} {i:Nat} (h:i<l.length):kV (l.take (i+1))=kV (l.take i)*256+byt l i:=by
 rw [List.take_succ_eq_append_getElem h,oD,GN h]
theorem oN {l:List UInt8} {i:Nat} (h:i<8):kV (l.take i)*256+255<2^64:=by
 have h1:=vt (l.take i)
 have h2:(l.take i).length≤i:=by simp;omega
 have h3:256^(l.take i).length≤256^i:=Nat.pow_le_pow_right (by omega) h2
 have h4:256^i≤256^7:=Nat.pow_le_pow_right (by omega) (by omega)
 omega
theorem Cf (a b:Nat) (h:b<256):a*256 ||| b=a*256+b:=by
 have:=Nat.two_pow_add_eq_or_of_lt (i:=8) (b:=b) (by simpa using h) a
 rw [show (2:Nat)^8=256 from rfl,Nat.mul_comm 256 a] at this
 exact this.symm
theorem L9 (n:Nat):UInt8.ofNat (n%256)=UInt8.ofNat n:=by
 apply UInt8.toNat_inj.1
 simp
def dz (l:List UInt8) (sz:Nat):Nat:=if l.length=sz then kV l else 0
def np (l:List UInt8) (sz:Nat):Nat:=if l.length<sz then 6 else if l.length>sz then 5 else 0
theorem uC {l:List UInt8} {sz:Nat} (h:l.length≠sz):dz l sz=0:=by simp [dz,h]
theorem pP {l:List UInt8} {sz:Nat} (h:l.length=sz):dz l sz=kV l:=by simp [dz,h]
theorem tH {l:List UInt8} {sz:Nat} (h:l.length<sz):np l sz=6:=by simp [np,h]
theorem xY {l:List UInt8} {sz:Nat} (h:l.length>sz):np l sz=5:=by
 have:¬l.length<sz:=by omega
 simp [np,h,this]
theorem C8 {l:List UInt8} {sz:Nat} (h:l.length=sz):np l sz=0:=by simp [np,h]
theorem d5 (l:List UInt8) (sz:Nat):dz l sz<2^(8*sz):=by
 unfold dz
 split
 ·rename_i h
  have:=vt l
  rw [h] at this
  rw [oC];exact this
 ·exact Nat.two_pow_pos _
end Go.Cs
namespace Go.Cs
open Go Go.RowKit
def rotl (v s:Nat):Nat:=v*2^s%2^32 ||| v/2^(32-s)
def rot (v:Nat) (n:Int):Nat:=rotl v (n%32).toNat
theorem LF (n:Int): -31≤n.tmod 32∧n.tmod 32≤31∧(n.tmod 32)%32=n%32:=by
 have h:=Int.tmod_add_mul_tdiv n 32
 have h1:=Int.tmod_lt_of_pos n (b:=32) (by omega)
 have h2: -32<n.tmod 32:=Int.lt_tmod_of_pos n (by omega)
 omega
def jQ (v m:Nat):List Nat:=(List.range m).map fun j=>v/2^(31-j)%2
@[simp] theorem Cb (v m:Nat):(jQ v m).length=m:=by simp [jQ]
theorem Gr {l:List Nat} (h:∀x∈l,x<2) (i:Nat):gt l i<2:=by
 unfold gt
 by_cases hi:i<l.length
 ·simp only [List.getD,List.getElem?_eq_getElem hi,Option.getD_some];exact h _ (List.getElem_mem hi)
 ·simp [List.getD,List.getElem?_eq_none (show l.length≤i by omega)]
theorem s8 (v m:Nat):∀x∈jQ v m,x<2:=by
 intro x hx
 simp only [jQ,List.mem_map] at hx
 obtain ⟨j,_,rfl⟩:=hx
 omega
theorem Ih (v k:Nat) (r:Nat):∀i,gt (([]++(((jQ v 32).drop k).take (32-k)))++(((jQ v 32).drop 0).take (k-r))) i<2:=by
 refine Gr ?_
 intro x hx
 simp only [List.nil_append,List.mem_append] at hx
 rcases hx with hx | hx<;>exact s8 v 32 x (List.mem_of_mem_drop (List.mem_of_mem_take hx))
def xorl (a b:List UInt8):List UInt8:=List.zipWith (· ^^^·) a b
end Go.Cs
namespace Go.Cs
open Go Go.RowKit
theorem Dh (v n:Nat):be v (n+1)=be (v/256) n++ [UInt8.ofNat v]:=by
 unfold be
 rw [List.range_succ,List.map_append]
 congr 1
 ·apply List.map_congr_left
  intro j hj
  simp only [List.mem_range] at hj
  rw [Nat.div_div_eq_div_mul,show n+1-1-j=(n-1-j)+1 by omega,Nat.pow_succ,Nat.mul_comm]
 ·simp
theorem wP:∀(n v:Nat),v<256^n→kV (be v n)=v:=by
 intro n
 induction n with
 | zero=>intro v h;simp at h;subst h;rfl
 | succ n ih=>
  intro v h
  rw [Dh,oD,ih _ (by rw [Nat.pow_succ] at h;omega)]
  simp
  omega
theorem lZ {v:Nat} (h:v<2^64):dz (be v 8) 8=v:=by
 rw [pP (gl v 8),wP 8 v (by simpa using h)]
theorem qA {v:Nat} (h:v<2^32):dz (be v 4) 4=v:=by
 rw [pP (gl v 4),wP 4 v (by simpa using h)]
theorem Du {v k:Nat} (hv:v<2^32):rotl v k<2^32:=
 Nat.or_lt_two_pow (Nat.mod_lt _ (by decide)) (Nat.lt_of_le_of_lt (Nat.div_le_self _ _) hv)
theorem Fh {v:Nat} {n:Int} (hv:v<2^32):rot v n<2^32:=Du hv
end Go.Cs
namespace Go.Cs
open Go
def eA (x:Non):List UInt8:=be x.sh 4++be x.ct 8
def ga (x:Rec):List UInt8:= [UInt8.ofNat x.st]++eA x.non++x.tag.l
def gP (x:Ent):List UInt8:= [UInt8.ofNat x.st]++x.dg.l
def iY (x:Cel):List UInt8:=x.root.l++be x.ep 8++be x.mark 8
def bS (x:Rec):Nat:=if 2<x.st then 1 else if x.st=0 then (if x.eqb Rec.zero=true then 0 else 1) else 0
def dK (x:Ent):Nat:=if 2<x.st then 1 else if x.st=0 then (if x.eqb Ent.zero=true then 0 else 1) else 0
def Non.of (l:List UInt8):Non:=⟨dz (l.take 4) 4,dz (l.drop 4) 8,d5 _ 4,d5 _ 8⟩
def Rec.of (l:List UInt8):Rec:=⟨byt l 0,Non.of ((l.drop 1).take 12),Dig.of ((l.drop 13).take 32),kc _ _⟩
def Ent.of (l:List UInt8):Ent:=⟨byt l 0,Dig.of ((l.drop 1).take 32),kc _ _⟩
def Cel.of (l:List UInt8):Cel:=⟨Dig.of (l.take 32),dz ((l.drop 32).take 8) 8,dz ((l.drop 40).take 8) 8,d5 _ 8,d5 _ 8⟩
theorem d4 (x:Non):(eA x).length=12:=by simp [eA]
theorem fe (x:Rec):(ga x).length=45:=by simp [ga,d4,x.tag.h]
theorem eZ (x:Ent):(gP x).length=33:=by simp [gP,x.dg.h]
theorem l7 (x:Cel):(iY x).length=48:=by simp [iY,x.root.h]
theorem Non.of_B (x:Non):Non.of (eA x)=x:=by
 refine Non.ext' ?_ ?_
 ·show dz ((eA x).take 4) 4=x.sh
  rw [eA,List.take_append_of_le_length (by simp),List.take_of_length_le (by simp)]
  exact qA x.hsh
 ·show dz ((eA x).drop 4) 8=x.ct
  rw [eA,List.drop_append_of_le_length (by simp),List.drop_eq_nil_of_le (by simp),List.nil_append]
  exact lZ x.hct
theorem Dig.of_B (x:Dig):Dig.of x.l=x:=Dig.ext' (Dig.of_l x.h)
theorem q7 {n:Nat} (h:n<256) (l:List UInt8):byt ([UInt8.ofNat n]++l) 0=n:=by
 simp [byt,Nat.mod_eq_of_lt h]
theorem Rec.of_B (x:Rec):Rec.of (ga x)=x:=by
 refine Rec.ext' ?_ ?_ ?_
 ·show byt (ga x) 0=x.st
  rw [ga,List.append_assoc];exact q7 x.hst _
 ·show Non.of (((ga x).drop 1).take 12)=x.non
  have h:((ga x).drop 1).take 12=eA x.non:=by
   have:=d4 x.non
   simp only [ga,List.cons_append,List.nil_append,List.append_assoc,List.drop_succ_cons,List.drop_zero]
   rw [List.take_append_of_le_length (by omega),List.take_of_length_le (by omega)]
  rw [h];exact Non.of_B _
 ·show Dig.of (((ga x).drop 13).take 32)=x.tag
  have h:((ga x).drop 13).take 32=x.tag.l:=by
   have:=d4 x.non
   simp only [ga,List.cons_append,List.nil_append,List.append_assoc,List.drop_succ_cons]
   rw [List.drop_append,List.drop_eq_nil_of_le (by omega),List.nil_append,this]
   simp [x.tag.h,List.take_of_length_le]
  rw [h];exact Dig.of_B _
theorem Ent.of_B (x:Ent):Ent.of (gP x)=x:=by
 refine Ent.ext' ?_ ?_
 ·show byt (gP x) 0=x.st
  rw [gP];exact q7 x.hst _
 ·show Dig.of (((gP x).drop 1).take 32)=x.dg
  have h:((gP x).drop 1).take 32=x.dg.l:=by simp [gP,x.dg.h,List.take_of_length_le]
  rw [h];exact Dig.of_B _
theorem Cel.of_B (x:Cel):Cel.of (iY x)=x:=by
 have hr:=x.root.h
 refine Cel.ext' ?_ ?_ ?_
 ·show Dig.of ((iY x).take 32)=x.root
  have h:(iY x).take 32=x.root.l:=by
   rw [iY,List.append_assoc,List.take_append_of_le_length (by omega),List.take_of_length_le (by omega)]
  rw [h];exact Dig.of_B _
 ·show dz (((iY x).drop 32).take 8) 8=x.ep
  have h:((iY x).drop 32).take 8=be x.ep 8:=by
   rw [iY,List.append_assoc,List.drop_append,List.drop_eq_nil_of_le (by omega),List.nil_append,hr,Nat.sub_self,List.drop_zero,List.take_append_of_le_length (by simp),List.take_of_length_le (by simp)]
  rw [h];exact lZ x.hep
 ·show dz (((iY x).drop 40).take 8) 8=x.mark
  have h:((iY x).drop 40).take 8=be x.mark 8:=by
   rw [iY,List.drop_append,List.drop_eq_nil_of_le (by simp;omega),List.nil_append]
   simp [hr]
   rw [List.take_of_length_le (by simp)]
  rw [h];exact lZ x.hmk
theorem gK (x:Rec):bS x=0∨bS x=1:=by
 unfold bS;split
 ·exact .inr rfl
 ·split
  ·split
   ·exact .inl rfl
   ·exact .inr rfl
  ·exact .inl rfl
theorem iW (x:Ent):dK x=0∨dK x=1:=by
 unfold dK;split
 ·exact .inr rfl
 ·split
  ·split
   ·exact .inl rfl
   ·exact .inr rfl
  ·exact .inl rfl
end Go.Cs
namespace Go.Cs
open Go
end Go.Cs
namespace Go.Cs
def jR (c:Nat):Nat:=(c+3)/4
def und (n:Nat):Nat→Nat
 | 0=>n
 | l+1=>jR (und n l)
def cnt (n l:Nat):Nat:=jR (und n l)
def hgt (n:Nat):Nat:=if n≤4 then 0 else if n≤16 then 1 else if n≤64 then 2 else if n≤256 then 3 else if n≤1024 then 4 else 5
def bas (n:Nat):Nat→Nat
 | 0=>2*n
 | l+1=>bas n l+2*cnt n l
def num (n:Nat):Nat→Nat
 | 0=>0
 | l+1=>num n l+cnt n l
def tot (n:Nat):Nat:=num n (hgt n+1)
def cts (n:Nat):List Nat:=(List.range (hgt n+1)).map (cnt n)
def prt (n l j:Nat):Nat:=min 4 (und n l-4*j)
def idx (i:Nat):Nat→Nat
 | 0=>i/4
 | l+1=>idx i l/4
def wid:Nat→Nat
 | 0=>4
 | l+1=>wid l*4
theorem gn (n l:Nat):und n (l+1)=cnt n l:=rfl
theorem ry (n l:Nat):cnt n (l+1)=jR (cnt n l):=rfl
theorem gm (n:Nat):cnt n 0=jR n:=rfl
theorem a8 (n:Nat):hgt n≤5:=by unfold hgt;repeat' split<;>first | omega | skip
theorem GD (n l:Nat):und n (l+1)≤und n l:=by rw [und];unfold jR;omega
theorem vD {n:Nat} (h:1≤n):∀l,1≤und n l
 | 0=>h
 | l+1=>by have:=vD h l;rw [und];unfold jR;omega
theorem dk {n:Nat} (h:1≤n) (l:Nat):1≤cnt n l:=vD h (l+1)
theorem wp (n:Nat):∀l,und n l≤n
 | 0=>Nat.le_refl _
 | l+1=>Nat.le_trans (GD n l) (wp n l)
theorem cH (n l:Nat):cnt n l≤n:=wp n (l+1)
theorem eg {n:Nat} (h1:1≤n) (h:n≤4096):cnt n (hgt n)=1:=by
 unfold hgt
 repeat' split
 all_goals simp only [cnt,und,jR];omega
theorem Ad {n l:Nat} (hl:l<hgt n):2≤cnt n l:=by
 have h5:=a8 n
 have:l=0∨l=1∨l=2∨l=3∨l=4:=by omega
 unfold hgt at hl
 rcases this with rfl | rfl | rfl | rfl | rfl<;>simp only [cnt,und,jR]<;>(repeat' split at hl)<;>omega
theorem AQ (n:Nat) {l m:Nat} (h:l≤m):bas n l≤bas n m:=by
 induction m with
 | zero=>
  have:l=0:=by omega
  subst this;exact Nat.le_refl _
 | succ m ih=>
  rcases Nat.lt_or_ge m l with h2 | h2
  ·have:l=m+1:=by omega
   subst this;exact Nat.le_refl _
  ·exact Nat.le_trans (ih h2) (by rw [bas];omega)
theorem G9 {n:Nat} (h1:1≤n) (l:Nat):bas n l<bas n (l+1):=by have:=dk h1 l;rw [bas];omega
theorem pY (n l:Nat):2*n≤bas n l:=AQ n (Nat.zero_le l)
theorem vK (n:Nat):∀l,bas n l≤2*n+2*n*l
 | 0=>by simp [bas]
 | l+1=>by have:=vK n l;have:=cH n l;rw [bas,Nat.mul_add];omega
theorem oz {n l:Nat} (h:n≤4096) (hl:l≤6):bas n l≤57344:=by
 have h1:=vK n l
 have h2:2*n*l≤2*n*6:=Nat.mul_le_mul_left _ hl
 omega
theorem c7 (n:Nat) {l m:Nat} (h:l≤m):num n l≤num n m:=by
 induction m with
 | zero=>
  have:l=0:=by omega
  subst this;exact Nat.le_refl _
 | succ m ih=>
  rcases Nat.lt_or_ge m l with h2 | h2
  ·have:l=m+1:=by omega
   subst this;exact Nat.le_refl _
  ·exact Nat.le_trans (ih h2) (by rw [num];omega)
theorem wm (n:Nat):∀l,num n l≤n*l
 | 0=>by simp [num]
 | l+1=>by have:=wm n l;have:=cH n l;rw [num,Nat.mul_add];omega
theorem cz {n l:Nat} (h:n≤4096) (hl:l≤6):num n l≤24576:=by
 have h1:=wm n l
 have h2:n*l≤n*6:=Nat.mul_le_mul_left _ hl
 omega
theorem o6 (n:Nat):∀l,bas n l=2*n+2*num n l
 | 0=>by simp [bas,num]
 | l+1=>by rw [bas,num,o6 n l];omega
theorem i8 (n:Nat):(cts n).length=hgt n+1:=by simp [cts]
theorem jD {n l:Nat} (h:l≤hgt n):(cts n).getD l 0=cnt n l:=by
 have:l<hgt n+1:=by omega
 simp [cts,List.getD,this]
theorem nn {n l:Nat} (h:l≤hgt n):(cts n).take (l+1)=(cts n).take l++ [cnt n l]:=by
 have h2:l<(cts n).length:=by rw [i8];omega
 rw [List.take_succ_eq_append_getElem h2]
 simp [cts]
theorem mW {n l:Nat} (h:0<l):und n l=cnt n (l-1):=by
 obtain ⟨k,rfl⟩:∃k,l=k+1:=⟨l-1,by omega⟩
 rfl
def nof (k:Nat):Nat:=1+k%4096
theorem m3 (n l j:Nat):prt n l j≤4:=Nat.min_le_left _ _
theorem FY {n l j:Nat}:j<cnt n l↔4*j<und n l:=by unfold cnt jR;omega
theorem bM {n l j w:Nat} (hw:w<4):w<prt n l j↔4*j+w<und n l:=by unfold prt;omega
theorem bm {n i:Nat} (h:i<n):∀l,idx i l<cnt n l
 | 0=>by rw [idx,gm];unfold jR;omega
 | l+1=>by have:=bm h l;rw [idx,ry];unfold jR;omega
end Go.Cs
namespace Go.Cs
open Go
def qs (i:Nat):Nat→Nat
 | 0=>i
 | k+1=>qs i k/4
theorem Bl (i:Nat):∀l,idx i l=qs i l/4
 | 0=>rfl
 | l+1=>by rw [idx,Bl i l];rfl
theorem Ed (i:Nat):∀k,qs i k≤i
 | 0=>Nat.le_refl _
 | k+1=>by have:=Ed i k;rw [qs];omega
end Go.Cs
namespace Go.Cs
open Go Go.RowKit
structure R4 where
 l:List Rec
 h:l.length=4
structure E4 where
 l:List Ent
 h:l.length=4
structure Nod where
 lv:Nat
 ix:Nat
 rs:R4
 es:E4
 hlv:lv<256
 hix:ix<2^32
structure NN where
 k:Nat
 lv:Nat
 ix:Nat
 st:List UInt8
 sd:List UInt8
 hk:k<65536
 hlv:lv<256
 hix:ix<65536
 hst:st.length=4
 hsd:sd.length=4
structure Par where
 r:Rec
 e:Ent
theorem R4.ext' {a b:R4} (h:a.l=b.l):a=b:=by cases a;cases b;cases h;rfl
theorem E4.ext' {a b:E4} (h:a.l=b.l):a=b:=by cases a;cases b;cases h;rfl
theorem Nod.ext' {a b:Nod} (h:a.lv=b.lv) (h2:a.ix=b.ix) (h3:a.rs=b.rs) (h4:a.es=b.es):a=b:=by cases a;cases b;cases h;cases h2;cases h3;cases h4;rfl
def R4.zero:R4:=⟨List.replicate 4 Rec.zero,by simp⟩
def E4.zero:E4:=⟨List.replicate 4 Ent.zero,by simp⟩
def Nod.emp (lv ix:Nat) (h1:lv<256) (h2:ix<2^32):Nod:=⟨lv,ix,R4.zero,E4.zero,h1,h2⟩
def Nod.mt (lv ix:Nat):Nod:=⟨lv%256,ix%2^32,R4.zero,E4.zero,Nat.mod_lt _ (by decide),Nat.mod_lt _ (by decide)⟩
theorem Nod.mt_eq {lv ix:Nat} (h1:lv<256) (h2:ix<2^32):Nod.emp lv ix h1 h2=Nod.mt lv ix:=Nod.ext' (Nat.mod_eq_of_lt h1).symm (Nat.mod_eq_of_lt h2).symm rfl rfl
def Nod.zero:Nod:=Nod.emp 0 0 (by decide) (by decide)
def R4.get (x:R4) (i:Nat):Rec:=x.l.getD i Rec.zero
def E4.get (x:E4) (i:Nat):Ent:=x.l.getD i Ent.zero
def R4.set (x:R4) (i:Nat) (r:Rec):R4:=⟨x.l.set i r,by simp [x.h]⟩
def E4.set (x:E4) (i:Nat) (r:Ent):E4:=⟨x.l.set i r,by simp [x.h]⟩
def Nod.setR (x:Nod) (i:Nat) (r:Rec):Nod:=⟨x.lv,x.ix,x.rs.set i r,x.es,x.hlv,x.hix⟩
def Nod.setE (x:Nod) (i:Nat) (r:Ent):Nod:=⟨x.lv,x.ix,x.rs,x.es.set i r,x.hlv,x.hix⟩
def Nod.setLv (x:Nod) (n:Nat) (h:n<256):Nod:=⟨n,x.ix,x.rs,x.es,h,x.hix⟩
def Nod.setIx (x:Nod) (n:Nat) (h:n<2^32):Nod:=⟨x.lv,n,x.rs,x.es,x.hlv,h⟩
theorem R4.get_set {x:R4} {i j:Nat} {r:Rec} (hi:i<4):(x.set i r).get j=if j=i then r else x.get j:=by
 have h4:=x.h
 simp only [R4.get,R4.set,List.getD,List.getElem?_set]
 by_cases h:i=j
 ·subst h;rw [if_pos rfl,if_pos (by omega),if_pos rfl];rfl
 ·rw [if_neg h,if_neg (fun h2=>h h2.symm)]
theorem E4.get_set {x:E4} {i j:Nat} {r:Ent} (hi:i<4):(x.set i r).get j=if j=i then r else x.get j:=by
 have h4:=x.h
 simp only [E4.get,E4.set,List.getD,List.getElem?_set]
 by_cases h:i=j
 ·subst h;rw [if_pos rfl,if_pos (by omega),if_pos rfl];rfl
 ·rw [if_neg h,if_neg (fun h2=>h h2.symm)]
theorem R4.get_zero (i:Nat):R4.zero.get i=Rec.zero:=by
 simp only [R4.get,R4.zero,List.getD,List.getElem?_replicate];split<;>rfl
theorem E4.get_zero (i:Nat):E4.zero.get i=Ent.zero:=by
 simp only [E4.get,E4.zero,List.getD,List.getElem?_replicate];split<;>rfl
theorem R4.ext_get {x y:R4} (h:∀i,i<4→x.get i=y.get i):x=y:=by
 refine R4.ext' (List.ext_getElem (x.h.trans y.h.symm) fun i h1 h2=> ?_)
 have:=h i (by rw [←x.h];exact h1)
 simpa [R4.get,List.getD,h1,h2] using this
theorem E4.ext_get {x y:E4} (h:∀i,i<4→x.get i=y.get i):x=y:=by
 refine E4.ext' (List.ext_getElem (x.h.trans y.h.symm) fun i h1 h2=> ?_)
 have:=h i (by rw [←x.h];exact h1)
 simpa [E4.get,List.getD,h1,h2] using this
def kT (x:R4):List Value:=x.l.flatMap bY
def kO (x:E4):List Value:=x.l.flatMap c6
def aU (x:Nod):List Value:= .int .u8 ((x.lv:Nat):Int):: .int .u32 ((x.ix:Nat):Int)::(kT x.rs++kO x.es)
def Kx (x:NN):List Value:= .int .u16 ((x.k:Nat):Int):: .int .u8 ((x.lv:Nat):Int):: .int .u16 ((x.ix:Nat):Int)::(bE x.st++bE x.sd)
def Jo (x:Par):List Value:=bY x.r++c6 x.e
@[simp] theorem Kg (x:R4):(kT x).length=140:=by rw [kT,cC hZ,x.h]
@[simp] theorem J9 (x:E4):(kO x).length=132:=by rw [kO,cC jG,x.h]
@[simp] theorem IL (x:Nod):(aU x).length=274:=by simp [aU]
@[simp] theorem KA (x:NN):(Kx x).length=11:=by simp [Kx,x.hst,x.hsd]
@[simp] theorem H4 (x:Par):(Jo x).length=68:=by simp [Jo]
theorem k5 (x:R4):∀u∈kT x,u.oneCell'=true:=by
 intro u hu;obtain ⟨r,_,h⟩:=List.mem_flatMap.1 hu;exact mj r u h
theorem ly (x:E4):∀u∈kO x,u.oneCell'=true:=by
 intro u hu;obtain ⟨r,_,h⟩:=List.mem_flatMap.1 hu;exact lK r u h
theorem mf (x:Nod):∀u∈aU x,u.oneCell'=true:=by
 intro u hu
 simp only [aU,List.mem_cons,List.mem_append] at hu
 rcases hu with rfl | rfl | hu | hu
 ·rfl
 ·rfl
 ·exact k5 _ u hu
 ·exact ly _ u hu
theorem Ku (x:NN):∀u∈Kx x,u.oneCell'=true:=by
 intro u hu
 simp only [Kx,List.mem_cons,List.mem_append] at hu
 rcases hu with rfl | rfl | rfl | hu | hu
 ·rfl
 ·rfl
 ·rfl
 ·exact iD _ u hu
 ·exact iD _ u hu
theorem m0 {α:Type} {f:α→List Value} {sz:Nat} (hf:∀x,(f x).length=sz) {l:List α} {i:Nat} (d:α) (h:i<l.length):((l.flatMap f).drop (i*sz)).take sz=f (l.getD i d):=by
 rw [eG hf,List.drop_eq_getElem_cons h,List.flatMap_cons,List.take_append_of_le_length (by rw [hf];omega),List.take_of_length_le (by rw [hf];omega)]
 simp [List.getD,h]
theorem Hi {x:Nod} {n:Nat} (h:n<2^32):(aU x).set 1 (.int .u32 ((n:Nat):Int))=aU (x.setIx n h):=rfl
structure Gl (b:Nat) (vs:List Value) (w:World):Prop where
 all:At w b 0 vs
 lt:b<w.heap.size
theorem Gl.chg {S:Nat→Prop} {b:Nat} {vs:List Value} {w w':World} (h:Gl b vs w) (hc:Chg S w w') (hs:¬S b:=by intro hs;first |(have h:_=_:=hs;omega)|(rcases hs with hs | hs<;>omega)):Gl b vs w':=⟨h.all.chg hc hs,Nat.lt_of_lt_of_le h.lt hc.size⟩
theorem Gl.ext {b:Nat} {vs:List Value} {w w':World} (h:Gl b vs w) (hc:Ext w w'):Gl b vs w':=h.chg hc (fun hf=>hf)
section
variable {P:Program} {n k:Nat} {σ:List (Nat×Value)} {w w':World}
def yU {α:Type} (d:α) (eqb:α→α→Bool) (n:Nat) (xs ys:List α):Bool:=(List.range n).all fun i=>eqb (xs.getD i d) (ys.getD i d)
theorem k4 {α:Type} {d:α} {eqb:α→α→Bool} (h:∀x y,eqb x y=true↔x=y) {n:Nat} {xs ys:List α} (hx:xs.length=n) (hy:ys.length=n):yU d eqb n xs ys=true↔xs=ys:=by
 simp only [yU,List.all_eq_true,List.mem_range,h]
 constructor
 ·intro hh
  refine List.ext_getElem (hx.trans hy.symm) fun i h1 h2=> ?_
  have:=hh i (by omega)
  simpa [List.getD,h1,h2] using this
 ·rintro rfl i _;rfl
theorem mC {α:Type} {f:α→List Value} {eqb:α→α→Bool} {dd t e n sz:Nat} (d:α) (hf:∀x,(f x).length=sz) (he:∀x y:α,(Op.equalIn dd e (.agg (f x).toArray) (.agg (f y).toArray)).run P w= .ok (eqb x y) w)
  (xs ys:List α) (hx:xs.length=n) (hy:ys.length=n) (ht:P.underlying t=some (.array n e)) (hsz:(P.info? e).map (·.size)=some sz) (ha:(P.underlying e).map jb=some true):
  (Op.equalIn (dd+1) t (.agg (xs.flatMap f).toArray) (.agg (ys.flatMap f).toArray)).run P w= .ok (yU d eqb n xs ys) w:=by
 rw [yU,List.range_eq_range',Op.equalIn]
 simp only [Sem.run_bind,run_underlying ht,Result.andThen_ok,run_sizeOf hsz,Std.Legacy.Range.forIn_eq_forIn_range',Std.Legacy.Range.size,Nat.sub_zero,Nat.add_sub_cancel,Nat.div_one]
 have hl:∀i∈List.range' 0 n 1,i<n:=fun i hi=>by simpa using (List.mem_range'_1.1 hi).2
 generalize List.range' 0 n 1=l at hl⊢
 induction l with
 | nil=>simp
 | cons i l ih=>
  have hi:i<n:=hl i (by simp)
  have px:=aT (P:=P) (w:=w) (o:=i*sz) ha hsz (m0 hf d (l:=xs) (i:=i) (by omega))
  have py:=aT (P:=P) (w:=w) (o:=i*sz) ha hsz (m0 hf d (l:=ys) (i:=i) (by omega))
  have pe:=he (xs.getD i d) (ys.getD i d)
  simp only [List.forIn_cons,Sem.run_bind,px,py,pe,Result.andThen_ok,List.all_cons]
  cases hb:eqb (xs.getD i d) (ys.getD i d)
  ·simp
  ·simp only [Bool.not_true,Bool.false_eq_true,if_false,Sem.run_pure,Result.andThen_ok,Bool.true_and]
   exact ih fun j hj=>hl j (by simp [hj])
def R4.eqb (x y:R4):Bool:=yU Rec.zero Rec.eqb 4 x.l y.l
def E4.eqb (x y:E4):Bool:=yU Ent.zero Ent.eqb 4 x.l y.l
def Nod.eqb (x y:Nod):Bool:=x.lv==y.lv&&(x.ix==y.ix&&(x.rs.eqb y.rs&&(x.es.eqb y.es&&true)))
theorem R4.eqb_iff (x y:R4):x.eqb y=true↔x=y:=(k4 Rec.eqb_iff x.h y.h).trans ⟨R4.ext',fun h=>by rw [h]⟩
theorem E4.eqb_iff (x y:E4):x.eqb y=true↔x=y:=(k4 Ent.eqb_iff x.h y.h).trans ⟨E4.ext',fun h=>by rw [h]⟩
theorem Nod.eqb_iff (x y:Nod):x.eqb y=true↔x=y:=by
 constructor
 ·intro h;simp [Nod.eqb] at h;exact Nod.ext' h.1 h.2.1 ((R4.eqb_iff _ _).1 h.2.2.1) ((E4.eqb_iff _ _).1 h.2.2.2)
 ·rintro rfl;simp [Nod.eqb,(R4.eqb_iff x.rs x.rs).2 rfl,(E4.eqb_iff x.es x.es).2 rfl]
theorem xW {dd T t t8 tn td e t32 t64:Nat} (x y:R4) (hT:P.underlying T=some (.array 4 t):=by kernel_rfl) (hst:(P.info? t).map (·.size)=some 35:=by kernel_rfl)
  (hF:bj P t= [(true,t8,0),(true,tn,1),(true,td,3)]:=by kernel_rfl) (hp:P.stoodInHeld t=false:=by kernel_rfl) (h8:P.underlying t8=some (.int .u8):=by kernel_rfl)
  (hFn:bj P tn= [(true,t32,0),(true,t64,1)]:=by kernel_rfl) (hpn:P.stoodInHeld tn=false:=by kernel_rfl) (h1:P.underlying t32=some (.int .u32):=by kernel_rfl) (h2:P.underlying t64=some (.int .u64):=by kernel_rfl) (hsn:(P.info? tn).map (·.size)=some 2:=by kernel_rfl)
  (hd:P.underlying td=some (.array 32 e):=by kernel_rfl) (he:P.underlying e=some (.int .u8):=by kernel_rfl) (hse:(P.info? e).map (·.size)=some 1:=by kernel_rfl) (hsd:(P.info? td).map (·.size)=some 32:=by kernel_rfl):
  (Op.equalIn (dd+4) T (.agg (kT x).toArray) (.agg (kT y).toArray)).run P w= .ok (x.eqb y) w:=
 mC Rec.zero hZ (fun a b=>mP (dd:=dd) a b hF hp h8 hFn hpn h1 h2 hsn hd he hse hsd) x.l y.l x.h y.h hT hst (by rw [ci ⟨_,_,hF⟩];rfl)
theorem xJ {dd T t t8 td e:Nat} (x y:E4) (hT:P.underlying T=some (.array 4 t):=by kernel_rfl) (hst:(P.info? t).map (·.size)=some 33:=by kernel_rfl)
  (hF:bj P t= [(true,t8,0),(true,td,1)]:=by kernel_rfl) (hp:P.stoodInHeld t=false:=by kernel_rfl) (h8:P.underlying t8=some (.int .u8):=by kernel_rfl)
  (hd:P.underlying td=some (.array 32 e):=by kernel_rfl) (he:P.underlying e=some (.int .u8):=by kernel_rfl) (hse:(P.info? e).map (·.size)=some 1:=by kernel_rfl) (hsd:(P.info? td).map (·.size)=some 32:=by kernel_rfl):
  (Op.equalIn (dd+4) T (.agg (kO x).toArray) (.agg (kO y).toArray)).run P w= .ok (x.eqb y) w:=
 mC Ent.zero jG (fun a b=>mm (dd:=dd) a b hF hp h8 hd he hse hsd) x.l y.l x.h y.h hT hst (by rw [ci ⟨_,_,hF⟩];rfl)
end
def jm {α:Type} (f:α→Nat) (g:Nat→α):Nat→Nat
 | 0=>0
 | n+1=>if jm f g n=0 then f (g n) else jm f g n
theorem aZ {α:Type} {f:α→Nat} {g:Nat→α}:∀{n:Nat},jm f g n=0↔∀i,i<n→f (g i)=0
 | 0=>⟨fun _ i h=>absurd h (by omega),fun _=>rfl⟩
 | n+1=>by
  rw [jm]
  split
  ·next h=>exact ⟨fun h2 i hi=>by rcases Nat.lt_or_ge i n with h3 | h3;exact aZ.1 h i h3;rwa [show i=n by omega],fun h2=>h2 n (by omega)⟩
  ·next h=>exact ⟨fun h2=>absurd h2 h,fun h2=>absurd (aZ.2 fun i hi=>h2 i (by omega)) h⟩
theorem lr {α:Type} {f:α→Nat} {g:Nat→α} (hf:∀x,f x=0∨f x=1):∀n,jm f g n=0∨jm f g n=1
 | 0=> .inl rfl
 | n+1=>by rw [jm];split;exact hf _;exact lr hf n
theorem iQ {α:Type} {f:α→Nat} {g:Nat→α} (hf:∀x,f x=0∨f x=1) {n i:Nat} (hi:i<n) (h:f (g i)≠0):jm f g n=1:=by
 rcases lr (g:=g) hf n with h1 | h1
 ·exact absurd (aZ.1 h1 i hi) h
 ·exact h1
def lz (x:R4):Nat:=jm bS x.get 4
def mL (x:E4):Nat:=jm dK x.get 4
def bA (x:Nod):Nat:=if 5<x.lv then 1 else if x.lv=0 then (if x.es.eqb E4.zero=true then lz x.rs else 1) else if x.rs.eqb R4.zero=true then mL x.es else 1
theorem Lf (x:Nod):bA x=0∨bA x=1:=by
 unfold bA;repeat' split
 all_goals first | exact .inr rfl | exact lr gK 4 | exact lr iW 4
def fV {α:Type} (f:α→List UInt8) (g:Nat→α):Nat→List UInt8
 | 0=> []
 | n+1=>fV f g n++f (g n)
theorem dU {α:Type} {f:α→List UInt8} {g:Nat→α} {sz:Nat} (hf:∀x,(f x).length=sz):∀n,(fV f g n).length=n*sz
 | 0=>by simp [fV]
 | n+1=>by rw [fV,List.length_append,dU hf n,hf,Nat.add_mul,Nat.one_mul]
theorem pK {α:Type} {f:α→List UInt8} {g:Nat→α} {sz:Nat} (hf:∀x,(f x).length=sz) {i:Nat}:∀{n:Nat},i<n→((fV f g n).drop (i*sz)).take sz=f (g i)
 | n+1,h=>by
  have hl:=dU (g:=g) hf n
  rcases Nat.lt_or_ge i n with h1 | h1
  ·have h2:=Nat.mul_le_mul_right sz (show i+1≤n from h1)
   rw [Nat.add_mul,Nat.one_mul] at h2
   rw [fV,List.drop_append_of_le_length (by omega),List.take_append_of_le_length (by simp;omega)]
   exact pK hf h1
  ·obtain rfl:i=n:=by omega
   rw [fV,List.drop_append,hl,Nat.sub_self,List.drop_zero,List.drop_eq_nil_of_le (by omega),List.nil_append,List.take_of_length_le (by rw [hf];omega)]
def iZ (x:Nod):List UInt8:=UInt8.ofNat x.lv::be x.ix 4
def aM (x:Nod):List UInt8:=iZ x++(if x.lv=0 then fV ga x.rs.get 4 else fV gP x.es.get 4)
theorem dN (x:Nod):(aM x).length=if x.lv=0 then 185 else 137:=by
 rw [aM,List.length_append]
 split
 ·simp [iZ,dU fe]
 ·simp [iZ,dU eZ]
def R4.of (l:List UInt8):R4:=⟨(List.range 4).map fun i=>Rec.of ((l.drop (5+i*45)).take 45),by simp⟩
def E4.of (l:List UInt8):E4:=⟨(List.range 4).map fun i=>Ent.of ((l.drop (5+i*33)).take 33),by simp⟩
def Nod.of (l:List UInt8):Nod:=⟨byt l 0,dz ((l.drop 1).take 4) 4,if byt l 0=0 then R4.of l else R4.zero,if byt l 0=0 then E4.zero else E4.of l,kc _ _,d5 _ 4⟩
def Mc (s:Nat):Dig:=⟨(List.range 32).map fun i=>UInt8.ofNat (s+7*i),by simp⟩
def ME (st sd:Nat):Rec:=if st%3=0 then Rec.zero else ⟨st%3,⟨sd%8,sd%256*257,by omega,by omega⟩,Mc sd,by omega⟩
def MQ (st sd:Nat):Ent:=if st%3=0 then Ent.zero else ⟨st%3,Mc sd,by omega⟩
def NN.n (x:NN):Nat:=nof x.k
def NN.l (x:NN):Nat:=x.lv%(hgt x.n+1)
def NN.j (x:NN):Nat:=x.ix%cnt x.n x.l
def NN.p (x:NN):Nat:=prt x.n x.l x.j
def NN.nod (x:NN) (p:Nat):Nod:=⟨x.l,x.j,⟨(List.range 4).map fun i=>if i<p∧x.l=0 then ME (byt x.st i) (byt x.sd i) else Rec.zero,by simp⟩,
 ⟨(List.range 4).map fun i=>if i<p∧¬x.l=0 then MQ (byt x.st i) (byt x.sd i) else Ent.zero,by simp⟩,Nat.lt_of_le_of_lt (Nat.mod_le _ _) x.hlv,Nat.lt_of_le_of_lt (Nat.mod_le _ _) (Nat.lt_trans x.hix (by decide))⟩
theorem Hq {x:Nod} {i:Nat} (h0:¬x.lv=0) (hi:i<4) (h:(x.rs.get i).eqb Rec.zero=false):bA x=1:=by
 unfold bA
 split
 ·rfl
 ·try rw [if_neg h0]
  rw [if_neg]
  intro hh
  rw [(R4.eqb_iff _ _).1 hh,R4.get_zero,(Rec.eqb_iff _ _).2 rfl] at h
  cases h
def Zs (x:Nod) (i:Nat):Prop:=(x.lv=0→∀k,k<i→x.es.get k=Ent.zero)∧(¬x.lv=0→∀k,k<i→x.rs.get k=Rec.zero)
theorem Zs.zero (x:Nod):Zs x 0:=⟨fun _ k h=>absurd h (by omega),fun _ k h=>absurd h (by omega)⟩
theorem Zs.stepR {x:Nod} {i:Nat} (h:Zs x i) (h0:¬x.lv=0) (hq:(x.rs.get i).eqb Rec.zero=true):Zs x (i+1):=
 ⟨fun h1=>absurd h1 h0,fun _ k hk=>by rcases Nat.lt_or_ge k i with h1 | h1;exact h.2 h0 k h1;rw [show k=i by omega];exact (Rec.eqb_iff _ _).1 hq⟩
def IN (x:Nod) (i:Nat):Nat:=if x.lv=0 then jm bS x.rs.get i else jm dK x.es.get i
theorem oR {x:Nod} (h5:x.lv≤5) (h:Zs x 4):bA x=IN x 4:=by
 unfold bA IN
 rw [if_neg (by omega)]
 by_cases h0:x.lv=0
 ·rw [if_pos h0,if_pos h0,if_pos ((E4.eqb_iff _ _).2 (E4.ext_get fun i hi=>by rw [h.1 h0 i hi,E4.get_zero]))];rfl
 ·rw [if_neg h0,if_neg h0,if_pos ((R4.eqb_iff _ _).2 (R4.ext_get fun i hi=>by rw [h.2 h0 i hi,R4.get_zero]))];rfl
theorem tP {x:R4} {i:Nat} (hi:i<4) (h:¬bS (x.get i)=0):bS (x.get i)=lz x:=by
 unfold lz;rw [iQ gK hi h];rcases gK (x.get i) with h1 | h1<;>omega
theorem ss {x:E4} {i:Nat} (hi:i<4) (h:¬dK (x.get i)=0):dK (x.get i)=mL x:=by
 unfold mL;rw [iQ iW hi h];rcases iW (x.get i) with h1 | h1<;>omega
def usd (x:Nod):Nat→Nat
 | 0=>0
 | i+1=>usd x i+(if x.lv=0 then (if (x.rs.get i).st=0 then 0 else 1) else (if (x.es.get i).st=0 then 0 else 1))
theorem pA (x:Nod):∀i,usd x i≤i
 | 0=>Nat.le_refl _
 | i+1=>by
  have:=pA x i
  rw [usd]
  repeat' split
  all_goals omega
def emp (x:Nod) (p:Nat):Bool:=(List.range 4).all fun i=>decide (i<p)||((x.rs.get i).eqb Rec.zero&&(x.es.get i).eqb Ent.zero)
theorem o9 {x:Nod} {p:Nat}:emp x p=true↔∀k,p≤k→k<4→(x.rs.get k).eqb Rec.zero=true∧(x.es.get k).eqb Ent.zero=true:=by
 simp only [emp,List.all_eq_true,List.mem_range,Bool.or_eq_true,decide_eq_true_eq,Bool.and_eq_true]
 exact ⟨fun h k h1 h2=>(h k h2).resolve_left (by omega),fun h k h2=>by rcases Nat.lt_or_ge k p with h1 | h1;exact .inl h1;exact .inr (h k h1 h2)⟩
theorem IW {x:Nod} {p i:Nat} (hp:p≤i) (hi:i<4) (h:(x.es.get i).eqb Ent.zero=false):emp x p=false:=by
 cases he:emp x p
 ·rfl
 ·have:=(o9.1 he i hp hi).2;rw [h] at this;cases this
def fj (n:Nat) (x:Nod):Nat:=if bA x=0 then (if x.lv≤hgt n∧x.ix<cnt n x.lv then (if emp x (prt n x.lv x.ix)=true then 0 else 17) else 17) else 1
theorem CI {n:Nat} {x:Nod} (h:bA x=0) (h1:x.lv≤hgt n∧x.ix<cnt n x.lv):fj n x=if emp x (prt n x.lv x.ix)=true then 0 else 17:=by
 unfold fj;rw [if_pos h,if_pos h1]
def MC (x:Nod) (p:Int) (k:Nat):Nat:=if p<0 then 1 else if p≥4 then 1 else if bA x=0 then (if min x.lv 1=k then 0 else 1) else 1
def dx (x:Nod):Nat:=if x.lv=0 then 185 else 137
theorem FN (x:Nod):(aM x).length=dx x:=dN x
theorem gA {x:Nod} (h:bA x=0) (h0:x.lv=0):lz x.rs=0:=by
 unfold bA at h
 rw [if_neg (by omega),if_pos h0] at h
 split at h
 ·exact h
 ·cases h
theorem gG {x:Nod} (h:bA x=0):x.lv≤5:=by
 unfold bA at h
 split at h
 ·cases h
 ·omega
theorem jy {x:Nod} (h:bA x=0) (h0:¬x.lv=0):mL x.es=0:=by
 have h5:=gG h
 unfold bA at h
 rw [if_neg (by omega),if_neg h0] at h
 split at h
 ·exact h
 ·cases h
end Go.Cs
namespace Go.Cs
open Go Go.RowKit
def eI (l:List UInt8) (sz i:Nat):List UInt8:=(l.drop (5+i*sz)).take sz
def c9 (l:List UInt8) (i:Nat):Nod:=⟨byt l 0,dz ((l.drop 1).take 4) 4,
 ⟨(List.range 4).map fun k=>if k<i∧byt l 0=0 then Rec.of (eI l 45 k) else Rec.zero,by simp⟩,
 ⟨(List.range 4).map fun k=>if k<i∧¬byt l 0=0 then Ent.of (eI l 33 k) else Ent.zero,by simp⟩,kc _ _,d5 _ 4⟩
theorem j4 (l:List UInt8) (i:Nat) {k:Nat} (h:k<4):(c9 l i).rs.get k=if k<i∧byt l 0=0 then Rec.of (eI l 45 k) else Rec.zero:=by simp [c9,R4.get,List.getD,h]
theorem kx (l:List UInt8) (i:Nat) {k:Nat} (h:k<4):(c9 l i).es.get k=if k<i∧¬byt l 0=0 then Ent.of (eI l 33 k) else Ent.zero:=by simp [c9,E4.get,List.getD,h]
theorem nX (l:List UInt8) (h1:byt l 0<256) (h2:dz ((l.drop 1).take 4) 4<2^32):(Nod.zero.setLv (byt l 0) h1).setIx (dz ((l.drop 1).take 4) 4) h2=c9 l 0:=by
 refine Nod.ext' rfl rfl (R4.ext_get fun i hi=> ?_) (E4.ext_get fun i hi=> ?_)
 ·rw [j4 l 0 hi,if_neg (by omega)];exact R4.get_zero i
 ·rw [kx l 0 hi,if_neg (by omega)];exact E4.get_zero i
theorem xA {l:List UInt8} {p:Nat} (h:p<4) (h0:byt l 0=0):(c9 l p).setR p (Rec.of (eI l 45 p))=c9 l (p+1):=by
 refine Nod.ext' rfl rfl (R4.ext_get fun i hi=> ?_) (E4.ext_get fun i hi=> ?_)
 ·show ((c9 l p).rs.set p _).get i=_
  rw [R4.get_set h,j4 l _ hi,j4 l _ hi]
  by_cases h1:i=p
  ·subst h1;rw [if_pos rfl,if_pos ⟨by omega,h0⟩]
  ·rw [if_neg h1];by_cases h2:i<p
   ·rw [if_pos ⟨h2,h0⟩,if_pos ⟨by omega,h0⟩]
   ·rw [if_neg (by omega),if_neg (by omega)]
 ·show (c9 l p).es.get i=_
  rw [kx l _ hi,kx l _ hi,if_neg (by simp [h0]),if_neg (by simp [h0])]
theorem xK {l:List UInt8} {p:Nat} (h:p<4) (h0:¬byt l 0=0):(c9 l p).setE p (Ent.of (eI l 33 p))=c9 l (p+1):=by
 refine Nod.ext' rfl rfl (R4.ext_get fun i hi=> ?_) (E4.ext_get fun i hi=> ?_)
 ·show (c9 l p).rs.get i=_
  rw [j4 l _ hi,j4 l _ hi,if_neg (by simp [h0]),if_neg (by simp [h0])]
 ·show ((c9 l p).es.set p _).get i=_
  rw [E4.get_set h,kx l _ hi,kx l _ hi]
  by_cases h1:i=p
  ·subst h1;rw [if_pos rfl,if_pos ⟨by omega,h0⟩]
  ·rw [if_neg h1];by_cases h2:i<p
   ·rw [if_pos ⟨h2,h0⟩,if_pos ⟨by omega,h0⟩]
   ·rw [if_neg (by omega),if_neg (by omega)]
def LT (l:List UInt8) (i:Nat):Nat:=if byt l 0=0 then jm bS (fun k=>Rec.of (eI l 45 k)) i else jm dK (fun k=>Ent.of (eI l 33 k)) i
def xX (l:List UInt8):Nat:=if byt l 0=0 then 185 else 137
def nN (l:List UInt8):Nat:=if l.length=0 then 6 else if 5<byt l 0 then 1 else if l.length<xX l then 6 else if xX l<l.length then 5 else LT l 4
def yw (l:List UInt8):Nod:=if nN l=0 then c9 l 4 else Nod.zero
theorem pR {l:List UInt8} {e:Nat} (h:nN l=e):yw l=if e=0 then c9 l 4 else Nod.zero:=by rw [yw,h]
theorem Bc {l:List UInt8} (h1:¬5<byt l 0) (h2:l.length=xX l):nN l=LT l 4:=by
 have:0<xX l:=by unfold xX;split<;>decide
 unfold nN;rw [if_neg (by omega),if_neg h1,if_neg (by omega),if_neg (by omega)]
theorem ou (l:List UInt8) (sz i:Nat):eI l sz i=((l.drop 5).drop (i*sz)).take sz:=by rw [eI,List.drop_drop]
theorem dZ (x:Nod):byt (aM x) 0=x.lv:=by
 show byt (UInt8.ofNat x.lv::_) 0=_
 simp [byt,Nat.mod_eq_of_lt (show x.lv<256 from x.hlv)]
theorem qx (x:Nod):(aM x).drop 5=if x.lv=0 then fV ga x.rs.get 4 else fV gP x.es.get 4:=by
 rw [aM,List.drop_append_of_le_length (by simp [iZ]),List.drop_eq_nil_of_le (by simp [iZ]),List.nil_append]
theorem sq {x:Nod} (h0:x.lv=0) {i:Nat} (hi:i<4):eI (aM x) 45 i=ga (x.rs.get i):=by
 rw [ou,qx,if_pos h0];exact pK fe hi
theorem s5 {x:Nod} (h0:¬x.lv=0) {i:Nat} (hi:i<4):eI (aM x) 33 i=gP (x.es.get i):=by
 rw [ou,qx,if_neg h0];exact pK eZ hi
theorem Cq (x:Nod):dz (((aM x).drop 1).take 4) 4=x.ix:=by
 have h:((aM x).drop 1).take 4=be x.ix 4:=by
  rw [aM,iZ,List.cons_append,List.drop_succ_cons,List.drop_zero,List.take_append_of_le_length (by simp),List.take_of_length_le (by simp)]
 rw [h];exact qA x.hix
theorem gx {x:Nod} (h:bA x=0):nN (aM x)=0:=by
 have h5:=gG h
 rw [Bc (by rw [dZ];omega) (by rw [dN,xX,dZ])]
 unfold LT;rw [dZ]
 by_cases h0:x.lv=0
 ·rw [if_pos h0];exact aZ.2 fun i hi=>by rw [sq h0 hi,Rec.of_B];exact aZ.1 (gA h h0) i hi
 ·rw [if_neg h0];exact aZ.2 fun i hi=>by rw [s5 h0 hi,Ent.of_B];exact aZ.1 (jy h h0) i hi
theorem jL {x:Nod} (h:bA x=0):(x.lv=0→x.es=E4.zero)∧(¬x.lv=0→x.rs=R4.zero):=by
 have h5:=gG h
 unfold bA at h
 rw [if_neg (by omega)] at h
 constructor
 ·intro h0;rw [if_pos h0] at h;split at h
  ·exact (E4.eqb_iff _ _).1 ‹_›
  ·cases h
 ·intro h0;rw [if_neg h0] at h;split at h
  ·exact (R4.eqb_iff _ _).1 ‹_›
  ·cases h
theorem jN {x:Nod} (h:bA x=0):yw (aM x)=x:=by
 rw [pR (gx h),if_pos rfl]
 refine Nod.ext' (dZ x) (Cq x) (R4.ext_get fun i hi=> ?_) (E4.ext_get fun i hi=> ?_)
 ·rw [j4 _ 4 hi,dZ]
  by_cases h0:x.lv=0
  ·rw [if_pos ⟨hi,h0⟩,sq h0 hi,Rec.of_B]
  ·rw [if_neg (by intro hh;exact h0 hh.2),(jL h).2 h0,R4.get_zero]
 ·rw [kx _ 4 hi,dZ]
  by_cases h0:x.lv=0
  ·rw [if_neg (by intro hh;exact hh.2 h0),(jL h).1 h0,E4.get_zero]
  ·rw [if_pos ⟨hi,h0⟩,s5 h0 hi,Ent.of_B]
end Go.Cs
namespace Go.Cs
open Go Go.RowKit
theorem R4.set_set (x:R4) (i:Nat) (a b:Rec):(x.set i a).set i b=x.set i b:=R4.ext' (by simp [R4.set])
theorem E4.set_set (x:E4) (i:Nat) (a b:Ent):(x.set i a).set i b=x.set i b:=E4.ext' (by simp [E4.set])
theorem xL {y:Nod} {i:Nat} {r:Rec} (hi:i<4) (h:bA y=0) (h0:y.lv=0):bA (y.setR i r)=bS r:=by
 have hz:=gA h h0
 rw [oR (x:=y.setR i r) (show y.lv≤5 by omega) ⟨fun _ k hk=>by rw [show (y.setR i r).es=y.es from rfl,(jL h).1 h0,E4.get_zero],fun h1=>absurd h0 h1⟩]
 unfold IN;rw [if_pos (show (y.setR i r).lv=0 from h0)]
 have hg:∀k,(y.setR i r).rs.get k=if k=i then r else y.rs.get k:=fun k=>R4.get_set hi
 rcases gK r with h1 | h1
 ·rw [h1];refine aZ.2 fun k hk=> ?_
  rw [hg];split
  ·exact h1
  ·exact aZ.1 hz k hk
 ·rw [h1];exact iQ (i:=i) gK hi (by rw [hg,if_pos rfl,h1];decide)
theorem yh {y:Nod} {i:Nat} {r:Ent} (hi:i<4) (h:bA y=0) (h0:¬y.lv=0):bA (y.setE i r)=dK r:=by
 have hz:=jy h h0
 rw [oR (x:=y.setE i r) (show y.lv≤5 from gG h) ⟨fun h1=>absurd h1 h0,fun _ k hk=>by rw [show (y.setE i r).rs=y.rs from rfl,(jL h).2 h0,R4.get_zero]⟩]
 unfold IN;rw [if_neg (show ¬(y.setE i r).lv=0 from h0)]
 have hg:∀k,(y.setE i r).es.get k=if k=i then r else y.es.get k:=fun k=>E4.get_set hi
 rcases iW r with h1 | h1
 ·rw [h1];refine aZ.2 fun k hk=> ?_
  rw [hg];split
  ·exact h1
  ·exact aZ.1 hz k hk
 ·rw [h1];exact iQ (i:=i) iW hi (by rw [hg,if_pos rfl,h1];decide)
end Go.Cs
namespace Go.Cs
open Go Go.RowKit
def rr (x:UInt32) (k:Nat):UInt32:=UInt32.ofNat (rot x.toNat (-(k:Int)))
theorem GV (x:UInt32) (k:Nat):(rr x k).toNat=rot x.toNat (-(k:Int)):=by
 rw [rr,UInt32.toNat_ofNat',Nat.mod_eq_of_lt (Fh x.toNat_lt)]
theorem Ft (x:UInt32) {k:Nat} (h1:1≤k) (h2:k≤31):x.toNat/2^k ||| x.toNat*2^(32-k)%2^32=(rr x k).toNat:=by
 rw [GV,rot,rotl,show (-(k:Int)%32).toNat=32-k by omega,show 32-(32-k)=k by omega,Nat.or_comm]
structure WA (n:Nat) where
 l:List UInt32
 h:l.length=n
theorem WA.ext' {n:Nat} {a b:WA n} (h:a.l=b.l):a=b:=by cases a;cases b;cases h;rfl
def WA.zero (n:Nat):WA n:=⟨List.replicate n 0,by simp⟩
def WA.get {n:Nat} (x:WA n) (i:Nat):UInt32:=x.l.getD i 0
def WA.set {n:Nat} (x:WA n) (i:Nat) (v:UInt32):WA n:=⟨x.l.set i v,by simp [x.h]⟩
theorem WA.get_set {n:Nat} {x:WA n} {i j:Nat} {v:UInt32} (hi:i<n):(x.set i v).get j=if j=i then v else x.get j:=by
 have h4:=x.h
 simp only [WA.get,WA.set,List.getD,List.getElem?_set]
 by_cases h:i=j
 ·subst h;rw [if_pos rfl,if_pos (by omega),if_pos rfl];rfl
 ·rw [if_neg h,if_neg (fun h2=>h h2.symm)]
theorem WA.ext_get {n:Nat} {x y:WA n} (h:∀i,i<n→x.get i=y.get i):x=y:=by
 refine WA.ext' (List.ext_getElem (x.h.trans y.h.symm) fun i h1 h2=> ?_)
 have:=h i (by rw [←x.h];exact h1)
 simpa [WA.get,List.getD,h1,h2] using this
theorem WA.get_mk {n:Nat} (f:Nat→UInt32) (h:((List.range n).map f).length=n) {i:Nat} (hi:i<n):(WA.mk ((List.range n).map f) h).get i=f i:=by simp [WA.get,List.getD,hi]
def DS (x:UInt32):UInt32:=rr x 7^^^rr x 18^^^(x>>>3)
def CM (x:UInt32):UInt32:=rr x 17^^^rr x 19^^^(x>>>10)
def yR (b:List UInt8) (x:WA 64) (t:Nat):UInt32:=
 if t<16 then UInt32.ofNat (dz ((b.drop (4*t)).take 4) 4) else x.get (t-16)+x.get (t-7)+DS (x.get (t-15))+CM (x.get (t-2))
def schd (b:List UInt8):Nat→WA 64
 | 0=>WA.zero 64
 | t+1=>(schd b t).set t (yR b (schd b t) t)
def kL:List UInt32:= [1116352408,1899447441,3049323471,3921009573,961987163,1508970993,2453635748,2870763221,3624381080,310598401,607225278,1426881987,1925078388,2162078206,2614888103,3248222580,3835390401,4022224774,264347078,604807628,770255983,1249150122,1555081692,1996064986,2554220882,2821834349,2952996808,3210313671,3336571891,3584528711,113926993,338241895,666307205,773529912,1294757372,1396182291,1695183700,1986661051,2177026350,2456956037,2730485921,2820302411,3259730800,3345764771,3516065817,3600352804,4094571909,275423344,430227734,506948616,659060556,883997877,958139571,1322822218,1537002063,1747873779,1955562222,2024104815,2227730452,2361852424,2428436474,2756734187,3204031479,3329325298]
def kA:WA 64:=⟨kL,rfl⟩
def ye:WA 8:=⟨[1779033703,3144134277,1013904242,2773480762,1359893119,2600822924,528734635,1541459225],rfl⟩
def T1 (x:WA 8) (k w:UInt32):UInt32:=x.get 7+(rr (x.get 4) 6^^^rr (x.get 4) 11^^^rr (x.get 4) 25)+((x.get 4&&&x.get 5)^^^(~~~(x.get 4)&&&x.get 6))+k+w
def T2 (x:WA 8):UInt32:=(rr (x.get 0) 2^^^rr (x.get 0) 13^^^rr (x.get 0) 22)+((x.get 0&&&x.get 1)^^^(x.get 0&&&x.get 2)^^^(x.get 1&&&x.get 2))
def rnd (x:WA 8) (k w:UInt32):WA 8:=⟨[T1 x k w+T2 x,x.get 0,x.get 1,x.get 2,x.get 3+T1 x k w,x.get 4,x.get 5,x.get 6],rfl⟩
def rnds (h:WA 8) (w:WA 64):Nat→WA 8
 | 0=>h
 | t+1=>rnd (rnds h w t) (kA.get t) (w.get t)
def rd (h x:WA 8) (i:Nat):WA 8:=⟨(List.range 8).map fun j=>if j<i then h.get j+x.get j else h.get j,by simp⟩
theorem gW (h x:WA 8) (i:Nat) {j:Nat} (hj:j<8):(rd h x i).get j=if j<i then h.get j+x.get j else h.get j:=WA.get_mk _ _ hj
theorem yP (h x:WA 8):rd h x 0=h:=WA.ext_get fun j hj=>by rw [gW _ _ _ hj,if_neg (Nat.not_lt_zero _)]
theorem xB {h x:WA 8} {i:Nat} (hi:i<8):(rd h x i).set i ((rd h x i).get i+x.get i)=rd h x (i+1):=WA.ext_get fun j hj=>by
 by_cases h1:j=i
 ·subst h1;rw [WA.get_set hi,if_pos rfl,gW _ _ _ hi,if_neg (Nat.lt_irrefl _),gW _ _ _ hi,if_pos (Nat.lt_succ_self _)]
 ·rw [WA.get_set hi,if_neg h1,gW _ _ _ hj,gW _ _ _ hj]
  by_cases h2:j<i
  ·rw [if_pos h2,if_pos (by omega)]
  ·rw [if_neg h2,if_neg (by omega)]
def cmpr (h:WA 8) (b:List UInt8):WA 8:=rd h (rnds h (schd b 64) 64) 8
theorem Hj (h:WA 8) (b:List UInt8):cmpr h b=⟨[h.get 0+(rnds h (schd b 64) 64).get 0,h.get 1+(rnds h (schd b 64) 64).get 1,h.get 2+(rnds h (schd b 64) 64).get 2,h.get 3+(rnds h (schd b 64) 64).get 3,h.get 4+(rnds h (schd b 64) 64).get 4,h.get 5+(rnds h (schd b 64) 64).get 5,h.get 6+(rnds h (schd b 64) 64).get 6,h.get 7+(rnds h (schd b 64) 64).get 7],rfl⟩:=by
 apply WA.ext';simp [cmpr,rd,List.range,List.range.loop]
def AO (l:List UInt8) (k:Nat):List UInt8:=(l.drop (64*k)).take 64
def l9 (l:List UInt8):Nat→WA 8
 | 0=>ye
 | k+1=>cmpr (l9 l k) (AO l k)
def qB (n:Nat):Nat:=(119-n%64)%64
def nD (l:List UInt8):List UInt8:=l++ [128]++List.replicate (qB l.length) 0++be (8*l.length%2^64) 8
def BP (x:WA 8) (i:Nat):List UInt8:=fV (fun k=>be (x.get k).toNat 4) (fun k=>k) i
theorem lW (x:WA 8) (i:Nat):(BP x i).length=i*4:=dU (fun k=>gl _ _) i
def bI (l:List UInt8):Dig:=⟨BP (l9 (nD l) ((nD l).length/64)) 8,lW _ 8⟩
theorem mv {l m:List UInt8}:∀{k:Nat},64*k≤l.length→l9 (l++m) k=l9 l k
 | 0,_=>rfl
 | k+1,h=>by
  rw [l9,l9,mv (by omega)]
  congr 1
  rw [AO,AO,List.drop_append_of_le_length (by omega),List.take_append_of_le_length (by simp;omega)]
structure Sta where
 bg:Bool
 h:WA 8
 rest:List UInt8
 many:Nat
 hr:rest.length=64
 hm:many<2^64
def Sta.new:Sta:=⟨true,ye,List.replicate 64 0,0,by simp,by decide⟩
structure Sm (s:Sta) (l:List UInt8):Prop where
 bg:s.bg=true
 h:s.h=l9 l (l.length/64)
 many:s.many=l.length
 rest:s.rest.take (l.length%64)=l.drop (64*(l.length/64))
theorem Sm.new:Sm Sta.new []:=⟨rfl,rfl,rfl,rfl⟩
def dF (r:List UInt8) (at_:Nat) (b:List UInt8):List UInt8:=r.take at_++b++r.drop (at_+b.length)
theorem yz {r b:List UInt8} {a:Nat} (h:a+b.length≤r.length):(dF r a b).length=r.length:=by simp [dF];omega
theorem Sm.part {s:Sta} {l b:List UInt8} {a n:Nat} (h:Sm s l) (ha:a=l.length%64) (hn:b.length=n) (h1:a+n<64) (hr:(dF s.rest a b).length=64) (hm:s.many+n<2^64):
  Sm ⟨s.bg,s.h,dF s.rest a b,s.many+n,hr,hm⟩ (l++b):=by
 have e1:(l++b).length/64=l.length/64:=by rw [List.length_append];omega
 have e2:(l++b).length%64=a+n:=by rw [List.length_append];omega
 refine ⟨h.bg,by show s.h=_;rw [e1,mv (by omega),h.h],by show s.many+n=_;rw [h.many,List.length_append,hn], ?_⟩
 show (dF s.rest a b).take _=_
 have hr64:=s.hr
 rw [e1,e2,dF,List.take_append_of_le_length (by simp;omega),List.take_of_length_le (by simp;omega),ha,h.rest,List.drop_append_of_le_length (by omega)]
theorem Sm.full {s:Sta} {l b:List UInt8} {a n:Nat} (h:Sm s l) (ha:a=l.length%64) (hn:b.length=n) (h1:a+n=64) (hr:(dF s.rest a b).length=64) (hm:s.many+n<2^64):
  Sm ⟨s.bg,cmpr s.h (dF s.rest a b),dF s.rest a b,s.many+n,hr,hm⟩ (l++b):=by
 have hr64:=s.hr
 have e1:(l++b).length/64=l.length/64+1:=by rw [List.length_append];omega
 have e2:(l++b).length%64=0:=by rw [List.length_append];omega
 have e3:dF s.rest a b=AO (l++b) (l.length/64):=by
  rw [dF,List.drop_eq_nil_of_le (by omega),List.append_nil,ha,h.rest,AO,List.drop_append_of_le_length (by omega),List.take_of_length_le (by simp;omega)]
 refine ⟨h.bg, ?_,by show s.many+n=_;rw [h.many,List.length_append,hn], ?_⟩
 ·show cmpr s.h (dF s.rest a b)=_
  rw [e1,l9,mv (by omega),←h.h,e3]
 ·show (dF s.rest a b).take _=_
  rw [e1,e2,List.take_zero,List.drop_eq_nil_of_le (by simp;omega)]
theorem Sm.done {s:Sta} {l:List UInt8} (h:Sm s (nD l)):s.h=l9 (nD l) ((nD l).length/64):=h.h
end Go.Cs
namespace Go.Cs
open Go Go.RowKit
def fW (x:WA 8):List Value:=x.l.map fun v=> .int .u32 ((v.toNat:Nat):Int)
def fX (x:WA 64):List Value:=x.l.map fun v=> .int .u32 ((v.toNat:Nat):Int)
structure B64 where
 l:List UInt8
 h:l.length=64
def B64.zero:B64:=⟨List.replicate 64 0,by simp⟩
def Io (x:B64):List Value:=bE x.l
def Sta.rb (s:Sta):B64:=⟨s.rest,s.hr⟩
def Sta.zero:Sta:=⟨false,WA.zero 8,List.replicate 64 0,0,by simp,by decide⟩
def Sta.put (s:Sta) (a:Nat) (b:List UInt8) (h:a+b.length≤64):Sta:=⟨s.bg,s.h,dF s.rest a b,s.many,by rw [yz (by rw [s.hr];exact h),s.hr],s.hm⟩
def Mf (s:Sta):List Value:= .bool s.bg::(fW s.h++(bE s.rest++ [.int .u64 ((s.many:Nat):Int)]))
@[simp] theorem J8 (x:WA 8):(fW x).length=8:=by simp [fW,x.h]
@[simp] theorem JU (x:WA 64):(fX x).length=64:=by simp [fX,x.h]
@[simp] theorem Hu (x:B64):(Io x).length=64:=by simp [Io,x.h]
@[simp] theorem KB (x:Sta):(Mf x).length=74:=by simp [Mf,x.hr]
theorem vM (x:WA 8):∀u∈fW x,u.oneCell'=true:=by intro u hu;simp only [fW,List.mem_map] at hu;obtain ⟨_,_,rfl⟩:=hu;rfl
theorem AJ (x:WA 64):∀u∈fX x,u.oneCell'=true:=by intro u hu;simp only [fX,List.mem_map] at hu;obtain ⟨_,_,rfl⟩:=hu;rfl
section
variable {P:Program} {w w':World}
theorem C2 {T E m:Nat} {kk:IntKind} {i:Nat} {cs:List Value} {v:Value} (hi:i<m) (hu:cs[i]? =some v) (hT:P.underlying T=some (.array m E):=by kernel_rfl) (hsz:(P.info? E).map (·.size)=some 1:=by kernel_rfl) (ha:(P.underlying E).map jb=some false:=by kernel_rfl):
  (Instr.index T (.agg cs.toArray) (.int kk (i:Int))).run P w= .ok v w:=by
 simp [Instr.index,asIntOf,run_underlying hT,run_sizeOf hsz,hi,aI (w:=w) ha hu]
end
theorem AT {b:List UInt8} {t:Nat} {v:UInt32} (h:t<16) (hv:v=UInt32.ofNat (dz ((b.drop (4*t)).take 4) 4)):(schd b t).set t v=schd b (t+1):=by
 rw [schd,yR,if_pos h,hv]
theorem BH {b:List UInt8} {t:Nat} {v:UInt32} (h:¬t<16) (hv:v=(schd b t).get (t-16)+(schd b t).get (t-7)+DS ((schd b t).get (t-15))+CM ((schd b t).get (t-2))):(schd b t).set t v=schd b (t+1):=by
 rw [schd,yR,if_neg h,hv]
def As (x:WA 8) (i:Nat):List UInt8:=BP x i++List.replicate (32-i*4) 0
theorem DB (x:WA 8) {i:Nat} (h:i≤8):(As x i).length=32:=by simp [As,lW];omega
theorem CG (l:List UInt8):bE (As (l9 (nD l) ((nD l).length/64)) 8)=ay (bI l):=by simp [As,ay,bI]
theorem yZ (x:WA 8):bE (As x 0)=ay Dig.zero:=by simp [As,BP,fV,ay,Dig.zero]
def MZ (x:WA 8) (i k:Nat):List UInt8:=BP x i++(be (x.get i).toNat 4).take k++List.replicate (32-i*4-k) 0
theorem DE {l:List UInt8} {n z:Nat} (hn:n=l.length) (hz:z=qB l.length):l++ [128]++List.replicate z 0++be (8*n%2^64) 8=nD l:=by subst hn hz;rfl
end Go.Cs
namespace Go.Cs
open Go Go.RowKit
def Cel.nxt (c:Cel) (r:Dig):Cel:=⟨r,(c.ep+1)%2^64,c.mark,Nat.mod_lt _ (by decide),c.hmk⟩
def Cel.rsv (c:Cel) (k:Nat):Cel:=⟨c.root,c.ep,(c.mark+k)%2^64,c.hep,Nat.mod_lt _ (by decide)⟩
def gO (n:Nat):Cel:=⟨bI (aM (Nod.mt (hgt n) 0)),0,0,by decide,by decide⟩
def fol (a b:Cel):Nat:=if a.ep+1=b.ep∧a.mark=b.mark then 1 else if a.ep=b.ep∧(a.root.l==b.root.l)=true∧a.mark<b.mark then 2 else 0
theorem xq {h:Nat} (h5:h≤5):bA (Nod.mt h 0)=0:=by
 have:∀k,k<6→bA (Nod.mt k 0)=0:=by decide
 exact this h (by omega)
end Go.Cs
namespace Go.Cs
open Go Go.RowKit
def iy (k:List UInt8) (w:UInt8):List UInt8:=xorl (k++List.replicate (64-k.length) 0) (List.replicate 64 w)
def ej (k m:List UInt8):Dig:=bI (iy k 92++(bI (iy k 54++m)).l)
theorem qk {k:List UInt8} {w:UInt8} (h:k.length≤64):(iy k w).length=64:=by simp [iy,xorl];omega
structure B16 where
 l:List UInt8
 h:l.length=16
theorem B16.ext' {x y:B16} (h:x.l=y.l):x=y:=by cases x;cases y;simp at h;subst h;rfl
def B16.zero:B16:=⟨List.replicate 16 0,by simp⟩
def dE (x:B16):List Value:=bE x.l
def gQ (new old:List UInt8) (t:Nat):List UInt8:=new.take t++old.drop t
theorem eX (new old:List UInt8):gQ new old 0=old:=by simp [gQ]
theorem gy {new old:List UInt8} {t:Nat} (h:new.length≤t) (h2:old.length≤t):gQ new old t=new:=by
 simp [gQ,List.take_of_length_le h,List.drop_eq_nil_of_le h2]
theorem fS {new old:List UInt8} {t:Nat} (h:new.length=old.length) (h2:t≤old.length):(gQ new old t).length=old.length:=by simp [gQ];omega
theorem eF {new old:List UInt8} {t:Nat} {x:UInt8} (h:new.length=old.length) (h2:t<old.length) (hx:x=new.getD t default):(gQ new old t).set t x=gQ new old (t+1):=by
 subst hx
 apply List.ext_getElem (by simp [gQ];omega)
 intro j h3 h4
 simp only [gQ,List.getElem_set,List.getElem_append,List.length_take,List.getElem_take,List.getElem_drop]
 by_cases e:t=j
 ·subst e;rw [if_pos rfl,dif_pos (by omega)];simp [List.getD,List.getElem?_eq_getElem (show t<new.length by omega)]
 ·rw [if_neg e]
  by_cases e2:j<t
  ·rw [dif_pos (by omega),dif_pos (by omega)]
  ·rw [dif_neg (by omega),dif_neg (by omega)]
   congr 1;omega
theorem pG {new old:List UInt8} {t j:Nat} (h:new.length=old.length) (h2:t≤j) (h3:j<old.length):(gQ new old t).getD j default=old.getD j default:=by
 have e:(gQ new old t)[j]? =old[j]? :=by
  simp only [gQ]
  rw [List.getElem?_append_right (by simp;omega),List.getElem?_drop,List.length_take,Nat.min_eq_left (by omega)]
  congr 1;omega
 simp [List.getD,e]
def nE (a b:UInt8):Nat→UInt8×UInt8
 | 0=>(a,0)
 | i+1=>((nE a b i).1<<<1^^^((nE a b i).1>>>7)*27,if b>>>UInt8.ofNat i&&&1=1 then (nE a b i).2^^^(nE a b i).1 else (nE a b i).2)
def tI (a b:UInt8):UInt8:=(nE a b 8).2
def Al (a:UInt8) (k:Nat) (o:UInt8):UInt8:=if k=0 then o else Al (tI a a) (k/2) (if k%2=1 then tI o a else o)
termination_by k
def rj (a:UInt8) (n:Nat):UInt8:=if a=0 then (if n=0 then 1 else 0) else Al a (n%255) 1
def LG (b:UInt8) (k:Nat):UInt8:=b<<<UInt8.ofNat k ||| b>>>UInt8.ofNat (8-k)
def Gj (b:UInt8):Nat→UInt8
 | 0=>b
 | i+1=>Gj b i^^^LG b (i+1)
def fU (a:UInt8):UInt8:=Gj (rj a 254) 4^^^99
def tC (b:List UInt8) (k:Nat):List UInt8:= [fU (b.getD 13 default)^^^rj 2 k,fU (b.getD 14 default),fU (b.getD 15 default),fU (b.getD 12 default)]
def qH (b w:List UInt8):Nat→List UInt8
 | 0=>w
 | i+1=>(qH b w i).set (i%4) ((qH b w i).getD (i%4) default^^^b.getD i default)
theorem qY {b w:List UInt8}:∀{i},(qH b w i).length=w.length
 | 0=>rfl
 | i+1=>by simp [qH,qY (i:=i)]
def Df (b w:List UInt8):List UInt8:=(List.range 16).map fun j=>(qH b w (j+1)).getD (j%4) default
def HV (b:B16) (k:Nat):B16:=⟨Df b.l (tC b.l k),by simp [Df]⟩
def dT (key:B16):Nat→B16
 | 0=>key
 | k+1=>HV (dT key k) k
def ez (key:B16) (k:Nat):List B16:=(List.range 11).map fun j=>if j≤k then dT key j else B16.zero
def kq (p:Nat) (old:List UInt8):List UInt8:=(List.range 16).map fun j=>old.getD (4*((j/4+p*(j%4))%4)+j%4) default
def Do (f old:List UInt8) (c r:Nat):Nat→UInt8
 | 0=>0
 | i+1=>Do f old c r i^^^tI (f.getD i default) (old.getD (4*c+(r+i)%4) default)
def kW (f old:List UInt8):List UInt8:=(List.range 16).map fun j=>Do f old (j/4) (j%4) 4
def kQ (s k:List UInt8):List UInt8:=(List.range 16).map fun j=>s.getD j default^^^k.getD j default
def kr (f:UInt8→UInt8) (s:List UInt8):List UInt8:=(List.range 16).map fun j=>f (s.getD j default)
def nr (sch:List B16) (b:B16):Nat→B16
 | 0=>⟨kQ b.l (sch.getD 0 B16.zero).l,by simp [kQ]⟩
 | k+1=>⟨kQ (if k+1<10 then kW [2,3,1,1] (kq 1 (kr fU (nr sch b k).l)) else kq 1 (kr fU (nr sch b k).l)) (sch.getD (k+1) B16.zero).l,by simp [kQ]⟩
def xQ (sch:List B16) (b:B16):B16:=nr sch b 10
def rN (n:Non) (c:Nat):B16:=⟨be n.sh 4++(be n.ct 8++be c 4),by simp⟩
def B9 (key:B16) (n:Non) (c:Nat):B16:=xQ (ez key 10) (rN n c)
def li (key:B16) (n:Non) (l:List UInt8):List UInt8:=(List.range l.length).map fun j=>l.getD j default^^^(B9 key n (j/16)).l.getD (j%16) default
@[simp] theorem Dg (key:B16) (n:Non) (l:List UInt8):(li key n l).length=l.length:=by simp [li]
theorem CF (key:B16) (n:Non) (l:List UInt8):li key n (li key n l)=l:=by
 apply List.ext_getElem (by simp)
 intro j h1 h2
 simp only [li,List.getElem_map,List.getElem_range,List.length_map,List.length_range]
 have e:((List.range l.length).map fun j=>l.getD j default^^^(B9 key n (j/16)).l.getD (j%16) default).getD j default=l.getD j default^^^(B9 key n (j/16)).l.getD (j%16) default:=by
  simp [List.getD,List.getElem?_eq_getElem,h2]
 rw [e,UInt8.xor_assoc,UInt8.xor_self,UInt8.xor_zero]
 simp [List.getD,List.getElem?_eq_getElem h2]
structure Key where
 enc:B16
 mac:Dig
def De (m:Dig):Dig:=ej [99,97,105,115,115,111,110] m.l
def nv (m:Dig):Key:=⟨⟨((ej (De m).l ([101,110,99,114,121,112,116]++ [1])).l).take 16,by simp [Dig.h]⟩,ej (De m).l ([109,97,99]++ [1])⟩
def fz (i:Nat) (n:Non) (d:Dig):List UInt8:=be i 4++((be n.sh 4++be n.ct 8)++d.l)
def cJ (k:Key) (n:Non) (d:Dig):Dig:=⟨li k.enc n d.l,by simp [d.h]⟩
def il (k:Key) (i:Nat) (n:Non) (d:Dig):Dig:=ej k.mac.l (fz i n d)
theorem n7 (k:Key) (n:Non) (d:Dig):cJ k n (cJ k n d)=d:=Dig.ext' (CF _ _ _)
end Go.Cs
