/- Lemmas and walks: what each function does, by its own code. No condition beyond those of each statement. -/
import Derived.Test.YtbobhnldhpjdlaaGreatDoorP1
import Derived.LoopNIn
set_option linter.all false
set_option linter.unusedVariables false
namespace Go.Cz
open Go Go.RowKit Go.Cs
abbrev Pt:=World→Prop
abbrev Fm:=List (Nat×Value)
inductive Ak where
 | ld (T:TypeId) (a:Value)
 | bin (op:BinOp) (T:TypeId) (x y:Operand) (a b:Value)
 | un (op:UnOp) (T:TypeId) (a:Value)
 | cvt (s d:TypeId) (a:Value)
 | s2a (T:TypeId) (a:Value)
 | mki (T:TypeId) (a:Value)
 | mkf (f:Fn) (first cap:List Value)
 | mks (T:TypeId) (l c:Value)
 | slc (T:TypeId) (x:Value) (lo hi mx:Option Value)
 | fda (T:TypeId) (x:Value) (i:Nat)
 | fd (T:TypeId) (x:Value) (i:Nat)
 | ixa (T:TypeId) (x i:Value)
 | ix (T:TypeId) (x i:Value)
 | ext (x:Value) (i:Nat)
 | al (T:TypeId)
 | bx (T:TypeId) (x:Value)
 | bld (T:TypeId) (ps:List (Nat×Value))
 | bls (T:TypeId) (n:Nat) (ps:List (Nat×Value))
 | lku (T:TypeId) (x i:Value) (ok:Bool)
 | ta (x:Value) (T A:TypeId) (ok:Bool)
 | bi (b:Builtin) (at_:Array TypeId) (ty:TypeId) (args:List Value)
 | mkm (T:TypeId) (r:Option Value)
 | ment (T:TypeId) (m k:Value)
def Ak.sem:Ak→Sem Value
 | .ld T a=>Instr.loadAt T a
 | .bin op T x y a b=>do eqGuard op T x y a b;binOp op T a b
 | .un op _ a=>Op.unary op a
 | .cvt s d a=>convert s d a
 | .s2a T a=>Instr.arrayAt T a
 | .mki T a=>Instr.makeInterface T a
 | .mkf f a b=>Instr.makeFunc f a.toArray b.toArray
 | .mks T l c=>Instr.makeSlice T l c
 | .slc T x lo hi mx=>Instr.sliceAt T x lo hi mx
 | .fda T x i=>Instr.fieldAt T x i
 | .fd T x i=>Instr.field T x i
 | .ixa T x i=>Instr.indexAt T x i
 | .ix T x i=>Instr.index T x i
 | .ext x i=>Instr.extract x i
 | .al T=>Instr.alloc T true (.tuple #[])
 | .bx T x=>Instr.box T x
 | .bld T ps=>Instr.build T ps.toArray
 | .bls T n ps=>Instr.buildSlice T n ps.toArray
 | .lku T x i ok=>Instr.lookup T x i ok
 | .ta x T A ok=>Instr.typeAssert x T A ok
 | .bi b at_ ty args=>match b with
  | .append=>Builtin.append_ at_ ty args.toArray
  | .cap=>Builtin.cap_ at_ ty args.toArray
  | .clear=>Builtin.clear_ at_ ty args.toArray
  | .copy=>Builtin.copy_ at_ ty args.toArray
  | .delete=>Builtin.delete_ at_ ty args.toArray
  | .len=>Builtin.len_ at_ ty args.toArray
  | .max=>Builtin.max_ at_ ty args.toArray
  | .min=>Builtin.min_ at_ ty args.toArray
  | _=>stuck "no value"
 | .mkm T r=>Instr.makeMap T r
 | .ment T m k=>Instr.mapEntry T m k
inductive Dk where
 | st (T:TypeId) (a v:Value)
 | mup (T:TypeId) (m k v:Value)
 | mst (T:TypeId) (m k v:Value)
def Dk.sem:Dk→Sem Unit
 | .st T a v=>Instr.storeAt T a v
 | .mup T m k v=>Instr.mapUpdate T m k v
 | .mst T m k v=>Instr.entryStore T m k v
structure Rv (P:Program) (k:Ak) (C:Value→Pt) (w:World):Prop where
 go:∃v w',k.sem.run P w= .ok v w'∧C v w'
structure Rl (P:Program) (T:TypeId) (a:Value) (C:Value→Pt) (w:World):Prop where
 go:∃v,(Instr.loadAt T a).run P w= .ok v w∧C v w
structure Ru (P:Program) (k:Dk) (C:Pt) (w:World):Prop where
 go:∃w',k.sem.run P w= .ok () w'∧C w'
def gV (P:Program) (C:Value→Pt):Result Next→Prop
 | .ok (.value v) w'=>C v w'
 | .ok .skip w'=>C undef w'
 | .ok (.enter f args) w'=>Calls P f args w' (Ret C)
 | .ok (.round l f tmps assign body) w'=>Rnd P l f tmps assign body w' (Ret C)
 | _=>False
structure Cal (P:Program) (f:Value) (args:List Value) (C:Value→Pt) (w:World):Prop where
 go:gV P C ((do let d←Deferred.ofValue f args.toArray;invoke d.target d.args:Sem Next).run P w)
structure CalI (P:Program) (recv:Value) (name:String) (args:List Value) (C:Value→Pt) (w:World):Prop where
 go:gV P C ((invoke (.fn (.method name) #[]) (#[recv]++args.toArray)).run P w)
structure Nck (P:Program) (v:Value) (C:Value→Pt) (w:World):Prop where
 go:∃a,v= .pointer (some a)∧C v w
structure Nev (why:Nat) (w:World):Prop where
 go:False
def lo:Fm→Nat→Option Value
 | [],_=>none
 |(k,v)::r,t=>bif Nat.beq k t then some v else lo r t
def Hm (C:Value→Pt) (t:Nat):Fm→Pt
 | []=>Nev t
 |(k,v)::r=>bif Nat.beq k t then C v else Hm C t r
def cV (n:Nat) (σ:Fm) (C:Value→Pt):Operand→Pt
 | .tmp t=>bif Nat.blt t n then Hm C t σ else Nev t
 | .const v=>C v
 | .global g=>C (.pointer (some ⟨g,0,none⟩))
 | .func f=>C (.func (.func f) #[] #[])
def nq (n:Nat) (σ:Fm):List Operand→(List Value→Pt)→Pt
 | [],C=>C []
 | o::r,C=>cV n σ (fun v=>nq n σ r (fun vs=>C (v::vs))) o
def mZ (n:Nat) (σ:Fm):Option Operand→(Option Value→Pt)→Pt
 | none,C=>C none
 | some o,C=>cV n σ (fun v=>C (some v)) o
def KP (n:Nat) (σ:Fm):List (Nat×Operand)→(List (Nat×Value)→Pt)→Pt
 | [],C=>C []
 |(i,o)::r,C=>cV n σ (fun v=>KP n σ r (fun vs=>C ((i,v)::vs))) o
def H9:Builtin→Bool
 | .append | .cap | .clear | .copy | .delete | .len | .max | .min=>true
 | _=>false
def xV (C:Value→Pt) (x y:Value):Value→Pt
 | .bool true=>C x
 | .bool false=>C y
 | _=>Nev 0
def B8 (P:Program) (n:Nat) (o:Oper) (σ:Fm) (C:Value→Pt):Pt:=
 match o.op with
 | .move x | .assign x=>cV n σ C x
 | .pick c a b=>cV n σ (fun vc=>cV n σ (fun va=>cV n σ (fun vb=>xV C va vb vc) b) a) c
 | .load t a=>cV n σ (fun va=>Rl P t va C) a
 | .store t a v=>cV n σ (fun va=>cV n σ (fun vv=>Ru P (.st t va vv) (C undef)) v) a
 | .binOp op t x y _=>cV n σ (fun vx=>cV n σ (fun vy=>Rv P (.bin op t x y vx vy) C) y) x
 | .unOp op t x=>cV n σ (fun vx=>Rv P (.un op t vx) C) x
 | .convert s d x=>cV n σ (fun vx=>Rv P (.cvt s d vx) C) x
 | .sliceToArrayPointer t x=>cV n σ (fun vx=>Rv P (.s2a t vx) C) x
 | .makeInterface t x=>cV n σ (fun vx=>Rv P (.mki t vx) C) x
 | .makeFunc f a b=>nq n σ a.toList (fun va=>nq n σ b.toList (fun vb=>Rv P (.mkf f va vb) C))
 | .makeSlice t l c=>cV n σ (fun vx=>cV n σ (fun vy=>Rv P (.mks t vx vy) C) c) l
 | .slice t x l h m=>cV n σ (fun vx=>mZ n σ l (fun vl=>mZ n σ h (fun vh=>mZ n σ m (fun vm=>Rv P (.slc t vx vl vh vm) C)))) x
 | .fieldAddr t x i=>cV n σ (fun vx=>Rv P (.fda t vx i) C) x
 | .field t x i=>cV n σ (fun vx=>Rv P (.fd t vx i) C) x
 | .indexAddr t l c=>cV n σ (fun vx=>cV n σ (fun vy=>Rv P (.ixa t vx vy) C) c) l
 | .index t l c=>cV n σ (fun vx=>cV n σ (fun vy=>Rv P (.ix t vx vy) C) c) l
 | .extract x i=>cV n σ (fun vx=>Rv P (.ext vx i) C) x
 | .alloc t=>Rv P (.al t) C
 | .box t x=>cV n σ (fun vx=>Rv P (.bx t vx) C) x
 | .build t ps=>KP n σ ps.toList (fun vs=>Rv P (.bld t vs) C)
 | .buildSlice t l ps=>KP n σ ps.toList (fun vs=>Rv P (.bls t l vs) C)
 | .lookup t l c ok=>cV n σ (fun vx=>cV n σ (fun vy=>Rv P (.lku t vx vy ok) C) c) l
 | .typeAssert x t a ok=>cV n σ (fun vx=>Rv P (.ta vx t a ok) C) x
 | .nilCheck x=>cV n σ (fun vx=>Nck P vx C) x
 | .makeMap t r=>mZ n σ r (fun vr=>Rv P (.mkm t vr) C)
 | .mapEntry t m k=>cV n σ (fun vx=>cV n σ (fun vy=>Rv P (.ment t vx vy) C) k) m
 | .mapUpdate t m k v=>cV n σ (fun vx=>cV n σ (fun vy=>cV n σ (fun vz=>Ru P (.mup t vx vy vz) (C undef)) v) k) m
 | .insert t m k v=>cV n σ (fun vx=>cV n σ (fun vy=>cV n σ (fun vz=>Ru P (.mup t vx vy vz) (C undef)) v) k) m
 | .entryStore t m k v=>cV n σ (fun vx=>cV n σ (fun vy=>cV n σ (fun vz=>Ru P (.mst t vx vy vz) (C undef)) v) k) m
 | .call c=>match c.callee with
  | .builtin b=>bif H9 b then nq n σ c.args.toList (fun vs=>Rv P (.bi b c.argTypes o.type vs) C) else Nev 1
  | .value f=>cV n σ (fun vf=>nq n σ c.args.toList (fun vs=>Cal P vf vs C)) f
  | .invoke r name=>cV n σ (fun vr=>nq n σ c.args.toList (fun vs=>CalI P vr name vs C)) r
 | _=>Nev 2
def Kn (σ τ:Fm):Prop:=∀t v,lo σ t=some v→lk τ t=v
theorem Kn.refl (σ:Fm):Kn σ σ:=by
 intro t v h
 induction σ with
 | nil=>cases h
 | cons p r ih=>
  obtain ⟨k,u⟩:=p
  simp only [lo,lk] at*
  cases hb:Nat.beq k t with
  | true=>simp only [hb,cond_true,Option.some.injEq] at h⊢;exact h
  | false=>simp only [hb,cond_false] at h⊢;exact ih h
section
variable {P:Program} {n:Nat} {σ τ:Fm} {w:World}
theorem oH {C:Value→Pt} {t:Nat}:∀{σ:Fm},Hm C t σ w→∃v,lo σ t=some v∧C v w
 | [],h=>h.go.elim
 |(k,v)::r,h=>by
  simp only [Hm,lo] at*
  cases hb:Nat.beq k t with
  | true=>simp only [hb,cond_true] at h⊢;exact ⟨v,rfl,h⟩
  | false=>simp only [hb,cond_false] at h⊢;exact oH h
theorem aQ (hk:Kn σ τ) {C:Value→Pt} {x:Operand} (h:cV n σ C x w):C (ev n τ x) w:=by
 cases x with
 | tmp t=>
  simp only [cV,ev] at*
  cases hb:Nat.blt t n with
  | true=>
   simp only [hb,cond_true] at h⊢
   obtain ⟨v,h1,h2⟩:=oH h
   rw [hk t v h1];exact h2
  | false=>simp only [hb,cond_false] at h;exact h.go.elim
 | const v=>exact h
 | global g=>exact h
 | func f=>exact h
theorem iK (hk:Kn σ τ):∀{l:List Operand} {C:List Value→Pt},nq n σ l C w→C (l.map (ev n τ)) w
 | [],C,h=>h
 | o::r,C,h=>by
  have h1:=aQ hk h
  exact iK hk (C:=fun vs=>C (ev n τ o::vs)) h1
theorem k9 (hk:Kn σ τ) {x:Option Operand} {C:Option Value→Pt} (h:mZ n σ x C w):C (x.map (ev n τ)) w:=by
 cases x with
 | none=>exact h
 | some o=>exact aQ hk (C:=fun v=>C (some v)) h
theorem te (hk:Kn σ τ):∀{l:List (Nat×Operand)} {C:List (Nat×Value)→Pt},KP n σ l C w→C (l.map fun p=>(p.1,ev n τ p.2)) w
 | [],C,h=>h
 |(i,o)::r,C,h=>by
  have h1:=aQ hk h
  exact te hk (C:=fun vs=>C ((i,ev n τ o)::vs)) h1
theorem aY {k:Ak} {C:Value→Pt} (h:Rv P k C w):gV P C ((vS k.sem).run P w):=by
 obtain ⟨v,w',h1,h2⟩:=h.go
 rw [tj h1];exact h2
theorem iI {k:Dk} {C:Value→Pt} (h:Ru P k (C undef) w):gV P C ((uS k.sem).run P w):=by
 obtain ⟨w',h1,h2⟩:=h.go
 rw [A6 h1];exact h2
theorem iR {α β:Type} (f:α→β) (a:Array α):(a.toList.map f).toArray=a.map f:=by
 apply Array.ext';simp
theorem BM (hk:Kn σ τ) {o:Oper} {C:Value→Pt} (h:B8 P n o σ C w):gV P C ((execOp (ev n τ) o).run P w):=by
 unfold B8 at h
 unfold execOp
 cases ho:o.op with
 | move x=>simp only [ho] at h⊢;exact aQ hk h
 | assign x=>simp only [ho] at h⊢;exact aQ hk h
 | pick c a b=>
  simp only [ho] at h⊢
  have h1:xV C (ev n τ a) (ev n τ b) (ev n τ c) w:=aQ hk (C:=fun vb=>xV C (ev n τ a) vb (ev n τ c)) (aQ hk (C:=fun va=>cV n σ (fun vb=>xV C va vb (ev n τ c)) b) (aQ hk (C:=fun vc=>cV n σ (fun va=>cV n σ (fun vb=>xV C va vb vc) b) a) h))
  cases hv:ev n τ c with
  | bool b'=>
   rw [hv] at h1
   cases b' with
   | true=>simpa [asBool,gV,xV] using h1
   | false=>simpa [asBool,gV,xV] using h1
  | _=>rw [hv] at h1;exact h1.go.elim
 | load t a=>
  simp only [ho] at h⊢
  obtain ⟨v,h1,h2⟩:=(aQ hk (C:=fun va=>Rl P t va C) h).go
  exact aY (k:= .ld t _) ⟨v,w,h1,h2⟩
 | store t a v=>simp only [ho] at h⊢;exact iI (k:= .st t _ _) (aQ hk (C:=fun vv=>Ru P (.st t (ev n τ a) vv) (C undef)) (aQ hk (C:=fun va=>cV n σ (fun vv=>Ru P (.st t va vv) (C undef)) v) h))
 | binOp op t x y z=>simp only [ho] at h⊢;exact aY (k:= .bin op t x y _ _) (aQ hk (C:=fun vy=>Rv P (.bin op t x y (ev n τ x) vy) C) (aQ hk (C:=fun vx=>cV n σ (fun vy=>Rv P (.bin op t x y vx vy) C) y) h))
 | unOp op t x=>simp only [ho] at h⊢;exact aY (k:= .un op t _) (aQ hk (C:=fun vx=>Rv P (.un op t vx) C) h)
 | convert s d x=>simp only [ho] at h⊢;exact aY (k:= .cvt s d _) (aQ hk (C:=fun vx=>Rv P (.cvt s d vx) C) h)
 | sliceToArrayPointer t x=>simp only [ho] at h⊢;exact aY (k:= .s2a t _) (aQ hk (C:=fun vx=>Rv P (.s2a t vx) C) h)
 | makeInterface t x=>simp only [ho] at h⊢;exact aY (k:= .mki t _) (aQ hk (C:=fun vx=>Rv P (.mki t vx) C) h)
 | makeFunc f a b=>
  simp only [ho] at h⊢
  have h1:=iK hk (C:=fun vb=>Rv P (.mkf f _ vb) C) (iK hk (C:=fun va=>nq n σ b.toList (fun vb=>Rv P (.mkf f va vb) C)) h)
  have h2:=aY h1
  simp only [Ak.sem,iR] at h2;exact h2
 | makeSlice t l c=>simp only [ho] at h⊢;exact aY (k:= .mks t _ _) (aQ hk (C:=fun vy=>Rv P (.mks t (ev n τ l) vy) C) (aQ hk (C:=fun vx=>cV n σ (fun vy=>Rv P (.mks t vx vy) C) c) h))
 | slice t x l hh m=>
  simp only [ho] at h⊢
  exact aY (k:= .slc t _ _ _ _) (k9 hk (C:=fun vm=>Rv P (.slc t (ev n τ x) (l.map (ev n τ)) (hh.map (ev n τ)) vm) C) (k9 hk (C:=fun vh=>mZ n σ m (fun vm=>Rv P (.slc t (ev n τ x) (l.map (ev n τ)) vh vm) C))
   (k9 hk (C:=fun vl=>mZ n σ hh (fun vh=>mZ n σ m (fun vm=>Rv P (.slc t (ev n τ x) vl vh vm) C))) (aQ hk (C:=fun vx=>mZ n σ l (fun vl=>mZ n σ hh (fun vh=>mZ n σ m (fun vm=>Rv P (.slc t vx vl vh vm) C)))) h))))
 | fieldAddr t x i=>simp only [ho] at h⊢;exact aY (k:= .fda t _ i) (aQ hk (C:=fun vx=>Rv P (.fda t vx i) C) h)
 | field t x i=>simp only [ho] at h⊢;exact aY (k:= .fd t _ i) (aQ hk (C:=fun vx=>Rv P (.fd t vx i) C) h)
 | indexAddr t l c=>simp only [ho] at h⊢;exact aY (k:= .ixa t _ _) (aQ hk (C:=fun vy=>Rv P (.ixa t (ev n τ l) vy) C) (aQ hk (C:=fun vx=>cV n σ (fun vy=>Rv P (.ixa t vx vy) C) c) h))
 | index t l c=>simp only [ho] at h⊢;exact aY (k:= .ix t _ _) (aQ hk (C:=fun vy=>Rv P (.ix t (ev n τ l) vy) C) (aQ hk (C:=fun vx=>cV n σ (fun vy=>Rv P (.ix t vx vy) C) c) h))
 | extract x i=>simp only [ho] at h⊢;exact aY (k:= .ext _ i) (aQ hk (C:=fun vx=>Rv P (.ext vx i) C) h)
 | alloc t=>simp only [ho] at h⊢;exact aY (k:= .al t) h
 | box t x=>simp only [ho] at h⊢;exact aY (k:= .bx t _) (aQ hk (C:=fun vx=>Rv P (.bx t vx) C) h)
 | build t ps=>
  simp only [ho] at h⊢
  have h2:=aY (te hk (C:=fun vs=>Rv P (.bld t vs) C) h)
  simp only [Ak.sem,iR] at h2;exact h2
 | buildSlice t l ps=>
  simp only [ho] at h⊢
  have h2:=aY (te hk (C:=fun vs=>Rv P (.bls t l vs) C) h)
  simp only [Ak.sem,iR] at h2;exact h2
 | lookup t l c ok=>simp only [ho] at h⊢;exact aY (k:= .lku t _ _ ok) (aQ hk (C:=fun vy=>Rv P (.lku t (ev n τ l) vy ok) C) (aQ hk (C:=fun vx=>cV n σ (fun vy=>Rv P (.lku t vx vy ok) C) c) h))
 | typeAssert x t a ok=>simp only [ho] at h⊢;exact aY (k:= .ta _ t a ok) (aQ hk (C:=fun vx=>Rv P (.ta vx t a ok) C) h)
 | nilCheck x=>
  simp only [ho] at h⊢
  obtain ⟨a,h1,h2⟩:=(aQ hk (C:=fun vx=>Nck P vx C) h).go
  rw [h1] at h2⊢;exact h2
 | makeMap t r=>simp only [ho] at h⊢;exact aY (k:= .mkm t _) (k9 hk (C:=fun vr=>Rv P (.mkm t vr) C) h)
 | mapEntry t m k=>simp only [ho] at h⊢;exact aY (k:= .ment t _ _) (aQ hk (C:=fun vy=>Rv P (.ment t (ev n τ m) vy) C) (aQ hk (C:=fun vx=>cV n σ (fun vy=>Rv P (.ment t vx vy) C) k) h))
 | mapUpdate t m k v=>
  simp only [ho] at h⊢
  exact iI (k:= .mup t _ _ _) (aQ hk (C:=fun vz=>Ru P (.mup t (ev n τ m) (ev n τ k) vz) (C undef)) (aQ hk (C:=fun vy=>cV n σ (fun vz=>Ru P (.mup t (ev n τ m) vy vz) (C undef)) v) (aQ hk (C:=fun vx=>cV n σ (fun vy=>cV n σ (fun vz=>Ru P (.mup t vx vy vz) (C undef)) v) k) h)))
 | insert t m k v=>
  simp only [ho] at h⊢
  exact iI (k:= .mup t _ _ _) (aQ hk (C:=fun vz=>Ru P (.mup t (ev n τ m) (ev n τ k) vz) (C undef)) (aQ hk (C:=fun vy=>cV n σ (fun vz=>Ru P (.mup t (ev n τ m) vy vz) (C undef)) v) (aQ hk (C:=fun vx=>cV n σ (fun vy=>cV n σ (fun vz=>Ru P (.mup t vx vy vz) (C undef)) v) k) h)))
 | entryStore t m k v=>
  simp only [ho] at h⊢
  exact iI (k:= .mst t _ _ _) (aQ hk (C:=fun vz=>Ru P (.mst t (ev n τ m) (ev n τ k) vz) (C undef)) (aQ hk (C:=fun vy=>cV n σ (fun vz=>Ru P (.mst t (ev n τ m) vy vz) (C undef)) v) (aQ hk (C:=fun vx=>cV n σ (fun vy=>cV n σ (fun vz=>Ru P (.mst t vx vy vz) (C undef)) v) k) h)))
 | call c=>
  simp only [ho] at h⊢
  cases hc:c.callee with
  | builtin b=>
   simp only [hc] at h
   cases hb:H9 b with
   | false=>simp only [hb,cond_false] at h;exact h.go.elim
   | true=>
    simp only [hb,cond_true] at h
    have h2:=aY (iK hk (C:=fun vs=>Rv P (.bi b c.argTypes o.type vs) C) h)
    simp only [resolve,hc]
    cases b<;>first |(cases hb;done)|(simp only [Ak.sem,iR] at h2;exact h2)
  | value f=>
   simp only [hc] at h
   have h2:=(iK hk (C:=fun vs=>Cal P (ev n τ f) vs C) (aQ hk (C:=fun vf=>nq n σ c.args.toList (fun vs=>Cal P vf vs C)) h)).go
   simpa only [resolve,hc,iR] using h2
  | invoke r name=>
   simp only [hc] at h
   have h2:=(iK hk (C:=fun vs=>CalI P (ev n τ r) name vs C) (aQ hk (C:=fun vr=>nq n σ c.args.toList (fun vs=>CalI P vr name vs C)) h)).go
   simp only [resolve,hc]
   simp only [iR] at h2;exact h2
 | _=>simp only [ho] at h;exact h.go.elim
end
inductive Ex where
 | nm
 | ex (i:Nat)
 | rt
abbrev Kt:=Ex→List Deferred→Fm→Pt
def Mx (yes no:Pt) (b:Bool):Value→Pt
 | .bool true=>bif b then yes else no
 | .bool false=>bif b then no else yes
 | _=>no
def gd (ops:Array Oper) (n:Nat) (σ:Fm) (o:Oper) (yes no:Pt):Pt:=
 match o.guard with
 | none=>yes
 | some (j,b)=>match (ops[j]?).bind (·.dst) with
  | some d=>bif Nat.blt d n then Hm (Mx yes no b) d σ else Nev 4
  | none=>Nev 5
def pD (C:Fm→Pt) (σ:Fm) (v:Value):Option Tmp→Pt
 | none=>C σ
 | some d=>C ((d,v)::σ)
def Hd (P:Program) (ops:Array Oper) (n:Nat):List Oper→Fm→(Fm→Pt)→Pt
 | [],σ,K=>K σ
 | o::r,σ,K=>gd ops n σ o (B8 P n o σ (fun v=>pD (fun σ'=>Hd P ops n r σ' K) σ v o.dst)) (pD (fun σ'=>Hd P ops n r σ' K) σ undef o.dst)
def KQ (n:Nat) (K:Kt) (e:Exit) (a:Act) (w:World):Prop:=
 match e with
 | .normal=>∃ds σ τ,a=Fr ds n τ∧Kn σ τ∧K .nm ds σ w
 | .exit i=>∃ds σ τ,a=Fr ds n τ∧Kn σ τ∧K (.ex i) ds σ w
 | .ret=>∃ds σ τ,a=Fr ds n τ∧Kn σ τ∧K .rt ds σ w
 | _=>False
instance {n:Nat} {K:Kt}:NoPan (KQ n K):=⟨fun _ _ _ h=>h⟩
structure Wh (P:Program) (ro:Option Nat) (n:Nat) (c:Code) (ds:List Deferred) (σ:Fm) (K:Kt) (w:World):Prop where
 go:∀τ,Kn σ τ→i4 (ro:=ro) (ds:=ds) P c (KQ n K) n τ w
structure Lp (P:Program) (ro:Option Nat) (n:Nat) (c:Code) (ds:List Deferred) (σ:Fm) (K:Kt) (w:World):Prop where
 go:∀τ,Kn σ τ→i4 (ro:=ro) (ds:=ds) P (.loop c) (KQ n K) n τ w
structure Dw (P:Program) (ro:Option Nat) (n:Nat) (id:Nat) (ops:Array Oper) (ds:List Deferred) (σ:Fm) (K:Kt) (w:World):Prop where
 go:∀τ,Kn σ τ→i4 (ro:=ro) (ds:=ds) P (.region id ops true) (KQ n K) n τ w
def Hb (x y:Pt):Value→Pt
 | .bool true=>x
 | .bool false=>y
 | _=>Nev 6
def B6 (P:Program) (ro:Option Nat) (n:Nat):Code→List Deferred→Fm→Kt→Pt
 | .skip,ds,σ,K=>K .nm ds σ
 | .region _ ops false,ds,σ,K=>Hd P ops n ops.toList σ (K .nm ds)
 | .region id ops true,ds,σ,K=>Dw P ro n id ops ds σ K
 | .seq a b,ds,σ,K=>B6 P ro n a ds σ (fun e ds σ=>match e with | .nm=>B6 P ro n b ds σ K | .ex i=>K (.ex i) ds σ | .rt=>K .rt ds σ)
 | .cond c a b,ds,σ,K=>cV n σ (Hb (B6 P ro n a ds σ K) (B6 P ro n b ds σ K)) c
 | .block id c,ds,σ,K=>B6 P ro n c ds σ (fun e ds σ=>match e with | .nm=>K .nm ds σ | .ex i=>bif Nat.beq i id then K .nm ds σ else K (.ex i) ds σ | .rt=>K .rt ds σ)
 | .loop c,ds,σ,K=>Lp P ro n c ds σ K
 | .exit id,ds,σ,K=>K (.ex id) ds σ
 | .ret,ds,σ,K=>K .rt ds σ
 | c,ds,σ,K=>Wh P ro n c ds σ K
theorem Kn.put {σ τ:Fm} (hk:Kn σ τ) (d:Nat) (v:Value):Kn ((d,v)::σ) ((d,v)::τ):=by
 intro t u h
 simp only [lo,lk] at*
 cases hb:Nat.beq d t with
 | true=>simp only [hb,cond_true,Option.some.injEq] at h⊢;exact h
 | false=>simp only [hb,cond_false] at h⊢;exact hk t u h
section
variable {P:Program} {n:Nat} {σ τ:Fm} {w:World} {ro:Option Nat} {ds:List Deferred}
theorem gZ (hk:Kn σ τ) {C:Fm→Pt} {v:Value} {d:Option Tmp} (h:pD C σ v d w):∃σ',Kn σ' (putσ τ d v)∧C σ' w:=by
 cases d with
 | none=>exact ⟨σ,hk,h⟩
 | some d=>exact ⟨_,hk.put d v,h⟩
theorem AX (hk:Kn σ τ) {ops:Array Oper} {o:Oper} {yes no:Pt} (h:gd ops n σ o yes no w):(wnt ops n τ o=true∧yes w)∨(wnt ops n τ o=false∧no w):=by
 unfold gd at h
 unfold wnt
 cases hg:o.guard with
 | none=>simp only [hg] at h⊢;exact .inl ⟨by first | rfl | trivial,h⟩
 | some p=>
  obtain ⟨j,b⟩:=p
  simp only [hg] at h⊢
  unfold yl
  cases hd:(ops[j]?).bind (·.dst) with
  | none=>simp only [hd] at h;exact h.go.elim
  | some d=>
   simp only [hd] at h⊢
   cases hb:Nat.blt d n with
   | false=>simp only [hb,cond_false] at h;exact h.go.elim
   | true=>
    simp only [hb,cond_true] at h⊢
    obtain ⟨v,h1,h2⟩:=oH h
    rw [hk d v h1]
    cases v with
    | bool c=>cases c<;>cases b<;>simp only [Mx,cond_true,cond_false] at h2⊢<;>simp [h2]
    | _=>exact .inr ⟨by cases b<;>rfl,h2⟩
theorem uU (hk:Kn σ τ) {ops:Array Oper} {k:Nat} {o:Oper} (ho:ops[k]? =some o) {D:Fm→Pt}
  (h:gd ops n σ o (B8 P n o σ (fun v=>pD D σ v o.dst)) (pD D σ undef o.dst) w):gw P ops n k τ w (fun τ' w'=>∃σ',Kn σ' τ'∧D σ' w'):=by
 refine ⟨o,ho, ?_⟩
 rcases AX hk h with ⟨h1,h2⟩|⟨h1,h2⟩
 ·refine .inl ⟨h1, ?_⟩
  have h3:=BM hk h2
  cases hr:(execOp (ev n τ) o).run P w with
  | halt x w'=>rw [hr] at h3;exact h3
  | ok nx w'=>
   rw [hr] at h3
   cases nx with
   | value v=>exact gZ hk h3
   | skip=>exact gZ hk h3
   | enter f args=>exact h3.mono fun e w' ⟨v,he,hv⟩=>⟨v,he,gZ hk hv⟩
   | round l f tmps assign body=>exact h3.mono fun e w' ⟨v,he,hv⟩=>⟨v,he,gZ hk hv⟩
   | _=>exact h3
 ·exact .inr ⟨h1,gZ hk h2⟩
theorem Ae {ops:Array Oper} {Q:Exit→Act→World→Prop} {K:Fm→Pt} (hq:∀σ τ w,Kn σ τ→K σ w→Q .normal (Fr ds n τ) w):∀(l:List Oper) (k:Nat) (σ τ:Fm) (w:World),ops.toList.drop k=l→Kn σ τ→Hd P ops n l σ K w→pU (ro:=ro) (ds:=ds) P ops Q n k τ w
 | [],k,σ,τ,w,hl,hk,h=>by
  unfold pU
  rw [hl]
  exact wpListIn_nil (hq σ τ w hk h)
 | o::r,k,σ,τ,w,hl,hk,h=>by
  have ho:ops[k]? =some o:=by
   have:ops.toList[k]? =some o:=by
    have h1:=congrArg (·[0]?) hl
    simpa using h1
   simpa using this
  have hl':ops.toList.drop (k+1)=r:=by
   have h1:=congrArg List.tail hl
   simpa using h1
  refine zU (jU (uU hk ho h) ?_)
  rintro τ' w' ⟨σ',hk',h'⟩
  exact Ae hq r (k+1) σ' τ' w' hl' hk' h'
theorem km {c:Code} {Q Q':Exit→Act→World→Prop} (h:i4 (ro:=ro) (ds:=ds) P c Q n τ w) (hq:∀e a w,Q e a w→Q' e a w):i4 (ro:=ro) (ds:=ds) P c Q' n τ w:=wpIn_mono h hq
theorem jf:∀(c:Code) (ds:List Deferred) (σ τ:Fm) (K:Kt) (w:World),Kn σ τ→B6 P ro n c ds σ K w→i4 (ro:=ro) (ds:=ds) P c (KQ n K) n τ w:=by
 intro c
 induction c with
 | skip=>intro ds σ τ K w hk h;exact y6 ⟨ds,σ,τ,rfl,hk,h⟩
 | region id ops dr=>
  intro ds σ τ K w hk h
  cases dr with
  | false=>exact t6 (Ae (fun σ τ w hk h=>⟨ds,σ,τ,rfl,hk,h⟩) ops.toList 0 σ τ w rfl hk h)
  | true=>exact Dw.go h τ hk
 | seq a b iha ihb=>
  intro ds σ τ K w hk h
  refine CU (km (iha ds σ τ _ w hk h) ?_)
  intro e a' w' hq
  cases e with
  | normal=>
   obtain ⟨ds',σ',τ',rfl,hk',h'⟩:=hq
   exact ihb ds' σ' τ' K w' hk' h'
  | _=>exact hq
 | cond c a b iha ihb=>
  intro ds σ τ K w hk h
  have h1:=aQ (C:=Hb (B6 P ro n a ds σ K) (B6 P ro n b ds σ K)) hk h
  cases hv:ev n τ c with
  | bool t=>
   rw [hv] at h1
   cases t with
   | true=>exact BO (iha ds σ τ K w hk h1) hv
   | false=>exact xZ (ihb ds σ τ K w hk h1) hv
  | _=>rw [hv] at h1;exact h1.go.elim
 | block id c ih=>
  intro ds σ τ K w hk h
  refine yj (km (ih ds σ τ _ w hk h) ?_)
  intro e a' w' hq
  cases e with
  | normal=>exact hq
  | exit i=>
   obtain ⟨ds',σ',τ',rfl,hk',h'⟩:=hq
   simp only at h'
   cases hb:Nat.beq i id with
   | true=>
    rw [hb] at h'
    rw [Nat.eq_of_beq_eq_true hb]
    exact oP ⟨ds',σ',τ',rfl,hk',h'⟩
   | false=>
    rw [hb] at h'
    have hne:i≠id:=by intro e;subst e;rw [show Nat.beq i i=true from Nat.beq_refl i] at hb;cases hb
    exact kU hne ⟨ds',σ',τ',rfl,hk',h'⟩
  | ret=>exact hq
  | _=>exact hq
 | loop c ih=>intro ds σ τ K w hk h;exact Lp.go h τ hk
 | exit id=>intro ds σ τ K w hk h;exact rn ⟨ds,σ,τ,rfl,hk,h⟩
 | ret=>intro ds σ τ K w hk h;exact u9 ⟨ds,σ,τ,rfl,hk,h⟩
 | rangeFunc f ps a b iha ihb=>intro ds σ τ K w hk h;exact Wh.go h τ hk
 | scope b ih=>intro ds σ τ K w hk h;exact Wh.go h τ hk
 | label l=>intro ds σ τ K w hk h;exact Wh.go h τ hk
 | goto l=>intro ds σ τ K w hk h;exact Wh.go h τ hk
 | refuse why=>intro ds σ τ K w hk h;exact Wh.go h τ hk
end
structure It where
 fp:List Nat
 A:Pt
 loc:∀w w',(∀k∈fp,w'.heap[k]? =w.heap[k]?)→A w→A w'
def fps (O:List It):List Nat:=O.flatMap It.fp
@[simp] theorem Ll:fps []= []:=rfl
@[simp] theorem dB (o:It) (O:List It):fps (o::O)=o.fp++fps O:=rfl
@[simp] theorem dM (O L:List It):fps (O++L)=fps O++fps L:=by simp [fps]
structure Gc where
 w0:World
 I:List Nat
 B:List Nat
structure Hp (G:Gc) (O:List It) (F:List Pt) (w:World):Prop where
 ch:Chg (·∈G.I) G.w0 w
 own:∀o∈O,o.A w
 nd:(fps O).Nodup
 fr:∀k∈fps O,(k∈G.I∨G.w0.heap.size≤k)∧k<w.heap.size∧k∉G.B
 bb:∀k∈G.B,k<G.w0.heap.size
 st:∀f∈F,∀w',Chg (fun k=>k∈fps O∨k∈G.B) w w'→f w'
structure Tr (G:Gc) (O:List It) (F:List Pt) (C:Pt):Prop where
 go:∀w,Hp G O F w→C w
instance {G:Gc} {O:List It} {F:List Pt} {C:Pt}:CoeFun (Tr G O F C) (fun _=>∀w,Hp G O F w→C w):=⟨Tr.go⟩
def En (O:List It) (F:List Pt) (φ:Pt):Prop:=∀w,(∀o∈O,o.A w)→(∀f∈F,f w)→φ w
theorem Hp.facts {G:Gc} {w:World} {O:List It} {F:List Pt} (h:Hp G O F w):∀f∈F,f w:=fun f hf=>h.st f hf w (Chg.refl _ _)
theorem Hp.en {G:Gc} {w:World} {O:List It} {F:List Pt} {φ:Pt} (h:Hp G O F w) (e:En O F φ):φ w:=e w h.own h.facts
def Wk (O O':List It):Prop:=∀w,(∀o∈O,o.A w)→(fps O).Nodup→(∀o∈O',o.A w)∧(fps O').Nodup∧∀k∈fps O',k∈fps O
theorem Hp.wk {G:Gc} {w:World} {O O':List It} {F F':List Pt} (h:Hp G O F w) (hw:Wk O O') (hf:∀f∈F',f∈F):Hp G O' F' w:=by
 obtain ⟨h1,h2,h3⟩:=hw w h.own h.nd
 exact ⟨h.ch,h1,h2,fun k hk=>h.fr k (h3 k hk),h.bb,fun f hf' w' hc=>h.st f (hf f hf') w' (hc.mono fun k _ hk=>hk.imp (h3 k) id)⟩
theorem qV {G:Gc} {O:List It} {F:List Pt} {C:Pt} (O':List It) (hw:Wk O O') (h:Tr G O' F C):Tr G O F C:=⟨fun w hp=>h w (hp.wk hw (fun _ h=>h))⟩
theorem It.keep {o:It} {S:Nat→Prop} {w w':World} (h:o.A w) (hc:Chg S w w') (hk:∀k∈o.fp,k<w.heap.size∧¬S k):o.A w':=
 o.loc w w' (fun k hf=>hc.block k (hk k hf).1 (hk k hf).2) h
theorem gv {O:List It} {o:It} (ho:o∈O) {k:Nat} (hk:k∈o.fp):k∈fps O:=List.mem_flatMap.2 ⟨o,ho,hk⟩
theorem fY {L O:List It} {k:Nat} (h:k∈fps L):k∈fps (L++O):=by rw [dM];exact List.mem_append_left _ h
theorem jh {L O:List It} {k:Nat} (h:k∈fps O):k∈fps (L++O):=by rw [dM];exact List.mem_append_right _ h
theorem Hp.step {G:Gc} {w w':World} {L O L':List It} {F F':List Pt} (h:Hp G (L++O) F w) (hc:Chg (·∈fps L) w w') (h1:∀o∈L',o.A w') (h2:(fps L').Nodup) (h3:∀k∈fps L',(k∈fps L∨w.heap.size≤k)∧k<w'.heap.size)
  (h4:∀f∈F',∀w'',Chg (fun k=>k∈fps L'∨k∈G.B++fps O) w' w''→f w''):Hp G (L'++O) (F'++F) w':=by
 have hnd:=h.nd
 rw [dM] at hnd
 have hL:=fun k hk=>h.fr k (fY (L:=L) (O:=O) hk)
 have hO:=fun k hk=>h.fr k (jh (L:=L) (O:=O) hk)
 have hdis:∀k∈fps O,k∉fps L:=fun k hk hl=>(List.nodup_append.1 hnd).2.2 k hl k hk rfl
 refine ⟨h.ch.then hc fun k hk hs=> ?_, ?_, ?_, ?_,h.bb, ?_⟩
 ·rcases (hL k hs).1 with h9 | h9
  ·exact h9
  ·omega
 ·intro o ho
  rcases List.mem_append.1 ho with h9 | h9
  ·exact h1 o h9
  ·exact It.keep (h.own o (List.mem_append_right _ h9)) hc fun k hk=>⟨(hO k (gv h9 hk)).2.1,hdis k (gv h9 hk)⟩
 ·rw [dM,List.nodup_append]
  refine ⟨h2,(List.nodup_append.1 hnd).2.1, ?_⟩
  rintro k hk _ hk' rfl
  rcases (h3 k hk).1 with h9 | h9
  ·exact hdis k hk' h9
  ·have:=(hO k hk').2.1;omega
 ·intro k hk
  rw [dM] at hk
  rcases List.mem_append.1 hk with h9 | h9
  ·rcases (h3 k h9).1 with h8 | h8
   ·exact ⟨(hL k h8).1,(h3 k h9).2,(hL k h8).2.2⟩
   ·refine ⟨.inr (Nat.le_trans h.ch.size h8),(h3 k h9).2,fun hb=> ?_⟩
    have:=h.bb k hb
    have:=h.ch.size
    omega
  ·exact ⟨(hO k h9).1,Nat.lt_of_lt_of_le (hO k h9).2.1 hc.size,(hO k h9).2.2⟩
 ·intro f hf w'' hc'
  rcases List.mem_append.1 hf with h9 | h9
  ·refine h4 f h9 w'' (hc'.mono fun k _ hk=> ?_)
   rcases hk with h8 | h8
   ·rw [dM] at h8
    rcases List.mem_append.1 h8 with h7 | h7
    ·exact .inl h7
    ·exact .inr (List.mem_append_right _ h7)
   ·exact .inr (List.mem_append_left _ h8)
  ·refine h.st f h9 w'' ((hc.mono (T:=fun k=>k∈fps (L++O)∨k∈G.B) fun k _ hk=> .inl (fY hk)).then hc' ?_)
   rintro k hk (hs | hs)
   ·rw [dM] at hs
    rcases List.mem_append.1 hs with h9 | h9
    ·rcases (h3 k h9).1 with h8 | h8
     ·exact .inl (fY h8)
     ·omega
    ·exact .inl (jh h9)
   ·exact .inr hs
theorem Hp.freeze {G:Gc} {w:World} {L O:List It} {F:List Pt} (h:Hp G (L++O) F w) (F':List Pt) (hf:∀f∈F',En L F f):Hp G O (F'++F) w:=by
 have hnd:=h.nd
 rw [dM] at hnd
 have hdis:∀k∈fps L,k∉fps O:=fun k hk hl=>(List.nodup_append.1 hnd).2.2 k hk k hl rfl
 refine ⟨h.ch,fun o ho=>h.own o (List.mem_append_right _ ho),(List.nodup_append.1 hnd).2.1,fun k hk=>h.fr k (jh hk),h.bb, ?_⟩
 intro f hf' w' hc
 have hF:∀g∈F,g w':=fun g hg=>h.st g hg w' (hc.mono fun k _ hk=>hk.imp jh id)
 rcases List.mem_append.1 hf' with h9 | h9
 ·refine hf f h9 w' (fun o ho=> ?_) hF
  refine It.keep (h.own o (List.mem_append_left _ ho)) hc fun k hk=>⟨(h.fr k (fY (gv ho hk))).2.1, ?_⟩
  rintro (h8 | h8)
  ·exact hdis k (gv ho hk) h8
  ·exact (h.fr k (fY (gv ho hk))).2.2 h8
 ·exact hF f h9
theorem qc {G:Gc} {L O:List It} {F:List Pt} {C:Pt} (F':List Pt) (hf:∀f∈F',En L F f) (h:Tr G O (F'++F) C):Tr G (L++O) F C:=⟨fun w hp=>h w (hp.freeze F' hf)⟩
theorem aR {G:Gc} {O:List It} {F:List Pt} {C:Pt} (f:Pt) (hf:En [] F f) (h:Tr G O (f::F) C):Tr G O F C:=⟨fun w hp=>
 h w (Hp.freeze (L:= []) hp [f] (fun g hg=>by simp only [List.mem_singleton] at hg;subst hg;exact hf))⟩
theorem f5 {G:Gc} {O:List It} {F:List Pt} {C:Pt} {p:Prop} (e:En O F (fun _=>p)) (h:p→Tr G O F C):Tr G O F C:=⟨fun w hp=>h (hp.en e) w hp⟩
structure Zp (P:Program) (f:FuncId) (args:List Value) (Oi:List It) (Fi:List Pt) (X:Type) (p:X→Prop) (r:X→Value) (Oo:X→List It) (Fo:X→List Pt):Prop where
 en:∀(as:Array Value) (w:World),(callFunc f as).run P w= .ok (.enter f as) w
 go:∀w B,Hp ⟨w,fps Oi,B⟩ Oi Fi w→Calls P f args.toArray w (Ret fun v w'=>∃x,p x∧v=r x∧Hp ⟨w,fps Oi,B⟩ (Oo x) (Fo x) w')
theorem ij {P:Program} {f:FuncId} {first cap:Array Value} {args as:List Value} {C:Value→Pt} {w:World} (he:∀(as:Array Value) (w:World),(callFunc f as).run P w= .ok (.enter f as) w)
  (ha:first.toList++args++cap.toList=as) (h:Calls P f as.toArray w (Ret C)):Cal P (.func (.func f) first cap) args C w:=by
 have e:first++args.toArray++cap=as.toArray:=by
  apply Array.ext';simp [←ha]
 refine ⟨?_⟩
 simp only [Deferred.ofValue,Sem.run_bind,Sem.run_pure,Result.andThen,invoke]
 rw [e,he]
 exact h
section
variable {P:Program} {G:Gc} {O Oi:List It} {F Fi:List Pt} {f:FuncId} {first cap:Array Value} {args as:List Value} {C:Value→Pt} {X:Type} {p:X→Prop} {r:X→Value} {Oo:X→List It} {Fo:X→List Pt}
theorem GY (hs:Zp P f as Oi Fi X p r Oo Fo) (hF:∀g∈Fi,En O F g) (h:∀x,p x→Tr G (Oo x++O) F (C (r x))) (ha:first.toList++args++cap.toList=as:=by rfl):Tr G (Oi++O) F (Cal P (.func (.func f) first cap) args C):=by
 refine ⟨fun w hp=> ?_⟩
 refine ij hs.en ha ?_
 have hnd:=hp.nd
 rw [dM] at hnd
 have hdis:∀k∈fps O,k∉fps Oi:=fun k hk hl=>(List.nodup_append.1 hnd).2.2 k hl k hk rfl
 have hin:Hp ⟨w,fps Oi, []⟩ Oi Fi w:=by
  refine ⟨Chg.refl _ _,fun o ho=>hp.own o (List.mem_append_left _ ho),(List.nodup_append.1 hnd).1,fun k hk=>⟨.inl hk,(hp.fr k (fY hk)).2.1,(fun h=>by cases h)⟩,(fun k hk=>by cases hk), ?_⟩
  intro g hg w' hc
  refine hF g hg w' (fun o ho=> ?_) (fun g' hg'=>hp.st g' hg' w' (hc.mono fun k _ hk=> ?_))
  ·refine It.keep (hp.own o (List.mem_append_right _ ho)) hc fun k hk=>⟨(hp.fr k (jh (gv ho hk))).2.1, ?_⟩
   rintro (h8 | h8)
   ·exact hdis k (gv ho hk) h8
   ·cases h8
  ·rcases hk with h8 | h8
   ·exact .inl (fY h8)
   ·cases h8
 refine (hs.go w [] hin).mono ?_
 rintro e w' ⟨v,rfl,x,hx,rfl,hp'⟩
 exact ⟨_,rfl,h x hx w' (Hp.step (F':= []) hp hp'.ch hp'.own hp'.nd (fun k hk=>⟨(hp'.fr k hk).1,(hp'.fr k hk).2.1⟩) (fun f hf=>by cases hf))⟩
theorem vY (hs:Zp P f as Oi Fi X p r Oo Fo) (hF:∀g∈Fi,En [] F g) (h:∀x,p x→Tr G (Oo x++O) (Fo x++F) (C (r x))) (ha:first.toList++args++cap.toList=as:=by rfl):Tr G (Oi++O) F (Cal P (.func (.func f) first cap) args C):=by
 refine ⟨fun w hp=> ?_⟩
 refine ij hs.en ha ?_
 have hnd:=hp.nd
 rw [dM] at hnd
 have hdis:∀k∈fps O,k∉fps Oi:=fun k hk hl=>(List.nodup_append.1 hnd).2.2 k hl k hk rfl
 have hin:Hp ⟨w,fps Oi,G.B++fps O⟩ Oi Fi w:=by
  refine ⟨Chg.refl _ _,fun o ho=>hp.own o (List.mem_append_left _ ho),(List.nodup_append.1 hnd).1,fun k hk=>⟨.inl hk,(hp.fr k (fY hk)).2.1, ?_⟩, ?_, ?_⟩
  ·intro h
   rcases List.mem_append.1 h with h8 | h8
   ·exact (hp.fr k (fY hk)).2.2 h8
   ·exact hdis k h8 hk
  ·intro k hk
   rcases List.mem_append.1 hk with h8 | h8
   ·exact Nat.lt_of_lt_of_le (hp.bb k h8) hp.ch.size
   ·exact (hp.fr k (jh h8)).2.1
  intro g hg w' hc
  refine hF g hg w' (fun o ho=>by cases ho) (fun g' hg'=>hp.st g' hg' w' (hc.mono fun k _ hk=> ?_))
  rcases hk with h8 | h8
  ·exact .inl (fY h8)
  ·rcases List.mem_append.1 h8 with h7 | h7
   ·exact .inr h7
   ·exact .inl (jh h7)
 refine (hs.go w _ hin).mono ?_
 rintro e w' ⟨v,rfl,x,hx,rfl,hp'⟩
 exact ⟨_,rfl,h x hx w' (Hp.step hp hp'.ch hp'.own hp'.nd (fun k hk=>⟨(hp'.fr k hk).1,(hp'.fr k hk).2.1⟩) hp'.st)⟩
theorem E0 (hs:Zp P f as [] Fi X p r Oo Fo) (hF:∀g∈Fi,En O F g) (h:∀x,p x→Tr G (Oo x++O) F (C (r x))) (ha:first.toList++args++cap.toList=as:=by rfl):Tr G O F (Cal P (.func (.func f) first cap) args C):=
 GY (Oi:= []) hs hF h ha
theorem Gh (hs:Zp P f as [] Fi X p r Oo Fo) (hF:∀g∈Fi,En [] F g) (h:∀x,p x→Tr G (Oo x++O) (Fo x++F) (C (r x))) (ha:first.toList++args++cap.toList=as:=by rfl):Tr G O F (Cal P (.func (.func f) first cap) args C):=
 vY (Oi:= []) hs hF h ha
end
def Mu (P:Program) (n:Nat) (σ:Fm) (C:Value→Pt):ResultVar→Pt
 | .tmp t=>cV n σ C (.tmp t)
 | .cell a T=>cV n σ (fun va=>Rl P T va C) (.tmp a)
def xI (P:Program) (n:Nat) (σ:Fm):List ResultVar→(List Value→Pt)→Pt
 | [],C=>C []
 | r::rs,C=>Mu P n σ (fun v=>xI P n σ rs (fun vs=>C (v::vs))) r
def gr:List Value→Value
 | [v]=>v
 | vs=> .tuple vs.toArray
structure Dn (R:Value→Pt) (v:Value) (w:World):Prop where
 go:R v w
def IH (C:Fm→Pt):Nat→List Value→Fm→Pt
 | _, [],σ=>C σ
 | i,v::vs,σ=>IH C (i+1) vs ((i,v)::σ)
theorem sA {P:Program} {T:TypeId} {va v:Value} {w w':World} (h:(Instr.loadAt T va).run P w= .ok v w'):∃ad,va= .pointer (some ad)∧(loadVar T ad).run P w= .ok v w':=by
 have hs:∀u,Instr.sureAddr u=(match u with | .pointer (some a)=>pure a | _=>stuck "an address expected (no nilCheck in front?)"):=fun u=>by unfold Instr.sureAddr;rfl
 unfold Instr.loadAt at h
 simp only [Sem.run_bind] at h
 cases va with
 | pointer a=>
  cases a with
  | some ad=>exact ⟨ad,rfl,by simpa [Instr.sureAddr] using h⟩
  | none=>exact absurd h (by simp [Instr.sureAddr])
 | _=>exact absurd h (by simp [Instr.sureAddr])
section
variable {P:Program} {n:Nat} {σ τ:Fm} {w:World} {ds:List Deferred}
theorem Gw (hk:Kn σ τ) {C:Value→Pt} {r:ResultVar} (h:Mu P n σ C r w):∃v,(rsem (Fr ds n τ).tmps r).run P w= .ok v w∧C v w:=by
 cases r with
 | tmp t=>exact ⟨ev n τ (.tmp t),by simp only [rsem,vR,Sem.run_pure],aQ (x:= .tmp t) hk h⟩
 | cell a T=>
  obtain ⟨v,h1,h2⟩:=(aQ (x:= .tmp a) hk (C:=fun va=>Rl P T va C) h).go
  obtain ⟨ad,h3,h4⟩:=sA h1
  refine ⟨v, ?_,h2⟩
  simp only [rsem,vR,h3,asAddr,Sem.run_bind,Sem.run_pure,Result.andThen]
  exact h4
theorem xo (hk:Kn σ τ):∀{rs:List ResultVar} {C:List Value→Pt} {w:World},xI P n σ rs C w→∃vs,(rs.mapM (rsem (Fr ds n τ).tmps)).run P w= .ok vs w∧C vs w
 | [],C,w,h=>⟨[],by simp,h⟩
 | r::rs,C,w,h=>by
  obtain ⟨v,h1,h2⟩:=Gw (ds:=ds) hk h
  obtain ⟨vs,h3,h4⟩:=xo hk h2
  exact ⟨v::vs,by simp [h1,h3],h4⟩
theorem sR {fn:Func} (hk:Kn σ τ) {C:List Value→Pt} (h:xI P n σ fn.results.toList C w):∃vs,(results fn (Fr ds n τ).tmps).run P w= .ok (gr vs) w∧C vs w:=by
 obtain ⟨vs,h1,h2⟩:=xo (ds:=ds) hk h
 refine ⟨vs, ?_,h2⟩
 rw [uf,Array.mapM_eq_mapM_toList]
 simp only [Sem.run_bind,Sem.run_map,h1]
 match vs with
 | []=>simp [gr]
 | [v]=>simp [gr]
 | a::b::vs=>simp [gr]
end
theorem y3 {C:Fm→Pt} {w:World} {n:Nat}:∀{vs:List Value} {i:Nat} {σ τ:Fm},Kn σ τ→IH C i vs σ w→∃σ',C σ' w∧Kn σ' (((vs.zipIdx i).map fun p=>(p.2,p.1)).reverse++τ)
 | [],i,σ,τ,hk,h=>⟨σ,h,by simpa using hk⟩
 | v::vs,i,σ,τ,hk,h=>by
  obtain ⟨σ',h1,h2⟩:=y3 (n:=n) (hk.put i v) h
  exact ⟨σ',h1,by simpa using h2⟩
theorem mM:∀(vs:List Value) (i t:Nat),lk ((vs.zipIdx i).map fun p=>(p.2,p.1)).reverse t=if i≤t then (vs[t-i]?).getD undef else undef:=by
 intro vs
 induction vs with
 | nil=>intro i t;simp [lk]
 | cons v vs ih=>
  intro i t
  simp only [List.zipIdx_cons,List.map_cons,List.reverse_cons]
  rw [iJ]
  by_cases h:((((vs.zipIdx (i+1)).map fun p=>(p.2,p.1)).reverse).any fun q=>Nat.beq q.1 t)=true
  ·rw [if_pos h,ih]
   rw [List.any_reverse,List.any_map,List.any_eq_true] at h
   obtain ⟨⟨u,j⟩,hm,hj⟩:=h
   have hj':j=t:=Nat.eq_of_beq_eq_true hj
   have hge:=List.le_snd_of_mem_zipIdx hm
   simp only at hge
   rw [if_pos (by omega),if_pos (by omega)]
   obtain ⟨m,rfl⟩:∃m,t=i+1+m:=⟨t-(i+1),by omega⟩
   rw [show i+1+m-i=m+1 by omega]
   simp
  ·rw [if_neg h]
   simp only [lk]
   by_cases ht:i=t
   ·subst ht;simp [show Nat.beq i i=true from Nat.beq_refl i]
   ·have:Nat.beq i t=false:=by
     cases hb:Nat.beq i t with
     | false=>rfl
     | true=>exact absurd (Nat.eq_of_beq_eq_true hb) ht
    rw [this,cond_false]
    by_cases hle:i≤t
    ·rw [if_pos hle]
     obtain ⟨m,rfl⟩:∃m,t=i+1+m:=⟨t-(i+1),by omega⟩
     rw [show i+1+m-i=m+1 by omega]
     simp only [List.getElem?_cons_succ]
     cases hv:vs[m]? with
     | none=>rfl
     | some u=>
      exfalso
      apply h
      rw [List.any_reverse,List.any_map,List.any_eq_true]
      have hlt:=(List.getElem?_eq_some_iff.1 hv).1
      exact ⟨(u,i+1+m),List.mk_add_mem_zipIdx_iff_getElem?.2 hv,Nat.beq_refl _⟩
    ·rw [if_neg hle]
theorem FU (args:List Value) (k:Nat):args.toArray++Array.replicate (k-args.toArray.size) undef=(Fr [] (max k args.length) ((args.zipIdx 0).map fun p=>(p.2,p.1)).reverse).tmps:=by
 apply Array.ext'
 apply List.ext_getElem?
 intro i
 simp only [Fr,Array.toList_append,Array.toList_replicate,List.getElem?_map,List.getElem?_range',List.size_toArray]
 rcases Nat.lt_or_ge i args.length with h | h
 ·rw [List.getElem?_append_left h,List.getElem?_range (by omega)]
  simp [mM,h]
 ·rw [List.getElem?_append_right h]
  rcases Nat.lt_or_ge i k with h2 | h2
  ·rw [List.getElem?_range (by omega),List.getElem?_replicate,if_pos (by omega)]
   simp [mM,List.getElem?_eq_none h]
  ·rw [List.getElem?_replicate,if_neg (by omega),List.getElem?_eq_none (by simp;omega)];rfl
structure ER (P:Program) (ops:Array Oper) (n:Nat) (l:List Oper) (σ:Fm) (K:Fm→Pt) (w:World):Prop where
 go:Hd P ops n l σ K w
structure EC (P:Program) (ro:Option Nat) (n:Nat) (c:Code) (ds:List Deferred) (σ:Fm) (K:Kt) (w:World):Prop where
 go:B6 P ro n c ds σ K w
theorem Bi {P:Program} {ops:Array Oper} {n:Nat} {l:List Oper} {σ:Fm} {K:Fm→Pt}:ER P ops n l σ K=Hd P ops n l σ K:=funext fun w=>propext ⟨ER.go,ER.mk⟩
theorem et {P:Program} {ro:Option Nat} {n:Nat} {c:Code} {ds:List Deferred} {σ:Fm} {K:Kt}:EC P ro n c ds σ K=B6 P ro n c ds σ K:=funext fun w=>propext ⟨EC.go,EC.mk⟩
section
variable {P:Program} {G:Gc} {O:List It} {F:List Pt} {ops:Array Oper} {n:Nat} {o:Oper} {r:List Oper} {σ:Fm} {ro:Option Nat} {ds:List Deferred} {K:Kt}
theorem cu {L:Fm→Pt} (h:Tr G O F (gd ops n σ o (B8 P n o σ (fun v=>pD (fun σ'=>ER P ops n r σ' L) σ v o.dst)) (pD (fun σ'=>ER P ops n r σ' L) σ undef o.dst))):Tr G O F (ER P ops n (o::r) σ L):=by
 simp only [Bi] at h⊢;exact h
theorem bD {L:Fm→Pt} (h:Tr G O F (L σ)):Tr G O F (ER P ops n [] σ L):=by rw [Bi];exact h
theorem fI (h:Tr G O F (K .nm ds σ)):Tr G O F (EC P ro n .skip ds σ K):=by rw [et];exact h
theorem fK {id:Nat} (h:Tr G O F (ER P ops n ops.toList σ (K .nm ds))):Tr G O F (EC P ro n (.region id ops false) ds σ K):=by rw [Bi] at h;rw [et];exact h
theorem fF {id:Nat} (h:Tr G O F (Dw P ro n id ops ds σ K)):Tr G O F (EC P ro n (.region id ops true) ds σ K):=by rw [et];exact h
theorem fD {a b:Code} (h:Tr G O F (EC P ro n a ds σ (fun e ds σ=>match e with | .nm=>EC P ro n b ds σ K | .ex i=>K (.ex i) ds σ | .rt=>K .rt ds σ))):Tr G O F (EC P ro n (.seq a b) ds σ K):=by
 simp only [et] at h⊢;exact h
theorem fx {a b:Code} {x:Operand} (h:Tr G O F (cV n σ (Hb (EC P ro n a ds σ K) (EC P ro n b ds σ K)) x)):Tr G O F (EC P ro n (.cond x a b) ds σ K):=by
 simp only [et] at h⊢;exact h
theorem fC {id:Nat} {a:Code} (h:Tr G O F (EC P ro n a ds σ (fun e ds σ=>match e with | .nm=>K .nm ds σ | .ex i=>bif Nat.beq i id then K .nm ds σ else K (.ex i) ds σ | .rt=>K .rt ds σ))):Tr G O F (EC P ro n (.block id a) ds σ K):=by
 simp only [et] at h⊢;exact h
theorem ft {a:Code} (h:Tr G O F (Lp P ro n a ds σ K)):Tr G O F (EC P ro n (.loop a) ds σ K):=by rw [et];exact h
theorem fk {id:Nat} (h:Tr G O F (K (.ex id) ds σ)):Tr G O F (EC P ro n (.exit id) ds σ K):=by rw [et];exact h
theorem fA (h:Tr G O F (K .rt ds σ)):Tr G O F (EC P ro n .ret ds σ K):=by rw [et];exact h
theorem fy {f:Operand} {ps:Array Tmp} {a b:Code} (h:Tr G O F (Wh P ro n (.rangeFunc f ps a b) ds σ K)):Tr G O F (EC P ro n (.rangeFunc f ps a b) ds σ K):=by rw [et];exact h
end
end Go.Cz
namespace Go.Cz
open Go Go.RowKit Go.Cs
theorem aD {G:Gc} {O:List It} {F:List Pt} {X:Type} {p:X→Prop} {r:X→Value} {Oo:X→List It} {Fo:X→List Pt} {v:Value} (x:X) (hp:p x) (hv:v=r x) (hw:Wk O (Oo x)) (hf:∀f∈Fo x,f∈F:=by exact fun _ h=>by cases h):
  Tr G O F (Dn (fun v w'=>∃x,p x∧v=r x∧Hp G (Oo x) (Fo x) w') v):=⟨fun w h=>⟨x,hp,hv,h.wk hw hf⟩⟩
theorem ar (O:List It):Wk O O:=fun w h1 h2=>⟨h1,h2,fun _ h=>h⟩
theorem am (O:List It):Wk O []:=fun w h1 h2=>⟨(fun o h=>by cases h),List.nodup_nil,(fun k h=>by cases h)⟩
theorem cZ {O O' O'':List It} (h:Wk O O') (g:Wk O' O''):Wk O O'':=fun w h1 h2=>
 let ⟨a,b,c⟩:=h w h1 h2
 let ⟨d,e,f⟩:=g w a b
 ⟨d,e,fun k hk=>c k (f k hk)⟩
theorem gF (o:It) {O O':List It} (h:Wk O O'):Wk (o::O) (o::O'):=by
 intro w h1 h2
 rw [dB] at h2
 obtain ⟨a,b,c⟩:=h w (fun u hu=>h1 u (.tail _ hu)) (List.nodup_append.1 h2).2.1
 refine ⟨?_, ?_, ?_⟩
 ·intro u hu
  rcases List.mem_cons.1 hu with rfl | h9
  ·exact h1 _ (.head _)
  ·exact a u h9
 ·rw [dB,List.nodup_append]
  exact ⟨(List.nodup_append.1 h2).1,b,fun x hx y hy=>(List.nodup_append.1 h2).2.2 x hx y (c y hy)⟩
 ·intro k hk
  rw [dB] at hk⊢
  rcases List.mem_append.1 hk with h9 | h9
  ·exact List.mem_append_left _ h9
  ·exact List.mem_append_right _ (c k h9)
theorem uF (a b:It) (O:List It):Wk (a::b::O) (b::a::O):=by
 intro w h1 h2
 refine ⟨?_, ?_, ?_⟩
 ·intro u hu
  simp only [List.mem_cons] at hu
  rcases hu with rfl | rfl | h9
  ·exact h1 _ (.tail _ (.head _))
  ·exact h1 _ (.head _)
  ·exact h1 _ (.tail _ (.tail _ h9))
 ·simp only [dB,List.nodup_append,List.mem_append] at*
  obtain ⟨h3,⟨h4,h5,h6⟩,h7⟩:=h2
  refine ⟨h4,⟨h3,h5,fun x hx y hy=>h7 x hx y (.inr hy)⟩, ?_⟩
  rintro x hx y (hy | hy)
  ·exact fun e=>h7 y hy x (.inl hx) e.symm
  ·exact h6 x hx y hy
 ·intro k hk
  simp only [dB,List.mem_append] at*
  rcases hk with h | h | h
  ·exact .inr (.inl h)
  ·exact .inl h
  ·exact .inr (.inr h)
def Pk (O:List It) (o:It) (O':List It):Prop:=Wk O (o::O')
theorem CB (o:It) (O:List It):Pk (o::O) o O:=ar _
theorem Cw {o u:It} {O O':List It} (h:Pk O o O'):Pk (u::O) o (u::O'):=cZ (gF u h) (uF u o O')
theorem IQ {o:It} {O O' L:List It} (h:Pk O o O') (g:Wk O' L):Wk O (o::L):=cZ h (gF o g)
theorem r3 {o o':It} (O:List It) (hfp:o'.fp=o.fp) (h:∀w,o.A w→o'.A w):Wk (o::O) (o'::O):=by
 intro w h1 h2
 refine ⟨?_, ?_, ?_⟩
 ·intro u hu
  rcases List.mem_cons.1 hu with rfl | h9
  ·exact h w (h1 _ (.head _))
  ·exact h1 _ (.tail _ h9)
 ·rw [dB,hfp];exact h2
 ·intro k hk;rw [dB,hfp] at hk;exact hk
class Fu (P:Program) (f:FuncId) (fn:outParam Func):Prop where
 fn:P.funcs[f]? =some fn
def Ha:Func→Option (Code×Nat×List ResultVar)
 | {body:=some c,ntmps:=n,results:=⟨l⟩, .. }=>some (c,n,l)
 | _=>none
theorem Ao {fn:Func} {c:Code} {n:Nat} {l:List ResultVar} (h:Ha fn=some (c,n,l)):fn.body=some c∧fn.ntmps=n∧fn.results.toList=l:=by
 unfold Ha at h
 split at h
 ·simp only [Option.some.injEq,Prod.mk.injEq] at h;obtain ⟨rfl,rfl,rfl⟩:=h;exact ⟨rfl,rfl,rfl⟩
 ·cases h
def Iq (fn:Func):Bool:=fn.name== "runtime.NumGoroutine"
structure Td (P:Program) (d:Deferred) (C:Pt) (w:World):Prop where
 go:∃r w',d.target= .collected r∧(Instr.takeDeferred r).run P w= .ok [] w'∧C w'
def KR (P:Program) (C:Pt):List Deferred→Pt
 | []=>C
 | d::ds=>Td P d (KR P C ds)
def Gv (P:Program) (n:Nat) (rs:List ResultVar) (C:Value→Pt):Kt
 | .rt,ds,σ=>KR P (xI P n σ rs (fun vs=>C (gr vs))) ds
 | .nm,ds,σ=>KR P (xI P n σ rs (fun vs=>C (gr vs))) ds
 | .ex _,_,_=>Nev 9
theorem tQ {P:Program} {fn:Func} {n:Nat} {σ τ:Fm} (hk:Kn σ τ) {C:Value→Pt} (ds0:List Deferred):∀{ds:List Deferred} {w:World},KR P (xI P n σ fn.results.toList (fun vs=>C (gr vs))) ds w→LeavesInM Fence.wide 0 P fn (Fr ds0 n τ).tmps (Ret C) ds .returning w
 | [],w,h=>by
  obtain ⟨vs,h4,h5⟩:=sR (ds:=ds0) hk h
  exact ⟨_,h4,_,rfl,h5⟩
 | d::ds,w,h=>by
  obtain ⟨r,w',h1,h2,h3⟩:=h.go
  exact ⟨by simp, .inl ⟨r,w',h1,h2,tQ hk ds0 h3⟩⟩
theorem qD {P:Program} {f:FuncId} {args:List Value} {c:Code} {n:Nat} {rs:List ResultVar} {C:Value→Pt} {w:World} {fn:Func} (hf:P.funcs[f]? =some fn) (hu:Ha fn=some (c,n,rs)) (hl:args.length≤n) (k:IH (fun σ=>EC P none n c [] σ (Gv P n rs C)) 0 args [] w):Calls P f args.toArray w (Ret C):=by
 obtain ⟨hb,rfl,rfl⟩:=Ao hu
 simp only [et] at k
 obtain ⟨σ,h2,h3⟩:=y3 (n:=fn.ntmps) (Kn.refl []) k
 have hm:max fn.ntmps args.length=fn.ntmps:=Nat.max_eq_left hl
 have h0:=FU args fn.ntmps
 rw [hm] at h0
 refine yq (n:=fn.ntmps) (σ:=((args.zipIdx 0).map fun p=>(p.2,p.1)).reverse) hf hb ?_ h0
 refine km (jf c [] σ _ _ w (by simpa using h3) h2) ?_
 intro e a' w' hq
 cases e with
 | normal=>
  obtain ⟨ds,σ',τ',rfl,hk,hK⟩:=hq
  exact tQ hk ds hK
 | ret=>
  obtain ⟨ds,σ',τ',rfl,hk,hK⟩:=hq
  exact tQ hk ds hK
 | exit i=>obtain ⟨ds,σ',τ',rfl,hk,hK⟩:=hq;exact hK.go.elim
 | _=>exact (show False from hq).elim
theorem nY {P:Program} {f:FuncId} {fn:Func} {c:Code} {n:Nat} {rs:List ResultVar} (hf:P.funcs[f]? =some fn) (hu:Ha fn=some (c,n,rs)) (hnm:Iq fn=false) (as:Array Value) (w:World):(callFunc f as).run P w= .ok (.enter f as) w:=by
 obtain ⟨hb,rfl,rfl⟩:=Ao hu
 have hn':fn.name≠ "runtime.NumGoroutine" :=by simpa [Iq] using hnm
 simp [callFunc,hf,hn',hb]
theorem ae {P:Program} {G:Gc} {O:List It} {F:List Pt} {f:FuncId} {first cap:Array Value} {args as:List Value} {fn:Func} {c:Code} {n:Nat} {rs:List ResultVar} {C:Value→Pt} [h:Fu P f fn] (k:Tr G O F (IH (fun σ=>EC P none n c [] σ (Gv P n rs C)) 0 as []))
  (hu:Ha fn=some (c,n,rs):=by rfl) (ha:first.toList++args++cap.toList=as:=by rfl) (hl:as.length≤n:=by exact Nat.le_of_ble_eq_true rfl) (hm:Iq fn=false:=by kernel_rfl):Tr G O F (Cal P (.func (.func f) first cap) args C):=⟨fun w hp=>ij (nY h.fn hu hm) ha (qD h.fn hu hl (k w hp))⟩
theorem ak {P:Program} {f:FuncId} {args:List Value} {Oi:List It} {Fi:List Pt} {X:Type} {p:X→Prop} {r:X→Value} {Oo:X→List It} {Fo:X→List Pt} {fn:Func} {c:Code} {n:Nat} {rs:List ResultVar} [h:Fu P f fn]
  (k:∀G,Tr G Oi Fi (IH (fun σ=>EC P none n c [] σ (Gv P n rs (Dn (fun v w'=>∃x,p x∧v=r x∧Hp G (Oo x) (Fo x) w')))) 0 args [])) (hu:Ha fn=some (c,n,rs):=by rfl) (hl:args.length≤n:=by exact Nat.le_of_ble_eq_true rfl) (hm:Iq fn=false:=by kernel_rfl):Zp P f args Oi Fi X p r Oo Fo:=
 ⟨nY h.fn hu hm,fun w B hp=>(qD h.fn hu hl (k _ w hp)).mono fun e w' ⟨v,he,hv⟩=>⟨v,he,hv.go⟩⟩
def bmem (t:Nat):List Nat→Bool
 | []=>false
 | k::r=>bif Nat.beq k t then true else bmem t r
def LL:List Oper→List Nat→List Nat
 | [],acc=>acc
 | o::r,acc=>match o.dst with
  | none=>LL r acc
  | some d=>LL r (d::acc)
def qR:Code→List Nat→List Nat
 | .region _ ops _,acc=>LL ops.toList acc
 | .seq a b,acc=>qR a (qR b acc)
 | .cond _ a b,acc=>qR a (qR b acc)
 | .block _ c,acc=>qR c acc
 | .loop c,acc=>qR c acc
 | .rangeFunc _ ps a b,acc=>ps.toList++qR a (qR b acc)
 | .scope c,acc=>qR c acc
 | _,acc=>acc
def zj (C:Fm→Pt) (ws:List Nat):List Nat→Fm→Fm→Pt
 | _,acc, []=>C acc
 | seen,acc,(k,v)::r=>bif bmem k ws then zj C ws seen acc r else bif bmem k seen then zj C ws seen acc r else zj C ws (k::seen) ((k,v)::acc) r
def CX (C:Fm→Pt):Fm→Fm→Pt
 | [],σ=>C σ
 | p::ps,σ=>CX C ps (p::σ)
def Hs (L σ:Fm):Prop:=(L.map fun p=>lo σ p.1)=L.map fun p=>some p.2
theorem Hs.lo {L σ:Fm} (h:Hs L σ) {p:Nat×Value} (hp:p∈L):lo σ p.1=some p.2:=by
 induction L with
 | nil=>cases hp
 | cons q L ih=>
  simp only [Hs,List.map_cons,List.cons.injEq] at h
  rcases List.mem_cons.1 hp with rfl | h9
  ·exact h.1
  ·exact ih h.2 h9
theorem Ga {σ:Fm} {t:Nat} {v:Value} (h:lo σ t=some v):(t,v)∈σ:=by
 induction σ with
 | nil=>cases h
 | cons p r ih=>
  obtain ⟨k,u⟩:=p
  simp only [Cz.lo] at h
  cases hb:Nat.beq k t with
  | true=>simp only [hb,cond_true,Option.some.injEq] at h;rw [Nat.eq_of_beq_eq_true hb,h];exact .head _
  | false=>simp only [hb,cond_false] at h;exact .tail _ (ih h)
theorem Kn.of_all {L τ:Fm} (h:∀p∈L,lk τ p.1=p.2):Kn L τ:=fun t v ht=>h _ (Ga ht)
theorem Kn.hs {L σ τ:Fm} (hk:Kn σ τ) (h:Hs L σ):Kn L τ:=Kn.of_all fun p hp=>hk p.1 p.2 (h.lo hp)
theorem lF {C:Fm→Pt} {ws:List Nat} {w:World} {τ:Fm}:∀{σ:Fm} {seen:List Nat} {acc:Fm},zj C ws seen acc σ w→(∀p∈acc,lk τ p.1=p.2)→(∀t v,bmem t seen=false→bmem t ws=false→lo σ t=some v→lk τ t=v)→
  ∃fl,C fl w∧(∀p∈fl,lk τ p.1=p.2)∧(∀p∈acc,p∈fl)∧(∀t v,bmem t seen=false→bmem t ws=false→lo σ t=some v→(t,v)∈fl)
 | [],seen,acc,h,ha,hs=>⟨acc,h,ha,fun _ h=>h,fun t v _ _ h=>by cases h⟩
 |(k,v)::r,seen,acc,h,ha,hs=>by
  simp only [zj] at h
  have hb1:∀t,Nat.beq k t=true→k=t:=fun t=>Nat.eq_of_beq_eq_true
  have tl:∀(t:Nat) (u:Value),(bmem k ws=true∨bmem k seen=true)→bmem t seen=false→bmem t ws=false→lo ((k,v)::r) t=lo r t:=by
   intro t u h9 g1 g2
   simp only [Cz.lo]
   cases hb:Nat.beq k t with
   | true=>
    have:=hb1 t hb
    subst this
    rcases h9 with h9 | h9
    ·rw [h9] at g2;cases g2
    ·rw [h9] at g1;cases g1
   | false=>rfl
  cases h1:bmem k ws with
  | true=>
   simp only [h1,cond_true] at h
   obtain ⟨fl,a,b,c,d⟩:=lF h ha fun t u g1 g2 g3=>hs t u g1 g2 (by rw [tl t u (.inl h1) g1 g2];exact g3)
   exact ⟨fl,a,b,c,fun t u g1 g2 g3=>d t u g1 g2 (by rw [tl t u (.inl h1) g1 g2] at g3;exact g3)⟩
  | false=>
   simp only [h1,cond_false] at h
   cases h2:bmem k seen with
   | true=>
    simp only [h2,cond_true] at h
    obtain ⟨fl,a,b,c,d⟩:=lF h ha fun t u g1 g2 g3=>hs t u g1 g2 (by rw [tl t u (.inr h2) g1 g2];exact g3)
    exact ⟨fl,a,b,c,fun t u g1 g2 g3=>d t u g1 g2 (by rw [tl t u (.inr h2) g1 g2] at g3;exact g3)⟩
   | false=>
    simp only [h2,cond_false] at h
    have hkk:lo ((k,v)::r) k=some v:=by simp [Cz.lo,show Nat.beq k k=true from Nat.beq_refl k]
    obtain ⟨fl,a,b,c,d⟩:=lF h (fun p hp=>by
     rcases List.mem_cons.1 hp with rfl | h9
     ·exact hs k v h2 h1 hkk
     ·exact ha p h9) (fun t u g1 g2 g3=>by
     simp only [bmem] at g1
     cases hb:Nat.beq k t with
     | true=>simp [hb] at g1
     | false=>
      simp only [hb,cond_false] at g1
      exact hs t u g1 g2 (by simp only [Cz.lo,hb,cond_false];exact g3))
    refine ⟨fl,a,b,fun p hp=>c p (.tail _ hp),fun t u g1 g2 g3=> ?_⟩
    cases hb:Nat.beq k t with
    | true=>
     have:=hb1 t hb
     subst this
     rw [hkk] at g3
     cases g3
     exact c _ (.head _)
    | false=>exact d t u (by simp only [bmem,hb,cond_false];exact g1) g2 (by simp only [Cz.lo,hb,cond_false] at g3;exact g3)
theorem sj {C:Fm→Pt}:∀(L σ:Fm),CX C L σ=C (L.reverse++σ)
 | [],σ=>rfl
 | p::ps,σ=>by rw [CX,sj ps];simp
structure Le {X:Type} (live:X→Fm) (q:X→Prop) (Os:X→List It) (μ:X→Nat) (x:X) (G:Gc) (F:List Pt) (fl:Fm) (ds0 ds:List Deferred) (σ:Fm) (w:World):Prop where
 go:ds=ds0∧∃x',q x'∧Hs (live x') σ∧Hs fl σ∧Hp G (Os x') F w∧μ x'<μ x
section
variable {P:Program} {ro:Option Nat} {n:Nat} {c:Code} {ds:List Deferred} {σ:Fm} {K:Kt} {G:Gc} {O:List It} {F:List Pt} {X:Type}
theorem a5 {live:X→Fm} {q:X→Prop} {Os:X→List It} {μ:X→Nat} {x:X} {fl:Fm} {F':List Pt} (x':X) (hl:Hs (live x') σ) (hq:q x') (hw:Wk O (Os x')) (hμ:μ x'<μ x) (hf:Hs fl σ:=by unfold Hs;kernel_rfl) (hF:∀f∈F',f∈F:=by first | exact fun _ h=>h | exact fun _ h=> .tail _ h | exact fun _ h=> .tail _ (.tail _ h)| exact fun _ h=> .tail _ (.tail _ (.tail _ h))):
  Tr G O F (Le live q Os μ x G F' fl ds ds σ):=⟨fun w h=>⟨rfl,x',hq,hl,hf,h.wk hw hF,hμ⟩⟩
theorem cN (live:X→Fm) (q:X→Prop) (Os:X→List It) (μ:X→Nat) (x0:X) (h0:q x0) (hl:Hs (live x0) σ) (hw:Wk O (Os x0))
  (round:∀x,q x→Tr G (Os x) F (zj (fun fl=>CX (fun σ'=>EC P ro n c ds σ' (fun e ds' σ''=>match e with | .nm=>Le live q Os μ x G F fl ds ds' σ'' | .ex i=>K (.ex i) ds' σ'' | .rt=>K .rt ds' σ'')) (live x) fl) (qR c []) [] [] σ)):
  Tr G O F (Lp P ro n c ds σ K):=by
 simp only [et] at round
 refine ⟨fun w hp=> ?_⟩
 refine ⟨fun τ hk=> ?_⟩
 unfold i4
 refine ey (fun m a w'=>∃(x:X) (τ':Fm),a=Fr ds n τ'∧q x∧(∀p∈live x,lk τ' p.1=p.2)∧(∀t v,bmem t (qR c [])=false→lo σ t=some v→lk τ' t=v)∧Hp G (Os x) F w'∧μ x=m) (μ x0)
  ⟨x0,τ,rfl,h0,fun p hpm=>hk _ _ (hl.lo hpm),fun t v _ h=>hk t v h,hp.wk hw (fun _ h=>h),rfl⟩ ?_
 rintro m a w' ⟨x,τ',rfl,hq,h1,h2,hp',rfl⟩
 obtain ⟨fl,h3,h4,_,h5⟩:=lF (τ:=τ') (round x hq w' hp') (fun p hp=>by cases hp) (fun t v _ g2 g3=>h2 t v g2 g3)
 rw [sj] at h3
 have hkn:Kn ((live x).reverse++fl) τ':=Kn.of_all fun p hp=>by
  rcases List.mem_append.1 hp with h9 | h9
  ·exact h1 p (List.mem_reverse.1 h9)
  ·exact h4 p h9
 refine wpIn_mono (jf c ds _ τ' _ w' hkn h3) ?_
 intro e a' w'' hQ
 cases e with
 | normal=>
  obtain ⟨ds',σ'',τ'',rfl,hk'',hL⟩:=hQ
  obtain ⟨rfl,x',hq',hl',hf',hp'',hlt⟩:=hL.go
  exact ⟨μ x',hlt,x',τ'',rfl,hq',fun p hpm=>hk'' _ _ (hl'.lo hpm),fun t v g1 g2=>hk'' t v (hf'.lo (h5 t v rfl g1 g2)),hp'',rfl⟩
 | exit i=>exact hQ
 | ret=>exact hQ
 | _=>exact hQ
structure Lr (P:Program) (ro:Option Nat) (n:Nat) (m:Nat) (c:Code) (ds:List Deferred) (σ:Fm) (K:Kt) (w:World):Prop where
 go:∀τ,Kn σ τ→Code.roundsIn (fen ro) 0 P c (KQ n K) m (Fr ds n τ) w
theorem gJ (m:Nat) (h:Tr G O F (Lr P ro n m c ds σ K)):Tr G O F (Lp P ro n c ds σ K):=⟨fun w hp=>⟨fun τ hk=>wpIn_loop_rounds m ((h w hp).go τ hk)⟩⟩
theorem bN {m:Nat} (h:Tr G O F (EC P ro n c ds σ (fun e ds' σ''=>match e with | .nm=>Lr P ro n m c ds' σ'' K | .ex i=>K (.ex i) ds' σ'' | .rt=>K .rt ds' σ''))):Tr G O F (Lr P ro n (m+1) c ds σ K):=⟨fun w hp=>⟨fun τ hk=>by
 refine wpIn_mono (jf c ds σ τ _ w hk (h w hp).go) ?_
 intro e a' w'' hQ
 cases e with
 | normal=>
  obtain ⟨ds',σ'',τ'',rfl,hk'',hL⟩:=hQ
  exact hL.go τ'' hk''
 | exit i=>exact hQ
 | ret=>exact hQ
 | _=>exact hQ⟩⟩
end
end Go.Cz
namespace Go.Cz
open Go Go.RowKit Go.Cs
structure Yv (P:Program) (O:List It) (F:List Pt) (k:Ak) (v:Value):Prop where
 go:En O F (fun w=>k.sem.run P w= .ok v w)
theorem aC {P:Program} {O:List It} {F:List Pt} {k:Ak} {v:Value} (h:∀w,k.sem.run P w= .ok v w):Yv P O F k v:=⟨fun w _ _=>h w⟩
class Ni (z:Int) (n:outParam Nat):Prop where
 ni:z=(n:Int)
instance {n:Nat}:Ni ((n:Nat):Int) n:=⟨rfl⟩
section
variable {P:Program} {G:Gc} {O:List It} {F:List Pt} {C:Value→Pt} {D:Pt} {T:TypeId} {x y:Operand}
theorem nF {k:Ak} {v:Value} (hy:Yv P O F k v) (h:Tr G O F (C v)):Tr G O F (Rv P k C):=⟨fun w hp=>⟨v,w,hp.en hy.go,h w hp⟩⟩
theorem Kb {a v:Value} (hy:Yv P O F (.ld T a) v) (h:Tr G O F (C v)):Tr G O F (Rl P T a C):=⟨fun w hp=>⟨v,hp.en hy.go,h w hp⟩⟩
theorem fa {a:Addr} (h:Tr G O F (C (.pointer (some a)))):Tr G O F (Nck P (.pointer (some a)) C):=⟨fun w hp=>⟨a,rfl,h w hp⟩⟩
section
variable {i j:Int} {a b:Nat} [hi:Ni i a] [hj:Ni j b]
theorem BS (h:a+b≤9223372036854775807:=by omega):Yv P O F (Ak.bin .add T x y (.int .i64 i) (.int .i64 j)) (vI (a+b)):=aC fun w=>by
 cases hi.ni;cases hj.ni
 show Result.ok (Value.int .i64 (IntKind.i64.wrap ((a:Int)+(b:Int)))) w=_
 rw [jz (y:=((a+b:Nat):Int))]
theorem DC (h:b≤a:=by omega) (h2:a≤9223372036854775807:=by omega):Yv P O F (Ak.bin .sub T x y (.int .i64 i) (.int .i64 j)) (vI (a-b)):=aC fun w=>by
 cases hi.ni;cases hj.ni
 show Result.ok (Value.int .i64 (IntKind.i64.wrap ((a:Int)-(b:Int)))) w=_
 rw [jz (y:=((a-b:Nat):Int))]
theorem CY (h:a*b≤9223372036854775807:=by omega):Yv P O F (Ak.bin .mul T x y (.int .i64 i) (.int .i64 j)) (vI (a*b)):=aC fun w=>by
 cases hi.ni;cases hj.ni
 show Result.ok (Value.int .i64 (IntKind.i64.wrap ((a:Int)*(b:Int)))) w=_
 rw [jz (y:=((a*b:Nat):Int)) (by simp)]
theorem CK (h:0<b:=by omega) (h2:a≤9223372036854775807:=by omega):Yv P O F (Ak.bin .quo T x y (.int .i64 i) (.int .i64 j)) (vI (a/b)):=aC fun w=>by
 cases hi.ni;cases hj.ni
 have hb:¬((b:Int)=0):=by omega
 have e:(Ak.bin .quo T x y (vI a) (vI b)).sem.run P w=(if (b:Int)=0 then (runtimePanic (.error "integer divide by zero"):Sem Value) else pure (.int .i64 (IntKind.i64.wrap ((a:Int).tdiv (b:Int))))).run P w:=rfl
 have hq:∀q:Nat,q≤a→IntKind.i64.wrap (q:Int)=(q:Int):=fun q hq=>jz
 rw [e,if_neg hb,IA,hq _ (Nat.div_le_self a b)];rfl
theorem DA {kk:IntKind} (h:0<b:=by omega):Yv P O F (Ak.bin .rem T x y (.int kk i) (.int kk j)) (.int kk ((a%b:Nat):Int)):=aC fun w=>by
 cases hi.ni;cases hj.ni
 have hb:¬((b:Int)=0):=by omega
 have e:(Ak.bin .rem T x y (.int kk (a:Int)) (.int kk (b:Int))).sem.run P w=(if (b:Int)=0 then (runtimePanic (.error "integer divide by zero"):Sem Value) else pure (.int kk ((a:Int).tmod (b:Int)))).run P w:=by cases kk<;>rfl
 rw [e,if_neg hb,E5];rfl
theorem wM {kk k2:IntKind} (h:b≤kk.bits:=by first |(show _≤64;omega)|(show _≤32;omega)|(show _≤8;omega)):Yv P O F (Ak.bin .shr T x y (.int kk i) (.int k2 j)) (.int kk ((a/2^b:Nat):Int)):=aC fun w=>by
 cases hi.ni;cases hj.ni
 have e:(Ak.bin .shr T x y (.int kk (a:Int)) (.int k2 (b:Int))).sem.run P w=(if (b:Int)<0 then (runtimePanic (.error "negative shift amount"):Sem Value) else pure (.int kk ((a:Int).fdiv (2^(min (b:Int).toNat kk.bits))))).run P w:=rfl
 rw [e,if_neg (by omega),Int.toNat_natCast,Nat.min_eq_left h,vi];rfl
theorem vu {kk:IntKind} (hk:kk.signed=false:=by rfl) (h:a+b<2^kk.bits:=by first |(show _<18446744073709551616;omega)|(show _<4294967296;omega)):Yv P O F (Ak.bin .add T x y (.int kk i) (.int kk j)) (.int kk ((a+b:Nat):Int)):=aC fun w=>by
 cases hi.ni;cases hj.ni
 have e:(Ak.bin .add T x y (.int kk (a:Int)) (.int kk (b:Int))).sem.run P w=Result.ok (Value.int kk (kk.wrap ((a:Int)+(b:Int)))) w:=by cases kk<;>rfl
 rw [e,mF hk (m:=a+b) (by simp) h]
theorem wo {kk:IntKind} (hk:kk.signed=false:=by rfl) (h:b≤a:=by omega) (h2:a<2^kk.bits:=by first |(show _<18446744073709551616;omega)|(show _<4294967296;omega)):Yv P O F (Ak.bin .sub T x y (.int kk i) (.int kk j)) (.int kk ((a-b:Nat):Int)):=aC fun w=>by
 cases hi.ni;cases hj.ni
 have e:(Ak.bin .sub T x y (.int kk (a:Int)) (.int kk (b:Int))).sem.run P w=Result.ok (Value.int kk (kk.wrap ((a:Int)-(b:Int)))) w:=by cases kk<;>rfl
 rw [e,mF hk (m:=a-b) (by omega) (by omega)]
end
abbrev vb (c:UInt8):Value:= .int .u8 (c.toNat:Int)
abbrev vw (c:UInt32):Value:= .int .u32 (c.toNat:Int)
abbrev vq (c:UInt64):Value:= .int .u64 (c.toNat:Int)
class N8 (z:Int) (c:outParam UInt8) (p:outParam Prop):Prop where
 nu:p→z=(c.toNat:Int)
instance {c:UInt8}:N8 (c.toNat:Int) c True:=⟨fun _=>rfl⟩
instance (priority:=low) {z:Int} {n:Nat} [h:Ni z n]:N8 z (UInt8.ofNat n) (n<256):=⟨fun g=>by rw [h.ni];simp only [UInt8.toNat_ofNat'];rw [Nat.mod_eq_of_lt g]⟩
section
variable {i j:Int} {a b:UInt8} {p q:Prop} [hi:N8 i a p] [hj:N8 j b q]
theorem xj (hp:p:=by first | exact True.intro | decide) (hq:q:=by first | exact True.intro | decide):Yv P O F (Ak.bin .add T x y (.int .u8 i) (.int .u8 j)) (vb (a+b)):=aC fun w=>by
 cases hi.nu hp;cases hj.nu hq
 show Result.ok (Value.int .u8 (IntKind.u8.wrap ((a.toNat:Int)+(b.toNat:Int)))) w=Result.ok (Value.int .u8 ((a+b).toNat:Int)) w
 rw [iA (m:=a.toNat+b.toNat) rfl (by simp),show IntKind.u8.bits=8 from rfl,UInt8.toNat_add]
theorem xp (hp:p:=by first | exact True.intro | decide) (hq:q:=by first | exact True.intro | decide):Yv P O F (Ak.bin .mul T x y (.int .u8 i) (.int .u8 j)) (vb (a*b)):=aC fun w=>by
 cases hi.nu hp;cases hj.nu hq
 show Result.ok (Value.int .u8 (IntKind.u8.wrap ((a.toNat:Int)*(b.toNat:Int)))) w=Result.ok (Value.int .u8 ((a*b).toNat:Int)) w
 rw [iA (m:=a.toNat*b.toNat) rfl (by simp),show IntKind.u8.bits=8 from rfl,UInt8.toNat_mul]
theorem we (hp:p:=by first | exact True.intro | decide) (hq:q:=by first | exact True.intro | decide):Yv P O F (Ak.bin .and T x y (.int .u8 i) (.int .u8 j)) (vb (a&&&b)):=aC fun w=>by
 cases hi.nu hp;cases hj.nu hq
 show Result.ok (Value.int .u8 (IntKind.u8.wrap ((BitVec.ofInt IntKind.u8.bits (a.toNat:Int)&&&BitVec.ofInt IntKind.u8.bits (b.toNat:Int)).toNat:Int))) w=Result.ok (Value.int .u8 ((a&&&b).toNat:Int)) w
 rw [DJ .u8 rfl (by have:=a.toNat_lt;show a.toNat<256;omega) (by have:=b.toNat_lt;show b.toNat<256;omega),UInt8.toNat_and]
theorem uq (hp:p:=by first | exact True.intro | decide) (hq:q:=by first | exact True.intro | decide):Yv P O F (Ak.bin .or T x y (.int .u8 i) (.int .u8 j)) (vb (a ||| b)):=aC fun w=>by
 cases hi.nu hp;cases hj.nu hq
 show Result.ok (Value.int .u8 (IntKind.u8.wrap ((BitVec.ofInt IntKind.u8.bits (a.toNat:Int)||| BitVec.ofInt IntKind.u8.bits (b.toNat:Int)).toNat:Int))) w=Result.ok (Value.int .u8 ((a ||| b).toNat:Int)) w
 rw [Kr .u8 rfl (by have:=a.toNat_lt;show a.toNat<256;omega) (by have:=b.toNat_lt;show b.toNat<256;omega),UInt8.toNat_or]
theorem wO (hp:p:=by first | exact True.intro | decide) (hq:q:=by first | exact True.intro | decide):Yv P O F (Ak.bin .xor T x y (.int .u8 i) (.int .u8 j)) (vb (a^^^b)):=aC fun w=>by
 cases hi.nu hp;cases hj.nu hq
 show Result.ok (Value.int .u8 (IntKind.u8.wrap ((BitVec.ofInt IntKind.u8.bits (a.toNat:Int)^^^BitVec.ofInt IntKind.u8.bits (b.toNat:Int)).toNat:Int))) w=Result.ok (Value.int .u8 ((a^^^b).toNat:Int)) w
 rw [yT .u8 rfl (by have:=a.toNat_lt;show a.toNat<256;omega) (by have:=b.toNat_lt;show b.toNat<256;omega),UInt8.toNat_xor]
end
section
variable {i j:Int} {a:UInt8} {n:Nat} {p:Prop} {kk:IntKind} [hi:N8 i a p] [hj:Ni j n]
theorem pq (hp:p:=by first | exact True.intro | decide) (h:n<8:=by omega):Yv P O F (Ak.bin .shl T x y (.int .u8 i) (.int kk j)) (vb (a<<<UInt8.ofNat n)):=aC fun w=>by
 cases hi.nu hp;cases hj.ni
 have e:(Ak.bin .shl T x y (.int .u8 (a.toNat:Int)) (.int kk (n:Int))).sem.run P w=(if (n:Int)<0 then (runtimePanic (.error "negative shift amount"):Sem Value) else pure (.int .u8 (IntKind.u8.wrap ((a.toNat:Int)*2^(min (n:Int).toNat 8))))).run P w:=rfl
 rw [e,if_neg (by omega),Int.toNat_natCast,Nat.min_eq_left (by omega),zT rfl]
 show Result.ok (Value.int .u8 ((a.toNat*2^n%2^8:Nat):Int)) w=Result.ok (Value.int .u8 ((a<<<UInt8.ofNat n).toNat:Int)) w
 rw [UInt8.toNat_shiftLeft,UInt8.toNat_ofNat',Nat.mod_eq_of_lt (show n<2^8 by omega),Nat.mod_eq_of_lt h,Nat.shiftLeft_eq]
theorem oS (hp:p:=by first | exact True.intro | decide) (h:n<8:=by omega):Yv P O F (Ak.bin .shr T x y (.int .u8 i) (.int kk j)) (vb (a>>>UInt8.ofNat n)):=aC fun w=>by
 cases hi.nu hp;cases hj.ni
 have e:(Ak.bin .shr T x y (.int .u8 (a.toNat:Int)) (.int kk (n:Int))).sem.run P w=(if (n:Int)<0 then (runtimePanic (.error "negative shift amount"):Sem Value) else pure (.int .u8 ((a.toNat:Int).fdiv (2^(min (n:Int).toNat 8))))).run P w:=rfl
 rw [e,if_neg (by omega),Int.toNat_natCast,Nat.min_eq_left (by omega),vi]
 show Result.ok (Value.int .u8 ((a.toNat/2^n:Nat):Int)) w=Result.ok (Value.int .u8 ((a>>>UInt8.ofNat n).toNat:Int)) w
 rw [UInt8.toNat_shiftRight,UInt8.toNat_ofNat',Nat.mod_eq_of_lt (show n<2^8 by omega),Nat.mod_eq_of_lt h,Nat.shiftRight_eq_div_pow]
end
class Nw (z:Int) (c:outParam UInt32) (p:outParam Prop):Prop where
 nu:p→z=(c.toNat:Int)
instance {c:UInt32}:Nw (c.toNat:Int) c True:=⟨fun _=>rfl⟩
instance (priority:=low) {z:Int} {n:Nat} [h:Ni z n]:Nw z (UInt32.ofNat n) (n<4294967296):=⟨fun g=>by rw [h.ni];simp only [UInt32.toNat_ofNat'];rw [Nat.mod_eq_of_lt g]⟩
section
variable {i j:Int} {a b:UInt32} {p q:Prop} [hi:Nw i a p] [hj:Nw j b q]
theorem wE (hp:p:=by first | exact True.intro | decide) (hq:q:=by first | exact True.intro | decide):Yv P O F (Ak.bin .add T x y (.int .u32 i) (.int .u32 j)) (vw (a+b)):=aC fun w=>by
 cases hi.nu hp;cases hj.nu hq
 show Result.ok (Value.int .u32 (IntKind.u32.wrap ((a.toNat:Int)+(b.toNat:Int)))) w=Result.ok (Value.int .u32 ((a+b).toNat:Int)) w
 rw [iA (m:=a.toNat+b.toNat) rfl (by simp),show IntKind.u32.bits=32 from rfl,UInt32.toNat_add]
theorem vk (hp:p:=by first | exact True.intro | decide) (hq:q:=by first | exact True.intro | decide):Yv P O F (Ak.bin .and T x y (.int .u32 i) (.int .u32 j)) (vw (a&&&b)):=aC fun w=>by
 cases hi.nu hp;cases hj.nu hq
 show Result.ok (Value.int .u32 (IntKind.u32.wrap ((BitVec.ofInt IntKind.u32.bits (a.toNat:Int)&&&BitVec.ofInt IntKind.u32.bits (b.toNat:Int)).toNat:Int))) w=Result.ok (Value.int .u32 ((a&&&b).toNat:Int)) w
 rw [DJ .u32 rfl (by have:=a.toNat_lt;show a.toNat<4294967296;omega) (by have:=b.toNat_lt;show b.toNat<4294967296;omega),UInt32.toNat_and]
theorem wl (hp:p:=by first | exact True.intro | decide) (hq:q:=by first | exact True.intro | decide):Yv P O F (Ak.bin .or T x y (.int .u32 i) (.int .u32 j)) (vw (a ||| b)):=aC fun w=>by
 cases hi.nu hp;cases hj.nu hq
 show Result.ok (Value.int .u32 (IntKind.u32.wrap ((BitVec.ofInt IntKind.u32.bits (a.toNat:Int)||| BitVec.ofInt IntKind.u32.bits (b.toNat:Int)).toNat:Int))) w=Result.ok (Value.int .u32 ((a ||| b).toNat:Int)) w
 rw [Kr .u32 rfl (by have:=a.toNat_lt;show a.toNat<4294967296;omega) (by have:=b.toNat_lt;show b.toNat<4294967296;omega),UInt32.toNat_or]
theorem ve (hp:p:=by first | exact True.intro | decide) (hq:q:=by first | exact True.intro | decide):Yv P O F (Ak.bin .xor T x y (.int .u32 i) (.int .u32 j)) (vw (a^^^b)):=aC fun w=>by
 cases hi.nu hp;cases hj.nu hq
 show Result.ok (Value.int .u32 (IntKind.u32.wrap ((BitVec.ofInt IntKind.u32.bits (a.toNat:Int)^^^BitVec.ofInt IntKind.u32.bits (b.toNat:Int)).toNat:Int))) w=Result.ok (Value.int .u32 ((a^^^b).toNat:Int)) w
 rw [yT .u32 rfl (by have:=a.toNat_lt;show a.toNat<4294967296;omega) (by have:=b.toNat_lt;show b.toNat<4294967296;omega),UInt32.toNat_xor]
end
section
variable {i j:Int} {a:UInt32} {n:Nat} {p:Prop} {kk:IntKind} [hi:Nw i a p] [hj:Ni j n]
omit hj in
theorem wU (hp:p:=by first | exact True.intro | decide):Yv P O F (Ak.un .xor T (.int .u32 i)) (vw (a^^^4294967295)):=aC fun w=>by
 cases hi.nu hp
 have e:(Ak.un .xor T (.int .u32 (a.toNat:Int))).sem.run P w=Result.ok (Value.int .u32 (IntKind.u32.wrap ((BitVec.ofInt IntKind.u32.bits ((4294967295:Nat):Int)^^^BitVec.ofInt IntKind.u32.bits (a.toNat:Int)).toNat:Int))) w:=rfl
 have ha:a.toNat<4294967296:=a.toNat_lt
 rw [e,yT .u32 rfl (by show 4294967295<4294967296;omega) (by show a.toNat<4294967296;exact ha)]
 show Result.ok (Value.int .u32 ((4294967295^^^a.toNat:Nat):Int)) w=Result.ok (Value.int .u32 ((a^^^4294967295).toNat:Int)) w
 rw [UInt32.toNat_xor,Nat.xor_comm];rfl
theorem pz (hp:p:=by first | exact True.intro | decide) (h:n<32:=by omega):Yv P O F (Ak.bin .shl T x y (.int .u32 i) (.int kk j)) (vw (a<<<UInt32.ofNat n)):=aC fun w=>by
 cases hi.nu hp;cases hj.ni
 have e:(Ak.bin .shl T x y (.int .u32 (a.toNat:Int)) (.int kk (n:Int))).sem.run P w=(if (n:Int)<0 then (runtimePanic (.error "negative shift amount"):Sem Value) else pure (.int .u32 (IntKind.u32.wrap ((a.toNat:Int)*2^(min (n:Int).toNat 32))))).run P w:=rfl
 rw [e,if_neg (by omega),Int.toNat_natCast,Nat.min_eq_left (by omega),zT rfl]
 show Result.ok (Value.int .u32 ((a.toNat*2^n%2^32:Nat):Int)) w=Result.ok (Value.int .u32 ((a<<<UInt32.ofNat n).toNat:Int)) w
 rw [UInt32.toNat_shiftLeft,UInt32.toNat_ofNat',Nat.mod_eq_of_lt (show n<2^32 by omega),Nat.mod_eq_of_lt h,Nat.shiftLeft_eq]
theorem oL (hp:p:=by first | exact True.intro | decide) (h:n<32:=by omega):Yv P O F (Ak.bin .shr T x y (.int .u32 i) (.int kk j)) (vw (a>>>UInt32.ofNat n)):=aC fun w=>by
 cases hi.nu hp;cases hj.ni
 have e:(Ak.bin .shr T x y (.int .u32 (a.toNat:Int)) (.int kk (n:Int))).sem.run P w=(if (n:Int)<0 then (runtimePanic (.error "negative shift amount"):Sem Value) else pure (.int .u32 ((a.toNat:Int).fdiv (2^(min (n:Int).toNat 32))))).run P w:=rfl
 rw [e,if_neg (by omega),Int.toNat_natCast,Nat.min_eq_left (by omega),vi]
 show Result.ok (Value.int .u32 ((a.toNat/2^n:Nat):Int)) w=Result.ok (Value.int .u32 ((a>>>UInt32.ofNat n).toNat:Int)) w
 rw [UInt32.toNat_shiftRight,UInt32.toNat_ofNat',Nat.mod_eq_of_lt (show n<2^32 by omega),Nat.mod_eq_of_lt h,Nat.shiftRight_eq_div_pow]
end
class Nq (z:Int) (c:outParam UInt64) (p:outParam Prop):Prop where
 nu:p→z=(c.toNat:Int)
instance {c:UInt64}:Nq (c.toNat:Int) c True:=⟨fun _=>rfl⟩
instance (priority:=low) {z:Int} {n:Nat} [h:Ni z n]:Nq z (UInt64.ofNat n) (n<18446744073709551616):=⟨fun g=>by rw [h.ni];simp only [UInt64.toNat_ofNat'];rw [Nat.mod_eq_of_lt g]⟩
section
variable {i j:Int} {a b:UInt64} {p q:Prop} [hi:Nq i a p] [hj:Nq j b q]
theorem uz (hp:p:=by first | exact True.intro | decide) (hq:q:=by first | exact True.intro | decide):Yv P O F (Ak.bin .add T x y (.int .u64 i) (.int .u64 j)) (vq (a+b)):=aC fun w=>by
 cases hi.nu hp;cases hj.nu hq
 show Result.ok (Value.int .u64 (IntKind.u64.wrap ((a.toNat:Int)+(b.toNat:Int)))) w=Result.ok (Value.int .u64 ((a+b).toNat:Int)) w
 rw [iA (m:=a.toNat+b.toNat) rfl (by simp),show IntKind.u64.bits=64 from rfl,UInt64.toNat_add]
theorem vH (hp:p:=by first | exact True.intro | decide) (hq:q:=by first | exact True.intro | decide):Yv P O F (Ak.bin .mul T x y (.int .u64 i) (.int .u64 j)) (vq (a*b)):=aC fun w=>by
 cases hi.nu hp;cases hj.nu hq
 show Result.ok (Value.int .u64 (IntKind.u64.wrap ((a.toNat:Int)*(b.toNat:Int)))) w=Result.ok (Value.int .u64 ((a*b).toNat:Int)) w
 rw [iA (m:=a.toNat*b.toNat) rfl (by simp),show IntKind.u64.bits=64 from rfl,UInt64.toNat_mul]
theorem rf (hp:p:=by first | exact True.intro | decide) (hq:q:=by first | exact True.intro | decide):Yv P O F (Ak.bin .and T x y (.int .u64 i) (.int .u64 j)) (vq (a&&&b)):=aC fun w=>by
 cases hi.nu hp;cases hj.nu hq
 show Result.ok (Value.int .u64 (IntKind.u64.wrap ((BitVec.ofInt IntKind.u64.bits (a.toNat:Int)&&&BitVec.ofInt IntKind.u64.bits (b.toNat:Int)).toNat:Int))) w=Result.ok (Value.int .u64 ((a&&&b).toNat:Int)) w
 rw [DJ .u64 rfl (by have:=a.toNat_lt;show a.toNat<18446744073709551616;omega) (by have:=b.toNat_lt;show b.toNat<18446744073709551616;omega),UInt64.toNat_and]
end
section
variable {i j:Int} {a:UInt64} {n:Nat} {p:Prop} {kk:IntKind} [hi:Nq i a p] [hj:Ni j n]
theorem oI (hp:p:=by first | exact True.intro | decide) (h:n<64:=by omega):Yv P O F (Ak.bin .shr T x y (.int .u64 i) (.int kk j)) (vq (a>>>UInt64.ofNat n)):=aC fun w=>by
 cases hi.nu hp;cases hj.ni
 have e:(Ak.bin .shr T x y (.int .u64 (a.toNat:Int)) (.int kk (n:Int))).sem.run P w=(if (n:Int)<0 then (runtimePanic (.error "negative shift amount"):Sem Value) else pure (.int .u64 ((a.toNat:Int).fdiv (2^(min (n:Int).toNat 64))))).run P w:=rfl
 rw [e,if_neg (by omega),Int.toNat_natCast,Nat.min_eq_left (by omega),vi]
 show Result.ok (Value.int .u64 ((a.toNat/2^n:Nat):Int)) w=Result.ok (Value.int .u64 ((a>>>UInt64.ofNat n).toNat:Int)) w
 rw [UInt64.toNat_shiftRight,UInt64.toNat_ofNat',Nat.mod_eq_of_lt (show n<2^64 by omega),Nat.mod_eq_of_lt h,Nat.shiftRight_eq_div_pow]
end
end
end Go.Cz
namespace Go.Cz
open Go Go.RowKit Go.Cs
class Ik (P:Program) (T:TypeId) (k:outParam IntKind):Prop where
 ik:P.underlying T=some (.int k)
section
variable {P:Program} {G:Gc} {O:List It} {F:List Pt} {C:Value→Pt} {D:Pt} {T:TypeId} {x y:Operand} {kk:IntKind} {a b:Int}
theorem qC (h:a<b:=by omega):Yv P O F (Ak.bin .lss T x y (.int kk a) (.int kk b)) (.bool true):=aC fun w=>by
 cases kk<;>(show Result.ok (Value.bool (decide (a<b))) w=_;rw [decide_eq_true h])
theorem rK (h:¬a<b:=by omega):Yv P O F (Ak.bin .lss T x y (.int kk a) (.int kk b)) (.bool false):=aC fun w=>by
 cases kk<;>(show Result.ok (Value.bool (decide (a<b))) w=_;rw [decide_eq_false h])
theorem wT (h:a≤b:=by omega):Yv P O F (Ak.bin .leq T x y (.int kk a) (.int kk b)) (.bool true):=aC fun w=>by
 cases kk<;>(show Result.ok (Value.bool (decide (a≤b))) w=_;rw [decide_eq_true h])
theorem wN (h:¬a≤b:=by omega):Yv P O F (Ak.bin .leq T x y (.int kk a) (.int kk b)) (.bool false):=aC fun w=>by
 cases kk<;>(show Result.ok (Value.bool (decide (a≤b))) w=_;rw [decide_eq_false h])
theorem rP (h:a>b:=by omega):Yv P O F (Ak.bin .gtr T x y (.int kk a) (.int kk b)) (.bool true):=aC fun w=>by
 cases kk<;>(show Result.ok (Value.bool (decide (a>b))) w=_;rw [decide_eq_true h])
theorem qy (h:¬a>b:=by omega):Yv P O F (Ak.bin .gtr T x y (.int kk a) (.int kk b)) (.bool false):=aC fun w=>by
 cases kk<;>(show Result.ok (Value.bool (decide (a>b))) w=_;rw [decide_eq_false h])
theorem vX (h:a≥b:=by omega):Yv P O F (Ak.bin .geq T x y (.int kk a) (.int kk b)) (.bool true):=aC fun w=>by
 cases kk<;>(show Result.ok (Value.bool (decide (a≥b))) w=_;rw [decide_eq_true h])
theorem uV (h:¬a≥b:=by omega):Yv P O F (Ak.bin .geq T x y (.int kk a) (.int kk b)) (.bool false):=aC fun w=>by
 cases kk<;>(show Result.ok (Value.bool (decide (a≥b))) w=_;rw [decide_eq_false h])
theorem rC (h:a=b:=by omega):Yv P O F (Ak.bin .eql T x y (.int kk a) (.int kk b)) (.bool true):=aC fun w=>by
 cases kk<;>(show Result.ok (Value.bool (a==b)) w=_;rw [beq_iff_eq.2 h])
theorem qw (h:¬a=b:=by omega):Yv P O F (Ak.bin .eql T x y (.int kk a) (.int kk b)) (.bool false):=aC fun w=>by
 cases kk<;>(show Result.ok (Value.bool (a==b)) w=_;rw [beq_eq_false_iff_ne.2 h])
theorem qg (h:¬a=b:=by omega):Yv P O F (Ak.bin .neq T x y (.int kk a) (.int kk b)) (.bool true):=aC fun w=>by
 cases kk<;>(show Result.ok (Value.bool (a !=b)) w=_;rw [bne_iff_ne.2 h])
theorem qX (h:a=b:=by omega):Yv P O F (Ak.bin .neq T x y (.int kk a) (.int kk b)) (.bool false):=aC fun w=>by
 cases kk<;>(show Result.ok (Value.bool (a !=b)) w=_;rw [show (a !=b)=false by simp [h]])
theorem LP (ht:a<b→Tr G O F (C (.bool true))) (hf:¬a<b→Tr G O F (C (.bool false))):Tr G O F (Rv P (.bin .lss T x y (.int kk a) (.int kk b)) C):=by
 by_cases h:a<b
 ·exact nF (qC h) (ht h)
 ·exact nF (rK h) (hf h)
theorem L3 (ht:a>b→Tr G O F (C (.bool true))) (hf:¬a>b→Tr G O F (C (.bool false))):Tr G O F (Rv P (.bin .gtr T x y (.int kk a) (.int kk b)) C):=by
 by_cases h:a>b
 ·exact nF (rP h) (ht h)
 ·exact nF (qy h) (hf h)
theorem Ln (ht:a=b→Tr G O F (C (.bool true))) (hf:¬a=b→Tr G O F (C (.bool false))):Tr G O F (Rv P (.bin .eql T x y (.int kk a) (.int kk b)) C):=by
 by_cases h:a=b
 ·exact nF (rC h) (ht h)
 ·exact nF (qw h) (hf h)
theorem LV (ht:¬a=b→Tr G O F (C (.bool true))) (hf:a=b→Tr G O F (C (.bool false))):Tr G O F (Rv P (.bin .neq T x y (.int kk a) (.int kk b)) C):=by
 by_cases h:a=b
 ·exact nF (qX h) (hf h)
 ·exact nF (qg h) (ht h)
theorem qp {S:TypeId} {ks k1 k2:IntKind} [gS:Ik P S ks] [gT:Ik P T k1] {z:Int} {n:Nat} [hz:Ni z n] (hk:k1.signed=false:=by rfl) (h:n<2^k1.bits:=by first |(show _<18446744073709551616;omega)|(show _<4294967296;omega)|(show _<256;omega)):Yv P O F (Ak.cvt S T (.int k2 z)) (.int k1 (n:Int)):=aC fun w=>by
 cases hz.ni
 have hu:=gS.ik
 have hT:=gT.ik
 have e:(Ak.cvt S T (.int k2 (n:Int))).sem.run P w=Result.ok (.int k1 (k1.wrap (n:Int))) w:=by
  simp only [Ak.sem,convert,Sem.run_bind,run_underlying hu,run_underlying hT,Result.andThen];rfl
 rw [e,mF hk rfl h]
theorem wJ (c:Bool):Yv P O F (Ak.un .not T (.bool c)) (.bool (!c)):=aC fun w=>rfl
theorem nR {S:TypeId} {ks:IntKind} [gS:Ik P S ks] [gT:Ik P T .i64] {k2:IntKind} {z:Int} {n:Nat} [hz:Ni z n] (h:n≤9223372036854775807:=by omega):Yv P O F (Ak.cvt S T (.int k2 z)) (vI n):=aC fun w=>by
 cases hz.ni
 have hu:=gS.ik
 have hT:=gT.ik
 have e:(Ak.cvt S T (.int k2 (n:Int))).sem.run P w=Result.ok (.int .i64 (IntKind.i64.wrap (n:Int))) w:=by
  simp only [Ak.sem,convert,Sem.run_bind,run_underlying hu,run_underlying hT,Result.andThen];rfl
 rw [e,jz (y:=(n:Int))]
theorem uw {S:TypeId} {ks:IntKind} [gS:Ik P S ks] [gT:Ik P T .u8] {k2:IntKind} {z:Int} {n:Nat} [hz:Ni z n]:Yv P O F (Ak.cvt S T (.int k2 z)) (vb (UInt8.ofNat n)):=aC fun w=>by
 cases hz.ni
 have hu:=gS.ik
 have hT:=gT.ik
 have e:(Ak.cvt S T (.int k2 (n:Int))).sem.run P w=Result.ok (.int .u8 (IntKind.u8.wrap (n:Int))) w:=by
  simp only [Ak.sem,convert,Sem.run_bind,run_underlying hu,run_underlying hT,Result.andThen];rfl
 rw [e,iA rfl rfl]
 show _=Result.ok (Value.int .u8 ((UInt8.ofNat n).toNat:Int)) w
 rw [UInt8.toNat_ofNat'];rfl
theorem wa {S:TypeId} {ks:IntKind} [gS:Ik P S ks] [gT:Ik P T .u32] {k2:IntKind} {z:Int} {n:Nat} [hz:Ni z n]:Yv P O F (Ak.cvt S T (.int k2 z)) (vw (UInt32.ofNat n)):=aC fun w=>by
 cases hz.ni
 have hu:=gS.ik
 have hT:=gT.ik
 have e:(Ak.cvt S T (.int k2 (n:Int))).sem.run P w=Result.ok (.int .u32 (IntKind.u32.wrap (n:Int))) w:=by
  simp only [Ak.sem,convert,Sem.run_bind,run_underlying hu,run_underlying hT,Result.andThen];rfl
 rw [e,iA rfl rfl]
 show _=Result.ok (Value.int .u32 ((UInt32.ofNat n).toNat:Int)) w
 rw [UInt32.toNat_ofNat'];rfl
theorem wj {S:TypeId} {ks:IntKind} [gS:Ik P S ks] [gT:Ik P T .i64] {c:UInt8}:Yv P O F (Ak.cvt S T (vb c)) (vI c.toNat):=nR (by have:=c.toNat_lt;omega)
end
class CL {α:Type} (K:α→List Value) (m:outParam Nat):Prop where
 len:∀x,(K x).length=m
 one:∀x,∀u∈K x,u.oneCell'=true
def cB (c:UInt8):List Value:= [vb c]
def cW (c:UInt32):List Value:= [vw c]
def cQ (c:UInt64):List Value:= [vq c]
def cI (n:Nat):List Value:= [vI n]
def cT (b:Bool):List Value:= [.bool b]
instance:CL cB 1:=⟨fun _=>rfl,fun x u hu=>by simp only [cB,List.mem_singleton] at hu;subst hu;rfl⟩
instance:CL cW 1:=⟨fun _=>rfl,fun x u hu=>by simp only [cW,List.mem_singleton] at hu;subst hu;rfl⟩
instance:CL cQ 1:=⟨fun _=>rfl,fun x u hu=>by simp only [cQ,List.mem_singleton] at hu;subst hu;rfl⟩
instance:CL cI 1:=⟨fun _=>rfl,fun x u hu=>by simp only [cI,List.mem_singleton] at hu;subst hu;rfl⟩
instance:CL cT 1:=⟨fun _=>rfl,fun x u hu=>by simp only [cT,List.mem_singleton] at hu;subst hu;rfl⟩
theorem bL (l:List UInt8):bE l=l.flatMap cB:=by
 induction l with
 | nil=>rfl
 | cons c l ih=>simp only [List.flatMap_cons,←ih];rfl
def Sub (cs:List Value) (o:Nat) (vs:List Value):Prop:=∃p q,cs=p++vs++q∧p.length=o
def Up (cs:List Value) (o:Nat) (vs cs':List Value):Prop:=∃p us q,cs=p++us++q∧p.length=o∧us.length=vs.length∧cs'=p++vs++q
theorem Sub.td {cs vs:List Value} {o:Nat} (h:Sub cs o vs):(cs.drop o).take vs.length=vs:=by
 obtain ⟨p,q,rfl,rfl⟩:=h
 rw [List.append_assoc,List.drop_left,List.take_left]
theorem Up.sf {cs vs cs':List Value} {o:Nat} (h:Up cs o vs cs'):bX cs o vs=cs':=by
 obtain ⟨p,us,q,rfl,rfl,hl,rfl⟩:=h
 have e1:(p++us++q).take p.length=p:=by rw [List.append_assoc,List.take_left]
 have e2:(p++us++q).drop (p.length+vs.length)=q:=by rw [←hl,←List.length_append,List.drop_left]
 rw [e8 _ _ _ (by simp;omega),e1,e2]
theorem Up.le {cs vs cs':List Value} {o:Nat} (h:Up cs o vs cs'):o+vs.length≤cs.length:=by
 obtain ⟨p,us,q,rfl,rfl,hl,rfl⟩:=h
 simp;omega
theorem CR (cs:List Value):Sub cs 0 cs:=⟨[], [],by simp,rfl⟩
theorem Bq {cs vs:List Value} (h:cs.length=vs.length):Up cs 0 vs vs:=⟨[],cs, [],by simp,rfl,h,by simp⟩
theorem HO {cs us vs:List Value} {o j:Nat} (h:Sub cs o us) (g:Sub us j vs):Sub cs (o+j) vs:=by
 obtain ⟨p,q,rfl,rfl⟩:=h
 obtain ⟨r,s,rfl,rfl⟩:=g
 exact ⟨p++r,s++q,by simp [List.append_assoc],by simp⟩
theorem GJ {cs us vs us' cs':List Value} {o j:Nat} (h:Sub cs o us) (g:Up us j vs us') (k:Up cs o us' cs'):Up cs (o+j) vs cs':=by
 obtain ⟨p,q,rfl,rfl⟩:=h
 obtain ⟨r,x,s,rfl,rfl,hl,rfl⟩:=g
 obtain ⟨p',us,q',he,hp,hl2,rfl⟩:=k
 have hl3:us.length=(r++x++s).length:=by rw [hl2];simp [hl]
 have e1:p=p'∧(r++x++s)++q=us++q':=by
  rw [List.append_assoc p,List.append_assoc p'] at he
  exact List.append_inj he hp.symm
 obtain ⟨rfl,e2⟩:=e1
 obtain ⟨e3,rfl⟩:=List.append_inj e2 hl3.symm
 exact ⟨p++r,x,s++q,by simp [List.append_assoc],by simp,hl,by simp [List.append_assoc]⟩
section
variable {α:Type} {K:α→List Value} {m:Nat} [hK:CL K m] {t:List α} {i:Nat}
theorem b8:(t.flatMap K).length=t.length*m:=cC (hK.len) t
theorem xt (h:i<t.length):t=t.take i++ [t[i]]++t.drop (i+1):=by simp
theorem BT (d:α) (h:i<t.length):Sub (t.flatMap K) (i*m) (K (t.getD i d)):=by
 refine ⟨(t.take i).flatMap K,(t.drop (i+1)).flatMap K, ?_, ?_⟩
 ·refine (congrArg (·.flatMap K) (xt h)).trans ?_
  simp only [List.flatMap_append,List.flatMap_cons,List.flatMap_nil,List.append_nil,List.getD,List.getElem?_eq_getElem h,Option.getD_some]
 ·rw [b8,List.length_take,Nat.min_eq_left (by omega)]
theorem j6 (y:α) (h:i<t.length):Up (t.flatMap K) (i*m) (K y) ((t.set i y).flatMap K):=by
 refine ⟨(t.take i).flatMap K,K t[i],(t.drop (i+1)).flatMap K, ?_, ?_, ?_, ?_⟩
 ·refine (congrArg (·.flatMap K) (xt h)).trans ?_
  simp only [List.flatMap_append,List.flatMap_cons,List.flatMap_nil,List.append_nil]
 ·rw [b8,List.length_take,Nat.min_eq_left (by omega)]
 ·rw [hK.len,hK.len]
 ·rw [List.set_eq_take_append_cons_drop,if_pos h]
  simp [List.flatMap_append]
end
def iB (b:Nat) (cs:List Value) (e:TypeId):It:=⟨[b],fun w=>Blk w b cs e,fun w w' hk h=>by
 unfold Blk at*;rw [hk b (.head _)];exact h⟩
def Sl {α:Type} (K:α→List Value) (a:Option Addr) (n c:Nat) (t:List α):Pt:=fun w=>n=t.length∧eN 0 w.heap.size w a n c (t.flatMap K)
def Az (O:List It) (F:List Pt) (b A:Nat) (vs:List Value):Prop:=En O F (fun w=>At w b A vs)
section
variable {O:List It} {F:List Pt} {b o A e:Nat} {cs vs us:List Value} {φ f:Pt}
theorem My {u:It} (h:En O F φ):En (u::O) F φ:=fun w h1 h2=>h w (fun o ho=>h1 o (.tail _ ho)) h2
theorem Li (h:En O F φ):En O (f::F) φ:=fun w h1 h2=>h w h1 (fun g hg=>h2 g (.tail _ hg))
theorem LJ:En O (f::F) f:=fun w _ h2=>h2 f (.head _)
theorem LN:Az (iB b cs e::O) F b 0 cs:=fun w h1 _=>Blk.all (h1 _ (.head _))
theorem MD {u:It} (h:Az O F b A vs):Az (u::O) F b A vs:=My h
theorem MO (h:Az O F b A vs):Az O (f::F) b A vs:=Li h
theorem LQ {α:Type} {K:α→List Value} {n c:Nat} {t:List α}:Az O (Sl K (some ⟨b,o,none⟩) n c t::F) b o (t.flatMap K):=fun w _ h2=>eN.at (h2 _ (.head _)).2
theorem LW {j:Nat} (h:Az O F b A us) (g:Sub us j vs):Az O F b (A+j) vs:=fun w h1 h2=>At.sub (h w h1 h2) j vs g.td
theorem oK:∀g∈([]:List Pt),En O F g:=fun g hg=>by cases hg
theorem Dv {L:List Pt} (h:En O F f) (t:∀g∈L,En O F g):∀g∈f::L,En O F g:=fun g hg=>by
 rcases List.mem_cons.1 hg with rfl | h9
 ·exact h
 ·exact t g h9
theorem yY {α:Type} {K:α→List Value} {n c:Nat} {t:List α} (h:Az O F b A (t.flatMap K)) (hn:n=t.length:=by first | rfl | simp) (hc:n≤c:=by omega) (hm:c≤9223372036854775807:=by omega):En O F (Sl K (some ⟨b,A,none⟩) n c t):=by
 intro w h1 h2
 have hA:=h w h1 h2
 refine ⟨hn,hc,by simpa [maxLen] using hm, ?_⟩
 cases hv:t.flatMap K with
 | nil=>exact .inl rfl
 | cons v vs=>
  rw [hv] at hA
  have h0:=hA 0 v rfl
  have hb:=World.block_lt_of_cell? w _ h0
  exact .inr ⟨rfl,Nat.zero_le _,hb,hb,hA⟩
end
class Fb {α:outParam Type} (vs:List Value) (K:outParam (α→List Value)) (t:outParam (List α)):Prop where
 fm:vs=t.flatMap K
instance {α:Type} {K:α→List Value} {t:List α}:Fb (t.flatMap K) K t:=⟨rfl⟩
instance {l:List UInt8}:Fb (bE l) cB l:=⟨bL l⟩
class Sb (cs:List Value) (o:Nat) (vs:outParam (List Value)) (p:outParam Prop):Prop where
 sb:p→Sub cs o vs
class Ub (cs:List Value) (o:Nat) (vs:List Value) (cs':outParam (List Value)) (p:outParam Prop):Prop where
 ub:p→Up cs o vs cs'
class Ab (O:List It) (F:List Pt) (b A:Nat) (vs:outParam (List Value)) (p:outParam Prop):Prop where
 ab:p→Az O F b A vs
class Pb (O:List It) (b:Nat) (cs:outParam (List Value)) (e:outParam TypeId) (O':outParam (List It)):Prop where
 pb:Pk O (iB b cs e) O'
class Lb {α:Type} (O:List It) (F:List Pt) (K:α→List Value) (a:Option Addr) (n c:Nat) (t:outParam (List α)) (p:outParam Prop):Prop where
 lb:p→En O F (Sl K a n c t)
section
variable {O O':List It} {F:List Pt} {b o A e i j n c:Nat} {cs vs us cs' us':List Value} {f:Pt} {u:It} {p q r:Prop} {v x:Value}
instance:Sb (v::cs) 0 [v] True:=⟨fun _=>⟨[],cs,rfl,rfl⟩⟩
instance [h:Sb cs j vs p]:Sb (v::cs) (j+1) vs p:=⟨fun hp=>by
 obtain ⟨a,q,e,h⟩:=h.sb hp
 exact ⟨v::a,q,by simp [e],by simp [h]⟩⟩
instance {α:Type} {K:α→List Value} {m:Nat} {t:List α} [h:Fb cs K t] [CL K m] [Inhabited α]:Sb cs (i*m) (K (t.getD i default)) (i<t.length):=⟨fun hi=>by rw [h.fm];exact BT default hi⟩
instance:Ub (v::cs) 0 [x] (x::cs) True:=⟨fun _=>⟨[], [v],cs,rfl,rfl,rfl,rfl⟩⟩
instance [h:Ub cs j vs cs' p]:Ub (v::cs) (j+1) vs (v::cs') p:=⟨fun hp=>by
 obtain ⟨a,us,q,e,h1,h2,h3⟩:=h.ub hp
 exact ⟨v::a,us,q,by simp [e],by simp [h1],h2,by simp [h3]⟩⟩
instance {α:Type} {K:α→List Value} {m:Nat} {t:List α} {y:α} [h:Fb cs K t] [CL K m]:Ub cs (i*m) (K y) ((t.set i y).flatMap K) (i<t.length):=⟨fun hi=>by rw [h.fm];exact j6 y hi⟩
instance {l:List UInt8} {y:UInt8}:Ub (bE l) (i*1) [.int .u8 (y.toNat:Int)] (bE (l.set i y)) (i<l.length):=⟨fun hi=>by rw [bL,bL];exact j6 (K:=cB) y hi⟩
instance (priority:=low) [h:Sb cs A us p] [g:Ub us j vs us' q] [k:Ub cs A us' cs' r]:Ub cs (A+j) vs cs' (p∧q∧r):=⟨fun hp=>GJ (h.sb hp.1) (g.ub hp.2.1) (k.ub hp.2.2)⟩
instance (priority:=low):Ub cs 0 vs vs (cs.length=vs.length):=⟨fun h=>Bq h⟩
instance (priority:=low):Sb cs 0 cs True:=⟨fun _=>CR cs⟩
instance:Ab (iB b cs e::O) F b 0 cs True:=⟨fun _=>LN⟩
instance (priority:=low) [h:Ab O F b A vs p]:Ab (u::O) F b A vs p:=⟨fun hp=>MD (h.ab hp)⟩
instance {α:Type} {K:α→List Value} {t:List α}:Ab O (Sl K (some ⟨b,o,none⟩) n c t::F) b o (t.flatMap K) True:=⟨fun _=>LQ⟩
instance (priority:=low) [h:Ab O F b A vs p]:Ab O (f::F) b A vs p:=⟨fun hp=>MO (h.ab hp)⟩
instance (priority:=low) [h:Ab O F b A us p] [g:Sb us j vs q]:Ab O F b (A+j) vs (p∧q):=⟨fun hp=>LW (h.ab hp.1) (g.sb hp.2)⟩
instance:Pb (iB b cs e::O) b cs e O:=⟨CB _ _⟩
instance (priority:=low) [h:Pb O b cs e O']:Pb (u::O) b cs e (u::O'):=⟨Cw h.pb⟩
instance {α:Type} {K:α→List Value} {a:Option Addr} {t:List α}:Lb O (Sl K a n c t::F) K a n c t True:=⟨fun _=>LJ⟩
instance (priority:=low) {α:Type} {K:α→List Value} {a:Option Addr} {t:List α} [h:Lb O F K a n c t p]:Lb O (f::F) K a n c t p:=⟨fun hp=>Li (h.lb hp)⟩
instance (priority:=low) {α:Type} {K:α→List Value} {t:List α} [h:Ab O F b A vs p] [g:Fb vs K t]:Lb O F K (some ⟨b,A,none⟩) n c t (p∧n=t.length∧n≤c∧c≤9223372036854775807):=⟨fun hp=>yY (by have:=h.ab hp.1;rw [g.fm] at this;exact this) hp.2.1 hp.2.2.1 hp.2.2.2⟩
end
instance (priority:=50) {α:Type} {K:α→List Value} {m:Nat} {O:List It} {F:List Pt} {b A i n c:Nat} {us:List Value} {t:List α} {p:Prop} [hK:CL K m] [h:Ab O F b A us p] [g:Fb us K t]:Lb O F K (some ⟨b,A+i*m,none⟩) n c ((t.drop i).take n) (p∧i+n≤t.length∧n≤c∧c≤9223372036854775807):=⟨fun ⟨h1,h2,h3,h4⟩=>by
 have ha:=h.ab h1
 rw [g.fm] at ha
 refine yY (LW ha (j:=i*m) ⟨(t.take i).flatMap K,(t.drop (i+n)).flatMap K, ?_, ?_⟩) (by rw [List.length_take,List.length_drop,Nat.min_eq_left (by omega)]) h3 h4
 ·rw [←List.flatMap_append,←List.flatMap_append,←List.drop_drop,List.append_assoc,List.take_append_drop,List.take_append_drop]
 ·rw [b8,List.length_take,Nat.min_eq_left (by omega)]⟩
class Ef (O:List It) (F:List Pt) (f:Pt):Prop where
 ef:En O F f
instance {O:List It} {F:List Pt} {f:Pt}:Ef O (f::F) f:=⟨LJ⟩
instance (priority:=low) {O:List It} {F:List Pt} {f g:Pt} [h:Ef O F f]:Ef O (g::F) f:=⟨Li h.ef⟩
class Sz (P:Program) (T:TypeId) (m:outParam Nat) (g:outParam Bool):Prop where
 sz:(P.info? T).map (·.size)=some m
 ag:(P.underlying T).map jb=some g
class Ix (P:Program) (T:TypeId) (E:outParam TypeId) (m:outParam Nat) (k:outParam (Option Nat)):Prop where
 sz:(P.info? E).map (·.size)=some m
 ix:P.underlying T=some (match k with | none=> .slice E | some n=> .array n E)
class Zk (P:Program) (E:TypeId) (α:outParam Type) (K:outParam (α→List Value)) (z:outParam α) (m bys:outParam Nat):Prop where
 zk:∃v:Value,(P.info? E).map (fun i=>(i.zero,i.size,i.bytes))=some (some v,m,bys)∧v.cells=(K z).toArray
def ju (P:Program) (T i:Nat):Option (Nat×Nat):=match P.underlying T with
 | some (.struct fs)=>(fs[i]?).map fun f=>(f.offset,f.type)
 | _=>none
class Fo (P:Program) (T i:Nat) (o:outParam Nat) (E:outParam TypeId):Prop where
 fo:ju P T i=some (o,E)
class Zc (P:Program) (T:TypeId) (cs:outParam (List Value)):Prop where
 zc:FQ P T=cs
 al:∀w:World,(Instr.alloc T true (.tuple #[])).run P w= .ok (vP w.heap.size 0) (w.alloc (.cells cs.toArray T))
end Go.Cz
namespace Go.Cz
open Go Go.RowKit Go.Cs
section
variable {P:Program} {G:Gc} {O O':List It} {F:List Pt} {C:Value→Pt} {D:Pt} {T:TypeId} {b A e m:Nat} {v:Value} {vs cs cs':List Value}
theorem ID {g:Bool} [h:Sz P T m g] (hpk:Pk O (iB b cs e) O') (hv:v.cells=vs.toArray) (hl:vs.length=m) (h1:∀u∈vs,u.oneCell'=true) (hup:Up cs A vs cs') (k:Tr G (iB b cs' e::O') F D):Tr G O F (Ru P (.st T (.pointer (some ⟨b,A,none⟩)) v) D):=by
 refine ⟨fun w hp0=> ?_⟩
 have hp:Hp G ([iB b cs e]++O') F w:=hp0.wk hpk (fun _ h=>h)
 have hB:Blk w b cs e:=hp.own _ (.head _)
 obtain ⟨w',h2,h3,h4⟩:=J1 (P:=P) (T:=T) hB hv (by rw [h.sz,hl]) hup.le h1
 rw [hup.sf] at h3
 have hb:b<w.heap.size:=hB.lt
 refine ⟨w',h2,k w' (Hp.step (L':= [iB b cs' e]) (F':= []) hp (h4.mono fun k _ hk=>by subst hk;simp [iB]) ?_ (by simp [iB]) ?_ (fun f hf=>by cases hf))⟩
 ·intro o ho;simp only [List.mem_singleton] at ho;subst ho;exact h3
 ·intro k hk
  simp [iB] at hk;subst hk
  exact ⟨.inl (by simp [iB]),Nat.lt_of_lt_of_le hb h4.size⟩
theorem JN {k:Ak} (cs:List Value) (e:TypeId) (r:Nat→Value) (hr:∀w,k.sem.run P w= .ok (r w.heap.size) (w.alloc (.cells cs.toArray e))) (h:∀b,Tr G (iB b cs e::O) F (C (r b))):Tr G O F (Rv P k C):=by
 refine ⟨fun w hp=> ?_⟩
 refine ⟨_,_,hr w,h w.heap.size _ (Hp.step (L:= []) (L':= [iB w.heap.size cs e]) (F':= []) hp ((Ext.alloc w _).mono fun k _ hk=>hk.elim) ?_ (by simp [iB]) ?_ (fun f hf=>by cases hf))⟩
 ·intro o ho;simp only [List.mem_singleton] at ho;subst ho;exact Blk.new w cs e
 ·intro k hk
  simp [iB] at hk;subst hk
  exact ⟨.inr (Nat.le_refl _),by simp⟩
section
variable {kk:IntKind} {n c E:Nat} {a:Option Addr}
theorem qm [h:Ix P T E m none] {z:Int} {i:Nat} [hz:Ni z i] (hi:i<n:=by omega):Yv P O F (Ak.ixa T (.slice (some ⟨b,A,none⟩) n c) (.int kk z)) (vP b (A+i*m)):=aC fun w=>by
 cases hz.ni
 have h1:=h.sz
 have h2:=h.ix
 exact GC hi h2 h1
theorem wF {k:Nat} [h:Ix P T E m (some k)] {z:Int} {i:Nat} [hz:Ni z i] (hi:i<k:=by omega):Yv P O F (Ak.ixa T (vP b A) (.int kk z)) (vP b (A+i*m)):=aC fun w=>by
 cases hz.ni
 have h1:=h.sz
 have h2:=h.ix
 exact FE hi h2 h1
theorem v9 {i o E:Nat} {m:Nat} {g:Bool} [h:Fo P T i o E] [hE:Sz P E (m+1) g]:Yv P O F (Ak.fda T (vP b A) i) (vP b (A+o)):=aC fun w=>by
 have h1:=h.fo
 unfold ju at h1
 cases hu:P.underlying T with
 | none=>simp [hu] at h1
 | some d=>
  cases d with
  | struct fs=>
   simp only [hu] at h1
   obtain ⟨f,hf,hfe⟩:=Option.map_eq_some_iff.1 h1
   simp only [Prod.mk.injEq] at hfe
   obtain ⟨rfl,rfl⟩:=hfe
   have h2:=Cs.run_sizeOf (P:=P) (w:=w) hE.sz
   simp [Ak.sem,Instr.fieldAt,run_underlying hu,hf,Instr.sureAddr,fieldPlace,h2,Addr.add_lit]
  | _=>simp [hu] at h1
theorem AA {i o E:Nat} (h:ju P T i=some (o,E)):∃fs f,P.underlying T=some (.struct fs)∧fs[i]? =some f∧f.offset=o∧f.type=E:=by
 unfold ju at h
 cases hu:P.underlying T with
 | none=>simp [hu] at h
 | some d=>
  cases d with
  | struct fs=>
   simp only [hu] at h
   obtain ⟨f,hf,hfe⟩:=Option.map_eq_some_iff.1 h
   simp only [Prod.mk.injEq] at hfe
   exact ⟨fs,f,rfl,hf,hfe.1,hfe.2⟩
  | _=>simp [hu] at h
theorem tv {i o E m:Nat} [h:Fo P T i o E] [hE:Sz P E m true] (hs:Sub cs o vs) (hl:vs.length=m):Yv P O F (Ak.fd T (vA cs) i) (vA vs):=aC fun w=>by
 obtain ⟨fs,f,hu,hf,rfl,rfl⟩:=AA h.fo
 have:=aT (P:=P) (w:=w) (o:=f.offset) (vs:=cs) (us:=vs) hE.ag hE.sz (by rw [←hl];exact hs.td)
 simp [Ak.sem,Instr.field,run_underlying hu,hf,asAgg,this]
class Bn (x:Option Value) (y:Nat) (z:outParam Nat):Prop where
 bn:bnd x y z
instance {y:Nat}:Bn none y y:=⟨.inl ⟨rfl,rfl⟩⟩
instance {kk:IntKind} {i:Int} {n y:Nat} [h:Ni i n]:Bn (some (.int kk i)) y n:=⟨.inr ⟨kk,by rw [h.ni]⟩⟩
theorem xv [h:Ix P T E m none] {hi mx:Option Value} {r k:Nat} [hh:Bn hi n r] [hm:Bn mx c k] (hmh:mx=none∨hi≠none:=by simp) (h2:r≤k:=by omega) (h3:k≤c:=by omega):
  Yv P O F (Ak.slc T (.slice a n c) none hi mx) (.slice a r k):=aC fun w=>by
 have h1:=h.sz
 have hT:=h.ix
 have:=kf (P:=P) (w:=w) (T:=T) (len:=n) (cap:=c) (a:=a) (lo:=none) hT h1 (.inl ⟨rfl,rfl⟩) hh.bn hm.bn hmh (Nat.zero_le _) h2 h3
 simp only [Ak.sem,this,Nat.sub_zero,Nat.zero_mul]
 congr 1
 cases a with
 | none=>simp
 | some ad=>split<;>simp [Addr.add]
theorem uT [h:Ix P T E m none] {lo hi mx:Option Value} {l r k:Nat} [hl:Bn lo 0 l] [hh:Bn hi n r] [hm:Bn mx c k] (hmh:mx=none∨hi≠none:=by simp)
  (h1:l≤r:=by omega) (h2:r≤k:=by omega) (h3:k≤c:=by omega) (h4:l<k:=by omega):Yv P O F (Ak.slc T (.slice (some ⟨b,A,none⟩) n c) lo hi mx) (.slice (some ⟨b,A+l*m,none⟩) (r-l) (k-l)):=aC fun w=>by
 have hE:=h.sz
 have hT:=h.ix
 have:=kf (P:=P) (w:=w) (T:=T) (len:=n) (cap:=c) (a:=some ⟨b,A,none⟩) hT hE hl.bn hh.bn hm.bn hmh h1 h2 h3
 simp only [Ak.sem,this]
 rw [if_neg (by omega)]
 simp [Addr.add_lit]
theorem uo [h:Ix P T E m none] {lo hi mx:Option Value} {l r k:Nat} [hl:Bn lo 0 l] [hh:Bn hi n r] [hm:Bn mx c k] (hmh:mx=none∨hi≠none:=by simp) (h1:l=r:=by omega) (h2:r=k:=by omega) (h3:k≤c:=by omega):Yv P O F (Ak.slc T (.slice a n c) lo hi mx) (.slice a 0 0):=aC fun w=>by
 have hE:=h.sz
 have hT:=h.ix
 have:=kf (P:=P) (w:=w) (T:=T) (len:=n) (cap:=c) (a:=a) hT hE hl.bn hh.bn hm.bn hmh (by omega) (by omega) h3
 simp only [Ak.sem,this]
 rw [if_pos (by omega),show r-l=0 by omega,show k-l=0 by omega]
theorem xi {k:Nat} [h:Ix P T E m (some k)]:Yv P O F (Ak.slc T (vP b A) none none none) (.slice (some ⟨b,A,none⟩) k k):=aC fun w=>by
 have hE:=h.sz
 have hT:=h.ix
 exact FB hT hE
theorem vZ {k:Nat} [h:Ix P T E m (some k)] {lo hi mx:Option Value} {l r q:Nat} [hl:Bn lo 0 l] [hh:Bn hi k r] [hm:Bn mx k q] (hmh:mx=none∨hi≠none:=by simp)
  (h1:l≤r:=by omega) (h2:r≤q:=by omega) (h3:q≤k:=by omega) (h4:l<q:=by omega):Yv P O F (Ak.slc T (vP b A) lo hi mx) (.slice (some ⟨b,A+l*m,none⟩) (r-l) (q-l)):=aC fun w=>by
 have hE:=h.sz
 have hT:=h.ix
 have:=FG (P:=P) (w:=w) (T:=T) (len:=k) (b:=b) (o:=A) hl.bn hh.bn hm.bn hmh h1 h2 h3 hT hE
 simp only [Ak.sem,this]
 rw [if_neg (by omega)]
theorem wi [h:Ix P T E m none] {ty:TypeId}:Yv P O F (Ak.bi .len #[T] ty [.slice a n c]) (vI n):=aC fun w=>by
 have hE:=h.sz
 have hT:=h.ix
 simp [Ak.sem,Builtin.len_,run_underlying hT,goInt]
theorem vL [h:Ix P T E m none] {ty:TypeId}:Yv P O F (Ak.bi .cap #[T] ty [.slice a n c]) (vI c):=aC fun w=>by
 have hE:=h.sz
 have hT:=h.ix
 simp [Ak.sem,Builtin.cap_,run_underlying hT,goInt]
theorem uv {z1 z2:Int} {i j:Nat} [h1:Ni z1 i] [h2:Ni z2 j] {at_:Array TypeId} {ty:TypeId}:Yv P O F (Ak.bi .min at_ ty [.int kk z1, .int kk z2]) (.int kk ((min i j:Nat):Int)):=aC fun w=>by
 cases h1.ni;cases h2.ni
 simp [Ak.sem,Builtin.min_,Builtin.min2];split<;>omega
theorem wt {l:List Value} {i:Nat} (h:l[i]? =some v):Yv P O F (Ak.ext (.tuple l.toArray) i) v:=aC fun w=>by
 simp [Ak.sem,Instr.extract,h]
theorem vj {f:Fn} {l r:List Value}:Yv P O F (Ak.mkf f l r) (.func f l.toArray r.toArray):=aC fun w=>rfl
theorem uZ {k:Nat} [h:Ix P T E m (some k)] (hk:k≤n:=by omega):Yv P O F (Ak.s2a T (.slice a n c)) (.pointer a):=aC fun w=>by
 have hE:=h.sz
 have hT:=h.ix
 exact sD (cap:=c) hk hT
end
theorem AZ {α:Type} (f:Nat→α) (m k:Nat):(List.range (m+k)).map f=(List.range m).map f++(List.range k).map (fun i=>f (m+i)):=by
 rw [List.range_add,List.map_append,List.map_map];rfl
theorem pr {α:Type} {f:α→List Value} {sz:Nat} {z:Value} {x:α} (hz:z.cells=(f x).toArray) (hs:(f x).length=sz) (h0:0<sz):∀n,(madeCells z.cells (n*sz)).toList=(List.replicate n x).flatMap f
 | 0=>by simp [madeCells]
 | n+1=>by
  have ih:=pr hz hs h0 n
  have hsz:z.cells.size=sz:=by rw [hz];simpa using hs
  simp only [madeCells,Array.toList_map,Array.toList_range] at ih⊢
  rw [show (n+1)*sz=sz+n*sz by rw [Nat.add_mul,Nat.one_mul,Nat.add_comm],AZ,List.replicate_succ,List.flatMap_cons,←ih]
  congr 1
  ·refine List.ext_getElem (by simp [hs]) fun i h1 h2=> ?_
   have hi:i<sz:=by simpa using h1
   have h4:i%(f x).length=i:=by rw [hs];exact Nat.mod_eq_of_lt hi
   have h5:i<(f x).length:=by rw [hs];exact hi
   simp [hz,h4,h5]
  ·refine List.map_congr_left fun i _=> ?_
   show z.cells[(sz+i)%z.cells.size]! =z.cells[i%z.cells.size]!
   rw [hsz,Nat.add_mod_left]
end
end Go.Cz
namespace Go.Cz
open Go Go.RowKit Go.Cs
class Cv (v:Value) (vs:outParam (List Value)):Prop where
 cv:v.cells=vs.toArray∧∀u∈vs,u.oneCell'=true
instance {k:IntKind} {z:Int}:Cv (.int k z) [.int k z]:=⟨rfl,fun u hu=>by simp only [List.mem_singleton] at hu;subst hu;rfl⟩
instance {b:Bool}:Cv (.bool b) [.bool b]:=⟨rfl,fun u hu=>by simp only [List.mem_singleton] at hu;subst hu;rfl⟩
instance {a:Option Addr} {n c:Nat}:Cv (.slice a n c) [.slice a n c]:=⟨rfl,fun u hu=>by simp only [List.mem_singleton] at hu;subst hu;rfl⟩
instance {a:Option Addr}:Cv (.pointer a) [.pointer a]:=⟨rfl,fun u hu=>by simp only [List.mem_singleton] at hu;subst hu;rfl⟩
instance {f:Fn} {a b:Array Value}:Cv (.func f a b) [.func f a b]:=⟨rfl,fun u hu=>by simp only [List.mem_singleton] at hu;subst hu;rfl⟩
instance {t:TypeId} {v:Value}:Cv (.iface t v) [.iface t v]:=⟨rfl,fun u hu=>by simp only [List.mem_singleton] at hu;subst hu;rfl⟩
instance:Cv .nilFunc [.nilFunc]:=⟨rfl,fun u hu=>by simp only [List.mem_singleton] at hu;subst hu;rfl⟩
class On (vs:List Value):Prop where
 on:∀u∈vs,u.oneCell'=true
instance:On []:=⟨fun u hu=>by cases hu⟩
instance {v:Value} {vs:List Value} [h:Cv v [v]] [g:On vs]:On (v::vs):=⟨fun u hu=>by
 rcases List.mem_cons.1 hu with rfl | h9
 ·exact h.cv.2 _ (.head _)
 ·exact g.on u h9⟩
instance {vs us:List Value} [h:On vs] [g:On us]:On (vs++us):=⟨fun u hu=>(List.mem_append.1 hu).elim (h.on u) (g.on u)⟩
instance {l:List UInt8}:On (bE l):=⟨iD l⟩
instance {α:Type} {K:α→List Value} {m:Nat} [h:CL K m] {t:List α}:On (t.flatMap K):=⟨fun u hu=>by
 obtain ⟨x,_,hx⟩:=List.mem_flatMap.1 hu
 exact h.one x u hx⟩
instance {vs:List Value} [h:On vs]:Cv (.agg vs.toArray) vs:=⟨rfl,h.on⟩
class Lv (g:Bool) (vs:List Value) (v:outParam Value):Prop where
 lv:(g=false∧vs= [v])∨(g=true∧v=vA vs)
instance {v:Value}:Lv false [v] v:=⟨.inl ⟨rfl,rfl⟩⟩
instance {vs:List Value}:Lv true vs (vA vs):=⟨.inr ⟨rfl,rfl⟩⟩
instance {c:UInt8}:Lv false (cB c) (vb c):=⟨.inl ⟨rfl,rfl⟩⟩
instance {c:UInt32}:Lv false (cW c) (vw c):=⟨.inl ⟨rfl,rfl⟩⟩
instance {c:UInt64}:Lv false (cQ c) (vq c):=⟨.inl ⟨rfl,rfl⟩⟩
instance {c:Nat}:Lv false (cI c) (vI c):=⟨.inl ⟨rfl,rfl⟩⟩
instance {c:Bool}:Lv false (cT c) (.bool c):=⟨.inl ⟨rfl,rfl⟩⟩
class Cm (op:BinOp) (a b:Int) (p:outParam Prop):Prop where
 cm:∀{P:Program} {G:Gc} {O:List It} {F:List Pt} {T:TypeId} {x y:Operand} {kk:IntKind} {C:Value→Pt},(p→Tr G O F (C (.bool true)))→(¬p→Tr G O F (C (.bool false)))→Tr G O F (Rv P (.bin op T x y (.int kk a) (.int kk b)) C)
instance {a b:Int}:Cm .lss a b (a<b):=⟨LP⟩
instance {a b:Int}:Cm .gtr a b (a>b):=⟨L3⟩
instance {a b:Int}:Cm .eql a b (a=b):=⟨Ln⟩
instance {a b:Int}:Cm .neq a b (¬a=b):=⟨fun h1 h2=>LV h1 (fun h=>h2 (fun g=>g h))⟩
class Nb (P:Program) (k:Ak) (cs:outParam (List Value)) (e:outParam TypeId) (r:outParam (Nat→Value)) (p:outParam Prop):Prop where
 nw:p→∀w,k.sem.run P w= .ok (r w.heap.size) (w.alloc (.cells cs.toArray e))
instance {P:Program} {T:TypeId} {cs:List Value} [h:Zc P T cs]:Nb P (.al T) cs T (fun b=>vP b 0) True:=⟨fun _=>h.al⟩
instance {P:Program} {T:TypeId} {v:Value} {vs:List Value} [h:Cv v vs]:Nb P (.bx T v) vs T (fun b=>vP b 0) True:=⟨fun _ w=>by
 simp only [Ak.sem,Instr.box,newVar,h.cv.1];rfl⟩
instance {P:Program} {α:Type} {K:α→List Value} {z:α} {T E m bys n c:Nat} {k1 k2:IntKind} {zn zc:Int} [h1:Ni zn n] [h2:Ni zc c] [h:Ix P T E m none] [hz:Zk P E α K z m bys] [hK:CL K m]:Nb P (.mks T (.int k1 zn) (.int k2 zc)) ((List.replicate c z).flatMap K) E (fun b=> .slice (some ⟨b,0,none⟩) n c) (n≤c∧bys*c≤281474976710656∧c≤9223372036854775807∧0<m):=⟨fun ⟨hn,hb,h63,hm⟩ w=>by
 cases h1.ni;cases h2.ni
 obtain ⟨v,hE,hv⟩:=hz.zk
 obtain ⟨i,hi,hz1,hz2,hz3⟩:=info_parts hE
 have hr:=run_make (P:=P) w T E i v h.ix hi hz1 k1 k2 n c (by omega) (by omega) (by rw [hz3];exact kK hb) (by omega)
 simp only [Int.toNat_natCast] at hr
 have hf:=pr (f:=K) (x:=z) hv (hK.len z) hm c
 rw [show (Ak.mks T (.int k1 (n:Int)) (.int k2 (c:Int))).sem.run P w=_ from hr,hz2,←hf]⟩
section
variable {P:Program} {O:List It} {F:List Pt} {T:TypeId} {x y:Operand} {i j:Int} {a b:Nat}
theorem pj {kk k2:IntKind} [hi:Ni i a] [hj:Ni j b] (hk:kk.signed=false:=by rfl) (hb:b<kk.bits:=by first |(show _<64;omega)|(show _<32;omega)) (h:a*2^b<2^kk.bits:=by first |(show _<18446744073709551616;omega)|(show _<4294967296;omega)):Yv P O F (Ak.bin .shl T x y (.int kk i) (.int k2 j)) (.int kk ((a*2^b:Nat):Int)):=aC fun w=>by
 cases hi.ni;cases hj.ni
 have e:(Ak.bin .shl T x y (.int kk (a:Int)) (.int k2 (b:Int))).sem.run P w=(if (b:Int)<0 then (runtimePanic (.error "negative shift amount"):Sem Value) else pure (.int kk (kk.wrap ((a:Int)*2^(min (b:Int).toNat kk.bits))))).run P w:=rfl
 rw [e,if_neg (by omega),Int.toNat_natCast,Nat.min_eq_left (by omega),zT hk,Nat.mod_eq_of_lt h];rfl
theorem xf {kk:IntKind} [hi:Ni i a] [hj:Ni j b] (hk:kk.signed=false:=by rfl) (h:a<2^kk.bits:=by first |(show _<18446744073709551616;omega)|(show _<4294967296;omega)) (h2:b<2^kk.bits:=by first |(show _<18446744073709551616;omega)|(show _<4294967296;omega)):Yv P O F (Ak.bin .or T x y (.int kk i) (.int kk j)) (.int kk ((a ||| b:Nat):Int)):=aC fun w=>by
 cases hi.ni;cases hj.ni
 have e:(Ak.bin .or T x y (.int kk (a:Int)) (.int kk (b:Int))).sem.run P w=Result.ok (Value.int kk (kk.wrap ((BitVec.ofInt kk.bits (a:Int)||| BitVec.ofInt kk.bits (b:Int)).toNat:Int))) w:=by cases kk<;>rfl
 rw [e,Kr kk hk h h2]
theorem pE {S:TypeId} {ks k1:IntKind} [gS:Ik P S ks] [gT:Ik P T k1] {c:UInt8} (hk:k1.signed=false:=by rfl) (hb:8≤k1.bits:=by decide):Yv P O F (Ak.cvt S T (vb c)) (.int k1 (c.toNat:Int)):=
 qp hk (Nat.lt_of_lt_of_le c.toNat_lt (Nat.pow_le_pow_right (by decide) hb))
theorem aS {G:Gc} {C:Pt} {α:Type} {K:α→List Value} {m:Nat} [hK:CL K m] {n c:Nat} {l:List α} {q:Option Addr} (k:Nat) (h:n=l.length→n≤c→c≤9223372036854775807→(0<n→0<m→∃b o,q=some ⟨b,o,none⟩)→Tr G O F C) (hF:F[k]? =some (Sl K q n c l):=by rfl):Tr G O F C:=⟨fun w hp=>by
 have hs:Sl K q n c l w:=hp.facts _ (List.mem_of_getElem? hF)
 have hle:=hs.2.le
 exact h hs.1 hle.1 (by simpa [maxLen] using hle.2) (fun h0 hm=>hs.2.addr (by rw [b8,←hs.1];exact Nat.mul_pos h0 hm)) w hp⟩
end
section
variable {P:Program} {G:Gc} {O O':List It} {F:List Pt} {C:Value→Pt} {D:Pt} {T:TypeId} {b A e m:Nat} {g:Bool} {v:Value} {vs cs cs':List Value} {p:Prop} {k:Ak}
theorem sL [hs:Sz P T m g] [hb:Ab O F b A vs p] [hv:Lv g vs v] (h:Tr G O F (C v)) (hp:p:=by (repeat' (first | exact True.intro | refine And.intro ?_ ?_))<;>first | omega |(simp only [List.length_append,List.length_take,List.length_drop,List.length_replicate,List.length_set,List.length_map,List.length_nil,List.length_cons];omega)|(simp;done)|(simp;omega))
  (hl:g=false∨vs.length=m:=by first | exact .inl rfl | exact .inr (CL.len _)| exact .inr rfl |(right;simp;done)|(right;simp;omega)):Tr G O F (Rl P T (.pointer (some ⟨b,A,none⟩)) C):=by
 rcases hv.lv with ⟨rfl,rfl⟩|⟨rfl,rfl⟩
 ·refine Kb (v:=v) ⟨fun w h1 h2=>EA (by simpa using hb.ab hp w h1 h2 0 v rfl) hs.ag⟩ h
 ·exact Kb ⟨fun w h1 h2=>kg (hb.ab hp w h1 h2) (by rw [hs.sz,hl.resolve_left (by simp)]) hs.ag⟩ h
theorem sS [hs:Sz P T m g] [hpb:Pb O b cs e O'] [hv:Cv v vs] [hu:Ub cs A vs cs' p] (k:Tr G (iB b cs' e::O') F D) (hp:p:=by (repeat' (first | exact True.intro | refine And.intro ?_ ?_))<;>first | omega |(simp only [List.length_append,List.length_take,List.length_drop,List.length_replicate,List.length_set,List.length_map,List.length_nil,List.length_cons];omega)|(simp;done)|(simp;omega))
  (hl:vs.length=m:=by first | exact CL.len _ | exact rfl |(simp;done)|(simp;omega)):Tr G O F (Ru P (.st T (.pointer (some ⟨b,A,none⟩)) v) D):=ID hpb.pb hv.cv.1 hl hv.cv.2 (hu.ub hp) k
theorem sN {r:Nat→Value} [hn:Nb P k cs e r p] (h:∀b,Tr G (iB b cs e::O) F (C (r b))) (hp:p:=by (repeat' (first | exact True.intro | refine And.intro ?_ ?_))<;>first | omega |(simp only [List.length_append,List.length_take,List.length_drop,List.length_replicate,List.length_set,List.length_map,List.length_nil,List.length_cons];omega)|(simp;done)|(simp;omega)):Tr G O F (Rv P k C):=JN cs e r (hn.nw hp) h
theorem sC {op:BinOp} {x y:Operand} {kk:IntKind} {i j:Int} [hc:Cm op i j p] (ht:p→Tr G O F (C (.bool true))) (hf:¬p→Tr G O F (C (.bool false))):Tr G O F (Rv P (.bin op T x y (.int kk i) (.int kk j)) C):=hc.cm ht hf
theorem aA {f:FuncId} {args:List Value} {X:Type} {q:X→Prop} {r:X→Value} {Oo:X→List It} {Fo:X→List Pt} {Fi:List Pt} (hs:Zp P f args [] Fi X q r Oo Fo) (h:∀x,q x→Tr G (Oo x++O) F (C (r x)))
  (hF:∀g∈Fi,En O F g:=by (repeat' (first | exact oK | refine Dv ?_ ?_))<;>first | exact Ef.ef | exact Gq.gq | exact Lb.lb (by (repeat' (first | exact True.intro | refine And.intro ?_ ?_))<;>first | omega |(simp only [List.length_append,List.length_take,List.length_drop,List.length_replicate,List.length_set,List.length_map,List.length_nil,List.length_cons];omega)|(simp;done)|(simp;omega))| exact Pb2.pb (by (repeat' (first | exact True.intro | refine And.intro ?_ ?_))<;>first | omega |(simp only [List.length_append,List.length_take,List.length_drop,List.length_replicate,List.length_set,List.length_map,List.length_nil,List.length_cons];omega)|(simp;done)|(simp;omega))):Tr G O F (Cal P (.func (.func f) #[] #[]) args C):=E0 hs hF h (by simp)
theorem sK {f:FuncId} {first cap:Array Value} {args as:List Value} {X:Type} {q:X→Prop} {r:X→Value} {Oo:X→List It} {Fo:X→List Pt} {Fi:List Pt} (hs:Zp P f as [] Fi X q r Oo Fo) (h:∀x,q x→Tr G (Oo x++O) F (C (r x))) (ha:first.toList++args++cap.toList=as:=by rfl)
  (hF:∀g∈Fi,En O F g:=by (repeat' (first | exact oK | refine Dv ?_ ?_))<;>first | exact Ef.ef | exact Gq.gq | exact Lb.lb (by (repeat' (first | exact True.intro | refine And.intro ?_ ?_))<;>first | omega |(simp only [List.length_append,List.length_take,List.length_drop,List.length_replicate,List.length_set,List.length_map,List.length_nil,List.length_cons];omega)|(simp;done)|(simp;omega))| exact Pb2.pb (by (repeat' (first | exact True.intro | refine And.intro ?_ ?_))<;>first | omega |(simp only [List.length_append,List.length_take,List.length_drop,List.length_replicate,List.length_set,List.length_map,List.length_nil,List.length_cons];omega)|(simp;done)|(simp;omega))):Tr G O F (Cal P (.func (.func f) first cap) args C):=E0 hs hF h ha
end
end Go.Cz
namespace Go.Cz
open Go Go.RowKit Go.Cs
def ic (o:Oper):Bool:=match o.op with
 | .move _ | .assign _ | .pick _ _ _ | .load _ _ | .binOp _ _ _ _ _ | .unOp _ _ _ | .convert _ _ _ | .sliceToArrayPointer _ _ | .makeInterface _ _ | .makeFunc _ _ _ | .slice _ _ _ _ _ | .fieldAddr _ _ _ | .field _ _ _
 | .indexAddr _ _ _ | .index _ _ _ | .extract _ _ | .build _ _ | .nilCheck _=>true
 | .call c=>match c.callee with
  | .builtin .len | .builtin .cap | .builtin .min | .builtin .max=>true
  | _=>false
 | _=>false
def q6 (dn:List Nat):List Edge→Bool
 | []=>true
 | e::r=>match e.ground with
  | .textOnly _ | .gcOnly _=>q6 dn r
  | _=>bif bmem e.on dn then q6 dn r else false
inductive Dc where
 | tk (i:Nat) (o:Oper)
 | ex (l:List (Nat×Oper))
def yE (dn:List Nat):Nat→List Oper→List (Nat×Oper)→Dc
 | _, [],acc=> .ex acc.reverse
 | i,o::r,acc=>bif bmem i dn then yE dn (i+1) r acc else bif q6 dn o.after.toList then (bif ic o then .tk i o else yE dn (i+1) r ((i,o)::acc)) else yE dn (i+1) r acc
structure Dt (P:Program) (ops:Array Oper) (Cc:Pt) (m i:Nat) (D:(Value→Pt)→Pt) (C:Value→Pt) (w:World):Prop where
 go:gu (bw ops) m i=true∧∃v,(∀w',Cc w'→D (fun u w''=>u=v∧w'=w'') w')∧C v w
structure Dp (P:Program) (ops:Array Oper) (m i:Nat) (D:(Value→Pt)→Pt) (C:Value→Pt) (w:World):Prop where
 go:gu (bw ops) m i=true∧∃v,(∀w',D (fun u w''=>u=v∧w'=w'') w')∧C v w
def r5 (dn:List Nat):Nat→List Oper→Bool
 | _, []=>true
 | k,o::r=>(bmem k dn || !xR o)&&r5 dn (k+1) r
def Gy (ops:Array Oper) (dn:List Nat):Bool:=r5 dn 0 ops.toList
theorem n4 {dn:List Nat}:∀{l:List Oper} {k:Nat},r5 dn k l=true→∀i o,l[i]? =some o→bmem (k+i) dn=false→xR o=false
 | [],k,h,i,o,ho,_=>by simp at ho
 | q::l,k,h,i,o,ho,hb=>by
  simp only [r5,Bool.and_eq_true] at h
  cases i with
  | zero=>
   simp only [List.getElem?_cons_zero,Option.some.injEq] at ho
   subst ho
   have h1:=h.1
   rw [Nat.add_zero] at hb
   rw [hb] at h1
   simpa using h1
  | succ i=>
   simp only [List.getElem?_cons_succ] at ho
   exact n4 h.2 i o ho (by rw [show k+1+i=k+(i+1) by omega];exact hb)
theorem nP {dn:List Nat} {j:Nat}:∀{l:List Oper} {k:Nat},r5 dn k l=true→r5 (j::dn) k l=true
 | [],k,h=>rfl
 | q::l,k,h=>by
  simp only [r5,Bool.and_eq_true] at h⊢
  refine ⟨?_,nP h.2⟩
  have h1:=h.1
  have:bmem k (j::dn)=true∨bmem k (j::dn)=bmem k dn:=by
   simp only [bmem]
   cases Nat.beq j k with
   | true=>exact .inl rfl
   | false=>exact .inr rfl
  rcases this with h2 | h2
  ·rw [h2];rfl
  ·rw [h2];exact h1
structure D1 (ops:Array Oper) (N m i:Nat) (C:Pt) (w:World):Prop where
 go:Region.ready .any ops (lm N m)= [i]∧C w
structure D2 (ops:Array Oper) (N m i j:Nat) (C D:Pt) (w:World):Prop where
 go:Region.ready .any ops (lm N m)= [i,j]∧C w∧D w
structure D3 (ops:Array Oper) (N m i j l:Nat) (C D E:Pt) (w:World):Prop where
 go:Region.ready .any ops (lm N m)= [i,j,l]∧C w∧D w∧E w
structure Dx (Cc:Pt) (ops:Array Oper) (i:Nat) (dn:List Nat) (D:Pt) (w:World):Prop where
 go:((iu ops i=true∧Gy ops dn=true)∨Cc w)∧D w
structure D0 (ops:Array Oper) (N m:Nat) (D:Pt) (w:World):Prop where
 go:Region.ready .any ops (lm N m)= []∧D w
def kl (P:Program) (n:Nat) (ops:Array Oper) (o:Oper) (σ:Fm) (D:Fm→Pt):Pt:=gd ops n σ o (B8 P n o σ (fun v=>pD D σ v o.dst)) (pD D σ undef o.dst)
def Ge (P:Program) (n:Nat) (ops:Array Oper) (o:Oper) (σ:Fm) (C:Value→Pt):Pt:=gd ops n σ o (B8 P n o σ C) (C undef)
def uE (P:Program) (n:Nat) (ops:Array Oper) (Cc:Pt) (N:Nat) (K:Fm→Pt):Nat→List Nat→Nat→Fm→Pt
 | 0,_,m,σ=>D0 ops N m (K σ)
 | f+1,dn,m,σ=>match yE dn 0 ops.toList [] with
  | .tk i o=>bif xR o then Dt P ops Cc m i (fun C=>Ge P n ops o σ C) (fun v=>pD (fun σ'=>uE P n ops Cc N K f (i::dn) (m ||| 2^i) σ') σ v o.dst) else Dp P ops m i (fun C=>Ge P n ops o σ C) (fun v=>pD (fun σ'=>uE P n ops Cc N K f (i::dn) (m ||| 2^i) σ') σ v o.dst)
  | .ex [(i,o)]=>D1 ops N m i (kl P n ops o σ (fun σ'=>Dx Cc ops i (i::dn) (uE P n ops Cc N K f (i::dn) (m ||| 2^i) σ')))
  | .ex [(i,o),(j,q)]=>D2 ops N m i j (kl P n ops o σ (fun σ'=>Dx Cc ops i (i::dn) (uE P n ops Cc N K f (i::dn) (m ||| 2^i) σ'))) (kl P n ops q σ (fun σ'=>Dx Cc ops j (j::dn) (uE P n ops Cc N K f (j::dn) (m ||| 2^j) σ')))
  | .ex [(i,o),(j,q),(l,p)]=>D3 ops N m i j l (kl P n ops o σ (fun σ'=>Dx Cc ops i (i::dn) (uE P n ops Cc N K f (i::dn) (m ||| 2^i) σ'))) (kl P n ops q σ (fun σ'=>Dx Cc ops j (j::dn) (uE P n ops Cc N K f (j::dn) (m ||| 2^j) σ')))
    (kl P n ops p σ (fun σ'=>Dx Cc ops l (l::dn) (uE P n ops Cc N K f (l::dn) (m ||| 2^l) σ')))
  | _=>Nev 8
theorem o4 {ops:Array Oper} {dn:List Nat}:∀(l:List Oper) (i:Nat) (acc:List (Nat×Oper)),ops.toList.drop i=l→(∀p∈acc,ops[p.1]? =some p.2)→
  match yE dn i l acc with
  | .tk j o=>ops[j]? =some o
  | .ex ps=>∀p∈ps,ops[p.1]? =some p.2
 | [],i,acc,hl,ha=>by simp only [yE];intro p hp;exact ha p (List.mem_reverse.1 hp)
 | o::r,i,acc,hl,ha=>by
  have ho:ops[i]? =some o:=by
   have:ops.toList[i]? =some o:=by
    have h1:=congrArg (·[0]?) hl
    simpa using h1
   simpa using this
  have hl':ops.toList.drop (i+1)=r:=by
   have h1:=congrArg List.tail hl
   simpa using h1
  simp only [yE]
  cases bmem i dn with
  | true=>exact o4 r (i+1) acc hl' ha
  | false=>
   cases q6 dn o.after.toList with
   | false=>exact o4 r (i+1) acc hl' ha
   | true=>
    cases ic o with
    | true=>exact ho
    | false=>
     refine o4 r (i+1) _ hl' ?_
     intro p hp
     rcases List.mem_cons.1 hp with rfl | h9
     ·exact ho
     ·exact ha p h9
theorem bT {P:Program} {s:Sem Value} {w:World} {C:Value→Pt} (h:gV P C ((vS s).run P w)):∃v w',(vS s).run P w= .ok (.value v) w'∧C v w':=by
 cases hr:s.run P w with
 | ok v w'=>rw [tj hr] at h⊢;exact ⟨v,w',rfl,h⟩
 | halt x w'=>
  have:(vS s).run P w= .halt x w':=by simp [vS,Sem.run_bind,hr,Result.andThen]
  rw [this] at h;exact h.elim
theorem AR {P:Program} {o:Oper} (hp:ic o=true) {n:Nat} {σ τ:Fm} (hk:Kn σ τ) {w:World} {C:Value→Pt} (hE:B8 P n o σ C w):∃v w',(execOp (ev n τ) o).run P w= .ok (.value v) w'∧C v w':=by
 have h:=BM hk hE
 unfold ic at hp
 unfold B8 at hE
 unfold execOp at h⊢
 cases ho:o.op with
 | move x=>simp only [ho] at h⊢;exact ⟨ev n τ x,w,rfl,h⟩
 | assign x=>simp only [ho] at h⊢;exact ⟨ev n τ x,w,rfl,h⟩
 | pick c a b=>
  simp only [ho] at h hE⊢
  have h1:xV C (ev n τ a) (ev n τ b) (ev n τ c) w:=aQ hk (C:=fun vb=>xV C (ev n τ a) vb (ev n τ c)) (aQ hk (C:=fun va=>cV n σ (fun vb=>xV C va vb (ev n τ c)) b) (aQ hk (C:=fun vc=>cV n σ (fun va=>cV n σ (fun vb=>xV C va vb vc) b) a) hE))
  cases hv:ev n τ c with
  | bool b'=>
   rw [hv] at h1
   cases b' with
   | true=>exact ⟨ev n τ a,w,by simp [asBool],by simpa [xV] using h1⟩
   | false=>exact ⟨ev n τ b,w,by simp [asBool],by simpa [xV] using h1⟩
  | _=>rw [hv] at h1;exact h1.go.elim
 | nilCheck x=>
  simp only [ho] at hE⊢
  obtain ⟨a,h1,h2⟩:=(aQ hk (C:=fun vx=>Nck P vx C) hE).go
  rw [h1] at h2⊢;exact ⟨_,w,rfl,h2⟩
 | call c=>
  simp only [ho] at h hp⊢
  cases hc:c.callee with
  | builtin b=>
   simp only [hc] at hp
   simp only [resolve,hc] at h⊢
   cases b<;>first |(cases hp;done)| exact bT h
  | _=>simp [hc] at hp
 | load t a=>simp only [ho] at h⊢;exact bT h
 | binOp op t x y z=>simp only [ho] at h⊢;exact bT h
 | unOp op t x=>simp only [ho] at h⊢;exact bT h
 | convert s d x=>simp only [ho] at h⊢;exact bT h
 | sliceToArrayPointer t x=>simp only [ho] at h⊢;exact bT h
 | makeInterface t x=>simp only [ho] at h⊢;exact bT h
 | makeFunc f a b=>simp only [ho] at h⊢;exact bT h
 | slice t x l hh m=>simp only [ho] at h⊢;exact bT h
 | fieldAddr t x i=>simp only [ho] at h⊢;exact bT h
 | field t x i=>simp only [ho] at h⊢;exact bT h
 | indexAddr t x i=>simp only [ho] at h⊢;exact bT h
 | index t x i=>simp only [ho] at h⊢;exact bT h
 | extract x i=>simp only [ho] at h⊢;exact bT h
 | build t ps=>simp only [ho] at h⊢;exact bT h
 | _=>simp [ho] at hp
section
variable {P:Program} {n:Nat} {ro:Option Nat} {ds:List Deferred} {ops:Array Oper} {Cc:Pt} {N:Nat} {K:Fm→Pt} {Q:Exit→Act→World→Prop}
theorem tZ {o:Oper} {σ τ:Fm} {w:World} {v:Value} (hp:ic o=true) (hk:Kn σ τ) (hCc:∀w',Cc w'→Ge P n ops o σ (fun u w''=>u=v∧w'=w'') w') {i:Nat} (hi:ops[i]? =some o) (hw:Cc w):yld P ops Cc n τ i o.dst v:=by
 refine ⟨o,hi,rfl, ?_⟩
 rcases AX hk (hCc w hw) with ⟨h1,_⟩|⟨h1,h2⟩
 ·refine .inl ⟨h1,fun w' hw'=> ?_⟩
  rcases AX hk (hCc w' hw') with ⟨_,h3⟩|⟨h3,_⟩
  ·obtain ⟨u,w'',h4,h5,h6⟩:=AR hp hk h3
   rw [h4];exact ⟨h6.symm,h5⟩
  ·rw [h1] at h3;cases h3
 ·exact .inr ⟨h1,h2.1.symm⟩
theorem jv {dn:List Nat} {j:Nat} {o:Oper}:∀(l:List Oper) (i:Nat) (acc:List (Nat×Oper)),yE dn i l acc= .tk j o→ic o=true
 | [],i,acc,h=>by cases h
 | q::r,i,acc,h=>by
  simp only [yE] at h
  cases h1:bmem i dn with
  | true=>rw [h1] at h;exact jv r _ _ h
  | false=>
   rw [h1] at h
   cases h2:q6 dn q.after.toList with
   | false=>rw [h2] at h;exact jv r _ _ h
   | true=>
    rw [h2] at h
    cases h3:ic q with
    | true=>simp only [h3,cond_true,cond_false,Dc.tk.injEq] at h;obtain ⟨_,rfl⟩:=h;exact h3
    | false=>simp only [h3,cond_true,cond_false] at h;exact jv r _ _ h
theorem AM {o:Oper} {σ τ:Fm} {i:Nat} {D:Fm→Pt} {w:World} (hk:Kn σ τ) (hi:ops[i]? =some o) (h:kl P n ops o σ D w):gw P ops n i τ w (fun τ' w'=>∃σ',Kn σ' τ'∧D σ' w'):=uU hk hi h
theorem pF {dn:List Nat} {j:Nat} {o:Oper}:∀(l:List Oper) (i:Nat) (acc:List (Nat×Oper)),yE dn i l acc= .tk j o→bmem j dn=false
 | [],i,acc,h=>by cases h
 | q::r,i,acc,h=>by
  simp only [yE] at h
  cases h1:bmem i dn with
  | true=>rw [h1] at h;exact pF r _ _ h
  | false=>
   rw [h1] at h
   cases h2:q6 dn q.after.toList with
   | false=>rw [h2] at h;exact pF r _ _ h
   | true=>
    rw [h2] at h
    cases h3:ic q with
    | true=>simp only [h3,cond_true,cond_false,Dc.tk.injEq] at h;obtain ⟨rfl,_⟩:=h;exact h1
    | false=>simp only [h3,cond_true,cond_false] at h;exact pF r _ _ h
theorem jS [hq:NoPan Q] (hR:RT ops (bw ops) N) (hK:∀σ τ w,Kn σ τ→K σ w→Q .normal (Fr ds n τ) w):∀(f:Nat) (dn:List Nat) (m:Nat) (σ τ:Fm) (w:World),Kn σ τ→(Cc w∨Gy ops dn=true)→uE P n ops Cc N K f dn m σ w→kR (ro:=ro) (ds:=ds) P ops Q Cc n N f m τ w
 | 0,dn,m,σ,τ,w,hk,hc,h=>by
  obtain ⟨h1,h2⟩:=h.go
  exact oA (hK σ τ w hk h2) h1
 | f+1,dn,m,σ,τ,w,hk,hc,h=>by
  have hx:=o4 (ops:=ops) (dn:=dn) ops.toList 0 [] rfl (fun p hp=>by cases hp)
  have step:∀(i:Nat) (o:Oper),ops[i]? =some o→kl P n ops o σ (fun σ'=>Dx Cc ops i (i::dn) (uE P n ops Cc N K f (i::dn) (m ||| 2^i) σ')) w→
    gw P ops n i τ w (fun τ' w'=>(Cc w→iu ops i=true∨Cc w')∧kR (ro:=ro) (ds:=ds) P ops Q Cc n N f (m ||| 2^i) τ' w'):=by
   intro i o hi h9
   refine jU (AM hk hi h9) ?_
   rintro τ' w' ⟨σ',hk',hd⟩
   obtain ⟨h1,h2⟩:=hd.go
   rcases h1 with ⟨h3,h4⟩| h3
   ·exact ⟨fun _=> .inl h3,jS hR hK f _ _ σ' τ' w' hk' (.inr h4) h2⟩
   ·exact ⟨fun _=> .inr h3,jS hR hK f _ _ σ' τ' w' hk' (.inl h3) h2⟩
  unfold uE at h
  cases hn:yE dn 0 ops.toList [] with
  | tk i o=>
   rw [hn] at hx
   simp only [hn] at h
   have hpu:=jv _ _ _ hn
   cases hrd:xR o with
   | true=>
    simp only [hrd,cond_true] at h
    obtain ⟨h1,v,h2,h3⟩:=h.go
    have hcw:Cc w:=by
     rcases hc with hc | hc
     ·exact hc
     ·have:=n4 hc i o (by simpa using hx) (by rw [Nat.zero_add];exact pF _ _ _ hn)
      rw [hrd] at this;cases this
    have hy:=tZ hpu hk h2 hx hcw
    obtain ⟨σ',hk',h4⟩:=gZ hk h3
    exact jZ hR i _ hx v (.inl ⟨hrd,rfl⟩) (.inl hcw) hy (jS hR hK f _ _ σ' _ w hk' (.inl hcw) h4) h1 rfl
   | false=>
    simp only [hrd,cond_false] at h
    obtain ⟨h1,v,h2,h3⟩:=h.go
    have hy:=tZ (Cc:=fun _=>True) hpu hk (fun w' _=>h2 w') hx (w:=w) trivial
    obtain ⟨σ',hk',h4⟩:=gZ hk h3
    exact jZ hR i _ hx v (.inr fun _=>trivial) (.inr fun _=>trivial) hy (jS hR hK f _ _ σ' _ w hk' (hc.imp id fun h=>nP h) h4) h1 rfl
  | ex l=>
   rw [hn] at hx
   simp only [hn] at h
   match l,hx,h with
   | [(i,o)],hx,h=>
    obtain ⟨h1,h2⟩:=h.go
    refine iV [i] h1 (by simp) (fun k hk=> ?_)
    simp only [List.mem_cons,List.not_mem_nil,or_false] at hk
    subst hk
    exact step _ o (hx _ (.head _)) h2
   | [(i,o),(j,q)],hx,h=>
    obtain ⟨h1,h2,h3⟩:=h.go
    refine iV [i,j] h1 (by simp) (fun k hk=> ?_)
    simp only [List.mem_cons,List.not_mem_nil,or_false] at hk
    rcases hk with rfl | rfl
    ·exact step _ o (hx _ (.head _)) h2
    ·exact step _ q (hx _ (.tail _ (.head _))) h3
   | [(i,o),(j,q),(l,p)],hx,h=>
    obtain ⟨h1,h2,h3,h4⟩:=h.go
    refine iV [i,j,l] h1 (by simp) (fun k hk=> ?_)
    simp only [List.mem_cons,List.not_mem_nil,or_false] at hk
    rcases hk with rfl | rfl | rfl
    ·exact step _ o (hx _ (.head _)) h2
    ·exact step _ q (hx _ (.tail _ (.head _))) h3
    ·exact step _ p (hx _ (.tail _ (.tail _ (.head _)))) h4
   | [],hx,h=>exact h.go.elim
   | _::_::_::_::_,hx,h=>exact h.go.elim
end
section
variable {P:Program} {G:Gc} {O:List It} {F:List Pt} {n N id:Nat} {ro:Option Nat} {ds:List Deferred} {σ:Fm} {ops:Array Oper} {K:Kt} {m i j l:Nat}
theorem Hp.drew {w:World} (hp:Hp G O F w):Hp G O F w.drew:=by
 have:=Hp.step (L:= []) (L':= []) (F':= []) (w':=w.drew) (by simpa using hp) ((Ext.drew w).mono fun k _ hk=>hk.elim) (by simp) (by simp) (by simp) (fun f hf=>by cases hf)
 simpa using this
def uj:List Oper→Nat→Option Nat
 | [],n=>some n
 | _::r,n=>uj r (n+1)
structure ED (P:Program) (n:Nat) (ops:Array Oper) (Cc:Pt) (N:Nat) (K:Fm→Pt) (f:Nat) (dn:List Nat) (m:Nat) (σ:Fm) (w:World):Prop where
 go:uE P n ops Cc N K f dn m σ w
theorem Ep {Cc:Pt} {L:Fm→Pt} {f m:Nat} {dn:List Nat}:ED P n ops Cc N L f dn m σ=uE P n ops Cc N L f dn m σ:=funext fun w=>propext ⟨ED.go,ED.mk⟩
theorem dw {Cc:Pt} {L:Fm→Pt} {dn:List Nat} (h:Tr G O F (D0 ops N m (L σ))):Tr G O F (ED P n ops Cc N L 0 dn m σ):=by rw [Ep];exact h
theorem fh {Cc:Pt} {L:Fm→Pt} {f:Nat} {dn:List Nat} (h:Tr G O F (match yE dn 0 ops.toList [] with
  | .tk i o=>bif xR o then Dt P ops Cc m i (fun C=>Ge P n ops o σ C) (fun v=>pD (fun σ'=>ED P n ops Cc N L f (i::dn) (m ||| 2^i) σ') σ v o.dst) else Dp P ops m i (fun C=>Ge P n ops o σ C) (fun v=>pD (fun σ'=>ED P n ops Cc N L f (i::dn) (m ||| 2^i) σ') σ v o.dst)
  | .ex [(i,o)]=>D1 ops N m i (kl P n ops o σ (fun σ'=>Dx Cc ops i (i::dn) (ED P n ops Cc N L f (i::dn) (m ||| 2^i) σ')))
  | .ex [(i,o),(j,q)]=>D2 ops N m i j (kl P n ops o σ (fun σ'=>Dx Cc ops i (i::dn) (ED P n ops Cc N L f (i::dn) (m ||| 2^i) σ'))) (kl P n ops q σ (fun σ'=>Dx Cc ops j (j::dn) (ED P n ops Cc N L f (j::dn) (m ||| 2^j) σ')))
  | .ex [(i,o),(j,q),(l,p)]=>D3 ops N m i j l (kl P n ops o σ (fun σ'=>Dx Cc ops i (i::dn) (ED P n ops Cc N L f (i::dn) (m ||| 2^i) σ'))) (kl P n ops q σ (fun σ'=>Dx Cc ops j (j::dn) (ED P n ops Cc N L f (j::dn) (m ||| 2^j) σ')))
    (kl P n ops p σ (fun σ'=>Dx Cc ops l (l::dn) (ED P n ops Cc N L f (l::dn) (m ||| 2^l) σ')))
  | _=>Nev 8)):Tr G O F (ED P n ops Cc N L (f+1) dn m σ):=by
 simp only [Ep] at h⊢
 unfold uE
 exact h
theorem FP (hN:uj ops.toList 0=some N) (k:Tr G O F (ED P n ops (Hp G O F) N (K .nm ds) N [] 0 σ)) (hm:P.follows .mixedOrders=true:=by kernel_rfl) (hT:CT ops (bw ops) N=true:=by kernel_rfl):Tr G O F (Dw P ro n id ops ds σ K):=by
 refine ⟨fun w hp=> ?_⟩
 refine ⟨fun τ hk=>ke (Hp G O F) N (bw ops) (fun hR=> ?_) hm hT⟩
 exact jS hR (fun σ τ w hk h=>⟨ds,σ,τ,rfl,hk,h⟩) N [] 0 σ τ _ hk (.inl hp.drew) (k _ hp.drew).go
theorem gM (O0:List It) (F0:List Pt) (hw:Wk O O0) (hf:∀g∈F0,g∈F) (hN:uj ops.toList 0=some N) (k:Tr G O F (ED P n ops (Hp G O0 F0) N (K .nm ds) N [] 0 σ)) (hm:P.follows .mixedOrders=true:=by kernel_rfl) (hT:CT ops (bw ops) N=true:=by kernel_rfl):Tr G O F (Dw P ro n id ops ds σ K):=by
 refine ⟨fun w hp=> ?_⟩
 refine ⟨fun τ hk=>ke (Hp G O0 F0) N (bw ops) (fun hR=> ?_) hm hT⟩
 exact jS hR (fun σ τ w hk h=>⟨ds,σ,τ,rfl,hk,h⟩) N [] 0 σ τ _ hk (.inl (hp.drew.wk hw hf)) (k _ hp.drew).go
def Tk (O:List It) (F:List Pt) (D:(Value→Pt)→Pt) (v:Value):Prop:=∀w,(∀o∈O,o.A w)→(∀f∈F,f w)→D (fun u w''=>u=v∧w=w'') w
theorem zq {k:Ak} {v:Value} (h:Yv P O F k v):Tk O F (fun C=>Rv P k C) v:=fun w h1 h2=>⟨v,w,h.go w h1 h2,rfl,rfl⟩
theorem I2 {T:TypeId} {a v:Value} (h:Yv P O F (.ld T a) v):Tk O F (fun C=>Rl P T a C) v:=fun w h1 h2=>⟨v,h.go w h1 h2,rfl,rfl⟩
theorem Lw {a:Addr}:Tk O F (fun C=>Nck P (.pointer (some a)) C) (.pointer (some a)):=fun w h1 h2=>⟨a,rfl,rfl,rfl⟩
theorem IF {v:Value}:Tk O F (fun C=>C v) v:=fun w h1 h2=>⟨rfl,rfl⟩
theorem AS {O0:List It} {F0:List Pt} {G0:Gc} {D:(Value→Pt)→Pt} {C:Value→Pt} {v:Value} (k:Tr G O F (C v)) (hv:Tk O0 F0 D v) (hc:gu (bw ops) m i=true:=by kernel_rfl):Tr G O F (Dt P ops (Hp G0 O0 F0) m i D C):=
 ⟨fun w hp=>⟨hc,v,fun w' hp'=>hv w' hp'.own hp'.facts,k w hp⟩⟩
theorem mc {O0:List It} {F0:List Pt} {G0:Gc} {C:Value→Pt} {T b A q:Nat} {g:Bool} {vs:List Value} {v:Value} {p:Prop} [hs:Sz P T q g] [hb:Ab O0 F0 b A vs p] [hv:Lv g vs v] (h:Tr G O F (C v)) (hp:p:=by (repeat' (first | exact True.intro | refine And.intro ?_ ?_))<;>first | omega |(simp only [List.length_append,List.length_take,List.length_drop,List.length_replicate,List.length_set,List.length_map,List.length_nil,List.length_cons];omega)|(simp;done)|(simp;omega))
  (hl:g=false∨vs.length=q:=by first | exact .inl rfl | exact .inr (CL.len _)| exact .inr rfl |(right;simp;done)|(right;simp;omega)) (hc:gu (bw ops) m i=true:=by kernel_rfl):Tr G O F (Dt P ops (Hp G0 O0 F0) m i (fun C=>Rl P T (.pointer (some ⟨b,A,none⟩)) C) C):=by
 refine AS h (I2 ?_) hc
 rcases hv.lv with ⟨rfl,rfl⟩|⟨rfl,rfl⟩
 ·exact ⟨fun w h1 h2=>EA (by simpa using hb.ab hp w h1 h2 0 v rfl) hs.ag⟩
 ·exact ⟨fun w h1 h2=>kg (hb.ab hp w h1 h2) (by rw [hs.sz,hl.resolve_left (by simp)]) hs.ag⟩
theorem m8 {O0:List It} {F0:List Pt} {G0:Gc} {C:Value→Pt} {v:Value} (h:Tr G O F (C v)) (hc:gu (bw ops) m i=true:=by kernel_rfl):Tr G O F (Dt P ops (Hp G0 O0 F0) m i (fun C=>C v) C):=AS h IF hc
theorem zH {D:(Value→Pt)→Pt} {C:Value→Pt} {v:Value} (k:Tr G O F (C v)) (hv:Tk [] [] D v) (hc:gu (bw ops) m i=true:=by kernel_rfl):Tr G O F (Dp P ops m i D C):=
 ⟨fun w hp=>⟨hc,v,fun w'=>hv w' (fun o h=>by cases h) (fun o h=>by cases h),k w hp⟩⟩
theorem m7 {C:Value→Pt} {a:Addr} (h:Tr G O F (C (.pointer (some a)))) (hc:gu (bw ops) m i=true:=by kernel_rfl):Tr G O F (Dp P ops m i (fun C=>Nck P (.pointer (some a)) C) C):=zH h Lw hc
theorem nc {C:Value→Pt} {v:Value} (h:Tr G O F (C v)) (hc:gu (bw ops) m i=true:=by kernel_rfl):Tr G O F (Dp P ops m i (fun C=>C v) C):=zH h IF hc
theorem fi {D:Pt} (k:Tr G O F D) (hr:Region.ready .any ops (lm N m)= []:=by kernel_rfl):Tr G O F (D0 ops N m D):=⟨fun w hp=>⟨hr,k w hp⟩⟩
theorem fN {D:Pt} (k:Tr G O F D) (hr:Region.ready .any ops (lm N m)= [i]:=by kernel_rfl):Tr G O F (D1 ops N m i D):=⟨fun w hp=>⟨hr,k w hp⟩⟩
theorem af {D E:Pt} (k:Tr G O F D) (k2:Tr G O F E) (hr:Region.ready .any ops (lm N m)= [i,j]:=by kernel_rfl):Tr G O F (D2 ops N m i j D E):=⟨fun w hp=>⟨hr,k w hp,k2 w hp⟩⟩
theorem ah {D E H:Pt} (k:Tr G O F D) (k2:Tr G O F E) (k3:Tr G O F H) (hr:Region.ready .any ops (lm N m)= [i,j,l]:=by kernel_rfl):Tr G O F (D3 ops N m i j l D E H):=⟨fun w hp=>⟨hr,k w hp,k2 w hp,k3 w hp⟩⟩
theorem du {Cc D:Pt} {dn:List Nat} (k:Tr G O F D) (h:(iu ops i&&Gy ops dn)=true:=by rfl):Tr G O F (Dx Cc ops i dn D):=⟨fun w hp=>⟨.inl (by simpa using h),k w hp⟩⟩
theorem fu {O0:List It} {F0:List Pt} {D:Pt} {dn:List Nat} (k:Tr G O F D) (hw:Wk O O0) (hf:∀g∈F0,g∈F):Tr G O F (Dx (Hp G O0 F0) ops i dn D):=⟨fun w hp=>⟨.inr (hp.wk hw hf),k w hp⟩⟩
end
end Go.Cz
namespace Go.Cz
open Go Go.RowKit Go.Cs
def iL (D l n:Nat) (σ:Fm) (ps:Array Tmp) (assign body:Code) (st:LoopState) (pe:Option Code):It:=
 ⟨[D,l],fun w=>(∃(τ:Fm) (fn:FuncId),Kn σ τ∧w.heap[l]? =some (.loop {state:=st,pending:=pe,fn,tmps:=(Fr [] n τ).tmps,params:=ps,assign,body,defers:=D}))∧w.heap[D]? =some (.deferred (some [])),fun w w' hk h=>by
  obtain ⟨⟨τ,fn,h1,h2⟩,h3⟩:=h
  exact ⟨⟨τ,fn,h1,by rw [hk l (by simp)];exact h2⟩,by rw [hk D (by simp)];exact h3⟩⟩
def iM (D:Nat):It:=⟨[D],fun w=>w.heap[D]? =some (.deferred (some [])),fun w w' hk h=>by rw [hk D (by simp)];exact h⟩
def Hg (n:Nat) (σ:Fm):Operand→Option Value
 | .tmp t=>bif Nat.blt t n then lo σ t else none
 | .const v=>some v
 | .global g=>some (.pointer (some ⟨g,0,none⟩))
 | .func f=>some (.func (.func f) #[] #[])
theorem Gg {n:Nat} {σ τ:Fm} (hk:Kn σ τ) {x:Operand} {v:Value} (h:Hg n σ x=some v):ev n τ x=v:=by
 cases x with
 | tmp t=>
  simp only [Hg,ev] at*
  cases hb:Nat.blt t n with
  | true=>simp only [hb,cond_true] at h⊢;exact hk t v h
  | false=>simp [hb] at h
 | const u=>simpa [Hg,ev] using h
 | global g=>simpa [Hg,ev] using h
 | func f=>simpa [Hg,ev] using h
structure Af (P:Program) (n D l:Nat) (ds:List Deferred) (σ:Fm) (K:Kt) (w:World):Prop where
 go:∀τ,Kn σ τ→∃jump w4,(Instr.endLoop l).run P w= .ok jump w4∧(match jump with | none=>KQ n K .normal (Fr ({target:= .collected D,args:= #[]}::ds) n τ) w4 | some c=>c.wpIn (fen none) 0 P (KQ n K) (Fr ({target:= .collected D,args:= #[]}::ds) n τ) w4)
structure Bg (P:Program) (l:Nat) (C:Pt) (w:World):Prop where
 go:∃w2,(Instr.beginRound l).run P w= .ok () w2∧C w2
structure Er (P:Program) (l:Nat) (j:Option Code) (C:Value→Pt) (w:World):Prop where
 go:∃v w',(Instr.endRound l j).run P w= .ok v w'∧C v w'
def G3 (C:Fm→Pt):List Tmp→List Value→Fm→Pt
 | p::ps,v::vs,σ=>G3 C ps vs ((p,v)::σ)
 | _,_,σ=>C σ
theorem wV {C:Fm→Pt} {w:World}:∀{ps:List Tmp} {vs:List Value} {σ τ:Fm},Kn σ τ→G3 C ps vs σ w→∃σ',C σ' w∧Kn σ' (gX ps vs τ)
 | [],vs,σ,τ,hk,h=>⟨σ,h,hk⟩
 | p::ps, [],σ,τ,hk,h=>⟨σ,h,hk⟩
 | p::ps,v::vs,σ,τ,hk,h=>wV (ps:=ps) (vs:=vs) (σ:=(p,v)::σ) (τ:=(p,v)::τ) (hk.put p v) h
class Pl (O:List It) (l:Nat) (u:outParam It) (O':outParam (List It)):Prop where
 pl:Pk O u O'
instance {D l n:Nat} {σ:Fm} {ps:Array Tmp} {a b:Code} {st:LoopState} {pe:Option Code} {O:List It}:Pl (iL D l n σ ps a b st pe::O) l (iL D l n σ ps a b st pe) O:=⟨CB _ _⟩
instance (priority:=low) {u o:It} {O O':List It} {l:Nat} [h:Pl O l o O']:Pl (u::O) l o (u::O'):=⟨Cw h.pl⟩
class Pm (O:List It) (D:Nat) (O':outParam (List It)):Prop where
 pm:Pk O (iM D) O'
instance {D:Nat} {O:List It}:Pm (iM D::O) D O:=⟨CB _ _⟩
instance (priority:=low) {u:It} {O O':List It} {D:Nat} [h:Pm O D O']:Pm (u::O) D (u::O'):=⟨Cw h.pm⟩
section
variable {P:Program} {G:Gc} {O O':List It} {F:List Pt} {C:Value→Pt} {n D l:Nat} {σ:Fm} {ps:Array Tmp} {assign body:Code} {ds:List Deferred} {K:Kt}
theorem Hp.obj {w:World} {u u':It} {l:Nat} (o:Obj) (hp:Hp G (u::O) F w) (hl:l∈u.fp) (hu:∀k∈u'.fp,k∈u.fp) (hn:u'.fp.Nodup) (hA:u'.A (w.putObj l o)):Hp G (u'::O) F (w.putObj l o):=by
 have hc:Chg (·∈u.fp) w (w.putObj l o):=⟨rfl,rfl,rfl,by simp [World.putObj],fun k hk hs=>World.putObj_heap_other (by rintro rfl;exact hs hl)⟩
 have:=Hp.step (L:= [u]) (L':= [u']) (F':= []) (w':=w.putObj l o) (by simpa using hp) (by simpa [fps] using hc) (by intro q hq;simp only [List.mem_singleton] at hq;subst hq;exact hA) (by simpa [fps] using hn)
  (by intro k hk;simp [fps] at hk;refine ⟨.inl (by simpa [fps] using hu k hk), ?_⟩;have:=(hp.fr k (by simp [dB];exact .inl (hu k hk))).2.1;simpa [World.putObj] using this) (fun f hf=>by cases hf)
 simpa using this
theorem fq {st:LoopState} {pe:Option Code} [h:Pl O l (iL D l n σ ps assign body st pe) O'] (k:Tr G (iM D::O') F (match pe with | none=>K .nm ({target:= .collected D,args:= #[]}::ds) σ | some .ret=>K .rt ({target:= .collected D,args:= #[]}::ds) σ | some (.exit i)=>K (.ex i) ({target:= .collected D,args:= #[]}::ds) σ | _=>Nev 10)) (hst:st≠ .busy:=by decide) (hK:∀c,pe=some c→c= .ret∨∃i,c= .exit i:=by intro c h;cases h<;>first | exact .inl rfl | exact .inr ⟨_,rfl⟩):Tr G O F (Af P n D l ds σ K):=by
 refine ⟨fun w hp0=> ?_⟩
 have hp:=hp0.wk h.pl (fun _ h=>h)
 obtain ⟨⟨τ0,fn,hk0,hl⟩,hD⟩:=hp.own _ (.head _)
 have hne:D≠l:=by rintro rfl;rw [hD] at hl;cases hl
 refine ⟨fun τ hk=>⟨pe,_,run_endLoop hl hst, ?_⟩⟩
 have hp2:=k _ (Hp.obj (u':=iM D) (.loop {state:= .exhausted,pending:=pe,fn,tmps:=(Fr [] n τ0).tmps,params:=ps,assign,body,defers:=D}) hp (l:=l) (by simp [iL]) (by simp [iM,iL]) (by simp [iM]) (by
  show (w.putObj l _).heap[D]? =_
  rw [World.putObj_heap_other hne];exact hD))
 cases pe with
 | none=>exact ⟨_,σ,τ,rfl,hk,hp2⟩
 | some c=>
  rcases hK c rfl with rfl |⟨i,rfl⟩
  ·exact u9 ⟨_,σ,τ,rfl,hk,hp2⟩
  ·exact rn ⟨_,σ,τ,rfl,hk,hp2⟩
theorem fP [h:Pm O D O'] {D':Pt} (k:Tr G O' F D'):Tr G O F (Td P {target:= .collected D,args:= #[]} D'):=by
 refine ⟨fun w hp0=> ?_⟩
 have hp:=hp0.wk h.pm (fun _ h=>h)
 have hD:w.heap[D]? =_:=hp.own _ (.head _)
 refine ⟨D,_,rfl,run_takeDeferred hD,k _ ?_⟩
 have hc:Chg (·∈(iM D).fp) w (w.putObj D (.deferred none)):=⟨rfl,rfl,rfl,by simp [World.putObj],fun k hk hs=>World.putObj_heap_other (by rintro rfl;exact hs (by simp [iM]))⟩
 have:=Hp.step (L:= [iM D]) (L':= []) (F':= []) (w':=w.putObj D (.deferred none)) (by simpa using hp) (by simpa [fps] using hc) (by simp) (by simp) (by simp) (fun f hf=>by cases hf)
 simpa using this
theorem fB {st:LoopState} [h:Pl O l (iL D l n σ ps assign body .ready none) O'] {D':Pt} (k:Tr G (iL D l n σ ps assign body .busy none::O') F D'):Tr G O F (Bg P l D'):=by
 refine ⟨fun w hp0=> ?_⟩
 have hp:=hp0.wk h.pl (fun _ h=>h)
 obtain ⟨⟨τ0,fn,hk0,hl⟩,hD⟩:=hp.own _ (.head _)
 have hne:D≠l:=by rintro rfl;rw [hD] at hl;cases hl
 refine ⟨_,run_beginRound hl rfl,k _ (Hp.obj (u':=iL D l n σ ps assign body .busy none) _ hp (l:=l) (by simp [iL]) (by simp [iL]) (by simp [iL,hne]) ?_)⟩
 exact ⟨⟨τ0,fn,hk0,World.putObj_heap_same (Array.getElem?_eq_some_iff.1 hl).1⟩,by rw [World.putObj_heap_other hne];exact hD⟩
theorem fg {j:Option Code} [h:Pl O l (iL D l n σ ps assign body .busy none) O'] (k:Tr G (iL D l n σ ps assign body (if j.isNone then .ready else .done) j::O') F (C (.bool j.isNone))):Tr G O F (Er P l j C):=by
 refine ⟨fun w hp0=> ?_⟩
 have hp:=hp0.wk h.pl (fun _ h=>h)
 obtain ⟨⟨τ0,fn,hk0,hl⟩,hD⟩:=hp.own _ (.head _)
 have hne:D≠l:=by rintro rfl;rw [hD] at hl;cases hl
 refine ⟨_,_,run_endRound j hl,k _ (Hp.obj (u':=iL D l n σ ps assign body (if j.isNone then .ready else .done) j) _ hp (l:=l) (by simp [iL]) (by simp [iL]) (by simp [iL,hne]) ?_)⟩
 exact ⟨⟨τ0,fn,hk0,World.putObj_heap_same (Array.getElem?_eq_some_iff.1 hl).1⟩,by rw [World.putObj_heap_other hne];exact hD⟩
theorem ai {args:List Value} [h:Pl O l (iL D l n σ ps assign body .ready none) O']
  (k:Tr G O F (G3 (fun σ'=>EC P (some l) n assign [] σ' (fun e ds σ2=>match e with | .nm=>Bg P l (EC P (some l) n body ds σ2 (fun e _ _=>match e with | .nm=>Er P l none C | .rt=>Er P l (some .ret) C | .ex i=>Er P l (some (.exit i)) C))| _=>Nev 11)) ps.toList args σ))
  (ha:args.length=ps.size:=by rfl):Tr G O F (Cal P (.func (.yield l) #[] #[]) args C):=by
 simp only [et] at k
 refine ⟨fun w hp0=> ?_⟩
 have hp:=hp0.wk h.pl (fun _ h=>h)
 obtain ⟨⟨τ0,fn,hk0,hl⟩,hD⟩:=hp.own _ (.head _)
 refine ⟨?_⟩
 have hy:=run_yield (P:=P) (args:=args.toArray) hl (by simpa using ha)
 simp only [Deferred.ofValue,Sem.run_bind,Sem.run_pure,Result.andThen,invoke]
 rw [show (#[]:Array Value)++args.toArray=args.toArray by simp,hy]
 obtain ⟨σ',h1,h2⟩:=wV hk0 (k w hp0)
 refine roundIn_of_wpIn (F:=Fence.wide) trivial ?_
 have ht:((ps.zip args.toArray).foldl (fun t (x:Tmp×Value)=>t.setIfInBounds x.1 x.2) (Fr [] n τ0).tmps)=(Fr [] n (gX ps.toList args τ0)).tmps:=by
  have:=mG n ps.toList args τ0
  simpa using this
 have hfr:({tmps:=((ps.zip args.toArray).foldl (fun t (x:Tmp×Value)=>t.setIfInBounds x.1 x.2) (Fr [] n τ0).tmps),defers:= []}:Act)=Fr [] n (gX ps.toList args τ0):=by rw [ht];rfl
 rw [hfr]
 refine wpIn_mono (jf (ro:=some l) assign [] σ' _ _ w h2 h1) ?_
 intro e a w1 hq
 cases e with
 | normal=>
  obtain ⟨ds,σ2,τ2,rfl,hk2,hB⟩:=hq
  obtain ⟨w2,h3,h4⟩:=hB.go
  refine ⟨w2,h3,wpIn_mono (jf (ro:=some l) body ds σ2 τ2 _ w2 hk2 h4) ?_⟩
  intro e a w3 hq
  cases e with
  | normal=>
   obtain ⟨_,_,_,rfl,_,hE⟩:=hq
   obtain ⟨v,w',h5,h6⟩:=hE.go
   exact ⟨v,w',h5,v,rfl,h6⟩
  | ret=>
   obtain ⟨_,_,_,rfl,_,hE⟩:=hq
   obtain ⟨v,w',h5,h6⟩:=hE.go
   exact ⟨v,w',h5,v,rfl,h6⟩
  | exit i=>
   obtain ⟨_,_,_,rfl,_,hE⟩:=hq
   obtain ⟨v,w',h5,h6⟩:=hE.go
   exact ⟨v,w',h5,v,rfl,h6⟩
  | _=>exact hq.elim
 | exit i=>obtain ⟨_,_,_,rfl,_,hE⟩:=hq;exact hE.go.elim
 | ret=>obtain ⟨_,_,_,rfl,_,hE⟩:=hq;exact hE.go.elim
 | _=>exact hq.elim
theorem aj {g:Operand} {gf:FuncId} {first cap:Array Value} {fn:Func} {c:Code} {m:Nat} {rs:List ResultVar} (hg:Hg n σ g=some (.func (.func gf) first cap)) [hf:Fu P gf fn]
  (k:∀D l,Tr G (iL D l n σ ps assign body .ready none::O) F (Cal P (.func (.func gf) first cap) [.func (.yield l) #[] #[]] (fun _=>Af P n D l ds σ K))) (hu:Ha fn=some (c,m,rs):=by rfl) (hm:Iq fn=false:=by kernel_rfl):
  Tr G O F (Wh P none n (.rangeFunc g ps assign body) ds σ K):=by
 refine ⟨fun w hp=> ?_⟩
 refine ⟨fun τ hk=> ?_⟩
 unfold i4
 refine wpIn_rangeFunc ?_
 intro fid _
 obtain ⟨W1,hW1⟩:∃W1,(w.alloc (.deferred (some []))).alloc (.loop {state:= .ready,pending:=none,fn:=fid,tmps:=(Fr [] n τ).tmps,params:=ps,assign,body,defers:=w.heap.size})=W1:=⟨_,rfl⟩
 have hL1:W1.heap[w.heap.size+1]? =some (.loop {state:= .ready,pending:=none,fn:=fid,tmps:=(Fr [] n τ).tmps,params:=ps,assign,body,defers:=w.heap.size}):=by
  rw [←hW1];have:=World.alloc_heap_new (w.alloc (.deferred (some []))) (.loop {state:= .ready,pending:=none,fn:=fid,tmps:=(Fr [] n τ).tmps,params:=ps,assign,body,defers:=w.heap.size});rwa [World.size_alloc] at this
 have hK1:W1.heap[w.heap.size]? =some (.deferred (some [])):=by
  rw [←hW1];exact (Below.heap_alloc _ _ _ (by simp)).trans (World.alloc_heap_new w _)
 have hE1:Ext w W1:=by rw [←hW1];exact (Ext.alloc _ _).trans (Ext.alloc _ _)
 have hs1:w.heap.size+1<W1.heap.size:=(Array.getElem?_eq_some_iff.1 hL1).1
 have hp1:Hp G (iL w.heap.size (w.heap.size+1) n σ ps assign body .ready none::O) F W1:=by
  have:=Hp.step (L:= []) (L':= [iL w.heap.size (w.heap.size+1) n σ ps assign body .ready none]) (F':= []) (w':=W1) (by simpa using hp) (hE1.mono fun k _ hk=>hk.elim) (by
   intro q hq;simp only [List.mem_singleton] at hq;subst hq;exact ⟨⟨τ,fid,hk,hL1⟩,hK1⟩) (by simp [iL]) (by
   intro k hk;simp [iL] at hk;rcases hk with rfl | rfl<;>exact ⟨.inr (by omega),by omega⟩) (fun f hf=>by cases hf)
  simpa using this
 have hC:=(k _ _ W1 hp1).go
 have en:=nY (P:=P) hf.fn hu hm
 refine ⟨w.heap.size+1, [{target:= .collected w.heap.size,args:= #[]}],W1,{target:= .fn (.func gf) cap,args:=first++ #[.func (.yield (w.heap.size+1)) #[] #[]]},W1,gf,first++ #[.func (.yield (w.heap.size+1)) #[] #[]]++cap,W1, ?_, ?_,fun _ _=>trivial, ?_,fun h=>(by cases h), ?_⟩
 ·rw [←hW1];exact run_enterLoop_outer _ _ _ _ _
 ·simp only [resolve,dS,Gg hk hg]
  simp [Deferred.ofValue,ev,Sem.run_pure]
 ·simp only [invoke];exact en _ _
 ·simp only [Deferred.ofValue,Sem.run_bind,Sem.run_pure,Result.andThen,invoke] at hC
  rw [show (first++ [Value.func (.yield (w.heap.size+1)) #[] #[]].toArray++cap)=first++ #[.func (.yield (w.heap.size+1)) #[] #[]]++cap from rfl,en] at hC
  refine CallsIn.mono (show CallsIn (fen none) (0-1) P gf _ W1 _ from callsIn_wide (n:=0-1).2 hC) ?_
  rintro e W2 ⟨v,rfl,hA⟩
  obtain ⟨jump,w4,h1,h2⟩:=hA.go τ hk
  exact ⟨jump,w4,h1,h2⟩
end
end Go.Cz
