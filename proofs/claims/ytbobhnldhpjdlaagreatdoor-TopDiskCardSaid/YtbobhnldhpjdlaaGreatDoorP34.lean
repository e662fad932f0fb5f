/- Lemmas and walks: what each function does, by its own code. No condition beyond those of each statement. -/
import Derived.Test.YtbobhnldhpjdlaaGreatDoorP11
set_option linter.all false
set_option linter.unusedVariables false
namespace Go.Cz
open Go Go.RowKit Go.Cs
def mU (o:Oper):Bool:=ic o&& !(match o.op with
 | .convert _ t _=>Nat.beq t 9
 | _=>false)
theorem EV {o:Oper} (h:mU o=true):ic o=true:=by unfold mU at h;exact (Bool.and_eq_true_iff.1 h).1
def ww (dn:List Nat):Nat→List Oper→List (Nat×Oper)→Dc
 | _, [],acc=> .ex acc.reverse
 | i,o::r,acc=>bif bmem i dn then ww dn (i+1) r acc else bif q6 dn o.after.toList then (bif mU o then .tk i o else ww dn (i+1) r ((i,o)::acc)) else ww dn (i+1) r acc
def v8 (P:Program) (n:Nat) (ops:Array Oper) (Cc:Pt) (N:Nat) (K:Fm→Pt):Nat→List Nat→Nat→Fm→Pt
 | 0,_,m,σ=>D0 ops N m (K σ)
 | f+1,dn,m,σ=>match ww dn 0 ops.toList [] with
  | .tk i o=>bif xR o then Dt P ops Cc m i (fun C=>Ge P n ops o σ C) (fun v=>pD (fun σ'=>v8 P n ops Cc N K f (i::dn) (m ||| 2^i) σ') σ v o.dst) else Dp P ops m i (fun C=>Ge P n ops o σ C) (fun v=>pD (fun σ'=>v8 P n ops Cc N K f (i::dn) (m ||| 2^i) σ') σ v o.dst)
  | .ex [(i,o)]=>D1 ops N m i (kl P n ops o σ (fun σ'=>Dx Cc ops i (i::dn) (v8 P n ops Cc N K f (i::dn) (m ||| 2^i) σ')))
  | .ex [(i,o),(j,q)]=>D2 ops N m i j (kl P n ops o σ (fun σ'=>Dx Cc ops i (i::dn) (v8 P n ops Cc N K f (i::dn) (m ||| 2^i) σ'))) (kl P n ops q σ (fun σ'=>Dx Cc ops j (j::dn) (v8 P n ops Cc N K f (j::dn) (m ||| 2^j) σ')))
  | .ex [(i,o),(j,q),(l,p)]=>D3 ops N m i j l (kl P n ops o σ (fun σ'=>Dx Cc ops i (i::dn) (v8 P n ops Cc N K f (i::dn) (m ||| 2^i) σ'))) (kl P n ops q σ (fun σ'=>Dx Cc ops j (j::dn) (v8 P n ops Cc N K f (j::dn) (m ||| 2^j) σ')))
    (kl P n ops p σ (fun σ'=>Dx Cc ops l (l::dn) (v8 P n ops Cc N K f (l::dn) (m ||| 2^l) σ')))
  | _=>Nev 8
section
variable {P:Program} {n:Nat} {ro:Option Nat} {ds:List Deferred} {ops:Array Oper} {N:Nat} {K:Fm→Pt} {Q:Exit→Act→World→Prop} {Cc:Pt}
theorem nG {ops:Array Oper} {dn:List Nat}:∀(l:List Oper) (i:Nat) (acc:List (Nat×Oper)),ops.toList.drop i=l→(∀p∈acc,ops[p.1]? =some p.2)→
  match ww dn i l acc with
  | .tk j o=>ops[j]? =some o
  | .ex ps=>∀p∈ps,ops[p.1]? =some p.2
 | [],i,acc,hl,ha=>by simp only [ww];intro p hp;exact ha p (List.mem_reverse.1 hp)
 | o::r,i,acc,hl,ha=>by
  have ho:ops[i]? =some o:=by
   have:ops.toList[i]? =some o:=by
    have h1:=congrArg (·[0]?) hl
    simpa using h1
   simpa using this
  have hl':ops.toList.drop (i+1)=r:=by
   have h1:=congrArg List.tail hl
   simpa using h1
  simp only [ww]
  cases bmem i dn with
  | true=>exact nG r (i+1) acc hl' ha
  | false=>
   cases q6 dn o.after.toList with
   | false=>exact nG r (i+1) acc hl' ha
   | true=>
    cases mU o with
    | true=>exact ho
    | false=>
     refine nG r (i+1) _ hl' ?_
     intro p hp
     rcases List.mem_cons.1 hp with rfl | h9
     ·exact ho
     ·exact ha p h9
theorem kF {dn:List Nat} {j:Nat} {o:Oper}:∀(l:List Oper) (i:Nat) (acc:List (Nat×Oper)),ww dn i l acc= .tk j o→ic o=true
 | [],i,acc,h=>by cases h
 | q::r,i,acc,h=>by
  simp only [ww] at h
  cases h1:bmem i dn with
  | true=>rw [h1] at h;exact kF r _ _ h
  | false=>
   rw [h1] at h
   cases h2:q6 dn q.after.toList with
   | false=>rw [h2] at h;exact kF r _ _ h
   | true=>
    rw [h2] at h
    cases h3:mU q with
    | true=>simp only [h3,cond_true,cond_false,Dc.tk.injEq] at h;obtain ⟨_,rfl⟩:=h;exact EV h3
    | false=>simp only [h3,cond_true,cond_false] at h;exact kF r _ _ h
theorem nO {dn:List Nat} {j:Nat} {o:Oper}:∀(l:List Oper) (i:Nat) (acc:List (Nat×Oper)),ww dn i l acc= .tk j o→bmem j dn=false
 | [],i,acc,h=>by cases h
 | q::r,i,acc,h=>by
  simp only [ww] at h
  cases h1:bmem i dn with
  | true=>rw [h1] at h;exact nO r _ _ h
  | false=>
   rw [h1] at h
   cases h2:q6 dn q.after.toList with
   | false=>rw [h2] at h;exact nO r _ _ h
   | true=>
    rw [h2] at h
    cases h3:mU q with
    | true=>simp only [h3,cond_true,cond_false,Dc.tk.injEq] at h;obtain ⟨rfl,_⟩:=h;exact h1
    | false=>simp only [h3,cond_true,cond_false] at h;exact nO r _ _ h
theorem mn [hq:NoPan Q] (hR:RT ops (bw ops) N) (hK:∀σ τ w,Kn σ τ→K σ w→Q .normal (Fr ds n τ) w):∀(f:Nat) (dn:List Nat) (m:Nat) (σ τ:Fm) (w:World),Kn σ τ→(Cc w∨Gy ops dn=true)→v8 P n ops Cc N K f dn m σ w→kR (ro:=ro) (ds:=ds) P ops Q Cc n N f m τ w
 | 0,dn,m,σ,τ,w,hk,hc,h=>by
  obtain ⟨h1,h2⟩:=h.go
  exact oA (hK σ τ w hk h2) h1
 | f+1,dn,m,σ,τ,w,hk,hc,h=>by
  have hx:=nG (ops:=ops) (dn:=dn) ops.toList 0 [] rfl (fun p hp=>by cases hp)
  have step:∀(i:Nat) (o:Oper),ops[i]? =some o→kl P n ops o σ (fun σ'=>Dx Cc ops i (i::dn) (v8 P n ops Cc N K f (i::dn) (m ||| 2^i) σ')) w→
    gw P ops n i τ w (fun τ' w'=>(Cc w→iu ops i=true∨Cc w')∧kR (ro:=ro) (ds:=ds) P ops Q Cc n N f (m ||| 2^i) τ' w'):=by
   intro i o hi h9
   refine jU (AM hk hi h9) ?_
   rintro τ' w' ⟨σ',hk',hd⟩
   obtain ⟨h1,h2⟩:=hd.go
   rcases h1 with ⟨h3,h4⟩| h3
   ·exact ⟨fun _=> .inl h3,mn hR hK f _ _ σ' τ' w' hk' (.inr h4) h2⟩
   ·exact ⟨fun _=> .inr h3,mn hR hK f _ _ σ' τ' w' hk' (.inl h3) h2⟩
  unfold v8 at h
  cases hn:ww dn 0 ops.toList [] with
  | tk i o=>
   rw [hn] at hx
   simp only [hn] at h
   have hpu:=kF _ _ _ hn
   cases hrd:xR o with
   | true=>
    simp only [hrd,cond_true] at h
    obtain ⟨h1,v,h2,h3⟩:=h.go
    have hcw:Cc w:=by
     rcases hc with hc | hc
     ·exact hc
     ·have:=n4 hc i o (by simpa using hx) (by rw [Nat.zero_add];exact nO _ _ _ hn)
      rw [hrd] at this;cases this
    have hy:=tZ hpu hk h2 hx hcw
    obtain ⟨σ',hk',h4⟩:=gZ hk h3
    exact jZ hR i _ hx v (.inl ⟨hrd,rfl⟩) (.inl hcw) hy (mn hR hK f _ _ σ' _ w hk' (.inl hcw) h4) h1 rfl
   | false=>
    simp only [hrd,cond_false] at h
    obtain ⟨h1,v,h2,h3⟩:=h.go
    have hy:=tZ (Cc:=fun _=>True) hpu hk (fun w' _=>h2 w') hx (w:=w) trivial
    obtain ⟨σ',hk',h4⟩:=gZ hk h3
    exact jZ hR i _ hx v (.inr fun _=>trivial) (.inr fun _=>trivial) hy (mn hR hK f _ _ σ' _ w hk' (hc.imp id fun h=>nP h) h4) h1 rfl
  | ex l=>
   rw [hn] at hx
   simp only [hn] at h
   match l,hx,h with
   | [(i,o)],hx,h=>
    obtain ⟨h1,h2⟩:=h.go
    refine iV [i] h1 (by simp) (fun k hk=> ?_)
    simp only [List.mem_cons,List.not_mem_nil,or_false] at hk
    subst hk
    exact step _ o (hx _ (.head _)) h2
   | [(i,o),(j,q)],hx,h=>
    obtain ⟨h1,h2,h3⟩:=h.go
    refine iV [i,j] h1 (by simp) (fun k hk=> ?_)
    simp only [List.mem_cons,List.not_mem_nil,or_false] at hk
    rcases hk with rfl | rfl
    ·exact step _ o (hx _ (.head _)) h2
    ·exact step _ q (hx _ (.tail _ (.head _))) h3
   | [(i,o),(j,q),(l,p)],hx,h=>
    obtain ⟨h1,h2,h3,h4⟩:=h.go
    refine iV [i,j,l] h1 (by simp) (fun k hk=> ?_)
    simp only [List.mem_cons,List.not_mem_nil,or_false] at hk
    rcases hk with rfl | rfl | rfl
    ·exact step _ o (hx _ (.head _)) h2
    ·exact step _ q (hx _ (.tail _ (.head _))) h3
    ·exact step _ p (hx _ (.tail _ (.tail _ (.head _)))) h4
   | [],hx,h=>exact h.go.elim
   | _::_::_::_::_,hx,h=>exact h.go.elim
end
section
variable {P:Program} {G:Gc} {O:List It} {F:List Pt} {n N id:Nat} {ro:Option Nat} {ds:List Deferred} {σ:Fm} {ops:Array Oper} {K:Kt} {m i j l:Nat}
structure EGx (P:Program) (n:Nat) (ops:Array Oper) (Cc:Pt) (N:Nat) (K:Fm→Pt) (f:Nat) (dn:List Nat) (m:Nat) (σ:Fm) (w:World):Prop where
 go:v8 P n ops Cc N K f dn m σ w
theorem Gr {Cc:Pt} {L:Fm→Pt} {f m:Nat} {dn:List Nat}:EGx P n ops Cc N L f dn m σ=v8 P n ops Cc N L f dn m σ:=funext fun w=>propext ⟨EGx.go,EGx.mk⟩
theorem qJ {Cc:Pt} {L:Fm→Pt} {dn:List Nat} (h:Tr G O F (D0 ops N m (L σ))):Tr G O F (EGx P n ops Cc N L 0 dn m σ):=by rw [Gr];exact h
theorem x8 {Cc:Pt} {L:Fm→Pt} {f:Nat} {dn:List Nat} (h:Tr G O F (match ww dn 0 ops.toList [] with
  | .tk i o=>bif xR o then Dt P ops Cc m i (fun C=>Ge P n ops o σ C) (fun v=>pD (fun σ'=>EGx P n ops Cc N L f (i::dn) (m ||| 2^i) σ') σ v o.dst) else Dp P ops m i (fun C=>Ge P n ops o σ C) (fun v=>pD (fun σ'=>EGx P n ops Cc N L f (i::dn) (m ||| 2^i) σ') σ v o.dst)
  | .ex [(i,o)]=>D1 ops N m i (kl P n ops o σ (fun σ'=>Dx Cc ops i (i::dn) (EGx P n ops Cc N L f (i::dn) (m ||| 2^i) σ')))
  | .ex [(i,o),(j,q)]=>D2 ops N m i j (kl P n ops o σ (fun σ'=>Dx Cc ops i (i::dn) (EGx P n ops Cc N L f (i::dn) (m ||| 2^i) σ'))) (kl P n ops q σ (fun σ'=>Dx Cc ops j (j::dn) (EGx P n ops Cc N L f (j::dn) (m ||| 2^j) σ')))
  | .ex [(i,o),(j,q),(l,p)]=>D3 ops N m i j l (kl P n ops o σ (fun σ'=>Dx Cc ops i (i::dn) (EGx P n ops Cc N L f (i::dn) (m ||| 2^i) σ'))) (kl P n ops q σ (fun σ'=>Dx Cc ops j (j::dn) (EGx P n ops Cc N L f (j::dn) (m ||| 2^j) σ')))
    (kl P n ops p σ (fun σ'=>Dx Cc ops l (l::dn) (EGx P n ops Cc N L f (l::dn) (m ||| 2^l) σ')))
  | _=>Nev 8)):Tr G O F (EGx P n ops Cc N L (f+1) dn m σ):=by
 simp only [Gr] at h⊢
 unfold v8
 exact h
theorem tD (O0:List It) (F0:List Pt) (hw:Wk O O0) (hf:∀g∈F0,g∈F) (hN:uj ops.toList 0=some N) (k:Tr G O F (EGx P n ops (Hp G O0 F0) N (K .nm ds) N [] 0 σ)) (hm:P.follows .mixedOrders=true:=by kernel_rfl) (hT:CT ops (bw ops) N=true:=by kernel_rfl):Tr G O F (Dw P ro n id ops ds σ K):=by
 refine ⟨fun w hp=> ?_⟩
 refine ⟨fun τ hk=>ke (Hp G O0 F0) N (bw ops) (fun hR=> ?_) hm hT⟩
 exact mn hR (fun σ τ w hk h=>⟨ds,σ,τ,rfl,hk,h⟩) N [] 0 σ τ _ hk (.inl (hp.drew.wk hw hf)) (k _ hp.drew).go
end
end Go.Cz
