/- Lemmas and walks: what each function does, by its own code. No condition beyond those of each statement. -/
import Derived.Test.YtbobhnldhpjdlaaGreatDoorP10
set_option linter.all false
set_option linter.unusedVariables false
namespace Go.Cz
open Go Go.RowKit Go.Cs
theorem o0 {α:Type} {K:α→List Value} {m:Nat} [hK:CL K m] {b o n c k c':Nat} {t:List α} {w:World} (h:Sl K (some ⟨b,o,none⟩) n c t w) (hk:k≤n) (hc:k≤c') (hm:c'≤9223372036854775807):Sl K (some ⟨b,o,none⟩) k c' (t.take k) w:=by
 have h1:n=t.length:=h.1
 have h2:=Sl.at_ h
 have h3:t.flatMap K=(t.take k).flatMap K++(t.drop k).flatMap K:=by rw [←List.flatMap_append,List.take_append_drop]
 rw [h3] at h2
 exact rk (At.sub h2 0 _ (by simp)) (by rw [List.length_take];omega) hc hm
instance (priority:=10) {α:Type} {K:α→List Value} {cs:List Value} {t:List α} {j:Nat} [h:Fb cs K t] [hK:CL K 1] [Inhabited α]:Sb cs j (K (t.getD j default)) (j<t.length):=⟨fun hj=>by
 have h1:=BT (K:=K) (t:=t) default hj
 rw [Nat.mul_one] at h1
 rw [h.fm];exact h1⟩
section
variable {P:Program} {G:Gc} {O:List It} {F:List Pt} {C:Value→Pt}
theorem L0 {α:Type} {K:α→List Value} {t:List α} {vs:List Value} {b A m:Nat} {p:Prop} [hb:Ab O F b A vs p] [hf:Fb vs K t] [hK:CL K m] [hi:Inhabited α]:Ab O F b A (K (t.getD 0 default)) (p∧0<t.length):=⟨fun hp=>by
 have h1:=hb.ab hp.1
 rw [hf.fm] at h1
 have h2:=LW h1 (BT (K:=K) (t:=t) default hp.2)
 rw [Nat.zero_mul] at h2
 exact h2⟩
theorem nk {α:Type} {K:α→List Value} {t:List α} {vs:List Value} {T b A:Nat} {v:Value} {p:Prop} [hs:Sz P T 1 false] [hb:Ab O F b A vs p] [hf:Fb vs K t] [hK:CL K 1] [hi:Inhabited α] [hv:Lv false (K (t.getD 0 default)) v] (h:Tr G O F (C v)) (hp:p∧0<t.length:=by (repeat' (first | exact True.intro | refine And.intro ?_ ?_))<;>first | omega |(simp only [List.length_append,List.length_take,List.length_drop,List.length_replicate,List.length_set,List.length_map,List.length_nil,List.length_cons];omega)|(simp;done)|(simp;omega)):Tr G O F (Rl P T (.pointer (some ⟨b,A,none⟩)) C):=
 sL (hb:=L0) h hp
theorem Bd {b A:Nat} {l:List UInt8} {p:Prop} [h:Lb O F cB (some ⟨b,A,none⟩) 32 32 l p] (hp:p):Az O F b A (ay (Dig.of l)):=fun w h1 h2=>by
 have h3:=h.lb hp w h1 h2
 have h4:l.length=32:=h3.1.symm
 have h5:=Sl.at_ h3
 rw [show l.flatMap cB=ay (Dig.of l) by rw [ay,Dig.of_l h4,bL]] at h5
 exact h5
theorem nh {T b A:Nat} {l:List UInt8} {p:Prop} [hs:Sz P T 32 true] [hb:Lb O F cB (some ⟨b,A,none⟩) 32 32 l p] (h:Tr G O F (C (vA (ay (Dig.of l))))) (hp:p:=by (repeat' (first | exact True.intro | refine And.intro ?_ ?_))<;>first | omega |(simp only [List.length_append,List.length_take,List.length_drop,List.length_replicate,List.length_set,List.length_map,List.length_nil,List.length_cons];omega)|(simp;done)|(simp;omega)):Tr G O F (Rl P T (.pointer (some ⟨b,A,none⟩)) C):=
 Kb ⟨fun w h1 h2=>kg (Bd hp w h1 h2) (by rw [hs.sz,c5]) hs.ag⟩ h
theorem fG {ops:Array Oper} {m i:Nat} {O0:List It} {F0:List Pt} {G0:Gc} {T b A:Nat} {l:List UInt8} {p:Prop} [hs:Sz P T 32 true] [hb:Lb O0 F0 cB (some ⟨b,A,none⟩) 32 32 l p] (h:Tr G O F (C (vA (ay (Dig.of l))))) (hp:p:=by (repeat' (first | exact True.intro | refine And.intro ?_ ?_))<;>first | omega |(simp only [List.length_append,List.length_take,List.length_drop,List.length_replicate,List.length_set,List.length_map,List.length_nil,List.length_cons];omega)|(simp;done)|(simp;omega)) (hc:gu (bw ops) m i=true:=by kernel_rfl):Tr G O F (Dt P ops (Hp G0 O0 F0) m i (fun C=>Rl P T (.pointer (some ⟨b,A,none⟩)) C) C):=
 AS h (I2 ⟨fun w h1 h2=>kg (Bd hp w h1 h2) (by rw [hs.sz,c5]) hs.ag⟩) hc
theorem MS {T b A m:Nat} {l:List UInt8} {p:Prop} [hs:Sz P T m true] [hb:Lb O F cB (some ⟨b,A,none⟩) m m l p] (h:Tr G O F (C (vA (bE l)))) (hp:p:=by (repeat' (first | exact True.intro | refine And.intro ?_ ?_))<;>first | omega |(simp only [List.length_append,List.length_take,List.length_drop,List.length_replicate,List.length_set,List.length_map,List.length_nil,List.length_cons];omega)|(simp;done)|(simp;omega)):Tr G O F (Rl P T (.pointer (some ⟨b,A,none⟩)) C):=
 Kb ⟨fun w h1 h2=>by
  have h3:=hb.lb hp w h1 h2
  have h4:m=l.length:=h3.1
  have h5:=Sl.at_ h3
  rw [←bL] at h5
  exact kg h5 (by rw [hs.sz];simp [h4]) hs.ag⟩ h
theorem Ls {T:TypeId} {zs:List Value} {a b c d:UInt8} [h:Bar P T 1 zs] (hl:zs.length=4:=by rfl):Yv P O F (Ak.bld T [(0,vb a),(1,vb b),(2,vb c),(3,vb d)]) (vA (bE [a,b,c,d])):=by
 match zs,hl,h with
 | [z0,z1,z2,z3],_,h=>
  have hb:Ba 1 [z0,z1,z2,z3] [(0,vb a),(1,vb b),(2,vb c),(3,vb d)] (bE [a,b,c,d]) True:=⟨fun _=>rfl⟩
  exact qF (hb:=hb) (hp:=trivial)
theorem dH (bs:List Nat) {O0:List It} {n N id:Nat} {ro:Option Nat} {ds:List Deferred} {σ:Fm} {ops:Array Oper} {K:Kt} [h:Wzs O bs O0] (hN:uj ops.toList 0=some N) (k:Tr G O F (ED P n ops (Hp G O0 F) N (K .nm ds) N [] 0 σ)) (hm:P.follows .mixedOrders=true:=by kernel_rfl) (hT:CT ops (bw ops) N=true:=by kernel_rfl):Tr G O F (Dw P ro n id ops ds σ K):=
 ⟨fun w hp=>gM O0 F h.wz (fun _ h=>h) hN k hm hT w hp⟩
end
theorem z5 {b o o' n c k q c':Nat} {t:List UInt8} {w:World} (h:Sl cB (some ⟨b,o,none⟩) n c t w) (ho:o'=o+k) (hk:k+q≤n) (hc:q≤c') (hq:c'≤9223372036854775807):Sl cB (some ⟨b,o',none⟩) q c' ((t.drop k).take q) w:=by
 have h1:n=t.length:=h.1
 have h2:=Sl.at_ h
 have h3:t.flatMap cB=bE (t.take k)++(bE ((t.drop k).take q)++bE ((t.drop k).drop q)):=by rw [bL,bL,bL,←List.flatMap_append,←List.flatMap_append,List.take_append_drop,List.take_append_drop]
 rw [h3] at h2
 have h4:(bE (t.take k)).length=k:=by simp;omega
 have h5:=At.sub h2 k (bE ((t.drop k).take q)) (by rw [List.drop_left' h4];exact List.take_left' rfl)
 rw [bL] at h5
 rw [ho]
 exact rk h5 (by simp;omega) hc hq
theorem o5 {b o o' n c k q:Nat} {t:List UInt8} {w:World} (h:Sl cB (some ⟨b,o,none⟩) n c t w) (ho:o'=o+k) (hk:k+q≤n) (hq:q≤9223372036854775807):Sl cB (some ⟨b,o',none⟩) q q ((t.drop k).take q) w:=z5 h ho hk (Nat.le_refl _) hq
end Go.Cz
namespace Go.Cz
open Go Go.RowKit Go.Cs
def uG (o:Oper):Bool:=ic o&& !xR o
def Cp (dn:List Nat):Nat→List Oper→List (Nat×Oper)→Dc
 | _, [],acc=> .ex acc.reverse
 | i,o::r,acc=>bif bmem i dn then Cp dn (i+1) r acc else bif q6 dn o.after.toList then (bif uG o then .tk i o else Cp dn (i+1) r ((i,o)::acc)) else Cp dn (i+1) r acc
def yv (P:Program) (n:Nat) (ops:Array Oper) (N:Nat) (K:Fm→Pt):Nat→List Nat→Nat→Fm→Pt
 | 0,_,m,σ=>D0 ops N m (K σ)
 | f+1,dn,m,σ=>match Cp dn 0 ops.toList [] with
  | .tk i o=>Dp P ops m i (fun C=>Ge P n ops o σ C) (fun v=>pD (fun σ'=>yv P n ops N K f (i::dn) (m ||| 2^i) σ') σ v o.dst)
  | .ex [(i,o)]=>D1 ops N m i (kl P n ops o σ (fun σ'=>yv P n ops N K f (i::dn) (m ||| 2^i) σ'))
  | .ex [(i,o),(j,q)]=>D2 ops N m i j (kl P n ops o σ (fun σ'=>yv P n ops N K f (i::dn) (m ||| 2^i) σ')) (kl P n ops q σ (fun σ'=>yv P n ops N K f (j::dn) (m ||| 2^j) σ'))
  | .ex [(i,o),(j,q),(l,p)]=>D3 ops N m i j l (kl P n ops o σ (fun σ'=>yv P n ops N K f (i::dn) (m ||| 2^i) σ')) (kl P n ops q σ (fun σ'=>yv P n ops N K f (j::dn) (m ||| 2^j) σ')) (kl P n ops p σ (fun σ'=>yv P n ops N K f (l::dn) (m ||| 2^l) σ'))
  | _=>Nev 8
theorem pL {ops:Array Oper} {dn:List Nat}:∀(l:List Oper) (i:Nat) (acc:List (Nat×Oper)),ops.toList.drop i=l→(∀p∈acc,ops[p.1]? =some p.2)→
  match Cp dn i l acc with
  | .tk j o=>ops[j]? =some o∧uG o=true
  | .ex ps=>∀p∈ps,ops[p.1]? =some p.2
 | [],i,acc,hl,ha=>by simp only [Cp];intro p hp;exact ha p (List.mem_reverse.1 hp)
 | o::r,i,acc,hl,ha=>by
  have ho:ops[i]? =some o:=by
   have:ops.toList[i]? =some o:=by
    have h1:=congrArg (·[0]?) hl
    simpa using h1
   simpa using this
  have hl':ops.toList.drop (i+1)=r:=by
   have h1:=congrArg List.tail hl
   simpa using h1
  simp only [Cp]
  cases bmem i dn with
  | true=>exact pL r (i+1) acc hl' ha
  | false=>
   cases q6 dn o.after.toList with
   | false=>exact pL r (i+1) acc hl' ha
   | true=>
    cases hq:uG o with
    | true=>exact ⟨ho,hq⟩
    | false=>
     refine pL r (i+1) _ hl' ?_
     intro p hp
     rcases List.mem_cons.1 hp with rfl | h9
     ·exact ho
     ·exact ha p h9
section
variable {P:Program} {n:Nat} {ro:Option Nat} {ds:List Deferred} {ops:Array Oper} {N:Nat} {K:Fm→Pt} {Q:Exit→Act→World→Prop}
theorem tE [hq:NoPan Q] (hR:RT ops (bw ops) N) (hK:∀σ τ w,Kn σ τ→K σ w→Q .normal (Fr ds n τ) w):∀(f:Nat) (dn:List Nat) (m:Nat) (σ τ:Fm) (w:World),Kn σ τ→yv P n ops N K f dn m σ w→kR (ro:=ro) (ds:=ds) P ops Q (fun _=>True) n N f m τ w
 | 0,dn,m,σ,τ,w,hk,h=>by
  obtain ⟨h1,h2⟩:=h.go
  exact oA (hK σ τ w hk h2) h1
 | f+1,dn,m,σ,τ,w,hk,h=>by
  have hx:=pL (ops:=ops) (dn:=dn) ops.toList 0 [] rfl (fun p hp=>by cases hp)
  have step:∀(i:Nat) (o:Oper),ops[i]? =some o→kl P n ops o σ (fun σ'=>yv P n ops N K f (i::dn) (m ||| 2^i) σ') w→
    gw P ops n i τ w (fun τ' w'=>(True→iu ops i=true∨True)∧kR (ro:=ro) (ds:=ds) P ops Q (fun _=>True) n N f (m ||| 2^i) τ' w'):=by
   intro i o hi h9
   refine jU (AM hk hi h9) ?_
   rintro τ' w' ⟨σ',hk',hd⟩
   exact ⟨fun _=> .inr trivial,tE hR hK f _ _ σ' τ' w' hk' hd⟩
  unfold yv at h
  cases hn:Cp dn 0 ops.toList [] with
  | tk i o=>
   rw [hn] at hx
   simp only [hn] at h
   obtain ⟨hx,hpu0⟩:=hx
   have hpu:ic o=true:=by unfold uG at hpu0;exact (Bool.and_eq_true_iff.1 hpu0).1
   obtain ⟨h1,v,h2,h3⟩:=h.go
   have hy:=tZ (Cc:=fun _=>True) hpu hk (fun w' _=>h2 w') hx (w:=w) trivial
   obtain ⟨σ',hk',h4⟩:=gZ hk h3
   exact jZ hR i _ hx v (.inr fun _=>trivial) (.inr fun _=>trivial) hy (tE hR hK f _ _ σ' _ w hk' h4) h1 rfl
  | ex l=>
   rw [hn] at hx
   simp only [hn] at h
   match l,hx,h with
   | [(i,o)],hx,h=>
    obtain ⟨h1,h2⟩:=h.go
    refine iV [i] h1 (by simp) (fun k hk=> ?_)
    simp only [List.mem_cons,List.not_mem_nil,or_false] at hk
    subst hk
    exact step _ o (hx _ (.head _)) h2
   | [(i,o),(j,q)],hx,h=>
    obtain ⟨h1,h2,h3⟩:=h.go
    refine iV [i,j] h1 (by simp) (fun k hk=> ?_)
    simp only [List.mem_cons,List.not_mem_nil,or_false] at hk
    rcases hk with rfl | rfl
    ·exact step _ o (hx _ (.head _)) h2
    ·exact step _ q (hx _ (.tail _ (.head _))) h3
   | [(i,o),(j,q),(l,p)],hx,h=>
    obtain ⟨h1,h2,h3,h4⟩:=h.go
    refine iV [i,j,l] h1 (by simp) (fun k hk=> ?_)
    simp only [List.mem_cons,List.not_mem_nil,or_false] at hk
    rcases hk with rfl | rfl | rfl
    ·exact step _ o (hx _ (.head _)) h2
    ·exact step _ q (hx _ (.tail _ (.head _))) h3
    ·exact step _ p (hx _ (.tail _ (.tail _ (.head _)))) h4
   | [],hx,h=>exact h.go.elim
   | _::_::_::_::_,hx,h=>exact h.go.elim
end
section
variable {P:Program} {G:Gc} {O:List It} {F:List Pt} {n N id:Nat} {ro:Option Nat} {ds:List Deferred} {σ:Fm} {ops:Array Oper} {K:Kt} {m i j l:Nat}
structure EN (P:Program) (n:Nat) (ops:Array Oper) (N:Nat) (K:Fm→Pt) (f:Nat) (dn:List Nat) (m:Nat) (σ:Fm) (w:World):Prop where
 go:yv P n ops N K f dn m σ w
theorem ES {L:Fm→Pt} {f m:Nat} {dn:List Nat}:EN P n ops N L f dn m σ=yv P n ops N L f dn m σ:=funext fun w=>propext ⟨EN.go,EN.mk⟩
theorem q5 {L:Fm→Pt} {dn:List Nat} (h:Tr G O F (D0 ops N m (L σ))):Tr G O F (EN P n ops N L 0 dn m σ):=by rw [ES];exact h
theorem A5 {L:Fm→Pt} {f:Nat} {dn:List Nat} (h:Tr G O F (match Cp dn 0 ops.toList [] with
  | .tk i o=>Dp P ops m i (fun C=>Ge P n ops o σ C) (fun v=>pD (fun σ'=>EN P n ops N L f (i::dn) (m ||| 2^i) σ') σ v o.dst)
  | .ex [(i,o)]=>D1 ops N m i (kl P n ops o σ (fun σ'=>EN P n ops N L f (i::dn) (m ||| 2^i) σ'))
  | .ex [(i,o),(j,q)]=>D2 ops N m i j (kl P n ops o σ (fun σ'=>EN P n ops N L f (i::dn) (m ||| 2^i) σ')) (kl P n ops q σ (fun σ'=>EN P n ops N L f (j::dn) (m ||| 2^j) σ'))
  | .ex [(i,o),(j,q),(l,p)]=>D3 ops N m i j l (kl P n ops o σ (fun σ'=>EN P n ops N L f (i::dn) (m ||| 2^i) σ')) (kl P n ops q σ (fun σ'=>EN P n ops N L f (j::dn) (m ||| 2^j) σ')) (kl P n ops p σ (fun σ'=>EN P n ops N L f (l::dn) (m ||| 2^l) σ'))
  | _=>Nev 8)):Tr G O F (EN P n ops N L (f+1) dn m σ):=by
 simp only [ES] at h⊢
 unfold yv
 exact h
theorem J7 {A:Prop} {K:Fm→Pt} {f:Nat} {dn:List Nat} (h:A→Tr G O F (EN P n ops N K f dn m σ)):A→Tr G O F (EN P n ops N K f dn m σ):=h
theorem MJ {K:Fm→Pt} {f:Nat} {dn:List Nat} (h:Tr G O F (EN P n ops N K f dn m σ)):Tr G O F (EN P n ops N K f dn m σ):=h
theorem uy (hN:uj ops.toList 0=some N) (k:Tr G O F (EN P n ops N (K .nm ds) N [] 0 σ)) (hm:P.follows .mixedOrders=true:=by kernel_rfl) (hT:CT ops (bw ops) N=true:=by kernel_rfl):Tr G O F (Dw P ro n id ops ds σ K):=by
 refine ⟨fun w hp=> ?_⟩
 refine ⟨fun τ hk=>ke (fun _=>True) N (bw ops) (fun hR=> ?_) hm hT⟩
 exact tE hR (fun σ τ w hk h=>⟨ds,σ,τ,rfl,hk,h⟩) N [] 0 σ τ _ hk (k _ hp.drew).go
end
end Go.Cz
namespace Go.Cz
open Go Go.RowKit Go.Cs
structure LeF {X:Type} (live:X→Fm) (q:X→Prop) (Os:X→List It) (Fs:X→List Pt) (μ:X→Nat) (x:X) (G:Gc) (F:List Pt) (fl:Fm) (ds0 ds:List Deferred) (σ:Fm) (w:World):Prop where
 go:ds=ds0∧∃x',q x'∧Hs (live x') σ∧Hs fl σ∧Hp G (Os x') (Fs x'++F) w∧μ x'<μ x
section
variable {P:Program} {ro:Option Nat} {n:Nat} {c:Code} {ds:List Deferred} {σ:Fm} {K:Kt} {G:Gc} {O R:List It} {F:List Pt} {X:Type}
theorem eU {live:X→Fm} {q:X→Prop} {Os:X→List It} {Fs:X→List Pt} {μ:X→Nat} {x:X} {fl:Fm} {F':List Pt} (x':X) (hq:q x') (hw:Wk O (Os x')) (hμ:μ x'<μ x) (hF:∀f∈Fs x'++F',f∈F) (hl:Hs (live x') σ:=by unfold Hs;kernel_rfl) (hf:Hs fl σ:=by unfold Hs;kernel_rfl):
  Tr G O F (LeF live q Os Fs μ x G F' fl ds ds σ):=⟨fun w h=>⟨rfl,x',hq,hl,hf,h.wk hw hF,hμ⟩⟩
theorem jV {live:X→Fm} {q:X→Prop} {Os:X→List It} {μ:X→Nat} {x:X} {fl:Fm} (x':X) (hq:q x') (hw:Wk O (Os x')) (hμ:μ x'<μ x) {F':List Pt} (hF:∀f∈F',f∈F:=by first | exact fun _ h=>h | exact fun _ h=> .tail _ h | exact fun _ h=> .tail _ (.tail _ h)| exact fun _ h=> .tail _ (.tail _ (.tail _ h))) (hl:Hs (live x') σ:=by unfold Hs;kernel_rfl) (hf:Hs fl σ:=by unfold Hs;kernel_rfl):Tr G O F (Le live q Os μ x G F' fl ds ds σ):=a5 x' hl hq hw hμ hf hF
theorem Ij (live:X→Fm) (q:X→Prop) (Os:X→List It) (Fs:X→List Pt) (μ:X→Nat) (x0:X) (h0:q x0) (hl:Hs (live x0) σ) (hw:Wk O (Os x0)) (hF0:∀f∈Fs x0++F,f∈F)
  (round:∀x,q x→Tr G (Os x) (Fs x++F) (zj (fun fl=>CX (fun σ'=>EC P ro n c ds σ' (fun e ds' σ''=>match e with | .nm=>LeF live q Os Fs μ x G F fl ds ds' σ'' | .ex i=>K (.ex i) ds' σ'' | .rt=>K .rt ds' σ'')) (live x) fl) (qR c []) [] [] σ)):
  Tr G O F (Lp P ro n c ds σ K):=by
 simp only [et] at round
 refine ⟨fun w hp=> ?_⟩
 refine ⟨fun τ hk=> ?_⟩
 unfold i4
 refine ey (fun m a w'=>∃(x:X) (τ':Fm),a=Fr ds n τ'∧q x∧(∀p∈live x,lk τ' p.1=p.2)∧(∀t v,bmem t (qR c [])=false→lo σ t=some v→lk τ' t=v)∧Hp G (Os x) (Fs x++F) w'∧μ x=m) (μ x0)
  ⟨x0,τ,rfl,h0,fun p hpm=>hk _ _ (hl.lo hpm),fun t v _ h=>hk t v h,hp.wk hw hF0,rfl⟩ ?_
 rintro m a w' ⟨x,τ',rfl,hq,h1,h2,hp',rfl⟩
 obtain ⟨fl,h3,h4,_,h5⟩:=lF (τ:=τ') (round x hq w' hp') (fun p hp=>by cases hp) (fun t v _ g2 g3=>h2 t v g2 g3)
 rw [sj] at h3
 have hkn:Kn ((live x).reverse++fl) τ':=Kn.of_all fun p hp=>by
  rcases List.mem_append.1 hp with h9 | h9
  ·exact h1 p (List.mem_reverse.1 h9)
  ·exact h4 p h9
 refine wpIn_mono (jf c ds _ τ' _ w' hkn h3) ?_
 intro e a' w'' hQ
 cases e with
 | normal=>
  obtain ⟨ds',σ'',τ'',rfl,hk'',hL⟩:=hQ
  obtain ⟨rfl,x',hq',hl',hf',hp'',hlt⟩:=hL.go
  exact ⟨μ x',hlt,x',τ'',rfl,hq',fun p hpm=>hk'' _ _ (hl'.lo hpm),fun t v g1 g2=>hk'' t v (hf'.lo (h5 t v rfl g1 g2)),hp'',rfl⟩
 | exit i=>exact hQ
 | ret=>exact hQ
 | _=>exact hQ
theorem w6 (bs:List Nat) (live:X→Fm) (q:X→Prop) (Os:X→List It) (Fs:X→List Pt) (μ:X→Nat) (x0:X) [hr:Rbs O bs R] (h0:q x0) (hl:Hs (live x0) σ) (hw:Wk O (Os x0++R)) (hF0:∀f∈Fs x0++F,f∈F)
  (round:∀x,q x→Tr G (Os x++R) (Fs x++F) (zj (fun fl=>CX (fun σ'=>EC P ro n c ds σ' (fun e ds' σ''=>match e with | .nm=>LeF live q (fun x=>Os x++R) Fs μ x G F fl ds ds' σ'' | .ex i=>K (.ex i) ds' σ'' | .rt=>K .rt ds' σ'')) (live x) fl) (qR c []) [] [] σ)):
  Tr G O F (Lp P ro n c ds σ K):=Ij live q (fun x=>Os x++R) Fs μ x0 h0 hl hw hF0 round
end
theorem yV {P:Program} {O:List It} {F:List Pt} {T:TypeId} {x y:Operand} {vs us zs:List Value} {b:Prop} [hz:Zt P T zs] [h:Eqc P T vs zs b] (hb:b) (hu:us=zs:=by rfl):Yv P O F (.bin .neq T x y (vA vs) (vA us)) (.bool false):=by
 subst hu
 obtain ⟨r,h1,h2⟩:=h.eq
 have hr:=h2.2 hb
 subst hr
 exact ⟨fun w _ _=>gE (h1 w) h.gd⟩
theorem qK {P:Program} {O:List It} {F:List Pt} {T:TypeId} {x y:Operand} {vs us:List Value} {b:Prop} [h:Eqc P T vs us b] (hb:b):Yv P O F (.bin .neq T x y (vA vs) (vA us)) (.bool false):=by
 obtain ⟨r,h1,h2⟩:=h.eq
 have hr:=h2.2 hb
 subst hr
 exact ⟨fun w _ _=>gE (h1 w) h.gd⟩
class Mi (P:Program) (T:TypeId):Prop where
 mi:∀v w,(Instr.makeInterface T v).run P w= .ok (.iface T v) w
theorem nK {P:Program} {O:List It} {F:List Pt} {T:TypeId} {v:Value} [h:Mi P T]:Yv P O F (.mki T v) (.iface T v):=⟨fun w _ _=>h.mi v w⟩
theorem EH {P:Program} {O:List It} {F:List Pt} {T:TypeId} {x y:Operand} {i j:Int} {a:Nat} [hi:Ni i a] [hj:Ni j 1] (h2:a≤9223372036854775807:=by omega):Yv P O F (Ak.bin .sub T x y (.int .i64 i) (.int .i64 j)) (.int .i64 ((a:Int)-1)):=aC fun w=>by
 cases hi.ni;cases hj.ni
 show Result.ok (Value.int .i64 (IntKind.i64.wrap ((a:Int)-((1:Nat):Int)))) w=_
 rw [jz (y:=(a:Int)-1)]
structure Jd {X:Type} (live:X→Fm) (q:X→Prop) (Os:X→List It) (Fs:X→List Pt) (G:Gc) (F:List Pt) (ds0 ds:List Deferred) (σ:Fm) (w:World):Prop where
 go:ds=ds0∧∃x,q x∧Hs (live x) σ∧Hp G (Os x) (Fs x++F) w
def LE {X:Type} (live:X→Fm) (q:X→Prop) (Os:X→List It) (Fs:X→List Pt) (G:Gc) (F:List Pt) (ds0:List Deferred) (K:Kt):Kt:=fun e ds' σ'=>match e with | .nm=>Jd live q Os Fs G F ds0 ds' σ' | .ex i=>K (.ex i) ds' σ' | .rt=>K .rt ds' σ'
section
variable {P:Program} {ro:Option Nat} {n:Nat} {c:Code} {ds:List Deferred} {σ:Fm} {K:Kt} {G:Gc} {O:List It} {F:List Pt} {X:Type}
theorem d9 {live:X→Fm} {q:X→Prop} {Os:X→List It} {Fs:X→List Pt} {F':List Pt} (x:X) (hq:q x) (hw:Wk O (Os x)) (hF:∀f∈Fs x++F',f∈F) (hl:Hs (live x) σ:=by exact rfl):Tr G O F (Jd live q Os Fs G F' ds ds σ):=⟨fun w h=>⟨rfl,x,hq,hl,h.wk hw hF⟩⟩
theorem HB {live:X→Fm} {q:X→Prop} {Os:X→List It} {Fs:X→List Pt} (after:∀x,q x→Tr G (Os x) (Fs x++F) (K .nm ds (live x))) {e:Exit} {a:Act} {w:World} (h:KQ n (LE live q Os Fs G F ds K) e a w):KQ n K e a w:=by
 cases e with
 | normal=>
  obtain ⟨ds',σ'',τ'',rfl,hk'',hL⟩:=h
  obtain ⟨rfl,x,hq,hl,hp'⟩:=hL.go
  exact ⟨_,live x,τ'',rfl,Kn.of_all fun p hp=>hk'' _ _ (hl.lo hp),after x hq w hp'⟩
 | exit i=>exact h
 | ret=>exact h
 | _=>exact h
theorem I7 {id:Nat} {ops:Array Oper} (live:X→Fm) (q:X→Prop) (Os:X→List It) (Fs:X→List Pt) (h:Tr G O F (Dw P ro n id ops ds σ (LE live q Os Fs G F ds K))) (after:∀x,q x→Tr G (Os x) (Fs x++F) (K .nm ds (live x))):Tr G O F (Dw P ro n id ops ds σ K):=⟨fun w hp=>⟨fun τ hk=>wpIn_mono ((h w hp).go τ hk) fun e a w' hQ=>HB after hQ⟩⟩
theorem eD {id:Nat} {ops:Array Oper} (live:X→Fm) (q:X→Prop) (Os:X→List It) (Fs:X→List Pt) (h:∀K':Kt,Tr G O F (Dw P ro n id ops ds σ (LE live q Os Fs G F ds K'))) (after:∀x,q x→Tr G (Os x) (Fs x++F) (K .nm ds (live x))):Tr G O F (Dw P ro n id ops ds σ K):=I7 live q Os Fs (h K) after
end
end Go.Cz
namespace Go.Cz
open Go Go.RowKit Go.Cs
section
variable {P:Program} {G:Gc} {O O':List It} {F:List Pt} {C:Value→Pt} {T E ty:TypeId} {α:Type} {K:α→List Value} {z:α} {m bys n n2 c2 b A b1 A1:Nat} {t t2:List α} {p q:Prop}
theorem Eg [h:Ix P T E m none] [hz:Zk P E α K z m bys] [hK:CL K m] [hl1:Lb O F K (some ⟨b1,A1,none⟩) n n t p] [hl:Lb O F K (some ⟨b,A,none⟩) n2 c2 t2 q]
  (k:∀g c',Tr G (iN K m (some ⟨g,0,none⟩) (n+n2) c' E (t++t2)::O) F (C (.slice (some ⟨g,0,none⟩) (n+n2) c')))
  (hp:p:=by (repeat' (first | exact True.intro | refine And.intro ?_ ?_))<;>first | omega |(simp only [List.length_append,List.length_take,List.length_drop,List.length_replicate,List.length_set,List.length_map,List.length_nil,List.length_cons];omega)|(simp;done)|(simp;omega)) (hq:q:=by (repeat' (first | exact True.intro | refine And.intro ?_ ?_))<;>first | omega |(simp only [List.length_append,List.length_take,List.length_drop,List.length_replicate,List.length_set,List.length_map,List.length_nil,List.length_cons];omega)|(simp;done)|(simp;omega))
  (h2:0<n2:=by omega) (h63:n+n2≤9223372036854775807:=by omega) (hb:(n+n2)*bys≤140737488355328:=by omega):Tr G O F (Rv P (.bi .append #[T,T] ty [.slice (some ⟨b1,A1,none⟩) n n, .slice (some ⟨b,A,none⟩) n2 c2]) C):=by
 refine ⟨fun w hp0=> ?_⟩
 obtain ⟨hn1,hs1⟩:=hp0.en (hl1.lb hp)
 obtain ⟨hn2,hs2⟩:=hp0.en (hl.lb hq)
 obtain ⟨v,hE,hv⟩:=hz.zk
 obtain ⟨i,hi,hz1,hz2,hz3⟩:=info_parts hE
 subst hz2 hz3
 have hzs:v.cells.size=i.size:=by rw [hv];simpa using hK.len z
 have l1:(t.flatMap K).length=n*i.size:=by rw [b8,hn1]
 have l2:(t2.flatMap K).length=n2*i.size:=by rw [b8,hn2]
 have h63':n+n2≤maxLen:=by simpa [maxLen] using h63
 have hr:=run_append_grow (P:=P) w T ty E i v h.ix hi hz1 ⟨b1,A1,none⟩ n n (t.flatMap K) l1 (fun j u hu=>hs1.load_add hu) ⟨b,A,none⟩ n2 c2 (t2.flatMap K) l2 (fun j u hu=>hs2.load_add hu) (by omega) (by omega) (growslice_fits (by omega) hb)
 have hge:=grownCap_ge w (n+n2) n E
 have hcm:grownCap w (n+n2) n E≤maxLen:=grownCap_le_maxLen w (n+n2) n E h63'
 refine ⟨_,_,hr,k w.heap.size (grownCap w (n+n2) n E) _ ?_⟩
 have hch:Chg (·∈fps ([]:List It)) w (w.drew.alloc (.cells ((t.flatMap K).toArray++(t2.flatMap K).toArray++Builtin.zeroCells v.cells (grownCap w (n+n2) n E-(n+n2))) E)):=
  ((Ext.drew w).trans (Ext.alloc _ _)).mono fun k _ hk=>hk.elim
 have:=Hp.step (L:= []) (L':= [iN K i.size (some ⟨w.heap.size,0,none⟩) (n+n2) (grownCap w (n+n2) n E) E (t++t2)]) (F':= []) (by simpa using hp0) hch (by
  intro o ho;simp only [List.mem_singleton] at ho;subst ho
  refine ⟨by simp [hn1,hn2],by rw [List.flatMap_append,List.length_append,l1,l2,Nat.add_mul], .inr ⟨w.heap.size,_,_,rfl,Nat.zero_le _,heap_alloc_new w.drew _,hge,hcm, ?_, ?_⟩⟩
  ·simp only [Array.size_append,List.size_toArray,size_zeroCells,hzs,l1,l2,←Nat.add_mul]
   congr 1
   omega
  ·simp only [Array.toList_append,List.append_assoc]
   rw [←List.append_assoc,List.flatMap_append]
   exact List.take_left' (by rw [List.length_append,l1,l2,Nat.add_mul])) (by simp [iN]) (by
  intro k hk
  simp [iN] at hk;subst hk
  exact ⟨.inr (Nat.le_refl _),by simp⟩) (fun f hf=>by cases hf)
 simpa using this
end
end Go.Cz
