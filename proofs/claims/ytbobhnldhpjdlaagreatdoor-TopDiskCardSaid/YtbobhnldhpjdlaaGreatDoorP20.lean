/- Lemmas and walks: what each function does, by its own code. No condition beyond those of each statement. -/
import Derived.Test.YtbobhnldhpjdlaaGreatDoorP13
import Derived.Test.YtbobhnldhpjdlaaGreatDoorP15
import Derived.Test.YtbobhnldhpjdlaaGreatDoorP18
import Derived.Test.YtbobhnldhpjdlaaGreatDoorP19
set_option linter.all false
set_option linter.unusedVariables false
namespace Go.Proofs.YtbobhnldhpjdlaaGreatDoor
open Go Go.RowKit Go.Cs Go.Cz
set_option maxRecDepth 100000
set_option maxHeartbeats 1000000
theorem jB {y:Nod} {q:Value×Value} (h:bA y=0):Zp Tryz.prog 143 [vA (aU y)] [] [Gs q] Unit (fun _=>True) (fun _=> .tuple #[vA (ay (bI (aM y))),vI 0]) (fun _=> []) (fun _=> []):=by
 refine ak fun G=> ?_
 have e: [aM y].flatten=aM y:=by simp
 have hl:=FN y
 have hL:dx y≤185:=by unfold dx;split<;>decide
 have hb: [aM y].flatten.length≤1152921504606846976:=by rw [e,hl];omega
 (repeat' ((try refine aw ?_);(conv=>arg 4;whnf);first | refine az ?_ |(refine sN ?_;intro b)|((first | refine aA (oE (q:=q) h) ?_ | refine aA (JW (ls:= [aM y]) hb) ?_);intro x hx;refine aH ?_)| fail));(all_goals refine av ?_)
 rw [e]
 exact aD () True.intro rfl (am _)
theorem kI {n:Nat} {y:Nod} (h1:1≤n) (h2:n≤4096) (h:fj n y=0):Zp Tryz.prog 225 [vI n,vA (aU y)] [] [] Unit (fun _=>True) (fun _=>vI 0) (fun _=> []) (fun _=> []):=by
 refine ak fun G=> ?_
 have hc:bA y=0:=by
  unfold fj at h;split at h
  ·assumption
  ·cases h
 have hlj:y.lv≤hgt n∧y.ix<cnt n y.lv:=by
  unfold fj at h;rw [if_pos hc] at h;split at h
  ·assumption
  ·cases h
 have he:emp y (prt n y.lv y.ix)=true:=by
  unfold fj at h;rw [if_pos hc,if_pos hlj] at h;split at h
  ·assumption
  ·cases h
 have hck:=BV (x:=y)
 rw [hc] at hck
 have hz:∀i,i<4→¬i<prt n y.lv y.ix→y.rs.l.getD i default=Rec.zero∧y.es.l.getD i default=Ent.zero:=fun i hi hp=>by
  have:=List.all_eq_true.1 he i (List.mem_range.2 hi)
  simp only [Bool.or_eq_true,decide_eq_true_eq,hp,false_or,Bool.and_eq_true] at this
  exact ⟨(Rec.eqb_iff _ _).1 this.1,(Ent.eqb_iff _ _).1 this.2⟩
 have hp4:prt n y.lv y.ix≤4:=Nat.min_le_left _ _
 have hlv:=y.hlv
 have hix:=y.hix
 (repeat' ((try refine aw ?_);(conv=>arg 4;whnf);first | refine az ?_ |(refine sN ?_;intro b)|(refine au ?_ ?_<;>intro h<;>try contradiction)|((first | refine aA (kM h1 h2) ?_ | refine aA hck ?_ | refine aA (JH h1 h2 hlj.1 hlj.2) ?_);intro x hx;refine aH ?_)| exact ax | fail));(all_goals refine av ?_)
 generalize hP:prt n y.lv y.ix=p at hz hp4⊢
 refine dh [] (X:=Nat) (fun i=> [(4,vI 0),(9,vI i)]) (fun i=>p≤i∧i≤4) (fun i=> []) (fun i=>4-i) p ⟨Nat.le_refl _,hp4⟩ rfl (ar _) ?_
 rintro i ⟨hi,hi4⟩
 (conv=>arg 2;simp only [List.cons_append,List.nil_append])
 by_cases h5:i<4
 ·obtain ⟨hr,hE⟩:=hz i h5 (by omega)
  (repeat' ((try refine aw ?_);(conv=>arg 4;whnf);first | refine az ?_ |(refine sN ?_;intro b)|(refine au ?_ ?_<;>intro h<;>try contradiction)| exact ax | fail));(all_goals refine av ?_)
  exact a5 (i+1) rfl ⟨by omega,h5⟩ cD (by omega)
 ·(repeat' ((try refine aw ?_);(conv=>arg 4;whnf);first | refine az ?_ |(refine sN ?_;intro b)|(refine au ?_ ?_<;>intro h<;>try contradiction)| exact ax | fail));(all_goals refine av ?_)
theorem DX {n:Nat} {q:Value×Value} (h1:1≤n) (h2:n≤4096):Zp Tryz.prog 161 [vI n] [] [Gs q] Unit (fun _=>True) (fun _=> .tuple #[vA (aL (gO n)),vI 0]) (fun _=> []) (fun _=> []):=by
 refine ak fun G=> ?_
 have h5:=a8 n
 have hc:=xq h5
 (repeat' ((try refine aw ?_);(conv=>arg 4;whnf);first | refine az ?_ |(refine sN ?_;intro b)|((first | refine aA (rB h1 h2) ?_ | refine aA (wZ (lv:=hgt n) (ix:=0) (by omega) (by decide)) ?_ | refine aA (jB (q:=q) hc) ?_);intro x hx;refine aH ?_)| exact ax | fail));(all_goals refine av ?_)
 trace_state
theorem nL {y:Cel}:Zp Tryz.prog 137 [vA (aL y)] [] [] Unit (fun _=>True) (fun _=>vI (y.ep%2)) (fun _=> []) (fun _=> []):=by
 refine ak fun G=> ?_
 (repeat' ((try refine aw ?_);(conv=>arg 4;whnf);first | refine az ?_ |(refine sN ?_;intro b)| exact ax | fail));(all_goals refine av ?_)
theorem wX {y:Cel} {d:Dig} (h:y.ep<2^63):Zp Tryz.prog 128 [vA (aL y),vA (ay d)] [] [] Unit (fun _=>True) (fun _=> .tuple #[vA (aL (y.nxt d)),vI 0]) (fun _=> []) (fun _=> []):=by
 refine ak fun G=> ?_
 have hep:=y.hep
 have i1:Nu 18446744073709551616 ((y.ep+1:Nat):Int) (y.ep+1):=⟨rfl,by omega⟩
 rw [show y.nxt d=⟨d,y.ep+1,y.mark,by omega,y.hmk⟩ by unfold Cel.nxt;simp only [Cel.mk.injEq,true_and,and_true];omega]
 (repeat' ((try refine aw ?_);(conv=>arg 4;whnf);first | refine az ?_ |(refine sN ?_;intro b)| exact ax | fail));(all_goals refine av ?_)
theorem HX {y:Cel} {k lim:Nat} (h:0<k) (h2:y.mark+k≤lim) (h3:lim<2^64):Zp Tryz.prog 184 [vA (aL y), .int .u64 ((k:Nat):Int), .int .u64 ((lim:Nat):Int)] [] [] Unit (fun _=>True) (fun _=> .tuple #[vA (aL (y.rsv k)),vI 0]) (fun _=> []) (fun _=> []):=by
 refine ak fun G=> ?_
 have hmk:=y.hmk
 have i1:Nu 18446744073709551616 ((y.mark+k:Nat):Int) (y.mark+k):=⟨rfl,by omega⟩
 rw [show y.rsv k=⟨y.root,y.ep,y.mark+k,y.hep,by omega⟩ by unfold Cel.rsv;simp only [Cel.mk.injEq,true_and,and_true];omega]
 (repeat' ((try refine aw ?_);(conv=>arg 4;whnf);first | refine az ?_ |(refine sN ?_;intro b)| exact ax | fail));(all_goals refine av ?_)
end Go.Proofs.YtbobhnldhpjdlaaGreatDoor
namespace Go.Proofs.YtbobhnldhpjdlaaGreatDoor
open Go Go.RowKit Go.Cs Go.Cz
set_option maxRecDepth 100000
set_option maxHeartbeats 2000000
theorem G4 {n:Nat} (h1:1≤n) (h2:n≤4096):Zp Tryz.prog 229 [vI n] [] [] (Sv×Sv) (fun _=>True) (fun x=> .tuple #[vA (cd ⟨n,x.1,x.2⟩),vI 0]) (fun _=> []) (fun x=> [Sl cI x.1.1 x.1.2.1 x.1.2.2 (eW n (hgt n+1)),Sl cI x.2.1 x.2.2.1 x.2.2.2 (dC n (hgt n+1))]):=by
 refine ak fun G=> ?_
 have h5:=a8 n
 (repeat' ((try refine aw ?_);(conv=>arg 4;whnf);first | refine az ?_ |(refine sN ?_;intro b)|(refine aa ?_;intro g c')|(refine aA (rB h1 h2) ?_;intro x hx;refine aH ?_)| fail));(all_goals refine av ?_)
 refine dh [b] (X:=Nat×(Option Addr×Nat)×(Option Addr×Nat)) (fun x=> [(7,vI (num n x.1)),(24,vI x.1)]) (fun x=>x.1≤hgt n+1)
  (fun x=> [iB b (cd ⟨n,(x.2.1.1,x.1,x.2.1.2),(x.2.2.1,x.1,x.2.2.2)⟩) 293,iN cI 1 x.2.1.1 x.1 x.2.1.2 3 (eW n x.1),iN cI 1 x.2.2.1 x.1 x.2.2.2 3 (dC n x.1)]) (fun x=>hgt n+1-x.1) (0,(none,0),(none,0)) (Nat.zero_le _) rfl (by ((repeat' (first | with_reducible exact ar _ | exact am _ | refine aE ?_ ?_ | refine aX ?_ | refine qT rfl ?_))<;>(try with_reducible rfl))) ?_
 rintro ⟨v,⟨a1,c1⟩,a2,c2⟩ hv
 (conv=>arg 2;simp only [List.cons_append,List.nil_append])
 dsimp only at hv⊢
 have hs:=cz h2 (l:=v) (by omega)
 have hcn:=cH n v
 by_cases h:v<hgt n+1
 ·(repeat' ((try refine aw ?_);(conv=>arg 4;whnf);first | refine az ?_ |(refine sN ?_;intro b)|(refine aa ?_;intro g c')|(refine aA (B1 h1 h2 (Nat.le_of_lt_succ h)) ?_;intro x hx;refine aH ?_)| fail));(all_goals refine av ?_)
  rename_i g1 d1
  refine a5 (v+1,(some ⟨g1,0,none⟩,d1),(some ⟨g,0,none⟩,c')) rfl h ?_ (by dsimp only;omega)
  dsimp only
  rw [oh,od]
  ((repeat' (first | with_reducible exact ar _ | exact am _ | refine aE ?_ ?_ | refine aX ?_))<;>(try with_reducible rfl))
 ·obtain rfl:v=hgt n+1:=by omega
  (repeat' ((try refine aw ?_);(conv=>arg 4;whnf);first | refine az ?_ |(refine sN ?_;intro b)|(refine aa ?_;intro g c')| fail));(all_goals refine av ?_)
  refine eE (m:=1) (e:=3) cI a1 (hgt n+1) c1 ?_
  refine eE (m:=1) (e:=3) cI a2 (hgt n+1) c2 ?_
  exact aD ((a1,hgt n+1,c1),(a2,hgt n+1,c2)) True.intro rfl (am _) bu
theorem Fl {n:Nat} {s1 s2:Sv} (h1:1≤n) (h2:n≤4096):Zp Tryz.prog 230 [vA (cd ⟨n,s1,s2⟩)] [] [Sl cI s2.1 s2.2.1 s2.2.2 (dC n (hgt n+1))] Unit (fun _=>True) (fun x=>vI (tot n)) (fun _=> []) (fun x=> []):=by
 obtain ⟨a1,n1,c1⟩:=s1
 obtain ⟨a2,n2,c2⟩:=s2
 refine ak fun G=> ?_
 have h5:=a8 n
 refine aS 0 ?_
 intro hn hc hm ha
 rw [cj] at hn
 dsimp only at hn hc hm ha
 obtain ⟨b,o,rfl⟩:=ha (by omega) (by decide)
 have hs:=cz h2 (l:=hgt n) (by omega)
 have hg:(dC n (hgt n+1)).getD (hgt n+1-1) default=num n (hgt n):=er (by omega)
 have hl:=cj n (hgt n+1)
 subst hn
 rw [eR h1 h2,←hg]
 have hg2:(dC n (hgt n+1)).getD (hgt n+1-1) default≤24576:=by omega
 (repeat' ((try refine aw ?_);(conv=>arg 4;whnf);first | refine az ?_ |(refine sN ?_;intro b)| exact ax | fail));(all_goals refine av ?_)
theorem sJ {n l j:Nat} {s1 s2:Sv} (h2:n≤4096) (hl:l≤hgt n) (hj:j≤4096):Zp Tryz.prog 152 [vA (cd ⟨n,s1,s2⟩),vI l,vI j] [] [Sl cI s2.1 s2.2.1 s2.2.2 (dC n (hgt n+1))] Unit (fun _=>True) (fun x=>vI (num n l+j)) (fun _=> []) (fun x=> []):=by
 obtain ⟨a1,n1,c1⟩:=s1
 obtain ⟨a2,n2,c2⟩:=s2
 refine ak fun G=> ?_
 have h5:=a8 n
 refine aS 0 ?_
 intro hn hc hm ha
 rw [cj] at hn
 dsimp only at hn hc hm ha
 obtain ⟨b,o,rfl⟩:=ha (by omega) (by decide)
 have hs:=cz h2 (l:=l) (by omega)
 have hg:(dC n (hgt n+1)).getD l default=num n l:=er (by omega)
 have hl:=cj n (hgt n+1)
 subst hn
 rw [←hg]
 have hg2:(dC n (hgt n+1)).getD l default≤24576:=by omega
 (repeat' ((try refine aw ?_);(conv=>arg 4;whnf);first | refine az ?_ |(refine sN ?_;intro b)| exact ax | fail));(all_goals refine av ?_)
end Go.Proofs.YtbobhnldhpjdlaaGreatDoor
namespace Go.Proofs.YtbobhnldhpjdlaaGreatDoor
open Go Go.RowKit Go.Cs Go.Cz
set_option maxRecDepth 100000
set_option maxHeartbeats 4000000
def Kf (b2 b3 b4:Nat) (n tb to m c:Nat) (a1:Option Addr) (n1 c1:Nat) (a2:Option Addr) (n2 c2:Nat) (ts:List Nod):List Pt:= [Bk b2 [.slice (some ⟨tb,to,none⟩) m c],Bk b3 (cd ⟨n,(a1,n1,c1),(a2,n2,c2)⟩),Bk b4 [.func (.func 324) #[] #[vP b2 0,vP b3 0,vP b4 0]],Sl aU (some ⟨tb,to,none⟩) m c ts,Sl cI a1 n1 c1 (eW n (hgt n+1))]
theorem Ja {b2 b3 b4:Nat} {n tb to m c:Nat} {a1:Option Addr} {n1 c1:Nat} {a2:Option Addr} {n2 c2:Nat} {ts:List Nod} (h1:1≤n) (h2:n≤4096) (ht:ts.length=tot n):∀(l j:Nat),l≤hgt n→j<cnt n l→
  Zp Tryz.prog 324 [vI l,vI j,vP b2 0,vP b3 0,vP b4 0] [] (Kf b2 b3 b4 n tb to m c a1 n1 c1 a2 n2 c2 ts) Unit (fun _=>True) (fun _=> .bool (mQ n ts l j)) (fun _=> []) (fun _=> []):=by
 have h5:=a8 n
 have htl:=eR h1 h2
 intro l
 induction l with
 | zero=>
  intro j hl hj
  refine ak fun G=> ?_
  unfold Kf
  refine aS 3 ?_
  intro hn hc hm ha
  have hjt:j<ts.length:=by have:=c7 n (l:=1) (m:=hgt n+1) (by omega);rw [ht,tot];simp only [num] at this⊢;omega
  have hu:=pA (ts.getD j default) 4
  have e0:mQ n ts 0 j=(usd (ts.getD j default) 4==0):=by
   show (usd (ts.getD (0+j) Nod.zero) 4==0)=_
   rw [Nat.zero_add];rfl
  by_cases hu0:usd (ts.getD j default) 4=0
  ·rw [e0,hu0]
   (repeat' ((try refine aw ?_);(conv=>arg 4;whnf);first | refine az ?_ |(refine aA pJ ?_;intro x hx;refine aH ?_)| exact ax | fail));(all_goals refine av ?_)
  ·rw [e0,beq_eq_false_iff_ne.2 hu0]
   (repeat' ((try refine aw ?_);(conv=>arg 4;whnf);first | refine az ?_ |(refine aA pJ ?_;intro x hx;refine aH ?_)| exact ax | fail));(all_goals refine av ?_)
 | succ l ih=>
  intro j hl hj
  refine ak fun G=> ?_
  unfold Kf
  refine aS 4 ?_
  intro hn hc hm ha
  rw [dA] at hn
  subst hn
  obtain ⟨b,o,rfl⟩:=ha (by omega) (by decide)
  have hp4:prt n (l+1) j≤4:=Nat.min_le_left _ _
  have hcn:=cH n (l+1)
  have hcn2:=cH n l
  have hpd:prt n (l+1) j=min 4 (cnt n l-4*j):=rfl
  have hcl:=dA n (hgt n+1)
  have hg:(eW n (hgt n+1)).getD (l+1-1) default=cnt n l:=ia (by omega)
  have hl1:(l+1:Nat)≠0:=by omega
  (repeat' ((try refine aw ?_);(conv=>arg 4;whnf);first | refine az ?_ | exact ax | fail));(all_goals refine av ?_)
  refine dh [] (X:=Nat) (fun w=> [(7, .bool false),(8,vI (4*j+w))]) (fun w=>w≤prt n (l+1) j∧∀k,k<w→mQ n ts l (4*j+k)=true) (fun w=> []) (fun w=>4-w) 0 ⟨Nat.zero_le _,fun k h=>absurd h (Nat.not_lt_zero _)⟩ rfl (ar _) ?_
  rintro w ⟨hw,hall⟩
  (conv=>arg 2;simp only [List.cons_append,List.nil_append])
  by_cases h:w<prt n (l+1) j
  ·have hz:=ih (4*j+w) (by omega) (by omega)
   by_cases he:mQ n ts l (4*j+w)=true
   ·rw [he] at hz
    (repeat' ((try refine aw ?_);(conv=>arg 4;whnf);first | refine az ?_ |(refine sK hz ?_;intro x hx;refine aH ?_)| exact ax | fail));(all_goals refine av ?_)
    exact a5 (w+1) rfl ⟨by omega,fun k hk=>by
     rcases Nat.lt_succ_iff_lt_or_eq.1 hk with g | rfl
     ·exact hall k g
     ·exact he⟩ cD (by omega)
   ·have he':mQ n ts l (4*j+w)=false:=by simpa using he
    rw [he'] at hz
    rw [CA h he']
    (repeat' ((try refine aw ?_);(conv=>arg 4;whnf);first | refine az ?_ |(refine sK hz ?_;intro x hx;refine aH ?_)| exact ax | fail));(all_goals refine av ?_)
  ·obtain rfl:w=prt n (l+1) j:=by omega
   rw [rH.2 hall]
   (repeat' ((try refine aw ?_);(conv=>arg 4;whnf);first | refine az ?_ | exact ax | fail));(all_goals refine av ?_)
end Go.Proofs.YtbobhnldhpjdlaaGreatDoor
