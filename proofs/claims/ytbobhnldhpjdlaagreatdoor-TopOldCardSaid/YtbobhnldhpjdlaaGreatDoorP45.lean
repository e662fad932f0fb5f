/- Lemmas and walks: what each function does, by its own code. No condition beyond those of each statement. -/
import Derived.Test.YtbobhnldhpjdlaaGreatDoorP15
import Derived.Test.YtbobhnldhpjdlaaGreatDoorP19
import Derived.Test.YtbobhnldhpjdlaaGreatDoorP27
import Derived.Test.YtbobhnldhpjdlaaGreatDoorP44
set_option linter.all false
set_option linter.unusedVariables false
namespace Go.Proofs.YtbobhnldhpjdlaaGreatDoor
open Go Go.RowKit Go.Cs Go.Cz
set_option maxRecDepth 100000
set_option maxHeartbeats 1000000
theorem Iw {y:Non}:Zp Tryz.prog 186 [vA (br y),vI 0,vI 32] [] [] Unit (fun _=>True) (fun _=> .tuple #[vA (b6 ⟨y,0,1⟩),vI 0]) (fun _=> []) (fun _=> []):=by
 refine ak fun G=> ?_
 (repeat' ((try refine aw ?_);(conv=>arg 4;whnf);first | refine az ?_ |(refine sN ?_;intro b)|(refine sC ?_ ?_<;>intro h)|(refine au ?_ ?_<;>intro h<;>try contradiction)|(refine aa ?_;intro g c')|(refine aA (EK (o:=0) (n:=32) (by decide)) ?_;intro x hx;refine aH ?_)| refine ae ?_ | refine ai ?_ | exact ax |(refine aj rfl ?_;intro D lL)| refine af ?_ ?_ | refine ah ?_ ?_ ?_ | fail));(all_goals refine av ?_)
theorem EE {u:SUse} (h:u.Range.First≤u.Range.Last):Zp Tryz.prog 169 [vA (bP u)] [] [] Unit (fun _=>True) (fun _=> .bool true) (fun _=> []) (fun _=> []):=by
 refine ak fun G=> ?_
 (repeat' ((try refine aw ?_);(conv=>arg 4;whnf);first | refine az ?_ |(refine sN ?_;intro b)|(refine sC ?_ ?_<;>intro h)|(refine au ?_ ?_<;>intro h<;>try contradiction)|(refine aa ?_;intro g c')| refine ae ?_ | refine ai ?_ | exact ax |(refine aj rfl ?_;intro D lL)| refine af ?_ ?_ | refine ah ?_ ?_ ?_ | fail));(all_goals refine av ?_)
theorem BJ {a:Option Addr} {n c:Nat} {us:List SUse} (h:us.length≤65536) (hv:∀i,i<us.length→(us.getD i default).Range.First≤(us.getD i default).Range.Last):Zp Tryz.prog 55 [vA (b0 ⟨(a,n,c)⟩)] [] [Sl bP a n c us] Unit (fun _=>True) (fun _=>vI 0) (fun _=> []) (fun _=> []):=by
 refine ak fun G=> ?_
 refine aS 0 ?_
 intro hn hc hm ha
 subst hn
 (repeat' ((try refine aw ?_);(conv=>arg 4;whnf);first | refine az ?_ |(refine sN ?_;intro b)|(refine sC ?_ ?_<;>intro h)|(refine au ?_ ?_<;>intro h<;>try contradiction)|(refine aa ?_;intro g c')| refine ae ?_ | refine ai ?_ | exact ax |(refine aj rfl ?_;intro D lL)| refine af ?_ ?_ | refine ah ?_ ?_ ?_ | fail));(all_goals refine av ?_)
 refine dh [] (X:=Nat) (fun i=> [(2,vI 0),(12,vI i)]) (fun i=>i≤us.length) (fun i=> []) (fun i=>us.length-i) 0 (Nat.zero_le _) rfl (ar _) ?_
 intro i hi
 (conv=>arg 2;simp only [List.cons_append,List.nil_append])
 by_cases h1:i<us.length
 ·obtain ⟨sb,o,rfl⟩:=ha (by omega) (by decide)
  (repeat' ((try refine aw ?_);(conv=>arg 4;whnf);first | refine az ?_ |(refine sN ?_;intro b)|(refine sC ?_ ?_<;>intro h)|(refine au ?_ ?_<;>intro h<;>try contradiction)|(refine aa ?_;intro g c')|(refine aA (EE (hv i h1)) ?_;intro x hx;refine aH ?_)| refine ae ?_ | refine ai ?_ | exact ax |(refine aj rfl ?_;intro D lL)| refine af ?_ ?_ | refine ah ?_ ?_ ?_ | fail));(all_goals refine av ?_)
  exact a5 (i+1) rfl h1 cD (by omega)
 ·(repeat' ((try refine aw ?_);(conv=>arg 4;whnf);first | refine az ?_ |(refine sN ?_;intro b)|(refine sC ?_ ?_<;>intro h)|(refine au ?_ ?_<;>intro h<;>try contradiction)|(refine aa ?_;intro g c')| refine ae ?_ | refine ai ?_ | exact ax |(refine aj rfl ?_;intro D lL)| refine af ?_ ?_ | refine ah ?_ ?_ ?_ | fail));(all_goals refine av ?_)
theorem Jk {a:Option Addr} {n c:Nat} {us:List SUse} {u:SUse} (h:us.length<65536) (hv:∀i,i<us.length→(us.getD i default).Range.First≤(us.getD i default).Range.Last) (hu:u.Range.First≤u.Range.Last):Zp Tryz.prog 187 [vA (b0 ⟨(a,n,c)⟩),vA (bP u)] [] [Sl bP a n c us] Nat (fun x=>True) (fun x=> .tuple #[vA (b0 ⟨(some ⟨x,0,none⟩,us.length+1,us.length+1)⟩),vI 0]) (fun _=> []) (fun x=> [Sl bP (some ⟨x,0,none⟩) (us.length+1) (us.length+1) (us++ [u])]):=by
 refine ak fun G=> ?_
 refine aS 0 ?_
 intro hn hc hm ha
 subst hn
 (repeat' ((try refine aw ?_);(conv=>arg 4;whnf);first | refine az ?_ |(refine sN ?_;intro b)|(refine sC ?_ ?_<;>intro h)|(refine au ?_ ?_<;>intro h<;>try contradiction)|(refine aa ?_;intro g c')|((first | refine aA (BJ (Nat.le_of_lt h) hv) ?_ | refine aA (EE hu) ?_);intro x hx;refine aH ?_)| refine ae ?_ | refine ai ?_ | exact ax |(refine aj rfl ?_;intro D lL)| refine af ?_ ?_ | refine ah ?_ ?_ ?_ | fail));(all_goals refine av ?_)
 refine gJ 3 (bN ?_)
 (repeat' ((try refine aw ?_);(conv=>arg 4;whnf);first | refine az ?_ |(refine sN ?_;intro b)|(refine sC ?_ ?_<;>intro h)|(refine au ?_ ?_<;>intro h<;>try contradiction)|(refine aa ?_;intro g c')| refine ae ?_ | refine ai ?_ | exact ax |(refine aj rfl ?_;intro D lL)| refine af ?_ ?_ | refine ah ?_ ?_ ?_ | fail));(all_goals refine av ?_)
 refine bN ?_
 (repeat' ((try refine aw ?_);(conv=>arg 4;whnf);first | refine az ?_ |(refine sN ?_;intro b)|(refine sC ?_ ?_<;>intro h)|(refine au ?_ ?_<;>intro h<;>try contradiction)|(refine aa ?_;intro g c')| refine ae ?_ | refine ai ?_ | exact ax |(refine aj rfl ?_;intro D lL)| refine af ?_ ?_ | refine ah ?_ ?_ ?_ | fail));(all_goals refine av ?_)
 refine bN ?_
 (repeat' ((try refine aw ?_);(conv=>arg 4;whnf);first | refine az ?_ |(refine sN ?_;intro b)|(refine sC ?_ ?_<;>intro h)|(refine au ?_ ?_<;>intro h<;>try contradiction)|(refine aa ?_;intro g c')| refine ae ?_ | refine ai ?_ | exact ax |(refine aj rfl ?_;intro D lL)| refine af ?_ ?_ | refine ah ?_ ?_ ?_ | fail));(all_goals refine av ?_)
 refine Hx ?_
 intro g c' hc1 hc2
 (repeat' ((try refine aw ?_);(conv=>arg 4;whnf);first | refine az ?_ |(refine sN ?_;intro b)|(refine sC ?_ ?_<;>intro h)|(refine au ?_ ?_<;>intro h<;>try contradiction)|(refine aa ?_;intro g c')| refine ae ?_ | refine ai ?_ | exact ax |(refine aj rfl ?_;intro D lL)| refine af ?_ ?_ | refine ah ?_ ?_ ?_ | fail));(all_goals refine av ?_)
 refine gJ 3 (bN ?_)
 rcases Nat.eq_zero_or_pos us.length with h0 | h0
 ·obtain rfl:us= []:=List.length_eq_zero_iff.1 h0
  have hc3:1≤c':=by simp at hc1;omega
  have hs1:(spl (List.replicate c' SUse.zero) 0 [u]).length=c':=by rw [k8 _ _ _ (by simp;omega)];simp
  (repeat' ((try refine aw ?_);(conv=>arg 4;whnf);first | refine az ?_ |(refine sN ?_;intro b)|(refine sC ?_ ?_<;>intro h)|(refine au ?_ ?_<;>intro h<;>try contradiction)|(refine aa ?_;intro g c')| refine ae ?_ | refine ai ?_ | exact ax |(refine aj rfl ?_;intro D lL)| refine af ?_ ?_ | refine ah ?_ ?_ ?_ | fail));(all_goals refine av ?_)
  refine bN ?_
  (repeat' ((try refine aw ?_);(conv=>arg 4;whnf);first | refine az ?_ |(refine sN ?_;intro b)|(refine sC ?_ ?_<;>intro h)|(refine au ?_ ?_<;>intro h<;>try contradiction)|(refine aa ?_;intro g c')| refine ae ?_ | refine ai ?_ | exact ax |(refine aj rfl ?_;intro D lL)| refine af ?_ ?_ | refine ah ?_ ?_ ?_ | fail));(all_goals refine av ?_)
  refine bN ?_
  (repeat' ((try refine aw ?_);(conv=>arg 4;whnf);first | refine az ?_ |(refine sN ?_;intro b)|(refine sC ?_ ?_<;>intro h)|(refine au ?_ ?_<;>intro h<;>try contradiction)|(refine aa ?_;intro g c')| refine ae ?_ | refine ai ?_ | exact ax |(refine aj rfl ?_;intro D lL)| refine af ?_ ?_ | refine ah ?_ ?_ ?_ | fail));(all_goals refine av ?_)
  refine eK g c' c' ?_
  refine Eu 0 (([]:List SUse).length+1) (([]:List SUse).length+1) (([]:List SUse)++ [u]) ?_ (he:=by simp [spl])
  exact aD g True.intro rfl (am _) bu
 ·obtain ⟨sb,o,rfl⟩:=ha h0 (by decide)
  have hsl:(spl (List.replicate c' SUse.zero) 0 us).length=c':=by rw [k8 _ _ _ (by simp;omega)];simp
  have hs2:(spl (spl (List.replicate c' SUse.zero) 0 us) (0+us.length) [u]).length=c':=by rw [k8 _ _ _ (by rw [hsl];simp;omega),hsl]
  (repeat' ((try refine aw ?_);(conv=>arg 4;whnf);first | refine az ?_ |(refine sN ?_;intro b)|(refine sC ?_ ?_<;>intro h)|(refine au ?_ ?_<;>intro h<;>try contradiction)|(refine aa ?_;intro g c')| refine ae ?_ | refine ai ?_ | exact ax |(refine aj rfl ?_;intro D lL)| refine af ?_ ?_ | refine ah ?_ ?_ ?_ | fail));(all_goals refine av ?_)
  refine bN ?_
  (repeat' ((try refine aw ?_);(conv=>arg 4;whnf);first | refine az ?_ |(refine sN ?_;intro b)|(refine sC ?_ ?_<;>intro h)|(refine au ?_ ?_<;>intro h<;>try contradiction)|(refine aa ?_;intro g c')| refine ae ?_ | refine ai ?_ | exact ax |(refine aj rfl ?_;intro D lL)| refine af ?_ ?_ | refine ah ?_ ?_ ?_ | fail));(all_goals refine av ?_)
  refine bN ?_
  (repeat' ((try refine aw ?_);(conv=>arg 4;whnf);first | refine az ?_ |(refine sN ?_;intro b)|(refine sC ?_ ?_<;>intro h)|(refine au ?_ ?_<;>intro h<;>try contradiction)|(refine aa ?_;intro g c')| refine ae ?_ | refine ai ?_ | exact ax |(refine aj rfl ?_;intro D lL)| refine af ?_ ?_ | refine ah ?_ ?_ ?_ | fail));(all_goals refine av ?_)
  refine eK g c' c' ?_
  refine Eu 0 (us.length+1) (us.length+1) (us++ [u]) ?_ (he:=by simp [spl,z6])
  exact aD g True.intro (by simp only [Nat.zero_add];rfl) (am _) bu
end Go.Proofs.YtbobhnldhpjdlaaGreatDoor
namespace Go.Proofs.YtbobhnldhpjdlaaGreatDoor
open Go Go.RowKit Go.Cs Go.Cz
set_option maxRecDepth 100000
set_option maxHeartbeats 4000000
theorem Iy {u v:SRng} (h:u.Nonce≠v.Nonce):Zp Tryz.prog 59 [vA (b6 u),vA (b6 v)] [] [] Unit (fun _=>True) (fun _=> .bool false) (fun _=> []) (fun _=> []):=by
 refine ak fun G=> ?_
 (repeat' ((try refine aw ?_);(conv=>arg 4;whnf);first | refine aO ?_ |(refine sN ?_;intro b)|(refine sC ?_ ?_<;>intro h)|(refine au ?_ ?_<;>intro h<;>try contradiction)|(refine aa ?_;intro g c')| refine ae ?_ | refine ai ?_ | exact ax |(refine aj rfl ?_;intro D lL)| refine af ?_ ?_ | refine ah ?_ ?_ ?_ | fail));(all_goals refine av ?_)
section
variable {a:Option Addr} {n c:Nat} {us:List SUse} {k:B16}
theorem Jp (hl:us.length≤65536) (hk:∀i,i<us.length→(us.getD i default).Key=k):Zp Tryz.prog 56 [vA (b0 ⟨(a,n,c)⟩),vA (dE k)] [] [Sl bP a n c us] Unit (fun _=>True) (fun _=>vI us.length) (fun _=> []) (fun _=> []):=by
 refine ak fun G=> ?_
 refine aS 0 ?_
 intro hn hc hm ha
 subst hn
 (repeat' ((try refine aw ?_);(conv=>arg 4;whnf);first | refine az ?_ |(refine sN ?_;intro b)|(refine sC ?_ ?_<;>intro h)|(refine au ?_ ?_<;>intro h<;>try contradiction)|(refine aa ?_;intro g c')| refine ae ?_ | refine ai ?_ | exact ax |(refine aj rfl ?_;intro D lL)| refine af ?_ ?_ | refine ah ?_ ?_ ?_ | fail));(all_goals refine av ?_)
 refine dh [] (X:=Nat) (fun i=> [(5,vI i),(11,vI i)]) (fun i=>i≤us.length) (fun i=> []) (fun i=>us.length-i) 0 (Nat.zero_le _) rfl cD ?_
 intro i hi
 (conv=>arg 2;simp only [List.cons_append,List.nil_append])
 by_cases h1:i<us.length
 ·obtain ⟨sb,o,rfl⟩:=ha (by omega) (by decide)
  have hki:=hk i h1
  (repeat' ((try refine aw ?_);(conv=>arg 4;whnf);first | refine az ?_ |(refine sN ?_;intro b)|(refine sC ?_ ?_<;>intro h)|(refine au ?_ ?_<;>intro h<;>try contradiction)|(refine aa ?_;intro g c')| refine ae ?_ | refine ai ?_ | exact ax |(refine aj rfl ?_;intro D lL)| refine af ?_ ?_ | refine ah ?_ ?_ ?_ | fail));(all_goals refine av ?_)
  exact jV (i+1) h1 cD (by omega)
 ·obtain rfl:i=us.length:=by omega
  (repeat' ((try refine aw ?_);(conv=>arg 4;whnf);first | refine az ?_ |(refine sN ?_;intro b)|(refine sC ?_ ?_<;>intro h)|(refine au ?_ ?_<;>intro h<;>try contradiction)|(refine aa ?_;intro g c')| refine ae ?_ | refine ai ?_ | exact ax |(refine aj rfl ?_;intro D lL)| refine af ?_ ?_ | refine ah ?_ ?_ ?_ | fail));(all_goals refine av ?_)
theorem GO (x y:SLpl) (w:World):(Op.equal 317 (vA (cM x)) (vA (cM y))).run Tryz.prog w= .ok (x.key.l==y.key.l&&(x.nonce.eqb y.nonce&&true)) w:=
 cp (dd:=9999) (fs:= [(true,65,16)]) (by kernel_rfl) (by kernel_rfl) (a6 (aT (us:=dE x.key) (sz:=16) (o:=0) (by kernel_rfl) (by kernel_rfl) (by simp [cM])) (aT (us:=dE y.key) (sz:=16) (o:=0) (by kernel_rfl) (by kernel_rfl) (by simp [cM])) (run_equalIn_bytes w 9997 31 5 16 (by kernel_rfl) (by kernel_rfl) (fun w=>Cs.run_sizeOf (by kernel_rfl)) x.key.l y.key.l x.key.h y.key.h)
  (a6 (aT (us:=br x.nonce) (sz:=2) (o:=16) (by kernel_rfl) (by kernel_rfl) (by simp [cM];rfl)) (aT (us:=br y.nonce) (sz:=2) (o:=16) (by kernel_rfl) (by kernel_rfl) (by simp [cM];rfl)) (i5 (t32:=63) (t64:=24) _ _) rfl))
theorem FO (x:SLpl) (e:Bool) (w:World):(Instr.checkKey e 10000 317 (vA (cM x))).run Tryz.prog w= .ok () w:=by
 refine uA (d:=9999) (x:=(true,31,0)) (fs:= [(true,65,16)]) (by kernel_rfl) ?_
 intro y hy
 rcases List.mem_cons.1 hy with rfl | hy
 ·refine ⟨_,aT (us:=dE x.key) (sz:=16) (by kernel_rfl) (by kernel_rfl) (by simp [cM]),Cu (d:=9997) (el:=5) (n:=16) (kk:= .u8) (by kernel_rfl) (by kernel_rfl) (by kernel_rfl) fun i hi=> ?_⟩
  have:i<x.key.l.length:=by rw [x.key.h];exact hi
  exact ⟨(x.key.l[i].toNat:Int),by simp only [dE,bE,List.getElem?_map,List.getElem?_eq_getElem this];rfl⟩
 ·simp only [List.mem_singleton] at hy
  subst hy
  refine ⟨_,aT (us:=br x.nonce) (sz:=2) (o:=16) (by kernel_rfl) (by kernel_rfl) (by simp [cM];rfl),uA (d:=9998) (x:=(true,63,0)) (fs:= [(true,24,1)]) (by kernel_rfl) fun z hz=> ?_⟩
  rcases List.mem_cons.1 hz with rfl | hz
  ·exact ⟨_,aI (by kernel_rfl) rfl,oU (kk:= .u32) (by kernel_rfl)⟩
  ·simp only [List.mem_singleton] at hz
   subst hz
   exact ⟨_,aI (by kernel_rfl) rfl,oU (kk:= .u64) (by kernel_rfl)⟩
theorem H8 (hl:us.length≤65536) (hv:∀i,i<us.length→(us.getD i default).Range.First≤(us.getD i default).Range.Last) (hne:∀i j,i<j→j<us.length→(us.getD i default).Range.Nonce≠(us.getD j default).Range.Nonce):Zp Tryz.prog 54 [vA (b0 ⟨(a,n,c)⟩)] [] [Sl bP a n c us] Unit (fun _=>True) (fun _=> .tuple #[vI 0,vI 0, .bool false]) (fun _=> []) (fun _=> []):=by
 refine ak fun G=> ?_
 refine aS 0 ?_
 intro hn hc hm ha
 subst hn
 (repeat' ((try refine aw ?_);(conv=>arg 4;whnf);first | refine az ?_ |(refine sN ?_;intro b)|(refine sC ?_ ?_<;>intro h)|(refine au ?_ ?_<;>intro h<;>try contradiction)|(refine aa ?_;intro g c')|(refine aA (BJ hl hv) ?_;intro x hx;refine aH ?_)| refine ae ?_ | refine ai ?_ | exact ax |(refine aj rfl ?_;intro D lL)| refine af ?_ ?_ | refine ah ?_ ?_ ?_ | fail));(all_goals refine av ?_)
 revert b;intro lb
 refine IM ?_
 intro mb
 refine bG lb ?_
 (repeat' ((try refine aw ?_);(conv=>arg 4;whnf);first | refine az ?_ |(refine sN ?_;intro b)|(refine sC ?_ ?_<;>intro h)|(refine au ?_ ?_<;>intro h<;>try contradiction)|(refine aa ?_;intro g c')| refine ae ?_ | refine ai ?_ | exact ax |(refine aj rfl ?_;intro D lL)| refine af ?_ ?_ | refine ah ?_ ?_ ?_ | fail));(all_goals refine av ?_)
 refine cN (X:=Nat×List (List Value×Value)) (fun x=> [(2,vI 0),(3,vI 0),(4, .bool false),(18,vI x.1)]) (fun x=>x.1≤us.length∧∀z∈x.2,∃j,j<x.1∧z.1=cM ⟨(us.getD j default).Key,(us.getD j default).Range.Nonce⟩) (fun x=> [mo mb x.2]) (fun x=>us.length-x.1) (0, []) ⟨Nat.zero_le _,fun z hz=>by cases hz⟩ rfl cD ?_
 rintro ⟨i,l⟩ ⟨hi,hlm⟩
 dsimp only at hi hlm⊢
 by_cases h1:i<us.length
 ·obtain ⟨sb,o,rfl⟩:=ha (by omega) (by decide)
  have hck:=fun (e:Bool) (w:World)=>FO ⟨(us.getD i default).Key,(us.getD i default).Range.Nonce⟩ e w
  have hnn:∀x∈l,∀w:World,(Op.equal 317 (vA (cM ⟨(us.getD i default).Key,(us.getD i default).Range.Nonce⟩)) (vA x.1)).run Tryz.prog w= .ok false w:=fun x hx w=>by
   obtain ⟨j,hj,e⟩:=hlm x hx
   rw [e,GO]
   have hN:=hne j i hj h1
   have hb:((us.getD i default).Range.Nonce.eqb (us.getD j default).Range.Nonce)=false:=by
    rw [Bool.eq_false_iff];exact fun hh=>hN ((Non.eqb_iff _ _).1 hh).symm
   show Result.ok (_&&((us.getD i default).Range.Nonce.eqb (us.getD j default).Range.Nonce&&true)) w=_
   rw [hb];simp
  (repeat' ((try refine aw ?_);(conv=>arg 4;whnf);first | refine aO ?_ |(refine sN ?_;intro b)|(refine sC ?_ ?_<;>intro h)|(refine au ?_ ?_<;>intro h<;>try contradiction)|(refine aa ?_;intro g c')| refine ae ?_ | refine ai ?_ | exact ax |(refine aj rfl ?_;intro D lL)| refine af ?_ ?_ | refine ah ?_ ?_ ?_ | fail));(all_goals refine av ?_)
  refine HI (K:=317) (E:=83) (fs:=Tryz.prog.fieldsOf 317) Pit.pit (by kernel_rfl) (ci ⟨(true,31,0), [(true,65,16)],by kernel_rfl⟩) hck (z:= .slice none 0 0) (fun w=>by kernel_rfl) hnn ?_
  (repeat' ((try refine aw ?_);(conv=>arg 4;whnf);first | refine aO ?_ |(refine sN ?_;intro b)|(refine sC ?_ ?_<;>intro h)|(refine au ?_ ?_<;>intro h<;>try contradiction)|(refine aa ?_;intro g c')| refine ae ?_ | refine ai ?_ | exact ax |(refine aj rfl ?_;intro D lL)| refine af ?_ ?_ | refine ah ?_ ?_ ?_ | fail));(all_goals refine av ?_)
  refine gJ 1 (bN ?_)
  (repeat' ((try refine aw ?_);(conv=>arg 4;whnf);first | refine aO ?_ |(refine sN ?_;intro b)|(refine sC ?_ ?_<;>intro h)|(refine au ?_ ?_<;>intro h<;>try contradiction)|(refine aa ?_;intro g c')| refine ae ?_ | refine ai ?_ | exact ax |(refine aj rfl ?_;intro D lL)| refine af ?_ ?_ | refine ah ?_ ?_ ?_ | fail));(all_goals refine av ?_)
  refine HL (K:=317) (E:=83) (fs:=Tryz.prog.fieldsOf 317) Pit.pit (by kernel_rfl) (ci ⟨(true,31,0), [(true,65,16)],by kernel_rfl⟩) hck (z:= .slice none 0 0) (fun w=>by kernel_rfl) hnn ?_
  (repeat' ((try refine aw ?_);(conv=>arg 4;whnf);first | refine aO ?_ |(refine sN ?_;intro b)|(refine sC ?_ ?_<;>intro h)|(refine au ?_ ?_<;>intro h<;>try contradiction)|(refine aa ?_;intro g c')| refine ae ?_ | refine ai ?_ | exact ax |(refine aj rfl ?_;intro D lL)| refine af ?_ ?_ | refine ah ?_ ?_ ?_ | fail));(all_goals refine av ?_)
  refine Ic (x:=(cM ⟨(us.getD i default).Key,(us.getD i default).Range.Nonce⟩,Value.slice none 0 0)) Pit.pit ?_
  (repeat' ((try refine aw ?_);(conv=>arg 4;whnf);first | refine aO ?_ |(refine sN ?_;intro b)|(refine sC ?_ ?_<;>intro h)|(refine au ?_ ?_<;>intro h<;>try contradiction)|(refine aa ?_;intro g c')| refine ae ?_ | refine ai ?_ | exact ax |(refine aj rfl ?_;intro D lL)| refine af ?_ ?_ | refine ah ?_ ?_ ?_ | fail));(all_goals refine av ?_)
  refine jV (i+1,l++ [(cM ⟨(us.getD i default).Key,(us.getD i default).Range.Nonce⟩,Value.slice (some ⟨g,0,none⟩) (0+1) c')]) ⟨h1,fun z hz=> ?_⟩ cD (by dsimp only;omega)
  rcases List.mem_append.1 hz with hz | hz
  ·obtain ⟨j,hj,e⟩:=hlm z hz
   exact ⟨j,by omega,e⟩
  ·simp only [List.mem_singleton] at hz
   subst hz
   exact ⟨i,by omega,rfl⟩
 ·obtain rfl:i=us.length:=by omega
  (repeat' ((try refine aw ?_);(conv=>arg 4;whnf);first | refine aO ?_ |(refine sN ?_;intro b)|(refine sC ?_ ?_<;>intro h)|(refine au ?_ ?_<;>intro h<;>try contradiction)|(refine aa ?_;intro g c')| refine ae ?_ | refine ai ?_ | exact ax |(refine aj rfl ?_;intro D lL)| refine af ?_ ?_ | refine ah ?_ ?_ ?_ | fail));(all_goals refine av ?_)
end
end Go.Proofs.YtbobhnldhpjdlaaGreatDoor
