/- Lemmas and walks: what each function does, by its own code. No condition beyond those of each statement. -/
import Derived.Test.YtbobhnldhpjdlaaGreatDoorP11
import Derived.Test.YtbobhnldhpjdlaaGreatDoorP12
set_option linter.all false
set_option linter.unusedVariables false
namespace Go.Proofs.YtbobhnldhpjdlaaGreatDoor
open Go Go.RowKit Go.Cs Go.Cz
set_option maxRecDepth 100000
set_option maxHeartbeats 1000000
attribute [simp] i8
theorem kM {n:Nat} (h1:1≤n) (h2:n≤4096):Zp Tryz.prog 63 [vI n] [] [] Unit (fun _=>True) (fun _=>vI 0) (fun _=> []) (fun _=> []):=by
 refine ak fun G=> ?_
 (repeat' ((try refine aw ?_);(conv=>arg 4;whnf);first | refine az ?_ |(refine sN ?_;intro b)|(refine sC ?_ ?_<;>intro h)|(refine au ?_ ?_<;>intro h<;>try contradiction)|(refine aa ?_;intro g c')| refine ae ?_ | refine ai ?_ | exact ax |(refine aj rfl ?_;intro D lL)| refine af ?_ ?_ | refine ah ?_ ?_ ?_ | fail));(all_goals refine av ?_)
theorem El {n:Nat} (h2:n≤4096):Zp Tryz.prog 320 [vI n] [] [] Unit (fun _=>True) (fun _=>vI (jR n)) (fun _=> []) (fun _=> []):=by
 refine ak fun G=> ?_
 (repeat' ((try refine aw ?_);(conv=>arg 4;whnf);first | refine az ?_ |(refine sN ?_;intro b)|(refine sC ?_ ?_<;>intro h)|(refine au ?_ ?_<;>intro h<;>try contradiction)|(refine aa ?_;intro g c')| refine ae ?_ | refine ai ?_ | exact ax |(refine aj rfl ?_;intro D lL)| refine af ?_ ?_ | refine ah ?_ ?_ ?_ | fail));(all_goals refine av ?_)
theorem In {n:Nat} (h1:1≤n) (h2:n≤4096):Zp Tryz.prog 282 [vI n] [] [] Nat (fun _=>True) (fun x=> .slice (some ⟨x,0,none⟩) (hgt n+1) 6) (fun _=> []) (fun x=> [Sl cI (some ⟨x,0,none⟩) (hgt n+1) 6 (cts n)]):=by
 refine ak fun G=> ?_
 have hh:=a8 n
 (repeat' ((try refine aw ?_);(conv=>arg 4;whnf);first | refine az ?_ |(refine sN ?_;intro b)|(refine sC ?_ ?_<;>intro h)|(refine au ?_ ?_<;>intro h<;>try contradiction)|(refine aa ?_;intro g c')|(refine aA (El h2) ?_;intro x hx;refine aH ?_)| refine ae ?_ | refine ai ?_ | exact ax |(refine aj rfl ?_;intro D lL)| refine af ?_ ?_ | refine ah ?_ ?_ ?_ | fail));(all_goals refine av ?_)
 refine fL b ((List.replicate 6 0).flatMap cI) rfl ?_
 refine cN (X:=Nat) (fun k=> [(2, .slice none 0 0),(4, .slice (some ⟨b,0,none⟩) k 6),(5,vI (cnt n k))]) (fun k=>k≤hgt n) (fun k=> [iB b (((cts n).take k++List.replicate (6-k) 0).flatMap cI) 520]) (fun k=>hgt n-k) 0 (Nat.zero_le _) rfl ?_ ?_
 ·rw [List.take_zero,List.nil_append];((repeat' (first | with_reducible exact ar _ | exact am _ | refine aE ?_ ?_ | refine aG inferInstance ?_))<;>(try with_reducible rfl))
 intro k hk
 have hck:=cH n k
 have htk:=nn hk
 have hlen:((cts n).take k).length=k:=by rw [List.length_take,i8];omega
 have e:spl ((cts n).take k++List.replicate (6-k) 0) k [cnt n k]=(cts n).take (k+1)++List.replicate (6-(k+1)) 0:=by
  rw [spl,List.take_append_of_le_length (by omega),List.take_of_length_le (by omega),htk,List.drop_append,List.drop_eq_nil_of_le (by simp;omega),List.nil_append,List.drop_replicate,hlen]
  simp only [List.length_singleton]
  rw [show 6-k-(k+1-k)=6-(k+1) by omega]
 by_cases h:k<hgt n
 ·have h9:=Ad h
  (repeat' ((try refine aw ?_);(conv=>arg 4;whnf);first | refine az ?_ |(refine sN ?_;intro b)|(refine sC ?_ ?_<;>intro h)|(refine au ?_ ?_<;>intro h<;>try contradiction)|(refine aa ?_;intro g c')|(refine aA (El (n:=cnt n k) (by omega)) ?_;intro x hx;refine aH ?_)| refine ae ?_ | refine ai ?_ | exact ax |(refine aj rfl ?_;intro D lL)| refine af ?_ ?_ | refine ah ?_ ?_ ?_ | fail));(all_goals refine av ?_)
  refine a5 (k+1) rfl (by omega) ?_ (by omega)
  rw [e];exact aE (am _) rfl
 ·obtain rfl:k=hgt n:=by omega
  have h9:=eg h1 h2
  rw [h9] at e⊢
  (repeat' ((try refine aw ?_);(conv=>arg 4;whnf);first | refine az ?_ |(refine sN ?_;intro b)|(refine sC ?_ ?_<;>intro h)|(refine au ?_ ?_<;>intro h<;>try contradiction)|(refine aa ?_;intro g c')| refine ae ?_ | refine ai ?_ | exact ax |(refine aj rfl ?_;intro D lL)| refine af ?_ ?_ | refine ah ?_ ?_ ?_ | fail));(all_goals refine av ?_)
  rename_i cb
  rw [e]
  refine eE (m:=1) (e:=520) cI (some ⟨cb,0,none⟩) (hgt n+1) 6 ?_
  rw [List.take_append_of_le_length (by simp),List.take_take,Nat.min_self,List.take_of_length_le (by simp)]
  exact aD cb True.intro rfl (am _) bu
theorem zR {n:Nat} (h1:1≤n) (h2:n≤4096):Zp Tryz.prog 223 [vI n] [] [] Nat (fun _=>True) (fun x=> .tuple #[vA (cL ⟨n,(some ⟨x,0,none⟩,hgt n+1,6)⟩),vI 0]) (fun _=> []) (fun x=> [Sl cI (some ⟨x,0,none⟩) (hgt n+1) 6 (cts n)]):=by
 refine ak fun G=> ?_
 (repeat' ((try refine aw ?_);(conv=>arg 4;whnf);first | refine az ?_ |(refine sN ?_;intro b)|(refine sC ?_ ?_<;>intro h)|(refine au ?_ ?_<;>intro h<;>try contradiction)|(refine aa ?_;intro g c')|(refine aA (kM h1 h2) ?_;intro x hx;refine aH ?_)|(refine cw (In h1 h2) ?_;intro x hx;refine bV ?_)| refine ae ?_ | refine ai ?_ | exact ax |(refine aj rfl ?_;intro D lL)| refine af ?_ ?_ | refine ah ?_ ?_ ?_ | fail));(all_goals refine av ?_)
 exact aD x True.intro rfl (am _) bu
theorem C3 {n l j:Nat} (h1:1≤n) (h2:n≤4096) (hl:l≤hgt n) (hj:j<cnt n l):Zp Tryz.prog 224 [vI n,vA (co ⟨l,j⟩)] [] [] Nat (fun _=>True) (fun x=> .tuple #[vA (cL ⟨n,(some ⟨x,0,none⟩,hgt n+1,6)⟩),vI 0]) (fun _=> []) (fun x=> [Sl cI (some ⟨x,0,none⟩) (hgt n+1) 6 (cts n)]):=by
 refine ak fun G=> ?_
 have hg:(cts n).getD l default=cnt n l:=jD hl
 have hc:=cH n l
 (repeat' ((try refine aw ?_);(conv=>arg 4;whnf);first | refine az ?_ |(refine sN ?_;intro b)|(refine sC ?_ ?_<;>intro h)|(refine au ?_ ?_<;>intro h<;>try contradiction)|(refine aa ?_;intro g c')|(refine cw (zR h1 h2) ?_;intro x hx;refine bV ?_)| refine ae ?_ | refine ai ?_ | exact ax |(refine aj rfl ?_;intro D lL)| refine af ?_ ?_ | refine ah ?_ ?_ ?_ | fail));(all_goals refine av ?_)
 exact aD x True.intro rfl (am _) bu
theorem Jy {n l x:Nat} (h1:1≤n) (h2:n≤4096) (hl:l≤hgt n):Zp Tryz.prog 321 [vA (cL ⟨n,(some ⟨x,0,none⟩,hgt n+1,6)⟩),vI l] [] [Sl cI (some ⟨x,0,none⟩) (hgt n+1) 6 (cts n)] Unit (fun _=>True) (fun _=>vI (und n l)) (fun _=> []) (fun _=> []):=by
 refine ak fun G=> ?_
 have hh:=a8 n
 cases l with
 | zero=>(repeat' ((try refine aw ?_);(conv=>arg 4;whnf);first | refine az ?_ |(refine sN ?_;intro b)|(refine sC ?_ ?_<;>intro h)|(refine au ?_ ?_<;>intro h<;>try contradiction)|(refine aa ?_;intro g c')| refine ae ?_ | refine ai ?_ | exact ax |(refine aj rfl ?_;intro D lL)| refine af ?_ ?_ | refine ah ?_ ?_ ?_ | fail));(all_goals refine av ?_)
 | succ l=>
  have hg:(cts n).getD (l+1-1) default=und n (l+1):=jD (by omega)
  (repeat' ((try refine aw ?_);(conv=>arg 4;whnf);first | refine az ?_ |(refine sN ?_;intro b)|(refine sC ?_ ?_<;>intro h)|(refine au ?_ ?_<;>intro h<;>try contradiction)|(refine aa ?_;intro g c')| refine ae ?_ | refine ai ?_ | exact ax |(refine aj rfl ?_;intro D lL)| refine af ?_ ?_ | refine ah ?_ ?_ ?_ | fail));(all_goals refine av ?_)
  exact aD () True.intro (by rw [hg];rfl) (am _)
theorem tF {n l x:Nat} (h1:1≤n) (h2:n≤4096) (hl:l≤hgt n+1):Zp Tryz.prog 238 [vA (cL ⟨n,(some ⟨x,0,none⟩,hgt n+1,6)⟩),vI l] [] [Sl cI (some ⟨x,0,none⟩) (hgt n+1) 6 (cts n)] Unit (fun _=>True) (fun _=>vI (bas n l)) (fun _=> []) (fun _=> []):=by
 refine ak fun G=> ?_
 have hh:=a8 n
 (repeat' ((try refine aw ?_);(conv=>arg 4;whnf);first | refine az ?_ |(refine sN ?_;intro b)|(refine sC ?_ ?_<;>intro h)|(refine au ?_ ?_<;>intro h<;>try contradiction)|(refine aa ?_;intro g c')| refine ae ?_ | refine ai ?_ | exact ax |(refine aj rfl ?_;intro D lL)| refine af ?_ ?_ | refine ah ?_ ?_ ?_ | fail));(all_goals refine av ?_)
 refine cN (X:=Nat) (fun i=> [(5,vI (bas n i)),(16,vI i)]) (fun i=>i≤l) (fun i=> []) (fun i=>l-i) 0 (Nat.zero_le _) rfl (am _) ?_
 intro i hi
 have hb:=oz (n:=n) (l:=i) h2 (by omega)
 by_cases h:i<l
 ·have hg:(cts n).getD i default=cnt n i:=jD (by omega)
  have hc:=cH n i
  (repeat' ((try refine aw ?_);(conv=>arg 4;whnf);first | refine az ?_ |(refine sN ?_;intro b)|(refine sC ?_ ?_<;>intro h)|(refine au ?_ ?_<;>intro h<;>try contradiction)|(refine aa ?_;intro g c')| refine ae ?_ | refine ai ?_ | exact ax |(refine aj rfl ?_;intro D lL)| refine af ?_ ?_ | refine ah ?_ ?_ ?_ | fail));(all_goals refine av ?_)
  exact a5 (i+1) (by rw [hg];rfl) (by omega) (am _) (by omega)
 ·obtain rfl:i=l:=by omega
  (repeat' ((try refine aw ?_);(conv=>arg 4;whnf);first | refine az ?_ |(refine sN ?_;intro b)|(refine sC ?_ ?_<;>intro h)|(refine au ?_ ?_<;>intro h<;>try contradiction)|(refine aa ?_;intro g c')| refine ae ?_ | refine ai ?_ | exact ax |(refine aj rfl ?_;intro D lL)| refine af ?_ ?_ | refine ah ?_ ?_ ?_ | fail));(all_goals refine av ?_)
theorem rB {n:Nat} (h1:1≤n) (h2:n≤4096):Zp Tryz.prog 179 [vI n] [] [] Unit (fun _=>True) (fun _=> .tuple #[vI (hgt n),vI 0]) (fun _=> []) (fun _=> []):=by
 refine ak fun G=> ?_
 have hh:=a8 n
 (repeat' ((try refine aw ?_);(conv=>arg 4;whnf);first | refine az ?_ |(refine sN ?_;intro b)|(refine sC ?_ ?_<;>intro h)|(refine au ?_ ?_<;>intro h<;>try contradiction)|(refine aa ?_;intro g c')|(refine cw (zR h1 h2) ?_;intro x hx;refine bV ?_)| refine ae ?_ | refine ai ?_ | exact ax |(refine aj rfl ?_;intro D lL)| refine af ?_ ?_ | refine ah ?_ ?_ ?_ | fail));(all_goals refine av ?_)
theorem B1 {n l:Nat} (h1:1≤n) (h2:n≤4096) (hl:l≤hgt n):Zp Tryz.prog 138 [vI n,vI l] [] [] Unit (fun _=>True) (fun _=> .tuple #[vI (cnt n l),vI 0]) (fun _=> []) (fun _=> []):=by
 refine ak fun G=> ?_
 have hh:=a8 n
 have hg:(cts n).getD l default=cnt n l:=jD hl
 (repeat' ((try refine aw ?_);(conv=>arg 4;whnf);first | refine az ?_ |(refine sN ?_;intro b)|(refine sC ?_ ?_<;>intro h)|(refine au ?_ ?_<;>intro h<;>try contradiction)|(refine aa ?_;intro g c')|(refine cw (C3 (j:=0) h1 h2 hl (dk h1 l)) ?_;intro x hx;refine bV ?_)| refine ae ?_ | refine ai ?_ | exact ax |(refine aj rfl ?_;intro D lL)| refine af ?_ ?_ | refine ah ?_ ?_ ?_ | fail));(all_goals refine av ?_)
 exact aD () True.intro (by rw [hg];rfl) (am _)
end Go.Proofs.YtbobhnldhpjdlaaGreatDoor
namespace Go.Proofs.YtbobhnldhpjdlaaGreatDoor
open Go Go.RowKit Go.Cs Go.Cz
set_option maxRecDepth 100000
set_option maxHeartbeats 1000000
theorem Ii {n:Nat} (h1:1≤n) (h2:n≤4096):Zp Tryz.prog 136 [vI n] [] [] Unit (fun _=>True) (fun _=> .tuple #[vI (tot n),vI 0]) (fun _=> []) (fun _=> []):=by
 refine ak fun G=> ?_
 have hh:=a8 n
 (repeat' ((try refine aw ?_);(conv=>arg 4;whnf);first | refine az ?_ |(refine sN ?_;intro b)|(refine sC ?_ ?_<;>intro h)|(refine au ?_ ?_<;>intro h<;>try contradiction)|(refine aa ?_;intro g c')|(refine cw (zR h1 h2) ?_;intro x hx;refine bV ?_)| refine ae ?_ | refine ai ?_ | exact ax |(refine aj rfl ?_;intro D lL)| refine af ?_ ?_ | refine ah ?_ ?_ ?_ | fail));(all_goals refine av ?_)
 refine cN (X:=Nat) (fun i=> [(6,vI (num n i)),(20,vI i)]) (fun i=>i≤hgt n+1) (fun i=> []) (fun i=>hgt n+1-i) 0 (Nat.zero_le _) rfl (am _) ?_
 intro i hi
 have hb:=cz (n:=n) (l:=i) h2 (by omega)
 by_cases h:i<hgt n+1
 ·have hg:(cts n).getD i default=cnt n i:=jD (by omega)
  have hc:=cH n i
  (repeat' ((try refine aw ?_);(conv=>arg 4;whnf);first | refine az ?_ |(refine sN ?_;intro b)|(refine sC ?_ ?_<;>intro h)|(refine au ?_ ?_<;>intro h<;>try contradiction)|(refine aa ?_;intro g c')| refine ae ?_ | refine ai ?_ | exact ax |(refine aj rfl ?_;intro D lL)| refine af ?_ ?_ | refine ah ?_ ?_ ?_ | fail));(all_goals refine av ?_)
  exact a5 (i+1) (by rw [hg];rfl) (by omega) (am _) (by omega)
 ·obtain rfl:i=hgt n+1:=by omega
  (repeat' ((try refine aw ?_);(conv=>arg 4;whnf);first | refine az ?_ |(refine sN ?_;intro b)|(refine sC ?_ ?_<;>intro h)|(refine au ?_ ?_<;>intro h<;>try contradiction)|(refine aa ?_;intro g c')| refine ae ?_ | refine ai ?_ | exact ax |(refine aj rfl ?_;intro D lL)| refine af ?_ ?_ | refine ah ?_ ?_ ?_ | fail));(all_goals refine av ?_)
theorem JH {n l j:Nat} (h1:1≤n) (h2:n≤4096) (hl:l≤hgt n) (hj:j<cnt n l):Zp Tryz.prog 283 [vI n,vI l,vI j] [] [] Unit (fun _=>True) (fun _=> .tuple #[vI (prt n l j),vI 0]) (fun _=> []) (fun _=> []):=by
 refine ak fun G=> ?_
 have hu:=FY.1 hj
 have hun:=wp n l
 (repeat' ((try refine aw ?_);(conv=>arg 4;whnf);first | refine az ?_ |(refine sN ?_;intro b)|(refine sC ?_ ?_<;>intro h)|(refine au ?_ ?_<;>intro h<;>try contradiction)|(refine aa ?_;intro g c')|(refine cw (C3 h1 h2 hl hj) ?_;intro x hx;refine bV ?_)|(refine aA (Jy h1 h2 hl) ?_;intro x hx;refine aH ?_)| refine ae ?_ | refine ai ?_ | exact ax |(refine aj rfl ?_;intro D lL)| refine af ?_ ?_ | refine ah ?_ ?_ ?_ | fail));(all_goals refine av ?_)
theorem BL {n i:Nat} (h1:1≤n) (h2:n≤4096) (hi:i<n):Zp Tryz.prog 222 [vI n,vI i] [] [] Nat (fun _=>True) (fun x=> .tuple #[vA (cL ⟨n,(some ⟨x,0,none⟩,hgt n+1,6)⟩),vI 0]) (fun _=> []) (fun x=> [Sl cI (some ⟨x,0,none⟩) (hgt n+1) 6 (cts n)]):=by
 refine ak fun G=> ?_
 (repeat' ((try refine aw ?_);(conv=>arg 4;whnf);first | refine az ?_ |(refine sN ?_;intro b)|(refine sC ?_ ?_<;>intro h)|(refine au ?_ ?_<;>intro h<;>try contradiction)|(refine aa ?_;intro g c')|(refine cw (zR h1 h2) ?_;intro x hx;refine bV ?_)| refine ae ?_ | refine ai ?_ | exact ax |(refine aj rfl ?_;intro D lL)| refine af ?_ ?_ | refine ah ?_ ?_ ?_ | fail));(all_goals refine av ?_)
 exact aD x True.intro rfl (am _) bu
theorem j9 {n i t:Nat} (h1:1≤n) (h2:n≤4096) (hi:i<n) (ht:t≤1):Zp Tryz.prog 132 [vI n,vI i,vI t] [] [] Unit (fun _=>True) (fun _=> .tuple #[vI (2*i+t),vI 0]) (fun _=> []) (fun _=> []):=by
 refine ak fun G=> ?_
 rcases (show t=0∨t=1 by omega) with rfl | rfl
 ·(repeat' ((try refine aw ?_);(conv=>arg 4;whnf);first | refine az ?_ |(refine sN ?_;intro b)|(refine sC ?_ ?_<;>intro h)|(refine au ?_ ?_<;>intro h<;>try contradiction)|(refine aa ?_;intro g c')|(refine cw (BL h1 h2 hi) ?_;intro x hx;refine bV ?_)| refine ae ?_ | refine ai ?_ | exact ax |(refine aj rfl ?_;intro D lL)| refine af ?_ ?_ | refine ah ?_ ?_ ?_ | fail));(all_goals refine av ?_)
 ·(repeat' ((try refine aw ?_);(conv=>arg 4;whnf);first | refine az ?_ |(refine sN ?_;intro b)|(refine sC ?_ ?_<;>intro h)|(refine au ?_ ?_<;>intro h<;>try contradiction)|(refine aa ?_;intro g c')|(refine cw (BL h1 h2 hi) ?_;intro x hx;refine bV ?_)| refine ae ?_ | refine ai ?_ | exact ax |(refine aj rfl ?_;intro D lL)| refine af ?_ ?_ | refine ah ?_ ?_ ?_ | fail));(all_goals refine av ?_)
theorem ue {n l j t:Nat} (h1:1≤n) (h2:n≤4096) (hl:l≤hgt n) (hj:j<cnt n l) (ht:t≤1):Zp Tryz.prog 180 [vI n,vI l,vI j,vI t] [] [] Unit (fun _=>True) (fun _=> .tuple #[vI (bas n l+2*j+t),vI 0]) (fun _=> []) (fun _=> []):=by
 refine ak fun G=> ?_
 have hh:=a8 n
 have hb:=oz (n:=n) (l:=l) h2 (by omega)
 have hc:=cH n l
 rcases (show t=0∨t=1 by omega) with rfl | rfl
 ·(repeat' ((try refine aw ?_);(conv=>arg 4;whnf);first | refine az ?_ |(refine sN ?_;intro b)|(refine sC ?_ ?_<;>intro h)|(refine au ?_ ?_<;>intro h<;>try contradiction)|(refine aa ?_;intro g c')|(refine cw (C3 h1 h2 hl hj) ?_;intro x hx;refine bV ?_)|(refine aA (tF h1 h2 (Nat.le_succ_of_le hl)) ?_;intro x hx;refine aH ?_)| refine ae ?_ | refine ai ?_ | exact ax |(refine aj rfl ?_;intro D lL)| refine af ?_ ?_ | refine ah ?_ ?_ ?_ | fail));(all_goals refine av ?_)
 ·(repeat' ((try refine aw ?_);(conv=>arg 4;whnf);first | refine az ?_ |(refine sN ?_;intro b)|(refine sC ?_ ?_<;>intro h)|(refine au ?_ ?_<;>intro h<;>try contradiction)|(refine aa ?_;intro g c')|(refine cw (C3 h1 h2 hl hj) ?_;intro x hx;refine bV ?_)|(refine aA (tF h1 h2 (Nat.le_succ_of_le hl)) ?_;intro x hx;refine aH ?_)| refine ae ?_ | refine ai ?_ | exact ax |(refine aj rfl ?_;intro D lL)| refine af ?_ ?_ | refine ah ?_ ?_ ?_ | fail));(all_goals refine av ?_)
theorem Am {n:Nat} (h1:1≤n) (h2:n≤4096):Zp Tryz.prog 178 [vI n] [] [] Unit (fun _=>True) (fun _=> .tuple #[vI (bas n (hgt n+1)),vI 0]) (fun _=> []) (fun _=> []):=by
 refine ak fun G=> ?_
 have hh:=a8 n
 (repeat' ((try refine aw ?_);(conv=>arg 4;whnf);first | refine az ?_ |(refine sN ?_;intro b)|(refine sC ?_ ?_<;>intro h)|(refine au ?_ ?_<;>intro h<;>try contradiction)|(refine aa ?_;intro g c')|(refine cw (zR h1 h2) ?_;intro x hx;refine bV ?_)|(refine aA (tF (l:=hgt n+1) h1 h2 (Nat.le_refl _)) ?_;intro x hx;refine aH ?_)| refine ae ?_ | refine ai ?_ | exact ax |(refine aj rfl ?_;intro D lL)| refine af ?_ ?_ | refine ah ?_ ?_ ?_ | fail));(all_goals refine av ?_)
end Go.Proofs.YtbobhnldhpjdlaaGreatDoor
namespace Go.Proofs.YtbobhnldhpjdlaaGreatDoor
open Go Go.RowKit Go.Cs Go.Cz
set_option maxRecDepth 100000
set_option maxHeartbeats 1000000
def sH (l:List SPla) (k:Nat):List SPla:=(List.range l.length).map fun p=>if p<k∨l.length≤p+k then l.getD (l.length-1-p) default else l.getD p default
theorem jF (l:List SPla) (k:Nat):(sH l k).length=l.length:=by simp [sH]
theorem iH (l:List SPla) (k:Nat) {p:Nat} (h:p<l.length):(sH l k)[p]? =some (if p<k∨l.length≤p+k then l.getD (l.length-1-p) default else l.getD p default):=by simp [sH,h]
theorem AW (l:List SPla):sH l 0=l:=by
 apply List.ext_getElem?
 intro i
 by_cases h:i<l.length
 ·rw [iH l 0 h,if_neg (by omega)];simp [List.getD,h]
 ·rw [List.getElem?_eq_none (by rw [jF];omega),List.getElem?_eq_none (by omega)]
theorem CV (l:List SPla) {k:Nat} (hk:l.length≤2*k+1):sH l k=l.reverse:=by
 apply List.ext_getElem?
 intro i
 by_cases h:i<l.length
 ·rw [iH l k h,List.getElem?_reverse h]
  by_cases h2:i<k∨l.length≤i+k
  ·rw [if_pos h2];simp [List.getD,show l.length-1-i<l.length by omega]
  ·rw [if_neg h2,show l.length-1-i=i by omega];simp [List.getD,h]
 ·rw [List.getElem?_eq_none (by rw [jF];omega),List.getElem?_eq_none (by simp;omega)]
theorem BG (l:List SPla) {k:Nat} (hk:2*k+1<l.length):((sH l k).set k ((sH l k).getD (l.length-1-k) default)).set (l.length-1-k) ((sH l k).getD k default)=sH l (k+1):=by
 apply List.ext_getElem?
 intro i
 have hl:=jF l k
 by_cases h:i<l.length
 ·rw [iH l (k+1) h]
  by_cases h1:i=l.length-1-k
  ·rw [h1,List.getElem?_set_self (by simp;omega),if_pos (by omega)]
   rw [List.getD_eq_getElem?_getD,iH l k (by omega),if_neg (by omega)]
   simp [show l.length-1-(l.length-1-k)=k by omega]
  ·rw [List.getElem?_set_ne (by omega)]
   by_cases h2:i=k
   ·subst h2
    rw [List.getElem?_set_self (by omega),if_pos (by omega),List.getD_eq_getElem?_getD,iH l i (by omega),if_neg (by omega)]
    rfl
   ·rw [List.getElem?_set_ne (by omega),iH l k h]
    by_cases h3:i<k∨l.length≤i+k
    ·rw [if_pos h3,if_pos (by omega)]
    ·rw [if_neg h3,if_neg (by omega)]
 ·rw [List.getElem?_eq_none (by simp;omega),List.getElem?_eq_none (by rw [jF];omega)]
theorem HJ {b n c e:Nat} {l:List SPla} (hl:l.length=n) (h1:1≤n) (h6:n≤6) (hc:n≤c) (hc2:c≤9223372036854775807):Zp Tryz.prog 227 [.slice (some ⟨b,0,none⟩) n c] [iB b (l.flatMap co) e] [] Unit (fun _=>True) (fun _=> .tuple #[]) (fun _=> [iB b (l.reverse.flatMap co) e]) (fun _=> []):=by
 refine ak fun G=> ?_
 (repeat' ((try refine aw ?_);(conv=>arg 4;whnf);first | refine az ?_ |(refine sN ?_;intro b)|(refine sC ?_ ?_<;>intro h)|(refine au ?_ ?_<;>intro h<;>try contradiction)|(refine aa ?_;intro g c')| refine ae ?_ | refine ai ?_ | exact ax |(refine aj rfl ?_;intro D lL)| refine af ?_ ?_ | refine ah ?_ ?_ ?_ | fail));(all_goals refine av ?_)
 refine dh [b] (X:=Nat) (fun k=> [(2,vI k),(3,vI (n-1-k))]) (fun k=>2*k≤n) (fun k=> [iB b ((sH l k).flatMap co) e]) (fun k=>n-k) 0 (by omega) rfl ?_ ?_
 ·rw [AW];((repeat' (first | with_reducible exact ar _ | exact am _ | refine aE ?_ ?_ | refine aG inferInstance ?_))<;>(try with_reducible rfl))
 intro k hk
 (conv=>arg 2;simp only [List.cons_append,List.nil_append])
 have hlen:=jF l k
 by_cases h:2*k+1<n
 ·have e2:((sH l k).set k ((sH l k).getD (n-1-k) default)).set (n-1-k) ((sH l k).getD k default)=sH l (k+1):=by
   have:=BG l (k:=k) (by omega)
   rw [hl] at this;exact this
  (repeat' ((try refine aw ?_);(conv=>arg 4;whnf);first | refine az ?_ |(refine sN ?_;intro b)|(refine sC ?_ ?_<;>intro h)|(refine au ?_ ?_<;>intro h<;>try contradiction)|(refine aa ?_;intro g c')| refine ae ?_ | refine ai ?_ | exact ax |(refine aj rfl ?_;intro D lL)| refine af ?_ ?_ | refine ah ?_ ?_ ?_ | fail));(all_goals refine av ?_)
  refine a5 (k+1) rfl (by omega) ?_ (by omega)
  rw [e2];((repeat' (first | with_reducible exact ar _ | exact am _ | refine aE ?_ ?_ | refine aG inferInstance ?_))<;>(try with_reducible rfl))
 ·(repeat' ((try refine aw ?_);(conv=>arg 4;whnf);first | refine az ?_ |(refine sN ?_;intro b)|(refine sC ?_ ?_<;>intro h)|(refine au ?_ ?_<;>intro h<;>try contradiction)|(refine aa ?_;intro g c')| refine ae ?_ | refine ai ?_ | exact ax |(refine aj rfl ?_;intro D lL)| refine af ?_ ?_ | refine ah ?_ ?_ ?_ | fail));(all_goals refine av ?_)
  rw [CV l (by omega)]
  exact aD () True.intro rfl (aE (am _) rfl)
def jE (i k:Nat):List SPla:=(List.range k).map fun l=>⟨l,idx i l⟩
def ec (n i:Nat):List SPla:=(jE i (hgt n+1)).reverse
theorem jK (i k:Nat):(jE i k).length=k:=by simp [jE]
theorem yn (i k:Nat):jE i (k+1)=jE i k++ [⟨k,idx i k⟩]:=by simp [jE,List.range_succ]
theorem jr (n i:Nat):(ec n i).length=hgt n+1:=by simp [ec,jK]
theorem lR {n i k:Nat} (h:k≤hgt n):(ec n i).getD k default=⟨hgt n-k,idx i (hgt n-k)⟩:=by
 have h2:k<(jE i (hgt n+1)).length:=by rw [jK];omega
 rw [ec,List.getD_eq_getElem?_getD,List.getElem?_reverse h2,jK]
 rw [show hgt n+1-1-k=hgt n-k by omega]
 simp only [jE,List.getElem?_map]
 rw [List.getElem?_range (by omega)];rfl
theorem sy {n i:Nat} (h1:1≤n) (h2:n≤4096) (hi:i<n):Zp Tryz.prog 145 [vI n,vI i] [] [] Nat (fun _=>True) (fun x=> .tuple #[.slice (some ⟨x,0,none⟩) (hgt n+1) (hgt n+1),vI 0]) (fun _=> []) (fun x=> [Sl co (some ⟨x,0,none⟩) (hgt n+1) (hgt n+1) (ec n i)]):=by
 refine ak fun G=> ?_
 have hh:=a8 n
 (repeat' ((try refine aw ?_);(conv=>arg 4;whnf);first | refine az ?_ |(refine sN ?_;intro b)|(refine sC ?_ ?_<;>intro h)|(refine au ?_ ?_<;>intro h<;>try contradiction)|(refine aa ?_;intro g c')|(refine cw (BL h1 h2 hi) ?_;intro x hx;refine bV ?_)| refine ae ?_ | refine ai ?_ | exact ax |(refine aj rfl ?_;intro D lL)| refine af ?_ ?_ | refine ah ?_ ?_ ?_ | fail));(all_goals refine av ?_)
 rename_i sb mb cb kb
 refine dh [b,cb,mb] (X:=Nat) (fun k=> [(8,vI k)]) (fun k=>k≤hgt n+1) (fun k=> [iB b [vI (qs i k)] 3,iB cb [.slice (some ⟨mb,0,none⟩) k (hgt n+1)] 282,iB mb ((jE i k++List.replicate (hgt n+1-k) SPla.zero).flatMap co) 287]) (fun k=>hgt n+1-k) 0 (Nat.zero_le _) rfl ?_ ?_
 ·rw [show jE i 0= [] from rfl,List.nil_append,Nat.sub_zero];((repeat' (first | with_reducible exact ar _ | exact am _ | refine aE ?_ ?_ | refine aG inferInstance ?_ | refine aX ?_))<;>(try with_reducible rfl))
  all_goals rfl
 intro k hk
 (conv=>arg 2;simp only [List.cons_append,List.nil_append])
 have hqs:=Ed i k
 have hpl:=jK i k
 by_cases h:k<hgt n+1
 ·have e:spl (jE i k++List.replicate (hgt n+1-k) SPla.zero) k [⟨k,qs i k/4⟩]=jE i (k+1)++List.replicate (hgt n+1-(k+1)) SPla.zero:=by
   rw [spl,List.take_append_of_le_length (by omega),List.take_of_length_le (by omega),yn,Bl,List.drop_append,List.drop_eq_nil_of_le (by simp;omega),List.nil_append,List.drop_replicate,hpl]
   simp only [List.length_singleton]
   rw [show hgt n+1-k-(k+1-k)=hgt n+1-(k+1) by omega]
  (repeat' ((try refine aw ?_);(conv=>arg 4;whnf);first | refine az ?_ |(refine sN ?_;intro b)|(refine sC ?_ ?_<;>intro h)|(refine au ?_ ?_<;>intro h<;>try contradiction)|(refine aa ?_;intro g c')| refine ae ?_ | refine ai ?_ | exact ax |(refine aj rfl ?_;intro D lL)| refine af ?_ ?_ | refine ah ?_ ?_ ?_ | fail));(all_goals refine av ?_)
  refine a5 (k+1) rfl (by omega) ?_ (by omega)
  rw [e];((repeat' (first | with_reducible exact ar _ | exact am _ | refine aE ?_ ?_ | refine aG inferInstance ?_ | refine aX ?_))<;>(try with_reducible rfl))
  all_goals rfl
 ·obtain rfl:k=hgt n+1:=by omega
  rw [Nat.sub_self,List.replicate_zero,List.append_nil]
  (repeat' ((try refine aw ?_);(conv=>arg 4;whnf);first | refine az ?_ |(refine sN ?_;intro b)|(refine sC ?_ ?_<;>intro h)|(refine au ?_ ?_<;>intro h<;>try contradiction)|(refine aa ?_;intro g c')|(refine da (HJ (l:=jE i (hgt n+1)) hpl (by omega) (by omega) (Nat.le_refl _) (by omega)) ?_;intro x hx;refine bV ?_)| refine ae ?_ | refine ai ?_ | exact ax |(refine aj rfl ?_;intro D lL)| refine af ?_ ?_ | refine ah ?_ ?_ ?_ | fail));(all_goals refine av ?_)
  rw [show (jE i (hgt n+1)).reverse=ec n i from rfl]
  refine eK mb (hgt n+1) (hgt n+1) (K:=co) (l:=ec n i) ?_ ⟨(jr n i).symm,Nat.le_refl _,by omega⟩
  exact aD mb True.intro rfl (am _) bu
end Go.Proofs.YtbobhnldhpjdlaaGreatDoor
