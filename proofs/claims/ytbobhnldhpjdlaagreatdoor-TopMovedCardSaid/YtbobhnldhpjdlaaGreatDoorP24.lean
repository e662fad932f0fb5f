/- Lemmas and walks: what each function does, by its own code. No condition beyond those of each statement. -/
import Derived.Test.YtbobhnldhpjdlaaGreatDoorP10
import Derived.Test.YtbobhnldhpjdlaaGreatDoorP11
set_option linter.all false
set_option linter.unusedVariables false
namespace Go.Proofs.YtbobhnldhpjdlaaGreatDoor
open Go Go.RowKit Go.Cs Go.Cz
set_option maxRecDepth 100000
set_option maxHeartbeats 1000000
attribute [simp] jm
theorem yZ {n:Nat} (h1:1≤n) (h2:n≤4096):Zp Tryz.prog 63 [vI n] [] [] Unit (fun _=>True) (fun _=>vI 0) (fun _=> []) (fun _=> []):=by
 refine an fun G=> ?_
 (repeat' ((try refine au ?_);(conv=>arg 4;whnf);first | refine ax ?_ |(refine sN ?_;intro b)|(refine sC ?_ ?_<;>intro h)|(refine ar ?_ ?_<;>intro h<;>try contradiction)|(refine aa ?_;intro g c')| refine ae ?_ | refine ai ?_ | exact aw |(refine ak rfl ?_;intro D lL)| refine ah ?_ ?_ | refine aj ?_ ?_ ?_ | fail));(all_goals refine av ?_)
theorem Ea {n:Nat} (h2:n≤4096):Zp Tryz.prog 320 [vI n] [] [] Unit (fun _=>True) (fun _=>vI (kc n)) (fun _=> []) (fun _=> []):=by
 refine an fun G=> ?_
 (repeat' ((try refine au ?_);(conv=>arg 4;whnf);first | refine ax ?_ |(refine sN ?_;intro b)|(refine sC ?_ ?_<;>intro h)|(refine ar ?_ ?_<;>intro h<;>try contradiction)|(refine aa ?_;intro g c')| refine ae ?_ | refine ai ?_ | exact aw |(refine ak rfl ?_;intro D lL)| refine ah ?_ ?_ | refine aj ?_ ?_ ?_ | fail));(all_goals refine av ?_)
theorem I7 {n:Nat} (h1:1≤n) (h2:n≤4096):Zp Tryz.prog 282 [vI n] [] [] Nat (fun _=>True) (fun x=> .slice (some ⟨x,0,none⟩) (hgt n+1) 6) (fun _=> []) (fun x=> [Sl cI (some ⟨x,0,none⟩) (hgt n+1) 6 (cts n)]):=by
 refine an fun G=> ?_
 have hh:=bu n
 (repeat' ((try refine au ?_);(conv=>arg 4;whnf);first | refine ax ?_ |(refine sN ?_;intro b)|(refine sC ?_ ?_<;>intro h)|(refine ar ?_ ?_<;>intro h<;>try contradiction)|(refine aa ?_;intro g c')|(refine ay (Ea h2) ?_;intro x hx;refine aN ?_)| refine ae ?_ | refine ai ?_ | exact aw |(refine ak rfl ?_;intro D lL)| refine ah ?_ ?_ | refine aj ?_ ?_ ?_ | fail));(all_goals refine av ?_)
 refine eV b ((List.replicate 6 0).flatMap cI) rfl ?_
 refine dC (X:=Nat) (fun k=> [(2, .slice none 0 0),(4, .slice (some ⟨b,0,none⟩) k 6),(5,vI (cnt n k))]) (fun k=>k≤hgt n) (fun k=> [iB b (((cts n).take k++List.replicate (6-k) 0).flatMap cI) 520]) (fun k=>hgt n-k) 0 (Nat.zero_le _) rfl ?_ ?_
 ·rw [List.take_zero,List.nil_append];((repeat' (first | with_reducible exact am _ | exact af _ | refine aB ?_ ?_ | refine aD inferInstance ?_))<;>(try with_reducible rfl))
 intro k hk
 have hck:=dx n k
 have htk:=nE hk
 have hlen:((cts n).take k).length=k:=by rw [List.length_take,jm];omega
 have e:spl ((cts n).take k++List.replicate (6-k) 0) k [cnt n k]=(cts n).take (k+1)++List.replicate (6-(k+1)) 0:=by
  rw [spl,List.take_append_of_le_length (by omega),List.take_of_length_le (by omega),htk,List.drop_append,List.drop_eq_nil_of_le (by simp;omega),List.nil_append,List.drop_replicate,hlen]
  simp only [List.length_singleton]
  rw [show 6-k-(k+1-k)=6-(k+1) by omega]
 by_cases h:k<hgt n
 ·have h9:=zN h
  (repeat' ((try refine au ?_);(conv=>arg 4;whnf);first | refine ax ?_ |(refine sN ?_;intro b)|(refine sC ?_ ?_<;>intro h)|(refine ar ?_ ?_<;>intro h<;>try contradiction)|(refine aa ?_;intro g c')|(refine ay (Ea (n:=cnt n k) (by omega)) ?_;intro x hx;refine aN ?_)| refine ae ?_ | refine ai ?_ | exact aw |(refine ak rfl ?_;intro D lL)| refine ah ?_ ?_ | refine aj ?_ ?_ ?_ | fail));(all_goals refine av ?_)
  refine bj (k+1) rfl (by omega) ?_ (by omega)
  rw [e];exact aB (af _) rfl
 ·obtain rfl:k=hgt n:=by omega
  have h9:=fa h1 h2
  rw [h9] at e⊢
  (repeat' ((try refine au ?_);(conv=>arg 4;whnf);first | refine ax ?_ |(refine sN ?_;intro b)|(refine sC ?_ ?_<;>intro h)|(refine ar ?_ ?_<;>intro h<;>try contradiction)|(refine aa ?_;intro g c')| refine ae ?_ | refine ai ?_ | exact aw |(refine ak rfl ?_;intro D lL)| refine ah ?_ ?_ | refine aj ?_ ?_ ?_ | fail));(all_goals refine av ?_)
  rename_i cb
  rw [e]
  refine ic (m:=1) (e:=520) cI (some ⟨cb,0,none⟩) (hgt n+1) 6 ?_
  rw [List.take_append_of_le_length (by simp),List.take_take,Nat.min_self,List.take_of_length_le (by simp)]
  exact aG cb True.intro rfl (af _) cR
theorem yL {n:Nat} (h1:1≤n) (h2:n≤4096):Zp Tryz.prog 223 [vI n] [] [] Nat (fun _=>True) (fun x=> .tuple #[vA (dB ⟨n,(some ⟨x,0,none⟩,hgt n+1,6)⟩),vI 0]) (fun _=> []) (fun x=> [Sl cI (some ⟨x,0,none⟩) (hgt n+1) 6 (cts n)]):=by
 refine an fun G=> ?_
 (repeat' ((try refine au ?_);(conv=>arg 4;whnf);first | refine ax ?_ |(refine sN ?_;intro b)|(refine sC ?_ ?_<;>intro h)|(refine ar ?_ ?_<;>intro h<;>try contradiction)|(refine aa ?_;intro g c')|(refine ay (yZ h1 h2) ?_;intro x hx;refine aN ?_)|(refine dD (I7 h1 h2) ?_;intro x hx;refine c9 ?_)| refine ae ?_ | refine ai ?_ | exact aw |(refine ak rfl ?_;intro D lL)| refine ah ?_ ?_ | refine aj ?_ ?_ ?_ | fail));(all_goals refine av ?_)
 exact aG x True.intro rfl (af _) cR
theorem Du {n l j:Nat} (h1:1≤n) (h2:n≤4096) (hl:l≤hgt n) (hj:j<cnt n l):Zp Tryz.prog 224 [vI n,vA (de ⟨l,j⟩)] [] [] Nat (fun _=>True) (fun x=> .tuple #[vA (dB ⟨n,(some ⟨x,0,none⟩,hgt n+1,6)⟩),vI 0]) (fun _=> []) (fun x=> [Sl cI (some ⟨x,0,none⟩) (hgt n+1) 6 (cts n)]):=by
 refine an fun G=> ?_
 have hg:(cts n).getD l default=cnt n l:=jF hl
 have hc:=dx n l
 (repeat' ((try refine au ?_);(conv=>arg 4;whnf);first | refine ax ?_ |(refine sN ?_;intro b)|(refine sC ?_ ?_<;>intro h)|(refine ar ?_ ?_<;>intro h<;>try contradiction)|(refine aa ?_;intro g c')|(refine dD (yL h1 h2) ?_;intro x hx;refine c9 ?_)| refine ae ?_ | refine ai ?_ | exact aw |(refine ak rfl ?_;intro D lL)| refine ah ?_ ?_ | refine aj ?_ ?_ ?_ | fail));(all_goals refine av ?_)
 exact aG x True.intro rfl (af _) cR
theorem HL {n l x:Nat} (h1:1≤n) (h2:n≤4096) (hl:l≤hgt n):Zp Tryz.prog 321 [vA (dB ⟨n,(some ⟨x,0,none⟩,hgt n+1,6)⟩),vI l] [] [Sl cI (some ⟨x,0,none⟩) (hgt n+1) 6 (cts n)] Unit (fun _=>True) (fun _=>vI (und n l)) (fun _=> []) (fun _=> []):=by
 refine an fun G=> ?_
 have hh:=bu n
 cases l with
 | zero=>(repeat' ((try refine au ?_);(conv=>arg 4;whnf);first | refine ax ?_ |(refine sN ?_;intro b)|(refine sC ?_ ?_<;>intro h)|(refine ar ?_ ?_<;>intro h<;>try contradiction)|(refine aa ?_;intro g c')| refine ae ?_ | refine ai ?_ | exact aw |(refine ak rfl ?_;intro D lL)| refine ah ?_ ?_ | refine aj ?_ ?_ ?_ | fail));(all_goals refine av ?_)
 | succ l=>
  have hg:(cts n).getD (l+1-1) default=und n (l+1):=jF (by omega)
  (repeat' ((try refine au ?_);(conv=>arg 4;whnf);first | refine ax ?_ |(refine sN ?_;intro b)|(refine sC ?_ ?_<;>intro h)|(refine ar ?_ ?_<;>intro h<;>try contradiction)|(refine aa ?_;intro g c')| refine ae ?_ | refine ai ?_ | exact aw |(refine ak rfl ?_;intro D lL)| refine ah ?_ ?_ | refine aj ?_ ?_ ?_ | fail));(all_goals refine av ?_)
  exact aG () True.intro (by rw [hg];rfl) (af _)
theorem sO {n l x:Nat} (h1:1≤n) (h2:n≤4096) (hl:l≤hgt n+1):Zp Tryz.prog 238 [vA (dB ⟨n,(some ⟨x,0,none⟩,hgt n+1,6)⟩),vI l] [] [Sl cI (some ⟨x,0,none⟩) (hgt n+1) 6 (cts n)] Unit (fun _=>True) (fun _=>vI (bas n l)) (fun _=> []) (fun _=> []):=by
 refine an fun G=> ?_
 have hh:=bu n
 (repeat' ((try refine au ?_);(conv=>arg 4;whnf);first | refine ax ?_ |(refine sN ?_;intro b)|(refine sC ?_ ?_<;>intro h)|(refine ar ?_ ?_<;>intro h<;>try contradiction)|(refine aa ?_;intro g c')| refine ae ?_ | refine ai ?_ | exact aw |(refine ak rfl ?_;intro D lL)| refine ah ?_ ?_ | refine aj ?_ ?_ ?_ | fail));(all_goals refine av ?_)
 refine dC (X:=Nat) (fun i=> [(5,vI (bas n i)),(16,vI i)]) (fun i=>i≤l) (fun i=> []) (fun i=>l-i) 0 (Nat.zero_le _) rfl (af _) ?_
 intro i hi
 have hb:=nQ (n:=n) (l:=i) h2 (by omega)
 by_cases h:i<l
 ·have hg:(cts n).getD i default=cnt n i:=jF (by omega)
  have hc:=dx n i
  (repeat' ((try refine au ?_);(conv=>arg 4;whnf);first | refine ax ?_ |(refine sN ?_;intro b)|(refine sC ?_ ?_<;>intro h)|(refine ar ?_ ?_<;>intro h<;>try contradiction)|(refine aa ?_;intro g c')| refine ae ?_ | refine ai ?_ | exact aw |(refine ak rfl ?_;intro D lL)| refine ah ?_ ?_ | refine aj ?_ ?_ ?_ | fail));(all_goals refine av ?_)
  exact bj (i+1) (by rw [hg];rfl) (by omega) (af _) (by omega)
 ·obtain rfl:i=l:=by omega
  (repeat' ((try refine au ?_);(conv=>arg 4;whnf);first | refine ax ?_ |(refine sN ?_;intro b)|(refine sC ?_ ?_<;>intro h)|(refine ar ?_ ?_<;>intro h<;>try contradiction)|(refine aa ?_;intro g c')| refine ae ?_ | refine ai ?_ | exact aw |(refine ak rfl ?_;intro D lL)| refine ah ?_ ?_ | refine aj ?_ ?_ ?_ | fail));(all_goals refine av ?_)
theorem rD {n:Nat} (h1:1≤n) (h2:n≤4096):Zp Tryz.prog 179 [vI n] [] [] Unit (fun _=>True) (fun _=> .tuple #[vI (hgt n),vI 0]) (fun _=> []) (fun _=> []):=by
 refine an fun G=> ?_
 have hh:=bu n
 (repeat' ((try refine au ?_);(conv=>arg 4;whnf);first | refine ax ?_ |(refine sN ?_;intro b)|(refine sC ?_ ?_<;>intro h)|(refine ar ?_ ?_<;>intro h<;>try contradiction)|(refine aa ?_;intro g c')|(refine dD (yL h1 h2) ?_;intro x hx;refine c9 ?_)| refine ae ?_ | refine ai ?_ | exact aw |(refine ak rfl ?_;intro D lL)| refine ah ?_ ?_ | refine aj ?_ ?_ ?_ | fail));(all_goals refine av ?_)
theorem AW {n l:Nat} (h1:1≤n) (h2:n≤4096) (hl:l≤hgt n):Zp Tryz.prog 138 [vI n,vI l] [] [] Unit (fun _=>True) (fun _=> .tuple #[vI (cnt n l),vI 0]) (fun _=> []) (fun _=> []):=by
 refine an fun G=> ?_
 have hh:=bu n
 have hg:(cts n).getD l default=cnt n l:=jF hl
 (repeat' ((try refine au ?_);(conv=>arg 4;whnf);first | refine ax ?_ |(refine sN ?_;intro b)|(refine sC ?_ ?_<;>intro h)|(refine ar ?_ ?_<;>intro h<;>try contradiction)|(refine aa ?_;intro g c')|(refine dD (Du (j:=0) h1 h2 hl (dS h1 l)) ?_;intro x hx;refine c9 ?_)| refine ae ?_ | refine ai ?_ | exact aw |(refine ak rfl ?_;intro D lL)| refine ah ?_ ?_ | refine aj ?_ ?_ ?_ | fail));(all_goals refine av ?_)
 exact aG () True.intro (by rw [hg];rfl) (af _)
end Go.Proofs.YtbobhnldhpjdlaaGreatDoor
namespace Go.Proofs.YtbobhnldhpjdlaaGreatDoor
open Go Go.RowKit Go.Cs Go.Cz
set_option maxRecDepth 100000
set_option maxHeartbeats 1000000
theorem HT {n:Nat} (h1:1≤n) (h2:n≤4096):Zp Tryz.prog 136 [vI n] [] [] Unit (fun _=>True) (fun _=> .tuple #[vI (tot n),vI 0]) (fun _=> []) (fun _=> []):=by
 refine an fun G=> ?_
 have hh:=bu n
 (repeat' ((try refine au ?_);(conv=>arg 4;whnf);first | refine ax ?_ |(refine sN ?_;intro b)|(refine sC ?_ ?_<;>intro h)|(refine ar ?_ ?_<;>intro h<;>try contradiction)|(refine aa ?_;intro g c')|(refine dD (yL h1 h2) ?_;intro x hx;refine c9 ?_)| refine ae ?_ | refine ai ?_ | exact aw |(refine ak rfl ?_;intro D lL)| refine ah ?_ ?_ | refine aj ?_ ?_ ?_ | fail));(all_goals refine av ?_)
 refine dC (X:=Nat) (fun i=> [(6,vI (num n i)),(20,vI i)]) (fun i=>i≤hgt n+1) (fun i=> []) (fun i=>hgt n+1-i) 0 (Nat.zero_le _) rfl (af _) ?_
 intro i hi
 have hb:=dk (n:=n) (l:=i) h2 (by omega)
 by_cases h:i<hgt n+1
 ·have hg:(cts n).getD i default=cnt n i:=jF (by omega)
  have hc:=dx n i
  (repeat' ((try refine au ?_);(conv=>arg 4;whnf);first | refine ax ?_ |(refine sN ?_;intro b)|(refine sC ?_ ?_<;>intro h)|(refine ar ?_ ?_<;>intro h<;>try contradiction)|(refine aa ?_;intro g c')| refine ae ?_ | refine ai ?_ | exact aw |(refine ak rfl ?_;intro D lL)| refine ah ?_ ?_ | refine aj ?_ ?_ ?_ | fail));(all_goals refine av ?_)
  exact bj (i+1) (by rw [hg];rfl) (by omega) (af _) (by omega)
 ·obtain rfl:i=hgt n+1:=by omega
  (repeat' ((try refine au ?_);(conv=>arg 4;whnf);first | refine ax ?_ |(refine sN ?_;intro b)|(refine sC ?_ ?_<;>intro h)|(refine ar ?_ ?_<;>intro h<;>try contradiction)|(refine aa ?_;intro g c')| refine ae ?_ | refine ai ?_ | exact aw |(refine ak rfl ?_;intro D lL)| refine ah ?_ ?_ | refine aj ?_ ?_ ?_ | fail));(all_goals refine av ?_)
theorem Jg {n l j:Nat} (h1:1≤n) (h2:n≤4096) (hl:l≤hgt n) (hj:j<cnt n l):Zp Tryz.prog 283 [vI n,vI l,vI j] [] [] Unit (fun _=>True) (fun _=> .tuple #[vI (prt n l j),vI 0]) (fun _=> []) (fun _=> []):=by
 refine an fun G=> ?_
 have hu:=EY.1 hj
 have hun:=uC n l
 (repeat' ((try refine au ?_);(conv=>arg 4;whnf);first | refine ax ?_ |(refine sN ?_;intro b)|(refine sC ?_ ?_<;>intro h)|(refine ar ?_ ?_<;>intro h<;>try contradiction)|(refine aa ?_;intro g c')|(refine dD (Du h1 h2 hl hj) ?_;intro x hx;refine c9 ?_)|(refine ay (HL h1 h2 hl) ?_;intro x hx;refine aN ?_)| refine ae ?_ | refine ai ?_ | exact aw |(refine ak rfl ?_;intro D lL)| refine ah ?_ ?_ | refine aj ?_ ?_ ?_ | fail));(all_goals refine av ?_)
theorem yY {n i:Nat} (h1:1≤n) (h2:n≤4096) (hi:i<n):Zp Tryz.prog 222 [vI n,vI i] [] [] Nat (fun _=>True) (fun x=> .tuple #[vA (dB ⟨n,(some ⟨x,0,none⟩,hgt n+1,6)⟩),vI 0]) (fun _=> []) (fun x=> [Sl cI (some ⟨x,0,none⟩) (hgt n+1) 6 (cts n)]):=by
 refine an fun G=> ?_
 (repeat' ((try refine au ?_);(conv=>arg 4;whnf);first | refine ax ?_ |(refine sN ?_;intro b)|(refine sC ?_ ?_<;>intro h)|(refine ar ?_ ?_<;>intro h<;>try contradiction)|(refine aa ?_;intro g c')|(refine dD (yL h1 h2) ?_;intro x hx;refine c9 ?_)| refine ae ?_ | refine ai ?_ | exact aw |(refine ak rfl ?_;intro D lL)| refine ah ?_ ?_ | refine aj ?_ ?_ ?_ | fail));(all_goals refine av ?_)
 exact aG x True.intro rfl (af _) cR
theorem kQ {n i t:Nat} (h1:1≤n) (h2:n≤4096) (hi:i<n) (ht:t≤1):Zp Tryz.prog 132 [vI n,vI i,vI t] [] [] Unit (fun _=>True) (fun _=> .tuple #[vI (2*i+t),vI 0]) (fun _=> []) (fun _=> []):=by
 refine an fun G=> ?_
 rcases (show t=0∨t=1 by omega) with rfl | rfl
 ·(repeat' ((try refine au ?_);(conv=>arg 4;whnf);first | refine ax ?_ |(refine sN ?_;intro b)|(refine sC ?_ ?_<;>intro h)|(refine ar ?_ ?_<;>intro h<;>try contradiction)|(refine aa ?_;intro g c')|(refine dD (yY h1 h2 hi) ?_;intro x hx;refine c9 ?_)| refine ae ?_ | refine ai ?_ | exact aw |(refine ak rfl ?_;intro D lL)| refine ah ?_ ?_ | refine aj ?_ ?_ ?_ | fail));(all_goals refine av ?_)
 ·(repeat' ((try refine au ?_);(conv=>arg 4;whnf);first | refine ax ?_ |(refine sN ?_;intro b)|(refine sC ?_ ?_<;>intro h)|(refine ar ?_ ?_<;>intro h<;>try contradiction)|(refine aa ?_;intro g c')|(refine dD (yY h1 h2 hi) ?_;intro x hx;refine c9 ?_)| refine ae ?_ | refine ai ?_ | exact aw |(refine ak rfl ?_;intro D lL)| refine ah ?_ ?_ | refine aj ?_ ?_ ?_ | fail));(all_goals refine av ?_)
theorem tu {n l j t:Nat} (h1:1≤n) (h2:n≤4096) (hl:l≤hgt n) (hj:j<cnt n l) (ht:t≤1):Zp Tryz.prog 180 [vI n,vI l,vI j,vI t] [] [] Unit (fun _=>True) (fun _=> .tuple #[vI (bas n l+2*j+t),vI 0]) (fun _=> []) (fun _=> []):=by
 refine an fun G=> ?_
 have hh:=bu n
 have hb:=nQ (n:=n) (l:=l) h2 (by omega)
 have hc:=dx n l
 rcases (show t=0∨t=1 by omega) with rfl | rfl
 ·(repeat' ((try refine au ?_);(conv=>arg 4;whnf);first | refine ax ?_ |(refine sN ?_;intro b)|(refine sC ?_ ?_<;>intro h)|(refine ar ?_ ?_<;>intro h<;>try contradiction)|(refine aa ?_;intro g c')|(refine dD (Du h1 h2 hl hj) ?_;intro x hx;refine c9 ?_)|(refine ay (sO h1 h2 (Nat.le_succ_of_le hl)) ?_;intro x hx;refine aN ?_)| refine ae ?_ | refine ai ?_ | exact aw |(refine ak rfl ?_;intro D lL)| refine ah ?_ ?_ | refine aj ?_ ?_ ?_ | fail));(all_goals refine av ?_)
 ·(repeat' ((try refine au ?_);(conv=>arg 4;whnf);first | refine ax ?_ |(refine sN ?_;intro b)|(refine sC ?_ ?_<;>intro h)|(refine ar ?_ ?_<;>intro h<;>try contradiction)|(refine aa ?_;intro g c')|(refine dD (Du h1 h2 hl hj) ?_;intro x hx;refine c9 ?_)|(refine ay (sO h1 h2 (Nat.le_succ_of_le hl)) ?_;intro x hx;refine aN ?_)| refine ae ?_ | refine ai ?_ | exact aw |(refine ak rfl ?_;intro D lL)| refine ah ?_ ?_ | refine aj ?_ ?_ ?_ | fail));(all_goals refine av ?_)
theorem AT {n:Nat} (h1:1≤n) (h2:n≤4096):Zp Tryz.prog 178 [vI n] [] [] Unit (fun _=>True) (fun _=> .tuple #[vI (bas n (hgt n+1)),vI 0]) (fun _=> []) (fun _=> []):=by
 refine an fun G=> ?_
 have hh:=bu n
 (repeat' ((try refine au ?_);(conv=>arg 4;whnf);first | refine ax ?_ |(refine sN ?_;intro b)|(refine sC ?_ ?_<;>intro h)|(refine ar ?_ ?_<;>intro h<;>try contradiction)|(refine aa ?_;intro g c')|(refine dD (yL h1 h2) ?_;intro x hx;refine c9 ?_)|(refine ay (sO (l:=hgt n+1) h1 h2 (Nat.le_refl _)) ?_;intro x hx;refine aN ?_)| refine ae ?_ | refine ai ?_ | exact aw |(refine ak rfl ?_;intro D lL)| refine ah ?_ ?_ | refine aj ?_ ?_ ?_ | fail));(all_goals refine av ?_)
end Go.Proofs.YtbobhnldhpjdlaaGreatDoor
namespace Go.Proofs.YtbobhnldhpjdlaaGreatDoor
open Go Go.RowKit Go.Cs Go.Cz
set_option maxRecDepth 100000
set_option maxHeartbeats 1000000
def uj (l:List SPla) (k:Nat):List SPla:=(List.range l.length).map fun p=>if p<k∨l.length≤p+k then l.getD (l.length-1-p) default else l.getD p default
theorem jD (l:List SPla) (k:Nat):(uj l k).length=l.length:=by simp [uj]
theorem iX (l:List SPla) (k:Nat) {p:Nat} (h:p<l.length):(uj l k)[p]? =some (if p<k∨l.length≤p+k then l.getD (l.length-1-p) default else l.getD p default):=by simp [uj,h]
theorem AQ (l:List SPla):uj l 0=l:=by
 apply List.ext_getElem?
 intro i
 by_cases h:i<l.length
 ·rw [iX l 0 h,if_neg (by omega)];simp [List.getD,h]
 ·rw [List.getElem?_eq_none (by rw [jD];omega),List.getElem?_eq_none (by omega)]
theorem Df (l:List SPla) {k:Nat} (hk:l.length≤2*k+1):uj l k=l.reverse:=by
 apply List.ext_getElem?
 intro i
 by_cases h:i<l.length
 ·rw [iX l k h,List.getElem?_reverse h]
  by_cases h2:i<k∨l.length≤i+k
  ·rw [if_pos h2];simp [List.getD,show l.length-1-i<l.length by omega]
  ·rw [if_neg h2,show l.length-1-i=i by omega];simp [List.getD,h]
 ·rw [List.getElem?_eq_none (by rw [jD];omega),List.getElem?_eq_none (by simp;omega)]
theorem zF (l:List SPla) {k:Nat} (hk:2*k+1<l.length):((uj l k).set k ((uj l k).getD (l.length-1-k) default)).set (l.length-1-k) ((uj l k).getD k default)=uj l (k+1):=by
 apply List.ext_getElem?
 intro i
 have hl:=jD l k
 by_cases h:i<l.length
 ·rw [iX l (k+1) h]
  by_cases h1:i=l.length-1-k
  ·rw [h1,List.getElem?_set_self (by simp;omega),if_pos (by omega)]
   rw [List.getD_eq_getElem?_getD,iX l k (by omega),if_neg (by omega)]
   simp [show l.length-1-(l.length-1-k)=k by omega]
  ·rw [List.getElem?_set_ne (by omega)]
   by_cases h2:i=k
   ·subst h2
    rw [List.getElem?_set_self (by omega),if_pos (by omega),List.getD_eq_getElem?_getD,iX l i (by omega),if_neg (by omega)]
    rfl
   ·rw [List.getElem?_set_ne (by omega),iX l k h]
    by_cases h3:i<k∨l.length≤i+k
    ·rw [if_pos h3,if_pos (by omega)]
    ·rw [if_neg h3,if_neg (by omega)]
 ·rw [List.getElem?_eq_none (by simp;omega),List.getElem?_eq_none (by rw [jD];omega)]
theorem IW {b n c e:Nat} {l:List SPla} (hl:l.length=n) (h1:1≤n) (h6:n≤6) (hc:n≤c) (hc2:c≤9223372036854775807):Zp Tryz.prog 227 [.slice (some ⟨b,0,none⟩) n c] [iB b (l.flatMap de) e] [] Unit (fun _=>True) (fun _=> .tuple #[]) (fun _=> [iB b (l.reverse.flatMap de) e]) (fun _=> []):=by
 refine an fun G=> ?_
 (repeat' ((try refine au ?_);(conv=>arg 4;whnf);first | refine ax ?_ |(refine sN ?_;intro b)|(refine sC ?_ ?_<;>intro h)|(refine ar ?_ ?_<;>intro h<;>try contradiction)|(refine aa ?_;intro g c')| refine ae ?_ | refine ai ?_ | exact aw |(refine ak rfl ?_;intro D lL)| refine ah ?_ ?_ | refine aj ?_ ?_ ?_ | fail));(all_goals refine av ?_)
 refine eA [b] (X:=Nat) (fun k=> [(2,vI k),(3,vI (n-1-k))]) (fun k=>2*k≤n) (fun k=> [iB b ((uj l k).flatMap de) e]) (fun k=>n-k) 0 (by omega) rfl ?_ ?_
 ·rw [AQ];((repeat' (first | with_reducible exact am _ | exact af _ | refine aB ?_ ?_ | refine aD inferInstance ?_))<;>(try with_reducible rfl))
 intro k hk
 (conv=>arg 2;simp only [List.cons_append,List.nil_append])
 have hlen:=jD l k
 by_cases h:2*k+1<n
 ·have e2:((uj l k).set k ((uj l k).getD (n-1-k) default)).set (n-1-k) ((uj l k).getD k default)=uj l (k+1):=by
   have:=zF l (k:=k) (by omega)
   rw [hl] at this;exact this
  (repeat' ((try refine au ?_);(conv=>arg 4;whnf);first | refine ax ?_ |(refine sN ?_;intro b)|(refine sC ?_ ?_<;>intro h)|(refine ar ?_ ?_<;>intro h<;>try contradiction)|(refine aa ?_;intro g c')| refine ae ?_ | refine ai ?_ | exact aw |(refine ak rfl ?_;intro D lL)| refine ah ?_ ?_ | refine aj ?_ ?_ ?_ | fail));(all_goals refine av ?_)
  refine bj (k+1) rfl (by omega) ?_ (by omega)
  rw [e2];((repeat' (first | with_reducible exact am _ | exact af _ | refine aB ?_ ?_ | refine aD inferInstance ?_))<;>(try with_reducible rfl))
 ·(repeat' ((try refine au ?_);(conv=>arg 4;whnf);first | refine ax ?_ |(refine sN ?_;intro b)|(refine sC ?_ ?_<;>intro h)|(refine ar ?_ ?_<;>intro h<;>try contradiction)|(refine aa ?_;intro g c')| refine ae ?_ | refine ai ?_ | exact aw |(refine ak rfl ?_;intro D lL)| refine ah ?_ ?_ | refine aj ?_ ?_ ?_ | fail));(all_goals refine av ?_)
  rw [Df l (by omega)]
  exact aG () True.intro rfl (aB (af _) rfl)
def jR (i k:Nat):List SPla:=(List.range k).map fun l=>⟨l,idx i l⟩
def e8 (n i:Nat):List SPla:=(jR i (hgt n+1)).reverse
theorem jX (i k:Nat):(jR i k).length=k:=by simp [jR]
theorem yx (i k:Nat):jR i (k+1)=jR i k++ [⟨k,idx i k⟩]:=by simp [jR,List.range_succ]
theorem jK (n i:Nat):(e8 n i).length=hgt n+1:=by simp [e8,jX]
theorem mv {n i k:Nat} (h:k≤hgt n):(e8 n i).getD k default=⟨hgt n-k,idx i (hgt n-k)⟩:=by
 have h2:k<(jR i (hgt n+1)).length:=by rw [jX];omega
 rw [e8,List.getD_eq_getElem?_getD,List.getElem?_reverse h2,jX]
 rw [show hgt n+1-1-k=hgt n-k by omega]
 simp only [jR,List.getElem?_map]
 rw [List.getElem?_range (by omega)];rfl
theorem sG {n i:Nat} (h1:1≤n) (h2:n≤4096) (hi:i<n):Zp Tryz.prog 145 [vI n,vI i] [] [] Nat (fun _=>True) (fun x=> .tuple #[.slice (some ⟨x,0,none⟩) (hgt n+1) (hgt n+1),vI 0]) (fun _=> []) (fun x=> [Sl de (some ⟨x,0,none⟩) (hgt n+1) (hgt n+1) (e8 n i)]):=by
 refine an fun G=> ?_
 have hh:=bu n
 (repeat' ((try refine au ?_);(conv=>arg 4;whnf);first | refine ax ?_ |(refine sN ?_;intro b)|(refine sC ?_ ?_<;>intro h)|(refine ar ?_ ?_<;>intro h<;>try contradiction)|(refine aa ?_;intro g c')|(refine dD (yY h1 h2 hi) ?_;intro x hx;refine c9 ?_)| refine ae ?_ | refine ai ?_ | exact aw |(refine ak rfl ?_;intro D lL)| refine ah ?_ ?_ | refine aj ?_ ?_ ?_ | fail));(all_goals refine av ?_)
 rename_i sb mb cb kb
 refine eA [b,cb,mb] (X:=Nat) (fun k=> [(8,vI k)]) (fun k=>k≤hgt n+1) (fun k=> [iB b [vI (qs i k)] 3,iB cb [.slice (some ⟨mb,0,none⟩) k (hgt n+1)] 282,iB mb ((jR i k++List.replicate (hgt n+1-k) SPla.zero).flatMap de) 287]) (fun k=>hgt n+1-k) 0 (Nat.zero_le _) rfl ?_ ?_
 ·rw [show jR i 0= [] from rfl,List.nil_append,Nat.sub_zero];((repeat' (first | with_reducible exact am _ | exact af _ | refine aB ?_ ?_ | refine aD inferInstance ?_ | refine aI ?_))<;>(try with_reducible rfl))
  all_goals rfl
 intro k hk
 (conv=>arg 2;simp only [List.cons_append,List.nil_append])
 have hqs:=Eb i k
 have hpl:=jX i k
 by_cases h:k<hgt n+1
 ·have e:spl (jR i k++List.replicate (hgt n+1-k) SPla.zero) k [⟨k,qs i k/4⟩]=jR i (k+1)++List.replicate (hgt n+1-(k+1)) SPla.zero:=by
   rw [spl,List.take_append_of_le_length (by omega),List.take_of_length_le (by omega),yx,yG,List.drop_append,List.drop_eq_nil_of_le (by simp;omega),List.nil_append,List.drop_replicate,hpl]
   simp only [List.length_singleton]
   rw [show hgt n+1-k-(k+1-k)=hgt n+1-(k+1) by omega]
  (repeat' ((try refine au ?_);(conv=>arg 4;whnf);first | refine ax ?_ |(refine sN ?_;intro b)|(refine sC ?_ ?_<;>intro h)|(refine ar ?_ ?_<;>intro h<;>try contradiction)|(refine aa ?_;intro g c')| refine ae ?_ | refine ai ?_ | exact aw |(refine ak rfl ?_;intro D lL)| refine ah ?_ ?_ | refine aj ?_ ?_ ?_ | fail));(all_goals refine av ?_)
  refine bj (k+1) rfl (by omega) ?_ (by omega)
  rw [e];((repeat' (first | with_reducible exact am _ | exact af _ | refine aB ?_ ?_ | refine aD inferInstance ?_ | refine aI ?_))<;>(try with_reducible rfl))
  all_goals rfl
 ·obtain rfl:k=hgt n+1:=by omega
  rw [Nat.sub_self,List.replicate_zero,List.append_nil]
  (repeat' ((try refine au ?_);(conv=>arg 4;whnf);first | refine ax ?_ |(refine sN ?_;intro b)|(refine sC ?_ ?_<;>intro h)|(refine ar ?_ ?_<;>intro h<;>try contradiction)|(refine aa ?_;intro g c')|(refine dJ (IW (l:=jR i (hgt n+1)) hpl (by omega) (by omega) (Nat.le_refl _) (by omega)) ?_;intro x hx;refine c9 ?_)| refine ae ?_ | refine ai ?_ | exact aw |(refine ak rfl ?_;intro D lL)| refine ah ?_ ?_ | refine aj ?_ ?_ ?_ | fail));(all_goals refine av ?_)
  rw [show (jR i (hgt n+1)).reverse=e8 n i from rfl]
  refine gh mb (hgt n+1) (hgt n+1) (K:=de) (l:=e8 n i) ?_ ⟨(jK n i).symm,Nat.le_refl _,by omega⟩
  exact aG mb True.intro rfl (af _) cR
end Go.Proofs.YtbobhnldhpjdlaaGreatDoor
