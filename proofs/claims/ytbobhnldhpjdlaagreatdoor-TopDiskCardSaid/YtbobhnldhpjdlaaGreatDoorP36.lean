/- Lemmas and walks: what each function does, by its own code. No condition beyond those of each statement. -/
import Derived.Test.YtbobhnldhpjdlaaGreatDoorP10
import Derived.Test.YtbobhnldhpjdlaaGreatDoorP18
import Derived.Test.YtbobhnldhpjdlaaGreatDoorP20
set_option linter.all false
set_option linter.unusedVariables false
namespace Go.Proofs.YtbobhnldhpjdlaaGreatDoor
open Go Go.RowKit Go.Cs Go.Cz
set_option maxRecDepth 100000
set_option maxHeartbeats 4000000
theorem FM {k:Nat} (hk:k<4294967296):Zp Tryz.prog 310 [.int .u64 ((1:Nat):Int), .int .u64 ((k:Nat):Int)] [] [] Unit (fun _=>True) (fun _=> .tuple #[.int .u64 ((0:Nat):Int), .int .u64 ((k:Nat):Int)]) (fun _=> []) (fun _=> []):=by
 obtain ⟨u,hu⟩:∃u:UInt64,u.toNat=k:=⟨UInt64.ofNat k,by simp;omega⟩
 obtain ⟨v,hv⟩:∃v:UInt64,v.toNat=1:=⟨1,rfl⟩
 subst hu
 rw [←hv]
 refine ak fun G=> ?_
 (repeat' ((try refine aw ?_);(conv=>arg 4;whnf);first | refine az ?_ | fail));(all_goals refine av ?_)
 have hv1:v=1:=UInt64.toNat_inj.1 hv
 subst hv1
 have e1:u&&&UInt64.ofNat 4294967295=u:=UInt64.toNat_inj.1 (by
  rw [UInt64.toNat_and]
  show u.toNat&&&4294967295=u.toNat
  rw [show (4294967295:Nat)=2^32-1 from rfl,Nat.and_two_pow_sub_one_eq_mod];omega)
 have e2:u>>>UInt64.ofNat 32=0:=UInt64.toNat_inj.1 (by
  rw [UInt64.toNat_shiftRight]
  show u.toNat>>>32=0
  rw [Nat.shiftRight_eq_div_pow];omega)
 have e3:(1:UInt64)>>>UInt64.ofNat 32=0:=by decide
 have e4:(1:UInt64)&&&UInt64.ofNat 4294967295=1:=by decide
 have e5:(0:UInt64)>>>UInt64.ofNat 32=0:=by decide
 have e6:(0:UInt64)&&&UInt64.ofNat 4294967295=0:=by decide
 refine aD () True.intro ?_ (am _) bu
 simp only [e1,e2,e3,e4,e5,e6,UInt64.zero_mul,UInt64.one_mul,UInt64.mul_zero,UInt64.zero_add,UInt64.add_zero]
 rfl
def rY (p:Option Addr) (n k:Nat):List (Option Addr):=List.replicate n p++List.replicate (k-n) none
theorem Ct {p:Option Addr} {n k:Nat} (h:n≤k):(rY p n k).length=k:=by simp [rY];omega
theorem CJ {p:Option Addr} {n k:Nat} (h:n≤k):spl (rY p n k) n ((List.replicate n p).take (min n (k-n)))=rY p (n+min n (k-n)) k:=by
 obtain ⟨m,hm⟩:∃m,m=min n (k-n):=⟨_,rfl⟩
 have h1:(List.replicate n p).take (min n (k-n))=List.replicate m p:=by rw [List.take_replicate,hm];congr 1;omega
 rw [h1,←hm]
 unfold spl rY
 rw [List.take_left' (by simp),List.length_replicate,←List.drop_drop,List.drop_left' (by simp),List.drop_replicate,show k-n-m=k-(n+m) by omega,←List.replicate_append_replicate]
instance {p:Option Addr} {b n k c e:Nat} {O:List It} {F:List Pt}:Lb (iB b ((rY p n k).flatMap cP) e::O) F cP (some ⟨b,0,none⟩) n c (List.replicate n p) (n≤c∧c≤9223372036854775807):=⟨fun h w h1 _=>by
 have hB:Blk w b ((rY p n k).flatMap cP) e:=h1 _ (.head _)
 have hA:=Blk.all hB
 rw [rY,List.flatMap_append] at hA
 exact rk (by have:=At.sub hA 0 ((List.replicate n p).flatMap cP) (by simp);simpa using this) (by simp) h.1 h.2⟩
theorem Eh {b k c:Nat} {p:Option Addr} (h1:1≤k) (h2:k≤1024):Zp Tryz.prog 204 [.slice (some ⟨b,0,none⟩) 1 c,vI k] [] [Sl cP (some ⟨b,0,none⟩) 1 c [p]] Nat (fun _=>True) (fun x=> .slice (some ⟨x,0,none⟩) k k) (fun x=> [iB x ((List.replicate k p).flatMap cP) 351]) (fun _=> []):=by
 refine ak fun G=> ?_
 refine aS 0 ?_
 intro hn hc hm ha
 have hmul:=FM (k:=k) (by omega)
 have e0:spl (List.replicate k none) 0 (List.take (min 1 k) [p])=rY p 1 k:=by
  rw [show min 1 k=1 by omega]
  show []++ [p]++(List.replicate k none).drop 1= [p]++List.replicate (k-1) none
  rw [List.drop_replicate];rfl
 have hU0:Ub ((List.replicate k none).flatMap cP) 0 ((List.take (min 1 k) [p]).flatMap cP) ((rY p 1 k).flatMap cP) True:=⟨fun _=>by
  have:=kn (K:=cP) (m:=1) (List.replicate k none) (List.take (min 1 k) [p]) 0 (by simp;omega)
  rwa [e0,Nat.zero_mul] at this⟩
 (repeat' ((try refine aw ?_);(conv=>arg 4;whnf);first | refine aO ?_ |(refine sN ?_;intro b)|(refine aA hmul ?_;intro x hx;refine aH ?_)| refine ae ?_ | fail));(all_goals refine av ?_)
 rw [show min 1 k=1 by omega]
 refine dh [b] (X:=Nat) (fun i=> [(8,vI i)]) (fun i=>1≤i∧i≤k) (fun i=> [iB b ((rY p i k).flatMap cP) 351]) (fun i=>k-i) 1 ⟨Nat.le_refl _,h1⟩ rfl cD ?_
 intro i hi
 (conv=>arg 2;simp only [List.cons_append,List.nil_append])
 have hlen:=Ct (p:=p) hi.2
 by_cases hlt:i<k
 ·have hU:Ub ((rY p i k).flatMap cP) (0+i*1) ((List.take (min i (k-i)) (List.replicate i p)).flatMap cP) ((rY p (i+min i (k-i)) k).flatMap cP) True:=⟨fun _=>by
   have:=kn (K:=cP) (m:=1) (rY p i k) (List.take (min i (k-i)) (List.replicate i p)) i (by simp;omega)
   rw [CJ hi.2] at this
   rwa [Nat.zero_add]⟩
  (repeat' ((try refine aw ?_);(conv=>arg 4;whnf);first | refine az ?_ |(refine sN ?_;intro b)| refine ae ?_ | fail));(all_goals refine av ?_)
  exact a5 (i+min i (k-i)) rfl (by omega) cD (by omega)
 ·obtain rfl:i=k:=by omega
  (repeat' ((try refine aw ?_);(conv=>arg 4;whnf);first | refine az ?_ |(refine sN ?_;intro b)| refine ae ?_ | fail));(all_goals refine av ?_)
  rw [show rY p i i=List.replicate i p by simp [rY]]
  exact aD b True.intro rfl cD bu
def qn (n cb:Nat):DI:=⟨n,List.replicate ((n+63)/64) cb,List.replicate (64*((n+63)/64)) []⟩
theorem BE {n cb:Nat} (h1:1≤n) (h2:n≤10922):(qn n cb).Ok:=⟨h1,h2,by simp [qn],by simp [qn]⟩
theorem sn {n cb i:Nat}:(qn n cb).vs.getD i []= []:=by
 simp only [qn,List.getD_eq_getElem?_getD,List.getElem?_replicate];split<;>rfl
theorem DR {n cb:Nat}:(qn n cb).con=fun _=> []:=by
 funext i
 unfold DI.con
 rw [sn];rfl
theorem GP {n cb k:Nat} (hk:k<(n+63)/64):(qn n cb).cs k=List.replicate 64 none:=by
 simp only [DI.cs,qn,List.drop_replicate,List.take_replicate,List.map_replicate]
 rw [show min 64 (64*((n+63)/64)-64*k)=64 by omega];rfl
theorem IE {n:Nat} (h1:1≤n) (h2:n≤10922):Zp Tryz.prog 108 [vI n] [] [] (Nat×Nat) (fun _=>True) (fun x=> .tuple #[vA (aJ ⟨n,0,(some ⟨x.2,0,none⟩,(n+63)/64,(n+63)/64)⟩),vI 0]) (fun _=> []) (fun x=> [Dm ⟨n,0,(some ⟨x.2,0,none⟩,(n+63)/64,(n+63)/64)⟩ (qn n x.1)]):=by
 refine ak fun G=> ?_
 (repeat' ((try refine aw ?_);(conv=>arg 4;whnf);first | refine aO ?_ |(refine sN ?_;intro b)|(refine aA (Eh (k:=(n+64-1)/64) (by omega) (by omega)) ?_;intro x hx;refine aH ?_)| fail));(all_goals refine av ?_)
 rename_i cb
 revert b;intro pb
 have hFb:Fb [Value.pointer (some ⟨cb,0,none⟩)] cP [some ⟨cb,0,none⟩]:=⟨rfl⟩
 refine eK (K:=cP) (l:= [some ⟨cb,0,none⟩]) pb 1 1 ?_
 (repeat' ((try refine aw ?_);(conv=>arg 4;whnf);first | refine az ?_ |(refine sN ?_;intro b)|(refine aA (Eh (k:=(n+64-1)/64) (by omega) (by omega)) ?_;intro x hx;refine aH ?_)| fail));(all_goals refine av ?_)
 rw [show n+64-1=n+63 by omega]
 refine eK (K:=cP) x ((n+63)/64) ((n+63)/64) ?_
 refine bG cb ?_
 refine aR (Dm ⟨n,0,(some ⟨x,0,none⟩,(n+63)/64,(n+63)/64)⟩ (qn n cb)) (fun w _ hf=> ?_) (aD (cb,x) True.intro rfl (am _) bu)
 have hB:Bk cb ((List.replicate 64 none).flatMap cP) w:=hf _ (.head _)
 have hS:Sl cP (some ⟨x,0,none⟩) ((n+63)/64) ((n+63)/64) (List.replicate ((n+63)/64) (some ⟨cb,0,none⟩)) w:=hf _ (.tail _ (.head _))
 refine ⟨rfl, ?_,fun k hk=> ?_,fun i=> ?_⟩
 ·have e:(qn n cb).ch.map ja=List.replicate ((n+63)/64) (some ⟨cb,0,none⟩):=by simp [qn,ja]
  rw [e];exact hS
 ·have hk':k<(n+63)/64:=by simpa [qn] using hk
  have e:(qn n cb).ch.getD k 0=cb:=by
   simp only [qn,List.getD_eq_getElem?_getD,List.getElem?_replicate,if_pos hk'];rfl
  rw [e,GP hk']
  exact hB
 ·rw [sn];exact True.intro
theorem Ck {n cb x:Nat} (h1:1≤n) (h2:n≤10922):DOk ⟨n,0,(some ⟨x,0,none⟩,(n+63)/64,(n+63)/64)⟩ (qn n cb) n 0 (fun _=> []):=
 ⟨BE h1 h2,rfl,DR,Nat.le_refl _,fun i=>Nat.le_refl _,fun i b h=>by cases h⟩
theorem IC {n:Nat} {q:Value×Value} (h1:1≤n) (h2:n≤4096) (h3:bas n (hgt n+1)≤10922):Zp Tryz.prog 65 [vI n] [] [Gs q] (SDsk×DI) (fun x=>DOk x.1 x.2 (bas n (hgt n+1)) 1 (zC n)∧x.1.size=bas n (hgt n+1)) (fun x=> .tuple #[vA (aJ x.1),vA (aL (gO n)),vI 0]) (fun _=> []) (fun x=> [Dm x.1 x.2]):=by
 have h5:=a8 n
 have hch:=eg h1 h2
 have hbl:=G9 h1 (hgt n)
 have hb5:=pY n (hgt n)
 have hbn:bas n (hgt n+1)=bas n (hgt n)+2*cnt n (hgt n):=rfl
 have hck:=xq h5
 have hnl:(aM (Nod.mt (hgt n) 0)).length≤256:=by rw [dN];split<;>omega
 refine ak fun G=> ?_
 (repeat' ((try refine aw ?_);(conv=>arg 4;whnf);first | refine aO ?_ |(refine sN ?_;intro b)|((first | refine aA (DX (q:=q) h1 h2) ?_ | refine aA (Am h1 h2) ?_ | refine aA (rB h1 h2) ?_ | refine aA nL ?_ | refine aA (ue (l:=hgt n) (j:=0) (t:=(gO n).ep%2) h1 h2 (Nat.le_refl _) (by omega) (by omega)) ?_ | refine aA (wZ (lv:=hgt n) (ix:=0) (by omega) (by omega)) ?_ | refine aA (oE (q:=q) hck) ?_);intro x hx;refine aH ?_)|(refine cw (IE (n:=bas n (hgt n+1)) (by omega) h3) ?_;intro x hx;refine bV ?_)| fail));(all_goals refine av ?_)
 obtain ⟨cb,xb⟩:=x
 have hs:bas n (hgt n)+2*0+(gO n).ep%2<bas n (hgt n+1):=by omega
 have hD:=Ck (n:=bas n (hgt n+1)) (cb:=cb) (x:=xb) (by omega) h3
 dsimp only
 have hnl2:dx (Nod.mt (hgt n) 0)=(aM (Nod.mt (hgt n) 0)).length:=(dN _).symm
 have hv0:((qn (bas n (hgt n+1)) cb).vs.getD (bas n (hgt n)+2*0+(gO n).ep%2) []).length≤1099511627776:=by rw [sn];exact Nat.zero_le _
 refine eK (K:=cB) (l:=aM (Nod.mt (hgt n) 0)) x (dx (Nod.mt (hgt n) 0)) (dx (Nod.mt (hgt n) 0)) ?_
 (repeat' ((try refine aw ?_);(conv=>arg 4;whnf);first | refine az ?_ |(refine sN ?_;intro b)|(refine cw (uJ (s:=bas n (hgt n)+2*0+(gO n).ep%2) (BE (cb:=cb) (by omega) h3) hs (Nat.zero_le _) hv0 hnl) ?_;intro x hx;refine bV ?_)| fail));(all_goals refine av ?_)
 obtain ⟨d',nb,v1,v2⟩:=x
 have hD2:=hD.put (d':=d') (v:=⟨v1,v2,true,aM (Nod.mt (hgt n) 0)⟩) (nb:=nb) hs hx.2 (fun _=>hnl)
 rw [if_pos (show (⟨v1,v2,true,aM (Nod.mt (hgt n) 0)⟩:VN).th=true from rfl)] at hD2
 have e1:bas n (hgt n)+2*0+(gO n).ep%2=ee n (tot n-1) 0:=by rw [iP,eR h1 h2];rfl
 refine aD (d',_) ⟨?_,hx.1⟩ rfl (am _) bu
 show DOk d' _ _ _ (zC n)
 rw [e1] at hD2
 unfold zC
 rw [e1]
 exact hD2
end Go.Proofs.YtbobhnldhpjdlaaGreatDoor
