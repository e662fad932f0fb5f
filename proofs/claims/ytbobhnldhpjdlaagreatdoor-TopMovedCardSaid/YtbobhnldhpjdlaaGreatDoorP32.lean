/- Lemmas and walks: what each function does, by its own code. No condition beyond those of each statement. -/
import Derived.Test.YtbobhnldhpjdlaaGreatDoorP10
import Derived.Test.YtbobhnldhpjdlaaGreatDoorP17
import Derived.Test.YtbobhnldhpjdlaaGreatDoorP26
set_option linter.all false
set_option linter.unusedVariables false
namespace Go.Proofs.YtbobhnldhpjdlaaGreatDoor
open Go Go.RowKit Go.Cs Go.Cz
set_option maxRecDepth 100000
set_option maxHeartbeats 4000000
theorem Fd {k:Nat} (hk:k<4294967296):Zp Tryz.prog 310 [.int .u64 ((1:Nat):Int), .int .u64 ((k:Nat):Int)] [] [] Unit (fun _=>True) (fun _=> .tuple #[.int .u64 ((0:Nat):Int), .int .u64 ((k:Nat):Int)]) (fun _=> []) (fun _=> []):=by
 obtain ⟨u,hu⟩:∃u:UInt64,u.toNat=k:=⟨UInt64.ofNat k,by simp;omega⟩
 obtain ⟨v,hv⟩:∃v:UInt64,v.toNat=1:=⟨1,rfl⟩
 subst hu
 rw [←hv]
 refine an fun G=> ?_
 (repeat' ((try refine au ?_);(conv=>arg 4;whnf);first | refine ax ?_ |(refine sN ?_;intro b)|(refine sC ?_ ?_<;>intro h)|(refine ar ?_ ?_<;>intro h<;>try contradiction)|(refine aa ?_;intro g c')| refine ae ?_ | refine ai ?_ | exact aw |(refine ak rfl ?_;intro D lL)| refine ah ?_ ?_ | refine aj ?_ ?_ ?_ | fail));(all_goals refine av ?_)
 have hv1:v=1:=UInt64.toNat_inj.1 hv
 subst hv1
 have e1:u&&&UInt64.ofNat 4294967295=u:=UInt64.toNat_inj.1 (by
  rw [UInt64.toNat_and]
  show u.toNat&&&4294967295=u.toNat
  rw [show (4294967295:Nat)=2^32-1 from rfl,Nat.and_two_pow_sub_one_eq_mod];omega)
 have e2:u>>>UInt64.ofNat 32=0:=UInt64.toNat_inj.1 (by
  rw [UInt64.toNat_shiftRight]
  show u.toNat>>>32=0
  rw [Nat.shiftRight_eq_div_pow];omega)
 have e3:(1:UInt64)>>>UInt64.ofNat 32=0:=by decide
 have e4:(1:UInt64)&&&UInt64.ofNat 4294967295=1:=by decide
 have e5:(0:UInt64)>>>UInt64.ofNat 32=0:=by decide
 have e6:(0:UInt64)&&&UInt64.ofNat 4294967295=0:=by decide
 refine aG () True.intro ?_ (af _) cR
 simp only [e1,e2,e3,e4,e5,e6,UInt64.zero_mul,UInt64.one_mul,UInt64.mul_zero,UInt64.zero_add,UInt64.add_zero]
 rfl
def sx (p:Option Addr) (n k:Nat):List (Option Addr):=List.replicate n p++List.replicate (k-n) none
theorem CF {p:Option Addr} {n k:Nat} (h:n≤k):(sx p n k).length=k:=by simp [sx];omega
theorem Ds {p:Option Addr} {n k:Nat} (h:n≤k):spl (sx p n k) n ((List.replicate n p).take (min n (k-n)))=sx p (n+min n (k-n)) k:=by
 obtain ⟨m,hm⟩:∃m,m=min n (k-n):=⟨_,rfl⟩
 have h1:(List.replicate n p).take (min n (k-n))=List.replicate m p:=by rw [List.take_replicate,hm];congr 1;omega
 rw [h1,←hm]
 unfold spl sx
 rw [List.take_left' (by simp),List.length_replicate,←List.drop_drop,List.drop_left' (by simp),List.drop_replicate,show k-n-m=k-(n+m) by omega,←List.replicate_append_replicate]
instance {p:Option Addr} {b n k c e:Nat} {O:List It} {F:List Pt}:Lb (iB b ((sx p n k).flatMap cP) e::O) F cP (some ⟨b,0,none⟩) n c (List.replicate n p) (n≤c∧c≤9223372036854775807):=⟨fun h w h1 _=>by
 have hB:Blk w b ((sx p n k).flatMap cP) e:=h1 _ (.head _)
 have hA:=Blk.all hB
 rw [sx,List.flatMap_append] at hA
 exact r4 (by have:=At.sub hA 0 ((List.replicate n p).flatMap cP) (by simp);simpa using this) (by simp) h.1 h.2⟩
theorem DT {b k c:Nat} {p:Option Addr} (h1:1≤k) (h2:k≤1024):Zp Tryz.prog 204 [.slice (some ⟨b,0,none⟩) 1 c,vI k] [] [Sl cP (some ⟨b,0,none⟩) 1 c [p]] Nat (fun _=>True) (fun x=> .slice (some ⟨x,0,none⟩) k k) (fun x=> [iB x ((List.replicate k p).flatMap cP) 351]) (fun _=> []):=by
 refine an fun G=> ?_
 refine bc 0 ?_
 intro hn hc hm ha
 have hmul:=Fd (k:=k) (by omega)
 have e0:spl (List.replicate k none) 0 (List.take (min 1 k) [p])=sx p 1 k:=by
  rw [show min 1 k=1 by omega]
  show []++ [p]++(List.replicate k none).drop 1= [p]++List.replicate (k-1) none
  rw [List.drop_replicate];rfl
 have hU0:Ub ((List.replicate k none).flatMap cP) 0 ((List.take (min 1 k) [p]).flatMap cP) ((sx p 1 k).flatMap cP) True:=⟨fun _=>by
  have:=kG (K:=cP) (m:=1) (List.replicate k none) (List.take (min 1 k) [p]) 0 (by simp;omega)
  rwa [e0,Nat.zero_mul] at this⟩
 (repeat' ((try refine au ?_);(conv=>arg 4;whnf);first | refine cp ?_ |(refine sN ?_;intro b)|(refine sC ?_ ?_<;>intro h)|(refine ar ?_ ?_<;>intro h<;>try contradiction)|(refine aa ?_;intro g c')|(refine ay hmul ?_;intro x hx;refine aN ?_)| refine ae ?_ | refine ai ?_ | exact aw |(refine ak rfl ?_;intro D lL)| refine ah ?_ ?_ | refine aj ?_ ?_ ?_ | fail));(all_goals refine av ?_)
 rw [show min 1 k=1 by omega]
 refine eA [b] (X:=Nat) (fun i=> [(8,vI i)]) (fun i=>1≤i∧i≤k) (fun i=> [iB b ((sx p i k).flatMap cP) 351]) (fun i=>k-i) 1 ⟨Nat.le_refl _,h1⟩ rfl eG ?_
 intro i hi
 (conv=>arg 2;simp only [List.cons_append,List.nil_append])
 have hlen:=CF (p:=p) hi.2
 by_cases hlt:i<k
 ·have hU:Ub ((sx p i k).flatMap cP) (0+i*1) ((List.take (min i (k-i)) (List.replicate i p)).flatMap cP) ((sx p (i+min i (k-i)) k).flatMap cP) True:=⟨fun _=>by
   have:=kG (K:=cP) (m:=1) (sx p i k) (List.take (min i (k-i)) (List.replicate i p)) i (by simp;omega)
   rw [Ds hi.2] at this
   rwa [Nat.zero_add]⟩
  (repeat' ((try refine au ?_);(conv=>arg 4;whnf);first | refine ax ?_ |(refine sN ?_;intro b)|(refine sC ?_ ?_<;>intro h)|(refine ar ?_ ?_<;>intro h<;>try contradiction)|(refine aa ?_;intro g c')| refine ae ?_ | refine ai ?_ | exact aw |(refine ak rfl ?_;intro D lL)| refine ah ?_ ?_ | refine aj ?_ ?_ ?_ | fail));(all_goals refine av ?_)
  exact bj (i+min i (k-i)) rfl (by omega) eG (by omega)
 ·obtain rfl:i=k:=by omega
  (repeat' ((try refine au ?_);(conv=>arg 4;whnf);first | refine ax ?_ |(refine sN ?_;intro b)|(refine sC ?_ ?_<;>intro h)|(refine ar ?_ ?_<;>intro h<;>try contradiction)|(refine aa ?_;intro g c')| refine ae ?_ | refine ai ?_ | exact aw |(refine ak rfl ?_;intro D lL)| refine ah ?_ ?_ | refine aj ?_ ?_ ?_ | fail));(all_goals refine av ?_)
  rw [show sx p i i=List.replicate i p by simp [sx]]
  exact aG b True.intro rfl eG cR
def sc (n cb:Nat):DI:=⟨n,List.replicate ((n+63)/64) cb,List.replicate (64*((n+63)/64)) []⟩
theorem z8 {n cb:Nat} (h1:1≤n) (h2:n≤10922):(sc n cb).Ok:=⟨h1,h2,by simp [sc],by simp [sc]⟩
theorem t5 {n cb i:Nat}:(sc n cb).vs.getD i []= []:=by
 simp only [sc,List.getD_eq_getElem?_getD,List.getElem?_replicate];split<;>rfl
theorem CH {n cb:Nat}:(sc n cb).con=fun _=> []:=by
 funext i
 unfold DI.con
 rw [t5];rfl
theorem E1 {n cb k:Nat} (hk:k<(n+63)/64):(sc n cb).cs k=List.replicate 64 none:=by
 simp only [DI.cs,sc,List.drop_replicate,List.take_replicate,List.map_replicate]
 rw [show min 64 (64*((n+63)/64)-64*k)=64 by omega];rfl
theorem HA {n:Nat} (h1:1≤n) (h2:n≤10922):Zp Tryz.prog 108 [vI n] [] [] (Nat×Nat) (fun _=>True) (fun x=> .tuple #[vA (aJ ⟨n,0,(some ⟨x.2,0,none⟩,(n+63)/64,(n+63)/64)⟩),vI 0]) (fun _=> []) (fun x=> [Dm ⟨n,0,(some ⟨x.2,0,none⟩,(n+63)/64,(n+63)/64)⟩ (sc n x.1)]):=by
 refine an fun G=> ?_
 (repeat' ((try refine au ?_);(conv=>arg 4;whnf);first | refine cp ?_ |(refine sN ?_;intro b)|(refine sC ?_ ?_<;>intro h)|(refine ar ?_ ?_<;>intro h<;>try contradiction)|(refine aa ?_;intro g c')|(refine ay (DT (k:=(n+64-1)/64) (by omega) (by omega)) ?_;intro x hx;refine aN ?_)| refine ai ?_ | exact aw |(refine ak rfl ?_;intro D lL)| refine ah ?_ ?_ | refine aj ?_ ?_ ?_ | fail));(all_goals refine av ?_)
 rename_i cb
 revert b;intro pb
 have hFb:Fb [Value.pointer (some ⟨cb,0,none⟩)] cP [some ⟨cb,0,none⟩]:=⟨rfl⟩
 refine gh (K:=cP) (l:= [some ⟨cb,0,none⟩]) pb 1 1 ?_
 (repeat' ((try refine au ?_);(conv=>arg 4;whnf);first | refine ax ?_ |(refine sN ?_;intro b)|(refine sC ?_ ?_<;>intro h)|(refine ar ?_ ?_<;>intro h<;>try contradiction)|(refine aa ?_;intro g c')|(refine ay (DT (k:=(n+64-1)/64) (by omega) (by omega)) ?_;intro x hx;refine aN ?_)| refine ae ?_ | refine ai ?_ | exact aw |(refine ak rfl ?_;intro D lL)| refine ah ?_ ?_ | refine aj ?_ ?_ ?_ | fail));(all_goals refine av ?_)
 rw [show n+64-1=n+63 by omega]
 refine gh (K:=cP) x ((n+63)/64) ((n+63)/64) ?_
 refine c7 cb ?_
 refine bq (Dm ⟨n,0,(some ⟨x,0,none⟩,(n+63)/64,(n+63)/64)⟩ (sc n cb)) (fun w _ hf=> ?_) (aG (cb,x) True.intro rfl (af _) cR)
 have hB:Bk cb ((List.replicate 64 none).flatMap cP) w:=hf _ (.head _)
 have hS:Sl cP (some ⟨x,0,none⟩) ((n+63)/64) ((n+63)/64) (List.replicate ((n+63)/64) (some ⟨cb,0,none⟩)) w:=hf _ (.tail _ (.head _))
 refine ⟨rfl, ?_,fun k hk=> ?_,fun i=> ?_⟩
 ·have e:(sc n cb).ch.map jl=List.replicate ((n+63)/64) (some ⟨cb,0,none⟩):=by simp [sc,jl]
  rw [e];exact hS
 ·have hk':k<(n+63)/64:=by simpa [sc] using hk
  have e:(sc n cb).ch.getD k 0=cb:=by
   simp only [sc,List.getD_eq_getElem?_getD,List.getElem?_replicate,if_pos hk'];rfl
  rw [e,E1 hk']
  exact hB
 ·rw [t5];exact True.intro
theorem CR {n cb x:Nat} (h1:1≤n) (h2:n≤10922):DOk ⟨n,0,(some ⟨x,0,none⟩,(n+63)/64,(n+63)/64)⟩ (sc n cb) n 0 (fun _=> []):=
 ⟨z8 h1 h2,rfl,CH,Nat.le_refl _,fun i=>Nat.le_refl _,fun i b h=>by cases h⟩
theorem Ij {n:Nat} {q:Value×Value} (h1:1≤n) (h2:n≤4096) (h3:bas n (hgt n+1)≤10922):Zp Tryz.prog 65 [vI n] [] [Gs q] (SDsk×DI) (fun x=>DOk x.1 x.2 (bas n (hgt n+1)) 1 (zC n)∧x.1.size=bas n (hgt n+1)) (fun x=> .tuple #[vA (aJ x.1),vA (aM (ii n)),vI 0]) (fun _=> []) (fun x=> [Dm x.1 x.2]):=by
 have h5:=bu n
 have hch:=fa h1 h2
 have hbl:=Gz h1 (hgt n)
 have hb5:=mL n (hgt n)
 have hbn:bas n (hgt n+1)=bas n (hgt n)+2*cnt n (hgt n):=rfl
 have hck:=wG h5
 have hnl:(aL (Nod.mt (hgt n) 0)).length≤256:=by rw [eK];split<;>omega
 refine an fun G=> ?_
 (repeat' ((try refine au ?_);(conv=>arg 4;whnf);first | refine cp ?_ |(refine sN ?_;intro b)|(refine sC ?_ ?_<;>intro h)|(refine ar ?_ ?_<;>intro h<;>try contradiction)|(refine aa ?_;intro g c')|((first | refine ay (DQ (q:=q) h1 h2) ?_ | refine ay (AT h1 h2) ?_ | refine ay (rD h1 h2) ?_ | refine ay nO ?_ | refine ay (tu (l:=hgt n) (j:=0) (t:=(ii n).ep%2) h1 h2 (Nat.le_refl _) (by omega) (by omega)) ?_ | refine ay (uL (lv:=hgt n) (ix:=0) (by omega) (by omega)) ?_ | refine ay (pP (q:=q) hck) ?_);intro x hx;refine aN ?_)|(refine dD (HA (n:=bas n (hgt n+1)) (by omega) h3) ?_;intro x hx;refine c9 ?_)| refine ai ?_ | exact aw |(refine ak rfl ?_;intro D lL)| refine ah ?_ ?_ | refine aj ?_ ?_ ?_ | fail));(all_goals refine av ?_)
 obtain ⟨cb,xb⟩:=x
 have hs:bas n (hgt n)+2*0+(ii n).ep%2<bas n (hgt n+1):=by omega
 have hD:=CR (n:=bas n (hgt n+1)) (cb:=cb) (x:=xb) (by omega) h3
 dsimp only
 have hnl2:d7 (Nod.mt (hgt n) 0)=(aL (Nod.mt (hgt n) 0)).length:=(eK _).symm
 have hv0:((sc (bas n (hgt n+1)) cb).vs.getD (bas n (hgt n)+2*0+(ii n).ep%2) []).length≤1099511627776:=by rw [t5];exact Nat.zero_le _
 refine gh (K:=cB) (l:=aL (Nod.mt (hgt n) 0)) x (d7 (Nod.mt (hgt n) 0)) (d7 (Nod.mt (hgt n) 0)) ?_
 (repeat' ((try refine au ?_);(conv=>arg 4;whnf);first | refine ax ?_ |(refine sN ?_;intro b)|(refine sC ?_ ?_<;>intro h)|(refine ar ?_ ?_<;>intro h<;>try contradiction)|(refine aa ?_;intro g c')|(refine dD (wh (s:=bas n (hgt n)+2*0+(ii n).ep%2) (z8 (cb:=cb) (by omega) h3) hs (Nat.zero_le _) hv0 hnl) ?_;intro x hx;refine c9 ?_)| refine ae ?_ | refine ai ?_ | exact aw |(refine ak rfl ?_;intro D lL)| refine ah ?_ ?_ | refine aj ?_ ?_ ?_ | fail));(all_goals refine av ?_)
 obtain ⟨d',nb,v1,v2⟩:=x
 have hD2:=hD.put (d':=d') (v:=⟨v1,v2,true,aL (Nod.mt (hgt n) 0)⟩) (nb:=nb) hs hx.2 (fun _=>hnl)
 rw [if_pos (show (⟨v1,v2,true,aL (Nod.mt (hgt n) 0)⟩:VN).th=true from rfl)] at hD2
 have e1:bas n (hgt n)+2*0+(ii n).ep%2=eW n (tot n-1) 0:=by rw [i6,fY h1 h2];rfl
 refine aG (d',_) ⟨?_,hx.1⟩ rfl (af _) cR
 show DOk d' _ _ _ (zC n)
 rw [e1] at hD2
 unfold zC
 rw [e1]
 exact hD2
end Go.Proofs.YtbobhnldhpjdlaaGreatDoor
