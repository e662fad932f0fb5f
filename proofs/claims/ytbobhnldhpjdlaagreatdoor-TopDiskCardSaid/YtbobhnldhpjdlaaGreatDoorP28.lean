/- Lemmas and walks: what each function does, by its own code. No condition beyond those of each statement. -/
import Derived.Test.YtbobhnldhpjdlaaGreatDoorP3
import Derived.Test.YtbobhnldhpjdlaaGreatDoorP13
import Derived.Test.YtbobhnldhpjdlaaGreatDoorP17
import Derived.Test.YtbobhnldhpjdlaaGreatDoorP18
import Derived.Test.YtbobhnldhpjdlaaGreatDoorP19
import Derived.Test.YtbobhnldhpjdlaaGreatDoorP20
import Derived.Test.YtbobhnldhpjdlaaGreatDoorP25
import Derived.Test.YtbobhnldhpjdlaaGreatDoorP27
set_option linter.all false
set_option linter.unusedVariables false
namespace Go.Proofs.YtbobhnldhpjdlaaGreatDoor
open Go Go.RowKit Go.Cs Go.Cz
set_option maxRecDepth 100000
set_option maxHeartbeats 4000000
theorem Ku {a:Option Addr} {n c:Nat} {l:List UInt8} (h0:0<l.length) (hb:l.length≤64):Zp Tryz.prog 261 [.slice a n c] [] [Sl cB a n c l] (Nat×Nat) (fun _=>True) (fun x=> .slice (some ⟨x.1,0,none⟩) 64 x.2) (fun _=> []) (fun x=> [Sl cB (some ⟨x.1,0,none⟩) 64 x.2 (l++List.replicate (64-l.length) 0)]):=by
 refine ak fun G=> ?_
 refine aS 0 ?_
 intro hn hc hm ha
 subst hn
 obtain ⟨a1,a2,rfl⟩:=ha h0 (by decide)
 (repeat' ((try refine aw ?_);(conv=>arg 4;whnf);first | refine aO ?_ |(refine sN ?_;intro b)|(refine aa ?_;intro g c')| fail));(all_goals refine av ?_)
 simp only [Nat.zero_add,List.nil_append]
 refine cN (X:=Nat×Nat×Nat) (fun x=> [(3, .slice (some ⟨x.2.1,0,none⟩) (l.length+x.1) x.2.2)]) (fun x=>l.length+x.1≤64) (fun x=> [iN cB 1 (some ⟨x.2.1,0,none⟩) (l.length+x.1) x.2.2 5 (l++List.replicate x.1 0)]) (fun x=>64-x.1) (0,g,c') (by simpa using hb) rfl (by rw [List.replicate_zero,List.append_nil];(((repeat' (first | with_reducible exact ar _ | exact am _ | refine aX ?_))<;>(try with_reducible rfl)))) ?_
 rintro ⟨j,g,c'⟩ hj
 dsimp only at hj⊢
 by_cases h3:l.length+j<64
 ·(repeat' ((try refine aw ?_);(conv=>arg 4;whnf);first | refine aO ?_ |(refine sN ?_;intro b)|(refine aa ?_;intro g c')| fail));(all_goals refine av ?_)
  rw [show l++List.replicate j 0++ [0]=l++List.replicate (j+1) (0:UInt8) by rw [List.replicate_succ',←List.append_assoc]]
  exact jV (j+1,g,c') (by dsimp only;omega) cD (by dsimp only;omega) bu
 ·obtain rfl:j=64-l.length:=by omega
  have e:l.length+(64-l.length)=64:=by omega
  (repeat' ((try refine aw ?_);(conv=>arg 4;whnf);first | refine aO ?_ |(refine sN ?_;intro b)|(refine aa ?_;intro g c')| fail));(all_goals refine av ?_)
  rw [e]
  refine L5 (K:=cB) (m:=1) (n:=64) (c:=c') (e:=5) g ?_
  intro rs _ _
  refine kz cB (l++List.replicate (64-l.length) 0) g 64 c' ?_
  exact aD (g,c') True.intro rfl (am _) bu
theorem uW {l:List UInt8} {w:UInt8} {i:Nat} (hl:l.length≤64) (hi:i<64):(iy l w).getD i default=(l++List.replicate (64-l.length) 0).getD i default^^^w:=by
 have h1:(l++List.replicate (64-l.length) (0:UInt8)).length=64:=by simp;omega
 rw [iy,BB (by simp;omega),h1]
 simp only [List.getD_eq_getElem?_getD,List.getElem?_map,List.getElem?_range hi,Option.map_some,Option.getD_some,List.getElem?_replicate,if_pos hi]
theorem z9 {l:List UInt8} {i:Nat} {x:UInt8} (hi:i<l.length) (hx:x=l.getD i default):l.take i++ [x]=l.take (i+1):=by
 subst hx
 rw [List.take_succ_eq_append_getElem hi];simp [List.getD_eq_getElem?_getD,hi]
theorem BC {a b:Option Addr} {n c n2 c2:Nat} {l m:List UInt8} (h0:0<l.length) (hb:l.length≤64) (h1:0<m.length) (hm2:m.length≤65536):Zp Tryz.prog 194 [.slice a n c, .slice b n2 c2] [] [Sl cB a n c l,Sl cB b n2 c2 m] Unit (fun _=>True) (fun _=>vA (ay (ej l m))) (fun _=> []) (fun _=> []):=by
 have hp1:(iy l 54).length=64:=qk hb
 have hp2:(iy l 92).length=64:=qk hb
 have hbk:=Ku (a:=a) (n:=n) (c:=c) h0 hb
 have hk64:(l++List.replicate (64-l.length) (0:UInt8)).length=64:=by simp;omega
 have hk1:=fun i (hi:i<64)=>uW (w:=54) hb hi
 have hk2:=fun i (hi:i<64)=>uW (w:=92) hb hi
 generalize hK:l++List.replicate (64-l.length) (0:UInt8)=K at*
 refine ak fun G=> ?_
 refine aS 1 ?_
 intro hn2 hc2 hm3 ha2
 subst hn2
 obtain ⟨b1,b2,rfl⟩:=ha2 h1 (by decide)
 (repeat' ((try refine aw ?_);(conv=>arg 4;whnf);first | refine aO ?_ |(refine sN ?_;intro b)|(refine aa ?_;intro g c')|(refine cw hbk ?_;intro x hx;refine bV ?_)| exact ax | fail));(all_goals refine av ?_)
 revert x;rintro ⟨kb,kcap⟩
 dsimp only
 refine cN (X:=Nat×(Option Addr×Nat)×(Option Addr×Nat)) (fun x=> [(6, .slice x.2.1.1 x.1 x.2.1.2),(7, .slice x.2.2.1 x.1 x.2.2.2),(8,vI x.1)]) (fun x=>x.1≤64) (fun x=> [iN cB 1 x.2.1.1 x.1 x.2.1.2 5 ((iy l 54).take x.1),iN cB 1 x.2.2.1 x.1 x.2.2.2 5 ((iy l 92).take x.1),iB b (ay Dig.zero) 66]) (fun x=>64-x.1) (0,(none,0),(none,0)) (Nat.zero_le _) rfl ?_ ?_
 ·(((repeat' (first | with_reducible exact ar _ | exact am _ | refine aE ?_ ?_ | refine aX ?_ | refine qT rfl ?_))<;>(try with_reducible rfl)))
 rintro ⟨i,⟨s1,d1⟩,⟨s2,d2⟩⟩ hi
 dsimp only at hi⊢
 by_cases h3:i<64
 ·(repeat' ((try refine aw ?_);(conv=>arg 4;whnf);first | refine aO ?_ |(refine sN ?_;intro b)|(refine aa ?_;intro g c')| exact ax | fail));(all_goals refine av ?_)
  revert b;intro nbp
  refine fL nbp (bE [K.getD i default^^^54]) rfl ?_
  (repeat' ((try refine aw ?_);(conv=>arg 4;whnf);first | refine aO ?_ |(refine sN ?_;intro b)|(refine aa ?_;intro g c')| exact ax | fail));(all_goals refine av ?_)
  revert b;intro nbq
  revert c';revert g;intro g1 c1
  refine fL nbq (bE [K.getD i default^^^92]) rfl ?_
  (repeat' ((try refine aw ?_);(conv=>arg 4;whnf);first | refine aO ?_ |(refine sN ?_;intro b)|(refine aa ?_;intro g c')| exact ax | fail));(all_goals refine av ?_)
  rw [z9 (l:=iy l 54) (by omega) (hk1 i h3).symm,z9 (l:=iy l 92) (by omega) (hk2 i h3).symm]
  exact jV (i+1,(some ⟨g1,0,none⟩,c1),(some ⟨g,0,none⟩,c')) h3 cD (by dsimp only;omega) bu
 ·obtain rfl:i=64:=by omega
  rw [List.take_of_length_le (l:=iy l 54) (by omega),List.take_of_length_le (l:=iy l 92) (by omega)]
  have hl1:0<(iy l 54++m).length:=by rw [List.length_append];omega
  have hl2:(iy l 54++m).length≤1048576:=by rw [List.length_append];omega
  have hl3:(iy l 92++(bI (iy l 54++m)).l).length≤1048576:=by rw [List.length_append,Dig.h];omega
  have hl4:0<(iy l 92++(bI (iy l 54++m)).l).length:=by rw [List.length_append];omega
  have e:ej l m=bI (iy l 92++(bI (iy l 54++m)).l):=rfl
  rw [e]
  (repeat' ((try refine aw ?_);(conv=>arg 4;whnf);first | refine aO ?_ |(refine sN ?_;intro b)|(refine aa ?_;intro g c')| exact ax | fail));(all_goals refine av ?_)
  revert c';revert g;intro g1 c1
  refine L5 (K:=cB) (m:=1) (n:=64+m.length) (c:=c1) (e:=5) g1 ?_
  intro rs _ _
  refine kz cB (iy l 54++m) g1 (64+m.length) c1 ?_
  have k1:=AH (a:=some ⟨g1,0,none⟩) (n:=64+m.length) (c:=c1) hl1 hl2
  (repeat' ((try refine aw ?_);(conv=>arg 4;whnf);first | refine aO ?_ |(refine sN ?_;intro b)|(refine aa ?_;intro g c')|(refine aA k1 ?_;intro x hx;refine aH ?_)| exact ax | fail));(all_goals refine av ?_)
  refine L5 (K:=cB) (m:=1) (n:=96) (c:=c') (e:=5) g ?_
  intro rs _ _
  refine kz cB (iy l 92++(bI (iy l 54++m)).l) g 96 c' ?_
  have k2:=AH (a:=some ⟨g,0,none⟩) (n:=96) (c:=c') hl4 hl3
  (repeat' ((try refine aw ?_);(conv=>arg 4;whnf);first | refine aO ?_ |(refine sN ?_;intro b)|(refine aa ?_;intro g c')|(refine aA k2 ?_;intro x hx;refine aH ?_)| exact ax | fail));(all_goals refine av ?_)
theorem GT {a b:Option Addr} {n c n2 c2 k:Nat} {l m:List UInt8} (h0:0<l.length) (hb:l.length≤64) (h1:0<m.length) (hm2:m.length≤4096) (hk0:0<k) (hk:k≤32):Zp Tryz.prog 195 [.slice a n c, .slice b n2 c2,vI k] [] [Sl cB a n c l,Sl cB b n2 c2 m] (Nat×Nat) (fun _=>True) (fun x=> .slice (some ⟨x.1,0,none⟩) k x.2) (fun _=> []) (fun x=> [Sl cB (some ⟨x.1,0,none⟩) k x.2 ((ej l (m++ [1])).l.take k)]):=by
 refine ak fun G=> ?_
 refine aS 1 ?_
 intro hn2 hc2 hm3 ha2
 subst hn2
 obtain ⟨b1,b2,rfl⟩:=ha2 h1 (by decide)
 (repeat' ((try refine aw ?_);(conv=>arg 4;whnf);first | refine aO ?_ |(refine sN ?_;intro b)|(refine aa ?_;intro g c')| fail));(all_goals refine av ?_)
 refine gJ 2 (bN ?_)
 (repeat' ((try refine aw ?_);(conv=>arg 4;whnf);first | refine aO ?_ |(refine sN ?_;intro b)|(refine aa ?_;intro g c')| fail));(all_goals refine av ?_)
 simp only [Nat.zero_add,List.nil_append]
 refine L5 (K:=cB) (m:=1) (n:=m.length+1) (c:=c') (e:=5) g ?_
 intro rs _ _
 refine kz cB (m++ [1]) g (m.length+1) c' ?_
 have k1:=BC (a:=a) (n:=n) (c:=c) (b:=some ⟨g,0,none⟩) (n2:=m.length+1) (c2:=c') (l:=l) (m:=m++ [1]) h0 hb (by simp) (by simp;omega)
 (repeat' ((try refine aw ?_);(conv=>arg 4;whnf);first | refine aO ?_ |(refine sN ?_;intro b)|(refine aa ?_;intro g c')|(refine aA k1 ?_;intro x hx;refine aH ?_)| fail));(all_goals refine av ?_)
 simp only [Nat.zero_add,List.nil_append]
 have h32:=(ej l (m++ [1])).h
 generalize hD:ej l (m++ [1])=D at*
 refine L5 (K:=cB) (m:=1) (n:=32) (c:=c') (e:=5) g ?_
 intro rs2 _ _
 refine kz cB D.l g 32 c' ?_
 (repeat' ((try refine aw ?_);(conv=>arg 4;whnf);first | refine aO ?_ |(refine sN ?_;intro b)|(refine aa ?_;intro g c')| fail));(all_goals refine av ?_)
 refine bN ?_
 (repeat' ((try refine aw ?_);(conv=>arg 4;whnf);first | refine aO ?_ |(refine sN ?_;intro b)|(refine aa ?_;intro g c')| fail));(all_goals refine av ?_)
 simp only [Nat.zero_add,List.nil_append]
 refine L5 (K:=cB) (m:=1) (n:=32) (c:=c') (e:=5) g ?_
 intro rs3 hc5 hc6
 refine kz cB D.l g 32 c' ?_
 refine aR (Sl cB (some ⟨g,0,none⟩) k c' (D.l.take k)) (fun w _ hf=>o0 (hf _ (.head _)) hk (by omega) hc6) ?_
 (repeat' ((try refine aw ?_);(conv=>arg 4;whnf);first | refine aO ?_ |(refine sN ?_;intro b)|(refine aa ?_;intro g c')| fail));(all_goals refine av ?_)
 exact aD (g,c') True.intro rfl (am _) bu
theorem L1 {m:Dig}:Zp Tryz.prog 93 [vA (ay m)] [] [] Unit (fun _=>True) (fun _=> .tuple #[vA (dE (nv m).enc),vA (ay (nv m).mac)]) (fun _=> []) (fun _=> []):=by
 refine ak fun G=> ?_
 have e:De m=ej [99,97,105,115,115,111,110] m.l:=rfl
 (repeat' ((try refine aw ?_);(conv=>arg 4;whnf);first | refine aO ?_ |(refine sN ?_;intro b)|(refine aA (BC (l:= [99,97,105,115,115,111,110]) (m:=m.l) (by decide) (by decide) (by simp) (by simp)) ?_;intro x hx;refine aH ?_)| exact ax | fail));(all_goals refine av ?_)
 rw [←e]
 obtain ⟨P,hP⟩:∃P,P=De m:=⟨_,rfl⟩
 rw [←hP]
 have hPl:0<P.l.length:=by rw [P.h];decide
 have hPb:P.l.length≤64:=by rw [P.h];decide
 (repeat' ((try refine aw ?_);(conv=>arg 4;whnf);first | refine aO ?_ |(refine sN ?_;intro b)| exact ax | fail));(all_goals refine av ?_)
 rename_i bx5 bx6 bx7
 refine bG bx5 ?_
 (repeat' ((try refine aw ?_);(conv=>arg 4;whnf);first | refine aO ?_ |(refine sN ?_;intro b)|(refine cw (GT (l:=P.l) (m:= [101,110,99,114,121,112,116]) (k:=16) hPl hPb (by decide) (by decide) (by decide) (by decide)) ?_;intro x hx;refine bV ?_)| exact ax | fail));(all_goals refine av ?_)
 obtain ⟨g1,d1⟩:=x
 (repeat' ((try refine aw ?_);(conv=>arg 4;whnf);first | refine aO ?_ |(refine sN ?_;intro b)|(refine cw (GT (l:=P.l) (m:= [109,97,99]) (k:=32) hPl hPb (by decide) (by decide) (by decide) (by decide)) ?_;intro x hx;refine bV ?_)| exact ax | fail));(all_goals refine av ?_)
 obtain ⟨g2,d2⟩:=x
 dsimp only
 have e1:(nv m).enc.l=List.take 16 (ej P.l [101,110,99,114,121,112,116,1]).l:=by rw [hP];rfl
 have e2:(nv m).mac.l=List.take 32 (ej P.l [109,97,99,1]).l:=by rw [List.take_of_length_le (by rw [Dig.h];decide),hP];rfl
 generalize nv m=K at e1 e2⊢
 rw [←e1,←e2]
 have n1:=K.enc.h
 have n2:=K.mac.h
 refine dh [bx6] (X:=Nat) (fun i=> [(9,vI i)]) (fun i=>i≤16) (fun i=> [iB bx6 (bE (gQ K.enc.l (List.replicate 16 0) i)) 31]) (fun i=>16-i) 0 (Nat.zero_le _) rfl (by rw [eX];((((repeat' (first | with_reducible exact ar _ | exact am _ | refine aE ?_ ?_ | refine aG inferInstance ?_ | fail))<;>(try with_reducible rfl)))<;>rfl)) ?_
 intro i hi
 (conv=>arg 2;simp only [List.cons_append,List.nil_append])
 have tl:(gQ K.enc.l (List.replicate 16 0) i).length=16:=by rw [fS (by rw [n1];rfl) (by simpa using hi)];rfl
 by_cases h9:i<16
 ·(repeat' ((try refine aw ?_);(conv=>arg 4;whnf);first | refine aO ?_ |(refine sN ?_;intro b)| exact ax | fail));(all_goals refine av ?_)
  rw [eF (by rw [n1];rfl) (by simpa using h9) rfl]
  exact jV (i+1) h9 cD (by omega) bu
 obtain rfl:i=16:=by omega
 rw [gy (by rw [n1];decide) (by simp)]
 (repeat' ((try refine aw ?_);(conv=>arg 4;whnf);first | refine aO ?_ |(refine sN ?_;intro b)| exact ax | fail));(all_goals refine av ?_)
 refine dh [bx7] (X:=Nat) (fun i=> [(10,vI i)]) (fun i=>i≤32) (fun i=> [iB bx7 (bE (gQ K.mac.l (List.replicate 32 0) i)) 26]) (fun i=>32-i) 0 (Nat.zero_le _) rfl (by rw [eX];((((repeat' (first | with_reducible exact ar _ | exact am _ | refine aE ?_ ?_ | refine aG inferInstance ?_ | fail))<;>(try with_reducible rfl)))<;>rfl)) ?_
 intro i hi
 (conv=>arg 2;simp only [List.cons_append,List.nil_append])
 have tl:(gQ K.mac.l (List.replicate 32 0) i).length=32:=by rw [fS (by rw [n2];rfl) (by simpa using hi)];rfl
 by_cases h9:i<32
 ·(repeat' ((try refine aw ?_);(conv=>arg 4;whnf);first | refine aO ?_ |(refine sN ?_;intro b)| exact ax | fail));(all_goals refine av ?_)
  rw [eF (by rw [n2];rfl) (by simpa using h9) rfl]
  exact jV (i+1) h9 cD (by omega) bu
 obtain rfl:i=32:=by omega
 rw [gy (by rw [n2];decide) (by simp)]
 (repeat' ((try refine aw ?_);(conv=>arg 4;whnf);first | refine aO ?_ |(refine sN ?_;intro b)| exact ax | fail));(all_goals refine av ?_)
 (first |(refine bh ?_;(conv=>arg 4;whnf);refine bc rfl ?_))
 (repeat' ((try refine aw ?_);(conv=>arg 4;whnf);first | refine aO ?_ |(refine sN ?_;intro b)| exact ax | fail));(all_goals refine av ?_)
end Go.Proofs.YtbobhnldhpjdlaaGreatDoor
namespace Go.Proofs.YtbobhnldhpjdlaaGreatDoor
open Go Go.RowKit Go.Cs Go.Cz
set_option maxRecDepth 100000
set_option maxHeartbeats 4000000
theorem nV {m:Nat} (hm:m<2^32):Zp Tryz.prog 264 [.int .u32 ((m:Nat):Int)] [] [] Nat (fun _=>True) (fun b=> .slice (some ⟨b,0,none⟩) 4 4) (fun b=> [iB b (bE (be m 4)) 5]) (fun _=> []):=by
 have h:=yB (y:=UInt32.ofNat m)
 have e:(UInt32.ofNat m).toNat=m:=Nat.mod_eq_of_lt hm
 rw [e] at h
 rw [show (Value.int .u32 ((m:Nat):Int))=vw (UInt32.ofNat m) by show _=Value.int .u32 (((UInt32.ofNat m).toNat:Nat):Int);rw [e]]
 exact h
theorem Hn {y:Non}:Zp Tryz.prog 265 [vA (br y)] [] [] (Nat×Nat) (fun _=>True) (fun x=> .slice (some ⟨x.1,0,none⟩) 12 x.2) (fun _=> []) (fun x=> [Sl cB (some ⟨x.1,0,none⟩) 12 x.2 (eA y)]):=by
 have h1:=nV (m:=y.sh) y.hsh
 have h2:=tm (n:=y.ct) y.hct
 refine ak fun G=> ?_
 (repeat' ((try refine aw ?_);(conv=>arg 4;whnf);first | refine aO ?_ |(refine sN ?_;intro b)|(refine aa ?_;intro g c')| fail));(all_goals refine av ?_)
 (first |(refine bh ?_;(conv=>arg 4;whnf);refine bc rfl ?_))
 (repeat' ((try refine aw ?_);(conv=>arg 4;whnf);first | refine aO ?_ |(refine sN ?_;intro b)|(refine aa ?_;intro g c')|((first | refine aA h1 ?_ | refine aA h2 ?_);intro x hx;refine aH ?_)| fail));(all_goals refine av ?_)
 rw [List.take_of_length_le (by rw [gl];decide),show be y.sh 4++be y.ct 8=eA y from rfl]
 have hl:(eA y).length=12:=by rw [eA,List.length_append,gl,gl]
 refine L5 (K:=cB) (m:=1) (n:=12) (c:=c') (e:=5) g ?_
 intro rs _ _
 refine kz cB (eA y) g 12 c' ?_
 exact aD (g,c') True.intro rfl (am _) bu
theorem MQ {i:Nat} {y:Non} {d:Dig} (hi:i<2^32):Zp Tryz.prog 198 [vI i,vA (br y),vA (ay d)] [] [] (Nat×Nat) (fun _=>True) (fun x=> .slice (some ⟨x.1,0,none⟩) 48 x.2) (fun _=> []) (fun x=> [Sl cB (some ⟨x.1,0,none⟩) 48 x.2 (fz i y d)]):=by
 have h1:=nV (m:=i) hi
 have hl:(eA y).length=12:=by rw [eA,List.length_append,gl,gl]
 have hm:(fz i y d).length=48:=by simp [fz,gl]
 refine ak fun G=> ?_
 (repeat' ((try refine aw ?_);(conv=>arg 4;whnf);first | refine aO ?_ |(refine sN ?_;intro b)|(refine aa ?_;intro g c')| fail));(all_goals refine av ?_)
 (first |(refine bh ?_;(conv=>arg 4;whnf);refine bc rfl ?_))
 (repeat' ((try refine aw ?_);(conv=>arg 4;whnf);first | refine aO ?_ |(refine sN ?_;intro b)|(refine aa ?_;intro g c')|(refine aA h1 ?_;intro x hx;refine aH ?_)|(refine cw Hn ?_;intro x hx;refine bV ?_)| fail));(all_goals refine av ?_)
 all_goals (
  rw [show List.take 4 (be i 4)++eA y++d.l=fz i y d by rw [List.take_of_length_le (by rw [gl];decide)];simp [fz,eA]]
  refine L5 (K:=cB) (m:=1) (n:=48) (c:=c') (e:=5) g ?_
  intro rs _ _
  refine kz cB (fz i y d) g 48 c' ?_
  exact aD (g,c') True.intro rfl (am _) bu)
theorem H5 {z:Rec}:Zp Tryz.prog 200 [vA (bY z)] [] [] (Nat×Nat) (fun _=>True) (fun r=> .slice (some ⟨r.1,0,none⟩) 45 r.2) (fun _=> []) (fun r=> [Sl cB (some ⟨r.1,0,none⟩) 45 r.2 (ga z)]):=by
 have hl:(eA z.non).length=12:=by rw [eA,List.length_append,gl,gl]
 have hm:(ga z).length=45:=by simp [ga,eA,gl]
 refine ak fun G=> ?_
 (repeat' ((try refine aw ?_);(conv=>arg 4;whnf);first | refine aO ?_ |(refine sN ?_;intro b)|(refine aa ?_;intro g c')| refine af ?_ ?_ | fail));(all_goals refine av ?_)
 (first |(refine bh ?_;(conv=>arg 4;whnf);refine bc rfl ?_))
 (repeat' ((try refine aw ?_);(conv=>arg 4;whnf);first | refine aO ?_ |(refine sN ?_;intro b)|(refine aa ?_;intro g c')|(refine cw Hn ?_;intro x hx;refine bV ?_)| refine af ?_ ?_ | fail));(all_goals refine av ?_)
 all_goals (
  rw [show List.take 1 [UInt8.ofNat z.st]++eA z.non++z.tag.l=ga z from rfl]
  refine L5 (K:=cB) (m:=1) (n:=45) (c:=c') (e:=5) g ?_
  intro rs _ _
  refine kz cB (ga z) g 45 c' ?_
  exact aD (g,c') True.intro rfl (am _) bu)
theorem H8 {z:Ent}:Zp Tryz.prog 201 [vA (c6 z)] [] [] (Nat×Nat) (fun _=>True) (fun r=> .slice (some ⟨r.1,0,none⟩) 33 r.2) (fun _=> []) (fun r=> [Sl cB (some ⟨r.1,0,none⟩) 33 r.2 (gP z)]):=by
 have hm:(gP z).length=33:=by simp [gP]
 refine ak fun G=> ?_
 (repeat' ((try refine aw ?_);(conv=>arg 4;whnf);first | refine aO ?_ |(refine sN ?_;intro b)|(refine aa ?_;intro g c')| fail));(all_goals refine av ?_)
 (first |(refine bh ?_;(conv=>arg 4;whnf);refine bc rfl ?_))
 (repeat' ((try refine aw ?_);(conv=>arg 4;whnf);first | refine aO ?_ |(refine sN ?_;intro b)|(refine aa ?_;intro g c')| fail));(all_goals refine av ?_)
 all_goals (
  rw [show List.take 1 [UInt8.ofNat z.st]++z.dg.l=gP z from rfl]
  refine L5 (K:=cB) (m:=1) (n:=33) (c:=c') (e:=5) g ?_
  intro rs _ _
  refine kz cB (gP z) g 33 c' ?_
  exact aD (g,c') True.intro rfl (am _) bu)
end Go.Proofs.YtbobhnldhpjdlaaGreatDoor
namespace Go.Proofs.YtbobhnldhpjdlaaGreatDoor
open Go Go.RowKit Go.Cs Go.Cz
set_option maxRecDepth 100000
set_option maxHeartbeats 4000000
theorem tz {y:Nod}:Zp Tryz.prog 103 [vA (aU y)] [] [] (Nat×Nat) (fun _=>True) (fun x=> .slice (some ⟨x.1,0,none⟩) (aM y).length x.2) (fun _=> []) (fun x=> [Sl cB (some ⟨x.1,0,none⟩) (aM y).length x.2 (aM y)]):=by
 have hix:=y.hix
 have hlv:=y.hlv
 refine ak fun G=> ?_
 (repeat' ((try refine aw ?_);(conv=>arg 4;whnf);first | refine aO ?_ |(refine sN ?_;intro b)|(refine aa ?_;intro g c')| fail));(all_goals refine av ?_)
 rename_i ybk
 revert b;intro hbk
 have e: [Value.int .u8 ((y.lv:Nat):Int),Value.int .u8 ((y.ix/2^24:Nat):Int),Value.int .u8 ((UInt8.ofNat (y.ix/2^16)).toNat:Int),Value.int .u8 ((UInt8.ofNat (y.ix/2^8)).toNat:Int),Value.int .u8 ((UInt8.ofNat y.ix).toNat:Int)]=bE (iZ y):=by
  have b5z:be y.ix 4= [UInt8.ofNat (y.ix/2^24),UInt8.ofNat (y.ix/2^16),UInt8.ofNat (y.ix/2^8),UInt8.ofNat y.ix]:=by
   simp [be,List.range,List.range.loop]
  have b1:(UInt8.ofNat y.lv).toNat=y.lv:=Nat.mod_eq_of_lt hlv
  have b2:(UInt8.ofNat (y.ix/2^24)).toNat=y.ix/2^24:=Nat.mod_eq_of_lt (by omega)
  rw [iZ,b5z]
  simp only [bE,List.map_cons,List.map_nil,b1,b2]
 refine fL hbk (bE (iZ y)) e ?_
 have hl:(iZ y).length=5:=by simp [iZ,gl]
 have hw:∀s:List UInt8,s= []→Wk [iB hbk (bE (iZ y)) 5,iB ybk (aU y) 217] [iN cB 1 (some ⟨hbk,0,none⟩) 5 5 5 (iZ y++s),iB ybk (aU y) 217]:=fun s hs=>by
  subst hs
  have h:=(inferInstance:Pn [iB hbk (bE (iZ y)) 5,iB ybk (aU y) 217] cB 1 (some ⟨hbk,0,none⟩) 5 5 5 _ _ _).pn ⟨Nat.le_refl _,hl.symm,by decide⟩
  rw [List.take_of_length_le (by omega)] at h
  rw [List.append_nil];exact h
 by_cases h0:y.lv=0
 ·have hB:aM y=iZ y++fV ga y.rs.get 4:=by rw [aM,if_pos h0]
  have hw:=hw (fV ga y.rs.get 0) rfl
  rw [hB]
  refine cN (X:=Nat×Nat×Nat) (fun x=> [(3, .slice (some ⟨x.2.1,0,none⟩) (5+x.1*45) x.2.2),(4,vI x.1)]) (fun x=>x.1≤4) (fun x=> [iN cB 1 (some ⟨x.2.1,0,none⟩) (5+x.1*45) x.2.2 5 (iZ y++fV ga y.rs.get x.1),iB ybk (aU y) 217]) (fun x=>4-x.1) (0,hbk,5) (Nat.zero_le _) rfl hw ?_
  rintro ⟨i,gxq,cxq⟩ hi
  dsimp only at hi⊢
  by_cases h:i<4
  ·(repeat' ((try refine aw ?_);(conv=>arg 4;whnf);first | refine aO ?_ |(refine sN ?_;intro b)|(refine aa ?_;intro g c')|(refine cw H5 ?_;intro x hx;refine bV ?_)| fail));(all_goals refine av ?_)
   rw [show iZ y++fV ga y.rs.get i++ga (y.rs.l.getD i default)=iZ y++fV ga y.rs.get (i+1) by rw [List.append_assoc];rfl,show 5+i*45+45=5+(i+1)*45 by omega]
   exact jV (i+1,g,c') h cD (by dsimp only;omega) bu
  ·obtain rfl:i=4:=by omega
   have hlen:(iZ y++fV ga y.rs.get 4).length=5+4*45:=by rw [←hB,dN,if_pos h0]
   rw [hlen]
   generalize iZ y++fV ga y.rs.get 4=B at*
   (repeat' ((try refine aw ?_);(conv=>arg 4;whnf);first | refine aO ?_ |(refine sN ?_;intro b)|(refine aa ?_;intro g c')| fail));(all_goals refine av ?_)
   refine L5 (K:=cB) (m:=1) (n:=5+4*45) (c:=cxq) (e:=5) gxq ?_
   intro rs _ _
   refine kz cB B gxq (5+4*45) cxq ?_
   exact aD (gxq,cxq) True.intro rfl (am _) bu
 ·have hB:aM y=iZ y++fV gP y.es.get 4:=by rw [aM,if_neg h0]
  have hw:=hw (fV gP y.es.get 0) rfl
  rw [hB]
  refine cN (X:=Nat×Nat×Nat) (fun x=> [(3, .slice (some ⟨x.2.1,0,none⟩) (5+x.1*33) x.2.2),(4,vI x.1)]) (fun x=>x.1≤4) (fun x=> [iN cB 1 (some ⟨x.2.1,0,none⟩) (5+x.1*33) x.2.2 5 (iZ y++fV gP y.es.get x.1),iB ybk (aU y) 217]) (fun x=>4-x.1) (0,hbk,5) (Nat.zero_le _) rfl hw ?_
  rintro ⟨i,gxq,cxq⟩ hi
  dsimp only at hi⊢
  by_cases h:i<4
  ·(repeat' ((try refine aw ?_);(conv=>arg 4;whnf);first | refine aO ?_ |(refine sN ?_;intro b)|(refine aa ?_;intro g c')|(refine cw H8 ?_;intro x hx;refine bV ?_)| fail));(all_goals refine av ?_)
   rw [show iZ y++fV gP y.es.get i++gP (y.es.l.getD i default)=iZ y++fV gP y.es.get (i+1) by rw [List.append_assoc];rfl,show 5+i*33+33=5+(i+1)*33 by omega]
   exact jV (i+1,g,c') h cD (by dsimp only;omega) bu
  ·obtain rfl:i=4:=by omega
   have hlen:(iZ y++fV gP y.es.get 4).length=5+4*33:=by rw [←hB,dN,if_neg h0]
   rw [hlen]
   generalize iZ y++fV gP y.es.get 4=B at*
   (repeat' ((try refine aw ?_);(conv=>arg 4;whnf);first | refine aO ?_ |(refine sN ?_;intro b)|(refine aa ?_;intro g c')| fail));(all_goals refine av ?_)
   refine L5 (K:=cB) (m:=1) (n:=5+4*33) (c:=cxq) (e:=5) gxq ?_
   intro rs _ _
   refine kz cB B gxq (5+4*33) cxq ?_
   exact aD (gxq,cxq) True.intro rfl (am _) bu
theorem AK {y:Nod}:Zp Tryz.prog 203 [vA (aU y)] [] [] Unit (fun _=>True) (fun _=>vA (ay (bI (aM y)))) (fun _=> []) (fun _=> []):=by
 have hl:=dN y
 have h0:0<(aM y).length:=by rw [hl];split<;>decide
 have h1:(aM y).length≤1048576:=by rw [hl];split<;>decide
 refine ak fun G=> ?_
 (repeat' ((try refine aw ?_);(conv=>arg 4;whnf);first | refine aO ?_ |(refine sN ?_;intro b)|(refine cw tz ?_;intro x hx;refine bV ?_)|(refine aA (AH h0 h1) ?_;intro x hx;refine aH ?_)| exact ax | fail));(all_goals refine av ?_)
end Go.Proofs.YtbobhnldhpjdlaaGreatDoor
namespace Go.Cs
open Go Go.RowKit
theorem mO (L:List Rec) (S:List Nat) (l j:Nat):A3 L S l j 0=Nod.mt l j:=zJ (fun i _=>if_neg (by omega)) (fun i _=>if_neg (by omega))
theorem xD {L:List Rec} {S:List Nat} {j v:Nat} (h:v<4):(A3 L S 0 j v).setR v (L.getD (4*j+v) Rec.zero)=A3 L S 0 j (v+1):=by
 rw [A3,AC _ h]
 refine cg (fun i hi=> ?_) (fun i hi=>by simp)
 by_cases h1:i=v
 ·subst h1;simp
 ·rw [if_neg h1]
  by_cases h2:i<v
  ·rw [if_pos ⟨h2,rfl⟩,if_pos ⟨by omega,rfl⟩]
  ·rw [if_neg (by omega),if_neg (by omega)]
theorem w5 {L:List Rec} {S:List Nat} {l j v:Nat} (h:v<4) (hl:l≠0):(A3 L S l j v).setE v (cX L S (l-1) (4*j+v))=A3 L S l j (v+1):=by
 rw [A3,y9 _ h]
 refine cg (fun i hi=>by simp [hl]) (fun i hi=> ?_)
 by_cases h1:i=v
 ·subst h1;rw [if_pos rfl,if_pos ⟨by omega,hl⟩]
 ·rw [if_neg h1]
  by_cases h2:i<v
  ·rw [if_pos ⟨h2,hl⟩,if_pos ⟨by omega,hl⟩]
  ·rw [if_neg (by omega),if_neg (by omega)]
theorem xy {L:List Rec} {S:List Nat} {l j v:Nat} (hl:l≠0) (he:bK L (l-1) (4*j+v)=true):A3 L S l j v=A3 L S l j (v+1):=by
 refine cg (fun i hi=>by simp [hl]) (fun i hi=> ?_)
 by_cases h1:i=v
 ·subst h1;rw [if_neg (by omega),if_pos ⟨by omega,hl⟩,cX,if_pos he]
 ·by_cases h2:i<v
  ·rw [if_pos ⟨h2,hl⟩,if_pos ⟨by omega,hl⟩]
  ·rw [if_neg (by omega),if_neg (by omega)]
end Go.Cs
namespace Go.Proofs.YtbobhnldhpjdlaaGreatDoor
open Go Go.RowKit Go.Cs Go.Cz
set_option maxRecDepth 100000
set_option maxHeartbeats 4000000
section
variable {L:List Rec} {s:List Nat} {a b:Option Addr} {m c m2 c2:Nat}
theorem Cu {j:Nat} (hO:OkM L s) (hj:j<cnt L.length 0):Zp Tryz.prog 104 [.slice a m c, .slice b m2 c2,vI 0,vI j] [] [Sl bY a m c L,Sl cI b m2 c2 s] Unit (fun _=>True) (fun _=>vA (aU (aK L s 0 j))) (fun _=> []) (fun _=> []):=by
 have h1:=hO.n1
 have h2:=hO.n2
 have hcn:=cH L.length 0
 have hpt:=yt (n:=L.length) (l:=0) (j:=j) h1 h2 (Nat.zero_le _) (by omega)
 refine ak fun G=> ?_
 refine aS 0 ?_
 intro hm _ _ ha
 subst hm
 obtain ⟨a1,a2,rfl⟩:=ha (by omega) (by decide)
 have i1:Nu 256 ((0:Nat):Int) 0:=⟨rfl,by decide⟩
 have i2:Nu 4294967296 ((j:Nat):Int) j:=⟨rfl,by omega⟩
 (repeat' ((try refine aw ?_);(conv=>arg 4;whnf);first | refine aO ?_ |(refine sN ?_;intro b)|(refine aA hpt ?_;intro x hx;refine aH ?_)| exact ax | fail));(all_goals refine av ?_)
 rename_i rbk
 revert b;intro xbk
 refine fL xbk (aU (A3 L s 0 j 0)) (by rw [mO,←Nod.mt_eq (lv:=0) (ix:=j) (by decide) (by omega)];rfl) ?_
 refine dh [xbk] (X:=Nat) (fun w=> [(11,vI w)]) (fun w=>w≤prt L.length 0 j) (fun w=> [iB xbk (aU (A3 L s 0 j w)) 217]) (fun w=>prt L.length 0 j-w) 0 (Nat.zero_le _) rfl cD ?_
 intro w hw
 (conv=>arg 2;simp only [List.cons_append,List.nil_append])
 have hp4:=m3 L.length 0 j
 have hpd:prt L.length 0 j=min 4 (L.length-4*j):=rfl
 by_cases h:w<prt L.length 0 j
 ·(repeat' ((try refine aw ?_);(conv=>arg 4;whnf);first | refine aO ?_ |(refine sN ?_;intro b)|(refine aA hpt ?_;intro x hx;refine aH ?_)| exact ax | fail));(all_goals refine av ?_)
  refine a5 (w+1) rfl ?_ (by (((repeat' (first | with_reducible exact ar _ | exact am _ | refine aE ?_ ?_ | fail))<;>(try with_reducible rfl)))<;>exact congrArg aU (xD (by omega))) ?_
  ·omega
  ·omega
 ·obtain rfl:w=prt L.length 0 j:=by omega
  rw [aP]
  (repeat' ((try refine aw ?_);(conv=>arg 4;whnf);first | refine aO ?_ |(refine sN ?_;intro b)|(refine aA hpt ?_;intro x hx;refine aH ?_)| exact ax | fail));(all_goals refine av ?_)
theorem Et {l j:Nat} (hO:OkM L s) (hl:l+1≤hgt L.length) (hj:j<cnt L.length (l+1)) (ih:∀k,k<cnt L.length l→Zp Tryz.prog 104 [.slice a m c, .slice b m2 c2,vI l,vI k] [] [Sl bY a m c L,Sl cI b m2 c2 s] Unit (fun _=>True) (fun _=>vA (aU (aK L s l k))) (fun _=> []) (fun _=> [])):Zp Tryz.prog 104 [.slice a m c, .slice b m2 c2,vI (l+1),vI j] [] [Sl bY a m c L,Sl cI b m2 c2 s] Unit (fun _=>True) (fun _=>vA (aU (aK L s (l+1) j))) (fun _=> []) (fun _=> []):=by
 have h1:=hO.n1
 have h2:=hO.n2
 have h5:=a8 L.length
 have hcn:=cH L.length (l+1)
 have hcl:=cH L.length l
 have hpt:=yt (n:=L.length) (l:=l+1) (j:=j) h1 h2 hl (by omega)
 refine ak fun G=> ?_
 refine aS 0 ?_
 intro hm _ _ ha
 refine aS 1 ?_
 intro hm2 _ _ hb
 subst hm
 subst hm2
 have i1:Nu 256 ((l+1:Nat):Int) (l+1):=⟨rfl,by omega⟩
 have i2:Nu 4294967296 ((j:Nat):Int) j:=⟨rfl,by omega⟩
 (repeat' ((try refine aw ?_);(conv=>arg 4;whnf);first | refine aO ?_ |(refine sN ?_;intro b)|(refine aA hpt ?_;intro x hx;refine aH ?_)| exact ax | fail));(all_goals refine av ?_)
 rename_i rbk
 revert b;intro xbk
 refine fL xbk (aU (A3 L s (l+1) j 0)) (by rw [mO,←Nod.mt_eq (lv:=l+1) (ix:=j) (by omega) (by omega)];rfl) ?_
 refine dh [xbk] (X:=Nat) (fun w=> [(11,vI w)]) (fun w=>w≤prt L.length (l+1) j) (fun w=> [iB xbk (aU (A3 L s (l+1) j w)) 217]) (fun w=>prt L.length (l+1) j-w) 0 (Nat.zero_le _) rfl cD ?_
 intro w hw
 (conv=>arg 2;simp only [List.cons_append,List.nil_append])
 have hp4:=m3 L.length (l+1) j
 by_cases h:w<prt L.length (l+1) j
 ·have hk:4*j+w<cnt L.length l:=(bM (by omega)).1 h
  have hem:=tB (L:=L) (a:=a) (m:=L.length) (c:=c) (l:=l) (j:=4*j+w) h2 (by omega)
  by_cases he:bK L l (4*j+w)=true
  ·rw [he] at hem
   (repeat' ((try refine aw ?_);(conv=>arg 4;whnf);first | refine aO ?_ |(refine sN ?_;intro b)|((first | refine aA hpt ?_ | refine aA hem ?_);intro x hx;refine aH ?_)| exact ax | fail));(all_goals refine av ?_)
   refine a5 (w+1) rfl ?_ (by (((repeat' (first | with_reducible exact ar _ | exact am _ | refine aE ?_ ?_ | fail))<;>(try with_reducible rfl)))<;>exact congrArg aU (xy (Nat.succ_ne_zero l) he)) ?_
   ·omega
   ·omega
  ·have he':bK L l (4*j+w)=false:=by simpa using he
   rw [he'] at hem
   have hnum:=nW (n:=L.length) (l:=l) (j:=4*j+w) h1 h2 (by omega) (by omega)
   have hsl:=hO.sl (num L.length l+(4*j+w))
   have hnl:num L.length l+(4*j+w)<s.length:=by
    rw [hO.len]
    have h8:num L.length (l+1)≤num L.length (hgt L.length+1):=Cs.c7 _ (by omega)
    have h9:num L.length (l+1)=num L.length l+cnt L.length l:=rfl
    show _<num L.length (hgt L.length+1)
    omega
   have hnd:=ih _ hk
   obtain ⟨b1,b2,rfl⟩:=hb (by omega) (by decide)
   have i3q:Nu 256 ((s.getD (num L.length l+(4*j+w)) default+1:Nat):Int) (s.getD (num L.length l+(4*j+w)) default+1):=⟨rfl,by show s.getD _ 0+1<256;omega⟩
   have hsd:s.getD (num L.length l+(4*j+w)) default≤1:=hsl
   (repeat' ((try refine aw ?_);(conv=>arg 4;whnf);first | refine aO ?_ |(refine sN ?_;intro b)|((first | refine aA hpt ?_ | refine aA hem ?_);intro x hx;refine aH ?_)| exact ax | fail));(all_goals refine av ?_)
   (refine bh ?_;(conv=>arg 4;whnf);refine bc rfl ?_)
   (repeat' ((try refine aw ?_);(conv=>arg 4;whnf);first | refine aO ?_ |(refine sN ?_;intro b)|((first | refine aA hnum ?_ | refine aA hnd ?_ | refine aA AK ?_);intro x hx;refine aH ?_)| exact ax | fail));(all_goals refine av ?_)
   have hent:cX L s l (4*j+w)=⟨s.getD (num L.length l+(4*j+w)) default+1,bI (aM (aK L s l (4*j+w))),by show s.getD _ 0+1<_;omega⟩:=by
    unfold cX
    rw [if_neg he]
    refine Ent.ext' ?_ rfl
    exact Nat.mod_eq_of_lt (by omega)
   have hfin:(A3 L s (l+1) j w).setE w ⟨s.getD (num L.length l+(4*j+w)) default+1,bI (aM (aK L s l (4*j+w))),by show s.getD _ 0+1<_;omega⟩=A3 L s (l+1) j (w+1):=by
    rw [←hent];exact w5 (by omega) (Nat.succ_ne_zero l)
   refine a5 (w+1) rfl ?_ (by (((repeat' (first | with_reducible exact ar _ | exact am _ | refine aE ?_ ?_ | fail))<;>(try with_reducible rfl)))<;>exact congrArg aU hfin) ?_
   ·omega
   ·omega
 ·obtain rfl:w=prt L.length (l+1) j:=by omega
  rw [aP]
  (repeat' ((try refine aw ?_);(conv=>arg 4;whnf);first | refine aO ?_ |(refine sN ?_;intro b)|(refine aA hpt ?_;intro x hx;refine aH ?_)| exact ax | fail));(all_goals refine av ?_)
theorem tr (hO:OkM L s):∀{l j:Nat},l≤hgt L.length→j<cnt L.length l→Zp Tryz.prog 104 [.slice a m c, .slice b m2 c2,vI l,vI j] [] [Sl bY a m c L,Sl cI b m2 c2 s] Unit (fun _=>True) (fun _=>vA (aU (aK L s l j))) (fun _=> []) (fun _=> [])
 | 0,_,_,hj=>Cu hO hj
 | l+1,_,hl,hj=>Et hO hl hj fun k hk=>tr hO (by omega) hk
theorem Jb (hO:OkM L s):Zp Tryz.prog 107 [.slice a m c, .slice b m2 c2] [] [Sl bY a m c L,Sl cI b m2 c2 s] Unit (fun _=>True) (fun _=>vA (ay (cq L s))) (fun _=> []) (fun _=> []):=by
 have h1:=hO.n1
 have h2:=hO.n2
 have hh:=ny (n:=L.length) h1 h2
 have hn:=tr (a:=a) (m:=m) (c:=c) (b:=b) (m2:=m2) (c2:=c2) hO (Nat.le_refl (hgt L.length)) (dk h1 (hgt L.length))
 have e:cq L s=bI (aM (aK L s (hgt L.length) 0)):=rfl
 rw [e]
 refine ak fun G=> ?_
 refine aS 0 ?_
 intro hm _ _ ha
 subst hm
 (repeat' ((try refine aw ?_);(conv=>arg 4;whnf);first | refine aO ?_ |(refine sN ?_;intro b)|((first | refine aA hh ?_ | refine aA hn ?_ | refine aA AK ?_);intro x hx;refine aH ?_)| exact ax | fail));(all_goals refine av ?_)
end
end Go.Proofs.YtbobhnldhpjdlaaGreatDoor
