/- Lemmas and walks: what each function does, by its own code. No condition beyond those of each statement. -/
import Derived.Test.YtbobhnldhpjdlaaGreatDoorP14
import Derived.Test.YtbobhnldhpjdlaaGreatDoorP18
set_option linter.all false
set_option linter.unusedVariables false
namespace Go.Proofs.YtbobhnldhpjdlaaGreatDoor
open Go Go.RowKit Go.Cs Go.Cz
set_option maxRecDepth 100000
set_option maxHeartbeats 1000000
instance {x:Rec}:Fb [Value.int .u8 ((x.st:Nat):Int)] cB [UInt8.ofNat x.st]:=⟨by simp [cB,Nat.mod_eq_of_lt x.hst]⟩
instance {x:Ent}:Fb [Value.int .u8 ((x.st:Nat):Int)] cB [UInt8.ofNat x.st]:=⟨by simp [cB,Nat.mod_eq_of_lt x.hst]⟩
instance {x:Nod}:Fb [Value.int .u8 ((x.lv:Nat):Int)] cB [UInt8.ofNat x.lv]:=⟨by simp [cB,Nat.mod_eq_of_lt x.hlv]⟩
theorem BA {a:Option Addr} {n c:Nat} {l:List UInt8}:Zp Tryz.prog 170 [.slice a n c] [] [Sl cB a n c l] Unit (fun _=>True) (fun _=> .tuple #[.int .u32 ((dz l 4:Nat):Int),vI (np l 4)]) (fun _=> []) (fun _=> []):=by
 have e:vw (UInt32.ofNat (dz l 4))= .int .u32 ((dz l 4:Nat):Int):=by
  have:=d5 l 4
  simp only [vw,UInt32.toNat_ofNat'];rw [Nat.mod_eq_of_lt (by omega)]
 rw [←e];exact vT
theorem Bv {a:Option Addr} {n c:Nat} {l:List UInt8}:Zp Tryz.prog 164 [.slice a n c] [] [Sl cB a n c l] Unit (fun _=>True) (fun _=> .tuple #[.int .u64 ((dz l 8:Nat):Int),vI (np l 8)]) (fun _=> []) (fun _=> []):=by
 refine ak fun G=> ?_
 (repeat' ((try refine aw ?_);(conv=>arg 4;whnf);first | refine az ?_ |(refine sN ?_;intro b)|(refine sC ?_ ?_<;>intro h)|(refine au ?_ ?_<;>intro h<;>try contradiction)|(refine aa ?_;intro g c')|(refine aA (ET 8 (by decide)) ?_;intro x hx;refine aH ?_)| refine ae ?_ | refine ai ?_ | exact ax |(refine aj rfl ?_;intro D lL)| refine af ?_ ?_ | refine ah ?_ ?_ ?_ | fail));(all_goals refine av ?_)
theorem jI {v:Nat} (h:v<4294967296):Zp Tryz.prog 62 [.int .u32 ((v:Nat):Int)] [] [] Nat (fun _=>True) (fun b=> .slice (some ⟨b,0,none⟩) 4 4) (fun b=> [iB b (bE (be v 4)) 5]) (fun _=> []):=by
 have h1:(UInt32.ofNat v).toNat=v:=by simp only [UInt32.toNat_ofNat'];exact Nat.mod_eq_of_lt h
 have:=uN (y:=UInt32.ofNat v)
 simp only [vw,h1] at this
 exact this
theorem oZ {y:Non}:Zp Tryz.prog 58 [vA (br y)] [] [] Nat (fun _=>True) (fun b=> .slice (some ⟨b,0,none⟩) 12 12) (fun b=> [iB b (bE (eA y)) 5]) (fun _=> []):=by
 refine ak fun G=> ?_
 have h1:=y.hsh
 have h2:=y.hct
 have e: [be y.sh 4,be y.ct 8].flatten=eA y:=by simp [eA]
 have hl:=d4 y
 have hle: [be y.sh 4,be y.ct 8].flatten.length≤1099511627776:=by rw [e,hl];decide
 (repeat' ((try refine aw ?_);(conv=>arg 4;whnf);first | refine az ?_ |(refine sN ?_;intro b)|(refine sC ?_ ?_<;>intro h)|(refine au ?_ ?_<;>intro h<;>try contradiction)|(refine aa ?_;intro g c')|((first | refine aA (jI (v:=y.sh) h1) ?_ | refine aA (jC h2) ?_ | refine aA (i7 (ls:= [be y.sh 4,be y.ct 8]) hle) ?_);intro x hx;refine aH ?_)| refine ae ?_ | refine ai ?_ | exact ax |(refine aj rfl ?_;intro D lL)| refine af ?_ ?_ | refine ah ?_ ?_ ?_ | fail));(all_goals refine av ?_)
 refine aD x True.intro (by rw [e,hl];rfl) ?_
 rw [e];((repeat' (first | with_reducible exact ar _ | exact am _ | refine aE ?_ ?_ | refine aG inferInstance ?_))<;>(try with_reducible rfl))
theorem my {a:Option Addr} {n c:Nat} {l:List UInt8} (hl:l.length=12):Zp Tryz.prog 57 [.slice a n c] [] [Sl cB a n c l] Unit (fun _=>True) (fun _=> .tuple #[vA (br (Non.of l)),vI 0]) (fun _=> []) (fun _=> []):=by
 refine ak fun G=> ?_
 refine aS 0 ?_
 intro hn hc hm ha
 obtain rfl:n=12:=by omega
 obtain ⟨b,o,rfl⟩:=ha (by omega) (by decide)
 refine aR (Sl cB (some ⟨b,o,none⟩) 4 c (l.take 4)) (fun w _ h=>o0 (h _ (.head _)) (by omega) (by omega) hm) ?_
 (repeat' ((try refine aw ?_);(conv=>arg 4;whnf);first | refine az ?_ |(refine sN ?_;intro b)|(refine sC ?_ ?_<;>intro h)|(refine au ?_ ?_<;>intro h<;>try contradiction)|(refine aa ?_;intro g c')|((first | refine aA BA ?_ | refine aA Bv ?_);intro x hx;refine aH ?_)| refine ae ?_ | refine ai ?_ | exact ax |(refine aj rfl ?_;intro D lL)| refine af ?_ ?_ | refine ah ?_ ?_ ?_ | fail));(all_goals refine av ?_)
 refine aD () True.intro ?_ (am _)
 have e:List.take (12-4) (List.drop 4 l)=l.drop 4:=List.take_of_length_le (by simp;omega)
 rw [e];rfl
theorem nB {x:Rec}:Zp Tryz.prog 153 [vA (bY x)] [] [] Unit (fun _=>True) (fun _=>vI (bS x)) (fun _=> []) (fun _=> []):=by
 refine ak fun G=> ?_
 by_cases h2:2<x.st
 ·rw [show bS x=1 from if_pos h2]
  (repeat' ((try refine aw ?_);(conv=>arg 4;whnf);first | refine az ?_ |(refine sN ?_;intro b)|(refine sC ?_ ?_<;>intro h)|(refine au ?_ ?_<;>intro h<;>try contradiction)|(refine aa ?_;intro g c')| refine ae ?_ | refine ai ?_ | exact ax |(refine aj rfl ?_;intro D lL)| refine af ?_ ?_ | refine ah ?_ ?_ ?_ | fail));(all_goals refine av ?_)
 by_cases h0:x.st=0
 ·by_cases hz:x=Rec.zero
  ·rw [show bS x=0 by rw [bS,if_neg h2,if_pos h0,if_pos ((Rec.eqb_iff _ _).2 hz)]]
   (repeat' ((try refine aw ?_);(conv=>arg 4;whnf);first | refine az ?_ |(refine sN ?_;intro b)|(refine sC ?_ ?_<;>intro h)|(refine au ?_ ?_<;>intro h<;>try contradiction)|(refine aa ?_;intro g c')| refine ae ?_ | refine ai ?_ | exact ax |(refine aj rfl ?_;intro D lL)| refine af ?_ ?_ | refine ah ?_ ?_ ?_ | fail));(all_goals refine av ?_)
  ·rw [show bS x=1 by rw [bS,if_neg h2,if_pos h0,if_neg (fun g=>hz ((Rec.eqb_iff _ _).1 g))]]
   (repeat' ((try refine aw ?_);(conv=>arg 4;whnf);first | refine az ?_ |(refine sN ?_;intro b)|(refine sC ?_ ?_<;>intro h)|(refine au ?_ ?_<;>intro h<;>try contradiction)|(refine aa ?_;intro g c')| refine ae ?_ | refine ai ?_ | exact ax |(refine aj rfl ?_;intro D lL)| refine af ?_ ?_ | refine ah ?_ ?_ ?_ | fail));(all_goals refine av ?_)
 ·rw [show bS x=0 by rw [bS,if_neg h2,if_neg h0]]
  (repeat' ((try refine aw ?_);(conv=>arg 4;whnf);first | refine az ?_ |(refine sN ?_;intro b)|(refine sC ?_ ?_<;>intro h)|(refine au ?_ ?_<;>intro h<;>try contradiction)|(refine aa ?_;intro g c')| refine ae ?_ | refine ai ?_ | exact ax |(refine aj rfl ?_;intro D lL)| refine af ?_ ?_ | refine ah ?_ ?_ ?_ | fail));(all_goals refine av ?_)
theorem Dy {x:Ent}:Zp Tryz.prog 293 [vA (c6 x)] [] [] Unit (fun _=>True) (fun _=>vI (dK x)) (fun _=> []) (fun _=> []):=by
 refine ak fun G=> ?_
 by_cases h2:2<x.st
 ·rw [show dK x=1 from if_pos h2]
  (repeat' ((try refine aw ?_);(conv=>arg 4;whnf);first | refine az ?_ |(refine sN ?_;intro b)|(refine sC ?_ ?_<;>intro h)|(refine au ?_ ?_<;>intro h<;>try contradiction)|(refine aa ?_;intro g c')| refine ae ?_ | refine ai ?_ | exact ax |(refine aj rfl ?_;intro D lL)| refine af ?_ ?_ | refine ah ?_ ?_ ?_ | fail));(all_goals refine av ?_)
 by_cases h0:x.st=0
 ·by_cases hz:x=Ent.zero
  ·rw [show dK x=0 by rw [dK,if_neg h2,if_pos h0,if_pos ((Ent.eqb_iff _ _).2 hz)]]
   (repeat' ((try refine aw ?_);(conv=>arg 4;whnf);first | refine az ?_ |(refine sN ?_;intro b)|(refine sC ?_ ?_<;>intro h)|(refine au ?_ ?_<;>intro h<;>try contradiction)|(refine aa ?_;intro g c')| refine ae ?_ | refine ai ?_ | exact ax |(refine aj rfl ?_;intro D lL)| refine af ?_ ?_ | refine ah ?_ ?_ ?_ | fail));(all_goals refine av ?_)
  ·rw [show dK x=1 by rw [dK,if_neg h2,if_pos h0,if_neg (fun g=>hz ((Ent.eqb_iff _ _).1 g))]]
   (repeat' ((try refine aw ?_);(conv=>arg 4;whnf);first | refine az ?_ |(refine sN ?_;intro b)|(refine sC ?_ ?_<;>intro h)|(refine au ?_ ?_<;>intro h<;>try contradiction)|(refine aa ?_;intro g c')| refine ae ?_ | refine ai ?_ | exact ax |(refine aj rfl ?_;intro D lL)| refine af ?_ ?_ | refine ah ?_ ?_ ?_ | fail));(all_goals refine av ?_)
 ·rw [show dK x=0 by rw [dK,if_neg h2,if_neg h0]]
  (repeat' ((try refine aw ?_);(conv=>arg 4;whnf);first | refine az ?_ |(refine sN ?_;intro b)|(refine sC ?_ ?_<;>intro h)|(refine au ?_ ?_<;>intro h<;>try contradiction)|(refine aa ?_;intro g c')| refine ae ?_ | refine ai ?_ | exact ax |(refine aj rfl ?_;intro D lL)| refine af ?_ ?_ | refine ah ?_ ?_ ?_ | fail));(all_goals refine av ?_)
end Go.Proofs.YtbobhnldhpjdlaaGreatDoor
namespace Go.Proofs.YtbobhnldhpjdlaaGreatDoor
open Go Go.RowKit Go.Cs Go.Cz
set_option maxRecDepth 100000
set_option maxHeartbeats 1000000
theorem zZ {y:Non} {c:Nat} (hc:c<4294967296):Zp Tryz.prog 303 [vA (br y), .int .u32 ((c:Nat):Int)] [] [] Unit (fun _=>True) (fun _=>vA (dE (rN y c))) (fun _=> []) (fun _=> []):=by
 refine ak fun G=> ?_
 have h1:=y.hsh
 have h2:=y.hct
 have e: [be y.sh 4,be y.ct 8,be c 4].flatten=(rN y c).l:=by simp [rN]
 have hl:=(rN y c).h
 have hle: [be y.sh 4,be y.ct 8,be c 4].flatten.length≤1099511627776:=by rw [e,hl];decide
 (repeat' ((try refine aw ?_);(conv=>arg 4;whnf);first | refine aO ?_ |(refine sN ?_;intro b)|(refine sC ?_ ?_<;>intro h)|(refine au ?_ ?_<;>intro h<;>try contradiction)|(refine aa ?_;intro g c')| refine ae ?_ | refine ai ?_ | exact ax |(refine aj rfl ?_;intro D lL)| refine af ?_ ?_ | refine ah ?_ ?_ ?_ | fail));(all_goals refine av ?_)
 refine fL b (bE B16.zero.l) rfl ?_
 refine dH [b] rfl ?_
 (repeat' ((try refine aw ?_);(conv=>arg 4;whnf);first | refine az ?_ |(refine sN ?_;intro b)|(refine sC ?_ ?_<;>intro h)|(refine au ?_ ?_<;>intro h<;>try contradiction)|(refine aa ?_;intro g c')|((first | refine aA (jI (v:=y.sh) h1) ?_ | refine aA (jC h2) ?_ | refine aA (jI (v:=c) hc) ?_ | refine aA (i7 (ls:= [be y.sh 4,be y.ct 8,be c 4]) hle) ?_);intro x hx;refine aH ?_)| refine ae ?_ | refine ai ?_ | exact ax |(refine aj rfl ?_;intro D lL)| refine af ?_ ?_ | refine ah ?_ ?_ ?_ | fail));(all_goals refine av ?_)
theorem EK {o n:Nat} (h:o+n≤1048576):Zp Tryz.prog 251 [vI o,vI n] [] [] Unit (fun _=>True) (fun _=>vI 0) (fun _=> []) (fun _=> []):=by
 refine ak fun G=> ?_
 (repeat' ((try refine aw ?_);(conv=>arg 4;whnf);first | refine az ?_ |(refine sN ?_;intro b)|(refine sC ?_ ?_<;>intro h)|(refine au ?_ ?_<;>intro h<;>try contradiction)|(refine aa ?_;intro g c')| refine ae ?_ | refine ai ?_ | exact ax |(refine aj rfl ?_;intro D lL)| refine af ?_ ?_ | refine ah ?_ ?_ ?_ | fail));(all_goals refine av ?_)
end Go.Proofs.YtbobhnldhpjdlaaGreatDoor
namespace Go.Proofs.YtbobhnldhpjdlaaGreatDoor
open Go Go.RowKit Go.Cs Go.Cz
set_option maxRecDepth 100000
set_option maxHeartbeats 1000000
structure AOk (a:SAlo) (l:List UInt64):Prop where
 l1:1≤l.length
 l8:l.length≤8
 ml:a.Mark≤a.Limit
 r1:1≤a.Reserve
 r2:a.Reserve≤4294967296
 rl:a.Reserve≤a.Limit
 lm:a.Limit<18446744073709551616
 cm:∀i,i<l.length→(l.getD i default).toNat≤a.Mark
theorem BF {a:SAlo} {l:List UInt64} (h:AOk a l):Zp Tryz.prog 177 [vA (aW a)] [] [Sl cQ a.Counters.1 a.Counters.2.1 a.Counters.2.2 l] Unit (fun _=>True) (fun _=>vI 0) (fun _=> []) (fun _=> []):=by
 obtain ⟨⟨ca,cn,cc⟩,mk,lm,rs⟩:=a
 obtain ⟨h1,h8,ml,r1,r2,rl,lm',cm⟩:=h
 dsimp only at*
 refine ak fun G=> ?_
 refine aS 0 ?_
 intro hn hc hm ha
 obtain ⟨sb,o,rfl⟩:=ha (by omega) (by decide)
 (repeat' ((try refine aw ?_);(conv=>arg 4;whnf);first | refine az ?_ |(refine sN ?_;intro b)|(refine sC ?_ ?_<;>intro h)|(refine au ?_ ?_<;>intro h<;>try contradiction)|(refine aa ?_;intro g c')| refine ae ?_ | refine ai ?_ | exact ax |(refine aj rfl ?_;intro D lL)| refine af ?_ ?_ | refine ah ?_ ?_ ?_ | fail));(all_goals refine av ?_)
 refine dh [] (X:=Nat) (fun i=> [(2,vI 0),(42,vI i)]) (fun i=>i≤l.length) (fun i=> []) (fun i=>l.length-i) 0 (Nat.zero_le _) rfl (ar _) ?_
 intro i hi
 (conv=>arg 2;simp only [List.cons_append,List.nil_append])
 by_cases h:i<l.length
 ·have hci:=cm i h
  (repeat' ((try refine aw ?_);(conv=>arg 4;whnf);first | refine az ?_ |(refine sN ?_;intro b)|(refine sC ?_ ?_<;>intro h)|(refine au ?_ ?_<;>intro h<;>try contradiction)|(refine aa ?_;intro g c')| refine ae ?_ | refine ai ?_ | exact ax |(refine aj rfl ?_;intro D lL)| refine af ?_ ?_ | refine ah ?_ ?_ ?_ | fail));(all_goals refine av ?_)
  exact a5 (i+1) rfl h (ar _) (by omega)
 ·(repeat' ((try refine aw ?_);(conv=>arg 4;whnf);first | refine az ?_ |(refine sN ?_;intro b)|(refine sC ?_ ?_<;>intro h)|(refine au ?_ ?_<;>intro h<;>try contradiction)|(refine aa ?_;intro g c')| refine ae ?_ | refine ai ?_ | exact ax |(refine aj rfl ?_;intro D lL)| refine af ?_ ?_ | refine ah ?_ ?_ ?_ | fail));(all_goals refine av ?_)
theorem Ew {a:SAlo} {l:List UInt64} {s:Nat} (h:AOk a l) (hs:s<l.length):Zp Tryz.prog 248 [vA (aW a),vI s] [] [Sl cQ a.Counters.1 a.Counters.2.1 a.Counters.2.2 l] Unit (fun _=>True) (fun _=>vI 0) (fun _=> []) (fun _=> []):=by
 refine ak fun G=> ?_
 refine aS 0 ?_
 intro hn hc hm ha
 (repeat' ((try refine aw ?_);(conv=>arg 4;whnf);first | refine az ?_ |(refine sN ?_;intro b)|(refine sC ?_ ?_<;>intro h)|(refine au ?_ ?_<;>intro h<;>try contradiction)|(refine aa ?_;intro g c')|(refine aA (BF h) ?_;intro x hx;refine aH ?_)| refine ae ?_ | refine ai ?_ | exact ax |(refine aj rfl ?_;intro D lL)| refine af ?_ ?_ | refine ah ?_ ?_ ?_ | fail));(all_goals refine av ?_)
theorem EY {a:SAlo} {l:List UInt64} (h8:l.length≤8):Zp Tryz.prog 249 [vA (aW a)] [] [Sl cQ a.Counters.1 a.Counters.2.1 a.Counters.2.2 l] Nat (fun _=>True) (fun b=>vA (aW {a with Counters:=(some ⟨b,0,none⟩,l.length,l.length)})) (fun b=> [iB b (l.flatMap cQ) 24]) (fun _=> []):=by
 obtain ⟨⟨ca,cn,cc⟩,mk,lm,rs⟩:=a
 refine ak fun G=> ?_
 refine aS 0 ?_
 intro hn hc hm ha
 dsimp only at hn hc hm ha
 subst hn
 (repeat' ((try refine aw ?_);(conv=>arg 4;whnf);first | refine az ?_ |(refine sN ?_;intro b)|(refine sC ?_ ?_<;>intro h)|(refine au ?_ ?_<;>intro h<;>try contradiction)|(refine aa ?_;intro g c')| refine ae ?_ | refine ai ?_ | exact ax |(refine aj rfl ?_;intro D lL)| refine af ?_ ?_ | refine ah ?_ ?_ ?_ | fail));(all_goals refine av ?_)
 exact aD b True.intro rfl (by ((repeat' (first | with_reducible exact ar _ | exact am _ | refine aE ?_ ?_ | refine aG inferInstance ?_ | refine aX ?_))<;>(try with_reducible rfl));all_goals (rw [Nat.min_self,List.take_length]))
theorem H1 {s lm rs:Nat} (h:AOk ⟨(none,s,s),0,lm,rs⟩ (List.replicate s 0)):Zp Tryz.prog 64 [vI s, .int .u64 ((lm:Nat):Int), .int .u64 ((rs:Nat):Int)] [] [] Nat (fun _=>True) (fun b=> .tuple #[vA (aW ⟨(some ⟨b,0,none⟩,s,s),0,lm,rs⟩),vI 0]) (fun _=> []) (fun b=> [Sl cQ (some ⟨b,0,none⟩) s s (List.replicate s 0)]):=by
 have h1:=h.l1
 have h8:=h.l8
 rw [List.length_replicate] at h1 h8
 have hA:∀b,AOk ⟨(some ⟨b,0,none⟩,s,s),0,lm,rs⟩ (List.replicate s 0):=fun b=>⟨h.l1,h.l8,h.ml,h.r1,h.r2,h.rl,h.lm,h.cm⟩
 refine ak fun G=> ?_
 (repeat' ((try refine aw ?_);(conv=>arg 4;whnf);first | refine az ?_ |(refine sN ?_;intro b)|(refine sC ?_ ?_<;>intro h)|(refine au ?_ ?_<;>intro h<;>try contradiction)|(refine aa ?_;intro g c')|(refine aA (BF (hA _)) ?_;intro x hx;refine aH ?_)| refine ae ?_ | refine ai ?_ | exact ax |(refine aj rfl ?_;intro D lL)| refine af ?_ ?_ | refine ah ?_ ?_ ?_ | fail));(all_goals refine av ?_)
 rename_i cb
 refine eK cb s s ?_
 exact aD cb True.intro rfl (am _) bu
def jT (s:Nat) (c:UInt64) (h:s<4294967296):Non:=⟨s,c.toNat,h,c.toNat_lt⟩
theorem FJ {a:SAlo} {l:List UInt64} {s:Nat} (h:AOk a l) (hs:s<l.length) (hs2:s<4294967296) (hlt:(l.getD s default).toNat<a.Mark):Zp Tryz.prog 182 [vA (aW a),vI s] [] [Sl cQ a.Counters.1 a.Counters.2.1 a.Counters.2.2 l] Nat (fun _=>True) (fun b=> .tuple #[vA (br (jT s (l.getD s default) hs2)),vA (aW {a with Counters:=(some ⟨b,0,none⟩,l.length,l.length)}),vI 0]) (fun _=> []) (fun b=> [Sl cQ (some ⟨b,0,none⟩) l.length l.length (l.set s (l.getD s default+1))]):=by
 have hc0:=Ew h hs
 have h8:=h.l8
 have ho:=EY (a:=a) h8
 obtain ⟨⟨ca,cn,cc⟩,mk,lm,rs⟩:=a
 obtain ⟨h1,h8',ml,r1,r2,rl,lm',cm⟩:=h
 dsimp only at*
 have i1:Nu 4294967296 ((s:Nat):Int) s:=⟨rfl,hs2⟩
 refine ak fun G=> ?_
 refine aS 0 ?_
 intro hn hc hm ha
 obtain ⟨sb,o,rfl⟩:=ha (by omega) (by decide)
 (repeat' ((try refine aw ?_);(conv=>arg 4;whnf);first | refine az ?_ |(refine sN ?_;intro b)|(refine sC ?_ ?_<;>intro h)|(refine au ?_ ?_<;>intro h<;>try contradiction)|(refine aa ?_;intro g c')|((first | refine aA hc0 ?_ | refine aA ho ?_);intro x hx;refine aH ?_)| refine ae ?_ | refine ai ?_ | exact ax |(refine aj rfl ?_;intro D lL)| refine af ?_ ?_ | refine ah ?_ ?_ ?_ | fail));(all_goals refine av ?_)
 try rw [show (UInt64.ofNat 1:UInt64)=1 from rfl]
 refine eK x l.length l.length ?_
 exact aD x True.intro rfl (am _) bu
theorem GE {a:SAlo} {l:List UInt64} {s:Nat} (h:AOk a l) (hs:s<l.length) (hlt:(l.getD s default).toNat=a.Mark):Zp Tryz.prog 182 [vA (aW a),vI s] [] [Sl cQ a.Counters.1 a.Counters.2.1 a.Counters.2.2 l] Unit (fun _=>True) (fun b=> .tuple #[vA (br Non.zero),vA (aW SAlo.zero),vI 10]) (fun _=> []) (fun _=> []):=by
 have hc0:=Ew h hs
 obtain ⟨⟨ca,cn,cc⟩,mk,lm,rs⟩:=a
 obtain ⟨h1,h8',ml,r1,r2,rl,lm',cm⟩:=h
 dsimp only at*
 refine ak fun G=> ?_
 refine aS 0 ?_
 intro hn hc hm ha
 obtain ⟨sb,o,rfl⟩:=ha (by omega) (by decide)
 (repeat' ((try refine aw ?_);(conv=>arg 4;whnf);first | refine az ?_ |(refine sN ?_;intro b)|(refine sC ?_ ?_<;>intro h)|(refine au ?_ ?_<;>intro h<;>try contradiction)|(refine aa ?_;intro g c')|(refine aA hc0 ?_;intro x hx;refine aH ?_)| refine ae ?_ | refine ai ?_ | exact ax |(refine aj rfl ?_;intro D lL)| refine af ?_ ?_ | refine ah ?_ ?_ ?_ | fail));(all_goals refine av ?_)
theorem Id {a:SAlo} {l:List UInt64} (h:AOk a l) (hr:a.Mark+a.Reserve≤a.Limit):Zp Tryz.prog 183 [vA (aW a)] [] [Sl cQ a.Counters.1 a.Counters.2.1 a.Counters.2.2 l] Nat (fun _=>True) (fun b=> .tuple #[vA (aW {a with Counters:=(some ⟨b,0,none⟩,l.length,l.length),Mark:=a.Mark+a.Reserve}),vI 0]) (fun _=> []) (fun b=> [Sl cQ (some ⟨b,0,none⟩) l.length l.length l]):=by
 have hc0:=BF h
 have h8:=h.l8
 have ho:=EY (a:=a) h8
 obtain ⟨⟨ca,cn,cc⟩,mk,lm,rs⟩:=a
 obtain ⟨h1,h8',ml,r1,r2,rl,lm',cm⟩:=h
 dsimp only at*
 refine ak fun G=> ?_
 refine aS 0 ?_
 intro hn hc hm ha
 obtain ⟨sb,o,rfl⟩:=ha (by omega) (by decide)
 (repeat' ((try refine aw ?_);(conv=>arg 4;whnf);first | refine az ?_ |(refine sN ?_;intro b)|(refine sC ?_ ?_<;>intro h)|(refine au ?_ ?_<;>intro h<;>try contradiction)|(refine aa ?_;intro g c')|((first | refine aA hc0 ?_ | refine aA ho ?_);intro x hx;refine aH ?_)| refine ae ?_ | refine ai ?_ | exact ax |(refine aj rfl ?_;intro D lL)| refine af ?_ ?_ | refine ah ?_ ?_ ?_ | fail));(all_goals refine av ?_)
 refine eK x l.length l.length ?_
 exact aD x True.intro rfl (am _) bu
end Go.Proofs.YtbobhnldhpjdlaaGreatDoor
