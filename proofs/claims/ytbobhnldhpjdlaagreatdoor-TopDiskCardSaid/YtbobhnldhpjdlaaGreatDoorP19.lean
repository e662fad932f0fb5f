/- Lemmas and walks: what each function does, by its own code. No condition beyond those of each statement. -/
import Derived.Test.YtbobhnldhpjdlaaGreatDoorP11
import Derived.Test.YtbobhnldhpjdlaaGreatDoorP15
import Derived.Test.YtbobhnldhpjdlaaGreatDoorP18
set_option linter.all false
set_option linter.unusedVariables false
namespace Go.Proofs.YtbobhnldhpjdlaaGreatDoor
open Go Go.RowKit Go.Cs Go.Cz
set_option maxRecDepth 100000
set_option maxHeartbeats 1000000
instance {x:Rec}:Fb [Value.int .u8 ((x.st:Nat):Int)] cB [UInt8.ofNat x.st]:=⟨by simp [cB,Nat.mod_eq_of_lt x.hst]⟩
instance {x:Ent}:Fb [Value.int .u8 ((x.st:Nat):Int)] cB [UInt8.ofNat x.st]:=⟨by simp [cB,Nat.mod_eq_of_lt x.hst]⟩
instance {x:Nod}:Fb [Value.int .u8 ((x.lv:Nat):Int)] cB [UInt8.ofNat x.lv]:=⟨by simp [cB,Nat.mod_eq_of_lt x.hlv]⟩
theorem BA {a:Option Addr} {n c:Nat} {l:List UInt8}:Zp Tryz.prog 170 [.slice a n c] [] [Sl cB a n c l] Unit (fun _=>True) (fun _=> .tuple #[.int .u32 ((dz l 4:Nat):Int),vI (np l 4)]) (fun _=> []) (fun _=> []):=by
 have e:vw (UInt32.ofNat (dz l 4))= .int .u32 ((dz l 4:Nat):Int):=by
  have:=d5 l 4
  simp only [vw,UInt32.toNat_ofNat'];rw [Nat.mod_eq_of_lt (by omega)]
 rw [←e];exact vT
theorem Bv {a:Option Addr} {n c:Nat} {l:List UInt8}:Zp Tryz.prog 164 [.slice a n c] [] [Sl cB a n c l] Unit (fun _=>True) (fun _=> .tuple #[.int .u64 ((dz l 8:Nat):Int),vI (np l 8)]) (fun _=> []) (fun _=> []):=by
 refine ak fun G=> ?_
 (repeat' ((try refine aw ?_);(conv=>arg 4;whnf);first | refine az ?_ |(refine aA (ET 8 (by decide)) ?_;intro x hx;refine aH ?_)| exact ax | fail));(all_goals refine av ?_)
theorem jI {v:Nat} (h:v<4294967296):Zp Tryz.prog 62 [.int .u32 ((v:Nat):Int)] [] [] Nat (fun _=>True) (fun b=> .slice (some ⟨b,0,none⟩) 4 4) (fun b=> [iB b (bE (be v 4)) 5]) (fun _=> []):=by
 have h1:(UInt32.ofNat v).toNat=v:=by simp only [UInt32.toNat_ofNat'];exact Nat.mod_eq_of_lt h
 have:=uN (y:=UInt32.ofNat v)
 simp only [vw,h1] at this
 exact this
theorem oZ {y:Non}:Zp Tryz.prog 58 [vA (br y)] [] [] Nat (fun _=>True) (fun b=> .slice (some ⟨b,0,none⟩) 12 12) (fun b=> [iB b (bE (eA y)) 5]) (fun _=> []):=by
 refine ak fun G=> ?_
 have h1:=y.hsh
 have h2:=y.hct
 have e: [be y.sh 4,be y.ct 8].flatten=eA y:=by simp [eA]
 have hl:=d4 y
 have hle: [be y.sh 4,be y.ct 8].flatten.length≤1099511627776:=by rw [e,hl];decide
 (repeat' ((try refine aw ?_);(conv=>arg 4;whnf);first | refine az ?_ |(refine sN ?_;intro b)|((first | refine aA (jI (v:=y.sh) h1) ?_ | refine aA (jC h2) ?_ | refine aA (i7 (ls:= [be y.sh 4,be y.ct 8]) hle) ?_);intro x hx;refine aH ?_)| fail));(all_goals refine av ?_)
 refine aD x True.intro (by rw [e,hl];rfl) ?_
 rw [e];((repeat' (first | exact am _ | refine aE ?_ ?_ | fail))<;>(try with_reducible rfl))
theorem my {a:Option Addr} {n c:Nat} {l:List UInt8} (hl:l.length=12):Zp Tryz.prog 57 [.slice a n c] [] [Sl cB a n c l] Unit (fun _=>True) (fun _=> .tuple #[vA (br (Non.of l)),vI 0]) (fun _=> []) (fun _=> []):=by
 refine ak fun G=> ?_
 refine aS 0 ?_
 intro hn hc hm ha
 obtain rfl:n=12:=by omega
 obtain ⟨b,o,rfl⟩:=ha (by omega) (by decide)
 refine aR (Sl cB (some ⟨b,o,none⟩) 4 c (l.take 4)) (fun w _ h=>o0 (h _ (.head _)) (by omega) (by omega) hm) ?_
 (repeat' ((try refine aw ?_);(conv=>arg 4;whnf);first | refine az ?_ |(refine sN ?_;intro b)|((first | refine aA BA ?_ | refine aA Bv ?_);intro x hx;refine aH ?_)| fail));(all_goals refine av ?_)
 refine aD () True.intro ?_ (am _)
 have e:List.take (12-4) (List.drop 4 l)=l.drop 4:=List.take_of_length_le (by simp;omega)
 rw [e];rfl
theorem nB {x:Rec}:Zp Tryz.prog 153 [vA (bY x)] [] [] Unit (fun _=>True) (fun _=>vI (bS x)) (fun _=> []) (fun _=> []):=by
 refine ak fun G=> ?_
 by_cases h2:2<x.st
 ·rw [show bS x=1 from if_pos h2]
  (repeat' ((try refine aw ?_);(conv=>arg 4;whnf);first | refine az ?_ |(refine sN ?_;intro b)|(refine au ?_ ?_<;>intro h<;>try contradiction)| exact ax | fail));(all_goals refine av ?_)
 by_cases h0:x.st=0
 ·by_cases hz:x=Rec.zero
  ·rw [show bS x=0 by rw [bS,if_neg h2,if_pos h0,if_pos ((Rec.eqb_iff _ _).2 hz)]]
   (repeat' ((try refine aw ?_);(conv=>arg 4;whnf);first | refine az ?_ |(refine sN ?_;intro b)|(refine au ?_ ?_<;>intro h<;>try contradiction)| exact ax | fail));(all_goals refine av ?_)
  ·rw [show bS x=1 by rw [bS,if_neg h2,if_pos h0,if_neg (fun g=>hz ((Rec.eqb_iff _ _).1 g))]]
   (repeat' ((try refine aw ?_);(conv=>arg 4;whnf);first | refine az ?_ |(refine sN ?_;intro b)|(refine au ?_ ?_<;>intro h<;>try contradiction)| exact ax | fail));(all_goals refine av ?_)
 ·rw [show bS x=0 by rw [bS,if_neg h2,if_neg h0]]
  (repeat' ((try refine aw ?_);(conv=>arg 4;whnf);first | refine az ?_ |(refine sN ?_;intro b)|(refine au ?_ ?_<;>intro h<;>try contradiction)| exact ax | fail));(all_goals refine av ?_)
theorem Dy {x:Ent}:Zp Tryz.prog 293 [vA (c6 x)] [] [] Unit (fun _=>True) (fun _=>vI (dK x)) (fun _=> []) (fun _=> []):=by
 refine ak fun G=> ?_
 by_cases h2:2<x.st
 ·rw [show dK x=1 from if_pos h2]
  (repeat' ((try refine aw ?_);(conv=>arg 4;whnf);first | refine az ?_ |(refine sN ?_;intro b)|(refine au ?_ ?_<;>intro h<;>try contradiction)| exact ax | fail));(all_goals refine av ?_)
 by_cases h0:x.st=0
 ·by_cases hz:x=Ent.zero
  ·rw [show dK x=0 by rw [dK,if_neg h2,if_pos h0,if_pos ((Ent.eqb_iff _ _).2 hz)]]
   (repeat' ((try refine aw ?_);(conv=>arg 4;whnf);first | refine az ?_ |(refine sN ?_;intro b)|(refine au ?_ ?_<;>intro h<;>try contradiction)| exact ax | fail));(all_goals refine av ?_)
  ·rw [show dK x=1 by rw [dK,if_neg h2,if_pos h0,if_neg (fun g=>hz ((Ent.eqb_iff _ _).1 g))]]
   (repeat' ((try refine aw ?_);(conv=>arg 4;whnf);first | refine az ?_ |(refine sN ?_;intro b)|(refine au ?_ ?_<;>intro h<;>try contradiction)| exact ax | fail));(all_goals refine av ?_)
 ·rw [show dK x=0 by rw [dK,if_neg h2,if_neg h0]]
  (repeat' ((try refine aw ?_);(conv=>arg 4;whnf);first | refine az ?_ |(refine sN ?_;intro b)|(refine au ?_ ?_<;>intro h<;>try contradiction)| exact ax | fail));(all_goals refine av ?_)
end Go.Proofs.YtbobhnldhpjdlaaGreatDoor
namespace Go.Proofs.YtbobhnldhpjdlaaGreatDoor
open Go Go.RowKit Go.Cs Go.Cz
set_option maxRecDepth 100000
set_option maxHeartbeats 1000000
theorem zZ {y:Non} {c:Nat} (hc:c<4294967296):Zp Tryz.prog 303 [vA (br y), .int .u32 ((c:Nat):Int)] [] [] Unit (fun _=>True) (fun _=>vA (dE (rN y c))) (fun _=> []) (fun _=> []):=by
 refine ak fun G=> ?_
 have h1:=y.hsh
 have h2:=y.hct
 have e: [be y.sh 4,be y.ct 8,be c 4].flatten=(rN y c).l:=by simp [rN]
 have hl:=(rN y c).h
 have hle: [be y.sh 4,be y.ct 8,be c 4].flatten.length≤1099511627776:=by rw [e,hl];decide
 (repeat' ((try refine aw ?_);(conv=>arg 4;whnf);first | refine aO ?_ |(refine sN ?_;intro b)| exact ax | fail));(all_goals refine av ?_)
 refine fL b (bE B16.zero.l) rfl ?_
 refine dH [b] rfl ?_
 (repeat' ((try refine aw ?_);(conv=>arg 4;whnf);first | refine az ?_ |(refine sN ?_;intro b)|((first | refine aA (jI (v:=y.sh) h1) ?_ | refine aA (jC h2) ?_ | refine aA (jI (v:=c) hc) ?_ | refine aA (i7 (ls:= [be y.sh 4,be y.ct 8,be c 4]) hle) ?_);intro x hx;refine aH ?_)| exact ax | fail));(all_goals refine av ?_)
theorem EK {o n:Nat} (h:o+n≤1048576):Zp Tryz.prog 251 [vI o,vI n] [] [] Unit (fun _=>True) (fun _=>vI 0) (fun _=> []) (fun _=> []):=by
 refine ak fun G=> ?_
 (repeat' ((try refine aw ?_);(conv=>arg 4;whnf);first | refine az ?_ | exact ax | fail));(all_goals refine av ?_)
end Go.Proofs.YtbobhnldhpjdlaaGreatDoor
namespace Go.Proofs.YtbobhnldhpjdlaaGreatDoor
open Go Go.RowKit Go.Cs Go.Cz
set_option maxRecDepth 100000
set_option maxHeartbeats 1000000
structure AOk (a:SAlo) (l:List UInt64):Prop where
 l1:1≤l.length
 l8:l.length≤8
 ml:a.Mark≤a.Limit
 r1:1≤a.Reserve
 r2:a.Reserve≤4294967296
 rl:a.Reserve≤a.Limit
 lm:a.Limit<18446744073709551616
 cm:∀i,i<l.length→(l.getD i default).toNat≤a.Mark
theorem BF {a:SAlo} {l:List UInt64} (h:AOk a l):Zp Tryz.prog 177 [vA (aW a)] [] [Sl cQ a.Counters.1 a.Counters.2.1 a.Counters.2.2 l] Unit (fun _=>True) (fun _=>vI 0) (fun _=> []) (fun _=> []):=by
 obtain ⟨⟨ca,cn,cc⟩,mk,lm,rs⟩:=a
 obtain ⟨h1,h8,ml,r1,r2,rl,lm',cm⟩:=h
 dsimp only at*
 refine ak fun G=> ?_
 refine aS 0 ?_
 intro hn hc hm ha
 obtain ⟨sb,o,rfl⟩:=ha (by omega) (by decide)
 (repeat' ((try refine aw ?_);(conv=>arg 4;whnf);first | refine az ?_ |(refine sN ?_;intro b)| exact ax | fail));(all_goals refine av ?_)
 refine dh [] (X:=Nat) (fun i=> [(2,vI 0),(42,vI i)]) (fun i=>i≤l.length) (fun i=> []) (fun i=>l.length-i) 0 (Nat.zero_le _) rfl (ar _) ?_
 intro i hi
 (conv=>arg 2;simp only [List.cons_append,List.nil_append])
 by_cases h:i<l.length
 ·have hci:=cm i h
  (repeat' ((try refine aw ?_);(conv=>arg 4;whnf);first | refine az ?_ |(refine sN ?_;intro b)| exact ax | fail));(all_goals refine av ?_)
  exact a5 (i+1) rfl h (ar _) (by omega)
 ·(repeat' ((try refine aw ?_);(conv=>arg 4;whnf);first | refine az ?_ |(refine sN ?_;intro b)| exact ax | fail));(all_goals refine av ?_)
theorem Ew {a:SAlo} {l:List UInt64} {s:Nat} (h:AOk a l) (hs:s<l.length):Zp Tryz.prog 248 [vA (aW a),vI s] [] [Sl cQ a.Counters.1 a.Counters.2.1 a.Counters.2.2 l] Unit (fun _=>True) (fun _=>vI 0) (fun _=> []) (fun _=> []):=by
 refine ak fun G=> ?_
 refine aS 0 ?_
 intro hn hc hm ha
 (repeat' ((try refine aw ?_);(conv=>arg 4;whnf);first | refine az ?_ |(refine sN ?_;intro b)|(refine aA (BF h) ?_;intro x hx;refine aH ?_)| exact ax | fail));(all_goals refine av ?_)
theorem EY {a:SAlo} {l:List UInt64} (h8:l.length≤8):Zp Tryz.prog 249 [vA (aW a)] [] [Sl cQ a.Counters.1 a.Counters.2.1 a.Counters.2.2 l] Nat (fun _=>True) (fun b=>vA (aW {a with Counters:=(some ⟨b,0,none⟩,l.length,l.length)})) (fun b=> [iB b (l.flatMap cQ) 24]) (fun _=> []):=by
 obtain ⟨⟨ca,cn,cc⟩,mk,lm,rs⟩:=a
 refine ak fun G=> ?_
 refine aS 0 ?_
 intro hn hc hm ha
 dsimp only at hn hc hm ha
 subst hn
 (repeat' ((try refine aw ?_);(conv=>arg 4;whnf);first | refine az ?_ |(refine sN ?_;intro b)| fail));(all_goals refine av ?_)
 exact aD b True.intro rfl (by ((repeat' (first | exact am _ | refine aE ?_ ?_ | fail))<;>(try with_reducible rfl));all_goals (rw [Nat.min_self,List.take_length]))
theorem H1 {s lm rs:Nat} (h:AOk ⟨(none,s,s),0,lm,rs⟩ (List.replicate s 0)):Zp Tryz.prog 64 [vI s, .int .u64 ((lm:Nat):Int), .int .u64 ((rs:Nat):Int)] [] [] Nat (fun _=>True) (fun b=> .tuple #[vA (aW ⟨(some ⟨b,0,none⟩,s,s),0,lm,rs⟩),vI 0]) (fun _=> []) (fun b=> [Sl cQ (some ⟨b,0,none⟩) s s (List.replicate s 0)]):=by
 have h1:=h.l1
 have h8:=h.l8
 rw [List.length_replicate] at h1 h8
 have hA:∀b,AOk ⟨(some ⟨b,0,none⟩,s,s),0,lm,rs⟩ (List.replicate s 0):=fun b=>⟨h.l1,h.l8,h.ml,h.r1,h.r2,h.rl,h.lm,h.cm⟩
 refine ak fun G=> ?_
 (repeat' ((try refine aw ?_);(conv=>arg 4;whnf);first | refine az ?_ |(refine sN ?_;intro b)|(refine aA (BF (hA _)) ?_;intro x hx;refine aH ?_)| fail));(all_goals refine av ?_)
 rename_i cb
 refine eK cb s s ?_
 exact aD cb True.intro rfl (am _) bu
def jT (s:Nat) (c:UInt64) (h:s<4294967296):Non:=⟨s,c.toNat,h,c.toNat_lt⟩
theorem FJ {a:SAlo} {l:List UInt64} {s:Nat} (h:AOk a l) (hs:s<l.length) (hs2:s<4294967296) (hlt:(l.getD s default).toNat<a.Mark):Zp Tryz.prog 182 [vA (aW a),vI s] [] [Sl cQ a.Counters.1 a.Counters.2.1 a.Counters.2.2 l] Nat (fun _=>True) (fun b=> .tuple #[vA (br (jT s (l.getD s default) hs2)),vA (aW {a with Counters:=(some ⟨b,0,none⟩,l.length,l.length)}),vI 0]) (fun _=> []) (fun b=> [Sl cQ (some ⟨b,0,none⟩) l.length l.length (l.set s (l.getD s default+1))]):=by
 have hc0:=Ew h hs
 have h8:=h.l8
 have ho:=EY (a:=a) h8
 obtain ⟨⟨ca,cn,cc⟩,mk,lm,rs⟩:=a
 obtain ⟨h1,h8',ml,r1,r2,rl,lm',cm⟩:=h
 dsimp only at*
 have i1:Nu 4294967296 ((s:Nat):Int) s:=⟨rfl,hs2⟩
 refine ak fun G=> ?_
 refine aS 0 ?_
 intro hn hc hm ha
 obtain ⟨sb,o,rfl⟩:=ha (by omega) (by decide)
 (repeat' ((try refine aw ?_);(conv=>arg 4;whnf);first | refine az ?_ |(refine sN ?_;intro b)|((first | refine aA hc0 ?_ | refine aA ho ?_);intro x hx;refine aH ?_)| fail));(all_goals refine av ?_)
 try rw [show (UInt64.ofNat 1:UInt64)=1 from rfl]
 refine eK x l.length l.length ?_
 exact aD x True.intro rfl (am _) bu
theorem GE {a:SAlo} {l:List UInt64} {s:Nat} (h:AOk a l) (hs:s<l.length) (hlt:(l.getD s default).toNat=a.Mark):Zp Tryz.prog 182 [vA (aW a),vI s] [] [Sl cQ a.Counters.1 a.Counters.2.1 a.Counters.2.2 l] Unit (fun _=>True) (fun b=> .tuple #[vA (br Non.zero),vA (aW SAlo.zero),vI 10]) (fun _=> []) (fun _=> []):=by
 have hc0:=Ew h hs
 obtain ⟨⟨ca,cn,cc⟩,mk,lm,rs⟩:=a
 obtain ⟨h1,h8',ml,r1,r2,rl,lm',cm⟩:=h
 dsimp only at*
 refine ak fun G=> ?_
 refine aS 0 ?_
 intro hn hc hm ha
 obtain ⟨sb,o,rfl⟩:=ha (by omega) (by decide)
 (repeat' ((try refine aw ?_);(conv=>arg 4;whnf);first | refine az ?_ |(refine sN ?_;intro b)|(refine aA hc0 ?_;intro x hx;refine aH ?_)| exact ax | fail));(all_goals refine av ?_)
theorem Id {a:SAlo} {l:List UInt64} (h:AOk a l) (hr:a.Mark+a.Reserve≤a.Limit):Zp Tryz.prog 183 [vA (aW a)] [] [Sl cQ a.Counters.1 a.Counters.2.1 a.Counters.2.2 l] Nat (fun _=>True) (fun b=> .tuple #[vA (aW {a with Counters:=(some ⟨b,0,none⟩,l.length,l.length),Mark:=a.Mark+a.Reserve}),vI 0]) (fun _=> []) (fun b=> [Sl cQ (some ⟨b,0,none⟩) l.length l.length l]):=by
 have hc0:=BF h
 have h8:=h.l8
 have ho:=EY (a:=a) h8
 obtain ⟨⟨ca,cn,cc⟩,mk,lm,rs⟩:=a
 obtain ⟨h1,h8',ml,r1,r2,rl,lm',cm⟩:=h
 dsimp only at*
 refine ak fun G=> ?_
 refine aS 0 ?_
 intro hn hc hm ha
 obtain ⟨sb,o,rfl⟩:=ha (by omega) (by decide)
 (repeat' ((try refine aw ?_);(conv=>arg 4;whnf);first | refine az ?_ |(refine sN ?_;intro b)|((first | refine aA hc0 ?_ | refine aA ho ?_);intro x hx;refine aH ?_)| fail));(all_goals refine av ?_)
 refine eK x l.length l.length ?_
 exact aD x True.intro rfl (am _) bu
end Go.Proofs.YtbobhnldhpjdlaaGreatDoor
namespace Go.Proofs.YtbobhnldhpjdlaaGreatDoor
open Go Go.RowKit Go.Cs Go.Cz
set_option maxRecDepth 100000
set_option maxHeartbeats 1000000
theorem BU {y:Rec} (h:bS y=0):Zp Tryz.prog 244 [vA (bY y)] [] [] Nat (fun _=>True) (fun b=> .tuple #[.slice (some ⟨b,0,none⟩) 45 45,vI 0]) (fun b=> [iB b (bE (ga y)) 5]) (fun _=> []):=by
 refine ak fun G=> ?_
 have hc:=nB (x:=y)
 rw [h] at hc
 have hn:=d4 y.non
 have e: [[UInt8.ofNat y.st],eA y.non,y.tag.l].flatten=ga y:=by simp [ga]
 have hl:=fe y
 have hle: [[UInt8.ofNat y.st],eA y.non,y.tag.l].flatten.length≤1099511627776:=by rw [e,hl];decide
 (repeat' ((try refine aw ?_);(conv=>arg 4;whnf);first | refine az ?_ |(refine sN ?_;intro b)|((first | refine aA hc ?_ | refine aA oZ ?_ | refine aA (i7 (ls:= [[UInt8.ofNat y.st],eA y.non,y.tag.l]) hle) ?_);intro x hx;refine aH ?_)| refine af ?_ ?_ | fail));(all_goals refine av ?_)
 all_goals refine aD x True.intro (by rw [e,hl];rfl) ?_
 all_goals rw [e]
 ·((repeat' (first | exact am _ | refine aE ?_ ?_ | fail))<;>(try with_reducible rfl))
 ·((repeat' (first | exact am _ | refine aE ?_ ?_ | fail))<;>(try with_reducible rfl))
theorem AN {y:Ent} (h:dK y=0):Zp Tryz.prog 247 [vA (c6 y)] [] [] Nat (fun _=>True) (fun b=> .tuple #[.slice (some ⟨b,0,none⟩) 33 33,vI 0]) (fun b=> [iB b (bE (gP y)) 5]) (fun _=> []):=by
 refine ak fun G=> ?_
 have hc:=Dy (x:=y)
 rw [h] at hc
 have e: [[UInt8.ofNat y.st],y.dg.l].flatten=gP y:=by simp [gP]
 have hl:=eZ y
 have hle: [[UInt8.ofNat y.st],y.dg.l].flatten.length≤1099511627776:=by rw [e,hl];decide
 (repeat' ((try refine aw ?_);(conv=>arg 4;whnf);first | refine az ?_ |(refine sN ?_;intro b)|((first | refine aA hc ?_ | refine aA (i7 (ls:= [[UInt8.ofNat y.st],y.dg.l]) hle) ?_);intro x hx;refine aH ?_)| fail));(all_goals refine av ?_)
 refine aD x True.intro (by rw [e,hl];rfl) ?_
 rw [e];((repeat' (first | exact am _ | refine aE ?_ ?_ | fail))<;>(try with_reducible rfl))
theorem kt {st:Nat} (h:st≤2) (h0:st≠0):Zp Tryz.prog 140 [.int .u8 ((st:Nat):Int)] [] [] Unit (fun _=>True) (fun _=> .tuple #[vI (st-1),vI 0]) (fun _=> []) (fun _=> []):=by
 refine ak fun G=> ?_
 rcases (show st=1∨st=2 by omega) with rfl | rfl
 ·(repeat' ((try refine aw ?_);(conv=>arg 4;whnf);first | refine az ?_ | exact ax | fail));(all_goals refine av ?_)
 ·(repeat' ((try refine aw ?_);(conv=>arg 4;whnf);first | refine az ?_ | exact ax | fail));(all_goals refine av ?_)
theorem DW:Zp Tryz.prog 140 [.int .u8 ((0:Nat):Int)] [] [] Unit (fun _=>True) (fun _=> .tuple #[vI 0,vI 11]) (fun _=> []) (fun _=> []):=by
 refine ak fun G=> ?_
 (repeat' ((try refine aw ?_);(conv=>arg 4;whnf);first | refine az ?_ | exact ax | fail));(all_goals refine av ?_)
theorem vN {t:Nat} (h:t≤1):Zp Tryz.prog 294 [vI t] [] [] Unit (fun _=>True) (fun _=> .tuple #[.int .u8 ((t+1:Nat):Int),vI 0]) (fun _=> []) (fun _=> []):=by
 refine ak fun G=> ?_
 rcases (show t=0∨t=1 by omega) with rfl | rfl
 ·(repeat' ((try refine aw ?_);(conv=>arg 4;whnf);first | refine az ?_ | exact ax | fail));(all_goals refine av ?_)
 ·(repeat' ((try refine aw ?_);(conv=>arg 4;whnf);first | refine az ?_ | exact ax | fail));(all_goals refine av ?_)
end Go.Proofs.YtbobhnldhpjdlaaGreatDoor
namespace Go.Proofs.YtbobhnldhpjdlaaGreatDoor
open Go Go.RowKit Go.Cs Go.Cz
set_option maxRecDepth 100000
set_option maxHeartbeats 1000000
theorem po {n:Nat} (h:n<256):Zp Tryz.prog 240 [.int .u8 ((n:Nat):Int)] [] [] Unit (fun _=>True) (fun _=>vI (min n 1)) (fun _=> []) (fun _=> []):=by
 refine ak fun G=> ?_
 (repeat' ((try refine aw ?_);(conv=>arg 4;whnf);first | refine az ?_ | exact ax | fail));(all_goals refine av ?_)
theorem EM {x:R4}:Zp Tryz.prog 242 [vA (kT x), .func (.func 153) #[] #[]] [] [] Unit (fun _=>True) (fun _=>vI (lz x)) (fun _=> []) (fun _=> []):=by
 refine ak fun G=> ?_
 (repeat' ((try refine aw ?_);(conv=>arg 4;whnf);first | refine az ?_ |(refine sN ?_;intro b)| fail));(all_goals refine av ?_)
 refine cN (X:=Nat) (fun i=> [(4,vI 0),(9,vI i)]) (fun i=>i≤4∧∀k,k<i→bS (x.get k)=0) (fun i=> []) (fun i=>4-i) 0 ⟨Nat.zero_le _,fun k h=>absurd h (Nat.not_lt_zero _)⟩ rfl (am _) ?_
 rintro i ⟨hi,hz⟩
 by_cases h:i<4
 ·by_cases hc:bS (x.l.getD i default)=0
  ·(repeat' ((try refine aw ?_);(conv=>arg 4;whnf);first | refine az ?_ |(refine sN ?_;intro b)|(refine aA nB ?_;intro x hx;refine aH ?_)| fail));(all_goals refine av ?_)
   refine a5 (i+1) rfl ⟨h,fun k hk=> ?_⟩ (am _) (by omega)
   rcases Nat.lt_succ_iff_lt_or_eq.1 hk with g | rfl
   ·exact hz k g
   ·exact hc
  ·(repeat' ((try refine aw ?_);(conv=>arg 4;whnf);first | refine az ?_ |(refine sN ?_;intro b)|(refine aA nB ?_;intro x hx;refine aH ?_)| fail));(all_goals refine av ?_)
   exact aD () True.intro (by rw [←tP h hc];rfl) (am _)
 ·have e:lz x=0:=aZ.2 fun k hk=>hz k (by omega)
  (repeat' ((try refine aw ?_);(conv=>arg 4;whnf);first | refine az ?_ |(refine sN ?_;intro b)| fail));(all_goals refine av ?_)
  exact aD () True.intro (by rw [e];rfl) (am _)
theorem Ec {x:E4}:Zp Tryz.prog 245 [vA (kO x), .func (.func 293) #[] #[]] [] [] Unit (fun _=>True) (fun _=>vI (mL x)) (fun _=> []) (fun _=> []):=by
 refine ak fun G=> ?_
 (repeat' ((try refine aw ?_);(conv=>arg 4;whnf);first | refine az ?_ |(refine sN ?_;intro b)| fail));(all_goals refine av ?_)
 refine cN (X:=Nat) (fun i=> [(4,vI 0),(9,vI i)]) (fun i=>i≤4∧∀k,k<i→dK (x.get k)=0) (fun i=> []) (fun i=>4-i) 0 ⟨Nat.zero_le _,fun k h=>absurd h (Nat.not_lt_zero _)⟩ rfl (am _) ?_
 rintro i ⟨hi,hz⟩
 by_cases h:i<4
 ·by_cases hc:dK (x.l.getD i default)=0
  ·(repeat' ((try refine aw ?_);(conv=>arg 4;whnf);first | refine az ?_ |(refine sN ?_;intro b)|(refine aA Dy ?_;intro x hx;refine aH ?_)| fail));(all_goals refine av ?_)
   refine a5 (i+1) rfl ⟨h,fun k hk=> ?_⟩ (am _) (by omega)
   rcases Nat.lt_succ_iff_lt_or_eq.1 hk with g | rfl
   ·exact hz k g
   ·exact hc
  ·(repeat' ((try refine aw ?_);(conv=>arg 4;whnf);first | refine az ?_ |(refine sN ?_;intro b)|(refine aA Dy ?_;intro x hx;refine aH ?_)| fail));(all_goals refine av ?_)
   exact aD () True.intro (by rw [←ss h hc];rfl) (am _)
 ·have e:mL x=0:=aZ.2 fun k hk=>hz k (by omega)
  (repeat' ((try refine aw ?_);(conv=>arg 4;whnf);first | refine az ?_ |(refine sN ?_;intro b)| fail));(all_goals refine av ?_)
  exact aD () True.intro (by rw [e];rfl) (am _)
theorem BV {x:Nod}:Zp Tryz.prog 239 [vA (aU x)] [] [] Unit (fun _=>True) (fun _=>vI (bA x)) (fun _=> []) (fun _=> []):=by
 refine ak fun G=> ?_
 by_cases h5:5<x.lv
 ·rw [show bA x=1 from if_pos h5]
  (repeat' ((try refine aw ?_);(conv=>arg 4;whnf);first | refine az ?_ |(refine sN ?_;intro b)|(refine au ?_ ?_<;>intro h<;>try contradiction)| exact ax | fail));(all_goals refine av ?_)
 by_cases h0:x.lv=0
 ·by_cases hz:x.es=E4.zero
  ·rw [show bA x=lz x.rs by rw [bA,if_neg h5,if_pos h0,if_pos ((E4.eqb_iff _ _).2 hz)]]
   (repeat' ((try refine aw ?_);(conv=>arg 4;whnf);first | refine az ?_ |(refine sN ?_;intro b)|(refine au ?_ ?_<;>intro h<;>try contradiction)|(refine aA EM ?_;intro x hx;refine aH ?_)| exact ax | fail));(all_goals refine av ?_)
  ·rw [show bA x=1 by rw [bA,if_neg h5,if_pos h0,if_neg (fun g=>hz ((E4.eqb_iff _ _).1 g))]]
   (repeat' ((try refine aw ?_);(conv=>arg 4;whnf);first | refine az ?_ |(refine sN ?_;intro b)|(refine au ?_ ?_<;>intro h<;>try contradiction)|(refine aA EM ?_;intro x hx;refine aH ?_)| exact ax | fail));(all_goals refine av ?_)
 ·by_cases hz:x.rs=R4.zero
  ·rw [show bA x=mL x.es by rw [bA,if_neg h5,if_neg h0,if_pos ((R4.eqb_iff _ _).2 hz)]]
   (repeat' ((try refine aw ?_);(conv=>arg 4;whnf);first | refine az ?_ |(refine sN ?_;intro b)|(refine au ?_ ?_<;>intro h<;>try contradiction)|(refine aA Ec ?_;intro x hx;refine aH ?_)| exact ax | fail));(all_goals refine av ?_)
  ·rw [show bA x=1 by rw [bA,if_neg h5,if_neg h0,if_neg (fun g=>hz ((R4.eqb_iff _ _).1 g))]]
   (repeat' ((try refine aw ?_);(conv=>arg 4;whnf);first | refine az ?_ |(refine sN ?_;intro b)|(refine au ?_ ?_<;>intro h<;>try contradiction)|(refine aA Ec ?_;intro x hx;refine aH ?_)| exact ax | fail));(all_goals refine av ?_)
theorem pJ {x:Nod}:Zp Tryz.prog 325 [vA (aU x)] [] [] Unit (fun _=>True) (fun _=>vI (usd x 4)) (fun _=> []) (fun _=> []):=by
 refine ak fun G=> ?_
 (repeat' ((try refine aw ?_);(conv=>arg 4;whnf);first | refine az ?_ |(refine sN ?_;intro b)| exact ax | fail));(all_goals refine av ?_)
 refine cN (X:=Nat) (fun i=> [(3,vI (usd x i)),(5,vI i)]) (fun i=>i≤4) (fun i=> [iB b (aU x) 217]) (fun i=>4-i) 0 (Nat.zero_le _) rfl ?_ ?_
 ·((repeat' (first | with_reducible exact ar _ | exact am _ | fail))<;>(try with_reducible rfl))
 intro i hi
 have hu:=pA x i
 by_cases h:i<4
 ·by_cases h0:x.lv=0
  ·by_cases hs:(x.rs.l.getD i default).st=0
   ·have e:usd x (i+1)=usd x i:=by rw [usd,if_pos h0,if_pos (show (x.rs.get i).st=0 from hs)];rfl
    (repeat' ((try refine aw ?_);(conv=>arg 4;whnf);first | refine az ?_ |(refine sN ?_;intro b)| exact ax | fail));(all_goals refine av ?_)
    exact a5 (i+1) (by rw [e];rfl) (by omega) (by ((repeat' (first | with_reducible exact ar _ | exact am _ | fail))<;>(try with_reducible rfl))) (by omega)
   ·have e:usd x (i+1)=usd x i+1:=by rw [usd,if_pos h0,if_neg (show ¬(x.rs.get i).st=0 from hs)]
    (repeat' ((try refine aw ?_);(conv=>arg 4;whnf);first | refine az ?_ |(refine sN ?_;intro b)| exact ax | fail));(all_goals refine av ?_)
    exact a5 (i+1) (by rw [e];rfl) (by omega) (by ((repeat' (first | with_reducible exact ar _ | exact am _ | fail))<;>(try with_reducible rfl))) (by omega)
  ·by_cases hs:(x.es.l.getD i default).st=0
   ·have e:usd x (i+1)=usd x i:=by rw [usd,if_neg h0,if_pos (show (x.es.get i).st=0 from hs)];rfl
    (repeat' ((try refine aw ?_);(conv=>arg 4;whnf);first | refine az ?_ |(refine sN ?_;intro b)| exact ax | fail));(all_goals refine av ?_)
    exact a5 (i+1) (by rw [e];rfl) (by omega) (by ((repeat' (first | with_reducible exact ar _ | exact am _ | fail))<;>(try with_reducible rfl))) (by omega)
   ·have e:usd x (i+1)=usd x i+1:=by rw [usd,if_neg h0,if_neg (show ¬(x.es.get i).st=0 from hs)]
    (repeat' ((try refine aw ?_);(conv=>arg 4;whnf);first | refine az ?_ |(refine sN ?_;intro b)| exact ax | fail));(all_goals refine av ?_)
    exact a5 (i+1) (by rw [e];rfl) (by omega) (by ((repeat' (first | with_reducible exact ar _ | exact am _ | fail))<;>(try with_reducible rfl))) (by omega)
 ·obtain rfl:i=4:=by omega
  (repeat' ((try refine aw ?_);(conv=>arg 4;whnf);first | refine az ?_ |(refine sN ?_;intro b)| exact ax | fail));(all_goals refine av ?_)
end Go.Proofs.YtbobhnldhpjdlaaGreatDoor
namespace Go.Proofs.YtbobhnldhpjdlaaGreatDoor
open Go Go.RowKit Go.Cs Go.Cz
set_option maxRecDepth 100000
set_option maxHeartbeats 1000000
theorem wZ {lv ix:Nat} (h1:lv<256) (h2:ix<4294967296):Zp Tryz.prog 139 [.int .u8 ((lv:Nat):Int), .int .u32 ((ix:Nat):Int)] [] [] Unit (fun _=>True) (fun _=>vA (aU (Nod.mt lv ix))) (fun _=> []) (fun _=> []):=by
  refine ak fun G=> ?_
  have i1:Nu 256 ((lv:Nat):Int) lv:=⟨rfl,h1⟩
  have i2:Nu 4294967296 ((ix:Nat):Int) ix:=⟨rfl,h2⟩
  (repeat' ((try refine aw ?_);(conv=>arg 4;whnf);first | refine az ?_ |(refine sN ?_;intro b)| fail));(all_goals refine av ?_)
  exact aD () True.intro (by rw [←Nod.mt_eq h1 h2];rfl) (am _)
def kX (y:Nod) (i:Nat):List UInt8:=iZ y++fV ga y.rs.get i++List.replicate (180-45*i) 0
def kN (y:Nod) (i:Nat):List UInt8:=iZ y++fV gP y.es.get i++List.replicate (132-33*i) 0
theorem jk (y:Nod):(iZ y).length=5:=by simp [iZ]
theorem rF (y:Nod) (n:Nat) (h:5≤n):spl (spl (List.replicate n (0:UInt8)) 0 [UInt8.ofNat y.lv]) (0+1) (be y.ix 4)=iZ y++List.replicate (n-5) 0:=by
  obtain ⟨m,rfl⟩:∃m,n=m+5:=⟨n-5,by omega⟩
  have h4:(be y.ix 4).length=4:=by simp
  simp only [spl,List.take_zero,List.nil_append,List.length_singleton,List.drop_replicate,Nat.zero_add,h4]
  rw [show List.take 1 ([UInt8.ofNat y.lv]++List.replicate (m+5-1) 0)= [UInt8.ofNat y.lv] from rfl,List.drop_append,List.drop_replicate]
  simp [iZ]
theorem Gd (y:Nod):kX y 0=iZ y++List.replicate 180 0:=by simp [kX,fV]
theorem GH (y:Nod):kN y 0=iZ y++List.replicate 132 0:=by simp [kN,fV]
theorem zA (y:Nod) {i:Nat} (h:i≤4):(kX y i).length=185:=by simp [kX,jk,dU fe];omega
theorem yX (y:Nod) {i:Nat} (h:i≤4):(kN y i).length=137:=by simp [kN,jk,dU eZ];omega
theorem FI (y:Nod) (h:y.lv=0):kX y 4=aM y:=by simp [kX,aM,h]
theorem GU (y:Nod) (h:y.lv≠0):kN y 4=aM y:=by simp [kN,aM,h]
theorem yK (y:Nod) {i:Nat} (h:i<4):spl (kX y i) (5+45*i) (ga (y.rs.l.getD i default))=kX y (i+1):=by
  have h1:(iZ y++fV ga y.rs.get i).length=5+45*i:=by simp [jk,dU fe];omega
  have h2:(ga (y.rs.l.getD i default)).length=45:=fe _
  rw [spl,kX,List.take_left' h1,List.drop_append,List.drop_eq_nil_of_le (by rw [h1,h2];omega),List.nil_append,h1,h2,List.drop_replicate,kX,fV]
  rw [show 180-45*i-(5+45*i+45-(5+45*i))=180-45*(i+1) by omega]
  simp only [List.append_assoc];rfl
theorem yo (y:Nod) {i:Nat} (h:i<4):spl (kN y i) (5+33*i) (gP (y.es.l.getD i default))=kN y (i+1):=by
  have h1:(iZ y++fV gP y.es.get i).length=5+33*i:=by simp [jk,dU eZ];omega
  have h2:(gP (y.es.l.getD i default)).length=33:=eZ _
  rw [spl,kN,List.take_left' h1,List.drop_append,List.drop_eq_nil_of_le (by rw [h1,h2];omega),List.nil_append,h1,h2,List.drop_replicate,kN,fV]
  rw [show 132-33*i-(5+33*i+33-(5+33*i))=132-33*(i+1) by omega]
  simp only [List.append_assoc];rfl
theorem CE {y:Nod} {q:Value×Value} (h:bA y=0) (h0:y.lv=0):Zp Tryz.prog 181 [vA (aU y)] [] [Gs q] Nat (fun _=>True) (fun b=> .tuple #[.slice (some ⟨b,0,none⟩) (dx y) (dx y),vI 0]) (fun b=> [iB b (bE (aM y)) 5]) (fun _=> []):=by
  refine ak fun G=> ?_
  have hck:=BV (x:=y)
  rw [h] at hck
  have hlv:=gG h
  have hkd:=po y.hlv
  have hix:y.ix<4294967296:=y.hix
  have g0:([45,33]:List Nat).getD 0 default=45:=rfl
  have g1:([45,33]:List Nat).getD 1 default=33:=rfl
  have hR:∀i,i<4→bS (y.rs.l.getD i default)=0:=fun i hi=>aZ.1 (gA h h0) i hi
  have hb0:List.flatMap cB (spl (spl (List.replicate (5+4* [45,33].getD 0 default) 0) 0 [UInt8.ofNat y.lv]) (0+1) (be y.ix 4))=bE (kX y 0):=by rw [Gd,bL,rF _ _ (by decide)];rfl
  rw [show min y.lv 1=0 by omega] at hkd
  (repeat' ((try refine aw ?_);(conv=>arg 4;whnf);first | refine aO ?_ |(refine sN ?_;intro b)|((first | refine aA hck ?_ | refine aA hkd ?_ | refine aA (jI (v:=y.ix) hix) ?_);intro x hx;refine aH ?_)| refine ae ?_ | fail));(all_goals refine av ?_)
  rename_i mb cb
  refine dH [mb] rfl ?_
  (repeat' ((try refine aw ?_);(conv=>arg 4;whnf);first | refine aO ?_ |(refine sN ?_;intro b)|(refine aA (jI (v:=y.ix) hix) ?_;intro x hx;refine aH ?_)| refine ae ?_ | fail));(all_goals refine av ?_)
  all_goals rw [hb0]
  all_goals refine dh [cb,mb] (X:=Nat) (fun i=> [(4,vI 0),(9,vI i)]) (fun i=>i≤4) (fun i=> [iB cb [.slice (some ⟨mb,0,none⟩) (5+45*i) 185] 55,iB mb (bE (kX y i)) 5]) (fun i=>4-i) 0 (Nat.zero_le _) rfl (by (((repeat' (first | with_reducible exact ar _ | exact am _ | refine aE ?_ ?_ | refine aG inferInstance ?_ | fail))<;>(try with_reducible rfl)))<;>rfl) ?_
  all_goals (intro i hi
             (conv=>arg 2;simp only [List.cons_append,List.nil_append])
             have hbl:=zA y hi
             by_cases h:i<4
             · have hc:=hR i h
               have hrl:=fe (y.rs.l.getD i default)
               have hst:5+45*(i+1)=5+45*i+45:=by omega
               (repeat' ((try refine aw ?_);(conv=>arg 4;whnf);first | refine aO ?_ |(refine sN ?_;intro b)|(refine aA (BU hc) ?_;intro x hx;refine aH ?_)| refine ae ?_ | fail));(all_goals refine av ?_)
               refine dH [mb,cb] rfl ?_
               (repeat' ((try refine aw ?_);(conv=>arg 4;whnf);first | refine az ?_ |(refine sN ?_;intro b)|(refine aA (BU hc) ?_;intro x hx;refine aH ?_)| refine ae ?_ | fail));(all_goals refine av ?_)
               all_goals refine a5 (i+1) rfl (by omega) ?_ (by omega)
               all_goals rw [hst,←yK y h]
               all_goals ((repeat' (first | with_reducible exact ar _ | exact am _ | refine aE ?_ ?_ | refine aG inferInstance ?_ | fail))<;>(try with_reducible rfl))
             · obtain rfl:i=4:=by omega
               rw [FI y h0]
               (repeat' ((try refine aw ?_);(conv=>arg 4;whnf);first | refine az ?_ |(refine sN ?_;intro b)| refine ae ?_ | fail));(all_goals refine av ?_)
               refine aD mb True.intro ?_ ?_
               · rw [dx];first |(rw [if_pos h0];rfl)|(rw [if_neg h0];rfl)
               · ((repeat' (first | with_reducible exact ar _ | exact am _ | refine aE ?_ ?_ | refine aG inferInstance ?_ | fail))<;>(try with_reducible rfl)))
theorem DD {y:Nod} {q:Value×Value} (h:bA y=0) (h0:¬y.lv=0):Zp Tryz.prog 181 [vA (aU y)] [] [Gs q] Nat (fun _=>True) (fun b=> .tuple #[.slice (some ⟨b,0,none⟩) (dx y) (dx y),vI 0]) (fun b=> [iB b (bE (aM y)) 5]) (fun _=> []):=by
  refine ak fun G=> ?_
  have hck:=BV (x:=y)
  rw [h] at hck
  have hlv:=gG h
  have hkd:=po y.hlv
  have hix:y.ix<4294967296:=y.hix
  have g0:([45,33]:List Nat).getD 0 default=45:=rfl
  have g1:([45,33]:List Nat).getD 1 default=33:=rfl
  have hE:∀i,i<4→dK (y.es.l.getD i default)=0:=fun i hi=>aZ.1 (jy h h0) i hi
  have hb0:List.flatMap cB (spl (spl (List.replicate (5+4*33) 0) 0 [UInt8.ofNat y.lv]) (0+1) (be y.ix 4))=bE (kN y 0):=by rw [GH,bL,rF _ _ (by decide)]
  rw [show min y.lv 1=1 by omega] at hkd
  (repeat' ((try refine aw ?_);(conv=>arg 4;whnf);first | refine aO ?_ |(refine sN ?_;intro b)|((first | refine aA hck ?_ | refine aA hkd ?_ | refine aA (jI (v:=y.ix) hix) ?_);intro x hx;refine aH ?_)| refine ae ?_ | fail));(all_goals refine av ?_)
  rename_i mb cb
  refine dH [mb] rfl ?_
  (repeat' ((try refine aw ?_);(conv=>arg 4;whnf);first | refine aO ?_ |(refine sN ?_;intro b)|(refine aA (jI (v:=y.ix) hix) ?_;intro x hx;refine aH ?_)| refine ae ?_ | fail));(all_goals refine av ?_)
  all_goals rw [hb0]
  all_goals refine dh [cb,mb] (X:=Nat) (fun i=> [(4,vI 0),(9,vI i)]) (fun i=>i≤4) (fun i=> [iB cb [.slice (some ⟨mb,0,none⟩) (5+33*i) 137] 55,iB mb (bE (kN y i)) 5]) (fun i=>4-i) 0 (Nat.zero_le _) rfl (by (((repeat' (first | with_reducible exact ar _ | exact am _ | refine aE ?_ ?_ | refine aG inferInstance ?_ | fail))<;>(try with_reducible rfl)))<;>rfl) ?_
  all_goals (intro i hi
             (conv=>arg 2;simp only [List.cons_append,List.nil_append])
             have hbl:=yX y hi
             by_cases h:i<4
             · have hc:=hE i h
               have hrl:=eZ (y.es.l.getD i default)
               have hst:5+33*(i+1)=5+33*i+33:=by omega
               (repeat' ((try refine aw ?_);(conv=>arg 4;whnf);first | refine aO ?_ |(refine sN ?_;intro b)|(refine aA (AN hc) ?_;intro x hx;refine aH ?_)| refine ae ?_ | fail));(all_goals refine av ?_)
               refine dH [mb,cb] rfl ?_
               (repeat' ((try refine aw ?_);(conv=>arg 4;whnf);first | refine az ?_ |(refine sN ?_;intro b)|(refine aA (AN hc) ?_;intro x hx;refine aH ?_)| refine ae ?_ | fail));(all_goals refine av ?_)
               all_goals refine a5 (i+1) rfl (by omega) ?_ (by omega)
               all_goals rw [hst,←yo y h]
               all_goals ((repeat' (first | with_reducible exact ar _ | exact am _ | refine aE ?_ ?_ | refine aG inferInstance ?_ | fail))<;>(try with_reducible rfl))
             · obtain rfl:i=4:=by omega
               rw [GU y h0]
               (repeat' ((try refine aw ?_);(conv=>arg 4;whnf);first | refine az ?_ |(refine sN ?_;intro b)| refine ae ?_ | fail));(all_goals refine av ?_)
               refine aD mb True.intro ?_ ?_
               · rw [dx];first |(rw [if_pos h0];rfl)|(rw [if_neg h0];rfl)
               · ((repeat' (first | with_reducible exact ar _ | exact am _ | refine aE ?_ ?_ | refine aG inferInstance ?_ | fail))<;>(try with_reducible rfl)))
theorem oE {y:Nod} {q:Value×Value} (h:bA y=0):Zp Tryz.prog 181 [vA (aU y)] [] [Gs q] Nat (fun _=>True) (fun b=> .tuple #[.slice (some ⟨b,0,none⟩) (dx y) (dx y),vI 0]) (fun b=> [iB b (bE (aM y)) 5]) (fun _=> []):=by
  by_cases h0:y.lv=0
  · exact CE h h0
  · exact DD h h0
end Go.Proofs.YtbobhnldhpjdlaaGreatDoor
namespace Go.Proofs.YtbobhnldhpjdlaaGreatDoor
open Go Go.RowKit Go.Cs Go.Cz
set_option maxRecDepth 100000
set_option maxHeartbeats 1000000
theorem E9 {a:Option Addr} {n c:Nat} {l:List UInt8} (hl:l.length=33):Zp Tryz.prog 323 [.slice a n c] [] [Sl cB a n c l] Unit (fun _=>True) (fun _=> .tuple #[vA (c6 (if dK (Ent.of l)=0 then Ent.of l else Ent.zero)),vI (dK (Ent.of l))]) (fun _=> []) (fun _=> []):=by
 refine ak fun G=> ?_
 refine aS 0 ?_
 intro hn hc hm ha
 obtain rfl:n=33:=by omega
 obtain ⟨b,o,rfl⟩:=ha (by omega) (by decide)
 have hz:∀(e:Nat),e=dK (Ent.of l)→Zp Tryz.prog 293 [vA (c6 (Ent.of l))] [] [] Unit (fun _=>True) (fun _=>vI e) (fun _=> []) (fun _=> []):=fun e he=>by rw [he];exact Dy
 rcases iW (Ent.of l) with h0 | h0
 ·rw [if_pos h0,h0]
  rcases (show c=33∨33<c by omega) with rfl | hc2
  ·(repeat' ((try refine aw ?_);(conv=>arg 4;whnf);first | refine az ?_ |(refine sN ?_;intro b)|(refine aA (hz 0 h0.symm) ?_;intro x hx;refine aH ?_)| refine ae ?_ | exact ax | fail));(all_goals refine av ?_)
  ·(repeat' ((try refine aw ?_);(conv=>arg 4;whnf);first | refine az ?_ |(refine sN ?_;intro b)|(refine aA (hz 0 h0.symm) ?_;intro x hx;refine aH ?_)| refine ae ?_ | exact ax | fail));(all_goals refine av ?_)
 ·rw [if_neg (by omega),h0]
  rcases (show c=33∨33<c by omega) with rfl | hc2
  ·(repeat' ((try refine aw ?_);(conv=>arg 4;whnf);first | refine az ?_ |(refine sN ?_;intro b)|(refine aA (hz 1 h0.symm) ?_;intro x hx;refine aH ?_)| refine ae ?_ | exact ax | fail));(all_goals refine av ?_)
  ·(repeat' ((try refine aw ?_);(conv=>arg 4;whnf);first | refine az ?_ |(refine sN ?_;intro b)|(refine aA (hz 1 h0.symm) ?_;intro x hx;refine aH ?_)| refine ae ?_ | exact ax | fail));(all_goals refine av ?_)
end Go.Proofs.YtbobhnldhpjdlaaGreatDoor
namespace Go.Proofs.YtbobhnldhpjdlaaGreatDoor
open Go Go.RowKit Go.Cs Go.Cz
set_option maxRecDepth 100000
set_option maxHeartbeats 1000000
theorem C6 {a:Option Addr} {n c:Nat} {l:List UInt8} (hl:l.length=45) (h0:bS (Rec.of l)=0) (hc1:c=45):Zp Tryz.prog 322 [.slice a n c] [] [Sl cB a n c l] Unit (fun _=>True) (fun _=> .tuple #[vA (bY (if bS (Rec.of l)=0 then Rec.of l else Rec.zero)),vI (bS (Rec.of l))]) (fun _=> []) (fun _=> []):=by
 refine ak fun G=> ?_
 refine aS 0 ?_
 intro hn hc hm ha
 obtain rfl:n=45:=by omega
 obtain ⟨b,o,rfl⟩:=ha (by omega) (by decide)
 have h12:((l.drop 1).take 12).length=12:=by simp;omega
 have hz:Zp Tryz.prog 153 [vA (bY (Rec.of l))] [] [] Unit (fun _=>True) (fun _=>vI 0) (fun _=> []) (fun _=> []):=by rw [←h0];exact nB
 refine aR (Sl cB (some ⟨b,o+1*1+12*1,none⟩) 32 32 ((l.drop 13).take 32)) (fun w _ h=>o5 (h _ (.head _)) (by omega) (by omega) (by omega)) ?_
 rw [if_pos h0,h0]
 subst hc1
 (repeat' ((try refine aw ?_);(conv=>arg 4;whnf);first | refine aO ?_ |(refine sN ?_;intro b)|(refine aA (my (l:=(l.drop 1).take 12) h12) ?_;intro x hx;refine aH ?_)| refine ae ?_ | exact ax | refine af ?_ ?_ | fail));(all_goals refine av ?_)
 rename_i rb
 refine dH [rb] rfl ?_
 (repeat' ((try refine aw ?_);(conv=>arg 4;whnf);first | refine az ?_ |(refine sN ?_;intro b)|(refine aA hz ?_;intro x hx;refine aH ?_)| refine ae ?_ | exact ax | refine af ?_ ?_ | fail));(all_goals refine av ?_)
theorem CN {a:Option Addr} {n c:Nat} {l:List UInt8} (hl:l.length=45) (h0:bS (Rec.of l)=0) (hc1:45<c):Zp Tryz.prog 322 [.slice a n c] [] [Sl cB a n c l] Unit (fun _=>True) (fun _=> .tuple #[vA (bY (if bS (Rec.of l)=0 then Rec.of l else Rec.zero)),vI (bS (Rec.of l))]) (fun _=> []) (fun _=> []):=by
 refine ak fun G=> ?_
 refine aS 0 ?_
 intro hn hc hm ha
 obtain rfl:n=45:=by omega
 obtain ⟨b,o,rfl⟩:=ha (by omega) (by decide)
 have h12:((l.drop 1).take 12).length=12:=by simp;omega
 have hz:Zp Tryz.prog 153 [vA (bY (Rec.of l))] [] [] Unit (fun _=>True) (fun _=>vI 0) (fun _=> []) (fun _=> []):=by rw [←h0];exact nB
 refine aR (Sl cB (some ⟨b,o+1*1+12*1,none⟩) 32 32 ((l.drop 13).take 32)) (fun w _ h=>o5 (h _ (.head _)) (by omega) (by omega) (by omega)) ?_
 rw [if_pos h0,h0]
 (repeat' ((try refine aw ?_);(conv=>arg 4;whnf);first | refine aO ?_ |(refine sN ?_;intro b)|(refine aA (my (l:=(l.drop 1).take 12) h12) ?_;intro x hx;refine aH ?_)| refine ae ?_ | exact ax | refine af ?_ ?_ | fail));(all_goals refine av ?_)
 rename_i rb
 refine dH [rb] rfl ?_
 (repeat' ((try refine aw ?_);(conv=>arg 4;whnf);first | refine az ?_ |(refine sN ?_;intro b)|(refine aA hz ?_;intro x hx;refine aH ?_)| refine ae ?_ | exact ax | refine af ?_ ?_ | fail));(all_goals refine av ?_)
theorem Cl {a:Option Addr} {n c:Nat} {l:List UInt8} (hl:l.length=45) (h0:bS (Rec.of l)=1) (hc1:c=45):Zp Tryz.prog 322 [.slice a n c] [] [Sl cB a n c l] Unit (fun _=>True) (fun _=> .tuple #[vA (bY (if bS (Rec.of l)=0 then Rec.of l else Rec.zero)),vI (bS (Rec.of l))]) (fun _=> []) (fun _=> []):=by
 refine ak fun G=> ?_
 refine aS 0 ?_
 intro hn hc hm ha
 obtain rfl:n=45:=by omega
 obtain ⟨b,o,rfl⟩:=ha (by omega) (by decide)
 have h12:((l.drop 1).take 12).length=12:=by simp;omega
 have hz:Zp Tryz.prog 153 [vA (bY (Rec.of l))] [] [] Unit (fun _=>True) (fun _=>vI 1) (fun _=> []) (fun _=> []):=by rw [←h0];exact nB
 refine aR (Sl cB (some ⟨b,o+1*1+12*1,none⟩) 32 32 ((l.drop 13).take 32)) (fun w _ h=>o5 (h _ (.head _)) (by omega) (by omega) (by omega)) ?_
 rw [if_neg (by omega),h0]
 subst hc1
 (repeat' ((try refine aw ?_);(conv=>arg 4;whnf);first | refine aO ?_ |(refine sN ?_;intro b)|(refine aA (my (l:=(l.drop 1).take 12) h12) ?_;intro x hx;refine aH ?_)| refine ae ?_ | exact ax | refine af ?_ ?_ | fail));(all_goals refine av ?_)
 rename_i rb
 refine dH [rb] rfl ?_
 (repeat' ((try refine aw ?_);(conv=>arg 4;whnf);first | refine az ?_ |(refine sN ?_;intro b)|(refine aA hz ?_;intro x hx;refine aH ?_)| refine ae ?_ | exact ax | refine af ?_ ?_ | fail));(all_goals refine av ?_)
theorem DU {a:Option Addr} {n c:Nat} {l:List UInt8} (hl:l.length=45) (h0:bS (Rec.of l)=1) (hc1:45<c):Zp Tryz.prog 322 [.slice a n c] [] [Sl cB a n c l] Unit (fun _=>True) (fun _=> .tuple #[vA (bY (if bS (Rec.of l)=0 then Rec.of l else Rec.zero)),vI (bS (Rec.of l))]) (fun _=> []) (fun _=> []):=by
 refine ak fun G=> ?_
 refine aS 0 ?_
 intro hn hc hm ha
 obtain rfl:n=45:=by omega
 obtain ⟨b,o,rfl⟩:=ha (by omega) (by decide)
 have h12:((l.drop 1).take 12).length=12:=by simp;omega
 have hz:Zp Tryz.prog 153 [vA (bY (Rec.of l))] [] [] Unit (fun _=>True) (fun _=>vI 1) (fun _=> []) (fun _=> []):=by rw [←h0];exact nB
 refine aR (Sl cB (some ⟨b,o+1*1+12*1,none⟩) 32 32 ((l.drop 13).take 32)) (fun w _ h=>o5 (h _ (.head _)) (by omega) (by omega) (by omega)) ?_
 rw [if_neg (by omega),h0]
 (repeat' ((try refine aw ?_);(conv=>arg 4;whnf);first | refine aO ?_ |(refine sN ?_;intro b)|(refine aA (my (l:=(l.drop 1).take 12) h12) ?_;intro x hx;refine aH ?_)| refine ae ?_ | exact ax | refine af ?_ ?_ | fail));(all_goals refine av ?_)
 rename_i rb
 refine dH [rb] rfl ?_
 (repeat' ((try refine aw ?_);(conv=>arg 4;whnf);first | refine az ?_ |(refine sN ?_;intro b)|(refine aA hz ?_;intro x hx;refine aH ?_)| refine ae ?_ | exact ax | refine af ?_ ?_ | fail));(all_goals refine av ?_)
theorem FZ {a:Option Addr} {n c:Nat} {l:List UInt8} (hl:l.length=45):Zp Tryz.prog 322 [.slice a n c] [] [Sl cB a n c l] Unit (fun _=>True) (fun _=> .tuple #[vA (bY (if bS (Rec.of l)=0 then Rec.of l else Rec.zero)),vI (bS (Rec.of l))]) (fun _=> []) (fun _=> []):=by
 rcases Nat.lt_trichotomy c 45 with h | h | h
 ·refine ak fun G=> ?_
  refine aS 0 ?_
  intro hn hc hm ha
  exact absurd hc (by omega)
 ·rcases gK (Rec.of l) with h0 | h0
  ·exact C6 hl h0 h
  ·exact Cl hl h0 h
 ·rcases gK (Rec.of l) with h0 | h0
  ·exact CN hl h0 h
  ·exact DU hl h0 h
end Go.Proofs.YtbobhnldhpjdlaaGreatDoor
