/- Lemmas and walks: what each function does, by its own code. No condition beyond those of each statement. -/
import Derived.Test.YtbobhnldhpjdlaaGreatDoorP12
import Derived.Test.YtbobhnldhpjdlaaGreatDoorP18
set_option linter.all false
set_option linter.unusedVariables false
namespace Go.Proofs.YtbobhnldhpjdlaaGreatDoor
open Go Go.RowKit Go.Cs Go.Cz
set_option maxRecDepth 100000
set_option maxHeartbeats 1000000
structure AOk (a:SAlo) (l:List UInt64):Prop where
 l1:1≤l.length
 l8:l.length≤8
 ml:a.Mark≤a.Limit
 r1:1≤a.Reserve
 r2:a.Reserve≤4294967296
 rl:a.Reserve≤a.Limit
 lm:a.Limit<18446744073709551616
 cm:∀i,i<l.length→(l.getD i default).toNat≤a.Mark
theorem zP {a:SAlo} {l:List UInt64} (h:AOk a l):Zp Tryz.prog 177 [vA (a8 a)] [] [Sl cQ a.Counters.1 a.Counters.2.1 a.Counters.2.2 l] Unit (fun _=>True) (fun _=>vI 0) (fun _=> []) (fun _=> []):=by
 obtain ⟨⟨ca,cn,cc⟩,mk,lm,rs⟩:=a
 obtain ⟨h1,h8,ml,r1,r2,rl,lm',cm⟩:=h
 dsimp only at*
 refine an fun G=> ?_
 refine bc 0 ?_
 intro hn hc hm ha
 obtain ⟨sb,o,rfl⟩:=ha (by omega) (by decide)
 (repeat' ((try refine au ?_);(conv=>arg 4;whnf);first | refine ax ?_ |(refine sN ?_;intro b)|(refine sC ?_ ?_<;>intro h)|(refine ar ?_ ?_<;>intro h<;>try contradiction)|(refine aa ?_;intro g c')| refine ae ?_ | refine ai ?_ | exact aw |(refine ak rfl ?_;intro D lL)| refine ah ?_ ?_ | refine aj ?_ ?_ ?_ | fail));(all_goals refine av ?_)
 refine eA [] (X:=Nat) (fun i=> [(2,vI 0),(42,vI i)]) (fun i=>i≤l.length) (fun i=> []) (fun i=>l.length-i) 0 (Nat.zero_le _) rfl (am _) ?_
 intro i hi
 (conv=>arg 2;simp only [List.cons_append,List.nil_append])
 by_cases h:i<l.length
 ·have hci:=cm i h
  (repeat' ((try refine au ?_);(conv=>arg 4;whnf);first | refine ax ?_ |(refine sN ?_;intro b)|(refine sC ?_ ?_<;>intro h)|(refine ar ?_ ?_<;>intro h<;>try contradiction)|(refine aa ?_;intro g c')| refine ae ?_ | refine ai ?_ | exact aw |(refine ak rfl ?_;intro D lL)| refine ah ?_ ?_ | refine aj ?_ ?_ ?_ | fail));(all_goals refine av ?_)
  exact bj (i+1) rfl h (am _) (by omega)
 ·(repeat' ((try refine au ?_);(conv=>arg 4;whnf);first | refine ax ?_ |(refine sN ?_;intro b)|(refine sC ?_ ?_<;>intro h)|(refine ar ?_ ?_<;>intro h<;>try contradiction)|(refine aa ?_;intro g c')| refine ae ?_ | refine ai ?_ | exact aw |(refine ak rfl ?_;intro D lL)| refine ah ?_ ?_ | refine aj ?_ ?_ ?_ | fail));(all_goals refine av ?_)
theorem Ed {a:SAlo} {l:List UInt64} {s:Nat} (h:AOk a l) (hs:s<l.length):Zp Tryz.prog 248 [vA (a8 a),vI s] [] [Sl cQ a.Counters.1 a.Counters.2.1 a.Counters.2.2 l] Unit (fun _=>True) (fun _=>vI 0) (fun _=> []) (fun _=> []):=by
 refine an fun G=> ?_
 refine bc 0 ?_
 intro hn hc hm ha
 (repeat' ((try refine au ?_);(conv=>arg 4;whnf);first | refine ax ?_ |(refine sN ?_;intro b)|(refine sC ?_ ?_<;>intro h)|(refine ar ?_ ?_<;>intro h<;>try contradiction)|(refine aa ?_;intro g c')|(refine ay (zP h) ?_;intro x hx;refine aN ?_)| refine ae ?_ | refine ai ?_ | exact aw |(refine ak rfl ?_;intro D lL)| refine ah ?_ ?_ | refine aj ?_ ?_ ?_ | fail));(all_goals refine av ?_)
theorem Ej {a:SAlo} {l:List UInt64} (h8:l.length≤8):Zp Tryz.prog 249 [vA (a8 a)] [] [Sl cQ a.Counters.1 a.Counters.2.1 a.Counters.2.2 l] Nat (fun _=>True) (fun b=>vA (a8 {a with Counters:=(some ⟨b,0,none⟩,l.length,l.length)})) (fun b=> [iB b (l.flatMap cQ) 24]) (fun _=> []):=by
 obtain ⟨⟨ca,cn,cc⟩,mk,lm,rs⟩:=a
 refine an fun G=> ?_
 refine bc 0 ?_
 intro hn hc hm ha
 dsimp only at hn hc hm ha
 subst hn
 (repeat' ((try refine au ?_);(conv=>arg 4;whnf);first | refine ax ?_ |(refine sN ?_;intro b)|(refine sC ?_ ?_<;>intro h)|(refine ar ?_ ?_<;>intro h<;>try contradiction)|(refine aa ?_;intro g c')| refine ae ?_ | refine ai ?_ | exact aw |(refine ak rfl ?_;intro D lL)| refine ah ?_ ?_ | refine aj ?_ ?_ ?_ | fail));(all_goals refine av ?_)
 exact aG b True.intro rfl (by ((repeat' (first | with_reducible exact am _ | exact af _ | refine aB ?_ ?_ | refine aD inferInstance ?_ | refine aI ?_))<;>(try with_reducible rfl));all_goals (rw [Nat.min_self,List.take_length]))
theorem Iq {s lm rs:Nat} (h:AOk ⟨(none,s,s),0,lm,rs⟩ (List.replicate s 0)):Zp Tryz.prog 64 [vI s, .int .u64 ((lm:Nat):Int), .int .u64 ((rs:Nat):Int)] [] [] Nat (fun _=>True) (fun b=> .tuple #[vA (a8 ⟨(some ⟨b,0,none⟩,s,s),0,lm,rs⟩),vI 0]) (fun _=> []) (fun b=> [Sl cQ (some ⟨b,0,none⟩) s s (List.replicate s 0)]):=by
 have h1:=h.l1
 have h8:=h.l8
 rw [List.length_replicate] at h1 h8
 have hA:∀b,AOk ⟨(some ⟨b,0,none⟩,s,s),0,lm,rs⟩ (List.replicate s 0):=fun b=>⟨h.l1,h.l8,h.ml,h.r1,h.r2,h.rl,h.lm,h.cm⟩
 refine an fun G=> ?_
 (repeat' ((try refine au ?_);(conv=>arg 4;whnf);first | refine ax ?_ |(refine sN ?_;intro b)|(refine sC ?_ ?_<;>intro h)|(refine ar ?_ ?_<;>intro h<;>try contradiction)|(refine aa ?_;intro g c')|(refine ay (zP (hA _)) ?_;intro x hx;refine aN ?_)| refine ae ?_ | refine ai ?_ | exact aw |(refine ak rfl ?_;intro D lL)| refine ah ?_ ?_ | refine aj ?_ ?_ ?_ | fail));(all_goals refine av ?_)
 rename_i cb
 refine gh cb s s ?_
 exact aG cb True.intro rfl (af _) cR
def jc (s:Nat) (c:UInt64) (h:s<4294967296):Non:=⟨s,c.toNat,h,c.toNat_lt⟩
theorem GJ {a:SAlo} {l:List UInt64} {s:Nat} (h:AOk a l) (hs:s<l.length) (hs2:s<4294967296) (hlt:(l.getD s default).toNat<a.Mark):Zp Tryz.prog 182 [vA (a8 a),vI s] [] [Sl cQ a.Counters.1 a.Counters.2.1 a.Counters.2.2 l] Nat (fun _=>True) (fun b=> .tuple #[vA (cz (jc s (l.getD s default) hs2)),vA (a8 {a with Counters:=(some ⟨b,0,none⟩,l.length,l.length)}),vI 0]) (fun _=> []) (fun b=> [Sl cQ (some ⟨b,0,none⟩) l.length l.length (l.set s (l.getD s default+1))]):=by
 have hc0:=Ed h hs
 have h8:=h.l8
 have ho:=Ej (a:=a) h8
 obtain ⟨⟨ca,cn,cc⟩,mk,lm,rs⟩:=a
 obtain ⟨h1,h8',ml,r1,r2,rl,lm',cm⟩:=h
 dsimp only at*
 have i1:Nu 4294967296 ((s:Nat):Int) s:=⟨rfl,hs2⟩
 refine an fun G=> ?_
 refine bc 0 ?_
 intro hn hc hm ha
 obtain ⟨sb,o,rfl⟩:=ha (by omega) (by decide)
 (repeat' ((try refine au ?_);(conv=>arg 4;whnf);first | refine ax ?_ |(refine sN ?_;intro b)|(refine sC ?_ ?_<;>intro h)|(refine ar ?_ ?_<;>intro h<;>try contradiction)|(refine aa ?_;intro g c')|((first | refine ay hc0 ?_ | refine ay ho ?_);intro x hx;refine aN ?_)| refine ae ?_ | refine ai ?_ | exact aw |(refine ak rfl ?_;intro D lL)| refine ah ?_ ?_ | refine aj ?_ ?_ ?_ | fail));(all_goals refine av ?_)
 try rw [show (UInt64.ofNat 1:UInt64)=1 from rfl]
 refine gh x l.length l.length ?_
 exact aG x True.intro rfl (af _) cR
theorem GC {a:SAlo} {l:List UInt64} {s:Nat} (h:AOk a l) (hs:s<l.length) (hlt:(l.getD s default).toNat=a.Mark):Zp Tryz.prog 182 [vA (a8 a),vI s] [] [Sl cQ a.Counters.1 a.Counters.2.1 a.Counters.2.2 l] Unit (fun _=>True) (fun b=> .tuple #[vA (cz Non.zero),vA (a8 SAlo.zero),vI 10]) (fun _=> []) (fun _=> []):=by
 have hc0:=Ed h hs
 obtain ⟨⟨ca,cn,cc⟩,mk,lm,rs⟩:=a
 obtain ⟨h1,h8',ml,r1,r2,rl,lm',cm⟩:=h
 dsimp only at*
 refine an fun G=> ?_
 refine bc 0 ?_
 intro hn hc hm ha
 obtain ⟨sb,o,rfl⟩:=ha (by omega) (by decide)
 (repeat' ((try refine au ?_);(conv=>arg 4;whnf);first | refine ax ?_ |(refine sN ?_;intro b)|(refine sC ?_ ?_<;>intro h)|(refine ar ?_ ?_<;>intro h<;>try contradiction)|(refine aa ?_;intro g c')|(refine ay hc0 ?_;intro x hx;refine aN ?_)| refine ae ?_ | refine ai ?_ | exact aw |(refine ak rfl ?_;intro D lL)| refine ah ?_ ?_ | refine aj ?_ ?_ ?_ | fail));(all_goals refine av ?_)
theorem IO {a:SAlo} {l:List UInt64} (h:AOk a l) (hr:a.Mark+a.Reserve≤a.Limit):Zp Tryz.prog 183 [vA (a8 a)] [] [Sl cQ a.Counters.1 a.Counters.2.1 a.Counters.2.2 l] Nat (fun _=>True) (fun b=> .tuple #[vA (a8 {a with Counters:=(some ⟨b,0,none⟩,l.length,l.length),Mark:=a.Mark+a.Reserve}),vI 0]) (fun _=> []) (fun b=> [Sl cQ (some ⟨b,0,none⟩) l.length l.length l]):=by
 have hc0:=zP h
 have h8:=h.l8
 have ho:=Ej (a:=a) h8
 obtain ⟨⟨ca,cn,cc⟩,mk,lm,rs⟩:=a
 obtain ⟨h1,h8',ml,r1,r2,rl,lm',cm⟩:=h
 dsimp only at*
 refine an fun G=> ?_
 refine bc 0 ?_
 intro hn hc hm ha
 obtain ⟨sb,o,rfl⟩:=ha (by omega) (by decide)
 (repeat' ((try refine au ?_);(conv=>arg 4;whnf);first | refine ax ?_ |(refine sN ?_;intro b)|(refine sC ?_ ?_<;>intro h)|(refine ar ?_ ?_<;>intro h<;>try contradiction)|(refine aa ?_;intro g c')|((first | refine ay hc0 ?_ | refine ay ho ?_);intro x hx;refine aN ?_)| refine ae ?_ | refine ai ?_ | exact aw |(refine ak rfl ?_;intro D lL)| refine ah ?_ ?_ | refine aj ?_ ?_ ?_ | fail));(all_goals refine av ?_)
 refine gh x l.length l.length ?_
 exact aG x True.intro rfl (af _) cR
end Go.Proofs.YtbobhnldhpjdlaaGreatDoor
