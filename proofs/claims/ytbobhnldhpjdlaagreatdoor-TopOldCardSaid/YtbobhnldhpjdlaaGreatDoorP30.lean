/- Lemmas and walks: what each function does, by its own code. No condition beyond those of each statement. -/
import Derived.Test.YtbobhnldhpjdlaaGreatDoorP27
set_option linter.all false
set_option linter.unusedVariables false
namespace Go.Proofs.YtbobhnldhpjdlaaGreatDoor
open Go Go.RowKit Go.Cs Go.Cz
set_option maxRecDepth 100000
set_option maxHeartbeats 1000000
theorem Gn {y:Cel}:Zp Tryz.prog 52 [vA (aL y)] [] [] Nat (fun _=>True) (fun b=> .slice (some ⟨b,0,none⟩) 48 48) (fun b=> [iB b (bE (iY y)) 5]) (fun _=> []):=by
 refine ak fun G=> ?_
 have h1:=y.hep
 have h2:=y.hmk
 have e: [y.root.l,be y.ep 8,be y.mark 8].flatten=iY y:=by simp [iY]
 have hl:=l7 y
 have hle: [y.root.l,be y.ep 8,be y.mark 8].flatten.length≤1099511627776:=by rw [e,hl];decide
 (repeat' ((try refine aw ?_);(conv=>arg 4;whnf);first | refine az ?_ |(refine sN ?_;intro b)|(refine sC ?_ ?_<;>intro h)|(refine au ?_ ?_<;>intro h<;>try contradiction)|(refine aa ?_;intro g c')|((first | refine aA (jC h1) ?_ | refine aA (jC h2) ?_ | refine aA (i7 (ls:= [y.root.l,be y.ep 8,be y.mark 8]) hle) ?_);intro x hx;refine aH ?_)| refine ae ?_ | refine ai ?_ | exact ax |(refine aj rfl ?_;intro D lL)| refine af ?_ ?_ | refine ah ?_ ?_ ?_ | fail));(all_goals refine av ?_)
 all_goals refine aD x True.intro (by rw [e,hl];rfl) ?_
 all_goals rw [e]
 all_goals (((repeat' (first | with_reducible exact ar _ | exact am _ | refine aE ?_ ?_ | refine aG inferInstance ?_))<;>(try with_reducible rfl)))
theorem E9 {a:Option Addr} {n c:Nat} {l:List UInt8} (hl:l.length=33):Zp Tryz.prog 323 [.slice a n c] [] [Sl cB a n c l] Unit (fun _=>True) (fun _=> .tuple #[vA (c6 (if dK (Ent.of l)=0 then Ent.of l else Ent.zero)),vI (dK (Ent.of l))]) (fun _=> []) (fun _=> []):=by
 refine ak fun G=> ?_
 refine aS 0 ?_
 intro hn hc hm ha
 obtain rfl:n=33:=by omega
 obtain ⟨b,o,rfl⟩:=ha (by omega) (by decide)
 have hz:∀(e:Nat),e=dK (Ent.of l)→Zp Tryz.prog 293 [vA (c6 (Ent.of l))] [] [] Unit (fun _=>True) (fun _=>vI e) (fun _=> []) (fun _=> []):=fun e he=>by rw [he];exact Dy
 rcases iW (Ent.of l) with h0 | h0
 ·rw [if_pos h0,h0]
  rcases (show c=33∨33<c by omega) with rfl | hc2
  ·(repeat' ((try refine aw ?_);(conv=>arg 4;whnf);first | refine az ?_ |(refine sN ?_;intro b)|(refine sC ?_ ?_<;>intro h)|(refine au ?_ ?_<;>intro h<;>try contradiction)|(refine aa ?_;intro g c')|(refine aA (hz 0 h0.symm) ?_;intro x hx;refine aH ?_)| refine ae ?_ | refine ai ?_ | exact ax |(refine aj rfl ?_;intro D lL)| refine af ?_ ?_ | refine ah ?_ ?_ ?_ | fail));(all_goals refine av ?_)
  ·(repeat' ((try refine aw ?_);(conv=>arg 4;whnf);first | refine az ?_ |(refine sN ?_;intro b)|(refine sC ?_ ?_<;>intro h)|(refine au ?_ ?_<;>intro h<;>try contradiction)|(refine aa ?_;intro g c')|(refine aA (hz 0 h0.symm) ?_;intro x hx;refine aH ?_)| refine ae ?_ | refine ai ?_ | exact ax |(refine aj rfl ?_;intro D lL)| refine af ?_ ?_ | refine ah ?_ ?_ ?_ | fail));(all_goals refine av ?_)
 ·rw [if_neg (by omega),h0]
  rcases (show c=33∨33<c by omega) with rfl | hc2
  ·(repeat' ((try refine aw ?_);(conv=>arg 4;whnf);first | refine az ?_ |(refine sN ?_;intro b)|(refine sC ?_ ?_<;>intro h)|(refine au ?_ ?_<;>intro h<;>try contradiction)|(refine aa ?_;intro g c')|(refine aA (hz 1 h0.symm) ?_;intro x hx;refine aH ?_)| refine ae ?_ | refine ai ?_ | exact ax |(refine aj rfl ?_;intro D lL)| refine af ?_ ?_ | refine ah ?_ ?_ ?_ | fail));(all_goals refine av ?_)
  ·(repeat' ((try refine aw ?_);(conv=>arg 4;whnf);first | refine az ?_ |(refine sN ?_;intro b)|(refine sC ?_ ?_<;>intro h)|(refine au ?_ ?_<;>intro h<;>try contradiction)|(refine aa ?_;intro g c')|(refine aA (hz 1 h0.symm) ?_;intro x hx;refine aH ?_)| refine ae ?_ | refine ai ?_ | exact ax |(refine aj rfl ?_;intro D lL)| refine af ?_ ?_ | refine ah ?_ ?_ ?_ | fail));(all_goals refine av ?_)
theorem GL {a:Option Addr} {n c:Nat} {l:List UInt8} (hl:l.length=48):Zp Tryz.prog 51 [.slice a n c] [] [Sl cB a n c l] Unit (fun _=>True) (fun _=> .tuple #[vA (aL (Cel.of l)),vI 0]) (fun _=> []) (fun _=> []):=by
 refine ak fun G=> ?_
 refine aS 0 ?_
 intro hn hc hm ha
 obtain rfl:n=48:=by omega
 obtain ⟨b,o,rfl⟩:=ha (by omega) (by decide)
 refine aR (Sl cB (some ⟨b,o,none⟩) 32 32 (l.take 32)) (fun w _ h=>o0 (h _ (.head _)) (by omega) (by omega) (by omega)) ?_
 refine aR (Sl cB (some ⟨b,o+32*1+8*1,none⟩) 8 (c-32-8) ((l.drop 40).take 8)) (fun w _ h=>z5 (h _ (.tail _ (.head _))) (by omega) (by omega) (by omega) (by omega)) ?_
 rcases (show c=48∨48<c by omega) with rfl | hc2
 ·(repeat' ((try refine aw ?_);(conv=>arg 4;whnf);first | refine az ?_ |(refine sN ?_;intro b)|(refine sC ?_ ?_<;>intro h)|(refine au ?_ ?_<;>intro h<;>try contradiction)|(refine aa ?_;intro g c')|(refine aA Bv ?_;intro x hx;refine aH ?_)| refine ae ?_ | refine ai ?_ | exact ax |(refine aj rfl ?_;intro D lL)| refine af ?_ ?_ | refine ah ?_ ?_ ?_ | fail));(all_goals refine av ?_)
  trace_state
  all_goals split
 ·(repeat' ((try refine aw ?_);(conv=>arg 4;whnf);first | refine az ?_ |(refine sN ?_;intro b)|(refine sC ?_ ?_<;>intro h)|(refine au ?_ ?_<;>intro h<;>try contradiction)|(refine aa ?_;intro g c')|(refine aA Bv ?_;intro x hx;refine aH ?_)| refine ae ?_ | refine ai ?_ | exact ax |(refine aj rfl ?_;intro D lL)| refine af ?_ ?_ | refine ah ?_ ?_ ?_ | fail));(all_goals refine av ?_)
  trace_state
  all_goals split
end Go.Proofs.YtbobhnldhpjdlaaGreatDoor
namespace Go.Proofs.YtbobhnldhpjdlaaGreatDoor
open Go Go.RowKit Go.Cs Go.Cz
set_option maxRecDepth 100000
set_option maxHeartbeats 1000000
theorem C6 {a:Option Addr} {n c:Nat} {l:List UInt8} (hl:l.length=45) (h0:bS (Rec.of l)=0) (hc1:c=45):Zp Tryz.prog 322 [.slice a n c] [] [Sl cB a n c l] Unit (fun _=>True) (fun _=> .tuple #[vA (bY (if bS (Rec.of l)=0 then Rec.of l else Rec.zero)),vI (bS (Rec.of l))]) (fun _=> []) (fun _=> []):=by
 refine ak fun G=> ?_
 refine aS 0 ?_
 intro hn hc hm ha
 obtain rfl:n=45:=by omega
 obtain ⟨b,o,rfl⟩:=ha (by omega) (by decide)
 have h12:((l.drop 1).take 12).length=12:=by simp;omega
 have hz:Zp Tryz.prog 153 [vA (bY (Rec.of l))] [] [] Unit (fun _=>True) (fun _=>vI 0) (fun _=> []) (fun _=> []):=by rw [←h0];exact nB
 refine aR (Sl cB (some ⟨b,o+1*1+12*1,none⟩) 32 32 ((l.drop 13).take 32)) (fun w _ h=>o5 (h _ (.head _)) (by omega) (by omega) (by omega)) ?_
 rw [if_pos h0,h0]
 subst hc1
 (repeat' ((try refine aw ?_);(conv=>arg 4;whnf);first | refine aO ?_ |(refine sN ?_;intro b)|(refine sC ?_ ?_<;>intro h)|(refine au ?_ ?_<;>intro h<;>try contradiction)|(refine aa ?_;intro g c')|(refine aA (my (l:=(l.drop 1).take 12) h12) ?_;intro x hx;refine aH ?_)| refine ae ?_ | refine ai ?_ | exact ax |(refine aj rfl ?_;intro D lL)| refine af ?_ ?_ | refine ah ?_ ?_ ?_ | fail));(all_goals refine av ?_)
 rename_i rb
 refine dH [rb] rfl ?_
 (repeat' ((try refine aw ?_);(conv=>arg 4;whnf);first | refine az ?_ |(refine sN ?_;intro b)|(refine sC ?_ ?_<;>intro h)|(refine au ?_ ?_<;>intro h<;>try contradiction)|(refine aa ?_;intro g c')|(refine aA hz ?_;intro x hx;refine aH ?_)| refine ae ?_ | refine ai ?_ | exact ax |(refine aj rfl ?_;intro D lL)| refine af ?_ ?_ | refine ah ?_ ?_ ?_ | fail));(all_goals refine av ?_)
theorem CN {a:Option Addr} {n c:Nat} {l:List UInt8} (hl:l.length=45) (h0:bS (Rec.of l)=0) (hc1:45<c):Zp Tryz.prog 322 [.slice a n c] [] [Sl cB a n c l] Unit (fun _=>True) (fun _=> .tuple #[vA (bY (if bS (Rec.of l)=0 then Rec.of l else Rec.zero)),vI (bS (Rec.of l))]) (fun _=> []) (fun _=> []):=by
 refine ak fun G=> ?_
 refine aS 0 ?_
 intro hn hc hm ha
 obtain rfl:n=45:=by omega
 obtain ⟨b,o,rfl⟩:=ha (by omega) (by decide)
 have h12:((l.drop 1).take 12).length=12:=by simp;omega
 have hz:Zp Tryz.prog 153 [vA (bY (Rec.of l))] [] [] Unit (fun _=>True) (fun _=>vI 0) (fun _=> []) (fun _=> []):=by rw [←h0];exact nB
 refine aR (Sl cB (some ⟨b,o+1*1+12*1,none⟩) 32 32 ((l.drop 13).take 32)) (fun w _ h=>o5 (h _ (.head _)) (by omega) (by omega) (by omega)) ?_
 rw [if_pos h0,h0]
 (repeat' ((try refine aw ?_);(conv=>arg 4;whnf);first | refine aO ?_ |(refine sN ?_;intro b)|(refine sC ?_ ?_<;>intro h)|(refine au ?_ ?_<;>intro h<;>try contradiction)|(refine aa ?_;intro g c')|(refine aA (my (l:=(l.drop 1).take 12) h12) ?_;intro x hx;refine aH ?_)| refine ae ?_ | refine ai ?_ | exact ax |(refine aj rfl ?_;intro D lL)| refine af ?_ ?_ | refine ah ?_ ?_ ?_ | fail));(all_goals refine av ?_)
 rename_i rb
 refine dH [rb] rfl ?_
 (repeat' ((try refine aw ?_);(conv=>arg 4;whnf);first | refine az ?_ |(refine sN ?_;intro b)|(refine sC ?_ ?_<;>intro h)|(refine au ?_ ?_<;>intro h<;>try contradiction)|(refine aa ?_;intro g c')|(refine aA hz ?_;intro x hx;refine aH ?_)| refine ae ?_ | refine ai ?_ | exact ax |(refine aj rfl ?_;intro D lL)| refine af ?_ ?_ | refine ah ?_ ?_ ?_ | fail));(all_goals refine av ?_)
theorem Cl {a:Option Addr} {n c:Nat} {l:List UInt8} (hl:l.length=45) (h0:bS (Rec.of l)=1) (hc1:c=45):Zp Tryz.prog 322 [.slice a n c] [] [Sl cB a n c l] Unit (fun _=>True) (fun _=> .tuple #[vA (bY (if bS (Rec.of l)=0 then Rec.of l else Rec.zero)),vI (bS (Rec.of l))]) (fun _=> []) (fun _=> []):=by
 refine ak fun G=> ?_
 refine aS 0 ?_
 intro hn hc hm ha
 obtain rfl:n=45:=by omega
 obtain ⟨b,o,rfl⟩:=ha (by omega) (by decide)
 have h12:((l.drop 1).take 12).length=12:=by simp;omega
 have hz:Zp Tryz.prog 153 [vA (bY (Rec.of l))] [] [] Unit (fun _=>True) (fun _=>vI 1) (fun _=> []) (fun _=> []):=by rw [←h0];exact nB
 refine aR (Sl cB (some ⟨b,o+1*1+12*1,none⟩) 32 32 ((l.drop 13).take 32)) (fun w _ h=>o5 (h _ (.head _)) (by omega) (by omega) (by omega)) ?_
 rw [if_neg (by omega),h0]
 subst hc1
 (repeat' ((try refine aw ?_);(conv=>arg 4;whnf);first | refine aO ?_ |(refine sN ?_;intro b)|(refine sC ?_ ?_<;>intro h)|(refine au ?_ ?_<;>intro h<;>try contradiction)|(refine aa ?_;intro g c')|(refine aA (my (l:=(l.drop 1).take 12) h12) ?_;intro x hx;refine aH ?_)| refine ae ?_ | refine ai ?_ | exact ax |(refine aj rfl ?_;intro D lL)| refine af ?_ ?_ | refine ah ?_ ?_ ?_ | fail));(all_goals refine av ?_)
 rename_i rb
 refine dH [rb] rfl ?_
 (repeat' ((try refine aw ?_);(conv=>arg 4;whnf);first | refine az ?_ |(refine sN ?_;intro b)|(refine sC ?_ ?_<;>intro h)|(refine au ?_ ?_<;>intro h<;>try contradiction)|(refine aa ?_;intro g c')|(refine aA hz ?_;intro x hx;refine aH ?_)| refine ae ?_ | refine ai ?_ | exact ax |(refine aj rfl ?_;intro D lL)| refine af ?_ ?_ | refine ah ?_ ?_ ?_ | fail));(all_goals refine av ?_)
theorem DU {a:Option Addr} {n c:Nat} {l:List UInt8} (hl:l.length=45) (h0:bS (Rec.of l)=1) (hc1:45<c):Zp Tryz.prog 322 [.slice a n c] [] [Sl cB a n c l] Unit (fun _=>True) (fun _=> .tuple #[vA (bY (if bS (Rec.of l)=0 then Rec.of l else Rec.zero)),vI (bS (Rec.of l))]) (fun _=> []) (fun _=> []):=by
 refine ak fun G=> ?_
 refine aS 0 ?_
 intro hn hc hm ha
 obtain rfl:n=45:=by omega
 obtain ⟨b,o,rfl⟩:=ha (by omega) (by decide)
 have h12:((l.drop 1).take 12).length=12:=by simp;omega
 have hz:Zp Tryz.prog 153 [vA (bY (Rec.of l))] [] [] Unit (fun _=>True) (fun _=>vI 1) (fun _=> []) (fun _=> []):=by rw [←h0];exact nB
 refine aR (Sl cB (some ⟨b,o+1*1+12*1,none⟩) 32 32 ((l.drop 13).take 32)) (fun w _ h=>o5 (h _ (.head _)) (by omega) (by omega) (by omega)) ?_
 rw [if_neg (by omega),h0]
 (repeat' ((try refine aw ?_);(conv=>arg 4;whnf);first | refine aO ?_ |(refine sN ?_;intro b)|(refine sC ?_ ?_<;>intro h)|(refine au ?_ ?_<;>intro h<;>try contradiction)|(refine aa ?_;intro g c')|(refine aA (my (l:=(l.drop 1).take 12) h12) ?_;intro x hx;refine aH ?_)| refine ae ?_ | refine ai ?_ | exact ax |(refine aj rfl ?_;intro D lL)| refine af ?_ ?_ | refine ah ?_ ?_ ?_ | fail));(all_goals refine av ?_)
 rename_i rb
 refine dH [rb] rfl ?_
 (repeat' ((try refine aw ?_);(conv=>arg 4;whnf);first | refine az ?_ |(refine sN ?_;intro b)|(refine sC ?_ ?_<;>intro h)|(refine au ?_ ?_<;>intro h<;>try contradiction)|(refine aa ?_;intro g c')|(refine aA hz ?_;intro x hx;refine aH ?_)| refine ae ?_ | refine ai ?_ | exact ax |(refine aj rfl ?_;intro D lL)| refine af ?_ ?_ | refine ah ?_ ?_ ?_ | fail));(all_goals refine av ?_)
theorem FZ {a:Option Addr} {n c:Nat} {l:List UInt8} (hl:l.length=45):Zp Tryz.prog 322 [.slice a n c] [] [Sl cB a n c l] Unit (fun _=>True) (fun _=> .tuple #[vA (bY (if bS (Rec.of l)=0 then Rec.of l else Rec.zero)),vI (bS (Rec.of l))]) (fun _=> []) (fun _=> []):=by
 rcases Nat.lt_trichotomy c 45 with h | h | h
 ·refine ak fun G=> ?_
  refine aS 0 ?_
  intro hn hc hm ha
  exact absurd hc (by omega)
 ·rcases gK (Rec.of l) with h0 | h0
  ·exact C6 hl h0 h
  ·exact Cl hl h0 h
 ·rcases gK (Rec.of l) with h0 | h0
  ·exact CN hl h0 h
  ·exact DU hl h0 h
end Go.Proofs.YtbobhnldhpjdlaaGreatDoor
