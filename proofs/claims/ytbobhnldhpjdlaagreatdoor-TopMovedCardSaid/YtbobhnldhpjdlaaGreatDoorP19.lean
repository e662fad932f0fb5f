/- Lemmas and walks: what each function does, by its own code. No condition beyond those of each statement. -/
import Derived.Test.YtbobhnldhpjdlaaGreatDoorP18
set_option linter.all false
set_option linter.unusedVariables false
namespace Go.Proofs.YtbobhnldhpjdlaaGreatDoor
open Go Go.RowKit Go.Cs Go.Cz
set_option maxRecDepth 100000
set_option maxHeartbeats 1000000
theorem Ls {y:Cel}:Zp Tryz.prog 52 [vA (aM y)] [] [] Nat (fun _=>True) (fun b=> .slice (some ⟨b,0,none⟩) 48 48) (fun b=> [iB b (b8 (jz y)) 5]) (fun _=> []):=by
 refine an fun G=> ?_
 have h1:=y.hep
 have h2:=y.hmk
 have e: [y.root.l,be y.ep 8,be y.mark 8].flatten=jz y:=by simp [jz]
 have hl:=A9 y
 have hle: [y.root.l,be y.ep 8,be y.mark 8].flatten.length≤1099511627776:=by rw [e,hl];decide
 (repeat' ((try refine au ?_);(conv=>arg 4;whnf);first | refine ax ?_ |(refine sN ?_;intro b)|(refine sC ?_ ?_<;>intro h)|(refine ar ?_ ?_<;>intro h<;>try contradiction)|(refine aa ?_;intro g c')|((first | refine ay (jT h1) ?_ | refine ay (jT h2) ?_ | refine ay (jx (ls:= [y.root.l,be y.ep 8,be y.mark 8]) hle) ?_);intro x hx;refine aN ?_)| refine ae ?_ | refine ai ?_ | exact aw |(refine ak rfl ?_;intro D lL)| refine ah ?_ ?_ | refine aj ?_ ?_ ?_ | fail));(all_goals refine av ?_)
 all_goals refine aG x True.intro (by rw [e,hl];rfl) ?_
 all_goals rw [e]
 all_goals (((repeat' (first | with_reducible exact am _ | exact af _ | refine aB ?_ ?_ | refine aD inferInstance ?_))<;>(try with_reducible rfl)))
theorem GQ {a:Option Addr} {n c:Nat} {l:List UInt8} (hl:l.length=33):Zp Tryz.prog 323 [.slice a n c] [] [Sl cB a n c l] Unit (fun _=>True) (fun _=> .tuple #[vA (dN (if eF (Ent.of l)=0 then Ent.of l else Ent.zero)),vI (eF (Ent.of l))]) (fun _=> []) (fun _=> []):=by
 refine an fun G=> ?_
 refine bc 0 ?_
 intro hn hc hm ha
 obtain rfl:n=33:=by omega
 obtain ⟨b,o,rfl⟩:=ha (by omega) (by decide)
 have hz:∀(e:Nat),e=eF (Ent.of l)→Zp Tryz.prog 293 [vA (dN (Ent.of l))] [] [] Unit (fun _=>True) (fun _=>vI e) (fun _=> []) (fun _=> []):=fun e he=>by rw [he];exact Cy
 rcases iY (Ent.of l) with h0 | h0
 ·rw [if_pos h0,h0]
  rcases (show c=33∨33<c by omega) with rfl | hc2
  ·(repeat' ((try refine au ?_);(conv=>arg 4;whnf);first | refine ax ?_ |(refine sN ?_;intro b)|(refine sC ?_ ?_<;>intro h)|(refine ar ?_ ?_<;>intro h<;>try contradiction)|(refine aa ?_;intro g c')|(refine ay (hz 0 h0.symm) ?_;intro x hx;refine aN ?_)| refine ae ?_ | refine ai ?_ | exact aw |(refine ak rfl ?_;intro D lL)| refine ah ?_ ?_ | refine aj ?_ ?_ ?_ | fail));(all_goals refine av ?_)
  ·(repeat' ((try refine au ?_);(conv=>arg 4;whnf);first | refine ax ?_ |(refine sN ?_;intro b)|(refine sC ?_ ?_<;>intro h)|(refine ar ?_ ?_<;>intro h<;>try contradiction)|(refine aa ?_;intro g c')|(refine ay (hz 0 h0.symm) ?_;intro x hx;refine aN ?_)| refine ae ?_ | refine ai ?_ | exact aw |(refine ak rfl ?_;intro D lL)| refine ah ?_ ?_ | refine aj ?_ ?_ ?_ | fail));(all_goals refine av ?_)
 ·rw [if_neg (by omega),h0]
  rcases (show c=33∨33<c by omega) with rfl | hc2
  ·(repeat' ((try refine au ?_);(conv=>arg 4;whnf);first | refine ax ?_ |(refine sN ?_;intro b)|(refine sC ?_ ?_<;>intro h)|(refine ar ?_ ?_<;>intro h<;>try contradiction)|(refine aa ?_;intro g c')|(refine ay (hz 1 h0.symm) ?_;intro x hx;refine aN ?_)| refine ae ?_ | refine ai ?_ | exact aw |(refine ak rfl ?_;intro D lL)| refine ah ?_ ?_ | refine aj ?_ ?_ ?_ | fail));(all_goals refine av ?_)
  ·(repeat' ((try refine au ?_);(conv=>arg 4;whnf);first | refine ax ?_ |(refine sN ?_;intro b)|(refine sC ?_ ?_<;>intro h)|(refine ar ?_ ?_<;>intro h<;>try contradiction)|(refine aa ?_;intro g c')|(refine ay (hz 1 h0.symm) ?_;intro x hx;refine aN ?_)| refine ae ?_ | refine ai ?_ | exact aw |(refine ak rfl ?_;intro D lL)| refine ah ?_ ?_ | refine aj ?_ ?_ ?_ | fail));(all_goals refine av ?_)
theorem KR {a:Option Addr} {n c:Nat} {l:List UInt8} (hl:l.length=48):Zp Tryz.prog 51 [.slice a n c] [] [Sl cB a n c l] Unit (fun _=>True) (fun _=> .tuple #[vA (aM (Cel.of l)),vI 0]) (fun _=> []) (fun _=> []):=by
 refine an fun G=> ?_
 refine bc 0 ?_
 intro hn hc hm ha
 obtain rfl:n=48:=by omega
 obtain ⟨b,o,rfl⟩:=ha (by omega) (by decide)
 refine bq (Sl cB (some ⟨b,o,none⟩) 32 32 (l.take 32)) (fun w _ h=>tD (h _ (.head _)) (by omega) (by omega) (by omega)) ?_
 refine bq (Sl cB (some ⟨b,o+32*1+8*1,none⟩) 8 (c-32-8) ((l.drop 40).take 8)) (fun w _ h=>zA (h _ (.tail _ (.head _))) (by omega) (by omega) (by omega) (by omega)) ?_
 rcases (show c=48∨48<c by omega) with rfl | hc2
 ·(repeat' ((try refine au ?_);(conv=>arg 4;whnf);first | refine ax ?_ |(refine sN ?_;intro b)|(refine sC ?_ ?_<;>intro h)|(refine ar ?_ ?_<;>intro h<;>try contradiction)|(refine aa ?_;intro g c')|(refine ay zY ?_;intro x hx;refine aN ?_)| refine ae ?_ | refine ai ?_ | exact aw |(refine ak rfl ?_;intro D lL)| refine ah ?_ ?_ | refine aj ?_ ?_ ?_ | fail));(all_goals refine av ?_)
  trace_state
  all_goals split
 ·(repeat' ((try refine au ?_);(conv=>arg 4;whnf);first | refine ax ?_ |(refine sN ?_;intro b)|(refine sC ?_ ?_<;>intro h)|(refine ar ?_ ?_<;>intro h<;>try contradiction)|(refine aa ?_;intro g c')|(refine ay zY ?_;intro x hx;refine aN ?_)| refine ae ?_ | refine ai ?_ | exact aw |(refine ak rfl ?_;intro D lL)| refine ah ?_ ?_ | refine aj ?_ ?_ ?_ | fail));(all_goals refine av ?_)
  trace_state
  all_goals split
end Go.Proofs.YtbobhnldhpjdlaaGreatDoor
namespace Go.Proofs.YtbobhnldhpjdlaaGreatDoor
open Go Go.RowKit Go.Cs Go.Cz
set_option maxRecDepth 100000
set_option maxHeartbeats 1000000
theorem C4 {a:Option Addr} {n c:Nat} {l:List UInt8} (hl:l.length=45) (h0:cD (Rec.of l)=0) (hc1:c=45):Zp Tryz.prog 322 [.slice a n c] [] [Sl cB a n c l] Unit (fun _=>True) (fun _=> .tuple #[vA (cL (if cD (Rec.of l)=0 then Rec.of l else Rec.zero)),vI (cD (Rec.of l))]) (fun _=> []) (fun _=> []):=by
 refine an fun G=> ?_
 refine bc 0 ?_
 intro hn hc hm ha
 obtain rfl:n=45:=by omega
 obtain ⟨b,o,rfl⟩:=ha (by omega) (by decide)
 have h12:((l.drop 1).take 12).length=12:=by simp;omega
 have hz:Zp Tryz.prog 153 [vA (cL (Rec.of l))] [] [] Unit (fun _=>True) (fun _=>vI 0) (fun _=> []) (fun _=> []):=by rw [←h0];exact nA
 refine bq (Sl cB (some ⟨b,o+1*1+12*1,none⟩) 32 32 ((l.drop 13).take 32)) (fun w _ h=>pX (h _ (.head _)) (by omega) (by omega) (by omega)) ?_
 rw [if_pos h0,h0]
 subst hc1
 (repeat' ((try refine au ?_);(conv=>arg 4;whnf);first | refine cp ?_ |(refine sN ?_;intro b)|(refine sC ?_ ?_<;>intro h)|(refine ar ?_ ?_<;>intro h<;>try contradiction)|(refine aa ?_;intro g c')|(refine ay (p9 (l:=(l.drop 1).take 12) h12) ?_;intro x hx;refine aN ?_)| refine ae ?_ | refine ai ?_ | exact aw |(refine ak rfl ?_;intro D lL)| refine ah ?_ ?_ | refine aj ?_ ?_ ?_ | fail));(all_goals refine av ?_)
 rename_i rb
 refine fy [rb] rfl ?_
 (repeat' ((try refine au ?_);(conv=>arg 4;whnf);first | refine ax ?_ |(refine sN ?_;intro b)|(refine sC ?_ ?_<;>intro h)|(refine ar ?_ ?_<;>intro h<;>try contradiction)|(refine aa ?_;intro g c')|(refine ay hz ?_;intro x hx;refine aN ?_)| refine ae ?_ | refine ai ?_ | exact aw |(refine ak rfl ?_;intro D lL)| refine ah ?_ ?_ | refine aj ?_ ?_ ?_ | fail));(all_goals refine av ?_)
theorem Ck {a:Option Addr} {n c:Nat} {l:List UInt8} (hl:l.length=45) (h0:cD (Rec.of l)=0) (hc1:45<c):Zp Tryz.prog 322 [.slice a n c] [] [Sl cB a n c l] Unit (fun _=>True) (fun _=> .tuple #[vA (cL (if cD (Rec.of l)=0 then Rec.of l else Rec.zero)),vI (cD (Rec.of l))]) (fun _=> []) (fun _=> []):=by
 refine an fun G=> ?_
 refine bc 0 ?_
 intro hn hc hm ha
 obtain rfl:n=45:=by omega
 obtain ⟨b,o,rfl⟩:=ha (by omega) (by decide)
 have h12:((l.drop 1).take 12).length=12:=by simp;omega
 have hz:Zp Tryz.prog 153 [vA (cL (Rec.of l))] [] [] Unit (fun _=>True) (fun _=>vI 0) (fun _=> []) (fun _=> []):=by rw [←h0];exact nA
 refine bq (Sl cB (some ⟨b,o+1*1+12*1,none⟩) 32 32 ((l.drop 13).take 32)) (fun w _ h=>pX (h _ (.head _)) (by omega) (by omega) (by omega)) ?_
 rw [if_pos h0,h0]
 (repeat' ((try refine au ?_);(conv=>arg 4;whnf);first | refine cp ?_ |(refine sN ?_;intro b)|(refine sC ?_ ?_<;>intro h)|(refine ar ?_ ?_<;>intro h<;>try contradiction)|(refine aa ?_;intro g c')|(refine ay (p9 (l:=(l.drop 1).take 12) h12) ?_;intro x hx;refine aN ?_)| refine ae ?_ | refine ai ?_ | exact aw |(refine ak rfl ?_;intro D lL)| refine ah ?_ ?_ | refine aj ?_ ?_ ?_ | fail));(all_goals refine av ?_)
 rename_i rb
 refine fy [rb] rfl ?_
 (repeat' ((try refine au ?_);(conv=>arg 4;whnf);first | refine ax ?_ |(refine sN ?_;intro b)|(refine sC ?_ ?_<;>intro h)|(refine ar ?_ ?_<;>intro h<;>try contradiction)|(refine aa ?_;intro g c')|(refine ay hz ?_;intro x hx;refine aN ?_)| refine ae ?_ | refine ai ?_ | exact aw |(refine ak rfl ?_;intro D lL)| refine ah ?_ ?_ | refine aj ?_ ?_ ?_ | fail));(all_goals refine av ?_)
theorem C5 {a:Option Addr} {n c:Nat} {l:List UInt8} (hl:l.length=45) (h0:cD (Rec.of l)=1) (hc1:c=45):Zp Tryz.prog 322 [.slice a n c] [] [Sl cB a n c l] Unit (fun _=>True) (fun _=> .tuple #[vA (cL (if cD (Rec.of l)=0 then Rec.of l else Rec.zero)),vI (cD (Rec.of l))]) (fun _=> []) (fun _=> []):=by
 refine an fun G=> ?_
 refine bc 0 ?_
 intro hn hc hm ha
 obtain rfl:n=45:=by omega
 obtain ⟨b,o,rfl⟩:=ha (by omega) (by decide)
 have h12:((l.drop 1).take 12).length=12:=by simp;omega
 have hz:Zp Tryz.prog 153 [vA (cL (Rec.of l))] [] [] Unit (fun _=>True) (fun _=>vI 1) (fun _=> []) (fun _=> []):=by rw [←h0];exact nA
 refine bq (Sl cB (some ⟨b,o+1*1+12*1,none⟩) 32 32 ((l.drop 13).take 32)) (fun w _ h=>pX (h _ (.head _)) (by omega) (by omega) (by omega)) ?_
 rw [if_neg (by omega),h0]
 subst hc1
 (repeat' ((try refine au ?_);(conv=>arg 4;whnf);first | refine cp ?_ |(refine sN ?_;intro b)|(refine sC ?_ ?_<;>intro h)|(refine ar ?_ ?_<;>intro h<;>try contradiction)|(refine aa ?_;intro g c')|(refine ay (p9 (l:=(l.drop 1).take 12) h12) ?_;intro x hx;refine aN ?_)| refine ae ?_ | refine ai ?_ | exact aw |(refine ak rfl ?_;intro D lL)| refine ah ?_ ?_ | refine aj ?_ ?_ ?_ | fail));(all_goals refine av ?_)
 rename_i rb
 refine fy [rb] rfl ?_
 (repeat' ((try refine au ?_);(conv=>arg 4;whnf);first | refine ax ?_ |(refine sN ?_;intro b)|(refine sC ?_ ?_<;>intro h)|(refine ar ?_ ?_<;>intro h<;>try contradiction)|(refine aa ?_;intro g c')|(refine ay hz ?_;intro x hx;refine aN ?_)| refine ae ?_ | refine ai ?_ | exact aw |(refine ak rfl ?_;intro D lL)| refine ah ?_ ?_ | refine aj ?_ ?_ ?_ | fail));(all_goals refine av ?_)
theorem Ct {a:Option Addr} {n c:Nat} {l:List UInt8} (hl:l.length=45) (h0:cD (Rec.of l)=1) (hc1:45<c):Zp Tryz.prog 322 [.slice a n c] [] [Sl cB a n c l] Unit (fun _=>True) (fun _=> .tuple #[vA (cL (if cD (Rec.of l)=0 then Rec.of l else Rec.zero)),vI (cD (Rec.of l))]) (fun _=> []) (fun _=> []):=by
 refine an fun G=> ?_
 refine bc 0 ?_
 intro hn hc hm ha
 obtain rfl:n=45:=by omega
 obtain ⟨b,o,rfl⟩:=ha (by omega) (by decide)
 have h12:((l.drop 1).take 12).length=12:=by simp;omega
 have hz:Zp Tryz.prog 153 [vA (cL (Rec.of l))] [] [] Unit (fun _=>True) (fun _=>vI 1) (fun _=> []) (fun _=> []):=by rw [←h0];exact nA
 refine bq (Sl cB (some ⟨b,o+1*1+12*1,none⟩) 32 32 ((l.drop 13).take 32)) (fun w _ h=>pX (h _ (.head _)) (by omega) (by omega) (by omega)) ?_
 rw [if_neg (by omega),h0]
 (repeat' ((try refine au ?_);(conv=>arg 4;whnf);first | refine cp ?_ |(refine sN ?_;intro b)|(refine sC ?_ ?_<;>intro h)|(refine ar ?_ ?_<;>intro h<;>try contradiction)|(refine aa ?_;intro g c')|(refine ay (p9 (l:=(l.drop 1).take 12) h12) ?_;intro x hx;refine aN ?_)| refine ae ?_ | refine ai ?_ | exact aw |(refine ak rfl ?_;intro D lL)| refine ah ?_ ?_ | refine aj ?_ ?_ ?_ | fail));(all_goals refine av ?_)
 rename_i rb
 refine fy [rb] rfl ?_
 (repeat' ((try refine au ?_);(conv=>arg 4;whnf);first | refine ax ?_ |(refine sN ?_;intro b)|(refine sC ?_ ?_<;>intro h)|(refine ar ?_ ?_<;>intro h<;>try contradiction)|(refine aa ?_;intro g c')|(refine ay hz ?_;intro x hx;refine aN ?_)| refine ae ?_ | refine ai ?_ | exact aw |(refine ak rfl ?_;intro D lL)| refine ah ?_ ?_ | refine aj ?_ ?_ ?_ | fail));(all_goals refine av ?_)
theorem GK {a:Option Addr} {n c:Nat} {l:List UInt8} (hl:l.length=45):Zp Tryz.prog 322 [.slice a n c] [] [Sl cB a n c l] Unit (fun _=>True) (fun _=> .tuple #[vA (cL (if cD (Rec.of l)=0 then Rec.of l else Rec.zero)),vI (cD (Rec.of l))]) (fun _=> []) (fun _=> []):=by
 rcases Nat.lt_trichotomy c 45 with h | h | h
 ·refine an fun G=> ?_
  refine bc 0 ?_
  intro hn hc hm ha
  exact absurd hc (by omega)
 ·rcases gO (Rec.of l) with h0 | h0
  ·exact C4 hl h0 h
  ·exact C5 hl h0 h
 ·rcases gO (Rec.of l) with h0 | h0
  ·exact Ck hl h0 h
  ·exact Ct hl h0 h
end Go.Proofs.YtbobhnldhpjdlaaGreatDoor
