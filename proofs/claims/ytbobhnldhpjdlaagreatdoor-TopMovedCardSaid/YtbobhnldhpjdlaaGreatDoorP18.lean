/- Lemmas and walks: what each function does, by its own code. No condition beyond those of each statement. -/
import Derived.Test.YtbobhnldhpjdlaaGreatDoorP12
import Derived.Test.YtbobhnldhpjdlaaGreatDoorP13
set_option linter.all false
set_option linter.unusedVariables false
namespace Go.Proofs.YtbobhnldhpjdlaaGreatDoor
open Go Go.RowKit Go.Cs Go.Cz
set_option maxRecDepth 100000
set_option maxHeartbeats 1000000
instance {x:Rec}:Fb [Value.int .u8 ((x.st:Nat):Int)] cB [UInt8.ofNat x.st]:=⟨by simp [cB,Nat.mod_eq_of_lt x.hst]⟩
instance {x:Ent}:Fb [Value.int .u8 ((x.st:Nat):Int)] cB [UInt8.ofNat x.st]:=⟨by simp [cB,Nat.mod_eq_of_lt x.hst]⟩
instance {x:Nod}:Fb [Value.int .u8 ((x.lv:Nat):Int)] cB [UInt8.ofNat x.lv]:=⟨by simp [cB,Nat.mod_eq_of_lt x.hlv]⟩
theorem Bm {a:Option Addr} {n c:Nat} {l:List UInt8}:Zp Tryz.prog 170 [.slice a n c] [] [Sl cB a n c l] Unit (fun _=>True) (fun _=> .tuple #[.int .u32 ((d8 l 4:Nat):Int),vI (nC l 4)]) (fun _=> []) (fun _=> []):=by
 have e:vw (UInt32.ofNat (d8 l 4))= .int .u32 ((d8 l 4:Nat):Int):=by
  have:=eI l 4
  simp only [vw,UInt32.toNat_ofNat'];rw [Nat.mod_eq_of_lt (by omega)]
 rw [←e];exact wW
theorem zY {a:Option Addr} {n c:Nat} {l:List UInt8}:Zp Tryz.prog 164 [.slice a n c] [] [Sl cB a n c l] Unit (fun _=>True) (fun _=> .tuple #[.int .u64 ((d8 l 8:Nat):Int),vI (nC l 8)]) (fun _=> []) (fun _=> []):=by
 refine an fun G=> ?_
 (repeat' ((try refine au ?_);(conv=>arg 4;whnf);first | refine ax ?_ |(refine sN ?_;intro b)|(refine sC ?_ ?_<;>intro h)|(refine ar ?_ ?_<;>intro h<;>try contradiction)|(refine aa ?_;intro g c')|(refine ay (DR 8 (by decide)) ?_;intro x hx;refine aN ?_)| refine ae ?_ | refine ai ?_ | exact aw |(refine ak rfl ?_;intro D lL)| refine ah ?_ ?_ | refine aj ?_ ?_ ?_ | fail));(all_goals refine av ?_)
theorem jZ {v:Nat} (h:v<4294967296):Zp Tryz.prog 62 [.int .u32 ((v:Nat):Int)] [] [] Nat (fun _=>True) (fun b=> .slice (some ⟨b,0,none⟩) 4 4) (fun b=> [iB b (b8 (be v 4)) 5]) (fun _=> []):=by
 have h1:(UInt32.ofNat v).toNat=v:=by simp only [UInt32.toNat_ofNat'];exact Nat.mod_eq_of_lt h
 have:=uo (y:=UInt32.ofNat v)
 simp only [vw,h1] at this
 exact this
theorem tq {y:Non}:Zp Tryz.prog 58 [vA (cz y)] [] [] Nat (fun _=>True) (fun b=> .slice (some ⟨b,0,none⟩) 12 12) (fun b=> [iB b (b8 (fC y)) 5]) (fun _=> []):=by
 refine an fun G=> ?_
 have h1:=y.hsh
 have h2:=y.hct
 have e: [be y.sh 4,be y.ct 8].flatten=fC y:=by simp [fC]
 have hl:=fV y
 have hle: [be y.sh 4,be y.ct 8].flatten.length≤1099511627776:=by rw [e,hl];decide
 (repeat' ((try refine au ?_);(conv=>arg 4;whnf);first | refine ax ?_ |(refine sN ?_;intro b)|(refine sC ?_ ?_<;>intro h)|(refine ar ?_ ?_<;>intro h<;>try contradiction)|(refine aa ?_;intro g c')|((first | refine ay (jZ (v:=y.sh) h1) ?_ | refine ay (jT h2) ?_ | refine ay (jx (ls:= [be y.sh 4,be y.ct 8]) hle) ?_);intro x hx;refine aN ?_)| refine ae ?_ | refine ai ?_ | exact aw |(refine ak rfl ?_;intro D lL)| refine ah ?_ ?_ | refine aj ?_ ?_ ?_ | fail));(all_goals refine av ?_)
 refine aG x True.intro (by rw [e,hl];rfl) ?_
 rw [e];((repeat' (first | with_reducible exact am _ | exact af _ | refine aB ?_ ?_ | refine aD inferInstance ?_))<;>(try with_reducible rfl))
theorem p9 {a:Option Addr} {n c:Nat} {l:List UInt8} (hl:l.length=12):Zp Tryz.prog 57 [.slice a n c] [] [Sl cB a n c l] Unit (fun _=>True) (fun _=> .tuple #[vA (cz (Non.of l)),vI 0]) (fun _=> []) (fun _=> []):=by
 refine an fun G=> ?_
 refine bc 0 ?_
 intro hn hc hm ha
 obtain rfl:n=12:=by omega
 obtain ⟨b,o,rfl⟩:=ha (by omega) (by decide)
 refine bq (Sl cB (some ⟨b,o,none⟩) 4 c (l.take 4)) (fun w _ h=>tD (h _ (.head _)) (by omega) (by omega) hm) ?_
 (repeat' ((try refine au ?_);(conv=>arg 4;whnf);first | refine ax ?_ |(refine sN ?_;intro b)|(refine sC ?_ ?_<;>intro h)|(refine ar ?_ ?_<;>intro h<;>try contradiction)|(refine aa ?_;intro g c')|((first | refine ay Bm ?_ | refine ay zY ?_);intro x hx;refine aN ?_)| refine ae ?_ | refine ai ?_ | exact aw |(refine ak rfl ?_;intro D lL)| refine ah ?_ ?_ | refine aj ?_ ?_ ?_ | fail));(all_goals refine av ?_)
 refine aG () True.intro ?_ (af _)
 have e:List.take (12-4) (List.drop 4 l)=l.drop 4:=List.take_of_length_le (by simp;omega)
 rw [e];rfl
theorem nA {x:Rec}:Zp Tryz.prog 153 [vA (cL x)] [] [] Unit (fun _=>True) (fun _=>vI (cD x)) (fun _=> []) (fun _=> []):=by
 refine an fun G=> ?_
 by_cases h2:2<x.st
 ·rw [show cD x=1 from if_pos h2]
  (repeat' ((try refine au ?_);(conv=>arg 4;whnf);first | refine ax ?_ |(refine sN ?_;intro b)|(refine sC ?_ ?_<;>intro h)|(refine ar ?_ ?_<;>intro h<;>try contradiction)|(refine aa ?_;intro g c')| refine ae ?_ | refine ai ?_ | exact aw |(refine ak rfl ?_;intro D lL)| refine ah ?_ ?_ | refine aj ?_ ?_ ?_ | fail));(all_goals refine av ?_)
 by_cases h0:x.st=0
 ·by_cases hz:x=Rec.zero
  ·rw [show cD x=0 by rw [cD,if_neg h2,if_pos h0,if_pos ((Rec.eqb_iff _ _).2 hz)]]
   (repeat' ((try refine au ?_);(conv=>arg 4;whnf);first | refine ax ?_ |(refine sN ?_;intro b)|(refine sC ?_ ?_<;>intro h)|(refine ar ?_ ?_<;>intro h<;>try contradiction)|(refine aa ?_;intro g c')| refine ae ?_ | refine ai ?_ | exact aw |(refine ak rfl ?_;intro D lL)| refine ah ?_ ?_ | refine aj ?_ ?_ ?_ | fail));(all_goals refine av ?_)
  ·rw [show cD x=1 by rw [cD,if_neg h2,if_pos h0,if_neg (fun g=>hz ((Rec.eqb_iff _ _).1 g))]]
   (repeat' ((try refine au ?_);(conv=>arg 4;whnf);first | refine ax ?_ |(refine sN ?_;intro b)|(refine sC ?_ ?_<;>intro h)|(refine ar ?_ ?_<;>intro h<;>try contradiction)|(refine aa ?_;intro g c')| refine ae ?_ | refine ai ?_ | exact aw |(refine ak rfl ?_;intro D lL)| refine ah ?_ ?_ | refine aj ?_ ?_ ?_ | fail));(all_goals refine av ?_)
 ·rw [show cD x=0 by rw [cD,if_neg h2,if_neg h0]]
  (repeat' ((try refine au ?_);(conv=>arg 4;whnf);first | refine ax ?_ |(refine sN ?_;intro b)|(refine sC ?_ ?_<;>intro h)|(refine ar ?_ ?_<;>intro h<;>try contradiction)|(refine aa ?_;intro g c')| refine ae ?_ | refine ai ?_ | exact aw |(refine ak rfl ?_;intro D lL)| refine ah ?_ ?_ | refine aj ?_ ?_ ?_ | fail));(all_goals refine av ?_)
theorem Cy {x:Ent}:Zp Tryz.prog 293 [vA (dN x)] [] [] Unit (fun _=>True) (fun _=>vI (eF x)) (fun _=> []) (fun _=> []):=by
 refine an fun G=> ?_
 by_cases h2:2<x.st
 ·rw [show eF x=1 from if_pos h2]
  (repeat' ((try refine au ?_);(conv=>arg 4;whnf);first | refine ax ?_ |(refine sN ?_;intro b)|(refine sC ?_ ?_<;>intro h)|(refine ar ?_ ?_<;>intro h<;>try contradiction)|(refine aa ?_;intro g c')| refine ae ?_ | refine ai ?_ | exact aw |(refine ak rfl ?_;intro D lL)| refine ah ?_ ?_ | refine aj ?_ ?_ ?_ | fail));(all_goals refine av ?_)
 by_cases h0:x.st=0
 ·by_cases hz:x=Ent.zero
  ·rw [show eF x=0 by rw [eF,if_neg h2,if_pos h0,if_pos ((Ent.eqb_iff _ _).2 hz)]]
   (repeat' ((try refine au ?_);(conv=>arg 4;whnf);first | refine ax ?_ |(refine sN ?_;intro b)|(refine sC ?_ ?_<;>intro h)|(refine ar ?_ ?_<;>intro h<;>try contradiction)|(refine aa ?_;intro g c')| refine ae ?_ | refine ai ?_ | exact aw |(refine ak rfl ?_;intro D lL)| refine ah ?_ ?_ | refine aj ?_ ?_ ?_ | fail));(all_goals refine av ?_)
  ·rw [show eF x=1 by rw [eF,if_neg h2,if_pos h0,if_neg (fun g=>hz ((Ent.eqb_iff _ _).1 g))]]
   (repeat' ((try refine au ?_);(conv=>arg 4;whnf);first | refine ax ?_ |(refine sN ?_;intro b)|(refine sC ?_ ?_<;>intro h)|(refine ar ?_ ?_<;>intro h<;>try contradiction)|(refine aa ?_;intro g c')| refine ae ?_ | refine ai ?_ | exact aw |(refine ak rfl ?_;intro D lL)| refine ah ?_ ?_ | refine aj ?_ ?_ ?_ | fail));(all_goals refine av ?_)
 ·rw [show eF x=0 by rw [eF,if_neg h2,if_neg h0]]
  (repeat' ((try refine au ?_);(conv=>arg 4;whnf);first | refine ax ?_ |(refine sN ?_;intro b)|(refine sC ?_ ?_<;>intro h)|(refine ar ?_ ?_<;>intro h<;>try contradiction)|(refine aa ?_;intro g c')| refine ae ?_ | refine ai ?_ | exact aw |(refine ak rfl ?_;intro D lL)| refine ah ?_ ?_ | refine aj ?_ ?_ ?_ | fail));(all_goals refine av ?_)
end Go.Proofs.YtbobhnldhpjdlaaGreatDoor
namespace Go.Proofs.YtbobhnldhpjdlaaGreatDoor
open Go Go.RowKit Go.Cs Go.Cz
set_option maxRecDepth 100000
set_option maxHeartbeats 1000000
theorem Au {y:Non} {c:Nat} (hc:c<4294967296):Zp Tryz.prog 303 [vA (cz y), .int .u32 ((c:Nat):Int)] [] [] Unit (fun _=>True) (fun _=>vA (fz (qX y c))) (fun _=> []) (fun _=> []):=by
 refine an fun G=> ?_
 have h1:=y.hsh
 have h2:=y.hct
 have e: [be y.sh 4,be y.ct 8,be c 4].flatten=(qX y c).l:=by simp [qX]
 have hl:=(qX y c).h
 have hle: [be y.sh 4,be y.ct 8,be c 4].flatten.length≤1099511627776:=by rw [e,hl];decide
 (repeat' ((try refine au ?_);(conv=>arg 4;whnf);first | refine cp ?_ |(refine sN ?_;intro b)|(refine sC ?_ ?_<;>intro h)|(refine ar ?_ ?_<;>intro h<;>try contradiction)|(refine aa ?_;intro g c')| refine ae ?_ | refine ai ?_ | exact aw |(refine ak rfl ?_;intro D lL)| refine ah ?_ ?_ | refine aj ?_ ?_ ?_ | fail));(all_goals refine av ?_)
 refine eV b (b8 B16.zero.l) rfl ?_
 refine fy [b] rfl ?_
 (repeat' ((try refine au ?_);(conv=>arg 4;whnf);first | refine ax ?_ |(refine sN ?_;intro b)|(refine sC ?_ ?_<;>intro h)|(refine ar ?_ ?_<;>intro h<;>try contradiction)|(refine aa ?_;intro g c')|((first | refine ay (jZ (v:=y.sh) h1) ?_ | refine ay (jT h2) ?_ | refine ay (jZ (v:=c) hc) ?_ | refine ay (jx (ls:= [be y.sh 4,be y.ct 8,be c 4]) hle) ?_);intro x hx;refine aN ?_)| refine ae ?_ | refine ai ?_ | exact aw |(refine ak rfl ?_;intro D lL)| refine ah ?_ ?_ | refine aj ?_ ?_ ?_ | fail));(all_goals refine av ?_)
theorem D8 {o n:Nat} (h:o+n≤1048576):Zp Tryz.prog 251 [vI o,vI n] [] [] Unit (fun _=>True) (fun _=>vI 0) (fun _=> []) (fun _=> []):=by
 refine an fun G=> ?_
 (repeat' ((try refine au ?_);(conv=>arg 4;whnf);first | refine ax ?_ |(refine sN ?_;intro b)|(refine sC ?_ ?_<;>intro h)|(refine ar ?_ ?_<;>intro h<;>try contradiction)|(refine aa ?_;intro g c')| refine ae ?_ | refine ai ?_ | exact aw |(refine ak rfl ?_;intro D lL)| refine ah ?_ ?_ | refine aj ?_ ?_ ?_ | fail));(all_goals refine av ?_)
end Go.Proofs.YtbobhnldhpjdlaaGreatDoor
