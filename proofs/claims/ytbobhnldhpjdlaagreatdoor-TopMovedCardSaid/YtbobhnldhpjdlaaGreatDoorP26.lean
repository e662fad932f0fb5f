/- Lemmas and walks: what each function does, by its own code. No condition beyond those of each statement. -/
import Derived.Test.YtbobhnldhpjdlaaGreatDoorP13
import Derived.Test.YtbobhnldhpjdlaaGreatDoorP14
import Derived.Test.YtbobhnldhpjdlaaGreatDoorP24
import Derived.Test.YtbobhnldhpjdlaaGreatDoorP25
set_option linter.all false
set_option linter.unusedVariables false
namespace Go.Proofs.YtbobhnldhpjdlaaGreatDoor
open Go Go.RowKit Go.Cs Go.Cz
set_option maxRecDepth 100000
set_option maxHeartbeats 1000000
theorem jI {y:Nod} {q:Value×Value} (h:cd y=0):Zp Tryz.prog 143 [vA (a7 y)] [] [Gs q] Unit (fun _=>True) (fun _=> .tuple #[vA (aE (cq (aL y))),vI 0]) (fun _=> []) (fun _=> []):=by
 refine an fun G=> ?_
 have e: [aL y].flatten=aL y:=by simp
 have hl:=Gy y
 have hL:d7 y≤185:=by unfold d7;split<;>decide
 have hb: [aL y].flatten.length≤1152921504606846976:=by rw [e,hl];omega
 (repeat' ((try refine au ?_);(conv=>arg 4;whnf);first | refine ax ?_ |(refine sN ?_;intro b)|(refine sC ?_ ?_<;>intro h)|(refine ar ?_ ?_<;>intro h<;>try contradiction)|(refine aa ?_;intro g c')|((first | refine ay (pP (q:=q) h) ?_ | refine ay (IJ (ls:= [aL y]) hb) ?_);intro x hx;refine aN ?_)| refine ae ?_ | refine ai ?_ | exact aw |(refine ak rfl ?_;intro D lL)| refine ah ?_ ?_ | refine aj ?_ ?_ ?_ | fail));(all_goals refine av ?_)
 rw [e]
 exact aG () True.intro rfl (af _)
theorem k4 {n:Nat} {y:Nod} (h1:1≤n) (h2:n≤4096) (h:gg n y=0):Zp Tryz.prog 225 [vI n,vA (a7 y)] [] [] Unit (fun _=>True) (fun _=>vI 0) (fun _=> []) (fun _=> []):=by
 refine an fun G=> ?_
 have hc:cd y=0:=by
  unfold gg at h;split at h
  ·assumption
  ·cases h
 have hlj:y.lv≤hgt n∧y.ix<cnt n y.lv:=by
  unfold gg at h;rw [if_pos hc] at h;split at h
  ·assumption
  ·cases h
 have he:emp y (prt n y.lv y.ix)=true:=by
  unfold gg at h;rw [if_pos hc,if_pos hlj] at h;split at h
  ·assumption
  ·cases h
 have hck:=zo (x:=y)
 rw [hc] at hck
 have hz:∀i,i<4→¬i<prt n y.lv y.ix→y.rs.l.getD i default=Rec.zero∧y.es.l.getD i default=Ent.zero:=fun i hi hp=>by
  have:=List.all_eq_true.1 he i (List.mem_range.2 hi)
  simp only [Bool.or_eq_true,decide_eq_true_eq,hp,false_or,Bool.and_eq_true] at this
  exact ⟨(Rec.eqb_iff _ _).1 this.1,(Ent.eqb_iff _ _).1 this.2⟩
 have hp4:prt n y.lv y.ix≤4:=Nat.min_le_left _ _
 have hlv:=y.hlv
 have hix:=y.hix
 (repeat' ((try refine au ?_);(conv=>arg 4;whnf);first | refine ax ?_ |(refine sN ?_;intro b)|(refine sC ?_ ?_<;>intro h)|(refine ar ?_ ?_<;>intro h<;>try contradiction)|(refine aa ?_;intro g c')|((first | refine ay (yZ h1 h2) ?_ | refine ay hck ?_ | refine ay (Jg h1 h2 hlj.1 hlj.2) ?_);intro x hx;refine aN ?_)| refine ae ?_ | refine ai ?_ | exact aw |(refine ak rfl ?_;intro D lL)| refine ah ?_ ?_ | refine aj ?_ ?_ ?_ | fail));(all_goals refine av ?_)
 generalize hP:prt n y.lv y.ix=p at hz hp4⊢
 refine eA [] (X:=Nat) (fun i=> [(4,vI 0),(9,vI i)]) (fun i=>p≤i∧i≤4) (fun i=> []) (fun i=>4-i) p ⟨Nat.le_refl _,hp4⟩ rfl (am _) ?_
 rintro i ⟨hi,hi4⟩
 (conv=>arg 2;simp only [List.cons_append,List.nil_append])
 by_cases h5:i<4
 ·obtain ⟨hr,hE⟩:=hz i h5 (by omega)
  (repeat' ((try refine au ?_);(conv=>arg 4;whnf);first | refine ax ?_ |(refine sN ?_;intro b)|(refine sC ?_ ?_<;>intro h)|(refine ar ?_ ?_<;>intro h<;>try contradiction)|(refine aa ?_;intro g c')| refine ae ?_ | refine ai ?_ | exact aw |(refine ak rfl ?_;intro D lL)| refine ah ?_ ?_ | refine aj ?_ ?_ ?_ | fail));(all_goals refine av ?_)
  exact bj (i+1) rfl ⟨by omega,h5⟩ eG (by omega)
 ·(repeat' ((try refine au ?_);(conv=>arg 4;whnf);first | refine ax ?_ |(refine sN ?_;intro b)|(refine sC ?_ ?_<;>intro h)|(refine ar ?_ ?_<;>intro h<;>try contradiction)|(refine aa ?_;intro g c')| refine ae ?_ | refine ai ?_ | exact aw |(refine ak rfl ?_;intro D lL)| refine ah ?_ ?_ | refine aj ?_ ?_ ?_ | fail));(all_goals refine av ?_)
theorem DQ {n:Nat} {q:Value×Value} (h1:1≤n) (h2:n≤4096):Zp Tryz.prog 161 [vI n] [] [Gs q] Unit (fun _=>True) (fun _=> .tuple #[vA (aM (ii n)),vI 0]) (fun _=> []) (fun _=> []):=by
 refine an fun G=> ?_
 have h5:=bu n
 have hc:=wG h5
 (repeat' ((try refine au ?_);(conv=>arg 4;whnf);first | refine ax ?_ |(refine sN ?_;intro b)|(refine sC ?_ ?_<;>intro h)|(refine ar ?_ ?_<;>intro h<;>try contradiction)|(refine aa ?_;intro g c')|((first | refine ay (rD h1 h2) ?_ | refine ay (uL (lv:=hgt n) (ix:=0) (by omega) (by decide)) ?_ | refine ay (jI (q:=q) hc) ?_);intro x hx;refine aN ?_)| refine ae ?_ | refine ai ?_ | exact aw |(refine ak rfl ?_;intro D lL)| refine ah ?_ ?_ | refine aj ?_ ?_ ?_ | fail));(all_goals refine av ?_)
 trace_state
theorem nO {y:Cel}:Zp Tryz.prog 137 [vA (aM y)] [] [] Unit (fun _=>True) (fun _=>vI (y.ep%2)) (fun _=> []) (fun _=> []):=by
 refine an fun G=> ?_
 (repeat' ((try refine au ?_);(conv=>arg 4;whnf);first | refine ax ?_ |(refine sN ?_;intro b)|(refine sC ?_ ?_<;>intro h)|(refine ar ?_ ?_<;>intro h<;>try contradiction)|(refine aa ?_;intro g c')| refine ae ?_ | refine ai ?_ | exact aw |(refine ak rfl ?_;intro D lL)| refine ah ?_ ?_ | refine aj ?_ ?_ ?_ | fail));(all_goals refine av ?_)
theorem uU {y:Cel} {d:Dig} (h:y.ep<2^63):Zp Tryz.prog 128 [vA (aM y),vA (aE d)] [] [] Unit (fun _=>True) (fun _=> .tuple #[vA (aM (y.nxt d)),vI 0]) (fun _=> []) (fun _=> []):=by
 refine an fun G=> ?_
 have hep:=y.hep
 have i1:Nu 18446744073709551616 ((y.ep+1:Nat):Int) (y.ep+1):=⟨rfl,by omega⟩
 rw [show y.nxt d=⟨d,y.ep+1,y.mark,by omega,y.hmk⟩ by unfold Cel.nxt;simp only [Cel.mk.injEq,true_and,and_true];omega]
 (repeat' ((try refine au ?_);(conv=>arg 4;whnf);first | refine ax ?_ |(refine sN ?_;intro b)|(refine sC ?_ ?_<;>intro h)|(refine ar ?_ ?_<;>intro h<;>try contradiction)|(refine aa ?_;intro g c')| refine ae ?_ | refine ai ?_ | exact aw |(refine ak rfl ?_;intro D lL)| refine ah ?_ ?_ | refine aj ?_ ?_ ?_ | fail));(all_goals refine av ?_)
theorem Iw {y:Cel} {k lim:Nat} (h:0<k) (h2:y.mark+k≤lim) (h3:lim<2^64):Zp Tryz.prog 184 [vA (aM y), .int .u64 ((k:Nat):Int), .int .u64 ((lim:Nat):Int)] [] [] Unit (fun _=>True) (fun _=> .tuple #[vA (aM (y.rsv k)),vI 0]) (fun _=> []) (fun _=> []):=by
 refine an fun G=> ?_
 have hmk:=y.hmk
 have i1:Nu 18446744073709551616 ((y.mark+k:Nat):Int) (y.mark+k):=⟨rfl,by omega⟩
 rw [show y.rsv k=⟨y.root,y.ep,y.mark+k,y.hep,by omega⟩ by unfold Cel.rsv;simp only [Cel.mk.injEq,true_and,and_true];omega]
 (repeat' ((try refine au ?_);(conv=>arg 4;whnf);first | refine ax ?_ |(refine sN ?_;intro b)|(refine sC ?_ ?_<;>intro h)|(refine ar ?_ ?_<;>intro h<;>try contradiction)|(refine aa ?_;intro g c')| refine ae ?_ | refine ai ?_ | exact aw |(refine ak rfl ?_;intro D lL)| refine ah ?_ ?_ | refine aj ?_ ?_ ?_ | fail));(all_goals refine av ?_)
end Go.Proofs.YtbobhnldhpjdlaaGreatDoor
