/- Lemmas and walks: what each function does, by its own code. No condition beyond those of each statement. -/
import Derived.Test.YtbobhnldhpjdlaaGreatDoorP13
import Derived.Test.YtbobhnldhpjdlaaGreatDoorP14
import Derived.Test.YtbobhnldhpjdlaaGreatDoorP18
import Derived.Test.YtbobhnldhpjdlaaGreatDoorP21
import Derived.Test.YtbobhnldhpjdlaaGreatDoorP22
set_option linter.all false
set_option linter.unusedVariables false
namespace Go.Proofs.YtbobhnldhpjdlaaGreatDoor
open Go Go.RowKit Go.Cs Go.Cz
set_option maxRecDepth 100000
set_option maxHeartbeats 8000000
def qF (key:B16):List Value:=(fq key 10).flatMap fz
instance {key:B16}:On (qF key):=⟨(inferInstance:On ((fq key 10).flatMap fz)).on⟩
@[simp] theorem HK (key:B16):(qF key).length=176:=by unfold qF;rw [cZ (K:=fz) (m:=16),eL]
theorem Gb {key:B16}:Zp Tryz.prog 301 [vA (fz key)] [] [] Unit (fun _=>True) (fun _=>vA (qF key)) (fun _=> []) (fun _=> []):=GN
theorem tF {key y:B16}:Zp Tryz.prog 302 [vA (qF key),vA (fz y)] [] [] Unit (fun _=>True) (fun _=>vA (fz (ye (fq key 10) y))) (fun _=> []) (fun _=> []):=Ju (eL key 10)
theorem w8 {key:B16} {y:Non} {l:List UInt8} {j:Nat} (h:j<l.length):(lJ key y l).getD j default=l.getD j default^^^(BZ key y (j/16)).l.getD (j%16) default:=by
 simp [lJ,List.getD,h]
theorem Jo {key:B16} {y:Non} {a:Option Addr} {c:Nat} {d:Dig}:Zp Tryz.prog 193 [vA (fz key),vA (cz y),vI 0, .slice a 32 c] [] [Sl cB a 32 c d.l] Nat (fun _=>True) (fun b=> .tuple #[.slice (some ⟨b,0,none⟩) 32 32,vI 0]) (fun b=> [iB b (b8 (lJ key y d.l)) 5]) (fun _=> []):=by
 refine an fun G=> ?_
 refine bc 0 ?_
 intro hn hc hm ha
 have hd:=d.h
 obtain ⟨sb,o,rfl⟩:=ha (by omega) (by decide)
 (repeat' ((try refine au ?_);(conv=>arg 4;whnf);first | refine ax ?_ |(refine sN ?_;intro b)|(refine sC ?_ ?_<;>intro h)|(refine ar ?_ ?_<;>intro h<;>try contradiction)|(refine aa ?_;intro g c')|((first | refine ay (D8 (o:=0) (n:=32) (by decide)) ?_ | refine ay Gb ?_);intro x hx;refine aN ?_)| refine ae ?_ | refine ai ?_ | exact aw |(refine ak rfl ?_;intro D lL)| refine ah ?_ ?_ | refine aj ?_ ?_ ?_ | fail));(all_goals refine av ?_)
 rename_i kb yb rb eb ob tb ab kp k2 y2 cb
 revert b;intro zb
 have hX:(lJ key y d.l).length=32:=by rw [Ch,hd]
 refine eV kp [.int .i64 ((0:Nat):Int)] rfl ?_
 refine eV cb [.int .u32 ((0:Nat):Int)] rfl ?_
 refine eV ob (b8 (ij (lJ key y d.l) d.l 0)) (by rw [fZ,cu,Nat.min_self,List.take_of_length_le (by omega)]) ?_
 refine ji 3 (cM ?_)
 (repeat' ((try refine au ?_);(conv=>arg 4;whnf);first | refine cp ?_ |(refine sN ?_;intro b)|(refine sC ?_ ?_<;>intro h)|(refine ar ?_ ?_<;>intro h<;>try contradiction)|(refine aa ?_;intro g c')| refine ae ?_ | refine ai ?_ | exact aw |(refine ak rfl ?_;intro D lL)| refine ah ?_ ?_ | refine aj ?_ ?_ ?_ | fail));(all_goals refine av ?_)
 refine jf [iB zb (qF key) 504,iB y2 (cz y) 65,iB cb [.int .u32 ((0:Nat):Int)] 63] [] eG (fun _ h=>by cases h) rfl ?_
 (repeat' ((try refine au ?_);(conv=>arg 4;whnf);first | refine ax ?_ |(refine sN ?_;intro b)|(refine sC ?_ ?_<;>intro h)|(refine ar ?_ ?_<;>intro h<;>try contradiction)|(refine aa ?_;intro g c')|((first | refine ay (Au (y:=y) (c:=0) (by decide)) ?_ | refine ay tF ?_);intro x hx;refine aN ?_)| refine ae ?_ | refine ai ?_ | exact aw |(refine ak rfl ?_;intro D lL)| refine ah ?_ ?_ | refine aj ?_ ?_ ?_ | fail));(all_goals refine av ?_)
 have hk0:=(BZ key y 0).h
 have he0:∀i,i<16→(ij (lJ key y d.l) d.l i).getD i default^^^(BZ key y 0).l.getD i default=(lJ key y d.l).getD i default:=fun i hi=>by
  rw [pr (by omega) (Nat.le_refl _) (by omega)]
  rw [show (lJ key y d.l).getD i default=_ from w8 (by omega),show i/16=0 by omega,show i%16=i by omega]
 rw [show ye (fq key 10) (qX y 0)=BZ key y 0 from rfl]
 rw [show 0+0*1=0 from rfl]
 refine eA [ab,ob] (X:=Nat) (fun i=> [(47,vI i)]) (fun i=>i≤16) (fun i=> [iB ab [vI i] 3,iB ob (b8 (ij (lJ key y d.l) d.l i)) 5]) (fun i=>16-i) 0 (Nat.zero_le _) rfl (by ((repeat' (first | with_reducible exact am _ | exact af _ | refine aB ?_ ?_ | refine aD inferInstance ?_ | refine aI ?_))<;>(try with_reducible rfl));rfl) ?_
 intro i hi
 (conv=>arg 2;simp only [List.cons_append,List.nil_append])
 have hT:(ij (lJ key y d.l) d.l i).length=32:=by rw [gj (by omega) (by omega),hd]
 by_cases h2:i<16
 ·(repeat' ((try refine au ?_);(conv=>arg 4;whnf);first | refine ax ?_ |(refine sN ?_;intro b)|(refine sC ?_ ?_<;>intro h)|(refine ar ?_ ?_<;>intro h<;>try contradiction)|(refine aa ?_;intro g c')| refine ae ?_ | refine ai ?_ | exact aw |(refine ak rfl ?_;intro D lL)| refine ah ?_ ?_ | refine aj ?_ ?_ ?_ | fail));(all_goals refine av ?_)
  refine bj (i+1) rfl (by omega) ?_ (by omega)
  ((repeat' (first | with_reducible exact am _ | exact af _ | refine aB ?_ ?_ | refine aD inferInstance ?_ | refine aI ?_))<;>(try with_reducible rfl))
  rw [he0 i h2,fE (by omega) (by omega) rfl]
 obtain rfl:i=16:=by omega
 (repeat' ((try refine au ?_);(conv=>arg 4;whnf);first | refine cp ?_ |(refine sN ?_;intro b)|(refine sC ?_ ?_<;>intro h)|(refine ar ?_ ?_<;>intro h<;>try contradiction)|(refine aa ?_;intro g c')| refine ae ?_ | refine ai ?_ | exact aw |(refine ak rfl ?_;intro D lL)| refine ah ?_ ?_ | refine aj ?_ ?_ ?_ | fail));(all_goals refine av ?_)
 refine eV cb [.int .u32 ((1:Nat):Int)] rfl ?_
 refine eV kp [.int .i64 ((0:Nat):Int)] rfl ?_
 refine cM ?_
 (repeat' ((try refine au ?_);(conv=>arg 4;whnf);first | refine cp ?_ |(refine sN ?_;intro b)|(refine sC ?_ ?_<;>intro h)|(refine ar ?_ ?_<;>intro h<;>try contradiction)|(refine aa ?_;intro g c')| refine ae ?_ | refine ai ?_ | exact aw |(refine ak rfl ?_;intro D lL)| refine ah ?_ ?_ | refine aj ?_ ?_ ?_ | fail));(all_goals refine av ?_)
 refine jf [iB zb (qF key) 504,iB y2 (cz y) 65,iB cb [.int .u32 ((1:Nat):Int)] 63] [] eG (fun _ h=>by cases h) rfl ?_
 (repeat' ((try refine au ?_);(conv=>arg 4;whnf);first | refine ax ?_ |(refine sN ?_;intro b)|(refine sC ?_ ?_<;>intro h)|(refine ar ?_ ?_<;>intro h<;>try contradiction)|(refine aa ?_;intro g c')|((first | refine ay (Au (y:=y) (c:=1) (by decide)) ?_ | refine ay tF ?_);intro x hx;refine aN ?_)| refine ae ?_ | refine ai ?_ | exact aw |(refine ak rfl ?_;intro D lL)| refine ah ?_ ?_ | refine aj ?_ ?_ ?_ | fail));(all_goals refine av ?_)
 have hk1:=(BZ key y 1).h
 have he1:∀i,i<16→(ij (lJ key y d.l) d.l (16+i)).getD (16+i) default^^^(BZ key y 1).l.getD i default=(lJ key y d.l).getD (16+i) default:=fun i hi=>by
  rw [pr (by omega) (Nat.le_refl _) (by omega)]
  rw [show (lJ key y d.l).getD (16+i) default=_ from w8 (by omega),show (16+i)/16=1 by omega,show (16+i)%16=i by omega]
 rw [show ye (fq key 10) (qX y 1)=BZ key y 1 from rfl]
 rw [show 0+0*1=0 from rfl]
 refine eA [ab,ob] (X:=Nat) (fun i=> [(47,vI i)]) (fun i=>i≤16) (fun i=> [iB ab [vI (16+i)] 3,iB ob (b8 (ij (lJ key y d.l) d.l (16+i))) 5]) (fun i=>16-i) 0 (Nat.zero_le _) rfl eG ?_
 intro i hi
 (conv=>arg 2;simp only [List.cons_append,List.nil_append])
 have hT:(ij (lJ key y d.l) d.l (16+i)).length=32:=by rw [gj (by omega) (by omega),hd]
 by_cases h2:i<16
 ·(repeat' ((try refine au ?_);(conv=>arg 4;whnf);first | refine ax ?_ |(refine sN ?_;intro b)|(refine sC ?_ ?_<;>intro h)|(refine ar ?_ ?_<;>intro h<;>try contradiction)|(refine aa ?_;intro g c')| refine ae ?_ | refine ai ?_ | exact aw |(refine ak rfl ?_;intro D lL)| refine ah ?_ ?_ | refine aj ?_ ?_ ?_ | fail));(all_goals refine av ?_)
  refine bj (i+1) rfl (by omega) ?_ (by omega)
  ((repeat' (first | with_reducible exact am _ | exact af _ | refine aB ?_ ?_ | refine aD inferInstance ?_ | refine aI ?_))<;>(try with_reducible rfl))
  all_goals first |(rw [he1 i h2,fE (by omega) (by omega) rfl];done)|(rw [he1 i h2,fE (by omega) (by omega) rfl];rfl)| rfl
 obtain rfl:i=16:=by omega
 (repeat' ((try refine au ?_);(conv=>arg 4;whnf);first | refine cp ?_ |(refine sN ?_;intro b)|(refine sC ?_ ?_<;>intro h)|(refine ar ?_ ?_<;>intro h<;>try contradiction)|(refine aa ?_;intro g c')| refine ae ?_ | refine ai ?_ | exact aw |(refine ak rfl ?_;intro D lL)| refine ah ?_ ?_ | refine aj ?_ ?_ ?_ | fail));(all_goals refine av ?_)
 refine eV cb [.int .u32 ((2:Nat):Int)] rfl ?_
 refine eV kp [.int .i64 ((0:Nat):Int)] rfl ?_
 refine eV ab [vI 32] rfl ?_
 refine cM ?_
 (repeat' ((try refine au ?_);(conv=>arg 4;whnf);first | refine cp ?_ |(refine sN ?_;intro b)|(refine sC ?_ ?_<;>intro h)|(refine ar ?_ ?_<;>intro h<;>try contradiction)|(refine aa ?_;intro g c')| refine ae ?_ | refine ai ?_ | exact aw |(refine ak rfl ?_;intro D lL)| refine ah ?_ ?_ | refine aj ?_ ?_ ?_ | fail));(all_goals refine av ?_)
 refine jf [iB zb (qF key) 504,iB y2 (cz y) 65,iB cb [.int .u32 ((2:Nat):Int)] 63] [] eG (fun _ h=>by cases h) rfl ?_
 (repeat' ((try refine au ?_);(conv=>arg 4;whnf);first | refine ax ?_ |(refine sN ?_;intro b)|(refine sC ?_ ?_<;>intro h)|(refine ar ?_ ?_<;>intro h<;>try contradiction)|(refine aa ?_;intro g c')|((first | refine ay (Au (y:=y) (c:=2) (by decide)) ?_ | refine ay tF ?_);intro x hx;refine aN ?_)| refine ae ?_ | refine ai ?_ | exact aw |(refine ak rfl ?_;intro D lL)| refine ah ?_ ?_ | refine aj ?_ ?_ ?_ | fail));(all_goals refine av ?_)
 have hk2:=(ye (fq key 10) (qX y 2)).h
 have hT:(ij (lJ key y d.l) d.l (16+16)).length=32:=by rw [gj (by omega) (by omega),hd]
 rw [show 0+0*1=0 from rfl]
 refine ji 1 (cM ?_)
 (repeat' ((try refine au ?_);(conv=>arg 4;whnf);first | refine ax ?_ |(refine sN ?_;intro b)|(refine sC ?_ ?_<;>intro h)|(refine ar ?_ ?_<;>intro h<;>try contradiction)|(refine aa ?_;intro g c')| refine ae ?_ | refine ai ?_ | exact aw |(refine ak rfl ?_;intro D lL)| refine ah ?_ ?_ | refine aj ?_ ?_ ?_ | fail));(all_goals refine av ?_)
 rw [show ij (lJ key y d.l) d.l (16+16)=lJ key y d.l from hJ (by omega) (by omega)]
 exact aG ob True.intro rfl (by ((repeat' (first | with_reducible exact am _ | exact af _ | refine aB ?_ ?_ | refine aD inferInstance ?_))<;>(try with_reducible rfl)))
end Go.Proofs.YtbobhnldhpjdlaaGreatDoor
namespace Go.Proofs.YtbobhnldhpjdlaaGreatDoor
open Go Go.RowKit Go.Cs Go.Cz
set_option maxRecDepth 100000
set_option maxHeartbeats 1000000
theorem Bj {i:Nat} {y:Non} {d:Dig} (hi:i<4096):Zp Tryz.prog 90 [vI i,vA (cz y),vA (aE d)] [] [] Nat (fun _=>True) (fun b=> .slice (some ⟨b,0,none⟩) 48 48) (fun b=> [iB b (b8 (gb i y d)) 5]) (fun _=> []):=by
 refine an fun G=> ?_
 have h1:i<4294967296:=by omega
 have hd:=d.h
 have hnl:=fV y
 have e: [be i 4,fC y,d.l].flatten=gb i y d:=by simp [gb,fC,List.append_assoc]
 have hl:(gb i y d).length=48:=by simp [gb,d.h]
 have hle: [be i 4,fC y,d.l].flatten.length≤1099511627776:=by rw [e,hl];decide
 (repeat' ((try refine au ?_);(conv=>arg 4;whnf);first | refine ax ?_ |(refine sN ?_;intro b)|(refine sC ?_ ?_<;>intro h)|(refine ar ?_ ?_<;>intro h<;>try contradiction)|(refine aa ?_;intro g c')|((first | refine ay (jZ (v:=i) h1) ?_ | refine ay tq ?_ | refine ay (jx (ls:= [be i 4,fC y,d.l]) hle) ?_);intro x hx;refine aN ?_)| refine ae ?_ | refine ai ?_ | exact aw |(refine ak rfl ?_;intro D lL)| refine ah ?_ ?_ | refine aj ?_ ?_ ?_ | fail));(all_goals refine av ?_)
 all_goals refine aG x True.intro (by rw [e,hl];rfl) ?_
 all_goals rw [e]
 all_goals ((repeat' (first | with_reducible exact am _ | exact af _ | refine aB ?_ ?_ | refine aD inferInstance ?_))<;>(try with_reducible rfl))
theorem BF {k:Key} {y:Non} {d:Dig}:Zp Tryz.prog 89 [vA (cf k),vA (cz y),vA (aE d)] [] [] Unit (fun _=>True) (fun _=>vA (aE (cG k y d))) (fun _=> []) (fun _=> []):=by
 refine an fun G=> ?_
 (repeat' ((try refine au ?_);(conv=>arg 4;whnf);first | refine ax ?_ |(refine sN ?_;intro b)|(refine sC ?_ ?_<;>intro h)|(refine ar ?_ ?_<;>intro h<;>try contradiction)|(refine aa ?_;intro g c')|(refine ay (Jo (d:=d)) ?_;intro x hx;refine aN ?_)| refine ae ?_ | refine ai ?_ | exact aw |(refine ak rfl ?_;intro D lL)| refine ah ?_ ?_ | refine aj ?_ ?_ ?_ | fail));(all_goals refine av ?_)
theorem m6 {k:Key} {i:Nat} {y:Non} {d:Dig} {q:Value×Value} (hi:i<4096):Zp Tryz.prog 19 [vA (cf k),vI i,vA (cz y),vA (aE d)] [] [Gs q] Unit (fun _=>True) (fun _=> .tuple #[vA (aE (cG k y d)),vA (aE (fA k i y (cG k y d))),vI 0]) (fun _=> []) (fun _=> []):=by
 refine an fun G=> ?_
 have hk:k.mac.l.length≤64:=by rw [k.mac.h];decide
 have e: [gb i y (cG k y d)].flatten=gb i y (cG k y d):=by simp
 have hkl:=k.mac.h
 have hml:(gb i y (cG k y d)).length=48:=by simp [gb,Dig.h]
 have hm: [gb i y (cG k y d)].flatten.length≤576460752303423488:=by rw [e];simp [gb,Dig.h]
 (repeat' ((try refine au ?_);(conv=>arg 4;whnf);first | refine cp ?_ |(refine sN ?_;intro b)|(refine sC ?_ ?_<;>intro h)|(refine ar ?_ ?_<;>intro h<;>try contradiction)|(refine aa ?_;intro g c')|(refine ay BF ?_;intro x hx;refine aN ?_)| refine ae ?_ | refine ai ?_ | exact aw |(refine ak rfl ?_;intro D lL)| refine ah ?_ ?_ | refine aj ?_ ?_ ?_ | fail));(all_goals refine av ?_)
 (refine dT ?_;(conv=>arg 4;whnf);refine d5 rfl ?_)
 (repeat' ((try refine au ?_);(conv=>arg 4;whnf);first | refine cp ?_ |(refine sN ?_;intro b)|(refine sC ?_ ?_<;>intro h)|(refine ar ?_ ?_<;>intro h<;>try contradiction)|(refine aa ?_;intro g c')|((first | refine ay (Bj hi) ?_ | refine ay (ra (l:=k.mac.l) (ls:= [gb i y (cG k y d)]) hk hm) ?_);intro x hx;refine aN ?_)| refine ae ?_ | refine ai ?_ | exact aw |(refine ak rfl ?_;intro D lL)| refine ah ?_ ?_ | refine aj ?_ ?_ ?_ | fail));(all_goals refine av ?_)
 rw [e]
 refine GB rfl ?_
 (repeat' ((try refine au ?_);(conv=>arg 4;whnf);first | refine ax ?_ |(refine sN ?_;intro b)|(refine sC ?_ ?_<;>intro h)|(refine ar ?_ ?_<;>intro h<;>try contradiction)|(refine aa ?_;intro g c')| refine ae ?_ | refine ai ?_ | exact aw |(refine ak rfl ?_;intro D lL)| refine ah ?_ ?_ | refine aj ?_ ?_ ?_ | fail));(all_goals refine av ?_)
theorem tH {k:Key} {i:Nat} {y:Non} {d t:Dig} {q:Value×Value} (hi:i<4096) (ht:fA k i y d=t):Zp Tryz.prog 20 [vA (cf k),vI i,vA (cz y),vA (aE d),vA (aE t)] [] [Gs q] Unit (fun _=>True) (fun _=> .tuple #[vA (aE (cG k y d)),vI 0]) (fun _=> []) (fun _=> []):=by
 refine an fun G=> ?_
 have hkl:=k.mac.h
 have hk:k.mac.l.length≤64:=by rw [k.mac.h];decide
 have hl:(gb i y d).length=48:=by simp [gb,d.h]
 have hm:(gb i y d).length≤576460752303423488:=by omega
 have hB:((fg k.mac.l (gb i y d)).l==t.l)=true:=by subst ht;simp [fA]
 (repeat' ((try refine au ?_);(conv=>arg 4;whnf);first | refine ax ?_ |(refine sN ?_;intro b)|(refine sC ?_ ?_<;>intro h)|(refine ar ?_ ?_<;>intro h<;>try contradiction)|(refine aa ?_;intro g c')|((first | refine ay (Bj hi) ?_ | refine ay (EE (t:=t) hk hm) ?_ | refine ay BF ?_);intro x hx;refine aN ?_)| refine ae ?_ | refine ai ?_ | exact aw |(refine ak rfl ?_;intro D lL)| refine ah ?_ ?_ | refine aj ?_ ?_ ?_ | fail));(all_goals refine av ?_)
 rw [hB]
 (repeat' ((try refine au ?_);(conv=>arg 4;whnf);first | refine ax ?_ |(refine sN ?_;intro b)|(refine sC ?_ ?_<;>intro h)|(refine ar ?_ ?_<;>intro h<;>try contradiction)|(refine aa ?_;intro g c')|(refine ay BF ?_;intro x hx;refine aN ?_)| refine ae ?_ | refine ai ?_ | exact aw |(refine ak rfl ?_;intro D lL)| refine ah ?_ ?_ | refine aj ?_ ?_ ?_ | fail));(all_goals refine av ?_)
theorem sU {k:Key} {i:Nat} {y:Non} {d t:Dig} {q:Value×Value} (hi:i<4096) (ht:¬fA k i y d=t):Zp Tryz.prog 20 [vA (cf k),vI i,vA (cz y),vA (aE d),vA (aE t)] [] [Gs q] Unit (fun _=>True) (fun _=> .tuple #[vA (aE Dig.zero),vI 9]) (fun _=> []) (fun _=> []):=by
 refine an fun G=> ?_
 have hkl:=k.mac.h
 have hk:k.mac.l.length≤64:=by rw [k.mac.h];decide
 have hl:(gb i y d).length=48:=by simp [gb,d.h]
 have hm:(gb i y d).length≤576460752303423488:=by omega
 have hB:((fg k.mac.l (gb i y d)).l==t.l)=false:=by
  rw [beq_eq_false_iff_ne];exact fun g=>ht (Dig.ext' g)
 (repeat' ((try refine au ?_);(conv=>arg 4;whnf);first | refine ax ?_ |(refine sN ?_;intro b)|(refine sC ?_ ?_<;>intro h)|(refine ar ?_ ?_<;>intro h<;>try contradiction)|(refine aa ?_;intro g c')|((first | refine ay (Bj hi) ?_ | refine ay (EE (t:=t) hk hm) ?_);intro x hx;refine aN ?_)| refine ae ?_ | refine ai ?_ | exact aw |(refine ak rfl ?_;intro D lL)| refine ah ?_ ?_ | refine aj ?_ ?_ ?_ | fail));(all_goals refine av ?_)
 rw [hB]
 (repeat' ((try refine au ?_);(conv=>arg 4;whnf);first | refine ax ?_ |(refine sN ?_;intro b)|(refine sC ?_ ?_<;>intro h)|(refine ar ?_ ?_<;>intro h<;>try contradiction)|(refine aa ?_;intro g c')| refine ae ?_ | refine ai ?_ | exact aw |(refine ak rfl ?_;intro D lL)| refine ah ?_ ?_ | refine aj ?_ ?_ ?_ | fail));(all_goals refine av ?_)
end Go.Proofs.YtbobhnldhpjdlaaGreatDoor
