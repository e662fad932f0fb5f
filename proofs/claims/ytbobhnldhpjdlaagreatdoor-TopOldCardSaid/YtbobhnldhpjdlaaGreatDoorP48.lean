/- Lemmas and walks: what each function does, by its own code. No condition beyond those of each statement. -/
import Derived.Test.YtbobhnldhpjdlaaGreatDoorP16
import Derived.Test.YtbobhnldhpjdlaaGreatDoorP22
import Derived.Test.YtbobhnldhpjdlaaGreatDoorP39
import Derived.Test.YtbobhnldhpjdlaaGreatDoorP46
set_option linter.all false
set_option linter.unusedVariables false
namespace Go.Proofs.YtbobhnldhpjdlaaGreatDoor
open Go Go.RowKit Go.Cs Go.Cz
set_option maxRecDepth 100000
set_option maxHeartbeats 4000000
def C1 (v:UInt8):List UInt8:=(List.range 32).map fun i=>v*UInt8.ofNat (i+1)
def gc (v:UInt8):Dig:=⟨C1 v,by simp [C1]⟩
theorem Ev {v:UInt8}:Zp Tryz.prog 11 [.int .u8 (v.toNat:Int)] [] [] Unit (fun _=>True) (fun _=>vA (ay (gc v))) (fun _=> []) (fun _=> []):=by
 refine ak fun G=> ?_
 (repeat' ((try refine aw ?_);(conv=>arg 4;whnf);first | refine az ?_ |(refine sN ?_;intro b)|(refine sC ?_ ?_<;>intro h)|(refine au ?_ ?_<;>intro h<;>try contradiction)|(refine aa ?_;intro g c')| refine ae ?_ | refine ai ?_ | exact ax |(refine aj rfl ?_;intro D lL)| refine af ?_ ?_ | refine ah ?_ ?_ ?_ | fail));(all_goals refine av ?_)
 rename_i rb
 refine fL b (bE (List.replicate 32 0)) rfl ?_
 refine dh [b] (X:=Nat) (fun i=> [(4,vI i)]) (fun i=>i≤32) (fun i=> [iB b (bE ((List.range 32).map fun j=>if j<i then v*UInt8.ofNat (j+1) else 0)) 52]) (fun i=>32-i) 0 (Nat.zero_le _) rfl (by
  ((repeat' (first | with_reducible exact ar _ | exact am _ | refine aE ?_ ?_ | refine aG inferInstance ?_ | refine aX ?_))<;>(try with_reducible rfl))
  all_goals rfl) ?_
 intro i hi
 (conv=>arg 2;simp only [List.cons_append,List.nil_append])
 by_cases hlt:i<32
 ·(repeat' ((try refine aw ?_);(conv=>arg 4;whnf);first | refine az ?_ |(refine sN ?_;intro b)|(refine sC ?_ ?_<;>intro h)|(refine au ?_ ?_<;>intro h<;>try contradiction)|(refine aa ?_;intro g c')| refine ae ?_ | refine ai ?_ | exact ax |(refine aj rfl ?_;intro D lL)| refine af ?_ ?_ | refine ah ?_ ?_ ?_ | fail));(all_goals refine av ?_)
  have e:Value.int .u8 ((i+1:Nat):Int)=vb (UInt8.ofNat (i+1)):=by
   show Value.int .u8 ((i+1:Nat):Int)=Value.int .u8 (((UInt8.ofNat (i+1)).toNat:Nat):Int)
   rw [UInt8.toNat_ofNat',Nat.mod_eq_of_lt (by omega)]
  rw [e]
  (repeat' ((try refine aw ?_);(conv=>arg 4;whnf);first | refine az ?_ |(refine sN ?_;intro b)|(refine sC ?_ ?_<;>intro h)|(refine au ?_ ?_<;>intro h<;>try contradiction)|(refine aa ?_;intro g c')| refine ae ?_ | refine ai ?_ | exact ax |(refine aj rfl ?_;intro D lL)| refine af ?_ ?_ | refine ah ?_ ?_ ?_ | fail));(all_goals refine av ?_)
  refine jV (i+1) hlt ?_ (by omega)
  have e2:((List.range 32).map fun j=>if j<i then v*UInt8.ofNat (j+1) else 0).set i (v*UInt8.ofNat (i+1))=(List.range 32).map fun j=>if j<i+1 then v*UInt8.ofNat (j+1) else 0:=by
   refine List.ext_getElem (by simp) fun k h1 h2=> ?_
   simp only [List.getElem_set,List.getElem_map,List.getElem_range]
   by_cases hk:i=k
   ·subst hk;rw [if_pos rfl,if_pos (by omega)]
   ·rw [if_neg hk]
    by_cases hk2:k<i
    ·rw [if_pos hk2,if_pos (by omega)]
    ·rw [if_neg hk2,if_neg (by omega)]
  rw [←e2]
  ((repeat' (first | with_reducible exact ar _ | exact am _ | refine aE ?_ ?_ | refine aG inferInstance ?_ | refine aX ?_))<;>(try with_reducible rfl))
 ·obtain rfl:i=32:=by omega
  have e2:((List.range 32).map fun j=>if j<32 then v*UInt8.ofNat (j+1) else 0)=(gc v).l:=by
   show _=C1 v
   unfold C1
   exact List.map_congr_left fun j hj=>if_pos (List.mem_range.1 hj)
  rw [e2]
  refine fL b (ay (gc v)) rfl ?_
  (repeat' ((try refine aw ?_);(conv=>arg 4;whnf);first | refine az ?_ |(refine sN ?_;intro b)|(refine sC ?_ ?_<;>intro h)|(refine au ?_ ?_<;>intro h<;>try contradiction)|(refine aa ?_;intro g c')| refine ae ?_ | refine ai ?_ | exact ax |(refine aj rfl ?_;intro D lL)| refine af ?_ ?_ | refine ah ?_ ?_ ?_ | fail));(all_goals refine av ?_)
section
variable {p:PS} {M:ML} {T:Nat} {q:Value×Value}
theorem POk.fls (hP:POk p T) (hT:T<1000):POk p.fls (T+1):=by
 have h1:=hP.ep
 have h2:=hP.logm
 refine ⟨hP.work.flush (by omega),hP.aok,hP.shn, ?_, ?_,Nat.le_succ_of_le hP.usm,hT, ?_,hP.mkc,hP.use, ?_,hP.sec⟩
 ·show 0<(p.log++ [p.cell.nxt (cq p.L (bZ p.n p.c p.s))]).length;simp
 ·show (p.log++ [p.cell.nxt (cq p.L (bZ p.n p.c p.s))]).length≤_;simp;omega
 ·show (p.log++ [p.cell.nxt (cq p.L (bZ p.n p.c p.s))]).getD ((p.log++ [p.cell.nxt (cq p.L (bZ p.n p.c p.s))]).length-1) default=p.cell.nxt (cq p.L (bZ p.n p.c p.s));simp [List.getD]
 ·show (p.cell.ep+1)%2^64≤(p.log++ [p.cell.nxt (cq p.L (bZ p.n p.c p.s))]).length;simp;omega
theorem HY:Zp Tryz.prog 14 [vA (aB (c8 p M))] [] [] Unit (fun _=>True) (fun _=>vA (aJ M.d)) (fun _=> []) (fun _=> []):=by
 unfold c8
 refine ak fun G=> ?_
 (repeat' ((try refine aw ?_);(conv=>arg 4;whnf);first | refine az ?_ |(refine sN ?_;intro b)|(refine sC ?_ ?_<;>intro h)|(refine au ?_ ?_<;>intro h<;>try contradiction)|(refine aa ?_;intro g c')| refine ae ?_ | refine ai ?_ | exact ax |(refine aj rfl ?_;intro D lL)| refine af ?_ ?_ | refine ah ?_ ?_ ?_ | fail));(all_goals refine av ?_)
theorem EF (hP:POk p T):Zp Tryz.prog 49 [vA (aB (c8 p M))] [] [Sl aL (some ⟨M.lb,0,none⟩) p.log.length M.lc p.log] Nat (fun _=>True) (fun b=> .slice (some ⟨b,0,none⟩) p.log.length p.log.length) (fun _=> []) (fun b=> [Sl aL (some ⟨b,0,none⟩) p.log.length p.log.length p.log]):=by
 have h0:=hP.log0
 have h1:=hP.logm
 have h2:=hP.hT
 unfold c8
 refine ak fun G=> ?_
 refine aS 0 ?_
 intro _ hcl hml _
 (repeat' ((try refine aw ?_);(conv=>arg 4;whnf);first | refine az ?_ |(refine sN ?_;intro b)|(refine sC ?_ ?_<;>intro h)|(refine au ?_ ?_<;>intro h<;>try contradiction)|(refine aa ?_;intro g c')| refine ae ?_ | refine ai ?_ | exact ax |(refine aj rfl ?_;intro D lL)| refine af ?_ ?_ | refine ah ?_ ?_ ?_ | fail));(all_goals refine av ?_)
 rw [Nat.zero_add,List.nil_append]
 refine eE (m:=34) (e:=80) aL (some ⟨g,0,none⟩) p.log.length c' ?_
 refine aS 0 ?_
 intro _ hcl2 hml2 _
 (repeat' ((try refine aw ?_);(conv=>arg 4;whnf);first | refine az ?_ |(refine sN ?_;intro b)|(refine sC ?_ ?_<;>intro h)|(refine au ?_ ?_<;>intro h<;>try contradiction)|(refine aa ?_;intro g c')| refine ae ?_ | refine ai ?_ | exact ax |(refine aj rfl ?_;intro D lL)| refine af ?_ ?_ | refine ah ?_ ?_ ?_ | fail));(all_goals refine av ?_)
 refine je 0 ?_
 exact aD g True.intro rfl (am _) bu
end
end Go.Proofs.YtbobhnldhpjdlaaGreatDoor
namespace Go.Proofs.YtbobhnldhpjdlaaGreatDoor
open Go Go.RowKit Go.Cs Go.Cz
set_option maxRecDepth 100000
set_option maxHeartbeats 4000000
end Go.Proofs.YtbobhnldhpjdlaaGreatDoor
