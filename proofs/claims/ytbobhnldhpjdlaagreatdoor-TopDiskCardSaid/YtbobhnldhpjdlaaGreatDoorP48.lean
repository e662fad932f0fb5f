/- Lemmas and walks: what each function does, by its own code. No condition beyond those of each statement. -/
import Derived.Test.YtbobhnldhpjdlaaGreatDoorP17
import Derived.Test.YtbobhnldhpjdlaaGreatDoorP18
import Derived.Test.YtbobhnldhpjdlaaGreatDoorP24
import Derived.Test.YtbobhnldhpjdlaaGreatDoorP42
set_option linter.all false
set_option linter.unusedVariables false
namespace Go.Proofs.YtbobhnldhpjdlaaGreatDoor
open Go Go.RowKit Go.Cs Go.Cz
set_option maxRecDepth 100000
set_option maxHeartbeats 4000000
def C1 (v:UInt8):List UInt8:=(List.range 32).map fun i=>v*UInt8.ofNat (i+1)
def gc (v:UInt8):Dig:=⟨C1 v,by simp [C1]⟩
theorem Ev {v:UInt8}:Zp Tryz.prog 11 [.int .u8 (v.toNat:Int)] [] [] Unit (fun _=>True) (fun _=>vA (ay (gc v))) (fun _=> []) (fun _=> []):=by
 refine ak fun G=> ?_
 (repeat' ((try refine aw ?_);(conv=>arg 4;whnf);first | refine az ?_ |(refine sN ?_;intro b)| exact ax | fail));(all_goals refine av ?_)
 rename_i rb
 refine fL b (bE (List.replicate 32 0)) rfl ?_
 refine dh [b] (X:=Nat) (fun i=> [(4,vI i)]) (fun i=>i≤32) (fun i=> [iB b (bE ((List.range 32).map fun j=>if j<i then v*UInt8.ofNat (j+1) else 0)) 52]) (fun i=>32-i) 0 (Nat.zero_le _) rfl (by
  ((repeat' (first | with_reducible exact ar _ | exact am _ | refine aE ?_ ?_ | fail))<;>(try with_reducible rfl))
  all_goals rfl) ?_
 intro i hi
 (conv=>arg 2;simp only [List.cons_append,List.nil_append])
 by_cases hlt:i<32
 ·(repeat' ((try refine aw ?_);(conv=>arg 4;whnf);first | refine az ?_ |(refine sN ?_;intro b)| exact ax | fail));(all_goals refine av ?_)
  have e:Value.int .u8 ((i+1:Nat):Int)=vb (UInt8.ofNat (i+1)):=by
   show Value.int .u8 ((i+1:Nat):Int)=Value.int .u8 (((UInt8.ofNat (i+1)).toNat:Nat):Int)
   rw [UInt8.toNat_ofNat',Nat.mod_eq_of_lt (by omega)]
  rw [e]
  (repeat' ((try refine aw ?_);(conv=>arg 4;whnf);first | refine az ?_ |(refine sN ?_;intro b)| exact ax | fail));(all_goals refine av ?_)
  refine jV (i+1) hlt ?_ (by omega)
  have e2:((List.range 32).map fun j=>if j<i then v*UInt8.ofNat (j+1) else 0).set i (v*UInt8.ofNat (i+1))=(List.range 32).map fun j=>if j<i+1 then v*UInt8.ofNat (j+1) else 0:=by
   refine List.ext_getElem (by simp) fun k h1 h2=> ?_
   simp only [List.getElem_set,List.getElem_map,List.getElem_range]
   by_cases hk:i=k
   ·subst hk;rw [if_pos rfl,if_pos (by omega)]
   ·rw [if_neg hk]
    by_cases hk2:k<i
    ·rw [if_pos hk2,if_pos (by omega)]
    ·rw [if_neg hk2,if_neg (by omega)]
  rw [←e2]
  ((repeat' (first | with_reducible exact ar _ | exact am _ | refine aE ?_ ?_ | fail))<;>(try with_reducible rfl))
 ·obtain rfl:i=32:=by omega
  have e2:((List.range 32).map fun j=>if j<32 then v*UInt8.ofNat (j+1) else 0)=(gc v).l:=by
   show _=C1 v
   unfold C1
   exact List.map_congr_left fun j hj=>if_pos (List.mem_range.1 hj)
  rw [e2]
  refine fL b (ay (gc v)) rfl ?_
  (repeat' ((try refine aw ?_);(conv=>arg 4;whnf);first | refine az ?_ |(refine sN ?_;intro b)| exact ax | fail));(all_goals refine av ?_)
section
variable {p:PS} {M:ML} {T:Nat} {q:Value×Value}
theorem POk.fls (hP:POk p T) (hT:T<1000):POk p.fls (T+1):=by
 have h1:=hP.ep
 have h2:=hP.logm
 refine ⟨hP.work.flush (by omega),hP.aok,hP.shn, ?_, ?_,Nat.le_succ_of_le hP.usm,hT, ?_,hP.mkc,hP.use, ?_,hP.sec⟩
 ·show 0<(p.log++ [p.cell.nxt (cq p.L (bZ p.n p.c p.s))]).length;simp
 ·show (p.log++ [p.cell.nxt (cq p.L (bZ p.n p.c p.s))]).length≤_;simp;omega
 ·show (p.log++ [p.cell.nxt (cq p.L (bZ p.n p.c p.s))]).getD ((p.log++ [p.cell.nxt (cq p.L (bZ p.n p.c p.s))]).length-1) default=p.cell.nxt (cq p.L (bZ p.n p.c p.s));simp [List.getD]
 ·show (p.cell.ep+1)%2^64≤(p.log++ [p.cell.nxt (cq p.L (bZ p.n p.c p.s))]).length;simp;omega
theorem HY:Zp Tryz.prog 14 [vA (aB (c8 p M))] [] [] Unit (fun _=>True) (fun _=>vA (aJ M.d)) (fun _=> []) (fun _=> []):=by
 unfold c8
 refine ak fun G=> ?_
 (repeat' ((try refine aw ?_);(conv=>arg 4;whnf);first | refine az ?_ |(refine sN ?_;intro b)| exact ax | fail));(all_goals refine av ?_)
theorem EF (hP:POk p T):Zp Tryz.prog 49 [vA (aB (c8 p M))] [] [Sl aL (some ⟨M.lb,0,none⟩) p.log.length M.lc p.log] Nat (fun _=>True) (fun b=> .slice (some ⟨b,0,none⟩) p.log.length p.log.length) (fun _=> []) (fun b=> [Sl aL (some ⟨b,0,none⟩) p.log.length p.log.length p.log]):=by
 have h0:=hP.log0
 have h1:=hP.logm
 have h2:=hP.hT
 unfold c8
 refine ak fun G=> ?_
 refine aS 0 ?_
 intro _ hcl hml _
 (repeat' ((try refine aw ?_);(conv=>arg 4;whnf);first | refine az ?_ |(refine sN ?_;intro b)|(refine aa ?_;intro g c')| refine ae ?_ | fail));(all_goals refine av ?_)
 rw [Nat.zero_add,List.nil_append]
 refine eE (m:=34) (e:=80) aL (some ⟨g,0,none⟩) p.log.length c' ?_
 refine aS 0 ?_
 intro _ hcl2 hml2 _
 (repeat' ((try refine aw ?_);(conv=>arg 4;whnf);first | refine az ?_ |(refine sN ?_;intro b)|(refine aa ?_;intro g c')| refine ae ?_ | fail));(all_goals refine av ?_)
 refine je 0 ?_
 exact aD g True.intro rfl (am _) bu
end
end Go.Proofs.YtbobhnldhpjdlaaGreatDoor
namespace Go.Proofs.YtbobhnldhpjdlaaGreatDoor
open Go Go.RowKit Go.Cs Go.Cz
set_option maxRecDepth 100000
set_option maxHeartbeats 4000000
end Go.Proofs.YtbobhnldhpjdlaaGreatDoor
namespace Go.Proofs.YtbobhnldhpjdlaaGreatDoor
open Go Go.RowKit Go.Cs Go.Cz
set_option maxRecDepth 100000
set_option maxHeartbeats 4000000
def ii (v:UInt8):Dig:=⟨v::List.replicate 31 0,by simp⟩
instance (priority:=2000) {z:Int} [h:Ni z 1]:Ba 1 (ay Dig.zero) [(0, .int .u8 z)] (ay (ii 1)) True:=⟨fun _=>by cases h.ni;rfl⟩
theorem CH {sh lm rs:Nat} (h1:1≤sh) (h8:sh≤8) (hr1:1≤rs) (hr2:rs≤4294967296) (hrl:rs≤lm) (hl:lm<18446744073709551616):AOk ⟨(none,sh,sh),0,lm,rs⟩ (List.replicate sh 0):=
 ⟨by simpa using h1,by simpa using h8,Nat.zero_le _,hr1,hr2,hrl,hl,fun i hi=>by
  have:(List.replicate sh (0:UInt64)).getD i default=0:=by
   rw [List.getD_eq_getElem?_getD,List.getElem?_replicate,if_pos (by simpa using hi)];rfl
  rw [this];exact Nat.le_refl _⟩
def gD:PS:=opn 17 2 4 4 (ii 1)
theorem LI:POk gD 0:=AG (by decide) (by decide) (by decide) (by decide) (CH (by decide) (by decide) (by decide) (by decide) (by decide) (by decide))
theorem POk.wrt {p:PS} {T bi:Nat} {yd:Dig} (hP:POk p T) (hT:T<1000) (hb:bi<p.n) (hs:bi%p.al.length<4294967296) (hr:¬(p.al.getD (bi%p.al.length) default).toNat<p.mark→p.mark+p.rs≤p.lm):POk (p.wrt bi yd hs) (T+1):=
 have hsd:bi%p.al.length<p.al.length:=Nat.mod_lt _ hP.aok.l1
 have h2:POk ((p.res (bi%p.al.length)).tak (bi%p.al.length)) (T+1):=(hP.res hT hr).tak hsd (B4 hP hsd)
 h2.put hb (Nat.lt_succ_of_le hP.usm)
theorem zp {G:Gc} {O:List It} {F:List Pt} {C:Pt} (F0:List Pt) (hf:∀f∈F0,f∈F) (h:Tr G O F0 C):Tr G O F C:=⟨fun w hp=>h w (hp.wk (ar _) hf)⟩
def Hl:Dig:=Dig.of (gc 200).l
theorem GB:Hl=gc 200:=Dig.ext' (Dig.of_l (gc 200).h)
theorem F5:16%gD.al.length<4294967296:=by decide
def pC:PS:=gD.wrt 16 Hl F5
def em:PS:=pC.fls
theorem L6:POk pC 1:=LI.wrt (by decide) (by decide) F5 (fun _=>by decide)
theorem Ce:POk em 2:=L6.fls (by decide)
theorem MB:em.Lc.getD 16 Rec.zero=cE (zL 17) (Cs.fls 17) 16 (jT (16%gD.al.length) (gD.al.getD (16%gD.al.length) default) F5) (il (nv (ii 1)) 16 (jT (16%gD.al.length) (gD.al.getD (16%gD.al.length) default) F5) (cJ (nv (ii 1)) (jT (16%gD.al.length) (gD.al.getD (16%gD.al.length) default) F5) Hl)):=by
 show ((zL 17).set 16 _).getD 16 Rec.zero=_
 rw [List.getD_eq_getElem?_getD,List.getElem?_set_self (by simp [zL])];rfl
theorem IY:(em.Lc.getD 16 Rec.zero).st=1:=by
 rw [MB]
 show dX (zL 17) (Cs.fls 17) 16+1=1
 unfold dX
 rw [lY];rfl
theorem Lo:(em.Lc.getD 16 Rec.zero).non=Non.zero:=by
 rw [MB]
 rfl
theorem Jq:em.dur.getD 16 default=gc 200:=by
 show ((zD 17).set 16 Hl).getD 16 default=_
 rw [List.getD_eq_getElem?_getD,List.getElem?_set_self (by simp [zD])]
 exact GB
theorem LS:em.dur.getD 0 default=Dig.zero:=by
 show ((zD 17).set 16 Hl).getD 0 default=_
 rw [List.getD_eq_getElem?_getD,List.getElem?_set_ne (by decide),zD,List.getElem?_replicate];rfl
theorem Lt:em.dur.length=17:=by
 show ((zD 17).set 16 Hl).length=_
 simp [zD]
theorem MR:(cK 17 em.Lc em.s 16).length=3:=by
 obtain ⟨h1,h2⟩:=mz (n:=17) (L:=em.Lc) (s:=em.s) (bi:=16)
 have hh:hgt 17=2:=by decide
 have hno:∀l j,idx 16 l=j→bK em.Lc l j=true→False:=fun l j hj he=>by
  have hl:em.Lc.length=17:=Ce.work.int.ll
  have:=a9.1 he 16 (by rw [hl];decide) hj
  rw [IY] at this;cases this
 rw [hh] at h1
 refine Classical.byContradiction fun hne=> ?_
 have h3:(cK 17 em.Lc em.s 16).length=1∨(cK 17 em.Lc em.s 16).length=2:=by omega
 rcases h3 with h3 | h3
 ·exact hno _ _ rfl ((lQ (n:=17) (bi:=16) (L:=em.Lc) (s:=em.s) (by decide) (i:=0) (by omega) (by rw [hh];decide)).2 (by omega))
 ·exact hno _ _ rfl ((lQ (n:=17) (bi:=16) (L:=em.Lc) (s:=em.s) (by decide) (i:=1) (by omega) (by rw [hh];decide)).2 (by omega))
def Bo (b o:Nat) (cs:List Value):Pt:=fun w=>At w b o cs
instance {O:List It} {F:List Pt} {b o:Nat} {cs:List Value}:Ab O (Bo b o cs::F) b o cs True:=⟨fun _ w _ h=>h _ (.head _)⟩
section
variable {q:Value×Value}
theorem lvop:Zp Tryz.prog 10 [vA (bq ⟨17,2,0,0,4,4,ii 1,0⟩)] [] [Gs q] ML (fun z=>DM gD z 0) (fun z=> .tuple #[vA (aB (c8 gD z)),vI 0]) (fun _=> []) (fun z=>SFl gD z):=EJ (n:=17) (sh:=2) (fr:=0) (cl:=0) (lm:=4) (rs:=4) (ms:=ii 1) (fw:=0) (q:=q) (by decide) (by decide) (by decide) (by decide) (CH (by decide) (by decide) (by decide) (by decide) (by decide) (by decide))
theorem lvwr {M:ML} {xb:Nat} (hD:DM gD M 0):Zp Tryz.prog 12 [vA (aB (c8 gD M)),vI 16, .slice (some ⟨xb,0,none⟩) 32 32] [] (SFl gD M++ [Sl cB (some ⟨xb,0,none⟩) 32 32 (gc 200).l,Gs q]) ML (fun z=>DM pC z 1) (fun z=> .tuple #[vA (aB (c8 pC z)),vI 0]) (fun _=> []) (fun z=>SFl pC z):=E6 LI hD (by decide) (gc 200).h (by decide) F5 (fun _=>by decide)
theorem lvfl {M:ML} (hD:DM pC M 1):Zp Tryz.prog 34 [vA (aB (c8 pC M))] [] (SFl pC M++ [Gs q]) ML (fun z=>DM em z 2) (fun z=> .tuple #[vA (aB (c8 em z)),vI 0]) (fun _=> []) (fun z=>SFl em z):=Ea L6 hD (by decide)
theorem Jh {P0 P1 P2:PS} {K0:Key} {X0:Dig} (hpln:Zp Tryz.prog 11 [.int .u8 ((200:Nat):Int)] [] [] Unit (fun _=>True) (fun _=>vA (ay X0)) (fun _=> []) (fun _=> [])) (hvol:Zp Tryz.prog 13 [vA (ay (ii 1))] [] [Gs q] Unit (fun _=>True) (fun _=>vA (bC K0)) (fun _=> []) (fun _=> []))
  (hop:Zp Tryz.prog 10 [vA (bq ⟨17,2,0,0,4,4,ii 1,0⟩)] [] [Gs q] ML (fun z=>DM P0 z 0) (fun z=> .tuple #[vA (aB (c8 P0 z)),vI 0]) (fun _=> []) (fun z=>SFl P0 z))
  (hwr:∀(M:ML) (xb:Nat),DM P0 M 0→Zp Tryz.prog 12 [vA (aB (c8 P0 M)),vI 16, .slice (some ⟨xb,0,none⟩) 32 32] [] (SFl P0 M++ [Sl cB (some ⟨xb,0,none⟩) 32 32 X0.l,Gs q]) ML (fun z=>DM P1 z 1) (fun z=> .tuple #[vA (aB (c8 P1 z)),vI 0]) (fun _=> []) (fun z=>SFl P1 z))
  (hfl:∀(M:ML),DM P1 M 1→Zp Tryz.prog 34 [vA (aB (c8 P1 M))] [] (SFl P1 M++ [Gs q]) ML (fun z=>DM P2 z 2) (fun z=> .tuple #[vA (aB (c8 P2 z)),vI 0]) (fun _=> []) (fun z=>SFl P2 z))
  (Ce:POk P2 2) (hn:P2.n=17) (hk:P2.k=K0) (hdl:P2.dur.length=17) (hst:(P2.Lc.getD 16 Rec.zero).st=1) (hno:(P2.Lc.getD 16 Rec.zero).non=Non.zero) (hA3:(cK 17 P2.Lc P2.s 16).length=3) (h16:P2.dur.getD 16 default=X0) (h00:P2.dur.getD 0 default=Dig.zero)
  (h0l:P2.log.getD 0 default=gO 17) (hso:∀i,i+1<P2.log.length→Stp (P2.log.getD i default) (P2.log.getD (i+1) default)):Zp Tryz.prog 9 [] [] [Gs q] Unit (fun _=>True) (fun _=> .bool true) (fun _=> []) (fun _=> []):=by
 refine ak fun G=> ?_
 (repeat' ((try refine aw ?_);(conv=>arg 4;whnf);first | refine aO ?_ |(refine sN ?_;intro b)|(refine au ?_ ?_<;>intro h<;>try contradiction)|(refine aA hpln ?_;intro x hx;refine aH ?_)|(refine cw hop ?_;intro x hx;refine bV ?_)| exact ax | refine af ?_ ?_ | fail));(all_goals refine av ?_)
 rename_i xb
 revert b;intro sb
 revert x;intro M0 hM0
 refine eK (K:=cB) (l:=X0.l) xb 32 32 ?_
 have hw0:=hwr M0 xb hM0
 simp only [List.cons_append,List.nil_append] at hw0
 refine bF rfl rfl ?_
 (repeat' ((try refine aw ?_);(conv=>arg 4;whnf);first | refine aO ?_ |(refine sN ?_;intro b)|(refine au ?_ ?_<;>intro h<;>try contradiction)|(refine cw hw0 ?_;intro x hx;refine bV ?_)| exact ax | refine af ?_ ?_ | fail));(all_goals refine av ?_)
 revert x;intro M1 hM1
 have hw1:=hfl M1 hM1
 simp only [List.cons_append,List.nil_append] at hw1
 (repeat' ((try refine aw ?_);(conv=>arg 4;whnf);first | refine aO ?_ |(refine sN ?_;intro b)|(refine au ?_ ?_<;>intro h<;>try contradiction)|(refine cw hw1 ?_;intro x hx;refine bV ?_)|(refine aA hvol ?_;intro x hx;refine aH ?_)| exact ax | refine af ?_ ?_ | fail));(all_goals refine av ?_)
 rename_i M2 hM2
 revert b;intro kb
 have hDV:DV P2.n P2.k M2.d M2.I P2.Lc P2.s P2.dur P2.cell:=⟨hM2.ok.ok,hM2.sz,hM2.ok.size,by rw [hM2.ok.cn];exact Ce.work.int⟩
 rw [hn,hk] at hDV
 have hdk:=HY (p:=P2) (M:=M2)
 have hcl:=wc (p:=P2) (M:=M2) (by rw [hn];decide) Ce.log0 (by have:=Ce.logm;omega) Ce.last
 have hal:=Fg (q:=q) hDV
 have hpt:=D9 (q:=q) (bi:=16) hDV (by decide)
 refine zp [Dm M2.d M2.I,Sl aL (some ⟨M2.lb,0,none⟩) P2.log.length M2.lc P2.log,Sl cB (some ⟨xb,0,none⟩) 32 32 X0.l,Gs q] bu ?_
 refine eD (X:=Option Addr×Nat) (fun x=> [(1,vP xb 0),(2,vP sb 0),(3,vI 0),(4,vI 0),(5,vI 0),(6,vP kb 0),(7, .slice x.1 17 x.2),(9,vI 0)]) (fun _=>True) (fun x=> [iB kb (bC (K0)) 33,iB sb (aB (c8 P2 M2)) 48]) (fun x=> [Sl ay x.1 17 x.2 P2.dur]) ?_ ?_
 ·intro K4
  (first | refine bF rfl rfl ?_ |(refine bh ?_;(conv=>arg 4;whnf);refine bc rfl ?_))
  (repeat' ((try refine aw ?_);(conv=>arg 4;whnf);first | refine aO ?_ |(refine sN ?_;intro b)|(refine au ?_ ?_<;>intro h<;>try contradiction)|((first | refine aA hdk ?_ | refine aA hcl ?_);intro x hx;refine aH ?_)|(refine cw hal ?_;intro x hx;refine bV ?_)| exact ax | refine af ?_ ?_ | fail));(all_goals refine av ?_)
  all_goals (
   obtain ⟨xa,xm,xc⟩:=x
   dsimp only at hx
   subst hx
   exact d9 (xa,xc) True.intro cD bu)
 rintro ⟨la,lc⟩ _
 (conv=>arg 2;simp only [List.cons_append,List.nil_append])
 (conv=>arg 3;simp only [List.cons_append,List.nil_append])
 dsimp only
 refine aS 0 ?_
 intro _ hlc hlm hla
 obtain ⟨l1,l2,rfl⟩:=hla (by decide) (by decide)
 (repeat' ((try refine aw ?_);(conv=>arg 4;whnf);first | refine aO ?_ |(refine sN ?_;intro b)|(refine au ?_ ?_<;>intro h<;>try contradiction)| exact ax | refine af ?_ ?_ | fail));(all_goals refine av ?_)
 have hpt':Zp Tryz.prog 45 [vI 17,vA (aJ M2.d),vA (aL P2.cell),vI 16] [] [Dm M2.d M2.I,Gs q] (Nat×Nat) (fun _=>True) (fun x=> .tuple #[.slice (some ⟨x.1,0,none⟩) x.2 x.2,vA (bW SPrb.zero),vI 0]) (fun _=> []) (fun x=> [Sl aU (some ⟨x.1,0,none⟩) x.2 x.2 (cK 17 P2.Lc P2.s 16)]):=hpt
 refine eD (X:=Nat×Nat) (fun x=> [(1,vP xb 0),(2,vP sb 0),(3,vI 0),(4,vI 0),(5,vI 0),(6,vP kb 0),(7, .slice (some ⟨l1,l2,none⟩) 17 lc),(9,vI 0),(10, .slice (some ⟨x.1,0,none⟩) x.2 x.2),(12,vI 0)]) (fun _=>True) (fun x=> [iB kb (bC (K0)) 33,iB sb (aB (c8 P2 M2)) 48]) (fun x=> [Sl aU (some ⟨x.1,0,none⟩) x.2 x.2 (cK 17 P2.Lc P2.s 16)]) ?_ ?_
 ·intro K4
  (first | refine bF rfl rfl ?_ |(refine bh ?_;(conv=>arg 4;whnf);refine bc rfl ?_))
  (repeat' ((try refine aw ?_);(conv=>arg 4;whnf);first | refine aO ?_ |(refine sN ?_;intro b)|(refine au ?_ ?_<;>intro h<;>try contradiction)|((first | refine aA hdk ?_ | refine aA hcl ?_);intro x hx;refine aH ?_)|(refine cw hpt' ?_;intro x hx;refine bV ?_)| exact ax | refine af ?_ ?_ | fail));(all_goals refine av ?_)
  all_goals exact d9 x True.intro cD bu
 rintro ⟨pb,pm⟩ _
 (conv=>arg 2;simp only [List.cons_append,List.nil_append])
 (conv=>arg 3;simp only [List.cons_append,List.nil_append])
 dsimp only
 refine aS 0 ?_
 intro hpm _ _ _
 subst hpm
 have hvf:=JK (pb:=pb) (c:=(cK 17 P2.Lc P2.s 16).length) (q:=q) (bi:=16) hDV (by decide)
 (repeat' ((try refine aw ?_);(conv=>arg 4;whnf);first | refine aO ?_ |(refine sN ?_;intro b)|(refine au ?_ ?_<;>intro h<;>try contradiction)|((first | refine aA hcl ?_ | refine aA hvf ?_);intro x hx;refine aH ?_)| exact ax | refine af ?_ ?_ | fail));(all_goals refine av ?_)
 refine Mw ?_
 (repeat' ((try refine aw ?_);(conv=>arg 4;whnf);first | refine aO ?_ |(refine sN ?_;intro b)|(refine au ?_ ?_<;>intro h<;>try contradiction)|((first | refine aA hcl ?_ | refine aA hvf ?_);intro x hx;refine aH ?_)| exact ax | refine af ?_ ?_ | fail));(all_goals refine av ?_)
 revert b;intro rb
 refine bG rb ?_
 refine aR (Bk xb (ay X0)) (fun w _ hf=>by
  have hS:Sl cB (some ⟨xb,0,none⟩) 32 32 X0.l w:=hf _ (by repeat (first | with_reducible exact List.mem_cons_self | with_reducible apply List.mem_cons_of_mem))
  have hA:=Sl.at_ hS
  rw [←bL] at hA
  exact hA) ?_
 refine aR (Bo l1 (l2+0*32) (ay (P2.dur.getD 0 default))) (fun w _ hf=>by
  have hS:Sl ay (some ⟨l1,l2,none⟩) 17 lc P2.dur w:=hf _ (by repeat (first | with_reducible exact List.mem_cons_self | with_reducible apply List.mem_cons_of_mem))
  have hA:=Sl.at_ hS
  obtain ⟨y,ys,hy⟩:∃y ys,P2.dur=y::ys:=by
   have:=hdl
   cases hd:P2.dur with
   | nil=>rw [hd] at this;cases this
   | cons y ys=>exact ⟨y,ys,rfl⟩
  rw [hy] at hA⊢
  have:=At.sub hA 0 (ay y) (by rw [List.drop_zero,List.flatMap_cons];exact List.take_left' rfl)
  show At w l1 (l2+0*32) _
  simpa using this) ?_
 refine BD [1,2,3,4,5,6,7,9,10,12,13,14] ?_
 (conv=>arg 4;whnf)
 refine eD (X:=Unit) (fun x=> [(2,vP sb 0),(6,vP kb 0),(13,vP rb 0),(112, .bool false)]) (fun _=>True) (fun x=> [iB kb (bC (K0)) 33,iB sb (aB (c8 P2 M2)) 48]) (fun x=> []) ?_ ?_
 ·intro K4
  refine gM [] [Bo l1 (l2+0*32) (ay (P2.dur.getD 0 default)),Bk xb (ay X0),Bk rb (bY (P2.Lc.getD 16 Rec.zero)),Sl ay (some ⟨l1,l2,none⟩) 17 lc P2.dur] (am _) bu rfl ?_
  (repeat' ((try refine aw ?_);(conv=>arg 4;whnf);first | refine yH ?_ |(refine sN ?_;intro b)|(refine au ?_ ?_<;>intro h<;>try contradiction)| exact ax | refine af ?_ ?_ | fail));(all_goals refine av ?_)
  (conv=>arg 4;arg 5;ext C;whnf)
  refine cR ?_ (qK h16)
  (repeat' ((try refine aw ?_);(conv=>arg 4;whnf);first | refine yH ?_ |(refine sN ?_;intro b)|(refine au ?_ ?_<;>intro h<;>try contradiction)| exact ax | refine af ?_ ?_ | fail));(all_goals refine av ?_)
  (conv=>arg 4;arg 5;ext C;whnf)
  refine cR ?_ (yV h00)
  (repeat' ((try refine aw ?_);(conv=>arg 4;whnf);first | refine yH ?_ |(refine sN ?_;intro b)|(refine au ?_ ?_<;>intro h<;>try contradiction)| exact ax | refine af ?_ ?_ | fail));(all_goals refine av ?_)
  (conv=>arg 4;arg 5;ext C;whnf)
  refine cR ?_ (yV hno)
  (repeat' ((try refine aw ?_);(conv=>arg 4;whnf);first | refine yH ?_ |(refine sN ?_;intro b)|(refine au ?_ ?_<;>intro h<;>try contradiction)| exact ax | refine af ?_ ?_ | fail));(all_goals refine av ?_)
  exact d9 () True.intro cD bu
 intro _ _
 (conv=>arg 2;simp only [List.cons_append,List.nil_append])
 (conv=>arg 3;simp only [List.cons_append,List.nil_append])
 have hH:Hold K0 M2.I.con 16 (P2.Lc.getD 16 Rec.zero) (P2.dur.getD 16 Dig.zero):=hDV.int.dat 16 (by decide)
 have hH16:P2.dur.getD 16 Dig.zero=X0:=h16
 rw [hH16] at hH
 obtain ⟨hp,ht⟩:M2.I.pv 32=some (cJ K0 (P2.Lc.getD 16 Rec.zero).non X0).l∧(P2.Lc.getD 16 Rec.zero).tag=il K0 16 (P2.Lc.getD 16 Rec.zero).non (cJ K0 (P2.Lc.getD 16 Rec.zero).non X0):=by
  rcases hH with ⟨h1,_⟩|⟨_,h2,h3⟩
  ·rw [hst] at h1;cases h1
  ·rw [hst] at h2
   exact ⟨by rw [←DI.con_top];exact h2,h3⟩
 have hrd:=oW (d:=M2.d) (I:=M2.I) (s:=32) hM2.ok.ok (by rw [hDV.si];decide) hp (by rw [Dig.h];decide)
 have hkm:K0.mac.l.length≤64:=by rw [K0.mac.h];decide
 have hms: [be 16 4,eA (P2.Lc.getD 16 Rec.zero).non,(cJ K0 (P2.Lc.getD 16 Rec.zero).non X0).l].flatten.length≤576460752303423488:=by simp [eA,Dig.h]
 have hlg:=EF (M:=M2) Ce
 have hmv:ej K0.mac.l [be 16 4,eA (P2.Lc.getD 16 Rec.zero).non,(cJ K0 (P2.Lc.getD 16 Rec.zero).non X0).l].flatten=(P2.Lc.getD 16 Rec.zero).tag:=by
  rw [ht];simp [il,fz,eA,List.append_assoc]
 generalize P2.Lc.getD 16 Rec.zero=R0 at*
 have hnl:=d4 R0.non
 (repeat' ((try refine aw ?_);(conv=>arg 4;whnf);first | refine aO ?_ |(refine sN ?_;intro b)|(refine au ?_ ?_<;>intro h<;>try contradiction)|(refine aA hdk ?_;intro x hx;refine aH ?_)|(refine cw hrd ?_;intro x hx;refine bV ?_)| exact ax | refine af ?_ ?_ | fail));(all_goals refine av ?_)
 refine eD (X:=Nat) (fun x=> [(2,vP sb 0),(3,vI 0),(6,vP kb 0),(13,vP rb 0),(16,vP x 0)]) (fun _=>True) (fun x=> [iB x (ay R0.tag) 66,iB kb (bC (K0)) 33,iB sb (aB (c8 P2 M2)) 48]) (fun x=> []) ?_ ?_
 ·intro K4
  (first | refine bF rfl rfl ?_ |(refine bh ?_;(conv=>arg 4;whnf);refine bc rfl ?_))
  (repeat' ((try refine aw ?_);(conv=>arg 4;whnf);first | refine aO ?_ |(refine sN ?_;intro b)|(refine au ?_ ?_<;>intro h<;>try contradiction)|((first | refine aA (jI (v:=16) (by decide)) ?_ | refine aA oZ ?_ | refine aA (qj (l:=K0.mac.l) (ls:= [be 16 4,eA R0.non,(cJ K0 R0.non X0).l]) hkm hms) ?_);intro x hx;refine aH ?_)| exact ax | refine af ?_ ?_ | fail));(all_goals refine av ?_)
  all_goals (
   revert b;intro zb
   rw [hmv]
   first | exact d9 b True.intro cD bu | exact d9 zb True.intro cD bu)
 intro mb _
 (conv=>arg 2;simp only [List.cons_append,List.nil_append])
 (conv=>arg 3;simp only [List.cons_append,List.nil_append])
 dsimp only
 have hsd:=fun (a c:Nat)=>EO (a:=a) (c:=c) (q:=q) (by decide) (by decide) Ce.log0 (by have:=Ce.logm;omega) h0l hso
 (repeat' ((try refine aw ?_);(conv=>arg 4;whnf);first | refine aO ?_ |(refine sN ?_;intro b)|(refine au ?_ ?_<;>intro h<;>try contradiction)|(refine cw hlg ?_;intro x hx;refine bV ?_)|(refine aA (hsd _ _) ?_;intro x hx;refine aH ?_)| exact ax | refine af ?_ ?_ | fail));(all_goals refine av ?_)
end
end Go.Proofs.YtbobhnldhpjdlaaGreatDoor
namespace Go.Proofs.YtbobhnldhpjdlaaGreatDoor
open Go Go.RowKit Go.Cs Go.Cz
set_option maxRecDepth 100000
set_option maxHeartbeats 4000000
structure LgOk (p:PS):Prop where
 l0:p.log.getD 0 default=gO p.n
 st:∀i,i+1<p.log.length→Stp (p.log.getD i default) (p.log.getD (i+1) default)
theorem CW {c:Cel} {r:Nat} (h:c.ep<2^63) (hr:0<r) (hm:c.mark+r<2^64):Stp c (c.rsv r):=
 ⟨h, .inr ⟨rfl,rfl,by show c.mark<(c.mark+r)%2^64;rw [Nat.mod_eq_of_lt hm];omega⟩⟩
theorem Dj {c:Cel} {t:Dig} (h:c.ep<2^63):Stp c (c.nxt t):=⟨h, .inl rfl⟩
theorem wq {l:List Cel} {c y:Cel} (h0:0<l.length) (hl:l.getD (l.length-1) default=c) (hs:Stp c y) (h:∀i,i+1<l.length→Stp (l.getD i default) (l.getD (i+1) default)):
  ∀i,i+1<(l++ [y]).length→Stp ((l++ [y]).getD i default) ((l++ [y]).getD (i+1) default):=by
 intro i hi
 have hi':i+1<l.length+1:=by simpa using hi
 have e1:(l++ [y]).getD i default=l.getD i default:=by
  rw [List.getD_eq_getElem?_getD,List.getD_eq_getElem?_getD,List.getElem?_append_left (by omega)]
 rw [e1]
 by_cases hc:i+1<l.length
 ·rw [show (l++ [y]).getD (i+1) default=l.getD (i+1) default by
   rw [List.getD_eq_getElem?_getD,List.getD_eq_getElem?_getD,List.getElem?_append_left hc]]
  exact h i hc
 ·obtain rfl:i=l.length-1:=by omega
  rw [hl,show l.length-1+1=l.length by omega,show (l++ [y]).getD l.length default=y by simp [List.getD]]
  exact hs
theorem qU {l:List Cel} {y:Cel} (h0:0<l.length):(l++ [y]).getD 0 default=l.getD 0 default:=by
 rw [List.getD_eq_getElem?_getD,List.getD_eq_getElem?_getD,List.getElem?_append_left h0]
section
variable {p:PS} {T:Nat}
theorem LgOk.wrt {bi:Nat} {yd:Dig} (h:LgOk p) (hP:POk p T) (hs:bi%p.al.length<4294967296) (hr:¬(p.al.getD (bi%p.al.length) default).toNat<p.mark→p.mark+p.rs≤p.lm):LgOk (p.wrt bi yd hs):=by
 have h1:=hP.hT
 have h2:=hP.logm
 have h3:=hP.ep
 have h4:=hP.aok.r1
 have h5:=hP.aok.lm
 have h6:=hP.mkc
 dsimp only at h4 h5
 by_cases hc:(p.al.getD (bi%p.al.length) default).toNat<p.mark
 ·have e:(p.wrt bi yd hs).log=p.log:=by show (if _ then _ else _)=_;exact if_pos hc
  exact ⟨by rw [e];exact h.l0,by rw [e];exact h.st⟩
 ·have e:(p.wrt bi yd hs).log=p.log++ [p.cell.rsv p.rs]:=by show (if _ then _ else _)=_;exact if_neg hc
  have h7:=hr hc
  exact ⟨by rw [e,qU hP.log0];exact h.l0,by rw [e];exact wq hP.log0 hP.last (CW (by omega) (by omega) (by omega)) h.st⟩
theorem LgOk.fls (h:LgOk p) (hP:POk p T):LgOk p.fls:=by
 have h1:=hP.hT
 have h2:=hP.logm
 have h3:=hP.ep
 exact ⟨(qU hP.log0).trans h.l0,wq hP.log0 hP.last (Dj (by omega)) h.st⟩
theorem LgOk.opn {n sh lm rs:Nat} {ms:Dig}:LgOk (opn n sh lm rs ms):=⟨rfl,fun i hi=>by
 have:i+1<1:=hi
 omega⟩
end
theorem Mm:LgOk em:=(LgOk.opn.wrt LI F5 (fun _=>by decide)).fls L6
theorem LK {q:Value×Value}:Zp Tryz.prog 9 [] [] [Gs q] Unit (fun _=>True) (fun _=> .bool true) (fun _=> []) (fun _=> []):=
 Jh (P0:=gD) (P1:=pC) (P2:=em) (K0:=nv (ii 1)) (X0:=gc 200) (Ev (v:=200)) Bw lvop (fun M xb h=>lvwr h) (fun M h=>lvfl h) Ce rfl rfl Lt IY Lo MR Jq LS Mm.l0 Mm.st
end Go.Proofs.YtbobhnldhpjdlaaGreatDoor
