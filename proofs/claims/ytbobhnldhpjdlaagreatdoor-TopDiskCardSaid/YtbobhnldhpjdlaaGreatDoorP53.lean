/- Lemmas and walks: what each function does, by its own code. No condition beyond those of each statement. -/
import Derived.Test.YtbobhnldhpjdlaaGreatDoorP1
import Derived.Test.YtbobhnldhpjdlaaGreatDoorP18
import Derived.Test.YtbobhnldhpjdlaaGreatDoorP25
import Derived.Test.YtbobhnldhpjdlaaGreatDoorP42
import Derived.Test.YtbobhnldhpjdlaaGreatDoorP48
import Derived.Test.YtbobhnldhpjdlaaGreatDoorP50
import Derived.Test.YtbobhnldhpjdlaaGreatDoorP51
import Derived.Test.YtbobhnldhpjdlaaGreatDoorP52
import Derived.ProofKit
import Derived.OpenShut
import Derived.ChangeOld
set_option linter.all false
set_option linter.unusedVariables false
namespace Go.Cs
open Go Go.ChangeShapes Go.WideShapes Go.ChangeAt Go.RowKit
section
variable {H:Type} {enc:TypeId×Value→H} {P:Program} {W:World} {base:Nat} {sp:Nat→Bool} {held:Bool}
theorem Np (n:Int) (h:(Lit.int .u16 n).wf=true):0≤n∧n<2^IntKind.u16.bits:=by
 simp [Lit.wf,IntKind.min,IntKind.max,IntKind.signed,IntKind.bits] at h
 exact ⟨by omega,by show n<2^16;omega⟩
end
end Go.Cs
namespace Go.Cs
open Go Go.ChangeShapes Go.WideShapes Go.ChangeAt Go.RowKit
theorem Es.of_ones {α:Type} {f:α→Value} {lo hi len cap:Nat} {w:World} {a:Option Addr} {l:List α} (h:Ms (fun x=> [f x]) 1 lo hi w a len cap l):Es f lo hi w a len cap l:=by
 have e:∀l:List α,(l.flatMap fun x=> [f x])=l.map f:=fun l=>by
  induction l with
  | nil=>rfl
  | cons x l ih=>rw [List.flatMap_cons,List.map_cons,ih];rfl
 exact ⟨by have:=h.sla;rwa [e l] at this,h.len_eq⟩
end Go.Cs
namespace Go.Cs
open Go Go.ChangeShapes Go.WideShapes Go.ChangeAt Go.RowKit
section
variable {H:Type} {enc:TypeId×Value→H} {P:Program} {W:World} {base:Nat} {sp:Nat→Bool} {held:Bool}
theorem Di {t:TypeId} {cs:List Value} (h:Rd enc P W base sp held t cs) (hu:P.underlying t=some (.int .u8)):∃x:UInt8,cs= [L2 x]:=by
 obtain ⟨a,ha,ha2⟩:=m4 h hu w8
 exact ⟨UInt8.ofNat a,by rw [ha,L2,UInt8.toNat_ofNat',Nat.mod_eq_of_lt (show a<2^8 from ha2)]⟩
theorem Hq {t e:TypeId} {cs:List Value} (h:Rd enc P W base sp held t cs) (hu:P.underlying t=some (.slice e)) (he:P.underlying e=some (.int .u8)) (ce:P.cellsOf e=1):
  ∃a len cap l,cs= [.slice a len cap]∧Bs 0 W.heap.size W a len cap l:=by
 obtain ⟨a,len,cap,l,h1,h2⟩:=zO (f:=fun x:UInt8=> [L2 x]) (sz:=1) (fun us hq=>Di hq he) (fun _=>rfl) h hu ce (by decide)
 exact ⟨a,len,cap,l,h1,(Es.of_ones h2).bs⟩
end
end Go.Cs
namespace Go.Proofs.YtbobhnldhpjdlaaGreatDoor
open Go Go.RowKit Go.Cs Go.Cz
set_option maxRecDepth 100000
set_option maxHeartbeats 4000000
open Go.Extern.Stop Go.Stop Go.Extern
abbrev I5:Value:= .iface 488 (.agg #[.pointer (some ⟨5,174,none⟩)])
end Go.Proofs.YtbobhnldhpjdlaaGreatDoor
namespace Go.Proofs.YtbobhnldhpjdlaaGreatDoor
open Go Go.RowKit Go.Cs Go.Cz
set_option maxRecDepth 100000
set_option maxHeartbeats 4000000
abbrev Ki (a:Addr):Value:= .iface 548 (.pointer (some a))
abbrev qE (a:Addr):Value×Value:=(Ki a,I5)
end Go.Proofs.YtbobhnldhpjdlaaGreatDoor
namespace Go.Proofs.YtbobhnldhpjdlaaGreatDoor
open Go Go.RowKit Go.Cs Go.Cz
theorem and_t {a b:Bool} (h:a=true) (g:b=true):(a&&b)=true:=by rw [h,g];rfl
def HD (ad:Addr) (W:World):Prop:=Gl 1 (fW ye) W∧Gl 4 (fX kA) W∧Gl 2 [vI 45,vI 33] W∧Gl 0 [Ki ad] W∧Gl 3 [I5] W
theorem HD.ext {ad:Addr} {W W':World} (h:HD ad W) (hc:Ext W W'):Gs (qE ad) W':=⟨(h.1.ext hc).all,(h.2.1.ext hc).all,(h.2.2.1.ext hc).all,(h.2.2.2.1.ext hc).all,(h.2.2.2.2.ext hc).all⟩
theorem Hw {f:FuncId} {args:List Value} {Fi:List Pt} {r:Value} {W:World} (h:Zp Tryz.prog f args [] Fi Unit (fun _=>True) (fun _=>r) (fun _=> []) (fun _=> [])) (hF:∀g∈Fi,∀W',Ext W W'→g W'):Calls Tryz.prog f args.toArray W (Ret fun v W'=>v=r∧Ext W W'):=by
 have hp:Hp ⟨W,fps [], []⟩ [] Fi W:=⟨Chg.refl _ _,fun o ho=>(by cases ho),by simp,fun k hk=>(by simp at hk),fun k hk=>(by simp at hk),fun g hg w' hc=>hF g hg w' (hc.mono fun k _ hk=>(by simp at hk))⟩
 exact (h.go W [] hp).mono fun e w' ⟨v,h1,x,h2,h3,h4⟩=>⟨v,h1,h3,h4.ch.mono fun k _ hk=>by simp at hk⟩
theorem J4 {n:Nat} (h:n<256):∃u:UInt8,((n:Nat):Int)=(u.toNat:Int):=⟨UInt8.ofNat n,by rw [UInt8.toNat_ofNat',Nat.mod_eq_of_lt h]⟩
end Go.Proofs.YtbobhnldhpjdlaaGreatDoor
namespace Go.Proofs.YtbobhnldhpjdlaaGreatDoor
open Go Go.RowKit Go.Cs Go.Cz Go.ChangeShapes Go.WideShapes Go.ChangeAt
def Nc (W:World):Type:={p:SLve×List UInt8//p.1.Kind<256∧p.1.Sector<65536∧Bs 0 W.heap.size W p.1.Bytes.1 p.1.Bytes.2.1 p.1.Bytes.2.2 p.2}
def Nh {W:World} (p:Nc W):List Value:=aq p.1.1
theorem Da {W:World} (p:Nc W):(Nh p).length=5:=EL _
theorem Mr {H:Type} {enc:TypeId×Value→H} {P:Program} {W:World} {base:Nat} {sp:Nat→Bool} {held:Bool} {t t8 t16 tS e:TypeId} {cs:List Value} (h:Rd enc P W base sp held t cs) (hF:bj P t= [(true,t8,0),(true,t16,1),(true,t16,2),(true,t16,3),(true,tS,4)]) (h8:P.underlying t8=some (.int .u8)) (h16:P.underlying t16=some (.int .u16)) (hS:P.underlying tS=some (.slice e)) (he:P.underlying e=some (.int .u8)) (ce:P.cellsOf e=1) (hc8:P.cellsOf t8=1) (hc16:P.cellsOf t16=1) (cS:P.cellsOf tS=1) (c:P.cellsOf t=5):∃x:Nc W,cs=Nh x:=by
 obtain ⟨hl,hf⟩:=xM h hF
 obtain ⟨k,hk,hk2⟩:=m4 (hf (true,t8,0) (by simp)) h8 w8
 obtain ⟨s,hs,hs2⟩:=m4 (hf (true,t16,1) (by simp)) h16 Np
 obtain ⟨f,hf1,hf2⟩:=m4 (hf (true,t16,2) (by simp)) h16 Np
 obtain ⟨b,hb,hb2⟩:=m4 (hf (true,t16,3) (by simp)) h16 Np
 obtain ⟨a,n,cq,l,hy,hm⟩:=Hq (hf (true,tS,4) (by simp)) hS he ce
 simp only [hc8,hc16,cS] at hk hs hf1 hb hy
 refine ⟨⟨(⟨k,s,f,b,(a,n,cq)⟩,l),hk2,hs2,hm⟩, ?_⟩
 have e1:=im cs 0 1
 have e2:=im cs 1 1
 have e3:=im cs 2 1
 have e4:=im cs 3 1
 have e5:=im cs 4 1
 rw [hk] at e1;rw [hs] at e2;rw [hf1] at e3;rw [hb] at e4;rw [hy,List.drop_eq_nil_of_le (by omega)] at e5
 rw [List.drop_zero] at e1
 rw [←e1,←e2,←e3,←e4,←e5];rfl
theorem xz {a1 a2 a3:Option Addr} {m1 c1 m2 c2 k3 c3:Nat} {PL:List (UInt8×UInt8)} {SL:List UInt8} (k e m:Nat) (W:World) {EL0:List (Nc W)} (hp:Ms Lz 2 0 W.heap.size W a1 m1 c1 PL) (hs:Bs 0 W.heap.size W a2 m2 c2 SL) (hd:Ms Nh 5 0 W.heap.size W a3 k3 c3 EL0) (h1:k<256) (h2:e<256) (h3:m<256) (hg:∃ad,HD ad W):
  Calls Tryz.prog 4 #[.agg ([.int .u8 ((k:Nat):Int), .slice a1 m1 c1, .slice a2 m2 c2, .int .u8 ((e:Nat):Int), .int .u8 ((m:Nat):Int)]:List Value).toArray, .slice a3 k3 c3] W (Ret fun v W'=>v= .bool true∧Ext W W'):=by
 obtain ⟨ad,hg⟩:=hg
 obtain ⟨e,y⟩:=J4 h2;rw [y]
 obtain ⟨m,y⟩:=J4 h3;rw [y]
 have hB:∀{b1:Option Addr} {b2 b3:Nat} {l:List UInt8} {W':World},Bs 0 W.heap.size W b1 b2 b3 l→Ext W W'→Sl cB b1 b2 b3 l W':=fun h hc=>⟨h.len_eq,bL _▸(h.sla.ext hc).now⟩
 have hE:∀i (h:i<EL0.length),(EL0.map fun p=>p.1.1).getD i default=EL0[i].1.1∧(EL0.map fun p=>p.1.2).getD i []=EL0[i].1.2:=fun i h=>by simp [List.getD,h]
 refine Hw (LB (q:=qE ad) (PL:=PL) (SL:=SL) (LEs:=EL0.map fun p=>p.1.1) (BLs:=EL0.map fun p=>p.1.2) h1 ?_) ?_
 ·intro i hi
  rw [List.length_map] at hi
  rw [(hE i hi).1]
  exact ⟨EL0[i].2.1,EL0[i].2.2.1⟩
 ·intro g h2 W' hc
  rcases List.mem_cons.1 h2 with rfl | h2
  ·exact ⟨hp.len_eq,(hp.sla.ext hc).now⟩
  rcases List.mem_cons.1 h2 with rfl | h2
  ·exact hB hs hc
  rcases List.mem_cons.1 h2 with rfl | h2
  ·refine ⟨by rw [List.length_map];exact hd.len_eq, ?_⟩
   have:=(hd.sla.ext hc).now
   rw [List.flatMap_map];exact this
  rcases List.mem_cons.1 h2 with rfl | h2
  ·intro i hi
   rw [List.length_map] at hi
   rw [(hE i hi).1,(hE i hi).2]
   exact hB EL0[i].2.2.2 hc
  ·simp only [List.mem_singleton] at h2
   subst h2;exact hg.ext hc
end Go.Proofs.YtbobhnldhpjdlaaGreatDoor
