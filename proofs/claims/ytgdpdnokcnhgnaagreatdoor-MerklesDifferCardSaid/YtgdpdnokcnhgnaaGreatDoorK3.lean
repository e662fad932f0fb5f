/- Lemmas and walks: what each function does, by its own code. No condition beyond those of each statement. -/
import Derived.Test.YtgdpdnokcnhgnaaGreatDoorK2
import Derived.ProofKit
import Derived.OpenShut
import Derived.ChangeOld
import Derived.Deep.Slices
import Derived.LaidMore
import Derived.Stop.Joined
set_option linter.all false
set_option linter.unusedVariables false
namespace Go.Proofs.YtgdpdnokcnhgnaaGreatDoor
open Go Go.RowKit Go.Cs
set_option maxRecDepth 100000
set_option maxHeartbeats 4000000 in
theorem zw3 (k:Nat) {lo_p hi_p:Nat} {a_p:Option Addr} {n_p c_p:Nat} {p:List (UInt8×UInt8)} {lo_s hi_s:Nat} {a_s:Option Addr} {n_s c_s:Nat} {s:List UInt8} (k2:Nat) {lo_p2 hi_p2:Nat} {a_p2:Option Addr} {n_p2 c_p2:Nat} {p2:List (UInt8×UInt8)} {lo_s2 hi_s2:Nat} {a_s2:Option Addr} {n_s2 c_s2:Nat} {s2:List UInt8} (w:World) (h_p:Ms b2C 2 lo_p hi_p w a_p n_p c_p p) (h_s:Bs lo_s hi_s w a_s n_s c_s s) (h_p2:Ms b2C 2 lo_p2 hi_p2 w a_p2 n_p2 c_p2 p2) (h_s2:Bs lo_s2 hi_s2 w a_s2 n_s2 c_s2 s2) (hp0:k<256) (hp1:k2<256) (hp2:(zhA k)≠(zhA k2)) (hg0:Gl 0 [vI 45,vI 33] w) (hg1:Gl 2 (w8C za2) w) (hg2:Gl 3 (zR kA) w) (hg3:Gl 1 [.iface 199 (.agg #[.pointer (some ⟨4,99,none⟩)])] w):
  Calls Tryz.prog 9 #[(vA [(vB k),(.slice a_p n_p c_p),(.slice a_s n_s c_s)]),(vA [(vB k2),(.slice a_p2 n_p2 c_p2),(.slice a_s2 n_s2 c_s2)])] w (Ret fun r w'=>r=vT∧Ext w w'):=by
 refine zL (n:=96) (σ:= [(0,(vA [(vB k),(.slice a_p n_p c_p),(.slice a_s n_s c_s)])),(1,(vA [(vB k2),(.slice a_p2 n_p2 c_p2),(.slice a_s2 n_s2 c_s2)]))]) Tryz.func9 rfl ?_
 replace h_p:=h_p.now;have hle_p:=h_p.le
 replace h_s:=h_s.now;have hle_s:=h_s.le
 replace h_p2:=h_p2.now;have hle_p2:=h_p2.le
 replace h_s2:=h_s2.now;have hle_s2:=h_s2.le
 have hgl0:=hg0.lt
 have hgl1:=hg1.lt
 have hgl2:=hg2.lt
 have hgl3:=hg3.lt
 have hbk:=znA k
 have hOK:=zvi p s k
 have hLn:=zfI p (zhA k)
 have hts:=zbN (n:=zhA k) (by omega)
 have htp:=zfo (n:=zhA k) (by omega) (by omega)
 have hsb:∀i,(zfK s (tot (zhA k))).getD i 0≤1099511627776:=fun i=>Nat.le_trans (zps _ _ i) (by decide)
 have hok:=zuN hOK hLn
 have h5:=zaz (zhA k)
 have hlp:=h_p.len_eq;have hls:=h_s.len_eq
 have hbkq:=znA k2
 have hOKq:=zvi p2 s2 k2
 have hLnq:=zfI p2 (zhA k2)
 have htsq:=zbN (n:=zhA k2) (by omega)
 have htpq:=zfo (n:=zhA k2) (by omega) (by omega)
 have hsbq:∀i,(zfK s2 (tot (zhA k2))).getD i 0≤1099511627776:=fun i=>Nat.le_trans (zps _ _ i) (by decide)
 have hokq:=zuN hOKq hLnq
 have h5q:=zaz (zhA k2)
 have hlpq:=h_p2.len_eq;have hlsq:=h_s2.len_eq
 refine zf (ze (zb (zt (some 2) (Instr.box 59 (vA [(vB k),(.slice a_p n_p c_p),(.slice a_s n_s c_s)])) (vP w.heap.size 0) ([(vB k),(.slice a_p n_p c_p),(.slice a_s n_s c_s)]) 59 ?_)))
 intro w1 hBw1 hEw1
 have hzw1:=hEw1.size;have hlw1:=hBw1.lt
 refine zb (zt (some 3) (Instr.box 59 (vA [(vB k2),(.slice a_p2 n_p2 c_p2),(.slice a_s2 n_s2 c_s2)])) (vP w1.heap.size 0) ([(vB k2),(.slice a_p2 n_p2 c_p2),(.slice a_s2 n_s2 c_s2)]) 59 ?_)
 intro w2 hBw2 hEw2
 have hzw2:=hEw2.size;have hlw2:=hBw2.lt
 refine zd 1 [(4,vF)] (zg (zc (zsP (X:=Nat×Nat×Option Addr×Nat×Option Addr×Nat) (fun ⟨bj5,bj6,a1,c1,a2,c2⟩=> [(5,(vP bj5 0)),(6,(vP bj6 0))]) [11,12,13,14] (fun ⟨bj5,bj6,a1,c1,a2,c2⟩ w3=>Blk w3 bj5 ([(vI (zhA k)),(.slice a1 (tot (zhA k)) c1)]) 50∧Blk w3 bj6 ([(vI (zhA k2)),(.slice a2 (tot (zhA k2)) c2)]) 50∧Ms zK 274 w2.heap.size w3.heap.size w3 a1 (tot (zhA k)) c1 (zaa (zf2 p (zhA k)) (zfK s (tot (zhA k))))∧Ms zK 274 w2.heap.size w3.heap.size w3 a2 (tot (zhA k2)) c2 (zaa (zf2 p2 (zhA k2)) (zfK s2 (tot (zhA k2))))∧w2.heap.size≤bj5∧w2.heap.size≤bj6∧Ext w2 w3) ?_ ?_)))
 ·refine zag (Ext w2.drew) 8 [(12,4,0),(13,2048,1),(14,8,0),(15,8192,6),(6,0,0),(7,0,0),(0,4128,59),(0,16448,127)] (fun hT42=> ?_)
  have hEw4:Ext w2 w2.drew:=Ext.drew w2
  generalize w2.drew=w4 at hEw4⊢
  have hzw4:=hEw4.size
  refine zh hT42 0 1 (some 11) (vA [(vB k),(.slice a_p n_p c_p),(.slice a_s n_s c_s)]) (zl (Instr.loadAt 59 (vP w.heap.size 0)) (fun w' hC=>zD (vs:= [(vB k),(.slice a_p n_p c_p),(.slice a_s n_s c_s)]) (((((hBw1.ext hEw2)).ext hEw4).ext hC).all))) (zh hT42 2 5 (some 13) (vA [(vB k2),(.slice a_p2 n_p2 c_p2),(.slice a_s2 n_s2 c_s2)]) (zl (Instr.loadAt 59 (vP w1.heap.size 0)) (fun w' hC=>zD (vs:= [(vB k2),(.slice a_p2 n_p2 c_p2),(.slice a_s2 n_s2 c_s2)]) (((hBw2.ext hEw4).ext hC).all))) (zeq 1 4 5 7 21 37 ?_ ?_ ?_))
  ·have hK1:=(((((h_p.ext hEw1)).ext hEw2)).ext hEw4)
   have hK2:=(((((h_s.ext hEw1)).ext hEw2)).ext hEw4)
   refine zi (some 12) (zwS k _ hK1 hK2 (by omega)) ?_
   rintro _ w5 ⟨a1,ca1,rfl,hFz1_0,hEw5⟩
   have hzw5:=hEw5.size
   have hma1:=hFz1_0.ms;have hlea1:=hma1.le
   refine ⟨.inr hEw5, ?_⟩
   refine zeq 3 4 5 15 23 39 ?_ ?_ ?_
   ·have hK3:=(((((((h_p2.ext hEw1)).ext hEw2)).ext hEw4)).ext hEw5)
    have hK4:=(((((((h_s2.ext hEw1)).ext hEw2)).ext hEw4)).ext hEw5)
    refine zi (some 14) (zwS k2 _ hK3 hK4 (by omega)) ?_
    rintro _ w6 ⟨a2,ca2,rfl,hFz2_0,hEw6⟩
    have hzw6:=hEw6.size
    have hma2:=hFz2_0.ms;have hlea2:=hma2.le
    have hX1:Ext w4 w6:=(hEw5.trans hEw6)
    refine ⟨.inr hX1, ?_⟩
    refine zay 4 5 31 47 ?_ ?_
    ·refine zt (some 5) (Instr.alloc 50 true (.tuple #[])) (vP w6.heap.size 0) ([(vI 0),(.slice none 0 0)]) 50 ?_
     intro w7 hBw7 hEw7
     have hzw7:=hEw7.size;have hlw7:=hBw7.lt
     have hX2:Ext w4 w7:=((hEw5.trans hEw6).trans hEw7)
     refine ⟨.inr hX2, ?_⟩
     refine zn 5 63 (zt (some 6) (Instr.alloc 50 true (.tuple #[])) (vP w7.heap.size 0) ([(vI 0),(.slice none 0 0)]) 50 ?_)
     intro w8 hBw8 hEw8
     have hzw8:=hEw8.size;have hlw8:=hBw8.lt
     have hX3:Ext w4 w8:=(((hEw5.trans hEw6).trans hEw7).trans hEw8)
     refine ⟨.inr hX3, ?_⟩
     refine zn 6 127 (zz 50 w6.heap.size 0 50 (vA [(vI (zhA k)),(.slice a1 (tot (zhA k)) ca1)]) ([(vI 0),(.slice none 0 0)]) ([(vI (zhA k)),(.slice a1 (tot (zhA k)) ca1)]) (hBw7.ext hEw8) (by kernel_rfl) (by first | decide |(simp;done)|(simp;omega)) (by simp [Value.oneCell']) ?_)
     intro w9 hBw9 hCw9
     have hzw9:=hCw9.size
     rw [zm _ _ (by kernel_rfl)] at hBw9
     have hX4:Ext w4 w9:=(Ext.own hX3 hCw9 (by omega))
     refine ⟨.inr hX4, ?_⟩
     refine zn 7 255 (zz 50 w7.heap.size 0 50 (vA [(vI (zhA k2)),(.slice a2 (tot (zhA k2)) ca2)]) ([(vI 0),(.slice none 0 0)]) ([(vI (zhA k2)),(.slice a2 (tot (zhA k2)) ca2)]) ((hBw8).chg hCw9 (fun hs=>by have h:_=_:=hs;omega)) (by kernel_rfl) (by first | decide |(simp;done)|(simp;omega)) (by simp [Value.oneCell']) ?_)
     intro w10 hBw10 hCw10
     have hzw10:=hCw10.size
     rw [zm _ _ (by kernel_rfl)] at hBw10
     refine ⟨.inl (by kernel_rfl), ?_⟩
     refine zJ (zC ?_)
     have hK5:=(((((((((hma1.ext hEw6)).ext hEw7)).ext hEw8)).chg hCw9 (fun k h1 h2 hs=>by have h:k=_:=hs;omega))).chg hCw10 (fun k h1 h2 hs=>by have h:k=_:=hs;omega))
     have hK6:=(((((((hma2.ext hEw7)).ext hEw8)).chg hCw9 (fun k h1 h2 hs=>by have h:k=_:=hs;omega))).chg hCw10 (fun k h1 h2 hs=>by have h:k=_:=hs;omega))
     have hX5:Ext w2 w10:=(Ext.own (Ext.own (hEw4.trans hX3) hCw9 (by omega)) hCw10 (by omega))
     exact zuP (w6.heap.size,w7.heap.size,a1,ca1,a2,ca2) (⟨((hBw9).chg hCw10 (fun hs=>by have h:_=_:=hs;omega)),hBw10,(hK5).now.mono (by omega) (Nat.le_refl _),(hK6).now.mono (by omega) (Nat.le_refl _),by omega,by omega,hX5⟩)
    ·refine zt (some 6) (Instr.alloc 50 true (.tuple #[])) (vP w6.heap.size 0) ([(vI 0),(.slice none 0 0)]) 50 ?_
     intro w11 hBw11 hEw11
     have hzw11:=hEw11.size;have hlw11:=hBw11.lt
     have hX6:Ext w4 w11:=((hEw5.trans hEw6).trans hEw11)
     refine ⟨.inr hX6, ?_⟩
     refine zn 4 63 (zt (some 5) (Instr.alloc 50 true (.tuple #[])) (vP w11.heap.size 0) ([(vI 0),(.slice none 0 0)]) 50 ?_)
     intro w12 hBw12 hEw12
     have hzw12:=hEw12.size;have hlw12:=hBw12.lt
     have hX7:Ext w4 w12:=(((hEw5.trans hEw6).trans hEw11).trans hEw12)
     refine ⟨.inr hX7, ?_⟩
     refine zn 6 127 (zz 50 w11.heap.size 0 50 (vA [(vI (zhA k)),(.slice a1 (tot (zhA k)) ca1)]) ([(vI 0),(.slice none 0 0)]) ([(vI (zhA k)),(.slice a1 (tot (zhA k)) ca1)]) hBw12 (by kernel_rfl) (by first | decide |(simp;done)|(simp;omega)) (by simp [Value.oneCell']) ?_)
     intro w13 hBw13 hCw13
     have hzw13:=hCw13.size
     rw [zm _ _ (by kernel_rfl)] at hBw13
     have hX8:Ext w4 w13:=(Ext.own hX7 hCw13 (by omega))
     refine ⟨.inr hX8, ?_⟩
     refine zn 7 255 (zz 50 w6.heap.size 0 50 (vA [(vI (zhA k2)),(.slice a2 (tot (zhA k2)) ca2)]) ([(vI 0),(.slice none 0 0)]) ([(vI (zhA k2)),(.slice a2 (tot (zhA k2)) ca2)]) (((hBw11.ext hEw12)).chg hCw13 (fun hs=>by have h:_=_:=hs;omega)) (by kernel_rfl) (by first | decide |(simp;done)|(simp;omega)) (by simp [Value.oneCell']) ?_)
     intro w14 hBw14 hCw14
     have hzw14:=hCw14.size
     rw [zm _ _ (by kernel_rfl)] at hBw14
     refine ⟨.inl (by kernel_rfl), ?_⟩
     refine zJ (zC ?_)
     have hK7:=(((((((((hma1.ext hEw6)).ext hEw11)).ext hEw12)).chg hCw13 (fun k h1 h2 hs=>by have h:k=_:=hs;omega))).chg hCw14 (fun k h1 h2 hs=>by have h:k=_:=hs;omega))
     have hK8:=(((((((hma2.ext hEw11)).ext hEw12)).chg hCw13 (fun k h1 h2 hs=>by have h:k=_:=hs;omega))).chg hCw14 (fun k h1 h2 hs=>by have h:k=_:=hs;omega))
     have hX9:Ext w2 w14:=(Ext.own (Ext.own (hEw4.trans hX7) hCw13 (by omega)) hCw14 (by omega))
     exact zuP (w11.heap.size,w6.heap.size,a1,ca1,a2,ca2) (⟨((hBw13).chg hCw14 (fun hs=>by have h:_=_:=hs;omega)),hBw14,(hK7).now.mono (by omega) (Nat.le_refl _),(hK8).now.mono (by omega) (Nat.le_refl _),by omega,by omega,hX9⟩)
   ·refine zt (some 5) (Instr.alloc 50 true (.tuple #[])) (vP w5.heap.size 0) ([(vI 0),(.slice none 0 0)]) 50 ?_
    intro w15 hBw15 hEw15
    have hzw15:=hEw15.size;have hlw15:=hBw15.lt
    have hX10:Ext w4 w15:=(hEw5.trans hEw15)
    refine ⟨.inr hX10, ?_⟩
    refine zay 3 5 31 55 ?_ ?_
    ·have hK9:=(((((((((h_p2.ext hEw1)).ext hEw2)).ext hEw4)).ext hEw5)).ext hEw15)
     have hK10:=(((((((((h_s2.ext hEw1)).ext hEw2)).ext hEw4)).ext hEw5)).ext hEw15)
     refine zi (some 14) (zwS k2 _ hK9 hK10 (by omega)) ?_
     rintro _ w16 ⟨a3,ca3,rfl,hFz3_0,hEw16⟩
     have hzw16:=hEw16.size
     have hma3:=hFz3_0.ms;have hlea3:=hma3.le
     have hX11:Ext w4 w16:=((hEw5.trans hEw15).trans hEw16)
     refine ⟨.inr hX11, ?_⟩
     refine zn 5 63 (zt (some 6) (Instr.alloc 50 true (.tuple #[])) (vP w16.heap.size 0) ([(vI 0),(.slice none 0 0)]) 50 ?_)
     intro w17 hBw17 hEw17
     have hzw17:=hEw17.size;have hlw17:=hBw17.lt
     have hX12:Ext w4 w17:=(((hEw5.trans hEw15).trans hEw16).trans hEw17)
     refine ⟨.inr hX12, ?_⟩
     refine zn 6 127 (zz 50 w5.heap.size 0 50 (vA [(vI (zhA k)),(.slice a1 (tot (zhA k)) ca1)]) ([(vI 0),(.slice none 0 0)]) ([(vI (zhA k)),(.slice a1 (tot (zhA k)) ca1)]) (((hBw15.ext hEw16)).ext hEw17) (by kernel_rfl) (by first | decide |(simp;done)|(simp;omega)) (by simp [Value.oneCell']) ?_)
     intro w18 hBw18 hCw18
     have hzw18:=hCw18.size
     rw [zm _ _ (by kernel_rfl)] at hBw18
     have hX13:Ext w4 w18:=(Ext.own hX12 hCw18 (by omega))
     refine ⟨.inr hX13, ?_⟩
     refine zn 7 255 (zz 50 w16.heap.size 0 50 (vA [(vI (zhA k2)),(.slice a3 (tot (zhA k2)) ca3)]) ([(vI 0),(.slice none 0 0)]) ([(vI (zhA k2)),(.slice a3 (tot (zhA k2)) ca3)]) ((hBw17).chg hCw18 (fun hs=>by have h:_=_:=hs;omega)) (by kernel_rfl) (by first | decide |(simp;done)|(simp;omega)) (by simp [Value.oneCell']) ?_)
     intro w19 hBw19 hCw19
     have hzw19:=hCw19.size
     rw [zm _ _ (by kernel_rfl)] at hBw19
     refine ⟨.inl (by kernel_rfl), ?_⟩
     refine zJ (zC ?_)
     have hK11:=(((((((((hma1.ext hEw15)).ext hEw16)).ext hEw17)).chg hCw18 (fun k h1 h2 hs=>by have h:k=_:=hs;omega))).chg hCw19 (fun k h1 h2 hs=>by have h:k=_:=hs;omega))
     have hK12:=(((((hma3.ext hEw17)).chg hCw18 (fun k h1 h2 hs=>by have h:k=_:=hs;omega))).chg hCw19 (fun k h1 h2 hs=>by have h:k=_:=hs;omega))
     have hX14:Ext w2 w19:=(Ext.own (Ext.own (hEw4.trans hX12) hCw18 (by omega)) hCw19 (by omega))
     exact zuP (w5.heap.size,w16.heap.size,a1,ca1,a3,ca3) (⟨((hBw18).chg hCw19 (fun hs=>by have h:_=_:=hs;omega)),hBw19,(hK11).now.mono (by omega) (Nat.le_refl _),(hK12).now.mono (by omega) (Nat.le_refl _),by omega,by omega,hX14⟩)
    ·refine zt (some 6) (Instr.alloc 50 true (.tuple #[])) (vP w15.heap.size 0) ([(vI 0),(.slice none 0 0)]) 50 ?_
     intro w20 hBw20 hEw20
     have hzw20:=hEw20.size;have hlw20:=hBw20.lt
     have hX15:Ext w4 w20:=((hEw5.trans hEw15).trans hEw20)
     refine ⟨.inr hX15, ?_⟩
     have hK13:=(((((((((((h_p2.ext hEw1)).ext hEw2)).ext hEw4)).ext hEw5)).ext hEw15)).ext hEw20)
     have hK14:=(((((((((((h_s2.ext hEw1)).ext hEw2)).ext hEw4)).ext hEw5)).ext hEw15)).ext hEw20)
     refine zn 3 63 (zi (some 14) (zwS k2 _ hK13 hK14 (by omega)) ?_)
     rintro _ w21 ⟨a4,ca4,rfl,hFz4_0,hEw21⟩
     have hzw21:=hEw21.size
     have hma4:=hFz4_0.ms;have hlea4:=hma4.le
     have hX16:Ext w4 w21:=(((hEw5.trans hEw15).trans hEw20).trans hEw21)
     refine ⟨.inr hX16, ?_⟩
     refine zn 6 127 (zz 50 w5.heap.size 0 50 (vA [(vI (zhA k)),(.slice a1 (tot (zhA k)) ca1)]) ([(vI 0),(.slice none 0 0)]) ([(vI (zhA k)),(.slice a1 (tot (zhA k)) ca1)]) (((hBw15.ext hEw20)).ext hEw21) (by kernel_rfl) (by first | decide |(simp;done)|(simp;omega)) (by simp [Value.oneCell']) ?_)
     intro w22 hBw22 hCw22
     have hzw22:=hCw22.size
     rw [zm _ _ (by kernel_rfl)] at hBw22
     have hX17:Ext w4 w22:=(Ext.own hX16 hCw22 (by omega))
     refine ⟨.inr hX17, ?_⟩
     refine zn 7 255 (zz 50 w15.heap.size 0 50 (vA [(vI (zhA k2)),(.slice a4 (tot (zhA k2)) ca4)]) ([(vI 0),(.slice none 0 0)]) ([(vI (zhA k2)),(.slice a4 (tot (zhA k2)) ca4)]) (((hBw20.ext hEw21)).chg hCw22 (fun hs=>by have h:_=_:=hs;omega)) (by kernel_rfl) (by first | decide |(simp;done)|(simp;omega)) (by simp [Value.oneCell']) ?_)
     intro w23 hBw23 hCw23
     have hzw23:=hCw23.size
     rw [zm _ _ (by kernel_rfl)] at hBw23
     refine ⟨.inl (by kernel_rfl), ?_⟩
     refine zJ (zC ?_)
     have hK15:=(((((((((hma1.ext hEw15)).ext hEw20)).ext hEw21)).chg hCw22 (fun k h1 h2 hs=>by have h:k=_:=hs;omega))).chg hCw23 (fun k h1 h2 hs=>by have h:k=_:=hs;omega))
     have hX18:Ext w2 w23:=(Ext.own (Ext.own (hEw4.trans hX16) hCw22 (by omega)) hCw23 (by omega))
     exact zuP (w5.heap.size,w15.heap.size,a1,ca1,a4,ca4) (⟨((hBw22).chg hCw23 (fun hs=>by have h:_=_:=hs;omega)),hBw23,(hK15).now.mono (by omega) (Nat.le_refl _),(((((hma4).chg hCw22 (fun k h1 h2 hs=>by have h:k=_:=hs;omega))).chg hCw23 (fun k h1 h2 hs=>by have h:k=_:=hs;omega))).now.mono (by omega) (Nat.le_refl _),by omega,by omega,hX18⟩)
   ·refine zt (some 6) (Instr.alloc 50 true (.tuple #[])) (vP w5.heap.size 0) ([(vI 0),(.slice none 0 0)]) 50 ?_
    intro w24 hBw24 hEw24
    have hzw24:=hEw24.size;have hlw24:=hBw24.lt
    have hX19:Ext w4 w24:=(hEw5.trans hEw24)
    refine ⟨.inr hX19, ?_⟩
    refine zay 3 4 47 55 ?_ ?_
    ·have hK16:=(((((((((h_p2.ext hEw1)).ext hEw2)).ext hEw4)).ext hEw5)).ext hEw24)
     have hK17:=(((((((((h_s2.ext hEw1)).ext hEw2)).ext hEw4)).ext hEw5)).ext hEw24)
     refine zi (some 14) (zwS k2 _ hK16 hK17 (by omega)) ?_
     rintro _ w25 ⟨a5,ca5,rfl,hFz5_0,hEw25⟩
     have hzw25:=hEw25.size
     have hma5:=hFz5_0.ms;have hlea5:=hma5.le
     have hX20:Ext w4 w25:=((hEw5.trans hEw24).trans hEw25)
     refine ⟨.inr hX20, ?_⟩
     refine zn 4 63 (zt (some 5) (Instr.alloc 50 true (.tuple #[])) (vP w25.heap.size 0) ([(vI 0),(.slice none 0 0)]) 50 ?_)
     intro w26 hBw26 hEw26
     have hzw26:=hEw26.size;have hlw26:=hBw26.lt
     have hX21:Ext w4 w26:=(((hEw5.trans hEw24).trans hEw25).trans hEw26)
     refine ⟨.inr hX21, ?_⟩
     refine zn 6 127 (zz 50 w25.heap.size 0 50 (vA [(vI (zhA k)),(.slice a1 (tot (zhA k)) ca1)]) ([(vI 0),(.slice none 0 0)]) ([(vI (zhA k)),(.slice a1 (tot (zhA k)) ca1)]) hBw26 (by kernel_rfl) (by first | decide |(simp;done)|(simp;omega)) (by simp [Value.oneCell']) ?_)
     intro w27 hBw27 hCw27
     have hzw27:=hCw27.size
     rw [zm _ _ (by kernel_rfl)] at hBw27
     have hX22:Ext w4 w27:=(Ext.own hX21 hCw27 (by omega))
     refine ⟨.inr hX22, ?_⟩
     have hK18:=(((((hBw24.ext hEw25)).ext hEw26)).chg hCw27 (fun hs=>by have h:_=_:=hs;omega))
     refine zn 7 255 (zz 50 w5.heap.size 0 50 (vA [(vI (zhA k2)),(.slice a5 (tot (zhA k2)) ca5)]) ([(vI 0),(.slice none 0 0)]) ([(vI (zhA k2)),(.slice a5 (tot (zhA k2)) ca5)]) hK18 (by kernel_rfl) (by first | decide |(simp;done)|(simp;omega)) (by simp [Value.oneCell']) ?_)
     have hK19:=(((((hBw24.ext hEw25)).ext hEw26)).chg hCw27 (fun hs=>by have h:_=_:=hs;omega))
     intro w28 hBw28 hCw28
     have hzw28:=hCw28.size
     rw [zm _ _ (by kernel_rfl)] at hBw28
     refine ⟨.inl (by kernel_rfl), ?_⟩
     refine zJ (zC ?_)
     have hK20:=(((((((((hma1.ext hEw24)).ext hEw25)).ext hEw26)).chg hCw27 (fun k h1 h2 hs=>by have h:k=_:=hs;omega))).chg hCw28 (fun k h1 h2 hs=>by have h:k=_:=hs;omega))
     have hK21:=(((((hma5.ext hEw26)).chg hCw27 (fun k h1 h2 hs=>by have h:k=_:=hs;omega))).chg hCw28 (fun k h1 h2 hs=>by have h:k=_:=hs;omega))
     have hX23:Ext w2 w28:=(Ext.own (Ext.own (hEw4.trans hX21) hCw27 (by omega)) hCw28 (by omega))
     exact zuP (w25.heap.size,w5.heap.size,a1,ca1,a5,ca5) (⟨((hBw27).chg hCw28 (fun hs=>by have h:_=_:=hs;omega)),hBw28,(hK20).now.mono (by omega) (Nat.le_refl _),(hK21).now.mono (by omega) (Nat.le_refl _),by omega,by omega,hX23⟩)
    ·refine zt (some 5) (Instr.alloc 50 true (.tuple #[])) (vP w24.heap.size 0) ([(vI 0),(.slice none 0 0)]) 50 ?_
     intro w29 hBw29 hEw29
     have hzw29:=hEw29.size;have hlw29:=hBw29.lt
     have hX24:Ext w4 w29:=((hEw5.trans hEw24).trans hEw29)
     refine ⟨.inr hX24, ?_⟩
     have hK22:=(((((((((((h_p2.ext hEw1)).ext hEw2)).ext hEw4)).ext hEw5)).ext hEw24)).ext hEw29)
     have hK23:=(((((((((((h_s2.ext hEw1)).ext hEw2)).ext hEw4)).ext hEw5)).ext hEw24)).ext hEw29)
     refine zn 3 63 (zi (some 14) (zwS k2 _ hK22 hK23 (by omega)) ?_)
     rintro _ w30 ⟨a6,ca6,rfl,hFz6_0,hEw30⟩
     have hzw30:=hEw30.size
     have hma6:=hFz6_0.ms;have hlea6:=hma6.le
     have hX25:Ext w4 w30:=(((hEw5.trans hEw24).trans hEw29).trans hEw30)
     refine ⟨.inr hX25, ?_⟩
     refine zn 6 127 (zz 50 w24.heap.size 0 50 (vA [(vI (zhA k)),(.slice a1 (tot (zhA k)) ca1)]) ([(vI 0),(.slice none 0 0)]) ([(vI (zhA k)),(.slice a1 (tot (zhA k)) ca1)]) (hBw29.ext hEw30) (by kernel_rfl) (by first | decide |(simp;done)|(simp;omega)) (by simp [Value.oneCell']) ?_)
     intro w31 hBw31 hCw31
     have hzw31:=hCw31.size
     rw [zm _ _ (by kernel_rfl)] at hBw31
     have hX26:Ext w4 w31:=(Ext.own hX25 hCw31 (by omega))
     refine ⟨.inr hX26, ?_⟩
     have hK24:=(((((hBw24.ext hEw29)).ext hEw30)).chg hCw31 (fun hs=>by have h:_=_:=hs;omega))
     refine zn 7 255 (zz 50 w5.heap.size 0 50 (vA [(vI (zhA k2)),(.slice a6 (tot (zhA k2)) ca6)]) ([(vI 0),(.slice none 0 0)]) ([(vI (zhA k2)),(.slice a6 (tot (zhA k2)) ca6)]) hK24 (by kernel_rfl) (by first | decide |(simp;done)|(simp;omega)) (by simp [Value.oneCell']) ?_)
     have hK25:=(((((hBw24.ext hEw29)).ext hEw30)).chg hCw31 (fun hs=>by have h:_=_:=hs;omega))
     intro w32 hBw32 hCw32
     have hzw32:=hCw32.size
     rw [zm _ _ (by kernel_rfl)] at hBw32
     refine ⟨.inl (by kernel_rfl), ?_⟩
     refine zJ (zC ?_)
     have hK26:=(((((((((hma1.ext hEw24)).ext hEw29)).ext hEw30)).chg hCw31 (fun k h1 h2 hs=>by have h:k=_:=hs;omega))).chg hCw32 (fun k h1 h2 hs=>by have h:k=_:=hs;omega))
     have hX27:Ext w2 w32:=(Ext.own (Ext.own (hEw4.trans hX25) hCw31 (by omega)) hCw32 (by omega))
     exact zuP (w24.heap.size,w5.heap.size,a1,ca1,a6,ca6) (⟨((hBw31).chg hCw32 (fun hs=>by have h:_=_:=hs;omega)),hBw32,(hK26).now.mono (by omega) (Nat.le_refl _),(((((hma6).chg hCw31 (fun k h1 h2 hs=>by have h:k=_:=hs;omega))).chg hCw32 (fun k h1 h2 hs=>by have h:k=_:=hs;omega))).now.mono (by omega) (Nat.le_refl _),by omega,by omega,hX27⟩)
  ·refine zt (some 5) (Instr.alloc 50 true (.tuple #[])) (vP w4.heap.size 0) ([(vI 0),(.slice none 0 0)]) 50 ?_
   intro w33 hBw33 hEw33
   have hzw33:=hEw33.size;have hlw33:=hBw33.lt
   refine ⟨.inr hEw33, ?_⟩
   refine zay 1 5 23 53 ?_ ?_
   ·have hK27:=(((((((h_p.ext hEw1)).ext hEw2)).ext hEw4)).ext hEw33)
    have hK28:=(((((((h_s.ext hEw1)).ext hEw2)).ext hEw4)).ext hEw33)
    refine zi (some 12) (zwS k _ hK27 hK28 (by omega)) ?_
    rintro _ w34 ⟨a7,ca7,rfl,hFz7_0,hEw34⟩
    have hzw34:=hEw34.size
    have hma7:=hFz7_0.ms;have hlea7:=hma7.le
    have hX28:Ext w4 w34:=(hEw33.trans hEw34)
    refine ⟨.inr hX28, ?_⟩
    refine zay 3 5 31 55 ?_ ?_
    ·have hK29:=(((((((((h_p2.ext hEw1)).ext hEw2)).ext hEw4)).ext hEw33)).ext hEw34)
     have hK30:=(((((((((h_s2.ext hEw1)).ext hEw2)).ext hEw4)).ext hEw33)).ext hEw34)
     refine zi (some 14) (zwS k2 _ hK29 hK30 (by omega)) ?_
     rintro _ w35 ⟨a8,ca8,rfl,hFz8_0,hEw35⟩
     have hzw35:=hEw35.size
     have hma8:=hFz8_0.ms;have hlea8:=hma8.le
     have hX29:Ext w4 w35:=((hEw33.trans hEw34).trans hEw35)
     refine ⟨.inr hX29, ?_⟩
     refine zn 5 63 (zt (some 6) (Instr.alloc 50 true (.tuple #[])) (vP w35.heap.size 0) ([(vI 0),(.slice none 0 0)]) 50 ?_)
     intro w36 hBw36 hEw36
     have hzw36:=hEw36.size;have hlw36:=hBw36.lt
     have hX30:Ext w4 w36:=(((hEw33.trans hEw34).trans hEw35).trans hEw36)
     refine ⟨.inr hX30, ?_⟩
     have hK31:=(((((hBw33.ext hEw34)).ext hEw35)).ext hEw36)
     refine zn 6 127 (zz 50 w4.heap.size 0 50 (vA [(vI (zhA k)),(.slice a7 (tot (zhA k)) ca7)]) ([(vI 0),(.slice none 0 0)]) ([(vI (zhA k)),(.slice a7 (tot (zhA k)) ca7)]) hK31 (by kernel_rfl) (by first | decide |(simp;done)|(simp;omega)) (by simp [Value.oneCell']) ?_)
     have hK32:=(((((hBw33.ext hEw34)).ext hEw35)).ext hEw36)
     intro w37 hBw37 hCw37
     have hzw37:=hCw37.size
     rw [zm _ _ (by kernel_rfl)] at hBw37
     have hX31:Ext w4 w37:=(Ext.own hX30 hCw37 (by omega))
     refine ⟨.inr hX31, ?_⟩
     refine zn 7 255 (zz 50 w35.heap.size 0 50 (vA [(vI (zhA k2)),(.slice a8 (tot (zhA k2)) ca8)]) ([(vI 0),(.slice none 0 0)]) ([(vI (zhA k2)),(.slice a8 (tot (zhA k2)) ca8)]) ((hBw36).chg hCw37 (fun hs=>by have h:_=_:=hs;omega)) (by kernel_rfl) (by first | decide |(simp;done)|(simp;omega)) (by simp [Value.oneCell']) ?_)
     intro w38 hBw38 hCw38
     have hzw38:=hCw38.size
     rw [zm _ _ (by kernel_rfl)] at hBw38
     refine ⟨.inl (by kernel_rfl), ?_⟩
     refine zJ (zC ?_)
     have hK33:=(((((((hma7.ext hEw35)).ext hEw36)).chg hCw37 (fun k h1 h2 hs=>by have h:k=_:=hs;omega))).chg hCw38 (fun k h1 h2 hs=>by have h:k=_:=hs;omega))
     have hK34:=(((((hma8.ext hEw36)).chg hCw37 (fun k h1 h2 hs=>by have h:k=_:=hs;omega))).chg hCw38 (fun k h1 h2 hs=>by have h:k=_:=hs;omega))
     have hX32:Ext w2 w38:=(Ext.own (Ext.own (hEw4.trans hX30) hCw37 (by omega)) hCw38 (by omega))
     exact zuP (w4.heap.size,w35.heap.size,a7,ca7,a8,ca8) (⟨((hBw37).chg hCw38 (fun hs=>by have h:_=_:=hs;omega)),hBw38,(hK33).now.mono (by omega) (Nat.le_refl _),(hK34).now.mono (by omega) (Nat.le_refl _),by omega,by omega,hX32⟩)
    ·refine zt (some 6) (Instr.alloc 50 true (.tuple #[])) (vP w34.heap.size 0) ([(vI 0),(.slice none 0 0)]) 50 ?_
     intro w39 hBw39 hEw39
     have hzw39:=hEw39.size;have hlw39:=hBw39.lt
     have hX33:Ext w4 w39:=((hEw33.trans hEw34).trans hEw39)
     refine ⟨.inr hX33, ?_⟩
     have hK35:=(((((((((((h_p2.ext hEw1)).ext hEw2)).ext hEw4)).ext hEw33)).ext hEw34)).ext hEw39)
     have hK36:=(((((((((((h_s2.ext hEw1)).ext hEw2)).ext hEw4)).ext hEw33)).ext hEw34)).ext hEw39)
     refine zn 3 63 (zi (some 14) (zwS k2 _ hK35 hK36 (by omega)) ?_)
     rintro _ w40 ⟨a9,ca9,rfl,hFz9_0,hEw40⟩
     have hzw40:=hEw40.size
     have hma9:=hFz9_0.ms;have hlea9:=hma9.le
     have hX34:Ext w4 w40:=(((hEw33.trans hEw34).trans hEw39).trans hEw40)
     refine ⟨.inr hX34, ?_⟩
     have hK37:=(((((hBw33.ext hEw34)).ext hEw39)).ext hEw40)
     refine zn 6 127 (zz 50 w4.heap.size 0 50 (vA [(vI (zhA k)),(.slice a7 (tot (zhA k)) ca7)]) ([(vI 0),(.slice none 0 0)]) ([(vI (zhA k)),(.slice a7 (tot (zhA k)) ca7)]) hK37 (by kernel_rfl) (by first | decide |(simp;done)|(simp;omega)) (by simp [Value.oneCell']) ?_)
     have hK38:=(((((hBw33.ext hEw34)).ext hEw39)).ext hEw40)
     intro w41 hBw41 hCw41
     have hzw41:=hCw41.size
     rw [zm _ _ (by kernel_rfl)] at hBw41
     have hX35:Ext w4 w41:=(Ext.own hX34 hCw41 (by omega))
     refine ⟨.inr hX35, ?_⟩
     refine zn 7 255 (zz 50 w34.heap.size 0 50 (vA [(vI (zhA k2)),(.slice a9 (tot (zhA k2)) ca9)]) ([(vI 0),(.slice none 0 0)]) ([(vI (zhA k2)),(.slice a9 (tot (zhA k2)) ca9)]) (((hBw39.ext hEw40)).chg hCw41 (fun hs=>by have h:_=_:=hs;omega)) (by kernel_rfl) (by first | decide |(simp;done)|(simp;omega)) (by simp [Value.oneCell']) ?_)
     intro w42 hBw42 hCw42
     have hzw42:=hCw42.size
     rw [zm _ _ (by kernel_rfl)] at hBw42
     refine ⟨.inl (by kernel_rfl), ?_⟩
     refine zJ (zC ?_)
     have hK39:=(((((((hma7.ext hEw39)).ext hEw40)).chg hCw41 (fun k h1 h2 hs=>by have h:k=_:=hs;omega))).chg hCw42 (fun k h1 h2 hs=>by have h:k=_:=hs;omega))
     have hX36:Ext w2 w42:=(Ext.own (Ext.own (hEw4.trans hX34) hCw41 (by omega)) hCw42 (by omega))
     exact zuP (w4.heap.size,w34.heap.size,a7,ca7,a9,ca9) (⟨((hBw41).chg hCw42 (fun hs=>by have h:_=_:=hs;omega)),hBw42,(hK39).now.mono (by omega) (Nat.le_refl _),(((((hma9).chg hCw41 (fun k h1 h2 hs=>by have h:k=_:=hs;omega))).chg hCw42 (fun k h1 h2 hs=>by have h:k=_:=hs;omega))).now.mono (by omega) (Nat.le_refl _),by omega,by omega,hX36⟩)
   ·refine zt (some 6) (Instr.alloc 50 true (.tuple #[])) (vP w33.heap.size 0) ([(vI 0),(.slice none 0 0)]) 50 ?_
    intro w43 hBw43 hEw43
    have hzw43:=hEw43.size;have hlw43:=hBw43.lt
    have hX37:Ext w4 w43:=(hEw33.trans hEw43)
    refine ⟨.inr hX37, ?_⟩
    have hK40:=(((((((((h_p.ext hEw1)).ext hEw2)).ext hEw4)).ext hEw33)).ext hEw43)
    have hK41:=(((((((((h_s.ext hEw1)).ext hEw2)).ext hEw4)).ext hEw33)).ext hEw43)
    refine zn 1 55 (zi (some 12) (zwS k _ hK40 hK41 (by omega)) ?_)
    rintro _ w44 ⟨a10,ca10,rfl,hFz10_0,hEw44⟩
    have hzw44:=hEw44.size
    have hma10:=hFz10_0.ms;have hlea10:=hma10.le
    have hX38:Ext w4 w44:=((hEw33.trans hEw43).trans hEw44)
    refine ⟨.inr hX38, ?_⟩
    have hK42:=(((((((((((h_p2.ext hEw1)).ext hEw2)).ext hEw4)).ext hEw33)).ext hEw43)).ext hEw44)
    have hK43:=(((((((((((h_s2.ext hEw1)).ext hEw2)).ext hEw4)).ext hEw33)).ext hEw43)).ext hEw44)
    refine zn 3 63 (zi (some 14) (zwS k2 _ hK42 hK43 (by omega)) ?_)
    rintro _ w45 ⟨a11,ca11,rfl,hFz11_0,hEw45⟩
    have hzw45:=hEw45.size
    have hma11:=hFz11_0.ms;have hlea11:=hma11.le
    have hX39:Ext w4 w45:=(((hEw33.trans hEw43).trans hEw44).trans hEw45)
    refine ⟨.inr hX39, ?_⟩
    have hK44:=(((((hBw33.ext hEw43)).ext hEw44)).ext hEw45)
    refine zn 6 127 (zz 50 w4.heap.size 0 50 (vA [(vI (zhA k)),(.slice a10 (tot (zhA k)) ca10)]) ([(vI 0),(.slice none 0 0)]) ([(vI (zhA k)),(.slice a10 (tot (zhA k)) ca10)]) hK44 (by kernel_rfl) (by first | decide |(simp;done)|(simp;omega)) (by simp [Value.oneCell']) ?_)
    have hK45:=(((((hBw33.ext hEw43)).ext hEw44)).ext hEw45)
    intro w46 hBw46 hCw46
    have hzw46:=hCw46.size
    rw [zm _ _ (by kernel_rfl)] at hBw46
    have hX40:Ext w4 w46:=(Ext.own hX39 hCw46 (by omega))
    refine ⟨.inr hX40, ?_⟩
    have hK46:=(((((hBw43.ext hEw44)).ext hEw45)).chg hCw46 (fun hs=>by have h:_=_:=hs;omega))
    refine zn 7 255 (zz 50 w33.heap.size 0 50 (vA [(vI (zhA k2)),(.slice a11 (tot (zhA k2)) ca11)]) ([(vI 0),(.slice none 0 0)]) ([(vI (zhA k2)),(.slice a11 (tot (zhA k2)) ca11)]) hK46 (by kernel_rfl) (by first | decide |(simp;done)|(simp;omega)) (by simp [Value.oneCell']) ?_)
    have hK47:=(((((hBw43.ext hEw44)).ext hEw45)).chg hCw46 (fun hs=>by have h:_=_:=hs;omega))
    intro w47 hBw47 hCw47
    have hzw47:=hCw47.size
    rw [zm _ _ (by kernel_rfl)] at hBw47
    refine ⟨.inl (by kernel_rfl), ?_⟩
    refine zJ (zC ?_)
    have hK48:=(((((hma10.ext hEw45)).chg hCw46 (fun k h1 h2 hs=>by have h:k=_:=hs;omega))).chg hCw47 (fun k h1 h2 hs=>by have h:k=_:=hs;omega))
    have hX41:Ext w2 w47:=(Ext.own (Ext.own (hEw4.trans hX39) hCw46 (by omega)) hCw47 (by omega))
    exact zuP (w4.heap.size,w33.heap.size,a10,ca10,a11,ca11) (⟨((hBw46).chg hCw47 (fun hs=>by have h:_=_:=hs;omega)),hBw47,(hK48).now.mono (by omega) (Nat.le_refl _),(((((hma11).chg hCw46 (fun k h1 h2 hs=>by have h:k=_:=hs;omega))).chg hCw47 (fun k h1 h2 hs=>by have h:k=_:=hs;omega))).now.mono (by omega) (Nat.le_refl _),by omega,by omega,hX41⟩)
  ·refine zt (some 6) (Instr.alloc 50 true (.tuple #[])) (vP w4.heap.size 0) ([(vI 0),(.slice none 0 0)]) 50 ?_
   intro w48 hBw48 hEw48
   have hzw48:=hEw48.size;have hlw48:=hBw48.lt
   refine ⟨.inr hEw48, ?_⟩
   refine zay 1 4 39 53 ?_ ?_
   ·have hK49:=(((((((h_p.ext hEw1)).ext hEw2)).ext hEw4)).ext hEw48)
    have hK50:=(((((((h_s.ext hEw1)).ext hEw2)).ext hEw4)).ext hEw48)
    refine zi (some 12) (zwS k _ hK49 hK50 (by omega)) ?_
    rintro _ w49 ⟨a12,ca12,rfl,hFz12_0,hEw49⟩
    have hzw49:=hEw49.size
    have hma12:=hFz12_0.ms;have hlea12:=hma12.le
    have hX42:Ext w4 w49:=(hEw48.trans hEw49)
    refine ⟨.inr hX42, ?_⟩
    refine zay 3 4 47 55 ?_ ?_
    ·have hK51:=(((((((((h_p2.ext hEw1)).ext hEw2)).ext hEw4)).ext hEw48)).ext hEw49)
     have hK52:=(((((((((h_s2.ext hEw1)).ext hEw2)).ext hEw4)).ext hEw48)).ext hEw49)
     refine zi (some 14) (zwS k2 _ hK51 hK52 (by omega)) ?_
     rintro _ w50 ⟨a13,ca13,rfl,hFz13_0,hEw50⟩
     have hzw50:=hEw50.size
     have hma13:=hFz13_0.ms;have hlea13:=hma13.le
     have hX43:Ext w4 w50:=((hEw48.trans hEw49).trans hEw50)
     refine ⟨.inr hX43, ?_⟩
     refine zn 4 63 (zt (some 5) (Instr.alloc 50 true (.tuple #[])) (vP w50.heap.size 0) ([(vI 0),(.slice none 0 0)]) 50 ?_)
     intro w51 hBw51 hEw51
     have hzw51:=hEw51.size;have hlw51:=hBw51.lt
     have hX44:Ext w4 w51:=(((hEw48.trans hEw49).trans hEw50).trans hEw51)
     refine ⟨.inr hX44, ?_⟩
     refine zn 6 127 (zz 50 w50.heap.size 0 50 (vA [(vI (zhA k)),(.slice a12 (tot (zhA k)) ca12)]) ([(vI 0),(.slice none 0 0)]) ([(vI (zhA k)),(.slice a12 (tot (zhA k)) ca12)]) hBw51 (by kernel_rfl) (by first | decide |(simp;done)|(simp;omega)) (by simp [Value.oneCell']) ?_)
     intro w52 hBw52 hCw52
     have hzw52:=hCw52.size
     rw [zm _ _ (by kernel_rfl)] at hBw52
     have hX45:Ext w4 w52:=(Ext.own hX44 hCw52 (by omega))
     refine ⟨.inr hX45, ?_⟩
     have hK53:=(((((((hBw48.ext hEw49)).ext hEw50)).ext hEw51)).chg hCw52 (fun hs=>by have h:_=_:=hs;omega))
     refine zn 7 255 (zz 50 w4.heap.size 0 50 (vA [(vI (zhA k2)),(.slice a13 (tot (zhA k2)) ca13)]) ([(vI 0),(.slice none 0 0)]) ([(vI (zhA k2)),(.slice a13 (tot (zhA k2)) ca13)]) hK53 (by kernel_rfl) (by first | decide |(simp;done)|(simp;omega)) (by simp [Value.oneCell']) ?_)
     have hK54:=(((((((hBw48.ext hEw49)).ext hEw50)).ext hEw51)).chg hCw52 (fun hs=>by have h:_=_:=hs;omega))
     intro w53 hBw53 hCw53
     have hzw53:=hCw53.size
     rw [zm _ _ (by kernel_rfl)] at hBw53
     refine ⟨.inl (by kernel_rfl), ?_⟩
     refine zJ (zC ?_)
     have hK55:=(((((((hma12.ext hEw50)).ext hEw51)).chg hCw52 (fun k h1 h2 hs=>by have h:k=_:=hs;omega))).chg hCw53 (fun k h1 h2 hs=>by have h:k=_:=hs;omega))
     have hK56:=(((((hma13.ext hEw51)).chg hCw52 (fun k h1 h2 hs=>by have h:k=_:=hs;omega))).chg hCw53 (fun k h1 h2 hs=>by have h:k=_:=hs;omega))
     have hX46:Ext w2 w53:=(Ext.own (Ext.own (hEw4.trans hX44) hCw52 (by omega)) hCw53 (by omega))
     exact zuP (w50.heap.size,w4.heap.size,a12,ca12,a13,ca13) (⟨((hBw52).chg hCw53 (fun hs=>by have h:_=_:=hs;omega)),hBw53,(hK55).now.mono (by omega) (Nat.le_refl _),(hK56).now.mono (by omega) (Nat.le_refl _),by omega,by omega,hX46⟩)
    ·refine zt (some 5) (Instr.alloc 50 true (.tuple #[])) (vP w49.heap.size 0) ([(vI 0),(.slice none 0 0)]) 50 ?_
     intro w54 hBw54 hEw54
     have hzw54:=hEw54.size;have hlw54:=hBw54.lt
     have hX47:Ext w4 w54:=((hEw48.trans hEw49).trans hEw54)
     refine ⟨.inr hX47, ?_⟩
     have hK57:=(((((((((((h_p2.ext hEw1)).ext hEw2)).ext hEw4)).ext hEw48)).ext hEw49)).ext hEw54)
     have hK58:=(((((((((((h_s2.ext hEw1)).ext hEw2)).ext hEw4)).ext hEw48)).ext hEw49)).ext hEw54)
     refine zn 3 63 (zi (some 14) (zwS k2 _ hK57 hK58 (by omega)) ?_)
     rintro _ w55 ⟨a14,ca14,rfl,hFz14_0,hEw55⟩
     have hzw55:=hEw55.size
     have hma14:=hFz14_0.ms;have hlea14:=hma14.le
     have hX48:Ext w4 w55:=(((hEw48.trans hEw49).trans hEw54).trans hEw55)
     refine ⟨.inr hX48, ?_⟩
     refine zn 6 127 (zz 50 w49.heap.size 0 50 (vA [(vI (zhA k)),(.slice a12 (tot (zhA k)) ca12)]) ([(vI 0),(.slice none 0 0)]) ([(vI (zhA k)),(.slice a12 (tot (zhA k)) ca12)]) (hBw54.ext hEw55) (by kernel_rfl) (by first | decide |(simp;done)|(simp;omega)) (by simp [Value.oneCell']) ?_)
     intro w56 hBw56 hCw56
     have hzw56:=hCw56.size
     rw [zm _ _ (by kernel_rfl)] at hBw56
     have hX49:Ext w4 w56:=(Ext.own hX48 hCw56 (by omega))
     refine ⟨.inr hX49, ?_⟩
     have hK59:=(((((((hBw48.ext hEw49)).ext hEw54)).ext hEw55)).chg hCw56 (fun hs=>by have h:_=_:=hs;omega))
     refine zn 7 255 (zz 50 w4.heap.size 0 50 (vA [(vI (zhA k2)),(.slice a14 (tot (zhA k2)) ca14)]) ([(vI 0),(.slice none 0 0)]) ([(vI (zhA k2)),(.slice a14 (tot (zhA k2)) ca14)]) hK59 (by kernel_rfl) (by first | decide |(simp;done)|(simp;omega)) (by simp [Value.oneCell']) ?_)
     have hK60:=(((((((hBw48.ext hEw49)).ext hEw54)).ext hEw55)).chg hCw56 (fun hs=>by have h:_=_:=hs;omega))
     intro w57 hBw57 hCw57
     have hzw57:=hCw57.size
     rw [zm _ _ (by kernel_rfl)] at hBw57
     refine ⟨.inl (by kernel_rfl), ?_⟩
     refine zJ (zC ?_)
     have hK61:=(((((((hma12.ext hEw54)).ext hEw55)).chg hCw56 (fun k h1 h2 hs=>by have h:k=_:=hs;omega))).chg hCw57 (fun k h1 h2 hs=>by have h:k=_:=hs;omega))
     have hX50:Ext w2 w57:=(Ext.own (Ext.own (hEw4.trans hX48) hCw56 (by omega)) hCw57 (by omega))
     exact zuP (w49.heap.size,w4.heap.size,a12,ca12,a14,ca14) (⟨((hBw56).chg hCw57 (fun hs=>by have h:_=_:=hs;omega)),hBw57,(hK61).now.mono (by omega) (Nat.le_refl _),(((((hma14).chg hCw56 (fun k h1 h2 hs=>by have h:k=_:=hs;omega))).chg hCw57 (fun k h1 h2 hs=>by have h:k=_:=hs;omega))).now.mono (by omega) (Nat.le_refl _),by omega,by omega,hX50⟩)
   ·refine zt (some 5) (Instr.alloc 50 true (.tuple #[])) (vP w48.heap.size 0) ([(vI 0),(.slice none 0 0)]) 50 ?_
    intro w58 hBw58 hEw58
    have hzw58:=hEw58.size;have hlw58:=hBw58.lt
    have hX51:Ext w4 w58:=(hEw48.trans hEw58)
    refine ⟨.inr hX51, ?_⟩
    have hK62:=(((((((((h_p.ext hEw1)).ext hEw2)).ext hEw4)).ext hEw48)).ext hEw58)
    have hK63:=(((((((((h_s.ext hEw1)).ext hEw2)).ext hEw4)).ext hEw48)).ext hEw58)
    refine zn 1 55 (zi (some 12) (zwS k _ hK62 hK63 (by omega)) ?_)
    rintro _ w59 ⟨a15,ca15,rfl,hFz15_0,hEw59⟩
    have hzw59:=hEw59.size
    have hma15:=hFz15_0.ms;have hlea15:=hma15.le
    have hX52:Ext w4 w59:=((hEw48.trans hEw58).trans hEw59)
    refine ⟨.inr hX52, ?_⟩
    have hK64:=(((((((((((h_p2.ext hEw1)).ext hEw2)).ext hEw4)).ext hEw48)).ext hEw58)).ext hEw59)
    have hK65:=(((((((((((h_s2.ext hEw1)).ext hEw2)).ext hEw4)).ext hEw48)).ext hEw58)).ext hEw59)
    refine zn 3 63 (zi (some 14) (zwS k2 _ hK64 hK65 (by omega)) ?_)
    rintro _ w60 ⟨a16,ca16,rfl,hFz16_0,hEw60⟩
    have hzw60:=hEw60.size
    have hma16:=hFz16_0.ms;have hlea16:=hma16.le
    have hX53:Ext w4 w60:=(((hEw48.trans hEw58).trans hEw59).trans hEw60)
    refine ⟨.inr hX53, ?_⟩
    refine zn 6 127 (zz 50 w48.heap.size 0 50 (vA [(vI (zhA k)),(.slice a15 (tot (zhA k)) ca15)]) ([(vI 0),(.slice none 0 0)]) ([(vI (zhA k)),(.slice a15 (tot (zhA k)) ca15)]) (((hBw58.ext hEw59)).ext hEw60) (by kernel_rfl) (by first | decide |(simp;done)|(simp;omega)) (by simp [Value.oneCell']) ?_)
    intro w61 hBw61 hCw61
    have hzw61:=hCw61.size
    rw [zm _ _ (by kernel_rfl)] at hBw61
    have hX54:Ext w4 w61:=(Ext.own hX53 hCw61 (by omega))
    refine ⟨.inr hX54, ?_⟩
    have hK66:=(((((((hBw48.ext hEw58)).ext hEw59)).ext hEw60)).chg hCw61 (fun hs=>by have h:_=_:=hs;omega))
    refine zn 7 255 (zz 50 w4.heap.size 0 50 (vA [(vI (zhA k2)),(.slice a16 (tot (zhA k2)) ca16)]) ([(vI 0),(.slice none 0 0)]) ([(vI (zhA k2)),(.slice a16 (tot (zhA k2)) ca16)]) hK66 (by kernel_rfl) (by first | decide |(simp;done)|(simp;omega)) (by simp [Value.oneCell']) ?_)
    have hK67:=(((((((hBw48.ext hEw58)).ext hEw59)).ext hEw60)).chg hCw61 (fun hs=>by have h:_=_:=hs;omega))
    intro w62 hBw62 hCw62
    have hzw62:=hCw62.size
    rw [zm _ _ (by kernel_rfl)] at hBw62
    refine ⟨.inl (by kernel_rfl), ?_⟩
    refine zJ (zC ?_)
    have hK68:=(((((hma15.ext hEw60)).chg hCw61 (fun k h1 h2 hs=>by have h:k=_:=hs;omega))).chg hCw62 (fun k h1 h2 hs=>by have h:k=_:=hs;omega))
    have hX55:Ext w2 w62:=(Ext.own (Ext.own (hEw4.trans hX53) hCw61 (by omega)) hCw62 (by omega))
    exact zuP (w48.heap.size,w4.heap.size,a15,ca15,a16,ca16) (⟨((hBw61).chg hCw62 (fun hs=>by have h:_=_:=hs;omega)),hBw62,(hK68).now.mono (by omega) (Nat.le_refl _),(((((hma16).chg hCw61 (fun k h1 h2 hs=>by have h:k=_:=hs;omega))).chg hCw62 (fun k h1 h2 hs=>by have h:k=_:=hs;omega))).now.mono (by omega) (Nat.le_refl _),by omega,by omega,hX55⟩)
 rintro ⟨bj5,bj6,a1,c1,a2,c2⟩ dw3 w3 ⟨hJ5,hJ6,hM1,hM2,hJs5,hJs6,hEj⟩
 have hzj:=hEj.size
 have hJl5:=hJ5.lt;have hJl6:=hJ6.lt
 have hle1:=hM1.le;have hle2:=hM2.le
 refine zf (ze (zb (zj (some 16) (Instr.loadAt 50 (vP bj5 0)) (vA [(vI (zhA k)),(.slice a1 (tot (zhA k)) c1)]) (zD (vs:= [(vI (zhA k)),(.slice a1 (tot (zhA k)) c1)]) (hJ5.all)) ?_)))
 refine zb (zj (some 17) (Instr.loadAt 50 (vP bj6 0)) (vA [(vI (zhA k2)),(.slice a2 (tot (zhA k2)) c2)]) (zD (vs:= [(vI (zhA k2)),(.slice a2 (tot (zhA k2)) c2)]) (hJ6.all)) ?_)
 have hK69:=(((((hg0.ext hEw1)).ext hEw2)).ext hEj)
 have hK70:=(((((hg1.ext hEw1)).ext hEw2)).ext hEj)
 have hK71:=(((((hg2.ext hEw1)).ext hEw2)).ext hEj)
 have hK72:=(((((hg3.ext hEw1)).ext hEw2)).ext hEj)
 refine zb (zi (some 18) (zw0 (zhA k) (zhA k2) _ hM1 hM2 (by omega) (by omega) (by first | rfl | omega) (hok) (by omega) (by omega) (by first | rfl | omega) (hokq) (hp2) hK69 hK70 hK71 hK72) ?_)
 rintro _ w63 ⟨rfl,hEw63⟩
 have hzw63:=hEw63.size
 refine zd 7 [(9,(vI 1)),(8,(.slice none 0 0)),(7,(.slice none 0 0)),(21,(vI 1)),(20,(.slice none 0 0)),(19,(.slice none 0 0)),(15,(.tuple #[(.slice none 0 0),(.slice none 0 0),(vI 1)]))] (zg (zc (zf (zf (ze (zd 1 [(22,(vP bj5 0))] (zb (zj (some 23) (Instr.loadAt 3 (vP bj5 0)) (vI (zhA k)) (zo ((hJ5.ext hEw63).cell rfl)) ?_))))))))
 refine zd 1 [(24,(vP bj6 0))] (zb (zj (some 25) (Instr.loadAt 3 (vP bj6 0)) (vI (zhA k2)) (zo ((hJ6.ext hEw63).cell rfl)) ?_))
 refine zb (zat (some 26) (((zhA k:Nat):Int) !=((zhA k2:Nat):Int)) true (zcq (by omega)) ?_)
 refine zg (zc (zF (zf (ze (zd 7 [(33,(vI 0)),(32,(.slice none 0 0)),(31,(vI 0)),(30,(.slice none 0 0)),(29,vT),(28,vT),(27,(vI 1))] (zb (zv (some 34) .i64 (IntKind.i64.wrap (((0:Nat):Int)+((0:Nat):Int))) 0 (zG (by omega) (by omega) (by omega)) ?_)))))))
 refine zd 3 [(37,vT),(36,vT),(35,vT)] (zb (zi (some 38) (zmt _ (hK69.ext hEw63) (hK70.ext hEw63) (hK71.ext hEw63) (hK72.ext hEw63)) ?_))
 rintro _ w64 ⟨rfl,hEw64⟩
 have hzw64:=hEw64.size
 refine zd 2 [(4,vT),(39,vT)] (zg (zc (zx (zu (zB vT ?_)))))
 have hX56:Ext w w64:=((((hEw1.trans hEw2).trans hEj).trans hEw63).trans hEw64)
 exact ⟨rfl,hX56⟩
set_option maxHeartbeats 4000000 in
theorem zw4 (k:Nat) {lo_p hi_p:Nat} {a_p:Option Addr} {n_p c_p:Nat} {p:List (UInt8×UInt8)} {lo_s hi_s:Nat} {a_s:Option Addr} {n_s c_s:Nat} {s:List UInt8} (k2:Nat) {lo_p2 hi_p2:Nat} {a_p2:Option Addr} {n_p2 c_p2:Nat} {p2:List (UInt8×UInt8)} {lo_s2 hi_s2:Nat} {a_s2:Option Addr} {n_s2 c_s2:Nat} {s2:List UInt8} (w:World) (h_p:Ms b2C 2 lo_p hi_p w a_p n_p c_p p) (h_s:Bs lo_s hi_s w a_s n_s c_s s) (h_p2:Ms b2C 2 lo_p2 hi_p2 w a_p2 n_p2 c_p2 p2) (h_s2:Bs lo_s2 hi_s2 w a_s2 n_s2 c_s2 s2) (hp0:k<256) (hp1:k2<256) (hp2:(zhA k)=(zhA k2)) (hp3:(zaa (zf2 p (zhA k)) (zfK s (tot (zhA k))))=(zaa (zf2 p2 (zhA k2)) (zfK s2 (tot (zhA k2))))) (hg0:Gl 0 [vI 45,vI 33] w) (hg1:Gl 2 (w8C za2) w) (hg2:Gl 3 (zR kA) w) (hg3:Gl 1 [.iface 199 (.agg #[.pointer (some ⟨4,99,none⟩)])] w):
  Calls Tryz.prog 9 #[(vA [(vB k),(.slice a_p n_p c_p),(.slice a_s n_s c_s)]),(vA [(vB k2),(.slice a_p2 n_p2 c_p2),(.slice a_s2 n_s2 c_s2)])] w (Ret fun r w'=>r=vT∧Ext w w'):=by
 refine zL (n:=96) (σ:= [(0,(vA [(vB k),(.slice a_p n_p c_p),(.slice a_s n_s c_s)])),(1,(vA [(vB k2),(.slice a_p2 n_p2 c_p2),(.slice a_s2 n_s2 c_s2)]))]) Tryz.func9 rfl ?_
 replace h_p:=h_p.now;have hle_p:=h_p.le
 replace h_s:=h_s.now;have hle_s:=h_s.le
 replace h_p2:=h_p2.now;have hle_p2:=h_p2.le
 replace h_s2:=h_s2.now;have hle_s2:=h_s2.le
 have hgl0:=hg0.lt
 have hgl1:=hg1.lt
 have hgl2:=hg2.lt
 have hgl3:=hg3.lt
 have hbk:=znA k
 have hOK:=zvi p s k
 have hLn:=zfI p (zhA k)
 have hts:=zbN (n:=zhA k) (by omega)
 have htp:=zfo (n:=zhA k) (by omega) (by omega)
 have hsb:∀i,(zfK s (tot (zhA k))).getD i 0≤1099511627776:=fun i=>Nat.le_trans (zps _ _ i) (by decide)
 have hok:=zuN hOK hLn
 have h5:=zaz (zhA k)
 have hlp:=h_p.len_eq;have hls:=h_s.len_eq
 have hbkq:=znA k2
 have hOKq:=zvi p2 s2 k2
 have hLnq:=zfI p2 (zhA k2)
 have htsq:=zbN (n:=zhA k2) (by omega)
 have htpq:=zfo (n:=zhA k2) (by omega) (by omega)
 have hsbq:∀i,(zfK s2 (tot (zhA k2))).getD i 0≤1099511627776:=fun i=>Nat.le_trans (zps _ _ i) (by decide)
 have hokq:=zuN hOKq hLnq
 have h5q:=zaz (zhA k2)
 have hlpq:=h_p2.len_eq;have hlsq:=h_s2.len_eq
 have htt:tot (zhA k)=tot (zhA k2):=by rw [hp2]
 have hl1:num (zhA k) (hgt (zhA k))=tot (zhA k)-1:=by omega
 have hl2:num (zhA k2) (hgt (zhA k2))=tot (zhA k)-1:=by omega
 refine zf (ze (zb (zt (some 2) (Instr.box 59 (vA [(vB k),(.slice a_p n_p c_p),(.slice a_s n_s c_s)])) (vP w.heap.size 0) ([(vB k),(.slice a_p n_p c_p),(.slice a_s n_s c_s)]) 59 ?_)))
 intro w1 hBw1 hEw1
 have hzw1:=hEw1.size;have hlw1:=hBw1.lt
 refine zb (zt (some 3) (Instr.box 59 (vA [(vB k2),(.slice a_p2 n_p2 c_p2),(.slice a_s2 n_s2 c_s2)])) (vP w1.heap.size 0) ([(vB k2),(.slice a_p2 n_p2 c_p2),(.slice a_s2 n_s2 c_s2)]) 59 ?_)
 intro w2 hBw2 hEw2
 have hzw2:=hEw2.size;have hlw2:=hBw2.lt
 refine zd 1 [(4,vF)] (zg (zc (zsP (X:=Nat×Nat×Option Addr×Nat×Option Addr×Nat) (fun ⟨bj5,bj6,a1,c1,a2,c2⟩=> [(5,(vP bj5 0)),(6,(vP bj6 0))]) [11,12,13,14] (fun ⟨bj5,bj6,a1,c1,a2,c2⟩ w3=>Blk w3 bj5 ([(vI (zhA k)),(.slice a1 (tot (zhA k)) c1)]) 50∧Blk w3 bj6 ([(vI (zhA k2)),(.slice a2 (tot (zhA k2)) c2)]) 50∧Ms zK 274 w2.heap.size w3.heap.size w3 a1 (tot (zhA k)) c1 (zaa (zf2 p (zhA k)) (zfK s (tot (zhA k))))∧Ms zK 274 w2.heap.size w3.heap.size w3 a2 (tot (zhA k2)) c2 (zaa (zf2 p2 (zhA k2)) (zfK s2 (tot (zhA k2))))∧w2.heap.size≤bj5∧w2.heap.size≤bj6∧Ext w2 w3) ?_ ?_)))
 ·refine zag (Ext w2.drew) 8 [(12,4,0),(13,2048,1),(14,8,0),(15,8192,6),(6,0,0),(7,0,0),(0,4128,59),(0,16448,127)] (fun hT538=> ?_)
  have hEw4:Ext w2 w2.drew:=Ext.drew w2
  generalize w2.drew=w4 at hEw4⊢
  have hzw4:=hEw4.size
  refine zh hT538 0 1 (some 11) (vA [(vB k),(.slice a_p n_p c_p),(.slice a_s n_s c_s)]) (zl (Instr.loadAt 59 (vP w.heap.size 0)) (fun w' hC=>zD (vs:= [(vB k),(.slice a_p n_p c_p),(.slice a_s n_s c_s)]) (((((hBw1.ext hEw2)).ext hEw4).ext hC).all))) (zh hT538 2 5 (some 13) (vA [(vB k2),(.slice a_p2 n_p2 c_p2),(.slice a_s2 n_s2 c_s2)]) (zl (Instr.loadAt 59 (vP w1.heap.size 0)) (fun w' hC=>zD (vs:= [(vB k2),(.slice a_p2 n_p2 c_p2),(.slice a_s2 n_s2 c_s2)]) (((hBw2.ext hEw4).ext hC).all))) (zeq 1 4 5 7 21 37 ?_ ?_ ?_))
  ·have hK1:=(((((h_p.ext hEw1)).ext hEw2)).ext hEw4)
   have hK2:=(((((h_s.ext hEw1)).ext hEw2)).ext hEw4)
   refine zi (some 12) (zwS k _ hK1 hK2 (by omega)) ?_
   rintro _ w5 ⟨a1,ca1,rfl,hFz1_0,hEw5⟩
   have hzw5:=hEw5.size
   have hma1:=hFz1_0.ms;have hlea1:=hma1.le
   refine ⟨.inr hEw5, ?_⟩
   refine zeq 3 4 5 15 23 39 ?_ ?_ ?_
   ·have hK3:=(((((((h_p2.ext hEw1)).ext hEw2)).ext hEw4)).ext hEw5)
    have hK4:=(((((((h_s2.ext hEw1)).ext hEw2)).ext hEw4)).ext hEw5)
    refine zi (some 14) (zwS k2 _ hK3 hK4 (by omega)) ?_
    rintro _ w6 ⟨a2,ca2,rfl,hFz2_0,hEw6⟩
    have hzw6:=hEw6.size
    have hma2:=hFz2_0.ms;have hlea2:=hma2.le
    have hX1:Ext w4 w6:=(hEw5.trans hEw6)
    refine ⟨.inr hX1, ?_⟩
    refine zay 4 5 31 47 ?_ ?_
    ·refine zt (some 5) (Instr.alloc 50 true (.tuple #[])) (vP w6.heap.size 0) ([(vI 0),(.slice none 0 0)]) 50 ?_
     intro w7 hBw7 hEw7
     have hzw7:=hEw7.size;have hlw7:=hBw7.lt
     have hX2:Ext w4 w7:=((hEw5.trans hEw6).trans hEw7)
     refine ⟨.inr hX2, ?_⟩
     refine zn 5 63 (zt (some 6) (Instr.alloc 50 true (.tuple #[])) (vP w7.heap.size 0) ([(vI 0),(.slice none 0 0)]) 50 ?_)
     intro w8 hBw8 hEw8
     have hzw8:=hEw8.size;have hlw8:=hBw8.lt
     have hX3:Ext w4 w8:=(((hEw5.trans hEw6).trans hEw7).trans hEw8)
     refine ⟨.inr hX3, ?_⟩
     refine zn 6 127 (zz 50 w6.heap.size 0 50 (vA [(vI (zhA k)),(.slice a1 (tot (zhA k)) ca1)]) ([(vI 0),(.slice none 0 0)]) ([(vI (zhA k)),(.slice a1 (tot (zhA k)) ca1)]) (hBw7.ext hEw8) (by kernel_rfl) (by first | decide |(simp;done)|(simp;omega)) (by simp [Value.oneCell']) ?_)
     intro w9 hBw9 hCw9
     have hzw9:=hCw9.size
     rw [zm _ _ (by kernel_rfl)] at hBw9
     have hX4:Ext w4 w9:=(Ext.own hX3 hCw9 (by omega))
     refine ⟨.inr hX4, ?_⟩
     refine zn 7 255 (zz 50 w7.heap.size 0 50 (vA [(vI (zhA k2)),(.slice a2 (tot (zhA k2)) ca2)]) ([(vI 0),(.slice none 0 0)]) ([(vI (zhA k2)),(.slice a2 (tot (zhA k2)) ca2)]) ((hBw8).chg hCw9 (fun hs=>by have h:_=_:=hs;omega)) (by kernel_rfl) (by first | decide |(simp;done)|(simp;omega)) (by simp [Value.oneCell']) ?_)
     intro w10 hBw10 hCw10
     have hzw10:=hCw10.size
     rw [zm _ _ (by kernel_rfl)] at hBw10
     refine ⟨.inl (by kernel_rfl), ?_⟩
     refine zJ (zC ?_)
     have hK5:=(((((((((hma1.ext hEw6)).ext hEw7)).ext hEw8)).chg hCw9 (fun k h1 h2 hs=>by have h:k=_:=hs;omega))).chg hCw10 (fun k h1 h2 hs=>by have h:k=_:=hs;omega))
     have hK6:=(((((((hma2.ext hEw7)).ext hEw8)).chg hCw9 (fun k h1 h2 hs=>by have h:k=_:=hs;omega))).chg hCw10 (fun k h1 h2 hs=>by have h:k=_:=hs;omega))
     have hX5:Ext w2 w10:=(Ext.own (Ext.own (hEw4.trans hX3) hCw9 (by omega)) hCw10 (by omega))
     exact zuP (w6.heap.size,w7.heap.size,a1,ca1,a2,ca2) (⟨((hBw9).chg hCw10 (fun hs=>by have h:_=_:=hs;omega)),hBw10,(hK5).now.mono (by omega) (Nat.le_refl _),(hK6).now.mono (by omega) (Nat.le_refl _),by omega,by omega,hX5⟩)
    ·refine zt (some 6) (Instr.alloc 50 true (.tuple #[])) (vP w6.heap.size 0) ([(vI 0),(.slice none 0 0)]) 50 ?_
     intro w11 hBw11 hEw11
     have hzw11:=hEw11.size;have hlw11:=hBw11.lt
     have hX6:Ext w4 w11:=((hEw5.trans hEw6).trans hEw11)
     refine ⟨.inr hX6, ?_⟩
     refine zn 4 63 (zt (some 5) (Instr.alloc 50 true (.tuple #[])) (vP w11.heap.size 0) ([(vI 0),(.slice none 0 0)]) 50 ?_)
     intro w12 hBw12 hEw12
     have hzw12:=hEw12.size;have hlw12:=hBw12.lt
     have hX7:Ext w4 w12:=(((hEw5.trans hEw6).trans hEw11).trans hEw12)
     refine ⟨.inr hX7, ?_⟩
     refine zn 6 127 (zz 50 w11.heap.size 0 50 (vA [(vI (zhA k)),(.slice a1 (tot (zhA k)) ca1)]) ([(vI 0),(.slice none 0 0)]) ([(vI (zhA k)),(.slice a1 (tot (zhA k)) ca1)]) hBw12 (by kernel_rfl) (by first | decide |(simp;done)|(simp;omega)) (by simp [Value.oneCell']) ?_)
     intro w13 hBw13 hCw13
     have hzw13:=hCw13.size
     rw [zm _ _ (by kernel_rfl)] at hBw13
     have hX8:Ext w4 w13:=(Ext.own hX7 hCw13 (by omega))
     refine ⟨.inr hX8, ?_⟩
     refine zn 7 255 (zz 50 w6.heap.size 0 50 (vA [(vI (zhA k2)),(.slice a2 (tot (zhA k2)) ca2)]) ([(vI 0),(.slice none 0 0)]) ([(vI (zhA k2)),(.slice a2 (tot (zhA k2)) ca2)]) (((hBw11.ext hEw12)).chg hCw13 (fun hs=>by have h:_=_:=hs;omega)) (by kernel_rfl) (by first | decide |(simp;done)|(simp;omega)) (by simp [Value.oneCell']) ?_)
     intro w14 hBw14 hCw14
     have hzw14:=hCw14.size
     rw [zm _ _ (by kernel_rfl)] at hBw14
     refine ⟨.inl (by kernel_rfl), ?_⟩
     refine zJ (zC ?_)
     have hK7:=(((((((((hma1.ext hEw6)).ext hEw11)).ext hEw12)).chg hCw13 (fun k h1 h2 hs=>by have h:k=_:=hs;omega))).chg hCw14 (fun k h1 h2 hs=>by have h:k=_:=hs;omega))
     have hK8:=(((((((hma2.ext hEw11)).ext hEw12)).chg hCw13 (fun k h1 h2 hs=>by have h:k=_:=hs;omega))).chg hCw14 (fun k h1 h2 hs=>by have h:k=_:=hs;omega))
     have hX9:Ext w2 w14:=(Ext.own (Ext.own (hEw4.trans hX7) hCw13 (by omega)) hCw14 (by omega))
     exact zuP (w11.heap.size,w6.heap.size,a1,ca1,a2,ca2) (⟨((hBw13).chg hCw14 (fun hs=>by have h:_=_:=hs;omega)),hBw14,(hK7).now.mono (by omega) (Nat.le_refl _),(hK8).now.mono (by omega) (Nat.le_refl _),by omega,by omega,hX9⟩)
   ·refine zt (some 5) (Instr.alloc 50 true (.tuple #[])) (vP w5.heap.size 0) ([(vI 0),(.slice none 0 0)]) 50 ?_
    intro w15 hBw15 hEw15
    have hzw15:=hEw15.size;have hlw15:=hBw15.lt
    have hX10:Ext w4 w15:=(hEw5.trans hEw15)
    refine ⟨.inr hX10, ?_⟩
    refine zay 3 5 31 55 ?_ ?_
    ·have hK9:=(((((((((h_p2.ext hEw1)).ext hEw2)).ext hEw4)).ext hEw5)).ext hEw15)
     have hK10:=(((((((((h_s2.ext hEw1)).ext hEw2)).ext hEw4)).ext hEw5)).ext hEw15)
     refine zi (some 14) (zwS k2 _ hK9 hK10 (by omega)) ?_
     rintro _ w16 ⟨a3,ca3,rfl,hFz3_0,hEw16⟩
     have hzw16:=hEw16.size
     have hma3:=hFz3_0.ms;have hlea3:=hma3.le
     have hX11:Ext w4 w16:=((hEw5.trans hEw15).trans hEw16)
     refine ⟨.inr hX11, ?_⟩
     refine zn 5 63 (zt (some 6) (Instr.alloc 50 true (.tuple #[])) (vP w16.heap.size 0) ([(vI 0),(.slice none 0 0)]) 50 ?_)
     intro w17 hBw17 hEw17
     have hzw17:=hEw17.size;have hlw17:=hBw17.lt
     have hX12:Ext w4 w17:=(((hEw5.trans hEw15).trans hEw16).trans hEw17)
     refine ⟨.inr hX12, ?_⟩
     refine zn 6 127 (zz 50 w5.heap.size 0 50 (vA [(vI (zhA k)),(.slice a1 (tot (zhA k)) ca1)]) ([(vI 0),(.slice none 0 0)]) ([(vI (zhA k)),(.slice a1 (tot (zhA k)) ca1)]) (((hBw15.ext hEw16)).ext hEw17) (by kernel_rfl) (by first | decide |(simp;done)|(simp;omega)) (by simp [Value.oneCell']) ?_)
     intro w18 hBw18 hCw18
     have hzw18:=hCw18.size
     rw [zm _ _ (by kernel_rfl)] at hBw18
     have hX13:Ext w4 w18:=(Ext.own hX12 hCw18 (by omega))
     refine ⟨.inr hX13, ?_⟩
     refine zn 7 255 (zz 50 w16.heap.size 0 50 (vA [(vI (zhA k2)),(.slice a3 (tot (zhA k2)) ca3)]) ([(vI 0),(.slice none 0 0)]) ([(vI (zhA k2)),(.slice a3 (tot (zhA k2)) ca3)]) ((hBw17).chg hCw18 (fun hs=>by have h:_=_:=hs;omega)) (by kernel_rfl) (by first | decide |(simp;done)|(simp;omega)) (by simp [Value.oneCell']) ?_)
     intro w19 hBw19 hCw19
     have hzw19:=hCw19.size
     rw [zm _ _ (by kernel_rfl)] at hBw19
     refine ⟨.inl (by kernel_rfl), ?_⟩
     refine zJ (zC ?_)
     have hK11:=(((((((((hma1.ext hEw15)).ext hEw16)).ext hEw17)).chg hCw18 (fun k h1 h2 hs=>by have h:k=_:=hs;omega))).chg hCw19 (fun k h1 h2 hs=>by have h:k=_:=hs;omega))
     have hK12:=(((((hma3.ext hEw17)).chg hCw18 (fun k h1 h2 hs=>by have h:k=_:=hs;omega))).chg hCw19 (fun k h1 h2 hs=>by have h:k=_:=hs;omega))
     have hX14:Ext w2 w19:=(Ext.own (Ext.own (hEw4.trans hX12) hCw18 (by omega)) hCw19 (by omega))
     exact zuP (w5.heap.size,w16.heap.size,a1,ca1,a3,ca3) (⟨((hBw18).chg hCw19 (fun hs=>by have h:_=_:=hs;omega)),hBw19,(hK11).now.mono (by omega) (Nat.le_refl _),(hK12).now.mono (by omega) (Nat.le_refl _),by omega,by omega,hX14⟩)
    ·refine zt (some 6) (Instr.alloc 50 true (.tuple #[])) (vP w15.heap.size 0) ([(vI 0),(.slice none 0 0)]) 50 ?_
     intro w20 hBw20 hEw20
     have hzw20:=hEw20.size;have hlw20:=hBw20.lt
     have hX15:Ext w4 w20:=((hEw5.trans hEw15).trans hEw20)
     refine ⟨.inr hX15, ?_⟩
     have hK13:=(((((((((((h_p2.ext hEw1)).ext hEw2)).ext hEw4)).ext hEw5)).ext hEw15)).ext hEw20)
     have hK14:=(((((((((((h_s2.ext hEw1)).ext hEw2)).ext hEw4)).ext hEw5)).ext hEw15)).ext hEw20)
     refine zn 3 63 (zi (some 14) (zwS k2 _ hK13 hK14 (by omega)) ?_)
     rintro _ w21 ⟨a4,ca4,rfl,hFz4_0,hEw21⟩
     have hzw21:=hEw21.size
     have hma4:=hFz4_0.ms;have hlea4:=hma4.le
     have hX16:Ext w4 w21:=(((hEw5.trans hEw15).trans hEw20).trans hEw21)
     refine ⟨.inr hX16, ?_⟩
     refine zn 6 127 (zz 50 w5.heap.size 0 50 (vA [(vI (zhA k)),(.slice a1 (tot (zhA k)) ca1)]) ([(vI 0),(.slice none 0 0)]) ([(vI (zhA k)),(.slice a1 (tot (zhA k)) ca1)]) (((hBw15.ext hEw20)).ext hEw21) (by kernel_rfl) (by first | decide |(simp;done)|(simp;omega)) (by simp [Value.oneCell']) ?_)
     intro w22 hBw22 hCw22
     have hzw22:=hCw22.size
     rw [zm _ _ (by kernel_rfl)] at hBw22
     have hX17:Ext w4 w22:=(Ext.own hX16 hCw22 (by omega))
     refine ⟨.inr hX17, ?_⟩
     refine zn 7 255 (zz 50 w15.heap.size 0 50 (vA [(vI (zhA k2)),(.slice a4 (tot (zhA k2)) ca4)]) ([(vI 0),(.slice none 0 0)]) ([(vI (zhA k2)),(.slice a4 (tot (zhA k2)) ca4)]) (((hBw20.ext hEw21)).chg hCw22 (fun hs=>by have h:_=_:=hs;omega)) (by kernel_rfl) (by first | decide |(simp;done)|(simp;omega)) (by simp [Value.oneCell']) ?_)
     intro w23 hBw23 hCw23
     have hzw23:=hCw23.size
     rw [zm _ _ (by kernel_rfl)] at hBw23
     refine ⟨.inl (by kernel_rfl), ?_⟩
     refine zJ (zC ?_)
     have hK15:=(((((((((hma1.ext hEw15)).ext hEw20)).ext hEw21)).chg hCw22 (fun k h1 h2 hs=>by have h:k=_:=hs;omega))).chg hCw23 (fun k h1 h2 hs=>by have h:k=_:=hs;omega))
     have hX18:Ext w2 w23:=(Ext.own (Ext.own (hEw4.trans hX16) hCw22 (by omega)) hCw23 (by omega))
     exact zuP (w5.heap.size,w15.heap.size,a1,ca1,a4,ca4) (⟨((hBw22).chg hCw23 (fun hs=>by have h:_=_:=hs;omega)),hBw23,(hK15).now.mono (by omega) (Nat.le_refl _),(((((hma4).chg hCw22 (fun k h1 h2 hs=>by have h:k=_:=hs;omega))).chg hCw23 (fun k h1 h2 hs=>by have h:k=_:=hs;omega))).now.mono (by omega) (Nat.le_refl _),by omega,by omega,hX18⟩)
   ·refine zt (some 6) (Instr.alloc 50 true (.tuple #[])) (vP w5.heap.size 0) ([(vI 0),(.slice none 0 0)]) 50 ?_
    intro w24 hBw24 hEw24
    have hzw24:=hEw24.size;have hlw24:=hBw24.lt
    have hX19:Ext w4 w24:=(hEw5.trans hEw24)
    refine ⟨.inr hX19, ?_⟩
    refine zay 3 4 47 55 ?_ ?_
    ·have hK16:=(((((((((h_p2.ext hEw1)).ext hEw2)).ext hEw4)).ext hEw5)).ext hEw24)
     have hK17:=(((((((((h_s2.ext hEw1)).ext hEw2)).ext hEw4)).ext hEw5)).ext hEw24)
     refine zi (some 14) (zwS k2 _ hK16 hK17 (by omega)) ?_
     rintro _ w25 ⟨a5,ca5,rfl,hFz5_0,hEw25⟩
     have hzw25:=hEw25.size
     have hma5:=hFz5_0.ms;have hlea5:=hma5.le
     have hX20:Ext w4 w25:=((hEw5.trans hEw24).trans hEw25)
     refine ⟨.inr hX20, ?_⟩
     refine zn 4 63 (zt (some 5) (Instr.alloc 50 true (.tuple #[])) (vP w25.heap.size 0) ([(vI 0),(.slice none 0 0)]) 50 ?_)
     intro w26 hBw26 hEw26
     have hzw26:=hEw26.size;have hlw26:=hBw26.lt
     have hX21:Ext w4 w26:=(((hEw5.trans hEw24).trans hEw25).trans hEw26)
     refine ⟨.inr hX21, ?_⟩
     refine zn 6 127 (zz 50 w25.heap.size 0 50 (vA [(vI (zhA k)),(.slice a1 (tot (zhA k)) ca1)]) ([(vI 0),(.slice none 0 0)]) ([(vI (zhA k)),(.slice a1 (tot (zhA k)) ca1)]) hBw26 (by kernel_rfl) (by first | decide |(simp;done)|(simp;omega)) (by simp [Value.oneCell']) ?_)
     intro w27 hBw27 hCw27
     have hzw27:=hCw27.size
     rw [zm _ _ (by kernel_rfl)] at hBw27
     have hX22:Ext w4 w27:=(Ext.own hX21 hCw27 (by omega))
     refine ⟨.inr hX22, ?_⟩
     have hK18:=(((((hBw24.ext hEw25)).ext hEw26)).chg hCw27 (fun hs=>by have h:_=_:=hs;omega))
     refine zn 7 255 (zz 50 w5.heap.size 0 50 (vA [(vI (zhA k2)),(.slice a5 (tot (zhA k2)) ca5)]) ([(vI 0),(.slice none 0 0)]) ([(vI (zhA k2)),(.slice a5 (tot (zhA k2)) ca5)]) hK18 (by kernel_rfl) (by first | decide |(simp;done)|(simp;omega)) (by simp [Value.oneCell']) ?_)
     have hK19:=(((((hBw24.ext hEw25)).ext hEw26)).chg hCw27 (fun hs=>by have h:_=_:=hs;omega))
     intro w28 hBw28 hCw28
     have hzw28:=hCw28.size
     rw [zm _ _ (by kernel_rfl)] at hBw28
     refine ⟨.inl (by kernel_rfl), ?_⟩
     refine zJ (zC ?_)
     have hK20:=(((((((((hma1.ext hEw24)).ext hEw25)).ext hEw26)).chg hCw27 (fun k h1 h2 hs=>by have h:k=_:=hs;omega))).chg hCw28 (fun k h1 h2 hs=>by have h:k=_:=hs;omega))
     have hK21:=(((((hma5.ext hEw26)).chg hCw27 (fun k h1 h2 hs=>by have h:k=_:=hs;omega))).chg hCw28 (fun k h1 h2 hs=>by have h:k=_:=hs;omega))
     have hX23:Ext w2 w28:=(Ext.own (Ext.own (hEw4.trans hX21) hCw27 (by omega)) hCw28 (by omega))
     exact zuP (w25.heap.size,w5.heap.size,a1,ca1,a5,ca5) (⟨((hBw27).chg hCw28 (fun hs=>by have h:_=_:=hs;omega)),hBw28,(hK20).now.mono (by omega) (Nat.le_refl _),(hK21).now.mono (by omega) (Nat.le_refl _),by omega,by omega,hX23⟩)
    ·refine zt (some 5) (Instr.alloc 50 true (.tuple #[])) (vP w24.heap.size 0) ([(vI 0),(.slice none 0 0)]) 50 ?_
     intro w29 hBw29 hEw29
     have hzw29:=hEw29.size;have hlw29:=hBw29.lt
     have hX24:Ext w4 w29:=((hEw5.trans hEw24).trans hEw29)
     refine ⟨.inr hX24, ?_⟩
     have hK22:=(((((((((((h_p2.ext hEw1)).ext hEw2)).ext hEw4)).ext hEw5)).ext hEw24)).ext hEw29)
     have hK23:=(((((((((((h_s2.ext hEw1)).ext hEw2)).ext hEw4)).ext hEw5)).ext hEw24)).ext hEw29)
     refine zn 3 63 (zi (some 14) (zwS k2 _ hK22 hK23 (by omega)) ?_)
     rintro _ w30 ⟨a6,ca6,rfl,hFz6_0,hEw30⟩
     have hzw30:=hEw30.size
     have hma6:=hFz6_0.ms;have hlea6:=hma6.le
     have hX25:Ext w4 w30:=(((hEw5.trans hEw24).trans hEw29).trans hEw30)
     refine ⟨.inr hX25, ?_⟩
     refine zn 6 127 (zz 50 w24.heap.size 0 50 (vA [(vI (zhA k)),(.slice a1 (tot (zhA k)) ca1)]) ([(vI 0),(.slice none 0 0)]) ([(vI (zhA k)),(.slice a1 (tot (zhA k)) ca1)]) (hBw29.ext hEw30) (by kernel_rfl) (by first | decide |(simp;done)|(simp;omega)) (by simp [Value.oneCell']) ?_)
     intro w31 hBw31 hCw31
     have hzw31:=hCw31.size
     rw [zm _ _ (by kernel_rfl)] at hBw31
     have hX26:Ext w4 w31:=(Ext.own hX25 hCw31 (by omega))
     refine ⟨.inr hX26, ?_⟩
     have hK24:=(((((hBw24.ext hEw29)).ext hEw30)).chg hCw31 (fun hs=>by have h:_=_:=hs;omega))
     refine zn 7 255 (zz 50 w5.heap.size 0 50 (vA [(vI (zhA k2)),(.slice a6 (tot (zhA k2)) ca6)]) ([(vI 0),(.slice none 0 0)]) ([(vI (zhA k2)),(.slice a6 (tot (zhA k2)) ca6)]) hK24 (by kernel_rfl) (by first | decide |(simp;done)|(simp;omega)) (by simp [Value.oneCell']) ?_)
     have hK25:=(((((hBw24.ext hEw29)).ext hEw30)).chg hCw31 (fun hs=>by have h:_=_:=hs;omega))
     intro w32 hBw32 hCw32
     have hzw32:=hCw32.size
     rw [zm _ _ (by kernel_rfl)] at hBw32
     refine ⟨.inl (by kernel_rfl), ?_⟩
     refine zJ (zC ?_)
     have hK26:=(((((((((hma1.ext hEw24)).ext hEw29)).ext hEw30)).chg hCw31 (fun k h1 h2 hs=>by have h:k=_:=hs;omega))).chg hCw32 (fun k h1 h2 hs=>by have h:k=_:=hs;omega))
     have hX27:Ext w2 w32:=(Ext.own (Ext.own (hEw4.trans hX25) hCw31 (by omega)) hCw32 (by omega))
     exact zuP (w24.heap.size,w5.heap.size,a1,ca1,a6,ca6) (⟨((hBw31).chg hCw32 (fun hs=>by have h:_=_:=hs;omega)),hBw32,(hK26).now.mono (by omega) (Nat.le_refl _),(((((hma6).chg hCw31 (fun k h1 h2 hs=>by have h:k=_:=hs;omega))).chg hCw32 (fun k h1 h2 hs=>by have h:k=_:=hs;omega))).now.mono (by omega) (Nat.le_refl _),by omega,by omega,hX27⟩)
  ·refine zt (some 5) (Instr.alloc 50 true (.tuple #[])) (vP w4.heap.size 0) ([(vI 0),(.slice none 0 0)]) 50 ?_
   intro w33 hBw33 hEw33
   have hzw33:=hEw33.size;have hlw33:=hBw33.lt
   refine ⟨.inr hEw33, ?_⟩
   refine zay 1 5 23 53 ?_ ?_
   ·have hK27:=(((((((h_p.ext hEw1)).ext hEw2)).ext hEw4)).ext hEw33)
    have hK28:=(((((((h_s.ext hEw1)).ext hEw2)).ext hEw4)).ext hEw33)
    refine zi (some 12) (zwS k _ hK27 hK28 (by omega)) ?_
    rintro _ w34 ⟨a7,ca7,rfl,hFz7_0,hEw34⟩
    have hzw34:=hEw34.size
    have hma7:=hFz7_0.ms;have hlea7:=hma7.le
    have hX28:Ext w4 w34:=(hEw33.trans hEw34)
    refine ⟨.inr hX28, ?_⟩
    refine zay 3 5 31 55 ?_ ?_
    ·have hK29:=(((((((((h_p2.ext hEw1)).ext hEw2)).ext hEw4)).ext hEw33)).ext hEw34)
     have hK30:=(((((((((h_s2.ext hEw1)).ext hEw2)).ext hEw4)).ext hEw33)).ext hEw34)
     refine zi (some 14) (zwS k2 _ hK29 hK30 (by omega)) ?_
     rintro _ w35 ⟨a8,ca8,rfl,hFz8_0,hEw35⟩
     have hzw35:=hEw35.size
     have hma8:=hFz8_0.ms;have hlea8:=hma8.le
     have hX29:Ext w4 w35:=((hEw33.trans hEw34).trans hEw35)
     refine ⟨.inr hX29, ?_⟩
     refine zn 5 63 (zt (some 6) (Instr.alloc 50 true (.tuple #[])) (vP w35.heap.size 0) ([(vI 0),(.slice none 0 0)]) 50 ?_)
     intro w36 hBw36 hEw36
     have hzw36:=hEw36.size;have hlw36:=hBw36.lt
     have hX30:Ext w4 w36:=(((hEw33.trans hEw34).trans hEw35).trans hEw36)
     refine ⟨.inr hX30, ?_⟩
     have hK31:=(((((hBw33.ext hEw34)).ext hEw35)).ext hEw36)
     refine zn 6 127 (zz 50 w4.heap.size 0 50 (vA [(vI (zhA k)),(.slice a7 (tot (zhA k)) ca7)]) ([(vI 0),(.slice none 0 0)]) ([(vI (zhA k)),(.slice a7 (tot (zhA k)) ca7)]) hK31 (by kernel_rfl) (by first | decide |(simp;done)|(simp;omega)) (by simp [Value.oneCell']) ?_)
     have hK32:=(((((hBw33.ext hEw34)).ext hEw35)).ext hEw36)
     intro w37 hBw37 hCw37
     have hzw37:=hCw37.size
     rw [zm _ _ (by kernel_rfl)] at hBw37
     have hX31:Ext w4 w37:=(Ext.own hX30 hCw37 (by omega))
     refine ⟨.inr hX31, ?_⟩
     refine zn 7 255 (zz 50 w35.heap.size 0 50 (vA [(vI (zhA k2)),(.slice a8 (tot (zhA k2)) ca8)]) ([(vI 0),(.slice none 0 0)]) ([(vI (zhA k2)),(.slice a8 (tot (zhA k2)) ca8)]) ((hBw36).chg hCw37 (fun hs=>by have h:_=_:=hs;omega)) (by kernel_rfl) (by first | decide |(simp;done)|(simp;omega)) (by simp [Value.oneCell']) ?_)
     intro w38 hBw38 hCw38
     have hzw38:=hCw38.size
     rw [zm _ _ (by kernel_rfl)] at hBw38
     refine ⟨.inl (by kernel_rfl), ?_⟩
     refine zJ (zC ?_)
     have hK33:=(((((((hma7.ext hEw35)).ext hEw36)).chg hCw37 (fun k h1 h2 hs=>by have h:k=_:=hs;omega))).chg hCw38 (fun k h1 h2 hs=>by have h:k=_:=hs;omega))
     have hK34:=(((((hma8.ext hEw36)).chg hCw37 (fun k h1 h2 hs=>by have h:k=_:=hs;omega))).chg hCw38 (fun k h1 h2 hs=>by have h:k=_:=hs;omega))
     have hX32:Ext w2 w38:=(Ext.own (Ext.own (hEw4.trans hX30) hCw37 (by omega)) hCw38 (by omega))
     exact zuP (w4.heap.size,w35.heap.size,a7,ca7,a8,ca8) (⟨((hBw37).chg hCw38 (fun hs=>by have h:_=_:=hs;omega)),hBw38,(hK33).now.mono (by omega) (Nat.le_refl _),(hK34).now.mono (by omega) (Nat.le_refl _),by omega,by omega,hX32⟩)
    ·refine zt (some 6) (Instr.alloc 50 true (.tuple #[])) (vP w34.heap.size 0) ([(vI 0),(.slice none 0 0)]) 50 ?_
     intro w39 hBw39 hEw39
     have hzw39:=hEw39.size;have hlw39:=hBw39.lt
     have hX33:Ext w4 w39:=((hEw33.trans hEw34).trans hEw39)
     refine ⟨.inr hX33, ?_⟩
     have hK35:=(((((((((((h_p2.ext hEw1)).ext hEw2)).ext hEw4)).ext hEw33)).ext hEw34)).ext hEw39)
     have hK36:=(((((((((((h_s2.ext hEw1)).ext hEw2)).ext hEw4)).ext hEw33)).ext hEw34)).ext hEw39)
     refine zn 3 63 (zi (some 14) (zwS k2 _ hK35 hK36 (by omega)) ?_)
     rintro _ w40 ⟨a9,ca9,rfl,hFz9_0,hEw40⟩
     have hzw40:=hEw40.size
     have hma9:=hFz9_0.ms;have hlea9:=hma9.le
     have hX34:Ext w4 w40:=(((hEw33.trans hEw34).trans hEw39).trans hEw40)
     refine ⟨.inr hX34, ?_⟩
     have hK37:=(((((hBw33.ext hEw34)).ext hEw39)).ext hEw40)
     refine zn 6 127 (zz 50 w4.heap.size 0 50 (vA [(vI (zhA k)),(.slice a7 (tot (zhA k)) ca7)]) ([(vI 0),(.slice none 0 0)]) ([(vI (zhA k)),(.slice a7 (tot (zhA k)) ca7)]) hK37 (by kernel_rfl) (by first | decide |(simp;done)|(simp;omega)) (by simp [Value.oneCell']) ?_)
     have hK38:=(((((hBw33.ext hEw34)).ext hEw39)).ext hEw40)
     intro w41 hBw41 hCw41
     have hzw41:=hCw41.size
     rw [zm _ _ (by kernel_rfl)] at hBw41
     have hX35:Ext w4 w41:=(Ext.own hX34 hCw41 (by omega))
     refine ⟨.inr hX35, ?_⟩
     refine zn 7 255 (zz 50 w34.heap.size 0 50 (vA [(vI (zhA k2)),(.slice a9 (tot (zhA k2)) ca9)]) ([(vI 0),(.slice none 0 0)]) ([(vI (zhA k2)),(.slice a9 (tot (zhA k2)) ca9)]) (((hBw39.ext hEw40)).chg hCw41 (fun hs=>by have h:_=_:=hs;omega)) (by kernel_rfl) (by first | decide |(simp;done)|(simp;omega)) (by simp [Value.oneCell']) ?_)
     intro w42 hBw42 hCw42
     have hzw42:=hCw42.size
     rw [zm _ _ (by kernel_rfl)] at hBw42
     refine ⟨.inl (by kernel_rfl), ?_⟩
     refine zJ (zC ?_)
     have hK39:=(((((((hma7.ext hEw39)).ext hEw40)).chg hCw41 (fun k h1 h2 hs=>by have h:k=_:=hs;omega))).chg hCw42 (fun k h1 h2 hs=>by have h:k=_:=hs;omega))
     have hX36:Ext w2 w42:=(Ext.own (Ext.own (hEw4.trans hX34) hCw41 (by omega)) hCw42 (by omega))
     exact zuP (w4.heap.size,w34.heap.size,a7,ca7,a9,ca9) (⟨((hBw41).chg hCw42 (fun hs=>by have h:_=_:=hs;omega)),hBw42,(hK39).now.mono (by omega) (Nat.le_refl _),(((((hma9).chg hCw41 (fun k h1 h2 hs=>by have h:k=_:=hs;omega))).chg hCw42 (fun k h1 h2 hs=>by have h:k=_:=hs;omega))).now.mono (by omega) (Nat.le_refl _),by omega,by omega,hX36⟩)
   ·refine zt (some 6) (Instr.alloc 50 true (.tuple #[])) (vP w33.heap.size 0) ([(vI 0),(.slice none 0 0)]) 50 ?_
    intro w43 hBw43 hEw43
    have hzw43:=hEw43.size;have hlw43:=hBw43.lt
    have hX37:Ext w4 w43:=(hEw33.trans hEw43)
    refine ⟨.inr hX37, ?_⟩
    have hK40:=(((((((((h_p.ext hEw1)).ext hEw2)).ext hEw4)).ext hEw33)).ext hEw43)
    have hK41:=(((((((((h_s.ext hEw1)).ext hEw2)).ext hEw4)).ext hEw33)).ext hEw43)
    refine zn 1 55 (zi (some 12) (zwS k _ hK40 hK41 (by omega)) ?_)
    rintro _ w44 ⟨a10,ca10,rfl,hFz10_0,hEw44⟩
    have hzw44:=hEw44.size
    have hma10:=hFz10_0.ms;have hlea10:=hma10.le
    have hX38:Ext w4 w44:=((hEw33.trans hEw43).trans hEw44)
    refine ⟨.inr hX38, ?_⟩
    have hK42:=(((((((((((h_p2.ext hEw1)).ext hEw2)).ext hEw4)).ext hEw33)).ext hEw43)).ext hEw44)
    have hK43:=(((((((((((h_s2.ext hEw1)).ext hEw2)).ext hEw4)).ext hEw33)).ext hEw43)).ext hEw44)
    refine zn 3 63 (zi (some 14) (zwS k2 _ hK42 hK43 (by omega)) ?_)
    rintro _ w45 ⟨a11,ca11,rfl,hFz11_0,hEw45⟩
    have hzw45:=hEw45.size
    have hma11:=hFz11_0.ms;have hlea11:=hma11.le
    have hX39:Ext w4 w45:=(((hEw33.trans hEw43).trans hEw44).trans hEw45)
    refine ⟨.inr hX39, ?_⟩
    have hK44:=(((((hBw33.ext hEw43)).ext hEw44)).ext hEw45)
    refine zn 6 127 (zz 50 w4.heap.size 0 50 (vA [(vI (zhA k)),(.slice a10 (tot (zhA k)) ca10)]) ([(vI 0),(.slice none 0 0)]) ([(vI (zhA k)),(.slice a10 (tot (zhA k)) ca10)]) hK44 (by kernel_rfl) (by first | decide |(simp;done)|(simp;omega)) (by simp [Value.oneCell']) ?_)
    have hK45:=(((((hBw33.ext hEw43)).ext hEw44)).ext hEw45)
    intro w46 hBw46 hCw46
    have hzw46:=hCw46.size
    rw [zm _ _ (by kernel_rfl)] at hBw46
    have hX40:Ext w4 w46:=(Ext.own hX39 hCw46 (by omega))
    refine ⟨.inr hX40, ?_⟩
    have hK46:=(((((hBw43.ext hEw44)).ext hEw45)).chg hCw46 (fun hs=>by have h:_=_:=hs;omega))
    refine zn 7 255 (zz 50 w33.heap.size 0 50 (vA [(vI (zhA k2)),(.slice a11 (tot (zhA k2)) ca11)]) ([(vI 0),(.slice none 0 0)]) ([(vI (zhA k2)),(.slice a11 (tot (zhA k2)) ca11)]) hK46 (by kernel_rfl) (by first | decide |(simp;done)|(simp;omega)) (by simp [Value.oneCell']) ?_)
    have hK47:=(((((hBw43.ext hEw44)).ext hEw45)).chg hCw46 (fun hs=>by have h:_=_:=hs;omega))
    intro w47 hBw47 hCw47
    have hzw47:=hCw47.size
    rw [zm _ _ (by kernel_rfl)] at hBw47
    refine ⟨.inl (by kernel_rfl), ?_⟩
    refine zJ (zC ?_)
    have hK48:=(((((hma10.ext hEw45)).chg hCw46 (fun k h1 h2 hs=>by have h:k=_:=hs;omega))).chg hCw47 (fun k h1 h2 hs=>by have h:k=_:=hs;omega))
    have hX41:Ext w2 w47:=(Ext.own (Ext.own (hEw4.trans hX39) hCw46 (by omega)) hCw47 (by omega))
    exact zuP (w4.heap.size,w33.heap.size,a10,ca10,a11,ca11) (⟨((hBw46).chg hCw47 (fun hs=>by have h:_=_:=hs;omega)),hBw47,(hK48).now.mono (by omega) (Nat.le_refl _),(((((hma11).chg hCw46 (fun k h1 h2 hs=>by have h:k=_:=hs;omega))).chg hCw47 (fun k h1 h2 hs=>by have h:k=_:=hs;omega))).now.mono (by omega) (Nat.le_refl _),by omega,by omega,hX41⟩)
  ·refine zt (some 6) (Instr.alloc 50 true (.tuple #[])) (vP w4.heap.size 0) ([(vI 0),(.slice none 0 0)]) 50 ?_
   intro w48 hBw48 hEw48
   have hzw48:=hEw48.size;have hlw48:=hBw48.lt
   refine ⟨.inr hEw48, ?_⟩
   refine zay 1 4 39 53 ?_ ?_
   ·have hK49:=(((((((h_p.ext hEw1)).ext hEw2)).ext hEw4)).ext hEw48)
    have hK50:=(((((((h_s.ext hEw1)).ext hEw2)).ext hEw4)).ext hEw48)
    refine zi (some 12) (zwS k _ hK49 hK50 (by omega)) ?_
    rintro _ w49 ⟨a12,ca12,rfl,hFz12_0,hEw49⟩
    have hzw49:=hEw49.size
    have hma12:=hFz12_0.ms;have hlea12:=hma12.le
    have hX42:Ext w4 w49:=(hEw48.trans hEw49)
    refine ⟨.inr hX42, ?_⟩
    refine zay 3 4 47 55 ?_ ?_
    ·have hK51:=(((((((((h_p2.ext hEw1)).ext hEw2)).ext hEw4)).ext hEw48)).ext hEw49)
     have hK52:=(((((((((h_s2.ext hEw1)).ext hEw2)).ext hEw4)).ext hEw48)).ext hEw49)
     refine zi (some 14) (zwS k2 _ hK51 hK52 (by omega)) ?_
     rintro _ w50 ⟨a13,ca13,rfl,hFz13_0,hEw50⟩
     have hzw50:=hEw50.size
     have hma13:=hFz13_0.ms;have hlea13:=hma13.le
     have hX43:Ext w4 w50:=((hEw48.trans hEw49).trans hEw50)
     refine ⟨.inr hX43, ?_⟩
     refine zn 4 63 (zt (some 5) (Instr.alloc 50 true (.tuple #[])) (vP w50.heap.size 0) ([(vI 0),(.slice none 0 0)]) 50 ?_)
     intro w51 hBw51 hEw51
     have hzw51:=hEw51.size;have hlw51:=hBw51.lt
     have hX44:Ext w4 w51:=(((hEw48.trans hEw49).trans hEw50).trans hEw51)
     refine ⟨.inr hX44, ?_⟩
     refine zn 6 127 (zz 50 w50.heap.size 0 50 (vA [(vI (zhA k)),(.slice a12 (tot (zhA k)) ca12)]) ([(vI 0),(.slice none 0 0)]) ([(vI (zhA k)),(.slice a12 (tot (zhA k)) ca12)]) hBw51 (by kernel_rfl) (by first | decide |(simp;done)|(simp;omega)) (by simp [Value.oneCell']) ?_)
     intro w52 hBw52 hCw52
     have hzw52:=hCw52.size
     rw [zm _ _ (by kernel_rfl)] at hBw52
     have hX45:Ext w4 w52:=(Ext.own hX44 hCw52 (by omega))
     refine ⟨.inr hX45, ?_⟩
     have hK53:=(((((((hBw48.ext hEw49)).ext hEw50)).ext hEw51)).chg hCw52 (fun hs=>by have h:_=_:=hs;omega))
     refine zn 7 255 (zz 50 w4.heap.size 0 50 (vA [(vI (zhA k2)),(.slice a13 (tot (zhA k2)) ca13)]) ([(vI 0),(.slice none 0 0)]) ([(vI (zhA k2)),(.slice a13 (tot (zhA k2)) ca13)]) hK53 (by kernel_rfl) (by first | decide |(simp;done)|(simp;omega)) (by simp [Value.oneCell']) ?_)
     have hK54:=(((((((hBw48.ext hEw49)).ext hEw50)).ext hEw51)).chg hCw52 (fun hs=>by have h:_=_:=hs;omega))
     intro w53 hBw53 hCw53
     have hzw53:=hCw53.size
     rw [zm _ _ (by kernel_rfl)] at hBw53
     refine ⟨.inl (by kernel_rfl), ?_⟩
     refine zJ (zC ?_)
     have hK55:=(((((((hma12.ext hEw50)).ext hEw51)).chg hCw52 (fun k h1 h2 hs=>by have h:k=_:=hs;omega))).chg hCw53 (fun k h1 h2 hs=>by have h:k=_:=hs;omega))
     have hK56:=(((((hma13.ext hEw51)).chg hCw52 (fun k h1 h2 hs=>by have h:k=_:=hs;omega))).chg hCw53 (fun k h1 h2 hs=>by have h:k=_:=hs;omega))
     have hX46:Ext w2 w53:=(Ext.own (Ext.own (hEw4.trans hX44) hCw52 (by omega)) hCw53 (by omega))
     exact zuP (w50.heap.size,w4.heap.size,a12,ca12,a13,ca13) (⟨((hBw52).chg hCw53 (fun hs=>by have h:_=_:=hs;omega)),hBw53,(hK55).now.mono (by omega) (Nat.le_refl _),(hK56).now.mono (by omega) (Nat.le_refl _),by omega,by omega,hX46⟩)
    ·refine zt (some 5) (Instr.alloc 50 true (.tuple #[])) (vP w49.heap.size 0) ([(vI 0),(.slice none 0 0)]) 50 ?_
     intro w54 hBw54 hEw54
     have hzw54:=hEw54.size;have hlw54:=hBw54.lt
     have hX47:Ext w4 w54:=((hEw48.trans hEw49).trans hEw54)
     refine ⟨.inr hX47, ?_⟩
     have hK57:=(((((((((((h_p2.ext hEw1)).ext hEw2)).ext hEw4)).ext hEw48)).ext hEw49)).ext hEw54)
     have hK58:=(((((((((((h_s2.ext hEw1)).ext hEw2)).ext hEw4)).ext hEw48)).ext hEw49)).ext hEw54)
     refine zn 3 63 (zi (some 14) (zwS k2 _ hK57 hK58 (by omega)) ?_)
     rintro _ w55 ⟨a14,ca14,rfl,hFz14_0,hEw55⟩
     have hzw55:=hEw55.size
     have hma14:=hFz14_0.ms;have hlea14:=hma14.le
     have hX48:Ext w4 w55:=(((hEw48.trans hEw49).trans hEw54).trans hEw55)
     refine ⟨.inr hX48, ?_⟩
     refine zn 6 127 (zz 50 w49.heap.size 0 50 (vA [(vI (zhA k)),(.slice a12 (tot (zhA k)) ca12)]) ([(vI 0),(.slice none 0 0)]) ([(vI (zhA k)),(.slice a12 (tot (zhA k)) ca12)]) (hBw54.ext hEw55) (by kernel_rfl) (by first | decide |(simp;done)|(simp;omega)) (by simp [Value.oneCell']) ?_)
     intro w56 hBw56 hCw56
     have hzw56:=hCw56.size
     rw [zm _ _ (by kernel_rfl)] at hBw56
     have hX49:Ext w4 w56:=(Ext.own hX48 hCw56 (by omega))
     refine ⟨.inr hX49, ?_⟩
     have hK59:=(((((((hBw48.ext hEw49)).ext hEw54)).ext hEw55)).chg hCw56 (fun hs=>by have h:_=_:=hs;omega))
     refine zn 7 255 (zz 50 w4.heap.size 0 50 (vA [(vI (zhA k2)),(.slice a14 (tot (zhA k2)) ca14)]) ([(vI 0),(.slice none 0 0)]) ([(vI (zhA k2)),(.slice a14 (tot (zhA k2)) ca14)]) hK59 (by kernel_rfl) (by first | decide |(simp;done)|(simp;omega)) (by simp [Value.oneCell']) ?_)
     have hK60:=(((((((hBw48.ext hEw49)).ext hEw54)).ext hEw55)).chg hCw56 (fun hs=>by have h:_=_:=hs;omega))
     intro w57 hBw57 hCw57
     have hzw57:=hCw57.size
     rw [zm _ _ (by kernel_rfl)] at hBw57
     refine ⟨.inl (by kernel_rfl), ?_⟩
     refine zJ (zC ?_)
     have hK61:=(((((((hma12.ext hEw54)).ext hEw55)).chg hCw56 (fun k h1 h2 hs=>by have h:k=_:=hs;omega))).chg hCw57 (fun k h1 h2 hs=>by have h:k=_:=hs;omega))
     have hX50:Ext w2 w57:=(Ext.own (Ext.own (hEw4.trans hX48) hCw56 (by omega)) hCw57 (by omega))
     exact zuP (w49.heap.size,w4.heap.size,a12,ca12,a14,ca14) (⟨((hBw56).chg hCw57 (fun hs=>by have h:_=_:=hs;omega)),hBw57,(hK61).now.mono (by omega) (Nat.le_refl _),(((((hma14).chg hCw56 (fun k h1 h2 hs=>by have h:k=_:=hs;omega))).chg hCw57 (fun k h1 h2 hs=>by have h:k=_:=hs;omega))).now.mono (by omega) (Nat.le_refl _),by omega,by omega,hX50⟩)
   ·refine zt (some 5) (Instr.alloc 50 true (.tuple #[])) (vP w48.heap.size 0) ([(vI 0),(.slice none 0 0)]) 50 ?_
    intro w58 hBw58 hEw58
    have hzw58:=hEw58.size;have hlw58:=hBw58.lt
    have hX51:Ext w4 w58:=(hEw48.trans hEw58)
    refine ⟨.inr hX51, ?_⟩
    have hK62:=(((((((((h_p.ext hEw1)).ext hEw2)).ext hEw4)).ext hEw48)).ext hEw58)
    have hK63:=(((((((((h_s.ext hEw1)).ext hEw2)).ext hEw4)).ext hEw48)).ext hEw58)
    refine zn 1 55 (zi (some 12) (zwS k _ hK62 hK63 (by omega)) ?_)
    rintro _ w59 ⟨a15,ca15,rfl,hFz15_0,hEw59⟩
    have hzw59:=hEw59.size
    have hma15:=hFz15_0.ms;have hlea15:=hma15.le
    have hX52:Ext w4 w59:=((hEw48.trans hEw58).trans hEw59)
    refine ⟨.inr hX52, ?_⟩
    have hK64:=(((((((((((h_p2.ext hEw1)).ext hEw2)).ext hEw4)).ext hEw48)).ext hEw58)).ext hEw59)
    have hK65:=(((((((((((h_s2.ext hEw1)).ext hEw2)).ext hEw4)).ext hEw48)).ext hEw58)).ext hEw59)
    refine zn 3 63 (zi (some 14) (zwS k2 _ hK64 hK65 (by omega)) ?_)
    rintro _ w60 ⟨a16,ca16,rfl,hFz16_0,hEw60⟩
    have hzw60:=hEw60.size
    have hma16:=hFz16_0.ms;have hlea16:=hma16.le
    have hX53:Ext w4 w60:=(((hEw48.trans hEw58).trans hEw59).trans hEw60)
    refine ⟨.inr hX53, ?_⟩
    refine zn 6 127 (zz 50 w48.heap.size 0 50 (vA [(vI (zhA k)),(.slice a15 (tot (zhA k)) ca15)]) ([(vI 0),(.slice none 0 0)]) ([(vI (zhA k)),(.slice a15 (tot (zhA k)) ca15)]) (((hBw58.ext hEw59)).ext hEw60) (by kernel_rfl) (by first | decide |(simp;done)|(simp;omega)) (by simp [Value.oneCell']) ?_)
    intro w61 hBw61 hCw61
    have hzw61:=hCw61.size
    rw [zm _ _ (by kernel_rfl)] at hBw61
    have hX54:Ext w4 w61:=(Ext.own hX53 hCw61 (by omega))
    refine ⟨.inr hX54, ?_⟩
    have hK66:=(((((((hBw48.ext hEw58)).ext hEw59)).ext hEw60)).chg hCw61 (fun hs=>by have h:_=_:=hs;omega))
    refine zn 7 255 (zz 50 w4.heap.size 0 50 (vA [(vI (zhA k2)),(.slice a16 (tot (zhA k2)) ca16)]) ([(vI 0),(.slice none 0 0)]) ([(vI (zhA k2)),(.slice a16 (tot (zhA k2)) ca16)]) hK66 (by kernel_rfl) (by first | decide |(simp;done)|(simp;omega)) (by simp [Value.oneCell']) ?_)
    have hK67:=(((((((hBw48.ext hEw58)).ext hEw59)).ext hEw60)).chg hCw61 (fun hs=>by have h:_=_:=hs;omega))
    intro w62 hBw62 hCw62
    have hzw62:=hCw62.size
    rw [zm _ _ (by kernel_rfl)] at hBw62
    refine ⟨.inl (by kernel_rfl), ?_⟩
    refine zJ (zC ?_)
    have hK68:=(((((hma15.ext hEw60)).chg hCw61 (fun k h1 h2 hs=>by have h:k=_:=hs;omega))).chg hCw62 (fun k h1 h2 hs=>by have h:k=_:=hs;omega))
    have hX55:Ext w2 w62:=(Ext.own (Ext.own (hEw4.trans hX53) hCw61 (by omega)) hCw62 (by omega))
    exact zuP (w48.heap.size,w4.heap.size,a15,ca15,a16,ca16) (⟨((hBw61).chg hCw62 (fun hs=>by have h:_=_:=hs;omega)),hBw62,(hK68).now.mono (by omega) (Nat.le_refl _),(((((hma16).chg hCw61 (fun k h1 h2 hs=>by have h:k=_:=hs;omega))).chg hCw62 (fun k h1 h2 hs=>by have h:k=_:=hs;omega))).now.mono (by omega) (Nat.le_refl _),by omega,by omega,hX55⟩)
 rintro ⟨bj5,bj6,a1,c1,a2,c2⟩ dw3 w3 ⟨hJ5,hJ6,hM1,hM2,hJs5,hJs6,hEj⟩
 have hzj:=hEj.size
 have hJl5:=hJ5.lt;have hJl6:=hJ6.lt
 have hle1:=hM1.le;have hle2:=hM2.le
 refine zf (ze (zb (zj (some 16) (Instr.loadAt 50 (vP bj5 0)) (vA [(vI (zhA k)),(.slice a1 (tot (zhA k)) c1)]) (zD (vs:= [(vI (zhA k)),(.slice a1 (tot (zhA k)) c1)]) (hJ5.all)) ?_)))
 refine zb (zj (some 17) (Instr.loadAt 50 (vP bj6 0)) (vA [(vI (zhA k2)),(.slice a2 (tot (zhA k2)) c2)]) (zD (vs:= [(vI (zhA k2)),(.slice a2 (tot (zhA k2)) c2)]) (hJ6.all)) ?_)
 have hK69:=(((((hg0.ext hEw1)).ext hEw2)).ext hEj)
 have hK70:=(((((hg1.ext hEw1)).ext hEw2)).ext hEj)
 have hK71:=(((((hg2.ext hEw1)).ext hEw2)).ext hEj)
 have hK72:=(((((hg3.ext hEw1)).ext hEw2)).ext hEj)
 refine zb (zi (some 18) (zqz (zhA k) (zhA k2) _ hM1 hM2 (by omega) (by omega) (by first | rfl | omega) (hok) (by omega) (by omega) (by first | rfl | omega) (hokq) (hp2) (hp3) hK69 hK70 hK71 hK72) ?_)
 rintro _ w63 ⟨rfl,hEw63⟩
 have hzw63:=hEw63.size
 refine zd 7 [(9,(vI 11)),(8,(.slice none 0 0)),(7,(.slice none 0 0)),(21,(vI 11)),(20,(.slice none 0 0)),(19,(.slice none 0 0)),(15,(.tuple #[(.slice none 0 0),(.slice none 0 0),(vI 11)]))] (zg (zc (zf (zf (ze (zd 1 [(22,(vP bj5 0))] (zb (zj (some 23) (Instr.loadAt 3 (vP bj5 0)) (vI (zhA k)) (zo ((hJ5.ext hEw63).cell rfl)) ?_))))))))
 refine zd 1 [(24,(vP bj6 0))] (zb (zj (some 25) (Instr.loadAt 3 (vP bj6 0)) (vI (zhA k2)) (zo ((hJ6.ext hEw63).cell rfl)) ?_))
 refine zb (zat (some 26) (((zhA k:Nat):Int) !=((zhA k2:Nat):Int)) false (zaL (by omega)) ?_)
 refine zg (zc (zr (zy (zc (zf (ze (zd 1 [(40,(vP bj5 1))] (zb (zj (some 41) (Instr.loadAt 24 (vP bj5 1)) (.slice a1 (tot (zhA k)) c1) (zo ((hJ5.ext hEw63).cell rfl)) ?_)))))))))
 refine zd 1 [(42,(vI (tot (zhA k))))] (zb (zv (some 43) .i64 (IntKind.i64.wrap (((tot (zhA k):Nat):Int)-((1:Nat):Int))) (tot (zhA k)-1) (zG (by omega) (by omega) (by omega)) ?_))
 refine zd 1 [(10,(vI (tot (zhA k)-1)))] (zg (zc (zf (zf (zag (Ext w63.drew) 28 [(45,32,0),(46,17592186044416,1),(47,32,0),(48,70368744177664,4),(49,140737488355328,8),(50,32,0),(51,562949953421312,32),(52,1125899906842624,64),(53,2568459162484736,146),(54,64,0),(55,9007199254740992,512),(56,22517998136852480,1280),(57,36028797018963968,2048),(58,72057594037927936,6144),(59,144115188075855904,8192),(60,432345564227567616,24576),(61,144115188075856896,8192),(62,1873497444986126336,106496),(63,2449958197289549824,139264),(64,4755801206503243776,270336),(65,144115188075855936,8192),(66,18590859261785407488,1056768),(67,144115188075856896,8192),(68,110824579630333165568,6299648),(69,147718067777752268800,8396800),(70,295292020367428681728,17309696),(71,599663297583636283392,34086912),(72,1180735735905487159296,67117056)] (fun hT1038=> ?_))))))
 have hEw64:Ext w63 w63.drew:=Ext.drew w63
 generalize w63.drew=w64 at hEw64⊢
 have hzw64:=hEw64.size
 refine zk hT1038 [(0,44,(vP bj5 1))] 1 1 (zh hT1038 1 3 (some 45) (.slice a1 (tot (zhA k)) c1) (zl (Instr.loadAt 24 (vP bj5 1)) (fun w' hC=>zo (((((hJ5.ext hEw63)).ext hEw64).ext hC).cell rfl))) (zk hT1038 [(2,46,(vP bj5 1))] 1 7 (zh hT1038 3 15 (some 47) (.slice a1 (tot (zhA k)) c1) (zl (Instr.loadAt 24 (vP bj5 1)) (fun w' hC=>zo (((((hJ5.ext hEw63)).ext hEw64).ext hC).cell rfl))) (zk hT1038 [(4,48,(vI (tot (zhA k)))),(5,49,(vP bj5 1))] 2 63 (zh hT1038 6 127 (some 50) (.slice a1 (tot (zhA k)) c1) (zl (Instr.loadAt 24 (vP bj5 1)) (fun w' hC=>zo (((((hJ5.ext hEw63)).ext hEw64).ext hC).cell rfl))) (zk hT1038 [(7,51,(vI (tot (zhA k))))] 1 255 ?_))))))
 obtain ⟨a17,hR1,hS1⟩:=(((hM1.ext hEw63)).ext hEw64).slice Tryz.prog 24 47 0 (tot (zhA k)) (tot (zhA k)) none (some (vI (tot (zhA k)))) (some (vI (tot (zhA k))))
 refine zh hT1038 8 511 (some 52) (.slice a17 (tot (zhA k)-0) (tot (zhA k)-0)) (zl (Instr.sliceAt 24 (.slice a1 (tot (zhA k)) c1) none (some (vI (tot (zhA k)))) (some (vI (tot (zhA k))))) (fun w' hC=>hR1 _)) (zk hT1038 [(9,53,(vP bj6 1))] 1 1023 (zh hT1038 10 2047 (some 54) (.slice a2 (tot (zhA k2)) c2) (zl (Instr.loadAt 24 (vP bj6 1)) (fun w' hC=>zo (((((hJ6.ext hEw63)).ext hEw64).ext hC).cell rfl))) (zn 11 4095 (zi (some 55) (zv0 _ hS1 (((hM2.ext hEw63)).ext hEw64) (by first | omega | decide) ((show ((zaa (zf2 p (zhA k)) (zfK s (tot (zhA k)))).drop 0).take (tot (zhA k)-0)=(zaa (zf2 p (zhA k)) (zfK s (tot (zhA k)))) from List.take_of_length_le (by rw [List.length_drop,zge,hLn];omega)).trans hp3)) ?_))))
 rintro _ w65 ⟨rfl,hEw65⟩
 have hzw65:=hEw65.size
 refine ⟨.inr hEw65, ?_⟩
 refine zk (hw:=hEw65) hT1038 [(12,56,vT),(13,57,vT),(14,58,undef),(15,59,undef),(16,60,undef),(17,61,undef),(18,62,undef),(19,63,undef),(20,64,undef),(21,65,undef),(22,66,undef),(23,67,undef),(24,68,undef),(25,69,undef),(26,70,undef),(27,71,vT)] 16 268435455 (zJ (zc (zF (zf (ze (zd 7 [(78,(vI 0)),(77,(.slice none 0 0)),(76,(vI 0)),(75,(.slice none 0 0)),(74,vT),(73,vT),(72,(vI 11))] (zb (zv (some 79) .i64 (IntKind.i64.wrap (((0:Nat):Int)+((0:Nat):Int))) 0 (zG (by omega) (by omega) (by omega)) ?_))))))))
 refine zd 3 [(82,vT),(81,vT),(80,vT)] ?_
 have hK73:=(((((hK69.ext hEw63)).ext hEw64)).ext hEw65)
 have hK74:=(((((hK70.ext hEw63)).ext hEw64)).ext hEw65)
 have hK75:=(((((hK71.ext hEw63)).ext hEw64)).ext hEw65)
 have hK76:=(((((hK72.ext hEw63)).ext hEw64)).ext hEw65)
 refine zb (zi (some 83) (zmt _ hK73 hK74 hK75 hK76) ?_)
 rintro _ w66 ⟨rfl,hEw66⟩
 have hzw66:=hEw66.size
 refine zd 2 [(4,vT),(84,vT)] (zg (zc (zx (zu (zB vT ?_)))))
 have hX56:Ext w w66:=((((((hEw1.trans hEw2).trans hEj).trans hEw63).trans hEw64).trans hEw65).trans hEw66)
 exact ⟨rfl,hX56⟩
set_option maxHeartbeats 4000000 in
theorem zw5 (k:Nat) {lo_p hi_p:Nat} {a_p:Option Addr} {n_p c_p:Nat} {p:List (UInt8×UInt8)} {lo_s hi_s:Nat} {a_s:Option Addr} {n_s c_s:Nat} {s:List UInt8} (k2:Nat) {lo_p2 hi_p2:Nat} {a_p2:Option Addr} {n_p2 c_p2:Nat} {p2:List (UInt8×UInt8)} {lo_s2 hi_s2:Nat} {a_s2:Option Addr} {n_s2 c_s2:Nat} {s2:List UInt8} (w:World) (h_p:Ms b2C 2 lo_p hi_p w a_p n_p c_p p) (h_s:Bs lo_s hi_s w a_s n_s c_s s) (h_p2:Ms b2C 2 lo_p2 hi_p2 w a_p2 n_p2 c_p2 p2) (h_s2:Bs lo_s2 hi_s2 w a_s2 n_s2 c_s2 s2) (hp0:k<256) (hp1:k2<256) (hp2:(zhA k)=(zhA k2)) (hp3:(zaa (zf2 p (zhA k)) (zfK s (tot (zhA k))))≠(zaa (zf2 p2 (zhA k2)) (zfK s2 (tot (zhA k2))))) (hp4:¬(zN (zM ((zaa (zf2 p (zhA k)) (zfK s (tot (zhA k)))).getD (num (zhA k) (hgt (zhA k))) Nod.zero))).l=(zN (zM ((zaa (zf2 p2 (zhA k2)) (zfK s2 (tot (zhA k2)))).getD (num (zhA k2) (hgt (zhA k2))) Nod.zero))).l) (hg0:Gl 0 [vI 45,vI 33] w) (hg1:Gl 2 (w8C za2) w) (hg2:Gl 3 (zR kA) w) (hg3:Gl 1 [.iface 199 (.agg #[.pointer (some ⟨4,99,none⟩)])] w):
  Calls Tryz.prog 9 #[(vA [(vB k),(.slice a_p n_p c_p),(.slice a_s n_s c_s)]),(vA [(vB k2),(.slice a_p2 n_p2 c_p2),(.slice a_s2 n_s2 c_s2)])] w (Ret fun r w'=>r=vT∧Ext w w'):=by
 refine zL (n:=96) (σ:= [(0,(vA [(vB k),(.slice a_p n_p c_p),(.slice a_s n_s c_s)])),(1,(vA [(vB k2),(.slice a_p2 n_p2 c_p2),(.slice a_s2 n_s2 c_s2)]))]) Tryz.func9 rfl ?_
 replace h_p:=h_p.now;have hle_p:=h_p.le
 replace h_s:=h_s.now;have hle_s:=h_s.le
 replace h_p2:=h_p2.now;have hle_p2:=h_p2.le
 replace h_s2:=h_s2.now;have hle_s2:=h_s2.le
 have hgl0:=hg0.lt
 have hgl1:=hg1.lt
 have hgl2:=hg2.lt
 have hgl3:=hg3.lt
 have hbk:=znA k
 have hOK:=zvi p s k
 have hLn:=zfI p (zhA k)
 have hts:=zbN (n:=zhA k) (by omega)
 have htp:=zfo (n:=zhA k) (by omega) (by omega)
 have hsb:∀i,(zfK s (tot (zhA k))).getD i 0≤1099511627776:=fun i=>Nat.le_trans (zps _ _ i) (by decide)
 have hok:=zuN hOK hLn
 have h5:=zaz (zhA k)
 have hlp:=h_p.len_eq;have hls:=h_s.len_eq
 have hbkq:=znA k2
 have hOKq:=zvi p2 s2 k2
 have hLnq:=zfI p2 (zhA k2)
 have htsq:=zbN (n:=zhA k2) (by omega)
 have htpq:=zfo (n:=zhA k2) (by omega) (by omega)
 have hsbq:∀i,(zfK s2 (tot (zhA k2))).getD i 0≤1099511627776:=fun i=>Nat.le_trans (zps _ _ i) (by decide)
 have hokq:=zuN hOKq hLnq
 have h5q:=zaz (zhA k2)
 have hlpq:=h_p2.len_eq;have hlsq:=h_s2.len_eq
 have htt:tot (zhA k)=tot (zhA k2):=by rw [hp2]
 have hl1:num (zhA k) (hgt (zhA k))=tot (zhA k)-1:=by omega
 have hl2:num (zhA k2) (hgt (zhA k2))=tot (zhA k)-1:=by omega
 refine zf (ze (zb (zt (some 2) (Instr.box 59 (vA [(vB k),(.slice a_p n_p c_p),(.slice a_s n_s c_s)])) (vP w.heap.size 0) ([(vB k),(.slice a_p n_p c_p),(.slice a_s n_s c_s)]) 59 ?_)))
 intro w1 hBw1 hEw1
 have hzw1:=hEw1.size;have hlw1:=hBw1.lt
 refine zb (zt (some 3) (Instr.box 59 (vA [(vB k2),(.slice a_p2 n_p2 c_p2),(.slice a_s2 n_s2 c_s2)])) (vP w1.heap.size 0) ([(vB k2),(.slice a_p2 n_p2 c_p2),(.slice a_s2 n_s2 c_s2)]) 59 ?_)
 intro w2 hBw2 hEw2
 have hzw2:=hEw2.size;have hlw2:=hBw2.lt
 refine zd 1 [(4,vF)] (zg (zc (zsP (X:=Nat×Nat×Option Addr×Nat×Option Addr×Nat) (fun ⟨bj5,bj6,a1,c1,a2,c2⟩=> [(5,(vP bj5 0)),(6,(vP bj6 0))]) [11,12,13,14] (fun ⟨bj5,bj6,a1,c1,a2,c2⟩ w3=>Blk w3 bj5 ([(vI (zhA k)),(.slice a1 (tot (zhA k)) c1)]) 50∧Blk w3 bj6 ([(vI (zhA k2)),(.slice a2 (tot (zhA k2)) c2)]) 50∧Ms zK 274 w2.heap.size w3.heap.size w3 a1 (tot (zhA k)) c1 (zaa (zf2 p (zhA k)) (zfK s (tot (zhA k))))∧Ms zK 274 w2.heap.size w3.heap.size w3 a2 (tot (zhA k2)) c2 (zaa (zf2 p2 (zhA k2)) (zfK s2 (tot (zhA k2))))∧w2.heap.size≤bj5∧w2.heap.size≤bj6∧Ext w2 w3) ?_ ?_)))
 ·refine zag (Ext w2.drew) 8 [(12,4,0),(13,2048,1),(14,8,0),(15,8192,6),(6,0,0),(7,0,0),(0,4128,59),(0,16448,127)] (fun hT1051=> ?_)
  have hEw4:Ext w2 w2.drew:=Ext.drew w2
  generalize w2.drew=w4 at hEw4⊢
  have hzw4:=hEw4.size
  refine zh hT1051 0 1 (some 11) (vA [(vB k),(.slice a_p n_p c_p),(.slice a_s n_s c_s)]) (zl (Instr.loadAt 59 (vP w.heap.size 0)) (fun w' hC=>zD (vs:= [(vB k),(.slice a_p n_p c_p),(.slice a_s n_s c_s)]) (((((hBw1.ext hEw2)).ext hEw4).ext hC).all))) (zh hT1051 2 5 (some 13) (vA [(vB k2),(.slice a_p2 n_p2 c_p2),(.slice a_s2 n_s2 c_s2)]) (zl (Instr.loadAt 59 (vP w1.heap.size 0)) (fun w' hC=>zD (vs:= [(vB k2),(.slice a_p2 n_p2 c_p2),(.slice a_s2 n_s2 c_s2)]) (((hBw2.ext hEw4).ext hC).all))) (zeq 1 4 5 7 21 37 ?_ ?_ ?_))
  ·have hK1:=(((((h_p.ext hEw1)).ext hEw2)).ext hEw4)
   have hK2:=(((((h_s.ext hEw1)).ext hEw2)).ext hEw4)
   refine zi (some 12) (zwS k _ hK1 hK2 (by omega)) ?_
   rintro _ w5 ⟨a1,ca1,rfl,hFz1_0,hEw5⟩
   have hzw5:=hEw5.size
   have hma1:=hFz1_0.ms;have hlea1:=hma1.le
   refine ⟨.inr hEw5, ?_⟩
   refine zeq 3 4 5 15 23 39 ?_ ?_ ?_
   ·have hK3:=(((((((h_p2.ext hEw1)).ext hEw2)).ext hEw4)).ext hEw5)
    have hK4:=(((((((h_s2.ext hEw1)).ext hEw2)).ext hEw4)).ext hEw5)
    refine zi (some 14) (zwS k2 _ hK3 hK4 (by omega)) ?_
    rintro _ w6 ⟨a2,ca2,rfl,hFz2_0,hEw6⟩
    have hzw6:=hEw6.size
    have hma2:=hFz2_0.ms;have hlea2:=hma2.le
    have hX1:Ext w4 w6:=(hEw5.trans hEw6)
    refine ⟨.inr hX1, ?_⟩
    refine zay 4 5 31 47 ?_ ?_
    ·refine zt (some 5) (Instr.alloc 50 true (.tuple #[])) (vP w6.heap.size 0) ([(vI 0),(.slice none 0 0)]) 50 ?_
     intro w7 hBw7 hEw7
     have hzw7:=hEw7.size;have hlw7:=hBw7.lt
     have hX2:Ext w4 w7:=((hEw5.trans hEw6).trans hEw7)
     refine ⟨.inr hX2, ?_⟩
     refine zn 5 63 (zt (some 6) (Instr.alloc 50 true (.tuple #[])) (vP w7.heap.size 0) ([(vI 0),(.slice none 0 0)]) 50 ?_)
     intro w8 hBw8 hEw8
     have hzw8:=hEw8.size;have hlw8:=hBw8.lt
     have hX3:Ext w4 w8:=(((hEw5.trans hEw6).trans hEw7).trans hEw8)
     refine ⟨.inr hX3, ?_⟩
     refine zn 6 127 (zz 50 w6.heap.size 0 50 (vA [(vI (zhA k)),(.slice a1 (tot (zhA k)) ca1)]) ([(vI 0),(.slice none 0 0)]) ([(vI (zhA k)),(.slice a1 (tot (zhA k)) ca1)]) (hBw7.ext hEw8) (by kernel_rfl) (by first | decide |(simp;done)|(simp;omega)) (by simp [Value.oneCell']) ?_)
     intro w9 hBw9 hCw9
     have hzw9:=hCw9.size
     rw [zm _ _ (by kernel_rfl)] at hBw9
     have hX4:Ext w4 w9:=(Ext.own hX3 hCw9 (by omega))
     refine ⟨.inr hX4, ?_⟩
     refine zn 7 255 (zz 50 w7.heap.size 0 50 (vA [(vI (zhA k2)),(.slice a2 (tot (zhA k2)) ca2)]) ([(vI 0),(.slice none 0 0)]) ([(vI (zhA k2)),(.slice a2 (tot (zhA k2)) ca2)]) ((hBw8).chg hCw9 (fun hs=>by have h:_=_:=hs;omega)) (by kernel_rfl) (by first | decide |(simp;done)|(simp;omega)) (by simp [Value.oneCell']) ?_)
     intro w10 hBw10 hCw10
     have hzw10:=hCw10.size
     rw [zm _ _ (by kernel_rfl)] at hBw10
     refine ⟨.inl (by kernel_rfl), ?_⟩
     refine zJ (zC ?_)
     have hK5:=(((((((((hma1.ext hEw6)).ext hEw7)).ext hEw8)).chg hCw9 (fun k h1 h2 hs=>by have h:k=_:=hs;omega))).chg hCw10 (fun k h1 h2 hs=>by have h:k=_:=hs;omega))
     have hK6:=(((((((hma2.ext hEw7)).ext hEw8)).chg hCw9 (fun k h1 h2 hs=>by have h:k=_:=hs;omega))).chg hCw10 (fun k h1 h2 hs=>by have h:k=_:=hs;omega))
     have hX5:Ext w2 w10:=(Ext.own (Ext.own (hEw4.trans hX3) hCw9 (by omega)) hCw10 (by omega))
     exact zuP (w6.heap.size,w7.heap.size,a1,ca1,a2,ca2) (⟨((hBw9).chg hCw10 (fun hs=>by have h:_=_:=hs;omega)),hBw10,(hK5).now.mono (by omega) (Nat.le_refl _),(hK6).now.mono (by omega) (Nat.le_refl _),by omega,by omega,hX5⟩)
    ·refine zt (some 6) (Instr.alloc 50 true (.tuple #[])) (vP w6.heap.size 0) ([(vI 0),(.slice none 0 0)]) 50 ?_
     intro w11 hBw11 hEw11
     have hzw11:=hEw11.size;have hlw11:=hBw11.lt
     have hX6:Ext w4 w11:=((hEw5.trans hEw6).trans hEw11)
     refine ⟨.inr hX6, ?_⟩
     refine zn 4 63 (zt (some 5) (Instr.alloc 50 true (.tuple #[])) (vP w11.heap.size 0) ([(vI 0),(.slice none 0 0)]) 50 ?_)
     intro w12 hBw12 hEw12
     have hzw12:=hEw12.size;have hlw12:=hBw12.lt
     have hX7:Ext w4 w12:=(((hEw5.trans hEw6).trans hEw11).trans hEw12)
     refine ⟨.inr hX7, ?_⟩
     refine zn 6 127 (zz 50 w11.heap.size 0 50 (vA [(vI (zhA k)),(.slice a1 (tot (zhA k)) ca1)]) ([(vI 0),(.slice none 0 0)]) ([(vI (zhA k)),(.slice a1 (tot (zhA k)) ca1)]) hBw12 (by kernel_rfl) (by first | decide |(simp;done)|(simp;omega)) (by simp [Value.oneCell']) ?_)
     intro w13 hBw13 hCw13
     have hzw13:=hCw13.size
     rw [zm _ _ (by kernel_rfl)] at hBw13
     have hX8:Ext w4 w13:=(Ext.own hX7 hCw13 (by omega))
     refine ⟨.inr hX8, ?_⟩
     refine zn 7 255 (zz 50 w6.heap.size 0 50 (vA [(vI (zhA k2)),(.slice a2 (tot (zhA k2)) ca2)]) ([(vI 0),(.slice none 0 0)]) ([(vI (zhA k2)),(.slice a2 (tot (zhA k2)) ca2)]) (((hBw11.ext hEw12)).chg hCw13 (fun hs=>by have h:_=_:=hs;omega)) (by kernel_rfl) (by first | decide |(simp;done)|(simp;omega)) (by simp [Value.oneCell']) ?_)
     intro w14 hBw14 hCw14
     have hzw14:=hCw14.size
     rw [zm _ _ (by kernel_rfl)] at hBw14
     refine ⟨.inl (by kernel_rfl), ?_⟩
     refine zJ (zC ?_)
     have hK7:=(((((((((hma1.ext hEw6)).ext hEw11)).ext hEw12)).chg hCw13 (fun k h1 h2 hs=>by have h:k=_:=hs;omega))).chg hCw14 (fun k h1 h2 hs=>by have h:k=_:=hs;omega))
     have hK8:=(((((((hma2.ext hEw11)).ext hEw12)).chg hCw13 (fun k h1 h2 hs=>by have h:k=_:=hs;omega))).chg hCw14 (fun k h1 h2 hs=>by have h:k=_:=hs;omega))
     have hX9:Ext w2 w14:=(Ext.own (Ext.own (hEw4.trans hX7) hCw13 (by omega)) hCw14 (by omega))
     exact zuP (w11.heap.size,w6.heap.size,a1,ca1,a2,ca2) (⟨((hBw13).chg hCw14 (fun hs=>by have h:_=_:=hs;omega)),hBw14,(hK7).now.mono (by omega) (Nat.le_refl _),(hK8).now.mono (by omega) (Nat.le_refl _),by omega,by omega,hX9⟩)
   ·refine zt (some 5) (Instr.alloc 50 true (.tuple #[])) (vP w5.heap.size 0) ([(vI 0),(.slice none 0 0)]) 50 ?_
    intro w15 hBw15 hEw15
    have hzw15:=hEw15.size;have hlw15:=hBw15.lt
    have hX10:Ext w4 w15:=(hEw5.trans hEw15)
    refine ⟨.inr hX10, ?_⟩
    refine zay 3 5 31 55 ?_ ?_
    ·have hK9:=(((((((((h_p2.ext hEw1)).ext hEw2)).ext hEw4)).ext hEw5)).ext hEw15)
     have hK10:=(((((((((h_s2.ext hEw1)).ext hEw2)).ext hEw4)).ext hEw5)).ext hEw15)
     refine zi (some 14) (zwS k2 _ hK9 hK10 (by omega)) ?_
     rintro _ w16 ⟨a3,ca3,rfl,hFz3_0,hEw16⟩
     have hzw16:=hEw16.size
     have hma3:=hFz3_0.ms;have hlea3:=hma3.le
     have hX11:Ext w4 w16:=((hEw5.trans hEw15).trans hEw16)
     refine ⟨.inr hX11, ?_⟩
     refine zn 5 63 (zt (some 6) (Instr.alloc 50 true (.tuple #[])) (vP w16.heap.size 0) ([(vI 0),(.slice none 0 0)]) 50 ?_)
     intro w17 hBw17 hEw17
     have hzw17:=hEw17.size;have hlw17:=hBw17.lt
     have hX12:Ext w4 w17:=(((hEw5.trans hEw15).trans hEw16).trans hEw17)
     refine ⟨.inr hX12, ?_⟩
     refine zn 6 127 (zz 50 w5.heap.size 0 50 (vA [(vI (zhA k)),(.slice a1 (tot (zhA k)) ca1)]) ([(vI 0),(.slice none 0 0)]) ([(vI (zhA k)),(.slice a1 (tot (zhA k)) ca1)]) (((hBw15.ext hEw16)).ext hEw17) (by kernel_rfl) (by first | decide |(simp;done)|(simp;omega)) (by simp [Value.oneCell']) ?_)
     intro w18 hBw18 hCw18
     have hzw18:=hCw18.size
     rw [zm _ _ (by kernel_rfl)] at hBw18
     have hX13:Ext w4 w18:=(Ext.own hX12 hCw18 (by omega))
     refine ⟨.inr hX13, ?_⟩
     refine zn 7 255 (zz 50 w16.heap.size 0 50 (vA [(vI (zhA k2)),(.slice a3 (tot (zhA k2)) ca3)]) ([(vI 0),(.slice none 0 0)]) ([(vI (zhA k2)),(.slice a3 (tot (zhA k2)) ca3)]) ((hBw17).chg hCw18 (fun hs=>by have h:_=_:=hs;omega)) (by kernel_rfl) (by first | decide |(simp;done)|(simp;omega)) (by simp [Value.oneCell']) ?_)
     intro w19 hBw19 hCw19
     have hzw19:=hCw19.size
     rw [zm _ _ (by kernel_rfl)] at hBw19
     refine ⟨.inl (by kernel_rfl), ?_⟩
     refine zJ (zC ?_)
     have hK11:=(((((((((hma1.ext hEw15)).ext hEw16)).ext hEw17)).chg hCw18 (fun k h1 h2 hs=>by have h:k=_:=hs;omega))).chg hCw19 (fun k h1 h2 hs=>by have h:k=_:=hs;omega))
     have hK12:=(((((hma3.ext hEw17)).chg hCw18 (fun k h1 h2 hs=>by have h:k=_:=hs;omega))).chg hCw19 (fun k h1 h2 hs=>by have h:k=_:=hs;omega))
     have hX14:Ext w2 w19:=(Ext.own (Ext.own (hEw4.trans hX12) hCw18 (by omega)) hCw19 (by omega))
     exact zuP (w5.heap.size,w16.heap.size,a1,ca1,a3,ca3) (⟨((hBw18).chg hCw19 (fun hs=>by have h:_=_:=hs;omega)),hBw19,(hK11).now.mono (by omega) (Nat.le_refl _),(hK12).now.mono (by omega) (Nat.le_refl _),by omega,by omega,hX14⟩)
    ·refine zt (some 6) (Instr.alloc 50 true (.tuple #[])) (vP w15.heap.size 0) ([(vI 0),(.slice none 0 0)]) 50 ?_
     intro w20 hBw20 hEw20
     have hzw20:=hEw20.size;have hlw20:=hBw20.lt
     have hX15:Ext w4 w20:=((hEw5.trans hEw15).trans hEw20)
     refine ⟨.inr hX15, ?_⟩
     have hK13:=(((((((((((h_p2.ext hEw1)).ext hEw2)).ext hEw4)).ext hEw5)).ext hEw15)).ext hEw20)
     have hK14:=(((((((((((h_s2.ext hEw1)).ext hEw2)).ext hEw4)).ext hEw5)).ext hEw15)).ext hEw20)
     refine zn 3 63 (zi (some 14) (zwS k2 _ hK13 hK14 (by omega)) ?_)
     rintro _ w21 ⟨a4,ca4,rfl,hFz4_0,hEw21⟩
     have hzw21:=hEw21.size
     have hma4:=hFz4_0.ms;have hlea4:=hma4.le
     have hX16:Ext w4 w21:=(((hEw5.trans hEw15).trans hEw20).trans hEw21)
     refine ⟨.inr hX16, ?_⟩
     refine zn 6 127 (zz 50 w5.heap.size 0 50 (vA [(vI (zhA k)),(.slice a1 (tot (zhA k)) ca1)]) ([(vI 0),(.slice none 0 0)]) ([(vI (zhA k)),(.slice a1 (tot (zhA k)) ca1)]) (((hBw15.ext hEw20)).ext hEw21) (by kernel_rfl) (by first | decide |(simp;done)|(simp;omega)) (by simp [Value.oneCell']) ?_)
     intro w22 hBw22 hCw22
     have hzw22:=hCw22.size
     rw [zm _ _ (by kernel_rfl)] at hBw22
     have hX17:Ext w4 w22:=(Ext.own hX16 hCw22 (by omega))
     refine ⟨.inr hX17, ?_⟩
     refine zn 7 255 (zz 50 w15.heap.size 0 50 (vA [(vI (zhA k2)),(.slice a4 (tot (zhA k2)) ca4)]) ([(vI 0),(.slice none 0 0)]) ([(vI (zhA k2)),(.slice a4 (tot (zhA k2)) ca4)]) (((hBw20.ext hEw21)).chg hCw22 (fun hs=>by have h:_=_:=hs;omega)) (by kernel_rfl) (by first | decide |(simp;done)|(simp;omega)) (by simp [Value.oneCell']) ?_)
     intro w23 hBw23 hCw23
     have hzw23:=hCw23.size
     rw [zm _ _ (by kernel_rfl)] at hBw23
     refine ⟨.inl (by kernel_rfl), ?_⟩
     refine zJ (zC ?_)
     have hK15:=(((((((((hma1.ext hEw15)).ext hEw20)).ext hEw21)).chg hCw22 (fun k h1 h2 hs=>by have h:k=_:=hs;omega))).chg hCw23 (fun k h1 h2 hs=>by have h:k=_:=hs;omega))
     have hX18:Ext w2 w23:=(Ext.own (Ext.own (hEw4.trans hX16) hCw22 (by omega)) hCw23 (by omega))
     exact zuP (w5.heap.size,w15.heap.size,a1,ca1,a4,ca4) (⟨((hBw22).chg hCw23 (fun hs=>by have h:_=_:=hs;omega)),hBw23,(hK15).now.mono (by omega) (Nat.le_refl _),(((((hma4).chg hCw22 (fun k h1 h2 hs=>by have h:k=_:=hs;omega))).chg hCw23 (fun k h1 h2 hs=>by have h:k=_:=hs;omega))).now.mono (by omega) (Nat.le_refl _),by omega,by omega,hX18⟩)
   ·refine zt (some 6) (Instr.alloc 50 true (.tuple #[])) (vP w5.heap.size 0) ([(vI 0),(.slice none 0 0)]) 50 ?_
    intro w24 hBw24 hEw24
    have hzw24:=hEw24.size;have hlw24:=hBw24.lt
    have hX19:Ext w4 w24:=(hEw5.trans hEw24)
    refine ⟨.inr hX19, ?_⟩
    refine zay 3 4 47 55 ?_ ?_
    ·have hK16:=(((((((((h_p2.ext hEw1)).ext hEw2)).ext hEw4)).ext hEw5)).ext hEw24)
     have hK17:=(((((((((h_s2.ext hEw1)).ext hEw2)).ext hEw4)).ext hEw5)).ext hEw24)
     refine zi (some 14) (zwS k2 _ hK16 hK17 (by omega)) ?_
     rintro _ w25 ⟨a5,ca5,rfl,hFz5_0,hEw25⟩
     have hzw25:=hEw25.size
     have hma5:=hFz5_0.ms;have hlea5:=hma5.le
     have hX20:Ext w4 w25:=((hEw5.trans hEw24).trans hEw25)
     refine ⟨.inr hX20, ?_⟩
     refine zn 4 63 (zt (some 5) (Instr.alloc 50 true (.tuple #[])) (vP w25.heap.size 0) ([(vI 0),(.slice none 0 0)]) 50 ?_)
     intro w26 hBw26 hEw26
     have hzw26:=hEw26.size;have hlw26:=hBw26.lt
     have hX21:Ext w4 w26:=(((hEw5.trans hEw24).trans hEw25).trans hEw26)
     refine ⟨.inr hX21, ?_⟩
     refine zn 6 127 (zz 50 w25.heap.size 0 50 (vA [(vI (zhA k)),(.slice a1 (tot (zhA k)) ca1)]) ([(vI 0),(.slice none 0 0)]) ([(vI (zhA k)),(.slice a1 (tot (zhA k)) ca1)]) hBw26 (by kernel_rfl) (by first | decide |(simp;done)|(simp;omega)) (by simp [Value.oneCell']) ?_)
     intro w27 hBw27 hCw27
     have hzw27:=hCw27.size
     rw [zm _ _ (by kernel_rfl)] at hBw27
     have hX22:Ext w4 w27:=(Ext.own hX21 hCw27 (by omega))
     refine ⟨.inr hX22, ?_⟩
     have hK18:=(((((hBw24.ext hEw25)).ext hEw26)).chg hCw27 (fun hs=>by have h:_=_:=hs;omega))
     refine zn 7 255 (zz 50 w5.heap.size 0 50 (vA [(vI (zhA k2)),(.slice a5 (tot (zhA k2)) ca5)]) ([(vI 0),(.slice none 0 0)]) ([(vI (zhA k2)),(.slice a5 (tot (zhA k2)) ca5)]) hK18 (by kernel_rfl) (by first | decide |(simp;done)|(simp;omega)) (by simp [Value.oneCell']) ?_)
     have hK19:=(((((hBw24.ext hEw25)).ext hEw26)).chg hCw27 (fun hs=>by have h:_=_:=hs;omega))
     intro w28 hBw28 hCw28
     have hzw28:=hCw28.size
     rw [zm _ _ (by kernel_rfl)] at hBw28
     refine ⟨.inl (by kernel_rfl), ?_⟩
     refine zJ (zC ?_)
     have hK20:=(((((((((hma1.ext hEw24)).ext hEw25)).ext hEw26)).chg hCw27 (fun k h1 h2 hs=>by have h:k=_:=hs;omega))).chg hCw28 (fun k h1 h2 hs=>by have h:k=_:=hs;omega))
     have hK21:=(((((hma5.ext hEw26)).chg hCw27 (fun k h1 h2 hs=>by have h:k=_:=hs;omega))).chg hCw28 (fun k h1 h2 hs=>by have h:k=_:=hs;omega))
     have hX23:Ext w2 w28:=(Ext.own (Ext.own (hEw4.trans hX21) hCw27 (by omega)) hCw28 (by omega))
     exact zuP (w25.heap.size,w5.heap.size,a1,ca1,a5,ca5) (⟨((hBw27).chg hCw28 (fun hs=>by have h:_=_:=hs;omega)),hBw28,(hK20).now.mono (by omega) (Nat.le_refl _),(hK21).now.mono (by omega) (Nat.le_refl _),by omega,by omega,hX23⟩)
    ·refine zt (some 5) (Instr.alloc 50 true (.tuple #[])) (vP w24.heap.size 0) ([(vI 0),(.slice none 0 0)]) 50 ?_
     intro w29 hBw29 hEw29
     have hzw29:=hEw29.size;have hlw29:=hBw29.lt
     have hX24:Ext w4 w29:=((hEw5.trans hEw24).trans hEw29)
     refine ⟨.inr hX24, ?_⟩
     have hK22:=(((((((((((h_p2.ext hEw1)).ext hEw2)).ext hEw4)).ext hEw5)).ext hEw24)).ext hEw29)
     have hK23:=(((((((((((h_s2.ext hEw1)).ext hEw2)).ext hEw4)).ext hEw5)).ext hEw24)).ext hEw29)
     refine zn 3 63 (zi (some 14) (zwS k2 _ hK22 hK23 (by omega)) ?_)
     rintro _ w30 ⟨a6,ca6,rfl,hFz6_0,hEw30⟩
     have hzw30:=hEw30.size
     have hma6:=hFz6_0.ms;have hlea6:=hma6.le
     have hX25:Ext w4 w30:=(((hEw5.trans hEw24).trans hEw29).trans hEw30)
     refine ⟨.inr hX25, ?_⟩
     refine zn 6 127 (zz 50 w24.heap.size 0 50 (vA [(vI (zhA k)),(.slice a1 (tot (zhA k)) ca1)]) ([(vI 0),(.slice none 0 0)]) ([(vI (zhA k)),(.slice a1 (tot (zhA k)) ca1)]) (hBw29.ext hEw30) (by kernel_rfl) (by first | decide |(simp;done)|(simp;omega)) (by simp [Value.oneCell']) ?_)
     intro w31 hBw31 hCw31
     have hzw31:=hCw31.size
     rw [zm _ _ (by kernel_rfl)] at hBw31
     have hX26:Ext w4 w31:=(Ext.own hX25 hCw31 (by omega))
     refine ⟨.inr hX26, ?_⟩
     have hK24:=(((((hBw24.ext hEw29)).ext hEw30)).chg hCw31 (fun hs=>by have h:_=_:=hs;omega))
     refine zn 7 255 (zz 50 w5.heap.size 0 50 (vA [(vI (zhA k2)),(.slice a6 (tot (zhA k2)) ca6)]) ([(vI 0),(.slice none 0 0)]) ([(vI (zhA k2)),(.slice a6 (tot (zhA k2)) ca6)]) hK24 (by kernel_rfl) (by first | decide |(simp;done)|(simp;omega)) (by simp [Value.oneCell']) ?_)
     have hK25:=(((((hBw24.ext hEw29)).ext hEw30)).chg hCw31 (fun hs=>by have h:_=_:=hs;omega))
     intro w32 hBw32 hCw32
     have hzw32:=hCw32.size
     rw [zm _ _ (by kernel_rfl)] at hBw32
     refine ⟨.inl (by kernel_rfl), ?_⟩
     refine zJ (zC ?_)
     have hK26:=(((((((((hma1.ext hEw24)).ext hEw29)).ext hEw30)).chg hCw31 (fun k h1 h2 hs=>by have h:k=_:=hs;omega))).chg hCw32 (fun k h1 h2 hs=>by have h:k=_:=hs;omega))
     have hX27:Ext w2 w32:=(Ext.own (Ext.own (hEw4.trans hX25) hCw31 (by omega)) hCw32 (by omega))
     exact zuP (w24.heap.size,w5.heap.size,a1,ca1,a6,ca6) (⟨((hBw31).chg hCw32 (fun hs=>by have h:_=_:=hs;omega)),hBw32,(hK26).now.mono (by omega) (Nat.le_refl _),(((((hma6).chg hCw31 (fun k h1 h2 hs=>by have h:k=_:=hs;omega))).chg hCw32 (fun k h1 h2 hs=>by have h:k=_:=hs;omega))).now.mono (by omega) (Nat.le_refl _),by omega,by omega,hX27⟩)
  ·refine zt (some 5) (Instr.alloc 50 true (.tuple #[])) (vP w4.heap.size 0) ([(vI 0),(.slice none 0 0)]) 50 ?_
   intro w33 hBw33 hEw33
   have hzw33:=hEw33.size;have hlw33:=hBw33.lt
   refine ⟨.inr hEw33, ?_⟩
   refine zay 1 5 23 53 ?_ ?_
   ·have hK27:=(((((((h_p.ext hEw1)).ext hEw2)).ext hEw4)).ext hEw33)
    have hK28:=(((((((h_s.ext hEw1)).ext hEw2)).ext hEw4)).ext hEw33)
    refine zi (some 12) (zwS k _ hK27 hK28 (by omega)) ?_
    rintro _ w34 ⟨a7,ca7,rfl,hFz7_0,hEw34⟩
    have hzw34:=hEw34.size
    have hma7:=hFz7_0.ms;have hlea7:=hma7.le
    have hX28:Ext w4 w34:=(hEw33.trans hEw34)
    refine ⟨.inr hX28, ?_⟩
    refine zay 3 5 31 55 ?_ ?_
    ·have hK29:=(((((((((h_p2.ext hEw1)).ext hEw2)).ext hEw4)).ext hEw33)).ext hEw34)
     have hK30:=(((((((((h_s2.ext hEw1)).ext hEw2)).ext hEw4)).ext hEw33)).ext hEw34)
     refine zi (some 14) (zwS k2 _ hK29 hK30 (by omega)) ?_
     rintro _ w35 ⟨a8,ca8,rfl,hFz8_0,hEw35⟩
     have hzw35:=hEw35.size
     have hma8:=hFz8_0.ms;have hlea8:=hma8.le
     have hX29:Ext w4 w35:=((hEw33.trans hEw34).trans hEw35)
     refine ⟨.inr hX29, ?_⟩
     refine zn 5 63 (zt (some 6) (Instr.alloc 50 true (.tuple #[])) (vP w35.heap.size 0) ([(vI 0),(.slice none 0 0)]) 50 ?_)
     intro w36 hBw36 hEw36
     have hzw36:=hEw36.size;have hlw36:=hBw36.lt
     have hX30:Ext w4 w36:=(((hEw33.trans hEw34).trans hEw35).trans hEw36)
     refine ⟨.inr hX30, ?_⟩
     have hK31:=(((((hBw33.ext hEw34)).ext hEw35)).ext hEw36)
     refine zn 6 127 (zz 50 w4.heap.size 0 50 (vA [(vI (zhA k)),(.slice a7 (tot (zhA k)) ca7)]) ([(vI 0),(.slice none 0 0)]) ([(vI (zhA k)),(.slice a7 (tot (zhA k)) ca7)]) hK31 (by kernel_rfl) (by first | decide |(simp;done)|(simp;omega)) (by simp [Value.oneCell']) ?_)
     have hK32:=(((((hBw33.ext hEw34)).ext hEw35)).ext hEw36)
     intro w37 hBw37 hCw37
     have hzw37:=hCw37.size
     rw [zm _ _ (by kernel_rfl)] at hBw37
     have hX31:Ext w4 w37:=(Ext.own hX30 hCw37 (by omega))
     refine ⟨.inr hX31, ?_⟩
     refine zn 7 255 (zz 50 w35.heap.size 0 50 (vA [(vI (zhA k2)),(.slice a8 (tot (zhA k2)) ca8)]) ([(vI 0),(.slice none 0 0)]) ([(vI (zhA k2)),(.slice a8 (tot (zhA k2)) ca8)]) ((hBw36).chg hCw37 (fun hs=>by have h:_=_:=hs;omega)) (by kernel_rfl) (by first | decide |(simp;done)|(simp;omega)) (by simp [Value.oneCell']) ?_)
     intro w38 hBw38 hCw38
     have hzw38:=hCw38.size
     rw [zm _ _ (by kernel_rfl)] at hBw38
     refine ⟨.inl (by kernel_rfl), ?_⟩
     refine zJ (zC ?_)
     have hK33:=(((((((hma7.ext hEw35)).ext hEw36)).chg hCw37 (fun k h1 h2 hs=>by have h:k=_:=hs;omega))).chg hCw38 (fun k h1 h2 hs=>by have h:k=_:=hs;omega))
     have hK34:=(((((hma8.ext hEw36)).chg hCw37 (fun k h1 h2 hs=>by have h:k=_:=hs;omega))).chg hCw38 (fun k h1 h2 hs=>by have h:k=_:=hs;omega))
     have hX32:Ext w2 w38:=(Ext.own (Ext.own (hEw4.trans hX30) hCw37 (by omega)) hCw38 (by omega))
     exact zuP (w4.heap.size,w35.heap.size,a7,ca7,a8,ca8) (⟨((hBw37).chg hCw38 (fun hs=>by have h:_=_:=hs;omega)),hBw38,(hK33).now.mono (by omega) (Nat.le_refl _),(hK34).now.mono (by omega) (Nat.le_refl _),by omega,by omega,hX32⟩)
    ·refine zt (some 6) (Instr.alloc 50 true (.tuple #[])) (vP w34.heap.size 0) ([(vI 0),(.slice none 0 0)]) 50 ?_
     intro w39 hBw39 hEw39
     have hzw39:=hEw39.size;have hlw39:=hBw39.lt
     have hX33:Ext w4 w39:=((hEw33.trans hEw34).trans hEw39)
     refine ⟨.inr hX33, ?_⟩
     have hK35:=(((((((((((h_p2.ext hEw1)).ext hEw2)).ext hEw4)).ext hEw33)).ext hEw34)).ext hEw39)
     have hK36:=(((((((((((h_s2.ext hEw1)).ext hEw2)).ext hEw4)).ext hEw33)).ext hEw34)).ext hEw39)
     refine zn 3 63 (zi (some 14) (zwS k2 _ hK35 hK36 (by omega)) ?_)
     rintro _ w40 ⟨a9,ca9,rfl,hFz9_0,hEw40⟩
     have hzw40:=hEw40.size
     have hma9:=hFz9_0.ms;have hlea9:=hma9.le
     have hX34:Ext w4 w40:=(((hEw33.trans hEw34).trans hEw39).trans hEw40)
     refine ⟨.inr hX34, ?_⟩
     have hK37:=(((((hBw33.ext hEw34)).ext hEw39)).ext hEw40)
     refine zn 6 127 (zz 50 w4.heap.size 0 50 (vA [(vI (zhA k)),(.slice a7 (tot (zhA k)) ca7)]) ([(vI 0),(.slice none 0 0)]) ([(vI (zhA k)),(.slice a7 (tot (zhA k)) ca7)]) hK37 (by kernel_rfl) (by first | decide |(simp;done)|(simp;omega)) (by simp [Value.oneCell']) ?_)
     have hK38:=(((((hBw33.ext hEw34)).ext hEw39)).ext hEw40)
     intro w41 hBw41 hCw41
     have hzw41:=hCw41.size
     rw [zm _ _ (by kernel_rfl)] at hBw41
     have hX35:Ext w4 w41:=(Ext.own hX34 hCw41 (by omega))
     refine ⟨.inr hX35, ?_⟩
     refine zn 7 255 (zz 50 w34.heap.size 0 50 (vA [(vI (zhA k2)),(.slice a9 (tot (zhA k2)) ca9)]) ([(vI 0),(.slice none 0 0)]) ([(vI (zhA k2)),(.slice a9 (tot (zhA k2)) ca9)]) (((hBw39.ext hEw40)).chg hCw41 (fun hs=>by have h:_=_:=hs;omega)) (by kernel_rfl) (by first | decide |(simp;done)|(simp;omega)) (by simp [Value.oneCell']) ?_)
     intro w42 hBw42 hCw42
     have hzw42:=hCw42.size
     rw [zm _ _ (by kernel_rfl)] at hBw42
     refine ⟨.inl (by kernel_rfl), ?_⟩
     refine zJ (zC ?_)
     have hK39:=(((((((hma7.ext hEw39)).ext hEw40)).chg hCw41 (fun k h1 h2 hs=>by have h:k=_:=hs;omega))).chg hCw42 (fun k h1 h2 hs=>by have h:k=_:=hs;omega))
     have hX36:Ext w2 w42:=(Ext.own (Ext.own (hEw4.trans hX34) hCw41 (by omega)) hCw42 (by omega))
     exact zuP (w4.heap.size,w34.heap.size,a7,ca7,a9,ca9) (⟨((hBw41).chg hCw42 (fun hs=>by have h:_=_:=hs;omega)),hBw42,(hK39).now.mono (by omega) (Nat.le_refl _),(((((hma9).chg hCw41 (fun k h1 h2 hs=>by have h:k=_:=hs;omega))).chg hCw42 (fun k h1 h2 hs=>by have h:k=_:=hs;omega))).now.mono (by omega) (Nat.le_refl _),by omega,by omega,hX36⟩)
   ·refine zt (some 6) (Instr.alloc 50 true (.tuple #[])) (vP w33.heap.size 0) ([(vI 0),(.slice none 0 0)]) 50 ?_
    intro w43 hBw43 hEw43
    have hzw43:=hEw43.size;have hlw43:=hBw43.lt
    have hX37:Ext w4 w43:=(hEw33.trans hEw43)
    refine ⟨.inr hX37, ?_⟩
    have hK40:=(((((((((h_p.ext hEw1)).ext hEw2)).ext hEw4)).ext hEw33)).ext hEw43)
    have hK41:=(((((((((h_s.ext hEw1)).ext hEw2)).ext hEw4)).ext hEw33)).ext hEw43)
    refine zn 1 55 (zi (some 12) (zwS k _ hK40 hK41 (by omega)) ?_)
    rintro _ w44 ⟨a10,ca10,rfl,hFz10_0,hEw44⟩
    have hzw44:=hEw44.size
    have hma10:=hFz10_0.ms;have hlea10:=hma10.le
    have hX38:Ext w4 w44:=((hEw33.trans hEw43).trans hEw44)
    refine ⟨.inr hX38, ?_⟩
    have hK42:=(((((((((((h_p2.ext hEw1)).ext hEw2)).ext hEw4)).ext hEw33)).ext hEw43)).ext hEw44)
    have hK43:=(((((((((((h_s2.ext hEw1)).ext hEw2)).ext hEw4)).ext hEw33)).ext hEw43)).ext hEw44)
    refine zn 3 63 (zi (some 14) (zwS k2 _ hK42 hK43 (by omega)) ?_)
    rintro _ w45 ⟨a11,ca11,rfl,hFz11_0,hEw45⟩
    have hzw45:=hEw45.size
    have hma11:=hFz11_0.ms;have hlea11:=hma11.le
    have hX39:Ext w4 w45:=(((hEw33.trans hEw43).trans hEw44).trans hEw45)
    refine ⟨.inr hX39, ?_⟩
    have hK44:=(((((hBw33.ext hEw43)).ext hEw44)).ext hEw45)
    refine zn 6 127 (zz 50 w4.heap.size 0 50 (vA [(vI (zhA k)),(.slice a10 (tot (zhA k)) ca10)]) ([(vI 0),(.slice none 0 0)]) ([(vI (zhA k)),(.slice a10 (tot (zhA k)) ca10)]) hK44 (by kernel_rfl) (by first | decide |(simp;done)|(simp;omega)) (by simp [Value.oneCell']) ?_)
    have hK45:=(((((hBw33.ext hEw43)).ext hEw44)).ext hEw45)
    intro w46 hBw46 hCw46
    have hzw46:=hCw46.size
    rw [zm _ _ (by kernel_rfl)] at hBw46
    have hX40:Ext w4 w46:=(Ext.own hX39 hCw46 (by omega))
    refine ⟨.inr hX40, ?_⟩
    have hK46:=(((((hBw43.ext hEw44)).ext hEw45)).chg hCw46 (fun hs=>by have h:_=_:=hs;omega))
    refine zn 7 255 (zz 50 w33.heap.size 0 50 (vA [(vI (zhA k2)),(.slice a11 (tot (zhA k2)) ca11)]) ([(vI 0),(.slice none 0 0)]) ([(vI (zhA k2)),(.slice a11 (tot (zhA k2)) ca11)]) hK46 (by kernel_rfl) (by first | decide |(simp;done)|(simp;omega)) (by simp [Value.oneCell']) ?_)
    have hK47:=(((((hBw43.ext hEw44)).ext hEw45)).chg hCw46 (fun hs=>by have h:_=_:=hs;omega))
    intro w47 hBw47 hCw47
    have hzw47:=hCw47.size
    rw [zm _ _ (by kernel_rfl)] at hBw47
    refine ⟨.inl (by kernel_rfl), ?_⟩
    refine zJ (zC ?_)
    have hK48:=(((((hma10.ext hEw45)).chg hCw46 (fun k h1 h2 hs=>by have h:k=_:=hs;omega))).chg hCw47 (fun k h1 h2 hs=>by have h:k=_:=hs;omega))
    have hX41:Ext w2 w47:=(Ext.own (Ext.own (hEw4.trans hX39) hCw46 (by omega)) hCw47 (by omega))
    exact zuP (w4.heap.size,w33.heap.size,a10,ca10,a11,ca11) (⟨((hBw46).chg hCw47 (fun hs=>by have h:_=_:=hs;omega)),hBw47,(hK48).now.mono (by omega) (Nat.le_refl _),(((((hma11).chg hCw46 (fun k h1 h2 hs=>by have h:k=_:=hs;omega))).chg hCw47 (fun k h1 h2 hs=>by have h:k=_:=hs;omega))).now.mono (by omega) (Nat.le_refl _),by omega,by omega,hX41⟩)
  ·refine zt (some 6) (Instr.alloc 50 true (.tuple #[])) (vP w4.heap.size 0) ([(vI 0),(.slice none 0 0)]) 50 ?_
   intro w48 hBw48 hEw48
   have hzw48:=hEw48.size;have hlw48:=hBw48.lt
   refine ⟨.inr hEw48, ?_⟩
   refine zay 1 4 39 53 ?_ ?_
   ·have hK49:=(((((((h_p.ext hEw1)).ext hEw2)).ext hEw4)).ext hEw48)
    have hK50:=(((((((h_s.ext hEw1)).ext hEw2)).ext hEw4)).ext hEw48)
    refine zi (some 12) (zwS k _ hK49 hK50 (by omega)) ?_
    rintro _ w49 ⟨a12,ca12,rfl,hFz12_0,hEw49⟩
    have hzw49:=hEw49.size
    have hma12:=hFz12_0.ms;have hlea12:=hma12.le
    have hX42:Ext w4 w49:=(hEw48.trans hEw49)
    refine ⟨.inr hX42, ?_⟩
    refine zay 3 4 47 55 ?_ ?_
    ·have hK51:=(((((((((h_p2.ext hEw1)).ext hEw2)).ext hEw4)).ext hEw48)).ext hEw49)
     have hK52:=(((((((((h_s2.ext hEw1)).ext hEw2)).ext hEw4)).ext hEw48)).ext hEw49)
     refine zi (some 14) (zwS k2 _ hK51 hK52 (by omega)) ?_
     rintro _ w50 ⟨a13,ca13,rfl,hFz13_0,hEw50⟩
     have hzw50:=hEw50.size
     have hma13:=hFz13_0.ms;have hlea13:=hma13.le
     have hX43:Ext w4 w50:=((hEw48.trans hEw49).trans hEw50)
     refine ⟨.inr hX43, ?_⟩
     refine zn 4 63 (zt (some 5) (Instr.alloc 50 true (.tuple #[])) (vP w50.heap.size 0) ([(vI 0),(.slice none 0 0)]) 50 ?_)
     intro w51 hBw51 hEw51
     have hzw51:=hEw51.size;have hlw51:=hBw51.lt
     have hX44:Ext w4 w51:=(((hEw48.trans hEw49).trans hEw50).trans hEw51)
     refine ⟨.inr hX44, ?_⟩
     refine zn 6 127 (zz 50 w50.heap.size 0 50 (vA [(vI (zhA k)),(.slice a12 (tot (zhA k)) ca12)]) ([(vI 0),(.slice none 0 0)]) ([(vI (zhA k)),(.slice a12 (tot (zhA k)) ca12)]) hBw51 (by kernel_rfl) (by first | decide |(simp;done)|(simp;omega)) (by simp [Value.oneCell']) ?_)
     intro w52 hBw52 hCw52
     have hzw52:=hCw52.size
     rw [zm _ _ (by kernel_rfl)] at hBw52
     have hX45:Ext w4 w52:=(Ext.own hX44 hCw52 (by omega))
     refine ⟨.inr hX45, ?_⟩
     have hK53:=(((((((hBw48.ext hEw49)).ext hEw50)).ext hEw51)).chg hCw52 (fun hs=>by have h:_=_:=hs;omega))
     refine zn 7 255 (zz 50 w4.heap.size 0 50 (vA [(vI (zhA k2)),(.slice a13 (tot (zhA k2)) ca13)]) ([(vI 0),(.slice none 0 0)]) ([(vI (zhA k2)),(.slice a13 (tot (zhA k2)) ca13)]) hK53 (by kernel_rfl) (by first | decide |(simp;done)|(simp;omega)) (by simp [Value.oneCell']) ?_)
     have hK54:=(((((((hBw48.ext hEw49)).ext hEw50)).ext hEw51)).chg hCw52 (fun hs=>by have h:_=_:=hs;omega))
     intro w53 hBw53 hCw53
     have hzw53:=hCw53.size
     rw [zm _ _ (by kernel_rfl)] at hBw53
     refine ⟨.inl (by kernel_rfl), ?_⟩
     refine zJ (zC ?_)
     have hK55:=(((((((hma12.ext hEw50)).ext hEw51)).chg hCw52 (fun k h1 h2 hs=>by have h:k=_:=hs;omega))).chg hCw53 (fun k h1 h2 hs=>by have h:k=_:=hs;omega))
     have hK56:=(((((hma13.ext hEw51)).chg hCw52 (fun k h1 h2 hs=>by have h:k=_:=hs;omega))).chg hCw53 (fun k h1 h2 hs=>by have h:k=_:=hs;omega))
     have hX46:Ext w2 w53:=(Ext.own (Ext.own (hEw4.trans hX44) hCw52 (by omega)) hCw53 (by omega))
     exact zuP (w50.heap.size,w4.heap.size,a12,ca12,a13,ca13) (⟨((hBw52).chg hCw53 (fun hs=>by have h:_=_:=hs;omega)),hBw53,(hK55).now.mono (by omega) (Nat.le_refl _),(hK56).now.mono (by omega) (Nat.le_refl _),by omega,by omega,hX46⟩)
    ·refine zt (some 5) (Instr.alloc 50 true (.tuple #[])) (vP w49.heap.size 0) ([(vI 0),(.slice none 0 0)]) 50 ?_
     intro w54 hBw54 hEw54
     have hzw54:=hEw54.size;have hlw54:=hBw54.lt
     have hX47:Ext w4 w54:=((hEw48.trans hEw49).trans hEw54)
     refine ⟨.inr hX47, ?_⟩
     have hK57:=(((((((((((h_p2.ext hEw1)).ext hEw2)).ext hEw4)).ext hEw48)).ext hEw49)).ext hEw54)
     have hK58:=(((((((((((h_s2.ext hEw1)).ext hEw2)).ext hEw4)).ext hEw48)).ext hEw49)).ext hEw54)
     refine zn 3 63 (zi (some 14) (zwS k2 _ hK57 hK58 (by omega)) ?_)
     rintro _ w55 ⟨a14,ca14,rfl,hFz14_0,hEw55⟩
     have hzw55:=hEw55.size
     have hma14:=hFz14_0.ms;have hlea14:=hma14.le
     have hX48:Ext w4 w55:=(((hEw48.trans hEw49).trans hEw54).trans hEw55)
     refine ⟨.inr hX48, ?_⟩
     refine zn 6 127 (zz 50 w49.heap.size 0 50 (vA [(vI (zhA k)),(.slice a12 (tot (zhA k)) ca12)]) ([(vI 0),(.slice none 0 0)]) ([(vI (zhA k)),(.slice a12 (tot (zhA k)) ca12)]) (hBw54.ext hEw55) (by kernel_rfl) (by first | decide |(simp;done)|(simp;omega)) (by simp [Value.oneCell']) ?_)
     intro w56 hBw56 hCw56
     have hzw56:=hCw56.size
     rw [zm _ _ (by kernel_rfl)] at hBw56
     have hX49:Ext w4 w56:=(Ext.own hX48 hCw56 (by omega))
     refine ⟨.inr hX49, ?_⟩
     have hK59:=(((((((hBw48.ext hEw49)).ext hEw54)).ext hEw55)).chg hCw56 (fun hs=>by have h:_=_:=hs;omega))
     refine zn 7 255 (zz 50 w4.heap.size 0 50 (vA [(vI (zhA k2)),(.slice a14 (tot (zhA k2)) ca14)]) ([(vI 0),(.slice none 0 0)]) ([(vI (zhA k2)),(.slice a14 (tot (zhA k2)) ca14)]) hK59 (by kernel_rfl) (by first | decide |(simp;done)|(simp;omega)) (by simp [Value.oneCell']) ?_)
     have hK60:=(((((((hBw48.ext hEw49)).ext hEw54)).ext hEw55)).chg hCw56 (fun hs=>by have h:_=_:=hs;omega))
     intro w57 hBw57 hCw57
     have hzw57:=hCw57.size
     rw [zm _ _ (by kernel_rfl)] at hBw57
     refine ⟨.inl (by kernel_rfl), ?_⟩
     refine zJ (zC ?_)
     have hK61:=(((((((hma12.ext hEw54)).ext hEw55)).chg hCw56 (fun k h1 h2 hs=>by have h:k=_:=hs;omega))).chg hCw57 (fun k h1 h2 hs=>by have h:k=_:=hs;omega))
     have hX50:Ext w2 w57:=(Ext.own (Ext.own (hEw4.trans hX48) hCw56 (by omega)) hCw57 (by omega))
     exact zuP (w49.heap.size,w4.heap.size,a12,ca12,a14,ca14) (⟨((hBw56).chg hCw57 (fun hs=>by have h:_=_:=hs;omega)),hBw57,(hK61).now.mono (by omega) (Nat.le_refl _),(((((hma14).chg hCw56 (fun k h1 h2 hs=>by have h:k=_:=hs;omega))).chg hCw57 (fun k h1 h2 hs=>by have h:k=_:=hs;omega))).now.mono (by omega) (Nat.le_refl _),by omega,by omega,hX50⟩)
   ·refine zt (some 5) (Instr.alloc 50 true (.tuple #[])) (vP w48.heap.size 0) ([(vI 0),(.slice none 0 0)]) 50 ?_
    intro w58 hBw58 hEw58
    have hzw58:=hEw58.size;have hlw58:=hBw58.lt
    have hX51:Ext w4 w58:=(hEw48.trans hEw58)
    refine ⟨.inr hX51, ?_⟩
    have hK62:=(((((((((h_p.ext hEw1)).ext hEw2)).ext hEw4)).ext hEw48)).ext hEw58)
    have hK63:=(((((((((h_s.ext hEw1)).ext hEw2)).ext hEw4)).ext hEw48)).ext hEw58)
    refine zn 1 55 (zi (some 12) (zwS k _ hK62 hK63 (by omega)) ?_)
    rintro _ w59 ⟨a15,ca15,rfl,hFz15_0,hEw59⟩
    have hzw59:=hEw59.size
    have hma15:=hFz15_0.ms;have hlea15:=hma15.le
    have hX52:Ext w4 w59:=((hEw48.trans hEw58).trans hEw59)
    refine ⟨.inr hX52, ?_⟩
    have hK64:=(((((((((((h_p2.ext hEw1)).ext hEw2)).ext hEw4)).ext hEw48)).ext hEw58)).ext hEw59)
    have hK65:=(((((((((((h_s2.ext hEw1)).ext hEw2)).ext hEw4)).ext hEw48)).ext hEw58)).ext hEw59)
    refine zn 3 63 (zi (some 14) (zwS k2 _ hK64 hK65 (by omega)) ?_)
    rintro _ w60 ⟨a16,ca16,rfl,hFz16_0,hEw60⟩
    have hzw60:=hEw60.size
    have hma16:=hFz16_0.ms;have hlea16:=hma16.le
    have hX53:Ext w4 w60:=(((hEw48.trans hEw58).trans hEw59).trans hEw60)
    refine ⟨.inr hX53, ?_⟩
    refine zn 6 127 (zz 50 w48.heap.size 0 50 (vA [(vI (zhA k)),(.slice a15 (tot (zhA k)) ca15)]) ([(vI 0),(.slice none 0 0)]) ([(vI (zhA k)),(.slice a15 (tot (zhA k)) ca15)]) (((hBw58.ext hEw59)).ext hEw60) (by kernel_rfl) (by first | decide |(simp;done)|(simp;omega)) (by simp [Value.oneCell']) ?_)
    intro w61 hBw61 hCw61
    have hzw61:=hCw61.size
    rw [zm _ _ (by kernel_rfl)] at hBw61
    have hX54:Ext w4 w61:=(Ext.own hX53 hCw61 (by omega))
    refine ⟨.inr hX54, ?_⟩
    have hK66:=(((((((hBw48.ext hEw58)).ext hEw59)).ext hEw60)).chg hCw61 (fun hs=>by have h:_=_:=hs;omega))
    refine zn 7 255 (zz 50 w4.heap.size 0 50 (vA [(vI (zhA k2)),(.slice a16 (tot (zhA k2)) ca16)]) ([(vI 0),(.slice none 0 0)]) ([(vI (zhA k2)),(.slice a16 (tot (zhA k2)) ca16)]) hK66 (by kernel_rfl) (by first | decide |(simp;done)|(simp;omega)) (by simp [Value.oneCell']) ?_)
    have hK67:=(((((((hBw48.ext hEw58)).ext hEw59)).ext hEw60)).chg hCw61 (fun hs=>by have h:_=_:=hs;omega))
    intro w62 hBw62 hCw62
    have hzw62:=hCw62.size
    rw [zm _ _ (by kernel_rfl)] at hBw62
    refine ⟨.inl (by kernel_rfl), ?_⟩
    refine zJ (zC ?_)
    have hK68:=(((((hma15.ext hEw60)).chg hCw61 (fun k h1 h2 hs=>by have h:k=_:=hs;omega))).chg hCw62 (fun k h1 h2 hs=>by have h:k=_:=hs;omega))
    have hX55:Ext w2 w62:=(Ext.own (Ext.own (hEw4.trans hX53) hCw61 (by omega)) hCw62 (by omega))
    exact zuP (w48.heap.size,w4.heap.size,a15,ca15,a16,ca16) (⟨((hBw61).chg hCw62 (fun hs=>by have h:_=_:=hs;omega)),hBw62,(hK68).now.mono (by omega) (Nat.le_refl _),(((((hma16).chg hCw61 (fun k h1 h2 hs=>by have h:k=_:=hs;omega))).chg hCw62 (fun k h1 h2 hs=>by have h:k=_:=hs;omega))).now.mono (by omega) (Nat.le_refl _),by omega,by omega,hX55⟩)
 rintro ⟨bj5,bj6,a1,c1,a2,c2⟩ dw3 w3 ⟨hJ5,hJ6,hM1,hM2,hJs5,hJs6,hEj⟩
 have hzj:=hEj.size
 have hJl5:=hJ5.lt;have hJl6:=hJ6.lt
 have hle1:=hM1.le;have hle2:=hM2.le
 refine zf (ze (zb (zj (some 16) (Instr.loadAt 50 (vP bj5 0)) (vA [(vI (zhA k)),(.slice a1 (tot (zhA k)) c1)]) (zD (vs:= [(vI (zhA k)),(.slice a1 (tot (zhA k)) c1)]) (hJ5.all)) ?_)))
 refine zb (zj (some 17) (Instr.loadAt 50 (vP bj6 0)) (vA [(vI (zhA k2)),(.slice a2 (tot (zhA k2)) c2)]) (zD (vs:= [(vI (zhA k2)),(.slice a2 (tot (zhA k2)) c2)]) (hJ6.all)) ?_)
 have hK69:=(((((hg0.ext hEw1)).ext hEw2)).ext hEj)
 have hK70:=(((((hg1.ext hEw1)).ext hEw2)).ext hEj)
 have hK71:=(((((hg2.ext hEw1)).ext hEw2)).ext hEj)
 have hK72:=(((((hg3.ext hEw1)).ext hEw2)).ext hEj)
 refine zb (zi (some 18) (zw1 (zhA k) (zhA k2) _ hM1 hM2 (by omega) (by omega) (by first | rfl | omega) (hok) (by omega) (by omega) (by first | rfl | omega) (hokq) (hp2) (hp4) hK69 hK70 hK71 hK72) ?_)
 rintro _ w63 ⟨rfl,hEw63⟩
 have hzw63:=hEw63.size
 refine zd 7 [(9,(vI 11)),(8,(.slice none 0 0)),(7,(.slice none 0 0)),(21,(vI 11)),(20,(.slice none 0 0)),(19,(.slice none 0 0)),(15,(.tuple #[(.slice none 0 0),(.slice none 0 0),(vI 11)]))] (zg (zc (zf (zf (ze (zd 1 [(22,(vP bj5 0))] (zb (zj (some 23) (Instr.loadAt 3 (vP bj5 0)) (vI (zhA k)) (zo ((hJ5.ext hEw63).cell rfl)) ?_))))))))
 refine zd 1 [(24,(vP bj6 0))] (zb (zj (some 25) (Instr.loadAt 3 (vP bj6 0)) (vI (zhA k2)) (zo ((hJ6.ext hEw63).cell rfl)) ?_))
 refine zb (zat (some 26) (((zhA k:Nat):Int) !=((zhA k2:Nat):Int)) false (zaL (by omega)) ?_)
 refine zg (zc (zr (zy (zc (zf (ze (zd 1 [(40,(vP bj5 1))] (zb (zj (some 41) (Instr.loadAt 24 (vP bj5 1)) (.slice a1 (tot (zhA k)) c1) (zo ((hJ5.ext hEw63).cell rfl)) ?_)))))))))
 refine zd 1 [(42,(vI (tot (zhA k))))] (zb (zv (some 43) .i64 (IntKind.i64.wrap (((tot (zhA k):Nat):Int)-((1:Nat):Int))) (tot (zhA k)-1) (zG (by omega) (by omega) (by omega)) ?_))
 refine zd 1 [(10,(vI (tot (zhA k)-1)))] (zg (zc (zf (zf (zag (Ext w63.drew) 28 [(45,32,0),(46,17592186044416,1),(47,32,0),(48,70368744177664,4),(49,140737488355328,8),(50,32,0),(51,562949953421312,32),(52,1125899906842624,64),(53,2568459162484736,146),(54,64,0),(55,9007199254740992,512),(56,22517998136852480,1280),(57,36028797018963968,2048),(58,72057594037927936,6144),(59,144115188075855904,8192),(60,432345564227567616,24576),(61,144115188075856896,8192),(62,1873497444986126336,106496),(63,2449958197289549824,139264),(64,4755801206503243776,270336),(65,144115188075855936,8192),(66,18590859261785407488,1056768),(67,144115188075856896,8192),(68,110824579630333165568,6299648),(69,147718067777752268800,8396800),(70,295292020367428681728,17309696),(71,599663297583636283392,34086912),(72,1180735735905487159296,67117056)] (fun hT1551=> ?_))))))
 have hEw64:Ext w63 w63.drew:=Ext.drew w63
 generalize w63.drew=w64 at hEw64⊢
 have hzw64:=hEw64.size
 refine zk hT1551 [(0,44,(vP bj5 1))] 1 1 (zh hT1551 1 3 (some 45) (.slice a1 (tot (zhA k)) c1) (zl (Instr.loadAt 24 (vP bj5 1)) (fun w' hC=>zo (((((hJ5.ext hEw63)).ext hEw64).ext hC).cell rfl))) (zk hT1551 [(2,46,(vP bj5 1))] 1 7 (zh hT1551 3 15 (some 47) (.slice a1 (tot (zhA k)) c1) (zl (Instr.loadAt 24 (vP bj5 1)) (fun w' hC=>zo (((((hJ5.ext hEw63)).ext hEw64).ext hC).cell rfl))) (zk hT1551 [(4,48,(vI (tot (zhA k)))),(5,49,(vP bj5 1))] 2 63 (zh hT1551 6 127 (some 50) (.slice a1 (tot (zhA k)) c1) (zl (Instr.loadAt 24 (vP bj5 1)) (fun w' hC=>zo (((((hJ5.ext hEw63)).ext hEw64).ext hC).cell rfl))) (zk hT1551 [(7,51,(vI (tot (zhA k))))] 1 255 ?_))))))
 obtain ⟨a17,hR1,hS1⟩:=(((hM1.ext hEw63)).ext hEw64).slice Tryz.prog 24 47 0 (tot (zhA k)) (tot (zhA k)) none (some (vI (tot (zhA k)))) (some (vI (tot (zhA k))))
 refine zh hT1551 8 511 (some 52) (.slice a17 (tot (zhA k)-0) (tot (zhA k)-0)) (zl (Instr.sliceAt 24 (.slice a1 (tot (zhA k)) c1) none (some (vI (tot (zhA k)))) (some (vI (tot (zhA k))))) (fun w' hC=>hR1 _)) (zk hT1551 [(9,53,(vP bj6 1))] 1 1023 (zh hT1551 10 2047 (some 54) (.slice a2 (tot (zhA k2)) c2) (zl (Instr.loadAt 24 (vP bj6 1)) (fun w' hC=>zo (((((hJ6.ext hEw63)).ext hEw64).ext hC).cell rfl))) (zn 11 4095 (zi (some 55) (zwZ _ hS1 (((hM2.ext hEw63)).ext hEw64) (by first | omega | decide) (by first | omega | decide) (fun hh=>hp3 ((show ((zaa (zf2 p (zhA k)) (zfK s (tot (zhA k)))).drop 0).take (tot (zhA k)-0)=(zaa (zf2 p (zhA k)) (zfK s (tot (zhA k)))) from List.take_of_length_le (by rw [List.length_drop,zge,hLn];omega)).symm.trans hh))) ?_))))
 rintro _ w65 ⟨rfl,hEw65⟩
 have hzw65:=hEw65.size
 refine ⟨.inr hEw65, ?_⟩
 refine zk (hw:=hEw65) hT1551 [(12,56,vF),(13,57,vF),(14,58,(vP bj5 1))] 3 32767 (zh (hw:=hEw65) hT1551 15 65535 (some 59) (.slice a1 (tot (zhA k)) c1) (zl (Instr.loadAt 24 (vP bj5 1)) (fun w' hC=>zo (((((hJ5.ext hEw63)).ext hEw64).ext hC).cell rfl))) (zk (hw:=hEw65) hT1551 [(16,60,(vI (tot (zhA k)-1)))] 1 131071 ?_))
 obtain ⟨b1,o1,rfl⟩:=hM1.addr (by omega) (by decide)
 refine zh (hw:=hEw65) hT1551 17 262143 (some 61) (vP b1 (o1+(tot (zhA k)-1)*274)) (zl (Instr.indexAt 24 (.slice (pA b1 o1) (tot (zhA k)) c1) (vI (tot (zhA k)-1))) (fun w' hC=>zap (E:=47) (sz:=274) (by omega))) (zh (hw:=hEw65) hT1551 18 524287 (some 62) (vA (zK ((zaa (zf2 p (zhA k)) (zfK s (tot (zhA k)))).getD (tot (zhA k)-1) Nod.zero))) (zl (Instr.loadAt 47 (vP b1 (o1+(tot (zhA k)-1)*274))) (fun w' hC=>zD (vs:=zK ((zaa (zf2 p (zhA k)) (zfK s (tot (zhA k)))).getD (tot (zhA k)-1) Nod.zero)) (((((hM1.ext hEw63)).ext hEw64).ext hC).at Nod.zero (by omega)) (by rw [zW];kernel_rfl))) (zk (hw:=hEw65) hT1551 [(20,64,(vP bj6 1))] 1 1572863 (zh (hw:=hEw65) hT1551 21 3670015 (some 65) (.slice a2 (tot (zhA k2)) c2) (zl (Instr.loadAt 24 (vP bj6 1)) (fun w' hC=>zo (((((hJ6.ext hEw63)).ext hEw64).ext hC).cell rfl))) (zk (hw:=hEw65) hT1551 [(22,66,(vI (tot (zhA k)-1)))] 1 7864319 ?_))))
 obtain ⟨b2,o2,rfl⟩:=hM2.addr (by omega) (by decide)
 refine zh (hw:=hEw65) hT1551 23 16252927 (some 67) (vP b2 (o2+(tot (zhA k)-1)*274)) (zl (Instr.indexAt 24 (.slice (pA b2 o2) (tot (zhA k2)) c2) (vI (tot (zhA k)-1))) (fun w' hC=>zap (E:=47) (sz:=274) (by omega))) (zh (hw:=hEw65) hT1551 24 33030143 (some 68) (vA (zK ((zaa (zf2 p2 (zhA k2)) (zfK s2 (tot (zhA k2)))).getD (tot (zhA k)-1) Nod.zero))) (zl (Instr.loadAt 47 (vP b2 (o2+(tot (zhA k)-1)*274))) (fun w' hC=>zD (vs:=zK ((zaa (zf2 p2 (zhA k2)) (zfK s2 (tot (zhA k2)))).getD (tot (zhA k)-1) Nod.zero)) (((((hM2.ext hEw63)).ext hEw64).ext hC).at Nod.zero (by omega)) (by rw [zW];kernel_rfl))) (zn 19 33554431 (zi (some 63) (zhm ((zaa (zf2 p (zhA k)) (zfK s (tot (zhA k)))).getD (tot (zhA k)-1) Nod.zero) _) ?_)))
 rintro _ w66 ⟨rfl,hEw66⟩
 have hzw66:=hEw66.size
 have hX56:Ext w64 w66:=(hEw65.trans hEw66)
 refine ⟨.inr hX56, ?_⟩
 refine zn 25 67108863 (zi (some 69) (zhm ((zaa (zf2 p2 (zhA k2)) (zfK s2 (tot (zhA k2)))).getD (tot (zhA k)-1) Nod.zero) _) ?_)
 rintro _ w67 ⟨rfl,hEw67⟩
 have hzw67:=hEw67.size
 have hX57:Ext w64 w67:=((hEw65.trans hEw66).trans hEw67)
 refine ⟨.inr hX57, ?_⟩
 refine zh (hw:=hX57) hT1551 26 134217727 (some 70) vT (zl (bo .neq 23 (.tmp 63) (.tmp 69) (vA (zw (zN (zM ((zaa (zf2 p (zhA k)) (zfK s (tot (zhA k)))).getD (tot (zhA k)-1) Nod.zero))))) (vA (zw (zN (zM ((zaa (zf2 p2 (zhA k2)) (zfK s2 (tot (zhA k2)))).getD (tot (zhA k)-1) Nod.zero)))))) (fun w' hC=>zav (r:=false) (T:=23) ((zbj (dd:=9998) (t:=23) (e:=5) (zN (zM ((zaa (zf2 p (zhA k)) (zfK s (tot (zhA k)))).getD (tot (zhA k)-1) Nod.zero))) (zN (zM ((zaa (zf2 p2 (zhA k2)) (zfK s2 (tot (zhA k2)))).getD (tot (zhA k)-1) Nod.zero)))).trans (congrArg (fun b=>Result.ok b _) (show ((zN (zM ((zaa (zf2 p (zhA k)) (zfK s (tot (zhA k)))).getD (tot (zhA k)-1) Nod.zero))).l==(zN (zM ((zaa (zf2 p2 (zhA k2)) (zfK s2 (tot (zhA k2)))).getD (tot (zhA k)-1) Nod.zero))).l)=false from Bool.eq_false_iff.2 (fun hh=>hp4 (by rw [hl1,hl2];exact beq_iff_eq.1 hh))))))) (zk (hw:=hX57) hT1551 [(27,71,vT)] 1 268435455 (zJ (zc (zF (zf (ze (zd 7 [(78,(vI 0)),(77,(.slice none 0 0)),(76,(vI 0)),(75,(.slice none 0 0)),(74,vT),(73,vT),(72,(vI 11))] (zb (zv (some 79) .i64 (IntKind.i64.wrap (((0:Nat):Int)+((0:Nat):Int))) 0 (zG (by omega) (by omega) (by omega)) ?_)))))))))
 refine zd 3 [(82,vT),(81,vT),(80,vT)] ?_
 have hK73:=(((((((((hK69.ext hEw63)).ext hEw64)).ext hEw65)).ext hEw66)).ext hEw67)
 have hK74:=(((((((((hK70.ext hEw63)).ext hEw64)).ext hEw65)).ext hEw66)).ext hEw67)
 have hK75:=(((((((((hK71.ext hEw63)).ext hEw64)).ext hEw65)).ext hEw66)).ext hEw67)
 have hK76:=(((((((((hK72.ext hEw63)).ext hEw64)).ext hEw65)).ext hEw66)).ext hEw67)
 refine zb (zi (some 83) (zmt _ hK73 hK74 hK75 hK76) ?_)
 rintro _ w68 ⟨rfl,hEw68⟩
 have hzw68:=hEw68.size
 refine zd 2 [(4,vT),(84,vT)] (zg (zc (zx (zu (zB vT ?_)))))
 have hX58:Ext w w68:=((((((((hEw1.trans hEw2).trans hEj).trans hEw63).trans hEw64).trans hEw65).trans hEw66).trans hEw67).trans hEw68)
 exact ⟨rfl,hX58⟩
set_option maxHeartbeats 4000000 in
theorem zw6 (k:Nat) {lo_p hi_p:Nat} {a_p:Option Addr} {n_p c_p:Nat} {p:List (UInt8×UInt8)} {lo_s hi_s:Nat} {a_s:Option Addr} {n_s c_s:Nat} {s:List UInt8} (k2:Nat) {lo_p2 hi_p2:Nat} {a_p2:Option Addr} {n_p2 c_p2:Nat} {p2:List (UInt8×UInt8)} {lo_s2 hi_s2:Nat} {a_s2:Option Addr} {n_s2 c_s2:Nat} {s2:List UInt8} (l0 j0:Nat) (w:World) (h_p:Ms b2C 2 lo_p hi_p w a_p n_p c_p p) (h_s:Bs lo_s hi_s w a_s n_s c_s s) (h_p2:Ms b2C 2 lo_p2 hi_p2 w a_p2 n_p2 c_p2 p2) (h_s2:Bs lo_s2 hi_s2 w a_s2 n_s2 c_s2 s2) (hp0:k<256) (hp1:k2<256) (hp2:(zhA k)=(zhA k2)) (hp3:(zaa (zf2 p (zhA k)) (zfK s (tot (zhA k))))≠(zaa (zf2 p2 (zhA k2)) (zfK s2 (tot (zhA k2))))) (hp4:(zN (zM ((zaa (zf2 p (zhA k)) (zfK s (tot (zhA k)))).getD (num (zhA k) (hgt (zhA k))) Nod.zero))).l=(zN (zM ((zaa (zf2 p2 (zhA k2)) (zfK s2 (tot (zhA k2)))).getD (num (zhA k2) (hgt (zhA k2))) Nod.zero))).l) (hp5:l0≤hgt (zhA k)) (hp6:j0<cnt (zhA k) l0) (hp7:((zaa (zf2 p (zhA k)) (zfK s (tot (zhA k)))).getD (num (zhA k) l0+j0) Nod.zero)≠((zaa (zf2 p2 (zhA k2)) (zfK s2 (tot (zhA k2)))).getD (num (zhA k) l0+j0) Nod.zero)) (hp8:∀a,l0<a→a≤hgt (zhA k)→∀b,b<cnt (zhA k) a→ndA (zhA k) (zaa (zf2 p (zhA k)) (zfK s (tot (zhA k)))) a b=ndA (zhA k) (zaa (zf2 p2 (zhA k2)) (zfK s2 (tot (zhA k2)))) a b) (hp9:∀b,b<j0→ndA (zhA k) (zaa (zf2 p (zhA k)) (zfK s (tot (zhA k)))) l0 b=ndA (zhA k) (zaa (zf2 p2 (zhA k2)) (zfK s2 (tot (zhA k2)))) l0 b) (hp10:zar ((zaa (zf2 p (zhA k)) (zfK s (tot (zhA k)))).getD (num (zhA k) l0+j0) Nod.zero)=0) (hp11:zar ((zaa (zf2 p2 (zhA k2)) (zfK s2 (tot (zhA k2)))).getD (num (zhA k) l0+j0) Nod.zero)=0) (hp12:(zN (zM ((zaa (zf2 p (zhA k)) (zfK s (tot (zhA k)))).getD (num (zhA k) l0+j0) Nod.zero))).l=(zN (zM ((zaa (zf2 p2 (zhA k2)) (zfK s2 (tot (zhA k2)))).getD (num (zhA k) l0+j0) Nod.zero))).l) (hg0:Gl 0 [vI 45,vI 33] w) (hg1:Gl 2 (w8C za2) w) (hg2:Gl 3 (zR kA) w) (hg3:Gl 1 [.iface 199 (.agg #[.pointer (some ⟨4,99,none⟩)])] w):
  Calls Tryz.prog 9 #[(vA [(vB k),(.slice a_p n_p c_p),(.slice a_s n_s c_s)]),(vA [(vB k2),(.slice a_p2 n_p2 c_p2),(.slice a_s2 n_s2 c_s2)])] w (Ret fun r w'=>r=vT∧Ext w w'):=by
 refine zL (n:=96) (σ:= [(0,(vA [(vB k),(.slice a_p n_p c_p),(.slice a_s n_s c_s)])),(1,(vA [(vB k2),(.slice a_p2 n_p2 c_p2),(.slice a_s2 n_s2 c_s2)]))]) Tryz.func9 rfl ?_
 replace h_p:=h_p.now;have hle_p:=h_p.le
 replace h_s:=h_s.now;have hle_s:=h_s.le
 replace h_p2:=h_p2.now;have hle_p2:=h_p2.le
 replace h_s2:=h_s2.now;have hle_s2:=h_s2.le
 have hgl0:=hg0.lt
 have hgl1:=hg1.lt
 have hgl2:=hg2.lt
 have hgl3:=hg3.lt
 have hbk:=znA k
 have hOK:=zvi p s k
 have hLn:=zfI p (zhA k)
 have hts:=zbN (n:=zhA k) (by omega)
 have htp:=zfo (n:=zhA k) (by omega) (by omega)
 have hsb:∀i,(zfK s (tot (zhA k))).getD i 0≤1099511627776:=fun i=>Nat.le_trans (zps _ _ i) (by decide)
 have hok:=zuN hOK hLn
 have h5:=zaz (zhA k)
 have hlp:=h_p.len_eq;have hls:=h_s.len_eq
 have hbkq:=znA k2
 have hOKq:=zvi p2 s2 k2
 have hLnq:=zfI p2 (zhA k2)
 have htsq:=zbN (n:=zhA k2) (by omega)
 have htpq:=zfo (n:=zhA k2) (by omega) (by omega)
 have hsbq:∀i,(zfK s2 (tot (zhA k2))).getD i 0≤1099511627776:=fun i=>Nat.le_trans (zps _ _ i) (by decide)
 have hokq:=zuN hOKq hLnq
 have h5q:=zaz (zhA k2)
 have hlpq:=h_p2.len_eq;have hlsq:=h_s2.len_eq
 have htt:tot (zhA k)=tot (zhA k2):=by rw [hp2]
 have hl1:num (zhA k) (hgt (zhA k))=tot (zhA k)-1:=by omega
 have hl2:num (zhA k2) (hgt (zhA k2))=tot (zhA k)-1:=by omega
 refine zf (ze (zb (zt (some 2) (Instr.box 59 (vA [(vB k),(.slice a_p n_p c_p),(.slice a_s n_s c_s)])) (vP w.heap.size 0) ([(vB k),(.slice a_p n_p c_p),(.slice a_s n_s c_s)]) 59 ?_)))
 intro w1 hBw1 hEw1
 have hzw1:=hEw1.size;have hlw1:=hBw1.lt
 refine zb (zt (some 3) (Instr.box 59 (vA [(vB k2),(.slice a_p2 n_p2 c_p2),(.slice a_s2 n_s2 c_s2)])) (vP w1.heap.size 0) ([(vB k2),(.slice a_p2 n_p2 c_p2),(.slice a_s2 n_s2 c_s2)]) 59 ?_)
 intro w2 hBw2 hEw2
 have hzw2:=hEw2.size;have hlw2:=hBw2.lt
 refine zd 1 [(4,vF)] (zg (zc (zsP (X:=Nat×Nat×Option Addr×Nat×Option Addr×Nat) (fun ⟨bj5,bj6,a1,c1,a2,c2⟩=> [(5,(vP bj5 0)),(6,(vP bj6 0))]) [11,12,13,14] (fun ⟨bj5,bj6,a1,c1,a2,c2⟩ w3=>Blk w3 bj5 ([(vI (zhA k)),(.slice a1 (tot (zhA k)) c1)]) 50∧Blk w3 bj6 ([(vI (zhA k2)),(.slice a2 (tot (zhA k2)) c2)]) 50∧Ms zK 274 w2.heap.size w3.heap.size w3 a1 (tot (zhA k)) c1 (zaa (zf2 p (zhA k)) (zfK s (tot (zhA k))))∧Ms zK 274 w2.heap.size w3.heap.size w3 a2 (tot (zhA k2)) c2 (zaa (zf2 p2 (zhA k2)) (zfK s2 (tot (zhA k2))))∧w2.heap.size≤bj5∧w2.heap.size≤bj6∧Ext w2 w3) ?_ ?_)))
 ·refine zag (Ext w2.drew) 8 [(12,4,0),(13,2048,1),(14,8,0),(15,8192,6),(6,0,0),(7,0,0),(0,4128,59),(0,16448,127)] (fun hT1578=> ?_)
  have hEw4:Ext w2 w2.drew:=Ext.drew w2
  generalize w2.drew=w4 at hEw4⊢
  have hzw4:=hEw4.size
  refine zh hT1578 0 1 (some 11) (vA [(vB k),(.slice a_p n_p c_p),(.slice a_s n_s c_s)]) (zl (Instr.loadAt 59 (vP w.heap.size 0)) (fun w' hC=>zD (vs:= [(vB k),(.slice a_p n_p c_p),(.slice a_s n_s c_s)]) (((((hBw1.ext hEw2)).ext hEw4).ext hC).all))) (zh hT1578 2 5 (some 13) (vA [(vB k2),(.slice a_p2 n_p2 c_p2),(.slice a_s2 n_s2 c_s2)]) (zl (Instr.loadAt 59 (vP w1.heap.size 0)) (fun w' hC=>zD (vs:= [(vB k2),(.slice a_p2 n_p2 c_p2),(.slice a_s2 n_s2 c_s2)]) (((hBw2.ext hEw4).ext hC).all))) (zeq 1 4 5 7 21 37 ?_ ?_ ?_))
  ·have hK1:=(((((h_p.ext hEw1)).ext hEw2)).ext hEw4)
   have hK2:=(((((h_s.ext hEw1)).ext hEw2)).ext hEw4)
   refine zi (some 12) (zwS k _ hK1 hK2 (by omega)) ?_
   rintro _ w5 ⟨a1,ca1,rfl,hFz1_0,hEw5⟩
   have hzw5:=hEw5.size
   have hma1:=hFz1_0.ms;have hlea1:=hma1.le
   refine ⟨.inr hEw5, ?_⟩
   refine zeq 3 4 5 15 23 39 ?_ ?_ ?_
   ·have hK3:=(((((((h_p2.ext hEw1)).ext hEw2)).ext hEw4)).ext hEw5)
    have hK4:=(((((((h_s2.ext hEw1)).ext hEw2)).ext hEw4)).ext hEw5)
    refine zi (some 14) (zwS k2 _ hK3 hK4 (by omega)) ?_
    rintro _ w6 ⟨a2,ca2,rfl,hFz2_0,hEw6⟩
    have hzw6:=hEw6.size
    have hma2:=hFz2_0.ms;have hlea2:=hma2.le
    have hX1:Ext w4 w6:=(hEw5.trans hEw6)
    refine ⟨.inr hX1, ?_⟩
    refine zay 4 5 31 47 ?_ ?_
    ·refine zt (some 5) (Instr.alloc 50 true (.tuple #[])) (vP w6.heap.size 0) ([(vI 0),(.slice none 0 0)]) 50 ?_
     intro w7 hBw7 hEw7
     have hzw7:=hEw7.size;have hlw7:=hBw7.lt
     have hX2:Ext w4 w7:=((hEw5.trans hEw6).trans hEw7)
     refine ⟨.inr hX2, ?_⟩
     refine zn 5 63 (zt (some 6) (Instr.alloc 50 true (.tuple #[])) (vP w7.heap.size 0) ([(vI 0),(.slice none 0 0)]) 50 ?_)
     intro w8 hBw8 hEw8
     have hzw8:=hEw8.size;have hlw8:=hBw8.lt
     have hX3:Ext w4 w8:=(((hEw5.trans hEw6).trans hEw7).trans hEw8)
     refine ⟨.inr hX3, ?_⟩
     refine zn 6 127 (zz 50 w6.heap.size 0 50 (vA [(vI (zhA k)),(.slice a1 (tot (zhA k)) ca1)]) ([(vI 0),(.slice none 0 0)]) ([(vI (zhA k)),(.slice a1 (tot (zhA k)) ca1)]) (hBw7.ext hEw8) (by kernel_rfl) (by first | decide |(simp;done)|(simp;omega)) (by simp [Value.oneCell']) ?_)
     intro w9 hBw9 hCw9
     have hzw9:=hCw9.size
     rw [zm _ _ (by kernel_rfl)] at hBw9
     have hX4:Ext w4 w9:=(Ext.own hX3 hCw9 (by omega))
     refine ⟨.inr hX4, ?_⟩
     refine zn 7 255 (zz 50 w7.heap.size 0 50 (vA [(vI (zhA k2)),(.slice a2 (tot (zhA k2)) ca2)]) ([(vI 0),(.slice none 0 0)]) ([(vI (zhA k2)),(.slice a2 (tot (zhA k2)) ca2)]) ((hBw8).chg hCw9 (fun hs=>by have h:_=_:=hs;omega)) (by kernel_rfl) (by first | decide |(simp;done)|(simp;omega)) (by simp [Value.oneCell']) ?_)
     intro w10 hBw10 hCw10
     have hzw10:=hCw10.size
     rw [zm _ _ (by kernel_rfl)] at hBw10
     refine ⟨.inl (by kernel_rfl), ?_⟩
     refine zJ (zC ?_)
     have hK5:=(((((((((hma1.ext hEw6)).ext hEw7)).ext hEw8)).chg hCw9 (fun k h1 h2 hs=>by have h:k=_:=hs;omega))).chg hCw10 (fun k h1 h2 hs=>by have h:k=_:=hs;omega))
     have hK6:=(((((((hma2.ext hEw7)).ext hEw8)).chg hCw9 (fun k h1 h2 hs=>by have h:k=_:=hs;omega))).chg hCw10 (fun k h1 h2 hs=>by have h:k=_:=hs;omega))
     have hX5:Ext w2 w10:=(Ext.own (Ext.own (hEw4.trans hX3) hCw9 (by omega)) hCw10 (by omega))
     exact zuP (w6.heap.size,w7.heap.size,a1,ca1,a2,ca2) (⟨((hBw9).chg hCw10 (fun hs=>by have h:_=_:=hs;omega)),hBw10,(hK5).now.mono (by omega) (Nat.le_refl _),(hK6).now.mono (by omega) (Nat.le_refl _),by omega,by omega,hX5⟩)
    ·refine zt (some 6) (Instr.alloc 50 true (.tuple #[])) (vP w6.heap.size 0) ([(vI 0),(.slice none 0 0)]) 50 ?_
     intro w11 hBw11 hEw11
     have hzw11:=hEw11.size;have hlw11:=hBw11.lt
     have hX6:Ext w4 w11:=((hEw5.trans hEw6).trans hEw11)
     refine ⟨.inr hX6, ?_⟩
     refine zn 4 63 (zt (some 5) (Instr.alloc 50 true (.tuple #[])) (vP w11.heap.size 0) ([(vI 0),(.slice none 0 0)]) 50 ?_)
     intro w12 hBw12 hEw12
     have hzw12:=hEw12.size;have hlw12:=hBw12.lt
     have hX7:Ext w4 w12:=(((hEw5.trans hEw6).trans hEw11).trans hEw12)
     refine ⟨.inr hX7, ?_⟩
     refine zn 6 127 (zz 50 w11.heap.size 0 50 (vA [(vI (zhA k)),(.slice a1 (tot (zhA k)) ca1)]) ([(vI 0),(.slice none 0 0)]) ([(vI (zhA k)),(.slice a1 (tot (zhA k)) ca1)]) hBw12 (by kernel_rfl) (by first | decide |(simp;done)|(simp;omega)) (by simp [Value.oneCell']) ?_)
     intro w13 hBw13 hCw13
     have hzw13:=hCw13.size
     rw [zm _ _ (by kernel_rfl)] at hBw13
     have hX8:Ext w4 w13:=(Ext.own hX7 hCw13 (by omega))
     refine ⟨.inr hX8, ?_⟩
     refine zn 7 255 (zz 50 w6.heap.size 0 50 (vA [(vI (zhA k2)),(.slice a2 (tot (zhA k2)) ca2)]) ([(vI 0),(.slice none 0 0)]) ([(vI (zhA k2)),(.slice a2 (tot (zhA k2)) ca2)]) (((hBw11.ext hEw12)).chg hCw13 (fun hs=>by have h:_=_:=hs;omega)) (by kernel_rfl) (by first | decide |(simp;done)|(simp;omega)) (by simp [Value.oneCell']) ?_)
     intro w14 hBw14 hCw14
     have hzw14:=hCw14.size
     rw [zm _ _ (by kernel_rfl)] at hBw14
     refine ⟨.inl (by kernel_rfl), ?_⟩
     refine zJ (zC ?_)
     have hK7:=(((((((((hma1.ext hEw6)).ext hEw11)).ext hEw12)).chg hCw13 (fun k h1 h2 hs=>by have h:k=_:=hs;omega))).chg hCw14 (fun k h1 h2 hs=>by have h:k=_:=hs;omega))
     have hK8:=(((((((hma2.ext hEw11)).ext hEw12)).chg hCw13 (fun k h1 h2 hs=>by have h:k=_:=hs;omega))).chg hCw14 (fun k h1 h2 hs=>by have h:k=_:=hs;omega))
     have hX9:Ext w2 w14:=(Ext.own (Ext.own (hEw4.trans hX7) hCw13 (by omega)) hCw14 (by omega))
     exact zuP (w11.heap.size,w6.heap.size,a1,ca1,a2,ca2) (⟨((hBw13).chg hCw14 (fun hs=>by have h:_=_:=hs;omega)),hBw14,(hK7).now.mono (by omega) (Nat.le_refl _),(hK8).now.mono (by omega) (Nat.le_refl _),by omega,by omega,hX9⟩)
   ·refine zt (some 5) (Instr.alloc 50 true (.tuple #[])) (vP w5.heap.size 0) ([(vI 0),(.slice none 0 0)]) 50 ?_
    intro w15 hBw15 hEw15
    have hzw15:=hEw15.size;have hlw15:=hBw15.lt
    have hX10:Ext w4 w15:=(hEw5.trans hEw15)
    refine ⟨.inr hX10, ?_⟩
    refine zay 3 5 31 55 ?_ ?_
    ·have hK9:=(((((((((h_p2.ext hEw1)).ext hEw2)).ext hEw4)).ext hEw5)).ext hEw15)
     have hK10:=(((((((((h_s2.ext hEw1)).ext hEw2)).ext hEw4)).ext hEw5)).ext hEw15)
     refine zi (some 14) (zwS k2 _ hK9 hK10 (by omega)) ?_
     rintro _ w16 ⟨a3,ca3,rfl,hFz3_0,hEw16⟩
     have hzw16:=hEw16.size
     have hma3:=hFz3_0.ms;have hlea3:=hma3.le
     have hX11:Ext w4 w16:=((hEw5.trans hEw15).trans hEw16)
     refine ⟨.inr hX11, ?_⟩
     refine zn 5 63 (zt (some 6) (Instr.alloc 50 true (.tuple #[])) (vP w16.heap.size 0) ([(vI 0),(.slice none 0 0)]) 50 ?_)
     intro w17 hBw17 hEw17
     have hzw17:=hEw17.size;have hlw17:=hBw17.lt
     have hX12:Ext w4 w17:=(((hEw5.trans hEw15).trans hEw16).trans hEw17)
     refine ⟨.inr hX12, ?_⟩
     refine zn 6 127 (zz 50 w5.heap.size 0 50 (vA [(vI (zhA k)),(.slice a1 (tot (zhA k)) ca1)]) ([(vI 0),(.slice none 0 0)]) ([(vI (zhA k)),(.slice a1 (tot (zhA k)) ca1)]) (((hBw15.ext hEw16)).ext hEw17) (by kernel_rfl) (by first | decide |(simp;done)|(simp;omega)) (by simp [Value.oneCell']) ?_)
     intro w18 hBw18 hCw18
     have hzw18:=hCw18.size
     rw [zm _ _ (by kernel_rfl)] at hBw18
     have hX13:Ext w4 w18:=(Ext.own hX12 hCw18 (by omega))
     refine ⟨.inr hX13, ?_⟩
     refine zn 7 255 (zz 50 w16.heap.size 0 50 (vA [(vI (zhA k2)),(.slice a3 (tot (zhA k2)) ca3)]) ([(vI 0),(.slice none 0 0)]) ([(vI (zhA k2)),(.slice a3 (tot (zhA k2)) ca3)]) ((hBw17).chg hCw18 (fun hs=>by have h:_=_:=hs;omega)) (by kernel_rfl) (by first | decide |(simp;done)|(simp;omega)) (by simp [Value.oneCell']) ?_)
     intro w19 hBw19 hCw19
     have hzw19:=hCw19.size
     rw [zm _ _ (by kernel_rfl)] at hBw19
     refine ⟨.inl (by kernel_rfl), ?_⟩
     refine zJ (zC ?_)
     have hK11:=(((((((((hma1.ext hEw15)).ext hEw16)).ext hEw17)).chg hCw18 (fun k h1 h2 hs=>by have h:k=_:=hs;omega))).chg hCw19 (fun k h1 h2 hs=>by have h:k=_:=hs;omega))
     have hK12:=(((((hma3.ext hEw17)).chg hCw18 (fun k h1 h2 hs=>by have h:k=_:=hs;omega))).chg hCw19 (fun k h1 h2 hs=>by have h:k=_:=hs;omega))
     have hX14:Ext w2 w19:=(Ext.own (Ext.own (hEw4.trans hX12) hCw18 (by omega)) hCw19 (by omega))
     exact zuP (w5.heap.size,w16.heap.size,a1,ca1,a3,ca3) (⟨((hBw18).chg hCw19 (fun hs=>by have h:_=_:=hs;omega)),hBw19,(hK11).now.mono (by omega) (Nat.le_refl _),(hK12).now.mono (by omega) (Nat.le_refl _),by omega,by omega,hX14⟩)
    ·refine zt (some 6) (Instr.alloc 50 true (.tuple #[])) (vP w15.heap.size 0) ([(vI 0),(.slice none 0 0)]) 50 ?_
     intro w20 hBw20 hEw20
     have hzw20:=hEw20.size;have hlw20:=hBw20.lt
     have hX15:Ext w4 w20:=((hEw5.trans hEw15).trans hEw20)
     refine ⟨.inr hX15, ?_⟩
     have hK13:=(((((((((((h_p2.ext hEw1)).ext hEw2)).ext hEw4)).ext hEw5)).ext hEw15)).ext hEw20)
     have hK14:=(((((((((((h_s2.ext hEw1)).ext hEw2)).ext hEw4)).ext hEw5)).ext hEw15)).ext hEw20)
     refine zn 3 63 (zi (some 14) (zwS k2 _ hK13 hK14 (by omega)) ?_)
     rintro _ w21 ⟨a4,ca4,rfl,hFz4_0,hEw21⟩
     have hzw21:=hEw21.size
     have hma4:=hFz4_0.ms;have hlea4:=hma4.le
     have hX16:Ext w4 w21:=(((hEw5.trans hEw15).trans hEw20).trans hEw21)
     refine ⟨.inr hX16, ?_⟩
     refine zn 6 127 (zz 50 w5.heap.size 0 50 (vA [(vI (zhA k)),(.slice a1 (tot (zhA k)) ca1)]) ([(vI 0),(.slice none 0 0)]) ([(vI (zhA k)),(.slice a1 (tot (zhA k)) ca1)]) (((hBw15.ext hEw20)).ext hEw21) (by kernel_rfl) (by first | decide |(simp;done)|(simp;omega)) (by simp [Value.oneCell']) ?_)
     intro w22 hBw22 hCw22
     have hzw22:=hCw22.size
     rw [zm _ _ (by kernel_rfl)] at hBw22
     have hX17:Ext w4 w22:=(Ext.own hX16 hCw22 (by omega))
     refine ⟨.inr hX17, ?_⟩
     refine zn 7 255 (zz 50 w15.heap.size 0 50 (vA [(vI (zhA k2)),(.slice a4 (tot (zhA k2)) ca4)]) ([(vI 0),(.slice none 0 0)]) ([(vI (zhA k2)),(.slice a4 (tot (zhA k2)) ca4)]) (((hBw20.ext hEw21)).chg hCw22 (fun hs=>by have h:_=_:=hs;omega)) (by kernel_rfl) (by first | decide |(simp;done)|(simp;omega)) (by simp [Value.oneCell']) ?_)
     intro w23 hBw23 hCw23
     have hzw23:=hCw23.size
     rw [zm _ _ (by kernel_rfl)] at hBw23
     refine ⟨.inl (by kernel_rfl), ?_⟩
     refine zJ (zC ?_)
     have hK15:=(((((((((hma1.ext hEw15)).ext hEw20)).ext hEw21)).chg hCw22 (fun k h1 h2 hs=>by have h:k=_:=hs;omega))).chg hCw23 (fun k h1 h2 hs=>by have h:k=_:=hs;omega))
     have hX18:Ext w2 w23:=(Ext.own (Ext.own (hEw4.trans hX16) hCw22 (by omega)) hCw23 (by omega))
     exact zuP (w5.heap.size,w15.heap.size,a1,ca1,a4,ca4) (⟨((hBw22).chg hCw23 (fun hs=>by have h:_=_:=hs;omega)),hBw23,(hK15).now.mono (by omega) (Nat.le_refl _),(((((hma4).chg hCw22 (fun k h1 h2 hs=>by have h:k=_:=hs;omega))).chg hCw23 (fun k h1 h2 hs=>by have h:k=_:=hs;omega))).now.mono (by omega) (Nat.le_refl _),by omega,by omega,hX18⟩)
   ·refine zt (some 6) (Instr.alloc 50 true (.tuple #[])) (vP w5.heap.size 0) ([(vI 0),(.slice none 0 0)]) 50 ?_
    intro w24 hBw24 hEw24
    have hzw24:=hEw24.size;have hlw24:=hBw24.lt
    have hX19:Ext w4 w24:=(hEw5.trans hEw24)
    refine ⟨.inr hX19, ?_⟩
    refine zay 3 4 47 55 ?_ ?_
    ·have hK16:=(((((((((h_p2.ext hEw1)).ext hEw2)).ext hEw4)).ext hEw5)).ext hEw24)
     have hK17:=(((((((((h_s2.ext hEw1)).ext hEw2)).ext hEw4)).ext hEw5)).ext hEw24)
     refine zi (some 14) (zwS k2 _ hK16 hK17 (by omega)) ?_
     rintro _ w25 ⟨a5,ca5,rfl,hFz5_0,hEw25⟩
     have hzw25:=hEw25.size
     have hma5:=hFz5_0.ms;have hlea5:=hma5.le
     have hX20:Ext w4 w25:=((hEw5.trans hEw24).trans hEw25)
     refine ⟨.inr hX20, ?_⟩
     refine zn 4 63 (zt (some 5) (Instr.alloc 50 true (.tuple #[])) (vP w25.heap.size 0) ([(vI 0),(.slice none 0 0)]) 50 ?_)
     intro w26 hBw26 hEw26
     have hzw26:=hEw26.size;have hlw26:=hBw26.lt
     have hX21:Ext w4 w26:=(((hEw5.trans hEw24).trans hEw25).trans hEw26)
     refine ⟨.inr hX21, ?_⟩
     refine zn 6 127 (zz 50 w25.heap.size 0 50 (vA [(vI (zhA k)),(.slice a1 (tot (zhA k)) ca1)]) ([(vI 0),(.slice none 0 0)]) ([(vI (zhA k)),(.slice a1 (tot (zhA k)) ca1)]) hBw26 (by kernel_rfl) (by first | decide |(simp;done)|(simp;omega)) (by simp [Value.oneCell']) ?_)
     intro w27 hBw27 hCw27
     have hzw27:=hCw27.size
     rw [zm _ _ (by kernel_rfl)] at hBw27
     have hX22:Ext w4 w27:=(Ext.own hX21 hCw27 (by omega))
     refine ⟨.inr hX22, ?_⟩
     have hK18:=(((((hBw24.ext hEw25)).ext hEw26)).chg hCw27 (fun hs=>by have h:_=_:=hs;omega))
     refine zn 7 255 (zz 50 w5.heap.size 0 50 (vA [(vI (zhA k2)),(.slice a5 (tot (zhA k2)) ca5)]) ([(vI 0),(.slice none 0 0)]) ([(vI (zhA k2)),(.slice a5 (tot (zhA k2)) ca5)]) hK18 (by kernel_rfl) (by first | decide |(simp;done)|(simp;omega)) (by simp [Value.oneCell']) ?_)
     have hK19:=(((((hBw24.ext hEw25)).ext hEw26)).chg hCw27 (fun hs=>by have h:_=_:=hs;omega))
     intro w28 hBw28 hCw28
     have hzw28:=hCw28.size
     rw [zm _ _ (by kernel_rfl)] at hBw28
     refine ⟨.inl (by kernel_rfl), ?_⟩
     refine zJ (zC ?_)
     have hK20:=(((((((((hma1.ext hEw24)).ext hEw25)).ext hEw26)).chg hCw27 (fun k h1 h2 hs=>by have h:k=_:=hs;omega))).chg hCw28 (fun k h1 h2 hs=>by have h:k=_:=hs;omega))
     have hK21:=(((((hma5.ext hEw26)).chg hCw27 (fun k h1 h2 hs=>by have h:k=_:=hs;omega))).chg hCw28 (fun k h1 h2 hs=>by have h:k=_:=hs;omega))
     have hX23:Ext w2 w28:=(Ext.own (Ext.own (hEw4.trans hX21) hCw27 (by omega)) hCw28 (by omega))
     exact zuP (w25.heap.size,w5.heap.size,a1,ca1,a5,ca5) (⟨((hBw27).chg hCw28 (fun hs=>by have h:_=_:=hs;omega)),hBw28,(hK20).now.mono (by omega) (Nat.le_refl _),(hK21).now.mono (by omega) (Nat.le_refl _),by omega,by omega,hX23⟩)
    ·refine zt (some 5) (Instr.alloc 50 true (.tuple #[])) (vP w24.heap.size 0) ([(vI 0),(.slice none 0 0)]) 50 ?_
     intro w29 hBw29 hEw29
     have hzw29:=hEw29.size;have hlw29:=hBw29.lt
     have hX24:Ext w4 w29:=((hEw5.trans hEw24).trans hEw29)
     refine ⟨.inr hX24, ?_⟩
     have hK22:=(((((((((((h_p2.ext hEw1)).ext hEw2)).ext hEw4)).ext hEw5)).ext hEw24)).ext hEw29)
     have hK23:=(((((((((((h_s2.ext hEw1)).ext hEw2)).ext hEw4)).ext hEw5)).ext hEw24)).ext hEw29)
     refine zn 3 63 (zi (some 14) (zwS k2 _ hK22 hK23 (by omega)) ?_)
     rintro _ w30 ⟨a6,ca6,rfl,hFz6_0,hEw30⟩
     have hzw30:=hEw30.size
     have hma6:=hFz6_0.ms;have hlea6:=hma6.le
     have hX25:Ext w4 w30:=(((hEw5.trans hEw24).trans hEw29).trans hEw30)
     refine ⟨.inr hX25, ?_⟩
     refine zn 6 127 (zz 50 w24.heap.size 0 50 (vA [(vI (zhA k)),(.slice a1 (tot (zhA k)) ca1)]) ([(vI 0),(.slice none 0 0)]) ([(vI (zhA k)),(.slice a1 (tot (zhA k)) ca1)]) (hBw29.ext hEw30) (by kernel_rfl) (by first | decide |(simp;done)|(simp;omega)) (by simp [Value.oneCell']) ?_)
     intro w31 hBw31 hCw31
     have hzw31:=hCw31.size
     rw [zm _ _ (by kernel_rfl)] at hBw31
     have hX26:Ext w4 w31:=(Ext.own hX25 hCw31 (by omega))
     refine ⟨.inr hX26, ?_⟩
     have hK24:=(((((hBw24.ext hEw29)).ext hEw30)).chg hCw31 (fun hs=>by have h:_=_:=hs;omega))
     refine zn 7 255 (zz 50 w5.heap.size 0 50 (vA [(vI (zhA k2)),(.slice a6 (tot (zhA k2)) ca6)]) ([(vI 0),(.slice none 0 0)]) ([(vI (zhA k2)),(.slice a6 (tot (zhA k2)) ca6)]) hK24 (by kernel_rfl) (by first | decide |(simp;done)|(simp;omega)) (by simp [Value.oneCell']) ?_)
     have hK25:=(((((hBw24.ext hEw29)).ext hEw30)).chg hCw31 (fun hs=>by have h:_=_:=hs;omega))
     intro w32 hBw32 hCw32
     have hzw32:=hCw32.size
     rw [zm _ _ (by kernel_rfl)] at hBw32
     refine ⟨.inl (by kernel_rfl), ?_⟩
     refine zJ (zC ?_)
     have hK26:=(((((((((hma1.ext hEw24)).ext hEw29)).ext hEw30)).chg hCw31 (fun k h1 h2 hs=>by have h:k=_:=hs;omega))).chg hCw32 (fun k h1 h2 hs=>by have h:k=_:=hs;omega))
     have hX27:Ext w2 w32:=(Ext.own (Ext.own (hEw4.trans hX25) hCw31 (by omega)) hCw32 (by omega))
     exact zuP (w24.heap.size,w5.heap.size,a1,ca1,a6,ca6) (⟨((hBw31).chg hCw32 (fun hs=>by have h:_=_:=hs;omega)),hBw32,(hK26).now.mono (by omega) (Nat.le_refl _),(((((hma6).chg hCw31 (fun k h1 h2 hs=>by have h:k=_:=hs;omega))).chg hCw32 (fun k h1 h2 hs=>by have h:k=_:=hs;omega))).now.mono (by omega) (Nat.le_refl _),by omega,by omega,hX27⟩)
  ·refine zt (some 5) (Instr.alloc 50 true (.tuple #[])) (vP w4.heap.size 0) ([(vI 0),(.slice none 0 0)]) 50 ?_
   intro w33 hBw33 hEw33
   have hzw33:=hEw33.size;have hlw33:=hBw33.lt
   refine ⟨.inr hEw33, ?_⟩
   refine zay 1 5 23 53 ?_ ?_
   ·have hK27:=(((((((h_p.ext hEw1)).ext hEw2)).ext hEw4)).ext hEw33)
    have hK28:=(((((((h_s.ext hEw1)).ext hEw2)).ext hEw4)).ext hEw33)
    refine zi (some 12) (zwS k _ hK27 hK28 (by omega)) ?_
    rintro _ w34 ⟨a7,ca7,rfl,hFz7_0,hEw34⟩
    have hzw34:=hEw34.size
    have hma7:=hFz7_0.ms;have hlea7:=hma7.le
    have hX28:Ext w4 w34:=(hEw33.trans hEw34)
    refine ⟨.inr hX28, ?_⟩
    refine zay 3 5 31 55 ?_ ?_
    ·have hK29:=(((((((((h_p2.ext hEw1)).ext hEw2)).ext hEw4)).ext hEw33)).ext hEw34)
     have hK30:=(((((((((h_s2.ext hEw1)).ext hEw2)).ext hEw4)).ext hEw33)).ext hEw34)
     refine zi (some 14) (zwS k2 _ hK29 hK30 (by omega)) ?_
     rintro _ w35 ⟨a8,ca8,rfl,hFz8_0,hEw35⟩
     have hzw35:=hEw35.size
     have hma8:=hFz8_0.ms;have hlea8:=hma8.le
     have hX29:Ext w4 w35:=((hEw33.trans hEw34).trans hEw35)
     refine ⟨.inr hX29, ?_⟩
     refine zn 5 63 (zt (some 6) (Instr.alloc 50 true (.tuple #[])) (vP w35.heap.size 0) ([(vI 0),(.slice none 0 0)]) 50 ?_)
     intro w36 hBw36 hEw36
     have hzw36:=hEw36.size;have hlw36:=hBw36.lt
     have hX30:Ext w4 w36:=(((hEw33.trans hEw34).trans hEw35).trans hEw36)
     refine ⟨.inr hX30, ?_⟩
     have hK31:=(((((hBw33.ext hEw34)).ext hEw35)).ext hEw36)
     refine zn 6 127 (zz 50 w4.heap.size 0 50 (vA [(vI (zhA k)),(.slice a7 (tot (zhA k)) ca7)]) ([(vI 0),(.slice none 0 0)]) ([(vI (zhA k)),(.slice a7 (tot (zhA k)) ca7)]) hK31 (by kernel_rfl) (by first | decide |(simp;done)|(simp;omega)) (by simp [Value.oneCell']) ?_)
     have hK32:=(((((hBw33.ext hEw34)).ext hEw35)).ext hEw36)
     intro w37 hBw37 hCw37
     have hzw37:=hCw37.size
     rw [zm _ _ (by kernel_rfl)] at hBw37
     have hX31:Ext w4 w37:=(Ext.own hX30 hCw37 (by omega))
     refine ⟨.inr hX31, ?_⟩
     refine zn 7 255 (zz 50 w35.heap.size 0 50 (vA [(vI (zhA k2)),(.slice a8 (tot (zhA k2)) ca8)]) ([(vI 0),(.slice none 0 0)]) ([(vI (zhA k2)),(.slice a8 (tot (zhA k2)) ca8)]) ((hBw36).chg hCw37 (fun hs=>by have h:_=_:=hs;omega)) (by kernel_rfl) (by first | decide |(simp;done)|(simp;omega)) (by simp [Value.oneCell']) ?_)
     intro w38 hBw38 hCw38
     have hzw38:=hCw38.size
     rw [zm _ _ (by kernel_rfl)] at hBw38
     refine ⟨.inl (by kernel_rfl), ?_⟩
     refine zJ (zC ?_)
     have hK33:=(((((((hma7.ext hEw35)).ext hEw36)).chg hCw37 (fun k h1 h2 hs=>by have h:k=_:=hs;omega))).chg hCw38 (fun k h1 h2 hs=>by have h:k=_:=hs;omega))
     have hK34:=(((((hma8.ext hEw36)).chg hCw37 (fun k h1 h2 hs=>by have h:k=_:=hs;omega))).chg hCw38 (fun k h1 h2 hs=>by have h:k=_:=hs;omega))
     have hX32:Ext w2 w38:=(Ext.own (Ext.own (hEw4.trans hX30) hCw37 (by omega)) hCw38 (by omega))
     exact zuP (w4.heap.size,w35.heap.size,a7,ca7,a8,ca8) (⟨((hBw37).chg hCw38 (fun hs=>by have h:_=_:=hs;omega)),hBw38,(hK33).now.mono (by omega) (Nat.le_refl _),(hK34).now.mono (by omega) (Nat.le_refl _),by omega,by omega,hX32⟩)
    ·refine zt (some 6) (Instr.alloc 50 true (.tuple #[])) (vP w34.heap.size 0) ([(vI 0),(.slice none 0 0)]) 50 ?_
     intro w39 hBw39 hEw39
     have hzw39:=hEw39.size;have hlw39:=hBw39.lt
     have hX33:Ext w4 w39:=((hEw33.trans hEw34).trans hEw39)
     refine ⟨.inr hX33, ?_⟩
     have hK35:=(((((((((((h_p2.ext hEw1)).ext hEw2)).ext hEw4)).ext hEw33)).ext hEw34)).ext hEw39)
     have hK36:=(((((((((((h_s2.ext hEw1)).ext hEw2)).ext hEw4)).ext hEw33)).ext hEw34)).ext hEw39)
     refine zn 3 63 (zi (some 14) (zwS k2 _ hK35 hK36 (by omega)) ?_)
     rintro _ w40 ⟨a9,ca9,rfl,hFz9_0,hEw40⟩
     have hzw40:=hEw40.size
     have hma9:=hFz9_0.ms;have hlea9:=hma9.le
     have hX34:Ext w4 w40:=(((hEw33.trans hEw34).trans hEw39).trans hEw40)
     refine ⟨.inr hX34, ?_⟩
     have hK37:=(((((hBw33.ext hEw34)).ext hEw39)).ext hEw40)
     refine zn 6 127 (zz 50 w4.heap.size 0 50 (vA [(vI (zhA k)),(.slice a7 (tot (zhA k)) ca7)]) ([(vI 0),(.slice none 0 0)]) ([(vI (zhA k)),(.slice a7 (tot (zhA k)) ca7)]) hK37 (by kernel_rfl) (by first | decide |(simp;done)|(simp;omega)) (by simp [Value.oneCell']) ?_)
     have hK38:=(((((hBw33.ext hEw34)).ext hEw39)).ext hEw40)
     intro w41 hBw41 hCw41
     have hzw41:=hCw41.size
     rw [zm _ _ (by kernel_rfl)] at hBw41
     have hX35:Ext w4 w41:=(Ext.own hX34 hCw41 (by omega))
     refine ⟨.inr hX35, ?_⟩
     refine zn 7 255 (zz 50 w34.heap.size 0 50 (vA [(vI (zhA k2)),(.slice a9 (tot (zhA k2)) ca9)]) ([(vI 0),(.slice none 0 0)]) ([(vI (zhA k2)),(.slice a9 (tot (zhA k2)) ca9)]) (((hBw39.ext hEw40)).chg hCw41 (fun hs=>by have h:_=_:=hs;omega)) (by kernel_rfl) (by first | decide |(simp;done)|(simp;omega)) (by simp [Value.oneCell']) ?_)
     intro w42 hBw42 hCw42
     have hzw42:=hCw42.size
     rw [zm _ _ (by kernel_rfl)] at hBw42
     refine ⟨.inl (by kernel_rfl), ?_⟩
     refine zJ (zC ?_)
     have hK39:=(((((((hma7.ext hEw39)).ext hEw40)).chg hCw41 (fun k h1 h2 hs=>by have h:k=_:=hs;omega))).chg hCw42 (fun k h1 h2 hs=>by have h:k=_:=hs;omega))
     have hX36:Ext w2 w42:=(Ext.own (Ext.own (hEw4.trans hX34) hCw41 (by omega)) hCw42 (by omega))
     exact zuP (w4.heap.size,w34.heap.size,a7,ca7,a9,ca9) (⟨((hBw41).chg hCw42 (fun hs=>by have h:_=_:=hs;omega)),hBw42,(hK39).now.mono (by omega) (Nat.le_refl _),(((((hma9).chg hCw41 (fun k h1 h2 hs=>by have h:k=_:=hs;omega))).chg hCw42 (fun k h1 h2 hs=>by have h:k=_:=hs;omega))).now.mono (by omega) (Nat.le_refl _),by omega,by omega,hX36⟩)
   ·refine zt (some 6) (Instr.alloc 50 true (.tuple #[])) (vP w33.heap.size 0) ([(vI 0),(.slice none 0 0)]) 50 ?_
    intro w43 hBw43 hEw43
    have hzw43:=hEw43.size;have hlw43:=hBw43.lt
    have hX37:Ext w4 w43:=(hEw33.trans hEw43)
    refine ⟨.inr hX37, ?_⟩
    have hK40:=(((((((((h_p.ext hEw1)).ext hEw2)).ext hEw4)).ext hEw33)).ext hEw43)
    have hK41:=(((((((((h_s.ext hEw1)).ext hEw2)).ext hEw4)).ext hEw33)).ext hEw43)
    refine zn 1 55 (zi (some 12) (zwS k _ hK40 hK41 (by omega)) ?_)
    rintro _ w44 ⟨a10,ca10,rfl,hFz10_0,hEw44⟩
    have hzw44:=hEw44.size
    have hma10:=hFz10_0.ms;have hlea10:=hma10.le
    have hX38:Ext w4 w44:=((hEw33.trans hEw43).trans hEw44)
    refine ⟨.inr hX38, ?_⟩
    have hK42:=(((((((((((h_p2.ext hEw1)).ext hEw2)).ext hEw4)).ext hEw33)).ext hEw43)).ext hEw44)
    have hK43:=(((((((((((h_s2.ext hEw1)).ext hEw2)).ext hEw4)).ext hEw33)).ext hEw43)).ext hEw44)
    refine zn 3 63 (zi (some 14) (zwS k2 _ hK42 hK43 (by omega)) ?_)
    rintro _ w45 ⟨a11,ca11,rfl,hFz11_0,hEw45⟩
    have hzw45:=hEw45.size
    have hma11:=hFz11_0.ms;have hlea11:=hma11.le
    have hX39:Ext w4 w45:=(((hEw33.trans hEw43).trans hEw44).trans hEw45)
    refine ⟨.inr hX39, ?_⟩
    have hK44:=(((((hBw33.ext hEw43)).ext hEw44)).ext hEw45)
    refine zn 6 127 (zz 50 w4.heap.size 0 50 (vA [(vI (zhA k)),(.slice a10 (tot (zhA k)) ca10)]) ([(vI 0),(.slice none 0 0)]) ([(vI (zhA k)),(.slice a10 (tot (zhA k)) ca10)]) hK44 (by kernel_rfl) (by first | decide |(simp;done)|(simp;omega)) (by simp [Value.oneCell']) ?_)
    have hK45:=(((((hBw33.ext hEw43)).ext hEw44)).ext hEw45)
    intro w46 hBw46 hCw46
    have hzw46:=hCw46.size
    rw [zm _ _ (by kernel_rfl)] at hBw46
    have hX40:Ext w4 w46:=(Ext.own hX39 hCw46 (by omega))
    refine ⟨.inr hX40, ?_⟩
    have hK46:=(((((hBw43.ext hEw44)).ext hEw45)).chg hCw46 (fun hs=>by have h:_=_:=hs;omega))
    refine zn 7 255 (zz 50 w33.heap.size 0 50 (vA [(vI (zhA k2)),(.slice a11 (tot (zhA k2)) ca11)]) ([(vI 0),(.slice none 0 0)]) ([(vI (zhA k2)),(.slice a11 (tot (zhA k2)) ca11)]) hK46 (by kernel_rfl) (by first | decide |(simp;done)|(simp;omega)) (by simp [Value.oneCell']) ?_)
    have hK47:=(((((hBw43.ext hEw44)).ext hEw45)).chg hCw46 (fun hs=>by have h:_=_:=hs;omega))
    intro w47 hBw47 hCw47
    have hzw47:=hCw47.size
    rw [zm _ _ (by kernel_rfl)] at hBw47
    refine ⟨.inl (by kernel_rfl), ?_⟩
    refine zJ (zC ?_)
    have hK48:=(((((hma10.ext hEw45)).chg hCw46 (fun k h1 h2 hs=>by have h:k=_:=hs;omega))).chg hCw47 (fun k h1 h2 hs=>by have h:k=_:=hs;omega))
    have hX41:Ext w2 w47:=(Ext.own (Ext.own (hEw4.trans hX39) hCw46 (by omega)) hCw47 (by omega))
    exact zuP (w4.heap.size,w33.heap.size,a10,ca10,a11,ca11) (⟨((hBw46).chg hCw47 (fun hs=>by have h:_=_:=hs;omega)),hBw47,(hK48).now.mono (by omega) (Nat.le_refl _),(((((hma11).chg hCw46 (fun k h1 h2 hs=>by have h:k=_:=hs;omega))).chg hCw47 (fun k h1 h2 hs=>by have h:k=_:=hs;omega))).now.mono (by omega) (Nat.le_refl _),by omega,by omega,hX41⟩)
  ·refine zt (some 6) (Instr.alloc 50 true (.tuple #[])) (vP w4.heap.size 0) ([(vI 0),(.slice none 0 0)]) 50 ?_
   intro w48 hBw48 hEw48
   have hzw48:=hEw48.size;have hlw48:=hBw48.lt
   refine ⟨.inr hEw48, ?_⟩
   refine zay 1 4 39 53 ?_ ?_
   ·have hK49:=(((((((h_p.ext hEw1)).ext hEw2)).ext hEw4)).ext hEw48)
    have hK50:=(((((((h_s.ext hEw1)).ext hEw2)).ext hEw4)).ext hEw48)
    refine zi (some 12) (zwS k _ hK49 hK50 (by omega)) ?_
    rintro _ w49 ⟨a12,ca12,rfl,hFz12_0,hEw49⟩
    have hzw49:=hEw49.size
    have hma12:=hFz12_0.ms;have hlea12:=hma12.le
    have hX42:Ext w4 w49:=(hEw48.trans hEw49)
    refine ⟨.inr hX42, ?_⟩
    refine zay 3 4 47 55 ?_ ?_
    ·have hK51:=(((((((((h_p2.ext hEw1)).ext hEw2)).ext hEw4)).ext hEw48)).ext hEw49)
     have hK52:=(((((((((h_s2.ext hEw1)).ext hEw2)).ext hEw4)).ext hEw48)).ext hEw49)
     refine zi (some 14) (zwS k2 _ hK51 hK52 (by omega)) ?_
     rintro _ w50 ⟨a13,ca13,rfl,hFz13_0,hEw50⟩
     have hzw50:=hEw50.size
     have hma13:=hFz13_0.ms;have hlea13:=hma13.le
     have hX43:Ext w4 w50:=((hEw48.trans hEw49).trans hEw50)
     refine ⟨.inr hX43, ?_⟩
     refine zn 4 63 (zt (some 5) (Instr.alloc 50 true (.tuple #[])) (vP w50.heap.size 0) ([(vI 0),(.slice none 0 0)]) 50 ?_)
     intro w51 hBw51 hEw51
     have hzw51:=hEw51.size;have hlw51:=hBw51.lt
     have hX44:Ext w4 w51:=(((hEw48.trans hEw49).trans hEw50).trans hEw51)
     refine ⟨.inr hX44, ?_⟩
     refine zn 6 127 (zz 50 w50.heap.size 0 50 (vA [(vI (zhA k)),(.slice a12 (tot (zhA k)) ca12)]) ([(vI 0),(.slice none 0 0)]) ([(vI (zhA k)),(.slice a12 (tot (zhA k)) ca12)]) hBw51 (by kernel_rfl) (by first | decide |(simp;done)|(simp;omega)) (by simp [Value.oneCell']) ?_)
     intro w52 hBw52 hCw52
     have hzw52:=hCw52.size
     rw [zm _ _ (by kernel_rfl)] at hBw52
     have hX45:Ext w4 w52:=(Ext.own hX44 hCw52 (by omega))
     refine ⟨.inr hX45, ?_⟩
     have hK53:=(((((((hBw48.ext hEw49)).ext hEw50)).ext hEw51)).chg hCw52 (fun hs=>by have h:_=_:=hs;omega))
     refine zn 7 255 (zz 50 w4.heap.size 0 50 (vA [(vI (zhA k2)),(.slice a13 (tot (zhA k2)) ca13)]) ([(vI 0),(.slice none 0 0)]) ([(vI (zhA k2)),(.slice a13 (tot (zhA k2)) ca13)]) hK53 (by kernel_rfl) (by first | decide |(simp;done)|(simp;omega)) (by simp [Value.oneCell']) ?_)
     have hK54:=(((((((hBw48.ext hEw49)).ext hEw50)).ext hEw51)).chg hCw52 (fun hs=>by have h:_=_:=hs;omega))
     intro w53 hBw53 hCw53
     have hzw53:=hCw53.size
     rw [zm _ _ (by kernel_rfl)] at hBw53
     refine ⟨.inl (by kernel_rfl), ?_⟩
     refine zJ (zC ?_)
     have hK55:=(((((((hma12.ext hEw50)).ext hEw51)).chg hCw52 (fun k h1 h2 hs=>by have h:k=_:=hs;omega))).chg hCw53 (fun k h1 h2 hs=>by have h:k=_:=hs;omega))
     have hK56:=(((((hma13.ext hEw51)).chg hCw52 (fun k h1 h2 hs=>by have h:k=_:=hs;omega))).chg hCw53 (fun k h1 h2 hs=>by have h:k=_:=hs;omega))
     have hX46:Ext w2 w53:=(Ext.own (Ext.own (hEw4.trans hX44) hCw52 (by omega)) hCw53 (by omega))
     exact zuP (w50.heap.size,w4.heap.size,a12,ca12,a13,ca13) (⟨((hBw52).chg hCw53 (fun hs=>by have h:_=_:=hs;omega)),hBw53,(hK55).now.mono (by omega) (Nat.le_refl _),(hK56).now.mono (by omega) (Nat.le_refl _),by omega,by omega,hX46⟩)
    ·refine zt (some 5) (Instr.alloc 50 true (.tuple #[])) (vP w49.heap.size 0) ([(vI 0),(.slice none 0 0)]) 50 ?_
     intro w54 hBw54 hEw54
     have hzw54:=hEw54.size;have hlw54:=hBw54.lt
     have hX47:Ext w4 w54:=((hEw48.trans hEw49).trans hEw54)
     refine ⟨.inr hX47, ?_⟩
     have hK57:=(((((((((((h_p2.ext hEw1)).ext hEw2)).ext hEw4)).ext hEw48)).ext hEw49)).ext hEw54)
     have hK58:=(((((((((((h_s2.ext hEw1)).ext hEw2)).ext hEw4)).ext hEw48)).ext hEw49)).ext hEw54)
     refine zn 3 63 (zi (some 14) (zwS k2 _ hK57 hK58 (by omega)) ?_)
     rintro _ w55 ⟨a14,ca14,rfl,hFz14_0,hEw55⟩
     have hzw55:=hEw55.size
     have hma14:=hFz14_0.ms;have hlea14:=hma14.le
     have hX48:Ext w4 w55:=(((hEw48.trans hEw49).trans hEw54).trans hEw55)
     refine ⟨.inr hX48, ?_⟩
     refine zn 6 127 (zz 50 w49.heap.size 0 50 (vA [(vI (zhA k)),(.slice a12 (tot (zhA k)) ca12)]) ([(vI 0),(.slice none 0 0)]) ([(vI (zhA k)),(.slice a12 (tot (zhA k)) ca12)]) (hBw54.ext hEw55) (by kernel_rfl) (by first | decide |(simp;done)|(simp;omega)) (by simp [Value.oneCell']) ?_)
     intro w56 hBw56 hCw56
     have hzw56:=hCw56.size
     rw [zm _ _ (by kernel_rfl)] at hBw56
     have hX49:Ext w4 w56:=(Ext.own hX48 hCw56 (by omega))
     refine ⟨.inr hX49, ?_⟩
     have hK59:=(((((((hBw48.ext hEw49)).ext hEw54)).ext hEw55)).chg hCw56 (fun hs=>by have h:_=_:=hs;omega))
     refine zn 7 255 (zz 50 w4.heap.size 0 50 (vA [(vI (zhA k2)),(.slice a14 (tot (zhA k2)) ca14)]) ([(vI 0),(.slice none 0 0)]) ([(vI (zhA k2)),(.slice a14 (tot (zhA k2)) ca14)]) hK59 (by kernel_rfl) (by first | decide |(simp;done)|(simp;omega)) (by simp [Value.oneCell']) ?_)
     have hK60:=(((((((hBw48.ext hEw49)).ext hEw54)).ext hEw55)).chg hCw56 (fun hs=>by have h:_=_:=hs;omega))
     intro w57 hBw57 hCw57
     have hzw57:=hCw57.size
     rw [zm _ _ (by kernel_rfl)] at hBw57
     refine ⟨.inl (by kernel_rfl), ?_⟩
     refine zJ (zC ?_)
     have hK61:=(((((((hma12.ext hEw54)).ext hEw55)).chg hCw56 (fun k h1 h2 hs=>by have h:k=_:=hs;omega))).chg hCw57 (fun k h1 h2 hs=>by have h:k=_:=hs;omega))
     have hX50:Ext w2 w57:=(Ext.own (Ext.own (hEw4.trans hX48) hCw56 (by omega)) hCw57 (by omega))
     exact zuP (w49.heap.size,w4.heap.size,a12,ca12,a14,ca14) (⟨((hBw56).chg hCw57 (fun hs=>by have h:_=_:=hs;omega)),hBw57,(hK61).now.mono (by omega) (Nat.le_refl _),(((((hma14).chg hCw56 (fun k h1 h2 hs=>by have h:k=_:=hs;omega))).chg hCw57 (fun k h1 h2 hs=>by have h:k=_:=hs;omega))).now.mono (by omega) (Nat.le_refl _),by omega,by omega,hX50⟩)
   ·refine zt (some 5) (Instr.alloc 50 true (.tuple #[])) (vP w48.heap.size 0) ([(vI 0),(.slice none 0 0)]) 50 ?_
    intro w58 hBw58 hEw58
    have hzw58:=hEw58.size;have hlw58:=hBw58.lt
    have hX51:Ext w4 w58:=(hEw48.trans hEw58)
    refine ⟨.inr hX51, ?_⟩
    have hK62:=(((((((((h_p.ext hEw1)).ext hEw2)).ext hEw4)).ext hEw48)).ext hEw58)
    have hK63:=(((((((((h_s.ext hEw1)).ext hEw2)).ext hEw4)).ext hEw48)).ext hEw58)
    refine zn 1 55 (zi (some 12) (zwS k _ hK62 hK63 (by omega)) ?_)
    rintro _ w59 ⟨a15,ca15,rfl,hFz15_0,hEw59⟩
    have hzw59:=hEw59.size
    have hma15:=hFz15_0.ms;have hlea15:=hma15.le
    have hX52:Ext w4 w59:=((hEw48.trans hEw58).trans hEw59)
    refine ⟨.inr hX52, ?_⟩
    have hK64:=(((((((((((h_p2.ext hEw1)).ext hEw2)).ext hEw4)).ext hEw48)).ext hEw58)).ext hEw59)
    have hK65:=(((((((((((h_s2.ext hEw1)).ext hEw2)).ext hEw4)).ext hEw48)).ext hEw58)).ext hEw59)
    refine zn 3 63 (zi (some 14) (zwS k2 _ hK64 hK65 (by omega)) ?_)
    rintro _ w60 ⟨a16,ca16,rfl,hFz16_0,hEw60⟩
    have hzw60:=hEw60.size
    have hma16:=hFz16_0.ms;have hlea16:=hma16.le
    have hX53:Ext w4 w60:=(((hEw48.trans hEw58).trans hEw59).trans hEw60)
    refine ⟨.inr hX53, ?_⟩
    refine zn 6 127 (zz 50 w48.heap.size 0 50 (vA [(vI (zhA k)),(.slice a15 (tot (zhA k)) ca15)]) ([(vI 0),(.slice none 0 0)]) ([(vI (zhA k)),(.slice a15 (tot (zhA k)) ca15)]) (((hBw58.ext hEw59)).ext hEw60) (by kernel_rfl) (by first | decide |(simp;done)|(simp;omega)) (by simp [Value.oneCell']) ?_)
    intro w61 hBw61 hCw61
    have hzw61:=hCw61.size
    rw [zm _ _ (by kernel_rfl)] at hBw61
    have hX54:Ext w4 w61:=(Ext.own hX53 hCw61 (by omega))
    refine ⟨.inr hX54, ?_⟩
    have hK66:=(((((((hBw48.ext hEw58)).ext hEw59)).ext hEw60)).chg hCw61 (fun hs=>by have h:_=_:=hs;omega))
    refine zn 7 255 (zz 50 w4.heap.size 0 50 (vA [(vI (zhA k2)),(.slice a16 (tot (zhA k2)) ca16)]) ([(vI 0),(.slice none 0 0)]) ([(vI (zhA k2)),(.slice a16 (tot (zhA k2)) ca16)]) hK66 (by kernel_rfl) (by first | decide |(simp;done)|(simp;omega)) (by simp [Value.oneCell']) ?_)
    have hK67:=(((((((hBw48.ext hEw58)).ext hEw59)).ext hEw60)).chg hCw61 (fun hs=>by have h:_=_:=hs;omega))
    intro w62 hBw62 hCw62
    have hzw62:=hCw62.size
    rw [zm _ _ (by kernel_rfl)] at hBw62
    refine ⟨.inl (by kernel_rfl), ?_⟩
    refine zJ (zC ?_)
    have hK68:=(((((hma15.ext hEw60)).chg hCw61 (fun k h1 h2 hs=>by have h:k=_:=hs;omega))).chg hCw62 (fun k h1 h2 hs=>by have h:k=_:=hs;omega))
    have hX55:Ext w2 w62:=(Ext.own (Ext.own (hEw4.trans hX53) hCw61 (by omega)) hCw62 (by omega))
    exact zuP (w48.heap.size,w4.heap.size,a15,ca15,a16,ca16) (⟨((hBw61).chg hCw62 (fun hs=>by have h:_=_:=hs;omega)),hBw62,(hK68).now.mono (by omega) (Nat.le_refl _),(((((hma16).chg hCw61 (fun k h1 h2 hs=>by have h:k=_:=hs;omega))).chg hCw62 (fun k h1 h2 hs=>by have h:k=_:=hs;omega))).now.mono (by omega) (Nat.le_refl _),by omega,by omega,hX55⟩)
 rintro ⟨bj5,bj6,a1,c1,a2,c2⟩ dw3 w3 ⟨hJ5,hJ6,hM1,hM2,hJs5,hJs6,hEj⟩
 have hzj:=hEj.size
 have hJl5:=hJ5.lt;have hJl6:=hJ6.lt
 have hle1:=hM1.le;have hle2:=hM2.le
 refine zf (ze (zb (zj (some 16) (Instr.loadAt 50 (vP bj5 0)) (vA [(vI (zhA k)),(.slice a1 (tot (zhA k)) c1)]) (zD (vs:= [(vI (zhA k)),(.slice a1 (tot (zhA k)) c1)]) (hJ5.all)) ?_)))
 refine zb (zj (some 17) (Instr.loadAt 50 (vP bj6 0)) (vA [(vI (zhA k2)),(.slice a2 (tot (zhA k2)) c2)]) (zD (vs:= [(vI (zhA k2)),(.slice a2 (tot (zhA k2)) c2)]) (hJ6.all)) ?_)
 have hK69:=(((((hg0.ext hEw1)).ext hEw2)).ext hEj)
 have hK70:=(((((hg1.ext hEw1)).ext hEw2)).ext hEj)
 have hK71:=(((((hg2.ext hEw1)).ext hEw2)).ext hEj)
 have hK72:=(((((hg3.ext hEw1)).ext hEw2)).ext hEj)
 refine zb (zi (some 18) (zw2 (zhA k) (zhA k2) l0 j0 _ hM1 hM2 (by omega) (by omega) (by first | rfl | omega) (hok) (by omega) (by omega) (by first | rfl | omega) (hokq) (hp2) (hp4) (hp5) (hp6) (hp7) (hp8) (hp9) (hp10) (hp11) hK69 hK70 hK71 hK72) ?_)
 rintro _ w63 ⟨a17,a18,rfl,hFz17_0,hFz17_1,hFz17_2,hFz17_3,hFz17_4,hFz17_5,hFz17_6,hFz17_7,hEw63⟩
 have hzw63:=hEw63.size
 have hla17:=hFz17_1.lt;have hna17:=hFz17_3
 have hSa17:Bs a17 (a17+1) w63 (pA a17 0) (zbx ((zaa (zf2 p (zhA k)) (zfK s (tot (zhA k)))).getD (num (zhA k) l0+j0) Nod.zero)) (zbx ((zaa (zf2 p (zhA k)) (zfK s (tot (zhA k)))).getD (num (zhA k) l0+j0) Nod.zero)) (zM ((zaa (zf2 p (zhA k)) (zfK s (tot (zhA k)))).getD (num (zhA k) l0+j0) Nod.zero)):=Bs.of_blk hFz17_1 rfl hFz17_2 (Nat.le_refl _) (zbV hna17) (Nat.le_refl _) (Nat.lt_succ_self _)
 have hla18:=hFz17_5.lt;have hna18:=hFz17_7
 have hSa18:Bs a18 (a18+1) w63 (pA a18 0) (zbx ((zaa (zf2 p2 (zhA k2)) (zfK s2 (tot (zhA k2)))).getD (num (zhA k) l0+j0) Nod.zero)) (zbx ((zaa (zf2 p2 (zhA k2)) (zfK s2 (tot (zhA k2)))).getD (num (zhA k) l0+j0) Nod.zero)) (zM ((zaa (zf2 p2 (zhA k2)) (zfK s2 (tot (zhA k2)))).getD (num (zhA k) l0+j0) Nod.zero)):=Bs.of_blk hFz17_5 rfl hFz17_6 (Nat.le_refl _) (zbV hna18) (Nat.le_refl _) (Nat.lt_succ_self _)
 refine zd 7 [(9,(vI 0)),(8,(.slice (pA a18 0) (zbx ((zaa (zf2 p2 (zhA k2)) (zfK s2 (tot (zhA k2)))).getD (num (zhA k) l0+j0) Nod.zero)) (zbx ((zaa (zf2 p2 (zhA k2)) (zfK s2 (tot (zhA k2)))).getD (num (zhA k) l0+j0) Nod.zero)))),(7,(.slice (pA a17 0) (zbx ((zaa (zf2 p (zhA k)) (zfK s (tot (zhA k)))).getD (num (zhA k) l0+j0) Nod.zero)) (zbx ((zaa (zf2 p (zhA k)) (zfK s (tot (zhA k)))).getD (num (zhA k) l0+j0) Nod.zero)))),(21,(vI 0)),(20,(.slice (pA a18 0) (zbx ((zaa (zf2 p2 (zhA k2)) (zfK s2 (tot (zhA k2)))).getD (num (zhA k) l0+j0) Nod.zero)) (zbx ((zaa (zf2 p2 (zhA k2)) (zfK s2 (tot (zhA k2)))).getD (num (zhA k) l0+j0) Nod.zero)))),(19,(.slice (pA a17 0) (zbx ((zaa (zf2 p (zhA k)) (zfK s (tot (zhA k)))).getD (num (zhA k) l0+j0) Nod.zero)) (zbx ((zaa (zf2 p (zhA k)) (zfK s (tot (zhA k)))).getD (num (zhA k) l0+j0) Nod.zero)))),(15,(.tuple #[(.slice (pA a17 0) (zbx ((zaa (zf2 p (zhA k)) (zfK s (tot (zhA k)))).getD (num (zhA k) l0+j0) Nod.zero)) (zbx ((zaa (zf2 p (zhA k)) (zfK s (tot (zhA k)))).getD (num (zhA k) l0+j0) Nod.zero))),(.slice (pA a18 0) (zbx ((zaa (zf2 p2 (zhA k2)) (zfK s2 (tot (zhA k2)))).getD (num (zhA k) l0+j0) Nod.zero)) (zbx ((zaa (zf2 p2 (zhA k2)) (zfK s2 (tot (zhA k2)))).getD (num (zhA k) l0+j0) Nod.zero))),(vI 0)]))] (zg (zc (zf (zf (ze (zd 1 [(22,(vP bj5 0))] ?_))))))
 refine zb (zj (some 23) (Instr.loadAt 3 (vP bj5 0)) (vI (zhA k)) (zo ((hJ5.ext hEw63).cell rfl)) ?_)
 refine zd 1 [(24,(vP bj6 0))] (zb (zj (some 25) (Instr.loadAt 3 (vP bj6 0)) (vI (zhA k2)) (zo ((hJ6.ext hEw63).cell rfl)) ?_))
 refine zb (zat (some 26) (((zhA k:Nat):Int) !=((zhA k2:Nat):Int)) false (zaL (by omega)) ?_)
 refine zg (zc (zr (zy (zc (zf (ze (zd 1 [(40,(vP bj5 1))] (zb (zj (some 41) (Instr.loadAt 24 (vP bj5 1)) (.slice a1 (tot (zhA k)) c1) (zo ((hJ5.ext hEw63).cell rfl)) ?_)))))))))
 refine zd 1 [(42,(vI (tot (zhA k))))] (zb (zv (some 43) .i64 (IntKind.i64.wrap (((tot (zhA k):Nat):Int)-((1:Nat):Int))) (tot (zhA k)-1) (zG (by omega) (by omega) (by omega)) ?_))
 refine zd 1 [(10,(vI (tot (zhA k)-1)))] (zg (zc (zf (zf (zag (Ext w63.drew) 28 [(45,32,0),(46,17592186044416,1),(47,32,0),(48,70368744177664,4),(49,140737488355328,8),(50,32,0),(51,562949953421312,32),(52,1125899906842624,64),(53,2568459162484736,146),(54,64,0),(55,9007199254740992,512),(56,22517998136852480,1280),(57,36028797018963968,2048),(58,72057594037927936,6144),(59,144115188075855904,8192),(60,432345564227567616,24576),(61,144115188075856896,8192),(62,1873497444986126336,106496),(63,2449958197289549824,139264),(64,4755801206503243776,270336),(65,144115188075855936,8192),(66,18590859261785407488,1056768),(67,144115188075856896,8192),(68,110824579630333165568,6299648),(69,147718067777752268800,8396800),(70,295292020367428681728,17309696),(71,599663297583636283392,34086912),(72,1180735735905487159296,67117056)] (fun hT2082=> ?_))))))
 have hEw64:Ext w63 w63.drew:=Ext.drew w63
 generalize w63.drew=w64 at hEw64⊢
 have hzw64:=hEw64.size
 refine zk hT2082 [(0,44,(vP bj5 1))] 1 1 (zh hT2082 1 3 (some 45) (.slice a1 (tot (zhA k)) c1) (zl (Instr.loadAt 24 (vP bj5 1)) (fun w' hC=>zo (((((hJ5.ext hEw63)).ext hEw64).ext hC).cell rfl))) (zk hT2082 [(2,46,(vP bj5 1))] 1 7 (zh hT2082 3 15 (some 47) (.slice a1 (tot (zhA k)) c1) (zl (Instr.loadAt 24 (vP bj5 1)) (fun w' hC=>zo (((((hJ5.ext hEw63)).ext hEw64).ext hC).cell rfl))) (zk hT2082 [(4,48,(vI (tot (zhA k)))),(5,49,(vP bj5 1))] 2 63 (zh hT2082 6 127 (some 50) (.slice a1 (tot (zhA k)) c1) (zl (Instr.loadAt 24 (vP bj5 1)) (fun w' hC=>zo (((((hJ5.ext hEw63)).ext hEw64).ext hC).cell rfl))) (zk hT2082 [(7,51,(vI (tot (zhA k))))] 1 255 ?_))))))
 obtain ⟨a19,hR1,hS1⟩:=(((hM1.ext hEw63)).ext hEw64).slice Tryz.prog 24 47 0 (tot (zhA k)) (tot (zhA k)) none (some (vI (tot (zhA k)))) (some (vI (tot (zhA k))))
 refine zh hT2082 8 511 (some 52) (.slice a19 (tot (zhA k)-0) (tot (zhA k)-0)) (zl (Instr.sliceAt 24 (.slice a1 (tot (zhA k)) c1) none (some (vI (tot (zhA k)))) (some (vI (tot (zhA k))))) (fun w' hC=>hR1 _)) (zk hT2082 [(9,53,(vP bj6 1))] 1 1023 (zh hT2082 10 2047 (some 54) (.slice a2 (tot (zhA k2)) c2) (zl (Instr.loadAt 24 (vP bj6 1)) (fun w' hC=>zo (((((hJ6.ext hEw63)).ext hEw64).ext hC).cell rfl))) (zn 11 4095 (zi (some 55) (zwZ _ hS1 (((hM2.ext hEw63)).ext hEw64) (by first | omega | decide) (by first | omega | decide) (fun hh=>hp3 ((show ((zaa (zf2 p (zhA k)) (zfK s (tot (zhA k)))).drop 0).take (tot (zhA k)-0)=(zaa (zf2 p (zhA k)) (zfK s (tot (zhA k)))) from List.take_of_length_le (by rw [List.length_drop,zge,hLn];omega)).symm.trans hh))) ?_))))
 rintro _ w65 ⟨rfl,hEw65⟩
 have hzw65:=hEw65.size
 refine ⟨.inr hEw65, ?_⟩
 refine zk (hw:=hEw65) hT2082 [(12,56,vF),(13,57,vF),(14,58,(vP bj5 1))] 3 32767 (zh (hw:=hEw65) hT2082 15 65535 (some 59) (.slice a1 (tot (zhA k)) c1) (zl (Instr.loadAt 24 (vP bj5 1)) (fun w' hC=>zo (((((hJ5.ext hEw63)).ext hEw64).ext hC).cell rfl))) (zk (hw:=hEw65) hT2082 [(16,60,(vI (tot (zhA k)-1)))] 1 131071 ?_))
 obtain ⟨b1,o1,rfl⟩:=hM1.addr (by omega) (by decide)
 refine zh (hw:=hEw65) hT2082 17 262143 (some 61) (vP b1 (o1+(tot (zhA k)-1)*274)) (zl (Instr.indexAt 24 (.slice (pA b1 o1) (tot (zhA k)) c1) (vI (tot (zhA k)-1))) (fun w' hC=>zap (E:=47) (sz:=274) (by omega))) (zh (hw:=hEw65) hT2082 18 524287 (some 62) (vA (zK ((zaa (zf2 p (zhA k)) (zfK s (tot (zhA k)))).getD (tot (zhA k)-1) Nod.zero))) (zl (Instr.loadAt 47 (vP b1 (o1+(tot (zhA k)-1)*274))) (fun w' hC=>zD (vs:=zK ((zaa (zf2 p (zhA k)) (zfK s (tot (zhA k)))).getD (tot (zhA k)-1) Nod.zero)) (((((hM1.ext hEw63)).ext hEw64).ext hC).at Nod.zero (by omega)) (by rw [zW];kernel_rfl))) (zk (hw:=hEw65) hT2082 [(20,64,(vP bj6 1))] 1 1572863 (zh (hw:=hEw65) hT2082 21 3670015 (some 65) (.slice a2 (tot (zhA k2)) c2) (zl (Instr.loadAt 24 (vP bj6 1)) (fun w' hC=>zo (((((hJ6.ext hEw63)).ext hEw64).ext hC).cell rfl))) (zk (hw:=hEw65) hT2082 [(22,66,(vI (tot (zhA k)-1)))] 1 7864319 ?_))))
 obtain ⟨b2,o2,rfl⟩:=hM2.addr (by omega) (by decide)
 refine zh (hw:=hEw65) hT2082 23 16252927 (some 67) (vP b2 (o2+(tot (zhA k)-1)*274)) (zl (Instr.indexAt 24 (.slice (pA b2 o2) (tot (zhA k2)) c2) (vI (tot (zhA k)-1))) (fun w' hC=>zap (E:=47) (sz:=274) (by omega))) (zh (hw:=hEw65) hT2082 24 33030143 (some 68) (vA (zK ((zaa (zf2 p2 (zhA k2)) (zfK s2 (tot (zhA k2)))).getD (tot (zhA k)-1) Nod.zero))) (zl (Instr.loadAt 47 (vP b2 (o2+(tot (zhA k)-1)*274))) (fun w' hC=>zD (vs:=zK ((zaa (zf2 p2 (zhA k2)) (zfK s2 (tot (zhA k2)))).getD (tot (zhA k)-1) Nod.zero)) (((((hM2.ext hEw63)).ext hEw64).ext hC).at Nod.zero (by omega)) (by rw [zW];kernel_rfl))) (zn 19 33554431 (zi (some 63) (zhm ((zaa (zf2 p (zhA k)) (zfK s (tot (zhA k)))).getD (tot (zhA k)-1) Nod.zero) _) ?_)))
 rintro _ w66 ⟨rfl,hEw66⟩
 have hzw66:=hEw66.size
 have hX56:Ext w64 w66:=(hEw65.trans hEw66)
 refine ⟨.inr hX56, ?_⟩
 refine zn 25 67108863 (zi (some 69) (zhm ((zaa (zf2 p2 (zhA k2)) (zfK s2 (tot (zhA k2)))).getD (tot (zhA k)-1) Nod.zero) _) ?_)
 rintro _ w67 ⟨rfl,hEw67⟩
 have hzw67:=hEw67.size
 have hX57:Ext w64 w67:=((hEw65.trans hEw66).trans hEw67)
 refine ⟨.inr hX57, ?_⟩
 refine zh (hw:=hX57) hT2082 26 134217727 (some 70) vF (zl (bo .neq 23 (.tmp 63) (.tmp 69) (vA (zw (zN (zM ((zaa (zf2 p (zhA k)) (zfK s (tot (zhA k)))).getD (tot (zhA k)-1) Nod.zero))))) (vA (zw (zN (zM ((zaa (zf2 p2 (zhA k2)) (zfK s2 (tot (zhA k2)))).getD (tot (zhA k)-1) Nod.zero)))))) (fun w' hC=>zav (r:=true) (T:=23) ((zbj (dd:=9998) (t:=23) (e:=5) (zN (zM ((zaa (zf2 p (zhA k)) (zfK s (tot (zhA k)))).getD (tot (zhA k)-1) Nod.zero))) (zN (zM ((zaa (zf2 p2 (zhA k2)) (zfK s2 (tot (zhA k2)))).getD (tot (zhA k)-1) Nod.zero)))).trans (congrArg (fun b=>Result.ok b _) (show ((zN (zM ((zaa (zf2 p (zhA k)) (zfK s (tot (zhA k)))).getD (tot (zhA k)-1) Nod.zero))).l==(zN (zM ((zaa (zf2 p2 (zhA k2)) (zfK s2 (tot (zhA k2)))).getD (tot (zhA k)-1) Nod.zero))).l)=true from beq_iff_eq.2 (by rw [hl1,hl2] at hp4;exact hp4)))))) (zk (hw:=hX57) hT2082 [(27,71,vF)] 1 268435455 (zJ (zc (zr (zy (zc (zf (ze ?_))))))))
 refine zd 5 [(89,(.slice (pA a18 0) (zbx ((zaa (zf2 p2 (zhA k2)) (zfK s2 (tot (zhA k2)))).getD (num (zhA k) l0+j0) Nod.zero)) (zbx ((zaa (zf2 p2 (zhA k2)) (zfK s2 (tot (zhA k2)))).getD (num (zhA k) l0+j0) Nod.zero)))),(88,(.slice (pA a17 0) (zbx ((zaa (zf2 p (zhA k)) (zfK s (tot (zhA k)))).getD (num (zhA k) l0+j0) Nod.zero)) (zbx ((zaa (zf2 p (zhA k)) (zfK s (tot (zhA k)))).getD (num (zhA k) l0+j0) Nod.zero)))),(87,vT),(86,vT),(85,(vI 0))] ?_
 have hK73:=(((((((hSa17.ext hEw64)).ext hEw65)).ext hEw66)).ext hEw67)
 have hK74:=(((((((hSa18.ext hEw64)).ext hEw65)).ext hEw66)).ext hEw67)
 refine zb (zi (some 90) (zwB _ hK73 hK74 (fun hh=>hp7 (ztt hp10 hp11 hh)) (by unfold zbx;split<;>decide) (by unfold zbx;split<;>decide) (by unfold zbx;split<;>decide) (by unfold zbx;split<;>decide) (hp12)) ?_)
 rintro _ w68 ⟨rfl,hEw68⟩
 have hzw68:=hEw68.size
 refine zd 3 [(93,vT),(92,vT),(91,vT)] ?_
 have hK75:=(((((((((((hK69.ext hEw63)).ext hEw64)).ext hEw65)).ext hEw66)).ext hEw67)).ext hEw68)
 have hK76:=(((((((((((hK70.ext hEw63)).ext hEw64)).ext hEw65)).ext hEw66)).ext hEw67)).ext hEw68)
 have hK77:=(((((((((((hK71.ext hEw63)).ext hEw64)).ext hEw65)).ext hEw66)).ext hEw67)).ext hEw68)
 have hK78:=(((((((((((hK72.ext hEw63)).ext hEw64)).ext hEw65)).ext hEw66)).ext hEw67)).ext hEw68)
 refine zb (zi (some 94) (zmt _ hK75 hK76 hK77 hK78) ?_)
 rintro _ w69 ⟨rfl,hEw69⟩
 have hzw69:=hEw69.size
 refine zd 2 [(4,vT),(95,vT)] (zg (zc (zx (zB vT ?_))))
 have hX58:Ext w w69:=(((((((((hEw1.trans hEw2).trans hEj).trans hEw63).trans hEw64).trans hEw65).trans hEw66).trans hEw67).trans hEw68).trans hEw69)
 exact ⟨rfl,hX58⟩
theorem zwY (k:Nat) {lo_p hi_p:Nat} {a_p:Option Addr} {n_p c_p:Nat} {p:List (UInt8×UInt8)} {lo_s hi_s:Nat} {a_s:Option Addr} {n_s c_s:Nat} {s:List UInt8} (k2:Nat) {lo_p2 hi_p2:Nat} {a_p2:Option Addr} {n_p2 c_p2:Nat} {p2:List (UInt8×UInt8)} {lo_s2 hi_s2:Nat} {a_s2:Option Addr} {n_s2 c_s2:Nat} {s2:List UInt8} (w:World) (h_p:Ms b2C 2 lo_p hi_p w a_p n_p c_p p) (h_s:Bs lo_s hi_s w a_s n_s c_s s) (h_p2:Ms b2C 2 lo_p2 hi_p2 w a_p2 n_p2 c_p2 p2) (h_s2:Bs lo_s2 hi_s2 w a_s2 n_s2 c_s2 s2) (hp0:k<256) (hp1:k2<256) (hg0:Gl 0 [vI 45,vI 33] w) (hg1:Gl 2 (w8C za2) w) (hg2:Gl 3 (zR kA) w) (hg3:Gl 1 [.iface 199 (.agg #[.pointer (some ⟨4,99,none⟩)])] w):
  Calls Tryz.prog 9 #[(vA [(vB k),(.slice a_p n_p c_p),(.slice a_s n_s c_s)]),(vA [(vB k2),(.slice a_p2 n_p2 c_p2),(.slice a_s2 n_s2 c_s2)])] w (Ret fun r w'=>r=vT∧Ext w w'):=by
 have hbk:=znA k
 by_cases h1:(zhA k)=(zhA k2)
 ·by_cases h2:(zaa (zf2 p (zhA k)) (zfK s (tot (zhA k))))=(zaa (zf2 p2 (zhA k2)) (zfK s2 (tot (zhA k2))))
  ·exact zw4 k k2 w h_p h_s h_p2 h_s2 hp0 hp1 h1 h2 hg0 hg1 hg2 hg3
  ·by_cases h3:(zN (zM ((zaa (zf2 p (zhA k)) (zfK s (tot (zhA k)))).getD (num (zhA k) (hgt (zhA k))) Nod.zero))).l=(zN (zM ((zaa (zf2 p2 (zhA k2)) (zfK s2 (tot (zhA k2)))).getD (num (zhA k2) (hgt (zhA k2))) Nod.zero))).l
   ·have hOK:=zvi p s k;have hOKq:=zvi p2 s2 k2
    have hok:=zuN hOK (zfI p (zhA k));have hokq:=zuN hOKq (zfI p2 (zhA k2))
    have hoku:zbJ (zhA k) (zaa (zf2 p2 (zhA k2)) (zfK s2 (tot (zhA k2))))=0:=by have hz:=hokq;rw [←h1] at hz⊢;exact hz
    have hl1:(zaa (zf2 p (zhA k)) (zfK s (tot (zhA k)))).length=tot (zhA k):=by rw [zge,zfI]
    have hl2:(zaa (zf2 p2 (zhA k2)) (zfK s2 (tot (zhA k2)))).length=tot (zhA k):=by rw [zge,zfI,h1]
    obtain ⟨l0,j0,f1,f2,f3,f4,f5⟩:=zs8 hl1 hl2 h2
    have h3q:(zN (zM (ndA (zhA k) (zaa (zf2 p (zhA k)) (zfK s (tot (zhA k)))) (hgt (zhA k)) 0))).l=(zN (zM (ndA (zhA k) (zaa (zf2 p2 (zhA k2)) (zfK s2 (tot (zhA k2)))) (hgt (zhA k)) 0))).l:=by have hz:=h3;rw [←h1] at hz⊢;exact hz
    obtain ⟨e1,e2,e3⟩:=Cs.zuT (by omega) (by omega) hok hoku h3q f1 f2 f3 f4
    exact zw6 k k2 l0 j0 w h_p h_s h_p2 h_s2 hp0 hp1 h1 h2 h3 f1 f2 f3 f4 f5 e2 e3 e1 hg0 hg1 hg2 hg3
   ·exact zw5 k k2 w h_p h_s h_p2 h_s2 hp0 hp1 h1 h2 h3 hg0 hg1 hg2 hg3
 ·exact zw3 k k2 w h_p h_s h_p2 h_s2 hp0 hp1 h1 hg0 hg1 hg2 hg3
end Go.Proofs.YtgdpdnokcnhgnaaGreatDoor
namespace Go.Cs
open Go Go.ChangeShapes Go.WideShapes Go.ChangeAt Go.RowKit
section
variable {H:Type} {enc:TypeId×Value→H} {P:Program} {W:World} {base:Nat} {sp:Nat→Bool} {held:Bool}
def Rd (enc:TypeId×Value→H) (P:Program) (W:World) (base:Nat) (sp:Nat→Bool) (held:Bool) (t:TypeId) (cs:List Value):Prop:=∃fuel r,DataW.trod enc P W base sp held fuel t cs=some r
theorem zek {α β:Type} {f:α→Option β}:∀{xs:List α} {ys:List β},xs.mapM f=some ys→∀x∈xs,∃y,f x=some y
 | [],_,_,x,hx=>by simp at hx
 | a::xs,ys,h,x,hx=>by
  simp only [List.mapM_cons,Option.bind_eq_bind,Option.bind_eq_some_iff] at h
  obtain ⟨y,hy,zs,hz,_⟩:=h
  rcases List.mem_cons.1 hx with rfl | hx
  ·exact ⟨y,hy⟩
  ·exact zek hz x hx
theorem zcR {t:TypeId} {k:IntKind} {cs:List Value} (h:Rd enc P W base sp held t cs) (ht:P.underlying t=some (.int k)):∃n,cs= [.int k n]∧(Lit.int k n).wf=true:=by
 obtain ⟨fuel,r,hf⟩:=h
 obtain ⟨n,h1,_,h3⟩:=DataW.trod_int ht hf
 exact ⟨n,h1,h3⟩
theorem zbT {t:TypeId} {cs:List Value} {x:Bool×TypeId×Nat} {xs:List (Bool×TypeId×Nat)} (h:Rd enc P W base sp held t cs) (hF:zam P t=x::xs):
  cs.length=P.cellsOf t∧∀y∈x::xs,Rd enc P W base sp held y.2.1 ((cs.drop y.2.2).take (P.cellsOf y.2.1)):=by
 obtain ⟨fuel,r,hf⟩:=h
 have hu:=zca ⟨x,xs,hF⟩
 cases fuel with
 | zero=>simp [DataW.trod] at hf
 | succ fuel=>
  rw [DataW.trod.eq_def] at hf
  simp only [hu] at hf
  split at hf
  ·next hl=>
   refine ⟨hl,fun y hy=> ?_⟩
   simp only [Option.map_eq_some_iff] at hf
   obtain ⟨zs,hz,_⟩:=hf
   rw [←hF,zam,List.mem_map] at hy
   obtain ⟨f,hf1,rfl⟩:=hy
   obtain ⟨z,hz2⟩:=zek hz f hf1
   exact ⟨fuel,z,hz2⟩
  ·cases hf
theorem zc7 {t e:TypeId} {n:Nat} {cs:List Value} (h:Rd enc P W base sp held t cs) (hu:P.underlying t=some (.array n e)):
  cs.length=P.cellsOf t∧∀i,i<n→Rd enc P W base sp held e ((cs.drop (i*P.cellsOf e)).take (P.cellsOf e)):=by
 obtain ⟨fuel,r,hf⟩:=h
 cases fuel with
 | zero=>simp [DataW.trod] at hf
 | succ fuel=>
  rw [DataW.trod.eq_def] at hf
  simp only [hu] at hf
  split at hf
  ·next hl=>
   refine ⟨hl,fun i hi=> ?_⟩
   simp only [Option.map_eq_some_iff] at hf
   obtain ⟨zs,hz,_⟩:=hf
   obtain ⟨z,hz2⟩:=zek hz i (List.mem_range.2 hi)
   exact ⟨fuel,z,hz2⟩
  ·cases hf
theorem zbO {t:TypeId} {k:IntKind} {cs:List Value} (h:Rd enc P W base sp held t cs) (ht:P.underlying t=some (.int k)) (h0:∀n,(Lit.int k n).wf=true→0≤n∧n<2^k.bits):∃n:Nat,cs= [.int k (n:Int)]∧n<2^k.bits:=by
 obtain ⟨n,h1,h2⟩:=zcR h ht
 obtain ⟨h3,h4⟩:=h0 n h2
 obtain ⟨m,rfl⟩:=Int.eq_ofNat_of_zero_le h3
 exact ⟨m,h1,by exact_mod_cast h4⟩
theorem zao {α:Type} (cs:List α) (a b:Nat):(cs.drop a).take b++cs.drop (a+b)=cs.drop a:=by
 rw [←List.drop_drop,List.take_append_drop]
theorem w8 (n:Int) (h:(Lit.int .u8 n).wf=true):0≤n∧n<2^IntKind.u8.bits:=by have:=bounds_u8 h;exact ⟨by omega,by show n<2^8;omega⟩
theorem w32 (n:Int) (h:(Lit.int .u32 n).wf=true):0≤n∧n<2^IntKind.u32.bits:=by have:=bounds_u32 h;exact ⟨by omega,by show n<2^32;omega⟩
theorem w64 (n:Int) (h:(Lit.int .u64 n).wf=true):0≤n∧n<2^IntKind.u64.bits:=by have:=bounds_u64 h;exact ⟨by omega,by show n<2^64;omega⟩
theorem w16 (n:Int) (h:(Lit.int .u16 n).wf=true):0≤n∧n<2^IntKind.u16.bits:=by
 simp [Lit.wf,IntKind.min,IntKind.max,IntKind.signed,IntKind.bits] at h
 exact ⟨by omega,by show n<2^16;omega⟩
end
end Go.Cs
namespace Go.Cs
open Go Go.ChangeShapes Go.WideShapes Go.ChangeAt Go.RowKit
theorem zgJ {α:Type} {f:α→List Value} {sz:Nat} (hf:∀x,(f x).length=sz) (d:α):∀(l:List α) (k:Nat),0<sz→(l.flatMap f)[k]? =if k<l.length*sz then (f (l.getD (k/sz) d))[k%sz]? else none
 | [],k,hz=>by simp
 | x::l,k,hz=>by
  rw [List.flatMap_cons]
  rcases Nat.lt_or_ge k sz with h | h
  ·rw [List.getElem?_append_left (by rw [hf];exact h),Nat.div_eq_of_lt h,Nat.mod_eq_of_lt h,if_pos]
   ·simp
   ·rw [List.length_cons,Nat.add_mul,Nat.one_mul];omega
  ·rw [List.getElem?_append_right (by rw [hf];exact h),hf,zgJ hf d l (k-sz) hz]
   have e1:k/sz=(k-sz)/sz+1:=by rw [←Nat.add_div_right _ hz,Nat.sub_add_cancel h]
   have e2:k%sz=(k-sz)%sz:=by rw [←Nat.mod_eq_sub_mod h]
   rw [e1,e2,List.getD_cons_succ,List.length_cons,Nat.add_mul,Nat.one_mul]
   by_cases h2:k<l.length*sz+sz
   ·rw [if_pos (by omega),if_pos h2]
   ·rw [if_neg (by omega),if_neg h2]
section
variable {H:Type} {enc:TypeId×Value→H} {P:Program} {W:World} {base:Nat} {sp:Nat→Bool} {held:Bool}
theorem zfB {α:Type} {f:α→List Value} {t e:TypeId} {sz:Nat} {cs:List Value} (hx:∀us,Rd enc P W base sp held e us→∃x,us=f x) (hf:∀x,(f x).length=sz) (h:Rd enc P W base sp held t cs) (hu:P.underlying t=some (.slice e)) (he:P.cellsOf e=sz) (hz:0<sz):
  ∃a len cap l,cs= [.slice a len cap]∧Ms f sz 0 W.heap.size W a len cap l:=by
 obtain ⟨fuel,r,hr⟩:=h
 rcases Go.Deep.open_slice hu hr with ⟨rfl,_⟩|⟨a,len,cap,m,n,D,Pl,rfl,hb,hl,hm,hmm,_,hi⟩
 ·exact ⟨none,0,0, [],rfl,Ms.nil f _ _ _ hf⟩
 ·have hlm:len≤m:=by subst hmm;split<;>omega
  rw [he] at hi
  rcases Nat.eq_zero_or_pos len with h0 | h0
  ·subst h0
   exact ⟨some a,0,cap, [],rfl,⟨⟨hl,hm, .inl rfl⟩,rfl,hf⟩⟩
  ·have one:∀i,i<len→∃x,W.cells? base (a.add (i*sz)) sz=some (f x):=fun i hlt=>by
    obtain ⟨cs',h1,h2⟩:=hi i (by omega)
    obtain ⟨x,rfl⟩:=hx cs' ⟨n,_,h2⟩
    exact ⟨x,h1⟩
   obtain ⟨x0,hx0⟩:=one 0 h0
   haveI:Inhabited α:=⟨x0⟩
   obtain ⟨g,hg⟩:=Go.Deep.choose_lt one
   have hsp:a.spot=none∧a.block<W.heap.size:=by
    have h3:=(World.cells?_some hx0).2.2 0 hz
    rw [Nat.zero_mul] at h3
    have e0:(a.add 0).add 0=a:=by simp [Addr.add]
    rw [e0,List.getElem?_eq_getElem (by rw [hf];exact hz)] at h3
    refine ⟨?_,World.block_lt_of_cell? W a h3⟩
    cases hs:a.spot with
    | none=>rfl
    | some k=>
     exfalso
     have h4:=(World.cells?_some (hg 0 h0)).2.2
     simp only [World.cell?,hs] at h3
     split at h3<;>simp at h3
   obtain ⟨b,o,s⟩:=a
   simp only at hsp
   obtain ⟨rfl,hlt⟩:=hsp
   refine ⟨_,len,cap,(List.range len).map g,rfl,⟨hl,hm, .inr ⟨rfl,Nat.zero_le _,hlt,hlt,fun k v hk=> ?_⟩⟩,by simp,hf⟩
   rw [zgJ hf x0 _ k hz] at hk
   simp only [List.length_map,List.length_range] at hk
   split at hk
   ·next hks=>
    have hq:k/sz<len:=Nat.div_lt_of_lt_mul (by rw [Nat.mul_comm];exact hks)
    have hg1:((List.range len).map g).getD (k/sz) x0=g (k/sz):=by simp [List.getD,hq]
    rw [hg1] at hk
    have h5:=(World.cells?_some (hg (k/sz) hq)).2.2 (k%sz) (Nat.mod_lt _ hz)
    rw [hk,Addr.add_lit,Addr.add_lit] at h5
    rw [←h5]
    have:=Nat.div_add_mod k sz
    rw [Nat.mul_comm] at this
    simp only [Nat.add_assoc,this]
   ·cases hk
theorem zrG {t e:TypeId} {cs:List Value} (h:Rd enc P W base sp held t cs) (hu:P.underlying t=some (.array 2 e)) (he:P.underlying e=some (.int .u8)) (ce:P.cellsOf e=1) (c:P.cellsOf t=2):∃x:UInt8×UInt8,cs=b2C x:=by
 obtain ⟨hl,hi⟩:=zc7 h hu
 obtain ⟨a,ha,ha2⟩:=zbO (hi 0 (by omega)) he w8
 obtain ⟨b,hb,hb2⟩:=zbO (hi 1 (by omega)) he w8
 simp only [ce,Nat.mul_one] at ha hb
 have ea:((UInt8.ofNat a).toNat:Nat)=a:=by rw [UInt8.toNat_ofNat',Nat.mod_eq_of_lt (show a<2^8 from ha2)]
 have eb:((UInt8.ofNat b).toNat:Nat)=b:=by rw [UInt8.toNat_ofNat',Nat.mod_eq_of_lt (show b<2^8 from hb2)]
 refine ⟨(UInt8.ofNat a,UInt8.ofNat b), ?_⟩
 have e1:=zao cs 0 1
 have e2:=zao cs 1 1
 rw [ha] at e1;rw [hb,List.drop_eq_nil_of_le (by omega)] at e2
 rw [List.drop_zero] at e1
 rw [←e1,←e2];simp [b2C,ea,eb]
end
end Go.Cs
namespace Go.Cs
open Go Go.ChangeShapes Go.WideShapes Go.ChangeAt Go.RowKit
section
variable {H:Type} {enc:TypeId×Value→H} {P:Program} {W:World} {base:Nat} {sp:Nat→Bool} {held:Bool}
theorem ze7 {t e:TypeId} {k:IntKind} {fuel n:Nat} {cs:List Value} {p:List MemPlace} {ns:List Int} (h:DataW.trod enc P W base sp held fuel t cs=some (.agg (ns.map fun z=> .lit (.int k z)),p)) (hu:P.underlying t=some (.array n e)) (he:P.underlying e=some (.int k)) (ce:P.cellsOf e=1) (ct:P.cellsOf t=n):
  cs=ns.map fun z=> .int k z:=by
 obtain ⟨xs,m,rfl,hx,hl,hn,hi⟩:=DataW.trod_array hu h
 simp only [Prod.mk.injEq,DataW.agg.injEq] at hx
 have hlen:ns.length=n:=by rw [←hn,show xs.length=(xs.map fun x=>x.1).length from by simp,←hx.1,List.length_map]
 refine List.ext_getElem (by simp;omega) fun i h1 h2=> ?_
 have h3:i<xs.length:=by omega
 have h4:=hi i (by omega)
 rw [List.getElem?_eq_getElem h3,ce,Nat.mul_one] at h4
 obtain ⟨z,e1,e2,_⟩:=DataW.trod_int he h4
 have e3:cs[i]= .int k z:=by
  have:=congrArg (fun y=>y[0]?) e1
  simp [List.getElem?_take,List.getElem?_drop,h1] at this
  exact this
 have e4:=congrArg (fun y=>y[i]?) hx.1
 simp only [List.getElem?_map,List.getElem?_eq_getElem h3,e2,List.getElem?_eq_getElem (show i<ns.length by omega),Option.map_some,Option.some.injEq,DataW.lit.injEq,Lit.int.injEq,true_and] at e4
 rw [e3];simp [e4]
theorem ziR {name:String} {g:Nat} {cs:Array Value} {vs:List Value} (hg:P.globalNamed name=some g) (hv:W.var? P name=some cs) (hcs:cs.toList=vs):Gl g vs W:=by
 have hc:=fun i=>World.var?_cell hg hv i
 refine ⟨fun i v hi=> ?_, ?_⟩
 ·rw [Nat.zero_add,hc i,←hi,←hcs];simp
 ·simp only [World.var?,hg,Option.bind_some] at hv
  rcases Nat.lt_or_ge g W.heap.size with h | h
  ·exact h
  ·rw [Array.getElem?_eq_none h] at hv;simp at hv
end
end Go.Cs
namespace Go.Cs
open Go Go.ChangeShapes Go.WideShapes Go.ChangeAt Go.RowKit
theorem Es.of_ones {α:Type} {f:α→Value} {lo hi len cap:Nat} {w:World} {a:Option Addr} {l:List α} (h:Ms (fun x=> [f x]) 1 lo hi w a len cap l):Es f lo hi w a len cap l:=by
 have e:∀l:List α,(l.flatMap fun x=> [f x])=l.map f:=fun l=>by
  induction l with
  | nil=>rfl
  | cons x l ih=>rw [List.flatMap_cons,List.map_cons,ih];rfl
 exact ⟨by have:=h.sla;rwa [e l] at this,h.len_eq⟩
section
variable {H:Type} {enc:TypeId×Value→H} {P:Program} {W:World} {base:Nat} {sp:Nat→Bool} {held:Bool}
end
end Go.Cs
namespace Go.Cs
open Go Go.ChangeShapes Go.WideShapes Go.ChangeAt Go.RowKit
theorem ztE {cs p q:List Value} {o a:Nat} (h:(cs.drop o).take a=p) (h2:cs.drop (o+a)=q):cs.drop o=p++q:=by
 rw [←h,←h2,←List.drop_drop,List.take_append_drop]
theorem zus {cs:List Value} {o:Nat} (h:cs.length≤o):cs.drop o= []:=List.drop_eq_nil_of_le h
section
variable {H:Type} {enc:TypeId×Value→H} {P:Program} {W:World} {base:Nat} {sp:Nat→Bool} {held:Bool}
theorem zpE {t:TypeId} {cs:List Value} (h:Rd enc P W base sp held t cs) (hu:P.underlying t=some (.int .u8)):∃x:UInt8,cs= [u8v x]:=by
 obtain ⟨a,ha,ha2⟩:=zbO h hu w8
 exact ⟨UInt8.ofNat a,by rw [ha,u8v,UInt8.toNat_ofNat',Nat.mod_eq_of_lt (show a<2^8 from ha2)]⟩
theorem zvn {t e:TypeId} {cs:List Value} (h:Rd enc P W base sp held t cs) (hu:P.underlying t=some (.slice e)) (he:P.underlying e=some (.int .u8)) (ce:P.cellsOf e=1):
  ∃a len cap l,cs= [.slice a len cap]∧Bs 0 W.heap.size W a len cap l:=by
 obtain ⟨a,len,cap,l,h1,h2⟩:=zfB (f:=fun x:UInt8=> [u8v x]) (sz:=1) (fun us hq=>zpE hq he) (fun _=>rfl) h hu ce (by decide)
 exact ⟨a,len,cap,l,h1,(Es.of_ones h2).bs⟩
end
end Go.Cs
