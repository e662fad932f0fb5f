/- Lemmas and walks: what each function does, by its own code. No condition beyond those of each statement. -/
import Derived.Test.YtkmhgepdhilllaaGreatDoorK1
set_option linter.all false
set_option linter.unusedVariables false
namespace Go.Proofs.YtkmhgepdhilllaaGreatDoor
open Go Go.RowKit Go.Cs
set_option maxRecDepth 100000
set_option maxHeartbeats 4000000 in
theorem zg7 (n:Nat) {lo_t hi_t:Nat} {a_t:Option Addr} {n_t c_t:Nat} {t:List Un} (w:World) (h_t:Ms unC 280 lo_t hi_t w a_t n_t c_t t) (hp0:1≤n) (hp1:n≤4096) (hp2:n_t=tot n) (hp3:∀i,i<t.length→(t.getD i Un.zero).sl=0∨(t.getD i Un.zero).sl=1) (hg0:Gl 0 [vI 45,vI 33] w) (hg1:Gl 1 (w8C zaV) w) (hg2:Gl 3 (zas kA) w):
  Calls Tryz.prog 55 #[(vA [(vI n),(.slice a_t n_t c_t)])] w (Ret fun r w'=>∃a0 ca0 a1 ca1,r=(.tuple #[(vA [(.slice a0 (hgt n+1) ca0),(.slice a1 (hgt n+1) ca1)]),(vI (zaY n (zaG n t)))])∧Es (nv .i64) w.heap.size w'.heap.size w' a0 (hgt n+1) ca0 (za9 n (hgt n+1))∧Es (nv .i64) w.heap.size w'.heap.size w' a1 (hgt n+1) ca1 (zbk n (hgt n+1))∧Ext w w'):=by
 refine zcZ (n:=64) (σ:= [(0,(vA [(vI n),(.slice a_t n_t c_t)]))]) Tryz.func55 rfl ?_
 replace h_t:=h_t.now;have hle_t:=h_t.le
 have hgl0:=hg0.lt
 have hgl1:=hg1.lt
 have hgl2:=hg2.lt
 have h5:=zam n
 have hlt:=h_t.len_eq
 have hts:=zau hp1
 have hle:=h_t.le
 refine wsr (za (zS (Instr.box 38 (vA [(vI n),(.slice a_t n_t c_t)])) (vP w.heap.size 0) ([(vI n),(.slice a_t n_t c_t)]) 38 ?_))
 intro w1 hBw1 hEw1 hzw1 hlw1
 refine za (zad ([(.slice none 0 0),(.slice none 0 0)]) 114 ?_)
 intro w2 hBw2 hEw2 hzw2 hlw2
 refine za (zad ([(vI 0)]) 39 ?_)
 intro w3 hBw3 hEw3 hzw3 hlw3
 refine zz (zb 1 [(13,(vP w.heap.size 0))] (za (zm w.heap.size 0 (((hBw1.ext hEw2).ext hEw3).cell rfl) ?_)))
 refine za (zt (zlh n _ (by omega) (by omega)) ?_)
 rintro _ w4 ⟨a1,ca1,a2,ca2,rfl,hFz1_0,hFz1_1,hEw4⟩
 have hzw4:=hEw4.size
 have hlea1:=hFz1_0.le
 have hlea2:=hFz1_1.le
 refine zb 3 [(17,(vI 0)),(16,(vA [(.slice a1 (hgt n+1) ca1),(.slice a2 (hgt n+1) ca2)])),(12,(.tuple #[(vA [(.slice a1 (hgt n+1) ca1),(.slice a2 (hgt n+1) ca2)]),(vI 0)]))] (zal ([(.slice a1 (hgt n+1) ca1),(.slice a2 (hgt n+1) ca2)]) 114 rfl (by simp [Value.oneCell']) ?_)
 intro w5 hBw5 hEw5 hzw5 hlw5
 refine zb 1 [(5,(vI 0))] (zM (zb 1 [(18,(vI 0))] (za (zbe 19 0 0 ?_))))
 refine wEt (zf (zl (zc (zd (zd (zY 11 (fun w6 hEw6 hzw6 hT49=> ?_)))))))
 refine ze hT49 [(0,22,(vP w.heap.size 1))] 1 ?_
 have hK1:=(((((hBw1.ext hEw2).ext hEw3).ext hEw4).ext hEw5).ext hEw6)
 refine zx hT49 1 w.heap.size 1 (fun w' hC=>((hK1.ext hC).cell rfl)) (ze hT49 [(2,24,(vI n_t))] 1 (zbj hT49 3 w4.heap.size 0 (fun w' hC=>(((hBw5.ext hEw6).ext hC).all)) (zy 4 (zt (zjj n _ ((hFz1_0.ext hEw5).ext hEw6) ((hFz1_1.ext hEw5).ext hEw6) (by first | rfl | assumption) (by first | rfl | assumption) (by first | omega | decide) (by first | omega | decide)) ?_))))
 rintro _ w7 ⟨rfl,hEw7⟩
 have hzw7:=hEw7.size
 refine ⟨.inr hEw7, ?_⟩
 refine zr (hw:=hEw7) hT49 5 vF (zaS (((n_t:Nat):Int) !=((tot n:Nat):Int)) (zcb)) (ze (hw:=hEw7) hT49 [(6,28,vF),(7,29,(vP w.heap.size 1))] 2 (zx (hw:=hEw7) hT49 8 w.heap.size 1 (fun w' hC=>((hK1.ext hC).cell rfl)) ?_))
 have hX1:=((hEw1.trans hEw2).trans hEw3).trans hEw4
 have hK2:=((((h_t.ext hX1).ext hEw5).ext hEw6).ext hEw7)
 refine zy 9 (zt (ztj _ hK2 (hp3)) ?_)
 rintro _ w8 ⟨rfl,hEw8⟩
 have hzw8:=hEw8.size
 have hX2:Ext w6 w8:=(hEw7.trans hEw8)
 refine ⟨.inr hX2, ?_⟩
 refine ze (hw:=hX2) hT49 [(10,32,vF)] 1 (zB (zc (zf (zl (zc (zd (wsr ?_)))))))
 have hK3:=(((hBw5.ext hEw6).ext hEw7).ext hEw8)
 refine za (zV w4.heap.size 0 (hK3.all) ?_)
 have hX3:=((hEw5.trans hEw6).trans hEw7).trans hEw8
 refine za (zt (zpL _ (hFz1_0.ext hX3) (hFz1_1.ext hX3)) ?_)
 rintro _ w9 ⟨a3,rfl,hFz4_0,hFz4_1,hEw9⟩
 have hzw9:=hEw9.size
 have hla3:=hFz4_1.lt
 refine wEt (zp ?_)
 have hK4:=(((hK1.ext hEw7).ext hEw8).ext hEw9)
 have hK5:=((((hBw2.ext hEw3).ext hEw4).ext hX3).ext hEw9)
 have hK6:=(((hBw3.ext hEw4).ext hX3).ext hEw9)
 refine zhY [36,37] 91 [(vP a3 0)] (tot n) (fun k=> [(vI (lvK n k)),(vI k)]) (fun b=>b=w1.heap.size∨b=w2.heap.size) (fun b=>False) (fun k w'=>okK n (zaG n t) k∧Blk w' w.heap.size ([(vI n),(.slice a_t n_t c_t)]) 38∧Blk w' w1.heap.size ([(.slice none 0 0),(.slice none 0 0)]) 114∧Blk w' w2.heap.size ([(vI 0)]) 39∧Blk w' w4.heap.size ([(.slice a1 (hgt n+1) ca1),(.slice a2 (hgt n+1) ca2)]) 114∧Es (nv .i64) w3.heap.size w4.heap.size w' a1 (hgt n+1) ca1 (za9 n (hgt n+1))∧Es (nv .i64) w3.heap.size w4.heap.size w' a2 (hgt n+1) ca2 (zbk n (hgt n+1))∧Ext w w') (fun cc k w'=>cc= .ret∧Blk w' w1.heap.size ([(.slice a1 (hgt n+1) ca1),(.slice a2 (hgt n+1) ca2)]) 114∧Blk w' w2.heap.size [vI (zaY n (zaG n t))] 39∧Es (nv .i64) w3.heap.size w4.heap.size w' a1 (hgt n+1) ca1 (za9 n (hgt n+1))∧Es (nv .i64) w3.heap.size w4.heap.size w' a2 (hgt n+1) ca2 (zbk n (hgt n+1))∧Ext w w') (fun b hb=>hb.elim) (fun _=>rfl) (fun k W W' ⟨h0,h1,h2,h3,h4,h5,h6,h8⟩ hb=>⟨h0,h1.book hb,h2.book hb,h3.book hb,h4.book hb,h5.book hb,h6.book hb,h8.book hb (by omega)⟩) (fun _ k W W' ⟨hc,h1,h2,h3,h4,h8⟩ hb=>⟨hc,h1.book hb,h2.book hb,h3.book hb,h4.book hb,h8.book hb (by omega)⟩) (fun k W W' ⟨h0,h1,h2,h3,h4,h5,h6,h8⟩ hc=>⟨h0,h1.ext hc,h2.ext hc,h3.ext hc,h4.ext hc,h5.ext hc,h6.ext hc,h8.trans hc⟩) (⟨zrW,hK4,hK5,hK6,(hK3.ext hEw9),((hFz1_0.ext hX3).ext hEw9),((hFz1_1.ext hX3).ext hEw9),((hX1.trans hX3).trans hEw9)⟩) (fun lp J Jx wj hE1 hJ hY h0=>zqv n w9.heap.size lp (fun b=>b=w1.heap.size∨b=w2.heap.size) J Jx wj hp0 hp1 (hFz4_1.ext hE1) (((hFz1_0.ext hX3).ext hEw9).ext hE1) (((hFz1_1.ext hX3).ext hEw9).ext hE1) (fun b hb=>⟨by omega,by omega,by omega⟩) hJ hY h0) ?_ ?_ ?_
 ·rintro lR k w10 hl ⟨hok,hK1,hK2,hK3,hK4,hs1,hs2,hEw⟩ hk
  have hzr:=hEw.size
  have hK1l:=hK1.lt
  have hK2l:=hK2.lt
  have hK3l:=hK3.lt
  have hK4l:=hK4.lt
  obtain ⟨l,j,hl,hj,hlv,rfl⟩:=zgx hk
  rw [hlv]
  have hns:=zbN (n:=n) (l:=l) hp1 (by omega)
  refine wsr (zb 1 [(6,(vI l))] (zdx (zb 1 [(7,(vI (num n l+j)))] (zq (zl0 (Kpt.refl _) (Chg.refl _ _) (fun w11 hBkw11=> ?_))))))
  have hzw11:=hBkw11.size
  refine zp (wsr (za (zV w4.heap.size 0 ((hK4.book hBkw11).all) ?_)))
  refine za (zV w.heap.size 0 ((hK1.book hBkw11).all) ?_)
  refine zb 3 [(42,(vA [(.slice a1 (hgt n+1) ca1),(.slice a2 (hgt n+1) ca2),(vI n),(.slice a_t n_t c_t),(vI (num n l+j)),(vI l)])),(41,(vI l)),(40,(vI (num n l+j)))] (za (zS (Instr.box 146 (vA [(.slice a1 (hgt n+1) ca1),(.slice a2 (hgt n+1) ca2),(vI n),(.slice a_t n_t c_t),(vI (num n l+j)),(vI l)])) (vP w11.heap.size 0) ([(.slice a1 (hgt n+1) ca1),(.slice a2 (hgt n+1) ca2),(vI n),(.slice a_t n_t c_t),(vI (num n l+j)),(vI l)]) 146 ?_))
  intro w12 hBw12 hEw12 hzw12 hlw12
  refine zb 1 [(8,(vP w11.heap.size 0))] (zz (zb 6 [(49,(.func (.func 82) #[(vP w11.heap.size 0)] #[])),(48,(vP w11.heap.size 0)),(47,(.func (.func 81) #[(vP w11.heap.size 0)] #[])),(46,(vP w11.heap.size 0)),(45,(.func (.func 80) #[(vP w11.heap.size 0)] #[])),(44,(vP w11.heap.size 0))] (za (zS (Instr.buildSlice 148 3 #[(0,(.func (.func 80) #[(vP w11.heap.size 0)] #[])),(1,(.func (.func 81) #[(vP w11.heap.size 0)] #[])),(2,(.func (.func 82) #[(vP w11.heap.size 0)] #[]))]) (.slice (pA w12.heap.size 0) 3 3) [(.func (.func 80) #[(vP w11.heap.size 0)] #[]),(.func (.func 81) #[(vP w11.heap.size 0)] #[]),(.func (.func 82) #[(vP w11.heap.size 0)] #[])] 147 ?_))))
  intro w13 hBw13 hEw13 hzw13 hlw13
  refine zb 2 [(52,(vI 0)),(51,(vI 3))] (wEt (zp (zU (X:=Nat) (fun q=> [(52,(vI q))]) [10,11,53,54,55,56,57,58,59,60,61,62] (fun q w14=>q≤3∧(0<q→zeV n t l j=0)∧(1<q→zeW n t l j=0)∧(2<q→zfh n t l j=0)∧Ext w13 w14) (fun q=>3-q) 0 (by kernel_rfl) ⟨by omega,by omega,by omega,by omega,Ext.refl _⟩ ?_)))
  rintro q dw14 w14 ⟨hqq,hq0,hq1,hq2,hEl⟩
  have hzl:=hEl.size
  refine wsr (za (zag 53 q 3 (fun hc53=> ?_) (fun hc53=> ?_)))
  ·refine wEt (zd (zk (zl (zc (zd (zp (wsr ?_)))))))
   refine za (zan w12.heap.size 0 3 3 q 1 ?_)
   rcases (show q=0∨q=1∨q=2 by omega) with rfl | rfl | rfl
   ·refine za (zm w12.heap.size (0+0*1) ((hBw13.ext hEl).cell rfl) ?_)
    refine zb 1 [(10,(.func (.func 80) #[(vP w11.heap.size 0)] #[]))] (zz (zb 1 [(56,(.func (.func 80) #[(vP w11.heap.size 0)] #[]))] ?_))
    have hK7:=((((hs1.book hBkw11).ext hEw12).ext hEw13).ext hEl)
    have hK8:=((((hs2.book hBkw11).ext hEw12).ext hEw13).ext hEl)
    have hK9:=(((((h_t.ext hEw).book hBkw11).ext hEw12).ext hEw13).ext hEl)
    refine za (zt (zuL w11.heap.size n l j _ ((hBw12.ext hEw13).ext hEl) hK7 hK8 hK9 (by first | rfl | assumption) (by first | rfl | assumption) (by first | omega | decide) (by first | omega | decide) (by first | omega | decide) (by first | omega | decide) (by first | omega | decide)) ?_)
    rintro _ w15 ⟨rfl,hEw15⟩
    have hzw15:=hEw15.size
    refine zb 1 [(11,(vI (zeV n t l j)))] (zz (zb 1 [(58,(vI (zeV n t l j)))] (za (zbT 59 (zeV n t l j) 0 (fun hc59=> ?_) (fun hc59=> ?_)))))
    ·refine wEt (zk (wsr ?_))
     have hK10:=(((((hK4.book hBkw11).ext hEw12).ext hEw13).ext hEl).ext hEw15)
     refine za (zV w4.heap.size 0 (hK10.all) ?_)
     refine zb 1 [(61,(vI (zeV n t l j)))] ?_
     have hK11:=(((((hK2.book hBkw11).ext hEw12).ext hEw13).ext hEl).ext hEw15)
     refine za (zC 114 w1.heap.size 0 114 (vA [(.slice a1 (hgt n+1) ca1),(.slice a2 (hgt n+1) ca2)]) ([(.slice none 0 0),(.slice none 0 0)]) ([(.slice a1 (hgt n+1) ca1),(.slice a2 (hgt n+1) ca2)]) hK11 (by kernel_rfl) (by first | decide |(simp;done)|(simp;omega)) (by simp [Value.oneCell']) ?_)
     have hK12:=(((((hK2.book hBkw11).ext hEw12).ext hEw13).ext hEl).ext hEw15)
     intro w16 hBw16 hCw16
     have hzw16:=hCw16.size
     rw [zv _ _ (by kernel_rfl)] at hBw16
     have hK13:=((((((hK3.book hBkw11).ext hEw12).ext hEw13).ext hEl).ext hEw15).chg hCw16)
     refine za (zah 39 w2.heap.size 0 39 (vI (zeV n t l j)) ([(vI 0)]) hK13 (by first | decide |(simp;done)|(simp;omega)) ?_)
     have hK14:=((((((hK3.book hBkw11).ext hEw12).ext hEw13).ext hEl).ext hEw15).chg hCw16)
     intro w17 hBw17 hCw17
     have hzw17:=hCw17.size
     replace hBw17:=hBw17.set1
     refine zF (zu (zj (zj (zu (zu ?_)))))
     have hK15:=(((hK7.ext hEw15).chg hCw16).chg hCw17)
     have hK16:=(((hK8.ext hEw15).chg hCw16).chg hCw17)
     have hX4:Ext w w17:=(Ext.own (Ext.own (((((hEw.book hBkw11 (by omega)).trans hEw12).trans hEw13).trans hEl).trans hEw15) hCw16 (by omega)) hCw17 (by omega))
     exact zhX (((((((Kpt.refl _).ext hEw12).ext hEw13).ext hEl).ext hEw15).blk hK12 hCw16).blk hK14 hCw17) (Chg.then (Chg.then (((((Chg.refl _ _).trans hEw12.chg).trans hEw13.chg).trans hEl.chg).trans hEw15.chg) hCw16 (fun k hk hs=>by have h:k=_:=hs;first |(left;omega)|(exfalso;omega)|(right;simp [h];done))) hCw17 (fun k hk hs=>by have h:k=_:=hs;first |(left;omega)|(exfalso;omega)|(right;simp [h];done))) (⟨rfl,(hBw16.chg hCw17),(zi1 hok hk (by rw [hlv,Nat.add_sub_cancel_left];exact zqQ hc59) hc59).symm▸hBw17,hK15,hK16,hX4⟩)
    ·refine wEt (zf (zl (zi (zc (zg (za (zJ 62 0 1 1 ?_)))))))
     refine zb 1 [(52,(vI 1))] (zq (zn (zG (0+1) ?_ ?_)))
     ·exact ⟨by omega,fun _=>hc59,fun hh=>absurd hh (by omega),fun hh=>absurd hh (by omega),(hEl.trans hEw15)⟩
     ·first | omega |(dsimp only;omega)
   ·refine za (zm w12.heap.size (0+1*1) ((hBw13.ext hEl).cell rfl) ?_)
    refine zb 1 [(10,(.func (.func 81) #[(vP w11.heap.size 0)] #[]))] (zz (zb 1 [(56,(.func (.func 81) #[(vP w11.heap.size 0)] #[]))] ?_))
    have hK17:=((((hs1.book hBkw11).ext hEw12).ext hEw13).ext hEl)
    have hK18:=((((hs2.book hBkw11).ext hEw12).ext hEw13).ext hEl)
    have hK19:=(((((h_t.ext hEw).book hBkw11).ext hEw12).ext hEw13).ext hEl)
    refine za (zt (zvO w11.heap.size n l j _ ((hBw12.ext hEw13).ext hEl) hK17 hK18 hK19 (by first | rfl | assumption) (by first | rfl | assumption) (by first | omega | decide) (by first | omega | decide) (by first | omega | decide) (by first | omega | decide) (by first | omega | decide)) ?_)
    rintro _ w18 ⟨rfl,hEw18⟩
    have hzw18:=hEw18.size
    refine zb 1 [(11,(vI (zeW n t l j)))] (zz (zb 1 [(58,(vI (zeW n t l j)))] (za (zbT 59 (zeW n t l j) 0 (fun hc59=> ?_) (fun hc59=> ?_)))))
    ·refine wEt (zk (wsr ?_))
     have hK20:=(((((hK4.book hBkw11).ext hEw12).ext hEw13).ext hEl).ext hEw18)
     refine za (zV w4.heap.size 0 (hK20.all) ?_)
     refine zb 1 [(61,(vI (zeW n t l j)))] ?_
     have hK21:=(((((hK2.book hBkw11).ext hEw12).ext hEw13).ext hEl).ext hEw18)
     refine za (zC 114 w1.heap.size 0 114 (vA [(.slice a1 (hgt n+1) ca1),(.slice a2 (hgt n+1) ca2)]) ([(.slice none 0 0),(.slice none 0 0)]) ([(.slice a1 (hgt n+1) ca1),(.slice a2 (hgt n+1) ca2)]) hK21 (by kernel_rfl) (by first | decide |(simp;done)|(simp;omega)) (by simp [Value.oneCell']) ?_)
     have hK22:=(((((hK2.book hBkw11).ext hEw12).ext hEw13).ext hEl).ext hEw18)
     intro w19 hBw19 hCw19
     have hzw19:=hCw19.size
     rw [zv _ _ (by kernel_rfl)] at hBw19
     have hK23:=((((((hK3.book hBkw11).ext hEw12).ext hEw13).ext hEl).ext hEw18).chg hCw19)
     refine za (zah 39 w2.heap.size 0 39 (vI (zeW n t l j)) ([(vI 0)]) hK23 (by first | decide |(simp;done)|(simp;omega)) ?_)
     have hK24:=((((((hK3.book hBkw11).ext hEw12).ext hEw13).ext hEl).ext hEw18).chg hCw19)
     intro w20 hBw20 hCw20
     have hzw20:=hCw20.size
     replace hBw20:=hBw20.set1
     refine zF (zu (zj (zj (zu (zu ?_)))))
     have hK25:=(((hK17.ext hEw18).chg hCw19).chg hCw20)
     have hK26:=(((hK18.ext hEw18).chg hCw19).chg hCw20)
     have hX5:Ext w w20:=(Ext.own (Ext.own (((((hEw.book hBkw11 (by omega)).trans hEw12).trans hEw13).trans hEl).trans hEw18) hCw19 (by omega)) hCw20 (by omega))
     exact zhX (((((((Kpt.refl _).ext hEw12).ext hEw13).ext hEl).ext hEw18).blk hK22 hCw19).blk hK24 hCw20) (Chg.then (Chg.then (((((Chg.refl _ _).trans hEw12.chg).trans hEw13.chg).trans hEl.chg).trans hEw18.chg) hCw19 (fun k hk hs=>by have h:k=_:=hs;first |(left;omega)|(exfalso;omega)|(right;simp [h];done))) hCw20 (fun k hk hs=>by have h:k=_:=hs;first |(left;omega)|(exfalso;omega)|(right;simp [h];done))) (⟨rfl,(hBw19.chg hCw20),(zi1 hok hk (by rw [hlv,Nat.add_sub_cancel_left];exact zrL (hq0 (by omega)) hc59) hc59).symm▸hBw20,hK25,hK26,hX5⟩)
    ·refine wEt (zf (zl (zi (zc (zg (za (zJ 62 1 1 2 ?_)))))))
     refine zb 1 [(52,(vI 2))] (zq (zn (zG (1+1) ?_ ?_)))
     ·exact ⟨by omega,fun hh=>hq0 (by omega),fun _=>hc59,fun hh=>absurd hh (by omega),(hEl.trans hEw18)⟩
     ·first | omega |(dsimp only;omega)
   ·refine za (zm w12.heap.size (0+2*1) ((hBw13.ext hEl).cell rfl) ?_)
    refine zb 1 [(10,(.func (.func 82) #[(vP w11.heap.size 0)] #[]))] (zz (zb 1 [(56,(.func (.func 82) #[(vP w11.heap.size 0)] #[]))] ?_))
    have hK27:=((((hs1.book hBkw11).ext hEw12).ext hEw13).ext hEl)
    have hK28:=((((hs2.book hBkw11).ext hEw12).ext hEw13).ext hEl)
    have hK29:=(((((h_t.ext hEw).book hBkw11).ext hEw12).ext hEw13).ext hEl)
    have hK30:=(((((hg0.ext hEw).book hBkw11).ext hEw12).ext hEw13).ext hEl)
    have hK31:=(((((hg1.ext hEw).book hBkw11).ext hEw12).ext hEw13).ext hEl)
    have hK32:=(((((hg2.ext hEw).book hBkw11).ext hEw12).ext hEw13).ext hEl)
    refine za (zt (zvA w11.heap.size n l j _ ((hBw12.ext hEw13).ext hEl) hK27 hK28 hK29 (by first | rfl | assumption) (by first | rfl | assumption) (by first | omega | decide) (by first | omega | decide) (by first | omega | decide) (by first | omega | decide) (by first | omega | decide) (fun h0 w hw=>⟨hp3 _ (by have:=zc1 h0 hl hj hw;omega),(zcx (zij (ztu hok h0 hl hj hw)).1.2.2).1⟩) hK30 hK31 hK32) ?_)
    rintro _ w21 ⟨rfl,hEw21⟩
    have hzw21:=hEw21.size
    refine zb 1 [(11,(vI (zfh n t l j)))] (zz (zb 1 [(58,(vI (zfh n t l j)))] (za (zbT 59 (zfh n t l j) 0 (fun hc59=> ?_) (fun hc59=> ?_)))))
    ·refine wEt (zk (wsr ?_))
     have hK33:=(((((hK4.book hBkw11).ext hEw12).ext hEw13).ext hEl).ext hEw21)
     refine za (zV w4.heap.size 0 (hK33.all) ?_)
     refine zb 1 [(61,(vI (zfh n t l j)))] ?_
     have hK34:=(((((hK2.book hBkw11).ext hEw12).ext hEw13).ext hEl).ext hEw21)
     refine za (zC 114 w1.heap.size 0 114 (vA [(.slice a1 (hgt n+1) ca1),(.slice a2 (hgt n+1) ca2)]) ([(.slice none 0 0),(.slice none 0 0)]) ([(.slice a1 (hgt n+1) ca1),(.slice a2 (hgt n+1) ca2)]) hK34 (by kernel_rfl) (by first | decide |(simp;done)|(simp;omega)) (by simp [Value.oneCell']) ?_)
     have hK35:=(((((hK2.book hBkw11).ext hEw12).ext hEw13).ext hEl).ext hEw21)
     intro w22 hBw22 hCw22
     have hzw22:=hCw22.size
     rw [zv _ _ (by kernel_rfl)] at hBw22
     have hK36:=((((((hK3.book hBkw11).ext hEw12).ext hEw13).ext hEl).ext hEw21).chg hCw22)
     refine za (zah 39 w2.heap.size 0 39 (vI (zfh n t l j)) ([(vI 0)]) hK36 (by first | decide |(simp;done)|(simp;omega)) ?_)
     have hK37:=((((((hK3.book hBkw11).ext hEw12).ext hEw13).ext hEl).ext hEw21).chg hCw22)
     intro w23 hBw23 hCw23
     have hzw23:=hCw23.size
     replace hBw23:=hBw23.set1
     refine zF (zu (zj (zj (zu (zu ?_)))))
     have hK38:=(((hK27.ext hEw21).chg hCw22).chg hCw23)
     have hK39:=(((hK28.ext hEw21).chg hCw22).chg hCw23)
     have hX6:Ext w w23:=(Ext.own (Ext.own (((((hEw.book hBkw11 (by omega)).trans hEw12).trans hEw13).trans hEl).trans hEw21) hCw22 (by omega)) hCw23 (by omega))
     exact zhX (((((((Kpt.refl _).ext hEw12).ext hEw13).ext hEl).ext hEw21).blk hK35 hCw22).blk hK37 hCw23) (Chg.then (Chg.then (((((Chg.refl _ _).trans hEw12.chg).trans hEw13.chg).trans hEl.chg).trans hEw21.chg) hCw22 (fun k hk hs=>by have h:k=_:=hs;first |(left;omega)|(exfalso;omega)|(right;simp [h];done))) hCw23 (fun k hk hs=>by have h:k=_:=hs;first |(left;omega)|(exfalso;omega)|(right;simp [h];done))) (⟨rfl,(hBw22.chg hCw23),(zi1 hok hk (by rw [hlv,Nat.add_sub_cancel_left];exact zrd (hq0 (by omega)) hc59) hc59).symm▸hBw23,hK38,hK39,hX6⟩)
    ·refine wEt (zf (zl (zi (zc (zg (za (zJ 62 2 1 3 ?_)))))))
     refine zb 1 [(52,(vI 3))] (zq (zn (zG (2+1) ?_ ?_)))
     ·exact ⟨by omega,fun hh=>hq0 (by omega),fun hh=>hq1 (by omega),fun _=>hc59,(hEl.trans hEw21)⟩
     ·first | omega |(dsimp only;omega)
  ·obtain rfl:q=3:=by omega
   refine wEt (zd (zf (zP (zo (zo (zD (zi ?_)))))))
   have hK40:=((((hK1.book hBkw11).ext hEw12).ext hEw13).ext hEl)
   have hK41:=((((hK2.book hBkw11).ext hEw12).ext hEw13).ext hEl)
   have hK42:=((((hK3.book hBkw11).ext hEw12).ext hEw13).ext hEl)
   have hK43:=((((hK4.book hBkw11).ext hEw12).ext hEw13).ext hEl)
   have hK44:=((((hs1.book hBkw11).ext hEw12).ext hEw13).ext hEl)
   have hK45:=((((hs2.book hBkw11).ext hEw12).ext hEw13).ext hEl)
   have hX7:Ext w w14:=((((hEw.book hBkw11 (by omega)).trans hEw12).trans hEw13).trans hEl)
   exact zeh ((((Kpt.refl _).ext hEw12).ext hEw13).ext hEl) ((((Chg.refl _ _).trans hEw12.chg).trans hEw13.chg).trans hEl.chg) (⟨zrA hok (by rw [hlv,Nat.add_sub_cancel_left];exact zqY (hq0 (by omega)) (hq1 (by omega)) (hq2 (by omega))),hK40,hK41,hK42,hK43,hK44,hK45,hX7⟩)
 ·rintro D w24 hD ⟨hok,hK1,hK2,hK3,hK4,hs1,hs2,hEw⟩ hM
  have hzr:=hEw.size
  have hK1l:=hK1.lt
  have hK2l:=hK2.lt
  have hK3l:=hK3.lt
  have hK4l:=hK4.lt
  have hMl:=hM.lt
  refine zi (zc (wsr (za (zV w4.heap.size 0 (hK4.all) ?_))))
  refine za (zC 114 w1.heap.size 0 114 (vA [(.slice a1 (hgt n+1) ca1),(.slice a2 (hgt n+1) ca2)]) ([(.slice none 0 0),(.slice none 0 0)]) ([(.slice a1 (hgt n+1) ca1),(.slice a2 (hgt n+1) ca2)]) hK2 (by kernel_rfl) (by first | decide |(simp;done)|(simp;omega)) (by simp [Value.oneCell']) ?_)
  intro w25 hBw25 hCw25
  have hzw25:=hCw25.size
  rw [zv _ _ (by kernel_rfl)] at hBw25
  refine za (zah 39 w2.heap.size 0 39 (vI 0) ([(vI 0)]) (hK3.chg hCw25) (by first | decide |(simp;done)|(simp;omega)) ?_)
  intro w26 hBw26 hCw26
  have hzw26:=hCw26.size
  replace hBw26:=hBw26.set1
  refine zF ?_
  obtain ⟨w27,hTw27,hCw27,hBkw27⟩:=zgV (P:=Tryz.prog) ((hM.chg hCw25).chg hCw26)
  have hzw27:=hCw27.size
  refine zoz hTw27 (ze0 (by kernel_rfl) (show zO Tryz.prog 64 _ _ (.cell 2 114) (vA [(.slice a1 (hgt n+1) ca1),(.slice a2 (hgt n+1) ca2)]) from ⟨⟨w1.heap.size,0,none⟩,(by kernel_rfl),zE (T:=114) (vs:= [(.slice a1 (hgt n+1) ca1),(.slice a2 (hgt n+1) ca2)]) (((hBw25.chg hCw26).book hBkw27)).all (by kernel_rfl)⟩) (show zO Tryz.prog 64 _ _ (.cell 3 39) (vI 0) from ⟨⟨w2.heap.size,0,none⟩,(by kernel_rfl),zc3 (T:=39) (((hBw26.book hBkw27)).cell rfl)⟩)) ?_
  have hX8:Ext w w27:=((Ext.own (Ext.own hEw hCw25 (by omega)) hCw26 (by omega)).book hBkw27 (by omega))
  have hK46:=(((hs1.chg hCw25).chg hCw26).book hBkw27)
  have hK47:=(((hs2.chg hCw25).chg hCw26).book hBkw27)
  exact ⟨_,_,_,_,by rw [zrV hok],(hK46).now.mono (by omega) (Nat.le_refl _),(hK47).now.mono (by omega) (Nat.le_refl _),hX8⟩
 ·rintro D cc k w28 hD hk ⟨rfl,hX2,hX3,hs1,hs2,hEw⟩ hM
  have hzr:=hEw.size
  have hX2l:=hX2.lt;have hX3l:=hX3.lt
  have hMl:=hM.lt
  refine zaH (zu (zj ?_))
  obtain ⟨w29,hTw29,hCw29,hBkw29⟩:=zgV (P:=Tryz.prog) hM
  have hzw29:=hCw29.size
  exact zoz hTw29 (ze0 (by kernel_rfl) (show zO Tryz.prog 64 _ _ (.cell 2 114) (vA [(.slice a1 (hgt n+1) ca1),(.slice a2 (hgt n+1) ca2)]) from ⟨⟨w1.heap.size,0,none⟩,(by kernel_rfl),zE (T:=114) (vs:= [(.slice a1 (hgt n+1) ca1),(.slice a2 (hgt n+1) ca2)]) ((hX2.book hBkw29)).all (by kernel_rfl)⟩) (show zO Tryz.prog 64 _ _ (.cell 3 39) (vI (zaY n (zaG n t))) from ⟨⟨w2.heap.size,0,none⟩,(by kernel_rfl),zc3 (T:=39) (((hX3.book hBkw29)).cell rfl)⟩)) (⟨_,_,_,_,rfl,((hs1.book hBkw29)).now.mono (by omega) (Nat.le_refl _),((hs2.book hBkw29)).now.mono (by omega) (Nat.le_refl _),(hEw.book hBkw29 (by omega))⟩)
theorem zrU (n:Int) {lo_t hi_t:Nat} {a_t:Option Addr} {n_t c_t:Nat} {t:List Un} (w:World) (h_t:Ms unC 280 lo_t hi_t w a_t n_t c_t t) (hp0:¬(1≤n∧n≤4096)):
  Calls Tryz.prog 55 #[(vA [(.int .i64 n),(.slice a_t n_t c_t)])] w (Ret fun r w'=>∃(a0:Option Addr) (na0:Nat) (ca0:Nat) (a1:Option Addr) (na1:Nat) (ca1:Nat),r=(.tuple #[(vA [(.slice a0 na0 ca0),(.slice a1 na1 ca1)]),(vI 1)])∧Ext w w'):=by
 refine zcZ (n:=64) (σ:= [(0,(vA [(.int .i64 n),(.slice a_t n_t c_t)]))]) Tryz.func55 rfl ?_
 replace h_t:=h_t.now;have hle_t:=h_t.le
 refine wsr (za (zS (Instr.box 38 (vA [(.int .i64 n),(.slice a_t n_t c_t)])) (vP w.heap.size 0) ([(.int .i64 n),(.slice a_t n_t c_t)]) 38 ?_))
 intro w1 hBw1 hEw1 hzw1 hlw1
 refine za (zad ([(.slice none 0 0),(.slice none 0 0)]) 114 ?_)
 intro w2 hBw2 hEw2 hzw2 hlw2
 refine za (zad ([(vI 0)]) 39 ?_)
 intro w3 hBw3 hEw3 hzw3 hlw3
 refine zz (zb 1 [(13,(vP w.heap.size 0))] (za (zm w.heap.size 0 (((hBw1.ext hEw2).ext hEw3).cell rfl) ?_)))
 refine za (zt (zpo n _ (by omega)) ?_)
 rintro _ w4 ⟨rfl,hEw4⟩
 have hzw4:=hEw4.size
 refine zb 3 [(17,(vI 1)),(16,(vA [(.slice none 0 0),(.slice none 0 0)])),(12,(.tuple #[(vA [(.slice none 0 0),(.slice none 0 0)]),(vI 1)]))] (zal ([(.slice none 0 0),(.slice none 0 0)]) 114 rfl (by simp [Value.oneCell']) ?_)
 intro w5 hBw5 hEw5 hzw5 hlw5
 refine zb 1 [(5,(vI 1))] (zM (zb 1 [(18,(vI 1))] (za (zda 19 1 0 ?_))))
 refine wEt (zk (wsr (za (zV w4.heap.size 0 (hBw5.all) ?_))))
 refine zb 1 [(21,(vI 1))] ?_
 have hK1:=(((hBw2.ext hEw3).ext hEw4).ext hEw5)
 refine za (zC 114 w1.heap.size 0 114 (vA [(.slice none 0 0),(.slice none 0 0)]) ([(.slice none 0 0),(.slice none 0 0)]) ([(.slice none 0 0),(.slice none 0 0)]) hK1 (by kernel_rfl) (by first | decide |(simp;done)|(simp;omega)) (by simp [Value.oneCell']) ?_)
 have hK2:=(((hBw2.ext hEw3).ext hEw4).ext hEw5)
 intro w6 hBw6 hCw6
 have hzw6:=hCw6.size
 rw [zv _ _ (by kernel_rfl)] at hBw6
 have hK3:=(((hBw3.ext hEw4).ext hEw5).chg hCw6)
 refine za (zah 39 w2.heap.size 0 39 (vI 1) ([(vI 0)]) hK3 (by first | decide |(simp;done)|(simp;omega)) ?_)
 have hK4:=(((hBw3.ext hEw4).ext hEw5).chg hCw6)
 intro w7 hBw7 hCw7
 have hzw7:=hCw7.size
 replace hBw7:=hBw7.set1
 refine zF (zj (zfg (ze0 (by kernel_rfl) (show zO Tryz.prog 64 _ _ (.cell 2 114) (vA [(.slice none 0 0),(.slice none 0 0)]) from ⟨⟨w1.heap.size,0,none⟩,(by kernel_rfl),zE (T:=114) (vs:= [(.slice none 0 0),(.slice none 0 0)]) ((hBw6.chg hCw7)).all (by kernel_rfl)⟩) (show zO Tryz.prog 64 _ _ (.cell 3 39) (vI 1) from ⟨⟨w2.heap.size,0,none⟩,(by kernel_rfl),zc3 (T:=39) ((hBw7).cell rfl)⟩)) ?_))
 have hX1:Ext w w7:=(Ext.own (Ext.own ((((hEw1.trans hEw2).trans hEw3).trans hEw4).trans hEw5) hCw6 (by omega)) hCw7 (by omega))
 exact ⟨_,_,_,_,_,_,rfl,hX1⟩
theorem zr1 (n:Nat) {lo_t hi_t:Nat} {a_t:Option Addr} {n_t c_t:Nat} {t:List Un} (w:World) (h_t:Ms unC 280 lo_t hi_t w a_t n_t c_t t) (hp0:1≤n) (hp1:n≤4096) (hp2:n_t≠tot n):
  Calls Tryz.prog 55 #[(vA [(vI n),(.slice a_t n_t c_t)])] w (Ret fun r w'=>∃(a0:Option Addr) (na0:Nat) (ca0:Nat) (a1:Option Addr) (na1:Nat) (ca1:Nat),r=(.tuple #[(vA [(.slice a0 na0 ca0),(.slice a1 na1 ca1)]),(vI 1)])∧Ext w w'):=by
 refine zcZ (n:=64) (σ:= [(0,(vA [(vI n),(.slice a_t n_t c_t)]))]) Tryz.func55 rfl ?_
 replace h_t:=h_t.now;have hle_t:=h_t.le
 have h5:=zam n
 refine wsr (za (zS (Instr.box 38 (vA [(vI n),(.slice a_t n_t c_t)])) (vP w.heap.size 0) ([(vI n),(.slice a_t n_t c_t)]) 38 ?_))
 intro w1 hBw1 hEw1 hzw1 hlw1
 refine za (zad ([(.slice none 0 0),(.slice none 0 0)]) 114 ?_)
 intro w2 hBw2 hEw2 hzw2 hlw2
 refine za (zad ([(vI 0)]) 39 ?_)
 intro w3 hBw3 hEw3 hzw3 hlw3
 refine zz (zb 1 [(13,(vP w.heap.size 0))] (za (zm w.heap.size 0 (((hBw1.ext hEw2).ext hEw3).cell rfl) ?_)))
 refine za (zt (zlh n _ (by omega) (by omega)) ?_)
 rintro _ w4 ⟨a1,ca1,a2,ca2,rfl,hFz1_0,hFz1_1,hEw4⟩
 have hzw4:=hEw4.size
 have hlea1:=hFz1_0.le
 have hlea2:=hFz1_1.le
 refine zb 3 [(17,(vI 0)),(16,(vA [(.slice a1 (hgt n+1) ca1),(.slice a2 (hgt n+1) ca2)])),(12,(.tuple #[(vA [(.slice a1 (hgt n+1) ca1),(.slice a2 (hgt n+1) ca2)]),(vI 0)]))] (zal ([(.slice a1 (hgt n+1) ca1),(.slice a2 (hgt n+1) ca2)]) 114 rfl (by simp [Value.oneCell']) ?_)
 intro w5 hBw5 hEw5 hzw5 hlw5
 refine zb 1 [(5,(vI 0))] (zM (zb 1 [(18,(vI 0))] (za (zbe 19 0 0 ?_))))
 refine wEt (zf (zl (zc (zd (zd (zY 11 (fun w6 hEw6 hzw6 hT304=> ?_)))))))
 refine ze hT304 [(0,22,(vP w.heap.size 1))] 1 ?_
 have hK1:=(((((hBw1.ext hEw2).ext hEw3).ext hEw4).ext hEw5).ext hEw6)
 refine zx hT304 1 w.heap.size 1 (fun w' hC=>((hK1.ext hC).cell rfl)) (ze hT304 [(2,24,(vI n_t))] 1 (zbj hT304 3 w4.heap.size 0 (fun w' hC=>(((hBw5.ext hEw6).ext hC).all)) (zy 4 (zt (zjj n _ ((hFz1_0.ext hEw5).ext hEw6) ((hFz1_1.ext hEw5).ext hEw6) (by first | rfl | assumption) (by first | rfl | assumption) (by first | omega | decide) (by first | omega | decide)) ?_))))
 rintro _ w7 ⟨rfl,hEw7⟩
 have hzw7:=hEw7.size
 refine ⟨.inr hEw7, ?_⟩
 refine zr (hw:=hEw7) hT304 5 vT (zaS (((n_t:Nat):Int) !=((tot n:Nat):Int)) (zd1)) (ze (hw:=hEw7) hT304 [(6,28,vT),(7,29,undef),(8,30,undef),(9,31,undef),(10,32,vT)] 5 (zB (zc (zk (wsr (za (zV w4.heap.size 0 (((hBw5.ext hEw6).ext hEw7).all) ?_)))))))
 have hK2:=(((((hBw2.ext hEw3).ext hEw4).ext hEw5).ext hEw6).ext hEw7)
 refine za (zC 114 w1.heap.size 0 114 (vA [(.slice a1 (hgt n+1) ca1),(.slice a2 (hgt n+1) ca2)]) ([(.slice none 0 0),(.slice none 0 0)]) ([(.slice a1 (hgt n+1) ca1),(.slice a2 (hgt n+1) ca2)]) hK2 (by kernel_rfl) (by first | decide |(simp;done)|(simp;omega)) (by simp [Value.oneCell']) ?_)
 have hK3:=(((((hBw2.ext hEw3).ext hEw4).ext hEw5).ext hEw6).ext hEw7)
 intro w8 hBw8 hCw8
 have hzw8:=hCw8.size
 rw [zv _ _ (by kernel_rfl)] at hBw8
 have hK4:=(((((hBw3.ext hEw4).ext hEw5).ext hEw6).ext hEw7).chg hCw8)
 refine za (zah 39 w2.heap.size 0 39 (vI 1) ([(vI 0)]) hK4 (by first | decide |(simp;done)|(simp;omega)) ?_)
 have hK5:=(((((hBw3.ext hEw4).ext hEw5).ext hEw6).ext hEw7).chg hCw8)
 intro w9 hBw9 hCw9
 have hzw9:=hCw9.size
 replace hBw9:=hBw9.set1
 refine zF (zj (zfg (ze0 (by kernel_rfl) (show zO Tryz.prog 64 _ _ (.cell 2 114) (vA [(.slice a1 (hgt n+1) ca1),(.slice a2 (hgt n+1) ca2)]) from ⟨⟨w1.heap.size,0,none⟩,(by kernel_rfl),zE (T:=114) (vs:= [(.slice a1 (hgt n+1) ca1),(.slice a2 (hgt n+1) ca2)]) ((hBw8.chg hCw9)).all (by kernel_rfl)⟩) (show zO Tryz.prog 64 _ _ (.cell 3 39) (vI 1) from ⟨⟨w2.heap.size,0,none⟩,(by kernel_rfl),zc3 (T:=39) ((hBw9).cell rfl)⟩)) ?_))
 have hX1:Ext w w9:=(Ext.own (Ext.own ((((((hEw1.trans hEw2).trans hEw3).trans hEw4).trans hEw5).trans hEw6).trans hEw7) hCw8 (by omega)) hCw9 (by omega))
 exact ⟨_,_,_,_,_,_,rfl,hX1⟩
theorem zr3 (n:Nat) {lo_t hi_t:Nat} {a_t:Option Addr} {n_t c_t:Nat} {t:List Un} (w:World) (h_t:Ms unC 280 lo_t hi_t w a_t n_t c_t t) (hp0:1≤n) (hp1:n≤4096) (hp2:n_t=tot n) (hp3:¬(∀i,i<t.length→(t.getD i Un.zero).sl=0∨(t.getD i Un.zero).sl=1)):
  Calls Tryz.prog 55 #[(vA [(vI n),(.slice a_t n_t c_t)])] w (Ret fun r w'=>∃(a0:Option Addr) (na0:Nat) (ca0:Nat) (a1:Option Addr) (na1:Nat) (ca1:Nat),r=(.tuple #[(vA [(.slice a0 na0 ca0),(.slice a1 na1 ca1)]),(vI 1)])∧Ext w w'):=by
 refine zcZ (n:=64) (σ:= [(0,(vA [(vI n),(.slice a_t n_t c_t)]))]) Tryz.func55 rfl ?_
 replace h_t:=h_t.now;have hle_t:=h_t.le
 have h5:=zam n
 refine wsr (za (zS (Instr.box 38 (vA [(vI n),(.slice a_t n_t c_t)])) (vP w.heap.size 0) ([(vI n),(.slice a_t n_t c_t)]) 38 ?_))
 intro w1 hBw1 hEw1 hzw1 hlw1
 refine za (zad ([(.slice none 0 0),(.slice none 0 0)]) 114 ?_)
 intro w2 hBw2 hEw2 hzw2 hlw2
 refine za (zad ([(vI 0)]) 39 ?_)
 intro w3 hBw3 hEw3 hzw3 hlw3
 refine zz (zb 1 [(13,(vP w.heap.size 0))] (za (zm w.heap.size 0 (((hBw1.ext hEw2).ext hEw3).cell rfl) ?_)))
 refine za (zt (zlh n _ (by omega) (by omega)) ?_)
 rintro _ w4 ⟨a1,ca1,a2,ca2,rfl,hFz1_0,hFz1_1,hEw4⟩
 have hzw4:=hEw4.size
 have hlea1:=hFz1_0.le
 have hlea2:=hFz1_1.le
 refine zb 3 [(17,(vI 0)),(16,(vA [(.slice a1 (hgt n+1) ca1),(.slice a2 (hgt n+1) ca2)])),(12,(.tuple #[(vA [(.slice a1 (hgt n+1) ca1),(.slice a2 (hgt n+1) ca2)]),(vI 0)]))] (zal ([(.slice a1 (hgt n+1) ca1),(.slice a2 (hgt n+1) ca2)]) 114 rfl (by simp [Value.oneCell']) ?_)
 intro w5 hBw5 hEw5 hzw5 hlw5
 refine zb 1 [(5,(vI 0))] (zM (zb 1 [(18,(vI 0))] (za (zbe 19 0 0 ?_))))
 refine wEt (zf (zl (zc (zd (zd (zY 11 (fun w6 hEw6 hzw6 hT348=> ?_)))))))
 refine ze hT348 [(0,22,(vP w.heap.size 1))] 1 ?_
 have hK1:=(((((hBw1.ext hEw2).ext hEw3).ext hEw4).ext hEw5).ext hEw6)
 refine zx hT348 1 w.heap.size 1 (fun w' hC=>((hK1.ext hC).cell rfl)) (ze hT348 [(2,24,(vI n_t))] 1 (zbj hT348 3 w4.heap.size 0 (fun w' hC=>(((hBw5.ext hEw6).ext hC).all)) (zy 4 (zt (zjj n _ ((hFz1_0.ext hEw5).ext hEw6) ((hFz1_1.ext hEw5).ext hEw6) (by first | rfl | assumption) (by first | rfl | assumption) (by first | omega | decide) (by first | omega | decide)) ?_))))
 rintro _ w7 ⟨rfl,hEw7⟩
 have hzw7:=hEw7.size
 refine ⟨.inr hEw7, ?_⟩
 refine zr (hw:=hEw7) hT348 5 vF (zaS (((n_t:Nat):Int) !=((tot n:Nat):Int)) (zcb)) (ze (hw:=hEw7) hT348 [(6,28,vF),(7,29,(vP w.heap.size 1))] 2 (zx (hw:=hEw7) hT348 8 w.heap.size 1 (fun w' hC=>((hK1.ext hC).cell rfl)) ?_))
 have hX1:=((hEw1.trans hEw2).trans hEw3).trans hEw4
 have hK2:=((((h_t.ext hX1).ext hEw5).ext hEw6).ext hEw7)
 refine zy 9 (zt (zte _ hK2 (hp3)) ?_)
 rintro _ w8 ⟨rfl,hEw8⟩
 have hzw8:=hEw8.size
 have hX2:Ext w6 w8:=(hEw7.trans hEw8)
 refine ⟨.inr hX2, ?_⟩
 refine ze (hw:=hX2) hT348 [(10,32,vT)] 1 (zB (zc (zk (wsr ?_))))
 have hK3:=(((hBw5.ext hEw6).ext hEw7).ext hEw8)
 refine za (zV w4.heap.size 0 (hK3.all) ?_)
 have hX3:=((hEw5.trans hEw6).trans hEw7).trans hEw8
 have hK4:=(((hBw2.ext hEw3).ext hEw4).ext hX3)
 refine za (zC 114 w1.heap.size 0 114 (vA [(.slice a1 (hgt n+1) ca1),(.slice a2 (hgt n+1) ca2)]) ([(.slice none 0 0),(.slice none 0 0)]) ([(.slice a1 (hgt n+1) ca1),(.slice a2 (hgt n+1) ca2)]) hK4 (by kernel_rfl) (by first | decide |(simp;done)|(simp;omega)) (by simp [Value.oneCell']) ?_)
 have hK5:=(((hBw2.ext hEw3).ext hEw4).ext hX3)
 intro w9 hBw9 hCw9
 have hzw9:=hCw9.size
 rw [zv _ _ (by kernel_rfl)] at hBw9
 have hK6:=(((hBw3.ext hEw4).ext hX3).chg hCw9)
 refine za (zah 39 w2.heap.size 0 39 (vI 1) ([(vI 0)]) hK6 (by first | decide |(simp;done)|(simp;omega)) ?_)
 have hK7:=(((hBw3.ext hEw4).ext hX3).chg hCw9)
 intro w10 hBw10 hCw10
 have hzw10:=hCw10.size
 replace hBw10:=hBw10.set1
 refine zF (zj (zfg (ze0 (by kernel_rfl) (show zO Tryz.prog 64 _ _ (.cell 2 114) (vA [(.slice a1 (hgt n+1) ca1),(.slice a2 (hgt n+1) ca2)]) from ⟨⟨w1.heap.size,0,none⟩,(by kernel_rfl),zE (T:=114) (vs:= [(.slice a1 (hgt n+1) ca1),(.slice a2 (hgt n+1) ca2)]) ((hBw9.chg hCw10)).all (by kernel_rfl)⟩) (show zO Tryz.prog 64 _ _ (.cell 3 39) (vI 1) from ⟨⟨w2.heap.size,0,none⟩,(by kernel_rfl),zc3 (T:=39) ((hBw10).cell rfl)⟩)) ?_))
 have hX4:Ext w w10:=(Ext.own (Ext.own (hX1.trans hX3) hCw9 (by omega)) hCw10 (by omega))
 exact ⟨_,_,_,_,_,_,rfl,hX4⟩
theorem zkk (n:Int) {lo_t hi_t:Nat} {a_t:Option Addr} {n_t c_t:Nat} {t:List Un} (w:World) (h_t:Ms unC 280 lo_t hi_t w a_t n_t c_t t) (hp0:¬(1≤n∧n≤4096∧t.length=tot n.toNat∧zej t=true)):
  Calls Tryz.prog 55 #[(vA [(.int .i64 n),(.slice a_t n_t c_t)])] w (Ret fun r w'=>∃(a0:Option Addr) (na0:Nat) (ca0:Nat) (a1:Option Addr) (na1:Nat) (ca1:Nat),r=(.tuple #[(vA [(.slice a0 na0 ca0),(.slice a1 na1 ca1)]),(vI 1)])∧Ext w w'):=by
 have hlt:=h_t.len_eq
 by_cases h:1≤n∧n≤4096
 ·obtain ⟨m,rfl⟩:=Int.eq_ofNat_of_zero_le (show 0≤n by omega)
  rw [Int.toNat_natCast] at hp0
  by_cases h2:n_t=tot m
  ·exact zr3 m w h_t (by omega) (by omega) h2 (fun hh=>hp0 ⟨h.1,h.2,by omega,zci.2 hh⟩)
  ·exact zr1 m w h_t (by omega) (by omega) h2
 ·exact zrU n w h_t h
theorem zsx (n:Nat) {lo_t hi_t:Nat} {a_t:Option Addr} {n_t c_t:Nat} {t:List Un} (w:World) (h_t:Ms unC 280 lo_t hi_t w a_t n_t c_t t) (hp0:1≤n) (hp1:n≤4096) (hp2:n_t=tot n) (hp3:∀i,i<t.length→(t.getD i Un.zero).sl=0∨(t.getD i Un.zero).sl=1) (hg0:Gl 0 [vI 45,vI 33] w) (hg1:Gl 1 (w8C zaV) w) (hg2:Gl 3 (zas kA) w):
  Calls Tryz.prog 23 #[(vA [(vI n),(.slice a_t n_t c_t)])] w (Ret fun r w'=>r=(vI (zaY n (zaG n t)))∧Ext w w'):=by
 refine zw (n:=11) (σ:= [(0,(vA [(vI n),(.slice a_t n_t c_t)]))]) Tryz.func23 rfl ?_
 replace h_t:=h_t.now;have hle_t:=h_t.le
 have hgl0:=hg0.lt
 have hgl1:=hg1.lt
 have hgl2:=hg2.lt
 have h5:=zam n
 have hlt:=h_t.len_eq
 have hts:=zau hp1
 have hle:=h_t.le
 refine wsr (za (zS (Instr.box 38 (vA [(vI n),(.slice a_t n_t c_t)])) (vP w.heap.size 0) ([(vI n),(.slice a_t n_t c_t)]) 38 ?_))
 intro w1 hBw1 hEw1 hzw1 hlw1
 refine zb 1 [(2,(vI 0))] (zz (za (zV w.heap.size 0 (hBw1.all) ?_)))
 refine za (zt (zg7 n _ (h_t.ext hEw1) (by omega) (by omega) (by omega) (by assumption) (hg0.ext hEw1) (hg1.ext hEw1) (hg2.ext hEw1)) ?_)
 rintro _ w2 ⟨a1,ca1,a2,ca2,rfl,hFz1_0,hFz1_1,hEw2⟩
 have hzw2:=hEw2.size
 have hlea1:=hFz1_0.le
 have hlea2:=hFz1_1.le
 refine zb 3 [(9,(vI (zaY n (zaG n t)))),(8,(vA [(.slice a1 (hgt n+1) ca1),(.slice a2 (hgt n+1) ca2)])),(5,(.tuple #[(vA [(.slice a1 (hgt n+1) ca1),(.slice a2 (hgt n+1) ca2)]),(vI (zaY n (zaG n t)))]))] (zal ([(.slice a1 (hgt n+1) ca1),(.slice a2 (hgt n+1) ca2)]) 114 rfl (by simp [Value.oneCell']) ?_)
 intro w3 hBw3 hEw3 hzw3 hlw3
 refine zb 1 [(4,(vI (zaY n (zaG n t))))] (zz (zb 2 [(2,(vI (zaY n (zaG n t)))),(10,(vI (zaY n (zaG n t))))] (zF (zh (vI (zaY n (zaG n t))) ?_))))
 exact ⟨rfl,((hEw1.trans hEw2).trans hEw3)⟩
theorem zui (n:Int) {lo_t hi_t:Nat} {a_t:Option Addr} {n_t c_t:Nat} {t:List Un} (w:World) (h_t:Ms unC 280 lo_t hi_t w a_t n_t c_t t) (hp0:¬(1≤n∧n≤4096∧t.length=tot n.toNat∧zej t=true)):
  Calls Tryz.prog 23 #[(vA [(.int .i64 n),(.slice a_t n_t c_t)])] w (Ret fun r w'=>r=(vI 1)∧Ext w w'):=by
 refine zw (n:=11) (σ:= [(0,(vA [(.int .i64 n),(.slice a_t n_t c_t)]))]) Tryz.func23 rfl ?_
 replace h_t:=h_t.now;have hle_t:=h_t.le
 refine wsr (za (zS (Instr.box 38 (vA [(.int .i64 n),(.slice a_t n_t c_t)])) (vP w.heap.size 0) ([(.int .i64 n),(.slice a_t n_t c_t)]) 38 ?_))
 intro w1 hBw1 hEw1 hzw1 hlw1
 refine zb 1 [(2,(vI 0))] (zz (za (zV w.heap.size 0 (hBw1.all) ?_)))
 refine za (zt (zkk n _ (h_t.ext hEw1) (by assumption)) ?_)
 rintro _ w2 ⟨a1,na1,ca1,a2,na2,ca2,rfl,hEw2⟩
 have hzw2:=hEw2.size
 refine zb 3 [(9,(vI 1)),(8,(vA [(.slice a1 na1 ca1),(.slice a2 na2 ca2)])),(5,(.tuple #[(vA [(.slice a1 na1 ca1),(.slice a2 na2 ca2)]),(vI 1)]))] (zal ([(.slice a1 na1 ca1),(.slice a2 na2 ca2)]) 114 rfl (by simp [Value.oneCell']) ?_)
 intro w3 hBw3 hEw3 hzw3 hlw3
 refine zb 1 [(4,(vI 1))] (zz (zb 2 [(2,(vI 1)),(10,(vI 1))] (zF (zh (vI 1) ?_))))
 exact ⟨rfl,((hEw1.trans hEw2).trans hEw3)⟩
theorem zfk (n:Int) {lo_t hi_t:Nat} {a_t:Option Addr} {n_t c_t:Nat} {t:List Un} (w:World) (h_t:Ms unC 280 lo_t hi_t w a_t n_t c_t t) (hg0:Gl 0 [vI 45,vI 33] w) (hg1:Gl 1 (w8C zaV) w) (hg2:Gl 3 (zas kA) w):
  Calls Tryz.prog 23 #[(vA [(.int .i64 n),(.slice a_t n_t c_t)])] w (Ret fun r w'=>r=(vI (zaf n t))∧Ext w w'):=by
 have hlt:=h_t.len_eq
 by_cases h:1≤n∧n≤4096∧t.length=tot n.toNat∧zej t=true
 ·obtain ⟨m,rfl⟩:=Int.eq_ofNat_of_zero_le (show 0≤n by omega)
  have h2:=h.2.2;rw [Int.toNat_natCast] at h2
  rw [zdC (by omega) (by omega) h2.1 h2.2];exact zsx m w h_t (by omega) (by omega) (by omega) (zci.1 h2.2) hg0 hg1 hg2
 ·rw [zes h];exact zui n w h_t h
end Go.Proofs.YtkmhgepdhilllaaGreatDoor
namespace Go.Proofs.YtkmhgepdhilllaaGreatDoor
open Go Go.RowKit Go.Cs
set_option maxRecDepth 100000
theorem zmn (n:Nat) {lo_t hi_t:Nat} {a_t:Option Addr} {n_t c_t:Nat} {t:List Un} (b:Nat) (w:World) (h_t:Ms unC 280 lo_t hi_t w a_t n_t c_t t) (hp0:1≤n) (hp1:n≤4096) (hp2:n_t=tot n) (hp3:∀i,i<t.length→(t.getD i Un.zero).sl=0∨(t.getD i Un.zero).sl=1) (hp4:zaY n (zaG n t)=0) (hp5:b<n) (hg0:Gl 0 [vI 45,vI 33] w) (hg1:Gl 1 (w8C zaV) w) (hg2:Gl 3 (zas kA) w):
  Calls Tryz.prog 50 #[(vA [(vI n),(.slice a_t n_t c_t)]),(vI b)] w (Ret fun r w'=>∃a0 ca0 a1 ca1,r=(.tuple #[(vA [(.slice a0 (hgt n+1) ca0),(.slice a1 (hgt n+1) ca1)]),(vI 0)])∧Es (nv .i64) w.heap.size w'.heap.size w' a0 (hgt n+1) ca0 (za9 n (hgt n+1))∧Es (nv .i64) w.heap.size w'.heap.size w' a1 (hgt n+1) ca1 (zbk n (hgt n+1))∧Ext w w'):=by
 refine zw (n:=27) (σ:= [(0,(vA [(vI n),(.slice a_t n_t c_t)])),(1,(vI b))]) Tryz.func50 rfl ?_
 replace h_t:=h_t.now;have hle_t:=h_t.le
 have hgl0:=hg0.lt
 have hgl1:=hg1.lt
 have hgl2:=hg2.lt
 have h5:=zam n
 have hlt:=h_t.len_eq
 have hts:=zau hp1
 have hle:=h_t.le
 refine wsr (za (zS (Instr.box 38 (vA [(vI n),(.slice a_t n_t c_t)])) (vP w.heap.size 0) ([(vI n),(.slice a_t n_t c_t)]) 38 ?_))
 intro w1 hBw1 hEw1 hzw1 hlw1
 refine za (zad ([(.slice none 0 0),(.slice none 0 0)]) 114 ?_)
 intro w2 hBw2 hEw2 hzw2 hlw2
 refine zb 1 [(5,(vI 0))] (zz (za (zV w.heap.size 0 ((hBw1.ext hEw2).all) ?_)))
 refine za (zt (zg7 n _ ((h_t.ext hEw1).ext hEw2) (by omega) (by omega) (by omega) (by assumption) ((hg0.ext hEw1).ext hEw2) ((hg1.ext hEw1).ext hEw2) ((hg2.ext hEw1).ext hEw2)) ?_)
 rintro _ w3 ⟨a1,ca1,a2,ca2,rfl,hFz1_0,hFz1_1,hEw3⟩
 have hzw3:=hEw3.size
 have hlea1:=hFz1_0.le
 have hlea2:=hFz1_1.le
 rw [show zaY n (zaG n t)=0 from hp4]
 refine zb 3 [(12,(vI 0)),(11,(vA [(.slice a1 (hgt n+1) ca1),(.slice a2 (hgt n+1) ca2)])),(8,(.tuple #[(vA [(.slice a1 (hgt n+1) ca1),(.slice a2 (hgt n+1) ca2)]),(vI 0)]))] (zal ([(.slice a1 (hgt n+1) ca1),(.slice a2 (hgt n+1) ca2)]) 114 rfl (by simp [Value.oneCell']) ?_)
 intro w4 hBw4 hEw4 hzw4 hlw4
 refine zb 1 [(7,(vI 0))] (zM (zb 4 [(16,(vI b)),(15,vT),(14,vT),(13,(vI 0))] (za (zjL 17 b 0 ?_))))
 refine zb 3 [(20,(vP w.heap.size 0)),(19,(vI b)),(18,vF)] ?_
 have hK1:=(((hBw1.ext hEw2).ext hEw3).ext hEw4)
 refine za (zm w.heap.size 0 (hK1.cell rfl) ?_)
 refine za (zuX 22 b n ?_)
 refine zb 2 [(24,vF),(23,vF)] (wEt (zf (zl (zc (wsr (za (zV w3.heap.size 0 (hBw4.all) ?_)))))))
 refine zb 1 [(26,(vI 0))] (za (zC 114 w1.heap.size 0 114 (vA [(.slice a1 (hgt n+1) ca1),(.slice a2 (hgt n+1) ca2)]) ([(.slice none 0 0),(.slice none 0 0)]) ([(.slice a1 (hgt n+1) ca1),(.slice a2 (hgt n+1) ca2)]) ((hBw2.ext hEw3).ext hEw4) (by kernel_rfl) (by first | decide |(simp;done)|(simp;omega)) (by simp [Value.oneCell']) ?_))
 intro w5 hBw5 hCw5
 have hzw5:=hCw5.size
 rw [zv _ _ (by kernel_rfl)] at hBw5
 refine zb 1 [(5,(vI 0))] (zF (zaQ (show zO Tryz.prog 27 _ _ (.cell 4 114) (vA [(.slice a1 (hgt n+1) ca1),(.slice a2 (hgt n+1) ca2)]) from ⟨⟨w1.heap.size,0,none⟩,(by kernel_rfl),zE (T:=114) (vs:= [(.slice a1 (hgt n+1) ca1),(.slice a2 (hgt n+1) ca2)]) (hBw5).all (by kernel_rfl)⟩) (show zO Tryz.prog 27 _ _ (.tmp 5) (vI 0) by (show _=_;kernel_rfl)) ?_))
 have hX1:Ext w w5:=(Ext.own (((hEw1.trans hEw2).trans hEw3).trans hEw4) hCw5 (by omega))
 exact ⟨_,_,_,_,rfl,(((hFz1_0.ext hEw4).chg hCw5)).now.mono (by omega) (Nat.le_refl _),(((hFz1_1.ext hEw4).chg hCw5)).now.mono (by omega) (Nat.le_refl _),hX1⟩
theorem zj4 (n:Nat) {lo_t hi_t:Nat} {a_t:Option Addr} {n_t c_t:Nat} {t:List Un} (b:Int) (w:World) (h_t:Ms unC 280 lo_t hi_t w a_t n_t c_t t) (hp0:1≤n) (hp1:n≤4096) (hp2:n_t=tot n) (hp3:∀i,i<t.length→(t.getD i Un.zero).sl=0∨(t.getD i Un.zero).sl=1) (hp4:zaY n (zaG n t)=0) (hp5:¬(0≤b∧b<n)) (hg0:Gl 0 [vI 45,vI 33] w) (hg1:Gl 1 (w8C zaV) w) (hg2:Gl 3 (zas kA) w):
  Calls Tryz.prog 50 #[(vA [(vI n),(.slice a_t n_t c_t)]),(.int .i64 b)] w (Ret fun r w'=>∃(a0:Option Addr) (na0:Nat) (ca0:Nat) (a1:Option Addr) (na1:Nat) (ca1:Nat),r=(.tuple #[(vA [(.slice a0 na0 ca0),(.slice a1 na1 ca1)]),(vI 1)])∧Ext w w'):=by
 refine zw (n:=27) (σ:= [(0,(vA [(vI n),(.slice a_t n_t c_t)])),(1,(.int .i64 b))]) Tryz.func50 rfl ?_
 replace h_t:=h_t.now;have hle_t:=h_t.le
 have hgl0:=hg0.lt
 have hgl1:=hg1.lt
 have hgl2:=hg2.lt
 have h5:=zam n
 have hlt:=h_t.len_eq
 have hts:=zau hp1
 have hle:=h_t.le
 refine wsr (za (zS (Instr.box 38 (vA [(vI n),(.slice a_t n_t c_t)])) (vP w.heap.size 0) ([(vI n),(.slice a_t n_t c_t)]) 38 ?_))
 intro w1 hBw1 hEw1 hzw1 hlw1
 refine za (zad ([(.slice none 0 0),(.slice none 0 0)]) 114 ?_)
 intro w2 hBw2 hEw2 hzw2 hlw2
 refine zb 1 [(5,(vI 0))] (zz (za (zV w.heap.size 0 ((hBw1.ext hEw2).all) ?_)))
 refine za (zt (zg7 n _ ((h_t.ext hEw1).ext hEw2) (by omega) (by omega) (by omega) (by assumption) ((hg0.ext hEw1).ext hEw2) ((hg1.ext hEw1).ext hEw2) ((hg2.ext hEw1).ext hEw2)) ?_)
 rintro _ w3 ⟨a1,ca1,a2,ca2,rfl,hFz1_0,hFz1_1,hEw3⟩
 have hzw3:=hEw3.size
 have hlea1:=hFz1_0.le
 have hlea2:=hFz1_1.le
 rw [show zaY n (zaG n t)=0 from hp4]
 refine zb 3 [(12,(vI 0)),(11,(vA [(.slice a1 (hgt n+1) ca1),(.slice a2 (hgt n+1) ca2)])),(8,(.tuple #[(vA [(.slice a1 (hgt n+1) ca1),(.slice a2 (hgt n+1) ca2)]),(vI 0)]))] (zal ([(.slice a1 (hgt n+1) ca1),(.slice a2 (hgt n+1) ca2)]) 114 rfl (by simp [Value.oneCell']) ?_)
 intro w4 hBw4 hEw4 hzw4 hlw4
 refine zb 1 [(7,(vI 0))] (zM (zb 4 [(16,(.int .i64 b)),(15,vT),(14,vT),(13,(vI 0))] (za (zmL 17 b ((0:Nat):Int) (fun hc17=> ?_) (fun hc17=> ?_)))))
 ·refine zb 7 [(24,vT),(23,vT),(22,undef),(21,undef),(20,undef),(19,undef),(18,vT)] (wEt (zk (zg (zb 1 [(7,(vI 1))] (zz ?_)))))
  refine za (zV w3.heap.size 0 (hBw4.all) ?_)
  refine zb 1 [(26,(vI 1))] (za (zC 114 w1.heap.size 0 114 (vA [(.slice a1 (hgt n+1) ca1),(.slice a2 (hgt n+1) ca2)]) ([(.slice none 0 0),(.slice none 0 0)]) ([(.slice a1 (hgt n+1) ca1),(.slice a2 (hgt n+1) ca2)]) ((hBw2.ext hEw3).ext hEw4) (by kernel_rfl) (by first | decide |(simp;done)|(simp;omega)) (by simp [Value.oneCell']) ?_))
  intro w5 hBw5 hCw5
  have hzw5:=hCw5.size
  rw [zv _ _ (by kernel_rfl)] at hBw5
  refine zb 1 [(5,(vI 1))] (zF (zaQ (show zO Tryz.prog 27 _ _ (.cell 4 114) (vA [(.slice a1 (hgt n+1) ca1),(.slice a2 (hgt n+1) ca2)]) from ⟨⟨w1.heap.size,0,none⟩,(by kernel_rfl),zE (T:=114) (vs:= [(.slice a1 (hgt n+1) ca1),(.slice a2 (hgt n+1) ca2)]) (hBw5).all (by kernel_rfl)⟩) (show zO Tryz.prog 27 _ _ (.tmp 5) (vI 1) by (show _=_;kernel_rfl)) ?_))
  have hX1:Ext w w5:=(Ext.own (((hEw1.trans hEw2).trans hEw3).trans hEw4) hCw5 (by omega))
  exact ⟨_,_,_,_,_,_,rfl,hX1⟩
 ·refine zb 3 [(20,(vP w.heap.size 0)),(19,(.int .i64 b)),(18,vF)] ?_
  have hK1:=(((hBw1.ext hEw2).ext hEw3).ext hEw4)
  refine za (zm w.heap.size 0 (hK1.cell rfl) ?_)
  refine za (zbn (some 22) (decide (b≥((n:Nat):Int))) true (zeA) ?_)
  refine zb 2 [(24,vT),(23,vT)] (wEt (zk (zg (zb 1 [(7,(vI 1))] (zz ?_)))))
  refine za (zV w3.heap.size 0 (hBw4.all) ?_)
  refine zb 1 [(26,(vI 1))] (za (zC 114 w1.heap.size 0 114 (vA [(.slice a1 (hgt n+1) ca1),(.slice a2 (hgt n+1) ca2)]) ([(.slice none 0 0),(.slice none 0 0)]) ([(.slice a1 (hgt n+1) ca1),(.slice a2 (hgt n+1) ca2)]) ((hBw2.ext hEw3).ext hEw4) (by kernel_rfl) (by first | decide |(simp;done)|(simp;omega)) (by simp [Value.oneCell']) ?_))
  intro w6 hBw6 hCw6
  have hzw6:=hCw6.size
  rw [zv _ _ (by kernel_rfl)] at hBw6
  refine zb 1 [(5,(vI 1))] (zF (zaQ (show zO Tryz.prog 27 _ _ (.cell 4 114) (vA [(.slice a1 (hgt n+1) ca1),(.slice a2 (hgt n+1) ca2)]) from ⟨⟨w1.heap.size,0,none⟩,(by kernel_rfl),zE (T:=114) (vs:= [(.slice a1 (hgt n+1) ca1),(.slice a2 (hgt n+1) ca2)]) (hBw6).all (by kernel_rfl)⟩) (show zO Tryz.prog 27 _ _ (.tmp 5) (vI 1) by (show _=_;kernel_rfl)) ?_))
  have hX2:Ext w w6:=(Ext.own (((hEw1.trans hEw2).trans hEw3).trans hEw4) hCw6 (by omega))
  exact ⟨_,_,_,_,_,_,rfl,hX2⟩
theorem zqU (n:Nat) {lo_t hi_t:Nat} {a_t:Option Addr} {n_t c_t:Nat} {t:List Un} (b:Int) (w:World) (h_t:Ms unC 280 lo_t hi_t w a_t n_t c_t t) (hp0:1≤n) (hp1:n≤4096) (hp2:n_t=tot n) (hp3:∀i,i<t.length→(t.getD i Un.zero).sl=0∨(t.getD i Un.zero).sl=1) (hp4:¬zaY n (zaG n t)=0) (hg0:Gl 0 [vI 45,vI 33] w) (hg1:Gl 1 (w8C zaV) w) (hg2:Gl 3 (zas kA) w):
  Calls Tryz.prog 50 #[(vA [(vI n),(.slice a_t n_t c_t)]),(.int .i64 b)] w (Ret fun r w'=>∃(a0:Option Addr) (na0:Nat) (ca0:Nat) (a1:Option Addr) (na1:Nat) (ca1:Nat),r=(.tuple #[(vA [(.slice a0 na0 ca0),(.slice a1 na1 ca1)]),(vI (zaY n (zaG n t)))])∧Ext w w'):=by
 refine zw (n:=27) (σ:= [(0,(vA [(vI n),(.slice a_t n_t c_t)])),(1,(.int .i64 b))]) Tryz.func50 rfl ?_
 replace h_t:=h_t.now;have hle_t:=h_t.le
 have hgl0:=hg0.lt
 have hgl1:=hg1.lt
 have hgl2:=hg2.lt
 have h5:=zam n
 have hlt:=h_t.len_eq
 have hts:=zau hp1
 have hle:=h_t.le
 refine wsr (za (zS (Instr.box 38 (vA [(vI n),(.slice a_t n_t c_t)])) (vP w.heap.size 0) ([(vI n),(.slice a_t n_t c_t)]) 38 ?_))
 intro w1 hBw1 hEw1 hzw1 hlw1
 refine za (zad ([(.slice none 0 0),(.slice none 0 0)]) 114 ?_)
 intro w2 hBw2 hEw2 hzw2 hlw2
 refine zb 1 [(5,(vI 0))] (zz (za (zV w.heap.size 0 ((hBw1.ext hEw2).all) ?_)))
 refine za (zt (zg7 n _ ((h_t.ext hEw1).ext hEw2) (by omega) (by omega) (by omega) (by assumption) ((hg0.ext hEw1).ext hEw2) ((hg1.ext hEw1).ext hEw2) ((hg2.ext hEw1).ext hEw2)) ?_)
 rintro _ w3 ⟨a1,ca1,a2,ca2,rfl,hFz1_0,hFz1_1,hEw3⟩
 have hzw3:=hEw3.size
 have hlea1:=hFz1_0.le
 have hlea2:=hFz1_1.le
 refine zb 3 [(12,(vI (zaY n (zaG n t)))),(11,(vA [(.slice a1 (hgt n+1) ca1),(.slice a2 (hgt n+1) ca2)])),(8,(.tuple #[(vA [(.slice a1 (hgt n+1) ca1),(.slice a2 (hgt n+1) ca2)]),(vI (zaY n (zaG n t)))]))] (zal ([(.slice a1 (hgt n+1) ca1),(.slice a2 (hgt n+1) ca2)]) 114 rfl (by simp [Value.oneCell']) ?_)
 intro w4 hBw4 hEw4 hzw4 hlw4
 refine zb 1 [(7,(vI (zaY n (zaG n t))))] (zM (zb 1 [(13,(vI (zaY n (zaG n t))))] (za (zdv 14 (zaY n (zaG n t)) 0 ?_))))
 refine zb 10 [(24,vF),(23,undef),(22,undef),(21,undef),(20,undef),(19,undef),(18,undef),(17,undef),(16,undef),(15,vF)] (wEt (zf (zl (zc (wsr (za (zV w3.heap.size 0 (hBw4.all) ?_)))))))
 refine zb 1 [(26,(vI (zaY n (zaG n t))))] (za (zC 114 w1.heap.size 0 114 (vA [(.slice a1 (hgt n+1) ca1),(.slice a2 (hgt n+1) ca2)]) ([(.slice none 0 0),(.slice none 0 0)]) ([(.slice a1 (hgt n+1) ca1),(.slice a2 (hgt n+1) ca2)]) ((hBw2.ext hEw3).ext hEw4) (by kernel_rfl) (by first | decide |(simp;done)|(simp;omega)) (by simp [Value.oneCell']) ?_))
 intro w5 hBw5 hCw5
 have hzw5:=hCw5.size
 rw [zv _ _ (by kernel_rfl)] at hBw5
 refine zb 1 [(5,(vI (zaY n (zaG n t))))] (zF (zaQ (show zO Tryz.prog 27 _ _ (.cell 4 114) (vA [(.slice a1 (hgt n+1) ca1),(.slice a2 (hgt n+1) ca2)]) from ⟨⟨w1.heap.size,0,none⟩,(by kernel_rfl),zE (T:=114) (vs:= [(.slice a1 (hgt n+1) ca1),(.slice a2 (hgt n+1) ca2)]) (hBw5).all (by kernel_rfl)⟩) (show zO Tryz.prog 27 _ _ (.tmp 5) (vI (zaY n (zaG n t))) by (show _=_;kernel_rfl)) ?_))
 have hX1:Ext w w5:=(Ext.own (((hEw1.trans hEw2).trans hEw3).trans hEw4) hCw5 (by omega))
 exact ⟨_,_,_,_,_,_,rfl,hX1⟩
theorem zry (n:Int) {lo_t hi_t:Nat} {a_t:Option Addr} {n_t c_t:Nat} {t:List Un} (b:Int) (w:World) (h_t:Ms unC 280 lo_t hi_t w a_t n_t c_t t) (hp0:¬(1≤n∧n≤4096∧t.length=tot n.toNat∧zej t=true)):
  Calls Tryz.prog 50 #[(vA [(.int .i64 n),(.slice a_t n_t c_t)]),(.int .i64 b)] w (Ret fun r w'=>∃(a0:Option Addr) (na0:Nat) (ca0:Nat) (a1:Option Addr) (na1:Nat) (ca1:Nat),r=(.tuple #[(vA [(.slice a0 na0 ca0),(.slice a1 na1 ca1)]),(vI 1)])∧Ext w w'):=by
 refine zw (n:=27) (σ:= [(0,(vA [(.int .i64 n),(.slice a_t n_t c_t)])),(1,(.int .i64 b))]) Tryz.func50 rfl ?_
 replace h_t:=h_t.now;have hle_t:=h_t.le
 refine wsr (za (zS (Instr.box 38 (vA [(.int .i64 n),(.slice a_t n_t c_t)])) (vP w.heap.size 0) ([(.int .i64 n),(.slice a_t n_t c_t)]) 38 ?_))
 intro w1 hBw1 hEw1 hzw1 hlw1
 refine za (zad ([(.slice none 0 0),(.slice none 0 0)]) 114 ?_)
 intro w2 hBw2 hEw2 hzw2 hlw2
 refine zb 1 [(5,(vI 0))] (zz (za (zV w.heap.size 0 ((hBw1.ext hEw2).all) ?_)))
 refine za (zt (zkk n _ ((h_t.ext hEw1).ext hEw2) (by assumption)) ?_)
 rintro _ w3 ⟨a1,na1,ca1,a2,na2,ca2,rfl,hEw3⟩
 have hzw3:=hEw3.size
 refine zb 3 [(12,(vI 1)),(11,(vA [(.slice a1 na1 ca1),(.slice a2 na2 ca2)])),(8,(.tuple #[(vA [(.slice a1 na1 ca1),(.slice a2 na2 ca2)]),(vI 1)]))] (zal ([(.slice a1 na1 ca1),(.slice a2 na2 ca2)]) 114 rfl (by simp [Value.oneCell']) ?_)
 intro w4 hBw4 hEw4 hzw4 hlw4
 refine zb 1 [(7,(vI 1))] (zM (zb 1 [(13,(vI 1))] (za (zdv 14 1 0 ?_))))
 refine zb 10 [(24,vF),(23,undef),(22,undef),(21,undef),(20,undef),(19,undef),(18,undef),(17,undef),(16,undef),(15,vF)] (wEt (zf (zl (zc (wsr (za (zV w3.heap.size 0 (hBw4.all) ?_)))))))
 refine zb 1 [(26,(vI 1))] (za (zC 114 w1.heap.size 0 114 (vA [(.slice a1 na1 ca1),(.slice a2 na2 ca2)]) ([(.slice none 0 0),(.slice none 0 0)]) ([(.slice a1 na1 ca1),(.slice a2 na2 ca2)]) ((hBw2.ext hEw3).ext hEw4) (by kernel_rfl) (by first | decide |(simp;done)|(simp;omega)) (by simp [Value.oneCell']) ?_))
 intro w5 hBw5 hCw5
 have hzw5:=hCw5.size
 rw [zv _ _ (by kernel_rfl)] at hBw5
 refine zb 1 [(5,(vI 1))] (zF (zaQ (show zO Tryz.prog 27 _ _ (.cell 4 114) (vA [(.slice a1 na1 ca1),(.slice a2 na2 ca2)]) from ⟨⟨w1.heap.size,0,none⟩,(by kernel_rfl),zE (T:=114) (vs:= [(.slice a1 na1 ca1),(.slice a2 na2 ca2)]) (hBw5).all (by kernel_rfl)⟩) (show zO Tryz.prog 27 _ _ (.tmp 5) (vI 1) by (show _=_;kernel_rfl)) ?_))
 have hX1:Ext w w5:=(Ext.own (((hEw1.trans hEw2).trans hEw3).trans hEw4) hCw5 (by omega))
 exact ⟨_,_,_,_,_,_,rfl,hX1⟩
theorem zkt (n:Int) {lo_t hi_t:Nat} {a_t:Option Addr} {n_t c_t:Nat} {t:List Un} (b:Int) (w:World) (h_t:Ms unC 280 lo_t hi_t w a_t n_t c_t t) (hp0:¬zaf n t=0) (hg0:Gl 0 [vI 45,vI 33] w) (hg1:Gl 1 (w8C zaV) w) (hg2:Gl 3 (zas kA) w):
  Calls Tryz.prog 50 #[(vA [(.int .i64 n),(.slice a_t n_t c_t)]),(.int .i64 b)] w (Ret fun r w'=>∃(a0:Option Addr) (na0:Nat) (ca0:Nat) (a1:Option Addr) (na1:Nat) (ca1:Nat),r=(.tuple #[(vA [(.slice a0 na0 ca0),(.slice a1 na1 ca1)]),(vI (zaf n t))])∧Ext w w'):=by
 have hlt:=h_t.len_eq
 by_cases h:1≤n∧n≤4096∧t.length=tot n.toNat∧zej t=true
 ·obtain ⟨m,rfl⟩:=Int.eq_ofNat_of_zero_le (show 0≤n by omega)
  have h2:=h.2.2;rw [Int.toNat_natCast] at h2
  rw [zdC (by omega) (by omega) h2.1 h2.2] at hp0⊢;exact zqU m b w h_t (by omega) (by omega) (by omega) (zci.1 h2.2) hp0 hg0 hg1 hg2
 ·rw [zes h];exact zry n b w h_t h
theorem zmm (n:Nat) {lo_t hi_t:Nat} {a_t:Option Addr} {n_t c_t:Nat} {t:List Un} (b:Nat) (w:World) (h_t:Ms unC 280 lo_t hi_t w a_t n_t c_t t) (hp0:1≤n) (hp1:n≤4096) (hp2:n_t=tot n) (hp3:∀i,i<t.length→(t.getD i Un.zero).sl=0∨(t.getD i Un.zero).sl=1) (hp4:zaY n (zaG n t)=0) (hp5:b<n) (hg0:Gl 0 [vI 45,vI 33] w) (hg1:Gl 1 (w8C zaV) w) (hg2:Gl 3 (zas kA) w):
  Calls Tryz.prog 34 #[(vA [(vI n),(.slice a_t n_t c_t)]),(vI b)] w (Ret fun r w'=>r=(.tuple #[(vI (zbx (t.getD (b/4) Un.zero) (b%4))),(vI 0)])∧Ext w w'):=by
 refine zw (n:=26) (σ:= [(0,(vA [(vI n),(.slice a_t n_t c_t)])),(1,(vI b))]) Tryz.func34 rfl ?_
 replace h_t:=h_t.now;have hle_t:=h_t.le
 have hgl0:=hg0.lt
 have hgl1:=hg1.lt
 have hgl2:=hg2.lt
 have h5:=zam n
 have hlt:=h_t.len_eq
 have hts:=zau hp1
 have hle:=h_t.le
 have hb0:b/4<cnt n 0:=zbw hp5 0
 have hb4:=zaL (n:=n) (l:=0) (j:=b/4) (Nat.zero_le _) hb0
 have hn0:num n 0=0:=rfl
 refine wsr (za (zS (Instr.box 38 (vA [(vI n),(.slice a_t n_t c_t)])) (vP w.heap.size 0) ([(vI n),(.slice a_t n_t c_t)]) 38 ?_))
 intro w1 hBw1 hEw1 hzw1 hlw1
 refine zb 2 [(5,(vI 0)),(4,(vI 0))] (zM (za (zV w.heap.size 0 (hBw1.all) ?_)))
 refine zb 1 [(10,(vI b))] (za (zt (zmn n b _ (h_t.ext hEw1) (by omega) (by omega) (by omega) (by assumption) (by assumption) (by omega) (hg0.ext hEw1) (hg1.ext hEw1) (hg2.ext hEw1)) ?_))
 rintro _ w2 ⟨a1,ca1,a2,ca2,rfl,hFz1_0,hFz1_1,hEw2⟩
 have hzw2:=hEw2.size
 have hlea1:=hFz1_0.le
 have hlea2:=hFz1_1.le
 refine zb 3 [(13,(vI 0)),(12,(vA [(.slice a1 (hgt n+1) ca1),(.slice a2 (hgt n+1) ca2)])),(8,(.tuple #[(vA [(.slice a1 (hgt n+1) ca1),(.slice a2 (hgt n+1) ca2)]),(vI 0)]))] (zal ([(.slice a1 (hgt n+1) ca1),(.slice a2 (hgt n+1) ca2)]) 114 rfl (by simp [Value.oneCell']) ?_)
 intro w3 hBw3 hEw3 hzw3 hlw3
 refine zb 1 [(7,(vI 0))] (zz (zb 1 [(14,(vI 0))] (za (zbe 15 0 0 ?_))))
 refine wEt (zf (zl (zc (wsr (zb 1 [(17,(vP w.heap.size 1))] (za (zm w.heap.size 1 (((hBw1.ext hEw2).ext hEw3).cell rfl) ?_)))))))
 refine zb 1 [(19,(vI b))] (za (zae (some 20) .i64 (IntKind.i64.wrap (((b:Nat):Int).tdiv ((4:Nat):Int))) (b/4) (zao (zez _ _)) ?_))
 obtain ⟨b1,o1,rfl⟩:=h_t.addr (by omega) (by decide)
 refine za (zan b1 o1 n_t c_t (b/4) 280 ?_)
 have hK1:=(((h_t.ext hEw1).ext hEw2).ext hEw3)
 refine za (zQ b1 (o1+(b/4)*280) (hK1.at Un.zero (by omega)) (zI _) ?_)
 refine zb 1 [(23,(vI b))] (za (zae (some 24) .i64 (((b:Nat):Int).tmod ((4:Nat):Int)) (b%4) (zcX _ _) ?_))
 refine za (zt (zqL (t.getD (b/4) Un.zero) (b%4) _ (by omega)) ?_)
 rintro _ w4 ⟨rfl,hEw4⟩
 have hzw4:=hEw4.size
 refine zb 2 [(5,(vI 0)),(4,(vI (zbx (t.getD (b/4) Un.zero) (b%4))))] (zF (zh (.tuple #[(vI (zbx (t.getD (b/4) Un.zero) (b%4))),(vI 0)]) ?_))
 have hX1:Ext w w4:=(((hEw1.trans hEw2).trans hEw3).trans hEw4)
 exact ⟨rfl,hX1⟩
theorem zt8 (n:Nat) {lo_t hi_t:Nat} {a_t:Option Addr} {n_t c_t:Nat} {t:List Un} (b:Int) (w:World) (h_t:Ms unC 280 lo_t hi_t w a_t n_t c_t t) (hp0:1≤n) (hp1:n≤4096) (hp2:n_t=tot n) (hp3:∀i,i<t.length→(t.getD i Un.zero).sl=0∨(t.getD i Un.zero).sl=1) (hp4:zaY n (zaG n t)=0) (hp5:¬(0≤b∧b<n)) (hg0:Gl 0 [vI 45,vI 33] w) (hg1:Gl 1 (w8C zaV) w) (hg2:Gl 3 (zas kA) w):
  Calls Tryz.prog 34 #[(vA [(vI n),(.slice a_t n_t c_t)]),(.int .i64 b)] w (Ret fun r w'=>r=(.tuple #[(vI 0),(vI 1)])∧Ext w w'):=by
 refine zw (n:=26) (σ:= [(0,(vA [(vI n),(.slice a_t n_t c_t)])),(1,(.int .i64 b))]) Tryz.func34 rfl ?_
 replace h_t:=h_t.now;have hle_t:=h_t.le
 have hgl0:=hg0.lt
 have hgl1:=hg1.lt
 have hgl2:=hg2.lt
 have h5:=zam n
 have hlt:=h_t.len_eq
 have hts:=zau hp1
 have hle:=h_t.le
 refine wsr (za (zS (Instr.box 38 (vA [(vI n),(.slice a_t n_t c_t)])) (vP w.heap.size 0) ([(vI n),(.slice a_t n_t c_t)]) 38 ?_))
 intro w1 hBw1 hEw1 hzw1 hlw1
 refine zb 2 [(5,(vI 0)),(4,(vI 0))] (zM (za (zV w.heap.size 0 (hBw1.all) ?_)))
 refine zb 1 [(10,(.int .i64 b))] (za (zt (zj4 n b _ (h_t.ext hEw1) (by omega) (by omega) (by omega) (by assumption) (by assumption) (by omega) (hg0.ext hEw1) (hg1.ext hEw1) (hg2.ext hEw1)) ?_))
 rintro _ w2 ⟨a1,na1,ca1,a2,na2,ca2,rfl,hEw2⟩
 have hzw2:=hEw2.size
 refine zb 3 [(13,(vI 1)),(12,(vA [(.slice a1 na1 ca1),(.slice a2 na2 ca2)])),(8,(.tuple #[(vA [(.slice a1 na1 ca1),(.slice a2 na2 ca2)]),(vI 1)]))] (zal ([(.slice a1 na1 ca1),(.slice a2 na2 ca2)]) 114 rfl (by simp [Value.oneCell']) ?_)
 intro w3 hBw3 hEw3 hzw3 hlw3
 refine zb 1 [(7,(vI 1))] (zz (zb 1 [(14,(vI 1))] (za (zda 15 1 0 ?_))))
 refine wEt (zk (wsr (zb 3 [(5,(vI 1)),(4,(vI 0)),(16,(vI 1))] (zF (zj ?_)))))
 exact zh (.tuple #[(vI 0),(vI 1)]) (⟨rfl,((hEw1.trans hEw2).trans hEw3)⟩)
theorem ztK (n:Int) {lo_t hi_t:Nat} {a_t:Option Addr} {n_t c_t:Nat} {t:List Un} (b:Int) (w:World) (h_t:Ms unC 280 lo_t hi_t w a_t n_t c_t t) (hp0:¬zaf n t=0) (hg0:Gl 0 [vI 45,vI 33] w) (hg1:Gl 1 (w8C zaV) w) (hg2:Gl 3 (zas kA) w):
  Calls Tryz.prog 34 #[(vA [(.int .i64 n),(.slice a_t n_t c_t)]),(.int .i64 b)] w (Ret fun r w'=>r=(.tuple #[(vI 0),(vI (zaf n t))])∧Ext w w'):=by
 refine zw (n:=26) (σ:= [(0,(vA [(.int .i64 n),(.slice a_t n_t c_t)])),(1,(.int .i64 b))]) Tryz.func34 rfl ?_
 replace h_t:=h_t.now;have hle_t:=h_t.le
 have hgl0:=hg0.lt
 have hgl1:=hg1.lt
 have hgl2:=hg2.lt
 refine wsr (za (zS (Instr.box 38 (vA [(.int .i64 n),(.slice a_t n_t c_t)])) (vP w.heap.size 0) ([(.int .i64 n),(.slice a_t n_t c_t)]) 38 ?_))
 intro w1 hBw1 hEw1 hzw1 hlw1
 refine zb 2 [(5,(vI 0)),(4,(vI 0))] (zM (za (zV w.heap.size 0 (hBw1.all) ?_)))
 refine zb 1 [(10,(.int .i64 b))] (za (zt (zkt n b _ (h_t.ext hEw1) (by assumption) (hg0.ext hEw1) (hg1.ext hEw1) (hg2.ext hEw1)) ?_))
 rintro _ w2 ⟨a1,na1,ca1,a2,na2,ca2,rfl,hEw2⟩
 have hzw2:=hEw2.size
 refine zb 3 [(13,(vI (zaf n t))),(12,(vA [(.slice a1 na1 ca1),(.slice a2 na2 ca2)])),(8,(.tuple #[(vA [(.slice a1 na1 ca1),(.slice a2 na2 ca2)]),(vI (zaf n t))]))] (zal ([(.slice a1 na1 ca1),(.slice a2 na2 ca2)]) 114 rfl (by simp [Value.oneCell']) ?_)
 intro w3 hBw3 hEw3 hzw3 hlw3
 refine zb 1 [(7,(vI (zaf n t)))] (zz (zb 1 [(14,(vI (zaf n t)))] (za (zda 15 (zaf n t) 0 ?_))))
 refine wEt (zk (wsr (zb 3 [(5,(vI (zaf n t))),(4,(vI 0)),(16,(vI (zaf n t)))] (zF (zj ?_)))))
 exact zh (.tuple #[(vI 0),(vI (zaf n t))]) (⟨rfl,((hEw1.trans hEw2).trans hEw3)⟩)
theorem zp6 (n:Nat) {lo_t hi_t:Nat} {a_t:Option Addr} {n_t c_t:Nat} {t:List Un} (b:Nat) (w:World) (h_t:Ms unC 280 lo_t hi_t w a_t n_t c_t t) (hp0:1≤n) (hp1:n≤4096) (hp2:n_t=tot n) (hp3:∀i,i<t.length→(t.getD i Un.zero).sl=0∨(t.getD i Un.zero).sl=1) (hp4:zaY n (zaG n t)=0) (hp5:b<n) (hg0:Gl 0 [vI 45,vI 33] w) (hg1:Gl 1 (w8C zaV) w) (hg2:Gl 3 (zas kA) w):
  Calls Tryz.prog 35 #[(vA [(vI n),(.slice a_t n_t c_t)]),(vI b)] w (Ret fun r w'=>r=(.tuple #[(vA (zL ((t.getD (b/4) Un.zero).nd.rs.get (b%4)))),(vI 0)])∧Ext w w'):=by
 refine zw (n:=29) (σ:= [(0,(vA [(vI n),(.slice a_t n_t c_t)])),(1,(vI b))]) Tryz.func35 rfl ?_
 replace h_t:=h_t.now;have hle_t:=h_t.le
 have hgl0:=hg0.lt
 have hgl1:=hg1.lt
 have hgl2:=hg2.lt
 have h5:=zam n
 have hlt:=h_t.len_eq
 have hts:=zau hp1
 have hle:=h_t.le
 have hb0:b/4<cnt n 0:=zbw hp5 0
 have hb4:=zaL (n:=n) (l:=0) (j:=b/4) (Nat.zero_le _) hb0
 have hn0:num n 0=0:=rfl
 refine wsr (za (zS (Instr.box 38 (vA [(vI n),(.slice a_t n_t c_t)])) (vP w.heap.size 0) ([(vI n),(.slice a_t n_t c_t)]) 38 ?_))
 intro w1 hBw1 hEw1 hzw1 hlw1
 refine za (zad (zL Rec.zero) 68 ?_)
 intro w2 hBw2 hEw2 hzw2 hlw2
 refine zb 1 [(5,(vI 0))] (zM (za (zV w.heap.size 0 ((hBw1.ext hEw2).all) ?_)))
 refine zb 1 [(10,(vI b))] (za (zt (zmn n b _ ((h_t.ext hEw1).ext hEw2) (by omega) (by omega) (by omega) (by assumption) (by assumption) (by omega) ((hg0.ext hEw1).ext hEw2) ((hg1.ext hEw1).ext hEw2) ((hg2.ext hEw1).ext hEw2)) ?_))
 rintro _ w3 ⟨a1,ca1,a2,ca2,rfl,hFz1_0,hFz1_1,hEw3⟩
 have hzw3:=hEw3.size
 have hlea1:=hFz1_0.le
 have hlea2:=hFz1_1.le
 refine zb 3 [(13,(vI 0)),(12,(vA [(.slice a1 (hgt n+1) ca1),(.slice a2 (hgt n+1) ca2)])),(8,(.tuple #[(vA [(.slice a1 (hgt n+1) ca1),(.slice a2 (hgt n+1) ca2)]),(vI 0)]))] (zal ([(.slice a1 (hgt n+1) ca1),(.slice a2 (hgt n+1) ca2)]) 114 rfl (by simp [Value.oneCell']) ?_)
 intro w4 hBw4 hEw4 hzw4 hlw4
 refine zb 1 [(7,(vI 0))] (zz (zb 1 [(14,(vI 0))] (za (zbe 15 0 0 ?_))))
 refine wEt (zf (zl (zc (wsr (zb 1 [(18,(vP w.heap.size 1))] ?_)))))
 have hK1:=(((hBw1.ext hEw2).ext hEw3).ext hEw4)
 refine za (zm w.heap.size 1 (hK1.cell rfl) ?_)
 refine zb 1 [(20,(vI b))] (za (zae (some 21) .i64 (IntKind.i64.wrap (((b:Nat):Int).tdiv ((4:Nat):Int))) (b/4) (zao (zez _ _)) ?_))
 refine zb 1 [(22,(vI b))] (za (zae (some 23) .i64 (((b:Nat):Int).tmod ((4:Nat):Int)) (b%4) (zcX _ _) ?_))
 obtain ⟨b1,o1,rfl⟩:=h_t.addr (by omega) (by decide)
 refine za (zan b1 o1 n_t c_t (b/4) 280 ?_)
 refine zb 2 [(26,(vP b1 (o1+(b/4)*280+2))),(25,(vP b1 (o1+(b/4)*280)))] (za (zaW b1 (o1+(b/4)*280+2) (b%4) 4 35 ?_))
 have hX1:=((hEw1.trans hEw2).trans hEw3).trans hEw4
 refine za (zQ b1 (o1+(b/4)*280+2+(b%4)*35) (((h_t.ext hX1).at Un.zero (by omega)).sub2 2 _ (zL ((t.getD (b/4) Un.zero).nd.rs.get (b%4))) (zu0 (by omega))) (zab _) ?_)
 refine za (zC 68 w1.heap.size 0 68 (vA (zL ((t.getD (b/4) Un.zero).nd.rs.get (b%4)))) (zL Rec.zero) (zL ((t.getD (b/4) Un.zero).nd.rs.get (b%4))) ((hBw2.ext hEw3).ext hEw4) (by rw [zab];kernel_rfl) (by first |(simp;done)|(simp;omega)) (zbi _) ?_)
 intro w5 hBw5 hCw5
 have hzw5:=hCw5.size
 rw [zv _ _ (by simp)] at hBw5
 exact zb 1 [(5,(vI 0))] (zF (zaQ (show zO Tryz.prog 29 _ _ (.cell 4 68) (vA (zL ((t.getD (b/4) Un.zero).nd.rs.get (b%4)))) from ⟨⟨w1.heap.size,0,none⟩,(by kernel_rfl),zE (T:=68) (vs:=zL ((t.getD (b/4) Un.zero).nd.rs.get (b%4))) (hBw5).all (by rw [zab];kernel_rfl)⟩) (show zO Tryz.prog 29 _ _ (.tmp 5) (vI 0) by (show _=_;kernel_rfl)) (⟨rfl,(Ext.own hX1 hCw5 (by omega))⟩)))
theorem zs8 (n:Nat) {lo_t hi_t:Nat} {a_t:Option Addr} {n_t c_t:Nat} {t:List Un} (b:Int) (w:World) (h_t:Ms unC 280 lo_t hi_t w a_t n_t c_t t) (hp0:1≤n) (hp1:n≤4096) (hp2:n_t=tot n) (hp3:∀i,i<t.length→(t.getD i Un.zero).sl=0∨(t.getD i Un.zero).sl=1) (hp4:zaY n (zaG n t)=0) (hp5:¬(0≤b∧b<n)) (hg0:Gl 0 [vI 45,vI 33] w) (hg1:Gl 1 (w8C zaV) w) (hg2:Gl 3 (zas kA) w):
  Calls Tryz.prog 35 #[(vA [(vI n),(.slice a_t n_t c_t)]),(.int .i64 b)] w (Ret fun r w'=>r=(.tuple #[(vA (zL Rec.zero)),(vI 1)])∧Ext w w'):=by
 refine zw (n:=29) (σ:= [(0,(vA [(vI n),(.slice a_t n_t c_t)])),(1,(.int .i64 b))]) Tryz.func35 rfl ?_
 replace h_t:=h_t.now;have hle_t:=h_t.le
 have hgl0:=hg0.lt
 have hgl1:=hg1.lt
 have hgl2:=hg2.lt
 have h5:=zam n
 have hlt:=h_t.len_eq
 have hts:=zau hp1
 have hle:=h_t.le
 refine wsr (za (zS (Instr.box 38 (vA [(vI n),(.slice a_t n_t c_t)])) (vP w.heap.size 0) ([(vI n),(.slice a_t n_t c_t)]) 38 ?_))
 intro w1 hBw1 hEw1 hzw1 hlw1
 refine za (zad (zL Rec.zero) 68 ?_)
 intro w2 hBw2 hEw2 hzw2 hlw2
 refine zb 1 [(5,(vI 0))] (zM (za (zV w.heap.size 0 ((hBw1.ext hEw2).all) ?_)))
 refine zb 1 [(10,(.int .i64 b))] (za (zt (zj4 n b _ ((h_t.ext hEw1).ext hEw2) (by omega) (by omega) (by omega) (by assumption) (by assumption) (by omega) ((hg0.ext hEw1).ext hEw2) ((hg1.ext hEw1).ext hEw2) ((hg2.ext hEw1).ext hEw2)) ?_))
 rintro _ w3 ⟨a1,na1,ca1,a2,na2,ca2,rfl,hEw3⟩
 have hzw3:=hEw3.size
 refine zb 3 [(13,(vI 1)),(12,(vA [(.slice a1 na1 ca1),(.slice a2 na2 ca2)])),(8,(.tuple #[(vA [(.slice a1 na1 ca1),(.slice a2 na2 ca2)]),(vI 1)]))] (zal ([(.slice a1 na1 ca1),(.slice a2 na2 ca2)]) 114 rfl (by simp [Value.oneCell']) ?_)
 intro w4 hBw4 hEw4 hzw4 hlw4
 refine zb 1 [(7,(vI 1))] (zz (zb 1 [(14,(vI 1))] (za (zda 15 1 0 ?_))))
 refine wEt (zk (wsr (zb 2 [(17,(vI 1)),(16,(vA (zL Rec.zero)))] (za (zC 68 w1.heap.size 0 68 (vA (zL Rec.zero)) (zL Rec.zero) (zL Rec.zero) ((hBw2.ext hEw3).ext hEw4) (by rw [zab];kernel_rfl) (by first |(simp;done)|(simp;omega)) (zbi _) ?_)))))
 intro w5 hBw5 hCw5
 have hzw5:=hCw5.size
 rw [zv _ _ (by simp)] at hBw5
 refine zb 1 [(5,(vI 1))] (zF (zj (zaQ (show zO Tryz.prog 29 _ _ (.cell 4 68) (vA (zL Rec.zero)) from ⟨⟨w1.heap.size,0,none⟩,(by kernel_rfl),zE (T:=68) (vs:=zL Rec.zero) (hBw5).all (by rw [zab];kernel_rfl)⟩) (show zO Tryz.prog 29 _ _ (.tmp 5) (vI 1) by (show _=_;kernel_rfl)) ?_)))
 have hX1:Ext w w5:=(Ext.own (((hEw1.trans hEw2).trans hEw3).trans hEw4) hCw5 (by omega))
 exact ⟨rfl,hX1⟩
theorem zsS (n:Int) {lo_t hi_t:Nat} {a_t:Option Addr} {n_t c_t:Nat} {t:List Un} (b:Int) (w:World) (h_t:Ms unC 280 lo_t hi_t w a_t n_t c_t t) (hp0:¬zaf n t=0) (hg0:Gl 0 [vI 45,vI 33] w) (hg1:Gl 1 (w8C zaV) w) (hg2:Gl 3 (zas kA) w):
  Calls Tryz.prog 35 #[(vA [(.int .i64 n),(.slice a_t n_t c_t)]),(.int .i64 b)] w (Ret fun r w'=>r=(.tuple #[(vA (zL Rec.zero)),(vI (zaf n t))])∧Ext w w'):=by
 refine zw (n:=29) (σ:= [(0,(vA [(.int .i64 n),(.slice a_t n_t c_t)])),(1,(.int .i64 b))]) Tryz.func35 rfl ?_
 replace h_t:=h_t.now;have hle_t:=h_t.le
 have hgl0:=hg0.lt
 have hgl1:=hg1.lt
 have hgl2:=hg2.lt
 refine wsr (za (zS (Instr.box 38 (vA [(.int .i64 n),(.slice a_t n_t c_t)])) (vP w.heap.size 0) ([(.int .i64 n),(.slice a_t n_t c_t)]) 38 ?_))
 intro w1 hBw1 hEw1 hzw1 hlw1
 refine za (zad (zL Rec.zero) 68 ?_)
 intro w2 hBw2 hEw2 hzw2 hlw2
 refine zb 1 [(5,(vI 0))] (zM (za (zV w.heap.size 0 ((hBw1.ext hEw2).all) ?_)))
 refine zb 1 [(10,(.int .i64 b))] (za (zt (zkt n b _ ((h_t.ext hEw1).ext hEw2) (by assumption) ((hg0.ext hEw1).ext hEw2) ((hg1.ext hEw1).ext hEw2) ((hg2.ext hEw1).ext hEw2)) ?_))
 rintro _ w3 ⟨a1,na1,ca1,a2,na2,ca2,rfl,hEw3⟩
 have hzw3:=hEw3.size
 refine zb 3 [(13,(vI (zaf n t))),(12,(vA [(.slice a1 na1 ca1),(.slice a2 na2 ca2)])),(8,(.tuple #[(vA [(.slice a1 na1 ca1),(.slice a2 na2 ca2)]),(vI (zaf n t))]))] (zal ([(.slice a1 na1 ca1),(.slice a2 na2 ca2)]) 114 rfl (by simp [Value.oneCell']) ?_)
 intro w4 hBw4 hEw4 hzw4 hlw4
 refine zb 1 [(7,(vI (zaf n t)))] (zz (zb 1 [(14,(vI (zaf n t)))] (za (zda 15 (zaf n t) 0 ?_))))
 refine wEt (zk (wsr (zb 2 [(17,(vI (zaf n t))),(16,(vA (zL Rec.zero)))] (za (zC 68 w1.heap.size 0 68 (vA (zL Rec.zero)) (zL Rec.zero) (zL Rec.zero) ((hBw2.ext hEw3).ext hEw4) (by rw [zab];kernel_rfl) (by first |(simp;done)|(simp;omega)) (zbi _) ?_)))))
 intro w5 hBw5 hCw5
 have hzw5:=hCw5.size
 rw [zv _ _ (by simp)] at hBw5
 refine zb 1 [(5,(vI (zaf n t)))] (zF (zj (zaQ (show zO Tryz.prog 29 _ _ (.cell 4 68) (vA (zL Rec.zero)) from ⟨⟨w1.heap.size,0,none⟩,(by kernel_rfl),zE (T:=68) (vs:=zL Rec.zero) (hBw5).all (by rw [zab];kernel_rfl)⟩) (show zO Tryz.prog 29 _ _ (.tmp 5) (vI (zaf n t)) by (show _=_;kernel_rfl)) ?_)))
 have hX1:Ext w w5:=(Ext.own (((hEw1.trans hEw2).trans hEw3).trans hEw4) hCw5 (by omega))
 exact ⟨rfl,hX1⟩
theorem zsQ (n:Nat) {lo_t hi_t:Nat} {a_t:Option Addr} {n_t c_t:Nat} {t:List Un} (w:World) (h_t:Ms unC 280 lo_t hi_t w a_t n_t c_t t) (hp0:1≤n) (hp1:n≤4096) (hp2:n_t=tot n) (hp3:∀i,i<t.length→(t.getD i Un.zero).sl=0∨(t.getD i Un.zero).sl=1) (hp4:zaY n (zaG n t)=0) (hg0:Gl 0 [vI 45,vI 33] w) (hg1:Gl 1 (w8C zaV) w) (hg2:Gl 3 (zas kA) w):
  Calls Tryz.prog 36 #[(vA [(vI n),(.slice a_t n_t c_t)])] w (Ret fun r w'=>r=(.tuple #[(vA (zK (zX (zR (t.getD (num n (hgt n)) Un.zero).nd)))),(vI 0)])∧Ext w w'):=by
 refine zw (n:=23) (σ:= [(0,(vA [(vI n),(.slice a_t n_t c_t)]))]) Tryz.func36 rfl ?_
 replace h_t:=h_t.now;have hle_t:=h_t.le
 have hgl0:=hg0.lt
 have hgl1:=hg1.lt
 have hgl2:=hg2.lt
 have h5:=zam n
 have hlt:=h_t.len_eq
 have hts:=zau hp1
 have hle:=h_t.le
 have htt:=zcq hp0 hp1
 have hce:zaf (n:Int) t=0:=by rw [zdC hp0 hp1 (by omega) (zci.2 hp3)];exact hp4
 have hcp:=zex hp0 hp1
 have hchk:zaz (t.getD (num n (hgt n)) Un.zero).nd=0:=(zcx (zij (zi2 hp4 (Nat.le_refl _) (show 0<cnt n (hgt n) by omega))).1.2.2).1
 refine wsr (za (zS (Instr.box 38 (vA [(vI n),(.slice a_t n_t c_t)])) (vP w.heap.size 0) ([(vI n),(.slice a_t n_t c_t)]) 38 ?_))
 intro w1 hBw1 hEw1 hzw1 hlw1
 refine za (zad (zK Dig.zero) 59 ?_)
 intro w2 hBw2 hEw2 hzw2 hlw2
 refine zb 1 [(3,(vI 0))] (zM (za (zV w.heap.size 0 ((hBw1.ext hEw2).all) ?_)))
 refine za (zt (zfk ((n:Nat):Int) _ ((h_t.ext hEw1).ext hEw2) ((hg0.ext hEw1).ext hEw2) ((hg1.ext hEw1).ext hEw2) ((hg2.ext hEw1).ext hEw2)) ?_)
 rintro _ w3 ⟨rfl,hEw3⟩
 have hzw3:=hEw3.size
 rw [show zaf ((n:Nat):Int) t=0 from hce]
 refine zb 1 [(4,(vI 0))] (zz (zb 2 [(8,vF),(7,(vI 0))] (wEt (zf (zl ?_)))))
 refine zc (wsr (zb 1 [(11,(vP w.heap.size 1))] (za (zm w.heap.size 1 (((hBw1.ext hEw2).ext hEw3).cell rfl) ?_))))
 refine zb 1 [(13,(vP w.heap.size 1))] (za (zm w.heap.size 1 (((hBw1.ext hEw2).ext hEw3).cell rfl) ?_))
 refine zb 1 [(15,(vI n_t))] (za (zb5 16 n_t 1 (num n (hgt n)) ?_))
 obtain ⟨b1,o1,rfl⟩:=h_t.addr (by omega) (by decide)
 refine za (zan b1 o1 n_t c_t (num n (hgt n)) 280 ?_)
 refine zb 1 [(18,(vP b1 (o1+(num n (hgt n))*280)))] ?_
 have hK1:=(((h_t.ext hEw1).ext hEw2).ext hEw3)
 refine za (zQ b1 (o1+(num n (hgt n))*280) ((hK1.at Un.zero (by omega)).sub 0 (zH (t.getD (num n (hgt n)) Un.zero).nd) (zdE _)) (zN _) ?_)
 have hK2:=(((hg0.ext hEw1).ext hEw2).ext hEw3)
 have hK3:=(((hg1.ext hEw1).ext hEw2).ext hEw3)
 have hK4:=(((hg2.ext hEw1).ext hEw2).ext hEw3)
 refine za (zt (ze7 ((t.getD (num n (hgt n)) Un.zero).nd) _ (by assumption) hK2 hK3 hK4) ?_)
 rintro _ w4 ⟨rfl,hEw4⟩
 have hzw4:=hEw4.size
 refine zb 2 [(22,(vI 0)),(21,(vA (zK (zX (zR ((t.getD (num n (hgt n)) Un.zero).nd))))))] (za (zC 59 w1.heap.size 0 59 (vA (zK (zX (zR ((t.getD (num n (hgt n)) Un.zero).nd))))) (zK Dig.zero) (zK (zX (zR ((t.getD (num n (hgt n)) Un.zero).nd)))) ((hBw2.ext hEw3).ext hEw4) (by rw [zar];kernel_rfl) (by first |(simp;done)|(simp;omega)) (zbK _) ?_))
 intro w5 hBw5 hCw5
 have hzw5:=hCw5.size
 rw [zv _ _ (by simp)] at hBw5
 refine zb 1 [(3,(vI 0))] (zF (zaQ (show zO Tryz.prog 23 _ _ (.cell 2 59) (vA (zK (zX (zR ((t.getD (num n (hgt n)) Un.zero).nd))))) from ⟨⟨w1.heap.size,0,none⟩,(by kernel_rfl),zE (T:=59) (vs:=zK (zX (zR ((t.getD (num n (hgt n)) Un.zero).nd)))) (hBw5).all (by rw [zar];kernel_rfl)⟩) (show zO Tryz.prog 23 _ _ (.tmp 3) (vI 0) by (show _=_;kernel_rfl)) ?_))
 have hX1:Ext w w5:=(Ext.own (((hEw1.trans hEw2).trans hEw3).trans hEw4) hCw5 (by omega))
 exact ⟨rfl,hX1⟩
theorem zri (n:Int) {lo_t hi_t:Nat} {a_t:Option Addr} {n_t c_t:Nat} {t:List Un} (w:World) (h_t:Ms unC 280 lo_t hi_t w a_t n_t c_t t) (hp0:¬zaf n t=0) (hg0:Gl 0 [vI 45,vI 33] w) (hg1:Gl 1 (w8C zaV) w) (hg2:Gl 3 (zas kA) w):
  Calls Tryz.prog 36 #[(vA [(.int .i64 n),(.slice a_t n_t c_t)])] w (Ret fun r w'=>r=(.tuple #[(vA (zK Dig.zero)),(vI (zaf n t))])∧Ext w w'):=by
 refine zw (n:=23) (σ:= [(0,(vA [(.int .i64 n),(.slice a_t n_t c_t)]))]) Tryz.func36 rfl ?_
 replace h_t:=h_t.now;have hle_t:=h_t.le
 have hgl0:=hg0.lt
 have hgl1:=hg1.lt
 have hgl2:=hg2.lt
 refine wsr (za (zS (Instr.box 38 (vA [(.int .i64 n),(.slice a_t n_t c_t)])) (vP w.heap.size 0) ([(.int .i64 n),(.slice a_t n_t c_t)]) 38 ?_))
 intro w1 hBw1 hEw1 hzw1 hlw1
 refine za (zad (zK Dig.zero) 59 ?_)
 intro w2 hBw2 hEw2 hzw2 hlw2
 refine zb 1 [(3,(vI 0))] (zM (za (zV w.heap.size 0 ((hBw1.ext hEw2).all) ?_)))
 refine za (zt (zfk n _ ((h_t.ext hEw1).ext hEw2) ((hg0.ext hEw1).ext hEw2) ((hg1.ext hEw1).ext hEw2) ((hg2.ext hEw1).ext hEw2)) ?_)
 rintro _ w3 ⟨rfl,hEw3⟩
 have hzw3:=hEw3.size
 refine zb 1 [(4,(vI (zaf n t)))] (zz (zb 1 [(7,(vI (zaf n t)))] (za (zda 8 (zaf n t) 0 ?_))))
 refine wEt (zk (wsr (zb 2 [(10,(vI (zaf n t))),(9,(vA (zK Dig.zero)))] (za (zC 59 w1.heap.size 0 59 (vA (zK Dig.zero)) (zK Dig.zero) (zK Dig.zero) (hBw2.ext hEw3) (by rw [zar];kernel_rfl) (by first |(simp;done)|(simp;omega)) (zbK _) ?_)))))
 intro w4 hBw4 hCw4
 have hzw4:=hCw4.size
 rw [zv _ _ (by simp)] at hBw4
 refine zb 1 [(3,(vI (zaf n t)))] (zF (zj (zaQ (show zO Tryz.prog 23 _ _ (.cell 2 59) (vA (zK Dig.zero)) from ⟨⟨w1.heap.size,0,none⟩,(by kernel_rfl),zE (T:=59) (vs:=zK Dig.zero) (hBw4).all (by rw [zar];kernel_rfl)⟩) (show zO Tryz.prog 23 _ _ (.tmp 3) (vI (zaf n t)) by (show _=_;kernel_rfl)) ?_)))
 have hX1:Ext w w4:=(Ext.own ((hEw1.trans hEw2).trans hEw3) hCw4 (by omega))
 exact ⟨rfl,hX1⟩
theorem zpA (n:Int) {lo_t hi_t:Nat} {a_t:Option Addr} {n_t c_t:Nat} {t:List Un} (w:World) (h_t:Ms unC 280 lo_t hi_t w a_t n_t c_t t) (hp0:0<n_t) (hp1:n_t≤100000):
  Calls Tryz.prog 48 #[(vA [(.int .i64 n),(.slice a_t n_t c_t)])] w (Ret fun r w'=>∃a1,r=(vA [(.int .i64 n),(.slice (pA a1 0) n_t n_t)])∧w.heap.size≤a1∧Blk w' a1 (t.flatMap unC) 77∧n_t=List.length t∧n_t≤maxLen∧Ext w w'):=by
 refine zw (n:=17) (σ:= [(0,(vA [(.int .i64 n),(.slice a_t n_t c_t)]))]) Tryz.func48 rfl ?_
 replace h_t:=h_t.now;have hle_t:=h_t.le
 have hlt:=h_t.len_eq
 have hle:=h_t.le
 refine wsr (za (zS (Instr.box 38 (vA [(.int .i64 n),(.slice a_t n_t c_t)])) (vP w.heap.size 0) ([(.int .i64 n),(.slice a_t n_t c_t)]) 38 ?_))
 intro w1 hBw1 hEw1 hzw1 hlw1
 refine za (zad ([(vI 0),(.slice none 0 0)]) 38 ?_)
 intro w2 hBw2 hEw2 hzw2 hlw2
 refine wEt (zd (zY 9 (fun w3 hEw3 hzw3 hT410=> ?_)))
 refine ze hT410 [(0,4,(vP w.heap.size 0))] 1 (zx hT410 1 w.heap.size 0 (fun w' hC=>((((hBw1.ext hEw2).ext hEw3).ext hC).cell rfl)) (ze hT410 [(2,6,(vP w.heap.size 1))] 1 (zx hT410 3 w.heap.size 1 (fun w' hC=>((((hBw1.ext hEw2).ext hEw3).ext hC).cell rfl)) (ze hT410 [(4,8,(vI n_t))] 1 (zbB 5 7 ?_ ?_)))))
 ·refine zb8 (some 9) 36 77 280 384 n_t n_t .i64 .i64 (vA (unC Un.zero)) (by omega) (by omega) (by omega) ?_
  rw [zdt (f:=unC) (x:=Un.zero) rfl (zI _) (by decide)]
  intro w4 hBw4 hEw4
  have hzw4:=hEw4.size;have hlw4:=hBw4.lt
  have hmw4:Ms unC 280 w3.heap.size (w3.heap.size+1) w4 (pA w3.heap.size 0) n_t n_t (List.replicate n_t Un.zero):=Ms.of_pre (r:= []) (by rw [List.append_nil];exact hBw4) zI (by simp) (Nat.le_refl _) (by simp only [maxLen];omega) (Nat.le_refl _) (Nat.lt_succ_self _)
  refine ⟨.inr hEw4, ?_⟩
  refine ze (hw:=hEw4) hT410 [(6,10,(vA [(.int .i64 n),(.slice (pA w3.heap.size 0) n_t n_t)]))] 1 (zy 7 (zad ([(vI 0),(.slice none 0 0)]) 38 ?_))
  intro w5 hBw5 hEw5 hzw5 hlw5
  have hX1:Ext w3 w5:=(hEw4.trans hEw5)
  refine ⟨.inr hX1, ?_⟩
  refine zy 8 (zC 38 w4.heap.size 0 38 (vA [(.int .i64 n),(.slice (pA w3.heap.size 0) n_t n_t)]) ([(vI 0),(.slice none 0 0)]) ([(.int .i64 n),(.slice (pA w3.heap.size 0) n_t n_t)]) hBw5 (by kernel_rfl) (by first | decide |(simp;done)|(simp;omega)) (by simp [Value.oneCell']) ?_)
  intro w6 hBw6 hCw6
  have hzw6:=hCw6.size
  rw [zv _ _ (by kernel_rfl)] at hBw6
  refine ⟨.inl (by kernel_rfl), ?_⟩
  refine zB (zc (wsr (zb 1 [(11,(vP w4.heap.size 1))] (za (zm w4.heap.size 1 (hBw6.cell rfl) ?_)))))
  refine zb 1 [(13,(vP w.heap.size 1))] ?_
  have hK1:=(((((hBw1.ext hEw2).ext hEw3).ext hEw4).ext hEw5).chg hCw6)
  refine za (zm w.heap.size 1 (hK1.cell rfl) ?_)
  have hX2:=((hEw1.trans hEw2).trans hEw3).trans hEw4
  have hK2:=(((h_t.ext hX2).ext hEw5).chg hCw6)
  refine za (zlo (dc:=n_t) (some 15) 36 36 3 77 w3.heap.size ((hBw4.ext hEw5).chg hCw6) hK2 (by rw [zaC zI];first | done |(simp only [List.length_replicate];done)|(have:=(show List.length (List.replicate n_t Un.zero)=n_t from by rw [List.length_replicate]);omega)) za7 (by omega) ?_ (by decide))
  intro w7 hBw7 hCw7
  have hK3:=(((h_t.ext hX2).ext hEw5).chg hCw6)
  have hzw7:=hCw7.size
  refine zz (za (zV w4.heap.size 0 ((hBw6.chg hCw7).all) ?_))
  have hK4:=(((((hBw2.ext hEw3).ext hEw4).ext hEw5).chg hCw6).chg hCw7)
  refine za (zC 38 w1.heap.size 0 38 (vA [(.int .i64 n),(.slice (pA w3.heap.size 0) n_t n_t)]) ([(vI 0),(.slice none 0 0)]) ([(.int .i64 n),(.slice (pA w3.heap.size 0) n_t n_t)]) hK4 (by kernel_rfl) (by first | decide |(simp;done)|(simp;omega)) (by simp [Value.oneCell']) ?_)
  have hK5:=(((((hBw2.ext hEw3).ext hEw4).ext hEw5).chg hCw6).chg hCw7)
  intro w8 hBw8 hCw8
  have hzw8:=hCw8.size
  rw [zv _ _ (by kernel_rfl)] at hBw8
  refine zF (zaR (show zO Tryz.prog 17 _ _ (.cell 2 38) (vA [(.int .i64 n),(.slice (pA w3.heap.size 0) n_t n_t)]) from ⟨⟨w1.heap.size,0,none⟩,(by kernel_rfl),zE (T:=38) (vs:= [(.int .i64 n),(.slice (pA w3.heap.size 0) n_t n_t)]) (hBw8).all (by kernel_rfl)⟩) ?_)
  have hX3:Ext w w8:=(Ext.own (Ext.own (Ext.own (hX2.trans hEw5) hCw6 (by omega)) hCw7 (by omega)) hCw8 (by omega))
  exact ⟨_,rfl,by omega,(hBw7.chg hCw8),hK3.len_eq,by simp only [maxLen];omega,hX3⟩
 ·refine zad ([(vI 0),(.slice none 0 0)]) 38 ?_
  intro w9 hBw9 hEw9 hzw9 hlw9
  refine ⟨.inr hEw9, ?_⟩
  refine zy 5 (zb8 (some 9) 36 77 280 384 n_t n_t .i64 .i64 (vA (unC Un.zero)) (by omega) (by omega) (by omega) ?_)
  rw [zdt (f:=unC) (x:=Un.zero) rfl (zI _) (by decide)]
  intro w10 hBw10 hEw10
  have hzw10:=hEw10.size;have hlw10:=hBw10.lt
  have hmw10:Ms unC 280 w9.heap.size (w9.heap.size+1) w10 (pA w9.heap.size 0) n_t n_t (List.replicate n_t Un.zero):=Ms.of_pre (r:= []) (by rw [List.append_nil];exact hBw10) zI (by simp) (Nat.le_refl _) (by simp only [maxLen];omega) (Nat.le_refl _) (Nat.lt_succ_self _)
  have hX4:Ext w3 w10:=(hEw9.trans hEw10)
  refine ⟨.inr hX4, ?_⟩
  refine ze (hw:=hX4) hT410 [(6,10,(vA [(.int .i64 n),(.slice (pA w9.heap.size 0) n_t n_t)]))] 1 (zy 8 (zC 38 w3.heap.size 0 38 (vA [(.int .i64 n),(.slice (pA w9.heap.size 0) n_t n_t)]) ([(vI 0),(.slice none 0 0)]) ([(.int .i64 n),(.slice (pA w9.heap.size 0) n_t n_t)]) (hBw9.ext hEw10) (by kernel_rfl) (by first | decide |(simp;done)|(simp;omega)) (by simp [Value.oneCell']) ?_))
  intro w11 hBw11 hCw11
  have hzw11:=hCw11.size
  rw [zv _ _ (by kernel_rfl)] at hBw11
  refine ⟨.inl (by kernel_rfl), ?_⟩
  refine zB (zc (wsr (zb 1 [(11,(vP w3.heap.size 1))] (za (zm w3.heap.size 1 (hBw11.cell rfl) ?_)))))
  refine zb 1 [(13,(vP w.heap.size 1))] ?_
  have hK6:=(((((hBw1.ext hEw2).ext hEw3).ext hEw9).ext hEw10).chg hCw11)
  refine za (zm w.heap.size 1 (hK6.cell rfl) ?_)
  have hX5:=((hEw1.trans hEw2).trans hEw3).trans hEw9
  have hK7:=(((h_t.ext hX5).ext hEw10).chg hCw11)
  refine za (zlo (dc:=n_t) (some 15) 36 36 3 77 w9.heap.size (hBw10.chg hCw11) hK7 (by rw [zaC zI];first | done |(simp only [List.length_replicate];done)|(have:=(show List.length (List.replicate n_t Un.zero)=n_t from by rw [List.length_replicate]);omega)) za7 (by omega) ?_ (by decide))
  intro w12 hBw12 hCw12
  have hK8:=(((h_t.ext hX5).ext hEw10).chg hCw11)
  have hzw12:=hCw12.size
  refine zz (za (zV w3.heap.size 0 ((hBw11.chg hCw12).all) ?_))
  have hK9:=(((((hBw2.ext hEw3).ext hEw9).ext hEw10).chg hCw11).chg hCw12)
  refine za (zC 38 w1.heap.size 0 38 (vA [(.int .i64 n),(.slice (pA w9.heap.size 0) n_t n_t)]) ([(vI 0),(.slice none 0 0)]) ([(.int .i64 n),(.slice (pA w9.heap.size 0) n_t n_t)]) hK9 (by kernel_rfl) (by first | decide |(simp;done)|(simp;omega)) (by simp [Value.oneCell']) ?_)
  have hK10:=(((((hBw2.ext hEw3).ext hEw9).ext hEw10).chg hCw11).chg hCw12)
  intro w13 hBw13 hCw13
  have hzw13:=hCw13.size
  rw [zv _ _ (by kernel_rfl)] at hBw13
  refine zF (zaR (show zO Tryz.prog 17 _ _ (.cell 2 38) (vA [(.int .i64 n),(.slice (pA w9.heap.size 0) n_t n_t)]) from ⟨⟨w1.heap.size,0,none⟩,(by kernel_rfl),zE (T:=38) (vs:= [(.int .i64 n),(.slice (pA w9.heap.size 0) n_t n_t)]) (hBw13).all (by kernel_rfl)⟩) ?_)
  have hX6:Ext w w13:=(Ext.own (Ext.own (Ext.own (hX5.trans hEw10) hCw11 (by omega)) hCw12 (by omega)) hCw13 (by omega))
  exact ⟨_,rfl,by omega,(hBw12.chg hCw13),hK8.len_eq,by simp only [maxLen];omega,hX6⟩
end Go.Proofs.YtkmhgepdhilllaaGreatDoor
namespace Go.Proofs.YtkmhgepdhilllaaGreatDoor
open Go Go.RowKit Go.Cs
set_option maxRecDepth 100000
theorem ztY {bl bq bi lc hc2 lf hf2 nc cc nf cf:Nat} {ac af:Option Addr} (n b B lp:Nat) (U:Nat→Prop) (J Jx:Nat→World→Prop) (w:World) (hp0:1≤n) (hp1:n≤4096) (hp2:b<n) (hB1:Blk w bl [vI 0] 3) (hB2:Blk w bq ([(.slice ac nc cc),(.slice af nf cf)]) 114) (hB3:Blk w bi [vI (b/4)] 3) (hc:Es (nv .i64) lc hc2 w ac nc cc (za9 n (hgt n+1))) (hf:Es (nv .i64) lf hf2 w af nf cf (zbk n (hgt n+1))) (hne:bl≠bi∧bl≠bq∧bi≠bq) (hlo:(¬(lc≤bl∧bl<hc2)∧¬(lf≤bl∧bl<hf2))∧¬(lc≤bi∧bi<hc2)∧¬(lf≤bi∧bi<hf2)) (hU:∀x,(B≤x∨U x)→(x≠bq∧x≠bl∧x≠bi)∧¬(lc≤x∧x<hc2)∧¬(lf≤x∧x<hf2)) (hJ:∀k W W',J k W→Chg (fun x=>x=bl∨x=bi) W W'→J k W') (hY:∀k W,k<hgt n+1→J k W→Yat Tryz.prog lp [vI k,vI (num n k+idx b k)] W (fun v W'=>(v= .bool true∧J (k+1) W'∧Chg (fun b=>B≤b∨U b) W W')∨(v= .bool false∧Chg (fun b=>B≤b∨U b) W W'∧Jx k W'))) (h0:J 0 w):
  Calls Tryz.prog 75 #[(.func (.yield lp) #[] #[]),(vP bl 0),(vP bq 0),(vP bi 0)] w (Ret fun r w'=>J (hgt n+1) w'∨∃k,k<hgt n+1∧Jx k w'):=by
 refine zw (n:=25) (σ:= [(0,(.func (.yield lp) #[] #[])),(1,(vP bl 0)),(2,(vP bq 0)),(3,(vP bi 0))]) Tryz.func75 rfl ?_
 have hlc:=hc.len_eq;rw [zck] at hlc
 have hlf:=hf.len_eq;rw [zcC] at hlf
 have h5:=zam n
 have hts:=zau hp1
 refine zp (zU (X:=Nat) (fun m=> []) [5,6,7,8,9,10,11,12,13,14,15,16,17,18,19,20,21,22,23,24] (fun m w1=>m≤hgt n+1∧J m w1∧Blk w1 bl [vI m] 3∧Blk w1 bi [vI (idx b m)] 3∧Blk w1 bq ([(.slice ac nc cc),(.slice af nf cf)]) 114∧Es (nv .i64) lc hc2 w1 ac nc cc (za9 n (hgt n+1))∧Es (nv .i64) lf hf2 w1 af nf cf (zbk n (hgt n+1))) (fun m=>hgt n+1-m) 0 (by kernel_rfl) ⟨Nat.zero_le _,h0,hB1,hB3,hB2,hc,hf⟩ ?_)
 rintro m dw1 w1 ⟨hm,hJm,hBl,hBi,hBq,hc1,hf1⟩
 have hbl1:=hBl.lt;have hbl2:=hBi.lt;have hbl3:=hBq.lt
 have hgf:m<hgt n+1→gt (zbk n (hgt n+1)) m=num n m:=fun hh=>zcM hh
 have hib:=zl7 b m
 refine zd (wsr (za (zm bl 0 (hBl.cell rfl) ?_)))
 refine zb 1 [(6,(vP bq 0))] (za (zm bq 0 (hBq.cell rfl) ?_))
 refine zb 1 [(8,(vI nc))] (za (zag 9 m nc (fun hc9=> ?_) (fun hc9=> ?_)))
 ·replace hgf:=hgf (by omega)
  have hij:=zbw (n:=n) (i:=b) hp2 m
  have hpl:=zaL (n:=n) (l:=m) (j:=idx b m) (by omega) hij
  refine wEt (zk (zl (zc (zd (zp (zd (zbO (fun x=>B≤x∨U x) 11 (fun w2 hEw2 hzw2 hT32=> ?_))))))))
  have hX1:Chg (fun x=>B≤x∨U x) w2 w2:=(Chg.refl (fun x=>B≤x∨U x) w2)
  refine ze (hw:=hX1) hT32 [(0,14,(.func (.yield lp) #[] #[]))] 1 (zx (hw:=hX1) hT32 1 bl 0 (fun w' hC=>(((hBl.ext hEw2).chg hC (fun hs=>by have hu:=hU _ hs;omega)).cell rfl)) (ze (hw:=hX1) hT32 [(2,16,(vP bq 1))] 1 (zx (hw:=hX1) hT32 3 bq 1 (fun w' hC=>(((hBq.ext hEw2).chg hC (fun hs=>by have hu:=hU _ hs;omega)).cell rfl)) (zx (hw:=hX1) hT32 4 bl 0 (fun w' hC=>(((hBl.ext hEw2).chg hC (fun hs=>by have hu:=hU _ hs;omega)).cell rfl)) ?_))))
  obtain ⟨b1,o1,rfl⟩:=hf1.addr (by omega)
  refine zaD (hw:=hX1) hT32 5 b1 o1 nf cf m 1 (zx (hw:=hX1) hT32 6 b1 (o1+m*1) (fun w' hC=>(((hf1.ext hEw2).chg hC (fun k h1 h2 hs=>by have hu:=hU _ hs;omega)).celln (by omega))) (zx (hw:=hX1) hT32 7 bi 0 (fun w' hC=>(((hBi.ext hEw2).chg hC (fun hs=>by have hu:=hU _ hs;omega)).cell rfl)) (zr (hw:=hX1) hT32 8 (vI (num n m+idx b m)) (zac .i64 (IntKind.i64.wrap (((gt (zbk n (hgt n+1)) m:Nat):Int)+((idx b m:Nat):Int))) (zao)) (zy 9 (zma (some 23) lp [(vI m),(vI (num n m+idx b m))] (hY m _ (by omega) (hJ _ _ _ hJm hEw2.chg)) ?_)))))
  rintro _ w3 (⟨rfl,hJw3,hCw3⟩|⟨rfl,hCw3,hXw3⟩)
  ·have hzw3:=hCw3.size
   have hX2:Chg (fun x=>B≤x∨U x) w2 w3:=(Chg.then (Chg.refl (fun x=>B≤x∨U x) w2) hCw3 (fun k hk hs=>hs))
   refine ⟨.inr hX2, ?_⟩
   refine ze (hw:=hX2) hT32 [(10,24,vF)] 1 (zB (zc (zf (zl (zi (zc (zbO (fun k=>k=bl) 6 (fun w4 hEw4 hzw4 hT56=> ?_))))))))
   have hK1:=((((hBi.ext hEw2)).chg hCw3 (fun hs=>by have hu:=hU _ hs;omega)).ext hEw4)
   have hX3:Chg (fun k=>k=bl) w4 w4:=(Chg.refl (fun k=>k=bl) w4)
   refine zx (hw:=hX3) hT56 2 bi 0 (fun w' hC=>((hK1.chg hC (fun hs=>by have h:_=_:=hs;omega)).cell rfl)) (zr (hw:=hX3) hT56 3 (vI (idx b (m+1))) (zac .i64 (IntKind.i64.wrap (((idx b m:Nat):Int).tdiv ((4:Nat):Int))) (zao (zez _ _) (by omega) (by have:=zl7 b (m+1);omega))) ?_)
   have hK2:=((((hBl.ext hEw2)).chg hCw3 (fun hs=>by have hu:=hU _ hs;omega)).ext hEw4)
   refine zy 0 (zm bl 0 (hK2.cell rfl) ?_)
   refine ⟨.inr hX3, ?_⟩
   refine zr (hw:=hX3) hT56 1 (vI (m+1)) (zac .i64 (IntKind.i64.wrap (((m:Nat):Int)+((1:Nat):Int))) (zao)) (zy 4 (zah 3 bl 0 3 (vI (m+1)) ([vI m]) hK2 (by first | decide |(simp;done)|(simp;omega)) ?_))
   intro w5 hBw5 hCw5
   have hzw5:=hCw5.size
   replace hBw5:=hBw5.set1
   have hX4:Chg (fun k=>k=bl) w4 w5:=(Chg.then (Chg.refl (fun k=>k=bl) w4) hCw5 (fun k hk hs=>by have h:k=_:=hs;first | exact hs | exact .inl h | exact .inr h |(exfalso;omega)))
   refine ⟨.inr hX4, ?_⟩
   refine zy 5 (zah 3 bi 0 3 (vI (idx b (m+1))) ([vI (idx b m)]) (hK1.chg hCw5) (by first | decide |(simp;done)|(simp;omega)) ?_)
   intro w6 hBw6 hCw6
   have hzw6:=hCw6.size
   replace hBw6:=hBw6.set1
   refine ⟨.inl (by kernel_rfl), ?_⟩
   refine zB (zn ?_)
   have hK3:=((((((hBq.ext hEw2)).chg hCw3 (fun hs=>by have hu:=hU _ hs;omega)).ext hEw4).chg hCw5).chg hCw6)
   have hK4:=((((((hc1.ext hEw2)).chg hCw3 (fun k h1 h2 hs=>by have hu:=hU _ hs;omega)).ext hEw4).chg hCw5).chg hCw6)
   have hK5:=((((((hf1.ext hEw2)).chg hCw3 (fun k h1 h2 hs=>by have hu:=hU _ hs;omega)).ext hEw4).chg hCw5).chg hCw6)
   refine zG (m+1) ?_ ?_
   ·exact ⟨by omega,(hJ _ _ _ (hJ _ _ _ (hJ _ _ _ hJw3 hEw4.chg) (Chg.mono hCw5 (fun x _ hx=> .inl hx))) (Chg.mono hCw6 (fun x _ hx=> .inr hx))),(hBw5.chg hCw6),hBw6,hK3,hK4,hK5⟩
   ·first | omega |(dsimp only;omega)
  ·have hzw3:=hCw3.size
   have hX5:Chg (fun x=>B≤x∨U x) w2 w3:=(Chg.then (Chg.refl (fun x=>B≤x∨U x) w2) hCw3 (fun k hk hs=>hs))
   refine ⟨.inr hX5, ?_⟩
   refine ze (hw:=hX5) hT32 [(10,24,vT)] 1 (zB (zc (zk (zaH (zu (zj (zj (zu (zh (.tuple #[]) ?_)))))))))
   exact .inr ⟨m,by omega,hXw3⟩
 ·obtain rfl:m=hgt n+1:=by omega
  exact wEt (zf (zP (zo (zo (zD (zlY (.inl hJm)))))))
theorem zrM {lo_c hi_c:Nat} {a_c:Option Addr} {n_c c_c:Nat} {c:List Nat} {lo_f hi_f:Nat} {a_f:Option Addr} {n_f c_f:Nat} {f:List Nat} (v:Nat) (j:Nat) (w:World) (h_c:Es (nv .i64) lo_c hi_c w a_c n_c c_c c) (h_f:Es (nv .i64) lo_f hi_f w a_f n_f c_f f):
  Calls Tryz.prog 53 #[(vA [(.slice a_c n_c c_c),(.slice a_f n_f c_f)]),(vI v),(vI j)] w (Ret fun r w'=>∃(a0:Nat) (a0y:Nat) (a0z:Nat),r=(.func (.func 75) #[] #[(vP a0 0),(vP a0y 0),(vP a0z 0)])∧(w.heap.size≤a0∧w.heap.size≤a0y∧w.heap.size≤a0z∧a0≠a0y∧a0≠a0z∧a0y≠a0z)∧Blk w' a0 [(vI v)] 3∧Blk w' a0y [(.slice a_c n_c c_c),(.slice a_f n_f c_f)] 114∧Blk w' a0z [(vI j)] 3∧Ext w w'):=by
 refine zw (n:=8) (σ:= [(0,(vA [(.slice a_c n_c c_c),(.slice a_f n_f c_f)])),(1,(vI v)),(2,(vI j))]) Tryz.func53 rfl ?_
 replace h_c:=h_c.now;have hle_c:=h_c.le
 replace h_f:=h_f.now;have hle_f:=h_f.le
 refine wsr (za (zS (Instr.box 114 (vA [(.slice a_c n_c c_c),(.slice a_f n_f c_f)])) (vP w.heap.size 0) ([(.slice a_c n_c c_c),(.slice a_f n_f c_f)]) 114 ?_))
 intro w1 hBw1 hEw1 hzw1 hlw1
 refine za (zS (Instr.box 3 (vI v)) (vP w1.heap.size 0) ([(vI v)]) 3 ?_)
 intro w2 hBw2 hEw2 hzw2 hlw2
 refine za (zS (Instr.box 3 (vI j)) (vP w2.heap.size 0) ([(vI j)]) 3 ?_)
 intro w3 hBw3 hEw3 hzw3 hlw3
 refine zb 1 [(6, .nilFunc)] (zz (zb 2 [(6,(.func (.func 75) #[] #[(vP w1.heap.size 0),(vP w.heap.size 0),(vP w2.heap.size 0)])),(7,(.func (.func 75) #[] #[(vP w1.heap.size 0),(vP w.heap.size 0),(vP w2.heap.size 0)]))] (zF (zh (.func (.func 75) #[] #[(vP w1.heap.size 0),(vP w.heap.size 0),(vP w2.heap.size 0)]) ?_))))
 exact ⟨_,_,_,rfl,by omega,(hBw2.ext hEw3),((hBw1.ext hEw2).ext hEw3),hBw3,((hEw1.trans hEw2).trans hEw3)⟩
end Go.Proofs.YtkmhgepdhilllaaGreatDoor
namespace Go.Proofs.YtkmhgepdhilllaaGreatDoor
open Go Go.RowKit Go.Cs
set_option maxRecDepth 100000
set_option maxHeartbeats 4000000 in
theorem zgt (n:Nat) {lo_t hi_t:Nat} {a_t:Option Addr} {n_t c_t:Nat} {t:List Un} (b:Nat) (x:Non) (y:Dig) (w:World) (h_t:Ms unC 280 lo_t hi_t w a_t n_t c_t t) (hp0:1≤n) (hp1:n≤4096) (hp2:n_t=tot n) (hp3:∀i,i<t.length→(t.getD i Un.zero).sl=0∨(t.getD i Un.zero).sl=1) (hp4:zaY n (zaG n t)=0) (hp5:b<n) (hg0:Gl 0 [vI 45,vI 33] w) (hg1:Gl 1 (w8C zaV) w) (hg2:Gl 3 (zas kA) w):
  Calls Tryz.prog 22 #[(vA [(vI n),(.slice a_t n_t c_t)]),(vI b),(vA (zbb x)),(vA (zK y))] w (Ret fun r w'=>∃a1,r=(.tuple #[(vA [(vI n),(.slice a1 n_t n_t)]),(vI (zbx (t.getD (b/4) Un.zero) (b%4))),(vI 0)])∧Ms unC 280 w.heap.size w'.heap.size w' a1 n_t n_t (zfC n t b x y)∧Ext w w'):=by
 refine zcZ (n:=111) (σ:= [(0,(vA [(vI n),(.slice a_t n_t c_t)])),(1,(vI b)),(2,(vA (zbb x))),(3,(vA (zK y)))]) Tryz.func22 rfl ?_
 replace h_t:=h_t.now;have hle_t:=h_t.le
 have hgl0:=hg0.lt
 have hgl1:=hg1.lt
 have hgl2:=hg2.lt
 have h5:=zam n
 have hlt:=h_t.len_eq
 have hts:=zau hp1
 have hle:=h_t.le
 have hb0:b/4<cnt n 0:=zbw hp5 0
 have hb4:=zaL (n:=n) (l:=0) (j:=b/4) (Nat.zero_le _) hb0
 have hn0:num n 0=0:=rfl
 have htg:=zkl (t.getD (b/4) Un.zero) (b%4)
 have hG:GoodT n (set1 t b x y):=(GoodT.of (by omega) hp4).set1 hp5
 have hS:Slt n (set1 t b x y):=(Slt.of (by omega) (zci.2 hp3)).set1 (by omega) hp5
 refine wsr (za (zS (Instr.box 38 (vA [(vI n),(.slice a_t n_t c_t)])) (vP w.heap.size 0) ([(vI n),(.slice a_t n_t c_t)]) 38 ?_))
 intro w1 hBw1 hEw1 hzw1 hlw1
 refine za (zS (Instr.box 56 (vA (zbb x))) (vP w1.heap.size 0) (zbb x) 56 ?_)
 intro w2 hBw2 hEw2 hzw2 hlw2
 refine za (zS (Instr.box 59 (vA (zK y))) (vP w2.heap.size 0) (zK y) 59 ?_)
 intro w3 hBw3 hEw3 hzw3 hlw3
 refine za (zad ([(vI 0),(.slice none 0 0)]) 38 ?_)
 intro w4 hBw4 hEw4 hzw4 hlw4
 refine zb 2 [(10,(vI 0)),(9,(vI 0))] (zz ?_)
 have hK1:=(((hBw1.ext hEw2).ext hEw3).ext hEw4)
 refine za (zV w.heap.size 0 (hK1.all) ?_)
 refine zb 1 [(24,(vI b))] ?_
 have hX1:=((hEw1.trans hEw2).trans hEw3).trans hEw4
 refine za (zt (zmn n b _ (h_t.ext hX1) (by omega) (by omega) (by omega) (by assumption) (by assumption) (by omega) (hg0.ext hX1) (hg1.ext hX1) (hg2.ext hX1)) ?_)
 rintro _ w5 ⟨a1,ca1,a2,ca2,rfl,hFz1_0,hFz1_1,hEw5⟩
 have hzw5:=hEw5.size
 have hlea1:=hFz1_0.le
 have hlea2:=hFz1_1.le
 refine zb 3 [(27,(vI 0)),(26,(vA [(.slice a1 (hgt n+1) ca1),(.slice a2 (hgt n+1) ca2)])),(22,(.tuple #[(vA [(.slice a1 (hgt n+1) ca1),(.slice a2 (hgt n+1) ca2)]),(vI 0)]))] (zal ([(.slice a1 (hgt n+1) ca1),(.slice a2 (hgt n+1) ca2)]) 114 rfl (by simp [Value.oneCell']) ?_)
 intro w6 hBw6 hEw6 hzw6 hlw6
 refine zb 1 [(12,(vI 0))] (zM (zb 1 [(28,(vI 0))] (za (zbe 29 0 0 ?_))))
 refine wEt (zf (zl (zc (wsr (za (zV w.heap.size 0 (((hK1.ext hEw5).ext hEw6).all) ?_))))))
 have hK2:=(((h_t.ext hX1).ext hEw5).ext hEw6)
 refine za (zt (zpA ((n:Nat):Int) _ hK2 (by omega) (by omega)) ?_)
 rintro _ w7 ⟨a3,rfl,hFz2_0,hFz2_1,hFz2_2,hFz2_3,hEw7⟩
 have hzw7:=hEw7.size
 have hla3:=hFz2_1.lt;have hma3:=Ms.of_row hFz2_1 zI (len:=n_t) hFz2_2 hFz2_3
 refine zal ([(.int .i64 ((n:Nat):Int)),(.slice (pA a3 0) n_t n_t)]) 38 rfl (by simp [Value.oneCell']) ?_
 intro w8 hBw8 hEw8 hzw8 hlw8
 refine zz (zb 1 [(34,(vI b))] (za (zae (some 35) .i64 (IntKind.i64.wrap (((b:Nat):Int).tdiv ((4:Nat):Int))) (b/4) (zao (zez _ _)) ?_)))
 refine zb 1 [(36,(vI b))] (za (zae (some 37) .i64 (((b:Nat):Int).tmod ((4:Nat):Int)) (b%4) (zcX _ _) ?_))
 refine zb 2 [(15,(vI (b%4))),(14,(vI (b/4)))] (zz (zb 1 [(38,(vP w7.heap.size 1))] (za (zm w7.heap.size 1 (hBw8.cell rfl) ?_))))
 refine zb 1 [(40,(vI (b/4)))] (za (zan a3 0 n_t n_t (b/4) 280 ?_))
 refine za (zQ a3 (0+(b/4)*280) ((hma3.ext hEw8).at Un.zero (by omega)) (zI _) ?_)
 refine zb 1 [(43,(vI (b%4)))] (za (zt (zqL (t.getD (b/4) Un.zero) (b%4) _ (by omega)) ?_))
 rintro _ w9 ⟨rfl,hEw9⟩
 have hzw9:=hEw9.size
 refine zb 1 [(16,(vI (zbx (t.getD (b/4) Un.zero) (b%4))))] (zz (zb 1 [(46,(vI (zbx (t.getD (b/4) Un.zero) (b%4))))] (za (zt (zhC (zbx (t.getD (b/4) Un.zero) (b%4)) _ (by omega)) ?_))))
 rintro _ w10 ⟨rfl,hEw10⟩
 have hzw10:=hEw10.size
 refine zb 5 [(18,(vI 0)),(17,(vB ((zbx (t.getD (b/4) Un.zero) (b%4))+1))),(49,(vI 0)),(48,(vB ((zbx (t.getD (b/4) Un.zero) (b%4))+1))),(45,(.tuple #[(vB ((zbx (t.getD (b/4) Un.zero) (b%4))+1)),(vI 0)]))] (wEt (zd (zbO (fun k=>k=a3) 13 (fun w11 hEw11 hzw11 hT103=> ?_))))
 have hX2:Chg (fun k=>k=a3) w11 w11:=(Chg.refl (fun k=>k=a3) w11)
 refine ze (hw:=hX2) hT103 [(0,50,(vP w7.heap.size 1))] 1 ?_
 have hK3:=(((hBw8.ext hEw9).ext hEw10).ext hEw11)
 refine zx (hw:=hX2) hT103 1 w7.heap.size 1 (fun w' hC=>((hK3.chg hC (fun hs=>by have h:_=_:=hs;omega)).cell rfl)) (ze (hw:=hX2) hT103 [(2,52,(vI (b/4))),(3,53,(vI (b%4))),(4,54,(vB ((zbx (t.getD (b/4) Un.zero) (b%4))+1)))] 3 ?_)
 have hX3:=((hEw5.trans hEw6).trans hEw7).trans hEw8
 have hK4:=((((((hBw2.ext hEw3).ext hEw4).ext hX3).ext hEw9).ext hEw10).ext hEw11)
 refine zaq (hw:=hX2) hT103 5 w1.heap.size 0 (fun w' hC=>((hK4.chg hC (fun hs=>by have h:_=_:=hs;omega)).all)) (zfN _) ?_
 have hK5:=(((((hBw3.ext hEw4).ext hX3).ext hEw9).ext hEw10).ext hEw11)
 refine zaq (hw:=hX2) hT103 6 w2.heap.size 0 (fun w' hC=>((hK5.chg hC (fun hs=>by have h:_=_:=hs;omega)).all)) (zar _) (zr (hw:=hX2) hT103 7 (vA (zL (zbo (t.getD (b/4) Un.zero) (b%4) x y))) (zai (Instr.build 68 #[(0,(vB ((zbx (t.getD (b/4) Un.zero) (b%4))+1))),(1,(vA (zbb x))),(2,(vA (zK y)))]) (fun w' hC=>(zeP ((zbx (t.getD (b/4) Un.zero) (b%4))+1) x y (by omega)).trans (congrArg (fun z:Rec=>Result.ok (Value.agg (zL z).toArray) _) (show (⟨(zbx (t.getD (b/4) Un.zero) (b%4))+1,x,y,by omega⟩:Rec)=zbo (t.getD (b/4) Un.zero) (b%4) x y from rfl)))) (zaD (hw:=hX2) hT103 8 a3 0 n_t n_t (b/4) 280 (ze (hw:=hX2) hT103 [(9,59,(vP a3 (0+(b/4)*280))),(10,60,(vP a3 (0+(b/4)*280+2)))] 2 (zaP (hw:=hX2) hT103 11 a3 (0+(b/4)*280+2) (b%4) 4 35 ?_))))
 have hK6:=((((hFz2_1.ext hEw8).ext hEw9).ext hEw10).ext hEw11)
 refine zy 12 (zC 68 a3 (0+(b/4)*280+2+(b%4)*35) 77 (vA (zL (zbo (t.getD (b/4) Un.zero) (b%4) x y))) (t.flatMap unC) (zL (zbo (t.getD (b/4) Un.zero) (b%4) x y)) hK6 (by rw [zab];kernel_rfl) (by (try simp only [List.length_append]);rw [zaC zI];have:=hFz2_2;have hq:b/4<List.length t:=(by (try simp only [List.length_set]);have:=hFz2_2;omega);rw [zab];omega) (zbi _) ?_)
 have hK7:=((((hFz2_1.ext hEw8).ext hEw9).ext hEw10).ext hEw11)
 intro w12 hBw12 hCw12
 have hzw12:=hCw12.size
 rw [show (zZ (t.flatMap unC) (0+(b/4)*280+2+(b%4)*35) (zL (zbo (t.getD (b/4) Un.zero) (b%4) x y)):List Value)=(t.set (b/4) ((t.getD (b/4) Un.zero).setR (b%4) (zbo (t.getD (b/4) Un.zero) (b%4) x y))).flatMap unC from (show zZ (t.flatMap unC) (0+(b/4)*280+2+(b%4)*35) (zL (zbo (t.getD (b/4) Un.zero) (b%4) x y))=(t.set (b/4) ((t.getD (b/4) Un.zero).setR (b%4) (zbo (t.getD (b/4) Un.zero) (b%4) x y))).flatMap unC from by have hz:=(zcc zI Un.zero ((t.getD (b/4) Un.zero).setR (b%4) (zbo (t.getD (b/4) Un.zero) (b%4) x y)) t (b/4) (2+(b%4)*35) (zL (zbo (t.getD (b/4) Un.zero) (b%4) x y)) [] (by (try simp only [List.length_set]);have:=hFz2_2;omega) (zsH (by omega)) (by rw [zab];omega));rw [List.append_nil,List.append_nil] at hz;rw [show 0+(b/4)*280+2+(b%4)*35=(b/4)*280+(2+(b%4)*35) from by omega];exact hz)] at hBw12
 have hmw12:Ms unC 280 a3 (a3+1) w12 (pA a3 0) n_t n_t (t.set (b/4) ((t.getD (b/4) Un.zero).setR (b%4) (zbo (t.getD (b/4) Un.zero) (b%4) x y))):=Ms.of_pre (r:= []) (by rw [List.append_nil];exact hBw12) zI (by (try simp only [List.length_set]);have:=hFz2_2;omega) (by omega) (by simp only [maxLen];omega) (by omega) (by omega)
 have hX4:Chg (fun k=>k=a3) w11 w12:=(Chg.then (Chg.refl (fun k=>k=a3) w11) hCw12 (fun k hk hs=>by have h:k=_:=hs;first | exact hs | exact .inl h | exact .inr h |(exfalso;omega)))
 refine ⟨.inr hX4, ?_⟩
 refine zB (zc (wsr (zb 1 [(62,(vP w7.heap.size 1))] (za (zm w7.heap.size 1 ((hK3.chg hCw12).cell rfl) ?_)))))
 refine zb 2 [(65,(vI (b%4))),(64,(vI (b/4)))] (za (zan a3 0 n_t n_t (b/4) 280 ?_))
 refine zb 1 [(67,(vP a3 (0+(b/4)*280+276)))] (za (zaW a3 (0+(b/4)*280+276) (b%4) 4 1 ?_))
 refine za (zah 4 a3 (0+(b/4)*280+276+(b%4)*1) 77 vT ((t.set (b/4) ((t.getD (b/4) Un.zero).setR (b%4) (zbo (t.getD (b/4) Un.zero) (b%4) x y))).flatMap unC) hBw12 (by (try simp only [List.length_append]);rw [zaC zI];have:=hFz2_2;have hq:b/4<List.length (t.set (b/4) ((t.getD (b/4) Un.zero).setR (b%4) (zbo (t.getD (b/4) Un.zero) (b%4) x y))):=(by (try simp only [List.length_set]);have:=hFz2_2;omega);omega) ?_)
 intro w13 hBw13 hCw13
 have hzw13:=hCw13.size
 rw [show (((t.set (b/4) ((t.getD (b/4) Un.zero).setR (b%4) (zbo (t.getD (b/4) Un.zero) (b%4) x y))).flatMap unC).set (0+(b/4)*280+276+(b%4)*1) vT:List Value)=((t.set (b/4) ((t.getD (b/4) Un.zero).setR (b%4) (zbo (t.getD (b/4) Un.zero) (b%4) x y))).set (b/4) (((t.set (b/4) ((t.getD (b/4) Un.zero).setR (b%4) (zbo (t.getD (b/4) Un.zero) (b%4) x y))).getD (b/4) Un.zero).setCh (b%4) true)).flatMap unC from (show zZ ((t.set (b/4) ((t.getD (b/4) Un.zero).setR (b%4) (zbo (t.getD (b/4) Un.zero) (b%4) x y))).flatMap unC) (0+(b/4)*280+276+(b%4)*1) ([vT])=((t.set (b/4) ((t.getD (b/4) Un.zero).setR (b%4) (zbo (t.getD (b/4) Un.zero) (b%4) x y))).set (b/4) (((t.set (b/4) ((t.getD (b/4) Un.zero).setR (b%4) (zbo (t.getD (b/4) Un.zero) (b%4) x y))).getD (b/4) Un.zero).setCh (b%4) true)).flatMap unC from by have hz:=(zcc zI Un.zero (((t.set (b/4) ((t.getD (b/4) Un.zero).setR (b%4) (zbo (t.getD (b/4) Un.zero) (b%4) x y))).getD (b/4) Un.zero).setCh (b%4) true) (t.set (b/4) ((t.getD (b/4) Un.zero).setR (b%4) (zbo (t.getD (b/4) Un.zero) (b%4) x y))) (b/4) (276+(b%4)*1) ([vT]) [] (by (try simp only [List.length_set]);have:=hFz2_2;omega) (zhy (by omega)) (by simp only [List.length_cons,List.length_nil];omega));rw [List.append_nil,List.append_nil] at hz;rw [show 0+(b/4)*280+276+(b%4)*1=(b/4)*280+(276+(b%4)*1) from by omega];exact hz)] at hBw13
 have hmw13:Ms unC 280 a3 (a3+1) w13 (pA a3 0) n_t n_t ((t.set (b/4) ((t.getD (b/4) Un.zero).setR (b%4) (zbo (t.getD (b/4) Un.zero) (b%4) x y))).set (b/4) (((t.set (b/4) ((t.getD (b/4) Un.zero).setR (b%4) (zbo (t.getD (b/4) Un.zero) (b%4) x y))).getD (b/4) Un.zero).setCh (b%4) true)):=Ms.of_pre (r:= []) (by rw [List.append_nil];exact hBw13) zI (by (try simp only [List.length_set]);have:=hFz2_2;omega) (by omega) (by simp only [maxLen];omega) (by omega) (by omega)
 refine zz (zb 1 [(69,(vP w7.heap.size 1))] (za (zm w7.heap.size 1 (((hK3.chg hCw12).chg hCw13).cell rfl) ?_)))
 refine zb 1 [(71,(vI (b/4)))] (za (zan a3 0 n_t n_t (b/4) 280 ?_))
 refine zb 1 [(73,(vP a3 (0+(b/4)*280+275)))] (za (zah 4 a3 (0+(b/4)*280+275) 77 vT (((t.set (b/4) ((t.getD (b/4) Un.zero).setR (b%4) (zbo (t.getD (b/4) Un.zero) (b%4) x y))).set (b/4) (((t.set (b/4) ((t.getD (b/4) Un.zero).setR (b%4) (zbo (t.getD (b/4) Un.zero) (b%4) x y))).getD (b/4) Un.zero).setCh (b%4) true)).flatMap unC) hBw13 (by (try simp only [List.length_append,List.length_cons,List.length_nil,List.length_set]);(try rw [zaC zI]);(try simp only [List.length_set]);have:=hFz2_2;omega) ?_))
 intro w14 hBw14 hCw14
 have hzw14:=hCw14.size
 rw [show ((((t.set (b/4) ((t.getD (b/4) Un.zero).setR (b%4) (zbo (t.getD (b/4) Un.zero) (b%4) x y))).set (b/4) (((t.set (b/4) ((t.getD (b/4) Un.zero).setR (b%4) (zbo (t.getD (b/4) Un.zero) (b%4) x y))).getD (b/4) Un.zero).setCh (b%4) true)).flatMap unC).set (0+(b/4)*280+275) vT:List Value)=(((t.set (b/4) ((t.getD (b/4) Un.zero).setR (b%4) (zbo (t.getD (b/4) Un.zero) (b%4) x y))).set (b/4) (((t.set (b/4) ((t.getD (b/4) Un.zero).setR (b%4) (zbo (t.getD (b/4) Un.zero) (b%4) x y))).getD (b/4) Un.zero).setCh (b%4) true)).set (b/4) ((((t.set (b/4) ((t.getD (b/4) Un.zero).setR (b%4) (zbo (t.getD (b/4) Un.zero) (b%4) x y))).set (b/4) (((t.set (b/4) ((t.getD (b/4) Un.zero).setR (b%4) (zbo (t.getD (b/4) Un.zero) (b%4) x y))).getD (b/4) Un.zero).setCh (b%4) true)).getD (b/4) Un.zero).setDt true)).flatMap unC from (by have hz:=zcc zI Un.zero ((((t.set (b/4) ((t.getD (b/4) Un.zero).setR (b%4) (zbo (t.getD (b/4) Un.zero) (b%4) x y))).set (b/4) (((t.set (b/4) ((t.getD (b/4) Un.zero).setR (b%4) (zbo (t.getD (b/4) Un.zero) (b%4) x y))).getD (b/4) Un.zero).setCh (b%4) true)).getD (b/4) Un.zero).setDt true) ((t.set (b/4) ((t.getD (b/4) Un.zero).setR (b%4) (zbo (t.getD (b/4) Un.zero) (b%4) x y))).set (b/4) (((t.set (b/4) ((t.getD (b/4) Un.zero).setR (b%4) (zbo (t.getD (b/4) Un.zero) (b%4) x y))).getD (b/4) Un.zero).setCh (b%4) true)) (b/4) 275 ([vT]) [] (by (try simp only [List.length_set]);have:=hFz2_2;omega) (zi0) (by (try simp only [List.length_cons,List.length_nil]);(try rw [zI]);omega);rw [List.append_nil,List.append_nil] at hz;rw [show 0+(b/4)*280+275=(b/4)*280+275 from by omega];exact hz),show (((t.set (b/4) ((t.getD (b/4) Un.zero).setR (b%4) (zbo (t.getD (b/4) Un.zero) (b%4) x y))).set (b/4) (((t.set (b/4) ((t.getD (b/4) Un.zero).setR (b%4) (zbo (t.getD (b/4) Un.zero) (b%4) x y))).getD (b/4) Un.zero).setCh (b%4) true)).set (b/4) ((((t.set (b/4) ((t.getD (b/4) Un.zero).setR (b%4) (zbo (t.getD (b/4) Un.zero) (b%4) x y))).set (b/4) (((t.set (b/4) ((t.getD (b/4) Un.zero).setR (b%4) (zbo (t.getD (b/4) Un.zero) (b%4) x y))).getD (b/4) Un.zero).setCh (b%4) true)).getD (b/4) Un.zero).setDt true))=(set1 t b x y) from zsP (by omega) rfl rfl] at hBw14
 have hmw14:Ms unC 280 a3 (a3+1) w14 (pA a3 0) n_t n_t (set1 t b x y):=Ms.of_pre (r:= []) (by rw [List.append_nil];exact hBw14) zI (by rw [zc9];omega) (by omega) (by simp only [maxLen] at*;omega) (by omega) (by omega)
 refine zz (zb 1 [(74,(vP w7.heap.size 1))] ?_)
 have hK8:=(((hK3.chg hCw12).chg hCw13).chg hCw14)
 refine za (zm w7.heap.size 1 (hK8.cell rfl) ?_)
 refine zb 1 [(76,(vI (b/4)))] (za (zan a3 0 n_t n_t (b/4) 280 ?_))
 refine za (zQ a3 (0+(b/4)*280) (hmw14.at Un.zero (by omega)) (zI _) ?_)
 refine zal (unC ((set1 t b x y).getD (b/4) Un.zero)) 77 (zI _) (za7 _) ?_
 intro w15 hBw15 hEw15 hzw15 hlw15
 refine zM ?_
 have hK9:=(((((((((hBw6.ext hEw7).ext hEw8).ext hEw9).ext hEw10).ext hEw11).chg hCw12).chg hCw13).chg hCw14).ext hEw15)
 refine za (zV w5.heap.size 0 (hK9.all) ?_)
 refine zb 1 [(80,(vI (b/4)))] ?_
 have hK10:=((((((((((hFz1_0.ext hEw6).ext hEw7).ext hEw8).ext hEw9).ext hEw10).ext hEw11).chg hCw12).chg hCw13).chg hCw14).ext hEw15)
 have hK11:=((((((((((hFz1_1.ext hEw6).ext hEw7).ext hEw8).ext hEw9).ext hEw10).ext hEw11).chg hCw12).chg hCw13).chg hCw14).ext hEw15)
 refine za (zt (zrM 0 (b/4) _ hK10 hK11) ?_)
 rintro _ w16 ⟨a4,a4y,a4z,rfl,hFz5_0,hFz5_1,hFz5_2,hFz5_3,hEw16⟩
 have hzw16:=hEw16.size
 have hla4:=hFz5_1.lt;have hla4y:=hFz5_2.lt;have hla4z:=hFz5_3.lt
 refine wEt (zp ?_)
 have hK12:=(((((((((hK1.ext hX3).ext hEw9).ext hEw10).ext hEw11).chg hCw12).chg hCw13).chg hCw14).ext hEw15).ext hEw16)
 have hK13:=(((((((((hBw4.ext hX3).ext hEw9).ext hEw10).ext hEw11).chg hCw12).chg hCw13).chg hCw14).ext hEw15).ext hEw16)
 have hX5:Ext w w16:=(((Ext.own (Ext.own (Ext.own ((((hX1.trans hX3).trans hEw9).trans hEw10).trans hEw11) hCw12 (by omega)) hCw13 (by omega)) hCw14 (by omega)).trans hEw15).trans hEw16)
 refine zhY [82,83] 75 [(vP a4 0),(vP a4y 0),(vP a4z 0)] (hgt n+1) (fun k=> [(vI k),(vI (num n k+idx b k))]) (fun b=>b=a3∨b=w14.heap.size) (fun b=>b=a4∨b=a4z) (fun k w'=>Blk w' a3 ((zax n b (set1 t b x y) (k-1)).flatMap unC) 77∧Blk w' w14.heap.size (unC (ndU n (zax n b (set1 t b x y) (k-1)) (k-1) (idx b (k-1)))) 77∧Blk w' w.heap.size ([(vI n),(.slice a_t n_t c_t)]) 38∧Blk w' w3.heap.size ([(vI 0),(.slice none 0 0)]) 38∧Blk w' w5.heap.size ([(.slice a1 (hgt n+1) ca1),(.slice a2 (hgt n+1) ca2)]) 114∧Blk w' w7.heap.size ([(.int .i64 ((n:Nat):Int)),(.slice (pA a3 0) n_t n_t)]) 38∧Es (nv .i64) w4.heap.size w5.heap.size w' a1 (hgt n+1) ca1 (za9 n (hgt n+1))∧Es (nv .i64) w4.heap.size w5.heap.size w' a2 (hgt n+1) ca2 (zbk n (hgt n+1))∧Ext w w') (fun cc k w'=>False) (fun b hb=>by rcases hb with hb | hb<;>omega) (fun _=>rfl) (fun k W W' ⟨h1,h2,h3,h4,h5,h6,h7,h8,h9⟩ hb=>⟨h1.book hb,h2.book hb,h3.book hb,h4.book hb,h5.book hb,h6.book hb,h7.book hb,h8.book hb,h9.book hb (by omega)⟩) (fun _ _ _ _ h _=>h) (fun k W W' ⟨h1,h2,h3,h4,h5,h6,h7,h8,h9⟩ hc=>⟨h1.chg hc (fun hs=>by rcases hs with hs | hs<;>omega),h2.chg hc (fun hs=>by rcases hs with hs | hs<;>omega),h3.chg hc (fun hs=>by rcases hs with hs | hs<;>omega),h4.chg hc (fun hs=>by rcases hs with hs | hs<;>omega),h5.chg hc (fun hs=>by rcases hs with hs | hs<;>omega),h6.chg hc (fun hs=>by rcases hs with hs | hs<;>omega),h7.chg hc (fun k h1 h2 hs=>by rcases hs with hs | hs<;>omega),h8.chg hc (fun k h1 h2 hs=>by rcases hs with hs | hs<;>omega),Ext.ownS h9 hc (fun k hs hk=>by rcases hs with hs | hs<;>omega)⟩) (⟨((hBw14.ext hEw15).ext hEw16),by have hz:=(hBw15.ext hEw16);rw [show (set1 t b x y).getD (b/4) Un.zero=(ndU n (zax n b (set1 t b x y) (0-1)) (0-1) (idx b (0-1))) from by unfold ndU;rw [show num n (0-1)+idx b (0-1)=b/4 from Nat.zero_add _];rfl] at hz;exact hz,hK12,hK13,(hK9.ext hEw16),((hK8.ext hEw15).ext hEw16),(hK10.ext hEw16),(hK11.ext hEw16),hX5⟩) (fun lp J Jx wj hE1 hJ hY h0=>ztY n b w16.heap.size lp _ J Jx wj hp0 hp1 hp5 (hFz5_1.ext hE1) (hFz5_2.ext hE1) (hFz5_3.ext hE1) ((hK10.ext hEw16).ext hE1) ((hK11.ext hEw16).ext hE1) (by omega) (by omega) (fun x hx=>by omega) hJ hY h0) ?_ ?_ ?_
 ·rintro lR k w17 hl ⟨hR,hBe,hK4,hK8,hK11,hK13,hs1,hs2,hEw⟩ hk
  have hzr:=hEw.size
  have hRl:=hR.lt;have hBel:=hBe.lt
  have hK4l:=hK4.lt
  have hK8l:=hK8.lt
  have hK11l:=hK11.lt
  have hK13l:=hK13.lt
  have hmR:=Ms.of_row hR zI (len:=n_t) (by rw [zdG,zc9];omega) (by simp only [maxLen];omega)
  have hij:=zbw (n:=n) (i:=b) hp5 k
  have hpl:=zaL (n:=n) (l:=k) (j:=idx b k) (by omega) hij
  have hgp:=zmI hG hS hp5 (m:=k-1) (by omega)
  have hbq:=hgp.1.pl (k-1) (idx b (k-1)) (by omega) (zbw hp5 _)
  have hbs:=hgp.2 (k-1) (idx b (k-1)) (by omega) (zbw hp5 _)
  refine wsr (zb 1 [(20,(vI k))] (zdx (zb 1 [(21,(vI (num n k+idx b k)))] (zq (zl0 (Kpt.refl _) (Chg.refl _ _) (fun w18 hBkw18=> ?_))))))
  have hzw18:=hBkw18.size
  refine zp (zd (wsr (zb 1 [(84,(vI k))] (za (zcn 85 k 0 (fun hc85=> ?_) (fun hc85=> ?_))))))
  ·refine wEt (zk (zd (zbO (fun k=>k=a3) 14 (fun w19 hEw19 hzw19 hT222=> ?_))))
   have hX6:Chg (fun k=>k=a3) w19 w19:=(Chg.refl (fun k=>k=a3) w19)
   refine ze (hw:=hX6) hT222 [(0,86,(vP w7.heap.size 1))] 1 (zx (hw:=hX6) hT222 1 w7.heap.size 1 (fun w' hC=>((((hK13.book hBkw18).ext hEw19).chg hC (fun hs=>by have h:_=_:=hs;omega)).cell rfl)) (ze (hw:=hX6) hT222 [(2,88,(vI (num n k+idx b k))),(3,89,(vP w14.heap.size 0)),(4,90,(vP w14.heap.size 1))] 3 (zx (hw:=hX6) hT222 5 w14.heap.size 1 (fun w' hC=>((((hBe.book hBkw18).ext hEw19).chg hC (fun hs=>by have h:_=_:=hs;omega)).cell rfl)) (zr (hw:=hX6) hT222 6 (vW (((ndU n (zax n b (set1 t b x y) (k-1)) (k-1) (idx b (k-1))).nd.ix)%4)) (zac .u32 ((((ndU n (zax n b (set1 t b x y) (k-1)) (k-1) (idx b (k-1))).nd.ix:Nat):Int).tmod ((4:Nat):Int)) (zcX _ _)) (zaq (hw:=hX6) hT222 7 w14.heap.size 0 (fun w' hC=>((((hBe.book hBkw18).ext hEw19).chg hC (fun hs=>by have h:_=_:=hs;omega)).all)) (zI _) (zaD (hw:=hX6) hT222 9 a3 0 n_t n_t (num n k+idx b k) 280 (ze (hw:=hX6) hT222 [(10,96,(vP a3 (0+(num n k+idx b k)*280))),(11,97,(vP a3 (0+(num n k+idx b k)*280+142)))] 2 ?_)))))))
   have hK14:=(((hg0.ext hEw).book hBkw18).ext hEw19)
   have hK15:=(((hg1.ext hEw).book hBkw18).ext hEw19)
   have hK16:=(((hg2.ext hEw).book hBkw18).ext hEw19)
   refine zy 8 (zt (zmq (ndU n (zax n b (set1 t b x y) (k-1)) (k-1) (idx b (k-1))) _ (hbs) (hbq.1) hK14 hK15 hK16) ?_)
   rintro _ w20 ⟨rfl,hEw20⟩
   have hzw20:=hEw20.size
   have hX7:Chg (fun k=>k=a3) w19 w20:=((Chg.refl (fun k=>k=a3) w19).trans hEw20.chg)
   refine ⟨.inr hX7, ?_⟩
   refine zr (hw:=hX7) hT222 12 (vP a3 (0+(num n k+idx b k)*280+142+(((ndU n (zax n b (set1 t b x y) (k-1)) (k-1) (idx b (k-1))).nd.ix)%4)*33)) (zai (Instr.indexAt 72 (vP a3 (0+(num n k+idx b k)*280+142)) (vW (((ndU n (zax n b (set1 t b x y) (k-1)) (k-1) (idx b (k-1))).nd.ix)%4))) (fun w' hC=>za8 (E:=71) (sz:=33) (m:=4))) ?_
   have hK17:=(((hR.book hBkw18).ext hEw19).ext hEw20)
   refine zy 13 (zC 71 a3 (0+(num n k+idx b k)*280+142+(((ndU n (zax n b (set1 t b x y) (k-1)) (k-1) (idx b (k-1))).nd.ix)%4)*33) 77 (vA (zW (enU (ndU n (zax n b (set1 t b x y) (k-1)) (k-1) (idx b (k-1)))))) ((zax n b (set1 t b x y) (k-1)).flatMap unC) (zW (enU (ndU n (zax n b (set1 t b x y) (k-1)) (k-1) (idx b (k-1))))) hK17 (by rw [zat];kernel_rfl) (by (try simp only [List.length_append]);rw [zaC zI];have:=(show List.length (zax n b (set1 t b x y) (k-1))=n_t from by rw [zdG,zc9];omega);have hq:num n k+idx b k<List.length (zax n b (set1 t b x y) (k-1)):=(by (try simp only [List.length_set]);rw [zdG,zc9];omega);rw [zat];omega) (zch _) ?_)
   have hK18:=(((hR.book hBkw18).ext hEw19).ext hEw20)
   intro w21 hBw21 hCw21
   have hzw21:=hCw21.size
   rw [show (zZ ((zax n b (set1 t b x y) (k-1)).flatMap unC) (0+(num n k+idx b k)*280+142+(((ndU n (zax n b (set1 t b x y) (k-1)) (k-1) (idx b (k-1))).nd.ix)%4)*33) (zW (enU (ndU n (zax n b (set1 t b x y) (k-1)) (k-1) (idx b (k-1))))):List Value)=((zax n b (set1 t b x y) (k-1)).set (num n k+idx b k) (((zax n b (set1 t b x y) (k-1)).getD (num n k+idx b k) Un.zero).setE (((ndU n (zax n b (set1 t b x y) (k-1)) (k-1) (idx b (k-1))).nd.ix)%4) (enU (ndU n (zax n b (set1 t b x y) (k-1)) (k-1) (idx b (k-1)))))).flatMap unC from (show zZ ((zax n b (set1 t b x y) (k-1)).flatMap unC) (0+(num n k+idx b k)*280+142+(((ndU n (zax n b (set1 t b x y) (k-1)) (k-1) (idx b (k-1))).nd.ix)%4)*33) (zW (enU (ndU n (zax n b (set1 t b x y) (k-1)) (k-1) (idx b (k-1)))))=((zax n b (set1 t b x y) (k-1)).set (num n k+idx b k) (((zax n b (set1 t b x y) (k-1)).getD (num n k+idx b k) Un.zero).setE (((ndU n (zax n b (set1 t b x y) (k-1)) (k-1) (idx b (k-1))).nd.ix)%4) (enU (ndU n (zax n b (set1 t b x y) (k-1)) (k-1) (idx b (k-1)))))).flatMap unC from by have hz:=(zcc zI Un.zero (((zax n b (set1 t b x y) (k-1)).getD (num n k+idx b k) Un.zero).setE (((ndU n (zax n b (set1 t b x y) (k-1)) (k-1) (idx b (k-1))).nd.ix)%4) (enU (ndU n (zax n b (set1 t b x y) (k-1)) (k-1) (idx b (k-1))))) (zax n b (set1 t b x y) (k-1)) (num n k+idx b k) (142+(((ndU n (zax n b (set1 t b x y) (k-1)) (k-1) (idx b (k-1))).nd.ix)%4)*33) (zW (enU (ndU n (zax n b (set1 t b x y) (k-1)) (k-1) (idx b (k-1))))) [] (by (try simp only [List.length_set]);rw [zdG,zc9];omega) (ztA (by omega)) (by rw [zat];omega));rw [List.append_nil,List.append_nil] at hz;rw [show 0+(num n k+idx b k)*280+142+(((ndU n (zax n b (set1 t b x y) (k-1)) (k-1) (idx b (k-1))).nd.ix)%4)*33=(num n k+idx b k)*280+(142+(((ndU n (zax n b (set1 t b x y) (k-1)) (k-1) (idx b (k-1))).nd.ix)%4)*33) from by omega];exact hz)] at hBw21
   have hmw21:Ms unC 280 a3 (a3+1) w21 (pA a3 0) n_t n_t ((zax n b (set1 t b x y) (k-1)).set (num n k+idx b k) (((zax n b (set1 t b x y) (k-1)).getD (num n k+idx b k) Un.zero).setE (((ndU n (zax n b (set1 t b x y) (k-1)) (k-1) (idx b (k-1))).nd.ix)%4) (enU (ndU n (zax n b (set1 t b x y) (k-1)) (k-1) (idx b (k-1)))))):=Ms.of_pre (r:= []) (by rw [List.append_nil];exact hBw21) zI (by (try simp only [List.length_set]);rw [zdG,zc9];omega) (by omega) (by simp only [maxLen];omega) (by omega) (by omega)
   have hX8:Chg (fun k=>k=a3) w19 w21:=(Chg.then ((Chg.refl (fun k=>k=a3) w19).trans hEw20.chg) hCw21 (fun k hk hs=>by have h:k=_:=hs;first | exact hs | exact .inl h | exact .inr h |(exfalso;omega)))
   refine ⟨.inr hX8, ?_⟩
   refine zB (zc (zg (zb 1 [(99,(vP w7.heap.size 1))] ?_)))
   have hK19:=((((hK13.book hBkw18).ext hEw19).ext hEw20).chg hCw21)
   refine za (zm w7.heap.size 1 (hK19.cell rfl) ?_)
   refine zb 1 [(101,(vI (num n k+idx b k)))] (za (zan a3 0 n_t n_t (num n k+idx b k) 280 ?_))
   refine zb 1 [(103,(vP a3 (0+(num n k+idx b k)*280+275)))] (za (zah 4 a3 (0+(num n k+idx b k)*280+275) 77 vT (((zax n b (set1 t b x y) (k-1)).set (num n k+idx b k) (((zax n b (set1 t b x y) (k-1)).getD (num n k+idx b k) Un.zero).setE (((ndU n (zax n b (set1 t b x y) (k-1)) (k-1) (idx b (k-1))).nd.ix)%4) (enU (ndU n (zax n b (set1 t b x y) (k-1)) (k-1) (idx b (k-1)))))).flatMap unC) hBw21 (by (try simp only [List.length_append,List.length_cons,List.length_nil,List.length_set]);(try rw [zaC zI]);(try simp only [List.length_set]);have:=(show List.length (zax n b (set1 t b x y) (k-1))=n_t from by rw [zdG,zc9];omega);omega) ?_))
   intro w22 hBw22 hCw22
   have hzw22:=hCw22.size
   rw [show ((((zax n b (set1 t b x y) (k-1)).set (num n k+idx b k) (((zax n b (set1 t b x y) (k-1)).getD (num n k+idx b k) Un.zero).setE (((ndU n (zax n b (set1 t b x y) (k-1)) (k-1) (idx b (k-1))).nd.ix)%4) (enU (ndU n (zax n b (set1 t b x y) (k-1)) (k-1) (idx b (k-1)))))).flatMap unC).set (0+(num n k+idx b k)*280+275) vT:List Value)=(((zax n b (set1 t b x y) (k-1)).set (num n k+idx b k) (((zax n b (set1 t b x y) (k-1)).getD (num n k+idx b k) Un.zero).setE (((ndU n (zax n b (set1 t b x y) (k-1)) (k-1) (idx b (k-1))).nd.ix)%4) (enU (ndU n (zax n b (set1 t b x y) (k-1)) (k-1) (idx b (k-1)))))).set (num n k+idx b k) ((((zax n b (set1 t b x y) (k-1)).set (num n k+idx b k) (((zax n b (set1 t b x y) (k-1)).getD (num n k+idx b k) Un.zero).setE (((ndU n (zax n b (set1 t b x y) (k-1)) (k-1) (idx b (k-1))).nd.ix)%4) (enU (ndU n (zax n b (set1 t b x y) (k-1)) (k-1) (idx b (k-1)))))).getD (num n k+idx b k) Un.zero).setDt true)).flatMap unC from (by have hz:=zcc zI Un.zero ((((zax n b (set1 t b x y) (k-1)).set (num n k+idx b k) (((zax n b (set1 t b x y) (k-1)).getD (num n k+idx b k) Un.zero).setE (((ndU n (zax n b (set1 t b x y) (k-1)) (k-1) (idx b (k-1))).nd.ix)%4) (enU (ndU n (zax n b (set1 t b x y) (k-1)) (k-1) (idx b (k-1)))))).getD (num n k+idx b k) Un.zero).setDt true) ((zax n b (set1 t b x y) (k-1)).set (num n k+idx b k) (((zax n b (set1 t b x y) (k-1)).getD (num n k+idx b k) Un.zero).setE (((ndU n (zax n b (set1 t b x y) (k-1)) (k-1) (idx b (k-1))).nd.ix)%4) (enU (ndU n (zax n b (set1 t b x y) (k-1)) (k-1) (idx b (k-1)))))) (num n k+idx b k) 275 ([vT]) [] (by (try simp only [List.length_set]);rw [zdG,zc9];omega) (zi0) (by (try simp only [List.length_cons,List.length_nil]);(try rw [zI]);omega);rw [List.append_nil,List.append_nil] at hz;rw [show 0+(num n k+idx b k)*280+275=(num n k+idx b k)*280+275 from by omega];exact hz),show (((zax n b (set1 t b x y) (k-1)).set (num n k+idx b k) (((zax n b (set1 t b x y) (k-1)).getD (num n k+idx b k) Un.zero).setE (((ndU n (zax n b (set1 t b x y) (k-1)) (k-1) (idx b (k-1))).nd.ix)%4) (enU (ndU n (zax n b (set1 t b x y) (k-1)) (k-1) (idx b (k-1)))))).set (num n k+idx b k) ((((zax n b (set1 t b x y) (k-1)).set (num n k+idx b k) (((zax n b (set1 t b x y) (k-1)).getD (num n k+idx b k) Un.zero).setE (((ndU n (zax n b (set1 t b x y) (k-1)) (k-1) (idx b (k-1))).nd.ix)%4) (enU (ndU n (zax n b (set1 t b x y) (k-1)) (k-1) (idx b (k-1)))))).getD (num n k+idx b k) Un.zero).setDt true))=(zfs n b (k-1) (zax n b (set1 t b x y) (k-1))) from zuZ (by omega) (by rw [zdG,zc9];omega) rfl] at hBw22
   have hmw22:Ms unC 280 a3 (a3+1) w22 (pA a3 0) n_t n_t (zfs n b (k-1) (zax n b (set1 t b x y) (k-1))):=Ms.of_pre (r:= []) (by rw [List.append_nil];exact hBw22) zI (by rw [zqK,zdG,zc9];omega) (by omega) (by simp only [maxLen] at*;omega) (by omega) (by omega)
   refine zdx (zb 1 [(104,(vP w7.heap.size 1))] (za (zm w7.heap.size 1 ((hK19.chg hCw22).cell rfl) ?_)))
   refine zb 1 [(106,(vI (num n k+idx b k)))] (za (zan a3 0 n_t n_t (num n k+idx b k) 280 ?_))
   refine za (zQ a3 (0+(num n k+idx b k)*280) (hmw22.at Un.zero (by omega)) (zI _) ?_)
   have hK20:=(((((hBe.book hBkw18).ext hEw19).ext hEw20).chg hCw21).chg hCw22)
   refine za (zC 77 w14.heap.size 0 77 (vA (unC ((zfs n b (k-1) (zax n b (set1 t b x y) (k-1))).getD (num n k+idx b k) Un.zero))) (unC (ndU n (zax n b (set1 t b x y) (k-1)) (k-1) (idx b (k-1)))) (unC ((zfs n b (k-1) (zax n b (set1 t b x y) (k-1))).getD (num n k+idx b k) Un.zero)) hK20 (by rw [zI];kernel_rfl) (by first |(simp;done)|(simp;omega)) (za7 _) ?_)
   have hK21:=(((((hBe.book hBkw18).ext hEw19).ext hEw20).chg hCw21).chg hCw22)
   intro w23 hBw23 hCw23
   have hzw23:=hCw23.size
   rw [zv _ _ (by simp)] at hBw23
   refine zq (zi ?_)
   have hK22:=((((((hK4.book hBkw18).ext hEw19).ext hEw20).chg hCw21).chg hCw22).chg hCw23)
   have hK23:=((((((hK8.book hBkw18).ext hEw19).ext hEw20).chg hCw21).chg hCw22).chg hCw23)
   have hK24:=((((((hK11.book hBkw18).ext hEw19).ext hEw20).chg hCw21).chg hCw22).chg hCw23)
   have hK25:=((((((hs1.book hBkw18).ext hEw19).ext hEw20).chg hCw21).chg hCw22).chg hCw23)
   have hK26:=((((((hs2.book hBkw18).ext hEw19).ext hEw20).chg hCw21).chg hCw22).chg hCw23)
   have hX9:Ext w w23:=(Ext.own (Ext.own (Ext.own (((hEw.book hBkw18 (by omega)).trans hEw19).trans hEw20) hCw21 (by omega)) hCw22 (by omega)) hCw23 (by omega))
   exact zeh ((((((Kpt.refl _).ext hEw19).ext hEw20).blk hK18 hCw21).blk hBw21 hCw22).blk hK21 hCw23) (Chg.then (Chg.then (Chg.then (((Chg.refl _ _).trans hEw19.chg).trans hEw20.chg) hCw21 (fun k hk hs=>by have h:k=_:=hs;first |(left;omega)|(exfalso;omega)|(right;simp [h];done))) hCw22 (fun k hk hs=>by have h:k=_:=hs;first |(left;omega)|(exfalso;omega)|(right;simp [h];done))) hCw23 (fun k hk hs=>by have h:k=_:=hs;first |(left;omega)|(exfalso;omega)|(right;simp [h];done))) (⟨by rw [←zlj (by omega)];exact (hBw22.chg hCw23),by have hz:=hBw23;rw [zlj (by omega)] at hz;exact hz,hK22,hK23,hK24,((hK19.chg hCw22).chg hCw23),hK25,hK26,hX9⟩)
  ·refine wEt (zf (zl (zc (zg (zb 1 [(104,(vP w7.heap.size 1))] (za (zm w7.heap.size 1 ((hK13.book hBkw18).cell rfl) ?_)))))))
   refine zb 1 [(106,(vI (num n k+idx b k)))] (za (zan a3 0 n_t n_t (num n k+idx b k) 280 ?_))
   refine za (zQ a3 (0+(num n k+idx b k)*280) ((hmR.book hBkw18).at Un.zero (by omega)) (zI _) ?_)
   refine za (zC 77 w14.heap.size 0 77 (vA (unC ((zax n b (set1 t b x y) (k-1)).getD (num n k+idx b k) Un.zero))) (unC (ndU n (zax n b (set1 t b x y) (k-1)) (k-1) (idx b (k-1)))) (unC ((zax n b (set1 t b x y) (k-1)).getD (num n k+idx b k) Un.zero)) (hBe.book hBkw18) (by rw [zI];kernel_rfl) (by first |(simp;done)|(simp;omega)) (za7 _) ?_)
   intro w24 hBw24 hCw24
   have hzw24:=hCw24.size
   rw [zv _ _ (by simp)] at hBw24
   exact zq (zi (zeh ((Kpt.refl _).blk (hBe.book hBkw18) hCw24) (Chg.then (Chg.refl _ _) hCw24 (fun k hk hs=>by have h:k=_:=hs;first |(left;omega)|(exfalso;omega)|(right;simp [h];done))) (⟨by rw [show k+1-1=k-1 from by omega];exact ((hR.book hBkw18).chg hCw24),by rw [show k+1-1=0 from by omega];have hz:=hBw24;rw [show k=0 from by omega] at hz;exact hz,((hK4.book hBkw18).chg hCw24),((hK8.book hBkw18).chg hCw24),((hK11.book hBkw18).chg hCw24),((hK13.book hBkw18).chg hCw24),((hs1.book hBkw18).chg hCw24),((hs2.book hBkw18).chg hCw24),(Ext.own (hEw.book hBkw18 (by omega)) hCw24 (by omega))⟩)))
 ·rintro D w25 hD ⟨hR,hBe,hK4,hK8,hK11,hK13,hs1,hs2,hEw⟩ hM
  have hzr:=hEw.size
  have hRl:=hR.lt;have hBel:=hBe.lt
  have hK4l:=hK4.lt
  have hK8l:=hK8.lt
  have hK11l:=hK11.lt
  have hK13l:=hK13.lt
  have hmR:=Ms.of_row hR zI (len:=n_t) (by rw [zdG,zc9];omega) (by simp only [maxLen];omega)
  have hMl:=hM.lt
  refine zi (zc (wsr (za (zV w7.heap.size 0 (hK13.all) ?_))))
  refine zb 1 [(110,(vI (zbx (t.getD (b/4) Un.zero) (b%4))))] (za (zC 38 w3.heap.size 0 38 (vA [(.int .i64 ((n:Nat):Int)),(.slice (pA a3 0) n_t n_t)]) ([(vI 0),(.slice none 0 0)]) ([(.int .i64 ((n:Nat):Int)),(.slice (pA a3 0) n_t n_t)]) hK8 (by kernel_rfl) (by first | decide |(simp;done)|(simp;omega)) (by simp [Value.oneCell']) ?_))
  intro w26 hBw26 hCw26
  have hzw26:=hCw26.size
  rw [zv _ _ (by kernel_rfl)] at hBw26
  refine zb 2 [(10,(vI 0)),(9,(vI (zbx (t.getD (b/4) Un.zero) (b%4))))] (zF ?_)
  obtain ⟨w27,hTw27,hCw27,hBkw27⟩:=zgV (P:=Tryz.prog) (hM.chg hCw26)
  have hzw27:=hCw27.size
  refine zoz hTw27 (zgy (by kernel_rfl) (show zO Tryz.prog 111 _ _ (.cell 8 38) (vA [(.int .i64 ((n:Nat):Int)),(.slice (pA a3 0) n_t n_t)]) from ⟨⟨w3.heap.size,0,none⟩,(by kernel_rfl),zE (T:=38) (vs:= [(.int .i64 ((n:Nat):Int)),(.slice (pA a3 0) n_t n_t)]) ((hBw26.book hBkw27)).all (by kernel_rfl)⟩) (show zO Tryz.prog 111 _ _ (.tmp 9) (vI (zbx (t.getD (b/4) Un.zero) (b%4))) by (show _=_;kernel_rfl)) (show zO Tryz.prog 111 _ _ (.tmp 10) (vI 0) by (show _=_;kernel_rfl))) ?_
  have hfin:=((hmR.chg hCw26).book hBkw27)
  exact ⟨_,rfl,hfin.now.mono (by omega) (Nat.le_refl _),((Ext.own hEw hCw26 (by omega)).book hBkw27 (by omega))⟩
 ·intro D cc k w28 hD hk hx;exact hx.elim
theorem ztr (n:Nat) {lo_t hi_t:Nat} {a_t:Option Addr} {n_t c_t:Nat} {t:List Un} (b:Int) (x:Non) (y:Dig) (w:World) (h_t:Ms unC 280 lo_t hi_t w a_t n_t c_t t) (hp0:1≤n) (hp1:n≤4096) (hp2:n_t=tot n) (hp3:∀i,i<t.length→(t.getD i Un.zero).sl=0∨(t.getD i Un.zero).sl=1) (hp4:zaY n (zaG n t)=0) (hp5:¬(0≤b∧b<n)) (hg0:Gl 0 [vI 45,vI 33] w) (hg1:Gl 1 (w8C zaV) w) (hg2:Gl 3 (zas kA) w):
  Calls Tryz.prog 22 #[(vA [(vI n),(.slice a_t n_t c_t)]),(.int .i64 b),(vA (zbb x)),(vA (zK y))] w (Ret fun r w'=>r=(.tuple #[(vA [(vI 0),(.slice none 0 0)]),(vI 0),(vI 1)])∧Ext w w'):=by
 refine zcZ (n:=111) (σ:= [(0,(vA [(vI n),(.slice a_t n_t c_t)])),(1,(.int .i64 b)),(2,(vA (zbb x))),(3,(vA (zK y)))]) Tryz.func22 rfl ?_
 replace h_t:=h_t.now;have hle_t:=h_t.le
 have hgl0:=hg0.lt
 have hgl1:=hg1.lt
 have hgl2:=hg2.lt
 have h5:=zam n
 have hlt:=h_t.len_eq
 have hts:=zau hp1
 have hle:=h_t.le
 refine wsr (za (zS (Instr.box 38 (vA [(vI n),(.slice a_t n_t c_t)])) (vP w.heap.size 0) ([(vI n),(.slice a_t n_t c_t)]) 38 ?_))
 intro w1 hBw1 hEw1 hzw1 hlw1
 refine za (zS (Instr.box 56 (vA (zbb x))) (vP w1.heap.size 0) (zbb x) 56 ?_)
 intro w2 hBw2 hEw2 hzw2 hlw2
 refine za (zS (Instr.box 59 (vA (zK y))) (vP w2.heap.size 0) (zK y) 59 ?_)
 intro w3 hBw3 hEw3 hzw3 hlw3
 refine za (zad ([(vI 0),(.slice none 0 0)]) 38 ?_)
 intro w4 hBw4 hEw4 hzw4 hlw4
 refine zb 2 [(10,(vI 0)),(9,(vI 0))] (zz ?_)
 have hK1:=(((hBw1.ext hEw2).ext hEw3).ext hEw4)
 refine za (zV w.heap.size 0 (hK1.all) ?_)
 refine zb 1 [(24,(.int .i64 b))] ?_
 have hX1:=((hEw1.trans hEw2).trans hEw3).trans hEw4
 refine za (zt (zj4 n b _ (h_t.ext hX1) (by omega) (by omega) (by omega) (by assumption) (by assumption) (by omega) (hg0.ext hX1) (hg1.ext hX1) (hg2.ext hX1)) ?_)
 rintro _ w5 ⟨a1,na1,ca1,a2,na2,ca2,rfl,hEw5⟩
 have hzw5:=hEw5.size
 refine zb 3 [(27,(vI 1)),(26,(vA [(.slice a1 na1 ca1),(.slice a2 na2 ca2)])),(22,(.tuple #[(vA [(.slice a1 na1 ca1),(.slice a2 na2 ca2)]),(vI 1)]))] (zal ([(.slice a1 na1 ca1),(.slice a2 na2 ca2)]) 114 rfl (by simp [Value.oneCell']) ?_)
 intro w6 hBw6 hEw6 hzw6 hlw6
 refine zb 1 [(12,(vI 1))] (zM (zb 1 [(28,(vI 1))] (za (zda 29 1 0 ?_))))
 refine wEt (zk (wsr (zb 2 [(31,(vI 1)),(30,(vA [(vI 0),(.slice none 0 0)]))] (za (zC 38 w3.heap.size 0 38 (vA [(vI 0),(.slice none 0 0)]) ([(vI 0),(.slice none 0 0)]) ([(vI 0),(.slice none 0 0)]) ((hBw4.ext hEw5).ext hEw6) (by kernel_rfl) (by first | decide |(simp;done)|(simp;omega)) (by simp [Value.oneCell']) ?_)))))
 intro w7 hBw7 hCw7
 have hzw7:=hCw7.size
 rw [zv _ _ (by kernel_rfl)] at hBw7
 refine zb 2 [(10,(vI 1)),(9,(vI 0))] (zF (zj (zfg (zgy (by kernel_rfl) (show zO Tryz.prog 111 _ _ (.cell 8 38) (vA [(vI 0),(.slice none 0 0)]) from ⟨⟨w3.heap.size,0,none⟩,(by kernel_rfl),zE (T:=38) (vs:= [(vI 0),(.slice none 0 0)]) (hBw7).all (by kernel_rfl)⟩) (show zO Tryz.prog 111 _ _ (.tmp 9) (vI 0) by (show _=_;kernel_rfl)) (show zO Tryz.prog 111 _ _ (.tmp 10) (vI 1) by (show _=_;kernel_rfl))) ?_)))
 have hX2:Ext w w7:=(Ext.own ((hX1.trans hEw5).trans hEw6) hCw7 (by omega))
 exact ⟨rfl,hX2⟩
theorem zs9 (n:Int) {lo_t hi_t:Nat} {a_t:Option Addr} {n_t c_t:Nat} {t:List Un} (b:Int) (x:Non) (y:Dig) (w:World) (h_t:Ms unC 280 lo_t hi_t w a_t n_t c_t t) (hp0:¬zaf n t=0) (hg0:Gl 0 [vI 45,vI 33] w) (hg1:Gl 1 (w8C zaV) w) (hg2:Gl 3 (zas kA) w):
  Calls Tryz.prog 22 #[(vA [(.int .i64 n),(.slice a_t n_t c_t)]),(.int .i64 b),(vA (zbb x)),(vA (zK y))] w (Ret fun r w'=>r=(.tuple #[(vA [(vI 0),(.slice none 0 0)]),(vI 0),(vI (zaf n t))])∧Ext w w'):=by
 refine zcZ (n:=111) (σ:= [(0,(vA [(.int .i64 n),(.slice a_t n_t c_t)])),(1,(.int .i64 b)),(2,(vA (zbb x))),(3,(vA (zK y)))]) Tryz.func22 rfl ?_
 replace h_t:=h_t.now;have hle_t:=h_t.le
 have hgl0:=hg0.lt
 have hgl1:=hg1.lt
 have hgl2:=hg2.lt
 refine wsr (za (zS (Instr.box 38 (vA [(.int .i64 n),(.slice a_t n_t c_t)])) (vP w.heap.size 0) ([(.int .i64 n),(.slice a_t n_t c_t)]) 38 ?_))
 intro w1 hBw1 hEw1 hzw1 hlw1
 refine za (zS (Instr.box 56 (vA (zbb x))) (vP w1.heap.size 0) (zbb x) 56 ?_)
 intro w2 hBw2 hEw2 hzw2 hlw2
 refine za (zS (Instr.box 59 (vA (zK y))) (vP w2.heap.size 0) (zK y) 59 ?_)
 intro w3 hBw3 hEw3 hzw3 hlw3
 refine za (zad ([(vI 0),(.slice none 0 0)]) 38 ?_)
 intro w4 hBw4 hEw4 hzw4 hlw4
 refine zb 2 [(10,(vI 0)),(9,(vI 0))] (zz ?_)
 have hK1:=(((hBw1.ext hEw2).ext hEw3).ext hEw4)
 refine za (zV w.heap.size 0 (hK1.all) ?_)
 refine zb 1 [(24,(.int .i64 b))] ?_
 have hX1:=((hEw1.trans hEw2).trans hEw3).trans hEw4
 refine za (zt (zkt n b _ (h_t.ext hX1) (by assumption) (hg0.ext hX1) (hg1.ext hX1) (hg2.ext hX1)) ?_)
 rintro _ w5 ⟨a1,na1,ca1,a2,na2,ca2,rfl,hEw5⟩
 have hzw5:=hEw5.size
 refine zb 3 [(27,(vI (zaf n t))),(26,(vA [(.slice a1 na1 ca1),(.slice a2 na2 ca2)])),(22,(.tuple #[(vA [(.slice a1 na1 ca1),(.slice a2 na2 ca2)]),(vI (zaf n t))]))] (zal ([(.slice a1 na1 ca1),(.slice a2 na2 ca2)]) 114 rfl (by simp [Value.oneCell']) ?_)
 intro w6 hBw6 hEw6 hzw6 hlw6
 refine zb 1 [(12,(vI (zaf n t)))] (zM (zb 1 [(28,(vI (zaf n t)))] (za (zda 29 (zaf n t) 0 ?_))))
 refine wEt (zk (wsr (zb 2 [(31,(vI (zaf n t))),(30,(vA [(vI 0),(.slice none 0 0)]))] (za (zC 38 w3.heap.size 0 38 (vA [(vI 0),(.slice none 0 0)]) ([(vI 0),(.slice none 0 0)]) ([(vI 0),(.slice none 0 0)]) ((hBw4.ext hEw5).ext hEw6) (by kernel_rfl) (by first | decide |(simp;done)|(simp;omega)) (by simp [Value.oneCell']) ?_)))))
 intro w7 hBw7 hCw7
 have hzw7:=hCw7.size
 rw [zv _ _ (by kernel_rfl)] at hBw7
 refine zb 2 [(10,(vI (zaf n t))),(9,(vI 0))] (zF (zj (zfg (zgy (by kernel_rfl) (show zO Tryz.prog 111 _ _ (.cell 8 38) (vA [(vI 0),(.slice none 0 0)]) from ⟨⟨w3.heap.size,0,none⟩,(by kernel_rfl),zE (T:=38) (vs:= [(vI 0),(.slice none 0 0)]) (hBw7).all (by kernel_rfl)⟩) (show zO Tryz.prog 111 _ _ (.tmp 9) (vI 0) by (show _=_;kernel_rfl)) (show zO Tryz.prog 111 _ _ (.tmp 10) (vI (zaf n t)) by (show _=_;kernel_rfl))) ?_)))
 have hX2:Ext w w7:=(Ext.own ((hX1.trans hEw5).trans hEw6) hCw7 (by omega))
 exact ⟨rfl,hX2⟩
end Go.Proofs.YtkmhgepdhilllaaGreatDoor
namespace Go.Proofs.YtkmhgepdhilllaaGreatDoor
open Go Go.RowKit Go.Cs
set_option maxRecDepth 100000
theorem zsW {lo_x hi_x:Nat} {a_x:Option Addr} {n_x c_x:Nat} {x:List (Nat×Nat)} (w:World) (h_x:Ms zhQ 2 lo_x hi_x w a_x n_x c_x x):
  Calls Tryz.prog 68 #[(.slice a_x n_x c_x)] w (Ret fun r w'=>∃a0,r=(.slice a0 n_x n_x)∧Ms zhQ 2 lo_x w'.heap.size w' a0 n_x n_x x∧w=w'):=by
 refine zw (n:=9) (σ:= [(0,(.slice a_x n_x c_x))]) Tryz.func68 rfl ?_
 replace h_x:=h_x.now;have hle_x:=h_x.le
 refine wsr (zb 1 [(2,(.slice none 0 0))] (zz (zb 5 [(7,(vI n_x)),(6,(.slice a_x n_x c_x)),(5,(vI n_x)),(4,(.slice a_x n_x c_x)),(3,(.slice a_x n_x c_x))] ?_)))
 obtain ⟨a1,hR1,hS1⟩:=h_x.slice Tryz.prog 85 89 0 n_x n_x none (some (vI n_x)) (some (vI n_x))
 refine za (zaN (Instr.sliceAt 85 (.slice a_x n_x c_x) none (some (vI n_x)) (some (vI n_x))) (.slice a1 (n_x-0) (n_x-0)) (hR1 _) ?_)
 refine zb 1 [(2,(.slice a1 (n_x-0) (n_x-0)))] (zF (zh (.slice a1 (n_x-0) (n_x-0)) ?_))
 have hfin:=hS1
 rw [List.drop_zero,Nat.sub_zero,show x.take n_x=x from by rw [h_x.len_eq,List.take_length]] at hfin
 exact ⟨_,rfl,hfin.mono (Nat.le_refl _) (by omega),rfl⟩
theorem zpS (n:Nat) {lo_t hi_t:Nat} {a_t:Option Addr} {n_t c_t:Nat} {t:List Un} (w:World) (h_t:Ms unC 280 lo_t hi_t w a_t n_t c_t t) (hp0:1≤n) (hp1:n≤4096) (hp2:n_t=tot n) (hp3:∀i,i<t.length→(t.getD i Un.zero).sl=0∨(t.getD i Un.zero).sl=1) (hp4:zaY n (zaG n t)=0) (hg0:Gl 0 [vI 45,vI 33] w) (hg1:Gl 1 (w8C zaV) w) (hg2:Gl 3 (zas kA) w):
  Calls Tryz.prog 30 #[(vA [(vI n),(.slice a_t n_t c_t)])] w (Ret fun r w'=>∃a0,r=(.tuple #[(.slice a0 (List.length (zbu n t (tot n))) (List.length (zbu n t (tot n)))),(vI 0)])∧Ms zhQ 2 w.heap.size w'.heap.size w' a0 (List.length (zbu n t (tot n))) (List.length (zbu n t (tot n))) (zbu n t (tot n))∧Ext w w'):=by
 refine zcZ (n:=41) (σ:= [(0,(vA [(vI n),(.slice a_t n_t c_t)]))]) Tryz.func30 rfl ?_
 replace h_t:=h_t.now;have hle_t:=h_t.le
 have hgl0:=hg0.lt
 have hgl1:=hg1.lt
 have hgl2:=hg2.lt
 have h5:=zam n
 have hlt:=h_t.len_eq
 have hts:=zau hp1
 have hle:=h_t.le
 refine wsr (za (zS (Instr.box 38 (vA [(vI n),(.slice a_t n_t c_t)])) (vP w.heap.size 0) ([(vI n),(.slice a_t n_t c_t)]) 38 ?_))
 intro w1 hBw1 hEw1 hzw1 hlw1
 refine zb 2 [(3,(vI 0)),(2,(.slice none 0 0))] (zz (za (zV w.heap.size 0 (hBw1.all) ?_)))
 refine za (zt (zg7 n _ (h_t.ext hEw1) (by omega) (by omega) (by omega) (by assumption) (hg0.ext hEw1) (hg1.ext hEw1) (hg2.ext hEw1)) ?_)
 rintro _ w2 ⟨a1,ca1,a2,ca2,rfl,hFz1_0,hFz1_1,hEw2⟩
 have hzw2:=hEw2.size
 have hlea1:=hFz1_0.le
 have hlea2:=hFz1_1.le
 rw [show zaY n (zaG n t)=0 from hp4]
 refine zb 3 [(13,(vI 0)),(12,(vA [(.slice a1 (hgt n+1) ca1),(.slice a2 (hgt n+1) ca2)])),(9,(.tuple #[(vA [(.slice a1 (hgt n+1) ca1),(.slice a2 (hgt n+1) ca2)]),(vI 0)]))] (zal ([(.slice a1 (hgt n+1) ca1),(.slice a2 (hgt n+1) ca2)]) 114 rfl (by simp [Value.oneCell']) ?_)
 intro w3 hBw3 hEw3 hzw3 hlw3
 refine zb 1 [(5,(vI 0))] (zM (zb 2 [(15,vF),(14,(vI 0))] (wEt (zf ?_))))
 refine zl (zc (wsr (za (zad ([(.slice none 0 0)]) 85 ?_))))
 intro w4 hBw4 hEw4 hzw4 hlw4
 refine zM (za (zV w2.heap.size 0 ((hBw3.ext hEw4).all) ?_))
 refine za (zt (zpL _ ((hFz1_0.ext hEw3).ext hEw4) ((hFz1_1.ext hEw3).ext hEw4)) ?_)
 rintro _ w5 ⟨a3,rfl,hFz2_0,hFz2_1,hEw5⟩
 have hzw5:=hEw5.size
 have hla3:=hFz2_1.lt
 refine wEt (zp ?_)
 have hK1:=((((hBw1.ext hEw2).ext hEw3).ext hEw4).ext hEw5)
 have hK2:=(((hFz1_0.ext hEw3).ext hEw4).ext hEw5)
 have hK3:=(((hFz1_1.ext hEw3).ext hEw4).ext hEw5)
 have hX1:Ext w w5:=((((hEw1.trans hEw2).trans hEw3).trans hEw4).trans hEw5)
 have hK4:=(((hFz1_0.ext hEw3).ext hEw4).ext hEw5)
 have hK5:=(((hFz1_1.ext hEw3).ext hEw4).ext hEw5)
 refine zhY [19,20] 91 [(vP a3 0)] (tot n) (fun k=> [(vI (lvK n k)),(vI k)]) (fun b=>b=w3.heap.size) (fun b=>False) (fun k w'=>∃ao cp,w5.heap.size≤w'.heap.size∧OwM zhQ 2 w5.heap.size w'.heap.size w' ao (List.length (zbu n t k)) cp 89 (zbu n t k)∧Blk w' w3.heap.size [.slice ao (List.length (zbu n t k)) cp] 85∧Blk w' w.heap.size ([(vI n),(.slice a_t n_t c_t)]) 38∧Blk w' w2.heap.size ([(.slice a1 (hgt n+1) ca1),(.slice a2 (hgt n+1) ca2)]) 114∧Es (nv .i64) w1.heap.size w2.heap.size w' a1 (hgt n+1) ca1 (za9 n (hgt n+1))∧Es (nv .i64) w1.heap.size w2.heap.size w' a2 (hgt n+1) ca2 (zbk n (hgt n+1))∧Ext w w') (fun cc k w'=>False) (fun b hb=>hb.elim) (fun _=>rfl) (fun k W W' ⟨a,cp,h0,h1,h2,h3,h4,h5,h6,h8⟩ hb=>⟨a,cp,Nat.le_trans h0 hb.size,(h1.book hb).mono (Nat.le_refl _) hb.size,h2.book hb,h3.book hb,h4.book hb,h5.book hb,h6.book hb,h8.book hb (by omega)⟩) (fun _ _ _ _ h _=>h) (fun k W W' ⟨a,cp,h0,h1,h2,h3,h4,h5,h6,h8⟩ hc=>⟨a,cp,Nat.le_trans h0 hc.size,(h1.ext hc).mono (Nat.le_refl _) hc.size,h2.ext hc,h3.ext hc,h4.ext hc,h5.ext hc,h6.ext hc,h8.trans hc⟩) (⟨none,0,Nat.le_refl _,OwM.nil _ _ _ _ _ _ zle,(hBw4.ext hEw5),hK1,((hBw3.ext hEw4).ext hEw5),hK2,hK3,hX1⟩) (fun lp J Jx wj hE1 hJ hY h0=>zqv n w5.heap.size lp (fun b=>b=w3.heap.size) J Jx wj hp0 hp1 (hFz2_1.ext hE1) (hK4.ext hE1) (hK5.ext hE1) (fun b hb=>⟨by omega,by omega,by omega⟩) hJ hY h0) ?_ ?_ ?_
 ·rintro lR k w6 hl ⟨ao,cp,hsz,hO,hB6,hQ1,hQ4,hs1,hs2,hEw⟩ hk
  have hzr:=hEw.size
  have hB6l:=hB6.lt
  have hmO:=hO.ms;have hleO:=hmO.le
  have hQ1l:=hQ1.lt
  have hQ4l:=hQ4.lt
  have hdl:=znO n t k
  obtain ⟨l,j,hl,hj,hlv,rfl⟩:=zgx hk
  rw [hlv]
  have hns:=zbN (n:=n) (l:=l) hp1 (by omega)
  have hgf:gt (zbk n (hgt n+1)) l=num n l:=zcM (by omega)
  have hkl:num n l+j<n_t:=by omega
  refine wsr (zb 1 [(7,(vI l))] (zdx (zb 1 [(8,(vI (num n l+j)))] (zq (zl0 (Kpt.refl _) (Chg.refl _ _) (fun w7 hBkw7=> ?_))))))
  have hzw7:=hBkw7.size
  refine zp (wsr (zb 1 [(21,(vP w.heap.size 1))] (za (zm w.heap.size 1 ((hQ1.book hBkw7).cell rfl) ?_))))
  refine zb 1 [(23,(vI (num n l+j)))] ?_
  obtain ⟨b1,o1,rfl⟩:=h_t.addr (by omega) (by decide)
  refine za (zan b1 o1 n_t c_t (num n l+j) 280 ?_)
  refine zb 1 [(25,(vP b1 (o1+(num n l+j)*280+275)))] ?_
  rcases Bool.eq_false_or_eq_true ((t.getD (num n l+j) Un.zero).dt) with hb26 | hb26
  ·refine za (zm b1 (o1+(num n l+j)*280+275) (Eq.trans (((h_t.ext hEw).book hBkw7).cell (j:=275) Un.zero (by omega) (zdc _)) (congrArg (fun z=>some (Value.bool z)) hb26)) ?_)
   refine wEt (zk (zbO (fun k=>w5.heap.size≤k) 13 (fun w8 hEw8 hzw8 hT114=> ?_)))
   have hX2:Chg (fun k=>w5.heap.size≤k) w8 w8:=(Chg.refl (fun k=>w5.heap.size≤k) w8)
   refine zx (hw:=hX2) hT114 0 w3.heap.size 0 (fun w' hC=>((((hB6.book hBkw7).ext hEw8).chg hC (fun hs=>by have h:_≤_:=hs;omega)).cell rfl)) (ze (hw:=hX2) hT114 [(1,28,(vI l)),(2,29,(vI (num n l+j))),(3,30,(vP w2.heap.size 1))] 3 (zx (hw:=hX2) hT114 4 w2.heap.size 1 (fun w' hC=>((((hQ4.book hBkw7).ext hEw8).chg hC (fun hs=>by have h:_≤_:=hs;omega)).cell rfl)) (ze (hw:=hX2) hT114 [(5,32,(vI l))] 1 ?_)))
   obtain ⟨b2,o2,rfl⟩:=hs2.addr (by omega)
   refine zaD (hw:=hX2) hT114 6 b2 o2 (hgt n+1) ca2 l 1 (zx (hw:=hX2) hT114 7 b2 (o2+l*1) (fun w' hC=>((((hs2.book hBkw7).ext hEw8).chg hC (fun k h1 h2 hs=>by have h:_≤_:=hs;omega)).celln (by omega))) (zr (hw:=hX2) hT114 8 (vI j) (zac .i64 (IntKind.i64.wrap (((num n l+j:Nat):Int)-((gt (zbk n (hgt n+1)) l:Nat):Int))) (zao)) (ze (hw:=hX2) hT114 [(9,36,(vA [(vI l),(vI j)]))] 1 (zy 10 (zdr (some 37) (Instr.buildSlice 85 1 #[(0,(vA [(vI l),(vI j)]))]) (.slice (pA w8.heap.size 0) 1 1) [(vI l),(vI j)] 89 ?_)))))
   intro w9 hBw9 hEw9
   have hzw9:=hEw9.size;have hlw9:=hBw9.lt
   have hmw9:Ms zhQ 2 w8.heap.size (w8.heap.size+1) w9 (pA w8.heap.size 0) 1 1 [(l,j)]:=Ms.of_pre (r:= []) (show Blk _ _ _ _ from hBw9) zle rfl (Nat.le_refl _) (by decide) (Nat.le_refl _) (Nat.lt_succ_self _)
   have hX3:Chg (fun k=>w5.heap.size≤k) w8 w9:=((Chg.refl (fun k=>w5.heap.size≤k) w8).trans hEw9.chg)
   refine ⟨.inr hX3, ?_⟩
   have hK6:=(((hO.book hBkw7).ext hEw8).ext hEw9)
   refine zy 11 (zbR (some 38) 85 85 89 16 (vA [(vI 0),(vI 0)]) hK6 hmw9 zr7 ?_ rfl (by decide))
   intro a4 c1 w10 hOw10 hCw10
   have hzw10:=hCw10.size
   have hSw10:=hOw10.ms;have hlea4:=hSw10.le
   have hK7:=(((hO.book hBkw7).ext hEw8).ext hEw9)
   have hX4:Chg (fun k=>w5.heap.size≤k) w8 w10:=(Chg.then ((Chg.refl (fun k=>w5.heap.size≤k) w8).trans hEw9.chg) hCw10 (fun k hk hs=>by have hn:=hK7.ne hs;show _≤_;omega))
   refine ⟨.inr hX4, ?_⟩
   have hK8:=(((hO.book hBkw7).ext hEw8).ext hEw9)
   have hK9:=(((((hB6.book hBkw7).ext hEw8).ext hEw9)).chg hCw10 (fun hs=>by have hn:=hK8.ne hs;omega))
   refine zy 12 (zah 85 w3.heap.size 0 85 (.slice a4 ((List.length (zbu n t (num n l+j)))+1) c1) ([.slice ao (List.length (zbu n t (num n l+j))) cp]) hK9 (by first | decide |(simp;done)|(simp;omega)) ?_)
   have hK10:=(((hO.book hBkw7).ext hEw8).ext hEw9)
   have hK11:=(((((hB6.book hBkw7).ext hEw8).ext hEw9)).chg hCw10 (fun hs=>by have hn:=hK10.ne hs;omega))
   intro w11 hBw11 hCw11
   have hzw11:=hCw11.size
   replace hBw11:=hBw11.set1
   refine ⟨.inl (by kernel_rfl), ?_⟩
   refine zB (zi ?_)
   have hK12:=(((hO.book hBkw7).ext hEw8).ext hEw9)
   have hK13:=((((((hQ1.book hBkw7).ext hEw8).ext hEw9)).chg hCw10 (fun hs=>by have hn:=hK12.ne hs;omega)).chg hCw11)
   have hK14:=(((hO.book hBkw7).ext hEw8).ext hEw9)
   have hK15:=((((((hQ4.book hBkw7).ext hEw8).ext hEw9)).chg hCw10 (fun hs=>by have hn:=hK14.ne hs;omega)).chg hCw11)
   have hK16:=(((hO.book hBkw7).ext hEw8).ext hEw9)
   have hK17:=((((((hs1.book hBkw7).ext hEw8).ext hEw9)).chg hCw10 (fun k h1 h2 hs=>by have hn:=hK16.ne hs;omega)).chg hCw11)
   have hK18:=(((hO.book hBkw7).ext hEw8).ext hEw9)
   have hK19:=((((((hs2.book hBkw7).ext hEw8).ext hEw9)).chg hCw10 (fun k h1 h2 hs=>by have hn:=hK18.ne hs;omega)).chg hCw11)
   have hK20:=(((hO.book hBkw7).ext hEw8).ext hEw9)
   have hX5:Ext w w11:=(Ext.own (Ext.ownS (((hEw.book hBkw7 (by omega)).trans hEw8).trans hEw9) hCw10 (fun k hs hk=>by have hn:=hK20.ne hs;omega)) hCw11 (by omega))
   have hK21:=(((hO.book hBkw7).ext hEw8).ext hEw9)
   exact zeh (((((Kpt.refl _).ext hEw8).ext hEw9).owm hK6 hCw10).blk hK11 hCw11) (Chg.then (Chg.then (((Chg.refl _ _).trans hEw8.chg).trans hEw9.chg) hCw10 (fun k hk hs=>by have hn:=hK21.ne hs;first |(left;omega)|(exfalso;omega))) hCw11 (fun k hk hs=>by have h:k=_:=hs;first |(left;omega)|(exfalso;omega)|(right;simp [h];done))) (by rw [zhs (show (t.getD (num n l+j) Un.zero).dt=true from hb26)];rw [hlv,Nat.add_sub_cancel_left,List.length_append,show [(l,j)].length=1 from rfl];exact ⟨_,_,by omega,((hOw10.chg hCw11)).now,hBw11,hK13,hK15,hK17,hK19,hX5⟩)
  ·refine za (zm b1 (o1+(num n l+j)*280+275) (Eq.trans (((h_t.ext hEw).book hBkw7).cell (j:=275) Un.zero (by omega) (zdc _)) (congrArg (fun z=>some (Value.bool z)) hb26)) ?_)
   exact wEt (zf (zl (zi (zeh (Kpt.refl _) (Chg.refl _ _) (by rw [zjW (show (t.getD (num n l+j) Un.zero).dt=false from hb26)];exact ⟨_,_,by omega,((hO.book hBkw7)).now,(hB6.book hBkw7),(hQ1.book hBkw7),(hQ4.book hBkw7),(hs1.book hBkw7),(hs2.book hBkw7),(hEw.book hBkw7 (by omega))⟩)))))
 ·rintro D w12 hD ⟨ao,cp,hsz,hO,hB6,hQ1,hQ4,hs1,hs2,hEw⟩ hM
  have hzr:=hEw.size
  have hB6l:=hB6.lt
  have hmO:=hO.ms;have hleO:=hmO.le
  have hQ1l:=hQ1.lt
  have hQ4l:=hQ4.lt
  have hMl:=hM.lt
  refine zi (zc (wsr (za (zm w3.heap.size 0 (hB6.cell rfl) ?_))))
  refine za (zt (zsW _ hmO) ?_)
  rintro _ _ ⟨a5,rfl,hFz3_0,rfl⟩
  have hlea5:=hFz3_0.le
  refine zb 2 [(3,(vI 0)),(2,(.slice a5 (List.length (zbu n t (tot n))) (List.length (zbu n t (tot n)))))] (zF ?_)
  obtain ⟨w13,hTw13,hCw13,hBkw13⟩:=zgV (P:=Tryz.prog) hM
  have hzw13:=hCw13.size
  exact zn4 hTw13 (.tuple #[(.slice a5 (List.length (zbu n t (tot n))) (List.length (zbu n t (tot n)))),(vI 0)]) (⟨_,rfl,((hFz3_0.book hBkw13)).now.mono (by omega) (Nat.le_refl _),(hEw.book hBkw13 (by omega))⟩)
 ·intro D cc k w14 hD hk hx;exact hx.elim
theorem zr8 (n:Nat) {lo_t hi_t:Nat} {a_t:Option Addr} {n_t c_t:Nat} {t:List Un} (w:World) (h_t:Ms unC 280 lo_t hi_t w a_t n_t c_t t) (hp0:1≤n) (hp1:n≤4096) (hp2:n_t=tot n) (hp3:∀i,i<t.length→(t.getD i Un.zero).sl=0∨(t.getD i Un.zero).sl=1) (hp4:¬zaY n (zaG n t)=0) (hg0:Gl 0 [vI 45,vI 33] w) (hg1:Gl 1 (w8C zaV) w) (hg2:Gl 3 (zas kA) w):
  Calls Tryz.prog 30 #[(vA [(vI n),(.slice a_t n_t c_t)])] w (Ret fun r w'=>r=(.tuple #[(.slice none 0 0),(vI (zaY n (zaG n t)))])∧Ext w w'):=by
 refine zcZ (n:=41) (σ:= [(0,(vA [(vI n),(.slice a_t n_t c_t)]))]) Tryz.func30 rfl ?_
 replace h_t:=h_t.now;have hle_t:=h_t.le
 have hgl0:=hg0.lt
 have hgl1:=hg1.lt
 have hgl2:=hg2.lt
 have h5:=zam n
 have hlt:=h_t.len_eq
 have hts:=zau hp1
 have hle:=h_t.le
 refine wsr (za (zS (Instr.box 38 (vA [(vI n),(.slice a_t n_t c_t)])) (vP w.heap.size 0) ([(vI n),(.slice a_t n_t c_t)]) 38 ?_))
 intro w1 hBw1 hEw1 hzw1 hlw1
 refine zb 2 [(3,(vI 0)),(2,(.slice none 0 0))] (zz (za (zV w.heap.size 0 (hBw1.all) ?_)))
 refine za (zt (zg7 n _ (h_t.ext hEw1) (by omega) (by omega) (by omega) (by assumption) (hg0.ext hEw1) (hg1.ext hEw1) (hg2.ext hEw1)) ?_)
 rintro _ w2 ⟨a1,ca1,a2,ca2,rfl,hFz1_0,hFz1_1,hEw2⟩
 have hzw2:=hEw2.size
 have hlea1:=hFz1_0.le
 have hlea2:=hFz1_1.le
 refine zb 3 [(13,(vI (zaY n (zaG n t)))),(12,(vA [(.slice a1 (hgt n+1) ca1),(.slice a2 (hgt n+1) ca2)])),(9,(.tuple #[(vA [(.slice a1 (hgt n+1) ca1),(.slice a2 (hgt n+1) ca2)]),(vI (zaY n (zaG n t)))]))] (zal ([(.slice a1 (hgt n+1) ca1),(.slice a2 (hgt n+1) ca2)]) 114 rfl (by simp [Value.oneCell']) ?_)
 intro w3 hBw3 hEw3 hzw3 hlw3
 refine zb 1 [(5,(vI (zaY n (zaG n t))))] (zM (zb 1 [(14,(vI (zaY n (zaG n t))))] (za (zda 15 (zaY n (zaG n t)) 0 ?_))))
 refine wEt (zk (wsr (zb 3 [(3,(vI (zaY n (zaG n t)))),(2,(.slice none 0 0)),(16,(vI (zaY n (zaG n t))))] (zF (zj ?_)))))
 exact ziM (.tuple #[(.slice none 0 0),(vI (zaY n (zaG n t)))]) (⟨rfl,((hEw1.trans hEw2).trans hEw3)⟩)
theorem zrb (n:Int) {lo_t hi_t:Nat} {a_t:Option Addr} {n_t c_t:Nat} {t:List Un} (w:World) (h_t:Ms unC 280 lo_t hi_t w a_t n_t c_t t) (hp0:¬(1≤n∧n≤4096∧t.length=tot n.toNat∧zej t=true)):
  Calls Tryz.prog 30 #[(vA [(.int .i64 n),(.slice a_t n_t c_t)])] w (Ret fun r w'=>r=(.tuple #[(.slice none 0 0),(vI 1)])∧Ext w w'):=by
 refine zcZ (n:=41) (σ:= [(0,(vA [(.int .i64 n),(.slice a_t n_t c_t)]))]) Tryz.func30 rfl ?_
 replace h_t:=h_t.now;have hle_t:=h_t.le
 refine wsr (za (zS (Instr.box 38 (vA [(.int .i64 n),(.slice a_t n_t c_t)])) (vP w.heap.size 0) ([(.int .i64 n),(.slice a_t n_t c_t)]) 38 ?_))
 intro w1 hBw1 hEw1 hzw1 hlw1
 refine zb 2 [(3,(vI 0)),(2,(.slice none 0 0))] (zz (za (zV w.heap.size 0 (hBw1.all) ?_)))
 refine za (zt (zkk n _ (h_t.ext hEw1) (by assumption)) ?_)
 rintro _ w2 ⟨a1,na1,ca1,a2,na2,ca2,rfl,hEw2⟩
 have hzw2:=hEw2.size
 refine zb 3 [(13,(vI 1)),(12,(vA [(.slice a1 na1 ca1),(.slice a2 na2 ca2)])),(9,(.tuple #[(vA [(.slice a1 na1 ca1),(.slice a2 na2 ca2)]),(vI 1)]))] (zal ([(.slice a1 na1 ca1),(.slice a2 na2 ca2)]) 114 rfl (by simp [Value.oneCell']) ?_)
 intro w3 hBw3 hEw3 hzw3 hlw3
 refine zb 1 [(5,(vI 1))] (zM (zb 1 [(14,(vI 1))] (za (zda 15 1 0 ?_))))
 refine wEt (zk (wsr (zb 3 [(3,(vI 1)),(2,(.slice none 0 0)),(16,(vI 1))] (zF (zj ?_)))))
 exact ziM (.tuple #[(.slice none 0 0),(vI 1)]) (⟨rfl,((hEw1.trans hEw2).trans hEw3)⟩)
theorem zt3 (n:Int) {lo_t hi_t:Nat} {a_t:Option Addr} {n_t c_t:Nat} {t:List Un} (w:World) (h_t:Ms unC 280 lo_t hi_t w a_t n_t c_t t) (hp0:¬zaf n t=0) (hg0:Gl 0 [vI 45,vI 33] w) (hg1:Gl 1 (w8C zaV) w) (hg2:Gl 3 (zas kA) w):
  Calls Tryz.prog 30 #[(vA [(.int .i64 n),(.slice a_t n_t c_t)])] w (Ret fun r w'=>r=(.tuple #[(.slice none 0 0),(vI (zaf n t))])∧Ext w w'):=by
 have hlt:=h_t.len_eq
 by_cases h:1≤n∧n≤4096∧t.length=tot n.toNat∧zej t=true
 ·obtain ⟨m,rfl⟩:=Int.eq_ofNat_of_zero_le (show 0≤n by omega)
  have h2:=h.2.2;rw [Int.toNat_natCast] at h2
  rw [zdC (by omega) (by omega) h2.1 h2.2] at hp0⊢;exact zr8 m w h_t (by omega) (by omega) (by omega) (zci.1 h2.2) hp0 hg0 hg1 hg2
 ·rw [zes h];exact zrb n w h_t h
end Go.Proofs.YtkmhgepdhilllaaGreatDoor
namespace Go.Proofs.YtkmhgepdhilllaaGreatDoor
open Go Go.RowKit Go.Cs
set_option maxRecDepth 100000
theorem zpc (n:Nat) {lo_t hi_t:Nat} {a_t:Option Addr} {n_t c_t:Nat} {t:List Un} (w:World) (h_t:Ms unC 280 lo_t hi_t w a_t n_t c_t t) (hp0:1≤n) (hp1:n≤4096) (hp2:n_t=tot n) (hp3:∀i,i<t.length→(t.getD i Un.zero).sl=0∨(t.getD i Un.zero).sl=1) (hp4:zaY n (zaG n t)=0) (hg0:Gl 0 [vI 45,vI 33] w) (hg1:Gl 1 (w8C zaV) w) (hg2:Gl 3 (zas kA) w):
  Calls Tryz.prog 17 #[(vA [(vI n),(.slice a_t n_t c_t)])] w (Ret fun r w'=>∃a1,r=(.tuple #[(vA [(vI n),(.slice a1 n_t n_t)]),(vI 0)])∧Ms unC 280 w.heap.size w'.heap.size w' a1 n_t n_t (zfJ n_t t)∧Ext w w'):=by
 refine zw (n:=46) (σ:= [(0,(vA [(vI n),(.slice a_t n_t c_t)]))]) Tryz.func17 rfl ?_
 replace h_t:=h_t.now;have hle_t:=h_t.le
 have hgl0:=hg0.lt
 have hgl1:=hg1.lt
 have hgl2:=hg2.lt
 have h5:=zam n
 have hlt:=h_t.len_eq
 have hts:=zau hp1
 have hle:=h_t.le
 have htt:=zcq hp0 hp1
 have hce:zaf (n:Int) t=0:=by rw [zdC hp0 hp1 (by omega) (zci.2 hp3)];exact hp4
 refine wsr (za (zS (Instr.box 38 (vA [(vI n),(.slice a_t n_t c_t)])) (vP w.heap.size 0) ([(vI n),(.slice a_t n_t c_t)]) 38 ?_))
 intro w1 hBw1 hEw1 hzw1 hlw1
 refine za (zad ([(vI 0),(.slice none 0 0)]) 38 ?_)
 intro w2 hBw2 hEw2 hzw2 hlw2
 refine zb 1 [(3,(vI 0))] (zM (za (zV w.heap.size 0 ((hBw1.ext hEw2).all) ?_)))
 refine za (zt (zfk ((n:Nat):Int) _ ((h_t.ext hEw1).ext hEw2) ((hg0.ext hEw1).ext hEw2) ((hg1.ext hEw1).ext hEw2) ((hg2.ext hEw1).ext hEw2)) ?_)
 rintro _ w3 ⟨rfl,hEw3⟩
 have hzw3:=hEw3.size
 rw [show zaf ((n:Nat):Int) t=0 from hce]
 refine zb 1 [(4,(vI 0))] (zz (zb 1 [(11,(vI 0))] (za (zbe 12 0 0 ?_))))
 refine wEt (zf (zl (zc (wsr (za (zV w.heap.size 0 (((hBw1.ext hEw2).ext hEw3).all) ?_))))))
 have hK1:=(((h_t.ext hEw1).ext hEw2).ext hEw3)
 refine za (zt (zpA ((n:Nat):Int) _ hK1 (by omega) (by omega)) ?_)
 rintro _ w4 ⟨a1,rfl,hFz2_0,hFz2_1,hFz2_2,hFz2_3,hEw4⟩
 have hzw4:=hEw4.size
 have hla1:=hFz2_1.lt;have hma1:=Ms.of_row hFz2_1 zI (len:=n_t) hFz2_2 hFz2_3
 refine zal ([(.int .i64 ((n:Nat):Int)),(.slice (pA a1 0) n_t n_t)]) 38 rfl (by simp [Value.oneCell']) ?_
 intro w5 hBw5 hEw5 hzw5 hlw5
 refine zM (zb 1 [(17,(vP w4.heap.size 1))] (za (zm w4.heap.size 1 (hBw5.cell rfl) ?_)))
 refine zb 2 [(20,(vI 0)),(19,(vI n_t))] (wEt (zp ?_))
 have hK2:=(((hBw2.ext hEw3).ext hEw4).ext hEw5)
 have hX1:Ext w w5:=((((hEw1.trans hEw2).trans hEw3).trans hEw4).trans hEw5)
 refine zU (X:=Nat) (fun k=> [(20,(vI k))]) [6,7,8,21,22,23,24,25,26,27,28,29,30,31,32,33,34,35,36,37,38,39,40,41,42,43,44] (fun k w6=>k≤n_t∧Blk w6 a1 ((zaF n_t (zbM n_t t) (fun i=>t.getD i Un.zero) k).flatMap unC) 77∧Blk w6 w1.heap.size ([(vI 0),(.slice none 0 0)]) 38∧Blk w6 w4.heap.size ([(.int .i64 ((n:Nat):Int)),(.slice (pA a1 0) n_t n_t)]) 38∧Ext w w6) (fun k=>n_t-k) 0 (by kernel_rfl) ⟨Nat.zero_le _,by rw [zqn Un.zero (by omega)];exact (hFz2_1.ext hEw5),hK2,hBw5,hX1⟩ ?_
 rintro k dw6 w6 ⟨hk,hR,hQ2,hQ5,hEl⟩
 have hzl:=hEl.size;have hRl:=hR.lt
 have hmR:=Ms.of_row hR zI (len:=n_t) zbh.symm (by simp only [maxLen];omega)
 have hQ2l:=hQ2.lt
 have hQ5l:=hQ5.lt
 refine wsr (za (zag 21 k n_t (fun hc21=> ?_) (fun hc21=> ?_)))
 ·have hs0:=hp3 k (by omega)
  refine wEt (zd (zk (zl (zc (zd (zp (wsr ?_)))))))
  refine zb 1 [(22,(vI k))] (za (zan a1 0 n_t n_t k 280 ?_))
  refine za (zQ a1 (0+k*280) (by have hz:=hmR.at Un.zero (i:=k) (by omega);rw [zrz Un.zero (by omega) (Nat.le_refl _)] at hz;exact hz) (zI _) ?_)
  refine za (zad (unC Un.zero) 77 ?_)
  intro w7 hBw7 hEw7 hzw7 hlw7
  refine zb 1 [(6,(vI k))] (za (zC 77 w6.heap.size 0 77 (vA (unC (t.getD k Un.zero))) (unC Un.zero) (unC (t.getD k Un.zero)) hBw7 (by rw [zI];kernel_rfl) (by first |(simp;done)|(simp;omega)) (za7 _) ?_))
  intro w8 hBw8 hCw8
  have hzw8:=hCw8.size
  rw [zv _ _ (by simp)] at hBw8
  refine zz (za (zQ w6.heap.size 0 (hBw8.all) (zI _) ?_))
  refine za (zt (zis (t.getD k Un.zero) _ (by assumption)) ?_)
  rintro _ w9 ⟨rfl,hEw9⟩
  have hzw9:=hEw9.size
  refine zb 1 [(8,(.int .i64 (slU (t.getD k Un.zero))))] (zM (zb 2 [(28,(vP w4.heap.size 1)),(27,(vI k))] ?_))
  have hK3:=(((hQ5.ext hEw7).chg hCw8).ext hEw9)
  refine za (zm w4.heap.size 1 (hK3.cell rfl) ?_)
  refine zb 1 [(30,(vI n_t))] (za (zb5 31 n_t 1 (n_t-1) ?_))
  refine za (zaI 32 k (n_t-1) (fun hc32=> ?_) (fun hc32=> ?_))
  ·refine wEt (zk (zg (zb 1 [(33,(vP w6.heap.size 274))] (za (zm w6.heap.size 274 ((hBw8.ext hEw9).cell (zdu _)) ?_)))))
   refine za (zeR (some 35) .i64 (IntKind.i64.wrap (((1:Nat):Int)-((t.getD k Un.zero).sl))) (1-(t.getD k Un.zero).sl) (zao rfl) ?_)
   refine zb 1 [(8,(.int .i64 (1-(t.getD k Un.zero).sl)))] (zdx (zb 1 [(36,(vP w4.heap.size 1))] (za (zm w4.heap.size 1 (hK3.cell rfl) ?_))))
   refine zb 2 [(39,(vP w6.heap.size 0)),(38,(vI k))] (za (zQ w6.heap.size 0 ((hBw8.ext hEw9).at 0 (zH (t.getD k Un.zero).nd) (zdE _)) (zN _) ?_))
   refine zb 1 [(41,(.int .i64 (1-(t.getD k Un.zero).sl)))] (za (zaN (Instr.build 77 #[(0,(vA (zH (t.getD k Un.zero).nd))),(1,(.int .i64 (1-(t.getD k Un.zero).sl)))]) (vA (unC (zbM n_t t k))) ((zft ((t.getD k Un.zero).nd) (1-(t.getD k Un.zero).sl)).trans (congrArg (fun z:Un=>Result.ok (Value.agg (unC z).toArray) _) (show (⟨((t.getD k Un.zero).nd),1-(t.getD k Un.zero).sl,false,List.replicate 4 false,rfl⟩:Un)=zbM n_t t k from by unfold zbM;first | rw [if_pos (by omega)] | rw [if_neg (by omega)]))) ?_))
   refine za (zan a1 0 n_t n_t k 280 ?_)
   have hK4:=(((hR.ext hEw7).chg hCw8).ext hEw9)
   refine za (zC 77 a1 (0+k*280) 77 (vA (unC (zbM n_t t k))) ((zaF n_t (zbM n_t t) (fun i=>t.getD i Un.zero) k).flatMap unC) (unC (zbM n_t t k)) hK4 (by rw [zI];kernel_rfl) (by rw [zaC zI];(try simp only [List.length_cons,List.length_nil,List.length_set]);have:=(show List.length (zaF n_t (zbM n_t t) (fun i=>t.getD i Un.zero) k)=n_t from zbh);have hln:=zI (zbM n_t t k);omega) (za7 _) ?_)
   have hK5:=(((hR.ext hEw7).chg hCw8).ext hEw9)
   intro w10 hBw10 hCw10
   have hzw10:=hCw10.size
   rw [show (zZ ((zaF n_t (zbM n_t t) (fun i=>t.getD i Un.zero) k).flatMap unC) (0+k*280) (unC (zbM n_t t k)):List Value)=(zaF n_t (zbM n_t t) (fun i=>t.getD i Un.zero) (k+1)).flatMap unC from (zca zI _ _ _ (by have hq:List.length (zaF n_t (zbM n_t t) (fun i=>t.getD i Un.zero) k)=n_t:=zbh;omega)).trans (congrArg (fun z=>List.flatMap unC z) (show ((zaF n_t (zbM n_t t) (fun i=>t.getD i Un.zero) k).set k (zbM n_t t k))=(zaF n_t (zbM n_t t) (fun i=>t.getD i Un.zero) (k+1)) from zeg (by omega)))] at hBw10
   have hmw10:Ms unC 280 a1 (a1+1) w10 (pA a1 0) n_t n_t (zaF n_t (zbM n_t t) (fun i=>t.getD i Un.zero) (k+1)):=Ms.of_pre (r:= []) (by rw [List.append_nil];exact hBw10) zI (by have hq:List.length (zaF n_t (zbM n_t t) (fun i=>t.getD i Un.zero) (k+1))=n_t:=zbh;omega) (by omega) (by simp only [maxLen];omega) (by omega) (by omega)
   refine zq (zi (zc (zg (za (zJ 44 k 1 (k+1) ?_)))))
   refine zb 1 [(20,(vI (k+1)))] (zq (zn ?_))
   have hK6:=((((hQ2.ext hEw7).chg hCw8).ext hEw9).chg hCw10)
   have hX2:Ext w w10:=(Ext.own ((Ext.own (hEl.trans hEw7) hCw8 (by omega)).trans hEw9) hCw10 (by omega))
   refine zG (k+1) ?_ ?_
   ·exact ⟨by omega,hBw10,hK6,(hK3.chg hCw10),hX2⟩
   ·first | omega |(dsimp only;omega)
  ·refine wEt (zf (zl (zc (zg (zb 1 [(36,(vP w4.heap.size 1))] (za (zm w4.heap.size 1 (hK3.cell rfl) ?_)))))))
   refine zb 2 [(39,(vP w6.heap.size 0)),(38,(vI k))] (za (zQ w6.heap.size 0 ((hBw8.ext hEw9).at 0 (zH (t.getD k Un.zero).nd) (zdE _)) (zN _) ?_))
   refine zb 1 [(41,(.int .i64 (slU (t.getD k Un.zero))))] (za (zaN (Instr.build 77 #[(0,(vA (zH (t.getD k Un.zero).nd))),(1,(.int .i64 (slU (t.getD k Un.zero))))]) (vA (unC (zbM n_t t k))) ((zft ((t.getD k Un.zero).nd) (slU (t.getD k Un.zero))).trans (congrArg (fun z:Un=>Result.ok (Value.agg (unC z).toArray) _) (show (⟨((t.getD k Un.zero).nd),slU (t.getD k Un.zero),false,List.replicate 4 false,rfl⟩:Un)=zbM n_t t k from by unfold zbM;first | rw [if_pos (by omega)] | rw [if_neg (by omega)]))) ?_))
   refine za (zan a1 0 n_t n_t k 280 ?_)
   have hK7:=(((hR.ext hEw7).chg hCw8).ext hEw9)
   refine za (zC 77 a1 (0+k*280) 77 (vA (unC (zbM n_t t k))) ((zaF n_t (zbM n_t t) (fun i=>t.getD i Un.zero) k).flatMap unC) (unC (zbM n_t t k)) hK7 (by rw [zI];kernel_rfl) (by rw [zaC zI];(try simp only [List.length_cons,List.length_nil,List.length_set]);have:=(show List.length (zaF n_t (zbM n_t t) (fun i=>t.getD i Un.zero) k)=n_t from zbh);have hln:=zI (zbM n_t t k);omega) (za7 _) ?_)
   have hK8:=(((hR.ext hEw7).chg hCw8).ext hEw9)
   intro w11 hBw11 hCw11
   have hzw11:=hCw11.size
   rw [show (zZ ((zaF n_t (zbM n_t t) (fun i=>t.getD i Un.zero) k).flatMap unC) (0+k*280) (unC (zbM n_t t k)):List Value)=(zaF n_t (zbM n_t t) (fun i=>t.getD i Un.zero) (k+1)).flatMap unC from (zca zI _ _ _ (by have hq:List.length (zaF n_t (zbM n_t t) (fun i=>t.getD i Un.zero) k)=n_t:=zbh;omega)).trans (congrArg (fun z=>List.flatMap unC z) (show ((zaF n_t (zbM n_t t) (fun i=>t.getD i Un.zero) k).set k (zbM n_t t k))=(zaF n_t (zbM n_t t) (fun i=>t.getD i Un.zero) (k+1)) from zeg (by omega)))] at hBw11
   have hmw11:Ms unC 280 a1 (a1+1) w11 (pA a1 0) n_t n_t (zaF n_t (zbM n_t t) (fun i=>t.getD i Un.zero) (k+1)):=Ms.of_pre (r:= []) (by rw [List.append_nil];exact hBw11) zI (by have hq:List.length (zaF n_t (zbM n_t t) (fun i=>t.getD i Un.zero) (k+1))=n_t:=zbh;omega) (by omega) (by simp only [maxLen];omega) (by omega) (by omega)
   refine zq (zi (zc (zg (za (zJ 44 k 1 (k+1) ?_)))))
   refine zb 1 [(20,(vI (k+1)))] (zq (zn ?_))
   have hK9:=((((hQ2.ext hEw7).chg hCw8).ext hEw9).chg hCw11)
   have hX3:Ext w w11:=(Ext.own ((Ext.own (hEl.trans hEw7) hCw8 (by omega)).trans hEw9) hCw11 (by omega))
   refine zG (k+1) ?_ ?_
   ·exact ⟨by omega,hBw11,hK9,(hK3.chg hCw11),hX3⟩
   ·first | omega |(dsimp only;omega)
 ·obtain rfl:k=n_t:=by omega
  refine wEt (zd (zf (zP (zo (zo (zD (zc (zd ?_))))))))
  refine zg (za (zV w4.heap.size 0 (hQ5.all) ?_))
  refine za (zC 38 w1.heap.size 0 38 (vA [(.int .i64 ((n:Nat):Int)),(.slice (pA a1 0) k k)]) ([(vI 0),(.slice none 0 0)]) ([(.int .i64 ((n:Nat):Int)),(.slice (pA a1 0) k k)]) hQ2 (by kernel_rfl) (by first | decide |(simp;done)|(simp;omega)) (by simp [Value.oneCell']) ?_)
  intro w12 hBw12 hCw12
  have hzw12:=hCw12.size
  rw [zv _ _ (by kernel_rfl)] at hBw12
  refine zb 1 [(3,(vI 0))] (zF (zaQ (show zO Tryz.prog 46 _ _ (.cell 2 38) (vA [(.int .i64 ((n:Nat):Int)),(.slice (pA a1 0) k k)]) from ⟨⟨w1.heap.size,0,none⟩,(by kernel_rfl),zE (T:=38) (vs:= [(.int .i64 ((n:Nat):Int)),(.slice (pA a1 0) k k)]) (hBw12).all (by kernel_rfl)⟩) (show zO Tryz.prog 46 _ _ (.tmp 3) (vI 0) by (show _=_;kernel_rfl)) ?_))
  have hfin:=(hmR.chg hCw12)
  rw [zer] at hfin
  exact ⟨_,rfl,hfin.now.mono (by omega) (Nat.le_refl _),(Ext.own hEl hCw12 (by omega))⟩
theorem zsT (n:Int) {lo_t hi_t:Nat} {a_t:Option Addr} {n_t c_t:Nat} {t:List Un} (w:World) (h_t:Ms unC 280 lo_t hi_t w a_t n_t c_t t) (hp0:¬zaf n t=0) (hg0:Gl 0 [vI 45,vI 33] w) (hg1:Gl 1 (w8C zaV) w) (hg2:Gl 3 (zas kA) w):
  Calls Tryz.prog 17 #[(vA [(.int .i64 n),(.slice a_t n_t c_t)])] w (Ret fun r w'=>r=(.tuple #[(vA [(vI 0),(.slice none 0 0)]),(vI (zaf n t))])∧Ext w w'):=by
 refine zw (n:=46) (σ:= [(0,(vA [(.int .i64 n),(.slice a_t n_t c_t)]))]) Tryz.func17 rfl ?_
 replace h_t:=h_t.now;have hle_t:=h_t.le
 have hgl0:=hg0.lt
 have hgl1:=hg1.lt
 have hgl2:=hg2.lt
 refine wsr (za (zS (Instr.box 38 (vA [(.int .i64 n),(.slice a_t n_t c_t)])) (vP w.heap.size 0) ([(.int .i64 n),(.slice a_t n_t c_t)]) 38 ?_))
 intro w1 hBw1 hEw1 hzw1 hlw1
 refine za (zad ([(vI 0),(.slice none 0 0)]) 38 ?_)
 intro w2 hBw2 hEw2 hzw2 hlw2
 refine zb 1 [(3,(vI 0))] (zM (za (zV w.heap.size 0 ((hBw1.ext hEw2).all) ?_)))
 refine za (zt (zfk n _ ((h_t.ext hEw1).ext hEw2) ((hg0.ext hEw1).ext hEw2) ((hg1.ext hEw1).ext hEw2) ((hg2.ext hEw1).ext hEw2)) ?_)
 rintro _ w3 ⟨rfl,hEw3⟩
 have hzw3:=hEw3.size
 refine zb 1 [(4,(vI (zaf n t)))] (zz (zb 1 [(11,(vI (zaf n t)))] (za (zda 12 (zaf n t) 0 ?_))))
 refine wEt (zk (wsr (zb 2 [(14,(vI (zaf n t))),(13,(vA [(vI 0),(.slice none 0 0)]))] (za (zC 38 w1.heap.size 0 38 (vA [(vI 0),(.slice none 0 0)]) ([(vI 0),(.slice none 0 0)]) ([(vI 0),(.slice none 0 0)]) (hBw2.ext hEw3) (by kernel_rfl) (by first | decide |(simp;done)|(simp;omega)) (by simp [Value.oneCell']) ?_)))))
 intro w4 hBw4 hCw4
 have hzw4:=hCw4.size
 rw [zv _ _ (by kernel_rfl)] at hBw4
 refine zb 1 [(3,(vI (zaf n t)))] (zF (zj (zaQ (show zO Tryz.prog 46 _ _ (.cell 2 38) (vA [(vI 0),(.slice none 0 0)]) from ⟨⟨w1.heap.size,0,none⟩,(by kernel_rfl),zE (T:=38) (vs:= [(vI 0),(.slice none 0 0)]) (hBw4).all (by kernel_rfl)⟩) (show zO Tryz.prog 46 _ _ (.tmp 3) (vI (zaf n t)) by (show _=_;kernel_rfl)) ?_)))
 have hX1:Ext w w4:=(Ext.own ((hEw1.trans hEw2).trans hEw3) hCw4 (by omega))
 exact ⟨rfl,hX1⟩
theorem zvQ (n:Nat) {lo_t hi_t:Nat} {a_t:Option Addr} {n_t c_t:Nat} {t:List Un} (w:World) (h_t:Ms unC 280 lo_t hi_t w a_t n_t c_t t) (hp0:1≤n) (hp1:n≤4096) (hp2:n_t=tot n) (hp3:∀i,i<t.length→(t.getD i Un.zero).sl=0∨(t.getD i Un.zero).sl=1) (hp4:zaY n (zaG n t)=0) (hg0:Gl 0 [vI 45,vI 33] w) (hg1:Gl 1 (w8C zaV) w) (hg2:Gl 3 (zas kA) w):
  Calls Tryz.prog 37 #[(vA [(vI n),(.slice a_t n_t c_t)])] w (Ret fun r w'=>∃a1 a2,r=(.tuple #[(vA [(vI n),(.slice a1 n_t n_t)]),(.slice a2 n_t n_t),(vI 0)])∧Ms zH 274 w.heap.size w'.heap.size w' a1 n_t n_t (t.map Un.nd)∧Es (iv .i64) w.heap.size w'.heap.size w' a2 n_t n_t (t.map slU)∧Ext w w'):=by
 refine zw (n:=49) (σ:= [(0,(vA [(vI n),(.slice a_t n_t c_t)]))]) Tryz.func37 rfl ?_
 replace h_t:=h_t.now;have hle_t:=h_t.le
 have hgl0:=hg0.lt
 have hgl1:=hg1.lt
 have hgl2:=hg2.lt
 have h5:=zam n
 have hlt:=h_t.len_eq
 have hts:=zau hp1
 have hle:=h_t.le
 have htt:=zcq hp0 hp1
 have hce:zaf (n:Int) t=0:=by rw [zdC hp0 hp1 (by omega) (zci.2 hp3)];exact hp4
 refine wsr (za (zS (Instr.box 38 (vA [(vI n),(.slice a_t n_t c_t)])) (vP w.heap.size 0) ([(vI n),(.slice a_t n_t c_t)]) 38 ?_))
 intro w1 hBw1 hEw1 hzw1 hlw1
 refine za (zad ([(vI 0),(.slice none 0 0)]) 44 ?_)
 intro w2 hBw2 hEw2 hzw2 hlw2
 refine zb 2 [(4,(vI 0)),(3,(.slice none 0 0))] (zM (za (zV w.heap.size 0 ((hBw1.ext hEw2).all) ?_)))
 refine za (zt (zfk ((n:Nat):Int) _ ((h_t.ext hEw1).ext hEw2) ((hg0.ext hEw1).ext hEw2) ((hg1.ext hEw1).ext hEw2) ((hg2.ext hEw1).ext hEw2)) ?_)
 rintro _ w3 ⟨rfl,hEw3⟩
 have hzw3:=hEw3.size
 rw [show zaf ((n:Nat):Int) t=0 from hce]
 refine zb 1 [(5,(vI 0))] (zz (zb 1 [(12,(vI 0))] (za (zbe 13 0 0 ?_))))
 refine wEt (zf (zl (zc (zd (zY 9 (fun w4 hEw4 hzw4 hT178=> ?_))))))
 refine ze hT178 [(0,16,(vP w.heap.size 0))] 1 ?_
 have hK1:=(((hBw1.ext hEw2).ext hEw3).ext hEw4)
 refine zx hT178 1 w.heap.size 0 (fun w' hC=>((hK1.ext hC).cell rfl)) (ze hT178 [(2,18,(vP w.heap.size 1))] 1 (zx hT178 3 w.heap.size 1 (fun w' hC=>((hK1.ext hC).cell rfl)) (ze hT178 [(4,20,(vI n_t))] 1 (zbB 5 7 ?_ ?_))))
 ·refine zb8 (some 21) 42 74 274 368 n_t n_t .i64 .i64 (vA (zH Nod.zero)) (by omega) (by omega) (by omega) ?_
  rw [zdt (f:=zH) (x:=Nod.zero) rfl (zN _) (by decide)]
  intro w5 hBw5 hEw5
  have hzw5:=hEw5.size;have hlw5:=hBw5.lt
  have hmw5:Ms zH 274 w4.heap.size (w4.heap.size+1) w5 (pA w4.heap.size 0) n_t n_t (List.replicate n_t Nod.zero):=Ms.of_pre (r:= []) (by rw [List.append_nil];exact hBw5) zN (by simp) (Nat.le_refl _) (by simp only [maxLen];omega) (Nat.le_refl _) (Nat.lt_succ_self _)
  refine ⟨.inr hEw5, ?_⟩
  refine ze (hw:=hEw5) hT178 [(6,22,(vA [(vI n),(.slice (pA w4.heap.size 0) n_t n_t)]))] 1 (zy 7 (zad ([(vI 0),(.slice none 0 0)]) 44 ?_))
  intro w6 hBw6 hEw6 hzw6 hlw6
  have hX1:Ext w4 w6:=(hEw5.trans hEw6)
  refine ⟨.inr hX1, ?_⟩
  refine zy 8 (zC 44 w5.heap.size 0 44 (vA [(vI n),(.slice (pA w4.heap.size 0) n_t n_t)]) ([(vI 0),(.slice none 0 0)]) ([(vI n),(.slice (pA w4.heap.size 0) n_t n_t)]) hBw6 (by kernel_rfl) (by first | decide |(simp;done)|(simp;omega)) (by simp [Value.oneCell']) ?_)
  intro w7 hBw7 hCw7
  have hzw7:=hCw7.size
  rw [zv _ _ (by kernel_rfl)] at hBw7
  refine ⟨.inl (by kernel_rfl), ?_⟩
  refine zB (zc (wsr (zb 1 [(23,(vP w.heap.size 1))] ?_)))
  have hK2:=(((hK1.ext hEw5).ext hEw6).chg hCw7)
  refine za (zm w.heap.size 1 (hK2.cell rfl) ?_)
  refine zb 1 [(25,(vI n_t))] (za (zb8 (some 26) 29 3 1 8 n_t n_t .i64 .i64 (vI 0) (by omega) (by omega) (by omega) ?_))
  rw [zdy _ rfl]
  intro w8 hBw8 hEw8
  have hzw8:=hEw8.size;have hlw8:=hBw8.lt
  have hSw8:Es (nv .i64) w7.heap.size (w7.heap.size+1) w8 (pA w7.heap.size 0) n_t n_t (List.replicate n_t 0):=Es.of_blk hBw8 (by rw [List.map_replicate];first | done | rfl) (by simp) (Nat.le_refl _) (by simp only [maxLen];omega) (Nat.le_refl _) (Nat.lt_succ_self _)
  refine zb 1 [(7,(.slice (pA w7.heap.size 0) n_t n_t))] (zM (zb 1 [(27,(vP w.heap.size 1))] (za (zm w.heap.size 1 ((hK2.ext hEw8).cell rfl) ?_))))
  refine zb 2 [(30,(vI 0)),(29,(vI n_t))] (wEt (zp ?_))
  have hK3:=(((hBw5.ext hEw6).chg hCw7).ext hEw8)
  have hX2:=(Ext.own (hEw5.trans hEw6) hCw7 (by omega)).trans hEw8
  have hK4:=(((hBw2.ext hEw3).ext hEw4).ext hX2)
  have hX3:Ext w w8:=((((hEw1.trans hEw2).trans hEw3).trans hEw4).trans hX2)
  refine zU (X:=Nat) (fun k=> [(30,(vI k))]) [8,9,31,32,33,34,35,36,37,38,39,40,41,42,43,44,45,46] (fun k w9=>k≤n_t∧Blk w9 w4.heap.size ((zaF n_t (fun i=>(t.getD i Un.zero).nd) (fun _=>Nod.zero) k).flatMap zH) 74∧Blk w9 w7.heap.size ((zaF n_t (fun i=>slU (t.getD i Un.zero)) (fun _=>(0:Int)) k).map (iv .i64)) 3∧Blk w9 w1.heap.size ([(vI 0),(.slice none 0 0)]) 44∧Blk w9 w5.heap.size ([(vI n),(.slice (pA w4.heap.size 0) n_t n_t)]) 44∧Ext w w9) (fun k=>n_t-k) 0 (by kernel_rfl) ⟨Nat.zero_le _,by rw [zfu];exact hK3,by rw [zfu,List.map_replicate];exact hBw8,hK4,(hBw7.ext hEw8),hX3⟩ ?_
  rintro k dw9 w9 ⟨hk,hR,hS,hQ2,hQ6,hEl⟩
  have hzl:=hEl.size;have hRl:=hR.lt;have hSl:=hS.lt
  have hmR:=Ms.of_row hR zN (len:=n_t) zbh.symm (by simp only [maxLen];omega)
  have hQ2l:=hQ2.lt
  have hQ6l:=hQ6.lt
  refine wsr (za (zag 31 k n_t (fun hc31=> ?_) (fun hc31=> ?_)))
  ·have hs0:=hp3 k (by omega)
   refine wEt (zd (zk (zl (zc (zd (zp (wsr ?_)))))))
   refine zb 1 [(32,(vI k))] ?_
   obtain ⟨b1,o1,rfl⟩:=h_t.addr (by omega) (by decide)
   refine za (zan b1 o1 n_t c_t k 280 ?_)
   refine za (zQ b1 (o1+k*280) ((h_t.ext hEl).at Un.zero (by omega)) (zI _) ?_)
   refine za (zad (unC Un.zero) 77 ?_)
   intro w10 hBw10 hEw10 hzw10 hlw10
   refine zb 1 [(8,(vI k))] (za (zC 77 w9.heap.size 0 77 (vA (unC (t.getD k Un.zero))) (unC Un.zero) (unC (t.getD k Un.zero)) hBw10 (by rw [zI];kernel_rfl) (by first |(simp;done)|(simp;omega)) (za7 _) ?_))
   intro w11 hBw11 hCw11
   have hzw11:=hCw11.size
   rw [zv _ _ (by simp)] at hBw11
   refine zz (zb 1 [(35,(vP w5.heap.size 1))] (za (zm w5.heap.size 1 (((hQ6.ext hEw10).chg hCw11).cell rfl) ?_)))
   refine zb 2 [(38,(vP w9.heap.size 0)),(37,(vI k))] (za (zQ w9.heap.size 0 (hBw11.at 0 (zH (t.getD k Un.zero).nd) (zdE _)) (zN _) ?_))
   refine za (zan w4.heap.size 0 n_t n_t k 274 ?_)
   refine za (zC 74 w4.heap.size (0+k*274) 74 (vA (zH (t.getD k Un.zero).nd)) ((zaF n_t (fun i=>(t.getD i Un.zero).nd) (fun _=>Nod.zero) k).flatMap zH) (zH (t.getD k Un.zero).nd) ((hR.ext hEw10).chg hCw11) (by rw [zN];kernel_rfl) (by rw [zaC zN];(try simp only [List.length_cons,List.length_nil,List.length_set]);have:=(show List.length (zaF n_t (fun i=>(t.getD i Un.zero).nd) (fun _=>Nod.zero) k)=n_t from zbh);have hln:=zN ((t.getD k Un.zero).nd);omega) (zct _) ?_)
   intro w12 hBw12 hCw12
   have hzw12:=hCw12.size
   rw [show (zZ ((zaF n_t (fun i=>(t.getD i Un.zero).nd) (fun _=>Nod.zero) k).flatMap zH) (0+k*274) (zH (t.getD k Un.zero).nd):List Value)=(zaF n_t (fun i=>(t.getD i Un.zero).nd) (fun _=>Nod.zero) (k+1)).flatMap zH from (zca zN _ _ _ (by have hq:List.length (zaF n_t (fun i=>(t.getD i Un.zero).nd) (fun _=>Nod.zero) k)=n_t:=zbh;omega)).trans (congrArg (fun z=>List.flatMap zH z) (show ((zaF n_t (fun i=>(t.getD i Un.zero).nd) (fun _=>Nod.zero) k).set k ((t.getD k Un.zero).nd))=(zaF n_t (fun i=>(t.getD i Un.zero).nd) (fun _=>Nod.zero) (k+1)) from zeg (f:=fun i=>(t.getD i Un.zero).nd) (by omega)))] at hBw12
   have hmw12:Ms zH 274 w4.heap.size (w4.heap.size+1) w12 (pA w4.heap.size 0) n_t n_t (zaF n_t (fun i=>(t.getD i Un.zero).nd) (fun _=>Nod.zero) (k+1)):=Ms.of_pre (r:= []) (by rw [List.append_nil];exact hBw12) zN (by have hq:List.length (zaF n_t (fun i=>(t.getD i Un.zero).nd) (fun _=>Nod.zero) (k+1))=n_t:=zbh;omega) (by omega) (by simp only [maxLen];omega) (by omega) (by omega)
   refine zdx (zb 2 [(42,(vI k)),(41,(.slice (pA w7.heap.size 0) n_t n_t))] (za (zQ w9.heap.size 0 ((hBw11.chg hCw12).all) (zI _) ?_)))
   refine za (zt (zis (t.getD k Un.zero) _ (by assumption)) ?_)
   rintro _ w13 ⟨rfl,hEw13⟩
   have hzw13:=hEw13.size
   refine za (zan w7.heap.size 0 n_t n_t k 1 ?_)
   have hK5:=((((hS.ext hEw10).chg hCw11).chg hCw12).ext hEw13)
   refine za (zah 3 w7.heap.size (0+k*1) 3 (.int .i64 (slU (t.getD k Un.zero))) ((zaF n_t (fun i=>slU (t.getD i Un.zero)) (fun _=>(0:Int)) k).map (iv .i64)) hK5 (by rw [List.length_map,zbh];omega) ?_)
   have hK6:=((((hS.ext hEw10).chg hCw11).chg hCw12).ext hEw13)
   intro w14 hBw14 hCw14
   have hzw14:=hCw14.size
   rw [show (((zaF n_t (fun i=>slU (t.getD i Un.zero)) (fun _=>(0:Int)) k).map (iv .i64)).set (0+k*1) (.int .i64 (slU (t.getD k Un.zero))):List Value)=(zaF n_t (fun i=>slU (t.getD i Un.zero)) (fun _=>(0:Int)) (k+1)).map (iv .i64) from by rw [Nat.zero_add,Nat.mul_one,←zeg (f:=fun i=>slU (t.getD i Un.zero)) (by omega),List.map_set];rfl] at hBw14
   refine zq (zi (zc (zg (za (zJ 46 k 1 (k+1) ?_)))))
   refine zb 1 [(30,(vI (k+1)))] (zq (zn ?_))
   have hK7:=(((((hQ2.ext hEw10).chg hCw11).chg hCw12).ext hEw13).chg hCw14)
   have hK8:=(((((hQ6.ext hEw10).chg hCw11).chg hCw12).ext hEw13).chg hCw14)
   have hX4:Ext w w14:=(Ext.own ((Ext.own (Ext.own (hEl.trans hEw10) hCw11 (by omega)) hCw12 (by omega)).trans hEw13) hCw14 (by omega))
   refine zG (k+1) ?_ ?_
   ·exact ⟨by omega,((hBw12.ext hEw13).chg hCw14),hBw14,hK7,hK8,hX4⟩
   ·first | omega |(dsimp only;omega)
  ·obtain rfl:k=n_t:=by omega
   refine wEt (zd (zf (zP (zo (zo (zD (zc (zd ?_))))))))
   refine zg (za (zV w5.heap.size 0 (hQ6.all) ?_))
   refine zb 1 [(48,(.slice (pA w7.heap.size 0) k k))] (za (zC 44 w1.heap.size 0 44 (vA [(vI n),(.slice (pA w4.heap.size 0) k k)]) ([(vI 0),(.slice none 0 0)]) ([(vI n),(.slice (pA w4.heap.size 0) k k)]) hQ2 (by kernel_rfl) (by first | decide |(simp;done)|(simp;omega)) (by simp [Value.oneCell']) ?_))
   intro w15 hBw15 hCw15
   have hzw15:=hCw15.size
   rw [zv _ _ (by kernel_rfl)] at hBw15
   refine zb 2 [(4,(vI 0)),(3,(.slice (pA w7.heap.size 0) k k))] (zF (zhN (show zO Tryz.prog 49 _ _ (.cell 2 44) (vA [(vI n),(.slice (pA w4.heap.size 0) k k)]) from ⟨⟨w1.heap.size,0,none⟩,(by kernel_rfl),zE (T:=44) (vs:= [(vI n),(.slice (pA w4.heap.size 0) k k)]) (hBw15).all (by kernel_rfl)⟩) (show zO Tryz.prog 49 _ _ (.tmp 3) (.slice (pA w7.heap.size 0) k k) by (show _=_;kernel_rfl)) (show zO Tryz.prog 49 _ _ (.tmp 4) (vI 0) by (show _=_;kernel_rfl)) ?_))
   have hfin:=(hmR.chg hCw15)
   rw [zer,zfX Un.zero Un.nd t (by omega)] at hfin
   have hfs:=(hS.chg hCw15)
   rw [zer,zfX Un.zero slU t (by omega)] at hfs
   exact ⟨_,_,rfl,hfin.now.mono (by omega) (Nat.le_refl _),(Es.of_blk hfs rfl (by rw [List.length_map];omega) (Nat.le_refl _) (by simp only [maxLen];omega) (Nat.le_refl _) (Nat.lt_succ_self _)).now.mono (by omega) (Nat.le_refl _),(Ext.own hEl hCw15 (by omega))⟩
 ·refine zad ([(vI 0),(.slice none 0 0)]) 44 ?_
  intro w16 hBw16 hEw16 hzw16 hlw16
  refine ⟨.inr hEw16, ?_⟩
  refine zy 5 (zb8 (some 21) 42 74 274 368 n_t n_t .i64 .i64 (vA (zH Nod.zero)) (by omega) (by omega) (by omega) ?_)
  rw [zdt (f:=zH) (x:=Nod.zero) rfl (zN _) (by decide)]
  intro w17 hBw17 hEw17
  have hzw17:=hEw17.size;have hlw17:=hBw17.lt
  have hmw17:Ms zH 274 w16.heap.size (w16.heap.size+1) w17 (pA w16.heap.size 0) n_t n_t (List.replicate n_t Nod.zero):=Ms.of_pre (r:= []) (by rw [List.append_nil];exact hBw17) zN (by simp) (Nat.le_refl _) (by simp only [maxLen];omega) (Nat.le_refl _) (Nat.lt_succ_self _)
  have hX5:Ext w4 w17:=(hEw16.trans hEw17)
  refine ⟨.inr hX5, ?_⟩
  refine ze (hw:=hX5) hT178 [(6,22,(vA [(vI n),(.slice (pA w16.heap.size 0) n_t n_t)]))] 1 (zy 8 (zC 44 w4.heap.size 0 44 (vA [(vI n),(.slice (pA w16.heap.size 0) n_t n_t)]) ([(vI 0),(.slice none 0 0)]) ([(vI n),(.slice (pA w16.heap.size 0) n_t n_t)]) (hBw16.ext hEw17) (by kernel_rfl) (by first | decide |(simp;done)|(simp;omega)) (by simp [Value.oneCell']) ?_))
  intro w18 hBw18 hCw18
  have hzw18:=hCw18.size
  rw [zv _ _ (by kernel_rfl)] at hBw18
  refine ⟨.inl (by kernel_rfl), ?_⟩
  refine zB (zc (wsr (zb 1 [(23,(vP w.heap.size 1))] ?_)))
  have hK9:=(((hK1.ext hEw16).ext hEw17).chg hCw18)
  refine za (zm w.heap.size 1 (hK9.cell rfl) ?_)
  refine zb 1 [(25,(vI n_t))] (za (zb8 (some 26) 29 3 1 8 n_t n_t .i64 .i64 (vI 0) (by omega) (by omega) (by omega) ?_))
  rw [zdy _ rfl]
  intro w19 hBw19 hEw19
  have hzw19:=hEw19.size;have hlw19:=hBw19.lt
  have hSw19:Es (nv .i64) w18.heap.size (w18.heap.size+1) w19 (pA w18.heap.size 0) n_t n_t (List.replicate n_t 0):=Es.of_blk hBw19 (by rw [List.map_replicate];first | done | rfl) (by simp) (Nat.le_refl _) (by simp only [maxLen];omega) (Nat.le_refl _) (Nat.lt_succ_self _)
  refine zb 1 [(7,(.slice (pA w18.heap.size 0) n_t n_t))] (zM (zb 1 [(27,(vP w.heap.size 1))] (za (zm w.heap.size 1 ((hK9.ext hEw19).cell rfl) ?_))))
  refine zb 2 [(30,(vI 0)),(29,(vI n_t))] (wEt (zp ?_))
  have hX6:=(Ext.own (hEw16.trans hEw17) hCw18 (by omega)).trans hEw19
  have hK10:=(((hBw2.ext hEw3).ext hEw4).ext hX6)
  have hX7:Ext w w19:=((((hEw1.trans hEw2).trans hEw3).trans hEw4).trans hX6)
  refine zU (X:=Nat) (fun k=> [(30,(vI k))]) [8,9,31,32,33,34,35,36,37,38,39,40,41,42,43,44,45,46] (fun k w20=>k≤n_t∧Blk w20 w16.heap.size ((zaF n_t (fun i=>(t.getD i Un.zero).nd) (fun _=>Nod.zero) k).flatMap zH) 74∧Blk w20 w18.heap.size ((zaF n_t (fun i=>slU (t.getD i Un.zero)) (fun _=>(0:Int)) k).map (iv .i64)) 3∧Blk w20 w1.heap.size ([(vI 0),(.slice none 0 0)]) 44∧Blk w20 w4.heap.size ([(vI n),(.slice (pA w16.heap.size 0) n_t n_t)]) 44∧Ext w w20) (fun k=>n_t-k) 0 (by kernel_rfl) ⟨Nat.zero_le _,by rw [zfu];exact ((hBw17.chg hCw18).ext hEw19),by rw [zfu,List.map_replicate];exact hBw19,hK10,(hBw18.ext hEw19),hX7⟩ ?_
  rintro k dw20 w20 ⟨hk,hR,hS,hQ2,hQ6,hEl⟩
  have hzl:=hEl.size;have hRl:=hR.lt;have hSl:=hS.lt
  have hmR:=Ms.of_row hR zN (len:=n_t) zbh.symm (by simp only [maxLen];omega)
  have hQ2l:=hQ2.lt
  have hQ6l:=hQ6.lt
  refine wsr (za (zag 31 k n_t (fun hc31=> ?_) (fun hc31=> ?_)))
  ·have hs0:=hp3 k (by omega)
   refine wEt (zd (zk (zl (zc (zd (zp (wsr ?_)))))))
   refine zb 1 [(32,(vI k))] ?_
   obtain ⟨b2,o2,rfl⟩:=h_t.addr (by omega) (by decide)
   refine za (zan b2 o2 n_t c_t k 280 ?_)
   refine za (zQ b2 (o2+k*280) ((h_t.ext hEl).at Un.zero (by omega)) (zI _) ?_)
   refine za (zad (unC Un.zero) 77 ?_)
   intro w21 hBw21 hEw21 hzw21 hlw21
   refine zb 1 [(8,(vI k))] (za (zC 77 w20.heap.size 0 77 (vA (unC (t.getD k Un.zero))) (unC Un.zero) (unC (t.getD k Un.zero)) hBw21 (by rw [zI];kernel_rfl) (by first |(simp;done)|(simp;omega)) (za7 _) ?_))
   intro w22 hBw22 hCw22
   have hzw22:=hCw22.size
   rw [zv _ _ (by simp)] at hBw22
   refine zz (zb 1 [(35,(vP w4.heap.size 1))] (za (zm w4.heap.size 1 (((hQ6.ext hEw21).chg hCw22).cell rfl) ?_)))
   refine zb 2 [(38,(vP w20.heap.size 0)),(37,(vI k))] (za (zQ w20.heap.size 0 (hBw22.at 0 (zH (t.getD k Un.zero).nd) (zdE _)) (zN _) ?_))
   refine za (zan w16.heap.size 0 n_t n_t k 274 ?_)
   refine za (zC 74 w16.heap.size (0+k*274) 74 (vA (zH (t.getD k Un.zero).nd)) ((zaF n_t (fun i=>(t.getD i Un.zero).nd) (fun _=>Nod.zero) k).flatMap zH) (zH (t.getD k Un.zero).nd) ((hR.ext hEw21).chg hCw22) (by rw [zN];kernel_rfl) (by rw [zaC zN];(try simp only [List.length_cons,List.length_nil,List.length_set]);have:=(show List.length (zaF n_t (fun i=>(t.getD i Un.zero).nd) (fun _=>Nod.zero) k)=n_t from zbh);have hln:=zN ((t.getD k Un.zero).nd);omega) (zct _) ?_)
   intro w23 hBw23 hCw23
   have hzw23:=hCw23.size
   rw [show (zZ ((zaF n_t (fun i=>(t.getD i Un.zero).nd) (fun _=>Nod.zero) k).flatMap zH) (0+k*274) (zH (t.getD k Un.zero).nd):List Value)=(zaF n_t (fun i=>(t.getD i Un.zero).nd) (fun _=>Nod.zero) (k+1)).flatMap zH from (zca zN _ _ _ (by have hq:List.length (zaF n_t (fun i=>(t.getD i Un.zero).nd) (fun _=>Nod.zero) k)=n_t:=zbh;omega)).trans (congrArg (fun z=>List.flatMap zH z) (show ((zaF n_t (fun i=>(t.getD i Un.zero).nd) (fun _=>Nod.zero) k).set k ((t.getD k Un.zero).nd))=(zaF n_t (fun i=>(t.getD i Un.zero).nd) (fun _=>Nod.zero) (k+1)) from zeg (f:=fun i=>(t.getD i Un.zero).nd) (by omega)))] at hBw23
   have hmw23:Ms zH 274 w16.heap.size (w16.heap.size+1) w23 (pA w16.heap.size 0) n_t n_t (zaF n_t (fun i=>(t.getD i Un.zero).nd) (fun _=>Nod.zero) (k+1)):=Ms.of_pre (r:= []) (by rw [List.append_nil];exact hBw23) zN (by have hq:List.length (zaF n_t (fun i=>(t.getD i Un.zero).nd) (fun _=>Nod.zero) (k+1))=n_t:=zbh;omega) (by omega) (by simp only [maxLen];omega) (by omega) (by omega)
   refine zdx (zb 2 [(42,(vI k)),(41,(.slice (pA w18.heap.size 0) n_t n_t))] (za (zQ w20.heap.size 0 ((hBw22.chg hCw23).all) (zI _) ?_)))
   refine za (zt (zis (t.getD k Un.zero) _ (by assumption)) ?_)
   rintro _ w24 ⟨rfl,hEw24⟩
   have hzw24:=hEw24.size
   refine za (zan w18.heap.size 0 n_t n_t k 1 ?_)
   have hK11:=((((hS.ext hEw21).chg hCw22).chg hCw23).ext hEw24)
   refine za (zah 3 w18.heap.size (0+k*1) 3 (.int .i64 (slU (t.getD k Un.zero))) ((zaF n_t (fun i=>slU (t.getD i Un.zero)) (fun _=>(0:Int)) k).map (iv .i64)) hK11 (by rw [List.length_map,zbh];omega) ?_)
   have hK12:=((((hS.ext hEw21).chg hCw22).chg hCw23).ext hEw24)
   intro w25 hBw25 hCw25
   have hzw25:=hCw25.size
   rw [show (((zaF n_t (fun i=>slU (t.getD i Un.zero)) (fun _=>(0:Int)) k).map (iv .i64)).set (0+k*1) (.int .i64 (slU (t.getD k Un.zero))):List Value)=(zaF n_t (fun i=>slU (t.getD i Un.zero)) (fun _=>(0:Int)) (k+1)).map (iv .i64) from by rw [Nat.zero_add,Nat.mul_one,←zeg (f:=fun i=>slU (t.getD i Un.zero)) (by omega),List.map_set];rfl] at hBw25
   refine zq (zi (zc (zg (za (zJ 46 k 1 (k+1) ?_)))))
   refine zb 1 [(30,(vI (k+1)))] (zq (zn ?_))
   have hK13:=(((((hQ2.ext hEw21).chg hCw22).chg hCw23).ext hEw24).chg hCw25)
   have hK14:=(((((hQ6.ext hEw21).chg hCw22).chg hCw23).ext hEw24).chg hCw25)
   have hX8:Ext w w25:=(Ext.own ((Ext.own (Ext.own (hEl.trans hEw21) hCw22 (by omega)) hCw23 (by omega)).trans hEw24) hCw25 (by omega))
   refine zG (k+1) ?_ ?_
   ·exact ⟨by omega,((hBw23.ext hEw24).chg hCw25),hBw25,hK13,hK14,hX8⟩
   ·first | omega |(dsimp only;omega)
  ·obtain rfl:k=n_t:=by omega
   refine wEt (zd (zf (zP (zo (zo (zD (zc (zd ?_))))))))
   refine zg (za (zV w4.heap.size 0 (hQ6.all) ?_))
   refine zb 1 [(48,(.slice (pA w18.heap.size 0) k k))] (za (zC 44 w1.heap.size 0 44 (vA [(vI n),(.slice (pA w16.heap.size 0) k k)]) ([(vI 0),(.slice none 0 0)]) ([(vI n),(.slice (pA w16.heap.size 0) k k)]) hQ2 (by kernel_rfl) (by first | decide |(simp;done)|(simp;omega)) (by simp [Value.oneCell']) ?_))
   intro w26 hBw26 hCw26
   have hzw26:=hCw26.size
   rw [zv _ _ (by kernel_rfl)] at hBw26
   refine zb 2 [(4,(vI 0)),(3,(.slice (pA w18.heap.size 0) k k))] (zF (zhN (show zO Tryz.prog 49 _ _ (.cell 2 44) (vA [(vI n),(.slice (pA w16.heap.size 0) k k)]) from ⟨⟨w1.heap.size,0,none⟩,(by kernel_rfl),zE (T:=44) (vs:= [(vI n),(.slice (pA w16.heap.size 0) k k)]) (hBw26).all (by kernel_rfl)⟩) (show zO Tryz.prog 49 _ _ (.tmp 3) (.slice (pA w18.heap.size 0) k k) by (show _=_;kernel_rfl)) (show zO Tryz.prog 49 _ _ (.tmp 4) (vI 0) by (show _=_;kernel_rfl)) ?_))
   have hfin:=(hmR.chg hCw26)
   rw [zer,zfX Un.zero Un.nd t (by omega)] at hfin
   have hfs:=(hS.chg hCw26)
   rw [zer,zfX Un.zero slU t (by omega)] at hfs
   exact ⟨_,_,rfl,hfin.now.mono (by omega) (Nat.le_refl _),(Es.of_blk hfs rfl (by rw [List.length_map];omega) (Nat.le_refl _) (by simp only [maxLen];omega) (Nat.le_refl _) (Nat.lt_succ_self _)).now.mono (by omega) (Nat.le_refl _),(Ext.own hEl hCw26 (by omega))⟩
theorem zsY (n:Int) {lo_t hi_t:Nat} {a_t:Option Addr} {n_t c_t:Nat} {t:List Un} (w:World) (h_t:Ms unC 280 lo_t hi_t w a_t n_t c_t t) (hp0:¬zaf n t=0) (hg0:Gl 0 [vI 45,vI 33] w) (hg1:Gl 1 (w8C zaV) w) (hg2:Gl 3 (zas kA) w):
  Calls Tryz.prog 37 #[(vA [(.int .i64 n),(.slice a_t n_t c_t)])] w (Ret fun r w'=>r=(.tuple #[(vA [(vI 0),(.slice none 0 0)]),(.slice none 0 0),(vI (zaf n t))])∧Ext w w'):=by
 refine zw (n:=49) (σ:= [(0,(vA [(.int .i64 n),(.slice a_t n_t c_t)]))]) Tryz.func37 rfl ?_
 replace h_t:=h_t.now;have hle_t:=h_t.le
 have hgl0:=hg0.lt
 have hgl1:=hg1.lt
 have hgl2:=hg2.lt
 refine wsr (za (zS (Instr.box 38 (vA [(.int .i64 n),(.slice a_t n_t c_t)])) (vP w.heap.size 0) ([(.int .i64 n),(.slice a_t n_t c_t)]) 38 ?_))
 intro w1 hBw1 hEw1 hzw1 hlw1
 refine za (zad ([(vI 0),(.slice none 0 0)]) 44 ?_)
 intro w2 hBw2 hEw2 hzw2 hlw2
 refine zb 2 [(4,(vI 0)),(3,(.slice none 0 0))] (zM (za (zV w.heap.size 0 ((hBw1.ext hEw2).all) ?_)))
 refine za (zt (zfk n _ ((h_t.ext hEw1).ext hEw2) ((hg0.ext hEw1).ext hEw2) ((hg1.ext hEw1).ext hEw2) ((hg2.ext hEw1).ext hEw2)) ?_)
 rintro _ w3 ⟨rfl,hEw3⟩
 have hzw3:=hEw3.size
 refine zb 1 [(5,(vI (zaf n t)))] (zz (zb 1 [(12,(vI (zaf n t)))] (za (zda 13 (zaf n t) 0 ?_))))
 refine wEt (zk (wsr (zb 2 [(15,(vI (zaf n t))),(14,(vA [(vI 0),(.slice none 0 0)]))] (za (zC 44 w1.heap.size 0 44 (vA [(vI 0),(.slice none 0 0)]) ([(vI 0),(.slice none 0 0)]) ([(vI 0),(.slice none 0 0)]) (hBw2.ext hEw3) (by kernel_rfl) (by first | decide |(simp;done)|(simp;omega)) (by simp [Value.oneCell']) ?_)))))
 intro w4 hBw4 hCw4
 have hzw4:=hCw4.size
 rw [zv _ _ (by kernel_rfl)] at hBw4
 refine zb 2 [(4,(vI (zaf n t))),(3,(.slice none 0 0))] (zF (zj (zhN (show zO Tryz.prog 49 _ _ (.cell 2 44) (vA [(vI 0),(.slice none 0 0)]) from ⟨⟨w1.heap.size,0,none⟩,(by kernel_rfl),zE (T:=44) (vs:= [(vI 0),(.slice none 0 0)]) (hBw4).all (by kernel_rfl)⟩) (show zO Tryz.prog 49 _ _ (.tmp 3) (.slice none 0 0) by (show _=_;kernel_rfl)) (show zO Tryz.prog 49 _ _ (.tmp 4) (vI (zaf n t)) by (show _=_;kernel_rfl)) ?_)))
 have hX1:Ext w w4:=(Ext.own ((hEw1.trans hEw2).trans hEw3) hCw4 (by omega))
 exact ⟨rfl,hX1⟩
end Go.Proofs.YtkmhgepdhilllaaGreatDoor
namespace Go.Proofs.YtkmhgepdhilllaaGreatDoor
open Go Go.RowKit Go.Cs
set_option maxRecDepth 100000
theorem zu1 (x:Int) (w:World) (hp0:x=0∨x=1):
  Calls Tryz.prog 46 #[(.int .i64 x)] w (Ret fun r w'=>r=vF∧Ext w w'):=by
 refine zw (n:=9) (σ:= [(0,(.int .i64 x))]) Tryz.func46 rfl ?_
 refine wsr (zb 1 [(2,vF)] (zz (zb 1 [(3,(.int .i64 x))] (za (zg9 4 x ((0:Nat):Int) (fun hc4=> ?_) (fun hc4=> ?_))))))
 ·refine zb 2 [(6,(.int .i64 x)),(5,vT)] (za (zbn (some 7) (x !=((1:Nat):Int)) false (zcb) ?_))
  exact zb 2 [(2,vF),(8,vF)] (zF (zh vF (⟨rfl,(Ext.refl _)⟩)))
 ·exact zb 5 [(2,vF),(8,vF),(7,undef),(6,undef),(5,vF)] (zF (zh vF (⟨rfl,(Ext.refl _)⟩)))
theorem ztc {lo_z hi_z:Nat} {a_z:Option Addr} {n_z c_z:Nat} {z:List Int} (w:World) (h_z:Es (iv .i64) lo_z hi_z w a_z n_z c_z z) (hp0:∀i,z.getD i 0=0∨z.getD i 0=1):
  Calls Tryz.prog 72 #[(.slice a_z n_z c_z),(.func (.func 46) #[] #[])] w (Ret fun r w'=>r=(.int .i64 (-1))∧Ext w w'):=by
 refine zw (n:=19) (σ:= [(0,(.slice a_z n_z c_z)),(1,(.func (.func 46) #[] #[]))]) Tryz.func72 rfl ?_
 replace h_z:=h_z.now;have hle_z:=h_z.le
 have hlz:=h_z.len_eq
 refine wsr (zb 1 [(4,(vI 0))] (zM (zb 3 [(8,(vI 0)),(7,(vI n_z)),(6,(.slice a_z n_z c_z))] (zq ?_))))
 refine zc (zp (zU (X:=Nat) (fun k=> [(8,(vI k))]) [4,5,9,10,11,12,13,14,15,16,17,18] (fun k w1=>k≤n_z∧Ext w w1) (fun k=>n_z-k) 0 (by kernel_rfl) ⟨Nat.zero_le _,(Ext.refl _)⟩ ?_))
 rintro k dw1 w1 ⟨hk,hEl⟩
 have hzl:=hEl.size
 refine wsr (za (zag 9 k n_z (fun hc9=> ?_) (fun hc9=> ?_)))
 ·refine wEt (zd (zk (zl (zc (zd (zp (wsr ?_)))))))
  refine zb 2 [(5,(vI k)),(10,(vI k))] (zz (zb 3 [(13,(vI k)),(12,(.slice a_z n_z c_z)),(11,(.func (.func 46) #[] #[]))] ?_))
  obtain ⟨b1,o1,rfl⟩:=h_z.addr (by omega)
  refine za (zan b1 o1 n_z c_z k 1 ?_)
  refine za (zm b1 (o1+k*1) ((h_z.ext hEl).celli (by omega)) ?_)
  refine za (zt (zu1 (gz z k) _ (hp0 k)) ?_)
  rintro _ w2 ⟨rfl,hEw2⟩
  have hzw2:=hEw2.size
  refine wEt (zf (zl (zi (zc (zg (za (zJ 18 k 1 (k+1) ?_)))))))
  refine zb 1 [(8,(vI (k+1)))] (zq (zn (zG (k+1) ?_ ?_)))
  ·exact ⟨by omega,(hEl.trans hEw2)⟩
  ·first | omega |(dsimp only;omega)
 ·refine wEt (zd (zf (zP (zo (zo (zD (zc (zd ?_))))))))
  exact zg (zb 1 [(4,(.int .i64 (-1)))] (zF (zh (.int .i64 (-1)) (⟨rfl,hEl⟩))))
theorem zug {lo_z hi_z:Nat} {a_z:Option Addr} {n_z c_z:Nat} {z:List Int} (w:World) (h_z:Es (iv .i64) lo_z hi_z w a_z n_z c_z z) (hp0:∀i,z.getD i 0=0∨z.getD i 0=1):
  Calls Tryz.prog 45 #[(.slice a_z n_z c_z),(.func (.func 46) #[] #[])] w (Ret fun r w'=>r=vF∧Ext w w'):=by
 refine zw (n:=9) (σ:= [(0,(.slice a_z n_z c_z)),(1,(.func (.func 46) #[] #[]))]) Tryz.func45 rfl ?_
 replace h_z:=h_z.now;have hle_z:=h_z.le
 refine wsr (zb 1 [(4,vF)] (zz (zb 2 [(6,(.func (.func 46) #[] #[])),(5,(.slice a_z n_z c_z))] (za (zt (ztc _ h_z (by assumption)) ?_)))))
 rintro _ w1 ⟨rfl,hEw1⟩
 have hzw1:=hEw1.size
 refine za (zbn (some 8) (decide (-1≥((0:Nat):Int))) false (zbW) ?_)
 exact zb 1 [(4,vF)] (zF (zh vF (⟨rfl,hEw1⟩)))
theorem zv6 (n:Nat) {lo_t hi_t:Nat} {a_t:Option Addr} {n_t c_t:Nat} {t:List Nod} {lo_z hi_z:Nat} {a_z:Option Addr} {n_z c_z:Nat} {z:List Int} (w:World) (h_t:Ms zH 274 lo_t hi_t w a_t n_t c_t t) (h_z:Es (iv .i64) lo_z hi_z w a_z n_z c_z z) (hp0:1≤n) (hp1:n≤4096) (hp2:n_t=tot n) (hp3:zbZ n t=0) (hp4:n_z=n_t) (hp5:∀i,z.getD i 0=0∨z.getD i 0=1) (hp6:zaf ((n:Nat):Int) (ofT n_t t z)=0) (hg0:Gl 0 [vI 45,vI 33] w) (hg1:Gl 1 (w8C zaV) w) (hg2:Gl 3 (zas kA) w) (hg3:Gl 2 [.iface 227 (.agg #[.pointer (some ⟨4,160,none⟩)])] w):
  Calls Tryz.prog 12 #[(vA [(vI n),(.slice a_t n_t c_t)]),(.slice a_z n_z c_z)] w (Ret fun r w'=>∃a1,r=(.tuple #[(vA [(vI n),(.slice a1 n_t n_t)]),(vI 0)])∧Ms unC 280 w.heap.size w'.heap.size w' a1 n_t n_t (ofT n_t t z)∧Ext w w'):=by
 refine zw (n:=61) (σ:= [(0,(vA [(vI n),(.slice a_t n_t c_t)])),(1,(.slice a_z n_z c_z))]) Tryz.func12 rfl ?_
 replace h_t:=h_t.now;have hle_t:=h_t.le
 replace h_z:=h_z.now;have hle_z:=h_z.le
 have hgl0:=hg0.lt
 have hgl1:=hg1.lt
 have hgl2:=hg2.lt
 have hgl3:=hg3.lt
 have h5:=zam n
 have hlt:=h_t.len_eq
 have hlz:=h_z.len_eq
 have hts:=zau hp1
 have htt:=zcq hp0 hp1
 have hle:=h_t.le
 have hlez:=h_z.le
 have hce:zeJ (n:Int) t=0:=by rw [zgz hp0 hp1 (by omega)];exact hp3
 refine wsr (za (zS (Instr.box 44 (vA [(vI n),(.slice a_t n_t c_t)])) (vP w.heap.size 0) ([(vI n),(.slice a_t n_t c_t)]) 44 ?_))
 intro w1 hBw1 hEw1 hzw1 hlw1
 refine za (zad ([(vI 0),(.slice none 0 0)]) 38 ?_)
 intro w2 hBw2 hEw2 hzw2 hlw2
 refine zb 1 [(5,(vI 0))] (zM (za (zV w.heap.size 0 ((hBw1.ext hEw2).all) ?_)))
 refine za (zt (zws ((n:Nat):Int) _ ((h_t.ext hEw1).ext hEw2) ((hg0.ext hEw1).ext hEw2) ((hg1.ext hEw1).ext hEw2) ((hg2.ext hEw1).ext hEw2) ((hg3.ext hEw1).ext hEw2)) ?_)
 rintro _ w3 ⟨rfl,hEw3⟩
 have hzw3:=hEw3.size
 rw [show zeJ ((n:Nat):Int) t=0 from hce]
 refine zb 1 [(6,(vI 0))] (zz (zb 1 [(13,(vI 0))] (za (zbe 14 0 0 ?_))))
 refine wEt (zf (zl (zc (zd (wsr (zb 3 [(19,(vP w.heap.size 1)),(18,(vI n_z)),(17,(.slice a_z n_z c_z))] (za (zm w.heap.size 1 (((hBw1.ext hEw2).ext hEw3).cell rfl) ?_))))))))
 refine zb 1 [(21,(vI n_t))] (za (zbe 22 n_z n_t ?_))
 refine zb 2 [(24,(.slice a_z n_z c_z)),(23,vF)] ?_
 have hK1:=(((h_z.ext hEw1).ext hEw2).ext hEw3)
 refine za (zt (zug _ hK1 (hp5)) ?_)
 rintro _ w4 ⟨rfl,hEw4⟩
 have hzw4:=hEw4.size
 refine zb 1 [(26,vF)] (wEt (zf (zl (zc (zd (zY 9 (fun w5 hEw5 hzw5 hT156=> ?_)))))))
 refine ze hT156 [(0,28,(vP w.heap.size 0))] 1 ?_
 have hK2:=((((hBw1.ext hEw2).ext hEw3).ext hEw4).ext hEw5)
 refine zx hT156 1 w.heap.size 0 (fun w' hC=>((hK2.ext hC).cell rfl)) (ze hT156 [(2,30,(vP w.heap.size 1))] 1 (zx hT156 3 w.heap.size 1 (fun w' hC=>((hK2.ext hC).cell rfl)) (ze hT156 [(4,32,(vI n_t))] 1 (zbB 5 7 ?_ ?_))))
 ·refine zb8 (some 33) 36 77 280 384 n_t n_t .i64 .i64 (vA (unC Un.zero)) (by omega) (by omega) (by omega) ?_
  rw [zdt (f:=unC) (x:=Un.zero) rfl (zI _) (by decide)]
  intro w6 hBw6 hEw6
  have hzw6:=hEw6.size;have hlw6:=hBw6.lt
  have hmw6:Ms unC 280 w5.heap.size (w5.heap.size+1) w6 (pA w5.heap.size 0) n_t n_t (List.replicate n_t Un.zero):=Ms.of_pre (r:= []) (by rw [List.append_nil];exact hBw6) zI (by simp) (Nat.le_refl _) (by simp only [maxLen];omega) (Nat.le_refl _) (Nat.lt_succ_self _)
  refine ⟨.inr hEw6, ?_⟩
  refine ze (hw:=hEw6) hT156 [(6,34,(vA [(vI n),(.slice (pA w5.heap.size 0) n_t n_t)]))] 1 (zy 7 (zad ([(vI 0),(.slice none 0 0)]) 38 ?_))
  intro w7 hBw7 hEw7 hzw7 hlw7
  have hX1:Ext w5 w7:=(hEw6.trans hEw7)
  refine ⟨.inr hX1, ?_⟩
  refine zy 8 (zC 38 w6.heap.size 0 38 (vA [(vI n),(.slice (pA w5.heap.size 0) n_t n_t)]) ([(vI 0),(.slice none 0 0)]) ([(vI n),(.slice (pA w5.heap.size 0) n_t n_t)]) hBw7 (by kernel_rfl) (by first | decide |(simp;done)|(simp;omega)) (by simp [Value.oneCell']) ?_)
  intro w8 hBw8 hCw8
  have hzw8:=hCw8.size
  rw [zv _ _ (by kernel_rfl)] at hBw8
  refine ⟨.inl (by kernel_rfl), ?_⟩
  refine zB (zc (zd (wsr (zb 1 [(35,(vP w.heap.size 1))] ?_))))
  have hK3:=(((hK2.ext hEw6).ext hEw7).chg hCw8)
  refine za (zm w.heap.size 1 (hK3.cell rfl) ?_)
  refine zb 2 [(38,(vI 0)),(37,(vI n_t))] (wEt (zp ?_))
  have hX2:=Ext.own ((hEw5.trans hEw6).trans hEw7) hCw8 (by omega)
  have hK4:=(((hBw2.ext hEw3).ext hEw4).ext hX2)
  have hX3:Ext w w8:=((((hEw1.trans hEw2).trans hEw3).trans hEw4).trans hX2)
  refine zU (X:=Nat) (fun k=> [(38,(vI k))]) [8,9,39,40,41,42,43,44,45,46,47,48,49,50,51,52,53] (fun k w9=>k≤n_t∧Blk w9 w5.heap.size ((zaF n_t (ofE t z) (fun _=>Un.zero) k).flatMap unC) 77∧Blk w9 w.heap.size ([(vI n),(.slice a_t n_t c_t)]) 44∧Blk w9 w1.heap.size ([(vI 0),(.slice none 0 0)]) 38∧Blk w9 w6.heap.size ([(vI n),(.slice (pA w5.heap.size 0) n_t n_t)]) 38∧Ext w w9) (fun k=>n_t-k) 0 (by kernel_rfl) ⟨Nat.zero_le _,by rw [zfu];exact ((hBw6.ext hEw7).chg hCw8),hK3,hK4,hBw8,hX3⟩ ?_
  rintro k dw9 w9 ⟨hk,hR,hQ2,hQ4,hQ7,hEl⟩
  have hzl:=hEl.size;have hRl:=hR.lt
  have hmR:=Ms.of_row hR zI (len:=n_t) zbh.symm (by simp only [maxLen];omega)
  have hQ2l:=hQ2.lt
  have hQ4l:=hQ4.lt
  have hQ7l:=hQ7.lt
  refine wsr (za (zag 39 k n_t (fun hc39=> ?_) (fun hc39=> ?_)))
  ·refine wEt (zd (zk (zl (zc (zd (zp (wsr ?_)))))))
   refine zb 1 [(40,(vI k))] ?_
   obtain ⟨b1,o1,rfl⟩:=h_t.addr (by omega) (by decide)
   refine za (zan b1 o1 n_t c_t k 274 ?_)
   refine za (zQ b1 (o1+k*274) ((h_t.ext hEl).at Nod.zero (by omega)) (zN _) ?_)
   refine za (zad (zH Nod.zero) 74 ?_)
   intro w10 hBw10 hEw10 hzw10 hlw10
   refine zb 1 [(8,(vI k))] (za (zC 74 w9.heap.size 0 74 (vA (zH (t.getD k Nod.zero))) (zH Nod.zero) (zH (t.getD k Nod.zero)) hBw10 (by rw [zN];kernel_rfl) (by first |(simp;done)|(simp;omega)) (zct _) ?_))
   intro w11 hBw11 hCw11
   have hzw11:=hCw11.size
   rw [zv _ _ (by simp)] at hBw11
   refine wEt (zbO (fun k=>k=w5.heap.size) 11 (fun w12 hEw12 hzw12 hT228=> ?_))
   have hX4:Chg (fun k=>k=w5.heap.size) w12 w12:=(Chg.refl (fun k=>k=w5.heap.size) w12)
   refine ze (hw:=hX4) hT228 [(0,43,(vP w6.heap.size 1))] 1 ?_
   have hK5:=(((hQ7.ext hEw10).chg hCw11).ext hEw12)
   refine zx (hw:=hX4) hT228 1 w6.heap.size 1 (fun w' hC=>((hK5.chg hC (fun hs=>by have h:_=_:=hs;omega)).cell rfl)) (ze (hw:=hX4) hT228 [(2,45,(vI k))] 1 (zaq (hw:=hX4) hT228 3 w9.heap.size 0 (fun w' hC=>(((hBw11.ext hEw12).chg hC (fun hs=>by have h:_=_:=hs;omega)).all)) (zN _) (ze (hw:=hX4) hT228 [(4,47,(.slice a_z n_z c_z)),(5,48,(vI k))] 2 ?_)))
   obtain ⟨b2,o2,rfl⟩:=h_z.addr (by omega)
   refine zaD (hw:=hX4) hT228 6 b2 o2 n_z c_z k 1 ?_
   have hX5:=(Ext.own (hEl.trans hEw10) hCw11 (by omega)).trans hEw12
   refine zx (hw:=hX4) hT228 7 b2 (o2+k*1) (fun w' hC=>(((h_z.ext hX5).chg hC (fun k h1 h2 hs=>by have h:_=_:=hs;omega)).celli (by omega))) (zr (hw:=hX4) hT228 8 (vA (unC (ofE t z k))) (zai (Instr.build 77 #[(0,(vA (zH (t.getD k Nod.zero)))),(1,(.int .i64 (gz z k)))]) (fun w' hC=>(zft (t.getD k Nod.zero) (gz z k)).trans (congrArg (fun z:Un=>Result.ok (Value.agg (unC z).toArray) _) (show (⟨(t.getD k Nod.zero),gz z k,false,List.replicate 4 false,rfl⟩:Un)=ofE t z k from rfl)))) (zaD (hw:=hX4) hT228 9 w5.heap.size 0 n_t n_t k 280 ?_))
   have hK6:=(((hR.ext hEw10).chg hCw11).ext hEw12)
   refine zy 10 (zC 77 w5.heap.size (0+k*280) 77 (vA (unC (ofE t z k))) ((zaF n_t (ofE t z) (fun _=>Un.zero) k).flatMap unC) (unC (ofE t z k)) hK6 (by rw [zI];kernel_rfl) (by rw [zaC zI];(try simp only [List.length_cons,List.length_nil,List.length_set]);have:=(show List.length (zaF n_t (ofE t z) (fun _=>Un.zero) k)=n_t from zbh);have hln:=zI (ofE t z k);omega) (za7 _) ?_)
   have hK7:=(((hR.ext hEw10).chg hCw11).ext hEw12)
   intro w13 hBw13 hCw13
   have hzw13:=hCw13.size
   rw [show (zZ ((zaF n_t (ofE t z) (fun _=>Un.zero) k).flatMap unC) (0+k*280) (unC (ofE t z k)):List Value)=(zaF n_t (ofE t z) (fun _=>Un.zero) (k+1)).flatMap unC from (zca zI _ _ _ (by have hq:List.length (zaF n_t (ofE t z) (fun _=>Un.zero) k)=n_t:=zbh;omega)).trans (congrArg (fun z=>List.flatMap unC z) (show ((zaF n_t (ofE t z) (fun _=>Un.zero) k).set k (ofE t z k))=(zaF n_t (ofE t z) (fun _=>Un.zero) (k+1)) from zeg (f:=ofE t z) (by omega)))] at hBw13
   have hmw13:Ms unC 280 w5.heap.size (w5.heap.size+1) w13 (pA w5.heap.size 0) n_t n_t (zaF n_t (ofE t z) (fun _=>Un.zero) (k+1)):=Ms.of_pre (r:= []) (by rw [List.append_nil];exact hBw13) zI (by have hq:List.length (zaF n_t (ofE t z) (fun _=>Un.zero) (k+1))=n_t:=zbh;omega) (by omega) (by simp only [maxLen];omega) (by omega) (by omega)
   refine ⟨.inl (by kernel_rfl), ?_⟩
   refine zB (zi (zc (zg (za (zJ 53 k 1 (k+1) ?_)))))
   refine zb 1 [(38,(vI (k+1)))] (zq (zn ?_))
   have hK8:=((((hQ2.ext hEw10).chg hCw11).ext hEw12).chg hCw13)
   have hK9:=((((hQ4.ext hEw10).chg hCw11).ext hEw12).chg hCw13)
   refine zG (k+1) ?_ ?_
   ·exact ⟨by omega,hBw13,hK8,hK9,(hK5.chg hCw13),(Ext.own hX5 hCw13 (by omega))⟩
   ·first | omega |(dsimp only;omega)
  ·have hkn:k=n_t:=by omega
   rw [hkn,show (zaF n_t (ofE t z) (fun _=>Un.zero) n_t)=(ofT n_t t z) from zer] at hR hmR
   refine wEt (zd (zf (zP (zo (zo (zD (zc (zd ?_))))))))
   refine wsr (za (zV w6.heap.size 0 (hQ7.all) ?_))
   refine za (zt (zfk ((n:Nat):Int) _ hmR (hg0.ext hEl) (hg1.ext hEl) (hg2.ext hEl)) ?_)
   rintro _ w14 ⟨rfl,hEw14⟩
   have hzw14:=hEw14.size
   rw [show zaf ((n:Nat):Int) (ofT n_t t z)=0 from hp6]
   refine zb 1 [(10,(vI 0))] (zz (zb 1 [(56,(vI 0))] (za (zbe 57 0 0 ?_))))
   refine wEt (zf (zl (zc (wsr (za (zV w6.heap.size 0 ((hQ7.ext hEw14).all) ?_))))))
   refine za (zC 38 w1.heap.size 0 38 (vA [(vI n),(.slice (pA w5.heap.size 0) n_t n_t)]) ([(vI 0),(.slice none 0 0)]) ([(vI n),(.slice (pA w5.heap.size 0) n_t n_t)]) (hQ4.ext hEw14) (by kernel_rfl) (by first | decide |(simp;done)|(simp;omega)) (by simp [Value.oneCell']) ?_)
   intro w15 hBw15 hCw15
   have hzw15:=hCw15.size
   rw [zv _ _ (by kernel_rfl)] at hBw15
   exact zb 1 [(5,(vI 0))] (zF (zaQ (show zO Tryz.prog 61 _ _ (.cell 4 38) (vA [(vI n),(.slice (pA w5.heap.size 0) n_t n_t)]) from ⟨⟨w1.heap.size,0,none⟩,(by kernel_rfl),zE (T:=38) (vs:= [(vI n),(.slice (pA w5.heap.size 0) n_t n_t)]) (hBw15).all (by kernel_rfl)⟩) (show zO Tryz.prog 61 _ _ (.tmp 5) (vI 0) by (show _=_;kernel_rfl)) (⟨_,rfl,(((hmR.ext hEw14).chg hCw15)).now.mono (by omega) (Nat.le_refl _),(Ext.own (hEl.trans hEw14) hCw15 (by omega))⟩)))
 ·refine zad ([(vI 0),(.slice none 0 0)]) 38 ?_
  intro w16 hBw16 hEw16 hzw16 hlw16
  refine ⟨.inr hEw16, ?_⟩
  refine zy 5 (zb8 (some 33) 36 77 280 384 n_t n_t .i64 .i64 (vA (unC Un.zero)) (by omega) (by omega) (by omega) ?_)
  rw [zdt (f:=unC) (x:=Un.zero) rfl (zI _) (by decide)]
  intro w17 hBw17 hEw17
  have hzw17:=hEw17.size;have hlw17:=hBw17.lt
  have hmw17:Ms unC 280 w16.heap.size (w16.heap.size+1) w17 (pA w16.heap.size 0) n_t n_t (List.replicate n_t Un.zero):=Ms.of_pre (r:= []) (by rw [List.append_nil];exact hBw17) zI (by simp) (Nat.le_refl _) (by simp only [maxLen];omega) (Nat.le_refl _) (Nat.lt_succ_self _)
  have hX6:Ext w5 w17:=(hEw16.trans hEw17)
  refine ⟨.inr hX6, ?_⟩
  refine ze (hw:=hX6) hT156 [(6,34,(vA [(vI n),(.slice (pA w16.heap.size 0) n_t n_t)]))] 1 (zy 8 (zC 38 w5.heap.size 0 38 (vA [(vI n),(.slice (pA w16.heap.size 0) n_t n_t)]) ([(vI 0),(.slice none 0 0)]) ([(vI n),(.slice (pA w16.heap.size 0) n_t n_t)]) (hBw16.ext hEw17) (by kernel_rfl) (by first | decide |(simp;done)|(simp;omega)) (by simp [Value.oneCell']) ?_))
  intro w18 hBw18 hCw18
  have hzw18:=hCw18.size
  rw [zv _ _ (by kernel_rfl)] at hBw18
  refine ⟨.inl (by kernel_rfl), ?_⟩
  refine zB (zc (zd (wsr (zb 1 [(35,(vP w.heap.size 1))] ?_))))
  have hK10:=(((hK2.ext hEw16).ext hEw17).chg hCw18)
  refine za (zm w.heap.size 1 (hK10.cell rfl) ?_)
  refine zb 2 [(38,(vI 0)),(37,(vI n_t))] (wEt (zp ?_))
  have hX7:=Ext.own ((hEw5.trans hEw16).trans hEw17) hCw18 (by omega)
  have hK11:=(((hBw2.ext hEw3).ext hEw4).ext hX7)
  have hX8:Ext w w18:=((((hEw1.trans hEw2).trans hEw3).trans hEw4).trans hX7)
  refine zU (X:=Nat) (fun k=> [(38,(vI k))]) [8,9,39,40,41,42,43,44,45,46,47,48,49,50,51,52,53] (fun k w19=>k≤n_t∧Blk w19 w16.heap.size ((zaF n_t (ofE t z) (fun _=>Un.zero) k).flatMap unC) 77∧Blk w19 w.heap.size ([(vI n),(.slice a_t n_t c_t)]) 44∧Blk w19 w1.heap.size ([(vI 0),(.slice none 0 0)]) 38∧Blk w19 w5.heap.size ([(vI n),(.slice (pA w16.heap.size 0) n_t n_t)]) 38∧Ext w w19) (fun k=>n_t-k) 0 (by kernel_rfl) ⟨Nat.zero_le _,by rw [zfu];exact (hBw17.chg hCw18),hK10,hK11,hBw18,hX8⟩ ?_
  rintro k dw19 w19 ⟨hk,hR,hQ2,hQ4,hQ7,hEl⟩
  have hzl:=hEl.size;have hRl:=hR.lt
  have hmR:=Ms.of_row hR zI (len:=n_t) zbh.symm (by simp only [maxLen];omega)
  have hQ2l:=hQ2.lt
  have hQ4l:=hQ4.lt
  have hQ7l:=hQ7.lt
  refine wsr (za (zag 39 k n_t (fun hc39=> ?_) (fun hc39=> ?_)))
  ·refine wEt (zd (zk (zl (zc (zd (zp (wsr ?_)))))))
   refine zb 1 [(40,(vI k))] ?_
   obtain ⟨b3,o3,rfl⟩:=h_t.addr (by omega) (by decide)
   refine za (zan b3 o3 n_t c_t k 274 ?_)
   refine za (zQ b3 (o3+k*274) ((h_t.ext hEl).at Nod.zero (by omega)) (zN _) ?_)
   refine za (zad (zH Nod.zero) 74 ?_)
   intro w20 hBw20 hEw20 hzw20 hlw20
   refine zb 1 [(8,(vI k))] (za (zC 74 w19.heap.size 0 74 (vA (zH (t.getD k Nod.zero))) (zH Nod.zero) (zH (t.getD k Nod.zero)) hBw20 (by rw [zN];kernel_rfl) (by first |(simp;done)|(simp;omega)) (zct _) ?_))
   intro w21 hBw21 hCw21
   have hzw21:=hCw21.size
   rw [zv _ _ (by simp)] at hBw21
   refine wEt (zbO (fun k=>k=w16.heap.size) 11 (fun w22 hEw22 hzw22 hT371=> ?_))
   have hX9:Chg (fun k=>k=w16.heap.size) w22 w22:=(Chg.refl (fun k=>k=w16.heap.size) w22)
   refine ze (hw:=hX9) hT371 [(0,43,(vP w5.heap.size 1))] 1 ?_
   have hK12:=(((hQ7.ext hEw20).chg hCw21).ext hEw22)
   refine zx (hw:=hX9) hT371 1 w5.heap.size 1 (fun w' hC=>((hK12.chg hC (fun hs=>by have h:_=_:=hs;omega)).cell rfl)) (ze (hw:=hX9) hT371 [(2,45,(vI k))] 1 (zaq (hw:=hX9) hT371 3 w19.heap.size 0 (fun w' hC=>(((hBw21.ext hEw22).chg hC (fun hs=>by have h:_=_:=hs;omega)).all)) (zN _) (ze (hw:=hX9) hT371 [(4,47,(.slice a_z n_z c_z)),(5,48,(vI k))] 2 ?_)))
   obtain ⟨b4,o4,rfl⟩:=h_z.addr (by omega)
   refine zaD (hw:=hX9) hT371 6 b4 o4 n_z c_z k 1 ?_
   have hX10:=(Ext.own (hEl.trans hEw20) hCw21 (by omega)).trans hEw22
   refine zx (hw:=hX9) hT371 7 b4 (o4+k*1) (fun w' hC=>(((h_z.ext hX10).chg hC (fun k h1 h2 hs=>by have h:_=_:=hs;omega)).celli (by omega))) (zr (hw:=hX9) hT371 8 (vA (unC (ofE t z k))) (zai (Instr.build 77 #[(0,(vA (zH (t.getD k Nod.zero)))),(1,(.int .i64 (gz z k)))]) (fun w' hC=>(zft (t.getD k Nod.zero) (gz z k)).trans (congrArg (fun z:Un=>Result.ok (Value.agg (unC z).toArray) _) (show (⟨(t.getD k Nod.zero),gz z k,false,List.replicate 4 false,rfl⟩:Un)=ofE t z k from rfl)))) (zaD (hw:=hX9) hT371 9 w16.heap.size 0 n_t n_t k 280 ?_))
   have hK13:=(((hR.ext hEw20).chg hCw21).ext hEw22)
   refine zy 10 (zC 77 w16.heap.size (0+k*280) 77 (vA (unC (ofE t z k))) ((zaF n_t (ofE t z) (fun _=>Un.zero) k).flatMap unC) (unC (ofE t z k)) hK13 (by rw [zI];kernel_rfl) (by rw [zaC zI];(try simp only [List.length_cons,List.length_nil,List.length_set]);have:=(show List.length (zaF n_t (ofE t z) (fun _=>Un.zero) k)=n_t from zbh);have hln:=zI (ofE t z k);omega) (za7 _) ?_)
   have hK14:=(((hR.ext hEw20).chg hCw21).ext hEw22)
   intro w23 hBw23 hCw23
   have hzw23:=hCw23.size
   rw [show (zZ ((zaF n_t (ofE t z) (fun _=>Un.zero) k).flatMap unC) (0+k*280) (unC (ofE t z k)):List Value)=(zaF n_t (ofE t z) (fun _=>Un.zero) (k+1)).flatMap unC from (zca zI _ _ _ (by have hq:List.length (zaF n_t (ofE t z) (fun _=>Un.zero) k)=n_t:=zbh;omega)).trans (congrArg (fun z=>List.flatMap unC z) (show ((zaF n_t (ofE t z) (fun _=>Un.zero) k).set k (ofE t z k))=(zaF n_t (ofE t z) (fun _=>Un.zero) (k+1)) from zeg (f:=ofE t z) (by omega)))] at hBw23
   have hmw23:Ms unC 280 w16.heap.size (w16.heap.size+1) w23 (pA w16.heap.size 0) n_t n_t (zaF n_t (ofE t z) (fun _=>Un.zero) (k+1)):=Ms.of_pre (r:= []) (by rw [List.append_nil];exact hBw23) zI (by have hq:List.length (zaF n_t (ofE t z) (fun _=>Un.zero) (k+1))=n_t:=zbh;omega) (by omega) (by simp only [maxLen];omega) (by omega) (by omega)
   refine ⟨.inl (by kernel_rfl), ?_⟩
   refine zB (zi (zc (zg (za (zJ 53 k 1 (k+1) ?_)))))
   refine zb 1 [(38,(vI (k+1)))] (zq (zn ?_))
   have hK15:=((((hQ2.ext hEw20).chg hCw21).ext hEw22).chg hCw23)
   have hK16:=((((hQ4.ext hEw20).chg hCw21).ext hEw22).chg hCw23)
   refine zG (k+1) ?_ ?_
   ·exact ⟨by omega,hBw23,hK15,hK16,(hK12.chg hCw23),(Ext.own hX10 hCw23 (by omega))⟩
   ·first | omega |(dsimp only;omega)
  ·have hkn:k=n_t:=by omega
   rw [hkn,show (zaF n_t (ofE t z) (fun _=>Un.zero) n_t)=(ofT n_t t z) from zer] at hR hmR
   refine wEt (zd (zf (zP (zo (zo (zD (zc (zd ?_))))))))
   refine wsr (za (zV w5.heap.size 0 (hQ7.all) ?_))
   refine za (zt (zfk ((n:Nat):Int) _ hmR (hg0.ext hEl) (hg1.ext hEl) (hg2.ext hEl)) ?_)
   rintro _ w24 ⟨rfl,hEw24⟩
   have hzw24:=hEw24.size
   rw [show zaf ((n:Nat):Int) (ofT n_t t z)=0 from hp6]
   refine zb 1 [(10,(vI 0))] (zz (zb 1 [(56,(vI 0))] (za (zbe 57 0 0 ?_))))
   refine wEt (zf (zl (zc (wsr (za (zV w5.heap.size 0 ((hQ7.ext hEw24).all) ?_))))))
   refine za (zC 38 w1.heap.size 0 38 (vA [(vI n),(.slice (pA w16.heap.size 0) n_t n_t)]) ([(vI 0),(.slice none 0 0)]) ([(vI n),(.slice (pA w16.heap.size 0) n_t n_t)]) (hQ4.ext hEw24) (by kernel_rfl) (by first | decide |(simp;done)|(simp;omega)) (by simp [Value.oneCell']) ?_)
   intro w25 hBw25 hCw25
   have hzw25:=hCw25.size
   rw [zv _ _ (by kernel_rfl)] at hBw25
   exact zb 1 [(5,(vI 0))] (zF (zaQ (show zO Tryz.prog 61 _ _ (.cell 4 38) (vA [(vI n),(.slice (pA w16.heap.size 0) n_t n_t)]) from ⟨⟨w1.heap.size,0,none⟩,(by kernel_rfl),zE (T:=38) (vs:= [(vI n),(.slice (pA w16.heap.size 0) n_t n_t)]) (hBw25).all (by kernel_rfl)⟩) (show zO Tryz.prog 61 _ _ (.tmp 5) (vI 0) by (show _=_;kernel_rfl)) (⟨_,rfl,(((hmR.ext hEw24).chg hCw25)).now.mono (by omega) (Nat.le_refl _),(Ext.own (hEl.trans hEw24) hCw25 (by omega))⟩)))
end Go.Proofs.YtkmhgepdhilllaaGreatDoor
namespace Go.Proofs.YtkmhgepdhilllaaGreatDoor
open Go Go.RowKit Go.Cs
set_option maxRecDepth 100000
theorem zh6 {lo_l hi_l:Nat} {a_l:Option Addr} {n_l c_l:Nat} {l:List Rec} {lo_s hi_s:Nat} {a_s:Option Addr} {n_s c_s:Nat} {s:List Nat} (w:World) (h_l:Ms zL 35 lo_l hi_l w a_l n_l c_l l) (h_s:Es (nv .i64) lo_s hi_s w a_s n_s c_s s) (hp0:n_l≤4096) (hp1:n_s≤100000):
  Calls Tryz.prog 11 #[(.slice a_l n_l c_l),(.slice a_s n_s c_s)] w (Ret fun r w'=>∃(a0a:Option Addr) (a0c:Nat) (a0b:Nat) (a0d:Option Addr) (a0e:Nat) (a0p:Nat) (a0q:Nat) (a0r:Nat) (a0s:Nat),r=(vA [(.slice a0a n_l a0c),(.slice (pA a0b 0) n_l n_l),(.slice a0d n_s a0e)])∧(w.heap.size≤a0p∧a0q≤w'.heap.size∧w.heap.size≤a0r∧a0s≤w'.heap.size∧w.heap.size≤a0b∧¬(a0p≤a0b∧a0b<a0q)∧¬(a0r≤a0b∧a0b<a0s)∧(a0q≤a0r∨a0s≤a0p))∧OwM zL 35 a0p a0q w' a0a n_l a0c 68 l∧Blk w' a0b ((fls n_l).map Value.bool) 4∧Cs.Own (nv .i64) a0r a0s w' a0d n_s a0e 3 s∧Ext w w'):=by
 refine zw (n:=13) (σ:= [(0,(.slice a_l n_l c_l)),(1,(.slice a_s n_s c_s))]) Tryz.func11 rfl ?_
 replace h_l:=h_l.now;have hle_l:=h_l.le
 replace h_s:=h_s.now;have hle_s:=h_s.le
 have hll:=h_l.len_eq;have hls:=h_s.len_eq
 have hle:=h_l.le;have hle2:=h_s.le
 refine wsr (za (zad ([(.slice none 0 0),(.slice none 0 0),(.slice none 0 0)]) 34 ?_))
 intro w1 hBw1 hEw1 hzw1 hlw1
 refine wEt (zd (zY 9 (fun w2 hEw2 hzw2 hT14=> ?_)))
 refine ze hT14 [(0,5,(.slice a_l n_l c_l)),(2,7,(.slice a_l n_l c_l)),(3,8,(vI n_l)),(5,10,(.slice a_s n_s c_s))] 4 (zbB 1 4 ?_ ?_)
 ·refine zbR (some 6) 28 28 68 56 (vA (zL Rec.zero)) (OwM.nil zL 35 w2.heap.size w2.heap.size w2 68 zab) ((h_l.ext hEw1).ext hEw2) zbi ?_ (by rw [Value.cells,List.size_toArray,zab]) (by decide)
  intro a1 c1 w3 hOw3 hCw3
  have hzw3:=hCw3.size
  have hSw3:=hOw3.ms;have hlea1:=hSw3.le
  have hX1:Ext w2 w3:=(Ext.ownS (Ext.refl _) hCw3 (fun k hs hk=>by exact (zav hs).elim))
  refine ⟨.inr hX1, ?_⟩
  refine zbB 4 6 ?_ ?_
  ·refine zb8 (some 9) 32 4 1 1 n_l n_l .i64 .i64 vF (by omega) (by omega) (by omega) ?_
   rw [zdy _ rfl]
   intro w4 hBw4 hEw4
   have hzw4:=hEw4.size;have hlw4:=hBw4.lt
   have hSw4:Es Value.bool w3.heap.size (w3.heap.size+1) w4 (pA w3.heap.size 0) n_l n_l (List.replicate n_l false):=Es.of_blk hBw4 (by rw [List.map_replicate];first | done | rfl) (by simp) (Nat.le_refl _) (by simp only [maxLen];omega) (Nat.le_refl _) (Nat.lt_succ_self _)
   have hX2:Ext w2 w4:=((Ext.ownS (Ext.refl _) hCw3 (fun k hs hk=>by exact (zav hs).elim)).trans hEw4)
   refine ⟨.inr hX2, ?_⟩
   have hK1:=(((((h_s.ext hEw1).ext hEw2)).chg hCw3 (by intros;exact zav)).ext hEw4)
   refine zy 6 (zbr (some 11) 29 29 3 8 (vI 0) (Cs.Own.nil (f:=(nv .i64)) w4.heap.size w4.heap.size w4 3) hK1 (fun _=>rfl) ?_)
   intro a2 c2 w5 hOw5 hCw5
   have hzw5:=hCw5.size
   have hSw5:=hOw5.es
   have hX3:Ext w2 w5:=(Ext.ownS ((Ext.ownS (Ext.refl _) hCw3 (fun k hs hk=>by exact (zav hs).elim)).trans hEw4) hCw5 (fun k hs hk=>by exact (zav hs).elim))
   refine ⟨.inr hX3, ?_⟩
   refine ze (hw:=hX3) hT14 [(7,12,(vA [(.slice a1 (0+n_l) c1),(.slice (pA w3.heap.size 0) n_l n_l),(.slice a2 (0+n_s) c2)]))] 1 ?_
   have hK2:=((((((hBw1.ext hEw2)).chg hCw3 (by intros;exact zav)).ext hEw4)).chg hCw5 (by intros;exact zav))
   refine zy 8 (zC 34 w.heap.size 0 34 (vA [(.slice a1 (0+n_l) c1),(.slice (pA w3.heap.size 0) n_l n_l),(.slice a2 (0+n_s) c2)]) ([(.slice none 0 0),(.slice none 0 0),(.slice none 0 0)]) ([(.slice a1 (0+n_l) c1),(.slice (pA w3.heap.size 0) n_l n_l),(.slice a2 (0+n_s) c2)]) hK2 (by kernel_rfl) (by first | decide |(simp;done)|(simp;omega)) (by simp [Value.oneCell']) ?_)
   have hK3:=((((((hBw1.ext hEw2)).chg hCw3 (by intros;exact zav)).ext hEw4)).chg hCw5 (by intros;exact zav))
   intro w6 hBw6 hCw6
   have hzw6:=hCw6.size
   rw [zv _ _ (by kernel_rfl)] at hBw6
   refine ⟨.inl (by kernel_rfl), ?_⟩
   refine zB (zc (zaH (zaR (show zO Tryz.prog 13 _ _ (.cell 4 34) (vA [(.slice a1 (0+n_l) c1),(.slice (pA w3.heap.size 0) n_l n_l),(.slice a2 (0+n_s) c2)]) from ⟨⟨w.heap.size,0,none⟩,(by kernel_rfl),zE (T:=34) (vs:= [(.slice a1 (0+n_l) c1),(.slice (pA w3.heap.size 0) n_l n_l),(.slice a2 (0+n_s) c2)]) (hBw6).all (by kernel_rfl)⟩) ?_)))
   have hK4:=((((hOw3.ext hEw4)).chg hCw5 (by intros;exact zav)).chg hCw6)
   have hz1:=hK4;have hz2:=(((hBw4).chg hCw5 (by intros;exact zav)).chg hCw6);have hz3:=(hOw5.chg hCw6)
   rw [List.nil_append,Nat.zero_add] at hz1 hz3
   rw [show List.replicate n_l (Value.bool false)=(fls n_l).map Value.bool from by unfold fls;rw [List.map_replicate]] at hz2
   rw [Nat.zero_add,Nat.zero_add]
   have hX4:Ext w w6:=(Ext.own (Ext.ownS ((Ext.ownS (hEw1.trans hEw2) hCw3 (fun k hs hk=>by exact (zav hs).elim)).trans hEw4) hCw5 (fun k hs hk=>by exact (zav hs).elim)) hCw6 (by omega))
   exact ⟨_,_,_,_,_,w2.heap.size,w3.heap.size,w4.heap.size,w5.heap.size,rfl,by omega,hz1,hz2,hz3,hX4⟩
  ·have hK5:=((((h_s.ext hEw1).ext hEw2)).chg hCw3 (by intros;exact zav))
   refine zbr (some 11) 29 29 3 8 (vI 0) (Cs.Own.nil (f:=(nv .i64)) w3.heap.size w3.heap.size w3 3) hK5 (fun _=>rfl) ?_
   intro a3 c3 w7 hOw7 hCw7
   have hzw7:=hCw7.size
   have hSw7:=hOw7.es
   have hX5:Ext w2 w7:=(Ext.ownS (Ext.ownS (Ext.refl _) hCw3 (fun k hs hk=>by exact (zav hs).elim)) hCw7 (fun k hs hk=>by exact (zav hs).elim))
   refine ⟨.inr hX5, ?_⟩
   refine zy 4 (zb8 (some 9) 32 4 1 1 n_l n_l .i64 .i64 vF (by omega) (by omega) (by omega) ?_)
   rw [zdy _ rfl]
   intro w8 hBw8 hEw8
   have hzw8:=hEw8.size;have hlw8:=hBw8.lt
   have hSw8:Es Value.bool w7.heap.size (w7.heap.size+1) w8 (pA w7.heap.size 0) n_l n_l (List.replicate n_l false):=Es.of_blk hBw8 (by rw [List.map_replicate];first | done | rfl) (by simp) (Nat.le_refl _) (by simp only [maxLen];omega) (Nat.le_refl _) (Nat.lt_succ_self _)
   have hX6:Ext w2 w8:=((Ext.ownS (Ext.ownS (Ext.refl _) hCw3 (fun k hs hk=>by exact (zav hs).elim)) hCw7 (fun k hs hk=>by exact (zav hs).elim)).trans hEw8)
   refine ⟨.inr hX6, ?_⟩
   refine ze (hw:=hX6) hT14 [(7,12,(vA [(.slice a1 (0+n_l) c1),(.slice (pA w7.heap.size 0) n_l n_l),(.slice a3 (0+n_s) c3)]))] 1 ?_
   have hK6:=((((((hBw1.ext hEw2)).chg hCw3 (by intros;exact zav))).chg hCw7 (by intros;exact zav)).ext hEw8)
   refine zy 8 (zC 34 w.heap.size 0 34 (vA [(.slice a1 (0+n_l) c1),(.slice (pA w7.heap.size 0) n_l n_l),(.slice a3 (0+n_s) c3)]) ([(.slice none 0 0),(.slice none 0 0),(.slice none 0 0)]) ([(.slice a1 (0+n_l) c1),(.slice (pA w7.heap.size 0) n_l n_l),(.slice a3 (0+n_s) c3)]) hK6 (by kernel_rfl) (by first | decide |(simp;done)|(simp;omega)) (by simp [Value.oneCell']) ?_)
   have hK7:=((((((hBw1.ext hEw2)).chg hCw3 (by intros;exact zav))).chg hCw7 (by intros;exact zav)).ext hEw8)
   intro w9 hBw9 hCw9
   have hzw9:=hCw9.size
   rw [zv _ _ (by kernel_rfl)] at hBw9
   refine ⟨.inl (by kernel_rfl), ?_⟩
   refine zB (zc (zaH (zaR (show zO Tryz.prog 13 _ _ (.cell 4 34) (vA [(.slice a1 (0+n_l) c1),(.slice (pA w7.heap.size 0) n_l n_l),(.slice a3 (0+n_s) c3)]) from ⟨⟨w.heap.size,0,none⟩,(by kernel_rfl),zE (T:=34) (vs:= [(.slice a1 (0+n_l) c1),(.slice (pA w7.heap.size 0) n_l n_l),(.slice a3 (0+n_s) c3)]) (hBw9).all (by kernel_rfl)⟩) ?_)))
   have hK8:=((((hOw3).chg hCw7 (by intros;exact zav)).ext hEw8).chg hCw9)
   have hz1:=hK8;have hz2:=(hBw8.chg hCw9);have hz3:=((hOw7.ext hEw8).chg hCw9)
   rw [List.nil_append,Nat.zero_add] at hz1 hz3
   rw [show List.replicate n_l (Value.bool false)=(fls n_l).map Value.bool from by unfold fls;rw [List.map_replicate]] at hz2
   rw [Nat.zero_add,Nat.zero_add]
   have hX7:Ext w w9:=(Ext.own ((Ext.ownS (Ext.ownS (hEw1.trans hEw2) hCw3 (fun k hs hk=>by exact (zav hs).elim)) hCw7 (fun k hs hk=>by exact (zav hs).elim)).trans hEw8) hCw9 (by omega))
   exact ⟨_,_,_,_,_,w2.heap.size,w3.heap.size,w3.heap.size,w7.heap.size,rfl,by omega,hz1,hz2,hz3,hX7⟩
 ·refine zb8 (some 9) 32 4 1 1 n_l n_l .i64 .i64 vF (by omega) (by omega) (by omega) ?_
  rw [zdy _ rfl]
  intro w10 hBw10 hEw10
  have hzw10:=hEw10.size;have hlw10:=hBw10.lt
  have hSw10:Es Value.bool w2.heap.size (w2.heap.size+1) w10 (pA w2.heap.size 0) n_l n_l (List.replicate n_l false):=Es.of_blk hBw10 (by rw [List.map_replicate];first | done | rfl) (by simp) (Nat.le_refl _) (by simp only [maxLen];omega) (Nat.le_refl _) (Nat.lt_succ_self _)
  refine ⟨.inr hEw10, ?_⟩
  have hK9:=(((h_l.ext hEw1).ext hEw2).ext hEw10)
  refine zy 1 (zbR (some 6) 28 28 68 56 (vA (zL Rec.zero)) (OwM.nil zL 35 w10.heap.size w10.heap.size w10 68 zab) hK9 zbi ?_ (by rw [Value.cells,List.size_toArray,zab]) (by decide))
  intro a4 c4 w11 hOw11 hCw11
  have hzw11:=hCw11.size
  have hSw11:=hOw11.ms;have hlea4:=hSw11.le
  have hX8:Ext w2 w11:=(Ext.ownS hEw10 hCw11 (fun k hs hk=>by exact (zav hs).elim))
  refine ⟨.inr hX8, ?_⟩
  have hK10:=(((((h_s.ext hEw1).ext hEw2).ext hEw10)).chg hCw11 (by intros;exact zav))
  refine zy 6 (zbr (some 11) 29 29 3 8 (vI 0) (Cs.Own.nil (f:=(nv .i64)) w11.heap.size w11.heap.size w11 3) hK10 (fun _=>rfl) ?_)
  intro a5 c5 w12 hOw12 hCw12
  have hzw12:=hCw12.size
  have hSw12:=hOw12.es
  have hX9:Ext w2 w12:=(Ext.ownS (Ext.ownS hEw10 hCw11 (fun k hs hk=>by exact (zav hs).elim)) hCw12 (fun k hs hk=>by exact (zav hs).elim))
  refine ⟨.inr hX9, ?_⟩
  refine ze (hw:=hX9) hT14 [(7,12,(vA [(.slice a4 (0+n_l) c4),(.slice (pA w2.heap.size 0) n_l n_l),(.slice a5 (0+n_s) c5)]))] 1 ?_
  have hK11:=((((((hBw1.ext hEw2).ext hEw10)).chg hCw11 (by intros;exact zav))).chg hCw12 (by intros;exact zav))
  refine zy 8 (zC 34 w.heap.size 0 34 (vA [(.slice a4 (0+n_l) c4),(.slice (pA w2.heap.size 0) n_l n_l),(.slice a5 (0+n_s) c5)]) ([(.slice none 0 0),(.slice none 0 0),(.slice none 0 0)]) ([(.slice a4 (0+n_l) c4),(.slice (pA w2.heap.size 0) n_l n_l),(.slice a5 (0+n_s) c5)]) hK11 (by kernel_rfl) (by first | decide |(simp;done)|(simp;omega)) (by simp [Value.oneCell']) ?_)
  have hK12:=((((((hBw1.ext hEw2).ext hEw10)).chg hCw11 (by intros;exact zav))).chg hCw12 (by intros;exact zav))
  intro w13 hBw13 hCw13
  have hzw13:=hCw13.size
  rw [zv _ _ (by kernel_rfl)] at hBw13
  refine ⟨.inl (by kernel_rfl), ?_⟩
  refine zB (zc (zaH (zaR (show zO Tryz.prog 13 _ _ (.cell 4 34) (vA [(.slice a4 (0+n_l) c4),(.slice (pA w2.heap.size 0) n_l n_l),(.slice a5 (0+n_s) c5)]) from ⟨⟨w.heap.size,0,none⟩,(by kernel_rfl),zE (T:=34) (vs:= [(.slice a4 (0+n_l) c4),(.slice (pA w2.heap.size 0) n_l n_l),(.slice a5 (0+n_s) c5)]) (hBw13).all (by kernel_rfl)⟩) ?_)))
  have hK13:=(((((hBw10).chg hCw11 (by intros;exact zav))).chg hCw12 (by intros;exact zav)).chg hCw13)
  have hz1:=(((hOw11).chg hCw12 (by intros;exact zav)).chg hCw13);have hz2:=hK13;have hz3:=(hOw12.chg hCw13)
  rw [List.nil_append,Nat.zero_add] at hz1 hz3
  rw [show List.replicate n_l (Value.bool false)=(fls n_l).map Value.bool from by unfold fls;rw [List.map_replicate]] at hz2
  rw [Nat.zero_add,Nat.zero_add]
  have hX10:Ext w w13:=(Ext.own (Ext.ownS (Ext.ownS ((hEw1.trans hEw2).trans hEw10) hCw11 (fun k hs hk=>by exact (zav hs).elim)) hCw12 (fun k hs hk=>by exact (zav hs).elim)) hCw13 (by omega))
  exact ⟨_,_,_,_,_,w10.heap.size,w11.heap.size,w11.heap.size,w12.heap.size,rfl,by omega,hz1,hz2,hz3,hX10⟩
theorem zus {lo_l hi_l:Nat} {a_l:Option Addr} {n_l c_l:Nat} {l:List Rec} {lo_c hi_c:Nat} {a_c:Option Addr} {n_c c_c:Nat} {c:List Bool} {lo_s hi_s:Nat} {a_s:Option Addr} {n_s c_s:Nat} {s:List Nat} (b:Nat) (w:World) (h_l:Ms zL 35 lo_l hi_l w a_l n_l c_l l) (h_c:Es Value.bool lo_c hi_c w a_c n_c c_c c) (h_s:Es (nv .i64) lo_s hi_s w a_s n_s c_s s) (hp0:b<n_l) (hp1:n_c=n_l) (hp2:(l.getD b Rec.zero).st≤2):
  Calls Tryz.prog 18 #[(vA [(.slice a_l n_l c_l),(.slice a_c n_c c_c),(.slice a_s n_s c_s)]),(vI b)] w (Ret fun r w'=>r=(vI (zb2 l c b))∧Ext w w'):=by
 refine zw (n:=24) (σ:= [(0,(vA [(.slice a_l n_l c_l),(.slice a_c n_c c_c),(.slice a_s n_s c_s)])),(1,(vI b))]) Tryz.func18 rfl ?_
 replace h_l:=h_l.now;have hle_l:=h_l.le
 replace h_c:=h_c.now;have hle_c:=h_c.le
 replace h_s:=h_s.now;have hle_s:=h_s.le
 have hll:=h_l.len_eq;have hlc:=h_c.len_eq
 have hle:=h_l.le;have hle2:=h_c.le
 have hst:=(l.getD b Rec.zero).hst
 refine wsr (za (zS (Instr.box 34 (vA [(.slice a_l n_l c_l),(.slice a_c n_c c_c),(.slice a_s n_s c_s)])) (vP w.heap.size 0) ([(.slice a_l n_l c_l),(.slice a_c n_c c_c),(.slice a_s n_s c_s)]) 34 ?_))
 intro w1 hBw1 hEw1 hzw1 hlw1
 refine zb 1 [(4,(vI 0))] (zz (zb 1 [(6,(vP w.heap.size 0))] (za (zm w.heap.size 0 (hBw1.cell rfl) ?_))))
 refine zb 1 [(8,(vI b))] ?_
 obtain ⟨b1,o1,rfl⟩:=h_l.addr (by omega) (by decide)
 refine za (zan b1 o1 n_l c_l b 35 ?_)
 refine zb 1 [(10,(vP b1 (o1+b*35)))] (za (zm b1 (o1+b*35) ((h_l.ext hEw1).cell (j:=0) Rec.zero (by omega) rfl) ?_))
 refine za (zdq 12 ((l.getD b Rec.zero).st) ?_)
 refine zb 1 [(5,(vI ((l.getD b Rec.zero).st)))] (zM (zb 1 [(13,(vI ((l.getD b Rec.zero).st)))] (za (zaI 14 ((l.getD b Rec.zero).st) 0 (fun hc14=> ?_) (fun hc14=> ?_)))))
 ·refine wEt (zk (wsr (zb 1 [(4,(vI 0))] (zF (zj ?_)))))
  exact zh (vI 0) (⟨by unfold zb2;rw [if_pos hc14],hEw1⟩)
 ·refine wEt (zf (zl (zc (zd (wsr (zb 1 [(15,(vP w.heap.size 1))] (za (zm w.heap.size 1 (hBw1.cell rfl) ?_))))))))
  refine zb 1 [(17,(vI b))] ?_
  obtain ⟨b2,o2,rfl⟩:=h_c.addr (by omega)
  refine za (zan b2 o2 n_c c_c b 1 ?_)
  rcases Bool.eq_false_or_eq_true (c.getD b false) with hb19 | hb19
  ·refine za (zm b2 (o2+b*1) (Eq.trans ((h_c.ext hEw1).cellb (by omega)) (congrArg (fun z=>some (Value.bool z)) hb19)) ?_)
   refine wEt (zk (wsr (zb 1 [(20,(vI ((l.getD b Rec.zero).st)))] (za (zb5 21 ((l.getD b Rec.zero).st) 1 ((l.getD b Rec.zero).st-1) ?_)))))
   exact zb 1 [(4,(vI ((l.getD b Rec.zero).st-1)))] (zF (zj (zh (vI ((l.getD b Rec.zero).st-1)) (⟨by unfold zb2;rw [if_neg hc14,if_pos (show c.getD b false=true from hb19)],hEw1⟩))))
  ·refine za (zm b2 (o2+b*1) (Eq.trans ((h_c.ext hEw1).cellb (by omega)) (congrArg (fun z=>some (Value.bool z)) hb19)) ?_)
   refine wEt (zf (zl (zc (wsr (zb 1 [(22,(vI ((l.getD b Rec.zero).st)))] (za (zb5 23 2 ((l.getD b Rec.zero).st) (2-((l.getD b Rec.zero).st)) ?_)))))))
   exact zb 1 [(4,(vI (2-((l.getD b Rec.zero).st))))] (zF (zh (vI (2-((l.getD b Rec.zero).st))) (⟨by unfold zb2;rw [if_neg hc14,if_neg (by rw [show c.getD b false=false from hb19];decide)],hEw1⟩)))
theorem zsK {lo_l hi_l:Nat} {a_l:Option Addr} {n_l c_l:Nat} {l:List Rec} {lo_c hi_c:Nat} {a_c:Option Addr} {n_c c_c:Nat} {c:List Bool} {lo_s hi_s:Nat} {a_s:Option Addr} {n_s c_s:Nat} {s:List Nat} (b:Nat) (x:Non) (y:Dig) (w:World) (h_l:Ms zL 35 lo_l hi_l w a_l n_l c_l l) (h_c:Es Value.bool lo_c hi_c w a_c n_c c_c c) (h_s:Es (nv .i64) lo_s hi_s w a_s n_s c_s s) (hp0:b<n_l) (hp1:n_c=n_l) (hp2:(l.getD b Rec.zero).st≤2) (hp3:n_l≤4096) (hp4:n_s≤100000):
  Calls Tryz.prog 19 #[(vA [(.slice a_l n_l c_l),(.slice a_c n_c c_c),(.slice a_s n_s c_s)]),(vI b),(vA (zbb x)),(vA (zK y))] w (Ret fun r w'=>∃a0 ca0 a1 ca1 a2 ca2,r=(vA [(.slice a0 n_l ca0),(.slice a1 n_c ca1),(.slice a2 n_s ca2)])∧Ms zL 35 w.heap.size w'.heap.size w' a0 n_l ca0 (l.set b (zaU l c b x y))∧Es Value.bool w.heap.size w'.heap.size w' a1 n_c ca1 (c.set b true)∧Es (nv .i64) w.heap.size w'.heap.size w' a2 n_s ca2 s∧Ext w w'):=by
 refine zw (n:=37) (σ:= [(0,(vA [(.slice a_l n_l c_l),(.slice a_c n_c c_c),(.slice a_s n_s c_s)])),(1,(vI b)),(2,(vA (zbb x))),(3,(vA (zK y)))]) Tryz.func19 rfl ?_
 replace h_l:=h_l.now;have hle_l:=h_l.le
 replace h_c:=h_c.now;have hle_c:=h_c.le
 replace h_s:=h_s.now;have hle_s:=h_s.le
 have hll:=h_l.len_eq;have hlc:=h_c.len_eq;have hls:=h_s.len_eq
 have hle:=h_l.le;have hle2:=h_c.le;have hle3:=h_s.le
 have htw:=zsI (c:=c) hp2
 refine wsr (za (zS (Instr.box 34 (vA [(.slice a_l n_l c_l),(.slice a_c n_c c_c),(.slice a_s n_s c_s)])) (vP w.heap.size 0) ([(.slice a_l n_l c_l),(.slice a_c n_c c_c),(.slice a_s n_s c_s)]) 34 ?_))
 intro w1 hBw1 hEw1 hzw1 hlw1
 refine za (zS (Instr.box 56 (vA (zbb x))) (vP w1.heap.size 0) (zbb x) 56 ?_)
 intro w2 hBw2 hEw2 hzw2 hlw2
 refine za (zS (Instr.box 59 (vA (zK y))) (vP w2.heap.size 0) (zK y) 59 ?_)
 intro w3 hBw3 hEw3 hzw3 hlw3
 refine za (zad ([(.slice none 0 0),(.slice none 0 0),(.slice none 0 0)]) 34 ?_)
 intro w4 hBw4 hEw4 hzw4 hlw4
 refine zz (zb 1 [(10,(vP w.heap.size 0))] ?_)
 have hK1:=(((hBw1.ext hEw2).ext hEw3).ext hEw4)
 refine za (zm w.heap.size 0 (hK1.cell rfl) ?_)
 refine zb 1 [(12,(vP w.heap.size 2))] (za (zm w.heap.size 2 (hK1.cell rfl) ?_))
 have hX1:=((hEw1.trans hEw2).trans hEw3).trans hEw4
 refine za (zt (zh6 _ (h_l.ext hX1) (h_s.ext hX1) (by first | omega | decide) (by first | omega | decide)) ?_)
 rintro _ w5 ⟨a1a,a1c,a1b,a1d,a1e,a1p,a1q,a1r,a1s,rfl,hFz1_0,hFz1_1,hFz1_2,hFz1_3,hEw5⟩
 have hzw5:=hEw5.size
 have hma1:=hFz1_1.ms;have hlea1:=hma1.le;have hla1:=hFz1_2.lt;have hna1:=hFz1_3.es;have hle2a1:=hna1.le
 have hba1:Es Value.bool a1b (a1b+1) w5 (pA a1b 0) n_l n_l (fls n_l):=Es.of_blk hFz1_2 rfl (by simp [fls]) (Nat.le_refl _) (by simp only [maxLen];omega) (Nat.le_refl _) (Nat.lt_succ_self _)
 refine zal ([(.slice a1a n_l a1c),(.slice (pA a1b 0) n_l n_l),(.slice a1d n_s a1e)]) 34 rfl (by simp [Value.oneCell']) ?_
 intro w6 hBw6 hEw6 hzw6 hlw6
 refine zz (zb 1 [(15,(vP w5.heap.size 1))] (za (zm w5.heap.size 1 (hBw6.cell rfl) ?_)))
 refine zb 1 [(17,(vP w.heap.size 1))] (za (zm w.heap.size 1 (((hK1.ext hEw5).ext hEw6).cell rfl) ?_))
 have hK2:=(((h_c.ext hX1).ext hEw5).ext hEw6)
 refine za (ziy (a:=(pA a1b 0)) (dl:=n_l) (dc:=n_l) (some 19) 32 32 3 4 a1b 0 (hFz1_2.ext hEw6) (fun _=>rfl) (by rw [List.length_map];simp [fls];omega) hK2 (fun _=>rfl) ?_)
 intro w7 hBw7 hCw7
 have hzw7:=hCw7.size
 rw [show zZ ((fls n_l).map Value.bool) 0 ((c.take (min n_c n_l)).map Value.bool)=c.map Value.bool from by rw [show min n_c n_l=n_c from by omega,List.take_of_length_le (by omega),zv _ _ (by rw [List.length_map,List.length_map];simp [fls];omega)]] at hBw7
 refine wEt (zd (zY 13 (fun w8 hEw8 hzw8 hT199=> ?_)))
 refine ze hT199 [(0,20,(vP w5.heap.size 0))] 1 (zx hT199 1 w5.heap.size 0 (fun w' hC=>((((hBw6.chg hCw7).ext hEw8).ext hC).cell rfl)) (ze hT199 [(2,22,(vI b))] 1 ?_))
 have hK3:=((((hK1.ext hEw5).ext hEw6).chg hCw7).ext hEw8)
 refine zbj hT199 3 w.heap.size 0 (fun w' hC=>((hK3.ext hC).all)) (ze hT199 [(4,24,(vI b))] 1 ?_)
 have hK4:=((((((hBw2.ext hEw3).ext hEw4).ext hEw5).ext hEw6).chg hCw7).ext hEw8)
 refine zaq hT199 8 w1.heap.size 0 (fun w' hC=>((hK4.ext hC).all)) (zfN _) ?_
 have hK5:=(((((hBw3.ext hEw4).ext hEw5).ext hEw6).chg hCw7).ext hEw8)
 refine zaq hT199 9 w2.heap.size 0 (fun w' hC=>((hK5.ext hC).all)) (zar _) ?_
 have hK6:=(((((h_l.ext hX1).ext hEw5).ext hEw6).chg hCw7).ext hEw8)
 have hK7:=(((((h_s.ext hX1).ext hEw5).ext hEw6).chg hCw7).ext hEw8)
 refine zy 5 (zt (zus b _ hK6 ((hK2.chg hCw7).ext hEw8) hK7 (by omega) (by omega) (by assumption)) ?_)
 rintro _ w9 ⟨rfl,hEw9⟩
 have hzw9:=hEw9.size
 refine ⟨.inr hEw9, ?_⟩
 refine zr (hw:=hEw9) hT199 6 (vI (zb2 l c b+1)) (zac .i64 (IntKind.i64.wrap (((zb2 l c b:Nat):Int)+((1:Nat):Int))) (zao)) (zr (hw:=hEw9) hT199 7 (vB (zb2 l c b+1)) (zac .u8 (IntKind.u8.wrap ((zb2 l c b+1:Nat):Int)) (zbF rfl rfl (by show _<2^8;omega))) (zr (hw:=hEw9) hT199 10 (vA (zL (zaU l c b x y))) (zai (Instr.build 68 #[(0,(vB (zb2 l c b+1))),(1,(vA (zbb x))),(2,(vA (zK y)))]) (fun w' hC=>(zeP (zb2 l c b+1) x y (by omega)).trans (congrArg (fun z:Rec=>Result.ok (Value.agg (zL z).toArray) _) (show (⟨zb2 l c b+1,x,y,by omega⟩:Rec)=zaU l c b x y from rfl)))) ?_))
 have hK8:=((((hFz1_1.ext hEw6).chg hCw7).ext hEw8).ext hEw9)
 have hqb1:=hK8.ms.len_eq
 obtain ⟨b1,r1,rfl,hBb1,hrb1,hlob1,hhib1,hcpb1,hmxb1⟩:=hK8.row_of (by omega)
 have hlb1:=hBb1.lt
 refine zaD (hw:=hEw9) hT199 11 b1 0 n_l a1c b 35 (zy 12 (zC 68 b1 (0+b*35) 68 (vA (zL (zaU l c b x y))) ((l).flatMap zL++r1) (zL (zaU l c b x y)) hBb1 (by rw [zab];kernel_rfl) (by (try simp only [List.length_append,List.length_cons,List.length_nil,List.length_set]);(try rw [zaC zab]);(try simp only [List.length_set]);have:=hqb1;(try rw [zab]);omega) (zbi _) ?_))
 intro w10 hBw10 hCw10
 have hzw10:=hCw10.size
 rw [show (zZ ((l).flatMap zL++r1) (0+b*35) (zL (zaU l c b x y)):List Value)=(l.set b (zaU l c b x y)).flatMap zL++r1 from (by have hz:=zcc zab Rec.zero (zaU l c b x y) l b 0 (zL (zaU l c b x y)) r1 (by (try simp only [List.length_set]);omega) (zv _ _ (by rw [zab,zab])) (by (try simp only [List.length_cons,List.length_nil]);(try rw [zab]);omega);rw [show 0+b*35=b*35+0 from by omega];exact hz)] at hBw10
 have hmw10:Ms zL 35 a1p a1q w10 (pA b1 0) n_l a1c (l.set b (zaU l c b x y)):=Ms.of_pre (r:=r1) (by exact hBw10) zab (by (try simp only [List.length_set]);omega) (by omega) (by simp only [maxLen] at*;omega) (by omega) (by omega)
 refine ⟨.inl (by kernel_rfl), ?_⟩
 refine zB (zc (wsr (zb 1 [(32,(vP w5.heap.size 1))] ?_)))
 have hK9:=((((hBw6.chg hCw7).ext hEw8).ext hEw9).chg hCw10)
 refine za (zm w5.heap.size 1 (hK9.cell rfl) ?_)
 refine zb 1 [(34,(vI b))] (za (zan a1b 0 n_l n_l b 1 ?_))
 have hK10:=(((hBw7.ext hEw8).ext hEw9).chg hCw10)
 refine za (zah 4 a1b (0+b*1) 4 vT (c.map Value.bool) hK10 (by rw [List.length_map];omega) ?_)
 have hK11:=(((hBw7.ext hEw8).ext hEw9).chg hCw10)
 intro w11 hBw11 hCw11
 have hzw11:=hCw11.size
 rw [show ((c.map Value.bool).set (0+b*1) vT:List Value)=(c.set b true).map Value.bool from by rw [Nat.zero_add,Nat.mul_one,List.map_set]] at hBw11
 refine zz (za (zV w5.heap.size 0 ((hK9.chg hCw11).all) ?_))
 have hK12:=(((((((hBw4.ext hEw5).ext hEw6).chg hCw7).ext hEw8).ext hEw9).chg hCw10).chg hCw11)
 refine za (zC 34 w3.heap.size 0 34 (vA [(.slice (pA b1 0) n_l a1c),(.slice (pA a1b 0) n_l n_l),(.slice a1d n_s a1e)]) ([(.slice none 0 0),(.slice none 0 0),(.slice none 0 0)]) ([(.slice (pA b1 0) n_l a1c),(.slice (pA a1b 0) n_l n_l),(.slice a1d n_s a1e)]) hK12 (by kernel_rfl) (by first | decide |(simp;done)|(simp;omega)) (by simp [Value.oneCell']) ?_)
 have hK13:=(((((((hBw4.ext hEw5).ext hEw6).chg hCw7).ext hEw8).ext hEw9).chg hCw10).chg hCw11)
 intro w12 hBw12 hCw12
 have hzw12:=hCw12.size
 rw [zv _ _ (by kernel_rfl)] at hBw12
 refine zF (zaR (show zO Tryz.prog 37 _ _ (.cell 8 34) (vA [(.slice (pA b1 0) n_l a1c),(.slice (pA a1b 0) n_l n_l),(.slice a1d n_s a1e)]) from ⟨⟨w3.heap.size,0,none⟩,(by kernel_rfl),zE (T:=34) (vs:= [(.slice (pA b1 0) n_l a1c),(.slice (pA a1b 0) n_l n_l),(.slice a1d n_s a1e)]) (hBw12).all (by kernel_rfl)⟩) ?_)
 have hK14:=(((((((hna1.ext hEw6).chg hCw7).ext hEw8).ext hEw9).chg hCw10).chg hCw11).chg hCw12)
 have hz1:=((hBw10.chg hCw11).chg hCw12);have hz2:=(hBw11.chg hCw12);have hz3:=hK14
 have hX2:Ext w w12:=(Ext.own (Ext.own (Ext.own (((Ext.own ((hX1.trans hEw5).trans hEw6) hCw7 (by omega)).trans hEw8).trans hEw9) hCw10 (by omega)) hCw11 (by omega)) hCw12 (by omega))
 exact ⟨_,_,_,_,_,_,by rw [show n_l=n_c from by omega],(Ms.of_pre hz1 zab (by rw [List.length_set];omega) (by omega) (by simp only [maxLen] at*;omega) (by omega) (by omega)).now.mono (by omega) (Nat.le_refl _),(Es.of_blk hz2 rfl (by rw [List.length_set];omega) (Nat.le_refl _) (by simp only [maxLen];omega) (Nat.le_refl _) (Nat.lt_succ_self _)).now.mono (by omega) (Nat.le_refl _),hz3.now.mono (by omega) (Nat.le_refl _),hX2⟩
theorem zif {lo_l hi_l:Nat} {a_l:Option Addr} {n_l c_l:Nat} {l:List Rec} {lo_c hi_c:Nat} {a_c:Option Addr} {n_c c_c:Nat} {c:List Bool} {lo_s hi_s:Nat} {a_s:Option Addr} {n_s c_s:Nat} {s:List Nat} (v:Nat) (j:Nat) (w:World) (h_l:Ms zL 35 lo_l hi_l w a_l n_l c_l l) (h_c:Es Value.bool lo_c hi_c w a_c n_c c_c c) (h_s:Es (nv .i64) lo_s hi_s w a_s n_s c_s s) (hp0:n_c=n_l) (hp1:n_l≤4096) (hp2:v≤4096):
  Calls Tryz.prog 33 #[(vA [(.slice a_l n_l c_l),(.slice a_c n_c c_c),(.slice a_s n_s c_s)]),(vI v),(vI j)] w (Ret fun r w'=>r=(.bool (drt c v j))∧Ext w w'):=by
 refine zw (n:=27) (σ:= [(0,(vA [(.slice a_l n_l c_l),(.slice a_c n_c c_c),(.slice a_s n_s c_s)])),(1,(vI v)),(2,(vI j))]) Tryz.func33 rfl ?_
 replace h_l:=h_l.now;have hle_l:=h_l.le
 replace h_c:=h_c.now;have hle_c:=h_c.le
 replace h_s:=h_s.now;have hle_s:=h_s.le
 have hll:=h_l.len_eq;have hlc:=h_c.len_eq
 have hle:=h_l.le;have hle2:=h_c.le
 refine wsr (za (zS (Instr.box 34 (vA [(.slice a_l n_l c_l),(.slice a_c n_c c_c),(.slice a_s n_s c_s)])) (vP w.heap.size 0) ([(.slice a_l n_l c_l),(.slice a_c n_c c_c),(.slice a_s n_s c_s)]) 34 ?_))
 intro w1 hBw1 hEw1 hzw1 hlw1
 refine zb 1 [(6,vF)] (zM (zb 1 [(7,(vI 0))] (wEt (zp ?_))))
 refine zU (X:=Nat) (fun k=> [(7,(vI k))]) [6,8,9,10,11,12,13,14,15,16,17,18,19,20,21,22,23,24,25,26] (fun k w2=>k≤n_l∧(∀i,i<k→¬(c.getD i false=true∧idx i v=j))∧Ext w1 w2) (fun k=>n_l-k) 0 (by kernel_rfl) ⟨Nat.zero_le _,fun i h=>absurd h (Nat.not_lt_zero _),Ext.refl _⟩ ?_
 rintro k dw2 w2 ⟨hk,hno,hEl⟩
 have hzl:=hEl.size
 refine zd (wsr (zb 2 [(9,(vP w.heap.size 0)),(8,(vI k))] (za (zm w.heap.size 0 ((hBw1.ext hEl).cell rfl) ?_))))
 refine zb 1 [(11,(vI n_l))] (za (zag 12 k n_l (fun hc12=> ?_) (fun hc12=> ?_)))
 ·refine wEt (zk (zl (zc (zd (zp (wsr (zb 1 [(15,(vP w.heap.size 1))] ?_)))))))
  refine za (zm w.heap.size 1 ((hBw1.ext hEl).cell rfl) ?_)
  refine zb 1 [(17,(vI k))] ?_
  obtain ⟨b1,o1,rfl⟩:=h_c.addr (by omega)
  refine za (zan b1 o1 n_c c_c k 1 ?_)
  rcases Bool.eq_false_or_eq_true (c.getD k false) with hb19 | hb19
  ·refine za (zm b1 (o1+k*1) (Eq.trans (((h_c.ext hEw1).ext hEl).cellb (by omega)) (congrArg (fun z=>some (Value.bool z)) hb19)) ?_)
   refine zb 3 [(22,(vI v)),(21,(vI k)),(20,vT)] (za (zt (zml k v _ (by omega) (by omega)) ?_))
   rintro _ _ ⟨rfl,rfl⟩
   refine zb 1 [(24,(vI j))] (za (zaI 25 (idx k v) j (fun hc25=> ?_) (fun hc25=> ?_)))
   ·refine zb 1 [(26,vT)] (wEt (zk (wsr (zb 1 [(6,vT)] (zF ?_)))))
    exact zu (zj (zj (zu (zj (zh vT (⟨congrArg (fun z:Bool=>Value.bool z) (zeB.2 ⟨k,by omega,hb19,hc25⟩).symm,(hEw1.trans hEl)⟩))))))
   ·refine zb 1 [(26,vF)] (wEt (zf (zl (zi (zc (zg (zb 1 [(13,(vI k))] (za (zJ 14 k 1 (k+1) ?_)))))))))
    refine zb 1 [(7,(vI (k+1)))] (zq (zn (zG (k+1) ?_ ?_)))
    ·exact ⟨by omega,fun i hi=>by rcases Nat.lt_succ_iff_lt_or_eq.1 hi with h1 | rfl;exact hno i h1;exact fun hh=>hc25 hh.2,hEl⟩
    ·first | omega |(dsimp only;omega)
  ·refine za (zm b1 (o1+k*1) (Eq.trans (((h_c.ext hEw1).ext hEl).cellb (by omega)) (congrArg (fun z=>some (Value.bool z)) hb19)) ?_)
   refine zb 7 [(26,vF),(25,undef),(24,undef),(23,undef),(22,undef),(21,undef),(20,vF)] (wEt (zf (zl (zi (zc (zg (zb 1 [(13,(vI k))] (za (zJ 14 k 1 (k+1) ?_)))))))))
   refine zb 1 [(7,(vI (k+1)))] (zq (zn (zG (k+1) ?_ ?_)))
   ·exact ⟨by omega,fun i hi=>by rcases Nat.lt_succ_iff_lt_or_eq.1 hi with h1 | rfl;exact hno i h1;exact fun hh=>absurd (hh.1.symm.trans hb19) (by decide),hEl⟩
   ·first | omega |(dsimp only;omega)
 ·refine wEt (zf (zP (zo (zo (zD (zc (wsr ?_)))))))
  exact zb 1 [(6,vF)] (zF (zh vF (⟨congrArg (fun z:Bool=>Value.bool z) (Bool.eq_false_iff.2 (fun hh=>by obtain ⟨i,h1,h2,h3⟩:=zeB.1 hh;exact hno i (by omega) ⟨h2,h3⟩)).symm,(hEw1.trans hEl)⟩)))
end Go.Proofs.YtkmhgepdhilllaaGreatDoor
namespace Go.Proofs.YtkmhgepdhilllaaGreatDoor
open Go Go.RowKit Go.Cs
set_option maxRecDepth 100000
theorem zmF {lo_l hi_l:Nat} {a_l:Option Addr} {n_l c_l:Nat} {l:List Rec} {lo_c hi_c:Nat} {a_c:Option Addr} {n_c c_c:Nat} {c:List Bool} {lo_s hi_s:Nat} {a_s:Option Addr} {n_s c_s:Nat} {s:List Nat} (w:World) (h_l:Ms zL 35 lo_l hi_l w a_l n_l c_l l) (h_c:Es Value.bool lo_c hi_c w a_c n_c c_c c) (h_s:Es (nv .i64) lo_s hi_s w a_s n_s c_s s) (hp0:n_c=n_l) (hp1:n_s=tot n_l) (hp2:1≤n_l) (hp3:n_l≤4096) (hp4:∀i,s.getD i 0≤1):
  Calls Tryz.prog 38 #[(vA [(.slice a_l n_l c_l),(.slice a_c n_c c_c),(.slice a_s n_s c_s)])] w (Ret fun r w'=>∃a0 ca0,r=(.slice a0 (tot n_l) ca0)∧Cs.Own (nv .i64) w.heap.size w'.heap.size w' a0 (tot n_l) ca0 3 (zaX n_l c s)∧Ext w w'):=by
 refine zw (n:=41) (σ:= [(0,(vA [(.slice a_l n_l c_l),(.slice a_c n_c c_c),(.slice a_s n_s c_s)]))]) Tryz.func38 rfl ?_
 replace h_l:=h_l.now;have hle_l:=h_l.le
 replace h_c:=h_c.now;have hle_c:=h_c.le
 replace h_s:=h_s.now;have hle_s:=h_s.le
 have hll:=h_l.len_eq;have hlc:=h_c.len_eq;have hls:=h_s.len_eq
 have hle:=h_l.le;have hle2:=h_c.le;have hle3:=h_s.le
 have h5:=zam n_l
 have hts:=zau hp3
 have htt:=zcq hp2 hp3
 refine wsr (za (zS (Instr.box 34 (vA [(.slice a_l n_l c_l),(.slice a_c n_c c_c),(.slice a_s n_s c_s)])) (vP w.heap.size 0) ([(.slice a_l n_l c_l),(.slice a_c n_c c_c),(.slice a_s n_s c_s)]) 34 ?_))
 intro w1 hBw1 hEw1 hzw1 hlw1
 refine zb 1 [(2,(.slice none 0 0))] (zz (zb 1 [(8,(vP w.heap.size 0))] (za (zm w.heap.size 0 (hBw1.cell rfl) ?_))))
 refine zb 2 [(3,(vI n_l)),(10,(vI n_l))] (zz (zb 1 [(4,(.slice none 0 0))] (wEt (zd (zd ?_)))))
 refine zg (zb 1 [(5,(vI 0))] (wEt (zp (zU (X:=Nat×Option Addr×Nat) (fun ⟨v,ao,cp⟩=> [(4,(.slice ao (num n_l v) cp)),(5,(vI v))]) [6,7,11,12,13,14,15,16,17,18,19,20,21,22,23,24,25,26,27,28,29,30,31,32,33,34,35,36,37,38,39] (fun ⟨v,ao,cp⟩ w2=>v≤hgt n_l+1∧Cs.Own (nv .i64) w1.heap.size w2.heap.size w2 ao (num n_l v) cp 3 (TXp n_l (zea n_l c s) v)∧Ext w1 w2) (fun ⟨v,ao,cp⟩=>hgt n_l+1-v) (0,none,0) (by kernel_rfl) ⟨by omega,Cs.Own.nil _ _ _ _ _,(Ext.refl _)⟩ ?_))))
 rintro ⟨v,ao,cp⟩ dw2 w2 ⟨hv,hO,hEl⟩
 have hzl:=hEl.size
 have hns:=zbN (n:=n_l) (l:=v) hp3 (by omega)
 have hcnv:=zbl n_l v
 refine zd (wsr (zb 2 [(12,(vI n_l)),(11,(vI v))] (za (zt (zdM n_l _ (by omega) (by omega)) ?_))))
 rintro _ _ ⟨rfl,rfl⟩
 refine za (zjO 14 v (hgt n_l) (fun hc14=> ?_) (fun hc14=> ?_))
 ·refine wEt (zk (zl (zc (zd (zp (wsr (zb 1 [(6,(vI 0))] ?_)))))))
  refine wEt (zp (zU (X:=Nat×Option Addr×Nat) (fun ⟨j,ap,cq⟩=> [(4,(.slice ap (num n_l v+j) cq)),(6,(vI j))]) [7,17,18,19,20,21,22,23,24,25,26,27,28,29,30,31,32,33,34,35,36,37,38,39] (fun ⟨j,ap,cq⟩ w3=>j≤cnt n_l v∧Cs.Own (nv .i64) w1.heap.size w3.heap.size w3 ap (num n_l v+j) cq 3 (TXq n_l (zea n_l c s) v j)∧Ext w1 w3) (fun ⟨j,ap,cq⟩=>cnt n_l v-j) (0,ao,cp) (by kernel_rfl) ⟨by omega,by rw [zmz];exact (hO).now,hEl⟩ ?_))
  rintro ⟨j,ap,cq⟩ dw3 w3 ⟨hj,hO2,hEm⟩
  have hzm:=hEm.size
  refine zd (wsr (zb 3 [(19,(vI v)),(18,(vI n_l)),(17,(vI j))] (za (zt (zep n_l v _ (by omega) (by omega) (by omega)) ?_))))
  rintro _ _ ⟨rfl,rfl⟩
  refine za (zag 21 j (cnt n_l v) (fun hc21=> ?_) (fun hc21=> ?_))
  ·have hjc:j<cnt n_l v:=by omega
   have hpl:=zaL (n:=n_l) (l:=v) (j:=j) (by omega) hjc
   have hs1:gt s (num n_l v+j)≤1:=hp4 _
   have hcnv2:=zbl n_l v
   refine wEt (zk (zl (zc (zd (zp (wsr (zb 1 [(24,(vP w.heap.size 2))] ?_)))))))
   refine za (zm w.heap.size 2 ((hBw1.ext hEm).cell rfl) ?_)
   refine zb 2 [(27,(vI (num n_l v+j))),(26,(.slice ap (num n_l v+j) cq))] ?_
   obtain ⟨b1,o1,rfl⟩:=h_s.addr (by omega)
   refine za (zan b1 o1 n_s c_s (num n_l v+j) 1 ?_)
   refine za (zm b1 (o1+(num n_l v+j)*1) (((h_s.ext hEw1).ext hEm).celln (by omega)) ?_)
   refine zb 1 [(7,(vI (gt s (num n_l v+j))))] (zM (za (zV w.heap.size 0 ((hBw1.ext hEm).all) ?_)))
   refine zb 2 [(32,(vI j)),(31,(vI v))] ?_
   rcases (show drt c v j=true∨drt c v j=false by cases drt c v j<;>simp) with he | he
   ·refine za (zt (zif v j _ ((h_l.ext hEw1).ext hEm) ((h_c.ext hEw1).ext hEm) ((h_s.ext hEw1).ext hEm) (by omega) (by omega) (by omega)) ?_)
    rintro _ w4 ⟨rfl,hEw4⟩
    have hzw4:=hEw4.size
    rw [show drt c v j=true from he]
    refine wEt (zk (zg (zb 1 [(34,(vI (gt s (num n_l v+j))))] (za (zb5 35 1 (gt s (num n_l v+j)) (1-gt s (num n_l v+j)) ?_)))))
    refine zb 1 [(7,(vI (1-gt s (num n_l v+j))))] (zdx (zb 2 [(37,(vI (1-gt s (num n_l v+j)))),(36,(.slice ap (num n_l v+j) cq))] (za (zS (Instr.buildSlice 29 1 #[(0,(vI (1-gt s (num n_l v+j))))]) (.slice (pA w4.heap.size 0) 1 1) [(vI (1-gt s (num n_l v+j)))] 3 ?_))))
    intro w5 hBw5 hEw5 hzw5 hlw5
    have hSw5:Es (nv .i64) w4.heap.size (w4.heap.size+1) w5 (pA w4.heap.size 0) 1 1 ([1-gt s (num n_l v+j)]):=Es.of_blk hBw5 rfl rfl (Nat.le_refl _) (by decide) (Nat.le_refl _) (Nat.lt_succ_self _)
    refine za (zbr (some 39) 29 29 3 8 (vI 0) ((hO2.ext hEw4).ext hEw5) hSw5 (fun _=>rfl) ?_)
    intro a1 c1 w6 hOw6 hCw6
    have hzw6:=hCw6.size
    have hSw6:=hOw6.es
    refine zb 1 [(4,(.slice a1 (num n_l v+j+1) c1))] (zq (zi (zc (zg (zb 1 [(22,(vI j))] (za (zJ 23 j 1 (j+1) ?_)))))))
    refine zb 1 [(6,(vI (j+1)))] (zq (zn ?_))
    have hX1:Ext w1 w6:=(Ext.ownS ((hEm.trans hEw4).trans hEw5) hCw6 (fun k hs hk=>by have hn:=((hO2.ext hEw4).ext hEw5).ne hs;omega))
    refine zG (j+1,a1,c1) ?_ ?_
    ·exact ⟨by omega,by rw [zc2,show zea n_l c s v j=_ from if_pos he];exact (hOw6).now,hX1⟩
    ·first | omega |(dsimp only;omega)
   ·refine za (zt (zif v j _ ((h_l.ext hEw1).ext hEm) ((h_c.ext hEw1).ext hEm) ((h_s.ext hEw1).ext hEm) (by omega) (by omega) (by omega)) ?_)
    rintro _ w7 ⟨rfl,hEw7⟩
    have hzw7:=hEw7.size
    rw [show drt c v j=false from he]
    refine wEt (zf (zl (zc (zg (zb 2 [(37,(vI (gt s (num n_l v+j)))),(36,(.slice ap (num n_l v+j) cq))] (za (zS (Instr.buildSlice 29 1 #[(0,(vI (gt s (num n_l v+j))))]) (.slice (pA w7.heap.size 0) 1 1) [(vI (gt s (num n_l v+j)))] 3 ?_)))))))
    intro w8 hBw8 hEw8 hzw8 hlw8
    have hSw8:Es (nv .i64) w7.heap.size (w7.heap.size+1) w8 (pA w7.heap.size 0) 1 1 ([gt s (num n_l v+j)]):=Es.of_blk hBw8 rfl rfl (Nat.le_refl _) (by decide) (Nat.le_refl _) (Nat.lt_succ_self _)
    refine za (zbr (some 39) 29 29 3 8 (vI 0) ((hO2.ext hEw7).ext hEw8) hSw8 (fun _=>rfl) ?_)
    intro a2 c2 w9 hOw9 hCw9
    have hzw9:=hCw9.size
    have hSw9:=hOw9.es
    refine zb 1 [(4,(.slice a2 (num n_l v+j+1) c2))] (zq (zi (zc (zg (zb 1 [(22,(vI j))] (za (zJ 23 j 1 (j+1) ?_)))))))
    refine zb 1 [(6,(vI (j+1)))] (zq (zn ?_))
    have hX2:Ext w1 w9:=(Ext.ownS ((hEm.trans hEw7).trans hEw8) hCw9 (fun k hs hk=>by have hn:=((hO2.ext hEw7).ext hEw8).ne hs;omega))
    refine zG (j+1,a2,c2) ?_ ?_
    ·exact ⟨by omega,by rw [zc2,show zea n_l c s v j=_ from if_neg (by rw [he];decide)];exact (hOw9).now,hX2⟩
    ·first | omega |(dsimp only;omega)
  ·obtain rfl:j=cnt n_l v:=by omega
   refine wEt (zf (zP (zo (zo (zD (zi (zc (zg ?_))))))))
   refine zb 1 [(15,(vI v))] (za (zJ 16 v 1 (v+1) ?_))
   refine zb 1 [(5,(vI (v+1)))] (zq (zn (zG (v+1,ap,cq) ?_ ?_)))
   ·exact ⟨by omega,by rw [←znv];exact (hO2).now,hEm⟩
   ·first | omega |(dsimp only;omega)
 ·refine wEt (zf (zP (zo (zo (zD (zc (wsr ?_)))))))
  refine zb 2 [(2,(.slice ao (num n_l v) cp)),(40,(.slice ao (num n_l v) cp))] (zF (zh (.slice ao (num n_l v) cp) ?_))
  obtain rfl:v=hgt n_l+1:=by omega
  exact ⟨_,_,rfl,((hO).mono (by omega) (Nat.le_refl _)).now,(hEw1.trans hEl)⟩
theorem ztH {lo_l hi_l:Nat} {a_l:Option Addr} {n_l c_l:Nat} {l:List Rec} {lo_c hi_c:Nat} {a_c:Option Addr} {n_c c_c:Nat} {c:List Bool} {lo_s hi_s:Nat} {a_s:Option Addr} {n_s c_s:Nat} {s:List Nat} (w:World) (h_l:Ms zL 35 lo_l hi_l w a_l n_l c_l l) (h_c:Es Value.bool lo_c hi_c w a_c n_c c_c c) (h_s:Es (nv .i64) lo_s hi_s w a_s n_s c_s s) (hp0:n_c=n_l) (hp1:n_s=tot n_l) (hp2:1≤n_l) (hp3:n_l≤4096) (hp4:∀i,s.getD i 0≤1):
  Calls Tryz.prog 16 #[(vA [(.slice a_l n_l c_l),(.slice a_c n_c c_c),(.slice a_s n_s c_s)])] w (Ret fun r w'=>∃a0 ca0 a1 ca1 a2 ca2,r=(vA [(.slice a0 n_l ca0),(.slice a1 n_l ca1),(.slice a2 (tot n_l) ca2)])∧Ms zL 35 w.heap.size w'.heap.size w' a0 n_l ca0 l∧Es Value.bool w.heap.size w'.heap.size w' a1 n_l ca1 (fls n_l)∧Es (nv .i64) w.heap.size w'.heap.size w' a2 (tot n_l) ca2 (zdi n_l c s)∧Ext w w'):=by
 refine zw (n:=25) (σ:= [(0,(vA [(.slice a_l n_l c_l),(.slice a_c n_c c_c),(.slice a_s n_s c_s)]))]) Tryz.func16 rfl ?_
 replace h_l:=h_l.now;have hle_l:=h_l.le
 replace h_c:=h_c.now;have hle_c:=h_c.le
 replace h_s:=h_s.now;have hle_s:=h_s.le
 have hll:=h_l.len_eq;have hlc:=h_c.len_eq;have hls:=h_s.len_eq
 have hle:=h_l.le;have hle2:=h_c.le;have hle3:=h_s.le
 have h5:=zam n_l
 have hts:=zau hp3
 have htt:=zcq hp2 hp3
 have hs1:gt s (tot n_l-1)≤1:=hp4 _
 refine wsr (za (zS (Instr.box 34 (vA [(.slice a_l n_l c_l),(.slice a_c n_c c_c),(.slice a_s n_s c_s)])) (vP w.heap.size 0) ([(.slice a_l n_l c_l),(.slice a_c n_c c_c),(.slice a_s n_s c_s)]) 34 ?_))
 intro w1 hBw1 hEw1 hzw1 hlw1
 refine za (zad ([(.slice none 0 0),(.slice none 0 0),(.slice none 0 0)]) 34 ?_)
 intro w2 hBw2 hEw2 hzw2 hlw2
 refine wEt (zd (zY 7 (fun w3 hEw3 hzw3 hT110=> ?_)))
 refine ze hT110 [(0,5,(vP w.heap.size 0))] 1 (zx hT110 1 w.heap.size 0 (fun w' hC=>((((hBw1.ext hEw2).ext hEw3).ext hC).cell rfl)) (zbj hT110 2 w.heap.size 0 (fun w' hC=>((((hBw1.ext hEw2).ext hEw3).ext hC).all)) (zbB 3 5 ?_ ?_)))
 ·have hK1:=(((h_l.ext hEw1).ext hEw2).ext hEw3)
  have hK2:=(((h_c.ext hEw1).ext hEw2).ext hEw3)
  have hK3:=(((h_s.ext hEw1).ext hEw2).ext hEw3)
  refine zt (zmF _ hK1 hK2 hK3 (by first | omega | decide) (by first | omega | decide) (by first | omega | decide) (by first | omega | decide) (by assumption)) ?_
  rintro _ w4 ⟨a1,ca1,rfl,hFz1_0,hEw4⟩
  have hzw4:=hEw4.size
  have hma1:=hFz1_0.es;have hlea1:=hma1.le
  refine ⟨.inr hEw4, ?_⟩
  refine zbB 4 5 ?_ ?_
  ·refine zt (zh6 _ (hK1.ext hEw4) hma1 (by first | omega | decide) (by first | omega | decide)) ?_
   rintro _ w5 ⟨a2a,a2c,a2b,a2d,a2e,a2p,a2q,a2r,a2s,rfl,hFz2_0,hFz2_1,hFz2_2,hFz2_3,hEw5⟩
   have hzw5:=hEw5.size
   have hma2:=hFz2_1.ms;have hlea2:=hma2.le;have hla2:=hFz2_2.lt;have hna2:=hFz2_3.es;have hle2a2:=hna2.le
   have hba2:Es Value.bool a2b (a2b+1) w5 (pA a2b 0) n_l n_l (fls n_l):=Es.of_blk hFz2_2 rfl (by simp [fls]) (Nat.le_refl _) (by simp only [maxLen];omega) (Nat.le_refl _) (Nat.lt_succ_self _)
   have hX1:Ext w3 w5:=(hEw4.trans hEw5)
   refine ⟨.inr hX1, ?_⟩
   refine zy 5 (zad ([(.slice none 0 0),(.slice none 0 0),(.slice none 0 0)]) 34 ?_)
   intro w6 hBw6 hEw6 hzw6 hlw6
   have hX2:Ext w3 w6:=((hEw4.trans hEw5).trans hEw6)
   refine ⟨.inr hX2, ?_⟩
   refine zy 6 (zC 34 w5.heap.size 0 34 (vA [(.slice a2a n_l a2c),(.slice (pA a2b 0) n_l n_l),(.slice a2d (tot n_l) a2e)]) ([(.slice none 0 0),(.slice none 0 0),(.slice none 0 0)]) ([(.slice a2a n_l a2c),(.slice (pA a2b 0) n_l n_l),(.slice a2d (tot n_l) a2e)]) hBw6 (by kernel_rfl) (by first | decide |(simp;done)|(simp;omega)) (by simp [Value.oneCell']) ?_)
   intro w7 hBw7 hCw7
   have hzw7:=hCw7.size
   rw [zv _ _ (by kernel_rfl)] at hBw7
   refine ⟨.inl (by kernel_rfl), ?_⟩
   refine zB (zc (wsr (zb 1 [(10,(vP w5.heap.size 2))] (za (zm w5.heap.size 2 (hBw7.cell rfl) ?_)))))
   refine zb 1 [(12,(vI (tot n_l)))] (za (zb5 13 (tot n_l) 1 (tot n_l-1) ?_))
   refine zb 1 [(4,(vI (tot n_l-1)))] (wEt (zd (zY 11 (fun w8 hEw8 hzw8 hT152=> ?_))))
   refine ze hT152 [(0,14,(vP w5.heap.size 2))] 1 (zx hT152 1 w5.heap.size 2 (fun w' hC=>(((hBw7.ext hEw8).ext hC).cell rfl)) (ze hT152 [(2,16,(vI (tot n_l-1))),(3,17,(vP w.heap.size 2))] 2 ?_))
   have hX3:=(Ext.own (hEw5.trans hEw6) hCw7 (by omega)).trans hEw8
   have hK4:=((((hBw1.ext hEw2).ext hEw3).ext hEw4).ext hX3)
   refine zx hT152 4 w.heap.size 2 (fun w' hC=>((hK4.ext hC).cell rfl)) (ze hT152 [(5,19,(vI (tot n_l-1)))] 1 ?_)
   obtain ⟨b1,o1,rfl⟩:=hK3.addr (by omega)
   refine zaD hT152 6 b1 o1 n_s c_s (tot n_l-1) 1 (zx hT152 7 b1 (o1+(tot n_l-1)*1) (fun w' hC=>((((hK3.ext hEw4).ext hX3).ext hC).celln (by omega))) (zr hT152 8 (vI (1-gt s (tot n_l-1))) (zac .i64 (IntKind.i64.wrap (((1:Nat):Int)-((gt s (tot n_l-1):Nat):Int))) (zao)) ?_))
   have hK5:=(((hFz2_3.ext hEw6).chg hCw7).ext hEw8)
   have hqb2:=hK5.len_eq
   obtain ⟨b2,r1,rfl,hBb2,hrb2,hlob2,hhib2,hcpb2,hmxb2⟩:=hK5.row_of (by omega)
   have hlb2:=hBb2.lt
   refine zaD hT152 9 b2 0 (tot n_l) a2e (tot n_l-1) 1 (zy 10 (zah 3 b2 (0+(tot n_l-1)*1) 3 (vI (1-gt s (tot n_l-1))) (((zaX n_l c s)).map (nv .i64)++r1) hBb2 (by rw [List.length_append,List.length_map,zcB];omega) ?_))
   intro w9 hBw9 hCw9
   have hzw9:=hCw9.size
   rw [show ((((zaX n_l c s)).map (nv .i64)++r1).set (0+(tot n_l-1)*1) (vI (1-gt s (tot n_l-1))):List Value)=(zdi n_l c s).map (nv .i64)++r1 from by rw [Nat.zero_add,Nat.mul_one,List.set_append_left _ _ (by rw [List.length_map,zcB];omega)];exact congrArg (· ++r1) (by rw [←zjd hp2 hp3,List.map_set];rfl)] at hBw9
   refine ⟨.inl (by kernel_rfl), ?_⟩
   refine zB (zc (wsr (za (zV w5.heap.size 0 (((hBw7.ext hEw8).chg hCw9).all) ?_))))
   have hK6:=((((hBw2.ext hEw3).ext hEw4).ext hX3).chg hCw9)
   refine za (zC 34 w1.heap.size 0 34 (vA [(.slice a2a n_l a2c),(.slice (pA a2b 0) n_l n_l),(.slice (pA b2 0) (tot n_l) a2e)]) ([(.slice none 0 0),(.slice none 0 0),(.slice none 0 0)]) ([(.slice a2a n_l a2c),(.slice (pA a2b 0) n_l n_l),(.slice (pA b2 0) (tot n_l) a2e)]) hK6 (by kernel_rfl) (by first | decide |(simp;done)|(simp;omega)) (by simp [Value.oneCell']) ?_)
   have hK7:=((((hBw2.ext hEw3).ext hEw4).ext hX3).chg hCw9)
   intro w10 hBw10 hCw10
   have hzw10:=hCw10.size
   rw [zv _ _ (by kernel_rfl)] at hBw10
   refine zF (zaR (show zO Tryz.prog 25 _ _ (.cell 2 34) (vA [(.slice a2a n_l a2c),(.slice (pA a2b 0) n_l n_l),(.slice (pA b2 0) (tot n_l) a2e)]) from ⟨⟨w1.heap.size,0,none⟩,(by kernel_rfl),zE (T:=34) (vs:= [(.slice a2a n_l a2c),(.slice (pA a2b 0) n_l n_l),(.slice (pA b2 0) (tot n_l) a2e)]) (hBw10).all (by kernel_rfl)⟩) ?_)
   have hK8:=(((((hma2.ext hEw6).chg hCw7).ext hEw8).chg hCw9).chg hCw10)
   have hK9:=(((((hba2.ext hEw6).chg hCw7).ext hEw8).chg hCw9).chg hCw10)
   have hz1:=hK8;have hz2:=hK9;have hz3:=(hBw9.chg hCw10)
   have hX4:Ext w w10:=(Ext.own (Ext.own ((((hEw1.trans hEw2).trans hEw3).trans hEw4).trans hX3) hCw9 (by omega)) hCw10 (by omega))
   exact ⟨_,_,_,_,_,_,rfl,hz1.now.mono (by omega) (Nat.le_refl _),hz2.now.mono (by omega) (Nat.le_refl _),(Es.of_pre hz3 (by rw [zfI]) (by omega) (by simp only [maxLen] at*;omega) (Nat.le_refl _) (Nat.lt_succ_self _)).now.mono (by omega) (Nat.le_refl _),hX4⟩
  ·refine zad ([(.slice none 0 0),(.slice none 0 0),(.slice none 0 0)]) 34 ?_
   intro w11 hBw11 hEw11 hzw11 hlw11
   have hX5:Ext w3 w11:=(hEw4.trans hEw11)
   refine ⟨.inr hX5, ?_⟩
   refine zy 4 (zt (zh6 _ ((hK1.ext hEw4).ext hEw11) (hma1.ext hEw11) (by first | omega | decide) (by first | omega | decide)) ?_)
   rintro _ w12 ⟨a3a,a3c,a3b,a3d,a3e,a3p,a3q,a3r,a3s,rfl,hFz3_0,hFz3_1,hFz3_2,hFz3_3,hEw12⟩
   have hzw12:=hEw12.size
   have hma3:=hFz3_1.ms;have hlea3:=hma3.le;have hla3:=hFz3_2.lt;have hna3:=hFz3_3.es;have hle2a3:=hna3.le
   have hba3:Es Value.bool a3b (a3b+1) w12 (pA a3b 0) n_l n_l (fls n_l):=Es.of_blk hFz3_2 rfl (by simp [fls]) (Nat.le_refl _) (by simp only [maxLen];omega) (Nat.le_refl _) (Nat.lt_succ_self _)
   have hX6:Ext w3 w12:=((hEw4.trans hEw11).trans hEw12)
   refine ⟨.inr hX6, ?_⟩
   refine zy 6 (zC 34 w4.heap.size 0 34 (vA [(.slice a3a n_l a3c),(.slice (pA a3b 0) n_l n_l),(.slice a3d (tot n_l) a3e)]) ([(.slice none 0 0),(.slice none 0 0),(.slice none 0 0)]) ([(.slice a3a n_l a3c),(.slice (pA a3b 0) n_l n_l),(.slice a3d (tot n_l) a3e)]) (hBw11.ext hEw12) (by kernel_rfl) (by first | decide |(simp;done)|(simp;omega)) (by simp [Value.oneCell']) ?_)
   intro w13 hBw13 hCw13
   have hzw13:=hCw13.size
   rw [zv _ _ (by kernel_rfl)] at hBw13
   refine ⟨.inl (by kernel_rfl), ?_⟩
   refine zB (zc (wsr (zb 1 [(10,(vP w4.heap.size 2))] (za (zm w4.heap.size 2 (hBw13.cell rfl) ?_)))))
   refine zb 1 [(12,(vI (tot n_l)))] (za (zb5 13 (tot n_l) 1 (tot n_l-1) ?_))
   refine zb 1 [(4,(vI (tot n_l-1)))] (wEt (zd (zY 11 (fun w14 hEw14 hzw14 hT222=> ?_))))
   refine ze hT222 [(0,14,(vP w4.heap.size 2))] 1 (zx hT222 1 w4.heap.size 2 (fun w' hC=>(((hBw13.ext hEw14).ext hC).cell rfl)) (ze hT222 [(2,16,(vI (tot n_l-1))),(3,17,(vP w.heap.size 2))] 2 ?_))
   have hX7:=(Ext.own (hEw11.trans hEw12) hCw13 (by omega)).trans hEw14
   have hK10:=((((hBw1.ext hEw2).ext hEw3).ext hEw4).ext hX7)
   refine zx hT222 4 w.heap.size 2 (fun w' hC=>((hK10.ext hC).cell rfl)) (ze hT222 [(5,19,(vI (tot n_l-1)))] 1 ?_)
   obtain ⟨b3,o2,rfl⟩:=hK3.addr (by omega)
   refine zaD hT222 6 b3 o2 n_s c_s (tot n_l-1) 1 (zx hT222 7 b3 (o2+(tot n_l-1)*1) (fun w' hC=>((((hK3.ext hEw4).ext hX7).ext hC).celln (by omega))) (zr hT222 8 (vI (1-gt s (tot n_l-1))) (zac .i64 (IntKind.i64.wrap (((1:Nat):Int)-((gt s (tot n_l-1):Nat):Int))) (zao)) ?_))
   have hqb4:=((hFz3_3.chg hCw13).ext hEw14).len_eq
   obtain ⟨b4,r2,rfl,hBb4,hrb4,hlob4,hhib4,hcpb4,hmxb4⟩:=((hFz3_3.chg hCw13).ext hEw14).row_of (by omega)
   have hlb4:=hBb4.lt
   refine zaD hT222 9 b4 0 (tot n_l) a3e (tot n_l-1) 1 (zy 10 (zah 3 b4 (0+(tot n_l-1)*1) 3 (vI (1-gt s (tot n_l-1))) (((zaX n_l c s)).map (nv .i64)++r2) hBb4 (by rw [List.length_append,List.length_map,zcB];omega) ?_))
   intro w15 hBw15 hCw15
   have hzw15:=hCw15.size
   rw [show ((((zaX n_l c s)).map (nv .i64)++r2).set (0+(tot n_l-1)*1) (vI (1-gt s (tot n_l-1))):List Value)=(zdi n_l c s).map (nv .i64)++r2 from by rw [Nat.zero_add,Nat.mul_one,List.set_append_left _ _ (by rw [List.length_map,zcB];omega)];exact congrArg (· ++r2) (by rw [←zjd hp2 hp3,List.map_set];rfl)] at hBw15
   refine ⟨.inl (by kernel_rfl), ?_⟩
   refine zB (zc (wsr (za (zV w4.heap.size 0 (((hBw13.ext hEw14).chg hCw15).all) ?_))))
   have hK11:=((((hBw2.ext hEw3).ext hEw4).ext hX7).chg hCw15)
   refine za (zC 34 w1.heap.size 0 34 (vA [(.slice a3a n_l a3c),(.slice (pA a3b 0) n_l n_l),(.slice (pA b4 0) (tot n_l) a3e)]) ([(.slice none 0 0),(.slice none 0 0),(.slice none 0 0)]) ([(.slice a3a n_l a3c),(.slice (pA a3b 0) n_l n_l),(.slice (pA b4 0) (tot n_l) a3e)]) hK11 (by kernel_rfl) (by first | decide |(simp;done)|(simp;omega)) (by simp [Value.oneCell']) ?_)
   have hK12:=((((hBw2.ext hEw3).ext hEw4).ext hX7).chg hCw15)
   intro w16 hBw16 hCw16
   have hzw16:=hCw16.size
   rw [zv _ _ (by kernel_rfl)] at hBw16
   refine zF (zaR (show zO Tryz.prog 25 _ _ (.cell 2 34) (vA [(.slice a3a n_l a3c),(.slice (pA a3b 0) n_l n_l),(.slice (pA b4 0) (tot n_l) a3e)]) from ⟨⟨w1.heap.size,0,none⟩,(by kernel_rfl),zE (T:=34) (vs:= [(.slice a3a n_l a3c),(.slice (pA a3b 0) n_l n_l),(.slice (pA b4 0) (tot n_l) a3e)]) (hBw16).all (by kernel_rfl)⟩) ?_)
   have hK13:=((((hma3.chg hCw13).ext hEw14).chg hCw15).chg hCw16)
   have hK14:=((((hba3.chg hCw13).ext hEw14).chg hCw15).chg hCw16)
   have hz1:=hK13;have hz2:=hK14;have hz3:=(hBw15.chg hCw16)
   have hX8:Ext w w16:=(Ext.own (Ext.own ((((hEw1.trans hEw2).trans hEw3).trans hEw4).trans hX7) hCw15 (by omega)) hCw16 (by omega))
   exact ⟨_,_,_,_,_,_,rfl,hz1.now.mono (by omega) (Nat.le_refl _),hz2.now.mono (by omega) (Nat.le_refl _),(Es.of_pre hz3 (by rw [zfI]) (by omega) (by simp only [maxLen] at*;omega) (Nat.le_refl _) (Nat.lt_succ_self _)).now.mono (by omega) (Nat.le_refl _),hX8⟩
 ·refine zad ([(.slice none 0 0),(.slice none 0 0),(.slice none 0 0)]) 34 ?_
  intro w17 hBw17 hEw17 hzw17 hlw17
  refine ⟨.inr hEw17, ?_⟩
  have hX9:=((hEw1.trans hEw2).trans hEw3).trans hEw17
  refine zy 3 (zt (zmF _ (h_l.ext hX9) (h_c.ext hX9) (h_s.ext hX9) (by first | omega | decide) (by first | omega | decide) (by first | omega | decide) (by first | omega | decide) (by assumption)) ?_)
  rintro _ w18 ⟨a4,ca4,rfl,hFz4_0,hEw18⟩
  have hzw18:=hEw18.size
  have hma4:=hFz4_0.es;have hlea4:=hma4.le
  have hX10:Ext w3 w18:=(hEw17.trans hEw18)
  refine ⟨.inr hX10, ?_⟩
  refine zy 4 (zt (zh6 _ ((h_l.ext hX9).ext hEw18) hma4 (by first | omega | decide) (by first | omega | decide)) ?_)
  rintro _ w19 ⟨a5a,a5c,a5b,a5d,a5e,a5p,a5q,a5r,a5s,rfl,hFz5_0,hFz5_1,hFz5_2,hFz5_3,hEw19⟩
  have hzw19:=hEw19.size
  have hma5:=hFz5_1.ms;have hlea5:=hma5.le;have hla5:=hFz5_2.lt;have hna5:=hFz5_3.es;have hle2a5:=hna5.le
  have hba5:Es Value.bool a5b (a5b+1) w19 (pA a5b 0) n_l n_l (fls n_l):=Es.of_blk hFz5_2 rfl (by simp [fls]) (Nat.le_refl _) (by simp only [maxLen];omega) (Nat.le_refl _) (Nat.lt_succ_self _)
  have hX11:Ext w3 w19:=((hEw17.trans hEw18).trans hEw19)
  refine ⟨.inr hX11, ?_⟩
  refine zy 6 (zC 34 w3.heap.size 0 34 (vA [(.slice a5a n_l a5c),(.slice (pA a5b 0) n_l n_l),(.slice a5d (tot n_l) a5e)]) ([(.slice none 0 0),(.slice none 0 0),(.slice none 0 0)]) ([(.slice a5a n_l a5c),(.slice (pA a5b 0) n_l n_l),(.slice a5d (tot n_l) a5e)]) ((hBw17.ext hEw18).ext hEw19) (by kernel_rfl) (by first | decide |(simp;done)|(simp;omega)) (by simp [Value.oneCell']) ?_)
  intro w20 hBw20 hCw20
  have hzw20:=hCw20.size
  rw [zv _ _ (by kernel_rfl)] at hBw20
  refine ⟨.inl (by kernel_rfl), ?_⟩
  refine zB (zc (wsr (zb 1 [(10,(vP w3.heap.size 2))] (za (zm w3.heap.size 2 (hBw20.cell rfl) ?_)))))
  refine zb 1 [(12,(vI (tot n_l)))] (za (zb5 13 (tot n_l) 1 (tot n_l-1) ?_))
  refine zb 1 [(4,(vI (tot n_l-1)))] (wEt (zd (zY 11 (fun w21 hEw21 hzw21 hT297=> ?_))))
  refine ze hT297 [(0,14,(vP w3.heap.size 2))] 1 (zx hT297 1 w3.heap.size 2 (fun w' hC=>(((hBw20.ext hEw21).ext hC).cell rfl)) (ze hT297 [(2,16,(vI (tot n_l-1))),(3,17,(vP w.heap.size 2))] 2 ?_))
  have hK15:=(((((((hBw1.ext hEw2).ext hEw3).ext hEw17).ext hEw18).ext hEw19).chg hCw20).ext hEw21)
  refine zx hT297 4 w.heap.size 2 (fun w' hC=>((hK15.ext hC).cell rfl)) (ze hT297 [(5,19,(vI (tot n_l-1)))] 1 ?_)
  obtain ⟨b5,o3,rfl⟩:=h_s.addr (by omega)
  refine zaD hT297 6 b5 o3 n_s c_s (tot n_l-1) 1 ?_
  have hK16:=(((((h_s.ext hX9).ext hEw18).ext hEw19).chg hCw20).ext hEw21)
  refine zx hT297 7 b5 (o3+(tot n_l-1)*1) (fun w' hC=>((hK16.ext hC).celln (by omega))) (zr hT297 8 (vI (1-gt s (tot n_l-1))) (zac .i64 (IntKind.i64.wrap (((1:Nat):Int)-((gt s (tot n_l-1):Nat):Int))) (zao)) ?_)
  have hqb6:=((hFz5_3.chg hCw20).ext hEw21).len_eq
  obtain ⟨b6,r3,rfl,hBb6,hrb6,hlob6,hhib6,hcpb6,hmxb6⟩:=((hFz5_3.chg hCw20).ext hEw21).row_of (by omega)
  have hlb6:=hBb6.lt
  refine zaD hT297 9 b6 0 (tot n_l) a5e (tot n_l-1) 1 (zy 10 (zah 3 b6 (0+(tot n_l-1)*1) 3 (vI (1-gt s (tot n_l-1))) (((zaX n_l c s)).map (nv .i64)++r3) hBb6 (by rw [List.length_append,List.length_map,zcB];omega) ?_))
  intro w22 hBw22 hCw22
  have hzw22:=hCw22.size
  rw [show ((((zaX n_l c s)).map (nv .i64)++r3).set (0+(tot n_l-1)*1) (vI (1-gt s (tot n_l-1))):List Value)=(zdi n_l c s).map (nv .i64)++r3 from by rw [Nat.zero_add,Nat.mul_one,List.set_append_left _ _ (by rw [List.length_map,zcB];omega)];exact congrArg (· ++r3) (by rw [←zjd hp2 hp3,List.map_set];rfl)] at hBw22
  refine ⟨.inl (by kernel_rfl), ?_⟩
  refine zB (zc (wsr (za (zV w3.heap.size 0 (((hBw20.ext hEw21).chg hCw22).all) ?_))))
  have hK17:=(((((((hBw2.ext hEw3).ext hEw17).ext hEw18).ext hEw19).chg hCw20).ext hEw21).chg hCw22)
  refine za (zC 34 w1.heap.size 0 34 (vA [(.slice a5a n_l a5c),(.slice (pA a5b 0) n_l n_l),(.slice (pA b6 0) (tot n_l) a5e)]) ([(.slice none 0 0),(.slice none 0 0),(.slice none 0 0)]) ([(.slice a5a n_l a5c),(.slice (pA a5b 0) n_l n_l),(.slice (pA b6 0) (tot n_l) a5e)]) hK17 (by kernel_rfl) (by first | decide |(simp;done)|(simp;omega)) (by simp [Value.oneCell']) ?_)
  have hK18:=(((((((hBw2.ext hEw3).ext hEw17).ext hEw18).ext hEw19).chg hCw20).ext hEw21).chg hCw22)
  intro w23 hBw23 hCw23
  have hzw23:=hCw23.size
  rw [zv _ _ (by kernel_rfl)] at hBw23
  refine zF (zaR (show zO Tryz.prog 25 _ _ (.cell 2 34) (vA [(.slice a5a n_l a5c),(.slice (pA a5b 0) n_l n_l),(.slice (pA b6 0) (tot n_l) a5e)]) from ⟨⟨w1.heap.size,0,none⟩,(by kernel_rfl),zE (T:=34) (vs:= [(.slice a5a n_l a5c),(.slice (pA a5b 0) n_l n_l),(.slice (pA b6 0) (tot n_l) a5e)]) (hBw23).all (by kernel_rfl)⟩) ?_)
  have hK19:=((((hma5.chg hCw20).ext hEw21).chg hCw22).chg hCw23)
  have hK20:=((((hba5.chg hCw20).ext hEw21).chg hCw22).chg hCw23)
  have hz1:=hK19;have hz2:=hK20;have hz3:=(hBw22.chg hCw23)
  have hX12:Ext w w23:=(Ext.own (Ext.own ((Ext.own ((hX9.trans hEw18).trans hEw19) hCw20 (by omega)).trans hEw21) hCw22 (by omega)) hCw23 (by omega))
  exact ⟨_,_,_,_,_,_,rfl,hz1.now.mono (by omega) (Nat.le_refl _),hz2.now.mono (by omega) (Nat.le_refl _),(Es.of_pre hz3 (by rw [zfI]) (by omega) (by simp only [maxLen] at*;omega) (Nat.le_refl _) (Nat.lt_succ_self _)).now.mono (by omega) (Nat.le_refl _),hX12⟩
end Go.Proofs.YtkmhgepdhilllaaGreatDoor
