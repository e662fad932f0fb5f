/- Lemmas and walks: what each function does, by its own code. No condition beyond those of each statement. -/
import Derived.Test.YtkmhgepdhilllaaGreatDoorK1
set_option linter.all false
set_option linter.unusedVariables false
namespace Go.Proofs.YtkmhgepdhilllaaGreatDoor
open Go Go.RowKit Go.Cs
set_option maxRecDepth 100000
set_option maxHeartbeats 4000000 in
theorem zkI (n:Nat) {lo_t hi_t:Nat} {a_t:Option Addr} {n_t c_t:Nat} {t:List Un} (w:World) (h_t:Ms unC 280 lo_t hi_t w a_t n_t c_t t) (hp0:1≤n) (hp1:n≤4096) (hp2:n_t=tot n) (hp3:∀i,i<t.length→(t.getD i Un.zero).sl=0∨(t.getD i Un.zero).sl=1) (hg0:Gl 0 [vI 45,vI 33] w) (hg1:Gl 1 (w8C zbp) w) (hg2:Gl 3 (zay kA) w):
  Calls Tryz.prog 55 #[(vA [(vI n),(.slice a_t n_t c_t)])] w (Ret fun r w'=>∃a0 ca0 a1 ca1,r=(.tuple #[(vA [(.slice a0 (hgt n+1) ca0),(.slice a1 (hgt n+1) ca1)]),(vI (zbQ n (zbi n t)))])∧Es (nv .i64) w.heap.size w'.heap.size w' a0 (hgt n+1) ca0 (zaT n (hgt n+1))∧Es (nv .i64) w.heap.size w'.heap.size w' a1 (hgt n+1) ca1 (zbd n (hgt n+1))∧Ext w w'):=by
 refine zeF (n:=64) (σ:= [(0,(vA [(vI n),(.slice a_t n_t c_t)]))]) Tryz.func55 rfl ?_
 replace h_t:=h_t.now;have hle_t:=h_t.le
 have hgl0:=hg0.lt
 have hgl1:=hg1.lt
 have hgl2:=hg2.lt
 have h5:=zar n
 have hlt:=h_t.len_eq
 have hts:=zaB hp1
 have hle:=h_t.le
 refine ze (zd (za (zaa (Instr.box 38 (vA [(vI n),(.slice a_t n_t c_t)])) (vP w.heap.size 0) ([(vI n),(.slice a_t n_t c_t)]) 38 ?_)))
 intro w1 hBw1 hEw1 hzw1 hlw1
 refine za (zaf ([(.slice none 0 0),(.slice none 0 0)]) 114 ?_)
 intro w2 hBw2 hEw2 hzw2 hlw2
 refine za (zaf ([(vI 0)]) 39 ?_)
 intro w3 hBw3 hEw3 hzw3 hlw3
 refine zf (zb (ze (zd (zc 1 [(13,(vP w.heap.size 0))] (za (zm w.heap.size 0 (((hBw1.ext hEw2).ext hEw3).cell rfl) ?_))))))
 refine za (zp (zlH n _ (by omega) (by omega)) ?_)
 rintro _ w4 ⟨a1,ca1,a2,ca2,rfl,hFz1_0,hFz1_1,hEw4⟩
 have hzw4:=hEw4.size
 have hlea1:=hFz1_0.le
 have hlea2:=hFz1_1.le
 refine zc 3 [(17,(vI 0)),(16,(vA [(.slice a1 (hgt n+1) ca1),(.slice a2 (hgt n+1) ca2)])),(12,(.tuple #[(vA [(.slice a1 (hgt n+1) ca1),(.slice a2 (hgt n+1) ca2)]),(vI 0)]))] (zal ([(.slice a1 (hgt n+1) ca1),(.slice a2 (hgt n+1) ca2)]) 114 rfl (by simp [Value.oneCell']) ?_)
 intro w5 hBw5 hEw5 hzw5 hlw5
 refine zc 1 [(5,(vI 0))] (zf (zb (ze (ze (zd (zc 1 [(18,(vI 0))] (za (zae (some 19) (((0:Nat):Int) !=((0:Nat):Int)) false (zax) ?_))))))))
 refine zf (zb (zh (zk (zb (ze (ze (zab 11 (fun w6 hEw6 hzw6 hT49=> ?_))))))))
 refine zg hT49 [(0,22,(vP w.heap.size 1))] 1 ?_
 have hK1:=(((((hBw1.ext hEw2).ext hEw3).ext hEw4).ext hEw5).ext hEw6)
 refine zA hT49 1 w.heap.size 1 (fun w' hC=>((hK1.ext hC).cell rfl)) (zg hT49 [(2,24,(vI n_t))] 1 (zaO hT49 3 w4.heap.size 0 (fun w' hC=>(((hBw5.ext hEw6).ext hC).all)) (zx 4 (zp (zie n _ ((hFz1_0.ext hEw5).ext hEw6) ((hFz1_1.ext hEw5).ext hEw6) (by first | rfl | assumption) (by first | rfl | assumption) (by first | omega | decide) (by first | omega | decide)) ?_))))
 rintro _ w7 ⟨rfl,hEw7⟩
 have hzw7:=hEw7.size
 refine ⟨.inr hEw7, ?_⟩
 refine zn (hw:=hEw7) hT49 5 vF (zaN (((n_t:Nat):Int) !=((tot n:Nat):Int)) (zax)) (zg (hw:=hEw7) hT49 [(6,28,vF),(7,29,(vP w.heap.size 1))] 2 (zA (hw:=hEw7) hT49 8 w.heap.size 1 (fun w' hC=>((hK1.ext hC).cell rfl)) ?_))
 have hK2:=(((((((h_t.ext hEw1).ext hEw2).ext hEw3).ext hEw4).ext hEw5).ext hEw6).ext hEw7)
 refine zx 9 (zp (zsh _ hK2 (hp3)) ?_)
 rintro _ w8 ⟨rfl,hEw8⟩
 have hzw8:=hEw8.size
 have hX1:Ext w6 w8:=(hEw7.trans hEw8)
 refine ⟨.inr hX1, ?_⟩
 refine zg (hw:=hX1) hT49 [(10,32,vF)] 1 (zE (zb (zh (zk (zb (ze (ze (zd ?_))))))))
 have hK3:=(((hBw5.ext hEw6).ext hEw7).ext hEw8)
 refine za (zO w4.heap.size 0 (hK3.all) ?_)
 have hK4:=((((hFz1_0.ext hEw5).ext hEw6).ext hEw7).ext hEw8)
 have hK5:=((((hFz1_1.ext hEw5).ext hEw6).ext hEw7).ext hEw8)
 refine za (zp (zpM _ hK4 hK5) ?_)
 rintro _ w9 ⟨a3,rfl,hFz4_0,hFz4_1,hEw9⟩
 have hzw9:=hEw9.size
 have hla3:=hFz4_1.lt
 refine zf (zb (zr ?_))
 have hK6:=(((hK1.ext hEw7).ext hEw8).ext hEw9)
 have hK7:=(((((((hBw2.ext hEw3).ext hEw4).ext hEw5).ext hEw6).ext hEw7).ext hEw8).ext hEw9)
 have hK8:=((((((hBw3.ext hEw4).ext hEw5).ext hEw6).ext hEw7).ext hEw8).ext hEw9)
 have hX2:Ext w w9:=((((((((hEw1.trans hEw2).trans hEw3).trans hEw4).trans hEw5).trans hEw6).trans hEw7).trans hEw8).trans hEw9)
 refine zhA [36,37] 91 [(vP a3 0)] (tot n) (fun k=> [(vI (lvK n k)),(vI k)]) (fun b=>b=w1.heap.size∨b=w2.heap.size) (fun b=>False) (fun k w'=>okK n (zbi n t) k∧Blk w' w.heap.size ([(vI n),(.slice a_t n_t c_t)]) 38∧Blk w' w1.heap.size ([(.slice none 0 0),(.slice none 0 0)]) 114∧Blk w' w2.heap.size ([(vI 0)]) 39∧Blk w' w4.heap.size ([(.slice a1 (hgt n+1) ca1),(.slice a2 (hgt n+1) ca2)]) 114∧Es (nv .i64) w3.heap.size w4.heap.size w' a1 (hgt n+1) ca1 (zaT n (hgt n+1))∧Es (nv .i64) w3.heap.size w4.heap.size w' a2 (hgt n+1) ca2 (zbd n (hgt n+1))∧Ext w w') (fun cc k w'=>cc= .ret∧Blk w' w1.heap.size ([(.slice a1 (hgt n+1) ca1),(.slice a2 (hgt n+1) ca2)]) 114∧Blk w' w2.heap.size [vI (zbQ n (zbi n t))] 39∧Es (nv .i64) w3.heap.size w4.heap.size w' a1 (hgt n+1) ca1 (zaT n (hgt n+1))∧Es (nv .i64) w3.heap.size w4.heap.size w' a2 (hgt n+1) ca2 (zbd n (hgt n+1))∧Ext w w') (fun b hb=>hb.elim) (fun _=>rfl) (fun k W W' ⟨h0,h1,h2,h3,h4,h5,h6,h8⟩ hb=>⟨h0,h1.book hb,h2.book hb,h3.book hb,h4.book hb,h5.book hb,h6.book hb,h8.book hb (by omega)⟩) (fun _ k W W' ⟨hc,h1,h2,h3,h4,h8⟩ hb=>⟨hc,h1.book hb,h2.book hb,h3.book hb,h4.book hb,h8.book hb (by omega)⟩) (fun k W W' ⟨h0,h1,h2,h3,h4,h5,h6,h8⟩ hc=>⟨h0,h1.ext hc,h2.ext hc,h3.ext hc,h4.ext hc,h5.ext hc,h6.ext hc,h8.trans hc⟩) (⟨zqM,hK6,hK7,hK8,(hK3.ext hEw9),(hK4.ext hEw9),(hK5.ext hEw9),hX2⟩) (fun lp J Jx wj hE1 hJ hY h0=>zo5 n w9.heap.size lp (fun b=>b=w1.heap.size∨b=w2.heap.size) J Jx wj hp0 hp1 (hFz4_1.ext hE1) ((hK4.ext hEw9).ext hE1) ((hK5.ext hEw9).ext hE1) (fun b hb=>⟨by omega,by omega,by omega⟩) hJ hY h0) ?_ ?_ ?_
 ·rintro lR k w10 hl ⟨hok,hK1,hK2,hK3,hK4,hs1,hs2,hEw⟩ hk
  have hzr:=hEw.size
  have hK1l:=hK1.lt
  have hK2l:=hK2.lt
  have hK3l:=hK3.lt
  have hK4l:=hK4.lt
  obtain ⟨l,j,hl,hj,hlv,rfl⟩:=zfP hk
  rw [hlv]
  have hns:=zbP (n:=n) (l:=l) hp1 (by omega)
  refine ze (zd (zc 1 [(6,(vI l))] (zf (zb (zd (zc 1 [(7,(vI (num n l+j)))] (zf (zlm (Kpt.refl _) (Chg.refl _ _) (fun w11 hBkw11=> ?_)))))))))
  have hzw11:=hBkw11.size
  refine zr (ze (zd (za (zO w4.heap.size 0 ((hK4.book hBkw11).all) ?_))))
  refine za (zO w.heap.size 0 ((hK1.book hBkw11).all) ?_)
  refine zc 3 [(42,(vA [(.slice a1 (hgt n+1) ca1),(.slice a2 (hgt n+1) ca2),(vI n),(.slice a_t n_t c_t),(vI (num n l+j)),(vI l)])),(41,(vI l)),(40,(vI (num n l+j)))] (za (zaa (Instr.box 146 (vA [(.slice a1 (hgt n+1) ca1),(.slice a2 (hgt n+1) ca2),(vI n),(.slice a_t n_t c_t),(vI (num n l+j)),(vI l)])) (vP w11.heap.size 0) ([(.slice a1 (hgt n+1) ca1),(.slice a2 (hgt n+1) ca2),(vI n),(.slice a_t n_t c_t),(vI (num n l+j)),(vI l)]) 146 ?_))
  intro w12 hBw12 hEw12 hzw12 hlw12
  refine zc 1 [(8,(vP w11.heap.size 0))] (zf (zb (ze (zd (zc 6 [(49,(.func (.func 82) #[(vP w11.heap.size 0)] #[])),(48,(vP w11.heap.size 0)),(47,(.func (.func 81) #[(vP w11.heap.size 0)] #[])),(46,(vP w11.heap.size 0)),(45,(.func (.func 80) #[(vP w11.heap.size 0)] #[])),(44,(vP w11.heap.size 0))] (za (zaa (Instr.buildSlice 148 3 #[(0,(.func (.func 80) #[(vP w11.heap.size 0)] #[])),(1,(.func (.func 81) #[(vP w11.heap.size 0)] #[])),(2,(.func (.func 82) #[(vP w11.heap.size 0)] #[]))]) (.slice (pA w12.heap.size 0) 3 3) [(.func (.func 80) #[(vP w11.heap.size 0)] #[]),(.func (.func 81) #[(vP w11.heap.size 0)] #[]),(.func (.func 82) #[(vP w11.heap.size 0)] #[])] 147 ?_)))))))
  intro w13 hBw13 hEw13 hzw13 hlw13
  refine zc 2 [(52,(vI 0)),(51,(vI 3))] (zf (zb (zr (zU (X:=Nat) (fun q=> [(52,(vI q))]) [10,11,53,54,55,56,57,58,59,60,61,62] (fun q w14=>q≤3∧(0<q→zdW n t l j=0)∧(1<q→zd5 n t l j=0)∧(2<q→zej n t l j=0)∧Ext w13 w14) (fun q=>3-q) 0 (by kernel_rfl) ⟨by omega,by omega,by omega,by omega,Ext.refl _⟩ ?_))))
  rintro q dw14 w14 ⟨hqq,hq0,hq1,hq2,hEl⟩
  have hzl:=hEl.size
  refine ze (zd (za (zF (some 53) (decide (((q:Nat):Int)<((3:Nat):Int))) (fun hc53=> ?_) (fun hc53=> ?_))))
  ·replace hc53:q<3:=by have:=zac hc53;omega
   refine zf (zb (ze (zv (zk (zb (ze (zr (ze (zd ?_)))))))))
   refine za (zah w12.heap.size 0 3 3 q 1 ?_)
   rcases (show q=0∨q=1∨q=2 by omega) with rfl | rfl | rfl
   ·refine za (zm w12.heap.size (0+0*1) ((hBw13.ext hEl).cell rfl) ?_)
    refine zc 1 [(10,(.func (.func 80) #[(vP w11.heap.size 0)] #[]))] (zf (zb (ze (zd (zc 1 [(56,(.func (.func 80) #[(vP w11.heap.size 0)] #[]))] ?_)))))
    have hK9:=((((hs1.book hBkw11).ext hEw12).ext hEw13).ext hEl)
    have hK10:=((((hs2.book hBkw11).ext hEw12).ext hEw13).ext hEl)
    have hK11:=(((((h_t.ext hEw).book hBkw11).ext hEw12).ext hEw13).ext hEl)
    refine za (zp (zt6 w11.heap.size n l j _ ((hBw12.ext hEw13).ext hEl) hK9 hK10 hK11 (by first | rfl | assumption) (by first | rfl | assumption) (by first | omega | decide) (by first | omega | decide) (by first | omega | decide) (by first | omega | decide) (by first | omega | decide)) ?_)
    rintro _ w15 ⟨rfl,hEw15⟩
    have hzw15:=hEw15.size
    refine zc 1 [(11,(vI (zdW n t l j)))] (zf (zb (ze (zd (zc 1 [(58,(vI (zdW n t l j)))] (za (zF (some 59) ((((zdW n t l j:Nat):Int) !=((0:Nat):Int))) (fun hc59=> ?_) (fun hc59=> ?_))))))))
    ·replace hc59:¬(zdW n t l j=0):=by have:=zbV hc59;omega
     refine zf (zb (zv (ze (zd ?_))))
     have hK12:=(((((hK4.book hBkw11).ext hEw12).ext hEw13).ext hEl).ext hEw15)
     refine za (zO w4.heap.size 0 (hK12.all) ?_)
     refine zc 1 [(61,(vI (zdW n t l j)))] ?_
     have hK13:=(((((hK2.book hBkw11).ext hEw12).ext hEw13).ext hEl).ext hEw15)
     refine za (zG 114 w1.heap.size 0 114 (vA [(.slice a1 (hgt n+1) ca1),(.slice a2 (hgt n+1) ca2)]) ([(.slice none 0 0),(.slice none 0 0)]) ([(.slice a1 (hgt n+1) ca1),(.slice a2 (hgt n+1) ca2)]) hK13 (by kernel_rfl) (by first | decide |(simp;done)|(simp;omega)) (by simp [Value.oneCell']) ?_)
     have hK14:=(((((hK2.book hBkw11).ext hEw12).ext hEw13).ext hEl).ext hEw15)
     intro w16 hBw16 hCw16
     have hzw16:=hCw16.size
     rw [zy _ _ (by kernel_rfl)] at hBw16
     have hK15:=((((((hK3.book hBkw11).ext hEw12).ext hEw13).ext hEl).ext hEw15).chg hCw16)
     refine za (zaj 39 w2.heap.size 0 39 (vI (zdW n t l j)) ([(vI 0)]) hK15 (by first | decide |(simp;done)|(simp;omega)) ?_)
     have hK16:=((((((hK3.book hBkw11).ext hEw12).ext hEw13).ext hEl).ext hEw15).chg hCw16)
     intro w17 hBw17 hCw17
     have hzw17:=hCw17.size
     replace hBw17:=hBw17.set1
     refine zf (zb (zj (zB (zw (zw (zB (zB ?_)))))))
     have hK17:=(((hK9.ext hEw15).chg hCw16).chg hCw17)
     have hK18:=(((hK10.ext hEw15).chg hCw16).chg hCw17)
     have hX3:Ext w w17:=(Ext.own (Ext.own (((((hEw.book hBkw11 (by omega)).trans hEw12).trans hEw13).trans hEl).trans hEw15) hCw16 (by omega)) hCw17 (by omega))
     exact zhx (((((((Kpt.refl _).ext hEw12).ext hEw13).ext hEl).ext hEw15).blk hK14 hCw16).blk hK16 hCw17) (Chg.then (Chg.then (((((Chg.refl _ _).trans hEw12.chg).trans hEw13.chg).trans hEl.chg).trans hEw15.chg) hCw16 (fun k hk hs=>by have h:k=_:=hs;first |(left;omega)|(exfalso;omega)|(right;simp [h];done))) hCw17 (fun k hk hs=>by have h:k=_:=hs;first |(left;omega)|(exfalso;omega)|(right;simp [h];done))) (⟨rfl,(hBw16.chg hCw17),(ziE hok hk (by rw [hlv,Nat.add_sub_cancel_left];exact zp9 hc59) hc59).symm▸hBw17,hK17,hK18,hX3⟩)
    ·replace hc59:zdW n t l j=0:=by have:=zbS hc59;omega
     refine zf (zb (zh (zk (zi (zb (zd (za (zo (some 62) .i64 (IntKind.i64.wrap (((0:Nat):Int)+((1:Nat):Int))) 1 (zu) ?_))))))))
     refine zc 1 [(52,(vI 1))] (zf (zz (zL (0+1) ?_ ?_)))
     ·exact ⟨by omega,fun _=>hc59,fun hh=>absurd hh (by omega),fun hh=>absurd hh (by omega),(hEl.trans hEw15)⟩
     ·first | omega |(dsimp only;omega)
   ·refine za (zm w12.heap.size (0+1*1) ((hBw13.ext hEl).cell rfl) ?_)
    refine zc 1 [(10,(.func (.func 81) #[(vP w11.heap.size 0)] #[]))] (zf (zb (ze (zd (zc 1 [(56,(.func (.func 81) #[(vP w11.heap.size 0)] #[]))] ?_)))))
    have hK19:=((((hs1.book hBkw11).ext hEw12).ext hEw13).ext hEl)
    have hK20:=((((hs2.book hBkw11).ext hEw12).ext hEw13).ext hEl)
    have hK21:=(((((h_t.ext hEw).book hBkw11).ext hEw12).ext hEw13).ext hEl)
    refine za (zp (zuu w11.heap.size n l j _ ((hBw12.ext hEw13).ext hEl) hK19 hK20 hK21 (by first | rfl | assumption) (by first | rfl | assumption) (by first | omega | decide) (by first | omega | decide) (by first | omega | decide) (by first | omega | decide) (by first | omega | decide)) ?_)
    rintro _ w18 ⟨rfl,hEw18⟩
    have hzw18:=hEw18.size
    refine zc 1 [(11,(vI (zd5 n t l j)))] (zf (zb (ze (zd (zc 1 [(58,(vI (zd5 n t l j)))] (za (zF (some 59) ((((zd5 n t l j:Nat):Int) !=((0:Nat):Int))) (fun hc59=> ?_) (fun hc59=> ?_))))))))
    ·replace hc59:¬(zd5 n t l j=0):=by have:=zbV hc59;omega
     refine zf (zb (zv (ze (zd ?_))))
     have hK22:=(((((hK4.book hBkw11).ext hEw12).ext hEw13).ext hEl).ext hEw18)
     refine za (zO w4.heap.size 0 (hK22.all) ?_)
     refine zc 1 [(61,(vI (zd5 n t l j)))] ?_
     have hK23:=(((((hK2.book hBkw11).ext hEw12).ext hEw13).ext hEl).ext hEw18)
     refine za (zG 114 w1.heap.size 0 114 (vA [(.slice a1 (hgt n+1) ca1),(.slice a2 (hgt n+1) ca2)]) ([(.slice none 0 0),(.slice none 0 0)]) ([(.slice a1 (hgt n+1) ca1),(.slice a2 (hgt n+1) ca2)]) hK23 (by kernel_rfl) (by first | decide |(simp;done)|(simp;omega)) (by simp [Value.oneCell']) ?_)
     have hK24:=(((((hK2.book hBkw11).ext hEw12).ext hEw13).ext hEl).ext hEw18)
     intro w19 hBw19 hCw19
     have hzw19:=hCw19.size
     rw [zy _ _ (by kernel_rfl)] at hBw19
     have hK25:=((((((hK3.book hBkw11).ext hEw12).ext hEw13).ext hEl).ext hEw18).chg hCw19)
     refine za (zaj 39 w2.heap.size 0 39 (vI (zd5 n t l j)) ([(vI 0)]) hK25 (by first | decide |(simp;done)|(simp;omega)) ?_)
     have hK26:=((((((hK3.book hBkw11).ext hEw12).ext hEw13).ext hEl).ext hEw18).chg hCw19)
     intro w20 hBw20 hCw20
     have hzw20:=hCw20.size
     replace hBw20:=hBw20.set1
     refine zf (zb (zj (zB (zw (zw (zB (zB ?_)))))))
     have hK27:=(((hK19.ext hEw18).chg hCw19).chg hCw20)
     have hK28:=(((hK20.ext hEw18).chg hCw19).chg hCw20)
     have hX4:Ext w w20:=(Ext.own (Ext.own (((((hEw.book hBkw11 (by omega)).trans hEw12).trans hEw13).trans hEl).trans hEw18) hCw19 (by omega)) hCw20 (by omega))
     exact zhx (((((((Kpt.refl _).ext hEw12).ext hEw13).ext hEl).ext hEw18).blk hK24 hCw19).blk hK26 hCw20) (Chg.then (Chg.then (((((Chg.refl _ _).trans hEw12.chg).trans hEw13.chg).trans hEl.chg).trans hEw18.chg) hCw19 (fun k hk hs=>by have h:k=_:=hs;first |(left;omega)|(exfalso;omega)|(right;simp [h];done))) hCw20 (fun k hk hs=>by have h:k=_:=hs;first |(left;omega)|(exfalso;omega)|(right;simp [h];done))) (⟨rfl,(hBw19.chg hCw20),(ziE hok hk (by rw [hlv,Nat.add_sub_cancel_left];exact zqi (hq0 (by omega)) hc59) hc59).symm▸hBw20,hK27,hK28,hX4⟩)
    ·replace hc59:zd5 n t l j=0:=by have:=zbS hc59;omega
     refine zf (zb (zh (zk (zi (zb (zd (za (zo (some 62) .i64 (IntKind.i64.wrap (((1:Nat):Int)+((1:Nat):Int))) 2 (zu) ?_))))))))
     refine zc 1 [(52,(vI 2))] (zf (zz (zL (1+1) ?_ ?_)))
     ·exact ⟨by omega,fun hh=>hq0 (by omega),fun _=>hc59,fun hh=>absurd hh (by omega),(hEl.trans hEw18)⟩
     ·first | omega |(dsimp only;omega)
   ·refine za (zm w12.heap.size (0+2*1) ((hBw13.ext hEl).cell rfl) ?_)
    refine zc 1 [(10,(.func (.func 82) #[(vP w11.heap.size 0)] #[]))] (zf (zb (ze (zd (zc 1 [(56,(.func (.func 82) #[(vP w11.heap.size 0)] #[]))] ?_)))))
    have hK29:=((((hs1.book hBkw11).ext hEw12).ext hEw13).ext hEl)
    have hK30:=((((hs2.book hBkw11).ext hEw12).ext hEw13).ext hEl)
    have hK31:=(((((h_t.ext hEw).book hBkw11).ext hEw12).ext hEw13).ext hEl)
    have hK32:=(((((hg0.ext hEw).book hBkw11).ext hEw12).ext hEw13).ext hEl)
    have hK33:=(((((hg1.ext hEw).book hBkw11).ext hEw12).ext hEw13).ext hEl)
    have hK34:=(((((hg2.ext hEw).book hBkw11).ext hEw12).ext hEw13).ext hEl)
    refine za (zp (ztE w11.heap.size n l j _ ((hBw12.ext hEw13).ext hEl) hK29 hK30 hK31 (by first | rfl | assumption) (by first | rfl | assumption) (by first | omega | decide) (by first | omega | decide) (by first | omega | decide) (by first | omega | decide) (by first | omega | decide) (fun h0 w hw=>⟨hp3 _ (by have:=zed h0 hl hj hw;omega),(zcM (zm7 (zsJ hok h0 hl hj hw)).1.2.2).1⟩) hK32 hK33 hK34) ?_)
    rintro _ w21 ⟨rfl,hEw21⟩
    have hzw21:=hEw21.size
    refine zc 1 [(11,(vI (zej n t l j)))] (zf (zb (ze (zd (zc 1 [(58,(vI (zej n t l j)))] (za (zF (some 59) ((((zej n t l j:Nat):Int) !=((0:Nat):Int))) (fun hc59=> ?_) (fun hc59=> ?_))))))))
    ·replace hc59:¬(zej n t l j=0):=by have:=zbV hc59;omega
     refine zf (zb (zv (ze (zd ?_))))
     have hK35:=(((((hK4.book hBkw11).ext hEw12).ext hEw13).ext hEl).ext hEw21)
     refine za (zO w4.heap.size 0 (hK35.all) ?_)
     refine zc 1 [(61,(vI (zej n t l j)))] ?_
     have hK36:=(((((hK2.book hBkw11).ext hEw12).ext hEw13).ext hEl).ext hEw21)
     refine za (zG 114 w1.heap.size 0 114 (vA [(.slice a1 (hgt n+1) ca1),(.slice a2 (hgt n+1) ca2)]) ([(.slice none 0 0),(.slice none 0 0)]) ([(.slice a1 (hgt n+1) ca1),(.slice a2 (hgt n+1) ca2)]) hK36 (by kernel_rfl) (by first | decide |(simp;done)|(simp;omega)) (by simp [Value.oneCell']) ?_)
     have hK37:=(((((hK2.book hBkw11).ext hEw12).ext hEw13).ext hEl).ext hEw21)
     intro w22 hBw22 hCw22
     have hzw22:=hCw22.size
     rw [zy _ _ (by kernel_rfl)] at hBw22
     have hK38:=((((((hK3.book hBkw11).ext hEw12).ext hEw13).ext hEl).ext hEw21).chg hCw22)
     refine za (zaj 39 w2.heap.size 0 39 (vI (zej n t l j)) ([(vI 0)]) hK38 (by first | decide |(simp;done)|(simp;omega)) ?_)
     have hK39:=((((((hK3.book hBkw11).ext hEw12).ext hEw13).ext hEl).ext hEw21).chg hCw22)
     intro w23 hBw23 hCw23
     have hzw23:=hCw23.size
     replace hBw23:=hBw23.set1
     refine zf (zb (zj (zB (zw (zw (zB (zB ?_)))))))
     have hK40:=(((hK29.ext hEw21).chg hCw22).chg hCw23)
     have hK41:=(((hK30.ext hEw21).chg hCw22).chg hCw23)
     have hX5:Ext w w23:=(Ext.own (Ext.own (((((hEw.book hBkw11 (by omega)).trans hEw12).trans hEw13).trans hEl).trans hEw21) hCw22 (by omega)) hCw23 (by omega))
     exact zhx (((((((Kpt.refl _).ext hEw12).ext hEw13).ext hEl).ext hEw21).blk hK37 hCw22).blk hK39 hCw23) (Chg.then (Chg.then (((((Chg.refl _ _).trans hEw12.chg).trans hEw13.chg).trans hEl.chg).trans hEw21.chg) hCw22 (fun k hk hs=>by have h:k=_:=hs;first |(left;omega)|(exfalso;omega)|(right;simp [h];done))) hCw23 (fun k hk hs=>by have h:k=_:=hs;first |(left;omega)|(exfalso;omega)|(right;simp [h];done))) (⟨rfl,(hBw22.chg hCw23),(ziE hok hk (by rw [hlv,Nat.add_sub_cancel_left];exact zqU (hq0 (by omega)) hc59) hc59).symm▸hBw23,hK40,hK41,hX5⟩)
    ·replace hc59:zej n t l j=0:=by have:=zbS hc59;omega
     refine zf (zb (zh (zk (zi (zb (zd (za (zo (some 62) .i64 (IntKind.i64.wrap (((2:Nat):Int)+((1:Nat):Int))) 3 (zu) ?_))))))))
     refine zc 1 [(52,(vI 3))] (zf (zz (zL (2+1) ?_ ?_)))
     ·exact ⟨by omega,fun hh=>hq0 (by omega),fun hh=>hq1 (by omega),fun _=>hc59,(hEl.trans hEw21)⟩
     ·first | omega |(dsimp only;omega)
  ·replace hc53:¬(q<3):=by have:=zad hc53;omega
   obtain rfl:q=3:=by omega
   refine zf (zb (ze (zh (zP (zq (zq (zH (zi ?_))))))))
   have hK42:=((((hK1.book hBkw11).ext hEw12).ext hEw13).ext hEl)
   have hK43:=((((hK2.book hBkw11).ext hEw12).ext hEw13).ext hEl)
   have hK44:=((((hK3.book hBkw11).ext hEw12).ext hEw13).ext hEl)
   have hK45:=((((hK4.book hBkw11).ext hEw12).ext hEw13).ext hEl)
   have hK46:=((((hs1.book hBkw11).ext hEw12).ext hEw13).ext hEl)
   have hK47:=((((hs2.book hBkw11).ext hEw12).ext hEw13).ext hEl)
   have hX6:Ext w w14:=((((hEw.book hBkw11 (by omega)).trans hEw12).trans hEw13).trans hEl)
   exact zdZ ((((Kpt.refl _).ext hEw12).ext hEw13).ext hEl) ((((Chg.refl _ _).trans hEw12.chg).trans hEw13.chg).trans hEl.chg) (⟨zqH hok (by rw [hlv,Nat.add_sub_cancel_left];exact zqD (hq0 (by omega)) (hq1 (by omega)) (hq2 (by omega))),hK42,hK43,hK44,hK45,hK46,hK47,hX6⟩)
 ·rintro D w24 hD ⟨hok,hK1,hK2,hK3,hK4,hs1,hs2,hEw⟩ hM
  have hzr:=hEw.size
  have hK1l:=hK1.lt
  have hK2l:=hK2.lt
  have hK3l:=hK3.lt
  have hK4l:=hK4.lt
  have hMl:=hM.lt
  refine zi (zb (ze (zd (za (zO w4.heap.size 0 (hK4.all) ?_)))))
  refine za (zG 114 w1.heap.size 0 114 (vA [(.slice a1 (hgt n+1) ca1),(.slice a2 (hgt n+1) ca2)]) ([(.slice none 0 0),(.slice none 0 0)]) ([(.slice a1 (hgt n+1) ca1),(.slice a2 (hgt n+1) ca2)]) hK2 (by kernel_rfl) (by first | decide |(simp;done)|(simp;omega)) (by simp [Value.oneCell']) ?_)
  intro w25 hBw25 hCw25
  have hzw25:=hCw25.size
  rw [zy _ _ (by kernel_rfl)] at hBw25
  refine za (zaj 39 w2.heap.size 0 39 (vI 0) ([(vI 0)]) (hK3.chg hCw25) (by first | decide |(simp;done)|(simp;omega)) ?_)
  intro w26 hBw26 hCw26
  have hzw26:=hCw26.size
  replace hBw26:=hBw26.set1
  refine zf (zb (zj ?_))
  obtain ⟨w27,hTw27,hCw27,hBkw27⟩:=zga (P:=Tryz.prog) ((hM.chg hCw25).chg hCw26)
  have hzw27:=hCw27.size
  refine zn5 hTw27 (zey (by kernel_rfl) (show zX Tryz.prog 64 _ _ (.cell 2 114) (vA [(.slice a1 (hgt n+1) ca1),(.slice a2 (hgt n+1) ca2)]) from ⟨⟨w1.heap.size,0,none⟩,(by kernel_rfl),zI (T:=114) (vs:= [(.slice a1 (hgt n+1) ca1),(.slice a2 (hgt n+1) ca2)]) (((hBw25.chg hCw26).book hBkw27)).all (by kernel_rfl)⟩) (show zX Tryz.prog 64 _ _ (.cell 3 39) (vI 0) from ⟨⟨w2.heap.size,0,none⟩,(by kernel_rfl),zcP (T:=39) (((hBw26.book hBkw27)).cell rfl)⟩)) ?_
  have hX7:Ext w w27:=((Ext.own (Ext.own hEw hCw25 (by omega)) hCw26 (by omega)).book hBkw27 (by omega))
  have hK48:=(((hs1.chg hCw25).chg hCw26).book hBkw27)
  have hK49:=(((hs2.chg hCw25).chg hCw26).book hBkw27)
  exact ⟨_,_,_,_,by rw [zqG hok],(hK48).now.mono (by omega) (Nat.le_refl _),(hK49).now.mono (by omega) (Nat.le_refl _),hX7⟩
 ·rintro D cc k w28 hD hk ⟨rfl,hX2,hX3,hs1,hs2,hEw⟩ hM
  have hzr:=hEw.size
  have hX2l:=hX2.lt;have hX3l:=hX3.lt
  have hMl:=hM.lt
  refine zj (zB (zw ?_))
  obtain ⟨w29,hTw29,hCw29,hBkw29⟩:=zga (P:=Tryz.prog) hM
  have hzw29:=hCw29.size
  exact zn5 hTw29 (zey (by kernel_rfl) (show zX Tryz.prog 64 _ _ (.cell 2 114) (vA [(.slice a1 (hgt n+1) ca1),(.slice a2 (hgt n+1) ca2)]) from ⟨⟨w1.heap.size,0,none⟩,(by kernel_rfl),zI (T:=114) (vs:= [(.slice a1 (hgt n+1) ca1),(.slice a2 (hgt n+1) ca2)]) ((hX2.book hBkw29)).all (by kernel_rfl)⟩) (show zX Tryz.prog 64 _ _ (.cell 3 39) (vI (zbQ n (zbi n t))) from ⟨⟨w2.heap.size,0,none⟩,(by kernel_rfl),zcP (T:=39) (((hX3.book hBkw29)).cell rfl)⟩)) (⟨_,_,_,_,rfl,((hs1.book hBkw29)).now.mono (by omega) (Nat.le_refl _),((hs2.book hBkw29)).now.mono (by omega) (Nat.le_refl _),(hEw.book hBkw29 (by omega))⟩)
theorem zq7 (n:Int) {lo_t hi_t:Nat} {a_t:Option Addr} {n_t c_t:Nat} {t:List Un} (w:World) (h_t:Ms unC 280 lo_t hi_t w a_t n_t c_t t) (hp0:¬(1≤n∧n≤4096)):
  Calls Tryz.prog 55 #[(vA [(.int .i64 n),(.slice a_t n_t c_t)])] w (Ret fun r w'=>∃(a0:Option Addr) (na0:Nat) (ca0:Nat) (a1:Option Addr) (na1:Nat) (ca1:Nat),r=(.tuple #[(vA [(.slice a0 na0 ca0),(.slice a1 na1 ca1)]),(vI 1)])∧Ext w w'):=by
 refine zeF (n:=64) (σ:= [(0,(vA [(.int .i64 n),(.slice a_t n_t c_t)]))]) Tryz.func55 rfl ?_
 replace h_t:=h_t.now;have hle_t:=h_t.le
 refine ze (zd (za (zaa (Instr.box 38 (vA [(.int .i64 n),(.slice a_t n_t c_t)])) (vP w.heap.size 0) ([(.int .i64 n),(.slice a_t n_t c_t)]) 38 ?_)))
 intro w1 hBw1 hEw1 hzw1 hlw1
 refine za (zaf ([(.slice none 0 0),(.slice none 0 0)]) 114 ?_)
 intro w2 hBw2 hEw2 hzw2 hlw2
 refine za (zaf ([(vI 0)]) 39 ?_)
 intro w3 hBw3 hEw3 hzw3 hlw3
 refine zf (zb (ze (zd (zc 1 [(13,(vP w.heap.size 0))] (za (zm w.heap.size 0 (((hBw1.ext hEw2).ext hEw3).cell rfl) ?_))))))
 refine za (zp (zpq n _ (by omega)) ?_)
 rintro _ w4 ⟨rfl,hEw4⟩
 have hzw4:=hEw4.size
 refine zc 3 [(17,(vI 1)),(16,(vA [(.slice none 0 0),(.slice none 0 0)])),(12,(.tuple #[(vA [(.slice none 0 0),(.slice none 0 0)]),(vI 1)]))] (zal ([(.slice none 0 0),(.slice none 0 0)]) 114 rfl (by simp [Value.oneCell']) ?_)
 intro w5 hBw5 hEw5 hzw5 hlw5
 refine zc 1 [(5,(vI 1))] (zf (zb (ze (ze (zd (zc 1 [(18,(vI 1))] (za (zae (some 19) (((1:Nat):Int) !=((0:Nat):Int)) true (zdf) ?_))))))))
 refine zf (zb (zv (ze (zd (za (zO w4.heap.size 0 (hBw5.all) ?_))))))
 refine zc 1 [(21,(vI 1))] ?_
 have hK1:=(((hBw2.ext hEw3).ext hEw4).ext hEw5)
 refine za (zG 114 w1.heap.size 0 114 (vA [(.slice none 0 0),(.slice none 0 0)]) ([(.slice none 0 0),(.slice none 0 0)]) ([(.slice none 0 0),(.slice none 0 0)]) hK1 (by kernel_rfl) (by first | decide |(simp;done)|(simp;omega)) (by simp [Value.oneCell']) ?_)
 have hK2:=(((hBw2.ext hEw3).ext hEw4).ext hEw5)
 intro w6 hBw6 hCw6
 have hzw6:=hCw6.size
 rw [zy _ _ (by kernel_rfl)] at hBw6
 have hK3:=(((hBw3.ext hEw4).ext hEw5).chg hCw6)
 refine za (zaj 39 w2.heap.size 0 39 (vI 1) ([(vI 0)]) hK3 (by first | decide |(simp;done)|(simp;omega)) ?_)
 have hK4:=(((hBw3.ext hEw4).ext hEw5).chg hCw6)
 intro w7 hBw7 hCw7
 have hzw7:=hCw7.size
 replace hBw7:=hBw7.set1
 refine zf (zb (zj (zw (zg2 (zey (by kernel_rfl) (show zX Tryz.prog 64 _ _ (.cell 2 114) (vA [(.slice none 0 0),(.slice none 0 0)]) from ⟨⟨w1.heap.size,0,none⟩,(by kernel_rfl),zI (T:=114) (vs:= [(.slice none 0 0),(.slice none 0 0)]) ((hBw6.chg hCw7)).all (by kernel_rfl)⟩) (show zX Tryz.prog 64 _ _ (.cell 3 39) (vI 1) from ⟨⟨w2.heap.size,0,none⟩,(by kernel_rfl),zcP (T:=39) ((hBw7).cell rfl)⟩)) ?_))))
 have hX1:Ext w w7:=(Ext.own (Ext.own ((((hEw1.trans hEw2).trans hEw3).trans hEw4).trans hEw5) hCw6 (by omega)) hCw7 (by omega))
 exact ⟨_,_,_,_,_,_,rfl,hX1⟩
theorem zqA (n:Nat) {lo_t hi_t:Nat} {a_t:Option Addr} {n_t c_t:Nat} {t:List Un} (w:World) (h_t:Ms unC 280 lo_t hi_t w a_t n_t c_t t) (hp0:1≤n) (hp1:n≤4096) (hp2:n_t≠tot n):
  Calls Tryz.prog 55 #[(vA [(vI n),(.slice a_t n_t c_t)])] w (Ret fun r w'=>∃(a0:Option Addr) (na0:Nat) (ca0:Nat) (a1:Option Addr) (na1:Nat) (ca1:Nat),r=(.tuple #[(vA [(.slice a0 na0 ca0),(.slice a1 na1 ca1)]),(vI 1)])∧Ext w w'):=by
 refine zeF (n:=64) (σ:= [(0,(vA [(vI n),(.slice a_t n_t c_t)]))]) Tryz.func55 rfl ?_
 replace h_t:=h_t.now;have hle_t:=h_t.le
 have h5:=zar n
 refine ze (zd (za (zaa (Instr.box 38 (vA [(vI n),(.slice a_t n_t c_t)])) (vP w.heap.size 0) ([(vI n),(.slice a_t n_t c_t)]) 38 ?_)))
 intro w1 hBw1 hEw1 hzw1 hlw1
 refine za (zaf ([(.slice none 0 0),(.slice none 0 0)]) 114 ?_)
 intro w2 hBw2 hEw2 hzw2 hlw2
 refine za (zaf ([(vI 0)]) 39 ?_)
 intro w3 hBw3 hEw3 hzw3 hlw3
 refine zf (zb (ze (zd (zc 1 [(13,(vP w.heap.size 0))] (za (zm w.heap.size 0 (((hBw1.ext hEw2).ext hEw3).cell rfl) ?_))))))
 refine za (zp (zlH n _ (by omega) (by omega)) ?_)
 rintro _ w4 ⟨a1,ca1,a2,ca2,rfl,hFz1_0,hFz1_1,hEw4⟩
 have hzw4:=hEw4.size
 have hlea1:=hFz1_0.le
 have hlea2:=hFz1_1.le
 refine zc 3 [(17,(vI 0)),(16,(vA [(.slice a1 (hgt n+1) ca1),(.slice a2 (hgt n+1) ca2)])),(12,(.tuple #[(vA [(.slice a1 (hgt n+1) ca1),(.slice a2 (hgt n+1) ca2)]),(vI 0)]))] (zal ([(.slice a1 (hgt n+1) ca1),(.slice a2 (hgt n+1) ca2)]) 114 rfl (by simp [Value.oneCell']) ?_)
 intro w5 hBw5 hEw5 hzw5 hlw5
 refine zc 1 [(5,(vI 0))] (zf (zb (ze (ze (zd (zc 1 [(18,(vI 0))] (za (zae (some 19) (((0:Nat):Int) !=((0:Nat):Int)) false (zax) ?_))))))))
 refine zf (zb (zh (zk (zb (ze (ze (zab 11 (fun w6 hEw6 hzw6 hT313=> ?_))))))))
 refine zg hT313 [(0,22,(vP w.heap.size 1))] 1 ?_
 have hK1:=(((((hBw1.ext hEw2).ext hEw3).ext hEw4).ext hEw5).ext hEw6)
 refine zA hT313 1 w.heap.size 1 (fun w' hC=>((hK1.ext hC).cell rfl)) (zg hT313 [(2,24,(vI n_t))] 1 (zaO hT313 3 w4.heap.size 0 (fun w' hC=>(((hBw5.ext hEw6).ext hC).all)) (zx 4 (zp (zie n _ ((hFz1_0.ext hEw5).ext hEw6) ((hFz1_1.ext hEw5).ext hEw6) (by first | rfl | assumption) (by first | rfl | assumption) (by first | omega | decide) (by first | omega | decide)) ?_))))
 rintro _ w7 ⟨rfl,hEw7⟩
 have hzw7:=hEw7.size
 refine ⟨.inr hEw7, ?_⟩
 refine zn (hw:=hEw7) hT313 5 vT (zaN (((n_t:Nat):Int) !=((tot n:Nat):Int)) (zdf)) (zg (hw:=hEw7) hT313 [(6,28,vT),(7,29,undef),(8,30,undef),(9,31,undef),(10,32,vT)] 5 (zE (zb (zv (ze (zd (za (zO w4.heap.size 0 (((hBw5.ext hEw6).ext hEw7).all) ?_))))))))
 have hK2:=(((((hBw2.ext hEw3).ext hEw4).ext hEw5).ext hEw6).ext hEw7)
 refine za (zG 114 w1.heap.size 0 114 (vA [(.slice a1 (hgt n+1) ca1),(.slice a2 (hgt n+1) ca2)]) ([(.slice none 0 0),(.slice none 0 0)]) ([(.slice a1 (hgt n+1) ca1),(.slice a2 (hgt n+1) ca2)]) hK2 (by kernel_rfl) (by first | decide |(simp;done)|(simp;omega)) (by simp [Value.oneCell']) ?_)
 have hK3:=(((((hBw2.ext hEw3).ext hEw4).ext hEw5).ext hEw6).ext hEw7)
 intro w8 hBw8 hCw8
 have hzw8:=hCw8.size
 rw [zy _ _ (by kernel_rfl)] at hBw8
 have hK4:=(((((hBw3.ext hEw4).ext hEw5).ext hEw6).ext hEw7).chg hCw8)
 refine za (zaj 39 w2.heap.size 0 39 (vI 1) ([(vI 0)]) hK4 (by first | decide |(simp;done)|(simp;omega)) ?_)
 have hK5:=(((((hBw3.ext hEw4).ext hEw5).ext hEw6).ext hEw7).chg hCw8)
 intro w9 hBw9 hCw9
 have hzw9:=hCw9.size
 replace hBw9:=hBw9.set1
 refine zf (zb (zj (zw (zg2 (zey (by kernel_rfl) (show zX Tryz.prog 64 _ _ (.cell 2 114) (vA [(.slice a1 (hgt n+1) ca1),(.slice a2 (hgt n+1) ca2)]) from ⟨⟨w1.heap.size,0,none⟩,(by kernel_rfl),zI (T:=114) (vs:= [(.slice a1 (hgt n+1) ca1),(.slice a2 (hgt n+1) ca2)]) ((hBw8.chg hCw9)).all (by kernel_rfl)⟩) (show zX Tryz.prog 64 _ _ (.cell 3 39) (vI 1) from ⟨⟨w2.heap.size,0,none⟩,(by kernel_rfl),zcP (T:=39) ((hBw9).cell rfl)⟩)) ?_))))
 have hX1:Ext w w9:=(Ext.own (Ext.own ((((((hEw1.trans hEw2).trans hEw3).trans hEw4).trans hEw5).trans hEw6).trans hEw7) hCw8 (by omega)) hCw9 (by omega))
 exact ⟨_,_,_,_,_,_,rfl,hX1⟩
theorem zqf (n:Nat) {lo_t hi_t:Nat} {a_t:Option Addr} {n_t c_t:Nat} {t:List Un} (w:World) (h_t:Ms unC 280 lo_t hi_t w a_t n_t c_t t) (hp0:1≤n) (hp1:n≤4096) (hp2:n_t=tot n) (hp3:¬(∀i,i<t.length→(t.getD i Un.zero).sl=0∨(t.getD i Un.zero).sl=1)):
  Calls Tryz.prog 55 #[(vA [(vI n),(.slice a_t n_t c_t)])] w (Ret fun r w'=>∃(a0:Option Addr) (na0:Nat) (ca0:Nat) (a1:Option Addr) (na1:Nat) (ca1:Nat),r=(.tuple #[(vA [(.slice a0 na0 ca0),(.slice a1 na1 ca1)]),(vI 1)])∧Ext w w'):=by
 refine zeF (n:=64) (σ:= [(0,(vA [(vI n),(.slice a_t n_t c_t)]))]) Tryz.func55 rfl ?_
 replace h_t:=h_t.now;have hle_t:=h_t.le
 have h5:=zar n
 refine ze (zd (za (zaa (Instr.box 38 (vA [(vI n),(.slice a_t n_t c_t)])) (vP w.heap.size 0) ([(vI n),(.slice a_t n_t c_t)]) 38 ?_)))
 intro w1 hBw1 hEw1 hzw1 hlw1
 refine za (zaf ([(.slice none 0 0),(.slice none 0 0)]) 114 ?_)
 intro w2 hBw2 hEw2 hzw2 hlw2
 refine za (zaf ([(vI 0)]) 39 ?_)
 intro w3 hBw3 hEw3 hzw3 hlw3
 refine zf (zb (ze (zd (zc 1 [(13,(vP w.heap.size 0))] (za (zm w.heap.size 0 (((hBw1.ext hEw2).ext hEw3).cell rfl) ?_))))))
 refine za (zp (zlH n _ (by omega) (by omega)) ?_)
 rintro _ w4 ⟨a1,ca1,a2,ca2,rfl,hFz1_0,hFz1_1,hEw4⟩
 have hzw4:=hEw4.size
 have hlea1:=hFz1_0.le
 have hlea2:=hFz1_1.le
 refine zc 3 [(17,(vI 0)),(16,(vA [(.slice a1 (hgt n+1) ca1),(.slice a2 (hgt n+1) ca2)])),(12,(.tuple #[(vA [(.slice a1 (hgt n+1) ca1),(.slice a2 (hgt n+1) ca2)]),(vI 0)]))] (zal ([(.slice a1 (hgt n+1) ca1),(.slice a2 (hgt n+1) ca2)]) 114 rfl (by simp [Value.oneCell']) ?_)
 intro w5 hBw5 hEw5 hzw5 hlw5
 refine zc 1 [(5,(vI 0))] (zf (zb (ze (ze (zd (zc 1 [(18,(vI 0))] (za (zae (some 19) (((0:Nat):Int) !=((0:Nat):Int)) false (zax) ?_))))))))
 refine zf (zb (zh (zk (zb (ze (ze (zab 11 (fun w6 hEw6 hzw6 hT357=> ?_))))))))
 refine zg hT357 [(0,22,(vP w.heap.size 1))] 1 ?_
 have hK1:=(((((hBw1.ext hEw2).ext hEw3).ext hEw4).ext hEw5).ext hEw6)
 refine zA hT357 1 w.heap.size 1 (fun w' hC=>((hK1.ext hC).cell rfl)) (zg hT357 [(2,24,(vI n_t))] 1 (zaO hT357 3 w4.heap.size 0 (fun w' hC=>(((hBw5.ext hEw6).ext hC).all)) (zx 4 (zp (zie n _ ((hFz1_0.ext hEw5).ext hEw6) ((hFz1_1.ext hEw5).ext hEw6) (by first | rfl | assumption) (by first | rfl | assumption) (by first | omega | decide) (by first | omega | decide)) ?_))))
 rintro _ w7 ⟨rfl,hEw7⟩
 have hzw7:=hEw7.size
 refine ⟨.inr hEw7, ?_⟩
 refine zn (hw:=hEw7) hT357 5 vF (zaN (((n_t:Nat):Int) !=((tot n:Nat):Int)) (zax)) (zg (hw:=hEw7) hT357 [(6,28,vF),(7,29,(vP w.heap.size 1))] 2 (zA (hw:=hEw7) hT357 8 w.heap.size 1 (fun w' hC=>((hK1.ext hC).cell rfl)) ?_))
 have hK2:=(((((((h_t.ext hEw1).ext hEw2).ext hEw3).ext hEw4).ext hEw5).ext hEw6).ext hEw7)
 refine zx 9 (zp (zsP _ hK2 (hp3)) ?_)
 rintro _ w8 ⟨rfl,hEw8⟩
 have hzw8:=hEw8.size
 have hX1:Ext w6 w8:=(hEw7.trans hEw8)
 refine ⟨.inr hX1, ?_⟩
 refine zg (hw:=hX1) hT357 [(10,32,vT)] 1 (zE (zb (zv (ze (zd ?_)))))
 have hK3:=(((hBw5.ext hEw6).ext hEw7).ext hEw8)
 refine za (zO w4.heap.size 0 (hK3.all) ?_)
 have hK4:=((((((hBw2.ext hEw3).ext hEw4).ext hEw5).ext hEw6).ext hEw7).ext hEw8)
 refine za (zG 114 w1.heap.size 0 114 (vA [(.slice a1 (hgt n+1) ca1),(.slice a2 (hgt n+1) ca2)]) ([(.slice none 0 0),(.slice none 0 0)]) ([(.slice a1 (hgt n+1) ca1),(.slice a2 (hgt n+1) ca2)]) hK4 (by kernel_rfl) (by first | decide |(simp;done)|(simp;omega)) (by simp [Value.oneCell']) ?_)
 have hK5:=((((((hBw2.ext hEw3).ext hEw4).ext hEw5).ext hEw6).ext hEw7).ext hEw8)
 intro w9 hBw9 hCw9
 have hzw9:=hCw9.size
 rw [zy _ _ (by kernel_rfl)] at hBw9
 have hK6:=((((((hBw3.ext hEw4).ext hEw5).ext hEw6).ext hEw7).ext hEw8).chg hCw9)
 refine za (zaj 39 w2.heap.size 0 39 (vI 1) ([(vI 0)]) hK6 (by first | decide |(simp;done)|(simp;omega)) ?_)
 have hK7:=((((((hBw3.ext hEw4).ext hEw5).ext hEw6).ext hEw7).ext hEw8).chg hCw9)
 intro w10 hBw10 hCw10
 have hzw10:=hCw10.size
 replace hBw10:=hBw10.set1
 refine zf (zb (zj (zw (zg2 (zey (by kernel_rfl) (show zX Tryz.prog 64 _ _ (.cell 2 114) (vA [(.slice a1 (hgt n+1) ca1),(.slice a2 (hgt n+1) ca2)]) from ⟨⟨w1.heap.size,0,none⟩,(by kernel_rfl),zI (T:=114) (vs:= [(.slice a1 (hgt n+1) ca1),(.slice a2 (hgt n+1) ca2)]) ((hBw9.chg hCw10)).all (by kernel_rfl)⟩) (show zX Tryz.prog 64 _ _ (.cell 3 39) (vI 1) from ⟨⟨w2.heap.size,0,none⟩,(by kernel_rfl),zcP (T:=39) ((hBw10).cell rfl)⟩)) ?_))))
 have hX2:Ext w w10:=(Ext.own (Ext.own (((((((hEw1.trans hEw2).trans hEw3).trans hEw4).trans hEw5).trans hEw6).trans hEw7).trans hEw8) hCw9 (by omega)) hCw10 (by omega))
 exact ⟨_,_,_,_,_,_,rfl,hX2⟩
theorem zrI (n:Int) {lo_t hi_t:Nat} {a_t:Option Addr} {n_t c_t:Nat} {t:List Un} (w:World) (h_t:Ms unC 280 lo_t hi_t w a_t n_t c_t t) (hp0:¬(1≤n∧n≤4096∧t.length=tot n.toNat∧zfv t=true)):
  Calls Tryz.prog 55 #[(vA [(.int .i64 n),(.slice a_t n_t c_t)])] w (Ret fun r w'=>∃(a0:Option Addr) (na0:Nat) (ca0:Nat) (a1:Option Addr) (na1:Nat) (ca1:Nat),r=(.tuple #[(vA [(.slice a0 na0 ca0),(.slice a1 na1 ca1)]),(vI 1)])∧Ext w w'):=by
 have hlt:=h_t.len_eq
 by_cases h:1≤n∧n≤4096
 ·obtain ⟨m,rfl⟩:=Int.eq_ofNat_of_zero_le (show 0≤n by omega)
  rw [Int.toNat_natCast] at hp0
  by_cases h2:n_t=tot m
  ·exact zqf m w h_t (by omega) (by omega) h2 (fun hh=>hp0 ⟨h.1,h.2,by omega,zdx.2 hh⟩)
  ·exact zqA m w h_t (by omega) (by omega) h2
 ·exact zq7 n w h_t h
theorem zte (n:Nat) {lo_t hi_t:Nat} {a_t:Option Addr} {n_t c_t:Nat} {t:List Un} (w:World) (h_t:Ms unC 280 lo_t hi_t w a_t n_t c_t t) (hp0:1≤n) (hp1:n≤4096) (hp2:n_t=tot n) (hp3:∀i,i<t.length→(t.getD i Un.zero).sl=0∨(t.getD i Un.zero).sl=1) (hg0:Gl 0 [vI 45,vI 33] w) (hg1:Gl 1 (w8C zbp) w) (hg2:Gl 3 (zay kA) w):
  Calls Tryz.prog 23 #[(vA [(vI n),(.slice a_t n_t c_t)])] w (Ret fun r w'=>r=(vI (zbQ n (zbi n t)))∧Ext w w'):=by
 refine zD (n:=11) (σ:= [(0,(vA [(vI n),(.slice a_t n_t c_t)]))]) Tryz.func23 rfl ?_
 replace h_t:=h_t.now;have hle_t:=h_t.le
 have hgl0:=hg0.lt
 have hgl1:=hg1.lt
 have hgl2:=hg2.lt
 have h5:=zar n
 have hlt:=h_t.len_eq
 have hts:=zaB hp1
 have hle:=h_t.le
 refine ze (zd (za (zaa (Instr.box 38 (vA [(vI n),(.slice a_t n_t c_t)])) (vP w.heap.size 0) ([(vI n),(.slice a_t n_t c_t)]) 38 ?_)))
 intro w1 hBw1 hEw1 hzw1 hlw1
 refine zc 1 [(2,(vI 0))] (zf (zb (ze (zd (za (zO w.heap.size 0 (hBw1.all) ?_))))))
 refine za (zp (zkI n _ (h_t.ext hEw1) (by omega) (by omega) (by omega) (by assumption) (hg0.ext hEw1) (hg1.ext hEw1) (hg2.ext hEw1)) ?_)
 rintro _ w2 ⟨a1,ca1,a2,ca2,rfl,hFz1_0,hFz1_1,hEw2⟩
 have hzw2:=hEw2.size
 have hlea1:=hFz1_0.le
 have hlea2:=hFz1_1.le
 refine zc 3 [(9,(vI (zbQ n (zbi n t)))),(8,(vA [(.slice a1 (hgt n+1) ca1),(.slice a2 (hgt n+1) ca2)])),(5,(.tuple #[(vA [(.slice a1 (hgt n+1) ca1),(.slice a2 (hgt n+1) ca2)]),(vI (zbQ n (zbi n t)))]))] (zal ([(.slice a1 (hgt n+1) ca1),(.slice a2 (hgt n+1) ca2)]) 114 rfl (by simp [Value.oneCell']) ?_)
 intro w3 hBw3 hEw3 hzw3 hlw3
 refine zc 1 [(4,(vI (zbQ n (zbi n t))))] (zf (zb (ze (zd (zc 2 [(2,(vI (zbQ n (zbi n t)))),(10,(vI (zbQ n (zbi n t))))] (zf (zb (zj (zl (vI (zbQ n (zbi n t))) ?_)))))))))
 exact ⟨rfl,((hEw1.trans hEw2).trans hEw3)⟩
theorem zsp (n:Int) {lo_t hi_t:Nat} {a_t:Option Addr} {n_t c_t:Nat} {t:List Un} (w:World) (h_t:Ms unC 280 lo_t hi_t w a_t n_t c_t t) (hp0:¬(1≤n∧n≤4096∧t.length=tot n.toNat∧zfv t=true)):
  Calls Tryz.prog 23 #[(vA [(.int .i64 n),(.slice a_t n_t c_t)])] w (Ret fun r w'=>r=(vI 1)∧Ext w w'):=by
 refine zD (n:=11) (σ:= [(0,(vA [(.int .i64 n),(.slice a_t n_t c_t)]))]) Tryz.func23 rfl ?_
 replace h_t:=h_t.now;have hle_t:=h_t.le
 refine ze (zd (za (zaa (Instr.box 38 (vA [(.int .i64 n),(.slice a_t n_t c_t)])) (vP w.heap.size 0) ([(.int .i64 n),(.slice a_t n_t c_t)]) 38 ?_)))
 intro w1 hBw1 hEw1 hzw1 hlw1
 refine zc 1 [(2,(vI 0))] (zf (zb (ze (zd (za (zO w.heap.size 0 (hBw1.all) ?_))))))
 refine za (zp (zrI n _ (h_t.ext hEw1) (by assumption)) ?_)
 rintro _ w2 ⟨a1,na1,ca1,a2,na2,ca2,rfl,hEw2⟩
 have hzw2:=hEw2.size
 refine zc 3 [(9,(vI 1)),(8,(vA [(.slice a1 na1 ca1),(.slice a2 na2 ca2)])),(5,(.tuple #[(vA [(.slice a1 na1 ca1),(.slice a2 na2 ca2)]),(vI 1)]))] (zal ([(.slice a1 na1 ca1),(.slice a2 na2 ca2)]) 114 rfl (by simp [Value.oneCell']) ?_)
 intro w3 hBw3 hEw3 hzw3 hlw3
 refine zc 1 [(4,(vI 1))] (zf (zb (ze (zd (zc 2 [(2,(vI 1)),(10,(vI 1))] (zf (zb (zj (zl (vI 1) ?_)))))))))
 exact ⟨rfl,((hEw1.trans hEw2).trans hEw3)⟩
theorem zi4 (n:Int) {lo_t hi_t:Nat} {a_t:Option Addr} {n_t c_t:Nat} {t:List Un} (w:World) (h_t:Ms unC 280 lo_t hi_t w a_t n_t c_t t) (hg0:Gl 0 [vI 45,vI 33] w) (hg1:Gl 1 (w8C zbp) w) (hg2:Gl 3 (zay kA) w):
  Calls Tryz.prog 23 #[(vA [(.int .i64 n),(.slice a_t n_t c_t)])] w (Ret fun r w'=>r=(vI (zc3 n t))∧Ext w w'):=by
 have hlt:=h_t.len_eq
 by_cases h:1≤n∧n≤4096∧t.length=tot n.toNat∧zfv t=true
 ·obtain ⟨m,rfl⟩:=Int.eq_ofNat_of_zero_le (show 0≤n by omega)
  have h2:=h.2.2;rw [Int.toNat_natCast] at h2
  rw [zf1 (by omega) (by omega) h2.1 h2.2];exact zte m w h_t (by omega) (by omega) (by omega) (zdx.1 h2.2) hg0 hg1 hg2
 ·rw [zld h];exact zsp n w h_t h
end Go.Proofs.YtkmhgepdhilllaaGreatDoor
namespace Go.Proofs.YtkmhgepdhilllaaGreatDoor
open Go Go.RowKit Go.Cs
set_option maxRecDepth 100000
theorem zlM (n:Nat) {lo_t hi_t:Nat} {a_t:Option Addr} {n_t c_t:Nat} {t:List Un} (b:Nat) (w:World) (h_t:Ms unC 280 lo_t hi_t w a_t n_t c_t t) (hp0:1≤n) (hp1:n≤4096) (hp2:n_t=tot n) (hp3:∀i,i<t.length→(t.getD i Un.zero).sl=0∨(t.getD i Un.zero).sl=1) (hp4:zbQ n (zbi n t)=0) (hp5:b<n) (hg0:Gl 0 [vI 45,vI 33] w) (hg1:Gl 1 (w8C zbp) w) (hg2:Gl 3 (zay kA) w):
  Calls Tryz.prog 50 #[(vA [(vI n),(.slice a_t n_t c_t)]),(vI b)] w (Ret fun r w'=>∃a0 ca0 a1 ca1,r=(.tuple #[(vA [(.slice a0 (hgt n+1) ca0),(.slice a1 (hgt n+1) ca1)]),(vI 0)])∧Es (nv .i64) w.heap.size w'.heap.size w' a0 (hgt n+1) ca0 (zaT n (hgt n+1))∧Es (nv .i64) w.heap.size w'.heap.size w' a1 (hgt n+1) ca1 (zbd n (hgt n+1))∧Ext w w'):=by
 refine zD (n:=27) (σ:= [(0,(vA [(vI n),(.slice a_t n_t c_t)])),(1,(vI b))]) Tryz.func50 rfl ?_
 replace h_t:=h_t.now;have hle_t:=h_t.le
 have hgl0:=hg0.lt
 have hgl1:=hg1.lt
 have hgl2:=hg2.lt
 have h5:=zar n
 have hlt:=h_t.len_eq
 have hts:=zaB hp1
 have hle:=h_t.le
 refine ze (zd (za (zaa (Instr.box 38 (vA [(vI n),(.slice a_t n_t c_t)])) (vP w.heap.size 0) ([(vI n),(.slice a_t n_t c_t)]) 38 ?_)))
 intro w1 hBw1 hEw1 hzw1 hlw1
 refine za (zaf ([(.slice none 0 0),(.slice none 0 0)]) 114 ?_)
 intro w2 hBw2 hEw2 hzw2 hlw2
 refine zc 1 [(5,(vI 0))] (zf (zb (ze (zd (za (zO w.heap.size 0 ((hBw1.ext hEw2).all) ?_))))))
 refine za (zp (zkI n _ ((h_t.ext hEw1).ext hEw2) (by omega) (by omega) (by omega) (by assumption) ((hg0.ext hEw1).ext hEw2) ((hg1.ext hEw1).ext hEw2) ((hg2.ext hEw1).ext hEw2)) ?_)
 rintro _ w3 ⟨a1,ca1,a2,ca2,rfl,hFz1_0,hFz1_1,hEw3⟩
 have hzw3:=hEw3.size
 have hlea1:=hFz1_0.le
 have hlea2:=hFz1_1.le
 rw [show zbQ n (zbi n t)=0 from hp4]
 refine zc 3 [(12,(vI 0)),(11,(vA [(.slice a1 (hgt n+1) ca1),(.slice a2 (hgt n+1) ca2)])),(8,(.tuple #[(vA [(.slice a1 (hgt n+1) ca1),(.slice a2 (hgt n+1) ca2)]),(vI 0)]))] (zal ([(.slice a1 (hgt n+1) ca1),(.slice a2 (hgt n+1) ca2)]) 114 rfl (by simp [Value.oneCell']) ?_)
 intro w4 hBw4 hEw4 hzw4 hlw4
 refine zc 1 [(7,(vI 0))] (zf (zb (ze (ze (zd (zc 4 [(16,(vI b)),(15,vT),(14,vT),(13,(vI 0))] (za (zae (some 17) (decide (((b:Nat):Int)<((0:Nat):Int))) false (zcH) ?_))))))))
 refine zc 3 [(20,(vP w.heap.size 0)),(19,(vI b)),(18,vF)] ?_
 have hK1:=(((hBw1.ext hEw2).ext hEw3).ext hEw4)
 refine za (zm w.heap.size 0 (hK1.cell rfl) ?_)
 refine za (zae (some 22) (decide (((b:Nat):Int)≥((n:Nat):Int))) false (zcH) ?_)
 refine zc 2 [(24,vF),(23,vF)] (zf (zb (zh (zk (zb (ze (zd (za (zO w3.heap.size 0 (hBw4.all) ?_)))))))))
 refine zc 1 [(26,(vI 0))] (za (zG 114 w1.heap.size 0 114 (vA [(.slice a1 (hgt n+1) ca1),(.slice a2 (hgt n+1) ca2)]) ([(.slice none 0 0),(.slice none 0 0)]) ([(.slice a1 (hgt n+1) ca1),(.slice a2 (hgt n+1) ca2)]) ((hBw2.ext hEw3).ext hEw4) (by kernel_rfl) (by first | decide |(simp;done)|(simp;omega)) (by simp [Value.oneCell']) ?_))
 intro w5 hBw5 hCw5
 have hzw5:=hCw5.size
 rw [zy _ _ (by kernel_rfl)] at hBw5
 refine zc 1 [(5,(vI 0))] (zf (zb (zj (za7 (show zX Tryz.prog 27 _ _ (.cell 4 114) (vA [(.slice a1 (hgt n+1) ca1),(.slice a2 (hgt n+1) ca2)]) from ⟨⟨w1.heap.size,0,none⟩,(by kernel_rfl),zI (T:=114) (vs:= [(.slice a1 (hgt n+1) ca1),(.slice a2 (hgt n+1) ca2)]) (hBw5).all (by kernel_rfl)⟩) (show zX Tryz.prog 27 _ _ (.tmp 5) (vI 0) by (show _=_;kernel_rfl)) ?_))))
 have hX1:Ext w w5:=(Ext.own (((hEw1.trans hEw2).trans hEw3).trans hEw4) hCw5 (by omega))
 exact ⟨_,_,_,_,rfl,(((hFz1_0.ext hEw4).chg hCw5)).now.mono (by omega) (Nat.le_refl _),(((hFz1_1.ext hEw4).chg hCw5)).now.mono (by omega) (Nat.le_refl _),hX1⟩
theorem zer (n:Nat) {lo_t hi_t:Nat} {a_t:Option Addr} {n_t c_t:Nat} {t:List Un} (b:Nat) (w:World) (h_t:Ms unC 280 lo_t hi_t w a_t n_t c_t t) (hp0:1≤n) (hp1:n≤4096) (hp2:n_t=tot n) (hp3:∀i,i<t.length→(t.getD i Un.zero).sl=0∨(t.getD i Un.zero).sl=1) (hp4:zbQ n (zbi n t)=0) (hp5:b<n) (hg0:Gl 0 [vI 45,vI 33] w) (hg1:Gl 1 (w8C zbp) w) (hg2:Gl 3 (zay kA) w):
  Calls Tryz.prog 34 #[(vA [(vI n),(.slice a_t n_t c_t)]),(vI b)] w (Ret fun r w'=>r=(.tuple #[(vI (zaZ (t.getD (b/4) Un.zero) (b%4))),(vI 0)])∧Ext w w'):=by
 refine zD (n:=26) (σ:= [(0,(vA [(vI n),(.slice a_t n_t c_t)])),(1,(vI b))]) Tryz.func34 rfl ?_
 replace h_t:=h_t.now;have hle_t:=h_t.le
 have hgl0:=hg0.lt
 have hgl1:=hg1.lt
 have hgl2:=hg2.lt
 have h5:=zar n
 have hlt:=h_t.len_eq
 have hts:=zaB hp1
 have hle:=h_t.le
 have hb0:b/4<cnt n 0:=zbu hp5 0
 have hb4:=zaG (n:=n) (l:=0) (j:=b/4) (Nat.zero_le _) hb0
 have hn0:num n 0=0:=rfl
 refine ze (zd (za (zaa (Instr.box 38 (vA [(vI n),(.slice a_t n_t c_t)])) (vP w.heap.size 0) ([(vI n),(.slice a_t n_t c_t)]) 38 ?_)))
 intro w1 hBw1 hEw1 hzw1 hlw1
 refine zc 2 [(5,(vI 0)),(4,(vI 0))] (zf (zb (ze (ze (zd (za (zO w.heap.size 0 (hBw1.all) ?_)))))))
 refine zc 1 [(10,(vI b))] (za (zp (zlM n b _ (h_t.ext hEw1) (by omega) (by omega) (by omega) (by assumption) (by assumption) (by omega) (hg0.ext hEw1) (hg1.ext hEw1) (hg2.ext hEw1)) ?_))
 rintro _ w2 ⟨a1,ca1,a2,ca2,rfl,hFz1_0,hFz1_1,hEw2⟩
 have hzw2:=hEw2.size
 have hlea1:=hFz1_0.le
 have hlea2:=hFz1_1.le
 refine zc 3 [(13,(vI 0)),(12,(vA [(.slice a1 (hgt n+1) ca1),(.slice a2 (hgt n+1) ca2)])),(8,(.tuple #[(vA [(.slice a1 (hgt n+1) ca1),(.slice a2 (hgt n+1) ca2)]),(vI 0)]))] (zal ([(.slice a1 (hgt n+1) ca1),(.slice a2 (hgt n+1) ca2)]) 114 rfl (by simp [Value.oneCell']) ?_)
 intro w3 hBw3 hEw3 hzw3 hlw3
 refine zc 1 [(7,(vI 0))] (zf (zb (ze (zd (zc 1 [(14,(vI 0))] (za (zae (some 15) (((0:Nat):Int) !=((0:Nat):Int)) false (zax) ?_)))))))
 refine zf (zb (zh (zk (zb (ze (zd (zc 1 [(17,(vP w.heap.size 1))] (za (zm w.heap.size 1 (((hBw1.ext hEw2).ext hEw3).cell rfl) ?_)))))))))
 refine zc 1 [(19,(vI b))] (za (zo (some 20) .i64 (IntKind.i64.wrap (((b:Nat):Int).tdiv ((4:Nat):Int))) (b/4) (zu (zec _ _)) ?_))
 obtain ⟨b1,o1,rfl⟩:=h_t.addr (by omega) (by decide)
 refine za (zah b1 o1 n_t c_t (b/4) 280 ?_)
 have hK1:=(((h_t.ext hEw1).ext hEw2).ext hEw3)
 refine za (zT b1 (o1+(b/4)*280) (hK1.at Un.zero (by omega)) (zK _) ?_)
 refine zc 1 [(23,(vI b))] (za (zo (some 24) .i64 (((b:Nat):Int).tmod ((4:Nat):Int)) (b%4) (zcZ _ _) ?_))
 refine za (zp (zop (t.getD (b/4) Un.zero) (b%4) _ (by omega)) ?_)
 rintro _ w4 ⟨rfl,hEw4⟩
 have hzw4:=hEw4.size
 refine zc 2 [(5,(vI 0)),(4,(vI (zaZ (t.getD (b/4) Un.zero) (b%4))))] (zf (zb (zj (zl (.tuple #[(vI (zaZ (t.getD (b/4) Un.zero) (b%4))),(vI 0)]) ?_))))
 have hX1:Ext w w4:=(((hEw1.trans hEw2).trans hEw3).trans hEw4)
 exact ⟨rfl,hX1⟩
theorem zl5 (n:Nat) {lo_t hi_t:Nat} {a_t:Option Addr} {n_t c_t:Nat} {t:List Un} (b:Nat) (w:World) (h_t:Ms unC 280 lo_t hi_t w a_t n_t c_t t) (hp0:1≤n) (hp1:n≤4096) (hp2:n_t=tot n) (hp3:∀i,i<t.length→(t.getD i Un.zero).sl=0∨(t.getD i Un.zero).sl=1) (hp4:zbQ n (zbi n t)=0) (hp5:b<n) (hg0:Gl 0 [vI 45,vI 33] w) (hg1:Gl 1 (w8C zbp) w) (hg2:Gl 3 (zay kA) w):
  Calls Tryz.prog 35 #[(vA [(vI n),(.slice a_t n_t c_t)]),(vI b)] w (Ret fun r w'=>r=(.tuple #[(vA (zM ((t.getD (b/4) Un.zero).nd.rs.get (b%4)))),(vI 0)])∧Ext w w'):=by
 refine zD (n:=29) (σ:= [(0,(vA [(vI n),(.slice a_t n_t c_t)])),(1,(vI b))]) Tryz.func35 rfl ?_
 replace h_t:=h_t.now;have hle_t:=h_t.le
 have hgl0:=hg0.lt
 have hgl1:=hg1.lt
 have hgl2:=hg2.lt
 have h5:=zar n
 have hlt:=h_t.len_eq
 have hts:=zaB hp1
 have hle:=h_t.le
 have hb0:b/4<cnt n 0:=zbu hp5 0
 have hb4:=zaG (n:=n) (l:=0) (j:=b/4) (Nat.zero_le _) hb0
 have hn0:num n 0=0:=rfl
 refine ze (zd (za (zaa (Instr.box 38 (vA [(vI n),(.slice a_t n_t c_t)])) (vP w.heap.size 0) ([(vI n),(.slice a_t n_t c_t)]) 38 ?_)))
 intro w1 hBw1 hEw1 hzw1 hlw1
 refine za (zaf (zM Rec.zero) 68 ?_)
 intro w2 hBw2 hEw2 hzw2 hlw2
 refine zc 1 [(5,(vI 0))] (zf (zb (ze (ze (zd (za (zO w.heap.size 0 ((hBw1.ext hEw2).all) ?_)))))))
 refine zc 1 [(10,(vI b))] (za (zp (zlM n b _ ((h_t.ext hEw1).ext hEw2) (by omega) (by omega) (by omega) (by assumption) (by assumption) (by omega) ((hg0.ext hEw1).ext hEw2) ((hg1.ext hEw1).ext hEw2) ((hg2.ext hEw1).ext hEw2)) ?_))
 rintro _ w3 ⟨a1,ca1,a2,ca2,rfl,hFz1_0,hFz1_1,hEw3⟩
 have hzw3:=hEw3.size
 have hlea1:=hFz1_0.le
 have hlea2:=hFz1_1.le
 refine zc 3 [(13,(vI 0)),(12,(vA [(.slice a1 (hgt n+1) ca1),(.slice a2 (hgt n+1) ca2)])),(8,(.tuple #[(vA [(.slice a1 (hgt n+1) ca1),(.slice a2 (hgt n+1) ca2)]),(vI 0)]))] (zal ([(.slice a1 (hgt n+1) ca1),(.slice a2 (hgt n+1) ca2)]) 114 rfl (by simp [Value.oneCell']) ?_)
 intro w4 hBw4 hEw4 hzw4 hlw4
 refine zc 1 [(7,(vI 0))] (zf (zb (ze (zd (zc 1 [(14,(vI 0))] (za (zae (some 15) (((0:Nat):Int) !=((0:Nat):Int)) false (zax) ?_)))))))
 refine zf (zb (zh (zk (zb (ze (zd (zc 1 [(18,(vP w.heap.size 1))] ?_)))))))
 have hK1:=(((hBw1.ext hEw2).ext hEw3).ext hEw4)
 refine za (zm w.heap.size 1 (hK1.cell rfl) ?_)
 refine zc 1 [(20,(vI b))] (za (zo (some 21) .i64 (IntKind.i64.wrap (((b:Nat):Int).tdiv ((4:Nat):Int))) (b/4) (zu (zec _ _)) ?_))
 refine zc 1 [(22,(vI b))] (za (zo (some 23) .i64 (((b:Nat):Int).tmod ((4:Nat):Int)) (b%4) (zcZ _ _) ?_))
 obtain ⟨b1,o1,rfl⟩:=h_t.addr (by omega) (by decide)
 refine za (zah b1 o1 n_t c_t (b/4) 280 ?_)
 refine zc 2 [(26,(vP b1 (o1+(b/4)*280+2))),(25,(vP b1 (o1+(b/4)*280)))] (za (zbg b1 (o1+(b/4)*280+2) (b%4) 4 35 ?_))
 have hK2:=((((h_t.ext hEw1).ext hEw2).ext hEw3).ext hEw4)
 refine za (zT b1 (o1+(b/4)*280+2+(b%4)*35) ((hK2.at Un.zero (by omega)).sub2 2 _ (zM ((t.getD (b/4) Un.zero).nd.rs.get (b%4))) (ztA (by omega))) (zZ _) ?_)
 refine za (zG 68 w1.heap.size 0 68 (vA (zM ((t.getD (b/4) Un.zero).nd.rs.get (b%4)))) (zM Rec.zero) (zM ((t.getD (b/4) Un.zero).nd.rs.get (b%4))) ((hBw2.ext hEw3).ext hEw4) (by rw [zZ];kernel_rfl) (by first |(simp;done)|(simp;omega)) (zbb _) ?_)
 intro w5 hBw5 hCw5
 have hzw5:=hCw5.size
 rw [zy _ _ (by simp)] at hBw5
 refine zc 1 [(5,(vI 0))] (zf (zb (zj (za7 (show zX Tryz.prog 29 _ _ (.cell 4 68) (vA (zM ((t.getD (b/4) Un.zero).nd.rs.get (b%4)))) from ⟨⟨w1.heap.size,0,none⟩,(by kernel_rfl),zI (T:=68) (vs:=zM ((t.getD (b/4) Un.zero).nd.rs.get (b%4))) (hBw5).all (by rw [zZ];kernel_rfl)⟩) (show zX Tryz.prog 29 _ _ (.tmp 5) (vI 0) by (show _=_;kernel_rfl)) ?_))))
 have hX1:Ext w w5:=(Ext.own (((hEw1.trans hEw2).trans hEw3).trans hEw4) hCw5 (by omega))
 exact ⟨rfl,hX1⟩
theorem zzt (n:Nat) {lo_t hi_t:Nat} {a_t:Option Addr} {n_t c_t:Nat} {t:List Un} (w:World) (h_t:Ms unC 280 lo_t hi_t w a_t n_t c_t t) (hp0:1≤n) (hp1:n≤4096) (hp2:n_t=tot n) (hp3:∀i,i<t.length→(t.getD i Un.zero).sl=0∨(t.getD i Un.zero).sl=1) (hp4:zbQ n (zbi n t)=0) (hg0:Gl 0 [vI 45,vI 33] w) (hg1:Gl 1 (w8C zbp) w) (hg2:Gl 3 (zay kA) w):
  Calls Tryz.prog 36 #[(vA [(vI n),(.slice a_t n_t c_t)])] w (Ret fun r w'=>r=(.tuple #[(vA (zR (zS (zN (t.getD (num n (hgt n)) Un.zero).nd)))),(vI 0)])∧Ext w w'):=by
 refine zD (n:=23) (σ:= [(0,(vA [(vI n),(.slice a_t n_t c_t)]))]) Tryz.func36 rfl ?_
 replace h_t:=h_t.now;have hle_t:=h_t.le
 have hgl0:=hg0.lt
 have hgl1:=hg1.lt
 have hgl2:=hg2.lt
 have h5:=zar n
 have hlt:=h_t.len_eq
 have hts:=zaB hp1
 have hle:=h_t.le
 have htt:=zcF hp0 hp1
 have hce:zc3 (n:Int) t=0:=by rw [zf1 hp0 hp1 (by omega) (zdx.2 hp3)];exact hp4
 have hcp:=zeE hp0 hp1
 have hchk:zaD (t.getD (num n (hgt n)) Un.zero).nd=0:=(zcM (zm7 (zk6 hp4 (Nat.le_refl _) (show 0<cnt n (hgt n) by omega))).1.2.2).1
 refine ze (zd (za (zaa (Instr.box 38 (vA [(vI n),(.slice a_t n_t c_t)])) (vP w.heap.size 0) ([(vI n),(.slice a_t n_t c_t)]) 38 ?_)))
 intro w1 hBw1 hEw1 hzw1 hlw1
 refine za (zaf (zR Dig.zero) 59 ?_)
 intro w2 hBw2 hEw2 hzw2 hlw2
 refine zc 1 [(3,(vI 0))] (zf (zb (ze (ze (zd (za (zO w.heap.size 0 ((hBw1.ext hEw2).all) ?_)))))))
 refine za (zp (zi4 ((n:Nat):Int) _ ((h_t.ext hEw1).ext hEw2) ((hg0.ext hEw1).ext hEw2) ((hg1.ext hEw1).ext hEw2) ((hg2.ext hEw1).ext hEw2)) ?_)
 rintro _ w3 ⟨rfl,hEw3⟩
 have hzw3:=hEw3.size
 rw [show zc3 ((n:Nat):Int) t=0 from hce]
 refine zc 1 [(4,(vI 0))] (zf (zb (ze (zd (zc 2 [(8,vF),(7,(vI 0))] (zf (zb (zh (zk ?_)))))))))
 refine zb (ze (zd (zc 1 [(11,(vP w.heap.size 1))] (za (zm w.heap.size 1 (((hBw1.ext hEw2).ext hEw3).cell rfl) ?_)))))
 refine zc 1 [(13,(vP w.heap.size 1))] (za (zm w.heap.size 1 (((hBw1.ext hEw2).ext hEw3).cell rfl) ?_))
 refine zc 1 [(15,(vI n_t))] (za (zo (some 16) .i64 (IntKind.i64.wrap (((n_t:Nat):Int)-((1:Nat):Int))) (num n (hgt n)) (zu) ?_))
 obtain ⟨b1,o1,rfl⟩:=h_t.addr (by omega) (by decide)
 refine za (zah b1 o1 n_t c_t (num n (hgt n)) 280 ?_)
 refine zc 1 [(18,(vP b1 (o1+(num n (hgt n))*280)))] ?_
 have hK1:=(((h_t.ext hEw1).ext hEw2).ext hEw3)
 refine za (zT b1 (o1+(num n (hgt n))*280) ((hK1.at Un.zero (by omega)).sub 0 (zJ (t.getD (num n (hgt n)) Un.zero).nd) (zgc _)) (zQ _) ?_)
 have hK2:=(((hg0.ext hEw1).ext hEw2).ext hEw3)
 have hK3:=(((hg1.ext hEw1).ext hEw2).ext hEw3)
 have hK4:=(((hg2.ext hEw1).ext hEw2).ext hEw3)
 refine za (zp (zfj ((t.getD (num n (hgt n)) Un.zero).nd) _ (by assumption) hK2 hK3 hK4) ?_)
 rintro _ w4 ⟨rfl,hEw4⟩
 have hzw4:=hEw4.size
 refine zc 2 [(22,(vI 0)),(21,(vA (zR (zS (zN ((t.getD (num n (hgt n)) Un.zero).nd))))))] (za (zG 59 w1.heap.size 0 59 (vA (zR (zS (zN ((t.getD (num n (hgt n)) Un.zero).nd))))) (zR Dig.zero) (zR (zS (zN ((t.getD (num n (hgt n)) Un.zero).nd)))) ((hBw2.ext hEw3).ext hEw4) (by rw [zam];kernel_rfl) (by first |(simp;done)|(simp;omega)) (zbW _) ?_))
 intro w5 hBw5 hCw5
 have hzw5:=hCw5.size
 rw [zy _ _ (by simp)] at hBw5
 refine zc 1 [(3,(vI 0))] (zf (zb (zj (za7 (show zX Tryz.prog 23 _ _ (.cell 2 59) (vA (zR (zS (zN ((t.getD (num n (hgt n)) Un.zero).nd))))) from ⟨⟨w1.heap.size,0,none⟩,(by kernel_rfl),zI (T:=59) (vs:=zR (zS (zN ((t.getD (num n (hgt n)) Un.zero).nd)))) (hBw5).all (by rw [zam];kernel_rfl)⟩) (show zX Tryz.prog 23 _ _ (.tmp 3) (vI 0) by (show _=_;kernel_rfl)) ?_))))
 have hX1:Ext w w5:=(Ext.own (((hEw1.trans hEw2).trans hEw3).trans hEw4) hCw5 (by omega))
 exact ⟨rfl,hX1⟩
theorem zpr (n:Int) {lo_t hi_t:Nat} {a_t:Option Addr} {n_t c_t:Nat} {t:List Un} (w:World) (h_t:Ms unC 280 lo_t hi_t w a_t n_t c_t t) (hp0:0<n_t) (hp1:n_t≤100000):
  Calls Tryz.prog 48 #[(vA [(.int .i64 n),(.slice a_t n_t c_t)])] w (Ret fun r w'=>∃a1,r=(vA [(.int .i64 n),(.slice (pA a1 0) n_t n_t)])∧w.heap.size≤a1∧Blk w' a1 (t.flatMap unC) 77∧n_t=List.length t∧n_t≤maxLen∧Ext w w'):=by
 refine zD (n:=17) (σ:= [(0,(vA [(.int .i64 n),(.slice a_t n_t c_t)]))]) Tryz.func48 rfl ?_
 replace h_t:=h_t.now;have hle_t:=h_t.le
 have hlt:=h_t.len_eq
 have hle:=h_t.le
 refine ze (zd (za (zaa (Instr.box 38 (vA [(.int .i64 n),(.slice a_t n_t c_t)])) (vP w.heap.size 0) ([(.int .i64 n),(.slice a_t n_t c_t)]) 38 ?_)))
 intro w1 hBw1 hEw1 hzw1 hlw1
 refine za (zaf ([(vI 0),(.slice none 0 0)]) 38 ?_)
 intro w2 hBw2 hEw2 hzw2 hlw2
 refine zf (zb (ze (zab 9 (fun w3 hEw3 hzw3 hT414=> ?_))))
 refine zg hT414 [(0,4,(vP w.heap.size 0))] 1 (zA hT414 1 w.heap.size 0 (fun w' hC=>((((hBw1.ext hEw2).ext hEw3).ext hC).cell rfl)) (zg hT414 [(2,6,(vP w.heap.size 1))] 1 (zA hT414 3 w.heap.size 1 (fun w' hC=>((((hBw1.ext hEw2).ext hEw3).ext hC).cell rfl)) (zg hT414 [(4,8,(vI n_t))] 1 (zbt 5 7 ?_ ?_)))))
 ·refine zcx (some 9) 36 77 280 384 n_t n_t .i64 .i64 (vA (unC Un.zero)) (by omega) (by omega) (by omega) ?_
  rw [zdT (f:=unC) (x:=Un.zero) rfl (zK _) (by decide)]
  intro w4 hBw4 hEw4
  have hzw4:=hEw4.size;have hlw4:=hBw4.lt
  have hmw4:Ms unC 280 w3.heap.size (w3.heap.size+1) w4 (pA w3.heap.size 0) n_t n_t (List.replicate n_t Un.zero):=Ms.of_pre (r:= []) (by rw [List.append_nil];exact hBw4) zK (by simp) (Nat.le_refl _) (by simp only [maxLen];omega) (Nat.le_refl _) (Nat.lt_succ_self _)
  refine ⟨.inr hEw4, ?_⟩
  refine zg (hw:=hEw4) hT414 [(6,10,(vA [(.int .i64 n),(.slice (pA w3.heap.size 0) n_t n_t)]))] 1 (zx 7 (zaf ([(vI 0),(.slice none 0 0)]) 38 ?_))
  intro w5 hBw5 hEw5 hzw5 hlw5
  have hX1:Ext w3 w5:=(hEw4.trans hEw5)
  refine ⟨.inr hX1, ?_⟩
  refine zx 8 (zG 38 w4.heap.size 0 38 (vA [(.int .i64 n),(.slice (pA w3.heap.size 0) n_t n_t)]) ([(vI 0),(.slice none 0 0)]) ([(.int .i64 n),(.slice (pA w3.heap.size 0) n_t n_t)]) hBw5 (by kernel_rfl) (by first | decide |(simp;done)|(simp;omega)) (by simp [Value.oneCell']) ?_)
  intro w6 hBw6 hCw6
  have hzw6:=hCw6.size
  rw [zy _ _ (by kernel_rfl)] at hBw6
  refine ⟨.inl (by kernel_rfl), ?_⟩
  refine zE (zb (ze (zd (zc 1 [(11,(vP w4.heap.size 1))] (za (zm w4.heap.size 1 (hBw6.cell rfl) ?_))))))
  refine zc 1 [(13,(vP w.heap.size 1))] ?_
  have hK1:=(((((hBw1.ext hEw2).ext hEw3).ext hEw4).ext hEw5).chg hCw6)
  refine za (zm w.heap.size 1 (hK1.cell rfl) ?_)
  have hK2:=((((((h_t.ext hEw1).ext hEw2).ext hEw3).ext hEw4).ext hEw5).chg hCw6)
  refine za (zlE (dc:=n_t) (some 15) 36 36 3 77 w3.heap.size ((hBw4.ext hEw5).chg hCw6) hK2 (by rw [zaE zK];first | done |(simp only [List.length_replicate];done)|(have:=(show List.length (List.replicate n_t Un.zero)=n_t from by rw [List.length_replicate]);omega)) zbh (by omega) ?_ (by decide))
  intro w7 hBw7 hCw7
  have hK3:=((((((h_t.ext hEw1).ext hEw2).ext hEw3).ext hEw4).ext hEw5).chg hCw6)
  have hzw7:=hCw7.size
  refine zf (zb (ze (zd (za (zO w4.heap.size 0 ((hBw6.chg hCw7).all) ?_)))))
  have hK4:=(((((hBw2.ext hEw3).ext hEw4).ext hEw5).chg hCw6).chg hCw7)
  refine za (zG 38 w1.heap.size 0 38 (vA [(.int .i64 n),(.slice (pA w3.heap.size 0) n_t n_t)]) ([(vI 0),(.slice none 0 0)]) ([(.int .i64 n),(.slice (pA w3.heap.size 0) n_t n_t)]) hK4 (by kernel_rfl) (by first | decide |(simp;done)|(simp;omega)) (by simp [Value.oneCell']) ?_)
  have hK5:=(((((hBw2.ext hEw3).ext hEw4).ext hEw5).chg hCw6).chg hCw7)
  intro w8 hBw8 hCw8
  have hzw8:=hCw8.size
  rw [zy _ _ (by kernel_rfl)] at hBw8
  refine zf (zb (zj (zaJ (show zX Tryz.prog 17 _ _ (.cell 2 38) (vA [(.int .i64 n),(.slice (pA w3.heap.size 0) n_t n_t)]) from ⟨⟨w1.heap.size,0,none⟩,(by kernel_rfl),zI (T:=38) (vs:= [(.int .i64 n),(.slice (pA w3.heap.size 0) n_t n_t)]) (hBw8).all (by kernel_rfl)⟩) ?_)))
  have hX2:Ext w w8:=(Ext.own (Ext.own (Ext.own ((((hEw1.trans hEw2).trans hEw3).trans hEw4).trans hEw5) hCw6 (by omega)) hCw7 (by omega)) hCw8 (by omega))
  exact ⟨_,rfl,by omega,(hBw7.chg hCw8),hK3.len_eq,by simp only [maxLen];omega,hX2⟩
 ·refine zaf ([(vI 0),(.slice none 0 0)]) 38 ?_
  intro w9 hBw9 hEw9 hzw9 hlw9
  refine ⟨.inr hEw9, ?_⟩
  refine zx 5 (zcx (some 9) 36 77 280 384 n_t n_t .i64 .i64 (vA (unC Un.zero)) (by omega) (by omega) (by omega) ?_)
  rw [zdT (f:=unC) (x:=Un.zero) rfl (zK _) (by decide)]
  intro w10 hBw10 hEw10
  have hzw10:=hEw10.size;have hlw10:=hBw10.lt
  have hmw10:Ms unC 280 w9.heap.size (w9.heap.size+1) w10 (pA w9.heap.size 0) n_t n_t (List.replicate n_t Un.zero):=Ms.of_pre (r:= []) (by rw [List.append_nil];exact hBw10) zK (by simp) (Nat.le_refl _) (by simp only [maxLen];omega) (Nat.le_refl _) (Nat.lt_succ_self _)
  have hX3:Ext w3 w10:=(hEw9.trans hEw10)
  refine ⟨.inr hX3, ?_⟩
  refine zg (hw:=hX3) hT414 [(6,10,(vA [(.int .i64 n),(.slice (pA w9.heap.size 0) n_t n_t)]))] 1 (zx 8 (zG 38 w3.heap.size 0 38 (vA [(.int .i64 n),(.slice (pA w9.heap.size 0) n_t n_t)]) ([(vI 0),(.slice none 0 0)]) ([(.int .i64 n),(.slice (pA w9.heap.size 0) n_t n_t)]) (hBw9.ext hEw10) (by kernel_rfl) (by first | decide |(simp;done)|(simp;omega)) (by simp [Value.oneCell']) ?_))
  intro w11 hBw11 hCw11
  have hzw11:=hCw11.size
  rw [zy _ _ (by kernel_rfl)] at hBw11
  refine ⟨.inl (by kernel_rfl), ?_⟩
  refine zE (zb (ze (zd (zc 1 [(11,(vP w3.heap.size 1))] (za (zm w3.heap.size 1 (hBw11.cell rfl) ?_))))))
  refine zc 1 [(13,(vP w.heap.size 1))] ?_
  have hK6:=(((((hBw1.ext hEw2).ext hEw3).ext hEw9).ext hEw10).chg hCw11)
  refine za (zm w.heap.size 1 (hK6.cell rfl) ?_)
  have hK7:=((((((h_t.ext hEw1).ext hEw2).ext hEw3).ext hEw9).ext hEw10).chg hCw11)
  refine za (zlE (dc:=n_t) (some 15) 36 36 3 77 w9.heap.size (hBw10.chg hCw11) hK7 (by rw [zaE zK];first | done |(simp only [List.length_replicate];done)|(have:=(show List.length (List.replicate n_t Un.zero)=n_t from by rw [List.length_replicate]);omega)) zbh (by omega) ?_ (by decide))
  intro w12 hBw12 hCw12
  have hK8:=((((((h_t.ext hEw1).ext hEw2).ext hEw3).ext hEw9).ext hEw10).chg hCw11)
  have hzw12:=hCw12.size
  refine zf (zb (ze (zd (za (zO w3.heap.size 0 ((hBw11.chg hCw12).all) ?_)))))
  have hK9:=(((((hBw2.ext hEw3).ext hEw9).ext hEw10).chg hCw11).chg hCw12)
  refine za (zG 38 w1.heap.size 0 38 (vA [(.int .i64 n),(.slice (pA w9.heap.size 0) n_t n_t)]) ([(vI 0),(.slice none 0 0)]) ([(.int .i64 n),(.slice (pA w9.heap.size 0) n_t n_t)]) hK9 (by kernel_rfl) (by first | decide |(simp;done)|(simp;omega)) (by simp [Value.oneCell']) ?_)
  have hK10:=(((((hBw2.ext hEw3).ext hEw9).ext hEw10).chg hCw11).chg hCw12)
  intro w13 hBw13 hCw13
  have hzw13:=hCw13.size
  rw [zy _ _ (by kernel_rfl)] at hBw13
  refine zf (zb (zj (zaJ (show zX Tryz.prog 17 _ _ (.cell 2 38) (vA [(.int .i64 n),(.slice (pA w9.heap.size 0) n_t n_t)]) from ⟨⟨w1.heap.size,0,none⟩,(by kernel_rfl),zI (T:=38) (vs:= [(.int .i64 n),(.slice (pA w9.heap.size 0) n_t n_t)]) (hBw13).all (by kernel_rfl)⟩) ?_)))
  have hX4:Ext w w13:=(Ext.own (Ext.own (Ext.own ((((hEw1.trans hEw2).trans hEw3).trans hEw9).trans hEw10) hCw11 (by omega)) hCw12 (by omega)) hCw13 (by omega))
  exact ⟨_,rfl,by omega,(hBw12.chg hCw13),hK8.len_eq,by simp only [maxLen];omega,hX4⟩
end Go.Proofs.YtkmhgepdhilllaaGreatDoor
namespace Go.Proofs.YtkmhgepdhilllaaGreatDoor
open Go Go.RowKit Go.Cs
set_option maxRecDepth 100000
theorem zsq {bl bq bi lc hc2 lf hf2 nc cc nf cf:Nat} {ac af:Option Addr} (n b B lp:Nat) (U:Nat→Prop) (J Jx:Nat→World→Prop) (w:World) (hp0:1≤n) (hp1:n≤4096) (hp2:b<n) (hB1:Blk w bl [vI 0] 3) (hB2:Blk w bq ([(.slice ac nc cc),(.slice af nf cf)]) 114) (hB3:Blk w bi [vI (b/4)] 3) (hc:Es (nv .i64) lc hc2 w ac nc cc (zaT n (hgt n+1))) (hf:Es (nv .i64) lf hf2 w af nf cf (zbd n (hgt n+1))) (hne:bl≠bi∧bl≠bq∧bi≠bq) (hlo:(¬(lc≤bl∧bl<hc2)∧¬(lf≤bl∧bl<hf2))∧¬(lc≤bi∧bi<hc2)∧¬(lf≤bi∧bi<hf2)) (hU:∀x,(B≤x∨U x)→(x≠bq∧x≠bl∧x≠bi)∧¬(lc≤x∧x<hc2)∧¬(lf≤x∧x<hf2)) (hJ:∀k W W',J k W→Chg (fun x=>x=bl∨x=bi) W W'→J k W') (hY:∀k W,k<hgt n+1→J k W→Yat Tryz.prog lp [vI k,vI (num n k+idx b k)] W (fun v W'=>(v= .bool true∧J (k+1) W'∧Chg (fun b=>B≤b∨U b) W W')∨(v= .bool false∧Chg (fun b=>B≤b∨U b) W W'∧Jx k W'))) (h0:J 0 w):
  Calls Tryz.prog 75 #[(.func (.yield lp) #[] #[]),(vP bl 0),(vP bq 0),(vP bi 0)] w (Ret fun r w'=>J (hgt n+1) w'∨∃k,k<hgt n+1∧Jx k w'):=by
 refine zD (n:=25) (σ:= [(0,(.func (.yield lp) #[] #[])),(1,(vP bl 0)),(2,(vP bq 0)),(3,(vP bi 0))]) Tryz.func75 rfl ?_
 have hlc:=hc.len_eq;rw [zb2] at hlc
 have hlf:=hf.len_eq;rw [zcm] at hlf
 have h5:=zar n
 have hts:=zaB hp1
 refine zr (zU (X:=Nat) (fun m=> []) [5,6,7,8,9,10,11,12,13,14,15,16,17,18,19,20,21,22,23,24] (fun m w1=>m≤hgt n+1∧J m w1∧Blk w1 bl [vI m] 3∧Blk w1 bi [vI (idx b m)] 3∧Blk w1 bq ([(.slice ac nc cc),(.slice af nf cf)]) 114∧Es (nv .i64) lc hc2 w1 ac nc cc (zaT n (hgt n+1))∧Es (nv .i64) lf hf2 w1 af nf cf (zbd n (hgt n+1))) (fun m=>hgt n+1-m) 0 (by kernel_rfl) ⟨Nat.zero_le _,h0,hB1,hB3,hB2,hc,hf⟩ ?_)
 rintro m dw1 w1 ⟨hm,hJm,hBl,hBi,hBq,hc1,hf1⟩
 have hbl1:=hBl.lt;have hbl2:=hBi.lt;have hbl3:=hBq.lt
 have hgf:m<hgt n+1→gt (zbd n (hgt n+1)) m=num n m:=fun hh=>zcy hh
 have hib:=zlY b m
 refine ze (ze (zd (za (zm bl 0 (hBl.cell rfl) ?_))))
 refine zc 1 [(6,(vP bq 0))] (za (zm bq 0 (hBq.cell rfl) ?_))
 refine zc 1 [(8,(vI nc))] (za (zF (some 9) (decide (((m:Nat):Int)<((nc:Nat):Int))) (fun hc9=> ?_) (fun hc9=> ?_)))
 ·replace hc9:m<nc:=by have:=zac hc9;omega
  replace hgf:=hgf (by omega)
  have hij:=zbu (n:=n) (i:=b) hp2 m
  have hpl:=zaG (n:=n) (l:=m) (j:=idx b m) (by omega) hij
  refine zf (zb (zv (zk (zb (ze (zr (ze (zbD (fun x=>B≤x∨U x) 11 (fun w2 hEw2 hzw2 hT33=> ?_)))))))))
  have hX1:Chg (fun x=>B≤x∨U x) w2 w2:=(Chg.refl (fun x=>B≤x∨U x) w2)
  refine zg (hw:=hX1) hT33 [(0,14,(.func (.yield lp) #[] #[]))] 1 (zA (hw:=hX1) hT33 1 bl 0 (fun w' hC=>(((hBl.ext hEw2).chg hC (fun hs=>by have hu:=hU _ hs;omega)).cell rfl)) (zg (hw:=hX1) hT33 [(2,16,(vP bq 1))] 1 (zA (hw:=hX1) hT33 3 bq 1 (fun w' hC=>(((hBq.ext hEw2).chg hC (fun hs=>by have hu:=hU _ hs;omega)).cell rfl)) (zA (hw:=hX1) hT33 4 bl 0 (fun w' hC=>(((hBl.ext hEw2).chg hC (fun hs=>by have hu:=hU _ hs;omega)).cell rfl)) ?_))))
  obtain ⟨b1,o1,rfl⟩:=hf1.addr (by omega)
  refine zas (hw:=hX1) hT33 5 b1 o1 nf cf m 1 (zA (hw:=hX1) hT33 6 b1 (o1+m*1) (fun w' hC=>(((hf1.ext hEw2).chg hC (fun k h1 h2 hs=>by have hu:=hU _ hs;omega)).celln (by omega))) (zA (hw:=hX1) hT33 7 bi 0 (fun w' hC=>(((hBi.ext hEw2).chg hC (fun hs=>by have hu:=hU _ hs;omega)).cell rfl)) (zn (hw:=hX1) hT33 8 (vI (num n m+idx b m)) (zY .i64 (IntKind.i64.wrap (((gt (zbd n (hgt n+1)) m:Nat):Int)+((idx b m:Nat):Int))) (zu)) (zx 9 (zk2 (some 23) lp [(vI m),(vI (num n m+idx b m))] (hY m _ (by omega) (hJ _ _ _ hJm hEw2.chg)) ?_)))))
  rintro _ w3 (⟨rfl,hJw3,hCw3⟩|⟨rfl,hCw3,hXw3⟩)
  ·have hzw3:=hCw3.size
   have hX2:Chg (fun x=>B≤x∨U x) w2 w3:=(Chg.then (Chg.refl (fun x=>B≤x∨U x) w2) hCw3 (fun k hk hs=>hs))
   refine ⟨.inr hX2, ?_⟩
   refine zg (hw:=hX2) hT33 [(10,24,vF)] 1 (zE (zb (zh (zk (zi (zb (zbD (fun k=>k=bl) 6 (fun w4 hEw4 hzw4 hT57=> ?_))))))))
   have hK1:=((((hBi.ext hEw2)).chg hCw3 (fun hs=>by have hu:=hU _ hs;omega)).ext hEw4)
   have hX3:Chg (fun k=>k=bl) w4 w4:=(Chg.refl (fun k=>k=bl) w4)
   refine zA (hw:=hX3) hT57 2 bi 0 (fun w' hC=>((hK1.chg hC (fun hs=>by have h:_=_:=hs;omega)).cell rfl)) (zn (hw:=hX3) hT57 3 (vI (idx b (m+1))) (zY .i64 (IntKind.i64.wrap (((idx b m:Nat):Int).tdiv ((4:Nat):Int))) (zu (zec _ _) (by omega) (by have:=zlY b (m+1);omega))) ?_)
   have hK2:=((((hBl.ext hEw2)).chg hCw3 (fun hs=>by have hu:=hU _ hs;omega)).ext hEw4)
   refine zx 0 (zm bl 0 (hK2.cell rfl) ?_)
   refine ⟨.inr hX3, ?_⟩
   refine zn (hw:=hX3) hT57 1 (vI (m+1)) (zY .i64 (IntKind.i64.wrap (((m:Nat):Int)+((1:Nat):Int))) (zu)) (zx 4 (zaj 3 bl 0 3 (vI (m+1)) ([vI m]) hK2 (by first | decide |(simp;done)|(simp;omega)) ?_))
   intro w5 hBw5 hCw5
   have hzw5:=hCw5.size
   replace hBw5:=hBw5.set1
   have hX4:Chg (fun k=>k=bl) w4 w5:=(Chg.then (Chg.refl (fun k=>k=bl) w4) hCw5 (fun k hk hs=>by have h:k=_:=hs;first | exact hs | exact .inl h | exact .inr h |(exfalso;omega)))
   refine ⟨.inr hX4, ?_⟩
   refine zx 5 (zaj 3 bi 0 3 (vI (idx b (m+1))) ([vI (idx b m)]) (hK1.chg hCw5) (by first | decide |(simp;done)|(simp;omega)) ?_)
   intro w6 hBw6 hCw6
   have hzw6:=hCw6.size
   replace hBw6:=hBw6.set1
   refine ⟨.inl (by kernel_rfl), ?_⟩
   refine zE (zz ?_)
   have hK3:=((((((hBq.ext hEw2)).chg hCw3 (fun hs=>by have hu:=hU _ hs;omega)).ext hEw4).chg hCw5).chg hCw6)
   have hK4:=((((((hc1.ext hEw2)).chg hCw3 (fun k h1 h2 hs=>by have hu:=hU _ hs;omega)).ext hEw4).chg hCw5).chg hCw6)
   have hK5:=((((((hf1.ext hEw2)).chg hCw3 (fun k h1 h2 hs=>by have hu:=hU _ hs;omega)).ext hEw4).chg hCw5).chg hCw6)
   refine zL (m+1) ?_ ?_
   ·exact ⟨by omega,(hJ _ _ _ (hJ _ _ _ (hJ _ _ _ hJw3 hEw4.chg) (Chg.mono hCw5 (fun x _ hx=> .inl hx))) (Chg.mono hCw6 (fun x _ hx=> .inr hx))),(hBw5.chg hCw6),hBw6,hK3,hK4,hK5⟩
   ·first | omega |(dsimp only;omega)
  ·have hzw3:=hCw3.size
   have hX5:Chg (fun x=>B≤x∨U x) w2 w3:=(Chg.then (Chg.refl (fun x=>B≤x∨U x) w2) hCw3 (fun k hk hs=>hs))
   refine ⟨.inr hX5, ?_⟩
   refine zg (hw:=hX5) hT33 [(10,24,vT)] 1 (zE (zb (zv (zj (zB (zw (zw (zB (zl (.tuple #[]) ?_)))))))))
   exact .inr ⟨m,by omega,hXw3⟩
 ·replace hc9:¬(m<nc):=by have:=zad hc9;omega
  obtain rfl:m=hgt n+1:=by omega
  exact zf (zb (zh (zP (zq (zq (zH (zk5 (.inl hJm))))))))
theorem zqx {lo_c hi_c:Nat} {a_c:Option Addr} {n_c c_c:Nat} {c:List Nat} {lo_f hi_f:Nat} {a_f:Option Addr} {n_f c_f:Nat} {f:List Nat} (v:Nat) (j:Nat) (w:World) (h_c:Es (nv .i64) lo_c hi_c w a_c n_c c_c c) (h_f:Es (nv .i64) lo_f hi_f w a_f n_f c_f f):
  Calls Tryz.prog 53 #[(vA [(.slice a_c n_c c_c),(.slice a_f n_f c_f)]),(vI v),(vI j)] w (Ret fun r w'=>∃(a0:Nat) (a0y:Nat) (a0z:Nat),r=(.func (.func 75) #[] #[(vP a0 0),(vP a0y 0),(vP a0z 0)])∧(w.heap.size≤a0∧w.heap.size≤a0y∧w.heap.size≤a0z∧a0≠a0y∧a0≠a0z∧a0y≠a0z)∧Blk w' a0 [(vI v)] 3∧Blk w' a0y [(.slice a_c n_c c_c),(.slice a_f n_f c_f)] 114∧Blk w' a0z [(vI j)] 3∧Ext w w'):=by
 refine zD (n:=8) (σ:= [(0,(vA [(.slice a_c n_c c_c),(.slice a_f n_f c_f)])),(1,(vI v)),(2,(vI j))]) Tryz.func53 rfl ?_
 replace h_c:=h_c.now;have hle_c:=h_c.le
 replace h_f:=h_f.now;have hle_f:=h_f.le
 refine ze (zd (za (zaa (Instr.box 114 (vA [(.slice a_c n_c c_c),(.slice a_f n_f c_f)])) (vP w.heap.size 0) ([(.slice a_c n_c c_c),(.slice a_f n_f c_f)]) 114 ?_)))
 intro w1 hBw1 hEw1 hzw1 hlw1
 refine za (zaa (Instr.box 3 (vI v)) (vP w1.heap.size 0) ([(vI v)]) 3 ?_)
 intro w2 hBw2 hEw2 hzw2 hlw2
 refine za (zaa (Instr.box 3 (vI j)) (vP w2.heap.size 0) ([(vI j)]) 3 ?_)
 intro w3 hBw3 hEw3 hzw3 hlw3
 refine zc 1 [(6, .nilFunc)] (zf (zb (ze (zd (zc 2 [(6,(.func (.func 75) #[] #[(vP w1.heap.size 0),(vP w.heap.size 0),(vP w2.heap.size 0)])),(7,(.func (.func 75) #[] #[(vP w1.heap.size 0),(vP w.heap.size 0),(vP w2.heap.size 0)]))] (zf (zb (zj (zl (.func (.func 75) #[] #[(vP w1.heap.size 0),(vP w.heap.size 0),(vP w2.heap.size 0)]) ?_)))))))))
 exact ⟨_,_,_,rfl,by omega,(hBw2.ext hEw3),((hBw1.ext hEw2).ext hEw3),hBw3,((hEw1.trans hEw2).trans hEw3)⟩
end Go.Proofs.YtkmhgepdhilllaaGreatDoor
namespace Go.Proofs.YtkmhgepdhilllaaGreatDoor
open Go Go.RowKit Go.Cs
set_option maxRecDepth 100000
set_option maxHeartbeats 4000000 in
theorem zcY (n:Nat) {lo_t hi_t:Nat} {a_t:Option Addr} {n_t c_t:Nat} {t:List Un} (b:Nat) (x:Non) (y:Dig) (w:World) (h_t:Ms unC 280 lo_t hi_t w a_t n_t c_t t) (hp0:1≤n) (hp1:n≤4096) (hp2:n_t=tot n) (hp3:∀i,i<t.length→(t.getD i Un.zero).sl=0∨(t.getD i Un.zero).sl=1) (hp4:zbQ n (zbi n t)=0) (hp5:b<n) (hg0:Gl 0 [vI 45,vI 33] w) (hg1:Gl 1 (w8C zbp) w) (hg2:Gl 3 (zay kA) w):
  Calls Tryz.prog 22 #[(vA [(vI n),(.slice a_t n_t c_t)]),(vI b),(vA (zbf x)),(vA (zR y))] w (Ret fun r w'=>∃a1,r=(.tuple #[(vA [(vI n),(.slice a1 n_t n_t)]),(vI (zaZ (t.getD (b/4) Un.zero) (b%4))),(vI 0)])∧Ms unC 280 w.heap.size w'.heap.size w' a1 n_t n_t (zc4 n t b x y)∧Ext w w'):=by
 refine zeF (n:=111) (σ:= [(0,(vA [(vI n),(.slice a_t n_t c_t)])),(1,(vI b)),(2,(vA (zbf x))),(3,(vA (zR y)))]) Tryz.func22 rfl ?_
 replace h_t:=h_t.now;have hle_t:=h_t.le
 have hgl0:=hg0.lt
 have hgl1:=hg1.lt
 have hgl2:=hg2.lt
 have h5:=zar n
 have hlt:=h_t.len_eq
 have hts:=zaB hp1
 have hle:=h_t.le
 have hb0:b/4<cnt n 0:=zbu hp5 0
 have hb4:=zaG (n:=n) (l:=0) (j:=b/4) (Nat.zero_le _) hb0
 have hn0:num n 0=0:=rfl
 have htg:=zjz (t.getD (b/4) Un.zero) (b%4)
 have hG:GoodT n (set1 t b x y):=(GoodT.of (by omega) hp4).set1 hp5
 have hS:Slt n (set1 t b x y):=(Slt.of (by omega) (zdx.2 hp3)).set1 (by omega) hp5
 refine ze (zd (za (zaa (Instr.box 38 (vA [(vI n),(.slice a_t n_t c_t)])) (vP w.heap.size 0) ([(vI n),(.slice a_t n_t c_t)]) 38 ?_)))
 intro w1 hBw1 hEw1 hzw1 hlw1
 refine za (zaa (Instr.box 56 (vA (zbf x))) (vP w1.heap.size 0) (zbf x) 56 ?_)
 intro w2 hBw2 hEw2 hzw2 hlw2
 refine za (zaa (Instr.box 59 (vA (zR y))) (vP w2.heap.size 0) (zR y) 59 ?_)
 intro w3 hBw3 hEw3 hzw3 hlw3
 refine za (zaf ([(vI 0),(.slice none 0 0)]) 38 ?_)
 intro w4 hBw4 hEw4 hzw4 hlw4
 refine zc 2 [(10,(vI 0)),(9,(vI 0))] (zf (zb (ze (zd ?_))))
 have hK1:=(((hBw1.ext hEw2).ext hEw3).ext hEw4)
 refine za (zO w.heap.size 0 (hK1.all) ?_)
 refine zc 1 [(24,(vI b))] ?_
 have hK2:=((((h_t.ext hEw1).ext hEw2).ext hEw3).ext hEw4)
 have hK3:=((((hg0.ext hEw1).ext hEw2).ext hEw3).ext hEw4)
 have hK4:=((((hg1.ext hEw1).ext hEw2).ext hEw3).ext hEw4)
 have hK5:=((((hg2.ext hEw1).ext hEw2).ext hEw3).ext hEw4)
 refine za (zp (zlM n b _ hK2 (by omega) (by omega) (by omega) (by assumption) (by assumption) (by omega) hK3 hK4 hK5) ?_)
 rintro _ w5 ⟨a1,ca1,a2,ca2,rfl,hFz1_0,hFz1_1,hEw5⟩
 have hzw5:=hEw5.size
 have hlea1:=hFz1_0.le
 have hlea2:=hFz1_1.le
 refine zc 3 [(27,(vI 0)),(26,(vA [(.slice a1 (hgt n+1) ca1),(.slice a2 (hgt n+1) ca2)])),(22,(.tuple #[(vA [(.slice a1 (hgt n+1) ca1),(.slice a2 (hgt n+1) ca2)]),(vI 0)]))] (zal ([(.slice a1 (hgt n+1) ca1),(.slice a2 (hgt n+1) ca2)]) 114 rfl (by simp [Value.oneCell']) ?_)
 intro w6 hBw6 hEw6 hzw6 hlw6
 refine zc 1 [(12,(vI 0))] (zf (zb (ze (ze (zd (zc 1 [(28,(vI 0))] (za (zae (some 29) (((0:Nat):Int) !=((0:Nat):Int)) false (zax) ?_))))))))
 refine zf (zb (zh (zk (zb (ze (zd (za (zO w.heap.size 0 (((hK1.ext hEw5).ext hEw6).all) ?_))))))))
 refine za (zp (zpr ((n:Nat):Int) _ ((hK2.ext hEw5).ext hEw6) (by omega) (by omega)) ?_)
 rintro _ w7 ⟨a3,rfl,hFz2_0,hFz2_1,hFz2_2,hFz2_3,hEw7⟩
 have hzw7:=hEw7.size
 have hla3:=hFz2_1.lt;have hma3:=Ms.of_row hFz2_1 zK (len:=n_t) hFz2_2 hFz2_3
 refine zal ([(.int .i64 ((n:Nat):Int)),(.slice (pA a3 0) n_t n_t)]) 38 rfl (by simp [Value.oneCell']) ?_
 intro w8 hBw8 hEw8 hzw8 hlw8
 refine zf (zb (ze (zd (zc 1 [(34,(vI b))] (za (zo (some 35) .i64 (IntKind.i64.wrap (((b:Nat):Int).tdiv ((4:Nat):Int))) (b/4) (zu (zec _ _)) ?_))))))
 refine zc 1 [(36,(vI b))] (za (zo (some 37) .i64 (((b:Nat):Int).tmod ((4:Nat):Int)) (b%4) (zcZ _ _) ?_))
 refine zc 2 [(15,(vI (b%4))),(14,(vI (b/4)))] (zf (zb (ze (zd (zc 1 [(38,(vP w7.heap.size 1))] (za (zm w7.heap.size 1 (hBw8.cell rfl) ?_)))))))
 refine zc 1 [(40,(vI (b/4)))] (za (zah a3 0 n_t n_t (b/4) 280 ?_))
 refine za (zT a3 (0+(b/4)*280) ((hma3.ext hEw8).at Un.zero (by omega)) (zK _) ?_)
 refine zc 1 [(43,(vI (b%4)))] (za (zp (zop (t.getD (b/4) Un.zero) (b%4) _ (by omega)) ?_))
 rintro _ w9 ⟨rfl,hEw9⟩
 have hzw9:=hEw9.size
 refine zc 1 [(16,(vI (zaZ (t.getD (b/4) Un.zero) (b%4))))] (zf (zb (ze (zd (zc 1 [(46,(vI (zaZ (t.getD (b/4) Un.zero) (b%4))))] (za (zp (zgT (zaZ (t.getD (b/4) Un.zero) (b%4)) _ (by omega)) ?_)))))))
 rintro _ w10 ⟨rfl,hEw10⟩
 have hzw10:=hEw10.size
 refine zc 5 [(18,(vI 0)),(17,(vB ((zaZ (t.getD (b/4) Un.zero) (b%4))+1))),(49,(vI 0)),(48,(vB ((zaZ (t.getD (b/4) Un.zero) (b%4))+1))),(45,(.tuple #[(vB ((zaZ (t.getD (b/4) Un.zero) (b%4))+1)),(vI 0)]))] (zf (zb (ze (zbD (fun k=>k=a3) 13 (fun w11 hEw11 hzw11 hT105=> ?_)))))
 have hX1:Chg (fun k=>k=a3) w11 w11:=(Chg.refl (fun k=>k=a3) w11)
 refine zg (hw:=hX1) hT105 [(0,50,(vP w7.heap.size 1))] 1 ?_
 have hK6:=(((hBw8.ext hEw9).ext hEw10).ext hEw11)
 refine zA (hw:=hX1) hT105 1 w7.heap.size 1 (fun w' hC=>((hK6.chg hC (fun hs=>by have h:_=_:=hs;omega)).cell rfl)) (zg (hw:=hX1) hT105 [(2,52,(vI (b/4))),(3,53,(vI (b%4))),(4,54,(vB ((zaZ (t.getD (b/4) Un.zero) (b%4))+1)))] 3 ?_)
 have hK7:=(((((((((hBw2.ext hEw3).ext hEw4).ext hEw5).ext hEw6).ext hEw7).ext hEw8).ext hEw9).ext hEw10).ext hEw11)
 refine zan (hw:=hX1) hT105 5 w1.heap.size 0 (fun w' hC=>((hK7.chg hC (fun hs=>by have h:_=_:=hs;omega)).all)) (ze6 _) ?_
 have hK8:=((((((((hBw3.ext hEw4).ext hEw5).ext hEw6).ext hEw7).ext hEw8).ext hEw9).ext hEw10).ext hEw11)
 refine zan (hw:=hX1) hT105 6 w2.heap.size 0 (fun w' hC=>((hK8.chg hC (fun hs=>by have h:_=_:=hs;omega)).all)) (zam _) (zn (hw:=hX1) hT105 7 (vA (zM (zbk (t.getD (b/4) Un.zero) (b%4) x y))) (zag (Instr.build 68 #[(0,(vB ((zaZ (t.getD (b/4) Un.zero) (b%4))+1))),(1,(vA (zbf x))),(2,(vA (zR y)))]) (fun w' hC=>(zdb ((zaZ (t.getD (b/4) Un.zero) (b%4))+1) x y (by omega)).trans (congrArg (fun z:Rec=>Result.ok (Value.agg (zM z).toArray) _) (show (⟨(zaZ (t.getD (b/4) Un.zero) (b%4))+1,x,y,by omega⟩:Rec)=zbk (t.getD (b/4) Un.zero) (b%4) x y from rfl)))) (zas (hw:=hX1) hT105 8 a3 0 n_t n_t (b/4) 280 (zg (hw:=hX1) hT105 [(9,59,(vP a3 (0+(b/4)*280))),(10,60,(vP a3 (0+(b/4)*280+2)))] 2 (zaP (hw:=hX1) hT105 11 a3 (0+(b/4)*280+2) (b%4) 4 35 ?_))))
 have hK9:=((((hFz2_1.ext hEw8).ext hEw9).ext hEw10).ext hEw11)
 refine zx 12 (zG 68 a3 (0+(b/4)*280+2+(b%4)*35) 77 (vA (zM (zbk (t.getD (b/4) Un.zero) (b%4) x y))) (t.flatMap unC) (zM (zbk (t.getD (b/4) Un.zero) (b%4) x y)) hK9 (by rw [zZ];kernel_rfl) (by (try simp only [List.length_append]);rw [zaE zK];have:=hFz2_2;have hq:b/4<List.length t:=(by (try simp only [List.length_set]);have:=hFz2_2;omega);rw [zZ];omega) (zbb _) ?_)
 have hK10:=((((hFz2_1.ext hEw8).ext hEw9).ext hEw10).ext hEw11)
 intro w12 hBw12 hCw12
 have hzw12:=hCw12.size
 rw [show (zV (t.flatMap unC) (0+(b/4)*280+2+(b%4)*35) (zM (zbk (t.getD (b/4) Un.zero) (b%4) x y)):List Value)=(t.set (b/4) ((t.getD (b/4) Un.zero).setR (b%4) (zbk (t.getD (b/4) Un.zero) (b%4) x y))).flatMap unC from (show zV (t.flatMap unC) (0+(b/4)*280+2+(b%4)*35) (zM (zbk (t.getD (b/4) Un.zero) (b%4) x y))=(t.set (b/4) ((t.getD (b/4) Un.zero).setR (b%4) (zbk (t.getD (b/4) Un.zero) (b%4) x y))).flatMap unC from by have hz:=(zcg zK Un.zero ((t.getD (b/4) Un.zero).setR (b%4) (zbk (t.getD (b/4) Un.zero) (b%4) x y)) t (b/4) (2+(b%4)*35) (zM (zbk (t.getD (b/4) Un.zero) (b%4) x y)) [] (by (try simp only [List.length_set]);have:=hFz2_2;omega) (zrs (by omega)) (by rw [zZ];omega));rw [List.append_nil,List.append_nil] at hz;rw [show 0+(b/4)*280+2+(b%4)*35=(b/4)*280+(2+(b%4)*35) from by omega];exact hz)] at hBw12
 have hmw12:Ms unC 280 a3 (a3+1) w12 (pA a3 0) n_t n_t (t.set (b/4) ((t.getD (b/4) Un.zero).setR (b%4) (zbk (t.getD (b/4) Un.zero) (b%4) x y))):=Ms.of_pre (r:= []) (by rw [List.append_nil];exact hBw12) zK (by (try simp only [List.length_set]);have:=hFz2_2;omega) (by omega) (by simp only [maxLen];omega) (by omega) (by omega)
 have hX2:Chg (fun k=>k=a3) w11 w12:=(Chg.then (Chg.refl (fun k=>k=a3) w11) hCw12 (fun k hk hs=>by have h:k=_:=hs;first | exact hs | exact .inl h | exact .inr h |(exfalso;omega)))
 refine ⟨.inr hX2, ?_⟩
 refine zE (zb (ze (zd (zc 1 [(62,(vP w7.heap.size 1))] (za (zm w7.heap.size 1 ((hK6.chg hCw12).cell rfl) ?_))))))
 refine zc 2 [(65,(vI (b%4))),(64,(vI (b/4)))] (za (zah a3 0 n_t n_t (b/4) 280 ?_))
 refine zc 1 [(67,(vP a3 (0+(b/4)*280+276)))] (za (zbg a3 (0+(b/4)*280+276) (b%4) 4 1 ?_))
 refine za (zaj 4 a3 (0+(b/4)*280+276+(b%4)*1) 77 vT ((t.set (b/4) ((t.getD (b/4) Un.zero).setR (b%4) (zbk (t.getD (b/4) Un.zero) (b%4) x y))).flatMap unC) hBw12 (by (try simp only [List.length_append]);rw [zaE zK];have:=hFz2_2;have hq:b/4<List.length (t.set (b/4) ((t.getD (b/4) Un.zero).setR (b%4) (zbk (t.getD (b/4) Un.zero) (b%4) x y))):=(by (try simp only [List.length_set]);have:=hFz2_2;omega);omega) ?_)
 intro w13 hBw13 hCw13
 have hzw13:=hCw13.size
 rw [show (((t.set (b/4) ((t.getD (b/4) Un.zero).setR (b%4) (zbk (t.getD (b/4) Un.zero) (b%4) x y))).flatMap unC).set (0+(b/4)*280+276+(b%4)*1) vT:List Value)=((t.set (b/4) ((t.getD (b/4) Un.zero).setR (b%4) (zbk (t.getD (b/4) Un.zero) (b%4) x y))).set (b/4) (((t.set (b/4) ((t.getD (b/4) Un.zero).setR (b%4) (zbk (t.getD (b/4) Un.zero) (b%4) x y))).getD (b/4) Un.zero).setCh (b%4) true)).flatMap unC from (show zV ((t.set (b/4) ((t.getD (b/4) Un.zero).setR (b%4) (zbk (t.getD (b/4) Un.zero) (b%4) x y))).flatMap unC) (0+(b/4)*280+276+(b%4)*1) ([vT])=((t.set (b/4) ((t.getD (b/4) Un.zero).setR (b%4) (zbk (t.getD (b/4) Un.zero) (b%4) x y))).set (b/4) (((t.set (b/4) ((t.getD (b/4) Un.zero).setR (b%4) (zbk (t.getD (b/4) Un.zero) (b%4) x y))).getD (b/4) Un.zero).setCh (b%4) true)).flatMap unC from by have hz:=(zcg zK Un.zero (((t.set (b/4) ((t.getD (b/4) Un.zero).setR (b%4) (zbk (t.getD (b/4) Un.zero) (b%4) x y))).getD (b/4) Un.zero).setCh (b%4) true) (t.set (b/4) ((t.getD (b/4) Un.zero).setR (b%4) (zbk (t.getD (b/4) Un.zero) (b%4) x y))) (b/4) (276+(b%4)*1) ([vT]) [] (by (try simp only [List.length_set]);have:=hFz2_2;omega) (zgP (by omega)) (by simp only [List.length_cons,List.length_nil];omega));rw [List.append_nil,List.append_nil] at hz;rw [show 0+(b/4)*280+276+(b%4)*1=(b/4)*280+(276+(b%4)*1) from by omega];exact hz)] at hBw13
 have hmw13:Ms unC 280 a3 (a3+1) w13 (pA a3 0) n_t n_t ((t.set (b/4) ((t.getD (b/4) Un.zero).setR (b%4) (zbk (t.getD (b/4) Un.zero) (b%4) x y))).set (b/4) (((t.set (b/4) ((t.getD (b/4) Un.zero).setR (b%4) (zbk (t.getD (b/4) Un.zero) (b%4) x y))).getD (b/4) Un.zero).setCh (b%4) true)):=Ms.of_pre (r:= []) (by rw [List.append_nil];exact hBw13) zK (by (try simp only [List.length_set]);have:=hFz2_2;omega) (by omega) (by simp only [maxLen];omega) (by omega) (by omega)
 refine zf (zb (ze (zd (zc 1 [(69,(vP w7.heap.size 1))] (za (zm w7.heap.size 1 (((hK6.chg hCw12).chg hCw13).cell rfl) ?_))))))
 refine zc 1 [(71,(vI (b/4)))] (za (zah a3 0 n_t n_t (b/4) 280 ?_))
 refine zc 1 [(73,(vP a3 (0+(b/4)*280+275)))] (za (zaj 4 a3 (0+(b/4)*280+275) 77 vT (((t.set (b/4) ((t.getD (b/4) Un.zero).setR (b%4) (zbk (t.getD (b/4) Un.zero) (b%4) x y))).set (b/4) (((t.set (b/4) ((t.getD (b/4) Un.zero).setR (b%4) (zbk (t.getD (b/4) Un.zero) (b%4) x y))).getD (b/4) Un.zero).setCh (b%4) true)).flatMap unC) hBw13 (by (try simp only [List.length_append,List.length_cons,List.length_nil,List.length_set]);(try rw [zaE zK]);(try simp only [List.length_set]);have:=hFz2_2;omega) ?_))
 intro w14 hBw14 hCw14
 have hzw14:=hCw14.size
 rw [show ((((t.set (b/4) ((t.getD (b/4) Un.zero).setR (b%4) (zbk (t.getD (b/4) Un.zero) (b%4) x y))).set (b/4) (((t.set (b/4) ((t.getD (b/4) Un.zero).setR (b%4) (zbk (t.getD (b/4) Un.zero) (b%4) x y))).getD (b/4) Un.zero).setCh (b%4) true)).flatMap unC).set (0+(b/4)*280+275) vT:List Value)=(((t.set (b/4) ((t.getD (b/4) Un.zero).setR (b%4) (zbk (t.getD (b/4) Un.zero) (b%4) x y))).set (b/4) (((t.set (b/4) ((t.getD (b/4) Un.zero).setR (b%4) (zbk (t.getD (b/4) Un.zero) (b%4) x y))).getD (b/4) Un.zero).setCh (b%4) true)).set (b/4) ((((t.set (b/4) ((t.getD (b/4) Un.zero).setR (b%4) (zbk (t.getD (b/4) Un.zero) (b%4) x y))).set (b/4) (((t.set (b/4) ((t.getD (b/4) Un.zero).setR (b%4) (zbk (t.getD (b/4) Un.zero) (b%4) x y))).getD (b/4) Un.zero).setCh (b%4) true)).getD (b/4) Un.zero).setDt true)).flatMap unC from (by have hz:=zcg zK Un.zero ((((t.set (b/4) ((t.getD (b/4) Un.zero).setR (b%4) (zbk (t.getD (b/4) Un.zero) (b%4) x y))).set (b/4) (((t.set (b/4) ((t.getD (b/4) Un.zero).setR (b%4) (zbk (t.getD (b/4) Un.zero) (b%4) x y))).getD (b/4) Un.zero).setCh (b%4) true)).getD (b/4) Un.zero).setDt true) ((t.set (b/4) ((t.getD (b/4) Un.zero).setR (b%4) (zbk (t.getD (b/4) Un.zero) (b%4) x y))).set (b/4) (((t.set (b/4) ((t.getD (b/4) Un.zero).setR (b%4) (zbk (t.getD (b/4) Un.zero) (b%4) x y))).getD (b/4) Un.zero).setCh (b%4) true)) (b/4) 275 ([vT]) [] (by (try simp only [List.length_set]);have:=hFz2_2;omega) (zil) (by (try simp only [List.length_cons,List.length_nil]);(try rw [zK]);omega);rw [List.append_nil,List.append_nil] at hz;rw [show 0+(b/4)*280+275=(b/4)*280+275 from by omega];exact hz),show (((t.set (b/4) ((t.getD (b/4) Un.zero).setR (b%4) (zbk (t.getD (b/4) Un.zero) (b%4) x y))).set (b/4) (((t.set (b/4) ((t.getD (b/4) Un.zero).setR (b%4) (zbk (t.getD (b/4) Un.zero) (b%4) x y))).getD (b/4) Un.zero).setCh (b%4) true)).set (b/4) ((((t.set (b/4) ((t.getD (b/4) Un.zero).setR (b%4) (zbk (t.getD (b/4) Un.zero) (b%4) x y))).set (b/4) (((t.set (b/4) ((t.getD (b/4) Un.zero).setR (b%4) (zbk (t.getD (b/4) Un.zero) (b%4) x y))).getD (b/4) Un.zero).setCh (b%4) true)).getD (b/4) Un.zero).setDt true))=(set1 t b x y) from zsT (by omega) rfl rfl] at hBw14
 have hmw14:Ms unC 280 a3 (a3+1) w14 (pA a3 0) n_t n_t (set1 t b x y):=Ms.of_pre (r:= []) (by rw [List.append_nil];exact hBw14) zK (by rw [zcO];omega) (by omega) (by simp only [maxLen] at*;omega) (by omega) (by omega)
 refine zf (zb (ze (zd (zc 1 [(74,(vP w7.heap.size 1))] ?_))))
 have hK11:=(((hK6.chg hCw12).chg hCw13).chg hCw14)
 refine za (zm w7.heap.size 1 (hK11.cell rfl) ?_)
 refine zc 1 [(76,(vI (b/4)))] (za (zah a3 0 n_t n_t (b/4) 280 ?_))
 refine za (zT a3 (0+(b/4)*280) (hmw14.at Un.zero (by omega)) (zK _) ?_)
 refine zal (unC ((set1 t b x y).getD (b/4) Un.zero)) 77 (zK _) (zbh _) ?_
 intro w15 hBw15 hEw15 hzw15 hlw15
 refine zf (zb (ze (ze (zd ?_))))
 have hK12:=(((((((((hBw6.ext hEw7).ext hEw8).ext hEw9).ext hEw10).ext hEw11).chg hCw12).chg hCw13).chg hCw14).ext hEw15)
 refine za (zO w5.heap.size 0 (hK12.all) ?_)
 refine zc 1 [(80,(vI (b/4)))] ?_
 have hK13:=((((((((((hFz1_0.ext hEw6).ext hEw7).ext hEw8).ext hEw9).ext hEw10).ext hEw11).chg hCw12).chg hCw13).chg hCw14).ext hEw15)
 have hK14:=((((((((((hFz1_1.ext hEw6).ext hEw7).ext hEw8).ext hEw9).ext hEw10).ext hEw11).chg hCw12).chg hCw13).chg hCw14).ext hEw15)
 refine za (zp (zqx 0 (b/4) _ hK13 hK14) ?_)
 rintro _ w16 ⟨a4,a4y,a4z,rfl,hFz5_0,hFz5_1,hFz5_2,hFz5_3,hEw16⟩
 have hzw16:=hEw16.size
 have hla4:=hFz5_1.lt;have hla4y:=hFz5_2.lt;have hla4z:=hFz5_3.lt
 refine zf (zb (zr ?_))
 have hK15:=((((((((((((hK1.ext hEw5).ext hEw6).ext hEw7).ext hEw8).ext hEw9).ext hEw10).ext hEw11).chg hCw12).chg hCw13).chg hCw14).ext hEw15).ext hEw16)
 have hK16:=((((((((((((hBw4.ext hEw5).ext hEw6).ext hEw7).ext hEw8).ext hEw9).ext hEw10).ext hEw11).chg hCw12).chg hCw13).chg hCw14).ext hEw15).ext hEw16)
 have hX3:Ext w w16:=(((Ext.own (Ext.own (Ext.own ((((((((((hEw1.trans hEw2).trans hEw3).trans hEw4).trans hEw5).trans hEw6).trans hEw7).trans hEw8).trans hEw9).trans hEw10).trans hEw11) hCw12 (by omega)) hCw13 (by omega)) hCw14 (by omega)).trans hEw15).trans hEw16)
 refine zhA [82,83] 75 [(vP a4 0),(vP a4y 0),(vP a4z 0)] (hgt n+1) (fun k=> [(vI k),(vI (num n k+idx b k))]) (fun b=>b=a3∨b=w14.heap.size) (fun b=>b=a4∨b=a4z) (fun k w'=>Blk w' a3 ((zau n b (set1 t b x y) (k-1)).flatMap unC) 77∧Blk w' w14.heap.size (unC (ndU n (zau n b (set1 t b x y) (k-1)) (k-1) (idx b (k-1)))) 77∧Blk w' w.heap.size ([(vI n),(.slice a_t n_t c_t)]) 38∧Blk w' w3.heap.size ([(vI 0),(.slice none 0 0)]) 38∧Blk w' w5.heap.size ([(.slice a1 (hgt n+1) ca1),(.slice a2 (hgt n+1) ca2)]) 114∧Blk w' w7.heap.size ([(.int .i64 ((n:Nat):Int)),(.slice (pA a3 0) n_t n_t)]) 38∧Es (nv .i64) w4.heap.size w5.heap.size w' a1 (hgt n+1) ca1 (zaT n (hgt n+1))∧Es (nv .i64) w4.heap.size w5.heap.size w' a2 (hgt n+1) ca2 (zbd n (hgt n+1))∧Ext w w') (fun cc k w'=>False) (fun b hb=>by rcases hb with hb | hb<;>omega) (fun _=>rfl) (fun k W W' ⟨h1,h2,h3,h4,h5,h6,h7,h8,h9⟩ hb=>⟨h1.book hb,h2.book hb,h3.book hb,h4.book hb,h5.book hb,h6.book hb,h7.book hb,h8.book hb,h9.book hb (by omega)⟩) (fun _ _ _ _ h _=>h) (fun k W W' ⟨h1,h2,h3,h4,h5,h6,h7,h8,h9⟩ hc=>⟨h1.chg hc (fun hs=>by rcases hs with hs | hs<;>omega),h2.chg hc (fun hs=>by rcases hs with hs | hs<;>omega),h3.chg hc (fun hs=>by rcases hs with hs | hs<;>omega),h4.chg hc (fun hs=>by rcases hs with hs | hs<;>omega),h5.chg hc (fun hs=>by rcases hs with hs | hs<;>omega),h6.chg hc (fun hs=>by rcases hs with hs | hs<;>omega),h7.chg hc (fun k h1 h2 hs=>by rcases hs with hs | hs<;>omega),h8.chg hc (fun k h1 h2 hs=>by rcases hs with hs | hs<;>omega),Ext.ownS h9 hc (fun k hs hk=>by rcases hs with hs | hs<;>omega)⟩) (⟨((hBw14.ext hEw15).ext hEw16),by have hz:=(hBw15.ext hEw16);rw [show (set1 t b x y).getD (b/4) Un.zero=(ndU n (zau n b (set1 t b x y) (0-1)) (0-1) (idx b (0-1))) from by unfold ndU;rw [show num n (0-1)+idx b (0-1)=b/4 from Nat.zero_add _];rfl] at hz;exact hz,hK15,hK16,(hK12.ext hEw16),((hK11.ext hEw15).ext hEw16),(hK13.ext hEw16),(hK14.ext hEw16),hX3⟩) (fun lp J Jx wj hE1 hJ hY h0=>zsq n b w16.heap.size lp _ J Jx wj hp0 hp1 hp5 (hFz5_1.ext hE1) (hFz5_2.ext hE1) (hFz5_3.ext hE1) ((hK13.ext hEw16).ext hE1) ((hK14.ext hEw16).ext hE1) (by omega) (by omega) (fun x hx=>by omega) hJ hY h0) ?_ ?_ ?_
 ·rintro lR k w17 hl ⟨hR,hBe,hK4,hK8,hK11,hK13,hs1,hs2,hEw⟩ hk
  have hzr:=hEw.size
  have hRl:=hR.lt;have hBel:=hBe.lt
  have hK4l:=hK4.lt
  have hK8l:=hK8.lt
  have hK11l:=hK11.lt
  have hK13l:=hK13.lt
  have hmR:=Ms.of_row hR zK (len:=n_t) (by rw [zdu,zcO];omega) (by simp only [maxLen];omega)
  have hij:=zbu (n:=n) (i:=b) hp5 k
  have hpl:=zaG (n:=n) (l:=k) (j:=idx b k) (by omega) hij
  have hgp:=zlr hG hS hp5 (m:=k-1) (by omega)
  have hbq:=hgp.1.pl (k-1) (idx b (k-1)) (by omega) (zbu hp5 _)
  have hbs:=hgp.2 (k-1) (idx b (k-1)) (by omega) (zbu hp5 _)
  refine ze (zd (zc 1 [(20,(vI k))] (zf (zb (zd (zc 1 [(21,(vI (num n k+idx b k)))] (zf (zlm (Kpt.refl _) (Chg.refl _ _) (fun w18 hBkw18=> ?_)))))))))
  have hzw18:=hBkw18.size
  refine zr (ze (ze (zd (zc 1 [(84,(vI k))] (za (zF (some 85) (decide (((k:Nat):Int)>((0:Nat):Int))) (fun hc85=> ?_) (fun hc85=> ?_)))))))
  ·replace hc85:k>0:=by have:=zac hc85;omega
   refine zf (zb (zv (ze (zbD (fun k=>k=a3) 14 (fun w19 hEw19 hzw19 hT224=> ?_)))))
   have hX4:Chg (fun k=>k=a3) w19 w19:=(Chg.refl (fun k=>k=a3) w19)
   refine zg (hw:=hX4) hT224 [(0,86,(vP w7.heap.size 1))] 1 (zA (hw:=hX4) hT224 1 w7.heap.size 1 (fun w' hC=>((((hK13.book hBkw18).ext hEw19).chg hC (fun hs=>by have h:_=_:=hs;omega)).cell rfl)) (zg (hw:=hX4) hT224 [(2,88,(vI (num n k+idx b k))),(3,89,(vP w14.heap.size 0)),(4,90,(vP w14.heap.size 1))] 3 (zA (hw:=hX4) hT224 5 w14.heap.size 1 (fun w' hC=>((((hBe.book hBkw18).ext hEw19).chg hC (fun hs=>by have h:_=_:=hs;omega)).cell rfl)) (zn (hw:=hX4) hT224 6 (vW (((ndU n (zau n b (set1 t b x y) (k-1)) (k-1) (idx b (k-1))).nd.ix)%4)) (zY .u32 ((((ndU n (zau n b (set1 t b x y) (k-1)) (k-1) (idx b (k-1))).nd.ix:Nat):Int).tmod ((4:Nat):Int)) (zcZ _ _)) (zan (hw:=hX4) hT224 7 w14.heap.size 0 (fun w' hC=>((((hBe.book hBkw18).ext hEw19).chg hC (fun hs=>by have h:_=_:=hs;omega)).all)) (zK _) (zas (hw:=hX4) hT224 9 a3 0 n_t n_t (num n k+idx b k) 280 (zg (hw:=hX4) hT224 [(10,96,(vP a3 (0+(num n k+idx b k)*280))),(11,97,(vP a3 (0+(num n k+idx b k)*280+142)))] 2 ?_)))))))
   have hK17:=(((hg0.ext hEw).book hBkw18).ext hEw19)
   have hK18:=(((hg1.ext hEw).book hBkw18).ext hEw19)
   have hK19:=(((hg2.ext hEw).book hBkw18).ext hEw19)
   refine zx 8 (zp (zlJ (ndU n (zau n b (set1 t b x y) (k-1)) (k-1) (idx b (k-1))) _ (hbs) (hbq.1) hK17 hK18 hK19) ?_)
   rintro _ w20 ⟨rfl,hEw20⟩
   have hzw20:=hEw20.size
   have hX5:Chg (fun k=>k=a3) w19 w20:=((Chg.refl (fun k=>k=a3) w19).trans hEw20.chg)
   refine ⟨.inr hX5, ?_⟩
   refine zn (hw:=hX5) hT224 12 (vP a3 (0+(num n k+idx b k)*280+142+(((ndU n (zau n b (set1 t b x y) (k-1)) (k-1) (idx b (k-1))).nd.ix)%4)*33)) (zag (Instr.indexAt 72 (vP a3 (0+(num n k+idx b k)*280+142)) (vW (((ndU n (zau n b (set1 t b x y) (k-1)) (k-1) (idx b (k-1))).nd.ix)%4))) (fun w' hC=>za3 (E:=71) (sz:=33) (m:=4))) ?_
   have hK20:=(((hR.book hBkw18).ext hEw19).ext hEw20)
   refine zx 13 (zG 71 a3 (0+(num n k+idx b k)*280+142+(((ndU n (zau n b (set1 t b x y) (k-1)) (k-1) (idx b (k-1))).nd.ix)%4)*33) 77 (vA (zai (enU (ndU n (zau n b (set1 t b x y) (k-1)) (k-1) (idx b (k-1)))))) ((zau n b (set1 t b x y) (k-1)).flatMap unC) (zai (enU (ndU n (zau n b (set1 t b x y) (k-1)) (k-1) (idx b (k-1))))) hK20 (by rw [zaK];kernel_rfl) (by (try simp only [List.length_append]);rw [zaE zK];have:=(show List.length (zau n b (set1 t b x y) (k-1))=n_t from by rw [zdu,zcO];omega);have hq:num n k+idx b k<List.length (zau n b (set1 t b x y) (k-1)):=(by (try simp only [List.length_set]);rw [zdu,zcO];omega);rw [zaK];omega) (zcX _) ?_)
   have hK21:=(((hR.book hBkw18).ext hEw19).ext hEw20)
   intro w21 hBw21 hCw21
   have hzw21:=hCw21.size
   rw [show (zV ((zau n b (set1 t b x y) (k-1)).flatMap unC) (0+(num n k+idx b k)*280+142+(((ndU n (zau n b (set1 t b x y) (k-1)) (k-1) (idx b (k-1))).nd.ix)%4)*33) (zai (enU (ndU n (zau n b (set1 t b x y) (k-1)) (k-1) (idx b (k-1))))):List Value)=((zau n b (set1 t b x y) (k-1)).set (num n k+idx b k) (((zau n b (set1 t b x y) (k-1)).getD (num n k+idx b k) Un.zero).setE (((ndU n (zau n b (set1 t b x y) (k-1)) (k-1) (idx b (k-1))).nd.ix)%4) (enU (ndU n (zau n b (set1 t b x y) (k-1)) (k-1) (idx b (k-1)))))).flatMap unC from (show zV ((zau n b (set1 t b x y) (k-1)).flatMap unC) (0+(num n k+idx b k)*280+142+(((ndU n (zau n b (set1 t b x y) (k-1)) (k-1) (idx b (k-1))).nd.ix)%4)*33) (zai (enU (ndU n (zau n b (set1 t b x y) (k-1)) (k-1) (idx b (k-1)))))=((zau n b (set1 t b x y) (k-1)).set (num n k+idx b k) (((zau n b (set1 t b x y) (k-1)).getD (num n k+idx b k) Un.zero).setE (((ndU n (zau n b (set1 t b x y) (k-1)) (k-1) (idx b (k-1))).nd.ix)%4) (enU (ndU n (zau n b (set1 t b x y) (k-1)) (k-1) (idx b (k-1)))))).flatMap unC from by have hz:=(zcg zK Un.zero (((zau n b (set1 t b x y) (k-1)).getD (num n k+idx b k) Un.zero).setE (((ndU n (zau n b (set1 t b x y) (k-1)) (k-1) (idx b (k-1))).nd.ix)%4) (enU (ndU n (zau n b (set1 t b x y) (k-1)) (k-1) (idx b (k-1))))) (zau n b (set1 t b x y) (k-1)) (num n k+idx b k) (142+(((ndU n (zau n b (set1 t b x y) (k-1)) (k-1) (idx b (k-1))).nd.ix)%4)*33) (zai (enU (ndU n (zau n b (set1 t b x y) (k-1)) (k-1) (idx b (k-1))))) [] (by (try simp only [List.length_set]);rw [zdu,zcO];omega) (zs7 (by omega)) (by rw [zaK];omega));rw [List.append_nil,List.append_nil] at hz;rw [show 0+(num n k+idx b k)*280+142+(((ndU n (zau n b (set1 t b x y) (k-1)) (k-1) (idx b (k-1))).nd.ix)%4)*33=(num n k+idx b k)*280+(142+(((ndU n (zau n b (set1 t b x y) (k-1)) (k-1) (idx b (k-1))).nd.ix)%4)*33) from by omega];exact hz)] at hBw21
   have hmw21:Ms unC 280 a3 (a3+1) w21 (pA a3 0) n_t n_t ((zau n b (set1 t b x y) (k-1)).set (num n k+idx b k) (((zau n b (set1 t b x y) (k-1)).getD (num n k+idx b k) Un.zero).setE (((ndU n (zau n b (set1 t b x y) (k-1)) (k-1) (idx b (k-1))).nd.ix)%4) (enU (ndU n (zau n b (set1 t b x y) (k-1)) (k-1) (idx b (k-1)))))):=Ms.of_pre (r:= []) (by rw [List.append_nil];exact hBw21) zK (by (try simp only [List.length_set]);rw [zdu,zcO];omega) (by omega) (by simp only [maxLen];omega) (by omega) (by omega)
   have hX6:Chg (fun k=>k=a3) w19 w21:=(Chg.then ((Chg.refl (fun k=>k=a3) w19).trans hEw20.chg) hCw21 (fun k hk hs=>by have h:k=_:=hs;first | exact hs | exact .inl h | exact .inr h |(exfalso;omega)))
   refine ⟨.inr hX6, ?_⟩
   refine zE (zb (zd (zc 1 [(99,(vP w7.heap.size 1))] ?_)))
   have hK22:=((((hK13.book hBkw18).ext hEw19).ext hEw20).chg hCw21)
   refine za (zm w7.heap.size 1 (hK22.cell rfl) ?_)
   refine zc 1 [(101,(vI (num n k+idx b k)))] (za (zah a3 0 n_t n_t (num n k+idx b k) 280 ?_))
   refine zc 1 [(103,(vP a3 (0+(num n k+idx b k)*280+275)))] (za (zaj 4 a3 (0+(num n k+idx b k)*280+275) 77 vT (((zau n b (set1 t b x y) (k-1)).set (num n k+idx b k) (((zau n b (set1 t b x y) (k-1)).getD (num n k+idx b k) Un.zero).setE (((ndU n (zau n b (set1 t b x y) (k-1)) (k-1) (idx b (k-1))).nd.ix)%4) (enU (ndU n (zau n b (set1 t b x y) (k-1)) (k-1) (idx b (k-1)))))).flatMap unC) hBw21 (by (try simp only [List.length_append,List.length_cons,List.length_nil,List.length_set]);(try rw [zaE zK]);(try simp only [List.length_set]);have:=(show List.length (zau n b (set1 t b x y) (k-1))=n_t from by rw [zdu,zcO];omega);omega) ?_))
   intro w22 hBw22 hCw22
   have hzw22:=hCw22.size
   rw [show ((((zau n b (set1 t b x y) (k-1)).set (num n k+idx b k) (((zau n b (set1 t b x y) (k-1)).getD (num n k+idx b k) Un.zero).setE (((ndU n (zau n b (set1 t b x y) (k-1)) (k-1) (idx b (k-1))).nd.ix)%4) (enU (ndU n (zau n b (set1 t b x y) (k-1)) (k-1) (idx b (k-1)))))).flatMap unC).set (0+(num n k+idx b k)*280+275) vT:List Value)=(((zau n b (set1 t b x y) (k-1)).set (num n k+idx b k) (((zau n b (set1 t b x y) (k-1)).getD (num n k+idx b k) Un.zero).setE (((ndU n (zau n b (set1 t b x y) (k-1)) (k-1) (idx b (k-1))).nd.ix)%4) (enU (ndU n (zau n b (set1 t b x y) (k-1)) (k-1) (idx b (k-1)))))).set (num n k+idx b k) ((((zau n b (set1 t b x y) (k-1)).set (num n k+idx b k) (((zau n b (set1 t b x y) (k-1)).getD (num n k+idx b k) Un.zero).setE (((ndU n (zau n b (set1 t b x y) (k-1)) (k-1) (idx b (k-1))).nd.ix)%4) (enU (ndU n (zau n b (set1 t b x y) (k-1)) (k-1) (idx b (k-1)))))).getD (num n k+idx b k) Un.zero).setDt true)).flatMap unC from (by have hz:=zcg zK Un.zero ((((zau n b (set1 t b x y) (k-1)).set (num n k+idx b k) (((zau n b (set1 t b x y) (k-1)).getD (num n k+idx b k) Un.zero).setE (((ndU n (zau n b (set1 t b x y) (k-1)) (k-1) (idx b (k-1))).nd.ix)%4) (enU (ndU n (zau n b (set1 t b x y) (k-1)) (k-1) (idx b (k-1)))))).getD (num n k+idx b k) Un.zero).setDt true) ((zau n b (set1 t b x y) (k-1)).set (num n k+idx b k) (((zau n b (set1 t b x y) (k-1)).getD (num n k+idx b k) Un.zero).setE (((ndU n (zau n b (set1 t b x y) (k-1)) (k-1) (idx b (k-1))).nd.ix)%4) (enU (ndU n (zau n b (set1 t b x y) (k-1)) (k-1) (idx b (k-1)))))) (num n k+idx b k) 275 ([vT]) [] (by (try simp only [List.length_set]);rw [zdu,zcO];omega) (zil) (by (try simp only [List.length_cons,List.length_nil]);(try rw [zK]);omega);rw [List.append_nil,List.append_nil] at hz;rw [show 0+(num n k+idx b k)*280+275=(num n k+idx b k)*280+275 from by omega];exact hz),show (((zau n b (set1 t b x y) (k-1)).set (num n k+idx b k) (((zau n b (set1 t b x y) (k-1)).getD (num n k+idx b k) Un.zero).setE (((ndU n (zau n b (set1 t b x y) (k-1)) (k-1) (idx b (k-1))).nd.ix)%4) (enU (ndU n (zau n b (set1 t b x y) (k-1)) (k-1) (idx b (k-1)))))).set (num n k+idx b k) ((((zau n b (set1 t b x y) (k-1)).set (num n k+idx b k) (((zau n b (set1 t b x y) (k-1)).getD (num n k+idx b k) Un.zero).setE (((ndU n (zau n b (set1 t b x y) (k-1)) (k-1) (idx b (k-1))).nd.ix)%4) (enU (ndU n (zau n b (set1 t b x y) (k-1)) (k-1) (idx b (k-1)))))).getD (num n k+idx b k) Un.zero).setDt true))=(zeP n b (k-1) (zau n b (set1 t b x y) (k-1))) from zue (by omega) (by rw [zdu,zcO];omega) rfl] at hBw22
   have hmw22:Ms unC 280 a3 (a3+1) w22 (pA a3 0) n_t n_t (zeP n b (k-1) (zau n b (set1 t b x y) (k-1))):=Ms.of_pre (r:= []) (by rw [List.append_nil];exact hBw22) zK (by rw [zo3,zdu,zcO];omega) (by omega) (by simp only [maxLen] at*;omega) (by omega) (by omega)
   refine zf (zb (zd (zc 1 [(104,(vP w7.heap.size 1))] (za (zm w7.heap.size 1 ((hK22.chg hCw22).cell rfl) ?_)))))
   refine zc 1 [(106,(vI (num n k+idx b k)))] (za (zah a3 0 n_t n_t (num n k+idx b k) 280 ?_))
   refine za (zT a3 (0+(num n k+idx b k)*280) (hmw22.at Un.zero (by omega)) (zK _) ?_)
   have hK23:=(((((hBe.book hBkw18).ext hEw19).ext hEw20).chg hCw21).chg hCw22)
   refine za (zG 77 w14.heap.size 0 77 (vA (unC ((zeP n b (k-1) (zau n b (set1 t b x y) (k-1))).getD (num n k+idx b k) Un.zero))) (unC (ndU n (zau n b (set1 t b x y) (k-1)) (k-1) (idx b (k-1)))) (unC ((zeP n b (k-1) (zau n b (set1 t b x y) (k-1))).getD (num n k+idx b k) Un.zero)) hK23 (by rw [zK];kernel_rfl) (by first |(simp;done)|(simp;omega)) (zbh _) ?_)
   have hK24:=(((((hBe.book hBkw18).ext hEw19).ext hEw20).chg hCw21).chg hCw22)
   intro w23 hBw23 hCw23
   have hzw23:=hCw23.size
   rw [zy _ _ (by simp)] at hBw23
   refine zf (zi ?_)
   have hK25:=((((((hK4.book hBkw18).ext hEw19).ext hEw20).chg hCw21).chg hCw22).chg hCw23)
   have hK26:=((((((hK8.book hBkw18).ext hEw19).ext hEw20).chg hCw21).chg hCw22).chg hCw23)
   have hK27:=((((((hK11.book hBkw18).ext hEw19).ext hEw20).chg hCw21).chg hCw22).chg hCw23)
   have hK28:=((((((hs1.book hBkw18).ext hEw19).ext hEw20).chg hCw21).chg hCw22).chg hCw23)
   have hK29:=((((((hs2.book hBkw18).ext hEw19).ext hEw20).chg hCw21).chg hCw22).chg hCw23)
   have hX7:Ext w w23:=(Ext.own (Ext.own (Ext.own (((hEw.book hBkw18 (by omega)).trans hEw19).trans hEw20) hCw21 (by omega)) hCw22 (by omega)) hCw23 (by omega))
   exact zdZ ((((((Kpt.refl _).ext hEw19).ext hEw20).blk hK21 hCw21).blk hBw21 hCw22).blk hK24 hCw23) (Chg.then (Chg.then (Chg.then (((Chg.refl _ _).trans hEw19.chg).trans hEw20.chg) hCw21 (fun k hk hs=>by have h:k=_:=hs;first |(left;omega)|(exfalso;omega)|(right;simp [h];done))) hCw22 (fun k hk hs=>by have h:k=_:=hs;first |(left;omega)|(exfalso;omega)|(right;simp [h];done))) hCw23 (fun k hk hs=>by have h:k=_:=hs;first |(left;omega)|(exfalso;omega)|(right;simp [h];done))) (⟨by rw [←zlc (by omega)];exact (hBw22.chg hCw23),by have hz:=hBw23;rw [zlc (by omega)] at hz;exact hz,hK25,hK26,hK27,((hK22.chg hCw22).chg hCw23),hK28,hK29,hX7⟩)
  ·replace hc85:¬(k>0):=by have:=zad hc85;omega
   refine zf (zb (zh (zk (zb (zd (zc 1 [(104,(vP w7.heap.size 1))] (za (zm w7.heap.size 1 ((hK13.book hBkw18).cell rfl) ?_))))))))
   refine zc 1 [(106,(vI (num n k+idx b k)))] (za (zah a3 0 n_t n_t (num n k+idx b k) 280 ?_))
   refine za (zT a3 (0+(num n k+idx b k)*280) ((hmR.book hBkw18).at Un.zero (by omega)) (zK _) ?_)
   refine za (zG 77 w14.heap.size 0 77 (vA (unC ((zau n b (set1 t b x y) (k-1)).getD (num n k+idx b k) Un.zero))) (unC (ndU n (zau n b (set1 t b x y) (k-1)) (k-1) (idx b (k-1)))) (unC ((zau n b (set1 t b x y) (k-1)).getD (num n k+idx b k) Un.zero)) (hBe.book hBkw18) (by rw [zK];kernel_rfl) (by first |(simp;done)|(simp;omega)) (zbh _) ?_)
   intro w24 hBw24 hCw24
   have hzw24:=hCw24.size
   rw [zy _ _ (by simp)] at hBw24
   exact zf (zi (zdZ ((Kpt.refl _).blk (hBe.book hBkw18) hCw24) (Chg.then (Chg.refl _ _) hCw24 (fun k hk hs=>by have h:k=_:=hs;first |(left;omega)|(exfalso;omega)|(right;simp [h];done))) (⟨by rw [show k+1-1=k-1 from by omega];exact ((hR.book hBkw18).chg hCw24),by rw [show k+1-1=0 from by omega];have hz:=hBw24;rw [show k=0 from by omega] at hz;exact hz,((hK4.book hBkw18).chg hCw24),((hK8.book hBkw18).chg hCw24),((hK11.book hBkw18).chg hCw24),((hK13.book hBkw18).chg hCw24),((hs1.book hBkw18).chg hCw24),((hs2.book hBkw18).chg hCw24),(Ext.own (hEw.book hBkw18 (by omega)) hCw24 (by omega))⟩)))
 ·rintro D w25 hD ⟨hR,hBe,hK4,hK8,hK11,hK13,hs1,hs2,hEw⟩ hM
  have hzr:=hEw.size
  have hRl:=hR.lt;have hBel:=hBe.lt
  have hK4l:=hK4.lt
  have hK8l:=hK8.lt
  have hK11l:=hK11.lt
  have hK13l:=hK13.lt
  have hmR:=Ms.of_row hR zK (len:=n_t) (by rw [zdu,zcO];omega) (by simp only [maxLen];omega)
  have hMl:=hM.lt
  refine zi (zb (ze (zd (za (zO w7.heap.size 0 (hK13.all) ?_)))))
  refine zc 1 [(110,(vI (zaZ (t.getD (b/4) Un.zero) (b%4))))] (za (zG 38 w3.heap.size 0 38 (vA [(.int .i64 ((n:Nat):Int)),(.slice (pA a3 0) n_t n_t)]) ([(vI 0),(.slice none 0 0)]) ([(.int .i64 ((n:Nat):Int)),(.slice (pA a3 0) n_t n_t)]) hK8 (by kernel_rfl) (by first | decide |(simp;done)|(simp;omega)) (by simp [Value.oneCell']) ?_))
  intro w26 hBw26 hCw26
  have hzw26:=hCw26.size
  rw [zy _ _ (by kernel_rfl)] at hBw26
  refine zc 2 [(10,(vI 0)),(9,(vI (zaZ (t.getD (b/4) Un.zero) (b%4))))] (zf (zb (zj ?_)))
  obtain ⟨w27,hTw27,hCw27,hBkw27⟩:=zga (P:=Tryz.prog) (hM.chg hCw26)
  have hzw27:=hCw27.size
  refine zn5 hTw27 (ziz (by kernel_rfl) (show zX Tryz.prog 111 _ _ (.cell 8 38) (vA [(.int .i64 ((n:Nat):Int)),(.slice (pA a3 0) n_t n_t)]) from ⟨⟨w3.heap.size,0,none⟩,(by kernel_rfl),zI (T:=38) (vs:= [(.int .i64 ((n:Nat):Int)),(.slice (pA a3 0) n_t n_t)]) ((hBw26.book hBkw27)).all (by kernel_rfl)⟩) (show zX Tryz.prog 111 _ _ (.tmp 9) (vI (zaZ (t.getD (b/4) Un.zero) (b%4))) by (show _=_;kernel_rfl)) (show zX Tryz.prog 111 _ _ (.tmp 10) (vI 0) by (show _=_;kernel_rfl))) ?_
  have hfin:=((hmR.chg hCw26).book hBkw27)
  exact ⟨_,rfl,hfin.now.mono (by omega) (Nat.le_refl _),((Ext.own hEw hCw26 (by omega)).book hBkw27 (by omega))⟩
 ·intro D cc k w28 hD hk hx;exact hx.elim
end Go.Proofs.YtkmhgepdhilllaaGreatDoor
namespace Go.Proofs.YtkmhgepdhilllaaGreatDoor
open Go Go.RowKit Go.Cs
set_option maxRecDepth 100000
theorem zrG {lo_x hi_x:Nat} {a_x:Option Addr} {n_x c_x:Nat} {x:List (Nat×Nat)} (w:World) (h_x:Ms zhn 2 lo_x hi_x w a_x n_x c_x x):
  Calls Tryz.prog 68 #[(.slice a_x n_x c_x)] w (Ret fun r w'=>∃a0,r=(.slice a0 n_x n_x)∧Ms zhn 2 lo_x w'.heap.size w' a0 n_x n_x x∧w=w'):=by
 refine zD (n:=9) (σ:= [(0,(.slice a_x n_x c_x))]) Tryz.func68 rfl ?_
 replace h_x:=h_x.now;have hle_x:=h_x.le
 refine ze (zd (zc 1 [(2,(.slice none 0 0))] (zf (zb (ze (zd (zc 5 [(7,(vI n_x)),(6,(.slice a_x n_x c_x)),(5,(vI n_x)),(4,(.slice a_x n_x c_x)),(3,(.slice a_x n_x c_x))] ?_)))))))
 obtain ⟨a1,hR1,hS1⟩:=h_x.slice Tryz.prog 85 89 0 n_x n_x none (some (vI n_x)) (some (vI n_x))
 refine za (zaM (Instr.sliceAt 85 (.slice a_x n_x c_x) none (some (vI n_x)) (some (vI n_x))) (.slice a1 (n_x-0) (n_x-0)) (hR1 _) ?_)
 refine zc 1 [(2,(.slice a1 (n_x-0) (n_x-0)))] (zf (zb (zj (zl (.slice a1 (n_x-0) (n_x-0)) ?_))))
 have hfin:=hS1
 rw [List.drop_zero,Nat.sub_zero,show x.take n_x=x from by rw [h_x.len_eq,List.take_length]] at hfin
 exact ⟨_,rfl,hfin.mono (Nat.le_refl _) (by omega),rfl⟩
theorem zkM (n:Nat) {lo_t hi_t:Nat} {a_t:Option Addr} {n_t c_t:Nat} {t:List Un} (w:World) (h_t:Ms unC 280 lo_t hi_t w a_t n_t c_t t) (hp0:1≤n) (hp1:n≤4096) (hp2:n_t=tot n) (hp3:∀i,i<t.length→(t.getD i Un.zero).sl=0∨(t.getD i Un.zero).sl=1) (hp4:zbQ n (zbi n t)=0) (hg0:Gl 0 [vI 45,vI 33] w) (hg1:Gl 1 (w8C zbp) w) (hg2:Gl 3 (zay kA) w):
  Calls Tryz.prog 30 #[(vA [(vI n),(.slice a_t n_t c_t)])] w (Ret fun r w'=>∃a0,r=(.tuple #[(.slice a0 (List.length (zbj n t (tot n))) (List.length (zbj n t (tot n)))),(vI 0)])∧Ms zhn 2 w.heap.size w'.heap.size w' a0 (List.length (zbj n t (tot n))) (List.length (zbj n t (tot n))) (zbj n t (tot n))∧Ext w w'):=by
 refine zeF (n:=41) (σ:= [(0,(vA [(vI n),(.slice a_t n_t c_t)]))]) Tryz.func30 rfl ?_
 replace h_t:=h_t.now;have hle_t:=h_t.le
 have hgl0:=hg0.lt
 have hgl1:=hg1.lt
 have hgl2:=hg2.lt
 have h5:=zar n
 have hlt:=h_t.len_eq
 have hts:=zaB hp1
 have hle:=h_t.le
 refine ze (zd (za (zaa (Instr.box 38 (vA [(vI n),(.slice a_t n_t c_t)])) (vP w.heap.size 0) ([(vI n),(.slice a_t n_t c_t)]) 38 ?_)))
 intro w1 hBw1 hEw1 hzw1 hlw1
 refine zc 2 [(3,(vI 0)),(2,(.slice none 0 0))] (zf (zb (ze (zd (za (zO w.heap.size 0 (hBw1.all) ?_))))))
 refine za (zp (zkI n _ (h_t.ext hEw1) (by omega) (by omega) (by omega) (by assumption) (hg0.ext hEw1) (hg1.ext hEw1) (hg2.ext hEw1)) ?_)
 rintro _ w2 ⟨a1,ca1,a2,ca2,rfl,hFz1_0,hFz1_1,hEw2⟩
 have hzw2:=hEw2.size
 have hlea1:=hFz1_0.le
 have hlea2:=hFz1_1.le
 rw [show zbQ n (zbi n t)=0 from hp4]
 refine zc 3 [(13,(vI 0)),(12,(vA [(.slice a1 (hgt n+1) ca1),(.slice a2 (hgt n+1) ca2)])),(9,(.tuple #[(vA [(.slice a1 (hgt n+1) ca1),(.slice a2 (hgt n+1) ca2)]),(vI 0)]))] (zal ([(.slice a1 (hgt n+1) ca1),(.slice a2 (hgt n+1) ca2)]) 114 rfl (by simp [Value.oneCell']) ?_)
 intro w3 hBw3 hEw3 hzw3 hlw3
 refine zc 1 [(5,(vI 0))] (zf (zb (ze (ze (zd (zc 2 [(15,vF),(14,(vI 0))] (zf (zb (zh ?_)))))))))
 refine zk (zb (ze (zd (za (zaf ([(.slice none 0 0)]) 85 ?_)))))
 intro w4 hBw4 hEw4 hzw4 hlw4
 refine zf (zb (ze (ze (zd (za (zO w2.heap.size 0 ((hBw3.ext hEw4).all) ?_))))))
 refine za (zp (zpM _ ((hFz1_0.ext hEw3).ext hEw4) ((hFz1_1.ext hEw3).ext hEw4)) ?_)
 rintro _ w5 ⟨a3,rfl,hFz2_0,hFz2_1,hEw5⟩
 have hzw5:=hEw5.size
 have hla3:=hFz2_1.lt
 refine zf (zb (zr ?_))
 have hK1:=((((hBw1.ext hEw2).ext hEw3).ext hEw4).ext hEw5)
 have hK2:=(((hFz1_0.ext hEw3).ext hEw4).ext hEw5)
 have hK3:=(((hFz1_1.ext hEw3).ext hEw4).ext hEw5)
 have hX1:Ext w w5:=((((hEw1.trans hEw2).trans hEw3).trans hEw4).trans hEw5)
 have hK4:=(((hFz1_0.ext hEw3).ext hEw4).ext hEw5)
 have hK5:=(((hFz1_1.ext hEw3).ext hEw4).ext hEw5)
 refine zhA [19,20] 91 [(vP a3 0)] (tot n) (fun k=> [(vI (lvK n k)),(vI k)]) (fun b=>b=w3.heap.size) (fun b=>False) (fun k w'=>∃ao cp,w5.heap.size≤w'.heap.size∧OwM zhn 2 w5.heap.size w'.heap.size w' ao (List.length (zbj n t k)) cp 89 (zbj n t k)∧Blk w' w3.heap.size [.slice ao (List.length (zbj n t k)) cp] 85∧Blk w' w.heap.size ([(vI n),(.slice a_t n_t c_t)]) 38∧Blk w' w2.heap.size ([(.slice a1 (hgt n+1) ca1),(.slice a2 (hgt n+1) ca2)]) 114∧Es (nv .i64) w1.heap.size w2.heap.size w' a1 (hgt n+1) ca1 (zaT n (hgt n+1))∧Es (nv .i64) w1.heap.size w2.heap.size w' a2 (hgt n+1) ca2 (zbd n (hgt n+1))∧Ext w w') (fun cc k w'=>False) (fun b hb=>hb.elim) (fun _=>rfl) (fun k W W' ⟨a,cp,h0,h1,h2,h3,h4,h5,h6,h8⟩ hb=>⟨a,cp,Nat.le_trans h0 hb.size,(h1.book hb).mono (Nat.le_refl _) hb.size,h2.book hb,h3.book hb,h4.book hb,h5.book hb,h6.book hb,h8.book hb (by omega)⟩) (fun _ _ _ _ h _=>h) (fun k W W' ⟨a,cp,h0,h1,h2,h3,h4,h5,h6,h8⟩ hc=>⟨a,cp,Nat.le_trans h0 hc.size,(h1.ext hc).mono (Nat.le_refl _) hc.size,h2.ext hc,h3.ext hc,h4.ext hc,h5.ext hc,h6.ext hc,h8.trans hc⟩) (⟨none,0,Nat.le_refl _,OwM.nil _ _ _ _ _ _ zlX,(hBw4.ext hEw5),hK1,((hBw3.ext hEw4).ext hEw5),hK2,hK3,hX1⟩) (fun lp J Jx wj hE1 hJ hY h0=>zo5 n w5.heap.size lp (fun b=>b=w3.heap.size) J Jx wj hp0 hp1 (hFz2_1.ext hE1) (hK4.ext hE1) (hK5.ext hE1) (fun b hb=>⟨by omega,by omega,by omega⟩) hJ hY h0) ?_ ?_ ?_
 ·rintro lR k w6 hl ⟨ao,cp,hsz,hO,hB6,hQ1,hQ4,hs1,hs2,hEw⟩ hk
  have hzr:=hEw.size
  have hB6l:=hB6.lt
  have hmO:=hO.ms;have hleO:=hmO.le
  have hQ1l:=hQ1.lt
  have hQ4l:=hQ4.lt
  have hdl:=zmW n t k
  obtain ⟨l,j,hl,hj,hlv,rfl⟩:=zfP hk
  rw [hlv]
  have hns:=zbP (n:=n) (l:=l) hp1 (by omega)
  have hgf:gt (zbd n (hgt n+1)) l=num n l:=zcy (by omega)
  have hkl:num n l+j<n_t:=by omega
  refine ze (zd (zc 1 [(7,(vI l))] (zf (zb (zd (zc 1 [(8,(vI (num n l+j)))] (zf (zlm (Kpt.refl _) (Chg.refl _ _) (fun w7 hBkw7=> ?_)))))))))
  have hzw7:=hBkw7.size
  refine zr (ze (zd (zc 1 [(21,(vP w.heap.size 1))] (za (zm w.heap.size 1 ((hQ1.book hBkw7).cell rfl) ?_)))))
  refine zc 1 [(23,(vI (num n l+j)))] ?_
  obtain ⟨b1,o1,rfl⟩:=h_t.addr (by omega) (by decide)
  refine za (zah b1 o1 n_t c_t (num n l+j) 280 ?_)
  refine zc 1 [(25,(vP b1 (o1+(num n l+j)*280+275)))] ?_
  rcases Bool.eq_false_or_eq_true ((t.getD (num n l+j) Un.zero).dt) with hb26 | hb26
  ·refine za (zm b1 (o1+(num n l+j)*280+275) (Eq.trans (((h_t.ext hEw).book hBkw7).cell (j:=275) Un.zero (by omega) (zfh _)) (congrArg (fun z=>some (Value.bool z)) hb26)) ?_)
   refine zf (zb (zv (zbD (fun k=>w5.heap.size≤k) 13 (fun w8 hEw8 hzw8 hT114=> ?_))))
   have hX2:Chg (fun k=>w5.heap.size≤k) w8 w8:=(Chg.refl (fun k=>w5.heap.size≤k) w8)
   refine zA (hw:=hX2) hT114 0 w3.heap.size 0 (fun w' hC=>((((hB6.book hBkw7).ext hEw8).chg hC (fun hs=>by have h:_≤_:=hs;omega)).cell rfl)) (zg (hw:=hX2) hT114 [(1,28,(vI l)),(2,29,(vI (num n l+j))),(3,30,(vP w2.heap.size 1))] 3 (zA (hw:=hX2) hT114 4 w2.heap.size 1 (fun w' hC=>((((hQ4.book hBkw7).ext hEw8).chg hC (fun hs=>by have h:_≤_:=hs;omega)).cell rfl)) (zg (hw:=hX2) hT114 [(5,32,(vI l))] 1 ?_)))
   obtain ⟨b2,o2,rfl⟩:=hs2.addr (by omega)
   refine zas (hw:=hX2) hT114 6 b2 o2 (hgt n+1) ca2 l 1 (zA (hw:=hX2) hT114 7 b2 (o2+l*1) (fun w' hC=>((((hs2.book hBkw7).ext hEw8).chg hC (fun k h1 h2 hs=>by have h:_≤_:=hs;omega)).celln (by omega))) (zn (hw:=hX2) hT114 8 (vI j) (zY .i64 (IntKind.i64.wrap (((num n l+j:Nat):Int)-((gt (zbd n (hgt n+1)) l:Nat):Int))) (zu)) (zg (hw:=hX2) hT114 [(9,36,(vA [(vI l),(vI j)]))] 1 (zx 10 (zcV (some 37) (Instr.buildSlice 85 1 #[(0,(vA [(vI l),(vI j)]))]) (.slice (pA w8.heap.size 0) 1 1) [(vI l),(vI j)] 89 ?_)))))
   intro w9 hBw9 hEw9
   have hzw9:=hEw9.size;have hlw9:=hBw9.lt
   have hmw9:Ms zhn 2 w8.heap.size (w8.heap.size+1) w9 (pA w8.heap.size 0) 1 1 [(l,j)]:=Ms.of_pre (r:= []) (show Blk _ _ _ _ from hBw9) zlX rfl (Nat.le_refl _) (by decide) (Nat.le_refl _) (Nat.lt_succ_self _)
   have hX3:Chg (fun k=>w5.heap.size≤k) w8 w9:=((Chg.refl (fun k=>w5.heap.size≤k) w8).trans hEw9.chg)
   refine ⟨.inr hX3, ?_⟩
   have hK6:=(((hO.book hBkw7).ext hEw8).ext hEw9)
   refine zx 11 (zbE (some 38) 85 85 89 16 (vA [(vI 0),(vI 0)]) hK6 hmw9 zqs ?_ rfl (by decide))
   intro a4 c1 w10 hOw10 hCw10
   have hzw10:=hCw10.size
   have hSw10:=hOw10.ms;have hlea4:=hSw10.le
   have hK7:=(((hO.book hBkw7).ext hEw8).ext hEw9)
   have hX4:Chg (fun k=>w5.heap.size≤k) w8 w10:=(Chg.then ((Chg.refl (fun k=>w5.heap.size≤k) w8).trans hEw9.chg) hCw10 (fun k hk hs=>by have hn:=hK7.ne hs;show _≤_;omega))
   refine ⟨.inr hX4, ?_⟩
   have hK8:=(((hO.book hBkw7).ext hEw8).ext hEw9)
   have hK9:=(((((hB6.book hBkw7).ext hEw8).ext hEw9)).chg hCw10 (fun hs=>by have hn:=hK8.ne hs;omega))
   refine zx 12 (zaj 85 w3.heap.size 0 85 (.slice a4 ((List.length (zbj n t (num n l+j)))+1) c1) ([.slice ao (List.length (zbj n t (num n l+j))) cp]) hK9 (by first | decide |(simp;done)|(simp;omega)) ?_)
   have hK10:=(((hO.book hBkw7).ext hEw8).ext hEw9)
   have hK11:=(((((hB6.book hBkw7).ext hEw8).ext hEw9)).chg hCw10 (fun hs=>by have hn:=hK10.ne hs;omega))
   intro w11 hBw11 hCw11
   have hzw11:=hCw11.size
   replace hBw11:=hBw11.set1
   refine ⟨.inl (by kernel_rfl), ?_⟩
   refine zE (zi ?_)
   have hK12:=(((hO.book hBkw7).ext hEw8).ext hEw9)
   have hK13:=((((((hQ1.book hBkw7).ext hEw8).ext hEw9)).chg hCw10 (fun hs=>by have hn:=hK12.ne hs;omega)).chg hCw11)
   have hK14:=(((hO.book hBkw7).ext hEw8).ext hEw9)
   have hK15:=((((((hQ4.book hBkw7).ext hEw8).ext hEw9)).chg hCw10 (fun hs=>by have hn:=hK14.ne hs;omega)).chg hCw11)
   have hK16:=(((hO.book hBkw7).ext hEw8).ext hEw9)
   have hK17:=((((((hs1.book hBkw7).ext hEw8).ext hEw9)).chg hCw10 (fun k h1 h2 hs=>by have hn:=hK16.ne hs;omega)).chg hCw11)
   have hK18:=(((hO.book hBkw7).ext hEw8).ext hEw9)
   have hK19:=((((((hs2.book hBkw7).ext hEw8).ext hEw9)).chg hCw10 (fun k h1 h2 hs=>by have hn:=hK18.ne hs;omega)).chg hCw11)
   have hK20:=(((hO.book hBkw7).ext hEw8).ext hEw9)
   have hX5:Ext w w11:=(Ext.own (Ext.ownS (((hEw.book hBkw7 (by omega)).trans hEw8).trans hEw9) hCw10 (fun k hs hk=>by have hn:=hK20.ne hs;omega)) hCw11 (by omega))
   have hK21:=(((hO.book hBkw7).ext hEw8).ext hEw9)
   exact zdZ (((((Kpt.refl _).ext hEw8).ext hEw9).owm hK6 hCw10).blk hK11 hCw11) (Chg.then (Chg.then (((Chg.refl _ _).trans hEw8.chg).trans hEw9.chg) hCw10 (fun k hk hs=>by have hn:=hK21.ne hs;first |(left;omega)|(exfalso;omega))) hCw11 (fun k hk hs=>by have h:k=_:=hs;first |(left;omega)|(exfalso;omega)|(right;simp [h];done))) (by rw [zgQ (show (t.getD (num n l+j) Un.zero).dt=true from hb26)];rw [hlv,Nat.add_sub_cancel_left,List.length_append,show [(l,j)].length=1 from rfl];exact ⟨_,_,by omega,((hOw10.chg hCw11)).now,hBw11,hK13,hK15,hK17,hK19,hX5⟩)
  ·refine za (zm b1 (o1+(num n l+j)*280+275) (Eq.trans (((h_t.ext hEw).book hBkw7).cell (j:=275) Un.zero (by omega) (zfh _)) (congrArg (fun z=>some (Value.bool z)) hb26)) ?_)
   exact zf (zb (zh (zk (zi (zdZ (Kpt.refl _) (Chg.refl _ _) (by rw [zje (show (t.getD (num n l+j) Un.zero).dt=false from hb26)];exact ⟨_,_,by omega,((hO.book hBkw7)).now,(hB6.book hBkw7),(hQ1.book hBkw7),(hQ4.book hBkw7),(hs1.book hBkw7),(hs2.book hBkw7),(hEw.book hBkw7 (by omega))⟩))))))
 ·rintro D w12 hD ⟨ao,cp,hsz,hO,hB6,hQ1,hQ4,hs1,hs2,hEw⟩ hM
  have hzr:=hEw.size
  have hB6l:=hB6.lt
  have hmO:=hO.ms;have hleO:=hmO.le
  have hQ1l:=hQ1.lt
  have hQ4l:=hQ4.lt
  have hMl:=hM.lt
  refine zi (zb (ze (zd (za (zm w3.heap.size 0 (hB6.cell rfl) ?_)))))
  refine za (zp (zrG _ hmO) ?_)
  rintro _ _ ⟨a5,rfl,hFz3_0,rfl⟩
  have hlea5:=hFz3_0.le
  refine zc 2 [(3,(vI 0)),(2,(.slice a5 (List.length (zbj n t (tot n))) (List.length (zbj n t (tot n)))))] (zf (zb (zj ?_)))
  obtain ⟨w13,hTw13,hCw13,hBkw13⟩:=zga (P:=Tryz.prog) hM
  have hzw13:=hCw13.size
  exact znk hTw13 (.tuple #[(.slice a5 (List.length (zbj n t (tot n))) (List.length (zbj n t (tot n)))),(vI 0)]) (⟨_,rfl,((hFz3_0.book hBkw13)).now.mono (by omega) (Nat.le_refl _),(hEw.book hBkw13 (by omega))⟩)
 ·intro D cc k w14 hD hk hx;exact hx.elim
end Go.Proofs.YtkmhgepdhilllaaGreatDoor
namespace Go.Proofs.YtkmhgepdhilllaaGreatDoor
open Go Go.RowKit Go.Cs
set_option maxRecDepth 100000
theorem zeo (n:Nat) {lo_t hi_t:Nat} {a_t:Option Addr} {n_t c_t:Nat} {t:List Un} (w:World) (h_t:Ms unC 280 lo_t hi_t w a_t n_t c_t t) (hp0:1≤n) (hp1:n≤4096) (hp2:n_t=tot n) (hp3:∀i,i<t.length→(t.getD i Un.zero).sl=0∨(t.getD i Un.zero).sl=1) (hp4:zbQ n (zbi n t)=0) (hg0:Gl 0 [vI 45,vI 33] w) (hg1:Gl 1 (w8C zbp) w) (hg2:Gl 3 (zay kA) w):
  Calls Tryz.prog 17 #[(vA [(vI n),(.slice a_t n_t c_t)])] w (Ret fun r w'=>∃a1,r=(.tuple #[(vA [(vI n),(.slice a1 n_t n_t)]),(vI 0)])∧Ms unC 280 w.heap.size w'.heap.size w' a1 n_t n_t (zc8 n_t t)∧Ext w w'):=by
 refine zD (n:=46) (σ:= [(0,(vA [(vI n),(.slice a_t n_t c_t)]))]) Tryz.func17 rfl ?_
 replace h_t:=h_t.now;have hle_t:=h_t.le
 have hgl0:=hg0.lt
 have hgl1:=hg1.lt
 have hgl2:=hg2.lt
 have h5:=zar n
 have hlt:=h_t.len_eq
 have hts:=zaB hp1
 have hle:=h_t.le
 have htt:=zcF hp0 hp1
 have hce:zc3 (n:Int) t=0:=by rw [zf1 hp0 hp1 (by omega) (zdx.2 hp3)];exact hp4
 refine ze (zd (za (zaa (Instr.box 38 (vA [(vI n),(.slice a_t n_t c_t)])) (vP w.heap.size 0) ([(vI n),(.slice a_t n_t c_t)]) 38 ?_)))
 intro w1 hBw1 hEw1 hzw1 hlw1
 refine za (zaf ([(vI 0),(.slice none 0 0)]) 38 ?_)
 intro w2 hBw2 hEw2 hzw2 hlw2
 refine zc 1 [(3,(vI 0))] (zf (zb (ze (ze (zd (za (zO w.heap.size 0 ((hBw1.ext hEw2).all) ?_)))))))
 refine za (zp (zi4 ((n:Nat):Int) _ ((h_t.ext hEw1).ext hEw2) ((hg0.ext hEw1).ext hEw2) ((hg1.ext hEw1).ext hEw2) ((hg2.ext hEw1).ext hEw2)) ?_)
 rintro _ w3 ⟨rfl,hEw3⟩
 have hzw3:=hEw3.size
 rw [show zc3 ((n:Nat):Int) t=0 from hce]
 refine zc 1 [(4,(vI 0))] (zf (zb (ze (zd (zc 1 [(11,(vI 0))] (za (zae (some 12) (((0:Nat):Int) !=((0:Nat):Int)) false (zax) ?_)))))))
 refine zf (zb (zh (zk (zb (ze (zd (za (zO w.heap.size 0 (((hBw1.ext hEw2).ext hEw3).all) ?_))))))))
 have hK1:=(((h_t.ext hEw1).ext hEw2).ext hEw3)
 refine za (zp (zpr ((n:Nat):Int) _ hK1 (by omega) (by omega)) ?_)
 rintro _ w4 ⟨a1,rfl,hFz2_0,hFz2_1,hFz2_2,hFz2_3,hEw4⟩
 have hzw4:=hEw4.size
 have hla1:=hFz2_1.lt;have hma1:=Ms.of_row hFz2_1 zK (len:=n_t) hFz2_2 hFz2_3
 refine zal ([(.int .i64 ((n:Nat):Int)),(.slice (pA a1 0) n_t n_t)]) 38 rfl (by simp [Value.oneCell']) ?_
 intro w5 hBw5 hEw5 hzw5 hlw5
 refine zf (zb (ze (ze (zd (zc 1 [(17,(vP w4.heap.size 1))] (za (zm w4.heap.size 1 (hBw5.cell rfl) ?_)))))))
 refine zc 2 [(20,(vI 0)),(19,(vI n_t))] (zf (zb (zr ?_)))
 have hK2:=(((hBw2.ext hEw3).ext hEw4).ext hEw5)
 have hX1:Ext w w5:=((((hEw1.trans hEw2).trans hEw3).trans hEw4).trans hEw5)
 refine zU (X:=Nat) (fun k=> [(20,(vI k))]) [6,7,8,21,22,23,24,25,26,27,28,29,30,31,32,33,34,35,36,37,38,39,40,41,42,43,44] (fun k w6=>k≤n_t∧Blk w6 a1 ((za4 n_t (zbG n_t t) (fun i=>t.getD i Un.zero) k).flatMap unC) 77∧Blk w6 w1.heap.size ([(vI 0),(.slice none 0 0)]) 38∧Blk w6 w4.heap.size ([(.int .i64 ((n:Nat):Int)),(.slice (pA a1 0) n_t n_t)]) 38∧Ext w w6) (fun k=>n_t-k) 0 (by kernel_rfl) ⟨Nat.zero_le _,by rw [zpV Un.zero (by omega)];exact (hFz2_1.ext hEw5),hK2,hBw5,hX1⟩ ?_
 rintro k dw6 w6 ⟨hk,hR,hQ2,hQ5,hEl⟩
 have hzl:=hEl.size;have hRl:=hR.lt
 have hmR:=Ms.of_row hR zK (len:=n_t) zbZ.symm (by simp only [maxLen];omega)
 have hQ2l:=hQ2.lt
 have hQ5l:=hQ5.lt
 refine ze (zd (za (zF (some 21) (decide (((k:Nat):Int)<((n_t:Nat):Int))) (fun hc21=> ?_) (fun hc21=> ?_))))
 ·replace hc21:k<n_t:=by have:=zac hc21;omega
  have hs0:=hp3 k (by omega)
  refine zf (zb (ze (zv (zk (zb (ze (zr (ze (zd ?_)))))))))
  refine zc 1 [(22,(vI k))] (za (zah a1 0 n_t n_t k 280 ?_))
  refine za (zT a1 (0+k*280) (by have hz:=hmR.at Un.zero (i:=k) (by omega);rw [zqz Un.zero (by omega) (Nat.le_refl _)] at hz;exact hz) (zK _) ?_)
  refine za (zaf (unC Un.zero) 77 ?_)
  intro w7 hBw7 hEw7 hzw7 hlw7
  refine zc 1 [(6,(vI k))] (za (zG 77 w6.heap.size 0 77 (vA (unC (t.getD k Un.zero))) (unC Un.zero) (unC (t.getD k Un.zero)) hBw7 (by rw [zK];kernel_rfl) (by first |(simp;done)|(simp;omega)) (zbh _) ?_))
  intro w8 hBw8 hCw8
  have hzw8:=hCw8.size
  rw [zy _ _ (by simp)] at hBw8
  refine zf (zb (ze (zd (za (zT w6.heap.size 0 (hBw8.all) (zK _) ?_)))))
  refine za (zp (zm9 (t.getD k Un.zero) _ (by assumption)) ?_)
  rintro _ w9 ⟨rfl,hEw9⟩
  have hzw9:=hEw9.size
  refine zc 1 [(8,(.int .i64 (slU (t.getD k Un.zero))))] (zf (zb (ze (ze (zd (zc 2 [(28,(vP w4.heap.size 1)),(27,(vI k))] ?_))))))
  have hK3:=(((hQ5.ext hEw7).chg hCw8).ext hEw9)
  refine za (zm w4.heap.size 1 (hK3.cell rfl) ?_)
  refine zc 1 [(30,(vI n_t))] (za (zo (some 31) .i64 (IntKind.i64.wrap (((n_t:Nat):Int)-((1:Nat):Int))) (n_t-1) (zu) ?_))
  refine za (zF (some 32) ((((k:Nat):Int)==((n_t-1:Nat):Int))) (fun hc32=> ?_) (fun hc32=> ?_))
  ·replace hc32:k=n_t-1:=by have:=zbJ hc32;omega
   refine zf (zb (zv (zd (zc 1 [(33,(vP w6.heap.size 274))] (za (zm w6.heap.size 274 ((hBw8.ext hEw9).cell (zbU _)) ?_))))))
   refine za (zhW (some 35) .i64 (IntKind.i64.wrap (((1:Nat):Int)-((t.getD k Un.zero).sl))) (1-(t.getD k Un.zero).sl) (zu rfl) ?_)
   refine zc 1 [(8,(.int .i64 (1-(t.getD k Un.zero).sl)))] (zf (zb (zd (zc 1 [(36,(vP w4.heap.size 1))] (za (zm w4.heap.size 1 (hK3.cell rfl) ?_))))))
   refine zc 2 [(39,(vP w6.heap.size 0)),(38,(vI k))] (za (zT w6.heap.size 0 ((hBw8.ext hEw9).at 0 (zJ (t.getD k Un.zero).nd) (zgc _)) (zQ _) ?_))
   refine zc 1 [(41,(.int .i64 (1-(t.getD k Un.zero).sl)))] (za (zaM (Instr.build 77 #[(0,(vA (zJ (t.getD k Un.zero).nd))),(1,(.int .i64 (1-(t.getD k Un.zero).sl)))]) (vA (unC (zbG n_t t k))) ((zeV ((t.getD k Un.zero).nd) (1-(t.getD k Un.zero).sl)).trans (congrArg (fun z:Un=>Result.ok (Value.agg (unC z).toArray) _) (show (⟨((t.getD k Un.zero).nd),1-(t.getD k Un.zero).sl,false,List.replicate 4 false,rfl⟩:Un)=zbG n_t t k from by unfold zbG;first | rw [if_pos (by omega)] | rw [if_neg (by omega)]))) ?_))
   refine za (zah a1 0 n_t n_t k 280 ?_)
   have hK4:=(((hR.ext hEw7).chg hCw8).ext hEw9)
   refine za (zG 77 a1 (0+k*280) 77 (vA (unC (zbG n_t t k))) ((za4 n_t (zbG n_t t) (fun i=>t.getD i Un.zero) k).flatMap unC) (unC (zbG n_t t k)) hK4 (by rw [zK];kernel_rfl) (by rw [zaE zK];(try simp only [List.length_cons,List.length_nil,List.length_set]);have:=(show List.length (za4 n_t (zbG n_t t) (fun i=>t.getD i Un.zero) k)=n_t from zbZ);have hln:=zK (zbG n_t t k);omega) (zbh _) ?_)
   have hK5:=(((hR.ext hEw7).chg hCw8).ext hEw9)
   intro w10 hBw10 hCw10
   have hzw10:=hCw10.size
   rw [show (zV ((za4 n_t (zbG n_t t) (fun i=>t.getD i Un.zero) k).flatMap unC) (0+k*280) (unC (zbG n_t t k)):List Value)=(za4 n_t (zbG n_t t) (fun i=>t.getD i Un.zero) (k+1)).flatMap unC from (zcq zK _ _ _ (by have hq:List.length (za4 n_t (zbG n_t t) (fun i=>t.getD i Un.zero) k)=n_t:=zbZ;omega)).trans (congrArg (fun z=>List.flatMap unC z) (show ((za4 n_t (zbG n_t t) (fun i=>t.getD i Un.zero) k).set k (zbG n_t t k))=(za4 n_t (zbG n_t t) (fun i=>t.getD i Un.zero) (k+1)) from zg4 (by omega)))] at hBw10
   have hmw10:Ms unC 280 a1 (a1+1) w10 (pA a1 0) n_t n_t (za4 n_t (zbG n_t t) (fun i=>t.getD i Un.zero) (k+1)):=Ms.of_pre (r:= []) (by rw [List.append_nil];exact hBw10) zK (by have hq:List.length (za4 n_t (zbG n_t t) (fun i=>t.getD i Un.zero) (k+1))=n_t:=zbZ;omega) (by omega) (by simp only [maxLen];omega) (by omega) (by omega)
   refine zf (zi (zb (zd (za (zo (some 44) .i64 (IntKind.i64.wrap (((k:Nat):Int)+((1:Nat):Int))) (k+1) (zu) ?_)))))
   refine zc 1 [(20,(vI (k+1)))] (zf (zz ?_))
   have hK6:=((((hQ2.ext hEw7).chg hCw8).ext hEw9).chg hCw10)
   have hX2:Ext w w10:=(Ext.own ((Ext.own (hEl.trans hEw7) hCw8 (by omega)).trans hEw9) hCw10 (by omega))
   refine zL (k+1) ?_ ?_
   ·exact ⟨by omega,hBw10,hK6,(hK3.chg hCw10),hX2⟩
   ·first | omega |(dsimp only;omega)
  ·replace hc32:¬(k=n_t-1):=by have:=zbI hc32;omega
   refine zf (zb (zh (zk (zb (zd (zc 1 [(36,(vP w4.heap.size 1))] (za (zm w4.heap.size 1 (hK3.cell rfl) ?_))))))))
   refine zc 2 [(39,(vP w6.heap.size 0)),(38,(vI k))] (za (zT w6.heap.size 0 ((hBw8.ext hEw9).at 0 (zJ (t.getD k Un.zero).nd) (zgc _)) (zQ _) ?_))
   refine zc 1 [(41,(.int .i64 (slU (t.getD k Un.zero))))] (za (zaM (Instr.build 77 #[(0,(vA (zJ (t.getD k Un.zero).nd))),(1,(.int .i64 (slU (t.getD k Un.zero))))]) (vA (unC (zbG n_t t k))) ((zeV ((t.getD k Un.zero).nd) (slU (t.getD k Un.zero))).trans (congrArg (fun z:Un=>Result.ok (Value.agg (unC z).toArray) _) (show (⟨((t.getD k Un.zero).nd),slU (t.getD k Un.zero),false,List.replicate 4 false,rfl⟩:Un)=zbG n_t t k from by unfold zbG;first | rw [if_pos (by omega)] | rw [if_neg (by omega)]))) ?_))
   refine za (zah a1 0 n_t n_t k 280 ?_)
   have hK7:=(((hR.ext hEw7).chg hCw8).ext hEw9)
   refine za (zG 77 a1 (0+k*280) 77 (vA (unC (zbG n_t t k))) ((za4 n_t (zbG n_t t) (fun i=>t.getD i Un.zero) k).flatMap unC) (unC (zbG n_t t k)) hK7 (by rw [zK];kernel_rfl) (by rw [zaE zK];(try simp only [List.length_cons,List.length_nil,List.length_set]);have:=(show List.length (za4 n_t (zbG n_t t) (fun i=>t.getD i Un.zero) k)=n_t from zbZ);have hln:=zK (zbG n_t t k);omega) (zbh _) ?_)
   have hK8:=(((hR.ext hEw7).chg hCw8).ext hEw9)
   intro w11 hBw11 hCw11
   have hzw11:=hCw11.size
   rw [show (zV ((za4 n_t (zbG n_t t) (fun i=>t.getD i Un.zero) k).flatMap unC) (0+k*280) (unC (zbG n_t t k)):List Value)=(za4 n_t (zbG n_t t) (fun i=>t.getD i Un.zero) (k+1)).flatMap unC from (zcq zK _ _ _ (by have hq:List.length (za4 n_t (zbG n_t t) (fun i=>t.getD i Un.zero) k)=n_t:=zbZ;omega)).trans (congrArg (fun z=>List.flatMap unC z) (show ((za4 n_t (zbG n_t t) (fun i=>t.getD i Un.zero) k).set k (zbG n_t t k))=(za4 n_t (zbG n_t t) (fun i=>t.getD i Un.zero) (k+1)) from zg4 (by omega)))] at hBw11
   have hmw11:Ms unC 280 a1 (a1+1) w11 (pA a1 0) n_t n_t (za4 n_t (zbG n_t t) (fun i=>t.getD i Un.zero) (k+1)):=Ms.of_pre (r:= []) (by rw [List.append_nil];exact hBw11) zK (by have hq:List.length (za4 n_t (zbG n_t t) (fun i=>t.getD i Un.zero) (k+1))=n_t:=zbZ;omega) (by omega) (by simp only [maxLen];omega) (by omega) (by omega)
   refine zf (zi (zb (zd (za (zo (some 44) .i64 (IntKind.i64.wrap (((k:Nat):Int)+((1:Nat):Int))) (k+1) (zu) ?_)))))
   refine zc 1 [(20,(vI (k+1)))] (zf (zz ?_))
   have hK9:=((((hQ2.ext hEw7).chg hCw8).ext hEw9).chg hCw11)
   have hX3:Ext w w11:=(Ext.own ((Ext.own (hEl.trans hEw7) hCw8 (by omega)).trans hEw9) hCw11 (by omega))
   refine zL (k+1) ?_ ?_
   ·exact ⟨by omega,hBw11,hK9,(hK3.chg hCw11),hX3⟩
   ·first | omega |(dsimp only;omega)
 ·replace hc21:¬(k<n_t):=by have:=zad hc21;omega
  obtain rfl:k=n_t:=by omega
  refine zf (zb (ze (zh (zP (zq (zq (zH (zb (ze ?_)))))))))
  refine zd (za (zO w4.heap.size 0 (hQ5.all) ?_))
  refine za (zG 38 w1.heap.size 0 38 (vA [(.int .i64 ((n:Nat):Int)),(.slice (pA a1 0) k k)]) ([(vI 0),(.slice none 0 0)]) ([(.int .i64 ((n:Nat):Int)),(.slice (pA a1 0) k k)]) hQ2 (by kernel_rfl) (by first | decide |(simp;done)|(simp;omega)) (by simp [Value.oneCell']) ?_)
  intro w12 hBw12 hCw12
  have hzw12:=hCw12.size
  rw [zy _ _ (by kernel_rfl)] at hBw12
  refine zc 1 [(3,(vI 0))] (zf (zb (zj (za7 (show zX Tryz.prog 46 _ _ (.cell 2 38) (vA [(.int .i64 ((n:Nat):Int)),(.slice (pA a1 0) k k)]) from ⟨⟨w1.heap.size,0,none⟩,(by kernel_rfl),zI (T:=38) (vs:= [(.int .i64 ((n:Nat):Int)),(.slice (pA a1 0) k k)]) (hBw12).all (by kernel_rfl)⟩) (show zX Tryz.prog 46 _ _ (.tmp 3) (vI 0) by (show _=_;kernel_rfl)) ?_))))
  have hfin:=(hmR.chg hCw12)
  rw [zhk] at hfin
  exact ⟨_,rfl,hfin.now.mono (by omega) (Nat.le_refl _),(Ext.own hEl hCw12 (by omega))⟩
theorem zzv (n:Nat) {lo_t hi_t:Nat} {a_t:Option Addr} {n_t c_t:Nat} {t:List Un} (w:World) (h_t:Ms unC 280 lo_t hi_t w a_t n_t c_t t) (hp0:1≤n) (hp1:n≤4096) (hp2:n_t=tot n) (hp3:∀i,i<t.length→(t.getD i Un.zero).sl=0∨(t.getD i Un.zero).sl=1) (hp4:zbQ n (zbi n t)=0) (hg0:Gl 0 [vI 45,vI 33] w) (hg1:Gl 1 (w8C zbp) w) (hg2:Gl 3 (zay kA) w):
  Calls Tryz.prog 37 #[(vA [(vI n),(.slice a_t n_t c_t)])] w (Ret fun r w'=>∃a1 a2,r=(.tuple #[(vA [(vI n),(.slice a1 n_t n_t)]),(.slice a2 n_t n_t),(vI 0)])∧Ms zJ 274 w.heap.size w'.heap.size w' a1 n_t n_t (t.map Un.nd)∧Es (iv .i64) w.heap.size w'.heap.size w' a2 n_t n_t (t.map slU)∧Ext w w'):=by
 refine zD (n:=49) (σ:= [(0,(vA [(vI n),(.slice a_t n_t c_t)]))]) Tryz.func37 rfl ?_
 replace h_t:=h_t.now;have hle_t:=h_t.le
 have hgl0:=hg0.lt
 have hgl1:=hg1.lt
 have hgl2:=hg2.lt
 have h5:=zar n
 have hlt:=h_t.len_eq
 have hts:=zaB hp1
 have hle:=h_t.le
 have htt:=zcF hp0 hp1
 have hce:zc3 (n:Int) t=0:=by rw [zf1 hp0 hp1 (by omega) (zdx.2 hp3)];exact hp4
 refine ze (zd (za (zaa (Instr.box 38 (vA [(vI n),(.slice a_t n_t c_t)])) (vP w.heap.size 0) ([(vI n),(.slice a_t n_t c_t)]) 38 ?_)))
 intro w1 hBw1 hEw1 hzw1 hlw1
 refine za (zaf ([(vI 0),(.slice none 0 0)]) 44 ?_)
 intro w2 hBw2 hEw2 hzw2 hlw2
 refine zc 2 [(4,(vI 0)),(3,(.slice none 0 0))] (zf (zb (ze (ze (zd (za (zO w.heap.size 0 ((hBw1.ext hEw2).all) ?_)))))))
 refine za (zp (zi4 ((n:Nat):Int) _ ((h_t.ext hEw1).ext hEw2) ((hg0.ext hEw1).ext hEw2) ((hg1.ext hEw1).ext hEw2) ((hg2.ext hEw1).ext hEw2)) ?_)
 rintro _ w3 ⟨rfl,hEw3⟩
 have hzw3:=hEw3.size
 rw [show zc3 ((n:Nat):Int) t=0 from hce]
 refine zc 1 [(5,(vI 0))] (zf (zb (ze (zd (zc 1 [(12,(vI 0))] (za (zae (some 13) (((0:Nat):Int) !=((0:Nat):Int)) false (zax) ?_)))))))
 refine zf (zb (zh (zk (zb (ze (zab 9 (fun w4 hEw4 hzw4 hT182=> ?_)))))))
 refine zg hT182 [(0,16,(vP w.heap.size 0))] 1 ?_
 have hK1:=(((hBw1.ext hEw2).ext hEw3).ext hEw4)
 refine zA hT182 1 w.heap.size 0 (fun w' hC=>((hK1.ext hC).cell rfl)) (zg hT182 [(2,18,(vP w.heap.size 1))] 1 (zA hT182 3 w.heap.size 1 (fun w' hC=>((hK1.ext hC).cell rfl)) (zg hT182 [(4,20,(vI n_t))] 1 (zbt 5 7 ?_ ?_))))
 ·refine zcx (some 21) 42 74 274 368 n_t n_t .i64 .i64 (vA (zJ Nod.zero)) (by omega) (by omega) (by omega) ?_
  rw [zdT (f:=zJ) (x:=Nod.zero) rfl (zQ _) (by decide)]
  intro w5 hBw5 hEw5
  have hzw5:=hEw5.size;have hlw5:=hBw5.lt
  have hmw5:Ms zJ 274 w4.heap.size (w4.heap.size+1) w5 (pA w4.heap.size 0) n_t n_t (List.replicate n_t Nod.zero):=Ms.of_pre (r:= []) (by rw [List.append_nil];exact hBw5) zQ (by simp) (Nat.le_refl _) (by simp only [maxLen];omega) (Nat.le_refl _) (Nat.lt_succ_self _)
  refine ⟨.inr hEw5, ?_⟩
  refine zg (hw:=hEw5) hT182 [(6,22,(vA [(vI n),(.slice (pA w4.heap.size 0) n_t n_t)]))] 1 (zx 7 (zaf ([(vI 0),(.slice none 0 0)]) 44 ?_))
  intro w6 hBw6 hEw6 hzw6 hlw6
  have hX1:Ext w4 w6:=(hEw5.trans hEw6)
  refine ⟨.inr hX1, ?_⟩
  refine zx 8 (zG 44 w5.heap.size 0 44 (vA [(vI n),(.slice (pA w4.heap.size 0) n_t n_t)]) ([(vI 0),(.slice none 0 0)]) ([(vI n),(.slice (pA w4.heap.size 0) n_t n_t)]) hBw6 (by kernel_rfl) (by first | decide |(simp;done)|(simp;omega)) (by simp [Value.oneCell']) ?_)
  intro w7 hBw7 hCw7
  have hzw7:=hCw7.size
  rw [zy _ _ (by kernel_rfl)] at hBw7
  refine ⟨.inl (by kernel_rfl), ?_⟩
  refine zE (zb (ze (zd (zc 1 [(23,(vP w.heap.size 1))] ?_))))
  have hK2:=(((hK1.ext hEw5).ext hEw6).chg hCw7)
  refine za (zm w.heap.size 1 (hK2.cell rfl) ?_)
  refine zc 1 [(25,(vI n_t))] (za (zcx (some 26) 29 3 1 8 n_t n_t .i64 .i64 (vI 0) (by omega) (by omega) (by omega) ?_))
  rw [zd4 _ rfl]
  intro w8 hBw8 hEw8
  have hzw8:=hEw8.size;have hlw8:=hBw8.lt
  have hSw8:Es (nv .i64) w7.heap.size (w7.heap.size+1) w8 (pA w7.heap.size 0) n_t n_t (List.replicate n_t 0):=Es.of_blk hBw8 (by rw [List.map_replicate];first | done | rfl) (by simp) (Nat.le_refl _) (by simp only [maxLen];omega) (Nat.le_refl _) (Nat.lt_succ_self _)
  refine zc 1 [(7,(.slice (pA w7.heap.size 0) n_t n_t))] (zf (zb (ze (ze (zd (zc 1 [(27,(vP w.heap.size 1))] (za (zm w.heap.size 1 ((hK2.ext hEw8).cell rfl) ?_))))))))
  refine zc 2 [(30,(vI 0)),(29,(vI n_t))] (zf (zb (zr ?_)))
  have hK3:=(((hBw5.ext hEw6).chg hCw7).ext hEw8)
  have hK4:=((((((hBw2.ext hEw3).ext hEw4).ext hEw5).ext hEw6).chg hCw7).ext hEw8)
  have hX2:Ext w w8:=((Ext.own (((((hEw1.trans hEw2).trans hEw3).trans hEw4).trans hEw5).trans hEw6) hCw7 (by omega)).trans hEw8)
  refine zU (X:=Nat) (fun k=> [(30,(vI k))]) [8,9,31,32,33,34,35,36,37,38,39,40,41,42,43,44,45,46] (fun k w9=>k≤n_t∧Blk w9 w4.heap.size ((za4 n_t (fun i=>(t.getD i Un.zero).nd) (fun _=>Nod.zero) k).flatMap zJ) 74∧Blk w9 w7.heap.size ((za4 n_t (fun i=>slU (t.getD i Un.zero)) (fun _=>(0:Int)) k).map (iv .i64)) 3∧Blk w9 w1.heap.size ([(vI 0),(.slice none 0 0)]) 44∧Blk w9 w5.heap.size ([(vI n),(.slice (pA w4.heap.size 0) n_t n_t)]) 44∧Ext w w9) (fun k=>n_t-k) 0 (by kernel_rfl) ⟨Nat.zero_le _,by rw [zlw];exact hK3,by rw [zlw,List.map_replicate];exact hBw8,hK4,(hBw7.ext hEw8),hX2⟩ ?_
  rintro k dw9 w9 ⟨hk,hR,hS,hQ2,hQ6,hEl⟩
  have hzl:=hEl.size;have hRl:=hR.lt;have hSl:=hS.lt
  have hmR:=Ms.of_row hR zQ (len:=n_t) zbZ.symm (by simp only [maxLen];omega)
  have hQ2l:=hQ2.lt
  have hQ6l:=hQ6.lt
  refine ze (zd (za (zF (some 31) (decide (((k:Nat):Int)<((n_t:Nat):Int))) (fun hc31=> ?_) (fun hc31=> ?_))))
  ·replace hc31:k<n_t:=by have:=zac hc31;omega
   have hs0:=hp3 k (by omega)
   refine zf (zb (ze (zv (zk (zb (ze (zr (ze (zd ?_)))))))))
   refine zc 1 [(32,(vI k))] ?_
   obtain ⟨b1,o1,rfl⟩:=h_t.addr (by omega) (by decide)
   refine za (zah b1 o1 n_t c_t k 280 ?_)
   refine za (zT b1 (o1+k*280) ((h_t.ext hEl).at Un.zero (by omega)) (zK _) ?_)
   refine za (zaf (unC Un.zero) 77 ?_)
   intro w10 hBw10 hEw10 hzw10 hlw10
   refine zc 1 [(8,(vI k))] (za (zG 77 w9.heap.size 0 77 (vA (unC (t.getD k Un.zero))) (unC Un.zero) (unC (t.getD k Un.zero)) hBw10 (by rw [zK];kernel_rfl) (by first |(simp;done)|(simp;omega)) (zbh _) ?_))
   intro w11 hBw11 hCw11
   have hzw11:=hCw11.size
   rw [zy _ _ (by simp)] at hBw11
   refine zf (zb (ze (zd (zc 1 [(35,(vP w5.heap.size 1))] (za (zm w5.heap.size 1 (((hQ6.ext hEw10).chg hCw11).cell rfl) ?_))))))
   refine zc 2 [(38,(vP w9.heap.size 0)),(37,(vI k))] (za (zT w9.heap.size 0 (hBw11.at 0 (zJ (t.getD k Un.zero).nd) (zgc _)) (zQ _) ?_))
   refine za (zah w4.heap.size 0 n_t n_t k 274 ?_)
   refine za (zG 74 w4.heap.size (0+k*274) 74 (vA (zJ (t.getD k Un.zero).nd)) ((za4 n_t (fun i=>(t.getD i Un.zero).nd) (fun _=>Nod.zero) k).flatMap zJ) (zJ (t.getD k Un.zero).nd) ((hR.ext hEw10).chg hCw11) (by rw [zQ];kernel_rfl) (by rw [zaE zQ];(try simp only [List.length_cons,List.length_nil,List.length_set]);have:=(show List.length (za4 n_t (fun i=>(t.getD i Un.zero).nd) (fun _=>Nod.zero) k)=n_t from zbZ);have hln:=zQ ((t.getD k Un.zero).nd);omega) (zb0 _) ?_)
   intro w12 hBw12 hCw12
   have hzw12:=hCw12.size
   rw [show (zV ((za4 n_t (fun i=>(t.getD i Un.zero).nd) (fun _=>Nod.zero) k).flatMap zJ) (0+k*274) (zJ (t.getD k Un.zero).nd):List Value)=(za4 n_t (fun i=>(t.getD i Un.zero).nd) (fun _=>Nod.zero) (k+1)).flatMap zJ from (zcq zQ _ _ _ (by have hq:List.length (za4 n_t (fun i=>(t.getD i Un.zero).nd) (fun _=>Nod.zero) k)=n_t:=zbZ;omega)).trans (congrArg (fun z=>List.flatMap zJ z) (show ((za4 n_t (fun i=>(t.getD i Un.zero).nd) (fun _=>Nod.zero) k).set k ((t.getD k Un.zero).nd))=(za4 n_t (fun i=>(t.getD i Un.zero).nd) (fun _=>Nod.zero) (k+1)) from zg4 (f:=fun i=>(t.getD i Un.zero).nd) (by omega)))] at hBw12
   have hmw12:Ms zJ 274 w4.heap.size (w4.heap.size+1) w12 (pA w4.heap.size 0) n_t n_t (za4 n_t (fun i=>(t.getD i Un.zero).nd) (fun _=>Nod.zero) (k+1)):=Ms.of_pre (r:= []) (by rw [List.append_nil];exact hBw12) zQ (by have hq:List.length (za4 n_t (fun i=>(t.getD i Un.zero).nd) (fun _=>Nod.zero) (k+1))=n_t:=zbZ;omega) (by omega) (by simp only [maxLen];omega) (by omega) (by omega)
   refine zf (zb (zd (zc 2 [(42,(vI k)),(41,(.slice (pA w7.heap.size 0) n_t n_t))] (za (zT w9.heap.size 0 ((hBw11.chg hCw12).all) (zK _) ?_)))))
   refine za (zp (zm9 (t.getD k Un.zero) _ (by assumption)) ?_)
   rintro _ w13 ⟨rfl,hEw13⟩
   have hzw13:=hEw13.size
   refine za (zah w7.heap.size 0 n_t n_t k 1 ?_)
   have hK5:=((((hS.ext hEw10).chg hCw11).chg hCw12).ext hEw13)
   refine za (zaj 3 w7.heap.size (0+k*1) 3 (.int .i64 (slU (t.getD k Un.zero))) ((za4 n_t (fun i=>slU (t.getD i Un.zero)) (fun _=>(0:Int)) k).map (iv .i64)) hK5 (by rw [List.length_map,zbZ];omega) ?_)
   have hK6:=((((hS.ext hEw10).chg hCw11).chg hCw12).ext hEw13)
   intro w14 hBw14 hCw14
   have hzw14:=hCw14.size
   rw [show (((za4 n_t (fun i=>slU (t.getD i Un.zero)) (fun _=>(0:Int)) k).map (iv .i64)).set (0+k*1) (.int .i64 (slU (t.getD k Un.zero))):List Value)=(za4 n_t (fun i=>slU (t.getD i Un.zero)) (fun _=>(0:Int)) (k+1)).map (iv .i64) from by rw [Nat.zero_add,Nat.mul_one,←zg4 (f:=fun i=>slU (t.getD i Un.zero)) (by omega),List.map_set];rfl] at hBw14
   refine zf (zi (zb (zd (za (zo (some 46) .i64 (IntKind.i64.wrap (((k:Nat):Int)+((1:Nat):Int))) (k+1) (zu) ?_)))))
   refine zc 1 [(30,(vI (k+1)))] (zf (zz ?_))
   have hK7:=(((((hQ2.ext hEw10).chg hCw11).chg hCw12).ext hEw13).chg hCw14)
   have hK8:=(((((hQ6.ext hEw10).chg hCw11).chg hCw12).ext hEw13).chg hCw14)
   have hX3:Ext w w14:=(Ext.own ((Ext.own (Ext.own (hEl.trans hEw10) hCw11 (by omega)) hCw12 (by omega)).trans hEw13) hCw14 (by omega))
   refine zL (k+1) ?_ ?_
   ·exact ⟨by omega,((hBw12.ext hEw13).chg hCw14),hBw14,hK7,hK8,hX3⟩
   ·first | omega |(dsimp only;omega)
  ·replace hc31:¬(k<n_t):=by have:=zad hc31;omega
   obtain rfl:k=n_t:=by omega
   refine zf (zb (ze (zh (zP (zq (zq (zH (zb (ze ?_)))))))))
   refine zd (za (zO w5.heap.size 0 (hQ6.all) ?_))
   refine zc 1 [(48,(.slice (pA w7.heap.size 0) k k))] (za (zG 44 w1.heap.size 0 44 (vA [(vI n),(.slice (pA w4.heap.size 0) k k)]) ([(vI 0),(.slice none 0 0)]) ([(vI n),(.slice (pA w4.heap.size 0) k k)]) hQ2 (by kernel_rfl) (by first | decide |(simp;done)|(simp;omega)) (by simp [Value.oneCell']) ?_))
   intro w15 hBw15 hCw15
   have hzw15:=hCw15.size
   rw [zy _ _ (by kernel_rfl)] at hBw15
   refine zc 2 [(4,(vI 0)),(3,(.slice (pA w7.heap.size 0) k k))] (zf (zb (zj (zvx (show zX Tryz.prog 49 _ _ (.cell 2 44) (vA [(vI n),(.slice (pA w4.heap.size 0) k k)]) from ⟨⟨w1.heap.size,0,none⟩,(by kernel_rfl),zI (T:=44) (vs:= [(vI n),(.slice (pA w4.heap.size 0) k k)]) (hBw15).all (by kernel_rfl)⟩) (show zX Tryz.prog 49 _ _ (.tmp 3) (.slice (pA w7.heap.size 0) k k) by (show _=_;kernel_rfl)) (show zX Tryz.prog 49 _ _ (.tmp 4) (vI 0) by (show _=_;kernel_rfl)) ?_))))
   have hfin:=(hmR.chg hCw15)
   rw [zhk,zoN Un.zero Un.nd t (by omega)] at hfin
   have hfs:=(hS.chg hCw15)
   rw [zhk,zoN Un.zero slU t (by omega)] at hfs
   exact ⟨_,_,rfl,hfin.now.mono (by omega) (Nat.le_refl _),(Es.of_blk hfs rfl (by rw [List.length_map];omega) (Nat.le_refl _) (by simp only [maxLen];omega) (Nat.le_refl _) (Nat.lt_succ_self _)).now.mono (by omega) (Nat.le_refl _),(Ext.own hEl hCw15 (by omega))⟩
 ·refine zaf ([(vI 0),(.slice none 0 0)]) 44 ?_
  intro w16 hBw16 hEw16 hzw16 hlw16
  refine ⟨.inr hEw16, ?_⟩
  refine zx 5 (zcx (some 21) 42 74 274 368 n_t n_t .i64 .i64 (vA (zJ Nod.zero)) (by omega) (by omega) (by omega) ?_)
  rw [zdT (f:=zJ) (x:=Nod.zero) rfl (zQ _) (by decide)]
  intro w17 hBw17 hEw17
  have hzw17:=hEw17.size;have hlw17:=hBw17.lt
  have hmw17:Ms zJ 274 w16.heap.size (w16.heap.size+1) w17 (pA w16.heap.size 0) n_t n_t (List.replicate n_t Nod.zero):=Ms.of_pre (r:= []) (by rw [List.append_nil];exact hBw17) zQ (by simp) (Nat.le_refl _) (by simp only [maxLen];omega) (Nat.le_refl _) (Nat.lt_succ_self _)
  have hX4:Ext w4 w17:=(hEw16.trans hEw17)
  refine ⟨.inr hX4, ?_⟩
  refine zg (hw:=hX4) hT182 [(6,22,(vA [(vI n),(.slice (pA w16.heap.size 0) n_t n_t)]))] 1 (zx 8 (zG 44 w4.heap.size 0 44 (vA [(vI n),(.slice (pA w16.heap.size 0) n_t n_t)]) ([(vI 0),(.slice none 0 0)]) ([(vI n),(.slice (pA w16.heap.size 0) n_t n_t)]) (hBw16.ext hEw17) (by kernel_rfl) (by first | decide |(simp;done)|(simp;omega)) (by simp [Value.oneCell']) ?_))
  intro w18 hBw18 hCw18
  have hzw18:=hCw18.size
  rw [zy _ _ (by kernel_rfl)] at hBw18
  refine ⟨.inl (by kernel_rfl), ?_⟩
  refine zE (zb (ze (zd (zc 1 [(23,(vP w.heap.size 1))] ?_))))
  have hK9:=(((hK1.ext hEw16).ext hEw17).chg hCw18)
  refine za (zm w.heap.size 1 (hK9.cell rfl) ?_)
  refine zc 1 [(25,(vI n_t))] (za (zcx (some 26) 29 3 1 8 n_t n_t .i64 .i64 (vI 0) (by omega) (by omega) (by omega) ?_))
  rw [zd4 _ rfl]
  intro w19 hBw19 hEw19
  have hzw19:=hEw19.size;have hlw19:=hBw19.lt
  have hSw19:Es (nv .i64) w18.heap.size (w18.heap.size+1) w19 (pA w18.heap.size 0) n_t n_t (List.replicate n_t 0):=Es.of_blk hBw19 (by rw [List.map_replicate];first | done | rfl) (by simp) (Nat.le_refl _) (by simp only [maxLen];omega) (Nat.le_refl _) (Nat.lt_succ_self _)
  refine zc 1 [(7,(.slice (pA w18.heap.size 0) n_t n_t))] (zf (zb (ze (ze (zd (zc 1 [(27,(vP w.heap.size 1))] (za (zm w.heap.size 1 ((hK9.ext hEw19).cell rfl) ?_))))))))
  refine zc 2 [(30,(vI 0)),(29,(vI n_t))] (zf (zb (zr ?_)))
  have hK10:=((((((hBw2.ext hEw3).ext hEw4).ext hEw16).ext hEw17).chg hCw18).ext hEw19)
  have hX5:Ext w w19:=((Ext.own (((((hEw1.trans hEw2).trans hEw3).trans hEw4).trans hEw16).trans hEw17) hCw18 (by omega)).trans hEw19)
  refine zU (X:=Nat) (fun k=> [(30,(vI k))]) [8,9,31,32,33,34,35,36,37,38,39,40,41,42,43,44,45,46] (fun k w20=>k≤n_t∧Blk w20 w16.heap.size ((za4 n_t (fun i=>(t.getD i Un.zero).nd) (fun _=>Nod.zero) k).flatMap zJ) 74∧Blk w20 w18.heap.size ((za4 n_t (fun i=>slU (t.getD i Un.zero)) (fun _=>(0:Int)) k).map (iv .i64)) 3∧Blk w20 w1.heap.size ([(vI 0),(.slice none 0 0)]) 44∧Blk w20 w4.heap.size ([(vI n),(.slice (pA w16.heap.size 0) n_t n_t)]) 44∧Ext w w20) (fun k=>n_t-k) 0 (by kernel_rfl) ⟨Nat.zero_le _,by rw [zlw];exact ((hBw17.chg hCw18).ext hEw19),by rw [zlw,List.map_replicate];exact hBw19,hK10,(hBw18.ext hEw19),hX5⟩ ?_
  rintro k dw20 w20 ⟨hk,hR,hS,hQ2,hQ6,hEl⟩
  have hzl:=hEl.size;have hRl:=hR.lt;have hSl:=hS.lt
  have hmR:=Ms.of_row hR zQ (len:=n_t) zbZ.symm (by simp only [maxLen];omega)
  have hQ2l:=hQ2.lt
  have hQ6l:=hQ6.lt
  refine ze (zd (za (zF (some 31) (decide (((k:Nat):Int)<((n_t:Nat):Int))) (fun hc31=> ?_) (fun hc31=> ?_))))
  ·replace hc31:k<n_t:=by have:=zac hc31;omega
   have hs0:=hp3 k (by omega)
   refine zf (zb (ze (zv (zk (zb (ze (zr (ze (zd ?_)))))))))
   refine zc 1 [(32,(vI k))] ?_
   obtain ⟨b2,o2,rfl⟩:=h_t.addr (by omega) (by decide)
   refine za (zah b2 o2 n_t c_t k 280 ?_)
   refine za (zT b2 (o2+k*280) ((h_t.ext hEl).at Un.zero (by omega)) (zK _) ?_)
   refine za (zaf (unC Un.zero) 77 ?_)
   intro w21 hBw21 hEw21 hzw21 hlw21
   refine zc 1 [(8,(vI k))] (za (zG 77 w20.heap.size 0 77 (vA (unC (t.getD k Un.zero))) (unC Un.zero) (unC (t.getD k Un.zero)) hBw21 (by rw [zK];kernel_rfl) (by first |(simp;done)|(simp;omega)) (zbh _) ?_))
   intro w22 hBw22 hCw22
   have hzw22:=hCw22.size
   rw [zy _ _ (by simp)] at hBw22
   refine zf (zb (ze (zd (zc 1 [(35,(vP w4.heap.size 1))] (za (zm w4.heap.size 1 (((hQ6.ext hEw21).chg hCw22).cell rfl) ?_))))))
   refine zc 2 [(38,(vP w20.heap.size 0)),(37,(vI k))] (za (zT w20.heap.size 0 (hBw22.at 0 (zJ (t.getD k Un.zero).nd) (zgc _)) (zQ _) ?_))
   refine za (zah w16.heap.size 0 n_t n_t k 274 ?_)
   refine za (zG 74 w16.heap.size (0+k*274) 74 (vA (zJ (t.getD k Un.zero).nd)) ((za4 n_t (fun i=>(t.getD i Un.zero).nd) (fun _=>Nod.zero) k).flatMap zJ) (zJ (t.getD k Un.zero).nd) ((hR.ext hEw21).chg hCw22) (by rw [zQ];kernel_rfl) (by rw [zaE zQ];(try simp only [List.length_cons,List.length_nil,List.length_set]);have:=(show List.length (za4 n_t (fun i=>(t.getD i Un.zero).nd) (fun _=>Nod.zero) k)=n_t from zbZ);have hln:=zQ ((t.getD k Un.zero).nd);omega) (zb0 _) ?_)
   intro w23 hBw23 hCw23
   have hzw23:=hCw23.size
   rw [show (zV ((za4 n_t (fun i=>(t.getD i Un.zero).nd) (fun _=>Nod.zero) k).flatMap zJ) (0+k*274) (zJ (t.getD k Un.zero).nd):List Value)=(za4 n_t (fun i=>(t.getD i Un.zero).nd) (fun _=>Nod.zero) (k+1)).flatMap zJ from (zcq zQ _ _ _ (by have hq:List.length (za4 n_t (fun i=>(t.getD i Un.zero).nd) (fun _=>Nod.zero) k)=n_t:=zbZ;omega)).trans (congrArg (fun z=>List.flatMap zJ z) (show ((za4 n_t (fun i=>(t.getD i Un.zero).nd) (fun _=>Nod.zero) k).set k ((t.getD k Un.zero).nd))=(za4 n_t (fun i=>(t.getD i Un.zero).nd) (fun _=>Nod.zero) (k+1)) from zg4 (f:=fun i=>(t.getD i Un.zero).nd) (by omega)))] at hBw23
   have hmw23:Ms zJ 274 w16.heap.size (w16.heap.size+1) w23 (pA w16.heap.size 0) n_t n_t (za4 n_t (fun i=>(t.getD i Un.zero).nd) (fun _=>Nod.zero) (k+1)):=Ms.of_pre (r:= []) (by rw [List.append_nil];exact hBw23) zQ (by have hq:List.length (za4 n_t (fun i=>(t.getD i Un.zero).nd) (fun _=>Nod.zero) (k+1))=n_t:=zbZ;omega) (by omega) (by simp only [maxLen];omega) (by omega) (by omega)
   refine zf (zb (zd (zc 2 [(42,(vI k)),(41,(.slice (pA w18.heap.size 0) n_t n_t))] (za (zT w20.heap.size 0 ((hBw22.chg hCw23).all) (zK _) ?_)))))
   refine za (zp (zm9 (t.getD k Un.zero) _ (by assumption)) ?_)
   rintro _ w24 ⟨rfl,hEw24⟩
   have hzw24:=hEw24.size
   refine za (zah w18.heap.size 0 n_t n_t k 1 ?_)
   have hK11:=((((hS.ext hEw21).chg hCw22).chg hCw23).ext hEw24)
   refine za (zaj 3 w18.heap.size (0+k*1) 3 (.int .i64 (slU (t.getD k Un.zero))) ((za4 n_t (fun i=>slU (t.getD i Un.zero)) (fun _=>(0:Int)) k).map (iv .i64)) hK11 (by rw [List.length_map,zbZ];omega) ?_)
   have hK12:=((((hS.ext hEw21).chg hCw22).chg hCw23).ext hEw24)
   intro w25 hBw25 hCw25
   have hzw25:=hCw25.size
   rw [show (((za4 n_t (fun i=>slU (t.getD i Un.zero)) (fun _=>(0:Int)) k).map (iv .i64)).set (0+k*1) (.int .i64 (slU (t.getD k Un.zero))):List Value)=(za4 n_t (fun i=>slU (t.getD i Un.zero)) (fun _=>(0:Int)) (k+1)).map (iv .i64) from by rw [Nat.zero_add,Nat.mul_one,←zg4 (f:=fun i=>slU (t.getD i Un.zero)) (by omega),List.map_set];rfl] at hBw25
   refine zf (zi (zb (zd (za (zo (some 46) .i64 (IntKind.i64.wrap (((k:Nat):Int)+((1:Nat):Int))) (k+1) (zu) ?_)))))
   refine zc 1 [(30,(vI (k+1)))] (zf (zz ?_))
   have hK13:=(((((hQ2.ext hEw21).chg hCw22).chg hCw23).ext hEw24).chg hCw25)
   have hK14:=(((((hQ6.ext hEw21).chg hCw22).chg hCw23).ext hEw24).chg hCw25)
   have hX6:Ext w w25:=(Ext.own ((Ext.own (Ext.own (hEl.trans hEw21) hCw22 (by omega)) hCw23 (by omega)).trans hEw24) hCw25 (by omega))
   refine zL (k+1) ?_ ?_
   ·exact ⟨by omega,((hBw23.ext hEw24).chg hCw25),hBw25,hK13,hK14,hX6⟩
   ·first | omega |(dsimp only;omega)
  ·replace hc31:¬(k<n_t):=by have:=zad hc31;omega
   obtain rfl:k=n_t:=by omega
   refine zf (zb (ze (zh (zP (zq (zq (zH (zb (ze ?_)))))))))
   refine zd (za (zO w4.heap.size 0 (hQ6.all) ?_))
   refine zc 1 [(48,(.slice (pA w18.heap.size 0) k k))] (za (zG 44 w1.heap.size 0 44 (vA [(vI n),(.slice (pA w16.heap.size 0) k k)]) ([(vI 0),(.slice none 0 0)]) ([(vI n),(.slice (pA w16.heap.size 0) k k)]) hQ2 (by kernel_rfl) (by first | decide |(simp;done)|(simp;omega)) (by simp [Value.oneCell']) ?_))
   intro w26 hBw26 hCw26
   have hzw26:=hCw26.size
   rw [zy _ _ (by kernel_rfl)] at hBw26
   refine zc 2 [(4,(vI 0)),(3,(.slice (pA w18.heap.size 0) k k))] (zf (zb (zj (zvx (show zX Tryz.prog 49 _ _ (.cell 2 44) (vA [(vI n),(.slice (pA w16.heap.size 0) k k)]) from ⟨⟨w1.heap.size,0,none⟩,(by kernel_rfl),zI (T:=44) (vs:= [(vI n),(.slice (pA w16.heap.size 0) k k)]) (hBw26).all (by kernel_rfl)⟩) (show zX Tryz.prog 49 _ _ (.tmp 3) (.slice (pA w18.heap.size 0) k k) by (show _=_;kernel_rfl)) (show zX Tryz.prog 49 _ _ (.tmp 4) (vI 0) by (show _=_;kernel_rfl)) ?_))))
   have hfin:=(hmR.chg hCw26)
   rw [zhk,zoN Un.zero Un.nd t (by omega)] at hfin
   have hfs:=(hS.chg hCw26)
   rw [zhk,zoN Un.zero slU t (by omega)] at hfs
   exact ⟨_,_,rfl,hfin.now.mono (by omega) (Nat.le_refl _),(Es.of_blk hfs rfl (by rw [List.length_map];omega) (Nat.le_refl _) (by simp only [maxLen];omega) (Nat.le_refl _) (Nat.lt_succ_self _)).now.mono (by omega) (Nat.le_refl _),(Ext.own hEl hCw26 (by omega))⟩
end Go.Proofs.YtkmhgepdhilllaaGreatDoor
namespace Go.Proofs.YtkmhgepdhilllaaGreatDoor
open Go Go.RowKit Go.Cs
set_option maxRecDepth 100000
theorem zt1 (x:Int) (w:World) (hp0:x=0∨x=1):
  Calls Tryz.prog 46 #[(.int .i64 x)] w (Ret fun r w'=>r=vF∧Ext w w'):=by
 refine zD (n:=9) (σ:= [(0,(.int .i64 x))]) Tryz.func46 rfl ?_
 refine ze (zd (zc 1 [(2,vF)] (zf (zb (ze (zd (zc 1 [(3,(.int .i64 x))] (za (zF (some 4) ((x !=((0:Nat):Int))) (fun hc4=> ?_) (fun hc4=> ?_))))))))))
 ·replace hc4:¬(x=((0:Nat):Int)):=by have:=zbV hc4;omega
  refine zc 2 [(6,(.int .i64 x)),(5,vT)] (za (zae (some 7) (x !=((1:Nat):Int)) false (zax) ?_))
  exact zc 2 [(2,vF),(8,vF)] (zf (zb (zj (zl vF (⟨rfl,(Ext.refl _)⟩)))))
 ·replace hc4:x=((0:Nat):Int):=by have:=zbS hc4;omega
  exact zc 5 [(2,vF),(8,vF),(7,undef),(6,undef),(5,vF)] (zf (zb (zj (zl vF (⟨rfl,(Ext.refl _)⟩)))))
theorem zsX {lo_z hi_z:Nat} {a_z:Option Addr} {n_z c_z:Nat} {z:List Int} (w:World) (h_z:Es (iv .i64) lo_z hi_z w a_z n_z c_z z) (hp0:∀i,z.getD i 0=0∨z.getD i 0=1):
  Calls Tryz.prog 72 #[(.slice a_z n_z c_z),(.func (.func 46) #[] #[])] w (Ret fun r w'=>r=(.int .i64 (-1))∧Ext w w'):=by
 refine zD (n:=19) (σ:= [(0,(.slice a_z n_z c_z)),(1,(.func (.func 46) #[] #[]))]) Tryz.func72 rfl ?_
 replace h_z:=h_z.now;have hle_z:=h_z.le
 have hlz:=h_z.len_eq
 refine ze (zd (zc 1 [(4,(vI 0))] (zf (zb (ze (ze (zd (zc 3 [(8,(vI 0)),(7,(vI n_z)),(6,(.slice a_z n_z c_z))] (zf ?_)))))))))
 refine zb (zr (zU (X:=Nat) (fun k=> [(8,(vI k))]) [4,5,9,10,11,12,13,14,15,16,17,18] (fun k w1=>k≤n_z∧Ext w w1) (fun k=>n_z-k) 0 (by kernel_rfl) ⟨Nat.zero_le _,(Ext.refl _)⟩ ?_))
 rintro k dw1 w1 ⟨hk,hEl⟩
 have hzl:=hEl.size
 refine ze (zd (za (zF (some 9) (decide (((k:Nat):Int)<((n_z:Nat):Int))) (fun hc9=> ?_) (fun hc9=> ?_))))
 ·replace hc9:k<n_z:=by have:=zac hc9;omega
  refine zf (zb (ze (zv (zk (zb (ze (zr (ze (zd ?_)))))))))
  refine zc 2 [(5,(vI k)),(10,(vI k))] (zf (zb (ze (zd (zc 3 [(13,(vI k)),(12,(.slice a_z n_z c_z)),(11,(.func (.func 46) #[] #[]))] ?_)))))
  obtain ⟨b1,o1,rfl⟩:=h_z.addr (by omega)
  refine za (zah b1 o1 n_z c_z k 1 ?_)
  refine za (zm b1 (o1+k*1) ((h_z.ext hEl).celli (by omega)) ?_)
  refine za (zp (zt1 (gz z k) _ (hp0 k)) ?_)
  rintro _ w2 ⟨rfl,hEw2⟩
  have hzw2:=hEw2.size
  refine zf (zb (zh (zk (zi (zb (zd (za (zo (some 18) .i64 (IntKind.i64.wrap (((k:Nat):Int)+((1:Nat):Int))) (k+1) (zu) ?_))))))))
  refine zc 1 [(8,(vI (k+1)))] (zf (zz (zL (k+1) ?_ ?_)))
  ·exact ⟨by omega,(hEl.trans hEw2)⟩
  ·first | omega |(dsimp only;omega)
 ·replace hc9:¬(k<n_z):=by have:=zad hc9;omega
  refine zf (zb (ze (zh (zP (zq (zq (zH (zb (ze ?_)))))))))
  exact zd (zc 1 [(4,(.int .i64 (-1)))] (zf (zb (zj (zl (.int .i64 (-1)) (⟨rfl,hEl⟩))))))
theorem ztd {lo_z hi_z:Nat} {a_z:Option Addr} {n_z c_z:Nat} {z:List Int} (w:World) (h_z:Es (iv .i64) lo_z hi_z w a_z n_z c_z z) (hp0:∀i,z.getD i 0=0∨z.getD i 0=1):
  Calls Tryz.prog 45 #[(.slice a_z n_z c_z),(.func (.func 46) #[] #[])] w (Ret fun r w'=>r=vF∧Ext w w'):=by
 refine zD (n:=9) (σ:= [(0,(.slice a_z n_z c_z)),(1,(.func (.func 46) #[] #[]))]) Tryz.func45 rfl ?_
 replace h_z:=h_z.now;have hle_z:=h_z.le
 refine ze (zd (zc 1 [(4,vF)] (zf (zb (ze (zd (zc 2 [(6,(.func (.func 46) #[] #[])),(5,(.slice a_z n_z c_z))] (za (zp (zsX _ h_z (by assumption)) ?_)))))))))
 rintro _ w1 ⟨rfl,hEw1⟩
 have hzw1:=hEw1.size
 refine za (zae (some 8) (decide (-1≥((0:Nat):Int))) false (zcH) ?_)
 exact zc 1 [(4,vF)] (zf (zb (zj (zl vF (⟨rfl,hEw1⟩)))))
theorem zrl (n:Nat) {lo_t hi_t:Nat} {a_t:Option Addr} {n_t c_t:Nat} {t:List Nod} {lo_z hi_z:Nat} {a_z:Option Addr} {n_z c_z:Nat} {z:List Int} (w:World) (h_t:Ms zJ 274 lo_t hi_t w a_t n_t c_t t) (h_z:Es (iv .i64) lo_z hi_z w a_z n_z c_z z) (hp0:1≤n) (hp1:n≤4096) (hp2:n_t=tot n) (hp3:zbO n t=0) (hp4:n_z=n_t) (hp5:∀i,z.getD i 0=0∨z.getD i 0=1) (hp6:zc3 ((n:Nat):Int) (ofT n_t t z)=0) (hg0:Gl 0 [vI 45,vI 33] w) (hg1:Gl 1 (w8C zbp) w) (hg2:Gl 3 (zay kA) w) (hg3:Gl 2 [.iface 227 (.agg #[.pointer (some ⟨4,160,none⟩)])] w):
  Calls Tryz.prog 12 #[(vA [(vI n),(.slice a_t n_t c_t)]),(.slice a_z n_z c_z)] w (Ret fun r w'=>∃a1,r=(.tuple #[(vA [(vI n),(.slice a1 n_t n_t)]),(vI 0)])∧Ms unC 280 w.heap.size w'.heap.size w' a1 n_t n_t (ofT n_t t z)∧Ext w w'):=by
 refine zD (n:=61) (σ:= [(0,(vA [(vI n),(.slice a_t n_t c_t)])),(1,(.slice a_z n_z c_z))]) Tryz.func12 rfl ?_
 replace h_t:=h_t.now;have hle_t:=h_t.le
 replace h_z:=h_z.now;have hle_z:=h_z.le
 have hgl0:=hg0.lt
 have hgl1:=hg1.lt
 have hgl2:=hg2.lt
 have hgl3:=hg3.lt
 have h5:=zar n
 have hlt:=h_t.len_eq
 have hlz:=h_z.len_eq
 have hts:=zaB hp1
 have htt:=zcF hp0 hp1
 have hle:=h_t.le
 have hlez:=h_z.le
 have hce:zei (n:Int) t=0:=by rw [zf5 hp0 hp1 (by omega)];exact hp3
 refine ze (zd (za (zaa (Instr.box 44 (vA [(vI n),(.slice a_t n_t c_t)])) (vP w.heap.size 0) ([(vI n),(.slice a_t n_t c_t)]) 44 ?_)))
 intro w1 hBw1 hEw1 hzw1 hlw1
 refine za (zaf ([(vI 0),(.slice none 0 0)]) 38 ?_)
 intro w2 hBw2 hEw2 hzw2 hlw2
 refine zc 1 [(5,(vI 0))] (zf (zb (ze (ze (zd (za (zO w.heap.size 0 ((hBw1.ext hEw2).all) ?_)))))))
 refine za (zp (zuK ((n:Nat):Int) _ ((h_t.ext hEw1).ext hEw2) ((hg0.ext hEw1).ext hEw2) ((hg1.ext hEw1).ext hEw2) ((hg2.ext hEw1).ext hEw2) ((hg3.ext hEw1).ext hEw2)) ?_)
 rintro _ w3 ⟨rfl,hEw3⟩
 have hzw3:=hEw3.size
 rw [show zei ((n:Nat):Int) t=0 from hce]
 refine zc 1 [(6,(vI 0))] (zf (zb (ze (zd (zc 1 [(13,(vI 0))] (za (zae (some 14) (((0:Nat):Int) !=((0:Nat):Int)) false (zax) ?_)))))))
 refine zf (zb (zh (zk (zb (ze (ze (zd (zc 3 [(19,(vP w.heap.size 1)),(18,(vI n_z)),(17,(.slice a_z n_z c_z))] (za (zm w.heap.size 1 (((hBw1.ext hEw2).ext hEw3).cell rfl) ?_))))))))))
 refine zc 1 [(21,(vI n_t))] (za (zae (some 22) (((n_z:Nat):Int) !=((n_t:Nat):Int)) false (zax) ?_))
 refine zc 2 [(24,(.slice a_z n_z c_z)),(23,vF)] ?_
 have hK1:=(((h_z.ext hEw1).ext hEw2).ext hEw3)
 refine za (zp (ztd _ hK1 (hp5)) ?_)
 rintro _ w4 ⟨rfl,hEw4⟩
 have hzw4:=hEw4.size
 refine zc 1 [(26,vF)] (zf (zb (zh (zk (zb (ze (zab 9 (fun w5 hEw5 hzw5 hT162=> ?_))))))))
 refine zg hT162 [(0,28,(vP w.heap.size 0))] 1 ?_
 have hK2:=((((hBw1.ext hEw2).ext hEw3).ext hEw4).ext hEw5)
 refine zA hT162 1 w.heap.size 0 (fun w' hC=>((hK2.ext hC).cell rfl)) (zg hT162 [(2,30,(vP w.heap.size 1))] 1 (zA hT162 3 w.heap.size 1 (fun w' hC=>((hK2.ext hC).cell rfl)) (zg hT162 [(4,32,(vI n_t))] 1 (zbt 5 7 ?_ ?_))))
 ·refine zcx (some 33) 36 77 280 384 n_t n_t .i64 .i64 (vA (unC Un.zero)) (by omega) (by omega) (by omega) ?_
  rw [zdT (f:=unC) (x:=Un.zero) rfl (zK _) (by decide)]
  intro w6 hBw6 hEw6
  have hzw6:=hEw6.size;have hlw6:=hBw6.lt
  have hmw6:Ms unC 280 w5.heap.size (w5.heap.size+1) w6 (pA w5.heap.size 0) n_t n_t (List.replicate n_t Un.zero):=Ms.of_pre (r:= []) (by rw [List.append_nil];exact hBw6) zK (by simp) (Nat.le_refl _) (by simp only [maxLen];omega) (Nat.le_refl _) (Nat.lt_succ_self _)
  refine ⟨.inr hEw6, ?_⟩
  refine zg (hw:=hEw6) hT162 [(6,34,(vA [(vI n),(.slice (pA w5.heap.size 0) n_t n_t)]))] 1 (zx 7 (zaf ([(vI 0),(.slice none 0 0)]) 38 ?_))
  intro w7 hBw7 hEw7 hzw7 hlw7
  have hX1:Ext w5 w7:=(hEw6.trans hEw7)
  refine ⟨.inr hX1, ?_⟩
  refine zx 8 (zG 38 w6.heap.size 0 38 (vA [(vI n),(.slice (pA w5.heap.size 0) n_t n_t)]) ([(vI 0),(.slice none 0 0)]) ([(vI n),(.slice (pA w5.heap.size 0) n_t n_t)]) hBw7 (by kernel_rfl) (by first | decide |(simp;done)|(simp;omega)) (by simp [Value.oneCell']) ?_)
  intro w8 hBw8 hCw8
  have hzw8:=hCw8.size
  rw [zy _ _ (by kernel_rfl)] at hBw8
  refine ⟨.inl (by kernel_rfl), ?_⟩
  refine zE (zb (ze (ze (zd (zc 1 [(35,(vP w.heap.size 1))] ?_)))))
  have hK3:=(((hK2.ext hEw6).ext hEw7).chg hCw8)
  refine za (zm w.heap.size 1 (hK3.cell rfl) ?_)
  refine zc 2 [(38,(vI 0)),(37,(vI n_t))] (zf (zb (zr ?_)))
  have hK4:=((((((hBw2.ext hEw3).ext hEw4).ext hEw5).ext hEw6).ext hEw7).chg hCw8)
  have hX2:Ext w w8:=(Ext.own ((((((hEw1.trans hEw2).trans hEw3).trans hEw4).trans hEw5).trans hEw6).trans hEw7) hCw8 (by omega))
  refine zU (X:=Nat) (fun k=> [(38,(vI k))]) [8,9,39,40,41,42,43,44,45,46,47,48,49,50,51,52,53] (fun k w9=>k≤n_t∧Blk w9 w5.heap.size ((za4 n_t (ofE t z) (fun _=>Un.zero) k).flatMap unC) 77∧Blk w9 w.heap.size ([(vI n),(.slice a_t n_t c_t)]) 44∧Blk w9 w1.heap.size ([(vI 0),(.slice none 0 0)]) 38∧Blk w9 w6.heap.size ([(vI n),(.slice (pA w5.heap.size 0) n_t n_t)]) 38∧Ext w w9) (fun k=>n_t-k) 0 (by kernel_rfl) ⟨Nat.zero_le _,by rw [zlw];exact ((hBw6.ext hEw7).chg hCw8),hK3,hK4,hBw8,hX2⟩ ?_
  rintro k dw9 w9 ⟨hk,hR,hQ2,hQ4,hQ7,hEl⟩
  have hzl:=hEl.size;have hRl:=hR.lt
  have hmR:=Ms.of_row hR zK (len:=n_t) zbZ.symm (by simp only [maxLen];omega)
  have hQ2l:=hQ2.lt
  have hQ4l:=hQ4.lt
  have hQ7l:=hQ7.lt
  refine ze (zd (za (zF (some 39) (decide (((k:Nat):Int)<((n_t:Nat):Int))) (fun hc39=> ?_) (fun hc39=> ?_))))
  ·replace hc39:k<n_t:=by have:=zac hc39;omega
   refine zf (zb (ze (zv (zk (zb (ze (zr (ze (zd ?_)))))))))
   refine zc 1 [(40,(vI k))] ?_
   obtain ⟨b1,o1,rfl⟩:=h_t.addr (by omega) (by decide)
   refine za (zah b1 o1 n_t c_t k 274 ?_)
   refine za (zT b1 (o1+k*274) ((h_t.ext hEl).at Nod.zero (by omega)) (zQ _) ?_)
   refine za (zaf (zJ Nod.zero) 74 ?_)
   intro w10 hBw10 hEw10 hzw10 hlw10
   refine zc 1 [(8,(vI k))] (za (zG 74 w9.heap.size 0 74 (vA (zJ (t.getD k Nod.zero))) (zJ Nod.zero) (zJ (t.getD k Nod.zero)) hBw10 (by rw [zQ];kernel_rfl) (by first |(simp;done)|(simp;omega)) (zb0 _) ?_))
   intro w11 hBw11 hCw11
   have hzw11:=hCw11.size
   rw [zy _ _ (by simp)] at hBw11
   refine zf (zb (zbD (fun k=>k=w5.heap.size) 11 (fun w12 hEw12 hzw12 hT234=> ?_)))
   have hX3:Chg (fun k=>k=w5.heap.size) w12 w12:=(Chg.refl (fun k=>k=w5.heap.size) w12)
   refine zg (hw:=hX3) hT234 [(0,43,(vP w6.heap.size 1))] 1 ?_
   have hK5:=(((hQ7.ext hEw10).chg hCw11).ext hEw12)
   refine zA (hw:=hX3) hT234 1 w6.heap.size 1 (fun w' hC=>((hK5.chg hC (fun hs=>by have h:_=_:=hs;omega)).cell rfl)) (zg (hw:=hX3) hT234 [(2,45,(vI k))] 1 (zan (hw:=hX3) hT234 3 w9.heap.size 0 (fun w' hC=>(((hBw11.ext hEw12).chg hC (fun hs=>by have h:_=_:=hs;omega)).all)) (zQ _) (zg (hw:=hX3) hT234 [(4,47,(.slice a_z n_z c_z)),(5,48,(vI k))] 2 ?_)))
   obtain ⟨b2,o2,rfl⟩:=h_z.addr (by omega)
   refine zas (hw:=hX3) hT234 6 b2 o2 n_z c_z k 1 ?_
   have hK6:=((((h_z.ext hEl).ext hEw10).chg hCw11).ext hEw12)
   refine zA (hw:=hX3) hT234 7 b2 (o2+k*1) (fun w' hC=>((hK6.chg hC (fun k h1 h2 hs=>by have h:_=_:=hs;omega)).celli (by omega))) (zn (hw:=hX3) hT234 8 (vA (unC (ofE t z k))) (zag (Instr.build 77 #[(0,(vA (zJ (t.getD k Nod.zero)))),(1,(.int .i64 (gz z k)))]) (fun w' hC=>(zeV (t.getD k Nod.zero) (gz z k)).trans (congrArg (fun z:Un=>Result.ok (Value.agg (unC z).toArray) _) (show (⟨(t.getD k Nod.zero),gz z k,false,List.replicate 4 false,rfl⟩:Un)=ofE t z k from rfl)))) (zas (hw:=hX3) hT234 9 w5.heap.size 0 n_t n_t k 280 ?_))
   have hK7:=(((hR.ext hEw10).chg hCw11).ext hEw12)
   refine zx 10 (zG 77 w5.heap.size (0+k*280) 77 (vA (unC (ofE t z k))) ((za4 n_t (ofE t z) (fun _=>Un.zero) k).flatMap unC) (unC (ofE t z k)) hK7 (by rw [zK];kernel_rfl) (by rw [zaE zK];(try simp only [List.length_cons,List.length_nil,List.length_set]);have:=(show List.length (za4 n_t (ofE t z) (fun _=>Un.zero) k)=n_t from zbZ);have hln:=zK (ofE t z k);omega) (zbh _) ?_)
   have hK8:=(((hR.ext hEw10).chg hCw11).ext hEw12)
   intro w13 hBw13 hCw13
   have hzw13:=hCw13.size
   rw [show (zV ((za4 n_t (ofE t z) (fun _=>Un.zero) k).flatMap unC) (0+k*280) (unC (ofE t z k)):List Value)=(za4 n_t (ofE t z) (fun _=>Un.zero) (k+1)).flatMap unC from (zcq zK _ _ _ (by have hq:List.length (za4 n_t (ofE t z) (fun _=>Un.zero) k)=n_t:=zbZ;omega)).trans (congrArg (fun z=>List.flatMap unC z) (show ((za4 n_t (ofE t z) (fun _=>Un.zero) k).set k (ofE t z k))=(za4 n_t (ofE t z) (fun _=>Un.zero) (k+1)) from zg4 (f:=ofE t z) (by omega)))] at hBw13
   have hmw13:Ms unC 280 w5.heap.size (w5.heap.size+1) w13 (pA w5.heap.size 0) n_t n_t (za4 n_t (ofE t z) (fun _=>Un.zero) (k+1)):=Ms.of_pre (r:= []) (by rw [List.append_nil];exact hBw13) zK (by have hq:List.length (za4 n_t (ofE t z) (fun _=>Un.zero) (k+1))=n_t:=zbZ;omega) (by omega) (by simp only [maxLen];omega) (by omega) (by omega)
   refine ⟨.inl (by kernel_rfl), ?_⟩
   refine zE (zi (zb (zd (za (zo (some 53) .i64 (IntKind.i64.wrap (((k:Nat):Int)+((1:Nat):Int))) (k+1) (zu) ?_)))))
   refine zc 1 [(38,(vI (k+1)))] (zf (zz ?_))
   have hK9:=((((hQ2.ext hEw10).chg hCw11).ext hEw12).chg hCw13)
   have hK10:=((((hQ4.ext hEw10).chg hCw11).ext hEw12).chg hCw13)
   have hX4:Ext w w13:=(Ext.own ((Ext.own (hEl.trans hEw10) hCw11 (by omega)).trans hEw12) hCw13 (by omega))
   refine zL (k+1) ?_ ?_
   ·exact ⟨by omega,hBw13,hK9,hK10,(hK5.chg hCw13),hX4⟩
   ·first | omega |(dsimp only;omega)
  ·replace hc39:¬(k<n_t):=by have:=zad hc39;omega
   have hkn:k=n_t:=by omega
   rw [hkn,show (za4 n_t (ofE t z) (fun _=>Un.zero) n_t)=(ofT n_t t z) from zhk] at hR hmR
   refine zf (zb (ze (zh (zP (zq (zq (zH (zb (ze ?_)))))))))
   refine ze (zd (za (zO w6.heap.size 0 (hQ7.all) ?_)))
   refine za (zp (zi4 ((n:Nat):Int) _ hmR (hg0.ext hEl) (hg1.ext hEl) (hg2.ext hEl)) ?_)
   rintro _ w14 ⟨rfl,hEw14⟩
   have hzw14:=hEw14.size
   rw [show zc3 ((n:Nat):Int) (ofT n_t t z)=0 from hp6]
   refine zc 1 [(10,(vI 0))] (zf (zb (ze (zd (zc 1 [(56,(vI 0))] (za (zae (some 57) (((0:Nat):Int) !=((0:Nat):Int)) false (zax) ?_)))))))
   refine zf (zb (zh (zk (zb (ze (zd (za (zO w6.heap.size 0 ((hQ7.ext hEw14).all) ?_))))))))
   refine za (zG 38 w1.heap.size 0 38 (vA [(vI n),(.slice (pA w5.heap.size 0) n_t n_t)]) ([(vI 0),(.slice none 0 0)]) ([(vI n),(.slice (pA w5.heap.size 0) n_t n_t)]) (hQ4.ext hEw14) (by kernel_rfl) (by first | decide |(simp;done)|(simp;omega)) (by simp [Value.oneCell']) ?_)
   intro w15 hBw15 hCw15
   have hzw15:=hCw15.size
   rw [zy _ _ (by kernel_rfl)] at hBw15
   exact zc 1 [(5,(vI 0))] (zf (zb (zj (za7 (show zX Tryz.prog 61 _ _ (.cell 4 38) (vA [(vI n),(.slice (pA w5.heap.size 0) n_t n_t)]) from ⟨⟨w1.heap.size,0,none⟩,(by kernel_rfl),zI (T:=38) (vs:= [(vI n),(.slice (pA w5.heap.size 0) n_t n_t)]) (hBw15).all (by kernel_rfl)⟩) (show zX Tryz.prog 61 _ _ (.tmp 5) (vI 0) by (show _=_;kernel_rfl)) (⟨_,rfl,(((hmR.ext hEw14).chg hCw15)).now.mono (by omega) (Nat.le_refl _),(Ext.own (hEl.trans hEw14) hCw15 (by omega))⟩)))))
 ·refine zaf ([(vI 0),(.slice none 0 0)]) 38 ?_
  intro w16 hBw16 hEw16 hzw16 hlw16
  refine ⟨.inr hEw16, ?_⟩
  refine zx 5 (zcx (some 33) 36 77 280 384 n_t n_t .i64 .i64 (vA (unC Un.zero)) (by omega) (by omega) (by omega) ?_)
  rw [zdT (f:=unC) (x:=Un.zero) rfl (zK _) (by decide)]
  intro w17 hBw17 hEw17
  have hzw17:=hEw17.size;have hlw17:=hBw17.lt
  have hmw17:Ms unC 280 w16.heap.size (w16.heap.size+1) w17 (pA w16.heap.size 0) n_t n_t (List.replicate n_t Un.zero):=Ms.of_pre (r:= []) (by rw [List.append_nil];exact hBw17) zK (by simp) (Nat.le_refl _) (by simp only [maxLen];omega) (Nat.le_refl _) (Nat.lt_succ_self _)
  have hX5:Ext w5 w17:=(hEw16.trans hEw17)
  refine ⟨.inr hX5, ?_⟩
  refine zg (hw:=hX5) hT162 [(6,34,(vA [(vI n),(.slice (pA w16.heap.size 0) n_t n_t)]))] 1 (zx 8 (zG 38 w5.heap.size 0 38 (vA [(vI n),(.slice (pA w16.heap.size 0) n_t n_t)]) ([(vI 0),(.slice none 0 0)]) ([(vI n),(.slice (pA w16.heap.size 0) n_t n_t)]) (hBw16.ext hEw17) (by kernel_rfl) (by first | decide |(simp;done)|(simp;omega)) (by simp [Value.oneCell']) ?_))
  intro w18 hBw18 hCw18
  have hzw18:=hCw18.size
  rw [zy _ _ (by kernel_rfl)] at hBw18
  refine ⟨.inl (by kernel_rfl), ?_⟩
  refine zE (zb (ze (ze (zd (zc 1 [(35,(vP w.heap.size 1))] ?_)))))
  have hK11:=(((hK2.ext hEw16).ext hEw17).chg hCw18)
  refine za (zm w.heap.size 1 (hK11.cell rfl) ?_)
  refine zc 2 [(38,(vI 0)),(37,(vI n_t))] (zf (zb (zr ?_)))
  have hK12:=((((((hBw2.ext hEw3).ext hEw4).ext hEw5).ext hEw16).ext hEw17).chg hCw18)
  have hX6:Ext w w18:=(Ext.own ((((((hEw1.trans hEw2).trans hEw3).trans hEw4).trans hEw5).trans hEw16).trans hEw17) hCw18 (by omega))
  refine zU (X:=Nat) (fun k=> [(38,(vI k))]) [8,9,39,40,41,42,43,44,45,46,47,48,49,50,51,52,53] (fun k w19=>k≤n_t∧Blk w19 w16.heap.size ((za4 n_t (ofE t z) (fun _=>Un.zero) k).flatMap unC) 77∧Blk w19 w.heap.size ([(vI n),(.slice a_t n_t c_t)]) 44∧Blk w19 w1.heap.size ([(vI 0),(.slice none 0 0)]) 38∧Blk w19 w5.heap.size ([(vI n),(.slice (pA w16.heap.size 0) n_t n_t)]) 38∧Ext w w19) (fun k=>n_t-k) 0 (by kernel_rfl) ⟨Nat.zero_le _,by rw [zlw];exact (hBw17.chg hCw18),hK11,hK12,hBw18,hX6⟩ ?_
  rintro k dw19 w19 ⟨hk,hR,hQ2,hQ4,hQ7,hEl⟩
  have hzl:=hEl.size;have hRl:=hR.lt
  have hmR:=Ms.of_row hR zK (len:=n_t) zbZ.symm (by simp only [maxLen];omega)
  have hQ2l:=hQ2.lt
  have hQ4l:=hQ4.lt
  have hQ7l:=hQ7.lt
  refine ze (zd (za (zF (some 39) (decide (((k:Nat):Int)<((n_t:Nat):Int))) (fun hc39=> ?_) (fun hc39=> ?_))))
  ·replace hc39:k<n_t:=by have:=zac hc39;omega
   refine zf (zb (ze (zv (zk (zb (ze (zr (ze (zd ?_)))))))))
   refine zc 1 [(40,(vI k))] ?_
   obtain ⟨b3,o3,rfl⟩:=h_t.addr (by omega) (by decide)
   refine za (zah b3 o3 n_t c_t k 274 ?_)
   refine za (zT b3 (o3+k*274) ((h_t.ext hEl).at Nod.zero (by omega)) (zQ _) ?_)
   refine za (zaf (zJ Nod.zero) 74 ?_)
   intro w20 hBw20 hEw20 hzw20 hlw20
   refine zc 1 [(8,(vI k))] (za (zG 74 w19.heap.size 0 74 (vA (zJ (t.getD k Nod.zero))) (zJ Nod.zero) (zJ (t.getD k Nod.zero)) hBw20 (by rw [zQ];kernel_rfl) (by first |(simp;done)|(simp;omega)) (zb0 _) ?_))
   intro w21 hBw21 hCw21
   have hzw21:=hCw21.size
   rw [zy _ _ (by simp)] at hBw21
   refine zf (zb (zbD (fun k=>k=w16.heap.size) 11 (fun w22 hEw22 hzw22 hT379=> ?_)))
   have hX7:Chg (fun k=>k=w16.heap.size) w22 w22:=(Chg.refl (fun k=>k=w16.heap.size) w22)
   refine zg (hw:=hX7) hT379 [(0,43,(vP w5.heap.size 1))] 1 ?_
   have hK13:=(((hQ7.ext hEw20).chg hCw21).ext hEw22)
   refine zA (hw:=hX7) hT379 1 w5.heap.size 1 (fun w' hC=>((hK13.chg hC (fun hs=>by have h:_=_:=hs;omega)).cell rfl)) (zg (hw:=hX7) hT379 [(2,45,(vI k))] 1 (zan (hw:=hX7) hT379 3 w19.heap.size 0 (fun w' hC=>(((hBw21.ext hEw22).chg hC (fun hs=>by have h:_=_:=hs;omega)).all)) (zQ _) (zg (hw:=hX7) hT379 [(4,47,(.slice a_z n_z c_z)),(5,48,(vI k))] 2 ?_)))
   obtain ⟨b4,o4,rfl⟩:=h_z.addr (by omega)
   refine zas (hw:=hX7) hT379 6 b4 o4 n_z c_z k 1 ?_
   have hK14:=((((h_z.ext hEl).ext hEw20).chg hCw21).ext hEw22)
   refine zA (hw:=hX7) hT379 7 b4 (o4+k*1) (fun w' hC=>((hK14.chg hC (fun k h1 h2 hs=>by have h:_=_:=hs;omega)).celli (by omega))) (zn (hw:=hX7) hT379 8 (vA (unC (ofE t z k))) (zag (Instr.build 77 #[(0,(vA (zJ (t.getD k Nod.zero)))),(1,(.int .i64 (gz z k)))]) (fun w' hC=>(zeV (t.getD k Nod.zero) (gz z k)).trans (congrArg (fun z:Un=>Result.ok (Value.agg (unC z).toArray) _) (show (⟨(t.getD k Nod.zero),gz z k,false,List.replicate 4 false,rfl⟩:Un)=ofE t z k from rfl)))) (zas (hw:=hX7) hT379 9 w16.heap.size 0 n_t n_t k 280 ?_))
   have hK15:=(((hR.ext hEw20).chg hCw21).ext hEw22)
   refine zx 10 (zG 77 w16.heap.size (0+k*280) 77 (vA (unC (ofE t z k))) ((za4 n_t (ofE t z) (fun _=>Un.zero) k).flatMap unC) (unC (ofE t z k)) hK15 (by rw [zK];kernel_rfl) (by rw [zaE zK];(try simp only [List.length_cons,List.length_nil,List.length_set]);have:=(show List.length (za4 n_t (ofE t z) (fun _=>Un.zero) k)=n_t from zbZ);have hln:=zK (ofE t z k);omega) (zbh _) ?_)
   have hK16:=(((hR.ext hEw20).chg hCw21).ext hEw22)
   intro w23 hBw23 hCw23
   have hzw23:=hCw23.size
   rw [show (zV ((za4 n_t (ofE t z) (fun _=>Un.zero) k).flatMap unC) (0+k*280) (unC (ofE t z k)):List Value)=(za4 n_t (ofE t z) (fun _=>Un.zero) (k+1)).flatMap unC from (zcq zK _ _ _ (by have hq:List.length (za4 n_t (ofE t z) (fun _=>Un.zero) k)=n_t:=zbZ;omega)).trans (congrArg (fun z=>List.flatMap unC z) (show ((za4 n_t (ofE t z) (fun _=>Un.zero) k).set k (ofE t z k))=(za4 n_t (ofE t z) (fun _=>Un.zero) (k+1)) from zg4 (f:=ofE t z) (by omega)))] at hBw23
   have hmw23:Ms unC 280 w16.heap.size (w16.heap.size+1) w23 (pA w16.heap.size 0) n_t n_t (za4 n_t (ofE t z) (fun _=>Un.zero) (k+1)):=Ms.of_pre (r:= []) (by rw [List.append_nil];exact hBw23) zK (by have hq:List.length (za4 n_t (ofE t z) (fun _=>Un.zero) (k+1))=n_t:=zbZ;omega) (by omega) (by simp only [maxLen];omega) (by omega) (by omega)
   refine ⟨.inl (by kernel_rfl), ?_⟩
   refine zE (zi (zb (zd (za (zo (some 53) .i64 (IntKind.i64.wrap (((k:Nat):Int)+((1:Nat):Int))) (k+1) (zu) ?_)))))
   refine zc 1 [(38,(vI (k+1)))] (zf (zz ?_))
   have hK17:=((((hQ2.ext hEw20).chg hCw21).ext hEw22).chg hCw23)
   have hK18:=((((hQ4.ext hEw20).chg hCw21).ext hEw22).chg hCw23)
   have hX8:Ext w w23:=(Ext.own ((Ext.own (hEl.trans hEw20) hCw21 (by omega)).trans hEw22) hCw23 (by omega))
   refine zL (k+1) ?_ ?_
   ·exact ⟨by omega,hBw23,hK17,hK18,(hK13.chg hCw23),hX8⟩
   ·first | omega |(dsimp only;omega)
  ·replace hc39:¬(k<n_t):=by have:=zad hc39;omega
   have hkn:k=n_t:=by omega
   rw [hkn,show (za4 n_t (ofE t z) (fun _=>Un.zero) n_t)=(ofT n_t t z) from zhk] at hR hmR
   refine zf (zb (ze (zh (zP (zq (zq (zH (zb (ze ?_)))))))))
   refine ze (zd (za (zO w5.heap.size 0 (hQ7.all) ?_)))
   refine za (zp (zi4 ((n:Nat):Int) _ hmR (hg0.ext hEl) (hg1.ext hEl) (hg2.ext hEl)) ?_)
   rintro _ w24 ⟨rfl,hEw24⟩
   have hzw24:=hEw24.size
   rw [show zc3 ((n:Nat):Int) (ofT n_t t z)=0 from hp6]
   refine zc 1 [(10,(vI 0))] (zf (zb (ze (zd (zc 1 [(56,(vI 0))] (za (zae (some 57) (((0:Nat):Int) !=((0:Nat):Int)) false (zax) ?_)))))))
   refine zf (zb (zh (zk (zb (ze (zd (za (zO w5.heap.size 0 ((hQ7.ext hEw24).all) ?_))))))))
   refine za (zG 38 w1.heap.size 0 38 (vA [(vI n),(.slice (pA w16.heap.size 0) n_t n_t)]) ([(vI 0),(.slice none 0 0)]) ([(vI n),(.slice (pA w16.heap.size 0) n_t n_t)]) (hQ4.ext hEw24) (by kernel_rfl) (by first | decide |(simp;done)|(simp;omega)) (by simp [Value.oneCell']) ?_)
   intro w25 hBw25 hCw25
   have hzw25:=hCw25.size
   rw [zy _ _ (by kernel_rfl)] at hBw25
   exact zc 1 [(5,(vI 0))] (zf (zb (zj (za7 (show zX Tryz.prog 61 _ _ (.cell 4 38) (vA [(vI n),(.slice (pA w16.heap.size 0) n_t n_t)]) from ⟨⟨w1.heap.size,0,none⟩,(by kernel_rfl),zI (T:=38) (vs:= [(vI n),(.slice (pA w16.heap.size 0) n_t n_t)]) (hBw25).all (by kernel_rfl)⟩) (show zX Tryz.prog 61 _ _ (.tmp 5) (vI 0) by (show _=_;kernel_rfl)) (⟨_,rfl,(((hmR.ext hEw24).chg hCw25)).now.mono (by omega) (Nat.le_refl _),(Ext.own (hEl.trans hEw24) hCw25 (by omega))⟩)))))
end Go.Proofs.YtkmhgepdhilllaaGreatDoor
namespace Go.Proofs.YtkmhgepdhilllaaGreatDoor
open Go Go.RowKit Go.Cs
set_option maxRecDepth 100000
theorem zhj {lo_l hi_l:Nat} {a_l:Option Addr} {n_l c_l:Nat} {l:List Rec} {lo_s hi_s:Nat} {a_s:Option Addr} {n_s c_s:Nat} {s:List Nat} (w:World) (h_l:Ms zM 35 lo_l hi_l w a_l n_l c_l l) (h_s:Es (nv .i64) lo_s hi_s w a_s n_s c_s s) (hp0:n_l≤4096) (hp1:n_s≤100000):
  Calls Tryz.prog 11 #[(.slice a_l n_l c_l),(.slice a_s n_s c_s)] w (Ret fun r w'=>∃(a0a:Option Addr) (a0c:Nat) (a0b:Nat) (a0d:Option Addr) (a0e:Nat) (a0p:Nat) (a0q:Nat) (a0r:Nat) (a0s:Nat),r=(vA [(.slice a0a n_l a0c),(.slice (pA a0b 0) n_l n_l),(.slice a0d n_s a0e)])∧(w.heap.size≤a0p∧a0q≤w'.heap.size∧w.heap.size≤a0r∧a0s≤w'.heap.size∧w.heap.size≤a0b∧¬(a0p≤a0b∧a0b<a0q)∧¬(a0r≤a0b∧a0b<a0s)∧(a0q≤a0r∨a0s≤a0p))∧OwM zM 35 a0p a0q w' a0a n_l a0c 68 l∧Blk w' a0b ((fls n_l).map Value.bool) 4∧Cs.Own (nv .i64) a0r a0s w' a0d n_s a0e 3 s∧Ext w w'):=by
 refine zD (n:=13) (σ:= [(0,(.slice a_l n_l c_l)),(1,(.slice a_s n_s c_s))]) Tryz.func11 rfl ?_
 replace h_l:=h_l.now;have hle_l:=h_l.le
 replace h_s:=h_s.now;have hle_s:=h_s.le
 have hll:=h_l.len_eq;have hls:=h_s.len_eq
 have hle:=h_l.le;have hle2:=h_s.le
 refine ze (zd (za (zaf ([(.slice none 0 0),(.slice none 0 0),(.slice none 0 0)]) 34 ?_)))
 intro w1 hBw1 hEw1 hzw1 hlw1
 refine zf (zb (ze (zab 9 (fun w2 hEw2 hzw2 hT14=> ?_))))
 refine zg hT14 [(0,5,(.slice a_l n_l c_l)),(2,7,(.slice a_l n_l c_l)),(3,8,(vI n_l)),(5,10,(.slice a_s n_s c_s))] 4 (zbt 1 4 ?_ ?_)
 ·refine zbE (some 6) 28 28 68 56 (vA (zM Rec.zero)) (OwM.nil zM 35 w2.heap.size w2.heap.size w2 68 zZ) ((h_l.ext hEw1).ext hEw2) zbb ?_ (by rw [Value.cells,List.size_toArray,zZ]) (by decide)
  intro a1 c1 w3 hOw3 hCw3
  have hzw3:=hCw3.size
  have hSw3:=hOw3.ms;have hlea1:=hSw3.le
  have hX1:Ext w2 w3:=(Ext.ownS (Ext.refl _) hCw3 (fun k hs hk=>by exact (zap hs).elim))
  refine ⟨.inr hX1, ?_⟩
  refine zbt 4 6 ?_ ?_
  ·refine zcx (some 9) 32 4 1 1 n_l n_l .i64 .i64 vF (by omega) (by omega) (by omega) ?_
   rw [zd4 _ rfl]
   intro w4 hBw4 hEw4
   have hzw4:=hEw4.size;have hlw4:=hBw4.lt
   have hSw4:Es Value.bool w3.heap.size (w3.heap.size+1) w4 (pA w3.heap.size 0) n_l n_l (List.replicate n_l false):=Es.of_blk hBw4 (by rw [List.map_replicate];first | done | rfl) (by simp) (Nat.le_refl _) (by simp only [maxLen];omega) (Nat.le_refl _) (Nat.lt_succ_self _)
   have hX2:Ext w2 w4:=((Ext.ownS (Ext.refl _) hCw3 (fun k hs hk=>by exact (zap hs).elim)).trans hEw4)
   refine ⟨.inr hX2, ?_⟩
   have hK1:=(((((h_s.ext hEw1).ext hEw2)).chg hCw3 (by intros;exact zap)).ext hEw4)
   refine zx 6 (zbo (some 11) 29 29 3 8 (vI 0) (Cs.Own.nil (f:=(nv .i64)) w4.heap.size w4.heap.size w4 3) hK1 (fun _=>rfl) ?_)
   intro a2 c2 w5 hOw5 hCw5
   have hzw5:=hCw5.size
   have hSw5:=hOw5.es
   have hX3:Ext w2 w5:=(Ext.ownS ((Ext.ownS (Ext.refl _) hCw3 (fun k hs hk=>by exact (zap hs).elim)).trans hEw4) hCw5 (fun k hs hk=>by exact (zap hs).elim))
   refine ⟨.inr hX3, ?_⟩
   refine zg (hw:=hX3) hT14 [(7,12,(vA [(.slice a1 (0+n_l) c1),(.slice (pA w3.heap.size 0) n_l n_l),(.slice a2 (0+n_s) c2)]))] 1 ?_
   have hK2:=((((((hBw1.ext hEw2)).chg hCw3 (by intros;exact zap)).ext hEw4)).chg hCw5 (by intros;exact zap))
   refine zx 8 (zG 34 w.heap.size 0 34 (vA [(.slice a1 (0+n_l) c1),(.slice (pA w3.heap.size 0) n_l n_l),(.slice a2 (0+n_s) c2)]) ([(.slice none 0 0),(.slice none 0 0),(.slice none 0 0)]) ([(.slice a1 (0+n_l) c1),(.slice (pA w3.heap.size 0) n_l n_l),(.slice a2 (0+n_s) c2)]) hK2 (by kernel_rfl) (by first | decide |(simp;done)|(simp;omega)) (by simp [Value.oneCell']) ?_)
   have hK3:=((((((hBw1.ext hEw2)).chg hCw3 (by intros;exact zap)).ext hEw4)).chg hCw5 (by intros;exact zap))
   intro w6 hBw6 hCw6
   have hzw6:=hCw6.size
   rw [zy _ _ (by kernel_rfl)] at hBw6
   refine ⟨.inl (by kernel_rfl), ?_⟩
   refine zE (zb (zj (zaJ (show zX Tryz.prog 13 _ _ (.cell 4 34) (vA [(.slice a1 (0+n_l) c1),(.slice (pA w3.heap.size 0) n_l n_l),(.slice a2 (0+n_s) c2)]) from ⟨⟨w.heap.size,0,none⟩,(by kernel_rfl),zI (T:=34) (vs:= [(.slice a1 (0+n_l) c1),(.slice (pA w3.heap.size 0) n_l n_l),(.slice a2 (0+n_s) c2)]) (hBw6).all (by kernel_rfl)⟩) ?_)))
   have hK4:=((((hOw3.ext hEw4)).chg hCw5 (by intros;exact zap)).chg hCw6)
   have hz1:=hK4;have hz2:=(((hBw4).chg hCw5 (by intros;exact zap)).chg hCw6);have hz3:=(hOw5.chg hCw6)
   rw [List.nil_append,Nat.zero_add] at hz1 hz3
   rw [show List.replicate n_l (Value.bool false)=(fls n_l).map Value.bool from by unfold fls;rw [List.map_replicate]] at hz2
   rw [Nat.zero_add,Nat.zero_add]
   have hX4:Ext w w6:=(Ext.own (Ext.ownS ((Ext.ownS (hEw1.trans hEw2) hCw3 (fun k hs hk=>by exact (zap hs).elim)).trans hEw4) hCw5 (fun k hs hk=>by exact (zap hs).elim)) hCw6 (by omega))
   exact ⟨_,_,_,_,_,w2.heap.size,w3.heap.size,w4.heap.size,w5.heap.size,rfl,by omega,hz1,hz2,hz3,hX4⟩
  ·have hK5:=((((h_s.ext hEw1).ext hEw2)).chg hCw3 (by intros;exact zap))
   refine zbo (some 11) 29 29 3 8 (vI 0) (Cs.Own.nil (f:=(nv .i64)) w3.heap.size w3.heap.size w3 3) hK5 (fun _=>rfl) ?_
   intro a3 c3 w7 hOw7 hCw7
   have hzw7:=hCw7.size
   have hSw7:=hOw7.es
   have hX5:Ext w2 w7:=(Ext.ownS (Ext.ownS (Ext.refl _) hCw3 (fun k hs hk=>by exact (zap hs).elim)) hCw7 (fun k hs hk=>by exact (zap hs).elim))
   refine ⟨.inr hX5, ?_⟩
   refine zx 4 (zcx (some 9) 32 4 1 1 n_l n_l .i64 .i64 vF (by omega) (by omega) (by omega) ?_)
   rw [zd4 _ rfl]
   intro w8 hBw8 hEw8
   have hzw8:=hEw8.size;have hlw8:=hBw8.lt
   have hSw8:Es Value.bool w7.heap.size (w7.heap.size+1) w8 (pA w7.heap.size 0) n_l n_l (List.replicate n_l false):=Es.of_blk hBw8 (by rw [List.map_replicate];first | done | rfl) (by simp) (Nat.le_refl _) (by simp only [maxLen];omega) (Nat.le_refl _) (Nat.lt_succ_self _)
   have hX6:Ext w2 w8:=((Ext.ownS (Ext.ownS (Ext.refl _) hCw3 (fun k hs hk=>by exact (zap hs).elim)) hCw7 (fun k hs hk=>by exact (zap hs).elim)).trans hEw8)
   refine ⟨.inr hX6, ?_⟩
   refine zg (hw:=hX6) hT14 [(7,12,(vA [(.slice a1 (0+n_l) c1),(.slice (pA w7.heap.size 0) n_l n_l),(.slice a3 (0+n_s) c3)]))] 1 ?_
   have hK6:=((((((hBw1.ext hEw2)).chg hCw3 (by intros;exact zap))).chg hCw7 (by intros;exact zap)).ext hEw8)
   refine zx 8 (zG 34 w.heap.size 0 34 (vA [(.slice a1 (0+n_l) c1),(.slice (pA w7.heap.size 0) n_l n_l),(.slice a3 (0+n_s) c3)]) ([(.slice none 0 0),(.slice none 0 0),(.slice none 0 0)]) ([(.slice a1 (0+n_l) c1),(.slice (pA w7.heap.size 0) n_l n_l),(.slice a3 (0+n_s) c3)]) hK6 (by kernel_rfl) (by first | decide |(simp;done)|(simp;omega)) (by simp [Value.oneCell']) ?_)
   have hK7:=((((((hBw1.ext hEw2)).chg hCw3 (by intros;exact zap))).chg hCw7 (by intros;exact zap)).ext hEw8)
   intro w9 hBw9 hCw9
   have hzw9:=hCw9.size
   rw [zy _ _ (by kernel_rfl)] at hBw9
   refine ⟨.inl (by kernel_rfl), ?_⟩
   refine zE (zb (zj (zaJ (show zX Tryz.prog 13 _ _ (.cell 4 34) (vA [(.slice a1 (0+n_l) c1),(.slice (pA w7.heap.size 0) n_l n_l),(.slice a3 (0+n_s) c3)]) from ⟨⟨w.heap.size,0,none⟩,(by kernel_rfl),zI (T:=34) (vs:= [(.slice a1 (0+n_l) c1),(.slice (pA w7.heap.size 0) n_l n_l),(.slice a3 (0+n_s) c3)]) (hBw9).all (by kernel_rfl)⟩) ?_)))
   have hK8:=((((hOw3).chg hCw7 (by intros;exact zap)).ext hEw8).chg hCw9)
   have hz1:=hK8;have hz2:=(hBw8.chg hCw9);have hz3:=((hOw7.ext hEw8).chg hCw9)
   rw [List.nil_append,Nat.zero_add] at hz1 hz3
   rw [show List.replicate n_l (Value.bool false)=(fls n_l).map Value.bool from by unfold fls;rw [List.map_replicate]] at hz2
   rw [Nat.zero_add,Nat.zero_add]
   have hX7:Ext w w9:=(Ext.own ((Ext.ownS (Ext.ownS (hEw1.trans hEw2) hCw3 (fun k hs hk=>by exact (zap hs).elim)) hCw7 (fun k hs hk=>by exact (zap hs).elim)).trans hEw8) hCw9 (by omega))
   exact ⟨_,_,_,_,_,w2.heap.size,w3.heap.size,w3.heap.size,w7.heap.size,rfl,by omega,hz1,hz2,hz3,hX7⟩
 ·refine zcx (some 9) 32 4 1 1 n_l n_l .i64 .i64 vF (by omega) (by omega) (by omega) ?_
  rw [zd4 _ rfl]
  intro w10 hBw10 hEw10
  have hzw10:=hEw10.size;have hlw10:=hBw10.lt
  have hSw10:Es Value.bool w2.heap.size (w2.heap.size+1) w10 (pA w2.heap.size 0) n_l n_l (List.replicate n_l false):=Es.of_blk hBw10 (by rw [List.map_replicate];first | done | rfl) (by simp) (Nat.le_refl _) (by simp only [maxLen];omega) (Nat.le_refl _) (Nat.lt_succ_self _)
  refine ⟨.inr hEw10, ?_⟩
  have hK9:=(((h_l.ext hEw1).ext hEw2).ext hEw10)
  refine zx 1 (zbE (some 6) 28 28 68 56 (vA (zM Rec.zero)) (OwM.nil zM 35 w10.heap.size w10.heap.size w10 68 zZ) hK9 zbb ?_ (by rw [Value.cells,List.size_toArray,zZ]) (by decide))
  intro a4 c4 w11 hOw11 hCw11
  have hzw11:=hCw11.size
  have hSw11:=hOw11.ms;have hlea4:=hSw11.le
  have hX8:Ext w2 w11:=(Ext.ownS hEw10 hCw11 (fun k hs hk=>by exact (zap hs).elim))
  refine ⟨.inr hX8, ?_⟩
  have hK10:=(((((h_s.ext hEw1).ext hEw2).ext hEw10)).chg hCw11 (by intros;exact zap))
  refine zx 6 (zbo (some 11) 29 29 3 8 (vI 0) (Cs.Own.nil (f:=(nv .i64)) w11.heap.size w11.heap.size w11 3) hK10 (fun _=>rfl) ?_)
  intro a5 c5 w12 hOw12 hCw12
  have hzw12:=hCw12.size
  have hSw12:=hOw12.es
  have hX9:Ext w2 w12:=(Ext.ownS (Ext.ownS hEw10 hCw11 (fun k hs hk=>by exact (zap hs).elim)) hCw12 (fun k hs hk=>by exact (zap hs).elim))
  refine ⟨.inr hX9, ?_⟩
  refine zg (hw:=hX9) hT14 [(7,12,(vA [(.slice a4 (0+n_l) c4),(.slice (pA w2.heap.size 0) n_l n_l),(.slice a5 (0+n_s) c5)]))] 1 ?_
  have hK11:=((((((hBw1.ext hEw2).ext hEw10)).chg hCw11 (by intros;exact zap))).chg hCw12 (by intros;exact zap))
  refine zx 8 (zG 34 w.heap.size 0 34 (vA [(.slice a4 (0+n_l) c4),(.slice (pA w2.heap.size 0) n_l n_l),(.slice a5 (0+n_s) c5)]) ([(.slice none 0 0),(.slice none 0 0),(.slice none 0 0)]) ([(.slice a4 (0+n_l) c4),(.slice (pA w2.heap.size 0) n_l n_l),(.slice a5 (0+n_s) c5)]) hK11 (by kernel_rfl) (by first | decide |(simp;done)|(simp;omega)) (by simp [Value.oneCell']) ?_)
  have hK12:=((((((hBw1.ext hEw2).ext hEw10)).chg hCw11 (by intros;exact zap))).chg hCw12 (by intros;exact zap))
  intro w13 hBw13 hCw13
  have hzw13:=hCw13.size
  rw [zy _ _ (by kernel_rfl)] at hBw13
  refine ⟨.inl (by kernel_rfl), ?_⟩
  refine zE (zb (zj (zaJ (show zX Tryz.prog 13 _ _ (.cell 4 34) (vA [(.slice a4 (0+n_l) c4),(.slice (pA w2.heap.size 0) n_l n_l),(.slice a5 (0+n_s) c5)]) from ⟨⟨w.heap.size,0,none⟩,(by kernel_rfl),zI (T:=34) (vs:= [(.slice a4 (0+n_l) c4),(.slice (pA w2.heap.size 0) n_l n_l),(.slice a5 (0+n_s) c5)]) (hBw13).all (by kernel_rfl)⟩) ?_)))
  have hK13:=(((((hBw10).chg hCw11 (by intros;exact zap))).chg hCw12 (by intros;exact zap)).chg hCw13)
  have hz1:=(((hOw11).chg hCw12 (by intros;exact zap)).chg hCw13);have hz2:=hK13;have hz3:=(hOw12.chg hCw13)
  rw [List.nil_append,Nat.zero_add] at hz1 hz3
  rw [show List.replicate n_l (Value.bool false)=(fls n_l).map Value.bool from by unfold fls;rw [List.map_replicate]] at hz2
  rw [Nat.zero_add,Nat.zero_add]
  have hX10:Ext w w13:=(Ext.own (Ext.ownS (Ext.ownS ((hEw1.trans hEw2).trans hEw10) hCw11 (fun k hs hk=>by exact (zap hs).elim)) hCw12 (fun k hs hk=>by exact (zap hs).elim)) hCw13 (by omega))
  exact ⟨_,_,_,_,_,w10.heap.size,w11.heap.size,w11.heap.size,w12.heap.size,rfl,by omega,hz1,hz2,hz3,hX10⟩
theorem zoY {lo_l hi_l:Nat} {a_l:Option Addr} {n_l c_l:Nat} {l:List Rec} {lo_c hi_c:Nat} {a_c:Option Addr} {n_c c_c:Nat} {c:List Bool} {lo_s hi_s:Nat} {a_s:Option Addr} {n_s c_s:Nat} {s:List Nat} (b:Nat) (w:World) (h_l:Ms zM 35 lo_l hi_l w a_l n_l c_l l) (h_c:Es Value.bool lo_c hi_c w a_c n_c c_c c) (h_s:Es (nv .i64) lo_s hi_s w a_s n_s c_s s) (hp0:b<n_l) (hp1:n_c=n_l) (hp2:(l.getD b Rec.zero).st≤2):
  Calls Tryz.prog 18 #[(vA [(.slice a_l n_l c_l),(.slice a_c n_c c_c),(.slice a_s n_s c_s)]),(vI b)] w (Ret fun r w'=>r=(vI (za1 l c b))∧Ext w w'):=by
 refine zD (n:=24) (σ:= [(0,(vA [(.slice a_l n_l c_l),(.slice a_c n_c c_c),(.slice a_s n_s c_s)])),(1,(vI b))]) Tryz.func18 rfl ?_
 replace h_l:=h_l.now;have hle_l:=h_l.le
 replace h_c:=h_c.now;have hle_c:=h_c.le
 replace h_s:=h_s.now;have hle_s:=h_s.le
 have hll:=h_l.len_eq;have hlc:=h_c.len_eq
 have hle:=h_l.le;have hle2:=h_c.le
 have hst:=(l.getD b Rec.zero).hst
 refine ze (zd (za (zaa (Instr.box 34 (vA [(.slice a_l n_l c_l),(.slice a_c n_c c_c),(.slice a_s n_s c_s)])) (vP w.heap.size 0) ([(.slice a_l n_l c_l),(.slice a_c n_c c_c),(.slice a_s n_s c_s)]) 34 ?_)))
 intro w1 hBw1 hEw1 hzw1 hlw1
 refine zc 1 [(4,(vI 0))] (zf (zb (ze (zd (zc 1 [(6,(vP w.heap.size 0))] (za (zm w.heap.size 0 (hBw1.cell rfl) ?_)))))))
 refine zc 1 [(8,(vI b))] ?_
 obtain ⟨b1,o1,rfl⟩:=h_l.addr (by omega) (by decide)
 refine za (zah b1 o1 n_l c_l b 35 ?_)
 refine zc 1 [(10,(vP b1 (o1+b*35)))] (za (zm b1 (o1+b*35) ((h_l.ext hEw1).cell (j:=0) Rec.zero (by omega) rfl) ?_))
 refine za (zo (some 12) .i64 (IntKind.i64.wrap (((l.getD b Rec.zero).st:Nat):Int)) ((l.getD b Rec.zero).st) (zu rfl) ?_)
 refine zc 1 [(5,(vI ((l.getD b Rec.zero).st)))] (zf (zb (ze (ze (zd (zc 1 [(13,(vI ((l.getD b Rec.zero).st)))] (za (zF (some 14) (((((l.getD b Rec.zero).st:Nat):Int)==((0:Nat):Int))) (fun hc14=> ?_) (fun hc14=> ?_)))))))))
 ·replace hc14:(l.getD b Rec.zero).st=0:=by have:=zbJ hc14;omega
  refine zf (zb (zv (ze (zd (zc 1 [(4,(vI 0))] (zf (zb (zj (zw ?_)))))))))
  exact zl (vI 0) (⟨by unfold za1;rw [if_pos hc14],hEw1⟩)
 ·replace hc14:¬((l.getD b Rec.zero).st=0):=by have:=zbI hc14;omega
  refine zf (zb (zh (zk (zb (ze (ze (zd (zc 1 [(15,(vP w.heap.size 1))] (za (zm w.heap.size 1 (hBw1.cell rfl) ?_))))))))))
  refine zc 1 [(17,(vI b))] ?_
  obtain ⟨b2,o2,rfl⟩:=h_c.addr (by omega)
  refine za (zah b2 o2 n_c c_c b 1 ?_)
  rcases Bool.eq_false_or_eq_true (c.getD b false) with hb19 | hb19
  ·refine za (zm b2 (o2+b*1) (Eq.trans ((h_c.ext hEw1).cellb (by omega)) (congrArg (fun z=>some (Value.bool z)) hb19)) ?_)
   refine zf (zb (zv (ze (zd (zc 1 [(20,(vI ((l.getD b Rec.zero).st)))] (za (zo (some 21) .i64 (IntKind.i64.wrap ((((l.getD b Rec.zero).st:Nat):Int)-((1:Nat):Int))) ((l.getD b Rec.zero).st-1) (zu) ?_)))))))
   exact zc 1 [(4,(vI ((l.getD b Rec.zero).st-1)))] (zf (zb (zj (zw (zl (vI ((l.getD b Rec.zero).st-1)) (⟨by unfold za1;rw [if_neg hc14,if_pos (show c.getD b false=true from hb19)],hEw1⟩))))))
  ·refine za (zm b2 (o2+b*1) (Eq.trans ((h_c.ext hEw1).cellb (by omega)) (congrArg (fun z=>some (Value.bool z)) hb19)) ?_)
   refine zf (zb (zh (zk (zb (ze (zd (zc 1 [(22,(vI ((l.getD b Rec.zero).st)))] (za (zo (some 23) .i64 (IntKind.i64.wrap (((2:Nat):Int)-(((l.getD b Rec.zero).st:Nat):Int))) (2-((l.getD b Rec.zero).st)) (zu) ?_)))))))))
   exact zc 1 [(4,(vI (2-((l.getD b Rec.zero).st))))] (zf (zb (zj (zl (vI (2-((l.getD b Rec.zero).st))) (⟨by unfold za1;rw [if_neg hc14,if_neg (by rw [show c.getD b false=false from hb19];decide)],hEw1⟩)))))
theorem zs1 {lo_l hi_l:Nat} {a_l:Option Addr} {n_l c_l:Nat} {l:List Rec} {lo_c hi_c:Nat} {a_c:Option Addr} {n_c c_c:Nat} {c:List Bool} {lo_s hi_s:Nat} {a_s:Option Addr} {n_s c_s:Nat} {s:List Nat} (b:Nat) (x:Non) (y:Dig) (w:World) (h_l:Ms zM 35 lo_l hi_l w a_l n_l c_l l) (h_c:Es Value.bool lo_c hi_c w a_c n_c c_c c) (h_s:Es (nv .i64) lo_s hi_s w a_s n_s c_s s) (hp0:b<n_l) (hp1:n_c=n_l) (hp2:(l.getD b Rec.zero).st≤2) (hp3:n_l≤4096) (hp4:n_s≤100000):
  Calls Tryz.prog 19 #[(vA [(.slice a_l n_l c_l),(.slice a_c n_c c_c),(.slice a_s n_s c_s)]),(vI b),(vA (zbf x)),(vA (zR y))] w (Ret fun r w'=>∃a0 ca0 a1 ca1 a2 ca2,r=(vA [(.slice a0 n_l ca0),(.slice a1 n_c ca1),(.slice a2 n_s ca2)])∧Ms zM 35 w.heap.size w'.heap.size w' a0 n_l ca0 (l.set b (zaH l c b x y))∧Es Value.bool w.heap.size w'.heap.size w' a1 n_c ca1 (c.set b true)∧Es (nv .i64) w.heap.size w'.heap.size w' a2 n_s ca2 s∧Ext w w'):=by
 refine zD (n:=37) (σ:= [(0,(vA [(.slice a_l n_l c_l),(.slice a_c n_c c_c),(.slice a_s n_s c_s)])),(1,(vI b)),(2,(vA (zbf x))),(3,(vA (zR y)))]) Tryz.func19 rfl ?_
 replace h_l:=h_l.now;have hle_l:=h_l.le
 replace h_c:=h_c.now;have hle_c:=h_c.le
 replace h_s:=h_s.now;have hle_s:=h_s.le
 have hll:=h_l.len_eq;have hlc:=h_c.len_eq;have hls:=h_s.len_eq
 have hle:=h_l.le;have hle2:=h_c.le;have hle3:=h_s.le
 have htw:=zsa (c:=c) hp2
 refine ze (zd (za (zaa (Instr.box 34 (vA [(.slice a_l n_l c_l),(.slice a_c n_c c_c),(.slice a_s n_s c_s)])) (vP w.heap.size 0) ([(.slice a_l n_l c_l),(.slice a_c n_c c_c),(.slice a_s n_s c_s)]) 34 ?_)))
 intro w1 hBw1 hEw1 hzw1 hlw1
 refine za (zaa (Instr.box 56 (vA (zbf x))) (vP w1.heap.size 0) (zbf x) 56 ?_)
 intro w2 hBw2 hEw2 hzw2 hlw2
 refine za (zaa (Instr.box 59 (vA (zR y))) (vP w2.heap.size 0) (zR y) 59 ?_)
 intro w3 hBw3 hEw3 hzw3 hlw3
 refine za (zaf ([(.slice none 0 0),(.slice none 0 0),(.slice none 0 0)]) 34 ?_)
 intro w4 hBw4 hEw4 hzw4 hlw4
 refine zf (zb (ze (zd (zc 1 [(10,(vP w.heap.size 0))] ?_))))
 have hK1:=(((hBw1.ext hEw2).ext hEw3).ext hEw4)
 refine za (zm w.heap.size 0 (hK1.cell rfl) ?_)
 refine zc 1 [(12,(vP w.heap.size 2))] (za (zm w.heap.size 2 (hK1.cell rfl) ?_))
 have hK2:=((((h_l.ext hEw1).ext hEw2).ext hEw3).ext hEw4)
 have hK3:=((((h_s.ext hEw1).ext hEw2).ext hEw3).ext hEw4)
 refine za (zp (zhj _ hK2 hK3 (by first | omega | decide) (by first | omega | decide)) ?_)
 rintro _ w5 ⟨a1a,a1c,a1b,a1d,a1e,a1p,a1q,a1r,a1s,rfl,hFz1_0,hFz1_1,hFz1_2,hFz1_3,hEw5⟩
 have hzw5:=hEw5.size
 have hma1:=hFz1_1.ms;have hlea1:=hma1.le;have hla1:=hFz1_2.lt;have hna1:=hFz1_3.es;have hle2a1:=hna1.le
 have hba1:Es Value.bool a1b (a1b+1) w5 (pA a1b 0) n_l n_l (fls n_l):=Es.of_blk hFz1_2 rfl (by simp [fls]) (Nat.le_refl _) (by simp only [maxLen];omega) (Nat.le_refl _) (Nat.lt_succ_self _)
 refine zal ([(.slice a1a n_l a1c),(.slice (pA a1b 0) n_l n_l),(.slice a1d n_s a1e)]) 34 rfl (by simp [Value.oneCell']) ?_
 intro w6 hBw6 hEw6 hzw6 hlw6
 refine zf (zb (ze (zd (zc 1 [(15,(vP w5.heap.size 1))] (za (zm w5.heap.size 1 (hBw6.cell rfl) ?_))))))
 refine zc 1 [(17,(vP w.heap.size 1))] (za (zm w.heap.size 1 (((hK1.ext hEw5).ext hEw6).cell rfl) ?_))
 have hK4:=((((((h_c.ext hEw1).ext hEw2).ext hEw3).ext hEw4).ext hEw5).ext hEw6)
 refine za (zhH (a:=(pA a1b 0)) (dl:=n_l) (dc:=n_l) (some 19) 32 32 3 4 a1b 0 (hFz1_2.ext hEw6) (fun _=>rfl) (by rw [List.length_map];simp [fls];omega) hK4 (fun _=>rfl) ?_)
 intro w7 hBw7 hCw7
 have hzw7:=hCw7.size
 rw [show zV ((fls n_l).map Value.bool) 0 ((c.take (min n_c n_l)).map Value.bool)=c.map Value.bool from by rw [show min n_c n_l=n_c from by omega,List.take_of_length_le (by omega),zy _ _ (by rw [List.length_map,List.length_map];simp [fls];omega)]] at hBw7
 refine zf (zb (ze (zab 13 (fun w8 hEw8 hzw8 hT202=> ?_))))
 refine zg hT202 [(0,20,(vP w5.heap.size 0))] 1 (zA hT202 1 w5.heap.size 0 (fun w' hC=>((((hBw6.chg hCw7).ext hEw8).ext hC).cell rfl)) (zg hT202 [(2,22,(vI b))] 1 ?_))
 have hK5:=((((hK1.ext hEw5).ext hEw6).chg hCw7).ext hEw8)
 refine zaO hT202 3 w.heap.size 0 (fun w' hC=>((hK5.ext hC).all)) (zg hT202 [(4,24,(vI b))] 1 ?_)
 have hK6:=((((((hBw2.ext hEw3).ext hEw4).ext hEw5).ext hEw6).chg hCw7).ext hEw8)
 refine zan hT202 8 w1.heap.size 0 (fun w' hC=>((hK6.ext hC).all)) (ze6 _) ?_
 have hK7:=(((((hBw3.ext hEw4).ext hEw5).ext hEw6).chg hCw7).ext hEw8)
 refine zan hT202 9 w2.heap.size 0 (fun w' hC=>((hK7.ext hC).all)) (zam _) ?_
 have hK8:=((((hK2.ext hEw5).ext hEw6).chg hCw7).ext hEw8)
 have hK9:=((((hK3.ext hEw5).ext hEw6).chg hCw7).ext hEw8)
 refine zx 5 (zp (zoY b _ hK8 ((hK4.chg hCw7).ext hEw8) hK9 (by omega) (by omega) (by assumption)) ?_)
 rintro _ w9 ⟨rfl,hEw9⟩
 have hzw9:=hEw9.size
 refine ⟨.inr hEw9, ?_⟩
 refine zn (hw:=hEw9) hT202 6 (vI (za1 l c b+1)) (zY .i64 (IntKind.i64.wrap (((za1 l c b:Nat):Int)+((1:Nat):Int))) (zu)) (zn (hw:=hEw9) hT202 7 (vB (za1 l c b+1)) (zY .u8 (IntKind.u8.wrap ((za1 l c b+1:Nat):Int)) (zbz rfl rfl (by show _<2^8;omega))) (zn (hw:=hEw9) hT202 10 (vA (zM (zaH l c b x y))) (zag (Instr.build 68 #[(0,(vB (za1 l c b+1))),(1,(vA (zbf x))),(2,(vA (zR y)))]) (fun w' hC=>(zdb (za1 l c b+1) x y (by omega)).trans (congrArg (fun z:Rec=>Result.ok (Value.agg (zM z).toArray) _) (show (⟨za1 l c b+1,x,y,by omega⟩:Rec)=zaH l c b x y from rfl)))) ?_))
 have hK10:=((((hFz1_1.ext hEw6).chg hCw7).ext hEw8).ext hEw9)
 have hqb1:=hK10.ms.len_eq
 obtain ⟨b1,r1,rfl,hBb1,hrb1,hlob1,hhib1,hcpb1,hmxb1⟩:=hK10.row_of (by omega)
 have hlb1:=hBb1.lt
 refine zas (hw:=hEw9) hT202 11 b1 0 n_l a1c b 35 (zx 12 (zG 68 b1 (0+b*35) 68 (vA (zM (zaH l c b x y))) ((l).flatMap zM++r1) (zM (zaH l c b x y)) hBb1 (by rw [zZ];kernel_rfl) (by (try simp only [List.length_append,List.length_cons,List.length_nil,List.length_set]);(try rw [zaE zZ]);(try simp only [List.length_set]);have:=hqb1;(try rw [zZ]);omega) (zbb _) ?_))
 intro w10 hBw10 hCw10
 have hzw10:=hCw10.size
 rw [show (zV ((l).flatMap zM++r1) (0+b*35) (zM (zaH l c b x y)):List Value)=(l.set b (zaH l c b x y)).flatMap zM++r1 from (by have hz:=zcg zZ Rec.zero (zaH l c b x y) l b 0 (zM (zaH l c b x y)) r1 (by (try simp only [List.length_set]);omega) (zy _ _ (by rw [zZ,zZ])) (by (try simp only [List.length_cons,List.length_nil]);(try rw [zZ]);omega);rw [show 0+b*35=b*35+0 from by omega];exact hz)] at hBw10
 have hmw10:Ms zM 35 a1p a1q w10 (pA b1 0) n_l a1c (l.set b (zaH l c b x y)):=Ms.of_pre (r:=r1) (by exact hBw10) zZ (by (try simp only [List.length_set]);omega) (by omega) (by simp only [maxLen] at*;omega) (by omega) (by omega)
 refine ⟨.inl (by kernel_rfl), ?_⟩
 refine zE (zb (ze (zd (zc 1 [(32,(vP w5.heap.size 1))] ?_))))
 have hK11:=((((hBw6.chg hCw7).ext hEw8).ext hEw9).chg hCw10)
 refine za (zm w5.heap.size 1 (hK11.cell rfl) ?_)
 refine zc 1 [(34,(vI b))] (za (zah a1b 0 n_l n_l b 1 ?_))
 have hK12:=(((hBw7.ext hEw8).ext hEw9).chg hCw10)
 refine za (zaj 4 a1b (0+b*1) 4 vT (c.map Value.bool) hK12 (by rw [List.length_map];omega) ?_)
 have hK13:=(((hBw7.ext hEw8).ext hEw9).chg hCw10)
 intro w11 hBw11 hCw11
 have hzw11:=hCw11.size
 rw [show ((c.map Value.bool).set (0+b*1) vT:List Value)=(c.set b true).map Value.bool from by rw [Nat.zero_add,Nat.mul_one,List.map_set]] at hBw11
 refine zf (zb (ze (zd (za (zO w5.heap.size 0 ((hK11.chg hCw11).all) ?_)))))
 have hK14:=(((((((hBw4.ext hEw5).ext hEw6).chg hCw7).ext hEw8).ext hEw9).chg hCw10).chg hCw11)
 refine za (zG 34 w3.heap.size 0 34 (vA [(.slice (pA b1 0) n_l a1c),(.slice (pA a1b 0) n_l n_l),(.slice a1d n_s a1e)]) ([(.slice none 0 0),(.slice none 0 0),(.slice none 0 0)]) ([(.slice (pA b1 0) n_l a1c),(.slice (pA a1b 0) n_l n_l),(.slice a1d n_s a1e)]) hK14 (by kernel_rfl) (by first | decide |(simp;done)|(simp;omega)) (by simp [Value.oneCell']) ?_)
 have hK15:=(((((((hBw4.ext hEw5).ext hEw6).chg hCw7).ext hEw8).ext hEw9).chg hCw10).chg hCw11)
 intro w12 hBw12 hCw12
 have hzw12:=hCw12.size
 rw [zy _ _ (by kernel_rfl)] at hBw12
 refine zf (zb (zj (zaJ (show zX Tryz.prog 37 _ _ (.cell 8 34) (vA [(.slice (pA b1 0) n_l a1c),(.slice (pA a1b 0) n_l n_l),(.slice a1d n_s a1e)]) from ⟨⟨w3.heap.size,0,none⟩,(by kernel_rfl),zI (T:=34) (vs:= [(.slice (pA b1 0) n_l a1c),(.slice (pA a1b 0) n_l n_l),(.slice a1d n_s a1e)]) (hBw12).all (by kernel_rfl)⟩) ?_)))
 have hK16:=(((((((hna1.ext hEw6).chg hCw7).ext hEw8).ext hEw9).chg hCw10).chg hCw11).chg hCw12)
 have hz1:=((hBw10.chg hCw11).chg hCw12);have hz2:=(hBw11.chg hCw12);have hz3:=hK16
 have hX1:Ext w w12:=(Ext.own (Ext.own (Ext.own (((Ext.own (((((hEw1.trans hEw2).trans hEw3).trans hEw4).trans hEw5).trans hEw6) hCw7 (by omega)).trans hEw8).trans hEw9) hCw10 (by omega)) hCw11 (by omega)) hCw12 (by omega))
 exact ⟨_,_,_,_,_,_,by rw [show n_l=n_c from by omega],(Ms.of_pre hz1 zZ (by rw [List.length_set];omega) (by omega) (by simp only [maxLen] at*;omega) (by omega) (by omega)).now.mono (by omega) (Nat.le_refl _),(Es.of_blk hz2 rfl (by rw [List.length_set];omega) (Nat.le_refl _) (by simp only [maxLen];omega) (Nat.le_refl _) (Nat.lt_succ_self _)).now.mono (by omega) (Nat.le_refl _),hz3.now.mono (by omega) (Nat.le_refl _),hX1⟩
theorem zhu {lo_l hi_l:Nat} {a_l:Option Addr} {n_l c_l:Nat} {l:List Rec} {lo_c hi_c:Nat} {a_c:Option Addr} {n_c c_c:Nat} {c:List Bool} {lo_s hi_s:Nat} {a_s:Option Addr} {n_s c_s:Nat} {s:List Nat} (v:Nat) (j:Nat) (w:World) (h_l:Ms zM 35 lo_l hi_l w a_l n_l c_l l) (h_c:Es Value.bool lo_c hi_c w a_c n_c c_c c) (h_s:Es (nv .i64) lo_s hi_s w a_s n_s c_s s) (hp0:n_c=n_l) (hp1:n_l≤4096) (hp2:v≤4096):
  Calls Tryz.prog 33 #[(vA [(.slice a_l n_l c_l),(.slice a_c n_c c_c),(.slice a_s n_s c_s)]),(vI v),(vI j)] w (Ret fun r w'=>r=(.bool (drt c v j))∧Ext w w'):=by
 refine zD (n:=27) (σ:= [(0,(vA [(.slice a_l n_l c_l),(.slice a_c n_c c_c),(.slice a_s n_s c_s)])),(1,(vI v)),(2,(vI j))]) Tryz.func33 rfl ?_
 replace h_l:=h_l.now;have hle_l:=h_l.le
 replace h_c:=h_c.now;have hle_c:=h_c.le
 replace h_s:=h_s.now;have hle_s:=h_s.le
 have hll:=h_l.len_eq;have hlc:=h_c.len_eq
 have hle:=h_l.le;have hle2:=h_c.le
 refine ze (zd (za (zaa (Instr.box 34 (vA [(.slice a_l n_l c_l),(.slice a_c n_c c_c),(.slice a_s n_s c_s)])) (vP w.heap.size 0) ([(.slice a_l n_l c_l),(.slice a_c n_c c_c),(.slice a_s n_s c_s)]) 34 ?_)))
 intro w1 hBw1 hEw1 hzw1 hlw1
 refine zc 1 [(6,vF)] (zf (zb (ze (ze (zd (zc 1 [(7,(vI 0))] (zf (zb (zr ?_)))))))))
 refine zU (X:=Nat) (fun k=> [(7,(vI k))]) [6,8,9,10,11,12,13,14,15,16,17,18,19,20,21,22,23,24,25,26] (fun k w2=>k≤n_l∧(∀i,i<k→¬(c.getD i false=true∧idx i v=j))∧Ext w1 w2) (fun k=>n_l-k) 0 (by kernel_rfl) ⟨Nat.zero_le _,fun i h=>absurd h (Nat.not_lt_zero _),Ext.refl _⟩ ?_
 rintro k dw2 w2 ⟨hk,hno,hEl⟩
 have hzl:=hEl.size
 refine ze (ze (zd (zc 2 [(9,(vP w.heap.size 0)),(8,(vI k))] (za (zm w.heap.size 0 ((hBw1.ext hEl).cell rfl) ?_)))))
 refine zc 1 [(11,(vI n_l))] (za (zF (some 12) (decide (((k:Nat):Int)<((n_l:Nat):Int))) (fun hc12=> ?_) (fun hc12=> ?_)))
 ·replace hc12:k<n_l:=by have:=zac hc12;omega
  refine zf (zb (zv (zk (zb (ze (zr (ze (zd (zc 1 [(15,(vP w.heap.size 1))] ?_)))))))))
  refine za (zm w.heap.size 1 ((hBw1.ext hEl).cell rfl) ?_)
  refine zc 1 [(17,(vI k))] ?_
  obtain ⟨b1,o1,rfl⟩:=h_c.addr (by omega)
  refine za (zah b1 o1 n_c c_c k 1 ?_)
  rcases Bool.eq_false_or_eq_true (c.getD k false) with hb19 | hb19
  ·refine za (zm b1 (o1+k*1) (Eq.trans (((h_c.ext hEw1).ext hEl).cellb (by omega)) (congrArg (fun z=>some (Value.bool z)) hb19)) ?_)
   refine zc 3 [(22,(vI v)),(21,(vI k)),(20,vT)] (za (zp (zk9 k v _ (by omega) (by omega)) ?_))
   rintro _ _ ⟨rfl,rfl⟩
   refine zc 1 [(24,(vI j))] (za (zF (some 25) ((((idx k v:Nat):Int)==((j:Nat):Int))) (fun hc25=> ?_) (fun hc25=> ?_)))
   ·replace hc25:idx k v=j:=by have:=zbJ hc25;omega
    refine zc 1 [(26,vT)] (zf (zb (zv (ze (zd (zc 1 [(6,vT)] (zf (zb (zj ?_)))))))))
    exact zB (zw (zw (zB (zw (zl vT (⟨congrArg (fun z:Bool=>Value.bool z) (zeb.2 ⟨k,by omega,hb19,hc25⟩).symm,(hEw1.trans hEl)⟩))))))
   ·replace hc25:¬(idx k v=j):=by have:=zbI hc25;omega
    refine zc 1 [(26,vF)] (zf (zb (zh (zk (zi (zb (zd (zc 1 [(13,(vI k))] (za (zo (some 14) .i64 (IntKind.i64.wrap (((k:Nat):Int)+((1:Nat):Int))) (k+1) (zu) ?_))))))))))
    refine zc 1 [(7,(vI (k+1)))] (zf (zz (zL (k+1) ?_ ?_)))
    ·exact ⟨by omega,fun i hi=>by rcases Nat.lt_succ_iff_lt_or_eq.1 hi with h1 | rfl;exact hno i h1;exact fun hh=>hc25 hh.2,hEl⟩
    ·first | omega |(dsimp only;omega)
  ·refine za (zm b1 (o1+k*1) (Eq.trans (((h_c.ext hEw1).ext hEl).cellb (by omega)) (congrArg (fun z=>some (Value.bool z)) hb19)) ?_)
   refine zc 7 [(26,vF),(25,undef),(24,undef),(23,undef),(22,undef),(21,undef),(20,vF)] (zf (zb (zh (zk (zi (zb (zd (zc 1 [(13,(vI k))] (za (zo (some 14) .i64 (IntKind.i64.wrap (((k:Nat):Int)+((1:Nat):Int))) (k+1) (zu) ?_))))))))))
   refine zc 1 [(7,(vI (k+1)))] (zf (zz (zL (k+1) ?_ ?_)))
   ·exact ⟨by omega,fun i hi=>by rcases Nat.lt_succ_iff_lt_or_eq.1 hi with h1 | rfl;exact hno i h1;exact fun hh=>absurd (hh.1.symm.trans hb19) (by decide),hEl⟩
   ·first | omega |(dsimp only;omega)
 ·replace hc12:¬(k<n_l):=by have:=zad hc12;omega
  refine zf (zb (zh (zP (zq (zq (zH (zb (ze (zd ?_)))))))))
  exact zc 1 [(6,vF)] (zf (zb (zj (zl vF (⟨congrArg (fun z:Bool=>Value.bool z) (Bool.eq_false_iff.2 (fun hh=>by obtain ⟨i,h1,h2,h3⟩:=zeb.1 hh;exact hno i (by omega) ⟨h2,h3⟩)).symm,(hEw1.trans hEl)⟩)))))
end Go.Proofs.YtkmhgepdhilllaaGreatDoor
namespace Go.Proofs.YtkmhgepdhilllaaGreatDoor
open Go Go.RowKit Go.Cs
set_option maxRecDepth 100000
theorem zkQ {lo_l hi_l:Nat} {a_l:Option Addr} {n_l c_l:Nat} {l:List Rec} {lo_c hi_c:Nat} {a_c:Option Addr} {n_c c_c:Nat} {c:List Bool} {lo_s hi_s:Nat} {a_s:Option Addr} {n_s c_s:Nat} {s:List Nat} (w:World) (h_l:Ms zM 35 lo_l hi_l w a_l n_l c_l l) (h_c:Es Value.bool lo_c hi_c w a_c n_c c_c c) (h_s:Es (nv .i64) lo_s hi_s w a_s n_s c_s s) (hp0:n_c=n_l) (hp1:n_s=tot n_l) (hp2:1≤n_l) (hp3:n_l≤4096) (hp4:∀i,s.getD i 0≤1):
  Calls Tryz.prog 38 #[(vA [(.slice a_l n_l c_l),(.slice a_c n_c c_c),(.slice a_s n_s c_s)])] w (Ret fun r w'=>∃a0 ca0,r=(.slice a0 (tot n_l) ca0)∧Cs.Own (nv .i64) w.heap.size w'.heap.size w' a0 (tot n_l) ca0 3 (zaQ n_l c s)∧Ext w w'):=by
 refine zD (n:=41) (σ:= [(0,(vA [(.slice a_l n_l c_l),(.slice a_c n_c c_c),(.slice a_s n_s c_s)]))]) Tryz.func38 rfl ?_
 replace h_l:=h_l.now;have hle_l:=h_l.le
 replace h_c:=h_c.now;have hle_c:=h_c.le
 replace h_s:=h_s.now;have hle_s:=h_s.le
 have hll:=h_l.len_eq;have hlc:=h_c.len_eq;have hls:=h_s.len_eq
 have hle:=h_l.le;have hle2:=h_c.le;have hle3:=h_s.le
 have h5:=zar n_l
 have hts:=zaB hp3
 have htt:=zcF hp2 hp3
 refine ze (zd (za (zaa (Instr.box 34 (vA [(.slice a_l n_l c_l),(.slice a_c n_c c_c),(.slice a_s n_s c_s)])) (vP w.heap.size 0) ([(.slice a_l n_l c_l),(.slice a_c n_c c_c),(.slice a_s n_s c_s)]) 34 ?_)))
 intro w1 hBw1 hEw1 hzw1 hlw1
 refine zc 1 [(2,(.slice none 0 0))] (zf (zb (ze (zd (zc 1 [(8,(vP w.heap.size 0))] (za (zm w.heap.size 0 (hBw1.cell rfl) ?_)))))))
 refine zc 2 [(3,(vI n_l)),(10,(vI n_l))] (zf (zb (ze (zd (zc 1 [(4,(.slice none 0 0))] (zf (zb (ze (ze ?_)))))))))
 refine zd (zc 1 [(5,(vI 0))] (zf (zb (zr (zU (X:=Nat×Option Addr×Nat) (fun ⟨v,ao,cp⟩=> [(4,(.slice ao (num n_l v) cp)),(5,(vI v))]) [6,7,11,12,13,14,15,16,17,18,19,20,21,22,23,24,25,26,27,28,29,30,31,32,33,34,35,36,37,38,39] (fun ⟨v,ao,cp⟩ w2=>v≤hgt n_l+1∧Cs.Own (nv .i64) w1.heap.size w2.heap.size w2 ao (num n_l v) cp 3 (TXp n_l (zdQ n_l c s) v)∧Ext w1 w2) (fun ⟨v,ao,cp⟩=>hgt n_l+1-v) (0,none,0) (by kernel_rfl) ⟨by omega,Cs.Own.nil _ _ _ _ _,(Ext.refl _)⟩ ?_)))))
 rintro ⟨v,ao,cp⟩ dw2 w2 ⟨hv,hO,hEl⟩
 have hzl:=hEl.size
 have hns:=zbP (n:=n_l) (l:=v) hp3 (by omega)
 have hcnv:=zbq n_l v
 refine ze (ze (zd (zc 2 [(12,(vI n_l)),(11,(vI v))] (za (zp (zgj n_l _ (by omega) (by omega)) ?_)))))
 rintro _ _ ⟨rfl,rfl⟩
 refine za (zF (some 14) (decide (((v:Nat):Int)≤((hgt n_l:Nat):Int))) (fun hc14=> ?_) (fun hc14=> ?_))
 ·replace hc14:v≤hgt n_l:=by have:=zac hc14;omega
  refine zf (zb (zv (zk (zb (ze (zr (ze (zd (zc 1 [(6,(vI 0))] ?_)))))))))
  refine zf (zb (zr (zU (X:=Nat×Option Addr×Nat) (fun ⟨j,ap,cq⟩=> [(4,(.slice ap (num n_l v+j) cq)),(6,(vI j))]) [7,17,18,19,20,21,22,23,24,25,26,27,28,29,30,31,32,33,34,35,36,37,38,39] (fun ⟨j,ap,cq⟩ w3=>j≤cnt n_l v∧Cs.Own (nv .i64) w1.heap.size w3.heap.size w3 ap (num n_l v+j) cq 3 (TXq n_l (zdQ n_l c s) v j)∧Ext w1 w3) (fun ⟨j,ap,cq⟩=>cnt n_l v-j) (0,ao,cp) (by kernel_rfl) ⟨by omega,by rw [zio];exact (hO).now,hEl⟩ ?_)))
  rintro ⟨j,ap,cq⟩ dw3 w3 ⟨hj,hO2,hEm⟩
  have hzm:=hEm.size
  refine ze (ze (zd (zc 3 [(19,(vI v)),(18,(vI n_l)),(17,(vI j))] (za (zp (zfb n_l v _ (by omega) (by omega) (by omega)) ?_)))))
  rintro _ _ ⟨rfl,rfl⟩
  refine za (zF (some 21) (decide (((j:Nat):Int)<((cnt n_l v:Nat):Int))) (fun hc21=> ?_) (fun hc21=> ?_))
  ·replace hc21:j<cnt n_l v:=by have:=zac hc21;omega
   have hjc:j<cnt n_l v:=by omega
   have hpl:=zaG (n:=n_l) (l:=v) (j:=j) (by omega) hjc
   have hs1:gt s (num n_l v+j)≤1:=hp4 _
   have hcnv2:=zbq n_l v
   refine zf (zb (zv (zk (zb (ze (zr (ze (zd (zc 1 [(24,(vP w.heap.size 2))] ?_)))))))))
   refine za (zm w.heap.size 2 ((hBw1.ext hEm).cell rfl) ?_)
   refine zc 2 [(27,(vI (num n_l v+j))),(26,(.slice ap (num n_l v+j) cq))] ?_
   obtain ⟨b1,o1,rfl⟩:=h_s.addr (by omega)
   refine za (zah b1 o1 n_s c_s (num n_l v+j) 1 ?_)
   refine za (zm b1 (o1+(num n_l v+j)*1) (((h_s.ext hEw1).ext hEm).celln (by omega)) ?_)
   refine zc 1 [(7,(vI (gt s (num n_l v+j))))] (zf (zb (ze (ze (zd (za (zO w.heap.size 0 ((hBw1.ext hEm).all) ?_)))))))
   refine zc 2 [(32,(vI j)),(31,(vI v))] ?_
   rcases (show drt c v j=true∨drt c v j=false by cases drt c v j<;>simp) with he | he
   ·refine za (zp (zhu v j _ ((h_l.ext hEw1).ext hEm) ((h_c.ext hEw1).ext hEm) ((h_s.ext hEw1).ext hEm) (by omega) (by omega) (by omega)) ?_)
    rintro _ w4 ⟨rfl,hEw4⟩
    have hzw4:=hEw4.size
    rw [show drt c v j=true from he]
    refine zf (zb (zv (zd (zc 1 [(34,(vI (gt s (num n_l v+j))))] (za (zo (some 35) .i64 (IntKind.i64.wrap (((1:Nat):Int)-((gt s (num n_l v+j):Nat):Int))) (1-gt s (num n_l v+j)) (zu) ?_))))))
    refine zc 1 [(7,(vI (1-gt s (num n_l v+j))))] (zf (zb (zd (zc 2 [(37,(vI (1-gt s (num n_l v+j)))),(36,(.slice ap (num n_l v+j) cq))] (za (zaa (Instr.buildSlice 29 1 #[(0,(vI (1-gt s (num n_l v+j))))]) (.slice (pA w4.heap.size 0) 1 1) [(vI (1-gt s (num n_l v+j)))] 3 ?_))))))
    intro w5 hBw5 hEw5 hzw5 hlw5
    have hSw5:Es (nv .i64) w4.heap.size (w4.heap.size+1) w5 (pA w4.heap.size 0) 1 1 ([1-gt s (num n_l v+j)]):=Es.of_blk hBw5 rfl rfl (Nat.le_refl _) (by decide) (Nat.le_refl _) (Nat.lt_succ_self _)
    refine za (zbo (some 39) 29 29 3 8 (vI 0) ((hO2.ext hEw4).ext hEw5) hSw5 (fun _=>rfl) ?_)
    intro a1 c1 w6 hOw6 hCw6
    have hzw6:=hCw6.size
    have hSw6:=hOw6.es
    refine zc 1 [(4,(.slice a1 (num n_l v+j+1) c1))] (zf (zi (zb (zd (zc 1 [(22,(vI j))] (za (zo (some 23) .i64 (IntKind.i64.wrap (((j:Nat):Int)+((1:Nat):Int))) (j+1) (zu) ?_)))))))
    refine zc 1 [(6,(vI (j+1)))] (zf (zz ?_))
    have hX1:Ext w1 w6:=(Ext.ownS ((hEm.trans hEw4).trans hEw5) hCw6 (fun k hs hk=>by have hn:=((hO2.ext hEw4).ext hEw5).ne hs;omega))
    refine zL (j+1,a1,c1) ?_ ?_
    ·exact ⟨by omega,by rw [zcz,show zdQ n_l c s v j=_ from if_pos he];exact (hOw6).now,hX1⟩
    ·first | omega |(dsimp only;omega)
   ·refine za (zp (zhu v j _ ((h_l.ext hEw1).ext hEm) ((h_c.ext hEw1).ext hEm) ((h_s.ext hEw1).ext hEm) (by omega) (by omega) (by omega)) ?_)
    rintro _ w7 ⟨rfl,hEw7⟩
    have hzw7:=hEw7.size
    rw [show drt c v j=false from he]
    refine zf (zb (zh (zk (zb (zd (zc 2 [(37,(vI (gt s (num n_l v+j)))),(36,(.slice ap (num n_l v+j) cq))] (za (zaa (Instr.buildSlice 29 1 #[(0,(vI (gt s (num n_l v+j))))]) (.slice (pA w7.heap.size 0) 1 1) [(vI (gt s (num n_l v+j)))] 3 ?_))))))))
    intro w8 hBw8 hEw8 hzw8 hlw8
    have hSw8:Es (nv .i64) w7.heap.size (w7.heap.size+1) w8 (pA w7.heap.size 0) 1 1 ([gt s (num n_l v+j)]):=Es.of_blk hBw8 rfl rfl (Nat.le_refl _) (by decide) (Nat.le_refl _) (Nat.lt_succ_self _)
    refine za (zbo (some 39) 29 29 3 8 (vI 0) ((hO2.ext hEw7).ext hEw8) hSw8 (fun _=>rfl) ?_)
    intro a2 c2 w9 hOw9 hCw9
    have hzw9:=hCw9.size
    have hSw9:=hOw9.es
    refine zc 1 [(4,(.slice a2 (num n_l v+j+1) c2))] (zf (zi (zb (zd (zc 1 [(22,(vI j))] (za (zo (some 23) .i64 (IntKind.i64.wrap (((j:Nat):Int)+((1:Nat):Int))) (j+1) (zu) ?_)))))))
    refine zc 1 [(6,(vI (j+1)))] (zf (zz ?_))
    have hX2:Ext w1 w9:=(Ext.ownS ((hEm.trans hEw7).trans hEw8) hCw9 (fun k hs hk=>by have hn:=((hO2.ext hEw7).ext hEw8).ne hs;omega))
    refine zL (j+1,a2,c2) ?_ ?_
    ·exact ⟨by omega,by rw [zcz,show zdQ n_l c s v j=_ from if_neg (by rw [he];decide)];exact (hOw9).now,hX2⟩
    ·first | omega |(dsimp only;omega)
  ·replace hc21:¬(j<cnt n_l v):=by have:=zad hc21;omega
   obtain rfl:j=cnt n_l v:=by omega
   refine zf (zb (zh (zP (zq (zq (zH (zi (zb (zd ?_)))))))))
   refine zc 1 [(15,(vI v))] (za (zo (some 16) .i64 (IntKind.i64.wrap (((v:Nat):Int)+((1:Nat):Int))) (v+1) (zu) ?_))
   refine zc 1 [(5,(vI (v+1)))] (zf (zz (zL (v+1,ap,cq) ?_ ?_)))
   ·exact ⟨by omega,by rw [←zjv];exact (hO2).now,hEm⟩
   ·first | omega |(dsimp only;omega)
 ·replace hc14:¬(v≤hgt n_l):=by have:=zad hc14;omega
  refine zf (zb (zh (zP (zq (zq (zH (zb (ze (zd ?_)))))))))
  refine zc 2 [(2,(.slice ao (num n_l v) cp)),(40,(.slice ao (num n_l v) cp))] (zf (zb (zj (zl (.slice ao (num n_l v) cp) ?_))))
  obtain rfl:v=hgt n_l+1:=by omega
  exact ⟨_,_,rfl,((hO).mono (by omega) (Nat.le_refl _)).now,(hEw1.trans hEl)⟩
theorem ztb {lo_l hi_l:Nat} {a_l:Option Addr} {n_l c_l:Nat} {l:List Rec} {lo_c hi_c:Nat} {a_c:Option Addr} {n_c c_c:Nat} {c:List Bool} {lo_s hi_s:Nat} {a_s:Option Addr} {n_s c_s:Nat} {s:List Nat} (w:World) (h_l:Ms zM 35 lo_l hi_l w a_l n_l c_l l) (h_c:Es Value.bool lo_c hi_c w a_c n_c c_c c) (h_s:Es (nv .i64) lo_s hi_s w a_s n_s c_s s) (hp0:n_c=n_l) (hp1:n_s=tot n_l) (hp2:1≤n_l) (hp3:n_l≤4096) (hp4:∀i,s.getD i 0≤1):
  Calls Tryz.prog 16 #[(vA [(.slice a_l n_l c_l),(.slice a_c n_c c_c),(.slice a_s n_s c_s)])] w (Ret fun r w'=>∃a0 ca0 a1 ca1 a2 ca2,r=(vA [(.slice a0 n_l ca0),(.slice a1 n_l ca1),(.slice a2 (tot n_l) ca2)])∧Ms zM 35 w.heap.size w'.heap.size w' a0 n_l ca0 l∧Es Value.bool w.heap.size w'.heap.size w' a1 n_l ca1 (fls n_l)∧Es (nv .i64) w.heap.size w'.heap.size w' a2 (tot n_l) ca2 (zcT n_l c s)∧Ext w w'):=by
 refine zD (n:=25) (σ:= [(0,(vA [(.slice a_l n_l c_l),(.slice a_c n_c c_c),(.slice a_s n_s c_s)]))]) Tryz.func16 rfl ?_
 replace h_l:=h_l.now;have hle_l:=h_l.le
 replace h_c:=h_c.now;have hle_c:=h_c.le
 replace h_s:=h_s.now;have hle_s:=h_s.le
 have hll:=h_l.len_eq;have hlc:=h_c.len_eq;have hls:=h_s.len_eq
 have hle:=h_l.le;have hle2:=h_c.le;have hle3:=h_s.le
 have h5:=zar n_l
 have hts:=zaB hp3
 have htt:=zcF hp2 hp3
 have hs1:gt s (tot n_l-1)≤1:=hp4 _
 refine ze (zd (za (zaa (Instr.box 34 (vA [(.slice a_l n_l c_l),(.slice a_c n_c c_c),(.slice a_s n_s c_s)])) (vP w.heap.size 0) ([(.slice a_l n_l c_l),(.slice a_c n_c c_c),(.slice a_s n_s c_s)]) 34 ?_)))
 intro w1 hBw1 hEw1 hzw1 hlw1
 refine za (zaf ([(.slice none 0 0),(.slice none 0 0),(.slice none 0 0)]) 34 ?_)
 intro w2 hBw2 hEw2 hzw2 hlw2
 refine zf (zb (ze (zab 7 (fun w3 hEw3 hzw3 hT114=> ?_))))
 refine zg hT114 [(0,5,(vP w.heap.size 0))] 1 (zA hT114 1 w.heap.size 0 (fun w' hC=>((((hBw1.ext hEw2).ext hEw3).ext hC).cell rfl)) (zaO hT114 2 w.heap.size 0 (fun w' hC=>((((hBw1.ext hEw2).ext hEw3).ext hC).all)) (zbt 3 5 ?_ ?_)))
 ·have hK1:=(((h_l.ext hEw1).ext hEw2).ext hEw3)
  have hK2:=(((h_c.ext hEw1).ext hEw2).ext hEw3)
  have hK3:=(((h_s.ext hEw1).ext hEw2).ext hEw3)
  refine zp (zkQ _ hK1 hK2 hK3 (by first | omega | decide) (by first | omega | decide) (by first | omega | decide) (by first | omega | decide) (by assumption)) ?_
  rintro _ w4 ⟨a1,ca1,rfl,hFz1_0,hEw4⟩
  have hzw4:=hEw4.size
  have hma1:=hFz1_0.es;have hlea1:=hma1.le
  refine ⟨.inr hEw4, ?_⟩
  refine zbt 4 5 ?_ ?_
  ·refine zp (zhj _ (hK1.ext hEw4) hma1 (by first | omega | decide) (by first | omega | decide)) ?_
   rintro _ w5 ⟨a2a,a2c,a2b,a2d,a2e,a2p,a2q,a2r,a2s,rfl,hFz2_0,hFz2_1,hFz2_2,hFz2_3,hEw5⟩
   have hzw5:=hEw5.size
   have hma2:=hFz2_1.ms;have hlea2:=hma2.le;have hla2:=hFz2_2.lt;have hna2:=hFz2_3.es;have hle2a2:=hna2.le
   have hba2:Es Value.bool a2b (a2b+1) w5 (pA a2b 0) n_l n_l (fls n_l):=Es.of_blk hFz2_2 rfl (by simp [fls]) (Nat.le_refl _) (by simp only [maxLen];omega) (Nat.le_refl _) (Nat.lt_succ_self _)
   have hX1:Ext w3 w5:=(hEw4.trans hEw5)
   refine ⟨.inr hX1, ?_⟩
   refine zx 5 (zaf ([(.slice none 0 0),(.slice none 0 0),(.slice none 0 0)]) 34 ?_)
   intro w6 hBw6 hEw6 hzw6 hlw6
   have hX2:Ext w3 w6:=((hEw4.trans hEw5).trans hEw6)
   refine ⟨.inr hX2, ?_⟩
   refine zx 6 (zG 34 w5.heap.size 0 34 (vA [(.slice a2a n_l a2c),(.slice (pA a2b 0) n_l n_l),(.slice a2d (tot n_l) a2e)]) ([(.slice none 0 0),(.slice none 0 0),(.slice none 0 0)]) ([(.slice a2a n_l a2c),(.slice (pA a2b 0) n_l n_l),(.slice a2d (tot n_l) a2e)]) hBw6 (by kernel_rfl) (by first | decide |(simp;done)|(simp;omega)) (by simp [Value.oneCell']) ?_)
   intro w7 hBw7 hCw7
   have hzw7:=hCw7.size
   rw [zy _ _ (by kernel_rfl)] at hBw7
   refine ⟨.inl (by kernel_rfl), ?_⟩
   refine zE (zb (ze (zd (zc 1 [(10,(vP w5.heap.size 2))] (za (zm w5.heap.size 2 (hBw7.cell rfl) ?_))))))
   refine zc 1 [(12,(vI (tot n_l)))] (za (zo (some 13) .i64 (IntKind.i64.wrap ((((tot n_l):Nat):Int)-((1:Nat):Int))) (tot n_l-1) (zu) ?_))
   refine zc 1 [(4,(vI (tot n_l-1)))] (zf (zb (ze (zab 11 (fun w8 hEw8 hzw8 hT156=> ?_)))))
   refine zg hT156 [(0,14,(vP w5.heap.size 2))] 1 (zA hT156 1 w5.heap.size 2 (fun w' hC=>(((hBw7.ext hEw8).ext hC).cell rfl)) (zg hT156 [(2,16,(vI (tot n_l-1))),(3,17,(vP w.heap.size 2))] 2 ?_))
   have hK4:=(((((((hBw1.ext hEw2).ext hEw3).ext hEw4).ext hEw5).ext hEw6).chg hCw7).ext hEw8)
   refine zA hT156 4 w.heap.size 2 (fun w' hC=>((hK4.ext hC).cell rfl)) (zg hT156 [(5,19,(vI (tot n_l-1)))] 1 ?_)
   obtain ⟨b1,o1,rfl⟩:=hK3.addr (by omega)
   refine zas hT156 6 b1 o1 n_s c_s (tot n_l-1) 1 ?_
   have hK5:=(((((hK3.ext hEw4).ext hEw5).ext hEw6).chg hCw7).ext hEw8)
   refine zA hT156 7 b1 (o1+(tot n_l-1)*1) (fun w' hC=>((hK5.ext hC).celln (by omega))) (zn hT156 8 (vI (1-gt s (tot n_l-1))) (zY .i64 (IntKind.i64.wrap (((1:Nat):Int)-((gt s (tot n_l-1):Nat):Int))) (zu)) ?_)
   have hK6:=(((hFz2_3.ext hEw6).chg hCw7).ext hEw8)
   have hqb2:=hK6.len_eq
   obtain ⟨b2,r1,rfl,hBb2,hrb2,hlob2,hhib2,hcpb2,hmxb2⟩:=hK6.row_of (by omega)
   have hlb2:=hBb2.lt
   refine zas hT156 9 b2 0 (tot n_l) a2e (tot n_l-1) 1 (zx 10 (zaj 3 b2 (0+(tot n_l-1)*1) 3 (vI (1-gt s (tot n_l-1))) (((zaQ n_l c s)).map (nv .i64)++r1) hBb2 (by rw [List.length_append,List.length_map,zcn];omega) ?_))
   intro w9 hBw9 hCw9
   have hzw9:=hCw9.size
   rw [show ((((zaQ n_l c s)).map (nv .i64)++r1).set (0+(tot n_l-1)*1) (vI (1-gt s (tot n_l-1))):List Value)=(zcT n_l c s).map (nv .i64)++r1 from by rw [Nat.zero_add,Nat.mul_one,List.set_append_left _ _ (by rw [List.length_map,zcn];omega)];exact congrArg (· ++r1) (by rw [←ziF hp2 hp3,List.map_set];rfl)] at hBw9
   refine ⟨.inl (by kernel_rfl), ?_⟩
   refine zE (zb (ze (zd (za (zO w5.heap.size 0 (((hBw7.ext hEw8).chg hCw9).all) ?_)))))
   have hK7:=(((((((hBw2.ext hEw3).ext hEw4).ext hEw5).ext hEw6).chg hCw7).ext hEw8).chg hCw9)
   refine za (zG 34 w1.heap.size 0 34 (vA [(.slice a2a n_l a2c),(.slice (pA a2b 0) n_l n_l),(.slice (pA b2 0) (tot n_l) a2e)]) ([(.slice none 0 0),(.slice none 0 0),(.slice none 0 0)]) ([(.slice a2a n_l a2c),(.slice (pA a2b 0) n_l n_l),(.slice (pA b2 0) (tot n_l) a2e)]) hK7 (by kernel_rfl) (by first | decide |(simp;done)|(simp;omega)) (by simp [Value.oneCell']) ?_)
   have hK8:=(((((((hBw2.ext hEw3).ext hEw4).ext hEw5).ext hEw6).chg hCw7).ext hEw8).chg hCw9)
   intro w10 hBw10 hCw10
   have hzw10:=hCw10.size
   rw [zy _ _ (by kernel_rfl)] at hBw10
   refine zf (zb (zj (zaJ (show zX Tryz.prog 25 _ _ (.cell 2 34) (vA [(.slice a2a n_l a2c),(.slice (pA a2b 0) n_l n_l),(.slice (pA b2 0) (tot n_l) a2e)]) from ⟨⟨w1.heap.size,0,none⟩,(by kernel_rfl),zI (T:=34) (vs:= [(.slice a2a n_l a2c),(.slice (pA a2b 0) n_l n_l),(.slice (pA b2 0) (tot n_l) a2e)]) (hBw10).all (by kernel_rfl)⟩) ?_)))
   have hK9:=(((((hma2.ext hEw6).chg hCw7).ext hEw8).chg hCw9).chg hCw10)
   have hK10:=(((((hba2.ext hEw6).chg hCw7).ext hEw8).chg hCw9).chg hCw10)
   have hz1:=hK9;have hz2:=hK10;have hz3:=(hBw9.chg hCw10)
   have hX3:Ext w w10:=(Ext.own (Ext.own ((Ext.own (((((hEw1.trans hEw2).trans hEw3).trans hEw4).trans hEw5).trans hEw6) hCw7 (by omega)).trans hEw8) hCw9 (by omega)) hCw10 (by omega))
   exact ⟨_,_,_,_,_,_,rfl,hz1.now.mono (by omega) (Nat.le_refl _),hz2.now.mono (by omega) (Nat.le_refl _),(Es.of_pre hz3 (by rw [ze5]) (by omega) (by simp only [maxLen] at*;omega) (Nat.le_refl _) (Nat.lt_succ_self _)).now.mono (by omega) (Nat.le_refl _),hX3⟩
  ·refine zaf ([(.slice none 0 0),(.slice none 0 0),(.slice none 0 0)]) 34 ?_
   intro w11 hBw11 hEw11 hzw11 hlw11
   have hX4:Ext w3 w11:=(hEw4.trans hEw11)
   refine ⟨.inr hX4, ?_⟩
   refine zx 4 (zp (zhj _ ((hK1.ext hEw4).ext hEw11) (hma1.ext hEw11) (by first | omega | decide) (by first | omega | decide)) ?_)
   rintro _ w12 ⟨a3a,a3c,a3b,a3d,a3e,a3p,a3q,a3r,a3s,rfl,hFz3_0,hFz3_1,hFz3_2,hFz3_3,hEw12⟩
   have hzw12:=hEw12.size
   have hma3:=hFz3_1.ms;have hlea3:=hma3.le;have hla3:=hFz3_2.lt;have hna3:=hFz3_3.es;have hle2a3:=hna3.le
   have hba3:Es Value.bool a3b (a3b+1) w12 (pA a3b 0) n_l n_l (fls n_l):=Es.of_blk hFz3_2 rfl (by simp [fls]) (Nat.le_refl _) (by simp only [maxLen];omega) (Nat.le_refl _) (Nat.lt_succ_self _)
   have hX5:Ext w3 w12:=((hEw4.trans hEw11).trans hEw12)
   refine ⟨.inr hX5, ?_⟩
   refine zx 6 (zG 34 w4.heap.size 0 34 (vA [(.slice a3a n_l a3c),(.slice (pA a3b 0) n_l n_l),(.slice a3d (tot n_l) a3e)]) ([(.slice none 0 0),(.slice none 0 0),(.slice none 0 0)]) ([(.slice a3a n_l a3c),(.slice (pA a3b 0) n_l n_l),(.slice a3d (tot n_l) a3e)]) (hBw11.ext hEw12) (by kernel_rfl) (by first | decide |(simp;done)|(simp;omega)) (by simp [Value.oneCell']) ?_)
   intro w13 hBw13 hCw13
   have hzw13:=hCw13.size
   rw [zy _ _ (by kernel_rfl)] at hBw13
   refine ⟨.inl (by kernel_rfl), ?_⟩
   refine zE (zb (ze (zd (zc 1 [(10,(vP w4.heap.size 2))] (za (zm w4.heap.size 2 (hBw13.cell rfl) ?_))))))
   refine zc 1 [(12,(vI (tot n_l)))] (za (zo (some 13) .i64 (IntKind.i64.wrap ((((tot n_l):Nat):Int)-((1:Nat):Int))) (tot n_l-1) (zu) ?_))
   refine zc 1 [(4,(vI (tot n_l-1)))] (zf (zb (ze (zab 11 (fun w14 hEw14 hzw14 hT226=> ?_)))))
   refine zg hT226 [(0,14,(vP w4.heap.size 2))] 1 (zA hT226 1 w4.heap.size 2 (fun w' hC=>(((hBw13.ext hEw14).ext hC).cell rfl)) (zg hT226 [(2,16,(vI (tot n_l-1))),(3,17,(vP w.heap.size 2))] 2 ?_))
   have hK11:=(((((((hBw1.ext hEw2).ext hEw3).ext hEw4).ext hEw11).ext hEw12).chg hCw13).ext hEw14)
   refine zA hT226 4 w.heap.size 2 (fun w' hC=>((hK11.ext hC).cell rfl)) (zg hT226 [(5,19,(vI (tot n_l-1)))] 1 ?_)
   obtain ⟨b3,o2,rfl⟩:=hK3.addr (by omega)
   refine zas hT226 6 b3 o2 n_s c_s (tot n_l-1) 1 ?_
   have hK12:=(((((hK3.ext hEw4).ext hEw11).ext hEw12).chg hCw13).ext hEw14)
   refine zA hT226 7 b3 (o2+(tot n_l-1)*1) (fun w' hC=>((hK12.ext hC).celln (by omega))) (zn hT226 8 (vI (1-gt s (tot n_l-1))) (zY .i64 (IntKind.i64.wrap (((1:Nat):Int)-((gt s (tot n_l-1):Nat):Int))) (zu)) ?_)
   have hqb4:=((hFz3_3.chg hCw13).ext hEw14).len_eq
   obtain ⟨b4,r2,rfl,hBb4,hrb4,hlob4,hhib4,hcpb4,hmxb4⟩:=((hFz3_3.chg hCw13).ext hEw14).row_of (by omega)
   have hlb4:=hBb4.lt
   refine zas hT226 9 b4 0 (tot n_l) a3e (tot n_l-1) 1 (zx 10 (zaj 3 b4 (0+(tot n_l-1)*1) 3 (vI (1-gt s (tot n_l-1))) (((zaQ n_l c s)).map (nv .i64)++r2) hBb4 (by rw [List.length_append,List.length_map,zcn];omega) ?_))
   intro w15 hBw15 hCw15
   have hzw15:=hCw15.size
   rw [show ((((zaQ n_l c s)).map (nv .i64)++r2).set (0+(tot n_l-1)*1) (vI (1-gt s (tot n_l-1))):List Value)=(zcT n_l c s).map (nv .i64)++r2 from by rw [Nat.zero_add,Nat.mul_one,List.set_append_left _ _ (by rw [List.length_map,zcn];omega)];exact congrArg (· ++r2) (by rw [←ziF hp2 hp3,List.map_set];rfl)] at hBw15
   refine ⟨.inl (by kernel_rfl), ?_⟩
   refine zE (zb (ze (zd (za (zO w4.heap.size 0 (((hBw13.ext hEw14).chg hCw15).all) ?_)))))
   have hK13:=(((((((hBw2.ext hEw3).ext hEw4).ext hEw11).ext hEw12).chg hCw13).ext hEw14).chg hCw15)
   refine za (zG 34 w1.heap.size 0 34 (vA [(.slice a3a n_l a3c),(.slice (pA a3b 0) n_l n_l),(.slice (pA b4 0) (tot n_l) a3e)]) ([(.slice none 0 0),(.slice none 0 0),(.slice none 0 0)]) ([(.slice a3a n_l a3c),(.slice (pA a3b 0) n_l n_l),(.slice (pA b4 0) (tot n_l) a3e)]) hK13 (by kernel_rfl) (by first | decide |(simp;done)|(simp;omega)) (by simp [Value.oneCell']) ?_)
   have hK14:=(((((((hBw2.ext hEw3).ext hEw4).ext hEw11).ext hEw12).chg hCw13).ext hEw14).chg hCw15)
   intro w16 hBw16 hCw16
   have hzw16:=hCw16.size
   rw [zy _ _ (by kernel_rfl)] at hBw16
   refine zf (zb (zj (zaJ (show zX Tryz.prog 25 _ _ (.cell 2 34) (vA [(.slice a3a n_l a3c),(.slice (pA a3b 0) n_l n_l),(.slice (pA b4 0) (tot n_l) a3e)]) from ⟨⟨w1.heap.size,0,none⟩,(by kernel_rfl),zI (T:=34) (vs:= [(.slice a3a n_l a3c),(.slice (pA a3b 0) n_l n_l),(.slice (pA b4 0) (tot n_l) a3e)]) (hBw16).all (by kernel_rfl)⟩) ?_)))
   have hK15:=((((hma3.chg hCw13).ext hEw14).chg hCw15).chg hCw16)
   have hK16:=((((hba3.chg hCw13).ext hEw14).chg hCw15).chg hCw16)
   have hz1:=hK15;have hz2:=hK16;have hz3:=(hBw15.chg hCw16)
   have hX6:Ext w w16:=(Ext.own (Ext.own ((Ext.own (((((hEw1.trans hEw2).trans hEw3).trans hEw4).trans hEw11).trans hEw12) hCw13 (by omega)).trans hEw14) hCw15 (by omega)) hCw16 (by omega))
   exact ⟨_,_,_,_,_,_,rfl,hz1.now.mono (by omega) (Nat.le_refl _),hz2.now.mono (by omega) (Nat.le_refl _),(Es.of_pre hz3 (by rw [ze5]) (by omega) (by simp only [maxLen] at*;omega) (Nat.le_refl _) (Nat.lt_succ_self _)).now.mono (by omega) (Nat.le_refl _),hX6⟩
 ·refine zaf ([(.slice none 0 0),(.slice none 0 0),(.slice none 0 0)]) 34 ?_
  intro w17 hBw17 hEw17 hzw17 hlw17
  refine ⟨.inr hEw17, ?_⟩
  have hK17:=((((h_l.ext hEw1).ext hEw2).ext hEw3).ext hEw17)
  have hK18:=((((h_c.ext hEw1).ext hEw2).ext hEw3).ext hEw17)
  have hK19:=((((h_s.ext hEw1).ext hEw2).ext hEw3).ext hEw17)
  refine zx 3 (zp (zkQ _ hK17 hK18 hK19 (by first | omega | decide) (by first | omega | decide) (by first | omega | decide) (by first | omega | decide) (by assumption)) ?_)
  rintro _ w18 ⟨a4,ca4,rfl,hFz4_0,hEw18⟩
  have hzw18:=hEw18.size
  have hma4:=hFz4_0.es;have hlea4:=hma4.le
  have hX7:Ext w3 w18:=(hEw17.trans hEw18)
  refine ⟨.inr hX7, ?_⟩
  refine zx 4 (zp (zhj _ (hK17.ext hEw18) hma4 (by first | omega | decide) (by first | omega | decide)) ?_)
  rintro _ w19 ⟨a5a,a5c,a5b,a5d,a5e,a5p,a5q,a5r,a5s,rfl,hFz5_0,hFz5_1,hFz5_2,hFz5_3,hEw19⟩
  have hzw19:=hEw19.size
  have hma5:=hFz5_1.ms;have hlea5:=hma5.le;have hla5:=hFz5_2.lt;have hna5:=hFz5_3.es;have hle2a5:=hna5.le
  have hba5:Es Value.bool a5b (a5b+1) w19 (pA a5b 0) n_l n_l (fls n_l):=Es.of_blk hFz5_2 rfl (by simp [fls]) (Nat.le_refl _) (by simp only [maxLen];omega) (Nat.le_refl _) (Nat.lt_succ_self _)
  have hX8:Ext w3 w19:=((hEw17.trans hEw18).trans hEw19)
  refine ⟨.inr hX8, ?_⟩
  refine zx 6 (zG 34 w3.heap.size 0 34 (vA [(.slice a5a n_l a5c),(.slice (pA a5b 0) n_l n_l),(.slice a5d (tot n_l) a5e)]) ([(.slice none 0 0),(.slice none 0 0),(.slice none 0 0)]) ([(.slice a5a n_l a5c),(.slice (pA a5b 0) n_l n_l),(.slice a5d (tot n_l) a5e)]) ((hBw17.ext hEw18).ext hEw19) (by kernel_rfl) (by first | decide |(simp;done)|(simp;omega)) (by simp [Value.oneCell']) ?_)
  intro w20 hBw20 hCw20
  have hzw20:=hCw20.size
  rw [zy _ _ (by kernel_rfl)] at hBw20
  refine ⟨.inl (by kernel_rfl), ?_⟩
  refine zE (zb (ze (zd (zc 1 [(10,(vP w3.heap.size 2))] (za (zm w3.heap.size 2 (hBw20.cell rfl) ?_))))))
  refine zc 1 [(12,(vI (tot n_l)))] (za (zo (some 13) .i64 (IntKind.i64.wrap ((((tot n_l):Nat):Int)-((1:Nat):Int))) (tot n_l-1) (zu) ?_))
  refine zc 1 [(4,(vI (tot n_l-1)))] (zf (zb (ze (zab 11 (fun w21 hEw21 hzw21 hT303=> ?_)))))
  refine zg hT303 [(0,14,(vP w3.heap.size 2))] 1 (zA hT303 1 w3.heap.size 2 (fun w' hC=>(((hBw20.ext hEw21).ext hC).cell rfl)) (zg hT303 [(2,16,(vI (tot n_l-1))),(3,17,(vP w.heap.size 2))] 2 ?_))
  have hK20:=(((((((hBw1.ext hEw2).ext hEw3).ext hEw17).ext hEw18).ext hEw19).chg hCw20).ext hEw21)
  refine zA hT303 4 w.heap.size 2 (fun w' hC=>((hK20.ext hC).cell rfl)) (zg hT303 [(5,19,(vI (tot n_l-1)))] 1 ?_)
  obtain ⟨b5,o3,rfl⟩:=hK19.addr (by omega)
  refine zas hT303 6 b5 o3 n_s c_s (tot n_l-1) 1 ?_
  have hK21:=((((hK19.ext hEw18).ext hEw19).chg hCw20).ext hEw21)
  refine zA hT303 7 b5 (o3+(tot n_l-1)*1) (fun w' hC=>((hK21.ext hC).celln (by omega))) (zn hT303 8 (vI (1-gt s (tot n_l-1))) (zY .i64 (IntKind.i64.wrap (((1:Nat):Int)-((gt s (tot n_l-1):Nat):Int))) (zu)) ?_)
  have hqb6:=((hFz5_3.chg hCw20).ext hEw21).len_eq
  obtain ⟨b6,r3,rfl,hBb6,hrb6,hlob6,hhib6,hcpb6,hmxb6⟩:=((hFz5_3.chg hCw20).ext hEw21).row_of (by omega)
  have hlb6:=hBb6.lt
  refine zas hT303 9 b6 0 (tot n_l) a5e (tot n_l-1) 1 (zx 10 (zaj 3 b6 (0+(tot n_l-1)*1) 3 (vI (1-gt s (tot n_l-1))) (((zaQ n_l c s)).map (nv .i64)++r3) hBb6 (by rw [List.length_append,List.length_map,zcn];omega) ?_))
  intro w22 hBw22 hCw22
  have hzw22:=hCw22.size
  rw [show ((((zaQ n_l c s)).map (nv .i64)++r3).set (0+(tot n_l-1)*1) (vI (1-gt s (tot n_l-1))):List Value)=(zcT n_l c s).map (nv .i64)++r3 from by rw [Nat.zero_add,Nat.mul_one,List.set_append_left _ _ (by rw [List.length_map,zcn];omega)];exact congrArg (· ++r3) (by rw [←ziF hp2 hp3,List.map_set];rfl)] at hBw22
  refine ⟨.inl (by kernel_rfl), ?_⟩
  refine zE (zb (ze (zd (za (zO w3.heap.size 0 (((hBw20.ext hEw21).chg hCw22).all) ?_)))))
  have hK22:=(((((((hBw2.ext hEw3).ext hEw17).ext hEw18).ext hEw19).chg hCw20).ext hEw21).chg hCw22)
  refine za (zG 34 w1.heap.size 0 34 (vA [(.slice a5a n_l a5c),(.slice (pA a5b 0) n_l n_l),(.slice (pA b6 0) (tot n_l) a5e)]) ([(.slice none 0 0),(.slice none 0 0),(.slice none 0 0)]) ([(.slice a5a n_l a5c),(.slice (pA a5b 0) n_l n_l),(.slice (pA b6 0) (tot n_l) a5e)]) hK22 (by kernel_rfl) (by first | decide |(simp;done)|(simp;omega)) (by simp [Value.oneCell']) ?_)
  have hK23:=(((((((hBw2.ext hEw3).ext hEw17).ext hEw18).ext hEw19).chg hCw20).ext hEw21).chg hCw22)
  intro w23 hBw23 hCw23
  have hzw23:=hCw23.size
  rw [zy _ _ (by kernel_rfl)] at hBw23
  refine zf (zb (zj (zaJ (show zX Tryz.prog 25 _ _ (.cell 2 34) (vA [(.slice a5a n_l a5c),(.slice (pA a5b 0) n_l n_l),(.slice (pA b6 0) (tot n_l) a5e)]) from ⟨⟨w1.heap.size,0,none⟩,(by kernel_rfl),zI (T:=34) (vs:= [(.slice a5a n_l a5c),(.slice (pA a5b 0) n_l n_l),(.slice (pA b6 0) (tot n_l) a5e)]) (hBw23).all (by kernel_rfl)⟩) ?_)))
  have hK24:=((((hma5.chg hCw20).ext hEw21).chg hCw22).chg hCw23)
  have hK25:=((((hba5.chg hCw20).ext hEw21).chg hCw22).chg hCw23)
  have hz1:=hK24;have hz2:=hK25;have hz3:=(hBw22.chg hCw23)
  have hX9:Ext w w23:=(Ext.own (Ext.own ((Ext.own (((((hEw1.trans hEw2).trans hEw3).trans hEw17).trans hEw18).trans hEw19) hCw20 (by omega)).trans hEw21) hCw22 (by omega)) hCw23 (by omega))
  exact ⟨_,_,_,_,_,_,rfl,hz1.now.mono (by omega) (Nat.le_refl _),hz2.now.mono (by omega) (Nat.le_refl _),(Es.of_pre hz3 (by rw [ze5]) (by omega) (by simp only [maxLen] at*;omega) (Nat.le_refl _) (Nat.lt_succ_self _)).now.mono (by omega) (Nat.le_refl _),hX9⟩
end Go.Proofs.YtkmhgepdhilllaaGreatDoor
namespace Go.Proofs.YtkmhgepdhilllaaGreatDoor
open Go Go.RowKit Go.Cs
set_option maxRecDepth 100000
set_option maxHeartbeats 4000000 in
theorem zic {lo_l hi_l:Nat} {a_l:Option Addr} {n_l c_l:Nat} {l:List Rec} {lo_c hi_c:Nat} {a_c:Option Addr} {n_c c_c:Nat} {c:List Bool} {lo_s hi_s:Nat} {a_s:Option Addr} {n_s c_s:Nat} {s:List Nat} (w:World) (h_l:Ms zM 35 lo_l hi_l w a_l n_l c_l l) (h_c:Es Value.bool lo_c hi_c w a_c n_c c_c c) (h_s:Es (nv .i64) lo_s hi_s w a_s n_s c_s s) (hp0:n_c=n_l) (hp1:n_s=tot n_l) (hp2:1≤n_l) (hp3:n_l≤4096) (hp4:∀i,s.getD i 0≤1):
  Calls Tryz.prog 15 #[(vA [(.slice a_l n_l c_l),(.slice a_c n_c c_c),(.slice a_s n_s c_s)])] w (Ret fun r w'=>∃a1 ca1,r=(vA [(vI n_l),(.slice a1 (tot n_l) ca1)])∧OwM unC 280 w.heap.size w'.heap.size w' a1 (tot n_l) ca1 77 (zaw l c s)∧Ext w w'):=by
 refine zD (n:=82) (σ:= [(0,(vA [(.slice a_l n_l c_l),(.slice a_c n_c c_c),(.slice a_s n_s c_s)]))]) Tryz.func15 rfl ?_
 replace h_l:=h_l.now;have hle_l:=h_l.le
 replace h_c:=h_c.now;have hle_c:=h_c.le
 replace h_s:=h_s.now;have hle_s:=h_s.le
 have hll:=h_l.len_eq;have hlc:=h_c.len_eq;have hls:=h_s.len_eq
 have hle:=h_l.le;have hle2:=h_c.le;have hle3:=h_s.le
 have h5:=zar n_l
 have hts:=zaB hp3
 have htt:=zcF hp2 hp3
 refine ze (zd (za (zaa (Instr.box 34 (vA [(.slice a_l n_l c_l),(.slice a_c n_c c_c),(.slice a_s n_s c_s)])) (vP w.heap.size 0) ([(.slice a_l n_l c_l),(.slice a_c n_c c_c),(.slice a_s n_s c_s)]) 34 ?_)))
 intro w1 hBw1 hEw1 hzw1 hlw1
 refine za (zaf ([(vI 0),(.slice none 0 0)]) 38 ?_)
 intro w2 hBw2 hEw2 hzw2 hlw2
 refine zf (zb (ze (zd (zc 1 [(10,(vP w.heap.size 0))] (za (zm w.heap.size 0 ((hBw1.ext hEw2).cell rfl) ?_))))))
 refine zc 2 [(3,(vI n_l)),(12,(vI n_l))] (zf (zb (ze (zd (zc 2 [(14,(vA [(vI n_l),(.slice none 0 0)])),(13,(vI n_l))] (zal ([(vI n_l),(.slice none 0 0)]) 38 rfl (by simp [Value.oneCell']) ?_))))))
 intro w3 hBw3 hEw3 hzw3 hlw3
 refine zf (zb (ze (zd (za (zO w.heap.size 0 (((hBw1.ext hEw2).ext hEw3).all) ?_)))))
 have hK1:=(((h_l.ext hEw1).ext hEw2).ext hEw3)
 have hK2:=(((h_c.ext hEw1).ext hEw2).ext hEw3)
 have hK3:=(((h_s.ext hEw1).ext hEw2).ext hEw3)
 refine za (zp (zkQ _ hK1 hK2 hK3 (by first | omega | decide) (by first | omega | decide) (by first | omega | decide) (by first | omega | decide) (by assumption)) ?_)
 rintro _ w4 ⟨a1,ca1,rfl,hFz1_0,hEw4⟩
 have hzw4:=hEw4.size
 have hma1:=hFz1_0.es;have hlea1:=hma1.le
 refine zc 1 [(5,(.slice a1 (tot n_l) ca1))] (zf (zb (ze (ze (zd (zc 1 [(6,(vI 0))] (zf (zb (zr ?_)))))))))
 have hK4:=(((hBw1.ext hEw2).ext hEw3).ext hEw4)
 have hX1:Ext w w4:=(((hEw1.trans hEw2).trans hEw3).trans hEw4)
 refine zU (X:=Nat×Option Addr×Nat) (fun ⟨v,ao,cp⟩=> [(6,(vI v))]) [7,8,9,17,18,19,20,21,22,23,24,25,26,27,28,29,30,31,32,33,34,35,36,37,38,39,40,41,42,43,44,45,46,47,48,49,50,51,52,53,54,55,56,57,58,59,60,61,62,63,64,65,66,67,68,69,70,71,72,73,74,75,76,77,78,79,80] (fun ⟨v,ao,cp⟩ w5=>v≤hgt n_l+1∧w4.heap.size≤w5.heap.size∧OwM unC 280 w4.heap.size w5.heap.size w5 ao (num n_l v) cp 77 (TXp n_l (zaA l c s) v)∧Blk w5 w2.heap.size ([(vI n_l),(.slice ao (num n_l v) cp)]) 38∧Blk w5 w.heap.size ([(.slice a_l n_l c_l),(.slice a_c n_c c_c),(.slice a_s n_s c_s)]) 34∧Blk w5 w1.heap.size ([(vI 0),(.slice none 0 0)]) 38∧Es (nv .i64) w3.heap.size w4.heap.size w5 a1 (tot n_l) ca1 (zaQ n_l c s)∧Ext w w5) (fun ⟨v,ao,cp⟩=>hgt n_l+1-v) (0,none,0) (by kernel_rfl) ⟨by omega,by omega,OwM.nil _ _ _ _ _ _ zK,(hBw3.ext hEw4),hK4,((hBw2.ext hEw3).ext hEw4),hma1,hX1⟩ ?_
 rintro ⟨v,ao,cp⟩ dw5 w5 ⟨hv,hz0a,hOa,hTa,hQ1a,hQ2a,hNa,hEa⟩
 have hza:=hEa.size;have hl4a:=hTa.lt;have hl1a:=hQ1a.lt;have hl2a:=hQ2a.lt
 have hns:=zbP (n:=n_l) (l:=v) hp3 (by omega)
 have hcnv:=zbq n_l v
 refine ze (ze (zd (zc 2 [(18,(vI n_l)),(17,(vI v))] (za (zp (zgj n_l _ (by omega) (by omega)) ?_)))))
 rintro _ _ ⟨rfl,rfl⟩
 refine za (zF (some 20) (decide (((v:Nat):Int)≤((hgt n_l:Nat):Int))) (fun hc20=> ?_) (fun hc20=> ?_))
 ·replace hc20:v≤hgt n_l:=by have:=zac hc20;omega
  refine zf (zb (zv (zk (zb (ze (zr (ze (zd (zc 1 [(7,(vI 0))] ?_)))))))))
  refine zf (zb (zr (zU (X:=Nat×Option Addr×Nat) (fun ⟨j,ap,cq⟩=> [(7,(vI j))]) [8,9,23,24,25,26,27,28,29,30,31,32,33,34,35,36,37,38,39,40,41,42,43,44,45,46,47,48,49,50,51,52,53,54,55,56,57,58,59,60,61,62,63,64,65,66,67,68,69,70,71,72,73,74,75,76,77,78,79,80] (fun ⟨j,ap,cq⟩ w6=>j≤cnt n_l v∧w4.heap.size≤w6.heap.size∧OwM unC 280 w4.heap.size w6.heap.size w6 ap (num n_l v+j) cq 77 (TXq n_l (zaA l c s) v j)∧Blk w6 w2.heap.size ([(vI n_l),(.slice ap (num n_l v+j) cq)]) 38∧Blk w6 w.heap.size ([(.slice a_l n_l c_l),(.slice a_c n_c c_c),(.slice a_s n_s c_s)]) 34∧Blk w6 w1.heap.size ([(vI 0),(.slice none 0 0)]) 38∧Es (nv .i64) w3.heap.size w4.heap.size w6 a1 (tot n_l) ca1 (zaQ n_l c s)∧Ext w w6) (fun ⟨j,ap,cq⟩=>cnt n_l v-j) (0,ao,cp) (by kernel_rfl) ⟨by omega,by omega,by rw [zio];exact (hOa).now,hTa,hQ1a,hQ2a,hNa,hEa⟩ ?_)))
  rintro ⟨j,ap,cq⟩ dw6 w6 ⟨hj,hz0b,hOb,hTb,hQ1b,hQ2b,hNb,hEb⟩
  have hzb:=hEb.size;have hl4b:=hTb.lt;have hl1b:=hQ1b.lt;have hl2b:=hQ2b.lt
  refine ze (ze (zd (zc 3 [(25,(vI v)),(24,(vI n_l)),(23,(vI j))] (za (zp (zfb n_l v _ (by omega) (by omega) (by omega)) ?_)))))
  rintro _ _ ⟨rfl,rfl⟩
  refine za (zF (some 27) (decide (((j:Nat):Int)<((cnt n_l v:Nat):Int))) (fun hc27=> ?_) (fun hc27=> ?_))
  ·replace hc27:j<cnt n_l v:=by have:=zac hc27;omega
   have hjc:j<cnt n_l v:=by omega
   have hpl:=zaG (n:=n_l) (l:=v) (j:=j) (by omega) hjc
   have hs1:gt s (num n_l v+j)≤1:=hp4 _
   have hcnv2:=zbq n_l v
   refine zf (zb (zv (zk (zb (ze (zr (ze (zab 20 (fun w7 hEw7 hzw7 hT105=> ?_)))))))))
   refine zg hT105 [(0,30,(vP w.heap.size 0))] 1 (zA hT105 1 w.heap.size 0 (fun w' hC=>(((hQ1b.ext hEw7).ext hC).cell rfl)) (zg hT105 [(2,32,(.slice a1 (tot n_l) ca1)),(3,33,(vI v)),(4,34,(vI j)),(6,36,(vP w.heap.size 2))] 4 (zA hT105 7 w.heap.size 2 (fun w' hC=>(((hQ1b.ext hEw7).ext hC).cell rfl)) (zg hT105 [(8,38,(vP w2.heap.size 1))] 1 (zA hT105 9 w2.heap.size 1 (fun w' hC=>(((hTb.ext hEw7).ext hC).cell rfl)) (zg hT105 [(10,40,(vI (num n_l v+j)))] 1 ?_))))))
   obtain ⟨b1,o1,rfl⟩:=h_s.addr (by omega)
   refine zas hT105 11 b1 o1 n_s c_s (num n_l v+j) 1 (zA hT105 12 b1 (o1+(num n_l v+j)*1) (fun w' hC=>((((h_s.ext hEb).ext hEw7).ext hC).celln (by omega))) (zaO hT105 13 w.heap.size 0 (fun w' hC=>(((hQ1b.ext hEw7).ext hC).all)) (zg hT105 [(14,44,(vI v)),(15,45,(vI j))] 2 (zbt 5 18 ?_ ?_))))
   ·refine zp (zjl v j _ ((h_l.ext hEb).ext hEw7) (hNb.ext hEw7) (by omega) (by omega) (by omega) (by omega) (by omega) (fun i=>Nat.le_trans (zjp hp4 i) (by decide))) ?_
    rintro _ w8 ⟨rfl,hEw8⟩
    have hzw8:=hEw8.size
    refine ⟨.inr hEw8, ?_⟩
    refine zbt 16 18 ?_ ?_
    ·have hK5:=(((h_l.ext hEb).ext hEw7).ext hEw8)
     have hK6:=(((h_c.ext hEb).ext hEw7).ext hEw8)
     have hK7:=(((h_s.ext hEb).ext hEw7).ext hEw8)
     refine zp (zhu v j _ hK5 hK6 hK7 (by omega) (by omega) (by omega)) ?_
     rintro _ w9 ⟨rfl,hEw9⟩
     have hzw9:=hEw9.size
     have hX2:Ext w7 w9:=(hEw8.trans hEw9)
     refine ⟨.inr hX2, ?_⟩
     refine zn (hw:=hX2) hT105 17 (vA (unC (⟨(zao l (zaQ n_l c s) v j),((gt s (num n_l v+j):Nat):Int),drt c v j,List.replicate 4 false,rfl⟩))) (zag (Instr.build 77 #[(0,(vA (zJ (zao l (zaQ n_l c s) v j)))),(1,(vI (gt s (num n_l v+j)))),(2,(.bool (drt c v j)))]) (fun w' hC=>zft (zao l (zaQ n_l c s) v j) ((gt s (num n_l v+j):Nat):Int) (drt c v j))) (zx 18 (zaf (unC Un.zero) 77 ?_))
     intro w10 hBw10 hEw10 hzw10 hlw10
     have hX3:Ext w7 w10:=((hEw8.trans hEw9).trans hEw10)
     refine ⟨.inr hX3, ?_⟩
     refine zx 19 (zG 77 w9.heap.size 0 77 (vA (unC (⟨(zao l (zaQ n_l c s) v j),((gt s (num n_l v+j):Nat):Int),drt c v j,List.replicate 4 false,rfl⟩))) (unC Un.zero) (unC (⟨(zao l (zaQ n_l c s) v j),((gt s (num n_l v+j):Nat):Int),drt c v j,List.replicate 4 false,rfl⟩)) hBw10 (by rw [zK];kernel_rfl) (by first |(simp;done)|(simp;omega)) (zbh _) ?_)
     intro w11 hBw11 hCw11
     have hzw11:=hCw11.size
     rw [zy _ _ (by simp)] at hBw11
     refine ⟨.inl (by kernel_rfl), ?_⟩
     refine zE (zb (ze (ze (zd (zc 1 [(9,(vI 0))] (zf (zb (zr (zU (X:=Nat) (fun x=> [(9,(vI x))]) [48,49,50,51,52,53,54,55,56,57,58,59,60,61,62,63,64,65,66,67,68,69,70,71,72,73,74] (fun x w12=>x≤4∧Blk w12 w9.heap.size (unC (unW l c s v j x)) 77∧Chg (fun k=>k=w9.heap.size) w11 w12) (fun x=>4-x) 0 (by kernel_rfl) ⟨by omega,by rw [zib,←hll];exact hBw11,Chg.refl _ _⟩ ?_)))))))))
     rintro x dw12 w12 ⟨hx,hB8,hC8⟩
     have hz8:=hC8.size
     have hl8:=hB8.lt
     refine ze (ze (zd (zc 1 [(48,(vI x))] (za (zF (some 49) (decide (((x:Nat):Int)<((4:Nat):Int))) (fun hc49=> ?_) (fun hc49=> ?_))))))
     ·replace hc49:x<4:=by have:=zac hc49;omega
      refine zc 2 [(51,(vI v)),(50,vT)] (za (zF (some 52) ((((v:Nat):Int)==((0:Nat):Int))) (fun hc52=> ?_) (fun hc52=> ?_)))
      ·replace hc52:v=0:=by have:=zbJ hc52;omega
       refine zc 3 [(55,(vI j)),(54,vT),(53,vT)] (za (zo (some 56) .i64 (IntKind.i64.wrap (((4:Nat):Int)*((j:Nat):Int))) (4*j) (zu) ?_))
       refine zc 1 [(57,(vI x))] (za (zo (some 58) .i64 (IntKind.i64.wrap (((4*j:Nat):Int)+((x:Nat):Int))) (4*j+x) (zu) ?_))
       refine zc 1 [(59,(vI n_l))] (za (zF (some 60) (decide (((4*j+x:Nat):Int)<((n_l:Nat):Int))) (fun hc60=> ?_) (fun hc60=> ?_)))
       ·replace hc60:4*j+x<n_l:=by have:=zac hc60;omega
        refine zc 1 [(61,vT)] (zf (zb (zv (zk (zb (ze (zr (zd (zc 2 [(65,(vP w.heap.size 1)),(64,(vI x))] ?_)))))))))
        have hK8:=((((((hQ1b.ext hEw7).ext hEw8).ext hEw9).ext hEw10).chg hCw11).chg hC8)
        refine za (zm w.heap.size 1 (hK8.cell rfl) ?_)
        refine zc 1 [(67,(vI j))] (za (zo (some 68) .i64 (IntKind.i64.wrap (((4:Nat):Int)*((j:Nat):Int))) (4*j) (zu) ?_))
        refine zc 1 [(69,(vI x))] (za (zo (some 70) .i64 (IntKind.i64.wrap (((4*j:Nat):Int)+((x:Nat):Int))) (4*j+x) (zu) ?_))
        obtain ⟨b2,o2,rfl⟩:=hK6.addr (by omega)
        refine za (zah b2 o2 n_c c_c (4*j+x) 1 ?_)
        have hK9:=((((hK6.ext hEw9).ext hEw10).chg hCw11).chg hC8)
        refine za (zm b2 (o2+(4*j+x)*1) (hK9.cellb (by omega)) ?_)
        refine zc 1 [(73,(vP w9.heap.size 276))] (za (zbg w9.heap.size 276 x 4 1 ?_))
        refine za (zaj 4 w9.heap.size (276+x*1) 77 (.bool (c.getD (4*j+x) false)) (unC (unW l c s v j x)) hB8 (by first | decide |(simp;done)|(simp;omega)) ?_)
        intro w13 hBw13 hCw13
        have hzw13:=hCw13.size
        rw [show ((unC (unW l c s v j x)).set (276+x*1) (.bool (c.getD (4*j+x) false)):List Value)=unC (unW l c s v j (x+1)) from (zgP (by omega)).trans (congrArg unC (zjh (by omega) (by omega)))] at hBw13
        refine zf (zi (zb (zd (zc 1 [(62,(vI x))] (za (zo (some 63) .i64 (IntKind.i64.wrap (((x:Nat):Int)+((1:Nat):Int))) (x+1) (zu) ?_))))))
        refine zc 1 [(9,(vI (x+1)))] (zf (zz (zL (x+1) ?_ ?_)))
        ·exact ⟨by omega,hBw13,(Chg.then (Chg.then (Chg.refl (fun k=>k=w9.heap.size) w11) hC8 (fun k hk hs=>by have h:k=_:=hs;first | exact hs | exact .inl h | exact .inr h |(exfalso;omega))) hCw13 (fun k hk hs=>by have h:k=_:=hs;first | exact hs | exact .inl h | exact .inr h |(exfalso;omega)))⟩
        ·first | omega |(dsimp only;omega)
       ·replace hc60:¬(4*j+x<n_l):=by have:=zad hc60;omega
        rw [zdC (by omega)] at hB8
        refine zc 1 [(61,vF)] (zf (zb (zh (zP (zq (zq (zH (zb (zd ?_)))))))))
        refine zc 1 [(75,(vP w2.heap.size 1))] ?_
        have hK10:=((((((hTb.ext hEw7).ext hEw8).ext hEw9).ext hEw10).chg hCw11).chg hC8)
        refine za (zm w2.heap.size 1 (hK10.cell rfl) ?_)
        refine za (zT w9.heap.size 0 (hB8.all) (zK _) ?_)
        refine za (zcV (some 78) (Instr.buildSlice 36 1 #[(0,(vA (unC (zaA l c s v j))))]) (.slice (pA w12.heap.size 0) 1 1) (([(zaA l c s v j)]:List Un).flatMap unC) 77 ?_ (hr:=zda (f:=unC) (sz:=280) (z:=(vA (unC Un.zero))) [(zaA l c s v j)] zK (by decide) rfl (Nat.succ_pos _) (show 280≤2^24 from by decide) rfl))
        intro w14 hBw14 hEw14
        have hzw14:=hEw14.size;have hlw14:=hBw14.lt
        have hmw14:Ms unC 280 w12.heap.size (w12.heap.size+1) w14 (pA w12.heap.size 0) 1 1 [(zaA l c s v j)]:=Ms.of_pre (r:= []) (by rw [List.append_nil];exact hBw14) zK rfl (Nat.le_refl _) (by decide) (Nat.le_refl _) (Nat.lt_succ_self _)
        have hK11:=(((((((hOb.ext hEw7).ext hEw8).ext hEw9).ext hEw10).chg hCw11).chg hC8).ext hEw14)
        refine za (zbE (some 79) 36 36 77 384 (vA (unC Un.zero)) hK11 hmw14 zbh ?_ (by rw [Value.cells,List.size_toArray,zK]) (by decide))
        intro a2 c1 w15 hOw15 hCw15
        have hzw15:=hCw15.size
        have hSw15:=hOw15.ms;have hlea2:=hSw15.le
        refine zc 1 [(80,(vP w2.heap.size 1))] ?_
        have hK12:=(((((((hOb.ext hEw7).ext hEw8).ext hEw9).ext hEw10).chg hCw11).chg hC8).ext hEw14)
        refine za (zaj 36 w2.heap.size 1 38 (.slice a2 (num n_l v+j+1) c1) ([(vI n_l),(.slice ap (num n_l v+j) cq)]) (((hK10.ext hEw14)).chg hCw15 (fun hs=>by have hn:=hK12.ne hs;omega)) (by first | decide |(simp;done)|(simp;omega)) ?_)
        have hK13:=(((((((hOb.ext hEw7).ext hEw8).ext hEw9).ext hEw10).chg hCw11).chg hC8).ext hEw14)
        intro w16 hBw16 hCw16
        have hzw16:=hCw16.size
        rw [show (([(vI n_l),(.slice ap (num n_l v+j) cq)]).set 1 (.slice a2 (num n_l v+j+1) c1):List Value)= [(vI n_l),(.slice a2 (num n_l v+j+1) c1)] from rfl] at hBw16
        refine zf (zi (zb (zd (zc 1 [(28,(vI j))] (za (zo (some 29) .i64 (IntKind.i64.wrap (((j:Nat):Int)+((1:Nat):Int))) (j+1) (zu) ?_))))))
        refine zc 1 [(7,(vI (j+1)))] (zf (zz ?_))
        have hK14:=(((((((hOb.ext hEw7).ext hEw8).ext hEw9).ext hEw10).chg hCw11).chg hC8).ext hEw14)
        have hK15:=((((((((((hQ1b.ext hEw7).ext hEw8).ext hEw9).ext hEw10).chg hCw11).chg hC8).ext hEw14)).chg hCw15 (fun hs=>by have hn:=hK14.ne hs;omega)).chg hCw16)
        have hK16:=(((((((hOb.ext hEw7).ext hEw8).ext hEw9).ext hEw10).chg hCw11).chg hC8).ext hEw14)
        have hK17:=((((((((((hQ2b.ext hEw7).ext hEw8).ext hEw9).ext hEw10).chg hCw11).chg hC8).ext hEw14)).chg hCw15 (fun hs=>by have hn:=hK16.ne hs;omega)).chg hCw16)
        have hK18:=(((((((hOb.ext hEw7).ext hEw8).ext hEw9).ext hEw10).chg hCw11).chg hC8).ext hEw14)
        have hK19:=((((((((((hNb.ext hEw7).ext hEw8).ext hEw9).ext hEw10).chg hCw11).chg hC8).ext hEw14)).chg hCw15 (fun k h1 h2 hs=>by have hn:=hK18.ne hs;omega)).chg hCw16)
        have hK20:=(((((((hOb.ext hEw7).ext hEw8).ext hEw9).ext hEw10).chg hCw11).chg hC8).ext hEw14)
        have hX4:Ext w w16:=(Ext.own (Ext.ownS ((Ext.own (Ext.own ((((hEb.trans hEw7).trans hEw8).trans hEw9).trans hEw10) hCw11 (by omega)) hC8 (by omega)).trans hEw14) hCw15 (fun k hs hk=>by have hn:=hK20.ne hs;omega)) hCw16 (by omega))
        refine zL (j+1,a2,c1) ?_ ?_
        ·exact ⟨by omega,by omega,by rw [zcz];exact ((hOw15.chg hCw16)).now,hBw16,hK15,hK17,hK19,hX4⟩
        ·first | omega |(dsimp only;omega)
      ·replace hc52:¬(v=0):=by have:=zbI hc52;omega
       rw [zdC (by omega)] at hB8
       refine zc 9 [(61,vF),(60,undef),(59,undef),(58,undef),(57,undef),(56,undef),(55,undef),(54,vF),(53,vF)] (zf (zb (zh (zP (zq (zq (zH (zb (zd ?_)))))))))
       refine zc 1 [(75,(vP w2.heap.size 1))] ?_
       have hK21:=((((((hTb.ext hEw7).ext hEw8).ext hEw9).ext hEw10).chg hCw11).chg hC8)
       refine za (zm w2.heap.size 1 (hK21.cell rfl) ?_)
       refine za (zT w9.heap.size 0 (hB8.all) (zK _) ?_)
       refine za (zcV (some 78) (Instr.buildSlice 36 1 #[(0,(vA (unC (zaA l c s v j))))]) (.slice (pA w12.heap.size 0) 1 1) (([(zaA l c s v j)]:List Un).flatMap unC) 77 ?_ (hr:=zda (f:=unC) (sz:=280) (z:=(vA (unC Un.zero))) [(zaA l c s v j)] zK (by decide) rfl (Nat.succ_pos _) (show 280≤2^24 from by decide) rfl))
       intro w17 hBw17 hEw17
       have hzw17:=hEw17.size;have hlw17:=hBw17.lt
       have hmw17:Ms unC 280 w12.heap.size (w12.heap.size+1) w17 (pA w12.heap.size 0) 1 1 [(zaA l c s v j)]:=Ms.of_pre (r:= []) (by rw [List.append_nil];exact hBw17) zK rfl (Nat.le_refl _) (by decide) (Nat.le_refl _) (Nat.lt_succ_self _)
       have hK22:=(((((((hOb.ext hEw7).ext hEw8).ext hEw9).ext hEw10).chg hCw11).chg hC8).ext hEw17)
       refine za (zbE (some 79) 36 36 77 384 (vA (unC Un.zero)) hK22 hmw17 zbh ?_ (by rw [Value.cells,List.size_toArray,zK]) (by decide))
       intro a3 c2 w18 hOw18 hCw18
       have hzw18:=hCw18.size
       have hSw18:=hOw18.ms;have hlea3:=hSw18.le
       refine zc 1 [(80,(vP w2.heap.size 1))] ?_
       have hK23:=(((((((hOb.ext hEw7).ext hEw8).ext hEw9).ext hEw10).chg hCw11).chg hC8).ext hEw17)
       refine za (zaj 36 w2.heap.size 1 38 (.slice a3 (num n_l v+j+1) c2) ([(vI n_l),(.slice ap (num n_l v+j) cq)]) (((hK21.ext hEw17)).chg hCw18 (fun hs=>by have hn:=hK23.ne hs;omega)) (by first | decide |(simp;done)|(simp;omega)) ?_)
       have hK24:=(((((((hOb.ext hEw7).ext hEw8).ext hEw9).ext hEw10).chg hCw11).chg hC8).ext hEw17)
       intro w19 hBw19 hCw19
       have hzw19:=hCw19.size
       rw [show (([(vI n_l),(.slice ap (num n_l v+j) cq)]).set 1 (.slice a3 (num n_l v+j+1) c2):List Value)= [(vI n_l),(.slice a3 (num n_l v+j+1) c2)] from rfl] at hBw19
       refine zf (zi (zb (zd (zc 1 [(28,(vI j))] (za (zo (some 29) .i64 (IntKind.i64.wrap (((j:Nat):Int)+((1:Nat):Int))) (j+1) (zu) ?_))))))
       refine zc 1 [(7,(vI (j+1)))] (zf (zz ?_))
       have hK25:=(((((((hOb.ext hEw7).ext hEw8).ext hEw9).ext hEw10).chg hCw11).chg hC8).ext hEw17)
       have hK26:=((((((((((hQ1b.ext hEw7).ext hEw8).ext hEw9).ext hEw10).chg hCw11).chg hC8).ext hEw17)).chg hCw18 (fun hs=>by have hn:=hK25.ne hs;omega)).chg hCw19)
       have hK27:=(((((((hOb.ext hEw7).ext hEw8).ext hEw9).ext hEw10).chg hCw11).chg hC8).ext hEw17)
       have hK28:=((((((((((hQ2b.ext hEw7).ext hEw8).ext hEw9).ext hEw10).chg hCw11).chg hC8).ext hEw17)).chg hCw18 (fun hs=>by have hn:=hK27.ne hs;omega)).chg hCw19)
       have hK29:=(((((((hOb.ext hEw7).ext hEw8).ext hEw9).ext hEw10).chg hCw11).chg hC8).ext hEw17)
       have hK30:=((((((((((hNb.ext hEw7).ext hEw8).ext hEw9).ext hEw10).chg hCw11).chg hC8).ext hEw17)).chg hCw18 (fun k h1 h2 hs=>by have hn:=hK29.ne hs;omega)).chg hCw19)
       have hK31:=(((((((hOb.ext hEw7).ext hEw8).ext hEw9).ext hEw10).chg hCw11).chg hC8).ext hEw17)
       have hX5:Ext w w19:=(Ext.own (Ext.ownS ((Ext.own (Ext.own ((((hEb.trans hEw7).trans hEw8).trans hEw9).trans hEw10) hCw11 (by omega)) hC8 (by omega)).trans hEw17) hCw18 (fun k hs hk=>by have hn:=hK31.ne hs;omega)) hCw19 (by omega))
       refine zL (j+1,a3,c2) ?_ ?_
       ·exact ⟨by omega,by omega,by rw [zcz];exact ((hOw18.chg hCw19)).now,hBw19,hK26,hK28,hK30,hX5⟩
       ·first | omega |(dsimp only;omega)
     ·replace hc49:¬(x<4):=by have:=zad hc49;omega
      rw [zdC (by omega)] at hB8
      refine zc 12 [(61,vF),(60,undef),(59,undef),(58,undef),(57,undef),(56,undef),(55,undef),(54,vF),(53,vF),(52,undef),(51,undef),(50,vF)] (zf (zb (zh (zP (zq (zq (zH (zb (zd ?_)))))))))
      refine zc 1 [(75,(vP w2.heap.size 1))] ?_
      have hK32:=((((((hTb.ext hEw7).ext hEw8).ext hEw9).ext hEw10).chg hCw11).chg hC8)
      refine za (zm w2.heap.size 1 (hK32.cell rfl) ?_)
      refine za (zT w9.heap.size 0 (hB8.all) (zK _) ?_)
      refine za (zcV (some 78) (Instr.buildSlice 36 1 #[(0,(vA (unC (zaA l c s v j))))]) (.slice (pA w12.heap.size 0) 1 1) (([(zaA l c s v j)]:List Un).flatMap unC) 77 ?_ (hr:=zda (f:=unC) (sz:=280) (z:=(vA (unC Un.zero))) [(zaA l c s v j)] zK (by decide) rfl (Nat.succ_pos _) (show 280≤2^24 from by decide) rfl))
      intro w20 hBw20 hEw20
      have hzw20:=hEw20.size;have hlw20:=hBw20.lt
      have hmw20:Ms unC 280 w12.heap.size (w12.heap.size+1) w20 (pA w12.heap.size 0) 1 1 [(zaA l c s v j)]:=Ms.of_pre (r:= []) (by rw [List.append_nil];exact hBw20) zK rfl (Nat.le_refl _) (by decide) (Nat.le_refl _) (Nat.lt_succ_self _)
      have hK33:=(((((((hOb.ext hEw7).ext hEw8).ext hEw9).ext hEw10).chg hCw11).chg hC8).ext hEw20)
      refine za (zbE (some 79) 36 36 77 384 (vA (unC Un.zero)) hK33 hmw20 zbh ?_ (by rw [Value.cells,List.size_toArray,zK]) (by decide))
      intro a4 c3 w21 hOw21 hCw21
      have hzw21:=hCw21.size
      have hSw21:=hOw21.ms;have hlea4:=hSw21.le
      refine zc 1 [(80,(vP w2.heap.size 1))] ?_
      have hK34:=(((((((hOb.ext hEw7).ext hEw8).ext hEw9).ext hEw10).chg hCw11).chg hC8).ext hEw20)
      refine za (zaj 36 w2.heap.size 1 38 (.slice a4 (num n_l v+j+1) c3) ([(vI n_l),(.slice ap (num n_l v+j) cq)]) (((hK32.ext hEw20)).chg hCw21 (fun hs=>by have hn:=hK34.ne hs;omega)) (by first | decide |(simp;done)|(simp;omega)) ?_)
      have hK35:=(((((((hOb.ext hEw7).ext hEw8).ext hEw9).ext hEw10).chg hCw11).chg hC8).ext hEw20)
      intro w22 hBw22 hCw22
      have hzw22:=hCw22.size
      rw [show (([(vI n_l),(.slice ap (num n_l v+j) cq)]).set 1 (.slice a4 (num n_l v+j+1) c3):List Value)= [(vI n_l),(.slice a4 (num n_l v+j+1) c3)] from rfl] at hBw22
      refine zf (zi (zb (zd (zc 1 [(28,(vI j))] (za (zo (some 29) .i64 (IntKind.i64.wrap (((j:Nat):Int)+((1:Nat):Int))) (j+1) (zu) ?_))))))
      refine zc 1 [(7,(vI (j+1)))] (zf (zz ?_))
      have hK36:=(((((((hOb.ext hEw7).ext hEw8).ext hEw9).ext hEw10).chg hCw11).chg hC8).ext hEw20)
      have hK37:=((((((((((hQ1b.ext hEw7).ext hEw8).ext hEw9).ext hEw10).chg hCw11).chg hC8).ext hEw20)).chg hCw21 (fun hs=>by have hn:=hK36.ne hs;omega)).chg hCw22)
      have hK38:=(((((((hOb.ext hEw7).ext hEw8).ext hEw9).ext hEw10).chg hCw11).chg hC8).ext hEw20)
      have hK39:=((((((((((hQ2b.ext hEw7).ext hEw8).ext hEw9).ext hEw10).chg hCw11).chg hC8).ext hEw20)).chg hCw21 (fun hs=>by have hn:=hK38.ne hs;omega)).chg hCw22)
      have hK40:=(((((((hOb.ext hEw7).ext hEw8).ext hEw9).ext hEw10).chg hCw11).chg hC8).ext hEw20)
      have hK41:=((((((((((hNb.ext hEw7).ext hEw8).ext hEw9).ext hEw10).chg hCw11).chg hC8).ext hEw20)).chg hCw21 (fun k h1 h2 hs=>by have hn:=hK40.ne hs;omega)).chg hCw22)
      have hK42:=(((((((hOb.ext hEw7).ext hEw8).ext hEw9).ext hEw10).chg hCw11).chg hC8).ext hEw20)
      have hX6:Ext w w22:=(Ext.own (Ext.ownS ((Ext.own (Ext.own ((((hEb.trans hEw7).trans hEw8).trans hEw9).trans hEw10) hCw11 (by omega)) hC8 (by omega)).trans hEw20) hCw21 (fun k hs hk=>by have hn:=hK42.ne hs;omega)) hCw22 (by omega))
      refine zL (j+1,a4,c3) ?_ ?_
      ·exact ⟨by omega,by omega,by rw [zcz];exact ((hOw21.chg hCw22)).now,hBw22,hK37,hK39,hK41,hX6⟩
      ·first | omega |(dsimp only;omega)
    ·refine zaf (unC Un.zero) 77 ?_
     intro w23 hBw23 hEw23 hzw23 hlw23
     have hX7:Ext w7 w23:=(hEw8.trans hEw23)
     refine ⟨.inr hX7, ?_⟩
     have hK43:=((((h_l.ext hEb).ext hEw7).ext hEw8).ext hEw23)
     have hK44:=((((h_c.ext hEb).ext hEw7).ext hEw8).ext hEw23)
     have hK45:=((((h_s.ext hEb).ext hEw7).ext hEw8).ext hEw23)
     refine zx 16 (zp (zhu v j _ hK43 hK44 hK45 (by omega) (by omega) (by omega)) ?_)
     rintro _ w24 ⟨rfl,hEw24⟩
     have hzw24:=hEw24.size
     have hX8:Ext w7 w24:=((hEw8.trans hEw23).trans hEw24)
     refine ⟨.inr hX8, ?_⟩
     refine zn (hw:=hX8) hT105 17 (vA (unC (⟨(zao l (zaQ n_l c s) v j),((gt s (num n_l v+j):Nat):Int),drt c v j,List.replicate 4 false,rfl⟩))) (zag (Instr.build 77 #[(0,(vA (zJ (zao l (zaQ n_l c s) v j)))),(1,(vI (gt s (num n_l v+j)))),(2,(.bool (drt c v j)))]) (fun w' hC=>zft (zao l (zaQ n_l c s) v j) ((gt s (num n_l v+j):Nat):Int) (drt c v j))) (zx 19 (zG 77 w8.heap.size 0 77 (vA (unC (⟨(zao l (zaQ n_l c s) v j),((gt s (num n_l v+j):Nat):Int),drt c v j,List.replicate 4 false,rfl⟩))) (unC Un.zero) (unC (⟨(zao l (zaQ n_l c s) v j),((gt s (num n_l v+j):Nat):Int),drt c v j,List.replicate 4 false,rfl⟩)) (hBw23.ext hEw24) (by rw [zK];kernel_rfl) (by first |(simp;done)|(simp;omega)) (zbh _) ?_))
     intro w25 hBw25 hCw25
     have hzw25:=hCw25.size
     rw [zy _ _ (by simp)] at hBw25
     refine ⟨.inl (by kernel_rfl), ?_⟩
     refine zE (zb (ze (ze (zd (zc 1 [(9,(vI 0))] (zf (zb (zr (zU (X:=Nat) (fun x=> [(9,(vI x))]) [48,49,50,51,52,53,54,55,56,57,58,59,60,61,62,63,64,65,66,67,68,69,70,71,72,73,74] (fun x w26=>x≤4∧Blk w26 w8.heap.size (unC (unW l c s v j x)) 77∧Chg (fun k=>k=w8.heap.size) w25 w26) (fun x=>4-x) 0 (by kernel_rfl) ⟨by omega,by rw [zib,←hll];exact hBw25,Chg.refl _ _⟩ ?_)))))))))
     rintro x dw26 w26 ⟨hx,hB8,hC8⟩
     have hz8:=hC8.size
     have hl8:=hB8.lt
     refine ze (ze (zd (zc 1 [(48,(vI x))] (za (zF (some 49) (decide (((x:Nat):Int)<((4:Nat):Int))) (fun hc49=> ?_) (fun hc49=> ?_))))))
     ·replace hc49:x<4:=by have:=zac hc49;omega
      refine zc 2 [(51,(vI v)),(50,vT)] (za (zF (some 52) ((((v:Nat):Int)==((0:Nat):Int))) (fun hc52=> ?_) (fun hc52=> ?_)))
      ·replace hc52:v=0:=by have:=zbJ hc52;omega
       refine zc 3 [(55,(vI j)),(54,vT),(53,vT)] (za (zo (some 56) .i64 (IntKind.i64.wrap (((4:Nat):Int)*((j:Nat):Int))) (4*j) (zu) ?_))
       refine zc 1 [(57,(vI x))] (za (zo (some 58) .i64 (IntKind.i64.wrap (((4*j:Nat):Int)+((x:Nat):Int))) (4*j+x) (zu) ?_))
       refine zc 1 [(59,(vI n_l))] (za (zF (some 60) (decide (((4*j+x:Nat):Int)<((n_l:Nat):Int))) (fun hc60=> ?_) (fun hc60=> ?_)))
       ·replace hc60:4*j+x<n_l:=by have:=zac hc60;omega
        refine zc 1 [(61,vT)] (zf (zb (zv (zk (zb (ze (zr (zd (zc 2 [(65,(vP w.heap.size 1)),(64,(vI x))] ?_)))))))))
        have hK46:=((((((hQ1b.ext hEw7).ext hEw8).ext hEw23).ext hEw24).chg hCw25).chg hC8)
        refine za (zm w.heap.size 1 (hK46.cell rfl) ?_)
        refine zc 1 [(67,(vI j))] (za (zo (some 68) .i64 (IntKind.i64.wrap (((4:Nat):Int)*((j:Nat):Int))) (4*j) (zu) ?_))
        refine zc 1 [(69,(vI x))] (za (zo (some 70) .i64 (IntKind.i64.wrap (((4*j:Nat):Int)+((x:Nat):Int))) (4*j+x) (zu) ?_))
        obtain ⟨b3,o3,rfl⟩:=hK44.addr (by omega)
        refine za (zah b3 o3 n_c c_c (4*j+x) 1 ?_)
        have hK47:=(((hK44.ext hEw24).chg hCw25).chg hC8)
        refine za (zm b3 (o3+(4*j+x)*1) (hK47.cellb (by omega)) ?_)
        refine zc 1 [(73,(vP w8.heap.size 276))] (za (zbg w8.heap.size 276 x 4 1 ?_))
        refine za (zaj 4 w8.heap.size (276+x*1) 77 (.bool (c.getD (4*j+x) false)) (unC (unW l c s v j x)) hB8 (by first | decide |(simp;done)|(simp;omega)) ?_)
        intro w27 hBw27 hCw27
        have hzw27:=hCw27.size
        rw [show ((unC (unW l c s v j x)).set (276+x*1) (.bool (c.getD (4*j+x) false)):List Value)=unC (unW l c s v j (x+1)) from (zgP (by omega)).trans (congrArg unC (zjh (by omega) (by omega)))] at hBw27
        refine zf (zi (zb (zd (zc 1 [(62,(vI x))] (za (zo (some 63) .i64 (IntKind.i64.wrap (((x:Nat):Int)+((1:Nat):Int))) (x+1) (zu) ?_))))))
        refine zc 1 [(9,(vI (x+1)))] (zf (zz (zL (x+1) ?_ ?_)))
        ·exact ⟨by omega,hBw27,(Chg.then (Chg.then (Chg.refl (fun k=>k=w8.heap.size) w25) hC8 (fun k hk hs=>by have h:k=_:=hs;first | exact hs | exact .inl h | exact .inr h |(exfalso;omega))) hCw27 (fun k hk hs=>by have h:k=_:=hs;first | exact hs | exact .inl h | exact .inr h |(exfalso;omega)))⟩
        ·first | omega |(dsimp only;omega)
       ·replace hc60:¬(4*j+x<n_l):=by have:=zad hc60;omega
        rw [zdC (by omega)] at hB8
        refine zc 1 [(61,vF)] (zf (zb (zh (zP (zq (zq (zH (zb (zd ?_)))))))))
        refine zc 1 [(75,(vP w2.heap.size 1))] ?_
        have hK48:=((((((hTb.ext hEw7).ext hEw8).ext hEw23).ext hEw24).chg hCw25).chg hC8)
        refine za (zm w2.heap.size 1 (hK48.cell rfl) ?_)
        refine za (zT w8.heap.size 0 (hB8.all) (zK _) ?_)
        refine za (zcV (some 78) (Instr.buildSlice 36 1 #[(0,(vA (unC (zaA l c s v j))))]) (.slice (pA w26.heap.size 0) 1 1) (([(zaA l c s v j)]:List Un).flatMap unC) 77 ?_ (hr:=zda (f:=unC) (sz:=280) (z:=(vA (unC Un.zero))) [(zaA l c s v j)] zK (by decide) rfl (Nat.succ_pos _) (show 280≤2^24 from by decide) rfl))
        intro w28 hBw28 hEw28
        have hzw28:=hEw28.size;have hlw28:=hBw28.lt
        have hmw28:Ms unC 280 w26.heap.size (w26.heap.size+1) w28 (pA w26.heap.size 0) 1 1 [(zaA l c s v j)]:=Ms.of_pre (r:= []) (by rw [List.append_nil];exact hBw28) zK rfl (Nat.le_refl _) (by decide) (Nat.le_refl _) (Nat.lt_succ_self _)
        have hK49:=(((((((hOb.ext hEw7).ext hEw8).ext hEw23).ext hEw24).chg hCw25).chg hC8).ext hEw28)
        refine za (zbE (some 79) 36 36 77 384 (vA (unC Un.zero)) hK49 hmw28 zbh ?_ (by rw [Value.cells,List.size_toArray,zK]) (by decide))
        intro a5 c4 w29 hOw29 hCw29
        have hzw29:=hCw29.size
        have hSw29:=hOw29.ms;have hlea5:=hSw29.le
        refine zc 1 [(80,(vP w2.heap.size 1))] ?_
        have hK50:=(((((((hOb.ext hEw7).ext hEw8).ext hEw23).ext hEw24).chg hCw25).chg hC8).ext hEw28)
        refine za (zaj 36 w2.heap.size 1 38 (.slice a5 (num n_l v+j+1) c4) ([(vI n_l),(.slice ap (num n_l v+j) cq)]) (((hK48.ext hEw28)).chg hCw29 (fun hs=>by have hn:=hK50.ne hs;omega)) (by first | decide |(simp;done)|(simp;omega)) ?_)
        have hK51:=(((((((hOb.ext hEw7).ext hEw8).ext hEw23).ext hEw24).chg hCw25).chg hC8).ext hEw28)
        intro w30 hBw30 hCw30
        have hzw30:=hCw30.size
        rw [show (([(vI n_l),(.slice ap (num n_l v+j) cq)]).set 1 (.slice a5 (num n_l v+j+1) c4):List Value)= [(vI n_l),(.slice a5 (num n_l v+j+1) c4)] from rfl] at hBw30
        refine zf (zi (zb (zd (zc 1 [(28,(vI j))] (za (zo (some 29) .i64 (IntKind.i64.wrap (((j:Nat):Int)+((1:Nat):Int))) (j+1) (zu) ?_))))))
        refine zc 1 [(7,(vI (j+1)))] (zf (zz ?_))
        have hK52:=(((((((hOb.ext hEw7).ext hEw8).ext hEw23).ext hEw24).chg hCw25).chg hC8).ext hEw28)
        have hK53:=((((((((((hQ1b.ext hEw7).ext hEw8).ext hEw23).ext hEw24).chg hCw25).chg hC8).ext hEw28)).chg hCw29 (fun hs=>by have hn:=hK52.ne hs;omega)).chg hCw30)
        have hK54:=(((((((hOb.ext hEw7).ext hEw8).ext hEw23).ext hEw24).chg hCw25).chg hC8).ext hEw28)
        have hK55:=((((((((((hQ2b.ext hEw7).ext hEw8).ext hEw23).ext hEw24).chg hCw25).chg hC8).ext hEw28)).chg hCw29 (fun hs=>by have hn:=hK54.ne hs;omega)).chg hCw30)
        have hK56:=(((((((hOb.ext hEw7).ext hEw8).ext hEw23).ext hEw24).chg hCw25).chg hC8).ext hEw28)
        have hK57:=((((((((((hNb.ext hEw7).ext hEw8).ext hEw23).ext hEw24).chg hCw25).chg hC8).ext hEw28)).chg hCw29 (fun k h1 h2 hs=>by have hn:=hK56.ne hs;omega)).chg hCw30)
        have hK58:=(((((((hOb.ext hEw7).ext hEw8).ext hEw23).ext hEw24).chg hCw25).chg hC8).ext hEw28)
        have hX9:Ext w w30:=(Ext.own (Ext.ownS ((Ext.own (Ext.own ((((hEb.trans hEw7).trans hEw8).trans hEw23).trans hEw24) hCw25 (by omega)) hC8 (by omega)).trans hEw28) hCw29 (fun k hs hk=>by have hn:=hK58.ne hs;omega)) hCw30 (by omega))
        refine zL (j+1,a5,c4) ?_ ?_
        ·exact ⟨by omega,by omega,by rw [zcz];exact ((hOw29.chg hCw30)).now,hBw30,hK53,hK55,hK57,hX9⟩
        ·first | omega |(dsimp only;omega)
      ·replace hc52:¬(v=0):=by have:=zbI hc52;omega
       rw [zdC (by omega)] at hB8
       refine zc 9 [(61,vF),(60,undef),(59,undef),(58,undef),(57,undef),(56,undef),(55,undef),(54,vF),(53,vF)] (zf (zb (zh (zP (zq (zq (zH (zb (zd ?_)))))))))
       refine zc 1 [(75,(vP w2.heap.size 1))] ?_
       have hK59:=((((((hTb.ext hEw7).ext hEw8).ext hEw23).ext hEw24).chg hCw25).chg hC8)
       refine za (zm w2.heap.size 1 (hK59.cell rfl) ?_)
       refine za (zT w8.heap.size 0 (hB8.all) (zK _) ?_)
       refine za (zcV (some 78) (Instr.buildSlice 36 1 #[(0,(vA (unC (zaA l c s v j))))]) (.slice (pA w26.heap.size 0) 1 1) (([(zaA l c s v j)]:List Un).flatMap unC) 77 ?_ (hr:=zda (f:=unC) (sz:=280) (z:=(vA (unC Un.zero))) [(zaA l c s v j)] zK (by decide) rfl (Nat.succ_pos _) (show 280≤2^24 from by decide) rfl))
       intro w31 hBw31 hEw31
       have hzw31:=hEw31.size;have hlw31:=hBw31.lt
       have hmw31:Ms unC 280 w26.heap.size (w26.heap.size+1) w31 (pA w26.heap.size 0) 1 1 [(zaA l c s v j)]:=Ms.of_pre (r:= []) (by rw [List.append_nil];exact hBw31) zK rfl (Nat.le_refl _) (by decide) (Nat.le_refl _) (Nat.lt_succ_self _)
       have hK60:=(((((((hOb.ext hEw7).ext hEw8).ext hEw23).ext hEw24).chg hCw25).chg hC8).ext hEw31)
       refine za (zbE (some 79) 36 36 77 384 (vA (unC Un.zero)) hK60 hmw31 zbh ?_ (by rw [Value.cells,List.size_toArray,zK]) (by decide))
       intro a6 c5 w32 hOw32 hCw32
       have hzw32:=hCw32.size
       have hSw32:=hOw32.ms;have hlea6:=hSw32.le
       refine zc 1 [(80,(vP w2.heap.size 1))] ?_
       have hK61:=(((((((hOb.ext hEw7).ext hEw8).ext hEw23).ext hEw24).chg hCw25).chg hC8).ext hEw31)
       refine za (zaj 36 w2.heap.size 1 38 (.slice a6 (num n_l v+j+1) c5) ([(vI n_l),(.slice ap (num n_l v+j) cq)]) (((hK59.ext hEw31)).chg hCw32 (fun hs=>by have hn:=hK61.ne hs;omega)) (by first | decide |(simp;done)|(simp;omega)) ?_)
       have hK62:=(((((((hOb.ext hEw7).ext hEw8).ext hEw23).ext hEw24).chg hCw25).chg hC8).ext hEw31)
       intro w33 hBw33 hCw33
       have hzw33:=hCw33.size
       rw [show (([(vI n_l),(.slice ap (num n_l v+j) cq)]).set 1 (.slice a6 (num n_l v+j+1) c5):List Value)= [(vI n_l),(.slice a6 (num n_l v+j+1) c5)] from rfl] at hBw33
       refine zf (zi (zb (zd (zc 1 [(28,(vI j))] (za (zo (some 29) .i64 (IntKind.i64.wrap (((j:Nat):Int)+((1:Nat):Int))) (j+1) (zu) ?_))))))
       refine zc 1 [(7,(vI (j+1)))] (zf (zz ?_))
       have hK63:=(((((((hOb.ext hEw7).ext hEw8).ext hEw23).ext hEw24).chg hCw25).chg hC8).ext hEw31)
       have hK64:=((((((((((hQ1b.ext hEw7).ext hEw8).ext hEw23).ext hEw24).chg hCw25).chg hC8).ext hEw31)).chg hCw32 (fun hs=>by have hn:=hK63.ne hs;omega)).chg hCw33)
       have hK65:=(((((((hOb.ext hEw7).ext hEw8).ext hEw23).ext hEw24).chg hCw25).chg hC8).ext hEw31)
       have hK66:=((((((((((hQ2b.ext hEw7).ext hEw8).ext hEw23).ext hEw24).chg hCw25).chg hC8).ext hEw31)).chg hCw32 (fun hs=>by have hn:=hK65.ne hs;omega)).chg hCw33)
       have hK67:=(((((((hOb.ext hEw7).ext hEw8).ext hEw23).ext hEw24).chg hCw25).chg hC8).ext hEw31)
       have hK68:=((((((((((hNb.ext hEw7).ext hEw8).ext hEw23).ext hEw24).chg hCw25).chg hC8).ext hEw31)).chg hCw32 (fun k h1 h2 hs=>by have hn:=hK67.ne hs;omega)).chg hCw33)
       have hK69:=(((((((hOb.ext hEw7).ext hEw8).ext hEw23).ext hEw24).chg hCw25).chg hC8).ext hEw31)
       have hX10:Ext w w33:=(Ext.own (Ext.ownS ((Ext.own (Ext.own ((((hEb.trans hEw7).trans hEw8).trans hEw23).trans hEw24) hCw25 (by omega)) hC8 (by omega)).trans hEw31) hCw32 (fun k hs hk=>by have hn:=hK69.ne hs;omega)) hCw33 (by omega))
       refine zL (j+1,a6,c5) ?_ ?_
       ·exact ⟨by omega,by omega,by rw [zcz];exact ((hOw32.chg hCw33)).now,hBw33,hK64,hK66,hK68,hX10⟩
       ·first | omega |(dsimp only;omega)
     ·replace hc49:¬(x<4):=by have:=zad hc49;omega
      rw [zdC (by omega)] at hB8
      refine zc 12 [(61,vF),(60,undef),(59,undef),(58,undef),(57,undef),(56,undef),(55,undef),(54,vF),(53,vF),(52,undef),(51,undef),(50,vF)] (zf (zb (zh (zP (zq (zq (zH (zb (zd ?_)))))))))
      refine zc 1 [(75,(vP w2.heap.size 1))] ?_
      have hK70:=((((((hTb.ext hEw7).ext hEw8).ext hEw23).ext hEw24).chg hCw25).chg hC8)
      refine za (zm w2.heap.size 1 (hK70.cell rfl) ?_)
      refine za (zT w8.heap.size 0 (hB8.all) (zK _) ?_)
      refine za (zcV (some 78) (Instr.buildSlice 36 1 #[(0,(vA (unC (zaA l c s v j))))]) (.slice (pA w26.heap.size 0) 1 1) (([(zaA l c s v j)]:List Un).flatMap unC) 77 ?_ (hr:=zda (f:=unC) (sz:=280) (z:=(vA (unC Un.zero))) [(zaA l c s v j)] zK (by decide) rfl (Nat.succ_pos _) (show 280≤2^24 from by decide) rfl))
      intro w34 hBw34 hEw34
      have hzw34:=hEw34.size;have hlw34:=hBw34.lt
      have hmw34:Ms unC 280 w26.heap.size (w26.heap.size+1) w34 (pA w26.heap.size 0) 1 1 [(zaA l c s v j)]:=Ms.of_pre (r:= []) (by rw [List.append_nil];exact hBw34) zK rfl (Nat.le_refl _) (by decide) (Nat.le_refl _) (Nat.lt_succ_self _)
      have hK71:=(((((((hOb.ext hEw7).ext hEw8).ext hEw23).ext hEw24).chg hCw25).chg hC8).ext hEw34)
      refine za (zbE (some 79) 36 36 77 384 (vA (unC Un.zero)) hK71 hmw34 zbh ?_ (by rw [Value.cells,List.size_toArray,zK]) (by decide))
      intro a7 c6 w35 hOw35 hCw35
      have hzw35:=hCw35.size
      have hSw35:=hOw35.ms;have hlea7:=hSw35.le
      refine zc 1 [(80,(vP w2.heap.size 1))] ?_
      have hK72:=(((((((hOb.ext hEw7).ext hEw8).ext hEw23).ext hEw24).chg hCw25).chg hC8).ext hEw34)
      refine za (zaj 36 w2.heap.size 1 38 (.slice a7 (num n_l v+j+1) c6) ([(vI n_l),(.slice ap (num n_l v+j) cq)]) (((hK70.ext hEw34)).chg hCw35 (fun hs=>by have hn:=hK72.ne hs;omega)) (by first | decide |(simp;done)|(simp;omega)) ?_)
      have hK73:=(((((((hOb.ext hEw7).ext hEw8).ext hEw23).ext hEw24).chg hCw25).chg hC8).ext hEw34)
      intro w36 hBw36 hCw36
      have hzw36:=hCw36.size
      rw [show (([(vI n_l),(.slice ap (num n_l v+j) cq)]).set 1 (.slice a7 (num n_l v+j+1) c6):List Value)= [(vI n_l),(.slice a7 (num n_l v+j+1) c6)] from rfl] at hBw36
      refine zf (zi (zb (zd (zc 1 [(28,(vI j))] (za (zo (some 29) .i64 (IntKind.i64.wrap (((j:Nat):Int)+((1:Nat):Int))) (j+1) (zu) ?_))))))
      refine zc 1 [(7,(vI (j+1)))] (zf (zz ?_))
      have hK74:=(((((((hOb.ext hEw7).ext hEw8).ext hEw23).ext hEw24).chg hCw25).chg hC8).ext hEw34)
      have hK75:=((((((((((hQ1b.ext hEw7).ext hEw8).ext hEw23).ext hEw24).chg hCw25).chg hC8).ext hEw34)).chg hCw35 (fun hs=>by have hn:=hK74.ne hs;omega)).chg hCw36)
      have hK76:=(((((((hOb.ext hEw7).ext hEw8).ext hEw23).ext hEw24).chg hCw25).chg hC8).ext hEw34)
      have hK77:=((((((((((hQ2b.ext hEw7).ext hEw8).ext hEw23).ext hEw24).chg hCw25).chg hC8).ext hEw34)).chg hCw35 (fun hs=>by have hn:=hK76.ne hs;omega)).chg hCw36)
      have hK78:=(((((((hOb.ext hEw7).ext hEw8).ext hEw23).ext hEw24).chg hCw25).chg hC8).ext hEw34)
      have hK79:=((((((((((hNb.ext hEw7).ext hEw8).ext hEw23).ext hEw24).chg hCw25).chg hC8).ext hEw34)).chg hCw35 (fun k h1 h2 hs=>by have hn:=hK78.ne hs;omega)).chg hCw36)
      have hK80:=(((((((hOb.ext hEw7).ext hEw8).ext hEw23).ext hEw24).chg hCw25).chg hC8).ext hEw34)
      have hX11:Ext w w36:=(Ext.own (Ext.ownS ((Ext.own (Ext.own ((((hEb.trans hEw7).trans hEw8).trans hEw23).trans hEw24) hCw25 (by omega)) hC8 (by omega)).trans hEw34) hCw35 (fun k hs hk=>by have hn:=hK80.ne hs;omega)) hCw36 (by omega))
      refine zL (j+1,a7,c6) ?_ ?_
      ·exact ⟨by omega,by omega,by rw [zcz];exact ((hOw35.chg hCw36)).now,hBw36,hK75,hK77,hK79,hX11⟩
      ·first | omega |(dsimp only;omega)
   ·refine zaf (unC Un.zero) 77 ?_
    intro w37 hBw37 hEw37 hzw37 hlw37
    refine ⟨.inr hEw37, ?_⟩
    have hK81:=(((h_l.ext hEb).ext hEw7).ext hEw37)
    refine zx 5 (zp (zjl v j _ hK81 ((hNb.ext hEw7).ext hEw37) (by omega) (by omega) (by omega) (by omega) (by omega) (fun i=>Nat.le_trans (zjp hp4 i) (by decide))) ?_)
    rintro _ w38 ⟨rfl,hEw38⟩
    have hzw38:=hEw38.size
    have hX12:Ext w7 w38:=(hEw37.trans hEw38)
    refine ⟨.inr hX12, ?_⟩
    have hK82:=((((h_c.ext hEb).ext hEw7).ext hEw37).ext hEw38)
    have hK83:=((((h_s.ext hEb).ext hEw7).ext hEw37).ext hEw38)
    refine zx 16 (zp (zhu v j _ (hK81.ext hEw38) hK82 hK83 (by omega) (by omega) (by omega)) ?_)
    rintro _ w39 ⟨rfl,hEw39⟩
    have hzw39:=hEw39.size
    have hX13:Ext w7 w39:=((hEw37.trans hEw38).trans hEw39)
    refine ⟨.inr hX13, ?_⟩
    refine zn (hw:=hX13) hT105 17 (vA (unC (⟨(zao l (zaQ n_l c s) v j),((gt s (num n_l v+j):Nat):Int),drt c v j,List.replicate 4 false,rfl⟩))) (zag (Instr.build 77 #[(0,(vA (zJ (zao l (zaQ n_l c s) v j)))),(1,(vI (gt s (num n_l v+j)))),(2,(.bool (drt c v j)))]) (fun w' hC=>zft (zao l (zaQ n_l c s) v j) ((gt s (num n_l v+j):Nat):Int) (drt c v j))) (zx 19 (zG 77 w7.heap.size 0 77 (vA (unC (⟨(zao l (zaQ n_l c s) v j),((gt s (num n_l v+j):Nat):Int),drt c v j,List.replicate 4 false,rfl⟩))) (unC Un.zero) (unC (⟨(zao l (zaQ n_l c s) v j),((gt s (num n_l v+j):Nat):Int),drt c v j,List.replicate 4 false,rfl⟩)) ((hBw37.ext hEw38).ext hEw39) (by rw [zK];kernel_rfl) (by first |(simp;done)|(simp;omega)) (zbh _) ?_))
    intro w40 hBw40 hCw40
    have hzw40:=hCw40.size
    rw [zy _ _ (by simp)] at hBw40
    refine ⟨.inl (by kernel_rfl), ?_⟩
    refine zE (zb (ze (ze (zd (zc 1 [(9,(vI 0))] (zf (zb (zr (zU (X:=Nat) (fun x=> [(9,(vI x))]) [48,49,50,51,52,53,54,55,56,57,58,59,60,61,62,63,64,65,66,67,68,69,70,71,72,73,74] (fun x w41=>x≤4∧Blk w41 w7.heap.size (unC (unW l c s v j x)) 77∧Chg (fun k=>k=w7.heap.size) w40 w41) (fun x=>4-x) 0 (by kernel_rfl) ⟨by omega,by rw [zib,←hll];exact hBw40,Chg.refl _ _⟩ ?_)))))))))
    rintro x dw41 w41 ⟨hx,hB8,hC8⟩
    have hz8:=hC8.size
    have hl8:=hB8.lt
    refine ze (ze (zd (zc 1 [(48,(vI x))] (za (zF (some 49) (decide (((x:Nat):Int)<((4:Nat):Int))) (fun hc49=> ?_) (fun hc49=> ?_))))))
    ·replace hc49:x<4:=by have:=zac hc49;omega
     refine zc 2 [(51,(vI v)),(50,vT)] (za (zF (some 52) ((((v:Nat):Int)==((0:Nat):Int))) (fun hc52=> ?_) (fun hc52=> ?_)))
     ·replace hc52:v=0:=by have:=zbJ hc52;omega
      refine zc 3 [(55,(vI j)),(54,vT),(53,vT)] (za (zo (some 56) .i64 (IntKind.i64.wrap (((4:Nat):Int)*((j:Nat):Int))) (4*j) (zu) ?_))
      refine zc 1 [(57,(vI x))] (za (zo (some 58) .i64 (IntKind.i64.wrap (((4*j:Nat):Int)+((x:Nat):Int))) (4*j+x) (zu) ?_))
      refine zc 1 [(59,(vI n_l))] (za (zF (some 60) (decide (((4*j+x:Nat):Int)<((n_l:Nat):Int))) (fun hc60=> ?_) (fun hc60=> ?_)))
      ·replace hc60:4*j+x<n_l:=by have:=zac hc60;omega
       refine zc 1 [(61,vT)] (zf (zb (zv (zk (zb (ze (zr (zd (zc 2 [(65,(vP w.heap.size 1)),(64,(vI x))] ?_)))))))))
       have hK84:=((((((hQ1b.ext hEw7).ext hEw37).ext hEw38).ext hEw39).chg hCw40).chg hC8)
       refine za (zm w.heap.size 1 (hK84.cell rfl) ?_)
       refine zc 1 [(67,(vI j))] (za (zo (some 68) .i64 (IntKind.i64.wrap (((4:Nat):Int)*((j:Nat):Int))) (4*j) (zu) ?_))
       refine zc 1 [(69,(vI x))] (za (zo (some 70) .i64 (IntKind.i64.wrap (((4*j:Nat):Int)+((x:Nat):Int))) (4*j+x) (zu) ?_))
       obtain ⟨b4,o4,rfl⟩:=hK82.addr (by omega)
       refine za (zah b4 o4 n_c c_c (4*j+x) 1 ?_)
       have hK85:=(((hK82.ext hEw39).chg hCw40).chg hC8)
       refine za (zm b4 (o4+(4*j+x)*1) (hK85.cellb (by omega)) ?_)
       refine zc 1 [(73,(vP w7.heap.size 276))] (za (zbg w7.heap.size 276 x 4 1 ?_))
       refine za (zaj 4 w7.heap.size (276+x*1) 77 (.bool (c.getD (4*j+x) false)) (unC (unW l c s v j x)) hB8 (by first | decide |(simp;done)|(simp;omega)) ?_)
       intro w42 hBw42 hCw42
       have hzw42:=hCw42.size
       rw [show ((unC (unW l c s v j x)).set (276+x*1) (.bool (c.getD (4*j+x) false)):List Value)=unC (unW l c s v j (x+1)) from (zgP (by omega)).trans (congrArg unC (zjh (by omega) (by omega)))] at hBw42
       refine zf (zi (zb (zd (zc 1 [(62,(vI x))] (za (zo (some 63) .i64 (IntKind.i64.wrap (((x:Nat):Int)+((1:Nat):Int))) (x+1) (zu) ?_))))))
       refine zc 1 [(9,(vI (x+1)))] (zf (zz (zL (x+1) ?_ ?_)))
       ·exact ⟨by omega,hBw42,(Chg.then (Chg.then (Chg.refl (fun k=>k=w7.heap.size) w40) hC8 (fun k hk hs=>by have h:k=_:=hs;first | exact hs | exact .inl h | exact .inr h |(exfalso;omega))) hCw42 (fun k hk hs=>by have h:k=_:=hs;first | exact hs | exact .inl h | exact .inr h |(exfalso;omega)))⟩
       ·first | omega |(dsimp only;omega)
      ·replace hc60:¬(4*j+x<n_l):=by have:=zad hc60;omega
       rw [zdC (by omega)] at hB8
       refine zc 1 [(61,vF)] (zf (zb (zh (zP (zq (zq (zH (zb (zd ?_)))))))))
       refine zc 1 [(75,(vP w2.heap.size 1))] ?_
       have hK86:=((((((hTb.ext hEw7).ext hEw37).ext hEw38).ext hEw39).chg hCw40).chg hC8)
       refine za (zm w2.heap.size 1 (hK86.cell rfl) ?_)
       refine za (zT w7.heap.size 0 (hB8.all) (zK _) ?_)
       refine za (zcV (some 78) (Instr.buildSlice 36 1 #[(0,(vA (unC (zaA l c s v j))))]) (.slice (pA w41.heap.size 0) 1 1) (([(zaA l c s v j)]:List Un).flatMap unC) 77 ?_ (hr:=zda (f:=unC) (sz:=280) (z:=(vA (unC Un.zero))) [(zaA l c s v j)] zK (by decide) rfl (Nat.succ_pos _) (show 280≤2^24 from by decide) rfl))
       intro w43 hBw43 hEw43
       have hzw43:=hEw43.size;have hlw43:=hBw43.lt
       have hmw43:Ms unC 280 w41.heap.size (w41.heap.size+1) w43 (pA w41.heap.size 0) 1 1 [(zaA l c s v j)]:=Ms.of_pre (r:= []) (by rw [List.append_nil];exact hBw43) zK rfl (Nat.le_refl _) (by decide) (Nat.le_refl _) (Nat.lt_succ_self _)
       have hK87:=(((((((hOb.ext hEw7).ext hEw37).ext hEw38).ext hEw39).chg hCw40).chg hC8).ext hEw43)
       refine za (zbE (some 79) 36 36 77 384 (vA (unC Un.zero)) hK87 hmw43 zbh ?_ (by rw [Value.cells,List.size_toArray,zK]) (by decide))
       intro a8 c7 w44 hOw44 hCw44
       have hzw44:=hCw44.size
       have hSw44:=hOw44.ms;have hlea8:=hSw44.le
       refine zc 1 [(80,(vP w2.heap.size 1))] ?_
       have hK88:=(((((((hOb.ext hEw7).ext hEw37).ext hEw38).ext hEw39).chg hCw40).chg hC8).ext hEw43)
       refine za (zaj 36 w2.heap.size 1 38 (.slice a8 (num n_l v+j+1) c7) ([(vI n_l),(.slice ap (num n_l v+j) cq)]) (((hK86.ext hEw43)).chg hCw44 (fun hs=>by have hn:=hK88.ne hs;omega)) (by first | decide |(simp;done)|(simp;omega)) ?_)
       have hK89:=(((((((hOb.ext hEw7).ext hEw37).ext hEw38).ext hEw39).chg hCw40).chg hC8).ext hEw43)
       intro w45 hBw45 hCw45
       have hzw45:=hCw45.size
       rw [show (([(vI n_l),(.slice ap (num n_l v+j) cq)]).set 1 (.slice a8 (num n_l v+j+1) c7):List Value)= [(vI n_l),(.slice a8 (num n_l v+j+1) c7)] from rfl] at hBw45
       refine zf (zi (zb (zd (zc 1 [(28,(vI j))] (za (zo (some 29) .i64 (IntKind.i64.wrap (((j:Nat):Int)+((1:Nat):Int))) (j+1) (zu) ?_))))))
       refine zc 1 [(7,(vI (j+1)))] (zf (zz ?_))
       have hK90:=(((((((hOb.ext hEw7).ext hEw37).ext hEw38).ext hEw39).chg hCw40).chg hC8).ext hEw43)
       have hK91:=((((((((((hQ1b.ext hEw7).ext hEw37).ext hEw38).ext hEw39).chg hCw40).chg hC8).ext hEw43)).chg hCw44 (fun hs=>by have hn:=hK90.ne hs;omega)).chg hCw45)
       have hK92:=(((((((hOb.ext hEw7).ext hEw37).ext hEw38).ext hEw39).chg hCw40).chg hC8).ext hEw43)
       have hK93:=((((((((((hQ2b.ext hEw7).ext hEw37).ext hEw38).ext hEw39).chg hCw40).chg hC8).ext hEw43)).chg hCw44 (fun hs=>by have hn:=hK92.ne hs;omega)).chg hCw45)
       have hK94:=(((((((hOb.ext hEw7).ext hEw37).ext hEw38).ext hEw39).chg hCw40).chg hC8).ext hEw43)
       have hK95:=((((((((((hNb.ext hEw7).ext hEw37).ext hEw38).ext hEw39).chg hCw40).chg hC8).ext hEw43)).chg hCw44 (fun k h1 h2 hs=>by have hn:=hK94.ne hs;omega)).chg hCw45)
       have hK96:=(((((((hOb.ext hEw7).ext hEw37).ext hEw38).ext hEw39).chg hCw40).chg hC8).ext hEw43)
       have hX14:Ext w w45:=(Ext.own (Ext.ownS ((Ext.own (Ext.own ((((hEb.trans hEw7).trans hEw37).trans hEw38).trans hEw39) hCw40 (by omega)) hC8 (by omega)).trans hEw43) hCw44 (fun k hs hk=>by have hn:=hK96.ne hs;omega)) hCw45 (by omega))
       refine zL (j+1,a8,c7) ?_ ?_
       ·exact ⟨by omega,by omega,by rw [zcz];exact ((hOw44.chg hCw45)).now,hBw45,hK91,hK93,hK95,hX14⟩
       ·first | omega |(dsimp only;omega)
     ·replace hc52:¬(v=0):=by have:=zbI hc52;omega
      rw [zdC (by omega)] at hB8
      refine zc 9 [(61,vF),(60,undef),(59,undef),(58,undef),(57,undef),(56,undef),(55,undef),(54,vF),(53,vF)] (zf (zb (zh (zP (zq (zq (zH (zb (zd ?_)))))))))
      refine zc 1 [(75,(vP w2.heap.size 1))] ?_
      have hK97:=((((((hTb.ext hEw7).ext hEw37).ext hEw38).ext hEw39).chg hCw40).chg hC8)
      refine za (zm w2.heap.size 1 (hK97.cell rfl) ?_)
      refine za (zT w7.heap.size 0 (hB8.all) (zK _) ?_)
      refine za (zcV (some 78) (Instr.buildSlice 36 1 #[(0,(vA (unC (zaA l c s v j))))]) (.slice (pA w41.heap.size 0) 1 1) (([(zaA l c s v j)]:List Un).flatMap unC) 77 ?_ (hr:=zda (f:=unC) (sz:=280) (z:=(vA (unC Un.zero))) [(zaA l c s v j)] zK (by decide) rfl (Nat.succ_pos _) (show 280≤2^24 from by decide) rfl))
      intro w46 hBw46 hEw46
      have hzw46:=hEw46.size;have hlw46:=hBw46.lt
      have hmw46:Ms unC 280 w41.heap.size (w41.heap.size+1) w46 (pA w41.heap.size 0) 1 1 [(zaA l c s v j)]:=Ms.of_pre (r:= []) (by rw [List.append_nil];exact hBw46) zK rfl (Nat.le_refl _) (by decide) (Nat.le_refl _) (Nat.lt_succ_self _)
      have hK98:=(((((((hOb.ext hEw7).ext hEw37).ext hEw38).ext hEw39).chg hCw40).chg hC8).ext hEw46)
      refine za (zbE (some 79) 36 36 77 384 (vA (unC Un.zero)) hK98 hmw46 zbh ?_ (by rw [Value.cells,List.size_toArray,zK]) (by decide))
      intro a9 c8 w47 hOw47 hCw47
      have hzw47:=hCw47.size
      have hSw47:=hOw47.ms;have hlea9:=hSw47.le
      refine zc 1 [(80,(vP w2.heap.size 1))] ?_
      have hK99:=(((((((hOb.ext hEw7).ext hEw37).ext hEw38).ext hEw39).chg hCw40).chg hC8).ext hEw46)
      refine za (zaj 36 w2.heap.size 1 38 (.slice a9 (num n_l v+j+1) c8) ([(vI n_l),(.slice ap (num n_l v+j) cq)]) (((hK97.ext hEw46)).chg hCw47 (fun hs=>by have hn:=hK99.ne hs;omega)) (by first | decide |(simp;done)|(simp;omega)) ?_)
      have hK100:=(((((((hOb.ext hEw7).ext hEw37).ext hEw38).ext hEw39).chg hCw40).chg hC8).ext hEw46)
      intro w48 hBw48 hCw48
      have hzw48:=hCw48.size
      rw [show (([(vI n_l),(.slice ap (num n_l v+j) cq)]).set 1 (.slice a9 (num n_l v+j+1) c8):List Value)= [(vI n_l),(.slice a9 (num n_l v+j+1) c8)] from rfl] at hBw48
      refine zf (zi (zb (zd (zc 1 [(28,(vI j))] (za (zo (some 29) .i64 (IntKind.i64.wrap (((j:Nat):Int)+((1:Nat):Int))) (j+1) (zu) ?_))))))
      refine zc 1 [(7,(vI (j+1)))] (zf (zz ?_))
      have hK101:=(((((((hOb.ext hEw7).ext hEw37).ext hEw38).ext hEw39).chg hCw40).chg hC8).ext hEw46)
      have hK102:=((((((((((hQ1b.ext hEw7).ext hEw37).ext hEw38).ext hEw39).chg hCw40).chg hC8).ext hEw46)).chg hCw47 (fun hs=>by have hn:=hK101.ne hs;omega)).chg hCw48)
      have hK103:=(((((((hOb.ext hEw7).ext hEw37).ext hEw38).ext hEw39).chg hCw40).chg hC8).ext hEw46)
      have hK104:=((((((((((hQ2b.ext hEw7).ext hEw37).ext hEw38).ext hEw39).chg hCw40).chg hC8).ext hEw46)).chg hCw47 (fun hs=>by have hn:=hK103.ne hs;omega)).chg hCw48)
      have hK105:=(((((((hOb.ext hEw7).ext hEw37).ext hEw38).ext hEw39).chg hCw40).chg hC8).ext hEw46)
      have hK106:=((((((((((hNb.ext hEw7).ext hEw37).ext hEw38).ext hEw39).chg hCw40).chg hC8).ext hEw46)).chg hCw47 (fun k h1 h2 hs=>by have hn:=hK105.ne hs;omega)).chg hCw48)
      have hK107:=(((((((hOb.ext hEw7).ext hEw37).ext hEw38).ext hEw39).chg hCw40).chg hC8).ext hEw46)
      have hX15:Ext w w48:=(Ext.own (Ext.ownS ((Ext.own (Ext.own ((((hEb.trans hEw7).trans hEw37).trans hEw38).trans hEw39) hCw40 (by omega)) hC8 (by omega)).trans hEw46) hCw47 (fun k hs hk=>by have hn:=hK107.ne hs;omega)) hCw48 (by omega))
      refine zL (j+1,a9,c8) ?_ ?_
      ·exact ⟨by omega,by omega,by rw [zcz];exact ((hOw47.chg hCw48)).now,hBw48,hK102,hK104,hK106,hX15⟩
      ·first | omega |(dsimp only;omega)
    ·replace hc49:¬(x<4):=by have:=zad hc49;omega
     rw [zdC (by omega)] at hB8
     refine zc 12 [(61,vF),(60,undef),(59,undef),(58,undef),(57,undef),(56,undef),(55,undef),(54,vF),(53,vF),(52,undef),(51,undef),(50,vF)] (zf (zb (zh (zP (zq (zq (zH (zb (zd ?_)))))))))
     refine zc 1 [(75,(vP w2.heap.size 1))] ?_
     have hK108:=((((((hTb.ext hEw7).ext hEw37).ext hEw38).ext hEw39).chg hCw40).chg hC8)
     refine za (zm w2.heap.size 1 (hK108.cell rfl) ?_)
     refine za (zT w7.heap.size 0 (hB8.all) (zK _) ?_)
     refine za (zcV (some 78) (Instr.buildSlice 36 1 #[(0,(vA (unC (zaA l c s v j))))]) (.slice (pA w41.heap.size 0) 1 1) (([(zaA l c s v j)]:List Un).flatMap unC) 77 ?_ (hr:=zda (f:=unC) (sz:=280) (z:=(vA (unC Un.zero))) [(zaA l c s v j)] zK (by decide) rfl (Nat.succ_pos _) (show 280≤2^24 from by decide) rfl))
     intro w49 hBw49 hEw49
     have hzw49:=hEw49.size;have hlw49:=hBw49.lt
     have hmw49:Ms unC 280 w41.heap.size (w41.heap.size+1) w49 (pA w41.heap.size 0) 1 1 [(zaA l c s v j)]:=Ms.of_pre (r:= []) (by rw [List.append_nil];exact hBw49) zK rfl (Nat.le_refl _) (by decide) (Nat.le_refl _) (Nat.lt_succ_self _)
     have hK109:=(((((((hOb.ext hEw7).ext hEw37).ext hEw38).ext hEw39).chg hCw40).chg hC8).ext hEw49)
     refine za (zbE (some 79) 36 36 77 384 (vA (unC Un.zero)) hK109 hmw49 zbh ?_ (by rw [Value.cells,List.size_toArray,zK]) (by decide))
     intro a10 c9 w50 hOw50 hCw50
     have hzw50:=hCw50.size
     have hSw50:=hOw50.ms;have hlea10:=hSw50.le
     refine zc 1 [(80,(vP w2.heap.size 1))] ?_
     have hK110:=(((((((hOb.ext hEw7).ext hEw37).ext hEw38).ext hEw39).chg hCw40).chg hC8).ext hEw49)
     refine za (zaj 36 w2.heap.size 1 38 (.slice a10 (num n_l v+j+1) c9) ([(vI n_l),(.slice ap (num n_l v+j) cq)]) (((hK108.ext hEw49)).chg hCw50 (fun hs=>by have hn:=hK110.ne hs;omega)) (by first | decide |(simp;done)|(simp;omega)) ?_)
     have hK111:=(((((((hOb.ext hEw7).ext hEw37).ext hEw38).ext hEw39).chg hCw40).chg hC8).ext hEw49)
     intro w51 hBw51 hCw51
     have hzw51:=hCw51.size
     rw [show (([(vI n_l),(.slice ap (num n_l v+j) cq)]).set 1 (.slice a10 (num n_l v+j+1) c9):List Value)= [(vI n_l),(.slice a10 (num n_l v+j+1) c9)] from rfl] at hBw51
     refine zf (zi (zb (zd (zc 1 [(28,(vI j))] (za (zo (some 29) .i64 (IntKind.i64.wrap (((j:Nat):Int)+((1:Nat):Int))) (j+1) (zu) ?_))))))
     refine zc 1 [(7,(vI (j+1)))] (zf (zz ?_))
     have hK112:=(((((((hOb.ext hEw7).ext hEw37).ext hEw38).ext hEw39).chg hCw40).chg hC8).ext hEw49)
     have hK113:=((((((((((hQ1b.ext hEw7).ext hEw37).ext hEw38).ext hEw39).chg hCw40).chg hC8).ext hEw49)).chg hCw50 (fun hs=>by have hn:=hK112.ne hs;omega)).chg hCw51)
     have hK114:=(((((((hOb.ext hEw7).ext hEw37).ext hEw38).ext hEw39).chg hCw40).chg hC8).ext hEw49)
     have hK115:=((((((((((hQ2b.ext hEw7).ext hEw37).ext hEw38).ext hEw39).chg hCw40).chg hC8).ext hEw49)).chg hCw50 (fun hs=>by have hn:=hK114.ne hs;omega)).chg hCw51)
     have hK116:=(((((((hOb.ext hEw7).ext hEw37).ext hEw38).ext hEw39).chg hCw40).chg hC8).ext hEw49)
     have hK117:=((((((((((hNb.ext hEw7).ext hEw37).ext hEw38).ext hEw39).chg hCw40).chg hC8).ext hEw49)).chg hCw50 (fun k h1 h2 hs=>by have hn:=hK116.ne hs;omega)).chg hCw51)
     have hK118:=(((((((hOb.ext hEw7).ext hEw37).ext hEw38).ext hEw39).chg hCw40).chg hC8).ext hEw49)
     have hX16:Ext w w51:=(Ext.own (Ext.ownS ((Ext.own (Ext.own ((((hEb.trans hEw7).trans hEw37).trans hEw38).trans hEw39) hCw40 (by omega)) hC8 (by omega)).trans hEw49) hCw50 (fun k hs hk=>by have hn:=hK118.ne hs;omega)) hCw51 (by omega))
     refine zL (j+1,a10,c9) ?_ ?_
     ·exact ⟨by omega,by omega,by rw [zcz];exact ((hOw50.chg hCw51)).now,hBw51,hK113,hK115,hK117,hX16⟩
     ·first | omega |(dsimp only;omega)
  ·replace hc27:¬(j<cnt n_l v):=by have:=zad hc27;omega
   obtain rfl:j=cnt n_l v:=by omega
   refine zf (zb (zh (zP (zq (zq (zH (zi (zb (zd ?_)))))))))
   refine zc 1 [(21,(vI v))] (za (zo (some 22) .i64 (IntKind.i64.wrap (((v:Nat):Int)+((1:Nat):Int))) (v+1) (zu) ?_))
   refine zc 1 [(6,(vI (v+1)))] (zf (zz (zL (v+1,ap,cq) ?_ ?_)))
   ·exact ⟨by omega,by omega,by rw [←zjv];exact (hOb).now,hTb,hQ1b,hQ2b,hNb,hEb⟩
   ·first | omega |(dsimp only;omega)
 ·replace hc20:¬(v≤hgt n_l):=by have:=zad hc20;omega
  refine zf (zb (zh (zP (zq (zq (zH (zb (ze (zd ?_)))))))))
  refine za (zO w2.heap.size 0 (hTa.all) ?_)
  refine za (zG 38 w1.heap.size 0 38 (vA [(vI n_l),(.slice ao (num n_l v) cp)]) ([(vI 0),(.slice none 0 0)]) ([(vI n_l),(.slice ao (num n_l v) cp)]) hQ2a (by kernel_rfl) (by first | decide |(simp;done)|(simp;omega)) (by simp [Value.oneCell']) ?_)
  intro w52 hBw52 hCw52
  have hzw52:=hCw52.size
  rw [zy _ _ (by kernel_rfl)] at hBw52
  refine zf (zb (zj (zaJ (show zX Tryz.prog 82 _ _ (.cell 2 38) (vA [(vI n_l),(.slice ao (num n_l v) cp)]) from ⟨⟨w1.heap.size,0,none⟩,(by kernel_rfl),zI (T:=38) (vs:= [(vI n_l),(.slice ao (num n_l v) cp)]) (hBw52).all (by kernel_rfl)⟩) ?_)))
  obtain rfl:v=hgt n_l+1:=by omega
  exact ⟨_,_,rfl,by have hz:=(hOa.chg hCw52);unfold zaw TX;rw [←hll];exact hz.now.mono (by omega) (Nat.le_refl _),(Ext.own hEa hCw52 (by omega))⟩
end Go.Proofs.YtkmhgepdhilllaaGreatDoor
