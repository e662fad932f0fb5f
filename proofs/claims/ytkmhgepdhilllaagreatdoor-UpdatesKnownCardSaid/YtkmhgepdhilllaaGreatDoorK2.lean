/- Lemmas and walks: what each function does, by its own code. No condition beyond those of each statement. -/
import Derived.Test.YtkmhgepdhilllaaGreatDoorK1
set_option linter.all false
set_option linter.unusedVariables false
namespace Go.Proofs.YtkmhgepdhilllaaGreatDoor
open Go Go.RowKit Go.Cs
set_option maxRecDepth 100000
theorem zqD (b n l j:Nat) {lo_c hi_c lo_f hi_f lo_t hi_t n_c c_c n_f c_f n_t c_t:Nat} {a_c a_f a_t:Option Addr} {c f:List Nat} {t:List Un} (w:World) (hX:Blk w b [(.slice a_c n_c c_c),(.slice a_f n_f c_f),(vI n),(.slice a_t n_t c_t),(vI (num n l+j)),(vI l)] 146) (h_c:Es (nv .i64) lo_c hi_c w a_c n_c c_c c) (h_f:Es (nv .i64) lo_f hi_f w a_f n_f c_f f) (h_t:Ms unC 280 lo_t hi_t w a_t n_t c_t t) (hp0:c=zaI n (hgt n+1)) (hp1:f=za0 n (hgt n+1)) (hp2:1≤n) (hp3:n≤4096) (hp4:n_t=tot n) (hp5:l≤hgt n) (hp6:j<cnt n l) (hp7:l=0):
  Calls Tryz.prog 81 #[(vP b 0)] w (Ret fun r w'=>r=(vI (zdM n t l j))∧Ext w w'):=by
 refine zI (n:=59) (σ:= [(0,(vP b 0))]) Tryz.func81 rfl ?_
 replace h_c:=h_c.now;replace h_f:=h_f.now;replace h_t:=h_t.now
 have hbl:=hX.lt
 have hle1:=h_c.le;have hle2:=h_f.le
 have hlc:=h_c.len_eq;rw [hp0,zbL] at hlc
 have hlf:=h_f.len_eq;rw [hp1,zb6] at hlf
 have hlt:=h_t.len_eq
 have hlet:=h_t.le
 have h5:=zat n
 have hts:=zaw hp3
 have hpl:=zaC (n:=n) (l:=l) (j:=j) hp5 hp6
 have hcn:=zbf n l
 have hgf:gt f l=num n l:=by rw [hp1];exact zci (by omega)
 refine ze (zd (zc 1 [(2,(vI 0))] (zf (zb (ze (zd (zc 1 [(9,(vP b 0))] (za (zl (some 10) (zhe b n l j _ hX h_c h_f h_t (by first | rfl | assumption) (by first | rfl | assumption) (by first | omega | decide) (by first | omega | decide) (by first | omega | decide) (by first | omega | decide) (by first | omega | decide)) ?_)))))))))
 rintro _ w1 ⟨rfl,hEw1⟩
 have hzw1:=hEw1.size
 refine za (zo (some 3) (Instr.alloc 77 true (.tuple #[])) (vP w1.heap.size 0) (unC Un.zero) 77 ?_)
 intro w2 hBw2 hEw2
 have hzw2:=hEw2.size;have hlw2:=hBw2.lt
 refine za (zv 77 w1.heap.size 0 77 (vA (unC (t.getD (num n l+j) Un.zero))) (unC Un.zero) (unC (t.getD (num n l+j) Un.zero)) hBw2 (by rw [zQ];kernel_rfl) (by first |(simp;done)|(simp;omega)) (za4 _) ?_)
 intro w3 hBw3 hCw3
 have hzw3:=hCw3.size
 rw [zm _ _ (by simp)] at hBw3
 refine zf (zb (ze (zd (zc 1 [(4,vF)] (zf (zb (ze (ze (zd ?_)))))))))
 refine zc 3 [(13,(vP b 5)),(12,(vP b 0)),(11,(vP b 0))] ?_
 have hK1:=(((((hX.ext hEw1)).ext hEw2)).chg hCw3 (fun hs=>by have h:_=_:=hs;omega))
 refine za (zj (some 14) (Instr.loadAt 3 (vP b 5)) (vI l) (zk (hK1.cell rfl)) ?_)
 refine za (zai (some 15) (((l:Nat):Int)==((0:Nat):Int)) true (zas (by omega)) ?_)
 refine zf (zb (zC (ze (zd (zc 1 [(16,(vP w1.heap.size 276))] (za (zj (some 17) (Instr.loadAt 75 (vP w1.heap.size 276)) (vA (blC (t.getD (num n l+j) Un.zero).ch)) (zw (vs:=blC (t.getD (num n l+j) Un.zero).ch) (hBw3.at 276 (blC (t.getD (num n l+j) Un.zero).ch) (zkP _)) (by rw [zhg,Un.hch];kernel_rfl)) ?_)))))))
 refine zc 1 [(18,(vI 0))] (zf (zb (zy (zY (X:=Nat×Bool) (fun ⟨k,d⟩=> [(4,(.bool d)),(18,(vI k))]) [2,5,6,19,20,21,22,23,24,25,26,27,28,29,30,31,32,33,34,35,36] (fun ⟨k,d⟩ w4=>k≤4∧d=(List.range k).any (t.getD (num n l+j) Un.zero).g∧(∀i,i<k→(t.getD (num n l+j) Un.zero).g i=true→((t.getD (num n l+j) Un.zero).nd.rs.get i).st≠0)∧Ext w3 w4) (fun ⟨k,d⟩=>4-k) (0,false) (by kernel_rfl) ⟨by omega,rfl,fun i h=>absurd h (Nat.not_lt_zero _),Ext.refl _⟩ ?_))))
 rintro ⟨k,d⟩ dw4 w4 ⟨hk,hd,hmk,hEl⟩
 have hzl:=hEl.size
 refine ze (zd (za (zK (some 19) (decide (((k:Nat):Int)<((4:Nat):Int))) (fun hc19=> ?_) (fun hc19=> ?_))))
 ·replace hc19:k<4:=by have:=zaf hc19;omega
  refine zf (zb (ze (zC (zu (zb (ze (zy (ze (zd ?_)))))))))
  refine zc 1 [(20,(vI k))] ?_
  rcases Bool.eq_false_or_eq_true (((t.getD (num n l+j) Un.zero).ch).getD k false) with hb21 | hb21
  ·refine za (zj (some 21) (Instr.index 75 (vA (blC (t.getD (num n l+j) Un.zero).ch)) (vI k)) vT (zhk (E:=4) (m:=4) (by omega) ((zjF (by first | rfl | exact Un.hch _) (by omega)).trans (congrArg (fun z=>some (Value.bool z)) hb21))) ?_)
   refine zc 2 [(6,vT),(5,(vI k))] (zf (zb (ze (ze (zd (zc 5 [(26,(vP w1.heap.size 2)),(25,(vP w1.heap.size 0)),(24,(vI k)),(23,vT),(22,vT)] (za (zj (some 27) (Instr.indexAt 69 (vP w1.heap.size 2) (vI k)) (vP w1.heap.size (2+k*35)) (zag (E:=68) (sz:=35) (m:=4) (by omega)) ?_))))))))
   refine zc 1 [(28,(vP w1.heap.size (2+k*35)))] (za (zj (some 29) (Instr.loadAt 5 (vP w1.heap.size (2+k*35))) (vB (((t.getD (num n l+j) Un.zero).nd.rs.get k).st)) (zk ((hBw3.ext hEl).cell (znF (by omega)))) ?_))
   refine za (zK (some 30) ((((((t.getD (num n l+j) Un.zero).nd.rs.get k).st:Nat):Int)==((0:Nat):Int))) (fun hc30=> ?_) (fun hc30=> ?_))
   ·replace hc30:((t.getD (num n l+j) Un.zero).nd.rs.get k).st=0:=by have:=zbp hc30;omega
    refine zc 1 [(31,vT)] (zf (zb (zC (ze (zd (zc 1 [(2,(vI 9))] (zf (zb (zq ?_)))))))))
    refine zD (zG (zD (zD (zG (zD (zr (vI 9) ?_))))))
    have hX1:Ext w w4:=((Ext.own (hEw1.trans hEw2) hCw3 (by omega)).trans hEl)
    exact ⟨congrArg (fun z:Nat=>vI z) ((if_neg (fun hh=>(zfA.1 (show zeJ (t.getD (num n l+j) Un.zero) l=true from hh.1) k (by omega) hb21).2 hc30)).symm),hX1⟩
   ·replace hc30:¬(((t.getD (num n l+j) Un.zero).nd.rs.get k).st=0):=by have:=zbo hc30;omega
    refine zc 1 [(31,vF)] (zf (zb (zn (zu (zb (zd ?_))))))
    rcases Bool.eq_false_or_eq_true (d) with hb32 | hb32
    ·rw [hb32]
     refine zc 5 [(4,vT),(35,vT),(34,undef),(33,vT),(32,vT)] (zf (zp (zb (zd (za (zt (some 36) .i64 (IntKind.i64.wrap (((k:Nat):Int)+((1:Nat):Int))) (k+1) (zA (by omega) (by omega) (by omega)) ?_))))))
     refine zc 1 [(18,(vI (k+1)))] (zf (zF (zR (k+1,true) ?_ ?_)))
     ·exact ⟨by omega,by rw [zfs,←hd,show d=true from hb32,show (t.getD (num n l+j) Un.zero).g k=true from hb21];rfl,fun i hi hg=>by rcases Nat.lt_succ_iff_lt_or_eq.1 hi with h1 | rfl;exact hmk i h1 hg;exact hc30,hEl⟩
     ·first | omega |(dsimp only;omega)
    ·rw [hb32]
     refine zc 5 [(4,vT),(35,vT),(34,vT),(33,vF),(32,vF)] (zf (zp (zb (zd (za (zt (some 36) .i64 (IntKind.i64.wrap (((k:Nat):Int)+((1:Nat):Int))) (k+1) (zA (by omega) (by omega) (by omega)) ?_))))))
     refine zc 1 [(18,(vI (k+1)))] (zf (zF (zR (k+1,true) ?_ ?_)))
     ·exact ⟨by omega,by rw [zfs,←hd,show d=false from hb32,show (t.getD (num n l+j) Un.zero).g k=true from hb21];rfl,fun i hi hg=>by rcases Nat.lt_succ_iff_lt_or_eq.1 hi with h1 | rfl;exact hmk i h1 hg;exact hc30,hEl⟩
     ·first | omega |(dsimp only;omega)
  ·refine za (zj (some 21) (Instr.index 75 (vA (blC (t.getD (num n l+j) Un.zero).ch)) (vI k)) vF (zhk (E:=4) (m:=4) (by omega) ((zjF (by first | rfl | exact Un.hch _) (by omega)).trans (congrArg (fun z=>some (Value.bool z)) hb21))) ?_)
   refine zc 2 [(6,vF),(5,(vI k))] (zf (zb (ze (ze (zd (zc 10 [(31,vF),(30,undef),(29,undef),(28,undef),(27,undef),(26,undef),(25,undef),(24,undef),(23,vF),(22,vF)] (zf (zb (zn ?_)))))))))
   refine zu (zb (zd ?_))
   rcases Bool.eq_false_or_eq_true (d) with hb32 | hb32
   ·rw [hb32]
    refine zc 5 [(4,vT),(35,vT),(34,undef),(33,vT),(32,vT)] (zf (zp (zb (zd (za (zt (some 36) .i64 (IntKind.i64.wrap (((k:Nat):Int)+((1:Nat):Int))) (k+1) (zA (by omega) (by omega) (by omega)) ?_))))))
    refine zc 1 [(18,(vI (k+1)))] (zf (zF (zR (k+1,true) ?_ ?_)))
    ·exact ⟨by omega,by rw [zfs,←hd,show d=true from hb32,show (t.getD (num n l+j) Un.zero).g k=false from hb21];rfl,fun i hi hg=>by rcases Nat.lt_succ_iff_lt_or_eq.1 hi with h1 | rfl;exact hmk i h1 hg;exact absurd (hb21.symm.trans hg) (by decide),hEl⟩
    ·first | omega |(dsimp only;omega)
   ·rw [hb32]
    refine zc 5 [(4,vF),(35,vF),(34,vF),(33,vF),(32,vF)] (zf (zp (zb (zd (za (zt (some 36) .i64 (IntKind.i64.wrap (((k:Nat):Int)+((1:Nat):Int))) (k+1) (zA (by omega) (by omega) (by omega)) ?_))))))
    refine zc 1 [(18,(vI (k+1)))] (zf (zF (zR (k+1,false) ?_ ?_)))
    ·exact ⟨by omega,by rw [zfs,←hd,show d=false from hb32,show (t.getD (num n l+j) Un.zero).g k=false from hb21];rfl,fun i hi hg=>by rcases Nat.lt_succ_iff_lt_or_eq.1 hi with h1 | rfl;exact hmk i h1 hg;exact absurd (hb21.symm.trans hg) (by decide),hEl⟩
    ·first | omega |(dsimp only;omega)
 ·replace hc19:¬(k<4):=by have:=zae hc19;omega
  obtain rfl:k=4:=by omega
  have hdir:d=zc4 n t l j:=by rw [hd];unfold zc4;rw [if_pos hp7];rfl
  have hmrk:zeJ (t.getD (num n l+j) Un.zero) l=true:=zfA.2 fun w hw hg=>⟨hp7,hmk w hw hg⟩
  refine zf (zb (ze (zn (zW (zx (zx (zL (zb (ze ?_)))))))))
  refine ze (zd (zc 1 [(55,(vP w1.heap.size 275))] (za (zj (some 56) (Instr.loadAt 4 (vP w1.heap.size 275)) (.bool ((t.getD (num n l+j) Un.zero).dt)) (zk ((hBw3.ext hEl).cell (zdc _))) ?_))))
  refine zc 1 [(57,(.bool d))] ?_
  rcases Classical.em ((t.getD (num n l+j) Un.zero).dt=d) with hq58 | hq58
  ·refine za (zai (some 58) (!((t.getD (num n l+j) Un.zero).dt==d)) false (bnF hq58) ?_)
   refine zf (zb (zn (zu (zb (ze (zd (zc 1 [(2,(vI 0))] (zf (zb ?_)))))))))
   refine zq (zr (vI 0) ?_)
   have hX2:Ext w w4:=((Ext.own (hEw1.trans hEw2) hCw3 (by omega)).trans hEl)
   exact ⟨congrArg (fun z:Nat=>vI z) ((if_pos ⟨hmrk,hq58.trans hdir⟩).symm),hX2⟩
  ·refine za (zai (some 58) (!((t.getD (num n l+j) Un.zero).dt==d)) true (bnT hq58) ?_)
   refine zf (zb (zC (ze (zd (zc 1 [(2,(vI 9))] (zf (zb (zq (zD ?_)))))))))
   refine zr (vI 9) ?_
   have hX3:Ext w w4:=((Ext.own (hEw1.trans hEw2) hCw3 (by omega)).trans hEl)
   exact ⟨congrArg (fun z:Nat=>vI z) ((if_neg (fun hh=>hq58 ((show (t.getD (num n l+j) Un.zero).dt=_ from hh.2).trans hdir.symm))).symm),hX3⟩
theorem zqO (b n l j:Nat) {lo_c hi_c lo_f hi_f lo_t hi_t n_c c_c n_f c_f n_t c_t:Nat} {a_c a_f a_t:Option Addr} {c f:List Nat} {t:List Un} (w:World) (hX:Blk w b [(.slice a_c n_c c_c),(.slice a_f n_f c_f),(vI n),(.slice a_t n_t c_t),(vI (num n l+j)),(vI l)] 146) (h_c:Es (nv .i64) lo_c hi_c w a_c n_c c_c c) (h_f:Es (nv .i64) lo_f hi_f w a_f n_f c_f f) (h_t:Ms unC 280 lo_t hi_t w a_t n_t c_t t) (hp0:c=zaI n (hgt n+1)) (hp1:f=za0 n (hgt n+1)) (hp2:1≤n) (hp3:n≤4096) (hp4:n_t=tot n) (hp5:l≤hgt n) (hp6:j<cnt n l) (hp7:l≠0):
  Calls Tryz.prog 81 #[(vP b 0)] w (Ret fun r w'=>r=(vI (zdM n t l j))∧Ext w w'):=by
 refine zI (n:=59) (σ:= [(0,(vP b 0))]) Tryz.func81 rfl ?_
 replace h_c:=h_c.now;replace h_f:=h_f.now;replace h_t:=h_t.now
 have hbl:=hX.lt
 have hle1:=h_c.le;have hle2:=h_f.le
 have hlc:=h_c.len_eq;rw [hp0,zbL] at hlc
 have hlf:=h_f.len_eq;rw [hp1,zb6] at hlf
 have hlt:=h_t.len_eq
 have hlet:=h_t.le
 have h5:=zat n
 have hts:=zaw hp3
 have hpl:=zaC (n:=n) (l:=l) (j:=j) hp5 hp6
 have hcn:=zbf n l
 have hgf:gt f l=num n l:=by rw [hp1];exact zci (by omega)
 have hch:=ziV (n:=n) (l:=l) (j:=j) (t:=t) (by omega) hp7 hp5 hp6
 have hpm:=zhi hp7 hp6
 have hcm:=zbf n (l-1)
 have hns:=zbJ (n:=n) (l:=l-1) hp3 (by omega)
 have hpq:=zaC (n:=n) (l:=l-1) (j:=min (4*j+4) (cnt n (l-1))-1) (by omega) (by omega)
 refine ze (zd (zc 1 [(2,(vI 0))] (zf (zb (ze (zd (zc 1 [(9,(vP b 0))] (za (zl (some 10) (zhe b n l j _ hX h_c h_f h_t (by first | rfl | assumption) (by first | rfl | assumption) (by first | omega | decide) (by first | omega | decide) (by first | omega | decide) (by first | omega | decide) (by first | omega | decide)) ?_)))))))))
 rintro _ w1 ⟨rfl,hEw1⟩
 have hzw1:=hEw1.size
 refine za (zo (some 3) (Instr.alloc 77 true (.tuple #[])) (vP w1.heap.size 0) (unC Un.zero) 77 ?_)
 intro w2 hBw2 hEw2
 have hzw2:=hEw2.size;have hlw2:=hBw2.lt
 refine za (zv 77 w1.heap.size 0 77 (vA (unC (t.getD (num n l+j) Un.zero))) (unC Un.zero) (unC (t.getD (num n l+j) Un.zero)) hBw2 (by rw [zQ];kernel_rfl) (by first |(simp;done)|(simp;omega)) (za4 _) ?_)
 intro w3 hBw3 hCw3
 have hzw3:=hCw3.size
 rw [zm _ _ (by simp)] at hBw3
 refine zf (zb (ze (zd (zc 1 [(4,vF)] (zf (zb (ze (ze (zd ?_)))))))))
 refine zc 3 [(13,(vP b 5)),(12,(vP b 0)),(11,(vP b 0))] ?_
 have hK1:=(((((hX.ext hEw1)).ext hEw2)).chg hCw3 (fun hs=>by have h:_=_:=hs;omega))
 refine za (zj (some 14) (Instr.loadAt 3 (vP b 5)) (vI l) (zk (hK1.cell rfl)) ?_)
 refine za (zai (some 15) (((l:Nat):Int)==((0:Nat):Int)) false (zcc (by omega)) ?_)
 refine zf (zb (zn (ze (zd (zc 1 [(38,(vP b 0))] ?_)))))
 have hK2:=(((((h_c.ext hEw1)).ext hEw2)).chg hCw3 (fun k h1 h2 hs=>by have h:k=_:=hs;omega))
 have hK3:=(((((h_f.ext hEw1)).ext hEw2)).chg hCw3 (fun k h1 h2 hs=>by have h:k=_:=hs;omega))
 have hK4:=(((((h_t.ext hEw1)).ext hEw2)).chg hCw3 (fun k h1 h2 hs=>by have h:k=_:=hs;omega))
 refine za (zl (some 39) (zqa b n l j _ hK1 hK2 hK3 hK4 (by first | rfl | assumption) (by first | rfl | assumption) (by first | omega | decide) (by first | omega | decide) (by first | omega | decide) (by first | omega | decide) (by first | omega | decide) (by first | omega | decide)) ?_)
 rintro _ w4 ⟨rfl,hEw4⟩
 have hzw4:=hEw4.size
 refine zc 5 [(8,(vI (min (4*j+4) (cnt n (l-1))+num n (l-1)))),(7,(vI (4*j+num n (l-1)))),(41,(vI (min (4*j+4) (cnt n (l-1))+num n (l-1)))),(40,(vI (4*j+num n (l-1)))),(37,(.tuple #[(vI (4*j+num n (l-1))),(vI (min (4*j+4) (cnt n (l-1))+num n (l-1)))]))] (zf (zb (ze (zd (zc 4 [(45,(vP b 3)),(44,(vP b 2)),(43,(vP b 0)),(42,(vP b 0))] (za (zj (some 46) (Instr.loadAt 36 (vP b 3)) (.slice a_t n_t c_t) (zk ((hK1.ext hEw4).cell rfl)) ?_)))))))
 refine zc 2 [(48,(vI (min (4*j+4) (cnt n (l-1))+num n (l-1)))),(47,(vI (4*j+num n (l-1))))] ?_
 obtain ⟨a1,hR1,hS1⟩:=(hK4.ext hEw4).slice Tryz.prog 36 77 (4*j+num n (l-1)) (min (4*j+4) (cnt n (l-1))+num n (l-1)) c_t (some (vI (4*j+num n (l-1)))) (some (vI (min (4*j+4) (cnt n (l-1))+num n (l-1)))) none
 refine za (zj (some 49) (Instr.sliceAt 36 (.slice a_t n_t c_t) (some (vI (4*j+num n (l-1)))) (some (vI (min (4*j+4) (cnt n (l-1))+num n (l-1)))) none) (.slice a1 (min (4*j+4) (cnt n (l-1))+num n (l-1)-(4*j+num n (l-1))) (c_t-(4*j+num n (l-1)))) (hR1 _) ?_)
 rcases Classical.em (∀i,i<List.length ((t.drop (4*j+num n (l-1))).take (min (4*j+4) (cnt n (l-1))+num n (l-1)-(4*j+num n (l-1))))→(((t.drop (4*j+num n (l-1))).take (min (4*j+4) (cnt n (l-1))+num n (l-1)-(4*j+num n (l-1)))).getD i Un.zero).dt=false) with hq50 | hq50
 ·refine za (zl (some 50) (zqv _ hS1 (hq50)) ?_)
  rintro _ w5 ⟨rfl,hEw5⟩
  have hzw5:=hEw5.size
  refine zc 1 [(4,vF)] (zf (zb (ze (zd (zc 1 [(51,(vP w1.heap.size 276))] (za (zj (some 52) (Instr.loadAt 75 (vP w1.heap.size 276)) (vA (blC (t.getD (num n l+j) Un.zero).ch)) (zw (vs:=blC (t.getD (num n l+j) Un.zero).ch) ((((hBw3.ext hEw4)).ext hEw5).at 276 (blC (t.getD (num n l+j) Un.zero).ch) (zkP _)) (by rw [zhg,Un.hch];kernel_rfl)) ?_)))))))
  refine zc 1 [(53,(vA (blC (List.replicate 4 false))))] ?_
  rcases Classical.em ((t.getD (num n l+j) Un.zero).ch=List.replicate 4 false) with hq54 | hq54
  ·refine za (zj (some 54) (bo .neq 75 (.tmp 52) (.tmp 53) (vA (blC (t.getD (num n l+j) Un.zero).ch)) (vA (blC (List.replicate 4 false)))) vF (zak (r:=true) (T:=75) ((zdy (dd:=9998) (t:=75) (e:=4) ((t.getD (num n l+j) Un.zero).ch) (List.replicate 4 false) (by first | rfl | exact Un.hch _) (by first | rfl | exact Un.hch _)).trans (congrArg (fun b=>Result.ok b _) (show (eqL false (fun a b:Bool=>a==b) 4 ((t.getD (num n l+j) Un.zero).ch) (List.replicate 4 false))=true from (zmV (Un.hch _) rfl).2 hq54)))) ?_)
   refine zf (zb (zn (zu (zb (ze (ze (zd (zc 1 [(55,(vP w1.heap.size 275))] (za (zj (some 56) (Instr.loadAt 4 (vP w1.heap.size 275)) (.bool ((t.getD (num n l+j) Un.zero).dt)) (zk ((((hBw3.ext hEw4)).ext hEw5).cell (zdc _))) ?_))))))))))
   refine zc 1 [(57,vF)] ?_
   rcases Classical.em ((t.getD (num n l+j) Un.zero).dt=false) with hq58 | hq58
   ·refine za (zai (some 58) (!((t.getD (num n l+j) Un.zero).dt==false)) false (bnF hq58) ?_)
    refine zf (zb (zn (zu (zb (ze (zd (zc 1 [(2,(vI 0))] (zf (zb ?_)))))))))
    refine zq (zr (vI 0) ?_)
    have hX1:Ext w w5:=(((Ext.own (hEw1.trans hEw2) hCw3 (by omega)).trans hEw4).trans hEw5)
    have hdv:zc4 n t l j=false:=(zgb (by omega) hp7 hp5 hp6).2 hq50
    exact ⟨congrArg (fun z:Nat=>vI z) ((if_pos ⟨(zib hp7).2 hq54,(show (t.getD (num n l+j) Un.zero).dt=_ from hq58).trans hdv.symm⟩).symm),hX1⟩
   ·refine za (zai (some 58) (!((t.getD (num n l+j) Un.zero).dt==false)) true (bnT hq58) ?_)
    refine zf (zb (zC (ze (zd (zc 1 [(2,(vI 9))] (zf (zb (zq (zD ?_)))))))))
    refine zr (vI 9) ?_
    have hX2:Ext w w5:=(((Ext.own (hEw1.trans hEw2) hCw3 (by omega)).trans hEw4).trans hEw5)
    have hdv:zc4 n t l j=false:=(zgb (by omega) hp7 hp5 hp6).2 hq50
    exact ⟨congrArg (fun z:Nat=>vI z) ((if_neg (fun hh=>hq58 ((show (t.getD (num n l+j) Un.zero).dt=_ from hh.2).trans hdv))).symm),hX2⟩
  ·refine za (zj (some 54) (bo .neq 75 (.tmp 52) (.tmp 53) (vA (blC (t.getD (num n l+j) Un.zero).ch)) (vA (blC (List.replicate 4 false)))) vT (zak (r:=false) (T:=75) ((zdy (dd:=9998) (t:=75) (e:=4) ((t.getD (num n l+j) Un.zero).ch) (List.replicate 4 false) (by first | rfl | exact Un.hch _) (by first | rfl | exact Un.hch _)).trans (congrArg (fun b=>Result.ok b _) (show (eqL false (fun a b:Bool=>a==b) 4 ((t.getD (num n l+j) Un.zero).ch) (List.replicate 4 false))=false from zql (Un.hch _) rfl hq54)))) ?_)
   refine zf (zb (zC (ze (zd (zc 1 [(2,(vI 9))] (zf (zb (zq (zD ?_)))))))))
   refine zr (vI 9) ?_
   have hX3:Ext w w5:=(((Ext.own (hEw1.trans hEw2) hCw3 (by omega)).trans hEw4).trans hEw5)
   exact ⟨congrArg (fun z:Nat=>vI z) ((if_neg (fun hh=>hq54 ((zib hp7).1 hh.1))).symm),hX3⟩
 ·refine za (zl (some 50) (zqF _ hS1 (hq50)) ?_)
  rintro _ w6 ⟨rfl,hEw6⟩
  have hzw6:=hEw6.size
  refine zc 1 [(4,vT)] (zf (zb (ze (zd (zc 1 [(51,(vP w1.heap.size 276))] (za (zj (some 52) (Instr.loadAt 75 (vP w1.heap.size 276)) (vA (blC (t.getD (num n l+j) Un.zero).ch)) (zw (vs:=blC (t.getD (num n l+j) Un.zero).ch) ((((hBw3.ext hEw4)).ext hEw6).at 276 (blC (t.getD (num n l+j) Un.zero).ch) (zkP _)) (by rw [zhg,Un.hch];kernel_rfl)) ?_)))))))
  refine zc 1 [(53,(vA (blC (List.replicate 4 false))))] ?_
  rcases Classical.em ((t.getD (num n l+j) Un.zero).ch=List.replicate 4 false) with hq54 | hq54
  ·refine za (zj (some 54) (bo .neq 75 (.tmp 52) (.tmp 53) (vA (blC (t.getD (num n l+j) Un.zero).ch)) (vA (blC (List.replicate 4 false)))) vF (zak (r:=true) (T:=75) ((zdy (dd:=9998) (t:=75) (e:=4) ((t.getD (num n l+j) Un.zero).ch) (List.replicate 4 false) (by first | rfl | exact Un.hch _) (by first | rfl | exact Un.hch _)).trans (congrArg (fun b=>Result.ok b _) (show (eqL false (fun a b:Bool=>a==b) 4 ((t.getD (num n l+j) Un.zero).ch) (List.replicate 4 false))=true from (zmV (Un.hch _) rfl).2 hq54)))) ?_)
   refine zf (zb (zn (zu (zb (ze (ze (zd (zc 1 [(55,(vP w1.heap.size 275))] (za (zj (some 56) (Instr.loadAt 4 (vP w1.heap.size 275)) (.bool ((t.getD (num n l+j) Un.zero).dt)) (zk ((((hBw3.ext hEw4)).ext hEw6).cell (zdc _))) ?_))))))))))
   refine zc 1 [(57,vT)] ?_
   rcases Classical.em ((t.getD (num n l+j) Un.zero).dt=true) with hq58 | hq58
   ·refine za (zai (some 58) (!((t.getD (num n l+j) Un.zero).dt==true)) false (bnF hq58) ?_)
    refine zf (zb (zn (zu (zb (ze (zd (zc 1 [(2,(vI 0))] (zf (zb ?_)))))))))
    refine zq (zr (vI 0) ?_)
    have hX4:Ext w w6:=(((Ext.own (hEw1.trans hEw2) hCw3 (by omega)).trans hEw4).trans hEw6)
    have hdv:zc4 n t l j=true:=by cases hd:zc4 n t l j with | true=>rfl | false=>exact absurd ((zgb (by omega) hp7 hp5 hp6).1 hd) hq50
    exact ⟨congrArg (fun z:Nat=>vI z) ((if_pos ⟨(zib hp7).2 hq54,(show (t.getD (num n l+j) Un.zero).dt=_ from hq58).trans hdv.symm⟩).symm),hX4⟩
   ·refine za (zai (some 58) (!((t.getD (num n l+j) Un.zero).dt==true)) true (bnT hq58) ?_)
    refine zf (zb (zC (ze (zd (zc 1 [(2,(vI 9))] (zf (zb (zq (zD ?_)))))))))
    refine zr (vI 9) ?_
    have hX5:Ext w w6:=(((Ext.own (hEw1.trans hEw2) hCw3 (by omega)).trans hEw4).trans hEw6)
    have hdv:zc4 n t l j=true:=by cases hd:zc4 n t l j with | true=>rfl | false=>exact absurd ((zgb (by omega) hp7 hp5 hp6).1 hd) hq50
    exact ⟨congrArg (fun z:Nat=>vI z) ((if_neg (fun hh=>hq58 ((show (t.getD (num n l+j) Un.zero).dt=_ from hh.2).trans hdv))).symm),hX5⟩
  ·refine za (zj (some 54) (bo .neq 75 (.tmp 52) (.tmp 53) (vA (blC (t.getD (num n l+j) Un.zero).ch)) (vA (blC (List.replicate 4 false)))) vT (zak (r:=false) (T:=75) ((zdy (dd:=9998) (t:=75) (e:=4) ((t.getD (num n l+j) Un.zero).ch) (List.replicate 4 false) (by first | rfl | exact Un.hch _) (by first | rfl | exact Un.hch _)).trans (congrArg (fun b=>Result.ok b _) (show (eqL false (fun a b:Bool=>a==b) 4 ((t.getD (num n l+j) Un.zero).ch) (List.replicate 4 false))=false from zql (Un.hch _) rfl hq54)))) ?_)
   refine zf (zb (zC (ze (zd (zc 1 [(2,(vI 9))] (zf (zb (zq (zD ?_)))))))))
   refine zr (vI 9) ?_
   have hX6:Ext w w6:=(((Ext.own (hEw1.trans hEw2) hCw3 (by omega)).trans hEw4).trans hEw6)
   exact ⟨congrArg (fun z:Nat=>vI z) ((if_neg (fun hh=>hq54 ((zib hp7).1 hh.1))).symm),hX6⟩
theorem zsN (b n l j:Nat) {lo_c hi_c lo_f hi_f lo_t hi_t n_c c_c n_f c_f n_t c_t:Nat} {a_c a_f a_t:Option Addr} {c f:List Nat} {t:List Un} (w:World) (hX:Blk w b [(.slice a_c n_c c_c),(.slice a_f n_f c_f),(vI n),(.slice a_t n_t c_t),(vI (num n l+j)),(vI l)] 146) (h_c:Es (nv .i64) lo_c hi_c w a_c n_c c_c c) (h_f:Es (nv .i64) lo_f hi_f w a_f n_f c_f f) (h_t:Ms unC 280 lo_t hi_t w a_t n_t c_t t) (hp0:c=zaI n (hgt n+1)) (hp1:f=za0 n (hgt n+1)) (hp2:1≤n) (hp3:n≤4096) (hp4:n_t=tot n) (hp5:l≤hgt n) (hp6:j<cnt n l):
  Calls Tryz.prog 81 #[(vP b 0)] w (Ret fun r w'=>r=(vI (zdM n t l j))∧Ext w w'):=by
 by_cases h:l=0
 ·exact zqD b n l j w hX h_c h_f h_t hp0 hp1 hp2 hp3 hp4 hp5 hp6 h
 ·exact zqO b n l j w hX h_c h_f h_t hp0 hp1 hp2 hp3 hp4 hp5 hp6 h
theorem zrb (b n l j:Nat) {lo_c hi_c lo_f hi_f lo_t hi_t n_c c_c n_f c_f n_t c_t:Nat} {a_c a_f a_t:Option Addr} {c f:List Nat} {t:List Un} (w:World) (hX:Blk w b [(.slice a_c n_c c_c),(.slice a_f n_f c_f),(vI n),(.slice a_t n_t c_t),(vI (num n l+j)),(vI l)] 146) (h_c:Es (nv .i64) lo_c hi_c w a_c n_c c_c c) (h_f:Es (nv .i64) lo_f hi_f w a_f n_f c_f f) (h_t:Ms unC 280 lo_t hi_t w a_t n_t c_t t) (hp0:c=zaI n (hgt n+1)) (hp1:f=za0 n (hgt n+1)) (hp2:1≤n) (hp3:n≤4096) (hp4:n_t=tot n) (hp5:l≤hgt n) (hp6:j<cnt n l) (hp7:l=0):
  Calls Tryz.prog 82 #[(vP b 0)] w (Ret fun r w'=>r=(vI (zdV n t l j))∧Ext w w'):=by
 refine zI (n:=41) (σ:= [(0,(vP b 0))]) Tryz.func82 rfl ?_
 replace h_c:=h_c.now;replace h_f:=h_f.now;replace h_t:=h_t.now
 have hbl:=hX.lt
 have hle1:=h_c.le;have hle2:=h_f.le
 have hlc:=h_c.len_eq;rw [hp0,zbL] at hlc
 have hlf:=h_f.len_eq;rw [hp1,zb6] at hlf
 have hlt:=h_t.len_eq
 have hlet:=h_t.le
 have h5:=zat n
 have hts:=zaw hp3
 have hpl:=zaC (n:=n) (l:=l) (j:=j) hp5 hp6
 have hcn:=zbf n l
 have hgf:gt f l=num n l:=by rw [hp1];exact zci (by omega)
 refine ze (zd (zc 1 [(2,(vI 0))] (zf (zb (ze (ze (zd (zc 3 [(9,(vP b 5)),(8,(vP b 0)),(7,(vP b 0))] (za (zj (some 10) (Instr.loadAt 3 (vP b 5)) (vI l) (zk (hX.cell rfl)) ?_))))))))))
 refine za (zai (some 11) (((l:Nat):Int)==((0:Nat):Int)) true (zas (by omega)) ?_)
 refine zf (zb (zC (ze (zd (zc 1 [(2,(vI 0))] (zf (zb (zq (zD ?_)))))))))
 exact zr (vI 0) (⟨congrArg (fun z:Nat=>vI z) ((if_pos (zga.2 (.inl hp7))).symm),(Ext.refl _)⟩)
theorem zrk (b n l j:Nat) {lo_c hi_c lo_f hi_f lo_t hi_t n_c c_c n_f c_f n_t c_t:Nat} {a_c a_f a_t:Option Addr} {c f:List Nat} {t:List Un} (w:World) (hX:Blk w b [(.slice a_c n_c c_c),(.slice a_f n_f c_f),(vI n),(.slice a_t n_t c_t),(vI (num n l+j)),(vI l)] 146) (h_c:Es (nv .i64) lo_c hi_c w a_c n_c c_c c) (h_f:Es (nv .i64) lo_f hi_f w a_f n_f c_f f) (h_t:Ms unC 280 lo_t hi_t w a_t n_t c_t t) (hp0:c=zaI n (hgt n+1)) (hp1:f=za0 n (hgt n+1)) (hp2:1≤n) (hp3:n≤4096) (hp4:n_t=tot n) (hp5:l≤hgt n) (hp6:j<cnt n l) (hp7:l≠0) (hp8:∀w,w<prt n l j→((t.getD (num n (l-1)+(4*j+w)) Un.zero).sl=0∨(t.getD (num n (l-1)+(4*j+w)) Un.zero).sl=1)∧zay (t.getD (num n (l-1)+(4*j+w)) Un.zero).nd=0) (hg0:Gl 0 [vI 45,vI 33] w) (hg1:Gl 1 (w8C za6) w) (hg2:Gl 3 (zar kA) w):
  Calls Tryz.prog 82 #[(vP b 0)] w (Ret fun r w'=>r=(vI (zdV n t l j))∧Ext w w'):=by
 refine zI (n:=41) (σ:= [(0,(vP b 0))]) Tryz.func82 rfl ?_
 have hgl0:=hg0.lt
 have hgl1:=hg1.lt
 have hgl2:=hg2.lt
 replace h_c:=h_c.now;replace h_f:=h_f.now;replace h_t:=h_t.now
 have hbl:=hX.lt
 have hle1:=h_c.le;have hle2:=h_f.le
 have hlc:=h_c.len_eq;rw [hp0,zbL] at hlc
 have hlf:=h_f.len_eq;rw [hp1,zb6] at hlf
 have hlt:=h_t.len_eq
 have hlet:=h_t.le
 have h5:=zat n
 have hts:=zaw hp3
 have hpl:=zaC (n:=n) (l:=l) (j:=j) hp5 hp6
 have hcn:=zbf n l
 have hgf:gt f l=num n l:=by rw [hp1];exact zci (by omega)
 have hch:=ziV (n:=n) (l:=l) (j:=j) (t:=t) (by omega) hp7 hp5 hp6
 have hpm:=zhi hp7 hp6
 have hcm:=zbf n (l-1)
 have hns:=zbJ (n:=n) (l:=l-1) hp3 (by omega)
 have hpq:=zaC (n:=n) (l:=l-1) (j:=min (4*j+4) (cnt n (l-1))-1) (by omega) (by omega)
 refine ze (zd (zc 1 [(2,(vI 0))] (zf (zb (ze (ze (zd (zc 3 [(9,(vP b 5)),(8,(vP b 0)),(7,(vP b 0))] (za (zj (some 10) (Instr.loadAt 3 (vP b 5)) (vI l) (zk (hX.cell rfl)) ?_))))))))))
 refine za (zai (some 11) (((l:Nat):Int)==((0:Nat):Int)) false (zcc (by omega)) ?_)
 refine zf (zb (zn (zu (zb (ze (zd (zc 1 [(13,(vP b 0))] (za (zl (some 14) (zqa b n l j _ hX h_c h_f h_t (by first | rfl | assumption) (by first | rfl | assumption) (by first | omega | decide) (by first | omega | decide) (by first | omega | decide) (by first | omega | decide) (by first | omega | decide) (by first | omega | decide)) ?_)))))))))
 rintro _ w1 ⟨rfl,hEw1⟩
 have hzw1:=hEw1.size
 refine zc 5 [(4,(vI (min (4*j+4) (cnt n (l-1))+num n (l-1)))),(3,(vI (4*j+num n (l-1)))),(16,(vI (min (4*j+4) (cnt n (l-1))+num n (l-1)))),(15,(vI (4*j+num n (l-1)))),(12,(.tuple #[(vI (4*j+num n (l-1))),(vI (min (4*j+4) (cnt n (l-1))+num n (l-1)))]))] (zf (zb (ze (ze (zd (zc 4 [(20,(vP b 3)),(19,(vP b 2)),(18,(vP b 0)),(17,(vP b 0))] (za (zj (some 21) (Instr.loadAt 36 (vP b 3)) (.slice a_t n_t c_t) (zk ((hX.ext hEw1).cell rfl)) ?_))))))))
 refine zc 2 [(23,(vI (min (4*j+4) (cnt n (l-1))+num n (l-1)))),(22,(vI (4*j+num n (l-1))))] ?_
 obtain ⟨a1,hR1,hS1⟩:=(h_t.ext hEw1).slice Tryz.prog 36 77 (4*j+num n (l-1)) (min (4*j+4) (cnt n (l-1))+num n (l-1)) c_t (some (vI (4*j+num n (l-1)))) (some (vI (min (4*j+4) (cnt n (l-1))+num n (l-1)))) none
 refine za (zj (some 24) (Instr.sliceAt 36 (.slice a_t n_t c_t) (some (vI (4*j+num n (l-1)))) (some (vI (min (4*j+4) (cnt n (l-1))+num n (l-1)))) none) (.slice a1 (min (4*j+4) (cnt n (l-1))+num n (l-1)-(4*j+num n (l-1))) (c_t-(4*j+num n (l-1)))) (hR1 _) ?_)
 refine zc 2 [(26,(vI 0)),(25,(vI (min (4*j+4) (cnt n (l-1))+num n (l-1)-(4*j+num n (l-1)))))] (zf (zb (zy (zY (X:=Nat) (fun k=> [(26,(vI k))]) [2,5,6,27,28,29,30,31,32,33,34,35,36,37,38,39,40] (fun k w2=>k≤prt n l j∧(∀i,i<k→((t.getD (num n l+j) Un.zero).nd.es.get i)=enU (t.getD (num n (l-1)+(4*j+i)) Un.zero))∧Ext w1 w2) (fun k=>prt n l j-k) 0 (by kernel_rfl) ⟨Nat.zero_le _,fun i h=>absurd h (Nat.not_lt_zero _),Ext.refl _⟩ ?_))))
 rintro k dw2 w2 ⟨hk,hen,hEl⟩
 have hzl:=hEl.size
 refine ze (zd (za (zK (some 27) (decide (((k:Nat):Int)<((min (4*j+4) (cnt n (l-1))+num n (l-1)-(4*j+num n (l-1)):Nat):Int))) (fun hc27=> ?_) (fun hc27=> ?_))))
 ·replace hc27:k<min (4*j+4) (cnt n (l-1))+num n (l-1)-(4*j+num n (l-1)):=by have:=zaf hc27;omega
  have hkp:k<prt n l j:=by omega
  obtain ⟨hm1,hm2,hm3⟩:=ziC hp7 hp5 hp6 hkp
  obtain ⟨hs0,hs1⟩:=hp8 k hkp
  refine zf (zb (ze (zC (zu (zb (ze (zy (ze (zd ?_)))))))))
  refine zc 1 [(28,(vI k))] ?_
  obtain ⟨b1,o1,rfl⟩:=hS1.addr (by omega) (by decide)
  refine za (zj (some 29) (Instr.indexAt 36 (.slice (pA b1 o1) (min (4*j+4) (cnt n (l-1))+num n (l-1)-(4*j+num n (l-1))) (c_t-(4*j+num n (l-1)))) (vI k)) (vP b1 (o1+k*280)) (zP (E:=77) (sz:=280) (by omega)) ?_)
  refine za (zj (some 30) (Instr.loadAt 77 (vP b1 (o1+k*280))) (vA (unC (t.getD (num n (l-1)+(4*j+k)) Un.zero))) (zw (vs:=unC (t.getD (num n (l-1)+(4*j+k)) Un.zero)) (by have hz:=(hS1.ext hEl).at Un.zero (i:=k) (by omega);rw [show ((t.drop (4*j+num n (l-1))).take (min (4*j+4) (cnt n (l-1))+num n (l-1)-(4*j+num n (l-1)))).getD k Un.zero=(t.getD (num n (l-1)+(4*j+k)) Un.zero) from ziG (by omega) hp7 hp5 hp6 hkp] at hz;exact hz) (by rw [zQ];kernel_rfl)) ?_)
  refine za (zo (some 6) (Instr.alloc 77 true (.tuple #[])) (vP w2.heap.size 0) (unC Un.zero) 77 ?_)
  intro w3 hBw3 hEw3
  have hzw3:=hEw3.size;have hlw3:=hBw3.lt
  refine zc 1 [(5,(vI k))] (za (zv 77 w2.heap.size 0 77 (vA (unC (t.getD (num n (l-1)+(4*j+k)) Un.zero))) (unC Un.zero) (unC (t.getD (num n (l-1)+(4*j+k)) Un.zero)) hBw3 (by rw [zQ];kernel_rfl) (by first |(simp;done)|(simp;omega)) (za4 _) ?_))
  intro w4 hBw4 hCw4
  have hzw4:=hCw4.size
  rw [zm _ _ (by simp)] at hBw4
  refine zf (zb (ze (zT (Ext w4.drew) 9 [(32,1,0),(33,2147483648,1),(34,4294967296,2),(35,8589934592,4),(36,32,0),(37,51539607552,24),(38,64,0),(39,137438953472,66),(40,343597383680,160)] (fun hT312=> ?_))))
  have hEw5:Ext w4 w4.drew:=Ext.drew w4
  generalize w4.drew=w5 at hEw5⊢
  have hzw5:=hEw5.size
  refine zh hT312 [(0,31,(vP b 0)),(4,35,(vI k))] 2 17 (zg hT312 6 81 (some 37) (vA (unC (t.getD (num n (l-1)+(4*j+k)) Un.zero))) (zi (Instr.loadAt 77 (vP w2.heap.size 0)) (fun w' hC=>zw (vs:=unC (t.getD (num n (l-1)+(4*j+k)) Un.zero)) (((hBw4.ext hEw5).ext hC).all) (by rw [zQ];kernel_rfl))) ?_)
  have hK1:=(((((((((hX.ext hEw1)).ext hEl)).ext hEw3)).chg hCw4 (fun hs=>by have h:_=_:=hs;omega))).ext hEw5)
  have hK2:=(((((((((h_c.ext hEw1)).ext hEl)).ext hEw3)).chg hCw4 (fun k h1 h2 hs=>by have h:k=_:=hs;omega))).ext hEw5)
  have hK3:=(((((((((h_f.ext hEw1)).ext hEl)).ext hEw3)).chg hCw4 (fun k h1 h2 hs=>by have h:k=_:=hs;omega))).ext hEw5)
  have hK4:=(((((((((h_t.ext hEw1)).ext hEl)).ext hEw3)).chg hCw4 (fun k h1 h2 hs=>by have h:k=_:=hs;omega))).ext hEw5)
  refine zz 1 83 (zl (some 32) (zhe b n l j _ hK1 hK2 hK3 hK4 (by first | rfl | assumption) (by first | rfl | assumption) (by first | omega | decide) (by first | omega | decide) (by first | omega | decide) (by first | omega | decide) (by first | omega | decide)) ?_)
  rintro _ w6 ⟨rfl,hEw6⟩
  have hzw6:=hEw6.size
  refine ⟨.inr hEw6, ?_⟩
  refine zg (hw:=hEw6) hT312 2 87 (some 33) (vA (zH (t.getD (num n l+j) Un.zero).nd)) (zi (Instr.field 77 (vA (unC (t.getD (num n l+j) Un.zero))) 0) (fun w' hC=>zj3 (F:=74) (us:=zH (t.getD (num n l+j) Un.zero).nd) (zdw _) (zV _))) (zg (hw:=hEw6) hT312 3 95 (some 34) (vA (e4C ((t.getD (num n l+j) Un.zero).nd).es)) (zi (Instr.field 74 (vA (zH (t.getD (num n l+j) Un.zero).nd)) 3) (fun w' hC=>zj3 (F:=72) (us:=e4C ((t.getD (num n l+j) Un.zero).nd).es) (zfz _) (zdS _))) (zg (hw:=hEw6) hT312 5 127 (some 36) (vA (zad ((((t.getD (num n l+j) Un.zero).nd).es).get k))) (zi (Instr.index 72 (vA (e4C ((t.getD (num n l+j) Un.zero).nd).es)) (vI k)) (fun w' hC=>zgY (E:=71) (m:=4) (sz:=33) (us:=zad ((((t.getD (num n l+j) Un.zero).nd).es).get k)) (by omega) (zjC (by omega)))) ?_))
  have hK5:=(((((((((((hg0.ext hEw1)).ext hEl)).ext hEw3)).chg hCw4 (fun hs=>by have h:_=_:=hs;omega))).ext hEw5)).ext hEw6)
  have hK6:=(((((((((((hg1.ext hEw1)).ext hEl)).ext hEw3)).chg hCw4 (fun hs=>by have h:_=_:=hs;omega))).ext hEw5)).ext hEw6)
  have hK7:=(((((((((((hg2.ext hEw1)).ext hEl)).ext hEw3)).chg hCw4 (fun hs=>by have h:_=_:=hs;omega))).ext hEw5)).ext hEw6)
  refine zz 7 255 (zl (some 38) (zjJ (t.getD (num n (l-1)+(4*j+k)) Un.zero) _ (hs0) (hs1) hK5 hK6 hK7) ?_)
  rintro _ w7 ⟨rfl,hEw7⟩
  have hzw7:=hEw7.size
  have hX1:Ext w5 w7:=(hEw6.trans hEw7)
  refine ⟨.inr hX1, ?_⟩
  rcases Bool.eq_false_or_eq_true (((t.getD (num n l+j) Un.zero).nd.es.get k).eqb (enU (t.getD (num n (l-1)+(4*j+k)) Un.zero))) with hq39 | hq39
  ·refine zg (hw:=hX1) hT312 8 511 (some 39) vF (zi (bo .neq 71 (.tmp 36) (.tmp 38) (vA (zad ((((t.getD (num n l+j) Un.zero).nd).es).get k))) (vA (zad (enU (t.getD (num n (l-1)+(4*j+k)) Un.zero))))) (fun w' hC=>zak (r:=true) (T:=71) ((zb8 (dd:=9997) (t:=71) (t8:=5) (td:=59) (e:=5) ((((t.getD (num n l+j) Un.zero).nd).es).get k) (enU (t.getD (num n (l-1)+(4*j+k)) Un.zero))).trans (congrArg (fun b=>Result.ok b _) (show (((((t.getD (num n l+j) Un.zero).nd).es).get k).eqb (enU (t.getD (num n (l-1)+(4*j+k)) Un.zero)))=true from hq39))))) (zJ (zb (zn (zu (zp (zb (zd (za (zt (some 40) .i64 (IntKind.i64.wrap (((k:Nat):Int)+((1:Nat):Int))) (k+1) (zA (by omega) (by omega) (by omega)) ?_)))))))))
   refine zc 1 [(26,(vI (k+1)))] (zf (zF ?_))
   have hX2:Ext w1 w7:=((((Ext.own (hEl.trans hEw3) hCw4 (by omega)).trans hEw5).trans hEw6).trans hEw7)
   refine zR (k+1) ?_ ?_
   ·exact ⟨by omega,fun i hi=>by rcases Nat.lt_succ_iff_lt_or_eq.1 hi with h1 | rfl;exact hen i h1;exact (Ent.eqb_iff _ _).1 hq39,hX2⟩
   ·first | omega |(dsimp only;omega)
  ·refine zg (hw:=hX1) hT312 8 511 (some 39) vT (zi (bo .neq 71 (.tmp 36) (.tmp 38) (vA (zad ((((t.getD (num n l+j) Un.zero).nd).es).get k))) (vA (zad (enU (t.getD (num n (l-1)+(4*j+k)) Un.zero))))) (fun w' hC=>zak (r:=false) (T:=71) ((zb8 (dd:=9997) (t:=71) (t8:=5) (td:=59) (e:=5) ((((t.getD (num n l+j) Un.zero).nd).es).get k) (enU (t.getD (num n (l-1)+(4*j+k)) Un.zero))).trans (congrArg (fun b=>Result.ok b _) (show (((((t.getD (num n l+j) Un.zero).nd).es).get k).eqb (enU (t.getD (num n (l-1)+(4*j+k)) Un.zero)))=false from hq39))))) (zJ (zb (zC (ze (zd (zc 1 [(2,(vI 9))] (zf (zb (zq ?_)))))))))
   refine zG (zD (zD (zG (zD (zr (vI 9) ?_)))))
   have hX3:Ext w w7:=((((Ext.own ((hEw1.trans hEl).trans hEw3) hCw4 (by omega)).trans hEw5).trans hEw6).trans hEw7)
   exact ⟨congrArg (fun z:Nat=>vI z) ((if_neg (fun hh=>by have h1:=((zga.1 hh).resolve_left hp7) k hkp;rw [(Ent.eqb_iff _ _).2 (show ((t.getD (num n l+j) Un.zero).nd.es.get k)=enU (t.getD (num n (l-1)+(4*j+k)) Un.zero) from h1)] at hq39;cases hq39)).symm),hX3⟩
 ·replace hc27:¬(k<min (4*j+4) (cnt n (l-1))+num n (l-1)-(4*j+num n (l-1))):=by have:=zae hc27;omega
  obtain rfl:k=prt n l j:=by omega
  refine zf (zb (ze (zn (zW (zx (zx (zL (zb (ze ?_)))))))))
  exact zd (zc 1 [(2,(vI 0))] (zf (zb (zq (zr (vI 0) (⟨congrArg (fun z:Nat=>vI z) ((if_pos (zga.2 (.inr fun w hw=>hen w hw))).symm),(hEw1.trans hEl)⟩))))))
theorem zsY (b n l j:Nat) {lo_c hi_c lo_f hi_f lo_t hi_t n_c c_c n_f c_f n_t c_t:Nat} {a_c a_f a_t:Option Addr} {c f:List Nat} {t:List Un} (w:World) (hX:Blk w b [(.slice a_c n_c c_c),(.slice a_f n_f c_f),(vI n),(.slice a_t n_t c_t),(vI (num n l+j)),(vI l)] 146) (h_c:Es (nv .i64) lo_c hi_c w a_c n_c c_c c) (h_f:Es (nv .i64) lo_f hi_f w a_f n_f c_f f) (h_t:Ms unC 280 lo_t hi_t w a_t n_t c_t t) (hp0:c=zaI n (hgt n+1)) (hp1:f=za0 n (hgt n+1)) (hp2:1≤n) (hp3:n≤4096) (hp4:n_t=tot n) (hp5:l≤hgt n) (hp6:j<cnt n l) (hp7:l≠0→∀w,w<prt n l j→((t.getD (num n (l-1)+(4*j+w)) Un.zero).sl=0∨(t.getD (num n (l-1)+(4*j+w)) Un.zero).sl=1)∧zay (t.getD (num n (l-1)+(4*j+w)) Un.zero).nd=0) (hg0:Gl 0 [vI 45,vI 33] w) (hg1:Gl 1 (w8C za6) w) (hg2:Gl 3 (zar kA) w):
  Calls Tryz.prog 82 #[(vP b 0)] w (Ret fun r w'=>r=(vI (zdV n t l j))∧Ext w w'):=by
 by_cases h:l=0
 ·exact zrb b n l j w hX h_c h_f h_t hp0 hp1 hp2 hp3 hp4 hp5 hp6 h
 ·exact zrk b n l j w hX h_c h_f h_t hp0 hp1 hp2 hp3 hp4 hp5 hp6 h (hp7 h) hg0 hg1 hg2
end Go.Proofs.YtkmhgepdhilllaaGreatDoor
namespace Go.Proofs.YtkmhgepdhilllaaGreatDoor
open Go Go.RowKit Go.Cs
set_option maxRecDepth 100000
set_option maxHeartbeats 4000000 in
theorem zkc (n:Nat) {lo_t hi_t:Nat} {a_t:Option Addr} {n_t c_t:Nat} {t:List Un} (w:World) (h_t:Ms unC 280 lo_t hi_t w a_t n_t c_t t) (hp0:1≤n) (hp1:n≤4096) (hp2:n_t=tot n) (hp3:∀i,i<t.length→(t.getD i Un.zero).sl=0∨(t.getD i Un.zero).sl=1) (hg0:Gl 0 [vI 45,vI 33] w) (hg1:Gl 1 (w8C za6) w) (hg2:Gl 3 (zar kA) w):
  Calls Tryz.prog 55 #[(vA [(vI n),(.slice a_t n_t c_t)])] w (Ret fun r w'=>∃a0 ca0 a1 ca1,r=(.tuple #[(vA [(.slice a0 (hgt n+1) ca0),(.slice a1 (hgt n+1) ca1)]),(vI (zbY n (zbz n t)))])∧Es (nv .i64) w.heap.size w'.heap.size w' a0 (hgt n+1) ca0 (zaI n (hgt n+1))∧Es (nv .i64) w.heap.size w'.heap.size w' a1 (hgt n+1) ca1 (za0 n (hgt n+1))∧Ext w w'):=by
 refine zek (n:=64) (σ:= [(0,(vA [(vI n),(.slice a_t n_t c_t)]))]) Tryz.func55 rfl ?_
 replace h_t:=h_t.now;have hle_t:=h_t.le
 have hgl0:=hg0.lt
 have hgl1:=hg1.lt
 have hgl2:=hg2.lt
 have h5:=zat n
 have hlt:=h_t.len_eq
 have hts:=zaw hp1
 have hle:=h_t.le
 refine ze (zd (za (zo (some 1) (Instr.box 38 (vA [(vI n),(.slice a_t n_t c_t)])) (vP w.heap.size 0) ([(vI n),(.slice a_t n_t c_t)]) 38 ?_)))
 intro w1 hBw1 hEw1
 have hzw1:=hEw1.size;have hlw1:=hBw1.lt
 refine za (zo (some 2) (Instr.alloc 114 true (.tuple #[])) (vP w1.heap.size 0) ([(.slice none 0 0),(.slice none 0 0)]) 114 ?_)
 intro w2 hBw2 hEw2
 have hzw2:=hEw2.size;have hlw2:=hBw2.lt
 refine za (zo (some 3) (Instr.alloc 39 true (.tuple #[])) (vP w2.heap.size 0) ([(vI 0)]) 39 ?_)
 intro w3 hBw3 hEw3
 have hzw3:=hEw3.size;have hlw3:=hBw3.lt
 refine zf (zb (ze (zd (zc 1 [(13,(vP w.heap.size 0))] (za (zj (some 14) (Instr.loadAt 3 (vP w.heap.size 0)) (vI n) (zk ((((hBw1.ext hEw2)).ext hEw3).cell rfl)) ?_))))))
 refine za (zl (some 15) (zjO n _ (by omega) (by omega)) ?_)
 rintro _ w4 ⟨a1,ca1,a2,ca2,rfl,hFz1_0,hFz1_1,hEw4⟩
 have hzw4:=hEw4.size
 have hlea1:=hFz1_0.le
 have hlea2:=hFz1_1.le
 refine zc 3 [(17,(vI 0)),(16,(vA [(.slice a1 (hgt n+1) ca1),(.slice a2 (hgt n+1) ca2)])),(12,(.tuple #[(vA [(.slice a1 (hgt n+1) ca1),(.slice a2 (hgt n+1) ca2)]),(vI 0)]))] (za (zo (some 4) (Instr.alloc 114 true (.tuple #[])) (vP w4.heap.size 0) ([(.slice none 0 0),(.slice none 0 0)]) 114 ?_))
 intro w5 hBw5 hEw5
 have hzw5:=hEw5.size;have hlw5:=hBw5.lt
 refine za (zv 114 w4.heap.size 0 114 (vA [(.slice a1 (hgt n+1) ca1),(.slice a2 (hgt n+1) ca2)]) ([(.slice none 0 0),(.slice none 0 0)]) ([(.slice a1 (hgt n+1) ca1),(.slice a2 (hgt n+1) ca2)]) hBw5 (by kernel_rfl) (by first | decide |(simp;done)|(simp;omega)) (by simp [Value.oneCell']) ?_)
 intro w6 hBw6 hCw6
 have hzw6:=hCw6.size
 rw [zm _ _ (by kernel_rfl)] at hBw6
 refine zc 1 [(5,(vI 0))] (zf (zb (ze (ze (zd (zc 1 [(18,(vI 0))] (za (zai (some 19) (((0:Nat):Int) !=((0:Nat):Int)) false (zaA (by omega)) ?_))))))))
 refine zf (zb (zn (zu (zb (ze (ze (zT (Ext w6.drew) 11 [(23,2,0),(24,4194304,1),(25,8388608,2),(26,16,0),(27,33554432,8),(28,83886080,20),(29,134217728,48),(30,268435458,64),(31,805306368,192),(32,1342177280,320),(33,2415919104,576)] (fun hT57=> ?_))))))))
 have hEw7:Ext w6 w6.drew:=Ext.drew w6
 generalize w6.drew=w7 at hEw7⊢
 have hzw7:=hEw7.size
 refine zh hT57 [(0,22,(vP w.heap.size 1))] 1 1 ?_
 have hK1:=(((((((((((hBw1.ext hEw2)).ext hEw3)).ext hEw4)).ext hEw5)).chg hCw6 (fun hs=>by have h:_=_:=hs;omega))).ext hEw7)
 refine zg hT57 1 3 (some 23) (.slice a_t n_t c_t) (zi (Instr.loadAt 36 (vP w.heap.size 1)) (fun w' hC=>zk ((hK1.ext hC).cell rfl))) (zh hT57 [(2,24,(vI n_t))] 1 7 (zg hT57 3 15 (some 25) (vA [(.slice a1 (hgt n+1) ca1),(.slice a2 (hgt n+1) ca2)]) (zi (Instr.loadAt 114 (vP w4.heap.size 0)) (fun w' hC=>zw (vs:= [(.slice a1 (hgt n+1) ca1),(.slice a2 (hgt n+1) ca2)]) (((hBw6.ext hEw7).ext hC).all))) ?_))
 have hK2:=(((((hFz1_0.ext hEw5)).chg hCw6 (fun k h1 h2 hs=>by have h:k=_:=hs;omega))).ext hEw7)
 have hK3:=(((((hFz1_1.ext hEw5)).chg hCw6 (fun k h1 h2 hs=>by have h:k=_:=hs;omega))).ext hEw7)
 refine zz 4 31 (zl (some 26) (zhz n _ hK2 hK3 (by first | rfl | assumption) (by first | rfl | assumption) (by first | omega | decide) (by first | omega | decide)) ?_)
 rintro _ w8 ⟨rfl,hEw8⟩
 have hzw8:=hEw8.size
 refine ⟨.inr hEw8, ?_⟩
 refine zg (hw:=hEw8) hT57 5 63 (some 27) vF (zaD (((n_t:Nat):Int) !=((tot n:Nat):Int)) (zaA (by omega))) (zh (hw:=hEw8) hT57 [(6,28,vF),(7,29,(vP w.heap.size 1))] 2 255 (zg (hw:=hEw8) hT57 8 511 (some 30) (.slice a_t n_t c_t) (zi (Instr.loadAt 36 (vP w.heap.size 1)) (fun w' hC=>zk ((hK1.ext hC).cell rfl))) ?_))
 have hK4:=(((((((((((((((h_t.ext hEw1)).ext hEw2)).ext hEw3)).ext hEw4)).ext hEw5)).chg hCw6 (fun k h1 h2 hs=>by have h:k=_:=hs;omega))).ext hEw7)).ext hEw8)
 refine zz 9 1023 (zl (some 31) (zrW _ hK4 (hp3)) ?_)
 rintro _ w9 ⟨rfl,hEw9⟩
 have hzw9:=hEw9.size
 have hX1:Ext w7 w9:=(hEw8.trans hEw9)
 refine ⟨.inr hX1, ?_⟩
 refine zh (hw:=hX1) hT57 [(10,32,vF)] 1 2047 (zJ (zb (zn (zu (zb (ze (ze (zd ?_))))))))
 have hK5:=(((((hBw6.ext hEw7)).ext hEw8)).ext hEw9)
 refine za (zj (some 34) (Instr.loadAt 114 (vP w4.heap.size 0)) (vA [(.slice a1 (hgt n+1) ca1),(.slice a2 (hgt n+1) ca2)]) (zw (vs:= [(.slice a1 (hgt n+1) ca1),(.slice a2 (hgt n+1) ca2)]) (hK5.all)) ?_)
 refine za (zl (some 35) (znp _ (((hK2.ext hEw8)).ext hEw9) (((hK3.ext hEw8)).ext hEw9)) ?_)
 rintro _ w10 ⟨a3,rfl,hFz4_0,hFz4_1,hEw10⟩
 have hzw10:=hEw10.size
 have hla3:=hFz4_1.lt
 refine zf (zb (zy ?_))
 have hK6:=(((((hK1.ext hEw8)).ext hEw9)).ext hEw10)
 have hK7:=(((((((((((((((hBw2.ext hEw3)).ext hEw4)).ext hEw5)).chg hCw6 (fun hs=>by have h:_=_:=hs;omega))).ext hEw7)).ext hEw8)).ext hEw9)).ext hEw10)
 have hK8:=(((((((((((((hBw3.ext hEw4)).ext hEw5)).chg hCw6 (fun hs=>by have h:_=_:=hs;omega))).ext hEw7)).ext hEw8)).ext hEw9)).ext hEw10)
 have hK9:=(((((hK2.ext hEw8)).ext hEw9)).ext hEw10)
 have hK10:=(((((hK3.ext hEw8)).ext hEw9)).ext hEw10)
 have hX2:Ext w w10:=(((((Ext.own ((((hEw1.trans hEw2).trans hEw3).trans hEw4).trans hEw5) hCw6 (by omega)).trans hEw7).trans hEw8).trans hEw9).trans hEw10)
 have hK11:=(((((hK2.ext hEw8)).ext hEw9)).ext hEw10)
 have hK12:=(((((hK3.ext hEw8)).ext hEw9)).ext hEw10)
 refine zgD [36,37] 91 [(vP a3 0)] (tot n) (fun k=> [(vI (lvK n k)),(vI k)]) (fun b=>b=w1.heap.size∨b=w2.heap.size) (fun b=>False) (fun k w'=>okK n (zbz n t) k∧Blk w' w.heap.size ([(vI n),(.slice a_t n_t c_t)]) 38∧Blk w' w1.heap.size ([(.slice none 0 0),(.slice none 0 0)]) 114∧Blk w' w2.heap.size ([(vI 0)]) 39∧Blk w' w4.heap.size ([(.slice a1 (hgt n+1) ca1),(.slice a2 (hgt n+1) ca2)]) 114∧Es (nv .i64) w3.heap.size w4.heap.size w' a1 (hgt n+1) ca1 (zaI n (hgt n+1))∧Es (nv .i64) w3.heap.size w4.heap.size w' a2 (hgt n+1) ca2 (za0 n (hgt n+1))∧Ext w w') (fun cc k w'=>cc= .ret∧Blk w' w1.heap.size ([(.slice a1 (hgt n+1) ca1),(.slice a2 (hgt n+1) ca2)]) 114∧Blk w' w2.heap.size [vI (zbY n (zbz n t))] 39∧Es (nv .i64) w3.heap.size w4.heap.size w' a1 (hgt n+1) ca1 (zaI n (hgt n+1))∧Es (nv .i64) w3.heap.size w4.heap.size w' a2 (hgt n+1) ca2 (za0 n (hgt n+1))∧Ext w w') (fun b hb=>hb.elim) (fun _=>rfl) (fun k W W' ⟨h0,h1,h2,h3,h4,h5,h6,h8⟩ hb=>⟨h0,h1.book hb,h2.book hb,h3.book hb,h4.book hb,h5.book hb,h6.book hb,h8.book hb (by omega)⟩) (fun _ k W W' ⟨hc,h1,h2,h3,h4,h8⟩ hb=>⟨hc,h1.book hb,h2.book hb,h3.book hb,h4.book hb,h8.book hb (by omega)⟩) (fun k W W' ⟨h0,h1,h2,h3,h4,h5,h6,h8⟩ hc=>⟨h0,h1.ext hc,h2.ext hc,h3.ext hc,h4.ext hc,h5.ext hc,h6.ext hc,h8.trans hc⟩) (⟨zpD,hK6,hK7,hK8,(hK5.ext hEw10),hK9,hK10,hX2⟩) (fun lp J Jx wj hE1 hJ hY h0=>zoU n w10.heap.size lp (fun b=>b=w1.heap.size∨b=w2.heap.size) J Jx wj hp0 hp1 (hFz4_1.ext hE1) (hK11.ext hE1) (hK12.ext hE1) (fun b hb=>⟨by omega,by omega,by omega⟩) hJ hY h0) ?_ ?_ ?_
 ·rintro lR k w11 hl ⟨hok,hK1,hK2,hK3,hK4,hs1,hs2,hEw⟩ hk
  have hzr:=hEw.size
  have hK1l:=hK1.lt
  have hK2l:=hK2.lt
  have hK3l:=hK3.lt
  have hK4l:=hK4.lt
  obtain ⟨l,j,hl,hj,hlv,rfl⟩:=zkR hk
  rw [hlv]
  have hns:=zbJ (n:=n) (l:=l) hp1 (by omega)
  refine ze (zd (zc 1 [(6,(vI l))] (zf (zb (zd (zc 1 [(7,(vI (num n l+j)))] (zf (zkx (Kpt.refl _) (Chg.refl _ _) (fun w12 hBkw12=> ?_)))))))))
  have hzw12:=hBkw12.size
  refine zy (ze (zd (za (zj (some 38) (Instr.loadAt 114 (vP w4.heap.size 0)) (vA [(.slice a1 (hgt n+1) ca1),(.slice a2 (hgt n+1) ca2)]) (zw (vs:= [(.slice a1 (hgt n+1) ca1),(.slice a2 (hgt n+1) ca2)]) (((hK4).book hBkw12).all)) ?_))))
  refine za (zj (some 39) (Instr.loadAt 38 (vP w.heap.size 0)) (vA [(vI n),(.slice a_t n_t c_t)]) (zw (vs:= [(vI n),(.slice a_t n_t c_t)]) (((hK1).book hBkw12).all)) ?_)
  refine zc 3 [(42,(vA [(.slice a1 (hgt n+1) ca1),(.slice a2 (hgt n+1) ca2),(vI n),(.slice a_t n_t c_t),(vI (num n l+j)),(vI l)])),(41,(vI l)),(40,(vI (num n l+j)))] (za (zo (some 43) (Instr.box 146 (vA [(.slice a1 (hgt n+1) ca1),(.slice a2 (hgt n+1) ca2),(vI n),(.slice a_t n_t c_t),(vI (num n l+j)),(vI l)])) (vP w12.heap.size 0) ([(.slice a1 (hgt n+1) ca1),(.slice a2 (hgt n+1) ca2),(vI n),(.slice a_t n_t c_t),(vI (num n l+j)),(vI l)]) 146 ?_))
  intro w13 hBw13 hEw13
  have hzw13:=hEw13.size;have hlw13:=hBw13.lt
  refine zc 1 [(8,(vP w12.heap.size 0))] (zf (zb (ze (zd (zc 6 [(49,(.func (.func 82) #[(vP w12.heap.size 0)] #[])),(48,(vP w12.heap.size 0)),(47,(.func (.func 81) #[(vP w12.heap.size 0)] #[])),(46,(vP w12.heap.size 0)),(45,(.func (.func 80) #[(vP w12.heap.size 0)] #[])),(44,(vP w12.heap.size 0))] (za (zo (some 50) (Instr.buildSlice 148 3 #[(0,(.func (.func 80) #[(vP w12.heap.size 0)] #[])),(1,(.func (.func 81) #[(vP w12.heap.size 0)] #[])),(2,(.func (.func 82) #[(vP w12.heap.size 0)] #[]))]) (.slice (pA w13.heap.size 0) 3 3) [(.func (.func 80) #[(vP w12.heap.size 0)] #[]),(.func (.func 81) #[(vP w12.heap.size 0)] #[]),(.func (.func 82) #[(vP w12.heap.size 0)] #[])] 147 ?_)))))))
  intro w14 hBw14 hEw14
  have hzw14:=hEw14.size;have hlw14:=hBw14.lt
  refine zc 2 [(52,(vI 0)),(51,(vI 3))] (zf (zb (zy (zY (X:=Nat) (fun q=> [(52,(vI q))]) [10,11,53,54,55,56,57,58,59,60,61,62] (fun q w15=>q≤3∧(0<q→zdz n t l j=0)∧(1<q→zdM n t l j=0)∧(2<q→zdV n t l j=0)∧Ext w14 w15) (fun q=>3-q) 0 (by kernel_rfl) ⟨by omega,by omega,by omega,by omega,Ext.refl _⟩ ?_))))
  rintro q dw15 w15 ⟨hqq,hq0,hq1,hq2,hEl⟩
  have hzl:=hEl.size
  refine ze (zd (za (zK (some 53) (decide (((q:Nat):Int)<((3:Nat):Int))) (fun hc53=> ?_) (fun hc53=> ?_))))
  ·replace hc53:q<3:=by have:=zaf hc53;omega
   refine zf (zb (ze (zC (zu (zb (ze (zy (ze (zd ?_)))))))))
   refine za (zj (some 54) (Instr.indexAt 148 (.slice (pA w13.heap.size 0) 3 3) (vI q)) (vP w13.heap.size (0+q*1)) (zP (E:=147) (sz:=1) (by omega)) ?_)
   rcases (show q=0∨q=1∨q=2 by omega) with rfl | rfl | rfl
   ·refine za (zj (some 55) (Instr.loadAt 147 (vP w13.heap.size (0+0*1))) (.func (.func 80) #[(vP w12.heap.size 0)] #[]) (zk ((hBw14.ext hEl).cell rfl)) ?_)
    refine zc 1 [(10,(.func (.func 80) #[(vP w12.heap.size 0)] #[]))] (zf (zb (ze (zd (zc 1 [(56,(.func (.func 80) #[(vP w12.heap.size 0)] #[]))] ?_)))))
    have hK13:=((((((((hs1).book hBkw12)).ext hEw13)).ext hEw14)).ext hEl)
    have hK14:=((((((((hs2).book hBkw12)).ext hEw13)).ext hEw14)).ext hEl)
    have hK15:=(((((((((h_t.ext hEw)).book hBkw12)).ext hEw13)).ext hEw14)).ext hEl)
    refine za (zl (some 57) (ztk w12.heap.size n l j _ (((hBw13.ext hEw14)).ext hEl) hK13 hK14 hK15 (by first | rfl | assumption) (by first | rfl | assumption) (by first | omega | decide) (by first | omega | decide) (by first | omega | decide) (by first | omega | decide) (by first | omega | decide)) ?_)
    rintro _ w16 ⟨rfl,hEw16⟩
    have hzw16:=hEw16.size
    refine zc 1 [(11,(vI (zdz n t l j)))] (zf (zb (ze (zd (zc 1 [(58,(vI (zdz n t l j)))] (za (zK (some 59) ((((zdz n t l j:Nat):Int) !=((0:Nat):Int))) (fun hc59=> ?_) (fun hc59=> ?_))))))))
    ·replace hc59:¬(zdz n t l j=0):=by have:=zbE hc59;omega
     refine zf (zb (zC (ze (zd ?_))))
     have hK16:=((((((((((hK4).book hBkw12)).ext hEw13)).ext hEw14)).ext hEl)).ext hEw16)
     refine za (zj (some 60) (Instr.loadAt 114 (vP w4.heap.size 0)) (vA [(.slice a1 (hgt n+1) ca1),(.slice a2 (hgt n+1) ca2)]) (zw (vs:= [(.slice a1 (hgt n+1) ca1),(.slice a2 (hgt n+1) ca2)]) (hK16.all)) ?_)
     refine zc 1 [(61,(vI (zdz n t l j)))] ?_
     have hK17:=((((((((((hK2).book hBkw12)).ext hEw13)).ext hEw14)).ext hEl)).ext hEw16)
     refine za (zv 114 w1.heap.size 0 114 (vA [(.slice a1 (hgt n+1) ca1),(.slice a2 (hgt n+1) ca2)]) ([(.slice none 0 0),(.slice none 0 0)]) ([(.slice a1 (hgt n+1) ca1),(.slice a2 (hgt n+1) ca2)]) hK17 (by kernel_rfl) (by first | decide |(simp;done)|(simp;omega)) (by simp [Value.oneCell']) ?_)
     have hK18:=((((((((((hK2).book hBkw12)).ext hEw13)).ext hEw14)).ext hEl)).ext hEw16)
     intro w17 hBw17 hCw17
     have hzw17:=hCw17.size
     rw [zm _ _ (by kernel_rfl)] at hBw17
     have hK19:=((((((((((((hK3).book hBkw12)).ext hEw13)).ext hEw14)).ext hEl)).ext hEw16)).chg hCw17 (fun hs=>by have h:_=_:=hs;omega))
     refine za (zah 39 w2.heap.size 0 39 (vI (zdz n t l j)) ([(vI 0)]) hK19 (by first | decide |(simp;done)|(simp;omega)) ?_)
     have hK20:=((((((((((((hK3).book hBkw12)).ext hEw13)).ext hEw14)).ext hEl)).ext hEw16)).chg hCw17 (fun hs=>by have h:_=_:=hs;omega))
     intro w18 hBw18 hCw18
     have hzw18:=hCw18.size
     replace hBw18:=hBw18.set1
     refine zf (zb (zq (zG (zD (zD (zG (zG ?_)))))))
     have hK21:=(((((hK13.ext hEw16)).chg hCw17 (fun k h1 h2 hs=>by have h:k=_:=hs;omega))).chg hCw18 (fun k h1 h2 hs=>by have h:k=_:=hs;omega))
     have hK22:=(((((hK14.ext hEw16)).chg hCw17 (fun k h1 h2 hs=>by have h:k=_:=hs;omega))).chg hCw18 (fun k h1 h2 hs=>by have h:k=_:=hs;omega))
     have hX3:Ext w w18:=(Ext.own (Ext.own (((((hEw.book hBkw12 (by omega)).trans hEw13).trans hEw14).trans hEl).trans hEw16) hCw17 (by omega)) hCw18 (by omega))
     exact zgE (((((((Kpt.refl _).ext hEw13).ext hEw14).ext hEl).ext hEw16).blk hK18 hCw17).blk hK20 hCw18) (Chg.then (Chg.then (((((Chg.refl _ _).trans hEw13.chg).trans hEw14.chg).trans hEl.chg).trans hEw16.chg) hCw17 (fun k hk hs=>by have h:k=_:=hs;first |(left;omega)|(exfalso;omega)|(right;simp [h];done))) hCw18 (fun k hk hs=>by have h:k=_:=hs;first |(left;omega)|(exfalso;omega)|(right;simp [h];done))) (⟨rfl,((hBw17).chg hCw18 (fun hs=>by have h:_=_:=hs;omega)),(zhH hok hk (by rw [hlv,Nat.add_sub_cancel_left];exact zpt hc59) hc59).symm▸hBw18,hK21,hK22,hX3⟩)
    ·replace hc59:zdz n t l j=0:=by have:=zbG hc59;omega
     refine zf (zb (zn (zu (zp (zb (zd (za (zt (some 62) .i64 (IntKind.i64.wrap (((0:Nat):Int)+((1:Nat):Int))) 1 (zA (by omega) (by omega) (by omega)) ?_))))))))
     refine zc 1 [(52,(vI 1))] (zf (zF (zR (0+1) ?_ ?_)))
     ·exact ⟨by omega,fun _=>hc59,fun hh=>absurd hh (by omega),fun hh=>absurd hh (by omega),(hEl.trans hEw16)⟩
     ·first | omega |(dsimp only;omega)
   ·refine za (zj (some 55) (Instr.loadAt 147 (vP w13.heap.size (0+1*1))) (.func (.func 81) #[(vP w12.heap.size 0)] #[]) (zk ((hBw14.ext hEl).cell rfl)) ?_)
    refine zc 1 [(10,(.func (.func 81) #[(vP w12.heap.size 0)] #[]))] (zf (zb (ze (zd (zc 1 [(56,(.func (.func 81) #[(vP w12.heap.size 0)] #[]))] ?_)))))
    have hK23:=((((((((hs1).book hBkw12)).ext hEw13)).ext hEw14)).ext hEl)
    have hK24:=((((((((hs2).book hBkw12)).ext hEw13)).ext hEw14)).ext hEl)
    have hK25:=(((((((((h_t.ext hEw)).book hBkw12)).ext hEw13)).ext hEw14)).ext hEl)
    refine za (zl (some 57) (zsN w12.heap.size n l j _ (((hBw13.ext hEw14)).ext hEl) hK23 hK24 hK25 (by first | rfl | assumption) (by first | rfl | assumption) (by first | omega | decide) (by first | omega | decide) (by first | omega | decide) (by first | omega | decide) (by first | omega | decide)) ?_)
    rintro _ w19 ⟨rfl,hEw19⟩
    have hzw19:=hEw19.size
    refine zc 1 [(11,(vI (zdM n t l j)))] (zf (zb (ze (zd (zc 1 [(58,(vI (zdM n t l j)))] (za (zK (some 59) ((((zdM n t l j:Nat):Int) !=((0:Nat):Int))) (fun hc59=> ?_) (fun hc59=> ?_))))))))
    ·replace hc59:¬(zdM n t l j=0):=by have:=zbE hc59;omega
     refine zf (zb (zC (ze (zd ?_))))
     have hK26:=((((((((((hK4).book hBkw12)).ext hEw13)).ext hEw14)).ext hEl)).ext hEw19)
     refine za (zj (some 60) (Instr.loadAt 114 (vP w4.heap.size 0)) (vA [(.slice a1 (hgt n+1) ca1),(.slice a2 (hgt n+1) ca2)]) (zw (vs:= [(.slice a1 (hgt n+1) ca1),(.slice a2 (hgt n+1) ca2)]) (hK26.all)) ?_)
     refine zc 1 [(61,(vI (zdM n t l j)))] ?_
     have hK27:=((((((((((hK2).book hBkw12)).ext hEw13)).ext hEw14)).ext hEl)).ext hEw19)
     refine za (zv 114 w1.heap.size 0 114 (vA [(.slice a1 (hgt n+1) ca1),(.slice a2 (hgt n+1) ca2)]) ([(.slice none 0 0),(.slice none 0 0)]) ([(.slice a1 (hgt n+1) ca1),(.slice a2 (hgt n+1) ca2)]) hK27 (by kernel_rfl) (by first | decide |(simp;done)|(simp;omega)) (by simp [Value.oneCell']) ?_)
     have hK28:=((((((((((hK2).book hBkw12)).ext hEw13)).ext hEw14)).ext hEl)).ext hEw19)
     intro w20 hBw20 hCw20
     have hzw20:=hCw20.size
     rw [zm _ _ (by kernel_rfl)] at hBw20
     have hK29:=((((((((((((hK3).book hBkw12)).ext hEw13)).ext hEw14)).ext hEl)).ext hEw19)).chg hCw20 (fun hs=>by have h:_=_:=hs;omega))
     refine za (zah 39 w2.heap.size 0 39 (vI (zdM n t l j)) ([(vI 0)]) hK29 (by first | decide |(simp;done)|(simp;omega)) ?_)
     have hK30:=((((((((((((hK3).book hBkw12)).ext hEw13)).ext hEw14)).ext hEl)).ext hEw19)).chg hCw20 (fun hs=>by have h:_=_:=hs;omega))
     intro w21 hBw21 hCw21
     have hzw21:=hCw21.size
     replace hBw21:=hBw21.set1
     refine zf (zb (zq (zG (zD (zD (zG (zG ?_)))))))
     have hK31:=(((((hK23.ext hEw19)).chg hCw20 (fun k h1 h2 hs=>by have h:k=_:=hs;omega))).chg hCw21 (fun k h1 h2 hs=>by have h:k=_:=hs;omega))
     have hK32:=(((((hK24.ext hEw19)).chg hCw20 (fun k h1 h2 hs=>by have h:k=_:=hs;omega))).chg hCw21 (fun k h1 h2 hs=>by have h:k=_:=hs;omega))
     have hX4:Ext w w21:=(Ext.own (Ext.own (((((hEw.book hBkw12 (by omega)).trans hEw13).trans hEw14).trans hEl).trans hEw19) hCw20 (by omega)) hCw21 (by omega))
     exact zgE (((((((Kpt.refl _).ext hEw13).ext hEw14).ext hEl).ext hEw19).blk hK28 hCw20).blk hK30 hCw21) (Chg.then (Chg.then (((((Chg.refl _ _).trans hEw13.chg).trans hEw14.chg).trans hEl.chg).trans hEw19.chg) hCw20 (fun k hk hs=>by have h:k=_:=hs;first |(left;omega)|(exfalso;omega)|(right;simp [h];done))) hCw21 (fun k hk hs=>by have h:k=_:=hs;first |(left;omega)|(exfalso;omega)|(right;simp [h];done))) (⟨rfl,((hBw20).chg hCw21 (fun hs=>by have h:_=_:=hs;omega)),(zhH hok hk (by rw [hlv,Nat.add_sub_cancel_left];exact zpP (hq0 (by omega)) hc59) hc59).symm▸hBw21,hK31,hK32,hX4⟩)
    ·replace hc59:zdM n t l j=0:=by have:=zbG hc59;omega
     refine zf (zb (zn (zu (zp (zb (zd (za (zt (some 62) .i64 (IntKind.i64.wrap (((1:Nat):Int)+((1:Nat):Int))) 2 (zA (by omega) (by omega) (by omega)) ?_))))))))
     refine zc 1 [(52,(vI 2))] (zf (zF (zR (1+1) ?_ ?_)))
     ·exact ⟨by omega,fun hh=>hq0 (by omega),fun _=>hc59,fun hh=>absurd hh (by omega),(hEl.trans hEw19)⟩
     ·first | omega |(dsimp only;omega)
   ·refine za (zj (some 55) (Instr.loadAt 147 (vP w13.heap.size (0+2*1))) (.func (.func 82) #[(vP w12.heap.size 0)] #[]) (zk ((hBw14.ext hEl).cell rfl)) ?_)
    refine zc 1 [(10,(.func (.func 82) #[(vP w12.heap.size 0)] #[]))] (zf (zb (ze (zd (zc 1 [(56,(.func (.func 82) #[(vP w12.heap.size 0)] #[]))] ?_)))))
    have hK33:=((((((((hs1).book hBkw12)).ext hEw13)).ext hEw14)).ext hEl)
    have hK34:=((((((((hs2).book hBkw12)).ext hEw13)).ext hEw14)).ext hEl)
    have hK35:=(((((((((h_t.ext hEw)).book hBkw12)).ext hEw13)).ext hEw14)).ext hEl)
    have hK36:=(((((((((hg0.ext hEw)).book hBkw12)).ext hEw13)).ext hEw14)).ext hEl)
    have hK37:=(((((((((hg1.ext hEw)).book hBkw12)).ext hEw13)).ext hEw14)).ext hEl)
    have hK38:=(((((((((hg2.ext hEw)).book hBkw12)).ext hEw13)).ext hEw14)).ext hEl)
    refine za (zl (some 57) (zsY w12.heap.size n l j _ (((hBw13.ext hEw14)).ext hEl) hK33 hK34 hK35 (by first | rfl | assumption) (by first | rfl | assumption) (by first | omega | decide) (by first | omega | decide) (by first | omega | decide) (by first | omega | decide) (by first | omega | decide) (fun h0 w hw=>⟨hp3 _ (by have:=ziC h0 hl hj hw;omega),(zcQ (zmk (zqC hok h0 hl hj hw)).1.2.2).1⟩) hK36 hK37 hK38) ?_)
    rintro _ w22 ⟨rfl,hEw22⟩
    have hzw22:=hEw22.size
    refine zc 1 [(11,(vI (zdV n t l j)))] (zf (zb (ze (zd (zc 1 [(58,(vI (zdV n t l j)))] (za (zK (some 59) ((((zdV n t l j:Nat):Int) !=((0:Nat):Int))) (fun hc59=> ?_) (fun hc59=> ?_))))))))
    ·replace hc59:¬(zdV n t l j=0):=by have:=zbE hc59;omega
     refine zf (zb (zC (ze (zd ?_))))
     have hK39:=((((((((((hK4).book hBkw12)).ext hEw13)).ext hEw14)).ext hEl)).ext hEw22)
     refine za (zj (some 60) (Instr.loadAt 114 (vP w4.heap.size 0)) (vA [(.slice a1 (hgt n+1) ca1),(.slice a2 (hgt n+1) ca2)]) (zw (vs:= [(.slice a1 (hgt n+1) ca1),(.slice a2 (hgt n+1) ca2)]) (hK39.all)) ?_)
     refine zc 1 [(61,(vI (zdV n t l j)))] ?_
     have hK40:=((((((((((hK2).book hBkw12)).ext hEw13)).ext hEw14)).ext hEl)).ext hEw22)
     refine za (zv 114 w1.heap.size 0 114 (vA [(.slice a1 (hgt n+1) ca1),(.slice a2 (hgt n+1) ca2)]) ([(.slice none 0 0),(.slice none 0 0)]) ([(.slice a1 (hgt n+1) ca1),(.slice a2 (hgt n+1) ca2)]) hK40 (by kernel_rfl) (by first | decide |(simp;done)|(simp;omega)) (by simp [Value.oneCell']) ?_)
     have hK41:=((((((((((hK2).book hBkw12)).ext hEw13)).ext hEw14)).ext hEl)).ext hEw22)
     intro w23 hBw23 hCw23
     have hzw23:=hCw23.size
     rw [zm _ _ (by kernel_rfl)] at hBw23
     have hK42:=((((((((((((hK3).book hBkw12)).ext hEw13)).ext hEw14)).ext hEl)).ext hEw22)).chg hCw23 (fun hs=>by have h:_=_:=hs;omega))
     refine za (zah 39 w2.heap.size 0 39 (vI (zdV n t l j)) ([(vI 0)]) hK42 (by first | decide |(simp;done)|(simp;omega)) ?_)
     have hK43:=((((((((((((hK3).book hBkw12)).ext hEw13)).ext hEw14)).ext hEl)).ext hEw22)).chg hCw23 (fun hs=>by have h:_=_:=hs;omega))
     intro w24 hBw24 hCw24
     have hzw24:=hCw24.size
     replace hBw24:=hBw24.set1
     refine zf (zb (zq (zG (zD (zD (zG (zG ?_)))))))
     have hK44:=(((((hK33.ext hEw22)).chg hCw23 (fun k h1 h2 hs=>by have h:k=_:=hs;omega))).chg hCw24 (fun k h1 h2 hs=>by have h:k=_:=hs;omega))
     have hK45:=(((((hK34.ext hEw22)).chg hCw23 (fun k h1 h2 hs=>by have h:k=_:=hs;omega))).chg hCw24 (fun k h1 h2 hs=>by have h:k=_:=hs;omega))
     have hX5:Ext w w24:=(Ext.own (Ext.own (((((hEw.book hBkw12 (by omega)).trans hEw13).trans hEw14).trans hEl).trans hEw22) hCw23 (by omega)) hCw24 (by omega))
     exact zgE (((((((Kpt.refl _).ext hEw13).ext hEw14).ext hEl).ext hEw22).blk hK41 hCw23).blk hK43 hCw24) (Chg.then (Chg.then (((((Chg.refl _ _).trans hEw13.chg).trans hEw14.chg).trans hEl.chg).trans hEw22.chg) hCw23 (fun k hk hs=>by have h:k=_:=hs;first |(left;omega)|(exfalso;omega)|(right;simp [h];done))) hCw24 (fun k hk hs=>by have h:k=_:=hs;first |(left;omega)|(exfalso;omega)|(right;simp [h];done))) (⟨rfl,((hBw23).chg hCw24 (fun hs=>by have h:_=_:=hs;omega)),(zhH hok hk (by rw [hlv,Nat.add_sub_cancel_left];exact zpe (hq0 (by omega)) hc59) hc59).symm▸hBw24,hK44,hK45,hX5⟩)
    ·replace hc59:zdV n t l j=0:=by have:=zbG hc59;omega
     refine zf (zb (zn (zu (zp (zb (zd (za (zt (some 62) .i64 (IntKind.i64.wrap (((2:Nat):Int)+((1:Nat):Int))) 3 (zA (by omega) (by omega) (by omega)) ?_))))))))
     refine zc 1 [(52,(vI 3))] (zf (zF (zR (2+1) ?_ ?_)))
     ·exact ⟨by omega,fun hh=>hq0 (by omega),fun hh=>hq1 (by omega),fun _=>hc59,(hEl.trans hEw22)⟩
     ·first | omega |(dsimp only;omega)
  ·replace hc53:¬(q<3):=by have:=zae hc53;omega
   obtain rfl:q=3:=by omega
   refine zf (zb (ze (zn (zW (zx (zx (zL (zp ?_))))))))
   have hK46:=((((((((hK1).book hBkw12)).ext hEw13)).ext hEw14)).ext hEl)
   have hK47:=((((((((hK2).book hBkw12)).ext hEw13)).ext hEw14)).ext hEl)
   have hK48:=((((((((hK3).book hBkw12)).ext hEw13)).ext hEw14)).ext hEl)
   have hK49:=((((((((hK4).book hBkw12)).ext hEw13)).ext hEw14)).ext hEl)
   have hK50:=((((((((hs1).book hBkw12)).ext hEw13)).ext hEw14)).ext hEl)
   have hK51:=((((((((hs2).book hBkw12)).ext hEw13)).ext hEw14)).ext hEl)
   have hX6:Ext w w15:=((((hEw.book hBkw12 (by omega)).trans hEw13).trans hEw14).trans hEl)
   exact zdC ((((Kpt.refl _).ext hEw13).ext hEw14).ext hEl) ((((Chg.refl _ _).trans hEw13.chg).trans hEw14.chg).trans hEl.chg) (⟨zps hok (by rw [hlv,Nat.add_sub_cancel_left];exact zp8 (hq0 (by omega)) (hq1 (by omega)) (hq2 (by omega))),hK46,hK47,hK48,hK49,hK50,hK51,hX6⟩)
 ·rintro D w25 hD ⟨hok,hK1,hK2,hK3,hK4,hs1,hs2,hEw⟩ hM
  have hzr:=hEw.size
  have hK1l:=hK1.lt
  have hK2l:=hK2.lt
  have hK3l:=hK3.lt
  have hK4l:=hK4.lt
  have hMl:=hM.lt
  refine zp (zb (ze (zd (za (zj (some 63) (Instr.loadAt 114 (vP w4.heap.size 0)) (vA [(.slice a1 (hgt n+1) ca1),(.slice a2 (hgt n+1) ca2)]) (zw (vs:= [(.slice a1 (hgt n+1) ca1),(.slice a2 (hgt n+1) ca2)]) (hK4.all)) ?_)))))
  refine za (zv 114 w1.heap.size 0 114 (vA [(.slice a1 (hgt n+1) ca1),(.slice a2 (hgt n+1) ca2)]) ([(.slice none 0 0),(.slice none 0 0)]) ([(.slice a1 (hgt n+1) ca1),(.slice a2 (hgt n+1) ca2)]) hK2 (by kernel_rfl) (by first | decide |(simp;done)|(simp;omega)) (by simp [Value.oneCell']) ?_)
  intro w26 hBw26 hCw26
  have hzw26:=hCw26.size
  rw [zm _ _ (by kernel_rfl)] at hBw26
  refine za (zah 39 w2.heap.size 0 39 (vI 0) ([(vI 0)]) ((hK3).chg hCw26 (fun hs=>by have h:_=_:=hs;omega)) (by first | decide |(simp;done)|(simp;omega)) ?_)
  intro w27 hBw27 hCw27
  have hzw27:=hCw27.size
  replace hBw27:=hBw27.set1
  refine zf (zb (zq ?_))
  obtain ⟨w28,hTw28,hCw28,hBkw28⟩:=zfH (P:=Tryz.prog) ((((hM).chg hCw26 (fun hs=>by have h:_=_:=hs;omega))).chg hCw27 (fun hs=>by have h:_=_:=hs;omega))
  have hzw28:=hCw28.size
  refine zmW hTw28 (zeb (by kernel_rfl) (show zZ Tryz.prog 64 _ _ (.cell 2 114) (vA [(.slice a1 (hgt n+1) ca1),(.slice a2 (hgt n+1) ca2)]) from ⟨⟨w1.heap.size,0,none⟩,(by kernel_rfl),zN (T:=114) (vs:= [(.slice a1 (hgt n+1) ca1),(.slice a2 (hgt n+1) ca2)]) (((((hBw26).chg hCw27 (fun hs=>by have h:_=_:=hs;omega))).book hBkw28)).all (by kernel_rfl)⟩) (show zZ Tryz.prog 64 _ _ (.cell 3 39) (vI 0) from ⟨⟨w2.heap.size,0,none⟩,(by kernel_rfl),zcD (T:=39) ((((hBw27).book hBkw28)).cell rfl)⟩)) ?_
  have hX7:Ext w w28:=((Ext.own (Ext.own hEw hCw26 (by omega)) hCw27 (by omega)).book hBkw28 (by omega))
  have hK52:=((((((hs1).chg hCw26 (fun k h1 h2 hs=>by have h:k=_:=hs;omega))).chg hCw27 (fun k h1 h2 hs=>by have h:k=_:=hs;omega))).book hBkw28)
  have hK53:=((((((hs2).chg hCw26 (fun k h1 h2 hs=>by have h:k=_:=hs;omega))).chg hCw27 (fun k h1 h2 hs=>by have h:k=_:=hs;omega))).book hBkw28)
  exact ⟨_,_,_,_,by rw [zpV hok],(hK52).now.mono (by omega) (Nat.le_refl _),(hK53).now.mono (by omega) (Nat.le_refl _),hX7⟩
 ·rintro D cc k w29 hD hk ⟨rfl,hX2,hX3,hs1,hs2,hEw⟩ hM
  have hzr:=hEw.size
  have hX2l:=hX2.lt;have hX3l:=hX3.lt
  have hMl:=hM.lt
  refine zq (zG (zD ?_))
  obtain ⟨w30,hTw30,hCw30,hBkw30⟩:=zfH (P:=Tryz.prog) hM
  have hzw30:=hCw30.size
  exact zmW hTw30 (zeb (by kernel_rfl) (show zZ Tryz.prog 64 _ _ (.cell 2 114) (vA [(.slice a1 (hgt n+1) ca1),(.slice a2 (hgt n+1) ca2)]) from ⟨⟨w1.heap.size,0,none⟩,(by kernel_rfl),zN (T:=114) (vs:= [(.slice a1 (hgt n+1) ca1),(.slice a2 (hgt n+1) ca2)]) (((hX2).book hBkw30)).all (by kernel_rfl)⟩) (show zZ Tryz.prog 64 _ _ (.cell 3 39) (vI (zbY n (zbz n t))) from ⟨⟨w2.heap.size,0,none⟩,(by kernel_rfl),zcD (T:=39) ((((hX3).book hBkw30)).cell rfl)⟩)) (⟨_,_,_,_,rfl,(((hs1).book hBkw30)).now.mono (by omega) (Nat.le_refl _),(((hs2).book hBkw30)).now.mono (by omega) (Nat.le_refl _),(hEw.book hBkw30 (by omega))⟩)
theorem zpi (n:Int) {lo_t hi_t:Nat} {a_t:Option Addr} {n_t c_t:Nat} {t:List Un} (w:World) (h_t:Ms unC 280 lo_t hi_t w a_t n_t c_t t) (hp0:¬(1≤n∧n≤4096)):
  Calls Tryz.prog 55 #[(vA [(.int .i64 n),(.slice a_t n_t c_t)])] w (Ret fun r w'=>∃(a0:Option Addr) (na0:Nat) (ca0:Nat) (a1:Option Addr) (na1:Nat) (ca1:Nat),r=(.tuple #[(vA [(.slice a0 na0 ca0),(.slice a1 na1 ca1)]),(vI 1)])∧Ext w w'):=by
 refine zek (n:=64) (σ:= [(0,(vA [(.int .i64 n),(.slice a_t n_t c_t)]))]) Tryz.func55 rfl ?_
 replace h_t:=h_t.now;have hle_t:=h_t.le
 refine ze (zd (za (zo (some 1) (Instr.box 38 (vA [(.int .i64 n),(.slice a_t n_t c_t)])) (vP w.heap.size 0) ([(.int .i64 n),(.slice a_t n_t c_t)]) 38 ?_)))
 intro w1 hBw1 hEw1
 have hzw1:=hEw1.size;have hlw1:=hBw1.lt
 refine za (zo (some 2) (Instr.alloc 114 true (.tuple #[])) (vP w1.heap.size 0) ([(.slice none 0 0),(.slice none 0 0)]) 114 ?_)
 intro w2 hBw2 hEw2
 have hzw2:=hEw2.size;have hlw2:=hBw2.lt
 refine za (zo (some 3) (Instr.alloc 39 true (.tuple #[])) (vP w2.heap.size 0) ([(vI 0)]) 39 ?_)
 intro w3 hBw3 hEw3
 have hzw3:=hEw3.size;have hlw3:=hBw3.lt
 refine zf (zb (ze (zd (zc 1 [(13,(vP w.heap.size 0))] (za (zj (some 14) (Instr.loadAt 3 (vP w.heap.size 0)) (.int .i64 n) (zk ((((hBw1.ext hEw2)).ext hEw3).cell rfl)) ?_))))))
 refine za (zl (some 15) (zoo n _ (by omega)) ?_)
 rintro _ w4 ⟨rfl,hEw4⟩
 have hzw4:=hEw4.size
 refine zc 3 [(17,(vI 1)),(16,(vA [(.slice none 0 0),(.slice none 0 0)])),(12,(.tuple #[(vA [(.slice none 0 0),(.slice none 0 0)]),(vI 1)]))] (za (zo (some 4) (Instr.alloc 114 true (.tuple #[])) (vP w4.heap.size 0) ([(.slice none 0 0),(.slice none 0 0)]) 114 ?_))
 intro w5 hBw5 hEw5
 have hzw5:=hEw5.size;have hlw5:=hBw5.lt
 refine za (zv 114 w4.heap.size 0 114 (vA [(.slice none 0 0),(.slice none 0 0)]) ([(.slice none 0 0),(.slice none 0 0)]) ([(.slice none 0 0),(.slice none 0 0)]) hBw5 (by kernel_rfl) (by first | decide |(simp;done)|(simp;omega)) (by simp [Value.oneCell']) ?_)
 intro w6 hBw6 hCw6
 have hzw6:=hCw6.size
 rw [zm _ _ (by kernel_rfl)] at hBw6
 refine zc 1 [(5,(vI 1))] (zf (zb (ze (ze (zd (zc 1 [(18,(vI 1))] (za (zai (some 19) (((1:Nat):Int) !=((0:Nat):Int)) true (zcp (by omega)) ?_))))))))
 refine zf (zb (zC (ze (zd (za (zj (some 20) (Instr.loadAt 114 (vP w4.heap.size 0)) (vA [(.slice none 0 0),(.slice none 0 0)]) (zw (vs:= [(.slice none 0 0),(.slice none 0 0)]) (hBw6.all)) ?_))))))
 refine zc 1 [(21,(vI 1))] ?_
 have hK1:=(((((((hBw2.ext hEw3)).ext hEw4)).ext hEw5)).chg hCw6 (fun hs=>by have h:_=_:=hs;omega))
 refine za (zv 114 w1.heap.size 0 114 (vA [(.slice none 0 0),(.slice none 0 0)]) ([(.slice none 0 0),(.slice none 0 0)]) ([(.slice none 0 0),(.slice none 0 0)]) hK1 (by kernel_rfl) (by first | decide |(simp;done)|(simp;omega)) (by simp [Value.oneCell']) ?_)
 have hK2:=(((((((hBw2.ext hEw3)).ext hEw4)).ext hEw5)).chg hCw6 (fun hs=>by have h:_=_:=hs;omega))
 intro w7 hBw7 hCw7
 have hzw7:=hCw7.size
 rw [zm _ _ (by kernel_rfl)] at hBw7
 have hK3:=(((((((hBw3.ext hEw4)).ext hEw5)).chg hCw6 (fun hs=>by have h:_=_:=hs;omega))).chg hCw7 (fun hs=>by have h:_=_:=hs;omega))
 refine za (zah 39 w2.heap.size 0 39 (vI 1) ([(vI 0)]) hK3 (by first | decide |(simp;done)|(simp;omega)) ?_)
 have hK4:=(((((((hBw3.ext hEw4)).ext hEw5)).chg hCw6 (fun hs=>by have h:_=_:=hs;omega))).chg hCw7 (fun hs=>by have h:_=_:=hs;omega))
 intro w8 hBw8 hCw8
 have hzw8:=hCw8.size
 replace hBw8:=hBw8.set1
 refine zf (zb (zq (zD (zgv (zeb (by kernel_rfl) (show zZ Tryz.prog 64 _ _ (.cell 2 114) (vA [(.slice none 0 0),(.slice none 0 0)]) from ⟨⟨w1.heap.size,0,none⟩,(by kernel_rfl),zN (T:=114) (vs:= [(.slice none 0 0),(.slice none 0 0)]) (((hBw7).chg hCw8 (fun hs=>by have h:_=_:=hs;omega))).all (by kernel_rfl)⟩) (show zZ Tryz.prog 64 _ _ (.cell 3 39) (vI 1) from ⟨⟨w2.heap.size,0,none⟩,(by kernel_rfl),zcD (T:=39) ((hBw8).cell rfl)⟩)) ?_))))
 have hX1:Ext w w8:=(Ext.own (Ext.own (Ext.own ((((hEw1.trans hEw2).trans hEw3).trans hEw4).trans hEw5) hCw6 (by omega)) hCw7 (by omega)) hCw8 (by omega))
 exact ⟨_,_,_,_,_,_,rfl,hX1⟩
theorem zp6 (n:Nat) {lo_t hi_t:Nat} {a_t:Option Addr} {n_t c_t:Nat} {t:List Un} (w:World) (h_t:Ms unC 280 lo_t hi_t w a_t n_t c_t t) (hp0:1≤n) (hp1:n≤4096) (hp2:n_t≠tot n):
  Calls Tryz.prog 55 #[(vA [(vI n),(.slice a_t n_t c_t)])] w (Ret fun r w'=>∃(a0:Option Addr) (na0:Nat) (ca0:Nat) (a1:Option Addr) (na1:Nat) (ca1:Nat),r=(.tuple #[(vA [(.slice a0 na0 ca0),(.slice a1 na1 ca1)]),(vI 1)])∧Ext w w'):=by
 refine zek (n:=64) (σ:= [(0,(vA [(vI n),(.slice a_t n_t c_t)]))]) Tryz.func55 rfl ?_
 replace h_t:=h_t.now;have hle_t:=h_t.le
 have h5:=zat n
 refine ze (zd (za (zo (some 1) (Instr.box 38 (vA [(vI n),(.slice a_t n_t c_t)])) (vP w.heap.size 0) ([(vI n),(.slice a_t n_t c_t)]) 38 ?_)))
 intro w1 hBw1 hEw1
 have hzw1:=hEw1.size;have hlw1:=hBw1.lt
 refine za (zo (some 2) (Instr.alloc 114 true (.tuple #[])) (vP w1.heap.size 0) ([(.slice none 0 0),(.slice none 0 0)]) 114 ?_)
 intro w2 hBw2 hEw2
 have hzw2:=hEw2.size;have hlw2:=hBw2.lt
 refine za (zo (some 3) (Instr.alloc 39 true (.tuple #[])) (vP w2.heap.size 0) ([(vI 0)]) 39 ?_)
 intro w3 hBw3 hEw3
 have hzw3:=hEw3.size;have hlw3:=hBw3.lt
 refine zf (zb (ze (zd (zc 1 [(13,(vP w.heap.size 0))] (za (zj (some 14) (Instr.loadAt 3 (vP w.heap.size 0)) (vI n) (zk ((((hBw1.ext hEw2)).ext hEw3).cell rfl)) ?_))))))
 refine za (zl (some 15) (zjO n _ (by omega) (by omega)) ?_)
 rintro _ w4 ⟨a1,ca1,a2,ca2,rfl,hFz1_0,hFz1_1,hEw4⟩
 have hzw4:=hEw4.size
 have hlea1:=hFz1_0.le
 have hlea2:=hFz1_1.le
 refine zc 3 [(17,(vI 0)),(16,(vA [(.slice a1 (hgt n+1) ca1),(.slice a2 (hgt n+1) ca2)])),(12,(.tuple #[(vA [(.slice a1 (hgt n+1) ca1),(.slice a2 (hgt n+1) ca2)]),(vI 0)]))] (za (zo (some 4) (Instr.alloc 114 true (.tuple #[])) (vP w4.heap.size 0) ([(.slice none 0 0),(.slice none 0 0)]) 114 ?_))
 intro w5 hBw5 hEw5
 have hzw5:=hEw5.size;have hlw5:=hBw5.lt
 refine za (zv 114 w4.heap.size 0 114 (vA [(.slice a1 (hgt n+1) ca1),(.slice a2 (hgt n+1) ca2)]) ([(.slice none 0 0),(.slice none 0 0)]) ([(.slice a1 (hgt n+1) ca1),(.slice a2 (hgt n+1) ca2)]) hBw5 (by kernel_rfl) (by first | decide |(simp;done)|(simp;omega)) (by simp [Value.oneCell']) ?_)
 intro w6 hBw6 hCw6
 have hzw6:=hCw6.size
 rw [zm _ _ (by kernel_rfl)] at hBw6
 refine zc 1 [(5,(vI 0))] (zf (zb (ze (ze (zd (zc 1 [(18,(vI 0))] (za (zai (some 19) (((0:Nat):Int) !=((0:Nat):Int)) false (zaA (by omega)) ?_))))))))
 refine zf (zb (zn (zu (zb (ze (ze (zT (Ext w6.drew) 11 [(23,2,0),(24,4194304,1),(25,8388608,2),(26,16,0),(27,33554432,8),(28,83886080,20),(29,134217728,48),(30,268435458,64),(31,805306368,192),(32,1342177280,320),(33,2415919104,576)] (fun hT347=> ?_))))))))
 have hEw7:Ext w6 w6.drew:=Ext.drew w6
 generalize w6.drew=w7 at hEw7⊢
 have hzw7:=hEw7.size
 refine zh hT347 [(0,22,(vP w.heap.size 1))] 1 1 ?_
 have hK1:=(((((((((((hBw1.ext hEw2)).ext hEw3)).ext hEw4)).ext hEw5)).chg hCw6 (fun hs=>by have h:_=_:=hs;omega))).ext hEw7)
 refine zg hT347 1 3 (some 23) (.slice a_t n_t c_t) (zi (Instr.loadAt 36 (vP w.heap.size 1)) (fun w' hC=>zk ((hK1.ext hC).cell rfl))) (zh hT347 [(2,24,(vI n_t))] 1 7 (zg hT347 3 15 (some 25) (vA [(.slice a1 (hgt n+1) ca1),(.slice a2 (hgt n+1) ca2)]) (zi (Instr.loadAt 114 (vP w4.heap.size 0)) (fun w' hC=>zw (vs:= [(.slice a1 (hgt n+1) ca1),(.slice a2 (hgt n+1) ca2)]) (((hBw6.ext hEw7).ext hC).all))) ?_))
 have hK2:=(((((hFz1_0.ext hEw5)).chg hCw6 (fun k h1 h2 hs=>by have h:k=_:=hs;omega))).ext hEw7)
 have hK3:=(((((hFz1_1.ext hEw5)).chg hCw6 (fun k h1 h2 hs=>by have h:k=_:=hs;omega))).ext hEw7)
 refine zz 4 31 (zl (some 26) (zhz n _ hK2 hK3 (by first | rfl | assumption) (by first | rfl | assumption) (by first | omega | decide) (by first | omega | decide)) ?_)
 rintro _ w8 ⟨rfl,hEw8⟩
 have hzw8:=hEw8.size
 refine ⟨.inr hEw8, ?_⟩
 refine zg (hw:=hEw8) hT347 5 63 (some 27) vT (zaD (((n_t:Nat):Int) !=((tot n:Nat):Int)) (zcp (by omega))) (zh (hw:=hEw8) hT347 [(6,28,vT),(7,29,undef),(8,30,undef),(9,31,undef),(10,32,vT)] 5 2047 (zJ (zb (zC (ze (zd (za (zj (some 33) (Instr.loadAt 114 (vP w4.heap.size 0)) (vA [(.slice a1 (hgt n+1) ca1),(.slice a2 (hgt n+1) ca2)]) (zw (vs:= [(.slice a1 (hgt n+1) ca1),(.slice a2 (hgt n+1) ca2)]) ((((hBw6.ext hEw7)).ext hEw8).all)) ?_))))))))
 have hK4:=(((((((((((hBw2.ext hEw3)).ext hEw4)).ext hEw5)).chg hCw6 (fun hs=>by have h:_=_:=hs;omega))).ext hEw7)).ext hEw8)
 refine za (zv 114 w1.heap.size 0 114 (vA [(.slice a1 (hgt n+1) ca1),(.slice a2 (hgt n+1) ca2)]) ([(.slice none 0 0),(.slice none 0 0)]) ([(.slice a1 (hgt n+1) ca1),(.slice a2 (hgt n+1) ca2)]) hK4 (by kernel_rfl) (by first | decide |(simp;done)|(simp;omega)) (by simp [Value.oneCell']) ?_)
 have hK5:=(((((((((((hBw2.ext hEw3)).ext hEw4)).ext hEw5)).chg hCw6 (fun hs=>by have h:_=_:=hs;omega))).ext hEw7)).ext hEw8)
 intro w9 hBw9 hCw9
 have hzw9:=hCw9.size
 rw [zm _ _ (by kernel_rfl)] at hBw9
 have hK6:=(((((((((((hBw3.ext hEw4)).ext hEw5)).chg hCw6 (fun hs=>by have h:_=_:=hs;omega))).ext hEw7)).ext hEw8)).chg hCw9 (fun hs=>by have h:_=_:=hs;omega))
 refine za (zah 39 w2.heap.size 0 39 (vI 1) ([(vI 0)]) hK6 (by first | decide |(simp;done)|(simp;omega)) ?_)
 have hK7:=(((((((((((hBw3.ext hEw4)).ext hEw5)).chg hCw6 (fun hs=>by have h:_=_:=hs;omega))).ext hEw7)).ext hEw8)).chg hCw9 (fun hs=>by have h:_=_:=hs;omega))
 intro w10 hBw10 hCw10
 have hzw10:=hCw10.size
 replace hBw10:=hBw10.set1
 refine zf (zb (zq (zD (zgv (zeb (by kernel_rfl) (show zZ Tryz.prog 64 _ _ (.cell 2 114) (vA [(.slice a1 (hgt n+1) ca1),(.slice a2 (hgt n+1) ca2)]) from ⟨⟨w1.heap.size,0,none⟩,(by kernel_rfl),zN (T:=114) (vs:= [(.slice a1 (hgt n+1) ca1),(.slice a2 (hgt n+1) ca2)]) (((hBw9).chg hCw10 (fun hs=>by have h:_=_:=hs;omega))).all (by kernel_rfl)⟩) (show zZ Tryz.prog 64 _ _ (.cell 3 39) (vI 1) from ⟨⟨w2.heap.size,0,none⟩,(by kernel_rfl),zcD (T:=39) ((hBw10).cell rfl)⟩)) ?_))))
 have hX1:Ext w w10:=(Ext.own (Ext.own (((Ext.own ((((hEw1.trans hEw2).trans hEw3).trans hEw4).trans hEw5) hCw6 (by omega)).trans hEw7).trans hEw8) hCw9 (by omega)) hCw10 (by omega))
 exact ⟨_,_,_,_,_,_,rfl,hX1⟩
theorem zpx (n:Nat) {lo_t hi_t:Nat} {a_t:Option Addr} {n_t c_t:Nat} {t:List Un} (w:World) (h_t:Ms unC 280 lo_t hi_t w a_t n_t c_t t) (hp0:1≤n) (hp1:n≤4096) (hp2:n_t=tot n) (hp3:¬(∀i,i<t.length→(t.getD i Un.zero).sl=0∨(t.getD i Un.zero).sl=1)):
  Calls Tryz.prog 55 #[(vA [(vI n),(.slice a_t n_t c_t)])] w (Ret fun r w'=>∃(a0:Option Addr) (na0:Nat) (ca0:Nat) (a1:Option Addr) (na1:Nat) (ca1:Nat),r=(.tuple #[(vA [(.slice a0 na0 ca0),(.slice a1 na1 ca1)]),(vI 1)])∧Ext w w'):=by
 refine zek (n:=64) (σ:= [(0,(vA [(vI n),(.slice a_t n_t c_t)]))]) Tryz.func55 rfl ?_
 replace h_t:=h_t.now;have hle_t:=h_t.le
 have h5:=zat n
 refine ze (zd (za (zo (some 1) (Instr.box 38 (vA [(vI n),(.slice a_t n_t c_t)])) (vP w.heap.size 0) ([(vI n),(.slice a_t n_t c_t)]) 38 ?_)))
 intro w1 hBw1 hEw1
 have hzw1:=hEw1.size;have hlw1:=hBw1.lt
 refine za (zo (some 2) (Instr.alloc 114 true (.tuple #[])) (vP w1.heap.size 0) ([(.slice none 0 0),(.slice none 0 0)]) 114 ?_)
 intro w2 hBw2 hEw2
 have hzw2:=hEw2.size;have hlw2:=hBw2.lt
 refine za (zo (some 3) (Instr.alloc 39 true (.tuple #[])) (vP w2.heap.size 0) ([(vI 0)]) 39 ?_)
 intro w3 hBw3 hEw3
 have hzw3:=hEw3.size;have hlw3:=hBw3.lt
 refine zf (zb (ze (zd (zc 1 [(13,(vP w.heap.size 0))] (za (zj (some 14) (Instr.loadAt 3 (vP w.heap.size 0)) (vI n) (zk ((((hBw1.ext hEw2)).ext hEw3).cell rfl)) ?_))))))
 refine za (zl (some 15) (zjO n _ (by omega) (by omega)) ?_)
 rintro _ w4 ⟨a1,ca1,a2,ca2,rfl,hFz1_0,hFz1_1,hEw4⟩
 have hzw4:=hEw4.size
 have hlea1:=hFz1_0.le
 have hlea2:=hFz1_1.le
 refine zc 3 [(17,(vI 0)),(16,(vA [(.slice a1 (hgt n+1) ca1),(.slice a2 (hgt n+1) ca2)])),(12,(.tuple #[(vA [(.slice a1 (hgt n+1) ca1),(.slice a2 (hgt n+1) ca2)]),(vI 0)]))] (za (zo (some 4) (Instr.alloc 114 true (.tuple #[])) (vP w4.heap.size 0) ([(.slice none 0 0),(.slice none 0 0)]) 114 ?_))
 intro w5 hBw5 hEw5
 have hzw5:=hEw5.size;have hlw5:=hBw5.lt
 refine za (zv 114 w4.heap.size 0 114 (vA [(.slice a1 (hgt n+1) ca1),(.slice a2 (hgt n+1) ca2)]) ([(.slice none 0 0),(.slice none 0 0)]) ([(.slice a1 (hgt n+1) ca1),(.slice a2 (hgt n+1) ca2)]) hBw5 (by kernel_rfl) (by first | decide |(simp;done)|(simp;omega)) (by simp [Value.oneCell']) ?_)
 intro w6 hBw6 hCw6
 have hzw6:=hCw6.size
 rw [zm _ _ (by kernel_rfl)] at hBw6
 refine zc 1 [(5,(vI 0))] (zf (zb (ze (ze (zd (zc 1 [(18,(vI 0))] (za (zai (some 19) (((0:Nat):Int) !=((0:Nat):Int)) false (zaA (by omega)) ?_))))))))
 refine zf (zb (zn (zu (zb (ze (ze (zT (Ext w6.drew) 11 [(23,2,0),(24,4194304,1),(25,8388608,2),(26,16,0),(27,33554432,8),(28,83886080,20),(29,134217728,48),(30,268435458,64),(31,805306368,192),(32,1342177280,320),(33,2415919104,576)] (fun hT405=> ?_))))))))
 have hEw7:Ext w6 w6.drew:=Ext.drew w6
 generalize w6.drew=w7 at hEw7⊢
 have hzw7:=hEw7.size
 refine zh hT405 [(0,22,(vP w.heap.size 1))] 1 1 ?_
 have hK1:=(((((((((((hBw1.ext hEw2)).ext hEw3)).ext hEw4)).ext hEw5)).chg hCw6 (fun hs=>by have h:_=_:=hs;omega))).ext hEw7)
 refine zg hT405 1 3 (some 23) (.slice a_t n_t c_t) (zi (Instr.loadAt 36 (vP w.heap.size 1)) (fun w' hC=>zk ((hK1.ext hC).cell rfl))) (zh hT405 [(2,24,(vI n_t))] 1 7 (zg hT405 3 15 (some 25) (vA [(.slice a1 (hgt n+1) ca1),(.slice a2 (hgt n+1) ca2)]) (zi (Instr.loadAt 114 (vP w4.heap.size 0)) (fun w' hC=>zw (vs:= [(.slice a1 (hgt n+1) ca1),(.slice a2 (hgt n+1) ca2)]) (((hBw6.ext hEw7).ext hC).all))) ?_))
 have hK2:=(((((hFz1_0.ext hEw5)).chg hCw6 (fun k h1 h2 hs=>by have h:k=_:=hs;omega))).ext hEw7)
 have hK3:=(((((hFz1_1.ext hEw5)).chg hCw6 (fun k h1 h2 hs=>by have h:k=_:=hs;omega))).ext hEw7)
 refine zz 4 31 (zl (some 26) (zhz n _ hK2 hK3 (by first | rfl | assumption) (by first | rfl | assumption) (by first | omega | decide) (by first | omega | decide)) ?_)
 rintro _ w8 ⟨rfl,hEw8⟩
 have hzw8:=hEw8.size
 refine ⟨.inr hEw8, ?_⟩
 refine zg (hw:=hEw8) hT405 5 63 (some 27) vF (zaD (((n_t:Nat):Int) !=((tot n:Nat):Int)) (zaA (by omega))) (zh (hw:=hEw8) hT405 [(6,28,vF),(7,29,(vP w.heap.size 1))] 2 255 (zg (hw:=hEw8) hT405 8 511 (some 30) (.slice a_t n_t c_t) (zi (Instr.loadAt 36 (vP w.heap.size 1)) (fun w' hC=>zk ((hK1.ext hC).cell rfl))) ?_))
 have hK4:=(((((((((((((((h_t.ext hEw1)).ext hEw2)).ext hEw3)).ext hEw4)).ext hEw5)).chg hCw6 (fun k h1 h2 hs=>by have h:k=_:=hs;omega))).ext hEw7)).ext hEw8)
 refine zz 9 1023 (zl (some 31) (zqP _ hK4 (hp3)) ?_)
 rintro _ w9 ⟨rfl,hEw9⟩
 have hzw9:=hEw9.size
 have hX1:Ext w7 w9:=(hEw8.trans hEw9)
 refine ⟨.inr hX1, ?_⟩
 refine zh (hw:=hX1) hT405 [(10,32,vT)] 1 2047 (zJ (zb (zC (ze (zd ?_)))))
 have hK5:=(((((hBw6.ext hEw7)).ext hEw8)).ext hEw9)
 refine za (zj (some 33) (Instr.loadAt 114 (vP w4.heap.size 0)) (vA [(.slice a1 (hgt n+1) ca1),(.slice a2 (hgt n+1) ca2)]) (zw (vs:= [(.slice a1 (hgt n+1) ca1),(.slice a2 (hgt n+1) ca2)]) (hK5.all)) ?_)
 have hK6:=(((((((((((((hBw2.ext hEw3)).ext hEw4)).ext hEw5)).chg hCw6 (fun hs=>by have h:_=_:=hs;omega))).ext hEw7)).ext hEw8)).ext hEw9)
 refine za (zv 114 w1.heap.size 0 114 (vA [(.slice a1 (hgt n+1) ca1),(.slice a2 (hgt n+1) ca2)]) ([(.slice none 0 0),(.slice none 0 0)]) ([(.slice a1 (hgt n+1) ca1),(.slice a2 (hgt n+1) ca2)]) hK6 (by kernel_rfl) (by first | decide |(simp;done)|(simp;omega)) (by simp [Value.oneCell']) ?_)
 have hK7:=(((((((((((((hBw2.ext hEw3)).ext hEw4)).ext hEw5)).chg hCw6 (fun hs=>by have h:_=_:=hs;omega))).ext hEw7)).ext hEw8)).ext hEw9)
 intro w10 hBw10 hCw10
 have hzw10:=hCw10.size
 rw [zm _ _ (by kernel_rfl)] at hBw10
 have hK8:=(((((((((((((hBw3.ext hEw4)).ext hEw5)).chg hCw6 (fun hs=>by have h:_=_:=hs;omega))).ext hEw7)).ext hEw8)).ext hEw9)).chg hCw10 (fun hs=>by have h:_=_:=hs;omega))
 refine za (zah 39 w2.heap.size 0 39 (vI 1) ([(vI 0)]) hK8 (by first | decide |(simp;done)|(simp;omega)) ?_)
 have hK9:=(((((((((((((hBw3.ext hEw4)).ext hEw5)).chg hCw6 (fun hs=>by have h:_=_:=hs;omega))).ext hEw7)).ext hEw8)).ext hEw9)).chg hCw10 (fun hs=>by have h:_=_:=hs;omega))
 intro w11 hBw11 hCw11
 have hzw11:=hCw11.size
 replace hBw11:=hBw11.set1
 refine zf (zb (zq (zD (zgv (zeb (by kernel_rfl) (show zZ Tryz.prog 64 _ _ (.cell 2 114) (vA [(.slice a1 (hgt n+1) ca1),(.slice a2 (hgt n+1) ca2)]) from ⟨⟨w1.heap.size,0,none⟩,(by kernel_rfl),zN (T:=114) (vs:= [(.slice a1 (hgt n+1) ca1),(.slice a2 (hgt n+1) ca2)]) (((hBw10).chg hCw11 (fun hs=>by have h:_=_:=hs;omega))).all (by kernel_rfl)⟩) (show zZ Tryz.prog 64 _ _ (.cell 3 39) (vI 1) from ⟨⟨w2.heap.size,0,none⟩,(by kernel_rfl),zcD (T:=39) ((hBw11).cell rfl)⟩)) ?_))))
 have hX2:Ext w w11:=(Ext.own (Ext.own ((((Ext.own ((((hEw1.trans hEw2).trans hEw3).trans hEw4).trans hEw5) hCw6 (by omega)).trans hEw7).trans hEw8).trans hEw9) hCw10 (by omega)) hCw11 (by omega))
 exact ⟨_,_,_,_,_,_,rfl,hX2⟩
theorem zrp (n:Int) {lo_t hi_t:Nat} {a_t:Option Addr} {n_t c_t:Nat} {t:List Un} (w:World) (h_t:Ms unC 280 lo_t hi_t w a_t n_t c_t t) (hp0:¬(1≤n∧n≤4096∧t.length=tot n.toNat∧zfQ t=true)):
  Calls Tryz.prog 55 #[(vA [(.int .i64 n),(.slice a_t n_t c_t)])] w (Ret fun r w'=>∃(a0:Option Addr) (na0:Nat) (ca0:Nat) (a1:Option Addr) (na1:Nat) (ca1:Nat),r=(.tuple #[(vA [(.slice a0 na0 ca0),(.slice a1 na1 ca1)]),(vI 1)])∧Ext w w'):=by
 have hlt:=h_t.len_eq
 by_cases h:1≤n∧n≤4096
 ·obtain ⟨m,rfl⟩:=Int.eq_ofNat_of_zero_le (show 0≤n by omega)
  rw [Int.toNat_natCast] at hp0
  by_cases h2:n_t=tot m
  ·exact zpx m w h_t (by omega) (by omega) h2 (fun hh=>hp0 ⟨h.1,h.2,by omega,zeg.2 hh⟩)
  ·exact zp6 m w h_t (by omega) (by omega) h2
 ·exact zpi n w h_t h
theorem zq2 (n:Nat) {lo_t hi_t:Nat} {a_t:Option Addr} {n_t c_t:Nat} {t:List Un} (w:World) (h_t:Ms unC 280 lo_t hi_t w a_t n_t c_t t) (hp0:1≤n) (hp1:n≤4096) (hp2:n_t=tot n) (hp3:∀i,i<t.length→(t.getD i Un.zero).sl=0∨(t.getD i Un.zero).sl=1) (hg0:Gl 0 [vI 45,vI 33] w) (hg1:Gl 1 (w8C za6) w) (hg2:Gl 3 (zar kA) w):
  Calls Tryz.prog 23 #[(vA [(vI n),(.slice a_t n_t c_t)])] w (Ret fun r w'=>r=(vI (zbY n (zbz n t)))∧Ext w w'):=by
 refine zI (n:=11) (σ:= [(0,(vA [(vI n),(.slice a_t n_t c_t)]))]) Tryz.func23 rfl ?_
 replace h_t:=h_t.now;have hle_t:=h_t.le
 have hgl0:=hg0.lt
 have hgl1:=hg1.lt
 have hgl2:=hg2.lt
 have h5:=zat n
 have hlt:=h_t.len_eq
 have hts:=zaw hp1
 have hle:=h_t.le
 refine ze (zd (za (zo (some 1) (Instr.box 38 (vA [(vI n),(.slice a_t n_t c_t)])) (vP w.heap.size 0) ([(vI n),(.slice a_t n_t c_t)]) 38 ?_)))
 intro w1 hBw1 hEw1
 have hzw1:=hEw1.size;have hlw1:=hBw1.lt
 refine zc 1 [(2,(vI 0))] (zf (zb (ze (zd (za (zj (some 6) (Instr.loadAt 38 (vP w.heap.size 0)) (vA [(vI n),(.slice a_t n_t c_t)]) (zw (vs:= [(vI n),(.slice a_t n_t c_t)]) (hBw1.all)) ?_))))))
 refine za (zl (some 7) (zkc n _ (h_t.ext hEw1) (by omega) (by omega) (by omega) (by assumption) (hg0.ext hEw1) (hg1.ext hEw1) (hg2.ext hEw1)) ?_)
 rintro _ w2 ⟨a1,ca1,a2,ca2,rfl,hFz1_0,hFz1_1,hEw2⟩
 have hzw2:=hEw2.size
 have hlea1:=hFz1_0.le
 have hlea2:=hFz1_1.le
 refine zc 3 [(9,(vI (zbY n (zbz n t)))),(8,(vA [(.slice a1 (hgt n+1) ca1),(.slice a2 (hgt n+1) ca2)])),(5,(.tuple #[(vA [(.slice a1 (hgt n+1) ca1),(.slice a2 (hgt n+1) ca2)]),(vI (zbY n (zbz n t)))]))] (za (zo (some 3) (Instr.alloc 114 true (.tuple #[])) (vP w2.heap.size 0) ([(.slice none 0 0),(.slice none 0 0)]) 114 ?_))
 intro w3 hBw3 hEw3
 have hzw3:=hEw3.size;have hlw3:=hBw3.lt
 refine za (zv 114 w2.heap.size 0 114 (vA [(.slice a1 (hgt n+1) ca1),(.slice a2 (hgt n+1) ca2)]) ([(.slice none 0 0),(.slice none 0 0)]) ([(.slice a1 (hgt n+1) ca1),(.slice a2 (hgt n+1) ca2)]) hBw3 (by kernel_rfl) (by first | decide |(simp;done)|(simp;omega)) (by simp [Value.oneCell']) ?_)
 intro w4 hBw4 hCw4
 have hzw4:=hCw4.size
 rw [zm _ _ (by kernel_rfl)] at hBw4
 refine zc 1 [(4,(vI (zbY n (zbz n t))))] (zf (zb (ze (zd (zc 2 [(2,(vI (zbY n (zbz n t)))),(10,(vI (zbY n (zbz n t))))] (zf (zb (zq (zr (vI (zbY n (zbz n t))) ?_)))))))))
 have hX1:Ext w w4:=(Ext.own ((hEw1.trans hEw2).trans hEw3) hCw4 (by omega))
 exact ⟨rfl,hX1⟩
theorem zrG (n:Int) {lo_t hi_t:Nat} {a_t:Option Addr} {n_t c_t:Nat} {t:List Un} (w:World) (h_t:Ms unC 280 lo_t hi_t w a_t n_t c_t t) (hp0:¬(1≤n∧n≤4096∧t.length=tot n.toNat∧zfQ t=true)):
  Calls Tryz.prog 23 #[(vA [(.int .i64 n),(.slice a_t n_t c_t)])] w (Ret fun r w'=>r=(vI 1)∧Ext w w'):=by
 refine zI (n:=11) (σ:= [(0,(vA [(.int .i64 n),(.slice a_t n_t c_t)]))]) Tryz.func23 rfl ?_
 replace h_t:=h_t.now;have hle_t:=h_t.le
 refine ze (zd (za (zo (some 1) (Instr.box 38 (vA [(.int .i64 n),(.slice a_t n_t c_t)])) (vP w.heap.size 0) ([(.int .i64 n),(.slice a_t n_t c_t)]) 38 ?_)))
 intro w1 hBw1 hEw1
 have hzw1:=hEw1.size;have hlw1:=hBw1.lt
 refine zc 1 [(2,(vI 0))] (zf (zb (ze (zd (za (zj (some 6) (Instr.loadAt 38 (vP w.heap.size 0)) (vA [(.int .i64 n),(.slice a_t n_t c_t)]) (zw (vs:= [(.int .i64 n),(.slice a_t n_t c_t)]) (hBw1.all)) ?_))))))
 refine za (zl (some 7) (zrp n _ (h_t.ext hEw1) (by assumption)) ?_)
 rintro _ w2 ⟨a1,na1,ca1,a2,na2,ca2,rfl,hEw2⟩
 have hzw2:=hEw2.size
 refine zc 3 [(9,(vI 1)),(8,(vA [(.slice a1 na1 ca1),(.slice a2 na2 ca2)])),(5,(.tuple #[(vA [(.slice a1 na1 ca1),(.slice a2 na2 ca2)]),(vI 1)]))] (za (zo (some 3) (Instr.alloc 114 true (.tuple #[])) (vP w2.heap.size 0) ([(.slice none 0 0),(.slice none 0 0)]) 114 ?_))
 intro w3 hBw3 hEw3
 have hzw3:=hEw3.size;have hlw3:=hBw3.lt
 refine za (zv 114 w2.heap.size 0 114 (vA [(.slice a1 na1 ca1),(.slice a2 na2 ca2)]) ([(.slice none 0 0),(.slice none 0 0)]) ([(.slice a1 na1 ca1),(.slice a2 na2 ca2)]) hBw3 (by kernel_rfl) (by first | decide |(simp;done)|(simp;omega)) (by simp [Value.oneCell']) ?_)
 intro w4 hBw4 hCw4
 have hzw4:=hCw4.size
 rw [zm _ _ (by kernel_rfl)] at hBw4
 refine zc 1 [(4,(vI 1))] (zf (zb (ze (zd (zc 2 [(2,(vI 1)),(10,(vI 1))] (zf (zb (zq (zr (vI 1) ?_)))))))))
 have hX1:Ext w w4:=(Ext.own ((hEw1.trans hEw2).trans hEw3) hCw4 (by omega))
 exact ⟨rfl,hX1⟩
theorem zkN (n:Int) {lo_t hi_t:Nat} {a_t:Option Addr} {n_t c_t:Nat} {t:List Un} (w:World) (h_t:Ms unC 280 lo_t hi_t w a_t n_t c_t t) (hg0:Gl 0 [vI 45,vI 33] w) (hg1:Gl 1 (w8C za6) w) (hg2:Gl 3 (zar kA) w):
  Calls Tryz.prog 23 #[(vA [(.int .i64 n),(.slice a_t n_t c_t)])] w (Ret fun r w'=>r=(vI (zeX n t))∧Ext w w'):=by
 have hlt:=h_t.len_eq
 by_cases h:1≤n∧n≤4096∧t.length=tot n.toNat∧zfQ t=true
 ·obtain ⟨m,rfl⟩:=Int.eq_ofNat_of_zero_le (show 0≤n by omega)
  have h2:=h.2.2;rw [Int.toNat_natCast] at h2
  rw [zhJ (by omega) (by omega) h2.1 h2.2];exact zq2 m w h_t (by omega) (by omega) (by omega) (zeg.1 h2.2) hg0 hg1 hg2
 ·rw [zpk h];exact zrG n w h_t h
end Go.Proofs.YtkmhgepdhilllaaGreatDoor
namespace Go.Proofs.YtkmhgepdhilllaaGreatDoor
open Go Go.RowKit Go.Cs
set_option maxRecDepth 100000
theorem zkQ (n:Nat) {lo_t hi_t:Nat} {a_t:Option Addr} {n_t c_t:Nat} {t:List Un} (b:Nat) (w:World) (h_t:Ms unC 280 lo_t hi_t w a_t n_t c_t t) (hp0:1≤n) (hp1:n≤4096) (hp2:n_t=tot n) (hp3:∀i,i<t.length→(t.getD i Un.zero).sl=0∨(t.getD i Un.zero).sl=1) (hp4:zbY n (zbz n t)=0) (hp5:b<n) (hg0:Gl 0 [vI 45,vI 33] w) (hg1:Gl 1 (w8C za6) w) (hg2:Gl 3 (zar kA) w):
  Calls Tryz.prog 50 #[(vA [(vI n),(.slice a_t n_t c_t)]),(vI b)] w (Ret fun r w'=>∃a0 ca0 a1 ca1,r=(.tuple #[(vA [(.slice a0 (hgt n+1) ca0),(.slice a1 (hgt n+1) ca1)]),(vI 0)])∧Es (nv .i64) w.heap.size w'.heap.size w' a0 (hgt n+1) ca0 (zaI n (hgt n+1))∧Es (nv .i64) w.heap.size w'.heap.size w' a1 (hgt n+1) ca1 (za0 n (hgt n+1))∧Ext w w'):=by
 refine zI (n:=27) (σ:= [(0,(vA [(vI n),(.slice a_t n_t c_t)])),(1,(vI b))]) Tryz.func50 rfl ?_
 replace h_t:=h_t.now;have hle_t:=h_t.le
 have hgl0:=hg0.lt
 have hgl1:=hg1.lt
 have hgl2:=hg2.lt
 have h5:=zat n
 have hlt:=h_t.len_eq
 have hts:=zaw hp1
 have hle:=h_t.le
 refine ze (zd (za (zo (some 2) (Instr.box 38 (vA [(vI n),(.slice a_t n_t c_t)])) (vP w.heap.size 0) ([(vI n),(.slice a_t n_t c_t)]) 38 ?_)))
 intro w1 hBw1 hEw1
 have hzw1:=hEw1.size;have hlw1:=hBw1.lt
 refine za (zo (some 4) (Instr.alloc 114 true (.tuple #[])) (vP w1.heap.size 0) ([(.slice none 0 0),(.slice none 0 0)]) 114 ?_)
 intro w2 hBw2 hEw2
 have hzw2:=hEw2.size;have hlw2:=hBw2.lt
 refine zc 1 [(5,(vI 0))] (zf (zb (ze (zd (za (zj (some 9) (Instr.loadAt 38 (vP w.heap.size 0)) (vA [(vI n),(.slice a_t n_t c_t)]) (zw (vs:= [(vI n),(.slice a_t n_t c_t)]) ((hBw1.ext hEw2).all)) ?_))))))
 refine za (zl (some 10) (zkc n _ (((h_t.ext hEw1)).ext hEw2) (by omega) (by omega) (by omega) (by assumption) (((hg0.ext hEw1)).ext hEw2) (((hg1.ext hEw1)).ext hEw2) (((hg2.ext hEw1)).ext hEw2)) ?_)
 rintro _ w3 ⟨a1,ca1,a2,ca2,rfl,hFz1_0,hFz1_1,hEw3⟩
 have hzw3:=hEw3.size
 have hlea1:=hFz1_0.le
 have hlea2:=hFz1_1.le
 rw [show zbY n (zbz n t)=0 from hp4]
 refine zc 3 [(12,(vI 0)),(11,(vA [(.slice a1 (hgt n+1) ca1),(.slice a2 (hgt n+1) ca2)])),(8,(.tuple #[(vA [(.slice a1 (hgt n+1) ca1),(.slice a2 (hgt n+1) ca2)]),(vI 0)]))] (za (zo (some 6) (Instr.alloc 114 true (.tuple #[])) (vP w3.heap.size 0) ([(.slice none 0 0),(.slice none 0 0)]) 114 ?_))
 intro w4 hBw4 hEw4
 have hzw4:=hEw4.size;have hlw4:=hBw4.lt
 refine za (zv 114 w3.heap.size 0 114 (vA [(.slice a1 (hgt n+1) ca1),(.slice a2 (hgt n+1) ca2)]) ([(.slice none 0 0),(.slice none 0 0)]) ([(.slice a1 (hgt n+1) ca1),(.slice a2 (hgt n+1) ca2)]) hBw4 (by kernel_rfl) (by first | decide |(simp;done)|(simp;omega)) (by simp [Value.oneCell']) ?_)
 intro w5 hBw5 hCw5
 have hzw5:=hCw5.size
 rw [zm _ _ (by kernel_rfl)] at hBw5
 refine zc 1 [(7,(vI 0))] (zf (zb (ze (ze (zd (zc 4 [(16,(vI b)),(15,vT),(14,vT),(13,(vI 0))] (za (zai (some 17) (decide (((b:Nat):Int)<((0:Nat):Int))) false (zcu (by omega)) ?_))))))))
 refine zc 3 [(20,(vP w.heap.size 0)),(19,(vI b)),(18,vF)] ?_
 have hK1:=(((((((hBw1.ext hEw2)).ext hEw3)).ext hEw4)).chg hCw5 (fun hs=>by have h:_=_:=hs;omega))
 refine za (zj (some 21) (Instr.loadAt 3 (vP w.heap.size 0)) (vI n) (zk (hK1.cell rfl)) ?_)
 refine za (zai (some 22) (decide (((b:Nat):Int)≥((n:Nat):Int))) false (zcu (by omega)) ?_)
 refine zc 2 [(24,vF),(23,vF)] (zf (zb (zn (zu (zb (ze (zd (za (zj (some 25) (Instr.loadAt 114 (vP w3.heap.size 0)) (vA [(.slice a1 (hgt n+1) ca1),(.slice a2 (hgt n+1) ca2)]) (zw (vs:= [(.slice a1 (hgt n+1) ca1),(.slice a2 (hgt n+1) ca2)]) (hBw5.all)) ?_)))))))))
 refine zc 1 [(26,(vI 0))] ?_
 have hK2:=(((((hBw2.ext hEw3)).ext hEw4)).chg hCw5 (fun hs=>by have h:_=_:=hs;omega))
 refine za (zv 114 w1.heap.size 0 114 (vA [(.slice a1 (hgt n+1) ca1),(.slice a2 (hgt n+1) ca2)]) ([(.slice none 0 0),(.slice none 0 0)]) ([(.slice a1 (hgt n+1) ca1),(.slice a2 (hgt n+1) ca2)]) hK2 (by kernel_rfl) (by first | decide |(simp;done)|(simp;omega)) (by simp [Value.oneCell']) ?_)
 have hK3:=(((((hBw2.ext hEw3)).ext hEw4)).chg hCw5 (fun hs=>by have h:_=_:=hs;omega))
 intro w6 hBw6 hCw6
 have hzw6:=hCw6.size
 rw [zm _ _ (by kernel_rfl)] at hBw6
 refine zc 1 [(5,(vI 0))] (zf (zb (zq (zaX (show zZ Tryz.prog 27 _ _ (.cell 4 114) (vA [(.slice a1 (hgt n+1) ca1),(.slice a2 (hgt n+1) ca2)]) from ⟨⟨w1.heap.size,0,none⟩,(by kernel_rfl),zN (T:=114) (vs:= [(.slice a1 (hgt n+1) ca1),(.slice a2 (hgt n+1) ca2)]) (hBw6).all (by kernel_rfl)⟩) (show zZ Tryz.prog 27 _ _ (.tmp 5) (vI 0) by (show _=_;kernel_rfl)) ?_))))
 have hK4:=(((((hFz1_0.ext hEw4)).chg hCw5 (fun k h1 h2 hs=>by have h:k=_:=hs;omega))).chg hCw6 (fun k h1 h2 hs=>by have h:k=_:=hs;omega))
 have hK5:=(((((hFz1_1.ext hEw4)).chg hCw5 (fun k h1 h2 hs=>by have h:k=_:=hs;omega))).chg hCw6 (fun k h1 h2 hs=>by have h:k=_:=hs;omega))
 have hX1:Ext w w6:=(Ext.own (Ext.own (((hEw1.trans hEw2).trans hEw3).trans hEw4) hCw5 (by omega)) hCw6 (by omega))
 exact ⟨_,_,_,_,rfl,(hK4).now.mono (by omega) (Nat.le_refl _),(hK5).now.mono (by omega) (Nat.le_refl _),hX1⟩
theorem zd4 (n:Nat) {lo_t hi_t:Nat} {a_t:Option Addr} {n_t c_t:Nat} {t:List Un} (b:Nat) (w:World) (h_t:Ms unC 280 lo_t hi_t w a_t n_t c_t t) (hp0:1≤n) (hp1:n≤4096) (hp2:n_t=tot n) (hp3:∀i,i<t.length→(t.getD i Un.zero).sl=0∨(t.getD i Un.zero).sl=1) (hp4:zbY n (zbz n t)=0) (hp5:b<n) (hg0:Gl 0 [vI 45,vI 33] w) (hg1:Gl 1 (w8C za6) w) (hg2:Gl 3 (zar kA) w):
  Calls Tryz.prog 34 #[(vA [(vI n),(.slice a_t n_t c_t)]),(vI b)] w (Ret fun r w'=>r=(.tuple #[(vI (zaT (t.getD (b/4) Un.zero) (b%4))),(vI 0)])∧Ext w w'):=by
 refine zI (n:=26) (σ:= [(0,(vA [(vI n),(.slice a_t n_t c_t)])),(1,(vI b))]) Tryz.func34 rfl ?_
 replace h_t:=h_t.now;have hle_t:=h_t.le
 have hgl0:=hg0.lt
 have hgl1:=hg1.lt
 have hgl2:=hg2.lt
 have h5:=zat n
 have hlt:=h_t.len_eq
 have hts:=zaw hp1
 have hle:=h_t.le
 have hb0:b/4<cnt n 0:=zbh hp5 0
 have hb4:=zaC (n:=n) (l:=0) (j:=b/4) (Nat.zero_le _) hb0
 have hn0:num n 0=0:=rfl
 refine ze (zd (za (zo (some 2) (Instr.box 38 (vA [(vI n),(.slice a_t n_t c_t)])) (vP w.heap.size 0) ([(vI n),(.slice a_t n_t c_t)]) 38 ?_)))
 intro w1 hBw1 hEw1
 have hzw1:=hEw1.size;have hlw1:=hBw1.lt
 refine zc 2 [(5,(vI 0)),(4,(vI 0))] (zf (zb (ze (ze (zd (za (zj (some 9) (Instr.loadAt 38 (vP w.heap.size 0)) (vA [(vI n),(.slice a_t n_t c_t)]) (zw (vs:= [(vI n),(.slice a_t n_t c_t)]) (hBw1.all)) ?_)))))))
 refine zc 1 [(10,(vI b))] (za (zl (some 11) (zkQ n b _ (h_t.ext hEw1) (by omega) (by omega) (by omega) (by assumption) (by assumption) (by omega) (hg0.ext hEw1) (hg1.ext hEw1) (hg2.ext hEw1)) ?_))
 rintro _ w2 ⟨a1,ca1,a2,ca2,rfl,hFz1_0,hFz1_1,hEw2⟩
 have hzw2:=hEw2.size
 have hlea1:=hFz1_0.le
 have hlea2:=hFz1_1.le
 refine zc 3 [(13,(vI 0)),(12,(vA [(.slice a1 (hgt n+1) ca1),(.slice a2 (hgt n+1) ca2)])),(8,(.tuple #[(vA [(.slice a1 (hgt n+1) ca1),(.slice a2 (hgt n+1) ca2)]),(vI 0)]))] (za (zo (some 6) (Instr.alloc 114 true (.tuple #[])) (vP w2.heap.size 0) ([(.slice none 0 0),(.slice none 0 0)]) 114 ?_))
 intro w3 hBw3 hEw3
 have hzw3:=hEw3.size;have hlw3:=hBw3.lt
 refine za (zv 114 w2.heap.size 0 114 (vA [(.slice a1 (hgt n+1) ca1),(.slice a2 (hgt n+1) ca2)]) ([(.slice none 0 0),(.slice none 0 0)]) ([(.slice a1 (hgt n+1) ca1),(.slice a2 (hgt n+1) ca2)]) hBw3 (by kernel_rfl) (by first | decide |(simp;done)|(simp;omega)) (by simp [Value.oneCell']) ?_)
 intro w4 hBw4 hCw4
 have hzw4:=hCw4.size
 rw [zm _ _ (by kernel_rfl)] at hBw4
 refine zc 1 [(7,(vI 0))] (zf (zb (ze (zd (zc 1 [(14,(vI 0))] (za (zai (some 15) (((0:Nat):Int) !=((0:Nat):Int)) false (zaA (by omega)) ?_)))))))
 refine zf (zb (zn (zu (zb (ze (zd (zc 1 [(17,(vP w.heap.size 1))] ?_)))))))
 have hK1:=(((((hBw1.ext hEw2)).ext hEw3)).chg hCw4 (fun hs=>by have h:_=_:=hs;omega))
 refine za (zj (some 18) (Instr.loadAt 36 (vP w.heap.size 1)) (.slice a_t n_t c_t) (zk (hK1.cell rfl)) ?_)
 refine zc 1 [(19,(vI b))] (za (zt (some 20) .i64 (IntKind.i64.wrap (((b:Nat):Int).tdiv ((4:Nat):Int))) (b/4) (zA (zdP _ _) (by omega) (by omega)) ?_))
 obtain ⟨b1,o1,rfl⟩:=h_t.addr (by omega) (by decide)
 refine za (zj (some 21) (Instr.indexAt 36 (.slice (pA b1 o1) n_t c_t) (vI (b/4))) (vP b1 (o1+(b/4)*280)) (zP (E:=77) (sz:=280) (by omega)) ?_)
 have hK2:=(((((((h_t.ext hEw1)).ext hEw2)).ext hEw3)).chg hCw4 (fun k h1 h2 hs=>by have h:k=_:=hs;omega))
 refine za (zj (some 22) (Instr.loadAt 77 (vP b1 (o1+(b/4)*280))) (vA (unC (t.getD (b/4) Un.zero))) (zw (vs:=unC (t.getD (b/4) Un.zero)) (hK2.at Un.zero (by omega)) (by rw [zQ];kernel_rfl)) ?_)
 refine zc 1 [(23,(vI b))] (za (zt (some 24) .i64 (((b:Nat):Int).tmod ((4:Nat):Int)) (b%4) (zcF _ _) ?_))
 refine za (zl (some 25) (zoe (t.getD (b/4) Un.zero) (b%4) _ (by omega)) ?_)
 rintro _ w5 ⟨rfl,hEw5⟩
 have hzw5:=hEw5.size
 refine zc 2 [(5,(vI 0)),(4,(vI (zaT (t.getD (b/4) Un.zero) (b%4))))] (zf (zb (zq (zr (.tuple #[(vI (zaT (t.getD (b/4) Un.zero) (b%4))),(vI 0)]) ?_))))
 have hX1:Ext w w5:=((Ext.own ((hEw1.trans hEw2).trans hEw3) hCw4 (by omega)).trans hEw5)
 exact ⟨rfl,hX1⟩
theorem zjN (n:Nat) {lo_t hi_t:Nat} {a_t:Option Addr} {n_t c_t:Nat} {t:List Un} (b:Nat) (w:World) (h_t:Ms unC 280 lo_t hi_t w a_t n_t c_t t) (hp0:1≤n) (hp1:n≤4096) (hp2:n_t=tot n) (hp3:∀i,i<t.length→(t.getD i Un.zero).sl=0∨(t.getD i Un.zero).sl=1) (hp4:zbY n (zbz n t)=0) (hp5:b<n) (hg0:Gl 0 [vI 45,vI 33] w) (hg1:Gl 1 (w8C za6) w) (hg2:Gl 3 (zar kA) w):
  Calls Tryz.prog 35 #[(vA [(vI n),(.slice a_t n_t c_t)]),(vI b)] w (Ret fun r w'=>r=(.tuple #[(vA (zM ((t.getD (b/4) Un.zero).nd.rs.get (b%4)))),(vI 0)])∧Ext w w'):=by
 refine zI (n:=29) (σ:= [(0,(vA [(vI n),(.slice a_t n_t c_t)])),(1,(vI b))]) Tryz.func35 rfl ?_
 replace h_t:=h_t.now;have hle_t:=h_t.le
 have hgl0:=hg0.lt
 have hgl1:=hg1.lt
 have hgl2:=hg2.lt
 have h5:=zat n
 have hlt:=h_t.len_eq
 have hts:=zaw hp1
 have hle:=h_t.le
 have hb0:b/4<cnt n 0:=zbh hp5 0
 have hb4:=zaC (n:=n) (l:=0) (j:=b/4) (Nat.zero_le _) hb0
 have hn0:num n 0=0:=rfl
 refine ze (zd (za (zo (some 2) (Instr.box 38 (vA [(vI n),(.slice a_t n_t c_t)])) (vP w.heap.size 0) ([(vI n),(.slice a_t n_t c_t)]) 38 ?_)))
 intro w1 hBw1 hEw1
 have hzw1:=hEw1.size;have hlw1:=hBw1.lt
 refine za (zo (some 4) (Instr.alloc 68 true (.tuple #[])) (vP w1.heap.size 0) (zM Rec.zero) 68 ?_)
 intro w2 hBw2 hEw2
 have hzw2:=hEw2.size;have hlw2:=hBw2.lt
 refine zc 1 [(5,(vI 0))] (zf (zb (ze (ze (zd (za (zj (some 9) (Instr.loadAt 38 (vP w.heap.size 0)) (vA [(vI n),(.slice a_t n_t c_t)]) (zw (vs:= [(vI n),(.slice a_t n_t c_t)]) ((hBw1.ext hEw2).all)) ?_)))))))
 refine zc 1 [(10,(vI b))] (za (zl (some 11) (zkQ n b _ (((h_t.ext hEw1)).ext hEw2) (by omega) (by omega) (by omega) (by assumption) (by assumption) (by omega) (((hg0.ext hEw1)).ext hEw2) (((hg1.ext hEw1)).ext hEw2) (((hg2.ext hEw1)).ext hEw2)) ?_))
 rintro _ w3 ⟨a1,ca1,a2,ca2,rfl,hFz1_0,hFz1_1,hEw3⟩
 have hzw3:=hEw3.size
 have hlea1:=hFz1_0.le
 have hlea2:=hFz1_1.le
 refine zc 3 [(13,(vI 0)),(12,(vA [(.slice a1 (hgt n+1) ca1),(.slice a2 (hgt n+1) ca2)])),(8,(.tuple #[(vA [(.slice a1 (hgt n+1) ca1),(.slice a2 (hgt n+1) ca2)]),(vI 0)]))] (za (zo (some 6) (Instr.alloc 114 true (.tuple #[])) (vP w3.heap.size 0) ([(.slice none 0 0),(.slice none 0 0)]) 114 ?_))
 intro w4 hBw4 hEw4
 have hzw4:=hEw4.size;have hlw4:=hBw4.lt
 refine za (zv 114 w3.heap.size 0 114 (vA [(.slice a1 (hgt n+1) ca1),(.slice a2 (hgt n+1) ca2)]) ([(.slice none 0 0),(.slice none 0 0)]) ([(.slice a1 (hgt n+1) ca1),(.slice a2 (hgt n+1) ca2)]) hBw4 (by kernel_rfl) (by first | decide |(simp;done)|(simp;omega)) (by simp [Value.oneCell']) ?_)
 intro w5 hBw5 hCw5
 have hzw5:=hCw5.size
 rw [zm _ _ (by kernel_rfl)] at hBw5
 refine zc 1 [(7,(vI 0))] (zf (zb (ze (zd (zc 1 [(14,(vI 0))] (za (zai (some 15) (((0:Nat):Int) !=((0:Nat):Int)) false (zaA (by omega)) ?_)))))))
 refine zf (zb (zn (zu (zb (ze (zd (zc 1 [(18,(vP w.heap.size 1))] ?_)))))))
 have hK1:=(((((((hBw1.ext hEw2)).ext hEw3)).ext hEw4)).chg hCw5 (fun hs=>by have h:_=_:=hs;omega))
 refine za (zj (some 19) (Instr.loadAt 36 (vP w.heap.size 1)) (.slice a_t n_t c_t) (zk (hK1.cell rfl)) ?_)
 refine zc 1 [(20,(vI b))] (za (zt (some 21) .i64 (IntKind.i64.wrap (((b:Nat):Int).tdiv ((4:Nat):Int))) (b/4) (zA (zdP _ _) (by omega) (by omega)) ?_))
 refine zc 1 [(22,(vI b))] (za (zt (some 23) .i64 (((b:Nat):Int).tmod ((4:Nat):Int)) (b%4) (zcF _ _) ?_))
 obtain ⟨b1,o1,rfl⟩:=h_t.addr (by omega) (by decide)
 refine za (zj (some 24) (Instr.indexAt 36 (.slice (pA b1 o1) n_t c_t) (vI (b/4))) (vP b1 (o1+(b/4)*280)) (zP (E:=77) (sz:=280) (by omega)) ?_)
 refine zc 2 [(26,(vP b1 (o1+(b/4)*280+2))),(25,(vP b1 (o1+(b/4)*280)))] (za (zj (some 27) (Instr.indexAt 69 (vP b1 (o1+(b/4)*280+2)) (vI (b%4))) (vP b1 (o1+(b/4)*280+2+(b%4)*35)) (zag (E:=68) (sz:=35) (m:=4) (by omega)) ?_))
 have hK2:=(((((((((h_t.ext hEw1)).ext hEw2)).ext hEw3)).ext hEw4)).chg hCw5 (fun k h1 h2 hs=>by have h:k=_:=hs;omega))
 refine za (zj (some 28) (Instr.loadAt 68 (vP b1 (o1+(b/4)*280+2+(b%4)*35))) (vA (zM ((t.getD (b/4) Un.zero).nd.rs.get (b%4)))) (zw (vs:=zM ((t.getD (b/4) Un.zero).nd.rs.get (b%4))) ((hK2.at Un.zero (by omega)).sub2 2 _ (zM ((t.getD (b/4) Un.zero).nd.rs.get (b%4))) (zsd (by omega))) (by rw [zab];kernel_rfl)) ?_)
 have hK3:=(((((hBw2.ext hEw3)).ext hEw4)).chg hCw5 (fun hs=>by have h:_=_:=hs;omega))
 refine za (zv 68 w1.heap.size 0 68 (vA (zM ((t.getD (b/4) Un.zero).nd.rs.get (b%4)))) (zM Rec.zero) (zM ((t.getD (b/4) Un.zero).nd.rs.get (b%4))) hK3 (by rw [zab];kernel_rfl) (by first |(simp;done)|(simp;omega)) (za2 _) ?_)
 have hK4:=(((((hBw2.ext hEw3)).ext hEw4)).chg hCw5 (fun hs=>by have h:_=_:=hs;omega))
 intro w6 hBw6 hCw6
 have hzw6:=hCw6.size
 rw [zm _ _ (by simp)] at hBw6
 refine zc 1 [(5,(vI 0))] (zf (zb (zq (zaX (show zZ Tryz.prog 29 _ _ (.cell 4 68) (vA (zM ((t.getD (b/4) Un.zero).nd.rs.get (b%4)))) from ⟨⟨w1.heap.size,0,none⟩,(by kernel_rfl),zN (T:=68) (vs:=zM ((t.getD (b/4) Un.zero).nd.rs.get (b%4))) (hBw6).all (by rw [zab];kernel_rfl)⟩) (show zZ Tryz.prog 29 _ _ (.tmp 5) (vI 0) by (show _=_;kernel_rfl)) ?_))))
 have hX1:Ext w w6:=(Ext.own (Ext.own (((hEw1.trans hEw2).trans hEw3).trans hEw4) hCw5 (by omega)) hCw6 (by omega))
 exact ⟨rfl,hX1⟩
theorem znR (n:Int) {lo_t hi_t:Nat} {a_t:Option Addr} {n_t c_t:Nat} {t:List Un} (w:World) (h_t:Ms unC 280 lo_t hi_t w a_t n_t c_t t) (hp0:0<n_t) (hp1:n_t≤100000):
  Calls Tryz.prog 48 #[(vA [(.int .i64 n),(.slice a_t n_t c_t)])] w (Ret fun r w'=>∃a1,r=(vA [(.int .i64 n),(.slice (pA a1 0) n_t n_t)])∧w.heap.size≤a1∧Blk w' a1 (t.flatMap unC) 77∧n_t=List.length t∧n_t≤maxLen∧Ext w w'):=by
 refine zI (n:=17) (σ:= [(0,(vA [(.int .i64 n),(.slice a_t n_t c_t)]))]) Tryz.func48 rfl ?_
 replace h_t:=h_t.now;have hle_t:=h_t.le
 have hlt:=h_t.len_eq
 have hle:=h_t.le
 refine ze (zd (za (zo (some 1) (Instr.box 38 (vA [(.int .i64 n),(.slice a_t n_t c_t)])) (vP w.heap.size 0) ([(.int .i64 n),(.slice a_t n_t c_t)]) 38 ?_)))
 intro w1 hBw1 hEw1
 have hzw1:=hEw1.size;have hlw1:=hBw1.lt
 refine za (zo (some 2) (Instr.alloc 38 true (.tuple #[])) (vP w1.heap.size 0) ([(vI 0),(.slice none 0 0)]) 38 ?_)
 intro w2 hBw2 hEw2
 have hzw2:=hEw2.size;have hlw2:=hBw2.lt
 refine zf (zb (ze (zT (Ext w2.drew) 9 [(5,2,0),(6,16,1),(7,2,0),(8,64,4),(9,128,8),(10,256,16),(11,544,34),(4,0,0),(0,1032,255)] (fun hT518=> ?_))))
 have hEw3:Ext w2 w2.drew:=Ext.drew w2
 generalize w2.drew=w3 at hEw3⊢
 have hzw3:=hEw3.size
 refine zh hT518 [(0,4,(vP w.heap.size 0))] 1 1 (zg hT518 1 3 (some 5) (.int .i64 n) (zi (Instr.loadAt 3 (vP w.heap.size 0)) (fun w' hC=>zk (((((hBw1.ext hEw2)).ext hEw3).ext hC).cell rfl))) (zh hT518 [(2,6,(vP w.heap.size 1))] 1 7 (zg hT518 3 15 (some 7) (.slice a_t n_t c_t) (zi (Instr.loadAt 36 (vP w.heap.size 1)) (fun w' hC=>zk (((((hBw1.ext hEw2)).ext hEw3).ext hC).cell rfl))) (zh hT518 [(4,8,(vI n_t))] 1 31 (za9 5 7 63 159 ?_ ?_)))))
 ·refine zch (some 9) 36 77 280 384 n_t n_t .i64 .i64 (vA (unC Un.zero)) (by omega) (by omega) (by omega) ?_
  rw [zdJ (f:=unC) (x:=Un.zero) rfl (zQ _) (by decide)]
  intro w4 hBw4 hEw4
  have hzw4:=hEw4.size;have hlw4:=hBw4.lt
  have hmw4:Ms unC 280 w3.heap.size (w3.heap.size+1) w4 (pA w3.heap.size 0) n_t n_t (List.replicate n_t Un.zero):=Ms.of_pre (r:= []) (by rw [List.append_nil];exact hBw4) zQ (by simp) (Nat.le_refl _) (by simp only [maxLen];omega) (Nat.le_refl _) (Nat.lt_succ_self _)
  refine ⟨.inr hEw4, ?_⟩
  refine zh (hw:=hEw4) hT518 [(6,10,(vA [(.int .i64 n),(.slice (pA w3.heap.size 0) n_t n_t)]))] 1 127 (zz 7 255 (zo (some 3) (Instr.alloc 38 true (.tuple #[])) (vP w4.heap.size 0) ([(vI 0),(.slice none 0 0)]) 38 ?_))
  intro w5 hBw5 hEw5
  have hzw5:=hEw5.size;have hlw5:=hBw5.lt
  have hX1:Ext w3 w5:=(hEw4.trans hEw5)
  refine ⟨.inr hX1, ?_⟩
  refine zz 8 511 (zv 38 w4.heap.size 0 38 (vA [(.int .i64 n),(.slice (pA w3.heap.size 0) n_t n_t)]) ([(vI 0),(.slice none 0 0)]) ([(.int .i64 n),(.slice (pA w3.heap.size 0) n_t n_t)]) hBw5 (by kernel_rfl) (by first | decide |(simp;done)|(simp;omega)) (by simp [Value.oneCell']) ?_)
  intro w6 hBw6 hCw6
  have hzw6:=hCw6.size
  rw [zm _ _ (by kernel_rfl)] at hBw6
  refine ⟨.inl (by kernel_rfl), ?_⟩
  refine zJ (zb (ze (zd (zc 1 [(11,(vP w4.heap.size 1))] (za (zj (some 12) (Instr.loadAt 36 (vP w4.heap.size 1)) (.slice (pA w3.heap.size 0) n_t n_t) (zk (hBw6.cell rfl)) ?_))))))
  refine zc 1 [(13,(vP w.heap.size 1))] ?_
  have hK1:=(((((((((hBw1.ext hEw2)).ext hEw3)).ext hEw4)).ext hEw5)).chg hCw6 (fun hs=>by have h:_=_:=hs;omega))
  refine za (zj (some 14) (Instr.loadAt 36 (vP w.heap.size 1)) (.slice a_t n_t c_t) (zk (hK1.cell rfl)) ?_)
  have hK2:=(((((((((((h_t.ext hEw1)).ext hEw2)).ext hEw3)).ext hEw4)).ext hEw5)).chg hCw6 (fun k h1 h2 hs=>by have h:k=_:=hs;omega))
  refine za (zk5 (dc:=n_t) (some 15) 36 36 3 77 w3.heap.size (((hBw4.ext hEw5)).chg hCw6 (fun hs=>by have h:_=_:=hs;omega)) hK2 (by rw [zaz zQ];first | done |(simp only [List.length_replicate];done)|(have:=(show List.length (List.replicate n_t Un.zero)=n_t from by rw [List.length_replicate]);omega)) za4 (by omega) ?_ (by decide))
  intro w7 hBw7 hCw7
  have hK3:=(((((((((((h_t.ext hEw1)).ext hEw2)).ext hEw3)).ext hEw4)).ext hEw5)).chg hCw6 (fun k h1 h2 hs=>by have h:k=_:=hs;omega))
  have hzw7:=hCw7.size
  refine zf (zb (ze (zd (za (zj (some 16) (Instr.loadAt 38 (vP w4.heap.size 0)) (vA [(.int .i64 n),(.slice (pA w3.heap.size 0) n_t n_t)]) (zw (vs:= [(.int .i64 n),(.slice (pA w3.heap.size 0) n_t n_t)]) (((hBw6).chg hCw7 (fun hs=>by have h:_=_:=hs;omega)).all)) ?_)))))
  have hK4:=(((((((((hBw2.ext hEw3)).ext hEw4)).ext hEw5)).chg hCw6 (fun hs=>by have h:_=_:=hs;omega))).chg hCw7 (fun hs=>by have h:_=_:=hs;omega))
  refine za (zv 38 w1.heap.size 0 38 (vA [(.int .i64 n),(.slice (pA w3.heap.size 0) n_t n_t)]) ([(vI 0),(.slice none 0 0)]) ([(.int .i64 n),(.slice (pA w3.heap.size 0) n_t n_t)]) hK4 (by kernel_rfl) (by first | decide |(simp;done)|(simp;omega)) (by simp [Value.oneCell']) ?_)
  have hK5:=(((((((((hBw2.ext hEw3)).ext hEw4)).ext hEw5)).chg hCw6 (fun hs=>by have h:_=_:=hs;omega))).chg hCw7 (fun hs=>by have h:_=_:=hs;omega))
  intro w8 hBw8 hCw8
  have hzw8:=hCw8.size
  rw [zm _ _ (by kernel_rfl)] at hBw8
  refine zf (zb (zq (zaB (show zZ Tryz.prog 17 _ _ (.cell 2 38) (vA [(.int .i64 n),(.slice (pA w3.heap.size 0) n_t n_t)]) from ⟨⟨w1.heap.size,0,none⟩,(by kernel_rfl),zN (T:=38) (vs:= [(.int .i64 n),(.slice (pA w3.heap.size 0) n_t n_t)]) (hBw8).all (by kernel_rfl)⟩) ?_)))
  have hX2:Ext w w8:=(Ext.own (Ext.own (Ext.own ((((hEw1.trans hEw2).trans hEw3).trans hEw4).trans hEw5) hCw6 (by omega)) hCw7 (by omega)) hCw8 (by omega))
  exact ⟨_,rfl,by omega,((hBw7).chg hCw8 (fun hs=>by have h:_=_:=hs;omega)),hK3.len_eq,by simp only [maxLen];omega,hX2⟩
 ·refine zo (some 3) (Instr.alloc 38 true (.tuple #[])) (vP w3.heap.size 0) ([(vI 0),(.slice none 0 0)]) 38 ?_
  intro w9 hBw9 hEw9
  have hzw9:=hEw9.size;have hlw9:=hBw9.lt
  refine ⟨.inr hEw9, ?_⟩
  refine zz 5 191 (zch (some 9) 36 77 280 384 n_t n_t .i64 .i64 (vA (unC Un.zero)) (by omega) (by omega) (by omega) ?_)
  rw [zdJ (f:=unC) (x:=Un.zero) rfl (zQ _) (by decide)]
  intro w10 hBw10 hEw10
  have hzw10:=hEw10.size;have hlw10:=hBw10.lt
  have hmw10:Ms unC 280 w9.heap.size (w9.heap.size+1) w10 (pA w9.heap.size 0) n_t n_t (List.replicate n_t Un.zero):=Ms.of_pre (r:= []) (by rw [List.append_nil];exact hBw10) zQ (by simp) (Nat.le_refl _) (by simp only [maxLen];omega) (Nat.le_refl _) (Nat.lt_succ_self _)
  have hX3:Ext w3 w10:=(hEw9.trans hEw10)
  refine ⟨.inr hX3, ?_⟩
  refine zh (hw:=hX3) hT518 [(6,10,(vA [(.int .i64 n),(.slice (pA w9.heap.size 0) n_t n_t)]))] 1 255 (zz 8 511 (zv 38 w3.heap.size 0 38 (vA [(.int .i64 n),(.slice (pA w9.heap.size 0) n_t n_t)]) ([(vI 0),(.slice none 0 0)]) ([(.int .i64 n),(.slice (pA w9.heap.size 0) n_t n_t)]) (hBw9.ext hEw10) (by kernel_rfl) (by first | decide |(simp;done)|(simp;omega)) (by simp [Value.oneCell']) ?_))
  intro w11 hBw11 hCw11
  have hzw11:=hCw11.size
  rw [zm _ _ (by kernel_rfl)] at hBw11
  refine ⟨.inl (by kernel_rfl), ?_⟩
  refine zJ (zb (ze (zd (zc 1 [(11,(vP w3.heap.size 1))] (za (zj (some 12) (Instr.loadAt 36 (vP w3.heap.size 1)) (.slice (pA w9.heap.size 0) n_t n_t) (zk (hBw11.cell rfl)) ?_))))))
  refine zc 1 [(13,(vP w.heap.size 1))] ?_
  have hK6:=(((((((((hBw1.ext hEw2)).ext hEw3)).ext hEw9)).ext hEw10)).chg hCw11 (fun hs=>by have h:_=_:=hs;omega))
  refine za (zj (some 14) (Instr.loadAt 36 (vP w.heap.size 1)) (.slice a_t n_t c_t) (zk (hK6.cell rfl)) ?_)
  have hK7:=(((((((((((h_t.ext hEw1)).ext hEw2)).ext hEw3)).ext hEw9)).ext hEw10)).chg hCw11 (fun k h1 h2 hs=>by have h:k=_:=hs;omega))
  refine za (zk5 (dc:=n_t) (some 15) 36 36 3 77 w9.heap.size ((hBw10).chg hCw11 (fun hs=>by have h:_=_:=hs;omega)) hK7 (by rw [zaz zQ];first | done |(simp only [List.length_replicate];done)|(have:=(show List.length (List.replicate n_t Un.zero)=n_t from by rw [List.length_replicate]);omega)) za4 (by omega) ?_ (by decide))
  intro w12 hBw12 hCw12
  have hK8:=(((((((((((h_t.ext hEw1)).ext hEw2)).ext hEw3)).ext hEw9)).ext hEw10)).chg hCw11 (fun k h1 h2 hs=>by have h:k=_:=hs;omega))
  have hzw12:=hCw12.size
  refine zf (zb (ze (zd (za (zj (some 16) (Instr.loadAt 38 (vP w3.heap.size 0)) (vA [(.int .i64 n),(.slice (pA w9.heap.size 0) n_t n_t)]) (zw (vs:= [(.int .i64 n),(.slice (pA w9.heap.size 0) n_t n_t)]) (((hBw11).chg hCw12 (fun hs=>by have h:_=_:=hs;omega)).all)) ?_)))))
  have hK9:=(((((((((hBw2.ext hEw3)).ext hEw9)).ext hEw10)).chg hCw11 (fun hs=>by have h:_=_:=hs;omega))).chg hCw12 (fun hs=>by have h:_=_:=hs;omega))
  refine za (zv 38 w1.heap.size 0 38 (vA [(.int .i64 n),(.slice (pA w9.heap.size 0) n_t n_t)]) ([(vI 0),(.slice none 0 0)]) ([(.int .i64 n),(.slice (pA w9.heap.size 0) n_t n_t)]) hK9 (by kernel_rfl) (by first | decide |(simp;done)|(simp;omega)) (by simp [Value.oneCell']) ?_)
  have hK10:=(((((((((hBw2.ext hEw3)).ext hEw9)).ext hEw10)).chg hCw11 (fun hs=>by have h:_=_:=hs;omega))).chg hCw12 (fun hs=>by have h:_=_:=hs;omega))
  intro w13 hBw13 hCw13
  have hzw13:=hCw13.size
  rw [zm _ _ (by kernel_rfl)] at hBw13
  refine zf (zb (zq (zaB (show zZ Tryz.prog 17 _ _ (.cell 2 38) (vA [(.int .i64 n),(.slice (pA w9.heap.size 0) n_t n_t)]) from ⟨⟨w1.heap.size,0,none⟩,(by kernel_rfl),zN (T:=38) (vs:= [(.int .i64 n),(.slice (pA w9.heap.size 0) n_t n_t)]) (hBw13).all (by kernel_rfl)⟩) ?_)))
  have hX4:Ext w w13:=(Ext.own (Ext.own (Ext.own ((((hEw1.trans hEw2).trans hEw3).trans hEw9).trans hEw10) hCw11 (by omega)) hCw12 (by omega)) hCw13 (by omega))
  exact ⟨_,rfl,by omega,((hBw12).chg hCw13 (fun hs=>by have h:_=_:=hs;omega)),hK8.len_eq,by simp only [maxLen];omega,hX4⟩
end Go.Proofs.YtkmhgepdhilllaaGreatDoor
namespace Go.Proofs.YtkmhgepdhilllaaGreatDoor
open Go Go.RowKit Go.Cs
set_option maxRecDepth 100000
theorem zrA {bl bq bi lc hc2 lf hf2 nc cc nf cf:Nat} {ac af:Option Addr} (n b B lp:Nat) (U:Nat→Prop) (J Jx:Nat→World→Prop) (w:World) (hp0:1≤n) (hp1:n≤4096) (hp2:b<n) (hB1:Blk w bl [vI 0] 3) (hB2:Blk w bq ([(.slice ac nc cc),(.slice af nf cf)]) 114) (hB3:Blk w bi [vI (b/4)] 3) (hc:Es (nv .i64) lc hc2 w ac nc cc (zaI n (hgt n+1))) (hf:Es (nv .i64) lf hf2 w af nf cf (za0 n (hgt n+1))) (hne:bl≠bi∧bl≠bq∧bi≠bq) (hlo:(¬(lc≤bl∧bl<hc2)∧¬(lf≤bl∧bl<hf2))∧¬(lc≤bi∧bi<hc2)∧¬(lf≤bi∧bi<hf2)) (hU:∀x,(B≤x∨U x)→(x≠bq∧x≠bl∧x≠bi)∧¬(lc≤x∧x<hc2)∧¬(lf≤x∧x<hf2)) (hJ:∀k W W',J k W→Chg (fun x=>x=bl∨x=bi) W W'→J k W') (hY:∀k W,k<hgt n+1→J k W→Yat Tryz.prog lp [vI k,vI (num n k+idx b k)] W (fun v W'=>(v= .bool true∧J (k+1) W'∧Chg (fun b=>B≤b∨U b) W W')∨(v= .bool false∧Chg (fun b=>B≤b∨U b) W W'∧Jx k W'))) (h0:J 0 w):
  Calls Tryz.prog 75 #[(.func (.yield lp) #[] #[]),(vP bl 0),(vP bq 0),(vP bi 0)] w (Ret fun r w'=>J (hgt n+1) w'∨∃k,k<hgt n+1∧Jx k w'):=by
 refine zI (n:=25) (σ:= [(0,(.func (.yield lp) #[] #[])),(1,(vP bl 0)),(2,(vP bq 0)),(3,(vP bi 0))]) Tryz.func75 rfl ?_
 have hlc:=hc.len_eq;rw [zbL] at hlc
 have hlf:=hf.len_eq;rw [zb6] at hlf
 have h5:=zat n
 have hts:=zaw hp1
 refine zy (zY (X:=Nat) (fun m=> []) [5,6,7,8,9,10,11,12,13,14,15,16,17,18,19,20,21,22,23,24] (fun m w1=>m≤hgt n+1∧J m w1∧Blk w1 bl [vI m] 3∧Blk w1 bi [vI (idx b m)] 3∧Blk w1 bq ([(.slice ac nc cc),(.slice af nf cf)]) 114∧Es (nv .i64) lc hc2 w1 ac nc cc (zaI n (hgt n+1))∧Es (nv .i64) lf hf2 w1 af nf cf (za0 n (hgt n+1))) (fun m=>hgt n+1-m) 0 (by kernel_rfl) ⟨Nat.zero_le _,h0,hB1,hB3,hB2,hc,hf⟩ ?_)
 rintro m dw1 w1 ⟨hm,hJm,hBl,hBi,hBq,hc1,hf1⟩
 have hbl1:=hBl.lt;have hbl2:=hBi.lt;have hbl3:=hBq.lt
 have hgf:m<hgt n+1→gt (za0 n (hgt n+1)) m=num n m:=fun hh=>zci hh
 have hib:=zj0 b m
 refine ze (ze (zd (za (zj (some 5) (Instr.loadAt 3 (vP bl 0)) (vI m) (zk (hBl.cell rfl)) ?_))))
 refine zc 1 [(6,(vP bq 0))] (za (zj (some 7) (Instr.loadAt 29 (vP bq 0)) (.slice ac nc cc) (zk (hBq.cell rfl)) ?_))
 refine zc 1 [(8,(vI nc))] (za (zK (some 9) (decide (((m:Nat):Int)<((nc:Nat):Int))) (fun hc9=> ?_) (fun hc9=> ?_)))
 ·replace hc9:m<nc:=by have:=zaf hc9;omega
  replace hgf:=hgf (by omega)
  have hij:=zbh (n:=n) (i:=b) hp2 m
  have hpl:=zaC (n:=n) (l:=m) (j:=idx b m) (by omega) hij
  refine zf (zb (zC (zu (zb (ze (zy (ze (zT (Chg (fun x=>B≤x∨U x) w1.drew) 11 [(15,1,0),(16,2,0),(17,4,0),(18,65536,4),(19,2,0),(20,393216,24),(21,524288,32),(22,8,0),(23,3145728,192),(24,4243456,259),(25,8388608,512)] (fun hT33=> ?_)))))))))
  have hEw2:Ext w1 w1.drew:=Ext.drew w1
  generalize w1.drew=w2 at hEw2⊢
  have hzw2:=hEw2.size
  have hX1:Chg (fun x=>B≤x∨U x) w2 w2:=(Chg.refl (fun x=>B≤x∨U x) w2)
  refine zh (hw:=hX1) hT33 [(0,14,(.func (.yield lp) #[] #[]))] 1 1 (zg (hw:=hX1) hT33 1 3 (some 15) (vI m) (zi (Instr.loadAt 3 (vP bl 0)) (fun w' hC=>zk (((hBl.ext hEw2).chg hC (fun hs=>by have hu:=hU _ hs;omega)).cell rfl))) (zh (hw:=hX1) hT33 [(2,16,(vP bq 1))] 1 7 (zg (hw:=hX1) hT33 3 15 (some 17) (.slice af nf cf) (zi (Instr.loadAt 29 (vP bq 1)) (fun w' hC=>zk (((hBq.ext hEw2).chg hC (fun hs=>by have hu:=hU _ hs;omega)).cell rfl))) (zg (hw:=hX1) hT33 4 31 (some 18) (vI m) (zi (Instr.loadAt 3 (vP bl 0)) (fun w' hC=>zk (((hBl.ext hEw2).chg hC (fun hs=>by have hu:=hU _ hs;omega)).cell rfl))) ?_))))
  obtain ⟨b1,o1,rfl⟩:=hf1.addr (by omega)
  refine zg (hw:=hX1) hT33 5 63 (some 19) (vP b1 (o1+m*1)) (zi (Instr.indexAt 29 (.slice (pA b1 o1) nf cf) (vI m)) (fun w' hC=>zP (E:=3) (sz:=1) (by omega))) (zg (hw:=hX1) hT33 6 127 (some 20) (vI (gt (za0 n (hgt n+1)) m)) (zi (Instr.loadAt 3 (vP b1 (o1+m*1))) (fun w' hC=>zk (((hf1.ext hEw2).chg hC (fun k h1 h2 hs=>by have hu:=hU _ hs;omega)).celln (by omega)))) (zg (hw:=hX1) hT33 7 255 (some 21) (vI (idx b m)) (zi (Instr.loadAt 3 (vP bi 0)) (fun w' hC=>zk (((hBi.ext hEw2).chg hC (fun hs=>by have hu:=hU _ hs;omega)).cell rfl))) (zg (hw:=hX1) hT33 8 511 (some 22) (vI (num n m+idx b m)) (zaa .i64 (IntKind.i64.wrap (((gt (za0 n (hgt n+1)) m:Nat):Int)+((idx b m:Nat):Int))) (zA (by omega) (by omega) (by omega))) (zz 9 1023 (zlh (some 23) lp [(vI m),(vI (num n m+idx b m))] (hY m _ (by omega) (hJ _ _ _ hJm hEw2.chg)) ?_)))))
  rintro _ w3 (⟨rfl,hJw3,hCw3⟩|⟨rfl,hCw3,hXw3⟩)
  ·have hzw3:=hCw3.size
   have hX2:Chg (fun x=>B≤x∨U x) w2 w3:=(Chg.then (Chg.refl (fun x=>B≤x∨U x) w2) hCw3 (fun k hk hs=>hs))
   refine ⟨.inr hX2, ?_⟩
   refine zh (hw:=hX2) hT33 [(10,24,vF)] 1 2047 (zJ (zb (zn (zu (zp (zb (zT (Chg (fun k=>k=bl) w3.drew) 6 [(11,2,0),(12,1024,1),(13,8,0),(14,4096,4),(0,2050,3),(0,8200,31)] (fun hT60=> ?_))))))))
   have hEw4:Ext w3 w3.drew:=Ext.drew w3
   generalize w3.drew=w4 at hEw4⊢
   have hzw4:=hEw4.size
   have hK1:=(((((hBi.ext hEw2)).chg hCw3 (fun hs=>by have hu:=hU _ hs;omega))).ext hEw4)
   have hX3:Chg (fun k=>k=bl) w4 w4:=(Chg.refl (fun k=>k=bl) w4)
   refine zg (hw:=hX3) hT60 2 4 (some 12) (vI (idx b m)) (zi (Instr.loadAt 3 (vP bi 0)) (fun w' hC=>zk ((hK1.chg hC (fun hs=>by have h:_=_:=hs;omega)).cell rfl))) (zg (hw:=hX3) hT60 3 12 (some 13) (vI (idx b (m+1))) (zaa .i64 (IntKind.i64.wrap (((idx b m:Nat):Int).tdiv ((4:Nat):Int))) (zA (zdP _ _) (by omega) (by have:=zj0 b (m+1);omega))) ?_)
   have hK2:=(((((hBl.ext hEw2)).chg hCw3 (fun hs=>by have hu:=hU _ hs;omega))).ext hEw4)
   refine zz 0 13 (zj (some 10) (Instr.loadAt 3 (vP bl 0)) (vI m) (zk (hK2.cell rfl)) ?_)
   refine ⟨.inr hX3, ?_⟩
   refine zg (hw:=hX3) hT60 1 15 (some 11) (vI (m+1)) (zaa .i64 (IntKind.i64.wrap (((m:Nat):Int)+((1:Nat):Int))) (zA (by omega) (by omega) (by omega))) (zz 4 31 (zah 3 bl 0 3 (vI (m+1)) ([vI m]) hK2 (by first | decide |(simp;done)|(simp;omega)) ?_))
   intro w5 hBw5 hCw5
   have hzw5:=hCw5.size
   replace hBw5:=hBw5.set1
   have hX4:Chg (fun k=>k=bl) w4 w5:=(Chg.then (Chg.refl (fun k=>k=bl) w4) hCw5 (fun k hk hs=>by have h:k=_:=hs;first | exact hs | exact .inl h | exact .inr h |(exfalso;omega)))
   refine ⟨.inr hX4, ?_⟩
   refine zz 5 63 (zah 3 bi 0 3 (vI (idx b (m+1))) ([vI (idx b m)]) ((hK1).chg hCw5 (fun hs=>by have h:_=_:=hs;omega)) (by first | decide |(simp;done)|(simp;omega)) ?_)
   intro w6 hBw6 hCw6
   have hzw6:=hCw6.size
   replace hBw6:=hBw6.set1
   refine ⟨.inl (by kernel_rfl), ?_⟩
   refine zJ (zF ?_)
   have hK3:=(((((((((hBq.ext hEw2)).chg hCw3 (fun hs=>by have hu:=hU _ hs;omega))).ext hEw4)).chg hCw5 (fun hs=>by have h:_=_:=hs;omega))).chg hCw6 (fun hs=>by have h:_=_:=hs;omega))
   have hK4:=(((((((((hc1.ext hEw2)).chg hCw3 (fun k h1 h2 hs=>by have hu:=hU _ hs;omega))).ext hEw4)).chg hCw5 (fun k h1 h2 hs=>by have h:k=_:=hs;omega))).chg hCw6 (fun k h1 h2 hs=>by have h:k=_:=hs;omega))
   have hK5:=(((((((((hf1.ext hEw2)).chg hCw3 (fun k h1 h2 hs=>by have hu:=hU _ hs;omega))).ext hEw4)).chg hCw5 (fun k h1 h2 hs=>by have h:k=_:=hs;omega))).chg hCw6 (fun k h1 h2 hs=>by have h:k=_:=hs;omega))
   refine zR (m+1) ?_ ?_
   ·exact ⟨by omega,(hJ _ _ _ (hJ _ _ _ (hJ _ _ _ hJw3 hEw4.chg) (Chg.mono hCw5 (fun x _ hx=> .inl hx))) (Chg.mono hCw6 (fun x _ hx=> .inr hx))),((hBw5).chg hCw6 (fun hs=>by have h:_=_:=hs;omega)),hBw6,hK3,hK4,hK5⟩
   ·first | omega |(dsimp only;omega)
  ·have hzw3:=hCw3.size
   have hX5:Chg (fun x=>B≤x∨U x) w2 w3:=(Chg.then (Chg.refl (fun x=>B≤x∨U x) w2) hCw3 (fun k hk hs=>hs))
   refine ⟨.inr hX5, ?_⟩
   refine zh (hw:=hX5) hT33 [(10,24,vT)] 1 2047 (zJ (zb (zC (zq (zG (zD (zD (zG (zr (.tuple #[]) ?_)))))))))
   exact .inr ⟨m,by omega,hXw3⟩
 ·replace hc9:¬(m<nc):=by have:=zae hc9;omega
  obtain rfl:m=hgt n+1:=by omega
  exact zf (zb (zn (zW (zx (zx (zL (zky (.inl hJm))))))))
theorem zpM {lo_c hi_c:Nat} {a_c:Option Addr} {n_c c_c:Nat} {c:List Nat} {lo_f hi_f:Nat} {a_f:Option Addr} {n_f c_f:Nat} {f:List Nat} (v:Nat) (j:Nat) (w:World) (h_c:Es (nv .i64) lo_c hi_c w a_c n_c c_c c) (h_f:Es (nv .i64) lo_f hi_f w a_f n_f c_f f):
  Calls Tryz.prog 53 #[(vA [(.slice a_c n_c c_c),(.slice a_f n_f c_f)]),(vI v),(vI j)] w (Ret fun r w'=>∃(a0:Nat) (a0y:Nat) (a0z:Nat),r=(.func (.func 75) #[] #[(vP a0 0),(vP a0y 0),(vP a0z 0)])∧(w.heap.size≤a0∧w.heap.size≤a0y∧w.heap.size≤a0z∧a0≠a0y∧a0≠a0z∧a0y≠a0z)∧Blk w' a0 [(vI v)] 3∧Blk w' a0y [(.slice a_c n_c c_c),(.slice a_f n_f c_f)] 114∧Blk w' a0z [(vI j)] 3∧Ext w w'):=by
 refine zI (n:=8) (σ:= [(0,(vA [(.slice a_c n_c c_c),(.slice a_f n_f c_f)])),(1,(vI v)),(2,(vI j))]) Tryz.func53 rfl ?_
 replace h_c:=h_c.now;have hle_c:=h_c.le
 replace h_f:=h_f.now;have hle_f:=h_f.le
 refine ze (zd (za (zo (some 3) (Instr.box 114 (vA [(.slice a_c n_c c_c),(.slice a_f n_f c_f)])) (vP w.heap.size 0) ([(.slice a_c n_c c_c),(.slice a_f n_f c_f)]) 114 ?_)))
 intro w1 hBw1 hEw1
 have hzw1:=hEw1.size;have hlw1:=hBw1.lt
 refine za (zo (some 4) (Instr.box 3 (vI v)) (vP w1.heap.size 0) ([(vI v)]) 3 ?_)
 intro w2 hBw2 hEw2
 have hzw2:=hEw2.size;have hlw2:=hBw2.lt
 refine za (zo (some 5) (Instr.box 3 (vI j)) (vP w2.heap.size 0) ([(vI j)]) 3 ?_)
 intro w3 hBw3 hEw3
 have hzw3:=hEw3.size;have hlw3:=hBw3.lt
 refine zc 1 [(6, .nilFunc)] (zf (zb (ze (zd (zc 2 [(6,(.func (.func 75) #[] #[(vP w1.heap.size 0),(vP w.heap.size 0),(vP w2.heap.size 0)])),(7,(.func (.func 75) #[] #[(vP w1.heap.size 0),(vP w.heap.size 0),(vP w2.heap.size 0)]))] (zf (zb (zq (zr (.func (.func 75) #[] #[(vP w1.heap.size 0),(vP w.heap.size 0),(vP w2.heap.size 0)]) ?_)))))))))
 exact ⟨_,_,_,rfl,by omega,(hBw2.ext hEw3),(((hBw1.ext hEw2)).ext hEw3),hBw3,((hEw1.trans hEw2).trans hEw3)⟩
end Go.Proofs.YtkmhgepdhilllaaGreatDoor
namespace Go.Proofs.YtkmhgepdhilllaaGreatDoor
open Go Go.RowKit Go.Cs
set_option maxRecDepth 100000
set_option maxHeartbeats 4000000 in
theorem zdk (n:Nat) {lo_t hi_t:Nat} {a_t:Option Addr} {n_t c_t:Nat} {t:List Un} (b:Nat) (x:Non) (y:Dig) (w:World) (h_t:Ms unC 280 lo_t hi_t w a_t n_t c_t t) (hp0:1≤n) (hp1:n≤4096) (hp2:n_t=tot n) (hp3:∀i,i<t.length→(t.getD i Un.zero).sl=0∨(t.getD i Un.zero).sl=1) (hp4:zbY n (zbz n t)=0) (hp5:b<n) (hg0:Gl 0 [vI 45,vI 33] w) (hg1:Gl 1 (w8C za6) w) (hg2:Gl 3 (zar kA) w):
  Calls Tryz.prog 22 #[(vA [(vI n),(.slice a_t n_t c_t)]),(vI b),(vA (zaU x)),(vA (zO y))] w (Ret fun r w'=>∃a1,r=(.tuple #[(vA [(vI n),(.slice a1 n_t n_t)]),(vI (zaT (t.getD (b/4) Un.zero) (b%4))),(vI 0)])∧Ms unC 280 w.heap.size w'.heap.size w' a1 n_t n_t (zdt n t b x y)∧Ext w w'):=by
 refine zek (n:=111) (σ:= [(0,(vA [(vI n),(.slice a_t n_t c_t)])),(1,(vI b)),(2,(vA (zaU x))),(3,(vA (zO y)))]) Tryz.func22 rfl ?_
 replace h_t:=h_t.now;have hle_t:=h_t.le
 have hgl0:=hg0.lt
 have hgl1:=hg1.lt
 have hgl2:=hg2.lt
 have h5:=zat n
 have hlt:=h_t.len_eq
 have hts:=zaw hp1
 have hle:=h_t.le
 have hb0:b/4<cnt n 0:=zbh hp5 0
 have hb4:=zaC (n:=n) (l:=0) (j:=b/4) (Nat.zero_le _) hb0
 have hn0:num n 0=0:=rfl
 have htg:=ziM (t.getD (b/4) Un.zero) (b%4)
 have hG:GoodT n (set1 t b x y):=(GoodT.of (by omega) hp4).set1 hp5
 have hS:Slt n (set1 t b x y):=(Slt.of (by omega) (zeg.2 hp3)).set1 (by omega) hp5
 refine ze (zd (za (zo (some 4) (Instr.box 38 (vA [(vI n),(.slice a_t n_t c_t)])) (vP w.heap.size 0) ([(vI n),(.slice a_t n_t c_t)]) 38 ?_)))
 intro w1 hBw1 hEw1
 have hzw1:=hEw1.size;have hlw1:=hBw1.lt
 refine za (zo (some 6) (Instr.box 56 (vA (zaU x))) (vP w1.heap.size 0) (zaU x) 56 ?_)
 intro w2 hBw2 hEw2
 have hzw2:=hEw2.size;have hlw2:=hBw2.lt
 refine za (zo (some 7) (Instr.box 59 (vA (zO y))) (vP w2.heap.size 0) (zO y) 59 ?_)
 intro w3 hBw3 hEw3
 have hzw3:=hEw3.size;have hlw3:=hBw3.lt
 refine za (zo (some 8) (Instr.alloc 38 true (.tuple #[])) (vP w3.heap.size 0) ([(vI 0),(.slice none 0 0)]) 38 ?_)
 intro w4 hBw4 hEw4
 have hzw4:=hEw4.size;have hlw4:=hBw4.lt
 refine zc 2 [(10,(vI 0)),(9,(vI 0))] (zf (zb (ze (zd ?_))))
 have hK1:=(((((hBw1.ext hEw2)).ext hEw3)).ext hEw4)
 refine za (zj (some 23) (Instr.loadAt 38 (vP w.heap.size 0)) (vA [(vI n),(.slice a_t n_t c_t)]) (zw (vs:= [(vI n),(.slice a_t n_t c_t)]) (hK1.all)) ?_)
 refine zc 1 [(24,(vI b))] ?_
 have hK2:=(((((((h_t.ext hEw1)).ext hEw2)).ext hEw3)).ext hEw4)
 have hK3:=(((((((hg0.ext hEw1)).ext hEw2)).ext hEw3)).ext hEw4)
 have hK4:=(((((((hg1.ext hEw1)).ext hEw2)).ext hEw3)).ext hEw4)
 have hK5:=(((((((hg2.ext hEw1)).ext hEw2)).ext hEw3)).ext hEw4)
 refine za (zl (some 25) (zkQ n b _ hK2 (by omega) (by omega) (by omega) (by assumption) (by assumption) (by omega) hK3 hK4 hK5) ?_)
 rintro _ w5 ⟨a1,ca1,a2,ca2,rfl,hFz1_0,hFz1_1,hEw5⟩
 have hzw5:=hEw5.size
 have hlea1:=hFz1_0.le
 have hlea2:=hFz1_1.le
 refine zc 3 [(27,(vI 0)),(26,(vA [(.slice a1 (hgt n+1) ca1),(.slice a2 (hgt n+1) ca2)])),(22,(.tuple #[(vA [(.slice a1 (hgt n+1) ca1),(.slice a2 (hgt n+1) ca2)]),(vI 0)]))] (za (zo (some 11) (Instr.alloc 114 true (.tuple #[])) (vP w5.heap.size 0) ([(.slice none 0 0),(.slice none 0 0)]) 114 ?_))
 intro w6 hBw6 hEw6
 have hzw6:=hEw6.size;have hlw6:=hBw6.lt
 refine za (zv 114 w5.heap.size 0 114 (vA [(.slice a1 (hgt n+1) ca1),(.slice a2 (hgt n+1) ca2)]) ([(.slice none 0 0),(.slice none 0 0)]) ([(.slice a1 (hgt n+1) ca1),(.slice a2 (hgt n+1) ca2)]) hBw6 (by kernel_rfl) (by first | decide |(simp;done)|(simp;omega)) (by simp [Value.oneCell']) ?_)
 intro w7 hBw7 hCw7
 have hzw7:=hCw7.size
 rw [zm _ _ (by kernel_rfl)] at hBw7
 refine zc 1 [(12,(vI 0))] (zf (zb (ze (ze (zd (zc 1 [(28,(vI 0))] (za (zai (some 29) (((0:Nat):Int) !=((0:Nat):Int)) false (zaA (by omega)) ?_))))))))
 refine zf (zb (zn (zu (zb (ze (zd ?_))))))
 have hK6:=(((((hK1.ext hEw5)).ext hEw6)).chg hCw7 (fun hs=>by have h:_=_:=hs;omega))
 refine za (zj (some 32) (Instr.loadAt 38 (vP w.heap.size 0)) (vA [(vI n),(.slice a_t n_t c_t)]) (zw (vs:= [(vI n),(.slice a_t n_t c_t)]) (hK6.all)) ?_)
 have hK7:=(((((hK2.ext hEw5)).ext hEw6)).chg hCw7 (fun k h1 h2 hs=>by have h:k=_:=hs;omega))
 refine za (zl (some 33) (znR ((n:Nat):Int) _ hK7 (by omega) (by omega)) ?_)
 rintro _ w8 ⟨a3,rfl,hFz2_0,hFz2_1,hFz2_2,hFz2_3,hEw8⟩
 have hzw8:=hEw8.size
 have hla3:=hFz2_1.lt;have hma3:=Ms.of_row hFz2_1 zQ (len:=n_t) hFz2_2 hFz2_3
 refine za (zo (some 13) (Instr.alloc 38 true (.tuple #[])) (vP w8.heap.size 0) ([(vI 0),(.slice none 0 0)]) 38 ?_)
 intro w9 hBw9 hEw9
 have hzw9:=hEw9.size;have hlw9:=hBw9.lt
 refine za (zv 38 w8.heap.size 0 38 (vA [(.int .i64 ((n:Nat):Int)),(.slice (pA a3 0) n_t n_t)]) ([(vI 0),(.slice none 0 0)]) ([(.int .i64 ((n:Nat):Int)),(.slice (pA a3 0) n_t n_t)]) hBw9 (by kernel_rfl) (by first | decide |(simp;done)|(simp;omega)) (by simp [Value.oneCell']) ?_)
 intro w10 hBw10 hCw10
 have hzw10:=hCw10.size
 rw [zm _ _ (by kernel_rfl)] at hBw10
 refine zf (zb (ze (zd (zc 1 [(34,(vI b))] (za (zt (some 35) .i64 (IntKind.i64.wrap (((b:Nat):Int).tdiv ((4:Nat):Int))) (b/4) (zA (zdP _ _) (by omega) (by omega)) ?_))))))
 refine zc 1 [(36,(vI b))] (za (zt (some 37) .i64 (((b:Nat):Int).tmod ((4:Nat):Int)) (b%4) (zcF _ _) ?_))
 refine zc 2 [(15,(vI (b%4))),(14,(vI (b/4)))] (zf (zb (ze (zd (zc 1 [(38,(vP w8.heap.size 1))] (za (zj (some 39) (Instr.loadAt 36 (vP w8.heap.size 1)) (.slice (pA a3 0) n_t n_t) (zk (hBw10.cell rfl)) ?_)))))))
 refine zc 1 [(40,(vI (b/4)))] (za (zj (some 41) (Instr.indexAt 36 (.slice (pA a3 0) n_t n_t) (vI (b/4))) (vP a3 (0+(b/4)*280)) (zP (E:=77) (sz:=280) (by omega)) ?_))
 refine za (zj (some 42) (Instr.loadAt 77 (vP a3 (0+(b/4)*280))) (vA (unC (t.getD (b/4) Un.zero))) (zw (vs:=unC (t.getD (b/4) Un.zero)) ((((hma3.ext hEw9)).chg hCw10 (fun k h1 h2 hs=>by have h:k=_:=hs;omega)).at Un.zero (by omega)) (by rw [zQ];kernel_rfl)) ?_)
 refine zc 1 [(43,(vI (b%4)))] (za (zl (some 44) (zoe (t.getD (b/4) Un.zero) (b%4) _ (by omega)) ?_))
 rintro _ w11 ⟨rfl,hEw11⟩
 have hzw11:=hEw11.size
 refine zc 1 [(16,(vI (zaT (t.getD (b/4) Un.zero) (b%4))))] (zf (zb (ze (zd (zc 1 [(46,(vI (zaT (t.getD (b/4) Un.zero) (b%4))))] (za (zl (some 47) (zgj (zaT (t.getD (b/4) Un.zero) (b%4)) _ (by omega)) ?_)))))))
 rintro _ w12 ⟨rfl,hEw12⟩
 have hzw12:=hEw12.size
 refine zc 5 [(18,(vI 0)),(17,(vB ((zaT (t.getD (b/4) Un.zero) (b%4))+1))),(49,(vI 0)),(48,(vB ((zaT (t.getD (b/4) Un.zero) (b%4))+1))),(45,(.tuple #[(vB ((zaT (t.getD (b/4) Un.zero) (b%4))+1)),(vI 0)]))] (zf (zb (ze (zT (Chg (fun k=>k=a3) w12.drew) 13 [(51,8192,0),(52,1125899906842624,1),(53,16384,0),(54,32768,0),(55,131072,0),(56,64,0),(57,128,0),(58,126100789566373888,112),(59,6755399441055744,6),(60,288230376151711744,256),(61,576460752303423488,512),(62,1161928703861587968,1279),(0,2449958197289549824,2303)] (fun hT121=> ?_)))))
 have hEw13:Ext w12 w12.drew:=Ext.drew w12
 generalize w12.drew=w13 at hEw13⊢
 have hzw13:=hEw13.size
 have hX1:Chg (fun k=>k=a3) w13 w13:=(Chg.refl (fun k=>k=a3) w13)
 refine zh (hw:=hX1) hT121 [(0,50,(vP w8.heap.size 1))] 1 1 ?_
 have hK8:=(((((hBw10.ext hEw11)).ext hEw12)).ext hEw13)
 refine zg (hw:=hX1) hT121 1 3 (some 51) (.slice (pA a3 0) n_t n_t) (zi (Instr.loadAt 36 (vP w8.heap.size 1)) (fun w' hC=>zk ((hK8.chg hC (fun hs=>by have h:_=_:=hs;omega)).cell rfl))) (zh (hw:=hX1) hT121 [(2,52,(vI (b/4))),(3,53,(vI (b%4))),(4,54,(vB ((zaT (t.getD (b/4) Un.zero) (b%4))+1)))] 3 31 ?_)
 have hK9:=(((((((((((((((((((((hBw2.ext hEw3)).ext hEw4)).ext hEw5)).ext hEw6)).chg hCw7 (fun hs=>by have h:_=_:=hs;omega))).ext hEw8)).ext hEw9)).chg hCw10 (fun hs=>by have h:_=_:=hs;omega))).ext hEw11)).ext hEw12)).ext hEw13)
 refine zg (hw:=hX1) hT121 5 63 (some 55) (vA (zaU x)) (zi (Instr.loadAt 56 (vP w1.heap.size 0)) (fun w' hC=>zw (vs:=zaU x) ((hK9.chg hC (fun hs=>by have h:_=_:=hs;omega)).all) (by rw [zeB];kernel_rfl))) ?_
 have hK10:=(((((((((((((((((((hBw3.ext hEw4)).ext hEw5)).ext hEw6)).chg hCw7 (fun hs=>by have h:_=_:=hs;omega))).ext hEw8)).ext hEw9)).chg hCw10 (fun hs=>by have h:_=_:=hs;omega))).ext hEw11)).ext hEw12)).ext hEw13)
 refine zg (hw:=hX1) hT121 6 127 (some 56) (vA (zO y)) (zi (Instr.loadAt 59 (vP w2.heap.size 0)) (fun w' hC=>zw (vs:=zO y) ((hK10.chg hC (fun hs=>by have h:_=_:=hs;omega)).all) (by rw [zal];kernel_rfl))) (zg (hw:=hX1) hT121 7 255 (some 57) (vA (zM (za8 (t.getD (b/4) Un.zero) (b%4) x y))) (zi (Instr.build 68 #[(0,(vB ((zaT (t.getD (b/4) Un.zero) (b%4))+1))),(1,(vA (zaU x))),(2,(vA (zO y)))]) (fun w' hC=>(zcO ((zaT (t.getD (b/4) Un.zero) (b%4))+1) x y (by omega)).trans (congrArg (fun z:Rec=>Result.ok (Value.agg (zM z).toArray) _) (show (⟨(zaT (t.getD (b/4) Un.zero) (b%4))+1,x,y,by omega⟩:Rec)=za8 (t.getD (b/4) Un.zero) (b%4) x y from rfl)))) (zg (hw:=hX1) hT121 8 511 (some 58) (vP a3 (0+(b/4)*280)) (zi (Instr.indexAt 36 (.slice (pA a3 0) n_t n_t) (vI (b/4))) (fun w' hC=>zP (E:=77) (sz:=280) (by omega))) (zh (hw:=hX1) hT121 [(9,59,(vP a3 (0+(b/4)*280))),(10,60,(vP a3 (0+(b/4)*280+2)))] 2 2047 (zg (hw:=hX1) hT121 11 4095 (some 61) (vP a3 (0+(b/4)*280+2+(b%4)*35)) (zi (Instr.indexAt 69 (vP a3 (0+(b/4)*280+2)) (vI (b%4))) (fun w' hC=>zag (E:=68) (sz:=35) (m:=4) (by omega))) ?_))))
 have hK11:=(((((((((hFz2_1.ext hEw9)).chg hCw10 (fun hs=>by have h:_=_:=hs;omega))).ext hEw11)).ext hEw12)).ext hEw13)
 refine zz 12 8191 (zv 68 a3 (0+(b/4)*280+2+(b%4)*35) 77 (vA (zM (za8 (t.getD (b/4) Un.zero) (b%4) x y))) (t.flatMap unC) (zM (za8 (t.getD (b/4) Un.zero) (b%4) x y)) hK11 (by rw [zab];kernel_rfl) (by (try simp only [List.length_append]);rw [zaz zQ];have:=hFz2_2;have hq:b/4<List.length t:=(by (try simp only [List.length_set]);have:=hFz2_2;omega);rw [zab];omega) (za2 _) ?_)
 have hK12:=(((((((((hFz2_1.ext hEw9)).chg hCw10 (fun hs=>by have h:_=_:=hs;omega))).ext hEw11)).ext hEw12)).ext hEw13)
 intro w14 hBw14 hCw14
 have hzw14:=hCw14.size
 rw [show (zac (t.flatMap unC) (0+(b/4)*280+2+(b%4)*35) (zM (za8 (t.getD (b/4) Un.zero) (b%4) x y)):List Value)=(t.set (b/4) ((t.getD (b/4) Un.zero).setR (b%4) (za8 (t.getD (b/4) Un.zero) (b%4) x y))).flatMap unC from (show zac (t.flatMap unC) (0+(b/4)*280+2+(b%4)*35) (zM (za8 (t.getD (b/4) Un.zero) (b%4) x y))=(t.set (b/4) ((t.getD (b/4) Un.zero).setR (b%4) (za8 (t.getD (b/4) Un.zero) (b%4) x y))).flatMap unC from by have hz:=(zb1 zQ Un.zero ((t.getD (b/4) Un.zero).setR (b%4) (za8 (t.getD (b/4) Un.zero) (b%4) x y)) t (b/4) (2+(b%4)*35) (zM (za8 (t.getD (b/4) Un.zero) (b%4) x y)) [] (by (try simp only [List.length_set]);have:=hFz2_2;omega) (zr5 (by omega)) (by rw [zab];omega));rw [List.append_nil,List.append_nil] at hz;rw [show 0+(b/4)*280+2+(b%4)*35=(b/4)*280+(2+(b%4)*35) from by omega];exact hz)] at hBw14
 have hmw14:Ms unC 280 a3 (a3+1) w14 (pA a3 0) n_t n_t (t.set (b/4) ((t.getD (b/4) Un.zero).setR (b%4) (za8 (t.getD (b/4) Un.zero) (b%4) x y))):=Ms.of_pre (r:= []) (by rw [List.append_nil];exact hBw14) zQ (by (try simp only [List.length_set]);have:=hFz2_2;omega) (by omega) (by simp only [maxLen];omega) (by omega) (by omega)
 have hX2:Chg (fun k=>k=a3) w13 w14:=(Chg.then (Chg.refl (fun k=>k=a3) w13) hCw14 (fun k hk hs=>by have h:k=_:=hs;first | exact hs | exact .inl h | exact .inr h |(exfalso;omega)))
 refine ⟨.inr hX2, ?_⟩
 refine zJ (zb (ze (zd (zc 1 [(62,(vP w8.heap.size 1))] (za (zj (some 63) (Instr.loadAt 36 (vP w8.heap.size 1)) (.slice (pA a3 0) n_t n_t) (zk (((hK8).chg hCw14 (fun hs=>by have h:_=_:=hs;omega)).cell rfl)) ?_))))))
 refine zc 2 [(65,(vI (b%4))),(64,(vI (b/4)))] (za (zj (some 66) (Instr.indexAt 36 (.slice (pA a3 0) n_t n_t) (vI (b/4))) (vP a3 (0+(b/4)*280)) (zP (E:=77) (sz:=280) (by omega)) ?_))
 refine zc 1 [(67,(vP a3 (0+(b/4)*280+276)))] (za (zj (some 68) (Instr.indexAt 75 (vP a3 (0+(b/4)*280+276)) (vI (b%4))) (vP a3 (0+(b/4)*280+276+(b%4)*1)) (zag (E:=4) (sz:=1) (m:=4) (by omega)) ?_))
 refine za (zah 4 a3 (0+(b/4)*280+276+(b%4)*1) 77 vT ((t.set (b/4) ((t.getD (b/4) Un.zero).setR (b%4) (za8 (t.getD (b/4) Un.zero) (b%4) x y))).flatMap unC) hBw14 (by (try simp only [List.length_append]);rw [zaz zQ];have:=hFz2_2;have hq:b/4<List.length (t.set (b/4) ((t.getD (b/4) Un.zero).setR (b%4) (za8 (t.getD (b/4) Un.zero) (b%4) x y))):=(by (try simp only [List.length_set]);have:=hFz2_2;omega);omega) ?_)
 intro w15 hBw15 hCw15
 have hzw15:=hCw15.size
 rw [show (((t.set (b/4) ((t.getD (b/4) Un.zero).setR (b%4) (za8 (t.getD (b/4) Un.zero) (b%4) x y))).flatMap unC).set (0+(b/4)*280+276+(b%4)*1) vT:List Value)=((t.set (b/4) ((t.getD (b/4) Un.zero).setR (b%4) (za8 (t.getD (b/4) Un.zero) (b%4) x y))).set (b/4) (((t.set (b/4) ((t.getD (b/4) Un.zero).setR (b%4) (za8 (t.getD (b/4) Un.zero) (b%4) x y))).getD (b/4) Un.zero).setCh (b%4) true)).flatMap unC from (show zac ((t.set (b/4) ((t.getD (b/4) Un.zero).setR (b%4) (za8 (t.getD (b/4) Un.zero) (b%4) x y))).flatMap unC) (0+(b/4)*280+276+(b%4)*1) ([vT])=((t.set (b/4) ((t.getD (b/4) Un.zero).setR (b%4) (za8 (t.getD (b/4) Un.zero) (b%4) x y))).set (b/4) (((t.set (b/4) ((t.getD (b/4) Un.zero).setR (b%4) (za8 (t.getD (b/4) Un.zero) (b%4) x y))).getD (b/4) Un.zero).setCh (b%4) true)).flatMap unC from by have hz:=(zb1 zQ Un.zero (((t.set (b/4) ((t.getD (b/4) Un.zero).setR (b%4) (za8 (t.getD (b/4) Un.zero) (b%4) x y))).getD (b/4) Un.zero).setCh (b%4) true) (t.set (b/4) ((t.getD (b/4) Un.zero).setR (b%4) (za8 (t.getD (b/4) Un.zero) (b%4) x y))) (b/4) (276+(b%4)*1) ([vT]) [] (by (try simp only [List.length_set]);have:=hFz2_2;omega) (zgh (by omega)) (by simp only [List.length_cons,List.length_nil];omega));rw [List.append_nil,List.append_nil] at hz;rw [show 0+(b/4)*280+276+(b%4)*1=(b/4)*280+(276+(b%4)*1) from by omega];exact hz)] at hBw15
 have hmw15:Ms unC 280 a3 (a3+1) w15 (pA a3 0) n_t n_t ((t.set (b/4) ((t.getD (b/4) Un.zero).setR (b%4) (za8 (t.getD (b/4) Un.zero) (b%4) x y))).set (b/4) (((t.set (b/4) ((t.getD (b/4) Un.zero).setR (b%4) (za8 (t.getD (b/4) Un.zero) (b%4) x y))).getD (b/4) Un.zero).setCh (b%4) true)):=Ms.of_pre (r:= []) (by rw [List.append_nil];exact hBw15) zQ (by (try simp only [List.length_set]);have:=hFz2_2;omega) (by omega) (by simp only [maxLen];omega) (by omega) (by omega)
 refine zf (zb (ze (zd (zc 1 [(69,(vP w8.heap.size 1))] (za (zj (some 70) (Instr.loadAt 36 (vP w8.heap.size 1)) (.slice (pA a3 0) n_t n_t) (zk (((((hK8).chg hCw14 (fun hs=>by have h:_=_:=hs;omega))).chg hCw15 (fun hs=>by have h:_=_:=hs;omega)).cell rfl)) ?_))))))
 refine zc 1 [(71,(vI (b/4)))] (za (zj (some 72) (Instr.indexAt 36 (.slice (pA a3 0) n_t n_t) (vI (b/4))) (vP a3 (0+(b/4)*280)) (zP (E:=77) (sz:=280) (by omega)) ?_))
 refine zc 1 [(73,(vP a3 (0+(b/4)*280+275)))] (za (zah 4 a3 (0+(b/4)*280+275) 77 vT (((t.set (b/4) ((t.getD (b/4) Un.zero).setR (b%4) (za8 (t.getD (b/4) Un.zero) (b%4) x y))).set (b/4) (((t.set (b/4) ((t.getD (b/4) Un.zero).setR (b%4) (za8 (t.getD (b/4) Un.zero) (b%4) x y))).getD (b/4) Un.zero).setCh (b%4) true)).flatMap unC) hBw15 (by (try simp only [List.length_append,List.length_cons,List.length_nil,List.length_set]);(try rw [zaz zQ]);(try simp only [List.length_set]);have:=hFz2_2;omega) ?_))
 intro w16 hBw16 hCw16
 have hzw16:=hCw16.size
 rw [show ((((t.set (b/4) ((t.getD (b/4) Un.zero).setR (b%4) (za8 (t.getD (b/4) Un.zero) (b%4) x y))).set (b/4) (((t.set (b/4) ((t.getD (b/4) Un.zero).setR (b%4) (za8 (t.getD (b/4) Un.zero) (b%4) x y))).getD (b/4) Un.zero).setCh (b%4) true)).flatMap unC).set (0+(b/4)*280+275) vT:List Value)=(((t.set (b/4) ((t.getD (b/4) Un.zero).setR (b%4) (za8 (t.getD (b/4) Un.zero) (b%4) x y))).set (b/4) (((t.set (b/4) ((t.getD (b/4) Un.zero).setR (b%4) (za8 (t.getD (b/4) Un.zero) (b%4) x y))).getD (b/4) Un.zero).setCh (b%4) true)).set (b/4) ((((t.set (b/4) ((t.getD (b/4) Un.zero).setR (b%4) (za8 (t.getD (b/4) Un.zero) (b%4) x y))).set (b/4) (((t.set (b/4) ((t.getD (b/4) Un.zero).setR (b%4) (za8 (t.getD (b/4) Un.zero) (b%4) x y))).getD (b/4) Un.zero).setCh (b%4) true)).getD (b/4) Un.zero).setDt true)).flatMap unC from (by have hz:=zb1 zQ Un.zero ((((t.set (b/4) ((t.getD (b/4) Un.zero).setR (b%4) (za8 (t.getD (b/4) Un.zero) (b%4) x y))).set (b/4) (((t.set (b/4) ((t.getD (b/4) Un.zero).setR (b%4) (za8 (t.getD (b/4) Un.zero) (b%4) x y))).getD (b/4) Un.zero).setCh (b%4) true)).getD (b/4) Un.zero).setDt true) ((t.set (b/4) ((t.getD (b/4) Un.zero).setR (b%4) (za8 (t.getD (b/4) Un.zero) (b%4) x y))).set (b/4) (((t.set (b/4) ((t.getD (b/4) Un.zero).setR (b%4) (za8 (t.getD (b/4) Un.zero) (b%4) x y))).getD (b/4) Un.zero).setCh (b%4) true)) (b/4) 275 ([vT]) [] (by (try simp only [List.length_set]);have:=hFz2_2;omega) (zh7) (by (try simp only [List.length_cons,List.length_nil]);(try rw [zQ]);omega);rw [List.append_nil,List.append_nil] at hz;rw [show 0+(b/4)*280+275=(b/4)*280+275 from by omega];exact hz),show (((t.set (b/4) ((t.getD (b/4) Un.zero).setR (b%4) (za8 (t.getD (b/4) Un.zero) (b%4) x y))).set (b/4) (((t.set (b/4) ((t.getD (b/4) Un.zero).setR (b%4) (za8 (t.getD (b/4) Un.zero) (b%4) x y))).getD (b/4) Un.zero).setCh (b%4) true)).set (b/4) ((((t.set (b/4) ((t.getD (b/4) Un.zero).setR (b%4) (za8 (t.getD (b/4) Un.zero) (b%4) x y))).set (b/4) (((t.set (b/4) ((t.getD (b/4) Un.zero).setR (b%4) (za8 (t.getD (b/4) Un.zero) (b%4) x y))).getD (b/4) Un.zero).setCh (b%4) true)).getD (b/4) Un.zero).setDt true))=(set1 t b x y) from zrr (by omega) rfl rfl] at hBw16
 have hmw16:Ms unC 280 a3 (a3+1) w16 (pA a3 0) n_t n_t (set1 t b x y):=Ms.of_pre (r:= []) (by rw [List.append_nil];exact hBw16) zQ (by rw [zcz];omega) (by omega) (by simp only [maxLen] at*;omega) (by omega) (by omega)
 refine zf (zb (ze (zd (zc 1 [(74,(vP w8.heap.size 1))] ?_))))
 have hK13:=((((((hK8).chg hCw14 (fun hs=>by have h:_=_:=hs;omega))).chg hCw15 (fun hs=>by have h:_=_:=hs;omega))).chg hCw16 (fun hs=>by have h:_=_:=hs;omega))
 refine za (zj (some 75) (Instr.loadAt 36 (vP w8.heap.size 1)) (.slice (pA a3 0) n_t n_t) (zk (hK13.cell rfl)) ?_)
 refine zc 1 [(76,(vI (b/4)))] (za (zj (some 77) (Instr.indexAt 36 (.slice (pA a3 0) n_t n_t) (vI (b/4))) (vP a3 (0+(b/4)*280)) (zP (E:=77) (sz:=280) (by omega)) ?_))
 refine za (zj (some 78) (Instr.loadAt 77 (vP a3 (0+(b/4)*280))) (vA (unC ((set1 t b x y).getD (b/4) Un.zero))) (zw (vs:=unC ((set1 t b x y).getD (b/4) Un.zero)) (hmw16.at Un.zero (by omega)) (by rw [zQ];kernel_rfl)) ?_)
 refine za (zo (some 19) (Instr.alloc 77 true (.tuple #[])) (vP w16.heap.size 0) (unC Un.zero) 77 ?_)
 intro w17 hBw17 hEw17
 have hzw17:=hEw17.size;have hlw17:=hBw17.lt
 refine za (zv 77 w16.heap.size 0 77 (vA (unC ((set1 t b x y).getD (b/4) Un.zero))) (unC Un.zero) (unC ((set1 t b x y).getD (b/4) Un.zero)) hBw17 (by rw [zQ];kernel_rfl) (by first |(simp;done)|(simp;omega)) (za4 _) ?_)
 intro w18 hBw18 hCw18
 have hzw18:=hCw18.size
 rw [zm _ _ (by simp)] at hBw18
 refine zf (zb (ze (ze (zd ?_))))
 have hK14:=(((((((((((((((((((((hBw7.ext hEw8)).ext hEw9)).chg hCw10 (fun hs=>by have h:_=_:=hs;omega))).ext hEw11)).ext hEw12)).ext hEw13)).chg hCw14 (fun hs=>by have h:_=_:=hs;omega))).chg hCw15 (fun hs=>by have h:_=_:=hs;omega))).chg hCw16 (fun hs=>by have h:_=_:=hs;omega))).ext hEw17)).chg hCw18 (fun hs=>by have h:_=_:=hs;omega))
 refine za (zj (some 79) (Instr.loadAt 114 (vP w5.heap.size 0)) (vA [(.slice a1 (hgt n+1) ca1),(.slice a2 (hgt n+1) ca2)]) (zw (vs:= [(.slice a1 (hgt n+1) ca1),(.slice a2 (hgt n+1) ca2)]) (hK14.all)) ?_)
 refine zc 1 [(80,(vI (b/4)))] ?_
 have hK15:=(((((((((((((((((((((((((hFz1_0.ext hEw6)).chg hCw7 (fun k h1 h2 hs=>by have h:k=_:=hs;omega))).ext hEw8)).ext hEw9)).chg hCw10 (fun k h1 h2 hs=>by have h:k=_:=hs;omega))).ext hEw11)).ext hEw12)).ext hEw13)).chg hCw14 (fun k h1 h2 hs=>by have h:k=_:=hs;omega))).chg hCw15 (fun k h1 h2 hs=>by have h:k=_:=hs;omega))).chg hCw16 (fun k h1 h2 hs=>by have h:k=_:=hs;omega))).ext hEw17)).chg hCw18 (fun k h1 h2 hs=>by have h:k=_:=hs;omega))
 have hK16:=(((((((((((((((((((((((((hFz1_1.ext hEw6)).chg hCw7 (fun k h1 h2 hs=>by have h:k=_:=hs;omega))).ext hEw8)).ext hEw9)).chg hCw10 (fun k h1 h2 hs=>by have h:k=_:=hs;omega))).ext hEw11)).ext hEw12)).ext hEw13)).chg hCw14 (fun k h1 h2 hs=>by have h:k=_:=hs;omega))).chg hCw15 (fun k h1 h2 hs=>by have h:k=_:=hs;omega))).chg hCw16 (fun k h1 h2 hs=>by have h:k=_:=hs;omega))).ext hEw17)).chg hCw18 (fun k h1 h2 hs=>by have h:k=_:=hs;omega))
 refine za (zl (some 81) (zpM 0 (b/4) _ hK15 hK16) ?_)
 rintro _ w19 ⟨a4,a4y,a4z,rfl,hFz5_0,hFz5_1,hFz5_2,hFz5_3,hEw19⟩
 have hzw19:=hEw19.size
 have hla4:=hFz5_1.lt;have hla4y:=hFz5_2.lt;have hla4z:=hFz5_3.lt
 refine zf (zb (zy ?_))
 have hK17:=(((((hBw16.ext hEw17)).chg hCw18 (fun hs=>by have h:_=_:=hs;omega))).ext hEw19)
 have hK18:=(((((((((((((((((((((((hK6.ext hEw8)).ext hEw9)).chg hCw10 (fun hs=>by have h:_=_:=hs;omega))).ext hEw11)).ext hEw12)).ext hEw13)).chg hCw14 (fun hs=>by have h:_=_:=hs;omega))).chg hCw15 (fun hs=>by have h:_=_:=hs;omega))).chg hCw16 (fun hs=>by have h:_=_:=hs;omega))).ext hEw17)).chg hCw18 (fun hs=>by have h:_=_:=hs;omega))).ext hEw19)
 have hK19:=(((((((((((((((((((((((((((((hBw4.ext hEw5)).ext hEw6)).chg hCw7 (fun hs=>by have h:_=_:=hs;omega))).ext hEw8)).ext hEw9)).chg hCw10 (fun hs=>by have h:_=_:=hs;omega))).ext hEw11)).ext hEw12)).ext hEw13)).chg hCw14 (fun hs=>by have h:_=_:=hs;omega))).chg hCw15 (fun hs=>by have h:_=_:=hs;omega))).chg hCw16 (fun hs=>by have h:_=_:=hs;omega))).ext hEw17)).chg hCw18 (fun hs=>by have h:_=_:=hs;omega))).ext hEw19)
 have hK20:=(((((hK13.ext hEw17)).chg hCw18 (fun hs=>by have h:_=_:=hs;omega))).ext hEw19)
 have hX3:Ext w w19:=((Ext.own ((Ext.own (Ext.own (Ext.own ((((Ext.own (((Ext.own (((((hEw1.trans hEw2).trans hEw3).trans hEw4).trans hEw5).trans hEw6) hCw7 (by omega)).trans hEw8).trans hEw9) hCw10 (by omega)).trans hEw11).trans hEw12).trans hEw13) hCw14 (by omega)) hCw15 (by omega)) hCw16 (by omega)).trans hEw17) hCw18 (by omega)).trans hEw19)
 refine zgD [82,83] 75 [(vP a4 0),(vP a4y 0),(vP a4z 0)] (hgt n+1) (fun k=> [(vI k),(vI (num n k+idx b k))]) (fun b=>b=a3∨b=w16.heap.size) (fun b=>b=a4∨b=a4z) (fun k w'=>Blk w' a3 ((zam n b (set1 t b x y) (k-1)).flatMap unC) 77∧Blk w' w16.heap.size (unC (ndU n (zam n b (set1 t b x y) (k-1)) (k-1) (idx b (k-1)))) 77∧Blk w' w.heap.size ([(vI n),(.slice a_t n_t c_t)]) 38∧Blk w' w3.heap.size ([(vI 0),(.slice none 0 0)]) 38∧Blk w' w5.heap.size ([(.slice a1 (hgt n+1) ca1),(.slice a2 (hgt n+1) ca2)]) 114∧Blk w' w8.heap.size ([(.int .i64 ((n:Nat):Int)),(.slice (pA a3 0) n_t n_t)]) 38∧Es (nv .i64) w4.heap.size w5.heap.size w' a1 (hgt n+1) ca1 (zaI n (hgt n+1))∧Es (nv .i64) w4.heap.size w5.heap.size w' a2 (hgt n+1) ca2 (za0 n (hgt n+1))∧Ext w w') (fun cc k w'=>False) (fun b hb=>by rcases hb with hb | hb<;>omega) (fun _=>rfl) (fun k W W' ⟨h1,h2,h3,h4,h5,h6,h7,h8,h9⟩ hb=>⟨h1.book hb,h2.book hb,h3.book hb,h4.book hb,h5.book hb,h6.book hb,h7.book hb,h8.book hb,h9.book hb (by omega)⟩) (fun _ _ _ _ h _=>h) (fun k W W' ⟨h1,h2,h3,h4,h5,h6,h7,h8,h9⟩ hc=>⟨h1.chg hc (fun hs=>by rcases hs with hs | hs<;>omega),h2.chg hc (fun hs=>by rcases hs with hs | hs<;>omega),h3.chg hc (fun hs=>by rcases hs with hs | hs<;>omega),h4.chg hc (fun hs=>by rcases hs with hs | hs<;>omega),h5.chg hc (fun hs=>by rcases hs with hs | hs<;>omega),h6.chg hc (fun hs=>by rcases hs with hs | hs<;>omega),h7.chg hc (fun k h1 h2 hs=>by rcases hs with hs | hs<;>omega),h8.chg hc (fun k h1 h2 hs=>by rcases hs with hs | hs<;>omega),Ext.ownS h9 hc (fun k hs hk=>by rcases hs with hs | hs<;>omega)⟩) (⟨hK17,by have hz:=(hBw18.ext hEw19);rw [show (set1 t b x y).getD (b/4) Un.zero=(ndU n (zam n b (set1 t b x y) (0-1)) (0-1) (idx b (0-1))) from by unfold ndU;rw [show num n (0-1)+idx b (0-1)=b/4 from Nat.zero_add _];rfl] at hz;exact hz,hK18,hK19,(hK14.ext hEw19),hK20,(hK15.ext hEw19),(hK16.ext hEw19),hX3⟩) (fun lp J Jx wj hE1 hJ hY h0=>zrA n b w19.heap.size lp _ J Jx wj hp0 hp1 hp5 (hFz5_1.ext hE1) (hFz5_2.ext hE1) (hFz5_3.ext hE1) ((hK15.ext hEw19).ext hE1) ((hK16.ext hEw19).ext hE1) (by omega) (by omega) (fun x hx=>by omega) hJ hY h0) ?_ ?_ ?_
 ·rintro lR k w20 hl ⟨hR,hBe,hK4,hK8,hK11,hK13,hs1,hs2,hEw⟩ hk
  have hzr:=hEw.size
  have hRl:=hR.lt;have hBel:=hBe.lt
  have hK4l:=hK4.lt
  have hK8l:=hK8.lt
  have hK11l:=hK11.lt
  have hK13l:=hK13.lt
  have hmR:=Ms.of_row hR zQ (len:=n_t) (by rw [zc5,zcz];omega) (by simp only [maxLen];omega)
  have hij:=zbh (n:=n) (i:=b) hp5 k
  have hpl:=zaC (n:=n) (l:=k) (j:=idx b k) (by omega) hij
  have hgp:=zks hG hS hp5 (m:=k-1) (by omega)
  have hbq:=hgp.1.pl (k-1) (idx b (k-1)) (by omega) (zbh hp5 _)
  have hbs:=hgp.2 (k-1) (idx b (k-1)) (by omega) (zbh hp5 _)
  refine ze (zd (zc 1 [(20,(vI k))] (zf (zb (zd (zc 1 [(21,(vI (num n k+idx b k)))] (zf (zkx (Kpt.refl _) (Chg.refl _ _) (fun w21 hBkw21=> ?_)))))))))
  have hzw21:=hBkw21.size
  refine zy (ze (ze (zd (zc 1 [(84,(vI k))] (za (zK (some 85) (decide (((k:Nat):Int)>((0:Nat):Int))) (fun hc85=> ?_) (fun hc85=> ?_)))))))
  ·replace hc85:k>0:=by have:=zaf hc85;omega
   refine zf (zb (zC (ze (zT (Chg (fun k=>k=a3) w21.drew) 14 [(87,8192,0),(88,77371252455336267181195264,1),(89,2097152,0),(90,524288,0),(91,618970019642690137449562112,8),(92,1237940039285380274899124224,16),(93,2475880078570760549798248448,32),(94,524288,0),(95,9903520314283042199192993792,128),(96,464227514732017603087171584,6),(97,39614081257132168796771975168,512),(98,79228162514264337593543950336,1024),(99,163408085185670196286684397568,2559),(0,336719690685623434772561788928,4607)] (fun hT250=> ?_)))))
   have hEw22:Ext w21 w21.drew:=Ext.drew w21
   generalize w21.drew=w22 at hEw22⊢
   have hzw22:=hEw22.size
   have hX4:Chg (fun k=>k=a3) w22 w22:=(Chg.refl (fun k=>k=a3) w22)
   refine zh (hw:=hX4) hT250 [(0,86,(vP w8.heap.size 1))] 1 1 (zg (hw:=hX4) hT250 1 3 (some 87) (.slice (pA a3 0) n_t n_t) (zi (Instr.loadAt 36 (vP w8.heap.size 1)) (fun w' hC=>zk ((((((hK13).book hBkw21)).ext hEw22).chg hC (fun hs=>by have h:_=_:=hs;omega)).cell rfl))) (zh (hw:=hX4) hT250 [(2,88,(vI (num n k+idx b k))),(3,89,(vP w16.heap.size 0)),(4,90,(vP w16.heap.size 1))] 3 31 (zg (hw:=hX4) hT250 5 63 (some 91) (vW ((ndU n (zam n b (set1 t b x y) (k-1)) (k-1) (idx b (k-1))).nd.ix)) (zi (Instr.loadAt 53 (vP w16.heap.size 1)) (fun w' hC=>zk ((((((hBe).book hBkw21)).ext hEw22).chg hC (fun hs=>by have h:_=_:=hs;omega)).cell rfl))) (zg (hw:=hX4) hT250 6 127 (some 92) (vW (((ndU n (zam n b (set1 t b x y) (k-1)) (k-1) (idx b (k-1))).nd.ix)%4)) (zaa .u32 ((((ndU n (zam n b (set1 t b x y) (k-1)) (k-1) (idx b (k-1))).nd.ix:Nat):Int).tmod ((4:Nat):Int)) (zcF _ _)) (zg (hw:=hX4) hT250 7 255 (some 93) (vA (unC (ndU n (zam n b (set1 t b x y) (k-1)) (k-1) (idx b (k-1))))) (zi (Instr.loadAt 77 (vP w16.heap.size 0)) (fun w' hC=>zw (vs:=unC (ndU n (zam n b (set1 t b x y) (k-1)) (k-1) (idx b (k-1)))) ((((((hBe).book hBkw21)).ext hEw22).chg hC (fun hs=>by have h:_=_:=hs;omega)).all) (by rw [zQ];kernel_rfl))) ?_)))))
   refine zg (hw:=hX4) hT250 9 767 (some 95) (vP a3 (0+(num n k+idx b k)*280)) (zi (Instr.indexAt 36 (.slice (pA a3 0) n_t n_t) (vI (num n k+idx b k))) (fun w' hC=>zP (E:=77) (sz:=280) (by omega))) (zh (hw:=hX4) hT250 [(10,96,(vP a3 (0+(num n k+idx b k)*280))),(11,97,(vP a3 (0+(num n k+idx b k)*280+142)))] 2 3839 ?_)
   have hK21:=(((((hg0.ext hEw)).book hBkw21)).ext hEw22)
   have hK22:=(((((hg1.ext hEw)).book hBkw21)).ext hEw22)
   have hK23:=(((((hg2.ext hEw)).book hBkw21)).ext hEw22)
   refine zz 8 4095 (zl (some 94) (zjJ (ndU n (zam n b (set1 t b x y) (k-1)) (k-1) (idx b (k-1))) _ (hbs) (hbq.1) hK21 hK22 hK23) ?_)
   rintro _ w23 ⟨rfl,hEw23⟩
   have hzw23:=hEw23.size
   have hX5:Chg (fun k=>k=a3) w22 w23:=((Chg.refl (fun k=>k=a3) w22).trans hEw23.chg)
   refine ⟨.inr hX5, ?_⟩
   refine zg (hw:=hX5) hT250 12 8191 (some 98) (vP a3 (0+(num n k+idx b k)*280+142+(((ndU n (zam n b (set1 t b x y) (k-1)) (k-1) (idx b (k-1))).nd.ix)%4)*33)) (zi (Instr.indexAt 72 (vP a3 (0+(num n k+idx b k)*280+142)) (vW (((ndU n (zam n b (set1 t b x y) (k-1)) (k-1) (idx b (k-1))).nd.ix)%4))) (fun w' hC=>zag (E:=71) (sz:=33) (m:=4) (by omega))) ?_
   have hK24:=((((((hR).book hBkw21)).ext hEw22)).ext hEw23)
   refine zz 13 16383 (zv 71 a3 (0+(num n k+idx b k)*280+142+(((ndU n (zam n b (set1 t b x y) (k-1)) (k-1) (idx b (k-1))).nd.ix)%4)*33) 77 (vA (zad (enU (ndU n (zam n b (set1 t b x y) (k-1)) (k-1) (idx b (k-1)))))) ((zam n b (set1 t b x y) (k-1)).flatMap unC) (zad (enU (ndU n (zam n b (set1 t b x y) (k-1)) (k-1) (idx b (k-1))))) hK24 (by rw [zaF];kernel_rfl) (by (try simp only [List.length_append]);rw [zaz zQ];have:=(show List.length (zam n b (set1 t b x y) (k-1))=n_t from by rw [zc5,zcz];omega);have hq:num n k+idx b k<List.length (zam n b (set1 t b x y) (k-1)):=(by (try simp only [List.length_set]);rw [zc5,zcz];omega);rw [zaF];omega) (zcy _) ?_)
   have hK25:=((((((hR).book hBkw21)).ext hEw22)).ext hEw23)
   intro w24 hBw24 hCw24
   have hzw24:=hCw24.size
   rw [show (zac ((zam n b (set1 t b x y) (k-1)).flatMap unC) (0+(num n k+idx b k)*280+142+(((ndU n (zam n b (set1 t b x y) (k-1)) (k-1) (idx b (k-1))).nd.ix)%4)*33) (zad (enU (ndU n (zam n b (set1 t b x y) (k-1)) (k-1) (idx b (k-1))))):List Value)=((zam n b (set1 t b x y) (k-1)).set (num n k+idx b k) (((zam n b (set1 t b x y) (k-1)).getD (num n k+idx b k) Un.zero).setE (((ndU n (zam n b (set1 t b x y) (k-1)) (k-1) (idx b (k-1))).nd.ix)%4) (enU (ndU n (zam n b (set1 t b x y) (k-1)) (k-1) (idx b (k-1)))))).flatMap unC from (show zac ((zam n b (set1 t b x y) (k-1)).flatMap unC) (0+(num n k+idx b k)*280+142+(((ndU n (zam n b (set1 t b x y) (k-1)) (k-1) (idx b (k-1))).nd.ix)%4)*33) (zad (enU (ndU n (zam n b (set1 t b x y) (k-1)) (k-1) (idx b (k-1)))))=((zam n b (set1 t b x y) (k-1)).set (num n k+idx b k) (((zam n b (set1 t b x y) (k-1)).getD (num n k+idx b k) Un.zero).setE (((ndU n (zam n b (set1 t b x y) (k-1)) (k-1) (idx b (k-1))).nd.ix)%4) (enU (ndU n (zam n b (set1 t b x y) (k-1)) (k-1) (idx b (k-1)))))).flatMap unC from by have hz:=(zb1 zQ Un.zero (((zam n b (set1 t b x y) (k-1)).getD (num n k+idx b k) Un.zero).setE (((ndU n (zam n b (set1 t b x y) (k-1)) (k-1) (idx b (k-1))).nd.ix)%4) (enU (ndU n (zam n b (set1 t b x y) (k-1)) (k-1) (idx b (k-1))))) (zam n b (set1 t b x y) (k-1)) (num n k+idx b k) (142+(((ndU n (zam n b (set1 t b x y) (k-1)) (k-1) (idx b (k-1))).nd.ix)%4)*33) (zad (enU (ndU n (zam n b (set1 t b x y) (k-1)) (k-1) (idx b (k-1))))) [] (by (try simp only [List.length_set]);rw [zc5,zcz];omega) (zrI (by omega)) (by rw [zaF];omega));rw [List.append_nil,List.append_nil] at hz;rw [show 0+(num n k+idx b k)*280+142+(((ndU n (zam n b (set1 t b x y) (k-1)) (k-1) (idx b (k-1))).nd.ix)%4)*33=(num n k+idx b k)*280+(142+(((ndU n (zam n b (set1 t b x y) (k-1)) (k-1) (idx b (k-1))).nd.ix)%4)*33) from by omega];exact hz)] at hBw24
   have hmw24:Ms unC 280 a3 (a3+1) w24 (pA a3 0) n_t n_t ((zam n b (set1 t b x y) (k-1)).set (num n k+idx b k) (((zam n b (set1 t b x y) (k-1)).getD (num n k+idx b k) Un.zero).setE (((ndU n (zam n b (set1 t b x y) (k-1)) (k-1) (idx b (k-1))).nd.ix)%4) (enU (ndU n (zam n b (set1 t b x y) (k-1)) (k-1) (idx b (k-1)))))):=Ms.of_pre (r:= []) (by rw [List.append_nil];exact hBw24) zQ (by (try simp only [List.length_set]);rw [zc5,zcz];omega) (by omega) (by simp only [maxLen];omega) (by omega) (by omega)
   have hX6:Chg (fun k=>k=a3) w22 w24:=(Chg.then ((Chg.refl (fun k=>k=a3) w22).trans hEw23.chg) hCw24 (fun k hk hs=>by have h:k=_:=hs;first | exact hs | exact .inl h | exact .inr h |(exfalso;omega)))
   refine ⟨.inr hX6, ?_⟩
   refine zJ (zb (zd (zc 1 [(99,(vP w8.heap.size 1))] ?_)))
   have hK26:=((((((((hK13).book hBkw21)).ext hEw22)).ext hEw23)).chg hCw24 (fun hs=>by have h:_=_:=hs;omega))
   refine za (zj (some 100) (Instr.loadAt 36 (vP w8.heap.size 1)) (.slice (pA a3 0) n_t n_t) (zk (hK26.cell rfl)) ?_)
   refine zc 1 [(101,(vI (num n k+idx b k)))] (za (zj (some 102) (Instr.indexAt 36 (.slice (pA a3 0) n_t n_t) (vI (num n k+idx b k))) (vP a3 (0+(num n k+idx b k)*280)) (zP (E:=77) (sz:=280) (by omega)) ?_))
   refine zc 1 [(103,(vP a3 (0+(num n k+idx b k)*280+275)))] (za (zah 4 a3 (0+(num n k+idx b k)*280+275) 77 vT (((zam n b (set1 t b x y) (k-1)).set (num n k+idx b k) (((zam n b (set1 t b x y) (k-1)).getD (num n k+idx b k) Un.zero).setE (((ndU n (zam n b (set1 t b x y) (k-1)) (k-1) (idx b (k-1))).nd.ix)%4) (enU (ndU n (zam n b (set1 t b x y) (k-1)) (k-1) (idx b (k-1)))))).flatMap unC) hBw24 (by (try simp only [List.length_append,List.length_cons,List.length_nil,List.length_set]);(try rw [zaz zQ]);(try simp only [List.length_set]);have:=(show List.length (zam n b (set1 t b x y) (k-1))=n_t from by rw [zc5,zcz];omega);omega) ?_))
   intro w25 hBw25 hCw25
   have hzw25:=hCw25.size
   rw [show ((((zam n b (set1 t b x y) (k-1)).set (num n k+idx b k) (((zam n b (set1 t b x y) (k-1)).getD (num n k+idx b k) Un.zero).setE (((ndU n (zam n b (set1 t b x y) (k-1)) (k-1) (idx b (k-1))).nd.ix)%4) (enU (ndU n (zam n b (set1 t b x y) (k-1)) (k-1) (idx b (k-1)))))).flatMap unC).set (0+(num n k+idx b k)*280+275) vT:List Value)=(((zam n b (set1 t b x y) (k-1)).set (num n k+idx b k) (((zam n b (set1 t b x y) (k-1)).getD (num n k+idx b k) Un.zero).setE (((ndU n (zam n b (set1 t b x y) (k-1)) (k-1) (idx b (k-1))).nd.ix)%4) (enU (ndU n (zam n b (set1 t b x y) (k-1)) (k-1) (idx b (k-1)))))).set (num n k+idx b k) ((((zam n b (set1 t b x y) (k-1)).set (num n k+idx b k) (((zam n b (set1 t b x y) (k-1)).getD (num n k+idx b k) Un.zero).setE (((ndU n (zam n b (set1 t b x y) (k-1)) (k-1) (idx b (k-1))).nd.ix)%4) (enU (ndU n (zam n b (set1 t b x y) (k-1)) (k-1) (idx b (k-1)))))).getD (num n k+idx b k) Un.zero).setDt true)).flatMap unC from (by have hz:=zb1 zQ Un.zero ((((zam n b (set1 t b x y) (k-1)).set (num n k+idx b k) (((zam n b (set1 t b x y) (k-1)).getD (num n k+idx b k) Un.zero).setE (((ndU n (zam n b (set1 t b x y) (k-1)) (k-1) (idx b (k-1))).nd.ix)%4) (enU (ndU n (zam n b (set1 t b x y) (k-1)) (k-1) (idx b (k-1)))))).getD (num n k+idx b k) Un.zero).setDt true) ((zam n b (set1 t b x y) (k-1)).set (num n k+idx b k) (((zam n b (set1 t b x y) (k-1)).getD (num n k+idx b k) Un.zero).setE (((ndU n (zam n b (set1 t b x y) (k-1)) (k-1) (idx b (k-1))).nd.ix)%4) (enU (ndU n (zam n b (set1 t b x y) (k-1)) (k-1) (idx b (k-1)))))) (num n k+idx b k) 275 ([vT]) [] (by (try simp only [List.length_set]);rw [zc5,zcz];omega) (zh7) (by (try simp only [List.length_cons,List.length_nil]);(try rw [zQ]);omega);rw [List.append_nil,List.append_nil] at hz;rw [show 0+(num n k+idx b k)*280+275=(num n k+idx b k)*280+275 from by omega];exact hz),show (((zam n b (set1 t b x y) (k-1)).set (num n k+idx b k) (((zam n b (set1 t b x y) (k-1)).getD (num n k+idx b k) Un.zero).setE (((ndU n (zam n b (set1 t b x y) (k-1)) (k-1) (idx b (k-1))).nd.ix)%4) (enU (ndU n (zam n b (set1 t b x y) (k-1)) (k-1) (idx b (k-1)))))).set (num n k+idx b k) ((((zam n b (set1 t b x y) (k-1)).set (num n k+idx b k) (((zam n b (set1 t b x y) (k-1)).getD (num n k+idx b k) Un.zero).setE (((ndU n (zam n b (set1 t b x y) (k-1)) (k-1) (idx b (k-1))).nd.ix)%4) (enU (ndU n (zam n b (set1 t b x y) (k-1)) (k-1) (idx b (k-1)))))).getD (num n k+idx b k) Un.zero).setDt true))=(zdW n b (k-1) (zam n b (set1 t b x y) (k-1))) from zs0 (by omega) (by rw [zc5,zcz];omega) rfl] at hBw25
   have hmw25:Ms unC 280 a3 (a3+1) w25 (pA a3 0) n_t n_t (zdW n b (k-1) (zam n b (set1 t b x y) (k-1))):=Ms.of_pre (r:= []) (by rw [List.append_nil];exact hBw25) zQ (by rw [zoH,zc5,zcz];omega) (by omega) (by simp only [maxLen] at*;omega) (by omega) (by omega)
   refine zf (zb (zd (zc 1 [(104,(vP w8.heap.size 1))] (za (zj (some 105) (Instr.loadAt 36 (vP w8.heap.size 1)) (.slice (pA a3 0) n_t n_t) (zk (((hK26).chg hCw25 (fun hs=>by have h:_=_:=hs;omega)).cell rfl)) ?_)))))
   refine zc 1 [(106,(vI (num n k+idx b k)))] (za (zj (some 107) (Instr.indexAt 36 (.slice (pA a3 0) n_t n_t) (vI (num n k+idx b k))) (vP a3 (0+(num n k+idx b k)*280)) (zP (E:=77) (sz:=280) (by omega)) ?_))
   refine za (zj (some 108) (Instr.loadAt 77 (vP a3 (0+(num n k+idx b k)*280))) (vA (unC ((zdW n b (k-1) (zam n b (set1 t b x y) (k-1))).getD (num n k+idx b k) Un.zero))) (zw (vs:=unC ((zdW n b (k-1) (zam n b (set1 t b x y) (k-1))).getD (num n k+idx b k) Un.zero)) (hmw25.at Un.zero (by omega)) (by rw [zQ];kernel_rfl)) ?_)
   have hK27:=((((((((((hBe).book hBkw21)).ext hEw22)).ext hEw23)).chg hCw24 (fun hs=>by have h:_=_:=hs;omega))).chg hCw25 (fun hs=>by have h:_=_:=hs;omega))
   refine za (zv 77 w16.heap.size 0 77 (vA (unC ((zdW n b (k-1) (zam n b (set1 t b x y) (k-1))).getD (num n k+idx b k) Un.zero))) (unC (ndU n (zam n b (set1 t b x y) (k-1)) (k-1) (idx b (k-1)))) (unC ((zdW n b (k-1) (zam n b (set1 t b x y) (k-1))).getD (num n k+idx b k) Un.zero)) hK27 (by rw [zQ];kernel_rfl) (by first |(simp;done)|(simp;omega)) (za4 _) ?_)
   have hK28:=((((((((((hBe).book hBkw21)).ext hEw22)).ext hEw23)).chg hCw24 (fun hs=>by have h:_=_:=hs;omega))).chg hCw25 (fun hs=>by have h:_=_:=hs;omega))
   intro w26 hBw26 hCw26
   have hzw26:=hCw26.size
   rw [zm _ _ (by simp)] at hBw26
   refine zf (zp ?_)
   have hK29:=((((((((((((hK4).book hBkw21)).ext hEw22)).ext hEw23)).chg hCw24 (fun hs=>by have h:_=_:=hs;omega))).chg hCw25 (fun hs=>by have h:_=_:=hs;omega))).chg hCw26 (fun hs=>by have h:_=_:=hs;omega))
   have hK30:=((((((((((((hK8).book hBkw21)).ext hEw22)).ext hEw23)).chg hCw24 (fun hs=>by have h:_=_:=hs;omega))).chg hCw25 (fun hs=>by have h:_=_:=hs;omega))).chg hCw26 (fun hs=>by have h:_=_:=hs;omega))
   have hK31:=((((((((((((hK11).book hBkw21)).ext hEw22)).ext hEw23)).chg hCw24 (fun hs=>by have h:_=_:=hs;omega))).chg hCw25 (fun hs=>by have h:_=_:=hs;omega))).chg hCw26 (fun hs=>by have h:_=_:=hs;omega))
   have hK32:=((((((((((((hs1).book hBkw21)).ext hEw22)).ext hEw23)).chg hCw24 (fun k h1 h2 hs=>by have h:k=_:=hs;omega))).chg hCw25 (fun k h1 h2 hs=>by have h:k=_:=hs;omega))).chg hCw26 (fun k h1 h2 hs=>by have h:k=_:=hs;omega))
   have hK33:=((((((((((((hs2).book hBkw21)).ext hEw22)).ext hEw23)).chg hCw24 (fun k h1 h2 hs=>by have h:k=_:=hs;omega))).chg hCw25 (fun k h1 h2 hs=>by have h:k=_:=hs;omega))).chg hCw26 (fun k h1 h2 hs=>by have h:k=_:=hs;omega))
   have hX7:Ext w w26:=(Ext.own (Ext.own (Ext.own (((hEw.book hBkw21 (by omega)).trans hEw22).trans hEw23) hCw24 (by omega)) hCw25 (by omega)) hCw26 (by omega))
   exact zdC ((((((Kpt.refl _).ext hEw22).ext hEw23).blk hK25 hCw24).blk hBw24 hCw25).blk hK28 hCw26) (Chg.then (Chg.then (Chg.then (((Chg.refl _ _).trans hEw22.chg).trans hEw23.chg) hCw24 (fun k hk hs=>by have h:k=_:=hs;first |(left;omega)|(exfalso;omega)|(right;simp [h];done))) hCw25 (fun k hk hs=>by have h:k=_:=hs;first |(left;omega)|(exfalso;omega)|(right;simp [h];done))) hCw26 (fun k hk hs=>by have h:k=_:=hs;first |(left;omega)|(exfalso;omega)|(right;simp [h];done))) (⟨by rw [←zk4 (by omega)];exact ((hBw25).chg hCw26 (fun hs=>by have h:_=_:=hs;omega)),by have hz:=hBw26;rw [zk4 (by omega)] at hz;exact hz,hK29,hK30,hK31,((((hK26).chg hCw25 (fun hs=>by have h:_=_:=hs;omega))).chg hCw26 (fun hs=>by have h:_=_:=hs;omega)),hK32,hK33,hX7⟩)
  ·replace hc85:¬(k>0):=by have:=zae hc85;omega
   refine zf (zb (zn (zu (zb (zd (zc 1 [(104,(vP w8.heap.size 1))] (za (zj (some 105) (Instr.loadAt 36 (vP w8.heap.size 1)) (.slice (pA a3 0) n_t n_t) (zk (((hK13).book hBkw21).cell rfl)) ?_))))))))
   refine zc 1 [(106,(vI (num n k+idx b k)))] (za (zj (some 107) (Instr.indexAt 36 (.slice (pA a3 0) n_t n_t) (vI (num n k+idx b k))) (vP a3 (0+(num n k+idx b k)*280)) (zP (E:=77) (sz:=280) (by omega)) ?_))
   refine za (zj (some 108) (Instr.loadAt 77 (vP a3 (0+(num n k+idx b k)*280))) (vA (unC ((zam n b (set1 t b x y) (k-1)).getD (num n k+idx b k) Un.zero))) (zw (vs:=unC ((zam n b (set1 t b x y) (k-1)).getD (num n k+idx b k) Un.zero)) (((hmR).book hBkw21).at Un.zero (by omega)) (by rw [zQ];kernel_rfl)) ?_)
   refine za (zv 77 w16.heap.size 0 77 (vA (unC ((zam n b (set1 t b x y) (k-1)).getD (num n k+idx b k) Un.zero))) (unC (ndU n (zam n b (set1 t b x y) (k-1)) (k-1) (idx b (k-1)))) (unC ((zam n b (set1 t b x y) (k-1)).getD (num n k+idx b k) Un.zero)) ((hBe).book hBkw21) (by rw [zQ];kernel_rfl) (by first |(simp;done)|(simp;omega)) (za4 _) ?_)
   intro w27 hBw27 hCw27
   have hzw27:=hCw27.size
   rw [zm _ _ (by simp)] at hBw27
   exact zf (zp (zdC ((Kpt.refl _).blk ((hBe).book hBkw21) hCw27) (Chg.then (Chg.refl _ _) hCw27 (fun k hk hs=>by have h:k=_:=hs;first |(left;omega)|(exfalso;omega)|(right;simp [h];done))) (⟨by rw [show k+1-1=k-1 from by omega];exact ((((hR).book hBkw21)).chg hCw27 (fun hs=>by have h:_=_:=hs;omega)),by rw [show k+1-1=0 from by omega];have hz:=hBw27;rw [show k=0 from by omega] at hz;exact hz,((((hK4).book hBkw21)).chg hCw27 (fun hs=>by have h:_=_:=hs;omega)),((((hK8).book hBkw21)).chg hCw27 (fun hs=>by have h:_=_:=hs;omega)),((((hK11).book hBkw21)).chg hCw27 (fun hs=>by have h:_=_:=hs;omega)),((((hK13).book hBkw21)).chg hCw27 (fun hs=>by have h:_=_:=hs;omega)),((((hs1).book hBkw21)).chg hCw27 (fun k h1 h2 hs=>by have h:k=_:=hs;omega)),((((hs2).book hBkw21)).chg hCw27 (fun k h1 h2 hs=>by have h:k=_:=hs;omega)),(Ext.own (hEw.book hBkw21 (by omega)) hCw27 (by omega))⟩)))
 ·rintro D w28 hD ⟨hR,hBe,hK4,hK8,hK11,hK13,hs1,hs2,hEw⟩ hM
  have hzr:=hEw.size
  have hRl:=hR.lt;have hBel:=hBe.lt
  have hK4l:=hK4.lt
  have hK8l:=hK8.lt
  have hK11l:=hK11.lt
  have hK13l:=hK13.lt
  have hmR:=Ms.of_row hR zQ (len:=n_t) (by rw [zc5,zcz];omega) (by simp only [maxLen];omega)
  have hMl:=hM.lt
  refine zp (zb (ze (zd (za (zj (some 109) (Instr.loadAt 38 (vP w8.heap.size 0)) (vA [(.int .i64 ((n:Nat):Int)),(.slice (pA a3 0) n_t n_t)]) (zw (vs:= [(.int .i64 ((n:Nat):Int)),(.slice (pA a3 0) n_t n_t)]) (hK13.all)) ?_)))))
  refine zc 1 [(110,(vI (zaT (t.getD (b/4) Un.zero) (b%4))))] (za (zv 38 w3.heap.size 0 38 (vA [(.int .i64 ((n:Nat):Int)),(.slice (pA a3 0) n_t n_t)]) ([(vI 0),(.slice none 0 0)]) ([(.int .i64 ((n:Nat):Int)),(.slice (pA a3 0) n_t n_t)]) hK8 (by kernel_rfl) (by first | decide |(simp;done)|(simp;omega)) (by simp [Value.oneCell']) ?_))
  intro w29 hBw29 hCw29
  have hzw29:=hCw29.size
  rw [zm _ _ (by kernel_rfl)] at hBw29
  refine zc 2 [(10,(vI 0)),(9,(vI (zaT (t.getD (b/4) Un.zero) (b%4))))] (zf (zb (zq ?_)))
  obtain ⟨w30,hTw30,hCw30,hBkw30⟩:=zfH (P:=Tryz.prog) ((hM).chg hCw29 (fun hs=>by have h:_=_:=hs;omega))
  have hzw30:=hCw30.size
  refine zmW hTw30 (zhB (by kernel_rfl) (show zZ Tryz.prog 111 _ _ (.cell 8 38) (vA [(.int .i64 ((n:Nat):Int)),(.slice (pA a3 0) n_t n_t)]) from ⟨⟨w3.heap.size,0,none⟩,(by kernel_rfl),zN (T:=38) (vs:= [(.int .i64 ((n:Nat):Int)),(.slice (pA a3 0) n_t n_t)]) (((hBw29).book hBkw30)).all (by kernel_rfl)⟩) (show zZ Tryz.prog 111 _ _ (.tmp 9) (vI (zaT (t.getD (b/4) Un.zero) (b%4))) by (show _=_;kernel_rfl)) (show zZ Tryz.prog 111 _ _ (.tmp 10) (vI 0) by (show _=_;kernel_rfl))) ?_
  have hfin:=((((hmR).chg hCw29 (fun k h1 h2 hs=>by have h:k=_:=hs;omega))).book hBkw30)
  exact ⟨_,rfl,hfin.now.mono (by omega) (Nat.le_refl _),((Ext.own hEw hCw29 (by omega)).book hBkw30 (by omega))⟩
 ·intro D cc k w31 hD hk hx;exact hx.elim
end Go.Proofs.YtkmhgepdhilllaaGreatDoor
namespace Go.Proofs.YtkmhgepdhilllaaGreatDoor
open Go Go.RowKit Go.Cs
set_option maxRecDepth 100000
theorem zqw {lo_x hi_x:Nat} {a_x:Option Addr} {n_x c_x:Nat} {x:List (Nat×Nat)} (w:World) (h_x:Ms zg2 2 lo_x hi_x w a_x n_x c_x x):
  Calls Tryz.prog 68 #[(.slice a_x n_x c_x)] w (Ret fun r w'=>∃a0,r=(.slice a0 n_x n_x)∧Ms zg2 2 lo_x w'.heap.size w' a0 n_x n_x x∧w=w'):=by
 refine zI (n:=9) (σ:= [(0,(.slice a_x n_x c_x))]) Tryz.func68 rfl ?_
 replace h_x:=h_x.now;have hle_x:=h_x.le
 refine ze (zd (zc 1 [(2,(.slice none 0 0))] (zf (zb (ze (zd (zc 5 [(7,(vI n_x)),(6,(.slice a_x n_x c_x)),(5,(vI n_x)),(4,(.slice a_x n_x c_x)),(3,(.slice a_x n_x c_x))] ?_)))))))
 obtain ⟨a1,hR1,hS1⟩:=h_x.slice Tryz.prog 85 89 0 n_x n_x none (some (vI n_x)) (some (vI n_x))
 refine za (zj (some 8) (Instr.sliceAt 85 (.slice a_x n_x c_x) none (some (vI n_x)) (some (vI n_x))) (.slice a1 (n_x-0) (n_x-0)) (hR1 _) ?_)
 refine zc 1 [(2,(.slice a1 (n_x-0) (n_x-0)))] (zf (zb (zq (zr (.slice a1 (n_x-0) (n_x-0)) ?_))))
 have hfin:=hS1
 rw [List.drop_zero,Nat.sub_zero,show x.take n_x=x from by rw [h_x.len_eq,List.take_length]] at hfin
 exact ⟨_,rfl,hfin.mono (Nat.le_refl _) (by omega),rfl⟩
theorem zkt (n:Nat) {lo_t hi_t:Nat} {a_t:Option Addr} {n_t c_t:Nat} {t:List Un} (w:World) (h_t:Ms unC 280 lo_t hi_t w a_t n_t c_t t) (hp0:1≤n) (hp1:n≤4096) (hp2:n_t=tot n) (hp3:∀i,i<t.length→(t.getD i Un.zero).sl=0∨(t.getD i Un.zero).sl=1) (hp4:zbY n (zbz n t)=0) (hg0:Gl 0 [vI 45,vI 33] w) (hg1:Gl 1 (w8C za6) w) (hg2:Gl 3 (zar kA) w):
  Calls Tryz.prog 30 #[(vA [(vI n),(.slice a_t n_t c_t)])] w (Ret fun r w'=>∃a0,r=(.tuple #[(.slice a0 (List.length (zbv n t (tot n))) (List.length (zbv n t (tot n)))),(vI 0)])∧Ms zg2 2 w.heap.size w'.heap.size w' a0 (List.length (zbv n t (tot n))) (List.length (zbv n t (tot n))) (zbv n t (tot n))∧Ext w w'):=by
 refine zek (n:=41) (σ:= [(0,(vA [(vI n),(.slice a_t n_t c_t)]))]) Tryz.func30 rfl ?_
 replace h_t:=h_t.now;have hle_t:=h_t.le
 have hgl0:=hg0.lt
 have hgl1:=hg1.lt
 have hgl2:=hg2.lt
 have h5:=zat n
 have hlt:=h_t.len_eq
 have hts:=zaw hp1
 have hle:=h_t.le
 refine ze (zd (za (zo (some 1) (Instr.box 38 (vA [(vI n),(.slice a_t n_t c_t)])) (vP w.heap.size 0) ([(vI n),(.slice a_t n_t c_t)]) 38 ?_)))
 intro w1 hBw1 hEw1
 have hzw1:=hEw1.size;have hlw1:=hBw1.lt
 refine zc 2 [(3,(vI 0)),(2,(.slice none 0 0))] (zf (zb (ze (zd (za (zj (some 10) (Instr.loadAt 38 (vP w.heap.size 0)) (vA [(vI n),(.slice a_t n_t c_t)]) (zw (vs:= [(vI n),(.slice a_t n_t c_t)]) (hBw1.all)) ?_))))))
 refine za (zl (some 11) (zkc n _ (h_t.ext hEw1) (by omega) (by omega) (by omega) (by assumption) (hg0.ext hEw1) (hg1.ext hEw1) (hg2.ext hEw1)) ?_)
 rintro _ w2 ⟨a1,ca1,a2,ca2,rfl,hFz1_0,hFz1_1,hEw2⟩
 have hzw2:=hEw2.size
 have hlea1:=hFz1_0.le
 have hlea2:=hFz1_1.le
 rw [show zbY n (zbz n t)=0 from hp4]
 refine zc 3 [(13,(vI 0)),(12,(vA [(.slice a1 (hgt n+1) ca1),(.slice a2 (hgt n+1) ca2)])),(9,(.tuple #[(vA [(.slice a1 (hgt n+1) ca1),(.slice a2 (hgt n+1) ca2)]),(vI 0)]))] (za (zo (some 4) (Instr.alloc 114 true (.tuple #[])) (vP w2.heap.size 0) ([(.slice none 0 0),(.slice none 0 0)]) 114 ?_))
 intro w3 hBw3 hEw3
 have hzw3:=hEw3.size;have hlw3:=hBw3.lt
 refine za (zv 114 w2.heap.size 0 114 (vA [(.slice a1 (hgt n+1) ca1),(.slice a2 (hgt n+1) ca2)]) ([(.slice none 0 0),(.slice none 0 0)]) ([(.slice a1 (hgt n+1) ca1),(.slice a2 (hgt n+1) ca2)]) hBw3 (by kernel_rfl) (by first | decide |(simp;done)|(simp;omega)) (by simp [Value.oneCell']) ?_)
 intro w4 hBw4 hCw4
 have hzw4:=hCw4.size
 rw [zm _ _ (by kernel_rfl)] at hBw4
 refine zc 1 [(5,(vI 0))] (zf (zb (ze (ze (zd (zc 2 [(15,vF),(14,(vI 0))] (zf (zb (zn ?_)))))))))
 refine zu (zb (ze (zd (za (zo (some 6) (Instr.alloc 85 true (.tuple #[])) (vP w4.heap.size 0) ([(.slice none 0 0)]) 85 ?_)))))
 intro w5 hBw5 hEw5
 have hzw5:=hEw5.size;have hlw5:=hBw5.lt
 refine zf (zb (ze (ze (zd (za (zj (some 17) (Instr.loadAt 114 (vP w2.heap.size 0)) (vA [(.slice a1 (hgt n+1) ca1),(.slice a2 (hgt n+1) ca2)]) (zw (vs:= [(.slice a1 (hgt n+1) ca1),(.slice a2 (hgt n+1) ca2)]) ((hBw4.ext hEw5).all)) ?_))))))
 have hK1:=(((((hFz1_0.ext hEw3)).chg hCw4 (fun k h1 h2 hs=>by have h:k=_:=hs;omega))).ext hEw5)
 have hK2:=(((((hFz1_1.ext hEw3)).chg hCw4 (fun k h1 h2 hs=>by have h:k=_:=hs;omega))).ext hEw5)
 refine za (zl (some 18) (znp _ hK1 hK2) ?_)
 rintro _ w6 ⟨a3,rfl,hFz2_0,hFz2_1,hEw6⟩
 have hzw6:=hEw6.size
 have hla3:=hFz2_1.lt
 refine zf (zb (zy ?_))
 have hK3:=(((((((((hBw1.ext hEw2)).ext hEw3)).chg hCw4 (fun hs=>by have h:_=_:=hs;omega))).ext hEw5)).ext hEw6)
 have hX1:Ext w w6:=(((Ext.own ((hEw1.trans hEw2).trans hEw3) hCw4 (by omega)).trans hEw5).trans hEw6)
 refine zgD [19,20] 91 [(vP a3 0)] (tot n) (fun k=> [(vI (lvK n k)),(vI k)]) (fun b=>b=w4.heap.size) (fun b=>False) (fun k w'=>∃ao cp,w6.heap.size≤w'.heap.size∧OwM zg2 2 w6.heap.size w'.heap.size w' ao (List.length (zbv n t k)) cp 89 (zbv n t k)∧Blk w' w4.heap.size [.slice ao (List.length (zbv n t k)) cp] 85∧Blk w' w.heap.size ([(vI n),(.slice a_t n_t c_t)]) 38∧Blk w' w2.heap.size ([(.slice a1 (hgt n+1) ca1),(.slice a2 (hgt n+1) ca2)]) 114∧Es (nv .i64) w1.heap.size w2.heap.size w' a1 (hgt n+1) ca1 (zaI n (hgt n+1))∧Es (nv .i64) w1.heap.size w2.heap.size w' a2 (hgt n+1) ca2 (za0 n (hgt n+1))∧Ext w w') (fun cc k w'=>False) (fun b hb=>hb.elim) (fun _=>rfl) (fun k W W' ⟨a,cp,h0,h1,h2,h3,h4,h5,h6,h8⟩ hb=>⟨a,cp,Nat.le_trans h0 hb.size,(h1.book hb).mono (Nat.le_refl _) hb.size,h2.book hb,h3.book hb,h4.book hb,h5.book hb,h6.book hb,h8.book hb (by omega)⟩) (fun _ _ _ _ h _=>h) (fun k W W' ⟨a,cp,h0,h1,h2,h3,h4,h5,h6,h8⟩ hc=>⟨a,cp,Nat.le_trans h0 hc.size,(h1.ext hc).mono (Nat.le_refl _) hc.size,h2.ext hc,h3.ext hc,h4.ext hc,h5.ext hc,h6.ext hc,h8.trans hc⟩) (⟨none,0,Nat.le_refl _,OwM.nil _ _ _ _ _ _ zle,(hBw5.ext hEw6),hK3,(((hBw4.ext hEw5)).ext hEw6),(hK1.ext hEw6),(hK2.ext hEw6),hX1⟩) (fun lp J Jx wj hE1 hJ hY h0=>zoU n w6.heap.size lp (fun b=>b=w4.heap.size) J Jx wj hp0 hp1 (hFz2_1.ext hE1) ((hK1.ext hEw6).ext hE1) ((hK2.ext hEw6).ext hE1) (fun b hb=>⟨by omega,by omega,by omega⟩) hJ hY h0) ?_ ?_ ?_
 ·rintro lR k w7 hl ⟨ao,cp,hsz,hO,hB6,hQ1,hQ4,hs1,hs2,hEw⟩ hk
  have hzr:=hEw.size
  have hB6l:=hB6.lt
  have hmO:=hO.ms;have hleO:=hmO.le
  have hQ1l:=hQ1.lt
  have hQ4l:=hQ4.lt
  have hdl:=zme n t k
  obtain ⟨l,j,hl,hj,hlv,rfl⟩:=zkR hk
  rw [hlv]
  have hns:=zbJ (n:=n) (l:=l) hp1 (by omega)
  have hgf:gt (za0 n (hgt n+1)) l=num n l:=zci (by omega)
  have hkl:num n l+j<n_t:=by omega
  refine ze (zd (zc 1 [(7,(vI l))] (zf (zb (zd (zc 1 [(8,(vI (num n l+j)))] (zf (zkx (Kpt.refl _) (Chg.refl _ _) (fun w8 hBkw8=> ?_)))))))))
  have hzw8:=hBkw8.size
  refine zy (ze (zd (zc 1 [(21,(vP w.heap.size 1))] (za (zj (some 22) (Instr.loadAt 36 (vP w.heap.size 1)) (.slice a_t n_t c_t) (zk (((hQ1).book hBkw8).cell rfl)) ?_)))))
  refine zc 1 [(23,(vI (num n l+j)))] ?_
  obtain ⟨b1,o1,rfl⟩:=h_t.addr (by omega) (by decide)
  refine za (zj (some 24) (Instr.indexAt 36 (.slice (pA b1 o1) n_t c_t) (vI (num n l+j))) (vP b1 (o1+(num n l+j)*280)) (zP (E:=77) (sz:=280) (by omega)) ?_)
  refine zc 1 [(25,(vP b1 (o1+(num n l+j)*280+275)))] ?_
  rcases Bool.eq_false_or_eq_true ((t.getD (num n l+j) Un.zero).dt) with hb26 | hb26
  ·refine za (zj (some 26) (Instr.loadAt 4 (vP b1 (o1+(num n l+j)*280+275))) vT (zk (Eq.trans ((((h_t.ext hEw)).book hBkw8).cell (j:=275) Un.zero (by omega) (zdc _)) (congrArg (fun z=>some (Value.bool z)) hb26))) ?_)
   refine zf (zb (zC (zT (Chg (fun k=>w6.heap.size≤k) w8.drew) 13 [(28,64,0),(29,128,0),(30,256,0),(31,16,0),(32,1073741824,8),(33,128,0),(34,6442450944,48),(35,8589934592,64),(36,17716740096,132),(37,34628173824,258),(38,68719476736,512),(39,137573171200,1025),(0,274877907008,4095)] (fun hT119=> ?_))))
   have hEw9:Ext w8 w8.drew:=Ext.drew w8
   generalize w8.drew=w9 at hEw9⊢
   have hzw9:=hEw9.size
   have hX2:Chg (fun k=>w6.heap.size≤k) w9 w9:=(Chg.refl (fun k=>w6.heap.size≤k) w9)
   refine zg (hw:=hX2) hT119 0 1 (some 27) (.slice ao (List.length (zbv n t (num n l+j))) cp) (zi (Instr.loadAt 85 (vP w4.heap.size 0)) (fun w' hC=>zk ((((((hB6).book hBkw8)).ext hEw9).chg hC (fun hs=>by have h:_≤_:=hs;omega)).cell rfl))) (zh (hw:=hX2) hT119 [(1,28,(vI l)),(2,29,(vI (num n l+j))),(3,30,(vP w2.heap.size 1))] 3 15 (zg (hw:=hX2) hT119 4 31 (some 31) (.slice a2 (hgt n+1) ca2) (zi (Instr.loadAt 29 (vP w2.heap.size 1)) (fun w' hC=>zk ((((((hQ4).book hBkw8)).ext hEw9).chg hC (fun hs=>by have h:_≤_:=hs;omega)).cell rfl))) (zh (hw:=hX2) hT119 [(5,32,(vI l))] 1 63 ?_)))
   obtain ⟨b2,o2,rfl⟩:=hs2.addr (by omega)
   refine zg (hw:=hX2) hT119 6 127 (some 33) (vP b2 (o2+l*1)) (zi (Instr.indexAt 29 (.slice (pA b2 o2) (hgt n+1) ca2) (vI l)) (fun w' hC=>zP (E:=3) (sz:=1) (by omega))) (zg (hw:=hX2) hT119 7 255 (some 34) (vI (gt (za0 n (hgt n+1)) l)) (zi (Instr.loadAt 3 (vP b2 (o2+l*1))) (fun w' hC=>zk ((((((hs2).book hBkw8)).ext hEw9).chg hC (fun k h1 h2 hs=>by have h:_≤_:=hs;omega)).celln (by omega)))) (zg (hw:=hX2) hT119 8 511 (some 35) (vI j) (zaa .i64 (IntKind.i64.wrap (((num n l+j:Nat):Int)-((gt (za0 n (hgt n+1)) l:Nat):Int))) (zA (by omega) (by omega) (by omega))) (zh (hw:=hX2) hT119 [(9,36,(vA [(vI l),(vI j)]))] 1 1023 (zz 10 2047 (zo (some 37) (Instr.buildSlice 85 1 #[(0,(vA [(vI l),(vI j)]))]) (.slice (pA w9.heap.size 0) 1 1) [(vI l),(vI j)] 89 ?_)))))
   intro w10 hBw10 hEw10
   have hzw10:=hEw10.size;have hlw10:=hBw10.lt
   have hmw10:Ms zg2 2 w9.heap.size (w9.heap.size+1) w10 (pA w9.heap.size 0) 1 1 [(l,j)]:=Ms.of_pre (r:= []) (show Blk _ _ _ _ from hBw10) zle rfl (Nat.le_refl _) (by decide) (Nat.le_refl _) (Nat.lt_succ_self _)
   have hX3:Chg (fun k=>w6.heap.size≤k) w9 w10:=((Chg.refl (fun k=>w6.heap.size≤k) w9).trans hEw10.chg)
   refine ⟨.inr hX3, ?_⟩
   have hK4:=((((((hO).book hBkw8)).ext hEw9)).ext hEw10)
   refine zz 11 4095 (zbx (some 38) 85 85 89 16 (vA [(vI 0),(vI 0)]) hK4 hmw10 zpB ?_ rfl (by decide))
   intro a4 c1 w11 hOw11 hCw11
   have hzw11:=hCw11.size
   have hSw11:=hOw11.ms;have hlea4:=hSw11.le
   have hK5:=((((((hO).book hBkw8)).ext hEw9)).ext hEw10)
   have hX4:Chg (fun k=>w6.heap.size≤k) w9 w11:=(Chg.then ((Chg.refl (fun k=>w6.heap.size≤k) w9).trans hEw10.chg) hCw11 (fun k hk hs=>by have hn:=hK5.ne hs;show _≤_;omega))
   refine ⟨.inr hX4, ?_⟩
   have hK6:=((((((hO).book hBkw8)).ext hEw9)).ext hEw10)
   have hK7:=((((((((hB6).book hBkw8)).ext hEw9)).ext hEw10)).chg hCw11 (fun hs=>by have hn:=hK6.ne hs;omega))
   refine zz 12 8191 (zah 85 w4.heap.size 0 85 (.slice a4 ((List.length (zbv n t (num n l+j)))+1) c1) ([.slice ao (List.length (zbv n t (num n l+j))) cp]) hK7 (by first | decide |(simp;done)|(simp;omega)) ?_)
   have hK8:=((((((hO).book hBkw8)).ext hEw9)).ext hEw10)
   have hK9:=((((((((hB6).book hBkw8)).ext hEw9)).ext hEw10)).chg hCw11 (fun hs=>by have hn:=hK8.ne hs;omega))
   intro w12 hBw12 hCw12
   have hzw12:=hCw12.size
   replace hBw12:=hBw12.set1
   refine ⟨.inl (by kernel_rfl), ?_⟩
   refine zJ (zp ?_)
   have hK10:=((((((hO).book hBkw8)).ext hEw9)).ext hEw10)
   have hK11:=((((((((((hQ1).book hBkw8)).ext hEw9)).ext hEw10)).chg hCw11 (fun hs=>by have hn:=hK10.ne hs;omega))).chg hCw12 (fun hs=>by have h:_=_:=hs;omega))
   have hK12:=((((((hO).book hBkw8)).ext hEw9)).ext hEw10)
   have hK13:=((((((((((hQ4).book hBkw8)).ext hEw9)).ext hEw10)).chg hCw11 (fun hs=>by have hn:=hK12.ne hs;omega))).chg hCw12 (fun hs=>by have h:_=_:=hs;omega))
   have hK14:=((((((hO).book hBkw8)).ext hEw9)).ext hEw10)
   have hK15:=((((((((((hs1).book hBkw8)).ext hEw9)).ext hEw10)).chg hCw11 (fun k h1 h2 hs=>by have hn:=hK14.ne hs;omega))).chg hCw12 (fun k h1 h2 hs=>by have h:k=_:=hs;omega))
   have hK16:=((((((hO).book hBkw8)).ext hEw9)).ext hEw10)
   have hK17:=((((((((((hs2).book hBkw8)).ext hEw9)).ext hEw10)).chg hCw11 (fun k h1 h2 hs=>by have hn:=hK16.ne hs;omega))).chg hCw12 (fun k h1 h2 hs=>by have h:k=_:=hs;omega))
   have hK18:=((((((hO).book hBkw8)).ext hEw9)).ext hEw10)
   have hX5:Ext w w12:=(Ext.own (Ext.ownS (((hEw.book hBkw8 (by omega)).trans hEw9).trans hEw10) hCw11 (fun k hs hk=>by have hn:=hK18.ne hs;omega)) hCw12 (by omega))
   have hK19:=((((((hO).book hBkw8)).ext hEw9)).ext hEw10)
   exact zdC (((((Kpt.refl _).ext hEw9).ext hEw10).owm hK4 hCw11).blk hK9 hCw12) (Chg.then (Chg.then (((Chg.refl _ _).trans hEw9.chg).trans hEw10.chg) hCw11 (fun k hk hs=>by have hn:=hK19.ne hs;first |(left;omega)|(exfalso;omega))) hCw12 (fun k hk hs=>by have h:k=_:=hs;first |(left;omega)|(exfalso;omega)|(right;simp [h];done))) (by rw [zjT (show (t.getD (num n l+j) Un.zero).dt=true from hb26)];rw [hlv,Nat.add_sub_cancel_left,List.length_append,show [(l,j)].length=1 from rfl];exact ⟨_,_,by omega,(((hOw11).chg hCw12 (fun k h1 h2 hs=>by have h:k=_:=hs;omega))).now,hBw12,hK11,hK13,hK15,hK17,hX5⟩)
  ·refine za (zj (some 26) (Instr.loadAt 4 (vP b1 (o1+(num n l+j)*280+275))) vF (zk (Eq.trans ((((h_t.ext hEw)).book hBkw8).cell (j:=275) Un.zero (by omega) (zdc _)) (congrArg (fun z=>some (Value.bool z)) hb26))) ?_)
   exact zf (zb (zn (zu (zp (zdC (Kpt.refl _) (Chg.refl _ _) (by rw [zrS (show (t.getD (num n l+j) Un.zero).dt=false from hb26)];exact ⟨_,_,by omega,(((hO).book hBkw8)).now,((hB6).book hBkw8),((hQ1).book hBkw8),((hQ4).book hBkw8),((hs1).book hBkw8),((hs2).book hBkw8),(hEw.book hBkw8 (by omega))⟩))))))
 ·rintro D w13 hD ⟨ao,cp,hsz,hO,hB6,hQ1,hQ4,hs1,hs2,hEw⟩ hM
  have hzr:=hEw.size
  have hB6l:=hB6.lt
  have hmO:=hO.ms;have hleO:=hmO.le
  have hQ1l:=hQ1.lt
  have hQ4l:=hQ4.lt
  have hMl:=hM.lt
  refine zp (zb (ze (zd (za (zj (some 39) (Instr.loadAt 85 (vP w4.heap.size 0)) (.slice ao (List.length (zbv n t (tot n))) cp) (zk (hB6.cell rfl)) ?_)))))
  refine za (zl (some 40) (zqw _ hmO) ?_)
  rintro _ _ ⟨a5,rfl,hFz3_0,rfl⟩
  have hlea5:=hFz3_0.le
  refine zc 2 [(3,(vI 0)),(2,(.slice a5 (List.length (zbv n t (tot n))) (List.length (zbv n t (tot n)))))] (zf (zb (zq ?_)))
  obtain ⟨w14,hTw14,hCw14,hBkw14⟩:=zfH (P:=Tryz.prog) hM
  have hzw14:=hCw14.size
  exact zmv hTw14 (.tuple #[(.slice a5 (List.length (zbv n t (tot n))) (List.length (zbv n t (tot n)))),(vI 0)]) (⟨_,rfl,(((hFz3_0).book hBkw14)).now.mono (by omega) (Nat.le_refl _),(hEw.book hBkw14 (by omega))⟩)
 ·intro D cc k w15 hD hk hx;exact hx.elim
end Go.Proofs.YtkmhgepdhilllaaGreatDoor
namespace Go.Proofs.YtkmhgepdhilllaaGreatDoor
open Go Go.RowKit Go.Cs
set_option maxRecDepth 100000
theorem zd3 (n:Nat) {lo_t hi_t:Nat} {a_t:Option Addr} {n_t c_t:Nat} {t:List Un} (w:World) (h_t:Ms unC 280 lo_t hi_t w a_t n_t c_t t) (hp0:1≤n) (hp1:n≤4096) (hp2:n_t=tot n) (hp3:∀i,i<t.length→(t.getD i Un.zero).sl=0∨(t.getD i Un.zero).sl=1) (hp4:zbY n (zbz n t)=0) (hg0:Gl 0 [vI 45,vI 33] w) (hg1:Gl 1 (w8C za6) w) (hg2:Gl 3 (zar kA) w):
  Calls Tryz.prog 17 #[(vA [(vI n),(.slice a_t n_t c_t)])] w (Ret fun r w'=>∃a1,r=(.tuple #[(vA [(vI n),(.slice a1 n_t n_t)]),(vI 0)])∧Ms unC 280 w.heap.size w'.heap.size w' a1 n_t n_t (zba n_t t)∧Ext w w'):=by
 refine zI (n:=46) (σ:= [(0,(vA [(vI n),(.slice a_t n_t c_t)]))]) Tryz.func17 rfl ?_
 replace h_t:=h_t.now;have hle_t:=h_t.le
 have hgl0:=hg0.lt
 have hgl1:=hg1.lt
 have hgl2:=hg2.lt
 have h5:=zat n
 have hlt:=h_t.len_eq
 have hts:=zaw hp1
 have hle:=h_t.le
 have htt:=zcC hp0 hp1
 have hce:zeX (n:Int) t=0:=by rw [zhJ hp0 hp1 (by omega) (zeg.2 hp3)];exact hp4
 refine ze (zd (za (zo (some 1) (Instr.box 38 (vA [(vI n),(.slice a_t n_t c_t)])) (vP w.heap.size 0) ([(vI n),(.slice a_t n_t c_t)]) 38 ?_)))
 intro w1 hBw1 hEw1
 have hzw1:=hEw1.size;have hlw1:=hBw1.lt
 refine za (zo (some 2) (Instr.alloc 38 true (.tuple #[])) (vP w1.heap.size 0) ([(vI 0),(.slice none 0 0)]) 38 ?_)
 intro w2 hBw2 hEw2
 have hzw2:=hEw2.size;have hlw2:=hBw2.lt
 refine zc 1 [(3,(vI 0))] (zf (zb (ze (ze (zd (za (zj (some 9) (Instr.loadAt 38 (vP w.heap.size 0)) (vA [(vI n),(.slice a_t n_t c_t)]) (zw (vs:= [(vI n),(.slice a_t n_t c_t)]) ((hBw1.ext hEw2).all)) ?_)))))))
 refine za (zl (some 10) (zkN ((n:Nat):Int) _ (((h_t.ext hEw1)).ext hEw2) (((hg0.ext hEw1)).ext hEw2) (((hg1.ext hEw1)).ext hEw2) (((hg2.ext hEw1)).ext hEw2)) ?_)
 rintro _ w3 ⟨rfl,hEw3⟩
 have hzw3:=hEw3.size
 rw [show zeX ((n:Nat):Int) t=0 from hce]
 refine zc 1 [(4,(vI 0))] (zf (zb (ze (zd (zc 1 [(11,(vI 0))] (za (zai (some 12) (((0:Nat):Int) !=((0:Nat):Int)) false (zaA (by omega)) ?_)))))))
 refine zf (zb (zn (zu (zb (ze (zd (za (zj (some 15) (Instr.loadAt 38 (vP w.heap.size 0)) (vA [(vI n),(.slice a_t n_t c_t)]) (zw (vs:= [(vI n),(.slice a_t n_t c_t)]) ((((hBw1.ext hEw2)).ext hEw3).all)) ?_))))))))
 have hK1:=(((((h_t.ext hEw1)).ext hEw2)).ext hEw3)
 refine za (zl (some 16) (znR ((n:Nat):Int) _ hK1 (by omega) (by omega)) ?_)
 rintro _ w4 ⟨a1,rfl,hFz2_0,hFz2_1,hFz2_2,hFz2_3,hEw4⟩
 have hzw4:=hEw4.size
 have hla1:=hFz2_1.lt;have hma1:=Ms.of_row hFz2_1 zQ (len:=n_t) hFz2_2 hFz2_3
 refine za (zo (some 5) (Instr.alloc 38 true (.tuple #[])) (vP w4.heap.size 0) ([(vI 0),(.slice none 0 0)]) 38 ?_)
 intro w5 hBw5 hEw5
 have hzw5:=hEw5.size;have hlw5:=hBw5.lt
 refine za (zv 38 w4.heap.size 0 38 (vA [(.int .i64 ((n:Nat):Int)),(.slice (pA a1 0) n_t n_t)]) ([(vI 0),(.slice none 0 0)]) ([(.int .i64 ((n:Nat):Int)),(.slice (pA a1 0) n_t n_t)]) hBw5 (by kernel_rfl) (by first | decide |(simp;done)|(simp;omega)) (by simp [Value.oneCell']) ?_)
 intro w6 hBw6 hCw6
 have hzw6:=hCw6.size
 rw [zm _ _ (by kernel_rfl)] at hBw6
 refine zf (zb (ze (ze (zd (zc 1 [(17,(vP w4.heap.size 1))] (za (zj (some 18) (Instr.loadAt 36 (vP w4.heap.size 1)) (.slice (pA a1 0) n_t n_t) (zk (hBw6.cell rfl)) ?_)))))))
 refine zc 2 [(20,(vI 0)),(19,(vI n_t))] (zf (zb (zy ?_)))
 have hK2:=(((((((hBw2.ext hEw3)).ext hEw4)).ext hEw5)).chg hCw6 (fun hs=>by have h:_=_:=hs;omega))
 have hX1:Ext w w6:=(Ext.own ((((hEw1.trans hEw2).trans hEw3).trans hEw4).trans hEw5) hCw6 (by omega))
 refine zY (X:=Nat) (fun k=> [(20,(vI k))]) [6,7,8,21,22,23,24,25,26,27,28,29,30,31,32,33,34,35,36,37,38,39,40,41,42,43,44] (fun k w7=>k≤n_t∧Blk w7 a1 ((zaR n_t (zbt n_t t) (fun i=>t.getD i Un.zero) k).flatMap unC) 77∧Blk w7 w1.heap.size ([(vI 0),(.slice none 0 0)]) 38∧Blk w7 w4.heap.size ([(.int .i64 ((n:Nat):Int)),(.slice (pA a1 0) n_t n_t)]) 38∧Ext w w7) (fun k=>n_t-k) 0 (by kernel_rfl) ⟨Nat.zero_le _,by rw [zn9 Un.zero (by omega)];exact (((hFz2_1.ext hEw5)).chg hCw6 (fun hs=>by have h:_=_:=hs;omega)),hK2,hBw6,hX1⟩ ?_
 rintro k dw7 w7 ⟨hk,hR,hQ2,hQ5,hEl⟩
 have hzl:=hEl.size;have hRl:=hR.lt
 have hmR:=Ms.of_row hR zQ (len:=n_t) zbN.symm (by simp only [maxLen];omega)
 have hQ2l:=hQ2.lt
 have hQ5l:=hQ5.lt
 refine ze (zd (za (zK (some 21) (decide (((k:Nat):Int)<((n_t:Nat):Int))) (fun hc21=> ?_) (fun hc21=> ?_))))
 ·replace hc21:k<n_t:=by have:=zaf hc21;omega
  have hs0:=hp3 k (by omega)
  refine zf (zb (ze (zC (zu (zb (ze (zy (ze (zd ?_)))))))))
  refine zc 1 [(22,(vI k))] (za (zj (some 23) (Instr.indexAt 36 (.slice (pA a1 0) n_t n_t) (vI k)) (vP a1 (0+k*280)) (zP (E:=77) (sz:=280) (by omega)) ?_))
  refine za (zj (some 24) (Instr.loadAt 77 (vP a1 (0+k*280))) (vA (unC (t.getD k Un.zero))) (zw (vs:=unC (t.getD k Un.zero)) (by have hz:=hmR.at Un.zero (i:=k) (by omega);rw [zp0 Un.zero (by omega) (Nat.le_refl _)] at hz;exact hz) (by rw [zQ];kernel_rfl)) ?_)
  refine za (zo (some 7) (Instr.alloc 77 true (.tuple #[])) (vP w7.heap.size 0) (unC Un.zero) 77 ?_)
  intro w8 hBw8 hEw8
  have hzw8:=hEw8.size;have hlw8:=hBw8.lt
  refine zc 1 [(6,(vI k))] (za (zv 77 w7.heap.size 0 77 (vA (unC (t.getD k Un.zero))) (unC Un.zero) (unC (t.getD k Un.zero)) hBw8 (by rw [zQ];kernel_rfl) (by first |(simp;done)|(simp;omega)) (za4 _) ?_))
  intro w9 hBw9 hCw9
  have hzw9:=hCw9.size
  rw [zm _ _ (by simp)] at hBw9
  refine zf (zb (ze (zd (za (zj (some 25) (Instr.loadAt 77 (vP w7.heap.size 0)) (vA (unC (t.getD k Un.zero))) (zw (vs:=unC (t.getD k Un.zero)) (hBw9.all) (by rw [zQ];kernel_rfl)) ?_)))))
  refine za (zl (some 26) (zmc (t.getD k Un.zero) _ (by assumption)) ?_)
  rintro _ w10 ⟨rfl,hEw10⟩
  have hzw10:=hEw10.size
  refine zc 1 [(8,(.int .i64 (slU (t.getD k Un.zero))))] (zf (zb (ze (ze (zd (zc 2 [(28,(vP w4.heap.size 1)),(27,(vI k))] ?_))))))
  have hK3:=(((((hQ5.ext hEw8)).chg hCw9 (fun hs=>by have h:_=_:=hs;omega))).ext hEw10)
  refine za (zj (some 29) (Instr.loadAt 36 (vP w4.heap.size 1)) (.slice (pA a1 0) n_t n_t) (zk (hK3.cell rfl)) ?_)
  refine zc 1 [(30,(vI n_t))] (za (zt (some 31) .i64 (IntKind.i64.wrap (((n_t:Nat):Int)-((1:Nat):Int))) (n_t-1) (zA (by omega) (by omega) (by omega)) ?_))
  refine za (zK (some 32) ((((k:Nat):Int)==((n_t-1:Nat):Int))) (fun hc32=> ?_) (fun hc32=> ?_))
  ·replace hc32:k=n_t-1:=by have:=zbp hc32;omega
   refine zf (zb (zC (zd (zc 1 [(33,(vP w7.heap.size 274))] (za (zj (some 34) (Instr.loadAt 3 (vP w7.heap.size 274)) (.int .i64 ((t.getD k Un.zero).sl)) (zk ((hBw9.ext hEw10).cell (zbk _))) ?_))))))
   refine za (zhp (some 35) .i64 (IntKind.i64.wrap (((1:Nat):Int)-((t.getD k Un.zero).sl))) (1-(t.getD k Un.zero).sl) (zA rfl (by omega) (by omega)) ?_)
   refine zc 1 [(8,(.int .i64 (1-(t.getD k Un.zero).sl)))] (zf (zb (zd (zc 1 [(36,(vP w4.heap.size 1))] (za (zj (some 37) (Instr.loadAt 36 (vP w4.heap.size 1)) (.slice (pA a1 0) n_t n_t) (zk (hK3.cell rfl)) ?_))))))
   refine zc 2 [(39,(vP w7.heap.size 0)),(38,(vI k))] (za (zj (some 40) (Instr.loadAt 74 (vP w7.heap.size 0)) (vA (zH (t.getD k Un.zero).nd)) (zw (vs:=zH (t.getD k Un.zero).nd) ((hBw9.ext hEw10).at 0 (zH (t.getD k Un.zero).nd) (zdw _)) (by rw [zV];kernel_rfl)) ?_))
   refine zc 1 [(41,(.int .i64 (1-(t.getD k Un.zero).sl)))] (za (zj (some 42) (Instr.build 77 #[(0,(vA (zH (t.getD k Un.zero).nd))),(1,(.int .i64 (1-(t.getD k Un.zero).sl)))]) (vA (unC (zbt n_t t k))) ((zeq ((t.getD k Un.zero).nd) (1-(t.getD k Un.zero).sl)).trans (congrArg (fun z:Un=>Result.ok (Value.agg (unC z).toArray) _) (show (⟨((t.getD k Un.zero).nd),1-(t.getD k Un.zero).sl,false,List.replicate 4 false,rfl⟩:Un)=zbt n_t t k from by unfold zbt;first | rw [if_pos (by omega)] | rw [if_neg (by omega)]))) ?_))
   refine za (zj (some 43) (Instr.indexAt 36 (.slice (pA a1 0) n_t n_t) (vI k)) (vP a1 (0+k*280)) (zP (E:=77) (sz:=280) (by omega)) ?_)
   have hK4:=(((((hR.ext hEw8)).chg hCw9 (fun hs=>by have h:_=_:=hs;omega))).ext hEw10)
   refine za (zv 77 a1 (0+k*280) 77 (vA (unC (zbt n_t t k))) ((zaR n_t (zbt n_t t) (fun i=>t.getD i Un.zero) k).flatMap unC) (unC (zbt n_t t k)) hK4 (by rw [zQ];kernel_rfl) (by rw [zaz zQ];(try simp only [List.length_cons,List.length_nil,List.length_set]);have:=(show List.length (zaR n_t (zbt n_t t) (fun i=>t.getD i Un.zero) k)=n_t from zbN);have hln:=zQ (zbt n_t t k);omega) (za4 _) ?_)
   have hK5:=(((((hR.ext hEw8)).chg hCw9 (fun hs=>by have h:_=_:=hs;omega))).ext hEw10)
   intro w11 hBw11 hCw11
   have hzw11:=hCw11.size
   rw [show (zac ((zaR n_t (zbt n_t t) (fun i=>t.getD i Un.zero) k).flatMap unC) (0+k*280) (unC (zbt n_t t k)):List Value)=(zaR n_t (zbt n_t t) (fun i=>t.getD i Un.zero) (k+1)).flatMap unC from (zca zQ _ _ _ (by have hq:List.length (zaR n_t (zbt n_t t) (fun i=>t.getD i Un.zero) k)=n_t:=zbN;omega)).trans (congrArg (fun z=>List.flatMap unC z) (show ((zaR n_t (zbt n_t t) (fun i=>t.getD i Un.zero) k).set k (zbt n_t t k))=(zaR n_t (zbt n_t t) (fun i=>t.getD i Un.zero) (k+1)) from zgt (by omega)))] at hBw11
   have hmw11:Ms unC 280 a1 (a1+1) w11 (pA a1 0) n_t n_t (zaR n_t (zbt n_t t) (fun i=>t.getD i Un.zero) (k+1)):=Ms.of_pre (r:= []) (by rw [List.append_nil];exact hBw11) zQ (by have hq:List.length (zaR n_t (zbt n_t t) (fun i=>t.getD i Un.zero) (k+1))=n_t:=zbN;omega) (by omega) (by simp only [maxLen];omega) (by omega) (by omega)
   refine zf (zp (zb (zd (za (zt (some 44) .i64 (IntKind.i64.wrap (((k:Nat):Int)+((1:Nat):Int))) (k+1) (zA (by omega) (by omega) (by omega)) ?_)))))
   refine zc 1 [(20,(vI (k+1)))] (zf (zF ?_))
   have hK6:=(((((((hQ2.ext hEw8)).chg hCw9 (fun hs=>by have h:_=_:=hs;omega))).ext hEw10)).chg hCw11 (fun hs=>by have h:_=_:=hs;omega))
   have hX2:Ext w w11:=(Ext.own ((Ext.own (hEl.trans hEw8) hCw9 (by omega)).trans hEw10) hCw11 (by omega))
   refine zR (k+1) ?_ ?_
   ·exact ⟨by omega,hBw11,hK6,((hK3).chg hCw11 (fun hs=>by have h:_=_:=hs;omega)),hX2⟩
   ·first | omega |(dsimp only;omega)
  ·replace hc32:¬(k=n_t-1):=by have:=zbo hc32;omega
   refine zf (zb (zn (zu (zb (zd (zc 1 [(36,(vP w4.heap.size 1))] (za (zj (some 37) (Instr.loadAt 36 (vP w4.heap.size 1)) (.slice (pA a1 0) n_t n_t) (zk (hK3.cell rfl)) ?_))))))))
   refine zc 2 [(39,(vP w7.heap.size 0)),(38,(vI k))] (za (zj (some 40) (Instr.loadAt 74 (vP w7.heap.size 0)) (vA (zH (t.getD k Un.zero).nd)) (zw (vs:=zH (t.getD k Un.zero).nd) ((hBw9.ext hEw10).at 0 (zH (t.getD k Un.zero).nd) (zdw _)) (by rw [zV];kernel_rfl)) ?_))
   refine zc 1 [(41,(.int .i64 (slU (t.getD k Un.zero))))] (za (zj (some 42) (Instr.build 77 #[(0,(vA (zH (t.getD k Un.zero).nd))),(1,(.int .i64 (slU (t.getD k Un.zero))))]) (vA (unC (zbt n_t t k))) ((zeq ((t.getD k Un.zero).nd) (slU (t.getD k Un.zero))).trans (congrArg (fun z:Un=>Result.ok (Value.agg (unC z).toArray) _) (show (⟨((t.getD k Un.zero).nd),slU (t.getD k Un.zero),false,List.replicate 4 false,rfl⟩:Un)=zbt n_t t k from by unfold zbt;first | rw [if_pos (by omega)] | rw [if_neg (by omega)]))) ?_))
   refine za (zj (some 43) (Instr.indexAt 36 (.slice (pA a1 0) n_t n_t) (vI k)) (vP a1 (0+k*280)) (zP (E:=77) (sz:=280) (by omega)) ?_)
   have hK7:=(((((hR.ext hEw8)).chg hCw9 (fun hs=>by have h:_=_:=hs;omega))).ext hEw10)
   refine za (zv 77 a1 (0+k*280) 77 (vA (unC (zbt n_t t k))) ((zaR n_t (zbt n_t t) (fun i=>t.getD i Un.zero) k).flatMap unC) (unC (zbt n_t t k)) hK7 (by rw [zQ];kernel_rfl) (by rw [zaz zQ];(try simp only [List.length_cons,List.length_nil,List.length_set]);have:=(show List.length (zaR n_t (zbt n_t t) (fun i=>t.getD i Un.zero) k)=n_t from zbN);have hln:=zQ (zbt n_t t k);omega) (za4 _) ?_)
   have hK8:=(((((hR.ext hEw8)).chg hCw9 (fun hs=>by have h:_=_:=hs;omega))).ext hEw10)
   intro w12 hBw12 hCw12
   have hzw12:=hCw12.size
   rw [show (zac ((zaR n_t (zbt n_t t) (fun i=>t.getD i Un.zero) k).flatMap unC) (0+k*280) (unC (zbt n_t t k)):List Value)=(zaR n_t (zbt n_t t) (fun i=>t.getD i Un.zero) (k+1)).flatMap unC from (zca zQ _ _ _ (by have hq:List.length (zaR n_t (zbt n_t t) (fun i=>t.getD i Un.zero) k)=n_t:=zbN;omega)).trans (congrArg (fun z=>List.flatMap unC z) (show ((zaR n_t (zbt n_t t) (fun i=>t.getD i Un.zero) k).set k (zbt n_t t k))=(zaR n_t (zbt n_t t) (fun i=>t.getD i Un.zero) (k+1)) from zgt (by omega)))] at hBw12
   have hmw12:Ms unC 280 a1 (a1+1) w12 (pA a1 0) n_t n_t (zaR n_t (zbt n_t t) (fun i=>t.getD i Un.zero) (k+1)):=Ms.of_pre (r:= []) (by rw [List.append_nil];exact hBw12) zQ (by have hq:List.length (zaR n_t (zbt n_t t) (fun i=>t.getD i Un.zero) (k+1))=n_t:=zbN;omega) (by omega) (by simp only [maxLen];omega) (by omega) (by omega)
   refine zf (zp (zb (zd (za (zt (some 44) .i64 (IntKind.i64.wrap (((k:Nat):Int)+((1:Nat):Int))) (k+1) (zA (by omega) (by omega) (by omega)) ?_)))))
   refine zc 1 [(20,(vI (k+1)))] (zf (zF ?_))
   have hK9:=(((((((hQ2.ext hEw8)).chg hCw9 (fun hs=>by have h:_=_:=hs;omega))).ext hEw10)).chg hCw12 (fun hs=>by have h:_=_:=hs;omega))
   have hX3:Ext w w12:=(Ext.own ((Ext.own (hEl.trans hEw8) hCw9 (by omega)).trans hEw10) hCw12 (by omega))
   refine zR (k+1) ?_ ?_
   ·exact ⟨by omega,hBw12,hK9,((hK3).chg hCw12 (fun hs=>by have h:_=_:=hs;omega)),hX3⟩
   ·first | omega |(dsimp only;omega)
 ·replace hc21:¬(k<n_t):=by have:=zae hc21;omega
  obtain rfl:k=n_t:=by omega
  refine zf (zb (ze (zn (zW (zx (zx (zL (zb (ze ?_)))))))))
  refine zd (za (zj (some 45) (Instr.loadAt 38 (vP w4.heap.size 0)) (vA [(.int .i64 ((n:Nat):Int)),(.slice (pA a1 0) k k)]) (zw (vs:= [(.int .i64 ((n:Nat):Int)),(.slice (pA a1 0) k k)]) (hQ5.all)) ?_))
  refine za (zv 38 w1.heap.size 0 38 (vA [(.int .i64 ((n:Nat):Int)),(.slice (pA a1 0) k k)]) ([(vI 0),(.slice none 0 0)]) ([(.int .i64 ((n:Nat):Int)),(.slice (pA a1 0) k k)]) hQ2 (by kernel_rfl) (by first | decide |(simp;done)|(simp;omega)) (by simp [Value.oneCell']) ?_)
  intro w13 hBw13 hCw13
  have hzw13:=hCw13.size
  rw [zm _ _ (by kernel_rfl)] at hBw13
  refine zc 1 [(3,(vI 0))] (zf (zb (zq (zaX (show zZ Tryz.prog 46 _ _ (.cell 2 38) (vA [(.int .i64 ((n:Nat):Int)),(.slice (pA a1 0) k k)]) from ⟨⟨w1.heap.size,0,none⟩,(by kernel_rfl),zN (T:=38) (vs:= [(.int .i64 ((n:Nat):Int)),(.slice (pA a1 0) k k)]) (hBw13).all (by kernel_rfl)⟩) (show zZ Tryz.prog 46 _ _ (.tmp 3) (vI 0) by (show _=_;kernel_rfl)) ?_))))
  have hfin:=((hmR).chg hCw13 (fun k h1 h2 hs=>by have h:k=_:=hs;omega))
  rw [zgV] at hfin
  exact ⟨_,rfl,hfin.now.mono (by omega) (Nat.le_refl _),(Ext.own hEl hCw13 (by omega))⟩
end Go.Proofs.YtkmhgepdhilllaaGreatDoor
namespace Go.Proofs.YtkmhgepdhilllaaGreatDoor
open Go Go.RowKit Go.Cs
set_option maxRecDepth 100000
theorem zsl (x:Int) (w:World) (hp0:x=0∨x=1):
  Calls Tryz.prog 46 #[(.int .i64 x)] w (Ret fun r w'=>r=vF∧Ext w w'):=by
 refine zI (n:=9) (σ:= [(0,(.int .i64 x))]) Tryz.func46 rfl ?_
 refine ze (zd (zc 1 [(2,vF)] (zf (zb (ze (zd (zc 1 [(3,(.int .i64 x))] (za (zK (some 4) ((x !=((0:Nat):Int))) (fun hc4=> ?_) (fun hc4=> ?_))))))))))
 ·replace hc4:¬(x=((0:Nat):Int)):=by have:=zbE hc4;omega
  refine zc 2 [(6,(.int .i64 x)),(5,vT)] (za (zai (some 7) (x !=((1:Nat):Int)) false (zaA (by omega)) ?_))
  exact zc 2 [(2,vF),(8,vF)] (zf (zb (zq (zr vF (⟨rfl,(Ext.refl _)⟩)))))
 ·replace hc4:x=((0:Nat):Int):=by have:=zbG hc4;omega
  exact zc 5 [(2,vF),(8,vF),(7,undef),(6,undef),(5,vF)] (zf (zb (zq (zr vF (⟨rfl,(Ext.refl _)⟩)))))
theorem zqn {lo_z hi_z:Nat} {a_z:Option Addr} {n_z c_z:Nat} {z:List Int} (w:World) (h_z:Es (iv .i64) lo_z hi_z w a_z n_z c_z z) (hp0:∀i,z.getD i 0=0∨z.getD i 0=1):
  Calls Tryz.prog 72 #[(.slice a_z n_z c_z),(.func (.func 46) #[] #[])] w (Ret fun r w'=>r=(.int .i64 (-1))∧Ext w w'):=by
 refine zI (n:=19) (σ:= [(0,(.slice a_z n_z c_z)),(1,(.func (.func 46) #[] #[]))]) Tryz.func72 rfl ?_
 replace h_z:=h_z.now;have hle_z:=h_z.le
 have hlz:=h_z.len_eq
 refine ze (zd (zc 1 [(4,(vI 0))] (zf (zb (ze (ze (zd (zc 3 [(8,(vI 0)),(7,(vI n_z)),(6,(.slice a_z n_z c_z))] (zf ?_)))))))))
 refine zb (zy (zY (X:=Nat) (fun k=> [(8,(vI k))]) [4,5,9,10,11,12,13,14,15,16,17,18] (fun k w1=>k≤n_z∧Ext w w1) (fun k=>n_z-k) 0 (by kernel_rfl) ⟨Nat.zero_le _,(Ext.refl _)⟩ ?_))
 rintro k dw1 w1 ⟨hk,hEl⟩
 have hzl:=hEl.size
 refine ze (zd (za (zK (some 9) (decide (((k:Nat):Int)<((n_z:Nat):Int))) (fun hc9=> ?_) (fun hc9=> ?_))))
 ·replace hc9:k<n_z:=by have:=zaf hc9;omega
  refine zf (zb (ze (zC (zu (zb (ze (zy (ze (zd ?_)))))))))
  refine zc 2 [(5,(vI k)),(10,(vI k))] (zf (zb (ze (zd (zc 3 [(13,(vI k)),(12,(.slice a_z n_z c_z)),(11,(.func (.func 46) #[] #[]))] ?_)))))
  obtain ⟨b1,o1,rfl⟩:=h_z.addr (by omega)
  refine za (zj (some 14) (Instr.indexAt 29 (.slice (pA b1 o1) n_z c_z) (vI k)) (vP b1 (o1+k*1)) (zP (E:=3) (sz:=1) (by omega)) ?_)
  refine za (zj (some 15) (Instr.loadAt 3 (vP b1 (o1+k*1))) (.int .i64 (gz z k)) (zk ((h_z.ext hEl).celli (by omega))) ?_)
  refine za (zl (some 16) (zsl (gz z k) _ (hp0 k)) ?_)
  rintro _ w2 ⟨rfl,hEw2⟩
  have hzw2:=hEw2.size
  refine zf (zb (zn (zu (zp (zb (zd (za (zt (some 18) .i64 (IntKind.i64.wrap (((k:Nat):Int)+((1:Nat):Int))) (k+1) (zA (by omega) (by omega) (by omega)) ?_))))))))
  refine zc 1 [(8,(vI (k+1)))] (zf (zF (zR (k+1) ?_ ?_)))
  ·exact ⟨by omega,(hEl.trans hEw2)⟩
  ·first | omega |(dsimp only;omega)
 ·replace hc9:¬(k<n_z):=by have:=zae hc9;omega
  refine zf (zb (ze (zn (zW (zx (zx (zL (zb (ze ?_)))))))))
  exact zd (zc 1 [(4,(.int .i64 (-1)))] (zf (zb (zq (zr (.int .i64 (-1)) (⟨rfl,hEl⟩))))))
theorem zq3 {lo_z hi_z:Nat} {a_z:Option Addr} {n_z c_z:Nat} {z:List Int} (w:World) (h_z:Es (iv .i64) lo_z hi_z w a_z n_z c_z z) (hp0:∀i,z.getD i 0=0∨z.getD i 0=1):
  Calls Tryz.prog 45 #[(.slice a_z n_z c_z),(.func (.func 46) #[] #[])] w (Ret fun r w'=>r=vF∧Ext w w'):=by
 refine zI (n:=9) (σ:= [(0,(.slice a_z n_z c_z)),(1,(.func (.func 46) #[] #[]))]) Tryz.func45 rfl ?_
 replace h_z:=h_z.now;have hle_z:=h_z.le
 refine ze (zd (zc 1 [(4,vF)] (zf (zb (ze (zd (zc 2 [(6,(.func (.func 46) #[] #[])),(5,(.slice a_z n_z c_z))] (za (zl (some 7) (zqn _ h_z (by assumption)) ?_)))))))))
 rintro _ w1 ⟨rfl,hEw1⟩
 have hzw1:=hEw1.size
 refine za (zai (some 8) (decide (-1≥((0:Nat):Int))) false (zcu (by omega)) ?_)
 exact zc 1 [(4,vF)] (zf (zb (zq (zr vF (⟨rfl,hEw1⟩)))))
theorem ztP (n:Nat) {lo_t hi_t:Nat} {a_t:Option Addr} {n_t c_t:Nat} {t:List Nod} {lo_z hi_z:Nat} {a_z:Option Addr} {n_z c_z:Nat} {z:List Int} (w:World) (h_t:Ms zH 274 lo_t hi_t w a_t n_t c_t t) (h_z:Es (iv .i64) lo_z hi_z w a_z n_z c_z z) (hp0:1≤n) (hp1:n≤4096) (hp2:n_t=tot n) (hp3:zct n t=0) (hp4:n_z=n_t) (hp5:∀i,z.getD i 0=0∨z.getD i 0=1) (hp6:zeX ((n:Nat):Int) (ofT n_t t z)=0) (hg0:Gl 0 [vI 45,vI 33] w) (hg1:Gl 1 (w8C za6) w) (hg2:Gl 3 (zar kA) w) (hg3:Gl 2 [.iface 227 (.agg #[.pointer (some ⟨4,160,none⟩)])] w):
  Calls Tryz.prog 12 #[(vA [(vI n),(.slice a_t n_t c_t)]),(.slice a_z n_z c_z)] w (Ret fun r w'=>∃a1,r=(.tuple #[(vA [(vI n),(.slice a1 n_t n_t)]),(vI 0)])∧Ms unC 280 w.heap.size w'.heap.size w' a1 n_t n_t (ofT n_t t z)∧Ext w w'):=by
 refine zI (n:=61) (σ:= [(0,(vA [(vI n),(.slice a_t n_t c_t)])),(1,(.slice a_z n_z c_z))]) Tryz.func12 rfl ?_
 replace h_t:=h_t.now;have hle_t:=h_t.le
 replace h_z:=h_z.now;have hle_z:=h_z.le
 have hgl0:=hg0.lt
 have hgl1:=hg1.lt
 have hgl2:=hg2.lt
 have hgl3:=hg3.lt
 have h5:=zat n
 have hlt:=h_t.len_eq
 have hlz:=h_z.len_eq
 have hts:=zaw hp1
 have htt:=zcC hp0 hp1
 have hle:=h_t.le
 have hlez:=h_z.le
 have hce:zfD (n:Int) t=0:=by rw [zhS hp0 hp1 (by omega)];exact hp3
 refine ze (zd (za (zo (some 2) (Instr.box 44 (vA [(vI n),(.slice a_t n_t c_t)])) (vP w.heap.size 0) ([(vI n),(.slice a_t n_t c_t)]) 44 ?_)))
 intro w1 hBw1 hEw1
 have hzw1:=hEw1.size;have hlw1:=hBw1.lt
 refine za (zo (some 4) (Instr.alloc 38 true (.tuple #[])) (vP w1.heap.size 0) ([(vI 0),(.slice none 0 0)]) 38 ?_)
 intro w2 hBw2 hEw2
 have hzw2:=hEw2.size;have hlw2:=hBw2.lt
 refine zc 1 [(5,(vI 0))] (zf (zb (ze (ze (zd (za (zj (some 11) (Instr.loadAt 44 (vP w.heap.size 0)) (vA [(vI n),(.slice a_t n_t c_t)]) (zw (vs:= [(vI n),(.slice a_t n_t c_t)]) ((hBw1.ext hEw2).all)) ?_)))))))
 refine za (zl (some 12) (ztJ ((n:Nat):Int) _ (((h_t.ext hEw1)).ext hEw2) (((hg0.ext hEw1)).ext hEw2) (((hg1.ext hEw1)).ext hEw2) (((hg2.ext hEw1)).ext hEw2) (((hg3.ext hEw1)).ext hEw2)) ?_)
 rintro _ w3 ⟨rfl,hEw3⟩
 have hzw3:=hEw3.size
 rw [show zfD ((n:Nat):Int) t=0 from hce]
 refine zc 1 [(6,(vI 0))] (zf (zb (ze (zd (zc 1 [(13,(vI 0))] (za (zai (some 14) (((0:Nat):Int) !=((0:Nat):Int)) false (zaA (by omega)) ?_)))))))
 refine zf (zb (zn (zu (zb (ze (ze (zd (zc 3 [(19,(vP w.heap.size 1)),(18,(vI n_z)),(17,(.slice a_z n_z c_z))] (za (zj (some 20) (Instr.loadAt 42 (vP w.heap.size 1)) (.slice a_t n_t c_t) (zk ((((hBw1.ext hEw2)).ext hEw3).cell rfl)) ?_))))))))))
 refine zc 1 [(21,(vI n_t))] (za (zai (some 22) (((n_z:Nat):Int) !=((n_t:Nat):Int)) false (zaA (by omega)) ?_))
 refine zc 2 [(24,(.slice a_z n_z c_z)),(23,vF)] ?_
 have hK1:=(((((h_z.ext hEw1)).ext hEw2)).ext hEw3)
 refine za (zl (some 25) (zq3 _ hK1 (hp5)) ?_)
 rintro _ w4 ⟨rfl,hEw4⟩
 have hzw4:=hEw4.size
 refine zc 1 [(26,vF)] (zf (zb (zn (zu (zb (ze (zT (Ext w4.drew) 9 [(29,4,0),(30,268435456,1),(31,4,0),(32,1073741824,4),(33,2147483648,8),(34,4294967296,16),(35,9126805504,34),(8,0,0),(0,17179869312,255)] (fun hT164=> ?_))))))))
 have hEw5:Ext w4 w4.drew:=Ext.drew w4
 generalize w4.drew=w5 at hEw5⊢
 have hzw5:=hEw5.size
 refine zh hT164 [(0,28,(vP w.heap.size 0))] 1 1 ?_
 have hK2:=(((((((hBw1.ext hEw2)).ext hEw3)).ext hEw4)).ext hEw5)
 refine zg hT164 1 3 (some 29) (vI n) (zi (Instr.loadAt 3 (vP w.heap.size 0)) (fun w' hC=>zk ((hK2.ext hC).cell rfl))) (zh hT164 [(2,30,(vP w.heap.size 1))] 1 7 (zg hT164 3 15 (some 31) (.slice a_t n_t c_t) (zi (Instr.loadAt 42 (vP w.heap.size 1)) (fun w' hC=>zk ((hK2.ext hC).cell rfl))) (zh hT164 [(4,32,(vI n_t))] 1 31 (za9 5 7 63 159 ?_ ?_))))
 ·refine zch (some 33) 36 77 280 384 n_t n_t .i64 .i64 (vA (unC Un.zero)) (by omega) (by omega) (by omega) ?_
  rw [zdJ (f:=unC) (x:=Un.zero) rfl (zQ _) (by decide)]
  intro w6 hBw6 hEw6
  have hzw6:=hEw6.size;have hlw6:=hBw6.lt
  have hmw6:Ms unC 280 w5.heap.size (w5.heap.size+1) w6 (pA w5.heap.size 0) n_t n_t (List.replicate n_t Un.zero):=Ms.of_pre (r:= []) (by rw [List.append_nil];exact hBw6) zQ (by simp) (Nat.le_refl _) (by simp only [maxLen];omega) (Nat.le_refl _) (Nat.lt_succ_self _)
  refine ⟨.inr hEw6, ?_⟩
  refine zh (hw:=hEw6) hT164 [(6,34,(vA [(vI n),(.slice (pA w5.heap.size 0) n_t n_t)]))] 1 127 (zz 7 255 (zo (some 7) (Instr.alloc 38 true (.tuple #[])) (vP w6.heap.size 0) ([(vI 0),(.slice none 0 0)]) 38 ?_))
  intro w7 hBw7 hEw7
  have hzw7:=hEw7.size;have hlw7:=hBw7.lt
  have hX1:Ext w5 w7:=(hEw6.trans hEw7)
  refine ⟨.inr hX1, ?_⟩
  refine zz 8 511 (zv 38 w6.heap.size 0 38 (vA [(vI n),(.slice (pA w5.heap.size 0) n_t n_t)]) ([(vI 0),(.slice none 0 0)]) ([(vI n),(.slice (pA w5.heap.size 0) n_t n_t)]) hBw7 (by kernel_rfl) (by first | decide |(simp;done)|(simp;omega)) (by simp [Value.oneCell']) ?_)
  intro w8 hBw8 hCw8
  have hzw8:=hCw8.size
  rw [zm _ _ (by kernel_rfl)] at hBw8
  refine ⟨.inl (by kernel_rfl), ?_⟩
  refine zJ (zb (ze (ze (zd (zc 1 [(35,(vP w.heap.size 1))] ?_)))))
  have hK3:=(((((hK2.ext hEw6)).ext hEw7)).chg hCw8 (fun hs=>by have h:_=_:=hs;omega))
  refine za (zj (some 36) (Instr.loadAt 42 (vP w.heap.size 1)) (.slice a_t n_t c_t) (zk (hK3.cell rfl)) ?_)
  refine zc 2 [(38,(vI 0)),(37,(vI n_t))] (zf (zb (zy ?_)))
  have hK4:=(((((((((((hBw2.ext hEw3)).ext hEw4)).ext hEw5)).ext hEw6)).ext hEw7)).chg hCw8 (fun hs=>by have h:_=_:=hs;omega))
  have hX2:Ext w w8:=(Ext.own ((((((hEw1.trans hEw2).trans hEw3).trans hEw4).trans hEw5).trans hEw6).trans hEw7) hCw8 (by omega))
  refine zY (X:=Nat) (fun k=> [(38,(vI k))]) [8,9,39,40,41,42,43,44,45,46,47,48,49,50,51,52,53] (fun k w9=>k≤n_t∧Blk w9 w5.heap.size ((zaR n_t (ofE t z) (fun _=>Un.zero) k).flatMap unC) 77∧Blk w9 w.heap.size ([(vI n),(.slice a_t n_t c_t)]) 44∧Blk w9 w1.heap.size ([(vI 0),(.slice none 0 0)]) 38∧Blk w9 w6.heap.size ([(vI n),(.slice (pA w5.heap.size 0) n_t n_t)]) 38∧Ext w w9) (fun k=>n_t-k) 0 (by kernel_rfl) ⟨Nat.zero_le _,by rw [zj2];exact (((hBw6.ext hEw7)).chg hCw8 (fun hs=>by have h:_=_:=hs;omega)),hK3,hK4,hBw8,hX2⟩ ?_
  rintro k dw9 w9 ⟨hk,hR,hQ2,hQ4,hQ7,hEl⟩
  have hzl:=hEl.size;have hRl:=hR.lt
  have hmR:=Ms.of_row hR zQ (len:=n_t) zbN.symm (by simp only [maxLen];omega)
  have hQ2l:=hQ2.lt
  have hQ4l:=hQ4.lt
  have hQ7l:=hQ7.lt
  refine ze (zd (za (zK (some 39) (decide (((k:Nat):Int)<((n_t:Nat):Int))) (fun hc39=> ?_) (fun hc39=> ?_))))
  ·replace hc39:k<n_t:=by have:=zaf hc39;omega
   refine zf (zb (ze (zC (zu (zb (ze (zy (ze (zd ?_)))))))))
   refine zc 1 [(40,(vI k))] ?_
   obtain ⟨b1,o1,rfl⟩:=h_t.addr (by omega) (by decide)
   refine za (zj (some 41) (Instr.indexAt 42 (.slice (pA b1 o1) n_t c_t) (vI k)) (vP b1 (o1+k*274)) (zP (E:=74) (sz:=274) (by omega)) ?_)
   refine za (zj (some 42) (Instr.loadAt 74 (vP b1 (o1+k*274))) (vA (zH (t.getD k Nod.zero))) (zw (vs:=zH (t.getD k Nod.zero)) ((h_t.ext hEl).at Nod.zero (by omega)) (by rw [zV];kernel_rfl)) ?_)
   refine za (zo (some 9) (Instr.alloc 74 true (.tuple #[])) (vP w9.heap.size 0) (zH Nod.zero) 74 ?_)
   intro w10 hBw10 hEw10
   have hzw10:=hEw10.size;have hlw10:=hBw10.lt
   refine zc 1 [(8,(vI k))] (za (zv 74 w9.heap.size 0 74 (vA (zH (t.getD k Nod.zero))) (zH Nod.zero) (zH (t.getD k Nod.zero)) hBw10 (by rw [zV];kernel_rfl) (by first |(simp;done)|(simp;omega)) (zbZ _) ?_))
   intro w11 hBw11 hCw11
   have hzw11:=hCw11.size
   rw [zm _ _ (by simp)] at hBw11
   refine zf (zb (zT (Chg (fun k=>k=w5.heap.size) w11.drew) 11 [(44,128,0),(45,8796093022208,1),(46,256,0),(47,512,0),(48,2,0),(49,256,0),(50,422212465065984,48),(51,562949953421312,64),(52,1196268651020288,136),(53,52776558133248,511),(0,6755399441055744,1023)] (fun hT241=> ?_)))
   have hEw12:Ext w11 w11.drew:=Ext.drew w11
   generalize w11.drew=w12 at hEw12⊢
   have hzw12:=hEw12.size
   have hX3:Chg (fun k=>k=w5.heap.size) w12 w12:=(Chg.refl (fun k=>k=w5.heap.size) w12)
   refine zh (hw:=hX3) hT241 [(0,43,(vP w6.heap.size 1))] 1 1 ?_
   have hK5:=(((((hQ7.ext hEw10)).chg hCw11 (fun hs=>by have h:_=_:=hs;omega))).ext hEw12)
   refine zg (hw:=hX3) hT241 1 3 (some 44) (.slice (pA w5.heap.size 0) n_t n_t) (zi (Instr.loadAt 36 (vP w6.heap.size 1)) (fun w' hC=>zk ((hK5.chg hC (fun hs=>by have h:_=_:=hs;omega)).cell rfl))) (zh (hw:=hX3) hT241 [(2,45,(vI k))] 1 7 (zg (hw:=hX3) hT241 3 15 (some 46) (vA (zH (t.getD k Nod.zero))) (zi (Instr.loadAt 74 (vP w9.heap.size 0)) (fun w' hC=>zw (vs:=zH (t.getD k Nod.zero)) (((hBw11.ext hEw12).chg hC (fun hs=>by have h:_=_:=hs;omega)).all) (by rw [zV];kernel_rfl))) (zh (hw:=hX3) hT241 [(4,47,(.slice a_z n_z c_z)),(5,48,(vI k))] 2 63 ?_)))
   obtain ⟨b2,o2,rfl⟩:=h_z.addr (by omega)
   refine zg (hw:=hX3) hT241 6 127 (some 49) (vP b2 (o2+k*1)) (zi (Instr.indexAt 29 (.slice (pA b2 o2) n_z c_z) (vI k)) (fun w' hC=>zP (E:=3) (sz:=1) (by omega))) ?_
   have hK6:=(((((((h_z.ext hEl)).ext hEw10)).chg hCw11 (fun k h1 h2 hs=>by have h:k=_:=hs;omega))).ext hEw12)
   refine zg (hw:=hX3) hT241 7 255 (some 50) (.int .i64 (gz z k)) (zi (Instr.loadAt 3 (vP b2 (o2+k*1))) (fun w' hC=>zk ((hK6.chg hC (fun k h1 h2 hs=>by have h:_=_:=hs;omega)).celli (by omega)))) (zg (hw:=hX3) hT241 8 511 (some 51) (vA (unC (ofE t z k))) (zi (Instr.build 77 #[(0,(vA (zH (t.getD k Nod.zero)))),(1,(.int .i64 (gz z k)))]) (fun w' hC=>(zeq (t.getD k Nod.zero) (gz z k)).trans (congrArg (fun z:Un=>Result.ok (Value.agg (unC z).toArray) _) (show (⟨(t.getD k Nod.zero),gz z k,false,List.replicate 4 false,rfl⟩:Un)=ofE t z k from rfl)))) (zg (hw:=hX3) hT241 9 1023 (some 52) (vP w5.heap.size (0+k*280)) (zi (Instr.indexAt 36 (.slice (pA w5.heap.size 0) n_t n_t) (vI k)) (fun w' hC=>zP (E:=77) (sz:=280) (by omega))) ?_))
   have hK7:=(((((hR.ext hEw10)).chg hCw11 (fun hs=>by have h:_=_:=hs;omega))).ext hEw12)
   refine zz 10 2047 (zv 77 w5.heap.size (0+k*280) 77 (vA (unC (ofE t z k))) ((zaR n_t (ofE t z) (fun _=>Un.zero) k).flatMap unC) (unC (ofE t z k)) hK7 (by rw [zQ];kernel_rfl) (by rw [zaz zQ];(try simp only [List.length_cons,List.length_nil,List.length_set]);have:=(show List.length (zaR n_t (ofE t z) (fun _=>Un.zero) k)=n_t from zbN);have hln:=zQ (ofE t z k);omega) (za4 _) ?_)
   have hK8:=(((((hR.ext hEw10)).chg hCw11 (fun hs=>by have h:_=_:=hs;omega))).ext hEw12)
   intro w13 hBw13 hCw13
   have hzw13:=hCw13.size
   rw [show (zac ((zaR n_t (ofE t z) (fun _=>Un.zero) k).flatMap unC) (0+k*280) (unC (ofE t z k)):List Value)=(zaR n_t (ofE t z) (fun _=>Un.zero) (k+1)).flatMap unC from (zca zQ _ _ _ (by have hq:List.length (zaR n_t (ofE t z) (fun _=>Un.zero) k)=n_t:=zbN;omega)).trans (congrArg (fun z=>List.flatMap unC z) (show ((zaR n_t (ofE t z) (fun _=>Un.zero) k).set k (ofE t z k))=(zaR n_t (ofE t z) (fun _=>Un.zero) (k+1)) from zgt (f:=ofE t z) (by omega)))] at hBw13
   have hmw13:Ms unC 280 w5.heap.size (w5.heap.size+1) w13 (pA w5.heap.size 0) n_t n_t (zaR n_t (ofE t z) (fun _=>Un.zero) (k+1)):=Ms.of_pre (r:= []) (by rw [List.append_nil];exact hBw13) zQ (by have hq:List.length (zaR n_t (ofE t z) (fun _=>Un.zero) (k+1))=n_t:=zbN;omega) (by omega) (by simp only [maxLen];omega) (by omega) (by omega)
   refine ⟨.inl (by kernel_rfl), ?_⟩
   refine zJ (zp (zb (zd (za (zt (some 53) .i64 (IntKind.i64.wrap (((k:Nat):Int)+((1:Nat):Int))) (k+1) (zA (by omega) (by omega) (by omega)) ?_)))))
   refine zc 1 [(38,(vI (k+1)))] (zf (zF ?_))
   have hK9:=(((((((hQ2.ext hEw10)).chg hCw11 (fun hs=>by have h:_=_:=hs;omega))).ext hEw12)).chg hCw13 (fun hs=>by have h:_=_:=hs;omega))
   have hK10:=(((((((hQ4.ext hEw10)).chg hCw11 (fun hs=>by have h:_=_:=hs;omega))).ext hEw12)).chg hCw13 (fun hs=>by have h:_=_:=hs;omega))
   have hX4:Ext w w13:=(Ext.own ((Ext.own (hEl.trans hEw10) hCw11 (by omega)).trans hEw12) hCw13 (by omega))
   refine zR (k+1) ?_ ?_
   ·exact ⟨by omega,hBw13,hK9,hK10,((hK5).chg hCw13 (fun hs=>by have h:_=_:=hs;omega)),hX4⟩
   ·first | omega |(dsimp only;omega)
  ·replace hc39:¬(k<n_t):=by have:=zae hc39;omega
   have hkn:k=n_t:=by omega
   rw [hkn,show (zaR n_t (ofE t z) (fun _=>Un.zero) n_t)=(ofT n_t t z) from zgV] at hR hmR
   refine zf (zb (ze (zn (zW (zx (zx (zL (zb (ze ?_)))))))))
   refine ze (zd (za (zj (some 54) (Instr.loadAt 38 (vP w6.heap.size 0)) (vA [(vI n),(.slice (pA w5.heap.size 0) n_t n_t)]) (zw (vs:= [(vI n),(.slice (pA w5.heap.size 0) n_t n_t)]) (hQ7.all)) ?_)))
   refine za (zl (some 55) (zkN ((n:Nat):Int) _ hmR (hg0.ext hEl) (hg1.ext hEl) (hg2.ext hEl)) ?_)
   rintro _ w14 ⟨rfl,hEw14⟩
   have hzw14:=hEw14.size
   rw [show zeX ((n:Nat):Int) (ofT n_t t z)=0 from hp6]
   refine zc 1 [(10,(vI 0))] (zf (zb (ze (zd (zc 1 [(56,(vI 0))] (za (zai (some 57) (((0:Nat):Int) !=((0:Nat):Int)) false (zaA (by omega)) ?_)))))))
   refine zf (zb (zn (zu (zb (ze (zd (za (zj (some 60) (Instr.loadAt 38 (vP w6.heap.size 0)) (vA [(vI n),(.slice (pA w5.heap.size 0) n_t n_t)]) (zw (vs:= [(vI n),(.slice (pA w5.heap.size 0) n_t n_t)]) ((hQ7.ext hEw14).all)) ?_))))))))
   refine za (zv 38 w1.heap.size 0 38 (vA [(vI n),(.slice (pA w5.heap.size 0) n_t n_t)]) ([(vI 0),(.slice none 0 0)]) ([(vI n),(.slice (pA w5.heap.size 0) n_t n_t)]) (hQ4.ext hEw14) (by kernel_rfl) (by first | decide |(simp;done)|(simp;omega)) (by simp [Value.oneCell']) ?_)
   intro w15 hBw15 hCw15
   have hzw15:=hCw15.size
   rw [zm _ _ (by kernel_rfl)] at hBw15
   exact zc 1 [(5,(vI 0))] (zf (zb (zq (zaX (show zZ Tryz.prog 61 _ _ (.cell 4 38) (vA [(vI n),(.slice (pA w5.heap.size 0) n_t n_t)]) from ⟨⟨w1.heap.size,0,none⟩,(by kernel_rfl),zN (T:=38) (vs:= [(vI n),(.slice (pA w5.heap.size 0) n_t n_t)]) (hBw15).all (by kernel_rfl)⟩) (show zZ Tryz.prog 61 _ _ (.tmp 5) (vI 0) by (show _=_;kernel_rfl)) (⟨_,rfl,((((hmR.ext hEw14)).chg hCw15 (fun k h1 h2 hs=>by have h:k=_:=hs;omega))).now.mono (by omega) (Nat.le_refl _),(Ext.own (hEl.trans hEw14) hCw15 (by omega))⟩)))))
 ·refine zo (some 7) (Instr.alloc 38 true (.tuple #[])) (vP w5.heap.size 0) ([(vI 0),(.slice none 0 0)]) 38 ?_
  intro w16 hBw16 hEw16
  have hzw16:=hEw16.size;have hlw16:=hBw16.lt
  refine ⟨.inr hEw16, ?_⟩
  refine zz 5 191 (zch (some 33) 36 77 280 384 n_t n_t .i64 .i64 (vA (unC Un.zero)) (by omega) (by omega) (by omega) ?_)
  rw [zdJ (f:=unC) (x:=Un.zero) rfl (zQ _) (by decide)]
  intro w17 hBw17 hEw17
  have hzw17:=hEw17.size;have hlw17:=hBw17.lt
  have hmw17:Ms unC 280 w16.heap.size (w16.heap.size+1) w17 (pA w16.heap.size 0) n_t n_t (List.replicate n_t Un.zero):=Ms.of_pre (r:= []) (by rw [List.append_nil];exact hBw17) zQ (by simp) (Nat.le_refl _) (by simp only [maxLen];omega) (Nat.le_refl _) (Nat.lt_succ_self _)
  have hX5:Ext w5 w17:=(hEw16.trans hEw17)
  refine ⟨.inr hX5, ?_⟩
  refine zh (hw:=hX5) hT164 [(6,34,(vA [(vI n),(.slice (pA w16.heap.size 0) n_t n_t)]))] 1 255 (zz 8 511 (zv 38 w5.heap.size 0 38 (vA [(vI n),(.slice (pA w16.heap.size 0) n_t n_t)]) ([(vI 0),(.slice none 0 0)]) ([(vI n),(.slice (pA w16.heap.size 0) n_t n_t)]) (hBw16.ext hEw17) (by kernel_rfl) (by first | decide |(simp;done)|(simp;omega)) (by simp [Value.oneCell']) ?_))
  intro w18 hBw18 hCw18
  have hzw18:=hCw18.size
  rw [zm _ _ (by kernel_rfl)] at hBw18
  refine ⟨.inl (by kernel_rfl), ?_⟩
  refine zJ (zb (ze (ze (zd (zc 1 [(35,(vP w.heap.size 1))] ?_)))))
  have hK11:=(((((hK2.ext hEw16)).ext hEw17)).chg hCw18 (fun hs=>by have h:_=_:=hs;omega))
  refine za (zj (some 36) (Instr.loadAt 42 (vP w.heap.size 1)) (.slice a_t n_t c_t) (zk (hK11.cell rfl)) ?_)
  refine zc 2 [(38,(vI 0)),(37,(vI n_t))] (zf (zb (zy ?_)))
  have hK12:=(((((((((((hBw2.ext hEw3)).ext hEw4)).ext hEw5)).ext hEw16)).ext hEw17)).chg hCw18 (fun hs=>by have h:_=_:=hs;omega))
  have hX6:Ext w w18:=(Ext.own ((((((hEw1.trans hEw2).trans hEw3).trans hEw4).trans hEw5).trans hEw16).trans hEw17) hCw18 (by omega))
  refine zY (X:=Nat) (fun k=> [(38,(vI k))]) [8,9,39,40,41,42,43,44,45,46,47,48,49,50,51,52,53] (fun k w19=>k≤n_t∧Blk w19 w16.heap.size ((zaR n_t (ofE t z) (fun _=>Un.zero) k).flatMap unC) 77∧Blk w19 w.heap.size ([(vI n),(.slice a_t n_t c_t)]) 44∧Blk w19 w1.heap.size ([(vI 0),(.slice none 0 0)]) 38∧Blk w19 w5.heap.size ([(vI n),(.slice (pA w16.heap.size 0) n_t n_t)]) 38∧Ext w w19) (fun k=>n_t-k) 0 (by kernel_rfl) ⟨Nat.zero_le _,by rw [zj2];exact ((hBw17).chg hCw18 (fun hs=>by have h:_=_:=hs;omega)),hK11,hK12,hBw18,hX6⟩ ?_
  rintro k dw19 w19 ⟨hk,hR,hQ2,hQ4,hQ7,hEl⟩
  have hzl:=hEl.size;have hRl:=hR.lt
  have hmR:=Ms.of_row hR zQ (len:=n_t) zbN.symm (by simp only [maxLen];omega)
  have hQ2l:=hQ2.lt
  have hQ4l:=hQ4.lt
  have hQ7l:=hQ7.lt
  refine ze (zd (za (zK (some 39) (decide (((k:Nat):Int)<((n_t:Nat):Int))) (fun hc39=> ?_) (fun hc39=> ?_))))
  ·replace hc39:k<n_t:=by have:=zaf hc39;omega
   refine zf (zb (ze (zC (zu (zb (ze (zy (ze (zd ?_)))))))))
   refine zc 1 [(40,(vI k))] ?_
   obtain ⟨b3,o3,rfl⟩:=h_t.addr (by omega) (by decide)
   refine za (zj (some 41) (Instr.indexAt 42 (.slice (pA b3 o3) n_t c_t) (vI k)) (vP b3 (o3+k*274)) (zP (E:=74) (sz:=274) (by omega)) ?_)
   refine za (zj (some 42) (Instr.loadAt 74 (vP b3 (o3+k*274))) (vA (zH (t.getD k Nod.zero))) (zw (vs:=zH (t.getD k Nod.zero)) ((h_t.ext hEl).at Nod.zero (by omega)) (by rw [zV];kernel_rfl)) ?_)
   refine za (zo (some 9) (Instr.alloc 74 true (.tuple #[])) (vP w19.heap.size 0) (zH Nod.zero) 74 ?_)
   intro w20 hBw20 hEw20
   have hzw20:=hEw20.size;have hlw20:=hBw20.lt
   refine zc 1 [(8,(vI k))] (za (zv 74 w19.heap.size 0 74 (vA (zH (t.getD k Nod.zero))) (zH Nod.zero) (zH (t.getD k Nod.zero)) hBw20 (by rw [zV];kernel_rfl) (by first |(simp;done)|(simp;omega)) (zbZ _) ?_))
   intro w21 hBw21 hCw21
   have hzw21:=hCw21.size
   rw [zm _ _ (by simp)] at hBw21
   refine zf (zb (zT (Chg (fun k=>k=w16.heap.size) w21.drew) 11 [(44,128,0),(45,8796093022208,1),(46,256,0),(47,512,0),(48,2,0),(49,256,0),(50,422212465065984,48),(51,562949953421312,64),(52,1196268651020288,136),(53,52776558133248,511),(0,6755399441055744,1023)] (fun hT391=> ?_)))
   have hEw22:Ext w21 w21.drew:=Ext.drew w21
   generalize w21.drew=w22 at hEw22⊢
   have hzw22:=hEw22.size
   have hX7:Chg (fun k=>k=w16.heap.size) w22 w22:=(Chg.refl (fun k=>k=w16.heap.size) w22)
   refine zh (hw:=hX7) hT391 [(0,43,(vP w5.heap.size 1))] 1 1 ?_
   have hK13:=(((((hQ7.ext hEw20)).chg hCw21 (fun hs=>by have h:_=_:=hs;omega))).ext hEw22)
   refine zg (hw:=hX7) hT391 1 3 (some 44) (.slice (pA w16.heap.size 0) n_t n_t) (zi (Instr.loadAt 36 (vP w5.heap.size 1)) (fun w' hC=>zk ((hK13.chg hC (fun hs=>by have h:_=_:=hs;omega)).cell rfl))) (zh (hw:=hX7) hT391 [(2,45,(vI k))] 1 7 (zg (hw:=hX7) hT391 3 15 (some 46) (vA (zH (t.getD k Nod.zero))) (zi (Instr.loadAt 74 (vP w19.heap.size 0)) (fun w' hC=>zw (vs:=zH (t.getD k Nod.zero)) (((hBw21.ext hEw22).chg hC (fun hs=>by have h:_=_:=hs;omega)).all) (by rw [zV];kernel_rfl))) (zh (hw:=hX7) hT391 [(4,47,(.slice a_z n_z c_z)),(5,48,(vI k))] 2 63 ?_)))
   obtain ⟨b4,o4,rfl⟩:=h_z.addr (by omega)
   refine zg (hw:=hX7) hT391 6 127 (some 49) (vP b4 (o4+k*1)) (zi (Instr.indexAt 29 (.slice (pA b4 o4) n_z c_z) (vI k)) (fun w' hC=>zP (E:=3) (sz:=1) (by omega))) ?_
   have hK14:=(((((((h_z.ext hEl)).ext hEw20)).chg hCw21 (fun k h1 h2 hs=>by have h:k=_:=hs;omega))).ext hEw22)
   refine zg (hw:=hX7) hT391 7 255 (some 50) (.int .i64 (gz z k)) (zi (Instr.loadAt 3 (vP b4 (o4+k*1))) (fun w' hC=>zk ((hK14.chg hC (fun k h1 h2 hs=>by have h:_=_:=hs;omega)).celli (by omega)))) (zg (hw:=hX7) hT391 8 511 (some 51) (vA (unC (ofE t z k))) (zi (Instr.build 77 #[(0,(vA (zH (t.getD k Nod.zero)))),(1,(.int .i64 (gz z k)))]) (fun w' hC=>(zeq (t.getD k Nod.zero) (gz z k)).trans (congrArg (fun z:Un=>Result.ok (Value.agg (unC z).toArray) _) (show (⟨(t.getD k Nod.zero),gz z k,false,List.replicate 4 false,rfl⟩:Un)=ofE t z k from rfl)))) (zg (hw:=hX7) hT391 9 1023 (some 52) (vP w16.heap.size (0+k*280)) (zi (Instr.indexAt 36 (.slice (pA w16.heap.size 0) n_t n_t) (vI k)) (fun w' hC=>zP (E:=77) (sz:=280) (by omega))) ?_))
   have hK15:=(((((hR.ext hEw20)).chg hCw21 (fun hs=>by have h:_=_:=hs;omega))).ext hEw22)
   refine zz 10 2047 (zv 77 w16.heap.size (0+k*280) 77 (vA (unC (ofE t z k))) ((zaR n_t (ofE t z) (fun _=>Un.zero) k).flatMap unC) (unC (ofE t z k)) hK15 (by rw [zQ];kernel_rfl) (by rw [zaz zQ];(try simp only [List.length_cons,List.length_nil,List.length_set]);have:=(show List.length (zaR n_t (ofE t z) (fun _=>Un.zero) k)=n_t from zbN);have hln:=zQ (ofE t z k);omega) (za4 _) ?_)
   have hK16:=(((((hR.ext hEw20)).chg hCw21 (fun hs=>by have h:_=_:=hs;omega))).ext hEw22)
   intro w23 hBw23 hCw23
   have hzw23:=hCw23.size
   rw [show (zac ((zaR n_t (ofE t z) (fun _=>Un.zero) k).flatMap unC) (0+k*280) (unC (ofE t z k)):List Value)=(zaR n_t (ofE t z) (fun _=>Un.zero) (k+1)).flatMap unC from (zca zQ _ _ _ (by have hq:List.length (zaR n_t (ofE t z) (fun _=>Un.zero) k)=n_t:=zbN;omega)).trans (congrArg (fun z=>List.flatMap unC z) (show ((zaR n_t (ofE t z) (fun _=>Un.zero) k).set k (ofE t z k))=(zaR n_t (ofE t z) (fun _=>Un.zero) (k+1)) from zgt (f:=ofE t z) (by omega)))] at hBw23
   have hmw23:Ms unC 280 w16.heap.size (w16.heap.size+1) w23 (pA w16.heap.size 0) n_t n_t (zaR n_t (ofE t z) (fun _=>Un.zero) (k+1)):=Ms.of_pre (r:= []) (by rw [List.append_nil];exact hBw23) zQ (by have hq:List.length (zaR n_t (ofE t z) (fun _=>Un.zero) (k+1))=n_t:=zbN;omega) (by omega) (by simp only [maxLen];omega) (by omega) (by omega)
   refine ⟨.inl (by kernel_rfl), ?_⟩
   refine zJ (zp (zb (zd (za (zt (some 53) .i64 (IntKind.i64.wrap (((k:Nat):Int)+((1:Nat):Int))) (k+1) (zA (by omega) (by omega) (by omega)) ?_)))))
   refine zc 1 [(38,(vI (k+1)))] (zf (zF ?_))
   have hK17:=(((((((hQ2.ext hEw20)).chg hCw21 (fun hs=>by have h:_=_:=hs;omega))).ext hEw22)).chg hCw23 (fun hs=>by have h:_=_:=hs;omega))
   have hK18:=(((((((hQ4.ext hEw20)).chg hCw21 (fun hs=>by have h:_=_:=hs;omega))).ext hEw22)).chg hCw23 (fun hs=>by have h:_=_:=hs;omega))
   have hX8:Ext w w23:=(Ext.own ((Ext.own (hEl.trans hEw20) hCw21 (by omega)).trans hEw22) hCw23 (by omega))
   refine zR (k+1) ?_ ?_
   ·exact ⟨by omega,hBw23,hK17,hK18,((hK13).chg hCw23 (fun hs=>by have h:_=_:=hs;omega)),hX8⟩
   ·first | omega |(dsimp only;omega)
  ·replace hc39:¬(k<n_t):=by have:=zae hc39;omega
   have hkn:k=n_t:=by omega
   rw [hkn,show (zaR n_t (ofE t z) (fun _=>Un.zero) n_t)=(ofT n_t t z) from zgV] at hR hmR
   refine zf (zb (ze (zn (zW (zx (zx (zL (zb (ze ?_)))))))))
   refine ze (zd (za (zj (some 54) (Instr.loadAt 38 (vP w5.heap.size 0)) (vA [(vI n),(.slice (pA w16.heap.size 0) n_t n_t)]) (zw (vs:= [(vI n),(.slice (pA w16.heap.size 0) n_t n_t)]) (hQ7.all)) ?_)))
   refine za (zl (some 55) (zkN ((n:Nat):Int) _ hmR (hg0.ext hEl) (hg1.ext hEl) (hg2.ext hEl)) ?_)
   rintro _ w24 ⟨rfl,hEw24⟩
   have hzw24:=hEw24.size
   rw [show zeX ((n:Nat):Int) (ofT n_t t z)=0 from hp6]
   refine zc 1 [(10,(vI 0))] (zf (zb (ze (zd (zc 1 [(56,(vI 0))] (za (zai (some 57) (((0:Nat):Int) !=((0:Nat):Int)) false (zaA (by omega)) ?_)))))))
   refine zf (zb (zn (zu (zb (ze (zd (za (zj (some 60) (Instr.loadAt 38 (vP w5.heap.size 0)) (vA [(vI n),(.slice (pA w16.heap.size 0) n_t n_t)]) (zw (vs:= [(vI n),(.slice (pA w16.heap.size 0) n_t n_t)]) ((hQ7.ext hEw24).all)) ?_))))))))
   refine za (zv 38 w1.heap.size 0 38 (vA [(vI n),(.slice (pA w16.heap.size 0) n_t n_t)]) ([(vI 0),(.slice none 0 0)]) ([(vI n),(.slice (pA w16.heap.size 0) n_t n_t)]) (hQ4.ext hEw24) (by kernel_rfl) (by first | decide |(simp;done)|(simp;omega)) (by simp [Value.oneCell']) ?_)
   intro w25 hBw25 hCw25
   have hzw25:=hCw25.size
   rw [zm _ _ (by kernel_rfl)] at hBw25
   exact zc 1 [(5,(vI 0))] (zf (zb (zq (zaX (show zZ Tryz.prog 61 _ _ (.cell 4 38) (vA [(vI n),(.slice (pA w16.heap.size 0) n_t n_t)]) from ⟨⟨w1.heap.size,0,none⟩,(by kernel_rfl),zN (T:=38) (vs:= [(vI n),(.slice (pA w16.heap.size 0) n_t n_t)]) (hBw25).all (by kernel_rfl)⟩) (show zZ Tryz.prog 61 _ _ (.tmp 5) (vI 0) by (show _=_;kernel_rfl)) (⟨_,rfl,((((hmR.ext hEw24)).chg hCw25 (fun k h1 h2 hs=>by have h:k=_:=hs;omega))).now.mono (by omega) (Nat.le_refl _),(Ext.own (hEl.trans hEw24) hCw25 (by omega))⟩)))))
end Go.Proofs.YtkmhgepdhilllaaGreatDoor
namespace Go.Proofs.YtkmhgepdhilllaaGreatDoor
open Go Go.RowKit Go.Cs
set_option maxRecDepth 100000
end Go.Proofs.YtkmhgepdhilllaaGreatDoor
namespace Go.Proofs.YtkmhgepdhilllaaGreatDoor
open Go Go.RowKit Go.Cs
set_option maxRecDepth 100000
end Go.Proofs.YtkmhgepdhilllaaGreatDoor
namespace Go.Proofs.YtkmhgepdhilllaaGreatDoor
open Go Go.RowKit Go.Cs
set_option maxRecDepth 100000
end Go.Proofs.YtkmhgepdhilllaaGreatDoor
namespace Go.Proofs.YtkmhgepdhilllaaGreatDoor
open Go Go.RowKit Go.Cs
set_option maxRecDepth 100000
theorem zck (k:Nat) (w:World) (hp0:k<256):
  Calls Tryz.prog 20 #[(vB k)] w (Ret fun r w'=>r=(vA (zaU (za5 k)))∧Ext w w'):=by
 refine zI (n:=9) (σ:= [(0,(vB k))]) Tryz.func20 rfl ?_
 refine ze (zd (za (zo (some 2) (Instr.alloc 56 true (.tuple #[])) (vP w.heap.size 0) (zaU Non.zero) 56 ?_)))
 intro w1 hBw1 hEw1
 have hzw1:=hEw1.size;have hlw1:=hBw1.lt
 refine zf (zb (ze (zd (zc 1 [(3,(vB k))] (za (zt (some 4) .u8 (((k:Nat):Int).tmod ((4:Nat):Int)) (k%256%4) ((zcF _ _).trans (by rw [Nat.mod_eq_of_lt hp0])) ?_))))))
 refine za (zt (some 5) .u32 (IntKind.u32.wrap ((k%256%4:Nat):Int)) (k%256%4) (zbm rfl rfl (by show _<2^32;omega)) ?_)
 refine zc 1 [(6,(vB k))] (za (zt (some 7) .u64 (IntKind.u64.wrap ((k:Nat):Int)) (k%256) (zbm rfl (by rw [Nat.mod_eq_of_lt hp0]) (by show _<2^64;omega)) ?_))
 refine zc 1 [(8,(vA (zaU (za5 k))))] (za (zv 56 w.heap.size 0 56 (vA (zaU (za5 k))) (zaU Non.zero) (zaU (za5 k)) hBw1 (by rw [zeB];kernel_rfl) (by first |(simp;done)|(simp;omega)) (zp5 _) ?_))
 intro w2 hBw2 hCw2
 have hzw2:=hCw2.size
 rw [zm _ _ (by simp)] at hBw2
 exact zf (zb (zq (zaB (show zZ Tryz.prog 9 _ _ (.cell 2 56) (vA (zaU (za5 k))) from ⟨⟨w.heap.size,0,none⟩,(by kernel_rfl),zN (T:=56) (vs:=zaU (za5 k)) (hBw2).all (by rw [zeB];kernel_rfl)⟩) (⟨rfl,(Ext.own hEw1 hCw2 (by omega))⟩))))
end Go.Proofs.YtkmhgepdhilllaaGreatDoor
