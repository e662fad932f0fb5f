/- Lemmas and walks: what each function does, by its own code. No condition beyond those of each statement. -/
import Derived.Test.YtkmhgepdhilllaaGreatDoorK1
set_option linter.all false
set_option linter.unusedVariables false
namespace Go.Proofs.YtkmhgepdhilllaaGreatDoor
open Go Go.RowKit Go.Cs
set_option maxRecDepth 100000
theorem zsL (b n l j:Nat) {lo_c hi_c lo_f hi_f lo_t hi_t n_c c_c n_f c_f n_t c_t:Nat} {a_c a_f a_t:Option Addr} {c f:List Nat} {t:List Un} (w:World) (hX:Blk w b [(.slice a_c n_c c_c),(.slice a_f n_f c_f),(vI n),(.slice a_t n_t c_t),(vI (num n l+j)),(vI l)] 146) (h_c:Es (nv .i64) lo_c hi_c w a_c n_c c_c c) (h_f:Es (nv .i64) lo_f hi_f w a_f n_f c_f f) (h_t:Ms unC 280 lo_t hi_t w a_t n_t c_t t) (hp0:c=zaQ n (hgt n+1)) (hp1:f=zbb n (hgt n+1)) (hp2:1≤n) (hp3:n≤4096) (hp4:n_t=tot n) (hp5:l≤hgt n) (hp6:j<cnt n l) (hp7:l=0):
  Calls Tryz.prog 81 #[(vP b 0)] w (Ret fun r w'=>r=(vI (zdY n t l j))∧Ext w w'):=by
 refine zC (n:=59) (σ:= [(0,(vP b 0))]) Tryz.func81 rfl ?_
 replace h_c:=h_c.now;replace h_f:=h_f.now;replace h_t:=h_t.now
 have hbl:=hX.lt
 have hle1:=h_c.le;have hle2:=h_f.le
 have hlc:=h_c.len_eq;rw [hp0,zb3] at hlc
 have hlf:=h_f.len_eq;rw [hp1,zcm] at hlf
 have hlt:=h_t.len_eq
 have hlet:=h_t.le
 have h5:=zat n
 have hts:=zaC hp3
 have hpl:=zaG (n:=n) (l:=l) (j:=j) hp5 hp6
 have hcn:=zbr n l
 have hgf:gt f l=num n l:=by rw [hp1];exact zcx (by omega)
 refine ze (zd (zc 1 [(2,(vI 0))] (zf (zb (ze (zd (zc 1 [(9,(vP b 0))] (za (zq (zhN b n l j _ hX h_c h_f h_t (by first | rfl | assumption) (by first | rfl | assumption) (by first | omega | decide) (by first | omega | decide) (by first | omega | decide) (by first | omega | decide) (by first | omega | decide)) ?_)))))))))
 rintro _ w1 ⟨rfl,hEw1⟩
 have hzw1:=hEw1.size
 refine zan (unC (t.getD (num n l+j) Un.zero)) 77 (zK _) (zbe _) ?_
 intro w2 hBw2 hEw2 hzw2 hlw2
 refine zf (zb (ze (zd (zc 1 [(4,vF)] (zf (zb (ze (ze (zd ?_)))))))))
 refine zc 3 [(13,(vP b 5)),(12,(vP b 0)),(11,(vP b 0))] (za (zl b 5 (((hX.ext hEw1).ext hEw2).cell rfl) ?_))
 refine za (zah (some 15) (((l:Nat):Int)==((0:Nat):Int)) true (zau) ?_)
 refine zf (zb (zv (ze (zd (zc 1 [(16,(vP w1.heap.size 276))] (za (zaM (Instr.loadAt 75 (vP w1.heap.size 276)) (vA (blC (t.getD (num n l+j) Un.zero).ch)) (zfh (vs:=blC (t.getD (num n l+j) Un.zero).ch) (hBw2.at 276 (blC (t.getD (num n l+j) Un.zero).ch) (zkE _)) (by rw [zhT,Un.hch];kernel_rfl)) ?_)))))))
 refine zc 1 [(18,(vI 0))] (zf (zb (zr (zW (X:=Nat×Bool) (fun ⟨k,d⟩=> [(4,(.bool d)),(18,(vI k))]) [2,5,6,19,20,21,22,23,24,25,26,27,28,29,30,31,32,33,34,35,36] (fun ⟨k,d⟩ w3=>k≤4∧d=(List.range k).any (t.getD (num n l+j) Un.zero).g∧(∀i,i<k→(t.getD (num n l+j) Un.zero).g i=true→((t.getD (num n l+j) Un.zero).nd.rs.get i).st≠0)∧Ext w2 w3) (fun ⟨k,d⟩=>4-k) (0,false) (by kernel_rfl) ⟨by omega,rfl,fun i h=>absurd h (Nat.not_lt_zero _),Ext.refl _⟩ ?_))))
 rintro ⟨k,d⟩ dw3 w3 ⟨hk,hd,hmk,hEl⟩
 have hzl:=hEl.size
 refine ze (zd (za (zE (some 19) (decide (((k:Nat):Int)<((4:Nat):Int))) (fun hc19=> ?_) (fun hc19=> ?_))))
 ·replace hc19:k<4:=by have:=zac hc19;omega
  refine zf (zb (ze (zv (zo (zb (ze (zr (ze (zd ?_)))))))))
  refine zc 1 [(20,(vI k))] ?_
  rcases Bool.eq_false_or_eq_true (((t.getD (num n l+j) Un.zero).ch).getD k false) with hb21 | hb21
  ·refine za (zaM (Instr.index 75 (vA (blC (t.getD (num n l+j) Un.zero).ch)) (vI k)) vT (zhJ (E:=4) (m:=4) (by omega) ((zln (by first | rfl | exact Un.hch _) (by omega)).trans (congrArg (fun z=>some (Value.bool z)) hb21))) ?_)
   refine zc 2 [(6,vT),(5,(vI k))] (zf (zb (ze (ze (zd (zc 5 [(26,(vP w1.heap.size 2)),(25,(vP w1.heap.size 0)),(24,(vI k)),(23,vT),(22,vT)] (za (zbk w1.heap.size 2 k 4 35 ?_))))))))
   refine zc 1 [(28,(vP w1.heap.size (2+k*35)))] (za (zl w1.heap.size (2+k*35) ((hBw2.ext hEl).cell (zpD (by omega))) ?_))
   refine za (zE (some 30) ((((((t.getD (num n l+j) Un.zero).nd.rs.get k).st:Nat):Int)==((0:Nat):Int))) (fun hc30=> ?_) (fun hc30=> ?_))
   ·replace hc30:((t.getD (num n l+j) Un.zero).nd.rs.get k).st=0:=by have:=zbD hc30;omega
    refine zc 1 [(31,vT)] (zf (zb (zv (ze (zd (zc 1 [(2,(vI 9))] (zf (zb (zj ?_)))))))))
    exact zw (zA (zw (zw (zA (zw (zm (vI 9) (⟨congrArg (fun z:Nat=>vI z) ((if_neg (fun hh=>(zfc.1 (show zeT (t.getD (num n l+j) Un.zero) l=true from hh.1) k (by omega) hb21).2 hc30)).symm),((hEw1.trans hEw2).trans hEl)⟩)))))))
   ·replace hc30:¬(((t.getD (num n l+j) Un.zero).nd.rs.get k).st=0):=by have:=zbC hc30;omega
    refine zc 1 [(31,vF)] (zf (zb (zh (zo (zb (zd ?_))))))
    rcases Bool.eq_false_or_eq_true (d) with hb32 | hb32
    ·rw [hb32]
     refine zc 5 [(4,vT),(35,vT),(34,undef),(33,vT),(32,vT)] (zf (zi (zb (zd (za (zn (some 36) .i64 (IntKind.i64.wrap (((k:Nat):Int)+((1:Nat):Int))) (k+1) (zu) ?_))))))
     refine zc 1 [(18,(vI (k+1)))] (zf (zz (zL (k+1,true) ?_ ?_)))
     ·exact ⟨by omega,by rw [zfQ,←hd,show d=true from hb32,show (t.getD (num n l+j) Un.zero).g k=true from hb21];rfl,fun i hi hg=>by rcases Nat.lt_succ_iff_lt_or_eq.1 hi with h1 | rfl;exact hmk i h1 hg;exact hc30,hEl⟩
     ·first | omega |(dsimp only;omega)
    ·rw [hb32]
     refine zc 5 [(4,vT),(35,vT),(34,vT),(33,vF),(32,vF)] (zf (zi (zb (zd (za (zn (some 36) .i64 (IntKind.i64.wrap (((k:Nat):Int)+((1:Nat):Int))) (k+1) (zu) ?_))))))
     refine zc 1 [(18,(vI (k+1)))] (zf (zz (zL (k+1,true) ?_ ?_)))
     ·exact ⟨by omega,by rw [zfQ,←hd,show d=false from hb32,show (t.getD (num n l+j) Un.zero).g k=true from hb21];rfl,fun i hi hg=>by rcases Nat.lt_succ_iff_lt_or_eq.1 hi with h1 | rfl;exact hmk i h1 hg;exact hc30,hEl⟩
     ·first | omega |(dsimp only;omega)
  ·refine za (zaM (Instr.index 75 (vA (blC (t.getD (num n l+j) Un.zero).ch)) (vI k)) vF (zhJ (E:=4) (m:=4) (by omega) ((zln (by first | rfl | exact Un.hch _) (by omega)).trans (congrArg (fun z=>some (Value.bool z)) hb21))) ?_)
   refine zc 2 [(6,vF),(5,(vI k))] (zf (zb (ze (ze (zd (zc 10 [(31,vF),(30,undef),(29,undef),(28,undef),(27,undef),(26,undef),(25,undef),(24,undef),(23,vF),(22,vF)] (zf (zb (zh ?_)))))))))
   refine zo (zb (zd ?_))
   rcases Bool.eq_false_or_eq_true (d) with hb32 | hb32
   ·rw [hb32]
    refine zc 5 [(4,vT),(35,vT),(34,undef),(33,vT),(32,vT)] (zf (zi (zb (zd (za (zn (some 36) .i64 (IntKind.i64.wrap (((k:Nat):Int)+((1:Nat):Int))) (k+1) (zu) ?_))))))
    refine zc 1 [(18,(vI (k+1)))] (zf (zz (zL (k+1,true) ?_ ?_)))
    ·exact ⟨by omega,by rw [zfQ,←hd,show d=true from hb32,show (t.getD (num n l+j) Un.zero).g k=false from hb21];rfl,fun i hi hg=>by rcases Nat.lt_succ_iff_lt_or_eq.1 hi with h1 | rfl;exact hmk i h1 hg;exact absurd (hb21.symm.trans hg) (by decide),hEl⟩
    ·first | omega |(dsimp only;omega)
   ·rw [hb32]
    refine zc 5 [(4,vF),(35,vF),(34,vF),(33,vF),(32,vF)] (zf (zi (zb (zd (za (zn (some 36) .i64 (IntKind.i64.wrap (((k:Nat):Int)+((1:Nat):Int))) (k+1) (zu) ?_))))))
    refine zc 1 [(18,(vI (k+1)))] (zf (zz (zL (k+1,false) ?_ ?_)))
    ·exact ⟨by omega,by rw [zfQ,←hd,show d=false from hb32,show (t.getD (num n l+j) Un.zero).g k=false from hb21];rfl,fun i hi hg=>by rcases Nat.lt_succ_iff_lt_or_eq.1 hi with h1 | rfl;exact hmk i h1 hg;exact absurd (hb21.symm.trans hg) (by decide),hEl⟩
    ·first | omega |(dsimp only;omega)
 ·replace hc19:¬(k<4):=by have:=zad hc19;omega
  obtain rfl:k=4:=by omega
  have hdir:d=zc4 n t l j:=by rw [hd];unfold zc4;rw [if_pos hp7];rfl
  have hmrk:zeT (t.getD (num n l+j) Un.zero) l=true:=zfc.2 fun w hw hg=>⟨hp7,hmk w hw hg⟩
  refine zf (zb (ze (zh (zP (zp (zp (zF (zb (ze ?_)))))))))
  refine ze (zd (zc 1 [(55,(vP w1.heap.size 275))] (za (zl w1.heap.size 275 ((hBw2.ext hEl).cell (zdB _)) ?_))))
  refine zc 1 [(57,(.bool d))] ?_
  rcases Classical.em ((t.getD (num n l+j) Un.zero).dt=d) with hq58 | hq58
  ·refine za (zah (some 58) (!((t.getD (num n l+j) Un.zero).dt==d)) false (bnF hq58) ?_)
   refine zf (zb (zh (zo (zb (ze (zd (zc 1 [(2,(vI 0))] (zf (zb ?_)))))))))
   exact zj (zm (vI 0) (⟨congrArg (fun z:Nat=>vI z) ((if_pos ⟨hmrk,hq58.trans hdir⟩).symm),((hEw1.trans hEw2).trans hEl)⟩))
  ·refine za (zah (some 58) (!((t.getD (num n l+j) Un.zero).dt==d)) true (bnT hq58) ?_)
   refine zf (zb (zv (ze (zd (zc 1 [(2,(vI 9))] (zf (zb (zj (zw ?_)))))))))
   exact zm (vI 9) (⟨congrArg (fun z:Nat=>vI z) ((if_neg (fun hh=>hq58 ((show (t.getD (num n l+j) Un.zero).dt=_ from hh.2).trans hdir.symm))).symm),((hEw1.trans hEw2).trans hEl)⟩)
theorem zs3 (b n l j:Nat) {lo_c hi_c lo_f hi_f lo_t hi_t n_c c_c n_f c_f n_t c_t:Nat} {a_c a_f a_t:Option Addr} {c f:List Nat} {t:List Un} (w:World) (hX:Blk w b [(.slice a_c n_c c_c),(.slice a_f n_f c_f),(vI n),(.slice a_t n_t c_t),(vI (num n l+j)),(vI l)] 146) (h_c:Es (nv .i64) lo_c hi_c w a_c n_c c_c c) (h_f:Es (nv .i64) lo_f hi_f w a_f n_f c_f f) (h_t:Ms unC 280 lo_t hi_t w a_t n_t c_t t) (hp0:c=zaQ n (hgt n+1)) (hp1:f=zbb n (hgt n+1)) (hp2:1≤n) (hp3:n≤4096) (hp4:n_t=tot n) (hp5:l≤hgt n) (hp6:j<cnt n l) (hp7:l≠0):
  Calls Tryz.prog 81 #[(vP b 0)] w (Ret fun r w'=>r=(vI (zdY n t l j))∧Ext w w'):=by
 refine zC (n:=59) (σ:= [(0,(vP b 0))]) Tryz.func81 rfl ?_
 replace h_c:=h_c.now;replace h_f:=h_f.now;replace h_t:=h_t.now
 have hbl:=hX.lt
 have hle1:=h_c.le;have hle2:=h_f.le
 have hlc:=h_c.len_eq;rw [hp0,zb3] at hlc
 have hlf:=h_f.len_eq;rw [hp1,zcm] at hlf
 have hlt:=h_t.len_eq
 have hlet:=h_t.le
 have h5:=zat n
 have hts:=zaC hp3
 have hpl:=zaG (n:=n) (l:=l) (j:=j) hp5 hp6
 have hcn:=zbr n l
 have hgf:gt f l=num n l:=by rw [hp1];exact zcx (by omega)
 have hch:=zji (n:=n) (l:=l) (j:=j) (t:=t) (by omega) hp7 hp5 hp6
 have hpm:=zhE hp7 hp6
 have hcm:=zbr n (l-1)
 have hns:=zbX (n:=n) (l:=l-1) hp3 (by omega)
 have hpq:=zaG (n:=n) (l:=l-1) (j:=min (4*j+4) (cnt n (l-1))-1) (by omega) (by omega)
 refine ze (zd (zc 1 [(2,(vI 0))] (zf (zb (ze (zd (zc 1 [(9,(vP b 0))] (za (zq (zhN b n l j _ hX h_c h_f h_t (by first | rfl | assumption) (by first | rfl | assumption) (by first | omega | decide) (by first | omega | decide) (by first | omega | decide) (by first | omega | decide) (by first | omega | decide)) ?_)))))))))
 rintro _ w1 ⟨rfl,hEw1⟩
 have hzw1:=hEw1.size
 refine zan (unC (t.getD (num n l+j) Un.zero)) 77 (zK _) (zbe _) ?_
 intro w2 hBw2 hEw2 hzw2 hlw2
 refine zf (zb (ze (zd (zc 1 [(4,vF)] (zf (zb (ze (ze (zd ?_)))))))))
 refine zc 3 [(13,(vP b 5)),(12,(vP b 0)),(11,(vP b 0))] (za (zl b 5 (((hX.ext hEw1).ext hEw2).cell rfl) ?_))
 refine za (zah (some 15) (((l:Nat):Int)==((0:Nat):Int)) false (zct) ?_)
 refine zf (zb (zh (ze (zd (zc 1 [(38,(vP b 0))] (za (zq (zre b n l j _ ((hX.ext hEw1).ext hEw2) ((h_c.ext hEw1).ext hEw2) ((h_f.ext hEw1).ext hEw2) ((h_t.ext hEw1).ext hEw2) (by first | rfl | assumption) (by first | rfl | assumption) (by first | omega | decide) (by first | omega | decide) (by first | omega | decide) (by first | omega | decide) (by first | omega | decide) (by first | omega | decide)) ?_)))))))
 rintro _ w3 ⟨rfl,hEw3⟩
 have hzw3:=hEw3.size
 refine zc 5 [(8,(vI (min (4*j+4) (cnt n (l-1))+num n (l-1)))),(7,(vI (4*j+num n (l-1)))),(41,(vI (min (4*j+4) (cnt n (l-1))+num n (l-1)))),(40,(vI (4*j+num n (l-1)))),(37,(.tuple #[(vI (4*j+num n (l-1))),(vI (min (4*j+4) (cnt n (l-1))+num n (l-1)))]))] (zf (zb (ze (zd (zc 4 [(45,(vP b 3)),(44,(vP b 2)),(43,(vP b 0)),(42,(vP b 0))] ?_)))))
 have hK1:=(((hX.ext hEw1).ext hEw2).ext hEw3)
 refine za (zl b 3 (hK1.cell rfl) ?_)
 refine zc 2 [(48,(vI (min (4*j+4) (cnt n (l-1))+num n (l-1)))),(47,(vI (4*j+num n (l-1))))] ?_
 have hK2:=(((h_t.ext hEw1).ext hEw2).ext hEw3)
 obtain ⟨a1,hR1,hS1⟩:=hK2.slice Tryz.prog 36 77 (4*j+num n (l-1)) (min (4*j+4) (cnt n (l-1))+num n (l-1)) c_t (some (vI (4*j+num n (l-1)))) (some (vI (min (4*j+4) (cnt n (l-1))+num n (l-1)))) none
 refine za (zaM (Instr.sliceAt 36 (.slice a_t n_t c_t) (some (vI (4*j+num n (l-1)))) (some (vI (min (4*j+4) (cnt n (l-1))+num n (l-1)))) none) (.slice a1 (min (4*j+4) (cnt n (l-1))+num n (l-1)-(4*j+num n (l-1))) (c_t-(4*j+num n (l-1)))) (hR1 _) ?_)
 rcases Classical.em (∀i,i<List.length ((t.drop (4*j+num n (l-1))).take (min (4*j+4) (cnt n (l-1))+num n (l-1)-(4*j+num n (l-1))))→(((t.drop (4*j+num n (l-1))).take (min (4*j+4) (cnt n (l-1))+num n (l-1)-(4*j+num n (l-1)))).getD i Un.zero).dt=false) with hq50 | hq50
 ·refine za (zq (zsH _ hS1 (hq50)) ?_)
  rintro _ w4 ⟨rfl,hEw4⟩
  have hzw4:=hEw4.size
  refine zc 1 [(4,vF)] (zf (zb (ze (zd (zc 1 [(51,(vP w1.heap.size 276))] (za (zaM (Instr.loadAt 75 (vP w1.heap.size 276)) (vA (blC (t.getD (num n l+j) Un.zero).ch)) (zfh (vs:=blC (t.getD (num n l+j) Un.zero).ch) (((hBw2.ext hEw3).ext hEw4).at 276 (blC (t.getD (num n l+j) Un.zero).ch) (zkE _)) (by rw [zhT,Un.hch];kernel_rfl)) ?_)))))))
  refine zc 1 [(53,(vA (blC (List.replicate 4 false))))] ?_
  rcases Classical.em ((t.getD (num n l+j) Un.zero).ch=List.replicate 4 false) with hq54 | hq54
  ·refine za (zaM (bo .neq 75 (.tmp 52) (.tmp 53) (vA (blC (t.getD (num n l+j) Un.zero).ch)) (vA (blC (List.replicate 4 false)))) vF (zap (r:=true) (T:=75) ((zdV (dd:=9998) (t:=75) (e:=4) ((t.getD (num n l+j) Un.zero).ch) (List.replicate 4 false) (by first | rfl | exact Un.hch _) (by first | rfl | exact Un.hch _)).trans (congrArg (fun b=>Result.ok b _) (show (eqL false (fun a b:Bool=>a==b) 4 ((t.getD (num n l+j) Un.zero).ch) (List.replicate 4 false))=true from (zn8 (Un.hch _) rfl).2 hq54)))) ?_)
   refine zf (zb (zh (zo (zb (ze (ze (zd (zc 1 [(55,(vP w1.heap.size 275))] (za (zl w1.heap.size 275 (((hBw2.ext hEw3).ext hEw4).cell (zdB _)) ?_))))))))))
   refine zc 1 [(57,vF)] ?_
   rcases Classical.em ((t.getD (num n l+j) Un.zero).dt=false) with hq58 | hq58
   ·refine za (zah (some 58) (!((t.getD (num n l+j) Un.zero).dt==false)) false (bnF hq58) ?_)
    refine zf (zb (zh (zo (zb (ze (zd (zc 1 [(2,(vI 0))] (zf (zb ?_)))))))))
    refine zj (zm (vI 0) ?_)
    have hX1:Ext w w4:=(((hEw1.trans hEw2).trans hEw3).trans hEw4)
    have hdv:zc4 n t l j=false:=(zgT (by omega) hp7 hp5 hp6).2 hq50
    exact ⟨congrArg (fun z:Nat=>vI z) ((if_pos ⟨(ziW hp7).2 hq54,(show (t.getD (num n l+j) Un.zero).dt=_ from hq58).trans hdv.symm⟩).symm),hX1⟩
   ·refine za (zah (some 58) (!((t.getD (num n l+j) Un.zero).dt==false)) true (bnT hq58) ?_)
    refine zf (zb (zv (ze (zd (zc 1 [(2,(vI 9))] (zf (zb (zj (zw ?_)))))))))
    refine zm (vI 9) ?_
    have hX2:Ext w w4:=(((hEw1.trans hEw2).trans hEw3).trans hEw4)
    have hdv:zc4 n t l j=false:=(zgT (by omega) hp7 hp5 hp6).2 hq50
    exact ⟨congrArg (fun z:Nat=>vI z) ((if_neg (fun hh=>hq58 ((show (t.getD (num n l+j) Un.zero).dt=_ from hh.2).trans hdv))).symm),hX2⟩
  ·refine za (zaM (bo .neq 75 (.tmp 52) (.tmp 53) (vA (blC (t.getD (num n l+j) Un.zero).ch)) (vA (blC (List.replicate 4 false)))) vT (zap (r:=false) (T:=75) ((zdV (dd:=9998) (t:=75) (e:=4) ((t.getD (num n l+j) Un.zero).ch) (List.replicate 4 false) (by first | rfl | exact Un.hch _) (by first | rfl | exact Un.hch _)).trans (congrArg (fun b=>Result.ok b _) (show (eqL false (fun a b:Bool=>a==b) 4 ((t.getD (num n l+j) Un.zero).ch) (List.replicate 4 false))=false from zrd (Un.hch _) rfl hq54)))) ?_)
   refine zf (zb (zv (ze (zd (zc 1 [(2,(vI 9))] (zf (zb (zj (zw ?_)))))))))
   refine zm (vI 9) ?_
   have hX3:Ext w w4:=(((hEw1.trans hEw2).trans hEw3).trans hEw4)
   exact ⟨congrArg (fun z:Nat=>vI z) ((if_neg (fun hh=>hq54 ((ziW hp7).1 hh.1))).symm),hX3⟩
 ·refine za (zq (zsn _ hS1 (hq50)) ?_)
  rintro _ w5 ⟨rfl,hEw5⟩
  have hzw5:=hEw5.size
  refine zc 1 [(4,vT)] (zf (zb (ze (zd (zc 1 [(51,(vP w1.heap.size 276))] (za (zaM (Instr.loadAt 75 (vP w1.heap.size 276)) (vA (blC (t.getD (num n l+j) Un.zero).ch)) (zfh (vs:=blC (t.getD (num n l+j) Un.zero).ch) (((hBw2.ext hEw3).ext hEw5).at 276 (blC (t.getD (num n l+j) Un.zero).ch) (zkE _)) (by rw [zhT,Un.hch];kernel_rfl)) ?_)))))))
  refine zc 1 [(53,(vA (blC (List.replicate 4 false))))] ?_
  rcases Classical.em ((t.getD (num n l+j) Un.zero).ch=List.replicate 4 false) with hq54 | hq54
  ·refine za (zaM (bo .neq 75 (.tmp 52) (.tmp 53) (vA (blC (t.getD (num n l+j) Un.zero).ch)) (vA (blC (List.replicate 4 false)))) vF (zap (r:=true) (T:=75) ((zdV (dd:=9998) (t:=75) (e:=4) ((t.getD (num n l+j) Un.zero).ch) (List.replicate 4 false) (by first | rfl | exact Un.hch _) (by first | rfl | exact Un.hch _)).trans (congrArg (fun b=>Result.ok b _) (show (eqL false (fun a b:Bool=>a==b) 4 ((t.getD (num n l+j) Un.zero).ch) (List.replicate 4 false))=true from (zn8 (Un.hch _) rfl).2 hq54)))) ?_)
   refine zf (zb (zh (zo (zb (ze (ze (zd (zc 1 [(55,(vP w1.heap.size 275))] (za (zl w1.heap.size 275 (((hBw2.ext hEw3).ext hEw5).cell (zdB _)) ?_))))))))))
   refine zc 1 [(57,vT)] ?_
   rcases Classical.em ((t.getD (num n l+j) Un.zero).dt=true) with hq58 | hq58
   ·refine za (zah (some 58) (!((t.getD (num n l+j) Un.zero).dt==true)) false (bnF hq58) ?_)
    refine zf (zb (zh (zo (zb (ze (zd (zc 1 [(2,(vI 0))] (zf (zb ?_)))))))))
    refine zj (zm (vI 0) ?_)
    have hX4:Ext w w5:=(((hEw1.trans hEw2).trans hEw3).trans hEw5)
    have hdv:zc4 n t l j=true:=by cases hd:zc4 n t l j with | true=>rfl | false=>exact absurd ((zgT (by omega) hp7 hp5 hp6).1 hd) hq50
    exact ⟨congrArg (fun z:Nat=>vI z) ((if_pos ⟨(ziW hp7).2 hq54,(show (t.getD (num n l+j) Un.zero).dt=_ from hq58).trans hdv.symm⟩).symm),hX4⟩
   ·refine za (zah (some 58) (!((t.getD (num n l+j) Un.zero).dt==true)) true (bnT hq58) ?_)
    refine zf (zb (zv (ze (zd (zc 1 [(2,(vI 9))] (zf (zb (zj (zw ?_)))))))))
    refine zm (vI 9) ?_
    have hX5:Ext w w5:=(((hEw1.trans hEw2).trans hEw3).trans hEw5)
    have hdv:zc4 n t l j=true:=by cases hd:zc4 n t l j with | true=>rfl | false=>exact absurd ((zgT (by omega) hp7 hp5 hp6).1 hd) hq50
    exact ⟨congrArg (fun z:Nat=>vI z) ((if_neg (fun hh=>hq58 ((show (t.getD (num n l+j) Un.zero).dt=_ from hh.2).trans hdv))).symm),hX5⟩
  ·refine za (zaM (bo .neq 75 (.tmp 52) (.tmp 53) (vA (blC (t.getD (num n l+j) Un.zero).ch)) (vA (blC (List.replicate 4 false)))) vT (zap (r:=false) (T:=75) ((zdV (dd:=9998) (t:=75) (e:=4) ((t.getD (num n l+j) Un.zero).ch) (List.replicate 4 false) (by first | rfl | exact Un.hch _) (by first | rfl | exact Un.hch _)).trans (congrArg (fun b=>Result.ok b _) (show (eqL false (fun a b:Bool=>a==b) 4 ((t.getD (num n l+j) Un.zero).ch) (List.replicate 4 false))=false from zrd (Un.hch _) rfl hq54)))) ?_)
   refine zf (zb (zv (ze (zd (zc 1 [(2,(vI 9))] (zf (zb (zj (zw ?_)))))))))
   refine zm (vI 9) ?_
   have hX6:Ext w w5:=(((hEw1.trans hEw2).trans hEw3).trans hEw5)
   exact ⟨congrArg (fun z:Nat=>vI z) ((if_neg (fun hh=>hq54 ((ziW hp7).1 hh.1))).symm),hX6⟩
theorem ztx (b n l j:Nat) {lo_c hi_c lo_f hi_f lo_t hi_t n_c c_c n_f c_f n_t c_t:Nat} {a_c a_f a_t:Option Addr} {c f:List Nat} {t:List Un} (w:World) (hX:Blk w b [(.slice a_c n_c c_c),(.slice a_f n_f c_f),(vI n),(.slice a_t n_t c_t),(vI (num n l+j)),(vI l)] 146) (h_c:Es (nv .i64) lo_c hi_c w a_c n_c c_c c) (h_f:Es (nv .i64) lo_f hi_f w a_f n_f c_f f) (h_t:Ms unC 280 lo_t hi_t w a_t n_t c_t t) (hp0:c=zaQ n (hgt n+1)) (hp1:f=zbb n (hgt n+1)) (hp2:1≤n) (hp3:n≤4096) (hp4:n_t=tot n) (hp5:l≤hgt n) (hp6:j<cnt n l):
  Calls Tryz.prog 81 #[(vP b 0)] w (Ret fun r w'=>r=(vI (zdY n t l j))∧Ext w w'):=by
 by_cases h:l=0
 ·exact zsL b n l j w hX h_c h_f h_t hp0 hp1 hp2 hp3 hp4 hp5 hp6 h
 ·exact zs3 b n l j w hX h_c h_f h_t hp0 hp1 hp2 hp3 hp4 hp5 hp6 h
theorem zsF (b n l j:Nat) {lo_c hi_c lo_f hi_f lo_t hi_t n_c c_c n_f c_f n_t c_t:Nat} {a_c a_f a_t:Option Addr} {c f:List Nat} {t:List Un} (w:World) (hX:Blk w b [(.slice a_c n_c c_c),(.slice a_f n_f c_f),(vI n),(.slice a_t n_t c_t),(vI (num n l+j)),(vI l)] 146) (h_c:Es (nv .i64) lo_c hi_c w a_c n_c c_c c) (h_f:Es (nv .i64) lo_f hi_f w a_f n_f c_f f) (h_t:Ms unC 280 lo_t hi_t w a_t n_t c_t t) (hp0:c=zaQ n (hgt n+1)) (hp1:f=zbb n (hgt n+1)) (hp2:1≤n) (hp3:n≤4096) (hp4:n_t=tot n) (hp5:l≤hgt n) (hp6:j<cnt n l) (hp7:l=0):
  Calls Tryz.prog 82 #[(vP b 0)] w (Ret fun r w'=>r=(vI (zek n t l j))∧Ext w w'):=by
 refine zC (n:=41) (σ:= [(0,(vP b 0))]) Tryz.func82 rfl ?_
 replace h_c:=h_c.now;replace h_f:=h_f.now;replace h_t:=h_t.now
 have hbl:=hX.lt
 have hle1:=h_c.le;have hle2:=h_f.le
 have hlc:=h_c.len_eq;rw [hp0,zb3] at hlc
 have hlf:=h_f.len_eq;rw [hp1,zcm] at hlf
 have hlt:=h_t.len_eq
 have hlet:=h_t.le
 have h5:=zat n
 have hts:=zaC hp3
 have hpl:=zaG (n:=n) (l:=l) (j:=j) hp5 hp6
 have hcn:=zbr n l
 have hgf:gt f l=num n l:=by rw [hp1];exact zcx (by omega)
 refine ze (zd (zc 1 [(2,(vI 0))] (zf (zb (ze (ze (zd (zc 3 [(9,(vP b 5)),(8,(vP b 0)),(7,(vP b 0))] (za (zl b 5 (hX.cell rfl) ?_))))))))))
 refine za (zah (some 11) (((l:Nat):Int)==((0:Nat):Int)) true (zau) ?_)
 refine zf (zb (zv (ze (zd (zc 1 [(2,(vI 0))] (zf (zb (zj (zw ?_)))))))))
 exact zm (vI 0) (⟨congrArg (fun z:Nat=>vI z) ((if_pos (zfb.2 (.inl hp7))).symm),(Ext.refl _)⟩)
theorem zsi (b n l j:Nat) {lo_c hi_c lo_f hi_f lo_t hi_t n_c c_c n_f c_f n_t c_t:Nat} {a_c a_f a_t:Option Addr} {c f:List Nat} {t:List Un} (w:World) (hX:Blk w b [(.slice a_c n_c c_c),(.slice a_f n_f c_f),(vI n),(.slice a_t n_t c_t),(vI (num n l+j)),(vI l)] 146) (h_c:Es (nv .i64) lo_c hi_c w a_c n_c c_c c) (h_f:Es (nv .i64) lo_f hi_f w a_f n_f c_f f) (h_t:Ms unC 280 lo_t hi_t w a_t n_t c_t t) (hp0:c=zaQ n (hgt n+1)) (hp1:f=zbb n (hgt n+1)) (hp2:1≤n) (hp3:n≤4096) (hp4:n_t=tot n) (hp5:l≤hgt n) (hp6:j<cnt n l) (hp7:l≠0) (hp8:∀w,w<prt n l j→((t.getD (num n (l-1)+(4*j+w)) Un.zero).sl=0∨(t.getD (num n (l-1)+(4*j+w)) Un.zero).sl=1)∧zaz (t.getD (num n (l-1)+(4*j+w)) Un.zero).nd=0) (hg0:Gl 0 [vI 45,vI 33] w) (hg1:Gl 1 (w8C zbm) w) (hg2:Gl 3 (zax kA) w):
  Calls Tryz.prog 82 #[(vP b 0)] w (Ret fun r w'=>r=(vI (zek n t l j))∧Ext w w'):=by
 refine zC (n:=41) (σ:= [(0,(vP b 0))]) Tryz.func82 rfl ?_
 have hgl0:=hg0.lt
 have hgl1:=hg1.lt
 have hgl2:=hg2.lt
 replace h_c:=h_c.now;replace h_f:=h_f.now;replace h_t:=h_t.now
 have hbl:=hX.lt
 have hle1:=h_c.le;have hle2:=h_f.le
 have hlc:=h_c.len_eq;rw [hp0,zb3] at hlc
 have hlf:=h_f.len_eq;rw [hp1,zcm] at hlf
 have hlt:=h_t.len_eq
 have hlet:=h_t.le
 have h5:=zat n
 have hts:=zaC hp3
 have hpl:=zaG (n:=n) (l:=l) (j:=j) hp5 hp6
 have hcn:=zbr n l
 have hgf:gt f l=num n l:=by rw [hp1];exact zcx (by omega)
 have hch:=zji (n:=n) (l:=l) (j:=j) (t:=t) (by omega) hp7 hp5 hp6
 have hpm:=zhE hp7 hp6
 have hcm:=zbr n (l-1)
 have hns:=zbX (n:=n) (l:=l-1) hp3 (by omega)
 have hpq:=zaG (n:=n) (l:=l-1) (j:=min (4*j+4) (cnt n (l-1))-1) (by omega) (by omega)
 refine ze (zd (zc 1 [(2,(vI 0))] (zf (zb (ze (ze (zd (zc 3 [(9,(vP b 5)),(8,(vP b 0)),(7,(vP b 0))] (za (zl b 5 (hX.cell rfl) ?_))))))))))
 refine za (zah (some 11) (((l:Nat):Int)==((0:Nat):Int)) false (zct) ?_)
 refine zf (zb (zh (zo (zb (ze (zd (zc 1 [(13,(vP b 0))] (za (zq (zre b n l j _ hX h_c h_f h_t (by first | rfl | assumption) (by first | rfl | assumption) (by first | omega | decide) (by first | omega | decide) (by first | omega | decide) (by first | omega | decide) (by first | omega | decide) (by first | omega | decide)) ?_)))))))))
 rintro _ w1 ⟨rfl,hEw1⟩
 have hzw1:=hEw1.size
 refine zc 5 [(4,(vI (min (4*j+4) (cnt n (l-1))+num n (l-1)))),(3,(vI (4*j+num n (l-1)))),(16,(vI (min (4*j+4) (cnt n (l-1))+num n (l-1)))),(15,(vI (4*j+num n (l-1)))),(12,(.tuple #[(vI (4*j+num n (l-1))),(vI (min (4*j+4) (cnt n (l-1))+num n (l-1)))]))] (zf (zb (ze (ze (zd (zc 4 [(20,(vP b 3)),(19,(vP b 2)),(18,(vP b 0)),(17,(vP b 0))] (za (zl b 3 ((hX.ext hEw1).cell rfl) ?_))))))))
 refine zc 2 [(23,(vI (min (4*j+4) (cnt n (l-1))+num n (l-1)))),(22,(vI (4*j+num n (l-1))))] ?_
 obtain ⟨a1,hR1,hS1⟩:=(h_t.ext hEw1).slice Tryz.prog 36 77 (4*j+num n (l-1)) (min (4*j+4) (cnt n (l-1))+num n (l-1)) c_t (some (vI (4*j+num n (l-1)))) (some (vI (min (4*j+4) (cnt n (l-1))+num n (l-1)))) none
 refine za (zaM (Instr.sliceAt 36 (.slice a_t n_t c_t) (some (vI (4*j+num n (l-1)))) (some (vI (min (4*j+4) (cnt n (l-1))+num n (l-1)))) none) (.slice a1 (min (4*j+4) (cnt n (l-1))+num n (l-1)-(4*j+num n (l-1))) (c_t-(4*j+num n (l-1)))) (hR1 _) ?_)
 refine zc 2 [(26,(vI 0)),(25,(vI (min (4*j+4) (cnt n (l-1))+num n (l-1)-(4*j+num n (l-1)))))] (zf (zb (zr (zW (X:=Nat) (fun k=> [(26,(vI k))]) [2,5,6,27,28,29,30,31,32,33,34,35,36,37,38,39,40] (fun k w2=>k≤prt n l j∧(∀i,i<k→((t.getD (num n l+j) Un.zero).nd.es.get i)=enU (t.getD (num n (l-1)+(4*j+i)) Un.zero))∧Ext w1 w2) (fun k=>prt n l j-k) 0 (by kernel_rfl) ⟨Nat.zero_le _,fun i h=>absurd h (Nat.not_lt_zero _),Ext.refl _⟩ ?_))))
 rintro k dw2 w2 ⟨hk,hen,hEl⟩
 have hzl:=hEl.size
 refine ze (zd (za (zE (some 27) (decide (((k:Nat):Int)<((min (4*j+4) (cnt n (l-1))+num n (l-1)-(4*j+num n (l-1)):Nat):Int))) (fun hc27=> ?_) (fun hc27=> ?_))))
 ·replace hc27:k<min (4*j+4) (cnt n (l-1))+num n (l-1)-(4*j+num n (l-1)):=by have:=zac hc27;omega
  have hkp:k<prt n l j:=by omega
  obtain ⟨hm1,hm2,hm3⟩:=zeg hp7 hp5 hp6 hkp
  obtain ⟨hs0,hs1⟩:=hp8 k hkp
  refine zf (zb (ze (zv (zo (zb (ze (zr (ze (zd ?_)))))))))
  refine zc 1 [(28,(vI k))] ?_
  obtain ⟨b1,o1,rfl⟩:=hS1.addr (by omega) (by decide)
  refine za (zai b1 o1 (min (4*j+4) (cnt n (l-1))+num n (l-1)-(4*j+num n (l-1))) (c_t-(4*j+num n (l-1))) k 280 ?_)
  refine za (zS b1 (o1+k*280) (by have hz:=(hS1.ext hEl).at Un.zero (i:=k) (by omega);rw [show ((t.drop (4*j+num n (l-1))).take (min (4*j+4) (cnt n (l-1))+num n (l-1)-(4*j+num n (l-1)))).getD k Un.zero=(t.getD (num n (l-1)+(4*j+k)) Un.zero) from zjg (by omega) hp7 hp5 hp6 hkp] at hz;exact hz) (zK _) ?_)
  refine za (zaf (unC Un.zero) 77 ?_)
  intro w3 hBw3 hEw3 hzw3 hlw3
  refine zc 1 [(5,(vI k))] (za (zG 77 w2.heap.size 0 77 (vA (unC (t.getD (num n (l-1)+(4*j+k)) Un.zero))) (unC Un.zero) (unC (t.getD (num n (l-1)+(4*j+k)) Un.zero)) hBw3 (by rw [zK];kernel_rfl) (by first |(simp;done)|(simp;omega)) (zbe _) ?_))
  intro w4 hBw4 hCw4
  have hzw4:=hCw4.size
  rw [zy _ _ (by simp)] at hBw4
  refine zf (zb (ze (zaa 9 (fun w5 hEw5 hzw5 hT290=> ?_))))
  refine zg hT290 [(0,31,(vP b 0)),(4,35,(vI k))] 2 (zal hT290 6 w2.heap.size 0 (fun w' hC=>(((hBw4.ext hEw5).ext hC).all)) (zK _) ?_)
  have hK1:=(((((hX.ext hEw1).ext hEl).ext hEw3).chg hCw4).ext hEw5)
  have hK2:=(((((h_c.ext hEw1).ext hEl).ext hEw3).chg hCw4).ext hEw5)
  have hK3:=(((((h_f.ext hEw1).ext hEl).ext hEw3).chg hCw4).ext hEw5)
  have hK4:=(((((h_t.ext hEw1).ext hEl).ext hEw3).chg hCw4).ext hEw5)
  refine zx 1 (zq (zhN b n l j _ hK1 hK2 hK3 hK4 (by first | rfl | assumption) (by first | rfl | assumption) (by first | omega | decide) (by first | omega | decide) (by first | omega | decide) (by first | omega | decide) (by first | omega | decide)) ?_)
  rintro _ w6 ⟨rfl,hEw6⟩
  have hzw6:=hEw6.size
  refine ⟨.inr hEw6, ?_⟩
  refine zk (hw:=hEw6) hT290 2 (vA (zJ (t.getD (num n l+j) Un.zero).nd)) (zae (Instr.field 77 (vA (unC (t.getD (num n l+j) Un.zero))) 0) (fun w' hC=>zkN (F:=74) (us:=zJ (t.getD (num n l+j) Un.zero).nd) (zdR _) (zO _))) (zk (hw:=hEw6) hT290 3 (vA (e4C ((t.getD (num n l+j) Un.zero).nd).es)) (zae (Instr.field 74 (vA (zJ (t.getD (num n l+j) Un.zero).nd)) 3) (fun w' hC=>zkN (F:=72) (us:=e4C ((t.getD (num n l+j) Un.zero).nd).es) (zf4 _) (zeb _))) (zk (hw:=hEw6) hT290 5 (vA (zaj ((((t.getD (num n l+j) Un.zero).nd).es).get k))) (zae (Instr.index 72 (vA (e4C ((t.getD (num n l+j) Un.zero).nd).es)) (vI k)) (fun w' hC=>zhw (E:=71) (m:=4) (sz:=33) (us:=zaj ((((t.getD (num n l+j) Un.zero).nd).es).get k)) (by omega) (zkc (by omega)))) ?_))
  have hK5:=((((((hg0.ext hEw1).ext hEl).ext hEw3).chg hCw4).ext hEw5).ext hEw6)
  have hK6:=((((((hg1.ext hEw1).ext hEl).ext hEw3).chg hCw4).ext hEw5).ext hEw6)
  have hK7:=((((((hg2.ext hEw1).ext hEl).ext hEw3).chg hCw4).ext hEw5).ext hEw6)
  refine zx 7 (zq (zlj (t.getD (num n (l-1)+(4*j+k)) Un.zero) _ (hs0) (hs1) hK5 hK6 hK7) ?_)
  rintro _ w7 ⟨rfl,hEw7⟩
  have hzw7:=hEw7.size
  have hX1:Ext w5 w7:=(hEw6.trans hEw7)
  refine ⟨.inr hX1, ?_⟩
  rcases Bool.eq_false_or_eq_true (((t.getD (num n l+j) Un.zero).nd.es.get k).eqb (enU (t.getD (num n (l-1)+(4*j+k)) Un.zero))) with hq39 | hq39
  ·refine zk (hw:=hX1) hT290 8 vF (zae (bo .neq 71 (.tmp 36) (.tmp 38) (vA (zaj ((((t.getD (num n l+j) Un.zero).nd).es).get k))) (vA (zaj (enU (t.getD (num n (l-1)+(4*j+k)) Un.zero))))) (fun w' hC=>zap (r:=true) (T:=71) ((zcq (dd:=9997) (t:=71) (t8:=5) (td:=59) (e:=5) ((((t.getD (num n l+j) Un.zero).nd).es).get k) (enU (t.getD (num n (l-1)+(4*j+k)) Un.zero))).trans (congrArg (fun b=>Result.ok b _) (show (((((t.getD (num n l+j) Un.zero).nd).es).get k).eqb (enU (t.getD (num n (l-1)+(4*j+k)) Un.zero)))=true from hq39))))) (zD (zb (zh (zo (zi (zb (zd (za (zn (some 40) .i64 (IntKind.i64.wrap (((k:Nat):Int)+((1:Nat):Int))) (k+1) (zu) ?_)))))))))
   refine zc 1 [(26,(vI (k+1)))] (zf (zz ?_))
   have hX2:Ext w1 w7:=((((Ext.own (hEl.trans hEw3) hCw4 (by omega)).trans hEw5).trans hEw6).trans hEw7)
   refine zL (k+1) ?_ ?_
   ·exact ⟨by omega,fun i hi=>by rcases Nat.lt_succ_iff_lt_or_eq.1 hi with h1 | rfl;exact hen i h1;exact (Ent.eqb_iff _ _).1 hq39,hX2⟩
   ·first | omega |(dsimp only;omega)
  ·refine zk (hw:=hX1) hT290 8 vT (zae (bo .neq 71 (.tmp 36) (.tmp 38) (vA (zaj ((((t.getD (num n l+j) Un.zero).nd).es).get k))) (vA (zaj (enU (t.getD (num n (l-1)+(4*j+k)) Un.zero))))) (fun w' hC=>zap (r:=false) (T:=71) ((zcq (dd:=9997) (t:=71) (t8:=5) (td:=59) (e:=5) ((((t.getD (num n l+j) Un.zero).nd).es).get k) (enU (t.getD (num n (l-1)+(4*j+k)) Un.zero))).trans (congrArg (fun b=>Result.ok b _) (show (((((t.getD (num n l+j) Un.zero).nd).es).get k).eqb (enU (t.getD (num n (l-1)+(4*j+k)) Un.zero)))=false from hq39))))) (zD (zb (zv (ze (zd (zc 1 [(2,(vI 9))] (zf (zb (zj ?_)))))))))
   refine zA (zw (zw (zA (zw (zm (vI 9) ?_)))))
   have hX3:Ext w w7:=((((Ext.own ((hEw1.trans hEl).trans hEw3) hCw4 (by omega)).trans hEw5).trans hEw6).trans hEw7)
   exact ⟨congrArg (fun z:Nat=>vI z) ((if_neg (fun hh=>by have h1:=((zfb.1 hh).resolve_left hp7) k hkp;rw [(Ent.eqb_iff _ _).2 (show ((t.getD (num n l+j) Un.zero).nd.es.get k)=enU (t.getD (num n (l-1)+(4*j+k)) Un.zero) from h1)] at hq39;cases hq39)).symm),hX3⟩
 ·replace hc27:¬(k<min (4*j+4) (cnt n (l-1))+num n (l-1)-(4*j+num n (l-1))):=by have:=zad hc27;omega
  obtain rfl:k=prt n l j:=by omega
  refine zf (zb (ze (zh (zP (zp (zp (zF (zb (ze ?_)))))))))
  exact zd (zc 1 [(2,(vI 0))] (zf (zb (zj (zm (vI 0) (⟨congrArg (fun z:Nat=>vI z) ((if_pos (zfb.2 (.inr fun w hw=>hen w hw))).symm),(hEw1.trans hEl)⟩))))))
theorem ztF (b n l j:Nat) {lo_c hi_c lo_f hi_f lo_t hi_t n_c c_c n_f c_f n_t c_t:Nat} {a_c a_f a_t:Option Addr} {c f:List Nat} {t:List Un} (w:World) (hX:Blk w b [(.slice a_c n_c c_c),(.slice a_f n_f c_f),(vI n),(.slice a_t n_t c_t),(vI (num n l+j)),(vI l)] 146) (h_c:Es (nv .i64) lo_c hi_c w a_c n_c c_c c) (h_f:Es (nv .i64) lo_f hi_f w a_f n_f c_f f) (h_t:Ms unC 280 lo_t hi_t w a_t n_t c_t t) (hp0:c=zaQ n (hgt n+1)) (hp1:f=zbb n (hgt n+1)) (hp2:1≤n) (hp3:n≤4096) (hp4:n_t=tot n) (hp5:l≤hgt n) (hp6:j<cnt n l) (hp7:l≠0→∀w,w<prt n l j→((t.getD (num n (l-1)+(4*j+w)) Un.zero).sl=0∨(t.getD (num n (l-1)+(4*j+w)) Un.zero).sl=1)∧zaz (t.getD (num n (l-1)+(4*j+w)) Un.zero).nd=0) (hg0:Gl 0 [vI 45,vI 33] w) (hg1:Gl 1 (w8C zbm) w) (hg2:Gl 3 (zax kA) w):
  Calls Tryz.prog 82 #[(vP b 0)] w (Ret fun r w'=>r=(vI (zek n t l j))∧Ext w w'):=by
 by_cases h:l=0
 ·exact zsF b n l j w hX h_c h_f h_t hp0 hp1 hp2 hp3 hp4 hp5 hp6 h
 ·exact zsi b n l j w hX h_c h_f h_t hp0 hp1 hp2 hp3 hp4 hp5 hp6 h (hp7 h) hg0 hg1 hg2
end Go.Proofs.YtkmhgepdhilllaaGreatDoor
namespace Go.Proofs.YtkmhgepdhilllaaGreatDoor
open Go Go.RowKit Go.Cs
set_option maxRecDepth 100000
set_option maxHeartbeats 4000000 in
theorem zlJ (n:Nat) {lo_t hi_t:Nat} {a_t:Option Addr} {n_t c_t:Nat} {t:List Un} (w:World) (h_t:Ms unC 280 lo_t hi_t w a_t n_t c_t t) (hp0:1≤n) (hp1:n≤4096) (hp2:n_t=tot n) (hp3:∀i,i<t.length→(t.getD i Un.zero).sl=0∨(t.getD i Un.zero).sl=1) (hg0:Gl 0 [vI 45,vI 33] w) (hg1:Gl 1 (w8C zbm) w) (hg2:Gl 3 (zax kA) w):
  Calls Tryz.prog 55 #[(vA [(vI n),(.slice a_t n_t c_t)])] w (Ret fun r w'=>∃a0 ca0 a1 ca1,r=(.tuple #[(vA [(.slice a0 (hgt n+1) ca0),(.slice a1 (hgt n+1) ca1)]),(vI (zbP n (zbg n t)))])∧Es (nv .i64) w.heap.size w'.heap.size w' a0 (hgt n+1) ca0 (zaQ n (hgt n+1))∧Es (nv .i64) w.heap.size w'.heap.size w' a1 (hgt n+1) ca1 (zbb n (hgt n+1))∧Ext w w'):=by
 refine zeG (n:=64) (σ:= [(0,(vA [(vI n),(.slice a_t n_t c_t)]))]) Tryz.func55 rfl ?_
 replace h_t:=h_t.now;have hle_t:=h_t.le
 have hgl0:=hg0.lt
 have hgl1:=hg1.lt
 have hgl2:=hg2.lt
 have h5:=zat n
 have hlt:=h_t.len_eq
 have hts:=zaC hp1
 have hle:=h_t.le
 refine ze (zd (za (zab (Instr.box 38 (vA [(vI n),(.slice a_t n_t c_t)])) (vP w.heap.size 0) ([(vI n),(.slice a_t n_t c_t)]) 38 ?_)))
 intro w1 hBw1 hEw1 hzw1 hlw1
 refine za (zaf ([(.slice none 0 0),(.slice none 0 0)]) 114 ?_)
 intro w2 hBw2 hEw2 hzw2 hlw2
 refine za (zaf ([(vI 0)]) 39 ?_)
 intro w3 hBw3 hEw3 hzw3 hlw3
 refine zf (zb (ze (zd (zc 1 [(13,(vP w.heap.size 0))] (za (zl w.heap.size 0 (((hBw1.ext hEw2).ext hEw3).cell rfl) ?_))))))
 refine za (zq (zkG n _ (by omega) (by omega)) ?_)
 rintro _ w4 ⟨a1,ca1,a2,ca2,rfl,hFz1_0,hFz1_1,hEw4⟩
 have hzw4:=hEw4.size
 have hlea1:=hFz1_0.le
 have hlea2:=hFz1_1.le
 refine zc 3 [(17,(vI 0)),(16,(vA [(.slice a1 (hgt n+1) ca1),(.slice a2 (hgt n+1) ca2)])),(12,(.tuple #[(vA [(.slice a1 (hgt n+1) ca1),(.slice a2 (hgt n+1) ca2)]),(vI 0)]))] (zan ([(.slice a1 (hgt n+1) ca1),(.slice a2 (hgt n+1) ca2)]) 114 rfl (by simp [Value.oneCell']) ?_)
 intro w5 hBw5 hEw5 hzw5 hlw5
 refine zc 1 [(5,(vI 0))] (zf (zb (ze (ze (zd (zc 1 [(18,(vI 0))] (za (zah (some 19) (((0:Nat):Int) !=((0:Nat):Int)) false (zaE) ?_))))))))
 refine zf (zb (zh (zo (zb (ze (ze (zaa 11 (fun w6 hEw6 hzw6 hT49=> ?_))))))))
 refine zg hT49 [(0,22,(vP w.heap.size 1))] 1 ?_
 have hK1:=(((((hBw1.ext hEw2).ext hEw3).ext hEw4).ext hEw5).ext hEw6)
 refine zt hT49 1 w.heap.size 1 (fun w' hC=>((hK1.ext hC).cell rfl)) (zg hT49 [(2,24,(vI n_t))] 1 (zaT hT49 3 w4.heap.size 0 (fun w' hC=>(((hBw5.ext hEw6).ext hC).all)) (zx 4 (zq (zia n _ ((hFz1_0.ext hEw5).ext hEw6) ((hFz1_1.ext hEw5).ext hEw6) (by first | rfl | assumption) (by first | rfl | assumption) (by first | omega | decide) (by first | omega | decide)) ?_))))
 rintro _ w7 ⟨rfl,hEw7⟩
 have hzw7:=hEw7.size
 refine ⟨.inr hEw7, ?_⟩
 refine zk (hw:=hEw7) hT49 5 vF (zaJ (((n_t:Nat):Int) !=((tot n:Nat):Int)) (zaE)) (zg (hw:=hEw7) hT49 [(6,28,vF),(7,29,(vP w.heap.size 1))] 2 (zt (hw:=hEw7) hT49 8 w.heap.size 1 (fun w' hC=>((hK1.ext hC).cell rfl)) ?_))
 have hK2:=(((((((h_t.ext hEw1).ext hEw2).ext hEw3).ext hEw4).ext hEw5).ext hEw6).ext hEw7)
 refine zx 9 (zq (zr6 _ hK2 (hp3)) ?_)
 rintro _ w8 ⟨rfl,hEw8⟩
 have hzw8:=hEw8.size
 have hX1:Ext w6 w8:=(hEw7.trans hEw8)
 refine ⟨.inr hX1, ?_⟩
 refine zg (hw:=hX1) hT49 [(10,32,vF)] 1 (zD (zb (zh (zo (zb (ze (ze (zd ?_))))))))
 have hK3:=(((hBw5.ext hEw6).ext hEw7).ext hEw8)
 refine za (zT w4.heap.size 0 (hK3.all) ?_)
 have hK4:=((((hFz1_0.ext hEw5).ext hEw6).ext hEw7).ext hEw8)
 have hK5:=((((hFz1_1.ext hEw5).ext hEw6).ext hEw7).ext hEw8)
 refine za (zq (zpG _ hK4 hK5) ?_)
 rintro _ w9 ⟨a3,rfl,hFz4_0,hFz4_1,hEw9⟩
 have hzw9:=hEw9.size
 have hla3:=hFz4_1.lt
 refine zf (zb (zr ?_))
 have hK6:=(((hK1.ext hEw7).ext hEw8).ext hEw9)
 have hK7:=(((((((hBw2.ext hEw3).ext hEw4).ext hEw5).ext hEw6).ext hEw7).ext hEw8).ext hEw9)
 have hK8:=((((((hBw3.ext hEw4).ext hEw5).ext hEw6).ext hEw7).ext hEw8).ext hEw9)
 have hX2:Ext w w9:=((((((((hEw1.trans hEw2).trans hEw3).trans hEw4).trans hEw5).trans hEw6).trans hEw7).trans hEw8).trans hEw9)
 refine zhz [36,37] 91 [(vP a3 0)] (tot n) (fun k=> [(vI (lvK n k)),(vI k)]) (fun b=>b=w1.heap.size∨b=w2.heap.size) (fun b=>False) (fun k w'=>okK n (zbg n t) k∧Blk w' w.heap.size ([(vI n),(.slice a_t n_t c_t)]) 38∧Blk w' w1.heap.size ([(.slice none 0 0),(.slice none 0 0)]) 114∧Blk w' w2.heap.size ([(vI 0)]) 39∧Blk w' w4.heap.size ([(.slice a1 (hgt n+1) ca1),(.slice a2 (hgt n+1) ca2)]) 114∧Es (nv .i64) w3.heap.size w4.heap.size w' a1 (hgt n+1) ca1 (zaQ n (hgt n+1))∧Es (nv .i64) w3.heap.size w4.heap.size w' a2 (hgt n+1) ca2 (zbb n (hgt n+1))∧Ext w w') (fun cc k w'=>cc= .ret∧Blk w' w1.heap.size ([(.slice a1 (hgt n+1) ca1),(.slice a2 (hgt n+1) ca2)]) 114∧Blk w' w2.heap.size [vI (zbP n (zbg n t))] 39∧Es (nv .i64) w3.heap.size w4.heap.size w' a1 (hgt n+1) ca1 (zaQ n (hgt n+1))∧Es (nv .i64) w3.heap.size w4.heap.size w' a2 (hgt n+1) ca2 (zbb n (hgt n+1))∧Ext w w') (fun b hb=>hb.elim) (fun _=>rfl) (fun k W W' ⟨h0,h1,h2,h3,h4,h5,h6,h8⟩ hb=>⟨h0,h1.book hb,h2.book hb,h3.book hb,h4.book hb,h5.book hb,h6.book hb,h8.book hb (by omega)⟩) (fun _ k W W' ⟨hc,h1,h2,h3,h4,h8⟩ hb=>⟨hc,h1.book hb,h2.book hb,h3.book hb,h4.book hb,h8.book hb (by omega)⟩) (fun k W W' ⟨h0,h1,h2,h3,h4,h5,h6,h8⟩ hc=>⟨h0,h1.ext hc,h2.ext hc,h3.ext hc,h4.ext hc,h5.ext hc,h6.ext hc,h8.trans hc⟩) (⟨zqX,hK6,hK7,hK8,(hK3.ext hEw9),(hK4.ext hEw9),(hK5.ext hEw9),hX2⟩) (fun lp J Jx wj hE1 hJ hY h0=>zpK n w9.heap.size lp (fun b=>b=w1.heap.size∨b=w2.heap.size) J Jx wj hp0 hp1 (hFz4_1.ext hE1) ((hK4.ext hEw9).ext hE1) ((hK5.ext hEw9).ext hE1) (fun b hb=>⟨by omega,by omega,by omega⟩) hJ hY h0) ?_ ?_ ?_
 ·rintro lR k w10 hl ⟨hok,hK1,hK2,hK3,hK4,hs1,hs2,hEw⟩ hk
  have hzr:=hEw.size
  have hK1l:=hK1.lt
  have hK2l:=hK2.lt
  have hK3l:=hK3.lt
  have hK4l:=hK4.lt
  obtain ⟨l,j,hl,hj,hlv,rfl⟩:=zfT hk
  rw [hlv]
  have hns:=zbX (n:=n) (l:=l) hp1 (by omega)
  refine ze (zd (zc 1 [(6,(vI l))] (zf (zb (zd (zc 1 [(7,(vI (num n l+j)))] (zf (zli (Kpt.refl _) (Chg.refl _ _) (fun w11 hBkw11=> ?_)))))))))
  have hzw11:=hBkw11.size
  refine zr (ze (zd (za (zT w4.heap.size 0 ((hK4.book hBkw11).all) ?_))))
  refine za (zT w.heap.size 0 ((hK1.book hBkw11).all) ?_)
  refine zc 3 [(42,(vA [(.slice a1 (hgt n+1) ca1),(.slice a2 (hgt n+1) ca2),(vI n),(.slice a_t n_t c_t),(vI (num n l+j)),(vI l)])),(41,(vI l)),(40,(vI (num n l+j)))] (za (zab (Instr.box 146 (vA [(.slice a1 (hgt n+1) ca1),(.slice a2 (hgt n+1) ca2),(vI n),(.slice a_t n_t c_t),(vI (num n l+j)),(vI l)])) (vP w11.heap.size 0) ([(.slice a1 (hgt n+1) ca1),(.slice a2 (hgt n+1) ca2),(vI n),(.slice a_t n_t c_t),(vI (num n l+j)),(vI l)]) 146 ?_))
  intro w12 hBw12 hEw12 hzw12 hlw12
  refine zc 1 [(8,(vP w11.heap.size 0))] (zf (zb (ze (zd (zc 6 [(49,(.func (.func 82) #[(vP w11.heap.size 0)] #[])),(48,(vP w11.heap.size 0)),(47,(.func (.func 81) #[(vP w11.heap.size 0)] #[])),(46,(vP w11.heap.size 0)),(45,(.func (.func 80) #[(vP w11.heap.size 0)] #[])),(44,(vP w11.heap.size 0))] (za (zab (Instr.buildSlice 148 3 #[(0,(.func (.func 80) #[(vP w11.heap.size 0)] #[])),(1,(.func (.func 81) #[(vP w11.heap.size 0)] #[])),(2,(.func (.func 82) #[(vP w11.heap.size 0)] #[]))]) (.slice (pA w12.heap.size 0) 3 3) [(.func (.func 80) #[(vP w11.heap.size 0)] #[]),(.func (.func 81) #[(vP w11.heap.size 0)] #[]),(.func (.func 82) #[(vP w11.heap.size 0)] #[])] 147 ?_)))))))
  intro w13 hBw13 hEw13 hzw13 hlw13
  refine zc 2 [(52,(vI 0)),(51,(vI 3))] (zf (zb (zr (zW (X:=Nat) (fun q=> [(52,(vI q))]) [10,11,53,54,55,56,57,58,59,60,61,62] (fun q w14=>q≤3∧(0<q→zdZ n t l j=0)∧(1<q→zdY n t l j=0)∧(2<q→zek n t l j=0)∧Ext w13 w14) (fun q=>3-q) 0 (by kernel_rfl) ⟨by omega,by omega,by omega,by omega,Ext.refl _⟩ ?_))))
  rintro q dw14 w14 ⟨hqq,hq0,hq1,hq2,hEl⟩
  have hzl:=hEl.size
  refine ze (zd (za (zE (some 53) (decide (((q:Nat):Int)<((3:Nat):Int))) (fun hc53=> ?_) (fun hc53=> ?_))))
  ·replace hc53:q<3:=by have:=zac hc53;omega
   refine zf (zb (ze (zv (zo (zb (ze (zr (ze (zd ?_)))))))))
   refine za (zai w12.heap.size 0 3 3 q 1 ?_)
   rcases (show q=0∨q=1∨q=2 by omega) with rfl | rfl | rfl
   ·refine za (zl w12.heap.size (0+0*1) ((hBw13.ext hEl).cell rfl) ?_)
    refine zc 1 [(10,(.func (.func 80) #[(vP w11.heap.size 0)] #[]))] (zf (zb (ze (zd (zc 1 [(56,(.func (.func 80) #[(vP w11.heap.size 0)] #[]))] ?_)))))
    have hK9:=((((hs1.book hBkw11).ext hEw12).ext hEw13).ext hEl)
    have hK10:=((((hs2.book hBkw11).ext hEw12).ext hEw13).ext hEl)
    have hK11:=(((((h_t.ext hEw).book hBkw11).ext hEw12).ext hEw13).ext hEl)
    refine za (zq (ztH w11.heap.size n l j _ ((hBw12.ext hEw13).ext hEl) hK9 hK10 hK11 (by first | rfl | assumption) (by first | rfl | assumption) (by first | omega | decide) (by first | omega | decide) (by first | omega | decide) (by first | omega | decide) (by first | omega | decide)) ?_)
    rintro _ w15 ⟨rfl,hEw15⟩
    have hzw15:=hEw15.size
    refine zc 1 [(11,(vI (zdZ n t l j)))] (zf (zb (ze (zd (zc 1 [(58,(vI (zdZ n t l j)))] (za (zE (some 59) ((((zdZ n t l j:Nat):Int) !=((0:Nat):Int))) (fun hc59=> ?_) (fun hc59=> ?_))))))))
    ·replace hc59:¬(zdZ n t l j=0):=by have:=zbT hc59;omega
     refine zf (zb (zv (ze (zd ?_))))
     have hK12:=(((((hK4.book hBkw11).ext hEw12).ext hEw13).ext hEl).ext hEw15)
     refine za (zT w4.heap.size 0 (hK12.all) ?_)
     refine zc 1 [(61,(vI (zdZ n t l j)))] ?_
     have hK13:=(((((hK2.book hBkw11).ext hEw12).ext hEw13).ext hEl).ext hEw15)
     refine za (zG 114 w1.heap.size 0 114 (vA [(.slice a1 (hgt n+1) ca1),(.slice a2 (hgt n+1) ca2)]) ([(.slice none 0 0),(.slice none 0 0)]) ([(.slice a1 (hgt n+1) ca1),(.slice a2 (hgt n+1) ca2)]) hK13 (by kernel_rfl) (by first | decide |(simp;done)|(simp;omega)) (by simp [Value.oneCell']) ?_)
     have hK14:=(((((hK2.book hBkw11).ext hEw12).ext hEw13).ext hEl).ext hEw15)
     intro w16 hBw16 hCw16
     have hzw16:=hCw16.size
     rw [zy _ _ (by kernel_rfl)] at hBw16
     have hK15:=((((((hK3.book hBkw11).ext hEw12).ext hEw13).ext hEl).ext hEw15).chg hCw16)
     refine za (zak 39 w2.heap.size 0 39 (vI (zdZ n t l j)) ([(vI 0)]) hK15 (by first | decide |(simp;done)|(simp;omega)) ?_)
     have hK16:=((((((hK3.book hBkw11).ext hEw12).ext hEw13).ext hEl).ext hEw15).chg hCw16)
     intro w17 hBw17 hCw17
     have hzw17:=hCw17.size
     replace hBw17:=hBw17.set1
     refine zf (zb (zj (zA (zw (zw (zA (zA ?_)))))))
     have hK17:=(((hK9.ext hEw15).chg hCw16).chg hCw17)
     have hK18:=(((hK10.ext hEw15).chg hCw16).chg hCw17)
     have hX3:Ext w w17:=(Ext.own (Ext.own (((((hEw.book hBkw11 (by omega)).trans hEw12).trans hEw13).trans hEl).trans hEw15) hCw16 (by omega)) hCw17 (by omega))
     exact zho (((((((Kpt.refl _).ext hEw12).ext hEw13).ext hEl).ext hEw15).blk hK14 hCw16).blk hK16 hCw17) (Chg.then (Chg.then (((((Chg.refl _ _).trans hEw12.chg).trans hEw13.chg).trans hEl.chg).trans hEw15.chg) hCw16 (fun k hk hs=>by have h:k=_:=hs;first |(left;omega)|(exfalso;omega)|(right;simp [h];done))) hCw17 (fun k hk hs=>by have h:k=_:=hs;first |(left;omega)|(exfalso;omega)|(right;simp [h];done))) (⟨rfl,(hBw16.chg hCw17),(ziv hok hk (by rw [hlv,Nat.add_sub_cancel_left];exact zqi hc59) hc59).symm▸hBw17,hK17,hK18,hX3⟩)
    ·replace hc59:zdZ n t l j=0:=by have:=zbU hc59;omega
     refine zf (zb (zh (zo (zi (zb (zd (za (zn (some 62) .i64 (IntKind.i64.wrap (((0:Nat):Int)+((1:Nat):Int))) 1 (zu) ?_))))))))
     refine zc 1 [(52,(vI 1))] (zf (zz (zL (0+1) ?_ ?_)))
     ·exact ⟨by omega,fun _=>hc59,fun hh=>absurd hh (by omega),fun hh=>absurd hh (by omega),(hEl.trans hEw15)⟩
     ·first | omega |(dsimp only;omega)
   ·refine za (zl w12.heap.size (0+1*1) ((hBw13.ext hEl).cell rfl) ?_)
    refine zc 1 [(10,(.func (.func 81) #[(vP w11.heap.size 0)] #[]))] (zf (zb (ze (zd (zc 1 [(56,(.func (.func 81) #[(vP w11.heap.size 0)] #[]))] ?_)))))
    have hK19:=((((hs1.book hBkw11).ext hEw12).ext hEw13).ext hEl)
    have hK20:=((((hs2.book hBkw11).ext hEw12).ext hEw13).ext hEl)
    have hK21:=(((((h_t.ext hEw).book hBkw11).ext hEw12).ext hEw13).ext hEl)
    refine za (zq (ztx w11.heap.size n l j _ ((hBw12.ext hEw13).ext hEl) hK19 hK20 hK21 (by first | rfl | assumption) (by first | rfl | assumption) (by first | omega | decide) (by first | omega | decide) (by first | omega | decide) (by first | omega | decide) (by first | omega | decide)) ?_)
    rintro _ w18 ⟨rfl,hEw18⟩
    have hzw18:=hEw18.size
    refine zc 1 [(11,(vI (zdY n t l j)))] (zf (zb (ze (zd (zc 1 [(58,(vI (zdY n t l j)))] (za (zE (some 59) ((((zdY n t l j:Nat):Int) !=((0:Nat):Int))) (fun hc59=> ?_) (fun hc59=> ?_))))))))
    ·replace hc59:¬(zdY n t l j=0):=by have:=zbT hc59;omega
     refine zf (zb (zv (ze (zd ?_))))
     have hK22:=(((((hK4.book hBkw11).ext hEw12).ext hEw13).ext hEl).ext hEw18)
     refine za (zT w4.heap.size 0 (hK22.all) ?_)
     refine zc 1 [(61,(vI (zdY n t l j)))] ?_
     have hK23:=(((((hK2.book hBkw11).ext hEw12).ext hEw13).ext hEl).ext hEw18)
     refine za (zG 114 w1.heap.size 0 114 (vA [(.slice a1 (hgt n+1) ca1),(.slice a2 (hgt n+1) ca2)]) ([(.slice none 0 0),(.slice none 0 0)]) ([(.slice a1 (hgt n+1) ca1),(.slice a2 (hgt n+1) ca2)]) hK23 (by kernel_rfl) (by first | decide |(simp;done)|(simp;omega)) (by simp [Value.oneCell']) ?_)
     have hK24:=(((((hK2.book hBkw11).ext hEw12).ext hEw13).ext hEl).ext hEw18)
     intro w19 hBw19 hCw19
     have hzw19:=hCw19.size
     rw [zy _ _ (by kernel_rfl)] at hBw19
     have hK25:=((((((hK3.book hBkw11).ext hEw12).ext hEw13).ext hEl).ext hEw18).chg hCw19)
     refine za (zak 39 w2.heap.size 0 39 (vI (zdY n t l j)) ([(vI 0)]) hK25 (by first | decide |(simp;done)|(simp;omega)) ?_)
     have hK26:=((((((hK3.book hBkw11).ext hEw12).ext hEw13).ext hEl).ext hEw18).chg hCw19)
     intro w20 hBw20 hCw20
     have hzw20:=hCw20.size
     replace hBw20:=hBw20.set1
     refine zf (zb (zj (zA (zw (zw (zA (zA ?_)))))))
     have hK27:=(((hK19.ext hEw18).chg hCw19).chg hCw20)
     have hK28:=(((hK20.ext hEw18).chg hCw19).chg hCw20)
     have hX4:Ext w w20:=(Ext.own (Ext.own (((((hEw.book hBkw11 (by omega)).trans hEw12).trans hEw13).trans hEl).trans hEw18) hCw19 (by omega)) hCw20 (by omega))
     exact zho (((((((Kpt.refl _).ext hEw12).ext hEw13).ext hEl).ext hEw18).blk hK24 hCw19).blk hK26 hCw20) (Chg.then (Chg.then (((((Chg.refl _ _).trans hEw12.chg).trans hEw13.chg).trans hEl.chg).trans hEw18.chg) hCw19 (fun k hk hs=>by have h:k=_:=hs;first |(left;omega)|(exfalso;omega)|(right;simp [h];done))) hCw20 (fun k hk hs=>by have h:k=_:=hs;first |(left;omega)|(exfalso;omega)|(right;simp [h];done))) (⟨rfl,(hBw19.chg hCw20),(ziv hok hk (by rw [hlv,Nat.add_sub_cancel_left];exact zqH (hq0 (by omega)) hc59) hc59).symm▸hBw20,hK27,hK28,hX4⟩)
    ·replace hc59:zdY n t l j=0:=by have:=zbU hc59;omega
     refine zf (zb (zh (zo (zi (zb (zd (za (zn (some 62) .i64 (IntKind.i64.wrap (((1:Nat):Int)+((1:Nat):Int))) 2 (zu) ?_))))))))
     refine zc 1 [(52,(vI 2))] (zf (zz (zL (1+1) ?_ ?_)))
     ·exact ⟨by omega,fun hh=>hq0 (by omega),fun _=>hc59,fun hh=>absurd hh (by omega),(hEl.trans hEw18)⟩
     ·first | omega |(dsimp only;omega)
   ·refine za (zl w12.heap.size (0+2*1) ((hBw13.ext hEl).cell rfl) ?_)
    refine zc 1 [(10,(.func (.func 82) #[(vP w11.heap.size 0)] #[]))] (zf (zb (ze (zd (zc 1 [(56,(.func (.func 82) #[(vP w11.heap.size 0)] #[]))] ?_)))))
    have hK29:=((((hs1.book hBkw11).ext hEw12).ext hEw13).ext hEl)
    have hK30:=((((hs2.book hBkw11).ext hEw12).ext hEw13).ext hEl)
    have hK31:=(((((h_t.ext hEw).book hBkw11).ext hEw12).ext hEw13).ext hEl)
    have hK32:=(((((hg0.ext hEw).book hBkw11).ext hEw12).ext hEw13).ext hEl)
    have hK33:=(((((hg1.ext hEw).book hBkw11).ext hEw12).ext hEw13).ext hEl)
    have hK34:=(((((hg2.ext hEw).book hBkw11).ext hEw12).ext hEw13).ext hEl)
    refine za (zq (ztF w11.heap.size n l j _ ((hBw12.ext hEw13).ext hEl) hK29 hK30 hK31 (by first | rfl | assumption) (by first | rfl | assumption) (by first | omega | decide) (by first | omega | decide) (by first | omega | decide) (by first | omega | decide) (by first | omega | decide) (fun h0 w hw=>⟨hp3 _ (by have:=zeg h0 hl hj hw;omega),(zcO (zmD (zsw hok h0 hl hj hw)).1.2.2).1⟩) hK32 hK33 hK34) ?_)
    rintro _ w21 ⟨rfl,hEw21⟩
    have hzw21:=hEw21.size
    refine zc 1 [(11,(vI (zek n t l j)))] (zf (zb (ze (zd (zc 1 [(58,(vI (zek n t l j)))] (za (zE (some 59) ((((zek n t l j:Nat):Int) !=((0:Nat):Int))) (fun hc59=> ?_) (fun hc59=> ?_))))))))
    ·replace hc59:¬(zek n t l j=0):=by have:=zbT hc59;omega
     refine zf (zb (zv (ze (zd ?_))))
     have hK35:=(((((hK4.book hBkw11).ext hEw12).ext hEw13).ext hEl).ext hEw21)
     refine za (zT w4.heap.size 0 (hK35.all) ?_)
     refine zc 1 [(61,(vI (zek n t l j)))] ?_
     have hK36:=(((((hK2.book hBkw11).ext hEw12).ext hEw13).ext hEl).ext hEw21)
     refine za (zG 114 w1.heap.size 0 114 (vA [(.slice a1 (hgt n+1) ca1),(.slice a2 (hgt n+1) ca2)]) ([(.slice none 0 0),(.slice none 0 0)]) ([(.slice a1 (hgt n+1) ca1),(.slice a2 (hgt n+1) ca2)]) hK36 (by kernel_rfl) (by first | decide |(simp;done)|(simp;omega)) (by simp [Value.oneCell']) ?_)
     have hK37:=(((((hK2.book hBkw11).ext hEw12).ext hEw13).ext hEl).ext hEw21)
     intro w22 hBw22 hCw22
     have hzw22:=hCw22.size
     rw [zy _ _ (by kernel_rfl)] at hBw22
     have hK38:=((((((hK3.book hBkw11).ext hEw12).ext hEw13).ext hEl).ext hEw21).chg hCw22)
     refine za (zak 39 w2.heap.size 0 39 (vI (zek n t l j)) ([(vI 0)]) hK38 (by first | decide |(simp;done)|(simp;omega)) ?_)
     have hK39:=((((((hK3.book hBkw11).ext hEw12).ext hEw13).ext hEl).ext hEw21).chg hCw22)
     intro w23 hBw23 hCw23
     have hzw23:=hCw23.size
     replace hBw23:=hBw23.set1
     refine zf (zb (zj (zA (zw (zw (zA (zA ?_)))))))
     have hK40:=(((hK29.ext hEw21).chg hCw22).chg hCw23)
     have hK41:=(((hK30.ext hEw21).chg hCw22).chg hCw23)
     have hX5:Ext w w23:=(Ext.own (Ext.own (((((hEw.book hBkw11 (by omega)).trans hEw12).trans hEw13).trans hEl).trans hEw21) hCw22 (by omega)) hCw23 (by omega))
     exact zho (((((((Kpt.refl _).ext hEw12).ext hEw13).ext hEl).ext hEw21).blk hK37 hCw22).blk hK39 hCw23) (Chg.then (Chg.then (((((Chg.refl _ _).trans hEw12.chg).trans hEw13.chg).trans hEl.chg).trans hEw21.chg) hCw22 (fun k hk hs=>by have h:k=_:=hs;first |(left;omega)|(exfalso;omega)|(right;simp [h];done))) hCw23 (fun k hk hs=>by have h:k=_:=hs;first |(left;omega)|(exfalso;omega)|(right;simp [h];done))) (⟨rfl,(hBw22.chg hCw23),(ziv hok hk (by rw [hlv,Nat.add_sub_cancel_left];exact zp0 (hq0 (by omega)) hc59) hc59).symm▸hBw23,hK40,hK41,hX5⟩)
    ·replace hc59:zek n t l j=0:=by have:=zbU hc59;omega
     refine zf (zb (zh (zo (zi (zb (zd (za (zn (some 62) .i64 (IntKind.i64.wrap (((2:Nat):Int)+((1:Nat):Int))) 3 (zu) ?_))))))))
     refine zc 1 [(52,(vI 3))] (zf (zz (zL (2+1) ?_ ?_)))
     ·exact ⟨by omega,fun hh=>hq0 (by omega),fun hh=>hq1 (by omega),fun _=>hc59,(hEl.trans hEw21)⟩
     ·first | omega |(dsimp only;omega)
  ·replace hc53:¬(q<3):=by have:=zad hc53;omega
   obtain rfl:q=3:=by omega
   refine zf (zb (ze (zh (zP (zp (zp (zF (zi ?_))))))))
   have hK42:=((((hK1.book hBkw11).ext hEw12).ext hEw13).ext hEl)
   have hK43:=((((hK2.book hBkw11).ext hEw12).ext hEw13).ext hEl)
   have hK44:=((((hK3.book hBkw11).ext hEw12).ext hEw13).ext hEl)
   have hK45:=((((hK4.book hBkw11).ext hEw12).ext hEw13).ext hEl)
   have hK46:=((((hs1.book hBkw11).ext hEw12).ext hEw13).ext hEl)
   have hK47:=((((hs2.book hBkw11).ext hEw12).ext hEw13).ext hEl)
   have hX6:Ext w w14:=((((hEw.book hBkw11 (by omega)).trans hEw12).trans hEw13).trans hEl)
   exact zd6 ((((Kpt.refl _).ext hEw12).ext hEw13).ext hEl) ((((Chg.refl _ _).trans hEw12.chg).trans hEw13.chg).trans hEl.chg) (⟨zpZ hok (by rw [hlv,Nat.add_sub_cancel_left];exact zqq (hq0 (by omega)) (hq1 (by omega)) (hq2 (by omega))),hK42,hK43,hK44,hK45,hK46,hK47,hX6⟩)
 ·rintro D w24 hD ⟨hok,hK1,hK2,hK3,hK4,hs1,hs2,hEw⟩ hM
  have hzr:=hEw.size
  have hK1l:=hK1.lt
  have hK2l:=hK2.lt
  have hK3l:=hK3.lt
  have hK4l:=hK4.lt
  have hMl:=hM.lt
  refine zi (zb (ze (zd (za (zT w4.heap.size 0 (hK4.all) ?_)))))
  refine za (zG 114 w1.heap.size 0 114 (vA [(.slice a1 (hgt n+1) ca1),(.slice a2 (hgt n+1) ca2)]) ([(.slice none 0 0),(.slice none 0 0)]) ([(.slice a1 (hgt n+1) ca1),(.slice a2 (hgt n+1) ca2)]) hK2 (by kernel_rfl) (by first | decide |(simp;done)|(simp;omega)) (by simp [Value.oneCell']) ?_)
  intro w25 hBw25 hCw25
  have hzw25:=hCw25.size
  rw [zy _ _ (by kernel_rfl)] at hBw25
  refine za (zak 39 w2.heap.size 0 39 (vI 0) ([(vI 0)]) (hK3.chg hCw25) (by first | decide |(simp;done)|(simp;omega)) ?_)
  intro w26 hBw26 hCw26
  have hzw26:=hCw26.size
  replace hBw26:=hBw26.set1
  refine zf (zb (zj ?_))
  obtain ⟨w27,hTw27,hCw27,hBkw27⟩:=zgh (P:=Tryz.prog) ((hM.chg hCw25).chg hCw26)
  have hzw27:=hCw27.size
  refine znv hTw27 (zex (by kernel_rfl) (show zX Tryz.prog 64 _ _ (.cell 2 114) (vA [(.slice a1 (hgt n+1) ca1),(.slice a2 (hgt n+1) ca2)]) from ⟨⟨w1.heap.size,0,none⟩,(by kernel_rfl),zI (T:=114) (vs:= [(.slice a1 (hgt n+1) ca1),(.slice a2 (hgt n+1) ca2)]) (((hBw25.chg hCw26).book hBkw27)).all (by kernel_rfl)⟩) (show zX Tryz.prog 64 _ _ (.cell 3 39) (vI 0) from ⟨⟨w2.heap.size,0,none⟩,(by kernel_rfl),zcX (T:=39) (((hBw26.book hBkw27)).cell rfl)⟩)) ?_
  have hX7:Ext w w27:=((Ext.own (Ext.own hEw hCw25 (by omega)) hCw26 (by omega)).book hBkw27 (by omega))
  have hK48:=(((hs1.chg hCw25).chg hCw26).book hBkw27)
  have hK49:=(((hs2.chg hCw25).chg hCw26).book hBkw27)
  exact ⟨_,_,_,_,by rw [zqh hok],(hK48).now.mono (by omega) (Nat.le_refl _),(hK49).now.mono (by omega) (Nat.le_refl _),hX7⟩
 ·rintro D cc k w28 hD hk ⟨rfl,hX2,hX3,hs1,hs2,hEw⟩ hM
  have hzr:=hEw.size
  have hX2l:=hX2.lt;have hX3l:=hX3.lt
  have hMl:=hM.lt
  refine zj (zA (zw ?_))
  obtain ⟨w29,hTw29,hCw29,hBkw29⟩:=zgh (P:=Tryz.prog) hM
  have hzw29:=hCw29.size
  exact znv hTw29 (zex (by kernel_rfl) (show zX Tryz.prog 64 _ _ (.cell 2 114) (vA [(.slice a1 (hgt n+1) ca1),(.slice a2 (hgt n+1) ca2)]) from ⟨⟨w1.heap.size,0,none⟩,(by kernel_rfl),zI (T:=114) (vs:= [(.slice a1 (hgt n+1) ca1),(.slice a2 (hgt n+1) ca2)]) ((hX2.book hBkw29)).all (by kernel_rfl)⟩) (show zX Tryz.prog 64 _ _ (.cell 3 39) (vI (zbP n (zbg n t))) from ⟨⟨w2.heap.size,0,none⟩,(by kernel_rfl),zcX (T:=39) (((hX3.book hBkw29)).cell rfl)⟩)) (⟨_,_,_,_,rfl,((hs1.book hBkw29)).now.mono (by omega) (Nat.le_refl _),((hs2.book hBkw29)).now.mono (by omega) (Nat.le_refl _),(hEw.book hBkw29 (by omega))⟩)
theorem zqa (n:Int) {lo_t hi_t:Nat} {a_t:Option Addr} {n_t c_t:Nat} {t:List Un} (w:World) (h_t:Ms unC 280 lo_t hi_t w a_t n_t c_t t) (hp0:¬(1≤n∧n≤4096)):
  Calls Tryz.prog 55 #[(vA [(.int .i64 n),(.slice a_t n_t c_t)])] w (Ret fun r w'=>∃(a0:Option Addr) (na0:Nat) (ca0:Nat) (a1:Option Addr) (na1:Nat) (ca1:Nat),r=(.tuple #[(vA [(.slice a0 na0 ca0),(.slice a1 na1 ca1)]),(vI 1)])∧Ext w w'):=by
 refine zeG (n:=64) (σ:= [(0,(vA [(.int .i64 n),(.slice a_t n_t c_t)]))]) Tryz.func55 rfl ?_
 replace h_t:=h_t.now;have hle_t:=h_t.le
 refine ze (zd (za (zab (Instr.box 38 (vA [(.int .i64 n),(.slice a_t n_t c_t)])) (vP w.heap.size 0) ([(.int .i64 n),(.slice a_t n_t c_t)]) 38 ?_)))
 intro w1 hBw1 hEw1 hzw1 hlw1
 refine za (zaf ([(.slice none 0 0),(.slice none 0 0)]) 114 ?_)
 intro w2 hBw2 hEw2 hzw2 hlw2
 refine za (zaf ([(vI 0)]) 39 ?_)
 intro w3 hBw3 hEw3 hzw3 hlw3
 refine zf (zb (ze (zd (zc 1 [(13,(vP w.heap.size 0))] (za (zl w.heap.size 0 (((hBw1.ext hEw2).ext hEw3).cell rfl) ?_))))))
 refine za (zq (zpC n _ (by omega)) ?_)
 rintro _ w4 ⟨rfl,hEw4⟩
 have hzw4:=hEw4.size
 refine zc 3 [(17,(vI 1)),(16,(vA [(.slice none 0 0),(.slice none 0 0)])),(12,(.tuple #[(vA [(.slice none 0 0),(.slice none 0 0)]),(vI 1)]))] (zan ([(.slice none 0 0),(.slice none 0 0)]) 114 rfl (by simp [Value.oneCell']) ?_)
 intro w5 hBw5 hEw5 hzw5 hlw5
 refine zc 1 [(5,(vI 1))] (zf (zb (ze (ze (zd (zc 1 [(18,(vI 1))] (za (zah (some 19) (((1:Nat):Int) !=((0:Nat):Int)) true (zcG) ?_))))))))
 refine zf (zb (zv (ze (zd (za (zT w4.heap.size 0 (hBw5.all) ?_))))))
 refine zc 1 [(21,(vI 1))] ?_
 have hK1:=(((hBw2.ext hEw3).ext hEw4).ext hEw5)
 refine za (zG 114 w1.heap.size 0 114 (vA [(.slice none 0 0),(.slice none 0 0)]) ([(.slice none 0 0),(.slice none 0 0)]) ([(.slice none 0 0),(.slice none 0 0)]) hK1 (by kernel_rfl) (by first | decide |(simp;done)|(simp;omega)) (by simp [Value.oneCell']) ?_)
 have hK2:=(((hBw2.ext hEw3).ext hEw4).ext hEw5)
 intro w6 hBw6 hCw6
 have hzw6:=hCw6.size
 rw [zy _ _ (by kernel_rfl)] at hBw6
 have hK3:=(((hBw3.ext hEw4).ext hEw5).chg hCw6)
 refine za (zak 39 w2.heap.size 0 39 (vI 1) ([(vI 0)]) hK3 (by first | decide |(simp;done)|(simp;omega)) ?_)
 have hK4:=(((hBw3.ext hEw4).ext hEw5).chg hCw6)
 intro w7 hBw7 hCw7
 have hzw7:=hCw7.size
 replace hBw7:=hBw7.set1
 refine zf (zb (zj (zw (zgN (zex (by kernel_rfl) (show zX Tryz.prog 64 _ _ (.cell 2 114) (vA [(.slice none 0 0),(.slice none 0 0)]) from ⟨⟨w1.heap.size,0,none⟩,(by kernel_rfl),zI (T:=114) (vs:= [(.slice none 0 0),(.slice none 0 0)]) ((hBw6.chg hCw7)).all (by kernel_rfl)⟩) (show zX Tryz.prog 64 _ _ (.cell 3 39) (vI 1) from ⟨⟨w2.heap.size,0,none⟩,(by kernel_rfl),zcX (T:=39) ((hBw7).cell rfl)⟩)) ?_))))
 have hX1:Ext w w7:=(Ext.own (Ext.own ((((hEw1.trans hEw2).trans hEw3).trans hEw4).trans hEw5) hCw6 (by omega)) hCw7 (by omega))
 exact ⟨_,_,_,_,_,_,rfl,hX1⟩
theorem zqn (n:Nat) {lo_t hi_t:Nat} {a_t:Option Addr} {n_t c_t:Nat} {t:List Un} (w:World) (h_t:Ms unC 280 lo_t hi_t w a_t n_t c_t t) (hp0:1≤n) (hp1:n≤4096) (hp2:n_t≠tot n):
  Calls Tryz.prog 55 #[(vA [(vI n),(.slice a_t n_t c_t)])] w (Ret fun r w'=>∃(a0:Option Addr) (na0:Nat) (ca0:Nat) (a1:Option Addr) (na1:Nat) (ca1:Nat),r=(.tuple #[(vA [(.slice a0 na0 ca0),(.slice a1 na1 ca1)]),(vI 1)])∧Ext w w'):=by
 refine zeG (n:=64) (σ:= [(0,(vA [(vI n),(.slice a_t n_t c_t)]))]) Tryz.func55 rfl ?_
 replace h_t:=h_t.now;have hle_t:=h_t.le
 have h5:=zat n
 refine ze (zd (za (zab (Instr.box 38 (vA [(vI n),(.slice a_t n_t c_t)])) (vP w.heap.size 0) ([(vI n),(.slice a_t n_t c_t)]) 38 ?_)))
 intro w1 hBw1 hEw1 hzw1 hlw1
 refine za (zaf ([(.slice none 0 0),(.slice none 0 0)]) 114 ?_)
 intro w2 hBw2 hEw2 hzw2 hlw2
 refine za (zaf ([(vI 0)]) 39 ?_)
 intro w3 hBw3 hEw3 hzw3 hlw3
 refine zf (zb (ze (zd (zc 1 [(13,(vP w.heap.size 0))] (za (zl w.heap.size 0 (((hBw1.ext hEw2).ext hEw3).cell rfl) ?_))))))
 refine za (zq (zkG n _ (by omega) (by omega)) ?_)
 rintro _ w4 ⟨a1,ca1,a2,ca2,rfl,hFz1_0,hFz1_1,hEw4⟩
 have hzw4:=hEw4.size
 have hlea1:=hFz1_0.le
 have hlea2:=hFz1_1.le
 refine zc 3 [(17,(vI 0)),(16,(vA [(.slice a1 (hgt n+1) ca1),(.slice a2 (hgt n+1) ca2)])),(12,(.tuple #[(vA [(.slice a1 (hgt n+1) ca1),(.slice a2 (hgt n+1) ca2)]),(vI 0)]))] (zan ([(.slice a1 (hgt n+1) ca1),(.slice a2 (hgt n+1) ca2)]) 114 rfl (by simp [Value.oneCell']) ?_)
 intro w5 hBw5 hEw5 hzw5 hlw5
 refine zc 1 [(5,(vI 0))] (zf (zb (ze (ze (zd (zc 1 [(18,(vI 0))] (za (zah (some 19) (((0:Nat):Int) !=((0:Nat):Int)) false (zaE) ?_))))))))
 refine zf (zb (zh (zo (zb (ze (ze (zaa 11 (fun w6 hEw6 hzw6 hT313=> ?_))))))))
 refine zg hT313 [(0,22,(vP w.heap.size 1))] 1 ?_
 have hK1:=(((((hBw1.ext hEw2).ext hEw3).ext hEw4).ext hEw5).ext hEw6)
 refine zt hT313 1 w.heap.size 1 (fun w' hC=>((hK1.ext hC).cell rfl)) (zg hT313 [(2,24,(vI n_t))] 1 (zaT hT313 3 w4.heap.size 0 (fun w' hC=>(((hBw5.ext hEw6).ext hC).all)) (zx 4 (zq (zia n _ ((hFz1_0.ext hEw5).ext hEw6) ((hFz1_1.ext hEw5).ext hEw6) (by first | rfl | assumption) (by first | rfl | assumption) (by first | omega | decide) (by first | omega | decide)) ?_))))
 rintro _ w7 ⟨rfl,hEw7⟩
 have hzw7:=hEw7.size
 refine ⟨.inr hEw7, ?_⟩
 refine zk (hw:=hEw7) hT313 5 vT (zaJ (((n_t:Nat):Int) !=((tot n:Nat):Int)) (zcG)) (zg (hw:=hEw7) hT313 [(6,28,vT),(7,29,undef),(8,30,undef),(9,31,undef),(10,32,vT)] 5 (zD (zb (zv (ze (zd (za (zT w4.heap.size 0 (((hBw5.ext hEw6).ext hEw7).all) ?_))))))))
 have hK2:=(((((hBw2.ext hEw3).ext hEw4).ext hEw5).ext hEw6).ext hEw7)
 refine za (zG 114 w1.heap.size 0 114 (vA [(.slice a1 (hgt n+1) ca1),(.slice a2 (hgt n+1) ca2)]) ([(.slice none 0 0),(.slice none 0 0)]) ([(.slice a1 (hgt n+1) ca1),(.slice a2 (hgt n+1) ca2)]) hK2 (by kernel_rfl) (by first | decide |(simp;done)|(simp;omega)) (by simp [Value.oneCell']) ?_)
 have hK3:=(((((hBw2.ext hEw3).ext hEw4).ext hEw5).ext hEw6).ext hEw7)
 intro w8 hBw8 hCw8
 have hzw8:=hCw8.size
 rw [zy _ _ (by kernel_rfl)] at hBw8
 have hK4:=(((((hBw3.ext hEw4).ext hEw5).ext hEw6).ext hEw7).chg hCw8)
 refine za (zak 39 w2.heap.size 0 39 (vI 1) ([(vI 0)]) hK4 (by first | decide |(simp;done)|(simp;omega)) ?_)
 have hK5:=(((((hBw3.ext hEw4).ext hEw5).ext hEw6).ext hEw7).chg hCw8)
 intro w9 hBw9 hCw9
 have hzw9:=hCw9.size
 replace hBw9:=hBw9.set1
 refine zf (zb (zj (zw (zgN (zex (by kernel_rfl) (show zX Tryz.prog 64 _ _ (.cell 2 114) (vA [(.slice a1 (hgt n+1) ca1),(.slice a2 (hgt n+1) ca2)]) from ⟨⟨w1.heap.size,0,none⟩,(by kernel_rfl),zI (T:=114) (vs:= [(.slice a1 (hgt n+1) ca1),(.slice a2 (hgt n+1) ca2)]) ((hBw8.chg hCw9)).all (by kernel_rfl)⟩) (show zX Tryz.prog 64 _ _ (.cell 3 39) (vI 1) from ⟨⟨w2.heap.size,0,none⟩,(by kernel_rfl),zcX (T:=39) ((hBw9).cell rfl)⟩)) ?_))))
 have hX1:Ext w w9:=(Ext.own (Ext.own ((((((hEw1.trans hEw2).trans hEw3).trans hEw4).trans hEw5).trans hEw6).trans hEw7) hCw8 (by omega)) hCw9 (by omega))
 exact ⟨_,_,_,_,_,_,rfl,hX1⟩
theorem zp4 (n:Nat) {lo_t hi_t:Nat} {a_t:Option Addr} {n_t c_t:Nat} {t:List Un} (w:World) (h_t:Ms unC 280 lo_t hi_t w a_t n_t c_t t) (hp0:1≤n) (hp1:n≤4096) (hp2:n_t=tot n) (hp3:¬(∀i,i<t.length→(t.getD i Un.zero).sl=0∨(t.getD i Un.zero).sl=1)):
  Calls Tryz.prog 55 #[(vA [(vI n),(.slice a_t n_t c_t)])] w (Ret fun r w'=>∃(a0:Option Addr) (na0:Nat) (ca0:Nat) (a1:Option Addr) (na1:Nat) (ca1:Nat),r=(.tuple #[(vA [(.slice a0 na0 ca0),(.slice a1 na1 ca1)]),(vI 1)])∧Ext w w'):=by
 refine zeG (n:=64) (σ:= [(0,(vA [(vI n),(.slice a_t n_t c_t)]))]) Tryz.func55 rfl ?_
 replace h_t:=h_t.now;have hle_t:=h_t.le
 have h5:=zat n
 refine ze (zd (za (zab (Instr.box 38 (vA [(vI n),(.slice a_t n_t c_t)])) (vP w.heap.size 0) ([(vI n),(.slice a_t n_t c_t)]) 38 ?_)))
 intro w1 hBw1 hEw1 hzw1 hlw1
 refine za (zaf ([(.slice none 0 0),(.slice none 0 0)]) 114 ?_)
 intro w2 hBw2 hEw2 hzw2 hlw2
 refine za (zaf ([(vI 0)]) 39 ?_)
 intro w3 hBw3 hEw3 hzw3 hlw3
 refine zf (zb (ze (zd (zc 1 [(13,(vP w.heap.size 0))] (za (zl w.heap.size 0 (((hBw1.ext hEw2).ext hEw3).cell rfl) ?_))))))
 refine za (zq (zkG n _ (by omega) (by omega)) ?_)
 rintro _ w4 ⟨a1,ca1,a2,ca2,rfl,hFz1_0,hFz1_1,hEw4⟩
 have hzw4:=hEw4.size
 have hlea1:=hFz1_0.le
 have hlea2:=hFz1_1.le
 refine zc 3 [(17,(vI 0)),(16,(vA [(.slice a1 (hgt n+1) ca1),(.slice a2 (hgt n+1) ca2)])),(12,(.tuple #[(vA [(.slice a1 (hgt n+1) ca1),(.slice a2 (hgt n+1) ca2)]),(vI 0)]))] (zan ([(.slice a1 (hgt n+1) ca1),(.slice a2 (hgt n+1) ca2)]) 114 rfl (by simp [Value.oneCell']) ?_)
 intro w5 hBw5 hEw5 hzw5 hlw5
 refine zc 1 [(5,(vI 0))] (zf (zb (ze (ze (zd (zc 1 [(18,(vI 0))] (za (zah (some 19) (((0:Nat):Int) !=((0:Nat):Int)) false (zaE) ?_))))))))
 refine zf (zb (zh (zo (zb (ze (ze (zaa 11 (fun w6 hEw6 hzw6 hT357=> ?_))))))))
 refine zg hT357 [(0,22,(vP w.heap.size 1))] 1 ?_
 have hK1:=(((((hBw1.ext hEw2).ext hEw3).ext hEw4).ext hEw5).ext hEw6)
 refine zt hT357 1 w.heap.size 1 (fun w' hC=>((hK1.ext hC).cell rfl)) (zg hT357 [(2,24,(vI n_t))] 1 (zaT hT357 3 w4.heap.size 0 (fun w' hC=>(((hBw5.ext hEw6).ext hC).all)) (zx 4 (zq (zia n _ ((hFz1_0.ext hEw5).ext hEw6) ((hFz1_1.ext hEw5).ext hEw6) (by first | rfl | assumption) (by first | rfl | assumption) (by first | omega | decide) (by first | omega | decide)) ?_))))
 rintro _ w7 ⟨rfl,hEw7⟩
 have hzw7:=hEw7.size
 refine ⟨.inr hEw7, ?_⟩
 refine zk (hw:=hEw7) hT357 5 vF (zaJ (((n_t:Nat):Int) !=((tot n:Nat):Int)) (zaE)) (zg (hw:=hEw7) hT357 [(6,28,vF),(7,29,(vP w.heap.size 1))] 2 (zt (hw:=hEw7) hT357 8 w.heap.size 1 (fun w' hC=>((hK1.ext hC).cell rfl)) ?_))
 have hK2:=(((((((h_t.ext hEw1).ext hEw2).ext hEw3).ext hEw4).ext hEw5).ext hEw6).ext hEw7)
 refine zx 9 (zq (zrr _ hK2 (hp3)) ?_)
 rintro _ w8 ⟨rfl,hEw8⟩
 have hzw8:=hEw8.size
 have hX1:Ext w6 w8:=(hEw7.trans hEw8)
 refine ⟨.inr hX1, ?_⟩
 refine zg (hw:=hX1) hT357 [(10,32,vT)] 1 (zD (zb (zv (ze (zd ?_)))))
 have hK3:=(((hBw5.ext hEw6).ext hEw7).ext hEw8)
 refine za (zT w4.heap.size 0 (hK3.all) ?_)
 have hK4:=((((((hBw2.ext hEw3).ext hEw4).ext hEw5).ext hEw6).ext hEw7).ext hEw8)
 refine za (zG 114 w1.heap.size 0 114 (vA [(.slice a1 (hgt n+1) ca1),(.slice a2 (hgt n+1) ca2)]) ([(.slice none 0 0),(.slice none 0 0)]) ([(.slice a1 (hgt n+1) ca1),(.slice a2 (hgt n+1) ca2)]) hK4 (by kernel_rfl) (by first | decide |(simp;done)|(simp;omega)) (by simp [Value.oneCell']) ?_)
 have hK5:=((((((hBw2.ext hEw3).ext hEw4).ext hEw5).ext hEw6).ext hEw7).ext hEw8)
 intro w9 hBw9 hCw9
 have hzw9:=hCw9.size
 rw [zy _ _ (by kernel_rfl)] at hBw9
 have hK6:=((((((hBw3.ext hEw4).ext hEw5).ext hEw6).ext hEw7).ext hEw8).chg hCw9)
 refine za (zak 39 w2.heap.size 0 39 (vI 1) ([(vI 0)]) hK6 (by first | decide |(simp;done)|(simp;omega)) ?_)
 have hK7:=((((((hBw3.ext hEw4).ext hEw5).ext hEw6).ext hEw7).ext hEw8).chg hCw9)
 intro w10 hBw10 hCw10
 have hzw10:=hCw10.size
 replace hBw10:=hBw10.set1
 refine zf (zb (zj (zw (zgN (zex (by kernel_rfl) (show zX Tryz.prog 64 _ _ (.cell 2 114) (vA [(.slice a1 (hgt n+1) ca1),(.slice a2 (hgt n+1) ca2)]) from ⟨⟨w1.heap.size,0,none⟩,(by kernel_rfl),zI (T:=114) (vs:= [(.slice a1 (hgt n+1) ca1),(.slice a2 (hgt n+1) ca2)]) ((hBw9.chg hCw10)).all (by kernel_rfl)⟩) (show zX Tryz.prog 64 _ _ (.cell 3 39) (vI 1) from ⟨⟨w2.heap.size,0,none⟩,(by kernel_rfl),zcX (T:=39) ((hBw10).cell rfl)⟩)) ?_))))
 have hX2:Ext w w10:=(Ext.own (Ext.own (((((((hEw1.trans hEw2).trans hEw3).trans hEw4).trans hEw5).trans hEw6).trans hEw7).trans hEw8) hCw9 (by omega)) hCw10 (by omega))
 exact ⟨_,_,_,_,_,_,rfl,hX2⟩
theorem zsj (n:Int) {lo_t hi_t:Nat} {a_t:Option Addr} {n_t c_t:Nat} {t:List Un} (w:World) (h_t:Ms unC 280 lo_t hi_t w a_t n_t c_t t) (hp0:¬(1≤n∧n≤4096∧t.length=tot n.toNat∧zft t=true)):
  Calls Tryz.prog 55 #[(vA [(.int .i64 n),(.slice a_t n_t c_t)])] w (Ret fun r w'=>∃(a0:Option Addr) (na0:Nat) (ca0:Nat) (a1:Option Addr) (na1:Nat) (ca1:Nat),r=(.tuple #[(vA [(.slice a0 na0 ca0),(.slice a1 na1 ca1)]),(vI 1)])∧Ext w w'):=by
 have hlt:=h_t.len_eq
 by_cases h:1≤n∧n≤4096
 ·obtain ⟨m,rfl⟩:=Int.eq_ofNat_of_zero_le (show 0≤n by omega)
  rw [Int.toNat_natCast] at hp0
  by_cases h2:n_t=tot m
  ·exact zp4 m w h_t (by omega) (by omega) h2 (fun hh=>hp0 ⟨h.1,h.2,by omega,zdw.2 hh⟩)
  ·exact zqn m w h_t (by omega) (by omega) h2
 ·exact zqa n w h_t h
theorem zsc (n:Nat) {lo_t hi_t:Nat} {a_t:Option Addr} {n_t c_t:Nat} {t:List Un} (w:World) (h_t:Ms unC 280 lo_t hi_t w a_t n_t c_t t) (hp0:1≤n) (hp1:n≤4096) (hp2:n_t=tot n) (hp3:∀i,i<t.length→(t.getD i Un.zero).sl=0∨(t.getD i Un.zero).sl=1) (hg0:Gl 0 [vI 45,vI 33] w) (hg1:Gl 1 (w8C zbm) w) (hg2:Gl 3 (zax kA) w):
  Calls Tryz.prog 23 #[(vA [(vI n),(.slice a_t n_t c_t)])] w (Ret fun r w'=>r=(vI (zbP n (zbg n t)))∧Ext w w'):=by
 refine zC (n:=11) (σ:= [(0,(vA [(vI n),(.slice a_t n_t c_t)]))]) Tryz.func23 rfl ?_
 replace h_t:=h_t.now;have hle_t:=h_t.le
 have hgl0:=hg0.lt
 have hgl1:=hg1.lt
 have hgl2:=hg2.lt
 have h5:=zat n
 have hlt:=h_t.len_eq
 have hts:=zaC hp1
 have hle:=h_t.le
 refine ze (zd (za (zab (Instr.box 38 (vA [(vI n),(.slice a_t n_t c_t)])) (vP w.heap.size 0) ([(vI n),(.slice a_t n_t c_t)]) 38 ?_)))
 intro w1 hBw1 hEw1 hzw1 hlw1
 refine zc 1 [(2,(vI 0))] (zf (zb (ze (zd (za (zT w.heap.size 0 (hBw1.all) ?_))))))
 refine za (zq (zlJ n _ (h_t.ext hEw1) (by omega) (by omega) (by omega) (by assumption) (hg0.ext hEw1) (hg1.ext hEw1) (hg2.ext hEw1)) ?_)
 rintro _ w2 ⟨a1,ca1,a2,ca2,rfl,hFz1_0,hFz1_1,hEw2⟩
 have hzw2:=hEw2.size
 have hlea1:=hFz1_0.le
 have hlea2:=hFz1_1.le
 refine zc 3 [(9,(vI (zbP n (zbg n t)))),(8,(vA [(.slice a1 (hgt n+1) ca1),(.slice a2 (hgt n+1) ca2)])),(5,(.tuple #[(vA [(.slice a1 (hgt n+1) ca1),(.slice a2 (hgt n+1) ca2)]),(vI (zbP n (zbg n t)))]))] (zan ([(.slice a1 (hgt n+1) ca1),(.slice a2 (hgt n+1) ca2)]) 114 rfl (by simp [Value.oneCell']) ?_)
 intro w3 hBw3 hEw3 hzw3 hlw3
 refine zc 1 [(4,(vI (zbP n (zbg n t))))] (zf (zb (ze (zd (zc 2 [(2,(vI (zbP n (zbg n t)))),(10,(vI (zbP n (zbg n t))))] (zf (zb (zj (zm (vI (zbP n (zbg n t))) ?_)))))))))
 exact ⟨rfl,((hEw1.trans hEw2).trans hEw3)⟩
theorem zsb (n:Int) {lo_t hi_t:Nat} {a_t:Option Addr} {n_t c_t:Nat} {t:List Un} (w:World) (h_t:Ms unC 280 lo_t hi_t w a_t n_t c_t t) (hp0:¬(1≤n∧n≤4096∧t.length=tot n.toNat∧zft t=true)):
  Calls Tryz.prog 23 #[(vA [(.int .i64 n),(.slice a_t n_t c_t)])] w (Ret fun r w'=>r=(vI 1)∧Ext w w'):=by
 refine zC (n:=11) (σ:= [(0,(vA [(.int .i64 n),(.slice a_t n_t c_t)]))]) Tryz.func23 rfl ?_
 replace h_t:=h_t.now;have hle_t:=h_t.le
 refine ze (zd (za (zab (Instr.box 38 (vA [(.int .i64 n),(.slice a_t n_t c_t)])) (vP w.heap.size 0) ([(.int .i64 n),(.slice a_t n_t c_t)]) 38 ?_)))
 intro w1 hBw1 hEw1 hzw1 hlw1
 refine zc 1 [(2,(vI 0))] (zf (zb (ze (zd (za (zT w.heap.size 0 (hBw1.all) ?_))))))
 refine za (zq (zsj n _ (h_t.ext hEw1) (by assumption)) ?_)
 rintro _ w2 ⟨a1,na1,ca1,a2,na2,ca2,rfl,hEw2⟩
 have hzw2:=hEw2.size
 refine zc 3 [(9,(vI 1)),(8,(vA [(.slice a1 na1 ca1),(.slice a2 na2 ca2)])),(5,(.tuple #[(vA [(.slice a1 na1 ca1),(.slice a2 na2 ca2)]),(vI 1)]))] (zan ([(.slice a1 na1 ca1),(.slice a2 na2 ca2)]) 114 rfl (by simp [Value.oneCell']) ?_)
 intro w3 hBw3 hEw3 hzw3 hlw3
 refine zc 1 [(4,(vI 1))] (zf (zb (ze (zd (zc 2 [(2,(vI 1)),(10,(vI 1))] (zf (zb (zj (zm (vI 1) ?_)))))))))
 exact ⟨rfl,((hEw1.trans hEw2).trans hEw3)⟩
theorem zkR (n:Int) {lo_t hi_t:Nat} {a_t:Option Addr} {n_t c_t:Nat} {t:List Un} (w:World) (h_t:Ms unC 280 lo_t hi_t w a_t n_t c_t t) (hg0:Gl 0 [vI 45,vI 33] w) (hg1:Gl 1 (w8C zbm) w) (hg2:Gl 3 (zax kA) w):
  Calls Tryz.prog 23 #[(vA [(.int .i64 n),(.slice a_t n_t c_t)])] w (Ret fun r w'=>r=(vI (zdm n t))∧Ext w w'):=by
 have hlt:=h_t.len_eq
 by_cases h:1≤n∧n≤4096∧t.length=tot n.toNat∧zft t=true
 ·obtain ⟨m,rfl⟩:=Int.eq_ofNat_of_zero_le (show 0≤n by omega)
  have h2:=h.2.2;rw [Int.toNat_natCast] at h2
  rw [zfR (by omega) (by omega) h2.1 h2.2];exact zsc m w h_t (by omega) (by omega) (by omega) (zdw.1 h2.2) hg0 hg1 hg2
 ·rw [zkg h];exact zsb n w h_t h
end Go.Proofs.YtkmhgepdhilllaaGreatDoor
namespace Go.Proofs.YtkmhgepdhilllaaGreatDoor
open Go Go.RowKit Go.Cs
set_option maxRecDepth 100000
theorem zlf (n:Nat) {lo_t hi_t:Nat} {a_t:Option Addr} {n_t c_t:Nat} {t:List Un} (b:Nat) (w:World) (h_t:Ms unC 280 lo_t hi_t w a_t n_t c_t t) (hp0:1≤n) (hp1:n≤4096) (hp2:n_t=tot n) (hp3:∀i,i<t.length→(t.getD i Un.zero).sl=0∨(t.getD i Un.zero).sl=1) (hp4:zbP n (zbg n t)=0) (hp5:b<n) (hg0:Gl 0 [vI 45,vI 33] w) (hg1:Gl 1 (w8C zbm) w) (hg2:Gl 3 (zax kA) w):
  Calls Tryz.prog 50 #[(vA [(vI n),(.slice a_t n_t c_t)]),(vI b)] w (Ret fun r w'=>∃a0 ca0 a1 ca1,r=(.tuple #[(vA [(.slice a0 (hgt n+1) ca0),(.slice a1 (hgt n+1) ca1)]),(vI 0)])∧Es (nv .i64) w.heap.size w'.heap.size w' a0 (hgt n+1) ca0 (zaQ n (hgt n+1))∧Es (nv .i64) w.heap.size w'.heap.size w' a1 (hgt n+1) ca1 (zbb n (hgt n+1))∧Ext w w'):=by
 refine zC (n:=27) (σ:= [(0,(vA [(vI n),(.slice a_t n_t c_t)])),(1,(vI b))]) Tryz.func50 rfl ?_
 replace h_t:=h_t.now;have hle_t:=h_t.le
 have hgl0:=hg0.lt
 have hgl1:=hg1.lt
 have hgl2:=hg2.lt
 have h5:=zat n
 have hlt:=h_t.len_eq
 have hts:=zaC hp1
 have hle:=h_t.le
 refine ze (zd (za (zab (Instr.box 38 (vA [(vI n),(.slice a_t n_t c_t)])) (vP w.heap.size 0) ([(vI n),(.slice a_t n_t c_t)]) 38 ?_)))
 intro w1 hBw1 hEw1 hzw1 hlw1
 refine za (zaf ([(.slice none 0 0),(.slice none 0 0)]) 114 ?_)
 intro w2 hBw2 hEw2 hzw2 hlw2
 refine zc 1 [(5,(vI 0))] (zf (zb (ze (zd (za (zT w.heap.size 0 ((hBw1.ext hEw2).all) ?_))))))
 refine za (zq (zlJ n _ ((h_t.ext hEw1).ext hEw2) (by omega) (by omega) (by omega) (by assumption) ((hg0.ext hEw1).ext hEw2) ((hg1.ext hEw1).ext hEw2) ((hg2.ext hEw1).ext hEw2)) ?_)
 rintro _ w3 ⟨a1,ca1,a2,ca2,rfl,hFz1_0,hFz1_1,hEw3⟩
 have hzw3:=hEw3.size
 have hlea1:=hFz1_0.le
 have hlea2:=hFz1_1.le
 rw [show zbP n (zbg n t)=0 from hp4]
 refine zc 3 [(12,(vI 0)),(11,(vA [(.slice a1 (hgt n+1) ca1),(.slice a2 (hgt n+1) ca2)])),(8,(.tuple #[(vA [(.slice a1 (hgt n+1) ca1),(.slice a2 (hgt n+1) ca2)]),(vI 0)]))] (zan ([(.slice a1 (hgt n+1) ca1),(.slice a2 (hgt n+1) ca2)]) 114 rfl (by simp [Value.oneCell']) ?_)
 intro w4 hBw4 hEw4 hzw4 hlw4
 refine zc 1 [(7,(vI 0))] (zf (zb (ze (ze (zd (zc 4 [(16,(vI b)),(15,vT),(14,vT),(13,(vI 0))] (za (zah (some 17) (decide (((b:Nat):Int)<((0:Nat):Int))) false (zcL) ?_))))))))
 refine zc 3 [(20,(vP w.heap.size 0)),(19,(vI b)),(18,vF)] ?_
 have hK1:=(((hBw1.ext hEw2).ext hEw3).ext hEw4)
 refine za (zl w.heap.size 0 (hK1.cell rfl) ?_)
 refine za (zah (some 22) (decide (((b:Nat):Int)≥((n:Nat):Int))) false (zcL) ?_)
 refine zc 2 [(24,vF),(23,vF)] (zf (zb (zh (zo (zb (ze (zd (za (zT w3.heap.size 0 (hBw4.all) ?_)))))))))
 refine zc 1 [(26,(vI 0))] (za (zG 114 w1.heap.size 0 114 (vA [(.slice a1 (hgt n+1) ca1),(.slice a2 (hgt n+1) ca2)]) ([(.slice none 0 0),(.slice none 0 0)]) ([(.slice a1 (hgt n+1) ca1),(.slice a2 (hgt n+1) ca2)]) ((hBw2.ext hEw3).ext hEw4) (by kernel_rfl) (by first | decide |(simp;done)|(simp;omega)) (by simp [Value.oneCell']) ?_))
 intro w5 hBw5 hCw5
 have hzw5:=hCw5.size
 rw [zy _ _ (by kernel_rfl)] at hBw5
 refine zc 1 [(5,(vI 0))] (zf (zb (zj (za6 (show zX Tryz.prog 27 _ _ (.cell 4 114) (vA [(.slice a1 (hgt n+1) ca1),(.slice a2 (hgt n+1) ca2)]) from ⟨⟨w1.heap.size,0,none⟩,(by kernel_rfl),zI (T:=114) (vs:= [(.slice a1 (hgt n+1) ca1),(.slice a2 (hgt n+1) ca2)]) (hBw5).all (by kernel_rfl)⟩) (show zX Tryz.prog 27 _ _ (.tmp 5) (vI 0) by (show _=_;kernel_rfl)) ?_))))
 have hX1:Ext w w5:=(Ext.own (((hEw1.trans hEw2).trans hEw3).trans hEw4) hCw5 (by omega))
 exact ⟨_,_,_,_,rfl,(((hFz1_0.ext hEw4).chg hCw5)).now.mono (by omega) (Nat.le_refl _),(((hFz1_1.ext hEw4).chg hCw5)).now.mono (by omega) (Nat.le_refl _),hX1⟩
theorem zep (n:Nat) {lo_t hi_t:Nat} {a_t:Option Addr} {n_t c_t:Nat} {t:List Un} (b:Nat) (w:World) (h_t:Ms unC 280 lo_t hi_t w a_t n_t c_t t) (hp0:1≤n) (hp1:n≤4096) (hp2:n_t=tot n) (hp3:∀i,i<t.length→(t.getD i Un.zero).sl=0∨(t.getD i Un.zero).sl=1) (hp4:zbP n (zbg n t)=0) (hp5:b<n) (hg0:Gl 0 [vI 45,vI 33] w) (hg1:Gl 1 (w8C zbm) w) (hg2:Gl 3 (zax kA) w):
  Calls Tryz.prog 34 #[(vA [(vI n),(.slice a_t n_t c_t)]),(vI b)] w (Ret fun r w'=>r=(.tuple #[(vI (za0 (t.getD (b/4) Un.zero) (b%4))),(vI 0)])∧Ext w w'):=by
 refine zC (n:=26) (σ:= [(0,(vA [(vI n),(.slice a_t n_t c_t)])),(1,(vI b))]) Tryz.func34 rfl ?_
 replace h_t:=h_t.now;have hle_t:=h_t.le
 have hgl0:=hg0.lt
 have hgl1:=hg1.lt
 have hgl2:=hg2.lt
 have h5:=zat n
 have hlt:=h_t.len_eq
 have hts:=zaC hp1
 have hle:=h_t.le
 have hb0:b/4<cnt n 0:=zbs hp5 0
 have hb4:=zaG (n:=n) (l:=0) (j:=b/4) (Nat.zero_le _) hb0
 have hn0:num n 0=0:=rfl
 refine ze (zd (za (zab (Instr.box 38 (vA [(vI n),(.slice a_t n_t c_t)])) (vP w.heap.size 0) ([(vI n),(.slice a_t n_t c_t)]) 38 ?_)))
 intro w1 hBw1 hEw1 hzw1 hlw1
 refine zc 2 [(5,(vI 0)),(4,(vI 0))] (zf (zb (ze (ze (zd (za (zT w.heap.size 0 (hBw1.all) ?_)))))))
 refine zc 1 [(10,(vI b))] (za (zq (zlf n b _ (h_t.ext hEw1) (by omega) (by omega) (by omega) (by assumption) (by assumption) (by omega) (hg0.ext hEw1) (hg1.ext hEw1) (hg2.ext hEw1)) ?_))
 rintro _ w2 ⟨a1,ca1,a2,ca2,rfl,hFz1_0,hFz1_1,hEw2⟩
 have hzw2:=hEw2.size
 have hlea1:=hFz1_0.le
 have hlea2:=hFz1_1.le
 refine zc 3 [(13,(vI 0)),(12,(vA [(.slice a1 (hgt n+1) ca1),(.slice a2 (hgt n+1) ca2)])),(8,(.tuple #[(vA [(.slice a1 (hgt n+1) ca1),(.slice a2 (hgt n+1) ca2)]),(vI 0)]))] (zan ([(.slice a1 (hgt n+1) ca1),(.slice a2 (hgt n+1) ca2)]) 114 rfl (by simp [Value.oneCell']) ?_)
 intro w3 hBw3 hEw3 hzw3 hlw3
 refine zc 1 [(7,(vI 0))] (zf (zb (ze (zd (zc 1 [(14,(vI 0))] (za (zah (some 15) (((0:Nat):Int) !=((0:Nat):Int)) false (zaE) ?_)))))))
 refine zf (zb (zh (zo (zb (ze (zd (zc 1 [(17,(vP w.heap.size 1))] (za (zl w.heap.size 1 (((hBw1.ext hEw2).ext hEw3).cell rfl) ?_)))))))))
 refine zc 1 [(19,(vI b))] (za (zn (some 20) .i64 (IntKind.i64.wrap (((b:Nat):Int).tdiv ((4:Nat):Int))) (b/4) (zu (zed _ _)) ?_))
 obtain ⟨b1,o1,rfl⟩:=h_t.addr (by omega) (by decide)
 refine za (zai b1 o1 n_t c_t (b/4) 280 ?_)
 have hK1:=(((h_t.ext hEw1).ext hEw2).ext hEw3)
 refine za (zS b1 (o1+(b/4)*280) (hK1.at Un.zero (by omega)) (zK _) ?_)
 refine zc 1 [(23,(vI b))] (za (zn (some 24) .i64 (((b:Nat):Int).tmod ((4:Nat):Int)) (b%4) (zcZ _ _) ?_))
 refine za (zq (zoO (t.getD (b/4) Un.zero) (b%4) _ (by omega)) ?_)
 rintro _ w4 ⟨rfl,hEw4⟩
 have hzw4:=hEw4.size
 refine zc 2 [(5,(vI 0)),(4,(vI (za0 (t.getD (b/4) Un.zero) (b%4))))] (zf (zb (zj (zm (.tuple #[(vI (za0 (t.getD (b/4) Un.zero) (b%4))),(vI 0)]) ?_))))
 have hX1:Ext w w4:=(((hEw1.trans hEw2).trans hEw3).trans hEw4)
 exact ⟨rfl,hX1⟩
theorem zlR (n:Nat) {lo_t hi_t:Nat} {a_t:Option Addr} {n_t c_t:Nat} {t:List Un} (b:Nat) (w:World) (h_t:Ms unC 280 lo_t hi_t w a_t n_t c_t t) (hp0:1≤n) (hp1:n≤4096) (hp2:n_t=tot n) (hp3:∀i,i<t.length→(t.getD i Un.zero).sl=0∨(t.getD i Un.zero).sl=1) (hp4:zbP n (zbg n t)=0) (hp5:b<n) (hg0:Gl 0 [vI 45,vI 33] w) (hg1:Gl 1 (w8C zbm) w) (hg2:Gl 3 (zax kA) w):
  Calls Tryz.prog 35 #[(vA [(vI n),(.slice a_t n_t c_t)]),(vI b)] w (Ret fun r w'=>r=(.tuple #[(vA (zM ((t.getD (b/4) Un.zero).nd.rs.get (b%4)))),(vI 0)])∧Ext w w'):=by
 refine zC (n:=29) (σ:= [(0,(vA [(vI n),(.slice a_t n_t c_t)])),(1,(vI b))]) Tryz.func35 rfl ?_
 replace h_t:=h_t.now;have hle_t:=h_t.le
 have hgl0:=hg0.lt
 have hgl1:=hg1.lt
 have hgl2:=hg2.lt
 have h5:=zat n
 have hlt:=h_t.len_eq
 have hts:=zaC hp1
 have hle:=h_t.le
 have hb0:b/4<cnt n 0:=zbs hp5 0
 have hb4:=zaG (n:=n) (l:=0) (j:=b/4) (Nat.zero_le _) hb0
 have hn0:num n 0=0:=rfl
 refine ze (zd (za (zab (Instr.box 38 (vA [(vI n),(.slice a_t n_t c_t)])) (vP w.heap.size 0) ([(vI n),(.slice a_t n_t c_t)]) 38 ?_)))
 intro w1 hBw1 hEw1 hzw1 hlw1
 refine za (zaf (zM Rec.zero) 68 ?_)
 intro w2 hBw2 hEw2 hzw2 hlw2
 refine zc 1 [(5,(vI 0))] (zf (zb (ze (ze (zd (za (zT w.heap.size 0 ((hBw1.ext hEw2).all) ?_)))))))
 refine zc 1 [(10,(vI b))] (za (zq (zlf n b _ ((h_t.ext hEw1).ext hEw2) (by omega) (by omega) (by omega) (by assumption) (by assumption) (by omega) ((hg0.ext hEw1).ext hEw2) ((hg1.ext hEw1).ext hEw2) ((hg2.ext hEw1).ext hEw2)) ?_))
 rintro _ w3 ⟨a1,ca1,a2,ca2,rfl,hFz1_0,hFz1_1,hEw3⟩
 have hzw3:=hEw3.size
 have hlea1:=hFz1_0.le
 have hlea2:=hFz1_1.le
 refine zc 3 [(13,(vI 0)),(12,(vA [(.slice a1 (hgt n+1) ca1),(.slice a2 (hgt n+1) ca2)])),(8,(.tuple #[(vA [(.slice a1 (hgt n+1) ca1),(.slice a2 (hgt n+1) ca2)]),(vI 0)]))] (zan ([(.slice a1 (hgt n+1) ca1),(.slice a2 (hgt n+1) ca2)]) 114 rfl (by simp [Value.oneCell']) ?_)
 intro w4 hBw4 hEw4 hzw4 hlw4
 refine zc 1 [(7,(vI 0))] (zf (zb (ze (zd (zc 1 [(14,(vI 0))] (za (zah (some 15) (((0:Nat):Int) !=((0:Nat):Int)) false (zaE) ?_)))))))
 refine zf (zb (zh (zo (zb (ze (zd (zc 1 [(18,(vP w.heap.size 1))] ?_)))))))
 have hK1:=(((hBw1.ext hEw2).ext hEw3).ext hEw4)
 refine za (zl w.heap.size 1 (hK1.cell rfl) ?_)
 refine zc 1 [(20,(vI b))] (za (zn (some 21) .i64 (IntKind.i64.wrap (((b:Nat):Int).tdiv ((4:Nat):Int))) (b/4) (zu (zed _ _)) ?_))
 refine zc 1 [(22,(vI b))] (za (zn (some 23) .i64 (((b:Nat):Int).tmod ((4:Nat):Int)) (b%4) (zcZ _ _) ?_))
 obtain ⟨b1,o1,rfl⟩:=h_t.addr (by omega) (by decide)
 refine za (zai b1 o1 n_t c_t (b/4) 280 ?_)
 refine zc 2 [(26,(vP b1 (o1+(b/4)*280+2))),(25,(vP b1 (o1+(b/4)*280)))] (za (zbk b1 (o1+(b/4)*280+2) (b%4) 4 35 ?_))
 have hK2:=((((h_t.ext hEw1).ext hEw2).ext hEw3).ext hEw4)
 refine za (zS b1 (o1+(b/4)*280+2+(b%4)*35) ((hK2.at Un.zero (by omega)).sub2 2 _ (zM ((t.getD (b/4) Un.zero).nd.rs.get (b%4))) (ztp (by omega))) (zZ _) ?_)
 refine za (zG 68 w1.heap.size 0 68 (vA (zM ((t.getD (b/4) Un.zero).nd.rs.get (b%4)))) (zM Rec.zero) (zM ((t.getD (b/4) Un.zero).nd.rs.get (b%4))) ((hBw2.ext hEw3).ext hEw4) (by rw [zZ];kernel_rfl) (by first |(simp;done)|(simp;omega)) (za8 _) ?_)
 intro w5 hBw5 hCw5
 have hzw5:=hCw5.size
 rw [zy _ _ (by simp)] at hBw5
 refine zc 1 [(5,(vI 0))] (zf (zb (zj (za6 (show zX Tryz.prog 29 _ _ (.cell 4 68) (vA (zM ((t.getD (b/4) Un.zero).nd.rs.get (b%4)))) from ⟨⟨w1.heap.size,0,none⟩,(by kernel_rfl),zI (T:=68) (vs:=zM ((t.getD (b/4) Un.zero).nd.rs.get (b%4))) (hBw5).all (by rw [zZ];kernel_rfl)⟩) (show zX Tryz.prog 29 _ _ (.tmp 5) (vI 0) by (show _=_;kernel_rfl)) ?_))))
 have hX1:Ext w w5:=(Ext.own (((hEw1.trans hEw2).trans hEw3).trans hEw4) hCw5 (by omega))
 exact ⟨rfl,hX1⟩
theorem zpU (n:Int) {lo_t hi_t:Nat} {a_t:Option Addr} {n_t c_t:Nat} {t:List Un} (w:World) (h_t:Ms unC 280 lo_t hi_t w a_t n_t c_t t) (hp0:0<n_t) (hp1:n_t≤100000):
  Calls Tryz.prog 48 #[(vA [(.int .i64 n),(.slice a_t n_t c_t)])] w (Ret fun r w'=>∃a1,r=(vA [(.int .i64 n),(.slice (pA a1 0) n_t n_t)])∧w.heap.size≤a1∧Blk w' a1 (t.flatMap unC) 77∧n_t=List.length t∧n_t≤maxLen∧Ext w w'):=by
 refine zC (n:=17) (σ:= [(0,(vA [(.int .i64 n),(.slice a_t n_t c_t)]))]) Tryz.func48 rfl ?_
 replace h_t:=h_t.now;have hle_t:=h_t.le
 have hlt:=h_t.len_eq
 have hle:=h_t.le
 refine ze (zd (za (zab (Instr.box 38 (vA [(.int .i64 n),(.slice a_t n_t c_t)])) (vP w.heap.size 0) ([(.int .i64 n),(.slice a_t n_t c_t)]) 38 ?_)))
 intro w1 hBw1 hEw1 hzw1 hlw1
 refine za (zaf ([(vI 0),(.slice none 0 0)]) 38 ?_)
 intro w2 hBw2 hEw2 hzw2 hlw2
 refine zf (zb (ze (zaa 9 (fun w3 hEw3 hzw3 hT414=> ?_))))
 refine zg hT414 [(0,4,(vP w.heap.size 0))] 1 (zt hT414 1 w.heap.size 0 (fun w' hC=>((((hBw1.ext hEw2).ext hEw3).ext hC).cell rfl)) (zg hT414 [(2,6,(vP w.heap.size 1))] 1 (zt hT414 3 w.heap.size 1 (fun w' hC=>((((hBw1.ext hEw2).ext hEw3).ext hC).cell rfl)) (zg hT414 [(4,8,(vI n_t))] 1 (zbE 5 7 ?_ ?_)))))
 ·refine zcy (some 9) 36 77 280 384 n_t n_t .i64 .i64 (vA (unC Un.zero)) (by omega) (by omega) (by omega) ?_
  rw [zd2 (f:=unC) (x:=Un.zero) rfl (zK _) (by decide)]
  intro w4 hBw4 hEw4
  have hzw4:=hEw4.size;have hlw4:=hBw4.lt
  have hmw4:Ms unC 280 w3.heap.size (w3.heap.size+1) w4 (pA w3.heap.size 0) n_t n_t (List.replicate n_t Un.zero):=Ms.of_pre (r:= []) (by rw [List.append_nil];exact hBw4) zK (by simp) (Nat.le_refl _) (by simp only [maxLen];omega) (Nat.le_refl _) (Nat.lt_succ_self _)
  refine ⟨.inr hEw4, ?_⟩
  refine zg (hw:=hEw4) hT414 [(6,10,(vA [(.int .i64 n),(.slice (pA w3.heap.size 0) n_t n_t)]))] 1 (zx 7 (zaf ([(vI 0),(.slice none 0 0)]) 38 ?_))
  intro w5 hBw5 hEw5 hzw5 hlw5
  have hX1:Ext w3 w5:=(hEw4.trans hEw5)
  refine ⟨.inr hX1, ?_⟩
  refine zx 8 (zG 38 w4.heap.size 0 38 (vA [(.int .i64 n),(.slice (pA w3.heap.size 0) n_t n_t)]) ([(vI 0),(.slice none 0 0)]) ([(.int .i64 n),(.slice (pA w3.heap.size 0) n_t n_t)]) hBw5 (by kernel_rfl) (by first | decide |(simp;done)|(simp;omega)) (by simp [Value.oneCell']) ?_)
  intro w6 hBw6 hCw6
  have hzw6:=hCw6.size
  rw [zy _ _ (by kernel_rfl)] at hBw6
  refine ⟨.inl (by kernel_rfl), ?_⟩
  refine zD (zb (ze (zd (zc 1 [(11,(vP w4.heap.size 1))] (za (zl w4.heap.size 1 (hBw6.cell rfl) ?_))))))
  refine zc 1 [(13,(vP w.heap.size 1))] ?_
  have hK1:=(((((hBw1.ext hEw2).ext hEw3).ext hEw4).ext hEw5).chg hCw6)
  refine za (zl w.heap.size 1 (hK1.cell rfl) ?_)
  have hK2:=((((((h_t.ext hEw1).ext hEw2).ext hEw3).ext hEw4).ext hEw5).chg hCw6)
  refine za (zkw (dc:=n_t) (some 15) 36 36 3 77 w3.heap.size ((hBw4.ext hEw5).chg hCw6) hK2 (by rw [zaD zK];first | done |(simp only [List.length_replicate];done)|(have:=(show List.length (List.replicate n_t Un.zero)=n_t from by rw [List.length_replicate]);omega)) zbe (by omega) ?_ (by decide))
  intro w7 hBw7 hCw7
  have hK3:=((((((h_t.ext hEw1).ext hEw2).ext hEw3).ext hEw4).ext hEw5).chg hCw6)
  have hzw7:=hCw7.size
  refine zf (zb (ze (zd (za (zT w4.heap.size 0 ((hBw6.chg hCw7).all) ?_)))))
  have hK4:=(((((hBw2.ext hEw3).ext hEw4).ext hEw5).chg hCw6).chg hCw7)
  refine za (zG 38 w1.heap.size 0 38 (vA [(.int .i64 n),(.slice (pA w3.heap.size 0) n_t n_t)]) ([(vI 0),(.slice none 0 0)]) ([(.int .i64 n),(.slice (pA w3.heap.size 0) n_t n_t)]) hK4 (by kernel_rfl) (by first | decide |(simp;done)|(simp;omega)) (by simp [Value.oneCell']) ?_)
  have hK5:=(((((hBw2.ext hEw3).ext hEw4).ext hEw5).chg hCw6).chg hCw7)
  intro w8 hBw8 hCw8
  have hzw8:=hCw8.size
  rw [zy _ _ (by kernel_rfl)] at hBw8
  refine zf (zb (zj (zaI (show zX Tryz.prog 17 _ _ (.cell 2 38) (vA [(.int .i64 n),(.slice (pA w3.heap.size 0) n_t n_t)]) from ⟨⟨w1.heap.size,0,none⟩,(by kernel_rfl),zI (T:=38) (vs:= [(.int .i64 n),(.slice (pA w3.heap.size 0) n_t n_t)]) (hBw8).all (by kernel_rfl)⟩) ?_)))
  have hX2:Ext w w8:=(Ext.own (Ext.own (Ext.own ((((hEw1.trans hEw2).trans hEw3).trans hEw4).trans hEw5) hCw6 (by omega)) hCw7 (by omega)) hCw8 (by omega))
  exact ⟨_,rfl,by omega,(hBw7.chg hCw8),hK3.len_eq,by simp only [maxLen];omega,hX2⟩
 ·refine zaf ([(vI 0),(.slice none 0 0)]) 38 ?_
  intro w9 hBw9 hEw9 hzw9 hlw9
  refine ⟨.inr hEw9, ?_⟩
  refine zx 5 (zcy (some 9) 36 77 280 384 n_t n_t .i64 .i64 (vA (unC Un.zero)) (by omega) (by omega) (by omega) ?_)
  rw [zd2 (f:=unC) (x:=Un.zero) rfl (zK _) (by decide)]
  intro w10 hBw10 hEw10
  have hzw10:=hEw10.size;have hlw10:=hBw10.lt
  have hmw10:Ms unC 280 w9.heap.size (w9.heap.size+1) w10 (pA w9.heap.size 0) n_t n_t (List.replicate n_t Un.zero):=Ms.of_pre (r:= []) (by rw [List.append_nil];exact hBw10) zK (by simp) (Nat.le_refl _) (by simp only [maxLen];omega) (Nat.le_refl _) (Nat.lt_succ_self _)
  have hX3:Ext w3 w10:=(hEw9.trans hEw10)
  refine ⟨.inr hX3, ?_⟩
  refine zg (hw:=hX3) hT414 [(6,10,(vA [(.int .i64 n),(.slice (pA w9.heap.size 0) n_t n_t)]))] 1 (zx 8 (zG 38 w3.heap.size 0 38 (vA [(.int .i64 n),(.slice (pA w9.heap.size 0) n_t n_t)]) ([(vI 0),(.slice none 0 0)]) ([(.int .i64 n),(.slice (pA w9.heap.size 0) n_t n_t)]) (hBw9.ext hEw10) (by kernel_rfl) (by first | decide |(simp;done)|(simp;omega)) (by simp [Value.oneCell']) ?_))
  intro w11 hBw11 hCw11
  have hzw11:=hCw11.size
  rw [zy _ _ (by kernel_rfl)] at hBw11
  refine ⟨.inl (by kernel_rfl), ?_⟩
  refine zD (zb (ze (zd (zc 1 [(11,(vP w3.heap.size 1))] (za (zl w3.heap.size 1 (hBw11.cell rfl) ?_))))))
  refine zc 1 [(13,(vP w.heap.size 1))] ?_
  have hK6:=(((((hBw1.ext hEw2).ext hEw3).ext hEw9).ext hEw10).chg hCw11)
  refine za (zl w.heap.size 1 (hK6.cell rfl) ?_)
  have hK7:=((((((h_t.ext hEw1).ext hEw2).ext hEw3).ext hEw9).ext hEw10).chg hCw11)
  refine za (zkw (dc:=n_t) (some 15) 36 36 3 77 w9.heap.size (hBw10.chg hCw11) hK7 (by rw [zaD zK];first | done |(simp only [List.length_replicate];done)|(have:=(show List.length (List.replicate n_t Un.zero)=n_t from by rw [List.length_replicate]);omega)) zbe (by omega) ?_ (by decide))
  intro w12 hBw12 hCw12
  have hK8:=((((((h_t.ext hEw1).ext hEw2).ext hEw3).ext hEw9).ext hEw10).chg hCw11)
  have hzw12:=hCw12.size
  refine zf (zb (ze (zd (za (zT w3.heap.size 0 ((hBw11.chg hCw12).all) ?_)))))
  have hK9:=(((((hBw2.ext hEw3).ext hEw9).ext hEw10).chg hCw11).chg hCw12)
  refine za (zG 38 w1.heap.size 0 38 (vA [(.int .i64 n),(.slice (pA w9.heap.size 0) n_t n_t)]) ([(vI 0),(.slice none 0 0)]) ([(.int .i64 n),(.slice (pA w9.heap.size 0) n_t n_t)]) hK9 (by kernel_rfl) (by first | decide |(simp;done)|(simp;omega)) (by simp [Value.oneCell']) ?_)
  have hK10:=(((((hBw2.ext hEw3).ext hEw9).ext hEw10).chg hCw11).chg hCw12)
  intro w13 hBw13 hCw13
  have hzw13:=hCw13.size
  rw [zy _ _ (by kernel_rfl)] at hBw13
  refine zf (zb (zj (zaI (show zX Tryz.prog 17 _ _ (.cell 2 38) (vA [(.int .i64 n),(.slice (pA w9.heap.size 0) n_t n_t)]) from ⟨⟨w1.heap.size,0,none⟩,(by kernel_rfl),zI (T:=38) (vs:= [(.int .i64 n),(.slice (pA w9.heap.size 0) n_t n_t)]) (hBw13).all (by kernel_rfl)⟩) ?_)))
  have hX4:Ext w w13:=(Ext.own (Ext.own (Ext.own ((((hEw1.trans hEw2).trans hEw3).trans hEw9).trans hEw10) hCw11 (by omega)) hCw12 (by omega)) hCw13 (by omega))
  exact ⟨_,rfl,by omega,(hBw12.chg hCw13),hK8.len_eq,by simp only [maxLen];omega,hX4⟩
end Go.Proofs.YtkmhgepdhilllaaGreatDoor
namespace Go.Proofs.YtkmhgepdhilllaaGreatDoor
open Go Go.RowKit Go.Cs
set_option maxRecDepth 100000
theorem zsN {bl bq bi lc hc2 lf hf2 nc cc nf cf:Nat} {ac af:Option Addr} (n b B lp:Nat) (U:Nat→Prop) (J Jx:Nat→World→Prop) (w:World) (hp0:1≤n) (hp1:n≤4096) (hp2:b<n) (hB1:Blk w bl [vI 0] 3) (hB2:Blk w bq ([(.slice ac nc cc),(.slice af nf cf)]) 114) (hB3:Blk w bi [vI (b/4)] 3) (hc:Es (nv .i64) lc hc2 w ac nc cc (zaQ n (hgt n+1))) (hf:Es (nv .i64) lf hf2 w af nf cf (zbb n (hgt n+1))) (hne:bl≠bi∧bl≠bq∧bi≠bq) (hlo:(¬(lc≤bl∧bl<hc2)∧¬(lf≤bl∧bl<hf2))∧¬(lc≤bi∧bi<hc2)∧¬(lf≤bi∧bi<hf2)) (hU:∀x,(B≤x∨U x)→(x≠bq∧x≠bl∧x≠bi)∧¬(lc≤x∧x<hc2)∧¬(lf≤x∧x<hf2)) (hJ:∀k W W',J k W→Chg (fun x=>x=bl∨x=bi) W W'→J k W') (hY:∀k W,k<hgt n+1→J k W→Yat Tryz.prog lp [vI k,vI (num n k+idx b k)] W (fun v W'=>(v= .bool true∧J (k+1) W'∧Chg (fun b=>B≤b∨U b) W W')∨(v= .bool false∧Chg (fun b=>B≤b∨U b) W W'∧Jx k W'))) (h0:J 0 w):
  Calls Tryz.prog 75 #[(.func (.yield lp) #[] #[]),(vP bl 0),(vP bq 0),(vP bi 0)] w (Ret fun r w'=>J (hgt n+1) w'∨∃k,k<hgt n+1∧Jx k w'):=by
 refine zC (n:=25) (σ:= [(0,(.func (.yield lp) #[] #[])),(1,(vP bl 0)),(2,(vP bq 0)),(3,(vP bi 0))]) Tryz.func75 rfl ?_
 have hlc:=hc.len_eq;rw [zb3] at hlc
 have hlf:=hf.len_eq;rw [zcm] at hlf
 have h5:=zat n
 have hts:=zaC hp1
 refine zr (zW (X:=Nat) (fun m=> []) [5,6,7,8,9,10,11,12,13,14,15,16,17,18,19,20,21,22,23,24] (fun m w1=>m≤hgt n+1∧J m w1∧Blk w1 bl [vI m] 3∧Blk w1 bi [vI (idx b m)] 3∧Blk w1 bq ([(.slice ac nc cc),(.slice af nf cf)]) 114∧Es (nv .i64) lc hc2 w1 ac nc cc (zaQ n (hgt n+1))∧Es (nv .i64) lf hf2 w1 af nf cf (zbb n (hgt n+1))) (fun m=>hgt n+1-m) 0 (by kernel_rfl) ⟨Nat.zero_le _,h0,hB1,hB3,hB2,hc,hf⟩ ?_)
 rintro m dw1 w1 ⟨hm,hJm,hBl,hBi,hBq,hc1,hf1⟩
 have hbl1:=hBl.lt;have hbl2:=hBi.lt;have hbl3:=hBq.lt
 have hgf:m<hgt n+1→gt (zbb n (hgt n+1)) m=num n m:=fun hh=>zcx hh
 have hib:=zkH b m
 refine ze (ze (zd (za (zl bl 0 (hBl.cell rfl) ?_))))
 refine zc 1 [(6,(vP bq 0))] (za (zl bq 0 (hBq.cell rfl) ?_))
 refine zc 1 [(8,(vI nc))] (za (zE (some 9) (decide (((m:Nat):Int)<((nc:Nat):Int))) (fun hc9=> ?_) (fun hc9=> ?_)))
 ·replace hc9:m<nc:=by have:=zac hc9;omega
  replace hgf:=hgf (by omega)
  have hij:=zbs (n:=n) (i:=b) hp2 m
  have hpl:=zaG (n:=n) (l:=m) (j:=idx b m) (by omega) hij
  refine zf (zb (zv (zo (zb (ze (zr (ze (zbI (fun x=>B≤x∨U x) 11 (fun w2 hEw2 hzw2 hT33=> ?_)))))))))
  have hX1:Chg (fun x=>B≤x∨U x) w2 w2:=(Chg.refl (fun x=>B≤x∨U x) w2)
  refine zg (hw:=hX1) hT33 [(0,14,(.func (.yield lp) #[] #[]))] 1 (zt (hw:=hX1) hT33 1 bl 0 (fun w' hC=>(((hBl.ext hEw2).chg hC (fun hs=>by have hu:=hU _ hs;omega)).cell rfl)) (zg (hw:=hX1) hT33 [(2,16,(vP bq 1))] 1 (zt (hw:=hX1) hT33 3 bq 1 (fun w' hC=>(((hBq.ext hEw2).chg hC (fun hs=>by have hu:=hU _ hs;omega)).cell rfl)) (zt (hw:=hX1) hT33 4 bl 0 (fun w' hC=>(((hBl.ext hEw2).chg hC (fun hs=>by have hu:=hU _ hs;omega)).cell rfl)) ?_))))
  obtain ⟨b1,o1,rfl⟩:=hf1.addr (by omega)
  refine zag (hw:=hX1) hT33 5 b1 o1 nf cf m 1 (zt (hw:=hX1) hT33 6 b1 (o1+m*1) (fun w' hC=>(((hf1.ext hEw2).chg hC (fun k h1 h2 hs=>by have hu:=hU _ hs;omega)).celln (by omega))) (zt (hw:=hX1) hT33 7 bi 0 (fun w' hC=>(((hBi.ext hEw2).chg hC (fun hs=>by have hu:=hU _ hs;omega)).cell rfl)) (zk (hw:=hX1) hT33 8 (vI (num n m+idx b m)) (zY .i64 (IntKind.i64.wrap (((gt (zbb n (hgt n+1)) m:Nat):Int)+((idx b m:Nat):Int))) (zu)) (zx 9 (zk7 (some 23) lp [(vI m),(vI (num n m+idx b m))] (hY m _ (by omega) (hJ _ _ _ hJm hEw2.chg)) ?_)))))
  rintro _ w3 (⟨rfl,hJw3,hCw3⟩|⟨rfl,hCw3,hXw3⟩)
  ·have hzw3:=hCw3.size
   have hX2:Chg (fun x=>B≤x∨U x) w2 w3:=(Chg.then (Chg.refl (fun x=>B≤x∨U x) w2) hCw3 (fun k hk hs=>hs))
   refine ⟨.inr hX2, ?_⟩
   refine zg (hw:=hX2) hT33 [(10,24,vF)] 1 (zD (zb (zh (zo (zi (zb (zbI (fun k=>k=bl) 6 (fun w4 hEw4 hzw4 hT57=> ?_))))))))
   have hK1:=((((hBi.ext hEw2)).chg hCw3 (fun hs=>by have hu:=hU _ hs;omega)).ext hEw4)
   have hX3:Chg (fun k=>k=bl) w4 w4:=(Chg.refl (fun k=>k=bl) w4)
   refine zt (hw:=hX3) hT57 2 bi 0 (fun w' hC=>((hK1.chg hC (fun hs=>by have h:_=_:=hs;omega)).cell rfl)) (zk (hw:=hX3) hT57 3 (vI (idx b (m+1))) (zY .i64 (IntKind.i64.wrap (((idx b m:Nat):Int).tdiv ((4:Nat):Int))) (zu (zed _ _) (by omega) (by have:=zkH b (m+1);omega))) ?_)
   have hK2:=((((hBl.ext hEw2)).chg hCw3 (fun hs=>by have hu:=hU _ hs;omega)).ext hEw4)
   refine zx 0 (zl bl 0 (hK2.cell rfl) ?_)
   refine ⟨.inr hX3, ?_⟩
   refine zk (hw:=hX3) hT57 1 (vI (m+1)) (zY .i64 (IntKind.i64.wrap (((m:Nat):Int)+((1:Nat):Int))) (zu)) (zx 4 (zak 3 bl 0 3 (vI (m+1)) ([vI m]) hK2 (by first | decide |(simp;done)|(simp;omega)) ?_))
   intro w5 hBw5 hCw5
   have hzw5:=hCw5.size
   replace hBw5:=hBw5.set1
   have hX4:Chg (fun k=>k=bl) w4 w5:=(Chg.then (Chg.refl (fun k=>k=bl) w4) hCw5 (fun k hk hs=>by have h:k=_:=hs;first | exact hs | exact .inl h | exact .inr h |(exfalso;omega)))
   refine ⟨.inr hX4, ?_⟩
   refine zx 5 (zak 3 bi 0 3 (vI (idx b (m+1))) ([vI (idx b m)]) (hK1.chg hCw5) (by first | decide |(simp;done)|(simp;omega)) ?_)
   intro w6 hBw6 hCw6
   have hzw6:=hCw6.size
   replace hBw6:=hBw6.set1
   refine ⟨.inl (by kernel_rfl), ?_⟩
   refine zD (zz ?_)
   have hK3:=((((((hBq.ext hEw2)).chg hCw3 (fun hs=>by have hu:=hU _ hs;omega)).ext hEw4).chg hCw5).chg hCw6)
   have hK4:=((((((hc1.ext hEw2)).chg hCw3 (fun k h1 h2 hs=>by have hu:=hU _ hs;omega)).ext hEw4).chg hCw5).chg hCw6)
   have hK5:=((((((hf1.ext hEw2)).chg hCw3 (fun k h1 h2 hs=>by have hu:=hU _ hs;omega)).ext hEw4).chg hCw5).chg hCw6)
   refine zL (m+1) ?_ ?_
   ·exact ⟨by omega,(hJ _ _ _ (hJ _ _ _ (hJ _ _ _ hJw3 hEw4.chg) (Chg.mono hCw5 (fun x _ hx=> .inl hx))) (Chg.mono hCw6 (fun x _ hx=> .inr hx))),(hBw5.chg hCw6),hBw6,hK3,hK4,hK5⟩
   ·first | omega |(dsimp only;omega)
  ·have hzw3:=hCw3.size
   have hX5:Chg (fun x=>B≤x∨U x) w2 w3:=(Chg.then (Chg.refl (fun x=>B≤x∨U x) w2) hCw3 (fun k hk hs=>hs))
   refine ⟨.inr hX5, ?_⟩
   refine zg (hw:=hX5) hT33 [(10,24,vT)] 1 (zD (zb (zv (zj (zA (zw (zw (zA (zm (.tuple #[]) ?_)))))))))
   exact .inr ⟨m,by omega,hXw3⟩
 ·replace hc9:¬(m<nc):=by have:=zad hc9;omega
  obtain rfl:m=hgt n+1:=by omega
  exact zf (zb (zh (zP (zp (zp (zF (zlr (.inl hJm))))))))
theorem zqj {lo_c hi_c:Nat} {a_c:Option Addr} {n_c c_c:Nat} {c:List Nat} {lo_f hi_f:Nat} {a_f:Option Addr} {n_f c_f:Nat} {f:List Nat} (v:Nat) (j:Nat) (w:World) (h_c:Es (nv .i64) lo_c hi_c w a_c n_c c_c c) (h_f:Es (nv .i64) lo_f hi_f w a_f n_f c_f f):
  Calls Tryz.prog 53 #[(vA [(.slice a_c n_c c_c),(.slice a_f n_f c_f)]),(vI v),(vI j)] w (Ret fun r w'=>∃(a0:Nat) (a0y:Nat) (a0z:Nat),r=(.func (.func 75) #[] #[(vP a0 0),(vP a0y 0),(vP a0z 0)])∧(w.heap.size≤a0∧w.heap.size≤a0y∧w.heap.size≤a0z∧a0≠a0y∧a0≠a0z∧a0y≠a0z)∧Blk w' a0 [(vI v)] 3∧Blk w' a0y [(.slice a_c n_c c_c),(.slice a_f n_f c_f)] 114∧Blk w' a0z [(vI j)] 3∧Ext w w'):=by
 refine zC (n:=8) (σ:= [(0,(vA [(.slice a_c n_c c_c),(.slice a_f n_f c_f)])),(1,(vI v)),(2,(vI j))]) Tryz.func53 rfl ?_
 replace h_c:=h_c.now;have hle_c:=h_c.le
 replace h_f:=h_f.now;have hle_f:=h_f.le
 refine ze (zd (za (zab (Instr.box 114 (vA [(.slice a_c n_c c_c),(.slice a_f n_f c_f)])) (vP w.heap.size 0) ([(.slice a_c n_c c_c),(.slice a_f n_f c_f)]) 114 ?_)))
 intro w1 hBw1 hEw1 hzw1 hlw1
 refine za (zab (Instr.box 3 (vI v)) (vP w1.heap.size 0) ([(vI v)]) 3 ?_)
 intro w2 hBw2 hEw2 hzw2 hlw2
 refine za (zab (Instr.box 3 (vI j)) (vP w2.heap.size 0) ([(vI j)]) 3 ?_)
 intro w3 hBw3 hEw3 hzw3 hlw3
 refine zc 1 [(6, .nilFunc)] (zf (zb (ze (zd (zc 2 [(6,(.func (.func 75) #[] #[(vP w1.heap.size 0),(vP w.heap.size 0),(vP w2.heap.size 0)])),(7,(.func (.func 75) #[] #[(vP w1.heap.size 0),(vP w.heap.size 0),(vP w2.heap.size 0)]))] (zf (zb (zj (zm (.func (.func 75) #[] #[(vP w1.heap.size 0),(vP w.heap.size 0),(vP w2.heap.size 0)]) ?_)))))))))
 exact ⟨_,_,_,rfl,by omega,(hBw2.ext hEw3),((hBw1.ext hEw2).ext hEw3),hBw3,((hEw1.trans hEw2).trans hEw3)⟩
end Go.Proofs.YtkmhgepdhilllaaGreatDoor
namespace Go.Proofs.YtkmhgepdhilllaaGreatDoor
open Go Go.RowKit Go.Cs
set_option maxRecDepth 100000
set_option maxHeartbeats 4000000 in
theorem zdE (n:Nat) {lo_t hi_t:Nat} {a_t:Option Addr} {n_t c_t:Nat} {t:List Un} (b:Nat) (x:Non) (y:Dig) (w:World) (h_t:Ms unC 280 lo_t hi_t w a_t n_t c_t t) (hp0:1≤n) (hp1:n≤4096) (hp2:n_t=tot n) (hp3:∀i,i<t.length→(t.getD i Un.zero).sl=0∨(t.getD i Un.zero).sl=1) (hp4:zbP n (zbg n t)=0) (hp5:b<n) (hg0:Gl 0 [vI 45,vI 33] w) (hg1:Gl 1 (w8C zbm) w) (hg2:Gl 3 (zax kA) w):
  Calls Tryz.prog 22 #[(vA [(vI n),(.slice a_t n_t c_t)]),(vI b),(vA (zbc x)),(vA (zQ y))] w (Ret fun r w'=>∃a1,r=(.tuple #[(vA [(vI n),(.slice a1 n_t n_t)]),(vI (za0 (t.getD (b/4) Un.zero) (b%4))),(vI 0)])∧Ms unC 280 w.heap.size w'.heap.size w' a1 n_t n_t (zdz n t b x y)∧Ext w w'):=by
 refine zeG (n:=111) (σ:= [(0,(vA [(vI n),(.slice a_t n_t c_t)])),(1,(vI b)),(2,(vA (zbc x))),(3,(vA (zQ y)))]) Tryz.func22 rfl ?_
 replace h_t:=h_t.now;have hle_t:=h_t.le
 have hgl0:=hg0.lt
 have hgl1:=hg1.lt
 have hgl2:=hg2.lt
 have h5:=zat n
 have hlt:=h_t.len_eq
 have hts:=zaC hp1
 have hle:=h_t.le
 have hb0:b/4<cnt n 0:=zbs hp5 0
 have hb4:=zaG (n:=n) (l:=0) (j:=b/4) (Nat.zero_le _) hb0
 have hn0:num n 0=0:=rfl
 have htg:=zjs (t.getD (b/4) Un.zero) (b%4)
 have hG:GoodT n (set1 t b x y):=(GoodT.of (by omega) hp4).set1 hp5
 have hS:Slt n (set1 t b x y):=(Slt.of (by omega) (zdw.2 hp3)).set1 (by omega) hp5
 refine ze (zd (za (zab (Instr.box 38 (vA [(vI n),(.slice a_t n_t c_t)])) (vP w.heap.size 0) ([(vI n),(.slice a_t n_t c_t)]) 38 ?_)))
 intro w1 hBw1 hEw1 hzw1 hlw1
 refine za (zab (Instr.box 56 (vA (zbc x))) (vP w1.heap.size 0) (zbc x) 56 ?_)
 intro w2 hBw2 hEw2 hzw2 hlw2
 refine za (zab (Instr.box 59 (vA (zQ y))) (vP w2.heap.size 0) (zQ y) 59 ?_)
 intro w3 hBw3 hEw3 hzw3 hlw3
 refine za (zaf ([(vI 0),(.slice none 0 0)]) 38 ?_)
 intro w4 hBw4 hEw4 hzw4 hlw4
 refine zc 2 [(10,(vI 0)),(9,(vI 0))] (zf (zb (ze (zd ?_))))
 have hK1:=(((hBw1.ext hEw2).ext hEw3).ext hEw4)
 refine za (zT w.heap.size 0 (hK1.all) ?_)
 refine zc 1 [(24,(vI b))] ?_
 have hK2:=((((h_t.ext hEw1).ext hEw2).ext hEw3).ext hEw4)
 have hK3:=((((hg0.ext hEw1).ext hEw2).ext hEw3).ext hEw4)
 have hK4:=((((hg1.ext hEw1).ext hEw2).ext hEw3).ext hEw4)
 have hK5:=((((hg2.ext hEw1).ext hEw2).ext hEw3).ext hEw4)
 refine za (zq (zlf n b _ hK2 (by omega) (by omega) (by omega) (by assumption) (by assumption) (by omega) hK3 hK4 hK5) ?_)
 rintro _ w5 ⟨a1,ca1,a2,ca2,rfl,hFz1_0,hFz1_1,hEw5⟩
 have hzw5:=hEw5.size
 have hlea1:=hFz1_0.le
 have hlea2:=hFz1_1.le
 refine zc 3 [(27,(vI 0)),(26,(vA [(.slice a1 (hgt n+1) ca1),(.slice a2 (hgt n+1) ca2)])),(22,(.tuple #[(vA [(.slice a1 (hgt n+1) ca1),(.slice a2 (hgt n+1) ca2)]),(vI 0)]))] (zan ([(.slice a1 (hgt n+1) ca1),(.slice a2 (hgt n+1) ca2)]) 114 rfl (by simp [Value.oneCell']) ?_)
 intro w6 hBw6 hEw6 hzw6 hlw6
 refine zc 1 [(12,(vI 0))] (zf (zb (ze (ze (zd (zc 1 [(28,(vI 0))] (za (zah (some 29) (((0:Nat):Int) !=((0:Nat):Int)) false (zaE) ?_))))))))
 refine zf (zb (zh (zo (zb (ze (zd (za (zT w.heap.size 0 (((hK1.ext hEw5).ext hEw6).all) ?_))))))))
 refine za (zq (zpU ((n:Nat):Int) _ ((hK2.ext hEw5).ext hEw6) (by omega) (by omega)) ?_)
 rintro _ w7 ⟨a3,rfl,hFz2_0,hFz2_1,hFz2_2,hFz2_3,hEw7⟩
 have hzw7:=hEw7.size
 have hla3:=hFz2_1.lt;have hma3:=Ms.of_row hFz2_1 zK (len:=n_t) hFz2_2 hFz2_3
 refine zan ([(.int .i64 ((n:Nat):Int)),(.slice (pA a3 0) n_t n_t)]) 38 rfl (by simp [Value.oneCell']) ?_
 intro w8 hBw8 hEw8 hzw8 hlw8
 refine zf (zb (ze (zd (zc 1 [(34,(vI b))] (za (zn (some 35) .i64 (IntKind.i64.wrap (((b:Nat):Int).tdiv ((4:Nat):Int))) (b/4) (zu (zed _ _)) ?_))))))
 refine zc 1 [(36,(vI b))] (za (zn (some 37) .i64 (((b:Nat):Int).tmod ((4:Nat):Int)) (b%4) (zcZ _ _) ?_))
 refine zc 2 [(15,(vI (b%4))),(14,(vI (b/4)))] (zf (zb (ze (zd (zc 1 [(38,(vP w7.heap.size 1))] (za (zl w7.heap.size 1 (hBw8.cell rfl) ?_)))))))
 refine zc 1 [(40,(vI (b/4)))] (za (zai a3 0 n_t n_t (b/4) 280 ?_))
 refine za (zS a3 (0+(b/4)*280) ((hma3.ext hEw8).at Un.zero (by omega)) (zK _) ?_)
 refine zc 1 [(43,(vI (b%4)))] (za (zq (zoO (t.getD (b/4) Un.zero) (b%4) _ (by omega)) ?_))
 rintro _ w9 ⟨rfl,hEw9⟩
 have hzw9:=hEw9.size
 refine zc 1 [(16,(vI (za0 (t.getD (b/4) Un.zero) (b%4))))] (zf (zb (ze (zd (zc 1 [(46,(vI (za0 (t.getD (b/4) Un.zero) (b%4))))] (za (zq (zgU (za0 (t.getD (b/4) Un.zero) (b%4)) _ (by omega)) ?_)))))))
 rintro _ w10 ⟨rfl,hEw10⟩
 have hzw10:=hEw10.size
 refine zc 5 [(18,(vI 0)),(17,(vB ((za0 (t.getD (b/4) Un.zero) (b%4))+1))),(49,(vI 0)),(48,(vB ((za0 (t.getD (b/4) Un.zero) (b%4))+1))),(45,(.tuple #[(vB ((za0 (t.getD (b/4) Un.zero) (b%4))+1)),(vI 0)]))] (zf (zb (ze (zbI (fun k=>k=a3) 13 (fun w11 hEw11 hzw11 hT105=> ?_)))))
 have hX1:Chg (fun k=>k=a3) w11 w11:=(Chg.refl (fun k=>k=a3) w11)
 refine zg (hw:=hX1) hT105 [(0,50,(vP w7.heap.size 1))] 1 ?_
 have hK6:=(((hBw8.ext hEw9).ext hEw10).ext hEw11)
 refine zt (hw:=hX1) hT105 1 w7.heap.size 1 (fun w' hC=>((hK6.chg hC (fun hs=>by have h:_=_:=hs;omega)).cell rfl)) (zg (hw:=hX1) hT105 [(2,52,(vI (b/4))),(3,53,(vI (b%4))),(4,54,(vB ((za0 (t.getD (b/4) Un.zero) (b%4))+1)))] 3 ?_)
 have hK7:=(((((((((hBw2.ext hEw3).ext hEw4).ext hEw5).ext hEw6).ext hEw7).ext hEw8).ext hEw9).ext hEw10).ext hEw11)
 refine zal (hw:=hX1) hT105 5 w1.heap.size 0 (fun w' hC=>((hK7.chg hC (fun hs=>by have h:_=_:=hs;omega)).all)) (ze4 _) ?_
 have hK8:=((((((((hBw3.ext hEw4).ext hEw5).ext hEw6).ext hEw7).ext hEw8).ext hEw9).ext hEw10).ext hEw11)
 refine zal (hw:=hX1) hT105 6 w2.heap.size 0 (fun w' hC=>((hK8.chg hC (fun hs=>by have h:_=_:=hs;omega)).all)) (zaq _) (zk (hw:=hX1) hT105 7 (vA (zM (zbj (t.getD (b/4) Un.zero) (b%4) x y))) (zae (Instr.build 68 #[(0,(vB ((za0 (t.getD (b/4) Un.zero) (b%4))+1))),(1,(vA (zbc x))),(2,(vA (zQ y)))]) (fun w' hC=>(zc9 ((za0 (t.getD (b/4) Un.zero) (b%4))+1) x y (by omega)).trans (congrArg (fun z:Rec=>Result.ok (Value.agg (zM z).toArray) _) (show (⟨(za0 (t.getD (b/4) Un.zero) (b%4))+1,x,y,by omega⟩:Rec)=zbj (t.getD (b/4) Un.zero) (b%4) x y from rfl)))) (zag (hw:=hX1) hT105 8 a3 0 n_t n_t (b/4) 280 (zg (hw:=hX1) hT105 [(9,59,(vP a3 (0+(b/4)*280))),(10,60,(vP a3 (0+(b/4)*280+2)))] 2 (zaP (hw:=hX1) hT105 11 a3 (0+(b/4)*280+2) (b%4) 4 35 ?_))))
 have hK9:=((((hFz2_1.ext hEw8).ext hEw9).ext hEw10).ext hEw11)
 refine zx 12 (zG 68 a3 (0+(b/4)*280+2+(b%4)*35) 77 (vA (zM (zbj (t.getD (b/4) Un.zero) (b%4) x y))) (t.flatMap unC) (zM (zbj (t.getD (b/4) Un.zero) (b%4) x y)) hK9 (by rw [zZ];kernel_rfl) (by (try simp only [List.length_append]);rw [zaD zK];have:=hFz2_2;have hq:b/4<List.length t:=(by (try simp only [List.length_set]);have:=hFz2_2;omega);rw [zZ];omega) (za8 _) ?_)
 have hK10:=((((hFz2_1.ext hEw8).ext hEw9).ext hEw10).ext hEw11)
 intro w12 hBw12 hCw12
 have hzw12:=hCw12.size
 rw [show (zU (t.flatMap unC) (0+(b/4)*280+2+(b%4)*35) (zM (zbj (t.getD (b/4) Un.zero) (b%4) x y)):List Value)=(t.set (b/4) ((t.getD (b/4) Un.zero).setR (b%4) (zbj (t.getD (b/4) Un.zero) (b%4) x y))).flatMap unC from (show zU (t.flatMap unC) (0+(b/4)*280+2+(b%4)*35) (zM (zbj (t.getD (b/4) Un.zero) (b%4) x y))=(t.set (b/4) ((t.getD (b/4) Un.zero).setR (b%4) (zbj (t.getD (b/4) Un.zero) (b%4) x y))).flatMap unC from by have hz:=(zcf zK Un.zero ((t.getD (b/4) Un.zero).setR (b%4) (zbj (t.getD (b/4) Un.zero) (b%4) x y)) t (b/4) (2+(b%4)*35) (zM (zbj (t.getD (b/4) Un.zero) (b%4) x y)) [] (by (try simp only [List.length_set]);have:=hFz2_2;omega) (zs5 (by omega)) (by rw [zZ];omega));rw [List.append_nil,List.append_nil] at hz;rw [show 0+(b/4)*280+2+(b%4)*35=(b/4)*280+(2+(b%4)*35) from by omega];exact hz)] at hBw12
 have hmw12:Ms unC 280 a3 (a3+1) w12 (pA a3 0) n_t n_t (t.set (b/4) ((t.getD (b/4) Un.zero).setR (b%4) (zbj (t.getD (b/4) Un.zero) (b%4) x y))):=Ms.of_pre (r:= []) (by rw [List.append_nil];exact hBw12) zK (by (try simp only [List.length_set]);have:=hFz2_2;omega) (by omega) (by simp only [maxLen];omega) (by omega) (by omega)
 have hX2:Chg (fun k=>k=a3) w11 w12:=(Chg.then (Chg.refl (fun k=>k=a3) w11) hCw12 (fun k hk hs=>by have h:k=_:=hs;first | exact hs | exact .inl h | exact .inr h |(exfalso;omega)))
 refine ⟨.inr hX2, ?_⟩
 refine zD (zb (ze (zd (zc 1 [(62,(vP w7.heap.size 1))] (za (zl w7.heap.size 1 ((hK6.chg hCw12).cell rfl) ?_))))))
 refine zc 2 [(65,(vI (b%4))),(64,(vI (b/4)))] (za (zai a3 0 n_t n_t (b/4) 280 ?_))
 refine zc 1 [(67,(vP a3 (0+(b/4)*280+276)))] (za (zbk a3 (0+(b/4)*280+276) (b%4) 4 1 ?_))
 refine za (zak 4 a3 (0+(b/4)*280+276+(b%4)*1) 77 vT ((t.set (b/4) ((t.getD (b/4) Un.zero).setR (b%4) (zbj (t.getD (b/4) Un.zero) (b%4) x y))).flatMap unC) hBw12 (by (try simp only [List.length_append]);rw [zaD zK];have:=hFz2_2;have hq:b/4<List.length (t.set (b/4) ((t.getD (b/4) Un.zero).setR (b%4) (zbj (t.getD (b/4) Un.zero) (b%4) x y))):=(by (try simp only [List.length_set]);have:=hFz2_2;omega);omega) ?_)
 intro w13 hBw13 hCw13
 have hzw13:=hCw13.size
 rw [show (((t.set (b/4) ((t.getD (b/4) Un.zero).setR (b%4) (zbj (t.getD (b/4) Un.zero) (b%4) x y))).flatMap unC).set (0+(b/4)*280+276+(b%4)*1) vT:List Value)=((t.set (b/4) ((t.getD (b/4) Un.zero).setR (b%4) (zbj (t.getD (b/4) Un.zero) (b%4) x y))).set (b/4) (((t.set (b/4) ((t.getD (b/4) Un.zero).setR (b%4) (zbj (t.getD (b/4) Un.zero) (b%4) x y))).getD (b/4) Un.zero).setCh (b%4) true)).flatMap unC from (show zU ((t.set (b/4) ((t.getD (b/4) Un.zero).setR (b%4) (zbj (t.getD (b/4) Un.zero) (b%4) x y))).flatMap unC) (0+(b/4)*280+276+(b%4)*1) ([vT])=((t.set (b/4) ((t.getD (b/4) Un.zero).setR (b%4) (zbj (t.getD (b/4) Un.zero) (b%4) x y))).set (b/4) (((t.set (b/4) ((t.getD (b/4) Un.zero).setR (b%4) (zbj (t.getD (b/4) Un.zero) (b%4) x y))).getD (b/4) Un.zero).setCh (b%4) true)).flatMap unC from by have hz:=(zcf zK Un.zero (((t.set (b/4) ((t.getD (b/4) Un.zero).setR (b%4) (zbj (t.getD (b/4) Un.zero) (b%4) x y))).getD (b/4) Un.zero).setCh (b%4) true) (t.set (b/4) ((t.getD (b/4) Un.zero).setR (b%4) (zbj (t.getD (b/4) Un.zero) (b%4) x y))) (b/4) (276+(b%4)*1) ([vT]) [] (by (try simp only [List.length_set]);have:=hFz2_2;omega) (zgZ (by omega)) (by simp only [List.length_cons,List.length_nil];omega));rw [List.append_nil,List.append_nil] at hz;rw [show 0+(b/4)*280+276+(b%4)*1=(b/4)*280+(276+(b%4)*1) from by omega];exact hz)] at hBw13
 have hmw13:Ms unC 280 a3 (a3+1) w13 (pA a3 0) n_t n_t ((t.set (b/4) ((t.getD (b/4) Un.zero).setR (b%4) (zbj (t.getD (b/4) Un.zero) (b%4) x y))).set (b/4) (((t.set (b/4) ((t.getD (b/4) Un.zero).setR (b%4) (zbj (t.getD (b/4) Un.zero) (b%4) x y))).getD (b/4) Un.zero).setCh (b%4) true)):=Ms.of_pre (r:= []) (by rw [List.append_nil];exact hBw13) zK (by (try simp only [List.length_set]);have:=hFz2_2;omega) (by omega) (by simp only [maxLen];omega) (by omega) (by omega)
 refine zf (zb (ze (zd (zc 1 [(69,(vP w7.heap.size 1))] (za (zl w7.heap.size 1 (((hK6.chg hCw12).chg hCw13).cell rfl) ?_))))))
 refine zc 1 [(71,(vI (b/4)))] (za (zai a3 0 n_t n_t (b/4) 280 ?_))
 refine zc 1 [(73,(vP a3 (0+(b/4)*280+275)))] (za (zak 4 a3 (0+(b/4)*280+275) 77 vT (((t.set (b/4) ((t.getD (b/4) Un.zero).setR (b%4) (zbj (t.getD (b/4) Un.zero) (b%4) x y))).set (b/4) (((t.set (b/4) ((t.getD (b/4) Un.zero).setR (b%4) (zbj (t.getD (b/4) Un.zero) (b%4) x y))).getD (b/4) Un.zero).setCh (b%4) true)).flatMap unC) hBw13 (by (try simp only [List.length_append,List.length_cons,List.length_nil,List.length_set]);(try rw [zaD zK]);(try simp only [List.length_set]);have:=hFz2_2;omega) ?_))
 intro w14 hBw14 hCw14
 have hzw14:=hCw14.size
 rw [show ((((t.set (b/4) ((t.getD (b/4) Un.zero).setR (b%4) (zbj (t.getD (b/4) Un.zero) (b%4) x y))).set (b/4) (((t.set (b/4) ((t.getD (b/4) Un.zero).setR (b%4) (zbj (t.getD (b/4) Un.zero) (b%4) x y))).getD (b/4) Un.zero).setCh (b%4) true)).flatMap unC).set (0+(b/4)*280+275) vT:List Value)=(((t.set (b/4) ((t.getD (b/4) Un.zero).setR (b%4) (zbj (t.getD (b/4) Un.zero) (b%4) x y))).set (b/4) (((t.set (b/4) ((t.getD (b/4) Un.zero).setR (b%4) (zbj (t.getD (b/4) Un.zero) (b%4) x y))).getD (b/4) Un.zero).setCh (b%4) true)).set (b/4) ((((t.set (b/4) ((t.getD (b/4) Un.zero).setR (b%4) (zbj (t.getD (b/4) Un.zero) (b%4) x y))).set (b/4) (((t.set (b/4) ((t.getD (b/4) Un.zero).setR (b%4) (zbj (t.getD (b/4) Un.zero) (b%4) x y))).getD (b/4) Un.zero).setCh (b%4) true)).getD (b/4) Un.zero).setDt true)).flatMap unC from (by have hz:=zcf zK Un.zero ((((t.set (b/4) ((t.getD (b/4) Un.zero).setR (b%4) (zbj (t.getD (b/4) Un.zero) (b%4) x y))).set (b/4) (((t.set (b/4) ((t.getD (b/4) Un.zero).setR (b%4) (zbj (t.getD (b/4) Un.zero) (b%4) x y))).getD (b/4) Un.zero).setCh (b%4) true)).getD (b/4) Un.zero).setDt true) ((t.set (b/4) ((t.getD (b/4) Un.zero).setR (b%4) (zbj (t.getD (b/4) Un.zero) (b%4) x y))).set (b/4) (((t.set (b/4) ((t.getD (b/4) Un.zero).setR (b%4) (zbj (t.getD (b/4) Un.zero) (b%4) x y))).getD (b/4) Un.zero).setCh (b%4) true)) (b/4) 275 ([vT]) [] (by (try simp only [List.length_set]);have:=hFz2_2;omega) (ziC) (by (try simp only [List.length_cons,List.length_nil]);(try rw [zK]);omega);rw [List.append_nil,List.append_nil] at hz;rw [show 0+(b/4)*280+275=(b/4)*280+275 from by omega];exact hz),show (((t.set (b/4) ((t.getD (b/4) Un.zero).setR (b%4) (zbj (t.getD (b/4) Un.zero) (b%4) x y))).set (b/4) (((t.set (b/4) ((t.getD (b/4) Un.zero).setR (b%4) (zbj (t.getD (b/4) Un.zero) (b%4) x y))).getD (b/4) Un.zero).setCh (b%4) true)).set (b/4) ((((t.set (b/4) ((t.getD (b/4) Un.zero).setR (b%4) (zbj (t.getD (b/4) Un.zero) (b%4) x y))).set (b/4) (((t.set (b/4) ((t.getD (b/4) Un.zero).setR (b%4) (zbj (t.getD (b/4) Un.zero) (b%4) x y))).getD (b/4) Un.zero).setCh (b%4) true)).getD (b/4) Un.zero).setDt true))=(set1 t b x y) from zrt (by omega) rfl rfl] at hBw14
 have hmw14:Ms unC 280 a3 (a3+1) w14 (pA a3 0) n_t n_t (set1 t b x y):=Ms.of_pre (r:= []) (by rw [List.append_nil];exact hBw14) zK (by rw [zcV];omega) (by omega) (by simp only [maxLen] at*;omega) (by omega) (by omega)
 refine zf (zb (ze (zd (zc 1 [(74,(vP w7.heap.size 1))] ?_))))
 have hK11:=(((hK6.chg hCw12).chg hCw13).chg hCw14)
 refine za (zl w7.heap.size 1 (hK11.cell rfl) ?_)
 refine zc 1 [(76,(vI (b/4)))] (za (zai a3 0 n_t n_t (b/4) 280 ?_))
 refine za (zS a3 (0+(b/4)*280) (hmw14.at Un.zero (by omega)) (zK _) ?_)
 refine zan (unC ((set1 t b x y).getD (b/4) Un.zero)) 77 (zK _) (zbe _) ?_
 intro w15 hBw15 hEw15 hzw15 hlw15
 refine zf (zb (ze (ze (zd ?_))))
 have hK12:=(((((((((hBw6.ext hEw7).ext hEw8).ext hEw9).ext hEw10).ext hEw11).chg hCw12).chg hCw13).chg hCw14).ext hEw15)
 refine za (zT w5.heap.size 0 (hK12.all) ?_)
 refine zc 1 [(80,(vI (b/4)))] ?_
 have hK13:=((((((((((hFz1_0.ext hEw6).ext hEw7).ext hEw8).ext hEw9).ext hEw10).ext hEw11).chg hCw12).chg hCw13).chg hCw14).ext hEw15)
 have hK14:=((((((((((hFz1_1.ext hEw6).ext hEw7).ext hEw8).ext hEw9).ext hEw10).ext hEw11).chg hCw12).chg hCw13).chg hCw14).ext hEw15)
 refine za (zq (zqj 0 (b/4) _ hK13 hK14) ?_)
 rintro _ w16 ⟨a4,a4y,a4z,rfl,hFz5_0,hFz5_1,hFz5_2,hFz5_3,hEw16⟩
 have hzw16:=hEw16.size
 have hla4:=hFz5_1.lt;have hla4y:=hFz5_2.lt;have hla4z:=hFz5_3.lt
 refine zf (zb (zr ?_))
 have hK15:=((((((((((((hK1.ext hEw5).ext hEw6).ext hEw7).ext hEw8).ext hEw9).ext hEw10).ext hEw11).chg hCw12).chg hCw13).chg hCw14).ext hEw15).ext hEw16)
 have hK16:=((((((((((((hBw4.ext hEw5).ext hEw6).ext hEw7).ext hEw8).ext hEw9).ext hEw10).ext hEw11).chg hCw12).chg hCw13).chg hCw14).ext hEw15).ext hEw16)
 have hX3:Ext w w16:=(((Ext.own (Ext.own (Ext.own ((((((((((hEw1.trans hEw2).trans hEw3).trans hEw4).trans hEw5).trans hEw6).trans hEw7).trans hEw8).trans hEw9).trans hEw10).trans hEw11) hCw12 (by omega)) hCw13 (by omega)) hCw14 (by omega)).trans hEw15).trans hEw16)
 refine zhz [82,83] 75 [(vP a4 0),(vP a4y 0),(vP a4z 0)] (hgt n+1) (fun k=> [(vI k),(vI (num n k+idx b k))]) (fun b=>b=a3∨b=w14.heap.size) (fun b=>b=a4∨b=a4z) (fun k w'=>Blk w' a3 ((zav n b (set1 t b x y) (k-1)).flatMap unC) 77∧Blk w' w14.heap.size (unC (ndU n (zav n b (set1 t b x y) (k-1)) (k-1) (idx b (k-1)))) 77∧Blk w' w.heap.size ([(vI n),(.slice a_t n_t c_t)]) 38∧Blk w' w3.heap.size ([(vI 0),(.slice none 0 0)]) 38∧Blk w' w5.heap.size ([(.slice a1 (hgt n+1) ca1),(.slice a2 (hgt n+1) ca2)]) 114∧Blk w' w7.heap.size ([(.int .i64 ((n:Nat):Int)),(.slice (pA a3 0) n_t n_t)]) 38∧Es (nv .i64) w4.heap.size w5.heap.size w' a1 (hgt n+1) ca1 (zaQ n (hgt n+1))∧Es (nv .i64) w4.heap.size w5.heap.size w' a2 (hgt n+1) ca2 (zbb n (hgt n+1))∧Ext w w') (fun cc k w'=>False) (fun b hb=>by rcases hb with hb | hb<;>omega) (fun _=>rfl) (fun k W W' ⟨h1,h2,h3,h4,h5,h6,h7,h8,h9⟩ hb=>⟨h1.book hb,h2.book hb,h3.book hb,h4.book hb,h5.book hb,h6.book hb,h7.book hb,h8.book hb,h9.book hb (by omega)⟩) (fun _ _ _ _ h _=>h) (fun k W W' ⟨h1,h2,h3,h4,h5,h6,h7,h8,h9⟩ hc=>⟨h1.chg hc (fun hs=>by rcases hs with hs | hs<;>omega),h2.chg hc (fun hs=>by rcases hs with hs | hs<;>omega),h3.chg hc (fun hs=>by rcases hs with hs | hs<;>omega),h4.chg hc (fun hs=>by rcases hs with hs | hs<;>omega),h5.chg hc (fun hs=>by rcases hs with hs | hs<;>omega),h6.chg hc (fun hs=>by rcases hs with hs | hs<;>omega),h7.chg hc (fun k h1 h2 hs=>by rcases hs with hs | hs<;>omega),h8.chg hc (fun k h1 h2 hs=>by rcases hs with hs | hs<;>omega),Ext.ownS h9 hc (fun k hs hk=>by rcases hs with hs | hs<;>omega)⟩) (⟨((hBw14.ext hEw15).ext hEw16),by have hz:=(hBw15.ext hEw16);rw [show (set1 t b x y).getD (b/4) Un.zero=(ndU n (zav n b (set1 t b x y) (0-1)) (0-1) (idx b (0-1))) from by unfold ndU;rw [show num n (0-1)+idx b (0-1)=b/4 from Nat.zero_add _];rfl] at hz;exact hz,hK15,hK16,(hK12.ext hEw16),((hK11.ext hEw15).ext hEw16),(hK13.ext hEw16),(hK14.ext hEw16),hX3⟩) (fun lp J Jx wj hE1 hJ hY h0=>zsN n b w16.heap.size lp _ J Jx wj hp0 hp1 hp5 (hFz5_1.ext hE1) (hFz5_2.ext hE1) (hFz5_3.ext hE1) ((hK13.ext hEw16).ext hE1) ((hK14.ext hEw16).ext hE1) (by omega) (by omega) (fun x hx=>by omega) hJ hY h0) ?_ ?_ ?_
 ·rintro lR k w17 hl ⟨hR,hBe,hK4,hK8,hK11,hK13,hs1,hs2,hEw⟩ hk
  have hzr:=hEw.size
  have hRl:=hR.lt;have hBel:=hBe.lt
  have hK4l:=hK4.lt
  have hK8l:=hK8.lt
  have hK11l:=hK11.lt
  have hK13l:=hK13.lt
  have hmR:=Ms.of_row hR zK (len:=n_t) (by rw [zdp,zcV];omega) (by simp only [maxLen];omega)
  have hij:=zbs (n:=n) (i:=b) hp5 k
  have hpl:=zaG (n:=n) (l:=k) (j:=idx b k) (by omega) hij
  have hgp:=zlv hG hS hp5 (m:=k-1) (by omega)
  have hbq:=hgp.1.pl (k-1) (idx b (k-1)) (by omega) (zbs hp5 _)
  have hbs:=hgp.2 (k-1) (idx b (k-1)) (by omega) (zbs hp5 _)
  refine ze (zd (zc 1 [(20,(vI k))] (zf (zb (zd (zc 1 [(21,(vI (num n k+idx b k)))] (zf (zli (Kpt.refl _) (Chg.refl _ _) (fun w18 hBkw18=> ?_)))))))))
  have hzw18:=hBkw18.size
  refine zr (ze (ze (zd (zc 1 [(84,(vI k))] (za (zE (some 85) (decide (((k:Nat):Int)>((0:Nat):Int))) (fun hc85=> ?_) (fun hc85=> ?_)))))))
  ·replace hc85:k>0:=by have:=zac hc85;omega
   refine zf (zb (zv (ze (zbI (fun k=>k=a3) 14 (fun w19 hEw19 hzw19 hT224=> ?_)))))
   have hX4:Chg (fun k=>k=a3) w19 w19:=(Chg.refl (fun k=>k=a3) w19)
   refine zg (hw:=hX4) hT224 [(0,86,(vP w7.heap.size 1))] 1 (zt (hw:=hX4) hT224 1 w7.heap.size 1 (fun w' hC=>((((hK13.book hBkw18).ext hEw19).chg hC (fun hs=>by have h:_=_:=hs;omega)).cell rfl)) (zg (hw:=hX4) hT224 [(2,88,(vI (num n k+idx b k))),(3,89,(vP w14.heap.size 0)),(4,90,(vP w14.heap.size 1))] 3 (zt (hw:=hX4) hT224 5 w14.heap.size 1 (fun w' hC=>((((hBe.book hBkw18).ext hEw19).chg hC (fun hs=>by have h:_=_:=hs;omega)).cell rfl)) (zk (hw:=hX4) hT224 6 (vW (((ndU n (zav n b (set1 t b x y) (k-1)) (k-1) (idx b (k-1))).nd.ix)%4)) (zY .u32 ((((ndU n (zav n b (set1 t b x y) (k-1)) (k-1) (idx b (k-1))).nd.ix:Nat):Int).tmod ((4:Nat):Int)) (zcZ _ _)) (zal (hw:=hX4) hT224 7 w14.heap.size 0 (fun w' hC=>((((hBe.book hBkw18).ext hEw19).chg hC (fun hs=>by have h:_=_:=hs;omega)).all)) (zK _) (zag (hw:=hX4) hT224 9 a3 0 n_t n_t (num n k+idx b k) 280 (zg (hw:=hX4) hT224 [(10,96,(vP a3 (0+(num n k+idx b k)*280))),(11,97,(vP a3 (0+(num n k+idx b k)*280+142)))] 2 ?_)))))))
   have hK17:=(((hg0.ext hEw).book hBkw18).ext hEw19)
   have hK18:=(((hg1.ext hEw).book hBkw18).ext hEw19)
   have hK19:=(((hg2.ext hEw).book hBkw18).ext hEw19)
   refine zx 8 (zq (zlj (ndU n (zav n b (set1 t b x y) (k-1)) (k-1) (idx b (k-1))) _ (hbs) (hbq.1) hK17 hK18 hK19) ?_)
   rintro _ w20 ⟨rfl,hEw20⟩
   have hzw20:=hEw20.size
   have hX5:Chg (fun k=>k=a3) w19 w20:=((Chg.refl (fun k=>k=a3) w19).trans hEw20.chg)
   refine ⟨.inr hX5, ?_⟩
   refine zk (hw:=hX5) hT224 12 (vP a3 (0+(num n k+idx b k)*280+142+(((ndU n (zav n b (set1 t b x y) (k-1)) (k-1) (idx b (k-1))).nd.ix)%4)*33)) (zae (Instr.indexAt 72 (vP a3 (0+(num n k+idx b k)*280+142)) (vW (((ndU n (zav n b (set1 t b x y) (k-1)) (k-1) (idx b (k-1))).nd.ix)%4))) (fun w' hC=>za2 (E:=71) (sz:=33) (m:=4))) ?_
   have hK20:=(((hR.book hBkw18).ext hEw19).ext hEw20)
   refine zx 13 (zG 71 a3 (0+(num n k+idx b k)*280+142+(((ndU n (zav n b (set1 t b x y) (k-1)) (k-1) (idx b (k-1))).nd.ix)%4)*33) 77 (vA (zaj (enU (ndU n (zav n b (set1 t b x y) (k-1)) (k-1) (idx b (k-1)))))) ((zav n b (set1 t b x y) (k-1)).flatMap unC) (zaj (enU (ndU n (zav n b (set1 t b x y) (k-1)) (k-1) (idx b (k-1))))) hK20 (by rw [zaK];kernel_rfl) (by (try simp only [List.length_append]);rw [zaD zK];have:=(show List.length (zav n b (set1 t b x y) (k-1))=n_t from by rw [zdp,zcV];omega);have hq:num n k+idx b k<List.length (zav n b (set1 t b x y) (k-1)):=(by (try simp only [List.length_set]);rw [zdp,zcV];omega);rw [zaK];omega) (zcR _) ?_)
   have hK21:=(((hR.book hBkw18).ext hEw19).ext hEw20)
   intro w21 hBw21 hCw21
   have hzw21:=hCw21.size
   rw [show (zU ((zav n b (set1 t b x y) (k-1)).flatMap unC) (0+(num n k+idx b k)*280+142+(((ndU n (zav n b (set1 t b x y) (k-1)) (k-1) (idx b (k-1))).nd.ix)%4)*33) (zaj (enU (ndU n (zav n b (set1 t b x y) (k-1)) (k-1) (idx b (k-1))))):List Value)=((zav n b (set1 t b x y) (k-1)).set (num n k+idx b k) (((zav n b (set1 t b x y) (k-1)).getD (num n k+idx b k) Un.zero).setE (((ndU n (zav n b (set1 t b x y) (k-1)) (k-1) (idx b (k-1))).nd.ix)%4) (enU (ndU n (zav n b (set1 t b x y) (k-1)) (k-1) (idx b (k-1)))))).flatMap unC from (show zU ((zav n b (set1 t b x y) (k-1)).flatMap unC) (0+(num n k+idx b k)*280+142+(((ndU n (zav n b (set1 t b x y) (k-1)) (k-1) (idx b (k-1))).nd.ix)%4)*33) (zaj (enU (ndU n (zav n b (set1 t b x y) (k-1)) (k-1) (idx b (k-1)))))=((zav n b (set1 t b x y) (k-1)).set (num n k+idx b k) (((zav n b (set1 t b x y) (k-1)).getD (num n k+idx b k) Un.zero).setE (((ndU n (zav n b (set1 t b x y) (k-1)) (k-1) (idx b (k-1))).nd.ix)%4) (enU (ndU n (zav n b (set1 t b x y) (k-1)) (k-1) (idx b (k-1)))))).flatMap unC from by have hz:=(zcf zK Un.zero (((zav n b (set1 t b x y) (k-1)).getD (num n k+idx b k) Un.zero).setE (((ndU n (zav n b (set1 t b x y) (k-1)) (k-1) (idx b (k-1))).nd.ix)%4) (enU (ndU n (zav n b (set1 t b x y) (k-1)) (k-1) (idx b (k-1))))) (zav n b (set1 t b x y) (k-1)) (num n k+idx b k) (142+(((ndU n (zav n b (set1 t b x y) (k-1)) (k-1) (idx b (k-1))).nd.ix)%4)*33) (zaj (enU (ndU n (zav n b (set1 t b x y) (k-1)) (k-1) (idx b (k-1))))) [] (by (try simp only [List.length_set]);rw [zdp,zcV];omega) (zrR (by omega)) (by rw [zaK];omega));rw [List.append_nil,List.append_nil] at hz;rw [show 0+(num n k+idx b k)*280+142+(((ndU n (zav n b (set1 t b x y) (k-1)) (k-1) (idx b (k-1))).nd.ix)%4)*33=(num n k+idx b k)*280+(142+(((ndU n (zav n b (set1 t b x y) (k-1)) (k-1) (idx b (k-1))).nd.ix)%4)*33) from by omega];exact hz)] at hBw21
   have hmw21:Ms unC 280 a3 (a3+1) w21 (pA a3 0) n_t n_t ((zav n b (set1 t b x y) (k-1)).set (num n k+idx b k) (((zav n b (set1 t b x y) (k-1)).getD (num n k+idx b k) Un.zero).setE (((ndU n (zav n b (set1 t b x y) (k-1)) (k-1) (idx b (k-1))).nd.ix)%4) (enU (ndU n (zav n b (set1 t b x y) (k-1)) (k-1) (idx b (k-1)))))):=Ms.of_pre (r:= []) (by rw [List.append_nil];exact hBw21) zK (by (try simp only [List.length_set]);rw [zdp,zcV];omega) (by omega) (by simp only [maxLen];omega) (by omega) (by omega)
   have hX6:Chg (fun k=>k=a3) w19 w21:=(Chg.then ((Chg.refl (fun k=>k=a3) w19).trans hEw20.chg) hCw21 (fun k hk hs=>by have h:k=_:=hs;first | exact hs | exact .inl h | exact .inr h |(exfalso;omega)))
   refine ⟨.inr hX6, ?_⟩
   refine zD (zb (zd (zc 1 [(99,(vP w7.heap.size 1))] ?_)))
   have hK22:=((((hK13.book hBkw18).ext hEw19).ext hEw20).chg hCw21)
   refine za (zl w7.heap.size 1 (hK22.cell rfl) ?_)
   refine zc 1 [(101,(vI (num n k+idx b k)))] (za (zai a3 0 n_t n_t (num n k+idx b k) 280 ?_))
   refine zc 1 [(103,(vP a3 (0+(num n k+idx b k)*280+275)))] (za (zak 4 a3 (0+(num n k+idx b k)*280+275) 77 vT (((zav n b (set1 t b x y) (k-1)).set (num n k+idx b k) (((zav n b (set1 t b x y) (k-1)).getD (num n k+idx b k) Un.zero).setE (((ndU n (zav n b (set1 t b x y) (k-1)) (k-1) (idx b (k-1))).nd.ix)%4) (enU (ndU n (zav n b (set1 t b x y) (k-1)) (k-1) (idx b (k-1)))))).flatMap unC) hBw21 (by (try simp only [List.length_append,List.length_cons,List.length_nil,List.length_set]);(try rw [zaD zK]);(try simp only [List.length_set]);have:=(show List.length (zav n b (set1 t b x y) (k-1))=n_t from by rw [zdp,zcV];omega);omega) ?_))
   intro w22 hBw22 hCw22
   have hzw22:=hCw22.size
   rw [show ((((zav n b (set1 t b x y) (k-1)).set (num n k+idx b k) (((zav n b (set1 t b x y) (k-1)).getD (num n k+idx b k) Un.zero).setE (((ndU n (zav n b (set1 t b x y) (k-1)) (k-1) (idx b (k-1))).nd.ix)%4) (enU (ndU n (zav n b (set1 t b x y) (k-1)) (k-1) (idx b (k-1)))))).flatMap unC).set (0+(num n k+idx b k)*280+275) vT:List Value)=(((zav n b (set1 t b x y) (k-1)).set (num n k+idx b k) (((zav n b (set1 t b x y) (k-1)).getD (num n k+idx b k) Un.zero).setE (((ndU n (zav n b (set1 t b x y) (k-1)) (k-1) (idx b (k-1))).nd.ix)%4) (enU (ndU n (zav n b (set1 t b x y) (k-1)) (k-1) (idx b (k-1)))))).set (num n k+idx b k) ((((zav n b (set1 t b x y) (k-1)).set (num n k+idx b k) (((zav n b (set1 t b x y) (k-1)).getD (num n k+idx b k) Un.zero).setE (((ndU n (zav n b (set1 t b x y) (k-1)) (k-1) (idx b (k-1))).nd.ix)%4) (enU (ndU n (zav n b (set1 t b x y) (k-1)) (k-1) (idx b (k-1)))))).getD (num n k+idx b k) Un.zero).setDt true)).flatMap unC from (by have hz:=zcf zK Un.zero ((((zav n b (set1 t b x y) (k-1)).set (num n k+idx b k) (((zav n b (set1 t b x y) (k-1)).getD (num n k+idx b k) Un.zero).setE (((ndU n (zav n b (set1 t b x y) (k-1)) (k-1) (idx b (k-1))).nd.ix)%4) (enU (ndU n (zav n b (set1 t b x y) (k-1)) (k-1) (idx b (k-1)))))).getD (num n k+idx b k) Un.zero).setDt true) ((zav n b (set1 t b x y) (k-1)).set (num n k+idx b k) (((zav n b (set1 t b x y) (k-1)).getD (num n k+idx b k) Un.zero).setE (((ndU n (zav n b (set1 t b x y) (k-1)) (k-1) (idx b (k-1))).nd.ix)%4) (enU (ndU n (zav n b (set1 t b x y) (k-1)) (k-1) (idx b (k-1)))))) (num n k+idx b k) 275 ([vT]) [] (by (try simp only [List.length_set]);rw [zdp,zcV];omega) (ziC) (by (try simp only [List.length_cons,List.length_nil]);(try rw [zK]);omega);rw [List.append_nil,List.append_nil] at hz;rw [show 0+(num n k+idx b k)*280+275=(num n k+idx b k)*280+275 from by omega];exact hz),show (((zav n b (set1 t b x y) (k-1)).set (num n k+idx b k) (((zav n b (set1 t b x y) (k-1)).getD (num n k+idx b k) Un.zero).setE (((ndU n (zav n b (set1 t b x y) (k-1)) (k-1) (idx b (k-1))).nd.ix)%4) (enU (ndU n (zav n b (set1 t b x y) (k-1)) (k-1) (idx b (k-1)))))).set (num n k+idx b k) ((((zav n b (set1 t b x y) (k-1)).set (num n k+idx b k) (((zav n b (set1 t b x y) (k-1)).getD (num n k+idx b k) Un.zero).setE (((ndU n (zav n b (set1 t b x y) (k-1)) (k-1) (idx b (k-1))).nd.ix)%4) (enU (ndU n (zav n b (set1 t b x y) (k-1)) (k-1) (idx b (k-1)))))).getD (num n k+idx b k) Un.zero).setDt true))=(zeS n b (k-1) (zav n b (set1 t b x y) (k-1))) from ztX (by omega) (by rw [zdp,zcV];omega) rfl] at hBw22
   have hmw22:Ms unC 280 a3 (a3+1) w22 (pA a3 0) n_t n_t (zeS n b (k-1) (zav n b (set1 t b x y) (k-1))):=Ms.of_pre (r:= []) (by rw [List.append_nil];exact hBw22) zK (by rw [zpA,zdp,zcV];omega) (by omega) (by simp only [maxLen] at*;omega) (by omega) (by omega)
   refine zf (zb (zd (zc 1 [(104,(vP w7.heap.size 1))] (za (zl w7.heap.size 1 ((hK22.chg hCw22).cell rfl) ?_)))))
   refine zc 1 [(106,(vI (num n k+idx b k)))] (za (zai a3 0 n_t n_t (num n k+idx b k) 280 ?_))
   refine za (zS a3 (0+(num n k+idx b k)*280) (hmw22.at Un.zero (by omega)) (zK _) ?_)
   have hK23:=(((((hBe.book hBkw18).ext hEw19).ext hEw20).chg hCw21).chg hCw22)
   refine za (zG 77 w14.heap.size 0 77 (vA (unC ((zeS n b (k-1) (zav n b (set1 t b x y) (k-1))).getD (num n k+idx b k) Un.zero))) (unC (ndU n (zav n b (set1 t b x y) (k-1)) (k-1) (idx b (k-1)))) (unC ((zeS n b (k-1) (zav n b (set1 t b x y) (k-1))).getD (num n k+idx b k) Un.zero)) hK23 (by rw [zK];kernel_rfl) (by first |(simp;done)|(simp;omega)) (zbe _) ?_)
   have hK24:=(((((hBe.book hBkw18).ext hEw19).ext hEw20).chg hCw21).chg hCw22)
   intro w23 hBw23 hCw23
   have hzw23:=hCw23.size
   rw [zy _ _ (by simp)] at hBw23
   refine zf (zi ?_)
   have hK25:=((((((hK4.book hBkw18).ext hEw19).ext hEw20).chg hCw21).chg hCw22).chg hCw23)
   have hK26:=((((((hK8.book hBkw18).ext hEw19).ext hEw20).chg hCw21).chg hCw22).chg hCw23)
   have hK27:=((((((hK11.book hBkw18).ext hEw19).ext hEw20).chg hCw21).chg hCw22).chg hCw23)
   have hK28:=((((((hs1.book hBkw18).ext hEw19).ext hEw20).chg hCw21).chg hCw22).chg hCw23)
   have hK29:=((((((hs2.book hBkw18).ext hEw19).ext hEw20).chg hCw21).chg hCw22).chg hCw23)
   have hX7:Ext w w23:=(Ext.own (Ext.own (Ext.own (((hEw.book hBkw18 (by omega)).trans hEw19).trans hEw20) hCw21 (by omega)) hCw22 (by omega)) hCw23 (by omega))
   exact zd6 ((((((Kpt.refl _).ext hEw19).ext hEw20).blk hK21 hCw21).blk hBw21 hCw22).blk hK24 hCw23) (Chg.then (Chg.then (Chg.then (((Chg.refl _ _).trans hEw19.chg).trans hEw20.chg) hCw21 (fun k hk hs=>by have h:k=_:=hs;first |(left;omega)|(exfalso;omega)|(right;simp [h];done))) hCw22 (fun k hk hs=>by have h:k=_:=hs;first |(left;omega)|(exfalso;omega)|(right;simp [h];done))) hCw23 (fun k hk hs=>by have h:k=_:=hs;first |(left;omega)|(exfalso;omega)|(right;simp [h];done))) (⟨by rw [←zkh (by omega)];exact (hBw22.chg hCw23),by have hz:=hBw23;rw [zkh (by omega)] at hz;exact hz,hK25,hK26,hK27,((hK22.chg hCw22).chg hCw23),hK28,hK29,hX7⟩)
  ·replace hc85:¬(k>0):=by have:=zad hc85;omega
   refine zf (zb (zh (zo (zb (zd (zc 1 [(104,(vP w7.heap.size 1))] (za (zl w7.heap.size 1 ((hK13.book hBkw18).cell rfl) ?_))))))))
   refine zc 1 [(106,(vI (num n k+idx b k)))] (za (zai a3 0 n_t n_t (num n k+idx b k) 280 ?_))
   refine za (zS a3 (0+(num n k+idx b k)*280) ((hmR.book hBkw18).at Un.zero (by omega)) (zK _) ?_)
   refine za (zG 77 w14.heap.size 0 77 (vA (unC ((zav n b (set1 t b x y) (k-1)).getD (num n k+idx b k) Un.zero))) (unC (ndU n (zav n b (set1 t b x y) (k-1)) (k-1) (idx b (k-1)))) (unC ((zav n b (set1 t b x y) (k-1)).getD (num n k+idx b k) Un.zero)) (hBe.book hBkw18) (by rw [zK];kernel_rfl) (by first |(simp;done)|(simp;omega)) (zbe _) ?_)
   intro w24 hBw24 hCw24
   have hzw24:=hCw24.size
   rw [zy _ _ (by simp)] at hBw24
   exact zf (zi (zd6 ((Kpt.refl _).blk (hBe.book hBkw18) hCw24) (Chg.then (Chg.refl _ _) hCw24 (fun k hk hs=>by have h:k=_:=hs;first |(left;omega)|(exfalso;omega)|(right;simp [h];done))) (⟨by rw [show k+1-1=k-1 from by omega];exact ((hR.book hBkw18).chg hCw24),by rw [show k+1-1=0 from by omega];have hz:=hBw24;rw [show k=0 from by omega] at hz;exact hz,((hK4.book hBkw18).chg hCw24),((hK8.book hBkw18).chg hCw24),((hK11.book hBkw18).chg hCw24),((hK13.book hBkw18).chg hCw24),((hs1.book hBkw18).chg hCw24),((hs2.book hBkw18).chg hCw24),(Ext.own (hEw.book hBkw18 (by omega)) hCw24 (by omega))⟩)))
 ·rintro D w25 hD ⟨hR,hBe,hK4,hK8,hK11,hK13,hs1,hs2,hEw⟩ hM
  have hzr:=hEw.size
  have hRl:=hR.lt;have hBel:=hBe.lt
  have hK4l:=hK4.lt
  have hK8l:=hK8.lt
  have hK11l:=hK11.lt
  have hK13l:=hK13.lt
  have hmR:=Ms.of_row hR zK (len:=n_t) (by rw [zdp,zcV];omega) (by simp only [maxLen];omega)
  have hMl:=hM.lt
  refine zi (zb (ze (zd (za (zT w7.heap.size 0 (hK13.all) ?_)))))
  refine zc 1 [(110,(vI (za0 (t.getD (b/4) Un.zero) (b%4))))] (za (zG 38 w3.heap.size 0 38 (vA [(.int .i64 ((n:Nat):Int)),(.slice (pA a3 0) n_t n_t)]) ([(vI 0),(.slice none 0 0)]) ([(.int .i64 ((n:Nat):Int)),(.slice (pA a3 0) n_t n_t)]) hK8 (by kernel_rfl) (by first | decide |(simp;done)|(simp;omega)) (by simp [Value.oneCell']) ?_))
  intro w26 hBw26 hCw26
  have hzw26:=hCw26.size
  rw [zy _ _ (by kernel_rfl)] at hBw26
  refine zc 2 [(10,(vI 0)),(9,(vI (za0 (t.getD (b/4) Un.zero) (b%4))))] (zf (zb (zj ?_)))
  obtain ⟨w27,hTw27,hCw27,hBkw27⟩:=zgh (P:=Tryz.prog) (hM.chg hCw26)
  have hzw27:=hCw27.size
  refine znv hTw27 (zil (by kernel_rfl) (show zX Tryz.prog 111 _ _ (.cell 8 38) (vA [(.int .i64 ((n:Nat):Int)),(.slice (pA a3 0) n_t n_t)]) from ⟨⟨w3.heap.size,0,none⟩,(by kernel_rfl),zI (T:=38) (vs:= [(.int .i64 ((n:Nat):Int)),(.slice (pA a3 0) n_t n_t)]) ((hBw26.book hBkw27)).all (by kernel_rfl)⟩) (show zX Tryz.prog 111 _ _ (.tmp 9) (vI (za0 (t.getD (b/4) Un.zero) (b%4))) by (show _=_;kernel_rfl)) (show zX Tryz.prog 111 _ _ (.tmp 10) (vI 0) by (show _=_;kernel_rfl))) ?_
  have hfin:=((hmR.chg hCw26).book hBkw27)
  exact ⟨_,rfl,hfin.now.mono (by omega) (Nat.le_refl _),((Ext.own hEw hCw26 (by omega)).book hBkw27 (by omega))⟩
 ·intro D cc k w28 hD hk hx;exact hx.elim
end Go.Proofs.YtkmhgepdhilllaaGreatDoor
namespace Go.Proofs.YtkmhgepdhilllaaGreatDoor
open Go Go.RowKit Go.Cs
set_option maxRecDepth 100000
theorem zsE {lo_x hi_x:Nat} {a_x:Option Addr} {n_x c_x:Nat} {x:List (Nat×Nat)} (w:World) (h_x:Ms zhu 2 lo_x hi_x w a_x n_x c_x x):
  Calls Tryz.prog 68 #[(.slice a_x n_x c_x)] w (Ret fun r w'=>∃a0,r=(.slice a0 n_x n_x)∧Ms zhu 2 lo_x w'.heap.size w' a0 n_x n_x x∧w=w'):=by
 refine zC (n:=9) (σ:= [(0,(.slice a_x n_x c_x))]) Tryz.func68 rfl ?_
 replace h_x:=h_x.now;have hle_x:=h_x.le
 refine ze (zd (zc 1 [(2,(.slice none 0 0))] (zf (zb (ze (zd (zc 5 [(7,(vI n_x)),(6,(.slice a_x n_x c_x)),(5,(vI n_x)),(4,(.slice a_x n_x c_x)),(3,(.slice a_x n_x c_x))] ?_)))))))
 obtain ⟨a1,hR1,hS1⟩:=h_x.slice Tryz.prog 85 89 0 n_x n_x none (some (vI n_x)) (some (vI n_x))
 refine za (zaM (Instr.sliceAt 85 (.slice a_x n_x c_x) none (some (vI n_x)) (some (vI n_x))) (.slice a1 (n_x-0) (n_x-0)) (hR1 _) ?_)
 refine zc 1 [(2,(.slice a1 (n_x-0) (n_x-0)))] (zf (zb (zj (zm (.slice a1 (n_x-0) (n_x-0)) ?_))))
 have hfin:=hS1
 rw [List.drop_zero,Nat.sub_zero,show x.take n_x=x from by rw [h_x.len_eq,List.take_length]] at hfin
 exact ⟨_,rfl,hfin.mono (Nat.le_refl _) (by omega),rfl⟩
theorem zk3 (n:Nat) {lo_t hi_t:Nat} {a_t:Option Addr} {n_t c_t:Nat} {t:List Un} (w:World) (h_t:Ms unC 280 lo_t hi_t w a_t n_t c_t t) (hp0:1≤n) (hp1:n≤4096) (hp2:n_t=tot n) (hp3:∀i,i<t.length→(t.getD i Un.zero).sl=0∨(t.getD i Un.zero).sl=1) (hp4:zbP n (zbg n t)=0) (hg0:Gl 0 [vI 45,vI 33] w) (hg1:Gl 1 (w8C zbm) w) (hg2:Gl 3 (zax kA) w):
  Calls Tryz.prog 30 #[(vA [(vI n),(.slice a_t n_t c_t)])] w (Ret fun r w'=>∃a0,r=(.tuple #[(.slice a0 (List.length (zbi n t (tot n))) (List.length (zbi n t (tot n)))),(vI 0)])∧Ms zhu 2 w.heap.size w'.heap.size w' a0 (List.length (zbi n t (tot n))) (List.length (zbi n t (tot n))) (zbi n t (tot n))∧Ext w w'):=by
 refine zeG (n:=41) (σ:= [(0,(vA [(vI n),(.slice a_t n_t c_t)]))]) Tryz.func30 rfl ?_
 replace h_t:=h_t.now;have hle_t:=h_t.le
 have hgl0:=hg0.lt
 have hgl1:=hg1.lt
 have hgl2:=hg2.lt
 have h5:=zat n
 have hlt:=h_t.len_eq
 have hts:=zaC hp1
 have hle:=h_t.le
 refine ze (zd (za (zab (Instr.box 38 (vA [(vI n),(.slice a_t n_t c_t)])) (vP w.heap.size 0) ([(vI n),(.slice a_t n_t c_t)]) 38 ?_)))
 intro w1 hBw1 hEw1 hzw1 hlw1
 refine zc 2 [(3,(vI 0)),(2,(.slice none 0 0))] (zf (zb (ze (zd (za (zT w.heap.size 0 (hBw1.all) ?_))))))
 refine za (zq (zlJ n _ (h_t.ext hEw1) (by omega) (by omega) (by omega) (by assumption) (hg0.ext hEw1) (hg1.ext hEw1) (hg2.ext hEw1)) ?_)
 rintro _ w2 ⟨a1,ca1,a2,ca2,rfl,hFz1_0,hFz1_1,hEw2⟩
 have hzw2:=hEw2.size
 have hlea1:=hFz1_0.le
 have hlea2:=hFz1_1.le
 rw [show zbP n (zbg n t)=0 from hp4]
 refine zc 3 [(13,(vI 0)),(12,(vA [(.slice a1 (hgt n+1) ca1),(.slice a2 (hgt n+1) ca2)])),(9,(.tuple #[(vA [(.slice a1 (hgt n+1) ca1),(.slice a2 (hgt n+1) ca2)]),(vI 0)]))] (zan ([(.slice a1 (hgt n+1) ca1),(.slice a2 (hgt n+1) ca2)]) 114 rfl (by simp [Value.oneCell']) ?_)
 intro w3 hBw3 hEw3 hzw3 hlw3
 refine zc 1 [(5,(vI 0))] (zf (zb (ze (ze (zd (zc 2 [(15,vF),(14,(vI 0))] (zf (zb (zh ?_)))))))))
 refine zo (zb (ze (zd (za (zaf ([(.slice none 0 0)]) 85 ?_)))))
 intro w4 hBw4 hEw4 hzw4 hlw4
 refine zf (zb (ze (ze (zd (za (zT w2.heap.size 0 ((hBw3.ext hEw4).all) ?_))))))
 refine za (zq (zpG _ ((hFz1_0.ext hEw3).ext hEw4) ((hFz1_1.ext hEw3).ext hEw4)) ?_)
 rintro _ w5 ⟨a3,rfl,hFz2_0,hFz2_1,hEw5⟩
 have hzw5:=hEw5.size
 have hla3:=hFz2_1.lt
 refine zf (zb (zr ?_))
 have hK1:=((((hBw1.ext hEw2).ext hEw3).ext hEw4).ext hEw5)
 have hK2:=(((hFz1_0.ext hEw3).ext hEw4).ext hEw5)
 have hK3:=(((hFz1_1.ext hEw3).ext hEw4).ext hEw5)
 have hX1:Ext w w5:=((((hEw1.trans hEw2).trans hEw3).trans hEw4).trans hEw5)
 have hK4:=(((hFz1_0.ext hEw3).ext hEw4).ext hEw5)
 have hK5:=(((hFz1_1.ext hEw3).ext hEw4).ext hEw5)
 refine zhz [19,20] 91 [(vP a3 0)] (tot n) (fun k=> [(vI (lvK n k)),(vI k)]) (fun b=>b=w3.heap.size) (fun b=>False) (fun k w'=>∃ao cp,w5.heap.size≤w'.heap.size∧OwM zhu 2 w5.heap.size w'.heap.size w' ao (List.length (zbi n t k)) cp 89 (zbi n t k)∧Blk w' w3.heap.size [.slice ao (List.length (zbi n t k)) cp] 85∧Blk w' w.heap.size ([(vI n),(.slice a_t n_t c_t)]) 38∧Blk w' w2.heap.size ([(.slice a1 (hgt n+1) ca1),(.slice a2 (hgt n+1) ca2)]) 114∧Es (nv .i64) w1.heap.size w2.heap.size w' a1 (hgt n+1) ca1 (zaQ n (hgt n+1))∧Es (nv .i64) w1.heap.size w2.heap.size w' a2 (hgt n+1) ca2 (zbb n (hgt n+1))∧Ext w w') (fun cc k w'=>False) (fun b hb=>hb.elim) (fun _=>rfl) (fun k W W' ⟨a,cp,h0,h1,h2,h3,h4,h5,h6,h8⟩ hb=>⟨a,cp,Nat.le_trans h0 hb.size,(h1.book hb).mono (Nat.le_refl _) hb.size,h2.book hb,h3.book hb,h4.book hb,h5.book hb,h6.book hb,h8.book hb (by omega)⟩) (fun _ _ _ _ h _=>h) (fun k W W' ⟨a,cp,h0,h1,h2,h3,h4,h5,h6,h8⟩ hc=>⟨a,cp,Nat.le_trans h0 hc.size,(h1.ext hc).mono (Nat.le_refl _) hc.size,h2.ext hc,h3.ext hc,h4.ext hc,h5.ext hc,h6.ext hc,h8.trans hc⟩) (⟨none,0,Nat.le_refl _,OwM.nil _ _ _ _ _ _ zkK,(hBw4.ext hEw5),hK1,((hBw3.ext hEw4).ext hEw5),hK2,hK3,hX1⟩) (fun lp J Jx wj hE1 hJ hY h0=>zpK n w5.heap.size lp (fun b=>b=w3.heap.size) J Jx wj hp0 hp1 (hFz2_1.ext hE1) (hK4.ext hE1) (hK5.ext hE1) (fun b hb=>⟨by omega,by omega,by omega⟩) hJ hY h0) ?_ ?_ ?_
 ·rintro lR k w6 hl ⟨ao,cp,hsz,hO,hB6,hQ1,hQ4,hs1,hs2,hEw⟩ hk
  have hzr:=hEw.size
  have hB6l:=hB6.lt
  have hmO:=hO.ms;have hleO:=hmO.le
  have hQ1l:=hQ1.lt
  have hQ4l:=hQ4.lt
  have hdl:=zmH n t k
  obtain ⟨l,j,hl,hj,hlv,rfl⟩:=zfT hk
  rw [hlv]
  have hns:=zbX (n:=n) (l:=l) hp1 (by omega)
  have hgf:gt (zbb n (hgt n+1)) l=num n l:=zcx (by omega)
  have hkl:num n l+j<n_t:=by omega
  refine ze (zd (zc 1 [(7,(vI l))] (zf (zb (zd (zc 1 [(8,(vI (num n l+j)))] (zf (zli (Kpt.refl _) (Chg.refl _ _) (fun w7 hBkw7=> ?_)))))))))
  have hzw7:=hBkw7.size
  refine zr (ze (zd (zc 1 [(21,(vP w.heap.size 1))] (za (zl w.heap.size 1 ((hQ1.book hBkw7).cell rfl) ?_)))))
  refine zc 1 [(23,(vI (num n l+j)))] ?_
  obtain ⟨b1,o1,rfl⟩:=h_t.addr (by omega) (by decide)
  refine za (zai b1 o1 n_t c_t (num n l+j) 280 ?_)
  refine zc 1 [(25,(vP b1 (o1+(num n l+j)*280+275)))] ?_
  rcases Bool.eq_false_or_eq_true ((t.getD (num n l+j) Un.zero).dt) with hb26 | hb26
  ·refine za (zl b1 (o1+(num n l+j)*280+275) (Eq.trans (((h_t.ext hEw).book hBkw7).cell (j:=275) Un.zero (by omega) (zdB _)) (congrArg (fun z=>some (Value.bool z)) hb26)) ?_)
   refine zf (zb (zv (zbI (fun k=>w5.heap.size≤k) 13 (fun w8 hEw8 hzw8 hT114=> ?_))))
   have hX2:Chg (fun k=>w5.heap.size≤k) w8 w8:=(Chg.refl (fun k=>w5.heap.size≤k) w8)
   refine zt (hw:=hX2) hT114 0 w3.heap.size 0 (fun w' hC=>((((hB6.book hBkw7).ext hEw8).chg hC (fun hs=>by have h:_≤_:=hs;omega)).cell rfl)) (zg (hw:=hX2) hT114 [(1,28,(vI l)),(2,29,(vI (num n l+j))),(3,30,(vP w2.heap.size 1))] 3 (zt (hw:=hX2) hT114 4 w2.heap.size 1 (fun w' hC=>((((hQ4.book hBkw7).ext hEw8).chg hC (fun hs=>by have h:_≤_:=hs;omega)).cell rfl)) (zg (hw:=hX2) hT114 [(5,32,(vI l))] 1 ?_)))
   obtain ⟨b2,o2,rfl⟩:=hs2.addr (by omega)
   refine zag (hw:=hX2) hT114 6 b2 o2 (hgt n+1) ca2 l 1 (zt (hw:=hX2) hT114 7 b2 (o2+l*1) (fun w' hC=>((((hs2.book hBkw7).ext hEw8).chg hC (fun k h1 h2 hs=>by have h:_≤_:=hs;omega)).celln (by omega))) (zk (hw:=hX2) hT114 8 (vI j) (zY .i64 (IntKind.i64.wrap (((num n l+j:Nat):Int)-((gt (zbb n (hgt n+1)) l:Nat):Int))) (zu)) (zg (hw:=hX2) hT114 [(9,36,(vA [(vI l),(vI j)]))] 1 (zx 10 (zdf (some 37) (Instr.buildSlice 85 1 #[(0,(vA [(vI l),(vI j)]))]) (.slice (pA w8.heap.size 0) 1 1) [(vI l),(vI j)] 89 ?_)))))
   intro w9 hBw9 hEw9
   have hzw9:=hEw9.size;have hlw9:=hBw9.lt
   have hmw9:Ms zhu 2 w8.heap.size (w8.heap.size+1) w9 (pA w8.heap.size 0) 1 1 [(l,j)]:=Ms.of_pre (r:= []) (show Blk _ _ _ _ from hBw9) zkK rfl (Nat.le_refl _) (by decide) (Nat.le_refl _) (Nat.lt_succ_self _)
   have hX3:Chg (fun k=>w5.heap.size≤k) w8 w9:=((Chg.refl (fun k=>w5.heap.size≤k) w8).trans hEw9.chg)
   refine ⟨.inr hX3, ?_⟩
   have hK6:=(((hO.book hBkw7).ext hEw8).ext hEw9)
   refine zx 11 (zbL (some 38) 85 85 89 16 (vA [(vI 0),(vI 0)]) hK6 hmw9 zq3 ?_ rfl (by decide))
   intro a4 c1 w10 hOw10 hCw10
   have hzw10:=hCw10.size
   have hSw10:=hOw10.ms;have hlea4:=hSw10.le
   have hK7:=(((hO.book hBkw7).ext hEw8).ext hEw9)
   have hX4:Chg (fun k=>w5.heap.size≤k) w8 w10:=(Chg.then ((Chg.refl (fun k=>w5.heap.size≤k) w8).trans hEw9.chg) hCw10 (fun k hk hs=>by have hn:=hK7.ne hs;show _≤_;omega))
   refine ⟨.inr hX4, ?_⟩
   have hK8:=(((hO.book hBkw7).ext hEw8).ext hEw9)
   have hK9:=(((((hB6.book hBkw7).ext hEw8).ext hEw9)).chg hCw10 (fun hs=>by have hn:=hK8.ne hs;omega))
   refine zx 12 (zak 85 w3.heap.size 0 85 (.slice a4 ((List.length (zbi n t (num n l+j)))+1) c1) ([.slice ao (List.length (zbi n t (num n l+j))) cp]) hK9 (by first | decide |(simp;done)|(simp;omega)) ?_)
   have hK10:=(((hO.book hBkw7).ext hEw8).ext hEw9)
   have hK11:=(((((hB6.book hBkw7).ext hEw8).ext hEw9)).chg hCw10 (fun hs=>by have hn:=hK10.ne hs;omega))
   intro w11 hBw11 hCw11
   have hzw11:=hCw11.size
   replace hBw11:=hBw11.set1
   refine ⟨.inl (by kernel_rfl), ?_⟩
   refine zD (zi ?_)
   have hK12:=(((hO.book hBkw7).ext hEw8).ext hEw9)
   have hK13:=((((((hQ1.book hBkw7).ext hEw8).ext hEw9)).chg hCw10 (fun hs=>by have hn:=hK12.ne hs;omega)).chg hCw11)
   have hK14:=(((hO.book hBkw7).ext hEw8).ext hEw9)
   have hK15:=((((((hQ4.book hBkw7).ext hEw8).ext hEw9)).chg hCw10 (fun hs=>by have hn:=hK14.ne hs;omega)).chg hCw11)
   have hK16:=(((hO.book hBkw7).ext hEw8).ext hEw9)
   have hK17:=((((((hs1.book hBkw7).ext hEw8).ext hEw9)).chg hCw10 (fun k h1 h2 hs=>by have hn:=hK16.ne hs;omega)).chg hCw11)
   have hK18:=(((hO.book hBkw7).ext hEw8).ext hEw9)
   have hK19:=((((((hs2.book hBkw7).ext hEw8).ext hEw9)).chg hCw10 (fun k h1 h2 hs=>by have hn:=hK18.ne hs;omega)).chg hCw11)
   have hK20:=(((hO.book hBkw7).ext hEw8).ext hEw9)
   have hX5:Ext w w11:=(Ext.own (Ext.ownS (((hEw.book hBkw7 (by omega)).trans hEw8).trans hEw9) hCw10 (fun k hs hk=>by have hn:=hK20.ne hs;omega)) hCw11 (by omega))
   have hK21:=(((hO.book hBkw7).ext hEw8).ext hEw9)
   exact zd6 (((((Kpt.refl _).ext hEw8).ext hEw9).owm hK6 hCw10).blk hK11 hCw11) (Chg.then (Chg.then (((Chg.refl _ _).trans hEw8.chg).trans hEw9.chg) hCw10 (fun k hk hs=>by have hn:=hK21.ne hs;first |(left;omega)|(exfalso;omega))) hCw11 (fun k hk hs=>by have h:k=_:=hs;first |(left;omega)|(exfalso;omega)|(right;simp [h];done))) (by rw [zgO (show (t.getD (num n l+j) Un.zero).dt=true from hb26)];rw [hlv,Nat.add_sub_cancel_left,List.length_append,show [(l,j)].length=1 from rfl];exact ⟨_,_,by omega,((hOw10.chg hCw11)).now,hBw11,hK13,hK15,hK17,hK19,hX5⟩)
  ·refine za (zl b1 (o1+(num n l+j)*280+275) (Eq.trans (((h_t.ext hEw).book hBkw7).cell (j:=275) Un.zero (by omega) (zdB _)) (congrArg (fun z=>some (Value.bool z)) hb26)) ?_)
   exact zf (zb (zh (zo (zi (zd6 (Kpt.refl _) (Chg.refl _ _) (by rw [zjr (show (t.getD (num n l+j) Un.zero).dt=false from hb26)];exact ⟨_,_,by omega,((hO.book hBkw7)).now,(hB6.book hBkw7),(hQ1.book hBkw7),(hQ4.book hBkw7),(hs1.book hBkw7),(hs2.book hBkw7),(hEw.book hBkw7 (by omega))⟩))))))
 ·rintro D w12 hD ⟨ao,cp,hsz,hO,hB6,hQ1,hQ4,hs1,hs2,hEw⟩ hM
  have hzr:=hEw.size
  have hB6l:=hB6.lt
  have hmO:=hO.ms;have hleO:=hmO.le
  have hQ1l:=hQ1.lt
  have hQ4l:=hQ4.lt
  have hMl:=hM.lt
  refine zi (zb (ze (zd (za (zl w3.heap.size 0 (hB6.cell rfl) ?_)))))
  refine za (zq (zsE _ hmO) ?_)
  rintro _ _ ⟨a5,rfl,hFz3_0,rfl⟩
  have hlea5:=hFz3_0.le
  refine zc 2 [(3,(vI 0)),(2,(.slice a5 (List.length (zbi n t (tot n))) (List.length (zbi n t (tot n)))))] (zf (zb (zj ?_)))
  obtain ⟨w13,hTw13,hCw13,hBkw13⟩:=zgh (P:=Tryz.prog) hM
  have hzw13:=hCw13.size
  exact zny hTw13 (.tuple #[(.slice a5 (List.length (zbi n t (tot n))) (List.length (zbi n t (tot n)))),(vI 0)]) (⟨_,rfl,((hFz3_0.book hBkw13)).now.mono (by omega) (Nat.le_refl _),(hEw.book hBkw13 (by omega))⟩)
 ·intro D cc k w14 hD hk hx;exact hx.elim
end Go.Proofs.YtkmhgepdhilllaaGreatDoor
namespace Go.Proofs.YtkmhgepdhilllaaGreatDoor
open Go Go.RowKit Go.Cs
set_option maxRecDepth 100000
theorem zer (n:Nat) {lo_t hi_t:Nat} {a_t:Option Addr} {n_t c_t:Nat} {t:List Un} (w:World) (h_t:Ms unC 280 lo_t hi_t w a_t n_t c_t t) (hp0:1≤n) (hp1:n≤4096) (hp2:n_t=tot n) (hp3:∀i,i<t.length→(t.getD i Un.zero).sl=0∨(t.getD i Un.zero).sl=1) (hp4:zbP n (zbg n t)=0) (hg0:Gl 0 [vI 45,vI 33] w) (hg1:Gl 1 (w8C zbm) w) (hg2:Gl 3 (zax kA) w):
  Calls Tryz.prog 17 #[(vA [(vI n),(.slice a_t n_t c_t)])] w (Ret fun r w'=>∃a1,r=(.tuple #[(vA [(vI n),(.slice a1 n_t n_t)]),(vI 0)])∧Ms unC 280 w.heap.size w'.heap.size w' a1 n_t n_t (zbN n_t t)∧Ext w w'):=by
 refine zC (n:=46) (σ:= [(0,(vA [(vI n),(.slice a_t n_t c_t)]))]) Tryz.func17 rfl ?_
 replace h_t:=h_t.now;have hle_t:=h_t.le
 have hgl0:=hg0.lt
 have hgl1:=hg1.lt
 have hgl2:=hg2.lt
 have h5:=zat n
 have hlt:=h_t.len_eq
 have hts:=zaC hp1
 have hle:=h_t.le
 have htt:=zcv hp0 hp1
 have hce:zdm (n:Int) t=0:=by rw [zfR hp0 hp1 (by omega) (zdw.2 hp3)];exact hp4
 refine ze (zd (za (zab (Instr.box 38 (vA [(vI n),(.slice a_t n_t c_t)])) (vP w.heap.size 0) ([(vI n),(.slice a_t n_t c_t)]) 38 ?_)))
 intro w1 hBw1 hEw1 hzw1 hlw1
 refine za (zaf ([(vI 0),(.slice none 0 0)]) 38 ?_)
 intro w2 hBw2 hEw2 hzw2 hlw2
 refine zc 1 [(3,(vI 0))] (zf (zb (ze (ze (zd (za (zT w.heap.size 0 ((hBw1.ext hEw2).all) ?_)))))))
 refine za (zq (zkR ((n:Nat):Int) _ ((h_t.ext hEw1).ext hEw2) ((hg0.ext hEw1).ext hEw2) ((hg1.ext hEw1).ext hEw2) ((hg2.ext hEw1).ext hEw2)) ?_)
 rintro _ w3 ⟨rfl,hEw3⟩
 have hzw3:=hEw3.size
 rw [show zdm ((n:Nat):Int) t=0 from hce]
 refine zc 1 [(4,(vI 0))] (zf (zb (ze (zd (zc 1 [(11,(vI 0))] (za (zah (some 12) (((0:Nat):Int) !=((0:Nat):Int)) false (zaE) ?_)))))))
 refine zf (zb (zh (zo (zb (ze (zd (za (zT w.heap.size 0 (((hBw1.ext hEw2).ext hEw3).all) ?_))))))))
 have hK1:=(((h_t.ext hEw1).ext hEw2).ext hEw3)
 refine za (zq (zpU ((n:Nat):Int) _ hK1 (by omega) (by omega)) ?_)
 rintro _ w4 ⟨a1,rfl,hFz2_0,hFz2_1,hFz2_2,hFz2_3,hEw4⟩
 have hzw4:=hEw4.size
 have hla1:=hFz2_1.lt;have hma1:=Ms.of_row hFz2_1 zK (len:=n_t) hFz2_2 hFz2_3
 refine zan ([(.int .i64 ((n:Nat):Int)),(.slice (pA a1 0) n_t n_t)]) 38 rfl (by simp [Value.oneCell']) ?_
 intro w5 hBw5 hEw5 hzw5 hlw5
 refine zf (zb (ze (ze (zd (zc 1 [(17,(vP w4.heap.size 1))] (za (zl w4.heap.size 1 (hBw5.cell rfl) ?_)))))))
 refine zc 2 [(20,(vI 0)),(19,(vI n_t))] (zf (zb (zr ?_)))
 have hK2:=(((hBw2.ext hEw3).ext hEw4).ext hEw5)
 have hX1:Ext w w5:=((((hEw1.trans hEw2).trans hEw3).trans hEw4).trans hEw5)
 refine zW (X:=Nat) (fun k=> [(20,(vI k))]) [6,7,8,21,22,23,24,25,26,27,28,29,30,31,32,33,34,35,36,37,38,39,40,41,42,43,44] (fun k w6=>k≤n_t∧Blk w6 a1 ((za1 n_t (zbH n_t t) (fun i=>t.getD i Un.zero) k).flatMap unC) 77∧Blk w6 w1.heap.size ([(vI 0),(.slice none 0 0)]) 38∧Blk w6 w4.heap.size ([(.int .i64 ((n:Nat):Int)),(.slice (pA a1 0) n_t n_t)]) 38∧Ext w w6) (fun k=>n_t-k) 0 (by kernel_rfl) ⟨Nat.zero_le _,by rw [zpf Un.zero (by omega)];exact (hFz2_1.ext hEw5),hK2,hBw5,hX1⟩ ?_
 rintro k dw6 w6 ⟨hk,hR,hQ2,hQ5,hEl⟩
 have hzl:=hEl.size;have hRl:=hR.lt
 have hmR:=Ms.of_row hR zK (len:=n_t) zb1.symm (by simp only [maxLen];omega)
 have hQ2l:=hQ2.lt
 have hQ5l:=hQ5.lt
 refine ze (zd (za (zE (some 21) (decide (((k:Nat):Int)<((n_t:Nat):Int))) (fun hc21=> ?_) (fun hc21=> ?_))))
 ·replace hc21:k<n_t:=by have:=zac hc21;omega
  have hs0:=hp3 k (by omega)
  refine zf (zb (ze (zv (zo (zb (ze (zr (ze (zd ?_)))))))))
  refine zc 1 [(22,(vI k))] (za (zai a1 0 n_t n_t k 280 ?_))
  refine za (zS a1 (0+k*280) (by have hz:=hmR.at Un.zero (i:=k) (by omega);rw [zp9 Un.zero (by omega) (Nat.le_refl _)] at hz;exact hz) (zK _) ?_)
  refine za (zaf (unC Un.zero) 77 ?_)
  intro w7 hBw7 hEw7 hzw7 hlw7
  refine zc 1 [(6,(vI k))] (za (zG 77 w6.heap.size 0 77 (vA (unC (t.getD k Un.zero))) (unC Un.zero) (unC (t.getD k Un.zero)) hBw7 (by rw [zK];kernel_rfl) (by first |(simp;done)|(simp;omega)) (zbe _) ?_))
  intro w8 hBw8 hCw8
  have hzw8:=hCw8.size
  rw [zy _ _ (by simp)] at hBw8
  refine zf (zb (ze (zd (za (zS w6.heap.size 0 (hBw8.all) (zK _) ?_)))))
  refine za (zq (zmz (t.getD k Un.zero) _ (by assumption)) ?_)
  rintro _ w9 ⟨rfl,hEw9⟩
  have hzw9:=hEw9.size
  refine zc 1 [(8,(.int .i64 (slU (t.getD k Un.zero))))] (zf (zb (ze (ze (zd (zc 2 [(28,(vP w4.heap.size 1)),(27,(vI k))] ?_))))))
  have hK3:=(((hQ5.ext hEw7).chg hCw8).ext hEw9)
  refine za (zl w4.heap.size 1 (hK3.cell rfl) ?_)
  refine zc 1 [(30,(vI n_t))] (za (zn (some 31) .i64 (IntKind.i64.wrap (((n_t:Nat):Int)-((1:Nat):Int))) (n_t-1) (zu) ?_))
  refine za (zE (some 32) ((((k:Nat):Int)==((n_t-1:Nat):Int))) (fun hc32=> ?_) (fun hc32=> ?_))
  ·replace hc32:k=n_t-1:=by have:=zbD hc32;omega
   refine zf (zb (zv (zd (zc 1 [(33,(vP w6.heap.size 274))] (za (zl w6.heap.size 274 ((hBw8.ext hEw9).cell (zbw _)) ?_))))))
   refine za (zhU (some 35) .i64 (IntKind.i64.wrap (((1:Nat):Int)-((t.getD k Un.zero).sl))) (1-(t.getD k Un.zero).sl) (zu rfl) ?_)
   refine zc 1 [(8,(.int .i64 (1-(t.getD k Un.zero).sl)))] (zf (zb (zd (zc 1 [(36,(vP w4.heap.size 1))] (za (zl w4.heap.size 1 (hK3.cell rfl) ?_))))))
   refine zc 2 [(39,(vP w6.heap.size 0)),(38,(vI k))] (za (zS w6.heap.size 0 ((hBw8.ext hEw9).at 0 (zJ (t.getD k Un.zero).nd) (zdR _)) (zO _) ?_))
   refine zc 1 [(41,(.int .i64 (1-(t.getD k Un.zero).sl)))] (za (zaM (Instr.build 77 #[(0,(vA (zJ (t.getD k Un.zero).nd))),(1,(.int .i64 (1-(t.getD k Un.zero).sl)))]) (vA (unC (zbH n_t t k))) ((zeV ((t.getD k Un.zero).nd) (1-(t.getD k Un.zero).sl)).trans (congrArg (fun z:Un=>Result.ok (Value.agg (unC z).toArray) _) (show (⟨((t.getD k Un.zero).nd),1-(t.getD k Un.zero).sl,false,List.replicate 4 false,rfl⟩:Un)=zbH n_t t k from by unfold zbH;first | rw [if_pos (by omega)] | rw [if_neg (by omega)]))) ?_))
   refine za (zai a1 0 n_t n_t k 280 ?_)
   have hK4:=(((hR.ext hEw7).chg hCw8).ext hEw9)
   refine za (zG 77 a1 (0+k*280) 77 (vA (unC (zbH n_t t k))) ((za1 n_t (zbH n_t t) (fun i=>t.getD i Un.zero) k).flatMap unC) (unC (zbH n_t t k)) hK4 (by rw [zK];kernel_rfl) (by rw [zaD zK];(try simp only [List.length_cons,List.length_nil,List.length_set]);have:=(show List.length (za1 n_t (zbH n_t t) (fun i=>t.getD i Un.zero) k)=n_t from zb1);have hln:=zK (zbH n_t t k);omega) (zbe _) ?_)
   have hK5:=(((hR.ext hEw7).chg hCw8).ext hEw9)
   intro w10 hBw10 hCw10
   have hzw10:=hCw10.size
   rw [show (zU ((za1 n_t (zbH n_t t) (fun i=>t.getD i Un.zero) k).flatMap unC) (0+k*280) (unC (zbH n_t t k)):List Value)=(za1 n_t (zbH n_t t) (fun i=>t.getD i Un.zero) (k+1)).flatMap unC from (zcp zK _ _ _ (by have hq:List.length (za1 n_t (zbH n_t t) (fun i=>t.getD i Un.zero) k)=n_t:=zb1;omega)).trans (congrArg (fun z=>List.flatMap unC z) (show ((za1 n_t (zbH n_t t) (fun i=>t.getD i Un.zero) k).set k (zbH n_t t k))=(za1 n_t (zbH n_t t) (fun i=>t.getD i Un.zero) (k+1)) from zgS (by omega)))] at hBw10
   have hmw10:Ms unC 280 a1 (a1+1) w10 (pA a1 0) n_t n_t (za1 n_t (zbH n_t t) (fun i=>t.getD i Un.zero) (k+1)):=Ms.of_pre (r:= []) (by rw [List.append_nil];exact hBw10) zK (by have hq:List.length (za1 n_t (zbH n_t t) (fun i=>t.getD i Un.zero) (k+1))=n_t:=zb1;omega) (by omega) (by simp only [maxLen];omega) (by omega) (by omega)
   refine zf (zi (zb (zd (za (zn (some 44) .i64 (IntKind.i64.wrap (((k:Nat):Int)+((1:Nat):Int))) (k+1) (zu) ?_)))))
   refine zc 1 [(20,(vI (k+1)))] (zf (zz ?_))
   have hK6:=((((hQ2.ext hEw7).chg hCw8).ext hEw9).chg hCw10)
   have hX2:Ext w w10:=(Ext.own ((Ext.own (hEl.trans hEw7) hCw8 (by omega)).trans hEw9) hCw10 (by omega))
   refine zL (k+1) ?_ ?_
   ·exact ⟨by omega,hBw10,hK6,(hK3.chg hCw10),hX2⟩
   ·first | omega |(dsimp only;omega)
  ·replace hc32:¬(k=n_t-1):=by have:=zbC hc32;omega
   refine zf (zb (zh (zo (zb (zd (zc 1 [(36,(vP w4.heap.size 1))] (za (zl w4.heap.size 1 (hK3.cell rfl) ?_))))))))
   refine zc 2 [(39,(vP w6.heap.size 0)),(38,(vI k))] (za (zS w6.heap.size 0 ((hBw8.ext hEw9).at 0 (zJ (t.getD k Un.zero).nd) (zdR _)) (zO _) ?_))
   refine zc 1 [(41,(.int .i64 (slU (t.getD k Un.zero))))] (za (zaM (Instr.build 77 #[(0,(vA (zJ (t.getD k Un.zero).nd))),(1,(.int .i64 (slU (t.getD k Un.zero))))]) (vA (unC (zbH n_t t k))) ((zeV ((t.getD k Un.zero).nd) (slU (t.getD k Un.zero))).trans (congrArg (fun z:Un=>Result.ok (Value.agg (unC z).toArray) _) (show (⟨((t.getD k Un.zero).nd),slU (t.getD k Un.zero),false,List.replicate 4 false,rfl⟩:Un)=zbH n_t t k from by unfold zbH;first | rw [if_pos (by omega)] | rw [if_neg (by omega)]))) ?_))
   refine za (zai a1 0 n_t n_t k 280 ?_)
   have hK7:=(((hR.ext hEw7).chg hCw8).ext hEw9)
   refine za (zG 77 a1 (0+k*280) 77 (vA (unC (zbH n_t t k))) ((za1 n_t (zbH n_t t) (fun i=>t.getD i Un.zero) k).flatMap unC) (unC (zbH n_t t k)) hK7 (by rw [zK];kernel_rfl) (by rw [zaD zK];(try simp only [List.length_cons,List.length_nil,List.length_set]);have:=(show List.length (za1 n_t (zbH n_t t) (fun i=>t.getD i Un.zero) k)=n_t from zb1);have hln:=zK (zbH n_t t k);omega) (zbe _) ?_)
   have hK8:=(((hR.ext hEw7).chg hCw8).ext hEw9)
   intro w11 hBw11 hCw11
   have hzw11:=hCw11.size
   rw [show (zU ((za1 n_t (zbH n_t t) (fun i=>t.getD i Un.zero) k).flatMap unC) (0+k*280) (unC (zbH n_t t k)):List Value)=(za1 n_t (zbH n_t t) (fun i=>t.getD i Un.zero) (k+1)).flatMap unC from (zcp zK _ _ _ (by have hq:List.length (za1 n_t (zbH n_t t) (fun i=>t.getD i Un.zero) k)=n_t:=zb1;omega)).trans (congrArg (fun z=>List.flatMap unC z) (show ((za1 n_t (zbH n_t t) (fun i=>t.getD i Un.zero) k).set k (zbH n_t t k))=(za1 n_t (zbH n_t t) (fun i=>t.getD i Un.zero) (k+1)) from zgS (by omega)))] at hBw11
   have hmw11:Ms unC 280 a1 (a1+1) w11 (pA a1 0) n_t n_t (za1 n_t (zbH n_t t) (fun i=>t.getD i Un.zero) (k+1)):=Ms.of_pre (r:= []) (by rw [List.append_nil];exact hBw11) zK (by have hq:List.length (za1 n_t (zbH n_t t) (fun i=>t.getD i Un.zero) (k+1))=n_t:=zb1;omega) (by omega) (by simp only [maxLen];omega) (by omega) (by omega)
   refine zf (zi (zb (zd (za (zn (some 44) .i64 (IntKind.i64.wrap (((k:Nat):Int)+((1:Nat):Int))) (k+1) (zu) ?_)))))
   refine zc 1 [(20,(vI (k+1)))] (zf (zz ?_))
   have hK9:=((((hQ2.ext hEw7).chg hCw8).ext hEw9).chg hCw11)
   have hX3:Ext w w11:=(Ext.own ((Ext.own (hEl.trans hEw7) hCw8 (by omega)).trans hEw9) hCw11 (by omega))
   refine zL (k+1) ?_ ?_
   ·exact ⟨by omega,hBw11,hK9,(hK3.chg hCw11),hX3⟩
   ·first | omega |(dsimp only;omega)
 ·replace hc21:¬(k<n_t):=by have:=zad hc21;omega
  obtain rfl:k=n_t:=by omega
  refine zf (zb (ze (zh (zP (zp (zp (zF (zb (ze ?_)))))))))
  refine zd (za (zT w4.heap.size 0 (hQ5.all) ?_))
  refine za (zG 38 w1.heap.size 0 38 (vA [(.int .i64 ((n:Nat):Int)),(.slice (pA a1 0) k k)]) ([(vI 0),(.slice none 0 0)]) ([(.int .i64 ((n:Nat):Int)),(.slice (pA a1 0) k k)]) hQ2 (by kernel_rfl) (by first | decide |(simp;done)|(simp;omega)) (by simp [Value.oneCell']) ?_)
  intro w12 hBw12 hCw12
  have hzw12:=hCw12.size
  rw [zy _ _ (by kernel_rfl)] at hBw12
  refine zc 1 [(3,(vI 0))] (zf (zb (zj (za6 (show zX Tryz.prog 46 _ _ (.cell 2 38) (vA [(.int .i64 ((n:Nat):Int)),(.slice (pA a1 0) k k)]) from ⟨⟨w1.heap.size,0,none⟩,(by kernel_rfl),zI (T:=38) (vs:= [(.int .i64 ((n:Nat):Int)),(.slice (pA a1 0) k k)]) (hBw12).all (by kernel_rfl)⟩) (show zX Tryz.prog 46 _ _ (.tmp 3) (vI 0) by (show _=_;kernel_rfl)) ?_))))
  have hfin:=(hmR.chg hCw12)
  rw [zg5] at hfin
  exact ⟨_,rfl,hfin.now.mono (by omega) (Nat.le_refl _),(Ext.own hEl hCw12 (by omega))⟩
end Go.Proofs.YtkmhgepdhilllaaGreatDoor
namespace Go.Proofs.YtkmhgepdhilllaaGreatDoor
open Go Go.RowKit Go.Cs
set_option maxRecDepth 100000
theorem ztM (x:Int) (w:World) (hp0:x=0∨x=1):
  Calls Tryz.prog 46 #[(.int .i64 x)] w (Ret fun r w'=>r=vF∧Ext w w'):=by
 refine zC (n:=9) (σ:= [(0,(.int .i64 x))]) Tryz.func46 rfl ?_
 refine ze (zd (zc 1 [(2,vF)] (zf (zb (ze (zd (zc 1 [(3,(.int .i64 x))] (za (zE (some 4) ((x !=((0:Nat):Int))) (fun hc4=> ?_) (fun hc4=> ?_))))))))))
 ·replace hc4:¬(x=((0:Nat):Int)):=by have:=zbT hc4;omega
  refine zc 2 [(6,(.int .i64 x)),(5,vT)] (za (zah (some 7) (x !=((1:Nat):Int)) false (zaE) ?_))
  exact zc 2 [(2,vF),(8,vF)] (zf (zb (zj (zm vF (⟨rfl,(Ext.refl _)⟩)))))
 ·replace hc4:x=((0:Nat):Int):=by have:=zbU hc4;omega
  exact zc 5 [(2,vF),(8,vF),(7,undef),(6,undef),(5,vF)] (zf (zb (zj (zm vF (⟨rfl,(Ext.refl _)⟩)))))
theorem zzH (x:Int) (w:World) (hp0:¬(x=0∨x=1)):
  Calls Tryz.prog 46 #[(.int .i64 x)] w (Ret fun r w'=>r=vT∧Ext w w'):=by
 refine zC (n:=9) (σ:= [(0,(.int .i64 x))]) Tryz.func46 rfl ?_
 refine ze (zd (zc 1 [(2,vF)] (zf (zb (ze (zd (zc 1 [(3,(.int .i64 x))] (za (zah (some 4) (x !=((0:Nat):Int)) true (zcG) ?_)))))))))
 refine zc 2 [(6,(.int .i64 x)),(5,vT)] (za (zah (some 7) (x !=((1:Nat):Int)) true (zcG) ?_))
 exact zc 2 [(2,vT),(8,vT)] (zf (zb (zj (zm vT (⟨rfl,(Ext.refl _)⟩)))))
theorem zsV {lo_z hi_z:Nat} {a_z:Option Addr} {n_z c_z:Nat} {z:List Int} (w:World) (h_z:Es (iv .i64) lo_z hi_z w a_z n_z c_z z) (hp0:∀i,z.getD i 0=0∨z.getD i 0=1):
  Calls Tryz.prog 72 #[(.slice a_z n_z c_z),(.func (.func 46) #[] #[])] w (Ret fun r w'=>r=(.int .i64 (-1))∧Ext w w'):=by
 refine zC (n:=19) (σ:= [(0,(.slice a_z n_z c_z)),(1,(.func (.func 46) #[] #[]))]) Tryz.func72 rfl ?_
 replace h_z:=h_z.now;have hle_z:=h_z.le
 have hlz:=h_z.len_eq
 refine ze (zd (zc 1 [(4,(vI 0))] (zf (zb (ze (ze (zd (zc 3 [(8,(vI 0)),(7,(vI n_z)),(6,(.slice a_z n_z c_z))] (zf ?_)))))))))
 refine zb (zr (zW (X:=Nat) (fun k=> [(8,(vI k))]) [4,5,9,10,11,12,13,14,15,16,17,18] (fun k w1=>k≤n_z∧Ext w w1) (fun k=>n_z-k) 0 (by kernel_rfl) ⟨Nat.zero_le _,(Ext.refl _)⟩ ?_))
 rintro k dw1 w1 ⟨hk,hEl⟩
 have hzl:=hEl.size
 refine ze (zd (za (zE (some 9) (decide (((k:Nat):Int)<((n_z:Nat):Int))) (fun hc9=> ?_) (fun hc9=> ?_))))
 ·replace hc9:k<n_z:=by have:=zac hc9;omega
  refine zf (zb (ze (zv (zo (zb (ze (zr (ze (zd ?_)))))))))
  refine zc 2 [(5,(vI k)),(10,(vI k))] (zf (zb (ze (zd (zc 3 [(13,(vI k)),(12,(.slice a_z n_z c_z)),(11,(.func (.func 46) #[] #[]))] ?_)))))
  obtain ⟨b1,o1,rfl⟩:=h_z.addr (by omega)
  refine za (zai b1 o1 n_z c_z k 1 ?_)
  refine za (zl b1 (o1+k*1) ((h_z.ext hEl).celli (by omega)) ?_)
  refine za (zq (ztM (gz z k) _ (hp0 k)) ?_)
  rintro _ w2 ⟨rfl,hEw2⟩
  have hzw2:=hEw2.size
  refine zf (zb (zh (zo (zi (zb (zd (za (zn (some 18) .i64 (IntKind.i64.wrap (((k:Nat):Int)+((1:Nat):Int))) (k+1) (zu) ?_))))))))
  refine zc 1 [(8,(vI (k+1)))] (zf (zz (zL (k+1) ?_ ?_)))
  ·exact ⟨by omega,(hEl.trans hEw2)⟩
  ·first | omega |(dsimp only;omega)
 ·replace hc9:¬(k<n_z):=by have:=zad hc9;omega
  refine zf (zb (ze (zh (zP (zp (zp (zF (zb (ze ?_)))))))))
  exact zd (zc 1 [(4,(.int .i64 (-1)))] (zf (zb (zj (zm (.int .i64 (-1)) (⟨rfl,hEl⟩))))))
theorem zzv {lo_z hi_z:Nat} {a_z:Option Addr} {n_z c_z:Nat} {z:List Int} (w:World) (h_z:Es (iv .i64) lo_z hi_z w a_z n_z c_z z) (hp0:¬∀i,z.getD i 0=0∨z.getD i 0=1):
  Calls Tryz.prog 72 #[(.slice a_z n_z c_z),(.func (.func 46) #[] #[])] w (Ret fun r w'=>∃(a0:Nat),r=(vI a0)∧Ext w w'):=by
 refine zC (n:=19) (σ:= [(0,(.slice a_z n_z c_z)),(1,(.func (.func 46) #[] #[]))]) Tryz.func72 rfl ?_
 replace h_z:=h_z.now;have hle_z:=h_z.le
 have hlz:=h_z.len_eq
 refine ze (zd (zc 1 [(4,(vI 0))] (zf (zb (ze (ze (zd (zc 3 [(8,(vI 0)),(7,(vI n_z)),(6,(.slice a_z n_z c_z))] (zf ?_)))))))))
 refine zb (zr (zW (X:=Nat) (fun k=> [(8,(vI k))]) [4,5,9,10,11,12,13,14,15,16,17,18] (fun k w1=>k≤n_z∧(∀i,i<k→z.getD i 0=0∨z.getD i 0=1)∧Ext w w1) (fun k=>n_z-k) 0 (by kernel_rfl) ⟨Nat.zero_le _,fun i h=>absurd h (Nat.not_lt_zero _),(Ext.refl _)⟩ ?_))
 rintro k dw1 w1 ⟨hk,hal,hEl⟩
 have hzl:=hEl.size
 refine ze (zd (za (zE (some 9) (decide (((k:Nat):Int)<((n_z:Nat):Int))) (fun hc9=> ?_) (fun hc9=> ?_))))
 ·replace hc9:k<n_z:=by have:=zac hc9;omega
  refine zf (zb (ze (zv (zo (zb (ze (zr (ze (zd ?_)))))))))
  refine zc 2 [(5,(vI k)),(10,(vI k))] (zf (zb (ze (zd (zc 3 [(13,(vI k)),(12,(.slice a_z n_z c_z)),(11,(.func (.func 46) #[] #[]))] ?_)))))
  obtain ⟨b1,o1,rfl⟩:=h_z.addr (by omega)
  refine za (zai b1 o1 n_z c_z k 1 ?_)
  refine za (zl b1 (o1+k*1) ((h_z.ext hEl).celli (by omega)) ?_)
  rcases Classical.em ((z.getD k 0)=0∨(z.getD k 0)=1) with hx | hx
  ·refine za (zq (ztM (gz z k) _ (hx)) ?_)
   rintro _ w2 ⟨rfl,hEw2⟩
   have hzw2:=hEw2.size
   refine zf (zb (zh (zo (zi (zb (zd (za (zn (some 18) .i64 (IntKind.i64.wrap (((k:Nat):Int)+((1:Nat):Int))) (k+1) (zu) ?_))))))))
   refine zc 1 [(8,(vI (k+1)))] (zf (zz (zL (k+1) ?_ ?_)))
   ·exact ⟨by omega,fun i hi=>by rcases Nat.lt_succ_iff_lt_or_eq.1 hi with h1 | rfl;exact hal i h1;exact hx,(hEl.trans hEw2)⟩
   ·first | omega |(dsimp only;omega)
  ·refine za (zq (zzH (gz z k) _ (hx)) ?_)
   rintro _ w3 ⟨rfl,hEw3⟩
   have hzw3:=hEw3.size
   refine zf (zb (zv (ze (zd (zc 2 [(4,(vI k)),(17,(vI k))] (zf (zb (zj (zA ?_)))))))))
   exact zw (zw (zA (zw (zm (vI k) (⟨_,rfl,(hEl.trans hEw3)⟩)))))
 ·replace hc9:¬(k<n_z):=by have:=zad hc9;omega
  refine zf (zb (ze (zh (zP (zp (zp (zF (zb (ze ?_)))))))))
  exact zd (zc 1 [(4,(.int .i64 (-1)))] (zf (zb (zj (zm (.int .i64 (-1)) (absurd (fun i=>by rcases Nat.lt_or_ge i n_z with h1 | h1;exact hal i (by omega);left;rw [List.getD_eq_getElem?_getD,List.getElem?_eq_none (by omega)];rfl) hp0))))))
theorem zrI {lo_z hi_z:Nat} {a_z:Option Addr} {n_z c_z:Nat} {z:List Int} (w:World) (h_z:Es (iv .i64) lo_z hi_z w a_z n_z c_z z) (hp0:∀i,z.getD i 0=0∨z.getD i 0=1):
  Calls Tryz.prog 45 #[(.slice a_z n_z c_z),(.func (.func 46) #[] #[])] w (Ret fun r w'=>r=vF∧Ext w w'):=by
 refine zC (n:=9) (σ:= [(0,(.slice a_z n_z c_z)),(1,(.func (.func 46) #[] #[]))]) Tryz.func45 rfl ?_
 replace h_z:=h_z.now;have hle_z:=h_z.le
 refine ze (zd (zc 1 [(4,vF)] (zf (zb (ze (zd (zc 2 [(6,(.func (.func 46) #[] #[])),(5,(.slice a_z n_z c_z))] (za (zq (zsV _ h_z (by assumption)) ?_)))))))))
 rintro _ w1 ⟨rfl,hEw1⟩
 have hzw1:=hEw1.size
 refine za (zah (some 8) (decide (-1≥((0:Nat):Int))) false (zcL) ?_)
 exact zc 1 [(4,vF)] (zf (zb (zj (zm vF (⟨rfl,hEw1⟩)))))
theorem zzx {lo_z hi_z:Nat} {a_z:Option Addr} {n_z c_z:Nat} {z:List Int} (w:World) (h_z:Es (iv .i64) lo_z hi_z w a_z n_z c_z z) (hp0:¬∀i,z.getD i 0=0∨z.getD i 0=1):
  Calls Tryz.prog 45 #[(.slice a_z n_z c_z),(.func (.func 46) #[] #[])] w (Ret fun r w'=>r=vT∧Ext w w'):=by
 refine zC (n:=9) (σ:= [(0,(.slice a_z n_z c_z)),(1,(.func (.func 46) #[] #[]))]) Tryz.func45 rfl ?_
 replace h_z:=h_z.now;have hle_z:=h_z.le
 refine ze (zd (zc 1 [(4,vF)] (zf (zb (ze (zd (zc 2 [(6,(.func (.func 46) #[] #[])),(5,(.slice a_z n_z c_z))] (za (zq (zzv _ h_z (by assumption)) ?_)))))))))
 rintro _ w1 ⟨a1,rfl,hEw1⟩
 have hzw1:=hEw1.size
 refine za (zah (some 8) (decide (((a1:Nat):Int)≥((0:Nat):Int))) true (zga) ?_)
 exact zc 1 [(4,vT)] (zf (zb (zj (zm vT (⟨rfl,hEw1⟩)))))
theorem zuQ (n:Nat) {lo_t hi_t:Nat} {a_t:Option Addr} {n_t c_t:Nat} {t:List Nod} {lo_z hi_z:Nat} {a_z:Option Addr} {n_z c_z:Nat} {z:List Int} (w:World) (h_t:Ms zJ 274 lo_t hi_t w a_t n_t c_t t) (h_z:Es (iv .i64) lo_z hi_z w a_z n_z c_z z) (hp0:1≤n) (hp1:n≤4096) (hp2:n_t=tot n) (hp3:zbR n t=0) (hp4:n_z=n_t) (hp5:∀i,z.getD i 0=0∨z.getD i 0=1) (hp6:zdm ((n:Nat):Int) (ofT n_t t z)=0) (hg0:Gl 0 [vI 45,vI 33] w) (hg1:Gl 1 (w8C zbm) w) (hg2:Gl 3 (zax kA) w) (hg3:Gl 2 [.iface 227 (.agg #[.pointer (some ⟨4,160,none⟩)])] w):
  Calls Tryz.prog 12 #[(vA [(vI n),(.slice a_t n_t c_t)]),(.slice a_z n_z c_z)] w (Ret fun r w'=>∃a1,r=(.tuple #[(vA [(vI n),(.slice a1 n_t n_t)]),(vI 0)])∧Ms unC 280 w.heap.size w'.heap.size w' a1 n_t n_t (ofT n_t t z)∧Ext w w'):=by
 refine zC (n:=61) (σ:= [(0,(vA [(vI n),(.slice a_t n_t c_t)])),(1,(.slice a_z n_z c_z))]) Tryz.func12 rfl ?_
 replace h_t:=h_t.now;have hle_t:=h_t.le
 replace h_z:=h_z.now;have hle_z:=h_z.le
 have hgl0:=hg0.lt
 have hgl1:=hg1.lt
 have hgl2:=hg2.lt
 have hgl3:=hg3.lt
 have h5:=zat n
 have hlt:=h_t.len_eq
 have hlz:=h_z.len_eq
 have hts:=zaC hp1
 have htt:=zcv hp0 hp1
 have hle:=h_t.le
 have hlez:=h_z.le
 have hce:zem (n:Int) t=0:=by rw [zf5 hp0 hp1 (by omega)];exact hp3
 refine ze (zd (za (zab (Instr.box 44 (vA [(vI n),(.slice a_t n_t c_t)])) (vP w.heap.size 0) ([(vI n),(.slice a_t n_t c_t)]) 44 ?_)))
 intro w1 hBw1 hEw1 hzw1 hlw1
 refine za (zaf ([(vI 0),(.slice none 0 0)]) 38 ?_)
 intro w2 hBw2 hEw2 hzw2 hlw2
 refine zc 1 [(5,(vI 0))] (zf (zb (ze (ze (zd (za (zT w.heap.size 0 ((hBw1.ext hEw2).all) ?_)))))))
 refine za (zq (zuH ((n:Nat):Int) _ ((h_t.ext hEw1).ext hEw2) ((hg0.ext hEw1).ext hEw2) ((hg1.ext hEw1).ext hEw2) ((hg2.ext hEw1).ext hEw2) ((hg3.ext hEw1).ext hEw2)) ?_)
 rintro _ w3 ⟨rfl,hEw3⟩
 have hzw3:=hEw3.size
 rw [show zem ((n:Nat):Int) t=0 from hce]
 refine zc 1 [(6,(vI 0))] (zf (zb (ze (zd (zc 1 [(13,(vI 0))] (za (zah (some 14) (((0:Nat):Int) !=((0:Nat):Int)) false (zaE) ?_)))))))
 refine zf (zb (zh (zo (zb (ze (ze (zd (zc 3 [(19,(vP w.heap.size 1)),(18,(vI n_z)),(17,(.slice a_z n_z c_z))] (za (zl w.heap.size 1 (((hBw1.ext hEw2).ext hEw3).cell rfl) ?_))))))))))
 refine zc 1 [(21,(vI n_t))] (za (zah (some 22) (((n_z:Nat):Int) !=((n_t:Nat):Int)) false (zaE) ?_))
 refine zc 2 [(24,(.slice a_z n_z c_z)),(23,vF)] ?_
 have hK1:=(((h_z.ext hEw1).ext hEw2).ext hEw3)
 refine za (zq (zrI _ hK1 (hp5)) ?_)
 rintro _ w4 ⟨rfl,hEw4⟩
 have hzw4:=hEw4.size
 refine zc 1 [(26,vF)] (zf (zb (zh (zo (zb (ze (zaa 9 (fun w5 hEw5 hzw5 hT162=> ?_))))))))
 refine zg hT162 [(0,28,(vP w.heap.size 0))] 1 ?_
 have hK2:=((((hBw1.ext hEw2).ext hEw3).ext hEw4).ext hEw5)
 refine zt hT162 1 w.heap.size 0 (fun w' hC=>((hK2.ext hC).cell rfl)) (zg hT162 [(2,30,(vP w.heap.size 1))] 1 (zt hT162 3 w.heap.size 1 (fun w' hC=>((hK2.ext hC).cell rfl)) (zg hT162 [(4,32,(vI n_t))] 1 (zbE 5 7 ?_ ?_))))
 ·refine zcy (some 33) 36 77 280 384 n_t n_t .i64 .i64 (vA (unC Un.zero)) (by omega) (by omega) (by omega) ?_
  rw [zd2 (f:=unC) (x:=Un.zero) rfl (zK _) (by decide)]
  intro w6 hBw6 hEw6
  have hzw6:=hEw6.size;have hlw6:=hBw6.lt
  have hmw6:Ms unC 280 w5.heap.size (w5.heap.size+1) w6 (pA w5.heap.size 0) n_t n_t (List.replicate n_t Un.zero):=Ms.of_pre (r:= []) (by rw [List.append_nil];exact hBw6) zK (by simp) (Nat.le_refl _) (by simp only [maxLen];omega) (Nat.le_refl _) (Nat.lt_succ_self _)
  refine ⟨.inr hEw6, ?_⟩
  refine zg (hw:=hEw6) hT162 [(6,34,(vA [(vI n),(.slice (pA w5.heap.size 0) n_t n_t)]))] 1 (zx 7 (zaf ([(vI 0),(.slice none 0 0)]) 38 ?_))
  intro w7 hBw7 hEw7 hzw7 hlw7
  have hX1:Ext w5 w7:=(hEw6.trans hEw7)
  refine ⟨.inr hX1, ?_⟩
  refine zx 8 (zG 38 w6.heap.size 0 38 (vA [(vI n),(.slice (pA w5.heap.size 0) n_t n_t)]) ([(vI 0),(.slice none 0 0)]) ([(vI n),(.slice (pA w5.heap.size 0) n_t n_t)]) hBw7 (by kernel_rfl) (by first | decide |(simp;done)|(simp;omega)) (by simp [Value.oneCell']) ?_)
  intro w8 hBw8 hCw8
  have hzw8:=hCw8.size
  rw [zy _ _ (by kernel_rfl)] at hBw8
  refine ⟨.inl (by kernel_rfl), ?_⟩
  refine zD (zb (ze (ze (zd (zc 1 [(35,(vP w.heap.size 1))] ?_)))))
  have hK3:=(((hK2.ext hEw6).ext hEw7).chg hCw8)
  refine za (zl w.heap.size 1 (hK3.cell rfl) ?_)
  refine zc 2 [(38,(vI 0)),(37,(vI n_t))] (zf (zb (zr ?_)))
  have hK4:=((((((hBw2.ext hEw3).ext hEw4).ext hEw5).ext hEw6).ext hEw7).chg hCw8)
  have hX2:Ext w w8:=(Ext.own ((((((hEw1.trans hEw2).trans hEw3).trans hEw4).trans hEw5).trans hEw6).trans hEw7) hCw8 (by omega))
  refine zW (X:=Nat) (fun k=> [(38,(vI k))]) [8,9,39,40,41,42,43,44,45,46,47,48,49,50,51,52,53] (fun k w9=>k≤n_t∧Blk w9 w5.heap.size ((za1 n_t (ofE t z) (fun _=>Un.zero) k).flatMap unC) 77∧Blk w9 w.heap.size ([(vI n),(.slice a_t n_t c_t)]) 44∧Blk w9 w1.heap.size ([(vI 0),(.slice none 0 0)]) 38∧Blk w9 w6.heap.size ([(vI n),(.slice (pA w5.heap.size 0) n_t n_t)]) 38∧Ext w w9) (fun k=>n_t-k) 0 (by kernel_rfl) ⟨Nat.zero_le _,by rw [zlD];exact ((hBw6.ext hEw7).chg hCw8),hK3,hK4,hBw8,hX2⟩ ?_
  rintro k dw9 w9 ⟨hk,hR,hQ2,hQ4,hQ7,hEl⟩
  have hzl:=hEl.size;have hRl:=hR.lt
  have hmR:=Ms.of_row hR zK (len:=n_t) zb1.symm (by simp only [maxLen];omega)
  have hQ2l:=hQ2.lt
  have hQ4l:=hQ4.lt
  have hQ7l:=hQ7.lt
  refine ze (zd (za (zE (some 39) (decide (((k:Nat):Int)<((n_t:Nat):Int))) (fun hc39=> ?_) (fun hc39=> ?_))))
  ·replace hc39:k<n_t:=by have:=zac hc39;omega
   refine zf (zb (ze (zv (zo (zb (ze (zr (ze (zd ?_)))))))))
   refine zc 1 [(40,(vI k))] ?_
   obtain ⟨b1,o1,rfl⟩:=h_t.addr (by omega) (by decide)
   refine za (zai b1 o1 n_t c_t k 274 ?_)
   refine za (zS b1 (o1+k*274) ((h_t.ext hEl).at Nod.zero (by omega)) (zO _) ?_)
   refine za (zaf (zJ Nod.zero) 74 ?_)
   intro w10 hBw10 hEw10 hzw10 hlw10
   refine zc 1 [(8,(vI k))] (za (zG 74 w9.heap.size 0 74 (vA (zJ (t.getD k Nod.zero))) (zJ Nod.zero) (zJ (t.getD k Nod.zero)) hBw10 (by rw [zO];kernel_rfl) (by first |(simp;done)|(simp;omega)) (zcb _) ?_))
   intro w11 hBw11 hCw11
   have hzw11:=hCw11.size
   rw [zy _ _ (by simp)] at hBw11
   refine zf (zb (zbI (fun k=>k=w5.heap.size) 11 (fun w12 hEw12 hzw12 hT234=> ?_)))
   have hX3:Chg (fun k=>k=w5.heap.size) w12 w12:=(Chg.refl (fun k=>k=w5.heap.size) w12)
   refine zg (hw:=hX3) hT234 [(0,43,(vP w6.heap.size 1))] 1 ?_
   have hK5:=(((hQ7.ext hEw10).chg hCw11).ext hEw12)
   refine zt (hw:=hX3) hT234 1 w6.heap.size 1 (fun w' hC=>((hK5.chg hC (fun hs=>by have h:_=_:=hs;omega)).cell rfl)) (zg (hw:=hX3) hT234 [(2,45,(vI k))] 1 (zal (hw:=hX3) hT234 3 w9.heap.size 0 (fun w' hC=>(((hBw11.ext hEw12).chg hC (fun hs=>by have h:_=_:=hs;omega)).all)) (zO _) (zg (hw:=hX3) hT234 [(4,47,(.slice a_z n_z c_z)),(5,48,(vI k))] 2 ?_)))
   obtain ⟨b2,o2,rfl⟩:=h_z.addr (by omega)
   refine zag (hw:=hX3) hT234 6 b2 o2 n_z c_z k 1 ?_
   have hK6:=((((h_z.ext hEl).ext hEw10).chg hCw11).ext hEw12)
   refine zt (hw:=hX3) hT234 7 b2 (o2+k*1) (fun w' hC=>((hK6.chg hC (fun k h1 h2 hs=>by have h:_=_:=hs;omega)).celli (by omega))) (zk (hw:=hX3) hT234 8 (vA (unC (ofE t z k))) (zae (Instr.build 77 #[(0,(vA (zJ (t.getD k Nod.zero)))),(1,(.int .i64 (gz z k)))]) (fun w' hC=>(zeV (t.getD k Nod.zero) (gz z k)).trans (congrArg (fun z:Un=>Result.ok (Value.agg (unC z).toArray) _) (show (⟨(t.getD k Nod.zero),gz z k,false,List.replicate 4 false,rfl⟩:Un)=ofE t z k from rfl)))) (zag (hw:=hX3) hT234 9 w5.heap.size 0 n_t n_t k 280 ?_))
   have hK7:=(((hR.ext hEw10).chg hCw11).ext hEw12)
   refine zx 10 (zG 77 w5.heap.size (0+k*280) 77 (vA (unC (ofE t z k))) ((za1 n_t (ofE t z) (fun _=>Un.zero) k).flatMap unC) (unC (ofE t z k)) hK7 (by rw [zK];kernel_rfl) (by rw [zaD zK];(try simp only [List.length_cons,List.length_nil,List.length_set]);have:=(show List.length (za1 n_t (ofE t z) (fun _=>Un.zero) k)=n_t from zb1);have hln:=zK (ofE t z k);omega) (zbe _) ?_)
   have hK8:=(((hR.ext hEw10).chg hCw11).ext hEw12)
   intro w13 hBw13 hCw13
   have hzw13:=hCw13.size
   rw [show (zU ((za1 n_t (ofE t z) (fun _=>Un.zero) k).flatMap unC) (0+k*280) (unC (ofE t z k)):List Value)=(za1 n_t (ofE t z) (fun _=>Un.zero) (k+1)).flatMap unC from (zcp zK _ _ _ (by have hq:List.length (za1 n_t (ofE t z) (fun _=>Un.zero) k)=n_t:=zb1;omega)).trans (congrArg (fun z=>List.flatMap unC z) (show ((za1 n_t (ofE t z) (fun _=>Un.zero) k).set k (ofE t z k))=(za1 n_t (ofE t z) (fun _=>Un.zero) (k+1)) from zgS (f:=ofE t z) (by omega)))] at hBw13
   have hmw13:Ms unC 280 w5.heap.size (w5.heap.size+1) w13 (pA w5.heap.size 0) n_t n_t (za1 n_t (ofE t z) (fun _=>Un.zero) (k+1)):=Ms.of_pre (r:= []) (by rw [List.append_nil];exact hBw13) zK (by have hq:List.length (za1 n_t (ofE t z) (fun _=>Un.zero) (k+1))=n_t:=zb1;omega) (by omega) (by simp only [maxLen];omega) (by omega) (by omega)
   refine ⟨.inl (by kernel_rfl), ?_⟩
   refine zD (zi (zb (zd (za (zn (some 53) .i64 (IntKind.i64.wrap (((k:Nat):Int)+((1:Nat):Int))) (k+1) (zu) ?_)))))
   refine zc 1 [(38,(vI (k+1)))] (zf (zz ?_))
   have hK9:=((((hQ2.ext hEw10).chg hCw11).ext hEw12).chg hCw13)
   have hK10:=((((hQ4.ext hEw10).chg hCw11).ext hEw12).chg hCw13)
   have hX4:Ext w w13:=(Ext.own ((Ext.own (hEl.trans hEw10) hCw11 (by omega)).trans hEw12) hCw13 (by omega))
   refine zL (k+1) ?_ ?_
   ·exact ⟨by omega,hBw13,hK9,hK10,(hK5.chg hCw13),hX4⟩
   ·first | omega |(dsimp only;omega)
  ·replace hc39:¬(k<n_t):=by have:=zad hc39;omega
   have hkn:k=n_t:=by omega
   rw [hkn,show (za1 n_t (ofE t z) (fun _=>Un.zero) n_t)=(ofT n_t t z) from zg5] at hR hmR
   refine zf (zb (ze (zh (zP (zp (zp (zF (zb (ze ?_)))))))))
   refine ze (zd (za (zT w6.heap.size 0 (hQ7.all) ?_)))
   refine za (zq (zkR ((n:Nat):Int) _ hmR (hg0.ext hEl) (hg1.ext hEl) (hg2.ext hEl)) ?_)
   rintro _ w14 ⟨rfl,hEw14⟩
   have hzw14:=hEw14.size
   rw [show zdm ((n:Nat):Int) (ofT n_t t z)=0 from hp6]
   refine zc 1 [(10,(vI 0))] (zf (zb (ze (zd (zc 1 [(56,(vI 0))] (za (zah (some 57) (((0:Nat):Int) !=((0:Nat):Int)) false (zaE) ?_)))))))
   refine zf (zb (zh (zo (zb (ze (zd (za (zT w6.heap.size 0 ((hQ7.ext hEw14).all) ?_))))))))
   refine za (zG 38 w1.heap.size 0 38 (vA [(vI n),(.slice (pA w5.heap.size 0) n_t n_t)]) ([(vI 0),(.slice none 0 0)]) ([(vI n),(.slice (pA w5.heap.size 0) n_t n_t)]) (hQ4.ext hEw14) (by kernel_rfl) (by first | decide |(simp;done)|(simp;omega)) (by simp [Value.oneCell']) ?_)
   intro w15 hBw15 hCw15
   have hzw15:=hCw15.size
   rw [zy _ _ (by kernel_rfl)] at hBw15
   exact zc 1 [(5,(vI 0))] (zf (zb (zj (za6 (show zX Tryz.prog 61 _ _ (.cell 4 38) (vA [(vI n),(.slice (pA w5.heap.size 0) n_t n_t)]) from ⟨⟨w1.heap.size,0,none⟩,(by kernel_rfl),zI (T:=38) (vs:= [(vI n),(.slice (pA w5.heap.size 0) n_t n_t)]) (hBw15).all (by kernel_rfl)⟩) (show zX Tryz.prog 61 _ _ (.tmp 5) (vI 0) by (show _=_;kernel_rfl)) (⟨_,rfl,(((hmR.ext hEw14).chg hCw15)).now.mono (by omega) (Nat.le_refl _),(Ext.own (hEl.trans hEw14) hCw15 (by omega))⟩)))))
 ·refine zaf ([(vI 0),(.slice none 0 0)]) 38 ?_
  intro w16 hBw16 hEw16 hzw16 hlw16
  refine ⟨.inr hEw16, ?_⟩
  refine zx 5 (zcy (some 33) 36 77 280 384 n_t n_t .i64 .i64 (vA (unC Un.zero)) (by omega) (by omega) (by omega) ?_)
  rw [zd2 (f:=unC) (x:=Un.zero) rfl (zK _) (by decide)]
  intro w17 hBw17 hEw17
  have hzw17:=hEw17.size;have hlw17:=hBw17.lt
  have hmw17:Ms unC 280 w16.heap.size (w16.heap.size+1) w17 (pA w16.heap.size 0) n_t n_t (List.replicate n_t Un.zero):=Ms.of_pre (r:= []) (by rw [List.append_nil];exact hBw17) zK (by simp) (Nat.le_refl _) (by simp only [maxLen];omega) (Nat.le_refl _) (Nat.lt_succ_self _)
  have hX5:Ext w5 w17:=(hEw16.trans hEw17)
  refine ⟨.inr hX5, ?_⟩
  refine zg (hw:=hX5) hT162 [(6,34,(vA [(vI n),(.slice (pA w16.heap.size 0) n_t n_t)]))] 1 (zx 8 (zG 38 w5.heap.size 0 38 (vA [(vI n),(.slice (pA w16.heap.size 0) n_t n_t)]) ([(vI 0),(.slice none 0 0)]) ([(vI n),(.slice (pA w16.heap.size 0) n_t n_t)]) (hBw16.ext hEw17) (by kernel_rfl) (by first | decide |(simp;done)|(simp;omega)) (by simp [Value.oneCell']) ?_))
  intro w18 hBw18 hCw18
  have hzw18:=hCw18.size
  rw [zy _ _ (by kernel_rfl)] at hBw18
  refine ⟨.inl (by kernel_rfl), ?_⟩
  refine zD (zb (ze (ze (zd (zc 1 [(35,(vP w.heap.size 1))] ?_)))))
  have hK11:=(((hK2.ext hEw16).ext hEw17).chg hCw18)
  refine za (zl w.heap.size 1 (hK11.cell rfl) ?_)
  refine zc 2 [(38,(vI 0)),(37,(vI n_t))] (zf (zb (zr ?_)))
  have hK12:=((((((hBw2.ext hEw3).ext hEw4).ext hEw5).ext hEw16).ext hEw17).chg hCw18)
  have hX6:Ext w w18:=(Ext.own ((((((hEw1.trans hEw2).trans hEw3).trans hEw4).trans hEw5).trans hEw16).trans hEw17) hCw18 (by omega))
  refine zW (X:=Nat) (fun k=> [(38,(vI k))]) [8,9,39,40,41,42,43,44,45,46,47,48,49,50,51,52,53] (fun k w19=>k≤n_t∧Blk w19 w16.heap.size ((za1 n_t (ofE t z) (fun _=>Un.zero) k).flatMap unC) 77∧Blk w19 w.heap.size ([(vI n),(.slice a_t n_t c_t)]) 44∧Blk w19 w1.heap.size ([(vI 0),(.slice none 0 0)]) 38∧Blk w19 w5.heap.size ([(vI n),(.slice (pA w16.heap.size 0) n_t n_t)]) 38∧Ext w w19) (fun k=>n_t-k) 0 (by kernel_rfl) ⟨Nat.zero_le _,by rw [zlD];exact (hBw17.chg hCw18),hK11,hK12,hBw18,hX6⟩ ?_
  rintro k dw19 w19 ⟨hk,hR,hQ2,hQ4,hQ7,hEl⟩
  have hzl:=hEl.size;have hRl:=hR.lt
  have hmR:=Ms.of_row hR zK (len:=n_t) zb1.symm (by simp only [maxLen];omega)
  have hQ2l:=hQ2.lt
  have hQ4l:=hQ4.lt
  have hQ7l:=hQ7.lt
  refine ze (zd (za (zE (some 39) (decide (((k:Nat):Int)<((n_t:Nat):Int))) (fun hc39=> ?_) (fun hc39=> ?_))))
  ·replace hc39:k<n_t:=by have:=zac hc39;omega
   refine zf (zb (ze (zv (zo (zb (ze (zr (ze (zd ?_)))))))))
   refine zc 1 [(40,(vI k))] ?_
   obtain ⟨b3,o3,rfl⟩:=h_t.addr (by omega) (by decide)
   refine za (zai b3 o3 n_t c_t k 274 ?_)
   refine za (zS b3 (o3+k*274) ((h_t.ext hEl).at Nod.zero (by omega)) (zO _) ?_)
   refine za (zaf (zJ Nod.zero) 74 ?_)
   intro w20 hBw20 hEw20 hzw20 hlw20
   refine zc 1 [(8,(vI k))] (za (zG 74 w19.heap.size 0 74 (vA (zJ (t.getD k Nod.zero))) (zJ Nod.zero) (zJ (t.getD k Nod.zero)) hBw20 (by rw [zO];kernel_rfl) (by first |(simp;done)|(simp;omega)) (zcb _) ?_))
   intro w21 hBw21 hCw21
   have hzw21:=hCw21.size
   rw [zy _ _ (by simp)] at hBw21
   refine zf (zb (zbI (fun k=>k=w16.heap.size) 11 (fun w22 hEw22 hzw22 hT379=> ?_)))
   have hX7:Chg (fun k=>k=w16.heap.size) w22 w22:=(Chg.refl (fun k=>k=w16.heap.size) w22)
   refine zg (hw:=hX7) hT379 [(0,43,(vP w5.heap.size 1))] 1 ?_
   have hK13:=(((hQ7.ext hEw20).chg hCw21).ext hEw22)
   refine zt (hw:=hX7) hT379 1 w5.heap.size 1 (fun w' hC=>((hK13.chg hC (fun hs=>by have h:_=_:=hs;omega)).cell rfl)) (zg (hw:=hX7) hT379 [(2,45,(vI k))] 1 (zal (hw:=hX7) hT379 3 w19.heap.size 0 (fun w' hC=>(((hBw21.ext hEw22).chg hC (fun hs=>by have h:_=_:=hs;omega)).all)) (zO _) (zg (hw:=hX7) hT379 [(4,47,(.slice a_z n_z c_z)),(5,48,(vI k))] 2 ?_)))
   obtain ⟨b4,o4,rfl⟩:=h_z.addr (by omega)
   refine zag (hw:=hX7) hT379 6 b4 o4 n_z c_z k 1 ?_
   have hK14:=((((h_z.ext hEl).ext hEw20).chg hCw21).ext hEw22)
   refine zt (hw:=hX7) hT379 7 b4 (o4+k*1) (fun w' hC=>((hK14.chg hC (fun k h1 h2 hs=>by have h:_=_:=hs;omega)).celli (by omega))) (zk (hw:=hX7) hT379 8 (vA (unC (ofE t z k))) (zae (Instr.build 77 #[(0,(vA (zJ (t.getD k Nod.zero)))),(1,(.int .i64 (gz z k)))]) (fun w' hC=>(zeV (t.getD k Nod.zero) (gz z k)).trans (congrArg (fun z:Un=>Result.ok (Value.agg (unC z).toArray) _) (show (⟨(t.getD k Nod.zero),gz z k,false,List.replicate 4 false,rfl⟩:Un)=ofE t z k from rfl)))) (zag (hw:=hX7) hT379 9 w16.heap.size 0 n_t n_t k 280 ?_))
   have hK15:=(((hR.ext hEw20).chg hCw21).ext hEw22)
   refine zx 10 (zG 77 w16.heap.size (0+k*280) 77 (vA (unC (ofE t z k))) ((za1 n_t (ofE t z) (fun _=>Un.zero) k).flatMap unC) (unC (ofE t z k)) hK15 (by rw [zK];kernel_rfl) (by rw [zaD zK];(try simp only [List.length_cons,List.length_nil,List.length_set]);have:=(show List.length (za1 n_t (ofE t z) (fun _=>Un.zero) k)=n_t from zb1);have hln:=zK (ofE t z k);omega) (zbe _) ?_)
   have hK16:=(((hR.ext hEw20).chg hCw21).ext hEw22)
   intro w23 hBw23 hCw23
   have hzw23:=hCw23.size
   rw [show (zU ((za1 n_t (ofE t z) (fun _=>Un.zero) k).flatMap unC) (0+k*280) (unC (ofE t z k)):List Value)=(za1 n_t (ofE t z) (fun _=>Un.zero) (k+1)).flatMap unC from (zcp zK _ _ _ (by have hq:List.length (za1 n_t (ofE t z) (fun _=>Un.zero) k)=n_t:=zb1;omega)).trans (congrArg (fun z=>List.flatMap unC z) (show ((za1 n_t (ofE t z) (fun _=>Un.zero) k).set k (ofE t z k))=(za1 n_t (ofE t z) (fun _=>Un.zero) (k+1)) from zgS (f:=ofE t z) (by omega)))] at hBw23
   have hmw23:Ms unC 280 w16.heap.size (w16.heap.size+1) w23 (pA w16.heap.size 0) n_t n_t (za1 n_t (ofE t z) (fun _=>Un.zero) (k+1)):=Ms.of_pre (r:= []) (by rw [List.append_nil];exact hBw23) zK (by have hq:List.length (za1 n_t (ofE t z) (fun _=>Un.zero) (k+1))=n_t:=zb1;omega) (by omega) (by simp only [maxLen];omega) (by omega) (by omega)
   refine ⟨.inl (by kernel_rfl), ?_⟩
   refine zD (zi (zb (zd (za (zn (some 53) .i64 (IntKind.i64.wrap (((k:Nat):Int)+((1:Nat):Int))) (k+1) (zu) ?_)))))
   refine zc 1 [(38,(vI (k+1)))] (zf (zz ?_))
   have hK17:=((((hQ2.ext hEw20).chg hCw21).ext hEw22).chg hCw23)
   have hK18:=((((hQ4.ext hEw20).chg hCw21).ext hEw22).chg hCw23)
   have hX8:Ext w w23:=(Ext.own ((Ext.own (hEl.trans hEw20) hCw21 (by omega)).trans hEw22) hCw23 (by omega))
   refine zL (k+1) ?_ ?_
   ·exact ⟨by omega,hBw23,hK17,hK18,(hK13.chg hCw23),hX8⟩
   ·first | omega |(dsimp only;omega)
  ·replace hc39:¬(k<n_t):=by have:=zad hc39;omega
   have hkn:k=n_t:=by omega
   rw [hkn,show (za1 n_t (ofE t z) (fun _=>Un.zero) n_t)=(ofT n_t t z) from zg5] at hR hmR
   refine zf (zb (ze (zh (zP (zp (zp (zF (zb (ze ?_)))))))))
   refine ze (zd (za (zT w5.heap.size 0 (hQ7.all) ?_)))
   refine za (zq (zkR ((n:Nat):Int) _ hmR (hg0.ext hEl) (hg1.ext hEl) (hg2.ext hEl)) ?_)
   rintro _ w24 ⟨rfl,hEw24⟩
   have hzw24:=hEw24.size
   rw [show zdm ((n:Nat):Int) (ofT n_t t z)=0 from hp6]
   refine zc 1 [(10,(vI 0))] (zf (zb (ze (zd (zc 1 [(56,(vI 0))] (za (zah (some 57) (((0:Nat):Int) !=((0:Nat):Int)) false (zaE) ?_)))))))
   refine zf (zb (zh (zo (zb (ze (zd (za (zT w5.heap.size 0 ((hQ7.ext hEw24).all) ?_))))))))
   refine za (zG 38 w1.heap.size 0 38 (vA [(vI n),(.slice (pA w16.heap.size 0) n_t n_t)]) ([(vI 0),(.slice none 0 0)]) ([(vI n),(.slice (pA w16.heap.size 0) n_t n_t)]) (hQ4.ext hEw24) (by kernel_rfl) (by first | decide |(simp;done)|(simp;omega)) (by simp [Value.oneCell']) ?_)
   intro w25 hBw25 hCw25
   have hzw25:=hCw25.size
   rw [zy _ _ (by kernel_rfl)] at hBw25
   exact zc 1 [(5,(vI 0))] (zf (zb (zj (za6 (show zX Tryz.prog 61 _ _ (.cell 4 38) (vA [(vI n),(.slice (pA w16.heap.size 0) n_t n_t)]) from ⟨⟨w1.heap.size,0,none⟩,(by kernel_rfl),zI (T:=38) (vs:= [(vI n),(.slice (pA w16.heap.size 0) n_t n_t)]) (hBw25).all (by kernel_rfl)⟩) (show zX Tryz.prog 61 _ _ (.tmp 5) (vI 0) by (show _=_;kernel_rfl)) (⟨_,rfl,(((hmR.ext hEw24).chg hCw25)).now.mono (by omega) (Nat.le_refl _),(Ext.own (hEl.trans hEw24) hCw25 (by omega))⟩)))))
theorem zzD (n:Nat) {lo_t hi_t:Nat} {a_t:Option Addr} {n_t c_t:Nat} {t:List Nod} {lo_z hi_z:Nat} {a_z:Option Addr} {n_z c_z:Nat} {z:List Int} (w:World) (h_t:Ms zJ 274 lo_t hi_t w a_t n_t c_t t) (h_z:Es (iv .i64) lo_z hi_z w a_z n_z c_z z) (hp0:1≤n) (hp1:n≤4096) (hp2:n_t=tot n) (hp3:zbR n t=0) (hp4:n_z=n_t) (hp5:∀i,z.getD i 0=0∨z.getD i 0=1) (hp6:¬zdm ((n:Nat):Int) (ofT n_t t z)=0) (hg0:Gl 0 [vI 45,vI 33] w) (hg1:Gl 1 (w8C zbm) w) (hg2:Gl 3 (zax kA) w) (hg3:Gl 2 [.iface 227 (.agg #[.pointer (some ⟨4,160,none⟩)])] w):
  Calls Tryz.prog 12 #[(vA [(vI n),(.slice a_t n_t c_t)]),(.slice a_z n_z c_z)] w (Ret fun r w'=>r=(.tuple #[(vA [(vI 0),(.slice none 0 0)]),(vI (zdm ((n:Nat):Int) (ofT n_t t z)))])∧Ext w w'):=by
 refine zC (n:=61) (σ:= [(0,(vA [(vI n),(.slice a_t n_t c_t)])),(1,(.slice a_z n_z c_z))]) Tryz.func12 rfl ?_
 replace h_t:=h_t.now;have hle_t:=h_t.le
 replace h_z:=h_z.now;have hle_z:=h_z.le
 have hgl0:=hg0.lt
 have hgl1:=hg1.lt
 have hgl2:=hg2.lt
 have hgl3:=hg3.lt
 have h5:=zat n
 have hlt:=h_t.len_eq
 have hlz:=h_z.len_eq
 have hts:=zaC hp1
 have htt:=zcv hp0 hp1
 have hle:=h_t.le
 have hlez:=h_z.le
 have hce:zem (n:Int) t=0:=by rw [zf5 hp0 hp1 (by omega)];exact hp3
 refine ze (zd (za (zab (Instr.box 44 (vA [(vI n),(.slice a_t n_t c_t)])) (vP w.heap.size 0) ([(vI n),(.slice a_t n_t c_t)]) 44 ?_)))
 intro w1 hBw1 hEw1 hzw1 hlw1
 refine za (zaf ([(vI 0),(.slice none 0 0)]) 38 ?_)
 intro w2 hBw2 hEw2 hzw2 hlw2
 refine zc 1 [(5,(vI 0))] (zf (zb (ze (ze (zd (za (zT w.heap.size 0 ((hBw1.ext hEw2).all) ?_)))))))
 refine za (zq (zuH ((n:Nat):Int) _ ((h_t.ext hEw1).ext hEw2) ((hg0.ext hEw1).ext hEw2) ((hg1.ext hEw1).ext hEw2) ((hg2.ext hEw1).ext hEw2) ((hg3.ext hEw1).ext hEw2)) ?_)
 rintro _ w3 ⟨rfl,hEw3⟩
 have hzw3:=hEw3.size
 rw [show zem ((n:Nat):Int) t=0 from hce]
 refine zc 1 [(6,(vI 0))] (zf (zb (ze (zd (zc 1 [(13,(vI 0))] (za (zah (some 14) (((0:Nat):Int) !=((0:Nat):Int)) false (zaE) ?_)))))))
 refine zf (zb (zh (zo (zb (ze (ze (zd (zc 3 [(19,(vP w.heap.size 1)),(18,(vI n_z)),(17,(.slice a_z n_z c_z))] (za (zl w.heap.size 1 (((hBw1.ext hEw2).ext hEw3).cell rfl) ?_))))))))))
 refine zc 1 [(21,(vI n_t))] (za (zah (some 22) (((n_z:Nat):Int) !=((n_t:Nat):Int)) false (zaE) ?_))
 refine zc 2 [(24,(.slice a_z n_z c_z)),(23,vF)] ?_
 have hK1:=(((h_z.ext hEw1).ext hEw2).ext hEw3)
 refine za (zq (zrI _ hK1 (hp5)) ?_)
 rintro _ w4 ⟨rfl,hEw4⟩
 have hzw4:=hEw4.size
 refine zc 1 [(26,vF)] (zf (zb (zh (zo (zb (ze (zaa 9 (fun w5 hEw5 hzw5 hT365=> ?_))))))))
 refine zg hT365 [(0,28,(vP w.heap.size 0))] 1 ?_
 have hK2:=((((hBw1.ext hEw2).ext hEw3).ext hEw4).ext hEw5)
 refine zt hT365 1 w.heap.size 0 (fun w' hC=>((hK2.ext hC).cell rfl)) (zg hT365 [(2,30,(vP w.heap.size 1))] 1 (zt hT365 3 w.heap.size 1 (fun w' hC=>((hK2.ext hC).cell rfl)) (zg hT365 [(4,32,(vI n_t))] 1 (zbE 5 7 ?_ ?_))))
 ·refine zcy (some 33) 36 77 280 384 n_t n_t .i64 .i64 (vA (unC Un.zero)) (by omega) (by omega) (by omega) ?_
  rw [zd2 (f:=unC) (x:=Un.zero) rfl (zK _) (by decide)]
  intro w6 hBw6 hEw6
  have hzw6:=hEw6.size;have hlw6:=hBw6.lt
  have hmw6:Ms unC 280 w5.heap.size (w5.heap.size+1) w6 (pA w5.heap.size 0) n_t n_t (List.replicate n_t Un.zero):=Ms.of_pre (r:= []) (by rw [List.append_nil];exact hBw6) zK (by simp) (Nat.le_refl _) (by simp only [maxLen];omega) (Nat.le_refl _) (Nat.lt_succ_self _)
  refine ⟨.inr hEw6, ?_⟩
  refine zg (hw:=hEw6) hT365 [(6,34,(vA [(vI n),(.slice (pA w5.heap.size 0) n_t n_t)]))] 1 (zx 7 (zaf ([(vI 0),(.slice none 0 0)]) 38 ?_))
  intro w7 hBw7 hEw7 hzw7 hlw7
  have hX1:Ext w5 w7:=(hEw6.trans hEw7)
  refine ⟨.inr hX1, ?_⟩
  refine zx 8 (zG 38 w6.heap.size 0 38 (vA [(vI n),(.slice (pA w5.heap.size 0) n_t n_t)]) ([(vI 0),(.slice none 0 0)]) ([(vI n),(.slice (pA w5.heap.size 0) n_t n_t)]) hBw7 (by kernel_rfl) (by first | decide |(simp;done)|(simp;omega)) (by simp [Value.oneCell']) ?_)
  intro w8 hBw8 hCw8
  have hzw8:=hCw8.size
  rw [zy _ _ (by kernel_rfl)] at hBw8
  refine ⟨.inl (by kernel_rfl), ?_⟩
  refine zD (zb (ze (ze (zd (zc 1 [(35,(vP w.heap.size 1))] ?_)))))
  have hK3:=(((hK2.ext hEw6).ext hEw7).chg hCw8)
  refine za (zl w.heap.size 1 (hK3.cell rfl) ?_)
  refine zc 2 [(38,(vI 0)),(37,(vI n_t))] (zf (zb (zr ?_)))
  have hK4:=((((((hBw2.ext hEw3).ext hEw4).ext hEw5).ext hEw6).ext hEw7).chg hCw8)
  have hX2:Ext w w8:=(Ext.own ((((((hEw1.trans hEw2).trans hEw3).trans hEw4).trans hEw5).trans hEw6).trans hEw7) hCw8 (by omega))
  refine zW (X:=Nat) (fun k=> [(38,(vI k))]) [8,9,39,40,41,42,43,44,45,46,47,48,49,50,51,52,53] (fun k w9=>k≤n_t∧Blk w9 w5.heap.size ((za1 n_t (ofE t z) (fun _=>Un.zero) k).flatMap unC) 77∧Blk w9 w.heap.size ([(vI n),(.slice a_t n_t c_t)]) 44∧Blk w9 w1.heap.size ([(vI 0),(.slice none 0 0)]) 38∧Blk w9 w6.heap.size ([(vI n),(.slice (pA w5.heap.size 0) n_t n_t)]) 38∧Ext w w9) (fun k=>n_t-k) 0 (by kernel_rfl) ⟨Nat.zero_le _,by rw [zlD];exact ((hBw6.ext hEw7).chg hCw8),hK3,hK4,hBw8,hX2⟩ ?_
  rintro k dw9 w9 ⟨hk,hR,hQ2,hQ4,hQ7,hEl⟩
  have hzl:=hEl.size;have hRl:=hR.lt
  have hmR:=Ms.of_row hR zK (len:=n_t) zb1.symm (by simp only [maxLen];omega)
  have hQ2l:=hQ2.lt
  have hQ4l:=hQ4.lt
  have hQ7l:=hQ7.lt
  refine ze (zd (za (zE (some 39) (decide (((k:Nat):Int)<((n_t:Nat):Int))) (fun hc39=> ?_) (fun hc39=> ?_))))
  ·replace hc39:k<n_t:=by have:=zac hc39;omega
   refine zf (zb (ze (zv (zo (zb (ze (zr (ze (zd ?_)))))))))
   refine zc 1 [(40,(vI k))] ?_
   obtain ⟨b1,o1,rfl⟩:=h_t.addr (by omega) (by decide)
   refine za (zai b1 o1 n_t c_t k 274 ?_)
   refine za (zS b1 (o1+k*274) ((h_t.ext hEl).at Nod.zero (by omega)) (zO _) ?_)
   refine za (zaf (zJ Nod.zero) 74 ?_)
   intro w10 hBw10 hEw10 hzw10 hlw10
   refine zc 1 [(8,(vI k))] (za (zG 74 w9.heap.size 0 74 (vA (zJ (t.getD k Nod.zero))) (zJ Nod.zero) (zJ (t.getD k Nod.zero)) hBw10 (by rw [zO];kernel_rfl) (by first |(simp;done)|(simp;omega)) (zcb _) ?_))
   intro w11 hBw11 hCw11
   have hzw11:=hCw11.size
   rw [zy _ _ (by simp)] at hBw11
   refine zf (zb (zbI (fun k=>k=w5.heap.size) 11 (fun w12 hEw12 hzw12 hT437=> ?_)))
   have hX3:Chg (fun k=>k=w5.heap.size) w12 w12:=(Chg.refl (fun k=>k=w5.heap.size) w12)
   refine zg (hw:=hX3) hT437 [(0,43,(vP w6.heap.size 1))] 1 ?_
   have hK5:=(((hQ7.ext hEw10).chg hCw11).ext hEw12)
   refine zt (hw:=hX3) hT437 1 w6.heap.size 1 (fun w' hC=>((hK5.chg hC (fun hs=>by have h:_=_:=hs;omega)).cell rfl)) (zg (hw:=hX3) hT437 [(2,45,(vI k))] 1 (zal (hw:=hX3) hT437 3 w9.heap.size 0 (fun w' hC=>(((hBw11.ext hEw12).chg hC (fun hs=>by have h:_=_:=hs;omega)).all)) (zO _) (zg (hw:=hX3) hT437 [(4,47,(.slice a_z n_z c_z)),(5,48,(vI k))] 2 ?_)))
   obtain ⟨b2,o2,rfl⟩:=h_z.addr (by omega)
   refine zag (hw:=hX3) hT437 6 b2 o2 n_z c_z k 1 ?_
   have hK6:=((((h_z.ext hEl).ext hEw10).chg hCw11).ext hEw12)
   refine zt (hw:=hX3) hT437 7 b2 (o2+k*1) (fun w' hC=>((hK6.chg hC (fun k h1 h2 hs=>by have h:_=_:=hs;omega)).celli (by omega))) (zk (hw:=hX3) hT437 8 (vA (unC (ofE t z k))) (zae (Instr.build 77 #[(0,(vA (zJ (t.getD k Nod.zero)))),(1,(.int .i64 (gz z k)))]) (fun w' hC=>(zeV (t.getD k Nod.zero) (gz z k)).trans (congrArg (fun z:Un=>Result.ok (Value.agg (unC z).toArray) _) (show (⟨(t.getD k Nod.zero),gz z k,false,List.replicate 4 false,rfl⟩:Un)=ofE t z k from rfl)))) (zag (hw:=hX3) hT437 9 w5.heap.size 0 n_t n_t k 280 ?_))
   have hK7:=(((hR.ext hEw10).chg hCw11).ext hEw12)
   refine zx 10 (zG 77 w5.heap.size (0+k*280) 77 (vA (unC (ofE t z k))) ((za1 n_t (ofE t z) (fun _=>Un.zero) k).flatMap unC) (unC (ofE t z k)) hK7 (by rw [zK];kernel_rfl) (by rw [zaD zK];(try simp only [List.length_cons,List.length_nil,List.length_set]);have:=(show List.length (za1 n_t (ofE t z) (fun _=>Un.zero) k)=n_t from zb1);have hln:=zK (ofE t z k);omega) (zbe _) ?_)
   have hK8:=(((hR.ext hEw10).chg hCw11).ext hEw12)
   intro w13 hBw13 hCw13
   have hzw13:=hCw13.size
   rw [show (zU ((za1 n_t (ofE t z) (fun _=>Un.zero) k).flatMap unC) (0+k*280) (unC (ofE t z k)):List Value)=(za1 n_t (ofE t z) (fun _=>Un.zero) (k+1)).flatMap unC from (zcp zK _ _ _ (by have hq:List.length (za1 n_t (ofE t z) (fun _=>Un.zero) k)=n_t:=zb1;omega)).trans (congrArg (fun z=>List.flatMap unC z) (show ((za1 n_t (ofE t z) (fun _=>Un.zero) k).set k (ofE t z k))=(za1 n_t (ofE t z) (fun _=>Un.zero) (k+1)) from zgS (f:=ofE t z) (by omega)))] at hBw13
   have hmw13:Ms unC 280 w5.heap.size (w5.heap.size+1) w13 (pA w5.heap.size 0) n_t n_t (za1 n_t (ofE t z) (fun _=>Un.zero) (k+1)):=Ms.of_pre (r:= []) (by rw [List.append_nil];exact hBw13) zK (by have hq:List.length (za1 n_t (ofE t z) (fun _=>Un.zero) (k+1))=n_t:=zb1;omega) (by omega) (by simp only [maxLen];omega) (by omega) (by omega)
   refine ⟨.inl (by kernel_rfl), ?_⟩
   refine zD (zi (zb (zd (za (zn (some 53) .i64 (IntKind.i64.wrap (((k:Nat):Int)+((1:Nat):Int))) (k+1) (zu) ?_)))))
   refine zc 1 [(38,(vI (k+1)))] (zf (zz ?_))
   have hK9:=((((hQ2.ext hEw10).chg hCw11).ext hEw12).chg hCw13)
   have hK10:=((((hQ4.ext hEw10).chg hCw11).ext hEw12).chg hCw13)
   have hX4:Ext w w13:=(Ext.own ((Ext.own (hEl.trans hEw10) hCw11 (by omega)).trans hEw12) hCw13 (by omega))
   refine zL (k+1) ?_ ?_
   ·exact ⟨by omega,hBw13,hK9,hK10,(hK5.chg hCw13),hX4⟩
   ·first | omega |(dsimp only;omega)
  ·replace hc39:¬(k<n_t):=by have:=zad hc39;omega
   have hkn:k=n_t:=by omega
   rw [hkn,show (za1 n_t (ofE t z) (fun _=>Un.zero) n_t)=(ofT n_t t z) from zg5] at hR hmR
   refine zf (zb (ze (zh (zP (zp (zp (zF (zb (ze ?_)))))))))
   refine ze (zd (za (zT w6.heap.size 0 (hQ7.all) ?_)))
   refine za (zq (zkR ((n:Nat):Int) _ hmR (hg0.ext hEl) (hg1.ext hEl) (hg2.ext hEl)) ?_)
   rintro _ w14 ⟨rfl,hEw14⟩
   have hzw14:=hEw14.size
   refine zc 1 [(10,(vI (zdm ((n:Nat):Int) (ofT n_t t z))))] (zf (zb (ze (zd (zc 1 [(56,(vI (zdm ((n:Nat):Int) (ofT n_t t z))))] (za (zah (some 57) (((zdm ((n:Nat):Int) (ofT n_t t z):Nat):Int) !=((0:Nat):Int)) true (zcG) ?_)))))))
   refine zf (zb (zv (ze (zd (zc 2 [(59,(vI (zdm ((n:Nat):Int) (ofT n_t t z)))),(58,(vA [(vI 0),(.slice none 0 0)]))] (za (zG 38 w1.heap.size 0 38 (vA [(vI 0),(.slice none 0 0)]) ([(vI 0),(.slice none 0 0)]) ([(vI 0),(.slice none 0 0)]) (hQ4.ext hEw14) (by kernel_rfl) (by first | decide |(simp;done)|(simp;omega)) (by simp [Value.oneCell']) ?_)))))))
   intro w15 hBw15 hCw15
   have hzw15:=hCw15.size
   rw [zy _ _ (by kernel_rfl)] at hBw15
   exact zc 1 [(5,(vI (zdm ((n:Nat):Int) (ofT n_t t z))))] (zf (zb (zj (zw (za6 (show zX Tryz.prog 61 _ _ (.cell 4 38) (vA [(vI 0),(.slice none 0 0)]) from ⟨⟨w1.heap.size,0,none⟩,(by kernel_rfl),zI (T:=38) (vs:= [(vI 0),(.slice none 0 0)]) (hBw15).all (by kernel_rfl)⟩) (show zX Tryz.prog 61 _ _ (.tmp 5) (vI (zdm ((n:Nat):Int) (ofT n_t t z))) by (show _=_;kernel_rfl)) (⟨rfl,(Ext.own (hEl.trans hEw14) hCw15 (by omega))⟩))))))
 ·refine zaf ([(vI 0),(.slice none 0 0)]) 38 ?_
  intro w16 hBw16 hEw16 hzw16 hlw16
  refine ⟨.inr hEw16, ?_⟩
  refine zx 5 (zcy (some 33) 36 77 280 384 n_t n_t .i64 .i64 (vA (unC Un.zero)) (by omega) (by omega) (by omega) ?_)
  rw [zd2 (f:=unC) (x:=Un.zero) rfl (zK _) (by decide)]
  intro w17 hBw17 hEw17
  have hzw17:=hEw17.size;have hlw17:=hBw17.lt
  have hmw17:Ms unC 280 w16.heap.size (w16.heap.size+1) w17 (pA w16.heap.size 0) n_t n_t (List.replicate n_t Un.zero):=Ms.of_pre (r:= []) (by rw [List.append_nil];exact hBw17) zK (by simp) (Nat.le_refl _) (by simp only [maxLen];omega) (Nat.le_refl _) (Nat.lt_succ_self _)
  have hX5:Ext w5 w17:=(hEw16.trans hEw17)
  refine ⟨.inr hX5, ?_⟩
  refine zg (hw:=hX5) hT365 [(6,34,(vA [(vI n),(.slice (pA w16.heap.size 0) n_t n_t)]))] 1 (zx 8 (zG 38 w5.heap.size 0 38 (vA [(vI n),(.slice (pA w16.heap.size 0) n_t n_t)]) ([(vI 0),(.slice none 0 0)]) ([(vI n),(.slice (pA w16.heap.size 0) n_t n_t)]) (hBw16.ext hEw17) (by kernel_rfl) (by first | decide |(simp;done)|(simp;omega)) (by simp [Value.oneCell']) ?_))
  intro w18 hBw18 hCw18
  have hzw18:=hCw18.size
  rw [zy _ _ (by kernel_rfl)] at hBw18
  refine ⟨.inl (by kernel_rfl), ?_⟩
  refine zD (zb (ze (ze (zd (zc 1 [(35,(vP w.heap.size 1))] ?_)))))
  have hK11:=(((hK2.ext hEw16).ext hEw17).chg hCw18)
  refine za (zl w.heap.size 1 (hK11.cell rfl) ?_)
  refine zc 2 [(38,(vI 0)),(37,(vI n_t))] (zf (zb (zr ?_)))
  have hK12:=((((((hBw2.ext hEw3).ext hEw4).ext hEw5).ext hEw16).ext hEw17).chg hCw18)
  have hX6:Ext w w18:=(Ext.own ((((((hEw1.trans hEw2).trans hEw3).trans hEw4).trans hEw5).trans hEw16).trans hEw17) hCw18 (by omega))
  refine zW (X:=Nat) (fun k=> [(38,(vI k))]) [8,9,39,40,41,42,43,44,45,46,47,48,49,50,51,52,53] (fun k w19=>k≤n_t∧Blk w19 w16.heap.size ((za1 n_t (ofE t z) (fun _=>Un.zero) k).flatMap unC) 77∧Blk w19 w.heap.size ([(vI n),(.slice a_t n_t c_t)]) 44∧Blk w19 w1.heap.size ([(vI 0),(.slice none 0 0)]) 38∧Blk w19 w5.heap.size ([(vI n),(.slice (pA w16.heap.size 0) n_t n_t)]) 38∧Ext w w19) (fun k=>n_t-k) 0 (by kernel_rfl) ⟨Nat.zero_le _,by rw [zlD];exact (hBw17.chg hCw18),hK11,hK12,hBw18,hX6⟩ ?_
  rintro k dw19 w19 ⟨hk,hR,hQ2,hQ4,hQ7,hEl⟩
  have hzl:=hEl.size;have hRl:=hR.lt
  have hmR:=Ms.of_row hR zK (len:=n_t) zb1.symm (by simp only [maxLen];omega)
  have hQ2l:=hQ2.lt
  have hQ4l:=hQ4.lt
  have hQ7l:=hQ7.lt
  refine ze (zd (za (zE (some 39) (decide (((k:Nat):Int)<((n_t:Nat):Int))) (fun hc39=> ?_) (fun hc39=> ?_))))
  ·replace hc39:k<n_t:=by have:=zac hc39;omega
   refine zf (zb (ze (zv (zo (zb (ze (zr (ze (zd ?_)))))))))
   refine zc 1 [(40,(vI k))] ?_
   obtain ⟨b3,o3,rfl⟩:=h_t.addr (by omega) (by decide)
   refine za (zai b3 o3 n_t c_t k 274 ?_)
   refine za (zS b3 (o3+k*274) ((h_t.ext hEl).at Nod.zero (by omega)) (zO _) ?_)
   refine za (zaf (zJ Nod.zero) 74 ?_)
   intro w20 hBw20 hEw20 hzw20 hlw20
   refine zc 1 [(8,(vI k))] (za (zG 74 w19.heap.size 0 74 (vA (zJ (t.getD k Nod.zero))) (zJ Nod.zero) (zJ (t.getD k Nod.zero)) hBw20 (by rw [zO];kernel_rfl) (by first |(simp;done)|(simp;omega)) (zcb _) ?_))
   intro w21 hBw21 hCw21
   have hzw21:=hCw21.size
   rw [zy _ _ (by simp)] at hBw21
   refine zf (zb (zbI (fun k=>k=w16.heap.size) 11 (fun w22 hEw22 hzw22 hT580=> ?_)))
   have hX7:Chg (fun k=>k=w16.heap.size) w22 w22:=(Chg.refl (fun k=>k=w16.heap.size) w22)
   refine zg (hw:=hX7) hT580 [(0,43,(vP w5.heap.size 1))] 1 ?_
   have hK13:=(((hQ7.ext hEw20).chg hCw21).ext hEw22)
   refine zt (hw:=hX7) hT580 1 w5.heap.size 1 (fun w' hC=>((hK13.chg hC (fun hs=>by have h:_=_:=hs;omega)).cell rfl)) (zg (hw:=hX7) hT580 [(2,45,(vI k))] 1 (zal (hw:=hX7) hT580 3 w19.heap.size 0 (fun w' hC=>(((hBw21.ext hEw22).chg hC (fun hs=>by have h:_=_:=hs;omega)).all)) (zO _) (zg (hw:=hX7) hT580 [(4,47,(.slice a_z n_z c_z)),(5,48,(vI k))] 2 ?_)))
   obtain ⟨b4,o4,rfl⟩:=h_z.addr (by omega)
   refine zag (hw:=hX7) hT580 6 b4 o4 n_z c_z k 1 ?_
   have hK14:=((((h_z.ext hEl).ext hEw20).chg hCw21).ext hEw22)
   refine zt (hw:=hX7) hT580 7 b4 (o4+k*1) (fun w' hC=>((hK14.chg hC (fun k h1 h2 hs=>by have h:_=_:=hs;omega)).celli (by omega))) (zk (hw:=hX7) hT580 8 (vA (unC (ofE t z k))) (zae (Instr.build 77 #[(0,(vA (zJ (t.getD k Nod.zero)))),(1,(.int .i64 (gz z k)))]) (fun w' hC=>(zeV (t.getD k Nod.zero) (gz z k)).trans (congrArg (fun z:Un=>Result.ok (Value.agg (unC z).toArray) _) (show (⟨(t.getD k Nod.zero),gz z k,false,List.replicate 4 false,rfl⟩:Un)=ofE t z k from rfl)))) (zag (hw:=hX7) hT580 9 w16.heap.size 0 n_t n_t k 280 ?_))
   have hK15:=(((hR.ext hEw20).chg hCw21).ext hEw22)
   refine zx 10 (zG 77 w16.heap.size (0+k*280) 77 (vA (unC (ofE t z k))) ((za1 n_t (ofE t z) (fun _=>Un.zero) k).flatMap unC) (unC (ofE t z k)) hK15 (by rw [zK];kernel_rfl) (by rw [zaD zK];(try simp only [List.length_cons,List.length_nil,List.length_set]);have:=(show List.length (za1 n_t (ofE t z) (fun _=>Un.zero) k)=n_t from zb1);have hln:=zK (ofE t z k);omega) (zbe _) ?_)
   have hK16:=(((hR.ext hEw20).chg hCw21).ext hEw22)
   intro w23 hBw23 hCw23
   have hzw23:=hCw23.size
   rw [show (zU ((za1 n_t (ofE t z) (fun _=>Un.zero) k).flatMap unC) (0+k*280) (unC (ofE t z k)):List Value)=(za1 n_t (ofE t z) (fun _=>Un.zero) (k+1)).flatMap unC from (zcp zK _ _ _ (by have hq:List.length (za1 n_t (ofE t z) (fun _=>Un.zero) k)=n_t:=zb1;omega)).trans (congrArg (fun z=>List.flatMap unC z) (show ((za1 n_t (ofE t z) (fun _=>Un.zero) k).set k (ofE t z k))=(za1 n_t (ofE t z) (fun _=>Un.zero) (k+1)) from zgS (f:=ofE t z) (by omega)))] at hBw23
   have hmw23:Ms unC 280 w16.heap.size (w16.heap.size+1) w23 (pA w16.heap.size 0) n_t n_t (za1 n_t (ofE t z) (fun _=>Un.zero) (k+1)):=Ms.of_pre (r:= []) (by rw [List.append_nil];exact hBw23) zK (by have hq:List.length (za1 n_t (ofE t z) (fun _=>Un.zero) (k+1))=n_t:=zb1;omega) (by omega) (by simp only [maxLen];omega) (by omega) (by omega)
   refine ⟨.inl (by kernel_rfl), ?_⟩
   refine zD (zi (zb (zd (za (zn (some 53) .i64 (IntKind.i64.wrap (((k:Nat):Int)+((1:Nat):Int))) (k+1) (zu) ?_)))))
   refine zc 1 [(38,(vI (k+1)))] (zf (zz ?_))
   have hK17:=((((hQ2.ext hEw20).chg hCw21).ext hEw22).chg hCw23)
   have hK18:=((((hQ4.ext hEw20).chg hCw21).ext hEw22).chg hCw23)
   have hX8:Ext w w23:=(Ext.own ((Ext.own (hEl.trans hEw20) hCw21 (by omega)).trans hEw22) hCw23 (by omega))
   refine zL (k+1) ?_ ?_
   ·exact ⟨by omega,hBw23,hK17,hK18,(hK13.chg hCw23),hX8⟩
   ·first | omega |(dsimp only;omega)
  ·replace hc39:¬(k<n_t):=by have:=zad hc39;omega
   have hkn:k=n_t:=by omega
   rw [hkn,show (za1 n_t (ofE t z) (fun _=>Un.zero) n_t)=(ofT n_t t z) from zg5] at hR hmR
   refine zf (zb (ze (zh (zP (zp (zp (zF (zb (ze ?_)))))))))
   refine ze (zd (za (zT w5.heap.size 0 (hQ7.all) ?_)))
   refine za (zq (zkR ((n:Nat):Int) _ hmR (hg0.ext hEl) (hg1.ext hEl) (hg2.ext hEl)) ?_)
   rintro _ w24 ⟨rfl,hEw24⟩
   have hzw24:=hEw24.size
   refine zc 1 [(10,(vI (zdm ((n:Nat):Int) (ofT n_t t z))))] (zf (zb (ze (zd (zc 1 [(56,(vI (zdm ((n:Nat):Int) (ofT n_t t z))))] (za (zah (some 57) (((zdm ((n:Nat):Int) (ofT n_t t z):Nat):Int) !=((0:Nat):Int)) true (zcG) ?_)))))))
   refine zf (zb (zv (ze (zd (zc 2 [(59,(vI (zdm ((n:Nat):Int) (ofT n_t t z)))),(58,(vA [(vI 0),(.slice none 0 0)]))] (za (zG 38 w1.heap.size 0 38 (vA [(vI 0),(.slice none 0 0)]) ([(vI 0),(.slice none 0 0)]) ([(vI 0),(.slice none 0 0)]) (hQ4.ext hEw24) (by kernel_rfl) (by first | decide |(simp;done)|(simp;omega)) (by simp [Value.oneCell']) ?_)))))))
   intro w25 hBw25 hCw25
   have hzw25:=hCw25.size
   rw [zy _ _ (by kernel_rfl)] at hBw25
   exact zc 1 [(5,(vI (zdm ((n:Nat):Int) (ofT n_t t z))))] (zf (zb (zj (zw (za6 (show zX Tryz.prog 61 _ _ (.cell 4 38) (vA [(vI 0),(.slice none 0 0)]) from ⟨⟨w1.heap.size,0,none⟩,(by kernel_rfl),zI (T:=38) (vs:= [(vI 0),(.slice none 0 0)]) (hBw25).all (by kernel_rfl)⟩) (show zX Tryz.prog 61 _ _ (.tmp 5) (vI (zdm ((n:Nat):Int) (ofT n_t t z))) by (show _=_;kernel_rfl)) (⟨rfl,(Ext.own (hEl.trans hEw24) hCw25 (by omega))⟩))))))
theorem zzy (n:Int) {lo_t hi_t:Nat} {a_t:Option Addr} {n_t c_t:Nat} {t:List Nod} {lo_z hi_z:Nat} {a_z:Option Addr} {n_z c_z:Nat} {z:List Int} (w:World) (h_t:Ms zJ 274 lo_t hi_t w a_t n_t c_t t) (h_z:Es (iv .i64) lo_z hi_z w a_z n_z c_z z) (hp0:¬zem n t=0) (hg0:Gl 0 [vI 45,vI 33] w) (hg1:Gl 1 (w8C zbm) w) (hg2:Gl 3 (zax kA) w) (hg3:Gl 2 [.iface 227 (.agg #[.pointer (some ⟨4,160,none⟩)])] w):
  Calls Tryz.prog 12 #[(vA [(.int .i64 n),(.slice a_t n_t c_t)]),(.slice a_z n_z c_z)] w (Ret fun r w'=>r=(.tuple #[(vA [(vI 0),(.slice none 0 0)]),(vI (zem n t))])∧Ext w w'):=by
 refine zC (n:=61) (σ:= [(0,(vA [(.int .i64 n),(.slice a_t n_t c_t)])),(1,(.slice a_z n_z c_z))]) Tryz.func12 rfl ?_
 replace h_t:=h_t.now;have hle_t:=h_t.le
 replace h_z:=h_z.now;have hle_z:=h_z.le
 have hgl0:=hg0.lt
 have hgl1:=hg1.lt
 have hgl2:=hg2.lt
 have hgl3:=hg3.lt
 refine ze (zd (za (zab (Instr.box 44 (vA [(.int .i64 n),(.slice a_t n_t c_t)])) (vP w.heap.size 0) ([(.int .i64 n),(.slice a_t n_t c_t)]) 44 ?_)))
 intro w1 hBw1 hEw1 hzw1 hlw1
 refine za (zaf ([(vI 0),(.slice none 0 0)]) 38 ?_)
 intro w2 hBw2 hEw2 hzw2 hlw2
 refine zc 1 [(5,(vI 0))] (zf (zb (ze (ze (zd (za (zT w.heap.size 0 ((hBw1.ext hEw2).all) ?_)))))))
 refine za (zq (zuH n _ ((h_t.ext hEw1).ext hEw2) ((hg0.ext hEw1).ext hEw2) ((hg1.ext hEw1).ext hEw2) ((hg2.ext hEw1).ext hEw2) ((hg3.ext hEw1).ext hEw2)) ?_)
 rintro _ w3 ⟨rfl,hEw3⟩
 have hzw3:=hEw3.size
 refine zc 1 [(6,(vI (zem n t)))] (zf (zb (ze (zd (zc 1 [(13,(vI (zem n t)))] (za (zah (some 14) (((zem n t:Nat):Int) !=((0:Nat):Int)) true (zcG) ?_)))))))
 refine zf (zb (zv (ze (zd (zc 2 [(16,(vI (zem n t))),(15,(vA [(vI 0),(.slice none 0 0)]))] (za (zG 38 w1.heap.size 0 38 (vA [(vI 0),(.slice none 0 0)]) ([(vI 0),(.slice none 0 0)]) ([(vI 0),(.slice none 0 0)]) (hBw2.ext hEw3) (by kernel_rfl) (by first | decide |(simp;done)|(simp;omega)) (by simp [Value.oneCell']) ?_)))))))
 intro w4 hBw4 hCw4
 have hzw4:=hCw4.size
 rw [zy _ _ (by kernel_rfl)] at hBw4
 refine zc 1 [(5,(vI (zem n t)))] (zf (zb (zj (zw (za6 (show zX Tryz.prog 61 _ _ (.cell 4 38) (vA [(vI 0),(.slice none 0 0)]) from ⟨⟨w1.heap.size,0,none⟩,(by kernel_rfl),zI (T:=38) (vs:= [(vI 0),(.slice none 0 0)]) (hBw4).all (by kernel_rfl)⟩) (show zX Tryz.prog 61 _ _ (.tmp 5) (vI (zem n t)) by (show _=_;kernel_rfl)) ?_)))))
 have hX1:Ext w w4:=(Ext.own ((hEw1.trans hEw2).trans hEw3) hCw4 (by omega))
 exact ⟨rfl,hX1⟩
theorem zzq (n:Int) {lo_t hi_t:Nat} {a_t:Option Addr} {n_t c_t:Nat} {t:List Nod} {lo_z hi_z:Nat} {a_z:Option Addr} {n_z c_z:Nat} {z:List Int} (w:World) (h_t:Ms zJ 274 lo_t hi_t w a_t n_t c_t t) (h_z:Es (iv .i64) lo_z hi_z w a_z n_z c_z z) (hp0:zem n t=0) (hp1:n_z≠n_t) (hg0:Gl 0 [vI 45,vI 33] w) (hg1:Gl 1 (w8C zbm) w) (hg2:Gl 3 (zax kA) w) (hg3:Gl 2 [.iface 227 (.agg #[.pointer (some ⟨4,160,none⟩)])] w):
  Calls Tryz.prog 12 #[(vA [(.int .i64 n),(.slice a_t n_t c_t)]),(.slice a_z n_z c_z)] w (Ret fun r w'=>r=(.tuple #[(vA [(vI 0),(.slice none 0 0)]),(vI 1)])∧Ext w w'):=by
 refine zC (n:=61) (σ:= [(0,(vA [(.int .i64 n),(.slice a_t n_t c_t)])),(1,(.slice a_z n_z c_z))]) Tryz.func12 rfl ?_
 replace h_t:=h_t.now;have hle_t:=h_t.le
 replace h_z:=h_z.now;have hle_z:=h_z.le
 have hgl0:=hg0.lt
 have hgl1:=hg1.lt
 have hgl2:=hg2.lt
 have hgl3:=hg3.lt
 refine ze (zd (za (zab (Instr.box 44 (vA [(.int .i64 n),(.slice a_t n_t c_t)])) (vP w.heap.size 0) ([(.int .i64 n),(.slice a_t n_t c_t)]) 44 ?_)))
 intro w1 hBw1 hEw1 hzw1 hlw1
 refine za (zaf ([(vI 0),(.slice none 0 0)]) 38 ?_)
 intro w2 hBw2 hEw2 hzw2 hlw2
 refine zc 1 [(5,(vI 0))] (zf (zb (ze (ze (zd (za (zT w.heap.size 0 ((hBw1.ext hEw2).all) ?_)))))))
 refine za (zq (zuH n _ ((h_t.ext hEw1).ext hEw2) ((hg0.ext hEw1).ext hEw2) ((hg1.ext hEw1).ext hEw2) ((hg2.ext hEw1).ext hEw2) ((hg3.ext hEw1).ext hEw2)) ?_)
 rintro _ w3 ⟨rfl,hEw3⟩
 have hzw3:=hEw3.size
 rw [show zem n t=0 from hp0]
 refine zc 1 [(6,(vI 0))] (zf (zb (ze (zd (zc 1 [(13,(vI 0))] (za (zah (some 14) (((0:Nat):Int) !=((0:Nat):Int)) false (zaE) ?_)))))))
 refine zf (zb (zh (zo (zb (ze (ze (zd (zc 3 [(19,(vP w.heap.size 1)),(18,(vI n_z)),(17,(.slice a_z n_z c_z))] (za (zl w.heap.size 1 (((hBw1.ext hEw2).ext hEw3).cell rfl) ?_))))))))))
 refine zc 1 [(21,(vI n_t))] (za (zah (some 22) (((n_z:Nat):Int) !=((n_t:Nat):Int)) true (zcG) ?_))
 refine zc 4 [(26,vT),(25,undef),(24,undef),(23,vT)] (zf (zb (zv (ze (zd (zc 1 [(27,(vA [(vI 0),(.slice none 0 0)]))] (za (zG 38 w1.heap.size 0 38 (vA [(vI 0),(.slice none 0 0)]) ([(vI 0),(.slice none 0 0)]) ([(vI 0),(.slice none 0 0)]) (hBw2.ext hEw3) (by kernel_rfl) (by first | decide |(simp;done)|(simp;omega)) (by simp [Value.oneCell']) ?_))))))))
 intro w4 hBw4 hCw4
 have hzw4:=hCw4.size
 rw [zy _ _ (by kernel_rfl)] at hBw4
 refine zc 1 [(5,(vI 1))] (zf (zb (zj (zw (za6 (show zX Tryz.prog 61 _ _ (.cell 4 38) (vA [(vI 0),(.slice none 0 0)]) from ⟨⟨w1.heap.size,0,none⟩,(by kernel_rfl),zI (T:=38) (vs:= [(vI 0),(.slice none 0 0)]) (hBw4).all (by kernel_rfl)⟩) (show zX Tryz.prog 61 _ _ (.tmp 5) (vI 1) by (show _=_;kernel_rfl)) ?_)))))
 have hX1:Ext w w4:=(Ext.own ((hEw1.trans hEw2).trans hEw3) hCw4 (by omega))
 exact ⟨rfl,hX1⟩
theorem zzA (n:Int) {lo_t hi_t:Nat} {a_t:Option Addr} {n_t c_t:Nat} {t:List Nod} {lo_z hi_z:Nat} {a_z:Option Addr} {n_z c_z:Nat} {z:List Int} (w:World) (h_t:Ms zJ 274 lo_t hi_t w a_t n_t c_t t) (h_z:Es (iv .i64) lo_z hi_z w a_z n_z c_z z) (hp0:zem n t=0) (hp1:n_z=n_t) (hp2:¬∀i,z.getD i 0=0∨z.getD i 0=1) (hg0:Gl 0 [vI 45,vI 33] w) (hg1:Gl 1 (w8C zbm) w) (hg2:Gl 3 (zax kA) w) (hg3:Gl 2 [.iface 227 (.agg #[.pointer (some ⟨4,160,none⟩)])] w):
  Calls Tryz.prog 12 #[(vA [(.int .i64 n),(.slice a_t n_t c_t)]),(.slice a_z n_z c_z)] w (Ret fun r w'=>r=(.tuple #[(vA [(vI 0),(.slice none 0 0)]),(vI 1)])∧Ext w w'):=by
 refine zC (n:=61) (σ:= [(0,(vA [(.int .i64 n),(.slice a_t n_t c_t)])),(1,(.slice a_z n_z c_z))]) Tryz.func12 rfl ?_
 replace h_t:=h_t.now;have hle_t:=h_t.le
 replace h_z:=h_z.now;have hle_z:=h_z.le
 have hgl0:=hg0.lt
 have hgl1:=hg1.lt
 have hgl2:=hg2.lt
 have hgl3:=hg3.lt
 refine ze (zd (za (zab (Instr.box 44 (vA [(.int .i64 n),(.slice a_t n_t c_t)])) (vP w.heap.size 0) ([(.int .i64 n),(.slice a_t n_t c_t)]) 44 ?_)))
 intro w1 hBw1 hEw1 hzw1 hlw1
 refine za (zaf ([(vI 0),(.slice none 0 0)]) 38 ?_)
 intro w2 hBw2 hEw2 hzw2 hlw2
 refine zc 1 [(5,(vI 0))] (zf (zb (ze (ze (zd (za (zT w.heap.size 0 ((hBw1.ext hEw2).all) ?_)))))))
 refine za (zq (zuH n _ ((h_t.ext hEw1).ext hEw2) ((hg0.ext hEw1).ext hEw2) ((hg1.ext hEw1).ext hEw2) ((hg2.ext hEw1).ext hEw2) ((hg3.ext hEw1).ext hEw2)) ?_)
 rintro _ w3 ⟨rfl,hEw3⟩
 have hzw3:=hEw3.size
 rw [show zem n t=0 from hp0]
 refine zc 1 [(6,(vI 0))] (zf (zb (ze (zd (zc 1 [(13,(vI 0))] (za (zah (some 14) (((0:Nat):Int) !=((0:Nat):Int)) false (zaE) ?_)))))))
 refine zf (zb (zh (zo (zb (ze (ze (zd (zc 3 [(19,(vP w.heap.size 1)),(18,(vI n_z)),(17,(.slice a_z n_z c_z))] (za (zl w.heap.size 1 (((hBw1.ext hEw2).ext hEw3).cell rfl) ?_))))))))))
 refine zc 1 [(21,(vI n_t))] (za (zah (some 22) (((n_z:Nat):Int) !=((n_t:Nat):Int)) false (zaE) ?_))
 refine zc 2 [(24,(.slice a_z n_z c_z)),(23,vF)] ?_
 have hK1:=(((h_z.ext hEw1).ext hEw2).ext hEw3)
 refine za (zq (zzx _ hK1 (hp2)) ?_)
 rintro _ w4 ⟨rfl,hEw4⟩
 have hzw4:=hEw4.size
 refine zc 1 [(26,vT)] (zf (zb (zv (ze (zd (zc 1 [(27,(vA [(vI 0),(.slice none 0 0)]))] (za (zG 38 w1.heap.size 0 38 (vA [(vI 0),(.slice none 0 0)]) ([(vI 0),(.slice none 0 0)]) ([(vI 0),(.slice none 0 0)]) ((hBw2.ext hEw3).ext hEw4) (by kernel_rfl) (by first | decide |(simp;done)|(simp;omega)) (by simp [Value.oneCell']) ?_))))))))
 intro w5 hBw5 hCw5
 have hzw5:=hCw5.size
 rw [zy _ _ (by kernel_rfl)] at hBw5
 refine zc 1 [(5,(vI 1))] (zf (zb (zj (zw (za6 (show zX Tryz.prog 61 _ _ (.cell 4 38) (vA [(vI 0),(.slice none 0 0)]) from ⟨⟨w1.heap.size,0,none⟩,(by kernel_rfl),zI (T:=38) (vs:= [(vI 0),(.slice none 0 0)]) (hBw5).all (by kernel_rfl)⟩) (show zX Tryz.prog 61 _ _ (.tmp 5) (vI 1) by (show _=_;kernel_rfl)) ?_)))))
 have hX1:Ext w w5:=(Ext.own (((hEw1.trans hEw2).trans hEw3).trans hEw4) hCw5 (by omega))
 exact ⟨rfl,hX1⟩
theorem zzE (n:Int) {lo_t hi_t:Nat} {a_t:Option Addr} {n_t c_t:Nat} {t:List Nod} {lo_z hi_z:Nat} {a_z:Option Addr} {n_z c_z:Nat} {z:List Int} (w:World) (h_t:Ms zJ 274 lo_t hi_t w a_t n_t c_t t) (h_z:Es (iv .i64) lo_z hi_z w a_z n_z c_z z) (hp0:¬zhQ n t z=0) (hg0:Gl 0 [vI 45,vI 33] w) (hg1:Gl 1 (w8C zbm) w) (hg2:Gl 3 (zax kA) w) (hg3:Gl 2 [.iface 227 (.agg #[.pointer (some ⟨4,160,none⟩)])] w):
  Calls Tryz.prog 12 #[(vA [(.int .i64 n),(.slice a_t n_t c_t)]),(.slice a_z n_z c_z)] w (Ret fun r w'=>r=(.tuple #[(vA [(vI 0),(.slice none 0 0)]),(vI (zhQ n t z))])∧Ext w w'):=by
 have hlt:=h_t.len_eq;have hlz:=h_z.len_eq
 by_cases h1:zem n t=0
 ·have he:zhQ n t z=if z.length=t.length∧slI z=true then zdm n (ofT t.length t z) else 1:=by unfold zhQ;rw [if_neg (fun hh=>hh h1)]
  by_cases h2:n_z=n_t
  ·by_cases h3:∀i,z.getD i 0=0∨z.getD i 0=1
   ·rw [if_pos ⟨by omega,zm0.2 h3⟩] at he
    have hv:1≤n∧n≤4096∧t.length=tot n.toNat:=Classical.byContradiction fun hh=>by rw [zqF hh] at h1;cases h1
    obtain ⟨m,rfl⟩:=Int.eq_ofNat_of_zero_le (show 0≤n by omega)
    have h6:=hv.2.2;rw [Int.toNat_natCast] at h6
    rw [zf5 (by omega) (by omega) h6] at h1
    rw [he] at hp0⊢;rw [←hlt] at hp0⊢;exact zzD m w h_t h_z (by omega) (by omega) (by omega) h1 h2 h3 hp0 hg0 hg1 hg2 hg3
   ·rw [if_neg (fun hh=>h3 (zm0.1 hh.2))] at he;rw [he];exact zzA n w h_t h_z h1 h2 h3 hg0 hg1 hg2 hg3
  ·rw [if_neg (fun hh=>h2 (by omega))] at he;rw [he];exact zzq n w h_t h_z h1 h2 hg0 hg1 hg2 hg3
 ·have he:zhQ n t z=zem n t:=if_pos h1
  rw [he];exact zzy n w h_t h_z h1 hg0 hg1 hg2 hg3
end Go.Proofs.YtkmhgepdhilllaaGreatDoor
namespace Go.Proofs.YtkmhgepdhilllaaGreatDoor
open Go Go.RowKit Go.Cs
set_option maxRecDepth 100000
end Go.Proofs.YtkmhgepdhilllaaGreatDoor
namespace Go.Proofs.YtkmhgepdhilllaaGreatDoor
open Go Go.RowKit Go.Cs
set_option maxRecDepth 100000
end Go.Proofs.YtkmhgepdhilllaaGreatDoor
namespace Go.Proofs.YtkmhgepdhilllaaGreatDoor
open Go Go.RowKit Go.Cs
set_option maxRecDepth 100000
end Go.Proofs.YtkmhgepdhilllaaGreatDoor
namespace Go.Proofs.YtkmhgepdhilllaaGreatDoor
open Go Go.RowKit Go.Cs
set_option maxRecDepth 100000
theorem zcD (k:Nat) (w:World) (hp0:k<256):
  Calls Tryz.prog 20 #[(vB k)] w (Ret fun r w'=>r=(vA (zbc (zbf k)))∧Ext w w'):=by
 refine zC (n:=9) (σ:= [(0,(vB k))]) Tryz.func20 rfl ?_
 refine ze (zd (za (zaf (zbc Non.zero) 56 ?_)))
 intro w1 hBw1 hEw1 hzw1 hlw1
 refine zf (zb (ze (zd (zc 1 [(3,(vB k))] (za (zn (some 4) .u8 (((k:Nat):Int).tmod ((4:Nat):Int)) (k%256%4) ((zcZ _ _).trans (by rw [Nat.mod_eq_of_lt hp0])) ?_))))))
 refine za (zn (some 5) .u32 (IntKind.u32.wrap ((k%256%4:Nat):Int)) (k%256%4) (zbA rfl rfl (by show _<2^32;omega)) ?_)
 refine zc 1 [(6,(vB k))] (za (zn (some 7) .u64 (IntKind.u64.wrap ((k:Nat):Int)) (k%256) (zbA rfl (by rw [Nat.mod_eq_of_lt hp0]) (by show _<2^64;omega)) ?_))
 refine zc 1 [(8,(vA (zbc (zbf k))))] (za (zG 56 w.heap.size 0 56 (vA (zbc (zbf k))) (zbc Non.zero) (zbc (zbf k)) hBw1 (by rw [ze4];kernel_rfl) (by first |(simp;done)|(simp;omega)) (zqZ _) ?_))
 intro w2 hBw2 hCw2
 have hzw2:=hCw2.size
 rw [zy _ _ (by simp)] at hBw2
 exact zf (zb (zj (zaI (show zX Tryz.prog 9 _ _ (.cell 2 56) (vA (zbc (zbf k))) from ⟨⟨w.heap.size,0,none⟩,(by kernel_rfl),zI (T:=56) (vs:=zbc (zbf k)) (hBw2).all (by rw [ze4];kernel_rfl)⟩) (⟨rfl,(Ext.own hEw1 hCw2 (by omega))⟩))))
end Go.Proofs.YtkmhgepdhilllaaGreatDoor
