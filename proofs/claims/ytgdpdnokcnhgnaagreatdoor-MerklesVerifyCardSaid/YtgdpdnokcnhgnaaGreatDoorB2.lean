/- Lemmas and walks: what each function does, by its own code. No condition beyond those of each statement. -/
import Derived.Test.YtgdpdnokcnhgnaaGreatDoorB1
set_option linter.all false
set_option linter.unusedVariables false
namespace Go.Proofs.YtgdpdnokcnhgnaaGreatDoor
open Go Go.RowKit Go.Cs
set_option maxRecDepth 100000
theorem zkT (n:Nat) (x:Nod) (w:World) (hp0:1≤n) (hp1:n≤4096):
  Calls Tryz.prog 69 #[(vI n),(vA (zN x))] w (Ret fun r w'=>r=(vI (zbt n x))∧Ext w w'):=by
 refine zK (n:=52) (σ:= [(0,(vI n)),(1,(vA (zN x)))]) Tryz.func69 rfl ?_
 have hlvx:=x.hlv
 have hixx:=x.hix
 have hcl:=zh2 x
 have h5:=zay n
 refine zf (ze (za (zz (some 3) (Instr.box 47 (vA (zN x))) (vP w.heap.size 0) (zN x) 47 ?_)))
 intro w1 hBw1 hEw1
 have hzw1:=hEw1.size;have hlw1:=hBw1.lt
 refine zd 1 [(4,(vI 0))] (zg (zb (zf (zf (ze (zd 1 [(10,(vI n))] (za (zk (some 11) (zkm n _ (by omega) (by omega)) ?_))))))))
 rintro _ _ ⟨rfl,rfl⟩
 refine zd 1 [(5,(vI 0))] (zg (zb (zf (ze (zd 2 [(13,vF),(12,(vI 0))] (zg (zb (zn (zA ?_)))))))))
 refine zb (zf (zf (ze (za (zi (some 15) (Instr.loadAt 47 (vP w.heap.size 0)) (vA (zN x)) (zI (vs:=zN x) (hBw1.all) (by rw [zac];kernel_rfl)) ?_)))))
 refine za (zk (some 16) (zhf x _) ?_)
 rintro _ w2 ⟨rfl,hEw2⟩
 have hzw2:=hEw2.size
 refine zd 1 [(6,(vI (zaq x)))] (zg (zb (zf (ze (zd 1 [(17,(vI (zaq x)))] (za (zG (some 18) ((((zaq x:Nat):Int) !=((0:Nat):Int))) (fun hc18=> ?_) (fun hc18=> ?_))))))))
 ·replace hc18:¬(zaq x=0):=by have:=zbK hc18;omega
  refine zg (zb (zx (zf (ze (zd 2 [(4,(vI (zaq x))),(19,(vI (zaq x)))] (zg (zb (zp (zj ?_)))))))))
  exact zv (vI (zaq x)) (⟨congrArg (fun z:Nat=>vI z) (zjp (by omega)),(hEw1.trans hEw2)⟩)
 ·replace hc18:zaq x=0:=by have:=zbH hc18;omega
  refine zg (zb (zn (zA (zb (zf (ze (zd 2 [(22,(vP w.heap.size 0)),(21,(vI n))] (za (zi (some 23) (Instr.loadAt 5 (vP w.heap.size 0)) (vB x.lv) (zo ((hBw1.ext hEw2).cell rfl)) ?_)))))))))
  refine za (zB (some 24) .i64 (IntKind.i64.wrap ((x.lv:Nat):Int)) x.lv (zF rfl (by omega) (by omega)) ?_)
  refine zd 1 [(25,(vP w.heap.size 1))] (za (zi (some 26) (Instr.loadAt 28 (vP w.heap.size 1)) (vW x.ix) (zo ((hBw1.ext hEw2).cell rfl)) ?_))
  refine za (zB (some 27) .i64 (IntKind.i64.wrap ((x.ix:Nat):Int)) x.ix (zF rfl (by omega) (by omega)) ?_)
  rcases Classical.em (x.lv≤hgt n∧x.ix<cnt n x.lv) with hin | hin
  ·have hcn:=zcN n x.lv
   refine za (zk (some 28) (zpg n x.lv x.ix _ (by first | omega |(simp only [Int.toNat_natCast];omega)) (by omega) (by omega) (by omega)) ?_)
   rintro _ w3 ⟨rfl,hEw3⟩
   have hzw3:=hEw3.size
   refine zd 5 [(8,(vI 0)),(7,(vI (prt n x.lv x.ix))),(30,(vI 0)),(29,(vI (prt n x.lv x.ix))),(20,(.tuple #[(vI (prt n x.lv x.ix)),(vI 0)]))] (zg (zb (zf (zf (ze (zd 2 [(32,vF),(31,(vI 0))] (zg (zb (zn ?_)))))))))
   refine zA (zb (zf (zf (ze (zd 2 [(9,(vI (prt n x.lv x.ix))),(33,(vI (prt n x.lv x.ix)))] (zg (zb (zJ (zaj (X:=Nat) (fun i=> [(9,(vI i))]) [4,34,35,36,37,38,39,40,41,42,43,44,45,46,47,48,49,50,51] (fun i w4=>prt n x.lv x.ix≤i∧i≤4∧(∀k,prt n x.lv x.ix≤k→k<i→(x.rs.get k).eqb Rec.zero=true∧(x.es.get k).eqb Ent.zero=true)∧Ext w1 w4) (fun i=>4-i) (prt n x.lv x.ix) (by kernel_rfl) ⟨Nat.le_refl _,zds _ _ _,fun k h1 h2=>absurd h1 (by omega),(hEw2.trans hEw3)⟩ ?_)))))))))
   rintro i dw4 w4 ⟨hpi,hi,hz,hEl⟩
   have hzl:=hEl.size
   refine zf (zf (ze (zd 1 [(34,(vI i))] (za (zG (some 35) (decide (((i:Nat):Int)<((4:Nat):Int))) (fun hc35=> ?_) (fun hc35=> ?_))))))
   ·replace hc35:i<4:=by have:=zal hc35;omega
    refine zg (zb (zx (zA (zb (zf (zJ (zf (ze (zd 2 [(39,(vP w.heap.size 2)),(38,(vI i))] ?_)))))))))
    refine za (zi (some 40) (Instr.indexAt 42 (vP w.heap.size 2) (vI i)) (vP w.heap.size (2+i*35)) (zW (E:=33) (sz:=35) (m:=4) (by omega)) ?_)
    refine za (zi (some 41) (Instr.loadAt 33 (vP w.heap.size (2+i*35))) (vA (zt (x.rs.get i))) (zI (vs:=zt (x.rs.get i)) ((hBw1.ext hEl).at (2+i*35) (zt (x.rs.get i)) (nod_r (by omega))) (by rw [zO];kernel_rfl)) ?_)
    refine zd 1 [(42,(vA (zt Rec.zero)))] ?_
    rcases Bool.eq_false_or_eq_true ((x.rs.get i).eqb Rec.zero) with hq43 | hq43
    ·refine za (zi (some 43) (bo .neq 33 (.tmp 41) (.tmp 42) (vA (zt (x.rs.get i))) (vA (zt Rec.zero))) vF (zar (r:=true) (T:=33) ((zbE (dd:=9997) (t:=33) (t8:=5) (tn:=31) (td:=23) (e:=5) (t32:=28) (t64:=29) (x.rs.get i) Rec.zero).trans (congrArg (fun b=>Result.ok b _) (show ((x.rs.get i).eqb Rec.zero)=true from hq43)))) ?_)
     refine zd 3 [(46,(vP w.heap.size 142)),(45,(vI i)),(44,vF)] (za (zi (some 47) (Instr.indexAt 45 (vP w.heap.size 142) (vI i)) (vP w.heap.size (142+i*33)) (zW (E:=44) (sz:=33) (m:=4) (by omega)) ?_))
     refine za (zi (some 48) (Instr.loadAt 44 (vP w.heap.size (142+i*33))) (vA (zaa (x.es.get i))) (zI (vs:=zaa (x.es.get i)) ((hBw1.ext hEl).at (142+i*33) (zaa (x.es.get i)) (nod_e (by omega))) (by rw [zaC];kernel_rfl)) ?_)
     refine zd 1 [(49,(vA (zaa Ent.zero)))] ?_
     rcases Bool.eq_false_or_eq_true ((x.es.get i).eqb Ent.zero) with hq50 | hq50
     ·refine za (zi (some 50) (bo .neq 44 (.tmp 48) (.tmp 49) (vA (zaa (x.es.get i))) (vA (zaa Ent.zero))) vF (zar (r:=true) (T:=44) ((zcc (dd:=9997) (t:=44) (t8:=5) (td:=23) (e:=5) (x.es.get i) Ent.zero).trans (congrArg (fun b=>Result.ok b _) (show ((x.es.get i).eqb Ent.zero)=true from hq50)))) ?_)
      refine zd 1 [(51,vF)] (zg (zb (zn (zA (zr (zb (ze (zd 1 [(36,(vI i))] (za (zB (some 37) .i64 (IntKind.i64.wrap (((i:Nat):Int)+((1:Nat):Int))) (i+1) (zF (by omega) (by omega) (by omega)) ?_))))))))))
      refine zd 1 [(9,(vI (i+1)))] (zg (zD (zR (i+1) ?_ ?_)))
      ·exact ⟨by omega,by omega,fun k h1 h2=>by rcases Nat.lt_or_ge k i with h3 | h3;exact hz k h1 h3;rw [show k=i by omega];exact ⟨hq43,hq50⟩,hEl⟩
      ·first | omega |(dsimp only;omega)
     ·refine za (zi (some 50) (bo .neq 44 (.tmp 48) (.tmp 49) (vA (zaa (x.es.get i))) (vA (zaa Ent.zero))) vT (zar (r:=false) (T:=44) ((zcc (dd:=9997) (t:=44) (t8:=5) (td:=23) (e:=5) (x.es.get i) Ent.zero).trans (congrArg (fun b=>Result.ok b _) (show ((x.es.get i).eqb Ent.zero)=false from hq50)))) ?_)
      refine zd 1 [(51,vT)] (zg (zb (zx (zf (ze (zd 1 [(4,(vI 17))] (zg (zb (zp ?_)))))))))
      exact zy (zj (zj (zy (zj (zv (vI 17) (⟨congrArg (fun z:Nat=>vI z) (by rw [zdG (by omega) hin,zjx hpi (by omega) hq50];rfl),(hEw1.trans hEl)⟩))))))
    ·refine za (zi (some 43) (bo .neq 33 (.tmp 41) (.tmp 42) (vA (zt (x.rs.get i))) (vA (zt Rec.zero))) vT (zar (r:=false) (T:=33) ((zbE (dd:=9997) (t:=33) (t8:=5) (tn:=31) (td:=23) (e:=5) (t32:=28) (t64:=29) (x.rs.get i) Rec.zero).trans (congrArg (fun b=>Result.ok b _) (show ((x.rs.get i).eqb Rec.zero)=false from hq43)))) ?_)
     refine zd 8 [(51,vT),(50,undef),(49,undef),(48,undef),(47,undef),(46,undef),(45,undef),(44,vT)] (zg (zb (zx (zf (ze (zd 1 [(4,(vI 17))] (zg (zb (zp ?_)))))))))
     exact zy (zj (zj (zy (zj (zv (vI 17) (⟨congrArg (fun z:Nat=>vI z) (by rw [zdG (by omega) hin,zjg hpi (by omega) hq43];rfl),(hEw1.trans hEl)⟩))))))
   ·replace hc35:¬(i<4):=by have:=zak hc35;omega
    refine zg (zb (zn (zag (zH (zH (zT (zb (zf (ze ?_)))))))))
    refine zd 1 [(4,(vI 0))] (zg (zb (zp (zv (vI 0) ?_))))
    obtain rfl:i=4:=by omega
    exact ⟨congrArg (fun z:Nat=>vI z) (by rw [zdG (by omega) hin,if_pos (zeb.2 hz)]),(hEw1.trans hEl)⟩
  ·refine za (zk (some 28) (zls ((n:Nat):Int) ((x.lv:Nat):Int) ((x.ix:Nat):Int) _ (by first | omega |(simp only [Int.toNat_natCast];omega))) ?_)
   rintro _ w5 ⟨rfl,hEw5⟩
   have hzw5:=hEw5.size
   refine zd 5 [(8,(vI 1)),(7,(vI 0)),(30,(vI 1)),(29,(vI 0)),(20,(.tuple #[(vI 0),(vI 1)]))] (zg (zb (zf (zf (ze (zd 2 [(32,vT),(31,(vI 1))] (zg (zb (zx ?_)))))))))
   exact zf (ze (zd 1 [(4,(vI 17))] (zg (zb (zp (zj (zv (vI 17) (⟨congrArg (fun z:Nat=>vI z) ((zj0 (by omega) hin).symm),((hEw1.trans hEw2).trans hEw5)⟩))))))))
theorem znX (n:Nat) (x:Nod) (w:World) (hp0:1≤n) (hp1:n≤4096):
  Calls Tryz.prog 41 #[(vI n),(vA (zN x))] w (Ret fun r w'=>r=(vI (zbt n x))∧Ext w w'):=by
 refine zK (n:=53) (σ:= [(0,(vI n)),(1,(vA (zN x)))]) Tryz.func41 rfl ?_
 have hlvx:=x.hlv
 have hixx:=x.hix
 have hcl:=zh2 x
 have h5:=zay n
 refine zf (ze (za (zz (some 3) (Instr.box 47 (vA (zN x))) (vP w.heap.size 0) (zN x) 47 ?_)))
 intro w1 hBw1 hEw1
 have hzw1:=hEw1.size;have hlw1:=hBw1.lt
 refine zd 1 [(4,(vI 0))] (zg (zb (zf (zf (ze (zd 1 [(7,(vI n))] (za (zai (some 8) (decide (((n:Nat):Int)<((1:Nat):Int))) false (zaK (by omega)) ?_))))))))
 refine zd 2 [(10,(vI n)),(9,vF)] (za (zai (some 11) (decide (((n:Nat):Int)>((4096:Nat):Int))) false (zaK (by omega)) ?_))
 refine zd 1 [(12,vF)] (zg (zb (zn (zA (zb (zf (ze (za (zi (some 13) (Instr.loadAt 47 (vP w.heap.size 0)) (vA (zN x)) (zI (vs:=zN x) (hBw1.all) (by rw [zac];kernel_rfl)) ?_)))))))))
 refine za (zk (some 14) (zl6 x _) ?_)
 rintro _ w2 ⟨rfl,hEw2⟩
 have hzw2:=hEw2.size
 refine zd 1 [(5,(vI (zaq x)))] (zg (zb (zf (zf (ze (zd 1 [(15,(vI (zaq x)))] (za (zG (some 16) ((((zaq x:Nat):Int) !=((0:Nat):Int))) (fun hc16=> ?_) (fun hc16=> ?_)))))))))
 ·replace hc16:¬(zaq x=0):=by have:=zbK hc16;omega
  refine zg (zb (zx (zf (ze (zd 2 [(4,(vI (zaq x))),(17,(vI (zaq x)))] (zg (zb (zp (zj ?_)))))))))
  exact zv (vI (zaq x)) (⟨congrArg (fun z:Nat=>vI z) (zjp (by omega)),(hEw1.trans hEw2)⟩)
 ·replace hc16:zaq x=0:=by have:=zbH hc16;omega
  refine zg (zb (zn (zA (zb (zf (zf (ze (zd 2 [(19,(vP w.heap.size 0)),(18,(vI n))] (za (zi (some 20) (Instr.loadAt 5 (vP w.heap.size 0)) (vB x.lv) (zo ((hBw1.ext hEw2).cell rfl)) ?_))))))))))
  refine za (zB (some 21) .i64 (IntKind.i64.wrap ((x.lv:Nat):Int)) x.lv (zF rfl (by omega) (by omega)) ?_)
  refine zd 1 [(22,(vP w.heap.size 1))] (za (zi (some 23) (Instr.loadAt 28 (vP w.heap.size 1)) (vW x.ix) (zo ((hBw1.ext hEw2).cell rfl)) ?_))
  refine za (zB (some 24) .i64 (IntKind.i64.wrap ((x.ix:Nat):Int)) x.ix (zF rfl (by omega) (by omega)) ?_)
  rcases Classical.em (x.lv≤hgt n∧x.ix<cnt n x.lv) with hin | hin
  ·have hcn:=zcN n x.lv
   refine za (zk (some 25) (zrG n x.lv x.ix _ (by omega) (by omega) (by first | omega |(simp only [Int.toNat_natCast];omega)) (by omega)) ?_)
   rintro _ _ ⟨rfl,rfl⟩
   refine zd 1 [(26,vF)] (zg (zb (zn (zA (zb (zf (zf (ze (zd 2 [(28,(vP w.heap.size 0)),(27,(vI n))] ?_)))))))))
   refine za (zi (some 29) (Instr.loadAt 5 (vP w.heap.size 0)) (vB x.lv) (zo ((hBw1.ext hEw2).cell rfl)) ?_)
   refine za (zB (some 30) .i64 (IntKind.i64.wrap ((x.lv:Nat):Int)) x.lv (zF rfl (by omega) (by omega)) ?_)
   refine zd 1 [(31,(vP w.heap.size 1))] (za (zi (some 32) (Instr.loadAt 28 (vP w.heap.size 1)) (vW x.ix) (zo ((hBw1.ext hEw2).cell rfl)) ?_))
   refine za (zB (some 33) .i64 (IntKind.i64.wrap ((x.ix:Nat):Int)) x.ix (zF rfl (by omega) (by omega)) ?_)
   refine za (zk (some 34) (znA n x.lv x.ix _ (by omega) (by omega) (by omega) (by omega)) ?_)
   rintro _ _ ⟨rfl,rfl⟩
   refine zd 1 [(6,(vI (prt n x.lv x.ix)))] (zg (zb (zJ (zaj (X:=Nat) (fun i=> [(6,(vI i))]) [4,35,36,37,38,39,40,41,42,43,44,45,46,47,48,49,50,51,52] (fun i w3=>prt n x.lv x.ix≤i∧i≤4∧(∀k,prt n x.lv x.ix≤k→k<i→(x.rs.get k).eqb Rec.zero=true∧(x.es.get k).eqb Ent.zero=true)∧Ext w1 w3) (fun i=>4-i) (prt n x.lv x.ix) (by kernel_rfl) ⟨Nat.le_refl _,zds _ _ _,fun k h1 h2=>absurd h1 (by omega),hEw2⟩ ?_))))
   rintro i dw3 w3 ⟨hpi,hi,hz,hEl⟩
   have hzl:=hEl.size
   refine zf (zf (ze (zd 1 [(35,(vI i))] (za (zG (some 36) (decide (((i:Nat):Int)<((4:Nat):Int))) (fun hc36=> ?_) (fun hc36=> ?_))))))
   ·replace hc36:i<4:=by have:=zal hc36;omega
    refine zg (zb (zx (zA (zb (zf (zJ (zf (ze (zd 2 [(40,(vP w.heap.size 2)),(39,(vI i))] ?_)))))))))
    refine za (zi (some 41) (Instr.indexAt 42 (vP w.heap.size 2) (vI i)) (vP w.heap.size (2+i*35)) (zW (E:=33) (sz:=35) (m:=4) (by omega)) ?_)
    refine za (zi (some 42) (Instr.loadAt 33 (vP w.heap.size (2+i*35))) (vA (zt (x.rs.get i))) (zI (vs:=zt (x.rs.get i)) ((hBw1.ext hEl).at (2+i*35) (zt (x.rs.get i)) (nod_r (by omega))) (by rw [zO];kernel_rfl)) ?_)
    refine zd 1 [(43,(vA (zt Rec.zero)))] ?_
    rcases Bool.eq_false_or_eq_true ((x.rs.get i).eqb Rec.zero) with hq44 | hq44
    ·refine za (zi (some 44) (bo .neq 33 (.tmp 42) (.tmp 43) (vA (zt (x.rs.get i))) (vA (zt Rec.zero))) vF (zar (r:=true) (T:=33) ((zbE (dd:=9997) (t:=33) (t8:=5) (tn:=31) (td:=23) (e:=5) (t32:=28) (t64:=29) (x.rs.get i) Rec.zero).trans (congrArg (fun b=>Result.ok b _) (show ((x.rs.get i).eqb Rec.zero)=true from hq44)))) ?_)
     refine zd 3 [(47,(vP w.heap.size 142)),(46,(vI i)),(45,vF)] (za (zi (some 48) (Instr.indexAt 45 (vP w.heap.size 142) (vI i)) (vP w.heap.size (142+i*33)) (zW (E:=44) (sz:=33) (m:=4) (by omega)) ?_))
     refine za (zi (some 49) (Instr.loadAt 44 (vP w.heap.size (142+i*33))) (vA (zaa (x.es.get i))) (zI (vs:=zaa (x.es.get i)) ((hBw1.ext hEl).at (142+i*33) (zaa (x.es.get i)) (nod_e (by omega))) (by rw [zaC];kernel_rfl)) ?_)
     refine zd 1 [(50,(vA (zaa Ent.zero)))] ?_
     rcases Bool.eq_false_or_eq_true ((x.es.get i).eqb Ent.zero) with hq51 | hq51
     ·refine za (zi (some 51) (bo .neq 44 (.tmp 49) (.tmp 50) (vA (zaa (x.es.get i))) (vA (zaa Ent.zero))) vF (zar (r:=true) (T:=44) ((zcc (dd:=9997) (t:=44) (t8:=5) (td:=23) (e:=5) (x.es.get i) Ent.zero).trans (congrArg (fun b=>Result.ok b _) (show ((x.es.get i).eqb Ent.zero)=true from hq51)))) ?_)
      refine zd 1 [(52,vF)] (zg (zb (zn (zA (zr (zb (ze (zd 1 [(37,(vI i))] (za (zB (some 38) .i64 (IntKind.i64.wrap (((i:Nat):Int)+((1:Nat):Int))) (i+1) (zF (by omega) (by omega) (by omega)) ?_))))))))))
      refine zd 1 [(6,(vI (i+1)))] (zg (zD (zR (i+1) ?_ ?_)))
      ·exact ⟨by omega,by omega,fun k h1 h2=>by rcases Nat.lt_or_ge k i with h3 | h3;exact hz k h1 h3;rw [show k=i by omega];exact ⟨hq44,hq51⟩,hEl⟩
      ·first | omega |(dsimp only;omega)
     ·refine za (zi (some 51) (bo .neq 44 (.tmp 49) (.tmp 50) (vA (zaa (x.es.get i))) (vA (zaa Ent.zero))) vT (zar (r:=false) (T:=44) ((zcc (dd:=9997) (t:=44) (t8:=5) (td:=23) (e:=5) (x.es.get i) Ent.zero).trans (congrArg (fun b=>Result.ok b _) (show ((x.es.get i).eqb Ent.zero)=false from hq51)))) ?_)
      refine zd 1 [(52,vT)] (zg (zb (zx (zf (ze (zd 1 [(4,(vI 17))] (zg (zb (zp ?_)))))))))
      exact zy (zj (zj (zy (zj (zv (vI 17) (⟨congrArg (fun z:Nat=>vI z) (by rw [zdG (by omega) hin,zjx hpi (by omega) hq51];rfl),(hEw1.trans hEl)⟩))))))
    ·refine za (zi (some 44) (bo .neq 33 (.tmp 42) (.tmp 43) (vA (zt (x.rs.get i))) (vA (zt Rec.zero))) vT (zar (r:=false) (T:=33) ((zbE (dd:=9997) (t:=33) (t8:=5) (tn:=31) (td:=23) (e:=5) (t32:=28) (t64:=29) (x.rs.get i) Rec.zero).trans (congrArg (fun b=>Result.ok b _) (show ((x.rs.get i).eqb Rec.zero)=false from hq44)))) ?_)
     refine zd 8 [(52,vT),(51,undef),(50,undef),(49,undef),(48,undef),(47,undef),(46,undef),(45,vT)] (zg (zb (zx (zf (ze (zd 1 [(4,(vI 17))] (zg (zb (zp ?_)))))))))
     exact zy (zj (zj (zy (zj (zv (vI 17) (⟨congrArg (fun z:Nat=>vI z) (by rw [zdG (by omega) hin,zjg hpi (by omega) hq44];rfl),(hEw1.trans hEl)⟩))))))
   ·replace hc36:¬(i<4):=by have:=zak hc36;omega
    refine zg (zb (zn (zag (zH (zH (zT (zb (zf (ze ?_)))))))))
    refine zd 1 [(4,(vI 0))] (zg (zb (zp (zv (vI 0) ?_))))
    obtain rfl:i=4:=by omega
    exact ⟨congrArg (fun z:Nat=>vI z) (by rw [zdG (by omega) hin,if_pos (zeb.2 hz)]),(hEw1.trans hEl)⟩
  ·refine za (zk (some 25) (znZ n ((x.lv:Nat):Int) ((x.ix:Nat):Int) _ (by omega) (by omega) (by first | omega |(simp only [Int.toNat_natCast];omega))) ?_)
   rintro _ _ ⟨rfl,rfl⟩
   refine zd 1 [(26,vT)] (zg (zb (zx (zf (ze (zd 1 [(4,(vI 17))] (zg (zb (zp ?_)))))))))
   exact zj (zv (vI 17) (⟨congrArg (fun z:Nat=>vI z) ((zj0 (by omega) hin).symm),(hEw1.trans hEw2)⟩))
end Go.Proofs.YtgdpdnokcnhgnaaGreatDoor
namespace Go.Proofs.YtgdpdnokcnhgnaaGreatDoor
open Go Go.RowKit Go.Cs
set_option maxRecDepth 100000
theorem zc0 (x:UInt32) (k:Nat) (w:World) (hp0:1≤k) (hp1:k≤31):
  Calls Tryz.prog 123 #[(vW x.toNat),(vI k)] w (Ret fun r w'=>r=(vW ((rr x k).toNat))∧w=w'):=by
 refine zK (n:=9) (σ:= [(0,(vW x.toNat)),(1,(vI k))]) Tryz.func123 rfl ?_
 refine zf (ze (zd 1 [(4,(vW 0))] (zg (zb (zf (ze (zd 2 [(6,(vI k)),(5,(vW x.toNat))] (za (zfF (some 7) .i64 (IntKind.i64.wrap (0-((k:Nat):Int))) (-((k:Nat):Int)) (zF (by omega) (by omega) (by omega)) ?_)))))))))
 refine za (zk (some 8) (zru x.toNat (-((k:Nat):Int)) _ (x.toNat_lt)) ?_)
 rintro _ _ ⟨rfl,rfl⟩
 refine zd 1 [(4,(vW (rot x.toNat (-((k:Nat):Int)))))] (zg (zb (zp (zv (vW (rot x.toNat (-((k:Nat):Int)))) ?_))))
 rw [zl3];exact ⟨rfl,rfl⟩
theorem zae (x:UInt32) (k:Nat) (w:World) (hp0:1≤k) (hp1:k≤31):
  Calls Tryz.prog 107 #[(vW x.toNat),(vI k)] w (Ret fun r w'=>r=(vW ((rr x k).toNat))∧Ext w w'):=by
 refine zK (n:=13) (σ:= [(0,(vW x.toNat)),(1,(vI k))]) Tryz.func107 rfl ?_
 refine zf (ze (zd 1 [(4,(vW 0))] (zg (zb (zf (zah (Ext w.drew) 9 [(6,1,0),(7,2,0),(8,96,3),(9,1,0),(10,2,0),(11,512,16),(12,1280,40),(13,2176,68),(5,4096,255)] (fun hT18=> ?_)))))))
 have hEw1:Ext w w.drew:=Ext.drew w
 generalize w.drew=w1 at hEw1⊢
 have hzw1:=hEw1.size
 refine zl hT18 [(0,5,(vW x.toNat)),(1,6,(vI k))] 2 3 (zh hT18 2 7 (some 7) (vW (x.toNat/2^k)) (zm (do eqGuard .shr 28 (.tmp 5) (.tmp 6) (.int .u32 ((x.toNat:Nat):Int)) (.int .i64 ((k:Nat):Int));binOp .shr 28 (.int .u32 ((x.toNat:Nat):Int)) (.int .i64 ((k:Nat):Int))) (fun w' hC=>zhT (by show _≤32;omega))) (zl hT18 [(3,8,(vW x.toNat)),(4,9,(vI k))] 2 31 (zh hT18 5 63 (some 10) (vI (32-k)) (zw .i64 (IntKind.i64.wrap (((32:Nat):Int)-((k:Nat):Int))) (zF (by omega) (by omega) (by omega))) (zh hT18 6 127 (some 11) (vW (x.toNat*2^(32-k)%2^32)) (zm (do eqGuard .shl 28 (.tmp 8) (.tmp 10) (.int .u32 ((x.toNat:Nat):Int)) (.int .i64 ((32-k:Nat):Int));binOp .shl 28 (.int .u32 ((x.toNat:Nat):Int)) (.int .i64 ((32-k:Nat):Int))) (fun w' hC=>zkC rfl (by show _≤32;omega))) (zh hT18 7 255 (some 12) (vW ((rr x k).toNat)) (zw .u32 ((IntKind.u32.wrap ((BitVec.ofInt IntKind.u32.bits ((x.toNat/2^k:Nat):Int)||| BitVec.ofInt IntKind.u32.bits ((x.toNat*2^(32-k)%2^32:Nat):Int)).toNat:Int))) ((orU .u32 rfl (by show _<2^32;exact Nat.lt_of_le_of_lt (Nat.div_le_self _ _) x.toNat_lt) (Nat.mod_lt _ (by decide))).trans (congrArg _ (zqD x hp0 hp1)))) (zl hT18 [(8,4,(vW ((rr x k).toNat)))] 1 511 (zL (zb (zp ?_)))))))))
 exact zv (vW ((rr x k).toNat)) (⟨rfl,hEw1⟩)
theorem zpz (b:B64) (w:World):
  Calls Tryz.prog 122 #[(vA (zck b))] w (Ret fun r w'=>r=(vA (zV (zc b.l 64)))∧Ext w w'):=by
 refine zK (n:=72) (σ:= [(0,(vA (zck b)))]) Tryz.func122 rfl ?_
 refine zf (ze (za (zz (some 1) (Instr.box 184 (vA (zck b))) (vP w.heap.size 0) (zck b) 184 ?_)))
 intro w1 hBw1 hEw1
 have hzw1:=hEw1.size;have hlw1:=hBw1.lt
 refine za (zz (some 2) (Instr.alloc 149 true (.tuple #[])) (vP w1.heap.size 0) (zV (WA.zero 64)) 149 ?_)
 intro w2 hBw2 hEw2
 have hzw2:=hEw2.size;have hlw2:=hBw2.lt
 refine zg (zb (zf (zf (ze (zd 1 [(9,(vI 0))] (zg (zb (zJ (zaj (X:=Nat) (fun i=> [(9,(vI i))]) [3,10,11,12,13,14,15,16,17,18,19,20,21,22,23,24,25,26,27] (fun i w3=>i≤16∧Blk w3 w.heap.size (zck b) 184∧Blk w3 w1.heap.size (zV (zc b.l i)) 149∧Ext w w3) (fun i=>16-i) 0 (by kernel_rfl) ⟨by omega,(hBw1.ext hEw2),hBw2,(hEw1.trans hEw2)⟩ ?_)))))))))
 rintro i dw3 w3 ⟨hi,hA,hB,hEl⟩
 have hzhEl:=hEl.size;have hlthA:=hA.lt;have hlthB:=hB.lt
 refine zf (ze (za (zG (some 10) (decide (((i:Nat):Int)<((16:Nat):Int))) (fun hc10=> ?_) (fun hc10=> ?_))))
 ·replace hc10:i<16:=by have:=zal hc10;omega
  refine zg (zb (zf (zx (zA (zb (zf (zJ (zf (ze ?_)))))))))
  refine zd 2 [(3,(vI i)),(11,(vI i))] (zg (zb (ze (zd 2 [(14,(vI i)),(13,(vI i))] (za (zB (some 15) .i64 (IntKind.i64.wrap (((4:Nat):Int)*((i:Nat):Int))) (4*i) (zF (by omega) (by omega) (by omega)) ?_))))))
  refine zd 1 [(16,(vI i))] (za (zB (some 17) .i64 (IntKind.i64.wrap (((4:Nat):Int)*((i:Nat):Int))) (4*i) (zF (by omega) (by omega) (by omega)) ?_))
  refine za (zB (some 18) .i64 (IntKind.i64.wrap (((4*i:Nat):Int)+((4:Nat):Int))) (4*i+4) (zF (by omega) (by omega) (by omega)) ?_)
  refine zd 1 [(19,(vI i))] (za (zB (some 20) .i64 (IntKind.i64.wrap (((4:Nat):Int)*((i:Nat):Int))) (4*i) (zF (by omega) (by omega) (by omega)) ?_))
  refine za (zB (some 21) .i64 (IntKind.i64.wrap (((4*i:Nat):Int)+((4:Nat):Int))) (4*i+4) (zF (by omega) (by omega) (by omega)) ?_)
  refine za (zi (some 22) (Instr.sliceAt 184 (vP w.heap.size 0) (some (vI (4*i))) (some (vI (4*i+4))) (some (vI (4*i+4)))) (.slice (pA w.heap.size (0+(4*i)*1)) (4*i+4-(4*i)) (4*i+4-(4*i))) (zgw (len:=64) (E:=5) (sz:=1) (l:=4*i) (r:=4*i+4) (m:=4*i+4) (.inr ⟨_,rfl⟩) (.inr ⟨_,rfl⟩) (.inr ⟨_,rfl⟩) (by simp) (by omega) (by omega) (by omega) (by omega)) ?_)
  have hSb:Bs w.heap.size (w.heap.size+1) w3 (pA w.heap.size (0+(4*i)*1)) (4*i+4-(4*i)) (4*i+4-(4*i)) ((b.l.drop (4*i)).take 4):=by have hq:=Bs.of_at (lo:=w.heap.size) (hi:=w.heap.size+1) (len:=4) (hA.at (4*i) (u8s ((b.l.drop (4*i)).take 4)) (zoa (by omega))) (hA).lt (by have:=b.h;simp;omega) (by decide) (by omega) (by omega);rw [show 4*i+4-4*i=4 from by omega,Nat.zero_add,Nat.mul_one];exact hq
  refine za (zk (some 23) (zpK _ hSb) ?_)
  rintro _ _ ⟨rfl,rfl⟩
  rw [show zaJ ((b.l.drop (4*i)).take 4) 4=(UInt32.ofNat (zaJ ((b.l.drop (4*i)).take 4) 4)).toNat from by rw [UInt32.toNat_ofNat',Nat.mod_eq_of_lt (zc2 _ 4)]]
  refine zd 3 [(25,(vI (zb9 ((b.l.drop (4*i)).take 4) 4))),(24,(vW ((UInt32.ofNat (zaJ ((b.l.drop (4*i)).take 4) 4)).toNat))),(12,(.tuple #[(vW ((UInt32.ofNat (zaJ ((b.l.drop (4*i)).take 4) 4)).toNat)),(vI (zb9 ((b.l.drop (4*i)).take 4) 4))]))] (za (zi (some 26) (Instr.indexAt 149 (vP w1.heap.size 0) (vI i)) (vP w1.heap.size (0+i*1)) (zW (E:=28) (sz:=1) (m:=64) (by omega)) ?_))
  refine za (zY 28 w1.heap.size (0+i*1) 149 (vW ((UInt32.ofNat (zaJ ((b.l.drop (4*i)).take 4) 4)).toNat)) (zV (zc b.l i)) hB (by first | decide |(simp;done)|(simp;omega)) ?_)
  intro w4 hBw4 hCw4
  have hzw4:=hCw4.size
  rw [show ((zV (zc b.l i)).set (0+i*1) (vW ((UInt32.ofNat (zaJ ((b.l.drop (4*i)).take 4) 4)).toNat)):List Value)=zV ((zc b.l i).set i (UInt32.ofNat (zaJ ((b.l.drop (4*i)).take 4) 4))) from zaG i (UInt32.ofNat (zaJ ((b.l.drop (4*i)).take 4) 4))] at hBw4
  refine zg (zr (zb (ze (za (zB (some 27) .i64 (IntKind.i64.wrap (((i:Nat):Int)+((1:Nat):Int))) (i+1) (zF (by omega) (by omega) (by omega)) ?_)))))
  refine zd 1 [(9,(vI (i+1)))] (zg (zD (zR (i+1) ?_ ?_)))
  ·exact ⟨by omega,((hA).chg hCw4 (fun hs=>by have h:_=_:=hs;omega)),by have hz:=hBw4;rwa [show (zc b.l i).set i _=zc b.l (i+1) from ziQ (by omega) rfl] at hz,(Ext.own hEl hCw4 (by omega))⟩
  ·first | omega |(dsimp only;omega)
 ·replace hc10:¬(i<16):=by have:=zak hc10;omega
  refine zg (zb (zf (zn (zag (zH (zH (zT (zb (zf ?_)))))))))
  refine zf (ze (zd 1 [(4,(vI 16))] (zg (zb (zJ ?_)))))
  obtain rfl:i=16:=by omega
  refine zaj (X:=Nat) (fun t=> [(4,(vI t))]) [5,6,7,8,28,29,30,31,32,33,34,35,36,37,38,39,40,41,42,43,44,45,46,47,48,49,50,51,52,53,54,55,56,57,58,59,60,61,62,63,64,65,66,67,68,69,70] (fun t w5=>16≤t∧t≤64∧Blk w5 w.heap.size (zck b) 184∧Blk w5 w1.heap.size (zV (zc b.l t)) 149∧Ext w w5) (fun t=>64-t) 16 (by kernel_rfl) ⟨by omega,by omega,hA,hB,hEl⟩ ?_
  rintro t dw5 w5 ⟨hlt,ht,hC,hD,hEm⟩
  have hzhEm:=hEm.size;have hlthC:=hC.lt;have hlthD:=hD.lt
  refine zf (zf (ze (zd 1 [(28,(vI t))] (za (zG (some 29) (decide (((t:Nat):Int)<((64:Nat):Int))) (fun hc29=> ?_) (fun hc29=> ?_))))))
  ·replace hc29:t<64:=by have:=zal hc29;omega
   refine zg (zb (zx (zA (zb (zf (zJ (zf (zah (Ext w5.drew) 10 [(33,16,0),(34,4294967296,1),(35,8589934596,2),(36,17179869184,4),(37,16,0),(38,68719476736,16),(39,137438953476,32),(40,274877906944,64),(6,34359738368,15),(7,549755813888,511)] (fun hT125=> ?_)))))))))
   have hEw6:Ext w5 w5.drew:=Ext.drew w5
   generalize w5.drew=w6 at hEw6⊢
   have hzw6:=hEw6.size
   refine zl hT125 [(0,32,(vI t))] 1 1 (zh hT125 1 3 (some 33) (vI (t-15)) (zw .i64 (IntKind.i64.wrap (((t:Nat):Int)-((15:Nat):Int))) (zF (by omega) (by omega) (by omega))) (zh hT125 2 7 (some 34) (vP w1.heap.size (0+(t-15)*1)) (zm (Instr.indexAt 149 (vP w1.heap.size 0) (vI (t-15))) (fun w' hC=>zW (E:=28) (sz:=1) (m:=64) (by omega))) (zh hT125 3 15 (some 35) (vW (((zc b.l t).get (t-15)).toNat)) (zm (Instr.loadAt 28 (vP w1.heap.size (0+(t-15)*1))) (fun w' hC=>zo (((hD.ext hEw6).ext hC).cell (zan (t-15) (by omega))))) (zl hT125 [(4,36,(vI t))] 1 31 (zh hT125 5 63 (some 37) (vI (t-2)) (zw .i64 (IntKind.i64.wrap (((t:Nat):Int)-((2:Nat):Int))) (zF (by omega) (by omega) (by omega))) (zh hT125 6 127 (some 38) (vP w1.heap.size (0+(t-2)*1)) (zm (Instr.indexAt 149 (vP w1.heap.size 0) (vI (t-2))) (fun w' hC=>zW (E:=28) (sz:=1) (m:=64) (by omega))) (zh hT125 7 255 (some 39) (vW (((zc b.l t).get (t-2)).toNat)) (zm (Instr.loadAt 28 (vP w1.heap.size (0+(t-2)*1))) (fun w' hC=>zo (((hD.ext hEw6).ext hC).cell (zan (t-2) (by omega))))) (zl hT125 [(8,5,(vW (((zc b.l t).get (t-15)).toNat))),(9,6,(vW (((zc b.l t).get (t-2)).toNat)))] 2 1023 (zL ?_)))))))))
   refine zb (zf (ze (zd 1 [(40,(vW (((zc b.l t).get (t-15)).toNat)))] (za (zk (some 41) (zc0 ((zc b.l t).get (t-15)) 7 _ (by decide) (by decide)) ?_)))))
   rintro _ _ ⟨rfl,rfl⟩
   refine zd 1 [(42,(vW (((zc b.l t).get (t-15)).toNat)))] (za (zk (some 43) (zc0 ((zc b.l t).get (t-15)) 18 _ (by decide) (by decide)) ?_))
   rintro _ _ ⟨rfl,rfl⟩
   refine za (zB (some 44) .u32 ((IntKind.u32.wrap ((BitVec.ofInt IntKind.u32.bits (((rr ((zc b.l t).get (t-15)) 7).toNat:Nat):Int)^^^BitVec.ofInt IntKind.u32.bits (((rr ((zc b.l t).get (t-15)) 18).toNat:Nat):Int)).toNat:Int))) (((rr ((zc b.l t).get (t-15)) 7)^^^(rr ((zc b.l t).get (t-15)) 18)).toNat) (zZ (rr ((zc b.l t).get (t-15)) 7) (rr ((zc b.l t).get (t-15)) 18)) ?_)
   refine zd 1 [(45,(vW (((zc b.l t).get (t-15)).toNat)))] (za (zB (some 46) .u32 (((((zc b.l t).get (t-15)).toNat:Nat):Int).fdiv (2^3)) ((((zc b.l t).get (t-15))>>>UInt32.ofNat 3).toNat) (zhH ((zc b.l t).get (t-15)) 3 (by decide)) ?_))
   refine za (zB (some 47) .u32 ((IntKind.u32.wrap ((BitVec.ofInt IntKind.u32.bits ((((rr ((zc b.l t).get (t-15)) 7)^^^(rr ((zc b.l t).get (t-15)) 18)).toNat:Nat):Int)^^^BitVec.ofInt IntKind.u32.bits (((((zc b.l t).get (t-15))>>>UInt32.ofNat 3).toNat:Nat):Int)).toNat:Int))) ((((rr ((zc b.l t).get (t-15)) 7)^^^(rr ((zc b.l t).get (t-15)) 18))^^^(((zc b.l t).get (t-15))>>>UInt32.ofNat 3)).toNat) (zZ ((rr ((zc b.l t).get (t-15)) 7)^^^(rr ((zc b.l t).get (t-15)) 18)) (((zc b.l t).get (t-15))>>>UInt32.ofNat 3)) ?_)
   refine zd 1 [(7,(vW ((((rr ((zc b.l t).get (t-15)) 7)^^^(rr ((zc b.l t).get (t-15)) 18))^^^(((zc b.l t).get (t-15))>>>UInt32.ofNat 3)).toNat)))] (zg (zb (zf (ze (zd 1 [(48,(vW (((zc b.l t).get (t-2)).toNat)))] (za (zk (some 49) (zc0 ((zc b.l t).get (t-2)) 17 _ (by decide) (by decide)) ?_)))))))
   rintro _ _ ⟨rfl,rfl⟩
   refine zd 1 [(50,(vW (((zc b.l t).get (t-2)).toNat)))] (za (zk (some 51) (zc0 ((zc b.l t).get (t-2)) 19 _ (by decide) (by decide)) ?_))
   rintro _ _ ⟨rfl,rfl⟩
   refine za (zB (some 52) .u32 ((IntKind.u32.wrap ((BitVec.ofInt IntKind.u32.bits (((rr ((zc b.l t).get (t-2)) 17).toNat:Nat):Int)^^^BitVec.ofInt IntKind.u32.bits (((rr ((zc b.l t).get (t-2)) 19).toNat:Nat):Int)).toNat:Int))) (((rr ((zc b.l t).get (t-2)) 17)^^^(rr ((zc b.l t).get (t-2)) 19)).toNat) (zZ (rr ((zc b.l t).get (t-2)) 17) (rr ((zc b.l t).get (t-2)) 19)) ?_)
   refine zd 1 [(53,(vW (((zc b.l t).get (t-2)).toNat)))] (za (zB (some 54) .u32 (((((zc b.l t).get (t-2)).toNat:Nat):Int).fdiv (2^10)) ((((zc b.l t).get (t-2))>>>UInt32.ofNat 10).toNat) (zhH ((zc b.l t).get (t-2)) 10 (by decide)) ?_))
   refine za (zB (some 55) .u32 ((IntKind.u32.wrap ((BitVec.ofInt IntKind.u32.bits ((((rr ((zc b.l t).get (t-2)) 17)^^^(rr ((zc b.l t).get (t-2)) 19)).toNat:Nat):Int)^^^BitVec.ofInt IntKind.u32.bits (((((zc b.l t).get (t-2))>>>UInt32.ofNat 10).toNat:Nat):Int)).toNat:Int))) ((((rr ((zc b.l t).get (t-2)) 17)^^^(rr ((zc b.l t).get (t-2)) 19))^^^(((zc b.l t).get (t-2))>>>UInt32.ofNat 10)).toNat) (zZ ((rr ((zc b.l t).get (t-2)) 17)^^^(rr ((zc b.l t).get (t-2)) 19)) (((zc b.l t).get (t-2))>>>UInt32.ofNat 10)) ?_)
   refine zd 1 [(8,(vW ((((rr ((zc b.l t).get (t-2)) 17)^^^(rr ((zc b.l t).get (t-2)) 19))^^^(((zc b.l t).get (t-2))>>>UInt32.ofNat 10)).toNat)))] (zg (zb (zah (Chg (fun k=>k=w1.heap.size) w6.drew) 16 [(57,16,0),(58,256,0),(59,16,0),(60,288230376151711744,4),(61,576460752303423492,8),(62,1152921504606846976,16),(63,2449958197289549824,34),(64,128,0),(65,13835058055282163712,192),(66,16,0),(67,36893488147419103232,512),(68,73786976294838206468,1024),(69,147573952589676412928,2048),(70,313594649253062377472,4352),(71,72057594037927940,16383),(0,1770887431076116955136,32767)] (fun hT170=> ?_))))
   have hEw7:Ext w6 w6.drew:=Ext.drew w6
   generalize w6.drew=w7 at hEw7⊢
   have hzw7:=hEw7.size
   refine zl (hw:=show Chg (fun k=>k=w1.heap.size) w7 w7 from (Chg.refl (fun k=>k=w1.heap.size) w7)) hT170 [(0,56,(vI t)),(1,57,(vW ((((rr ((zc b.l t).get (t-2)) 17)^^^(rr ((zc b.l t).get (t-2)) 19))^^^(((zc b.l t).get (t-2))>>>UInt32.ofNat 10)).toNat))),(2,58,(vI t))] 3 7 (zh (hw:=show Chg (fun k=>k=w1.heap.size) w7 w7 from (Chg.refl (fun k=>k=w1.heap.size) w7)) hT170 3 15 (some 59) (vI (t-7)) (zw .i64 (IntKind.i64.wrap (((t:Nat):Int)-((7:Nat):Int))) (zF (by omega) (by omega) (by omega))) (zh (hw:=show Chg (fun k=>k=w1.heap.size) w7 w7 from (Chg.refl (fun k=>k=w1.heap.size) w7)) hT170 4 31 (some 60) (vP w1.heap.size (0+(t-7)*1)) (zm (Instr.indexAt 149 (vP w1.heap.size 0) (vI (t-7))) (fun w' hC=>zW (E:=28) (sz:=1) (m:=64) (by omega))) (zl (hw:=show Chg (fun k=>k=w1.heap.size) w7 w7 from (Chg.refl (fun k=>k=w1.heap.size) w7)) hT170 [(7,63,(vW ((((rr ((zc b.l t).get (t-15)) 7)^^^(rr ((zc b.l t).get (t-15)) 18))^^^(((zc b.l t).get (t-15))>>>UInt32.ofNat 3)).toNat))),(9,65,(vI t))] 2 671 (zh (hw:=show Chg (fun k=>k=w1.heap.size) w7 w7 from (Chg.refl (fun k=>k=w1.heap.size) w7)) hT170 10 1695 (some 66) (vI (t-16)) (zw .i64 (IntKind.i64.wrap (((t:Nat):Int)-((16:Nat):Int))) (zF (by omega) (by omega) (by omega))) ?_))))
   refine zh (hw:=show Chg (fun k=>k=w1.heap.size) w7 w7 from (Chg.refl (fun k=>k=w1.heap.size) w7)) hT170 11 3743 (some 67) (vP w1.heap.size (0+(t-16)*1)) (zm (Instr.indexAt 149 (vP w1.heap.size 0) (vI (t-16))) (fun w' hC=>zW (E:=28) (sz:=1) (m:=64) (by omega))) (zaB 5 12 3775 7839 ?_ ?_)
   ·refine zi (some 61) (Instr.loadAt 28 (vP w1.heap.size (0+(t-7)*1))) (vW (((zc b.l t).get (t-7)).toNat)) (zo ((((hD.ext hEw6)).ext hEw7).cell (zan (t-7) (by omega)))) (⟨.inr (Chg.refl (fun k=>k=w1.heap.size) w7), ?_⟩)
    refine zh (hw:=show Chg (fun k=>k=w1.heap.size) w7 w7 from (Chg.refl (fun k=>k=w1.heap.size) w7)) hT170 6 3839 (some 62) (vW (((((rr ((zc b.l t).get (t-2)) 17)^^^(rr ((zc b.l t).get (t-2)) 19))^^^(((zc b.l t).get (t-2))>>>UInt32.ofNat 10))+((zc b.l t).get (t-7))).toNat)) (zw .u32 _ (zU (((rr ((zc b.l t).get (t-2)) 17)^^^(rr ((zc b.l t).get (t-2)) 19))^^^(((zc b.l t).get (t-2))>>>UInt32.ofNat 10)) ((zc b.l t).get (t-7)))) (zh (hw:=show Chg (fun k=>k=w1.heap.size) w7 w7 from (Chg.refl (fun k=>k=w1.heap.size) w7)) hT170 8 4095 (some 64) (vW ((((((rr ((zc b.l t).get (t-2)) 17)^^^(rr ((zc b.l t).get (t-2)) 19))^^^(((zc b.l t).get (t-2))>>>UInt32.ofNat 10))+((zc b.l t).get (t-7)))+(((rr ((zc b.l t).get (t-15)) 7)^^^(rr ((zc b.l t).get (t-15)) 18))^^^(((zc b.l t).get (t-15))>>>UInt32.ofNat 3))).toNat)) (zw .u32 _ (zU ((((rr ((zc b.l t).get (t-2)) 17)^^^(rr ((zc b.l t).get (t-2)) 19))^^^(((zc b.l t).get (t-2))>>>UInt32.ofNat 10))+((zc b.l t).get (t-7))) (((rr ((zc b.l t).get (t-15)) 7)^^^(rr ((zc b.l t).get (t-15)) 18))^^^(((zc b.l t).get (t-15))>>>UInt32.ofNat 3)))) (zu 12 8191 (zi (some 68) (Instr.loadAt 28 (vP w1.heap.size (0+(t-16)*1))) (vW (((zc b.l t).get (t-16)).toNat)) (zo ((((hD.ext hEw6)).ext hEw7).cell (zan (t-16) (by omega)))) ?_)))
    refine ⟨.inr (Chg.refl (fun k=>k=w1.heap.size) w7), ?_⟩
    refine zh (hw:=show Chg (fun k=>k=w1.heap.size) w7 w7 from (Chg.refl (fun k=>k=w1.heap.size) w7)) hT170 13 16383 (some 69) (vW (((((((rr ((zc b.l t).get (t-2)) 17)^^^(rr ((zc b.l t).get (t-2)) 19))^^^(((zc b.l t).get (t-2))>>>UInt32.ofNat 10))+((zc b.l t).get (t-7)))+(((rr ((zc b.l t).get (t-15)) 7)^^^(rr ((zc b.l t).get (t-15)) 18))^^^(((zc b.l t).get (t-15))>>>UInt32.ofNat 3)))+((zc b.l t).get (t-16))).toNat)) (zw .u32 _ (zU (((((rr ((zc b.l t).get (t-2)) 17)^^^(rr ((zc b.l t).get (t-2)) 19))^^^(((zc b.l t).get (t-2))>>>UInt32.ofNat 10))+((zc b.l t).get (t-7)))+(((rr ((zc b.l t).get (t-15)) 7)^^^(rr ((zc b.l t).get (t-15)) 18))^^^(((zc b.l t).get (t-15))>>>UInt32.ofNat 3))) ((zc b.l t).get (t-16)))) (zh (hw:=show Chg (fun k=>k=w1.heap.size) w7 w7 from (Chg.refl (fun k=>k=w1.heap.size) w7)) hT170 14 32767 (some 70) (vP w1.heap.size (0+t*1)) (zm (Instr.indexAt 149 (vP w1.heap.size 0) (vI t)) (fun w' hC=>zW (E:=28) (sz:=1) (m:=64) (by omega))) ?_)
    refine zu 15 65535 (zY 28 w1.heap.size (0+t*1) 149 (vW (((((((rr ((zc b.l t).get (t-2)) 17)^^^(rr ((zc b.l t).get (t-2)) 19))^^^(((zc b.l t).get (t-2))>>>UInt32.ofNat 10))+((zc b.l t).get (t-7)))+(((rr ((zc b.l t).get (t-15)) 7)^^^(rr ((zc b.l t).get (t-15)) 18))^^^(((zc b.l t).get (t-15))>>>UInt32.ofNat 3)))+((zc b.l t).get (t-16))).toNat)) (zV (zc b.l t)) (((hD.ext hEw6)).ext hEw7) (by first | decide |(simp;done)|(simp;omega)) ?_)
    intro w8 hBw8 hCw8
    have hzw8:=hCw8.size
    rw [show ((zV (zc b.l t)).set (0+t*1) (vW (((((((rr ((zc b.l t).get (t-2)) 17)^^^(rr ((zc b.l t).get (t-2)) 19))^^^(((zc b.l t).get (t-2))>>>UInt32.ofNat 10))+((zc b.l t).get (t-7)))+(((rr ((zc b.l t).get (t-15)) 7)^^^(rr ((zc b.l t).get (t-15)) 18))^^^(((zc b.l t).get (t-15))>>>UInt32.ofNat 3)))+((zc b.l t).get (t-16))).toNat)):List Value)=zV ((zc b.l t).set t ((((((rr ((zc b.l t).get (t-2)) 17)^^^(rr ((zc b.l t).get (t-2)) 19))^^^(((zc b.l t).get (t-2))>>>UInt32.ofNat 10))+((zc b.l t).get (t-7)))+(((rr ((zc b.l t).get (t-15)) 7)^^^(rr ((zc b.l t).get (t-15)) 18))^^^(((zc b.l t).get (t-15))>>>UInt32.ofNat 3)))+((zc b.l t).get (t-16)))) from zaG t ((((((rr ((zc b.l t).get (t-2)) 17)^^^(rr ((zc b.l t).get (t-2)) 19))^^^(((zc b.l t).get (t-2))>>>UInt32.ofNat 10))+((zc b.l t).get (t-7)))+(((rr ((zc b.l t).get (t-15)) 7)^^^(rr ((zc b.l t).get (t-15)) 18))^^^(((zc b.l t).get (t-15))>>>UInt32.ofNat 3)))+((zc b.l t).get (t-16)))] at hBw8
    refine ⟨.inl (by kernel_rfl), ?_⟩
    refine zL (zr (zb (ze (zd 1 [(30,(vI t))] (za (zB (some 31) .i64 (IntKind.i64.wrap (((t:Nat):Int)+((1:Nat):Int))) (t+1) (zF (by omega) (by omega) (by omega)) ?_))))))
    refine zd 1 [(4,(vI (t+1)))] (zg (zD ?_))
    have hK1:=(((((hC.ext hEw6)).ext hEw7)).chg hCw8 (fun hs=>by have h:_=_:=hs;omega))
    have hX1:Ext w w8:=(Ext.own ((hEm.trans hEw6).trans hEw7) hCw8 (by omega))
    refine zR (t+1) ?_ ?_
    ·exact ⟨by omega,by omega,hK1,by have hz:=hBw8;rwa [show (zc b.l t).set t _=zc b.l (t+1) from zaA (by omega) (by unfold zbq zbo;ac_rfl)] at hz,hX1⟩
    ·first | omega |(dsimp only;omega)
   ·refine zi (some 68) (Instr.loadAt 28 (vP w1.heap.size (0+(t-16)*1))) (vW (((zc b.l t).get (t-16)).toNat)) (zo ((((hD.ext hEw6)).ext hEw7).cell (zan (t-16) (by omega)))) (⟨.inr (Chg.refl (fun k=>k=w1.heap.size) w7), ?_⟩)
    refine zu 5 7871 (zi (some 61) (Instr.loadAt 28 (vP w1.heap.size (0+(t-7)*1))) (vW (((zc b.l t).get (t-7)).toNat)) (zo ((((hD.ext hEw6)).ext hEw7).cell (zan (t-7) (by omega)))) ?_)
    refine ⟨.inr (Chg.refl (fun k=>k=w1.heap.size) w7), ?_⟩
    refine zh (hw:=show Chg (fun k=>k=w1.heap.size) w7 w7 from (Chg.refl (fun k=>k=w1.heap.size) w7)) hT170 6 7935 (some 62) (vW (((((rr ((zc b.l t).get (t-2)) 17)^^^(rr ((zc b.l t).get (t-2)) 19))^^^(((zc b.l t).get (t-2))>>>UInt32.ofNat 10))+((zc b.l t).get (t-7))).toNat)) (zw .u32 _ (zU (((rr ((zc b.l t).get (t-2)) 17)^^^(rr ((zc b.l t).get (t-2)) 19))^^^(((zc b.l t).get (t-2))>>>UInt32.ofNat 10)) ((zc b.l t).get (t-7)))) (zh (hw:=show Chg (fun k=>k=w1.heap.size) w7 w7 from (Chg.refl (fun k=>k=w1.heap.size) w7)) hT170 8 8191 (some 64) (vW ((((((rr ((zc b.l t).get (t-2)) 17)^^^(rr ((zc b.l t).get (t-2)) 19))^^^(((zc b.l t).get (t-2))>>>UInt32.ofNat 10))+((zc b.l t).get (t-7)))+(((rr ((zc b.l t).get (t-15)) 7)^^^(rr ((zc b.l t).get (t-15)) 18))^^^(((zc b.l t).get (t-15))>>>UInt32.ofNat 3))).toNat)) (zw .u32 _ (zU ((((rr ((zc b.l t).get (t-2)) 17)^^^(rr ((zc b.l t).get (t-2)) 19))^^^(((zc b.l t).get (t-2))>>>UInt32.ofNat 10))+((zc b.l t).get (t-7))) (((rr ((zc b.l t).get (t-15)) 7)^^^(rr ((zc b.l t).get (t-15)) 18))^^^(((zc b.l t).get (t-15))>>>UInt32.ofNat 3)))) ?_)
    refine zh (hw:=show Chg (fun k=>k=w1.heap.size) w7 w7 from (Chg.refl (fun k=>k=w1.heap.size) w7)) hT170 13 16383 (some 69) (vW (((((((rr ((zc b.l t).get (t-2)) 17)^^^(rr ((zc b.l t).get (t-2)) 19))^^^(((zc b.l t).get (t-2))>>>UInt32.ofNat 10))+((zc b.l t).get (t-7)))+(((rr ((zc b.l t).get (t-15)) 7)^^^(rr ((zc b.l t).get (t-15)) 18))^^^(((zc b.l t).get (t-15))>>>UInt32.ofNat 3)))+((zc b.l t).get (t-16))).toNat)) (zw .u32 _ (zU (((((rr ((zc b.l t).get (t-2)) 17)^^^(rr ((zc b.l t).get (t-2)) 19))^^^(((zc b.l t).get (t-2))>>>UInt32.ofNat 10))+((zc b.l t).get (t-7)))+(((rr ((zc b.l t).get (t-15)) 7)^^^(rr ((zc b.l t).get (t-15)) 18))^^^(((zc b.l t).get (t-15))>>>UInt32.ofNat 3))) ((zc b.l t).get (t-16)))) (zh (hw:=show Chg (fun k=>k=w1.heap.size) w7 w7 from (Chg.refl (fun k=>k=w1.heap.size) w7)) hT170 14 32767 (some 70) (vP w1.heap.size (0+t*1)) (zm (Instr.indexAt 149 (vP w1.heap.size 0) (vI t)) (fun w' hC=>zW (E:=28) (sz:=1) (m:=64) (by omega))) ?_)
    refine zu 15 65535 (zY 28 w1.heap.size (0+t*1) 149 (vW (((((((rr ((zc b.l t).get (t-2)) 17)^^^(rr ((zc b.l t).get (t-2)) 19))^^^(((zc b.l t).get (t-2))>>>UInt32.ofNat 10))+((zc b.l t).get (t-7)))+(((rr ((zc b.l t).get (t-15)) 7)^^^(rr ((zc b.l t).get (t-15)) 18))^^^(((zc b.l t).get (t-15))>>>UInt32.ofNat 3)))+((zc b.l t).get (t-16))).toNat)) (zV (zc b.l t)) (((hD.ext hEw6)).ext hEw7) (by first | decide |(simp;done)|(simp;omega)) ?_)
    intro w9 hBw9 hCw9
    have hzw9:=hCw9.size
    rw [show ((zV (zc b.l t)).set (0+t*1) (vW (((((((rr ((zc b.l t).get (t-2)) 17)^^^(rr ((zc b.l t).get (t-2)) 19))^^^(((zc b.l t).get (t-2))>>>UInt32.ofNat 10))+((zc b.l t).get (t-7)))+(((rr ((zc b.l t).get (t-15)) 7)^^^(rr ((zc b.l t).get (t-15)) 18))^^^(((zc b.l t).get (t-15))>>>UInt32.ofNat 3)))+((zc b.l t).get (t-16))).toNat)):List Value)=zV ((zc b.l t).set t ((((((rr ((zc b.l t).get (t-2)) 17)^^^(rr ((zc b.l t).get (t-2)) 19))^^^(((zc b.l t).get (t-2))>>>UInt32.ofNat 10))+((zc b.l t).get (t-7)))+(((rr ((zc b.l t).get (t-15)) 7)^^^(rr ((zc b.l t).get (t-15)) 18))^^^(((zc b.l t).get (t-15))>>>UInt32.ofNat 3)))+((zc b.l t).get (t-16)))) from zaG t ((((((rr ((zc b.l t).get (t-2)) 17)^^^(rr ((zc b.l t).get (t-2)) 19))^^^(((zc b.l t).get (t-2))>>>UInt32.ofNat 10))+((zc b.l t).get (t-7)))+(((rr ((zc b.l t).get (t-15)) 7)^^^(rr ((zc b.l t).get (t-15)) 18))^^^(((zc b.l t).get (t-15))>>>UInt32.ofNat 3)))+((zc b.l t).get (t-16)))] at hBw9
    refine ⟨.inl (by kernel_rfl), ?_⟩
    refine zL (zr (zb (ze (zd 1 [(30,(vI t))] (za (zB (some 31) .i64 (IntKind.i64.wrap (((t:Nat):Int)+((1:Nat):Int))) (t+1) (zF (by omega) (by omega) (by omega)) ?_))))))
    refine zd 1 [(4,(vI (t+1)))] (zg (zD ?_))
    have hK2:=(((((hC.ext hEw6)).ext hEw7)).chg hCw9 (fun hs=>by have h:_=_:=hs;omega))
    have hX2:Ext w w9:=(Ext.own ((hEm.trans hEw6).trans hEw7) hCw9 (by omega))
    refine zR (t+1) ?_ ?_
    ·exact ⟨by omega,by omega,hK2,by have hz:=hBw9;rwa [show (zc b.l t).set t _=zc b.l (t+1) from zaA (by omega) (by unfold zbq zbo;ac_rfl)] at hz,hX2⟩
    ·first | omega |(dsimp only;omega)
  ·replace hc29:¬(t<64):=by have:=zak hc29;omega
   refine zg (zb (zn (zag (zH (zH (zT (zb (zf (ze ?_)))))))))
   refine za (zi (some 71) (Instr.loadAt 149 (vP w1.heap.size 0)) (vA (zV (zc b.l t))) (zI (vs:=zV (zc b.l t)) (hD.all) (by rw [zcS];kernel_rfl)) ?_)
   refine za (zE 149 w1.heap.size 0 149 (vA (zV (zc b.l t))) (zV (zc b.l t)) (zV (zc b.l t)) hD (by rw [zcS];kernel_rfl) (by first |(simp;done)|(simp;omega)) (zeI _) ?_)
   intro w10 hBw10 hCw10
   have hzw10:=hCw10.size
   rw [zq _ _ (by simp)] at hBw10
   refine zg (zb (zp (zbA (show zS Tryz.prog 72 _ _ (.cell 2 149) (vA (zV (zc b.l t))) from ⟨⟨w1.heap.size,0,none⟩,(by kernel_rfl),zM (T:=149) (vs:=zV (zc b.l t)) (hBw10).all (by rw [zcS];kernel_rfl)⟩) ?_)))
   obtain rfl:t=64:=by omega
   exact ⟨rfl,(Ext.own hEm hCw10 (by omega))⟩
end Go.Proofs.YtgdpdnokcnhgnaaGreatDoor
namespace Go.Proofs.YtgdpdnokcnhgnaaGreatDoor
open Go Go.RowKit Go.Cs
set_option maxRecDepth 100000
theorem zpB (h:(WA 8)) (b:B64) (w:World) (hg2:Gl 3 (zV kA) w):
  Calls Tryz.prog 118 #[(vA (w8C h)),(vA (zck b))] w (Ret fun r w'=>r=(vA (w8C (zdZ h b.l)))∧Ext w w'):=by
 refine zK (n:=112) (σ:= [(0,(vA (w8C h))),(1,(vA (zck b)))]) Tryz.func118 rfl ?_
 have hgl2:=hg2.lt
 refine zf (ze (za (zz (some 2) (Instr.box 150 (vA (w8C h))) (vP w.heap.size 0) (w8C h) 150 ?_)))
 intro w1 hBw1 hEw1
 have hzw1:=hEw1.size;have hlw1:=hBw1.lt
 refine za (zz (some 3) (Instr.box 184 (vA (zck b))) (vP w1.heap.size 0) (zck b) 184 ?_)
 intro w2 hBw2 hEw2
 have hzw2:=hEw2.size;have hlw2:=hBw2.lt
 refine za (zz (some 4) (Instr.alloc 150 true (.tuple #[])) (vP w2.heap.size 0) (w8C (WA.zero 8)) 150 ?_)
 intro w3 hBw3 hEw3
 have hzw3:=hEw3.size;have hlw3:=hBw3.lt
 refine zg (zb (zf (ze (za (zi (some 14) (Instr.loadAt 184 (vP w1.heap.size 0)) (vA (zck b)) (zI (vs:=zck b) ((hBw2.ext hEw3).all) (by rw [zjd];kernel_rfl)) ?_)))))
 refine za (zk (some 15) (zpz b _) ?_)
 rintro _ w4 ⟨rfl,hEw4⟩
 have hzw4:=hEw4.size
 refine za (zz (some 5) (Instr.alloc 149 true (.tuple #[])) (vP w4.heap.size 0) (zV (WA.zero 64)) 149 ?_)
 intro w5 hBw5 hEw5
 have hzw5:=hEw5.size;have hlw5:=hBw5.lt
 refine za (zE 149 w4.heap.size 0 149 (vA (zV (zc b.l 64))) (zV (WA.zero 64)) (zV (zc b.l 64)) hBw5 (by rw [zcS];kernel_rfl) (by first |(simp;done)|(simp;omega)) (zeI _) ?_)
 intro w6 hBw6 hCw6
 have hzw6:=hCw6.size
 rw [zq _ _ (by simp)] at hBw6
 refine zg (zb (zf (ze ?_)))
 have hK1:=(((((((((hBw1.ext hEw2)).ext hEw3)).ext hEw4)).ext hEw5)).chg hCw6 (fun hs=>by have h:_=_:=hs;omega))
 refine za (zi (some 16) (Instr.loadAt 150 (vP w.heap.size 0)) (vA (w8C h)) (zI (vs:=w8C h) (hK1.all) (by rw [zbf];kernel_rfl)) ?_)
 refine za (zz (some 6) (Instr.alloc 150 true (.tuple #[])) (vP w6.heap.size 0) (w8C (WA.zero 8)) 150 ?_)
 intro w7 hBw7 hEw7
 have hzw7:=hEw7.size;have hlw7:=hBw7.lt
 refine za (zE 150 w6.heap.size 0 150 (vA (w8C h)) (w8C (WA.zero 8)) (w8C h) hBw7 (by rw [zbf];kernel_rfl) (by first |(simp;done)|(simp;omega)) (zcZ _) ?_)
 intro w8 hBw8 hCw8
 have hzw8:=hCw8.size
 rw [zq _ _ (by simp)] at hBw8
 refine zg (zb (zf (zf (ze ?_))))
 have hK2:=(((((((((((((((hg2.ext hEw1)).ext hEw2)).ext hEw3)).ext hEw4)).ext hEw5)).chg hCw6 (fun hs=>by have h:_=_:=hs;omega))).ext hEw7)).chg hCw8 (fun hs=>by have h:_=_:=hs;omega))
 refine za (zi (some 17) (Instr.loadAt 149 (vP 3 0)) (vA (zV kA)) (zI (vs:=zV kA) (hK2.all) (by rw [zcS];kernel_rfl)) ?_)
 refine zd 1 [(18,(vI 0))] (zg (zb (zJ ?_)))
 have hK3:=(((((((((hBw3.ext hEw4)).ext hEw5)).chg hCw6 (fun hs=>by have h:_=_:=hs;omega))).ext hEw7)).chg hCw8 (fun hs=>by have h:_=_:=hs;omega))
 have hX1:Ext w w8:=(Ext.own ((Ext.own ((((hEw1.trans hEw2).trans hEw3).trans hEw4).trans hEw5) hCw6 (by omega)).trans hEw7) hCw8 (by omega))
 refine zaj (X:=Nat×WA 8) (fun ⟨t,x⟩=> [(18,(vI t))]) [7,8,9,10,11,12,19,20,21,22,23,24,25,26,27,28,29,30,31,32,33,34,35,36,37,38,39,40,41,42,43,44,45,46,47,48,49,50,51,52,53,54,55,56,57,58,59,60,61,62,63,64,65,66,67,68,69,70,71,72,73,74,75,76,77,78,79,80,81,82,83,84,85,86,87,88,89,90,91,92,93,94,95,96,97,98] (fun ⟨t,x⟩ w9=>t≤64∧x=zdW h (zc b.l 64) t∧Blk w9 w.heap.size (w8C h) 150∧Blk w9 w4.heap.size (zV (zc b.l 64)) 149∧Blk w9 w6.heap.size (w8C x) 150∧Blk w9 w2.heap.size (w8C (WA.zero 8)) 150∧Ext w w9) (fun ⟨t,x⟩=>64-t) (0,h) (by kernel_rfl) ⟨by omega,rfl,(((hK1.ext hEw7)).chg hCw8 (fun hs=>by have h:_=_:=hs;omega)),(((hBw6.ext hEw7)).chg hCw8 (fun hs=>by have h:_=_:=hs;omega)),hBw8,hK3,hX1⟩ ?_
 rintro ⟨t,x⟩ dw9 w9 ⟨ht,hx,hA,hB,hD,hZ4,hEl⟩
 have hzl:=hEl.size
 have hlthA:=hA.lt
 have hlthB:=hB.lt
 have hlthD:=hD.lt
 have hlthZ4:=hZ4.lt
 refine zf (ze (za (zG (some 19) (decide (((t:Nat):Int)<((64:Nat):Int))) (fun hc19=> ?_) (fun hc19=> ?_))))
 ·replace hc19:t<64:=by have:=zal hc19;omega
  refine zg (zb (zf (zx (zA (zb (zf (zJ (zf (ze ?_)))))))))
  refine zd 1 [(20,(vI t))] (za (zi (some 21) (Instr.index 149 (vA (zV kA)) (vI t)) (vW ((kA.get t).toNat)) (zhW (E:=28) (m:=64) (by omega) (zl2 (by omega))) ?_))
  refine zd 2 [(8,(vW ((kA.get t).toNat))),(7,(vI t))] (zg (zb (zf (zah (Ext w9.drew) 6 [(23,64,0),(24,4194304,1),(25,64,0),(26,16777216,4),(10,8388608,3),(11,33554432,31)] (fun hT83=> ?_)))))
  have hEw10:Ext w9 w9.drew:=Ext.drew w9
  generalize w9.drew=w10 at hEw10⊢
  have hzw10:=hEw10.size
  refine zh hT83 0 1 (some 22) (vP w6.heap.size 0) (zm (Instr.indexAt 150 (vP w6.heap.size 0) (vI 0)) (fun w' hC=>zW (E:=28) (sz:=1) (m:=8) (by omega))) (zh hT83 1 3 (some 23) (vW ((x.get 0).toNat)) (zm (Instr.loadAt 28 (vP w6.heap.size 0)) (fun w' hC=>zo (((hD.ext hEw10).ext hC).cell (zaE 0 (by omega))))) (zh hT83 2 7 (some 24) (vP w6.heap.size 4) (zm (Instr.indexAt 150 (vP w6.heap.size 0) (vI 4)) (fun w' hC=>zW (E:=28) (sz:=1) (m:=8) (by omega))) (zh hT83 3 15 (some 25) (vW ((x.get 4).toNat)) (zm (Instr.loadAt 28 (vP w6.heap.size 4)) (fun w' hC=>zo (((hD.ext hEw10).ext hC).cell (zaE 4 (by omega))))) (zl hT83 [(4,9,(vW ((x.get 0).toNat))),(5,10,(vW ((x.get 4).toNat)))] 2 63 (zL (zb (zf (zah (Ext w10.drew) 29 [(27,64,0),(28,67108864,1),(29,1024,0),(30,268435456,4),(31,1024,0),(32,1073741824,24),(33,2684354560,40),(34,1024,0),(35,8589934592,160),(36,21474836480,320),(37,34493956096,514),(38,1024,0),(39,64,0),(40,274877906944,4096),(41,687194767360,10240),(42,1024,0),(43,2199023255552,32768),(44,64,0),(45,8796093022208,131072),(46,21990232555520,327680),(47,36283883716608,540672),(48,70437463654400,1049600),(49,256,0),(50,422212465065984,6291456),(51,128,0),(52,1125899906842656,16777216),(53,2251799813685248,33554432),(54,5066549580791808,75497472),(12,9007199254740992,268435455)] (fun hT95=> ?_)))))))))
  have hEw11:Ext w10 w10.drew:=Ext.drew w10
  generalize w10.drew=w11 at hEw11⊢
  have hzw11:=hEw11.size
  refine zh hT95 0 1 (some 26) (vP w6.heap.size 7) (zm (Instr.indexAt 150 (vP w6.heap.size 0) (vI 7)) (fun w' hC=>zW (E:=28) (sz:=1) (m:=8) (by omega))) (zh hT95 1 3 (some 27) (vW ((x.get 7).toNat)) (zm (Instr.loadAt 28 (vP w6.heap.size 7)) (fun w' hC=>zo (((((hD.ext hEw10)).ext hEw11).ext hC).cell (zaE 7 (by omega))))) (zl hT95 [(2,28,(vW ((x.get 4).toNat)))] 1 7 (zh hT95 3 15 (some 29) (vW ((rr (x.get 4) 6).toNat)) (zcQ (f:=123) (args:= #[(vW ((x.get 4).toNat)),(vI 6)]) (fun w' hC=>zc0 (x.get 4) 6 _ (by decide) (by decide))) (zl hT95 [(4,30,(vW ((x.get 4).toNat)))] 1 31 (zh hT95 5 63 (some 31) (vW ((rr (x.get 4) 11).toNat)) (zcQ (f:=123) (args:= #[(vW ((x.get 4).toNat)),(vI 11)]) (fun w' hC=>zc0 (x.get 4) 11 _ (by decide) (by decide))) (zh hT95 6 127 (some 32) (vW (((rr (x.get 4) 6)^^^(rr (x.get 4) 11)).toNat)) (zw .u32 _ (zZ (rr (x.get 4) 6) (rr (x.get 4) 11))) (zl hT95 [(7,33,(vW ((x.get 4).toNat)))] 1 255 (zh hT95 8 511 (some 34) (vW ((rr (x.get 4) 25).toNat)) (zcQ (f:=123) (args:= #[(vW ((x.get 4).toNat)),(vI 25)]) (fun w' hC=>zc0 (x.get 4) 25 _ (by decide) (by decide))) (zh hT95 9 1023 (some 35) (vW ((((rr (x.get 4) 6)^^^(rr (x.get 4) 11))^^^(rr (x.get 4) 25)).toNat)) (zw .u32 _ (zZ ((rr (x.get 4) 6)^^^(rr (x.get 4) 11)) (rr (x.get 4) 25))) ?_)))))))))
  refine zh hT95 10 2047 (some 36) (vW (((x.get 7)+(((rr (x.get 4) 6)^^^(rr (x.get 4) 11))^^^(rr (x.get 4) 25))).toNat)) (zw .u32 _ (zU (x.get 7) (((rr (x.get 4) 6)^^^(rr (x.get 4) 11))^^^(rr (x.get 4) 25)))) (zl hT95 [(11,37,(vW ((x.get 4).toNat)))] 1 4095 (zh hT95 12 8191 (some 38) (vP w6.heap.size 5) (zm (Instr.indexAt 150 (vP w6.heap.size 0) (vI 5)) (fun w' hC=>zW (E:=28) (sz:=1) (m:=8) (by omega))) (zh hT95 13 16383 (some 39) (vW ((x.get 5).toNat)) (zm (Instr.loadAt 28 (vP w6.heap.size 5)) (fun w' hC=>zo (((((hD.ext hEw10)).ext hEw11).ext hC).cell (zaE 5 (by omega))))) (zh hT95 14 32767 (some 40) (vW (((x.get 4)&&&(x.get 5)).toNat)) (zw .u32 _ (zdq (x.get 4) (x.get 5))) (zl hT95 [(15,41,(vW ((x.get 4).toNat)))] 1 65535 (zh hT95 16 131071 (some 42) (vW ((~~~(x.get 4)).toNat)) (zw .u32 _ (zlY (x.get 4))) (zh hT95 17 262143 (some 43) (vP w6.heap.size 6) (zm (Instr.indexAt 150 (vP w6.heap.size 0) (vI 6)) (fun w' hC=>zW (E:=28) (sz:=1) (m:=8) (by omega))) (zh hT95 18 524287 (some 44) (vW ((x.get 6).toNat)) (zm (Instr.loadAt 28 (vP w6.heap.size 6)) (fun w' hC=>zo (((((hD.ext hEw10)).ext hEw11).ext hC).cell (zaE 6 (by omega))))) (zh hT95 19 1048575 (some 45) (vW (((~~~(x.get 4))&&&(x.get 6)).toNat)) (zw .u32 _ (zdq (~~~(x.get 4)) (x.get 6))) ?_)))))))))
  refine zh hT95 20 2097151 (some 46) (vW ((((x.get 4)&&&(x.get 5))^^^((~~~(x.get 4))&&&(x.get 6))).toNat)) (zw .u32 _ (zZ ((x.get 4)&&&(x.get 5)) ((~~~(x.get 4))&&&(x.get 6)))) (zh hT95 21 4194303 (some 47) (vW ((((x.get 7)+(((rr (x.get 4) 6)^^^(rr (x.get 4) 11))^^^(rr (x.get 4) 25)))+(((x.get 4)&&&(x.get 5))^^^((~~~(x.get 4))&&&(x.get 6)))).toNat)) (zw .u32 _ (zU ((x.get 7)+(((rr (x.get 4) 6)^^^(rr (x.get 4) 11))^^^(rr (x.get 4) 25))) (((x.get 4)&&&(x.get 5))^^^((~~~(x.get 4))&&&(x.get 6))))) (zl hT95 [(22,48,(vW ((kA.get t).toNat)))] 1 8388607 (zh hT95 23 16777215 (some 49) (vW (((((x.get 7)+(((rr (x.get 4) 6)^^^(rr (x.get 4) 11))^^^(rr (x.get 4) 25)))+(((x.get 4)&&&(x.get 5))^^^((~~~(x.get 4))&&&(x.get 6))))+(kA.get t)).toNat)) (zw .u32 _ (zU (((x.get 7)+(((rr (x.get 4) 6)^^^(rr (x.get 4) 11))^^^(rr (x.get 4) 25)))+(((x.get 4)&&&(x.get 5))^^^((~~~(x.get 4))&&&(x.get 6)))) (kA.get t))) (zl hT95 [(24,50,(vI t))] 1 33554431 (zh hT95 25 67108863 (some 51) (vP w4.heap.size (0+t*1)) (zm (Instr.indexAt 149 (vP w4.heap.size 0) (vI t)) (fun w' hC=>zW (E:=28) (sz:=1) (m:=64) (by omega))) (zh hT95 26 134217727 (some 52) (vW (((zc b.l 64).get t).toNat)) (zm (Instr.loadAt 28 (vP w4.heap.size (0+t*1))) (fun w' hC=>zo (((((hB.ext hEw10)).ext hEw11).ext hC).cell (zan t (by omega))))) ?_))))))
  refine zh hT95 27 268435455 (some 53) (vW ((((((x.get 7)+(((rr (x.get 4) 6)^^^(rr (x.get 4) 11))^^^(rr (x.get 4) 25)))+(((x.get 4)&&&(x.get 5))^^^((~~~(x.get 4))&&&(x.get 6))))+(kA.get t))+((zc b.l 64).get t)).toNat)) (zw .u32 _ (zU ((((x.get 7)+(((rr (x.get 4) 6)^^^(rr (x.get 4) 11))^^^(rr (x.get 4) 25)))+(((x.get 4)&&&(x.get 5))^^^((~~~(x.get 4))&&&(x.get 6))))+(kA.get t)) ((zc b.l 64).get t))) (zl hT95 [(28,11,(vW ((((((x.get 7)+(((rr (x.get 4) 6)^^^(rr (x.get 4) 11))^^^(rr (x.get 4) 25)))+(((x.get 4)&&&(x.get 5))^^^((~~~(x.get 4))&&&(x.get 6))))+(kA.get t))+((zc b.l 64).get t)).toNat)))] 1 536870911 (zL (zb (zf (zah (Ext w11.drew) 25 [(55,512,0),(56,18014398509481984,1),(57,512,0),(58,72057594037927936,6),(59,180143985094819840,10),(60,512,0),(61,576460752303423488,40),(62,1441151880758558720,80),(63,512,0),(64,64,0),(65,9223372036854775808,512),(66,23058430092136939520,1280),(67,512,0),(68,64,0),(69,147573952589676412928,8192),(70,368934881474191032320,20480),(71,627189298506124754944,34816),(72,64,0),(73,2361183241434822606848,131072),(74,64,0),(75,9444732965739290427392,524288),(76,23611832414348226068480,1310720),(77,38959523483674573012992,2162688),(78,75560169568923537113088,4194432),(13,151115727451828646838272,16777215)] (fun hT131=> ?_))))))
  have hEw12:Ext w11 w11.drew:=Ext.drew w11
  generalize w11.drew=w12 at hEw12⊢
  have hzw12:=hEw12.size
  refine zl hT131 [(0,54,(vW ((x.get 0).toNat)))] 1 1 (zh hT131 1 3 (some 55) (vW ((rr (x.get 0) 2).toNat)) (zcQ (f:=123) (args:= #[(vW ((x.get 0).toNat)),(vI 2)]) (fun w' hC=>zc0 (x.get 0) 2 _ (by decide) (by decide))) (zl hT131 [(2,56,(vW ((x.get 0).toNat)))] 1 7 (zh hT131 3 15 (some 57) (vW ((rr (x.get 0) 13).toNat)) (zcQ (f:=123) (args:= #[(vW ((x.get 0).toNat)),(vI 13)]) (fun w' hC=>zc0 (x.get 0) 13 _ (by decide) (by decide))) (zh hT131 4 31 (some 58) (vW (((rr (x.get 0) 2)^^^(rr (x.get 0) 13)).toNat)) (zw .u32 _ (zZ (rr (x.get 0) 2) (rr (x.get 0) 13))) (zl hT131 [(5,59,(vW ((x.get 0).toNat)))] 1 63 (zh hT131 6 127 (some 60) (vW ((rr (x.get 0) 22).toNat)) (zcQ (f:=123) (args:= #[(vW ((x.get 0).toNat)),(vI 22)]) (fun w' hC=>zc0 (x.get 0) 22 _ (by decide) (by decide))) (zh hT131 7 255 (some 61) (vW ((((rr (x.get 0) 2)^^^(rr (x.get 0) 13))^^^(rr (x.get 0) 22)).toNat)) (zw .u32 _ (zZ ((rr (x.get 0) 2)^^^(rr (x.get 0) 13)) (rr (x.get 0) 22))) (zl hT131 [(8,62,(vW ((x.get 0).toNat)))] 1 511 (zh hT131 9 1023 (some 63) (vP w6.heap.size 1) (zm (Instr.indexAt 150 (vP w6.heap.size 0) (vI 1)) (fun w' hC=>zW (E:=28) (sz:=1) (m:=8) (by omega))) ?_)))))))))
  have hK4:=(((((hD.ext hEw10)).ext hEw11)).ext hEw12)
  refine zh hT131 10 2047 (some 64) (vW ((x.get 1).toNat)) (zm (Instr.loadAt 28 (vP w6.heap.size 1)) (fun w' hC=>zo ((hK4.ext hC).cell (zaE 1 (by omega))))) (zh hT131 11 4095 (some 65) (vW (((x.get 0)&&&(x.get 1)).toNat)) (zw .u32 _ (zdq (x.get 0) (x.get 1))) (zl hT131 [(12,66,(vW ((x.get 0).toNat)))] 1 8191 (zh hT131 13 16383 (some 67) (vP w6.heap.size 2) (zm (Instr.indexAt 150 (vP w6.heap.size 0) (vI 2)) (fun w' hC=>zW (E:=28) (sz:=1) (m:=8) (by omega))) (zh hT131 14 32767 (some 68) (vW ((x.get 2).toNat)) (zm (Instr.loadAt 28 (vP w6.heap.size 2)) (fun w' hC=>zo ((hK4.ext hC).cell (zaE 2 (by omega))))) (zh hT131 15 65535 (some 69) (vW (((x.get 0)&&&(x.get 2)).toNat)) (zw .u32 _ (zdq (x.get 0) (x.get 2))) (zh hT131 16 131071 (some 70) (vW ((((x.get 0)&&&(x.get 1))^^^((x.get 0)&&&(x.get 2))).toNat)) (zw .u32 _ (zZ ((x.get 0)&&&(x.get 1)) ((x.get 0)&&&(x.get 2)))) (zh hT131 17 262143 (some 71) (vP w6.heap.size 1) (zm (Instr.indexAt 150 (vP w6.heap.size 0) (vI 1)) (fun w' hC=>zW (E:=28) (sz:=1) (m:=8) (by omega))) (zh hT131 18 524287 (some 72) (vW ((x.get 1).toNat)) (zm (Instr.loadAt 28 (vP w6.heap.size 1)) (fun w' hC=>zo ((hK4.ext hC).cell (zaE 1 (by omega))))) (zh hT131 19 1048575 (some 73) (vP w6.heap.size 2) (zm (Instr.indexAt 150 (vP w6.heap.size 0) (vI 2)) (fun w' hC=>zW (E:=28) (sz:=1) (m:=8) (by omega))) ?_)))))))))
  refine zh hT131 20 2097151 (some 74) (vW ((x.get 2).toNat)) (zm (Instr.loadAt 28 (vP w6.heap.size 2)) (fun w' hC=>zo ((hK4.ext hC).cell (zaE 2 (by omega))))) (zh hT131 21 4194303 (some 75) (vW (((x.get 1)&&&(x.get 2)).toNat)) (zw .u32 _ (zdq (x.get 1) (x.get 2))) (zh hT131 22 8388607 (some 76) (vW (((((x.get 0)&&&(x.get 1))^^^((x.get 0)&&&(x.get 2)))^^^((x.get 1)&&&(x.get 2))).toNat)) (zw .u32 _ (zZ (((x.get 0)&&&(x.get 1))^^^((x.get 0)&&&(x.get 2))) ((x.get 1)&&&(x.get 2)))) (zh hT131 23 16777215 (some 77) (vW (((((rr (x.get 0) 2)^^^(rr (x.get 0) 13))^^^(rr (x.get 0) 22))+((((x.get 0)&&&(x.get 1))^^^((x.get 0)&&&(x.get 2)))^^^((x.get 1)&&&(x.get 2)))).toNat)) (zw .u32 _ (zU (((rr (x.get 0) 2)^^^(rr (x.get 0) 13))^^^(rr (x.get 0) 22)) ((((x.get 0)&&&(x.get 1))^^^((x.get 0)&&&(x.get 2)))^^^((x.get 1)&&&(x.get 2))))) (zl hT131 [(24,12,(vW (((((rr (x.get 0) 2)^^^(rr (x.get 0) 13))^^^(rr (x.get 0) 22))+((((x.get 0)&&&(x.get 1))^^^((x.get 0)&&&(x.get 2)))^^^((x.get 1)&&&(x.get 2)))).toNat)))] 1 33554431 (zL (zb (ze (zd 2 [(79,(vW (((((rr (x.get 0) 2)^^^(rr (x.get 0) 13))^^^(rr (x.get 0) 22))+((((x.get 0)&&&(x.get 1))^^^((x.get 0)&&&(x.get 2)))^^^((x.get 1)&&&(x.get 2)))).toNat))),(78,(vW ((((((x.get 7)+(((rr (x.get 4) 6)^^^(rr (x.get 4) 11))^^^(rr (x.get 4) 25)))+(((x.get 4)&&&(x.get 5))^^^((~~~(x.get 4))&&&(x.get 6))))+(kA.get t))+((zc b.l 64).get t)).toNat)))] ?_))))))))
  refine za (zB (some 80) .u32 (IntKind.u32.wrap ((((((((x.get 7)+(((rr (x.get 4) 6)^^^(rr (x.get 4) 11))^^^(rr (x.get 4) 25)))+(((x.get 4)&&&(x.get 5))^^^((~~~(x.get 4))&&&(x.get 6))))+(kA.get t))+((zc b.l 64).get t)).toNat:Nat):Int)+((((((rr (x.get 0) 2)^^^(rr (x.get 0) 13))^^^(rr (x.get 0) 22))+((((x.get 0)&&&(x.get 1))^^^((x.get 0)&&&(x.get 2)))^^^((x.get 1)&&&(x.get 2)))).toNat:Nat):Int))) (((((((x.get 7)+(((rr (x.get 4) 6)^^^(rr (x.get 4) 11))^^^(rr (x.get 4) 25)))+(((x.get 4)&&&(x.get 5))^^^((~~~(x.get 4))&&&(x.get 6))))+(kA.get t))+((zc b.l 64).get t))+((((rr (x.get 0) 2)^^^(rr (x.get 0) 13))^^^(rr (x.get 0) 22))+((((x.get 0)&&&(x.get 1))^^^((x.get 0)&&&(x.get 2)))^^^((x.get 1)&&&(x.get 2))))).toNat) (zU (((((x.get 7)+(((rr (x.get 4) 6)^^^(rr (x.get 4) 11))^^^(rr (x.get 4) 25)))+(((x.get 4)&&&(x.get 5))^^^((~~~(x.get 4))&&&(x.get 6))))+(kA.get t))+((zc b.l 64).get t)) ((((rr (x.get 0) 2)^^^(rr (x.get 0) 13))^^^(rr (x.get 0) 22))+((((x.get 0)&&&(x.get 1))^^^((x.get 0)&&&(x.get 2)))^^^((x.get 1)&&&(x.get 2))))) ?_)
  refine za (zi (some 81) (Instr.indexAt 150 (vP w6.heap.size 0) (vI 0)) (vP w6.heap.size 0) (zW (E:=28) (sz:=1) (m:=8) (by omega)) ?_)
  refine za (zi (some 82) (Instr.loadAt 28 (vP w6.heap.size 0)) (vW ((x.get 0).toNat)) (zo (hK4.cell (zaE 0 (by omega)))) ?_)
  refine za (zi (some 83) (Instr.indexAt 150 (vP w6.heap.size 0) (vI 1)) (vP w6.heap.size 1) (zW (E:=28) (sz:=1) (m:=8) (by omega)) ?_)
  refine za (zi (some 84) (Instr.loadAt 28 (vP w6.heap.size 1)) (vW ((x.get 1).toNat)) (zo (hK4.cell (zaE 1 (by omega)))) ?_)
  refine za (zi (some 85) (Instr.indexAt 150 (vP w6.heap.size 0) (vI 2)) (vP w6.heap.size 2) (zW (E:=28) (sz:=1) (m:=8) (by omega)) ?_)
  refine za (zi (some 86) (Instr.loadAt 28 (vP w6.heap.size 2)) (vW ((x.get 2).toNat)) (zo (hK4.cell (zaE 2 (by omega)))) ?_)
  refine za (zi (some 87) (Instr.indexAt 150 (vP w6.heap.size 0) (vI 3)) (vP w6.heap.size 3) (zW (E:=28) (sz:=1) (m:=8) (by omega)) ?_)
  refine za (zi (some 88) (Instr.loadAt 28 (vP w6.heap.size 3)) (vW ((x.get 3).toNat)) (zo (hK4.cell (zaE 3 (by omega)))) ?_)
  refine zd 1 [(89,(vW ((((((x.get 7)+(((rr (x.get 4) 6)^^^(rr (x.get 4) 11))^^^(rr (x.get 4) 25)))+(((x.get 4)&&&(x.get 5))^^^((~~~(x.get 4))&&&(x.get 6))))+(kA.get t))+((zc b.l 64).get t)).toNat)))] (za (zB (some 90) .u32 (IntKind.u32.wrap ((((x.get 3).toNat:Nat):Int)+(((((((x.get 7)+(((rr (x.get 4) 6)^^^(rr (x.get 4) 11))^^^(rr (x.get 4) 25)))+(((x.get 4)&&&(x.get 5))^^^((~~~(x.get 4))&&&(x.get 6))))+(kA.get t))+((zc b.l 64).get t)).toNat:Nat):Int))) (((x.get 3)+(((((x.get 7)+(((rr (x.get 4) 6)^^^(rr (x.get 4) 11))^^^(rr (x.get 4) 25)))+(((x.get 4)&&&(x.get 5))^^^((~~~(x.get 4))&&&(x.get 6))))+(kA.get t))+((zc b.l 64).get t))).toNat) (zU (x.get 3) (((((x.get 7)+(((rr (x.get 4) 6)^^^(rr (x.get 4) 11))^^^(rr (x.get 4) 25)))+(((x.get 4)&&&(x.get 5))^^^((~~~(x.get 4))&&&(x.get 6))))+(kA.get t))+((zc b.l 64).get t))) ?_))
  refine za (zi (some 91) (Instr.indexAt 150 (vP w6.heap.size 0) (vI 4)) (vP w6.heap.size 4) (zW (E:=28) (sz:=1) (m:=8) (by omega)) ?_)
  refine za (zi (some 92) (Instr.loadAt 28 (vP w6.heap.size 4)) (vW ((x.get 4).toNat)) (zo (hK4.cell (zaE 4 (by omega)))) ?_)
  refine za (zi (some 93) (Instr.indexAt 150 (vP w6.heap.size 0) (vI 5)) (vP w6.heap.size 5) (zW (E:=28) (sz:=1) (m:=8) (by omega)) ?_)
  refine za (zi (some 94) (Instr.loadAt 28 (vP w6.heap.size 5)) (vW ((x.get 5).toNat)) (zo (hK4.cell (zaE 5 (by omega)))) ?_)
  refine za (zi (some 95) (Instr.indexAt 150 (vP w6.heap.size 0) (vI 6)) (vP w6.heap.size 6) (zW (E:=28) (sz:=1) (m:=8) (by omega)) ?_)
  refine za (zi (some 96) (Instr.loadAt 28 (vP w6.heap.size 6)) (vW ((x.get 6).toNat)) (zo (hK4.cell (zaE 6 (by omega)))) ?_)
  refine zd 1 [(97,(vA (w8C ⟨[((((((x.get 7)+(((rr (x.get 4) 6)^^^(rr (x.get 4) 11))^^^(rr (x.get 4) 25)))+(((x.get 4)&&&(x.get 5))^^^((~~~(x.get 4))&&&(x.get 6))))+(kA.get t))+((zc b.l 64).get t))+((((rr (x.get 0) 2)^^^(rr (x.get 0) 13))^^^(rr (x.get 0) 22))+((((x.get 0)&&&(x.get 1))^^^((x.get 0)&&&(x.get 2)))^^^((x.get 1)&&&(x.get 2))))),(x.get 0),(x.get 1),(x.get 2),((x.get 3)+(((((x.get 7)+(((rr (x.get 4) 6)^^^(rr (x.get 4) 11))^^^(rr (x.get 4) 25)))+(((x.get 4)&&&(x.get 5))^^^((~~~(x.get 4))&&&(x.get 6))))+(kA.get t))+((zc b.l 64).get t))),(x.get 4),(x.get 5),(x.get 6)],rfl⟩)))] ?_
  refine za (zE 150 w6.heap.size 0 150 (vA (w8C ⟨[((((((x.get 7)+(((rr (x.get 4) 6)^^^(rr (x.get 4) 11))^^^(rr (x.get 4) 25)))+(((x.get 4)&&&(x.get 5))^^^((~~~(x.get 4))&&&(x.get 6))))+(kA.get t))+((zc b.l 64).get t))+((((rr (x.get 0) 2)^^^(rr (x.get 0) 13))^^^(rr (x.get 0) 22))+((((x.get 0)&&&(x.get 1))^^^((x.get 0)&&&(x.get 2)))^^^((x.get 1)&&&(x.get 2))))),(x.get 0),(x.get 1),(x.get 2),((x.get 3)+(((((x.get 7)+(((rr (x.get 4) 6)^^^(rr (x.get 4) 11))^^^(rr (x.get 4) 25)))+(((x.get 4)&&&(x.get 5))^^^((~~~(x.get 4))&&&(x.get 6))))+(kA.get t))+((zc b.l 64).get t))),(x.get 4),(x.get 5),(x.get 6)],rfl⟩)) (w8C x) (w8C ⟨[((((((x.get 7)+(((rr (x.get 4) 6)^^^(rr (x.get 4) 11))^^^(rr (x.get 4) 25)))+(((x.get 4)&&&(x.get 5))^^^((~~~(x.get 4))&&&(x.get 6))))+(kA.get t))+((zc b.l 64).get t))+((((rr (x.get 0) 2)^^^(rr (x.get 0) 13))^^^(rr (x.get 0) 22))+((((x.get 0)&&&(x.get 1))^^^((x.get 0)&&&(x.get 2)))^^^((x.get 1)&&&(x.get 2))))),(x.get 0),(x.get 1),(x.get 2),((x.get 3)+(((((x.get 7)+(((rr (x.get 4) 6)^^^(rr (x.get 4) 11))^^^(rr (x.get 4) 25)))+(((x.get 4)&&&(x.get 5))^^^((~~~(x.get 4))&&&(x.get 6))))+(kA.get t))+((zc b.l 64).get t))),(x.get 4),(x.get 5),(x.get 6)],rfl⟩) hK4 (by rw [zbf];kernel_rfl) (by first |(simp;done)|(simp;omega)) (zcZ _) ?_)
  intro w13 hBw13 hCw13
  have hzw13:=hCw13.size
  rw [show (zad (w8C x) 0 (w8C ⟨[((((((x.get 7)+(((rr (x.get 4) 6)^^^(rr (x.get 4) 11))^^^(rr (x.get 4) 25)))+(((x.get 4)&&&(x.get 5))^^^((~~~(x.get 4))&&&(x.get 6))))+(kA.get t))+((zc b.l 64).get t))+((((rr (x.get 0) 2)^^^(rr (x.get 0) 13))^^^(rr (x.get 0) 22))+((((x.get 0)&&&(x.get 1))^^^((x.get 0)&&&(x.get 2)))^^^((x.get 1)&&&(x.get 2))))),(x.get 0),(x.get 1),(x.get 2),((x.get 3)+(((((x.get 7)+(((rr (x.get 4) 6)^^^(rr (x.get 4) 11))^^^(rr (x.get 4) 25)))+(((x.get 4)&&&(x.get 5))^^^((~~~(x.get 4))&&&(x.get 6))))+(kA.get t))+((zc b.l 64).get t))),(x.get 4),(x.get 5),(x.get 6)],rfl⟩):List Value)=w8C (rnd x (kA.get t) ((zc b.l 64).get t)) from (zq _ _ (by simp)).trans rfl] at hBw13
  refine zg (zr (zb (ze (za (zB (some 98) .i64 (IntKind.i64.wrap (((t:Nat):Int)+((1:Nat):Int))) (t+1) (zF (by omega) (by omega) (by omega)) ?_)))))
  refine zd 1 [(18,(vI (t+1)))] (zg (zD ?_))
  have hK5:=(((((((hA.ext hEw10)).ext hEw11)).ext hEw12)).chg hCw13 (fun hs=>by have h:_=_:=hs;omega))
  have hK6:=(((((((hB.ext hEw10)).ext hEw11)).ext hEw12)).chg hCw13 (fun hs=>by have h:_=_:=hs;omega))
  have hK7:=(((((((hZ4.ext hEw10)).ext hEw11)).ext hEw12)).chg hCw13 (fun hs=>by have h:_=_:=hs;omega))
  have hX2:Ext w w13:=(Ext.own (((hEl.trans hEw10).trans hEw11).trans hEw12) hCw13 (by omega))
  refine zR (t+1,rnd x (kA.get t) ((zc b.l 64).get t)) ?_ ?_
  ·exact ⟨by omega,by rw [zdW,←hx],hK5,hK6,hBw13,hK7,hX2⟩
  ·first | omega |(dsimp only;omega)
 ·replace hc19:¬(t<64):=by have:=zak hc19;omega
  refine zg (zb (zf (zn (zag (zH (zH (zT (zb (zf ?_)))))))))
  refine zf (ze (zd 1 [(99,(vI 0))] (zg (zb (zJ ?_)))))
  obtain rfl:t=64:=by omega
  refine zaj (X:=Nat) (fun i=> [(99,(vI i))]) [13,100,101,102,103,104,105,106,107,108,109,110] (fun i w14=>i≤8∧Blk w14 w.heap.size (w8C (zca h x i)) 150∧Blk w14 w6.heap.size (w8C x) 150∧Blk w14 w2.heap.size (w8C (WA.zero 8)) 150∧Ext w w14) (fun i=>8-i) 0 (by kernel_rfl) ⟨by omega,(zmD h x).symm▸hA,hD,hZ4,hEl⟩ ?_
  rintro i dw14 w14 ⟨hi,hA2,hD2,hZ42,hEm⟩
  have hzm:=hEm.size
  have hlthA2:=hA2.lt
  have hlthD2:=hD2.lt
  have hlthZ42:=hZ42.lt
  refine zf (ze (za (zG (some 100) (decide (((i:Nat):Int)<((8:Nat):Int))) (fun hc100=> ?_) (fun hc100=> ?_))))
  ·replace hc100:i<8:=by have:=zal hc100;omega
   refine zg (zb (zf (zx (zA (zb (zf (zJ (zf (ze ?_)))))))))
   refine zd 2 [(13,(vI i)),(101,(vI i))] (zg (zb (zah (Chg (fun k=>k=w.heap.size) w14.drew) 9 [(103,8192,0),(104,5070602400912917605986812821508,1),(105,10141204801825835211973625643008,2),(106,8192,0),(107,40564819207303340847894502572096,8),(108,81129638414606681695789005144064,16),(109,182541686432865033815525261574144,36),(110,5070602400912917605986812821508,127),(0,973555660975280180349468061728768,255)] (fun hT243=> ?_))))
   have hEw15:Ext w14 w14.drew:=Ext.drew w14
   generalize w14.drew=w15 at hEw15⊢
   have hzw15:=hEw15.size
   refine zl (hw:=show Chg (fun k=>k=w.heap.size) w15 w15 from (Chg.refl (fun k=>k=w.heap.size) w15)) hT243 [(0,102,(vI i))] 1 1 (zh (hw:=show Chg (fun k=>k=w.heap.size) w15 w15 from (Chg.refl (fun k=>k=w.heap.size) w15)) hT243 1 3 (some 103) (vP w.heap.size (0+i*1)) (zm (Instr.indexAt 150 (vP w.heap.size 0) (vI i)) (fun w' hC=>zW (E:=28) (sz:=1) (m:=8) (by omega))) (zl (hw:=show Chg (fun k=>k=w.heap.size) w15 w15 from (Chg.refl (fun k=>k=w.heap.size) w15)) hT243 [(3,105,(vI i))] 1 11 (zh (hw:=show Chg (fun k=>k=w.heap.size) w15 w15 from (Chg.refl (fun k=>k=w.heap.size) w15)) hT243 4 27 (some 106) (vP w6.heap.size (0+i*1)) (zm (Instr.indexAt 150 (vP w6.heap.size 0) (vI i)) (fun w' hC=>zW (E:=28) (sz:=1) (m:=8) (by omega))) (zh (hw:=show Chg (fun k=>k=w.heap.size) w15 w15 from (Chg.refl (fun k=>k=w.heap.size) w15)) hT243 5 59 (some 107) (vW ((x.get i).toNat)) (zm (Instr.loadAt 28 (vP w6.heap.size (0+i*1))) (fun w' hC=>zo (((hD2.ext hEw15).chg hC (fun hs=>by have h:_=_:=hs;omega)).cell (zaE i (by omega))))) (zu 2 63 (zi (some 104) (Instr.loadAt 28 (vP w.heap.size (0+i*1))) (vW (((zca h x i).get i).toNat)) (zo ((hA2.ext hEw15).cell (zaE i (by omega)))) ?_))))))
   refine ⟨.inr (Chg.refl (fun k=>k=w.heap.size) w15), ?_⟩
   refine zh (hw:=show Chg (fun k=>k=w.heap.size) w15 w15 from (Chg.refl (fun k=>k=w.heap.size) w15)) hT243 6 127 (some 108) (vW ((((zca h x i).get i)+(x.get i)).toNat)) (zw .u32 _ (zU ((zca h x i).get i) (x.get i))) (zh (hw:=show Chg (fun k=>k=w.heap.size) w15 w15 from (Chg.refl (fun k=>k=w.heap.size) w15)) hT243 7 255 (some 109) (vP w.heap.size (0+i*1)) (zm (Instr.indexAt 150 (vP w.heap.size 0) (vI i)) (fun w' hC=>zW (E:=28) (sz:=1) (m:=8) (by omega))) (zu 8 511 (zY 28 w.heap.size (0+i*1) 150 (vW ((((zca h x i).get i)+(x.get i)).toNat)) (w8C (zca h x i)) (hA2.ext hEw15) (by first | decide |(simp;done)|(simp;omega)) ?_)))
   intro w16 hBw16 hCw16
   have hzw16:=hCw16.size
   rw [show ((w8C (zca h x i)).set (0+i*1) (vW ((((zca h x i).get i)+(x.get i)).toNat)):List Value)=w8C ((zca h x i).set i (((zca h x i).get i)+(x.get i))) from zqa i (((zca h x i).get i)+(x.get i))] at hBw16
   refine ⟨.inl (by kernel_rfl), ?_⟩
   refine zL (zr (zb (ze (za (zB (some 110) .i64 (IntKind.i64.wrap (((i:Nat):Int)+((1:Nat):Int))) (i+1) (zF (by omega) (by omega) (by omega)) ?_)))))
   refine zd 1 [(99,(vI (i+1)))] (zg (zD (zR (i+1) ?_ ?_)))
   ·exact ⟨by omega,zmz (h:=h) (x:=x) (i:=i) (by omega)▸hBw16,(((hD2.ext hEw15)).chg hCw16 (fun hs=>by have h:_=_:=hs;omega)),(((hZ42.ext hEw15)).chg hCw16 (fun hs=>by have h:_=_:=hs;omega)),(Ext.own (hEm.trans hEw15) hCw16 (by omega))⟩
   ·first | omega |(dsimp only;omega)
  ·replace hc100:¬(i<8):=by have:=zak hc100;omega
   refine zg (zb (zf (zn (zag (zH (zH (zT (zb (zf ?_)))))))))
   refine ze (za (zi (some 111) (Instr.loadAt 150 (vP w.heap.size 0)) (vA (w8C (zca h x i))) (zI (vs:=w8C (zca h x i)) (hA2.all) (by rw [zbf];kernel_rfl)) ?_))
   refine za (zE 150 w2.heap.size 0 150 (vA (w8C (zca h x i))) (w8C (WA.zero 8)) (w8C (zca h x i)) hZ42 (by rw [zbf];kernel_rfl) (by first |(simp;done)|(simp;omega)) (zcZ _) ?_)
   intro w17 hBw17 hCw17
   have hzw17:=hCw17.size
   rw [zq _ _ (by simp)] at hBw17
   refine zg (zb (zp (zbA (show zS Tryz.prog 112 _ _ (.cell 4 150) (vA (w8C (zca h x i))) from ⟨⟨w2.heap.size,0,none⟩,(by kernel_rfl),zM (T:=150) (vs:=w8C (zca h x i)) (hBw17).all (by rw [zbf];kernel_rfl)⟩) ?_)))
   obtain rfl:i=8:=by omega
   exact ⟨by rw [hx];rfl,(Ext.own hEm hCw17 (by omega))⟩
end Go.Proofs.YtgdpdnokcnhgnaaGreatDoor
