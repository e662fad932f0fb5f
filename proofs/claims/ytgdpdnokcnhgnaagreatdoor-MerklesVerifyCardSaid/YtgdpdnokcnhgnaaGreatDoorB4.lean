/- Lemmas and walks: what each function does, by its own code. No condition beyond those of each statement. -/
import Derived.Test.YtgdpdnokcnhgnaaGreatDoorB3
set_option linter.all false
set_option linter.unusedVariables false
namespace Go.Proofs.YtgdpdnokcnhgnaaGreatDoor
open Go Go.RowKit Go.Cs
set_option maxRecDepth 100000
theorem zdI (x:Nod) (w:World) (hp0:zaq x=0) (hg0:Gl 0 [vI 45,vI 33] w) (hg1:Gl 2 (w8C zbc) w) (hg2:Gl 3 (zV kA) w):
  Calls Tryz.prog 53 #[(vA (zN x))] w (Ret fun r w'=>r=(.tuple #[(vA (zC (zQ (zP x)))),(vI 0)])∧Ext w w'):=by
 refine zK (n:=18) (σ:= [(0,(vA (zN x)))]) Tryz.func53 rfl ?_
 have hgl0:=hg0.lt
 have hgl1:=hg1.lt
 have hgl2:=hg2.lt
 refine zf (ze (za (zz (some 1) (Instr.box 47 (vA (zN x))) (vP w.heap.size 0) (zN x) 47 ?_)))
 intro w1 hBw1 hEw1
 have hzw1:=hEw1.size;have hlw1:=hBw1.lt
 refine za (zz (some 2) (Instr.alloc 23 true (.tuple #[])) (vP w1.heap.size 0) (zC Dig.zero) 23 ?_)
 intro w2 hBw2 hEw2
 have hzw2:=hEw2.size;have hlw2:=hBw2.lt
 refine zd 1 [(3,(vI 0))] (zg (zb (zf (ze (za (zi (some 7) (Instr.loadAt 47 (vP w.heap.size 0)) (vA (zN x)) (zI (vs:=zN x) ((hBw1.ext hEw2).all) (by rw [zac];kernel_rfl)) ?_))))))
 refine za (zk (some 8) (zqQ x _ (by assumption) (((hg0.ext hEw1)).ext hEw2)) ?_)
 rintro _ w3 ⟨a1,rfl,hFz1_0,hFz1_1,hFz1_2,hFz1_3,hEw3⟩
 have hzw3:=hEw3.size
 have hla1:=hFz1_1.lt;have hna1:=hFz1_3
 have hSa1:Bs a1 (a1+1) w3 (pA a1 0) (zbF x) (zbF x) (zP x):=Bs.of_blk hFz1_1 rfl hFz1_2 (Nat.le_refl _) (zbY hna1) (Nat.le_refl _) (Nat.lt_succ_self _)
 refine zd 5 [(5,(vI 0)),(4,(.slice (pA a1 0) (zbF x) (zbF x))),(10,(vI 0)),(9,(.slice (pA a1 0) (zbF x) (zbF x))),(6,(.tuple #[(.slice (pA a1 0) (zbF x) (zbF x)),(vI 0)]))] (zg (zb (zf (zf (ze (zd 1 [(11,(vI 0))] (za (zai (some 12) (((0:Nat):Int) !=((0:Nat):Int)) false (zaY (by omega)) ?_))))))))
 refine zg (zb (zn (zA (zb (zf (ze (zd 1 [(15,(.slice (pA a1 0) (zbF x) (zbF x)))] (za (zz (some 16) (Instr.buildSlice 183 1 #[(0,(.slice (pA a1 0) (zbF x) (zbF x)))]) (.slice (pA w3.heap.size 0) 1 1) [(.slice (pA a1 0) (zbF x) (zbF x))] 57 ?_)))))))))
 intro w4 hBw4 hEw4
 have hzw4:=hEw4.size;have hlw4:=hBw4.lt
 have hSw4:Ps 0 w4.heap.size w4 (pA w3.heap.size 0) 1 1 [(.slice (pA a1 0) (zbF x) (zbF x))] [zP x]:=Ps.of_new hBw4 rfl (by decide) (zaS.cons (zcm.at (hSa1.ext hEw4)) zaS.nil)
 have hK1:=(((((((hg1.ext hEw1)).ext hEw2)).ext hEw3)).ext hEw4)
 have hK2:=(((((((hg2.ext hEw1)).ext hEw2)).ext hEw3)).ext hEw4)
 refine za (zk (some 17) (zrD _ hSw4 (by simp [zX,zqI];unfold zbF;split<;>decide) hK1 hK2) ?_)
 rintro _ w5 ⟨rfl,hEw5⟩
 have hzw5:=hEw5.size
 rw [show zQ ([zP x]).flatten=zQ (zP x) from by simp]
 have hK3:=(((((hBw2.ext hEw3)).ext hEw4)).ext hEw5)
 refine za (zE 23 w1.heap.size 0 23 (vA (zC (zQ (zP x)))) (zC Dig.zero) (zC (zQ (zP x))) hK3 (by rw [zab];kernel_rfl) (by first |(simp;done)|(simp;omega)) (zaX _) ?_)
 have hK4:=(((((hBw2.ext hEw3)).ext hEw4)).ext hEw5)
 intro w6 hBw6 hCw6
 have hzw6:=hCw6.size
 rw [zq _ _ (by simp)] at hBw6
 refine zd 1 [(3,(vI 0))] (zg (zb (zp (zam (show zS Tryz.prog 18 _ _ (.cell 2 23) (vA (zC (zQ (zP x)))) from ⟨⟨w1.heap.size,0,none⟩,(by kernel_rfl),zM (T:=23) (vs:=zC (zQ (zP x))) (hBw6).all (by rw [zab];kernel_rfl)⟩) (show zS Tryz.prog 18 _ _ (.tmp 3) (vI 0) by (show _=_;kernel_rfl)) ?_))))
 have hX1:Ext w w6:=(Ext.own ((((hEw1.trans hEw2).trans hEw3).trans hEw4).trans hEw5) hCw6 (by omega))
 exact ⟨rfl,hX1⟩
theorem zev (x:Nod) (w:World):
  Calls Tryz.prog 33 #[(vA (zN x))] w (Ret fun r w'=>r=(vA (zC (zQ (zP x))))∧Ext w w'):=by
 refine zK (n:=6) (σ:= [(0,(vA (zN x)))]) Tryz.func33 rfl ?_
 refine zf (ze (za (zz (some 1) (Instr.box 47 (vA (zN x))) (vP w.heap.size 0) (zN x) 47 ?_)))
 intro w1 hBw1 hEw1
 have hzw1:=hEw1.size;have hlw1:=hBw1.lt
 refine za (zz (some 2) (Instr.alloc 23 true (.tuple #[])) (vP w1.heap.size 0) (zC Dig.zero) 23 ?_)
 intro w2 hBw2 hEw2
 have hzw2:=hEw2.size;have hlw2:=hBw2.lt
 refine zg (zb (zf (ze (za (zi (some 3) (Instr.loadAt 47 (vP w.heap.size 0)) (vA (zN x)) (zI (vs:=zN x) ((hBw1.ext hEw2).all) (by rw [zac];kernel_rfl)) ?_)))))
 refine za (zk (some 4) (zmx x _) ?_)
 rintro _ w3 ⟨a1,ca1,rfl,hFz1_0,hEw3⟩
 have hzw3:=hEw3.size
 have hlea1:=hFz1_0.le
 have hba1:=hFz1_0.bs
 refine za (zk (some 5) (zqw _ hba1 (by unfold zbF;split<;>decide)) ?_)
 rintro _ w4 ⟨rfl,hEw4⟩
 have hzw4:=hEw4.size
 refine za (zE 23 w1.heap.size 0 23 (vA (zC (zQ (zP x)))) (zC Dig.zero) (zC (zQ (zP x))) (((hBw2.ext hEw3)).ext hEw4) (by rw [zab];kernel_rfl) (by first |(simp;done)|(simp;omega)) (zaX _) ?_)
 intro w5 hBw5 hCw5
 have hzw5:=hCw5.size
 rw [zq _ _ (by simp)] at hBw5
 refine zg (zb (zp (zbA (show zS Tryz.prog 6 _ _ (.cell 2 23) (vA (zC (zQ (zP x)))) from ⟨⟨w1.heap.size,0,none⟩,(by kernel_rfl),zM (T:=23) (vs:=zC (zQ (zP x))) (hBw5).all (by rw [zab];kernel_rfl)⟩) ?_)))
 have hX1:Ext w w5:=(Ext.own (((hEw1.trans hEw2).trans hEw3).trans hEw4) hCw5 (by omega))
 exact ⟨rfl,hX1⟩
end Go.Proofs.YtgdpdnokcnhgnaaGreatDoor
