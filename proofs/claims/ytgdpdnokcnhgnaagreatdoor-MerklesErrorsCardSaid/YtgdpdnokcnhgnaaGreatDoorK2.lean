/- Lemmas and walks: what each function does, by its own code. No condition beyond those of each statement. -/
import Derived.Test.YtgdpdnokcnhgnaaGreatDoorK1
import Derived.ProofKit
import Derived.OpenShut
import Derived.ChangeOld
import Derived.Deep.Slices
import Derived.LaidMore
import Derived.Stop.Joined
set_option linter.all false
set_option linter.unusedVariables false
namespace Go.Proofs.YtgdpdnokcnhgnaaGreatDoor
open Go Go.RowKit Go.Cs
set_option maxRecDepth 100000
theorem zvS (n:Int) (a_l:Option Addr) (n_l c_l:Nat) (a_s:Option Addr) (n_s c_s:Nat) (w:World) (hp0:¬(1≤n∧n≤4096)):
  Calls Tryz.prog 16 #[(.int .i64 n),(.slice a_l n_l c_l),(.slice a_s n_s c_s)] w (Ret fun r w'=>r=(.tuple #[(vA [(vI 0),(.slice none 0 0)]),(vI 1)])∧Ext w w'):=by
 refine zL (n:=177) (σ:= [(0,(.int .i64 n)),(1,(.slice a_l n_l c_l)),(2,(.slice a_s n_s c_s))]) Tryz.func16 rfl ?_
 refine zf (ze (zb (zt (some 6) (Instr.alloc 50 true (.tuple #[])) (vP w.heap.size 0) ([(vI 0),(.slice none 0 0)]) 50 ?_)))
 intro w1 hBw1 hEw1
 have hzw1:=hEw1.size;have hlw1:=hBw1.lt
 refine zd 1 [(7,(vI 0))] (zg (zc (zf (ze (zd 1 [(28,(.int .i64 n))] (zb (zi (some 29) (znQ n _ (by omega)) ?_)))))))
 rintro _ w2 ⟨a1,a2,rfl,hFz1_0,hFz1_1,hEw2⟩
 have hzw2:=hEw2.size
 have hlea1:=hFz1_0.le
 have hlea2:=hFz1_1.le
 refine zd 3 [(31,(vI 1)),(30,(vA [(vI 0),(.slice a1 0 0),(.slice a2 0 0)])),(27,(.tuple #[(vA [(vI 0),(.slice a1 0 0),(.slice a2 0 0)]),(vI 1)]))] (zb (zt (some 8) (Instr.alloc 106 true (.tuple #[])) (vP w2.heap.size 0) ([(vI 0),(.slice none 0 0),(.slice none 0 0)]) 106 ?_))
 intro w3 hBw3 hEw3
 have hzw3:=hEw3.size;have hlw3:=hBw3.lt
 refine zb (zz 106 w2.heap.size 0 106 (vA [(vI 0),(.slice a1 0 0),(.slice a2 0 0)]) ([(vI 0),(.slice none 0 0),(.slice none 0 0)]) ([(vI 0),(.slice a1 0 0),(.slice a2 0 0)]) hBw3 (by kernel_rfl) (by first | decide |(simp;done)|(simp;omega)) (by simp [Value.oneCell']) ?_)
 intro w4 hBw4 hCw4
 have hzw4:=hCw4.size
 rw [zm _ _ (by kernel_rfl)] at hBw4
 refine zd 1 [(9,(vI 1))] (zg (zc (zf (zf (ze (zd 1 [(32,(vI 1))] (zb (zat (some 33) (((1:Nat):Int) !=((0:Nat):Int)) true (zcq (by omega)) ?_))))))))
 refine zg (zc (zF (zf (ze (zd 2 [(35,(vI 1)),(34,(vA [(vI 0),(.slice none 0 0)]))] ?_)))))
 have hK1:=(((((hBw1.ext hEw2)).ext hEw3)).chg hCw4 (fun hs=>by have h:_=_:=hs;omega))
 refine zb (zz 50 w.heap.size 0 50 (vA [(vI 0),(.slice none 0 0)]) ([(vI 0),(.slice none 0 0)]) ([(vI 0),(.slice none 0 0)]) hK1 (by kernel_rfl) (by first | decide |(simp;done)|(simp;omega)) (by simp [Value.oneCell']) ?_)
 have hK2:=(((((hBw1.ext hEw2)).ext hEw3)).chg hCw4 (fun hs=>by have h:_=_:=hs;omega))
 intro w5 hBw5 hCw5
 have hzw5:=hCw5.size
 rw [zm _ _ (by kernel_rfl)] at hBw5
 refine zd 1 [(7,(vI 1))] (zg (zc (zx (zu (zas (show zab Tryz.prog 177 _ _ (.cell 6 50) (vA [(vI 0),(.slice none 0 0)]) from ⟨⟨w.heap.size,0,none⟩,(by kernel_rfl),zP (T:=50) (vs:= [(vI 0),(.slice none 0 0)]) (hBw5).all (by kernel_rfl)⟩) (show zab Tryz.prog 177 _ _ (.tmp 7) (vI 1) by (show _=_;kernel_rfl)) ?_)))))
 have hX1:Ext w w5:=(Ext.own (Ext.own ((hEw1.trans hEw2).trans hEw3) hCw4 (by omega)) hCw5 (by omega))
 exact ⟨rfl,hX1⟩
theorem zmW (n:Nat) (a_l:Option Addr) (n_l c_l:Nat) (a_s:Option Addr) (n_s c_s:Nat) (w:World) (hp0:1≤n) (hp1:n≤4096) (hp2:n_l≠n):
  Calls Tryz.prog 16 #[(vI n),(.slice a_l n_l c_l),(.slice a_s n_s c_s)] w (Ret fun r w'=>r=(.tuple #[(vA [(vI 0),(.slice none 0 0)]),(vI 1)])∧Ext w w'):=by
 refine zL (n:=177) (σ:= [(0,(vI n)),(1,(.slice a_l n_l c_l)),(2,(.slice a_s n_s c_s))]) Tryz.func16 rfl ?_
 have h5:=zaz n
 refine zf (ze (zb (zt (some 6) (Instr.alloc 50 true (.tuple #[])) (vP w.heap.size 0) ([(vI 0),(.slice none 0 0)]) 50 ?_)))
 intro w1 hBw1 hEw1
 have hzw1:=hEw1.size;have hlw1:=hBw1.lt
 refine zd 1 [(7,(vI 0))] (zg (zc (zf (ze (zd 1 [(28,(vI n))] (zb (zi (some 29) (ziS n _ (by omega) (by omega)) ?_)))))))
 rintro _ w2 ⟨a1,ca1,a2,ca2,rfl,hFz1_0,hFz1_1,hEw2⟩
 have hzw2:=hEw2.size
 have hlea1:=hFz1_0.le
 have hlea2:=hFz1_1.le
 refine zd 3 [(31,(vI 0)),(30,(vA [(vI n),(.slice a1 (hgt n+1) ca1),(.slice a2 (hgt n+1) ca2)])),(27,(.tuple #[(vA [(vI n),(.slice a1 (hgt n+1) ca1),(.slice a2 (hgt n+1) ca2)]),(vI 0)]))] (zb (zt (some 8) (Instr.alloc 106 true (.tuple #[])) (vP w2.heap.size 0) ([(vI 0),(.slice none 0 0),(.slice none 0 0)]) 106 ?_))
 intro w3 hBw3 hEw3
 have hzw3:=hEw3.size;have hlw3:=hBw3.lt
 refine zb (zz 106 w2.heap.size 0 106 (vA [(vI n),(.slice a1 (hgt n+1) ca1),(.slice a2 (hgt n+1) ca2)]) ([(vI 0),(.slice none 0 0),(.slice none 0 0)]) ([(vI n),(.slice a1 (hgt n+1) ca1),(.slice a2 (hgt n+1) ca2)]) hBw3 (by kernel_rfl) (by first | decide |(simp;done)|(simp;omega)) (by simp [Value.oneCell']) ?_)
 intro w4 hBw4 hCw4
 have hzw4:=hCw4.size
 rw [zm _ _ (by kernel_rfl)] at hBw4
 refine zd 1 [(9,(vI 0))] (zg (zc (zf (zf (ze (zd 1 [(32,(vI 0))] (zb (zat (some 33) (((0:Nat):Int) !=((0:Nat):Int)) false (zaL (by omega)) ?_))))))))
 refine zg (zc (zr (zy (zc (zf (ze (zd 1 [(10,(.func (.func 46) #[] #[]))] (zg (zc ?_)))))))))
 refine zf (zf (ze (zd 3 [(38,(vI n)),(37,(vI n_l)),(36,(.slice a_l n_l c_l))] (zb (zat (some 39) (((n_l:Nat):Int) !=((n:Nat):Int)) true (zcq (by omega)) ?_)))))
 refine zd 12 [(51,vT),(50,undef),(49,undef),(48,undef),(47,vT),(46,vT),(45,undef),(44,undef),(43,undef),(42,undef),(41,undef),(40,vT)] (zg (zc (zF (zf (ze (zd 1 [(52,(vA [(vI 0),(.slice none 0 0)]))] ?_))))))
 have hK1:=(((((hBw1.ext hEw2)).ext hEw3)).chg hCw4 (fun hs=>by have h:_=_:=hs;omega))
 refine zb (zz 50 w.heap.size 0 50 (vA [(vI 0),(.slice none 0 0)]) ([(vI 0),(.slice none 0 0)]) ([(vI 0),(.slice none 0 0)]) hK1 (by kernel_rfl) (by first | decide |(simp;done)|(simp;omega)) (by simp [Value.oneCell']) ?_)
 have hK2:=(((((hBw1.ext hEw2)).ext hEw3)).chg hCw4 (fun hs=>by have h:_=_:=hs;omega))
 intro w5 hBw5 hCw5
 have hzw5:=hCw5.size
 rw [zm _ _ (by kernel_rfl)] at hBw5
 refine zd 1 [(7,(vI 1))] (zg (zc (zx (zu (zas (show zab Tryz.prog 177 _ _ (.cell 6 50) (vA [(vI 0),(.slice none 0 0)]) from ⟨⟨w.heap.size,0,none⟩,(by kernel_rfl),zP (T:=50) (vs:= [(vI 0),(.slice none 0 0)]) (hBw5).all (by kernel_rfl)⟩) (show zab Tryz.prog 177 _ _ (.tmp 7) (vI 1) by (show _=_;kernel_rfl)) ?_)))))
 have hX1:Ext w w5:=(Ext.own (Ext.own ((hEw1.trans hEw2).trans hEw3) hCw4 (by omega)) hCw5 (by omega))
 exact ⟨rfl,hX1⟩
theorem zvT (n:Nat) (a_l:Option Addr) (n_l c_l:Nat) (a_s:Option Addr) (n_s c_s:Nat) (w:World) (hp0:1≤n) (hp1:n≤4096) (hp2:n_l=n) (hp3:n_s≠tot n):
  Calls Tryz.prog 16 #[(vI n),(.slice a_l n_l c_l),(.slice a_s n_s c_s)] w (Ret fun r w'=>r=(.tuple #[(vA [(vI 0),(.slice none 0 0)]),(vI 1)])∧Ext w w'):=by
 refine zL (n:=177) (σ:= [(0,(vI n)),(1,(.slice a_l n_l c_l)),(2,(.slice a_s n_s c_s))]) Tryz.func16 rfl ?_
 have h5:=zaz n
 refine zf (ze (zb (zt (some 6) (Instr.alloc 50 true (.tuple #[])) (vP w.heap.size 0) ([(vI 0),(.slice none 0 0)]) 50 ?_)))
 intro w1 hBw1 hEw1
 have hzw1:=hEw1.size;have hlw1:=hBw1.lt
 refine zd 1 [(7,(vI 0))] (zg (zc (zf (ze (zd 1 [(28,(vI n))] (zb (zi (some 29) (ziS n _ (by omega) (by omega)) ?_)))))))
 rintro _ w2 ⟨a1,ca1,a2,ca2,rfl,hFz1_0,hFz1_1,hEw2⟩
 have hzw2:=hEw2.size
 have hlea1:=hFz1_0.le
 have hlea2:=hFz1_1.le
 refine zd 3 [(31,(vI 0)),(30,(vA [(vI n),(.slice a1 (hgt n+1) ca1),(.slice a2 (hgt n+1) ca2)])),(27,(.tuple #[(vA [(vI n),(.slice a1 (hgt n+1) ca1),(.slice a2 (hgt n+1) ca2)]),(vI 0)]))] (zb (zt (some 8) (Instr.alloc 106 true (.tuple #[])) (vP w2.heap.size 0) ([(vI 0),(.slice none 0 0),(.slice none 0 0)]) 106 ?_))
 intro w3 hBw3 hEw3
 have hzw3:=hEw3.size;have hlw3:=hBw3.lt
 refine zb (zz 106 w2.heap.size 0 106 (vA [(vI n),(.slice a1 (hgt n+1) ca1),(.slice a2 (hgt n+1) ca2)]) ([(vI 0),(.slice none 0 0),(.slice none 0 0)]) ([(vI n),(.slice a1 (hgt n+1) ca1),(.slice a2 (hgt n+1) ca2)]) hBw3 (by kernel_rfl) (by first | decide |(simp;done)|(simp;omega)) (by simp [Value.oneCell']) ?_)
 intro w4 hBw4 hCw4
 have hzw4:=hCw4.size
 rw [zm _ _ (by kernel_rfl)] at hBw4
 refine zd 1 [(9,(vI 0))] (zg (zc (zf (zf (ze (zd 1 [(32,(vI 0))] (zb (zat (some 33) (((0:Nat):Int) !=((0:Nat):Int)) false (zaL (by omega)) ?_))))))))
 refine zg (zc (zr (zy (zc (zf (ze (zd 1 [(10,(.func (.func 46) #[] #[]))] (zg (zc ?_)))))))))
 refine zf (zf (ze (zd 3 [(38,(vI n)),(37,(vI n_l)),(36,(.slice a_l n_l c_l))] (zb (zat (some 39) (((n_l:Nat):Int) !=((n:Nat):Int)) false (zaL (by omega)) ?_)))))
 refine zd 3 [(42,(vI n_s)),(41,(.slice a_s n_s c_s)),(40,vF)] (zb (zj (some 43) (Instr.loadAt 106 (vP w2.heap.size 0)) (vA [(vI n),(.slice a1 (hgt n+1) ca1),(.slice a2 (hgt n+1) ca2)]) (zD (vs:= [(vI n),(.slice a1 (hgt n+1) ca1),(.slice a2 (hgt n+1) ca2)]) (hBw4.all)) ?_))
 refine zb (zi (some 44) (zfF n _ (((hFz1_0.ext hEw3)).chg hCw4 (fun k h1 h2 hs=>by have h:k=_:=hs;omega)) (((hFz1_1.ext hEw3)).chg hCw4 (fun k h1 h2 hs=>by have h:k=_:=hs;omega)) (by first | rfl | assumption) (by first | rfl | assumption) (by omega) (by omega)) ?_)
 rintro _ w5 ⟨rfl,hEw5⟩
 have hzw5:=hEw5.size
 refine zb (zat (some 45) (((n_s:Nat):Int) !=((tot n:Nat):Int)) true (zcq (by omega)) ?_)
 refine zd 6 [(51,vT),(50,undef),(49,undef),(48,undef),(47,vT),(46,vT)] (zg (zc (zF (zf (ze (zd 1 [(52,(vA [(vI 0),(.slice none 0 0)]))] ?_))))))
 have hK1:=(((((((hBw1.ext hEw2)).ext hEw3)).chg hCw4 (fun hs=>by have h:_=_:=hs;omega))).ext hEw5)
 refine zb (zz 50 w.heap.size 0 50 (vA [(vI 0),(.slice none 0 0)]) ([(vI 0),(.slice none 0 0)]) ([(vI 0),(.slice none 0 0)]) hK1 (by kernel_rfl) (by first | decide |(simp;done)|(simp;omega)) (by simp [Value.oneCell']) ?_)
 have hK2:=(((((((hBw1.ext hEw2)).ext hEw3)).chg hCw4 (fun hs=>by have h:_=_:=hs;omega))).ext hEw5)
 intro w6 hBw6 hCw6
 have hzw6:=hCw6.size
 rw [zm _ _ (by kernel_rfl)] at hBw6
 refine zd 1 [(7,(vI 1))] (zg (zc (zx (zu (zas (show zab Tryz.prog 177 _ _ (.cell 6 50) (vA [(vI 0),(.slice none 0 0)]) from ⟨⟨w.heap.size,0,none⟩,(by kernel_rfl),zP (T:=50) (vs:= [(vI 0),(.slice none 0 0)]) (hBw6).all (by kernel_rfl)⟩) (show zab Tryz.prog 177 _ _ (.tmp 7) (vI 1) by (show _=_;kernel_rfl)) ?_)))))
 have hX1:Ext w w6:=(Ext.own ((Ext.own ((hEw1.trans hEw2).trans hEw3) hCw4 (by omega)).trans hEw5) hCw6 (by omega))
 exact ⟨rfl,hX1⟩
theorem zvU (n:Nat) (a_l:Option Addr) (n_l c_l:Nat) {lo_z hi_z:Nat} {a_z:Option Addr} {n_z c_z:Nat} {z:List Int} (w:World) (h_z:Es (iv .i64) lo_z hi_z w a_z n_z c_z z) (hp0:1≤n) (hp1:n≤4096) (hp2:n_l=n) (hp3:n_z=tot n) (hp4:¬∀i,z.getD i 0=0∨z.getD i 0=1):
  Calls Tryz.prog 16 #[(vI n),(.slice a_l n_l c_l),(.slice a_z n_z c_z)] w (Ret fun r w'=>r=(.tuple #[(vA [(vI 0),(.slice none 0 0)]),(vI 1)])∧Ext w w'):=by
 refine zL (n:=177) (σ:= [(0,(vI n)),(1,(.slice a_l n_l c_l)),(2,(.slice a_z n_z c_z))]) Tryz.func16 rfl ?_
 replace h_z:=h_z.now;have hle_z:=h_z.le
 have h5:=zaz n
 refine zf (ze (zb (zt (some 6) (Instr.alloc 50 true (.tuple #[])) (vP w.heap.size 0) ([(vI 0),(.slice none 0 0)]) 50 ?_)))
 intro w1 hBw1 hEw1
 have hzw1:=hEw1.size;have hlw1:=hBw1.lt
 refine zd 1 [(7,(vI 0))] (zg (zc (zf (ze (zd 1 [(28,(vI n))] (zb (zi (some 29) (ziS n _ (by omega) (by omega)) ?_)))))))
 rintro _ w2 ⟨a1,ca1,a2,ca2,rfl,hFz1_0,hFz1_1,hEw2⟩
 have hzw2:=hEw2.size
 have hlea1:=hFz1_0.le
 have hlea2:=hFz1_1.le
 refine zd 3 [(31,(vI 0)),(30,(vA [(vI n),(.slice a1 (hgt n+1) ca1),(.slice a2 (hgt n+1) ca2)])),(27,(.tuple #[(vA [(vI n),(.slice a1 (hgt n+1) ca1),(.slice a2 (hgt n+1) ca2)]),(vI 0)]))] (zb (zt (some 8) (Instr.alloc 106 true (.tuple #[])) (vP w2.heap.size 0) ([(vI 0),(.slice none 0 0),(.slice none 0 0)]) 106 ?_))
 intro w3 hBw3 hEw3
 have hzw3:=hEw3.size;have hlw3:=hBw3.lt
 refine zb (zz 106 w2.heap.size 0 106 (vA [(vI n),(.slice a1 (hgt n+1) ca1),(.slice a2 (hgt n+1) ca2)]) ([(vI 0),(.slice none 0 0),(.slice none 0 0)]) ([(vI n),(.slice a1 (hgt n+1) ca1),(.slice a2 (hgt n+1) ca2)]) hBw3 (by kernel_rfl) (by first | decide |(simp;done)|(simp;omega)) (by simp [Value.oneCell']) ?_)
 intro w4 hBw4 hCw4
 have hzw4:=hCw4.size
 rw [zm _ _ (by kernel_rfl)] at hBw4
 refine zd 1 [(9,(vI 0))] (zg (zc (zf (zf (ze (zd 1 [(32,(vI 0))] (zb (zat (some 33) (((0:Nat):Int) !=((0:Nat):Int)) false (zaL (by omega)) ?_))))))))
 refine zg (zc (zr (zy (zc (zf (ze (zd 1 [(10,(.func (.func 46) #[] #[]))] (zg (zc ?_)))))))))
 refine zf (zf (ze (zd 3 [(38,(vI n)),(37,(vI n_l)),(36,(.slice a_l n_l c_l))] (zb (zat (some 39) (((n_l:Nat):Int) !=((n:Nat):Int)) false (zaL (by omega)) ?_)))))
 refine zd 3 [(42,(vI n_z)),(41,(.slice a_z n_z c_z)),(40,vF)] (zb (zj (some 43) (Instr.loadAt 106 (vP w2.heap.size 0)) (vA [(vI n),(.slice a1 (hgt n+1) ca1),(.slice a2 (hgt n+1) ca2)]) (zD (vs:= [(vI n),(.slice a1 (hgt n+1) ca1),(.slice a2 (hgt n+1) ca2)]) (hBw4.all)) ?_))
 refine zb (zi (some 44) (zfF n _ (((hFz1_0.ext hEw3)).chg hCw4 (fun k h1 h2 hs=>by have h:k=_:=hs;omega)) (((hFz1_1.ext hEw3)).chg hCw4 (fun k h1 h2 hs=>by have h:k=_:=hs;omega)) (by first | rfl | assumption) (by first | rfl | assumption) (by omega) (by omega)) ?_)
 rintro _ w5 ⟨rfl,hEw5⟩
 have hzw5:=hEw5.size
 refine zb (zat (some 45) (((n_z:Nat):Int) !=((tot n:Nat):Int)) false (zaL (by omega)) ?_)
 refine zd 4 [(49,(.func (.func 46) #[] #[])),(48,(.slice a_z n_z c_z)),(47,vF),(46,vF)] ?_
 have hK1:=(((((((((h_z.ext hEw1)).ext hEw2)).ext hEw3)).chg hCw4 (fun k h1 h2 hs=>by have h:k=_:=hs;omega))).ext hEw5)
 refine zb (zi (some 50) (zv2 _ hK1 (by assumption)) ?_)
 rintro _ w6 ⟨rfl,hEw6⟩
 have hzw6:=hEw6.size
 refine zd 1 [(51,vT)] (zg (zc (zF (zf (ze (zd 1 [(52,(vA [(vI 0),(.slice none 0 0)]))] ?_))))))
 have hK2:=(((((((((hBw1.ext hEw2)).ext hEw3)).chg hCw4 (fun hs=>by have h:_=_:=hs;omega))).ext hEw5)).ext hEw6)
 refine zb (zz 50 w.heap.size 0 50 (vA [(vI 0),(.slice none 0 0)]) ([(vI 0),(.slice none 0 0)]) ([(vI 0),(.slice none 0 0)]) hK2 (by kernel_rfl) (by first | decide |(simp;done)|(simp;omega)) (by simp [Value.oneCell']) ?_)
 have hK3:=(((((((((hBw1.ext hEw2)).ext hEw3)).chg hCw4 (fun hs=>by have h:_=_:=hs;omega))).ext hEw5)).ext hEw6)
 intro w7 hBw7 hCw7
 have hzw7:=hCw7.size
 rw [zm _ _ (by kernel_rfl)] at hBw7
 refine zd 1 [(7,(vI 1))] (zg (zc (zx (zu (zas (show zab Tryz.prog 177 _ _ (.cell 6 50) (vA [(vI 0),(.slice none 0 0)]) from ⟨⟨w.heap.size,0,none⟩,(by kernel_rfl),zP (T:=50) (vs:= [(vI 0),(.slice none 0 0)]) (hBw7).all (by kernel_rfl)⟩) (show zab Tryz.prog 177 _ _ (.tmp 7) (vI 1) by (show _=_;kernel_rfl)) ?_)))))
 have hX1:Ext w w7:=(Ext.own (((Ext.own ((hEw1.trans hEw2).trans hEw3) hCw4 (by omega)).trans hEw5).trans hEw6) hCw7 (by omega))
 exact ⟨rfl,hX1⟩
theorem zvR (n:Nat) {lo_l hi_l:Nat} {a_l:Option Addr} {n_l c_l:Nat} {l:List Rec} {lo_z hi_z:Nat} {a_z:Option Addr} {n_z c_z:Nat} {z:List Int} (q:Nat) (w:World) (h_l:Ms zE 35 lo_l hi_l w a_l n_l c_l l) (h_z:Es (iv .i64) lo_z hi_z w a_z n_z c_z z) (hp0:1≤n) (hp1:n≤4096) (hp2:n_l=n) (hp3:n_z=tot n) (hp4:∀i,z.getD i 0=0∨z.getD i 0=1) (hp5:q<n_l) (hp6:∀k,k<q→zaB (l.getD k Rec.zero)=0) (hp7:¬zaB (l.getD q Rec.zero)=0):
  Calls Tryz.prog 16 #[(vI n),(.slice a_l n_l c_l),(.slice a_z n_z c_z)] w (Ret fun r w'=>r=(.tuple #[(vA [(vI 0),(.slice none 0 0)]),(vI 1)])∧Ext w w'):=by
 refine zL (n:=177) (σ:= [(0,(vI n)),(1,(.slice a_l n_l c_l)),(2,(.slice a_z n_z c_z))]) Tryz.func16 rfl ?_
 replace h_l:=h_l.now;have hle_l:=h_l.le
 replace h_z:=h_z.now;have hle_z:=h_z.le
 have h5:=zaz n
 have hlen:=h_l.len_eq
 refine zf (ze (zb (zt (some 6) (Instr.alloc 50 true (.tuple #[])) (vP w.heap.size 0) ([(vI 0),(.slice none 0 0)]) 50 ?_)))
 intro w1 hBw1 hEw1
 have hzw1:=hEw1.size;have hlw1:=hBw1.lt
 refine zd 1 [(7,(vI 0))] (zg (zc (zf (ze (zd 1 [(28,(vI n))] (zb (zi (some 29) (ziS n _ (by omega) (by omega)) ?_)))))))
 rintro _ w2 ⟨a1,ca1,a2,ca2,rfl,hFz1_0,hFz1_1,hEw2⟩
 have hzw2:=hEw2.size
 have hlea1:=hFz1_0.le
 have hlea2:=hFz1_1.le
 refine zd 3 [(31,(vI 0)),(30,(vA [(vI n),(.slice a1 (hgt n+1) ca1),(.slice a2 (hgt n+1) ca2)])),(27,(.tuple #[(vA [(vI n),(.slice a1 (hgt n+1) ca1),(.slice a2 (hgt n+1) ca2)]),(vI 0)]))] (zb (zt (some 8) (Instr.alloc 106 true (.tuple #[])) (vP w2.heap.size 0) ([(vI 0),(.slice none 0 0),(.slice none 0 0)]) 106 ?_))
 intro w3 hBw3 hEw3
 have hzw3:=hEw3.size;have hlw3:=hBw3.lt
 refine zb (zz 106 w2.heap.size 0 106 (vA [(vI n),(.slice a1 (hgt n+1) ca1),(.slice a2 (hgt n+1) ca2)]) ([(vI 0),(.slice none 0 0),(.slice none 0 0)]) ([(vI n),(.slice a1 (hgt n+1) ca1),(.slice a2 (hgt n+1) ca2)]) hBw3 (by kernel_rfl) (by first | decide |(simp;done)|(simp;omega)) (by simp [Value.oneCell']) ?_)
 intro w4 hBw4 hCw4
 have hzw4:=hCw4.size
 rw [zm _ _ (by kernel_rfl)] at hBw4
 refine zd 1 [(9,(vI 0))] (zg (zc (zf (zf (ze (zd 1 [(32,(vI 0))] (zb (zat (some 33) (((0:Nat):Int) !=((0:Nat):Int)) false (zaL (by omega)) ?_))))))))
 refine zg (zc (zr (zy (zc (zf (ze (zd 1 [(10,(.func (.func 46) #[] #[]))] (zg (zc ?_)))))))))
 refine zf (zf (ze (zd 3 [(38,(vI n)),(37,(vI n_l)),(36,(.slice a_l n_l c_l))] (zb (zat (some 39) (((n_l:Nat):Int) !=((n:Nat):Int)) false (zaL (by omega)) ?_)))))
 refine zd 3 [(42,(vI n_z)),(41,(.slice a_z n_z c_z)),(40,vF)] (zb (zj (some 43) (Instr.loadAt 106 (vP w2.heap.size 0)) (vA [(vI n),(.slice a1 (hgt n+1) ca1),(.slice a2 (hgt n+1) ca2)]) (zD (vs:= [(vI n),(.slice a1 (hgt n+1) ca1),(.slice a2 (hgt n+1) ca2)]) (hBw4.all)) ?_))
 refine zb (zi (some 44) (zfF n _ (((hFz1_0.ext hEw3)).chg hCw4 (fun k h1 h2 hs=>by have h:k=_:=hs;omega)) (((hFz1_1.ext hEw3)).chg hCw4 (fun k h1 h2 hs=>by have h:k=_:=hs;omega)) (by first | rfl | assumption) (by first | rfl | assumption) (by omega) (by omega)) ?_)
 rintro _ w5 ⟨rfl,hEw5⟩
 have hzw5:=hEw5.size
 refine zb (zat (some 45) (((n_z:Nat):Int) !=((tot n:Nat):Int)) false (zaL (by omega)) ?_)
 refine zd 4 [(49,(.func (.func 46) #[] #[])),(48,(.slice a_z n_z c_z)),(47,vF),(46,vF)] ?_
 have hK1:=(((((((((h_z.ext hEw1)).ext hEw2)).ext hEw3)).chg hCw4 (fun k h1 h2 hs=>by have h:k=_:=hs;omega))).ext hEw5)
 refine zb (zi (some 50) (zqg _ hK1 (by assumption)) ?_)
 rintro _ w6 ⟨rfl,hEw6⟩
 have hzw6:=hEw6.size
 refine zd 1 [(51,vF)] (zg (zc (zr (zy (zc (zf (zf (ze (zd 3 [(55,(vI 0)),(54,(vI n_l)),(53,(.slice a_l n_l c_l))] ?_)))))))))
 refine zg (zc (zI (zah (X:=Nat) (fun i=> [(55,(vI i))]) [7,12,13,56,57,58,59,60,61,62,63,64,65] (fun i w7=>i≤q∧Ext w6 w7) (fun i=>q-i) 0 (by kernel_rfl) ⟨Nat.zero_le _,Ext.refl _⟩ ?_)))
 rintro i dw7 w7 ⟨hi,hE0⟩
 have hz0:=hE0.size
 have hcl:=zdf (l.getD i Rec.zero)
 have hiq:i=q→¬zaB (l.getD i Rec.zero)=0:=fun hh=>by rw [hh];exact hp7
 refine zf (ze (zb (zat (some 56) (decide (((i:Nat):Int)<((n_l:Nat):Int))) true (zeu (by omega)) ?_)))
 refine zg (zc (zf (zF (zy (zc (zf (zI (zf (ze ?_)))))))))
 obtain ⟨b1,o1,rfl⟩:=h_l.addr (by omega) (by decide)
 refine zb (zj (some 57) (Instr.indexAt 39 (.slice (pA b1 o1) n_l c_l) (vI i)) (vP b1 (o1+i*35)) (zap (E:=33) (sz:=35) (by omega)) ?_)
 have hK2:=(((((((((((((h_l.ext hEw1)).ext hEw2)).ext hEw3)).chg hCw4 (fun k h1 h2 hs=>by have h:k=_:=hs;omega))).ext hEw5)).ext hEw6)).ext hE0)
 refine zb (zj (some 58) (Instr.loadAt 33 (vP b1 (o1+i*35))) (vA (zE (l.getD i Rec.zero))) (zD (vs:=zE (l.getD i Rec.zero)) (hK2.at Rec.zero (by omega)) (by rw [zY];kernel_rfl)) ?_)
 refine zb (zt (some 12) (Instr.alloc 33 true (.tuple #[])) (vP w7.heap.size 0) (zE Rec.zero) 33 ?_)
 intro w8 hBw8 hEw8
 have hzw8:=hEw8.size;have hlw8:=hBw8.lt
 refine zb (zz 33 w7.heap.size 0 33 (vA (zE (l.getD i Rec.zero))) (zE Rec.zero) (zE (l.getD i Rec.zero)) hBw8 (by rw [zY];kernel_rfl) (by first |(simp;done)|(simp;omega)) (zaU _) ?_)
 intro w9 hBw9 hCw9
 have hzw9:=hCw9.size
 rw [zm _ _ (by simp)] at hBw9
 refine zg (zc (zf (ze (zb (zj (some 59) (Instr.loadAt 33 (vP w7.heap.size 0)) (vA (zE (l.getD i Rec.zero))) (zD (vs:=zE (l.getD i Rec.zero)) (hBw9.all) (by rw [zY];kernel_rfl)) ?_)))))
 refine zb (zi (some 60) (zen (l.getD i Rec.zero) _) ?_)
 rintro _ w10 ⟨rfl,hEw10⟩
 have hzw10:=hEw10.size
 refine zd 1 [(13,(vI (zaB (l.getD i Rec.zero))))] (zg (zc (zf (ze (zd 1 [(61,(vI (zaB (l.getD i Rec.zero))))] (zb (zO (some 62) ((((zaB (l.getD i Rec.zero):Nat):Int) !=((0:Nat):Int))) (fun hc62=> ?_) (fun hc62=> ?_))))))))
 ·replace hc62:¬(zaB (l.getD i Rec.zero)=0):=by have:=zbY hc62;omega
  refine zg (zc (zF (zf (ze (zd 2 [(64,(vI (zaB (l.getD i Rec.zero)))),(63,(vA [(vI 0),(.slice none 0 0)]))] ?_)))))
  have hK3:=(((((((((((((((((hBw1.ext hEw2)).ext hEw3)).chg hCw4 (fun hs=>by have h:_=_:=hs;omega))).ext hEw5)).ext hEw6)).ext hE0)).ext hEw8)).chg hCw9 (fun hs=>by have h:_=_:=hs;omega))).ext hEw10)
  refine zb (zz 50 w.heap.size 0 50 (vA [(vI 0),(.slice none 0 0)]) ([(vI 0),(.slice none 0 0)]) ([(vI 0),(.slice none 0 0)]) hK3 (by kernel_rfl) (by first | decide |(simp;done)|(simp;omega)) (by simp [Value.oneCell']) ?_)
  have hK4:=(((((((((((((((((hBw1.ext hEw2)).ext hEw3)).chg hCw4 (fun hs=>by have h:_=_:=hs;omega))).ext hEw5)).ext hEw6)).ext hE0)).ext hEw8)).chg hCw9 (fun hs=>by have h:_=_:=hs;omega))).ext hEw10)
  intro w11 hBw11 hCw11
  have hzw11:=hCw11.size
  rw [zm _ _ (by kernel_rfl)] at hBw11
  refine zd 1 [(7,(vI (zaB (l.getD i Rec.zero))))] (zg (zc (zx (zA (zu (zu (zA (zu (zas (show zab Tryz.prog 177 _ _ (.cell 6 50) (vA [(vI 0),(.slice none 0 0)]) from ⟨⟨w.heap.size,0,none⟩,(by kernel_rfl),zP (T:=50) (vs:= [(vI 0),(.slice none 0 0)]) (hBw11).all (by kernel_rfl)⟩) (show zab Tryz.prog 177 _ _ (.tmp 7) (vI (zaB (l.getD i Rec.zero))) by (show _=_;kernel_rfl)) ?_)))))))))
  have hX1:Ext w w11:=(Ext.own ((Ext.own (((((Ext.own ((hEw1.trans hEw2).trans hEw3) hCw4 (by omega)).trans hEw5).trans hEw6).trans hE0).trans hEw8) hCw9 (by omega)).trans hEw10) hCw11 (by omega))
  exact ⟨by rw [show zaB (l.getD i Rec.zero)=1 from by omega],hX1⟩
 ·replace hc62:zaB (l.getD i Rec.zero)=0:=by have:=zbX hc62;omega
  refine zg (zc (zr (zy (zp (zc (ze (zb (zv (some 65) .i64 (IntKind.i64.wrap (((i:Nat):Int)+((1:Nat):Int))) (i+1) (zG (by omega) (by omega) (by omega)) ?_))))))))
  refine zd 1 [(55,(vI (i+1)))] (zg (zC ?_))
  have hX2:Ext w6 w10:=((Ext.own (hE0.trans hEw8) hCw9 (by omega)).trans hEw10)
  refine zS (i+1) ?_ ?_
  ·exact ⟨by have hne:i≠q:=(fun hh=>hiq hh (by omega));omega,hX2⟩
  ·first | omega |(dsimp only;omega)
theorem zvG (n:Int) {lo_l hi_l:Nat} {a_l:Option Addr} {n_l c_l:Nat} {l:List Rec} {lo_z hi_z:Nat} {a_z:Option Addr} {n_z c_z:Nat} {z:List Int} (w:World) (h_l:Ms zE 35 lo_l hi_l w a_l n_l c_l l) (h_z:Es (iv .i64) lo_z hi_z w a_z n_z c_z z) (hp0:¬(1≤n∧n≤4096∧(n_l:Int)=n∧n_z=tot n.toNat∧(∀i,z.getD i 0=0∨z.getD i 0=1)∧∀i,i<l.length→zaB (l.getD i Rec.zero)=0)):
  Calls Tryz.prog 16 #[(.int .i64 n),(.slice a_l n_l c_l),(.slice a_z n_z c_z)] w (Ret fun r w'=>r=(.tuple #[(vA [(vI 0),(.slice none 0 0)]),(vI 1)])∧Ext w w'):=by
 have hlen:=h_l.len_eq
 by_cases h:1≤n∧n≤4096
 ·obtain ⟨n,rfl⟩:=Int.eq_ofNat_of_zero_le (show 0≤n by omega)
  rw [Int.toNat_natCast] at hp0
  by_cases h2:n_l=n
  ·by_cases h3:n_z=tot n
   ·by_cases h4:∀i,z.getD i 0=0∨z.getD i 0=1
    ·obtain ⟨q,h6,h7,h8⟩:=ziF (fun i=>zaB (l.getD i Rec.zero)) l.length (fun hh=>hp0 ⟨by omega,by omega,by omega,h3,h4,hh⟩)
     exact zvR n q w h_l h_z (by omega) (by omega) h2 h3 h4 (by omega) h7 h8
    ·exact zvU n _ _ _ w h_z (by omega) (by omega) h2 h3 h4
   ·exact zvT n _ _ _ _ _ _ w (by omega) (by omega) h2 h3
  ·exact zmW n _ _ _ _ _ _ w (by omega) (by omega) h2
 ·exact zvS n _ _ _ _ _ _ w h
end Go.Proofs.YtgdpdnokcnhgnaaGreatDoor
namespace Go.Proofs.YtgdpdnokcnhgnaaGreatDoor
open Go Go.RowKit Go.Cs
set_option maxRecDepth 100000
theorem zh7 {lo_x hi_x:Nat} {a_x:Option Addr} {n_x c_x:Nat} {x:List Nod} (w:World) (h_x:Ms zK 274 lo_x hi_x w a_x n_x c_x x):
  Calls Tryz.prog 58 #[(.slice a_x n_x c_x)] w (Ret fun r w'=>∃a0,r=(.slice a0 n_x n_x)∧Ms zK 274 lo_x w'.heap.size w' a0 n_x n_x x∧w=w'):=by
 refine zL (n:=9) (σ:= [(0,(.slice a_x n_x c_x))]) Tryz.func58 rfl ?_
 replace h_x:=h_x.now;have hle_x:=h_x.le
 refine zf (ze (zd 1 [(2,(.slice none 0 0))] (zg (zc (zf (ze (zd 5 [(7,(vI n_x)),(6,(.slice a_x n_x c_x)),(5,(vI n_x)),(4,(.slice a_x n_x c_x)),(3,(.slice a_x n_x c_x))] ?_)))))))
 obtain ⟨a1,hR1,hS1⟩:=h_x.slice Tryz.prog 24 47 0 n_x n_x none (some (vI n_x)) (some (vI n_x))
 refine zb (zj (some 8) (Instr.sliceAt 24 (.slice a_x n_x c_x) none (some (vI n_x)) (some (vI n_x))) (.slice a1 (n_x-0) (n_x-0)) (hR1 _) ?_)
 refine zd 1 [(2,(.slice a1 (n_x-0) (n_x-0)))] (zg (zc (zx (zB (.slice a1 (n_x-0) (n_x-0)) ?_))))
 have hfin:=hS1
 rw [List.drop_zero,Nat.sub_zero,show x.take n_x=x from by rw [h_x.len_eq,List.take_length]] at hfin
 exact ⟨_,rfl,hfin.mono (Nat.le_refl _) (by omega),rfl⟩
set_option maxHeartbeats 4000000 in
theorem zgC (n:Nat) {lo_t hi_t:Nat} {a_t:Option Addr} {n_t c_t:Nat} {t:List Nod} (b:Nat) (w:World) (h_t:Ms zK 274 lo_t hi_t w a_t n_t c_t t) (hp0:1≤n) (hp1:n≤4096) (hp2:n_t=tot n) (hp3:zbJ n t=0) (hp4:b<n) (hg0:Gl 0 [vI 45,vI 33] w) (hg1:Gl 2 (w8C za2) w) (hg2:Gl 3 (zR kA) w) (hg3:Gl 1 [.iface 199 (.agg #[.pointer (some ⟨4,99,none⟩)])] w):
  Calls Tryz.prog 25 #[(vA [(vI n),(.slice a_t n_t c_t)]),(vI b)] w (Ret fun r w'=>∃a1,r=(.tuple #[(vA [(vI b),(.slice a1 (mny n t b) (mny n t b))]),(vI 0)])∧Ms zK 274 w.heap.size w'.heap.size w' a1 (mny n t b) (mny n t b) (zaR n t b (mny n t b))∧Ext w w'):=by
 refine zL (n:=83) (σ:= [(0,(vA [(vI n),(.slice a_t n_t c_t)])),(1,(vI b))]) Tryz.func25 rfl ?_
 replace h_t:=h_t.now;have hle_t:=h_t.le
 have hgl0:=hg0.lt
 have hgl1:=hg1.lt
 have hgl2:=hg2.lt
 have hgl3:=hg3.lt
 have h5:=zaz n
 have hlt:=h_t.len_eq
 have hts:=zbN hp1
 have hle:=h_t.le
 refine zf (ze (zb (zt (some 2) (Instr.box 50 (vA [(vI n),(.slice a_t n_t c_t)])) (vP w.heap.size 0) ([(vI n),(.slice a_t n_t c_t)]) 50 ?_)))
 intro w1 hBw1 hEw1
 have hzw1:=hEw1.size;have hlw1:=hBw1.lt
 refine zb (zt (some 4) (Instr.alloc 26 true (.tuple #[])) (vP w1.heap.size 0) ([(vI 0),(.slice none 0 0)]) 26 ?_)
 intro w2 hBw2 hEw2
 have hzw2:=hEw2.size;have hlw2:=hBw2.lt
 refine zd 1 [(5,(vI 0))] (zg (zc (zf (ze (zb (zj (some 14) (Instr.loadAt 50 (vP w.heap.size 0)) (vA [(vI n),(.slice a_t n_t c_t)]) (zD (vs:= [(vI n),(.slice a_t n_t c_t)]) ((hBw1.ext hEw2).all)) ?_))))))
 refine zb (zi (some 15) (zhS n _ (((h_t.ext hEw1)).ext hEw2) (by omega) (by omega) (by omega) (((hg0.ext hEw1)).ext hEw2) (((hg1.ext hEw1)).ext hEw2) (((hg2.ext hEw1)).ext hEw2) (((hg3.ext hEw1)).ext hEw2)) ?_)
 rintro _ w3 ⟨a1,ca1,a2,ca2,rfl,hFz1_0,hFz1_1,hEw3⟩
 have hzw3:=hEw3.size
 have hlea1:=hFz1_0.le
 have hlea2:=hFz1_1.le
 rw [show zbJ n t=0 from hp3]
 refine zd 3 [(17,(vI 0)),(16,(vA [(vI n),(.slice a1 (hgt n+1) ca1),(.slice a2 (hgt n+1) ca2)])),(13,(.tuple #[(vA [(vI n),(.slice a1 (hgt n+1) ca1),(.slice a2 (hgt n+1) ca2)]),(vI 0)]))] (zb (zt (some 6) (Instr.alloc 106 true (.tuple #[])) (vP w3.heap.size 0) ([(vI 0),(.slice none 0 0),(.slice none 0 0)]) 106 ?_))
 intro w4 hBw4 hEw4
 have hzw4:=hEw4.size;have hlw4:=hBw4.lt
 refine zb (zz 106 w3.heap.size 0 106 (vA [(vI n),(.slice a1 (hgt n+1) ca1),(.slice a2 (hgt n+1) ca2)]) ([(vI 0),(.slice none 0 0),(.slice none 0 0)]) ([(vI n),(.slice a1 (hgt n+1) ca1),(.slice a2 (hgt n+1) ca2)]) hBw4 (by kernel_rfl) (by first | decide |(simp;done)|(simp;omega)) (by simp [Value.oneCell']) ?_)
 intro w5 hBw5 hCw5
 have hzw5:=hCw5.size
 rw [zm _ _ (by kernel_rfl)] at hBw5
 refine zd 1 [(7,(vI 0))] (zg (zc (zf (zf (ze (zd 1 [(18,(vI 0))] (zb (zat (some 19) (((0:Nat):Int) !=((0:Nat):Int)) false (zaL (by omega)) ?_))))))))
 refine zg (zc (zr (zy (zc (zf (ze (zd 1 [(23,(vP w.heap.size 0))] ?_)))))))
 have hK1:=(((((((hBw1.ext hEw2)).ext hEw3)).ext hEw4)).chg hCw5 (fun hs=>by have h:_=_:=hs;omega))
 refine zb (zj (some 24) (Instr.loadAt 3 (vP w.heap.size 0)) (vI n) (zo (hK1.cell rfl)) ?_)
 refine zd 1 [(25,(vI b))] (zb (zi (some 26) (zhn n b _ (by omega) (by omega) (by omega)) ?_))
 rintro _ w6 ⟨a3,rfl,hFz2_0,hEw6⟩
 have hzw6:=hEw6.size
 have hlea3:=hFz2_0.le
 refine zd 5 [(7,(vI 0)),(8,(.slice a3 (hgt n+1) (hgt n+1))),(28,(vI 0)),(27,(.slice a3 (hgt n+1) (hgt n+1))),(22,(.tuple #[(.slice a3 (hgt n+1) (hgt n+1)),(vI 0)]))] (zg (zc (zf (zf (ze (zd 1 [(29,(vI 0))] (zb (zat (some 30) (((0:Nat):Int) !=((0:Nat):Int)) false (zaL (by omega)) ?_))))))))
 refine zg (zc (zr (zy (zc (zf (ze (zd 2 [(34,(vA [(vI b),(.slice none 0 0)])),(33,(vI b))] (zb (zt (some 9) (Instr.alloc 26 true (.tuple #[])) (vP w6.heap.size 0) ([(vI 0),(.slice none 0 0)]) 26 ?_)))))))))
 intro w7 hBw7 hEw7
 have hzw7:=hEw7.size;have hlw7:=hBw7.lt
 refine zb (zz 26 w6.heap.size 0 26 (vA [(vI b),(.slice none 0 0)]) ([(vI 0),(.slice none 0 0)]) ([(vI b),(.slice none 0 0)]) hBw7 (by kernel_rfl) (by first | decide |(simp;done)|(simp;omega)) (by simp [Value.oneCell']) ?_)
 intro w8 hBw8 hCw8
 have hzw8:=hCw8.size
 rw [zm _ _ (by kernel_rfl)] at hBw8
 refine zg (zc (zf (zf (ze (zd 3 [(37,(vI 0)),(36,(vI (hgt n+1))),(35,(.slice a3 (hgt n+1) (hgt n+1)))] (zg (zc (zI (zah (X:=Nat×Option Addr×Nat) (fun ⟨i,ao,cp⟩=> [(37,(vI i))]) [10,11,12,38,39,40,41,42,43,44,45,46,47,48,49,50,51,52,53,54,55,56,57,58,59,60,61,62,63,64,65,66,67,68,69,70,71,72,73,74,75,76,77] (fun ⟨i,ao,cp⟩ w9=>i≤hgt n+1∧(∀k,k<i→k<hgt n→¬((zcM n t b k).es.get (idx b (hgt n-k-1)%4)).st=0)∧OwM zK 274 w8.heap.size w9.heap.size w9 ao i cp 47 (zaR n t b i)∧Blk w9 w6.heap.size ([(vI b),(.slice ao i cp)]) 26∧Chg (fun k=>k=w6.heap.size) w8 w9) (fun ⟨i,ao,cp⟩=>hgt n+1-i) (0,none,0) (by kernel_rfl) ⟨Nat.zero_le _,fun k h=>absurd h (Nat.not_lt_zero _),OwM.nil _ _ _ _ _ _ zW,hBw8,Chg.refl _ _⟩ ?_)))))))))
 rintro ⟨i,ao,cp⟩ dw9 w9 ⟨hi,hns,hO,hB9,hEl⟩
 have hzl:=hEl.size;have hl9:=hB9.lt
 have hmO:=hO.ms;have hleO:=hmO.le
 refine zf (ze (zb (zO (some 38) (decide (((i:Nat):Int)<((hgt n+1:Nat):Int))) (fun hc38=> ?_) (fun hc38=> ?_))))
 ·replace hc38:i<hgt n+1:=by have:=zak hc38;omega
  have hij:=zbv (n:=n) (i:=b) (by omega) (hgt n-i)
  have hpl:=zbe (n:=n) (l:=hgt n-i) (j:=idx b (hgt n-i)) (by omega) hij
  have hib:=zfV b (hgt n-i)
  refine zg (zc (zf (zF (zy (zc (zf (zI (zf (ze ?_)))))))))
  refine zd 1 [(39,(vI i))] ?_
  obtain ⟨b1,o1,rfl⟩:=hFz2_0.addr (by omega) (by decide)
  refine zb (zj (some 40) (Instr.indexAt 94 (.slice (pA b1 o1) (hgt n+1) (hgt n+1)) (vI i)) (vP b1 (o1+i*2)) (zap (E:=70) (sz:=2) (by omega)) ?_)
  have hK2:=(((((hFz2_0.ext hEw7)).chg hCw8 (fun k h1 h2 hs=>by have h:k=_:=hs;omega))).chg hEl (fun k h1 h2 hs=>by have h:k=_:=hs;omega))
  refine zb (zj (some 41) (Instr.loadAt 70 (vP b1 (o1+i*2))) (vA [(vI (hgt n-i)),(vI (idx b (hgt n-i)))]) (zD (vs:= [(vI (hgt n-i)),(vI (idx b (hgt n-i)))]) (by have hz:=hK2.at (0,0) (show i<hgt n+1 by omega);rw [zdz (by omega)] at hz;exact hz)) ?_)
  refine zb (zt (some 11) (Instr.alloc 70 true (.tuple #[])) (vP w9.heap.size 0) ([(vI 0),(vI 0)]) 70 ?_)
  intro w10 hBw10 hEw10
  have hzw10:=hEw10.size;have hlw10:=hBw10.lt
  refine zd 1 [(10,(vI i))] (zb (zz 70 w9.heap.size 0 70 (vA [(vI (hgt n-i)),(vI (idx b (hgt n-i)))]) ([(vI 0),(vI 0)]) ([(vI (hgt n-i)),(vI (idx b (hgt n-i)))]) hBw10 (by kernel_rfl) (by first | decide |(simp;done)|(simp;omega)) (by simp [Value.oneCell']) ?_))
  intro w11 hBw11 hCw11
  have hzw11:=hCw11.size
  rw [zm _ _ (by kernel_rfl)] at hBw11
  refine zg (zc (zf (zag (Ext w11.drew) 12 [(43,4,0),(44,4398046511104,1),(45,64,0),(46,2048,0),(47,35184372088832,8),(48,2048,0),(49,140737488355328,32),(50,369435906932736,84),(51,571746046443520,130),(52,1125899906842624,256),(13,0,0),(0,2251799813689344,2047)] (fun hT145=> ?_))))
  have hEw12:Ext w11 w11.drew:=Ext.drew w11
  generalize w11.drew=w12 at hEw12⊢
  have hzw12:=hEw12.size
  refine zk hT145 [(0,42,(vP w.heap.size 1))] 1 1 ?_
  have hK3:=(((((((((((((hK1.ext hEw6)).ext hEw7)).chg hCw8 (fun hs=>by have h:_=_:=hs;omega))).chg hEl (fun hs=>by have h:_=_:=hs;omega))).ext hEw10)).chg hCw11 (fun hs=>by have h:_=_:=hs;omega))).ext hEw12)
  refine zh hT145 1 3 (some 43) (.slice a_t n_t c_t) (zl (Instr.loadAt 24 (vP w.heap.size 1)) (fun w' hC=>zo ((hK3.ext hC).cell rfl))) ?_
  have hK4:=(((((((((((((hBw5.ext hEw6)).ext hEw7)).chg hCw8 (fun hs=>by have h:_=_:=hs;omega))).chg hEl (fun hs=>by have h:_=_:=hs;omega))).ext hEw10)).chg hCw11 (fun hs=>by have h:_=_:=hs;omega))).ext hEw12)
  refine zh hT145 2 7 (some 44) (vA [(vI n),(.slice a1 (hgt n+1) ca1),(.slice a2 (hgt n+1) ca2)]) (zl (Instr.loadAt 106 (vP w3.heap.size 0)) (fun w' hC=>zD (vs:= [(vI n),(.slice a1 (hgt n+1) ca1),(.slice a2 (hgt n+1) ca2)]) ((hK4.ext hC).all))) (zk hT145 [(3,45,(vP w9.heap.size 0))] 1 15 (zh hT145 4 31 (some 46) (vI (hgt n-i)) (zl (Instr.loadAt 3 (vP w9.heap.size 0)) (fun w' hC=>zo (((hBw11.ext hEw12).ext hC).cell rfl))) (zk hT145 [(5,47,(vP w9.heap.size 1))] 1 63 (zh hT145 6 127 (some 48) (vI (idx b (hgt n-i))) (zl (Instr.loadAt 3 (vP w9.heap.size 1)) (fun w' hC=>zo (((hBw11.ext hEw12).ext hC).cell rfl))) (zay 7 10 255 1151 ?_ ?_)))))
  ·have hK5:=(((((((((((((((((hFz1_0.ext hEw4)).chg hCw5 (fun k h1 h2 hs=>by have h:k=_:=hs;omega))).ext hEw6)).ext hEw7)).chg hCw8 (fun k h1 h2 hs=>by have h:k=_:=hs;omega))).chg hEl (fun k h1 h2 hs=>by have h:k=_:=hs;omega))).ext hEw10)).chg hCw11 (fun k h1 h2 hs=>by have h:k=_:=hs;omega))).ext hEw12)
   have hK6:=(((((((((((((((((hFz1_1.ext hEw4)).chg hCw5 (fun k h1 h2 hs=>by have h:k=_:=hs;omega))).ext hEw6)).ext hEw7)).chg hCw8 (fun k h1 h2 hs=>by have h:k=_:=hs;omega))).chg hEl (fun k h1 h2 hs=>by have h:k=_:=hs;omega))).ext hEw10)).chg hCw11 (fun k h1 h2 hs=>by have h:k=_:=hs;omega))).ext hEw12)
   refine zi (some 49) (zcs n (hgt n-i) (idx b (hgt n-i)) _ hK5 hK6 (by first | rfl | assumption) (by first | rfl | assumption) (by omega) (by omega) (by omega) (by omega)) ?_
   rintro _ w13 ⟨rfl,hEw13⟩
   have hzw13:=hEw13.size
   refine ⟨.inr hEw13, ?_⟩
   obtain ⟨b2,o2,rfl⟩:=h_t.addr (by omega) (by decide)
   refine zh (hw:=hEw13) hT145 8 511 (some 50) (vP b2 (o2+(num n (hgt n-i)+(idx b (hgt n-i)))*274)) (zl (Instr.indexAt 24 (.slice (pA b2 o2) n_t c_t) (vI (num n (hgt n-i)+(idx b (hgt n-i))))) (fun w' hC=>zap (E:=47) (sz:=274) (by omega))) ?_
   have hK7:=(((((((((((((((((((((((h_t.ext hEw1)).ext hEw2)).ext hEw3)).ext hEw4)).chg hCw5 (fun k h1 h2 hs=>by have h:k=_:=hs;omega))).ext hEw6)).ext hEw7)).chg hCw8 (fun k h1 h2 hs=>by have h:k=_:=hs;omega))).chg hEl (fun k h1 h2 hs=>by have h:k=_:=hs;omega))).ext hEw10)).chg hCw11 (fun k h1 h2 hs=>by have h:k=_:=hs;omega))).ext hEw12)
   refine zh (hw:=hEw13) hT145 9 1023 (some 51) (vA (zK (t.getD (num n (hgt n-i)+(idx b (hgt n-i))) Nod.zero))) (zl (Instr.loadAt 47 (vP b2 (o2+(num n (hgt n-i)+(idx b (hgt n-i)))*274))) (fun w' hC=>zD (vs:=zK (t.getD (num n (hgt n-i)+(idx b (hgt n-i))) Nod.zero)) ((hK7.ext hC).at Nod.zero (by omega)) (by rw [zW];kernel_rfl))) (zn 10 2047 (zt (some 12) (Instr.alloc 47 true (.tuple #[])) (vP w13.heap.size 0) (zK Nod.zero) 47 ?_))
   intro w14 hBw14 hEw14
   have hzw14:=hEw14.size;have hlw14:=hBw14.lt
   have hX1:Ext w12 w14:=(hEw13.trans hEw14)
   refine ⟨.inr hX1, ?_⟩
   refine zn 11 4095 (zz 47 w13.heap.size 0 47 (vA (zK (t.getD (num n (hgt n-i)+(idx b (hgt n-i))) Nod.zero))) (zK Nod.zero) (zK (t.getD (num n (hgt n-i)+(idx b (hgt n-i))) Nod.zero)) hBw14 (by rw [zW];kernel_rfl) (by first |(simp;done)|(simp;omega)) (zcG _) ?_)
   intro w15 hBw15 hCw15
   have hzw15:=hCw15.size
   rw [zm _ _ (by simp)] at hBw15
   refine ⟨.inl (by kernel_rfl), ?_⟩
   refine zJ (zc (zf (ze (zd 1 [(52,(vP w6.heap.size 1))] ?_))))
   have hK8:=(((((((((((hB9.ext hEw10)).chg hCw11 (fun hs=>by have h:_=_:=hs;omega))).ext hEw12)).ext hEw13)).ext hEw14)).chg hCw15 (fun hs=>by have h:_=_:=hs;omega))
   refine zb (zj (some 53) (Instr.loadAt 24 (vP w6.heap.size 1)) (.slice ao i cp) (zo (hK8.cell rfl)) ?_)
   refine zb (zj (some 54) (Instr.loadAt 47 (vP w13.heap.size 0)) (vA (zK (t.getD (num n (hgt n-i)+(idx b (hgt n-i))) Nod.zero))) (zD (vs:=zK (t.getD (num n (hgt n-i)+(idx b (hgt n-i))) Nod.zero)) (hBw15.all) (by rw [zW];kernel_rfl)) ?_)
   refine zb (zt (some 55) (Instr.buildSlice 24 1 #[(0,(vA (zK (t.getD (num n (hgt n-i)+(idx b (hgt n-i))) Nod.zero))))]) (.slice (pA w15.heap.size 0) 1 1) (([(t.getD (num n (hgt n-i)+(idx b (hgt n-i))) Nod.zero)]:List Nod).flatMap zK) 47 ?_ (hr:=zgw (f:=zK) (sz:=274) (z:=(vA (zK Nod.zero))) [(t.getD (num n (hgt n-i)+(idx b (hgt n-i))) Nod.zero)] zW (by decide) rfl (Nat.succ_pos _) (show 274≤2^24 from by decide) rfl))
   intro w16 hBw16 hEw16
   have hzw16:=hEw16.size;have hlw16:=hBw16.lt
   have hmw16:Ms zK 274 w15.heap.size (w15.heap.size+1) w16 (pA w15.heap.size 0) 1 1 [(t.getD (num n (hgt n-i)+(idx b (hgt n-i))) Nod.zero)]:=Ms.of_pre (r:= []) (by rw [List.append_nil];exact hBw16) zW rfl (Nat.le_refl _) (by decide) (Nat.le_refl _) (Nat.lt_succ_self _)
   have hK9:=(((((((((((((hO.ext hEw10)).chg hCw11 (fun k h1 h2 hs=>by have h:k=_:=hs;omega))).ext hEw12)).ext hEw13)).ext hEw14)).chg hCw15 (fun k h1 h2 hs=>by have h:k=_:=hs;omega))).ext hEw16)
   refine zb (zhp (some 56) 24 24 47 368 (vA (zK Nod.zero)) hK9 hmw16 zcG ?_ (by rw [Value.cells,List.size_toArray,zW]) (by decide))
   intro a4 c1 w17 hOw17 hCw17
   have hzw17:=hCw17.size
   have hSw17:=hOw17.ms;have hlea4:=hSw17.le
   refine zd 1 [(57,(vP w6.heap.size 1))] ?_
   have hK10:=(((((((((((((hO.ext hEw10)).chg hCw11 (fun k h1 h2 hs=>by have h:k=_:=hs;omega))).ext hEw12)).ext hEw13)).ext hEw14)).chg hCw15 (fun k h1 h2 hs=>by have h:k=_:=hs;omega))).ext hEw16)
   refine zb (zV 24 w6.heap.size 1 26 (.slice a4 (i+1) c1) ([(vI b),(.slice ao i cp)]) (((hK8.ext hEw16)).chg hCw17 (fun hs=>by have hn:=hK10.ne hs;omega)) (by first | decide |(simp;done)|(simp;omega)) ?_)
   have hK11:=(((((((((((((hO.ext hEw10)).chg hCw11 (fun k h1 h2 hs=>by have h:k=_:=hs;omega))).ext hEw12)).ext hEw13)).ext hEw14)).chg hCw15 (fun k h1 h2 hs=>by have h:k=_:=hs;omega))).ext hEw16)
   intro w18 hBw18 hCw18
   have hzw18:=hCw18.size
   rw [show (([(vI b),(.slice ao i cp)]).set 1 (.slice a4 (i+1) c1):List Value)= [(vI b),(.slice a4 (i+1) c1)] from rfl] at hBw18
   refine zg (zc (zf (ze (zd 1 [(58,(vI i))] (zb (zv (some 59) .i64 (IntKind.i64.wrap (((i:Nat):Int)+((1:Nat):Int))) (i+1) (zG (by omega) (by omega) (by omega)) ?_))))))
   refine zd 2 [(61,(vI (hgt n+1))),(60,(.slice (pA b1 o1) (hgt n+1) (hgt n+1)))] (zb (zO (some 62) (decide (((i+1:Nat):Int)<((hgt n+1:Nat):Int))) (fun hc62=> ?_) (fun hc62=> ?_)))
   ·replace hc62:i+1<hgt n+1:=by have:=zak hc62;omega
    have hq3:((zdd n b).getD (i+1) (0,0)).2=idx b (hgt n-i-1):=by rw [zdz (by omega)];rfl
    have hib2:=zfV b (hgt n-i-1)
    refine zd 3 [(65,(vI i)),(64,(.slice (pA b1 o1) (hgt n+1) (hgt n+1))),(63,vT)] (zb (zv (some 66) .i64 (IntKind.i64.wrap (((i:Nat):Int)+((1:Nat):Int))) (i+1) (zG (by omega) (by omega) (by omega)) ?_))
    refine zb (zj (some 67) (Instr.indexAt 94 (.slice (pA b1 o1) (hgt n+1) (hgt n+1)) (vI (i+1))) (vP b1 (o1+(i+1)*2)) (zap (E:=70) (sz:=2) (by omega)) ?_)
    refine zd 1 [(68,(vP b1 (o1+(i+1)*2+1)))] ?_
    have hK12:=(((((((((((((hO.ext hEw10)).chg hCw11 (fun k h1 h2 hs=>by have h:k=_:=hs;omega))).ext hEw12)).ext hEw13)).ext hEw14)).chg hCw15 (fun k h1 h2 hs=>by have h:k=_:=hs;omega))).ext hEw16)
    have hK13:=(((((((((((((((((hK2.ext hEw10)).chg hCw11 (fun k h1 h2 hs=>by have h:k=_:=hs;omega))).ext hEw12)).ext hEw13)).ext hEw14)).chg hCw15 (fun k h1 h2 hs=>by have h:k=_:=hs;omega))).ext hEw16)).chg hCw17 (fun k h1 h2 hs=>by have hn:=hK12.ne hs;omega))).chg hCw18 (fun k h1 h2 hs=>by have h:k=_:=hs;omega))
    refine zb (zj (some 69) (Instr.loadAt 3 (vP b1 (o1+(i+1)*2+1))) (vI (((zdd n b).getD (i+1) (0,0)).2)) (zo (hK13.cell (j:=1) (0,0) (by omega) rfl)) ?_)
    refine zb (zv (some 70) .i64 (((((zdd n b).getD (i+1) (0,0)).2:Nat):Int).tmod ((4:Nat):Int)) (idx b (hgt n-i-1)%4) ((zcP _ _).trans (by rw [hq3])) ?_)
    refine zd 1 [(71,(vP w13.heap.size 142))] (zb (zj (some 72) (Instr.indexAt 45 (vP w13.heap.size 142) (vI (idx b (hgt n-i-1)%4))) (vP w13.heap.size (142+(idx b (hgt n-i-1)%4)*33)) (zX (E:=44) (sz:=33) (m:=4) (by omega)) ?_))
    refine zd 1 [(73,(vP w13.heap.size (142+(idx b (hgt n-i-1)%4)*33)))] ?_
    have hK14:=(((((((((((((hO.ext hEw10)).chg hCw11 (fun k h1 h2 hs=>by have h:k=_:=hs;omega))).ext hEw12)).ext hEw13)).ext hEw14)).chg hCw15 (fun k h1 h2 hs=>by have h:k=_:=hs;omega))).ext hEw16)
    have hK15:=(((((hBw15.ext hEw16)).chg hCw17 (fun hs=>by have hn:=hK14.ne hs;omega))).chg hCw18 (fun hs=>by have h:_=_:=hs;omega))
    refine zb (zj (some 74) (Instr.loadAt 5 (vP w13.heap.size (142+(idx b (hgt n-i-1)%4)*33))) (vB (((t.getD (num n (hgt n-i)+(idx b (hgt n-i))) Nod.zero).es.get (idx b (hgt n-i-1)%4)).st)) (zo (hK15.cell (zic (by omega)))) ?_)
    refine zb (zO (some 75) ((((((t.getD (num n (hgt n-i)+(idx b (hgt n-i))) Nod.zero).es.get (idx b (hgt n-i-1)%4)).st:Nat):Int)==((0:Nat):Int))) (fun hc75=> ?_) (fun hc75=> ?_))
    ·replace hc75:((t.getD (num n (hgt n-i)+(idx b (hgt n-i))) Nod.zero).es.get (idx b (hgt n-i-1)%4)).st=0:=by have:=zbL hc75;omega
     have hmn:mny n t b=i+1:=zmR (by omega) (show ((zcM n t b i).es.get (idx b (hgt n-i-1)%4)).st=0 from hc75) (fun k hk=>hns k hk (by omega))
     refine zd 1 [(76,vT)] (zg (zc (zF (zaf (zdK (by decide) (zH (zH (zT (zc ?_)))))))))
     refine zf (ze (zd 1 [(78,(vP w6.heap.size 1))] (zb (zj (some 79) (Instr.loadAt 24 (vP w6.heap.size 1)) (.slice a4 (i+1) c1) (zo (hBw18.cell rfl)) ?_))))
     refine zb (zi (some 80) (zh7 _ ((hSw17).chg hCw18 (fun k h1 h2 hs=>by have h:k=_:=hs;omega))) ?_)
     rintro _ _ ⟨a5,rfl,hFz4_0,rfl⟩
     have hlea5:=hFz4_0.le
     refine zd 1 [(81,(vP w6.heap.size 1))] (zb (zV 24 w6.heap.size 1 26 (.slice a5 (i+1) (i+1)) ([(vI b),(.slice a4 (i+1) c1)]) hBw18 (by first | decide |(simp;done)|(simp;omega)) ?_))
     intro w19 hBw19 hCw19
     have hzw19:=hCw19.size
     rw [show (([(vI b),(.slice a4 (i+1) c1)]).set 1 (.slice a5 (i+1) (i+1)):List Value)= [(vI b),(.slice a5 (i+1) (i+1))] from rfl] at hBw19
     refine zg (zc (zf (ze (zb (zj (some 82) (Instr.loadAt 26 (vP w6.heap.size 0)) (vA [(vI b),(.slice a5 (i+1) (i+1))]) (zD (vs:= [(vI b),(.slice a5 (i+1) (i+1))]) (hBw19.all)) ?_)))))
     have hK16:=(((((((((((((hO.ext hEw10)).chg hCw11 (fun k h1 h2 hs=>by have h:k=_:=hs;omega))).ext hEw12)).ext hEw13)).ext hEw14)).chg hCw15 (fun k h1 h2 hs=>by have h:k=_:=hs;omega))).ext hEw16)
     have hK17:=(((((((((((((((((((((((((((((((((hBw2.ext hEw3)).ext hEw4)).chg hCw5 (fun hs=>by have h:_=_:=hs;omega))).ext hEw6)).ext hEw7)).chg hCw8 (fun hs=>by have h:_=_:=hs;omega))).chg hEl (fun hs=>by have h:_=_:=hs;omega))).ext hEw10)).chg hCw11 (fun hs=>by have h:_=_:=hs;omega))).ext hEw12)).ext hEw13)).ext hEw14)).chg hCw15 (fun hs=>by have h:_=_:=hs;omega))).ext hEw16)).chg hCw17 (fun hs=>by have hn:=hK16.ne hs;omega))).chg hCw18 (fun hs=>by have h:_=_:=hs;omega))).chg hCw19 (fun hs=>by have h:_=_:=hs;omega))
     refine zb (zz 26 w1.heap.size 0 26 (vA [(vI b),(.slice a5 (i+1) (i+1))]) ([(vI 0),(.slice none 0 0)]) ([(vI b),(.slice a5 (i+1) (i+1))]) hK17 (by kernel_rfl) (by first | decide |(simp;done)|(simp;omega)) (by simp [Value.oneCell']) ?_)
     have hK18:=(((((((((((((hO.ext hEw10)).chg hCw11 (fun k h1 h2 hs=>by have h:k=_:=hs;omega))).ext hEw12)).ext hEw13)).ext hEw14)).chg hCw15 (fun k h1 h2 hs=>by have h:k=_:=hs;omega))).ext hEw16)
     have hK19:=(((((((((((((((((((((((((((((((((hBw2.ext hEw3)).ext hEw4)).chg hCw5 (fun hs=>by have h:_=_:=hs;omega))).ext hEw6)).ext hEw7)).chg hCw8 (fun hs=>by have h:_=_:=hs;omega))).chg hEl (fun hs=>by have h:_=_:=hs;omega))).ext hEw10)).chg hCw11 (fun hs=>by have h:_=_:=hs;omega))).ext hEw12)).ext hEw13)).ext hEw14)).chg hCw15 (fun hs=>by have h:_=_:=hs;omega))).ext hEw16)).chg hCw17 (fun hs=>by have hn:=hK18.ne hs;omega))).chg hCw18 (fun hs=>by have h:_=_:=hs;omega))).chg hCw19 (fun hs=>by have h:_=_:=hs;omega))
     intro w20 hBw20 hCw20
     have hzw20:=hCw20.size
     rw [zm _ _ (by kernel_rfl)] at hBw20
     refine zd 1 [(5,(vI 0))] (zg (zc (zx (zas (show zab Tryz.prog 83 _ _ (.cell 4 26) (vA [(vI b),(.slice a5 (i+1) (i+1))]) from ⟨⟨w1.heap.size,0,none⟩,(by kernel_rfl),zP (T:=26) (vs:= [(vI b),(.slice a5 (i+1) (i+1))]) (hBw20).all (by kernel_rfl)⟩) (show zab Tryz.prog 83 _ _ (.tmp 5) (vI 0) by (show _=_;kernel_rfl)) ?_))))
     have hK20:=(((((((((((((hO.ext hEw10)).chg hCw11 (fun k h1 h2 hs=>by have h:k=_:=hs;omega))).ext hEw12)).ext hEw13)).ext hEw14)).chg hCw15 (fun k h1 h2 hs=>by have h:k=_:=hs;omega))).ext hEw16)
     have hX2:Ext w w20:=(Ext.own (Ext.own (Ext.own (Ext.ownS ((Ext.own ((((Ext.own ((Ext.own (Ext.own (((Ext.own (((hEw1.trans hEw2).trans hEw3).trans hEw4) hCw5 (by omega)).trans hEw6).trans hEw7) hCw8 (by omega)) hEl (by omega)).trans hEw10) hCw11 (by omega)).trans hEw12).trans hEw13).trans hEw14) hCw15 (by omega)).trans hEw16) hCw17 (fun k hs hk=>by have hn:=hK20.ne hs;omega)) hCw18 (by omega)) hCw19 (by omega)) hCw20 (by omega))
     rw [hmn,zdy]
     exact ⟨_,rfl,(((((hFz4_0).chg hCw19 (fun k h1 h2 hs=>by have h:k=_:=hs;omega))).chg hCw20 (fun k h1 h2 hs=>by have h:k=_:=hs;omega))).now.mono (by omega) (Nat.le_refl _),hX2⟩
    ·replace hc75:¬(((t.getD (num n (hgt n-i)+(idx b (hgt n-i))) Nod.zero).es.get (idx b (hgt n-i-1)%4)).st=0):=by have:=zbK hc75;omega
     have hst:i<hgt n→¬((zcM n t b i).es.get (idx b (hgt n-i-1)%4)).st=0:=fun _=>hc75
     refine zd 1 [(76,vF)] (zg (zc (zr (zy (zp (zc (ze (zb (zv (some 77) .i64 (IntKind.i64.wrap (((i:Nat):Int)+((1:Nat):Int))) (i+1) (zG (by omega) (by omega) (by omega)) ?_)))))))))
     refine zd 1 [(37,(vI (i+1)))] (zg (zC ?_))
     have hK21:=(((((((((((((hO.ext hEw10)).chg hCw11 (fun k h1 h2 hs=>by have h:k=_:=hs;omega))).ext hEw12)).ext hEw13)).ext hEw14)).chg hCw15 (fun k h1 h2 hs=>by have h:k=_:=hs;omega))).ext hEw16)
     refine zS (i+1,a4,c1) ?_ ?_
     ·exact ⟨by omega,fun k hk hh=>by rcases Nat.lt_succ_iff_lt_or_eq.1 hk with h1 | rfl;exact hns k h1 hh;exact hst hh,by rw [zdy];exact (((hOw17).chg hCw18 (fun k h1 h2 hs=>by have h:k=_:=hs;omega))).now,hBw18,(Chg.then (Chg.then ((Chg.then ((((Chg.then ((Chg.then (Chg.refl (fun k=>k=w6.heap.size) w8) hEl (fun k hk hs=>by have h:k=_:=hs;first | exact hs | exact .inl h | exact .inr h |(exfalso;omega))).trans hEw10.chg) hCw11 (fun k hk hs=>by have h:k=_:=hs;first | exact hs | exact .inl h | exact .inr h |(exfalso;omega))).trans hEw12.chg).trans hEw13.chg).trans hEw14.chg) hCw15 (fun k hk hs=>by have h:k=_:=hs;first | exact hs | exact .inl h | exact .inr h |(exfalso;omega))).trans hEw16.chg) hCw17 (fun k hk hs=>by have hn:=hK21.ne hs;first | exact hs | exact .inl h | exact .inr h |(exfalso;omega))) hCw18 (fun k hk hs=>by have h:k=_:=hs;first | exact hs | exact .inl h | exact .inr h |(exfalso;omega)))⟩
     ·first | omega |(dsimp only;omega)
   ·replace hc62:¬(i+1<hgt n+1):=by have:=zal hc62;omega
    have hst:i<hgt n→¬((zcM n t b i).es.get (idx b (hgt n-i-1)%4)).st=0:=fun hh=>absurd hh (by omega)
    refine zd 14 [(76,vF),(75,undef),(74,undef),(73,undef),(72,undef),(71,undef),(70,undef),(69,undef),(68,undef),(67,undef),(66,undef),(65,undef),(64,undef),(63,vF)] (zg (zc (zr (zy (zp (zc (ze (zb (zv (some 77) .i64 (IntKind.i64.wrap (((i:Nat):Int)+((1:Nat):Int))) (i+1) (zG (by omega) (by omega) (by omega)) ?_)))))))))
    refine zd 1 [(37,(vI (i+1)))] (zg (zC ?_))
    have hK22:=(((((((((((((hO.ext hEw10)).chg hCw11 (fun k h1 h2 hs=>by have h:k=_:=hs;omega))).ext hEw12)).ext hEw13)).ext hEw14)).chg hCw15 (fun k h1 h2 hs=>by have h:k=_:=hs;omega))).ext hEw16)
    refine zS (i+1,a4,c1) ?_ ?_
    ·exact ⟨by omega,fun k hk hh=>by rcases Nat.lt_succ_iff_lt_or_eq.1 hk with h1 | rfl;exact hns k h1 hh;exact hst hh,by rw [zdy];exact (((hOw17).chg hCw18 (fun k h1 h2 hs=>by have h:k=_:=hs;omega))).now,hBw18,(Chg.then (Chg.then ((Chg.then ((((Chg.then ((Chg.then (Chg.refl (fun k=>k=w6.heap.size) w8) hEl (fun k hk hs=>by have h:k=_:=hs;first | exact hs | exact .inl h | exact .inr h |(exfalso;omega))).trans hEw10.chg) hCw11 (fun k hk hs=>by have h:k=_:=hs;first | exact hs | exact .inl h | exact .inr h |(exfalso;omega))).trans hEw12.chg).trans hEw13.chg).trans hEw14.chg) hCw15 (fun k hk hs=>by have h:k=_:=hs;first | exact hs | exact .inl h | exact .inr h |(exfalso;omega))).trans hEw16.chg) hCw17 (fun k hk hs=>by have hn:=hK22.ne hs;first | exact hs | exact .inl h | exact .inr h |(exfalso;omega))) hCw18 (fun k hk hs=>by have h:k=_:=hs;first | exact hs | exact .inl h | exact .inr h |(exfalso;omega)))⟩
    ·first | omega |(dsimp only;omega)
  ·refine zt (some 12) (Instr.alloc 47 true (.tuple #[])) (vP w12.heap.size 0) (zK Nod.zero) 47 ?_
   intro w21 hBw21 hEw21
   have hzw21:=hEw21.size;have hlw21:=hBw21.lt
   refine ⟨.inr hEw21, ?_⟩
   have hK23:=(((((((((((((((((((hFz1_0.ext hEw4)).chg hCw5 (fun k h1 h2 hs=>by have h:k=_:=hs;omega))).ext hEw6)).ext hEw7)).chg hCw8 (fun k h1 h2 hs=>by have h:k=_:=hs;omega))).chg hEl (fun k h1 h2 hs=>by have h:k=_:=hs;omega))).ext hEw10)).chg hCw11 (fun k h1 h2 hs=>by have h:k=_:=hs;omega))).ext hEw12)).ext hEw21)
   have hK24:=(((((((((((((((((((hFz1_1.ext hEw4)).chg hCw5 (fun k h1 h2 hs=>by have h:k=_:=hs;omega))).ext hEw6)).ext hEw7)).chg hCw8 (fun k h1 h2 hs=>by have h:k=_:=hs;omega))).chg hEl (fun k h1 h2 hs=>by have h:k=_:=hs;omega))).ext hEw10)).chg hCw11 (fun k h1 h2 hs=>by have h:k=_:=hs;omega))).ext hEw12)).ext hEw21)
   refine zn 7 1279 (zi (some 49) (zcs n (hgt n-i) (idx b (hgt n-i)) _ hK23 hK24 (by first | rfl | assumption) (by first | rfl | assumption) (by omega) (by omega) (by omega) (by omega)) ?_)
   rintro _ w22 ⟨rfl,hEw22⟩
   have hzw22:=hEw22.size
   have hX3:Ext w12 w22:=(hEw21.trans hEw22)
   refine ⟨.inr hX3, ?_⟩
   obtain ⟨b3,o3,rfl⟩:=h_t.addr (by omega) (by decide)
   refine zh (hw:=hX3) hT145 8 1535 (some 50) (vP b3 (o3+(num n (hgt n-i)+(idx b (hgt n-i)))*274)) (zl (Instr.indexAt 24 (.slice (pA b3 o3) n_t c_t) (vI (num n (hgt n-i)+(idx b (hgt n-i))))) (fun w' hC=>zap (E:=47) (sz:=274) (by omega))) ?_
   have hK25:=(((((((((((((((((((((((h_t.ext hEw1)).ext hEw2)).ext hEw3)).ext hEw4)).chg hCw5 (fun k h1 h2 hs=>by have h:k=_:=hs;omega))).ext hEw6)).ext hEw7)).chg hCw8 (fun k h1 h2 hs=>by have h:k=_:=hs;omega))).chg hEl (fun k h1 h2 hs=>by have h:k=_:=hs;omega))).ext hEw10)).chg hCw11 (fun k h1 h2 hs=>by have h:k=_:=hs;omega))).ext hEw12)
   refine zh (hw:=hX3) hT145 9 2047 (some 51) (vA (zK (t.getD (num n (hgt n-i)+(idx b (hgt n-i))) Nod.zero))) (zl (Instr.loadAt 47 (vP b3 (o3+(num n (hgt n-i)+(idx b (hgt n-i)))*274))) (fun w' hC=>zD (vs:=zK (t.getD (num n (hgt n-i)+(idx b (hgt n-i))) Nod.zero)) ((hK25.ext hC).at Nod.zero (by omega)) (by rw [zW];kernel_rfl))) (zn 11 4095 (zz 47 w12.heap.size 0 47 (vA (zK (t.getD (num n (hgt n-i)+(idx b (hgt n-i))) Nod.zero))) (zK Nod.zero) (zK (t.getD (num n (hgt n-i)+(idx b (hgt n-i))) Nod.zero)) (hBw21.ext hEw22) (by rw [zW];kernel_rfl) (by first |(simp;done)|(simp;omega)) (zcG _) ?_))
   intro w23 hBw23 hCw23
   have hzw23:=hCw23.size
   rw [zm _ _ (by simp)] at hBw23
   refine ⟨.inl (by kernel_rfl), ?_⟩
   refine zJ (zc (zf (ze (zd 1 [(52,(vP w6.heap.size 1))] ?_))))
   have hK26:=(((((((((((hB9.ext hEw10)).chg hCw11 (fun hs=>by have h:_=_:=hs;omega))).ext hEw12)).ext hEw21)).ext hEw22)).chg hCw23 (fun hs=>by have h:_=_:=hs;omega))
   refine zb (zj (some 53) (Instr.loadAt 24 (vP w6.heap.size 1)) (.slice ao i cp) (zo (hK26.cell rfl)) ?_)
   refine zb (zj (some 54) (Instr.loadAt 47 (vP w12.heap.size 0)) (vA (zK (t.getD (num n (hgt n-i)+(idx b (hgt n-i))) Nod.zero))) (zD (vs:=zK (t.getD (num n (hgt n-i)+(idx b (hgt n-i))) Nod.zero)) (hBw23.all) (by rw [zW];kernel_rfl)) ?_)
   refine zb (zt (some 55) (Instr.buildSlice 24 1 #[(0,(vA (zK (t.getD (num n (hgt n-i)+(idx b (hgt n-i))) Nod.zero))))]) (.slice (pA w23.heap.size 0) 1 1) (([(t.getD (num n (hgt n-i)+(idx b (hgt n-i))) Nod.zero)]:List Nod).flatMap zK) 47 ?_ (hr:=zgw (f:=zK) (sz:=274) (z:=(vA (zK Nod.zero))) [(t.getD (num n (hgt n-i)+(idx b (hgt n-i))) Nod.zero)] zW (by decide) rfl (Nat.succ_pos _) (show 274≤2^24 from by decide) rfl))
   intro w24 hBw24 hEw24
   have hzw24:=hEw24.size;have hlw24:=hBw24.lt
   have hmw24:Ms zK 274 w23.heap.size (w23.heap.size+1) w24 (pA w23.heap.size 0) 1 1 [(t.getD (num n (hgt n-i)+(idx b (hgt n-i))) Nod.zero)]:=Ms.of_pre (r:= []) (by rw [List.append_nil];exact hBw24) zW rfl (Nat.le_refl _) (by decide) (Nat.le_refl _) (Nat.lt_succ_self _)
   have hK27:=(((((((((((((hO.ext hEw10)).chg hCw11 (fun k h1 h2 hs=>by have h:k=_:=hs;omega))).ext hEw12)).ext hEw21)).ext hEw22)).chg hCw23 (fun k h1 h2 hs=>by have h:k=_:=hs;omega))).ext hEw24)
   refine zb (zhp (some 56) 24 24 47 368 (vA (zK Nod.zero)) hK27 hmw24 zcG ?_ (by rw [Value.cells,List.size_toArray,zW]) (by decide))
   intro a6 c2 w25 hOw25 hCw25
   have hzw25:=hCw25.size
   have hSw25:=hOw25.ms;have hlea6:=hSw25.le
   refine zd 1 [(57,(vP w6.heap.size 1))] ?_
   have hK28:=(((((((((((((hO.ext hEw10)).chg hCw11 (fun k h1 h2 hs=>by have h:k=_:=hs;omega))).ext hEw12)).ext hEw21)).ext hEw22)).chg hCw23 (fun k h1 h2 hs=>by have h:k=_:=hs;omega))).ext hEw24)
   refine zb (zV 24 w6.heap.size 1 26 (.slice a6 (i+1) c2) ([(vI b),(.slice ao i cp)]) (((hK26.ext hEw24)).chg hCw25 (fun hs=>by have hn:=hK28.ne hs;omega)) (by first | decide |(simp;done)|(simp;omega)) ?_)
   have hK29:=(((((((((((((hO.ext hEw10)).chg hCw11 (fun k h1 h2 hs=>by have h:k=_:=hs;omega))).ext hEw12)).ext hEw21)).ext hEw22)).chg hCw23 (fun k h1 h2 hs=>by have h:k=_:=hs;omega))).ext hEw24)
   intro w26 hBw26 hCw26
   have hzw26:=hCw26.size
   rw [show (([(vI b),(.slice ao i cp)]).set 1 (.slice a6 (i+1) c2):List Value)= [(vI b),(.slice a6 (i+1) c2)] from rfl] at hBw26
   refine zg (zc (zf (ze (zd 1 [(58,(vI i))] (zb (zv (some 59) .i64 (IntKind.i64.wrap (((i:Nat):Int)+((1:Nat):Int))) (i+1) (zG (by omega) (by omega) (by omega)) ?_))))))
   refine zd 2 [(61,(vI (hgt n+1))),(60,(.slice (pA b1 o1) (hgt n+1) (hgt n+1)))] (zb (zO (some 62) (decide (((i+1:Nat):Int)<((hgt n+1:Nat):Int))) (fun hc62=> ?_) (fun hc62=> ?_)))
   ·replace hc62:i+1<hgt n+1:=by have:=zak hc62;omega
    have hq3:((zdd n b).getD (i+1) (0,0)).2=idx b (hgt n-i-1):=by rw [zdz (by omega)];rfl
    have hib2:=zfV b (hgt n-i-1)
    refine zd 3 [(65,(vI i)),(64,(.slice (pA b1 o1) (hgt n+1) (hgt n+1))),(63,vT)] (zb (zv (some 66) .i64 (IntKind.i64.wrap (((i:Nat):Int)+((1:Nat):Int))) (i+1) (zG (by omega) (by omega) (by omega)) ?_))
    refine zb (zj (some 67) (Instr.indexAt 94 (.slice (pA b1 o1) (hgt n+1) (hgt n+1)) (vI (i+1))) (vP b1 (o1+(i+1)*2)) (zap (E:=70) (sz:=2) (by omega)) ?_)
    refine zd 1 [(68,(vP b1 (o1+(i+1)*2+1)))] ?_
    have hK30:=(((((((((((((hO.ext hEw10)).chg hCw11 (fun k h1 h2 hs=>by have h:k=_:=hs;omega))).ext hEw12)).ext hEw21)).ext hEw22)).chg hCw23 (fun k h1 h2 hs=>by have h:k=_:=hs;omega))).ext hEw24)
    have hK31:=(((((((((((((((((hK2.ext hEw10)).chg hCw11 (fun k h1 h2 hs=>by have h:k=_:=hs;omega))).ext hEw12)).ext hEw21)).ext hEw22)).chg hCw23 (fun k h1 h2 hs=>by have h:k=_:=hs;omega))).ext hEw24)).chg hCw25 (fun k h1 h2 hs=>by have hn:=hK30.ne hs;omega))).chg hCw26 (fun k h1 h2 hs=>by have h:k=_:=hs;omega))
    refine zb (zj (some 69) (Instr.loadAt 3 (vP b1 (o1+(i+1)*2+1))) (vI (((zdd n b).getD (i+1) (0,0)).2)) (zo (hK31.cell (j:=1) (0,0) (by omega) rfl)) ?_)
    refine zb (zv (some 70) .i64 (((((zdd n b).getD (i+1) (0,0)).2:Nat):Int).tmod ((4:Nat):Int)) (idx b (hgt n-i-1)%4) ((zcP _ _).trans (by rw [hq3])) ?_)
    refine zd 1 [(71,(vP w12.heap.size 142))] (zb (zj (some 72) (Instr.indexAt 45 (vP w12.heap.size 142) (vI (idx b (hgt n-i-1)%4))) (vP w12.heap.size (142+(idx b (hgt n-i-1)%4)*33)) (zX (E:=44) (sz:=33) (m:=4) (by omega)) ?_))
    refine zd 1 [(73,(vP w12.heap.size (142+(idx b (hgt n-i-1)%4)*33)))] ?_
    have hK32:=(((((((((((((hO.ext hEw10)).chg hCw11 (fun k h1 h2 hs=>by have h:k=_:=hs;omega))).ext hEw12)).ext hEw21)).ext hEw22)).chg hCw23 (fun k h1 h2 hs=>by have h:k=_:=hs;omega))).ext hEw24)
    have hK33:=(((((hBw23.ext hEw24)).chg hCw25 (fun hs=>by have hn:=hK32.ne hs;omega))).chg hCw26 (fun hs=>by have h:_=_:=hs;omega))
    refine zb (zj (some 74) (Instr.loadAt 5 (vP w12.heap.size (142+(idx b (hgt n-i-1)%4)*33))) (vB (((t.getD (num n (hgt n-i)+(idx b (hgt n-i))) Nod.zero).es.get (idx b (hgt n-i-1)%4)).st)) (zo (hK33.cell (zic (by omega)))) ?_)
    refine zb (zO (some 75) ((((((t.getD (num n (hgt n-i)+(idx b (hgt n-i))) Nod.zero).es.get (idx b (hgt n-i-1)%4)).st:Nat):Int)==((0:Nat):Int))) (fun hc75=> ?_) (fun hc75=> ?_))
    ·replace hc75:((t.getD (num n (hgt n-i)+(idx b (hgt n-i))) Nod.zero).es.get (idx b (hgt n-i-1)%4)).st=0:=by have:=zbL hc75;omega
     have hmn:mny n t b=i+1:=zmR (by omega) (show ((zcM n t b i).es.get (idx b (hgt n-i-1)%4)).st=0 from hc75) (fun k hk=>hns k hk (by omega))
     refine zd 1 [(76,vT)] (zg (zc (zF (zaf (zdK (by decide) (zH (zH (zT (zc ?_)))))))))
     refine zf (ze (zd 1 [(78,(vP w6.heap.size 1))] (zb (zj (some 79) (Instr.loadAt 24 (vP w6.heap.size 1)) (.slice a6 (i+1) c2) (zo (hBw26.cell rfl)) ?_))))
     refine zb (zi (some 80) (zh7 _ ((hSw25).chg hCw26 (fun k h1 h2 hs=>by have h:k=_:=hs;omega))) ?_)
     rintro _ _ ⟨a7,rfl,hFz6_0,rfl⟩
     have hlea7:=hFz6_0.le
     refine zd 1 [(81,(vP w6.heap.size 1))] (zb (zV 24 w6.heap.size 1 26 (.slice a7 (i+1) (i+1)) ([(vI b),(.slice a6 (i+1) c2)]) hBw26 (by first | decide |(simp;done)|(simp;omega)) ?_))
     intro w27 hBw27 hCw27
     have hzw27:=hCw27.size
     rw [show (([(vI b),(.slice a6 (i+1) c2)]).set 1 (.slice a7 (i+1) (i+1)):List Value)= [(vI b),(.slice a7 (i+1) (i+1))] from rfl] at hBw27
     refine zg (zc (zf (ze (zb (zj (some 82) (Instr.loadAt 26 (vP w6.heap.size 0)) (vA [(vI b),(.slice a7 (i+1) (i+1))]) (zD (vs:= [(vI b),(.slice a7 (i+1) (i+1))]) (hBw27.all)) ?_)))))
     have hK34:=(((((((((((((hO.ext hEw10)).chg hCw11 (fun k h1 h2 hs=>by have h:k=_:=hs;omega))).ext hEw12)).ext hEw21)).ext hEw22)).chg hCw23 (fun k h1 h2 hs=>by have h:k=_:=hs;omega))).ext hEw24)
     have hK35:=(((((((((((((((((((((((((((((((((hBw2.ext hEw3)).ext hEw4)).chg hCw5 (fun hs=>by have h:_=_:=hs;omega))).ext hEw6)).ext hEw7)).chg hCw8 (fun hs=>by have h:_=_:=hs;omega))).chg hEl (fun hs=>by have h:_=_:=hs;omega))).ext hEw10)).chg hCw11 (fun hs=>by have h:_=_:=hs;omega))).ext hEw12)).ext hEw21)).ext hEw22)).chg hCw23 (fun hs=>by have h:_=_:=hs;omega))).ext hEw24)).chg hCw25 (fun hs=>by have hn:=hK34.ne hs;omega))).chg hCw26 (fun hs=>by have h:_=_:=hs;omega))).chg hCw27 (fun hs=>by have h:_=_:=hs;omega))
     refine zb (zz 26 w1.heap.size 0 26 (vA [(vI b),(.slice a7 (i+1) (i+1))]) ([(vI 0),(.slice none 0 0)]) ([(vI b),(.slice a7 (i+1) (i+1))]) hK35 (by kernel_rfl) (by first | decide |(simp;done)|(simp;omega)) (by simp [Value.oneCell']) ?_)
     have hK36:=(((((((((((((hO.ext hEw10)).chg hCw11 (fun k h1 h2 hs=>by have h:k=_:=hs;omega))).ext hEw12)).ext hEw21)).ext hEw22)).chg hCw23 (fun k h1 h2 hs=>by have h:k=_:=hs;omega))).ext hEw24)
     have hK37:=(((((((((((((((((((((((((((((((((hBw2.ext hEw3)).ext hEw4)).chg hCw5 (fun hs=>by have h:_=_:=hs;omega))).ext hEw6)).ext hEw7)).chg hCw8 (fun hs=>by have h:_=_:=hs;omega))).chg hEl (fun hs=>by have h:_=_:=hs;omega))).ext hEw10)).chg hCw11 (fun hs=>by have h:_=_:=hs;omega))).ext hEw12)).ext hEw21)).ext hEw22)).chg hCw23 (fun hs=>by have h:_=_:=hs;omega))).ext hEw24)).chg hCw25 (fun hs=>by have hn:=hK36.ne hs;omega))).chg hCw26 (fun hs=>by have h:_=_:=hs;omega))).chg hCw27 (fun hs=>by have h:_=_:=hs;omega))
     intro w28 hBw28 hCw28
     have hzw28:=hCw28.size
     rw [zm _ _ (by kernel_rfl)] at hBw28
     refine zd 1 [(5,(vI 0))] (zg (zc (zx (zas (show zab Tryz.prog 83 _ _ (.cell 4 26) (vA [(vI b),(.slice a7 (i+1) (i+1))]) from ⟨⟨w1.heap.size,0,none⟩,(by kernel_rfl),zP (T:=26) (vs:= [(vI b),(.slice a7 (i+1) (i+1))]) (hBw28).all (by kernel_rfl)⟩) (show zab Tryz.prog 83 _ _ (.tmp 5) (vI 0) by (show _=_;kernel_rfl)) ?_))))
     have hK38:=(((((((((((((hO.ext hEw10)).chg hCw11 (fun k h1 h2 hs=>by have h:k=_:=hs;omega))).ext hEw12)).ext hEw21)).ext hEw22)).chg hCw23 (fun k h1 h2 hs=>by have h:k=_:=hs;omega))).ext hEw24)
     have hX4:Ext w w28:=(Ext.own (Ext.own (Ext.own (Ext.ownS ((Ext.own ((((Ext.own ((Ext.own (Ext.own (((Ext.own (((hEw1.trans hEw2).trans hEw3).trans hEw4) hCw5 (by omega)).trans hEw6).trans hEw7) hCw8 (by omega)) hEl (by omega)).trans hEw10) hCw11 (by omega)).trans hEw12).trans hEw21).trans hEw22) hCw23 (by omega)).trans hEw24) hCw25 (fun k hs hk=>by have hn:=hK38.ne hs;omega)) hCw26 (by omega)) hCw27 (by omega)) hCw28 (by omega))
     rw [hmn,zdy]
     exact ⟨_,rfl,(((((hFz6_0).chg hCw27 (fun k h1 h2 hs=>by have h:k=_:=hs;omega))).chg hCw28 (fun k h1 h2 hs=>by have h:k=_:=hs;omega))).now.mono (by omega) (Nat.le_refl _),hX4⟩
    ·replace hc75:¬(((t.getD (num n (hgt n-i)+(idx b (hgt n-i))) Nod.zero).es.get (idx b (hgt n-i-1)%4)).st=0):=by have:=zbK hc75;omega
     have hst:i<hgt n→¬((zcM n t b i).es.get (idx b (hgt n-i-1)%4)).st=0:=fun _=>hc75
     refine zd 1 [(76,vF)] (zg (zc (zr (zy (zp (zc (ze (zb (zv (some 77) .i64 (IntKind.i64.wrap (((i:Nat):Int)+((1:Nat):Int))) (i+1) (zG (by omega) (by omega) (by omega)) ?_)))))))))
     refine zd 1 [(37,(vI (i+1)))] (zg (zC ?_))
     have hK39:=(((((((((((((hO.ext hEw10)).chg hCw11 (fun k h1 h2 hs=>by have h:k=_:=hs;omega))).ext hEw12)).ext hEw21)).ext hEw22)).chg hCw23 (fun k h1 h2 hs=>by have h:k=_:=hs;omega))).ext hEw24)
     refine zS (i+1,a6,c2) ?_ ?_
     ·exact ⟨by omega,fun k hk hh=>by rcases Nat.lt_succ_iff_lt_or_eq.1 hk with h1 | rfl;exact hns k h1 hh;exact hst hh,by rw [zdy];exact (((hOw25).chg hCw26 (fun k h1 h2 hs=>by have h:k=_:=hs;omega))).now,hBw26,(Chg.then (Chg.then ((Chg.then ((((Chg.then ((Chg.then (Chg.refl (fun k=>k=w6.heap.size) w8) hEl (fun k hk hs=>by have h:k=_:=hs;first | exact hs | exact .inl h | exact .inr h |(exfalso;omega))).trans hEw10.chg) hCw11 (fun k hk hs=>by have h:k=_:=hs;first | exact hs | exact .inl h | exact .inr h |(exfalso;omega))).trans hEw12.chg).trans hEw21.chg).trans hEw22.chg) hCw23 (fun k hk hs=>by have h:k=_:=hs;first | exact hs | exact .inl h | exact .inr h |(exfalso;omega))).trans hEw24.chg) hCw25 (fun k hk hs=>by have hn:=hK39.ne hs;first | exact hs | exact .inl h | exact .inr h |(exfalso;omega))) hCw26 (fun k hk hs=>by have h:k=_:=hs;first | exact hs | exact .inl h | exact .inr h |(exfalso;omega)))⟩
     ·first | omega |(dsimp only;omega)
   ·replace hc62:¬(i+1<hgt n+1):=by have:=zal hc62;omega
    have hst:i<hgt n→¬((zcM n t b i).es.get (idx b (hgt n-i-1)%4)).st=0:=fun hh=>absurd hh (by omega)
    refine zd 14 [(76,vF),(75,undef),(74,undef),(73,undef),(72,undef),(71,undef),(70,undef),(69,undef),(68,undef),(67,undef),(66,undef),(65,undef),(64,undef),(63,vF)] (zg (zc (zr (zy (zp (zc (ze (zb (zv (some 77) .i64 (IntKind.i64.wrap (((i:Nat):Int)+((1:Nat):Int))) (i+1) (zG (by omega) (by omega) (by omega)) ?_)))))))))
    refine zd 1 [(37,(vI (i+1)))] (zg (zC ?_))
    have hK40:=(((((((((((((hO.ext hEw10)).chg hCw11 (fun k h1 h2 hs=>by have h:k=_:=hs;omega))).ext hEw12)).ext hEw21)).ext hEw22)).chg hCw23 (fun k h1 h2 hs=>by have h:k=_:=hs;omega))).ext hEw24)
    refine zS (i+1,a6,c2) ?_ ?_
    ·exact ⟨by omega,fun k hk hh=>by rcases Nat.lt_succ_iff_lt_or_eq.1 hk with h1 | rfl;exact hns k h1 hh;exact hst hh,by rw [zdy];exact (((hOw25).chg hCw26 (fun k h1 h2 hs=>by have h:k=_:=hs;omega))).now,hBw26,(Chg.then (Chg.then ((Chg.then ((((Chg.then ((Chg.then (Chg.refl (fun k=>k=w6.heap.size) w8) hEl (fun k hk hs=>by have h:k=_:=hs;first | exact hs | exact .inl h | exact .inr h |(exfalso;omega))).trans hEw10.chg) hCw11 (fun k hk hs=>by have h:k=_:=hs;first | exact hs | exact .inl h | exact .inr h |(exfalso;omega))).trans hEw12.chg).trans hEw21.chg).trans hEw22.chg) hCw23 (fun k hk hs=>by have h:k=_:=hs;first | exact hs | exact .inl h | exact .inr h |(exfalso;omega))).trans hEw24.chg) hCw25 (fun k hk hs=>by have hn:=hK40.ne hs;first | exact hs | exact .inl h | exact .inr h |(exfalso;omega))) hCw26 (fun k hk hs=>by have h:k=_:=hs;first | exact hs | exact .inl h | exact .inr h |(exfalso;omega)))⟩
    ·first | omega |(dsimp only;omega)
 ·replace hc38:¬(i<hgt n+1):=by have:=zal hc38;omega
  have hmn:mny n t b=i:=by rw [zoY (fun k hk=>hns k (by omega) hk)];omega
  refine zg (zc (zf (zr (zaf (zH (zH (zT (zc (zf ?_)))))))))
  refine ze (zd 1 [(78,(vP w6.heap.size 1))] (zb (zj (some 79) (Instr.loadAt 24 (vP w6.heap.size 1)) (.slice ao i cp) (zo (hB9.cell rfl)) ?_)))
  refine zb (zi (some 80) (zh7 _ hmO) ?_)
  rintro _ _ ⟨a8,rfl,hFz7_0,rfl⟩
  have hlea8:=hFz7_0.le
  refine zd 1 [(81,(vP w6.heap.size 1))] (zb (zV 24 w6.heap.size 1 26 (.slice a8 i i) ([(vI b),(.slice ao i cp)]) hB9 (by first | decide |(simp;done)|(simp;omega)) ?_))
  intro w29 hBw29 hCw29
  have hzw29:=hCw29.size
  rw [show (([(vI b),(.slice ao i cp)]).set 1 (.slice a8 i i):List Value)= [(vI b),(.slice a8 i i)] from rfl] at hBw29
  refine zg (zc (zf (ze (zb (zj (some 82) (Instr.loadAt 26 (vP w6.heap.size 0)) (vA [(vI b),(.slice a8 i i)]) (zD (vs:= [(vI b),(.slice a8 i i)]) (hBw29.all)) ?_)))))
  have hK41:=(((((((((((((((hBw2.ext hEw3)).ext hEw4)).chg hCw5 (fun hs=>by have h:_=_:=hs;omega))).ext hEw6)).ext hEw7)).chg hCw8 (fun hs=>by have h:_=_:=hs;omega))).chg hEl (fun hs=>by have h:_=_:=hs;omega))).chg hCw29 (fun hs=>by have h:_=_:=hs;omega))
  refine zb (zz 26 w1.heap.size 0 26 (vA [(vI b),(.slice a8 i i)]) ([(vI 0),(.slice none 0 0)]) ([(vI b),(.slice a8 i i)]) hK41 (by kernel_rfl) (by first | decide |(simp;done)|(simp;omega)) (by simp [Value.oneCell']) ?_)
  have hK42:=(((((((((((((((hBw2.ext hEw3)).ext hEw4)).chg hCw5 (fun hs=>by have h:_=_:=hs;omega))).ext hEw6)).ext hEw7)).chg hCw8 (fun hs=>by have h:_=_:=hs;omega))).chg hEl (fun hs=>by have h:_=_:=hs;omega))).chg hCw29 (fun hs=>by have h:_=_:=hs;omega))
  intro w30 hBw30 hCw30
  have hzw30:=hCw30.size
  rw [zm _ _ (by kernel_rfl)] at hBw30
  refine zd 1 [(5,(vI 0))] (zg (zc (zx (zas (show zab Tryz.prog 83 _ _ (.cell 4 26) (vA [(vI b),(.slice a8 i i)]) from ⟨⟨w1.heap.size,0,none⟩,(by kernel_rfl),zP (T:=26) (vs:= [(vI b),(.slice a8 i i)]) (hBw30).all (by kernel_rfl)⟩) (show zab Tryz.prog 83 _ _ (.tmp 5) (vI 0) by (show _=_;kernel_rfl)) ?_))))
  have hX5:Ext w w30:=(Ext.own (Ext.own (Ext.own (Ext.own (((Ext.own (((hEw1.trans hEw2).trans hEw3).trans hEw4) hCw5 (by omega)).trans hEw6).trans hEw7) hCw8 (by omega)) hEl (by omega)) hCw29 (by omega)) hCw30 (by omega))
  rw [hmn]
  exact ⟨_,rfl,(((((hFz7_0).chg hCw29 (fun k h1 h2 hs=>by have h:k=_:=hs;omega))).chg hCw30 (fun k h1 h2 hs=>by have h:k=_:=hs;omega))).now.mono (by omega) (Nat.le_refl _),hX5⟩
end Go.Proofs.YtgdpdnokcnhgnaaGreatDoor
namespace Go.Proofs.YtgdpdnokcnhgnaaGreatDoor
open Go Go.RowKit Go.Cs
set_option maxRecDepth 100000
end Go.Proofs.YtgdpdnokcnhgnaaGreatDoor
namespace Go.Proofs.YtgdpdnokcnhgnaaGreatDoor
open Go Go.RowKit Go.Cs
set_option maxRecDepth 100000
set_option maxHeartbeats 4000000 in
theorem zmt (w:World) (hg0:Gl 0 [vI 45,vI 33] w) (hg1:Gl 2 (w8C za2) w) (hg2:Gl 3 (zR kA) w) (hg3:Gl 1 [.iface 199 (.agg #[.pointer (some ⟨4,99,none⟩)])] w):
  Calls Tryz.prog 11 #[] w (Ret fun r w'=>r=vT∧Ext w w'):=by
 refine zL (n:=149) (σ:= []) Tryz.func11 rfl ?_
 have hgl0:=hg0.lt
 have hgl1:=hg1.lt
 have hgl2:=hg2.lt
 have hgl3:=hg3.lt
 have ht5:tot 5=3:=by decide
 have ht1:tot 1=1:=by decide
 refine zf (ze (zd 1 [(0,vF)] (zg (zc (zf (ze (zb (zi (some 16) (zoF 1 7 _ (by first | omega | decide) (by first | omega | decide)) ?_))))))))
 rintro _ w1 ⟨rfl,hEw1⟩
 have hzw1:=hEw1.size
 refine zb (zt (some 1) (Instr.alloc 33 true (.tuple #[])) (vP w1.heap.size 0) (zE Rec.zero) 33 ?_)
 intro w2 hBw2 hEw2
 have hzw2:=hEw2.size;have hlw2:=hBw2.lt
 refine zb (zz 33 w1.heap.size 0 33 (vA (zE (mkR 1 7))) (zE Rec.zero) (zE (mkR 1 7)) hBw2 (by rw [zY];kernel_rfl) (by first |(simp;done)|(simp;omega)) (zaU _) ?_)
 intro w3 hBw3 hCw3
 have hzw3:=hCw3.size
 rw [zm _ _ (by simp)] at hBw3
 refine zg (zc (zf (ze (zd 1 [(18,(vA (zE Rec.zero)))] (zb (zt (some 19) (Instr.buildSlice 39 1 #[(0,(vA (zE Rec.zero)))]) (.slice (pA w3.heap.size 0) 1 1) (([Rec.zero]:List Rec).flatMap zE) 33 ?_ (hr:=zgw (f:=zE) (sz:=35) (z:=(vA (zE Rec.zero))) [Rec.zero] zY (by decide) rfl (Nat.succ_pos _) (show 35≤2^24 from by decide) rfl)))))))
 intro w4 hBw4 hEw4
 have hzw4:=hEw4.size;have hlw4:=hBw4.lt
 have hmw4:Ms zE 35 w3.heap.size (w3.heap.size+1) w4 (pA w3.heap.size 0) 1 1 [Rec.zero]:=Ms.of_pre (r:= []) (by rw [List.append_nil];exact hBw4) zY rfl (Nat.le_refl _) (by decide) (Nat.le_refl _) (Nat.lt_succ_self _)
 refine zb (zt (some 20) (Instr.buildSlice 40 1 #[(0,(vI 0))]) (.slice (pA w4.heap.size 0) 1 1) [(vI 0)] 3 ?_)
 intro w5 hBw5 hEw5
 have hzw5:=hEw5.size;have hlw5:=hBw5.lt
 have hSw5:Es (nv .i64) w4.heap.size (w4.heap.size+1) w5 (pA w4.heap.size 0) 1 1 ([0]):=Es.of_blk hBw5 rfl rfl (Nat.le_refl _) (by decide) (Nat.le_refl _) (Nat.lt_succ_self _)
 have hK1:=(((((((((hg0.ext hEw1)).ext hEw2)).chg hCw3 (fun hs=>by have h:_=_:=hs;omega))).ext hEw4)).ext hEw5)
 have hK2:=(((((((((hg1.ext hEw1)).ext hEw2)).chg hCw3 (fun hs=>by have h:_=_:=hs;omega))).ext hEw4)).ext hEw5)
 have hK3:=(((((((((hg2.ext hEw1)).ext hEw2)).chg hCw3 (fun hs=>by have h:_=_:=hs;omega))).ext hEw4)).ext hEw5)
 refine zb (zi (some 21) (zh6 1 _ (hmw4.ext hEw5) hSw5 (znf) (by first | omega | decide) hK1 hK2 hK3) ?_)
 rintro _ w6 ⟨a1,rfl,hFz2_0,hEw6⟩
 have hzw6:=hEw6.size
 have hma1:=hFz2_0.ms;have hlea1:=hma1.le
 refine zd 3 [(23,(vI 0)),(22,(vA [(vI 1),(.slice a1 (tot 1) (tot 1))])),(17,(.tuple #[(vA [(vI 1),(.slice a1 (tot 1) (tot 1))]),(vI 0)]))] (zb (zt (some 2) (Instr.alloc 50 true (.tuple #[])) (vP w6.heap.size 0) ([(vI 0),(.slice none 0 0)]) 50 ?_))
 intro w7 hBw7 hEw7
 have hzw7:=hEw7.size;have hlw7:=hBw7.lt
 refine zb (zz 50 w6.heap.size 0 50 (vA [(vI 1),(.slice a1 (tot 1) (tot 1))]) ([(vI 0),(.slice none 0 0)]) ([(vI 1),(.slice a1 (tot 1) (tot 1))]) hBw7 (by kernel_rfl) (by first | decide |(simp;done)|(simp;omega)) (by simp [Value.oneCell']) ?_)
 intro w8 hBw8 hCw8
 have hzw8:=hCw8.size
 rw [zm _ _ (by kernel_rfl)] at hBw8
 refine zd 1 [(3,(vI 0))] (zg (zc (zf (ze (zb (zj (some 25) (Instr.loadAt 50 (vP w6.heap.size 0)) (vA [(vI 1),(.slice a1 (tot 1) (tot 1))]) (zD (vs:= [(vI 1),(.slice a1 (tot 1) (tot 1))]) (hBw8.all)) ?_))))))
 have hK4:=(((((hK1.ext hEw6)).ext hEw7)).chg hCw8 (fun hs=>by have h:_=_:=hs;omega))
 have hK5:=(((((hK2.ext hEw6)).ext hEw7)).chg hCw8 (fun hs=>by have h:_=_:=hs;omega))
 have hK6:=(((((hK3.ext hEw6)).ext hEw7)).chg hCw8 (fun hs=>by have h:_=_:=hs;omega))
 have hK7:=(((((((((((((((hg3.ext hEw1)).ext hEw2)).chg hCw3 (fun hs=>by have h:_=_:=hs;omega))).ext hEw4)).ext hEw5)).ext hEw6)).ext hEw7)).chg hCw8 (fun hs=>by have h:_=_:=hs;omega))
 refine zb (zi (some 26) (zeP 1 _ (((hma1.ext hEw7)).chg hCw8 (fun k h1 h2 hs=>by have h:k=_:=hs;omega)) (by first | omega | decide) (by first | omega | decide) (rfl) (zcE znf) hK4 hK5 hK6 hK7) ?_)
 rintro _ w9 ⟨rfl,hEw9⟩
 have hzw9:=hEw9.size
 rw [show ((zaa ([Rec.zero]) ([0])).getD (num 1 (hgt 1)) Nod.zero)=Nod.zero from zpu]
 refine zd 3 [(28,(vI 0)),(27,(vA (zw (zN (zM Nod.zero))))),(24,(.tuple #[(vA (zw (zN (zM Nod.zero)))),(vI 0)]))] (zb (zt (some 4) (Instr.alloc 23 true (.tuple #[])) (vP w9.heap.size 0) (zw Dig.zero) 23 ?_))
 intro w10 hBw10 hEw10
 have hzw10:=hEw10.size;have hlw10:=hBw10.lt
 refine zb (zz 23 w9.heap.size 0 23 (vA (zw (zN (zM Nod.zero)))) (zw Dig.zero) (zw (zN (zM Nod.zero))) hBw10 (by rw [zac];kernel_rfl) (by first |(simp;done)|(simp;omega)) (zaT _) ?_)
 intro w11 hBw11 hCw11
 have hzw11:=hCw11.size
 rw [zm _ _ (by simp)] at hBw11
 refine zd 1 [(5,(vI 0))] (zg (zc (zf (ze ?_))))
 have hK8:=(((((((((((((((hBw3.ext hEw4)).ext hEw5)).ext hEw6)).ext hEw7)).chg hCw8 (fun hs=>by have h:_=_:=hs;omega))).ext hEw9)).ext hEw10)).chg hCw11 (fun hs=>by have h:_=_:=hs;omega))
 refine zb (zj (some 30) (Instr.loadAt 33 (vP w1.heap.size 0)) (vA (zE (mkR 1 7))) (zD (vs:=zE (mkR 1 7)) (hK8.all) (by rw [zY];kernel_rfl)) ?_)
 refine zd 4 [(34,(vA (zE Rec.zero))),(33,(vA (zE Rec.zero))),(32,(vA (zE Rec.zero))),(31,(vA (zE Rec.zero)))] (zb (zt (some 35) (Instr.buildSlice 39 5 #[(0,(vA (zE (mkR 1 7)))),(1,(vA (zE Rec.zero))),(2,(vA (zE Rec.zero))),(3,(vA (zE Rec.zero))),(4,(vA (zE Rec.zero)))]) (.slice (pA w11.heap.size 0) 5 5) (([(mkR 1 7),Rec.zero,Rec.zero,Rec.zero,Rec.zero]:List Rec).flatMap zE) 33 ?_ (hr:=zgw (f:=zE) (sz:=35) (z:=(vA (zE Rec.zero))) [(mkR 1 7),Rec.zero,Rec.zero,Rec.zero,Rec.zero] zY (by decide) rfl (Nat.succ_pos _) (show 175≤2^24 from by decide) rfl)))
 intro w12 hBw12 hEw12
 have hzw12:=hEw12.size;have hlw12:=hBw12.lt
 have hmw12:Ms zE 35 w11.heap.size (w11.heap.size+1) w12 (pA w11.heap.size 0) 5 5 [(mkR 1 7),Rec.zero,Rec.zero,Rec.zero,Rec.zero]:=Ms.of_pre (r:= []) (by rw [List.append_nil];exact hBw12) zY rfl (Nat.le_refl _) (by decide) (Nat.le_refl _) (Nat.lt_succ_self _)
 refine zb (zt (some 36) (Instr.buildSlice 40 3 #[(0,(vI 1)),(1,(vI 0)),(2,(vI 0))]) (.slice (pA w12.heap.size 0) 3 3) [(vI 1),(vI 0),(vI 0)] 3 ?_)
 intro w13 hBw13 hEw13
 have hzw13:=hEw13.size;have hlw13:=hBw13.lt
 have hSw13:Es (nv .i64) w12.heap.size (w12.heap.size+1) w13 (pA w12.heap.size 0) 3 3 ([1,0,0]):=Es.of_blk hBw13 rfl rfl (Nat.le_refl _) (by decide) (Nat.le_refl _) (Nat.lt_succ_self _)
 have hK9:=(((((((((hK4.ext hEw9)).ext hEw10)).chg hCw11 (fun hs=>by have h:_=_:=hs;omega))).ext hEw12)).ext hEw13)
 have hK10:=(((((((((hK5.ext hEw9)).ext hEw10)).chg hCw11 (fun hs=>by have h:_=_:=hs;omega))).ext hEw12)).ext hEw13)
 have hK11:=(((((((((hK6.ext hEw9)).ext hEw10)).chg hCw11 (fun hs=>by have h:_=_:=hs;omega))).ext hEw12)).ext hEw13)
 refine zb (zi (some 37) (zh6 5 _ (hmw12.ext hEw13) hSw13 (zeN (zbg 1 7)) (by first | omega | decide) hK9 hK10 hK11) ?_)
 rintro _ w14 ⟨a2,rfl,hFz4_0,hEw14⟩
 have hzw14:=hEw14.size
 have hma2:=hFz4_0.ms;have hlea2:=hma2.le
 refine zd 3 [(39,(vI 0)),(38,(vA [(vI 5),(.slice a2 (tot 5) (tot 5))])),(29,(.tuple #[(vA [(vI 5),(.slice a2 (tot 5) (tot 5))]),(vI 0)]))] (zb (zt (some 6) (Instr.alloc 50 true (.tuple #[])) (vP w14.heap.size 0) ([(vI 0),(.slice none 0 0)]) 50 ?_))
 intro w15 hBw15 hEw15
 have hzw15:=hEw15.size;have hlw15:=hBw15.lt
 refine zb (zz 50 w14.heap.size 0 50 (vA [(vI 5),(.slice a2 (tot 5) (tot 5))]) ([(vI 0),(.slice none 0 0)]) ([(vI 5),(.slice a2 (tot 5) (tot 5))]) hBw15 (by kernel_rfl) (by first | decide |(simp;done)|(simp;omega)) (by simp [Value.oneCell']) ?_)
 intro w16 hBw16 hCw16
 have hzw16:=hCw16.size
 rw [zm _ _ (by kernel_rfl)] at hBw16
 refine zd 1 [(7,(vI 0))] (zg (zc (zf (ze (zb (zj (some 41) (Instr.loadAt 50 (vP w14.heap.size 0)) (vA [(vI 5),(.slice a2 (tot 5) (tot 5))]) (zD (vs:= [(vI 5),(.slice a2 (tot 5) (tot 5))]) (hBw16.all)) ?_))))))
 have hK12:=(((((hK9.ext hEw14)).ext hEw15)).chg hCw16 (fun hs=>by have h:_=_:=hs;omega))
 have hK13:=(((((hK10.ext hEw14)).ext hEw15)).chg hCw16 (fun hs=>by have h:_=_:=hs;omega))
 have hK14:=(((((hK11.ext hEw14)).ext hEw15)).chg hCw16 (fun hs=>by have h:_=_:=hs;omega))
 have hK15:=(((((((((((((((hK7.ext hEw9)).ext hEw10)).chg hCw11 (fun hs=>by have h:_=_:=hs;omega))).ext hEw12)).ext hEw13)).ext hEw14)).ext hEw15)).chg hCw16 (fun hs=>by have h:_=_:=hs;omega))
 refine zb (zi (some 42) (zgC 5 0 _ (((hma2.ext hEw15)).chg hCw16 (fun k h1 h2 hs=>by have h:k=_:=hs;omega)) (by first | omega | decide) (by first | omega | decide) (rfl) (zcE (zeN (zbg 1 7))) (by first | omega | decide) hK12 hK13 hK14 hK15) ?_)
 rintro _ w17 ⟨a3,rfl,hFz5_0,hEw17⟩
 have hzw17:=hEw17.size
 have hlea3:=hFz5_0.le
 rw [show mny 5 (zaa ([(mkR 1 7),Rec.zero,Rec.zero,Rec.zero,Rec.zero]) ([1,0,0])) 0=2 from zfD (zbg 1 7) (show (mkR 1 7).st≠0 by decide)] at hFz5_0
 rw [show mny 5 (zaa ([(mkR 1 7),Rec.zero,Rec.zero,Rec.zero,Rec.zero]) ([1,0,0])) 0=2 from zfD (zbg 1 7) (show (mkR 1 7).st≠0 by decide)]
 refine zd 3 [(44,(vI 0)),(43,(vA [(vI 0),(.slice a3 2 2)])),(40,(.tuple #[(vA [(vI 0),(.slice a3 2 2)]),(vI 0)]))] (zb (zt (some 8) (Instr.alloc 26 true (.tuple #[])) (vP w17.heap.size 0) ([(vI 0),(.slice none 0 0)]) 26 ?_))
 intro w18 hBw18 hEw18
 have hzw18:=hEw18.size;have hlw18:=hBw18.lt
 refine zb (zz 26 w17.heap.size 0 26 (vA [(vI 0),(.slice a3 2 2)]) ([(vI 0),(.slice none 0 0)]) ([(vI 0),(.slice a3 2 2)]) hBw18 (by kernel_rfl) (by first | decide |(simp;done)|(simp;omega)) (by simp [Value.oneCell']) ?_)
 intro w19 hBw19 hCw19
 have hzw19:=hCw19.size
 rw [zm _ _ (by kernel_rfl)] at hBw19
 refine zd 1 [(9,(vI 0))] (zg (zc (zf (ze ?_))))
 have hK16:=(((((hBw16.ext hEw17)).ext hEw18)).chg hCw19 (fun hs=>by have h:_=_:=hs;omega))
 refine zb (zj (some 46) (Instr.loadAt 50 (vP w14.heap.size 0)) (vA [(vI 5),(.slice a2 (tot 5) (tot 5))]) (zD (vs:= [(vI 5),(.slice a2 (tot 5) (tot 5))]) (hK16.all)) ?_)
 have hK17:=(((((((((hma2.ext hEw15)).chg hCw16 (fun k h1 h2 hs=>by have h:k=_:=hs;omega))).ext hEw17)).ext hEw18)).chg hCw19 (fun k h1 h2 hs=>by have h:k=_:=hs;omega))
 have hK18:=(((((hK12.ext hEw17)).ext hEw18)).chg hCw19 (fun hs=>by have h:_=_:=hs;omega))
 have hK19:=(((((hK13.ext hEw17)).ext hEw18)).chg hCw19 (fun hs=>by have h:_=_:=hs;omega))
 have hK20:=(((((hK14.ext hEw17)).ext hEw18)).chg hCw19 (fun hs=>by have h:_=_:=hs;omega))
 have hK21:=(((((hK15.ext hEw17)).ext hEw18)).chg hCw19 (fun hs=>by have h:_=_:=hs;omega))
 refine zb (zi (some 47) (zgC 5 4 _ hK17 (by first | omega | decide) (by first | omega | decide) (rfl) (zcE (zeN (zbg 1 7))) (by first | omega | decide) hK18 hK19 hK20 hK21) ?_)
 rintro _ w20 ⟨a4,rfl,hFz6_0,hEw20⟩
 have hzw20:=hEw20.size
 have hlea4:=hFz6_0.le
 rw [show mny 5 (zaa ([(mkR 1 7),Rec.zero,Rec.zero,Rec.zero,Rec.zero]) ([1,0,0])) 4=1 from zfE (zbg 1 7)] at hFz6_0
 rw [show mny 5 (zaa ([(mkR 1 7),Rec.zero,Rec.zero,Rec.zero,Rec.zero]) ([1,0,0])) 4=1 from zfE (zbg 1 7)]
 refine zd 3 [(49,(vI 0)),(48,(vA [(vI 4),(.slice a4 1 1)])),(45,(.tuple #[(vA [(vI 4),(.slice a4 1 1)]),(vI 0)]))] (zb (zt (some 10) (Instr.alloc 26 true (.tuple #[])) (vP w20.heap.size 0) ([(vI 0),(.slice none 0 0)]) 26 ?_))
 intro w21 hBw21 hEw21
 have hzw21:=hEw21.size;have hlw21:=hBw21.lt
 refine zb (zz 26 w20.heap.size 0 26 (vA [(vI 4),(.slice a4 1 1)]) ([(vI 0),(.slice none 0 0)]) ([(vI 4),(.slice a4 1 1)]) hBw21 (by kernel_rfl) (by first | decide |(simp;done)|(simp;omega)) (by simp [Value.oneCell']) ?_)
 intro w22 hBw22 hCw22
 have hzw22:=hCw22.size
 rw [zm _ _ (by kernel_rfl)] at hBw22
 refine zd 1 [(11,(vI 0))] (zg (zc (zf (ze ?_))))
 have hK22:=(((((hK16.ext hEw20)).ext hEw21)).chg hCw22 (fun hs=>by have h:_=_:=hs;omega))
 refine zb (zj (some 51) (Instr.loadAt 50 (vP w14.heap.size 0)) (vA [(vI 5),(.slice a2 (tot 5) (tot 5))]) (zD (vs:= [(vI 5),(.slice a2 (tot 5) (tot 5))]) (hK22.all)) ?_)
 have hK23:=(((((hK17.ext hEw20)).ext hEw21)).chg hCw22 (fun k h1 h2 hs=>by have h:k=_:=hs;omega))
 have hK24:=(((((hK18.ext hEw20)).ext hEw21)).chg hCw22 (fun hs=>by have h:_=_:=hs;omega))
 have hK25:=(((((hK19.ext hEw20)).ext hEw21)).chg hCw22 (fun hs=>by have h:_=_:=hs;omega))
 have hK26:=(((((hK20.ext hEw20)).ext hEw21)).chg hCw22 (fun hs=>by have h:_=_:=hs;omega))
 have hK27:=(((((hK21.ext hEw20)).ext hEw21)).chg hCw22 (fun hs=>by have h:_=_:=hs;omega))
 refine zb (zi (some 52) (zeP 5 _ hK23 (by first | omega | decide) (by first | omega | decide) (rfl) (zcE (zeN (zbg 1 7))) hK24 hK25 hK26 hK27) ?_)
 rintro _ w23 ⟨rfl,hEw23⟩
 have hzw23:=hEw23.size
 rw [show zN (zM ((zaa ([(mkR 1 7),Rec.zero,Rec.zero,Rec.zero,Rec.zero]) ([1,0,0])).getD (num 5 (hgt 5)) Nod.zero))=(zan ([(mkR 1 7),Rec.zero,Rec.zero,Rec.zero,Rec.zero]) ([1,0,0])) from znJ _]
 refine zd 3 [(54,(vI 0)),(53,(vA (zw ((zan ([(mkR 1 7),Rec.zero,Rec.zero,Rec.zero,Rec.zero]) ([1,0,0])))))),(50,(.tuple #[(vA (zw ((zan ([(mkR 1 7),Rec.zero,Rec.zero,Rec.zero,Rec.zero]) ([1,0,0]))))),(vI 0)]))] (zb (zt (some 12) (Instr.alloc 23 true (.tuple #[])) (vP w23.heap.size 0) (zw Dig.zero) 23 ?_))
 intro w24 hBw24 hEw24
 have hzw24:=hEw24.size;have hlw24:=hBw24.lt
 refine zb (zz 23 w23.heap.size 0 23 (vA (zw ((zan ([(mkR 1 7),Rec.zero,Rec.zero,Rec.zero,Rec.zero]) ([1,0,0]))))) (zw Dig.zero) (zw ((zan ([(mkR 1 7),Rec.zero,Rec.zero,Rec.zero,Rec.zero]) ([1,0,0])))) hBw24 (by rw [zac];kernel_rfl) (by first |(simp;done)|(simp;omega)) (zaT _) ?_)
 intro w25 hBw25 hCw25
 have hzw25:=hCw25.size
 rw [zm _ _ (by simp)] at hBw25
 refine zd 1 [(13,(vI 0))] (zg (zc (zf (zf (zag (Ext w25.drew) 36 [(56,8,0),(57,32,0),(58,108086391056891904,3),(59,128,0),(60,432345564227567616,12),(61,512,0),(62,1729382256910270464,48),(63,2048,0),(64,6917529027641081856,192),(65,8192,0),(66,27670116110564327424,768),(67,36893488147419103232,1024),(68,73786976294838206464,2048),(69,147573952589676412944,4096),(70,147573952589676412928,4096),(71,737869762948382064640,20480),(72,1623313478486440542208,45056),(73,2508757194024499019776,69632),(74,4722366482869645213696,163840),(75,9444732965739290427456,262144),(76,28334198897217871282176,786432),(77,47223664828696452136960,1310720),(78,85002596691653613846528,2359296),(79,160560460417567937265664,4456448),(80,302231454903657293676544,8650752),(81,604462909807314587353344,16777216),(82,1813388729421943762059264,50331648),(83,3022314549036572936765440,83886080),(84,5440166188265831286177792,150994944),(85,10275869466724347985002496,285212672),(86,19342813113834066795298816,553648128),(87,38685626227668133590598656,1073741824),(88,116056878683004400771792896,3221225472),(89,193428131138340667952988160,5368709120),(90,348170636049013202315378688,9663676416),(91,657655645870358271040159744,18253611008)] (fun hT187=> ?_))))))
 have hEw26:Ext w25 w25.drew:=Ext.drew w25
 generalize w25.drew=w26 at hEw26⊢
 have hzw26:=hEw26.size
 refine zk hT187 [(0,55,(vI 0)),(1,56,(vI 0))] 2 3 (zh hT187 2 7 (some 57) (vI 0) (zq .i64 (IntKind.i64.wrap (((0:Nat):Int)+((0:Nat):Int))) (zG (by omega) (by omega) (by omega))) (zk hT187 [(3,58,(vI 0))] 1 15 (zh hT187 4 31 (some 59) (vI 0) (zq .i64 (IntKind.i64.wrap (((0:Nat):Int)+((0:Nat):Int))) (zG (by omega) (by omega) (by omega))) (zk hT187 [(5,60,(vI 0))] 1 63 (zh hT187 6 127 (some 61) (vI 0) (zq .i64 (IntKind.i64.wrap (((0:Nat):Int)+((0:Nat):Int))) (zG (by omega) (by omega) (by omega))) (zk hT187 [(7,62,(vI 0))] 1 255 (zh hT187 8 511 (some 63) (vI 0) (zq .i64 (IntKind.i64.wrap (((0:Nat):Int)+((0:Nat):Int))) (zG (by omega) (by omega) (by omega))) (zk hT187 [(9,64,(vI 0))] 1 1023 (zh hT187 10 2047 (some 65) (vI 0) (zq .i64 (IntKind.i64.wrap (((0:Nat):Int)+((0:Nat):Int))) (zG (by omega) (by omega) (by omega))) ?_)))))))))
 refine zk hT187 [(11,66,vF),(12,67,vF)] 2 8191 ?_
 have hK28:=(((((((((((((((((((((((((((((hBw11.ext hEw12)).ext hEw13)).ext hEw14)).ext hEw15)).chg hCw16 (fun hs=>by have h:_=_:=hs;omega))).ext hEw17)).ext hEw18)).chg hCw19 (fun hs=>by have h:_=_:=hs;omega))).ext hEw20)).ext hEw21)).chg hCw22 (fun hs=>by have h:_=_:=hs;omega))).ext hEw23)).ext hEw24)).chg hCw25 (fun hs=>by have h:_=_:=hs;omega))).ext hEw26)
 refine zh hT187 13 16383 (some 68) (vA (zw (zN (zM Nod.zero)))) (zl (Instr.loadAt 23 (vP w9.heap.size 0)) (fun w' hC=>zD (vs:=zw (zN (zM Nod.zero))) ((hK28.ext hC).all) (by rw [zac];kernel_rfl))) (zk hT187 [(14,69,(vA (zK Nod.zero)))] 1 32767 (zn 15 65535 (zi (some 70) (zhm Nod.zero _) ?_)))
 rintro _ w27 ⟨rfl,hEw27⟩
 have hzw27:=hEw27.size
 refine ⟨.inr hEw27, ?_⟩
 refine zh (hw:=hEw27) hT187 16 131071 (some 71) vF (zl (bo .neq 23 (.tmp 68) (.tmp 70) (vA (zw (zN (zM Nod.zero)))) (vA (zw (zN (zM Nod.zero))))) (fun w' hC=>zav (r:=true) (T:=23) ((zbj (dd:=9998) (t:=23) (e:=5) (zN (zM Nod.zero)) (zN (zM Nod.zero))).trans (congrArg (fun b=>Result.ok b _) (show ((zN (zM Nod.zero)).l==(zN (zM Nod.zero)).l)=true from beq_iff_eq.2 rfl))))) (zk (hw:=hEw27) hT187 [(17,72,vF),(18,73,vF),(19,74,(vP w14.heap.size 1))] 3 1048575 ?_)
 have hK29:=(((((((hK22.ext hEw23)).ext hEw24)).chg hCw25 (fun hs=>by have h:_=_:=hs;omega))).ext hEw26)
 refine zh (hw:=hEw27) hT187 20 2097151 (some 75) (.slice a2 (tot 5) (tot 5)) (zl (Instr.loadAt 24 (vP w14.heap.size 1)) (fun w' hC=>zo ((hK29.ext hC).cell rfl))) (zk (hw:=hEw27) hT187 [(21,76,(vI (tot 5)))] 1 4194303 (zh (hw:=hEw27) hT187 22 8388607 (some 77) vF (zaI (((tot 5:Nat):Int) !=((3:Nat):Int)) (zaL (by omega))) (zk (hw:=hEw27) hT187 [(23,78,vF),(24,79,vF),(25,80,(vP w17.heap.size 1))] 3 67108863 ?_)))
 have hK30:=(((((((((((((hBw19.ext hEw20)).ext hEw21)).chg hCw22 (fun hs=>by have h:_=_:=hs;omega))).ext hEw23)).ext hEw24)).chg hCw25 (fun hs=>by have h:_=_:=hs;omega))).ext hEw26)
 refine zh (hw:=hEw27) hT187 26 134217727 (some 81) (.slice a3 2 2) (zl (Instr.loadAt 24 (vP w17.heap.size 1)) (fun w' hC=>zo ((hK30.ext hC).cell rfl))) (zk (hw:=hEw27) hT187 [(27,82,(vI 2))] 1 268435455 (zh (hw:=hEw27) hT187 28 536870911 (some 83) vF (zaI (((2:Nat):Int) !=((2:Nat):Int)) (zaL (by omega))) (zk (hw:=hEw27) hT187 [(29,84,vF),(30,85,vF),(31,86,(vP w20.heap.size 1))] 3 4294967295 ?_)))
 have hK31:=(((((((hBw22.ext hEw23)).ext hEw24)).chg hCw25 (fun hs=>by have h:_=_:=hs;omega))).ext hEw26)
 refine zh (hw:=hEw27) hT187 32 8589934591 (some 87) (.slice a4 1 1) (zl (Instr.loadAt 24 (vP w20.heap.size 1)) (fun w' hC=>zo ((hK31.ext hC).cell rfl))) (zk (hw:=hEw27) hT187 [(33,88,(vI 1))] 1 17179869183 (zh (hw:=hEw27) hT187 34 34359738367 (some 89) vF (zaI (((1:Nat):Int) !=((1:Nat):Int)) (zaL (by omega))) (zk (hw:=hEw27) hT187 [(35,90,vF)] 1 68719476735 (zJ (zc (zr (zy (zc (zf ?_)))))))))
 refine zf (zag (Ext w27.drew) 12 [(92,64,0),(93,2475880078570760549798248448,1),(94,4951760157141521099596496896,2),(95,9903520314283042199192993792,4),(96,19807040628566084398385987584,8),(97,2,0),(98,79228162514264337593543950336,32),(99,158456325028528675187087900672,64),(100,316912650057057350374175801344,128),(101,633825300114114700748351602688,256),(102,1267650600228229401496703205376,512),(103,2574915281713590971790178385920,1040)] (fun hT233=> ?_))
 have hEw28:Ext w27 w27.drew:=Ext.drew w27
 generalize w27.drew=w28 at hEw28⊢
 have hzw28:=hEw28.size
 refine zk hT233 [(0,91,(vP w14.heap.size 1))] 1 1 (zh hT233 1 3 (some 92) (.slice a2 (tot 5) (tot 5)) (zl (Instr.loadAt 24 (vP w14.heap.size 1)) (fun w' hC=>zo (((((hK29.ext hEw27)).ext hEw28).ext hC).cell rfl))) ?_)
 obtain ⟨b1,o1,rfl⟩:=hK23.addr (by omega) (by decide)
 refine zh hT233 2 7 (some 93) (vP b1 (o1+2*274)) (zl (Instr.indexAt 24 (.slice (pA b1 o1) (tot 5) (tot 5)) (vI 2)) (fun w' hC=>zap (E:=47) (sz:=274) (by omega))) (zk hT233 [(3,94,(vP b1 (o1+2*274+142)))] 1 15 ?_)
 have hK32:=(((((((((((hK23.ext hEw23)).ext hEw24)).chg hCw25 (fun k h1 h2 hs=>by have h:k=_:=hs;omega))).ext hEw26)).ext hEw27)).ext hEw28)
 refine zh hT233 4 31 (some 95) (vA (e4C ((zaa ([(mkR 1 7),Rec.zero,Rec.zero,Rec.zero,Rec.zero]) ([1,0,0])).getD 2 Nod.zero).es)) (zl (Instr.loadAt 45 (vP b1 (o1+2*274+142))) (fun w' hC=>zD (vs:=e4C ((zaa ([(mkR 1 7),Rec.zero,Rec.zero,Rec.zero,Rec.zero]) ([1,0,0])).getD 2 Nod.zero).es) (((hK32.ext hC).at Nod.zero (by omega)).sub 142 (e4C ((zaa ([(mkR 1 7),Rec.zero,Rec.zero,Rec.zero,Rec.zero]) ([1,0,0])).getD 2 Nod.zero).es) (zeK _)) (by rw [zdg];kernel_rfl))) ?_
 have hK33:=(((((((((((((((((((((((((((((((((hK8.ext hEw12)).ext hEw13)).ext hEw14)).ext hEw15)).chg hCw16 (fun hs=>by have h:_=_:=hs;omega))).ext hEw17)).ext hEw18)).chg hCw19 (fun hs=>by have h:_=_:=hs;omega))).ext hEw20)).ext hEw21)).chg hCw22 (fun hs=>by have h:_=_:=hs;omega))).ext hEw23)).ext hEw24)).chg hCw25 (fun hs=>by have h:_=_:=hs;omega))).ext hEw26)).ext hEw27)).ext hEw28)
 refine zh hT233 5 63 (some 96) (vA (zE (mkR 1 7))) (zl (Instr.loadAt 33 (vP w1.heap.size 0)) (fun w' hC=>zD (vs:=zE (mkR 1 7)) ((hK33.ext hC).all) (by rw [zY];kernel_rfl))) (zh hT233 6 127 (some 97) (vA (r4C (R4.zero.set 0 (mkR 1 7)))) (zl (Instr.build 42 #[(0,(vA (zE (mkR 1 7))))]) (fun w' hC=>zjo (E:=33) (mkR 1 7))) (zh hT233 7 255 (some 98) (vA (zK (⟨0,0,(R4.zero.set 0 (mkR 1 7)),E4.zero,by decide,by decide⟩))) (zl (Instr.build 47 #[(2,(vA (r4C (R4.zero.set 0 (mkR 1 7)))))]) (fun w' hC=>zhR (R4.zero.set 0 (mkR 1 7)))) (zn 8 511 (zi (some 99) (zhm (⟨0,0,(R4.zero.set 0 (mkR 1 7)),E4.zero,by decide,by decide⟩) _) ?_))))
 rintro _ w29 ⟨rfl,hEw29⟩
 have hzw29:=hEw29.size
 refine ⟨.inr hEw29, ?_⟩
 refine zh (hw:=hEw29) hT233 9 1023 (some 100) (vA (zai (⟨2,(zN (zM (⟨0,0,(R4.zero.set 0 (mkR 1 7)),E4.zero,by decide,by decide⟩))),by omega⟩))) (zl (Instr.build 44 #[(0,(vB 2)),(1,(vA (zw (zN (zM (⟨0,0,(R4.zero.set 0 (mkR 1 7)),E4.zero,by decide,by decide⟩))))))]) (fun w' hC=>zfP 2 (zN (zM (⟨0,0,(R4.zero.set 0 (mkR 1 7)),E4.zero,by decide,by decide⟩))) (by omega))) (zh (hw:=hEw29) hT233 10 2047 (some 101) (vA (e4C (E4.zero.set 0 (⟨2,(zN (zM (⟨0,0,(R4.zero.set 0 (mkR 1 7)),E4.zero,by decide,by decide⟩))),by omega⟩)))) (zl (Instr.build 45 #[(0,(vA (zai (⟨2,(zN (zM (⟨0,0,(R4.zero.set 0 (mkR 1 7)),E4.zero,by decide,by decide⟩))),by omega⟩))))]) (fun w' hC=>zjh (E:=44) (⟨2,(zN (zM (⟨0,0,(R4.zero.set 0 (mkR 1 7)),E4.zero,by decide,by decide⟩))),by omega⟩))) ?_)
 refine zh (hw:=hEw29) hT233 11 4095 (some 102) vF (zl (bo .neq 45 (.tmp 95) (.tmp 101) (vA (e4C ((zaa ([(mkR 1 7),Rec.zero,Rec.zero,Rec.zero,Rec.zero]) ([1,0,0])).getD 2 Nod.zero).es)) (vA (e4C (E4.zero.set 0 (⟨2,(zN (zM (⟨0,0,(R4.zero.set 0 (mkR 1 7)),E4.zero,by decide,by decide⟩))),by omega⟩))))) (fun w' hC=>zav (r:=true) (T:=45) ((zeW (dd:=9996) (T:=45) (t:=44) (t8:=5) (td:=23) (e:=5) (((zaa ([(mkR 1 7),Rec.zero,Rec.zero,Rec.zero,Rec.zero]) ([1,0,0])).getD 2 Nod.zero).es) (E4.zero.set 0 (⟨2,(zN (zM (⟨0,0,(R4.zero.set 0 (mkR 1 7)),E4.zero,by decide,by decide⟩))),by omega⟩))).trans (congrArg (fun b=>Result.ok b _) (show ((((zaa ([(mkR 1 7),Rec.zero,Rec.zero,Rec.zero,Rec.zero]) ([1,0,0])).getD 2 Nod.zero).es).eqb (E4.zero.set 0 (⟨2,(zN (zM (⟨0,0,(R4.zero.set 0 (mkR 1 7)),E4.zero,by decide,by decide⟩))),by omega⟩)))=true from (E4.eqb_iff _ _).2 (zqo (show (mkR 1 7).st≠0 by decide))))))) (zJ (zc (zr (zy (zc (zf (ze ?_)))))))
 have hK34:=(((((((hBw25.ext hEw26)).ext hEw27)).ext hEw28)).ext hEw29)
 refine zb (zj (some 104) (Instr.loadAt 23 (vP w23.heap.size 0)) (vA (zw ((zan ([(mkR 1 7),Rec.zero,Rec.zero,Rec.zero,Rec.zero]) ([1,0,0]))))) (zD (vs:=zw ((zan ([(mkR 1 7),Rec.zero,Rec.zero,Rec.zero,Rec.zero]) ([1,0,0])))) (hK34.all) (by rw [zac];kernel_rfl)) ?_)
 have hK35:=(((((hK30.ext hEw27)).ext hEw28)).ext hEw29)
 refine zb (zj (some 105) (Instr.loadAt 26 (vP w17.heap.size 0)) (vA [(vI 0),(.slice a3 2 2)]) (zD (vs:= [(vI 0),(.slice a3 2 2)]) (hK35.all)) ?_)
 have hK36:=(((((((((((((((((((((((hFz5_0.ext hEw18)).chg hCw19 (fun k h1 h2 hs=>by have h:k=_:=hs;omega))).ext hEw20)).ext hEw21)).chg hCw22 (fun k h1 h2 hs=>by have h:k=_:=hs;omega))).ext hEw23)).ext hEw24)).chg hCw25 (fun k h1 h2 hs=>by have h:k=_:=hs;omega))).ext hEw26)).ext hEw27)).ext hEw28)).ext hEw29)
 have hK37:=(((((((((((((hK24.ext hEw23)).ext hEw24)).chg hCw25 (fun hs=>by have h:_=_:=hs;omega))).ext hEw26)).ext hEw27)).ext hEw28)).ext hEw29)
 have hK38:=(((((((((((((hK25.ext hEw23)).ext hEw24)).chg hCw25 (fun hs=>by have h:_=_:=hs;omega))).ext hEw26)).ext hEw27)).ext hEw28)).ext hEw29)
 have hK39:=(((((((((((((hK26.ext hEw23)).ext hEw24)).chg hCw25 (fun hs=>by have h:_=_:=hs;omega))).ext hEw26)).ext hEw27)).ext hEw28)).ext hEw29)
 have hK40:=(((((((((((((hK27.ext hEw23)).ext hEw24)).chg hCw25 (fun hs=>by have h:_=_:=hs;omega))).ext hEw26)).ext hEw27)).ext hEw28)).ext hEw29)
 refine zb (zi (some 106) (zcN ((5:Nat):Int) ((zan ([(mkR 1 7),Rec.zero,Rec.zero,Rec.zero,Rec.zero]) ([1,0,0]))) ((0:Nat):Int) _ hK36 hK37 hK38 hK39 hK40) ?_)
 rintro _ w30 ⟨rfl,hEw30⟩
 have hzw30:=hEw30.size
 rw [show zbu ((5:Nat):Int) ((zan ([(mkR 1 7),Rec.zero,Rec.zero,Rec.zero,Rec.zero]) ([1,0,0]))) ((0:Nat):Int) (zaR 5 (zaa ([(mkR 1 7),Rec.zero,Rec.zero,Rec.zero,Rec.zero]) ([1,0,0])) 0 2)=0 from by have hz:=(zgz (zbg 1 7) (b:=0) (by decide)).1;rw [zfD (zbg 1 7) (show (mkR 1 7).st≠0 by decide)] at hz;exact hz]
 rw [show zbs ((5:Nat):Int) ((zan ([(mkR 1 7),Rec.zero,Rec.zero,Rec.zero,Rec.zero]) ([1,0,0]))) ((0:Nat):Int) (zaR 5 (zaa ([(mkR 1 7),Rec.zero,Rec.zero,Rec.zero,Rec.zero]) ([1,0,0])) 0 2)=mkR 1 7 from by have hz:=(zgz (zbg 1 7) (b:=0) (by decide)).2;rw [zfD (zbg 1 7) (show (mkR 1 7).st≠0 by decide)] at hz;exact hz]
 refine zd 3 [(108,(vI 0)),(107,(vA (zE (mkR 1 7)))),(103,(.tuple #[(vA (zE (mkR 1 7))),(vI 0)]))] (zb (zt (some 14) (Instr.alloc 33 true (.tuple #[])) (vP w30.heap.size 0) (zE Rec.zero) 33 ?_))
 intro w31 hBw31 hEw31
 have hzw31:=hEw31.size;have hlw31:=hBw31.lt
 refine zb (zz 33 w30.heap.size 0 33 (vA (zE (mkR 1 7))) (zE Rec.zero) (zE (mkR 1 7)) hBw31 (by rw [zY];kernel_rfl) (by first |(simp;done)|(simp;omega)) (zaU _) ?_)
 intro w32 hBw32 hCw32
 have hzw32:=hCw32.size
 rw [zm _ _ (by simp)] at hBw32
 refine zd 1 [(3,(vI 0))] (zg (zc (zf (ze ?_))))
 have hK41:=(((((hK34.ext hEw30)).ext hEw31)).chg hCw32 (fun hs=>by have h:_=_:=hs;omega))
 refine zb (zj (some 110) (Instr.loadAt 23 (vP w23.heap.size 0)) (vA (zw ((zan ([(mkR 1 7),Rec.zero,Rec.zero,Rec.zero,Rec.zero]) ([1,0,0]))))) (zD (vs:=zw ((zan ([(mkR 1 7),Rec.zero,Rec.zero,Rec.zero,Rec.zero]) ([1,0,0])))) (hK41.all) (by rw [zac];kernel_rfl)) ?_)
 have hK42:=(((((((((((hK31.ext hEw27)).ext hEw28)).ext hEw29)).ext hEw30)).ext hEw31)).chg hCw32 (fun hs=>by have h:_=_:=hs;omega))
 refine zb (zj (some 111) (Instr.loadAt 26 (vP w20.heap.size 0)) (vA [(vI 4),(.slice a4 1 1)]) (zD (vs:= [(vI 4),(.slice a4 1 1)]) (hK42.all)) ?_)
 have hK43:=(((((((((((((((((((((((hFz6_0.ext hEw21)).chg hCw22 (fun k h1 h2 hs=>by have h:k=_:=hs;omega))).ext hEw23)).ext hEw24)).chg hCw25 (fun k h1 h2 hs=>by have h:k=_:=hs;omega))).ext hEw26)).ext hEw27)).ext hEw28)).ext hEw29)).ext hEw30)).ext hEw31)).chg hCw32 (fun k h1 h2 hs=>by have h:k=_:=hs;omega))
 have hK44:=(((((hK37.ext hEw30)).ext hEw31)).chg hCw32 (fun hs=>by have h:_=_:=hs;omega))
 have hK45:=(((((hK38.ext hEw30)).ext hEw31)).chg hCw32 (fun hs=>by have h:_=_:=hs;omega))
 have hK46:=(((((hK39.ext hEw30)).ext hEw31)).chg hCw32 (fun hs=>by have h:_=_:=hs;omega))
 have hK47:=(((((hK40.ext hEw30)).ext hEw31)).chg hCw32 (fun hs=>by have h:_=_:=hs;omega))
 refine zb (zi (some 112) (zcN ((5:Nat):Int) ((zan ([(mkR 1 7),Rec.zero,Rec.zero,Rec.zero,Rec.zero]) ([1,0,0]))) ((4:Nat):Int) _ hK43 hK44 hK45 hK46 hK47) ?_)
 rintro _ w33 ⟨rfl,hEw33⟩
 have hzw33:=hEw33.size
 rw [show zbu ((5:Nat):Int) ((zan ([(mkR 1 7),Rec.zero,Rec.zero,Rec.zero,Rec.zero]) ([1,0,0]))) ((4:Nat):Int) (zaR 5 (zaa ([(mkR 1 7),Rec.zero,Rec.zero,Rec.zero,Rec.zero]) ([1,0,0])) 4 1)=0 from by have hz:=(zgz (zbg 1 7) (b:=4) (by decide)).1;rw [zfE (zbg 1 7)] at hz;exact hz]
 rw [show zbs ((5:Nat):Int) ((zan ([(mkR 1 7),Rec.zero,Rec.zero,Rec.zero,Rec.zero]) ([1,0,0]))) ((4:Nat):Int) (zaR 5 (zaa ([(mkR 1 7),Rec.zero,Rec.zero,Rec.zero,Rec.zero]) ([1,0,0])) 4 1)=Rec.zero from by have hz:=(zgz (zbg 1 7) (b:=4) (by decide)).2;rw [zfE (zbg 1 7)] at hz;exact hz]
 refine zd 3 [(114,(vI 0)),(113,(vA (zE (Rec.zero)))),(109,(.tuple #[(vA (zE (Rec.zero))),(vI 0)]))] (zb (zt (some 15) (Instr.alloc 33 true (.tuple #[])) (vP w33.heap.size 0) (zE Rec.zero) 33 ?_))
 intro w34 hBw34 hEw34
 have hzw34:=hEw34.size;have hlw34:=hBw34.lt
 refine zb (zz 33 w33.heap.size 0 33 (vA (zE (Rec.zero))) (zE Rec.zero) (zE (Rec.zero)) hBw34 (by rw [zY];kernel_rfl) (by first |(simp;done)|(simp;omega)) (zaU _) ?_)
 intro w35 hBw35 hCw35
 have hzw35:=hCw35.size
 rw [zm _ _ (by simp)] at hBw35
 refine zd 1 [(5,(vI 0))] (zg (zc (zf (ze (zb (zcU (some 116) 39 33 35 56 4 4 .i64 .i64 (vA (zE Rec.zero)) (by omega) (by omega) (by omega) ?_))))))
 rw [zeX (f:=zE) (x:=Rec.zero) rfl (zY _) (by decide)]
 intro w36 hBw36 hEw36
 have hzw36:=hEw36.size;have hlw36:=hBw36.lt
 have hmw36:Ms zE 35 w35.heap.size (w35.heap.size+1) w36 (pA w35.heap.size 0) 4 4 (List.replicate 4 Rec.zero):=Ms.of_pre (r:= []) (by rw [List.append_nil];exact hBw36) zY (by simp) (Nat.le_refl _) (by simp only [maxLen];omega) (Nat.le_refl _) (Nat.lt_succ_self _)
 refine zb (zt (some 117) (Instr.buildSlice 40 3 #[(0,(vI 0)),(1,(vI 0)),(2,(vI 0))]) (.slice (pA w36.heap.size 0) 3 3) [(vI 0),(vI 0),(vI 0)] 3 ?_)
 intro w37 hBw37 hEw37
 have hzw37:=hEw37.size;have hlw37:=hBw37.lt
 have hSw37:Es (nv .i64) w36.heap.size (w36.heap.size+1) w37 (pA w36.heap.size 0) 3 3 ([0,0,0]):=Es.of_blk hBw37 rfl rfl (Nat.le_refl _) (by decide) (Nat.le_refl _) (Nat.lt_succ_self _)
 refine zb (zi (some 118) (zmW 5 (pA w35.heap.size 0) 4 4 (pA w36.heap.size 0) 3 3 _ (by first | omega | decide) (by first | omega | decide) (by first | omega | decide)) ?_)
 rintro _ w38 ⟨rfl,hEw38⟩
 have hzw38:=hEw38.size
 refine zd 4 [(7,(vI 1)),(120,(vI 1)),(119,(vA [(vI 0),(.slice none 0 0)])),(115,(.tuple #[(vA [(vI 0),(.slice none 0 0)]),(vI 1)]))] (zg (zc (zf (ze ?_))))
 have hK48:=(((((((((((hK41.ext hEw33)).ext hEw34)).chg hCw35 (fun hs=>by have h:_=_:=hs;omega))).ext hEw36)).ext hEw37)).ext hEw38)
 refine zb (zj (some 122) (Instr.loadAt 23 (vP w23.heap.size 0)) (vA (zw ((zan ([(mkR 1 7),Rec.zero,Rec.zero,Rec.zero,Rec.zero]) ([1,0,0]))))) (zD (vs:=zw ((zan ([(mkR 1 7),Rec.zero,Rec.zero,Rec.zero,Rec.zero]) ([1,0,0])))) (hK48.all) (by rw [zac];kernel_rfl)) ?_)
 refine zd 1 [(123,(vA [(vI 0),(.slice none 0 0)]))] ?_
 have hK49:=(((((((((((hK44.ext hEw33)).ext hEw34)).chg hCw35 (fun hs=>by have h:_=_:=hs;omega))).ext hEw36)).ext hEw37)).ext hEw38)
 have hK50:=(((((((((((hK45.ext hEw33)).ext hEw34)).chg hCw35 (fun hs=>by have h:_=_:=hs;omega))).ext hEw36)).ext hEw37)).ext hEw38)
 have hK51:=(((((((((((hK46.ext hEw33)).ext hEw34)).chg hCw35 (fun hs=>by have h:_=_:=hs;omega))).ext hEw36)).ext hEw37)).ext hEw38)
 have hK52:=(((((((((((hK47.ext hEw33)).ext hEw34)).chg hCw35 (fun hs=>by have h:_=_:=hs;omega))).ext hEw36)).ext hEw37)).ext hEw38)
 refine zb (zi (some 124) (zcN ((5:Nat):Int) ((zan ([(mkR 1 7),Rec.zero,Rec.zero,Rec.zero,Rec.zero]) ([1,0,0]))) ((0:Nat):Int) _ (Ms.nil zK 0 0 _ (by simp)) hK49 hK50 hK51 hK52) ?_)
 rintro _ w39 ⟨rfl,hEw39⟩
 have hzw39:=hEw39.size
 rw [show zbu ((5:Nat):Int) ((zan ([(mkR 1 7),Rec.zero,Rec.zero,Rec.zero,Rec.zero]) ([1,0,0]))) ((0:Nat):Int) ([])=1 from zeF (fun h=>absurd h.2.2.2.2.1 (by decide))]
 refine zd 4 [(9,(vI 1)),(126,(vI 1)),(125,(vA (zE (zbs ((5:Nat):Int) ((zan ([(mkR 1 7),Rec.zero,Rec.zero,Rec.zero,Rec.zero]) ([1,0,0]))) ((0:Nat):Int) ([]))))),(121,(.tuple #[(vA (zE (zbs ((5:Nat):Int) ((zan ([(mkR 1 7),Rec.zero,Rec.zero,Rec.zero,Rec.zero]) ([1,0,0]))) ((0:Nat):Int) ([])))),(vI 1)]))] (zg (zc (zf (ze (zd 2 [(128,(vI 0)),(127,(vI 0))] (zb (zv (some 129) .i64 (IntKind.i64.wrap (((0:Nat):Int)+((0:Nat):Int))) 0 (zG (by omega) (by omega) (by omega)) ?_)))))))
 refine zd 2 [(131,vT),(130,vT)] ?_
 have hK53:=(((((((((((((hBw32.ext hEw33)).ext hEw34)).chg hCw35 (fun hs=>by have h:_=_:=hs;omega))).ext hEw36)).ext hEw37)).ext hEw38)).ext hEw39)
 refine zb (zj (some 132) (Instr.loadAt 33 (vP w30.heap.size 0)) (vA (zE (mkR 1 7))) (zD (vs:=zE (mkR 1 7)) (hK53.all) (by rw [zY];kernel_rfl)) ?_)
 have hK54:=(((((((((((((((((((((hK33.ext hEw29)).ext hEw30)).ext hEw31)).chg hCw32 (fun hs=>by have h:_=_:=hs;omega))).ext hEw33)).ext hEw34)).chg hCw35 (fun hs=>by have h:_=_:=hs;omega))).ext hEw36)).ext hEw37)).ext hEw38)).ext hEw39)
 refine zb (zj (some 133) (Instr.loadAt 33 (vP w1.heap.size 0)) (vA (zE (mkR 1 7))) (zD (vs:=zE (mkR 1 7)) (hK54.all) (by rw [zY];kernel_rfl)) ?_)
 refine zb (zj (some 134) (bo .eql 33 (.tmp 132) (.tmp 133) (vA (zE (mkR 1 7))) (vA (zE (mkR 1 7)))) vT (zhE (r:=true) (T:=33) ((zb8 (dd:=9997) (t:=33) (t8:=5) (tn:=31) (td:=23) (e:=5) (t32:=28) (t64:=29) (mkR 1 7) (mkR 1 7)).trans (congrArg (fun b=>Result.ok b _) (show ((mkR 1 7).eqb (mkR 1 7))=true from (Rec.eqb_iff _ _).2 rfl)))) ?_)
 refine zd 2 [(136,vT),(135,vT)] ?_
 have hK55:=(((((((hBw35.ext hEw36)).ext hEw37)).ext hEw38)).ext hEw39)
 refine zb (zj (some 137) (Instr.loadAt 33 (vP w33.heap.size 0)) (vA (zE (Rec.zero))) (zD (vs:=zE (Rec.zero)) (hK55.all) (by rw [zY];kernel_rfl)) ?_)
 refine zd 1 [(138,(vA (zE Rec.zero)))] (zb (zj (some 139) (bo .eql 33 (.tmp 137) (.tmp 138) (vA (zE (Rec.zero))) (vA (zE Rec.zero))) vT (zhE (r:=true) (T:=33) ((zb8 (dd:=9997) (t:=33) (t8:=5) (tn:=31) (td:=23) (e:=5) (t32:=28) (t64:=29) (Rec.zero) Rec.zero).trans (congrArg (fun b=>Result.ok b _) (show ((Rec.zero).eqb Rec.zero)=true from (Rec.eqb_iff _ _).2 rfl)))) ?_))
 refine zd 10 [(0,vT),(148,vT),(147,vT),(146,(vI 1)),(145,vT),(144,vT),(143,vT),(142,(vI 1)),(141,vT),(140,vT)] (zg (zc (zx (zB vT ?_))))
 have hX1:Ext w w39:=(((((Ext.own (((Ext.own (((((((Ext.own (((Ext.own (((Ext.own (((Ext.own (((((Ext.own (((Ext.own (((((Ext.own (hEw1.trans hEw2) hCw3 (by omega)).trans hEw4).trans hEw5).trans hEw6).trans hEw7) hCw8 (by omega)).trans hEw9).trans hEw10) hCw11 (by omega)).trans hEw12).trans hEw13).trans hEw14).trans hEw15) hCw16 (by omega)).trans hEw17).trans hEw18) hCw19 (by omega)).trans hEw20).trans hEw21) hCw22 (by omega)).trans hEw23).trans hEw24) hCw25 (by omega)).trans hEw26).trans hEw27).trans hEw28).trans hEw29).trans hEw30).trans hEw31) hCw32 (by omega)).trans hEw33).trans hEw34) hCw35 (by omega)).trans hEw36).trans hEw37).trans hEw38).trans hEw39)
 exact ⟨rfl,hX1⟩
end Go.Proofs.YtgdpdnokcnhgnaaGreatDoor
namespace Go.Proofs.YtgdpdnokcnhgnaaGreatDoor
open Go Go.RowKit Go.Cs
set_option maxRecDepth 100000
set_option maxHeartbeats 4000000 in
theorem zwa (n:Nat) {lo_l hi_l:Nat} {a_l:Option Addr} {n_l c_l:Nat} {l:List Rec} {lo_z hi_z:Nat} {a_z:Option Addr} {n_z c_z:Nat} {z:List Int} (w:World) (h_l:Ms zE 35 lo_l hi_l w a_l n_l c_l l) (h_z:Es (iv .i64) lo_z hi_z w a_z n_z c_z z) (hp0:n_l≤30) (hp1:n_z≤20) (hp2:n_l=n) (hp3:1≤n) (hp4:n≤4096) (hp5:n_z=tot n) (hp6:∀i,z.getD i 0=0∨z.getD i 0=1) (hp7:∀i,i<l.length→zaB (l.getD i Rec.zero)=0) (hg0:Gl 0 [vI 45,vI 33] w) (hg1:Gl 2 (w8C za2) w) (hg2:Gl 3 (zR kA) w) (hg3:Gl 1 [.iface 199 (.agg #[.pointer (some ⟨4,99,none⟩)])] w):
  Calls Tryz.prog 4 #[(vI n),(.slice a_l n_l c_l),(.slice a_z n_z c_z)] w (Ret fun r w'=>r=vT∧Ext w w'):=by
 refine zL (n:=107) (σ:= [(0,(vI n)),(1,(.slice a_l n_l c_l)),(2,(.slice a_z n_z c_z))]) Tryz.func4 rfl ?_
 replace h_l:=h_l.now;have hle_l:=h_l.le
 replace h_z:=h_z.now;have hle_z:=h_z.le
 have hgl0:=hg0.lt
 have hgl1:=hg1.lt
 have hgl2:=hg2.lt
 have hgl3:=hg3.lt
 have hlen:=h_l.len_eq;have hle:=h_l.le;have hlz:=h_z.len_eq;have hlez:=h_z.le
 have hrc:=fun i (hi:i<n_l)=>hp7 i (by omega)
 have h5:=zaz n
 have hts:=zbN hp4
 refine zf (ze (zd 1 [(6,vF)] (zg (zc (zf (zf (ze (zd 2 [(13,(vI n_l)),(12,(.slice a_l n_l c_l))] (zb (zat (some 14) (decide (((n_l:Nat):Int)>((30:Nat):Int))) false (zce (by omega)) ?_))))))))))
 refine zd 3 [(17,(vI n_z)),(16,(.slice a_z n_z c_z)),(15,vF)] (zb (zat (some 18) (decide (((n_z:Nat):Int)>((20:Nat):Int))) false (zce (by omega)) ?_))
 refine zd 1 [(19,vF)] (zg (zc (zr (zy (zc (zf (ze (zd 1 [(7,(vI 0))] (zg ?_)))))))))
 refine zc (zf (zf (ze (zd 2 [(22,(vI n_l)),(21,(.slice a_l n_l c_l))] (zb (zet (some 23) .i64 (IntKind.i64.wrap (((n_l:Nat):Int)-((1:Nat):Int))) ((n_l:Int)-1-((0:Nat):Int)) (zG (by omega) (by omega) (by omega)) ?_))))))
 refine zd 1 [(8,(.int .i64 ((n_l:Int)-1-((0:Nat):Int))))] (zg (zc (zI (zah (X:=Nat) (fun k=> [(7,(vI 0)),(8,(.int .i64 ((n_l:Int)-1-(k:Int))))]) [24,25,26,27,28,29,30,31,32,33,34,35] (fun k w1=>k≤n_l∧Ext w w1) (fun k=>n_l-k) 0 (by kernel_rfl) ⟨Nat.zero_le _,Ext.refl _⟩ ?_))))
 rintro k dw1 w1 ⟨hk,hE1⟩
 have hz1:=hE1.size
 refine zf (zf (ze (zd 1 [(24,(.int .i64 ((n_l:Int)-1-(k:Int))))] (zb (zO (some 25) (decide (((n_l:Int)-1-(k:Int))≥((0:Nat):Int))) (fun hc25=> ?_) (fun hc25=> ?_))))))
 ·replace hc25:((n_l:Int)-1-(k:Int))≥((0:Nat):Int):=by have:=zak hc25;omega
  have hcl:=zdf (l.getD (n_l-1-k) Rec.zero)
  rw [show (n_l:Int)-1-(k:Int)=((n_l-1-k:Nat):Int) from by omega]
  refine zg (zc (zF (zy (zc (zf (zI (zf (ze (zd 2 [(29,(vI (n_l-1-k))),(28,(.slice a_l n_l c_l))] ?_)))))))))
  obtain ⟨b1,o1,rfl⟩:=h_l.addr (by omega) (by decide)
  refine zb (zj (some 30) (Instr.indexAt 39 (.slice (pA b1 o1) n_l c_l) (vI (n_l-1-k))) (vP b1 (o1+(n_l-1-k)*35)) (zap (E:=33) (sz:=35) (by omega)) ?_)
  refine zb (zj (some 31) (Instr.loadAt 33 (vP b1 (o1+(n_l-1-k)*35))) (vA (zE (l.getD (n_l-1-k) Rec.zero))) (zD (vs:=zE (l.getD (n_l-1-k) Rec.zero)) ((h_l.ext hE1).at Rec.zero (by omega)) (by rw [zY];kernel_rfl)) ?_)
  refine zb (zj (some 32) (Instr.build 42 #[(0,(vA (zE (l.getD (n_l-1-k) Rec.zero))))]) (vA (r4C (R4.zero.set 0 (l.getD (n_l-1-k) Rec.zero)))) (zjo (E:=33) (l.getD (n_l-1-k) Rec.zero)) ?_)
  refine zb (zj (some 33) (Instr.build 47 #[(2,(vA (r4C (R4.zero.set 0 (l.getD (n_l-1-k) Rec.zero)))))]) (vA (zK (⟨0,0,(R4.zero.set 0 (l.getD (n_l-1-k) Rec.zero)),E4.zero,by decide,by decide⟩))) (zhR (R4.zero.set 0 (l.getD (n_l-1-k) Rec.zero))) ?_)
  refine zb (zi (some 34) (zvF (⟨0,0,(R4.zero.set 0 (l.getD (n_l-1-k) Rec.zero)),E4.zero,by decide,by decide⟩) _) ?_)
  rintro _ w2 ⟨rfl,hEw2⟩
  have hzw2:=hEw2.size
  rw [show zar (⟨0,0,(R4.zero.set 0 (l.getD (n_l-1-k) Rec.zero)),E4.zero,by decide,by decide⟩)=zaB (l.getD (n_l-1-k) Rec.zero) from zs6 _]
  rw [show zaB (l.getD (n_l-1-k) Rec.zero)=0 from hrc _ (by omega)]
  refine zb (zat (some 35) (((0:Nat):Int) !=((0:Nat):Int)) false (zaL (by omega)) ?_)
  refine zg (zc (zr (zy (zp (zc (ze (zd 1 [(26,(vI (n_l-1-k)))] (zb (zet (some 27) .i64 (IntKind.i64.wrap (((n_l-1-k:Nat):Int)-((1:Nat):Int))) ((n_l:Int)-1-((k+1:Nat):Int)) (zG (by omega) (by omega) (by omega)) ?_)))))))))
  refine zd 1 [(8,(.int .i64 ((n_l:Int)-1-((k+1:Nat):Int))))] (zg (zC (zS (k+1) ?_ ?_)))
  ·exact ⟨by omega,(hE1.trans hEw2)⟩
  ·first | omega |(dsimp only;omega)
 ·replace hc25:¬(((n_l:Int)-1-(k:Int))≥((0:Nat):Int)):=by have:=zal hc25;omega
  obtain rfl:n_l=k:=by omega
  refine zg (zc (zr (zaf (zH (zH (zT (zc (zf (zf ?_)))))))))
  refine ze (zd 1 [(36,(vI n))] (zb (zat (some 37) (decide (((n:Nat):Int)<((1:Nat):Int))) false (zce (by omega)) ?_)))
  refine zd 2 [(39,(vI n)),(38,vF)] (zb (zat (some 40) (decide (((n:Nat):Int)>((4096:Nat):Int))) false (zce (by omega)) ?_))
  refine zd 5 [(45,(vI n)),(44,(vI n_l)),(43,(.slice a_l n_l c_l)),(42,vF),(41,vF)] (zb (zat (some 46) (((n_l:Nat):Int) !=((n:Nat):Int)) false (zaL (by omega)) ?_))
  refine zd 5 [(51,(vI n)),(50,(vI n_z)),(49,(.slice a_z n_z c_z)),(48,vF),(47,vF)] (zb (zi (some 52) (zoc n _ (by omega) (by omega)) ?_))
  rintro _ _ ⟨rfl,rfl⟩
  refine zb (zat (some 53) (((n_z:Nat):Int) !=((tot n:Nat):Int)) false (zaL (by omega)) ?_)
  refine zd 1 [(54,vF)] (zg (zc (zr (zy (zc (zf (zf (ze (zd 1 [(9,(vI 0))] ?_)))))))))
  refine zg (zc (zI (zah (X:=Nat) (fun k=> [(7,(vI 0)),(9,(vI k))]) [55,56,57,58,59,60,61,62,63,64,65,66,67,68,69,70,71,72] (fun k w3=>k≤n_z∧Ext w1 w3) (fun k=>n_z-k) 0 (by kernel_rfl) ⟨Nat.zero_le _,Ext.refl _⟩ ?_)))
  rintro k dw3 w3 ⟨hk2,hE2⟩
  have hz2:=hE2.size
  refine zf (zf (ze (zd 3 [(57,(vI n_z)),(56,(.slice a_z n_z c_z)),(55,(vI k))] (zb (zO (some 58) (decide (((k:Nat):Int)<((n_z:Nat):Int))) (fun hc58=> ?_) (fun hc58=> ?_))))))
  ·replace hc58:k<n_z:=by have:=zak hc58;omega
   refine zg (zc (zF (zy (zc (zf (zI (zf (ze (zd 2 [(62,(vI k)),(61,(.slice a_z n_z c_z))] ?_)))))))))
   obtain ⟨b2,o2,rfl⟩:=h_z.addr (by omega)
   refine zb (zj (some 63) (Instr.indexAt 40 (.slice (pA b2 o2) n_z c_z) (vI k)) (vP b2 (o2+k*1)) (zap (E:=3) (sz:=1) (by omega)) ?_)
   refine zb (zj (some 64) (Instr.loadAt 3 (vP b2 (o2+k*1))) (.int .i64 (gz z k)) (zo ((((h_z.ext hE1)).ext hE2).celli (by omega))) ?_)
   refine zb (zO (some 65) ((gz z k !=((0:Nat):Int))) (fun hc65=> ?_) (fun hc65=> ?_))
   ·replace hc65:¬(gz z k=((0:Nat):Int)):=by have:=zbY hc65;omega
    refine zd 3 [(68,(vI k)),(67,(.slice (pA b2 o2) n_z c_z)),(66,vT)] (zb (zj (some 69) (Instr.indexAt 40 (.slice (pA b2 o2) n_z c_z) (vI k)) (vP b2 (o2+k*1)) (zap (E:=3) (sz:=1) (by omega)) ?_))
    refine zb (zj (some 70) (Instr.loadAt 3 (vP b2 (o2+k*1))) (.int .i64 (gz z k)) (zo ((((h_z.ext hE1)).ext hE2).celli (by omega))) ?_)
    have h6k:gz z k=0∨gz z k=1:=hp6 k
    refine zb (zat (some 71) (gz z k !=((1:Nat):Int)) false (zaL (by omega)) ?_)
    refine zd 1 [(72,vF)] (zg (zc (zr (zy (zp (zc (ze (zd 1 [(59,(vI k))] (zb (zv (some 60) .i64 (IntKind.i64.wrap (((k:Nat):Int)+((1:Nat):Int))) (k+1) (zG (by omega) (by omega) (by omega)) ?_))))))))))
    refine zd 1 [(9,(vI (k+1)))] (zg (zC (zS (k+1) ?_ ?_)))
    ·exact ⟨by omega,hE2⟩
    ·first | omega |(dsimp only;omega)
   ·replace hc65:gz z k=((0:Nat):Int):=by have:=zbX hc65;omega
    refine zd 7 [(72,vF),(71,undef),(70,undef),(69,undef),(68,undef),(67,undef),(66,vF)] (zg (zc (zr (zy (zp (zc (ze (zd 1 [(59,(vI k))] (zb (zv (some 60) .i64 (IntKind.i64.wrap (((k:Nat):Int)+((1:Nat):Int))) (k+1) (zG (by omega) (by omega) (by omega)) ?_))))))))))
    refine zd 1 [(9,(vI (k+1)))] (zg (zC (zS (k+1) ?_ ?_)))
    ·exact ⟨by omega,hE2⟩
    ·first | omega |(dsimp only;omega)
  ·replace hc58:¬(k<n_z):=by have:=zal hc58;omega
   obtain rfl:n_z=k:=by omega
   refine zg (zc (zr (zaf (zH (zH (zT (zc (zf (ze ?_)))))))))
   refine zd 3 [(76,(.slice a_z n_z c_z)),(75,(.slice a_l n_l c_l)),(74,(vI n))] ?_
   have hNs:=((((h_z.ext hE1)).ext hE2)).nats (zrx hp6)
   refine zb (zi (some 77) (zh6 n _ (((h_l.ext hE1)).ext hE2) hNs (ztV (by omega) hp3 hp4 (by omega) hp6 hp7) (by omega) (((hg0.ext hE1)).ext hE2) (((hg1.ext hE1)).ext hE2) (((hg2.ext hE1)).ext hE2)) ?_)
   rintro _ w4 ⟨a1,rfl,hFz3_0,hEw4⟩
   have hzw4:=hEw4.size
   have hma1:=hFz3_0.ms;have hlea1:=hma1.le
   refine zd 3 [(79,(vI 0)),(78,(vA [(vI n),(.slice a1 (tot n) (tot n))])),(73,(.tuple #[(vA [(vI n),(.slice a1 (tot n) (tot n))]),(vI 0)]))] (zb (zt (some 10) (Instr.alloc 50 true (.tuple #[])) (vP w4.heap.size 0) ([(vI 0),(.slice none 0 0)]) 50 ?_))
   intro w5 hBw5 hEw5
   have hzw5:=hEw5.size;have hlw5:=hBw5.lt
   refine zb (zz 50 w4.heap.size 0 50 (vA [(vI n),(.slice a1 (tot n) (tot n))]) ([(vI 0),(.slice none 0 0)]) ([(vI n),(.slice a1 (tot n) (tot n))]) hBw5 (by kernel_rfl) (by first | decide |(simp;done)|(simp;omega)) (by simp [Value.oneCell']) ?_)
   intro w6 hBw6 hCw6
   have hzw6:=hCw6.size
   rw [zm _ _ (by kernel_rfl)] at hBw6
   refine zd 1 [(11,(vI 0))] (zg (zc (zf (zf (ze (zd 2 [(81,(vI 0)),(80,(vI 0))] (zb (zat (some 82) (((0:Nat):Int) !=((0:Nat):Int)) false (zaL (by omega)) ?_))))))))
   refine zg (zc (zr (zy (zc (zf (zf (ze (zd 1 [(83,(vI 0))] (zb (zat (some 84) (((0:Nat):Int) !=((0:Nat):Int)) false (zaL (by omega)) ?_))))))))))
   refine zg (zc (zr (zy (zc (zf (zag (Ext w6.drew) 11 [(98,1024,0),(99,158456325028528675187087900672,1),(100,2,0),(101,4,0),(102,1901475900342344102245054808064,12),(103,2852213850513516153367582212096,18),(104,5070602400912917605986812821504,32),(105,10141204801825835211973625643008,96),(106,20282409603651670423947251286016,128),(107,60847228810955011271841753858048,384),(7,81129638414606681695789005144064,1023)] (fun hT241=> ?_)))))))
   have hEw7:Ext w6 w6.drew:=Ext.drew w6
   generalize w6.drew=w7 at hEw7⊢
   have hzw7:=hEw7.size
   refine zk hT241 [(0,97,(vP w4.heap.size 1))] 1 1 (zh hT241 1 3 (some 98) (.slice a1 (tot n) (tot n)) (zl (Instr.loadAt 24 (vP w4.heap.size 1)) (fun w' hC=>zo (((hBw6.ext hEw7).ext hC).cell rfl))) (zk hT241 [(2,99,(.slice a_l n_l c_l)),(3,100,(.slice a_z n_z c_z))] 2 15 ?_))
   have hK1:=(((((((((((h_l.ext hE1)).ext hE2)).ext hEw4)).ext hEw5)).chg hCw6 (fun k h1 h2 hs=>by have h:k=_:=hs;omega))).ext hEw7)
   have hK2:=(((((((hNs.ext hEw4)).ext hEw5)).chg hCw6 (fun k h1 h2 hs=>by have h:k=_:=hs;omega))).ext hEw7)
   refine zn 4 31 (zi (some 101) (zvZ _ hK1 hK2 (by first | omega | decide) (by first | omega | decide) (by rw [hp2];exact hp5) (fun i=>by rw [zlj];have:=hp6 i;omega)) ?_)
   rintro _ w8 ⟨a2,ca2,rfl,hFz4_0,hEw8⟩
   have hzw8:=hEw8.size
   have hma2:=hFz4_0.ms;have hlea2:=hma2.le
   refine ⟨.inr hEw8, ?_⟩
   have hK3:=(((((((hma1.ext hEw5)).chg hCw6 (fun k h1 h2 hs=>by have h:k=_:=hs;omega))).ext hEw7)).ext hEw8)
   refine zn 5 63 (zi (some 102) (zv0 _ hK3 hma2 (by first | omega | decide) (rfl)) ?_)
   rintro _ w9 ⟨rfl,hEw9⟩
   have hzw9:=hEw9.size
   have hX1:Ext w7 w9:=(hEw8.trans hEw9)
   refine ⟨.inr hX1, ?_⟩
   refine zk (hw:=hX1) hT241 [(6,103,vT),(7,104,vT)] 2 255 ?_
   have hK4:=(((((((((((((((hg0.ext hE1)).ext hE2)).ext hEw4)).ext hEw5)).chg hCw6 (fun hs=>by have h:_=_:=hs;omega))).ext hEw7)).ext hEw8)).ext hEw9)
   have hK5:=(((((((((((((((hg1.ext hE1)).ext hE2)).ext hEw4)).ext hEw5)).chg hCw6 (fun hs=>by have h:_=_:=hs;omega))).ext hEw7)).ext hEw8)).ext hEw9)
   have hK6:=(((((((((((((((hg2.ext hE1)).ext hE2)).ext hEw4)).ext hEw5)).chg hCw6 (fun hs=>by have h:_=_:=hs;omega))).ext hEw7)).ext hEw8)).ext hEw9)
   have hK7:=(((((((((((((((hg3.ext hE1)).ext hE2)).ext hEw4)).ext hEw5)).chg hCw6 (fun hs=>by have h:_=_:=hs;omega))).ext hEw7)).ext hEw8)).ext hEw9)
   refine zn 8 511 (zi (some 105) (zmt _ hK4 hK5 hK6 hK7) ?_)
   rintro _ w10 ⟨rfl,hEw10⟩
   have hzw10:=hEw10.size
   have hX2:Ext w7 w10:=((hEw8.trans hEw9).trans hEw10)
   refine ⟨.inr hX2, ?_⟩
   refine zk (hw:=hX2) hT241 [(9,106,vT),(10,6,vT)] 2 2047 (zJ (zc (zx (zB vT ?_))))
   have hX3:Ext w w10:=(((((Ext.own (((hE1.trans hE2).trans hEw4).trans hEw5) hCw6 (by omega)).trans hEw7).trans hEw8).trans hEw9).trans hEw10)
   exact ⟨rfl,hX3⟩
set_option maxHeartbeats 4000000 in
theorem zv7 (n:Nat) {lo_l hi_l:Nat} {a_l:Option Addr} {n_l c_l:Nat} {l:List Rec} {lo_z hi_z:Nat} {a_z:Option Addr} {n_z c_z:Nat} {z:List Int} (w:World) (h_l:Ms zE 35 lo_l hi_l w a_l n_l c_l l) (h_z:Es (iv .i64) lo_z hi_z w a_z n_z c_z z) (hp0:n_l≤30) (hp1:n_z≤20) (hp2:n_l=n) (hp3:1≤n) (hp4:n≤4096) (hp5:n_z=tot n) (hp6:¬((∀i,z.getD i 0=0∨z.getD i 0=1)∧∀i,i<l.length→zaB (l.getD i Rec.zero)=0)) (hg0:Gl 0 [vI 45,vI 33] w) (hg1:Gl 2 (w8C za2) w) (hg2:Gl 3 (zR kA) w) (hg3:Gl 1 [.iface 199 (.agg #[.pointer (some ⟨4,99,none⟩)])] w):
  Calls Tryz.prog 4 #[(vI n),(.slice a_l n_l c_l),(.slice a_z n_z c_z)] w (Ret fun r w'=>r=vT∧Ext w w'):=by
 refine zL (n:=107) (σ:= [(0,(vI n)),(1,(.slice a_l n_l c_l)),(2,(.slice a_z n_z c_z))]) Tryz.func4 rfl ?_
 replace h_l:=h_l.now;have hle_l:=h_l.le
 replace h_z:=h_z.now;have hle_z:=h_z.le
 have hgl0:=hg0.lt
 have hgl1:=hg1.lt
 have hgl2:=hg2.lt
 have hgl3:=hg3.lt
 have hlen:=h_l.len_eq;have hle:=h_l.le;have hlz:=h_z.len_eq;have hlez:=h_z.le
 have h5:=zaz n
 have hts:=zbN hp4
 refine zf (ze (zd 1 [(6,vF)] (zg (zc (zf (zf (ze (zd 2 [(13,(vI n_l)),(12,(.slice a_l n_l c_l))] (zb (zat (some 14) (decide (((n_l:Nat):Int)>((30:Nat):Int))) false (zce (by omega)) ?_))))))))))
 refine zd 3 [(17,(vI n_z)),(16,(.slice a_z n_z c_z)),(15,vF)] (zb (zat (some 18) (decide (((n_z:Nat):Int)>((20:Nat):Int))) false (zce (by omega)) ?_))
 refine zd 1 [(19,vF)] (zg (zc (zr (zy (zc (zf (ze (zd 1 [(7,(vI 0))] (zg ?_)))))))))
 refine zc (zf (zf (ze (zd 2 [(22,(vI n_l)),(21,(.slice a_l n_l c_l))] (zb (zet (some 23) .i64 (IntKind.i64.wrap (((n_l:Nat):Int)-((1:Nat):Int))) ((n_l:Int)-1-((0:Nat):Int)) (zG (by omega) (by omega) (by omega)) ?_))))))
 refine zd 1 [(8,(.int .i64 ((n_l:Int)-1-((0:Nat):Int))))] (zg (zc (zI (zah (X:=Nat×Nat) (fun ⟨k,m⟩=> [(7,(vI m)),(8,(.int .i64 ((n_l:Int)-1-(k:Int))))]) [24,25,26,27,28,29,30,31,32,33,34,35] (fun ⟨k,m⟩ w1=>k≤n_l∧m=wL (fun i=>zaB (l.getD i Rec.zero)) n_l k∧Ext w w1) (fun ⟨k,m⟩=>n_l-k) (0,0) (by kernel_rfl) ⟨Nat.zero_le _,rfl,Ext.refl _⟩ ?_))))
 rintro ⟨k,m⟩ dw1 w1 ⟨hk,hm,hE1⟩
 have hz1:=hE1.size
 refine zf (zf (ze (zd 1 [(24,(.int .i64 ((n_l:Int)-1-(k:Int))))] (zb (zO (some 25) (decide (((n_l:Int)-1-(k:Int))≥((0:Nat):Int))) (fun hc25=> ?_) (fun hc25=> ?_))))))
 ·replace hc25:((n_l:Int)-1-(k:Int))≥((0:Nat):Int):=by have:=zak hc25;omega
  have hcl:=zdf (l.getD (n_l-1-k) Rec.zero)
  dsimp only
  rw [show (n_l:Int)-1-(k:Int)=((n_l-1-k:Nat):Int) from by omega]
  refine zg (zc (zF (zy (zc (zf (zI (zf (ze (zd 2 [(29,(vI (n_l-1-k))),(28,(.slice a_l n_l c_l))] ?_)))))))))
  obtain ⟨b1,o1,rfl⟩:=h_l.addr (by omega) (by decide)
  refine zb (zj (some 30) (Instr.indexAt 39 (.slice (pA b1 o1) n_l c_l) (vI (n_l-1-k))) (vP b1 (o1+(n_l-1-k)*35)) (zap (E:=33) (sz:=35) (by omega)) ?_)
  refine zb (zj (some 31) (Instr.loadAt 33 (vP b1 (o1+(n_l-1-k)*35))) (vA (zE (l.getD (n_l-1-k) Rec.zero))) (zD (vs:=zE (l.getD (n_l-1-k) Rec.zero)) ((h_l.ext hE1).at Rec.zero (by omega)) (by rw [zY];kernel_rfl)) ?_)
  refine zb (zj (some 32) (Instr.build 42 #[(0,(vA (zE (l.getD (n_l-1-k) Rec.zero))))]) (vA (r4C (R4.zero.set 0 (l.getD (n_l-1-k) Rec.zero)))) (zjo (E:=33) (l.getD (n_l-1-k) Rec.zero)) ?_)
  refine zb (zj (some 33) (Instr.build 47 #[(2,(vA (r4C (R4.zero.set 0 (l.getD (n_l-1-k) Rec.zero)))))]) (vA (zK (⟨0,0,(R4.zero.set 0 (l.getD (n_l-1-k) Rec.zero)),E4.zero,by decide,by decide⟩))) (zhR (R4.zero.set 0 (l.getD (n_l-1-k) Rec.zero))) ?_)
  refine zb (zi (some 34) (zvF (⟨0,0,(R4.zero.set 0 (l.getD (n_l-1-k) Rec.zero)),E4.zero,by decide,by decide⟩) _) ?_)
  rintro _ w2 ⟨rfl,hEw2⟩
  have hzw2:=hEw2.size
  rw [show zar (⟨0,0,(R4.zero.set 0 (l.getD (n_l-1-k) Rec.zero)),E4.zero,by decide,by decide⟩)=zaB (l.getD (n_l-1-k) Rec.zero) from zs6 _]
  refine zb (zO (some 35) ((((zaB (l.getD (n_l-1-k) Rec.zero):Nat):Int) !=((0:Nat):Int))) (fun hc35=> ?_) (fun hc35=> ?_))
  ·replace hc35:¬(zaB (l.getD (n_l-1-k) Rec.zero)=0):=by have:=zbY hc35;omega
   refine zg (zc (zF (ze (zd 1 [(7,(vI 1))] (zg (zp (zc (ze (zd 1 [(26,(vI (n_l-1-k)))] ?_)))))))))
   refine zb (zet (some 27) .i64 (IntKind.i64.wrap (((n_l-1-k:Nat):Int)-((1:Nat):Int))) ((n_l:Int)-1-((k+1:Nat):Int)) (zG (by omega) (by omega) (by omega)) ?_)
   refine zd 1 [(8,(.int .i64 ((n_l:Int)-1-((k+1:Nat):Int))))] (zg (zC (zS (k+1,1) ?_ ?_)))
   ·exact ⟨by omega,by rw [wL,if_neg hc35],(hE1.trans hEw2)⟩
   ·first | omega |(dsimp only;omega)
  ·replace hc35:zaB (l.getD (n_l-1-k) Rec.zero)=0:=by have:=zbX hc35;omega
   refine zg (zc (zr (zy (zp (zc (ze (zd 1 [(26,(vI (n_l-1-k)))] (zb (zet (some 27) .i64 (IntKind.i64.wrap (((n_l-1-k:Nat):Int)-((1:Nat):Int))) ((n_l:Int)-1-((k+1:Nat):Int)) (zG (by omega) (by omega) (by omega)) ?_)))))))))
   refine zd 1 [(8,(.int .i64 ((n_l:Int)-1-((k+1:Nat):Int))))] (zg (zC (zS (k+1,m) ?_ ?_)))
   ·exact ⟨by omega,by rw [wL,if_pos hc35];exact hm,(hE1.trans hEw2)⟩
   ·first | omega |(dsimp only;omega)
 ·replace hc25:¬(((n_l:Int)-1-(k:Int))≥((0:Nat):Int)):=by have:=zal hc25;omega
  obtain rfl:n_l=k:=by omega
  refine zg (zc (zr (zaf (zH (zH (zT (zc (zf (zf ?_)))))))))
  refine ze (zd 1 [(36,(vI n))] (zb (zat (some 37) (decide (((n:Nat):Int)<((1:Nat):Int))) false (zce (by omega)) ?_)))
  refine zd 2 [(39,(vI n)),(38,vF)] (zb (zat (some 40) (decide (((n:Nat):Int)>((4096:Nat):Int))) false (zce (by omega)) ?_))
  refine zd 5 [(45,(vI n)),(44,(vI n_l)),(43,(.slice a_l n_l c_l)),(42,vF),(41,vF)] (zb (zat (some 46) (((n_l:Nat):Int) !=((n:Nat):Int)) false (zaL (by omega)) ?_))
  refine zd 5 [(51,(vI n)),(50,(vI n_z)),(49,(.slice a_z n_z c_z)),(48,vF),(47,vF)] (zb (zi (some 52) (zoc n _ (by omega) (by omega)) ?_))
  rintro _ _ ⟨rfl,rfl⟩
  refine zb (zat (some 53) (((n_z:Nat):Int) !=((tot n:Nat):Int)) false (zaL (by omega)) ?_)
  refine zd 1 [(54,vF)] (zg (zc (zr (zy (zc (zf (zf (ze (zd 1 [(9,(vI 0))] ?_)))))))))
  refine zg (zc (zI (zah (X:=Nat×Nat) (fun ⟨k,m2⟩=> [(7,(vI m2)),(9,(vI k))]) [55,56,57,58,59,60,61,62,63,64,65,66,67,68,69,70,71,72] (fun ⟨k,m2⟩ w3=>k≤n_z∧m2=wU (fun i=>znE (z.getD i 0)) m k∧Ext w1 w3) (fun ⟨k,m2⟩=>n_z-k) (0,m) (by kernel_rfl) ⟨Nat.zero_le _,rfl,Ext.refl _⟩ ?_)))
  rintro ⟨k,m2⟩ dw3 w3 ⟨hk2,hm2,hE2⟩
  have hz2:=hE2.size
  refine zf (zf (ze (zd 3 [(57,(vI n_z)),(56,(.slice a_z n_z c_z)),(55,(vI k))] (zb (zO (some 58) (decide (((k:Nat):Int)<((n_z:Nat):Int))) (fun hc58=> ?_) (fun hc58=> ?_))))))
  ·replace hc58:k<n_z:=by have:=zak hc58;omega
   refine zg (zc (zF (zy (zc (zf (zI (zf (ze (zd 2 [(62,(vI k)),(61,(.slice a_z n_z c_z))] ?_)))))))))
   obtain ⟨b2,o2,rfl⟩:=h_z.addr (by omega)
   refine zb (zj (some 63) (Instr.indexAt 40 (.slice (pA b2 o2) n_z c_z) (vI k)) (vP b2 (o2+k*1)) (zap (E:=3) (sz:=1) (by omega)) ?_)
   refine zb (zj (some 64) (Instr.loadAt 3 (vP b2 (o2+k*1))) (.int .i64 (gz z k)) (zo ((((h_z.ext hE1)).ext hE2).celli (by omega))) ?_)
   refine zb (zO (some 65) ((gz z k !=((0:Nat):Int))) (fun hc65=> ?_) (fun hc65=> ?_))
   ·replace hc65:¬(gz z k=((0:Nat):Int)):=by have:=zbY hc65;omega
    refine zd 3 [(68,(vI k)),(67,(.slice (pA b2 o2) n_z c_z)),(66,vT)] (zb (zj (some 69) (Instr.indexAt 40 (.slice (pA b2 o2) n_z c_z) (vI k)) (vP b2 (o2+k*1)) (zap (E:=3) (sz:=1) (by omega)) ?_))
    refine zb (zj (some 70) (Instr.loadAt 3 (vP b2 (o2+k*1))) (.int .i64 (gz z k)) (zo ((((h_z.ext hE1)).ext hE2).celli (by omega))) ?_)
    refine zb (zO (some 71) ((gz z k !=((1:Nat):Int))) (fun hc71=> ?_) (fun hc71=> ?_))
    ·replace hc71:¬(gz z k=((1:Nat):Int)):=by have:=zbY hc71;omega
     refine zd 1 [(72,vT)] (zg (zc (zF (ze (zd 1 [(7,(vI 1))] (zg (zp (zc (ze ?_)))))))))
     refine zd 1 [(59,(vI k))] (zb (zv (some 60) .i64 (IntKind.i64.wrap (((k:Nat):Int)+((1:Nat):Int))) (k+1) (zG (by omega) (by omega) (by omega)) ?_))
     refine zd 1 [(9,(vI (k+1)))] (zg (zC (zS (k+1,1) ?_ ?_)))
     ·exact ⟨by omega,by rw [wU,if_neg (fun hh=>by have h7:gz z k=0∨gz z k=1:=zmH.1 hh;omega)],hE2⟩
     ·first | omega |(dsimp only;omega)
    ·replace hc71:gz z k=((1:Nat):Int):=by have:=zbX hc71;omega
     refine zd 1 [(72,vF)] (zg (zc (zr (zy (zp (zc (ze (zd 1 [(59,(vI k))] (zb (zv (some 60) .i64 (IntKind.i64.wrap (((k:Nat):Int)+((1:Nat):Int))) (k+1) (zG (by omega) (by omega) (by omega)) ?_))))))))))
     refine zd 1 [(9,(vI (k+1)))] (zg (zC (zS (k+1,m2) ?_ ?_)))
     ·exact ⟨by omega,by rw [wU,if_pos (show znE (z.getD k 0)=0 from zmH.2 (show gz z k=0∨gz z k=1 by omega))];exact hm2,hE2⟩
     ·first | omega |(dsimp only;omega)
   ·replace hc65:gz z k=((0:Nat):Int):=by have:=zbX hc65;omega
    refine zd 7 [(72,vF),(71,undef),(70,undef),(69,undef),(68,undef),(67,undef),(66,vF)] (zg (zc (zr (zy (zp (zc (ze (zd 1 [(59,(vI k))] (zb (zv (some 60) .i64 (IntKind.i64.wrap (((k:Nat):Int)+((1:Nat):Int))) (k+1) (zG (by omega) (by omega) (by omega)) ?_))))))))))
    refine zd 1 [(9,(vI (k+1)))] (zg (zC (zS (k+1,m2) ?_ ?_)))
    ·exact ⟨by omega,by rw [wU,if_pos (show znE (z.getD k 0)=0 from zmH.2 (show gz z k=0∨gz z k=1 by omega))];exact hm2,hE2⟩
    ·first | omega |(dsimp only;omega)
  ·replace hc58:¬(k<n_z):=by have:=zal hc58;omega
   obtain rfl:n_z=k:=by omega
   have hw1:=zsZ hlen hlz hm hm2 hp6
   refine zg (zc (zr (zaf (zH (zH (zT (zc (zf (ze ?_)))))))))
   refine zd 3 [(76,(.slice a_z n_z c_z)),(75,(.slice a_l n_l c_l)),(74,(vI n))] (zb (zi (some 77) (zvG ((n:Nat):Int) _ (((h_l.ext hE1)).ext hE2) (((h_z.ext hE1)).ext hE2) (fun hh=>hp6 ⟨hh.2.2.2.2.1,hh.2.2.2.2.2⟩)) ?_))
   rintro _ w4 ⟨rfl,hEw4⟩
   have hzw4:=hEw4.size
   refine zd 3 [(79,(vI 1)),(78,(vA [(vI 0),(.slice none 0 0)])),(73,(.tuple #[(vA [(vI 0),(.slice none 0 0)]),(vI 1)]))] (zb (zt (some 10) (Instr.alloc 50 true (.tuple #[])) (vP w4.heap.size 0) ([(vI 0),(.slice none 0 0)]) 50 ?_))
   intro w5 hBw5 hEw5
   have hzw5:=hEw5.size;have hlw5:=hBw5.lt
   refine zb (zz 50 w4.heap.size 0 50 (vA [(vI 0),(.slice none 0 0)]) ([(vI 0),(.slice none 0 0)]) ([(vI 0),(.slice none 0 0)]) hBw5 (by kernel_rfl) (by first | decide |(simp;done)|(simp;omega)) (by simp [Value.oneCell']) ?_)
   intro w6 hBw6 hCw6
   have hzw6:=hCw6.size
   rw [zm _ _ (by kernel_rfl)] at hBw6
   refine zd 1 [(11,(vI 1))] (zg (zc (zf (zf (ze (zd 2 [(81,(vI m2)),(80,(vI 1))] (zb (zat (some 82) (((1:Nat):Int) !=((m2:Nat):Int)) false (zaL (by omega)) ?_))))))))
   refine zg (zc (zr (zy (zc (zf (zf (ze (zd 1 [(83,(vI 1))] (zb (zat (some 84) (((1:Nat):Int) !=((0:Nat):Int)) true (zcq (by omega)) ?_))))))))))
   refine zg (zc (zF (zf (ze (zd 1 [(85,(vP w4.heap.size 0))] (zb (zj (some 86) (Instr.loadAt 3 (vP w4.heap.size 0)) (vI 0) (zo (hBw6.cell rfl)) ?_)))))))
   refine zd 3 [(89,(vP w4.heap.size 1)),(88,vT),(87,vT)] (zb (zj (some 90) (Instr.loadAt 24 (vP w4.heap.size 1)) (.slice none 0 0) (zo (hBw6.cell rfl)) ?_))
   refine zd 4 [(94,vT),(93,vT),(92,vT),(91,(vI 0))] ?_
   have hK1:=(((((((((hg0.ext hE1)).ext hE2)).ext hEw4)).ext hEw5)).chg hCw6 (fun hs=>by have h:_=_:=hs;omega))
   have hK2:=(((((((((hg1.ext hE1)).ext hE2)).ext hEw4)).ext hEw5)).chg hCw6 (fun hs=>by have h:_=_:=hs;omega))
   have hK3:=(((((((((hg2.ext hE1)).ext hE2)).ext hEw4)).ext hEw5)).chg hCw6 (fun hs=>by have h:_=_:=hs;omega))
   have hK4:=(((((((((hg3.ext hE1)).ext hE2)).ext hEw4)).ext hEw5)).chg hCw6 (fun hs=>by have h:_=_:=hs;omega))
   refine zb (zi (some 95) (zmt _ hK1 hK2 hK3 hK4) ?_)
   rintro _ w7 ⟨rfl,hEw7⟩
   have hzw7:=hEw7.size
   refine zd 2 [(6,vT),(96,vT)] (zg (zc (zx (zu (zB vT ?_)))))
   have hX1:Ext w w7:=((Ext.own (((hE1.trans hE2).trans hEw4).trans hEw5) hCw6 (by omega)).trans hEw7)
   exact ⟨rfl,hX1⟩
set_option maxHeartbeats 4000000 in
theorem zv6 (n:Int) {lo_l hi_l:Nat} {a_l:Option Addr} {n_l c_l:Nat} {l:List Rec} {lo_z hi_z:Nat} {a_z:Option Addr} {n_z c_z:Nat} {z:List Int} (w:World) (h_l:Ms zE 35 lo_l hi_l w a_l n_l c_l l) (h_z:Es (iv .i64) lo_z hi_z w a_z n_z c_z z) (hp0:n_l≤30) (hp1:n_z≤20) (hp2:n<1) (hg0:Gl 0 [vI 45,vI 33] w) (hg1:Gl 2 (w8C za2) w) (hg2:Gl 3 (zR kA) w) (hg3:Gl 1 [.iface 199 (.agg #[.pointer (some ⟨4,99,none⟩)])] w):
  Calls Tryz.prog 4 #[(.int .i64 n),(.slice a_l n_l c_l),(.slice a_z n_z c_z)] w (Ret fun r w'=>r=vT∧Ext w w'):=by
 refine zL (n:=107) (σ:= [(0,(.int .i64 n)),(1,(.slice a_l n_l c_l)),(2,(.slice a_z n_z c_z))]) Tryz.func4 rfl ?_
 replace h_l:=h_l.now;have hle_l:=h_l.le
 replace h_z:=h_z.now;have hle_z:=h_z.le
 have hgl0:=hg0.lt
 have hgl1:=hg1.lt
 have hgl2:=hg2.lt
 have hgl3:=hg3.lt
 have hlen:=h_l.len_eq;have hle:=h_l.le;have hlz:=h_z.len_eq;have hlez:=h_z.le
 refine zf (ze (zd 1 [(6,vF)] (zg (zc (zf (zf (ze (zd 2 [(13,(vI n_l)),(12,(.slice a_l n_l c_l))] (zb (zat (some 14) (decide (((n_l:Nat):Int)>((30:Nat):Int))) false (zce (by omega)) ?_))))))))))
 refine zd 3 [(17,(vI n_z)),(16,(.slice a_z n_z c_z)),(15,vF)] (zb (zat (some 18) (decide (((n_z:Nat):Int)>((20:Nat):Int))) false (zce (by omega)) ?_))
 refine zd 1 [(19,vF)] (zg (zc (zr (zy (zc (zf (ze (zd 1 [(7,(vI 0))] (zg ?_)))))))))
 refine zc (zf (zf (ze (zd 2 [(22,(vI n_l)),(21,(.slice a_l n_l c_l))] (zb (zet (some 23) .i64 (IntKind.i64.wrap (((n_l:Nat):Int)-((1:Nat):Int))) ((n_l:Int)-1-((0:Nat):Int)) (zG (by omega) (by omega) (by omega)) ?_))))))
 refine zd 1 [(8,(.int .i64 ((n_l:Int)-1-((0:Nat):Int))))] (zg (zc (zI (zah (X:=Nat×Nat) (fun ⟨k,m⟩=> [(7,(vI m)),(8,(.int .i64 ((n_l:Int)-1-(k:Int))))]) [24,25,26,27,28,29,30,31,32,33,34,35] (fun ⟨k,m⟩ w1=>k≤n_l∧m=wL (fun i=>zaB (l.getD i Rec.zero)) n_l k∧Ext w w1) (fun ⟨k,m⟩=>n_l-k) (0,0) (by kernel_rfl) ⟨Nat.zero_le _,rfl,Ext.refl _⟩ ?_))))
 rintro ⟨k,m⟩ dw1 w1 ⟨hk,hm,hE1⟩
 have hz1:=hE1.size
 refine zf (zf (ze (zd 1 [(24,(.int .i64 ((n_l:Int)-1-(k:Int))))] (zb (zO (some 25) (decide (((n_l:Int)-1-(k:Int))≥((0:Nat):Int))) (fun hc25=> ?_) (fun hc25=> ?_))))))
 ·replace hc25:((n_l:Int)-1-(k:Int))≥((0:Nat):Int):=by have:=zak hc25;omega
  have hcl:=zdf (l.getD (n_l-1-k) Rec.zero)
  dsimp only
  rw [show (n_l:Int)-1-(k:Int)=((n_l-1-k:Nat):Int) from by omega]
  refine zg (zc (zF (zy (zc (zf (zI (zf (ze (zd 2 [(29,(vI (n_l-1-k))),(28,(.slice a_l n_l c_l))] ?_)))))))))
  obtain ⟨b1,o1,rfl⟩:=h_l.addr (by omega) (by decide)
  refine zb (zj (some 30) (Instr.indexAt 39 (.slice (pA b1 o1) n_l c_l) (vI (n_l-1-k))) (vP b1 (o1+(n_l-1-k)*35)) (zap (E:=33) (sz:=35) (by omega)) ?_)
  refine zb (zj (some 31) (Instr.loadAt 33 (vP b1 (o1+(n_l-1-k)*35))) (vA (zE (l.getD (n_l-1-k) Rec.zero))) (zD (vs:=zE (l.getD (n_l-1-k) Rec.zero)) ((h_l.ext hE1).at Rec.zero (by omega)) (by rw [zY];kernel_rfl)) ?_)
  refine zb (zj (some 32) (Instr.build 42 #[(0,(vA (zE (l.getD (n_l-1-k) Rec.zero))))]) (vA (r4C (R4.zero.set 0 (l.getD (n_l-1-k) Rec.zero)))) (zjo (E:=33) (l.getD (n_l-1-k) Rec.zero)) ?_)
  refine zb (zj (some 33) (Instr.build 47 #[(2,(vA (r4C (R4.zero.set 0 (l.getD (n_l-1-k) Rec.zero)))))]) (vA (zK (⟨0,0,(R4.zero.set 0 (l.getD (n_l-1-k) Rec.zero)),E4.zero,by decide,by decide⟩))) (zhR (R4.zero.set 0 (l.getD (n_l-1-k) Rec.zero))) ?_)
  refine zb (zi (some 34) (zvF (⟨0,0,(R4.zero.set 0 (l.getD (n_l-1-k) Rec.zero)),E4.zero,by decide,by decide⟩) _) ?_)
  rintro _ w2 ⟨rfl,hEw2⟩
  have hzw2:=hEw2.size
  rw [show zar (⟨0,0,(R4.zero.set 0 (l.getD (n_l-1-k) Rec.zero)),E4.zero,by decide,by decide⟩)=zaB (l.getD (n_l-1-k) Rec.zero) from zs6 _]
  refine zb (zO (some 35) ((((zaB (l.getD (n_l-1-k) Rec.zero):Nat):Int) !=((0:Nat):Int))) (fun hc35=> ?_) (fun hc35=> ?_))
  ·replace hc35:¬(zaB (l.getD (n_l-1-k) Rec.zero)=0):=by have:=zbY hc35;omega
   refine zg (zc (zF (ze (zd 1 [(7,(vI 1))] (zg (zp (zc (ze (zd 1 [(26,(vI (n_l-1-k)))] ?_)))))))))
   refine zb (zet (some 27) .i64 (IntKind.i64.wrap (((n_l-1-k:Nat):Int)-((1:Nat):Int))) ((n_l:Int)-1-((k+1:Nat):Int)) (zG (by omega) (by omega) (by omega)) ?_)
   refine zd 1 [(8,(.int .i64 ((n_l:Int)-1-((k+1:Nat):Int))))] (zg (zC (zS (k+1,1) ?_ ?_)))
   ·exact ⟨by omega,by rw [wL,if_neg hc35],(hE1.trans hEw2)⟩
   ·first | omega |(dsimp only;omega)
  ·replace hc35:zaB (l.getD (n_l-1-k) Rec.zero)=0:=by have:=zbX hc35;omega
   refine zg (zc (zr (zy (zp (zc (ze (zd 1 [(26,(vI (n_l-1-k)))] (zb (zet (some 27) .i64 (IntKind.i64.wrap (((n_l-1-k:Nat):Int)-((1:Nat):Int))) ((n_l:Int)-1-((k+1:Nat):Int)) (zG (by omega) (by omega) (by omega)) ?_)))))))))
   refine zd 1 [(8,(.int .i64 ((n_l:Int)-1-((k+1:Nat):Int))))] (zg (zC (zS (k+1,m) ?_ ?_)))
   ·exact ⟨by omega,by rw [wL,if_pos hc35];exact hm,(hE1.trans hEw2)⟩
   ·first | omega |(dsimp only;omega)
 ·replace hc25:¬(((n_l:Int)-1-(k:Int))≥((0:Nat):Int)):=by have:=zal hc25;omega
  obtain rfl:n_l=k:=by omega
  refine zg (zc (zr (zaf (zH (zH (zT (zc (zf (zf ?_)))))))))
  refine ze (zd 1 [(36,(.int .i64 n))] (zb (zat (some 37) (decide (n<((1:Nat):Int))) true (zeu (by omega)) ?_)))
  refine zd 17 [(54,vT),(53,undef),(52,undef),(51,undef),(50,undef),(49,undef),(48,vT),(47,vT),(46,undef),(45,undef),(44,undef),(43,undef),(42,vT),(41,vT),(40,undef),(39,undef),(38,vT)] (zg (zc (zF (ze (zd 1 [(7,(vI 1))] (zg (zc (zf (zf ?_)))))))))
  refine ze (zd 1 [(9,(vI 0))] (zg (zc (zI (zah (X:=Nat×Nat) (fun ⟨k,m2⟩=> [(7,(vI m2)),(9,(vI k))]) [55,56,57,58,59,60,61,62,63,64,65,66,67,68,69,70,71,72] (fun ⟨k,m2⟩ w3=>k≤n_z∧m2=wU (fun i=>znE (z.getD i 0)) 1 k∧Ext w1 w3) (fun ⟨k,m2⟩=>n_z-k) (0,1) (by kernel_rfl) ⟨Nat.zero_le _,rfl,Ext.refl _⟩ ?_)))))
  rintro ⟨k,m2⟩ dw3 w3 ⟨hk2,hm2,hE2⟩
  have hz2:=hE2.size
  refine zf (zf (ze (zd 3 [(57,(vI n_z)),(56,(.slice a_z n_z c_z)),(55,(vI k))] (zb (zO (some 58) (decide (((k:Nat):Int)<((n_z:Nat):Int))) (fun hc58=> ?_) (fun hc58=> ?_))))))
  ·replace hc58:k<n_z:=by have:=zak hc58;omega
   refine zg (zc (zF (zy (zc (zf (zI (zf (ze (zd 2 [(62,(vI k)),(61,(.slice a_z n_z c_z))] ?_)))))))))
   obtain ⟨b2,o2,rfl⟩:=h_z.addr (by omega)
   refine zb (zj (some 63) (Instr.indexAt 40 (.slice (pA b2 o2) n_z c_z) (vI k)) (vP b2 (o2+k*1)) (zap (E:=3) (sz:=1) (by omega)) ?_)
   refine zb (zj (some 64) (Instr.loadAt 3 (vP b2 (o2+k*1))) (.int .i64 (gz z k)) (zo ((((h_z.ext hE1)).ext hE2).celli (by omega))) ?_)
   refine zb (zO (some 65) ((gz z k !=((0:Nat):Int))) (fun hc65=> ?_) (fun hc65=> ?_))
   ·replace hc65:¬(gz z k=((0:Nat):Int)):=by have:=zbY hc65;omega
    refine zd 3 [(68,(vI k)),(67,(.slice (pA b2 o2) n_z c_z)),(66,vT)] (zb (zj (some 69) (Instr.indexAt 40 (.slice (pA b2 o2) n_z c_z) (vI k)) (vP b2 (o2+k*1)) (zap (E:=3) (sz:=1) (by omega)) ?_))
    refine zb (zj (some 70) (Instr.loadAt 3 (vP b2 (o2+k*1))) (.int .i64 (gz z k)) (zo ((((h_z.ext hE1)).ext hE2).celli (by omega))) ?_)
    refine zb (zO (some 71) ((gz z k !=((1:Nat):Int))) (fun hc71=> ?_) (fun hc71=> ?_))
    ·replace hc71:¬(gz z k=((1:Nat):Int)):=by have:=zbY hc71;omega
     refine zd 1 [(72,vT)] (zg (zc (zF (ze (zd 1 [(7,(vI 1))] (zg (zp (zc (ze ?_)))))))))
     refine zd 1 [(59,(vI k))] (zb (zv (some 60) .i64 (IntKind.i64.wrap (((k:Nat):Int)+((1:Nat):Int))) (k+1) (zG (by omega) (by omega) (by omega)) ?_))
     refine zd 1 [(9,(vI (k+1)))] (zg (zC (zS (k+1,1) ?_ ?_)))
     ·exact ⟨by omega,by rw [wU,if_neg (fun hh=>by have h7:gz z k=0∨gz z k=1:=zmH.1 hh;omega)],hE2⟩
     ·first | omega |(dsimp only;omega)
    ·replace hc71:gz z k=((1:Nat):Int):=by have:=zbX hc71;omega
     refine zd 1 [(72,vF)] (zg (zc (zr (zy (zp (zc (ze (zd 1 [(59,(vI k))] (zb (zv (some 60) .i64 (IntKind.i64.wrap (((k:Nat):Int)+((1:Nat):Int))) (k+1) (zG (by omega) (by omega) (by omega)) ?_))))))))))
     refine zd 1 [(9,(vI (k+1)))] (zg (zC (zS (k+1,m2) ?_ ?_)))
     ·exact ⟨by omega,by rw [wU,if_pos (show znE (z.getD k 0)=0 from zmH.2 (show gz z k=0∨gz z k=1 by omega))];exact hm2,hE2⟩
     ·first | omega |(dsimp only;omega)
   ·replace hc65:gz z k=((0:Nat):Int):=by have:=zbX hc65;omega
    refine zd 7 [(72,vF),(71,undef),(70,undef),(69,undef),(68,undef),(67,undef),(66,vF)] (zg (zc (zr (zy (zp (zc (ze (zd 1 [(59,(vI k))] (zb (zv (some 60) .i64 (IntKind.i64.wrap (((k:Nat):Int)+((1:Nat):Int))) (k+1) (zG (by omega) (by omega) (by omega)) ?_))))))))))
    refine zd 1 [(9,(vI (k+1)))] (zg (zC (zS (k+1,m2) ?_ ?_)))
    ·exact ⟨by omega,by rw [wU,if_pos (show znE (z.getD k 0)=0 from zmH.2 (show gz z k=0∨gz z k=1 by omega))];exact hm2,hE2⟩
    ·first | omega |(dsimp only;omega)
  ·replace hc58:¬(k<n_z):=by have:=zal hc58;omega
   obtain rfl:n_z=k:=by omega
   have hw1:=ztg hm2
   refine zg (zc (zr (zaf (zH (zH (zT (zc (zf (ze ?_)))))))))
   refine zd 3 [(76,(.slice a_z n_z c_z)),(75,(.slice a_l n_l c_l)),(74,(.int .i64 n))] (zb (zi (some 77) (zvG n _ (((h_l.ext hE1)).ext hE2) (((h_z.ext hE1)).ext hE2) (fun hh=>absurd hh.1 (by omega))) ?_))
   rintro _ w4 ⟨rfl,hEw4⟩
   have hzw4:=hEw4.size
   refine zd 3 [(79,(vI 1)),(78,(vA [(vI 0),(.slice none 0 0)])),(73,(.tuple #[(vA [(vI 0),(.slice none 0 0)]),(vI 1)]))] (zb (zt (some 10) (Instr.alloc 50 true (.tuple #[])) (vP w4.heap.size 0) ([(vI 0),(.slice none 0 0)]) 50 ?_))
   intro w5 hBw5 hEw5
   have hzw5:=hEw5.size;have hlw5:=hBw5.lt
   refine zb (zz 50 w4.heap.size 0 50 (vA [(vI 0),(.slice none 0 0)]) ([(vI 0),(.slice none 0 0)]) ([(vI 0),(.slice none 0 0)]) hBw5 (by kernel_rfl) (by first | decide |(simp;done)|(simp;omega)) (by simp [Value.oneCell']) ?_)
   intro w6 hBw6 hCw6
   have hzw6:=hCw6.size
   rw [zm _ _ (by kernel_rfl)] at hBw6
   refine zd 1 [(11,(vI 1))] (zg (zc (zf (zf (ze (zd 2 [(81,(vI m2)),(80,(vI 1))] (zb (zat (some 82) (((1:Nat):Int) !=((m2:Nat):Int)) false (zaL (by omega)) ?_))))))))
   refine zg (zc (zr (zy (zc (zf (zf (ze (zd 1 [(83,(vI 1))] (zb (zat (some 84) (((1:Nat):Int) !=((0:Nat):Int)) true (zcq (by omega)) ?_))))))))))
   refine zg (zc (zF (zf (ze (zd 1 [(85,(vP w4.heap.size 0))] (zb (zj (some 86) (Instr.loadAt 3 (vP w4.heap.size 0)) (vI 0) (zo (hBw6.cell rfl)) ?_)))))))
   refine zd 3 [(89,(vP w4.heap.size 1)),(88,vT),(87,vT)] (zb (zj (some 90) (Instr.loadAt 24 (vP w4.heap.size 1)) (.slice none 0 0) (zo (hBw6.cell rfl)) ?_))
   refine zd 4 [(94,vT),(93,vT),(92,vT),(91,(vI 0))] ?_
   have hK1:=(((((((((hg0.ext hE1)).ext hE2)).ext hEw4)).ext hEw5)).chg hCw6 (fun hs=>by have h:_=_:=hs;omega))
   have hK2:=(((((((((hg1.ext hE1)).ext hE2)).ext hEw4)).ext hEw5)).chg hCw6 (fun hs=>by have h:_=_:=hs;omega))
   have hK3:=(((((((((hg2.ext hE1)).ext hE2)).ext hEw4)).ext hEw5)).chg hCw6 (fun hs=>by have h:_=_:=hs;omega))
   have hK4:=(((((((((hg3.ext hE1)).ext hE2)).ext hEw4)).ext hEw5)).chg hCw6 (fun hs=>by have h:_=_:=hs;omega))
   refine zb (zi (some 95) (zmt _ hK1 hK2 hK3 hK4) ?_)
   rintro _ w7 ⟨rfl,hEw7⟩
   have hzw7:=hEw7.size
   refine zd 2 [(6,vT),(96,vT)] (zg (zc (zx (zu (zB vT ?_)))))
   have hX1:Ext w w7:=((Ext.own (((hE1.trans hE2).trans hEw4).trans hEw5) hCw6 (by omega)).trans hEw7)
   exact ⟨rfl,hX1⟩
set_option maxHeartbeats 4000000 in
theorem zv9 (n:Int) {lo_l hi_l:Nat} {a_l:Option Addr} {n_l c_l:Nat} {l:List Rec} {lo_z hi_z:Nat} {a_z:Option Addr} {n_z c_z:Nat} {z:List Int} (w:World) (h_l:Ms zE 35 lo_l hi_l w a_l n_l c_l l) (h_z:Es (iv .i64) lo_z hi_z w a_z n_z c_z z) (hp0:n_l≤30) (hp1:n_z≤20) (hp2:4096<n) (hg0:Gl 0 [vI 45,vI 33] w) (hg1:Gl 2 (w8C za2) w) (hg2:Gl 3 (zR kA) w) (hg3:Gl 1 [.iface 199 (.agg #[.pointer (some ⟨4,99,none⟩)])] w):
  Calls Tryz.prog 4 #[(.int .i64 n),(.slice a_l n_l c_l),(.slice a_z n_z c_z)] w (Ret fun r w'=>r=vT∧Ext w w'):=by
 refine zL (n:=107) (σ:= [(0,(.int .i64 n)),(1,(.slice a_l n_l c_l)),(2,(.slice a_z n_z c_z))]) Tryz.func4 rfl ?_
 replace h_l:=h_l.now;have hle_l:=h_l.le
 replace h_z:=h_z.now;have hle_z:=h_z.le
 have hgl0:=hg0.lt
 have hgl1:=hg1.lt
 have hgl2:=hg2.lt
 have hgl3:=hg3.lt
 have hlen:=h_l.len_eq;have hle:=h_l.le;have hlz:=h_z.len_eq;have hlez:=h_z.le
 refine zf (ze (zd 1 [(6,vF)] (zg (zc (zf (zf (ze (zd 2 [(13,(vI n_l)),(12,(.slice a_l n_l c_l))] (zb (zat (some 14) (decide (((n_l:Nat):Int)>((30:Nat):Int))) false (zce (by omega)) ?_))))))))))
 refine zd 3 [(17,(vI n_z)),(16,(.slice a_z n_z c_z)),(15,vF)] (zb (zat (some 18) (decide (((n_z:Nat):Int)>((20:Nat):Int))) false (zce (by omega)) ?_))
 refine zd 1 [(19,vF)] (zg (zc (zr (zy (zc (zf (ze (zd 1 [(7,(vI 0))] (zg ?_)))))))))
 refine zc (zf (zf (ze (zd 2 [(22,(vI n_l)),(21,(.slice a_l n_l c_l))] (zb (zet (some 23) .i64 (IntKind.i64.wrap (((n_l:Nat):Int)-((1:Nat):Int))) ((n_l:Int)-1-((0:Nat):Int)) (zG (by omega) (by omega) (by omega)) ?_))))))
 refine zd 1 [(8,(.int .i64 ((n_l:Int)-1-((0:Nat):Int))))] (zg (zc (zI (zah (X:=Nat×Nat) (fun ⟨k,m⟩=> [(7,(vI m)),(8,(.int .i64 ((n_l:Int)-1-(k:Int))))]) [24,25,26,27,28,29,30,31,32,33,34,35] (fun ⟨k,m⟩ w1=>k≤n_l∧m=wL (fun i=>zaB (l.getD i Rec.zero)) n_l k∧Ext w w1) (fun ⟨k,m⟩=>n_l-k) (0,0) (by kernel_rfl) ⟨Nat.zero_le _,rfl,Ext.refl _⟩ ?_))))
 rintro ⟨k,m⟩ dw1 w1 ⟨hk,hm,hE1⟩
 have hz1:=hE1.size
 refine zf (zf (ze (zd 1 [(24,(.int .i64 ((n_l:Int)-1-(k:Int))))] (zb (zO (some 25) (decide (((n_l:Int)-1-(k:Int))≥((0:Nat):Int))) (fun hc25=> ?_) (fun hc25=> ?_))))))
 ·replace hc25:((n_l:Int)-1-(k:Int))≥((0:Nat):Int):=by have:=zak hc25;omega
  have hcl:=zdf (l.getD (n_l-1-k) Rec.zero)
  dsimp only
  rw [show (n_l:Int)-1-(k:Int)=((n_l-1-k:Nat):Int) from by omega]
  refine zg (zc (zF (zy (zc (zf (zI (zf (ze (zd 2 [(29,(vI (n_l-1-k))),(28,(.slice a_l n_l c_l))] ?_)))))))))
  obtain ⟨b1,o1,rfl⟩:=h_l.addr (by omega) (by decide)
  refine zb (zj (some 30) (Instr.indexAt 39 (.slice (pA b1 o1) n_l c_l) (vI (n_l-1-k))) (vP b1 (o1+(n_l-1-k)*35)) (zap (E:=33) (sz:=35) (by omega)) ?_)
  refine zb (zj (some 31) (Instr.loadAt 33 (vP b1 (o1+(n_l-1-k)*35))) (vA (zE (l.getD (n_l-1-k) Rec.zero))) (zD (vs:=zE (l.getD (n_l-1-k) Rec.zero)) ((h_l.ext hE1).at Rec.zero (by omega)) (by rw [zY];kernel_rfl)) ?_)
  refine zb (zj (some 32) (Instr.build 42 #[(0,(vA (zE (l.getD (n_l-1-k) Rec.zero))))]) (vA (r4C (R4.zero.set 0 (l.getD (n_l-1-k) Rec.zero)))) (zjo (E:=33) (l.getD (n_l-1-k) Rec.zero)) ?_)
  refine zb (zj (some 33) (Instr.build 47 #[(2,(vA (r4C (R4.zero.set 0 (l.getD (n_l-1-k) Rec.zero)))))]) (vA (zK (⟨0,0,(R4.zero.set 0 (l.getD (n_l-1-k) Rec.zero)),E4.zero,by decide,by decide⟩))) (zhR (R4.zero.set 0 (l.getD (n_l-1-k) Rec.zero))) ?_)
  refine zb (zi (some 34) (zvF (⟨0,0,(R4.zero.set 0 (l.getD (n_l-1-k) Rec.zero)),E4.zero,by decide,by decide⟩) _) ?_)
  rintro _ w2 ⟨rfl,hEw2⟩
  have hzw2:=hEw2.size
  rw [show zar (⟨0,0,(R4.zero.set 0 (l.getD (n_l-1-k) Rec.zero)),E4.zero,by decide,by decide⟩)=zaB (l.getD (n_l-1-k) Rec.zero) from zs6 _]
  refine zb (zO (some 35) ((((zaB (l.getD (n_l-1-k) Rec.zero):Nat):Int) !=((0:Nat):Int))) (fun hc35=> ?_) (fun hc35=> ?_))
  ·replace hc35:¬(zaB (l.getD (n_l-1-k) Rec.zero)=0):=by have:=zbY hc35;omega
   refine zg (zc (zF (ze (zd 1 [(7,(vI 1))] (zg (zp (zc (ze (zd 1 [(26,(vI (n_l-1-k)))] ?_)))))))))
   refine zb (zet (some 27) .i64 (IntKind.i64.wrap (((n_l-1-k:Nat):Int)-((1:Nat):Int))) ((n_l:Int)-1-((k+1:Nat):Int)) (zG (by omega) (by omega) (by omega)) ?_)
   refine zd 1 [(8,(.int .i64 ((n_l:Int)-1-((k+1:Nat):Int))))] (zg (zC (zS (k+1,1) ?_ ?_)))
   ·exact ⟨by omega,by rw [wL,if_neg hc35],(hE1.trans hEw2)⟩
   ·first | omega |(dsimp only;omega)
  ·replace hc35:zaB (l.getD (n_l-1-k) Rec.zero)=0:=by have:=zbX hc35;omega
   refine zg (zc (zr (zy (zp (zc (ze (zd 1 [(26,(vI (n_l-1-k)))] (zb (zet (some 27) .i64 (IntKind.i64.wrap (((n_l-1-k:Nat):Int)-((1:Nat):Int))) ((n_l:Int)-1-((k+1:Nat):Int)) (zG (by omega) (by omega) (by omega)) ?_)))))))))
   refine zd 1 [(8,(.int .i64 ((n_l:Int)-1-((k+1:Nat):Int))))] (zg (zC (zS (k+1,m) ?_ ?_)))
   ·exact ⟨by omega,by rw [wL,if_pos hc35];exact hm,(hE1.trans hEw2)⟩
   ·first | omega |(dsimp only;omega)
 ·replace hc25:¬(((n_l:Int)-1-(k:Int))≥((0:Nat):Int)):=by have:=zal hc25;omega
  obtain rfl:n_l=k:=by omega
  refine zg (zc (zr (zaf (zH (zH (zT (zc (zf (zf ?_)))))))))
  refine ze (zd 1 [(36,(.int .i64 n))] (zb (zat (some 37) (decide (n<((1:Nat):Int))) false (zce (by omega)) ?_)))
  refine zd 2 [(39,(.int .i64 n)),(38,vF)] (zb (zat (some 40) (decide (n>((4096:Nat):Int))) true (zeu (by omega)) ?_))
  refine zd 14 [(54,vT),(53,undef),(52,undef),(51,undef),(50,undef),(49,undef),(48,vT),(47,vT),(46,undef),(45,undef),(44,undef),(43,undef),(42,vT),(41,vT)] (zg (zc (zF (ze (zd 1 [(7,(vI 1))] (zg (zc (zf (zf ?_)))))))))
  refine ze (zd 1 [(9,(vI 0))] (zg (zc (zI (zah (X:=Nat×Nat) (fun ⟨k,m2⟩=> [(7,(vI m2)),(9,(vI k))]) [55,56,57,58,59,60,61,62,63,64,65,66,67,68,69,70,71,72] (fun ⟨k,m2⟩ w3=>k≤n_z∧m2=wU (fun i=>znE (z.getD i 0)) 1 k∧Ext w1 w3) (fun ⟨k,m2⟩=>n_z-k) (0,1) (by kernel_rfl) ⟨Nat.zero_le _,rfl,Ext.refl _⟩ ?_)))))
  rintro ⟨k,m2⟩ dw3 w3 ⟨hk2,hm2,hE2⟩
  have hz2:=hE2.size
  refine zf (zf (ze (zd 3 [(57,(vI n_z)),(56,(.slice a_z n_z c_z)),(55,(vI k))] (zb (zO (some 58) (decide (((k:Nat):Int)<((n_z:Nat):Int))) (fun hc58=> ?_) (fun hc58=> ?_))))))
  ·replace hc58:k<n_z:=by have:=zak hc58;omega
   refine zg (zc (zF (zy (zc (zf (zI (zf (ze (zd 2 [(62,(vI k)),(61,(.slice a_z n_z c_z))] ?_)))))))))
   obtain ⟨b2,o2,rfl⟩:=h_z.addr (by omega)
   refine zb (zj (some 63) (Instr.indexAt 40 (.slice (pA b2 o2) n_z c_z) (vI k)) (vP b2 (o2+k*1)) (zap (E:=3) (sz:=1) (by omega)) ?_)
   refine zb (zj (some 64) (Instr.loadAt 3 (vP b2 (o2+k*1))) (.int .i64 (gz z k)) (zo ((((h_z.ext hE1)).ext hE2).celli (by omega))) ?_)
   refine zb (zO (some 65) ((gz z k !=((0:Nat):Int))) (fun hc65=> ?_) (fun hc65=> ?_))
   ·replace hc65:¬(gz z k=((0:Nat):Int)):=by have:=zbY hc65;omega
    refine zd 3 [(68,(vI k)),(67,(.slice (pA b2 o2) n_z c_z)),(66,vT)] (zb (zj (some 69) (Instr.indexAt 40 (.slice (pA b2 o2) n_z c_z) (vI k)) (vP b2 (o2+k*1)) (zap (E:=3) (sz:=1) (by omega)) ?_))
    refine zb (zj (some 70) (Instr.loadAt 3 (vP b2 (o2+k*1))) (.int .i64 (gz z k)) (zo ((((h_z.ext hE1)).ext hE2).celli (by omega))) ?_)
    refine zb (zO (some 71) ((gz z k !=((1:Nat):Int))) (fun hc71=> ?_) (fun hc71=> ?_))
    ·replace hc71:¬(gz z k=((1:Nat):Int)):=by have:=zbY hc71;omega
     refine zd 1 [(72,vT)] (zg (zc (zF (ze (zd 1 [(7,(vI 1))] (zg (zp (zc (ze ?_)))))))))
     refine zd 1 [(59,(vI k))] (zb (zv (some 60) .i64 (IntKind.i64.wrap (((k:Nat):Int)+((1:Nat):Int))) (k+1) (zG (by omega) (by omega) (by omega)) ?_))
     refine zd 1 [(9,(vI (k+1)))] (zg (zC (zS (k+1,1) ?_ ?_)))
     ·exact ⟨by omega,by rw [wU,if_neg (fun hh=>by have h7:gz z k=0∨gz z k=1:=zmH.1 hh;omega)],hE2⟩
     ·first | omega |(dsimp only;omega)
    ·replace hc71:gz z k=((1:Nat):Int):=by have:=zbX hc71;omega
     refine zd 1 [(72,vF)] (zg (zc (zr (zy (zp (zc (ze (zd 1 [(59,(vI k))] (zb (zv (some 60) .i64 (IntKind.i64.wrap (((k:Nat):Int)+((1:Nat):Int))) (k+1) (zG (by omega) (by omega) (by omega)) ?_))))))))))
     refine zd 1 [(9,(vI (k+1)))] (zg (zC (zS (k+1,m2) ?_ ?_)))
     ·exact ⟨by omega,by rw [wU,if_pos (show znE (z.getD k 0)=0 from zmH.2 (show gz z k=0∨gz z k=1 by omega))];exact hm2,hE2⟩
     ·first | omega |(dsimp only;omega)
   ·replace hc65:gz z k=((0:Nat):Int):=by have:=zbX hc65;omega
    refine zd 7 [(72,vF),(71,undef),(70,undef),(69,undef),(68,undef),(67,undef),(66,vF)] (zg (zc (zr (zy (zp (zc (ze (zd 1 [(59,(vI k))] (zb (zv (some 60) .i64 (IntKind.i64.wrap (((k:Nat):Int)+((1:Nat):Int))) (k+1) (zG (by omega) (by omega) (by omega)) ?_))))))))))
    refine zd 1 [(9,(vI (k+1)))] (zg (zC (zS (k+1,m2) ?_ ?_)))
    ·exact ⟨by omega,by rw [wU,if_pos (show znE (z.getD k 0)=0 from zmH.2 (show gz z k=0∨gz z k=1 by omega))];exact hm2,hE2⟩
    ·first | omega |(dsimp only;omega)
  ·replace hc58:¬(k<n_z):=by have:=zal hc58;omega
   obtain rfl:n_z=k:=by omega
   have hw1:=ztg hm2
   refine zg (zc (zr (zaf (zH (zH (zT (zc (zf (ze ?_)))))))))
   refine zd 3 [(76,(.slice a_z n_z c_z)),(75,(.slice a_l n_l c_l)),(74,(.int .i64 n))] (zb (zi (some 77) (zvG n _ (((h_l.ext hE1)).ext hE2) (((h_z.ext hE1)).ext hE2) (fun hh=>absurd hh.2.1 (by omega))) ?_))
   rintro _ w4 ⟨rfl,hEw4⟩
   have hzw4:=hEw4.size
   refine zd 3 [(79,(vI 1)),(78,(vA [(vI 0),(.slice none 0 0)])),(73,(.tuple #[(vA [(vI 0),(.slice none 0 0)]),(vI 1)]))] (zb (zt (some 10) (Instr.alloc 50 true (.tuple #[])) (vP w4.heap.size 0) ([(vI 0),(.slice none 0 0)]) 50 ?_))
   intro w5 hBw5 hEw5
   have hzw5:=hEw5.size;have hlw5:=hBw5.lt
   refine zb (zz 50 w4.heap.size 0 50 (vA [(vI 0),(.slice none 0 0)]) ([(vI 0),(.slice none 0 0)]) ([(vI 0),(.slice none 0 0)]) hBw5 (by kernel_rfl) (by first | decide |(simp;done)|(simp;omega)) (by simp [Value.oneCell']) ?_)
   intro w6 hBw6 hCw6
   have hzw6:=hCw6.size
   rw [zm _ _ (by kernel_rfl)] at hBw6
   refine zd 1 [(11,(vI 1))] (zg (zc (zf (zf (ze (zd 2 [(81,(vI m2)),(80,(vI 1))] (zb (zat (some 82) (((1:Nat):Int) !=((m2:Nat):Int)) false (zaL (by omega)) ?_))))))))
   refine zg (zc (zr (zy (zc (zf (zf (ze (zd 1 [(83,(vI 1))] (zb (zat (some 84) (((1:Nat):Int) !=((0:Nat):Int)) true (zcq (by omega)) ?_))))))))))
   refine zg (zc (zF (zf (ze (zd 1 [(85,(vP w4.heap.size 0))] (zb (zj (some 86) (Instr.loadAt 3 (vP w4.heap.size 0)) (vI 0) (zo (hBw6.cell rfl)) ?_)))))))
   refine zd 3 [(89,(vP w4.heap.size 1)),(88,vT),(87,vT)] (zb (zj (some 90) (Instr.loadAt 24 (vP w4.heap.size 1)) (.slice none 0 0) (zo (hBw6.cell rfl)) ?_))
   refine zd 4 [(94,vT),(93,vT),(92,vT),(91,(vI 0))] ?_
   have hK1:=(((((((((hg0.ext hE1)).ext hE2)).ext hEw4)).ext hEw5)).chg hCw6 (fun hs=>by have h:_=_:=hs;omega))
   have hK2:=(((((((((hg1.ext hE1)).ext hE2)).ext hEw4)).ext hEw5)).chg hCw6 (fun hs=>by have h:_=_:=hs;omega))
   have hK3:=(((((((((hg2.ext hE1)).ext hE2)).ext hEw4)).ext hEw5)).chg hCw6 (fun hs=>by have h:_=_:=hs;omega))
   have hK4:=(((((((((hg3.ext hE1)).ext hE2)).ext hEw4)).ext hEw5)).chg hCw6 (fun hs=>by have h:_=_:=hs;omega))
   refine zb (zi (some 95) (zmt _ hK1 hK2 hK3 hK4) ?_)
   rintro _ w7 ⟨rfl,hEw7⟩
   have hzw7:=hEw7.size
   refine zd 2 [(6,vT),(96,vT)] (zg (zc (zx (zu (zB vT ?_)))))
   have hX1:Ext w w7:=((Ext.own (((hE1.trans hE2).trans hEw4).trans hEw5) hCw6 (by omega)).trans hEw7)
   exact ⟨rfl,hX1⟩
set_option maxHeartbeats 4000000 in
theorem zv5 (n:Nat) {lo_l hi_l:Nat} {a_l:Option Addr} {n_l c_l:Nat} {l:List Rec} {lo_z hi_z:Nat} {a_z:Option Addr} {n_z c_z:Nat} {z:List Int} (w:World) (h_l:Ms zE 35 lo_l hi_l w a_l n_l c_l l) (h_z:Es (iv .i64) lo_z hi_z w a_z n_z c_z z) (hp0:n_l≤30) (hp1:n_z≤20) (hp2:1≤n) (hp3:n≤4096) (hp4:n_l≠n) (hg0:Gl 0 [vI 45,vI 33] w) (hg1:Gl 2 (w8C za2) w) (hg2:Gl 3 (zR kA) w) (hg3:Gl 1 [.iface 199 (.agg #[.pointer (some ⟨4,99,none⟩)])] w):
  Calls Tryz.prog 4 #[(vI n),(.slice a_l n_l c_l),(.slice a_z n_z c_z)] w (Ret fun r w'=>r=vT∧Ext w w'):=by
 refine zL (n:=107) (σ:= [(0,(vI n)),(1,(.slice a_l n_l c_l)),(2,(.slice a_z n_z c_z))]) Tryz.func4 rfl ?_
 replace h_l:=h_l.now;have hle_l:=h_l.le
 replace h_z:=h_z.now;have hle_z:=h_z.le
 have hgl0:=hg0.lt
 have hgl1:=hg1.lt
 have hgl2:=hg2.lt
 have hgl3:=hg3.lt
 have hlen:=h_l.len_eq;have hle:=h_l.le;have hlz:=h_z.len_eq;have hlez:=h_z.le
 refine zf (ze (zd 1 [(6,vF)] (zg (zc (zf (zf (ze (zd 2 [(13,(vI n_l)),(12,(.slice a_l n_l c_l))] (zb (zat (some 14) (decide (((n_l:Nat):Int)>((30:Nat):Int))) false (zce (by omega)) ?_))))))))))
 refine zd 3 [(17,(vI n_z)),(16,(.slice a_z n_z c_z)),(15,vF)] (zb (zat (some 18) (decide (((n_z:Nat):Int)>((20:Nat):Int))) false (zce (by omega)) ?_))
 refine zd 1 [(19,vF)] (zg (zc (zr (zy (zc (zf (ze (zd 1 [(7,(vI 0))] (zg ?_)))))))))
 refine zc (zf (zf (ze (zd 2 [(22,(vI n_l)),(21,(.slice a_l n_l c_l))] (zb (zet (some 23) .i64 (IntKind.i64.wrap (((n_l:Nat):Int)-((1:Nat):Int))) ((n_l:Int)-1-((0:Nat):Int)) (zG (by omega) (by omega) (by omega)) ?_))))))
 refine zd 1 [(8,(.int .i64 ((n_l:Int)-1-((0:Nat):Int))))] (zg (zc (zI (zah (X:=Nat×Nat) (fun ⟨k,m⟩=> [(7,(vI m)),(8,(.int .i64 ((n_l:Int)-1-(k:Int))))]) [24,25,26,27,28,29,30,31,32,33,34,35] (fun ⟨k,m⟩ w1=>k≤n_l∧m=wL (fun i=>zaB (l.getD i Rec.zero)) n_l k∧Ext w w1) (fun ⟨k,m⟩=>n_l-k) (0,0) (by kernel_rfl) ⟨Nat.zero_le _,rfl,Ext.refl _⟩ ?_))))
 rintro ⟨k,m⟩ dw1 w1 ⟨hk,hm,hE1⟩
 have hz1:=hE1.size
 refine zf (zf (ze (zd 1 [(24,(.int .i64 ((n_l:Int)-1-(k:Int))))] (zb (zO (some 25) (decide (((n_l:Int)-1-(k:Int))≥((0:Nat):Int))) (fun hc25=> ?_) (fun hc25=> ?_))))))
 ·replace hc25:((n_l:Int)-1-(k:Int))≥((0:Nat):Int):=by have:=zak hc25;omega
  have hcl:=zdf (l.getD (n_l-1-k) Rec.zero)
  dsimp only
  rw [show (n_l:Int)-1-(k:Int)=((n_l-1-k:Nat):Int) from by omega]
  refine zg (zc (zF (zy (zc (zf (zI (zf (ze (zd 2 [(29,(vI (n_l-1-k))),(28,(.slice a_l n_l c_l))] ?_)))))))))
  obtain ⟨b1,o1,rfl⟩:=h_l.addr (by omega) (by decide)
  refine zb (zj (some 30) (Instr.indexAt 39 (.slice (pA b1 o1) n_l c_l) (vI (n_l-1-k))) (vP b1 (o1+(n_l-1-k)*35)) (zap (E:=33) (sz:=35) (by omega)) ?_)
  refine zb (zj (some 31) (Instr.loadAt 33 (vP b1 (o1+(n_l-1-k)*35))) (vA (zE (l.getD (n_l-1-k) Rec.zero))) (zD (vs:=zE (l.getD (n_l-1-k) Rec.zero)) ((h_l.ext hE1).at Rec.zero (by omega)) (by rw [zY];kernel_rfl)) ?_)
  refine zb (zj (some 32) (Instr.build 42 #[(0,(vA (zE (l.getD (n_l-1-k) Rec.zero))))]) (vA (r4C (R4.zero.set 0 (l.getD (n_l-1-k) Rec.zero)))) (zjo (E:=33) (l.getD (n_l-1-k) Rec.zero)) ?_)
  refine zb (zj (some 33) (Instr.build 47 #[(2,(vA (r4C (R4.zero.set 0 (l.getD (n_l-1-k) Rec.zero)))))]) (vA (zK (⟨0,0,(R4.zero.set 0 (l.getD (n_l-1-k) Rec.zero)),E4.zero,by decide,by decide⟩))) (zhR (R4.zero.set 0 (l.getD (n_l-1-k) Rec.zero))) ?_)
  refine zb (zi (some 34) (zvF (⟨0,0,(R4.zero.set 0 (l.getD (n_l-1-k) Rec.zero)),E4.zero,by decide,by decide⟩) _) ?_)
  rintro _ w2 ⟨rfl,hEw2⟩
  have hzw2:=hEw2.size
  rw [show zar (⟨0,0,(R4.zero.set 0 (l.getD (n_l-1-k) Rec.zero)),E4.zero,by decide,by decide⟩)=zaB (l.getD (n_l-1-k) Rec.zero) from zs6 _]
  refine zb (zO (some 35) ((((zaB (l.getD (n_l-1-k) Rec.zero):Nat):Int) !=((0:Nat):Int))) (fun hc35=> ?_) (fun hc35=> ?_))
  ·replace hc35:¬(zaB (l.getD (n_l-1-k) Rec.zero)=0):=by have:=zbY hc35;omega
   refine zg (zc (zF (ze (zd 1 [(7,(vI 1))] (zg (zp (zc (ze (zd 1 [(26,(vI (n_l-1-k)))] ?_)))))))))
   refine zb (zet (some 27) .i64 (IntKind.i64.wrap (((n_l-1-k:Nat):Int)-((1:Nat):Int))) ((n_l:Int)-1-((k+1:Nat):Int)) (zG (by omega) (by omega) (by omega)) ?_)
   refine zd 1 [(8,(.int .i64 ((n_l:Int)-1-((k+1:Nat):Int))))] (zg (zC (zS (k+1,1) ?_ ?_)))
   ·exact ⟨by omega,by rw [wL,if_neg hc35],(hE1.trans hEw2)⟩
   ·first | omega |(dsimp only;omega)
  ·replace hc35:zaB (l.getD (n_l-1-k) Rec.zero)=0:=by have:=zbX hc35;omega
   refine zg (zc (zr (zy (zp (zc (ze (zd 1 [(26,(vI (n_l-1-k)))] (zb (zet (some 27) .i64 (IntKind.i64.wrap (((n_l-1-k:Nat):Int)-((1:Nat):Int))) ((n_l:Int)-1-((k+1:Nat):Int)) (zG (by omega) (by omega) (by omega)) ?_)))))))))
   refine zd 1 [(8,(.int .i64 ((n_l:Int)-1-((k+1:Nat):Int))))] (zg (zC (zS (k+1,m) ?_ ?_)))
   ·exact ⟨by omega,by rw [wL,if_pos hc35];exact hm,(hE1.trans hEw2)⟩
   ·first | omega |(dsimp only;omega)
 ·replace hc25:¬(((n_l:Int)-1-(k:Int))≥((0:Nat):Int)):=by have:=zal hc25;omega
  obtain rfl:n_l=k:=by omega
  refine zg (zc (zr (zaf (zH (zH (zT (zc (zf (zf ?_)))))))))
  refine ze (zd 1 [(36,(vI n))] (zb (zat (some 37) (decide (((n:Nat):Int)<((1:Nat):Int))) false (zce (by omega)) ?_)))
  refine zd 2 [(39,(vI n)),(38,vF)] (zb (zat (some 40) (decide (((n:Nat):Int)>((4096:Nat):Int))) false (zce (by omega)) ?_))
  refine zd 5 [(45,(vI n)),(44,(vI n_l)),(43,(.slice a_l n_l c_l)),(42,vF),(41,vF)] (zb (zat (some 46) (((n_l:Nat):Int) !=((n:Nat):Int)) true (zcq (by omega)) ?_))
  refine zd 8 [(54,vT),(53,undef),(52,undef),(51,undef),(50,undef),(49,undef),(48,vT),(47,vT)] (zg (zc (zF (ze (zd 1 [(7,(vI 1))] (zg (zc (zf (zf ?_)))))))))
  refine ze (zd 1 [(9,(vI 0))] (zg (zc (zI (zah (X:=Nat×Nat) (fun ⟨k,m2⟩=> [(7,(vI m2)),(9,(vI k))]) [55,56,57,58,59,60,61,62,63,64,65,66,67,68,69,70,71,72] (fun ⟨k,m2⟩ w3=>k≤n_z∧m2=wU (fun i=>znE (z.getD i 0)) 1 k∧Ext w1 w3) (fun ⟨k,m2⟩=>n_z-k) (0,1) (by kernel_rfl) ⟨Nat.zero_le _,rfl,Ext.refl _⟩ ?_)))))
  rintro ⟨k,m2⟩ dw3 w3 ⟨hk2,hm2,hE2⟩
  have hz2:=hE2.size
  refine zf (zf (ze (zd 3 [(57,(vI n_z)),(56,(.slice a_z n_z c_z)),(55,(vI k))] (zb (zO (some 58) (decide (((k:Nat):Int)<((n_z:Nat):Int))) (fun hc58=> ?_) (fun hc58=> ?_))))))
  ·replace hc58:k<n_z:=by have:=zak hc58;omega
   refine zg (zc (zF (zy (zc (zf (zI (zf (ze (zd 2 [(62,(vI k)),(61,(.slice a_z n_z c_z))] ?_)))))))))
   obtain ⟨b2,o2,rfl⟩:=h_z.addr (by omega)
   refine zb (zj (some 63) (Instr.indexAt 40 (.slice (pA b2 o2) n_z c_z) (vI k)) (vP b2 (o2+k*1)) (zap (E:=3) (sz:=1) (by omega)) ?_)
   refine zb (zj (some 64) (Instr.loadAt 3 (vP b2 (o2+k*1))) (.int .i64 (gz z k)) (zo ((((h_z.ext hE1)).ext hE2).celli (by omega))) ?_)
   refine zb (zO (some 65) ((gz z k !=((0:Nat):Int))) (fun hc65=> ?_) (fun hc65=> ?_))
   ·replace hc65:¬(gz z k=((0:Nat):Int)):=by have:=zbY hc65;omega
    refine zd 3 [(68,(vI k)),(67,(.slice (pA b2 o2) n_z c_z)),(66,vT)] (zb (zj (some 69) (Instr.indexAt 40 (.slice (pA b2 o2) n_z c_z) (vI k)) (vP b2 (o2+k*1)) (zap (E:=3) (sz:=1) (by omega)) ?_))
    refine zb (zj (some 70) (Instr.loadAt 3 (vP b2 (o2+k*1))) (.int .i64 (gz z k)) (zo ((((h_z.ext hE1)).ext hE2).celli (by omega))) ?_)
    refine zb (zO (some 71) ((gz z k !=((1:Nat):Int))) (fun hc71=> ?_) (fun hc71=> ?_))
    ·replace hc71:¬(gz z k=((1:Nat):Int)):=by have:=zbY hc71;omega
     refine zd 1 [(72,vT)] (zg (zc (zF (ze (zd 1 [(7,(vI 1))] (zg (zp (zc (ze ?_)))))))))
     refine zd 1 [(59,(vI k))] (zb (zv (some 60) .i64 (IntKind.i64.wrap (((k:Nat):Int)+((1:Nat):Int))) (k+1) (zG (by omega) (by omega) (by omega)) ?_))
     refine zd 1 [(9,(vI (k+1)))] (zg (zC (zS (k+1,1) ?_ ?_)))
     ·exact ⟨by omega,by rw [wU,if_neg (fun hh=>by have h7:gz z k=0∨gz z k=1:=zmH.1 hh;omega)],hE2⟩
     ·first | omega |(dsimp only;omega)
    ·replace hc71:gz z k=((1:Nat):Int):=by have:=zbX hc71;omega
     refine zd 1 [(72,vF)] (zg (zc (zr (zy (zp (zc (ze (zd 1 [(59,(vI k))] (zb (zv (some 60) .i64 (IntKind.i64.wrap (((k:Nat):Int)+((1:Nat):Int))) (k+1) (zG (by omega) (by omega) (by omega)) ?_))))))))))
     refine zd 1 [(9,(vI (k+1)))] (zg (zC (zS (k+1,m2) ?_ ?_)))
     ·exact ⟨by omega,by rw [wU,if_pos (show znE (z.getD k 0)=0 from zmH.2 (show gz z k=0∨gz z k=1 by omega))];exact hm2,hE2⟩
     ·first | omega |(dsimp only;omega)
   ·replace hc65:gz z k=((0:Nat):Int):=by have:=zbX hc65;omega
    refine zd 7 [(72,vF),(71,undef),(70,undef),(69,undef),(68,undef),(67,undef),(66,vF)] (zg (zc (zr (zy (zp (zc (ze (zd 1 [(59,(vI k))] (zb (zv (some 60) .i64 (IntKind.i64.wrap (((k:Nat):Int)+((1:Nat):Int))) (k+1) (zG (by omega) (by omega) (by omega)) ?_))))))))))
    refine zd 1 [(9,(vI (k+1)))] (zg (zC (zS (k+1,m2) ?_ ?_)))
    ·exact ⟨by omega,by rw [wU,if_pos (show znE (z.getD k 0)=0 from zmH.2 (show gz z k=0∨gz z k=1 by omega))];exact hm2,hE2⟩
    ·first | omega |(dsimp only;omega)
  ·replace hc58:¬(k<n_z):=by have:=zal hc58;omega
   obtain rfl:n_z=k:=by omega
   have hw1:=ztg hm2
   refine zg (zc (zr (zaf (zH (zH (zT (zc (zf (ze ?_)))))))))
   refine zd 3 [(76,(.slice a_z n_z c_z)),(75,(.slice a_l n_l c_l)),(74,(vI n))] (zb (zi (some 77) (zvG ((n:Nat):Int) _ (((h_l.ext hE1)).ext hE2) (((h_z.ext hE1)).ext hE2) (fun hh=>absurd hh.2.2.1 (by omega))) ?_))
   rintro _ w4 ⟨rfl,hEw4⟩
   have hzw4:=hEw4.size
   refine zd 3 [(79,(vI 1)),(78,(vA [(vI 0),(.slice none 0 0)])),(73,(.tuple #[(vA [(vI 0),(.slice none 0 0)]),(vI 1)]))] (zb (zt (some 10) (Instr.alloc 50 true (.tuple #[])) (vP w4.heap.size 0) ([(vI 0),(.slice none 0 0)]) 50 ?_))
   intro w5 hBw5 hEw5
   have hzw5:=hEw5.size;have hlw5:=hBw5.lt
   refine zb (zz 50 w4.heap.size 0 50 (vA [(vI 0),(.slice none 0 0)]) ([(vI 0),(.slice none 0 0)]) ([(vI 0),(.slice none 0 0)]) hBw5 (by kernel_rfl) (by first | decide |(simp;done)|(simp;omega)) (by simp [Value.oneCell']) ?_)
   intro w6 hBw6 hCw6
   have hzw6:=hCw6.size
   rw [zm _ _ (by kernel_rfl)] at hBw6
   refine zd 1 [(11,(vI 1))] (zg (zc (zf (zf (ze (zd 2 [(81,(vI m2)),(80,(vI 1))] (zb (zat (some 82) (((1:Nat):Int) !=((m2:Nat):Int)) false (zaL (by omega)) ?_))))))))
   refine zg (zc (zr (zy (zc (zf (zf (ze (zd 1 [(83,(vI 1))] (zb (zat (some 84) (((1:Nat):Int) !=((0:Nat):Int)) true (zcq (by omega)) ?_))))))))))
   refine zg (zc (zF (zf (ze (zd 1 [(85,(vP w4.heap.size 0))] (zb (zj (some 86) (Instr.loadAt 3 (vP w4.heap.size 0)) (vI 0) (zo (hBw6.cell rfl)) ?_)))))))
   refine zd 3 [(89,(vP w4.heap.size 1)),(88,vT),(87,vT)] (zb (zj (some 90) (Instr.loadAt 24 (vP w4.heap.size 1)) (.slice none 0 0) (zo (hBw6.cell rfl)) ?_))
   refine zd 4 [(94,vT),(93,vT),(92,vT),(91,(vI 0))] ?_
   have hK1:=(((((((((hg0.ext hE1)).ext hE2)).ext hEw4)).ext hEw5)).chg hCw6 (fun hs=>by have h:_=_:=hs;omega))
   have hK2:=(((((((((hg1.ext hE1)).ext hE2)).ext hEw4)).ext hEw5)).chg hCw6 (fun hs=>by have h:_=_:=hs;omega))
   have hK3:=(((((((((hg2.ext hE1)).ext hE2)).ext hEw4)).ext hEw5)).chg hCw6 (fun hs=>by have h:_=_:=hs;omega))
   have hK4:=(((((((((hg3.ext hE1)).ext hE2)).ext hEw4)).ext hEw5)).chg hCw6 (fun hs=>by have h:_=_:=hs;omega))
   refine zb (zi (some 95) (zmt _ hK1 hK2 hK3 hK4) ?_)
   rintro _ w7 ⟨rfl,hEw7⟩
   have hzw7:=hEw7.size
   refine zd 2 [(6,vT),(96,vT)] (zg (zc (zx (zu (zB vT ?_)))))
   have hX1:Ext w w7:=((Ext.own (((hE1.trans hE2).trans hEw4).trans hEw5) hCw6 (by omega)).trans hEw7)
   exact ⟨rfl,hX1⟩
set_option maxHeartbeats 4000000 in
theorem zv4 (n:Nat) {lo_l hi_l:Nat} {a_l:Option Addr} {n_l c_l:Nat} {l:List Rec} {lo_z hi_z:Nat} {a_z:Option Addr} {n_z c_z:Nat} {z:List Int} (w:World) (h_l:Ms zE 35 lo_l hi_l w a_l n_l c_l l) (h_z:Es (iv .i64) lo_z hi_z w a_z n_z c_z z) (hp0:n_l≤30) (hp1:n_z≤20) (hp2:1≤n) (hp3:n≤4096) (hp4:n_l=n) (hp5:n_z≠tot n) (hg0:Gl 0 [vI 45,vI 33] w) (hg1:Gl 2 (w8C za2) w) (hg2:Gl 3 (zR kA) w) (hg3:Gl 1 [.iface 199 (.agg #[.pointer (some ⟨4,99,none⟩)])] w):
  Calls Tryz.prog 4 #[(vI n),(.slice a_l n_l c_l),(.slice a_z n_z c_z)] w (Ret fun r w'=>r=vT∧Ext w w'):=by
 refine zL (n:=107) (σ:= [(0,(vI n)),(1,(.slice a_l n_l c_l)),(2,(.slice a_z n_z c_z))]) Tryz.func4 rfl ?_
 replace h_l:=h_l.now;have hle_l:=h_l.le
 replace h_z:=h_z.now;have hle_z:=h_z.le
 have hgl0:=hg0.lt
 have hgl1:=hg1.lt
 have hgl2:=hg2.lt
 have hgl3:=hg3.lt
 have hlen:=h_l.len_eq;have hle:=h_l.le;have hlz:=h_z.len_eq;have hlez:=h_z.le
 have h5:=zaz n
 have hts:=zbN hp3
 refine zf (ze (zd 1 [(6,vF)] (zg (zc (zf (zf (ze (zd 2 [(13,(vI n_l)),(12,(.slice a_l n_l c_l))] (zb (zat (some 14) (decide (((n_l:Nat):Int)>((30:Nat):Int))) false (zce (by omega)) ?_))))))))))
 refine zd 3 [(17,(vI n_z)),(16,(.slice a_z n_z c_z)),(15,vF)] (zb (zat (some 18) (decide (((n_z:Nat):Int)>((20:Nat):Int))) false (zce (by omega)) ?_))
 refine zd 1 [(19,vF)] (zg (zc (zr (zy (zc (zf (ze (zd 1 [(7,(vI 0))] (zg ?_)))))))))
 refine zc (zf (zf (ze (zd 2 [(22,(vI n_l)),(21,(.slice a_l n_l c_l))] (zb (zet (some 23) .i64 (IntKind.i64.wrap (((n_l:Nat):Int)-((1:Nat):Int))) ((n_l:Int)-1-((0:Nat):Int)) (zG (by omega) (by omega) (by omega)) ?_))))))
 refine zd 1 [(8,(.int .i64 ((n_l:Int)-1-((0:Nat):Int))))] (zg (zc (zI (zah (X:=Nat×Nat) (fun ⟨k,m⟩=> [(7,(vI m)),(8,(.int .i64 ((n_l:Int)-1-(k:Int))))]) [24,25,26,27,28,29,30,31,32,33,34,35] (fun ⟨k,m⟩ w1=>k≤n_l∧m=wL (fun i=>zaB (l.getD i Rec.zero)) n_l k∧Ext w w1) (fun ⟨k,m⟩=>n_l-k) (0,0) (by kernel_rfl) ⟨Nat.zero_le _,rfl,Ext.refl _⟩ ?_))))
 rintro ⟨k,m⟩ dw1 w1 ⟨hk,hm,hE1⟩
 have hz1:=hE1.size
 refine zf (zf (ze (zd 1 [(24,(.int .i64 ((n_l:Int)-1-(k:Int))))] (zb (zO (some 25) (decide (((n_l:Int)-1-(k:Int))≥((0:Nat):Int))) (fun hc25=> ?_) (fun hc25=> ?_))))))
 ·replace hc25:((n_l:Int)-1-(k:Int))≥((0:Nat):Int):=by have:=zak hc25;omega
  have hcl:=zdf (l.getD (n_l-1-k) Rec.zero)
  dsimp only
  rw [show (n_l:Int)-1-(k:Int)=((n_l-1-k:Nat):Int) from by omega]
  refine zg (zc (zF (zy (zc (zf (zI (zf (ze (zd 2 [(29,(vI (n_l-1-k))),(28,(.slice a_l n_l c_l))] ?_)))))))))
  obtain ⟨b1,o1,rfl⟩:=h_l.addr (by omega) (by decide)
  refine zb (zj (some 30) (Instr.indexAt 39 (.slice (pA b1 o1) n_l c_l) (vI (n_l-1-k))) (vP b1 (o1+(n_l-1-k)*35)) (zap (E:=33) (sz:=35) (by omega)) ?_)
  refine zb (zj (some 31) (Instr.loadAt 33 (vP b1 (o1+(n_l-1-k)*35))) (vA (zE (l.getD (n_l-1-k) Rec.zero))) (zD (vs:=zE (l.getD (n_l-1-k) Rec.zero)) ((h_l.ext hE1).at Rec.zero (by omega)) (by rw [zY];kernel_rfl)) ?_)
  refine zb (zj (some 32) (Instr.build 42 #[(0,(vA (zE (l.getD (n_l-1-k) Rec.zero))))]) (vA (r4C (R4.zero.set 0 (l.getD (n_l-1-k) Rec.zero)))) (zjo (E:=33) (l.getD (n_l-1-k) Rec.zero)) ?_)
  refine zb (zj (some 33) (Instr.build 47 #[(2,(vA (r4C (R4.zero.set 0 (l.getD (n_l-1-k) Rec.zero)))))]) (vA (zK (⟨0,0,(R4.zero.set 0 (l.getD (n_l-1-k) Rec.zero)),E4.zero,by decide,by decide⟩))) (zhR (R4.zero.set 0 (l.getD (n_l-1-k) Rec.zero))) ?_)
  refine zb (zi (some 34) (zvF (⟨0,0,(R4.zero.set 0 (l.getD (n_l-1-k) Rec.zero)),E4.zero,by decide,by decide⟩) _) ?_)
  rintro _ w2 ⟨rfl,hEw2⟩
  have hzw2:=hEw2.size
  rw [show zar (⟨0,0,(R4.zero.set 0 (l.getD (n_l-1-k) Rec.zero)),E4.zero,by decide,by decide⟩)=zaB (l.getD (n_l-1-k) Rec.zero) from zs6 _]
  refine zb (zO (some 35) ((((zaB (l.getD (n_l-1-k) Rec.zero):Nat):Int) !=((0:Nat):Int))) (fun hc35=> ?_) (fun hc35=> ?_))
  ·replace hc35:¬(zaB (l.getD (n_l-1-k) Rec.zero)=0):=by have:=zbY hc35;omega
   refine zg (zc (zF (ze (zd 1 [(7,(vI 1))] (zg (zp (zc (ze (zd 1 [(26,(vI (n_l-1-k)))] ?_)))))))))
   refine zb (zet (some 27) .i64 (IntKind.i64.wrap (((n_l-1-k:Nat):Int)-((1:Nat):Int))) ((n_l:Int)-1-((k+1:Nat):Int)) (zG (by omega) (by omega) (by omega)) ?_)
   refine zd 1 [(8,(.int .i64 ((n_l:Int)-1-((k+1:Nat):Int))))] (zg (zC (zS (k+1,1) ?_ ?_)))
   ·exact ⟨by omega,by rw [wL,if_neg hc35],(hE1.trans hEw2)⟩
   ·first | omega |(dsimp only;omega)
  ·replace hc35:zaB (l.getD (n_l-1-k) Rec.zero)=0:=by have:=zbX hc35;omega
   refine zg (zc (zr (zy (zp (zc (ze (zd 1 [(26,(vI (n_l-1-k)))] (zb (zet (some 27) .i64 (IntKind.i64.wrap (((n_l-1-k:Nat):Int)-((1:Nat):Int))) ((n_l:Int)-1-((k+1:Nat):Int)) (zG (by omega) (by omega) (by omega)) ?_)))))))))
   refine zd 1 [(8,(.int .i64 ((n_l:Int)-1-((k+1:Nat):Int))))] (zg (zC (zS (k+1,m) ?_ ?_)))
   ·exact ⟨by omega,by rw [wL,if_pos hc35];exact hm,(hE1.trans hEw2)⟩
   ·first | omega |(dsimp only;omega)
 ·replace hc25:¬(((n_l:Int)-1-(k:Int))≥((0:Nat):Int)):=by have:=zal hc25;omega
  obtain rfl:n_l=k:=by omega
  refine zg (zc (zr (zaf (zH (zH (zT (zc (zf (zf ?_)))))))))
  refine ze (zd 1 [(36,(vI n))] (zb (zat (some 37) (decide (((n:Nat):Int)<((1:Nat):Int))) false (zce (by omega)) ?_)))
  refine zd 2 [(39,(vI n)),(38,vF)] (zb (zat (some 40) (decide (((n:Nat):Int)>((4096:Nat):Int))) false (zce (by omega)) ?_))
  refine zd 5 [(45,(vI n)),(44,(vI n_l)),(43,(.slice a_l n_l c_l)),(42,vF),(41,vF)] (zb (zat (some 46) (((n_l:Nat):Int) !=((n:Nat):Int)) false (zaL (by omega)) ?_))
  refine zd 5 [(51,(vI n)),(50,(vI n_z)),(49,(.slice a_z n_z c_z)),(48,vF),(47,vF)] (zb (zi (some 52) (zoc n _ (by omega) (by omega)) ?_))
  rintro _ _ ⟨rfl,rfl⟩
  refine zb (zat (some 53) (((n_z:Nat):Int) !=((tot n:Nat):Int)) true (zcq (by omega)) ?_)
  refine zd 1 [(54,vT)] (zg (zc (zF (ze (zd 1 [(7,(vI 1))] (zg (zc (zf (zf ?_)))))))))
  refine ze (zd 1 [(9,(vI 0))] (zg (zc (zI (zah (X:=Nat×Nat) (fun ⟨k,m2⟩=> [(7,(vI m2)),(9,(vI k))]) [55,56,57,58,59,60,61,62,63,64,65,66,67,68,69,70,71,72] (fun ⟨k,m2⟩ w3=>k≤n_z∧m2=wU (fun i=>znE (z.getD i 0)) 1 k∧Ext w1 w3) (fun ⟨k,m2⟩=>n_z-k) (0,1) (by kernel_rfl) ⟨Nat.zero_le _,rfl,Ext.refl _⟩ ?_)))))
  rintro ⟨k,m2⟩ dw3 w3 ⟨hk2,hm2,hE2⟩
  have hz2:=hE2.size
  refine zf (zf (ze (zd 3 [(57,(vI n_z)),(56,(.slice a_z n_z c_z)),(55,(vI k))] (zb (zO (some 58) (decide (((k:Nat):Int)<((n_z:Nat):Int))) (fun hc58=> ?_) (fun hc58=> ?_))))))
  ·replace hc58:k<n_z:=by have:=zak hc58;omega
   refine zg (zc (zF (zy (zc (zf (zI (zf (ze (zd 2 [(62,(vI k)),(61,(.slice a_z n_z c_z))] ?_)))))))))
   obtain ⟨b2,o2,rfl⟩:=h_z.addr (by omega)
   refine zb (zj (some 63) (Instr.indexAt 40 (.slice (pA b2 o2) n_z c_z) (vI k)) (vP b2 (o2+k*1)) (zap (E:=3) (sz:=1) (by omega)) ?_)
   refine zb (zj (some 64) (Instr.loadAt 3 (vP b2 (o2+k*1))) (.int .i64 (gz z k)) (zo ((((h_z.ext hE1)).ext hE2).celli (by omega))) ?_)
   refine zb (zO (some 65) ((gz z k !=((0:Nat):Int))) (fun hc65=> ?_) (fun hc65=> ?_))
   ·replace hc65:¬(gz z k=((0:Nat):Int)):=by have:=zbY hc65;omega
    refine zd 3 [(68,(vI k)),(67,(.slice (pA b2 o2) n_z c_z)),(66,vT)] (zb (zj (some 69) (Instr.indexAt 40 (.slice (pA b2 o2) n_z c_z) (vI k)) (vP b2 (o2+k*1)) (zap (E:=3) (sz:=1) (by omega)) ?_))
    refine zb (zj (some 70) (Instr.loadAt 3 (vP b2 (o2+k*1))) (.int .i64 (gz z k)) (zo ((((h_z.ext hE1)).ext hE2).celli (by omega))) ?_)
    refine zb (zO (some 71) ((gz z k !=((1:Nat):Int))) (fun hc71=> ?_) (fun hc71=> ?_))
    ·replace hc71:¬(gz z k=((1:Nat):Int)):=by have:=zbY hc71;omega
     refine zd 1 [(72,vT)] (zg (zc (zF (ze (zd 1 [(7,(vI 1))] (zg (zp (zc (ze ?_)))))))))
     refine zd 1 [(59,(vI k))] (zb (zv (some 60) .i64 (IntKind.i64.wrap (((k:Nat):Int)+((1:Nat):Int))) (k+1) (zG (by omega) (by omega) (by omega)) ?_))
     refine zd 1 [(9,(vI (k+1)))] (zg (zC (zS (k+1,1) ?_ ?_)))
     ·exact ⟨by omega,by rw [wU,if_neg (fun hh=>by have h7:gz z k=0∨gz z k=1:=zmH.1 hh;omega)],hE2⟩
     ·first | omega |(dsimp only;omega)
    ·replace hc71:gz z k=((1:Nat):Int):=by have:=zbX hc71;omega
     refine zd 1 [(72,vF)] (zg (zc (zr (zy (zp (zc (ze (zd 1 [(59,(vI k))] (zb (zv (some 60) .i64 (IntKind.i64.wrap (((k:Nat):Int)+((1:Nat):Int))) (k+1) (zG (by omega) (by omega) (by omega)) ?_))))))))))
     refine zd 1 [(9,(vI (k+1)))] (zg (zC (zS (k+1,m2) ?_ ?_)))
     ·exact ⟨by omega,by rw [wU,if_pos (show znE (z.getD k 0)=0 from zmH.2 (show gz z k=0∨gz z k=1 by omega))];exact hm2,hE2⟩
     ·first | omega |(dsimp only;omega)
   ·replace hc65:gz z k=((0:Nat):Int):=by have:=zbX hc65;omega
    refine zd 7 [(72,vF),(71,undef),(70,undef),(69,undef),(68,undef),(67,undef),(66,vF)] (zg (zc (zr (zy (zp (zc (ze (zd 1 [(59,(vI k))] (zb (zv (some 60) .i64 (IntKind.i64.wrap (((k:Nat):Int)+((1:Nat):Int))) (k+1) (zG (by omega) (by omega) (by omega)) ?_))))))))))
    refine zd 1 [(9,(vI (k+1)))] (zg (zC (zS (k+1,m2) ?_ ?_)))
    ·exact ⟨by omega,by rw [wU,if_pos (show znE (z.getD k 0)=0 from zmH.2 (show gz z k=0∨gz z k=1 by omega))];exact hm2,hE2⟩
    ·first | omega |(dsimp only;omega)
  ·replace hc58:¬(k<n_z):=by have:=zal hc58;omega
   obtain rfl:n_z=k:=by omega
   have hw1:=ztg hm2
   refine zg (zc (zr (zaf (zH (zH (zT (zc (zf (ze ?_)))))))))
   refine zd 3 [(76,(.slice a_z n_z c_z)),(75,(.slice a_l n_l c_l)),(74,(vI n))] (zb (zi (some 77) (zvG ((n:Nat):Int) _ (((h_l.ext hE1)).ext hE2) (((h_z.ext hE1)).ext hE2) (fun hh=>hp5 (by have:=hh.2.2.2.1;rwa [Int.toNat_natCast] at this))) ?_))
   rintro _ w4 ⟨rfl,hEw4⟩
   have hzw4:=hEw4.size
   refine zd 3 [(79,(vI 1)),(78,(vA [(vI 0),(.slice none 0 0)])),(73,(.tuple #[(vA [(vI 0),(.slice none 0 0)]),(vI 1)]))] (zb (zt (some 10) (Instr.alloc 50 true (.tuple #[])) (vP w4.heap.size 0) ([(vI 0),(.slice none 0 0)]) 50 ?_))
   intro w5 hBw5 hEw5
   have hzw5:=hEw5.size;have hlw5:=hBw5.lt
   refine zb (zz 50 w4.heap.size 0 50 (vA [(vI 0),(.slice none 0 0)]) ([(vI 0),(.slice none 0 0)]) ([(vI 0),(.slice none 0 0)]) hBw5 (by kernel_rfl) (by first | decide |(simp;done)|(simp;omega)) (by simp [Value.oneCell']) ?_)
   intro w6 hBw6 hCw6
   have hzw6:=hCw6.size
   rw [zm _ _ (by kernel_rfl)] at hBw6
   refine zd 1 [(11,(vI 1))] (zg (zc (zf (zf (ze (zd 2 [(81,(vI m2)),(80,(vI 1))] (zb (zat (some 82) (((1:Nat):Int) !=((m2:Nat):Int)) false (zaL (by omega)) ?_))))))))
   refine zg (zc (zr (zy (zc (zf (zf (ze (zd 1 [(83,(vI 1))] (zb (zat (some 84) (((1:Nat):Int) !=((0:Nat):Int)) true (zcq (by omega)) ?_))))))))))
   refine zg (zc (zF (zf (ze (zd 1 [(85,(vP w4.heap.size 0))] (zb (zj (some 86) (Instr.loadAt 3 (vP w4.heap.size 0)) (vI 0) (zo (hBw6.cell rfl)) ?_)))))))
   refine zd 3 [(89,(vP w4.heap.size 1)),(88,vT),(87,vT)] (zb (zj (some 90) (Instr.loadAt 24 (vP w4.heap.size 1)) (.slice none 0 0) (zo (hBw6.cell rfl)) ?_))
   refine zd 4 [(94,vT),(93,vT),(92,vT),(91,(vI 0))] ?_
   have hK1:=(((((((((hg0.ext hE1)).ext hE2)).ext hEw4)).ext hEw5)).chg hCw6 (fun hs=>by have h:_=_:=hs;omega))
   have hK2:=(((((((((hg1.ext hE1)).ext hE2)).ext hEw4)).ext hEw5)).chg hCw6 (fun hs=>by have h:_=_:=hs;omega))
   have hK3:=(((((((((hg2.ext hE1)).ext hE2)).ext hEw4)).ext hEw5)).chg hCw6 (fun hs=>by have h:_=_:=hs;omega))
   have hK4:=(((((((((hg3.ext hE1)).ext hE2)).ext hEw4)).ext hEw5)).chg hCw6 (fun hs=>by have h:_=_:=hs;omega))
   refine zb (zi (some 95) (zmt _ hK1 hK2 hK3 hK4) ?_)
   rintro _ w7 ⟨rfl,hEw7⟩
   have hzw7:=hEw7.size
   refine zd 2 [(6,vT),(96,vT)] (zg (zc (zx (zu (zB vT ?_)))))
   have hX1:Ext w w7:=((Ext.own (((hE1.trans hE2).trans hEw4).trans hEw5) hCw6 (by omega)).trans hEw7)
   exact ⟨rfl,hX1⟩
theorem zv8 (n:Int) {lo_l hi_l:Nat} {a_l:Option Addr} {n_l c_l:Nat} {l:List Rec} {lo_z hi_z:Nat} {a_z:Option Addr} {n_z c_z:Nat} {z:List Int} (w:World) (h_l:Ms zE 35 lo_l hi_l w a_l n_l c_l l) (h_z:Es (iv .i64) lo_z hi_z w a_z n_z c_z z) (hp0:30<n_l∨20<n_z) (hg0:Gl 0 [vI 45,vI 33] w) (hg1:Gl 2 (w8C za2) w) (hg2:Gl 3 (zR kA) w) (hg3:Gl 1 [.iface 199 (.agg #[.pointer (some ⟨4,99,none⟩)])] w):
  Calls Tryz.prog 4 #[(.int .i64 n),(.slice a_l n_l c_l),(.slice a_z n_z c_z)] w (Ret fun r w'=>r=vT∧Ext w w'):=by
 refine zL (n:=107) (σ:= [(0,(.int .i64 n)),(1,(.slice a_l n_l c_l)),(2,(.slice a_z n_z c_z))]) Tryz.func4 rfl ?_
 replace h_l:=h_l.now;have hle_l:=h_l.le
 replace h_z:=h_z.now;have hle_z:=h_z.le
 have hgl0:=hg0.lt
 have hgl1:=hg1.lt
 have hgl2:=hg2.lt
 have hgl3:=hg3.lt
 have hlen:=h_l.len_eq;have hle:=h_l.le;have hlz:=h_z.len_eq;have hlez:=h_z.le
 refine zf (ze (zd 1 [(6,vF)] (zg (zc (zf (zf (ze (zd 2 [(13,(vI n_l)),(12,(.slice a_l n_l c_l))] (zb (zO (some 14) (decide (((n_l:Nat):Int)>((30:Nat):Int))) (fun hc14=> ?_) (fun hc14=> ?_)))))))))))
 ·replace hc14:n_l>30:=by have:=zak hc14;omega
  refine zd 5 [(19,vT),(18,undef),(17,undef),(16,undef),(15,vT)] (zg (zc (zF (zf (ze (zb (zi (some 20) (zmt _ hg0 hg1 hg2 hg3) ?_)))))))
  rintro _ w1 ⟨rfl,hEw1⟩
  have hzw1:=hEw1.size
  exact zd 1 [(6,vT)] (zg (zc (zx (zu (zB vT (⟨rfl,hEw1⟩))))))
 ·replace hc14:¬(n_l>30):=by have:=zal hc14;omega
  refine zd 3 [(17,(vI n_z)),(16,(.slice a_z n_z c_z)),(15,vF)] (zb (zat (some 18) (decide (((n_z:Nat):Int)>((20:Nat):Int))) true (zeu (by omega)) ?_))
  refine zd 1 [(19,vT)] (zg (zc (zF (zf (ze (zb (zi (some 20) (zmt _ hg0 hg1 hg2 hg3) ?_)))))))
  rintro _ w2 ⟨rfl,hEw2⟩
  have hzw2:=hEw2.size
  exact zd 1 [(6,vT)] (zg (zc (zx (zu (zB vT (⟨rfl,hEw2⟩))))))
theorem zvL (n:Int) {lo_l hi_l:Nat} {a_l:Option Addr} {n_l c_l:Nat} {l:List Rec} {lo_z hi_z:Nat} {a_z:Option Addr} {n_z c_z:Nat} {z:List Int} (w:World) (h_l:Ms zE 35 lo_l hi_l w a_l n_l c_l l) (h_z:Es (iv .i64) lo_z hi_z w a_z n_z c_z z) (hg0:Gl 0 [vI 45,vI 33] w) (hg1:Gl 2 (w8C za2) w) (hg2:Gl 3 (zR kA) w) (hg3:Gl 1 [.iface 199 (.agg #[.pointer (some ⟨4,99,none⟩)])] w):
  Calls Tryz.prog 4 #[(.int .i64 n),(.slice a_l n_l c_l),(.slice a_z n_z c_z)] w (Ret fun r w'=>r=vT∧Ext w w'):=by
 by_cases h0:30<n_l∨20<n_z
 ·exact zv8 n w h_l h_z h0 hg0 hg1 hg2 hg3
 by_cases h1:n<1
 ·exact zv6 n w h_l h_z (by omega) (by omega) h1 hg0 hg1 hg2 hg3
 by_cases h2:4096<n
 ·exact zv9 n w h_l h_z (by omega) (by omega) h2 hg0 hg1 hg2 hg3
 obtain ⟨n,rfl⟩:=Int.eq_ofNat_of_zero_le (show 0≤n by omega)
 by_cases h3:n_l=n
 ·by_cases h4:n_z=tot n
  ·by_cases h5:(∀i,z.getD i 0=0∨z.getD i 0=1)∧∀i,i<l.length→zaB (l.getD i Rec.zero)=0
   ·exact zwa n w h_l h_z (by omega) (by omega) h3 (by omega) (by omega) h4 h5.1 h5.2 hg0 hg1 hg2 hg3
   ·exact zv7 n w h_l h_z (by omega) (by omega) h3 (by omega) (by omega) h4 h5 hg0 hg1 hg2 hg3
  ·exact zv4 n w h_l h_z (by omega) (by omega) (by omega) (by omega) h3 h4 hg0 hg1 hg2 hg3
 ·exact zv5 n w h_l h_z (by omega) (by omega) (by omega) (by omega) h3 hg0 hg1 hg2 hg3
end Go.Proofs.YtgdpdnokcnhgnaaGreatDoor
namespace Go.Cs
open Go Go.ChangeShapes Go.WideShapes Go.ChangeAt Go.RowKit
section
variable {H:Type} {enc:TypeId×Value→H} {P:Program} {W:World} {base:Nat} {sp:Nat→Bool} {held:Bool}
def Rd (enc:TypeId×Value→H) (P:Program) (W:World) (base:Nat) (sp:Nat→Bool) (held:Bool) (t:TypeId) (cs:List Value):Prop:=∃fuel r,DataW.trod enc P W base sp held fuel t cs=some r
theorem zek {α β:Type} {f:α→Option β}:∀{xs:List α} {ys:List β},xs.mapM f=some ys→∀x∈xs,∃y,f x=some y
 | [],_,_,x,hx=>by simp at hx
 | a::xs,ys,h,x,hx=>by
  simp only [List.mapM_cons,Option.bind_eq_bind,Option.bind_eq_some_iff] at h
  obtain ⟨y,hy,zs,hz,_⟩:=h
  rcases List.mem_cons.1 hx with rfl | hx
  ·exact ⟨y,hy⟩
  ·exact zek hz x hx
theorem zcR {t:TypeId} {k:IntKind} {cs:List Value} (h:Rd enc P W base sp held t cs) (ht:P.underlying t=some (.int k)):∃n,cs= [.int k n]∧(Lit.int k n).wf=true:=by
 obtain ⟨fuel,r,hf⟩:=h
 obtain ⟨n,h1,_,h3⟩:=DataW.trod_int ht hf
 exact ⟨n,h1,h3⟩
theorem zbT {t:TypeId} {cs:List Value} {x:Bool×TypeId×Nat} {xs:List (Bool×TypeId×Nat)} (h:Rd enc P W base sp held t cs) (hF:zam P t=x::xs):
  cs.length=P.cellsOf t∧∀y∈x::xs,Rd enc P W base sp held y.2.1 ((cs.drop y.2.2).take (P.cellsOf y.2.1)):=by
 obtain ⟨fuel,r,hf⟩:=h
 have hu:=zca ⟨x,xs,hF⟩
 cases fuel with
 | zero=>simp [DataW.trod] at hf
 | succ fuel=>
  rw [DataW.trod.eq_def] at hf
  simp only [hu] at hf
  split at hf
  ·next hl=>
   refine ⟨hl,fun y hy=> ?_⟩
   simp only [Option.map_eq_some_iff] at hf
   obtain ⟨zs,hz,_⟩:=hf
   rw [←hF,zam,List.mem_map] at hy
   obtain ⟨f,hf1,rfl⟩:=hy
   obtain ⟨z,hz2⟩:=zek hz f hf1
   exact ⟨fuel,z,hz2⟩
  ·cases hf
theorem zc7 {t e:TypeId} {n:Nat} {cs:List Value} (h:Rd enc P W base sp held t cs) (hu:P.underlying t=some (.array n e)):
  cs.length=P.cellsOf t∧∀i,i<n→Rd enc P W base sp held e ((cs.drop (i*P.cellsOf e)).take (P.cellsOf e)):=by
 obtain ⟨fuel,r,hf⟩:=h
 cases fuel with
 | zero=>simp [DataW.trod] at hf
 | succ fuel=>
  rw [DataW.trod.eq_def] at hf
  simp only [hu] at hf
  split at hf
  ·next hl=>
   refine ⟨hl,fun i hi=> ?_⟩
   simp only [Option.map_eq_some_iff] at hf
   obtain ⟨zs,hz,_⟩:=hf
   obtain ⟨z,hz2⟩:=zek hz i (List.mem_range.2 hi)
   exact ⟨fuel,z,hz2⟩
  ·cases hf
theorem zjG {t e:TypeId} {cs:List Value} (h:Rd enc P W base sp held t cs) (hu:P.underlying t=some (.array 32 e)) (he:P.underlying e=some (.int .u8)) (h1:P.cellsOf e=1) (h32:P.cellsOf t=32):∃d:Dig,cs=zw d:=by
 obtain ⟨hl,hi⟩:=zc7 h hu
 rw [h32] at hl
 refine ⟨⟨cs.map (fun v=>match v with | .int _ n=>UInt8.ofNat n.toNat | _=>0),by simp [hl]⟩, ?_⟩
 refine List.ext_getElem (by simp [zw,hl]) (fun i h2 h3=> ?_)
 obtain ⟨n,hn,hw⟩:=zcR (hi i (by omega)) he
 rw [h1,Nat.mul_one] at hn
 have hg:cs[i]= .int .u8 n:=by
  have:=congrArg (fun z=>z[0]?) hn
  simp [List.getElem?_take,List.getElem?_drop,h2] at this
  exact this
 have hb:=bounds_u8 hw
 simp only [zw,u8s,List.getElem_map,hg]
 rw [UInt8.toNat_ofNat',Nat.mod_eq_of_lt (by omega)]
 congr 1;omega
theorem zbO {t:TypeId} {k:IntKind} {cs:List Value} (h:Rd enc P W base sp held t cs) (ht:P.underlying t=some (.int k)) (h0:∀n,(Lit.int k n).wf=true→0≤n∧n<2^k.bits):∃n:Nat,cs= [.int k (n:Int)]∧n<2^k.bits:=by
 obtain ⟨n,h1,h2⟩:=zcR h ht
 obtain ⟨h3,h4⟩:=h0 n h2
 obtain ⟨m,rfl⟩:=Int.eq_ofNat_of_zero_le h3
 exact ⟨m,h1,by exact_mod_cast h4⟩
theorem zao {α:Type} (cs:List α) (a b:Nat):(cs.drop a).take b++cs.drop (a+b)=cs.drop a:=by
 rw [←List.drop_drop,List.take_append_drop]
theorem w8 (n:Int) (h:(Lit.int .u8 n).wf=true):0≤n∧n<2^IntKind.u8.bits:=by have:=bounds_u8 h;exact ⟨by omega,by show n<2^8;omega⟩
theorem w32 (n:Int) (h:(Lit.int .u32 n).wf=true):0≤n∧n<2^IntKind.u32.bits:=by have:=bounds_u32 h;exact ⟨by omega,by show n<2^32;omega⟩
theorem w64 (n:Int) (h:(Lit.int .u64 n).wf=true):0≤n∧n<2^IntKind.u64.bits:=by have:=bounds_u64 h;exact ⟨by omega,by show n<2^64;omega⟩
theorem zqf {t t32 t64:TypeId} {cs:List Value} (h:Rd enc P W base sp held t cs) (hF:zam P t= [(true,t32,0),(true,t64,1)]) (h1:P.underlying t32=some (.int .u32)) (h2:P.underlying t64=some (.int .u64))
  (c1:P.cellsOf t32=1) (c2:P.cellsOf t64=1) (c:P.cellsOf t=2):∃x:Non,cs=zbF x:=by
 obtain ⟨hl,hf⟩:=zbT h hF
 obtain ⟨a,ha,ha2⟩:=zbO (hf (true,t32,0) (by simp)) h1 w32
 obtain ⟨b,hb,hb2⟩:=zbO (hf (true,t64,1) (by simp)) h2 w64
 simp only [c1,c2] at ha hb
 refine ⟨⟨a,b,ha2,hb2⟩, ?_⟩
 have e1:=zao cs 0 1
 have e2:=zao cs 1 1
 rw [ha] at e1;rw [hb,List.drop_eq_nil_of_le (by omega)] at e2
 rw [List.drop_zero] at e1
 rw [←e1,←e2];rfl
theorem zmj {t t8 tn td e t32 t64:TypeId} {cs:List Value} (h:Rd enc P W base sp held t cs) (hF:zam P t= [(true,t8,0),(true,tn,1),(true,td,3)]) (h8:P.underlying t8=some (.int .u8)) (c8:P.cellsOf t8=1)
  (hFn:zam P tn= [(true,t32,0),(true,t64,1)]) (h1:P.underlying t32=some (.int .u32)) (h2:P.underlying t64=some (.int .u64)) (c1:P.cellsOf t32=1) (c2:P.cellsOf t64=1) (cn:P.cellsOf tn=2)
  (hu:P.underlying td=some (.array 32 e)) (he:P.underlying e=some (.int .u8)) (ce:P.cellsOf e=1) (cd:P.cellsOf td=32) (c:P.cellsOf t=35):∃x:Rec,cs=zE x:=by
 obtain ⟨hl,hf⟩:=zbT h hF
 obtain ⟨a,ha,ha2⟩:=zbO (hf (true,t8,0) (by simp)) h8 w8
 obtain ⟨x,hx⟩:=zqf (hf (true,tn,1) (by simp)) hFn h1 h2 c1 c2 cn
 obtain ⟨d,hd⟩:=zjG (hf (true,td,3) (by simp)) hu he ce cd
 simp only [c8,cn,cd] at ha hx hd
 refine ⟨⟨a,x,d,ha2⟩, ?_⟩
 have e1:=zao cs 0 1
 have e2:=zao cs 1 2
 have e3:=zao cs 3 32
 rw [ha] at e1;rw [hx] at e2;rw [hd,List.drop_eq_nil_of_le (by omega)] at e3
 rw [List.drop_zero] at e1
 rw [←e1,←e2,←e3];simp [zE,zbF]
theorem w16 (n:Int) (h:(Lit.int .u16 n).wf=true):0≤n∧n<2^IntKind.u16.bits:=by
 simp [Lit.wf,IntKind.min,IntKind.max,IntKind.signed,IntKind.bits] at h
 exact ⟨by omega,by show n<2^16;omega⟩
end
end Go.Cs
namespace Go.Cs
open Go Go.ChangeShapes Go.WideShapes Go.ChangeAt Go.RowKit
theorem zgJ {α:Type} {f:α→List Value} {sz:Nat} (hf:∀x,(f x).length=sz) (d:α):∀(l:List α) (k:Nat),0<sz→(l.flatMap f)[k]? =if k<l.length*sz then (f (l.getD (k/sz) d))[k%sz]? else none
 | [],k,hz=>by simp
 | x::l,k,hz=>by
  rw [List.flatMap_cons]
  rcases Nat.lt_or_ge k sz with h | h
  ·rw [List.getElem?_append_left (by rw [hf];exact h),Nat.div_eq_of_lt h,Nat.mod_eq_of_lt h,if_pos]
   ·simp
   ·rw [List.length_cons,Nat.add_mul,Nat.one_mul];omega
  ·rw [List.getElem?_append_right (by rw [hf];exact h),hf,zgJ hf d l (k-sz) hz]
   have e1:k/sz=(k-sz)/sz+1:=by rw [←Nat.add_div_right _ hz,Nat.sub_add_cancel h]
   have e2:k%sz=(k-sz)%sz:=by rw [←Nat.mod_eq_sub_mod h]
   rw [e1,e2,List.getD_cons_succ,List.length_cons,Nat.add_mul,Nat.one_mul]
   by_cases h2:k<l.length*sz+sz
   ·rw [if_pos (by omega),if_pos h2]
   ·rw [if_neg (by omega),if_neg h2]
section
variable {H:Type} {enc:TypeId×Value→H} {P:Program} {W:World} {base:Nat} {sp:Nat→Bool} {held:Bool}
theorem zfB {α:Type} {f:α→List Value} {t e:TypeId} {sz:Nat} {cs:List Value} (hx:∀us,Rd enc P W base sp held e us→∃x,us=f x) (hf:∀x,(f x).length=sz) (h:Rd enc P W base sp held t cs) (hu:P.underlying t=some (.slice e)) (he:P.cellsOf e=sz) (hz:0<sz):
  ∃a len cap l,cs= [.slice a len cap]∧Ms f sz 0 W.heap.size W a len cap l:=by
 obtain ⟨fuel,r,hr⟩:=h
 rcases Go.Deep.open_slice hu hr with ⟨rfl,_⟩|⟨a,len,cap,m,n,D,Pl,rfl,hb,hl,hm,hmm,_,hi⟩
 ·exact ⟨none,0,0, [],rfl,Ms.nil f _ _ _ hf⟩
 ·have hlm:len≤m:=by subst hmm;split<;>omega
  rw [he] at hi
  rcases Nat.eq_zero_or_pos len with h0 | h0
  ·subst h0
   exact ⟨some a,0,cap, [],rfl,⟨⟨hl,hm, .inl rfl⟩,rfl,hf⟩⟩
  ·have one:∀i,i<len→∃x,W.cells? base (a.add (i*sz)) sz=some (f x):=fun i hlt=>by
    obtain ⟨cs',h1,h2⟩:=hi i (by omega)
    obtain ⟨x,rfl⟩:=hx cs' ⟨n,_,h2⟩
    exact ⟨x,h1⟩
   obtain ⟨x0,hx0⟩:=one 0 h0
   haveI:Inhabited α:=⟨x0⟩
   obtain ⟨g,hg⟩:=Go.Deep.choose_lt one
   have hsp:a.spot=none∧a.block<W.heap.size:=by
    have h3:=(World.cells?_some hx0).2.2 0 hz
    rw [Nat.zero_mul] at h3
    have e0:(a.add 0).add 0=a:=by simp [Addr.add]
    rw [e0,List.getElem?_eq_getElem (by rw [hf];exact hz)] at h3
    refine ⟨?_,World.block_lt_of_cell? W a h3⟩
    cases hs:a.spot with
    | none=>rfl
    | some k=>
     exfalso
     have h4:=(World.cells?_some (hg 0 h0)).2.2
     simp only [World.cell?,hs] at h3
     split at h3<;>simp at h3
   obtain ⟨b,o,s⟩:=a
   simp only at hsp
   obtain ⟨rfl,hlt⟩:=hsp
   refine ⟨_,len,cap,(List.range len).map g,rfl,⟨hl,hm, .inr ⟨rfl,Nat.zero_le _,hlt,hlt,fun k v hk=> ?_⟩⟩,by simp,hf⟩
   rw [zgJ hf x0 _ k hz] at hk
   simp only [List.length_map,List.length_range] at hk
   split at hk
   ·next hks=>
    have hq:k/sz<len:=Nat.div_lt_of_lt_mul (by rw [Nat.mul_comm];exact hks)
    have hg1:((List.range len).map g).getD (k/sz) x0=g (k/sz):=by simp [List.getD,hq]
    rw [hg1] at hk
    have h5:=(World.cells?_some (hg (k/sz) hq)).2.2 (k%sz) (Nat.mod_lt _ hz)
    rw [hk,Addr.add_lit,Addr.add_lit] at h5
    rw [←h5]
    have:=Nat.div_add_mod k sz
    rw [Nat.mul_comm] at this
    simp only [Nat.add_assoc,this]
   ·cases hk
end
end Go.Cs
namespace Go.Cs
open Go Go.ChangeShapes Go.WideShapes Go.ChangeAt Go.RowKit
section
variable {H:Type} {enc:TypeId×Value→H} {P:Program} {W:World} {base:Nat} {sp:Nat→Bool} {held:Bool}
theorem ze7 {t e:TypeId} {k:IntKind} {fuel n:Nat} {cs:List Value} {p:List MemPlace} {ns:List Int} (h:DataW.trod enc P W base sp held fuel t cs=some (.agg (ns.map fun z=> .lit (.int k z)),p)) (hu:P.underlying t=some (.array n e)) (he:P.underlying e=some (.int k)) (ce:P.cellsOf e=1) (ct:P.cellsOf t=n):
  cs=ns.map fun z=> .int k z:=by
 obtain ⟨xs,m,rfl,hx,hl,hn,hi⟩:=DataW.trod_array hu h
 simp only [Prod.mk.injEq,DataW.agg.injEq] at hx
 have hlen:ns.length=n:=by rw [←hn,show xs.length=(xs.map fun x=>x.1).length from by simp,←hx.1,List.length_map]
 refine List.ext_getElem (by simp;omega) fun i h1 h2=> ?_
 have h3:i<xs.length:=by omega
 have h4:=hi i (by omega)
 rw [List.getElem?_eq_getElem h3,ce,Nat.mul_one] at h4
 obtain ⟨z,e1,e2,_⟩:=DataW.trod_int he h4
 have e3:cs[i]= .int k z:=by
  have:=congrArg (fun y=>y[0]?) e1
  simp [List.getElem?_take,List.getElem?_drop,h1] at this
  exact this
 have e4:=congrArg (fun y=>y[i]?) hx.1
 simp only [List.getElem?_map,List.getElem?_eq_getElem h3,e2,List.getElem?_eq_getElem (show i<ns.length by omega),Option.map_some,Option.some.injEq,DataW.lit.injEq,Lit.int.injEq,true_and] at e4
 rw [e3];simp [e4]
theorem ziR {name:String} {g:Nat} {cs:Array Value} {vs:List Value} (hg:P.globalNamed name=some g) (hv:W.var? P name=some cs) (hcs:cs.toList=vs):Gl g vs W:=by
 have hc:=fun i=>World.var?_cell hg hv i
 refine ⟨fun i v hi=> ?_, ?_⟩
 ·rw [Nat.zero_add,hc i,←hi,←hcs];simp
 ·simp only [World.var?,hg,Option.bind_some] at hv
  rcases Nat.lt_or_ge g W.heap.size with h | h
  ·exact h
  ·rw [Array.getElem?_eq_none h] at hv;simp at hv
end
end Go.Cs
namespace Go.Cs
open Go Go.ChangeShapes Go.WideShapes Go.ChangeAt Go.RowKit
theorem Es.of_ones {α:Type} {f:α→Value} {lo hi len cap:Nat} {w:World} {a:Option Addr} {l:List α} (h:Ms (fun x=> [f x]) 1 lo hi w a len cap l):Es f lo hi w a len cap l:=by
 have e:∀l:List α,(l.flatMap fun x=> [f x])=l.map f:=fun l=>by
  induction l with
  | nil=>rfl
  | cons x l ih=>rw [List.flatMap_cons,List.map_cons,ih];rfl
 exact ⟨by have:=h.sla;rwa [e l] at this,h.len_eq⟩
section
variable {H:Type} {enc:TypeId×Value→H} {P:Program} {W:World} {base:Nat} {sp:Nat→Bool} {held:Bool}
theorem zro {t:TypeId} {cs:List Value} (h:Rd enc P W base sp held t cs) (hu:P.underlying t=some (.int .i64)):∃x:Int,cs= [.int .i64 x]:=by
 obtain ⟨a,ha,_⟩:=zcR h hu
 exact ⟨a,ha⟩
theorem zua {t e:TypeId} {cs:List Value} (h:Rd enc P W base sp held t cs) (hu:P.underlying t=some (.slice e)) (he:P.underlying e=some (.int .i64)) (ce:P.cellsOf e=1):
  ∃a len cap l,cs= [.slice a len cap]∧Es (iv .i64) 0 W.heap.size W a len cap l:=by
 obtain ⟨a,len,cap,l,h1,h2⟩:=zfB (f:=fun x:Int=> [iv .i64 x]) (sz:=1) (fun us hq=>zro hq he) (fun _=>rfl) h hu ce (by decide)
 exact ⟨a,len,cap,l,h1,Es.of_ones h2⟩
end
end Go.Cs
namespace Go.Cs
open Go Go.ChangeShapes Go.WideShapes Go.ChangeAt Go.RowKit
section
variable {H:Type} {enc:TypeId×Value→H} {P:Program} {W:World} {base:Nat} {sp:Nat→Bool} {held:Bool}
end
end Go.Cs
