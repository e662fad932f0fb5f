/- Lemmas and walks: what each function does, by its own code. No condition beyond those of each statement. -/
import Derived.Test.YtgdpdnokcnhgnaaGreatDoorT1
import Derived.Test.YtgdpdnokcnhgnaaGreatDoorProg
set_option linter.all false
set_option linter.unusedVariables false
namespace Go.Proofs.YtgdpdnokcnhgnaaGreatDoor
open Go Go.RowKit Go.Cs
set_option maxRecDepth 100000
theorem zoz (v:Nat) (sz:Nat) (w:World) (hp0:sz≤8):
  Calls Tryz.prog 110 #[(vQ v),(vI sz)] w (Ret fun r w'=>∃a0,r=(.slice a0 sz sz)∧Bs w.heap.size w'.heap.size w' a0 sz sz (be v sz)∧Ext w w'):=by
 refine zL (n:=26) (σ:= [(0,(vQ v)),(1,(vI sz))]) Tryz.func110 rfl ?_
 refine zf (ze (zd 1 [(4,(.slice none 0 0))] (zg (zc (zf (ze (zd 1 [(7,(vI sz))] (zb (zcU (some 8) 57 5 1 1 sz sz .i64 .i64 (vB 0) (by omega) (by omega) (by omega) ?_)))))))))
 rw [zdZ _ rfl]
 intro w1 hBw1 hEw1
 have hzw1:=hEw1.size;have hlw1:=hBw1.lt
 have hSw1:Bs w.heap.size (w.heap.size+1) w1 (pA w.heap.size 0) sz sz (List.replicate sz 0):=Bs.of_blk hBw1 (zd8 _) (by simp) (Nat.le_refl _) (by simp only [maxLen];omega) (Nat.le_refl _) (Nat.lt_succ_self _)
 refine zd 1 [(5,(.slice (pA w.heap.size 0) sz sz))] (zg (zc (zf (zf (ze (zd 2 [(10,(vI 0)),(9,(vI sz))] (zg (zc (zI ?_)))))))))
 refine zah (X:=Nat) (fun i=> [(10,(vI i))]) [6,11,12,13,14,15,16,17,18,19,20,21,22,23,24] (fun i w2=>i≤sz∧Blk w2 w.heap.size (u8s (zck sz (fun j=>decide (sz-1-j<i)) fun j=>UInt8.ofNat (v/256^(sz-1-j)))) 5∧Ext w w2) (fun i=>sz-i) 0 (by kernel_rfl) ⟨by omega,(by rw [zfU _ _ _ (by intro j hj;simp)];rw [←zd8];exact hBw1),hEw1⟩ ?_
 rintro i dw2 w2 ⟨hi,hBl,hEl⟩
 have hzl:=hEl.size;have hll:=hBl.lt
 refine zf (ze (zb (zO (some 11) (decide (((i:Nat):Int)<((sz:Nat):Int))) (fun hc11=> ?_) (fun hc11=> ?_))))
 ·replace hc11:i<sz:=by have:=zak hc11;omega
  refine zg (zc (zf (zF (zy (zc (zf (zI (zf (ze ?_)))))))))
  refine zd 2 [(6,(vI i)),(12,(vI i))] (zg (zc (ze (zd 2 [(14,(vI sz)),(13,(.slice (pA w.heap.size 0) sz sz))] (zb (zv (some 15) .i64 (IntKind.i64.wrap (((sz:Nat):Int)-((1:Nat):Int))) (sz-1) (zG (by omega) (by omega) (by omega)) ?_))))))
  refine zd 1 [(16,(vI i))] (zb (zv (some 17) .i64 (IntKind.i64.wrap (((sz-1:Nat):Int)-((i:Nat):Int))) (sz-1-i) (zG (by omega) (by omega) (by omega)) ?_))
  refine zd 2 [(19,(vI i)),(18,(vQ v))] (zb (zv (some 20) .i64 (IntKind.i64.wrap (((8:Nat):Int)*((i:Nat):Int))) (8*i) (zG (by omega) (by omega) (by omega)) ?_))
  refine zb (zj (some 21) (do eqGuard .shr 29 (.tmp 18) (.tmp 20) (.int .u64 ((v:Nat):Int)) (.int .i64 ((8*i:Nat):Int));binOp .shr 29 (.int .u64 ((v:Nat):Int)) (.int .i64 ((8*i:Nat):Int))) (vQ (v/2^(8*i))) (zij (by show _≤64;omega)) ?_)
  refine zb (zv (some 22) .u8 (IntKind.u8.wrap ((v/2^(8*i):Nat):Int)) ((v/2^(8*i))%2^8) (zcp rfl rfl) ?_)
  refine zb (zj (some 23) (Instr.indexAt 57 (.slice (pA w.heap.size 0) sz sz) (vI (sz-1-i))) (vP w.heap.size (0+(sz-1-i)*1)) (zap (E:=5) (sz:=1) (by omega)) ?_)
  refine zb (zV 5 w.heap.size (0+(sz-1-i)*1) 5 (vB ((v/2^(8*i))%2^8)) (u8s (zck sz (fun j=>decide (sz-1-j<i)) fun j=>UInt8.ofNat (v/256^(sz-1-j)))) hBl (by simp;omega) ?_)
  intro w3 hBw3 hCw3
  have hzw3:=hCw3.size
  rw [show ((u8s (zck sz (fun j=>decide (sz-1-j<i)) fun j=>UInt8.ofNat (v/256^(sz-1-j)))).set (0+(sz-1-i)*1) (vB ((v/2^(8*i))%2^8)):List Value)=u8s (zck sz (fun j=>decide (sz-1-j<i+1)) fun j=>UInt8.ofNat (v/256^(sz-1-j))) from by have hx:=zgX sz (fun j=>decide (sz-1-j<i)) (fun j=>decide (sz-1-j<i+1)) (fun j=>UInt8.ofNat (v/256^(sz-1-j))) (sz-1-i) (UInt8.ofNat (v/2^(8*i))) (by omega) (by first |(rw [zfX];congr 3;omega)|(rw [zjz,show sz-1-(sz-1-i)=i from by omega])) (by intro j hj;by_cases h1:sz-1-j<i+1<;>by_cases h2:sz-1-j<i<;>by_cases h3:j=sz-1-i<;>simp [h1,h2,h3]<;>omega);rw [UInt8.toNat_ofNat'] at hx;first |(simpa only [Nat.zero_add,Nat.mul_one] using hx)|(rw [show v/256^i%256%2^8=v/256^i%256 from by omega] at hx;simpa only [Nat.zero_add,Nat.mul_one] using hx)] at hBw3
  refine zg (zp (zc (ze (zb (zv (some 24) .i64 (IntKind.i64.wrap (((i:Nat):Int)+((1:Nat):Int))) (i+1) (zG (by omega) (by omega) (by omega)) ?_)))))
  refine zd 1 [(10,(vI (i+1)))] (zg (zC (zS (i+1) ?_ ?_)))
  ·exact ⟨by omega,hBw3,(Ext.own hEl hCw3 (by omega))⟩
  ·first | omega |(dsimp only;omega)
 ·replace hc11:¬(i<sz):=by have:=zal hc11;omega
  refine zg (zc (zf (zr (zaf (zH (zH (zT (zc (zf ?_)))))))))
  refine ze (zd 2 [(4,(.slice (pA w.heap.size 0) sz sz)),(25,(.slice (pA w.heap.size 0) sz sz))] (zg (zc (zx (zB (.slice (pA w.heap.size 0) sz sz) (⟨_,rfl,Bs.of_blk hBl ?_ (by simp) (by omega) (by simp only [maxLen];omega) (by omega) (by omega),hEl⟩))))))
  rw [zhc _ _ _ (by intro j hj;simp;omega)];rfl
theorem zm1 (v:Nat) (sz:Nat) (w:World) (hp0:sz≤8) (hp1:v<2^64):
  Calls Tryz.prog 105 #[(vQ v),(vI sz)] w (Ret fun r w'=>∃a0,r=(.slice (pA a0 0) sz sz)∧w.heap.size≤a0∧Blk w' a0 (u8s (be v sz)) 5∧sz=(be v sz).length∧sz≤1099511627776∧Ext w w'):=by
 refine zL (n:=24) (σ:= [(0,(vQ v)),(1,(vI sz))]) Tryz.func105 rfl ?_
 refine zf (ze (zd 1 [(4,(.slice none 0 0))] (zg (zc (zf (ze (zd 1 [(7,(vI sz))] (zb (zcU (some 8) 57 5 1 1 sz sz .i64 .i64 (vB 0) (by omega) (by omega) (by omega) ?_)))))))))
 rw [zdZ _ rfl]
 intro w1 hBw1 hEw1
 have hzw1:=hEw1.size;have hlw1:=hBw1.lt
 have hSw1:Bs w.heap.size (w.heap.size+1) w1 (pA w.heap.size 0) sz sz (List.replicate sz 0):=Bs.of_blk hBw1 (zd8 _) (by simp) (Nat.le_refl _) (by simp only [maxLen];omega) (Nat.le_refl _) (Nat.lt_succ_self _)
 refine zd 1 [(5,(.slice (pA w.heap.size 0) sz sz))] (zg (zc (zf (zf (ze (zd 1 [(9,(vI sz))] (zb (zet (some 10) .i64 (IntKind.i64.wrap (((sz:Nat):Int)-((1:Nat):Int))) ((sz:Int)-1) (zG rfl (by omega) (by omega)) ?_))))))))
 refine zd 1 [(6,(.int .i64 ((sz:Int)-1)))] (zg (zc (zI (zah (X:=Nat) (fun i=> [(0,(vQ (v/256^i))),(6,(.int .i64 ((sz:Int)-1-(i:Int))))]) [11,12,13,14,15,16,17,18,19,20,21,22] (fun i w2=>i≤sz∧Blk w2 w.heap.size (u8s (zck sz (fun j=>decide (sz-1-j<i)) fun j=>UInt8.ofNat (v/256^(sz-1-j)))) 5∧Ext w w2) (fun i=>sz-i) 0 (by rw [Nat.pow_zero,Nat.div_one,show (sz:Int)-1-((0:Nat):Int)=(sz:Int)-1 from by omega];kernel_rfl) ⟨by omega,(by rw [zfU _ _ _ (by intro j hj;simp)];rw [←zd8];exact hBw1),hEw1⟩ ?_))))
 rintro i dw2 w2 ⟨hi,hBl,hEl⟩
 have hzl:=hEl.size;have hll:=hBl.lt
 refine zf (zf (ze (zd 1 [(11,(.int .i64 ((sz:Int)-1-(i:Int))))] (zb (zO (some 12) (decide ((sz:Int)-1-(i:Int)≥((0:Nat):Int))) (fun hc=> ?_) (fun hc=> ?_))))))
 ·replace hc:i<sz:=by have:=zak hc;omega
  have hidx:(sz:Int)-1-(i:Int)=((sz-1-i:Nat):Int):=by omega
  refine zg (zc (zF (zy (zc (zf (zI (zf (ze (zd 3 [(17,(vQ (v/256^i))),(16,(.int .i64 ((sz:Int)-1-(i:Int)))),(15,(.slice (pA w.heap.size 0) sz sz))] ?_)))))))))
  refine zb (zv (some 18) .u64 (((v/256^i:Nat):Int).tmod ((256:Nat):Int)) ((v/256^i)%256) (zcP _ _) ?_)
  refine zb (zv (some 19) .u8 (IntKind.u8.wrap (((v/256^i)%256:Nat):Int)) (((v/256^i)%256)%2^8) (zcp rfl rfl) ?_)
  refine zb (zj (some 20) (Instr.indexAt 57 (.slice (pA w.heap.size 0) sz sz) (.int .i64 ((sz:Int)-1-(i:Int)))) (vP w.heap.size (0+(sz-1-i)*1)) (by rw [hidx];exact zap (E:=5) (sz:=1) (by omega)) ?_)
  refine zb (zV 5 w.heap.size (0+(sz-1-i)*1) 5 (vB (((v/256^i)%256)%2^8)) (u8s (zck sz (fun j=>decide (sz-1-j<i)) fun j=>UInt8.ofNat (v/256^(sz-1-j)))) hBl (by simp;omega) ?_)
  intro w3 hBw3 hCw3
  have hzw3:=hCw3.size
  rw [show ((u8s (zck sz (fun j=>decide (sz-1-j<i)) fun j=>UInt8.ofNat (v/256^(sz-1-j)))).set (0+(sz-1-i)*1) (vB (((v/256^i)%256)%2^8)):List Value)=u8s (zck sz (fun j=>decide (sz-1-j<i+1)) fun j=>UInt8.ofNat (v/256^(sz-1-j))) from by have hx:=zgX sz (fun j=>decide (sz-1-j<i)) (fun j=>decide (sz-1-j<i+1)) (fun j=>UInt8.ofNat (v/256^(sz-1-j))) (sz-1-i) (UInt8.ofNat (v/256^i%256)) (by omega) (by first |(rw [zfX];congr 3;omega)|(rw [zjz,show sz-1-(sz-1-i)=i from by omega])) (by intro j hj;by_cases h1:sz-1-j<i+1<;>by_cases h2:sz-1-j<i<;>by_cases h3:j=sz-1-i<;>simp [h1,h2,h3]<;>omega);rw [UInt8.toNat_ofNat'] at hx;first |(simpa only [Nat.zero_add,Nat.mul_one] using hx)|(rw [show v/256^i%256%2^8=v/256^i%256 from by omega] at hx;simpa only [Nat.zero_add,Nat.mul_one] using hx)] at hBw3
  refine zg (zc (ze (zd 1 [(21,(vQ (v/256^i)))] (zb (zv (some 22) .u64 (IntKind.u64.wrap ((((v/256^i:Nat):Int)).tdiv ((256:Nat):Int))) (v/256^(i+1)) (zba rfl (by rw [ze3,Nat.div_div_eq_div_mul,Nat.pow_succ]) (by show _<2^64;exact Nat.lt_of_le_of_lt (Nat.div_le_self _ _) hp1)) ?_)))))
  refine zd 1 [(0,(vQ (v/256^(i+1))))] (zg (zp (zc (ze (zd 1 [(13,(.int .i64 ((sz:Int)-1-(i:Int))))] (zb (zet (some 14) .i64 (IntKind.i64.wrap ((sz:Int)-1-(i:Int)-((1:Nat):Int))) ((sz:Int)-1-((i+1:Nat):Int)) (zG (by omega) (by omega) (by omega)) ?_)))))))
  refine zd 1 [(6,(.int .i64 ((sz:Int)-1-((i+1:Nat):Int))))] (zg (zC (zS (i+1) ?_ ?_)))
  ·exact ⟨by omega,hBw3,(Ext.own hEl hCw3 (by omega))⟩
  ·first | omega |(dsimp only;omega)
 ·replace hc:¬i<sz:=by have:=zal hc;omega
  refine zg (zc (zr (zaf (zH (zH (zT (zc (zf (ze ?_)))))))))
  refine zd 2 [(4,(.slice (pA w.heap.size 0) sz sz)),(23,(.slice (pA w.heap.size 0) sz sz))] (zg (zc (zx (zB (.slice (pA w.heap.size 0) sz sz) ?_))))
  have hBf:=hBl
  rw [zhc _ _ _ (by intro j hj;simp;omega)] at hBf
  exact ⟨_,rfl,Nat.le_refl _,hBf,by simp,by omega,hEl⟩
theorem zik (v:Nat) (w:World):
  Calls Tryz.prog 119 #[(vQ v)] w (Ret fun r w'=>∃a0,r=(.slice a0 8 8)∧Bs w.heap.size w'.heap.size w' a0 8 8 (be v 8)∧Ext w w'):=by
 refine zL (n:=5) (σ:= [(0,(vQ v))]) Tryz.func119 rfl ?_
 refine zf (ze (zd 1 [(2,(.slice none 0 0))] (zg (zc (zf (ze (zd 1 [(3,(vQ v))] (zb (zi (some 4) (zoz v 8 _ (by omega)) ?_)))))))))
 rintro _ w1 ⟨a1,rfl,hFz1_0,hEw1⟩
 have hzw1:=hEw1.size
 exact zd 1 [(2,(.slice a1 8 8))] (zg (zc (zx (zB (.slice a1 8 8) (⟨_,rfl,hFz1_0,hEw1⟩)))))
theorem zd6 (v:Nat) (w:World) (hp0:v<2^32):
  Calls Tryz.prog 83 #[(vW v)] w (Ret fun r w'=>∃a0,r=(.slice a0 4 4)∧Bs w.heap.size w'.heap.size w' a0 4 4 (be v 4)∧Ext w w'):=by
 refine zL (n:=6) (σ:= [(0,(vW v))]) Tryz.func83 rfl ?_
 refine zf (ze (zd 1 [(2,(.slice none 0 0))] (zg (zc (zf (ze (zd 1 [(3,(vW v))] (zb (zv (some 4) .u64 (IntKind.u64.wrap ((v:Nat):Int)) v (zba rfl rfl (by show _<2^64;omega)) ?_)))))))))
 refine zb (zi (some 5) (zoz v 4 _ (by omega)) ?_)
 rintro _ w1 ⟨a1,rfl,hFz1_0,hEw1⟩
 have hzw1:=hEw1.size
 exact zd 1 [(2,(.slice a1 4 4))] (zg (zc (zx (zB (.slice a1 4 4) (⟨_,rfl,hFz1_0,hEw1⟩)))))
theorem zi6 (v:Nat) (w:World) (hp0:v<2^64):
  Calls Tryz.prog 75 #[(vQ v)] w (Ret fun r w'=>∃a0,r=(.slice (pA a0 0) 8 8)∧w.heap.size≤a0∧Blk w' a0 (u8s (be v 8)) 5∧8=(be v 8).length∧8≤1099511627776∧Ext w w'):=by
 refine zL (n:=5) (σ:= [(0,(vQ v))]) Tryz.func75 rfl ?_
 refine zf (ze (zd 1 [(2,(.slice none 0 0))] (zg (zc (zf (ze (zd 1 [(3,(vQ v))] (zb (zi (some 4) (zm1 v 8 _ (by omega) (by omega)) ?_)))))))))
 rintro _ w1 ⟨a1,rfl,hFz1_0,hFz1_1,hFz1_2,hFz1_3,hEw1⟩
 have hzw1:=hEw1.size
 have hla1:=hFz1_1.lt;have hna1:=hFz1_3
 have hSa1:Bs a1 (a1+1) w1 (pA a1 0) 8 8 (be v 8):=Bs.of_blk hFz1_1 rfl hFz1_2 (Nat.le_refl _) (zbV hna1) (Nat.le_refl _) (Nat.lt_succ_self _)
 exact zd 1 [(2,(.slice (pA a1 0) 8 8))] (zg (zc (zx (zB (.slice (pA a1 0) 8 8) (⟨_,rfl,by omega,hFz1_1,by simp,by omega,hEw1⟩)))))
theorem zjl (v:Nat) (w:World) (hp0:v<2^32):
  Calls Tryz.prog 78 #[(vW v)] w (Ret fun r w'=>∃a0,r=(.slice (pA a0 0) 4 4)∧w.heap.size≤a0∧Blk w' a0 (u8s (be v 4)) 5∧4=(be v 4).length∧4≤1099511627776∧Ext w w'):=by
 refine zL (n:=6) (σ:= [(0,(vW v))]) Tryz.func78 rfl ?_
 refine zf (ze (zd 1 [(2,(.slice none 0 0))] (zg (zc (zf (ze (zd 1 [(3,(vW v))] (zb (zv (some 4) .u64 (IntKind.u64.wrap ((v:Nat):Int)) v (zba rfl rfl (by show _<2^64;omega)) ?_)))))))))
 refine zb (zi (some 5) (zm1 v 4 _ (by omega) (by omega)) ?_)
 rintro _ w1 ⟨a1,rfl,hFz1_0,hFz1_1,hFz1_2,hFz1_3,hEw1⟩
 have hzw1:=hEw1.size
 have hla1:=hFz1_1.lt;have hna1:=hFz1_3
 have hSa1:Bs a1 (a1+1) w1 (pA a1 0) 4 4 (be v 4):=Bs.of_blk hFz1_1 rfl hFz1_2 (Nat.le_refl _) (zbV hna1) (Nat.le_refl _) (Nat.lt_succ_self _)
 exact zd 1 [(2,(.slice (pA a1 0) 4 4))] (zg (zc (zx (zB (.slice (pA a1 0) 4 4) (⟨_,rfl,by omega,hFz1_1,by simp,by omega,hEw1⟩)))))
theorem zrD {lo_l hi_l:Nat} {a_l:Option Addr} {n_l c_l:Nat} {l:List UInt8} (sz:Nat) (w:World) (h_l:Bs lo_l hi_l w a_l n_l c_l l) (hp0:sz≤8):
  Calls Tryz.prog 126 #[(.slice a_l n_l c_l),(vI sz)] w (Ret fun r w'=>r=(.tuple #[(vQ (zaH l sz)),(vI (zb7 l sz))])∧w=w'):=by
 refine zL (n:=32) (σ:= [(0,(.slice a_l n_l c_l)),(1,(vI sz))]) Tryz.func126 rfl ?_
 replace h_l:=h_l.now;have hle_l:=h_l.le
 refine zf (ze (zd 2 [(5,(vI 0)),(4,(vQ 0))] (zg (zc (zf (zI (zf (ze (zd 3 [(12,(vI sz)),(11,(vI n_l)),(10,(.slice a_l n_l c_l))] ?_)))))))))
 refine zb (zO (some 13) (decide (((n_l:Nat):Int)<((sz:Nat):Int))) (fun hc13=> ?_) (fun hc13=> ?_))
 ·replace hc13:n_l<sz:=by have:=zak hc13;omega
  refine zd 1 [(9,vT)] (zg (zc (zF (zf (ze (zd 2 [(5,(vI 6)),(4,(vQ 0))] (zg (zc (zx ?_)))))))))
  exact zA (zu (zB (.tuple #[(vQ 0),(vI 6)]) (⟨by rw [zgA (by have:=h_l.len_eq;omega),zhI (by have:=h_l.len_eq;omega)],rfl⟩)))
 ·replace hc13:¬(n_l<sz):=by have:=zal hc13;omega
  refine zd 1 [(9,vF)] (zg (zc (zr (zf (ze (zd 3 [(17,(vI sz)),(16,(vI n_l)),(15,(.slice a_l n_l c_l))] (zb (zO (some 18) (decide (((n_l:Nat):Int)>((sz:Nat):Int))) (fun hc18=> ?_) (fun hc18=> ?_)))))))))
  ·replace hc18:n_l>sz:=by have:=zak hc18;omega
   refine zd 1 [(14,vT)] (zg (zc (zF (zf (ze (zd 2 [(5,(vI 5)),(4,(vQ 0))] (zg (zc (zx ?_)))))))))
   exact zA (zu (zB (.tuple #[(vQ 0),(vI 5)]) (⟨by rw [zgA (by have:=h_l.len_eq;omega),zir (by have:=h_l.len_eq;omega)],rfl⟩)))
  ·replace hc18:¬(n_l>sz):=by have:=zal hc18;omega
   refine zd 1 [(14,vF)] (zg (zc (zr (zy (zp (zc (zf (ze (zd 1 [(6,(vQ 0))] ?_)))))))))
   refine zg (zc (zf (zf (ze (zd 3 [(21,(vI 0)),(20,(vI n_l)),(19,(.slice a_l n_l c_l))] (zg (zc (zI (zah (X:=Nat) (fun i=> [(6,(vQ (za9 (l.take i)))),(21,(vI i))]) [8,22,23,24,25,26,27,28,29,30] (fun i w1=>w=w1∧i≤sz) (fun i=>sz-i) 0 (by rw [List.take_zero];kernel_rfl) ⟨rfl,by omega⟩ ?_)))))))))
   rintro i dw1 w1 ⟨rfl,hi⟩
   have hlen:=h_l.len_eq
   refine zf (ze (zb (zO (some 22) (decide (((i:Nat):Int)<((n_l:Nat):Int))) (fun hc22=> ?_) (fun hc22=> ?_))))
   ·replace hc22:i<n_l:=by have:=zak hc22;omega
    have hb1:=zeh l i
    have hb2:za9 (l.take i)*256+255<2^64:=zf0 (by omega)
    refine zg (zc (zf (zF (zy (zc (zf (zI (zf (ze ?_)))))))))
    obtain ⟨b1,o1,rfl⟩:=h_l.addr (by omega)
    refine zb (zj (some 23) (Instr.indexAt 57 (.slice (pA b1 o1) n_l c_l) (vI i)) (vP b1 (o1+i*1)) (zap (E:=5) (sz:=1) (by omega)) ?_)
    refine zb (zj (some 24) (Instr.loadAt 5 (vP b1 (o1+i*1))) (vB (byt l i)) (zo (h_l.cell1 (by omega))) ?_)
    refine zd 1 [(8,(vB (byt l i)))] (zg (zc (ze (zd 1 [(25,(vQ (za9 (l.take i))))] (zb (zv (some 26) .u64 (IntKind.u64.wrap (((za9 (l.take i):Nat):Int)*2^8)) (za9 (l.take i)*256) ((zq9 rfl).trans (by rw [Nat.mod_eq_of_lt (show _<2^IntKind.u64.bits from by show _<2^64;omega)])) ?_))))))
    refine zd 1 [(27,(vB (byt l i)))] (zb (zv (some 28) .u64 (IntKind.u64.wrap ((byt l i:Nat):Int)) (byt l i) (zba rfl rfl (by show _<2^64;omega)) ?_))
    refine zb (zv (some 29) .u64 ((IntKind.u64.wrap ((BitVec.ofInt IntKind.u64.bits ((za9 (l.take i)*256:Nat):Int)||| BitVec.ofInt IntKind.u64.bits ((byt l i:Nat):Int)).toNat:Int))) (za9 (l.take (i+1))) ((orU .u64 rfl (by show _<2^64;omega) (by show _<2^64;omega)).trans (by rw [zp0 _ _ hb1,zfR (by omega)])) ?_)
    refine zd 1 [(6,(vQ (za9 (l.take (i+1)))))] (zg (zp (zc (ze (zb (zv (some 30) .i64 (IntKind.i64.wrap (((i:Nat):Int)+((1:Nat):Int))) (i+1) (zG (by omega) (by omega) (by omega)) ?_))))))
    refine zd 1 [(21,(vI (i+1)))] (zg (zC (zS (i+1) ?_ ?_)))
    ·exact ⟨rfl,by omega⟩
    ·first | omega |(dsimp only;omega)
   ·replace hc22:¬(i<n_l):=by have:=zal hc22;omega
    refine zg (zc (zf (zr (zaf (zH (zH (zT (zc (zf ?_)))))))))
    exact ze (zd 3 [(5,(vI 0)),(4,(vQ (za9 (l.take i)))),(31,(vQ (za9 (l.take i))))] (zg (zc (zx (zB (.tuple #[(vQ (za9 (l.take i))),(vI 0)]) (⟨by rw [zfk (by have:=h_l.len_eq;omega),zgo (by have:=h_l.len_eq;omega),List.take_of_length_le (by omega)],rfl⟩))))))
theorem zqd {lo_l hi_l:Nat} {a_l:Option Addr} {n_l c_l:Nat} {l:List UInt8} (sz:Nat) (w:World) (h_l:Bs lo_l hi_l w a_l n_l c_l l) (hp0:sz≤8):
  Calls Tryz.prog 106 #[(.slice a_l n_l c_l),(vI sz)] w (Ret fun r w'=>r=(.tuple #[(vQ (zaH l sz)),(vI (zb7 l sz))])∧w=w'):=by
 refine zL (n:=30) (σ:= [(0,(.slice a_l n_l c_l)),(1,(vI sz))]) Tryz.func106 rfl ?_
 replace h_l:=h_l.now;have hle_l:=h_l.le
 refine zf (ze (zd 2 [(5,(vI 0)),(4,(vQ 0))] (zg (zc (zf (zf (ze (zd 3 [(10,(vI sz)),(9,(vI n_l)),(8,(.slice a_l n_l c_l))] (zb (zO (some 11) (decide (((n_l:Nat):Int)<((sz:Nat):Int))) (fun hc11=> ?_) (fun hc11=> ?_)))))))))))
 ·replace hc11:n_l<sz:=by have:=zak hc11;omega
  refine zg (zc (zF (zf (ze (zd 2 [(5,(vI 6)),(4,(vQ 0))] (zg (zc (zx (zu ?_)))))))))
  exact zB (.tuple #[(vQ 0),(vI 6)]) (⟨by rw [zgA (by have:=h_l.len_eq;omega),zhI (by have:=h_l.len_eq;omega)],rfl⟩)
 ·replace hc11:¬(n_l<sz):=by have:=zal hc11;omega
  refine zg (zc (zr (zy (zc (zf (zf (ze (zd 3 [(14,(vI sz)),(13,(vI n_l)),(12,(.slice a_l n_l c_l))] (zb (zO (some 15) (decide (((n_l:Nat):Int)>((sz:Nat):Int))) (fun hc15=> ?_) (fun hc15=> ?_)))))))))))
  ·replace hc15:n_l>sz:=by have:=zak hc15;omega
   refine zg (zc (zF (zf (ze (zd 2 [(5,(vI 5)),(4,(vQ 0))] (zg (zc (zx (zu ?_)))))))))
   exact zB (.tuple #[(vQ 0),(vI 5)]) (⟨by rw [zgA (by have:=h_l.len_eq;omega),zir (by have:=h_l.len_eq;omega)],rfl⟩)
  ·replace hc15:¬(n_l>sz):=by have:=zal hc15;omega
   refine zg (zc (zr (zy (zc (zf (ze (zd 1 [(6,(vQ 0))] (zg (zc ?_)))))))))
   refine zf (zf (ze (zd 1 [(7,(vI 0))] (zg (zc (zI (zah (X:=Nat) (fun i=> [(6,(vQ (za9 (l.take i)))),(7,(vI i))]) [16,17,18,19,20,21,22,23,24,25,26,27,28] (fun i w1=>w=w1∧i≤sz) (fun i=>sz-i) 0 (by rw [List.take_zero];kernel_rfl) ⟨rfl,by omega⟩ ?_)))))))
   rintro i dw1 w1 ⟨rfl,hi⟩
   have hlen:=h_l.len_eq
   refine zf (zf (ze (zd 2 [(17,(vI sz)),(16,(vI i))] (zb (zO (some 18) (decide (((i:Nat):Int)<((sz:Nat):Int))) (fun hc18=> ?_) (fun hc18=> ?_))))))
   ·replace hc18:i<sz:=by have:=zak hc18;omega
    have hb1:=zeh l i
    have hb2:za9 (l.take i)*256+255<2^64:=zf0 (by omega)
    refine zg (zc (zF (zy (zc (zf (zI (ze (zd 1 [(21,(vQ (za9 (l.take i))))] (zb (zv (some 22) .u64 (IntKind.u64.wrap (((za9 (l.take i):Nat):Int)*((256:Nat):Int))) (za9 (l.take i)*256) (zba rfl (by simp) (by show _<2^64;omega)) ?_))))))))))
    refine zd 2 [(24,(vI i)),(23,(.slice a_l n_l c_l))] ?_
    obtain ⟨b1,o1,rfl⟩:=h_l.addr (by omega)
    refine zb (zj (some 25) (Instr.indexAt 57 (.slice (pA b1 o1) n_l c_l) (vI i)) (vP b1 (o1+i*1)) (zap (E:=5) (sz:=1) (by omega)) ?_)
    refine zb (zj (some 26) (Instr.loadAt 5 (vP b1 (o1+i*1))) (vB (byt l i)) (zo (h_l.cell1 (by omega))) ?_)
    refine zb (zv (some 27) .u64 (IntKind.u64.wrap ((byt l i:Nat):Int)) (byt l i) (zba rfl rfl (by show _<2^64;omega)) ?_)
    refine zb (zv (some 28) .u64 (IntKind.u64.wrap (((za9 (l.take i)*256:Nat):Int)+((byt l i:Nat):Int))) (za9 (l.take (i+1))) (zba rfl (by rw [zfR (by omega)];omega) (by rw [zfR (by omega)];show _<2^64;omega)) ?_)
    refine zd 1 [(6,(vQ (za9 (l.take (i+1)))))] (zg (zp (zc (ze (zd 1 [(19,(vI i))] (zb (zv (some 20) .i64 (IntKind.i64.wrap (((i:Nat):Int)+((1:Nat):Int))) (i+1) (zG (by omega) (by omega) (by omega)) ?_)))))))
    refine zd 1 [(7,(vI (i+1)))] (zg (zC (zS (i+1) ?_ ?_)))
    ·exact ⟨rfl,by omega⟩
    ·first | omega |(dsimp only;omega)
   ·replace hc18:¬(i<sz):=by have:=zal hc18;omega
    refine zg (zc (zr (zaf (zH (zH (zT (zc (zf (ze ?_)))))))))
    exact zd 3 [(5,(vI 0)),(4,(vQ (za9 (l.take i)))),(29,(vQ (za9 (l.take i))))] (zg (zc (zx (zB (.tuple #[(vQ (za9 (l.take i))),(vI 0)]) (⟨by rw [zfk (by have:=h_l.len_eq;omega),zgo (by have:=h_l.len_eq;omega),List.take_of_length_le (by omega)],rfl⟩)))))
theorem zpk {lo_l hi_l:Nat} {a_l:Option Addr} {n_l c_l:Nat} {l:List UInt8} (w:World) (h_l:Bs lo_l hi_l w a_l n_l c_l l):
  Calls Tryz.prog 124 #[(.slice a_l n_l c_l)] w (Ret fun r w'=>r=(.tuple #[(vW (zaH l 4)),(vI (zb7 l 4))])∧w=w'):=by
 refine zL (n:=14) (σ:= [(0,(.slice a_l n_l c_l))]) Tryz.func124 rfl ?_
 replace h_l:=h_l.now;have hle_l:=h_l.le
 refine zf (ze (zd 2 [(3,(vI 0)),(2,(vW 0))] (zg (zc (zf (ze (zd 1 [(7,(.slice a_l n_l c_l))] (zb (zi (some 8) (zrD 4 _ h_l (by first | omega | decide)) ?_)))))))))
 rintro _ _ ⟨rfl,rfl⟩
 refine zd 5 [(5,(vI (zb7 l 4))),(4,(vQ (zaH l 4))),(10,(vI (zb7 l 4))),(9,(vQ (zaH l 4))),(6,(.tuple #[(vQ (zaH l 4)),(vI (zb7 l 4))]))] (zg (zc (zf (ze (zd 1 [(11,(vQ (zaH l 4)))] (zb (zv (some 12) .u32 (IntKind.u32.wrap ((zaH l 4:Nat):Int)) (zaH l 4) (zba rfl rfl (zcW l 4)) ?_)))))))
 exact zd 3 [(3,(vI (zb7 l 4))),(2,(vW (zaH l 4))),(13,(vI (zb7 l 4)))] (zg (zc (zx (zB (.tuple #[(vW (zaH l 4)),(vI (zb7 l 4))]) (⟨rfl,rfl⟩)))))
end Go.Proofs.YtgdpdnokcnhgnaaGreatDoor
namespace Go.Proofs.YtgdpdnokcnhgnaaGreatDoor
open Go Go.RowKit Go.Cs
set_option maxRecDepth 100000
theorem zs5 (v:Nat) (k:Int) (w:World) (hp0:v<2^32):
  Calls Tryz.prog 127 #[(vW v),(.int .i64 k)] w (Ret fun r w'=>r=(vW (zel v (k%32).toNat))∧w=w'):=by
 refine zL (n:=17) (σ:= [(0,(vW v)),(1,(.int .i64 k))]) Tryz.func127 rfl ?_
 refine zf (ze (zd 1 [(4,(vW 0))] (zg (zc (zf (ze (zd 1 [(6,(.int .i64 k))] (zb (zv (some 7) .u64 (IntKind.u64.wrap k) ((k%18446744073709551616).toNat) (zjb k) ?_)))))))))
 refine zb (zv (some 8) .u64 ((IntKind.u64.wrap ((BitVec.ofInt IntKind.u64.bits (((k%18446744073709551616).toNat:Nat):Int)&&&BitVec.ofInt IntKind.u64.bits ((31:Nat):Int)).toNat:Int))) ((k%32).toNat) ((ztA .u64 rfl (by show _<2^64;omega) (by show _<2^64;omega)).trans (by rw [zr0])) ?_)
 refine zd 1 [(5,(vQ ((k%32).toNat)))] (zg (zc (zf (ze (zd 2 [(10,(vQ ((k%32).toNat))),(9,(vW v))] (zb (zj (some 11) (do eqGuard .shl 28 (.tmp 9) (.tmp 10) (.int .u32 ((v:Nat):Int)) (.int .u64 (((k%32).toNat:Nat):Int));binOp .shl 28 (.int .u32 ((v:Nat):Int)) (.int .u64 (((k%32).toNat:Nat):Int))) (vW (v*2^((k%32).toNat)%2^32)) (zkv rfl (by show _≤32;omega)) ?_)))))))
 refine zd 2 [(13,(vQ ((k%32).toNat))),(12,(vW v))] (zb (zv (some 14) .u64 (IntKind.u64.wrap (((32:Nat):Int)-(((k%32).toNat:Nat):Int))) (32-(k%32).toNat) (zba rfl (by omega) (by show _<2^64;omega)) ?_))
 refine zb (zj (some 15) (do eqGuard .shr 28 (.tmp 12) (.tmp 14) (.int .u32 ((v:Nat):Int)) (.int .u64 ((32-(k%32).toNat:Nat):Int));binOp .shr 28 (.int .u32 ((v:Nat):Int)) (.int .u64 ((32-(k%32).toNat:Nat):Int))) (vW (v/2^(32-(k%32).toNat))) (zij (by show _≤32;omega)) ?_)
 refine zb (zv (some 16) .u32 ((IntKind.u32.wrap ((BitVec.ofInt IntKind.u32.bits ((v*2^((k%32).toNat)%2^32:Nat):Int)||| BitVec.ofInt IntKind.u32.bits ((v/2^(32-(k%32).toNat):Nat):Int)).toNat:Int))) (zel v (k%32).toNat) (orU .u32 rfl (Nat.mod_lt _ (by decide)) (by show _<2^32;exact Nat.lt_of_le_of_lt (Nat.div_le_self _ _) hp0)) ?_)
 exact zd 1 [(4,(vW (zel v (k%32).toNat)))] (zg (zc (zx (zB (vW (zel v (k%32).toNat)) (⟨rfl,rfl⟩)))))
theorem zrJ (v:Nat) (n:Int) (w:World) (hp0:v<2^32):
  Calls Tryz.prog 125 #[(vW v),(.int .i64 n)] w (Ret fun r w'=>r=(vW (rot v n))∧w=w'):=by
 refine zL (n:=9) (σ:= [(0,(vW v)),(1,(.int .i64 n))]) Tryz.func125 rfl ?_
 refine zf (ze (zd 1 [(4,(vW 0))] (zg (zc (zf (ze (zd 2 [(6,(.int .i64 n)),(5,(vW v))] (zb (zet (some 7) .i64 (n.tmod ((32:Nat):Int)) (n.tmod 32) (rfl) ?_)))))))))
 refine zb (zi (some 8) (zs5 v (n.tmod 32) _ (by omega)) ?_)
 rintro _ _ ⟨rfl,rfl⟩
 refine zd 1 [(4,(vW (zel v ((n.tmod 32)%32).toNat)))] (zg (zc (zx (zB (vW (zel v ((n.tmod 32)%32).toNat)) ?_))))
 have h32:=(zqr n).2.2
 rw [h32]
 exact ⟨rfl,rfl⟩
end Go.Proofs.YtgdpdnokcnhgnaaGreatDoor
namespace Go.Proofs.YtgdpdnokcnhgnaaGreatDoor
open Go Go.RowKit Go.Cs
set_option maxRecDepth 100000
theorem zhu {lo_ls hi_ls:Nat} {a_ls:Option Addr} {n_ls c_ls:Nat} {v_ls:List Value} {ls:List (List UInt8)} (w:World) (h_ls:Ps lo_ls hi_ls w a_ls n_ls c_ls v_ls ls) (hp0:zU ls≤1099511627776):
  Calls Tryz.prog 111 #[(.slice a_ls n_ls c_ls)] w (Ret fun r w'=>∃a0,r=(.slice (pA a0 0) (zU ls) (zU ls))∧w.heap.size≤a0∧Blk w' a0 (u8s ls.flatten) 5∧zU ls=(ls.flatten).length∧zU ls≤1099511627776∧Ext w w'):=by
 refine zL (n:=38) (σ:= [(0,(.slice a_ls n_ls c_ls))]) Tryz.func111 rfl ?_
 replace h_ls:=h_ls.now;have hle_ls:=h_ls.le
 refine zf (ze (zd 1 [(2,(.slice none 0 0))] (zg (zc (zf (ze (zd 1 [(3,(vI 0))] (zg (zc ?_)))))))))
 refine zf (zf (ze (zd 3 [(12,(vI 0)),(11,(vI n_ls)),(10,(.slice a_ls n_ls c_ls))] (zg (zc (zI (zah (X:=Nat) (fun i=> [(3,(vI (zU (ls.take i)))),(12,(vI i))]) [5,13,14,15,16,17,18,19,20] (fun i w1=>w=w1∧i≤n_ls) (fun i=>n_ls-i) 0 (by rw [List.take_zero];kernel_rfl) ⟨rfl,by omega⟩ ?_)))))))
 rintro i dw1 w1 ⟨rfl,hi⟩
 have hlen:=h_ls.len_eq
 have hsl:=zdE ls i
 have hsl1:=zdE ls (i+1)
 refine zf (ze (zb (zO (some 13) (decide (((i:Nat):Int)<((n_ls:Nat):Int))) (fun hc13=> ?_) (fun hc13=> ?_))))
 ·replace hc13:i<n_ls:=by have:=zak hc13;omega
  have hst:=zeb (ls:=ls) (i:=i) (by omega)
  refine zg (zc (zf (zF (zy (zc (zf (zI (zf (ze ?_)))))))))
  obtain ⟨b1,o1,rfl⟩:=h_ls.addr (by omega)
  refine zb (zj (some 14) (Instr.indexAt 183 (.slice (pA b1 o1) n_ls c_ls) (vI i)) (vP b1 (o1+i*1)) (zap (E:=57) (sz:=1) (by omega)) ?_)
  obtain ⟨a1,n1,cp1,hP1,hS1⟩:=(h_ls).cell (i:=i) (by omega)
  have hlehS1:=hS1.le;have hlnhS1:=hS1.len_eq
  refine zb (zj (some 15) (Instr.loadAt 57 (vP b1 (o1+i*1))) (.slice a1 n1 cp1) (zo hP1) ?_)
  refine zd 1 [(5,(.slice a1 n1 cp1))] (zg (zc (ze (zd 3 [(18,(vI n1)),(17,(.slice a1 n1 cp1)),(16,(vI (zU (ls.take i))))] (zb (zv (some 19) .i64 (IntKind.i64.wrap (((zU (ls.take i):Nat):Int)+((n1:Nat):Int))) (zU (ls.take (i+1))) (zG (by omega) (by omega) (by omega)) ?_))))))
  refine zd 1 [(3,(vI (zU (ls.take (i+1)))))] (zg (zp (zc (ze (zb (zv (some 20) .i64 (IntKind.i64.wrap (((i:Nat):Int)+((1:Nat):Int))) (i+1) (zG (by omega) (by omega) (by omega)) ?_))))))
  refine zd 1 [(12,(vI (i+1)))] (zg (zC (zS (i+1) ?_ ?_)))
  ·exact ⟨rfl,by omega⟩
  ·first | omega |(dsimp only;omega)
 ·replace hc13:¬(i<n_ls):=by have:=zal hc13;omega
  have hfin1:ls.take i=ls:=List.take_of_length_le (by omega)
  rw [hfin1]
  refine zg (zc (zf (zr (zaf (zH (zH (zT (zc (zf ?_)))))))))
  refine ze (zd 1 [(21,(vI (zU (ls))))] (zb (zcU (some 22) 57 5 1 1 (zU (ls)) (zU (ls)) .i64 .i64 (vB 0) (by omega) (by omega) (by omega) ?_)))
  rw [zdZ _ rfl]
  intro w2 hBw2 hEw2
  have hzw2:=hEw2.size;have hlw2:=hBw2.lt
  have hSw2:Bs w.heap.size (w.heap.size+1) w2 (pA w.heap.size 0) (zU (ls)) (zU (ls)) (List.replicate (zU (ls)) 0):=Bs.of_blk hBw2 (zd8 _) (by simp) (Nat.le_refl _) (by simp only [maxLen];omega) (Nat.le_refl _) (Nat.lt_succ_self _)
  refine zd 1 [(6,(.slice (pA w.heap.size 0) (zU (ls)) (zU (ls))))] (zg (zc (zf (ze (zd 1 [(7,(vI 0))] (zg (zc (zf (zf ?_)))))))))
  refine ze (zd 3 [(25,(vI 0)),(24,(vI n_ls)),(23,(.slice a_ls n_ls c_ls))] (zg (zc (zI (zah (X:=Nat) (fun jj=> [(7,(vI (zU (ls.take jj)))),(25,(vI jj))]) [9,26,27,28,29,30,31,32,33,34,35,36] (fun jj w3=>jj≤n_ls∧Blk w3 w.heap.size (u8s ((ls.take jj).flatten++List.replicate (zU ls-zU (ls.take jj)) 0)) 5∧Ext w w3) (fun jj=>n_ls-jj) 0 (by rw [List.take_zero];kernel_rfl) ⟨by omega,(by rw [List.take_zero,show zU ls-zU []=zU ls from rfl,List.flatten_nil,List.nil_append,←zd8];exact hBw2),hEw2⟩ ?_)))))
  rintro jj dw3 w3 ⟨hi,hBl,hEl⟩
  have hzl:=hEl.size;have hll:=hBl.lt
  have hlen:=h_ls.len_eq
  have hsl:=zdE ls jj
  have hsl1:=zdE ls (jj+1)
  refine zf (ze (zb (zO (some 26) (decide (((jj:Nat):Int)<((n_ls:Nat):Int))) (fun hc26=> ?_) (fun hc26=> ?_))))
  ·replace hc26:jj<n_ls:=by have:=zak hc26;omega
   have hst:=zeb (ls:=ls) (i:=jj) (by omega)
   refine zg (zc (zf (zF (zy (zc (zf (zI (zf (ze ?_)))))))))
   obtain ⟨b2,o2,rfl⟩:=h_ls.addr (by omega)
   refine zb (zj (some 27) (Instr.indexAt 183 (.slice (pA b2 o2) n_ls c_ls) (vI jj)) (vP b2 (o2+jj*1)) (zap (E:=57) (sz:=1) (by omega)) ?_)
   obtain ⟨a2,n2,cp2,hP2,hS2⟩:=((h_ls.ext hEl)).cell (i:=jj) (by omega)
   have hlehS2:=hS2.le;have hlnhS2:=hS2.len_eq
   refine zb (zj (some 28) (Instr.loadAt 57 (vP b2 (o2+jj*1))) (.slice a2 n2 cp2) (zo hP2) ?_)
   refine zd 1 [(9,(.slice a2 n2 cp2))] (zg (zc (ze (zd 3 [(31,(vI (zU (ls.take jj)))),(30,(.slice (pA w.heap.size 0) (zU (ls)) (zU (ls)))),(29,(vI (zU (ls.take jj))))] ?_))))
   obtain ⟨ad,hRd,hAd⟩:=hBl.slice (len:=(zU (ls))) (cap:=(zU (ls))) Tryz.prog 57 5 (zU (ls.take jj)) (zU (ls)) (zU (ls)) (some (vI (zU (ls.take jj)))) none none
   refine zb (zj (some 32) (Instr.sliceAt 57 (.slice (pA w.heap.size 0) (zU (ls)) (zU (ls))) (some (vI (zU (ls.take jj)))) none none) (.slice ad (zU ls-zU (ls.take jj)) (zU ls-zU (ls.take jj))) (hRd _) ?_)
   refine zd 1 [(33,(.slice a2 n2 cp2))] (zb (zgu (a:=ad) (dl:=zU ls-zU (ls.take jj)) (dc:=zU ls-zU (ls.take jj)) (some 34) 57 57 3 5 w.heap.size (zU (ls.take jj)) hBl (fun h=>hAd (by omega)) (by rw [zaK,List.length_append,zde,List.length_replicate];omega) hS2.es (fun _=>rfl) ?_))
   intro w4 hBw4 hCw4
   have hzw4:=hCw4.size
   rw [show zad (u8s ((ls.take jj).flatten++List.replicate (zU ls-zU (ls.take jj)) 0)) (zU (ls.take jj)) (((ls.getD jj []).take (min n2 (zU ls-zU (ls.take jj)))).map u8v)=u8s ((ls.take (jj+1)).flatten++List.replicate (zU ls-zU (ls.take (jj+1))) 0) from by rw [zgf (by omega),zeb (by omega),show min n2 (zU ls-zU (ls.take jj))=(ls.getD jj []).length from by omega];exact zmZ _ _ _ _ (zde _).symm (by omega)] at hBw4
   refine zb (zv (some 35) .i64 (IntKind.i64.wrap (((zU (ls.take jj):Nat):Int)+((min n2 (zU ls-zU (ls.take jj)):Nat):Int))) (zU (ls.take (jj+1))) (zG (by omega) (by omega) (by omega)) ?_)
   refine zd 1 [(7,(vI (zU (ls.take (jj+1)))))] (zg (zp (zc (ze (zb (zv (some 36) .i64 (IntKind.i64.wrap (((jj:Nat):Int)+((1:Nat):Int))) (jj+1) (zG (by omega) (by omega) (by omega)) ?_))))))
   refine zd 1 [(25,(vI (jj+1)))] (zg (zC (zS (jj+1) ?_ ?_)))
   ·exact ⟨by omega,hBw4,(Ext.own hEl hCw4 (by omega))⟩
   ·first | omega |(dsimp only;omega)
  ·replace hc26:¬(jj<n_ls):=by have:=zal hc26;omega
   refine zg (zc (zf (zr (zaf (zH (zH (zT (zc (zf ?_)))))))))
   refine ze (zd 2 [(2,(.slice (pA w.heap.size 0) (zU (ls)) (zU (ls)))),(37,(.slice (pA w.heap.size 0) (zU (ls)) (zU (ls))))] (zg (zc (zx (zB (.slice (pA w.heap.size 0) (zU (ls)) (zU (ls))) ?_)))))
   have hfin:ls.take jj=ls:=List.take_of_length_le (by omega)
   rw [hfin] at hBl
   rw [Nat.sub_self,List.replicate_zero,List.append_nil] at hBl
   exact ⟨_,rfl,Nat.le_refl _,hBl,(zde ls).symm,hp0,hEl⟩
end Go.Proofs.YtgdpdnokcnhgnaaGreatDoor
namespace Go.Proofs.YtgdpdnokcnhgnaaGreatDoor
open Go Go.RowKit Go.Cs
set_option maxRecDepth 100000
theorem zen (x:Rec) (w:World):
  Calls Tryz.prog 49 #[(vA (zE x))] w (Ret fun r w'=>r=(vI (zaB x))∧Ext w w'):=by
 refine zL (n:=16) (σ:= [(0,(vA (zE x)))]) Tryz.func49 rfl ?_
 refine zf (ze (zb (zt (some 1) (Instr.box 33 (vA (zE x))) (vP w.heap.size 0) (zE x) 33 ?_)))
 intro w1 hBw1 hEw1
 have hzw1:=hEw1.size;have hlw1:=hBw1.lt
 refine zd 1 [(2,(vI 0))] (zg (zc (zf (zf (ze (zd 1 [(3,(vP w.heap.size 0))] (zb (zj (some 4) (Instr.loadAt 5 (vP w.heap.size 0)) (vB x.st) (zo (hBw1.cell rfl)) ?_))))))))
 refine zb (zO (some 5) (decide (((x.st:Nat):Int)>((2:Nat):Int))) (fun hc5=> ?_) (fun hc5=> ?_))
 ·replace hc5:x.st>2:=by have:=zak hc5;omega
  refine zd 10 [(15,vT),(14,undef),(13,undef),(12,undef),(11,undef),(10,undef),(9,undef),(8,undef),(7,undef),(6,vT)] (zg (zc (zF (zf (ze (zd 1 [(2,(vI 1))] (zg (zc (zx ?_)))))))))
  exact zu (zB (vI 1) (⟨congrArg (fun z:Nat=>Value.int .i64 (z:Int)) (by unfold zaB;simp_all []<;>omega),hEw1⟩))
 ·replace hc5:¬(x.st>2):=by have:=zal hc5;omega
  refine zd 2 [(7,(vP w.heap.size 0)),(6,vF)] (zb (zj (some 8) (Instr.loadAt 5 (vP w.heap.size 0)) (vB x.st) (zo (hBw1.cell rfl)) ?_))
  refine zb (zO (some 9) ((((x.st:Nat):Int)==((0:Nat):Int))) (fun hc9=> ?_) (fun hc9=> ?_))
  ·replace hc9:x.st=0:=by have:=zbL hc9;omega
   refine zd 1 [(10,vT)] (zb (zj (some 11) (Instr.loadAt 33 (vP w.heap.size 0)) (vA (zE x)) (zD (vs:=zE x) (hBw1.all) (by rw [zY];kernel_rfl)) ?_))
   refine zd 1 [(12,(vA (zE Rec.zero)))] ?_
   rcases Bool.eq_false_or_eq_true (x.eqb Rec.zero) with hq13 | hq13
   ·refine zb (zj (some 13) (bo .neq 33 (.tmp 11) (.tmp 12) (vA (zE x)) (vA (zE Rec.zero))) vF (zav (r:=true) (T:=33) ((zb8 (dd:=9997) (t:=33) (t8:=5) (tn:=31) (td:=23) (e:=5) (t32:=28) (t64:=29) x Rec.zero).trans (congrArg (fun b=>Result.ok b _) (show (x.eqb Rec.zero)=true from hq13)))) ?_)
    refine zd 2 [(15,vF),(14,vF)] (zg (zc (zr (zy (zc (zf (ze (zd 1 [(2,(vI 0))] (zg ?_)))))))))
    exact zc (zx (zB (vI 0) (⟨congrArg (fun z:Nat=>Value.int .i64 (z:Int)) (by unfold zaB;simp_all []<;>omega),hEw1⟩)))
   ·refine zb (zj (some 13) (bo .neq 33 (.tmp 11) (.tmp 12) (vA (zE x)) (vA (zE Rec.zero))) vT (zav (r:=false) (T:=33) ((zb8 (dd:=9997) (t:=33) (t8:=5) (tn:=31) (td:=23) (e:=5) (t32:=28) (t64:=29) x Rec.zero).trans (congrArg (fun b=>Result.ok b _) (show (x.eqb Rec.zero)=false from hq13)))) ?_)
    refine zd 2 [(15,vT),(14,vT)] (zg (zc (zF (zf (ze (zd 1 [(2,(vI 1))] (zg (zc (zx ?_)))))))))
    exact zu (zB (vI 1) (⟨congrArg (fun z:Nat=>Value.int .i64 (z:Int)) (by unfold zaB;simp_all []<;>omega),hEw1⟩))
  ·replace hc9:¬(x.st=0):=by have:=zbK hc9;omega
   refine zd 6 [(15,vF),(14,vF),(13,undef),(12,undef),(11,undef),(10,vF)] (zg (zc (zr (zy (zc (zf (ze (zd 1 [(2,(vI 0))] (zg ?_)))))))))
   exact zc (zx (zB (vI 0) (⟨congrArg (fun z:Nat=>Value.int .i64 (z:Int)) (by unfold zaB;simp_all []<;>omega),hEw1⟩)))
theorem zfT (x:Ent) (w:World):
  Calls Tryz.prog 109 #[(vA (zai x))] w (Ret fun r w'=>r=(vI (zaV x))∧Ext w w'):=by
 refine zL (n:=16) (σ:= [(0,(vA (zai x)))]) Tryz.func109 rfl ?_
 refine zf (ze (zb (zt (some 1) (Instr.box 44 (vA (zai x))) (vP w.heap.size 0) (zai x) 44 ?_)))
 intro w1 hBw1 hEw1
 have hzw1:=hEw1.size;have hlw1:=hBw1.lt
 refine zd 1 [(2,(vI 0))] (zg (zc (zf (zf (ze (zd 1 [(3,(vP w.heap.size 0))] (zb (zj (some 4) (Instr.loadAt 5 (vP w.heap.size 0)) (vB x.st) (zo (hBw1.cell rfl)) ?_))))))))
 refine zb (zO (some 5) (decide (((x.st:Nat):Int)>((2:Nat):Int))) (fun hc5=> ?_) (fun hc5=> ?_))
 ·replace hc5:x.st>2:=by have:=zak hc5;omega
  refine zd 10 [(15,vT),(14,undef),(13,undef),(12,undef),(11,undef),(10,undef),(9,undef),(8,undef),(7,undef),(6,vT)] (zg (zc (zF (zf (ze (zd 1 [(2,(vI 1))] (zg (zc (zx ?_)))))))))
  exact zu (zB (vI 1) (⟨congrArg (fun z:Nat=>Value.int .i64 (z:Int)) (by unfold zaV;simp_all []<;>omega),hEw1⟩))
 ·replace hc5:¬(x.st>2):=by have:=zal hc5;omega
  refine zd 2 [(7,(vP w.heap.size 0)),(6,vF)] (zb (zj (some 8) (Instr.loadAt 5 (vP w.heap.size 0)) (vB x.st) (zo (hBw1.cell rfl)) ?_))
  refine zb (zO (some 9) ((((x.st:Nat):Int)==((0:Nat):Int))) (fun hc9=> ?_) (fun hc9=> ?_))
  ·replace hc9:x.st=0:=by have:=zbL hc9;omega
   refine zd 1 [(10,vT)] (zb (zj (some 11) (Instr.loadAt 44 (vP w.heap.size 0)) (vA (zai x)) (zD (vs:=zai x) (hBw1.all) (by rw [zaS];kernel_rfl)) ?_))
   refine zd 1 [(12,(vA (zai Ent.zero)))] ?_
   rcases Bool.eq_false_or_eq_true (x.eqb Ent.zero) with hq13 | hq13
   ·refine zb (zj (some 13) (bo .neq 44 (.tmp 11) (.tmp 12) (vA (zai x)) (vA (zai Ent.zero))) vF (zav (r:=true) (T:=44) ((zdT (dd:=9997) (t:=44) (t8:=5) (td:=23) (e:=5) x Ent.zero).trans (congrArg (fun b=>Result.ok b _) (show (x.eqb Ent.zero)=true from hq13)))) ?_)
    refine zd 2 [(15,vF),(14,vF)] (zg (zc (zr (zy (zc (zf (ze (zd 1 [(2,(vI 0))] (zg ?_)))))))))
    exact zc (zx (zB (vI 0) (⟨congrArg (fun z:Nat=>Value.int .i64 (z:Int)) (by unfold zaV;simp_all []<;>omega),hEw1⟩)))
   ·refine zb (zj (some 13) (bo .neq 44 (.tmp 11) (.tmp 12) (vA (zai x)) (vA (zai Ent.zero))) vT (zav (r:=false) (T:=44) ((zdT (dd:=9997) (t:=44) (t8:=5) (td:=23) (e:=5) x Ent.zero).trans (congrArg (fun b=>Result.ok b _) (show (x.eqb Ent.zero)=false from hq13)))) ?_)
    refine zd 2 [(15,vT),(14,vT)] (zg (zc (zF (zf (ze (zd 1 [(2,(vI 1))] (zg (zc (zx ?_)))))))))
    exact zu (zB (vI 1) (⟨congrArg (fun z:Nat=>Value.int .i64 (z:Int)) (by unfold zaV;simp_all []<;>omega),hEw1⟩))
  ·replace hc9:¬(x.st=0):=by have:=zbK hc9;omega
   refine zd 6 [(15,vF),(14,vF),(13,undef),(12,undef),(11,undef),(10,vF)] (zg (zc (zr (zy (zc (zf (ze (zd 1 [(2,(vI 0))] (zg ?_)))))))))
   exact zc (zx (zB (vI 0) (⟨congrArg (fun z:Nat=>Value.int .i64 (z:Int)) (by unfold zaV;simp_all []<;>omega),hEw1⟩)))
theorem zhP (x:Non) (w:World):
  Calls Tryz.prog 112 #[(vA (zbF x))] w (Ret fun r w'=>∃a0,r=(.slice a0 12 12)∧Bs w.heap.size w'.heap.size w' a0 12 12 (za1 x)∧Ext w w'):=by
 refine zL (n:=11) (σ:= [(0,(vA (zbF x)))]) Tryz.func112 rfl ?_
 refine zf (ze (zb (zt (some 1) (Instr.box 31 (vA (zbF x))) (vP w.heap.size 0) (zbF x) 31 ?_)))
 intro w1 hBw1 hEw1
 have hzw1:=hEw1.size;have hlw1:=hBw1.lt
 refine zd 1 [(2,(.slice none 0 0))] (zg (zc (zf (zag (Ext w1.drew) 9 [(4,2,0),(5,8,1),(6,16,2),(7,2,0),(8,64,8),(9,128,20),(10,288,36),(11,512,96),(3,1024,255)] (fun hT250=> ?_)))))
 have hEw2:Ext w1 w1.drew:=Ext.drew w1
 generalize w1.drew=w2 at hEw2⊢
 have hzw2:=hEw2.size
 refine zk hT250 [(0,3,(vP w.heap.size 0))] 1 1 (zh hT250 1 3 (some 4) (vW x.sh) (zl (Instr.loadAt 28 (vP w.heap.size 0)) (fun w' hC=>zo (((hBw1.ext hEw2).ext hC).cell rfl))) (zk hT250 [(3,6,(vP w.heap.size 1))] 1 11 (zh hT250 4 27 (some 7) (vQ x.ct) (zl (Instr.loadAt 29 (vP w.heap.size 1)) (fun w' hC=>zo (((hBw1.ext hEw2).ext hC).cell rfl))) (zn 2 31 (zi (some 5) (zd6 x.sh _ (x.hsh)) ?_)))))
 rintro _ w3 ⟨a1,rfl,hFz1_0,hEw3⟩
 have hzw3:=hEw3.size
 refine ⟨.inr hEw3, ?_⟩
 refine zn 5 63 (zi (some 8) (zik x.ct _) ?_)
 rintro _ w4 ⟨a2,rfl,hFz2_0,hEw4⟩
 have hzw4:=hEw4.size
 have hX1:Ext w2 w4:=(hEw3.trans hEw4)
 refine ⟨.inr hX1, ?_⟩
 refine zn 6 127 (zt (some 9) (Instr.buildSlice 183 2 #[(0,(.slice a1 4 4)),(1,(.slice a2 8 8))]) (.slice (pA w4.heap.size 0) 2 2) [(.slice a1 4 4),(.slice a2 8 8)] 57 ?_)
 intro w5 hBw5 hEw5
 have hzw5:=hEw5.size;have hlw5:=hBw5.lt
 have hSw5:Ps 0 w5.heap.size w5 (pA w4.heap.size 0) 2 2 [(.slice a1 4 4),(.slice a2 8 8)] [be x.sh 4,be x.ct 8]:=Ps.of_new hBw5 rfl (by decide) (zaP.cons (zch.at (((hFz1_0.ext hEw4)).ext hEw5)) (zaP.cons (zch.at (hFz2_0.ext hEw5)) zaP.nil))
 have hX2:Ext w2 w5:=((hEw3.trans hEw4).trans hEw5)
 refine ⟨.inr hX2, ?_⟩
 refine zn 7 255 (zi (some 10) (zhu _ hSw5 (by simp [zU]<;>omega)) ?_)
 rintro _ w6 ⟨a3,rfl,hFz3_0,hFz3_1,hFz3_2,hFz3_3,hEw6⟩
 have hzw6:=hEw6.size
 have hla3:=hFz3_1.lt;have hna3:=hFz3_3
 have hSa3:Bs a3 (a3+1) w6 (pA a3 0) (zU ([be x.sh 4,be x.ct 8])) (zU ([be x.sh 4,be x.ct 8])) (([be x.sh 4,be x.ct 8]).flatten):=Bs.of_blk hFz3_1 rfl hFz3_2 (Nat.le_refl _) (zbV hna3) (Nat.le_refl _) (Nat.lt_succ_self _)
 rw [show zU ([be x.sh 4,be x.ct 8])=12 from by simp [zU]]
 have hX3:Ext w2 w6:=(((hEw3.trans hEw4).trans hEw5).trans hEw6)
 refine ⟨.inr hX3, ?_⟩
 exact zk (hw:=hX3) hT250 [(8,2,(.slice (pA a3 0) 12 12))] 1 511 (zJ (zc (zx (zB (.slice (pA a3 0) 12 12) (⟨_,rfl,by simpa [za1,zU] using hSa3.mono (by omega) (by omega),((hEw1.trans hEw2).trans hX3)⟩)))))
theorem zgE (x:Non) (w:World):
  Calls Tryz.prog 108 #[(vA (zbF x))] w (Ret fun r w'=>∃a0 ca0,r=(.slice a0 12 ca0)∧Es u8v w.heap.size w'.heap.size w' a0 12 ca0 (za1 x)∧Ext w w'):=by
 refine zL (n:=10) (σ:= [(0,(vA (zbF x)))]) Tryz.func108 rfl ?_
 refine zf (ze (zb (zt (some 1) (Instr.box 31 (vA (zbF x))) (vP w.heap.size 0) (zbF x) 31 ?_)))
 intro w1 hBw1 hEw1
 have hzw1:=hEw1.size;have hlw1:=hBw1.lt
 refine zd 1 [(2,(.slice none 0 0))] (zg (zc (zf (zag (Ext w1.drew) 8 [(4,2,0),(5,8,1),(6,16,2),(7,2,0),(8,64,8),(9,128,20),(10,288,36),(3,512,127)] (fun hT285=> ?_)))))
 have hEw2:Ext w1 w1.drew:=Ext.drew w1
 generalize w1.drew=w2 at hEw2⊢
 have hzw2:=hEw2.size
 refine zk hT285 [(0,3,(vP w.heap.size 0))] 1 1 (zh hT285 1 3 (some 4) (vW x.sh) (zl (Instr.loadAt 28 (vP w.heap.size 0)) (fun w' hC=>zo (((hBw1.ext hEw2).ext hC).cell rfl))) (zk hT285 [(3,6,(vP w.heap.size 1))] 1 11 (zh hT285 4 27 (some 7) (vQ x.ct) (zl (Instr.loadAt 29 (vP w.heap.size 1)) (fun w' hC=>zo (((hBw1.ext hEw2).ext hC).cell rfl))) (zn 2 31 (zi (some 5) (zjl x.sh _ (x.hsh)) ?_)))))
 rintro _ w3 ⟨a1,rfl,hFz1_0,hFz1_1,hFz1_2,hFz1_3,hEw3⟩
 have hzw3:=hEw3.size
 have hla1:=hFz1_1.lt;have hna1:=hFz1_3
 have hSa1:Bs a1 (a1+1) w3 (pA a1 0) 4 4 (be x.sh 4):=Bs.of_blk hFz1_1 rfl hFz1_2 (Nat.le_refl _) (zbV hna1) (Nat.le_refl _) (Nat.lt_succ_self _)
 refine ⟨.inr hEw3, ?_⟩
 refine zn 5 63 (zi (some 8) (zi6 x.ct _ (x.hct)) ?_)
 rintro _ w4 ⟨a2,rfl,hFz2_0,hFz2_1,hFz2_2,hFz2_3,hEw4⟩
 have hzw4:=hEw4.size
 have hla2:=hFz2_1.lt;have hna2:=hFz2_3
 have hSa2:Bs a2 (a2+1) w4 (pA a2 0) 8 8 (be x.ct 8):=Bs.of_blk hFz2_1 rfl hFz2_2 (Nat.le_refl _) (zbV hna2) (Nat.le_refl _) (Nat.lt_succ_self _)
 have hX1:Ext w2 w4:=(hEw3.trans hEw4)
 refine ⟨.inr hX1, ?_⟩
 have hO1:Cs.Own u8v a1 (a1+1) w4 (pA a1 0) 4 4 5 (be x.sh 4):=Cs.Own.of_blk (hFz1_1.ext hEw4) (by simp) (by first | rfl | exact rfl) (hSa1.ext hEw4).len_eq (Nat.le_refl _) (by simp only [maxLen];omega) (Nat.le_refl _) (Nat.lt_succ_self _)
 refine zn 6 127 (zbM (some 9) 57 57 5 1 (.int .u8 0) hO1 hSa2.es (fun _=>rfl) ?_)
 intro a3 c1 w5 hOw5 hCw5
 have hzw5:=hCw5.size
 have hSw5:=hOw5.bs
 have hX2:Ext w2 w5:=(Ext.ownS (hEw3.trans hEw4) hCw5 (fun k hs hk=>by have hn:=hO1.ne hs;omega))
 refine ⟨.inr hX2, ?_⟩
 refine zk (hw:=hX2) hT285 [(7,2,(.slice a3 (4+8) c1))] 1 255 (zJ (zc (zx (zB (.slice a3 (4+8) c1) ?_))))
 have hX3:Ext w w5:=(Ext.ownS (((hEw1.trans hEw2).trans hEw3).trans hEw4) hCw5 (fun k hs hk=>by have hn:=hO1.ne hs;omega))
 exact ⟨_,_,rfl,by have hz:=hOw5;simpa [za1,zbh,zbC,zcC] using (hz.es.mono (lo':=w.heap.size) (hi':=w5.heap.size) (by omega) (by omega)),hX3⟩
theorem zmD (x:Rec) (w:World):
  Calls Tryz.prog 79 #[(vA (zE x))] w (Ret fun r w'=>∃a0 ca0,r=(.slice a0 45 ca0)∧Es u8v w.heap.size w'.heap.size w' a0 45 ca0 (zbh x)∧Ext w w'):=by
 refine zL (n:=13) (σ:= [(0,(vA (zE x)))]) Tryz.func79 rfl ?_
 refine zf (ze (zb (zt (some 1) (Instr.box 33 (vA (zE x))) (vP w.heap.size 0) (zE x) 33 ?_)))
 intro w1 hBw1 hEw1
 have hzw1:=hEw1.size;have hlw1:=hBw1.lt
 refine zd 1 [(2,(.slice none 0 0))] (zg (zc (zf (zag (Ext w1.drew) 11 [(4,2,0),(5,8,1),(6,16,2),(7,2,0),(8,64,8),(9,128,16),(10,288,36),(11,2,0),(12,1024,128),(13,2560,320),(3,4096,1023)] (fun hT319=> ?_)))))
 have hEw2:Ext w1 w1.drew:=Ext.drew w1
 generalize w1.drew=w2 at hEw2⊢
 have hzw2:=hEw2.size
 refine zk hT319 [(0,3,(vP w.heap.size 0))] 1 1 (zh hT319 1 3 (some 4) (vB x.st) (zl (Instr.loadAt 5 (vP w.heap.size 0)) (fun w' hC=>zo (((hBw1.ext hEw2).ext hC).cell rfl))) (zk hT319 [(3,6,(vP w.heap.size 1))] 1 11 (zh hT319 4 27 (some 7) (vA (zbF x.non)) (zl (Instr.loadAt 31 (vP w.heap.size 1)) (fun w' hC=>zD (vs:=zbF x.non) (((hBw1.ext hEw2).ext hC).at 1 (zbF x.non) (zkT _)) (by rw [zjW];kernel_rfl))) (zk hT319 [(7,10,(vP w.heap.size 3))] 1 155 (zh hT319 8 411 (some 11) (.slice (pA w.heap.size 3) 32 32) (zl (Instr.sliceAt 23 (vP w.heap.size 3) none none none) (fun w' hC=>zhB (E:=5) (sz:=1) (m:=32))) ?_)))))
 have hS1:Bs w.heap.size (w.heap.size+1) w2 (pA w.heap.size 3) 32 32 x.tag.l:=Bs.of_at ((hBw1.ext hEw2).at 3 (zw x.tag) (zgq _)) ((hBw1.ext hEw2)).lt x.tag.h.symm (by decide) (by omega) (by omega)
 refine zay 2 5 415 443 ?_ ?_
 ·refine zt (some 5) (Instr.buildSlice 57 1 #[(0,(vB x.st))]) (.slice (pA w2.heap.size 0) 1 1) [(vB x.st)] 5 ?_
  intro w3 hBw3 hEw3
  have hzw3:=hEw3.size;have hlw3:=hBw3.lt
  have hSw3:Bs w2.heap.size (w2.heap.size+1) w3 (pA w2.heap.size 0) 1 1 [UInt8.ofNat x.st]:=Bs.of_blk hBw3 (zcb x.hst) rfl (Nat.le_refl _) (by decide) (Nat.le_refl _) (Nat.lt_succ_self _)
  refine ⟨.inr hEw3, ?_⟩
  refine zn 5 447 (zi (some 8) (zgE x.non _) ?_)
  rintro _ w4 ⟨a1,ca1,rfl,hFz1_0,hEw4⟩
  have hzw4:=hEw4.size
  have hlea1:=hFz1_0.le
  have hba1:=hFz1_0.bs
  have hX1:Ext w2 w4:=(hEw3.trans hEw4)
  refine ⟨.inr hX1, ?_⟩
  have hO1:Cs.Own u8v w2.heap.size (w2.heap.size+1) w4 (pA w2.heap.size 0) 1 1 5 ([UInt8.ofNat x.st]):=Cs.Own.of_blk (hBw3.ext hEw4) (by simp) (by first | rfl | exact (zcb x.hst)) (hSw3.ext hEw4).len_eq (Nat.le_refl _) (by simp only [maxLen];omega) (Nat.le_refl _) (Nat.lt_succ_self _)
  refine zn 6 511 (zbM (some 9) 57 57 5 1 (.int .u8 0) hO1 hba1.es (fun _=>rfl) ?_)
  intro a2 c1 w5 hOw5 hCw5
  have hzw5:=hCw5.size
  have hSw5:=hOw5.bs
  have hX2:Ext w2 w5:=(Ext.ownS (hEw3.trans hEw4) hCw5 (fun k hs hk=>by have hn:=hO1.ne hs;omega))
  refine ⟨.inr hX2, ?_⟩
  have hK1:=(((((hS1.ext hEw3)).ext hEw4)).chg hCw5 (fun k h1 h2 hs=>by have hn:=hO1.ne hs;omega))
  refine zn 9 1023 (zbM (some 12) 57 57 5 1 (.int .u8 0) hOw5 hK1.es (fun _=>rfl) ?_)
  intro a3 c2 w6 hOw6 hCw6
  have hzw6:=hCw6.size
  have hSw6:=hOw6.bs
  have hX3:Ext w2 w6:=(Ext.ownS (Ext.ownS (hEw3.trans hEw4) hCw5 (fun k hs hk=>by have hn:=hO1.ne hs;omega)) hCw6 (fun k hs hk=>by have hn:=hOw5.ne hs;omega))
  refine ⟨.inr hX3, ?_⟩
  exact zk (hw:=hX3) hT319 [(10,2,(.slice a3 (1+12+32) c2))] 1 2047 (zJ (zc (zx (zB (.slice a3 (1+12+32) c2) (⟨_,_,rfl,by have hz:=hOw6;simpa [za1,zbh,zbC,zcC] using (hz.es.mono (lo':=w.heap.size) (hi':=w6.heap.size) (by omega) (by omega)),((hEw1.trans hEw2).trans hX3)⟩)))))
 ·refine zi (some 8) (zgE x.non _) ?_
  rintro _ w7 ⟨a4,ca4,rfl,hFz2_0,hEw7⟩
  have hzw7:=hEw7.size
  have hlea4:=hFz2_0.le
  have hba4:=hFz2_0.bs
  refine ⟨.inr hEw7, ?_⟩
  refine zn 2 447 (zt (some 5) (Instr.buildSlice 57 1 #[(0,(vB x.st))]) (.slice (pA w7.heap.size 0) 1 1) [(vB x.st)] 5 ?_)
  intro w8 hBw8 hEw8
  have hzw8:=hEw8.size;have hlw8:=hBw8.lt
  have hSw8:Bs w7.heap.size (w7.heap.size+1) w8 (pA w7.heap.size 0) 1 1 [UInt8.ofNat x.st]:=Bs.of_blk hBw8 (zcb x.hst) rfl (Nat.le_refl _) (by decide) (Nat.le_refl _) (Nat.lt_succ_self _)
  have hX4:Ext w2 w8:=(hEw7.trans hEw8)
  refine ⟨.inr hX4, ?_⟩
  have hO2:Cs.Own u8v w7.heap.size (w7.heap.size+1) w8 (pA w7.heap.size 0) 1 1 5 ([UInt8.ofNat x.st]):=Cs.Own.of_blk hBw8 (by simp) (by first | rfl | exact (zcb x.hst)) hSw8.len_eq (Nat.le_refl _) (by simp only [maxLen];omega) (Nat.le_refl _) (Nat.lt_succ_self _)
  refine zn 6 511 (zbM (some 9) 57 57 5 1 (.int .u8 0) hO2 (hba4.ext hEw8).es (fun _=>rfl) ?_)
  intro a5 c3 w9 hOw9 hCw9
  have hzw9:=hCw9.size
  have hSw9:=hOw9.bs
  have hX5:Ext w2 w9:=(Ext.ownS (hEw7.trans hEw8) hCw9 (fun k hs hk=>by have hn:=hO2.ne hs;omega))
  refine ⟨.inr hX5, ?_⟩
  have hK2:=(((((hS1.ext hEw7)).ext hEw8)).chg hCw9 (fun k h1 h2 hs=>by have hn:=hO2.ne hs;omega))
  refine zn 9 1023 (zbM (some 12) 57 57 5 1 (.int .u8 0) hOw9 hK2.es (fun _=>rfl) ?_)
  intro a6 c4 w10 hOw10 hCw10
  have hzw10:=hCw10.size
  have hSw10:=hOw10.bs
  have hX6:Ext w2 w10:=(Ext.ownS (Ext.ownS (hEw7.trans hEw8) hCw9 (fun k hs hk=>by have hn:=hO2.ne hs;omega)) hCw10 (fun k hs hk=>by have hn:=hOw9.ne hs;omega))
  refine ⟨.inr hX6, ?_⟩
  exact zk (hw:=hX6) hT319 [(10,2,(.slice a6 (1+12+32) c4))] 1 2047 (zJ (zc (zx (zB (.slice a6 (1+12+32) c4) (⟨_,_,rfl,by have hz:=hOw10;simpa [za1,zbh,zbC,zcC] using (hz.es.mono (lo':=w.heap.size) (hi':=w10.heap.size) (by omega) (by omega)),((hEw1.trans hEw2).trans hX6)⟩)))))
theorem zn9 (x:Ent) (w:World):
  Calls Tryz.prog 80 #[(vA (zai x))] w (Ret fun r w'=>∃a0 ca0,r=(.slice a0 33 ca0)∧Es u8v w.heap.size w'.heap.size w' a0 33 ca0 (zbC x)∧Ext w w'):=by
 refine zL (n:=9) (σ:= [(0,(vA (zai x)))]) Tryz.func80 rfl ?_
 refine zf (ze (zb (zt (some 1) (Instr.box 44 (vA (zai x))) (vP w.heap.size 0) (zai x) 44 ?_)))
 intro w1 hBw1 hEw1
 have hzw1:=hEw1.size;have hlw1:=hBw1.lt
 refine zd 1 [(2,(.slice none 0 0))] (zg (zc (zf (zag (Ext w1.drew) 7 [(4,2,0),(5,8,1),(6,16,2),(7,2,0),(8,64,8),(9,160,20),(3,256,63)] (fun hT387=> ?_)))))
 have hEw2:Ext w1 w1.drew:=Ext.drew w1
 generalize w1.drew=w2 at hEw2⊢
 have hzw2:=hEw2.size
 refine zk hT387 [(0,3,(vP w.heap.size 0))] 1 1 (zh hT387 1 3 (some 4) (vB x.st) (zl (Instr.loadAt 5 (vP w.heap.size 0)) (fun w' hC=>zo (((hBw1.ext hEw2).ext hC).cell rfl))) (zk hT387 [(3,6,(vP w.heap.size 1))] 1 11 (zh hT387 4 27 (some 7) (.slice (pA w.heap.size 1) 32 32) (zl (Instr.sliceAt 23 (vP w.heap.size 1) none none none) (fun w' hC=>zhB (E:=5) (sz:=1) (m:=32))) ?_)))
 have hS1:Bs w.heap.size (w.heap.size+1) w2 (pA w.heap.size 1) 32 32 x.dg.l:=Bs.of_at ((hBw1.ext hEw2).at 1 (zw x.dg) (zdR _)) ((hBw1.ext hEw2)).lt x.dg.h.symm (by decide) (by omega) (by omega)
 refine zn 2 31 (zt (some 5) (Instr.buildSlice 57 1 #[(0,(vB x.st))]) (.slice (pA w2.heap.size 0) 1 1) [(vB x.st)] 5 ?_)
 intro w3 hBw3 hEw3
 have hzw3:=hEw3.size;have hlw3:=hBw3.lt
 have hSw3:Bs w2.heap.size (w2.heap.size+1) w3 (pA w2.heap.size 0) 1 1 [UInt8.ofNat x.st]:=Bs.of_blk hBw3 (zcb x.hst) rfl (Nat.le_refl _) (by decide) (Nat.le_refl _) (Nat.lt_succ_self _)
 refine ⟨.inr hEw3, ?_⟩
 have hO1:Cs.Own u8v w2.heap.size (w2.heap.size+1) w3 (pA w2.heap.size 0) 1 1 5 ([UInt8.ofNat x.st]):=Cs.Own.of_blk hBw3 (by simp) (by first | rfl | exact (zcb x.hst)) hSw3.len_eq (Nat.le_refl _) (by simp only [maxLen];omega) (Nat.le_refl _) (Nat.lt_succ_self _)
 refine zn 5 63 (zbM (some 8) 57 57 5 1 (.int .u8 0) hO1 (hS1.ext hEw3).es (fun _=>rfl) ?_)
 intro a1 c1 w4 hOw4 hCw4
 have hzw4:=hCw4.size
 have hSw4:=hOw4.bs
 have hX1:Ext w2 w4:=(Ext.ownS hEw3 hCw4 (fun k hs hk=>by have hn:=hO1.ne hs;omega))
 refine ⟨.inr hX1, ?_⟩
 refine zk (hw:=hX1) hT387 [(6,2,(.slice a1 (1+32) c1))] 1 127 (zJ (zc (zx (zB (.slice a1 (1+32) c1) ?_))))
 have hX2:Ext w w4:=(Ext.ownS ((hEw1.trans hEw2).trans hEw3) hCw4 (fun k hs hk=>by have hn:=hO1.ne hs;omega))
 exact ⟨_,_,rfl,by have hz:=hOw4;simpa [za1,zbh,zbC,zcC] using (hz.es.mono (lo':=w.heap.size) (hi':=w4.heap.size) (by omega) (by omega)),hX2⟩
theorem zkb (x:Rec) (w:World) (hp0:zaB x=0):
  Calls Tryz.prog 87 #[(vA (zE x))] w (Ret fun r w'=>∃a0,r=(.tuple #[(.slice a0 45 45),(vI 0)])∧Bs w.heap.size w'.heap.size w' a0 45 45 (zbh x)∧Ext w w'):=by
 refine zL (n:=20) (σ:= [(0,(vA (zE x)))]) Tryz.func87 rfl ?_
 refine zf (ze (zb (zt (some 1) (Instr.box 33 (vA (zE x))) (vP w.heap.size 0) (zE x) 33 ?_)))
 intro w1 hBw1 hEw1
 have hzw1:=hEw1.size;have hlw1:=hBw1.lt
 refine zd 2 [(3,(vI 0)),(2,(.slice none 0 0))] (zg (zc (zf (zf (ze (zb (zj (some 5) (Instr.loadAt 33 (vP w.heap.size 0)) (vA (zE x)) (zD (vs:=zE x) (hBw1.all) (by rw [zY];kernel_rfl)) ?_)))))))
 refine zb (zi (some 6) (zen x _) ?_)
 rintro _ w2 ⟨rfl,hEw2⟩
 have hzw2:=hEw2.size
 refine zd 1 [(4,(vI (zaB x)))] (zg (zc (zf (ze (zd 1 [(7,(vI (zaB x)))] (zb (zat (some 8) (((zaB x:Nat):Int) !=((0:Nat):Int)) false (zaL (by omega)) ?_)))))))
 refine zg (zc (zr (zy (zc (zf (zag (Ext w2.drew) 12 [(11,2,0),(12,1024,1),(13,2048,2),(14,2,0),(15,8192,8),(16,16384,16),(17,2,0),(18,65536,64),(19,167936,164),(20,262144,288),(3,524288,1023),(4,0,2047)] (fun hT449=> ?_)))))))
 have hEw3:Ext w2 w2.drew:=Ext.drew w2
 generalize w2.drew=w3 at hEw3⊢
 have hzw3:=hEw3.size
 refine zk hT449 [(0,10,(vP w.heap.size 0))] 1 1 (zh hT449 1 3 (some 11) (vB x.st) (zl (Instr.loadAt 5 (vP w.heap.size 0)) (fun w' hC=>zo (((((hBw1.ext hEw2)).ext hEw3).ext hC).cell rfl))) (zk hT449 [(3,13,(vP w.heap.size 1))] 1 11 (zh hT449 4 27 (some 14) (vA (zbF x.non)) (zl (Instr.loadAt 31 (vP w.heap.size 1)) (fun w' hC=>zD (vs:=zbF x.non) (((((hBw1.ext hEw2)).ext hEw3).ext hC).at 1 (zbF x.non) (zkT _)) (by rw [zjW];kernel_rfl))) (zk hT449 [(6,16,(vP w.heap.size 3))] 1 91 (zh hT449 7 219 (some 17) (.slice (pA w.heap.size 3) 32 32) (zl (Instr.sliceAt 23 (vP w.heap.size 3) none none none) (fun w' hC=>zhB (E:=5) (sz:=1) (m:=32))) ?_)))))
 have hS1:Bs w.heap.size (w.heap.size+1) w3 (pA w.heap.size 3) 32 32 x.tag.l:=Bs.of_at ((((hBw1.ext hEw2)).ext hEw3).at 3 (zw x.tag) (zgq _)) ((((hBw1.ext hEw2)).ext hEw3)).lt x.tag.h.symm (by decide) (by omega) (by omega)
 refine zay 2 5 223 251 ?_ ?_
 ·refine zt (some 12) (Instr.buildSlice 57 1 #[(0,(vB x.st))]) (.slice (pA w3.heap.size 0) 1 1) [(vB x.st)] 5 ?_
  intro w4 hBw4 hEw4
  have hzw4:=hEw4.size;have hlw4:=hBw4.lt
  have hSw4:Bs w3.heap.size (w3.heap.size+1) w4 (pA w3.heap.size 0) 1 1 [UInt8.ofNat x.st]:=Bs.of_blk hBw4 (zcb x.hst) rfl (Nat.le_refl _) (by decide) (Nat.le_refl _) (Nat.lt_succ_self _)
  refine ⟨.inr hEw4, ?_⟩
  refine zn 5 255 (zi (some 15) (zhP x.non _) ?_)
  rintro _ w5 ⟨a1,rfl,hFz2_0,hEw5⟩
  have hzw5:=hEw5.size
  have hX1:Ext w3 w5:=(hEw4.trans hEw5)
  refine ⟨.inr hX1, ?_⟩
  refine zn 8 511 (zt (some 18) (Instr.buildSlice 183 3 #[(0,(.slice (pA w3.heap.size 0) 1 1)),(1,(.slice a1 12 12)),(2,(.slice (pA w.heap.size 3) 32 32))]) (.slice (pA w5.heap.size 0) 3 3) [(.slice (pA w3.heap.size 0) 1 1),(.slice a1 12 12),(.slice (pA w.heap.size 3) 32 32)] 57 ?_)
  intro w6 hBw6 hEw6
  have hzw6:=hEw6.size;have hlw6:=hBw6.lt
  have hK1:=(((((hS1.ext hEw4)).ext hEw5)).ext hEw6)
  have hSw6:Ps 0 w6.heap.size w6 (pA w5.heap.size 0) 3 3 [(.slice (pA w3.heap.size 0) 1 1),(.slice a1 12 12),(.slice (pA w.heap.size 3) 32 32)] [[UInt8.ofNat x.st],za1 x.non,x.tag.l]:=Ps.of_new hBw6 rfl (by decide) (zaP.cons (zch.at (((hSw4.ext hEw5)).ext hEw6)) (zaP.cons (zch.at (hFz2_0.ext hEw6)) (zaP.cons (zch.at hK1) zaP.nil)))
  have hX2:Ext w3 w6:=((hEw4.trans hEw5).trans hEw6)
  refine ⟨.inr hX2, ?_⟩
  refine zn 9 1023 (zi (some 19) (zhu _ hSw6 (by simp [zU,za1,x.tag.h])) ?_)
  rintro _ w7 ⟨a2,rfl,hFz3_0,hFz3_1,hFz3_2,hFz3_3,hEw7⟩
  have hzw7:=hEw7.size
  have hla2:=hFz3_1.lt;have hna2:=hFz3_3
  have hSa2:Bs a2 (a2+1) w7 (pA a2 0) (zU ([[UInt8.ofNat x.st],za1 x.non,x.tag.l])) (zU ([[UInt8.ofNat x.st],za1 x.non,x.tag.l])) (([[UInt8.ofNat x.st],za1 x.non,x.tag.l]).flatten):=Bs.of_blk hFz3_1 rfl hFz3_2 (Nat.le_refl _) (zbV hna2) (Nat.le_refl _) (Nat.lt_succ_self _)
  rw [show zU ([[UInt8.ofNat x.st],za1 x.non,x.tag.l])=45 from by simp [zU,za1,x.tag.h]]
  have hX3:Ext w3 w7:=(((hEw4.trans hEw5).trans hEw6).trans hEw7)
  refine ⟨.inr hX3, ?_⟩
  refine zk (hw:=hX3) hT449 [(10,2,(.slice (pA a2 0) 45 45)),(11,3,(vI 0))] 2 4095 (zJ (zc (zx (zB (.tuple #[(.slice (pA a2 0) 45 45),(vI 0)]) ?_))))
  have hX4:Ext w w7:=(((hEw1.trans hEw2).trans hEw3).trans hX3)
  have hz:=hSa2
  rw [show zU ([[UInt8.ofNat x.st],za1 x.non,x.tag.l])=45 from by simp [zU,za1,x.tag.h],show ([[UInt8.ofNat x.st],za1 x.non,x.tag.l]).flatten=zbh x from by simp [zbh,zbC,zcC]] at hz
  exact ⟨_,rfl,hz.mono (by omega) (by omega),hX4⟩
 ·refine zi (some 15) (zhP x.non _) ?_
  rintro _ w8 ⟨a3,rfl,hFz4_0,hEw8⟩
  have hzw8:=hEw8.size
  refine ⟨.inr hEw8, ?_⟩
  refine zn 2 255 (zt (some 12) (Instr.buildSlice 57 1 #[(0,(vB x.st))]) (.slice (pA w8.heap.size 0) 1 1) [(vB x.st)] 5 ?_)
  intro w9 hBw9 hEw9
  have hzw9:=hEw9.size;have hlw9:=hBw9.lt
  have hSw9:Bs w8.heap.size (w8.heap.size+1) w9 (pA w8.heap.size 0) 1 1 [UInt8.ofNat x.st]:=Bs.of_blk hBw9 (zcb x.hst) rfl (Nat.le_refl _) (by decide) (Nat.le_refl _) (Nat.lt_succ_self _)
  have hX5:Ext w3 w9:=(hEw8.trans hEw9)
  refine ⟨.inr hX5, ?_⟩
  refine zn 8 511 (zt (some 18) (Instr.buildSlice 183 3 #[(0,(.slice (pA w8.heap.size 0) 1 1)),(1,(.slice a3 12 12)),(2,(.slice (pA w.heap.size 3) 32 32))]) (.slice (pA w9.heap.size 0) 3 3) [(.slice (pA w8.heap.size 0) 1 1),(.slice a3 12 12),(.slice (pA w.heap.size 3) 32 32)] 57 ?_)
  intro w10 hBw10 hEw10
  have hzw10:=hEw10.size;have hlw10:=hBw10.lt
  have hK2:=(((((hS1.ext hEw8)).ext hEw9)).ext hEw10)
  have hSw10:Ps 0 w10.heap.size w10 (pA w9.heap.size 0) 3 3 [(.slice (pA w8.heap.size 0) 1 1),(.slice a3 12 12),(.slice (pA w.heap.size 3) 32 32)] [[UInt8.ofNat x.st],za1 x.non,x.tag.l]:=Ps.of_new hBw10 rfl (by decide) (zaP.cons (zch.at (hSw9.ext hEw10)) (zaP.cons (zch.at (((hFz4_0.ext hEw9)).ext hEw10)) (zaP.cons (zch.at hK2) zaP.nil)))
  have hX6:Ext w3 w10:=((hEw8.trans hEw9).trans hEw10)
  refine ⟨.inr hX6, ?_⟩
  refine zn 9 1023 (zi (some 19) (zhu _ hSw10 (by simp [zU,za1,x.tag.h])) ?_)
  rintro _ w11 ⟨a4,rfl,hFz5_0,hFz5_1,hFz5_2,hFz5_3,hEw11⟩
  have hzw11:=hEw11.size
  have hla4:=hFz5_1.lt;have hna4:=hFz5_3
  have hSa4:Bs a4 (a4+1) w11 (pA a4 0) (zU ([[UInt8.ofNat x.st],za1 x.non,x.tag.l])) (zU ([[UInt8.ofNat x.st],za1 x.non,x.tag.l])) (([[UInt8.ofNat x.st],za1 x.non,x.tag.l]).flatten):=Bs.of_blk hFz5_1 rfl hFz5_2 (Nat.le_refl _) (zbV hna4) (Nat.le_refl _) (Nat.lt_succ_self _)
  rw [show zU ([[UInt8.ofNat x.st],za1 x.non,x.tag.l])=45 from by simp [zU,za1,x.tag.h]]
  have hX7:Ext w3 w11:=(((hEw8.trans hEw9).trans hEw10).trans hEw11)
  refine ⟨.inr hX7, ?_⟩
  refine zk (hw:=hX7) hT449 [(10,2,(.slice (pA a4 0) 45 45)),(11,3,(vI 0))] 2 4095 (zJ (zc (zx (zB (.tuple #[(.slice (pA a4 0) 45 45),(vI 0)]) ?_))))
  have hX8:Ext w w11:=(((hEw1.trans hEw2).trans hEw3).trans hX7)
  have hz:=hSa4
  rw [show zU ([[UInt8.ofNat x.st],za1 x.non,x.tag.l])=45 from by simp [zU,za1,x.tag.h],show ([[UInt8.ofNat x.st],za1 x.non,x.tag.l]).flatten=zbh x from by simp [zbh,zbC,zcC]] at hz
  exact ⟨_,rfl,hz.mono (by omega) (by omega),hX8⟩
theorem zll (x:Ent) (w:World) (hp0:zaV x=0):
  Calls Tryz.prog 90 #[(vA (zai x))] w (Ret fun r w'=>∃a0,r=(.tuple #[(.slice a0 33 33),(vI 0)])∧Bs w.heap.size w'.heap.size w' a0 33 33 (zbC x)∧Ext w w'):=by
 refine zL (n:=17) (σ:= [(0,(vA (zai x)))]) Tryz.func90 rfl ?_
 refine zf (ze (zb (zt (some 1) (Instr.box 44 (vA (zai x))) (vP w.heap.size 0) (zai x) 44 ?_)))
 intro w1 hBw1 hEw1
 have hzw1:=hEw1.size;have hlw1:=hBw1.lt
 refine zd 2 [(3,(vI 0)),(2,(.slice none 0 0))] (zg (zc (zf (zf (ze (zb (zj (some 5) (Instr.loadAt 44 (vP w.heap.size 0)) (vA (zai x)) (zD (vs:=zai x) (hBw1.all) (by rw [zaS];kernel_rfl)) ?_)))))))
 refine zb (zi (some 6) (zfT x _) ?_)
 rintro _ w2 ⟨rfl,hEw2⟩
 have hzw2:=hEw2.size
 refine zd 1 [(4,(vI (zaV x)))] (zg (zc (zf (ze (zd 1 [(7,(vI (zaV x)))] (zb (zat (some 8) (((zaV x:Nat):Int) !=((0:Nat):Int)) false (zaL (by omega)) ?_)))))))
 refine zg (zc (zr (zy (zc (zf (zag (Ext w2.drew) 9 [(11,2,0),(12,1024,1),(13,2048,2),(14,2,0),(15,8192,8),(16,20480,20),(17,32768,32),(3,65536,127),(4,0,255)] (fun hT543=> ?_)))))))
 have hEw3:Ext w2 w2.drew:=Ext.drew w2
 generalize w2.drew=w3 at hEw3⊢
 have hzw3:=hEw3.size
 refine zk hT543 [(0,10,(vP w.heap.size 0))] 1 1 (zh hT543 1 3 (some 11) (vB x.st) (zl (Instr.loadAt 5 (vP w.heap.size 0)) (fun w' hC=>zo (((((hBw1.ext hEw2)).ext hEw3).ext hC).cell rfl))) (zk hT543 [(3,13,(vP w.heap.size 1))] 1 11 (zh hT543 4 27 (some 14) (.slice (pA w.heap.size 1) 32 32) (zl (Instr.sliceAt 23 (vP w.heap.size 1) none none none) (fun w' hC=>zhB (E:=5) (sz:=1) (m:=32))) ?_)))
 have hS1:Bs w.heap.size (w.heap.size+1) w3 (pA w.heap.size 1) 32 32 x.dg.l:=Bs.of_at ((((hBw1.ext hEw2)).ext hEw3).at 1 (zw x.dg) (zdR _)) ((((hBw1.ext hEw2)).ext hEw3)).lt x.dg.h.symm (by decide) (by omega) (by omega)
 refine zn 2 31 (zt (some 12) (Instr.buildSlice 57 1 #[(0,(vB x.st))]) (.slice (pA w3.heap.size 0) 1 1) [(vB x.st)] 5 ?_)
 intro w4 hBw4 hEw4
 have hzw4:=hEw4.size;have hlw4:=hBw4.lt
 have hSw4:Bs w3.heap.size (w3.heap.size+1) w4 (pA w3.heap.size 0) 1 1 [UInt8.ofNat x.st]:=Bs.of_blk hBw4 (zcb x.hst) rfl (Nat.le_refl _) (by decide) (Nat.le_refl _) (Nat.lt_succ_self _)
 refine ⟨.inr hEw4, ?_⟩
 refine zn 5 63 (zt (some 15) (Instr.buildSlice 183 2 #[(0,(.slice (pA w3.heap.size 0) 1 1)),(1,(.slice (pA w.heap.size 1) 32 32))]) (.slice (pA w4.heap.size 0) 2 2) [(.slice (pA w3.heap.size 0) 1 1),(.slice (pA w.heap.size 1) 32 32)] 57 ?_)
 intro w5 hBw5 hEw5
 have hzw5:=hEw5.size;have hlw5:=hBw5.lt
 have hSw5:Ps 0 w5.heap.size w5 (pA w4.heap.size 0) 2 2 [(.slice (pA w3.heap.size 0) 1 1),(.slice (pA w.heap.size 1) 32 32)] [[UInt8.ofNat x.st],x.dg.l]:=Ps.of_new hBw5 rfl (by decide) (zaP.cons (zch.at (hSw4.ext hEw5)) (zaP.cons (zch.at (((hS1.ext hEw4)).ext hEw5)) zaP.nil))
 have hX1:Ext w3 w5:=(hEw4.trans hEw5)
 refine ⟨.inr hX1, ?_⟩
 refine zn 6 127 (zi (some 16) (zhu _ hSw5 (by simp [zU,za1,x.dg.h])) ?_)
 rintro _ w6 ⟨a1,rfl,hFz2_0,hFz2_1,hFz2_2,hFz2_3,hEw6⟩
 have hzw6:=hEw6.size
 have hla1:=hFz2_1.lt;have hna1:=hFz2_3
 have hSa1:Bs a1 (a1+1) w6 (pA a1 0) (zU ([[UInt8.ofNat x.st],x.dg.l])) (zU ([[UInt8.ofNat x.st],x.dg.l])) (([[UInt8.ofNat x.st],x.dg.l]).flatten):=Bs.of_blk hFz2_1 rfl hFz2_2 (Nat.le_refl _) (zbV hna1) (Nat.le_refl _) (Nat.lt_succ_self _)
 rw [show zU ([[UInt8.ofNat x.st],x.dg.l])=33 from by simp [zU,za1,x.dg.h]]
 have hX2:Ext w3 w6:=((hEw4.trans hEw5).trans hEw6)
 refine ⟨.inr hX2, ?_⟩
 refine zk (hw:=hX2) hT543 [(7,2,(.slice (pA a1 0) 33 33)),(8,3,(vI 0))] 2 511 (zJ (zc (zx (zB (.tuple #[(.slice (pA a1 0) 33 33),(vI 0)]) ?_))))
 have hX3:Ext w w6:=(((((hEw1.trans hEw2).trans hEw3).trans hEw4).trans hEw5).trans hEw6)
 have hz:=hSa1
 rw [show zU ([[UInt8.ofNat x.st],x.dg.l])=33 from by simp [zU,za1,x.dg.h],show ([[UInt8.ofNat x.st],x.dg.l]).flatten=zbC x from by simp [zbh,zbC,zcC]] at hz
 exact ⟨_,rfl,hz.mono (by omega) (by omega),hX3⟩
end Go.Proofs.YtgdpdnokcnhgnaaGreatDoor
namespace Go.Proofs.YtgdpdnokcnhgnaaGreatDoor
open Go Go.RowKit Go.Cs
set_option maxRecDepth 100000
end Go.Proofs.YtgdpdnokcnhgnaaGreatDoor
namespace Go.Proofs.YtgdpdnokcnhgnaaGreatDoor
open Go Go.RowKit Go.Cs
set_option maxRecDepth 100000
end Go.Proofs.YtgdpdnokcnhgnaaGreatDoor
namespace Go.Proofs.YtgdpdnokcnhgnaaGreatDoor
open Go Go.RowKit Go.Cs
set_option maxRecDepth 100000
theorem zkQ (n:Nat) (w:World) (hp0:1≤n) (hp1:n≤4096):
  Calls Tryz.prog 98 #[(vI n)] w (Ret fun r w'=>r=(vI 0)∧w=w'):=by
 refine zL (n:=9) (σ:= [(0,(vI n))]) Tryz.func98 rfl ?_
 refine zf (ze (zd 1 [(2,(vI 0))] (zg (zc (zf (zf (ze (zd 1 [(3,(vI n))] (zb (zat (some 4) (decide (((n:Nat):Int)<((1:Nat):Int))) false (zce (by omega)) ?_))))))))))
 refine zd 2 [(6,(vI n)),(5,vF)] (zb (zat (some 7) (decide (((n:Nat):Int)>((4096:Nat):Int))) false (zce (by omega)) ?_))
 refine zd 1 [(8,vF)] (zg (zc (zr (zy (zc (zf (ze (zd 1 [(2,(vI 0))] (zg ?_)))))))))
 exact zc (zx (zB (vI 0) (⟨rfl,rfl⟩)))
theorem zmr (n:Int) (w:World) (hp0:n<1):
  Calls Tryz.prog 98 #[(.int .i64 n)] w (Ret fun r w'=>r=(vI 1)∧w=w'):=by
 refine zL (n:=9) (σ:= [(0,(.int .i64 n))]) Tryz.func98 rfl ?_
 refine zf (ze (zd 1 [(2,(vI 0))] (zg (zc (zf (zf (ze (zd 1 [(3,(.int .i64 n))] (zb (zat (some 4) (decide (n<((1:Nat):Int))) true (zeu (by omega)) ?_))))))))))
 refine zd 4 [(8,vT),(7,undef),(6,undef),(5,vT)] (zg (zc (zF (zf (ze (zd 1 [(2,(vI 1))] (zg (zc (zx ?_)))))))))
 exact zu (zB (vI 1) (⟨rfl,rfl⟩))
theorem zmg (n:Int) (w:World) (hp0:n>4096):
  Calls Tryz.prog 98 #[(.int .i64 n)] w (Ret fun r w'=>r=(vI 1)∧w=w'):=by
 refine zL (n:=9) (σ:= [(0,(.int .i64 n))]) Tryz.func98 rfl ?_
 refine zf (ze (zd 1 [(2,(vI 0))] (zg (zc (zf (zf (ze (zd 1 [(3,(.int .i64 n))] (zb (zat (some 4) (decide (n<((1:Nat):Int))) false (zce (by omega)) ?_))))))))))
 refine zd 2 [(6,(.int .i64 n)),(5,vF)] (zb (zat (some 7) (decide (n>((4096:Nat):Int))) true (zeu (by omega)) ?_))
 refine zd 1 [(8,vT)] (zg (zc (zF (zf (ze (zd 1 [(2,(vI 1))] (zg (zc (zx ?_)))))))))
 exact zu (zB (vI 1) (⟨rfl,rfl⟩))
theorem zlF (n:Int) (w:World) (hp0:¬(1≤n∧n≤4096)):
  Calls Tryz.prog 98 #[(.int .i64 n)] w (Ret fun r w'=>r=(vI 1)∧w=w'):=by
 by_cases h:n<1
 ·exact zmr n w h
 ·exact zmg n w (by omega)
theorem zkL (n:Nat) (w:World) (hp0:n≤4096):
  Calls Tryz.prog 121 #[(vI n)] w (Ret fun r w'=>r=(vI (up4 n))∧w=w'):=by
 refine zL (n:=7) (σ:= [(0,(vI n))]) Tryz.func121 rfl ?_
 refine zf (ze (zd 1 [(2,(vI 0))] (zg (zc (zf (ze (zd 1 [(3,(vI n))] (zb (zv (some 4) .i64 (IntKind.i64.wrap (((n:Nat):Int)+((4:Nat):Int))) (n+4) (zG (by omega) (by omega) (by omega)) ?_)))))))))
 refine zb (zv (some 5) .i64 (IntKind.i64.wrap (((n+4:Nat):Int)-((1:Nat):Int))) (n+3) (zG (by omega) (by omega) (by omega)) ?_)
 refine zb (zv (some 6) .i64 (IntKind.i64.wrap (((n+3:Nat):Int).tdiv ((4:Nat):Int))) ((n+3)/4) (zG (ze3 _ _) (by omega) (by omega)) ?_)
 exact zd 1 [(2,(vI ((n+3)/4)))] (zg (zc (zx (zB (vI ((n+3)/4)) (⟨rfl,rfl⟩)))))
theorem znL (n:Nat) (w:World) (hp0:1≤n) (hp1:n≤4096):
  Calls Tryz.prog 113 #[(vI n)] w (Ret fun r w'=>∃a0 ca0,r=(.slice a0 (hgt n+1) ca0)∧Es (nv .i64) w.heap.size w'.heap.size w' a0 (hgt n+1) ca0 (cts n)∧Ext w w'):=by
 refine zL (n:=18) (σ:= [(0,(vI n))]) Tryz.func113 rfl ?_
 refine zf (ze (zd 1 [(2,(.slice none 0 0))] (zg (zc (zf (ze (zb (zt (some 3) (Instr.alloc 213 true (.tuple #[])) (vP w.heap.size 0) (List.replicate 6 (vI 0)) 213 ?_))))))))
 intro w1 hBw1 hEw1
 have hzw1:=hEw1.size;have hlw1:=hBw1.lt
 refine zg (zc (zf (ze (zb (zj (some 6) (Instr.sliceAt 213 (vP w.heap.size 0) (some (vI 0)) (some (vI 0)) (some (vI 6))) (.slice (pA w.heap.size 0) 0 6) (zna (len:=6) (E:=3) (sz:=1) (l:=0) (r:=0) (m:=6) (.inr ⟨_,rfl⟩) (.inr ⟨_,rfl⟩) (.inr ⟨_,rfl⟩) (by simp) (by omega) (by omega) (by omega)) ?_)))))
 refine zd 1 [(4,(.slice (pA w.heap.size 0) 0 6))] (zg (zc (zf (ze (zd 1 [(7,(vI n))] (zb (zi (some 8) (zkL n _ (by omega)) ?_)))))))
 rintro _ _ ⟨rfl,rfl⟩
 refine zd 1 [(5,(vI (up4 n)))] (zg (zc (zI (zah (X:=Nat) (fun k=> [(4,(.slice (pA w.heap.size 0) k 6)),(5,(vI (cnt n k)))]) [2,9,10,11,12,13,14,15,16,17] (fun k w2=>k≤hgt n∧Blk w2 w.heap.size (((cts n).take k).map (nv .i64)++List.replicate (6-k) (vI 0)) 213∧Ext w w2) (fun k=>hgt n-k) 0 (by kernel_rfl) ⟨by omega,hBw1,hEw1⟩ ?_))))
 rintro k dw2 w2 ⟨hk,hBl,hEl⟩
 have hzl:=hEl.size;have hll:=hBl.lt;have h5:=zaz n;have hcn:=zcF n k
 refine zf (zI (zf (ze (zd 2 [(12,(vI (cnt n k))),(11,(.slice (pA w.heap.size 0) k 6))] (zb (zt (some 13) (Instr.buildSlice 40 1 #[(0,(vI (cnt n k)))]) (.slice (pA w2.heap.size 0) 1 1) [(vI (cnt n k))] 3 ?_))))))
 intro w3 hBw3 hEw3
 have hzw3:=hEw3.size;have hlw3:=hBw3.lt
 have hSw3:Es (nv .i64) w2.heap.size (w2.heap.size+1) w3 (pA w2.heap.size 0) 1 1 ([cnt n k]):=Es.of_blk hBw3 rfl rfl (Nat.le_refl _) (by decide) (Nat.le_refl _) (Nat.lt_succ_self _)
 refine zb (zb5 (some 14) 40 40 3 1 w.heap.size k 6 ⟨w2.heap.size,0,none⟩ 1 1 (hBl.ext hEw3) hSw3.sla rfl (by simp [nv,Value.oneCell']) (by simp [zdb];omega) ?_)
 intro w4 hBw4 hCw4
 have hzw4:=hCw4.size
 replace hBw4:Blk w4 w.heap.size (((cts n).take (k+1)).map (nv .i64)++List.replicate (6-(k+1)) (vI 0)) 213:=zpO hk▸hBw4
 refine zd 1 [(4,(.slice (pA w.heap.size 0) (k+1) 6))] (zg (zc (zf (ze (zd 1 [(15,(vI (cnt n k)))] (zb (zO (some 16) ((((cnt n k:Nat):Int)==((1:Nat):Int))) (fun hc16=> ?_) (fun hc16=> ?_))))))))
 ·replace hc16:cnt n k=1:=by have:=zbL hc16;omega
  obtain rfl:=(zfc hp0 hp1 hk).1 hc16
  refine zg (zc (zF (zf (ze (zd 2 [(2,(.slice (pA w.heap.size 0) (hgt n+1) 6)),(17,(.slice (pA w.heap.size 0) (hgt n+1) 6))] (zg (zc (zx (zA ?_)))))))))
  refine zu (zu (zA (zB (.slice (pA w.heap.size 0) (hgt n+1) 6) ?_)))
  have hBf:=hBw4
  rw [List.take_of_length_le (by rw [zdb];omega)] at hBf
  exact ⟨_,_,rfl,Es.of_pre hBf (zdb n).symm (by omega) (by decide) (by omega) (by omega),(Ext.own (hEl.trans hEw3) hCw4 (by omega))⟩
 ·replace hc16:¬(cnt n k=1):=by have:=zbK hc16;omega
  have hlt:k<hgt n:=by rcases Nat.lt_or_ge k (hgt n) with h | h;exact h;exact absurd ((zfc hp0 hp1 hk).2 (by omega)) hc16
  refine zg (zc (zr (zy (zp (zc (ze (zd 1 [(9,(vI (cnt n k)))] (zb (zi (some 10) (zkL (cnt n k) _ (by omega)) ?_)))))))))
  rintro _ _ ⟨rfl,rfl⟩
  refine zd 1 [(5,(vI (up4 (cnt n k))))] (zg (zC (zS (k+1) ?_ ?_)))
  ·exact ⟨by omega,hBw4,(Ext.own (hEl.trans hEw3) hCw4 (by omega))⟩
  ·first | omega |(dsimp only;omega)
theorem zfG (n:Nat) (w:World) (hp0:1≤n) (hp1:n≤4096):
  Calls Tryz.prog 92 #[(vI n)] w (Ret fun r w'=>∃a1 ca1,r=(.tuple #[(vA [(vI n),(.slice a1 (hgt n+1) ca1)]),(vI 0)])∧Es (nv .i64) w.heap.size w'.heap.size w' a1 (hgt n+1) ca1 (cts n)∧Ext w w'):=by
 refine zL (n:=15) (σ:= [(0,(vI n))]) Tryz.func92 rfl ?_
 refine zf (ze (zb (zt (some 2) (Instr.alloc 131 true (.tuple #[])) (vP w.heap.size 0) ([(vI 0),(.slice none 0 0)]) 131 ?_)))
 intro w1 hBw1 hEw1
 have hzw1:=hEw1.size;have hlw1:=hBw1.lt
 refine zd 1 [(3,(vI 0))] (zg (zc (zf (zf (ze (zd 1 [(5,(vI n))] (zb (zi (some 6) (zkQ n _ (by omega) (by omega)) ?_))))))))
 rintro _ _ ⟨rfl,rfl⟩
 refine zd 1 [(4,(vI 0))] (zg (zc (zf (ze (zd 2 [(8,vF),(7,(vI 0))] (zg (zc (zr (zy ?_)))))))))
 refine zc (zf (ze (zd 2 [(12,(vI n)),(11,(vI n))] (zb (zi (some 13) (znL n _ (by omega) (by omega)) ?_)))))
 rintro _ w2 ⟨a1,ca1,rfl,hFz2_0,hEw2⟩
 have hzw2:=hEw2.size
 have hlea1:=hFz2_0.le
 refine zd 1 [(14,(vA [(vI n),(.slice a1 (hgt n+1) ca1)]))] (zb (zz 131 w.heap.size 0 131 (vA [(vI n),(.slice a1 (hgt n+1) ca1)]) ([(vI 0),(.slice none 0 0)]) ([(vI n),(.slice a1 (hgt n+1) ca1)]) (hBw1.ext hEw2) (by kernel_rfl) (by first | decide |(simp;done)|(simp;omega)) (by simp [Value.oneCell']) ?_))
 intro w3 hBw3 hCw3
 have hzw3:=hCw3.size
 rw [zm _ _ (by kernel_rfl)] at hBw3
 exact zd 1 [(3,(vI 0))] (zg (zc (zx (zas (show zab Tryz.prog 15 _ _ (.cell 2 131) (vA [(vI n),(.slice a1 (hgt n+1) ca1)]) from ⟨⟨w.heap.size,0,none⟩,(by kernel_rfl),zP (T:=131) (vs:= [(vI n),(.slice a1 (hgt n+1) ca1)]) (hBw3).all (by kernel_rfl)⟩) (show zab Tryz.prog 15 _ _ (.tmp 3) (vI 0) by (show _=_;kernel_rfl)) (⟨_,_,rfl,(((hFz2_0).chg hCw3 (fun k h1 h2 hs=>by have h:k=_:=hs;omega))).now.mono (by omega) (Nat.le_refl _),(Ext.own (hEw1.trans hEw2) hCw3 (by omega))⟩)))))
theorem zh8 (n:Int) (w:World) (hp0:¬(1≤n∧n≤4096)):
  Calls Tryz.prog 92 #[(.int .i64 n)] w (Ret fun r w'=>r=(.tuple #[(vA [(vI 0),(.slice none 0 0)]),(vI 1)])∧Ext w w'):=by
 refine zL (n:=15) (σ:= [(0,(.int .i64 n))]) Tryz.func92 rfl ?_
 refine zf (ze (zb (zt (some 2) (Instr.alloc 131 true (.tuple #[])) (vP w.heap.size 0) ([(vI 0),(.slice none 0 0)]) 131 ?_)))
 intro w1 hBw1 hEw1
 have hzw1:=hEw1.size;have hlw1:=hBw1.lt
 refine zd 1 [(3,(vI 0))] (zg (zc (zf (zf (ze (zd 1 [(5,(.int .i64 n))] (zb (zi (some 6) (zlF n _ (by omega)) ?_))))))))
 rintro _ _ ⟨rfl,rfl⟩
 refine zd 1 [(4,(vI 1))] (zg (zc (zf (ze (zd 2 [(8,vT),(7,(vI 1))] (zg (zc (zF (zf ?_)))))))))
 refine ze (zd 2 [(10,(vI 1)),(9,(vA [(vI 0),(.slice none 0 0)]))] (zb (zz 131 w.heap.size 0 131 (vA [(vI 0),(.slice none 0 0)]) ([(vI 0),(.slice none 0 0)]) ([(vI 0),(.slice none 0 0)]) hBw1 (by kernel_rfl) (by first | decide |(simp;done)|(simp;omega)) (by simp [Value.oneCell']) ?_)))
 intro w2 hBw2 hCw2
 have hzw2:=hCw2.size
 rw [zm _ _ (by kernel_rfl)] at hBw2
 exact zd 1 [(3,(vI 1))] (zg (zc (zx (zu (zas (show zab Tryz.prog 15 _ _ (.cell 2 131) (vA [(vI 0),(.slice none 0 0)]) from ⟨⟨w.heap.size,0,none⟩,(by kernel_rfl),zP (T:=131) (vs:= [(vI 0),(.slice none 0 0)]) (hBw2).all (by kernel_rfl)⟩) (show zab Tryz.prog 15 _ _ (.tmp 3) (vI 1) by (show _=_;kernel_rfl)) (⟨rfl,(Ext.own hEw1 hCw2 (by omega))⟩))))))
end Go.Proofs.YtgdpdnokcnhgnaaGreatDoor
namespace Go.Proofs.YtgdpdnokcnhgnaaGreatDoor
open Go Go.RowKit Go.Cs
set_option maxRecDepth 100000
theorem zrs (n:Nat) (l:Nat) (j:Nat) (w:World) (hp0:1≤n) (hp1:n≤4096) (hp2:l≤hgt n) (hp3:j<cnt n l):
  Calls Tryz.prog 100 #[(vI n),(vA [(vI l),(vI j)])] w (Ret fun r w'=>∃a1 ca1,r=(.tuple #[(vA [(vI n),(.slice a1 (hgt n+1) ca1)]),(vI 0)])∧Es (nv .i64) w.heap.size w'.heap.size w' a1 (hgt n+1) ca1 (cts n)∧Ext w w'):=by
 refine zL (n:=46) (σ:= [(0,(vI n)),(1,(vA [(vI l),(vI j)]))]) Tryz.func100 rfl ?_
 have h5:=zaz n
 refine zf (ze (zb (zt (some 3) (Instr.box 70 (vA [(vI l),(vI j)])) (vP w.heap.size 0) ([(vI l),(vI j)]) 70 ?_)))
 intro w1 hBw1 hEw1
 have hzw1:=hEw1.size;have hlw1:=hBw1.lt
 refine zb (zt (some 4) (Instr.alloc 131 true (.tuple #[])) (vP w1.heap.size 0) ([(vI 0),(.slice none 0 0)]) 131 ?_)
 intro w2 hBw2 hEw2
 have hzw2:=hEw2.size;have hlw2:=hBw2.lt
 refine zd 1 [(5,(vI 0))] (zg (zc (zf (ze (zd 1 [(9,(vI n))] (zb (zi (some 10) (zfG n _ (by omega) (by omega)) ?_)))))))
 rintro _ w3 ⟨a1,ca1,rfl,hFz1_0,hEw3⟩
 have hzw3:=hEw3.size
 have hlea1:=hFz1_0.le
 refine zd 3 [(12,(vI 0)),(11,(vA [(vI n),(.slice a1 (hgt n+1) ca1)])),(8,(.tuple #[(vA [(vI n),(.slice a1 (hgt n+1) ca1)]),(vI 0)]))] (zb (zt (some 6) (Instr.alloc 131 true (.tuple #[])) (vP w3.heap.size 0) ([(vI 0),(.slice none 0 0)]) 131 ?_))
 intro w4 hBw4 hEw4
 have hzw4:=hEw4.size;have hlw4:=hBw4.lt
 refine zb (zz 131 w3.heap.size 0 131 (vA [(vI n),(.slice a1 (hgt n+1) ca1)]) ([(vI 0),(.slice none 0 0)]) ([(vI n),(.slice a1 (hgt n+1) ca1)]) hBw4 (by kernel_rfl) (by first | decide |(simp;done)|(simp;omega)) (by simp [Value.oneCell']) ?_)
 intro w5 hBw5 hCw5
 have hzw5:=hCw5.size
 rw [zm _ _ (by kernel_rfl)] at hBw5
 refine zd 1 [(7,(vI 0))] (zg (zc (zf (zf (zag (Ext w5.drew) 31 [(14,128,0),(15,8192,1),(16,16384,2),(17,32776,4),(18,98304,12),(19,163840,20),(20,294912,36),(21,524296,64),(22,1572864,192),(23,524352,64),(24,4718592,576),(25,8912896,1088),(26,19398656,2368),(27,34111488,4164),(28,67141632,8260),(29,134217736,16384),(30,402653184,49152),(31,671088640,81920),(32,1207992320,147460),(33,2147516416,278532),(34,4294967304,524288),(35,12884901888,1572864),(36,4294967360,524288),(37,38654705664,4718592),(38,4294967304,524288),(39,141733920768,17301504),(40,347892350976,42467328),(41,554050781184,67633152),(42,1120986464256,136839168),(43,2203318255616,268959748),(44,4398046543872,536870916)] (fun hT35=> ?_))))))
 have hEw6:Ext w5 w5.drew:=Ext.drew w5
 generalize w5.drew=w6 at hEw6⊢
 have hzw6:=hEw6.size
 refine zk hT35 [(0,13,(vI 0))] 1 1 (zh hT35 1 3 (some 14) vT (zaI (((0:Nat):Int)==((0:Nat):Int)) (zbt (by omega))) (zk hT35 [(2,15,vT),(3,16,(vP w.heap.size 0))] 2 15 ?_))
 have hK1:=(((((((((hBw1.ext hEw2)).ext hEw3)).ext hEw4)).chg hCw5 (fun hs=>by have h:_=_:=hs;omega))).ext hEw6)
 refine zh hT35 4 31 (some 17) (vI l) (zl (Instr.loadAt 3 (vP w.heap.size 0)) (fun w' hC=>zo ((hK1.ext hC).cell rfl))) (zh hT35 5 63 (some 18) vF (zaI (decide (((l:Nat):Int)<((0:Nat):Int))) (zce (by omega))) (zk hT35 [(6,19,vF),(7,20,(vP w.heap.size 0))] 2 255 (zh hT35 8 511 (some 21) (vI l) (zl (Instr.loadAt 3 (vP w.heap.size 0)) (fun w' hC=>zo ((hK1.ext hC).cell rfl))) (zk hT35 [(9,22,(vP w3.heap.size 1))] 1 1023 (zh hT35 10 2047 (some 23) (.slice a1 (hgt n+1) ca1) (zl (Instr.loadAt 40 (vP w3.heap.size 1)) (fun w' hC=>zo (((hBw5.ext hEw6).ext hC).cell rfl))) (zk hT35 [(11,24,(vI (hgt n+1)))] 1 4095 (zh hT35 12 8191 (some 25) vF (zaI (decide (((l:Nat):Int)≥((hgt n+1:Nat):Int))) (zce (by omega))) (zk hT35 [(13,26,vF),(14,27,vF),(15,28,(vP w.heap.size 1))] 3 65535 (zh hT35 16 131071 (some 29) (vI j) (zl (Instr.loadAt 3 (vP w.heap.size 1)) (fun w' hC=>zo ((hK1.ext hC).cell rfl))) ?_)))))))))
 refine zh hT35 17 262143 (some 30) vF (zaI (decide (((j:Nat):Int)<((0:Nat):Int))) (zce (by omega))) (zk hT35 [(18,31,vF),(19,32,vF),(20,33,(vP w.heap.size 1))] 3 2097151 (zh hT35 21 4194303 (some 34) (vI j) (zl (Instr.loadAt 3 (vP w.heap.size 1)) (fun w' hC=>zo ((hK1.ext hC).cell rfl))) (zk hT35 [(22,35,(vP w3.heap.size 1))] 1 8388607 (zh hT35 23 16777215 (some 36) (.slice a1 (hgt n+1) ca1) (zl (Instr.loadAt 40 (vP w3.heap.size 1)) (fun w' hC=>zo (((hBw5.ext hEw6).ext hC).cell rfl))) (zk hT35 [(24,37,(vP w.heap.size 0))] 1 33554431 (zh hT35 25 67108863 (some 38) (vI l) (zl (Instr.loadAt 3 (vP w.heap.size 0)) (fun w' hC=>zo ((hK1.ext hC).cell rfl))) ?_))))))
 obtain ⟨b1,o1,rfl⟩:=hFz1_0.addr (by omega)
 refine zh hT35 26 134217727 (some 39) (vP b1 (o1+l*1)) (zl (Instr.indexAt 40 (.slice (pA b1 o1) (hgt n+1) ca1) (vI l)) (fun w' hC=>zap (E:=3) (sz:=1) (by omega))) ?_
 have hK2:=(((((hFz1_0.ext hEw4)).chg hCw5 (fun k h1 h2 hs=>by have h:k=_:=hs;omega))).ext hEw6)
 refine zh hT35 27 268435455 (some 40) (vI (gt (cts n) l)) (zl (Instr.loadAt 3 (vP b1 (o1+l*1))) (fun w' hC=>zo ((hK2.ext hC).celln (by omega)))) (zh hT35 28 536870911 (some 41) vF (zaI (decide (((j:Nat):Int)≥((gt (cts n) l:Nat):Int))) (zce (by rw [zhv hp2];omega))) (zk hT35 [(29,42,vF),(30,43,vF)] 2 2147483647 (zJ (zc (zr (zy (zc (zf (ze ?_)))))))))
 refine zb (zj (some 44) (Instr.loadAt 131 (vP w3.heap.size 0)) (vA [(vI n),(.slice (pA b1 o1) (hgt n+1) ca1)]) (zD (vs:= [(vI n),(.slice (pA b1 o1) (hgt n+1) ca1)]) ((hBw5.ext hEw6).all)) ?_)
 refine zd 1 [(45,(vI 0))] ?_
 have hK3:=(((((((hBw2.ext hEw3)).ext hEw4)).chg hCw5 (fun hs=>by have h:_=_:=hs;omega))).ext hEw6)
 refine zb (zz 131 w1.heap.size 0 131 (vA [(vI n),(.slice (pA b1 o1) (hgt n+1) ca1)]) ([(vI 0),(.slice none 0 0)]) ([(vI n),(.slice (pA b1 o1) (hgt n+1) ca1)]) hK3 (by kernel_rfl) (by first | decide |(simp;done)|(simp;omega)) (by simp [Value.oneCell']) ?_)
 have hK4:=(((((((hBw2.ext hEw3)).ext hEw4)).chg hCw5 (fun hs=>by have h:_=_:=hs;omega))).ext hEw6)
 intro w7 hBw7 hCw7
 have hzw7:=hCw7.size
 rw [zm _ _ (by kernel_rfl)] at hBw7
 refine zd 1 [(5,(vI 0))] (zg (zc (zx (zas (show zab Tryz.prog 46 _ _ (.cell 4 131) (vA [(vI n),(.slice (pA b1 o1) (hgt n+1) ca1)]) from ⟨⟨w1.heap.size,0,none⟩,(by kernel_rfl),zP (T:=131) (vs:= [(vI n),(.slice (pA b1 o1) (hgt n+1) ca1)]) (hBw7).all (by kernel_rfl)⟩) (show zab Tryz.prog 46 _ _ (.tmp 5) (vI 0) by (show _=_;kernel_rfl)) ?_))))
 have hX1:Ext w w7:=(Ext.own ((Ext.own (((hEw1.trans hEw2).trans hEw3).trans hEw4) hCw5 (by omega)).trans hEw6) hCw7 (by omega))
 exact ⟨_,_,rfl,(((hK2).chg hCw7 (fun k h1 h2 hs=>by have h:k=_:=hs;omega))).now.mono (by omega) (Nat.le_refl _),hX1⟩
theorem zqX (n:Int) (l:Int) (j:Int) (w:World) (hp0:¬(1≤n∧n≤4096)):
  Calls Tryz.prog 100 #[(.int .i64 n),(vA [(.int .i64 l),(.int .i64 j)])] w (Ret fun r w'=>∃(a0:Int) (a1:Option Addr) (na1:Nat) (ca1:Nat),r=(.tuple #[(vA [(.int .i64 a0),(.slice a1 na1 ca1)]),(vI 1)])∧Ext w w'):=by
 refine zL (n:=46) (σ:= [(0,(.int .i64 n)),(1,(vA [(.int .i64 l),(.int .i64 j)]))]) Tryz.func100 rfl ?_
 refine zf (ze (zb (zt (some 3) (Instr.box 70 (vA [(.int .i64 l),(.int .i64 j)])) (vP w.heap.size 0) ([(.int .i64 l),(.int .i64 j)]) 70 ?_)))
 intro w1 hBw1 hEw1
 have hzw1:=hEw1.size;have hlw1:=hBw1.lt
 refine zb (zt (some 4) (Instr.alloc 131 true (.tuple #[])) (vP w1.heap.size 0) ([(vI 0),(.slice none 0 0)]) 131 ?_)
 intro w2 hBw2 hEw2
 have hzw2:=hEw2.size;have hlw2:=hBw2.lt
 refine zd 1 [(5,(vI 0))] (zg (zc (zf (ze (zd 1 [(9,(.int .i64 n))] (zb (zi (some 10) (zh8 n _ (by omega)) ?_)))))))
 rintro _ w3 ⟨rfl,hEw3⟩
 have hzw3:=hEw3.size
 refine zd 3 [(12,(vI 1)),(11,(vA [(vI 0),(.slice none 0 0)])),(8,(.tuple #[(vA [(vI 0),(.slice none 0 0)]),(vI 1)]))] (zb (zt (some 6) (Instr.alloc 131 true (.tuple #[])) (vP w3.heap.size 0) ([(vI 0),(.slice none 0 0)]) 131 ?_))
 intro w4 hBw4 hEw4
 have hzw4:=hEw4.size;have hlw4:=hBw4.lt
 refine zb (zz 131 w3.heap.size 0 131 (vA [(vI 0),(.slice none 0 0)]) ([(vI 0),(.slice none 0 0)]) ([(vI 0),(.slice none 0 0)]) hBw4 (by kernel_rfl) (by first | decide |(simp;done)|(simp;omega)) (by simp [Value.oneCell']) ?_)
 intro w5 hBw5 hCw5
 have hzw5:=hCw5.size
 rw [zm _ _ (by kernel_rfl)] at hBw5
 refine zd 1 [(7,(vI 1))] (zg (zc (zf (zf (zag (Ext w5.drew) 31 [(14,128,0),(15,8192,1),(16,16384,2),(17,32776,4),(18,98304,12),(19,163840,20),(20,294912,36),(21,524296,64),(22,1572864,192),(23,524352,64),(24,4718592,576),(25,8912896,1088),(26,19398656,2368),(27,34111488,4164),(28,67141632,8260),(29,134217736,16384),(30,402653184,49152),(31,671088640,81920),(32,1207992320,147460),(33,2147516416,278532),(34,4294967304,524288),(35,12884901888,1572864),(36,4294967360,524288),(37,38654705664,4718592),(38,4294967304,524288),(39,141733920768,17301504),(40,347892350976,42467328),(41,554050781184,67633152),(42,1120986464256,136839168),(43,2203318255616,268959748),(44,4398046543872,536870916)] (fun hT78=> ?_))))))
 have hEw6:Ext w5 w5.drew:=Ext.drew w5
 generalize w5.drew=w6 at hEw6⊢
 have hzw6:=hEw6.size
 refine zk hT78 [(0,13,(vI 1))] 1 1 (zh hT78 1 3 (some 14) vF (zaI (((1:Nat):Int)==((0:Nat):Int)) (zbW (by omega))) (zk hT78 [(2,15,vF),(3,16,undef),(4,17,undef),(5,18,undef),(6,19,undef),(7,20,undef),(8,21,undef),(9,22,undef),(10,23,undef),(11,24,undef),(12,25,undef),(13,26,undef),(14,27,undef),(15,28,undef),(16,29,undef),(17,30,undef),(18,31,undef),(19,32,undef),(20,33,undef),(21,34,undef),(22,35,undef),(23,36,undef),(24,37,undef),(25,38,undef),(26,39,undef),(27,40,undef),(28,41,undef),(29,42,undef),(30,43,vF)] 29 2147483647 (zJ (zc (zr (zy (zc (zf (ze ?_)))))))))
 refine zb (zj (some 44) (Instr.loadAt 131 (vP w3.heap.size 0)) (vA [(vI 0),(.slice none 0 0)]) (zD (vs:= [(vI 0),(.slice none 0 0)]) ((hBw5.ext hEw6).all)) ?_)
 refine zd 1 [(45,(vI 1))] ?_
 have hK1:=(((((((hBw2.ext hEw3)).ext hEw4)).chg hCw5 (fun hs=>by have h:_=_:=hs;omega))).ext hEw6)
 refine zb (zz 131 w1.heap.size 0 131 (vA [(vI 0),(.slice none 0 0)]) ([(vI 0),(.slice none 0 0)]) ([(vI 0),(.slice none 0 0)]) hK1 (by kernel_rfl) (by first | decide |(simp;done)|(simp;omega)) (by simp [Value.oneCell']) ?_)
 have hK2:=(((((((hBw2.ext hEw3)).ext hEw4)).chg hCw5 (fun hs=>by have h:_=_:=hs;omega))).ext hEw6)
 intro w7 hBw7 hCw7
 have hzw7:=hCw7.size
 rw [zm _ _ (by kernel_rfl)] at hBw7
 refine zd 1 [(5,(vI 1))] (zg (zc (zx (zas (show zab Tryz.prog 46 _ _ (.cell 4 131) (vA [(vI 0),(.slice none 0 0)]) from ⟨⟨w1.heap.size,0,none⟩,(by kernel_rfl),zP (T:=131) (vs:= [(vI 0),(.slice none 0 0)]) (hBw7).all (by kernel_rfl)⟩) (show zab Tryz.prog 46 _ _ (.tmp 5) (vI 1) by (show _=_;kernel_rfl)) ?_))))
 have hX1:Ext w w7:=(Ext.own ((Ext.own (((hEw1.trans hEw2).trans hEw3).trans hEw4) hCw5 (by omega)).trans hEw6) hCw7 (by omega))
 exact ⟨_,_,_,_,rfl,hX1⟩
theorem zqB (n:Nat) (l:Int) (j:Int) (w:World) (hp0:1≤n) (hp1:n≤4096) (hp2:l<0):
  Calls Tryz.prog 100 #[(vI n),(vA [(.int .i64 l),(.int .i64 j)])] w (Ret fun r w'=>∃(a0:Int) (a1:Option Addr) (na1:Nat) (ca1:Nat),r=(.tuple #[(vA [(.int .i64 a0),(.slice a1 na1 ca1)]),(vI 1)])∧Ext w w'):=by
 refine zL (n:=46) (σ:= [(0,(vI n)),(1,(vA [(.int .i64 l),(.int .i64 j)]))]) Tryz.func100 rfl ?_
 refine zf (ze (zb (zt (some 3) (Instr.box 70 (vA [(.int .i64 l),(.int .i64 j)])) (vP w.heap.size 0) ([(.int .i64 l),(.int .i64 j)]) 70 ?_)))
 intro w1 hBw1 hEw1
 have hzw1:=hEw1.size;have hlw1:=hBw1.lt
 refine zb (zt (some 4) (Instr.alloc 131 true (.tuple #[])) (vP w1.heap.size 0) ([(vI 0),(.slice none 0 0)]) 131 ?_)
 intro w2 hBw2 hEw2
 have hzw2:=hEw2.size;have hlw2:=hBw2.lt
 refine zd 1 [(5,(vI 0))] (zg (zc (zf (ze (zd 1 [(9,(vI n))] (zb (zi (some 10) (zfG n _ (by omega) (by omega)) ?_)))))))
 rintro _ w3 ⟨a1,ca1,rfl,hFz1_0,hEw3⟩
 have hzw3:=hEw3.size
 have hlea1:=hFz1_0.le
 refine zd 3 [(12,(vI 0)),(11,(vA [(vI n),(.slice a1 (hgt n+1) ca1)])),(8,(.tuple #[(vA [(vI n),(.slice a1 (hgt n+1) ca1)]),(vI 0)]))] (zb (zt (some 6) (Instr.alloc 131 true (.tuple #[])) (vP w3.heap.size 0) ([(vI 0),(.slice none 0 0)]) 131 ?_))
 intro w4 hBw4 hEw4
 have hzw4:=hEw4.size;have hlw4:=hBw4.lt
 refine zb (zz 131 w3.heap.size 0 131 (vA [(vI n),(.slice a1 (hgt n+1) ca1)]) ([(vI 0),(.slice none 0 0)]) ([(vI n),(.slice a1 (hgt n+1) ca1)]) hBw4 (by kernel_rfl) (by first | decide |(simp;done)|(simp;omega)) (by simp [Value.oneCell']) ?_)
 intro w5 hBw5 hCw5
 have hzw5:=hCw5.size
 rw [zm _ _ (by kernel_rfl)] at hBw5
 refine zd 1 [(7,(vI 0))] (zg (zc (zf (zf (zag (Ext w5.drew) 31 [(14,128,0),(15,8192,1),(16,16384,2),(17,32776,4),(18,98304,12),(19,163840,20),(20,294912,36),(21,524296,64),(22,1572864,192),(23,524352,64),(24,4718592,576),(25,8912896,1088),(26,19398656,2368),(27,34111488,4164),(28,67141632,8260),(29,134217736,16384),(30,402653184,49152),(31,671088640,81920),(32,1207992320,147460),(33,2147516416,278532),(34,4294967304,524288),(35,12884901888,1572864),(36,4294967360,524288),(37,38654705664,4718592),(38,4294967304,524288),(39,141733920768,17301504),(40,347892350976,42467328),(41,554050781184,67633152),(42,1120986464256,136839168),(43,2203318255616,268959748),(44,4398046543872,536870916)] (fun hT115=> ?_))))))
 have hEw6:Ext w5 w5.drew:=Ext.drew w5
 generalize w5.drew=w6 at hEw6⊢
 have hzw6:=hEw6.size
 refine zk hT115 [(0,13,(vI 0))] 1 1 (zh hT115 1 3 (some 14) vT (zaI (((0:Nat):Int)==((0:Nat):Int)) (zbt (by omega))) (zk hT115 [(2,15,vT),(3,16,(vP w.heap.size 0))] 2 15 ?_))
 have hK1:=(((((((((hBw1.ext hEw2)).ext hEw3)).ext hEw4)).chg hCw5 (fun hs=>by have h:_=_:=hs;omega))).ext hEw6)
 refine zh hT115 4 31 (some 17) (.int .i64 l) (zl (Instr.loadAt 3 (vP w.heap.size 0)) (fun w' hC=>zo ((hK1.ext hC).cell rfl))) (zh hT115 5 63 (some 18) vT (zaI (decide (l<((0:Nat):Int))) (zeu (by omega))) (zk hT115 [(6,19,vT),(7,20,undef),(8,21,undef),(9,22,undef),(10,23,undef),(11,24,undef),(12,25,undef),(13,26,vT),(14,27,vT),(15,28,undef),(16,29,undef),(17,30,undef),(18,31,vT),(19,32,vT),(20,33,undef),(21,34,undef),(22,35,undef),(23,36,undef),(24,37,undef),(25,38,undef),(26,39,undef),(27,40,undef),(28,41,undef),(29,42,vT),(30,43,vT)] 25 2147483647 (zJ (zc (zF (ze (zd 1 [(7,(vI 1))] (zg (zc ?_)))))))))
 refine zf (ze (zb (zj (some 44) (Instr.loadAt 131 (vP w3.heap.size 0)) (vA [(vI n),(.slice a1 (hgt n+1) ca1)]) (zD (vs:= [(vI n),(.slice a1 (hgt n+1) ca1)]) ((hBw5.ext hEw6).all)) ?_)))
 refine zd 1 [(45,(vI 1))] ?_
 have hK2:=(((((((hBw2.ext hEw3)).ext hEw4)).chg hCw5 (fun hs=>by have h:_=_:=hs;omega))).ext hEw6)
 refine zb (zz 131 w1.heap.size 0 131 (vA [(vI n),(.slice a1 (hgt n+1) ca1)]) ([(vI 0),(.slice none 0 0)]) ([(vI n),(.slice a1 (hgt n+1) ca1)]) hK2 (by kernel_rfl) (by first | decide |(simp;done)|(simp;omega)) (by simp [Value.oneCell']) ?_)
 have hK3:=(((((((hBw2.ext hEw3)).ext hEw4)).chg hCw5 (fun hs=>by have h:_=_:=hs;omega))).ext hEw6)
 intro w7 hBw7 hCw7
 have hzw7:=hCw7.size
 rw [zm _ _ (by kernel_rfl)] at hBw7
 refine zd 1 [(5,(vI 1))] (zg (zc (zx (zas (show zab Tryz.prog 46 _ _ (.cell 4 131) (vA [(vI n),(.slice a1 (hgt n+1) ca1)]) from ⟨⟨w1.heap.size,0,none⟩,(by kernel_rfl),zP (T:=131) (vs:= [(vI n),(.slice a1 (hgt n+1) ca1)]) (hBw7).all (by kernel_rfl)⟩) (show zab Tryz.prog 46 _ _ (.tmp 5) (vI 1) by (show _=_;kernel_rfl)) ?_))))
 have hX1:Ext w w7:=(Ext.own ((Ext.own (((hEw1.trans hEw2).trans hEw3).trans hEw4) hCw5 (by omega)).trans hEw6) hCw7 (by omega))
 exact ⟨_,_,_,_,rfl,hX1⟩
theorem zqF (n:Nat) (l:Int) (j:Int) (w:World) (hp0:1≤n) (hp1:n≤4096) (hp2:(hgt n:Int)<l):
  Calls Tryz.prog 100 #[(vI n),(vA [(.int .i64 l),(.int .i64 j)])] w (Ret fun r w'=>∃(a0:Int) (a1:Option Addr) (na1:Nat) (ca1:Nat),r=(.tuple #[(vA [(.int .i64 a0),(.slice a1 na1 ca1)]),(vI 1)])∧Ext w w'):=by
 refine zL (n:=46) (σ:= [(0,(vI n)),(1,(vA [(.int .i64 l),(.int .i64 j)]))]) Tryz.func100 rfl ?_
 refine zf (ze (zb (zt (some 3) (Instr.box 70 (vA [(.int .i64 l),(.int .i64 j)])) (vP w.heap.size 0) ([(.int .i64 l),(.int .i64 j)]) 70 ?_)))
 intro w1 hBw1 hEw1
 have hzw1:=hEw1.size;have hlw1:=hBw1.lt
 refine zb (zt (some 4) (Instr.alloc 131 true (.tuple #[])) (vP w1.heap.size 0) ([(vI 0),(.slice none 0 0)]) 131 ?_)
 intro w2 hBw2 hEw2
 have hzw2:=hEw2.size;have hlw2:=hBw2.lt
 refine zd 1 [(5,(vI 0))] (zg (zc (zf (ze (zd 1 [(9,(vI n))] (zb (zi (some 10) (zfG n _ (by omega) (by omega)) ?_)))))))
 rintro _ w3 ⟨a1,ca1,rfl,hFz1_0,hEw3⟩
 have hzw3:=hEw3.size
 have hlea1:=hFz1_0.le
 refine zd 3 [(12,(vI 0)),(11,(vA [(vI n),(.slice a1 (hgt n+1) ca1)])),(8,(.tuple #[(vA [(vI n),(.slice a1 (hgt n+1) ca1)]),(vI 0)]))] (zb (zt (some 6) (Instr.alloc 131 true (.tuple #[])) (vP w3.heap.size 0) ([(vI 0),(.slice none 0 0)]) 131 ?_))
 intro w4 hBw4 hEw4
 have hzw4:=hEw4.size;have hlw4:=hBw4.lt
 refine zb (zz 131 w3.heap.size 0 131 (vA [(vI n),(.slice a1 (hgt n+1) ca1)]) ([(vI 0),(.slice none 0 0)]) ([(vI n),(.slice a1 (hgt n+1) ca1)]) hBw4 (by kernel_rfl) (by first | decide |(simp;done)|(simp;omega)) (by simp [Value.oneCell']) ?_)
 intro w5 hBw5 hCw5
 have hzw5:=hCw5.size
 rw [zm _ _ (by kernel_rfl)] at hBw5
 refine zd 1 [(7,(vI 0))] (zg (zc (zf (zf (zag (Ext w5.drew) 31 [(14,128,0),(15,8192,1),(16,16384,2),(17,32776,4),(18,98304,12),(19,163840,20),(20,294912,36),(21,524296,64),(22,1572864,192),(23,524352,64),(24,4718592,576),(25,8912896,1088),(26,19398656,2368),(27,34111488,4164),(28,67141632,8260),(29,134217736,16384),(30,402653184,49152),(31,671088640,81920),(32,1207992320,147460),(33,2147516416,278532),(34,4294967304,524288),(35,12884901888,1572864),(36,4294967360,524288),(37,38654705664,4718592),(38,4294967304,524288),(39,141733920768,17301504),(40,347892350976,42467328),(41,554050781184,67633152),(42,1120986464256,136839168),(43,2203318255616,268959748),(44,4398046543872,536870916)] (fun hT154=> ?_))))))
 have hEw6:Ext w5 w5.drew:=Ext.drew w5
 generalize w5.drew=w6 at hEw6⊢
 have hzw6:=hEw6.size
 refine zk hT154 [(0,13,(vI 0))] 1 1 (zh hT154 1 3 (some 14) vT (zaI (((0:Nat):Int)==((0:Nat):Int)) (zbt (by omega))) (zk hT154 [(2,15,vT),(3,16,(vP w.heap.size 0))] 2 15 ?_))
 have hK1:=(((((((((hBw1.ext hEw2)).ext hEw3)).ext hEw4)).chg hCw5 (fun hs=>by have h:_=_:=hs;omega))).ext hEw6)
 refine zh hT154 4 31 (some 17) (.int .i64 l) (zl (Instr.loadAt 3 (vP w.heap.size 0)) (fun w' hC=>zo ((hK1.ext hC).cell rfl))) (zh hT154 5 63 (some 18) vF (zaI (decide (l<((0:Nat):Int))) (zce (by omega))) (zk hT154 [(6,19,vF),(7,20,(vP w.heap.size 0))] 2 255 (zh hT154 8 511 (some 21) (.int .i64 l) (zl (Instr.loadAt 3 (vP w.heap.size 0)) (fun w' hC=>zo ((hK1.ext hC).cell rfl))) (zk hT154 [(9,22,(vP w3.heap.size 1))] 1 1023 (zh hT154 10 2047 (some 23) (.slice a1 (hgt n+1) ca1) (zl (Instr.loadAt 40 (vP w3.heap.size 1)) (fun w' hC=>zo (((hBw5.ext hEw6).ext hC).cell rfl))) (zk hT154 [(11,24,(vI (hgt n+1)))] 1 4095 (zh hT154 12 8191 (some 25) vT (zaI (decide (l≥((hgt n+1:Nat):Int))) (zeu (by omega))) (zk hT154 [(13,26,vT),(14,27,vT),(15,28,undef),(16,29,undef),(17,30,undef),(18,31,vT),(19,32,vT),(20,33,undef),(21,34,undef),(22,35,undef),(23,36,undef),(24,37,undef),(25,38,undef),(26,39,undef),(27,40,undef),(28,41,undef),(29,42,vT),(30,43,vT)] 18 2147483647 (zJ ?_)))))))))
 refine zc (zF (ze (zd 1 [(7,(vI 1))] (zg (zc (zf (ze (zb (zj (some 44) (Instr.loadAt 131 (vP w3.heap.size 0)) (vA [(vI n),(.slice a1 (hgt n+1) ca1)]) (zD (vs:= [(vI n),(.slice a1 (hgt n+1) ca1)]) ((hBw5.ext hEw6).all)) ?_)))))))))
 refine zd 1 [(45,(vI 1))] ?_
 have hK2:=(((((((hBw2.ext hEw3)).ext hEw4)).chg hCw5 (fun hs=>by have h:_=_:=hs;omega))).ext hEw6)
 refine zb (zz 131 w1.heap.size 0 131 (vA [(vI n),(.slice a1 (hgt n+1) ca1)]) ([(vI 0),(.slice none 0 0)]) ([(vI n),(.slice a1 (hgt n+1) ca1)]) hK2 (by kernel_rfl) (by first | decide |(simp;done)|(simp;omega)) (by simp [Value.oneCell']) ?_)
 have hK3:=(((((((hBw2.ext hEw3)).ext hEw4)).chg hCw5 (fun hs=>by have h:_=_:=hs;omega))).ext hEw6)
 intro w7 hBw7 hCw7
 have hzw7:=hCw7.size
 rw [zm _ _ (by kernel_rfl)] at hBw7
 refine zd 1 [(5,(vI 1))] (zg (zc (zx (zas (show zab Tryz.prog 46 _ _ (.cell 4 131) (vA [(vI n),(.slice a1 (hgt n+1) ca1)]) from ⟨⟨w1.heap.size,0,none⟩,(by kernel_rfl),zP (T:=131) (vs:= [(vI n),(.slice a1 (hgt n+1) ca1)]) (hBw7).all (by kernel_rfl)⟩) (show zab Tryz.prog 46 _ _ (.tmp 5) (vI 1) by (show _=_;kernel_rfl)) ?_))))
 have hX1:Ext w w7:=(Ext.own ((Ext.own (((hEw1.trans hEw2).trans hEw3).trans hEw4) hCw5 (by omega)).trans hEw6) hCw7 (by omega))
 exact ⟨_,_,_,_,rfl,hX1⟩
theorem zqi (n:Nat) (l:Nat) (j:Int) (w:World) (hp0:1≤n) (hp1:n≤4096) (hp2:l≤hgt n) (hp3:j<0):
  Calls Tryz.prog 100 #[(vI n),(vA [(vI l),(.int .i64 j)])] w (Ret fun r w'=>∃(a0:Int) (a1:Option Addr) (na1:Nat) (ca1:Nat),r=(.tuple #[(vA [(.int .i64 a0),(.slice a1 na1 ca1)]),(vI 1)])∧Ext w w'):=by
 refine zL (n:=46) (σ:= [(0,(vI n)),(1,(vA [(vI l),(.int .i64 j)]))]) Tryz.func100 rfl ?_
 refine zf (ze (zb (zt (some 3) (Instr.box 70 (vA [(vI l),(.int .i64 j)])) (vP w.heap.size 0) ([(vI l),(.int .i64 j)]) 70 ?_)))
 intro w1 hBw1 hEw1
 have hzw1:=hEw1.size;have hlw1:=hBw1.lt
 refine zb (zt (some 4) (Instr.alloc 131 true (.tuple #[])) (vP w1.heap.size 0) ([(vI 0),(.slice none 0 0)]) 131 ?_)
 intro w2 hBw2 hEw2
 have hzw2:=hEw2.size;have hlw2:=hBw2.lt
 refine zd 1 [(5,(vI 0))] (zg (zc (zf (ze (zd 1 [(9,(vI n))] (zb (zi (some 10) (zfG n _ (by omega) (by omega)) ?_)))))))
 rintro _ w3 ⟨a1,ca1,rfl,hFz1_0,hEw3⟩
 have hzw3:=hEw3.size
 have hlea1:=hFz1_0.le
 refine zd 3 [(12,(vI 0)),(11,(vA [(vI n),(.slice a1 (hgt n+1) ca1)])),(8,(.tuple #[(vA [(vI n),(.slice a1 (hgt n+1) ca1)]),(vI 0)]))] (zb (zt (some 6) (Instr.alloc 131 true (.tuple #[])) (vP w3.heap.size 0) ([(vI 0),(.slice none 0 0)]) 131 ?_))
 intro w4 hBw4 hEw4
 have hzw4:=hEw4.size;have hlw4:=hBw4.lt
 refine zb (zz 131 w3.heap.size 0 131 (vA [(vI n),(.slice a1 (hgt n+1) ca1)]) ([(vI 0),(.slice none 0 0)]) ([(vI n),(.slice a1 (hgt n+1) ca1)]) hBw4 (by kernel_rfl) (by first | decide |(simp;done)|(simp;omega)) (by simp [Value.oneCell']) ?_)
 intro w5 hBw5 hCw5
 have hzw5:=hCw5.size
 rw [zm _ _ (by kernel_rfl)] at hBw5
 refine zd 1 [(7,(vI 0))] (zg (zc (zf (zf (zag (Ext w5.drew) 31 [(14,128,0),(15,8192,1),(16,16384,2),(17,32776,4),(18,98304,12),(19,163840,20),(20,294912,36),(21,524296,64),(22,1572864,192),(23,524352,64),(24,4718592,576),(25,8912896,1088),(26,19398656,2368),(27,34111488,4164),(28,67141632,8260),(29,134217736,16384),(30,402653184,49152),(31,671088640,81920),(32,1207992320,147460),(33,2147516416,278532),(34,4294967304,524288),(35,12884901888,1572864),(36,4294967360,524288),(37,38654705664,4718592),(38,4294967304,524288),(39,141733920768,17301504),(40,347892350976,42467328),(41,554050781184,67633152),(42,1120986464256,136839168),(43,2203318255616,268959748),(44,4398046543872,536870916)] (fun hT193=> ?_))))))
 have hEw6:Ext w5 w5.drew:=Ext.drew w5
 generalize w5.drew=w6 at hEw6⊢
 have hzw6:=hEw6.size
 refine zk hT193 [(0,13,(vI 0))] 1 1 (zh hT193 1 3 (some 14) vT (zaI (((0:Nat):Int)==((0:Nat):Int)) (zbt (by omega))) (zk hT193 [(2,15,vT),(3,16,(vP w.heap.size 0))] 2 15 ?_))
 have hK1:=(((((((((hBw1.ext hEw2)).ext hEw3)).ext hEw4)).chg hCw5 (fun hs=>by have h:_=_:=hs;omega))).ext hEw6)
 refine zh hT193 4 31 (some 17) (vI l) (zl (Instr.loadAt 3 (vP w.heap.size 0)) (fun w' hC=>zo ((hK1.ext hC).cell rfl))) (zh hT193 5 63 (some 18) vF (zaI (decide (((l:Nat):Int)<((0:Nat):Int))) (zce (by omega))) (zk hT193 [(6,19,vF),(7,20,(vP w.heap.size 0))] 2 255 (zh hT193 8 511 (some 21) (vI l) (zl (Instr.loadAt 3 (vP w.heap.size 0)) (fun w' hC=>zo ((hK1.ext hC).cell rfl))) (zk hT193 [(9,22,(vP w3.heap.size 1))] 1 1023 (zh hT193 10 2047 (some 23) (.slice a1 (hgt n+1) ca1) (zl (Instr.loadAt 40 (vP w3.heap.size 1)) (fun w' hC=>zo (((hBw5.ext hEw6).ext hC).cell rfl))) (zk hT193 [(11,24,(vI (hgt n+1)))] 1 4095 (zh hT193 12 8191 (some 25) vF (zaI (decide (((l:Nat):Int)≥((hgt n+1:Nat):Int))) (zce (by omega))) (zk hT193 [(13,26,vF),(14,27,vF),(15,28,(vP w.heap.size 1))] 3 65535 (zh hT193 16 131071 (some 29) (.int .i64 j) (zl (Instr.loadAt 3 (vP w.heap.size 1)) (fun w' hC=>zo ((hK1.ext hC).cell rfl))) ?_)))))))))
 refine zh hT193 17 262143 (some 30) vT (zaI (decide (j<((0:Nat):Int))) (zeu (by omega))) (zk hT193 [(18,31,vT),(19,32,vT),(20,33,undef),(21,34,undef),(22,35,undef),(23,36,undef),(24,37,undef),(25,38,undef),(26,39,undef),(27,40,undef),(28,41,undef),(29,42,vT),(30,43,vT)] 13 2147483647 (zJ (zc (zF (ze (zd 1 [(7,(vI 1))] (zg (zc (zf ?_)))))))))
 refine ze (zb (zj (some 44) (Instr.loadAt 131 (vP w3.heap.size 0)) (vA [(vI n),(.slice a1 (hgt n+1) ca1)]) (zD (vs:= [(vI n),(.slice a1 (hgt n+1) ca1)]) ((hBw5.ext hEw6).all)) ?_))
 refine zd 1 [(45,(vI 1))] ?_
 have hK2:=(((((((hBw2.ext hEw3)).ext hEw4)).chg hCw5 (fun hs=>by have h:_=_:=hs;omega))).ext hEw6)
 refine zb (zz 131 w1.heap.size 0 131 (vA [(vI n),(.slice a1 (hgt n+1) ca1)]) ([(vI 0),(.slice none 0 0)]) ([(vI n),(.slice a1 (hgt n+1) ca1)]) hK2 (by kernel_rfl) (by first | decide |(simp;done)|(simp;omega)) (by simp [Value.oneCell']) ?_)
 have hK3:=(((((((hBw2.ext hEw3)).ext hEw4)).chg hCw5 (fun hs=>by have h:_=_:=hs;omega))).ext hEw6)
 intro w7 hBw7 hCw7
 have hzw7:=hCw7.size
 rw [zm _ _ (by kernel_rfl)] at hBw7
 refine zd 1 [(5,(vI 1))] (zg (zc (zx (zas (show zab Tryz.prog 46 _ _ (.cell 4 131) (vA [(vI n),(.slice a1 (hgt n+1) ca1)]) from ⟨⟨w1.heap.size,0,none⟩,(by kernel_rfl),zP (T:=131) (vs:= [(vI n),(.slice a1 (hgt n+1) ca1)]) (hBw7).all (by kernel_rfl)⟩) (show zab Tryz.prog 46 _ _ (.tmp 5) (vI 1) by (show _=_;kernel_rfl)) ?_))))
 have hX1:Ext w w7:=(Ext.own ((Ext.own (((hEw1.trans hEw2).trans hEw3).trans hEw4) hCw5 (by omega)).trans hEw6) hCw7 (by omega))
 exact ⟨_,_,_,_,rfl,hX1⟩
theorem zrl (n:Nat) (l:Nat) (j:Nat) (w:World) (hp0:1≤n) (hp1:n≤4096) (hp2:l≤hgt n) (hp3:cnt n l≤j):
  Calls Tryz.prog 100 #[(vI n),(vA [(vI l),(vI j)])] w (Ret fun r w'=>∃(a0:Int) (a1:Option Addr) (na1:Nat) (ca1:Nat),r=(.tuple #[(vA [(.int .i64 a0),(.slice a1 na1 ca1)]),(vI 1)])∧Ext w w'):=by
 refine zL (n:=46) (σ:= [(0,(vI n)),(1,(vA [(vI l),(vI j)]))]) Tryz.func100 rfl ?_
 have h5:=zaz n
 refine zf (ze (zb (zt (some 3) (Instr.box 70 (vA [(vI l),(vI j)])) (vP w.heap.size 0) ([(vI l),(vI j)]) 70 ?_)))
 intro w1 hBw1 hEw1
 have hzw1:=hEw1.size;have hlw1:=hBw1.lt
 refine zb (zt (some 4) (Instr.alloc 131 true (.tuple #[])) (vP w1.heap.size 0) ([(vI 0),(.slice none 0 0)]) 131 ?_)
 intro w2 hBw2 hEw2
 have hzw2:=hEw2.size;have hlw2:=hBw2.lt
 refine zd 1 [(5,(vI 0))] (zg (zc (zf (ze (zd 1 [(9,(vI n))] (zb (zi (some 10) (zfG n _ (by omega) (by omega)) ?_)))))))
 rintro _ w3 ⟨a1,ca1,rfl,hFz1_0,hEw3⟩
 have hzw3:=hEw3.size
 have hlea1:=hFz1_0.le
 refine zd 3 [(12,(vI 0)),(11,(vA [(vI n),(.slice a1 (hgt n+1) ca1)])),(8,(.tuple #[(vA [(vI n),(.slice a1 (hgt n+1) ca1)]),(vI 0)]))] (zb (zt (some 6) (Instr.alloc 131 true (.tuple #[])) (vP w3.heap.size 0) ([(vI 0),(.slice none 0 0)]) 131 ?_))
 intro w4 hBw4 hEw4
 have hzw4:=hEw4.size;have hlw4:=hBw4.lt
 refine zb (zz 131 w3.heap.size 0 131 (vA [(vI n),(.slice a1 (hgt n+1) ca1)]) ([(vI 0),(.slice none 0 0)]) ([(vI n),(.slice a1 (hgt n+1) ca1)]) hBw4 (by kernel_rfl) (by first | decide |(simp;done)|(simp;omega)) (by simp [Value.oneCell']) ?_)
 intro w5 hBw5 hCw5
 have hzw5:=hCw5.size
 rw [zm _ _ (by kernel_rfl)] at hBw5
 refine zd 1 [(7,(vI 0))] (zg (zc (zf (zf (zag (Ext w5.drew) 31 [(14,128,0),(15,8192,1),(16,16384,2),(17,32776,4),(18,98304,12),(19,163840,20),(20,294912,36),(21,524296,64),(22,1572864,192),(23,524352,64),(24,4718592,576),(25,8912896,1088),(26,19398656,2368),(27,34111488,4164),(28,67141632,8260),(29,134217736,16384),(30,402653184,49152),(31,671088640,81920),(32,1207992320,147460),(33,2147516416,278532),(34,4294967304,524288),(35,12884901888,1572864),(36,4294967360,524288),(37,38654705664,4718592),(38,4294967304,524288),(39,141733920768,17301504),(40,347892350976,42467328),(41,554050781184,67633152),(42,1120986464256,136839168),(43,2203318255616,268959748),(44,4398046543872,536870916)] (fun hT234=> ?_))))))
 have hEw6:Ext w5 w5.drew:=Ext.drew w5
 generalize w5.drew=w6 at hEw6⊢
 have hzw6:=hEw6.size
 refine zk hT234 [(0,13,(vI 0))] 1 1 (zh hT234 1 3 (some 14) vT (zaI (((0:Nat):Int)==((0:Nat):Int)) (zbt (by omega))) (zk hT234 [(2,15,vT),(3,16,(vP w.heap.size 0))] 2 15 ?_))
 have hK1:=(((((((((hBw1.ext hEw2)).ext hEw3)).ext hEw4)).chg hCw5 (fun hs=>by have h:_=_:=hs;omega))).ext hEw6)
 refine zh hT234 4 31 (some 17) (vI l) (zl (Instr.loadAt 3 (vP w.heap.size 0)) (fun w' hC=>zo ((hK1.ext hC).cell rfl))) (zh hT234 5 63 (some 18) vF (zaI (decide (((l:Nat):Int)<((0:Nat):Int))) (zce (by omega))) (zk hT234 [(6,19,vF),(7,20,(vP w.heap.size 0))] 2 255 (zh hT234 8 511 (some 21) (vI l) (zl (Instr.loadAt 3 (vP w.heap.size 0)) (fun w' hC=>zo ((hK1.ext hC).cell rfl))) (zk hT234 [(9,22,(vP w3.heap.size 1))] 1 1023 (zh hT234 10 2047 (some 23) (.slice a1 (hgt n+1) ca1) (zl (Instr.loadAt 40 (vP w3.heap.size 1)) (fun w' hC=>zo (((hBw5.ext hEw6).ext hC).cell rfl))) (zk hT234 [(11,24,(vI (hgt n+1)))] 1 4095 (zh hT234 12 8191 (some 25) vF (zaI (decide (((l:Nat):Int)≥((hgt n+1:Nat):Int))) (zce (by omega))) (zk hT234 [(13,26,vF),(14,27,vF),(15,28,(vP w.heap.size 1))] 3 65535 (zh hT234 16 131071 (some 29) (vI j) (zl (Instr.loadAt 3 (vP w.heap.size 1)) (fun w' hC=>zo ((hK1.ext hC).cell rfl))) ?_)))))))))
 refine zh hT234 17 262143 (some 30) vF (zaI (decide (((j:Nat):Int)<((0:Nat):Int))) (zce (by omega))) (zk hT234 [(18,31,vF),(19,32,vF),(20,33,(vP w.heap.size 1))] 3 2097151 (zh hT234 21 4194303 (some 34) (vI j) (zl (Instr.loadAt 3 (vP w.heap.size 1)) (fun w' hC=>zo ((hK1.ext hC).cell rfl))) (zk hT234 [(22,35,(vP w3.heap.size 1))] 1 8388607 (zh hT234 23 16777215 (some 36) (.slice a1 (hgt n+1) ca1) (zl (Instr.loadAt 40 (vP w3.heap.size 1)) (fun w' hC=>zo (((hBw5.ext hEw6).ext hC).cell rfl))) (zk hT234 [(24,37,(vP w.heap.size 0))] 1 33554431 (zh hT234 25 67108863 (some 38) (vI l) (zl (Instr.loadAt 3 (vP w.heap.size 0)) (fun w' hC=>zo ((hK1.ext hC).cell rfl))) ?_))))))
 obtain ⟨b1,o1,rfl⟩:=hFz1_0.addr (by omega)
 refine zh hT234 26 134217727 (some 39) (vP b1 (o1+l*1)) (zl (Instr.indexAt 40 (.slice (pA b1 o1) (hgt n+1) ca1) (vI l)) (fun w' hC=>zap (E:=3) (sz:=1) (by omega))) ?_
 have hK2:=(((((hFz1_0.ext hEw4)).chg hCw5 (fun k h1 h2 hs=>by have h:k=_:=hs;omega))).ext hEw6)
 refine zh hT234 27 268435455 (some 40) (vI (gt (cts n) l)) (zl (Instr.loadAt 3 (vP b1 (o1+l*1))) (fun w' hC=>zo ((hK2.ext hC).celln (by omega)))) (zh hT234 28 536870911 (some 41) vT (zaI (decide (((j:Nat):Int)≥((gt (cts n) l:Nat):Int))) (zeu (by rw [zhv hp2];omega))) (zk hT234 [(29,42,vT),(30,43,vT)] 2 2147483647 (zJ (zc (zF (ze (zd 1 [(7,(vI 1))] (zg (zc ?_)))))))))
 refine zf (ze (zb (zj (some 44) (Instr.loadAt 131 (vP w3.heap.size 0)) (vA [(vI n),(.slice (pA b1 o1) (hgt n+1) ca1)]) (zD (vs:= [(vI n),(.slice (pA b1 o1) (hgt n+1) ca1)]) ((hBw5.ext hEw6).all)) ?_)))
 refine zd 1 [(45,(vI 1))] ?_
 have hK3:=(((((((hBw2.ext hEw3)).ext hEw4)).chg hCw5 (fun hs=>by have h:_=_:=hs;omega))).ext hEw6)
 refine zb (zz 131 w1.heap.size 0 131 (vA [(vI n),(.slice (pA b1 o1) (hgt n+1) ca1)]) ([(vI 0),(.slice none 0 0)]) ([(vI n),(.slice (pA b1 o1) (hgt n+1) ca1)]) hK3 (by kernel_rfl) (by first | decide |(simp;done)|(simp;omega)) (by simp [Value.oneCell']) ?_)
 have hK4:=(((((((hBw2.ext hEw3)).ext hEw4)).chg hCw5 (fun hs=>by have h:_=_:=hs;omega))).ext hEw6)
 intro w7 hBw7 hCw7
 have hzw7:=hCw7.size
 rw [zm _ _ (by kernel_rfl)] at hBw7
 refine zd 1 [(5,(vI 1))] (zg (zc (zx (zas (show zab Tryz.prog 46 _ _ (.cell 4 131) (vA [(vI n),(.slice (pA b1 o1) (hgt n+1) ca1)]) from ⟨⟨w1.heap.size,0,none⟩,(by kernel_rfl),zP (T:=131) (vs:= [(vI n),(.slice (pA b1 o1) (hgt n+1) ca1)]) (hBw7).all (by kernel_rfl)⟩) (show zab Tryz.prog 46 _ _ (.tmp 5) (vI 1) by (show _=_;kernel_rfl)) ?_))))
 have hX1:Ext w w7:=(Ext.own ((Ext.own (((hEw1.trans hEw2).trans hEw3).trans hEw4) hCw5 (by omega)).trans hEw6) hCw7 (by omega))
 exact ⟨_,_,_,_,rfl,hX1⟩
theorem zpq (n:Int) (l:Int) (j:Int) (w:World) (hp0:¬((1≤n∧n≤4096)∧(0≤l∧l≤hgt n.toNat)∧(0≤j∧j<cnt n.toNat l.toNat))):
  Calls Tryz.prog 100 #[(.int .i64 n),(vA [(.int .i64 l),(.int .i64 j)])] w (Ret fun r w'=>∃(a0:Int) (a1:Option Addr) (na1:Nat) (ca1:Nat),r=(.tuple #[(vA [(.int .i64 a0),(.slice a1 na1 ca1)]),(vI 1)])∧Ext w w'):=by
 by_cases h:1≤n∧n≤4096
 ·obtain ⟨m,rfl⟩:=Int.eq_ofNat_of_zero_le (show 0≤n by omega)
  rw [Int.toNat_natCast] at hp0
  by_cases hl:l<0
  ·exact zqB m l j w (by omega) (by omega) hl
  ·obtain ⟨k,rfl⟩:=Int.eq_ofNat_of_zero_le (show 0≤l by omega)
   rw [Int.toNat_natCast] at hp0
   by_cases hk:(hgt m:Int)<k
   ·exact zqF m k j w (by omega) (by omega) hk
   ·by_cases hj:j<0
    ·exact zqi m k j w (by omega) (by omega) (by omega) hj
    ·obtain ⟨i,rfl⟩:=Int.eq_ofNat_of_zero_le (show 0≤j by omega)
     exact zrl m k i w (by omega) (by omega) (by omega) (by omega)
 ·exact zqX n l j w h
theorem zpo (n:Nat) {lo_c hi_c:Nat} {a_c:Option Addr} {n_c c_c:Nat} (l:Nat) (w:World) (h_c:Es (nv .i64) lo_c hi_c w a_c n_c c_c (cts n)) (hp0:l≤hgt n+1):
  Calls Tryz.prog 117 #[(vA [(vI n),(.slice a_c n_c c_c)]),(vI l)] w (Ret fun r w'=>r=(vI (und n l))∧Ext w w'):=by
 refine zL (n:=15) (σ:= [(0,(vA [(vI n),(.slice a_c n_c c_c)])),(1,(vI l))]) Tryz.func117 rfl ?_
 replace h_c:=h_c.now;have hle_c:=h_c.le
 have hcl:=h_c.len_eq
 rw [zdb] at hcl
 have h5:=zaz n
 refine zf (ze (zb (zt (some 2) (Instr.box 131 (vA [(vI n),(.slice a_c n_c c_c)])) (vP w.heap.size 0) ([(vI n),(.slice a_c n_c c_c)]) 131 ?_)))
 intro w1 hBw1 hEw1
 have hzw1:=hEw1.size;have hlw1:=hBw1.lt
 refine zd 1 [(4,(vI 0))] (zg (zc (zf (zf (ze (zd 1 [(5,(vI l))] (zb (zO (some 6) ((((l:Nat):Int)==((0:Nat):Int))) (fun hc6=> ?_) (fun hc6=> ?_)))))))))
 ·replace hc6:l=0:=by have:=zbL hc6;omega
  refine zg (zc (zF (zf (ze (zd 1 [(7,(vP w.heap.size 0))] (zb (zj (some 8) (Instr.loadAt 3 (vP w.heap.size 0)) (vI n) (zo (hBw1.cell rfl)) ?_)))))))
  exact zd 1 [(4,(vI n))] (zg (zc (zx (zu (zB (vI n) (⟨by subst hc6;rfl,hEw1⟩))))))
 ·replace hc6:¬(l=0):=by have:=zbK hc6;omega
  refine zg (zc (zr (zy (zc (zf (ze (zd 1 [(9,(vP w.heap.size 1))] (zb (zj (some 10) (Instr.loadAt 40 (vP w.heap.size 1)) (.slice a_c n_c c_c) (zo (hBw1.cell rfl)) ?_)))))))))
  refine zd 1 [(11,(vI l))] (zb (zv (some 12) .i64 (IntKind.i64.wrap (((l:Nat):Int)-((1:Nat):Int))) (l-1) (zG (by omega) (by omega) (by omega)) ?_))
  obtain ⟨b1,o1,rfl⟩:=h_c.addr (by omega)
  refine zb (zj (some 13) (Instr.indexAt 40 (.slice (pA b1 o1) n_c c_c) (vI (l-1))) (vP b1 (o1+(l-1)*1)) (zap (E:=3) (sz:=1) (by omega)) ?_)
  refine zb (zj (some 14) (Instr.loadAt 3 (vP b1 (o1+(l-1)*1))) (vI (gt (cts n) (l-1))) (zo ((h_c.ext hEw1).celln (by omega))) ?_)
  exact zd 1 [(4,(vI (gt (cts n) (l-1))))] (zg (zc (zx (zB (vI (gt (cts n) (l-1))) (⟨by rw [zkc hc6 hp0],hEw1⟩)))))
theorem znC (n:Nat) (w:World) (hp0:1≤n) (hp1:n≤4096):
  Calls Tryz.prog 70 #[(vI n)] w (Ret fun r w'=>r=(.tuple #[(vI (hgt n)),(vI 0)])∧Ext w w'):=by
 refine zL (n:=18) (σ:= [(0,(vI n))]) Tryz.func70 rfl ?_
 have h5:=zaz n
 refine zf (ze (zd 2 [(3,(vI 0)),(2,(vI 0))] (zg (zc (zf (ze (zd 1 [(7,(vI n))] (zb (zi (some 8) (zfG n _ (by omega) (by omega)) ?_)))))))))
 rintro _ w1 ⟨a1,ca1,rfl,hFz1_0,hEw1⟩
 have hzw1:=hEw1.size
 have hlea1:=hFz1_0.le
 refine zd 3 [(10,(vI 0)),(9,(vA [(vI n),(.slice a1 (hgt n+1) ca1)])),(6,(.tuple #[(vA [(vI n),(.slice a1 (hgt n+1) ca1)]),(vI 0)]))] (zb (zt (some 4) (Instr.alloc 131 true (.tuple #[])) (vP w1.heap.size 0) ([(vI 0),(.slice none 0 0)]) 131 ?_))
 intro w2 hBw2 hEw2
 have hzw2:=hEw2.size;have hlw2:=hBw2.lt
 refine zb (zz 131 w1.heap.size 0 131 (vA [(vI n),(.slice a1 (hgt n+1) ca1)]) ([(vI 0),(.slice none 0 0)]) ([(vI n),(.slice a1 (hgt n+1) ca1)]) hBw2 (by kernel_rfl) (by first | decide |(simp;done)|(simp;omega)) (by simp [Value.oneCell']) ?_)
 intro w3 hBw3 hCw3
 have hzw3:=hCw3.size
 rw [zm _ _ (by kernel_rfl)] at hBw3
 refine zd 1 [(5,(vI 0))] (zg (zc (zf (zf (ze (zd 2 [(12,vF),(11,(vI 0))] (zg (zc (zr ?_)))))))))
 refine zy (zc (zf (ze (zd 1 [(14,(vP w1.heap.size 1))] (zb (zj (some 15) (Instr.loadAt 40 (vP w1.heap.size 1)) (.slice a1 (hgt n+1) ca1) (zo (hBw3.cell rfl)) ?_))))))
 refine zd 1 [(16,(vI (hgt n+1)))] (zb (zv (some 17) .i64 (IntKind.i64.wrap (((hgt n+1:Nat):Int)-((1:Nat):Int))) (hgt n) (zG (by omega) (by omega) (by omega)) ?_))
 exact zd 2 [(3,(vI 0)),(2,(vI (hgt n)))] (zg (zc (zx (zB (.tuple #[(vI (hgt n)),(vI 0)]) (⟨rfl,(Ext.own (hEw1.trans hEw2) hCw3 (by omega))⟩)))))
theorem zkp (n:Int) (w:World) (hp0:¬(1≤n∧n≤4096)):
  Calls Tryz.prog 70 #[(.int .i64 n)] w (Ret fun r w'=>r=(.tuple #[(vI 0),(vI 1)])∧Ext w w'):=by
 refine zL (n:=18) (σ:= [(0,(.int .i64 n))]) Tryz.func70 rfl ?_
 refine zf (ze (zd 2 [(3,(vI 0)),(2,(vI 0))] (zg (zc (zf (ze (zd 1 [(7,(.int .i64 n))] (zb (zi (some 8) (zh8 n _ (by omega)) ?_)))))))))
 rintro _ w1 ⟨rfl,hEw1⟩
 have hzw1:=hEw1.size
 refine zd 3 [(10,(vI 1)),(9,(vA [(vI 0),(.slice none 0 0)])),(6,(.tuple #[(vA [(vI 0),(.slice none 0 0)]),(vI 1)]))] (zb (zt (some 4) (Instr.alloc 131 true (.tuple #[])) (vP w1.heap.size 0) ([(vI 0),(.slice none 0 0)]) 131 ?_))
 intro w2 hBw2 hEw2
 have hzw2:=hEw2.size;have hlw2:=hBw2.lt
 refine zb (zz 131 w1.heap.size 0 131 (vA [(vI 0),(.slice none 0 0)]) ([(vI 0),(.slice none 0 0)]) ([(vI 0),(.slice none 0 0)]) hBw2 (by kernel_rfl) (by first | decide |(simp;done)|(simp;omega)) (by simp [Value.oneCell']) ?_)
 intro w3 hBw3 hCw3
 have hzw3:=hCw3.size
 rw [zm _ _ (by kernel_rfl)] at hBw3
 refine zd 1 [(5,(vI 1))] (zg (zc (zf (zf (ze (zd 2 [(12,vT),(11,(vI 1))] (zg (zc (zF ?_)))))))))
 exact zf (ze (zd 3 [(3,(vI 1)),(2,(vI 0)),(13,(vI 1))] (zg (zc (zx (zu (zB (.tuple #[(vI 0),(vI 1)]) (⟨rfl,(Ext.own (hEw1.trans hEw2) hCw3 (by omega))⟩))))))))
theorem zpG (n:Nat) (l:Nat) (w:World) (hp0:1≤n) (hp1:n≤4096) (hp2:l≤hgt n):
  Calls Tryz.prog 71 #[(vI n),(vI l)] w (Ret fun r w'=>r=(.tuple #[(vI (cnt n l)),(vI 0)])∧Ext w w'):=by
 refine zL (n:=23) (σ:= [(0,(vI n)),(1,(vI l))]) Tryz.func71 rfl ?_
 have h5:=zaz n
 refine zf (ze (zd 2 [(5,(vI 0)),(4,(vI 0))] (zg (zc (zf (ze (zd 3 [(11,(vA [(vI l),(vI 0)])),(10,(vI l)),(9,(vI n))] (zb (zi (some 12) (zrs n l 0 _ (by omega) (by omega) (by omega) (zh9 hp0 l)) ?_)))))))))
 rintro _ w1 ⟨a1,ca1,rfl,hFz1_0,hEw1⟩
 have hzw1:=hEw1.size
 have hlea1:=hFz1_0.le
 refine zd 3 [(14,(vI 0)),(13,(vA [(vI n),(.slice a1 (hgt n+1) ca1)])),(8,(.tuple #[(vA [(vI n),(.slice a1 (hgt n+1) ca1)]),(vI 0)]))] (zb (zt (some 6) (Instr.alloc 131 true (.tuple #[])) (vP w1.heap.size 0) ([(vI 0),(.slice none 0 0)]) 131 ?_))
 intro w2 hBw2 hEw2
 have hzw2:=hEw2.size;have hlw2:=hBw2.lt
 refine zb (zz 131 w1.heap.size 0 131 (vA [(vI n),(.slice a1 (hgt n+1) ca1)]) ([(vI 0),(.slice none 0 0)]) ([(vI n),(.slice a1 (hgt n+1) ca1)]) hBw2 (by kernel_rfl) (by first | decide |(simp;done)|(simp;omega)) (by simp [Value.oneCell']) ?_)
 intro w3 hBw3 hCw3
 have hzw3:=hCw3.size
 rw [zm _ _ (by kernel_rfl)] at hBw3
 refine zd 1 [(7,(vI 0))] (zg (zc (zf (zf (ze (zd 2 [(16,vF),(15,(vI 0))] (zg (zc (zr ?_)))))))))
 refine zy (zc (zf (ze (zd 1 [(18,(vP w1.heap.size 1))] (zb (zj (some 19) (Instr.loadAt 40 (vP w1.heap.size 1)) (.slice a1 (hgt n+1) ca1) (zo (hBw3.cell rfl)) ?_))))))
 refine zd 1 [(20,(vI l))] ?_
 obtain ⟨b1,o1,rfl⟩:=hFz1_0.addr (by omega)
 refine zb (zj (some 21) (Instr.indexAt 40 (.slice (pA b1 o1) (hgt n+1) ca1) (vI l)) (vP b1 (o1+l*1)) (zap (E:=3) (sz:=1) (by omega)) ?_)
 refine zb (zj (some 22) (Instr.loadAt 3 (vP b1 (o1+l*1))) (vI (gt (cts n) l)) (zo ((((hFz1_0.ext hEw2)).chg hCw3 (fun k h1 h2 hs=>by have h:k=_:=hs;omega)).celln (by omega))) ?_)
 exact zd 2 [(5,(vI 0)),(4,(vI (gt (cts n) l)))] (zg (zc (zx (zB (.tuple #[(vI (gt (cts n) l)),(vI 0)]) (⟨by rw [zhv hp2],(Ext.own (hEw1.trans hEw2) hCw3 (by omega))⟩)))))
theorem zpM (n:Nat) (l:Nat) (j:Nat) (w:World) (hp0:1≤n) (hp1:n≤4096) (hp2:l≤hgt n) (hp3:j<cnt n l):
  Calls Tryz.prog 99 #[(vI n),(vI l),(vI j)] w (Ret fun r w'=>r=(.tuple #[(vI (prt n l j)),(vI 0)])∧Ext w w'):=by
 refine zL (n:=28) (σ:= [(0,(vI n)),(1,(vI l)),(2,(vI j))]) Tryz.func99 rfl ?_
 have h5:=zaz n
 have hcn:=zcF n l
 have hun:=zgs n l
 have hlc:=zjc.1 hp3
 refine zf (ze (zd 2 [(7,(vI 0)),(6,(vI 0))] (zg (zc (zf (ze (zd 4 [(14,(vA [(vI l),(vI j)])),(13,(vI j)),(12,(vI l)),(11,(vI n))] (zb (zi (some 15) (zrs n l j _ (by omega) (by omega) (by omega) (by omega)) ?_)))))))))
 rintro _ w1 ⟨a1,ca1,rfl,hFz1_0,hEw1⟩
 have hzw1:=hEw1.size
 have hlea1:=hFz1_0.le
 refine zd 3 [(17,(vI 0)),(16,(vA [(vI n),(.slice a1 (hgt n+1) ca1)])),(10,(.tuple #[(vA [(vI n),(.slice a1 (hgt n+1) ca1)]),(vI 0)]))] (zb (zt (some 8) (Instr.alloc 131 true (.tuple #[])) (vP w1.heap.size 0) ([(vI 0),(.slice none 0 0)]) 131 ?_))
 intro w2 hBw2 hEw2
 have hzw2:=hEw2.size;have hlw2:=hBw2.lt
 refine zb (zz 131 w1.heap.size 0 131 (vA [(vI n),(.slice a1 (hgt n+1) ca1)]) ([(vI 0),(.slice none 0 0)]) ([(vI n),(.slice a1 (hgt n+1) ca1)]) hBw2 (by kernel_rfl) (by first | decide |(simp;done)|(simp;omega)) (by simp [Value.oneCell']) ?_)
 intro w3 hBw3 hCw3
 have hzw3:=hCw3.size
 rw [zm _ _ (by kernel_rfl)] at hBw3
 refine zd 1 [(9,(vI 0))] (zg (zc (zf (zf (ze (zd 2 [(19,vF),(18,(vI 0))] (zg (zc (zr ?_)))))))))
 refine zy (zc (zf (ze (zb (zj (some 21) (Instr.loadAt 131 (vP w1.heap.size 0)) (vA [(vI n),(.slice a1 (hgt n+1) ca1)]) (zD (vs:= [(vI n),(.slice a1 (hgt n+1) ca1)]) (hBw3.all)) ?_)))))
 refine zd 1 [(22,(vI l))] (zb (zi (some 23) (zpo n l _ (((hFz1_0.ext hEw2)).chg hCw3 (fun k h1 h2 hs=>by have h:k=_:=hs;omega)) (by omega)) ?_))
 rintro _ w4 ⟨rfl,hEw4⟩
 have hzw4:=hEw4.size
 refine zd 1 [(24,(vI j))] (zb (zv (some 25) .i64 (IntKind.i64.wrap (((4:Nat):Int)*((j:Nat):Int))) (4*j) (zG (by omega) (by omega) (by omega)) ?_))
 refine zb (zv (some 26) .i64 (IntKind.i64.wrap (((und n l:Nat):Int)-((4*j:Nat):Int))) (und n l-4*j) (zG (by omega) (by omega) (by omega)) ?_)
 refine zb (zhy (some 27) (.int .i64 (if ((und n l-4*j:Nat):Int)<((4:Nat):Int) then ((und n l-4*j:Nat):Int) else ((4:Nat):Int))) (vI (min 4 (und n l-4*j))) (congrArg _ (zlK _ _)) ?_)
 refine zd 2 [(7,(vI 0)),(6,(vI (min 4 (und n l-4*j))))] (zg (zc (zx (zB (.tuple #[(vI (min 4 (und n l-4*j))),(vI 0)]) ?_))))
 have hX1:Ext w w4:=((Ext.own (hEw1.trans hEw2) hCw3 (by omega)).trans hEw4)
 exact ⟨rfl,hX1⟩
theorem zlE (n:Int) (l:Int) (j:Int) (w:World) (hp0:¬((1≤n∧n≤4096)∧(0≤l∧l≤hgt n.toNat)∧(0≤j∧j<cnt n.toNat l.toNat))):
  Calls Tryz.prog 99 #[(.int .i64 n),(.int .i64 l),(.int .i64 j)] w (Ret fun r w'=>r=(.tuple #[(vI 0),(vI 1)])∧Ext w w'):=by
 refine zL (n:=28) (σ:= [(0,(.int .i64 n)),(1,(.int .i64 l)),(2,(.int .i64 j))]) Tryz.func99 rfl ?_
 refine zf (ze (zd 2 [(7,(vI 0)),(6,(vI 0))] (zg (zc (zf (ze (zd 4 [(14,(vA [(.int .i64 l),(.int .i64 j)])),(13,(.int .i64 j)),(12,(.int .i64 l)),(11,(.int .i64 n))] (zb (zi (some 15) (zpq n l j _ (by omega)) ?_)))))))))
 rintro _ w1 ⟨a1,a2,na2,ca2,rfl,hEw1⟩
 have hzw1:=hEw1.size
 refine zd 3 [(17,(vI 1)),(16,(vA [(.int .i64 a1),(.slice a2 na2 ca2)])),(10,(.tuple #[(vA [(.int .i64 a1),(.slice a2 na2 ca2)]),(vI 1)]))] (zb (zt (some 8) (Instr.alloc 131 true (.tuple #[])) (vP w1.heap.size 0) ([(vI 0),(.slice none 0 0)]) 131 ?_))
 intro w2 hBw2 hEw2
 have hzw2:=hEw2.size;have hlw2:=hBw2.lt
 refine zb (zz 131 w1.heap.size 0 131 (vA [(.int .i64 a1),(.slice a2 na2 ca2)]) ([(vI 0),(.slice none 0 0)]) ([(.int .i64 a1),(.slice a2 na2 ca2)]) hBw2 (by kernel_rfl) (by first | decide |(simp;done)|(simp;omega)) (by simp [Value.oneCell']) ?_)
 intro w3 hBw3 hCw3
 have hzw3:=hCw3.size
 rw [zm _ _ (by kernel_rfl)] at hBw3
 refine zd 1 [(9,(vI 1))] (zg (zc (zf (zf (ze (zd 2 [(19,vT),(18,(vI 1))] (zg (zc (zF ?_)))))))))
 exact zf (ze (zd 3 [(7,(vI 1)),(6,(vI 0)),(20,(vI 1))] (zg (zc (zx (zu (zB (.tuple #[(vI 0),(vI 1)]) (⟨rfl,(Ext.own (hEw1.trans hEw2) hCw3 (by omega))⟩))))))))
end Go.Proofs.YtgdpdnokcnhgnaaGreatDoor
namespace Go.Proofs.YtgdpdnokcnhgnaaGreatDoor
open Go Go.RowKit Go.Cs
set_option maxRecDepth 100000
theorem zpc (n:Nat) (i:Nat) (w:World) (hp0:1≤n) (hp1:n≤4096) (hp2:i<n):
  Calls Tryz.prog 65 #[(vI n),(vI i)] w (Ret fun r w'=>∃a1 ca1,r=(.tuple #[(vA [(vI n),(.slice a1 (hgt n+1) ca1)]),(vI 0)])∧Es (nv .i64) w.heap.size w'.heap.size w' a1 (hgt n+1) ca1 (cts n)∧Ext w w'):=by
 refine zL (n:=26) (σ:= [(0,(vI n)),(1,(vI i))]) Tryz.func65 rfl ?_
 refine zf (ze (zb (zt (some 4) (Instr.alloc 131 true (.tuple #[])) (vP w.heap.size 0) ([(vI 0),(.slice none 0 0)]) 131 ?_)))
 intro w1 hBw1 hEw1
 have hzw1:=hEw1.size;have hlw1:=hBw1.lt
 refine zd 1 [(5,(vI 0))] (zg (zc (zf (ze (zd 1 [(9,(vI n))] (zb (zi (some 10) (zfG n _ (by omega) (by omega)) ?_)))))))
 rintro _ w2 ⟨a1,ca1,rfl,hFz1_0,hEw2⟩
 have hzw2:=hEw2.size
 have hlea1:=hFz1_0.le
 refine zd 3 [(12,(vI 0)),(11,(vA [(vI n),(.slice a1 (hgt n+1) ca1)])),(8,(.tuple #[(vA [(vI n),(.slice a1 (hgt n+1) ca1)]),(vI 0)]))] (zb (zt (some 6) (Instr.alloc 131 true (.tuple #[])) (vP w2.heap.size 0) ([(vI 0),(.slice none 0 0)]) 131 ?_))
 intro w3 hBw3 hEw3
 have hzw3:=hEw3.size;have hlw3:=hBw3.lt
 refine zb (zz 131 w2.heap.size 0 131 (vA [(vI n),(.slice a1 (hgt n+1) ca1)]) ([(vI 0),(.slice none 0 0)]) ([(vI n),(.slice a1 (hgt n+1) ca1)]) hBw3 (by kernel_rfl) (by first | decide |(simp;done)|(simp;omega)) (by simp [Value.oneCell']) ?_)
 intro w4 hBw4 hCw4
 have hzw4:=hCw4.size
 rw [zm _ _ (by kernel_rfl)] at hBw4
 refine zd 1 [(7,(vI 0))] (zg (zc (zf (zf (ze (zd 1 [(13,(vI 0))] (zb (zat (some 14) (((0:Nat):Int)==((0:Nat):Int)) true (zbt (by omega)) ?_))))))))
 refine zd 2 [(16,(vI i)),(15,vT)] (zb (zat (some 17) (decide (((i:Nat):Int)<((0:Nat):Int))) false (zce (by omega)) ?_))
 refine zd 3 [(20,(vI n)),(19,(vI i)),(18,vF)] (zb (zat (some 21) (decide (((i:Nat):Int)≥((n:Nat):Int))) false (zce (by omega)) ?_))
 refine zd 2 [(23,vF),(22,vF)] (zg (zc (zr (zy (zc (zf (ze (zb (zj (some 24) (Instr.loadAt 131 (vP w2.heap.size 0)) (vA [(vI n),(.slice a1 (hgt n+1) ca1)]) (zD (vs:= [(vI n),(.slice a1 (hgt n+1) ca1)]) (hBw4.all)) ?_)))))))))
 refine zd 1 [(25,(vI 0))] ?_
 have hK1:=(((((hBw1.ext hEw2)).ext hEw3)).chg hCw4 (fun hs=>by have h:_=_:=hs;omega))
 refine zb (zz 131 w.heap.size 0 131 (vA [(vI n),(.slice a1 (hgt n+1) ca1)]) ([(vI 0),(.slice none 0 0)]) ([(vI n),(.slice a1 (hgt n+1) ca1)]) hK1 (by kernel_rfl) (by first | decide |(simp;done)|(simp;omega)) (by simp [Value.oneCell']) ?_)
 have hK2:=(((((hBw1.ext hEw2)).ext hEw3)).chg hCw4 (fun hs=>by have h:_=_:=hs;omega))
 intro w5 hBw5 hCw5
 have hzw5:=hCw5.size
 rw [zm _ _ (by kernel_rfl)] at hBw5
 refine zd 1 [(5,(vI 0))] (zg (zc (zx (zas (show zab Tryz.prog 26 _ _ (.cell 4 131) (vA [(vI n),(.slice a1 (hgt n+1) ca1)]) from ⟨⟨w.heap.size,0,none⟩,(by kernel_rfl),zP (T:=131) (vs:= [(vI n),(.slice a1 (hgt n+1) ca1)]) (hBw5).all (by kernel_rfl)⟩) (show zab Tryz.prog 26 _ _ (.tmp 5) (vI 0) by (show _=_;kernel_rfl)) ?_))))
 have hK3:=(((((hFz1_0.ext hEw3)).chg hCw4 (fun k h1 h2 hs=>by have h:k=_:=hs;omega))).chg hCw5 (fun k h1 h2 hs=>by have h:k=_:=hs;omega))
 have hX1:Ext w w5:=(Ext.own (Ext.own ((hEw1.trans hEw2).trans hEw3) hCw4 (by omega)) hCw5 (by omega))
 exact ⟨_,_,rfl,(hK3).now.mono (by omega) (Nat.le_refl _),hX1⟩
theorem zmf (n:Int) (i:Int) (w:World) (hp0:¬(1≤n∧n≤4096)):
  Calls Tryz.prog 65 #[(.int .i64 n),(.int .i64 i)] w (Ret fun r w'=>∃(a0:Int) (a1:Option Addr) (na1:Nat) (ca1:Nat),r=(.tuple #[(vA [(.int .i64 a0),(.slice a1 na1 ca1)]),(vI 1)])∧Ext w w'):=by
 refine zL (n:=26) (σ:= [(0,(.int .i64 n)),(1,(.int .i64 i))]) Tryz.func65 rfl ?_
 refine zf (ze (zb (zt (some 4) (Instr.alloc 131 true (.tuple #[])) (vP w.heap.size 0) ([(vI 0),(.slice none 0 0)]) 131 ?_)))
 intro w1 hBw1 hEw1
 have hzw1:=hEw1.size;have hlw1:=hBw1.lt
 refine zd 1 [(5,(vI 0))] (zg (zc (zf (ze (zd 1 [(9,(.int .i64 n))] (zb (zi (some 10) (zh8 n _ (by omega)) ?_)))))))
 rintro _ w2 ⟨rfl,hEw2⟩
 have hzw2:=hEw2.size
 refine zd 3 [(12,(vI 1)),(11,(vA [(vI 0),(.slice none 0 0)])),(8,(.tuple #[(vA [(vI 0),(.slice none 0 0)]),(vI 1)]))] (zb (zt (some 6) (Instr.alloc 131 true (.tuple #[])) (vP w2.heap.size 0) ([(vI 0),(.slice none 0 0)]) 131 ?_))
 intro w3 hBw3 hEw3
 have hzw3:=hEw3.size;have hlw3:=hBw3.lt
 refine zb (zz 131 w2.heap.size 0 131 (vA [(vI 0),(.slice none 0 0)]) ([(vI 0),(.slice none 0 0)]) ([(vI 0),(.slice none 0 0)]) hBw3 (by kernel_rfl) (by first | decide |(simp;done)|(simp;omega)) (by simp [Value.oneCell']) ?_)
 intro w4 hBw4 hCw4
 have hzw4:=hCw4.size
 rw [zm _ _ (by kernel_rfl)] at hBw4
 refine zd 1 [(7,(vI 1))] (zg (zc (zf (zf (ze (zd 1 [(13,(vI 1))] (zb (zat (some 14) (((1:Nat):Int)==((0:Nat):Int)) false (zbW (by omega)) ?_))))))))
 refine zd 9 [(23,vF),(22,undef),(21,undef),(20,undef),(19,undef),(18,undef),(17,undef),(16,undef),(15,vF)] (zg (zc (zr (zy (zc (zf (ze (zb (zj (some 24) (Instr.loadAt 131 (vP w2.heap.size 0)) (vA [(vI 0),(.slice none 0 0)]) (zD (vs:= [(vI 0),(.slice none 0 0)]) (hBw4.all)) ?_)))))))))
 refine zd 1 [(25,(vI 1))] ?_
 have hK1:=(((((hBw1.ext hEw2)).ext hEw3)).chg hCw4 (fun hs=>by have h:_=_:=hs;omega))
 refine zb (zz 131 w.heap.size 0 131 (vA [(vI 0),(.slice none 0 0)]) ([(vI 0),(.slice none 0 0)]) ([(vI 0),(.slice none 0 0)]) hK1 (by kernel_rfl) (by first | decide |(simp;done)|(simp;omega)) (by simp [Value.oneCell']) ?_)
 have hK2:=(((((hBw1.ext hEw2)).ext hEw3)).chg hCw4 (fun hs=>by have h:_=_:=hs;omega))
 intro w5 hBw5 hCw5
 have hzw5:=hCw5.size
 rw [zm _ _ (by kernel_rfl)] at hBw5
 refine zd 1 [(5,(vI 1))] (zg (zc (zx (zas (show zab Tryz.prog 26 _ _ (.cell 4 131) (vA [(vI 0),(.slice none 0 0)]) from ⟨⟨w.heap.size,0,none⟩,(by kernel_rfl),zP (T:=131) (vs:= [(vI 0),(.slice none 0 0)]) (hBw5).all (by kernel_rfl)⟩) (show zab Tryz.prog 26 _ _ (.tmp 5) (vI 1) by (show _=_;kernel_rfl)) ?_))))
 have hX1:Ext w w5:=(Ext.own (Ext.own ((hEw1.trans hEw2).trans hEw3) hCw4 (by omega)) hCw5 (by omega))
 exact ⟨_,_,_,_,rfl,hX1⟩
theorem zmS (n:Nat) (i:Int) (w:World) (hp0:1≤n) (hp1:n≤4096) (hp2:i<0):
  Calls Tryz.prog 65 #[(vI n),(.int .i64 i)] w (Ret fun r w'=>∃(a0:Int) (a1:Option Addr) (na1:Nat) (ca1:Nat),r=(.tuple #[(vA [(.int .i64 a0),(.slice a1 na1 ca1)]),(vI 1)])∧Ext w w'):=by
 refine zL (n:=26) (σ:= [(0,(vI n)),(1,(.int .i64 i))]) Tryz.func65 rfl ?_
 refine zf (ze (zb (zt (some 4) (Instr.alloc 131 true (.tuple #[])) (vP w.heap.size 0) ([(vI 0),(.slice none 0 0)]) 131 ?_)))
 intro w1 hBw1 hEw1
 have hzw1:=hEw1.size;have hlw1:=hBw1.lt
 refine zd 1 [(5,(vI 0))] (zg (zc (zf (ze (zd 1 [(9,(vI n))] (zb (zi (some 10) (zfG n _ (by omega) (by omega)) ?_)))))))
 rintro _ w2 ⟨a1,ca1,rfl,hFz1_0,hEw2⟩
 have hzw2:=hEw2.size
 have hlea1:=hFz1_0.le
 refine zd 3 [(12,(vI 0)),(11,(vA [(vI n),(.slice a1 (hgt n+1) ca1)])),(8,(.tuple #[(vA [(vI n),(.slice a1 (hgt n+1) ca1)]),(vI 0)]))] (zb (zt (some 6) (Instr.alloc 131 true (.tuple #[])) (vP w2.heap.size 0) ([(vI 0),(.slice none 0 0)]) 131 ?_))
 intro w3 hBw3 hEw3
 have hzw3:=hEw3.size;have hlw3:=hBw3.lt
 refine zb (zz 131 w2.heap.size 0 131 (vA [(vI n),(.slice a1 (hgt n+1) ca1)]) ([(vI 0),(.slice none 0 0)]) ([(vI n),(.slice a1 (hgt n+1) ca1)]) hBw3 (by kernel_rfl) (by first | decide |(simp;done)|(simp;omega)) (by simp [Value.oneCell']) ?_)
 intro w4 hBw4 hCw4
 have hzw4:=hCw4.size
 rw [zm _ _ (by kernel_rfl)] at hBw4
 refine zd 1 [(7,(vI 0))] (zg (zc (zf (zf (ze (zd 1 [(13,(vI 0))] (zb (zat (some 14) (((0:Nat):Int)==((0:Nat):Int)) true (zbt (by omega)) ?_))))))))
 refine zd 2 [(16,(.int .i64 i)),(15,vT)] (zb (zat (some 17) (decide (i<((0:Nat):Int))) true (zeu (by omega)) ?_))
 refine zd 6 [(23,vT),(22,vT),(21,undef),(20,undef),(19,undef),(18,vT)] (zg (zc (zF (ze (zd 1 [(7,(vI 1))] (zg (zc (zf (ze ?_)))))))))
 refine zb (zj (some 24) (Instr.loadAt 131 (vP w2.heap.size 0)) (vA [(vI n),(.slice a1 (hgt n+1) ca1)]) (zD (vs:= [(vI n),(.slice a1 (hgt n+1) ca1)]) (hBw4.all)) ?_)
 refine zd 1 [(25,(vI 1))] ?_
 have hK1:=(((((hBw1.ext hEw2)).ext hEw3)).chg hCw4 (fun hs=>by have h:_=_:=hs;omega))
 refine zb (zz 131 w.heap.size 0 131 (vA [(vI n),(.slice a1 (hgt n+1) ca1)]) ([(vI 0),(.slice none 0 0)]) ([(vI n),(.slice a1 (hgt n+1) ca1)]) hK1 (by kernel_rfl) (by first | decide |(simp;done)|(simp;omega)) (by simp [Value.oneCell']) ?_)
 have hK2:=(((((hBw1.ext hEw2)).ext hEw3)).chg hCw4 (fun hs=>by have h:_=_:=hs;omega))
 intro w5 hBw5 hCw5
 have hzw5:=hCw5.size
 rw [zm _ _ (by kernel_rfl)] at hBw5
 refine zd 1 [(5,(vI 1))] (zg (zc (zx (zas (show zab Tryz.prog 26 _ _ (.cell 4 131) (vA [(vI n),(.slice a1 (hgt n+1) ca1)]) from ⟨⟨w.heap.size,0,none⟩,(by kernel_rfl),zP (T:=131) (vs:= [(vI n),(.slice a1 (hgt n+1) ca1)]) (hBw5).all (by kernel_rfl)⟩) (show zab Tryz.prog 26 _ _ (.tmp 5) (vI 1) by (show _=_;kernel_rfl)) ?_))))
 have hX1:Ext w w5:=(Ext.own (Ext.own ((hEw1.trans hEw2).trans hEw3) hCw4 (by omega)) hCw5 (by omega))
 exact ⟨_,_,_,_,rfl,hX1⟩
theorem zm2 (n:Nat) (i:Int) (w:World) (hp0:1≤n) (hp1:n≤4096) (hp2:(n:Int)≤i):
  Calls Tryz.prog 65 #[(vI n),(.int .i64 i)] w (Ret fun r w'=>∃(a0:Int) (a1:Option Addr) (na1:Nat) (ca1:Nat),r=(.tuple #[(vA [(.int .i64 a0),(.slice a1 na1 ca1)]),(vI 1)])∧Ext w w'):=by
 refine zL (n:=26) (σ:= [(0,(vI n)),(1,(.int .i64 i))]) Tryz.func65 rfl ?_
 refine zf (ze (zb (zt (some 4) (Instr.alloc 131 true (.tuple #[])) (vP w.heap.size 0) ([(vI 0),(.slice none 0 0)]) 131 ?_)))
 intro w1 hBw1 hEw1
 have hzw1:=hEw1.size;have hlw1:=hBw1.lt
 refine zd 1 [(5,(vI 0))] (zg (zc (zf (ze (zd 1 [(9,(vI n))] (zb (zi (some 10) (zfG n _ (by omega) (by omega)) ?_)))))))
 rintro _ w2 ⟨a1,ca1,rfl,hFz1_0,hEw2⟩
 have hzw2:=hEw2.size
 have hlea1:=hFz1_0.le
 refine zd 3 [(12,(vI 0)),(11,(vA [(vI n),(.slice a1 (hgt n+1) ca1)])),(8,(.tuple #[(vA [(vI n),(.slice a1 (hgt n+1) ca1)]),(vI 0)]))] (zb (zt (some 6) (Instr.alloc 131 true (.tuple #[])) (vP w2.heap.size 0) ([(vI 0),(.slice none 0 0)]) 131 ?_))
 intro w3 hBw3 hEw3
 have hzw3:=hEw3.size;have hlw3:=hBw3.lt
 refine zb (zz 131 w2.heap.size 0 131 (vA [(vI n),(.slice a1 (hgt n+1) ca1)]) ([(vI 0),(.slice none 0 0)]) ([(vI n),(.slice a1 (hgt n+1) ca1)]) hBw3 (by kernel_rfl) (by first | decide |(simp;done)|(simp;omega)) (by simp [Value.oneCell']) ?_)
 intro w4 hBw4 hCw4
 have hzw4:=hCw4.size
 rw [zm _ _ (by kernel_rfl)] at hBw4
 refine zd 1 [(7,(vI 0))] (zg (zc (zf (zf (ze (zd 1 [(13,(vI 0))] (zb (zat (some 14) (((0:Nat):Int)==((0:Nat):Int)) true (zbt (by omega)) ?_))))))))
 refine zd 2 [(16,(.int .i64 i)),(15,vT)] (zb (zat (some 17) (decide (i<((0:Nat):Int))) false (zce (by omega)) ?_))
 refine zd 3 [(20,(vI n)),(19,(.int .i64 i)),(18,vF)] (zb (zat (some 21) (decide (i≥((n:Nat):Int))) true (zeu (by omega)) ?_))
 refine zd 2 [(23,vT),(22,vT)] (zg (zc (zF (ze (zd 1 [(7,(vI 1))] (zg (zc (zf (ze ?_)))))))))
 refine zb (zj (some 24) (Instr.loadAt 131 (vP w2.heap.size 0)) (vA [(vI n),(.slice a1 (hgt n+1) ca1)]) (zD (vs:= [(vI n),(.slice a1 (hgt n+1) ca1)]) (hBw4.all)) ?_)
 refine zd 1 [(25,(vI 1))] ?_
 have hK1:=(((((hBw1.ext hEw2)).ext hEw3)).chg hCw4 (fun hs=>by have h:_=_:=hs;omega))
 refine zb (zz 131 w.heap.size 0 131 (vA [(vI n),(.slice a1 (hgt n+1) ca1)]) ([(vI 0),(.slice none 0 0)]) ([(vI n),(.slice a1 (hgt n+1) ca1)]) hK1 (by kernel_rfl) (by first | decide |(simp;done)|(simp;omega)) (by simp [Value.oneCell']) ?_)
 have hK2:=(((((hBw1.ext hEw2)).ext hEw3)).chg hCw4 (fun hs=>by have h:_=_:=hs;omega))
 intro w5 hBw5 hCw5
 have hzw5:=hCw5.size
 rw [zm _ _ (by kernel_rfl)] at hBw5
 refine zd 1 [(5,(vI 1))] (zg (zc (zx (zas (show zab Tryz.prog 26 _ _ (.cell 4 131) (vA [(vI n),(.slice a1 (hgt n+1) ca1)]) from ⟨⟨w.heap.size,0,none⟩,(by kernel_rfl),zP (T:=131) (vs:= [(vI n),(.slice a1 (hgt n+1) ca1)]) (hBw5).all (by kernel_rfl)⟩) (show zab Tryz.prog 26 _ _ (.tmp 5) (vI 1) by (show _=_;kernel_rfl)) ?_))))
 have hX1:Ext w w5:=(Ext.own (Ext.own ((hEw1.trans hEw2).trans hEw3) hCw4 (by omega)) hCw5 (by omega))
 exact ⟨_,_,_,_,rfl,hX1⟩
theorem zlw (n:Int) (i:Int) (w:World) (hp0:¬((1≤n∧n≤4096)∧(0≤i∧i<n))):
  Calls Tryz.prog 65 #[(.int .i64 n),(.int .i64 i)] w (Ret fun r w'=>∃(a0:Int) (a1:Option Addr) (na1:Nat) (ca1:Nat),r=(.tuple #[(vA [(.int .i64 a0),(.slice a1 na1 ca1)]),(vI 1)])∧Ext w w'):=by
 by_cases h:1≤n∧n≤4096
 ·obtain ⟨m,rfl⟩:=Int.eq_ofNat_of_zero_le (show 0≤n by omega)
  by_cases hi:i<0
  ·exact zmS m i w (by omega) (by omega) hi
  ·exact zm2 m i w (by omega) (by omega) (by omega)
 ·exact zmf n i w h
end Go.Proofs.YtgdpdnokcnhgnaaGreatDoor
namespace Go.Proofs.YtgdpdnokcnhgnaaGreatDoor
open Go Go.RowKit Go.Cs
set_option maxRecDepth 100000
theorem znl {b m e:Nat} {l:List (Nat×Nat)} (w:World) (hB:Blk w b (l.flatMap zbQ) e) (hm:m=l.length) (hm2:m≤1099511627776):
  Calls Tryz.prog 67 #[(.slice (pA b 0) m m)] w (Ret fun r w'=>r= .tuple #[]∧Blk w' b (l.reverse.flatMap zbQ) e∧Chg (· =b) w w'):=by
 refine zL (n:=28) (σ:= [(0,(.slice (pA b 0) m m))]) Tryz.func67 rfl ?_
 refine zf (ze (zd 2 [(5,(vI m)),(4,(.slice (pA b 0) m m))] (zb (zet (some 6) .i64 (IntKind.i64.wrap (((m:Nat):Int)-((1:Nat):Int))) ((m:Int)-1) (zG rfl (by omega) (by omega)) ?_))))
 refine zd 2 [(3,(.int .i64 ((m:Int)-1))),(2,(vI 0))] (zg (zc (zI (zah (X:=Nat) (fun k=> [(2,(vI k)),(3,(.int .i64 ((m:Int)-1-(k:Int))))]) [7,8,9,10,11,12,13,14,15,16,17,18,19,20,21,22,23,24,25,26,27] (fun k w1=>2*k≤m+1∧Blk w1 b ((rv l k).flatMap zbQ) e∧Chg (· =b) w w1) (fun k=>m-k) 0 (by rw [show ((m:Int)-1-((0:Nat):Int))=(m:Int)-1 from by omega];kernel_rfl) ⟨by omega,(by rw [zo4];exact hB),Chg.refl _ _⟩ ?_))))
 rintro k dw1 w1 ⟨hk,hBl,hCl⟩
 have hzl:=hCl.size;have hll:=hBl.lt;have hml:(rv l k).length=m:=by rw [zdJ];omega
 refine zf (zf (ze (zd 2 [(8,(.int .i64 ((m:Int)-1-(k:Int)))),(7,(vI k))] (zb (zO (some 9) (decide (((k:Nat):Int)<(m:Int)-1-(k:Int))) (fun hc=> ?_) (fun hc=> ?_))))))
 ·replace hc:2*k+1<m:=by have:=zak hc;omega
  have hjn:(m:Int)-1-(k:Int)=((m-1-k:Nat):Int):=by omega
  have hSl:Ms zbQ 2 b (b+1) w1 (pA b 0) m m (rv l k):=Ms.of_pre (r:= []) (by rw [List.append_nil];exact hBl) zbm hml.symm (Nat.le_refl _) (by simp only [maxLen];omega) (Nat.le_refl _) (Nat.lt_succ_self _)
  refine zg (zc (zF (zy (zc (zf (zI (zag (Chg (fun k=>k=b) w1.drew) 16 [(15,1,0),(16,4,0),(17,1,0),(18,8,0),(19,1,0),(20,8,0),(21,786432,48),(22,1048576,64),(23,1,0),(24,4,0),(25,12582912,768),(26,16777216,1024),(27,49152,2291),(0,69206016,6387),(28,196608,16383),(0,167772160,32767)] (fun hT29=> ?_))))))))
  have hEw2:Ext w1 w1.drew:=Ext.drew w1
  generalize w1.drew=w2 at hEw2⊢
  have hzw2:=hEw2.size
  have hX1:Chg (fun k=>k=b) w2 w2:=(Chg.refl (fun k=>k=b) w2)
  refine zk (hw:=hX1) hT29 [(0,14,(.slice (pA b 0) m m)),(1,15,(vI k)),(2,16,(.slice (pA b 0) m m)),(3,17,(.int .i64 ((m:Int)-1-(k:Int)))),(4,18,(.slice (pA b 0) m m)),(5,19,(.int .i64 ((m:Int)-1-(k:Int))))] 6 63 (zh (hw:=hX1) hT29 6 127 (some 20) (vP b (0+(m-1-k)*2)) (zl (Instr.indexAt 94 (.slice (pA b 0) m m) (.int .i64 ((m:Int)-1-(k:Int)))) (fun w' hC=>by rw [hjn];exact zap (E:=70) (sz:=2) (by omega))) (zk (hw:=hX1) hT29 [(8,22,(.slice (pA b 0) m m)),(9,23,(vI k))] 2 895 (zh (hw:=hX1) hT29 10 1919 (some 24) (vP b (0+k*2)) (zl (Instr.indexAt 94 (.slice (pA b 0) m m) (vI k)) (fun w' hC=>zap (E:=70) (sz:=2) (by omega))) (zay 7 11 2047 3967 ?_ ?_))))
  ·refine zj (some 21) (Instr.loadAt 70 (vP b (0+(m-1-k)*2))) (vA [(vI (((rv l k).getD (m-1-k) (0,0)).1)),(vI (((rv l k).getD (m-1-k) (0,0)).2))]) (zD (vs:= [(vI (((rv l k).getD (m-1-k) (0,0)).1)),(vI (((rv l k).getD (m-1-k) (0,0)).2))]) ((hSl.ext hEw2).at (0,0) (by omega))) (⟨.inr hX1, ?_⟩)
   refine zn 11 4095 (zj (some 25) (Instr.loadAt 70 (vP b (0+k*2))) (vA [(vI (((rv l k).getD k (0,0)).1)),(vI (((rv l k).getD k (0,0)).2))]) (zD (vs:= [(vI (((rv l k).getD k (0,0)).1)),(vI (((rv l k).getD k (0,0)).2))]) ((hSl.ext hEw2).at (0,0) (by omega))) ?_)
   refine ⟨.inr hX1, ?_⟩
   refine zh (hw:=hX1) hT29 12 8191 (some 26) (vP b (0+k*2)) (zl (Instr.indexAt 94 (.slice (pA b 0) m m) (vI k)) (fun w' hC=>zap (E:=70) (sz:=2) (by omega))) (zn 13 16383 (zz 70 b (0+k*2) e (vA [(vI (((rv l k).getD (m-1-k) (0,0)).1)),(vI (((rv l k).getD (m-1-k) (0,0)).2))]) ((rv l k).flatMap zbQ) ([(vI (((rv l k).getD (m-1-k) (0,0)).1)),(vI (((rv l k).getD (m-1-k) (0,0)).2))]) (hBl.ext hEw2) (by kernel_rfl) (by rw [zaD zbm];(try simp only [List.length_cons,List.length_nil,List.length_set]);have:=hml;omega) (by simp [Value.oneCell']) ?_))
   intro w3 hBw3 hCw3
   have hzw3:=hCw3.size
   rw [show (zad ((rv l k).flatMap zbQ) (0+k*2) ([(vI (((rv l k).getD (m-1-k) (0,0)).1)),(vI (((rv l k).getD (m-1-k) (0,0)).2))]):List Value)=((rv l k).set k ((rv l k).getD (m-1-k) (0,0))).flatMap zbQ from zbG zbm _ _ _ (by (try simp only [List.length_set]);omega)] at hBw3
   have hmw3:Ms zbQ 2 b (b+1) w3 (pA b 0) m m ((rv l k).set k ((rv l k).getD (m-1-k) (0,0))):=Ms.of_pre (r:= []) (by rw [List.append_nil];exact hBw3) zbm (by (try simp only [List.length_set]);omega) (by omega) (by simp only [maxLen];omega) (by omega) (by omega)
   have hX2:Chg (fun k=>k=b) w2 w3:=(Chg.then (Chg.refl (fun k=>k=b) w2) hCw3 (fun k hk hs=>by have h:k=_:=hs;first | exact hs | exact .inl h | exact .inr h |(exfalso;omega)))
   refine ⟨.inr hX2, ?_⟩
   refine zh (hw:=hX2) hT29 14 32767 (some 27) (vP b (0+(m-1-k)*2)) (zl (Instr.indexAt 94 (.slice (pA b 0) m m) (.int .i64 ((m:Int)-1-(k:Int)))) (fun w' hC=>by rw [hjn];exact zap (E:=70) (sz:=2) (by omega))) (zn 15 65535 (zz 70 b (0+(m-1-k)*2) e (vA [(vI (((rv l k).getD k (0,0)).1)),(vI (((rv l k).getD k (0,0)).2))]) (((rv l k).set k ((rv l k).getD (m-1-k) (0,0))).flatMap zbQ) ([(vI (((rv l k).getD k (0,0)).1)),(vI (((rv l k).getD k (0,0)).2))]) hBw3 (by kernel_rfl) (by rw [zaD zbm];(try simp only [List.length_cons,List.length_nil,List.length_set]);have:=hml;omega) (by simp [Value.oneCell']) ?_))
   intro w4 hBw4 hCw4
   have hzw4:=hCw4.size
   rw [show (zad (((rv l k).set k ((rv l k).getD (m-1-k) (0,0))).flatMap zbQ) (0+(m-1-k)*2) ([(vI (((rv l k).getD k (0,0)).1)),(vI (((rv l k).getD k (0,0)).2))]):List Value)=(((rv l k).set k ((rv l k).getD (m-1-k) (0,0))).set (m-1-k) ((rv l k).getD k (0,0))).flatMap zbQ from zbG zbm _ _ _ (by (try simp only [List.length_set]);omega)] at hBw4
   have hmw4:Ms zbQ 2 b (b+1) w4 (pA b 0) m m (((rv l k).set k ((rv l k).getD (m-1-k) (0,0))).set (m-1-k) ((rv l k).getD k (0,0))):=Ms.of_pre (r:= []) (by rw [List.append_nil];exact hBw4) zbm (by (try simp only [List.length_set]);omega) (by omega) (by simp only [maxLen];omega) (by omega) (by omega)
   refine ⟨.inl (by kernel_rfl), ?_⟩
   refine zJ (zp (zc (ze (zd 1 [(10,(vI k))] (zb (zv (some 11) .i64 (IntKind.i64.wrap (((k:Nat):Int)+((1:Nat):Int))) (k+1) (zG (by omega) (by omega) (by omega)) ?_))))))
   refine zd 1 [(12,(.int .i64 ((m:Int)-1-(k:Int))))] (zb (zet (some 13) .i64 (IntKind.i64.wrap ((m:Int)-1-(k:Int)-((1:Nat):Int))) ((m:Int)-1-((k+1:Nat):Int)) (zG (by omega) (by omega) (by omega)) ?_))
   refine zd 2 [(3,(.int .i64 ((m:Int)-1-((k+1:Nat):Int)))),(2,(vI (k+1)))] (zg (zC (zS (k+1) ?_ ?_)))
   ·refine ⟨by omega, ?_,(((hCl.trans hEw2.chg).trans hCw3).trans hCw4)⟩
    have hBe:=hBw4
    rw [show m-1-k=l.length-1-k by omega,zky l (by omega)] at hBe
    exact hBe
   ·first | omega |(dsimp only;omega)
  ·refine zj (some 25) (Instr.loadAt 70 (vP b (0+k*2))) (vA [(vI (((rv l k).getD k (0,0)).1)),(vI (((rv l k).getD k (0,0)).2))]) (zD (vs:= [(vI (((rv l k).getD k (0,0)).1)),(vI (((rv l k).getD k (0,0)).2))]) ((hSl.ext hEw2).at (0,0) (by omega))) (⟨.inr hX1, ?_⟩)
   refine zn 7 4095 (zj (some 21) (Instr.loadAt 70 (vP b (0+(m-1-k)*2))) (vA [(vI (((rv l k).getD (m-1-k) (0,0)).1)),(vI (((rv l k).getD (m-1-k) (0,0)).2))]) (zD (vs:= [(vI (((rv l k).getD (m-1-k) (0,0)).1)),(vI (((rv l k).getD (m-1-k) (0,0)).2))]) ((hSl.ext hEw2).at (0,0) (by omega))) ?_)
   refine ⟨.inr hX1, ?_⟩
   refine zh (hw:=hX1) hT29 12 8191 (some 26) (vP b (0+k*2)) (zl (Instr.indexAt 94 (.slice (pA b 0) m m) (vI k)) (fun w' hC=>zap (E:=70) (sz:=2) (by omega))) (zn 13 16383 (zz 70 b (0+k*2) e (vA [(vI (((rv l k).getD (m-1-k) (0,0)).1)),(vI (((rv l k).getD (m-1-k) (0,0)).2))]) ((rv l k).flatMap zbQ) ([(vI (((rv l k).getD (m-1-k) (0,0)).1)),(vI (((rv l k).getD (m-1-k) (0,0)).2))]) (hBl.ext hEw2) (by kernel_rfl) (by rw [zaD zbm];(try simp only [List.length_cons,List.length_nil,List.length_set]);have:=hml;omega) (by simp [Value.oneCell']) ?_))
   intro w5 hBw5 hCw5
   have hzw5:=hCw5.size
   rw [show (zad ((rv l k).flatMap zbQ) (0+k*2) ([(vI (((rv l k).getD (m-1-k) (0,0)).1)),(vI (((rv l k).getD (m-1-k) (0,0)).2))]):List Value)=((rv l k).set k ((rv l k).getD (m-1-k) (0,0))).flatMap zbQ from zbG zbm _ _ _ (by (try simp only [List.length_set]);omega)] at hBw5
   have hmw5:Ms zbQ 2 b (b+1) w5 (pA b 0) m m ((rv l k).set k ((rv l k).getD (m-1-k) (0,0))):=Ms.of_pre (r:= []) (by rw [List.append_nil];exact hBw5) zbm (by (try simp only [List.length_set]);omega) (by omega) (by simp only [maxLen];omega) (by omega) (by omega)
   have hX3:Chg (fun k=>k=b) w2 w5:=(Chg.then (Chg.refl (fun k=>k=b) w2) hCw5 (fun k hk hs=>by have h:k=_:=hs;first | exact hs | exact .inl h | exact .inr h |(exfalso;omega)))
   refine ⟨.inr hX3, ?_⟩
   refine zh (hw:=hX3) hT29 14 32767 (some 27) (vP b (0+(m-1-k)*2)) (zl (Instr.indexAt 94 (.slice (pA b 0) m m) (.int .i64 ((m:Int)-1-(k:Int)))) (fun w' hC=>by rw [hjn];exact zap (E:=70) (sz:=2) (by omega))) (zn 15 65535 (zz 70 b (0+(m-1-k)*2) e (vA [(vI (((rv l k).getD k (0,0)).1)),(vI (((rv l k).getD k (0,0)).2))]) (((rv l k).set k ((rv l k).getD (m-1-k) (0,0))).flatMap zbQ) ([(vI (((rv l k).getD k (0,0)).1)),(vI (((rv l k).getD k (0,0)).2))]) hBw5 (by kernel_rfl) (by rw [zaD zbm];(try simp only [List.length_cons,List.length_nil,List.length_set]);have:=hml;omega) (by simp [Value.oneCell']) ?_))
   intro w6 hBw6 hCw6
   have hzw6:=hCw6.size
   rw [show (zad (((rv l k).set k ((rv l k).getD (m-1-k) (0,0))).flatMap zbQ) (0+(m-1-k)*2) ([(vI (((rv l k).getD k (0,0)).1)),(vI (((rv l k).getD k (0,0)).2))]):List Value)=(((rv l k).set k ((rv l k).getD (m-1-k) (0,0))).set (m-1-k) ((rv l k).getD k (0,0))).flatMap zbQ from zbG zbm _ _ _ (by (try simp only [List.length_set]);omega)] at hBw6
   have hmw6:Ms zbQ 2 b (b+1) w6 (pA b 0) m m (((rv l k).set k ((rv l k).getD (m-1-k) (0,0))).set (m-1-k) ((rv l k).getD k (0,0))):=Ms.of_pre (r:= []) (by rw [List.append_nil];exact hBw6) zbm (by (try simp only [List.length_set]);omega) (by omega) (by simp only [maxLen];omega) (by omega) (by omega)
   refine ⟨.inl (by kernel_rfl), ?_⟩
   refine zJ (zp (zc (ze (zd 1 [(10,(vI k))] (zb (zv (some 11) .i64 (IntKind.i64.wrap (((k:Nat):Int)+((1:Nat):Int))) (k+1) (zG (by omega) (by omega) (by omega)) ?_))))))
   refine zd 1 [(12,(.int .i64 ((m:Int)-1-(k:Int))))] (zb (zet (some 13) .i64 (IntKind.i64.wrap ((m:Int)-1-(k:Int)-((1:Nat):Int))) ((m:Int)-1-((k+1:Nat):Int)) (zG (by omega) (by omega) (by omega)) ?_))
   refine zd 2 [(3,(.int .i64 ((m:Int)-1-((k+1:Nat):Int)))),(2,(vI (k+1)))] (zg (zC (zS (k+1) ?_ ?_)))
   ·refine ⟨by omega, ?_,(((hCl.trans hEw2.chg).trans hCw5).trans hCw6)⟩
    have hBe:=hBw6
    rw [show m-1-k=l.length-1-k by omega,zky l (by omega)] at hBe
    exact hBe
   ·first | omega |(dsimp only;omega)
 ·replace hc:m≤2*k+1:=by have:=zal hc;omega
  refine zg (zc (zr (zaf (zH (zH (zT (zgP ?_)))))))
  rw [zqE l (by omega)] at hBl
  exact ⟨rfl,hBl,hCl⟩
end Go.Proofs.YtgdpdnokcnhgnaaGreatDoor
namespace Go.Proofs.YtgdpdnokcnhgnaaGreatDoor
open Go Go.RowKit Go.Cs
set_option maxRecDepth 100000
theorem zqs {b1 b2 lo hi cp:Nat} {a:Option Addr} (n i B l:Nat) (U:Nat→Prop) (J Jx:Nat→World→Prop) (w:World) (hp0:1≤n) (hp1:n≤4096) (hp2:i<n) (hB1:Blk w b1 [(vI n),(.slice a (hgt n+1) cp)] 131) (hB2:Blk w b2 [vI i] 3) (hc:Es (nv .i64) lo hi w a (hgt n+1) cp (cts n)) (hb:b1≠b2) (hlo:¬(lo≤b2∧b2<hi)) (hU:∀b,(B≤b∨U b)→b≠b1∧b≠b2∧¬(lo≤b∧b<hi)) (hJ:∀k W W',J k W→Chg (fun b=>b=b2) W W'→J k W') (hY:∀k W,k<hgt n+1→J k W→Yat Tryz.prog l [.agg #[vI k,vI (qs i (k+1))]] W (fun v W'=>(v= .bool true∧J (k+1) W'∧Chg (fun b=>B≤b∨U b) W W')∨(v= .bool false∧Chg (fun b=>B≤b∨U b) W W'∧Jx k W'))) (h0:J 0 w):
  Calls Tryz.prog 93 #[(.func (.yield l) #[] #[]),(vP b1 0),(vP b2 0)] w (Ret fun r w'=>J (hgt n+1) w'∨∃k,k<hgt n+1∧Jx k w'):=by
 refine zL (n:=20) (σ:= [(0,(.func (.yield l) #[] #[])),(1,(vP b1 0)),(2,(vP b2 0))]) Tryz.func93 rfl ?_
 have h5:=zaz n
 refine zf (ze (zd 1 [(5,(vP b1 1))] (zb (zj (some 6) (Instr.loadAt 40 (vP b1 1)) (.slice a (hgt n+1) cp) (zo (hB1.cell rfl)) ?_))))
 refine zd 2 [(8,(vI 0)),(7,(vI (hgt n+1)))] (zg (zc (zI (zah (X:=Nat) (fun k=> [(8,(vI k))]) [4,9,10,11,12,13,14,15,16,17,18,19] (fun k w1=>k≤hgt n+1∧J k w1∧Blk w1 b1 [(vI n),(.slice a (hgt n+1) cp)] 131∧Blk w1 b2 [vI (qs i k)] 3∧Es (nv .i64) lo hi w1 a (hgt n+1) cp (cts n)) (fun k=>hgt n+1-k) 0 (by kernel_rfl) ⟨by omega,h0,hB1,hB2,hc⟩ ?_))))
 rintro k dw1 w1 ⟨hk,hJk,hBa,hBb,hEc⟩
 have hqi:=ziQ i k
 have hBlt:=hBb.lt
 refine zf (ze (zb (zO (some 9) (decide (((k:Nat):Int)<((hgt n+1:Nat):Int))) (fun hc9=> ?_) (fun hc9=> ?_))))
 ·replace hc9:k<hgt n+1:=by have:=zak hc9;omega
  refine zg (zc (zf (zF (zy (zc (zf (zI (zf (ze ?_)))))))))
  refine zd 2 [(4,(vI k)),(10,(vI k))] (zg (zc (zf (ze (zb (zj (some 11) (Instr.loadAt 3 (vP b2 0)) (vI (qs i k)) (zo (hBb.cell rfl)) ?_))))))
  refine zb (zv (some 12) .i64 (IntKind.i64.wrap (((qs i k:Nat):Int).tdiv ((4:Nat):Int))) (qs i (k+1)) (zG (ze3 _ _) (by omega) (by rw [qs];omega)) ?_)
  refine zb (zV 3 b2 0 3 (vI (qs i (k+1))) ([vI (qs i k)]) hBb (by first | decide |(simp;done)|(simp;omega)) ?_)
  intro w2 hBw2 hCw2
  have hzw2:=hCw2.size
  replace hBw2:=hBw2.set1
  refine zg (zc (zf (ze (zd 2 [(14,(vI k)),(13,(.func (.yield l) #[] #[]))] (zb (zj (some 15) (Instr.loadAt 3 (vP b2 0)) (vI (qs i (k+1))) (zo (hBw2.cell rfl)) ?_))))))
  refine zd 1 [(16,(vA [(vI k),(vI (qs i (k+1)))]))] (zb (zjR (some 17) l [(vA [(vI k),(vI (qs i (k+1)))])] (hY k _ (by omega) (hJ _ _ _ hJk hCw2)) ?_))
  rintro _ w3 (⟨rfl,hJw3,hCw3⟩|⟨rfl,hCw3,hXw3⟩)
  ·have hzw3:=hCw3.size
   refine zd 1 [(18,vF)] (zg (zc (zr (zy (zp (zc (ze (zb (zv (some 19) .i64 (IntKind.i64.wrap (((k:Nat):Int)+((1:Nat):Int))) (k+1) (zG (by omega) (by omega) (by omega)) ?_)))))))))
   refine zd 1 [(8,(vI (k+1)))] (zg (zC (zS (k+1) ?_ ?_)))
   ·exact ⟨by omega,hJw3,((((hBa).chg hCw2 (fun hs=>by have h:_=_:=hs;omega))).chg hCw3 (fun hs=>by have hu:=hU _ hs;omega)),((hBw2).chg hCw3 (fun hs=>by have hu:=hU _ hs;omega)),((((hEc).chg hCw2 (fun k h1 h2 hs=>by have h:k=_:=hs;omega))).chg hCw3 (fun k h1 h2 hs=>by have hu:=hU _ hs;omega))⟩
   ·first | omega |(dsimp only;omega)
  ·refine zd 1 [(18,vT)] (zg (zc (zF (zx (zA (zu (zu (zA (zB (.tuple #[]) ?_)))))))))
   exact .inr ⟨k,by omega,hXw3⟩
 ·replace hc9:¬(k<hgt n+1):=by have:=zal hc9;omega
  refine zg (zc (zf (zr (zaf (zH (zH (zT (zgP ?_))))))))
  obtain rfl:k=hgt n+1:=by omega
  exact .inl hJk
theorem zqG (n:Nat) {lo_c hi_c:Nat} {a_c:Option Addr} {n_c c_c:Nat} (i:Nat) (w:World) (h_c:Es (nv .i64) lo_c hi_c w a_c n_c c_c (cts n)):
  Calls Tryz.prog 66 #[(vA [(vI n),(.slice a_c n_c c_c)]),(vI i)] w (Ret fun r w'=>∃a0 a0q,r=(.func (.func 93) #[] #[(vP a0 0),(vP a0q 0)])∧w.heap.size≤a0∧a0<a0q∧Blk w' a0 [(vI n),(.slice a_c n_c c_c)] 131∧Blk w' a0q [(vI i)] 3∧Ext w w'):=by
 refine zL (n:=6) (σ:= [(0,(vA [(vI n),(.slice a_c n_c c_c)])),(1,(vI i))]) Tryz.func66 rfl ?_
 replace h_c:=h_c.now;have hle_c:=h_c.le
 refine zf (ze (zb (zt (some 2) (Instr.box 131 (vA [(vI n),(.slice a_c n_c c_c)])) (vP w.heap.size 0) ([(vI n),(.slice a_c n_c c_c)]) 131 ?_)))
 intro w1 hBw1 hEw1
 have hzw1:=hEw1.size;have hlw1:=hBw1.lt
 refine zb (zt (some 3) (Instr.box 3 (vI i)) (vP w1.heap.size 0) ([(vI i)]) 3 ?_)
 intro w2 hBw2 hEw2
 have hzw2:=hEw2.size;have hlw2:=hBw2.lt
 refine zd 1 [(4, .nilFunc)] (zg (zc (zf (ze (zd 2 [(4,(.func (.func 93) #[] #[(vP w.heap.size 0),(vP w1.heap.size 0)])),(5,(.func (.func 93) #[] #[(vP w.heap.size 0),(vP w1.heap.size 0)]))] (zg (zc (zx (zB (.func (.func 93) #[] #[(vP w.heap.size 0),(vP w1.heap.size 0)]) ?_)))))))))
 exact ⟨_,_,rfl,by omega,by omega,(hBw1.ext hEw2),hBw2,(hEw1.trans hEw2)⟩
theorem zmG (n:Int) (i:Int) (w:World) (hp0:¬((1≤n∧n≤4096)∧(0≤i∧i<n))):
  Calls Tryz.prog 38 #[(.int .i64 n),(.int .i64 i)] w (Ret fun r w'=>r=(.tuple #[(.slice none 0 0),(vI 1)])∧Ext w w'):=by
 refine zfS (n:=34) (σ:= [(0,(.int .i64 n)),(1,(.int .i64 i))]) Tryz.func38 rfl ?_
 refine zf (ze (zd 2 [(5,(vI 0)),(4,(.slice none 0 0))] (zg (zc (zf (ze (zd 2 [(12,(.int .i64 i)),(11,(.int .i64 n))] (zb (zi (some 13) (zlw n i _ (by omega)) ?_)))))))))
 rintro _ w1 ⟨a1,a2,na2,ca2,rfl,hEw1⟩
 have hzw1:=hEw1.size
 refine zd 3 [(15,(vI 1)),(14,(vA [(.int .i64 a1),(.slice a2 na2 ca2)])),(10,(.tuple #[(vA [(.int .i64 a1),(.slice a2 na2 ca2)]),(vI 1)]))] (zb (zt (some 6) (Instr.alloc 131 true (.tuple #[])) (vP w1.heap.size 0) ([(vI 0),(.slice none 0 0)]) 131 ?_))
 intro w2 hBw2 hEw2
 have hzw2:=hEw2.size;have hlw2:=hBw2.lt
 refine zb (zz 131 w1.heap.size 0 131 (vA [(.int .i64 a1),(.slice a2 na2 ca2)]) ([(vI 0),(.slice none 0 0)]) ([(.int .i64 a1),(.slice a2 na2 ca2)]) hBw2 (by kernel_rfl) (by first | decide |(simp;done)|(simp;omega)) (by simp [Value.oneCell']) ?_)
 intro w3 hBw3 hCw3
 have hzw3:=hCw3.size
 rw [zm _ _ (by kernel_rfl)] at hBw3
 refine zd 1 [(7,(vI 1))] (zg (zc (zf (zf (ze (zd 2 [(17,vT),(16,(vI 1))] (zg (zc (zF ?_)))))))))
 exact zf (ze (zd 3 [(5,(vI 1)),(4,(.slice none 0 0)),(18,(vI 1))] (zg (zc (zx (zu (zkm (.tuple #[(.slice none 0 0),(vI 1)]) (⟨rfl,(Ext.own (hEw1.trans hEw2) hCw3 (by omega))⟩))))))))
theorem zhn (n:Nat) (i:Nat) (w:World) (hp0:1≤n) (hp1:n≤4096) (hp2:i<n):
  Calls Tryz.prog 38 #[(vI n),(vI i)] w (Ret fun r w'=>∃a0,r=(.tuple #[(.slice a0 (hgt n+1) (hgt n+1)),(vI 0)])∧Ms zbQ 2 w.heap.size w'.heap.size w' a0 (hgt n+1) (hgt n+1) (zdd n i)∧Ext w w'):=by
 refine zfS (n:=34) (σ:= [(0,(vI n)),(1,(vI i))]) Tryz.func38 rfl ?_
 have h5:=zaz n
 have hqi:=ziQ i
 refine zf (ze (zd 2 [(5,(vI 0)),(4,(.slice none 0 0))] (zg (zc (zf (ze (zd 2 [(12,(vI i)),(11,(vI n))] (zb (zi (some 13) (zpc n i _ (by omega) (by omega) (by omega)) ?_)))))))))
 rintro _ w1 ⟨a1,ca1,rfl,hFz1_0,hEw1⟩
 have hzw1:=hEw1.size
 have hlea1:=hFz1_0.le
 refine zd 3 [(15,(vI 0)),(14,(vA [(vI n),(.slice a1 (hgt n+1) ca1)])),(10,(.tuple #[(vA [(vI n),(.slice a1 (hgt n+1) ca1)]),(vI 0)]))] (zb (zt (some 6) (Instr.alloc 131 true (.tuple #[])) (vP w1.heap.size 0) ([(vI 0),(.slice none 0 0)]) 131 ?_))
 intro w2 hBw2 hEw2
 have hzw2:=hEw2.size;have hlw2:=hBw2.lt
 refine zb (zz 131 w1.heap.size 0 131 (vA [(vI n),(.slice a1 (hgt n+1) ca1)]) ([(vI 0),(.slice none 0 0)]) ([(vI n),(.slice a1 (hgt n+1) ca1)]) hBw2 (by kernel_rfl) (by first | decide |(simp;done)|(simp;omega)) (by simp [Value.oneCell']) ?_)
 intro w3 hBw3 hCw3
 have hzw3:=hCw3.size
 rw [zm _ _ (by kernel_rfl)] at hBw3
 refine zd 1 [(7,(vI 0))] (zg (zc (zf (zf (ze (zd 2 [(17,vF),(16,(vI 0))] (zg (zc (zr ?_)))))))))
 refine zy (zc (zf (ze (zd 1 [(19,(vP w1.heap.size 1))] (zb (zj (some 20) (Instr.loadAt 40 (vP w1.heap.size 1)) (.slice a1 (hgt n+1) ca1) (zo (hBw3.cell rfl)) ?_))))))
 refine zd 1 [(21,(vI (hgt n+1)))] (zb (zcU (some 22) 94 70 2 16 0 (hgt n+1) .i64 .i64 (vA [(vI 0),(vI 0)]) (by omega) (by omega) (by omega) ?_))
 obtain ⟨r1,hr1⟩:∃r,(madeCells (vA [(vI 0),(vI 0)]).cells ((hgt n+1)*2)).toList=r:=⟨_,rfl⟩
 rw [hr1]
 have hlr1:r1.length=(hgt n+1)*2:=by rw [←hr1,zko]
 intro w4 hBw4 hEw4
 have hzw4:=hEw4.size;have hlw4:=hBw4.lt
 refine zb (zt (some 8) (Instr.alloc 94 true (.tuple #[])) (vP w4.heap.size 0) ([(.slice none 0 0)]) 94 ?_)
 intro w5 hBw5 hEw5
 have hzw5:=hEw5.size;have hlw5:=hBw5.lt
 refine zb (zV 94 w4.heap.size 0 94 (.slice (pA w3.heap.size 0) 0 (hgt n+1)) ([(.slice none 0 0)]) hBw5 (by first | decide |(simp;done)|(simp;omega)) ?_)
 intro w6 hBw6 hCw6
 have hzw6:=hCw6.size
 replace hBw6:=hBw6.set1
 refine zg (zc (zf (zf (ze ?_))))
 have hK1:=(((((hBw3.ext hEw4)).ext hEw5)).chg hCw6 (fun hs=>by have h:_=_:=hs;omega))
 refine zb (zj (some 23) (Instr.loadAt 131 (vP w1.heap.size 0)) (vA [(vI n),(.slice a1 (hgt n+1) ca1)]) (zD (vs:= [(vI n),(.slice a1 (hgt n+1) ca1)]) (hK1.all)) ?_)
 refine zd 1 [(24,(vI i))] ?_
 have hK2:=(((((((((hFz1_0.ext hEw2)).chg hCw3 (fun k h1 h2 hs=>by have h:k=_:=hs;omega))).ext hEw4)).ext hEw5)).chg hCw6 (fun k h1 h2 hs=>by have h:k=_:=hs;omega))
 refine zb (zi (some 25) (zqG n i _ hK2) ?_)
 rintro _ w7 ⟨a2,a2q,rfl,hFz2_0,hFz2_1,hFz2_2,hFz2_3,hEw7⟩
 have hzw7:=hEw7.size
 have hla2:=hFz2_2.lt;have hla2q:=hFz2_3.lt
 refine zg (zc (zI ?_))
 have hK3:=(((((hBw4.ext hEw5)).chg hCw6 (fun hs=>by have h:_=_:=hs;omega))).ext hEw7)
 have hX1:Ext w w7:=((Ext.own (((Ext.own (hEw1.trans hEw2) hCw3 (by omega)).trans hEw4).trans hEw5) hCw6 (by omega)).trans hEw7)
 refine zit [26] 93 [(vP a2 0),(vP a2q 0)] (hgt n+1) (fun k=> [(vA [(vI k),(vI (qs i (k+1)))])]) (fun b=>b=w4.heap.size∨b=w3.heap.size) (fun b=>b=a2q) (fun k w'=>∃r,Blk w' w3.heap.size ((pup i k).flatMap zbQ++r) 70∧r.length=(hgt n+1-k)*2∧Blk w' w4.heap.size [(.slice (pA w3.heap.size 0) k (hgt n+1))] 94∧Ext w w') (fun cc k w'=>False) (fun b hb=>by have h:b=_:=hb;omega) (fun _=>rfl) (fun k W W' ⟨r,h1,h2,h3,h4⟩ hb=>⟨r,h1.book hb,h2,h3.book hb,h4.book hb (by omega)⟩) (fun _ _ _ _ h _=>h) (fun k W W' ⟨r,h1,h2,h3,h4⟩ hc=>⟨r,h1.chg hc (fun hs=>by have h:_=_:=hs;omega),h2,h3.chg hc (fun hs=>by have h:_=_:=hs;omega),Ext.own h4 hc (by omega)⟩) (⟨_,hK3,by omega,(hBw6.ext hEw7),hX1⟩) (fun l J Jx w1 hE1 hJ hY h0=>zqs n i w7.heap.size l _ J Jx w1 hp0 hp1 hp2 (hFz2_2.ext hE1) (hFz2_3.ext hE1) ((hK2.ext hEw7).ext hE1) (by omega) (by omega) (fun b hb=>by omega) hJ hY h0) ?_ ?_ ?_
 ·rintro lR k w8 hl ⟨r,hBo,hr,hB8,hEw⟩ hk
  have hlo8:=hB8.lt;have hloo:=hBo.lt;have hzr:=hEw.size
  refine ze (zb (zt (some 9) (Instr.alloc 70 true (.tuple #[])) (vP w8.heap.size 0) ([(vI 0),(vI 0)]) 70 ?_))
  intro w9 hBw9 hEw9
  have hzw9:=hEw9.size;have hlw9:=hBw9.lt
  refine zb (zz 70 w8.heap.size 0 70 (vA [(vI k),(vI (qs i (k+1)))]) ([(vI 0),(vI 0)]) ([(vI k),(vI (qs i (k+1)))]) hBw9 (by kernel_rfl) (by first | decide |(simp;done)|(simp;omega)) (by simp [Value.oneCell']) ?_)
  intro w10 hBw10 hCw10
  have hzw10:=hCw10.size
  rw [zm _ _ (by kernel_rfl)] at hBw10
  refine zg (zmA (((Kpt.refl _).ext hEw9).blk hBw9 hCw10) (Chg.then ((Chg.refl _ _).trans hEw9.chg) hCw10 (fun k hk hs=>by have h:k=_:=hs;first |(left;omega)|(exfalso;omega)|(right;simp [h];done))) (fun w11 hBkw11=> ?_))
  have hzw11:=hBkw11.size
  refine zI (ze ?_)
  have hK4:=(((((hB8.ext hEw9)).chg hCw10 (fun hs=>by have h:_=_:=hs;omega))).book hBkw11)
  refine zb (zj (some 27) (Instr.loadAt 94 (vP w4.heap.size 0)) (.slice (pA w3.heap.size 0) k (hgt n+1)) (zo (hK4.cell rfl)) ?_)
  refine zb (zj (some 28) (Instr.loadAt 70 (vP w8.heap.size 0)) (vA [(vI k),(vI (qs i (k+1)))]) (zD (vs:= [(vI k),(vI (qs i (k+1)))]) (((hBw10).book hBkw11).all)) ?_)
  refine zb (zt (some 29) (Instr.buildSlice 94 1 #[(0,(vA [(vI k),(vI (qs i (k+1)))]))]) (.slice (pA w11.heap.size 0) 1 1) [(vI k),(vI (qs i (k+1)))] 70 ?_)
  intro w12 hBw12 hEw12
  have hzw12:=hEw12.size;have hlw12:=hBw12.lt
  have hmw12:Ms zbQ 2 w11.heap.size (w11.heap.size+1) w12 (pA w11.heap.size 0) 1 1 [(k,qs i (k+1))]:=Ms.of_pre (r:= []) (show Blk _ _ _ _ from hBw12) zbm rfl (Nat.le_refl _) (by decide) (Nat.le_refl _) (Nat.lt_succ_self _)
  have hK5:=(((((((hBo.ext hEw9)).chg hCw10 (fun hs=>by have h:_=_:=hs;omega))).book hBkw11)).ext hEw12)
  refine zb (zb5 (some 30) 94 94 70 2 w3.heap.size k (hgt n+1) ⟨w11.heap.size,0,none⟩ 1 1 hK5 (SlA.of_blk hBw12 (Nat.le_refl _) (by decide) (Nat.le_refl _) (Nat.lt_succ_self _)) rfl (zn6 (k,qs i (k+1))) (by rw [List.length_append,zaD zbm,zdS];omega) ?_)
  have hK6:=(((((((hBo.ext hEw9)).chg hCw10 (fun hs=>by have h:_=_:=hs;omega))).book hBkw11)).ext hEw12)
  intro w13 hBw13 hCw13
  have hzw13:=hCw13.size
  replace hBw13:Blk w13 w3.heap.size (((pup i k)++ [(k,qs i (k+1))]).flatMap zbQ++r.drop 2) 70:=(zo1 (sz:=2) (r:=r) zbm (zdS i k) (k,qs i (k+1)) (by omega))▸hBw13
  refine zb (zV 94 w4.heap.size 0 94 (.slice (pA w3.heap.size 0) (k+1) (hgt n+1)) ([(.slice (pA w3.heap.size 0) k (hgt n+1))]) (((hK4.ext hEw12)).chg hCw13 (fun hs=>by have h:_=_:=hs;omega)) (by first | decide |(simp;done)|(simp;omega)) ?_)
  intro w14 hBw14 hCw14
  have hzw14:=hCw14.size
  replace hBw14:=hBw14.set1
  refine zg (zp ?_)
  have hX2:Ext w w14:=(Ext.own (Ext.own (((Ext.own (hEw.trans hEw9) hCw10 (by omega)).book hBkw11 (by omega)).trans hEw12) hCw13 (by omega)) hCw14 (by omega))
  exact zfY ((((Kpt.refl _).ext hEw12).blk hK6 hCw13).blk (((hK4.ext hEw12)).chg hCw13 (fun hs=>by have h:_=_:=hs;omega)) hCw14) (Chg.then (Chg.then ((Chg.refl _ _).trans hEw12.chg) hCw13 (fun k hk hs=>by have h:k=_:=hs;first |(left;omega)|(exfalso;omega)|(right;simp [h];done))) hCw14 (fun k hk hs=>by have h:k=_:=hs;first |(left;omega)|(exfalso;omega)|(right;simp [h];done))) (⟨_,by rw [zop,zjq];exact ((hBw13).chg hCw14 (fun hs=>by have h:_=_:=hs;omega)),by rw [List.length_drop];omega,hBw14,hX2⟩)
 ·rintro D w15 hD ⟨r,hBo,hr,hB8,hEw⟩ hM
  have hlo8:=hB8.lt;have hloo:=hBo.lt;have hzr:=hEw.size
  obtain rfl:r= []:=List.eq_nil_of_length_eq_zero (by omega)
  rw [List.append_nil] at hBo
  have hMl:=hM.lt
  refine zp (zc (zf (ze (zb (zj (some 31) (Instr.loadAt 94 (vP w4.heap.size 0)) (.slice (pA w3.heap.size 0) (hgt n+1) (hgt n+1)) (zo (hB8.cell rfl)) ?_)))))
  refine zb (zi (some 32) (znl (l:=(pup i (hgt n+1))) _ hBo (by rw [zdS]) (by omega)) ?_)
  rintro _ w16 ⟨rfl,hBw16,hCw16⟩
  have hzw16:=hCw16.size
  refine zg (zc (zf (ze (zb (zj (some 33) (Instr.loadAt 94 (vP w4.heap.size 0)) (.slice (pA w3.heap.size 0) (hgt n+1) (hgt n+1)) (zo (((hB8).chg hCw16 (fun hs=>by have h:_=_:=hs;omega)).cell rfl)) ?_)))))
  refine zd 2 [(5,(vI 0)),(4,(.slice (pA w3.heap.size 0) (hgt n+1) (hgt n+1)))] (zg (zc (zx ?_)))
  obtain ⟨w17,hTw17,hCw17,hBkw17⟩:=ziE (P:=Tryz.prog) ((hM).chg hCw16 (fun hs=>by have h:_=_:=hs;omega))
  have hzw17:=hCw17.size
  exact zlC hTw17 (.tuple #[(.slice (pA w3.heap.size 0) (hgt n+1) (hgt n+1)),(vI 0)]) (⟨_,rfl,Ms.of_pre (r:= []) (by rw [List.append_nil];exact ((hBw16).book hBkw17)) zbm (zeH n i).symm (Nat.le_refl _) (by simp only [maxLen];omega) (by omega) (by have:=(((hBw16).book hBkw17)).lt;omega),((Ext.own hEw hCw16 (by omega)).book hBkw17 (by omega))⟩)
 ·intro D cc k w18 hD hk hx;exact hx.elim
end Go.Proofs.YtgdpdnokcnhgnaaGreatDoor
namespace Go.Proofs.YtgdpdnokcnhgnaaGreatDoor
open Go Go.RowKit Go.Cs
set_option maxRecDepth 100000
theorem zj5 (n:Nat) (l:Nat) (w:World) (hp0:1≤n) (hp1:n≤4096) (hp2:l≤hgt n):
  Calls Tryz.prog 55 #[(vI n),(vI l)] w (Ret fun r w'=>r=(vI (cnt n l))∧w=w'):=by
 refine zL (n:=23) (σ:= [(0,(vI n)),(1,(vI l))]) Tryz.func55 rfl ?_
 have h5:=zaz n
 refine zf (ze (zd 1 [(4,(vI 0))] (zg (zc (zf (ze (zd 2 [(5,(vI n)),(7,(vI n))] (zg (zc ?_)))))))))
 refine zf (zf (ze (zd 1 [(6,(vI 0))] (zg (zc (zI (zah (X:=Nat) (fun k=> [(5,(vI (und n k))),(6,(vI k))]) [4,8,9,10,11,12,13,14,15,16,17,18,19,20,21] (fun k w1=>w=w1∧k≤l+1) (fun k=>l+1-k) 0 (by kernel_rfl) ⟨rfl,by omega⟩ ?_)))))))
 rintro k dw1 w1 ⟨rfl,hk⟩
 have hun:=zgs n k
 have hun2:=zgs n (k+1)
 refine zf (zf (ze (zd 2 [(9,(vI l)),(8,(vI k))] (zb (zO (some 10) (decide (((k:Nat):Int)≤((l:Nat):Int))) (fun hc10=> ?_) (fun hc10=> ?_))))))
 ·replace hc10:k≤l:=by have:=zak hc10;omega
  refine zg (zc (zF (zy (zc (zf (zI (zf (zf (ze ?_)))))))))
  refine zd 1 [(13,(vI k))] (zb (zO (some 14) (decide (((k:Nat):Int)>((0:Nat):Int))) (fun hc14=> ?_) (fun hc14=> ?_)))
  ·replace hc14:k>0:=by have:=zak hc14;omega
   have hm:=zjD (n:=n) (l:=k-1) (by omega)
   have hku:=zc9 (n:=n) (l:=k) (by omega)
   refine zd 2 [(16,(vI (und n k))),(15,vT)] (zb (zat (some 17) (((und n k:Nat):Int)==((1:Nat):Int)) false (zbW (by omega)) ?_))
   refine zd 1 [(18,vF)] (zg (zc (zr (zy (zc (ze (zd 1 [(19,(vI (und n k)))] (zb (zv (some 20) .i64 (IntKind.i64.wrap (((und n k:Nat):Int)+((3:Nat):Int))) (und n k+3) (zG (by omega) (by omega) (by omega)) ?_)))))))))
   refine zb (zv (some 21) .i64 (IntKind.i64.wrap (((und n k+3:Nat):Int).tdiv ((4:Nat):Int))) (und n (k+1)) (zG (ze3 _ _) (by omega) (by omega)) ?_)
   refine zd 1 [(5,(vI (und n (k+1))))] (zg (zp (zc (ze (zd 1 [(11,(vI k))] (zb (zv (some 12) .i64 (IntKind.i64.wrap (((k:Nat):Int)+((1:Nat):Int))) (k+1) (zG (by omega) (by omega) (by omega)) ?_)))))))
   refine zd 1 [(6,(vI (k+1)))] (zg (zC (zS (k+1) ?_ ?_)))
   ·exact ⟨rfl,by omega⟩
   ·first | omega |(dsimp only;omega)
  ·replace hc14:¬(k>0):=by have:=zal hc14;omega
   obtain rfl:k=0:=by omega
   refine zd 4 [(18,vF),(17,undef),(16,undef),(15,vF)] (zg (zc (zr (zy (zc (ze (zd 1 [(19,(vI (und n 0)))] (zb (zv (some 20) .i64 (IntKind.i64.wrap (((und n 0:Nat):Int)+((3:Nat):Int))) (und n 0+3) (zG (by omega) (by omega) (by omega)) ?_)))))))))
   refine zb (zv (some 21) .i64 (IntKind.i64.wrap (((und n 0+3:Nat):Int).tdiv ((4:Nat):Int))) (und n (0+1)) (zG (ze3 _ _) (by omega) (by omega)) ?_)
   refine zd 1 [(5,(vI (und n (0+1))))] (zg (zp (zc (ze (zd 1 [(11,(vI 0))] (zb (zv (some 12) .i64 (IntKind.i64.wrap (((0:Nat):Int)+((1:Nat):Int))) 1 (zG (by omega) (by omega) (by omega)) ?_)))))))
   refine zd 1 [(6,(vI 1))] (zg (zC (zS (1) ?_ ?_)))
   ·exact ⟨rfl,by omega⟩
   ·first | omega |(dsimp only;omega)
 ·replace hc10:¬(k≤l):=by have:=zal hc10;omega
  refine zg (zc (zr (zaf (zH (zH (zT (zc (zf (ze ?_)))))))))
  refine zd 2 [(4,(vI (und n k))),(22,(vI (und n k)))] (zg (zc (zx (zB (vI (und n k)) ?_))))
  obtain rfl:k=l+1:=by omega
  exact ⟨rfl,rfl⟩
theorem zmX (n:Nat) (w:World) (hp0:1≤n) (hp1:n≤4096):
  Calls Tryz.prog 26 #[(vI n)] w (Ret fun r w'=>r=(vI (hgt n))∧w=w'):=by
 refine zL (n:=11) (σ:= [(0,(vI n))]) Tryz.func26 rfl ?_
 have h5:=zaz n
 refine zf (ze (zd 1 [(2,(vI 0))] (zg (zc (zf (ze (zd 1 [(3,(vI 0))] (zg (zc ?_)))))))))
 refine zf (zI (zah (X:=Nat) (fun k=> [(3,(vI k))]) [4,5,6,7,8,9] (fun k w1=>w=w1∧k≤hgt n) (fun k=>hgt n-k) 0 (by kernel_rfl) ⟨rfl,by omega⟩ ?_))
 rintro k dw1 w1 ⟨rfl,hk⟩
 have hiff:=zfc hp0 hp1 hk
 refine zf (zf (ze (zd 2 [(5,(vI k)),(4,(vI n))] (zb (zi (some 6) (zj5 n k _ (by omega) (by omega) (by omega)) ?_)))))
 rintro _ _ ⟨rfl,rfl⟩
 refine zb (zO (some 7) ((((cnt n k:Nat):Int) !=((1:Nat):Int))) (fun hc7=> ?_) (fun hc7=> ?_))
 ·replace hc7:¬(cnt n k=1):=by have:=zbY hc7;omega
  have hlt:k<hgt n:=by rcases Nat.lt_or_ge k (hgt n) with h | h;exact h;exact absurd (hiff.2 (by omega)) hc7
  refine zg (zc (zF (zy (zc (zI (ze (zd 1 [(8,(vI k))] (zb (zv (some 9) .i64 (IntKind.i64.wrap (((k:Nat):Int)+((1:Nat):Int))) (k+1) (zG (by omega) (by omega) (by omega)) ?_)))))))))
  refine zd 1 [(3,(vI (k+1)))] (zg (zp (zC (zS (k+1) ?_ ?_))))
  ·exact ⟨rfl,by omega⟩
  ·first | omega |(dsimp only;omega)
 ·replace hc7:cnt n k=1:=by have:=zbX hc7;omega
  obtain rfl:=hiff.1 hc7
  refine zg (zc (zr (zaf (zH (zH (zT (zc (zf (ze ?_)))))))))
  exact zd 2 [(2,(vI (hgt n))),(10,(vI (hgt n)))] (zg (zc (zx (zB (vI (hgt n)) (⟨rfl,rfl⟩)))))
theorem zvO (n:Nat) (l:Nat) (j:Nat) (w:World) (hp0:1≤n) (hp1:n≤4096) (hp2:l≤hgt n+1) (hp3:j≤4096):
  Calls Tryz.prog 59 #[(vI n),(vI l),(vI j)] w (Ret fun r w'=>r=(vI (prt n l j))∧w=w'):=by
 refine zL (n:=30) (σ:= [(0,(vI n)),(1,(vI l)),(2,(vI j))]) Tryz.func59 rfl ?_
 have h5:=zaz n
 refine zf (ze (zd 1 [(6,(vI 0))] (zg (zc (zf (ze (zd 2 [(7,(vI n)),(10,(vI n))] (zg (zc ?_)))))))))
 refine zf (zf (ze (zd 1 [(11,(vI l))] (zb (zO (some 12) (decide (((l:Nat):Int)>((0:Nat):Int))) (fun hc12=> ?_) (fun hc12=> ?_))))))
 ·replace hc12:l>0:=by have:=zak hc12;omega
  have hup:=zc9 (n:=n) (l:=l) (by omega)
  have hun:=zgs n l
  refine zg (zc (zF (ze (zd 2 [(14,(vI l)),(13,(vI n))] (zb (zv (some 15) .i64 (IntKind.i64.wrap (((l:Nat):Int)-((1:Nat):Int))) (l-1) (zG (by omega) (by omega) (by omega)) ?_))))))
  refine zb (zi (some 16) (zj5 n (l-1) _ (by omega) (by omega) (by omega)) ?_)
  rintro _ _ ⟨rfl,rfl⟩
  rw [show cnt n (l-1)=und n l from hup.symm]
  refine zd 1 [(7,(vI (und n l)))] (zg (zc (zf (ze (zd 1 [(8,(vI 0))] (zg (zc (zf (zf ?_)))))))))
  refine ze (zd 1 [(9,(vI 0))] (zg (zc (zI (zah (X:=Nat) (fun v=> [(8,(vI (min v (und n l-4*j)))),(9,(vI v))]) [17,18,19,20,21,22,23,24,25,26,27,28] (fun v w1=>w=w1∧v≤4) (fun v=>4-v) 0 (by rw [Nat.zero_min];kernel_rfl) ⟨rfl,by omega⟩ ?_)))))
  rintro v dw1 w1 ⟨rfl,hv⟩
  refine zf (zf (ze (zd 1 [(17,(vI v))] (zb (zO (some 18) (decide (((v:Nat):Int)<((4:Nat):Int))) (fun hc18=> ?_) (fun hc18=> ?_))))))
  ·replace hc18:v<4:=by have:=zak hc18;omega
   refine zg (zc (zF (zy (zc (zf (zI (zf (ze (zd 1 [(21,(vI j))] ?_)))))))))
   refine zb (zv (some 22) .i64 (IntKind.i64.wrap (((4:Nat):Int)*((j:Nat):Int))) (4*j) (zG (by omega) (by omega) (by omega)) ?_)
   refine zd 1 [(23,(vI v))] (zb (zv (some 24) .i64 (IntKind.i64.wrap (((4*j:Nat):Int)+((v:Nat):Int))) (4*j+v) (zG (by omega) (by omega) (by omega)) ?_))
   refine zd 1 [(25,(vI (und n l)))] (zb (zO (some 26) (decide (((4*j+v:Nat):Int)<((und n l:Nat):Int))) (fun hc26=> ?_) (fun hc26=> ?_)))
   ·replace hc26:4*j+v<und n l:=by have:=zak hc26;omega
    refine zg (zc (zF (ze (zd 1 [(27,(vI (min v (und n l-4*j))))] (zb (zv (some 28) .i64 (IntKind.i64.wrap (((min v (und n l-4*j):Nat):Int)+((1:Nat):Int))) (min (v+1) (und n l-4*j)) (zG (by omega) (by omega) (by omega)) ?_))))))
    refine zd 1 [(8,(vI (min (v+1) (und n l-4*j))))] (zg (zp (zc (ze (zd 1 [(19,(vI v))] (zb (zv (some 20) .i64 (IntKind.i64.wrap (((v:Nat):Int)+((1:Nat):Int))) (v+1) (zG (by omega) (by omega) (by omega)) ?_)))))))
    refine zd 1 [(9,(vI (v+1)))] (zg (zC (zS (v+1) ?_ ?_)))
    ·exact ⟨rfl,by omega⟩
    ·first | omega |(dsimp only;omega)
   ·replace hc26:¬(4*j+v<und n l):=by have:=zal hc26;omega
    rw [show min v (und n l-4*j)=min (v+1) (und n l-4*j) from by omega]
    refine zg (zc (zr (zy (zp (zc (ze (zd 1 [(19,(vI v))] (zb (zv (some 20) .i64 (IntKind.i64.wrap (((v:Nat):Int)+((1:Nat):Int))) (v+1) (zG (by omega) (by omega) (by omega)) ?_)))))))))
    refine zd 1 [(9,(vI (v+1)))] (zg (zC (zS (v+1) ?_ ?_)))
    ·exact ⟨rfl,by omega⟩
    ·first | omega |(dsimp only;omega)
  ·replace hc18:¬(v<4):=by have:=zal hc18;omega
   refine zg (zc (zr (zaf (zH (zH (zT (zc (zf (ze ?_)))))))))
   refine zd 2 [(6,(vI (min v (und n l-4*j)))),(29,(vI (min v (und n l-4*j))))] (zg (zc (zx (zB (vI (min v (und n l-4*j))) ?_))))
   obtain rfl:v=4:=by omega
   exact ⟨rfl,rfl⟩
 ·replace hc12:¬(l>0):=by have:=zal hc12;omega
  obtain rfl:l=0:=by omega
  have hu0:und n 0=n:=rfl
  refine zg (zc (zr (zy (zc (zf (ze (zd 1 [(8,(vI 0))] (zg (zc ?_)))))))))
  refine zf (zf (ze (zd 1 [(9,(vI 0))] (zg (zc (zI (zah (X:=Nat) (fun v=> [(8,(vI (min v (und n 0-4*j)))),(9,(vI v))]) [17,18,19,20,21,22,23,24,25,26,27,28] (fun v w2=>w=w2∧v≤4) (fun v=>4-v) 0 (by rw [Nat.zero_min];kernel_rfl) ⟨rfl,by omega⟩ ?_)))))))
  rintro v dw2 w2 ⟨rfl,hv⟩
  refine zf (zf (ze (zd 1 [(17,(vI v))] (zb (zO (some 18) (decide (((v:Nat):Int)<((4:Nat):Int))) (fun hc18=> ?_) (fun hc18=> ?_))))))
  ·replace hc18:v<4:=by have:=zak hc18;omega
   refine zg (zc (zF (zy (zc (zf (zI (zf (ze (zd 1 [(21,(vI j))] ?_)))))))))
   refine zb (zv (some 22) .i64 (IntKind.i64.wrap (((4:Nat):Int)*((j:Nat):Int))) (4*j) (zG (by omega) (by omega) (by omega)) ?_)
   refine zd 1 [(23,(vI v))] (zb (zv (some 24) .i64 (IntKind.i64.wrap (((4*j:Nat):Int)+((v:Nat):Int))) (4*j+v) (zG (by omega) (by omega) (by omega)) ?_))
   refine zd 1 [(25,(vI n))] (zb (zO (some 26) (decide (((4*j+v:Nat):Int)<((n:Nat):Int))) (fun hc26=> ?_) (fun hc26=> ?_)))
   ·replace hc26:4*j+v<n:=by have:=zak hc26;omega
    refine zg (zc (zF (ze (zd 1 [(27,(vI (min v (und n 0-4*j))))] (zb (zv (some 28) .i64 (IntKind.i64.wrap (((min v (und n 0-4*j):Nat):Int)+((1:Nat):Int))) (min (v+1) (und n 0-4*j)) (zG (by omega) (by omega) (by omega)) ?_))))))
    refine zd 1 [(8,(vI (min (v+1) (und n 0-4*j))))] (zg (zp (zc (ze (zd 1 [(19,(vI v))] (zb (zv (some 20) .i64 (IntKind.i64.wrap (((v:Nat):Int)+((1:Nat):Int))) (v+1) (zG (by omega) (by omega) (by omega)) ?_)))))))
    refine zd 1 [(9,(vI (v+1)))] (zg (zC (zS (v+1) ?_ ?_)))
    ·exact ⟨rfl,by omega⟩
    ·first | omega |(dsimp only;omega)
   ·replace hc26:¬(4*j+v<n):=by have:=zal hc26;omega
    rw [show min v (und n 0-4*j)=min (v+1) (und n 0-4*j) from by omega]
    refine zg (zc (zr (zy (zp (zc (ze (zd 1 [(19,(vI v))] (zb (zv (some 20) .i64 (IntKind.i64.wrap (((v:Nat):Int)+((1:Nat):Int))) (v+1) (zG (by omega) (by omega) (by omega)) ?_)))))))))
    refine zd 1 [(9,(vI (v+1)))] (zg (zC (zS (v+1) ?_ ?_)))
    ·exact ⟨rfl,by omega⟩
    ·first | omega |(dsimp only;omega)
  ·replace hc18:¬(v<4):=by have:=zal hc18;omega
   refine zg (zc (zr (zaf (zH (zH (zT (zc (zf (ze ?_)))))))))
   refine zd 2 [(6,(vI (min v (und n 0-4*j)))),(29,(vI (min v (und n 0-4*j))))] (zg (zc (zx (zB (vI (min v (und n 0-4*j))) ?_))))
   obtain rfl:v=4:=by omega
   exact ⟨rfl,rfl⟩
theorem zvX (i:Nat) (l:Nat) (w:World) (hp0:i≤4096) (hp1:l≤4096):
  Calls Tryz.prog 28 #[(vI i),(vI l)] w (Ret fun r w'=>r=(vI (idx i l))∧w=w'):=by
 refine zL (n:=17) (σ:= [(0,(vI i)),(1,(vI l))]) Tryz.func28 rfl ?_
 refine zf (ze (zd 1 [(4,(vI 0))] (zg (zc (zf (ze (zd 1 [(7,(vI i))] (zb (zv (some 8) .i64 (IntKind.i64.wrap (((i:Nat):Int).tdiv ((4:Nat):Int))) (i/4) (zG (ze3 _ _) (by omega) (by omega)) ?_)))))))))
 refine zd 1 [(5,(vI (i/4)))] (zg (zc (zf (zf (ze (zd 1 [(6,(vI 0))] (zg (zc (zI ?_)))))))))
 refine zah (X:=Nat) (fun k=> [(5,(vI (idx i k))),(6,(vI k))]) [9,10,11,12,13,14,15] (fun k w1=>w=w1∧k≤l) (fun k=>l-k) 0 (by kernel_rfl) ⟨rfl,by omega⟩ ?_
 rintro k dw1 w1 ⟨rfl,hk⟩
 have hix:=zfV i k
 refine zf (zf (ze (zd 2 [(10,(vI l)),(9,(vI k))] (zb (zO (some 11) (decide (((k:Nat):Int)<((l:Nat):Int))) (fun hc11=> ?_) (fun hc11=> ?_))))))
 ·replace hc11:k<l:=by have:=zak hc11;omega
  refine zg (zc (zF (zy (zc (zf (zI (ze (zd 1 [(14,(vI (idx i k)))] (zb (zv (some 15) .i64 (IntKind.i64.wrap (((idx i k:Nat):Int).tdiv ((4:Nat):Int))) (idx i (k+1)) (zG (ze3 _ _) (by omega) (by rw [idx];omega)) ?_))))))))))
  refine zd 1 [(5,(vI (idx i (k+1))))] (zg (zp (zc (ze (zd 1 [(12,(vI k))] (zb (zv (some 13) .i64 (IntKind.i64.wrap (((k:Nat):Int)+((1:Nat):Int))) (k+1) (zG (by omega) (by omega) (by omega)) ?_)))))))
  refine zd 1 [(6,(vI (k+1)))] (zg (zC (zS (k+1) ?_ ?_)))
  ·exact ⟨rfl,by omega⟩
  ·first | omega |(dsimp only;omega)
 ·replace hc11:¬(k<l):=by have:=zal hc11;omega
  refine zg (zc (zr (zaf (zH (zH (zT (zc (zf (ze ?_)))))))))
  refine zd 2 [(4,(vI (idx i k))),(16,(vI (idx i k)))] (zg (zc (zx (zB (vI (idx i k)) ?_))))
  obtain rfl:k=l:=by omega
  exact ⟨rfl,rfl⟩
end Go.Proofs.YtgdpdnokcnhgnaaGreatDoor
namespace Go.Proofs.YtgdpdnokcnhgnaaGreatDoor
open Go Go.RowKit Go.Cs
set_option maxRecDepth 100000
theorem znv (v:Nat) (w:World):
  Calls Tryz.prog 82 #[(vB v)] w (Ret fun r w'=>r=(vI (min v 1))∧w=w'):=by
 refine zL (n:=6) (σ:= [(0,(vB v))]) Tryz.func82 rfl ?_
 refine zf (ze (zd 1 [(2,(vI 0))] (zg (zc (zf (ze (zd 1 [(3,(vB v))] (zb (zhy (some 4) (.int .u8 (if ((1:Nat):Int)<((v:Nat):Int) then ((1:Nat):Int) else ((v:Nat):Int))) (vB (min v 1)) (congrArg _ (zlK _ _)) ?_)))))))))
 refine zb (zv (some 5) .i64 (IntKind.i64.wrap ((min v 1:Nat):Int)) (min v 1) (zG rfl (by omega) (by omega)) ?_)
 exact zd 1 [(2,(vI (min v 1)))] (zg (zc (zx (zB (vI (min v 1)) (⟨rfl,rfl⟩)))))
theorem zpi (x:R4) (w:World):
  Calls Tryz.prog 85 #[(vA (r4C x)),(.func (.func 49) #[] #[])] w (Ret fun r w'=>r=(vI (zeY x))∧Ext w w'):=by
 refine zL (n:=19) (σ:= [(0,(vA (r4C x))),(1,(.func (.func 49) #[] #[]))]) Tryz.func85 rfl ?_
 refine zf (ze (zb (zt (some 2) (Instr.box 42 (vA (r4C x))) (vP w.heap.size 0) (r4C x) 42 ?_)))
 intro w1 hBw1 hEw1
 have hzw1:=hEw1.size;have hlw1:=hBw1.lt
 refine zd 1 [(4,(vI 0))] (zg (zc (zf (zf (ze (zb (zj (some 8) (Instr.loadAt 42 (vP w.heap.size 0)) (vA (r4C x)) (zD (vs:=r4C x) (hBw1.all) (by rw [zcA];kernel_rfl)) ?_)))))))
 refine zd 1 [(9,(vI 0))] (zg (zc (zI (zah (X:=Nat) (fun i=> [(9,(vI i))]) [4,6,7,10,11,12,13,14,15,16,17,18] (fun i w2=>i≤4∧zcj zaB x.get i=0∧Ext w w2) (fun i=>4-i) 0 (by kernel_rfl) ⟨by omega,rfl,hEw1⟩ ?_))))
 rintro i dw2 w2 ⟨hi,hz,hEl⟩
 have hzl:=hEl.size
 refine zf (ze (zb (zO (some 10) (decide (((i:Nat):Int)<((4:Nat):Int))) (fun hc10=> ?_) (fun hc10=> ?_))))
 ·replace hc10:i<4:=by have:=zak hc10;omega
  refine zg (zc (zf (zF (zy (zc (zf (zI (zf (ze ?_)))))))))
  refine zb (zj (some 11) (Instr.index 42 (vA (r4C x)) (vI i)) (vA (zE (x.get i))) (zho (E:=33) (m:=4) (sz:=35) (us:=zE (x.get i)) (by omega) (zlf (by omega))) ?_)
  refine zb (zt (some 6) (Instr.alloc 33 true (.tuple #[])) (vP w2.heap.size 0) (zE Rec.zero) 33 ?_)
  intro w3 hBw3 hEw3
  have hzw3:=hEw3.size;have hlw3:=hBw3.lt
  refine zb (zz 33 w2.heap.size 0 33 (vA (zE (x.get i))) (zE Rec.zero) (zE (x.get i)) hBw3 (by rw [zY];kernel_rfl) (by first |(simp;done)|(simp;omega)) (zaU _) ?_)
  intro w4 hBw4 hCw4
  have hzw4:=hCw4.size
  rw [zm _ _ (by simp)] at hBw4
  refine zg (zc (zf (ze (zd 1 [(12,(.func (.func 49) #[] #[]))] (zb (zj (some 13) (Instr.loadAt 33 (vP w2.heap.size 0)) (vA (zE (x.get i))) (zD (vs:=zE (x.get i)) (hBw4.all) (by rw [zY];kernel_rfl)) ?_))))))
  refine zb (zi (some 14) (zen (x.get i) _) ?_)
  rintro _ w5 ⟨rfl,hEw5⟩
  have hzw5:=hEw5.size
  refine zd 1 [(7,(vI (zaB (x.get i))))] (zg (zc (zf (ze (zd 1 [(15,(vI (zaB (x.get i))))] (zb (zO (some 16) ((((zaB (x.get i):Nat):Int) !=((0:Nat):Int))) (fun hc16=> ?_) (fun hc16=> ?_))))))))
  ·replace hc16:¬(zaB (x.get i)=0):=by have:=zbY hc16;omega
   refine zg (zc (zF (zf (ze (zd 2 [(4,(vI (zaB (x.get i)))),(17,(vI (zaB (x.get i))))] (zg (zc (zx (zA ?_)))))))))
   refine zu (zu (zA (zu (zB (vI (zaB (x.get i))) ?_))))
   have hX1:Ext w w5:=((Ext.own (hEl.trans hEw3) hCw4 (by omega)).trans hEw5)
   exact ⟨congrArg (fun z:Nat=>vI z) (zlx (by omega) (by omega)),hX1⟩
  ·replace hc16:zaB (x.get i)=0:=by have:=zbX hc16;omega
   refine zg (zc (zr (zy (zp (zc (ze (zb (zv (some 18) .i64 (IntKind.i64.wrap (((i:Nat):Int)+((1:Nat):Int))) (i+1) (zG (by omega) (by omega) (by omega)) ?_))))))))
   refine zd 1 [(9,(vI (i+1)))] (zg (zC ?_))
   have hX2:Ext w w5:=((Ext.own (hEl.trans hEw3) hCw4 (by omega)).trans hEw5)
   refine zS (i+1) ?_ ?_
   ·exact ⟨by omega,by rw [zcj,if_pos hz];omega,hX2⟩
   ·first | omega |(dsimp only;omega)
 ·replace hc10:¬(i<4):=by have:=zal hc10;omega
  refine zg (zc (zf (zr (zaf (zH (zH (zT (zc (zf ?_)))))))))
  refine ze (zd 1 [(4,(vI 0))] (zg (zc (zx (zB (vI 0) ?_)))))
  obtain rfl:i=4:=by omega
  exact ⟨congrArg (fun z:Nat=>vI z) (hz.symm),hEl⟩
theorem zpn (x:E4) (w:World):
  Calls Tryz.prog 88 #[(vA (e4C x)),(.func (.func 109) #[] #[])] w (Ret fun r w'=>r=(vI (ze2 x))∧Ext w w'):=by
 refine zL (n:=19) (σ:= [(0,(vA (e4C x))),(1,(.func (.func 109) #[] #[]))]) Tryz.func88 rfl ?_
 refine zf (ze (zb (zt (some 2) (Instr.box 45 (vA (e4C x))) (vP w.heap.size 0) (e4C x) 45 ?_)))
 intro w1 hBw1 hEw1
 have hzw1:=hEw1.size;have hlw1:=hBw1.lt
 refine zd 1 [(4,(vI 0))] (zg (zc (zf (zf (ze (zb (zj (some 8) (Instr.loadAt 45 (vP w.heap.size 0)) (vA (e4C x)) (zD (vs:=e4C x) (hBw1.all) (by rw [zdg];kernel_rfl)) ?_)))))))
 refine zd 1 [(9,(vI 0))] (zg (zc (zI (zah (X:=Nat) (fun i=> [(9,(vI i))]) [4,6,7,10,11,12,13,14,15,16,17,18] (fun i w2=>i≤4∧zcj zaV x.get i=0∧Ext w w2) (fun i=>4-i) 0 (by kernel_rfl) ⟨by omega,rfl,hEw1⟩ ?_))))
 rintro i dw2 w2 ⟨hi,hz,hEl⟩
 have hzl:=hEl.size
 refine zf (ze (zb (zO (some 10) (decide (((i:Nat):Int)<((4:Nat):Int))) (fun hc10=> ?_) (fun hc10=> ?_))))
 ·replace hc10:i<4:=by have:=zak hc10;omega
  refine zg (zc (zf (zF (zy (zc (zf (zI (zf (ze ?_)))))))))
  refine zb (zj (some 11) (Instr.index 45 (vA (e4C x)) (vI i)) (vA (zai (x.get i))) (zho (E:=44) (m:=4) (sz:=33) (us:=zai (x.get i)) (by omega) (zk9 (by omega))) ?_)
  refine zb (zt (some 6) (Instr.alloc 44 true (.tuple #[])) (vP w2.heap.size 0) (zai Ent.zero) 44 ?_)
  intro w3 hBw3 hEw3
  have hzw3:=hEw3.size;have hlw3:=hBw3.lt
  refine zb (zz 44 w2.heap.size 0 44 (vA (zai (x.get i))) (zai Ent.zero) (zai (x.get i)) hBw3 (by rw [zaS];kernel_rfl) (by first |(simp;done)|(simp;omega)) (zdq _) ?_)
  intro w4 hBw4 hCw4
  have hzw4:=hCw4.size
  rw [zm _ _ (by simp)] at hBw4
  refine zg (zc (zf (ze (zd 1 [(12,(.func (.func 109) #[] #[]))] (zb (zj (some 13) (Instr.loadAt 44 (vP w2.heap.size 0)) (vA (zai (x.get i))) (zD (vs:=zai (x.get i)) (hBw4.all) (by rw [zaS];kernel_rfl)) ?_))))))
  refine zb (zi (some 14) (zfT (x.get i) _) ?_)
  rintro _ w5 ⟨rfl,hEw5⟩
  have hzw5:=hEw5.size
  refine zd 1 [(7,(vI (zaV (x.get i))))] (zg (zc (zf (ze (zd 1 [(15,(vI (zaV (x.get i))))] (zb (zO (some 16) ((((zaV (x.get i):Nat):Int) !=((0:Nat):Int))) (fun hc16=> ?_) (fun hc16=> ?_))))))))
  ·replace hc16:¬(zaV (x.get i)=0):=by have:=zbY hc16;omega
   refine zg (zc (zF (zf (ze (zd 2 [(4,(vI (zaV (x.get i)))),(17,(vI (zaV (x.get i))))] (zg (zc (zx (zA ?_)))))))))
   refine zu (zu (zA (zu (zB (vI (zaV (x.get i))) ?_))))
   have hX1:Ext w w5:=((Ext.own (hEl.trans hEw3) hCw4 (by omega)).trans hEw5)
   exact ⟨congrArg (fun z:Nat=>vI z) (zlN (by omega) (by omega)),hX1⟩
  ·replace hc16:zaV (x.get i)=0:=by have:=zbX hc16;omega
   refine zg (zc (zr (zy (zp (zc (ze (zb (zv (some 18) .i64 (IntKind.i64.wrap (((i:Nat):Int)+((1:Nat):Int))) (i+1) (zG (by omega) (by omega) (by omega)) ?_))))))))
   refine zd 1 [(9,(vI (i+1)))] (zg (zC ?_))
   have hX2:Ext w w5:=((Ext.own (hEl.trans hEw3) hCw4 (by omega)).trans hEw5)
   refine zS (i+1) ?_ ?_
   ·exact ⟨by omega,by rw [zcj,if_pos hz];omega,hX2⟩
   ·first | omega |(dsimp only;omega)
 ·replace hc10:¬(i<4):=by have:=zal hc10;omega
  refine zg (zc (zf (zr (zaf (zH (zH (zT (zc (zf ?_)))))))))
  refine ze (zd 1 [(4,(vI 0))] (zg (zc (zx (zB (vI 0) ?_)))))
  obtain rfl:i=4:=by omega
  exact ⟨congrArg (fun z:Nat=>vI z) (hz.symm),hEl⟩
theorem zhb (x:Nod) (w:World):
  Calls Tryz.prog 81 #[(vA (zK x))] w (Ret fun r w'=>r=(vI (zar x))∧Ext w w'):=by
 refine zL (n:=32) (σ:= [(0,(vA (zK x)))]) Tryz.func81 rfl ?_
 refine zf (ze (zb (zt (some 1) (Instr.box 47 (vA (zK x))) (vP w.heap.size 0) (zK x) 47 ?_)))
 intro w1 hBw1 hEw1
 have hzw1:=hEw1.size;have hlw1:=hBw1.lt
 refine zd 1 [(2,(vI 0))] (zg (zc (zf (zI (zf (ze (zd 1 [(4,(vP w.heap.size 0))] (zb (zj (some 5) (Instr.loadAt 5 (vP w.heap.size 0)) (vB x.lv) (zo (hBw1.cell rfl)) ?_)))))))))
 refine zb (zO (some 6) (decide (((x.lv:Nat):Int)>((5:Nat):Int))) (fun hc6=> ?_) (fun hc6=> ?_))
 ·replace hc6:x.lv>5:=by have:=zak hc6;omega
  refine zd 1 [(3,vT)] (zg (zc (zF (zf (ze (zd 1 [(2,(vI 1))] (zg (zc (zx ?_)))))))))
  exact zA (zu (zB (vI 1) (⟨congrArg (fun z:Nat=>vI z) (by unfold zar;(repeat' split)<;>first | rfl | omega | simp_all),hEw1⟩)))
 ·replace hc6:¬(x.lv>5):=by have:=zal hc6;omega
  refine zd 1 [(3,vF)] (zg (zc (zr (zf (ze (zd 1 [(8,(vP w.heap.size 0))] (zb (zj (some 9) (Instr.loadAt 5 (vP w.heap.size 0)) (vB x.lv) (zo (hBw1.cell rfl)) ?_))))))))
  refine zb (zO (some 10) ((((x.lv:Nat):Int)==((0:Nat):Int))) (fun hc10=> ?_) (fun hc10=> ?_))
  ·replace hc10:x.lv=0:=by have:=zbL hc10;omega
   refine zd 2 [(12,(vP w.heap.size 142)),(11,vT)] (zb (zj (some 13) (Instr.loadAt 45 (vP w.heap.size 142)) (vA (e4C x.es)) (zD (vs:=e4C x.es) (hBw1.at 142 (e4C x.es) (zeK _)) (by rw [zdg];kernel_rfl)) ?_))
   refine zd 1 [(14,(vA (e4C E4.zero)))] ?_
   rcases Bool.eq_false_or_eq_true (x.es.eqb E4.zero) with hq15 | hq15
   ·refine zb (zj (some 15) (bo .neq 45 (.tmp 13) (.tmp 14) (vA (e4C x.es)) (vA (e4C E4.zero))) vF (zav (r:=true) (T:=45) ((zeW (dd:=9996) (T:=45) (t:=44) (t8:=5) (td:=23) (e:=5) x.es E4.zero).trans (congrArg (fun b=>Result.ok b _) (show (x.es.eqb E4.zero)=true from hq15)))) ?_)
    refine zd 2 [(7,vF),(16,vF)] (zg (zc (zr (zf (ze (zd 1 [(18,(vP w.heap.size 0))] (zb (zj (some 19) (Instr.loadAt 5 (vP w.heap.size 0)) (vB x.lv) (zo (hBw1.cell rfl)) ?_))))))))
    refine zb (zat (some 20) (((x.lv:Nat):Int)==((0:Nat):Int)) true (zbt (by omega)) ?_)
    refine zd 1 [(17,vT)] (zg (zc (zF (zf (ze (zd 1 [(21,(vP w.heap.size 2))] (zb (zj (some 22) (Instr.loadAt 42 (vP w.heap.size 2)) (vA (r4C x.rs)) (zD (vs:=r4C x.rs) (hBw1.at 2 (r4C x.rs) (zfg _)) (by rw [zcA];kernel_rfl)) ?_))))))))
    refine zb (zi (some 23) (zpi x.rs _) ?_)
    rintro _ w2 ⟨rfl,hEw2⟩
    have hzw2:=hEw2.size
    exact zd 1 [(2,(vI (zeY x.rs)))] (zg (zc (zx (zA (zu (zB (vI (zeY x.rs)) (⟨congrArg (fun z:Nat=>vI z) (by unfold zar;(repeat' split)<;>first | rfl | omega | simp_all),(hEw1.trans hEw2)⟩)))))))
   ·refine zb (zj (some 15) (bo .neq 45 (.tmp 13) (.tmp 14) (vA (e4C x.es)) (vA (e4C E4.zero))) vT (zav (r:=false) (T:=45) ((zeW (dd:=9996) (T:=45) (t:=44) (t8:=5) (td:=23) (e:=5) x.es E4.zero).trans (congrArg (fun b=>Result.ok b _) (show (x.es.eqb E4.zero)=false from hq15)))) ?_)
    refine zd 2 [(7,vT),(16,vT)] (zg (zc (zF (zf (ze (zd 1 [(2,(vI 1))] (zg (zc (zx ?_)))))))))
    exact zA (zu (zB (vI 1) (⟨congrArg (fun z:Nat=>vI z) (by unfold zar;(repeat' split)<;>first | rfl | omega | simp_all),hEw1⟩)))
  ·replace hc10:¬(x.lv=0):=by have:=zbK hc10;omega
   refine zd 7 [(7,vF),(16,vF),(15,undef),(14,undef),(13,undef),(12,undef),(11,vF)] (zg (zc (zr (zf (ze (zd 1 [(18,(vP w.heap.size 0))] (zb (zj (some 19) (Instr.loadAt 5 (vP w.heap.size 0)) (vB x.lv) (zo (hBw1.cell rfl)) ?_))))))))
   refine zb (zat (some 20) (((x.lv:Nat):Int)==((0:Nat):Int)) false (zbW (by omega)) ?_)
   refine zd 1 [(17,vF)] (zg (zc (zr (zf (ze (zd 1 [(25,(vP w.heap.size 2))] (zb (zj (some 26) (Instr.loadAt 42 (vP w.heap.size 2)) (vA (r4C x.rs)) (zD (vs:=r4C x.rs) (hBw1.at 2 (r4C x.rs) (zfg _)) (by rw [zcA];kernel_rfl)) ?_))))))))
   refine zd 1 [(27,(vA (r4C R4.zero)))] ?_
   rcases Bool.eq_false_or_eq_true (x.rs.eqb R4.zero) with hq28 | hq28
   ·refine zb (zj (some 28) (bo .neq 42 (.tmp 26) (.tmp 27) (vA (r4C x.rs)) (vA (r4C R4.zero))) vF (zav (r:=true) (T:=42) ((zf4 (dd:=9996) (T:=42) (t:=33) (t8:=5) (td:=23) (e:=5) (tn:=31) (t32:=28) (t64:=29) x.rs R4.zero).trans (congrArg (fun b=>Result.ok b _) (show (x.rs.eqb R4.zero)=true from hq28)))) ?_)
    refine zd 1 [(24,vF)] (zg (zc (zr (zy (zp (zc (zf (ze (zd 1 [(29,(vP w.heap.size 142))] ?_)))))))))
    refine zb (zj (some 30) (Instr.loadAt 45 (vP w.heap.size 142)) (vA (e4C x.es)) (zD (vs:=e4C x.es) (hBw1.at 142 (e4C x.es) (zeK _)) (by rw [zdg];kernel_rfl)) ?_)
    refine zb (zi (some 31) (zpn x.es _) ?_)
    rintro _ w3 ⟨rfl,hEw3⟩
    have hzw3:=hEw3.size
    exact zd 1 [(2,(vI (ze2 x.es)))] (zg (zc (zx (zB (vI (ze2 x.es)) (⟨congrArg (fun z:Nat=>vI z) (by unfold zar;(repeat' split)<;>first | rfl | omega | simp_all),(hEw1.trans hEw3)⟩)))))
   ·refine zb (zj (some 28) (bo .neq 42 (.tmp 26) (.tmp 27) (vA (r4C x.rs)) (vA (r4C R4.zero))) vT (zav (r:=false) (T:=42) ((zf4 (dd:=9996) (T:=42) (t:=33) (t8:=5) (td:=23) (e:=5) (tn:=31) (t32:=28) (t64:=29) x.rs R4.zero).trans (congrArg (fun b=>Result.ok b _) (show (x.rs.eqb R4.zero)=false from hq28)))) ?_)
    refine zd 1 [(24,vT)] (zg (zc (zF (zf (ze (zd 1 [(2,(vI 1))] (zg (zc (zx ?_)))))))))
    exact zA (zu (zB (vI 1) (⟨congrArg (fun z:Nat=>vI z) (by unfold zar;(repeat' split)<;>first | rfl | omega | simp_all),hEw1⟩)))
end Go.Proofs.YtgdpdnokcnhgnaaGreatDoor
namespace Go.Proofs.YtgdpdnokcnhgnaaGreatDoor
open Go Go.RowKit Go.Cs
set_option maxRecDepth 100000
theorem zpS (a:Nat) (b:Nat) (w:World) (hp0:a<256) (hp1:b<2^32):
  Calls Tryz.prog 50 #[(vB a),(vW b)] w (Ret fun r w'=>r=(vA (zK (Nod.mt a b)))∧Ext w w'):=by
 refine zL (n:=8) (σ:= [(0,(vB a)),(1,(vW b))]) Tryz.func50 rfl ?_
 refine zf (ze (zb (zt (some 4) (Instr.alloc 47 true (.tuple #[])) (vP w.heap.size 0) (zK Nod.zero) 47 ?_)))
 intro w1 hBw1 hEw1
 have hzw1:=hEw1.size;have hlw1:=hBw1.lt
 refine zg (zc (zf (ze (zd 2 [(6,(vW b)),(5,(vB a))] (zb (zj (some 7) (Instr.build 47 #[(0,(vB a)),(1,(vW b))]) (vA (zK (Nod.mt a b))) ((ziO a b (by omega) (by omega)).trans (congrArg (fun z:Nod=>Result.ok (Value.agg (zK z).toArray) _) (show (Nod.emp a b (by omega) (by omega):Nod)=Nod.mt a b from Nod.mt_eq _ _))) ?_))))))
 refine zb (zz 47 w.heap.size 0 47 (vA (zK (Nod.mt a b))) (zK Nod.zero) (zK (Nod.mt a b)) hBw1 (by rw [zW];kernel_rfl) (by first |(simp;done)|(simp;omega)) (zcG _) ?_)
 intro w2 hBw2 hCw2
 have hzw2:=hCw2.size
 rw [zm _ _ (by simp)] at hBw2
 exact zg (zc (zx (zbp (show zab Tryz.prog 8 _ _ (.cell 4 47) (vA (zK (Nod.mt a b))) from ⟨⟨w.heap.size,0,none⟩,(by kernel_rfl),zP (T:=47) (vs:=zK (Nod.mt a b)) (hBw2).all (by rw [zW];kernel_rfl)⟩) (⟨rfl,(Ext.own hEw1 hCw2 (by omega))⟩))))
theorem zmv (x:Nod) (w:World):
  Calls Tryz.prog 52 #[(vA (zK x))] w (Ret fun r w'=>r=(vI (usd x 4))∧Ext w w'):=by
 refine zL (n:=36) (σ:= [(0,(vA (zK x)))]) Tryz.func52 rfl ?_
 refine zf (ze (zb (zt (some 1) (Instr.box 47 (vA (zK x))) (vP w.heap.size 0) (zK x) 47 ?_)))
 intro w1 hBw1 hEw1
 have hzw1:=hEw1.size;have hlw1:=hBw1.lt
 refine zd 1 [(2,(vI 0))] (zg (zc (zf (ze (zd 1 [(3,(vI 0))] (zg (zc (zf (zf ?_)))))))))
 refine ze (zd 1 [(5,(vI 0))] (zg (zc (zI (zah (X:=Nat) (fun i=> [(3,(vI (usd x i))),(5,(vI i))]) [4,6,7,8,9,10,11,12,13,14,15,16,17,18,19,20,21,22,23,24,25,26,27,28,29,30,31,32,33,34] (fun i w2=>i≤4∧Ext w1 w2) (fun i=>4-i) 0 (by kernel_rfl) ⟨by omega,(Ext.refl _)⟩ ?_)))))
 rintro i dw2 w2 ⟨hi,hEl⟩
 have hzl:=hEl.size
 have hul:=zmP x i
 refine zf (ze (zb (zO (some 6) (decide (((i:Nat):Int)<((4:Nat):Int))) (fun hc6=> ?_) (fun hc6=> ?_))))
 ·replace hc6:i<4:=by have:=zak hc6;omega
  refine zg (zc (zf (zF (zy (zc (zf (zI (zf (ze ?_)))))))))
  refine zd 2 [(4,(vI i)),(7,(vI i))] (zg (zc (zf (ze (zd 1 [(8,(vP w.heap.size 0))] (zb (zj (some 9) (Instr.loadAt 5 (vP w.heap.size 0)) (vB x.lv) (zo ((hBw1.ext hEl).cell rfl)) ?_)))))))
  refine zb (zO (some 10) ((((x.lv:Nat):Int)==((0:Nat):Int))) (fun hc10=> ?_) (fun hc10=> ?_))
  ·replace hc10:x.lv=0:=by have:=zbL hc10;omega
   refine zd 3 [(13,(vP w.heap.size 2)),(12,(vI i)),(11,vT)] (zb (zj (some 14) (Instr.indexAt 42 (vP w.heap.size 2) (vI i)) (vP w.heap.size (2+i*35)) (zX (E:=33) (sz:=35) (m:=4) (by omega)) ?_))
   refine zd 1 [(15,(vP w.heap.size (2+i*35)))] (zb (zj (some 16) (Instr.loadAt 5 (vP w.heap.size (2+i*35))) (vB ((x.rs.get i).st)) (zo ((hBw1.ext hEl).cell (zoQ (by omega)))) ?_))
   refine zb (zO (some 17) (((((x.rs.get i).st:Nat):Int) !=((0:Nat):Int))) (fun hc17=> ?_) (fun hc17=> ?_))
   ·replace hc17:¬((x.rs.get i).st=0):=by have:=zbY hc17;omega
    refine zd 14 [(31,vT),(30,undef),(29,undef),(28,undef),(27,undef),(26,undef),(25,undef),(24,undef),(23,undef),(22,undef),(21,undef),(20,undef),(19,vT),(18,vT)] (zg (zc (zF (ze (zd 1 [(32,(vI (usd x i)))] (zb (zv (some 33) .i64 (IntKind.i64.wrap (((usd x i:Nat):Int)+((1:Nat):Int))) (usd x i+1) (zG (by omega) (by omega) (by omega)) ?_)))))))
    refine zd 1 [(3,(vI (usd x i+1)))] (zg (zp (zc (ze (zb (zv (some 34) .i64 (IntKind.i64.wrap (((i:Nat):Int)+((1:Nat):Int))) (i+1) (zG (by omega) (by omega) (by omega)) ?_))))))
    refine zd 1 [(5,(vI (i+1)))] (zg (zC ?_))
    rw [show usd x i+1=usd x (i+1) from by rw [usd];(repeat' split)<;>omega]
    refine zS (i+1) ?_ ?_
    ·exact ⟨by omega,hEl⟩
    ·first | omega |(dsimp only;omega)
   ·replace hc17:(x.rs.get i).st=0:=by have:=zbX hc17;omega
    refine zd 3 [(20,(vP w.heap.size 0)),(19,vF),(18,vF)] (zb (zj (some 21) (Instr.loadAt 5 (vP w.heap.size 0)) (vB x.lv) (zo ((hBw1.ext hEl).cell rfl)) ?_))
    refine zb (zat (some 22) (((x.lv:Nat):Int) !=((0:Nat):Int)) false (zaL (by omega)) ?_)
    refine zd 9 [(31,vF),(30,vF),(29,undef),(28,undef),(27,undef),(26,undef),(25,undef),(24,undef),(23,vF)] (zg (zc (zr (zy (zp (zc (ze (zb (zv (some 34) .i64 (IntKind.i64.wrap (((i:Nat):Int)+((1:Nat):Int))) (i+1) (zG (by omega) (by omega) (by omega)) ?_)))))))))
    refine zd 1 [(5,(vI (i+1)))] (zg (zC ?_))
    rw [show usd x i=usd x (i+1) from by rw [usd];(repeat' split)<;>omega]
    refine zS (i+1) ?_ ?_
    ·exact ⟨by omega,hEl⟩
    ·first | omega |(dsimp only;omega)
  ·replace hc10:¬(x.lv=0):=by have:=zbK hc10;omega
   refine zd 10 [(20,(vP w.heap.size 0)),(19,vF),(18,vF),(17,undef),(16,undef),(15,undef),(14,undef),(13,undef),(12,undef),(11,vF)] (zb (zj (some 21) (Instr.loadAt 5 (vP w.heap.size 0)) (vB x.lv) (zo ((hBw1.ext hEl).cell rfl)) ?_))
   refine zb (zat (some 22) (((x.lv:Nat):Int) !=((0:Nat):Int)) true (zcq (by omega)) ?_)
   refine zd 3 [(25,(vP w.heap.size 142)),(24,(vI i)),(23,vT)] (zb (zj (some 26) (Instr.indexAt 45 (vP w.heap.size 142) (vI i)) (vP w.heap.size (142+i*33)) (zX (E:=44) (sz:=33) (m:=4) (by omega)) ?_))
   refine zd 1 [(27,(vP w.heap.size (142+i*33)))] (zb (zj (some 28) (Instr.loadAt 5 (vP w.heap.size (142+i*33))) (vB ((x.es.get i).st)) (zo ((hBw1.ext hEl).cell (zic (by omega)))) ?_))
   refine zb (zO (some 29) (((((x.es.get i).st:Nat):Int) !=((0:Nat):Int))) (fun hc29=> ?_) (fun hc29=> ?_))
   ·replace hc29:¬((x.es.get i).st=0):=by have:=zbY hc29;omega
    refine zd 2 [(31,vT),(30,vT)] (zg (zc (zF (ze (zd 1 [(32,(vI (usd x i)))] (zb (zv (some 33) .i64 (IntKind.i64.wrap (((usd x i:Nat):Int)+((1:Nat):Int))) (usd x i+1) (zG (by omega) (by omega) (by omega)) ?_)))))))
    refine zd 1 [(3,(vI (usd x i+1)))] (zg (zp (zc (ze (zb (zv (some 34) .i64 (IntKind.i64.wrap (((i:Nat):Int)+((1:Nat):Int))) (i+1) (zG (by omega) (by omega) (by omega)) ?_))))))
    refine zd 1 [(5,(vI (i+1)))] (zg (zC ?_))
    rw [show usd x i+1=usd x (i+1) from by rw [usd];(repeat' split)<;>omega]
    refine zS (i+1) ?_ ?_
    ·exact ⟨by omega,hEl⟩
    ·first | omega |(dsimp only;omega)
   ·replace hc29:(x.es.get i).st=0:=by have:=zbX hc29;omega
    refine zd 2 [(31,vF),(30,vF)] (zg (zc (zr (zy (zp (zc (ze (zb (zv (some 34) .i64 (IntKind.i64.wrap (((i:Nat):Int)+((1:Nat):Int))) (i+1) (zG (by omega) (by omega) (by omega)) ?_)))))))))
    refine zd 1 [(5,(vI (i+1)))] (zg (zC ?_))
    rw [show usd x i=usd x (i+1) from by rw [usd];(repeat' split)<;>omega]
    refine zS (i+1) ?_ ?_
    ·exact ⟨by omega,hEl⟩
    ·first | omega |(dsimp only;omega)
 ·replace hc6:¬(i<4):=by have:=zal hc6;omega
  refine zg (zc (zf (zr (zaf (zH (zH (zT (zc (zf ?_)))))))))
  refine ze (zd 2 [(2,(vI (usd x i))),(35,(vI (usd x i)))] (zg (zc (zx (zB (vI (usd x i)) ?_)))))
  obtain rfl:i=4:=by omega
  exact ⟨rfl,(hEw1.trans hEl)⟩
theorem zrS (sd:Nat) (w:World) (hp0:sd<256):
  Calls Tryz.prog 64 #[(vB sd)] w (Ret fun r w'=>r=(vA (zw (mkD sd)))∧Ext w w'):=by
 refine zL (n:=17) (σ:= [(0,(vB sd))]) Tryz.func64 rfl ?_
 refine zf (ze (zb (zt (some 2) (Instr.alloc 23 true (.tuple #[])) (vP w.heap.size 0) (zw Dig.zero) 23 ?_)))
 intro w1 hBw1 hEw1
 have hzw1:=hEw1.size;have hlw1:=hBw1.lt
 refine zg (zc (zf (ze (zb (zt (some 3) (Instr.alloc 23 true (.tuple #[])) (vP w1.heap.size 0) (zw Dig.zero) 23 ?_)))))
 intro w2 hBw2 hEw2
 have hzw2:=hEw2.size;have hlw2:=hBw2.lt
 refine zg (zc (zf (zf (ze (zd 1 [(4,(vI 0))] (zg (zc (zI (zah (X:=Nat) (fun i=> [(4,(vI i))]) [5,6,7,8,9,10,11,12,13,14,15] (fun i w3=>i≤32∧Blk w3 w1.heap.size (u8s (zck 32 (fun j=>decide (j<i)) (fun j=>UInt8.ofNat (sd+7*j)))) 23∧Ext w1 w3) (fun i=>32-i) 0 (by kernel_rfl) ⟨by omega,(by rw [zfU _ _ _ (by intro j hj;simp)];exact hBw2),hEw2⟩ ?_)))))))))
 rintro i dw3 w3 ⟨hi,hBl,hEl⟩
 have hzl:=hEl.size;have hll:=hBl.lt
 refine zf (zf (ze (zd 1 [(5,(vI i))] (zb (zO (some 6) (decide (((i:Nat):Int)<((32:Nat):Int))) (fun hc6=> ?_) (fun hc6=> ?_))))))
 ·replace hc6:i<32:=by have:=zak hc6;omega
  refine zg (zc (zF (zy (zc (zf (zI (ze (zd 3 [(11,(vI i)),(10,(vB sd)),(9,(vI i))] (zb (zv (some 12) .i64 (IntKind.i64.wrap (((7:Nat):Int)*((i:Nat):Int))) (7*i) (zG (by omega) (by omega) (by omega)) ?_))))))))))
  refine zb (zv (some 13) .u8 (IntKind.u8.wrap ((7*i:Nat):Int)) ((7*i)%2^8) (zcp rfl rfl) ?_)
  refine zb (zv (some 14) .u8 (IntKind.u8.wrap (((sd:Nat):Int)+(((7*i)%2^8:Nat):Int))) ((sd+(7*i)%2^8)%2^8) (zcp rfl (by simp)) ?_)
  refine zb (zj (some 15) (Instr.indexAt 23 (vP w1.heap.size 0) (vI i)) (vP w1.heap.size (0+i*1)) (zX (E:=5) (sz:=1) (m:=32) (by omega)) ?_)
  refine zb (zV 5 w1.heap.size (0+i*1) 23 (vB ((sd+(7*i)%2^8)%2^8)) (u8s (zck 32 (fun j=>decide (j<i)) (fun j=>UInt8.ofNat (sd+7*j)))) hBl (by simp;omega) ?_)
  intro w4 hBw4 hCw4
  have hzw4:=hCw4.size
  rw [show ((u8s (zck 32 (fun j=>decide (j<i)) (fun j=>UInt8.ofNat (sd+7*j)))).set (0+i*1) (vB ((sd+(7*i)%2^8)%2^8)):List Value)=u8s (zck 32 (fun j=>decide (j<i+1)) (fun j=>UInt8.ofNat (sd+7*j))) from by have hx:=zgX 32 (fun j=>decide (j<i)) (fun j=>decide (j<i+1)) (fun j=>UInt8.ofNat (sd+7*j)) i (UInt8.ofNat (sd+7*i)) (by omega) rfl (by intro j hj;by_cases h1:j<i+1<;>by_cases h2:j<i<;>by_cases h3:j=i<;>simp [h1,h2,h3]<;>omega);rw [UInt8.toNat_ofNat'] at hx;simpa only [Nat.zero_add,Nat.mul_one,show (sd+7*i%2^8)%2^8=(sd+7*i)%2^8 from by omega] using hx] at hBw4
  refine zg (zp (zc (ze (zd 1 [(7,(vI i))] (zb (zv (some 8) .i64 (IntKind.i64.wrap (((i:Nat):Int)+((1:Nat):Int))) (i+1) (zG (by omega) (by omega) (by omega)) ?_))))))
  refine zd 1 [(4,(vI (i+1)))] (zg (zC (zS (i+1) ?_ ?_)))
  ·exact ⟨by omega,hBw4,(Ext.own hEl hCw4 (by omega))⟩
  ·first | omega |(dsimp only;omega)
 ·replace hc6:¬(i<32):=by have:=zal hc6;omega
  refine zg (zc (zr (zaf (zH (zH (zT (zc (zf (ze ?_)))))))))
  obtain rfl:i=32:=by omega
  have hBd:Blk w3 w1.heap.size (zw (mkD sd)) 23:=by have hq:=hBl;rw [zhc _ _ _ (by intro j hj;simpa using hj)] at hq;exact hq
  refine zb (zj (some 16) (Instr.loadAt 23 (vP w1.heap.size 0)) (vA (zw (mkD sd))) (zD (vs:=zw (mkD sd)) hBd.all (by rw [zac];kernel_rfl)) ?_)
  refine zb (zz 23 w.heap.size 0 23 (vA (zw (mkD sd))) (zw Dig.zero) (zw (mkD sd)) (hBw1.ext hEl) (by rw [zac];kernel_rfl) (by first |(simp;done)|(simp;omega)) (zaT _) ?_)
  intro w5 hBw5 hCw5
  have hzw5:=hCw5.size
  rw [zm _ _ (by simp)] at hBw5
  exact zg (zc (zx (zbp (show zab Tryz.prog 17 _ _ (.cell 2 23) (vA (zw (mkD sd))) from ⟨⟨w.heap.size,0,none⟩,(by kernel_rfl),zP (T:=23) (vs:=zw (mkD sd)) (hBw5).all (by rw [zac];kernel_rfl)⟩) (⟨rfl,(Ext.own (hEw1.trans hEl) hCw5 (by omega))⟩))))
theorem zoF (st:Nat) (sd:Nat) (w:World) (hp0:st<256) (hp1:sd<256):
  Calls Tryz.prog 37 #[(vB st),(vB sd)] w (Ret fun r w'=>r=(vA (zE (mkR st sd)))∧Ext w w'):=by
 refine zL (n:=21) (σ:= [(0,(vB st)),(1,(vB sd))]) Tryz.func37 rfl ?_
 refine zf (ze (zb (zt (some 4) (Instr.alloc 33 true (.tuple #[])) (vP w.heap.size 0) (zE Rec.zero) 33 ?_)))
 intro w1 hBw1 hEw1
 have hzw1:=hEw1.size;have hlw1:=hBw1.lt
 refine zg (zc (zf (zf (ze (zd 1 [(5,(vB st))] (zb (zv (some 6) .u8 (((st:Nat):Int).tmod ((3:Nat):Int)) (st%3) (zcP _ _) ?_)))))))
 refine zb (zO (some 7) ((((st%3:Nat):Int)==((0:Nat):Int))) (fun hc7=> ?_) (fun hc7=> ?_))
 ·replace hc7:st%3=0:=by have:=zbL hc7;omega
  refine zg (zc (zF (zf (ze (zd 1 [(8,(vA (zE Rec.zero)))] (zb (zz 33 w.heap.size 0 33 (vA (zE Rec.zero)) (zE Rec.zero) (zE Rec.zero) hBw1 (by rw [zY];kernel_rfl) (by first |(simp;done)|(simp;omega)) (zaU _) ?_)))))))
  intro w2 hBw2 hCw2
  have hzw2:=hCw2.size
  rw [zm _ _ (by simp)] at hBw2
  exact zg (zc (zx (zu (zbp (show zab Tryz.prog 21 _ _ (.cell 4 33) (vA (zE Rec.zero)) from ⟨⟨w.heap.size,0,none⟩,(by kernel_rfl),zP (T:=33) (vs:=zE Rec.zero) (hBw2).all (by rw [zY];kernel_rfl)⟩) (⟨by unfold mkR;first | rw [if_pos (by omega)] |(rw [if_neg (by omega)]),(Ext.own hEw1 hCw2 (by omega))⟩)))))
 ·replace hc7:¬(st%3=0):=by have:=zbK hc7;omega
  refine zg (zc (zr (zy (zc (zf (ze (zd 1 [(9,(vB st))] (zb (zv (some 10) .u8 (((st:Nat):Int).tmod ((3:Nat):Int)) (st%3) (zcP _ _) ?_)))))))))
  refine zd 1 [(11,(vB sd))] (zb (zv (some 12) .u8 (((sd:Nat):Int).tmod ((8:Nat):Int)) (sd%8) (zcP _ _) ?_))
  refine zb (zv (some 13) .u32 (IntKind.u32.wrap ((sd%8:Nat):Int)) (sd%8) (zba rfl rfl (by show _<2^32;omega)) ?_)
  refine zd 1 [(14,(vB sd))] (zb (zv (some 15) .u64 (IntKind.u64.wrap ((sd:Nat):Int)) sd (zba rfl rfl (by show _<2^64;omega)) ?_))
  refine zb (zv (some 16) .u64 (IntKind.u64.wrap (((sd:Nat):Int)*((257:Nat):Int))) (sd%256*257) (zba rfl (by rw [show sd%256=sd from by omega];simp) (by show _<2^64;omega)) ?_)
  refine zd 2 [(18,(vB sd)),(17,(vA (zbF ⟨sd%8,sd%256*257,by omega,by omega⟩)))] (zb (zi (some 19) (zrS sd _ (by omega)) ?_))
  rintro _ w3 ⟨rfl,hEw3⟩
  have hzw3:=hEw3.size
  refine zb (zj (some 20) (Instr.build 33 #[(0,(vB (st%3))),(1,(vA (zbF ⟨sd%8,sd%256*257,by omega,by omega⟩))),(2,(vA (zw (mkD sd))))]) (vA (zE (⟨st%3,(⟨sd%8,sd%256*257,by omega,by omega⟩),(mkD sd),by omega⟩))) (ziK (st%3) (⟨sd%8,sd%256*257,by omega,by omega⟩) (mkD sd) (by omega)) ?_)
  refine zb (zz 33 w.heap.size 0 33 (vA (zE (⟨st%3,(⟨sd%8,sd%256*257,by omega,by omega⟩),(mkD sd),by omega⟩))) (zE Rec.zero) (zE (⟨st%3,(⟨sd%8,sd%256*257,by omega,by omega⟩),(mkD sd),by omega⟩)) (hBw1.ext hEw3) (by rw [zY];kernel_rfl) (by first |(simp;done)|(simp;omega)) (zaU _) ?_)
  intro w4 hBw4 hCw4
  have hzw4:=hCw4.size
  rw [zm _ _ (by simp)] at hBw4
  exact zg (zc (zx (zbp (show zab Tryz.prog 21 _ _ (.cell 4 33) (vA (zE (⟨st%3,(⟨sd%8,sd%256*257,by omega,by omega⟩),(mkD sd),by omega⟩))) from ⟨⟨w.heap.size,0,none⟩,(by kernel_rfl),zP (T:=33) (vs:=zE (⟨st%3,(⟨sd%8,sd%256*257,by omega,by omega⟩),(mkD sd),by omega⟩)) (hBw4).all (by rw [zY];kernel_rfl)⟩) (⟨by unfold mkR;first | rw [if_pos (by omega)] |(rw [if_neg (by omega)]),(Ext.own (hEw1.trans hEw3) hCw4 (by omega))⟩))))
end Go.Proofs.YtgdpdnokcnhgnaaGreatDoor
namespace Go.Proofs.YtgdpdnokcnhgnaaGreatDoor
open Go Go.RowKit Go.Cs
set_option maxRecDepth 100000
theorem zlA (x:Nod) (w:World) (hp0:x.lv=0):
  Calls Tryz.prog 61 #[(vA (zK x))] w (Ret fun r w'=>∃a0 ca0,r=(.slice a0 185 ca0)∧Es u8v w.heap.size w'.heap.size w' a0 185 ca0 (zM x)∧Ext w w'):=by
 refine zL (n:=45) (σ:= [(0,(vA (zK x)))]) Tryz.func61 rfl ?_
 have hlvx:=x.hlv
 have hixx:=x.hix
 refine zf (ze (zb (zt (some 1) (Instr.box 47 (vA (zK x))) (vP w.heap.size 0) (zK x) 47 ?_)))
 intro w1 hBw1 hEw1
 have hzw1:=hEw1.size;have hlw1:=hBw1.lt
 refine zd 1 [(2,(.slice none 0 0))] (zg (zc (zf (ze (zd 1 [(5,(vP w.heap.size 0))] (zb (zj (some 6) (Instr.loadAt 5 (vP w.heap.size 0)) (vB x.lv) (zo (hBw1.cell rfl)) ?_)))))))
 refine zd 1 [(7,(vP w.heap.size 1))] (zb (zj (some 8) (Instr.loadAt 28 (vP w.heap.size 1)) (vW x.ix) (zo (hBw1.cell rfl)) ?_))
 refine zb (zv (some 9) .u32 (((x.ix:Nat):Int).fdiv (2^24)) (x.ix/256^3) (zeZ _ _) ?_)
 refine zb (zv (some 10) .u8 (IntKind.u8.wrap ((x.ix/256^3:Nat):Int)) ((x.ix/256^3)%2^8) (zcp rfl rfl) ?_)
 refine zd 1 [(11,(vP w.heap.size 1))] (zb (zj (some 12) (Instr.loadAt 28 (vP w.heap.size 1)) (vW x.ix) (zo (hBw1.cell rfl)) ?_))
 refine zb (zv (some 13) .u32 (((x.ix:Nat):Int).fdiv (2^16)) (x.ix/256^2) (zeZ _ _) ?_)
 refine zb (zv (some 14) .u8 (IntKind.u8.wrap ((x.ix/256^2:Nat):Int)) ((x.ix/256^2)%2^8) (zcp rfl rfl) ?_)
 refine zd 1 [(15,(vP w.heap.size 1))] (zb (zj (some 16) (Instr.loadAt 28 (vP w.heap.size 1)) (vW x.ix) (zo (hBw1.cell rfl)) ?_))
 refine zb (zv (some 17) .u32 (((x.ix:Nat):Int).fdiv (2^8)) (x.ix/256^1) (zeZ _ _) ?_)
 refine zb (zv (some 18) .u8 (IntKind.u8.wrap ((x.ix/256^1:Nat):Int)) ((x.ix/256^1)%2^8) (zcp rfl rfl) ?_)
 refine zd 1 [(19,(vP w.heap.size 1))] (zb (zj (some 20) (Instr.loadAt 28 (vP w.heap.size 1)) (vW x.ix) (zo (hBw1.cell rfl)) ?_))
 refine zb (zv (some 21) .u8 (IntKind.u8.wrap ((x.ix:Nat):Int)) (x.ix%2^8) (zcp rfl rfl) ?_)
 refine zb (zt (some 22) (Instr.buildSlice 57 5 #[(0,(vB x.lv)),(1,(vB ((x.ix/256^3)%2^8))),(2,(vB ((x.ix/256^2)%2^8))),(3,(vB ((x.ix/256^1)%2^8))),(4,(vB (x.ix%2^8)))]) (.slice (pA w1.heap.size 0) 5 5) [(vB x.lv),(vB ((x.ix/256^3)%2^8)),(vB ((x.ix/256^2)%2^8)),(vB ((x.ix/256^1)%2^8)),(vB (x.ix%2^8))] 5 ?_)
 intro w2 hBw2 hEw2
 have hzw2:=hEw2.size;have hlw2:=hBw2.lt
 have hSw2:Bs w1.heap.size (w1.heap.size+1) w2 (pA w1.heap.size 0) 5 5 [UInt8.ofNat x.lv,UInt8.ofNat ((x.ix/256^3)%2^8),UInt8.ofNat ((x.ix/256^2)%2^8),UInt8.ofNat ((x.ix/256^1)%2^8),UInt8.ofNat (x.ix%2^8)]:=Bs.of_blk hBw2 (ze0 x) rfl (Nat.le_refl _) (by decide) (Nat.le_refl _) (Nat.lt_succ_self _)
 refine zd 1 [(3,(.slice (pA w1.heap.size 0) 5 5))] (zg (zc (zf (zf (ze (zd 1 [(4,(vI 0))] (zg (zc (zI ?_)))))))))
 have hO1:Cs.Own u8v w1.heap.size (w1.heap.size+1) w2 (pA w1.heap.size 0) 5 5 5 ([UInt8.ofNat x.lv,UInt8.ofNat ((x.ix/256^3)%2^8),UInt8.ofNat ((x.ix/256^2)%2^8),UInt8.ofNat ((x.ix/256^1)%2^8),UInt8.ofNat (x.ix%2^8)]):=Cs.Own.of_blk hBw2 (by simp) (by first | rfl | exact (ze0 x)) hSw2.len_eq (Nat.le_refl _) (by simp only [maxLen];omega) (Nat.le_refl _) (Nat.lt_succ_self _)
 refine zah (X:=Nat×Option Addr×Nat) (fun ⟨i,p,cp⟩=> [(3,(.slice p (5+45*i) cp)),(4,(vI i))]) [23,24,25,26,27,28,29,30,31,32,33,34,35,36,37,38,39,40,41,42,43] (fun ⟨i,p,cp⟩ w3=>i≤4∧Cs.Own u8v w1.heap.size w3.heap.size w3 p (5+45*i) cp 5 (zdj x++zbc zbh x.rs.get i)∧Ext w1 w3) (fun ⟨i,p,cp⟩=>4-i) (0,(pA w1.heap.size 0),5) (by kernel_rfl) ⟨by omega,by have hz:=(hO1).now;rw [zoA] at hz;rw [zbc,List.append_nil];exact hz.mono (by omega) (Nat.le_refl _),hEw2⟩ ?_
 rintro ⟨i,p,cp⟩ dw3 w3 ⟨hi,hO,hEl⟩
 have hzl:=hEl.size
 have hle:=hO.es.le
 refine zf (zf (ze (zd 1 [(23,(vI i))] (zb (zO (some 24) (decide (((i:Nat):Int)<((4:Nat):Int))) (fun hc24=> ?_) (fun hc24=> ?_))))))
 ·replace hc24:i<4:=by have:=zak hc24;omega
  refine zg (zc (zF (zy (zc (zf (zI (zf (ze (zd 1 [(27,(vP w.heap.size 0))] ?_)))))))))
  refine zb (zj (some 28) (Instr.loadAt 5 (vP w.heap.size 0)) (vB x.lv) (zo ((hBw1.ext hEl).cell rfl)) ?_)
  refine zb (zat (some 29) (((x.lv:Nat):Int)==((0:Nat):Int)) true (zbt (by omega)) ?_)
  refine zg (zc (zF (ze (zd 3 [(32,(vP w.heap.size 2)),(31,(vI i)),(30,(.slice p (5+45*i) cp))] (zb (zj (some 33) (Instr.indexAt 42 (vP w.heap.size 2) (vI i)) (vP w.heap.size (2+i*35)) (zX (E:=33) (sz:=35) (m:=4) (by omega)) ?_))))))
  refine zb (zj (some 34) (Instr.loadAt 33 (vP w.heap.size (2+i*35))) (vA (zE (x.rs.get i))) (zD (vs:=zE (x.rs.get i)) ((hBw1.ext hEl).at (2+i*35) (zE (x.rs.get i)) (nod_r (by omega))) (by rw [zY];kernel_rfl)) ?_)
  refine zb (zi (some 35) (zmD (x.rs.get i) _) ?_)
  rintro _ w4 ⟨a1,ca1,rfl,hFz1_0,hEw4⟩
  have hzw4:=hEw4.size
  have hlea1:=hFz1_0.le
  have hba1:=hFz1_0.bs
  refine zb (zbM (some 36) 57 57 5 1 (.int .u8 0) (hO.ext hEw4) hba1.es (fun _=>rfl) ?_)
  intro a2 c1 w5 hOw5 hCw5
  have hzw5:=hCw5.size
  have hSw5:=hOw5.bs
  refine zd 1 [(3,(.slice a2 (5+45*i+45) c1))] (zg (zp (zc (ze (zd 1 [(25,(vI i))] (zb (zv (some 26) .i64 (IntKind.i64.wrap (((i:Nat):Int)+((1:Nat):Int))) (i+1) (zG (by omega) (by omega) (by omega)) ?_)))))))
  refine zd 1 [(4,(vI (i+1)))] (zg (zC ?_))
  rw [show 5+45*i+45=5+45*(i+1) from by omega]
  refine zS (i+1,a2,c1) ?_ ?_
  ·exact ⟨by omega,by have hz:=hOw5;rw [List.append_assoc] at hz;exact (show 5+45*i+45=5+45*(i+1) from by omega)▸hz,(Ext.ownS (hEl.trans hEw4) hCw5 (fun k hs hk=>by have hn:=(hO.ext hEw4).ne hs;omega))⟩
  ·first | omega |(dsimp only;omega)
 ·replace hc24:¬(i<4):=by have:=zal hc24;omega
  refine zg (zc (zr (zaf (zH (zH (zT (zc (zf (ze ?_)))))))))
  refine zd 2 [(2,(.slice p (5+45*i) cp)),(44,(.slice p (5+45*i) cp))] (zg (zc (zx (zB (.slice p (5+45*i) cp) ?_))))
  obtain rfl:i=4:=by omega
  rw [show zM x=zdj x++zbc zbh x.rs.get 4 from by unfold zM;rw [if_pos hp0]]
  exact ⟨_,_,rfl,(hO).es.mono (by omega) (Nat.le_refl _),(hEw1.trans hEl)⟩
theorem zls (x:Nod) (w:World) (hp0:¬x.lv=0):
  Calls Tryz.prog 61 #[(vA (zK x))] w (Ret fun r w'=>∃a0 ca0,r=(.slice a0 137 ca0)∧Es u8v w.heap.size w'.heap.size w' a0 137 ca0 (zM x)∧Ext w w'):=by
 refine zL (n:=45) (σ:= [(0,(vA (zK x)))]) Tryz.func61 rfl ?_
 have hlvx:=x.hlv
 have hixx:=x.hix
 refine zf (ze (zb (zt (some 1) (Instr.box 47 (vA (zK x))) (vP w.heap.size 0) (zK x) 47 ?_)))
 intro w1 hBw1 hEw1
 have hzw1:=hEw1.size;have hlw1:=hBw1.lt
 refine zd 1 [(2,(.slice none 0 0))] (zg (zc (zf (ze (zd 1 [(5,(vP w.heap.size 0))] (zb (zj (some 6) (Instr.loadAt 5 (vP w.heap.size 0)) (vB x.lv) (zo (hBw1.cell rfl)) ?_)))))))
 refine zd 1 [(7,(vP w.heap.size 1))] (zb (zj (some 8) (Instr.loadAt 28 (vP w.heap.size 1)) (vW x.ix) (zo (hBw1.cell rfl)) ?_))
 refine zb (zv (some 9) .u32 (((x.ix:Nat):Int).fdiv (2^24)) (x.ix/256^3) (zeZ _ _) ?_)
 refine zb (zv (some 10) .u8 (IntKind.u8.wrap ((x.ix/256^3:Nat):Int)) ((x.ix/256^3)%2^8) (zcp rfl rfl) ?_)
 refine zd 1 [(11,(vP w.heap.size 1))] (zb (zj (some 12) (Instr.loadAt 28 (vP w.heap.size 1)) (vW x.ix) (zo (hBw1.cell rfl)) ?_))
 refine zb (zv (some 13) .u32 (((x.ix:Nat):Int).fdiv (2^16)) (x.ix/256^2) (zeZ _ _) ?_)
 refine zb (zv (some 14) .u8 (IntKind.u8.wrap ((x.ix/256^2:Nat):Int)) ((x.ix/256^2)%2^8) (zcp rfl rfl) ?_)
 refine zd 1 [(15,(vP w.heap.size 1))] (zb (zj (some 16) (Instr.loadAt 28 (vP w.heap.size 1)) (vW x.ix) (zo (hBw1.cell rfl)) ?_))
 refine zb (zv (some 17) .u32 (((x.ix:Nat):Int).fdiv (2^8)) (x.ix/256^1) (zeZ _ _) ?_)
 refine zb (zv (some 18) .u8 (IntKind.u8.wrap ((x.ix/256^1:Nat):Int)) ((x.ix/256^1)%2^8) (zcp rfl rfl) ?_)
 refine zd 1 [(19,(vP w.heap.size 1))] (zb (zj (some 20) (Instr.loadAt 28 (vP w.heap.size 1)) (vW x.ix) (zo (hBw1.cell rfl)) ?_))
 refine zb (zv (some 21) .u8 (IntKind.u8.wrap ((x.ix:Nat):Int)) (x.ix%2^8) (zcp rfl rfl) ?_)
 refine zb (zt (some 22) (Instr.buildSlice 57 5 #[(0,(vB x.lv)),(1,(vB ((x.ix/256^3)%2^8))),(2,(vB ((x.ix/256^2)%2^8))),(3,(vB ((x.ix/256^1)%2^8))),(4,(vB (x.ix%2^8)))]) (.slice (pA w1.heap.size 0) 5 5) [(vB x.lv),(vB ((x.ix/256^3)%2^8)),(vB ((x.ix/256^2)%2^8)),(vB ((x.ix/256^1)%2^8)),(vB (x.ix%2^8))] 5 ?_)
 intro w2 hBw2 hEw2
 have hzw2:=hEw2.size;have hlw2:=hBw2.lt
 have hSw2:Bs w1.heap.size (w1.heap.size+1) w2 (pA w1.heap.size 0) 5 5 [UInt8.ofNat x.lv,UInt8.ofNat ((x.ix/256^3)%2^8),UInt8.ofNat ((x.ix/256^2)%2^8),UInt8.ofNat ((x.ix/256^1)%2^8),UInt8.ofNat (x.ix%2^8)]:=Bs.of_blk hBw2 (ze0 x) rfl (Nat.le_refl _) (by decide) (Nat.le_refl _) (Nat.lt_succ_self _)
 refine zd 1 [(3,(.slice (pA w1.heap.size 0) 5 5))] (zg (zc (zf (zf (ze (zd 1 [(4,(vI 0))] (zg (zc (zI ?_)))))))))
 have hO1:Cs.Own u8v w1.heap.size (w1.heap.size+1) w2 (pA w1.heap.size 0) 5 5 5 ([UInt8.ofNat x.lv,UInt8.ofNat ((x.ix/256^3)%2^8),UInt8.ofNat ((x.ix/256^2)%2^8),UInt8.ofNat ((x.ix/256^1)%2^8),UInt8.ofNat (x.ix%2^8)]):=Cs.Own.of_blk hBw2 (by simp) (by first | rfl | exact (ze0 x)) hSw2.len_eq (Nat.le_refl _) (by simp only [maxLen];omega) (Nat.le_refl _) (Nat.lt_succ_self _)
 refine zah (X:=Nat×Option Addr×Nat) (fun ⟨i,p,cp⟩=> [(3,(.slice p (5+33*i) cp)),(4,(vI i))]) [23,24,25,26,27,28,29,30,31,32,33,34,35,36,37,38,39,40,41,42,43] (fun ⟨i,p,cp⟩ w3=>i≤4∧Cs.Own u8v w1.heap.size w3.heap.size w3 p (5+33*i) cp 5 (zdj x++zbc zbC x.es.get i)∧Ext w1 w3) (fun ⟨i,p,cp⟩=>4-i) (0,(pA w1.heap.size 0),5) (by kernel_rfl) ⟨by omega,by have hz:=(hO1).now;rw [zoA] at hz;rw [zbc,List.append_nil];exact hz.mono (by omega) (Nat.le_refl _),hEw2⟩ ?_
 rintro ⟨i,p,cp⟩ dw3 w3 ⟨hi,hO,hEl⟩
 have hzl:=hEl.size
 have hle:=hO.es.le
 refine zf (zf (ze (zd 1 [(23,(vI i))] (zb (zO (some 24) (decide (((i:Nat):Int)<((4:Nat):Int))) (fun hc24=> ?_) (fun hc24=> ?_))))))
 ·replace hc24:i<4:=by have:=zak hc24;omega
  refine zg (zc (zF (zy (zc (zf (zI (zf (ze (zd 1 [(27,(vP w.heap.size 0))] ?_)))))))))
  refine zb (zj (some 28) (Instr.loadAt 5 (vP w.heap.size 0)) (vB x.lv) (zo ((hBw1.ext hEl).cell rfl)) ?_)
  refine zb (zat (some 29) (((x.lv:Nat):Int)==((0:Nat):Int)) false (zbW (by omega)) ?_)
  refine zg (zc (zr (ze (zd 3 [(39,(vP w.heap.size 142)),(38,(vI i)),(37,(.slice p (5+33*i) cp))] (zb (zj (some 40) (Instr.indexAt 45 (vP w.heap.size 142) (vI i)) (vP w.heap.size (142+i*33)) (zX (E:=44) (sz:=33) (m:=4) (by omega)) ?_))))))
  refine zb (zj (some 41) (Instr.loadAt 44 (vP w.heap.size (142+i*33))) (vA (zai (x.es.get i))) (zD (vs:=zai (x.es.get i)) ((hBw1.ext hEl).at (142+i*33) (zai (x.es.get i)) (nod_e (by omega))) (by rw [zaS];kernel_rfl)) ?_)
  refine zb (zi (some 42) (zn9 (x.es.get i) _) ?_)
  rintro _ w4 ⟨a1,ca1,rfl,hFz1_0,hEw4⟩
  have hzw4:=hEw4.size
  have hlea1:=hFz1_0.le
  have hba1:=hFz1_0.bs
  refine zb (zbM (some 43) 57 57 5 1 (.int .u8 0) (hO.ext hEw4) hba1.es (fun _=>rfl) ?_)
  intro a2 c1 w5 hOw5 hCw5
  have hzw5:=hCw5.size
  have hSw5:=hOw5.bs
  refine zd 1 [(3,(.slice a2 (5+33*i+33) c1))] (zg (zp (zc (ze (zd 1 [(25,(vI i))] (zb (zv (some 26) .i64 (IntKind.i64.wrap (((i:Nat):Int)+((1:Nat):Int))) (i+1) (zG (by omega) (by omega) (by omega)) ?_)))))))
  refine zd 1 [(4,(vI (i+1)))] (zg (zC ?_))
  rw [show 5+33*i+33=5+33*(i+1) from by omega]
  refine zS (i+1,a2,c1) ?_ ?_
  ·exact ⟨by omega,by have hz:=hOw5;rw [List.append_assoc] at hz;exact (show 5+33*i+33=5+33*(i+1) from by omega)▸hz,(Ext.ownS (hEl.trans hEw4) hCw5 (fun k hs hk=>by have hn:=(hO.ext hEw4).ne hs;omega))⟩
  ·first | omega |(dsimp only;omega)
 ·replace hc24:¬(i<4):=by have:=zal hc24;omega
  refine zg (zc (zr (zaf (zH (zH (zT (zc (zf (ze ?_)))))))))
  refine zd 2 [(2,(.slice p (5+33*i) cp)),(44,(.slice p (5+33*i) cp))] (zg (zc (zx (zB (.slice p (5+33*i) cp) ?_))))
  obtain rfl:i=4:=by omega
  rw [show zM x=zdj x++zbc zbC x.es.get 4 from by unfold zM;rw [if_neg hp0]]
  exact ⟨_,_,rfl,(hO).es.mono (by omega) (Nat.le_refl _),(hEw1.trans hEl)⟩
theorem znm (x:Nod) (w:World):
  Calls Tryz.prog 61 #[(vA (zK x))] w (Ret fun r w'=>∃a0 ca0,r=(.slice a0 (zbx x) ca0)∧Es u8v w.heap.size w'.heap.size w' a0 (zbx x) ca0 (zM x)∧Ext w w'):=by
 by_cases h:x.lv=0
 ·rw [show zbx x=185 from if_pos h];exact zlA x w h
 ·rw [show zbx x=137 from if_neg h];exact zls x w h
end Go.Proofs.YtgdpdnokcnhgnaaGreatDoor
namespace Go.Proofs.YtgdpdnokcnhgnaaGreatDoor
open Go Go.RowKit Go.Cs
set_option maxRecDepth 100000
theorem zme {b6 bm n cp m:Nat} {L:List UInt8} {lo hi k:Nat} {a:Option Addr} {cl:Nat} {l:List UInt8} (e:Nat) (w:World) (hb6:Blk w b6 [(.slice (pA bm 0) n cp)] 57) (hbm:Blk w bm (u8s L++List.replicate m (vB 0)) 5) (hL:L.length=n) (hcp:n+m=cp) (hmx:cp≤1000) (hne:b6≠bm) (hl:Bs lo hi w a k cl l) (hk:0<k) (hkm:k≤m):
  Calls Tryz.prog 84 #[(.slice a k cl),(vI e),(vP b6 0)] w (Ret fun r w'=>r=(vI e)∧Blk w' b6 [(.slice (pA bm 0) (n+k) cp)] 57∧Blk w' bm (u8s (L++l)++List.replicate (m-k) (vB 0)) 5∧Chg (fun j=>j=b6∨j=bm) w w'):=by
 refine zL (n:=10) (σ:= [(0,(.slice a k cl)),(1,(vI e)),(2,(vP b6 0))]) Tryz.func84 rfl ?_
 have hle:=hl.le
 refine zf (ze (zd 1 [(5,(vI 0))] (zg (zc (zf (ze (zb (zj (some 6) (Instr.loadAt 57 (vP b6 0)) (.slice (pA bm 0) n cp) (zo (hb6.cell rfl)) ?_))))))))
 refine zd 1 [(7,(.slice a k cl))] ?_
 obtain ⟨b1,o1,rfl⟩:=hl.addr (by omega)
 refine zb (zb5 (some 8) 57 57 5 1 bm n cp ⟨b1,o1,none⟩ k cl hbm hl.sla (by rw [zaK,←hl.len_eq,Nat.mul_one]) (zcm _) (by rw [List.length_append,zaK,hL,List.length_replicate,Nat.mul_one];omega) ?_ (by omega))
 intro w1 hBw1 hCw1
 have hzw1:=hCw1.size
 rw [zeG hL hl.len_eq.symm (by omega)] at hBw1
 have hLw1:(L++l).length=n+k:=by rw [List.length_append,hL,←hl.len_eq]
 refine zb (zV 57 b6 0 57 (.slice (pA bm 0) (n+k) cp) ([(.slice (pA bm 0) n cp)]) ((hb6).chg hCw1 (fun hs=>by have h:_=_:=hs;omega)) (by first | decide |(simp;done)|(simp;omega)) ?_)
 intro w2 hBw2 hCw2
 have hzw2:=hCw2.size
 replace hBw2:=hBw2.set1
 exact zg (zc (zf (ze (zd 2 [(5,(vI e)),(9,(vI e))] (zg (zc (zx (zB (vI e) (⟨rfl,hBw2,((hBw1).chg hCw2 (fun hs=>by have h:_=_:=hs;omega)),(Chg.then (Chg.then (Chg.refl (fun j=>j=b6∨j=bm) w) hCw1 (fun k hk hs=>by have h:k=_:=hs;first | exact hs | exact .inl h | exact .inr h |(exfalso;omega))) hCw2 (fun k hk hs=>by have h:k=_:=hs;first | exact hs | exact .inl h | exact .inr h |(exfalso;omega)))⟩)))))))))
theorem zqv {b6 bm n cp m:Nat} {L:List UInt8} {b7:Nat} (q:Rec) (w:World) (hb6:Blk w b6 [(.slice (pA bm 0) n cp)] 57) (hbm:Blk w bm (u8s L++List.replicate m (vB 0)) 5) (hL:L.length=n) (hcp:n+m=cp) (hmx:cp≤1000) (hne:b6≠bm) (hb7:Blk w b7 [(.func (.func 84) #[] #[(vP b6 0)])] 159) (h76:b7≠b6) (h7m:b7≠bm) (hq:zaB q=0) (hm:45≤m):
  Calls Tryz.prog 86 #[(vA (zE q)),(vP b7 0)] w (Ret fun r w'=>r=(vI 0)∧Blk w' b7 [(.func (.func 84) #[] #[(vP b6 0)])] 159∧Blk w' b6 [(.slice (pA bm 0) (n+45) cp)] 57∧Blk w' bm (u8s (L++zbh q)++List.replicate (m-45) (vB 0)) 5∧Chg (fun j=>j=b6∨j=bm) w w'):=by
 refine zL (n:=10) (σ:= [(0,(vA (zE q))),(1,(vP b7 0))]) Tryz.func86 rfl ?_
 have h6l:=hb6.lt;have hml:=hbm.lt;have h7l:=hb7.lt
 refine zf (ze (zb (zt (some 2) (Instr.box 33 (vA (zE q))) (vP w.heap.size 0) (zE q) 33 ?_)))
 intro w1 hBw1 hEw1
 have hzw1:=hEw1.size;have hlw1:=hBw1.lt
 refine zd 1 [(3,(vI 0))] (zg (zc (zf (zag (Chg (fun j=>j=b6∨j=bm) w1.drew) 7 [(5,2,0),(6,4,0),(7,32,2),(8,64,4),(9,64,4),(10,400,29),(4,512,63)] (fun hT31=> ?_)))))
 have hEw2:Ext w1 w1.drew:=Ext.drew w1
 generalize w1.drew=w2 at hEw2⊢
 have hzw2:=hEw2.size
 have hX1:Chg (fun j=>j=b6∨j=bm) w2 w2:=(Chg.refl (fun j=>j=b6∨j=bm) w2)
 refine zh (hw:=hX1) hT31 0 1 (some 4) (.func (.func 84) #[] #[(vP b6 0)]) (zl (Instr.loadAt 159 (vP b7 0)) (fun w' hC=>zo (((((hb7.ext hEw1)).ext hEw2).chg hC (fun hs=>by rcases hs with hs | hs<;>omega)).cell rfl))) (zh (hw:=hX1) hT31 1 3 (some 5) (vA (zE q)) (zl (Instr.loadAt 33 (vP w.heap.size 0)) (fun w' hC=>zD (vs:=zE q) (((hBw1.ext hEw2).chg hC (fun hs=>by rcases hs with hs | hs<;>omega)).all) (by rw [zY];kernel_rfl))) (zn 2 7 (zi (some 6) (zkb q _ (by assumption)) ?_)))
 rintro _ w3 ⟨a1,rfl,hFz1_0,hEw3⟩
 have hzw3:=hEw3.size
 have hX2:Chg (fun j=>j=b6∨j=bm) w2 w3:=((Chg.refl (fun j=>j=b6∨j=bm) w2).trans hEw3.chg)
 refine ⟨.inr hX2, ?_⟩
 refine zk (hw:=hX2) hT31 [(3,7,(.slice a1 45 45)),(4,8,(vI 0))] 2 31 ?_
 have hK1:=(((((hb6.ext hEw1)).ext hEw2)).ext hEw3)
 have hK2:=(((((hbm.ext hEw1)).ext hEw2)).ext hEw3)
 refine zn 5 63 (zi (some 9) (zme 0 _ hK1 hK2 hL hcp hmx hne hFz1_0 (by omega) (by omega)) ?_)
 rintro _ w4 ⟨rfl,hPw4,hQw4,hCw4⟩
 have hzw4:=hCw4.size
 have hX3:Chg (fun j=>j=b6∨j=bm) w2 w4:=(Chg.then ((Chg.refl (fun j=>j=b6∨j=bm) w2).trans hEw3.chg) hCw4 (fun k hk hs=>by first | exact hs |(rcases hs with hs | hs<;>first |(left;omega)|(right;omega)|(exfalso;omega))))
 refine ⟨.inr hX3, ?_⟩
 refine zk (hw:=hX3) hT31 [(6,3,(vI 0))] 1 127 (zJ (zc (zx (zB (vI 0) ?_))))
 have hK3:=(((((((hb7.ext hEw1)).ext hEw2)).ext hEw3)).chg hCw4 (fun hs=>by rcases hs with hs | hs<;>omega))
 exact ⟨rfl,hK3,hPw4,hQw4,(Chg.then ((((Chg.refl (fun j=>j=b6∨j=bm) w).trans hEw1.chg).trans hEw2.chg).trans hEw3.chg) hCw4 (fun k hk hs=>by first | exact hs |(rcases hs with hs | hs<;>first |(left;omega)|(right;omega)|(exfalso;omega))))⟩
theorem zja {b6 bm n cp m:Nat} {L:List UInt8} {b7:Nat} (x:R4) (w:World) (hb6:Blk w b6 [(.slice (pA bm 0) n cp)] 57) (hbm:Blk w bm (u8s L++List.replicate m (vB 0)) 5) (hL:L.length=n) (hcp:n+m=cp) (hmx:cp≤1000) (hne:b6≠bm) (hb7:Blk w b7 [(.func (.func 84) #[] #[(vP b6 0)])] 159) (h76:b7≠b6) (h7m:b7≠bm) (hq:zeY x=0) (hm:180≤m):
  Calls Tryz.prog 85 #[(vA (r4C x)),(.func (.func 86) #[] #[(vP b7 0)])] w (Ret fun r w'=>r=(vI 0)∧Blk w' b7 [(.func (.func 84) #[] #[(vP b6 0)])] 159∧Blk w' b6 [(.slice (pA bm 0) (n+45*4) cp)] 57∧Blk w' bm (u8s (L++zbc zbh x.get 4)++List.replicate (m-45*4) (vB 0)) 5∧Chg (fun j=>j=b6∨j=bm) w w'):=by
 refine zL (n:=19) (σ:= [(0,(vA (r4C x))),(1,(.func (.func 86) #[] #[(vP b7 0)]))]) Tryz.func85 rfl ?_
 have h6l:=hb6.lt;have hml:=hbm.lt;have h7l:=hb7.lt
 refine zf (ze (zb (zt (some 2) (Instr.box 42 (vA (r4C x))) (vP w.heap.size 0) (r4C x) 42 ?_)))
 intro w1 hBw1 hEw1
 have hzw1:=hEw1.size;have hlw1:=hBw1.lt
 refine zd 1 [(4,(vI 0))] (zg (zc (zf (zf (ze (zb (zj (some 8) (Instr.loadAt 42 (vP w.heap.size 0)) (vA (r4C x)) (zD (vs:=r4C x) (hBw1.all) (by rw [zcA];kernel_rfl)) ?_)))))))
 refine zd 1 [(9,(vI 0))] (zg (zc (zI (zah (X:=Nat) (fun i=> [(9,(vI i))]) [4,6,7,10,11,12,13,14,15,16,17,18] (fun i w2=>i≤4∧Blk w2 b7 ([(.func (.func 84) #[] #[(vP b6 0)])]) 159∧Blk w2 b6 ([(.slice (pA bm 0) (n+45*i) cp)]) 57∧Blk w2 bm (u8s (L++zbc zbh x.get i)++List.replicate (m-45*i) (vB 0)) 5∧Chg (fun j=>j=b6∨j=bm) w w2) (fun i=>4-i) 0 (by kernel_rfl) ⟨by omega,(hb7.ext hEw1),(hb6.ext hEw1),by have hz:=(hbm.ext hEw1);simpa [zbc] using hz,((Chg.refl (fun j=>j=b6∨j=bm) w).trans hEw1.chg)⟩ ?_))))
 rintro i dw2 w2 ⟨hi,hR,hP,hQ,hCl⟩
 have hzl:=hCl.size
 refine zf (ze (zb (zO (some 10) (decide (((i:Nat):Int)<((4:Nat):Int))) (fun hc10=> ?_) (fun hc10=> ?_))))
 ·replace hc10:i<4:=by have:=zak hc10;omega
  refine zg (zc (zf (zF (zy (zc (zf (zI (zf (ze ?_)))))))))
  refine zb (zj (some 11) (Instr.index 42 (vA (r4C x)) (vI i)) (vA (zE (x.get i))) (zho (E:=33) (m:=4) (sz:=35) (us:=zE (x.get i)) (by omega) (zlf (by omega))) ?_)
  refine zb (zt (some 6) (Instr.alloc 33 true (.tuple #[])) (vP w2.heap.size 0) (zE Rec.zero) 33 ?_)
  intro w3 hBw3 hEw3
  have hzw3:=hEw3.size;have hlw3:=hBw3.lt
  refine zb (zz 33 w2.heap.size 0 33 (vA (zE (x.get i))) (zE Rec.zero) (zE (x.get i)) hBw3 (by rw [zY];kernel_rfl) (by first |(simp;done)|(simp;omega)) (zaU _) ?_)
  intro w4 hBw4 hCw4
  have hzw4:=hCw4.size
  rw [zm _ _ (by simp)] at hBw4
  refine zg (zc (zf (ze (zd 1 [(12,(.func (.func 86) #[] #[(vP b7 0)]))] (zb (zj (some 13) (Instr.loadAt 33 (vP w2.heap.size 0)) (vA (zE (x.get i))) (zD (vs:=zE (x.get i)) (hBw4.all) (by rw [zY];kernel_rfl)) ?_))))))
  refine zb (zi (some 14) (zqv (x.get i) _ (((hP.ext hEw3)).chg hCw4 (fun hs=>by have h:_=_:=hs;omega)) (((hQ.ext hEw3)).chg hCw4 (fun hs=>by have h:_=_:=hs;omega)) (by rw [List.length_append,zds zhd];omega) (by omega) hmx hne (((hR.ext hEw3)).chg hCw4 (fun hs=>by have h:_=_:=hs;omega)) h76 h7m (zaN.1 hq _ (by omega)) (by omega)) ?_)
  rintro _ w5 ⟨rfl,hRw5,hPw5,hQw5,hCw5⟩
  have hzw5:=hCw5.size
  refine zd 1 [(7,(vI 0))] (zg (zc (zf (ze (zd 2 [(16,vF),(15,(vI 0))] (zg (zc (zr (zy ?_)))))))))
  refine zp (zc (ze (zb (zv (some 18) .i64 (IntKind.i64.wrap (((i:Nat):Int)+((1:Nat):Int))) (i+1) (zG (by omega) (by omega) (by omega)) ?_))))
  refine zd 1 [(9,(vI (i+1)))] (zg (zC (zS (i+1) ?_ ?_)))
  ·exact ⟨by omega,hRw5,by have hz:=hPw5;rwa [show n+45*i+45=n+45*(i+1) from by omega] at hz,by have hz:=hQw5;rw [List.append_assoc] at hz;exact (show m-45*i-45=m-45*(i+1) from by omega)▸hz,(Chg.then (Chg.then ((Chg.then (Chg.refl (fun j=>j=b6∨j=bm) w) hCl (fun k hk hs=>by first | exact hs |(rcases hs with hs | hs<;>first |(left;omega)|(right;omega)|(exfalso;omega)))).trans hEw3.chg) hCw4 (fun k hk hs=>by have h:k=_:=hs;first | exact hs | exact .inl h | exact .inr h |(exfalso;omega))) hCw5 (fun k hk hs=>by first | exact hs |(rcases hs with hs | hs<;>first |(left;omega)|(right;omega)|(exfalso;omega))))⟩
  ·first | omega |(dsimp only;omega)
 ·replace hc10:¬(i<4):=by have:=zal hc10;omega
  refine zg (zc (zf (zr (zaf (zH (zH (zT (zc (zf ?_)))))))))
  refine ze (zd 1 [(4,(vI 0))] (zg (zc (zx (zB (vI 0) ?_)))))
  obtain rfl:i=4:=by omega
  exact ⟨rfl,hR,hP,hQ,(Chg.then (Chg.refl (fun j=>j=b6∨j=bm) w) hCl (fun k hk hs=>by first | exact hs |(rcases hs with hs | hs<;>first |(left;omega)|(right;omega)|(exfalso;omega))))⟩
theorem zqP {b6 bm n cp m:Nat} {L:List UInt8} {b7:Nat} (q:Ent) (w:World) (hb6:Blk w b6 [(.slice (pA bm 0) n cp)] 57) (hbm:Blk w bm (u8s L++List.replicate m (vB 0)) 5) (hL:L.length=n) (hcp:n+m=cp) (hmx:cp≤1000) (hne:b6≠bm) (hb7:Blk w b7 [(.func (.func 84) #[] #[(vP b6 0)])] 159) (h76:b7≠b6) (h7m:b7≠bm) (hq:zaV q=0) (hm:33≤m):
  Calls Tryz.prog 89 #[(vA (zai q)),(vP b7 0)] w (Ret fun r w'=>r=(vI 0)∧Blk w' b7 [(.func (.func 84) #[] #[(vP b6 0)])] 159∧Blk w' b6 [(.slice (pA bm 0) (n+33) cp)] 57∧Blk w' bm (u8s (L++zbC q)++List.replicate (m-33) (vB 0)) 5∧Chg (fun j=>j=b6∨j=bm) w w'):=by
 refine zL (n:=10) (σ:= [(0,(vA (zai q))),(1,(vP b7 0))]) Tryz.func89 rfl ?_
 have h6l:=hb6.lt;have hml:=hbm.lt;have h7l:=hb7.lt
 refine zf (ze (zb (zt (some 2) (Instr.box 44 (vA (zai q))) (vP w.heap.size 0) (zai q) 44 ?_)))
 intro w1 hBw1 hEw1
 have hzw1:=hEw1.size;have hlw1:=hBw1.lt
 refine zd 1 [(3,(vI 0))] (zg (zc (zf (zag (Chg (fun j=>j=b6∨j=bm) w1.drew) 7 [(5,2,0),(6,4,0),(7,32,2),(8,64,4),(9,64,4),(10,400,29),(4,512,63)] (fun hT97=> ?_)))))
 have hEw2:Ext w1 w1.drew:=Ext.drew w1
 generalize w1.drew=w2 at hEw2⊢
 have hzw2:=hEw2.size
 have hX1:Chg (fun j=>j=b6∨j=bm) w2 w2:=(Chg.refl (fun j=>j=b6∨j=bm) w2)
 refine zh (hw:=hX1) hT97 0 1 (some 4) (.func (.func 84) #[] #[(vP b6 0)]) (zl (Instr.loadAt 159 (vP b7 0)) (fun w' hC=>zo (((((hb7.ext hEw1)).ext hEw2).chg hC (fun hs=>by rcases hs with hs | hs<;>omega)).cell rfl))) (zh (hw:=hX1) hT97 1 3 (some 5) (vA (zai q)) (zl (Instr.loadAt 44 (vP w.heap.size 0)) (fun w' hC=>zD (vs:=zai q) (((hBw1.ext hEw2).chg hC (fun hs=>by rcases hs with hs | hs<;>omega)).all) (by rw [zaS];kernel_rfl))) (zn 2 7 (zi (some 6) (zll q _ (by assumption)) ?_)))
 rintro _ w3 ⟨a1,rfl,hFz1_0,hEw3⟩
 have hzw3:=hEw3.size
 have hX2:Chg (fun j=>j=b6∨j=bm) w2 w3:=((Chg.refl (fun j=>j=b6∨j=bm) w2).trans hEw3.chg)
 refine ⟨.inr hX2, ?_⟩
 refine zk (hw:=hX2) hT97 [(3,7,(.slice a1 33 33)),(4,8,(vI 0))] 2 31 ?_
 have hK1:=(((((hb6.ext hEw1)).ext hEw2)).ext hEw3)
 have hK2:=(((((hbm.ext hEw1)).ext hEw2)).ext hEw3)
 refine zn 5 63 (zi (some 9) (zme 0 _ hK1 hK2 hL hcp hmx hne hFz1_0 (by omega) (by omega)) ?_)
 rintro _ w4 ⟨rfl,hPw4,hQw4,hCw4⟩
 have hzw4:=hCw4.size
 have hX3:Chg (fun j=>j=b6∨j=bm) w2 w4:=(Chg.then ((Chg.refl (fun j=>j=b6∨j=bm) w2).trans hEw3.chg) hCw4 (fun k hk hs=>by first | exact hs |(rcases hs with hs | hs<;>first |(left;omega)|(right;omega)|(exfalso;omega))))
 refine ⟨.inr hX3, ?_⟩
 refine zk (hw:=hX3) hT97 [(6,3,(vI 0))] 1 127 (zJ (zc (zx (zB (vI 0) ?_))))
 have hK3:=(((((((hb7.ext hEw1)).ext hEw2)).ext hEw3)).chg hCw4 (fun hs=>by rcases hs with hs | hs<;>omega))
 exact ⟨rfl,hK3,hPw4,hQw4,(Chg.then ((((Chg.refl (fun j=>j=b6∨j=bm) w).trans hEw1.chg).trans hEw2.chg).trans hEw3.chg) hCw4 (fun k hk hs=>by first | exact hs |(rcases hs with hs | hs<;>first |(left;omega)|(right;omega)|(exfalso;omega))))⟩
theorem zjB {b6 bm n cp m:Nat} {L:List UInt8} {b7:Nat} (x:E4) (w:World) (hb6:Blk w b6 [(.slice (pA bm 0) n cp)] 57) (hbm:Blk w bm (u8s L++List.replicate m (vB 0)) 5) (hL:L.length=n) (hcp:n+m=cp) (hmx:cp≤1000) (hne:b6≠bm) (hb7:Blk w b7 [(.func (.func 84) #[] #[(vP b6 0)])] 159) (h76:b7≠b6) (h7m:b7≠bm) (hq:ze2 x=0) (hm:132≤m):
  Calls Tryz.prog 88 #[(vA (e4C x)),(.func (.func 89) #[] #[(vP b7 0)])] w (Ret fun r w'=>r=(vI 0)∧Blk w' b7 [(.func (.func 84) #[] #[(vP b6 0)])] 159∧Blk w' b6 [(.slice (pA bm 0) (n+33*4) cp)] 57∧Blk w' bm (u8s (L++zbc zbC x.get 4)++List.replicate (m-33*4) (vB 0)) 5∧Chg (fun j=>j=b6∨j=bm) w w'):=by
 refine zL (n:=19) (σ:= [(0,(vA (e4C x))),(1,(.func (.func 89) #[] #[(vP b7 0)]))]) Tryz.func88 rfl ?_
 have h6l:=hb6.lt;have hml:=hbm.lt;have h7l:=hb7.lt
 refine zf (ze (zb (zt (some 2) (Instr.box 45 (vA (e4C x))) (vP w.heap.size 0) (e4C x) 45 ?_)))
 intro w1 hBw1 hEw1
 have hzw1:=hEw1.size;have hlw1:=hBw1.lt
 refine zd 1 [(4,(vI 0))] (zg (zc (zf (zf (ze (zb (zj (some 8) (Instr.loadAt 45 (vP w.heap.size 0)) (vA (e4C x)) (zD (vs:=e4C x) (hBw1.all) (by rw [zdg];kernel_rfl)) ?_)))))))
 refine zd 1 [(9,(vI 0))] (zg (zc (zI (zah (X:=Nat) (fun i=> [(9,(vI i))]) [4,6,7,10,11,12,13,14,15,16,17,18] (fun i w2=>i≤4∧Blk w2 b7 ([(.func (.func 84) #[] #[(vP b6 0)])]) 159∧Blk w2 b6 ([(.slice (pA bm 0) (n+33*i) cp)]) 57∧Blk w2 bm (u8s (L++zbc zbC x.get i)++List.replicate (m-33*i) (vB 0)) 5∧Chg (fun j=>j=b6∨j=bm) w w2) (fun i=>4-i) 0 (by kernel_rfl) ⟨by omega,(hb7.ext hEw1),(hb6.ext hEw1),by have hz:=(hbm.ext hEw1);simpa [zbc] using hz,((Chg.refl (fun j=>j=b6∨j=bm) w).trans hEw1.chg)⟩ ?_))))
 rintro i dw2 w2 ⟨hi,hR,hP,hQ,hCl⟩
 have hzl:=hCl.size
 refine zf (ze (zb (zO (some 10) (decide (((i:Nat):Int)<((4:Nat):Int))) (fun hc10=> ?_) (fun hc10=> ?_))))
 ·replace hc10:i<4:=by have:=zak hc10;omega
  refine zg (zc (zf (zF (zy (zc (zf (zI (zf (ze ?_)))))))))
  refine zb (zj (some 11) (Instr.index 45 (vA (e4C x)) (vI i)) (vA (zai (x.get i))) (zho (E:=44) (m:=4) (sz:=33) (us:=zai (x.get i)) (by omega) (zk9 (by omega))) ?_)
  refine zb (zt (some 6) (Instr.alloc 44 true (.tuple #[])) (vP w2.heap.size 0) (zai Ent.zero) 44 ?_)
  intro w3 hBw3 hEw3
  have hzw3:=hEw3.size;have hlw3:=hBw3.lt
  refine zb (zz 44 w2.heap.size 0 44 (vA (zai (x.get i))) (zai Ent.zero) (zai (x.get i)) hBw3 (by rw [zaS];kernel_rfl) (by first |(simp;done)|(simp;omega)) (zdq _) ?_)
  intro w4 hBw4 hCw4
  have hzw4:=hCw4.size
  rw [zm _ _ (by simp)] at hBw4
  refine zg (zc (zf (ze (zd 1 [(12,(.func (.func 89) #[] #[(vP b7 0)]))] (zb (zj (some 13) (Instr.loadAt 44 (vP w2.heap.size 0)) (vA (zai (x.get i))) (zD (vs:=zai (x.get i)) (hBw4.all) (by rw [zaS];kernel_rfl)) ?_))))))
  refine zb (zi (some 14) (zqP (x.get i) _ (((hP.ext hEw3)).chg hCw4 (fun hs=>by have h:_=_:=hs;omega)) (((hQ.ext hEw3)).chg hCw4 (fun hs=>by have h:_=_:=hs;omega)) (by rw [List.length_append,zds zgW];omega) (by omega) hmx hne (((hR.ext hEw3)).chg hCw4 (fun hs=>by have h:_=_:=hs;omega)) h76 h7m (zaN.1 hq _ (by omega)) (by omega)) ?_)
  rintro _ w5 ⟨rfl,hRw5,hPw5,hQw5,hCw5⟩
  have hzw5:=hCw5.size
  refine zd 1 [(7,(vI 0))] (zg (zc (zf (ze (zd 2 [(16,vF),(15,(vI 0))] (zg (zc (zr (zy ?_)))))))))
  refine zp (zc (ze (zb (zv (some 18) .i64 (IntKind.i64.wrap (((i:Nat):Int)+((1:Nat):Int))) (i+1) (zG (by omega) (by omega) (by omega)) ?_))))
  refine zd 1 [(9,(vI (i+1)))] (zg (zC (zS (i+1) ?_ ?_)))
  ·exact ⟨by omega,hRw5,by have hz:=hPw5;rwa [show n+33*i+33=n+33*(i+1) from by omega] at hz,by have hz:=hQw5;rw [List.append_assoc] at hz;exact (show m-33*i-33=m-33*(i+1) from by omega)▸hz,(Chg.then (Chg.then ((Chg.then (Chg.refl (fun j=>j=b6∨j=bm) w) hCl (fun k hk hs=>by first | exact hs |(rcases hs with hs | hs<;>first |(left;omega)|(right;omega)|(exfalso;omega)))).trans hEw3.chg) hCw4 (fun k hk hs=>by have h:k=_:=hs;first | exact hs | exact .inl h | exact .inr h |(exfalso;omega))) hCw5 (fun k hk hs=>by first | exact hs |(rcases hs with hs | hs<;>first |(left;omega)|(right;omega)|(exfalso;omega))))⟩
  ·first | omega |(dsimp only;omega)
 ·replace hc10:¬(i<4):=by have:=zal hc10;omega
  refine zg (zc (zf (zr (zaf (zH (zH (zT (zc (zf ?_)))))))))
  refine ze (zd 1 [(4,(vI 0))] (zg (zc (zx (zB (vI 0) ?_)))))
  obtain rfl:i=4:=by omega
  exact ⟨rfl,hR,hP,hQ,(Chg.then (Chg.refl (fun j=>j=b6∨j=bm) w) hCl (fun k hk hs=>by first | exact hs |(rcases hs with hs | hs<;>first |(left;omega)|(right;omega)|(exfalso;omega))))⟩
end Go.Proofs.YtgdpdnokcnhgnaaGreatDoor
namespace Go.Proofs.YtgdpdnokcnhgnaaGreatDoor
open Go Go.RowKit Go.Cs
set_option maxRecDepth 100000
theorem zoM (x:Nod) (w:World) (hp0:zar x=0) (hp1:x.lv=0) (hg0:Gl 0 [vI 45,vI 33] w):
  Calls Tryz.prog 62 #[(vA (zK x))] w (Ret fun r w'=>∃a0,r=(.tuple #[(.slice (pA a0 0) 185 185),(vI 0)])∧w.heap.size≤a0∧Blk w' a0 (u8s (zM x)) 5∧185=(zM x).length∧185≤1099511627776∧Ext w w'):=by
 refine zL (n:=44) (σ:= [(0,(vA (zK x)))]) Tryz.func62 rfl ?_
 have hgl0:=hg0.lt
 have hlvx:=x.hlv
 have hixx:=x.hix
 refine zf (ze (zb (zt (some 1) (Instr.box 47 (vA (zK x))) (vP w.heap.size 0) (zK x) 47 ?_)))
 intro w1 hBw1 hEw1
 have hzw1:=hEw1.size;have hlw1:=hBw1.lt
 refine zd 2 [(3,(vI 0)),(2,(.slice none 0 0))] (zg (zc (zf (zf (ze (zb (zj (some 8) (Instr.loadAt 47 (vP w.heap.size 0)) (vA (zK x)) (zD (vs:=zK x) (hBw1.all) (by rw [zW];kernel_rfl)) ?_)))))))
 refine zb (zi (some 9) (zhb x _) ?_)
 rintro _ w2 ⟨rfl,hEw2⟩
 have hzw2:=hEw2.size
 refine zd 1 [(4,(vI (zar x)))] (zg (zc (zf (ze (zd 1 [(10,(vI (zar x)))] (zb (zat (some 11) (((zar x:Nat):Int) !=((0:Nat):Int)) false (zaL (by omega)) ?_)))))))
 refine zg (zc (zr (zy (zc (zf (ze (zd 1 [(13,(vP w.heap.size 0))] (zb (zj (some 14) (Instr.loadAt 5 (vP w.heap.size 0)) (vB x.lv) (zo ((hBw1.ext hEw2).cell rfl)) ?_)))))))))
 refine zb (zi (some 15) (znv x.lv _) ?_)
 rintro _ _ ⟨rfl,rfl⟩
 rw [show min x.lv 1=0 from by omega]
 refine zd 1 [(5,(vI 0))] (zg (zc (zf (ze (zd 1 [(16,(vI 0))] (zb (zj (some 17) (Instr.indexAt 158 (vP 0 0) (vI 0)) (vP 0 0) (zX (E:=3) (sz:=1) (m:=2) (by omega)) ?_)))))))
 refine zb (zj (some 18) (Instr.loadAt 3 (vP 0 0)) (vI 45) (zo ((((hg0.ext hEw1)).ext hEw2).all.one 0 (vI 45) rfl)) ?_)
 refine zb (zv (some 19) .i64 (IntKind.i64.wrap (((4:Nat):Int)*((45:Nat):Int))) 180 (zG (by omega) (by omega) (by omega)) ?_)
 refine zb (zv (some 20) .i64 (IntKind.i64.wrap (((5:Nat):Int)+((180:Nat):Int))) 185 (zG (by omega) (by omega) (by omega)) ?_)
 refine zb (zcU (some 21) 57 5 1 1 0 185 .i64 .i64 (vB 0) (by omega) (by omega) (by omega) ?_)
 rw [zdZ _ rfl]
 intro w3 hBw3 hEw3
 have hzw3:=hEw3.size;have hlw3:=hBw3.lt
 refine zb (zt (some 6) (Instr.alloc 57 true (.tuple #[])) (vP w3.heap.size 0) ([(.slice none 0 0)]) 57 ?_)
 intro w4 hBw4 hEw4
 have hzw4:=hEw4.size;have hlw4:=hBw4.lt
 refine zb (zV 57 w3.heap.size 0 57 (.slice (pA w2.heap.size 0) 0 185) ([(.slice none 0 0)]) hBw4 (by first | decide |(simp;done)|(simp;omega)) ?_)
 intro w5 hBw5 hCw5
 have hzw5:=hCw5.size
 replace hBw5:=hBw5.set1
 refine zg (zc (zf (ze (zb (zj (some 22) (Instr.loadAt 57 (vP w3.heap.size 0)) (.slice (pA w2.heap.size 0) 0 185) (zo (hBw5.cell rfl)) ?_)))))
 refine zd 1 [(23,(vP w.heap.size 0))] ?_
 have hK1:=(((((((hBw1.ext hEw2)).ext hEw3)).ext hEw4)).chg hCw5 (fun hs=>by have h:_=_:=hs;omega))
 refine zb (zj (some 24) (Instr.loadAt 5 (vP w.heap.size 0)) (vB x.lv) (zo (hK1.cell rfl)) ?_)
 refine zb (zt (some 25) (Instr.buildSlice 57 1 #[(0,(vB x.lv))]) (.slice (pA w5.heap.size 0) 1 1) [(vB x.lv)] 5 ?_)
 intro w6 hBw6 hEw6
 have hzw6:=hEw6.size;have hlw6:=hBw6.lt
 have hSw6:Bs w5.heap.size (w5.heap.size+1) w6 (pA w5.heap.size 0) 1 1 [UInt8.ofNat x.lv]:=Bs.of_blk hBw6 (zcb x.hlv) rfl (Nat.le_refl _) (by decide) (Nat.le_refl _) (Nat.lt_succ_self _)
 have hK2:=(((((hBw3.ext hEw4)).chg hCw5 (fun hs=>by have h:_=_:=hs;omega))).ext hEw6)
 have hZw2:Blk w6 w2.heap.size (u8s []++List.replicate 185 (vB 0)) 5:=hK2
 refine zb (zb5 (some 26) 57 57 5 1 w2.heap.size 0 185 ⟨w5.heap.size,0,none⟩ 1 1 hZw2 hSw6.sla (by rw [zaK,←hSw6.len_eq,Nat.mul_one]) (zcm _) (by rw [List.length_append,zaK,(show ([]:List UInt8).length=0 from rfl),List.length_replicate,Nat.mul_one];omega) ?_ (by omega))
 intro w7 hBw7 hCw7
 have hzw7:=hCw7.size
 rw [zeG (show ([]:List UInt8).length=0 from rfl) hSw6.len_eq.symm (by omega)] at hBw7
 rw [show 185-1=184 from rfl] at hBw7
 have hLw7:([]++([UInt8.ofNat x.lv])).length=0+1:=by rw [List.length_append,(show ([]:List UInt8).length=0 from rfl),←hSw6.len_eq]
 rw [show 0+1=1 from rfl]
 rw [show 0+1=1 from rfl] at hLw7
 refine zb (zV 57 w3.heap.size 0 57 (.slice (pA w2.heap.size 0) 1 185) ([(.slice (pA w2.heap.size 0) 0 185)]) (((hBw5.ext hEw6)).chg hCw7 (fun hs=>by have h:_=_:=hs;omega)) (by first | decide |(simp;done)|(simp;omega)) ?_)
 intro w8 hBw8 hCw8
 have hzw8:=hCw8.size
 replace hBw8:=hBw8.set1
 refine zg (zc (zf (zag (Chg (fun k=>k=w3.heap.size∨k=w2.heap.size) w8.drew) 6 [(28,64,0),(29,2,0),(30,268435456,2),(31,536870912,4),(32,1207959552,9),(0,2147483712,31)] (fun hT107=> ?_))))
 have hEw9:Ext w8 w8.drew:=Ext.drew w8
 generalize w8.drew=w9 at hEw9⊢
 have hzw9:=hEw9.size
 have hX1:Chg (fun k=>k=w3.heap.size∨k=w2.heap.size) w9 w9:=(Chg.refl (fun k=>k=w3.heap.size∨k=w2.heap.size) w9)
 refine zk (hw:=hX1) hT107 [(1,28,(vP w.heap.size 1))] 1 2 ?_
 have hK3:=(((((((hK1.ext hEw6)).chg hCw7 (fun hs=>by have h:_=_:=hs;omega))).chg hCw8 (fun hs=>by have h:_=_:=hs;omega))).ext hEw9)
 refine zh (hw:=hX1) hT107 2 6 (some 29) (vW x.ix) (zl (Instr.loadAt 28 (vP w.heap.size 1)) (fun w' hC=>zo ((hK3.chg hC (fun hs=>by rcases hs with hs | hs<;>omega)).cell rfl))) (zay 0 3 7 14 ?_ ?_)
 ·refine zj (some 27) (Instr.loadAt 57 (vP w3.heap.size 0)) (.slice (pA w2.heap.size 0) 1 185) (zo ((hBw8.ext hEw9).cell rfl)) (⟨.inr hX1, ?_⟩)
  refine zn 3 15 (zi (some 30) (zd6 x.ix _ (by omega)) ?_)
  rintro _ w10 ⟨a1,rfl,hFz3_0,hEw10⟩
  have hzw10:=hEw10.size
  have hX2:Chg (fun k=>k=w3.heap.size∨k=w2.heap.size) w9 w10:=((Chg.refl (fun k=>k=w3.heap.size∨k=w2.heap.size) w9).trans hEw10.chg)
  refine ⟨.inr hX2, ?_⟩
  obtain ⟨b1,o1,rfl⟩:=hFz3_0.addr (by omega)
  have hK4:=((((((hBw7).chg hCw8 (fun hs=>by have h:_=_:=hs;omega))).ext hEw9)).ext hEw10)
  refine zn 4 31 (zb5 (some 31) 57 57 5 1 w2.heap.size 1 185 ⟨b1,o1,none⟩ 4 4 hK4 hFz3_0.sla (by rw [zaK,←hFz3_0.len_eq,Nat.mul_one]) (zcm _) (by rw [List.length_append,zaK,hLw7,List.length_replicate,Nat.mul_one];omega) ?_ (by omega))
  intro w11 hBw11 hCw11
  have hzw11:=hCw11.size
  rw [zeG hLw7 hFz3_0.len_eq.symm (by omega)] at hBw11
  rw [show 184-4=180 from rfl] at hBw11
  have hLw11:([]++([UInt8.ofNat x.lv])++(be x.ix 4)).length=1+4:=by rw [List.length_append,hLw7,←hFz3_0.len_eq]
  rw [show 1+4=5 from rfl]
  rw [show 1+4=5 from rfl] at hLw11
  have hX3:Chg (fun k=>k=w3.heap.size∨k=w2.heap.size) w9 w11:=(Chg.then ((Chg.refl (fun k=>k=w3.heap.size∨k=w2.heap.size) w9).trans hEw10.chg) hCw11 (fun k hk hs=>by have h:k=_:=hs;first | exact hs | exact .inl h | exact .inr h |(exfalso;omega)))
  refine ⟨.inr hX3, ?_⟩
  have hK5:=(((((hBw8.ext hEw9)).ext hEw10)).chg hCw11 (fun hs=>by have h:_=_:=hs;omega))
  refine zn 5 63 (zV 57 w3.heap.size 0 57 (.slice (pA w2.heap.size 0) 5 185) ([(.slice (pA w2.heap.size 0) 1 185)]) hK5 (by first | decide |(simp;done)|(simp;omega)) ?_)
  have hK6:=(((((hBw8.ext hEw9)).ext hEw10)).chg hCw11 (fun hs=>by have h:_=_:=hs;omega))
  intro w12 hBw12 hCw12
  have hzw12:=hCw12.size
  replace hBw12:=hBw12.set1
  refine ⟨.inl (by kernel_rfl), ?_⟩
  refine zJ (zc (zf (ze (zd 1 [(32,(.func (.func 84) #[] #[(vP w3.heap.size 0)]))] (zb (zt (some 7) (Instr.alloc 159 true (.tuple #[])) (vP w12.heap.size 0) ([.nilFunc]) 159 ?_))))))
  intro w13 hBw13 hEw13
  have hzw13:=hEw13.size;have hlw13:=hBw13.lt
  refine zb (zV 159 w12.heap.size 0 159 (.func (.func 84) #[] #[(vP w3.heap.size 0)]) ([.nilFunc]) hBw13 (by first | decide |(simp;done)|(simp;omega)) ?_)
  intro w14 hBw14 hCw14
  have hzw14:=hCw14.size
  replace hBw14:=hBw14.set1
  refine zg (zc (zf (zf (ze (zd 1 [(33,(vI 0))] (zb (zat (some 34) (((0:Nat):Int)==((0:Nat):Int)) true (zbt (by omega)) ?_)))))))
  refine zg (zc (zF (ze (zd 1 [(35,(vP w.heap.size 2))] ?_))))
  have hK7:=(((((((((hK3.ext hEw10)).chg hCw11 (fun hs=>by have h:_=_:=hs;omega))).chg hCw12 (fun hs=>by have h:_=_:=hs;omega))).ext hEw13)).chg hCw14 (fun hs=>by have h:_=_:=hs;omega))
  refine zb (zj (some 36) (Instr.loadAt 42 (vP w.heap.size 2)) (vA (r4C x.rs)) (zD (vs:=r4C x.rs) (hK7.at 2 (r4C x.rs) (zfg _)) (by rw [zcA];kernel_rfl)) ?_)
  refine zd 1 [(37,(.func (.func 86) #[] #[(vP w12.heap.size 0)]))] ?_
  have hK8:=((((((hBw11).chg hCw12 (fun hs=>by have h:_=_:=hs;omega))).ext hEw13)).chg hCw14 (fun hs=>by have h:_=_:=hs;omega))
  refine zb (zi (some 38) (zja x.rs _ (((hBw12.ext hEw13)).chg hCw14 (fun hs=>by have h:_=_:=hs;omega)) hK8 hLw11 rfl (by decide) (by omega) hBw14 (by omega) (by omega) (zfi hp0 hp1) (by omega)) ?_)
  rintro _ w15 ⟨rfl,hRw15,hPw15,hQw15,hCw15⟩
  have hzw15:=hCw15.size
  refine zg (zc (zf (ze (zb (zj (some 43) (Instr.loadAt 57 (vP w3.heap.size 0)) (.slice (pA w2.heap.size 0) 185 185) (zo (hPw15.cell rfl)) ?_)))))
  refine zd 2 [(3,(vI 0)),(2,(.slice (pA w2.heap.size 0) 185 185))] (zg (zc (zx (zB (.tuple #[(.slice (pA w2.heap.size 0) 185 185),(vI 0)]) ?_))))
  have hX4:Ext w w15:=(Ext.ownS (Ext.own ((Ext.own (Ext.own (((Ext.own (Ext.own ((Ext.own (((hEw1.trans hEw2).trans hEw3).trans hEw4) hCw5 (by omega)).trans hEw6) hCw7 (by omega)) hCw8 (by omega)).trans hEw9).trans hEw10) hCw11 (by omega)) hCw12 (by omega)).trans hEw13) hCw14 (by omega)) hCw15 (fun k hs hk=>by rcases hs with hs | hs<;>omega))
  have hfin:=hQw15
  rw [show u8s ([]++([UInt8.ofNat x.lv])++(be x.ix 4)++zbc zbh (x.rs.get) 4)++List.replicate (0) (vB 0)=u8s (zM x) from by rw [List.replicate_zero,List.append_nil];unfold zM;rw [if_pos hp1];simp [zdj]] at hfin
  exact ⟨_,rfl,by omega,hfin,by rw [zd3,if_pos hp1],by decide,hX4⟩
 ·refine zi (some 30) (zd6 x.ix _ (by omega)) ?_
  rintro _ w16 ⟨a2,rfl,hFz4_0,hEw16⟩
  have hzw16:=hEw16.size
  have hX5:Chg (fun k=>k=w3.heap.size∨k=w2.heap.size) w9 w16:=((Chg.refl (fun k=>k=w3.heap.size∨k=w2.heap.size) w9).trans hEw16.chg)
  refine ⟨.inr hX5, ?_⟩
  refine zn 0 15 (zj (some 27) (Instr.loadAt 57 (vP w3.heap.size 0)) (.slice (pA w2.heap.size 0) 1 185) (zo ((((hBw8.ext hEw9)).ext hEw16).cell rfl)) ?_)
  refine ⟨.inr hX5, ?_⟩
  obtain ⟨b2,o2,rfl⟩:=hFz4_0.addr (by omega)
  have hK9:=((((((hBw7).chg hCw8 (fun hs=>by have h:_=_:=hs;omega))).ext hEw9)).ext hEw16)
  refine zn 4 31 (zb5 (some 31) 57 57 5 1 w2.heap.size 1 185 ⟨b2,o2,none⟩ 4 4 hK9 hFz4_0.sla (by rw [zaK,←hFz4_0.len_eq,Nat.mul_one]) (zcm _) (by rw [List.length_append,zaK,hLw7,List.length_replicate,Nat.mul_one];omega) ?_ (by omega))
  intro w17 hBw17 hCw17
  have hzw17:=hCw17.size
  rw [zeG hLw7 hFz4_0.len_eq.symm (by omega)] at hBw17
  rw [show 184-4=180 from rfl] at hBw17
  have hLw17:([]++([UInt8.ofNat x.lv])++(be x.ix 4)).length=1+4:=by rw [List.length_append,hLw7,←hFz4_0.len_eq]
  rw [show 1+4=5 from rfl]
  rw [show 1+4=5 from rfl] at hLw17
  have hX6:Chg (fun k=>k=w3.heap.size∨k=w2.heap.size) w9 w17:=(Chg.then ((Chg.refl (fun k=>k=w3.heap.size∨k=w2.heap.size) w9).trans hEw16.chg) hCw17 (fun k hk hs=>by have h:k=_:=hs;first | exact hs | exact .inl h | exact .inr h |(exfalso;omega)))
  refine ⟨.inr hX6, ?_⟩
  have hK10:=(((((hBw8.ext hEw9)).ext hEw16)).chg hCw17 (fun hs=>by have h:_=_:=hs;omega))
  refine zn 5 63 (zV 57 w3.heap.size 0 57 (.slice (pA w2.heap.size 0) 5 185) ([(.slice (pA w2.heap.size 0) 1 185)]) hK10 (by first | decide |(simp;done)|(simp;omega)) ?_)
  have hK11:=(((((hBw8.ext hEw9)).ext hEw16)).chg hCw17 (fun hs=>by have h:_=_:=hs;omega))
  intro w18 hBw18 hCw18
  have hzw18:=hCw18.size
  replace hBw18:=hBw18.set1
  refine ⟨.inl (by kernel_rfl), ?_⟩
  refine zJ (zc (zf (ze (zd 1 [(32,(.func (.func 84) #[] #[(vP w3.heap.size 0)]))] (zb (zt (some 7) (Instr.alloc 159 true (.tuple #[])) (vP w18.heap.size 0) ([.nilFunc]) 159 ?_))))))
  intro w19 hBw19 hEw19
  have hzw19:=hEw19.size;have hlw19:=hBw19.lt
  refine zb (zV 159 w18.heap.size 0 159 (.func (.func 84) #[] #[(vP w3.heap.size 0)]) ([.nilFunc]) hBw19 (by first | decide |(simp;done)|(simp;omega)) ?_)
  intro w20 hBw20 hCw20
  have hzw20:=hCw20.size
  replace hBw20:=hBw20.set1
  refine zg (zc (zf (zf (ze (zd 1 [(33,(vI 0))] (zb (zat (some 34) (((0:Nat):Int)==((0:Nat):Int)) true (zbt (by omega)) ?_)))))))
  refine zg (zc (zF (ze (zd 1 [(35,(vP w.heap.size 2))] ?_))))
  have hK12:=(((((((((hK3.ext hEw16)).chg hCw17 (fun hs=>by have h:_=_:=hs;omega))).chg hCw18 (fun hs=>by have h:_=_:=hs;omega))).ext hEw19)).chg hCw20 (fun hs=>by have h:_=_:=hs;omega))
  refine zb (zj (some 36) (Instr.loadAt 42 (vP w.heap.size 2)) (vA (r4C x.rs)) (zD (vs:=r4C x.rs) (hK12.at 2 (r4C x.rs) (zfg _)) (by rw [zcA];kernel_rfl)) ?_)
  refine zd 1 [(37,(.func (.func 86) #[] #[(vP w18.heap.size 0)]))] ?_
  have hK13:=((((((hBw17).chg hCw18 (fun hs=>by have h:_=_:=hs;omega))).ext hEw19)).chg hCw20 (fun hs=>by have h:_=_:=hs;omega))
  refine zb (zi (some 38) (zja x.rs _ (((hBw18.ext hEw19)).chg hCw20 (fun hs=>by have h:_=_:=hs;omega)) hK13 hLw17 rfl (by decide) (by omega) hBw20 (by omega) (by omega) (zfi hp0 hp1) (by omega)) ?_)
  rintro _ w21 ⟨rfl,hRw21,hPw21,hQw21,hCw21⟩
  have hzw21:=hCw21.size
  refine zg (zc (zf (ze (zb (zj (some 43) (Instr.loadAt 57 (vP w3.heap.size 0)) (.slice (pA w2.heap.size 0) 185 185) (zo (hPw21.cell rfl)) ?_)))))
  refine zd 2 [(3,(vI 0)),(2,(.slice (pA w2.heap.size 0) 185 185))] (zg (zc (zx (zB (.tuple #[(.slice (pA w2.heap.size 0) 185 185),(vI 0)]) ?_))))
  have hX7:Ext w w21:=(Ext.ownS (Ext.own ((Ext.own (Ext.own (((Ext.own (Ext.own ((Ext.own (((hEw1.trans hEw2).trans hEw3).trans hEw4) hCw5 (by omega)).trans hEw6) hCw7 (by omega)) hCw8 (by omega)).trans hEw9).trans hEw16) hCw17 (by omega)) hCw18 (by omega)).trans hEw19) hCw20 (by omega)) hCw21 (fun k hs hk=>by rcases hs with hs | hs<;>omega))
  have hfin:=hQw21
  rw [show u8s ([]++([UInt8.ofNat x.lv])++(be x.ix 4)++zbc zbh (x.rs.get) 4)++List.replicate (0) (vB 0)=u8s (zM x) from by rw [List.replicate_zero,List.append_nil];unfold zM;rw [if_pos hp1];simp [zdj]] at hfin
  exact ⟨_,rfl,by omega,hfin,by rw [zd3,if_pos hp1],by decide,hX7⟩
theorem zpf (x:Nod) (w:World) (hp0:zar x=0) (hp1:¬x.lv=0) (hg0:Gl 0 [vI 45,vI 33] w):
  Calls Tryz.prog 62 #[(vA (zK x))] w (Ret fun r w'=>∃a0,r=(.tuple #[(.slice (pA a0 0) 137 137),(vI 0)])∧w.heap.size≤a0∧Blk w' a0 (u8s (zM x)) 5∧137=(zM x).length∧137≤1099511627776∧Ext w w'):=by
 refine zL (n:=44) (σ:= [(0,(vA (zK x)))]) Tryz.func62 rfl ?_
 have hgl0:=hg0.lt
 have hlvx:=x.hlv
 have hixx:=x.hix
 refine zf (ze (zb (zt (some 1) (Instr.box 47 (vA (zK x))) (vP w.heap.size 0) (zK x) 47 ?_)))
 intro w1 hBw1 hEw1
 have hzw1:=hEw1.size;have hlw1:=hBw1.lt
 refine zd 2 [(3,(vI 0)),(2,(.slice none 0 0))] (zg (zc (zf (zf (ze (zb (zj (some 8) (Instr.loadAt 47 (vP w.heap.size 0)) (vA (zK x)) (zD (vs:=zK x) (hBw1.all) (by rw [zW];kernel_rfl)) ?_)))))))
 refine zb (zi (some 9) (zhb x _) ?_)
 rintro _ w2 ⟨rfl,hEw2⟩
 have hzw2:=hEw2.size
 refine zd 1 [(4,(vI (zar x)))] (zg (zc (zf (ze (zd 1 [(10,(vI (zar x)))] (zb (zat (some 11) (((zar x:Nat):Int) !=((0:Nat):Int)) false (zaL (by omega)) ?_)))))))
 refine zg (zc (zr (zy (zc (zf (ze (zd 1 [(13,(vP w.heap.size 0))] (zb (zj (some 14) (Instr.loadAt 5 (vP w.heap.size 0)) (vB x.lv) (zo ((hBw1.ext hEw2).cell rfl)) ?_)))))))))
 refine zb (zi (some 15) (znv x.lv _) ?_)
 rintro _ _ ⟨rfl,rfl⟩
 rw [show min x.lv 1=1 from by omega]
 refine zd 1 [(5,(vI 1))] (zg (zc (zf (ze (zd 1 [(16,(vI 1))] (zb (zj (some 17) (Instr.indexAt 158 (vP 0 0) (vI 1)) (vP 0 1) (zX (E:=3) (sz:=1) (m:=2) (by omega)) ?_)))))))
 refine zb (zj (some 18) (Instr.loadAt 3 (vP 0 1)) (vI 33) (zo ((((hg0.ext hEw1)).ext hEw2).all.one 1 (vI 33) rfl)) ?_)
 refine zb (zv (some 19) .i64 (IntKind.i64.wrap (((4:Nat):Int)*((33:Nat):Int))) 132 (zG (by omega) (by omega) (by omega)) ?_)
 refine zb (zv (some 20) .i64 (IntKind.i64.wrap (((5:Nat):Int)+((132:Nat):Int))) 137 (zG (by omega) (by omega) (by omega)) ?_)
 refine zb (zcU (some 21) 57 5 1 1 0 137 .i64 .i64 (vB 0) (by omega) (by omega) (by omega) ?_)
 rw [zdZ _ rfl]
 intro w3 hBw3 hEw3
 have hzw3:=hEw3.size;have hlw3:=hBw3.lt
 refine zb (zt (some 6) (Instr.alloc 57 true (.tuple #[])) (vP w3.heap.size 0) ([(.slice none 0 0)]) 57 ?_)
 intro w4 hBw4 hEw4
 have hzw4:=hEw4.size;have hlw4:=hBw4.lt
 refine zb (zV 57 w3.heap.size 0 57 (.slice (pA w2.heap.size 0) 0 137) ([(.slice none 0 0)]) hBw4 (by first | decide |(simp;done)|(simp;omega)) ?_)
 intro w5 hBw5 hCw5
 have hzw5:=hCw5.size
 replace hBw5:=hBw5.set1
 refine zg (zc (zf (ze (zb (zj (some 22) (Instr.loadAt 57 (vP w3.heap.size 0)) (.slice (pA w2.heap.size 0) 0 137) (zo (hBw5.cell rfl)) ?_)))))
 refine zd 1 [(23,(vP w.heap.size 0))] ?_
 have hK1:=(((((((hBw1.ext hEw2)).ext hEw3)).ext hEw4)).chg hCw5 (fun hs=>by have h:_=_:=hs;omega))
 refine zb (zj (some 24) (Instr.loadAt 5 (vP w.heap.size 0)) (vB x.lv) (zo (hK1.cell rfl)) ?_)
 refine zb (zt (some 25) (Instr.buildSlice 57 1 #[(0,(vB x.lv))]) (.slice (pA w5.heap.size 0) 1 1) [(vB x.lv)] 5 ?_)
 intro w6 hBw6 hEw6
 have hzw6:=hEw6.size;have hlw6:=hBw6.lt
 have hSw6:Bs w5.heap.size (w5.heap.size+1) w6 (pA w5.heap.size 0) 1 1 [UInt8.ofNat x.lv]:=Bs.of_blk hBw6 (zcb x.hlv) rfl (Nat.le_refl _) (by decide) (Nat.le_refl _) (Nat.lt_succ_self _)
 have hK2:=(((((hBw3.ext hEw4)).chg hCw5 (fun hs=>by have h:_=_:=hs;omega))).ext hEw6)
 have hZw2:Blk w6 w2.heap.size (u8s []++List.replicate 137 (vB 0)) 5:=hK2
 refine zb (zb5 (some 26) 57 57 5 1 w2.heap.size 0 137 ⟨w5.heap.size,0,none⟩ 1 1 hZw2 hSw6.sla (by rw [zaK,←hSw6.len_eq,Nat.mul_one]) (zcm _) (by rw [List.length_append,zaK,(show ([]:List UInt8).length=0 from rfl),List.length_replicate,Nat.mul_one];omega) ?_ (by omega))
 intro w7 hBw7 hCw7
 have hzw7:=hCw7.size
 rw [zeG (show ([]:List UInt8).length=0 from rfl) hSw6.len_eq.symm (by omega)] at hBw7
 rw [show 137-1=136 from rfl] at hBw7
 have hLw7:([]++([UInt8.ofNat x.lv])).length=0+1:=by rw [List.length_append,(show ([]:List UInt8).length=0 from rfl),←hSw6.len_eq]
 rw [show 0+1=1 from rfl]
 rw [show 0+1=1 from rfl] at hLw7
 refine zb (zV 57 w3.heap.size 0 57 (.slice (pA w2.heap.size 0) 1 137) ([(.slice (pA w2.heap.size 0) 0 137)]) (((hBw5.ext hEw6)).chg hCw7 (fun hs=>by have h:_=_:=hs;omega)) (by first | decide |(simp;done)|(simp;omega)) ?_)
 intro w8 hBw8 hCw8
 have hzw8:=hCw8.size
 replace hBw8:=hBw8.set1
 refine zg (zc (zf (zag (Chg (fun k=>k=w3.heap.size∨k=w2.heap.size) w8.drew) 6 [(28,64,0),(29,2,0),(30,268435456,2),(31,536870912,4),(32,1207959552,9),(0,2147483712,31)] (fun hT266=> ?_))))
 have hEw9:Ext w8 w8.drew:=Ext.drew w8
 generalize w8.drew=w9 at hEw9⊢
 have hzw9:=hEw9.size
 have hX1:Chg (fun k=>k=w3.heap.size∨k=w2.heap.size) w9 w9:=(Chg.refl (fun k=>k=w3.heap.size∨k=w2.heap.size) w9)
 refine zk (hw:=hX1) hT266 [(1,28,(vP w.heap.size 1))] 1 2 ?_
 have hK3:=(((((((hK1.ext hEw6)).chg hCw7 (fun hs=>by have h:_=_:=hs;omega))).chg hCw8 (fun hs=>by have h:_=_:=hs;omega))).ext hEw9)
 refine zh (hw:=hX1) hT266 2 6 (some 29) (vW x.ix) (zl (Instr.loadAt 28 (vP w.heap.size 1)) (fun w' hC=>zo ((hK3.chg hC (fun hs=>by rcases hs with hs | hs<;>omega)).cell rfl))) (zay 0 3 7 14 ?_ ?_)
 ·refine zj (some 27) (Instr.loadAt 57 (vP w3.heap.size 0)) (.slice (pA w2.heap.size 0) 1 137) (zo ((hBw8.ext hEw9).cell rfl)) (⟨.inr hX1, ?_⟩)
  refine zn 3 15 (zi (some 30) (zd6 x.ix _ (by omega)) ?_)
  rintro _ w10 ⟨a1,rfl,hFz3_0,hEw10⟩
  have hzw10:=hEw10.size
  have hX2:Chg (fun k=>k=w3.heap.size∨k=w2.heap.size) w9 w10:=((Chg.refl (fun k=>k=w3.heap.size∨k=w2.heap.size) w9).trans hEw10.chg)
  refine ⟨.inr hX2, ?_⟩
  obtain ⟨b1,o1,rfl⟩:=hFz3_0.addr (by omega)
  have hK4:=((((((hBw7).chg hCw8 (fun hs=>by have h:_=_:=hs;omega))).ext hEw9)).ext hEw10)
  refine zn 4 31 (zb5 (some 31) 57 57 5 1 w2.heap.size 1 137 ⟨b1,o1,none⟩ 4 4 hK4 hFz3_0.sla (by rw [zaK,←hFz3_0.len_eq,Nat.mul_one]) (zcm _) (by rw [List.length_append,zaK,hLw7,List.length_replicate,Nat.mul_one];omega) ?_ (by omega))
  intro w11 hBw11 hCw11
  have hzw11:=hCw11.size
  rw [zeG hLw7 hFz3_0.len_eq.symm (by omega)] at hBw11
  rw [show 136-4=132 from rfl] at hBw11
  have hLw11:([]++([UInt8.ofNat x.lv])++(be x.ix 4)).length=1+4:=by rw [List.length_append,hLw7,←hFz3_0.len_eq]
  rw [show 1+4=5 from rfl]
  rw [show 1+4=5 from rfl] at hLw11
  have hX3:Chg (fun k=>k=w3.heap.size∨k=w2.heap.size) w9 w11:=(Chg.then ((Chg.refl (fun k=>k=w3.heap.size∨k=w2.heap.size) w9).trans hEw10.chg) hCw11 (fun k hk hs=>by have h:k=_:=hs;first | exact hs | exact .inl h | exact .inr h |(exfalso;omega)))
  refine ⟨.inr hX3, ?_⟩
  have hK5:=(((((hBw8.ext hEw9)).ext hEw10)).chg hCw11 (fun hs=>by have h:_=_:=hs;omega))
  refine zn 5 63 (zV 57 w3.heap.size 0 57 (.slice (pA w2.heap.size 0) 5 137) ([(.slice (pA w2.heap.size 0) 1 137)]) hK5 (by first | decide |(simp;done)|(simp;omega)) ?_)
  have hK6:=(((((hBw8.ext hEw9)).ext hEw10)).chg hCw11 (fun hs=>by have h:_=_:=hs;omega))
  intro w12 hBw12 hCw12
  have hzw12:=hCw12.size
  replace hBw12:=hBw12.set1
  refine ⟨.inl (by kernel_rfl), ?_⟩
  refine zJ (zc (zf (ze (zd 1 [(32,(.func (.func 84) #[] #[(vP w3.heap.size 0)]))] (zb (zt (some 7) (Instr.alloc 159 true (.tuple #[])) (vP w12.heap.size 0) ([.nilFunc]) 159 ?_))))))
  intro w13 hBw13 hEw13
  have hzw13:=hEw13.size;have hlw13:=hBw13.lt
  refine zb (zV 159 w12.heap.size 0 159 (.func (.func 84) #[] #[(vP w3.heap.size 0)]) ([.nilFunc]) hBw13 (by first | decide |(simp;done)|(simp;omega)) ?_)
  intro w14 hBw14 hCw14
  have hzw14:=hCw14.size
  replace hBw14:=hBw14.set1
  refine zg (zc (zf (zf (ze (zd 1 [(33,(vI 1))] (zb (zat (some 34) (((1:Nat):Int)==((0:Nat):Int)) false (zbW (by omega)) ?_)))))))
  refine zg (zc (zr (ze (zd 1 [(39,(vP w.heap.size 142))] ?_))))
  have hK7:=(((((((((hK3.ext hEw10)).chg hCw11 (fun hs=>by have h:_=_:=hs;omega))).chg hCw12 (fun hs=>by have h:_=_:=hs;omega))).ext hEw13)).chg hCw14 (fun hs=>by have h:_=_:=hs;omega))
  refine zb (zj (some 40) (Instr.loadAt 45 (vP w.heap.size 142)) (vA (e4C x.es)) (zD (vs:=e4C x.es) (hK7.at 142 (e4C x.es) (zeK _)) (by rw [zdg];kernel_rfl)) ?_)
  refine zd 1 [(41,(.func (.func 89) #[] #[(vP w12.heap.size 0)]))] ?_
  have hK8:=((((((hBw11).chg hCw12 (fun hs=>by have h:_=_:=hs;omega))).ext hEw13)).chg hCw14 (fun hs=>by have h:_=_:=hs;omega))
  refine zb (zi (some 42) (zjB x.es _ (((hBw12.ext hEw13)).chg hCw14 (fun hs=>by have h:_=_:=hs;omega)) hK8 hLw11 rfl (by decide) (by omega) hBw14 (by omega) (by omega) (zff hp0 hp1) (by omega)) ?_)
  rintro _ w15 ⟨rfl,hRw15,hPw15,hQw15,hCw15⟩
  have hzw15:=hCw15.size
  refine zg (zc (zf (ze (zb (zj (some 43) (Instr.loadAt 57 (vP w3.heap.size 0)) (.slice (pA w2.heap.size 0) 137 137) (zo (hPw15.cell rfl)) ?_)))))
  refine zd 2 [(3,(vI 0)),(2,(.slice (pA w2.heap.size 0) 137 137))] (zg (zc (zx (zB (.tuple #[(.slice (pA w2.heap.size 0) 137 137),(vI 0)]) ?_))))
  have hX4:Ext w w15:=(Ext.ownS (Ext.own ((Ext.own (Ext.own (((Ext.own (Ext.own ((Ext.own (((hEw1.trans hEw2).trans hEw3).trans hEw4) hCw5 (by omega)).trans hEw6) hCw7 (by omega)) hCw8 (by omega)).trans hEw9).trans hEw10) hCw11 (by omega)) hCw12 (by omega)).trans hEw13) hCw14 (by omega)) hCw15 (fun k hs hk=>by rcases hs with hs | hs<;>omega))
  have hfin:=hQw15
  rw [show u8s ([]++([UInt8.ofNat x.lv])++(be x.ix 4)++zbc zbC (x.es.get) 4)++List.replicate (0) (vB 0)=u8s (zM x) from by rw [List.replicate_zero,List.append_nil];unfold zM;rw [if_neg hp1];simp [zdj]] at hfin
  exact ⟨_,rfl,by omega,hfin,by rw [zd3,if_neg hp1],by decide,hX4⟩
 ·refine zi (some 30) (zd6 x.ix _ (by omega)) ?_
  rintro _ w16 ⟨a2,rfl,hFz4_0,hEw16⟩
  have hzw16:=hEw16.size
  have hX5:Chg (fun k=>k=w3.heap.size∨k=w2.heap.size) w9 w16:=((Chg.refl (fun k=>k=w3.heap.size∨k=w2.heap.size) w9).trans hEw16.chg)
  refine ⟨.inr hX5, ?_⟩
  refine zn 0 15 (zj (some 27) (Instr.loadAt 57 (vP w3.heap.size 0)) (.slice (pA w2.heap.size 0) 1 137) (zo ((((hBw8.ext hEw9)).ext hEw16).cell rfl)) ?_)
  refine ⟨.inr hX5, ?_⟩
  obtain ⟨b2,o2,rfl⟩:=hFz4_0.addr (by omega)
  have hK9:=((((((hBw7).chg hCw8 (fun hs=>by have h:_=_:=hs;omega))).ext hEw9)).ext hEw16)
  refine zn 4 31 (zb5 (some 31) 57 57 5 1 w2.heap.size 1 137 ⟨b2,o2,none⟩ 4 4 hK9 hFz4_0.sla (by rw [zaK,←hFz4_0.len_eq,Nat.mul_one]) (zcm _) (by rw [List.length_append,zaK,hLw7,List.length_replicate,Nat.mul_one];omega) ?_ (by omega))
  intro w17 hBw17 hCw17
  have hzw17:=hCw17.size
  rw [zeG hLw7 hFz4_0.len_eq.symm (by omega)] at hBw17
  rw [show 136-4=132 from rfl] at hBw17
  have hLw17:([]++([UInt8.ofNat x.lv])++(be x.ix 4)).length=1+4:=by rw [List.length_append,hLw7,←hFz4_0.len_eq]
  rw [show 1+4=5 from rfl]
  rw [show 1+4=5 from rfl] at hLw17
  have hX6:Chg (fun k=>k=w3.heap.size∨k=w2.heap.size) w9 w17:=(Chg.then ((Chg.refl (fun k=>k=w3.heap.size∨k=w2.heap.size) w9).trans hEw16.chg) hCw17 (fun k hk hs=>by have h:k=_:=hs;first | exact hs | exact .inl h | exact .inr h |(exfalso;omega)))
  refine ⟨.inr hX6, ?_⟩
  have hK10:=(((((hBw8.ext hEw9)).ext hEw16)).chg hCw17 (fun hs=>by have h:_=_:=hs;omega))
  refine zn 5 63 (zV 57 w3.heap.size 0 57 (.slice (pA w2.heap.size 0) 5 137) ([(.slice (pA w2.heap.size 0) 1 137)]) hK10 (by first | decide |(simp;done)|(simp;omega)) ?_)
  have hK11:=(((((hBw8.ext hEw9)).ext hEw16)).chg hCw17 (fun hs=>by have h:_=_:=hs;omega))
  intro w18 hBw18 hCw18
  have hzw18:=hCw18.size
  replace hBw18:=hBw18.set1
  refine ⟨.inl (by kernel_rfl), ?_⟩
  refine zJ (zc (zf (ze (zd 1 [(32,(.func (.func 84) #[] #[(vP w3.heap.size 0)]))] (zb (zt (some 7) (Instr.alloc 159 true (.tuple #[])) (vP w18.heap.size 0) ([.nilFunc]) 159 ?_))))))
  intro w19 hBw19 hEw19
  have hzw19:=hEw19.size;have hlw19:=hBw19.lt
  refine zb (zV 159 w18.heap.size 0 159 (.func (.func 84) #[] #[(vP w3.heap.size 0)]) ([.nilFunc]) hBw19 (by first | decide |(simp;done)|(simp;omega)) ?_)
  intro w20 hBw20 hCw20
  have hzw20:=hCw20.size
  replace hBw20:=hBw20.set1
  refine zg (zc (zf (zf (ze (zd 1 [(33,(vI 1))] (zb (zat (some 34) (((1:Nat):Int)==((0:Nat):Int)) false (zbW (by omega)) ?_)))))))
  refine zg (zc (zr (ze (zd 1 [(39,(vP w.heap.size 142))] ?_))))
  have hK12:=(((((((((hK3.ext hEw16)).chg hCw17 (fun hs=>by have h:_=_:=hs;omega))).chg hCw18 (fun hs=>by have h:_=_:=hs;omega))).ext hEw19)).chg hCw20 (fun hs=>by have h:_=_:=hs;omega))
  refine zb (zj (some 40) (Instr.loadAt 45 (vP w.heap.size 142)) (vA (e4C x.es)) (zD (vs:=e4C x.es) (hK12.at 142 (e4C x.es) (zeK _)) (by rw [zdg];kernel_rfl)) ?_)
  refine zd 1 [(41,(.func (.func 89) #[] #[(vP w18.heap.size 0)]))] ?_
  have hK13:=((((((hBw17).chg hCw18 (fun hs=>by have h:_=_:=hs;omega))).ext hEw19)).chg hCw20 (fun hs=>by have h:_=_:=hs;omega))
  refine zb (zi (some 42) (zjB x.es _ (((hBw18.ext hEw19)).chg hCw20 (fun hs=>by have h:_=_:=hs;omega)) hK13 hLw17 rfl (by decide) (by omega) hBw20 (by omega) (by omega) (zff hp0 hp1) (by omega)) ?_)
  rintro _ w21 ⟨rfl,hRw21,hPw21,hQw21,hCw21⟩
  have hzw21:=hCw21.size
  refine zg (zc (zf (ze (zb (zj (some 43) (Instr.loadAt 57 (vP w3.heap.size 0)) (.slice (pA w2.heap.size 0) 137 137) (zo (hPw21.cell rfl)) ?_)))))
  refine zd 2 [(3,(vI 0)),(2,(.slice (pA w2.heap.size 0) 137 137))] (zg (zc (zx (zB (.tuple #[(.slice (pA w2.heap.size 0) 137 137),(vI 0)]) ?_))))
  have hX7:Ext w w21:=(Ext.ownS (Ext.own ((Ext.own (Ext.own (((Ext.own (Ext.own ((Ext.own (((hEw1.trans hEw2).trans hEw3).trans hEw4) hCw5 (by omega)).trans hEw6) hCw7 (by omega)) hCw8 (by omega)).trans hEw9).trans hEw16) hCw17 (by omega)) hCw18 (by omega)).trans hEw19) hCw20 (by omega)) hCw21 (fun k hs hk=>by rcases hs with hs | hs<;>omega))
  have hfin:=hQw21
  rw [show u8s ([]++([UInt8.ofNat x.lv])++(be x.ix 4)++zbc zbC (x.es.get) 4)++List.replicate (0) (vB 0)=u8s (zM x) from by rw [List.replicate_zero,List.append_nil];unfold zM;rw [if_neg hp1];simp [zdj]] at hfin
  exact ⟨_,rfl,by omega,hfin,by rw [zd3,if_neg hp1],by decide,hX7⟩
theorem zra (x:Nod) (w:World) (hp0:zar x=0) (hg0:Gl 0 [vI 45,vI 33] w):
  Calls Tryz.prog 62 #[(vA (zK x))] w (Ret fun r w'=>∃a0,r=(.tuple #[(.slice (pA a0 0) (zbx x) (zbx x)),(vI 0)])∧w.heap.size≤a0∧Blk w' a0 (u8s (zM x)) 5∧zbx x=(zM x).length∧zbx x≤1099511627776∧Ext w w'):=by
 by_cases h:x.lv=0
 ·rw [show zbx x=185 from if_pos h];exact zoM x w hp0 h hg0
 ·rw [show zbx x=137 from if_neg h];exact zpf x w hp0 h hg0
end Go.Proofs.YtgdpdnokcnhgnaaGreatDoor
namespace Go.Proofs.YtgdpdnokcnhgnaaGreatDoor
open Go Go.RowKit Go.Cs
set_option maxRecDepth 100000
theorem zkO (n:Nat) (x:Nod) (w:World) (hp0:1≤n) (hp1:n≤4096):
  Calls Tryz.prog 69 #[(vI n),(vA (zK x))] w (Ret fun r w'=>r=(vI (zbE n x))∧Ext w w'):=by
 refine zL (n:=52) (σ:= [(0,(vI n)),(1,(vA (zK x)))]) Tryz.func69 rfl ?_
 have hlvx:=x.hlv
 have hixx:=x.hix
 have hcl:=zkX x
 have h5:=zaz n
 refine zf (ze (zb (zt (some 3) (Instr.box 47 (vA (zK x))) (vP w.heap.size 0) (zK x) 47 ?_)))
 intro w1 hBw1 hEw1
 have hzw1:=hEw1.size;have hlw1:=hBw1.lt
 refine zd 1 [(4,(vI 0))] (zg (zc (zf (zf (ze (zd 1 [(10,(vI n))] (zb (zi (some 11) (zkQ n _ (by omega) (by omega)) ?_))))))))
 rintro _ _ ⟨rfl,rfl⟩
 refine zd 1 [(5,(vI 0))] (zg (zc (zf (ze (zd 2 [(13,vF),(12,(vI 0))] (zg (zc (zr (zy ?_)))))))))
 refine zc (zf (zf (ze (zb (zj (some 15) (Instr.loadAt 47 (vP w.heap.size 0)) (vA (zK x)) (zD (vs:=zK x) (hBw1.all) (by rw [zW];kernel_rfl)) ?_)))))
 refine zb (zi (some 16) (zhb x _) ?_)
 rintro _ w2 ⟨rfl,hEw2⟩
 have hzw2:=hEw2.size
 refine zd 1 [(6,(vI (zar x)))] (zg (zc (zf (ze (zd 1 [(17,(vI (zar x)))] (zb (zO (some 18) ((((zar x:Nat):Int) !=((0:Nat):Int))) (fun hc18=> ?_) (fun hc18=> ?_))))))))
 ·replace hc18:¬(zar x=0):=by have:=zbY hc18;omega
  refine zg (zc (zF (zf (ze (zd 2 [(4,(vI (zar x))),(19,(vI (zar x)))] (zg (zc (zx (zu ?_)))))))))
  exact zB (vI (zar x)) (⟨congrArg (fun z:Nat=>vI z) (znB (by omega)),(hEw1.trans hEw2)⟩)
 ·replace hc18:zar x=0:=by have:=zbX hc18;omega
  refine zg (zc (zr (zy (zc (zf (ze (zd 2 [(22,(vP w.heap.size 0)),(21,(vI n))] (zb (zj (some 23) (Instr.loadAt 5 (vP w.heap.size 0)) (vB x.lv) (zo ((hBw1.ext hEw2).cell rfl)) ?_)))))))))
  refine zb (zv (some 24) .i64 (IntKind.i64.wrap ((x.lv:Nat):Int)) x.lv (zG rfl (by omega) (by omega)) ?_)
  refine zd 1 [(25,(vP w.heap.size 1))] (zb (zj (some 26) (Instr.loadAt 28 (vP w.heap.size 1)) (vW x.ix) (zo ((hBw1.ext hEw2).cell rfl)) ?_))
  refine zb (zv (some 27) .i64 (IntKind.i64.wrap ((x.ix:Nat):Int)) x.ix (zG rfl (by omega) (by omega)) ?_)
  rcases Classical.em (x.lv≤hgt n∧x.ix<cnt n x.lv) with hin | hin
  ·have hcn:=zcF n x.lv
   refine zb (zi (some 28) (zpM n x.lv x.ix _ (by first | omega |(simp only [Int.toNat_natCast];omega)) (by omega) (by omega) (by omega)) ?_)
   rintro _ w3 ⟨rfl,hEw3⟩
   have hzw3:=hEw3.size
   refine zd 5 [(8,(vI 0)),(7,(vI (prt n x.lv x.ix))),(30,(vI 0)),(29,(vI (prt n x.lv x.ix))),(20,(.tuple #[(vI (prt n x.lv x.ix)),(vI 0)]))] (zg (zc (zf (zf (ze (zd 2 [(32,vF),(31,(vI 0))] (zg (zc (zr ?_)))))))))
   refine zy (zc (zf (zf (ze (zd 2 [(9,(vI (prt n x.lv x.ix))),(33,(vI (prt n x.lv x.ix)))] (zg (zc (zI (zah (X:=Nat) (fun i=> [(9,(vI i))]) [4,34,35,36,37,38,39,40,41,42,43,44,45,46,47,48,49,50,51] (fun i w4=>prt n x.lv x.ix≤i∧i≤4∧(∀k,prt n x.lv x.ix≤k→k<i→(x.rs.get k).eqb Rec.zero=true∧(x.es.get k).eqb Ent.zero=true)∧Ext w1 w4) (fun i=>4-i) (prt n x.lv x.ix) (by kernel_rfl) ⟨Nat.le_refl _,zdO _ _ _,fun k h1 h2=>absurd h1 (by omega),(hEw2.trans hEw3)⟩ ?_)))))))))
   rintro i dw4 w4 ⟨hpi,hi,hz,hEl⟩
   have hzl:=hEl.size
   refine zf (zf (ze (zd 1 [(34,(vI i))] (zb (zO (some 35) (decide (((i:Nat):Int)<((4:Nat):Int))) (fun hc35=> ?_) (fun hc35=> ?_))))))
   ·replace hc35:i<4:=by have:=zak hc35;omega
    refine zg (zc (zF (zy (zc (zf (zI (zf (ze (zd 2 [(39,(vP w.heap.size 2)),(38,(vI i))] ?_)))))))))
    refine zb (zj (some 40) (Instr.indexAt 42 (vP w.heap.size 2) (vI i)) (vP w.heap.size (2+i*35)) (zX (E:=33) (sz:=35) (m:=4) (by omega)) ?_)
    refine zb (zj (some 41) (Instr.loadAt 33 (vP w.heap.size (2+i*35))) (vA (zE (x.rs.get i))) (zD (vs:=zE (x.rs.get i)) ((hBw1.ext hEl).at (2+i*35) (zE (x.rs.get i)) (nod_r (by omega))) (by rw [zY];kernel_rfl)) ?_)
    refine zd 1 [(42,(vA (zE Rec.zero)))] ?_
    rcases Bool.eq_false_or_eq_true ((x.rs.get i).eqb Rec.zero) with hq43 | hq43
    ·refine zb (zj (some 43) (bo .neq 33 (.tmp 41) (.tmp 42) (vA (zE (x.rs.get i))) (vA (zE Rec.zero))) vF (zav (r:=true) (T:=33) ((zb8 (dd:=9997) (t:=33) (t8:=5) (tn:=31) (td:=23) (e:=5) (t32:=28) (t64:=29) (x.rs.get i) Rec.zero).trans (congrArg (fun b=>Result.ok b _) (show ((x.rs.get i).eqb Rec.zero)=true from hq43)))) ?_)
     refine zd 3 [(46,(vP w.heap.size 142)),(45,(vI i)),(44,vF)] (zb (zj (some 47) (Instr.indexAt 45 (vP w.heap.size 142) (vI i)) (vP w.heap.size (142+i*33)) (zX (E:=44) (sz:=33) (m:=4) (by omega)) ?_))
     refine zb (zj (some 48) (Instr.loadAt 44 (vP w.heap.size (142+i*33))) (vA (zai (x.es.get i))) (zD (vs:=zai (x.es.get i)) ((hBw1.ext hEl).at (142+i*33) (zai (x.es.get i)) (nod_e (by omega))) (by rw [zaS];kernel_rfl)) ?_)
     refine zd 1 [(49,(vA (zai Ent.zero)))] ?_
     rcases Bool.eq_false_or_eq_true ((x.es.get i).eqb Ent.zero) with hq50 | hq50
     ·refine zb (zj (some 50) (bo .neq 44 (.tmp 48) (.tmp 49) (vA (zai (x.es.get i))) (vA (zai Ent.zero))) vF (zav (r:=true) (T:=44) ((zdT (dd:=9997) (t:=44) (t8:=5) (td:=23) (e:=5) (x.es.get i) Ent.zero).trans (congrArg (fun b=>Result.ok b _) (show ((x.es.get i).eqb Ent.zero)=true from hq50)))) ?_)
      refine zd 1 [(51,vF)] (zg (zc (zr (zy (zp (zc (ze (zd 1 [(36,(vI i))] (zb (zv (some 37) .i64 (IntKind.i64.wrap (((i:Nat):Int)+((1:Nat):Int))) (i+1) (zG (by omega) (by omega) (by omega)) ?_))))))))))
      refine zd 1 [(9,(vI (i+1)))] (zg (zC (zS (i+1) ?_ ?_)))
      ·exact ⟨by omega,by omega,fun k h1 h2=>by rcases Nat.lt_or_ge k i with h3 | h3;exact hz k h1 h3;rw [show k=i by omega];exact ⟨hq43,hq50⟩,hEl⟩
      ·first | omega |(dsimp only;omega)
     ·refine zb (zj (some 50) (bo .neq 44 (.tmp 48) (.tmp 49) (vA (zai (x.es.get i))) (vA (zai Ent.zero))) vT (zav (r:=false) (T:=44) ((zdT (dd:=9997) (t:=44) (t8:=5) (td:=23) (e:=5) (x.es.get i) Ent.zero).trans (congrArg (fun b=>Result.ok b _) (show ((x.es.get i).eqb Ent.zero)=false from hq50)))) ?_)
      refine zd 1 [(51,vT)] (zg (zc (zF (zf (ze (zd 1 [(4,(vI 17))] (zg (zc (zx ?_)))))))))
      exact zA (zu (zu (zA (zu (zB (vI 17) (⟨congrArg (fun z:Nat=>vI z) (by rw [zfq (by omega) hin,znS hpi (by omega) hq50];rfl),(hEw1.trans hEl)⟩))))))
    ·refine zb (zj (some 43) (bo .neq 33 (.tmp 41) (.tmp 42) (vA (zE (x.rs.get i))) (vA (zE Rec.zero))) vT (zav (r:=false) (T:=33) ((zb8 (dd:=9997) (t:=33) (t8:=5) (tn:=31) (td:=23) (e:=5) (t32:=28) (t64:=29) (x.rs.get i) Rec.zero).trans (congrArg (fun b=>Result.ok b _) (show ((x.rs.get i).eqb Rec.zero)=false from hq43)))) ?_)
     refine zd 8 [(51,vT),(50,undef),(49,undef),(48,undef),(47,undef),(46,undef),(45,undef),(44,vT)] (zg (zc (zF (zf (ze (zd 1 [(4,(vI 17))] (zg (zc (zx ?_)))))))))
     exact zA (zu (zu (zA (zu (zB (vI 17) (⟨congrArg (fun z:Nat=>vI z) (by rw [zfq (by omega) hin,znG hpi (by omega) hq43];rfl),(hEw1.trans hEl)⟩))))))
   ·replace hc35:¬(i<4):=by have:=zal hc35;omega
    refine zg (zc (zr (zaf (zH (zH (zT (zc (zf (ze ?_)))))))))
    refine zd 1 [(4,(vI 0))] (zg (zc (zx (zB (vI 0) ?_))))
    obtain rfl:i=4:=by omega
    exact ⟨congrArg (fun z:Nat=>vI z) (by rw [zfq (by omega) hin,if_pos (zex.2 hz)]),(hEw1.trans hEl)⟩
  ·refine zb (zi (some 28) (zlE ((n:Nat):Int) ((x.lv:Nat):Int) ((x.ix:Nat):Int) _ (by first | omega |(simp only [Int.toNat_natCast];omega))) ?_)
   rintro _ w5 ⟨rfl,hEw5⟩
   have hzw5:=hEw5.size
   refine zd 5 [(8,(vI 1)),(7,(vI 0)),(30,(vI 1)),(29,(vI 0)),(20,(.tuple #[(vI 0),(vI 1)]))] (zg (zc (zf (zf (ze (zd 2 [(32,vT),(31,(vI 1))] (zg (zc (zF ?_)))))))))
   exact zf (ze (zd 1 [(4,(vI 17))] (zg (zc (zx (zu (zB (vI 17) (⟨congrArg (fun z:Nat=>vI z) ((znO (by omega) hin).symm),((hEw1.trans hEw2).trans hEw5)⟩))))))))
end Go.Proofs.YtgdpdnokcnhgnaaGreatDoor
namespace Go.Proofs.YtgdpdnokcnhgnaaGreatDoor
open Go Go.RowKit Go.Cs
set_option maxRecDepth 100000
theorem zcT (x:UInt32) (k:Nat) (w:World) (hp0:1≤k) (hp1:k≤31):
  Calls Tryz.prog 123 #[(vW x.toNat),(vI k)] w (Ret fun r w'=>r=(vW ((rr x k).toNat))∧w=w'):=by
 refine zL (n:=9) (σ:= [(0,(vW x.toNat)),(1,(vI k))]) Tryz.func123 rfl ?_
 refine zf (ze (zd 1 [(4,(vW 0))] (zg (zc (zf (ze (zd 2 [(6,(vI k)),(5,(vW x.toNat))] (zb (zet (some 7) .i64 (IntKind.i64.wrap (0-((k:Nat):Int))) (-((k:Nat):Int)) (zG (by omega) (by omega) (by omega)) ?_)))))))))
 refine zb (zi (some 8) (zrJ x.toNat (-((k:Nat):Int)) _ (x.toNat_lt)) ?_)
 rintro _ _ ⟨rfl,rfl⟩
 refine zd 1 [(4,(vW (rot x.toNat (-((k:Nat):Int)))))] (zg (zc (zx (zB (vW (rot x.toNat (-((k:Nat):Int)))) ?_))))
 rw [zms];exact ⟨rfl,rfl⟩
theorem zae (x:UInt32) (k:Nat) (w:World) (hp0:1≤k) (hp1:k≤31):
  Calls Tryz.prog 107 #[(vW x.toNat),(vI k)] w (Ret fun r w'=>r=(vW ((rr x k).toNat))∧Ext w w'):=by
 refine zL (n:=13) (σ:= [(0,(vW x.toNat)),(1,(vI k))]) Tryz.func107 rfl ?_
 refine zf (ze (zd 1 [(4,(vW 0))] (zg (zc (zf (zag (Ext w.drew) 9 [(6,1,0),(7,2,0),(8,96,3),(9,1,0),(10,2,0),(11,512,16),(12,1280,40),(13,2176,68),(5,4096,255)] (fun hT18=> ?_)))))))
 have hEw1:Ext w w.drew:=Ext.drew w
 generalize w.drew=w1 at hEw1⊢
 have hzw1:=hEw1.size
 refine zk hT18 [(0,5,(vW x.toNat)),(1,6,(vI k))] 2 3 (zh hT18 2 7 (some 7) (vW (x.toNat/2^k)) (zl (do eqGuard .shr 28 (.tmp 5) (.tmp 6) (.int .u32 ((x.toNat:Nat):Int)) (.int .i64 ((k:Nat):Int));binOp .shr 28 (.int .u32 ((x.toNat:Nat):Int)) (.int .i64 ((k:Nat):Int))) (fun w' hC=>zij (by show _≤32;omega))) (zk hT18 [(3,8,(vW x.toNat)),(4,9,(vI k))] 2 31 (zh hT18 5 63 (some 10) (vI (32-k)) (zq .i64 (IntKind.i64.wrap (((32:Nat):Int)-((k:Nat):Int))) (zG (by omega) (by omega) (by omega))) (zh hT18 6 127 (some 11) (vW (x.toNat*2^(32-k)%2^32)) (zl (do eqGuard .shl 28 (.tmp 8) (.tmp 10) (.int .u32 ((x.toNat:Nat):Int)) (.int .i64 ((32-k:Nat):Int));binOp .shl 28 (.int .u32 ((x.toNat:Nat):Int)) (.int .i64 ((32-k:Nat):Int))) (fun w' hC=>zkv rfl (by show _≤32;omega))) (zh hT18 7 255 (some 12) (vW ((rr x k).toNat)) (zq .u32 ((IntKind.u32.wrap ((BitVec.ofInt IntKind.u32.bits ((x.toNat/2^k:Nat):Int)||| BitVec.ofInt IntKind.u32.bits ((x.toNat*2^(32-k)%2^32:Nat):Int)).toNat:Int))) ((orU .u32 rfl (by show _<2^32;exact Nat.lt_of_le_of_lt (Nat.div_le_self _ _) x.toNat_lt) (Nat.mod_lt _ (by decide))).trans (congrArg _ (zq4 x hp0 hp1)))) (zk hT18 [(8,4,(vW ((rr x k).toNat)))] 1 511 (zJ (zc (zx ?_)))))))))
 exact zB (vW ((rr x k).toNat)) (⟨rfl,hEw1⟩)
theorem zo9 (b:B64) (w:World):
  Calls Tryz.prog 122 #[(vA (zcf b))] w (Ret fun r w'=>r=(vA (zR (za b.l 64)))∧Ext w w'):=by
 refine zL (n:=72) (σ:= [(0,(vA (zcf b)))]) Tryz.func122 rfl ?_
 refine zf (ze (zb (zt (some 1) (Instr.box 184 (vA (zcf b))) (vP w.heap.size 0) (zcf b) 184 ?_)))
 intro w1 hBw1 hEw1
 have hzw1:=hEw1.size;have hlw1:=hBw1.lt
 refine zb (zt (some 2) (Instr.alloc 149 true (.tuple #[])) (vP w1.heap.size 0) (zR (WA.zero 64)) 149 ?_)
 intro w2 hBw2 hEw2
 have hzw2:=hEw2.size;have hlw2:=hBw2.lt
 refine zg (zc (zf (zf (ze (zd 1 [(9,(vI 0))] (zg (zc (zI (zah (X:=Nat) (fun i=> [(9,(vI i))]) [3,10,11,12,13,14,15,16,17,18,19,20,21,22,23,24,25,26,27] (fun i w3=>i≤16∧Blk w3 w.heap.size (zcf b) 184∧Blk w3 w1.heap.size (zR (za b.l i)) 149∧Ext w w3) (fun i=>16-i) 0 (by kernel_rfl) ⟨by omega,(hBw1.ext hEw2),hBw2,(hEw1.trans hEw2)⟩ ?_)))))))))
 rintro i dw3 w3 ⟨hi,hA,hB,hEl⟩
 have hzhEl:=hEl.size;have hlthA:=hA.lt;have hlthB:=hB.lt
 refine zf (ze (zb (zO (some 10) (decide (((i:Nat):Int)<((16:Nat):Int))) (fun hc10=> ?_) (fun hc10=> ?_))))
 ·replace hc10:i<16:=by have:=zak hc10;omega
  refine zg (zc (zf (zF (zy (zc (zf (zI (zf (ze ?_)))))))))
  refine zd 2 [(3,(vI i)),(11,(vI i))] (zg (zc (ze (zd 2 [(14,(vI i)),(13,(vI i))] (zb (zv (some 15) .i64 (IntKind.i64.wrap (((4:Nat):Int)*((i:Nat):Int))) (4*i) (zG (by omega) (by omega) (by omega)) ?_))))))
  refine zd 1 [(16,(vI i))] (zb (zv (some 17) .i64 (IntKind.i64.wrap (((4:Nat):Int)*((i:Nat):Int))) (4*i) (zG (by omega) (by omega) (by omega)) ?_))
  refine zb (zv (some 18) .i64 (IntKind.i64.wrap (((4*i:Nat):Int)+((4:Nat):Int))) (4*i+4) (zG (by omega) (by omega) (by omega)) ?_)
  refine zd 1 [(19,(vI i))] (zb (zv (some 20) .i64 (IntKind.i64.wrap (((4:Nat):Int)*((i:Nat):Int))) (4*i) (zG (by omega) (by omega) (by omega)) ?_))
  refine zb (zv (some 21) .i64 (IntKind.i64.wrap (((4*i:Nat):Int)+((4:Nat):Int))) (4*i+4) (zG (by omega) (by omega) (by omega)) ?_)
  refine zb (zj (some 22) (Instr.sliceAt 184 (vP w.heap.size 0) (some (vI (4*i))) (some (vI (4*i+4))) (some (vI (4*i+4)))) (.slice (pA w.heap.size (0+(4*i)*1)) (4*i+4-(4*i)) (4*i+4-(4*i))) (zgx (len:=64) (E:=5) (sz:=1) (l:=4*i) (r:=4*i+4) (m:=4*i+4) (.inr ⟨_,rfl⟩) (.inr ⟨_,rfl⟩) (.inr ⟨_,rfl⟩) (by simp) (by omega) (by omega) (by omega) (by omega)) ?_)
  have hSb:Bs w.heap.size (w.heap.size+1) w3 (pA w.heap.size (0+(4*i)*1)) (4*i+4-(4*i)) (4*i+4-(4*i)) ((b.l.drop (4*i)).take 4):=by have hq:=Bs.of_at (lo:=w.heap.size) (hi:=w.heap.size+1) (len:=4) (hA.at (4*i) (u8s ((b.l.drop (4*i)).take 4)) (zoh (by omega))) (hA).lt (by have:=b.h;simp;omega) (by decide) (by omega) (by omega);rw [show 4*i+4-4*i=4 from by omega,Nat.zero_add,Nat.mul_one];exact hq
  refine zb (zi (some 23) (zpk _ hSb) ?_)
  rintro _ _ ⟨rfl,rfl⟩
  rw [show zaH ((b.l.drop (4*i)).take 4) 4=(UInt32.ofNat (zaH ((b.l.drop (4*i)).take 4) 4)).toNat from by rw [UInt32.toNat_ofNat',Nat.mod_eq_of_lt (zcW _ 4)]]
  refine zd 3 [(25,(vI (zb7 ((b.l.drop (4*i)).take 4) 4))),(24,(vW ((UInt32.ofNat (zaH ((b.l.drop (4*i)).take 4) 4)).toNat))),(12,(.tuple #[(vW ((UInt32.ofNat (zaH ((b.l.drop (4*i)).take 4) 4)).toNat)),(vI (zb7 ((b.l.drop (4*i)).take 4) 4))]))] (zb (zj (some 26) (Instr.indexAt 149 (vP w1.heap.size 0) (vI i)) (vP w1.heap.size (0+i*1)) (zX (E:=28) (sz:=1) (m:=64) (by omega)) ?_))
  refine zb (zV 28 w1.heap.size (0+i*1) 149 (vW ((UInt32.ofNat (zaH ((b.l.drop (4*i)).take 4) 4)).toNat)) (zR (za b.l i)) hB (by first | decide |(simp;done)|(simp;omega)) ?_)
  intro w4 hBw4 hCw4
  have hzw4:=hCw4.size
  rw [show ((zR (za b.l i)).set (0+i*1) (vW ((UInt32.ofNat (zaH ((b.l.drop (4*i)).take 4) 4)).toNat)):List Value)=zR ((za b.l i).set i (UInt32.ofNat (zaH ((b.l.drop (4*i)).take 4) 4))) from zaC i (UInt32.ofNat (zaH ((b.l.drop (4*i)).take 4) 4))] at hBw4
  refine zg (zp (zc (ze (zb (zv (some 27) .i64 (IntKind.i64.wrap (((i:Nat):Int)+((1:Nat):Int))) (i+1) (zG (by omega) (by omega) (by omega)) ?_)))))
  refine zd 1 [(9,(vI (i+1)))] (zg (zC (zS (i+1) ?_ ?_)))
  ·exact ⟨by omega,((hA).chg hCw4 (fun hs=>by have h:_=_:=hs;omega)),by have hz:=hBw4;rwa [show (za b.l i).set i _=za b.l (i+1) from ziY (by omega) rfl] at hz,(Ext.own hEl hCw4 (by omega))⟩
  ·first | omega |(dsimp only;omega)
 ·replace hc10:¬(i<16):=by have:=zal hc10;omega
  refine zg (zc (zf (zr (zaf (zH (zH (zT (zc (zf ?_)))))))))
  refine zf (ze (zd 1 [(4,(vI 16))] (zg (zc (zI ?_)))))
  obtain rfl:i=16:=by omega
  refine zah (X:=Nat) (fun t=> [(4,(vI t))]) [5,6,7,8,28,29,30,31,32,33,34,35,36,37,38,39,40,41,42,43,44,45,46,47,48,49,50,51,52,53,54,55,56,57,58,59,60,61,62,63,64,65,66,67,68,69,70] (fun t w5=>16≤t∧t≤64∧Blk w5 w.heap.size (zcf b) 184∧Blk w5 w1.heap.size (zR (za b.l t)) 149∧Ext w w5) (fun t=>64-t) 16 (by kernel_rfl) ⟨by omega,by omega,hA,hB,hEl⟩ ?_
  rintro t dw5 w5 ⟨hlt,ht,hC,hD,hEm⟩
  have hzhEm:=hEm.size;have hlthC:=hC.lt;have hlthD:=hD.lt
  refine zf (zf (ze (zd 1 [(28,(vI t))] (zb (zO (some 29) (decide (((t:Nat):Int)<((64:Nat):Int))) (fun hc29=> ?_) (fun hc29=> ?_))))))
  ·replace hc29:t<64:=by have:=zak hc29;omega
   refine zg (zc (zF (zy (zc (zf (zI (zf (zag (Ext w5.drew) 10 [(33,16,0),(34,4294967296,1),(35,8589934596,2),(36,17179869184,4),(37,16,0),(38,68719476736,16),(39,137438953476,32),(40,274877906944,64),(6,34359738368,15),(7,549755813888,511)] (fun hT125=> ?_)))))))))
   have hEw6:Ext w5 w5.drew:=Ext.drew w5
   generalize w5.drew=w6 at hEw6⊢
   have hzw6:=hEw6.size
   refine zk hT125 [(0,32,(vI t))] 1 1 (zh hT125 1 3 (some 33) (vI (t-15)) (zq .i64 (IntKind.i64.wrap (((t:Nat):Int)-((15:Nat):Int))) (zG (by omega) (by omega) (by omega))) (zh hT125 2 7 (some 34) (vP w1.heap.size (0+(t-15)*1)) (zl (Instr.indexAt 149 (vP w1.heap.size 0) (vI (t-15))) (fun w' hC=>zX (E:=28) (sz:=1) (m:=64) (by omega))) (zh hT125 3 15 (some 35) (vW (((za b.l t).get (t-15)).toNat)) (zl (Instr.loadAt 28 (vP w1.heap.size (0+(t-15)*1))) (fun w' hC=>zo (((hD.ext hEw6).ext hC).cell (zaj (t-15) (by omega))))) (zk hT125 [(4,36,(vI t))] 1 31 (zh hT125 5 63 (some 37) (vI (t-2)) (zq .i64 (IntKind.i64.wrap (((t:Nat):Int)-((2:Nat):Int))) (zG (by omega) (by omega) (by omega))) (zh hT125 6 127 (some 38) (vP w1.heap.size (0+(t-2)*1)) (zl (Instr.indexAt 149 (vP w1.heap.size 0) (vI (t-2))) (fun w' hC=>zX (E:=28) (sz:=1) (m:=64) (by omega))) (zh hT125 7 255 (some 39) (vW (((za b.l t).get (t-2)).toNat)) (zl (Instr.loadAt 28 (vP w1.heap.size (0+(t-2)*1))) (fun w' hC=>zo (((hD.ext hEw6).ext hC).cell (zaj (t-2) (by omega))))) (zk hT125 [(8,5,(vW (((za b.l t).get (t-15)).toNat))),(9,6,(vW (((za b.l t).get (t-2)).toNat)))] 2 1023 (zJ ?_)))))))))
   refine zc (zf (ze (zd 1 [(40,(vW (((za b.l t).get (t-15)).toNat)))] (zb (zi (some 41) (zcT ((za b.l t).get (t-15)) 7 _ (by decide) (by decide)) ?_)))))
   rintro _ _ ⟨rfl,rfl⟩
   refine zd 1 [(42,(vW (((za b.l t).get (t-15)).toNat)))] (zb (zi (some 43) (zcT ((za b.l t).get (t-15)) 18 _ (by decide) (by decide)) ?_))
   rintro _ _ ⟨rfl,rfl⟩
   refine zb (zv (some 44) .u32 ((IntKind.u32.wrap ((BitVec.ofInt IntKind.u32.bits (((rr ((za b.l t).get (t-15)) 7).toNat:Nat):Int)^^^BitVec.ofInt IntKind.u32.bits (((rr ((za b.l t).get (t-15)) 18).toNat:Nat):Int)).toNat:Int))) (((rr ((za b.l t).get (t-15)) 7)^^^(rr ((za b.l t).get (t-15)) 18)).toNat) (zZ (rr ((za b.l t).get (t-15)) 7) (rr ((za b.l t).get (t-15)) 18)) ?_)
   refine zd 1 [(45,(vW (((za b.l t).get (t-15)).toNat)))] (zb (zv (some 46) .u32 (((((za b.l t).get (t-15)).toNat:Nat):Int).fdiv (2^3)) ((((za b.l t).get (t-15))>>>UInt32.ofNat 3).toNat) (zhL ((za b.l t).get (t-15)) 3 (by decide)) ?_))
   refine zb (zv (some 47) .u32 ((IntKind.u32.wrap ((BitVec.ofInt IntKind.u32.bits ((((rr ((za b.l t).get (t-15)) 7)^^^(rr ((za b.l t).get (t-15)) 18)).toNat:Nat):Int)^^^BitVec.ofInt IntKind.u32.bits (((((za b.l t).get (t-15))>>>UInt32.ofNat 3).toNat:Nat):Int)).toNat:Int))) ((((rr ((za b.l t).get (t-15)) 7)^^^(rr ((za b.l t).get (t-15)) 18))^^^(((za b.l t).get (t-15))>>>UInt32.ofNat 3)).toNat) (zZ ((rr ((za b.l t).get (t-15)) 7)^^^(rr ((za b.l t).get (t-15)) 18)) (((za b.l t).get (t-15))>>>UInt32.ofNat 3)) ?_)
   refine zd 1 [(7,(vW ((((rr ((za b.l t).get (t-15)) 7)^^^(rr ((za b.l t).get (t-15)) 18))^^^(((za b.l t).get (t-15))>>>UInt32.ofNat 3)).toNat)))] (zg (zc (zf (ze (zd 1 [(48,(vW (((za b.l t).get (t-2)).toNat)))] (zb (zi (some 49) (zcT ((za b.l t).get (t-2)) 17 _ (by decide) (by decide)) ?_)))))))
   rintro _ _ ⟨rfl,rfl⟩
   refine zd 1 [(50,(vW (((za b.l t).get (t-2)).toNat)))] (zb (zi (some 51) (zcT ((za b.l t).get (t-2)) 19 _ (by decide) (by decide)) ?_))
   rintro _ _ ⟨rfl,rfl⟩
   refine zb (zv (some 52) .u32 ((IntKind.u32.wrap ((BitVec.ofInt IntKind.u32.bits (((rr ((za b.l t).get (t-2)) 17).toNat:Nat):Int)^^^BitVec.ofInt IntKind.u32.bits (((rr ((za b.l t).get (t-2)) 19).toNat:Nat):Int)).toNat:Int))) (((rr ((za b.l t).get (t-2)) 17)^^^(rr ((za b.l t).get (t-2)) 19)).toNat) (zZ (rr ((za b.l t).get (t-2)) 17) (rr ((za b.l t).get (t-2)) 19)) ?_)
   refine zd 1 [(53,(vW (((za b.l t).get (t-2)).toNat)))] (zb (zv (some 54) .u32 (((((za b.l t).get (t-2)).toNat:Nat):Int).fdiv (2^10)) ((((za b.l t).get (t-2))>>>UInt32.ofNat 10).toNat) (zhL ((za b.l t).get (t-2)) 10 (by decide)) ?_))
   refine zb (zv (some 55) .u32 ((IntKind.u32.wrap ((BitVec.ofInt IntKind.u32.bits ((((rr ((za b.l t).get (t-2)) 17)^^^(rr ((za b.l t).get (t-2)) 19)).toNat:Nat):Int)^^^BitVec.ofInt IntKind.u32.bits (((((za b.l t).get (t-2))>>>UInt32.ofNat 10).toNat:Nat):Int)).toNat:Int))) ((((rr ((za b.l t).get (t-2)) 17)^^^(rr ((za b.l t).get (t-2)) 19))^^^(((za b.l t).get (t-2))>>>UInt32.ofNat 10)).toNat) (zZ ((rr ((za b.l t).get (t-2)) 17)^^^(rr ((za b.l t).get (t-2)) 19)) (((za b.l t).get (t-2))>>>UInt32.ofNat 10)) ?_)
   refine zd 1 [(8,(vW ((((rr ((za b.l t).get (t-2)) 17)^^^(rr ((za b.l t).get (t-2)) 19))^^^(((za b.l t).get (t-2))>>>UInt32.ofNat 10)).toNat)))] (zg (zc (zag (Ext w6.drew) 16 [(57,16,0),(58,256,0),(59,16,0),(60,288230376151711744,4),(61,576460752303423492,8),(62,1152921504606846976,16),(63,2449958197289549824,34),(64,128,0),(65,13835058055282163712,192),(66,16,0),(67,36893488147419103232,512),(68,73786976294838206468,1024),(69,147573952589676412928,2048),(70,313594649253062377472,4352),(71,72057594037927940,16383),(0,1770887431076116955136,32767)] (fun hT170=> ?_))))
   have hEw7:Ext w6 w6.drew:=Ext.drew w6
   generalize w6.drew=w7 at hEw7⊢
   have hzw7:=hEw7.size
   refine zk hT170 [(0,56,(vI t)),(1,57,(vW ((((rr ((za b.l t).get (t-2)) 17)^^^(rr ((za b.l t).get (t-2)) 19))^^^(((za b.l t).get (t-2))>>>UInt32.ofNat 10)).toNat))),(2,58,(vI t))] 3 7 (zh hT170 3 15 (some 59) (vI (t-7)) (zq .i64 (IntKind.i64.wrap (((t:Nat):Int)-((7:Nat):Int))) (zG (by omega) (by omega) (by omega))) (zh hT170 4 31 (some 60) (vP w1.heap.size (0+(t-7)*1)) (zl (Instr.indexAt 149 (vP w1.heap.size 0) (vI (t-7))) (fun w' hC=>zX (E:=28) (sz:=1) (m:=64) (by omega))) (zh hT170 5 63 (some 61) (vW (((za b.l t).get (t-7)).toNat)) (zl (Instr.loadAt 28 (vP w1.heap.size (0+(t-7)*1))) (fun w' hC=>zo (((((hD.ext hEw6)).ext hEw7).ext hC).cell (zaj (t-7) (by omega))))) (zh hT170 6 127 (some 62) (vW (((((rr ((za b.l t).get (t-2)) 17)^^^(rr ((za b.l t).get (t-2)) 19))^^^(((za b.l t).get (t-2))>>>UInt32.ofNat 10))+((za b.l t).get (t-7))).toNat)) (zq .u32 _ (zQ (((rr ((za b.l t).get (t-2)) 17)^^^(rr ((za b.l t).get (t-2)) 19))^^^(((za b.l t).get (t-2))>>>UInt32.ofNat 10)) ((za b.l t).get (t-7)))) (zk hT170 [(7,63,(vW ((((rr ((za b.l t).get (t-15)) 7)^^^(rr ((za b.l t).get (t-15)) 18))^^^(((za b.l t).get (t-15))>>>UInt32.ofNat 3)).toNat)))] 1 255 ?_)))))
   refine zh hT170 8 511 (some 64) (vW ((((((rr ((za b.l t).get (t-2)) 17)^^^(rr ((za b.l t).get (t-2)) 19))^^^(((za b.l t).get (t-2))>>>UInt32.ofNat 10))+((za b.l t).get (t-7)))+(((rr ((za b.l t).get (t-15)) 7)^^^(rr ((za b.l t).get (t-15)) 18))^^^(((za b.l t).get (t-15))>>>UInt32.ofNat 3))).toNat)) (zq .u32 _ (zQ ((((rr ((za b.l t).get (t-2)) 17)^^^(rr ((za b.l t).get (t-2)) 19))^^^(((za b.l t).get (t-2))>>>UInt32.ofNat 10))+((za b.l t).get (t-7))) (((rr ((za b.l t).get (t-15)) 7)^^^(rr ((za b.l t).get (t-15)) 18))^^^(((za b.l t).get (t-15))>>>UInt32.ofNat 3)))) (zk hT170 [(9,65,(vI t))] 1 1023 (zh hT170 10 2047 (some 66) (vI (t-16)) (zq .i64 (IntKind.i64.wrap (((t:Nat):Int)-((16:Nat):Int))) (zG (by omega) (by omega) (by omega))) (zh hT170 11 4095 (some 67) (vP w1.heap.size (0+(t-16)*1)) (zl (Instr.indexAt 149 (vP w1.heap.size 0) (vI (t-16))) (fun w' hC=>zX (E:=28) (sz:=1) (m:=64) (by omega))) (zh hT170 12 8191 (some 68) (vW (((za b.l t).get (t-16)).toNat)) (zl (Instr.loadAt 28 (vP w1.heap.size (0+(t-16)*1))) (fun w' hC=>zo (((((hD.ext hEw6)).ext hEw7).ext hC).cell (zaj (t-16) (by omega))))) ?_))))
   refine zh hT170 13 16383 (some 69) (vW (((((((rr ((za b.l t).get (t-2)) 17)^^^(rr ((za b.l t).get (t-2)) 19))^^^(((za b.l t).get (t-2))>>>UInt32.ofNat 10))+((za b.l t).get (t-7)))+(((rr ((za b.l t).get (t-15)) 7)^^^(rr ((za b.l t).get (t-15)) 18))^^^(((za b.l t).get (t-15))>>>UInt32.ofNat 3)))+((za b.l t).get (t-16))).toNat)) (zq .u32 _ (zQ (((((rr ((za b.l t).get (t-2)) 17)^^^(rr ((za b.l t).get (t-2)) 19))^^^(((za b.l t).get (t-2))>>>UInt32.ofNat 10))+((za b.l t).get (t-7)))+(((rr ((za b.l t).get (t-15)) 7)^^^(rr ((za b.l t).get (t-15)) 18))^^^(((za b.l t).get (t-15))>>>UInt32.ofNat 3))) ((za b.l t).get (t-16)))) (zh hT170 14 32767 (some 70) (vP w1.heap.size (0+t*1)) (zl (Instr.indexAt 149 (vP w1.heap.size 0) (vI t)) (fun w' hC=>zX (E:=28) (sz:=1) (m:=64) (by omega))) (zn 15 65535 (zV 28 w1.heap.size (0+t*1) 149 (vW (((((((rr ((za b.l t).get (t-2)) 17)^^^(rr ((za b.l t).get (t-2)) 19))^^^(((za b.l t).get (t-2))>>>UInt32.ofNat 10))+((za b.l t).get (t-7)))+(((rr ((za b.l t).get (t-15)) 7)^^^(rr ((za b.l t).get (t-15)) 18))^^^(((za b.l t).get (t-15))>>>UInt32.ofNat 3)))+((za b.l t).get (t-16))).toNat)) (zR (za b.l t)) (((hD.ext hEw6)).ext hEw7) (by first | decide |(simp;done)|(simp;omega)) ?_)))
   intro w8 hBw8 hCw8
   have hzw8:=hCw8.size
   rw [show ((zR (za b.l t)).set (0+t*1) (vW (((((((rr ((za b.l t).get (t-2)) 17)^^^(rr ((za b.l t).get (t-2)) 19))^^^(((za b.l t).get (t-2))>>>UInt32.ofNat 10))+((za b.l t).get (t-7)))+(((rr ((za b.l t).get (t-15)) 7)^^^(rr ((za b.l t).get (t-15)) 18))^^^(((za b.l t).get (t-15))>>>UInt32.ofNat 3)))+((za b.l t).get (t-16))).toNat)):List Value)=zR ((za b.l t).set t ((((((rr ((za b.l t).get (t-2)) 17)^^^(rr ((za b.l t).get (t-2)) 19))^^^(((za b.l t).get (t-2))>>>UInt32.ofNat 10))+((za b.l t).get (t-7)))+(((rr ((za b.l t).get (t-15)) 7)^^^(rr ((za b.l t).get (t-15)) 18))^^^(((za b.l t).get (t-15))>>>UInt32.ofNat 3)))+((za b.l t).get (t-16)))) from zaC t ((((((rr ((za b.l t).get (t-2)) 17)^^^(rr ((za b.l t).get (t-2)) 19))^^^(((za b.l t).get (t-2))>>>UInt32.ofNat 10))+((za b.l t).get (t-7)))+(((rr ((za b.l t).get (t-15)) 7)^^^(rr ((za b.l t).get (t-15)) 18))^^^(((za b.l t).get (t-15))>>>UInt32.ofNat 3)))+((za b.l t).get (t-16)))] at hBw8
   refine ⟨.inl (by kernel_rfl), ?_⟩
   refine zJ (zp (zc (ze (zd 1 [(30,(vI t))] (zb (zv (some 31) .i64 (IntKind.i64.wrap (((t:Nat):Int)+((1:Nat):Int))) (t+1) (zG (by omega) (by omega) (by omega)) ?_))))))
   refine zd 1 [(4,(vI (t+1)))] (zg (zC ?_))
   have hK1:=(((((hC.ext hEw6)).ext hEw7)).chg hCw8 (fun hs=>by have h:_=_:=hs;omega))
   have hX1:Ext w w8:=(Ext.own ((hEm.trans hEw6).trans hEw7) hCw8 (by omega))
   refine zS (t+1) ?_ ?_
   ·exact ⟨by omega,by omega,hK1,by have hz:=hBw8;rwa [show (za b.l t).set t _=za b.l (t+1) from zax (by omega) (by unfold zbk zbi;ac_rfl)] at hz,hX1⟩
   ·first | omega |(dsimp only;omega)
  ·replace hc29:¬(t<64):=by have:=zal hc29;omega
   refine zg (zc (zr (zaf (zH (zH (zT (zc (zf (ze ?_)))))))))
   refine zb (zj (some 71) (Instr.loadAt 149 (vP w1.heap.size 0)) (vA (zR (za b.l t))) (zD (vs:=zR (za b.l t)) (hD.all) (by rw [zcL];kernel_rfl)) ?_)
   refine zb (zz 149 w1.heap.size 0 149 (vA (zR (za b.l t))) (zR (za b.l t)) (zR (za b.l t)) hD (by rw [zcL];kernel_rfl) (by first |(simp;done)|(simp;omega)) (zeQ _) ?_)
   intro w9 hBw9 hCw9
   have hzw9:=hCw9.size
   rw [zm _ _ (by simp)] at hBw9
   refine zg (zc (zx (zbp (show zab Tryz.prog 72 _ _ (.cell 2 149) (vA (zR (za b.l t))) from ⟨⟨w1.heap.size,0,none⟩,(by kernel_rfl),zP (T:=149) (vs:=zR (za b.l t)) (hBw9).all (by rw [zcL];kernel_rfl)⟩) ?_)))
   obtain rfl:t=64:=by omega
   exact ⟨rfl,(Ext.own hEm hCw9 (by omega))⟩
end Go.Proofs.YtgdpdnokcnhgnaaGreatDoor
