/- Lemmas and walks: what each function does, by its own code. No condition beyond those of each statement. -/
import Derived.Test.YtkmhgepdhilllaaGreatDoorT2
import Derived.Test.YtkmhgepdhilllaaGreatDoorProg
set_option linter.all false
set_option linter.unusedVariables false
namespace Go.Proofs.YtkmhgepdhilllaaGreatDoor
open Go Go.RowKit Go.Cs
set_option maxRecDepth 100000
theorem zqc (v:Nat) (sz:Nat) (w:World) (hp0:sz≤8):
  Calls Tryz.prog 132 #[(vQ v),(vI sz)] w (Ret fun r w'=>∃a0,r=(.slice a0 sz sz)∧Bs w.heap.size w'.heap.size w' a0 sz sz (be v sz)∧Ext w w'):=by
 refine zI (n:=26) (σ:= [(0,(vQ v)),(1,(vI sz))]) Tryz.func132 rfl ?_
 refine ze (zd (zc 1 [(4,(.slice none 0 0))] (zf (zb (ze (zd (zc 1 [(7,(vI sz))] (za (zch (some 8) 23 5 1 1 sz sz .i64 .i64 (vB 0) (by omega) (by omega) (by omega) ?_)))))))))
 rw [zdA _ rfl]
 intro w1 hBw1 hEw1
 have hzw1:=hEw1.size;have hlw1:=hBw1.lt
 have hSw1:Bs w.heap.size (w.heap.size+1) w1 (pA w.heap.size 0) sz sz (List.replicate sz 0):=Bs.of_blk hBw1 (zeA _) (by simp) (Nat.le_refl _) (by simp only [maxLen];omega) (Nat.le_refl _) (Nat.lt_succ_self _)
 refine zc 1 [(5,(.slice (pA w.heap.size 0) sz sz))] (zf (zb (ze (ze (zd (zc 2 [(10,(vI 0)),(9,(vI sz))] (zf (zb (zy ?_)))))))))
 refine zY (X:=Nat) (fun i=> [(10,(vI i))]) [6,11,12,13,14,15,16,17,18,19,20,21,22,23,24] (fun i w2=>i≤sz∧Blk w2 w.heap.size (u8s (zcH sz (fun j=>decide (sz-1-j<i)) fun j=>UInt8.ofNat (v/256^(sz-1-j)))) 5∧Ext w w2) (fun i=>sz-i) 0 (by kernel_rfl) ⟨by omega,(by rw [zgP _ _ _ (by intro j hj;simp)];rw [←zeA];exact hBw1),hEw1⟩ ?_
 rintro i dw2 w2 ⟨hi,hBl,hEl⟩
 have hzl:=hEl.size;have hll:=hBl.lt
 refine ze (zd (za (zK (some 11) (decide (((i:Nat):Int)<((sz:Nat):Int))) (fun hc11=> ?_) (fun hc11=> ?_))))
 ·replace hc11:i<sz:=by have:=zaf hc11;omega
  refine zf (zb (ze (zC (zu (zb (ze (zy (ze (zd ?_)))))))))
  refine zc 2 [(6,(vI i)),(12,(vI i))] (zf (zb (zd (zc 2 [(14,(vI sz)),(13,(.slice (pA w.heap.size 0) sz sz))] (za (zt (some 15) .i64 (IntKind.i64.wrap (((sz:Nat):Int)-((1:Nat):Int))) (sz-1) (zA (by omega) (by omega) (by omega)) ?_))))))
  refine zc 1 [(16,(vI i))] (za (zt (some 17) .i64 (IntKind.i64.wrap (((sz-1:Nat):Int)-((i:Nat):Int))) (sz-1-i) (zA (by omega) (by omega) (by omega)) ?_))
  refine zc 2 [(19,(vI i)),(18,(vQ v))] (za (zt (some 20) .i64 (IntKind.i64.wrap (((8:Nat):Int)*((i:Nat):Int))) (8*i) (zA (by omega) (by omega) (by omega)) ?_))
  refine za (zj (some 21) (do eqGuard .shr 54 (.tmp 18) (.tmp 20) (.int .u64 ((v:Nat):Int)) (.int .i64 ((8*i:Nat):Int));binOp .shr 54 (.int .u64 ((v:Nat):Int)) (.int .i64 ((8*i:Nat):Int))) (vQ (v/2^(8*i))) (ziZ (by show _≤64;omega)) ?_)
  refine za (zt (some 22) .u8 (IntKind.u8.wrap ((v/2^(8*i):Nat):Int)) ((v/2^(8*i))%2^8) (zb2 rfl rfl) ?_)
  refine za (zj (some 23) (Instr.indexAt 23 (.slice (pA w.heap.size 0) sz sz) (vI (sz-1-i))) (vP w.heap.size (0+(sz-1-i)*1)) (zP (E:=5) (sz:=1) (by omega)) ?_)
  refine za (zah 5 w.heap.size (0+(sz-1-i)*1) 5 (vB ((v/2^(8*i))%2^8)) (u8s (zcH sz (fun j=>decide (sz-1-j<i)) fun j=>UInt8.ofNat (v/256^(sz-1-j)))) hBl (by simp;omega) ?_)
  intro w3 hBw3 hCw3
  have hzw3:=hCw3.size
  rw [show ((u8s (zcH sz (fun j=>decide (sz-1-j<i)) fun j=>UInt8.ofNat (v/256^(sz-1-j)))).set (0+(sz-1-i)*1) (vB ((v/2^(8*i))%2^8)):List Value)=u8s (zcH sz (fun j=>decide (sz-1-j<i+1)) fun j=>UInt8.ofNat (v/256^(sz-1-j))) from by have hx:=zhC sz (fun j=>decide (sz-1-j<i)) (fun j=>decide (sz-1-j<i+1)) (fun j=>UInt8.ofNat (v/256^(sz-1-j))) (sz-1-i) (UInt8.ofNat (v/2^(8*i))) (by omega) (by first |(rw [zgH];congr 3;omega)|(rw [zk3,show sz-1-(sz-1-i)=i from by omega])) (by intro j hj;by_cases h1:sz-1-j<i+1<;>by_cases h2:sz-1-j<i<;>by_cases h3:j=sz-1-i<;>simp [h1,h2,h3]<;>omega);rw [UInt8.toNat_ofNat'] at hx;first |(simpa only [Nat.zero_add,Nat.mul_one] using hx)|(rw [show v/256^i%256%2^8=v/256^i%256 from by omega] at hx;simpa only [Nat.zero_add,Nat.mul_one] using hx)] at hBw3
  refine zf (zp (zb (zd (za (zt (some 24) .i64 (IntKind.i64.wrap (((i:Nat):Int)+((1:Nat):Int))) (i+1) (zA (by omega) (by omega) (by omega)) ?_)))))
  refine zc 1 [(10,(vI (i+1)))] (zf (zF (zR (i+1) ?_ ?_)))
  ·exact ⟨by omega,hBw3,(Ext.own hEl hCw3 (by omega))⟩
  ·first | omega |(dsimp only;omega)
 ·replace hc11:¬(i<sz):=by have:=zae hc11;omega
  refine zf (zb (ze (zn (zW (zx (zx (zL (zb (ze ?_)))))))))
  refine zd (zc 2 [(4,(.slice (pA w.heap.size 0) sz sz)),(25,(.slice (pA w.heap.size 0) sz sz))] (zf (zb (zq (zr (.slice (pA w.heap.size 0) sz sz) (⟨_,rfl,Bs.of_blk hBl ?_ (by simp) (by omega) (by simp only [maxLen];omega) (by omega) (by omega),hEl⟩))))))
  rw [zhy _ _ _ (by intro j hj;simp;omega)];rfl
theorem zoj (v:Nat) (sz:Nat) (w:World) (hp0:sz≤8) (hp1:v<2^64):
  Calls Tryz.prog 126 #[(vQ v),(vI sz)] w (Ret fun r w'=>∃a0,r=(.slice (pA a0 0) sz sz)∧w.heap.size≤a0∧Blk w' a0 (u8s (be v sz)) 5∧sz=(be v sz).length∧sz≤1099511627776∧Ext w w'):=by
 refine zI (n:=24) (σ:= [(0,(vQ v)),(1,(vI sz))]) Tryz.func126 rfl ?_
 refine ze (zd (zc 1 [(4,(.slice none 0 0))] (zf (zb (ze (zd (zc 1 [(7,(vI sz))] (za (zch (some 8) 23 5 1 1 sz sz .i64 .i64 (vB 0) (by omega) (by omega) (by omega) ?_)))))))))
 rw [zdA _ rfl]
 intro w1 hBw1 hEw1
 have hzw1:=hEw1.size;have hlw1:=hBw1.lt
 have hSw1:Bs w.heap.size (w.heap.size+1) w1 (pA w.heap.size 0) sz sz (List.replicate sz 0):=Bs.of_blk hBw1 (zeA _) (by simp) (Nat.le_refl _) (by simp only [maxLen];omega) (Nat.le_refl _) (Nat.lt_succ_self _)
 refine zc 1 [(5,(.slice (pA w.heap.size 0) sz sz))] (zf (zb (ze (ze (zd (zc 1 [(9,(vI sz))] (za (zhp (some 10) .i64 (IntKind.i64.wrap (((sz:Nat):Int)-((1:Nat):Int))) ((sz:Int)-1) (zA rfl (by omega) (by omega)) ?_))))))))
 refine zc 1 [(6,(.int .i64 ((sz:Int)-1)))] (zf (zb (zy (zY (X:=Nat) (fun i=> [(0,(vQ (v/256^i))),(6,(.int .i64 ((sz:Int)-1-(i:Int))))]) [11,12,13,14,15,16,17,18,19,20,21,22] (fun i w2=>i≤sz∧Blk w2 w.heap.size (u8s (zcH sz (fun j=>decide (sz-1-j<i)) fun j=>UInt8.ofNat (v/256^(sz-1-j)))) 5∧Ext w w2) (fun i=>sz-i) 0 (by rw [Nat.pow_zero,Nat.div_one,show (sz:Int)-1-((0:Nat):Int)=(sz:Int)-1 from by omega];kernel_rfl) ⟨by omega,(by rw [zgP _ _ _ (by intro j hj;simp)];rw [←zeA];exact hBw1),hEw1⟩ ?_))))
 rintro i dw2 w2 ⟨hi,hBl,hEl⟩
 have hzl:=hEl.size;have hll:=hBl.lt
 refine ze (ze (zd (zc 1 [(11,(.int .i64 ((sz:Int)-1-(i:Int))))] (za (zK (some 12) (decide ((sz:Int)-1-(i:Int)≥((0:Nat):Int))) (fun hc=> ?_) (fun hc=> ?_))))))
 ·replace hc:i<sz:=by have:=zaf hc;omega
  have hidx:(sz:Int)-1-(i:Int)=((sz-1-i:Nat):Int):=by omega
  refine zf (zb (zC (zu (zb (ze (zy (ze (zd (zc 3 [(17,(vQ (v/256^i))),(16,(.int .i64 ((sz:Int)-1-(i:Int)))),(15,(.slice (pA w.heap.size 0) sz sz))] ?_)))))))))
  refine za (zt (some 18) .u64 (((v/256^i:Nat):Int).tmod ((256:Nat):Int)) ((v/256^i)%256) (zcF _ _) ?_)
  refine za (zt (some 19) .u8 (IntKind.u8.wrap (((v/256^i)%256:Nat):Int)) (((v/256^i)%256)%2^8) (zb2 rfl rfl) ?_)
  refine za (zj (some 20) (Instr.indexAt 23 (.slice (pA w.heap.size 0) sz sz) (.int .i64 ((sz:Int)-1-(i:Int)))) (vP w.heap.size (0+(sz-1-i)*1)) (by rw [hidx];exact zP (E:=5) (sz:=1) (by omega)) ?_)
  refine za (zah 5 w.heap.size (0+(sz-1-i)*1) 5 (vB (((v/256^i)%256)%2^8)) (u8s (zcH sz (fun j=>decide (sz-1-j<i)) fun j=>UInt8.ofNat (v/256^(sz-1-j)))) hBl (by simp;omega) ?_)
  intro w3 hBw3 hCw3
  have hzw3:=hCw3.size
  rw [show ((u8s (zcH sz (fun j=>decide (sz-1-j<i)) fun j=>UInt8.ofNat (v/256^(sz-1-j)))).set (0+(sz-1-i)*1) (vB (((v/256^i)%256)%2^8)):List Value)=u8s (zcH sz (fun j=>decide (sz-1-j<i+1)) fun j=>UInt8.ofNat (v/256^(sz-1-j))) from by have hx:=zhC sz (fun j=>decide (sz-1-j<i)) (fun j=>decide (sz-1-j<i+1)) (fun j=>UInt8.ofNat (v/256^(sz-1-j))) (sz-1-i) (UInt8.ofNat (v/256^i%256)) (by omega) (by first |(rw [zgH];congr 3;omega)|(rw [zk3,show sz-1-(sz-1-i)=i from by omega])) (by intro j hj;by_cases h1:sz-1-j<i+1<;>by_cases h2:sz-1-j<i<;>by_cases h3:j=sz-1-i<;>simp [h1,h2,h3]<;>omega);rw [UInt8.toNat_ofNat'] at hx;first |(simpa only [Nat.zero_add,Nat.mul_one] using hx)|(rw [show v/256^i%256%2^8=v/256^i%256 from by omega] at hx;simpa only [Nat.zero_add,Nat.mul_one] using hx)] at hBw3
  refine zf (zb (zd (zc 1 [(21,(vQ (v/256^i)))] (za (zt (some 22) .u64 (IntKind.u64.wrap ((((v/256^i:Nat):Int)).tdiv ((256:Nat):Int))) (v/256^(i+1)) (zbm rfl (by rw [zdP,Nat.div_div_eq_div_mul,Nat.pow_succ]) (by show _<2^64;exact Nat.lt_of_le_of_lt (Nat.div_le_self _ _) hp1)) ?_)))))
  refine zc 1 [(0,(vQ (v/256^(i+1))))] (zf (zp (zb (zd (zc 1 [(13,(.int .i64 ((sz:Int)-1-(i:Int))))] (za (zhp (some 14) .i64 (IntKind.i64.wrap ((sz:Int)-1-(i:Int)-((1:Nat):Int))) ((sz:Int)-1-((i+1:Nat):Int)) (zA (by omega) (by omega) (by omega)) ?_)))))))
  refine zc 1 [(6,(.int .i64 ((sz:Int)-1-((i+1:Nat):Int))))] (zf (zF (zR (i+1) ?_ ?_)))
  ·exact ⟨by omega,hBw3,(Ext.own hEl hCw3 (by omega))⟩
  ·first | omega |(dsimp only;omega)
 ·replace hc:¬i<sz:=by have:=zae hc;omega
  refine zf (zb (zn (zW (zx (zx (zL (zb (ze (zd ?_)))))))))
  refine zc 2 [(4,(.slice (pA w.heap.size 0) sz sz)),(23,(.slice (pA w.heap.size 0) sz sz))] (zf (zb (zq (zr (.slice (pA w.heap.size 0) sz sz) ?_))))
  have hBf:=hBl
  rw [zhy _ _ _ (by intro j hj;simp;omega)] at hBf
  exact ⟨_,rfl,Nat.le_refl _,hBf,by simp,by omega,hEl⟩
theorem zlM (v:Nat) (w:World):
  Calls Tryz.prog 136 #[(vQ v)] w (Ret fun r w'=>∃a0,r=(.slice a0 8 8)∧Bs w.heap.size w'.heap.size w' a0 8 8 (be v 8)∧Ext w w'):=by
 refine zI (n:=5) (σ:= [(0,(vQ v))]) Tryz.func136 rfl ?_
 refine ze (zd (zc 1 [(2,(.slice none 0 0))] (zf (zb (ze (zd (zc 1 [(3,(vQ v))] (za (zl (some 4) (zqc v 8 _ (by omega)) ?_)))))))))
 rintro _ w1 ⟨a1,rfl,hFz1_0,hEw1⟩
 have hzw1:=hEw1.size
 exact zc 1 [(2,(.slice a1 8 8))] (zf (zb (zq (zr (.slice a1 8 8) (⟨_,rfl,hFz1_0,hEw1⟩)))))
theorem zfn (v:Nat) (w:World) (hp0:v<2^32):
  Calls Tryz.prog 111 #[(vW v)] w (Ret fun r w'=>∃a0,r=(.slice a0 4 4)∧Bs w.heap.size w'.heap.size w' a0 4 4 (be v 4)∧Ext w w'):=by
 refine zI (n:=6) (σ:= [(0,(vW v))]) Tryz.func111 rfl ?_
 refine ze (zd (zc 1 [(2,(.slice none 0 0))] (zf (zb (ze (zd (zc 1 [(3,(vW v))] (za (zt (some 4) .u64 (IntKind.u64.wrap ((v:Nat):Int)) v (zbm rfl rfl (by show _<2^64;omega)) ?_)))))))))
 refine za (zl (some 5) (zqc v 4 _ (by omega)) ?_)
 rintro _ w1 ⟨a1,rfl,hFz1_0,hEw1⟩
 have hzw1:=hEw1.size
 exact zc 1 [(2,(.slice a1 4 4))] (zf (zb (zq (zr (.slice a1 4 4) (⟨_,rfl,hFz1_0,hEw1⟩)))))
theorem zkO (v:Nat) (w:World) (hp0:v<2^64):
  Calls Tryz.prog 99 #[(vQ v)] w (Ret fun r w'=>∃a0,r=(.slice (pA a0 0) 8 8)∧w.heap.size≤a0∧Blk w' a0 (u8s (be v 8)) 5∧8=(be v 8).length∧8≤1099511627776∧Ext w w'):=by
 refine zI (n:=5) (σ:= [(0,(vQ v))]) Tryz.func99 rfl ?_
 refine ze (zd (zc 1 [(2,(.slice none 0 0))] (zf (zb (ze (zd (zc 1 [(3,(vQ v))] (za (zl (some 4) (zoj v 8 _ (by omega) (by omega)) ?_)))))))))
 rintro _ w1 ⟨a1,rfl,hFz1_0,hFz1_1,hFz1_2,hFz1_3,hEw1⟩
 have hzw1:=hEw1.size
 have hla1:=hFz1_1.lt;have hna1:=hFz1_3
 have hSa1:Bs a1 (a1+1) w1 (pA a1 0) 8 8 (be v 8):=Bs.of_blk hFz1_1 rfl hFz1_2 (Nat.le_refl _) (zcd hna1) (Nat.le_refl _) (Nat.lt_succ_self _)
 exact zc 1 [(2,(.slice (pA a1 0) 8 8))] (zf (zb (zq (zr (.slice (pA a1 0) 8 8) (⟨_,rfl,by omega,hFz1_1,by simp,by omega,hEw1⟩)))))
theorem zjX (v:Nat) (w:World) (hp0:v<2^32):
  Calls Tryz.prog 102 #[(vW v)] w (Ret fun r w'=>∃a0,r=(.slice (pA a0 0) 4 4)∧w.heap.size≤a0∧Blk w' a0 (u8s (be v 4)) 5∧4=(be v 4).length∧4≤1099511627776∧Ext w w'):=by
 refine zI (n:=6) (σ:= [(0,(vW v))]) Tryz.func102 rfl ?_
 refine ze (zd (zc 1 [(2,(.slice none 0 0))] (zf (zb (ze (zd (zc 1 [(3,(vW v))] (za (zt (some 4) .u64 (IntKind.u64.wrap ((v:Nat):Int)) v (zbm rfl rfl (by show _<2^64;omega)) ?_)))))))))
 refine za (zl (some 5) (zoj v 4 _ (by omega) (by omega)) ?_)
 rintro _ w1 ⟨a1,rfl,hFz1_0,hFz1_1,hFz1_2,hFz1_3,hEw1⟩
 have hzw1:=hEw1.size
 have hla1:=hFz1_1.lt;have hna1:=hFz1_3
 have hSa1:Bs a1 (a1+1) w1 (pA a1 0) 4 4 (be v 4):=Bs.of_blk hFz1_1 rfl hFz1_2 (Nat.le_refl _) (zcd hna1) (Nat.le_refl _) (Nat.lt_succ_self _)
 exact zc 1 [(2,(.slice (pA a1 0) 4 4))] (zf (zb (zq (zr (.slice (pA a1 0) 4 4) (⟨_,rfl,by omega,hFz1_1,by simp,by omega,hEw1⟩)))))
theorem ztR {lo_l hi_l:Nat} {a_l:Option Addr} {n_l c_l:Nat} {l:List UInt8} (sz:Nat) (w:World) (h_l:Bs lo_l hi_l w a_l n_l c_l l) (hp0:sz≤8):
  Calls Tryz.prog 151 #[(.slice a_l n_l c_l),(vI sz)] w (Ret fun r w'=>r=(.tuple #[(vQ (zaO l sz)),(vI (zcs l sz))])∧w=w'):=by
 refine zI (n:=32) (σ:= [(0,(.slice a_l n_l c_l)),(1,(vI sz))]) Tryz.func151 rfl ?_
 replace h_l:=h_l.now;have hle_l:=h_l.le
 refine ze (zd (zc 2 [(5,(vI 0)),(4,(vQ 0))] (zf (zb (ze (zy (ze (zd (zc 3 [(12,(vI sz)),(11,(vI n_l)),(10,(.slice a_l n_l c_l))] ?_)))))))))
 refine za (zK (some 13) (decide (((n_l:Nat):Int)<((sz:Nat):Int))) (fun hc13=> ?_) (fun hc13=> ?_))
 ·replace hc13:n_l<sz:=by have:=zaf hc13;omega
  refine zc 1 [(9,vT)] (zf (zb (zC (ze (zd (zc 2 [(5,(vI 6)),(4,(vQ 0))] (zf (zb (zq ?_)))))))))
  exact zG (zD (zr (.tuple #[(vQ 0),(vI 6)]) (⟨by rw [zhf (by have:=h_l.len_eq;omega),zir (by have:=h_l.len_eq;omega)],rfl⟩)))
 ·replace hc13:¬(n_l<sz):=by have:=zae hc13;omega
  refine zc 1 [(9,vF)] (zf (zb (zn (ze (zd (zc 3 [(17,(vI sz)),(16,(vI n_l)),(15,(.slice a_l n_l c_l))] (za (zK (some 18) (decide (((n_l:Nat):Int)>((sz:Nat):Int))) (fun hc18=> ?_) (fun hc18=> ?_)))))))))
  ·replace hc18:n_l>sz:=by have:=zaf hc18;omega
   refine zc 1 [(14,vT)] (zf (zb (zC (ze (zd (zc 2 [(5,(vI 5)),(4,(vQ 0))] (zf (zb (zq ?_)))))))))
   exact zG (zD (zr (.tuple #[(vQ 0),(vI 5)]) (⟨by rw [zhf (by have:=h_l.len_eq;omega),zi6 (by have:=h_l.len_eq;omega)],rfl⟩)))
  ·replace hc18:¬(n_l>sz):=by have:=zae hc18;omega
   refine zc 1 [(14,vF)] (zf (zb (zn (zu (zp (zb (ze (zd (zc 1 [(6,(vQ 0))] ?_)))))))))
   refine zf (zb (ze (ze (zd (zc 3 [(21,(vI 0)),(20,(vI n_l)),(19,(.slice a_l n_l c_l))] (zf (zb (zy (zY (X:=Nat) (fun i=> [(6,(vQ (zbu (l.take i)))),(21,(vI i))]) [8,22,23,24,25,26,27,28,29,30] (fun i w1=>w=w1∧i≤sz) (fun i=>sz-i) 0 (by rw [List.take_zero];kernel_rfl) ⟨rfl,by omega⟩ ?_)))))))))
   rintro i dw1 w1 ⟨rfl,hi⟩
   have hlen:=h_l.len_eq
   refine ze (zd (za (zK (some 22) (decide (((i:Nat):Int)<((n_l:Nat):Int))) (fun hc22=> ?_) (fun hc22=> ?_))))
   ·replace hc22:i<n_l:=by have:=zaf hc22;omega
    have hb1:=zev l i
    have hb2:zbu (l.take i)*256+255<2^64:=zgG (by omega)
    refine zf (zb (ze (zC (zu (zb (ze (zy (ze (zd ?_)))))))))
    obtain ⟨b1,o1,rfl⟩:=h_l.addr (by omega)
    refine za (zj (some 23) (Instr.indexAt 23 (.slice (pA b1 o1) n_l c_l) (vI i)) (vP b1 (o1+i*1)) (zP (E:=5) (sz:=1) (by omega)) ?_)
    refine za (zj (some 24) (Instr.loadAt 5 (vP b1 (o1+i*1))) (vB (byt l i)) (zk (h_l.cell1 (by omega))) ?_)
    refine zc 1 [(8,(vB (byt l i)))] (zf (zb (zd (zc 1 [(25,(vQ (zbu (l.take i))))] (za (zt (some 26) .u64 (IntKind.u64.wrap (((zbu (l.take i):Nat):Int)*2^8)) (zbu (l.take i)*256) ((zsG rfl).trans (by rw [Nat.mod_eq_of_lt (show _<2^IntKind.u64.bits from by show _<2^64;omega)])) ?_))))))
    refine zc 1 [(27,(vB (byt l i)))] (za (zt (some 28) .u64 (IntKind.u64.wrap ((byt l i:Nat):Int)) (byt l i) (zbm rfl rfl (by show _<2^64;omega)) ?_))
    refine za (zt (some 29) .u64 ((IntKind.u64.wrap ((BitVec.ofInt IntKind.u64.bits ((zbu (l.take i)*256:Nat):Int)||| BitVec.ofInt IntKind.u64.bits ((byt l i:Nat):Int)).toNat:Int))) (zbu (l.take (i+1))) ((orU .u64 rfl (by show _<2^64;omega) (by show _<2^64;omega)).trans (by rw [zre _ _ hb1,zg4 (by omega)])) ?_)
    refine zc 1 [(6,(vQ (zbu (l.take (i+1)))))] (zf (zp (zb (zd (za (zt (some 30) .i64 (IntKind.i64.wrap (((i:Nat):Int)+((1:Nat):Int))) (i+1) (zA (by omega) (by omega) (by omega)) ?_))))))
    refine zc 1 [(21,(vI (i+1)))] (zf (zF (zR (i+1) ?_ ?_)))
    ·exact ⟨rfl,by omega⟩
    ·first | omega |(dsimp only;omega)
   ·replace hc22:¬(i<n_l):=by have:=zae hc22;omega
    refine zf (zb (ze (zn (zW (zx (zx (zL (zb (ze ?_)))))))))
    exact zd (zc 3 [(5,(vI 0)),(4,(vQ (zbu (l.take i)))),(31,(vQ (zbu (l.take i))))] (zf (zb (zq (zr (.tuple #[(vQ (zbu (l.take i))),(vI 0)]) (⟨by rw [zf6 (by have:=h_l.len_eq;omega),zhn (by have:=h_l.len_eq;omega),List.take_of_length_le (by omega)],rfl⟩))))))
theorem zsI {lo_l hi_l:Nat} {a_l:Option Addr} {n_l c_l:Nat} {l:List UInt8} (sz:Nat) (w:World) (h_l:Bs lo_l hi_l w a_l n_l c_l l) (hp0:sz≤8):
  Calls Tryz.prog 127 #[(.slice a_l n_l c_l),(vI sz)] w (Ret fun r w'=>r=(.tuple #[(vQ (zaO l sz)),(vI (zcs l sz))])∧w=w'):=by
 refine zI (n:=30) (σ:= [(0,(.slice a_l n_l c_l)),(1,(vI sz))]) Tryz.func127 rfl ?_
 replace h_l:=h_l.now;have hle_l:=h_l.le
 refine ze (zd (zc 2 [(5,(vI 0)),(4,(vQ 0))] (zf (zb (ze (ze (zd (zc 3 [(10,(vI sz)),(9,(vI n_l)),(8,(.slice a_l n_l c_l))] (za (zK (some 11) (decide (((n_l:Nat):Int)<((sz:Nat):Int))) (fun hc11=> ?_) (fun hc11=> ?_)))))))))))
 ·replace hc11:n_l<sz:=by have:=zaf hc11;omega
  refine zf (zb (zC (ze (zd (zc 2 [(5,(vI 6)),(4,(vQ 0))] (zf (zb (zq (zD ?_)))))))))
  exact zr (.tuple #[(vQ 0),(vI 6)]) (⟨by rw [zhf (by have:=h_l.len_eq;omega),zir (by have:=h_l.len_eq;omega)],rfl⟩)
 ·replace hc11:¬(n_l<sz):=by have:=zae hc11;omega
  refine zf (zb (zn (zu (zb (ze (ze (zd (zc 3 [(14,(vI sz)),(13,(vI n_l)),(12,(.slice a_l n_l c_l))] (za (zK (some 15) (decide (((n_l:Nat):Int)>((sz:Nat):Int))) (fun hc15=> ?_) (fun hc15=> ?_)))))))))))
  ·replace hc15:n_l>sz:=by have:=zaf hc15;omega
   refine zf (zb (zC (ze (zd (zc 2 [(5,(vI 5)),(4,(vQ 0))] (zf (zb (zq (zD ?_)))))))))
   exact zr (.tuple #[(vQ 0),(vI 5)]) (⟨by rw [zhf (by have:=h_l.len_eq;omega),zi6 (by have:=h_l.len_eq;omega)],rfl⟩)
  ·replace hc15:¬(n_l>sz):=by have:=zae hc15;omega
   refine zf (zb (zn (zu (zb (ze (zd (zc 1 [(6,(vQ 0))] (zf (zb ?_)))))))))
   refine ze (ze (zd (zc 1 [(7,(vI 0))] (zf (zb (zy (zY (X:=Nat) (fun i=> [(6,(vQ (zbu (l.take i)))),(7,(vI i))]) [16,17,18,19,20,21,22,23,24,25,26,27,28] (fun i w1=>w=w1∧i≤sz) (fun i=>sz-i) 0 (by rw [List.take_zero];kernel_rfl) ⟨rfl,by omega⟩ ?_)))))))
   rintro i dw1 w1 ⟨rfl,hi⟩
   have hlen:=h_l.len_eq
   refine ze (ze (zd (zc 2 [(17,(vI sz)),(16,(vI i))] (za (zK (some 18) (decide (((i:Nat):Int)<((sz:Nat):Int))) (fun hc18=> ?_) (fun hc18=> ?_))))))
   ·replace hc18:i<sz:=by have:=zaf hc18;omega
    have hb1:=zev l i
    have hb2:zbu (l.take i)*256+255<2^64:=zgG (by omega)
    refine zf (zb (zC (zu (zb (ze (zy (zd (zc 1 [(21,(vQ (zbu (l.take i))))] (za (zt (some 22) .u64 (IntKind.u64.wrap (((zbu (l.take i):Nat):Int)*((256:Nat):Int))) (zbu (l.take i)*256) (zbm rfl (by simp) (by show _<2^64;omega)) ?_))))))))))
    refine zc 2 [(24,(vI i)),(23,(.slice a_l n_l c_l))] ?_
    obtain ⟨b1,o1,rfl⟩:=h_l.addr (by omega)
    refine za (zj (some 25) (Instr.indexAt 23 (.slice (pA b1 o1) n_l c_l) (vI i)) (vP b1 (o1+i*1)) (zP (E:=5) (sz:=1) (by omega)) ?_)
    refine za (zj (some 26) (Instr.loadAt 5 (vP b1 (o1+i*1))) (vB (byt l i)) (zk (h_l.cell1 (by omega))) ?_)
    refine za (zt (some 27) .u64 (IntKind.u64.wrap ((byt l i:Nat):Int)) (byt l i) (zbm rfl rfl (by show _<2^64;omega)) ?_)
    refine za (zt (some 28) .u64 (IntKind.u64.wrap (((zbu (l.take i)*256:Nat):Int)+((byt l i:Nat):Int))) (zbu (l.take (i+1))) (zbm rfl (by rw [zg4 (by omega)];omega) (by rw [zg4 (by omega)];show _<2^64;omega)) ?_)
    refine zc 1 [(6,(vQ (zbu (l.take (i+1)))))] (zf (zp (zb (zd (zc 1 [(19,(vI i))] (za (zt (some 20) .i64 (IntKind.i64.wrap (((i:Nat):Int)+((1:Nat):Int))) (i+1) (zA (by omega) (by omega) (by omega)) ?_)))))))
    refine zc 1 [(7,(vI (i+1)))] (zf (zF (zR (i+1) ?_ ?_)))
    ·exact ⟨rfl,by omega⟩
    ·first | omega |(dsimp only;omega)
   ·replace hc18:¬(i<sz):=by have:=zae hc18;omega
    refine zf (zb (zn (zW (zx (zx (zL (zb (ze (zd ?_)))))))))
    exact zc 3 [(5,(vI 0)),(4,(vQ (zbu (l.take i)))),(29,(vQ (zbu (l.take i))))] (zf (zb (zq (zr (.tuple #[(vQ (zbu (l.take i))),(vI 0)]) (⟨by rw [zf6 (by have:=h_l.len_eq;omega),zhn (by have:=h_l.len_eq;omega),List.take_of_length_le (by omega)],rfl⟩)))))
theorem zrg {lo_l hi_l:Nat} {a_l:Option Addr} {n_l c_l:Nat} {l:List UInt8} (w:World) (h_l:Bs lo_l hi_l w a_l n_l c_l l):
  Calls Tryz.prog 149 #[(.slice a_l n_l c_l)] w (Ret fun r w'=>r=(.tuple #[(vW (zaO l 4)),(vI (zcs l 4))])∧w=w'):=by
 refine zI (n:=14) (σ:= [(0,(.slice a_l n_l c_l))]) Tryz.func149 rfl ?_
 replace h_l:=h_l.now;have hle_l:=h_l.le
 refine ze (zd (zc 2 [(3,(vI 0)),(2,(vW 0))] (zf (zb (ze (zd (zc 1 [(7,(.slice a_l n_l c_l))] (za (zl (some 8) (ztR 4 _ h_l (by first | omega | decide)) ?_)))))))))
 rintro _ _ ⟨rfl,rfl⟩
 refine zc 5 [(5,(vI (zcs l 4))),(4,(vQ (zaO l 4))),(10,(vI (zcs l 4))),(9,(vQ (zaO l 4))),(6,(.tuple #[(vQ (zaO l 4)),(vI (zcs l 4))]))] (zf (zb (ze (zd (zc 1 [(11,(vQ (zaO l 4)))] (za (zt (some 12) .u32 (IntKind.u32.wrap ((zaO l 4:Nat):Int)) (zaO l 4) (zbm rfl rfl (zdn l 4)) ?_)))))))
 exact zc 3 [(3,(vI (zcs l 4))),(2,(vW (zaO l 4))),(13,(vI (zcs l 4)))] (zf (zb (zq (zr (.tuple #[(vW (zaO l 4)),(vI (zcs l 4))]) (⟨rfl,rfl⟩)))))
end Go.Proofs.YtkmhgepdhilllaaGreatDoor
namespace Go.Proofs.YtkmhgepdhilllaaGreatDoor
open Go Go.RowKit Go.Cs
set_option maxRecDepth 100000
theorem zuZ (v:Nat) (k:Int) (w:World) (hp0:v<2^32):
  Calls Tryz.prog 152 #[(vW v),(.int .i64 k)] w (Ret fun r w'=>r=(vW (ze5 v (k%32).toNat))∧w=w'):=by
 refine zI (n:=17) (σ:= [(0,(vW v)),(1,(.int .i64 k))]) Tryz.func152 rfl ?_
 refine ze (zd (zc 1 [(4,(vW 0))] (zf (zb (ze (zd (zc 1 [(6,(.int .i64 k))] (za (zt (some 7) .u64 (IntKind.u64.wrap k) ((k%18446744073709551616).toNat) (zkp k) ?_)))))))))
 refine za (zt (some 8) .u64 ((IntKind.u64.wrap ((BitVec.ofInt IntKind.u64.bits (((k%18446744073709551616).toNat:Nat):Int)&&&BitVec.ofInt IntKind.u64.bits ((31:Nat):Int)).toNat:Int))) ((k%32).toNat) ((zvF .u64 rfl (by show _<2^64;omega) (by show _<2^64;omega)).trans (by rw [ztW])) ?_)
 refine zc 1 [(5,(vQ ((k%32).toNat)))] (zf (zb (ze (zd (zc 2 [(10,(vQ ((k%32).toNat))),(9,(vW v))] (za (zj (some 11) (do eqGuard .shl 53 (.tmp 9) (.tmp 10) (.int .u32 ((v:Nat):Int)) (.int .u64 (((k%32).toNat:Nat):Int));binOp .shl 53 (.int .u32 ((v:Nat):Int)) (.int .u64 (((k%32).toNat:Nat):Int))) (vW (v*2^((k%32).toNat)%2^32)) (zl6 rfl (by show _≤32;omega)) ?_)))))))
 refine zc 2 [(13,(vQ ((k%32).toNat))),(12,(vW v))] (za (zt (some 14) .u64 (IntKind.u64.wrap (((32:Nat):Int)-(((k%32).toNat:Nat):Int))) (32-(k%32).toNat) (zbm rfl (by omega) (by show _<2^64;omega)) ?_))
 refine za (zj (some 15) (do eqGuard .shr 53 (.tmp 12) (.tmp 14) (.int .u32 ((v:Nat):Int)) (.int .u64 ((32-(k%32).toNat:Nat):Int));binOp .shr 53 (.int .u32 ((v:Nat):Int)) (.int .u64 ((32-(k%32).toNat:Nat):Int))) (vW (v/2^(32-(k%32).toNat))) (ziZ (by show _≤32;omega)) ?_)
 refine za (zt (some 16) .u32 ((IntKind.u32.wrap ((BitVec.ofInt IntKind.u32.bits ((v*2^((k%32).toNat)%2^32:Nat):Int)||| BitVec.ofInt IntKind.u32.bits ((v/2^(32-(k%32).toNat):Nat):Int)).toNat:Int))) (ze5 v (k%32).toNat) (orU .u32 rfl (Nat.mod_lt _ (by decide)) (by show _<2^32;exact Nat.lt_of_le_of_lt (Nat.div_le_self _ _) hp0)) ?_)
 exact zc 1 [(4,(vW (ze5 v (k%32).toNat)))] (zf (zb (zq (zr (vW (ze5 v (k%32).toNat)) (⟨rfl,rfl⟩)))))
theorem zt5 (v:Nat) (n:Int) (w:World) (hp0:v<2^32):
  Calls Tryz.prog 150 #[(vW v),(.int .i64 n)] w (Ret fun r w'=>r=(vW (rot v n))∧w=w'):=by
 refine zI (n:=9) (σ:= [(0,(vW v)),(1,(.int .i64 n))]) Tryz.func150 rfl ?_
 refine ze (zd (zc 1 [(4,(vW 0))] (zf (zb (ze (zd (zc 2 [(6,(.int .i64 n)),(5,(vW v))] (za (zhp (some 7) .i64 (n.tmod ((32:Nat):Int)) (n.tmod 32) (rfl) ?_)))))))))
 refine za (zl (some 8) (zuZ v (n.tmod 32) _ (by omega)) ?_)
 rintro _ _ ⟨rfl,rfl⟩
 refine zc 1 [(4,(vW (ze5 v ((n.tmod 32)%32).toNat)))] (zf (zb (zq (zr (vW (ze5 v ((n.tmod 32)%32).toNat)) ?_))))
 have h32:=(zsA n).2.2
 rw [h32]
 exact ⟨rfl,rfl⟩
end Go.Proofs.YtkmhgepdhilllaaGreatDoor
namespace Go.Proofs.YtkmhgepdhilllaaGreatDoor
open Go Go.RowKit Go.Cs
set_option maxRecDepth 100000
theorem ziv {lo_ls hi_ls:Nat} {a_ls:Option Addr} {n_ls c_ls:Nat} {v_ls:List Value} {ls:List (List UInt8)} (w:World) (h_ls:Ps lo_ls hi_ls w a_ls n_ls c_ls v_ls ls) (hp0:zX ls≤1099511627776):
  Calls Tryz.prog 133 #[(.slice a_ls n_ls c_ls)] w (Ret fun r w'=>∃a0,r=(.slice (pA a0 0) (zX ls) (zX ls))∧w.heap.size≤a0∧Blk w' a0 (u8s ls.flatten) 5∧zX ls=(ls.flatten).length∧zX ls≤1099511627776∧Ext w w'):=by
 refine zI (n:=38) (σ:= [(0,(.slice a_ls n_ls c_ls))]) Tryz.func133 rfl ?_
 replace h_ls:=h_ls.now;have hle_ls:=h_ls.le
 refine ze (zd (zc 1 [(2,(.slice none 0 0))] (zf (zb (ze (zd (zc 1 [(3,(vI 0))] (zf (zb ?_)))))))))
 refine ze (ze (zd (zc 3 [(12,(vI 0)),(11,(vI n_ls)),(10,(.slice a_ls n_ls c_ls))] (zf (zb (zy (zY (X:=Nat) (fun i=> [(3,(vI (zX (ls.take i)))),(12,(vI i))]) [5,13,14,15,16,17,18,19,20] (fun i w1=>w=w1∧i≤n_ls) (fun i=>n_ls-i) 0 (by rw [List.take_zero];kernel_rfl) ⟨rfl,by omega⟩ ?_)))))))
 rintro i dw1 w1 ⟨rfl,hi⟩
 have hlen:=h_ls.len_eq
 have hsl:=zen ls i
 have hsl1:=zen ls (i+1)
 refine ze (zd (za (zK (some 13) (decide (((i:Nat):Int)<((n_ls:Nat):Int))) (fun hc13=> ?_) (fun hc13=> ?_))))
 ·replace hc13:i<n_ls:=by have:=zaf hc13;omega
  have hst:=zeS (ls:=ls) (i:=i) (by omega)
  refine zf (zb (ze (zC (zu (zb (ze (zy (ze (zd ?_)))))))))
  obtain ⟨b1,o1,rfl⟩:=h_ls.addr (by omega)
  refine za (zj (some 14) (Instr.indexAt 190 (.slice (pA b1 o1) n_ls c_ls) (vI i)) (vP b1 (o1+i*1)) (zP (E:=23) (sz:=1) (by omega)) ?_)
  obtain ⟨a1,n1,cp1,hP1,hS1⟩:=(h_ls).cell (i:=i) (by omega)
  have hlehS1:=hS1.le;have hlnhS1:=hS1.len_eq
  refine za (zj (some 15) (Instr.loadAt 23 (vP b1 (o1+i*1))) (.slice a1 n1 cp1) (zk hP1) ?_)
  refine zc 1 [(5,(.slice a1 n1 cp1))] (zf (zb (zd (zc 3 [(18,(vI n1)),(17,(.slice a1 n1 cp1)),(16,(vI (zX (ls.take i))))] (za (zt (some 19) .i64 (IntKind.i64.wrap (((zX (ls.take i):Nat):Int)+((n1:Nat):Int))) (zX (ls.take (i+1))) (zA (by omega) (by omega) (by omega)) ?_))))))
  refine zc 1 [(3,(vI (zX (ls.take (i+1)))))] (zf (zp (zb (zd (za (zt (some 20) .i64 (IntKind.i64.wrap (((i:Nat):Int)+((1:Nat):Int))) (i+1) (zA (by omega) (by omega) (by omega)) ?_))))))
  refine zc 1 [(12,(vI (i+1)))] (zf (zF (zR (i+1) ?_ ?_)))
  ·exact ⟨rfl,by omega⟩
  ·first | omega |(dsimp only;omega)
 ·replace hc13:¬(i<n_ls):=by have:=zae hc13;omega
  have hfin1:ls.take i=ls:=List.take_of_length_le (by omega)
  rw [hfin1]
  refine zf (zb (ze (zn (zW (zx (zx (zL (zb (ze ?_)))))))))
  refine zd (zc 1 [(21,(vI (zX (ls))))] (za (zch (some 22) 23 5 1 1 (zX (ls)) (zX (ls)) .i64 .i64 (vB 0) (by omega) (by omega) (by omega) ?_)))
  rw [zdA _ rfl]
  intro w2 hBw2 hEw2
  have hzw2:=hEw2.size;have hlw2:=hBw2.lt
  have hSw2:Bs w.heap.size (w.heap.size+1) w2 (pA w.heap.size 0) (zX (ls)) (zX (ls)) (List.replicate (zX (ls)) 0):=Bs.of_blk hBw2 (zeA _) (by simp) (Nat.le_refl _) (by simp only [maxLen];omega) (Nat.le_refl _) (Nat.lt_succ_self _)
  refine zc 1 [(6,(.slice (pA w.heap.size 0) (zX (ls)) (zX (ls))))] (zf (zb (ze (zd (zc 1 [(7,(vI 0))] (zf (zb (ze (ze ?_)))))))))
  refine zd (zc 3 [(25,(vI 0)),(24,(vI n_ls)),(23,(.slice a_ls n_ls c_ls))] (zf (zb (zy (zY (X:=Nat) (fun jj=> [(7,(vI (zX (ls.take jj)))),(25,(vI jj))]) [9,26,27,28,29,30,31,32,33,34,35,36] (fun jj w3=>jj≤n_ls∧Blk w3 w.heap.size (u8s ((ls.take jj).flatten++List.replicate (zX ls-zX (ls.take jj)) 0)) 5∧Ext w w3) (fun jj=>n_ls-jj) 0 (by rw [List.take_zero];kernel_rfl) ⟨by omega,(by rw [List.take_zero,show zX ls-zX []=zX ls from rfl,List.flatten_nil,List.nil_append,←zeA];exact hBw2),hEw2⟩ ?_)))))
  rintro jj dw3 w3 ⟨hi,hBl,hEl⟩
  have hzl:=hEl.size;have hll:=hBl.lt
  have hlen:=h_ls.len_eq
  have hsl:=zen ls jj
  have hsl1:=zen ls (jj+1)
  refine ze (zd (za (zK (some 26) (decide (((jj:Nat):Int)<((n_ls:Nat):Int))) (fun hc26=> ?_) (fun hc26=> ?_))))
  ·replace hc26:jj<n_ls:=by have:=zaf hc26;omega
   have hst:=zeS (ls:=ls) (i:=jj) (by omega)
   refine zf (zb (ze (zC (zu (zb (ze (zy (ze (zd ?_)))))))))
   obtain ⟨b2,o2,rfl⟩:=h_ls.addr (by omega)
   refine za (zj (some 27) (Instr.indexAt 190 (.slice (pA b2 o2) n_ls c_ls) (vI jj)) (vP b2 (o2+jj*1)) (zP (E:=23) (sz:=1) (by omega)) ?_)
   obtain ⟨a2,n2,cp2,hP2,hS2⟩:=((h_ls.ext hEl)).cell (i:=jj) (by omega)
   have hlehS2:=hS2.le;have hlnhS2:=hS2.len_eq
   refine za (zj (some 28) (Instr.loadAt 23 (vP b2 (o2+jj*1))) (.slice a2 n2 cp2) (zk hP2) ?_)
   refine zc 1 [(9,(.slice a2 n2 cp2))] (zf (zb (zd (zc 3 [(31,(vI (zX (ls.take jj)))),(30,(.slice (pA w.heap.size 0) (zX (ls)) (zX (ls)))),(29,(vI (zX (ls.take jj))))] ?_))))
   obtain ⟨ad,hRd,hAd⟩:=hBl.slice (len:=(zX (ls))) (cap:=(zX (ls))) Tryz.prog 23 5 (zX (ls.take jj)) (zX (ls)) (zX (ls)) (some (vI (zX (ls.take jj)))) none none
   refine za (zj (some 32) (Instr.sliceAt 23 (.slice (pA w.heap.size 0) (zX (ls)) (zX (ls))) (some (vI (zX (ls.take jj)))) none none) (.slice ad (zX ls-zX (ls.take jj)) (zX ls-zX (ls.take jj))) (hRd _) ?_)
   refine zc 1 [(33,(.slice a2 n2 cp2))] (za (zg9 (a:=ad) (dl:=zX ls-zX (ls.take jj)) (dc:=zX ls-zX (ls.take jj)) (some 34) 23 23 3 5 w.heap.size (zX (ls.take jj)) hBl (fun h=>hAd (by omega)) (by rw [zaV,List.length_append,zdQ,List.length_replicate];omega) hS2.es (fun _=>rfl) ?_))
   intro w4 hBw4 hCw4
   have hzw4:=hCw4.size
   rw [show zac (u8s ((ls.take jj).flatten++List.replicate (zX ls-zX (ls.take jj)) 0)) (zX (ls.take jj)) (((ls.getD jj []).take (min n2 (zX ls-zX (ls.take jj)))).map u8v)=u8s ((ls.take (jj+1)).flatten++List.replicate (zX ls-zX (ls.take (jj+1))) 0) from by rw [zgB (by omega),zeS (by omega),show min n2 (zX ls-zX (ls.take jj))=(ls.getD jj []).length from by omega];exact znM _ _ _ _ (zdQ _).symm (by omega)] at hBw4
   refine za (zt (some 35) .i64 (IntKind.i64.wrap (((zX (ls.take jj):Nat):Int)+((min n2 (zX ls-zX (ls.take jj)):Nat):Int))) (zX (ls.take (jj+1))) (zA (by omega) (by omega) (by omega)) ?_)
   refine zc 1 [(7,(vI (zX (ls.take (jj+1)))))] (zf (zp (zb (zd (za (zt (some 36) .i64 (IntKind.i64.wrap (((jj:Nat):Int)+((1:Nat):Int))) (jj+1) (zA (by omega) (by omega) (by omega)) ?_))))))
   refine zc 1 [(25,(vI (jj+1)))] (zf (zF (zR (jj+1) ?_ ?_)))
   ·exact ⟨by omega,hBw4,(Ext.own hEl hCw4 (by omega))⟩
   ·first | omega |(dsimp only;omega)
  ·replace hc26:¬(jj<n_ls):=by have:=zae hc26;omega
   refine zf (zb (ze (zn (zW (zx (zx (zL (zb (ze ?_)))))))))
   refine zd (zc 2 [(2,(.slice (pA w.heap.size 0) (zX (ls)) (zX (ls)))),(37,(.slice (pA w.heap.size 0) (zX (ls)) (zX (ls))))] (zf (zb (zq (zr (.slice (pA w.heap.size 0) (zX (ls)) (zX (ls))) ?_)))))
   have hfin:ls.take jj=ls:=List.take_of_length_le (by omega)
   rw [hfin] at hBl
   rw [Nat.sub_self,List.replicate_zero,List.append_nil] at hBl
   exact ⟨_,rfl,Nat.le_refl _,hBl,(zdQ ls).symm,hp0,hEl⟩
end Go.Proofs.YtkmhgepdhilllaaGreatDoor
namespace Go.Proofs.YtkmhgepdhilllaaGreatDoor
open Go Go.RowKit Go.Cs
set_option maxRecDepth 100000
theorem zeY (x:Rec) (w:World):
  Calls Tryz.prog 62 #[(vA (zM x))] w (Ret fun r w'=>r=(vI (zaN x))∧Ext w w'):=by
 refine zI (n:=16) (σ:= [(0,(vA (zM x)))]) Tryz.func62 rfl ?_
 refine ze (zd (za (zo (some 1) (Instr.box 68 (vA (zM x))) (vP w.heap.size 0) (zM x) 68 ?_)))
 intro w1 hBw1 hEw1
 have hzw1:=hEw1.size;have hlw1:=hBw1.lt
 refine zc 1 [(2,(vI 0))] (zf (zb (ze (ze (zd (zc 1 [(3,(vP w.heap.size 0))] (za (zj (some 4) (Instr.loadAt 5 (vP w.heap.size 0)) (vB x.st) (zk (hBw1.cell rfl)) ?_))))))))
 refine za (zK (some 5) (decide (((x.st:Nat):Int)>((2:Nat):Int))) (fun hc5=> ?_) (fun hc5=> ?_))
 ·replace hc5:x.st>2:=by have:=zaf hc5;omega
  refine zc 10 [(15,vT),(14,undef),(13,undef),(12,undef),(11,undef),(10,undef),(9,undef),(8,undef),(7,undef),(6,vT)] (zf (zb (zC (ze (zd (zc 1 [(2,(vI 1))] (zf (zb (zq ?_)))))))))
  exact zD (zr (vI 1) (⟨congrArg (fun z:Nat=>Value.int .i64 (z:Int)) (by unfold zaN;simp_all []<;>omega),hEw1⟩))
 ·replace hc5:¬(x.st>2):=by have:=zae hc5;omega
  refine zc 2 [(7,(vP w.heap.size 0)),(6,vF)] (za (zj (some 8) (Instr.loadAt 5 (vP w.heap.size 0)) (vB x.st) (zk (hBw1.cell rfl)) ?_))
  refine za (zK (some 9) ((((x.st:Nat):Int)==((0:Nat):Int))) (fun hc9=> ?_) (fun hc9=> ?_))
  ·replace hc9:x.st=0:=by have:=zbp hc9;omega
   refine zc 1 [(10,vT)] (za (zj (some 11) (Instr.loadAt 68 (vP w.heap.size 0)) (vA (zM x)) (zw (vs:=zM x) (hBw1.all) (by rw [zab];kernel_rfl)) ?_))
   refine zc 1 [(12,(vA (zM Rec.zero)))] ?_
   rcases Bool.eq_false_or_eq_true (x.eqb Rec.zero) with hq13 | hq13
   ·refine za (zj (some 13) (bo .neq 68 (.tmp 11) (.tmp 12) (vA (zM x)) (vA (zM Rec.zero))) vF (zak (r:=true) (T:=68) ((zcP (dd:=9997) (t:=68) (t8:=5) (tn:=56) (td:=59) (e:=5) (t32:=53) (t64:=54) x Rec.zero).trans (congrArg (fun b=>Result.ok b _) (show (x.eqb Rec.zero)=true from hq13)))) ?_)
    refine zc 2 [(15,vF),(14,vF)] (zf (zb (zn (zu (zb (ze (zd (zc 1 [(2,(vI 0))] (zf ?_)))))))))
    exact zb (zq (zr (vI 0) (⟨congrArg (fun z:Nat=>Value.int .i64 (z:Int)) (by unfold zaN;simp_all []<;>omega),hEw1⟩)))
   ·refine za (zj (some 13) (bo .neq 68 (.tmp 11) (.tmp 12) (vA (zM x)) (vA (zM Rec.zero))) vT (zak (r:=false) (T:=68) ((zcP (dd:=9997) (t:=68) (t8:=5) (tn:=56) (td:=59) (e:=5) (t32:=53) (t64:=54) x Rec.zero).trans (congrArg (fun b=>Result.ok b _) (show (x.eqb Rec.zero)=false from hq13)))) ?_)
    refine zc 2 [(15,vT),(14,vT)] (zf (zb (zC (ze (zd (zc 1 [(2,(vI 1))] (zf (zb (zq ?_)))))))))
    exact zD (zr (vI 1) (⟨congrArg (fun z:Nat=>Value.int .i64 (z:Int)) (by unfold zaN;simp_all []<;>omega),hEw1⟩))
  ·replace hc9:¬(x.st=0):=by have:=zbo hc9;omega
   refine zc 6 [(15,vF),(14,vF),(13,undef),(12,undef),(11,undef),(10,vF)] (zf (zb (zn (zu (zb (ze (zd (zc 1 [(2,(vI 0))] (zf ?_)))))))))
   exact zb (zq (zr (vI 0) (⟨congrArg (fun z:Nat=>Value.int .i64 (z:Int)) (by unfold zaN;simp_all []<;>omega),hEw1⟩)))
theorem zgM (x:Ent) (w:World):
  Calls Tryz.prog 131 #[(vA (zad x))] w (Ret fun r w'=>r=(vI (za3 x))∧Ext w w'):=by
 refine zI (n:=16) (σ:= [(0,(vA (zad x)))]) Tryz.func131 rfl ?_
 refine ze (zd (za (zo (some 1) (Instr.box 71 (vA (zad x))) (vP w.heap.size 0) (zad x) 71 ?_)))
 intro w1 hBw1 hEw1
 have hzw1:=hEw1.size;have hlw1:=hBw1.lt
 refine zc 1 [(2,(vI 0))] (zf (zb (ze (ze (zd (zc 1 [(3,(vP w.heap.size 0))] (za (zj (some 4) (Instr.loadAt 5 (vP w.heap.size 0)) (vB x.st) (zk (hBw1.cell rfl)) ?_))))))))
 refine za (zK (some 5) (decide (((x.st:Nat):Int)>((2:Nat):Int))) (fun hc5=> ?_) (fun hc5=> ?_))
 ·replace hc5:x.st>2:=by have:=zaf hc5;omega
  refine zc 10 [(15,vT),(14,undef),(13,undef),(12,undef),(11,undef),(10,undef),(9,undef),(8,undef),(7,undef),(6,vT)] (zf (zb (zC (ze (zd (zc 1 [(2,(vI 1))] (zf (zb (zq ?_)))))))))
  exact zD (zr (vI 1) (⟨congrArg (fun z:Nat=>Value.int .i64 (z:Int)) (by unfold za3;simp_all []<;>omega),hEw1⟩))
 ·replace hc5:¬(x.st>2):=by have:=zae hc5;omega
  refine zc 2 [(7,(vP w.heap.size 0)),(6,vF)] (za (zj (some 8) (Instr.loadAt 5 (vP w.heap.size 0)) (vB x.st) (zk (hBw1.cell rfl)) ?_))
  refine za (zK (some 9) ((((x.st:Nat):Int)==((0:Nat):Int))) (fun hc9=> ?_) (fun hc9=> ?_))
  ·replace hc9:x.st=0:=by have:=zbp hc9;omega
   refine zc 1 [(10,vT)] (za (zj (some 11) (Instr.loadAt 71 (vP w.heap.size 0)) (vA (zad x)) (zw (vs:=zad x) (hBw1.all) (by rw [zaF];kernel_rfl)) ?_))
   refine zc 1 [(12,(vA (zad Ent.zero)))] ?_
   rcases Bool.eq_false_or_eq_true (x.eqb Ent.zero) with hq13 | hq13
   ·refine za (zj (some 13) (bo .neq 71 (.tmp 11) (.tmp 12) (vA (zad x)) (vA (zad Ent.zero))) vF (zak (r:=true) (T:=71) ((zb8 (dd:=9997) (t:=71) (t8:=5) (td:=59) (e:=5) x Ent.zero).trans (congrArg (fun b=>Result.ok b _) (show (x.eqb Ent.zero)=true from hq13)))) ?_)
    refine zc 2 [(15,vF),(14,vF)] (zf (zb (zn (zu (zb (ze (zd (zc 1 [(2,(vI 0))] (zf ?_)))))))))
    exact zb (zq (zr (vI 0) (⟨congrArg (fun z:Nat=>Value.int .i64 (z:Int)) (by unfold za3;simp_all []<;>omega),hEw1⟩)))
   ·refine za (zj (some 13) (bo .neq 71 (.tmp 11) (.tmp 12) (vA (zad x)) (vA (zad Ent.zero))) vT (zak (r:=false) (T:=71) ((zb8 (dd:=9997) (t:=71) (t8:=5) (td:=59) (e:=5) x Ent.zero).trans (congrArg (fun b=>Result.ok b _) (show (x.eqb Ent.zero)=false from hq13)))) ?_)
    refine zc 2 [(15,vT),(14,vT)] (zf (zb (zC (ze (zd (zc 1 [(2,(vI 1))] (zf (zb (zq ?_)))))))))
    exact zD (zr (vI 1) (⟨congrArg (fun z:Nat=>Value.int .i64 (z:Int)) (by unfold za3;simp_all []<;>omega),hEw1⟩))
  ·replace hc9:¬(x.st=0):=by have:=zbo hc9;omega
   refine zc 6 [(15,vF),(14,vF),(13,undef),(12,undef),(11,undef),(10,vF)] (zf (zb (zn (zu (zb (ze (zd (zc 1 [(2,(vI 0))] (zf ?_)))))))))
   exact zb (zq (zr (vI 0) (⟨congrArg (fun z:Nat=>Value.int .i64 (z:Int)) (by unfold za3;simp_all []<;>omega),hEw1⟩)))
theorem zif (x:Non) (w:World):
  Calls Tryz.prog 134 #[(vA (zaU x))] w (Ret fun r w'=>∃a0,r=(.slice a0 12 12)∧Bs w.heap.size w'.heap.size w' a0 12 12 (zbl x)∧Ext w w'):=by
 refine zI (n:=11) (σ:= [(0,(vA (zaU x)))]) Tryz.func134 rfl ?_
 refine ze (zd (za (zo (some 1) (Instr.box 56 (vA (zaU x))) (vP w.heap.size 0) (zaU x) 56 ?_)))
 intro w1 hBw1 hEw1
 have hzw1:=hEw1.size;have hlw1:=hBw1.lt
 refine zc 1 [(2,(.slice none 0 0))] (zf (zb (ze (zT (Ext w1.drew) 9 [(4,2,0),(5,8,1),(6,16,2),(7,2,0),(8,64,8),(9,128,20),(10,288,36),(11,512,96),(3,1024,255)] (fun hT250=> ?_)))))
 have hEw2:Ext w1 w1.drew:=Ext.drew w1
 generalize w1.drew=w2 at hEw2⊢
 have hzw2:=hEw2.size
 refine zh hT250 [(0,3,(vP w.heap.size 0))] 1 1 (zg hT250 1 3 (some 4) (vW x.sh) (zi (Instr.loadAt 53 (vP w.heap.size 0)) (fun w' hC=>zk (((hBw1.ext hEw2).ext hC).cell rfl))) (zh hT250 [(3,6,(vP w.heap.size 1))] 1 11 (zg hT250 4 27 (some 7) (vQ x.ct) (zi (Instr.loadAt 54 (vP w.heap.size 1)) (fun w' hC=>zk (((hBw1.ext hEw2).ext hC).cell rfl))) (zz 2 31 (zl (some 5) (zfn x.sh _ (x.hsh)) ?_)))))
 rintro _ w3 ⟨a1,rfl,hFz1_0,hEw3⟩
 have hzw3:=hEw3.size
 refine ⟨.inr hEw3, ?_⟩
 refine zz 5 63 (zl (some 8) (zlM x.ct _) ?_)
 rintro _ w4 ⟨a2,rfl,hFz2_0,hEw4⟩
 have hzw4:=hEw4.size
 have hX1:Ext w2 w4:=(hEw3.trans hEw4)
 refine ⟨.inr hX1, ?_⟩
 refine zz 6 127 (zo (some 9) (Instr.buildSlice 190 2 #[(0,(.slice a1 4 4)),(1,(.slice a2 8 8))]) (.slice (pA w4.heap.size 0) 2 2) [(.slice a1 4 4),(.slice a2 8 8)] 23 ?_)
 intro w5 hBw5 hEw5
 have hzw5:=hEw5.size;have hlw5:=hBw5.lt
 have hSw5:Ps 0 w5.heap.size w5 (pA w4.heap.size 0) 2 2 [(.slice a1 4 4),(.slice a2 8 8)] [be x.sh 4,be x.ct 8]:=Ps.of_new hBw5 rfl (by decide) (zaZ.cons (zcK.at (((hFz1_0.ext hEw4)).ext hEw5)) (zaZ.cons (zcK.at (hFz2_0.ext hEw5)) zaZ.nil))
 have hX2:Ext w2 w5:=((hEw3.trans hEw4).trans hEw5)
 refine ⟨.inr hX2, ?_⟩
 refine zz 7 255 (zl (some 10) (ziv _ hSw5 (by simp [zX]<;>omega)) ?_)
 rintro _ w6 ⟨a3,rfl,hFz3_0,hFz3_1,hFz3_2,hFz3_3,hEw6⟩
 have hzw6:=hEw6.size
 have hla3:=hFz3_1.lt;have hna3:=hFz3_3
 have hSa3:Bs a3 (a3+1) w6 (pA a3 0) (zX ([be x.sh 4,be x.ct 8])) (zX ([be x.sh 4,be x.ct 8])) (([be x.sh 4,be x.ct 8]).flatten):=Bs.of_blk hFz3_1 rfl hFz3_2 (Nat.le_refl _) (zcd hna3) (Nat.le_refl _) (Nat.lt_succ_self _)
 rw [show zX ([be x.sh 4,be x.ct 8])=12 from by simp [zX]]
 have hX3:Ext w2 w6:=(((hEw3.trans hEw4).trans hEw5).trans hEw6)
 refine ⟨.inr hX3, ?_⟩
 exact zh (hw:=hX3) hT250 [(8,2,(.slice (pA a3 0) 12 12))] 1 511 (zJ (zb (zq (zr (.slice (pA a3 0) 12 12) (⟨_,rfl,by simpa [zbl,zX] using hSa3.mono (by omega) (by omega),((hEw1.trans hEw2).trans hX3)⟩)))))
theorem zhv (x:Non) (w:World):
  Calls Tryz.prog 129 #[(vA (zaU x))] w (Ret fun r w'=>∃a0 ca0,r=(.slice a0 12 ca0)∧Es u8v w.heap.size w'.heap.size w' a0 12 ca0 (zbl x)∧Ext w w'):=by
 refine zI (n:=10) (σ:= [(0,(vA (zaU x)))]) Tryz.func129 rfl ?_
 refine ze (zd (za (zo (some 1) (Instr.box 56 (vA (zaU x))) (vP w.heap.size 0) (zaU x) 56 ?_)))
 intro w1 hBw1 hEw1
 have hzw1:=hEw1.size;have hlw1:=hBw1.lt
 refine zc 1 [(2,(.slice none 0 0))] (zf (zb (ze (zT (Ext w1.drew) 8 [(4,2,0),(5,8,1),(6,16,2),(7,2,0),(8,64,8),(9,128,20),(10,288,36),(3,512,127)] (fun hT285=> ?_)))))
 have hEw2:Ext w1 w1.drew:=Ext.drew w1
 generalize w1.drew=w2 at hEw2⊢
 have hzw2:=hEw2.size
 refine zh hT285 [(0,3,(vP w.heap.size 0))] 1 1 (zg hT285 1 3 (some 4) (vW x.sh) (zi (Instr.loadAt 53 (vP w.heap.size 0)) (fun w' hC=>zk (((hBw1.ext hEw2).ext hC).cell rfl))) (zh hT285 [(3,6,(vP w.heap.size 1))] 1 11 (zg hT285 4 27 (some 7) (vQ x.ct) (zi (Instr.loadAt 54 (vP w.heap.size 1)) (fun w' hC=>zk (((hBw1.ext hEw2).ext hC).cell rfl))) (zz 2 31 (zl (some 5) (zjX x.sh _ (x.hsh)) ?_)))))
 rintro _ w3 ⟨a1,rfl,hFz1_0,hFz1_1,hFz1_2,hFz1_3,hEw3⟩
 have hzw3:=hEw3.size
 have hla1:=hFz1_1.lt;have hna1:=hFz1_3
 have hSa1:Bs a1 (a1+1) w3 (pA a1 0) 4 4 (be x.sh 4):=Bs.of_blk hFz1_1 rfl hFz1_2 (Nat.le_refl _) (zcd hna1) (Nat.le_refl _) (Nat.lt_succ_self _)
 refine ⟨.inr hEw3, ?_⟩
 refine zz 5 63 (zl (some 8) (zkO x.ct _ (x.hct)) ?_)
 rintro _ w4 ⟨a2,rfl,hFz2_0,hFz2_1,hFz2_2,hFz2_3,hEw4⟩
 have hzw4:=hEw4.size
 have hla2:=hFz2_1.lt;have hna2:=hFz2_3
 have hSa2:Bs a2 (a2+1) w4 (pA a2 0) 8 8 (be x.ct 8):=Bs.of_blk hFz2_1 rfl hFz2_2 (Nat.le_refl _) (zcd hna2) (Nat.le_refl _) (Nat.lt_succ_self _)
 have hX1:Ext w2 w4:=(hEw3.trans hEw4)
 refine ⟨.inr hX1, ?_⟩
 have hO1:Cs.Own u8v a1 (a1+1) w4 (pA a1 0) 4 4 5 (be x.sh 4):=Cs.Own.of_blk (hFz1_1.ext hEw4) (by simp) (by first | rfl | exact rfl) (hSa1.ext hEw4).len_eq (Nat.le_refl _) (by simp only [maxLen];omega) (Nat.le_refl _) (Nat.lt_succ_self _)
 refine zz 6 127 (zbc (some 9) 23 23 5 1 (.int .u8 0) hO1 hSa2.es (fun _=>rfl) ?_)
 intro a3 c1 w5 hOw5 hCw5
 have hzw5:=hCw5.size
 have hSw5:=hOw5.bs
 have hX2:Ext w2 w5:=(Ext.ownS (hEw3.trans hEw4) hCw5 (fun k hs hk=>by have hn:=hO1.ne hs;omega))
 refine ⟨.inr hX2, ?_⟩
 refine zh (hw:=hX2) hT285 [(7,2,(.slice a3 (4+8) c1))] 1 255 (zJ (zb (zq (zr (.slice a3 (4+8) c1) ?_))))
 have hX3:Ext w w5:=(Ext.ownS (((hEw1.trans hEw2).trans hEw3).trans hEw4) hCw5 (fun k hs hk=>by have hn:=hO1.ne hs;omega))
 exact ⟨_,_,rfl,by have hz:=hOw5;simpa [zbl,zbF,zbR,zc3] using (hz.es.mono (lo':=w.heap.size) (hi':=w5.heap.size) (by omega) (by omega)),hX3⟩
theorem znO (x:Rec) (w:World):
  Calls Tryz.prog 103 #[(vA (zM x))] w (Ret fun r w'=>∃a0 ca0,r=(.slice a0 45 ca0)∧Es u8v w.heap.size w'.heap.size w' a0 45 ca0 (zbF x)∧Ext w w'):=by
 refine zI (n:=13) (σ:= [(0,(vA (zM x)))]) Tryz.func103 rfl ?_
 refine ze (zd (za (zo (some 1) (Instr.box 68 (vA (zM x))) (vP w.heap.size 0) (zM x) 68 ?_)))
 intro w1 hBw1 hEw1
 have hzw1:=hEw1.size;have hlw1:=hBw1.lt
 refine zc 1 [(2,(.slice none 0 0))] (zf (zb (ze (zT (Ext w1.drew) 11 [(4,2,0),(5,8,1),(6,16,2),(7,2,0),(8,64,8),(9,128,16),(10,288,36),(11,2,0),(12,1024,128),(13,2560,320),(3,4096,1023)] (fun hT319=> ?_)))))
 have hEw2:Ext w1 w1.drew:=Ext.drew w1
 generalize w1.drew=w2 at hEw2⊢
 have hzw2:=hEw2.size
 refine zh hT319 [(0,3,(vP w.heap.size 0))] 1 1 (zg hT319 1 3 (some 4) (vB x.st) (zi (Instr.loadAt 5 (vP w.heap.size 0)) (fun w' hC=>zk (((hBw1.ext hEw2).ext hC).cell rfl))) (zh hT319 [(3,6,(vP w.heap.size 1))] 1 11 (zg hT319 4 27 (some 7) (vA (zaU x.non)) (zi (Instr.loadAt 56 (vP w.heap.size 1)) (fun w' hC=>zw (vs:=zaU x.non) (((hBw1.ext hEw2).ext hC).at 1 (zaU x.non) (zlU _)) (by rw [zeB];kernel_rfl))) (zh hT319 [(7,10,(vP w.heap.size 3))] 1 155 (zg hT319 8 411 (some 11) (.slice (pA w.heap.size 3) 32 32) (zi (Instr.sliceAt 59 (vP w.heap.size 3) none none none) (fun w' hC=>ziy (E:=5) (sz:=1) (m:=32))) ?_)))))
 have hS1:Bs w.heap.size (w.heap.size+1) w2 (pA w.heap.size 3) 32 32 x.tag.l:=Bs.of_at ((hBw1.ext hEw2).at 3 (zO x.tag) (zhm _)) ((hBw1.ext hEw2)).lt x.tag.h.symm (by decide) (by omega) (by omega)
 refine za9 2 5 415 443 ?_ ?_
 ·refine zo (some 5) (Instr.buildSlice 23 1 #[(0,(vB x.st))]) (.slice (pA w2.heap.size 0) 1 1) [(vB x.st)] 5 ?_
  intro w3 hBw3 hEw3
  have hzw3:=hEw3.size;have hlw3:=hBw3.lt
  have hSw3:Bs w2.heap.size (w2.heap.size+1) w3 (pA w2.heap.size 0) 1 1 [UInt8.ofNat x.st]:=Bs.of_blk hBw3 (zcE x.hst) rfl (Nat.le_refl _) (by decide) (Nat.le_refl _) (Nat.lt_succ_self _)
  refine ⟨.inr hEw3, ?_⟩
  refine zz 5 447 (zl (some 8) (zhv x.non _) ?_)
  rintro _ w4 ⟨a1,ca1,rfl,hFz1_0,hEw4⟩
  have hzw4:=hEw4.size
  have hlea1:=hFz1_0.le
  have hba1:=hFz1_0.bs
  have hX1:Ext w2 w4:=(hEw3.trans hEw4)
  refine ⟨.inr hX1, ?_⟩
  have hO1:Cs.Own u8v w2.heap.size (w2.heap.size+1) w4 (pA w2.heap.size 0) 1 1 5 ([UInt8.ofNat x.st]):=Cs.Own.of_blk (hBw3.ext hEw4) (by simp) (by first | rfl | exact (zcE x.hst)) (hSw3.ext hEw4).len_eq (Nat.le_refl _) (by simp only [maxLen];omega) (Nat.le_refl _) (Nat.lt_succ_self _)
  refine zz 6 511 (zbc (some 9) 23 23 5 1 (.int .u8 0) hO1 hba1.es (fun _=>rfl) ?_)
  intro a2 c1 w5 hOw5 hCw5
  have hzw5:=hCw5.size
  have hSw5:=hOw5.bs
  have hX2:Ext w2 w5:=(Ext.ownS (hEw3.trans hEw4) hCw5 (fun k hs hk=>by have hn:=hO1.ne hs;omega))
  refine ⟨.inr hX2, ?_⟩
  have hK1:=(((((hS1.ext hEw3)).ext hEw4)).chg hCw5 (fun k h1 h2 hs=>by have hn:=hO1.ne hs;omega))
  refine zz 9 1023 (zbc (some 12) 23 23 5 1 (.int .u8 0) hOw5 hK1.es (fun _=>rfl) ?_)
  intro a3 c2 w6 hOw6 hCw6
  have hzw6:=hCw6.size
  have hSw6:=hOw6.bs
  have hX3:Ext w2 w6:=(Ext.ownS (Ext.ownS (hEw3.trans hEw4) hCw5 (fun k hs hk=>by have hn:=hO1.ne hs;omega)) hCw6 (fun k hs hk=>by have hn:=hOw5.ne hs;omega))
  refine ⟨.inr hX3, ?_⟩
  exact zh (hw:=hX3) hT319 [(10,2,(.slice a3 (1+12+32) c2))] 1 2047 (zJ (zb (zq (zr (.slice a3 (1+12+32) c2) (⟨_,_,rfl,by have hz:=hOw6;simpa [zbl,zbF,zbR,zc3] using (hz.es.mono (lo':=w.heap.size) (hi':=w6.heap.size) (by omega) (by omega)),((hEw1.trans hEw2).trans hX3)⟩)))))
 ·refine zl (some 8) (zhv x.non _) ?_
  rintro _ w7 ⟨a4,ca4,rfl,hFz2_0,hEw7⟩
  have hzw7:=hEw7.size
  have hlea4:=hFz2_0.le
  have hba4:=hFz2_0.bs
  refine ⟨.inr hEw7, ?_⟩
  refine zz 2 447 (zo (some 5) (Instr.buildSlice 23 1 #[(0,(vB x.st))]) (.slice (pA w7.heap.size 0) 1 1) [(vB x.st)] 5 ?_)
  intro w8 hBw8 hEw8
  have hzw8:=hEw8.size;have hlw8:=hBw8.lt
  have hSw8:Bs w7.heap.size (w7.heap.size+1) w8 (pA w7.heap.size 0) 1 1 [UInt8.ofNat x.st]:=Bs.of_blk hBw8 (zcE x.hst) rfl (Nat.le_refl _) (by decide) (Nat.le_refl _) (Nat.lt_succ_self _)
  have hX4:Ext w2 w8:=(hEw7.trans hEw8)
  refine ⟨.inr hX4, ?_⟩
  have hO2:Cs.Own u8v w7.heap.size (w7.heap.size+1) w8 (pA w7.heap.size 0) 1 1 5 ([UInt8.ofNat x.st]):=Cs.Own.of_blk hBw8 (by simp) (by first | rfl | exact (zcE x.hst)) hSw8.len_eq (Nat.le_refl _) (by simp only [maxLen];omega) (Nat.le_refl _) (Nat.lt_succ_self _)
  refine zz 6 511 (zbc (some 9) 23 23 5 1 (.int .u8 0) hO2 (hba4.ext hEw8).es (fun _=>rfl) ?_)
  intro a5 c3 w9 hOw9 hCw9
  have hzw9:=hCw9.size
  have hSw9:=hOw9.bs
  have hX5:Ext w2 w9:=(Ext.ownS (hEw7.trans hEw8) hCw9 (fun k hs hk=>by have hn:=hO2.ne hs;omega))
  refine ⟨.inr hX5, ?_⟩
  have hK2:=(((((hS1.ext hEw7)).ext hEw8)).chg hCw9 (fun k h1 h2 hs=>by have hn:=hO2.ne hs;omega))
  refine zz 9 1023 (zbc (some 12) 23 23 5 1 (.int .u8 0) hOw9 hK2.es (fun _=>rfl) ?_)
  intro a6 c4 w10 hOw10 hCw10
  have hzw10:=hCw10.size
  have hSw10:=hOw10.bs
  have hX6:Ext w2 w10:=(Ext.ownS (Ext.ownS (hEw7.trans hEw8) hCw9 (fun k hs hk=>by have hn:=hO2.ne hs;omega)) hCw10 (fun k hs hk=>by have hn:=hOw9.ne hs;omega))
  refine ⟨.inr hX6, ?_⟩
  exact zh (hw:=hX6) hT319 [(10,2,(.slice a6 (1+12+32) c4))] 1 2047 (zJ (zb (zq (zr (.slice a6 (1+12+32) c4) (⟨_,_,rfl,by have hz:=hOw10;simpa [zbl,zbF,zbR,zc3] using (hz.es.mono (lo':=w.heap.size) (hi':=w10.heap.size) (by omega) (by omega)),((hEw1.trans hEw2).trans hX6)⟩)))))
theorem zpu (x:Ent) (w:World):
  Calls Tryz.prog 104 #[(vA (zad x))] w (Ret fun r w'=>∃a0 ca0,r=(.slice a0 33 ca0)∧Es u8v w.heap.size w'.heap.size w' a0 33 ca0 (zbR x)∧Ext w w'):=by
 refine zI (n:=9) (σ:= [(0,(vA (zad x)))]) Tryz.func104 rfl ?_
 refine ze (zd (za (zo (some 1) (Instr.box 71 (vA (zad x))) (vP w.heap.size 0) (zad x) 71 ?_)))
 intro w1 hBw1 hEw1
 have hzw1:=hEw1.size;have hlw1:=hBw1.lt
 refine zc 1 [(2,(.slice none 0 0))] (zf (zb (ze (zT (Ext w1.drew) 7 [(4,2,0),(5,8,1),(6,16,2),(7,2,0),(8,64,8),(9,160,20),(3,256,63)] (fun hT387=> ?_)))))
 have hEw2:Ext w1 w1.drew:=Ext.drew w1
 generalize w1.drew=w2 at hEw2⊢
 have hzw2:=hEw2.size
 refine zh hT387 [(0,3,(vP w.heap.size 0))] 1 1 (zg hT387 1 3 (some 4) (vB x.st) (zi (Instr.loadAt 5 (vP w.heap.size 0)) (fun w' hC=>zk (((hBw1.ext hEw2).ext hC).cell rfl))) (zh hT387 [(3,6,(vP w.heap.size 1))] 1 11 (zg hT387 4 27 (some 7) (.slice (pA w.heap.size 1) 32 32) (zi (Instr.sliceAt 59 (vP w.heap.size 1) none none none) (fun w' hC=>ziy (E:=5) (sz:=1) (m:=32))) ?_)))
 have hS1:Bs w.heap.size (w.heap.size+1) w2 (pA w.heap.size 1) 32 32 x.dg.l:=Bs.of_at ((hBw1.ext hEw2).at 1 (zO x.dg) (zfy _)) ((hBw1.ext hEw2)).lt x.dg.h.symm (by decide) (by omega) (by omega)
 refine zz 2 31 (zo (some 5) (Instr.buildSlice 23 1 #[(0,(vB x.st))]) (.slice (pA w2.heap.size 0) 1 1) [(vB x.st)] 5 ?_)
 intro w3 hBw3 hEw3
 have hzw3:=hEw3.size;have hlw3:=hBw3.lt
 have hSw3:Bs w2.heap.size (w2.heap.size+1) w3 (pA w2.heap.size 0) 1 1 [UInt8.ofNat x.st]:=Bs.of_blk hBw3 (zcE x.hst) rfl (Nat.le_refl _) (by decide) (Nat.le_refl _) (Nat.lt_succ_self _)
 refine ⟨.inr hEw3, ?_⟩
 have hO1:Cs.Own u8v w2.heap.size (w2.heap.size+1) w3 (pA w2.heap.size 0) 1 1 5 ([UInt8.ofNat x.st]):=Cs.Own.of_blk hBw3 (by simp) (by first | rfl | exact (zcE x.hst)) hSw3.len_eq (Nat.le_refl _) (by simp only [maxLen];omega) (Nat.le_refl _) (Nat.lt_succ_self _)
 refine zz 5 63 (zbc (some 8) 23 23 5 1 (.int .u8 0) hO1 (hS1.ext hEw3).es (fun _=>rfl) ?_)
 intro a1 c1 w4 hOw4 hCw4
 have hzw4:=hCw4.size
 have hSw4:=hOw4.bs
 have hX1:Ext w2 w4:=(Ext.ownS hEw3 hCw4 (fun k hs hk=>by have hn:=hO1.ne hs;omega))
 refine ⟨.inr hX1, ?_⟩
 refine zh (hw:=hX1) hT387 [(6,2,(.slice a1 (1+32) c1))] 1 127 (zJ (zb (zq (zr (.slice a1 (1+32) c1) ?_))))
 have hX2:Ext w w4:=(Ext.ownS ((hEw1.trans hEw2).trans hEw3) hCw4 (fun k hs hk=>by have hn:=hO1.ne hs;omega))
 exact ⟨_,_,rfl,by have hz:=hOw4;simpa [zbl,zbF,zbR,zc3] using (hz.es.mono (lo':=w.heap.size) (hi':=w4.heap.size) (by omega) (by omega)),hX2⟩
theorem zlj (x:Rec) (w:World) (hp0:zaN x=0):
  Calls Tryz.prog 115 #[(vA (zM x))] w (Ret fun r w'=>∃a0,r=(.tuple #[(.slice a0 45 45),(vI 0)])∧Bs w.heap.size w'.heap.size w' a0 45 45 (zbF x)∧Ext w w'):=by
 refine zI (n:=20) (σ:= [(0,(vA (zM x)))]) Tryz.func115 rfl ?_
 refine ze (zd (za (zo (some 1) (Instr.box 68 (vA (zM x))) (vP w.heap.size 0) (zM x) 68 ?_)))
 intro w1 hBw1 hEw1
 have hzw1:=hEw1.size;have hlw1:=hBw1.lt
 refine zc 2 [(3,(vI 0)),(2,(.slice none 0 0))] (zf (zb (ze (ze (zd (za (zj (some 5) (Instr.loadAt 68 (vP w.heap.size 0)) (vA (zM x)) (zw (vs:=zM x) (hBw1.all) (by rw [zab];kernel_rfl)) ?_)))))))
 refine za (zl (some 6) (zeY x _) ?_)
 rintro _ w2 ⟨rfl,hEw2⟩
 have hzw2:=hEw2.size
 refine zc 1 [(4,(vI (zaN x)))] (zf (zb (ze (zd (zc 1 [(7,(vI (zaN x)))] (za (zai (some 8) (((zaN x:Nat):Int) !=((0:Nat):Int)) false (zaA (by omega)) ?_)))))))
 refine zf (zb (zn (zu (zb (ze (zT (Ext w2.drew) 12 [(11,2,0),(12,1024,1),(13,2048,2),(14,2,0),(15,8192,8),(16,16384,16),(17,2,0),(18,65536,64),(19,167936,164),(20,262144,288),(3,524288,1023),(4,0,2047)] (fun hT449=> ?_)))))))
 have hEw3:Ext w2 w2.drew:=Ext.drew w2
 generalize w2.drew=w3 at hEw3⊢
 have hzw3:=hEw3.size
 refine zh hT449 [(0,10,(vP w.heap.size 0))] 1 1 (zg hT449 1 3 (some 11) (vB x.st) (zi (Instr.loadAt 5 (vP w.heap.size 0)) (fun w' hC=>zk (((((hBw1.ext hEw2)).ext hEw3).ext hC).cell rfl))) (zh hT449 [(3,13,(vP w.heap.size 1))] 1 11 (zg hT449 4 27 (some 14) (vA (zaU x.non)) (zi (Instr.loadAt 56 (vP w.heap.size 1)) (fun w' hC=>zw (vs:=zaU x.non) (((((hBw1.ext hEw2)).ext hEw3).ext hC).at 1 (zaU x.non) (zlU _)) (by rw [zeB];kernel_rfl))) (zh hT449 [(6,16,(vP w.heap.size 3))] 1 91 (zg hT449 7 219 (some 17) (.slice (pA w.heap.size 3) 32 32) (zi (Instr.sliceAt 59 (vP w.heap.size 3) none none none) (fun w' hC=>ziy (E:=5) (sz:=1) (m:=32))) ?_)))))
 have hS1:Bs w.heap.size (w.heap.size+1) w3 (pA w.heap.size 3) 32 32 x.tag.l:=Bs.of_at ((((hBw1.ext hEw2)).ext hEw3).at 3 (zO x.tag) (zhm _)) ((((hBw1.ext hEw2)).ext hEw3)).lt x.tag.h.symm (by decide) (by omega) (by omega)
 refine za9 2 5 223 251 ?_ ?_
 ·refine zo (some 12) (Instr.buildSlice 23 1 #[(0,(vB x.st))]) (.slice (pA w3.heap.size 0) 1 1) [(vB x.st)] 5 ?_
  intro w4 hBw4 hEw4
  have hzw4:=hEw4.size;have hlw4:=hBw4.lt
  have hSw4:Bs w3.heap.size (w3.heap.size+1) w4 (pA w3.heap.size 0) 1 1 [UInt8.ofNat x.st]:=Bs.of_blk hBw4 (zcE x.hst) rfl (Nat.le_refl _) (by decide) (Nat.le_refl _) (Nat.lt_succ_self _)
  refine ⟨.inr hEw4, ?_⟩
  refine zz 5 255 (zl (some 15) (zif x.non _) ?_)
  rintro _ w5 ⟨a1,rfl,hFz2_0,hEw5⟩
  have hzw5:=hEw5.size
  have hX1:Ext w3 w5:=(hEw4.trans hEw5)
  refine ⟨.inr hX1, ?_⟩
  refine zz 8 511 (zo (some 18) (Instr.buildSlice 190 3 #[(0,(.slice (pA w3.heap.size 0) 1 1)),(1,(.slice a1 12 12)),(2,(.slice (pA w.heap.size 3) 32 32))]) (.slice (pA w5.heap.size 0) 3 3) [(.slice (pA w3.heap.size 0) 1 1),(.slice a1 12 12),(.slice (pA w.heap.size 3) 32 32)] 23 ?_)
  intro w6 hBw6 hEw6
  have hzw6:=hEw6.size;have hlw6:=hBw6.lt
  have hK1:=(((((hS1.ext hEw4)).ext hEw5)).ext hEw6)
  have hSw6:Ps 0 w6.heap.size w6 (pA w5.heap.size 0) 3 3 [(.slice (pA w3.heap.size 0) 1 1),(.slice a1 12 12),(.slice (pA w.heap.size 3) 32 32)] [[UInt8.ofNat x.st],zbl x.non,x.tag.l]:=Ps.of_new hBw6 rfl (by decide) (zaZ.cons (zcK.at (((hSw4.ext hEw5)).ext hEw6)) (zaZ.cons (zcK.at (hFz2_0.ext hEw6)) (zaZ.cons (zcK.at hK1) zaZ.nil)))
  have hX2:Ext w3 w6:=((hEw4.trans hEw5).trans hEw6)
  refine ⟨.inr hX2, ?_⟩
  refine zz 9 1023 (zl (some 19) (ziv _ hSw6 (by simp [zX,zbl,x.tag.h])) ?_)
  rintro _ w7 ⟨a2,rfl,hFz3_0,hFz3_1,hFz3_2,hFz3_3,hEw7⟩
  have hzw7:=hEw7.size
  have hla2:=hFz3_1.lt;have hna2:=hFz3_3
  have hSa2:Bs a2 (a2+1) w7 (pA a2 0) (zX ([[UInt8.ofNat x.st],zbl x.non,x.tag.l])) (zX ([[UInt8.ofNat x.st],zbl x.non,x.tag.l])) (([[UInt8.ofNat x.st],zbl x.non,x.tag.l]).flatten):=Bs.of_blk hFz3_1 rfl hFz3_2 (Nat.le_refl _) (zcd hna2) (Nat.le_refl _) (Nat.lt_succ_self _)
  rw [show zX ([[UInt8.ofNat x.st],zbl x.non,x.tag.l])=45 from by simp [zX,zbl,x.tag.h]]
  have hX3:Ext w3 w7:=(((hEw4.trans hEw5).trans hEw6).trans hEw7)
  refine ⟨.inr hX3, ?_⟩
  refine zh (hw:=hX3) hT449 [(10,2,(.slice (pA a2 0) 45 45)),(11,3,(vI 0))] 2 4095 (zJ (zb (zq (zr (.tuple #[(.slice (pA a2 0) 45 45),(vI 0)]) ?_))))
  have hX4:Ext w w7:=(((hEw1.trans hEw2).trans hEw3).trans hX3)
  have hz:=hSa2
  rw [show zX ([[UInt8.ofNat x.st],zbl x.non,x.tag.l])=45 from by simp [zX,zbl,x.tag.h],show ([[UInt8.ofNat x.st],zbl x.non,x.tag.l]).flatten=zbF x from by simp [zbF,zbR,zc3]] at hz
  exact ⟨_,rfl,hz.mono (by omega) (by omega),hX4⟩
 ·refine zl (some 15) (zif x.non _) ?_
  rintro _ w8 ⟨a3,rfl,hFz4_0,hEw8⟩
  have hzw8:=hEw8.size
  refine ⟨.inr hEw8, ?_⟩
  refine zz 2 255 (zo (some 12) (Instr.buildSlice 23 1 #[(0,(vB x.st))]) (.slice (pA w8.heap.size 0) 1 1) [(vB x.st)] 5 ?_)
  intro w9 hBw9 hEw9
  have hzw9:=hEw9.size;have hlw9:=hBw9.lt
  have hSw9:Bs w8.heap.size (w8.heap.size+1) w9 (pA w8.heap.size 0) 1 1 [UInt8.ofNat x.st]:=Bs.of_blk hBw9 (zcE x.hst) rfl (Nat.le_refl _) (by decide) (Nat.le_refl _) (Nat.lt_succ_self _)
  have hX5:Ext w3 w9:=(hEw8.trans hEw9)
  refine ⟨.inr hX5, ?_⟩
  refine zz 8 511 (zo (some 18) (Instr.buildSlice 190 3 #[(0,(.slice (pA w8.heap.size 0) 1 1)),(1,(.slice a3 12 12)),(2,(.slice (pA w.heap.size 3) 32 32))]) (.slice (pA w9.heap.size 0) 3 3) [(.slice (pA w8.heap.size 0) 1 1),(.slice a3 12 12),(.slice (pA w.heap.size 3) 32 32)] 23 ?_)
  intro w10 hBw10 hEw10
  have hzw10:=hEw10.size;have hlw10:=hBw10.lt
  have hK2:=(((((hS1.ext hEw8)).ext hEw9)).ext hEw10)
  have hSw10:Ps 0 w10.heap.size w10 (pA w9.heap.size 0) 3 3 [(.slice (pA w8.heap.size 0) 1 1),(.slice a3 12 12),(.slice (pA w.heap.size 3) 32 32)] [[UInt8.ofNat x.st],zbl x.non,x.tag.l]:=Ps.of_new hBw10 rfl (by decide) (zaZ.cons (zcK.at (hSw9.ext hEw10)) (zaZ.cons (zcK.at (((hFz4_0.ext hEw9)).ext hEw10)) (zaZ.cons (zcK.at hK2) zaZ.nil)))
  have hX6:Ext w3 w10:=((hEw8.trans hEw9).trans hEw10)
  refine ⟨.inr hX6, ?_⟩
  refine zz 9 1023 (zl (some 19) (ziv _ hSw10 (by simp [zX,zbl,x.tag.h])) ?_)
  rintro _ w11 ⟨a4,rfl,hFz5_0,hFz5_1,hFz5_2,hFz5_3,hEw11⟩
  have hzw11:=hEw11.size
  have hla4:=hFz5_1.lt;have hna4:=hFz5_3
  have hSa4:Bs a4 (a4+1) w11 (pA a4 0) (zX ([[UInt8.ofNat x.st],zbl x.non,x.tag.l])) (zX ([[UInt8.ofNat x.st],zbl x.non,x.tag.l])) (([[UInt8.ofNat x.st],zbl x.non,x.tag.l]).flatten):=Bs.of_blk hFz5_1 rfl hFz5_2 (Nat.le_refl _) (zcd hna4) (Nat.le_refl _) (Nat.lt_succ_self _)
  rw [show zX ([[UInt8.ofNat x.st],zbl x.non,x.tag.l])=45 from by simp [zX,zbl,x.tag.h]]
  have hX7:Ext w3 w11:=(((hEw8.trans hEw9).trans hEw10).trans hEw11)
  refine ⟨.inr hX7, ?_⟩
  refine zh (hw:=hX7) hT449 [(10,2,(.slice (pA a4 0) 45 45)),(11,3,(vI 0))] 2 4095 (zJ (zb (zq (zr (.tuple #[(.slice (pA a4 0) 45 45),(vI 0)]) ?_))))
  have hX8:Ext w w11:=(((hEw1.trans hEw2).trans hEw3).trans hX7)
  have hz:=hSa4
  rw [show zX ([[UInt8.ofNat x.st],zbl x.non,x.tag.l])=45 from by simp [zX,zbl,x.tag.h],show ([[UInt8.ofNat x.st],zbl x.non,x.tag.l]).flatten=zbF x from by simp [zbF,zbR,zc3]] at hz
  exact ⟨_,rfl,hz.mono (by omega) (by omega),hX8⟩
theorem zm8 (x:Ent) (w:World) (hp0:za3 x=0):
  Calls Tryz.prog 118 #[(vA (zad x))] w (Ret fun r w'=>∃a0,r=(.tuple #[(.slice a0 33 33),(vI 0)])∧Bs w.heap.size w'.heap.size w' a0 33 33 (zbR x)∧Ext w w'):=by
 refine zI (n:=17) (σ:= [(0,(vA (zad x)))]) Tryz.func118 rfl ?_
 refine ze (zd (za (zo (some 1) (Instr.box 71 (vA (zad x))) (vP w.heap.size 0) (zad x) 71 ?_)))
 intro w1 hBw1 hEw1
 have hzw1:=hEw1.size;have hlw1:=hBw1.lt
 refine zc 2 [(3,(vI 0)),(2,(.slice none 0 0))] (zf (zb (ze (ze (zd (za (zj (some 5) (Instr.loadAt 71 (vP w.heap.size 0)) (vA (zad x)) (zw (vs:=zad x) (hBw1.all) (by rw [zaF];kernel_rfl)) ?_)))))))
 refine za (zl (some 6) (zgM x _) ?_)
 rintro _ w2 ⟨rfl,hEw2⟩
 have hzw2:=hEw2.size
 refine zc 1 [(4,(vI (za3 x)))] (zf (zb (ze (zd (zc 1 [(7,(vI (za3 x)))] (za (zai (some 8) (((za3 x:Nat):Int) !=((0:Nat):Int)) false (zaA (by omega)) ?_)))))))
 refine zf (zb (zn (zu (zb (ze (zT (Ext w2.drew) 9 [(11,2,0),(12,1024,1),(13,2048,2),(14,2,0),(15,8192,8),(16,20480,20),(17,32768,32),(3,65536,127),(4,0,255)] (fun hT543=> ?_)))))))
 have hEw3:Ext w2 w2.drew:=Ext.drew w2
 generalize w2.drew=w3 at hEw3⊢
 have hzw3:=hEw3.size
 refine zh hT543 [(0,10,(vP w.heap.size 0))] 1 1 (zg hT543 1 3 (some 11) (vB x.st) (zi (Instr.loadAt 5 (vP w.heap.size 0)) (fun w' hC=>zk (((((hBw1.ext hEw2)).ext hEw3).ext hC).cell rfl))) (zh hT543 [(3,13,(vP w.heap.size 1))] 1 11 (zg hT543 4 27 (some 14) (.slice (pA w.heap.size 1) 32 32) (zi (Instr.sliceAt 59 (vP w.heap.size 1) none none none) (fun w' hC=>ziy (E:=5) (sz:=1) (m:=32))) ?_)))
 have hS1:Bs w.heap.size (w.heap.size+1) w3 (pA w.heap.size 1) 32 32 x.dg.l:=Bs.of_at ((((hBw1.ext hEw2)).ext hEw3).at 1 (zO x.dg) (zfy _)) ((((hBw1.ext hEw2)).ext hEw3)).lt x.dg.h.symm (by decide) (by omega) (by omega)
 refine zz 2 31 (zo (some 12) (Instr.buildSlice 23 1 #[(0,(vB x.st))]) (.slice (pA w3.heap.size 0) 1 1) [(vB x.st)] 5 ?_)
 intro w4 hBw4 hEw4
 have hzw4:=hEw4.size;have hlw4:=hBw4.lt
 have hSw4:Bs w3.heap.size (w3.heap.size+1) w4 (pA w3.heap.size 0) 1 1 [UInt8.ofNat x.st]:=Bs.of_blk hBw4 (zcE x.hst) rfl (Nat.le_refl _) (by decide) (Nat.le_refl _) (Nat.lt_succ_self _)
 refine ⟨.inr hEw4, ?_⟩
 refine zz 5 63 (zo (some 15) (Instr.buildSlice 190 2 #[(0,(.slice (pA w3.heap.size 0) 1 1)),(1,(.slice (pA w.heap.size 1) 32 32))]) (.slice (pA w4.heap.size 0) 2 2) [(.slice (pA w3.heap.size 0) 1 1),(.slice (pA w.heap.size 1) 32 32)] 23 ?_)
 intro w5 hBw5 hEw5
 have hzw5:=hEw5.size;have hlw5:=hBw5.lt
 have hSw5:Ps 0 w5.heap.size w5 (pA w4.heap.size 0) 2 2 [(.slice (pA w3.heap.size 0) 1 1),(.slice (pA w.heap.size 1) 32 32)] [[UInt8.ofNat x.st],x.dg.l]:=Ps.of_new hBw5 rfl (by decide) (zaZ.cons (zcK.at (hSw4.ext hEw5)) (zaZ.cons (zcK.at (((hS1.ext hEw4)).ext hEw5)) zaZ.nil))
 have hX1:Ext w3 w5:=(hEw4.trans hEw5)
 refine ⟨.inr hX1, ?_⟩
 refine zz 6 127 (zl (some 16) (ziv _ hSw5 (by simp [zX,zbl,x.dg.h])) ?_)
 rintro _ w6 ⟨a1,rfl,hFz2_0,hFz2_1,hFz2_2,hFz2_3,hEw6⟩
 have hzw6:=hEw6.size
 have hla1:=hFz2_1.lt;have hna1:=hFz2_3
 have hSa1:Bs a1 (a1+1) w6 (pA a1 0) (zX ([[UInt8.ofNat x.st],x.dg.l])) (zX ([[UInt8.ofNat x.st],x.dg.l])) (([[UInt8.ofNat x.st],x.dg.l]).flatten):=Bs.of_blk hFz2_1 rfl hFz2_2 (Nat.le_refl _) (zcd hna1) (Nat.le_refl _) (Nat.lt_succ_self _)
 rw [show zX ([[UInt8.ofNat x.st],x.dg.l])=33 from by simp [zX,zbl,x.dg.h]]
 have hX2:Ext w3 w6:=((hEw4.trans hEw5).trans hEw6)
 refine ⟨.inr hX2, ?_⟩
 refine zh (hw:=hX2) hT543 [(7,2,(.slice (pA a1 0) 33 33)),(8,3,(vI 0))] 2 511 (zJ (zb (zq (zr (.tuple #[(.slice (pA a1 0) 33 33),(vI 0)]) ?_))))
 have hX3:Ext w w6:=(((((hEw1.trans hEw2).trans hEw3).trans hEw4).trans hEw5).trans hEw6)
 have hz:=hSa1
 rw [show zX ([[UInt8.ofNat x.st],x.dg.l])=33 from by simp [zX,zbl,x.dg.h],show ([[UInt8.ofNat x.st],x.dg.l]).flatten=zbR x from by simp [zbF,zbR,zc3]] at hz
 exact ⟨_,rfl,hz.mono (by omega) (by omega),hX3⟩
end Go.Proofs.YtkmhgepdhilllaaGreatDoor
namespace Go.Proofs.YtkmhgepdhilllaaGreatDoor
open Go Go.RowKit Go.Cs
set_option maxRecDepth 100000
end Go.Proofs.YtkmhgepdhilllaaGreatDoor
namespace Go.Proofs.YtkmhgepdhilllaaGreatDoor
open Go Go.RowKit Go.Cs
set_option maxRecDepth 100000
end Go.Proofs.YtkmhgepdhilllaaGreatDoor
namespace Go.Proofs.YtkmhgepdhilllaaGreatDoor
open Go Go.RowKit Go.Cs
set_option maxRecDepth 100000
theorem zl7 (n:Nat) (w:World) (hp0:1≤n) (hp1:n≤4096):
  Calls Tryz.prog 124 #[(vI n)] w (Ret fun r w'=>r=(vI 0)∧w=w'):=by
 refine zI (n:=9) (σ:= [(0,(vI n))]) Tryz.func124 rfl ?_
 refine ze (zd (zc 1 [(2,(vI 0))] (zf (zb (ze (ze (zd (zc 1 [(3,(vI n))] (za (zai (some 4) (decide (((n:Nat):Int)<((1:Nat):Int))) false (zcu (by omega)) ?_))))))))))
 refine zc 2 [(6,(vI n)),(5,vF)] (za (zai (some 7) (decide (((n:Nat):Int)>((4096:Nat):Int))) false (zcu (by omega)) ?_))
 refine zc 1 [(8,vF)] (zf (zb (zn (zu (zb (ze (zd (zc 1 [(2,(vI 0))] (zf ?_)))))))))
 exact zb (zq (zr (vI 0) (⟨rfl,rfl⟩)))
theorem znY (n:Int) (w:World) (hp0:n<1):
  Calls Tryz.prog 124 #[(.int .i64 n)] w (Ret fun r w'=>r=(vI 1)∧w=w'):=by
 refine zI (n:=9) (σ:= [(0,(.int .i64 n))]) Tryz.func124 rfl ?_
 refine ze (zd (zc 1 [(2,(vI 0))] (zf (zb (ze (ze (zd (zc 1 [(3,(.int .i64 n))] (za (zai (some 4) (decide (n<((1:Nat):Int))) true (zfJ (by omega)) ?_))))))))))
 refine zc 4 [(8,vT),(7,undef),(6,undef),(5,vT)] (zf (zb (zC (ze (zd (zc 1 [(2,(vI 1))] (zf (zb (zq ?_)))))))))
 exact zD (zr (vI 1) (⟨rfl,rfl⟩))
theorem znS (n:Int) (w:World) (hp0:n>4096):
  Calls Tryz.prog 124 #[(.int .i64 n)] w (Ret fun r w'=>r=(vI 1)∧w=w'):=by
 refine zI (n:=9) (σ:= [(0,(.int .i64 n))]) Tryz.func124 rfl ?_
 refine ze (zd (zc 1 [(2,(vI 0))] (zf (zb (ze (ze (zd (zc 1 [(3,(.int .i64 n))] (za (zai (some 4) (decide (n<((1:Nat):Int))) false (zcu (by omega)) ?_))))))))))
 refine zc 2 [(6,(.int .i64 n)),(5,vF)] (za (zai (some 7) (decide (n>((4096:Nat):Int))) true (zfJ (by omega)) ?_))
 refine zc 1 [(8,vT)] (zf (zb (zC (ze (zd (zc 1 [(2,(vI 1))] (zf (zb (zq ?_)))))))))
 exact zD (zr (vI 1) (⟨rfl,rfl⟩))
theorem zmA (n:Int) (w:World) (hp0:¬(1≤n∧n≤4096)):
  Calls Tryz.prog 124 #[(.int .i64 n)] w (Ret fun r w'=>r=(vI 1)∧w=w'):=by
 by_cases h:n<1
 ·exact znY n w h
 ·exact znS n w (by omega)
theorem zlP (n:Nat) (w:World) (hp0:n≤4096):
  Calls Tryz.prog 143 #[(vI n)] w (Ret fun r w'=>r=(vI (up4 n))∧w=w'):=by
 refine zI (n:=7) (σ:= [(0,(vI n))]) Tryz.func143 rfl ?_
 refine ze (zd (zc 1 [(2,(vI 0))] (zf (zb (ze (zd (zc 1 [(3,(vI n))] (za (zt (some 4) .i64 (IntKind.i64.wrap (((n:Nat):Int)+((4:Nat):Int))) (n+4) (zA (by omega) (by omega) (by omega)) ?_)))))))))
 refine za (zt (some 5) .i64 (IntKind.i64.wrap (((n+4:Nat):Int)-((1:Nat):Int))) (n+3) (zA (by omega) (by omega) (by omega)) ?_)
 refine za (zt (some 6) .i64 (IntKind.i64.wrap (((n+3:Nat):Int).tdiv ((4:Nat):Int))) ((n+3)/4) (zA (zdP _ _) (by omega) (by omega)) ?_)
 exact zc 1 [(2,(vI ((n+3)/4)))] (zf (zb (zq (zr (vI ((n+3)/4)) (⟨rfl,rfl⟩)))))
theorem zo6 (n:Nat) (w:World) (hp0:1≤n) (hp1:n≤4096):
  Calls Tryz.prog 130 #[(vI n)] w (Ret fun r w'=>∃a0 ca0,r=(.slice a0 (hgt n+1) ca0)∧Es (nv .i64) w.heap.size w'.heap.size w' a0 (hgt n+1) ca0 (cts n)∧Ext w w'):=by
 refine zI (n:=18) (σ:= [(0,(vI n))]) Tryz.func130 rfl ?_
 refine ze (zd (zc 1 [(2,(.slice none 0 0))] (zf (zb (ze (zd (za (zo (some 3) (Instr.alloc 224 true (.tuple #[])) (vP w.heap.size 0) (List.replicate 6 (vI 0)) 224 ?_))))))))
 intro w1 hBw1 hEw1
 have hzw1:=hEw1.size;have hlw1:=hBw1.lt
 refine zf (zb (ze (zd (za (zj (some 6) (Instr.sliceAt 224 (vP w.heap.size 0) (some (vI 0)) (some (vI 0)) (some (vI 6))) (.slice (pA w.heap.size 0) 0 6) (znK (len:=6) (E:=3) (sz:=1) (l:=0) (r:=0) (m:=6) (.inr ⟨_,rfl⟩) (.inr ⟨_,rfl⟩) (.inr ⟨_,rfl⟩) (by simp) (by omega) (by omega) (by omega)) ?_)))))
 refine zc 1 [(4,(.slice (pA w.heap.size 0) 0 6))] (zf (zb (ze (zd (zc 1 [(7,(vI n))] (za (zl (some 8) (zlP n _ (by omega)) ?_)))))))
 rintro _ _ ⟨rfl,rfl⟩
 refine zc 1 [(5,(vI (up4 n)))] (zf (zb (zy (zY (X:=Nat) (fun k=> [(4,(.slice (pA w.heap.size 0) k 6)),(5,(vI (cnt n k)))]) [2,9,10,11,12,13,14,15,16,17] (fun k w2=>k≤hgt n∧Blk w2 w.heap.size (((cts n).take k).map (nv .i64)++List.replicate (6-k) (vI 0)) 224∧Ext w w2) (fun k=>hgt n-k) 0 (by kernel_rfl) ⟨by omega,hBw1,hEw1⟩ ?_))))
 rintro k dw2 w2 ⟨hk,hBl,hEl⟩
 have hzl:=hEl.size;have hll:=hBl.lt;have h5:=zat n;have hcn:=zbf n k
 refine ze (zy (ze (zd (zc 2 [(12,(vI (cnt n k))),(11,(.slice (pA w.heap.size 0) k 6))] (za (zo (some 13) (Instr.buildSlice 29 1 #[(0,(vI (cnt n k)))]) (.slice (pA w2.heap.size 0) 1 1) [(vI (cnt n k))] 3 ?_))))))
 intro w3 hBw3 hEw3
 have hzw3:=hEw3.size;have hlw3:=hBw3.lt
 have hSw3:Es (nv .i64) w2.heap.size (w2.heap.size+1) w3 (pA w2.heap.size 0) 1 1 ([cnt n k]):=Es.of_blk hBw3 rfl rfl (Nat.le_refl _) (by decide) (Nat.le_refl _) (Nat.lt_succ_self _)
 refine za (zcT (some 14) 29 29 3 1 w.heap.size k 6 ⟨w2.heap.size,0,none⟩ 1 1 (hBl.ext hEw3) hSw3.sla rfl (by simp [nv,Value.oneCell']) (by simp [zdN];omega) ?_)
 intro w4 hBw4 hCw4
 have hzw4:=hCw4.size
 replace hBw4:Blk w4 w.heap.size (((cts n).take (k+1)).map (nv .i64)++List.replicate (6-(k+1)) (vI 0)) 224:=zrL hk▸hBw4
 refine zc 1 [(4,(.slice (pA w.heap.size 0) (k+1) 6))] (zf (zb (ze (zd (zc 1 [(15,(vI (cnt n k)))] (za (zK (some 16) ((((cnt n k:Nat):Int)==((1:Nat):Int))) (fun hc16=> ?_) (fun hc16=> ?_))))))))
 ·replace hc16:cnt n k=1:=by have:=zbp hc16;omega
  obtain rfl:=(zfR hp0 hp1 hk).1 hc16
  refine zf (zb (zC (ze (zd (zc 2 [(2,(.slice (pA w.heap.size 0) (hgt n+1) 6)),(17,(.slice (pA w.heap.size 0) (hgt n+1) 6))] (zf (zb (zq (zG ?_)))))))))
  refine zD (zD (zG (zr (.slice (pA w.heap.size 0) (hgt n+1) 6) ?_)))
  have hBf:=hBw4
  rw [List.take_of_length_le (by rw [zdN];omega)] at hBf
  exact ⟨_,_,rfl,Es.of_pre hBf (zdN n).symm (by omega) (by decide) (by omega) (by omega),(Ext.own (hEl.trans hEw3) hCw4 (by omega))⟩
 ·replace hc16:¬(cnt n k=1):=by have:=zbo hc16;omega
  have hlt:k<hgt n:=by rcases Nat.lt_or_ge k (hgt n) with h | h;exact h;exact absurd ((zfR hp0 hp1 hk).2 (by omega)) hc16
  refine zf (zb (zn (zu (zp (zb (zd (zc 1 [(9,(vI (cnt n k)))] (za (zl (some 10) (zlP (cnt n k) _ (by omega)) ?_)))))))))
  rintro _ _ ⟨rfl,rfl⟩
  refine zc 1 [(5,(vI (up4 (cnt n k))))] (zf (zF (zR (k+1) ?_ ?_)))
  ·exact ⟨by omega,hBw4,(Ext.own (hEl.trans hEw3) hCw4 (by omega))⟩
  ·first | omega |(dsimp only;omega)
theorem ziJ (n:Nat) (w:World) (hp0:1≤n) (hp1:n≤4096):
  Calls Tryz.prog 107 #[(vI n)] w (Ret fun r w'=>∃a1 ca1,r=(.tuple #[(vA [(vI n),(.slice a1 (hgt n+1) ca1)]),(vI 0)])∧Es (nv .i64) w.heap.size w'.heap.size w' a1 (hgt n+1) ca1 (cts n)∧Ext w w'):=by
 refine zI (n:=15) (σ:= [(0,(vI n))]) Tryz.func107 rfl ?_
 refine ze (zd (za (zo (some 2) (Instr.alloc 179 true (.tuple #[])) (vP w.heap.size 0) ([(vI 0),(.slice none 0 0)]) 179 ?_)))
 intro w1 hBw1 hEw1
 have hzw1:=hEw1.size;have hlw1:=hBw1.lt
 refine zc 1 [(3,(vI 0))] (zf (zb (ze (ze (zd (zc 1 [(5,(vI n))] (za (zl (some 6) (zl7 n _ (by omega) (by omega)) ?_))))))))
 rintro _ _ ⟨rfl,rfl⟩
 refine zc 1 [(4,(vI 0))] (zf (zb (ze (zd (zc 2 [(8,vF),(7,(vI 0))] (zf (zb (zn (zu ?_)))))))))
 refine zb (ze (zd (zc 2 [(12,(vI n)),(11,(vI n))] (za (zl (some 13) (zo6 n _ (by omega) (by omega)) ?_)))))
 rintro _ w2 ⟨a1,ca1,rfl,hFz2_0,hEw2⟩
 have hzw2:=hEw2.size
 have hlea1:=hFz2_0.le
 refine zc 1 [(14,(vA [(vI n),(.slice a1 (hgt n+1) ca1)]))] (za (zv 179 w.heap.size 0 179 (vA [(vI n),(.slice a1 (hgt n+1) ca1)]) ([(vI 0),(.slice none 0 0)]) ([(vI n),(.slice a1 (hgt n+1) ca1)]) (hBw1.ext hEw2) (by kernel_rfl) (by first | decide |(simp;done)|(simp;omega)) (by simp [Value.oneCell']) ?_))
 intro w3 hBw3 hCw3
 have hzw3:=hCw3.size
 rw [zm _ _ (by kernel_rfl)] at hBw3
 exact zc 1 [(3,(vI 0))] (zf (zb (zq (zaX (show zZ Tryz.prog 15 _ _ (.cell 2 179) (vA [(vI n),(.slice a1 (hgt n+1) ca1)]) from ⟨⟨w.heap.size,0,none⟩,(by kernel_rfl),zN (T:=179) (vs:= [(vI n),(.slice a1 (hgt n+1) ca1)]) (hBw3).all (by kernel_rfl)⟩) (show zZ Tryz.prog 15 _ _ (.tmp 3) (vI 0) by (show _=_;kernel_rfl)) (⟨_,_,rfl,(((hFz2_0).chg hCw3 (fun k h1 h2 hs=>by have h:k=_:=hs;omega))).now.mono (by omega) (Nat.le_refl _),(Ext.own (hEw1.trans hEw2) hCw3 (by omega))⟩)))))
theorem zlG (n:Int) (w:World) (hp0:¬(1≤n∧n≤4096)):
  Calls Tryz.prog 107 #[(.int .i64 n)] w (Ret fun r w'=>r=(.tuple #[(vA [(vI 0),(.slice none 0 0)]),(vI 1)])∧Ext w w'):=by
 refine zI (n:=15) (σ:= [(0,(.int .i64 n))]) Tryz.func107 rfl ?_
 refine ze (zd (za (zo (some 2) (Instr.alloc 179 true (.tuple #[])) (vP w.heap.size 0) ([(vI 0),(.slice none 0 0)]) 179 ?_)))
 intro w1 hBw1 hEw1
 have hzw1:=hEw1.size;have hlw1:=hBw1.lt
 refine zc 1 [(3,(vI 0))] (zf (zb (ze (ze (zd (zc 1 [(5,(.int .i64 n))] (za (zl (some 6) (zmA n _ (by omega)) ?_))))))))
 rintro _ _ ⟨rfl,rfl⟩
 refine zc 1 [(4,(vI 1))] (zf (zb (ze (zd (zc 2 [(8,vT),(7,(vI 1))] (zf (zb (zC (ze ?_)))))))))
 refine zd (zc 2 [(10,(vI 1)),(9,(vA [(vI 0),(.slice none 0 0)]))] (za (zv 179 w.heap.size 0 179 (vA [(vI 0),(.slice none 0 0)]) ([(vI 0),(.slice none 0 0)]) ([(vI 0),(.slice none 0 0)]) hBw1 (by kernel_rfl) (by first | decide |(simp;done)|(simp;omega)) (by simp [Value.oneCell']) ?_)))
 intro w2 hBw2 hCw2
 have hzw2:=hCw2.size
 rw [zm _ _ (by kernel_rfl)] at hBw2
 exact zc 1 [(3,(vI 1))] (zf (zb (zq (zD (zaX (show zZ Tryz.prog 15 _ _ (.cell 2 179) (vA [(vI 0),(.slice none 0 0)]) from ⟨⟨w.heap.size,0,none⟩,(by kernel_rfl),zN (T:=179) (vs:= [(vI 0),(.slice none 0 0)]) (hBw2).all (by kernel_rfl)⟩) (show zZ Tryz.prog 15 _ _ (.tmp 3) (vI 1) by (show _=_;kernel_rfl)) (⟨rfl,(Ext.own hEw1 hCw2 (by omega))⟩))))))
end Go.Proofs.YtkmhgepdhilllaaGreatDoor
namespace Go.Proofs.YtkmhgepdhilllaaGreatDoor
open Go Go.RowKit Go.Cs
set_option maxRecDepth 100000
theorem zsH (n:Nat) (l:Nat) (j:Nat) (w:World) (hp0:1≤n) (hp1:n≤4096) (hp2:l≤hgt n) (hp3:j<cnt n l):
  Calls Tryz.prog 108 #[(vI n),(vA [(vI l),(vI j)])] w (Ret fun r w'=>∃a1 ca1,r=(.tuple #[(vA [(vI n),(.slice a1 (hgt n+1) ca1)]),(vI 0)])∧Es (nv .i64) w.heap.size w'.heap.size w' a1 (hgt n+1) ca1 (cts n)∧Ext w w'):=by
 refine zI (n:=46) (σ:= [(0,(vI n)),(1,(vA [(vI l),(vI j)]))]) Tryz.func108 rfl ?_
 have h5:=zat n
 refine ze (zd (za (zo (some 3) (Instr.box 89 (vA [(vI l),(vI j)])) (vP w.heap.size 0) ([(vI l),(vI j)]) 89 ?_)))
 intro w1 hBw1 hEw1
 have hzw1:=hEw1.size;have hlw1:=hBw1.lt
 refine za (zo (some 4) (Instr.alloc 179 true (.tuple #[])) (vP w1.heap.size 0) ([(vI 0),(.slice none 0 0)]) 179 ?_)
 intro w2 hBw2 hEw2
 have hzw2:=hEw2.size;have hlw2:=hBw2.lt
 refine zc 1 [(5,(vI 0))] (zf (zb (ze (zd (zc 1 [(9,(vI n))] (za (zl (some 10) (ziJ n _ (by omega) (by omega)) ?_)))))))
 rintro _ w3 ⟨a1,ca1,rfl,hFz1_0,hEw3⟩
 have hzw3:=hEw3.size
 have hlea1:=hFz1_0.le
 refine zc 3 [(12,(vI 0)),(11,(vA [(vI n),(.slice a1 (hgt n+1) ca1)])),(8,(.tuple #[(vA [(vI n),(.slice a1 (hgt n+1) ca1)]),(vI 0)]))] (za (zo (some 6) (Instr.alloc 179 true (.tuple #[])) (vP w3.heap.size 0) ([(vI 0),(.slice none 0 0)]) 179 ?_))
 intro w4 hBw4 hEw4
 have hzw4:=hEw4.size;have hlw4:=hBw4.lt
 refine za (zv 179 w3.heap.size 0 179 (vA [(vI n),(.slice a1 (hgt n+1) ca1)]) ([(vI 0),(.slice none 0 0)]) ([(vI n),(.slice a1 (hgt n+1) ca1)]) hBw4 (by kernel_rfl) (by first | decide |(simp;done)|(simp;omega)) (by simp [Value.oneCell']) ?_)
 intro w5 hBw5 hCw5
 have hzw5:=hCw5.size
 rw [zm _ _ (by kernel_rfl)] at hBw5
 refine zc 1 [(7,(vI 0))] (zf (zb (ze (ze (zT (Ext w5.drew) 31 [(14,128,0),(15,8192,1),(16,16384,2),(17,32776,4),(18,98304,12),(19,163840,20),(20,294912,36),(21,524296,64),(22,1572864,192),(23,524352,64),(24,4718592,576),(25,8912896,1088),(26,19398656,2368),(27,34111488,4164),(28,67141632,8260),(29,134217736,16384),(30,402653184,49152),(31,671088640,81920),(32,1207992320,147460),(33,2147516416,278532),(34,4294967304,524288),(35,12884901888,1572864),(36,4294967360,524288),(37,38654705664,4718592),(38,4294967304,524288),(39,141733920768,17301504),(40,347892350976,42467328),(41,554050781184,67633152),(42,1120986464256,136839168),(43,2203318255616,268959748),(44,4398046543872,536870916)] (fun hT35=> ?_))))))
 have hEw6:Ext w5 w5.drew:=Ext.drew w5
 generalize w5.drew=w6 at hEw6⊢
 have hzw6:=hEw6.size
 refine zh hT35 [(0,13,(vI 0))] 1 1 (zg hT35 1 3 (some 14) vT (zaD (((0:Nat):Int)==((0:Nat):Int)) (zas (by omega))) (zh hT35 [(2,15,vT),(3,16,(vP w.heap.size 0))] 2 15 ?_))
 have hK1:=(((((((((hBw1.ext hEw2)).ext hEw3)).ext hEw4)).chg hCw5 (fun hs=>by have h:_=_:=hs;omega))).ext hEw6)
 refine zg hT35 4 31 (some 17) (vI l) (zi (Instr.loadAt 3 (vP w.heap.size 0)) (fun w' hC=>zk ((hK1.ext hC).cell rfl))) (zg hT35 5 63 (some 18) vF (zaD (decide (((l:Nat):Int)<((0:Nat):Int))) (zcu (by omega))) (zh hT35 [(6,19,vF),(7,20,(vP w.heap.size 0))] 2 255 (zg hT35 8 511 (some 21) (vI l) (zi (Instr.loadAt 3 (vP w.heap.size 0)) (fun w' hC=>zk ((hK1.ext hC).cell rfl))) (zh hT35 [(9,22,(vP w3.heap.size 1))] 1 1023 (zg hT35 10 2047 (some 23) (.slice a1 (hgt n+1) ca1) (zi (Instr.loadAt 29 (vP w3.heap.size 1)) (fun w' hC=>zk (((hBw5.ext hEw6).ext hC).cell rfl))) (zh hT35 [(11,24,(vI (hgt n+1)))] 1 4095 (zg hT35 12 8191 (some 25) vF (zaD (decide (((l:Nat):Int)≥((hgt n+1:Nat):Int))) (zcu (by omega))) (zh hT35 [(13,26,vF),(14,27,vF),(15,28,(vP w.heap.size 1))] 3 65535 (zg hT35 16 131071 (some 29) (vI j) (zi (Instr.loadAt 3 (vP w.heap.size 1)) (fun w' hC=>zk ((hK1.ext hC).cell rfl))) ?_)))))))))
 refine zg hT35 17 262143 (some 30) vF (zaD (decide (((j:Nat):Int)<((0:Nat):Int))) (zcu (by omega))) (zh hT35 [(18,31,vF),(19,32,vF),(20,33,(vP w.heap.size 1))] 3 2097151 (zg hT35 21 4194303 (some 34) (vI j) (zi (Instr.loadAt 3 (vP w.heap.size 1)) (fun w' hC=>zk ((hK1.ext hC).cell rfl))) (zh hT35 [(22,35,(vP w3.heap.size 1))] 1 8388607 (zg hT35 23 16777215 (some 36) (.slice a1 (hgt n+1) ca1) (zi (Instr.loadAt 29 (vP w3.heap.size 1)) (fun w' hC=>zk (((hBw5.ext hEw6).ext hC).cell rfl))) (zh hT35 [(24,37,(vP w.heap.size 0))] 1 33554431 (zg hT35 25 67108863 (some 38) (vI l) (zi (Instr.loadAt 3 (vP w.heap.size 0)) (fun w' hC=>zk ((hK1.ext hC).cell rfl))) ?_))))))
 obtain ⟨b1,o1,rfl⟩:=hFz1_0.addr (by omega)
 refine zg hT35 26 134217727 (some 39) (vP b1 (o1+l*1)) (zi (Instr.indexAt 29 (.slice (pA b1 o1) (hgt n+1) ca1) (vI l)) (fun w' hC=>zP (E:=3) (sz:=1) (by omega))) ?_
 have hK2:=(((((hFz1_0.ext hEw4)).chg hCw5 (fun k h1 h2 hs=>by have h:k=_:=hs;omega))).ext hEw6)
 refine zg hT35 27 268435455 (some 40) (vI (gt (cts n) l)) (zi (Instr.loadAt 3 (vP b1 (o1+l*1))) (fun w' hC=>zk ((hK2.ext hC).celln (by omega)))) (zg hT35 28 536870911 (some 41) vF (zaD (decide (((j:Nat):Int)≥((gt (cts n) l:Nat):Int))) (zcu (by rw [zig hp2];omega))) (zh hT35 [(29,42,vF),(30,43,vF)] 2 2147483647 (zJ (zb (zn (zu (zb (ze (zd ?_)))))))))
 refine za (zj (some 44) (Instr.loadAt 179 (vP w3.heap.size 0)) (vA [(vI n),(.slice (pA b1 o1) (hgt n+1) ca1)]) (zw (vs:= [(vI n),(.slice (pA b1 o1) (hgt n+1) ca1)]) ((hBw5.ext hEw6).all)) ?_)
 refine zc 1 [(45,(vI 0))] ?_
 have hK3:=(((((((hBw2.ext hEw3)).ext hEw4)).chg hCw5 (fun hs=>by have h:_=_:=hs;omega))).ext hEw6)
 refine za (zv 179 w1.heap.size 0 179 (vA [(vI n),(.slice (pA b1 o1) (hgt n+1) ca1)]) ([(vI 0),(.slice none 0 0)]) ([(vI n),(.slice (pA b1 o1) (hgt n+1) ca1)]) hK3 (by kernel_rfl) (by first | decide |(simp;done)|(simp;omega)) (by simp [Value.oneCell']) ?_)
 have hK4:=(((((((hBw2.ext hEw3)).ext hEw4)).chg hCw5 (fun hs=>by have h:_=_:=hs;omega))).ext hEw6)
 intro w7 hBw7 hCw7
 have hzw7:=hCw7.size
 rw [zm _ _ (by kernel_rfl)] at hBw7
 refine zc 1 [(5,(vI 0))] (zf (zb (zq (zaX (show zZ Tryz.prog 46 _ _ (.cell 4 179) (vA [(vI n),(.slice (pA b1 o1) (hgt n+1) ca1)]) from ⟨⟨w1.heap.size,0,none⟩,(by kernel_rfl),zN (T:=179) (vs:= [(vI n),(.slice (pA b1 o1) (hgt n+1) ca1)]) (hBw7).all (by kernel_rfl)⟩) (show zZ Tryz.prog 46 _ _ (.tmp 5) (vI 0) by (show _=_;kernel_rfl)) ?_))))
 have hX1:Ext w w7:=(Ext.own ((Ext.own (((hEw1.trans hEw2).trans hEw3).trans hEw4) hCw5 (by omega)).trans hEw6) hCw7 (by omega))
 exact ⟨_,_,rfl,(((hK2).chg hCw7 (fun k h1 h2 hs=>by have h:k=_:=hs;omega))).now.mono (by omega) (Nat.le_refl _),hX1⟩
theorem zs8 (n:Int) (l:Int) (j:Int) (w:World) (hp0:¬(1≤n∧n≤4096)):
  Calls Tryz.prog 108 #[(.int .i64 n),(vA [(.int .i64 l),(.int .i64 j)])] w (Ret fun r w'=>∃(a0:Int) (a1:Option Addr) (na1:Nat) (ca1:Nat),r=(.tuple #[(vA [(.int .i64 a0),(.slice a1 na1 ca1)]),(vI 1)])∧Ext w w'):=by
 refine zI (n:=46) (σ:= [(0,(.int .i64 n)),(1,(vA [(.int .i64 l),(.int .i64 j)]))]) Tryz.func108 rfl ?_
 refine ze (zd (za (zo (some 3) (Instr.box 89 (vA [(.int .i64 l),(.int .i64 j)])) (vP w.heap.size 0) ([(.int .i64 l),(.int .i64 j)]) 89 ?_)))
 intro w1 hBw1 hEw1
 have hzw1:=hEw1.size;have hlw1:=hBw1.lt
 refine za (zo (some 4) (Instr.alloc 179 true (.tuple #[])) (vP w1.heap.size 0) ([(vI 0),(.slice none 0 0)]) 179 ?_)
 intro w2 hBw2 hEw2
 have hzw2:=hEw2.size;have hlw2:=hBw2.lt
 refine zc 1 [(5,(vI 0))] (zf (zb (ze (zd (zc 1 [(9,(.int .i64 n))] (za (zl (some 10) (zlG n _ (by omega)) ?_)))))))
 rintro _ w3 ⟨rfl,hEw3⟩
 have hzw3:=hEw3.size
 refine zc 3 [(12,(vI 1)),(11,(vA [(vI 0),(.slice none 0 0)])),(8,(.tuple #[(vA [(vI 0),(.slice none 0 0)]),(vI 1)]))] (za (zo (some 6) (Instr.alloc 179 true (.tuple #[])) (vP w3.heap.size 0) ([(vI 0),(.slice none 0 0)]) 179 ?_))
 intro w4 hBw4 hEw4
 have hzw4:=hEw4.size;have hlw4:=hBw4.lt
 refine za (zv 179 w3.heap.size 0 179 (vA [(vI 0),(.slice none 0 0)]) ([(vI 0),(.slice none 0 0)]) ([(vI 0),(.slice none 0 0)]) hBw4 (by kernel_rfl) (by first | decide |(simp;done)|(simp;omega)) (by simp [Value.oneCell']) ?_)
 intro w5 hBw5 hCw5
 have hzw5:=hCw5.size
 rw [zm _ _ (by kernel_rfl)] at hBw5
 refine zc 1 [(7,(vI 1))] (zf (zb (ze (ze (zT (Ext w5.drew) 31 [(14,128,0),(15,8192,1),(16,16384,2),(17,32776,4),(18,98304,12),(19,163840,20),(20,294912,36),(21,524296,64),(22,1572864,192),(23,524352,64),(24,4718592,576),(25,8912896,1088),(26,19398656,2368),(27,34111488,4164),(28,67141632,8260),(29,134217736,16384),(30,402653184,49152),(31,671088640,81920),(32,1207992320,147460),(33,2147516416,278532),(34,4294967304,524288),(35,12884901888,1572864),(36,4294967360,524288),(37,38654705664,4718592),(38,4294967304,524288),(39,141733920768,17301504),(40,347892350976,42467328),(41,554050781184,67633152),(42,1120986464256,136839168),(43,2203318255616,268959748),(44,4398046543872,536870916)] (fun hT78=> ?_))))))
 have hEw6:Ext w5 w5.drew:=Ext.drew w5
 generalize w5.drew=w6 at hEw6⊢
 have hzw6:=hEw6.size
 refine zh hT78 [(0,13,(vI 1))] 1 1 (zg hT78 1 3 (some 14) vF (zaD (((1:Nat):Int)==((0:Nat):Int)) (zcc (by omega))) (zh hT78 [(2,15,vF),(3,16,undef),(4,17,undef),(5,18,undef),(6,19,undef),(7,20,undef),(8,21,undef),(9,22,undef),(10,23,undef),(11,24,undef),(12,25,undef),(13,26,undef),(14,27,undef),(15,28,undef),(16,29,undef),(17,30,undef),(18,31,undef),(19,32,undef),(20,33,undef),(21,34,undef),(22,35,undef),(23,36,undef),(24,37,undef),(25,38,undef),(26,39,undef),(27,40,undef),(28,41,undef),(29,42,undef),(30,43,vF)] 29 2147483647 (zJ (zb (zn (zu (zb (ze (zd ?_)))))))))
 refine za (zj (some 44) (Instr.loadAt 179 (vP w3.heap.size 0)) (vA [(vI 0),(.slice none 0 0)]) (zw (vs:= [(vI 0),(.slice none 0 0)]) ((hBw5.ext hEw6).all)) ?_)
 refine zc 1 [(45,(vI 1))] ?_
 have hK1:=(((((((hBw2.ext hEw3)).ext hEw4)).chg hCw5 (fun hs=>by have h:_=_:=hs;omega))).ext hEw6)
 refine za (zv 179 w1.heap.size 0 179 (vA [(vI 0),(.slice none 0 0)]) ([(vI 0),(.slice none 0 0)]) ([(vI 0),(.slice none 0 0)]) hK1 (by kernel_rfl) (by first | decide |(simp;done)|(simp;omega)) (by simp [Value.oneCell']) ?_)
 have hK2:=(((((((hBw2.ext hEw3)).ext hEw4)).chg hCw5 (fun hs=>by have h:_=_:=hs;omega))).ext hEw6)
 intro w7 hBw7 hCw7
 have hzw7:=hCw7.size
 rw [zm _ _ (by kernel_rfl)] at hBw7
 refine zc 1 [(5,(vI 1))] (zf (zb (zq (zaX (show zZ Tryz.prog 46 _ _ (.cell 4 179) (vA [(vI 0),(.slice none 0 0)]) from ⟨⟨w1.heap.size,0,none⟩,(by kernel_rfl),zN (T:=179) (vs:= [(vI 0),(.slice none 0 0)]) (hBw7).all (by kernel_rfl)⟩) (show zZ Tryz.prog 46 _ _ (.tmp 5) (vI 1) by (show _=_;kernel_rfl)) ?_))))
 have hX1:Ext w w7:=(Ext.own ((Ext.own (((hEw1.trans hEw2).trans hEw3).trans hEw4) hCw5 (by omega)).trans hEw6) hCw7 (by omega))
 exact ⟨_,_,_,_,rfl,hX1⟩
theorem zs2 (n:Nat) (l:Int) (j:Int) (w:World) (hp0:1≤n) (hp1:n≤4096) (hp2:l<0):
  Calls Tryz.prog 108 #[(vI n),(vA [(.int .i64 l),(.int .i64 j)])] w (Ret fun r w'=>∃(a0:Int) (a1:Option Addr) (na1:Nat) (ca1:Nat),r=(.tuple #[(vA [(.int .i64 a0),(.slice a1 na1 ca1)]),(vI 1)])∧Ext w w'):=by
 refine zI (n:=46) (σ:= [(0,(vI n)),(1,(vA [(.int .i64 l),(.int .i64 j)]))]) Tryz.func108 rfl ?_
 refine ze (zd (za (zo (some 3) (Instr.box 89 (vA [(.int .i64 l),(.int .i64 j)])) (vP w.heap.size 0) ([(.int .i64 l),(.int .i64 j)]) 89 ?_)))
 intro w1 hBw1 hEw1
 have hzw1:=hEw1.size;have hlw1:=hBw1.lt
 refine za (zo (some 4) (Instr.alloc 179 true (.tuple #[])) (vP w1.heap.size 0) ([(vI 0),(.slice none 0 0)]) 179 ?_)
 intro w2 hBw2 hEw2
 have hzw2:=hEw2.size;have hlw2:=hBw2.lt
 refine zc 1 [(5,(vI 0))] (zf (zb (ze (zd (zc 1 [(9,(vI n))] (za (zl (some 10) (ziJ n _ (by omega) (by omega)) ?_)))))))
 rintro _ w3 ⟨a1,ca1,rfl,hFz1_0,hEw3⟩
 have hzw3:=hEw3.size
 have hlea1:=hFz1_0.le
 refine zc 3 [(12,(vI 0)),(11,(vA [(vI n),(.slice a1 (hgt n+1) ca1)])),(8,(.tuple #[(vA [(vI n),(.slice a1 (hgt n+1) ca1)]),(vI 0)]))] (za (zo (some 6) (Instr.alloc 179 true (.tuple #[])) (vP w3.heap.size 0) ([(vI 0),(.slice none 0 0)]) 179 ?_))
 intro w4 hBw4 hEw4
 have hzw4:=hEw4.size;have hlw4:=hBw4.lt
 refine za (zv 179 w3.heap.size 0 179 (vA [(vI n),(.slice a1 (hgt n+1) ca1)]) ([(vI 0),(.slice none 0 0)]) ([(vI n),(.slice a1 (hgt n+1) ca1)]) hBw4 (by kernel_rfl) (by first | decide |(simp;done)|(simp;omega)) (by simp [Value.oneCell']) ?_)
 intro w5 hBw5 hCw5
 have hzw5:=hCw5.size
 rw [zm _ _ (by kernel_rfl)] at hBw5
 refine zc 1 [(7,(vI 0))] (zf (zb (ze (ze (zT (Ext w5.drew) 31 [(14,128,0),(15,8192,1),(16,16384,2),(17,32776,4),(18,98304,12),(19,163840,20),(20,294912,36),(21,524296,64),(22,1572864,192),(23,524352,64),(24,4718592,576),(25,8912896,1088),(26,19398656,2368),(27,34111488,4164),(28,67141632,8260),(29,134217736,16384),(30,402653184,49152),(31,671088640,81920),(32,1207992320,147460),(33,2147516416,278532),(34,4294967304,524288),(35,12884901888,1572864),(36,4294967360,524288),(37,38654705664,4718592),(38,4294967304,524288),(39,141733920768,17301504),(40,347892350976,42467328),(41,554050781184,67633152),(42,1120986464256,136839168),(43,2203318255616,268959748),(44,4398046543872,536870916)] (fun hT115=> ?_))))))
 have hEw6:Ext w5 w5.drew:=Ext.drew w5
 generalize w5.drew=w6 at hEw6⊢
 have hzw6:=hEw6.size
 refine zh hT115 [(0,13,(vI 0))] 1 1 (zg hT115 1 3 (some 14) vT (zaD (((0:Nat):Int)==((0:Nat):Int)) (zas (by omega))) (zh hT115 [(2,15,vT),(3,16,(vP w.heap.size 0))] 2 15 ?_))
 have hK1:=(((((((((hBw1.ext hEw2)).ext hEw3)).ext hEw4)).chg hCw5 (fun hs=>by have h:_=_:=hs;omega))).ext hEw6)
 refine zg hT115 4 31 (some 17) (.int .i64 l) (zi (Instr.loadAt 3 (vP w.heap.size 0)) (fun w' hC=>zk ((hK1.ext hC).cell rfl))) (zg hT115 5 63 (some 18) vT (zaD (decide (l<((0:Nat):Int))) (zfJ (by omega))) (zh hT115 [(6,19,vT),(7,20,undef),(8,21,undef),(9,22,undef),(10,23,undef),(11,24,undef),(12,25,undef),(13,26,vT),(14,27,vT),(15,28,undef),(16,29,undef),(17,30,undef),(18,31,vT),(19,32,vT),(20,33,undef),(21,34,undef),(22,35,undef),(23,36,undef),(24,37,undef),(25,38,undef),(26,39,undef),(27,40,undef),(28,41,undef),(29,42,vT),(30,43,vT)] 25 2147483647 (zJ (zb (zC (zd (zc 1 [(7,(vI 1))] (zf (zb ?_)))))))))
 refine ze (zd (za (zj (some 44) (Instr.loadAt 179 (vP w3.heap.size 0)) (vA [(vI n),(.slice a1 (hgt n+1) ca1)]) (zw (vs:= [(vI n),(.slice a1 (hgt n+1) ca1)]) ((hBw5.ext hEw6).all)) ?_)))
 refine zc 1 [(45,(vI 1))] ?_
 have hK2:=(((((((hBw2.ext hEw3)).ext hEw4)).chg hCw5 (fun hs=>by have h:_=_:=hs;omega))).ext hEw6)
 refine za (zv 179 w1.heap.size 0 179 (vA [(vI n),(.slice a1 (hgt n+1) ca1)]) ([(vI 0),(.slice none 0 0)]) ([(vI n),(.slice a1 (hgt n+1) ca1)]) hK2 (by kernel_rfl) (by first | decide |(simp;done)|(simp;omega)) (by simp [Value.oneCell']) ?_)
 have hK3:=(((((((hBw2.ext hEw3)).ext hEw4)).chg hCw5 (fun hs=>by have h:_=_:=hs;omega))).ext hEw6)
 intro w7 hBw7 hCw7
 have hzw7:=hCw7.size
 rw [zm _ _ (by kernel_rfl)] at hBw7
 refine zc 1 [(5,(vI 1))] (zf (zb (zq (zaX (show zZ Tryz.prog 46 _ _ (.cell 4 179) (vA [(vI n),(.slice a1 (hgt n+1) ca1)]) from ⟨⟨w1.heap.size,0,none⟩,(by kernel_rfl),zN (T:=179) (vs:= [(vI n),(.slice a1 (hgt n+1) ca1)]) (hBw7).all (by kernel_rfl)⟩) (show zZ Tryz.prog 46 _ _ (.tmp 5) (vI 1) by (show _=_;kernel_rfl)) ?_))))
 have hX1:Ext w w7:=(Ext.own ((Ext.own (((hEw1.trans hEw2).trans hEw3).trans hEw4) hCw5 (by omega)).trans hEw6) hCw7 (by omega))
 exact ⟨_,_,_,_,rfl,hX1⟩
theorem zth (n:Nat) (l:Int) (j:Int) (w:World) (hp0:1≤n) (hp1:n≤4096) (hp2:(hgt n:Int)<l):
  Calls Tryz.prog 108 #[(vI n),(vA [(.int .i64 l),(.int .i64 j)])] w (Ret fun r w'=>∃(a0:Int) (a1:Option Addr) (na1:Nat) (ca1:Nat),r=(.tuple #[(vA [(.int .i64 a0),(.slice a1 na1 ca1)]),(vI 1)])∧Ext w w'):=by
 refine zI (n:=46) (σ:= [(0,(vI n)),(1,(vA [(.int .i64 l),(.int .i64 j)]))]) Tryz.func108 rfl ?_
 refine ze (zd (za (zo (some 3) (Instr.box 89 (vA [(.int .i64 l),(.int .i64 j)])) (vP w.heap.size 0) ([(.int .i64 l),(.int .i64 j)]) 89 ?_)))
 intro w1 hBw1 hEw1
 have hzw1:=hEw1.size;have hlw1:=hBw1.lt
 refine za (zo (some 4) (Instr.alloc 179 true (.tuple #[])) (vP w1.heap.size 0) ([(vI 0),(.slice none 0 0)]) 179 ?_)
 intro w2 hBw2 hEw2
 have hzw2:=hEw2.size;have hlw2:=hBw2.lt
 refine zc 1 [(5,(vI 0))] (zf (zb (ze (zd (zc 1 [(9,(vI n))] (za (zl (some 10) (ziJ n _ (by omega) (by omega)) ?_)))))))
 rintro _ w3 ⟨a1,ca1,rfl,hFz1_0,hEw3⟩
 have hzw3:=hEw3.size
 have hlea1:=hFz1_0.le
 refine zc 3 [(12,(vI 0)),(11,(vA [(vI n),(.slice a1 (hgt n+1) ca1)])),(8,(.tuple #[(vA [(vI n),(.slice a1 (hgt n+1) ca1)]),(vI 0)]))] (za (zo (some 6) (Instr.alloc 179 true (.tuple #[])) (vP w3.heap.size 0) ([(vI 0),(.slice none 0 0)]) 179 ?_))
 intro w4 hBw4 hEw4
 have hzw4:=hEw4.size;have hlw4:=hBw4.lt
 refine za (zv 179 w3.heap.size 0 179 (vA [(vI n),(.slice a1 (hgt n+1) ca1)]) ([(vI 0),(.slice none 0 0)]) ([(vI n),(.slice a1 (hgt n+1) ca1)]) hBw4 (by kernel_rfl) (by first | decide |(simp;done)|(simp;omega)) (by simp [Value.oneCell']) ?_)
 intro w5 hBw5 hCw5
 have hzw5:=hCw5.size
 rw [zm _ _ (by kernel_rfl)] at hBw5
 refine zc 1 [(7,(vI 0))] (zf (zb (ze (ze (zT (Ext w5.drew) 31 [(14,128,0),(15,8192,1),(16,16384,2),(17,32776,4),(18,98304,12),(19,163840,20),(20,294912,36),(21,524296,64),(22,1572864,192),(23,524352,64),(24,4718592,576),(25,8912896,1088),(26,19398656,2368),(27,34111488,4164),(28,67141632,8260),(29,134217736,16384),(30,402653184,49152),(31,671088640,81920),(32,1207992320,147460),(33,2147516416,278532),(34,4294967304,524288),(35,12884901888,1572864),(36,4294967360,524288),(37,38654705664,4718592),(38,4294967304,524288),(39,141733920768,17301504),(40,347892350976,42467328),(41,554050781184,67633152),(42,1120986464256,136839168),(43,2203318255616,268959748),(44,4398046543872,536870916)] (fun hT154=> ?_))))))
 have hEw6:Ext w5 w5.drew:=Ext.drew w5
 generalize w5.drew=w6 at hEw6⊢
 have hzw6:=hEw6.size
 refine zh hT154 [(0,13,(vI 0))] 1 1 (zg hT154 1 3 (some 14) vT (zaD (((0:Nat):Int)==((0:Nat):Int)) (zas (by omega))) (zh hT154 [(2,15,vT),(3,16,(vP w.heap.size 0))] 2 15 ?_))
 have hK1:=(((((((((hBw1.ext hEw2)).ext hEw3)).ext hEw4)).chg hCw5 (fun hs=>by have h:_=_:=hs;omega))).ext hEw6)
 refine zg hT154 4 31 (some 17) (.int .i64 l) (zi (Instr.loadAt 3 (vP w.heap.size 0)) (fun w' hC=>zk ((hK1.ext hC).cell rfl))) (zg hT154 5 63 (some 18) vF (zaD (decide (l<((0:Nat):Int))) (zcu (by omega))) (zh hT154 [(6,19,vF),(7,20,(vP w.heap.size 0))] 2 255 (zg hT154 8 511 (some 21) (.int .i64 l) (zi (Instr.loadAt 3 (vP w.heap.size 0)) (fun w' hC=>zk ((hK1.ext hC).cell rfl))) (zh hT154 [(9,22,(vP w3.heap.size 1))] 1 1023 (zg hT154 10 2047 (some 23) (.slice a1 (hgt n+1) ca1) (zi (Instr.loadAt 29 (vP w3.heap.size 1)) (fun w' hC=>zk (((hBw5.ext hEw6).ext hC).cell rfl))) (zh hT154 [(11,24,(vI (hgt n+1)))] 1 4095 (zg hT154 12 8191 (some 25) vT (zaD (decide (l≥((hgt n+1:Nat):Int))) (zfJ (by omega))) (zh hT154 [(13,26,vT),(14,27,vT),(15,28,undef),(16,29,undef),(17,30,undef),(18,31,vT),(19,32,vT),(20,33,undef),(21,34,undef),(22,35,undef),(23,36,undef),(24,37,undef),(25,38,undef),(26,39,undef),(27,40,undef),(28,41,undef),(29,42,vT),(30,43,vT)] 18 2147483647 (zJ ?_)))))))))
 refine zb (zC (zd (zc 1 [(7,(vI 1))] (zf (zb (ze (zd (za (zj (some 44) (Instr.loadAt 179 (vP w3.heap.size 0)) (vA [(vI n),(.slice a1 (hgt n+1) ca1)]) (zw (vs:= [(vI n),(.slice a1 (hgt n+1) ca1)]) ((hBw5.ext hEw6).all)) ?_)))))))))
 refine zc 1 [(45,(vI 1))] ?_
 have hK2:=(((((((hBw2.ext hEw3)).ext hEw4)).chg hCw5 (fun hs=>by have h:_=_:=hs;omega))).ext hEw6)
 refine za (zv 179 w1.heap.size 0 179 (vA [(vI n),(.slice a1 (hgt n+1) ca1)]) ([(vI 0),(.slice none 0 0)]) ([(vI n),(.slice a1 (hgt n+1) ca1)]) hK2 (by kernel_rfl) (by first | decide |(simp;done)|(simp;omega)) (by simp [Value.oneCell']) ?_)
 have hK3:=(((((((hBw2.ext hEw3)).ext hEw4)).chg hCw5 (fun hs=>by have h:_=_:=hs;omega))).ext hEw6)
 intro w7 hBw7 hCw7
 have hzw7:=hCw7.size
 rw [zm _ _ (by kernel_rfl)] at hBw7
 refine zc 1 [(5,(vI 1))] (zf (zb (zq (zaX (show zZ Tryz.prog 46 _ _ (.cell 4 179) (vA [(vI n),(.slice a1 (hgt n+1) ca1)]) from ⟨⟨w1.heap.size,0,none⟩,(by kernel_rfl),zN (T:=179) (vs:= [(vI n),(.slice a1 (hgt n+1) ca1)]) (hBw7).all (by kernel_rfl)⟩) (show zZ Tryz.prog 46 _ _ (.tmp 5) (vI 1) by (show _=_;kernel_rfl)) ?_))))
 have hX1:Ext w w7:=(Ext.own ((Ext.own (((hEw1.trans hEw2).trans hEw3).trans hEw4) hCw5 (by omega)).trans hEw6) hCw7 (by omega))
 exact ⟨_,_,_,_,rfl,hX1⟩
theorem zs7 (n:Nat) (l:Nat) (j:Int) (w:World) (hp0:1≤n) (hp1:n≤4096) (hp2:l≤hgt n) (hp3:j<0):
  Calls Tryz.prog 108 #[(vI n),(vA [(vI l),(.int .i64 j)])] w (Ret fun r w'=>∃(a0:Int) (a1:Option Addr) (na1:Nat) (ca1:Nat),r=(.tuple #[(vA [(.int .i64 a0),(.slice a1 na1 ca1)]),(vI 1)])∧Ext w w'):=by
 refine zI (n:=46) (σ:= [(0,(vI n)),(1,(vA [(vI l),(.int .i64 j)]))]) Tryz.func108 rfl ?_
 refine ze (zd (za (zo (some 3) (Instr.box 89 (vA [(vI l),(.int .i64 j)])) (vP w.heap.size 0) ([(vI l),(.int .i64 j)]) 89 ?_)))
 intro w1 hBw1 hEw1
 have hzw1:=hEw1.size;have hlw1:=hBw1.lt
 refine za (zo (some 4) (Instr.alloc 179 true (.tuple #[])) (vP w1.heap.size 0) ([(vI 0),(.slice none 0 0)]) 179 ?_)
 intro w2 hBw2 hEw2
 have hzw2:=hEw2.size;have hlw2:=hBw2.lt
 refine zc 1 [(5,(vI 0))] (zf (zb (ze (zd (zc 1 [(9,(vI n))] (za (zl (some 10) (ziJ n _ (by omega) (by omega)) ?_)))))))
 rintro _ w3 ⟨a1,ca1,rfl,hFz1_0,hEw3⟩
 have hzw3:=hEw3.size
 have hlea1:=hFz1_0.le
 refine zc 3 [(12,(vI 0)),(11,(vA [(vI n),(.slice a1 (hgt n+1) ca1)])),(8,(.tuple #[(vA [(vI n),(.slice a1 (hgt n+1) ca1)]),(vI 0)]))] (za (zo (some 6) (Instr.alloc 179 true (.tuple #[])) (vP w3.heap.size 0) ([(vI 0),(.slice none 0 0)]) 179 ?_))
 intro w4 hBw4 hEw4
 have hzw4:=hEw4.size;have hlw4:=hBw4.lt
 refine za (zv 179 w3.heap.size 0 179 (vA [(vI n),(.slice a1 (hgt n+1) ca1)]) ([(vI 0),(.slice none 0 0)]) ([(vI n),(.slice a1 (hgt n+1) ca1)]) hBw4 (by kernel_rfl) (by first | decide |(simp;done)|(simp;omega)) (by simp [Value.oneCell']) ?_)
 intro w5 hBw5 hCw5
 have hzw5:=hCw5.size
 rw [zm _ _ (by kernel_rfl)] at hBw5
 refine zc 1 [(7,(vI 0))] (zf (zb (ze (ze (zT (Ext w5.drew) 31 [(14,128,0),(15,8192,1),(16,16384,2),(17,32776,4),(18,98304,12),(19,163840,20),(20,294912,36),(21,524296,64),(22,1572864,192),(23,524352,64),(24,4718592,576),(25,8912896,1088),(26,19398656,2368),(27,34111488,4164),(28,67141632,8260),(29,134217736,16384),(30,402653184,49152),(31,671088640,81920),(32,1207992320,147460),(33,2147516416,278532),(34,4294967304,524288),(35,12884901888,1572864),(36,4294967360,524288),(37,38654705664,4718592),(38,4294967304,524288),(39,141733920768,17301504),(40,347892350976,42467328),(41,554050781184,67633152),(42,1120986464256,136839168),(43,2203318255616,268959748),(44,4398046543872,536870916)] (fun hT193=> ?_))))))
 have hEw6:Ext w5 w5.drew:=Ext.drew w5
 generalize w5.drew=w6 at hEw6⊢
 have hzw6:=hEw6.size
 refine zh hT193 [(0,13,(vI 0))] 1 1 (zg hT193 1 3 (some 14) vT (zaD (((0:Nat):Int)==((0:Nat):Int)) (zas (by omega))) (zh hT193 [(2,15,vT),(3,16,(vP w.heap.size 0))] 2 15 ?_))
 have hK1:=(((((((((hBw1.ext hEw2)).ext hEw3)).ext hEw4)).chg hCw5 (fun hs=>by have h:_=_:=hs;omega))).ext hEw6)
 refine zg hT193 4 31 (some 17) (vI l) (zi (Instr.loadAt 3 (vP w.heap.size 0)) (fun w' hC=>zk ((hK1.ext hC).cell rfl))) (zg hT193 5 63 (some 18) vF (zaD (decide (((l:Nat):Int)<((0:Nat):Int))) (zcu (by omega))) (zh hT193 [(6,19,vF),(7,20,(vP w.heap.size 0))] 2 255 (zg hT193 8 511 (some 21) (vI l) (zi (Instr.loadAt 3 (vP w.heap.size 0)) (fun w' hC=>zk ((hK1.ext hC).cell rfl))) (zh hT193 [(9,22,(vP w3.heap.size 1))] 1 1023 (zg hT193 10 2047 (some 23) (.slice a1 (hgt n+1) ca1) (zi (Instr.loadAt 29 (vP w3.heap.size 1)) (fun w' hC=>zk (((hBw5.ext hEw6).ext hC).cell rfl))) (zh hT193 [(11,24,(vI (hgt n+1)))] 1 4095 (zg hT193 12 8191 (some 25) vF (zaD (decide (((l:Nat):Int)≥((hgt n+1:Nat):Int))) (zcu (by omega))) (zh hT193 [(13,26,vF),(14,27,vF),(15,28,(vP w.heap.size 1))] 3 65535 (zg hT193 16 131071 (some 29) (.int .i64 j) (zi (Instr.loadAt 3 (vP w.heap.size 1)) (fun w' hC=>zk ((hK1.ext hC).cell rfl))) ?_)))))))))
 refine zg hT193 17 262143 (some 30) vT (zaD (decide (j<((0:Nat):Int))) (zfJ (by omega))) (zh hT193 [(18,31,vT),(19,32,vT),(20,33,undef),(21,34,undef),(22,35,undef),(23,36,undef),(24,37,undef),(25,38,undef),(26,39,undef),(27,40,undef),(28,41,undef),(29,42,vT),(30,43,vT)] 13 2147483647 (zJ (zb (zC (zd (zc 1 [(7,(vI 1))] (zf (zb (ze ?_)))))))))
 refine zd (za (zj (some 44) (Instr.loadAt 179 (vP w3.heap.size 0)) (vA [(vI n),(.slice a1 (hgt n+1) ca1)]) (zw (vs:= [(vI n),(.slice a1 (hgt n+1) ca1)]) ((hBw5.ext hEw6).all)) ?_))
 refine zc 1 [(45,(vI 1))] ?_
 have hK2:=(((((((hBw2.ext hEw3)).ext hEw4)).chg hCw5 (fun hs=>by have h:_=_:=hs;omega))).ext hEw6)
 refine za (zv 179 w1.heap.size 0 179 (vA [(vI n),(.slice a1 (hgt n+1) ca1)]) ([(vI 0),(.slice none 0 0)]) ([(vI n),(.slice a1 (hgt n+1) ca1)]) hK2 (by kernel_rfl) (by first | decide |(simp;done)|(simp;omega)) (by simp [Value.oneCell']) ?_)
 have hK3:=(((((((hBw2.ext hEw3)).ext hEw4)).chg hCw5 (fun hs=>by have h:_=_:=hs;omega))).ext hEw6)
 intro w7 hBw7 hCw7
 have hzw7:=hCw7.size
 rw [zm _ _ (by kernel_rfl)] at hBw7
 refine zc 1 [(5,(vI 1))] (zf (zb (zq (zaX (show zZ Tryz.prog 46 _ _ (.cell 4 179) (vA [(vI n),(.slice a1 (hgt n+1) ca1)]) from ⟨⟨w1.heap.size,0,none⟩,(by kernel_rfl),zN (T:=179) (vs:= [(vI n),(.slice a1 (hgt n+1) ca1)]) (hBw7).all (by kernel_rfl)⟩) (show zZ Tryz.prog 46 _ _ (.tmp 5) (vI 1) by (show _=_;kernel_rfl)) ?_))))
 have hX1:Ext w w7:=(Ext.own ((Ext.own (((hEw1.trans hEw2).trans hEw3).trans hEw4) hCw5 (by omega)).trans hEw6) hCw7 (by omega))
 exact ⟨_,_,_,_,rfl,hX1⟩
theorem zs4 (n:Nat) (l:Nat) (j:Nat) (w:World) (hp0:1≤n) (hp1:n≤4096) (hp2:l≤hgt n) (hp3:cnt n l≤j):
  Calls Tryz.prog 108 #[(vI n),(vA [(vI l),(vI j)])] w (Ret fun r w'=>∃(a0:Int) (a1:Option Addr) (na1:Nat) (ca1:Nat),r=(.tuple #[(vA [(.int .i64 a0),(.slice a1 na1 ca1)]),(vI 1)])∧Ext w w'):=by
 refine zI (n:=46) (σ:= [(0,(vI n)),(1,(vA [(vI l),(vI j)]))]) Tryz.func108 rfl ?_
 have h5:=zat n
 refine ze (zd (za (zo (some 3) (Instr.box 89 (vA [(vI l),(vI j)])) (vP w.heap.size 0) ([(vI l),(vI j)]) 89 ?_)))
 intro w1 hBw1 hEw1
 have hzw1:=hEw1.size;have hlw1:=hBw1.lt
 refine za (zo (some 4) (Instr.alloc 179 true (.tuple #[])) (vP w1.heap.size 0) ([(vI 0),(.slice none 0 0)]) 179 ?_)
 intro w2 hBw2 hEw2
 have hzw2:=hEw2.size;have hlw2:=hBw2.lt
 refine zc 1 [(5,(vI 0))] (zf (zb (ze (zd (zc 1 [(9,(vI n))] (za (zl (some 10) (ziJ n _ (by omega) (by omega)) ?_)))))))
 rintro _ w3 ⟨a1,ca1,rfl,hFz1_0,hEw3⟩
 have hzw3:=hEw3.size
 have hlea1:=hFz1_0.le
 refine zc 3 [(12,(vI 0)),(11,(vA [(vI n),(.slice a1 (hgt n+1) ca1)])),(8,(.tuple #[(vA [(vI n),(.slice a1 (hgt n+1) ca1)]),(vI 0)]))] (za (zo (some 6) (Instr.alloc 179 true (.tuple #[])) (vP w3.heap.size 0) ([(vI 0),(.slice none 0 0)]) 179 ?_))
 intro w4 hBw4 hEw4
 have hzw4:=hEw4.size;have hlw4:=hBw4.lt
 refine za (zv 179 w3.heap.size 0 179 (vA [(vI n),(.slice a1 (hgt n+1) ca1)]) ([(vI 0),(.slice none 0 0)]) ([(vI n),(.slice a1 (hgt n+1) ca1)]) hBw4 (by kernel_rfl) (by first | decide |(simp;done)|(simp;omega)) (by simp [Value.oneCell']) ?_)
 intro w5 hBw5 hCw5
 have hzw5:=hCw5.size
 rw [zm _ _ (by kernel_rfl)] at hBw5
 refine zc 1 [(7,(vI 0))] (zf (zb (ze (ze (zT (Ext w5.drew) 31 [(14,128,0),(15,8192,1),(16,16384,2),(17,32776,4),(18,98304,12),(19,163840,20),(20,294912,36),(21,524296,64),(22,1572864,192),(23,524352,64),(24,4718592,576),(25,8912896,1088),(26,19398656,2368),(27,34111488,4164),(28,67141632,8260),(29,134217736,16384),(30,402653184,49152),(31,671088640,81920),(32,1207992320,147460),(33,2147516416,278532),(34,4294967304,524288),(35,12884901888,1572864),(36,4294967360,524288),(37,38654705664,4718592),(38,4294967304,524288),(39,141733920768,17301504),(40,347892350976,42467328),(41,554050781184,67633152),(42,1120986464256,136839168),(43,2203318255616,268959748),(44,4398046543872,536870916)] (fun hT234=> ?_))))))
 have hEw6:Ext w5 w5.drew:=Ext.drew w5
 generalize w5.drew=w6 at hEw6⊢
 have hzw6:=hEw6.size
 refine zh hT234 [(0,13,(vI 0))] 1 1 (zg hT234 1 3 (some 14) vT (zaD (((0:Nat):Int)==((0:Nat):Int)) (zas (by omega))) (zh hT234 [(2,15,vT),(3,16,(vP w.heap.size 0))] 2 15 ?_))
 have hK1:=(((((((((hBw1.ext hEw2)).ext hEw3)).ext hEw4)).chg hCw5 (fun hs=>by have h:_=_:=hs;omega))).ext hEw6)
 refine zg hT234 4 31 (some 17) (vI l) (zi (Instr.loadAt 3 (vP w.heap.size 0)) (fun w' hC=>zk ((hK1.ext hC).cell rfl))) (zg hT234 5 63 (some 18) vF (zaD (decide (((l:Nat):Int)<((0:Nat):Int))) (zcu (by omega))) (zh hT234 [(6,19,vF),(7,20,(vP w.heap.size 0))] 2 255 (zg hT234 8 511 (some 21) (vI l) (zi (Instr.loadAt 3 (vP w.heap.size 0)) (fun w' hC=>zk ((hK1.ext hC).cell rfl))) (zh hT234 [(9,22,(vP w3.heap.size 1))] 1 1023 (zg hT234 10 2047 (some 23) (.slice a1 (hgt n+1) ca1) (zi (Instr.loadAt 29 (vP w3.heap.size 1)) (fun w' hC=>zk (((hBw5.ext hEw6).ext hC).cell rfl))) (zh hT234 [(11,24,(vI (hgt n+1)))] 1 4095 (zg hT234 12 8191 (some 25) vF (zaD (decide (((l:Nat):Int)≥((hgt n+1:Nat):Int))) (zcu (by omega))) (zh hT234 [(13,26,vF),(14,27,vF),(15,28,(vP w.heap.size 1))] 3 65535 (zg hT234 16 131071 (some 29) (vI j) (zi (Instr.loadAt 3 (vP w.heap.size 1)) (fun w' hC=>zk ((hK1.ext hC).cell rfl))) ?_)))))))))
 refine zg hT234 17 262143 (some 30) vF (zaD (decide (((j:Nat):Int)<((0:Nat):Int))) (zcu (by omega))) (zh hT234 [(18,31,vF),(19,32,vF),(20,33,(vP w.heap.size 1))] 3 2097151 (zg hT234 21 4194303 (some 34) (vI j) (zi (Instr.loadAt 3 (vP w.heap.size 1)) (fun w' hC=>zk ((hK1.ext hC).cell rfl))) (zh hT234 [(22,35,(vP w3.heap.size 1))] 1 8388607 (zg hT234 23 16777215 (some 36) (.slice a1 (hgt n+1) ca1) (zi (Instr.loadAt 29 (vP w3.heap.size 1)) (fun w' hC=>zk (((hBw5.ext hEw6).ext hC).cell rfl))) (zh hT234 [(24,37,(vP w.heap.size 0))] 1 33554431 (zg hT234 25 67108863 (some 38) (vI l) (zi (Instr.loadAt 3 (vP w.heap.size 0)) (fun w' hC=>zk ((hK1.ext hC).cell rfl))) ?_))))))
 obtain ⟨b1,o1,rfl⟩:=hFz1_0.addr (by omega)
 refine zg hT234 26 134217727 (some 39) (vP b1 (o1+l*1)) (zi (Instr.indexAt 29 (.slice (pA b1 o1) (hgt n+1) ca1) (vI l)) (fun w' hC=>zP (E:=3) (sz:=1) (by omega))) ?_
 have hK2:=(((((hFz1_0.ext hEw4)).chg hCw5 (fun k h1 h2 hs=>by have h:k=_:=hs;omega))).ext hEw6)
 refine zg hT234 27 268435455 (some 40) (vI (gt (cts n) l)) (zi (Instr.loadAt 3 (vP b1 (o1+l*1))) (fun w' hC=>zk ((hK2.ext hC).celln (by omega)))) (zg hT234 28 536870911 (some 41) vT (zaD (decide (((j:Nat):Int)≥((gt (cts n) l:Nat):Int))) (zfJ (by rw [zig hp2];omega))) (zh hT234 [(29,42,vT),(30,43,vT)] 2 2147483647 (zJ (zb (zC (zd (zc 1 [(7,(vI 1))] (zf (zb ?_)))))))))
 refine ze (zd (za (zj (some 44) (Instr.loadAt 179 (vP w3.heap.size 0)) (vA [(vI n),(.slice (pA b1 o1) (hgt n+1) ca1)]) (zw (vs:= [(vI n),(.slice (pA b1 o1) (hgt n+1) ca1)]) ((hBw5.ext hEw6).all)) ?_)))
 refine zc 1 [(45,(vI 1))] ?_
 have hK3:=(((((((hBw2.ext hEw3)).ext hEw4)).chg hCw5 (fun hs=>by have h:_=_:=hs;omega))).ext hEw6)
 refine za (zv 179 w1.heap.size 0 179 (vA [(vI n),(.slice (pA b1 o1) (hgt n+1) ca1)]) ([(vI 0),(.slice none 0 0)]) ([(vI n),(.slice (pA b1 o1) (hgt n+1) ca1)]) hK3 (by kernel_rfl) (by first | decide |(simp;done)|(simp;omega)) (by simp [Value.oneCell']) ?_)
 have hK4:=(((((((hBw2.ext hEw3)).ext hEw4)).chg hCw5 (fun hs=>by have h:_=_:=hs;omega))).ext hEw6)
 intro w7 hBw7 hCw7
 have hzw7:=hCw7.size
 rw [zm _ _ (by kernel_rfl)] at hBw7
 refine zc 1 [(5,(vI 1))] (zf (zb (zq (zaX (show zZ Tryz.prog 46 _ _ (.cell 4 179) (vA [(vI n),(.slice (pA b1 o1) (hgt n+1) ca1)]) from ⟨⟨w1.heap.size,0,none⟩,(by kernel_rfl),zN (T:=179) (vs:= [(vI n),(.slice (pA b1 o1) (hgt n+1) ca1)]) (hBw7).all (by kernel_rfl)⟩) (show zZ Tryz.prog 46 _ _ (.tmp 5) (vI 1) by (show _=_;kernel_rfl)) ?_))))
 have hX1:Ext w w7:=(Ext.own ((Ext.own (((hEw1.trans hEw2).trans hEw3).trans hEw4) hCw5 (by omega)).trans hEw6) hCw7 (by omega))
 exact ⟨_,_,_,_,rfl,hX1⟩
theorem zqI (n:Int) (l:Int) (j:Int) (w:World) (hp0:¬((1≤n∧n≤4096)∧(0≤l∧l≤hgt n.toNat)∧(0≤j∧j<cnt n.toNat l.toNat))):
  Calls Tryz.prog 108 #[(.int .i64 n),(vA [(.int .i64 l),(.int .i64 j)])] w (Ret fun r w'=>∃(a0:Int) (a1:Option Addr) (na1:Nat) (ca1:Nat),r=(.tuple #[(vA [(.int .i64 a0),(.slice a1 na1 ca1)]),(vI 1)])∧Ext w w'):=by
 by_cases h:1≤n∧n≤4096
 ·obtain ⟨m,rfl⟩:=Int.eq_ofNat_of_zero_le (show 0≤n by omega)
  rw [Int.toNat_natCast] at hp0
  by_cases hl:l<0
  ·exact zs2 m l j w (by omega) (by omega) hl
  ·obtain ⟨k,rfl⟩:=Int.eq_ofNat_of_zero_le (show 0≤l by omega)
   rw [Int.toNat_natCast] at hp0
   by_cases hk:(hgt m:Int)<k
   ·exact zth m k j w (by omega) (by omega) hk
   ·by_cases hj:j<0
    ·exact zs7 m k j w (by omega) (by omega) (by omega) hj
    ·obtain ⟨i,rfl⟩:=Int.eq_ofNat_of_zero_le (show 0≤j by omega)
     exact zs4 m k i w (by omega) (by omega) (by omega) (by omega)
 ·exact zs8 n l j w h
theorem zra (n:Nat) {lo_c hi_c:Nat} {a_c:Option Addr} {n_c c_c:Nat} (l:Nat) (w:World) (h_c:Es (nv .i64) lo_c hi_c w a_c n_c c_c (cts n)) (hp0:l≤hgt n+1):
  Calls Tryz.prog 142 #[(vA [(vI n),(.slice a_c n_c c_c)]),(vI l)] w (Ret fun r w'=>r=(vI (und n l))∧Ext w w'):=by
 refine zI (n:=15) (σ:= [(0,(vA [(vI n),(.slice a_c n_c c_c)])),(1,(vI l))]) Tryz.func142 rfl ?_
 replace h_c:=h_c.now;have hle_c:=h_c.le
 have hcl:=h_c.len_eq
 rw [zdN] at hcl
 have h5:=zat n
 refine ze (zd (za (zo (some 2) (Instr.box 179 (vA [(vI n),(.slice a_c n_c c_c)])) (vP w.heap.size 0) ([(vI n),(.slice a_c n_c c_c)]) 179 ?_)))
 intro w1 hBw1 hEw1
 have hzw1:=hEw1.size;have hlw1:=hBw1.lt
 refine zc 1 [(4,(vI 0))] (zf (zb (ze (ze (zd (zc 1 [(5,(vI l))] (za (zK (some 6) ((((l:Nat):Int)==((0:Nat):Int))) (fun hc6=> ?_) (fun hc6=> ?_)))))))))
 ·replace hc6:l=0:=by have:=zbp hc6;omega
  refine zf (zb (zC (ze (zd (zc 1 [(7,(vP w.heap.size 0))] (za (zj (some 8) (Instr.loadAt 3 (vP w.heap.size 0)) (vI n) (zk (hBw1.cell rfl)) ?_)))))))
  exact zc 1 [(4,(vI n))] (zf (zb (zq (zD (zr (vI n) (⟨by subst hc6;rfl,hEw1⟩))))))
 ·replace hc6:¬(l=0):=by have:=zbo hc6;omega
  refine zf (zb (zn (zu (zb (ze (zd (zc 1 [(9,(vP w.heap.size 1))] (za (zj (some 10) (Instr.loadAt 29 (vP w.heap.size 1)) (.slice a_c n_c c_c) (zk (hBw1.cell rfl)) ?_)))))))))
  refine zc 1 [(11,(vI l))] (za (zt (some 12) .i64 (IntKind.i64.wrap (((l:Nat):Int)-((1:Nat):Int))) (l-1) (zA (by omega) (by omega) (by omega)) ?_))
  obtain ⟨b1,o1,rfl⟩:=h_c.addr (by omega)
  refine za (zj (some 13) (Instr.indexAt 29 (.slice (pA b1 o1) n_c c_c) (vI (l-1))) (vP b1 (o1+(l-1)*1)) (zP (E:=3) (sz:=1) (by omega)) ?_)
  refine za (zj (some 14) (Instr.loadAt 3 (vP b1 (o1+(l-1)*1))) (vI (gt (cts n) (l-1))) (zk ((h_c.ext hEw1).celln (by omega))) ?_)
  exact zc 1 [(4,(vI (gt (cts n) (l-1))))] (zf (zb (zq (zr (vI (gt (cts n) (l-1))) (⟨by rw [zlw hc6 hp0],hEw1⟩)))))
theorem zjL (n:Nat) (w:World) (hp0:1≤n) (hp1:n≤4096):
  Calls Tryz.prog 87 #[(vI n)] w (Ret fun r w'=>r=(.tuple #[(vI (hgt n)),(vI 0)])∧Ext w w'):=by
 refine zI (n:=18) (σ:= [(0,(vI n))]) Tryz.func87 rfl ?_
 have h5:=zat n
 refine ze (zd (zc 2 [(3,(vI 0)),(2,(vI 0))] (zf (zb (ze (zd (zc 1 [(7,(vI n))] (za (zl (some 8) (ziJ n _ (by omega) (by omega)) ?_)))))))))
 rintro _ w1 ⟨a1,ca1,rfl,hFz1_0,hEw1⟩
 have hzw1:=hEw1.size
 have hlea1:=hFz1_0.le
 refine zc 3 [(10,(vI 0)),(9,(vA [(vI n),(.slice a1 (hgt n+1) ca1)])),(6,(.tuple #[(vA [(vI n),(.slice a1 (hgt n+1) ca1)]),(vI 0)]))] (za (zo (some 4) (Instr.alloc 179 true (.tuple #[])) (vP w1.heap.size 0) ([(vI 0),(.slice none 0 0)]) 179 ?_))
 intro w2 hBw2 hEw2
 have hzw2:=hEw2.size;have hlw2:=hBw2.lt
 refine za (zv 179 w1.heap.size 0 179 (vA [(vI n),(.slice a1 (hgt n+1) ca1)]) ([(vI 0),(.slice none 0 0)]) ([(vI n),(.slice a1 (hgt n+1) ca1)]) hBw2 (by kernel_rfl) (by first | decide |(simp;done)|(simp;omega)) (by simp [Value.oneCell']) ?_)
 intro w3 hBw3 hCw3
 have hzw3:=hCw3.size
 rw [zm _ _ (by kernel_rfl)] at hBw3
 refine zc 1 [(5,(vI 0))] (zf (zb (ze (ze (zd (zc 2 [(12,vF),(11,(vI 0))] (zf (zb (zn ?_)))))))))
 refine zu (zb (ze (zd (zc 1 [(14,(vP w1.heap.size 1))] (za (zj (some 15) (Instr.loadAt 29 (vP w1.heap.size 1)) (.slice a1 (hgt n+1) ca1) (zk (hBw3.cell rfl)) ?_))))))
 refine zc 1 [(16,(vI (hgt n+1)))] (za (zt (some 17) .i64 (IntKind.i64.wrap (((hgt n+1:Nat):Int)-((1:Nat):Int))) (hgt n) (zA (by omega) (by omega) (by omega)) ?_))
 exact zc 2 [(3,(vI 0)),(2,(vI (hgt n)))] (zf (zb (zq (zr (.tuple #[(vI (hgt n)),(vI 0)]) (⟨rfl,(Ext.own (hEw1.trans hEw2) hCw3 (by omega))⟩)))))
theorem zhs (n:Int) (w:World) (hp0:¬(1≤n∧n≤4096)):
  Calls Tryz.prog 87 #[(.int .i64 n)] w (Ret fun r w'=>r=(.tuple #[(vI 0),(vI 1)])∧Ext w w'):=by
 refine zI (n:=18) (σ:= [(0,(.int .i64 n))]) Tryz.func87 rfl ?_
 refine ze (zd (zc 2 [(3,(vI 0)),(2,(vI 0))] (zf (zb (ze (zd (zc 1 [(7,(.int .i64 n))] (za (zl (some 8) (zlG n _ (by omega)) ?_)))))))))
 rintro _ w1 ⟨rfl,hEw1⟩
 have hzw1:=hEw1.size
 refine zc 3 [(10,(vI 1)),(9,(vA [(vI 0),(.slice none 0 0)])),(6,(.tuple #[(vA [(vI 0),(.slice none 0 0)]),(vI 1)]))] (za (zo (some 4) (Instr.alloc 179 true (.tuple #[])) (vP w1.heap.size 0) ([(vI 0),(.slice none 0 0)]) 179 ?_))
 intro w2 hBw2 hEw2
 have hzw2:=hEw2.size;have hlw2:=hBw2.lt
 refine za (zv 179 w1.heap.size 0 179 (vA [(vI 0),(.slice none 0 0)]) ([(vI 0),(.slice none 0 0)]) ([(vI 0),(.slice none 0 0)]) hBw2 (by kernel_rfl) (by first | decide |(simp;done)|(simp;omega)) (by simp [Value.oneCell']) ?_)
 intro w3 hBw3 hCw3
 have hzw3:=hCw3.size
 rw [zm _ _ (by kernel_rfl)] at hBw3
 refine zc 1 [(5,(vI 1))] (zf (zb (ze (ze (zd (zc 2 [(12,vT),(11,(vI 1))] (zf (zb (zC ?_)))))))))
 exact ze (zd (zc 3 [(3,(vI 1)),(2,(vI 0)),(13,(vI 1))] (zf (zb (zq (zD (zr (.tuple #[(vI 0),(vI 1)]) (⟨rfl,(Ext.own (hEw1.trans hEw2) hCw3 (by omega))⟩))))))))
theorem zl9 (n:Nat) (l:Nat) (w:World) (hp0:1≤n) (hp1:n≤4096) (hp2:l≤hgt n):
  Calls Tryz.prog 88 #[(vI n),(vI l)] w (Ret fun r w'=>r=(.tuple #[(vI (cnt n l)),(vI 0)])∧Ext w w'):=by
 refine zI (n:=23) (σ:= [(0,(vI n)),(1,(vI l))]) Tryz.func88 rfl ?_
 have h5:=zat n
 refine ze (zd (zc 2 [(5,(vI 0)),(4,(vI 0))] (zf (zb (ze (zd (zc 3 [(11,(vA [(vI l),(vI 0)])),(10,(vI l)),(9,(vI n))] (za (zl (some 12) (zsH n l 0 _ (by omega) (by omega) (by omega) (ziP hp0 l)) ?_)))))))))
 rintro _ w1 ⟨a1,ca1,rfl,hFz1_0,hEw1⟩
 have hzw1:=hEw1.size
 have hlea1:=hFz1_0.le
 refine zc 3 [(14,(vI 0)),(13,(vA [(vI n),(.slice a1 (hgt n+1) ca1)])),(8,(.tuple #[(vA [(vI n),(.slice a1 (hgt n+1) ca1)]),(vI 0)]))] (za (zo (some 6) (Instr.alloc 179 true (.tuple #[])) (vP w1.heap.size 0) ([(vI 0),(.slice none 0 0)]) 179 ?_))
 intro w2 hBw2 hEw2
 have hzw2:=hEw2.size;have hlw2:=hBw2.lt
 refine za (zv 179 w1.heap.size 0 179 (vA [(vI n),(.slice a1 (hgt n+1) ca1)]) ([(vI 0),(.slice none 0 0)]) ([(vI n),(.slice a1 (hgt n+1) ca1)]) hBw2 (by kernel_rfl) (by first | decide |(simp;done)|(simp;omega)) (by simp [Value.oneCell']) ?_)
 intro w3 hBw3 hCw3
 have hzw3:=hCw3.size
 rw [zm _ _ (by kernel_rfl)] at hBw3
 refine zc 1 [(7,(vI 0))] (zf (zb (ze (ze (zd (zc 2 [(16,vF),(15,(vI 0))] (zf (zb (zn ?_)))))))))
 refine zu (zb (ze (zd (zc 1 [(18,(vP w1.heap.size 1))] (za (zj (some 19) (Instr.loadAt 29 (vP w1.heap.size 1)) (.slice a1 (hgt n+1) ca1) (zk (hBw3.cell rfl)) ?_))))))
 refine zc 1 [(20,(vI l))] ?_
 obtain ⟨b1,o1,rfl⟩:=hFz1_0.addr (by omega)
 refine za (zj (some 21) (Instr.indexAt 29 (.slice (pA b1 o1) (hgt n+1) ca1) (vI l)) (vP b1 (o1+l*1)) (zP (E:=3) (sz:=1) (by omega)) ?_)
 refine za (zj (some 22) (Instr.loadAt 3 (vP b1 (o1+l*1))) (vI (gt (cts n) l)) (zk ((((hFz1_0.ext hEw2)).chg hCw3 (fun k h1 h2 hs=>by have h:k=_:=hs;omega)).celln (by omega))) ?_)
 exact zc 2 [(5,(vI 0)),(4,(vI (gt (cts n) l)))] (zf (zb (zq (zr (.tuple #[(vI (gt (cts n) l)),(vI 0)]) (⟨by rw [zig hp2],(Ext.own (hEw1.trans hEw2) hCw3 (by omega))⟩)))))
theorem zrV (n:Nat) (l:Nat) (j:Nat) (w:World) (hp0:1≤n) (hp1:n≤4096) (hp2:l≤hgt n) (hp3:j<cnt n l):
  Calls Tryz.prog 125 #[(vI n),(vI l),(vI j)] w (Ret fun r w'=>r=(.tuple #[(vI (prt n l j)),(vI 0)])∧Ext w w'):=by
 refine zI (n:=28) (σ:= [(0,(vI n)),(1,(vI l)),(2,(vI j))]) Tryz.func125 rfl ?_
 have h5:=zat n
 have hcn:=zbf n l
 have hun:=zgr n l
 have hlc:=zix.1 hp3
 refine ze (zd (zc 2 [(7,(vI 0)),(6,(vI 0))] (zf (zb (ze (zd (zc 4 [(14,(vA [(vI l),(vI j)])),(13,(vI j)),(12,(vI l)),(11,(vI n))] (za (zl (some 15) (zsH n l j _ (by omega) (by omega) (by omega) (by omega)) ?_)))))))))
 rintro _ w1 ⟨a1,ca1,rfl,hFz1_0,hEw1⟩
 have hzw1:=hEw1.size
 have hlea1:=hFz1_0.le
 refine zc 3 [(17,(vI 0)),(16,(vA [(vI n),(.slice a1 (hgt n+1) ca1)])),(10,(.tuple #[(vA [(vI n),(.slice a1 (hgt n+1) ca1)]),(vI 0)]))] (za (zo (some 8) (Instr.alloc 179 true (.tuple #[])) (vP w1.heap.size 0) ([(vI 0),(.slice none 0 0)]) 179 ?_))
 intro w2 hBw2 hEw2
 have hzw2:=hEw2.size;have hlw2:=hBw2.lt
 refine za (zv 179 w1.heap.size 0 179 (vA [(vI n),(.slice a1 (hgt n+1) ca1)]) ([(vI 0),(.slice none 0 0)]) ([(vI n),(.slice a1 (hgt n+1) ca1)]) hBw2 (by kernel_rfl) (by first | decide |(simp;done)|(simp;omega)) (by simp [Value.oneCell']) ?_)
 intro w3 hBw3 hCw3
 have hzw3:=hCw3.size
 rw [zm _ _ (by kernel_rfl)] at hBw3
 refine zc 1 [(9,(vI 0))] (zf (zb (ze (ze (zd (zc 2 [(19,vF),(18,(vI 0))] (zf (zb (zn ?_)))))))))
 refine zu (zb (ze (zd (za (zj (some 21) (Instr.loadAt 179 (vP w1.heap.size 0)) (vA [(vI n),(.slice a1 (hgt n+1) ca1)]) (zw (vs:= [(vI n),(.slice a1 (hgt n+1) ca1)]) (hBw3.all)) ?_)))))
 refine zc 1 [(22,(vI l))] (za (zl (some 23) (zra n l _ (((hFz1_0.ext hEw2)).chg hCw3 (fun k h1 h2 hs=>by have h:k=_:=hs;omega)) (by omega)) ?_))
 rintro _ w4 ⟨rfl,hEw4⟩
 have hzw4:=hEw4.size
 refine zc 1 [(24,(vI j))] (za (zt (some 25) .i64 (IntKind.i64.wrap (((4:Nat):Int)*((j:Nat):Int))) (4*j) (zA (by omega) (by omega) (by omega)) ?_))
 refine za (zt (some 26) .i64 (IntKind.i64.wrap (((und n l:Nat):Int)-((4*j:Nat):Int))) (und n l-4*j) (zA (by omega) (by omega) (by omega)) ?_)
 refine za (zh8 (some 27) (.int .i64 (if ((und n l-4*j:Nat):Int)<((4:Nat):Int) then ((und n l-4*j:Nat):Int) else ((4:Nat):Int))) (vI (min 4 (und n l-4*j))) (congrArg _ (zjG _ _)) ?_)
 refine zc 2 [(7,(vI 0)),(6,(vI (min 4 (und n l-4*j))))] (zf (zb (zq (zr (.tuple #[(vI (min 4 (und n l-4*j))),(vI 0)]) ?_))))
 have hX1:Ext w w4:=((Ext.own (hEw1.trans hEw2) hCw3 (by omega)).trans hEw4)
 exact ⟨rfl,hX1⟩
theorem zmT (n:Int) (l:Int) (j:Int) (w:World) (hp0:¬((1≤n∧n≤4096)∧(0≤l∧l≤hgt n.toNat)∧(0≤j∧j<cnt n.toNat l.toNat))):
  Calls Tryz.prog 125 #[(.int .i64 n),(.int .i64 l),(.int .i64 j)] w (Ret fun r w'=>r=(.tuple #[(vI 0),(vI 1)])∧Ext w w'):=by
 refine zI (n:=28) (σ:= [(0,(.int .i64 n)),(1,(.int .i64 l)),(2,(.int .i64 j))]) Tryz.func125 rfl ?_
 refine ze (zd (zc 2 [(7,(vI 0)),(6,(vI 0))] (zf (zb (ze (zd (zc 4 [(14,(vA [(.int .i64 l),(.int .i64 j)])),(13,(.int .i64 j)),(12,(.int .i64 l)),(11,(.int .i64 n))] (za (zl (some 15) (zqI n l j _ (by omega)) ?_)))))))))
 rintro _ w1 ⟨a1,a2,na2,ca2,rfl,hEw1⟩
 have hzw1:=hEw1.size
 refine zc 3 [(17,(vI 1)),(16,(vA [(.int .i64 a1),(.slice a2 na2 ca2)])),(10,(.tuple #[(vA [(.int .i64 a1),(.slice a2 na2 ca2)]),(vI 1)]))] (za (zo (some 8) (Instr.alloc 179 true (.tuple #[])) (vP w1.heap.size 0) ([(vI 0),(.slice none 0 0)]) 179 ?_))
 intro w2 hBw2 hEw2
 have hzw2:=hEw2.size;have hlw2:=hBw2.lt
 refine za (zv 179 w1.heap.size 0 179 (vA [(.int .i64 a1),(.slice a2 na2 ca2)]) ([(vI 0),(.slice none 0 0)]) ([(.int .i64 a1),(.slice a2 na2 ca2)]) hBw2 (by kernel_rfl) (by first | decide |(simp;done)|(simp;omega)) (by simp [Value.oneCell']) ?_)
 intro w3 hBw3 hCw3
 have hzw3:=hCw3.size
 rw [zm _ _ (by kernel_rfl)] at hBw3
 refine zc 1 [(9,(vI 1))] (zf (zb (ze (ze (zd (zc 2 [(19,vT),(18,(vI 1))] (zf (zb (zC ?_)))))))))
 exact ze (zd (zc 3 [(7,(vI 1)),(6,(vI 0)),(20,(vI 1))] (zf (zb (zq (zD (zr (.tuple #[(vI 0),(vI 1)]) (⟨rfl,(Ext.own (hEw1.trans hEw2) hCw3 (by omega))⟩))))))))
end Go.Proofs.YtkmhgepdhilllaaGreatDoor
namespace Go.Proofs.YtkmhgepdhilllaaGreatDoor
open Go Go.RowKit Go.Cs
set_option maxRecDepth 100000
end Go.Proofs.YtkmhgepdhilllaaGreatDoor
namespace Go.Proofs.YtkmhgepdhilllaaGreatDoor
open Go Go.RowKit Go.Cs
set_option maxRecDepth 100000
end Go.Proofs.YtkmhgepdhilllaaGreatDoor
namespace Go.Proofs.YtkmhgepdhilllaaGreatDoor
open Go Go.RowKit Go.Cs
set_option maxRecDepth 100000
end Go.Proofs.YtkmhgepdhilllaaGreatDoor
namespace Go.Proofs.YtkmhgepdhilllaaGreatDoor
open Go Go.RowKit Go.Cs
set_option maxRecDepth 100000
theorem zfq (n:Nat) (l:Nat) (w:World) (hp0:1≤n) (hp1:n≤4096) (hp2:l≤hgt n):
  Calls Tryz.prog 32 #[(vI n),(vI l)] w (Ret fun r w'=>r=(vI (cnt n l))∧w=w'):=by
 refine zI (n:=23) (σ:= [(0,(vI n)),(1,(vI l))]) Tryz.func32 rfl ?_
 have h5:=zat n
 refine ze (zd (zc 1 [(4,(vI 0))] (zf (zb (ze (zd (zc 2 [(5,(vI n)),(7,(vI n))] (zf (zb ?_)))))))))
 refine ze (ze (zd (zc 1 [(6,(vI 0))] (zf (zb (zy (zY (X:=Nat) (fun k=> [(5,(vI (und n k))),(6,(vI k))]) [4,8,9,10,11,12,13,14,15,16,17,18,19,20,21] (fun k w1=>w=w1∧k≤l+1) (fun k=>l+1-k) 0 (by kernel_rfl) ⟨rfl,by omega⟩ ?_)))))))
 rintro k dw1 w1 ⟨rfl,hk⟩
 have hun:=zgr n k
 have hun2:=zgr n (k+1)
 refine ze (ze (zd (zc 2 [(9,(vI l)),(8,(vI k))] (za (zK (some 10) (decide (((k:Nat):Int)≤((l:Nat):Int))) (fun hc10=> ?_) (fun hc10=> ?_))))))
 ·replace hc10:k≤l:=by have:=zaf hc10;omega
  refine zf (zb (zC (zu (zb (ze (zy (ze (ze (zd ?_)))))))))
  refine zc 1 [(13,(vI k))] (za (zK (some 14) (decide (((k:Nat):Int)>((0:Nat):Int))) (fun hc14=> ?_) (fun hc14=> ?_)))
  ·replace hc14:k>0:=by have:=zaf hc14;omega
   have hm:=zk0 (n:=n) (l:=k-1) (by omega)
   have hku:=zcn (n:=n) (l:=k) (by omega)
   refine zc 2 [(16,(vI (und n k))),(15,vT)] (za (zai (some 17) (((und n k:Nat):Int)==((1:Nat):Int)) false (zcc (by omega)) ?_))
   refine zc 1 [(18,vF)] (zf (zb (zn (zu (zb (zd (zc 1 [(19,(vI (und n k)))] (za (zt (some 20) .i64 (IntKind.i64.wrap (((und n k:Nat):Int)+((3:Nat):Int))) (und n k+3) (zA (by omega) (by omega) (by omega)) ?_)))))))))
   refine za (zt (some 21) .i64 (IntKind.i64.wrap (((und n k+3:Nat):Int).tdiv ((4:Nat):Int))) (und n (k+1)) (zA (zdP _ _) (by omega) (by omega)) ?_)
   refine zc 1 [(5,(vI (und n (k+1))))] (zf (zp (zb (zd (zc 1 [(11,(vI k))] (za (zt (some 12) .i64 (IntKind.i64.wrap (((k:Nat):Int)+((1:Nat):Int))) (k+1) (zA (by omega) (by omega) (by omega)) ?_)))))))
   refine zc 1 [(6,(vI (k+1)))] (zf (zF (zR (k+1) ?_ ?_)))
   ·exact ⟨rfl,by omega⟩
   ·first | omega |(dsimp only;omega)
  ·replace hc14:¬(k>0):=by have:=zae hc14;omega
   obtain rfl:k=0:=by omega
   refine zc 4 [(18,vF),(17,undef),(16,undef),(15,vF)] (zf (zb (zn (zu (zb (zd (zc 1 [(19,(vI (und n 0)))] (za (zt (some 20) .i64 (IntKind.i64.wrap (((und n 0:Nat):Int)+((3:Nat):Int))) (und n 0+3) (zA (by omega) (by omega) (by omega)) ?_)))))))))
   refine za (zt (some 21) .i64 (IntKind.i64.wrap (((und n 0+3:Nat):Int).tdiv ((4:Nat):Int))) (und n (0+1)) (zA (zdP _ _) (by omega) (by omega)) ?_)
   refine zc 1 [(5,(vI (und n (0+1))))] (zf (zp (zb (zd (zc 1 [(11,(vI 0))] (za (zt (some 12) .i64 (IntKind.i64.wrap (((0:Nat):Int)+((1:Nat):Int))) 1 (zA (by omega) (by omega) (by omega)) ?_)))))))
   refine zc 1 [(6,(vI 1))] (zf (zF (zR (1) ?_ ?_)))
   ·exact ⟨rfl,by omega⟩
   ·first | omega |(dsimp only;omega)
 ·replace hc10:¬(k≤l):=by have:=zae hc10;omega
  refine zf (zb (zn (zW (zx (zx (zL (zb (ze (zd ?_)))))))))
  refine zc 2 [(4,(vI (und n k))),(22,(vI (und n k)))] (zf (zb (zq (zr (vI (und n k)) ?_))))
  obtain rfl:k=l+1:=by omega
  exact ⟨rfl,rfl⟩
theorem zgR (n:Nat) (w:World) (hp0:1≤n) (hp1:n≤4096):
  Calls Tryz.prog 31 #[(vI n)] w (Ret fun r w'=>r=(vI (hgt n))∧w=w'):=by
 refine zI (n:=11) (σ:= [(0,(vI n))]) Tryz.func31 rfl ?_
 have h5:=zat n
 refine ze (zd (zc 1 [(2,(vI 0))] (zf (zb (ze (zd (zc 1 [(3,(vI 0))] (zf (zb ?_)))))))))
 refine ze (zy (zY (X:=Nat) (fun k=> [(3,(vI k))]) [4,5,6,7,8,9] (fun k w1=>w=w1∧k≤hgt n) (fun k=>hgt n-k) 0 (by kernel_rfl) ⟨rfl,by omega⟩ ?_))
 rintro k dw1 w1 ⟨rfl,hk⟩
 have hiff:=zfR hp0 hp1 hk
 refine ze (ze (zd (zc 2 [(5,(vI k)),(4,(vI n))] (za (zl (some 6) (zfq n k _ (by omega) (by omega) (by omega)) ?_)))))
 rintro _ _ ⟨rfl,rfl⟩
 refine za (zK (some 7) ((((cnt n k:Nat):Int) !=((1:Nat):Int))) (fun hc7=> ?_) (fun hc7=> ?_))
 ·replace hc7:¬(cnt n k=1):=by have:=zbE hc7;omega
  have hlt:k<hgt n:=by rcases Nat.lt_or_ge k (hgt n) with h | h;exact h;exact absurd (hiff.2 (by omega)) hc7
  refine zf (zb (zC (zu (zb (zy (zd (zc 1 [(8,(vI k))] (za (zt (some 9) .i64 (IntKind.i64.wrap (((k:Nat):Int)+((1:Nat):Int))) (k+1) (zA (by omega) (by omega) (by omega)) ?_)))))))))
  refine zc 1 [(3,(vI (k+1)))] (zf (zp (zF (zR (k+1) ?_ ?_))))
  ·exact ⟨rfl,by omega⟩
  ·first | omega |(dsimp only;omega)
 ·replace hc7:cnt n k=1:=by have:=zbG hc7;omega
  obtain rfl:=hiff.1 hc7
  refine zf (zb (zn (zW (zx (zx (zL (zb (ze (zd ?_)))))))))
  exact zc 2 [(2,(vI (hgt n))),(10,(vI (hgt n)))] (zf (zb (zq (zr (vI (hgt n)) (⟨rfl,rfl⟩)))))
end Go.Proofs.YtkmhgepdhilllaaGreatDoor
namespace Go.Proofs.YtkmhgepdhilllaaGreatDoor
open Go Go.RowKit Go.Cs
set_option maxRecDepth 100000
theorem zoJ (v:Nat) (w:World):
  Calls Tryz.prog 110 #[(vB v)] w (Ret fun r w'=>r=(vI (min v 1))∧w=w'):=by
 refine zI (n:=6) (σ:= [(0,(vB v))]) Tryz.func110 rfl ?_
 refine ze (zd (zc 1 [(2,(vI 0))] (zf (zb (ze (zd (zc 1 [(3,(vB v))] (za (zh8 (some 4) (.int .u8 (if ((1:Nat):Int)<((v:Nat):Int) then ((1:Nat):Int) else ((v:Nat):Int))) (vB (min v 1)) (congrArg _ (zjG _ _)) ?_)))))))))
 refine za (zt (some 5) .i64 (IntKind.i64.wrap ((min v 1:Nat):Int)) (min v 1) (zA rfl (by omega) (by omega)) ?_)
 exact zc 1 [(2,(vI (min v 1)))] (zf (zb (zq (zr (vI (min v 1)) (⟨rfl,rfl⟩)))))
theorem zry (x:R4) (w:World):
  Calls Tryz.prog 113 #[(vA (r4C x)),(.func (.func 62) #[] #[])] w (Ret fun r w'=>r=(vI (zfN x))∧Ext w w'):=by
 refine zI (n:=19) (σ:= [(0,(vA (r4C x))),(1,(.func (.func 62) #[] #[]))]) Tryz.func113 rfl ?_
 refine ze (zd (za (zo (some 2) (Instr.box 69 (vA (r4C x))) (vP w.heap.size 0) (r4C x) 69 ?_)))
 intro w1 hBw1 hEw1
 have hzw1:=hEw1.size;have hlw1:=hBw1.lt
 refine zc 1 [(4,(vI 0))] (zf (zb (ze (ze (zd (za (zj (some 8) (Instr.loadAt 69 (vP w.heap.size 0)) (vA (r4C x)) (zw (vs:=r4C x) (hBw1.all) (by rw [zc6];kernel_rfl)) ?_)))))))
 refine zc 1 [(9,(vI 0))] (zf (zb (zy (zY (X:=Nat) (fun i=> [(9,(vI i))]) [4,6,7,10,11,12,13,14,15,16,17,18] (fun i w2=>i≤4∧zcG zaN x.get i=0∧Ext w w2) (fun i=>4-i) 0 (by kernel_rfl) ⟨by omega,rfl,hEw1⟩ ?_))))
 rintro i dw2 w2 ⟨hi,hz,hEl⟩
 have hzl:=hEl.size
 refine ze (zd (za (zK (some 10) (decide (((i:Nat):Int)<((4:Nat):Int))) (fun hc10=> ?_) (fun hc10=> ?_))))
 ·replace hc10:i<4:=by have:=zaf hc10;omega
  refine zf (zb (ze (zC (zu (zb (ze (zy (ze (zd ?_)))))))))
  refine za (zj (some 11) (Instr.index 69 (vA (r4C x)) (vI i)) (vA (zM (x.get i))) (zgY (E:=68) (m:=4) (sz:=35) (us:=zM (x.get i)) (by omega) (znc (by omega))) ?_)
  refine za (zo (some 6) (Instr.alloc 68 true (.tuple #[])) (vP w2.heap.size 0) (zM Rec.zero) 68 ?_)
  intro w3 hBw3 hEw3
  have hzw3:=hEw3.size;have hlw3:=hBw3.lt
  refine za (zv 68 w2.heap.size 0 68 (vA (zM (x.get i))) (zM Rec.zero) (zM (x.get i)) hBw3 (by rw [zab];kernel_rfl) (by first |(simp;done)|(simp;omega)) (za2 _) ?_)
  intro w4 hBw4 hCw4
  have hzw4:=hCw4.size
  rw [zm _ _ (by simp)] at hBw4
  refine zf (zb (ze (zd (zc 1 [(12,(.func (.func 62) #[] #[]))] (za (zj (some 13) (Instr.loadAt 68 (vP w2.heap.size 0)) (vA (zM (x.get i))) (zw (vs:=zM (x.get i)) (hBw4.all) (by rw [zab];kernel_rfl)) ?_))))))
  refine za (zl (some 14) (zeY (x.get i) _) ?_)
  rintro _ w5 ⟨rfl,hEw5⟩
  have hzw5:=hEw5.size
  refine zc 1 [(7,(vI (zaN (x.get i))))] (zf (zb (ze (zd (zc 1 [(15,(vI (zaN (x.get i))))] (za (zK (some 16) ((((zaN (x.get i):Nat):Int) !=((0:Nat):Int))) (fun hc16=> ?_) (fun hc16=> ?_))))))))
  ·replace hc16:¬(zaN (x.get i)=0):=by have:=zbE hc16;omega
   refine zf (zb (zC (ze (zd (zc 2 [(4,(vI (zaN (x.get i)))),(17,(vI (zaN (x.get i))))] (zf (zb (zq (zG ?_)))))))))
   refine zD (zD (zG (zD (zr (vI (zaN (x.get i))) ?_))))
   have hX1:Ext w w5:=((Ext.own (hEl.trans hEw3) hCw4 (by omega)).trans hEw5)
   exact ⟨congrArg (fun z:Nat=>vI z) (zms (by omega) (by omega)),hX1⟩
  ·replace hc16:zaN (x.get i)=0:=by have:=zbG hc16;omega
   refine zf (zb (zn (zu (zp (zb (zd (za (zt (some 18) .i64 (IntKind.i64.wrap (((i:Nat):Int)+((1:Nat):Int))) (i+1) (zA (by omega) (by omega) (by omega)) ?_))))))))
   refine zc 1 [(9,(vI (i+1)))] (zf (zF ?_))
   have hX2:Ext w w5:=((Ext.own (hEl.trans hEw3) hCw4 (by omega)).trans hEw5)
   refine zR (i+1) ?_ ?_
   ·exact ⟨by omega,by rw [zcG,if_pos hz];omega,hX2⟩
   ·first | omega |(dsimp only;omega)
 ·replace hc10:¬(i<4):=by have:=zae hc10;omega
  refine zf (zb (ze (zn (zW (zx (zx (zL (zb (ze ?_)))))))))
  refine zd (zc 1 [(4,(vI 0))] (zf (zb (zq (zr (vI 0) ?_)))))
  obtain rfl:i=4:=by omega
  exact ⟨congrArg (fun z:Nat=>vI z) (hz.symm),hEl⟩
theorem zq5 (x:E4) (w:World):
  Calls Tryz.prog 116 #[(vA (e4C x)),(.func (.func 131) #[] #[])] w (Ret fun r w'=>r=(vI (zfG x))∧Ext w w'):=by
 refine zI (n:=19) (σ:= [(0,(vA (e4C x))),(1,(.func (.func 131) #[] #[]))]) Tryz.func116 rfl ?_
 refine ze (zd (za (zo (some 2) (Instr.box 72 (vA (e4C x))) (vP w.heap.size 0) (e4C x) 72 ?_)))
 intro w1 hBw1 hEw1
 have hzw1:=hEw1.size;have hlw1:=hBw1.lt
 refine zc 1 [(4,(vI 0))] (zf (zb (ze (ze (zd (za (zj (some 8) (Instr.loadAt 72 (vP w.heap.size 0)) (vA (e4C x)) (zw (vs:=e4C x) (hBw1.all) (by rw [zdS];kernel_rfl)) ?_)))))))
 refine zc 1 [(9,(vI 0))] (zf (zb (zy (zY (X:=Nat) (fun i=> [(9,(vI i))]) [4,6,7,10,11,12,13,14,15,16,17,18] (fun i w2=>i≤4∧zcG za3 x.get i=0∧Ext w w2) (fun i=>4-i) 0 (by kernel_rfl) ⟨by omega,rfl,hEw1⟩ ?_))))
 rintro i dw2 w2 ⟨hi,hz,hEl⟩
 have hzl:=hEl.size
 refine ze (zd (za (zK (some 10) (decide (((i:Nat):Int)<((4:Nat):Int))) (fun hc10=> ?_) (fun hc10=> ?_))))
 ·replace hc10:i<4:=by have:=zaf hc10;omega
  refine zf (zb (ze (zC (zu (zb (ze (zy (ze (zd ?_)))))))))
  refine za (zj (some 11) (Instr.index 72 (vA (e4C x)) (vI i)) (vA (zad (x.get i))) (zgY (E:=71) (m:=4) (sz:=33) (us:=zad (x.get i)) (by omega) (zjC (by omega))) ?_)
  refine za (zo (some 6) (Instr.alloc 71 true (.tuple #[])) (vP w2.heap.size 0) (zad Ent.zero) 71 ?_)
  intro w3 hBw3 hEw3
  have hzw3:=hEw3.size;have hlw3:=hBw3.lt
  refine za (zv 71 w2.heap.size 0 71 (vA (zad (x.get i))) (zad Ent.zero) (zad (x.get i)) hBw3 (by rw [zaF];kernel_rfl) (by first |(simp;done)|(simp;omega)) (zcy _) ?_)
  intro w4 hBw4 hCw4
  have hzw4:=hCw4.size
  rw [zm _ _ (by simp)] at hBw4
  refine zf (zb (ze (zd (zc 1 [(12,(.func (.func 131) #[] #[]))] (za (zj (some 13) (Instr.loadAt 71 (vP w2.heap.size 0)) (vA (zad (x.get i))) (zw (vs:=zad (x.get i)) (hBw4.all) (by rw [zaF];kernel_rfl)) ?_))))))
  refine za (zl (some 14) (zgM (x.get i) _) ?_)
  rintro _ w5 ⟨rfl,hEw5⟩
  have hzw5:=hEw5.size
  refine zc 1 [(7,(vI (za3 (x.get i))))] (zf (zb (ze (zd (zc 1 [(15,(vI (za3 (x.get i))))] (za (zK (some 16) ((((za3 (x.get i):Nat):Int) !=((0:Nat):Int))) (fun hc16=> ?_) (fun hc16=> ?_))))))))
  ·replace hc16:¬(za3 (x.get i)=0):=by have:=zbE hc16;omega
   refine zf (zb (zC (ze (zd (zc 2 [(4,(vI (za3 (x.get i)))),(17,(vI (za3 (x.get i))))] (zf (zb (zq (zG ?_)))))))))
   refine zD (zD (zG (zD (zr (vI (za3 (x.get i))) ?_))))
   have hX1:Ext w w5:=((Ext.own (hEl.trans hEw3) hCw4 (by omega)).trans hEw5)
   exact ⟨congrArg (fun z:Nat=>vI z) (zni (by omega) (by omega)),hX1⟩
  ·replace hc16:za3 (x.get i)=0:=by have:=zbG hc16;omega
   refine zf (zb (zn (zu (zp (zb (zd (za (zt (some 18) .i64 (IntKind.i64.wrap (((i:Nat):Int)+((1:Nat):Int))) (i+1) (zA (by omega) (by omega) (by omega)) ?_))))))))
   refine zc 1 [(9,(vI (i+1)))] (zf (zF ?_))
   have hX2:Ext w w5:=((Ext.own (hEl.trans hEw3) hCw4 (by omega)).trans hEw5)
   refine zR (i+1) ?_ ?_
   ·exact ⟨by omega,by rw [zcG,if_pos hz];omega,hX2⟩
   ·first | omega |(dsimp only;omega)
 ·replace hc10:¬(i<4):=by have:=zae hc10;omega
  refine zf (zb (ze (zn (zW (zx (zx (zL (zb (ze ?_)))))))))
  refine zd (zc 1 [(4,(vI 0))] (zf (zb (zq (zr (vI 0) ?_)))))
  obtain rfl:i=4:=by omega
  exact ⟨congrArg (fun z:Nat=>vI z) (hz.symm),hEl⟩
theorem zhT (x:Nod) (w:World):
  Calls Tryz.prog 109 #[(vA (zH x))] w (Ret fun r w'=>r=(vI (zay x))∧Ext w w'):=by
 refine zI (n:=32) (σ:= [(0,(vA (zH x)))]) Tryz.func109 rfl ?_
 refine ze (zd (za (zo (some 1) (Instr.box 74 (vA (zH x))) (vP w.heap.size 0) (zH x) 74 ?_)))
 intro w1 hBw1 hEw1
 have hzw1:=hEw1.size;have hlw1:=hBw1.lt
 refine zc 1 [(2,(vI 0))] (zf (zb (ze (zy (ze (zd (zc 1 [(4,(vP w.heap.size 0))] (za (zj (some 5) (Instr.loadAt 5 (vP w.heap.size 0)) (vB x.lv) (zk (hBw1.cell rfl)) ?_)))))))))
 refine za (zK (some 6) (decide (((x.lv:Nat):Int)>((5:Nat):Int))) (fun hc6=> ?_) (fun hc6=> ?_))
 ·replace hc6:x.lv>5:=by have:=zaf hc6;omega
  refine zc 1 [(3,vT)] (zf (zb (zC (ze (zd (zc 1 [(2,(vI 1))] (zf (zb (zq ?_)))))))))
  exact zG (zD (zr (vI 1) (⟨congrArg (fun z:Nat=>vI z) (by unfold zay;(repeat' split)<;>first | rfl | omega | simp_all),hEw1⟩)))
 ·replace hc6:¬(x.lv>5):=by have:=zae hc6;omega
  refine zc 1 [(3,vF)] (zf (zb (zn (ze (zd (zc 1 [(8,(vP w.heap.size 0))] (za (zj (some 9) (Instr.loadAt 5 (vP w.heap.size 0)) (vB x.lv) (zk (hBw1.cell rfl)) ?_))))))))
  refine za (zK (some 10) ((((x.lv:Nat):Int)==((0:Nat):Int))) (fun hc10=> ?_) (fun hc10=> ?_))
  ·replace hc10:x.lv=0:=by have:=zbp hc10;omega
   refine zc 2 [(12,(vP w.heap.size 142)),(11,vT)] (za (zj (some 13) (Instr.loadAt 72 (vP w.heap.size 142)) (vA (e4C x.es)) (zw (vs:=e4C x.es) (hBw1.at 142 (e4C x.es) (zfz _)) (by rw [zdS];kernel_rfl)) ?_))
   refine zc 1 [(14,(vA (e4C E4.zero)))] ?_
   rcases Bool.eq_false_or_eq_true (x.es.eqb E4.zero) with hq15 | hq15
   ·refine za (zj (some 15) (bo .neq 72 (.tmp 13) (.tmp 14) (vA (e4C x.es)) (vA (e4C E4.zero))) vF (zak (r:=true) (T:=72) ((zgQ (dd:=9996) (T:=72) (t:=71) (t8:=5) (td:=59) (e:=5) x.es E4.zero).trans (congrArg (fun b=>Result.ok b _) (show (x.es.eqb E4.zero)=true from hq15)))) ?_)
    refine zc 2 [(7,vF),(16,vF)] (zf (zb (zn (ze (zd (zc 1 [(18,(vP w.heap.size 0))] (za (zj (some 19) (Instr.loadAt 5 (vP w.heap.size 0)) (vB x.lv) (zk (hBw1.cell rfl)) ?_))))))))
    refine za (zai (some 20) (((x.lv:Nat):Int)==((0:Nat):Int)) true (zas (by omega)) ?_)
    refine zc 1 [(17,vT)] (zf (zb (zC (ze (zd (zc 1 [(21,(vP w.heap.size 2))] (za (zj (some 22) (Instr.loadAt 69 (vP w.heap.size 2)) (vA (r4C x.rs)) (zw (vs:=r4C x.rs) (hBw1.at 2 (r4C x.rs) (zf7 _)) (by rw [zc6];kernel_rfl)) ?_))))))))
    refine za (zl (some 23) (zry x.rs _) ?_)
    rintro _ w2 ⟨rfl,hEw2⟩
    have hzw2:=hEw2.size
    exact zc 1 [(2,(vI (zfN x.rs)))] (zf (zb (zq (zG (zD (zr (vI (zfN x.rs)) (⟨congrArg (fun z:Nat=>vI z) (by unfold zay;(repeat' split)<;>first | rfl | omega | simp_all),(hEw1.trans hEw2)⟩)))))))
   ·refine za (zj (some 15) (bo .neq 72 (.tmp 13) (.tmp 14) (vA (e4C x.es)) (vA (e4C E4.zero))) vT (zak (r:=false) (T:=72) ((zgQ (dd:=9996) (T:=72) (t:=71) (t8:=5) (td:=59) (e:=5) x.es E4.zero).trans (congrArg (fun b=>Result.ok b _) (show (x.es.eqb E4.zero)=false from hq15)))) ?_)
    refine zc 2 [(7,vT),(16,vT)] (zf (zb (zC (ze (zd (zc 1 [(2,(vI 1))] (zf (zb (zq ?_)))))))))
    exact zG (zD (zr (vI 1) (⟨congrArg (fun z:Nat=>vI z) (by unfold zay;(repeat' split)<;>first | rfl | omega | simp_all),hEw1⟩)))
  ·replace hc10:¬(x.lv=0):=by have:=zbo hc10;omega
   refine zc 7 [(7,vF),(16,vF),(15,undef),(14,undef),(13,undef),(12,undef),(11,vF)] (zf (zb (zn (ze (zd (zc 1 [(18,(vP w.heap.size 0))] (za (zj (some 19) (Instr.loadAt 5 (vP w.heap.size 0)) (vB x.lv) (zk (hBw1.cell rfl)) ?_))))))))
   refine za (zai (some 20) (((x.lv:Nat):Int)==((0:Nat):Int)) false (zcc (by omega)) ?_)
   refine zc 1 [(17,vF)] (zf (zb (zn (ze (zd (zc 1 [(25,(vP w.heap.size 2))] (za (zj (some 26) (Instr.loadAt 69 (vP w.heap.size 2)) (vA (r4C x.rs)) (zw (vs:=r4C x.rs) (hBw1.at 2 (r4C x.rs) (zf7 _)) (by rw [zc6];kernel_rfl)) ?_))))))))
   refine zc 1 [(27,(vA (r4C R4.zero)))] ?_
   rcases Bool.eq_false_or_eq_true (x.rs.eqb R4.zero) with hq28 | hq28
   ·refine za (zj (some 28) (bo .neq 69 (.tmp 26) (.tmp 27) (vA (r4C x.rs)) (vA (r4C R4.zero))) vF (zak (r:=true) (T:=69) ((zgI (dd:=9996) (T:=69) (t:=68) (t8:=5) (td:=59) (e:=5) (tn:=56) (t32:=53) (t64:=54) x.rs R4.zero).trans (congrArg (fun b=>Result.ok b _) (show (x.rs.eqb R4.zero)=true from hq28)))) ?_)
    refine zc 1 [(24,vF)] (zf (zb (zn (zu (zp (zb (ze (zd (zc 1 [(29,(vP w.heap.size 142))] ?_)))))))))
    refine za (zj (some 30) (Instr.loadAt 72 (vP w.heap.size 142)) (vA (e4C x.es)) (zw (vs:=e4C x.es) (hBw1.at 142 (e4C x.es) (zfz _)) (by rw [zdS];kernel_rfl)) ?_)
    refine za (zl (some 31) (zq5 x.es _) ?_)
    rintro _ w3 ⟨rfl,hEw3⟩
    have hzw3:=hEw3.size
    exact zc 1 [(2,(vI (zfG x.es)))] (zf (zb (zq (zr (vI (zfG x.es)) (⟨congrArg (fun z:Nat=>vI z) (by unfold zay;(repeat' split)<;>first | rfl | omega | simp_all),(hEw1.trans hEw3)⟩)))))
   ·refine za (zj (some 28) (bo .neq 69 (.tmp 26) (.tmp 27) (vA (r4C x.rs)) (vA (r4C R4.zero))) vT (zak (r:=false) (T:=69) ((zgI (dd:=9996) (T:=69) (t:=68) (t8:=5) (td:=59) (e:=5) (tn:=56) (t32:=53) (t64:=54) x.rs R4.zero).trans (congrArg (fun b=>Result.ok b _) (show (x.rs.eqb R4.zero)=false from hq28)))) ?_)
    refine zc 1 [(24,vT)] (zf (zb (zC (ze (zd (zc 1 [(2,(vI 1))] (zf (zb (zq ?_)))))))))
    exact zG (zD (zr (vI 1) (⟨congrArg (fun z:Nat=>vI z) (by unfold zay;(repeat' split)<;>first | rfl | omega | simp_all),hEw1⟩)))
end Go.Proofs.YtkmhgepdhilllaaGreatDoor
namespace Go.Proofs.YtkmhgepdhilllaaGreatDoor
open Go Go.RowKit Go.Cs
set_option maxRecDepth 100000
theorem zqG (a:Nat) (b:Nat) (w:World) (hp0:a<256) (hp1:b<2^32):
  Calls Tryz.prog 63 #[(vB a),(vW b)] w (Ret fun r w'=>r=(vA (zH (Nod.mt a b)))∧Ext w w'):=by
 refine zI (n:=8) (σ:= [(0,(vB a)),(1,(vW b))]) Tryz.func63 rfl ?_
 refine ze (zd (za (zo (some 4) (Instr.alloc 74 true (.tuple #[])) (vP w.heap.size 0) (zH Nod.zero) 74 ?_)))
 intro w1 hBw1 hEw1
 have hzw1:=hEw1.size;have hlw1:=hBw1.lt
 refine zf (zb (ze (zd (zc 2 [(6,(vW b)),(5,(vB a))] (za (zj (some 7) (Instr.build 74 #[(0,(vB a)),(1,(vW b))]) (vA (zH (Nod.mt a b))) ((ze4 a b (by omega) (by omega)).trans (congrArg (fun z:Nod=>Result.ok (Value.agg (zH z).toArray) _) (show (Nod.emp a b (by omega) (by omega):Nod)=Nod.mt a b from Nod.mt_eq _ _))) ?_))))))
 refine za (zv 74 w.heap.size 0 74 (vA (zH (Nod.mt a b))) (zH Nod.zero) (zH (Nod.mt a b)) hBw1 (by rw [zV];kernel_rfl) (by first |(simp;done)|(simp;omega)) (zbZ _) ?_)
 intro w2 hBw2 hCw2
 have hzw2:=hCw2.size
 rw [zm _ _ (by simp)] at hBw2
 exact zf (zb (zq (zaB (show zZ Tryz.prog 8 _ _ (.cell 4 74) (vA (zH (Nod.mt a b))) from ⟨⟨w.heap.size,0,none⟩,(by kernel_rfl),zN (T:=74) (vs:=zH (Nod.mt a b)) (hBw2).all (by rw [zV];kernel_rfl)⟩) (⟨rfl,(Ext.own hEw1 hCw2 (by omega))⟩))))
theorem zkB (x:Nod) (w:World):
  Calls Tryz.prog 65 #[(vA (zH x))] w (Ret fun r w'=>r=(vI (usd x 4))∧Ext w w'):=by
 refine zI (n:=36) (σ:= [(0,(vA (zH x)))]) Tryz.func65 rfl ?_
 refine ze (zd (za (zo (some 1) (Instr.box 74 (vA (zH x))) (vP w.heap.size 0) (zH x) 74 ?_)))
 intro w1 hBw1 hEw1
 have hzw1:=hEw1.size;have hlw1:=hBw1.lt
 refine zc 1 [(2,(vI 0))] (zf (zb (ze (zd (zc 1 [(3,(vI 0))] (zf (zb (ze (ze ?_)))))))))
 refine zd (zc 1 [(5,(vI 0))] (zf (zb (zy (zY (X:=Nat) (fun i=> [(3,(vI (usd x i))),(5,(vI i))]) [4,6,7,8,9,10,11,12,13,14,15,16,17,18,19,20,21,22,23,24,25,26,27,28,29,30,31,32,33,34] (fun i w2=>i≤4∧Ext w1 w2) (fun i=>4-i) 0 (by kernel_rfl) ⟨by omega,(Ext.refl _)⟩ ?_)))))
 rintro i dw2 w2 ⟨hi,hEl⟩
 have hzl:=hEl.size
 have hul:=zn8 x i
 refine ze (zd (za (zK (some 6) (decide (((i:Nat):Int)<((4:Nat):Int))) (fun hc6=> ?_) (fun hc6=> ?_))))
 ·replace hc6:i<4:=by have:=zaf hc6;omega
  refine zf (zb (ze (zC (zu (zb (ze (zy (ze (zd ?_)))))))))
  refine zc 2 [(4,(vI i)),(7,(vI i))] (zf (zb (ze (zd (zc 1 [(8,(vP w.heap.size 0))] (za (zj (some 9) (Instr.loadAt 5 (vP w.heap.size 0)) (vB x.lv) (zk ((hBw1.ext hEl).cell rfl)) ?_)))))))
  refine za (zK (some 10) ((((x.lv:Nat):Int)==((0:Nat):Int))) (fun hc10=> ?_) (fun hc10=> ?_))
  ·replace hc10:x.lv=0:=by have:=zbp hc10;omega
   refine zc 3 [(13,(vP w.heap.size 2)),(12,(vI i)),(11,vT)] (za (zj (some 14) (Instr.indexAt 69 (vP w.heap.size 2) (vI i)) (vP w.heap.size (2+i*35)) (zag (E:=68) (sz:=35) (m:=4) (by omega)) ?_))
   refine zc 1 [(15,(vP w.heap.size (2+i*35)))] (za (zj (some 16) (Instr.loadAt 5 (vP w.heap.size (2+i*35))) (vB ((x.rs.get i).st)) (zk ((hBw1.ext hEl).cell (zrf (by omega)))) ?_))
   refine za (zK (some 17) (((((x.rs.get i).st:Nat):Int) !=((0:Nat):Int))) (fun hc17=> ?_) (fun hc17=> ?_))
   ·replace hc17:¬((x.rs.get i).st=0):=by have:=zbE hc17;omega
    refine zc 14 [(31,vT),(30,undef),(29,undef),(28,undef),(27,undef),(26,undef),(25,undef),(24,undef),(23,undef),(22,undef),(21,undef),(20,undef),(19,vT),(18,vT)] (zf (zb (zC (zd (zc 1 [(32,(vI (usd x i)))] (za (zt (some 33) .i64 (IntKind.i64.wrap (((usd x i:Nat):Int)+((1:Nat):Int))) (usd x i+1) (zA (by omega) (by omega) (by omega)) ?_)))))))
    refine zc 1 [(3,(vI (usd x i+1)))] (zf (zp (zb (zd (za (zt (some 34) .i64 (IntKind.i64.wrap (((i:Nat):Int)+((1:Nat):Int))) (i+1) (zA (by omega) (by omega) (by omega)) ?_))))))
    refine zc 1 [(5,(vI (i+1)))] (zf (zF ?_))
    rw [show usd x i+1=usd x (i+1) from by rw [usd];(repeat' split)<;>omega]
    refine zR (i+1) ?_ ?_
    ·exact ⟨by omega,hEl⟩
    ·first | omega |(dsimp only;omega)
   ·replace hc17:(x.rs.get i).st=0:=by have:=zbG hc17;omega
    refine zc 3 [(20,(vP w.heap.size 0)),(19,vF),(18,vF)] (za (zj (some 21) (Instr.loadAt 5 (vP w.heap.size 0)) (vB x.lv) (zk ((hBw1.ext hEl).cell rfl)) ?_))
    refine za (zai (some 22) (((x.lv:Nat):Int) !=((0:Nat):Int)) false (zaA (by omega)) ?_)
    refine zc 9 [(31,vF),(30,vF),(29,undef),(28,undef),(27,undef),(26,undef),(25,undef),(24,undef),(23,vF)] (zf (zb (zn (zu (zp (zb (zd (za (zt (some 34) .i64 (IntKind.i64.wrap (((i:Nat):Int)+((1:Nat):Int))) (i+1) (zA (by omega) (by omega) (by omega)) ?_)))))))))
    refine zc 1 [(5,(vI (i+1)))] (zf (zF ?_))
    rw [show usd x i=usd x (i+1) from by rw [usd];(repeat' split)<;>omega]
    refine zR (i+1) ?_ ?_
    ·exact ⟨by omega,hEl⟩
    ·first | omega |(dsimp only;omega)
  ·replace hc10:¬(x.lv=0):=by have:=zbo hc10;omega
   refine zc 10 [(20,(vP w.heap.size 0)),(19,vF),(18,vF),(17,undef),(16,undef),(15,undef),(14,undef),(13,undef),(12,undef),(11,vF)] (za (zj (some 21) (Instr.loadAt 5 (vP w.heap.size 0)) (vB x.lv) (zk ((hBw1.ext hEl).cell rfl)) ?_))
   refine za (zai (some 22) (((x.lv:Nat):Int) !=((0:Nat):Int)) true (zcp (by omega)) ?_)
   refine zc 3 [(25,(vP w.heap.size 142)),(24,(vI i)),(23,vT)] (za (zj (some 26) (Instr.indexAt 72 (vP w.heap.size 142) (vI i)) (vP w.heap.size (142+i*33)) (zag (E:=71) (sz:=33) (m:=4) (by omega)) ?_))
   refine zc 1 [(27,(vP w.heap.size (142+i*33)))] (za (zj (some 28) (Instr.loadAt 5 (vP w.heap.size (142+i*33))) (vB ((x.es.get i).st)) (zk ((hBw1.ext hEl).cell (zrO (by omega)))) ?_))
   refine za (zK (some 29) (((((x.es.get i).st:Nat):Int) !=((0:Nat):Int))) (fun hc29=> ?_) (fun hc29=> ?_))
   ·replace hc29:¬((x.es.get i).st=0):=by have:=zbE hc29;omega
    refine zc 2 [(31,vT),(30,vT)] (zf (zb (zC (zd (zc 1 [(32,(vI (usd x i)))] (za (zt (some 33) .i64 (IntKind.i64.wrap (((usd x i:Nat):Int)+((1:Nat):Int))) (usd x i+1) (zA (by omega) (by omega) (by omega)) ?_)))))))
    refine zc 1 [(3,(vI (usd x i+1)))] (zf (zp (zb (zd (za (zt (some 34) .i64 (IntKind.i64.wrap (((i:Nat):Int)+((1:Nat):Int))) (i+1) (zA (by omega) (by omega) (by omega)) ?_))))))
    refine zc 1 [(5,(vI (i+1)))] (zf (zF ?_))
    rw [show usd x i+1=usd x (i+1) from by rw [usd];(repeat' split)<;>omega]
    refine zR (i+1) ?_ ?_
    ·exact ⟨by omega,hEl⟩
    ·first | omega |(dsimp only;omega)
   ·replace hc29:(x.es.get i).st=0:=by have:=zbG hc29;omega
    refine zc 2 [(31,vF),(30,vF)] (zf (zb (zn (zu (zp (zb (zd (za (zt (some 34) .i64 (IntKind.i64.wrap (((i:Nat):Int)+((1:Nat):Int))) (i+1) (zA (by omega) (by omega) (by omega)) ?_)))))))))
    refine zc 1 [(5,(vI (i+1)))] (zf (zF ?_))
    rw [show usd x i=usd x (i+1) from by rw [usd];(repeat' split)<;>omega]
    refine zR (i+1) ?_ ?_
    ·exact ⟨by omega,hEl⟩
    ·first | omega |(dsimp only;omega)
 ·replace hc6:¬(i<4):=by have:=zae hc6;omega
  refine zf (zb (ze (zn (zW (zx (zx (zL (zb (ze ?_)))))))))
  refine zd (zc 2 [(2,(vI (usd x i))),(35,(vI (usd x i)))] (zf (zb (zq (zr (vI (usd x i)) ?_)))))
  obtain rfl:i=4:=by omega
  exact ⟨rfl,(hEw1.trans hEl)⟩
theorem zjB (sd:Nat) (w:World) (hp0:sd<256):
  Calls Tryz.prog 21 #[(vB sd)] w (Ret fun r w'=>r=(vA (zO (mkD sd)))∧Ext w w'):=by
 refine zI (n:=17) (σ:= [(0,(vB sd))]) Tryz.func21 rfl ?_
 refine ze (zd (za (zo (some 2) (Instr.alloc 59 true (.tuple #[])) (vP w.heap.size 0) (zO Dig.zero) 59 ?_)))
 intro w1 hBw1 hEw1
 have hzw1:=hEw1.size;have hlw1:=hBw1.lt
 refine zf (zb (ze (zd (za (zo (some 3) (Instr.alloc 59 true (.tuple #[])) (vP w1.heap.size 0) (zO Dig.zero) 59 ?_)))))
 intro w2 hBw2 hEw2
 have hzw2:=hEw2.size;have hlw2:=hBw2.lt
 refine zf (zb (ze (ze (zd (zc 1 [(4,(vI 0))] (zf (zb (zy (zY (X:=Nat) (fun i=> [(4,(vI i))]) [5,6,7,8,9,10,11,12,13,14,15] (fun i w3=>i≤32∧Blk w3 w1.heap.size (u8s (zcH 32 (fun j=>decide (j<i)) (fun j=>UInt8.ofNat (sd+7*j)))) 59∧Ext w1 w3) (fun i=>32-i) 0 (by kernel_rfl) ⟨by omega,(by rw [zgP _ _ _ (by intro j hj;simp)];exact hBw2),hEw2⟩ ?_)))))))))
 rintro i dw3 w3 ⟨hi,hBl,hEl⟩
 have hzl:=hEl.size;have hll:=hBl.lt
 refine ze (ze (zd (zc 1 [(5,(vI i))] (za (zK (some 6) (decide (((i:Nat):Int)<((32:Nat):Int))) (fun hc6=> ?_) (fun hc6=> ?_))))))
 ·replace hc6:i<32:=by have:=zaf hc6;omega
  refine zf (zb (zC (zu (zb (ze (zy (zd (zc 3 [(11,(vI i)),(10,(vB sd)),(9,(vI i))] (za (zt (some 12) .i64 (IntKind.i64.wrap (((7:Nat):Int)*((i:Nat):Int))) (7*i) (zA (by omega) (by omega) (by omega)) ?_))))))))))
  refine za (zt (some 13) .u8 (IntKind.u8.wrap ((7*i:Nat):Int)) ((7*i)%2^8) (zb2 rfl rfl) ?_)
  refine za (zt (some 14) .u8 (IntKind.u8.wrap (((sd:Nat):Int)+(((7*i)%2^8:Nat):Int))) ((sd+(7*i)%2^8)%2^8) (zb2 rfl (by simp)) ?_)
  refine za (zj (some 15) (Instr.indexAt 59 (vP w1.heap.size 0) (vI i)) (vP w1.heap.size (0+i*1)) (zag (E:=5) (sz:=1) (m:=32) (by omega)) ?_)
  refine za (zah 5 w1.heap.size (0+i*1) 59 (vB ((sd+(7*i)%2^8)%2^8)) (u8s (zcH 32 (fun j=>decide (j<i)) (fun j=>UInt8.ofNat (sd+7*j)))) hBl (by simp;omega) ?_)
  intro w4 hBw4 hCw4
  have hzw4:=hCw4.size
  rw [show ((u8s (zcH 32 (fun j=>decide (j<i)) (fun j=>UInt8.ofNat (sd+7*j)))).set (0+i*1) (vB ((sd+(7*i)%2^8)%2^8)):List Value)=u8s (zcH 32 (fun j=>decide (j<i+1)) (fun j=>UInt8.ofNat (sd+7*j))) from by have hx:=zhC 32 (fun j=>decide (j<i)) (fun j=>decide (j<i+1)) (fun j=>UInt8.ofNat (sd+7*j)) i (UInt8.ofNat (sd+7*i)) (by omega) rfl (by intro j hj;by_cases h1:j<i+1<;>by_cases h2:j<i<;>by_cases h3:j=i<;>simp [h1,h2,h3]<;>omega);rw [UInt8.toNat_ofNat'] at hx;simpa only [Nat.zero_add,Nat.mul_one,show (sd+7*i%2^8)%2^8=(sd+7*i)%2^8 from by omega] using hx] at hBw4
  refine zf (zp (zb (zd (zc 1 [(7,(vI i))] (za (zt (some 8) .i64 (IntKind.i64.wrap (((i:Nat):Int)+((1:Nat):Int))) (i+1) (zA (by omega) (by omega) (by omega)) ?_))))))
  refine zc 1 [(4,(vI (i+1)))] (zf (zF (zR (i+1) ?_ ?_)))
  ·exact ⟨by omega,hBw4,(Ext.own hEl hCw4 (by omega))⟩
  ·first | omega |(dsimp only;omega)
 ·replace hc6:¬(i<32):=by have:=zae hc6;omega
  refine zf (zb (zn (zW (zx (zx (zL (zb (ze (zd ?_)))))))))
  obtain rfl:i=32:=by omega
  have hBd:Blk w3 w1.heap.size (zO (mkD sd)) 59:=by have hq:=hBl;rw [zhy _ _ _ (by intro j hj;simpa using hj)] at hq;exact hq
  refine za (zj (some 16) (Instr.loadAt 59 (vP w1.heap.size 0)) (vA (zO (mkD sd))) (zw (vs:=zO (mkD sd)) hBd.all (by rw [zal];kernel_rfl)) ?_)
  refine za (zv 59 w.heap.size 0 59 (vA (zO (mkD sd))) (zO Dig.zero) (zO (mkD sd)) (hBw1.ext hEl) (by rw [zal];kernel_rfl) (by first |(simp;done)|(simp;omega)) (zbH _) ?_)
  intro w5 hBw5 hCw5
  have hzw5:=hCw5.size
  rw [zm _ _ (by simp)] at hBw5
  exact zf (zb (zq (zaB (show zZ Tryz.prog 17 _ _ (.cell 2 59) (vA (zO (mkD sd))) from ⟨⟨w.heap.size,0,none⟩,(by kernel_rfl),zN (T:=59) (vs:=zO (mkD sd)) (hBw5).all (by rw [zal];kernel_rfl)⟩) (⟨rfl,(Ext.own (hEw1.trans hEl) hCw5 (by omega))⟩))))
end Go.Proofs.YtkmhgepdhilllaaGreatDoor
namespace Go.Proofs.YtkmhgepdhilllaaGreatDoor
open Go Go.RowKit Go.Cs
set_option maxRecDepth 100000
theorem zmZ (x:Nod) (w:World) (hp0:x.lv=0):
  Calls Tryz.prog 84 #[(vA (zH x))] w (Ret fun r w'=>∃a0 ca0,r=(.slice a0 185 ca0)∧Es u8v w.heap.size w'.heap.size w' a0 185 ca0 (zS x)∧Ext w w'):=by
 refine zI (n:=45) (σ:= [(0,(vA (zH x)))]) Tryz.func84 rfl ?_
 have hlvx:=x.hlv
 have hixx:=x.hix
 refine ze (zd (za (zo (some 1) (Instr.box 74 (vA (zH x))) (vP w.heap.size 0) (zH x) 74 ?_)))
 intro w1 hBw1 hEw1
 have hzw1:=hEw1.size;have hlw1:=hBw1.lt
 refine zc 1 [(2,(.slice none 0 0))] (zf (zb (ze (zd (zc 1 [(5,(vP w.heap.size 0))] (za (zj (some 6) (Instr.loadAt 5 (vP w.heap.size 0)) (vB x.lv) (zk (hBw1.cell rfl)) ?_)))))))
 refine zc 1 [(7,(vP w.heap.size 1))] (za (zj (some 8) (Instr.loadAt 53 (vP w.heap.size 1)) (vW x.ix) (zk (hBw1.cell rfl)) ?_))
 refine za (zt (some 9) .u32 (((x.ix:Nat):Int).fdiv (2^24)) (x.ix/256^3) (zfF _ _) ?_)
 refine za (zt (some 10) .u8 (IntKind.u8.wrap ((x.ix/256^3:Nat):Int)) ((x.ix/256^3)%2^8) (zb2 rfl rfl) ?_)
 refine zc 1 [(11,(vP w.heap.size 1))] (za (zj (some 12) (Instr.loadAt 53 (vP w.heap.size 1)) (vW x.ix) (zk (hBw1.cell rfl)) ?_))
 refine za (zt (some 13) .u32 (((x.ix:Nat):Int).fdiv (2^16)) (x.ix/256^2) (zfF _ _) ?_)
 refine za (zt (some 14) .u8 (IntKind.u8.wrap ((x.ix/256^2:Nat):Int)) ((x.ix/256^2)%2^8) (zb2 rfl rfl) ?_)
 refine zc 1 [(15,(vP w.heap.size 1))] (za (zj (some 16) (Instr.loadAt 53 (vP w.heap.size 1)) (vW x.ix) (zk (hBw1.cell rfl)) ?_))
 refine za (zt (some 17) .u32 (((x.ix:Nat):Int).fdiv (2^8)) (x.ix/256^1) (zfF _ _) ?_)
 refine za (zt (some 18) .u8 (IntKind.u8.wrap ((x.ix/256^1:Nat):Int)) ((x.ix/256^1)%2^8) (zb2 rfl rfl) ?_)
 refine zc 1 [(19,(vP w.heap.size 1))] (za (zj (some 20) (Instr.loadAt 53 (vP w.heap.size 1)) (vW x.ix) (zk (hBw1.cell rfl)) ?_))
 refine za (zt (some 21) .u8 (IntKind.u8.wrap ((x.ix:Nat):Int)) (x.ix%2^8) (zb2 rfl rfl) ?_)
 refine za (zo (some 22) (Instr.buildSlice 23 5 #[(0,(vB x.lv)),(1,(vB ((x.ix/256^3)%2^8))),(2,(vB ((x.ix/256^2)%2^8))),(3,(vB ((x.ix/256^1)%2^8))),(4,(vB (x.ix%2^8)))]) (.slice (pA w1.heap.size 0) 5 5) [(vB x.lv),(vB ((x.ix/256^3)%2^8)),(vB ((x.ix/256^2)%2^8)),(vB ((x.ix/256^1)%2^8)),(vB (x.ix%2^8))] 5 ?_)
 intro w2 hBw2 hEw2
 have hzw2:=hEw2.size;have hlw2:=hBw2.lt
 have hSw2:Bs w1.heap.size (w1.heap.size+1) w2 (pA w1.heap.size 0) 5 5 [UInt8.ofNat x.lv,UInt8.ofNat ((x.ix/256^3)%2^8),UInt8.ofNat ((x.ix/256^2)%2^8),UInt8.ofNat ((x.ix/256^1)%2^8),UInt8.ofNat (x.ix%2^8)]:=Bs.of_blk hBw2 (zfM x) rfl (Nat.le_refl _) (by decide) (Nat.le_refl _) (Nat.lt_succ_self _)
 refine zc 1 [(3,(.slice (pA w1.heap.size 0) 5 5))] (zf (zb (ze (ze (zd (zc 1 [(4,(vI 0))] (zf (zb (zy ?_)))))))))
 have hO1:Cs.Own u8v w1.heap.size (w1.heap.size+1) w2 (pA w1.heap.size 0) 5 5 5 ([UInt8.ofNat x.lv,UInt8.ofNat ((x.ix/256^3)%2^8),UInt8.ofNat ((x.ix/256^2)%2^8),UInt8.ofNat ((x.ix/256^1)%2^8),UInt8.ofNat (x.ix%2^8)]):=Cs.Own.of_blk hBw2 (by simp) (by first | rfl | exact (zfM x)) hSw2.len_eq (Nat.le_refl _) (by simp only [maxLen];omega) (Nat.le_refl _) (Nat.lt_succ_self _)
 refine zY (X:=Nat×Option Addr×Nat) (fun ⟨i,p,cp⟩=> [(3,(.slice p (5+45*i) cp)),(4,(vI i))]) [23,24,25,26,27,28,29,30,31,32,33,34,35,36,37,38,39,40,41,42,43] (fun ⟨i,p,cp⟩ w3=>i≤4∧Cs.Own u8v w1.heap.size w3.heap.size w3 p (5+45*i) cp 5 (zd0 x++zby zbF x.rs.get i)∧Ext w1 w3) (fun ⟨i,p,cp⟩=>4-i) (0,(pA w1.heap.size 0),5) (by kernel_rfl) ⟨by omega,by have hz:=(hO1).now;rw [zp9] at hz;rw [zby,List.append_nil];exact hz.mono (by omega) (Nat.le_refl _),hEw2⟩ ?_
 rintro ⟨i,p,cp⟩ dw3 w3 ⟨hi,hO,hEl⟩
 have hzl:=hEl.size
 have hle:=hO.es.le
 refine ze (ze (zd (zc 1 [(23,(vI i))] (za (zK (some 24) (decide (((i:Nat):Int)<((4:Nat):Int))) (fun hc24=> ?_) (fun hc24=> ?_))))))
 ·replace hc24:i<4:=by have:=zaf hc24;omega
  refine zf (zb (zC (zu (zb (ze (zy (ze (zd (zc 1 [(27,(vP w.heap.size 0))] ?_)))))))))
  refine za (zj (some 28) (Instr.loadAt 5 (vP w.heap.size 0)) (vB x.lv) (zk ((hBw1.ext hEl).cell rfl)) ?_)
  refine za (zai (some 29) (((x.lv:Nat):Int)==((0:Nat):Int)) true (zas (by omega)) ?_)
  refine zf (zb (zC (zd (zc 3 [(32,(vP w.heap.size 2)),(31,(vI i)),(30,(.slice p (5+45*i) cp))] (za (zj (some 33) (Instr.indexAt 69 (vP w.heap.size 2) (vI i)) (vP w.heap.size (2+i*35)) (zag (E:=68) (sz:=35) (m:=4) (by omega)) ?_))))))
  refine za (zj (some 34) (Instr.loadAt 68 (vP w.heap.size (2+i*35))) (vA (zM (x.rs.get i))) (zw (vs:=zM (x.rs.get i)) ((hBw1.ext hEl).at (2+i*35) (zM (x.rs.get i)) (nod_r (by omega))) (by rw [zab];kernel_rfl)) ?_)
  refine za (zl (some 35) (znO (x.rs.get i) _) ?_)
  rintro _ w4 ⟨a1,ca1,rfl,hFz1_0,hEw4⟩
  have hzw4:=hEw4.size
  have hlea1:=hFz1_0.le
  have hba1:=hFz1_0.bs
  refine za (zbc (some 36) 23 23 5 1 (.int .u8 0) (hO.ext hEw4) hba1.es (fun _=>rfl) ?_)
  intro a2 c1 w5 hOw5 hCw5
  have hzw5:=hCw5.size
  have hSw5:=hOw5.bs
  refine zc 1 [(3,(.slice a2 (5+45*i+45) c1))] (zf (zp (zb (zd (zc 1 [(25,(vI i))] (za (zt (some 26) .i64 (IntKind.i64.wrap (((i:Nat):Int)+((1:Nat):Int))) (i+1) (zA (by omega) (by omega) (by omega)) ?_)))))))
  refine zc 1 [(4,(vI (i+1)))] (zf (zF ?_))
  rw [show 5+45*i+45=5+45*(i+1) from by omega]
  refine zR (i+1,a2,c1) ?_ ?_
  ·exact ⟨by omega,by have hz:=hOw5;rw [List.append_assoc] at hz;exact (show 5+45*i+45=5+45*(i+1) from by omega)▸hz,(Ext.ownS (hEl.trans hEw4) hCw5 (fun k hs hk=>by have hn:=(hO.ext hEw4).ne hs;omega))⟩
  ·first | omega |(dsimp only;omega)
 ·replace hc24:¬(i<4):=by have:=zae hc24;omega
  refine zf (zb (zn (zW (zx (zx (zL (zb (ze (zd ?_)))))))))
  refine zc 2 [(2,(.slice p (5+45*i) cp)),(44,(.slice p (5+45*i) cp))] (zf (zb (zq (zr (.slice p (5+45*i) cp) ?_))))
  obtain rfl:i=4:=by omega
  rw [show zS x=zd0 x++zby zbF x.rs.get 4 from by unfold zS;rw [if_pos hp0]]
  exact ⟨_,_,rfl,(hO).es.mono (by omega) (Nat.le_refl _),(hEw1.trans hEl)⟩
theorem zm2 (x:Nod) (w:World) (hp0:¬x.lv=0):
  Calls Tryz.prog 84 #[(vA (zH x))] w (Ret fun r w'=>∃a0 ca0,r=(.slice a0 137 ca0)∧Es u8v w.heap.size w'.heap.size w' a0 137 ca0 (zS x)∧Ext w w'):=by
 refine zI (n:=45) (σ:= [(0,(vA (zH x)))]) Tryz.func84 rfl ?_
 have hlvx:=x.hlv
 have hixx:=x.hix
 refine ze (zd (za (zo (some 1) (Instr.box 74 (vA (zH x))) (vP w.heap.size 0) (zH x) 74 ?_)))
 intro w1 hBw1 hEw1
 have hzw1:=hEw1.size;have hlw1:=hBw1.lt
 refine zc 1 [(2,(.slice none 0 0))] (zf (zb (ze (zd (zc 1 [(5,(vP w.heap.size 0))] (za (zj (some 6) (Instr.loadAt 5 (vP w.heap.size 0)) (vB x.lv) (zk (hBw1.cell rfl)) ?_)))))))
 refine zc 1 [(7,(vP w.heap.size 1))] (za (zj (some 8) (Instr.loadAt 53 (vP w.heap.size 1)) (vW x.ix) (zk (hBw1.cell rfl)) ?_))
 refine za (zt (some 9) .u32 (((x.ix:Nat):Int).fdiv (2^24)) (x.ix/256^3) (zfF _ _) ?_)
 refine za (zt (some 10) .u8 (IntKind.u8.wrap ((x.ix/256^3:Nat):Int)) ((x.ix/256^3)%2^8) (zb2 rfl rfl) ?_)
 refine zc 1 [(11,(vP w.heap.size 1))] (za (zj (some 12) (Instr.loadAt 53 (vP w.heap.size 1)) (vW x.ix) (zk (hBw1.cell rfl)) ?_))
 refine za (zt (some 13) .u32 (((x.ix:Nat):Int).fdiv (2^16)) (x.ix/256^2) (zfF _ _) ?_)
 refine za (zt (some 14) .u8 (IntKind.u8.wrap ((x.ix/256^2:Nat):Int)) ((x.ix/256^2)%2^8) (zb2 rfl rfl) ?_)
 refine zc 1 [(15,(vP w.heap.size 1))] (za (zj (some 16) (Instr.loadAt 53 (vP w.heap.size 1)) (vW x.ix) (zk (hBw1.cell rfl)) ?_))
 refine za (zt (some 17) .u32 (((x.ix:Nat):Int).fdiv (2^8)) (x.ix/256^1) (zfF _ _) ?_)
 refine za (zt (some 18) .u8 (IntKind.u8.wrap ((x.ix/256^1:Nat):Int)) ((x.ix/256^1)%2^8) (zb2 rfl rfl) ?_)
 refine zc 1 [(19,(vP w.heap.size 1))] (za (zj (some 20) (Instr.loadAt 53 (vP w.heap.size 1)) (vW x.ix) (zk (hBw1.cell rfl)) ?_))
 refine za (zt (some 21) .u8 (IntKind.u8.wrap ((x.ix:Nat):Int)) (x.ix%2^8) (zb2 rfl rfl) ?_)
 refine za (zo (some 22) (Instr.buildSlice 23 5 #[(0,(vB x.lv)),(1,(vB ((x.ix/256^3)%2^8))),(2,(vB ((x.ix/256^2)%2^8))),(3,(vB ((x.ix/256^1)%2^8))),(4,(vB (x.ix%2^8)))]) (.slice (pA w1.heap.size 0) 5 5) [(vB x.lv),(vB ((x.ix/256^3)%2^8)),(vB ((x.ix/256^2)%2^8)),(vB ((x.ix/256^1)%2^8)),(vB (x.ix%2^8))] 5 ?_)
 intro w2 hBw2 hEw2
 have hzw2:=hEw2.size;have hlw2:=hBw2.lt
 have hSw2:Bs w1.heap.size (w1.heap.size+1) w2 (pA w1.heap.size 0) 5 5 [UInt8.ofNat x.lv,UInt8.ofNat ((x.ix/256^3)%2^8),UInt8.ofNat ((x.ix/256^2)%2^8),UInt8.ofNat ((x.ix/256^1)%2^8),UInt8.ofNat (x.ix%2^8)]:=Bs.of_blk hBw2 (zfM x) rfl (Nat.le_refl _) (by decide) (Nat.le_refl _) (Nat.lt_succ_self _)
 refine zc 1 [(3,(.slice (pA w1.heap.size 0) 5 5))] (zf (zb (ze (ze (zd (zc 1 [(4,(vI 0))] (zf (zb (zy ?_)))))))))
 have hO1:Cs.Own u8v w1.heap.size (w1.heap.size+1) w2 (pA w1.heap.size 0) 5 5 5 ([UInt8.ofNat x.lv,UInt8.ofNat ((x.ix/256^3)%2^8),UInt8.ofNat ((x.ix/256^2)%2^8),UInt8.ofNat ((x.ix/256^1)%2^8),UInt8.ofNat (x.ix%2^8)]):=Cs.Own.of_blk hBw2 (by simp) (by first | rfl | exact (zfM x)) hSw2.len_eq (Nat.le_refl _) (by simp only [maxLen];omega) (Nat.le_refl _) (Nat.lt_succ_self _)
 refine zY (X:=Nat×Option Addr×Nat) (fun ⟨i,p,cp⟩=> [(3,(.slice p (5+33*i) cp)),(4,(vI i))]) [23,24,25,26,27,28,29,30,31,32,33,34,35,36,37,38,39,40,41,42,43] (fun ⟨i,p,cp⟩ w3=>i≤4∧Cs.Own u8v w1.heap.size w3.heap.size w3 p (5+33*i) cp 5 (zd0 x++zby zbR x.es.get i)∧Ext w1 w3) (fun ⟨i,p,cp⟩=>4-i) (0,(pA w1.heap.size 0),5) (by kernel_rfl) ⟨by omega,by have hz:=(hO1).now;rw [zp9] at hz;rw [zby,List.append_nil];exact hz.mono (by omega) (Nat.le_refl _),hEw2⟩ ?_
 rintro ⟨i,p,cp⟩ dw3 w3 ⟨hi,hO,hEl⟩
 have hzl:=hEl.size
 have hle:=hO.es.le
 refine ze (ze (zd (zc 1 [(23,(vI i))] (za (zK (some 24) (decide (((i:Nat):Int)<((4:Nat):Int))) (fun hc24=> ?_) (fun hc24=> ?_))))))
 ·replace hc24:i<4:=by have:=zaf hc24;omega
  refine zf (zb (zC (zu (zb (ze (zy (ze (zd (zc 1 [(27,(vP w.heap.size 0))] ?_)))))))))
  refine za (zj (some 28) (Instr.loadAt 5 (vP w.heap.size 0)) (vB x.lv) (zk ((hBw1.ext hEl).cell rfl)) ?_)
  refine za (zai (some 29) (((x.lv:Nat):Int)==((0:Nat):Int)) false (zcc (by omega)) ?_)
  refine zf (zb (zn (zd (zc 3 [(39,(vP w.heap.size 142)),(38,(vI i)),(37,(.slice p (5+33*i) cp))] (za (zj (some 40) (Instr.indexAt 72 (vP w.heap.size 142) (vI i)) (vP w.heap.size (142+i*33)) (zag (E:=71) (sz:=33) (m:=4) (by omega)) ?_))))))
  refine za (zj (some 41) (Instr.loadAt 71 (vP w.heap.size (142+i*33))) (vA (zad (x.es.get i))) (zw (vs:=zad (x.es.get i)) ((hBw1.ext hEl).at (142+i*33) (zad (x.es.get i)) (nod_e (by omega))) (by rw [zaF];kernel_rfl)) ?_)
  refine za (zl (some 42) (zpu (x.es.get i) _) ?_)
  rintro _ w4 ⟨a1,ca1,rfl,hFz1_0,hEw4⟩
  have hzw4:=hEw4.size
  have hlea1:=hFz1_0.le
  have hba1:=hFz1_0.bs
  refine za (zbc (some 43) 23 23 5 1 (.int .u8 0) (hO.ext hEw4) hba1.es (fun _=>rfl) ?_)
  intro a2 c1 w5 hOw5 hCw5
  have hzw5:=hCw5.size
  have hSw5:=hOw5.bs
  refine zc 1 [(3,(.slice a2 (5+33*i+33) c1))] (zf (zp (zb (zd (zc 1 [(25,(vI i))] (za (zt (some 26) .i64 (IntKind.i64.wrap (((i:Nat):Int)+((1:Nat):Int))) (i+1) (zA (by omega) (by omega) (by omega)) ?_)))))))
  refine zc 1 [(4,(vI (i+1)))] (zf (zF ?_))
  rw [show 5+33*i+33=5+33*(i+1) from by omega]
  refine zR (i+1,a2,c1) ?_ ?_
  ·exact ⟨by omega,by have hz:=hOw5;rw [List.append_assoc] at hz;exact (show 5+33*i+33=5+33*(i+1) from by omega)▸hz,(Ext.ownS (hEl.trans hEw4) hCw5 (fun k hs hk=>by have hn:=(hO.ext hEw4).ne hs;omega))⟩
  ·first | omega |(dsimp only;omega)
 ·replace hc24:¬(i<4):=by have:=zae hc24;omega
  refine zf (zb (zn (zW (zx (zx (zL (zb (ze (zd ?_)))))))))
  refine zc 2 [(2,(.slice p (5+33*i) cp)),(44,(.slice p (5+33*i) cp))] (zf (zb (zq (zr (.slice p (5+33*i) cp) ?_))))
  obtain rfl:i=4:=by omega
  rw [show zS x=zd0 x++zby zbR x.es.get 4 from by unfold zS;rw [if_neg hp0]]
  exact ⟨_,_,rfl,(hO).es.mono (by omega) (Nat.le_refl _),(hEw1.trans hEl)⟩
theorem znI (x:Nod) (w:World):
  Calls Tryz.prog 84 #[(vA (zH x))] w (Ret fun r w'=>∃a0 ca0,r=(.slice a0 (zbM x) ca0)∧Es u8v w.heap.size w'.heap.size w' a0 (zbM x) ca0 (zS x)∧Ext w w'):=by
 by_cases h:x.lv=0
 ·rw [show zbM x=185 from if_pos h];exact zmZ x w h
 ·rw [show zbM x=137 from if_neg h];exact zm2 x w h
end Go.Proofs.YtkmhgepdhilllaaGreatDoor
namespace Go.Proofs.YtkmhgepdhilllaaGreatDoor
open Go Go.RowKit Go.Cs
set_option maxRecDepth 100000
theorem zn6 {b6 bm n cp m:Nat} {L:List UInt8} {lo hi k:Nat} {a:Option Addr} {cl:Nat} {l:List UInt8} (e:Nat) (w:World) (hb6:Blk w b6 [(.slice (pA bm 0) n cp)] 23) (hbm:Blk w bm (u8s L++List.replicate m (vB 0)) 5) (hL:L.length=n) (hcp:n+m=cp) (hmx:cp≤1000) (hne:b6≠bm) (hl:Bs lo hi w a k cl l) (hk:0<k) (hkm:k≤m):
  Calls Tryz.prog 112 #[(.slice a k cl),(vI e),(vP b6 0)] w (Ret fun r w'=>r=(vI e)∧Blk w' b6 [(.slice (pA bm 0) (n+k) cp)] 23∧Blk w' bm (u8s (L++l)++List.replicate (m-k) (vB 0)) 5∧Chg (fun j=>j=b6∨j=bm) w w'):=by
 refine zI (n:=10) (σ:= [(0,(.slice a k cl)),(1,(vI e)),(2,(vP b6 0))]) Tryz.func112 rfl ?_
 have hle:=hl.le
 refine ze (zd (zc 1 [(5,(vI 0))] (zf (zb (ze (zd (za (zj (some 6) (Instr.loadAt 23 (vP b6 0)) (.slice (pA bm 0) n cp) (zk (hb6.cell rfl)) ?_))))))))
 refine zc 1 [(7,(.slice a k cl))] ?_
 obtain ⟨b1,o1,rfl⟩:=hl.addr (by omega)
 refine za (zcT (some 8) 23 23 5 1 bm n cp ⟨b1,o1,none⟩ k cl hbm hl.sla (by rw [zaV,←hl.len_eq,Nat.mul_one]) (zcN _) (by rw [List.length_append,zaV,hL,List.length_replicate,Nat.mul_one];omega) ?_ (by omega))
 intro w1 hBw1 hCw1
 have hzw1:=hCw1.size
 rw [zfB hL hl.len_eq.symm (by omega)] at hBw1
 have hLw1:(L++l).length=n+k:=by rw [List.length_append,hL,←hl.len_eq]
 refine za (zah 23 b6 0 23 (.slice (pA bm 0) (n+k) cp) ([(.slice (pA bm 0) n cp)]) ((hb6).chg hCw1 (fun hs=>by have h:_=_:=hs;omega)) (by first | decide |(simp;done)|(simp;omega)) ?_)
 intro w2 hBw2 hCw2
 have hzw2:=hCw2.size
 replace hBw2:=hBw2.set1
 exact zf (zb (ze (zd (zc 2 [(5,(vI e)),(9,(vI e))] (zf (zb (zq (zr (vI e) (⟨rfl,hBw2,((hBw1).chg hCw2 (fun hs=>by have h:_=_:=hs;omega)),(Chg.then (Chg.then (Chg.refl (fun j=>j=b6∨j=bm) w) hCw1 (fun k hk hs=>by have h:k=_:=hs;first | exact hs | exact .inl h | exact .inr h |(exfalso;omega))) hCw2 (fun k hk hs=>by have h:k=_:=hs;first | exact hs | exact .inl h | exact .inr h |(exfalso;omega)))⟩)))))))))
theorem zsO {b6 bm n cp m:Nat} {L:List UInt8} {b7:Nat} (q:Rec) (w:World) (hb6:Blk w b6 [(.slice (pA bm 0) n cp)] 23) (hbm:Blk w bm (u8s L++List.replicate m (vB 0)) 5) (hL:L.length=n) (hcp:n+m=cp) (hmx:cp≤1000) (hne:b6≠bm) (hb7:Blk w b7 [(.func (.func 112) #[] #[(vP b6 0)])] 184) (h76:b7≠b6) (h7m:b7≠bm) (hq:zaN q=0) (hm:45≤m):
  Calls Tryz.prog 114 #[(vA (zM q)),(vP b7 0)] w (Ret fun r w'=>r=(vI 0)∧Blk w' b7 [(.func (.func 112) #[] #[(vP b6 0)])] 184∧Blk w' b6 [(.slice (pA bm 0) (n+45) cp)] 23∧Blk w' bm (u8s (L++zbF q)++List.replicate (m-45) (vB 0)) 5∧Chg (fun j=>j=b6∨j=bm) w w'):=by
 refine zI (n:=10) (σ:= [(0,(vA (zM q))),(1,(vP b7 0))]) Tryz.func114 rfl ?_
 have h6l:=hb6.lt;have hml:=hbm.lt;have h7l:=hb7.lt
 refine ze (zd (za (zo (some 2) (Instr.box 68 (vA (zM q))) (vP w.heap.size 0) (zM q) 68 ?_)))
 intro w1 hBw1 hEw1
 have hzw1:=hEw1.size;have hlw1:=hBw1.lt
 refine zc 1 [(3,(vI 0))] (zf (zb (ze (zT (Chg (fun j=>j=b6∨j=bm) w1.drew) 7 [(5,2,0),(6,4,0),(7,32,2),(8,64,4),(9,64,4),(10,400,29),(4,512,63)] (fun hT31=> ?_)))))
 have hEw2:Ext w1 w1.drew:=Ext.drew w1
 generalize w1.drew=w2 at hEw2⊢
 have hzw2:=hEw2.size
 have hX1:Chg (fun j=>j=b6∨j=bm) w2 w2:=(Chg.refl (fun j=>j=b6∨j=bm) w2)
 refine zg (hw:=hX1) hT31 0 1 (some 4) (.func (.func 112) #[] #[(vP b6 0)]) (zi (Instr.loadAt 184 (vP b7 0)) (fun w' hC=>zk (((((hb7.ext hEw1)).ext hEw2).chg hC (fun hs=>by rcases hs with hs | hs<;>omega)).cell rfl))) (zg (hw:=hX1) hT31 1 3 (some 5) (vA (zM q)) (zi (Instr.loadAt 68 (vP w.heap.size 0)) (fun w' hC=>zw (vs:=zM q) (((hBw1.ext hEw2).chg hC (fun hs=>by rcases hs with hs | hs<;>omega)).all) (by rw [zab];kernel_rfl))) (zz 2 7 (zl (some 6) (zlj q _ (by assumption)) ?_)))
 rintro _ w3 ⟨a1,rfl,hFz1_0,hEw3⟩
 have hzw3:=hEw3.size
 have hX2:Chg (fun j=>j=b6∨j=bm) w2 w3:=((Chg.refl (fun j=>j=b6∨j=bm) w2).trans hEw3.chg)
 refine ⟨.inr hX2, ?_⟩
 refine zh (hw:=hX2) hT31 [(3,7,(.slice a1 45 45)),(4,8,(vI 0))] 2 31 ?_
 have hK1:=(((((hb6.ext hEw1)).ext hEw2)).ext hEw3)
 have hK2:=(((((hbm.ext hEw1)).ext hEw2)).ext hEw3)
 refine zz 5 63 (zl (some 9) (zn6 0 _ hK1 hK2 hL hcp hmx hne hFz1_0 (by omega) (by omega)) ?_)
 rintro _ w4 ⟨rfl,hPw4,hQw4,hCw4⟩
 have hzw4:=hCw4.size
 have hX3:Chg (fun j=>j=b6∨j=bm) w2 w4:=(Chg.then ((Chg.refl (fun j=>j=b6∨j=bm) w2).trans hEw3.chg) hCw4 (fun k hk hs=>by first | exact hs |(rcases hs with hs | hs<;>first |(left;omega)|(right;omega)|(exfalso;omega))))
 refine ⟨.inr hX3, ?_⟩
 refine zh (hw:=hX3) hT31 [(6,3,(vI 0))] 1 127 (zJ (zb (zq (zr (vI 0) ?_))))
 have hK3:=(((((((hb7.ext hEw1)).ext hEw2)).ext hEw3)).chg hCw4 (fun hs=>by rcases hs with hs | hs<;>omega))
 exact ⟨rfl,hK3,hPw4,hQw4,(Chg.then ((((Chg.refl (fun j=>j=b6∨j=bm) w).trans hEw1.chg).trans hEw2.chg).trans hEw3.chg) hCw4 (fun k hk hs=>by first | exact hs |(rcases hs with hs | hs<;>first |(left;omega)|(right;omega)|(exfalso;omega))))⟩
theorem zkg {b6 bm n cp m:Nat} {L:List UInt8} {b7:Nat} (x:R4) (w:World) (hb6:Blk w b6 [(.slice (pA bm 0) n cp)] 23) (hbm:Blk w bm (u8s L++List.replicate m (vB 0)) 5) (hL:L.length=n) (hcp:n+m=cp) (hmx:cp≤1000) (hne:b6≠bm) (hb7:Blk w b7 [(.func (.func 112) #[] #[(vP b6 0)])] 184) (h76:b7≠b6) (h7m:b7≠bm) (hq:zfN x=0) (hm:180≤m):
  Calls Tryz.prog 113 #[(vA (r4C x)),(.func (.func 114) #[] #[(vP b7 0)])] w (Ret fun r w'=>r=(vI 0)∧Blk w' b7 [(.func (.func 112) #[] #[(vP b6 0)])] 184∧Blk w' b6 [(.slice (pA bm 0) (n+45*4) cp)] 23∧Blk w' bm (u8s (L++zby zbF x.get 4)++List.replicate (m-45*4) (vB 0)) 5∧Chg (fun j=>j=b6∨j=bm) w w'):=by
 refine zI (n:=19) (σ:= [(0,(vA (r4C x))),(1,(.func (.func 114) #[] #[(vP b7 0)]))]) Tryz.func113 rfl ?_
 have h6l:=hb6.lt;have hml:=hbm.lt;have h7l:=hb7.lt
 refine ze (zd (za (zo (some 2) (Instr.box 69 (vA (r4C x))) (vP w.heap.size 0) (r4C x) 69 ?_)))
 intro w1 hBw1 hEw1
 have hzw1:=hEw1.size;have hlw1:=hBw1.lt
 refine zc 1 [(4,(vI 0))] (zf (zb (ze (ze (zd (za (zj (some 8) (Instr.loadAt 69 (vP w.heap.size 0)) (vA (r4C x)) (zw (vs:=r4C x) (hBw1.all) (by rw [zc6];kernel_rfl)) ?_)))))))
 refine zc 1 [(9,(vI 0))] (zf (zb (zy (zY (X:=Nat) (fun i=> [(9,(vI i))]) [4,6,7,10,11,12,13,14,15,16,17,18] (fun i w2=>i≤4∧Blk w2 b7 ([(.func (.func 112) #[] #[(vP b6 0)])]) 184∧Blk w2 b6 ([(.slice (pA bm 0) (n+45*i) cp)]) 23∧Blk w2 bm (u8s (L++zby zbF x.get i)++List.replicate (m-45*i) (vB 0)) 5∧Chg (fun j=>j=b6∨j=bm) w w2) (fun i=>4-i) 0 (by kernel_rfl) ⟨by omega,(hb7.ext hEw1),(hb6.ext hEw1),by have hz:=(hbm.ext hEw1);simpa [zby] using hz,((Chg.refl (fun j=>j=b6∨j=bm) w).trans hEw1.chg)⟩ ?_))))
 rintro i dw2 w2 ⟨hi,hR,hP,hQ,hCl⟩
 have hzl:=hCl.size
 refine ze (zd (za (zK (some 10) (decide (((i:Nat):Int)<((4:Nat):Int))) (fun hc10=> ?_) (fun hc10=> ?_))))
 ·replace hc10:i<4:=by have:=zaf hc10;omega
  refine zf (zb (ze (zC (zu (zb (ze (zy (ze (zd ?_)))))))))
  refine za (zj (some 11) (Instr.index 69 (vA (r4C x)) (vI i)) (vA (zM (x.get i))) (zgY (E:=68) (m:=4) (sz:=35) (us:=zM (x.get i)) (by omega) (znc (by omega))) ?_)
  refine za (zo (some 6) (Instr.alloc 68 true (.tuple #[])) (vP w2.heap.size 0) (zM Rec.zero) 68 ?_)
  intro w3 hBw3 hEw3
  have hzw3:=hEw3.size;have hlw3:=hBw3.lt
  refine za (zv 68 w2.heap.size 0 68 (vA (zM (x.get i))) (zM Rec.zero) (zM (x.get i)) hBw3 (by rw [zab];kernel_rfl) (by first |(simp;done)|(simp;omega)) (za2 _) ?_)
  intro w4 hBw4 hCw4
  have hzw4:=hCw4.size
  rw [zm _ _ (by simp)] at hBw4
  refine zf (zb (ze (zd (zc 1 [(12,(.func (.func 114) #[] #[(vP b7 0)]))] (za (zj (some 13) (Instr.loadAt 68 (vP w2.heap.size 0)) (vA (zM (x.get i))) (zw (vs:=zM (x.get i)) (hBw4.all) (by rw [zab];kernel_rfl)) ?_))))))
  refine za (zl (some 14) (zsO (x.get i) _ (((hP.ext hEw3)).chg hCw4 (fun hs=>by have h:_=_:=hs;omega)) (((hQ.ext hEw3)).chg hCw4 (fun hs=>by have h:_=_:=hs;omega)) (by rw [List.length_append,zed zh3];omega) (by omega) hmx hne (((hR.ext hEw3)).chg hCw4 (fun hs=>by have h:_=_:=hs;omega)) h76 h7m (zaW.1 hq _ (by omega)) (by omega)) ?_)
  rintro _ w5 ⟨rfl,hRw5,hPw5,hQw5,hCw5⟩
  have hzw5:=hCw5.size
  refine zc 1 [(7,(vI 0))] (zf (zb (ze (zd (zc 2 [(16,vF),(15,(vI 0))] (zf (zb (zn (zu ?_)))))))))
  refine zp (zb (zd (za (zt (some 18) .i64 (IntKind.i64.wrap (((i:Nat):Int)+((1:Nat):Int))) (i+1) (zA (by omega) (by omega) (by omega)) ?_))))
  refine zc 1 [(9,(vI (i+1)))] (zf (zF (zR (i+1) ?_ ?_)))
  ·exact ⟨by omega,hRw5,by have hz:=hPw5;rwa [show n+45*i+45=n+45*(i+1) from by omega] at hz,by have hz:=hQw5;rw [List.append_assoc] at hz;exact (show m-45*i-45=m-45*(i+1) from by omega)▸hz,(Chg.then (Chg.then ((Chg.then (Chg.refl (fun j=>j=b6∨j=bm) w) hCl (fun k hk hs=>by first | exact hs |(rcases hs with hs | hs<;>first |(left;omega)|(right;omega)|(exfalso;omega)))).trans hEw3.chg) hCw4 (fun k hk hs=>by have h:k=_:=hs;first | exact hs | exact .inl h | exact .inr h |(exfalso;omega))) hCw5 (fun k hk hs=>by first | exact hs |(rcases hs with hs | hs<;>first |(left;omega)|(right;omega)|(exfalso;omega))))⟩
  ·first | omega |(dsimp only;omega)
 ·replace hc10:¬(i<4):=by have:=zae hc10;omega
  refine zf (zb (ze (zn (zW (zx (zx (zL (zb (ze ?_)))))))))
  refine zd (zc 1 [(4,(vI 0))] (zf (zb (zq (zr (vI 0) ?_)))))
  obtain rfl:i=4:=by omega
  exact ⟨rfl,hR,hP,hQ,(Chg.then (Chg.refl (fun j=>j=b6∨j=bm) w) hCl (fun k hk hs=>by first | exact hs |(rcases hs with hs | hs<;>first |(left;omega)|(right;omega)|(exfalso;omega))))⟩
theorem zso {b6 bm n cp m:Nat} {L:List UInt8} {b7:Nat} (q:Ent) (w:World) (hb6:Blk w b6 [(.slice (pA bm 0) n cp)] 23) (hbm:Blk w bm (u8s L++List.replicate m (vB 0)) 5) (hL:L.length=n) (hcp:n+m=cp) (hmx:cp≤1000) (hne:b6≠bm) (hb7:Blk w b7 [(.func (.func 112) #[] #[(vP b6 0)])] 184) (h76:b7≠b6) (h7m:b7≠bm) (hq:za3 q=0) (hm:33≤m):
  Calls Tryz.prog 117 #[(vA (zad q)),(vP b7 0)] w (Ret fun r w'=>r=(vI 0)∧Blk w' b7 [(.func (.func 112) #[] #[(vP b6 0)])] 184∧Blk w' b6 [(.slice (pA bm 0) (n+33) cp)] 23∧Blk w' bm (u8s (L++zbR q)++List.replicate (m-33) (vB 0)) 5∧Chg (fun j=>j=b6∨j=bm) w w'):=by
 refine zI (n:=10) (σ:= [(0,(vA (zad q))),(1,(vP b7 0))]) Tryz.func117 rfl ?_
 have h6l:=hb6.lt;have hml:=hbm.lt;have h7l:=hb7.lt
 refine ze (zd (za (zo (some 2) (Instr.box 71 (vA (zad q))) (vP w.heap.size 0) (zad q) 71 ?_)))
 intro w1 hBw1 hEw1
 have hzw1:=hEw1.size;have hlw1:=hBw1.lt
 refine zc 1 [(3,(vI 0))] (zf (zb (ze (zT (Chg (fun j=>j=b6∨j=bm) w1.drew) 7 [(5,2,0),(6,4,0),(7,32,2),(8,64,4),(9,64,4),(10,400,29),(4,512,63)] (fun hT97=> ?_)))))
 have hEw2:Ext w1 w1.drew:=Ext.drew w1
 generalize w1.drew=w2 at hEw2⊢
 have hzw2:=hEw2.size
 have hX1:Chg (fun j=>j=b6∨j=bm) w2 w2:=(Chg.refl (fun j=>j=b6∨j=bm) w2)
 refine zg (hw:=hX1) hT97 0 1 (some 4) (.func (.func 112) #[] #[(vP b6 0)]) (zi (Instr.loadAt 184 (vP b7 0)) (fun w' hC=>zk (((((hb7.ext hEw1)).ext hEw2).chg hC (fun hs=>by rcases hs with hs | hs<;>omega)).cell rfl))) (zg (hw:=hX1) hT97 1 3 (some 5) (vA (zad q)) (zi (Instr.loadAt 71 (vP w.heap.size 0)) (fun w' hC=>zw (vs:=zad q) (((hBw1.ext hEw2).chg hC (fun hs=>by rcases hs with hs | hs<;>omega)).all) (by rw [zaF];kernel_rfl))) (zz 2 7 (zl (some 6) (zm8 q _ (by assumption)) ?_)))
 rintro _ w3 ⟨a1,rfl,hFz1_0,hEw3⟩
 have hzw3:=hEw3.size
 have hX2:Chg (fun j=>j=b6∨j=bm) w2 w3:=((Chg.refl (fun j=>j=b6∨j=bm) w2).trans hEw3.chg)
 refine ⟨.inr hX2, ?_⟩
 refine zh (hw:=hX2) hT97 [(3,7,(.slice a1 33 33)),(4,8,(vI 0))] 2 31 ?_
 have hK1:=(((((hb6.ext hEw1)).ext hEw2)).ext hEw3)
 have hK2:=(((((hbm.ext hEw1)).ext hEw2)).ext hEw3)
 refine zz 5 63 (zl (some 9) (zn6 0 _ hK1 hK2 hL hcp hmx hne hFz1_0 (by omega) (by omega)) ?_)
 rintro _ w4 ⟨rfl,hPw4,hQw4,hCw4⟩
 have hzw4:=hCw4.size
 have hX3:Chg (fun j=>j=b6∨j=bm) w2 w4:=(Chg.then ((Chg.refl (fun j=>j=b6∨j=bm) w2).trans hEw3.chg) hCw4 (fun k hk hs=>by first | exact hs |(rcases hs with hs | hs<;>first |(left;omega)|(right;omega)|(exfalso;omega))))
 refine ⟨.inr hX3, ?_⟩
 refine zh (hw:=hX3) hT97 [(6,3,(vI 0))] 1 127 (zJ (zb (zq (zr (vI 0) ?_))))
 have hK3:=(((((((hb7.ext hEw1)).ext hEw2)).ext hEw3)).chg hCw4 (fun hs=>by rcases hs with hs | hs<;>omega))
 exact ⟨rfl,hK3,hPw4,hQw4,(Chg.then ((((Chg.refl (fun j=>j=b6∨j=bm) w).trans hEw1.chg).trans hEw2.chg).trans hEw3.chg) hCw4 (fun k hk hs=>by first | exact hs |(rcases hs with hs | hs<;>first |(left;omega)|(right;omega)|(exfalso;omega))))⟩
theorem zku {b6 bm n cp m:Nat} {L:List UInt8} {b7:Nat} (x:E4) (w:World) (hb6:Blk w b6 [(.slice (pA bm 0) n cp)] 23) (hbm:Blk w bm (u8s L++List.replicate m (vB 0)) 5) (hL:L.length=n) (hcp:n+m=cp) (hmx:cp≤1000) (hne:b6≠bm) (hb7:Blk w b7 [(.func (.func 112) #[] #[(vP b6 0)])] 184) (h76:b7≠b6) (h7m:b7≠bm) (hq:zfG x=0) (hm:132≤m):
  Calls Tryz.prog 116 #[(vA (e4C x)),(.func (.func 117) #[] #[(vP b7 0)])] w (Ret fun r w'=>r=(vI 0)∧Blk w' b7 [(.func (.func 112) #[] #[(vP b6 0)])] 184∧Blk w' b6 [(.slice (pA bm 0) (n+33*4) cp)] 23∧Blk w' bm (u8s (L++zby zbR x.get 4)++List.replicate (m-33*4) (vB 0)) 5∧Chg (fun j=>j=b6∨j=bm) w w'):=by
 refine zI (n:=19) (σ:= [(0,(vA (e4C x))),(1,(.func (.func 117) #[] #[(vP b7 0)]))]) Tryz.func116 rfl ?_
 have h6l:=hb6.lt;have hml:=hbm.lt;have h7l:=hb7.lt
 refine ze (zd (za (zo (some 2) (Instr.box 72 (vA (e4C x))) (vP w.heap.size 0) (e4C x) 72 ?_)))
 intro w1 hBw1 hEw1
 have hzw1:=hEw1.size;have hlw1:=hBw1.lt
 refine zc 1 [(4,(vI 0))] (zf (zb (ze (ze (zd (za (zj (some 8) (Instr.loadAt 72 (vP w.heap.size 0)) (vA (e4C x)) (zw (vs:=e4C x) (hBw1.all) (by rw [zdS];kernel_rfl)) ?_)))))))
 refine zc 1 [(9,(vI 0))] (zf (zb (zy (zY (X:=Nat) (fun i=> [(9,(vI i))]) [4,6,7,10,11,12,13,14,15,16,17,18] (fun i w2=>i≤4∧Blk w2 b7 ([(.func (.func 112) #[] #[(vP b6 0)])]) 184∧Blk w2 b6 ([(.slice (pA bm 0) (n+33*i) cp)]) 23∧Blk w2 bm (u8s (L++zby zbR x.get i)++List.replicate (m-33*i) (vB 0)) 5∧Chg (fun j=>j=b6∨j=bm) w w2) (fun i=>4-i) 0 (by kernel_rfl) ⟨by omega,(hb7.ext hEw1),(hb6.ext hEw1),by have hz:=(hbm.ext hEw1);simpa [zby] using hz,((Chg.refl (fun j=>j=b6∨j=bm) w).trans hEw1.chg)⟩ ?_))))
 rintro i dw2 w2 ⟨hi,hR,hP,hQ,hCl⟩
 have hzl:=hCl.size
 refine ze (zd (za (zK (some 10) (decide (((i:Nat):Int)<((4:Nat):Int))) (fun hc10=> ?_) (fun hc10=> ?_))))
 ·replace hc10:i<4:=by have:=zaf hc10;omega
  refine zf (zb (ze (zC (zu (zb (ze (zy (ze (zd ?_)))))))))
  refine za (zj (some 11) (Instr.index 72 (vA (e4C x)) (vI i)) (vA (zad (x.get i))) (zgY (E:=71) (m:=4) (sz:=33) (us:=zad (x.get i)) (by omega) (zjC (by omega))) ?_)
  refine za (zo (some 6) (Instr.alloc 71 true (.tuple #[])) (vP w2.heap.size 0) (zad Ent.zero) 71 ?_)
  intro w3 hBw3 hEw3
  have hzw3:=hEw3.size;have hlw3:=hBw3.lt
  refine za (zv 71 w2.heap.size 0 71 (vA (zad (x.get i))) (zad Ent.zero) (zad (x.get i)) hBw3 (by rw [zaF];kernel_rfl) (by first |(simp;done)|(simp;omega)) (zcy _) ?_)
  intro w4 hBw4 hCw4
  have hzw4:=hCw4.size
  rw [zm _ _ (by simp)] at hBw4
  refine zf (zb (ze (zd (zc 1 [(12,(.func (.func 117) #[] #[(vP b7 0)]))] (za (zj (some 13) (Instr.loadAt 71 (vP w2.heap.size 0)) (vA (zad (x.get i))) (zw (vs:=zad (x.get i)) (hBw4.all) (by rw [zaF];kernel_rfl)) ?_))))))
  refine za (zl (some 14) (zso (x.get i) _ (((hP.ext hEw3)).chg hCw4 (fun hs=>by have h:_=_:=hs;omega)) (((hQ.ext hEw3)).chg hCw4 (fun hs=>by have h:_=_:=hs;omega)) (by rw [List.length_append,zed zhX];omega) (by omega) hmx hne (((hR.ext hEw3)).chg hCw4 (fun hs=>by have h:_=_:=hs;omega)) h76 h7m (zaW.1 hq _ (by omega)) (by omega)) ?_)
  rintro _ w5 ⟨rfl,hRw5,hPw5,hQw5,hCw5⟩
  have hzw5:=hCw5.size
  refine zc 1 [(7,(vI 0))] (zf (zb (ze (zd (zc 2 [(16,vF),(15,(vI 0))] (zf (zb (zn (zu ?_)))))))))
  refine zp (zb (zd (za (zt (some 18) .i64 (IntKind.i64.wrap (((i:Nat):Int)+((1:Nat):Int))) (i+1) (zA (by omega) (by omega) (by omega)) ?_))))
  refine zc 1 [(9,(vI (i+1)))] (zf (zF (zR (i+1) ?_ ?_)))
  ·exact ⟨by omega,hRw5,by have hz:=hPw5;rwa [show n+33*i+33=n+33*(i+1) from by omega] at hz,by have hz:=hQw5;rw [List.append_assoc] at hz;exact (show m-33*i-33=m-33*(i+1) from by omega)▸hz,(Chg.then (Chg.then ((Chg.then (Chg.refl (fun j=>j=b6∨j=bm) w) hCl (fun k hk hs=>by first | exact hs |(rcases hs with hs | hs<;>first |(left;omega)|(right;omega)|(exfalso;omega)))).trans hEw3.chg) hCw4 (fun k hk hs=>by have h:k=_:=hs;first | exact hs | exact .inl h | exact .inr h |(exfalso;omega))) hCw5 (fun k hk hs=>by first | exact hs |(rcases hs with hs | hs<;>first |(left;omega)|(right;omega)|(exfalso;omega))))⟩
  ·first | omega |(dsimp only;omega)
 ·replace hc10:¬(i<4):=by have:=zae hc10;omega
  refine zf (zb (ze (zn (zW (zx (zx (zL (zb (ze ?_)))))))))
  refine zd (zc 1 [(4,(vI 0))] (zf (zb (zq (zr (vI 0) ?_)))))
  obtain rfl:i=4:=by omega
  exact ⟨rfl,hR,hP,hQ,(Chg.then (Chg.refl (fun j=>j=b6∨j=bm) w) hCl (fun k hk hs=>by first | exact hs |(rcases hs with hs | hs<;>first |(left;omega)|(right;omega)|(exfalso;omega))))⟩
end Go.Proofs.YtkmhgepdhilllaaGreatDoor
namespace Go.Proofs.YtkmhgepdhilllaaGreatDoor
open Go Go.RowKit Go.Cs
set_option maxRecDepth 100000
theorem zqp (x:Nod) (w:World) (hp0:zay x=0) (hp1:x.lv=0) (hg0:Gl 0 [vI 45,vI 33] w):
  Calls Tryz.prog 89 #[(vA (zH x))] w (Ret fun r w'=>∃a0,r=(.tuple #[(.slice (pA a0 0) 185 185),(vI 0)])∧w.heap.size≤a0∧Blk w' a0 (u8s (zS x)) 5∧185=(zS x).length∧185≤1099511627776∧Ext w w'):=by
 refine zI (n:=44) (σ:= [(0,(vA (zH x)))]) Tryz.func89 rfl ?_
 have hgl0:=hg0.lt
 have hlvx:=x.hlv
 have hixx:=x.hix
 refine ze (zd (za (zo (some 1) (Instr.box 74 (vA (zH x))) (vP w.heap.size 0) (zH x) 74 ?_)))
 intro w1 hBw1 hEw1
 have hzw1:=hEw1.size;have hlw1:=hBw1.lt
 refine zc 2 [(3,(vI 0)),(2,(.slice none 0 0))] (zf (zb (ze (ze (zd (za (zj (some 8) (Instr.loadAt 74 (vP w.heap.size 0)) (vA (zH x)) (zw (vs:=zH x) (hBw1.all) (by rw [zV];kernel_rfl)) ?_)))))))
 refine za (zl (some 9) (zhT x _) ?_)
 rintro _ w2 ⟨rfl,hEw2⟩
 have hzw2:=hEw2.size
 refine zc 1 [(4,(vI (zay x)))] (zf (zb (ze (zd (zc 1 [(10,(vI (zay x)))] (za (zai (some 11) (((zay x:Nat):Int) !=((0:Nat):Int)) false (zaA (by omega)) ?_)))))))
 refine zf (zb (zn (zu (zb (ze (zd (zc 1 [(13,(vP w.heap.size 0))] (za (zj (some 14) (Instr.loadAt 5 (vP w.heap.size 0)) (vB x.lv) (zk ((hBw1.ext hEw2).cell rfl)) ?_)))))))))
 refine za (zl (some 15) (zoJ x.lv _) ?_)
 rintro _ _ ⟨rfl,rfl⟩
 rw [show min x.lv 1=0 from by omega]
 refine zc 1 [(5,(vI 0))] (zf (zb (ze (zd (zc 1 [(16,(vI 0))] (za (zj (some 17) (Instr.indexAt 183 (vP 0 0) (vI 0)) (vP 0 0) (zag (E:=3) (sz:=1) (m:=2) (by omega)) ?_)))))))
 refine za (zj (some 18) (Instr.loadAt 3 (vP 0 0)) (vI 45) (zk ((((hg0.ext hEw1)).ext hEw2).all.one 0 (vI 45) rfl)) ?_)
 refine za (zt (some 19) .i64 (IntKind.i64.wrap (((4:Nat):Int)*((45:Nat):Int))) 180 (zA (by omega) (by omega) (by omega)) ?_)
 refine za (zt (some 20) .i64 (IntKind.i64.wrap (((5:Nat):Int)+((180:Nat):Int))) 185 (zA (by omega) (by omega) (by omega)) ?_)
 refine za (zch (some 21) 23 5 1 1 0 185 .i64 .i64 (vB 0) (by omega) (by omega) (by omega) ?_)
 rw [zdA _ rfl]
 intro w3 hBw3 hEw3
 have hzw3:=hEw3.size;have hlw3:=hBw3.lt
 refine za (zo (some 6) (Instr.alloc 23 true (.tuple #[])) (vP w3.heap.size 0) ([(.slice none 0 0)]) 23 ?_)
 intro w4 hBw4 hEw4
 have hzw4:=hEw4.size;have hlw4:=hBw4.lt
 refine za (zah 23 w3.heap.size 0 23 (.slice (pA w2.heap.size 0) 0 185) ([(.slice none 0 0)]) hBw4 (by first | decide |(simp;done)|(simp;omega)) ?_)
 intro w5 hBw5 hCw5
 have hzw5:=hCw5.size
 replace hBw5:=hBw5.set1
 refine zf (zb (ze (zd (za (zj (some 22) (Instr.loadAt 23 (vP w3.heap.size 0)) (.slice (pA w2.heap.size 0) 0 185) (zk (hBw5.cell rfl)) ?_)))))
 refine zc 1 [(23,(vP w.heap.size 0))] ?_
 have hK1:=(((((((hBw1.ext hEw2)).ext hEw3)).ext hEw4)).chg hCw5 (fun hs=>by have h:_=_:=hs;omega))
 refine za (zj (some 24) (Instr.loadAt 5 (vP w.heap.size 0)) (vB x.lv) (zk (hK1.cell rfl)) ?_)
 refine za (zo (some 25) (Instr.buildSlice 23 1 #[(0,(vB x.lv))]) (.slice (pA w5.heap.size 0) 1 1) [(vB x.lv)] 5 ?_)
 intro w6 hBw6 hEw6
 have hzw6:=hEw6.size;have hlw6:=hBw6.lt
 have hSw6:Bs w5.heap.size (w5.heap.size+1) w6 (pA w5.heap.size 0) 1 1 [UInt8.ofNat x.lv]:=Bs.of_blk hBw6 (zcE x.hlv) rfl (Nat.le_refl _) (by decide) (Nat.le_refl _) (Nat.lt_succ_self _)
 have hK2:=(((((hBw3.ext hEw4)).chg hCw5 (fun hs=>by have h:_=_:=hs;omega))).ext hEw6)
 have hZw2:Blk w6 w2.heap.size (u8s []++List.replicate 185 (vB 0)) 5:=hK2
 refine za (zcT (some 26) 23 23 5 1 w2.heap.size 0 185 ⟨w5.heap.size,0,none⟩ 1 1 hZw2 hSw6.sla (by rw [zaV,←hSw6.len_eq,Nat.mul_one]) (zcN _) (by rw [List.length_append,zaV,(show ([]:List UInt8).length=0 from rfl),List.length_replicate,Nat.mul_one];omega) ?_ (by omega))
 intro w7 hBw7 hCw7
 have hzw7:=hCw7.size
 rw [zfB (show ([]:List UInt8).length=0 from rfl) hSw6.len_eq.symm (by omega)] at hBw7
 rw [show 185-1=184 from rfl] at hBw7
 have hLw7:([]++([UInt8.ofNat x.lv])).length=0+1:=by rw [List.length_append,(show ([]:List UInt8).length=0 from rfl),←hSw6.len_eq]
 rw [show 0+1=1 from rfl]
 rw [show 0+1=1 from rfl] at hLw7
 refine za (zah 23 w3.heap.size 0 23 (.slice (pA w2.heap.size 0) 1 185) ([(.slice (pA w2.heap.size 0) 0 185)]) (((hBw5.ext hEw6)).chg hCw7 (fun hs=>by have h:_=_:=hs;omega)) (by first | decide |(simp;done)|(simp;omega)) ?_)
 intro w8 hBw8 hCw8
 have hzw8:=hCw8.size
 replace hBw8:=hBw8.set1
 refine zf (zb (ze (zT (Chg (fun k=>k=w3.heap.size∨k=w2.heap.size) w8.drew) 6 [(28,64,0),(29,2,0),(30,268435456,2),(31,536870912,4),(32,1207959552,9),(0,2147483712,31)] (fun hT107=> ?_))))
 have hEw9:Ext w8 w8.drew:=Ext.drew w8
 generalize w8.drew=w9 at hEw9⊢
 have hzw9:=hEw9.size
 have hX1:Chg (fun k=>k=w3.heap.size∨k=w2.heap.size) w9 w9:=(Chg.refl (fun k=>k=w3.heap.size∨k=w2.heap.size) w9)
 refine zh (hw:=hX1) hT107 [(1,28,(vP w.heap.size 1))] 1 2 ?_
 have hK3:=(((((((hK1.ext hEw6)).chg hCw7 (fun hs=>by have h:_=_:=hs;omega))).chg hCw8 (fun hs=>by have h:_=_:=hs;omega))).ext hEw9)
 refine zg (hw:=hX1) hT107 2 6 (some 29) (vW x.ix) (zi (Instr.loadAt 53 (vP w.heap.size 1)) (fun w' hC=>zk ((hK3.chg hC (fun hs=>by rcases hs with hs | hs<;>omega)).cell rfl))) (za9 0 3 7 14 ?_ ?_)
 ·refine zj (some 27) (Instr.loadAt 23 (vP w3.heap.size 0)) (.slice (pA w2.heap.size 0) 1 185) (zk ((hBw8.ext hEw9).cell rfl)) (⟨.inr hX1, ?_⟩)
  refine zz 3 15 (zl (some 30) (zfn x.ix _ (by omega)) ?_)
  rintro _ w10 ⟨a1,rfl,hFz3_0,hEw10⟩
  have hzw10:=hEw10.size
  have hX2:Chg (fun k=>k=w3.heap.size∨k=w2.heap.size) w9 w10:=((Chg.refl (fun k=>k=w3.heap.size∨k=w2.heap.size) w9).trans hEw10.chg)
  refine ⟨.inr hX2, ?_⟩
  obtain ⟨b1,o1,rfl⟩:=hFz3_0.addr (by omega)
  have hK4:=((((((hBw7).chg hCw8 (fun hs=>by have h:_=_:=hs;omega))).ext hEw9)).ext hEw10)
  refine zz 4 31 (zcT (some 31) 23 23 5 1 w2.heap.size 1 185 ⟨b1,o1,none⟩ 4 4 hK4 hFz3_0.sla (by rw [zaV,←hFz3_0.len_eq,Nat.mul_one]) (zcN _) (by rw [List.length_append,zaV,hLw7,List.length_replicate,Nat.mul_one];omega) ?_ (by omega))
  intro w11 hBw11 hCw11
  have hzw11:=hCw11.size
  rw [zfB hLw7 hFz3_0.len_eq.symm (by omega)] at hBw11
  rw [show 184-4=180 from rfl] at hBw11
  have hLw11:([]++([UInt8.ofNat x.lv])++(be x.ix 4)).length=1+4:=by rw [List.length_append,hLw7,←hFz3_0.len_eq]
  rw [show 1+4=5 from rfl]
  rw [show 1+4=5 from rfl] at hLw11
  have hX3:Chg (fun k=>k=w3.heap.size∨k=w2.heap.size) w9 w11:=(Chg.then ((Chg.refl (fun k=>k=w3.heap.size∨k=w2.heap.size) w9).trans hEw10.chg) hCw11 (fun k hk hs=>by have h:k=_:=hs;first | exact hs | exact .inl h | exact .inr h |(exfalso;omega)))
  refine ⟨.inr hX3, ?_⟩
  have hK5:=(((((hBw8.ext hEw9)).ext hEw10)).chg hCw11 (fun hs=>by have h:_=_:=hs;omega))
  refine zz 5 63 (zah 23 w3.heap.size 0 23 (.slice (pA w2.heap.size 0) 5 185) ([(.slice (pA w2.heap.size 0) 1 185)]) hK5 (by first | decide |(simp;done)|(simp;omega)) ?_)
  have hK6:=(((((hBw8.ext hEw9)).ext hEw10)).chg hCw11 (fun hs=>by have h:_=_:=hs;omega))
  intro w12 hBw12 hCw12
  have hzw12:=hCw12.size
  replace hBw12:=hBw12.set1
  refine ⟨.inl (by kernel_rfl), ?_⟩
  refine zJ (zb (ze (zd (zc 1 [(32,(.func (.func 112) #[] #[(vP w3.heap.size 0)]))] (za (zo (some 7) (Instr.alloc 184 true (.tuple #[])) (vP w12.heap.size 0) ([.nilFunc]) 184 ?_))))))
  intro w13 hBw13 hEw13
  have hzw13:=hEw13.size;have hlw13:=hBw13.lt
  refine za (zah 184 w12.heap.size 0 184 (.func (.func 112) #[] #[(vP w3.heap.size 0)]) ([.nilFunc]) hBw13 (by first | decide |(simp;done)|(simp;omega)) ?_)
  intro w14 hBw14 hCw14
  have hzw14:=hCw14.size
  replace hBw14:=hBw14.set1
  refine zf (zb (ze (ze (zd (zc 1 [(33,(vI 0))] (za (zai (some 34) (((0:Nat):Int)==((0:Nat):Int)) true (zas (by omega)) ?_)))))))
  refine zf (zb (zC (zd (zc 1 [(35,(vP w.heap.size 2))] ?_))))
  have hK7:=(((((((((hK3.ext hEw10)).chg hCw11 (fun hs=>by have h:_=_:=hs;omega))).chg hCw12 (fun hs=>by have h:_=_:=hs;omega))).ext hEw13)).chg hCw14 (fun hs=>by have h:_=_:=hs;omega))
  refine za (zj (some 36) (Instr.loadAt 69 (vP w.heap.size 2)) (vA (r4C x.rs)) (zw (vs:=r4C x.rs) (hK7.at 2 (r4C x.rs) (zf7 _)) (by rw [zc6];kernel_rfl)) ?_)
  refine zc 1 [(37,(.func (.func 114) #[] #[(vP w12.heap.size 0)]))] ?_
  have hK8:=((((((hBw11).chg hCw12 (fun hs=>by have h:_=_:=hs;omega))).ext hEw13)).chg hCw14 (fun hs=>by have h:_=_:=hs;omega))
  refine za (zl (some 38) (zkg x.rs _ (((hBw12.ext hEw13)).chg hCw14 (fun hs=>by have h:_=_:=hs;omega)) hK8 hLw11 rfl (by decide) (by omega) hBw14 (by omega) (by omega) (zf4 hp0 hp1) (by omega)) ?_)
  rintro _ w15 ⟨rfl,hRw15,hPw15,hQw15,hCw15⟩
  have hzw15:=hCw15.size
  refine zf (zb (ze (zd (za (zj (some 43) (Instr.loadAt 23 (vP w3.heap.size 0)) (.slice (pA w2.heap.size 0) 185 185) (zk (hPw15.cell rfl)) ?_)))))
  refine zc 2 [(3,(vI 0)),(2,(.slice (pA w2.heap.size 0) 185 185))] (zf (zb (zq (zr (.tuple #[(.slice (pA w2.heap.size 0) 185 185),(vI 0)]) ?_))))
  have hX4:Ext w w15:=(Ext.ownS (Ext.own ((Ext.own (Ext.own (((Ext.own (Ext.own ((Ext.own (((hEw1.trans hEw2).trans hEw3).trans hEw4) hCw5 (by omega)).trans hEw6) hCw7 (by omega)) hCw8 (by omega)).trans hEw9).trans hEw10) hCw11 (by omega)) hCw12 (by omega)).trans hEw13) hCw14 (by omega)) hCw15 (fun k hs hk=>by rcases hs with hs | hs<;>omega))
  have hfin:=hQw15
  rw [show u8s ([]++([UInt8.ofNat x.lv])++(be x.ix 4)++zby zbF (x.rs.get) 4)++List.replicate (0) (vB 0)=u8s (zS x) from by rw [List.replicate_zero,List.append_nil];unfold zS;rw [if_pos hp1];simp [zd0]] at hfin
  exact ⟨_,rfl,by omega,hfin,by rw [zeH,if_pos hp1],by decide,hX4⟩
 ·refine zl (some 30) (zfn x.ix _ (by omega)) ?_
  rintro _ w16 ⟨a2,rfl,hFz4_0,hEw16⟩
  have hzw16:=hEw16.size
  have hX5:Chg (fun k=>k=w3.heap.size∨k=w2.heap.size) w9 w16:=((Chg.refl (fun k=>k=w3.heap.size∨k=w2.heap.size) w9).trans hEw16.chg)
  refine ⟨.inr hX5, ?_⟩
  refine zz 0 15 (zj (some 27) (Instr.loadAt 23 (vP w3.heap.size 0)) (.slice (pA w2.heap.size 0) 1 185) (zk ((((hBw8.ext hEw9)).ext hEw16).cell rfl)) ?_)
  refine ⟨.inr hX5, ?_⟩
  obtain ⟨b2,o2,rfl⟩:=hFz4_0.addr (by omega)
  have hK9:=((((((hBw7).chg hCw8 (fun hs=>by have h:_=_:=hs;omega))).ext hEw9)).ext hEw16)
  refine zz 4 31 (zcT (some 31) 23 23 5 1 w2.heap.size 1 185 ⟨b2,o2,none⟩ 4 4 hK9 hFz4_0.sla (by rw [zaV,←hFz4_0.len_eq,Nat.mul_one]) (zcN _) (by rw [List.length_append,zaV,hLw7,List.length_replicate,Nat.mul_one];omega) ?_ (by omega))
  intro w17 hBw17 hCw17
  have hzw17:=hCw17.size
  rw [zfB hLw7 hFz4_0.len_eq.symm (by omega)] at hBw17
  rw [show 184-4=180 from rfl] at hBw17
  have hLw17:([]++([UInt8.ofNat x.lv])++(be x.ix 4)).length=1+4:=by rw [List.length_append,hLw7,←hFz4_0.len_eq]
  rw [show 1+4=5 from rfl]
  rw [show 1+4=5 from rfl] at hLw17
  have hX6:Chg (fun k=>k=w3.heap.size∨k=w2.heap.size) w9 w17:=(Chg.then ((Chg.refl (fun k=>k=w3.heap.size∨k=w2.heap.size) w9).trans hEw16.chg) hCw17 (fun k hk hs=>by have h:k=_:=hs;first | exact hs | exact .inl h | exact .inr h |(exfalso;omega)))
  refine ⟨.inr hX6, ?_⟩
  have hK10:=(((((hBw8.ext hEw9)).ext hEw16)).chg hCw17 (fun hs=>by have h:_=_:=hs;omega))
  refine zz 5 63 (zah 23 w3.heap.size 0 23 (.slice (pA w2.heap.size 0) 5 185) ([(.slice (pA w2.heap.size 0) 1 185)]) hK10 (by first | decide |(simp;done)|(simp;omega)) ?_)
  have hK11:=(((((hBw8.ext hEw9)).ext hEw16)).chg hCw17 (fun hs=>by have h:_=_:=hs;omega))
  intro w18 hBw18 hCw18
  have hzw18:=hCw18.size
  replace hBw18:=hBw18.set1
  refine ⟨.inl (by kernel_rfl), ?_⟩
  refine zJ (zb (ze (zd (zc 1 [(32,(.func (.func 112) #[] #[(vP w3.heap.size 0)]))] (za (zo (some 7) (Instr.alloc 184 true (.tuple #[])) (vP w18.heap.size 0) ([.nilFunc]) 184 ?_))))))
  intro w19 hBw19 hEw19
  have hzw19:=hEw19.size;have hlw19:=hBw19.lt
  refine za (zah 184 w18.heap.size 0 184 (.func (.func 112) #[] #[(vP w3.heap.size 0)]) ([.nilFunc]) hBw19 (by first | decide |(simp;done)|(simp;omega)) ?_)
  intro w20 hBw20 hCw20
  have hzw20:=hCw20.size
  replace hBw20:=hBw20.set1
  refine zf (zb (ze (ze (zd (zc 1 [(33,(vI 0))] (za (zai (some 34) (((0:Nat):Int)==((0:Nat):Int)) true (zas (by omega)) ?_)))))))
  refine zf (zb (zC (zd (zc 1 [(35,(vP w.heap.size 2))] ?_))))
  have hK12:=(((((((((hK3.ext hEw16)).chg hCw17 (fun hs=>by have h:_=_:=hs;omega))).chg hCw18 (fun hs=>by have h:_=_:=hs;omega))).ext hEw19)).chg hCw20 (fun hs=>by have h:_=_:=hs;omega))
  refine za (zj (some 36) (Instr.loadAt 69 (vP w.heap.size 2)) (vA (r4C x.rs)) (zw (vs:=r4C x.rs) (hK12.at 2 (r4C x.rs) (zf7 _)) (by rw [zc6];kernel_rfl)) ?_)
  refine zc 1 [(37,(.func (.func 114) #[] #[(vP w18.heap.size 0)]))] ?_
  have hK13:=((((((hBw17).chg hCw18 (fun hs=>by have h:_=_:=hs;omega))).ext hEw19)).chg hCw20 (fun hs=>by have h:_=_:=hs;omega))
  refine za (zl (some 38) (zkg x.rs _ (((hBw18.ext hEw19)).chg hCw20 (fun hs=>by have h:_=_:=hs;omega)) hK13 hLw17 rfl (by decide) (by omega) hBw20 (by omega) (by omega) (zf4 hp0 hp1) (by omega)) ?_)
  rintro _ w21 ⟨rfl,hRw21,hPw21,hQw21,hCw21⟩
  have hzw21:=hCw21.size
  refine zf (zb (ze (zd (za (zj (some 43) (Instr.loadAt 23 (vP w3.heap.size 0)) (.slice (pA w2.heap.size 0) 185 185) (zk (hPw21.cell rfl)) ?_)))))
  refine zc 2 [(3,(vI 0)),(2,(.slice (pA w2.heap.size 0) 185 185))] (zf (zb (zq (zr (.tuple #[(.slice (pA w2.heap.size 0) 185 185),(vI 0)]) ?_))))
  have hX7:Ext w w21:=(Ext.ownS (Ext.own ((Ext.own (Ext.own (((Ext.own (Ext.own ((Ext.own (((hEw1.trans hEw2).trans hEw3).trans hEw4) hCw5 (by omega)).trans hEw6) hCw7 (by omega)) hCw8 (by omega)).trans hEw9).trans hEw16) hCw17 (by omega)) hCw18 (by omega)).trans hEw19) hCw20 (by omega)) hCw21 (fun k hs hk=>by rcases hs with hs | hs<;>omega))
  have hfin:=hQw21
  rw [show u8s ([]++([UInt8.ofNat x.lv])++(be x.ix 4)++zby zbF (x.rs.get) 4)++List.replicate (0) (vB 0)=u8s (zS x) from by rw [List.replicate_zero,List.append_nil];unfold zS;rw [if_pos hp1];simp [zd0]] at hfin
  exact ⟨_,rfl,by omega,hfin,by rw [zeH,if_pos hp1],by decide,hX7⟩
theorem zrj (x:Nod) (w:World) (hp0:zay x=0) (hp1:¬x.lv=0) (hg0:Gl 0 [vI 45,vI 33] w):
  Calls Tryz.prog 89 #[(vA (zH x))] w (Ret fun r w'=>∃a0,r=(.tuple #[(.slice (pA a0 0) 137 137),(vI 0)])∧w.heap.size≤a0∧Blk w' a0 (u8s (zS x)) 5∧137=(zS x).length∧137≤1099511627776∧Ext w w'):=by
 refine zI (n:=44) (σ:= [(0,(vA (zH x)))]) Tryz.func89 rfl ?_
 have hgl0:=hg0.lt
 have hlvx:=x.hlv
 have hixx:=x.hix
 refine ze (zd (za (zo (some 1) (Instr.box 74 (vA (zH x))) (vP w.heap.size 0) (zH x) 74 ?_)))
 intro w1 hBw1 hEw1
 have hzw1:=hEw1.size;have hlw1:=hBw1.lt
 refine zc 2 [(3,(vI 0)),(2,(.slice none 0 0))] (zf (zb (ze (ze (zd (za (zj (some 8) (Instr.loadAt 74 (vP w.heap.size 0)) (vA (zH x)) (zw (vs:=zH x) (hBw1.all) (by rw [zV];kernel_rfl)) ?_)))))))
 refine za (zl (some 9) (zhT x _) ?_)
 rintro _ w2 ⟨rfl,hEw2⟩
 have hzw2:=hEw2.size
 refine zc 1 [(4,(vI (zay x)))] (zf (zb (ze (zd (zc 1 [(10,(vI (zay x)))] (za (zai (some 11) (((zay x:Nat):Int) !=((0:Nat):Int)) false (zaA (by omega)) ?_)))))))
 refine zf (zb (zn (zu (zb (ze (zd (zc 1 [(13,(vP w.heap.size 0))] (za (zj (some 14) (Instr.loadAt 5 (vP w.heap.size 0)) (vB x.lv) (zk ((hBw1.ext hEw2).cell rfl)) ?_)))))))))
 refine za (zl (some 15) (zoJ x.lv _) ?_)
 rintro _ _ ⟨rfl,rfl⟩
 rw [show min x.lv 1=1 from by omega]
 refine zc 1 [(5,(vI 1))] (zf (zb (ze (zd (zc 1 [(16,(vI 1))] (za (zj (some 17) (Instr.indexAt 183 (vP 0 0) (vI 1)) (vP 0 1) (zag (E:=3) (sz:=1) (m:=2) (by omega)) ?_)))))))
 refine za (zj (some 18) (Instr.loadAt 3 (vP 0 1)) (vI 33) (zk ((((hg0.ext hEw1)).ext hEw2).all.one 1 (vI 33) rfl)) ?_)
 refine za (zt (some 19) .i64 (IntKind.i64.wrap (((4:Nat):Int)*((33:Nat):Int))) 132 (zA (by omega) (by omega) (by omega)) ?_)
 refine za (zt (some 20) .i64 (IntKind.i64.wrap (((5:Nat):Int)+((132:Nat):Int))) 137 (zA (by omega) (by omega) (by omega)) ?_)
 refine za (zch (some 21) 23 5 1 1 0 137 .i64 .i64 (vB 0) (by omega) (by omega) (by omega) ?_)
 rw [zdA _ rfl]
 intro w3 hBw3 hEw3
 have hzw3:=hEw3.size;have hlw3:=hBw3.lt
 refine za (zo (some 6) (Instr.alloc 23 true (.tuple #[])) (vP w3.heap.size 0) ([(.slice none 0 0)]) 23 ?_)
 intro w4 hBw4 hEw4
 have hzw4:=hEw4.size;have hlw4:=hBw4.lt
 refine za (zah 23 w3.heap.size 0 23 (.slice (pA w2.heap.size 0) 0 137) ([(.slice none 0 0)]) hBw4 (by first | decide |(simp;done)|(simp;omega)) ?_)
 intro w5 hBw5 hCw5
 have hzw5:=hCw5.size
 replace hBw5:=hBw5.set1
 refine zf (zb (ze (zd (za (zj (some 22) (Instr.loadAt 23 (vP w3.heap.size 0)) (.slice (pA w2.heap.size 0) 0 137) (zk (hBw5.cell rfl)) ?_)))))
 refine zc 1 [(23,(vP w.heap.size 0))] ?_
 have hK1:=(((((((hBw1.ext hEw2)).ext hEw3)).ext hEw4)).chg hCw5 (fun hs=>by have h:_=_:=hs;omega))
 refine za (zj (some 24) (Instr.loadAt 5 (vP w.heap.size 0)) (vB x.lv) (zk (hK1.cell rfl)) ?_)
 refine za (zo (some 25) (Instr.buildSlice 23 1 #[(0,(vB x.lv))]) (.slice (pA w5.heap.size 0) 1 1) [(vB x.lv)] 5 ?_)
 intro w6 hBw6 hEw6
 have hzw6:=hEw6.size;have hlw6:=hBw6.lt
 have hSw6:Bs w5.heap.size (w5.heap.size+1) w6 (pA w5.heap.size 0) 1 1 [UInt8.ofNat x.lv]:=Bs.of_blk hBw6 (zcE x.hlv) rfl (Nat.le_refl _) (by decide) (Nat.le_refl _) (Nat.lt_succ_self _)
 have hK2:=(((((hBw3.ext hEw4)).chg hCw5 (fun hs=>by have h:_=_:=hs;omega))).ext hEw6)
 have hZw2:Blk w6 w2.heap.size (u8s []++List.replicate 137 (vB 0)) 5:=hK2
 refine za (zcT (some 26) 23 23 5 1 w2.heap.size 0 137 ⟨w5.heap.size,0,none⟩ 1 1 hZw2 hSw6.sla (by rw [zaV,←hSw6.len_eq,Nat.mul_one]) (zcN _) (by rw [List.length_append,zaV,(show ([]:List UInt8).length=0 from rfl),List.length_replicate,Nat.mul_one];omega) ?_ (by omega))
 intro w7 hBw7 hCw7
 have hzw7:=hCw7.size
 rw [zfB (show ([]:List UInt8).length=0 from rfl) hSw6.len_eq.symm (by omega)] at hBw7
 rw [show 137-1=136 from rfl] at hBw7
 have hLw7:([]++([UInt8.ofNat x.lv])).length=0+1:=by rw [List.length_append,(show ([]:List UInt8).length=0 from rfl),←hSw6.len_eq]
 rw [show 0+1=1 from rfl]
 rw [show 0+1=1 from rfl] at hLw7
 refine za (zah 23 w3.heap.size 0 23 (.slice (pA w2.heap.size 0) 1 137) ([(.slice (pA w2.heap.size 0) 0 137)]) (((hBw5.ext hEw6)).chg hCw7 (fun hs=>by have h:_=_:=hs;omega)) (by first | decide |(simp;done)|(simp;omega)) ?_)
 intro w8 hBw8 hCw8
 have hzw8:=hCw8.size
 replace hBw8:=hBw8.set1
 refine zf (zb (ze (zT (Chg (fun k=>k=w3.heap.size∨k=w2.heap.size) w8.drew) 6 [(28,64,0),(29,2,0),(30,268435456,2),(31,536870912,4),(32,1207959552,9),(0,2147483712,31)] (fun hT266=> ?_))))
 have hEw9:Ext w8 w8.drew:=Ext.drew w8
 generalize w8.drew=w9 at hEw9⊢
 have hzw9:=hEw9.size
 have hX1:Chg (fun k=>k=w3.heap.size∨k=w2.heap.size) w9 w9:=(Chg.refl (fun k=>k=w3.heap.size∨k=w2.heap.size) w9)
 refine zh (hw:=hX1) hT266 [(1,28,(vP w.heap.size 1))] 1 2 ?_
 have hK3:=(((((((hK1.ext hEw6)).chg hCw7 (fun hs=>by have h:_=_:=hs;omega))).chg hCw8 (fun hs=>by have h:_=_:=hs;omega))).ext hEw9)
 refine zg (hw:=hX1) hT266 2 6 (some 29) (vW x.ix) (zi (Instr.loadAt 53 (vP w.heap.size 1)) (fun w' hC=>zk ((hK3.chg hC (fun hs=>by rcases hs with hs | hs<;>omega)).cell rfl))) (za9 0 3 7 14 ?_ ?_)
 ·refine zj (some 27) (Instr.loadAt 23 (vP w3.heap.size 0)) (.slice (pA w2.heap.size 0) 1 137) (zk ((hBw8.ext hEw9).cell rfl)) (⟨.inr hX1, ?_⟩)
  refine zz 3 15 (zl (some 30) (zfn x.ix _ (by omega)) ?_)
  rintro _ w10 ⟨a1,rfl,hFz3_0,hEw10⟩
  have hzw10:=hEw10.size
  have hX2:Chg (fun k=>k=w3.heap.size∨k=w2.heap.size) w9 w10:=((Chg.refl (fun k=>k=w3.heap.size∨k=w2.heap.size) w9).trans hEw10.chg)
  refine ⟨.inr hX2, ?_⟩
  obtain ⟨b1,o1,rfl⟩:=hFz3_0.addr (by omega)
  have hK4:=((((((hBw7).chg hCw8 (fun hs=>by have h:_=_:=hs;omega))).ext hEw9)).ext hEw10)
  refine zz 4 31 (zcT (some 31) 23 23 5 1 w2.heap.size 1 137 ⟨b1,o1,none⟩ 4 4 hK4 hFz3_0.sla (by rw [zaV,←hFz3_0.len_eq,Nat.mul_one]) (zcN _) (by rw [List.length_append,zaV,hLw7,List.length_replicate,Nat.mul_one];omega) ?_ (by omega))
  intro w11 hBw11 hCw11
  have hzw11:=hCw11.size
  rw [zfB hLw7 hFz3_0.len_eq.symm (by omega)] at hBw11
  rw [show 136-4=132 from rfl] at hBw11
  have hLw11:([]++([UInt8.ofNat x.lv])++(be x.ix 4)).length=1+4:=by rw [List.length_append,hLw7,←hFz3_0.len_eq]
  rw [show 1+4=5 from rfl]
  rw [show 1+4=5 from rfl] at hLw11
  have hX3:Chg (fun k=>k=w3.heap.size∨k=w2.heap.size) w9 w11:=(Chg.then ((Chg.refl (fun k=>k=w3.heap.size∨k=w2.heap.size) w9).trans hEw10.chg) hCw11 (fun k hk hs=>by have h:k=_:=hs;first | exact hs | exact .inl h | exact .inr h |(exfalso;omega)))
  refine ⟨.inr hX3, ?_⟩
  have hK5:=(((((hBw8.ext hEw9)).ext hEw10)).chg hCw11 (fun hs=>by have h:_=_:=hs;omega))
  refine zz 5 63 (zah 23 w3.heap.size 0 23 (.slice (pA w2.heap.size 0) 5 137) ([(.slice (pA w2.heap.size 0) 1 137)]) hK5 (by first | decide |(simp;done)|(simp;omega)) ?_)
  have hK6:=(((((hBw8.ext hEw9)).ext hEw10)).chg hCw11 (fun hs=>by have h:_=_:=hs;omega))
  intro w12 hBw12 hCw12
  have hzw12:=hCw12.size
  replace hBw12:=hBw12.set1
  refine ⟨.inl (by kernel_rfl), ?_⟩
  refine zJ (zb (ze (zd (zc 1 [(32,(.func (.func 112) #[] #[(vP w3.heap.size 0)]))] (za (zo (some 7) (Instr.alloc 184 true (.tuple #[])) (vP w12.heap.size 0) ([.nilFunc]) 184 ?_))))))
  intro w13 hBw13 hEw13
  have hzw13:=hEw13.size;have hlw13:=hBw13.lt
  refine za (zah 184 w12.heap.size 0 184 (.func (.func 112) #[] #[(vP w3.heap.size 0)]) ([.nilFunc]) hBw13 (by first | decide |(simp;done)|(simp;omega)) ?_)
  intro w14 hBw14 hCw14
  have hzw14:=hCw14.size
  replace hBw14:=hBw14.set1
  refine zf (zb (ze (ze (zd (zc 1 [(33,(vI 1))] (za (zai (some 34) (((1:Nat):Int)==((0:Nat):Int)) false (zcc (by omega)) ?_)))))))
  refine zf (zb (zn (zd (zc 1 [(39,(vP w.heap.size 142))] ?_))))
  have hK7:=(((((((((hK3.ext hEw10)).chg hCw11 (fun hs=>by have h:_=_:=hs;omega))).chg hCw12 (fun hs=>by have h:_=_:=hs;omega))).ext hEw13)).chg hCw14 (fun hs=>by have h:_=_:=hs;omega))
  refine za (zj (some 40) (Instr.loadAt 72 (vP w.heap.size 142)) (vA (e4C x.es)) (zw (vs:=e4C x.es) (hK7.at 142 (e4C x.es) (zfz _)) (by rw [zdS];kernel_rfl)) ?_)
  refine zc 1 [(41,(.func (.func 117) #[] #[(vP w12.heap.size 0)]))] ?_
  have hK8:=((((((hBw11).chg hCw12 (fun hs=>by have h:_=_:=hs;omega))).ext hEw13)).chg hCw14 (fun hs=>by have h:_=_:=hs;omega))
  refine za (zl (some 42) (zku x.es _ (((hBw12.ext hEw13)).chg hCw14 (fun hs=>by have h:_=_:=hs;omega)) hK8 hLw11 rfl (by decide) (by omega) hBw14 (by omega) (by omega) (zf1 hp0 hp1) (by omega)) ?_)
  rintro _ w15 ⟨rfl,hRw15,hPw15,hQw15,hCw15⟩
  have hzw15:=hCw15.size
  refine zf (zb (ze (zd (za (zj (some 43) (Instr.loadAt 23 (vP w3.heap.size 0)) (.slice (pA w2.heap.size 0) 137 137) (zk (hPw15.cell rfl)) ?_)))))
  refine zc 2 [(3,(vI 0)),(2,(.slice (pA w2.heap.size 0) 137 137))] (zf (zb (zq (zr (.tuple #[(.slice (pA w2.heap.size 0) 137 137),(vI 0)]) ?_))))
  have hX4:Ext w w15:=(Ext.ownS (Ext.own ((Ext.own (Ext.own (((Ext.own (Ext.own ((Ext.own (((hEw1.trans hEw2).trans hEw3).trans hEw4) hCw5 (by omega)).trans hEw6) hCw7 (by omega)) hCw8 (by omega)).trans hEw9).trans hEw10) hCw11 (by omega)) hCw12 (by omega)).trans hEw13) hCw14 (by omega)) hCw15 (fun k hs hk=>by rcases hs with hs | hs<;>omega))
  have hfin:=hQw15
  rw [show u8s ([]++([UInt8.ofNat x.lv])++(be x.ix 4)++zby zbR (x.es.get) 4)++List.replicate (0) (vB 0)=u8s (zS x) from by rw [List.replicate_zero,List.append_nil];unfold zS;rw [if_neg hp1];simp [zd0]] at hfin
  exact ⟨_,rfl,by omega,hfin,by rw [zeH,if_neg hp1],by decide,hX4⟩
 ·refine zl (some 30) (zfn x.ix _ (by omega)) ?_
  rintro _ w16 ⟨a2,rfl,hFz4_0,hEw16⟩
  have hzw16:=hEw16.size
  have hX5:Chg (fun k=>k=w3.heap.size∨k=w2.heap.size) w9 w16:=((Chg.refl (fun k=>k=w3.heap.size∨k=w2.heap.size) w9).trans hEw16.chg)
  refine ⟨.inr hX5, ?_⟩
  refine zz 0 15 (zj (some 27) (Instr.loadAt 23 (vP w3.heap.size 0)) (.slice (pA w2.heap.size 0) 1 137) (zk ((((hBw8.ext hEw9)).ext hEw16).cell rfl)) ?_)
  refine ⟨.inr hX5, ?_⟩
  obtain ⟨b2,o2,rfl⟩:=hFz4_0.addr (by omega)
  have hK9:=((((((hBw7).chg hCw8 (fun hs=>by have h:_=_:=hs;omega))).ext hEw9)).ext hEw16)
  refine zz 4 31 (zcT (some 31) 23 23 5 1 w2.heap.size 1 137 ⟨b2,o2,none⟩ 4 4 hK9 hFz4_0.sla (by rw [zaV,←hFz4_0.len_eq,Nat.mul_one]) (zcN _) (by rw [List.length_append,zaV,hLw7,List.length_replicate,Nat.mul_one];omega) ?_ (by omega))
  intro w17 hBw17 hCw17
  have hzw17:=hCw17.size
  rw [zfB hLw7 hFz4_0.len_eq.symm (by omega)] at hBw17
  rw [show 136-4=132 from rfl] at hBw17
  have hLw17:([]++([UInt8.ofNat x.lv])++(be x.ix 4)).length=1+4:=by rw [List.length_append,hLw7,←hFz4_0.len_eq]
  rw [show 1+4=5 from rfl]
  rw [show 1+4=5 from rfl] at hLw17
  have hX6:Chg (fun k=>k=w3.heap.size∨k=w2.heap.size) w9 w17:=(Chg.then ((Chg.refl (fun k=>k=w3.heap.size∨k=w2.heap.size) w9).trans hEw16.chg) hCw17 (fun k hk hs=>by have h:k=_:=hs;first | exact hs | exact .inl h | exact .inr h |(exfalso;omega)))
  refine ⟨.inr hX6, ?_⟩
  have hK10:=(((((hBw8.ext hEw9)).ext hEw16)).chg hCw17 (fun hs=>by have h:_=_:=hs;omega))
  refine zz 5 63 (zah 23 w3.heap.size 0 23 (.slice (pA w2.heap.size 0) 5 137) ([(.slice (pA w2.heap.size 0) 1 137)]) hK10 (by first | decide |(simp;done)|(simp;omega)) ?_)
  have hK11:=(((((hBw8.ext hEw9)).ext hEw16)).chg hCw17 (fun hs=>by have h:_=_:=hs;omega))
  intro w18 hBw18 hCw18
  have hzw18:=hCw18.size
  replace hBw18:=hBw18.set1
  refine ⟨.inl (by kernel_rfl), ?_⟩
  refine zJ (zb (ze (zd (zc 1 [(32,(.func (.func 112) #[] #[(vP w3.heap.size 0)]))] (za (zo (some 7) (Instr.alloc 184 true (.tuple #[])) (vP w18.heap.size 0) ([.nilFunc]) 184 ?_))))))
  intro w19 hBw19 hEw19
  have hzw19:=hEw19.size;have hlw19:=hBw19.lt
  refine za (zah 184 w18.heap.size 0 184 (.func (.func 112) #[] #[(vP w3.heap.size 0)]) ([.nilFunc]) hBw19 (by first | decide |(simp;done)|(simp;omega)) ?_)
  intro w20 hBw20 hCw20
  have hzw20:=hCw20.size
  replace hBw20:=hBw20.set1
  refine zf (zb (ze (ze (zd (zc 1 [(33,(vI 1))] (za (zai (some 34) (((1:Nat):Int)==((0:Nat):Int)) false (zcc (by omega)) ?_)))))))
  refine zf (zb (zn (zd (zc 1 [(39,(vP w.heap.size 142))] ?_))))
  have hK12:=(((((((((hK3.ext hEw16)).chg hCw17 (fun hs=>by have h:_=_:=hs;omega))).chg hCw18 (fun hs=>by have h:_=_:=hs;omega))).ext hEw19)).chg hCw20 (fun hs=>by have h:_=_:=hs;omega))
  refine za (zj (some 40) (Instr.loadAt 72 (vP w.heap.size 142)) (vA (e4C x.es)) (zw (vs:=e4C x.es) (hK12.at 142 (e4C x.es) (zfz _)) (by rw [zdS];kernel_rfl)) ?_)
  refine zc 1 [(41,(.func (.func 117) #[] #[(vP w18.heap.size 0)]))] ?_
  have hK13:=((((((hBw17).chg hCw18 (fun hs=>by have h:_=_:=hs;omega))).ext hEw19)).chg hCw20 (fun hs=>by have h:_=_:=hs;omega))
  refine za (zl (some 42) (zku x.es _ (((hBw18.ext hEw19)).chg hCw20 (fun hs=>by have h:_=_:=hs;omega)) hK13 hLw17 rfl (by decide) (by omega) hBw20 (by omega) (by omega) (zf1 hp0 hp1) (by omega)) ?_)
  rintro _ w21 ⟨rfl,hRw21,hPw21,hQw21,hCw21⟩
  have hzw21:=hCw21.size
  refine zf (zb (ze (zd (za (zj (some 43) (Instr.loadAt 23 (vP w3.heap.size 0)) (.slice (pA w2.heap.size 0) 137 137) (zk (hPw21.cell rfl)) ?_)))))
  refine zc 2 [(3,(vI 0)),(2,(.slice (pA w2.heap.size 0) 137 137))] (zf (zb (zq (zr (.tuple #[(.slice (pA w2.heap.size 0) 137 137),(vI 0)]) ?_))))
  have hX7:Ext w w21:=(Ext.ownS (Ext.own ((Ext.own (Ext.own (((Ext.own (Ext.own ((Ext.own (((hEw1.trans hEw2).trans hEw3).trans hEw4) hCw5 (by omega)).trans hEw6) hCw7 (by omega)) hCw8 (by omega)).trans hEw9).trans hEw16) hCw17 (by omega)) hCw18 (by omega)).trans hEw19) hCw20 (by omega)) hCw21 (fun k hs hk=>by rcases hs with hs | hs<;>omega))
  have hfin:=hQw21
  rw [show u8s ([]++([UInt8.ofNat x.lv])++(be x.ix 4)++zby zbR (x.es.get) 4)++List.replicate (0) (vB 0)=u8s (zS x) from by rw [List.replicate_zero,List.append_nil];unfold zS;rw [if_neg hp1];simp [zd0]] at hfin
  exact ⟨_,rfl,by omega,hfin,by rw [zeH,if_neg hp1],by decide,hX7⟩
theorem zsP (x:Nod) (w:World) (hp0:zay x=0) (hg0:Gl 0 [vI 45,vI 33] w):
  Calls Tryz.prog 89 #[(vA (zH x))] w (Ret fun r w'=>∃a0,r=(.tuple #[(.slice (pA a0 0) (zbM x) (zbM x)),(vI 0)])∧w.heap.size≤a0∧Blk w' a0 (u8s (zS x)) 5∧zbM x=(zS x).length∧zbM x≤1099511627776∧Ext w w'):=by
 by_cases h:x.lv=0
 ·rw [show zbM x=185 from if_pos h];exact zqp x w hp0 h hg0
 ·rw [show zbM x=137 from if_neg h];exact zrj x w hp0 h hg0
end Go.Proofs.YtkmhgepdhilllaaGreatDoor
namespace Go.Proofs.YtkmhgepdhilllaaGreatDoor
open Go Go.RowKit Go.Cs
set_option maxRecDepth 100000
theorem zlD (n:Nat) (x:Nod) (w:World) (hp0:1≤n) (hp1:n≤4096):
  Calls Tryz.prog 96 #[(vI n),(vA (zH x))] w (Ret fun r w'=>r=(vI (zbT n x))∧Ext w w'):=by
 refine zI (n:=52) (σ:= [(0,(vI n)),(1,(vA (zH x)))]) Tryz.func96 rfl ?_
 have hlvx:=x.hlv
 have hixx:=x.hix
 have hcl:=zl3 x
 have h5:=zat n
 refine ze (zd (za (zo (some 3) (Instr.box 74 (vA (zH x))) (vP w.heap.size 0) (zH x) 74 ?_)))
 intro w1 hBw1 hEw1
 have hzw1:=hEw1.size;have hlw1:=hBw1.lt
 refine zc 1 [(4,(vI 0))] (zf (zb (ze (ze (zd (zc 1 [(10,(vI n))] (za (zl (some 11) (zl7 n _ (by omega) (by omega)) ?_))))))))
 rintro _ _ ⟨rfl,rfl⟩
 refine zc 1 [(5,(vI 0))] (zf (zb (ze (zd (zc 2 [(13,vF),(12,(vI 0))] (zf (zb (zn (zu ?_)))))))))
 refine zb (ze (ze (zd (za (zj (some 15) (Instr.loadAt 74 (vP w.heap.size 0)) (vA (zH x)) (zw (vs:=zH x) (hBw1.all) (by rw [zV];kernel_rfl)) ?_)))))
 refine za (zl (some 16) (zhT x _) ?_)
 rintro _ w2 ⟨rfl,hEw2⟩
 have hzw2:=hEw2.size
 refine zc 1 [(6,(vI (zay x)))] (zf (zb (ze (zd (zc 1 [(17,(vI (zay x)))] (za (zK (some 18) ((((zay x:Nat):Int) !=((0:Nat):Int))) (fun hc18=> ?_) (fun hc18=> ?_))))))))
 ·replace hc18:¬(zay x=0):=by have:=zbE hc18;omega
  refine zf (zb (zC (ze (zd (zc 2 [(4,(vI (zay x))),(19,(vI (zay x)))] (zf (zb (zq (zD ?_)))))))))
  exact zr (vI (zay x)) (⟨congrArg (fun z:Nat=>vI z) (zpf (by omega)),(hEw1.trans hEw2)⟩)
 ·replace hc18:zay x=0:=by have:=zbG hc18;omega
  refine zf (zb (zn (zu (zb (ze (zd (zc 2 [(22,(vP w.heap.size 0)),(21,(vI n))] (za (zj (some 23) (Instr.loadAt 5 (vP w.heap.size 0)) (vB x.lv) (zk ((hBw1.ext hEw2).cell rfl)) ?_)))))))))
  refine za (zt (some 24) .i64 (IntKind.i64.wrap ((x.lv:Nat):Int)) x.lv (zA rfl (by omega) (by omega)) ?_)
  refine zc 1 [(25,(vP w.heap.size 1))] (za (zj (some 26) (Instr.loadAt 53 (vP w.heap.size 1)) (vW x.ix) (zk ((hBw1.ext hEw2).cell rfl)) ?_))
  refine za (zt (some 27) .i64 (IntKind.i64.wrap ((x.ix:Nat):Int)) x.ix (zA rfl (by omega) (by omega)) ?_)
  rcases Classical.em (x.lv≤hgt n∧x.ix<cnt n x.lv) with hin | hin
  ·have hcn:=zbf n x.lv
   refine za (zl (some 28) (zrV n x.lv x.ix _ (by first | omega |(simp only [Int.toNat_natCast];omega)) (by omega) (by omega) (by omega)) ?_)
   rintro _ w3 ⟨rfl,hEw3⟩
   have hzw3:=hEw3.size
   refine zc 5 [(8,(vI 0)),(7,(vI (prt n x.lv x.ix))),(30,(vI 0)),(29,(vI (prt n x.lv x.ix))),(20,(.tuple #[(vI (prt n x.lv x.ix)),(vI 0)]))] (zf (zb (ze (ze (zd (zc 2 [(32,vF),(31,(vI 0))] (zf (zb (zn ?_)))))))))
   refine zu (zb (ze (ze (zd (zc 2 [(9,(vI (prt n x.lv x.ix))),(33,(vI (prt n x.lv x.ix)))] (zf (zb (zy (zY (X:=Nat) (fun i=> [(9,(vI i))]) [4,34,35,36,37,38,39,40,41,42,43,44,45,46,47,48,49,50,51] (fun i w4=>prt n x.lv x.ix≤i∧i≤4∧(∀k,prt n x.lv x.ix≤k→k<i→(x.rs.get k).eqb Rec.zero=true∧(x.es.get k).eqb Ent.zero=true)∧Ext w1 w4) (fun i=>4-i) (prt n x.lv x.ix) (by kernel_rfl) ⟨Nat.le_refl _,zdl _ _ _,fun k h1 h2=>absurd h1 (by omega),(hEw2.trans hEw3)⟩ ?_)))))))))
   rintro i dw4 w4 ⟨hpi,hi,hz,hEl⟩
   have hzl:=hEl.size
   refine ze (ze (zd (zc 1 [(34,(vI i))] (za (zK (some 35) (decide (((i:Nat):Int)<((4:Nat):Int))) (fun hc35=> ?_) (fun hc35=> ?_))))))
   ·replace hc35:i<4:=by have:=zaf hc35;omega
    refine zf (zb (zC (zu (zb (ze (zy (ze (zd (zc 2 [(39,(vP w.heap.size 2)),(38,(vI i))] ?_)))))))))
    refine za (zj (some 40) (Instr.indexAt 69 (vP w.heap.size 2) (vI i)) (vP w.heap.size (2+i*35)) (zag (E:=68) (sz:=35) (m:=4) (by omega)) ?_)
    refine za (zj (some 41) (Instr.loadAt 68 (vP w.heap.size (2+i*35))) (vA (zM (x.rs.get i))) (zw (vs:=zM (x.rs.get i)) ((hBw1.ext hEl).at (2+i*35) (zM (x.rs.get i)) (nod_r (by omega))) (by rw [zab];kernel_rfl)) ?_)
    refine zc 1 [(42,(vA (zM Rec.zero)))] ?_
    rcases Bool.eq_false_or_eq_true ((x.rs.get i).eqb Rec.zero) with hq43 | hq43
    ·refine za (zj (some 43) (bo .neq 68 (.tmp 41) (.tmp 42) (vA (zM (x.rs.get i))) (vA (zM Rec.zero))) vF (zak (r:=true) (T:=68) ((zcP (dd:=9997) (t:=68) (t8:=5) (tn:=56) (td:=59) (e:=5) (t32:=53) (t64:=54) (x.rs.get i) Rec.zero).trans (congrArg (fun b=>Result.ok b _) (show ((x.rs.get i).eqb Rec.zero)=true from hq43)))) ?_)
     refine zc 3 [(46,(vP w.heap.size 142)),(45,(vI i)),(44,vF)] (za (zj (some 47) (Instr.indexAt 72 (vP w.heap.size 142) (vI i)) (vP w.heap.size (142+i*33)) (zag (E:=71) (sz:=33) (m:=4) (by omega)) ?_))
     refine za (zj (some 48) (Instr.loadAt 71 (vP w.heap.size (142+i*33))) (vA (zad (x.es.get i))) (zw (vs:=zad (x.es.get i)) ((hBw1.ext hEl).at (142+i*33) (zad (x.es.get i)) (nod_e (by omega))) (by rw [zaF];kernel_rfl)) ?_)
     refine zc 1 [(49,(vA (zad Ent.zero)))] ?_
     rcases Bool.eq_false_or_eq_true ((x.es.get i).eqb Ent.zero) with hq50 | hq50
     ·refine za (zj (some 50) (bo .neq 71 (.tmp 48) (.tmp 49) (vA (zad (x.es.get i))) (vA (zad Ent.zero))) vF (zak (r:=true) (T:=71) ((zb8 (dd:=9997) (t:=71) (t8:=5) (td:=59) (e:=5) (x.es.get i) Ent.zero).trans (congrArg (fun b=>Result.ok b _) (show ((x.es.get i).eqb Ent.zero)=true from hq50)))) ?_)
      refine zc 1 [(51,vF)] (zf (zb (zn (zu (zp (zb (zd (zc 1 [(36,(vI i))] (za (zt (some 37) .i64 (IntKind.i64.wrap (((i:Nat):Int)+((1:Nat):Int))) (i+1) (zA (by omega) (by omega) (by omega)) ?_))))))))))
      refine zc 1 [(9,(vI (i+1)))] (zf (zF (zR (i+1) ?_ ?_)))
      ·exact ⟨by omega,by omega,fun k h1 h2=>by rcases Nat.lt_or_ge k i with h3 | h3;exact hz k h1 h3;rw [show k=i by omega];exact ⟨hq43,hq50⟩,hEl⟩
      ·first | omega |(dsimp only;omega)
     ·refine za (zj (some 50) (bo .neq 71 (.tmp 48) (.tmp 49) (vA (zad (x.es.get i))) (vA (zad Ent.zero))) vT (zak (r:=false) (T:=71) ((zb8 (dd:=9997) (t:=71) (t8:=5) (td:=59) (e:=5) (x.es.get i) Ent.zero).trans (congrArg (fun b=>Result.ok b _) (show ((x.es.get i).eqb Ent.zero)=false from hq50)))) ?_)
      refine zc 1 [(51,vT)] (zf (zb (zC (ze (zd (zc 1 [(4,(vI 17))] (zf (zb (zq ?_)))))))))
      exact zG (zD (zD (zG (zD (zr (vI 17) (⟨congrArg (fun z:Nat=>vI z) (by rw [zf2 (by omega) hin,zpg hpi (by omega) hq50];rfl),(hEw1.trans hEl)⟩))))))
    ·refine za (zj (some 43) (bo .neq 68 (.tmp 41) (.tmp 42) (vA (zM (x.rs.get i))) (vA (zM Rec.zero))) vT (zak (r:=false) (T:=68) ((zcP (dd:=9997) (t:=68) (t8:=5) (tn:=56) (td:=59) (e:=5) (t32:=53) (t64:=54) (x.rs.get i) Rec.zero).trans (congrArg (fun b=>Result.ok b _) (show ((x.rs.get i).eqb Rec.zero)=false from hq43)))) ?_)
     refine zc 8 [(51,vT),(50,undef),(49,undef),(48,undef),(47,undef),(46,undef),(45,undef),(44,vT)] (zf (zb (zC (ze (zd (zc 1 [(4,(vI 17))] (zf (zb (zq ?_)))))))))
     exact zG (zD (zD (zG (zD (zr (vI 17) (⟨congrArg (fun z:Nat=>vI z) (by rw [zf2 (by omega) hin,zpH hpi (by omega) hq43];rfl),(hEw1.trans hEl)⟩))))))
   ·replace hc35:¬(i<4):=by have:=zae hc35;omega
    refine zf (zb (zn (zW (zx (zx (zL (zb (ze (zd ?_)))))))))
    refine zc 1 [(4,(vI 0))] (zf (zb (zq (zr (vI 0) ?_))))
    obtain rfl:i=4:=by omega
    exact ⟨congrArg (fun z:Nat=>vI z) (by rw [zf2 (by omega) hin,if_pos (zfm.2 hz)]),(hEw1.trans hEl)⟩
  ·refine za (zl (some 28) (zmT ((n:Nat):Int) ((x.lv:Nat):Int) ((x.ix:Nat):Int) _ (by first | omega |(simp only [Int.toNat_natCast];omega))) ?_)
   rintro _ w5 ⟨rfl,hEw5⟩
   have hzw5:=hEw5.size
   refine zc 5 [(8,(vI 1)),(7,(vI 0)),(30,(vI 1)),(29,(vI 0)),(20,(.tuple #[(vI 0),(vI 1)]))] (zf (zb (ze (ze (zd (zc 2 [(32,vT),(31,(vI 1))] (zf (zb (zC ?_)))))))))
   exact ze (zd (zc 1 [(4,(vI 17))] (zf (zb (zq (zD (zr (vI 17) (⟨congrArg (fun z:Nat=>vI z) ((zp4 (by omega) hin).symm),((hEw1.trans hEw2).trans hEw5)⟩))))))))
end Go.Proofs.YtkmhgepdhilllaaGreatDoor
namespace Go.Proofs.YtkmhgepdhilllaaGreatDoor
open Go Go.RowKit Go.Cs
set_option maxRecDepth 100000
theorem zdq (x:UInt32) (k:Nat) (w:World) (hp0:1≤k) (hp1:k≤31):
  Calls Tryz.prog 145 #[(vW x.toNat),(vI k)] w (Ret fun r w'=>r=(vW ((rr x k).toNat))∧w=w'):=by
 refine zI (n:=9) (σ:= [(0,(vW x.toNat)),(1,(vI k))]) Tryz.func145 rfl ?_
 refine ze (zd (zc 1 [(4,(vW 0))] (zf (zb (ze (zd (zc 2 [(6,(vI k)),(5,(vW x.toNat))] (za (zhp (some 7) .i64 (IntKind.i64.wrap (0-((k:Nat):Int))) (-((k:Nat):Int)) (zA (by omega) (by omega) (by omega)) ?_)))))))))
 refine za (zl (some 8) (zt5 x.toNat (-((k:Nat):Int)) _ (x.toNat_lt)) ?_)
 rintro _ _ ⟨rfl,rfl⟩
 refine zc 1 [(4,(vW (rot x.toNat (-((k:Nat):Int)))))] (zf (zb (zq (zr (vW (rot x.toNat (-((k:Nat):Int)))) ?_))))
 rw [zoK];exact ⟨rfl,rfl⟩
theorem zdp (x:UInt32) (k:Nat) (w:World) (hp0:1≤k) (hp1:k≤31):
  Calls Tryz.prog 128 #[(vW x.toNat),(vI k)] w (Ret fun r w'=>r=(vW ((rr x k).toNat))∧Ext w w'):=by
 refine zI (n:=13) (σ:= [(0,(vW x.toNat)),(1,(vI k))]) Tryz.func128 rfl ?_
 refine ze (zd (zc 1 [(4,(vW 0))] (zf (zb (ze (zT (Ext w.drew) 9 [(6,1,0),(7,2,0),(8,96,3),(9,1,0),(10,2,0),(11,512,16),(12,1280,40),(13,2176,68),(5,4096,255)] (fun hT18=> ?_)))))))
 have hEw1:Ext w w.drew:=Ext.drew w
 generalize w.drew=w1 at hEw1⊢
 have hzw1:=hEw1.size
 refine zh hT18 [(0,5,(vW x.toNat)),(1,6,(vI k))] 2 3 (zg hT18 2 7 (some 7) (vW (x.toNat/2^k)) (zi (do eqGuard .shr 53 (.tmp 5) (.tmp 6) (.int .u32 ((x.toNat:Nat):Int)) (.int .i64 ((k:Nat):Int));binOp .shr 53 (.int .u32 ((x.toNat:Nat):Int)) (.int .i64 ((k:Nat):Int))) (fun w' hC=>ziZ (by show _≤32;omega))) (zh hT18 [(3,8,(vW x.toNat)),(4,9,(vI k))] 2 31 (zg hT18 5 63 (some 10) (vI (32-k)) (zaa .i64 (IntKind.i64.wrap (((32:Nat):Int)-((k:Nat):Int))) (zA (by omega) (by omega) (by omega))) (zg hT18 6 127 (some 11) (vW (x.toNat*2^(32-k)%2^32)) (zi (do eqGuard .shl 53 (.tmp 8) (.tmp 10) (.int .u32 ((x.toNat:Nat):Int)) (.int .i64 ((32-k:Nat):Int));binOp .shl 53 (.int .u32 ((x.toNat:Nat):Int)) (.int .i64 ((32-k:Nat):Int))) (fun w' hC=>zl6 rfl (by show _≤32;omega))) (zg hT18 7 255 (some 12) (vW ((rr x k).toNat)) (zaa .u32 ((IntKind.u32.wrap ((BitVec.ofInt IntKind.u32.bits ((x.toNat/2^k:Nat):Int)||| BitVec.ofInt IntKind.u32.bits ((x.toNat*2^(32-k)%2^32:Nat):Int)).toNat:Int))) ((orU .u32 rfl (by show _<2^32;exact Nat.lt_of_le_of_lt (Nat.div_le_self _ _) x.toNat_lt) (Nat.mod_lt _ (by decide))).trans (congrArg _ (zsu x hp0 hp1)))) (zh hT18 [(8,4,(vW ((rr x k).toNat)))] 1 511 (zJ (zb (zq ?_)))))))))
 exact zr (vW ((rr x k).toNat)) (⟨rfl,hEw1⟩)
theorem zru (b:B64) (w:World):
  Calls Tryz.prog 144 #[(vA (zcI b))] w (Ret fun r w'=>r=(vA (zar (zE b.l 64)))∧Ext w w'):=by
 refine zI (n:=72) (σ:= [(0,(vA (zcI b)))]) Tryz.func144 rfl ?_
 refine ze (zd (za (zo (some 1) (Instr.box 191 (vA (zcI b))) (vP w.heap.size 0) (zcI b) 191 ?_)))
 intro w1 hBw1 hEw1
 have hzw1:=hEw1.size;have hlw1:=hBw1.lt
 refine za (zo (some 2) (Instr.alloc 167 true (.tuple #[])) (vP w1.heap.size 0) (zar (WA.zero 64)) 167 ?_)
 intro w2 hBw2 hEw2
 have hzw2:=hEw2.size;have hlw2:=hBw2.lt
 refine zf (zb (ze (ze (zd (zc 1 [(9,(vI 0))] (zf (zb (zy (zY (X:=Nat) (fun i=> [(9,(vI i))]) [3,10,11,12,13,14,15,16,17,18,19,20,21,22,23,24,25,26,27] (fun i w3=>i≤16∧Blk w3 w.heap.size (zcI b) 191∧Blk w3 w1.heap.size (zar (zE b.l i)) 167∧Ext w w3) (fun i=>16-i) 0 (by kernel_rfl) ⟨by omega,(hBw1.ext hEw2),hBw2,(hEw1.trans hEw2)⟩ ?_)))))))))
 rintro i dw3 w3 ⟨hi,hA,hB,hEl⟩
 have hzhEl:=hEl.size;have hlthA:=hA.lt;have hlthB:=hB.lt
 refine ze (zd (za (zK (some 10) (decide (((i:Nat):Int)<((16:Nat):Int))) (fun hc10=> ?_) (fun hc10=> ?_))))
 ·replace hc10:i<16:=by have:=zaf hc10;omega
  refine zf (zb (ze (zC (zu (zb (ze (zy (ze (zd ?_)))))))))
  refine zc 2 [(3,(vI i)),(11,(vI i))] (zf (zb (zd (zc 2 [(14,(vI i)),(13,(vI i))] (za (zt (some 15) .i64 (IntKind.i64.wrap (((4:Nat):Int)*((i:Nat):Int))) (4*i) (zA (by omega) (by omega) (by omega)) ?_))))))
  refine zc 1 [(16,(vI i))] (za (zt (some 17) .i64 (IntKind.i64.wrap (((4:Nat):Int)*((i:Nat):Int))) (4*i) (zA (by omega) (by omega) (by omega)) ?_))
  refine za (zt (some 18) .i64 (IntKind.i64.wrap (((4*i:Nat):Int)+((4:Nat):Int))) (4*i+4) (zA (by omega) (by omega) (by omega)) ?_)
  refine zc 1 [(19,(vI i))] (za (zt (some 20) .i64 (IntKind.i64.wrap (((4:Nat):Int)*((i:Nat):Int))) (4*i) (zA (by omega) (by omega) (by omega)) ?_))
  refine za (zt (some 21) .i64 (IntKind.i64.wrap (((4*i:Nat):Int)+((4:Nat):Int))) (4*i+4) (zA (by omega) (by omega) (by omega)) ?_)
  refine za (zj (some 22) (Instr.sliceAt 191 (vP w.heap.size 0) (some (vI (4*i))) (some (vI (4*i+4))) (some (vI (4*i+4)))) (.slice (pA w.heap.size (0+(4*i)*1)) (4*i+4-(4*i)) (4*i+4-(4*i))) (ziK (len:=64) (E:=5) (sz:=1) (l:=4*i) (r:=4*i+4) (m:=4*i+4) (.inr ⟨_,rfl⟩) (.inr ⟨_,rfl⟩) (.inr ⟨_,rfl⟩) (by simp) (by omega) (by omega) (by omega) (by omega)) ?_)
  have hSb:Bs w.heap.size (w.heap.size+1) w3 (pA w.heap.size (0+(4*i)*1)) (4*i+4-(4*i)) (4*i+4-(4*i)) ((b.l.drop (4*i)).take 4):=by have hq:=Bs.of_at (lo:=w.heap.size) (hi:=w.heap.size+1) (len:=4) (hA.at (4*i) (u8s ((b.l.drop (4*i)).take 4)) (zpn (by omega))) (hA).lt (by have:=b.h;simp;omega) (by decide) (by omega) (by omega);rw [show 4*i+4-4*i=4 from by omega,Nat.zero_add,Nat.mul_one];exact hq
  refine za (zl (some 23) (zrg _ hSb) ?_)
  rintro _ _ ⟨rfl,rfl⟩
  rw [show zaO ((b.l.drop (4*i)).take 4) 4=(UInt32.ofNat (zaO ((b.l.drop (4*i)).take 4) 4)).toNat from by rw [UInt32.toNat_ofNat',Nat.mod_eq_of_lt (zdn _ 4)]]
  refine zc 3 [(25,(vI (zcs ((b.l.drop (4*i)).take 4) 4))),(24,(vW ((UInt32.ofNat (zaO ((b.l.drop (4*i)).take 4) 4)).toNat))),(12,(.tuple #[(vW ((UInt32.ofNat (zaO ((b.l.drop (4*i)).take 4) 4)).toNat)),(vI (zcs ((b.l.drop (4*i)).take 4) 4))]))] (za (zj (some 26) (Instr.indexAt 167 (vP w1.heap.size 0) (vI i)) (vP w1.heap.size (0+i*1)) (zag (E:=53) (sz:=1) (m:=64) (by omega)) ?_))
  refine za (zah 53 w1.heap.size (0+i*1) 167 (vW ((UInt32.ofNat (zaO ((b.l.drop (4*i)).take 4) 4)).toNat)) (zar (zE b.l i)) hB (by first | decide |(simp;done)|(simp;omega)) ?_)
  intro w4 hBw4 hCw4
  have hzw4:=hCw4.size
  rw [show ((zar (zE b.l i)).set (0+i*1) (vW ((UInt32.ofNat (zaO ((b.l.drop (4*i)).take 4) 4)).toNat)):List Value)=zar ((zE b.l i).set i (UInt32.ofNat (zaO ((b.l.drop (4*i)).take 4) 4))) from zhc i (UInt32.ofNat (zaO ((b.l.drop (4*i)).take 4) 4))] at hBw4
  refine zf (zp (zb (zd (za (zt (some 27) .i64 (IntKind.i64.wrap (((i:Nat):Int)+((1:Nat):Int))) (i+1) (zA (by omega) (by omega) (by omega)) ?_)))))
  refine zc 1 [(9,(vI (i+1)))] (zf (zF (zR (i+1) ?_ ?_)))
  ·exact ⟨by omega,((hA).chg hCw4 (fun hs=>by have h:_=_:=hs;omega)),by have hz:=hBw4;rwa [show (zE b.l i).set i _=zE b.l (i+1) from zkk (by omega) rfl] at hz,(Ext.own hEl hCw4 (by omega))⟩
  ·first | omega |(dsimp only;omega)
 ·replace hc10:¬(i<16):=by have:=zae hc10;omega
  refine zf (zb (ze (zn (zW (zx (zx (zL (zb (ze ?_)))))))))
  refine ze (zd (zc 1 [(4,(vI 16))] (zf (zb (zy ?_)))))
  obtain rfl:i=16:=by omega
  refine zY (X:=Nat) (fun t=> [(4,(vI t))]) [5,6,7,8,28,29,30,31,32,33,34,35,36,37,38,39,40,41,42,43,44,45,46,47,48,49,50,51,52,53,54,55,56,57,58,59,60,61,62,63,64,65,66,67,68,69,70] (fun t w5=>16≤t∧t≤64∧Blk w5 w.heap.size (zcI b) 191∧Blk w5 w1.heap.size (zar (zE b.l t)) 167∧Ext w w5) (fun t=>64-t) 16 (by kernel_rfl) ⟨by omega,by omega,hA,hB,hEl⟩ ?_
  rintro t dw5 w5 ⟨hlt,ht,hC,hD,hEm⟩
  have hzhEm:=hEm.size;have hlthC:=hC.lt;have hlthD:=hD.lt
  refine ze (ze (zd (zc 1 [(28,(vI t))] (za (zK (some 29) (decide (((t:Nat):Int)<((64:Nat):Int))) (fun hc29=> ?_) (fun hc29=> ?_))))))
  ·replace hc29:t<64:=by have:=zaf hc29;omega
   refine zf (zb (zC (zu (zb (ze (zy (ze (zT (Ext w5.drew) 10 [(33,16,0),(34,4294967296,1),(35,8589934596,2),(36,17179869184,4),(37,16,0),(38,68719476736,16),(39,137438953476,32),(40,274877906944,64),(6,34359738368,15),(7,549755813888,511)] (fun hT125=> ?_)))))))))
   have hEw6:Ext w5 w5.drew:=Ext.drew w5
   generalize w5.drew=w6 at hEw6⊢
   have hzw6:=hEw6.size
   refine zh hT125 [(0,32,(vI t))] 1 1 (zg hT125 1 3 (some 33) (vI (t-15)) (zaa .i64 (IntKind.i64.wrap (((t:Nat):Int)-((15:Nat):Int))) (zA (by omega) (by omega) (by omega))) (zg hT125 2 7 (some 34) (vP w1.heap.size (0+(t-15)*1)) (zi (Instr.indexAt 167 (vP w1.heap.size 0) (vI (t-15))) (fun w' hC=>zag (E:=53) (sz:=1) (m:=64) (by omega))) (zg hT125 3 15 (some 35) (vW (((zE b.l t).get (t-15)).toNat)) (zi (Instr.loadAt 53 (vP w1.heap.size (0+(t-15)*1))) (fun w' hC=>zk (((hD.ext hEw6).ext hC).cell (zcB (t-15) (by omega))))) (zh hT125 [(4,36,(vI t))] 1 31 (zg hT125 5 63 (some 37) (vI (t-2)) (zaa .i64 (IntKind.i64.wrap (((t:Nat):Int)-((2:Nat):Int))) (zA (by omega) (by omega) (by omega))) (zg hT125 6 127 (some 38) (vP w1.heap.size (0+(t-2)*1)) (zi (Instr.indexAt 167 (vP w1.heap.size 0) (vI (t-2))) (fun w' hC=>zag (E:=53) (sz:=1) (m:=64) (by omega))) (zg hT125 7 255 (some 39) (vW (((zE b.l t).get (t-2)).toNat)) (zi (Instr.loadAt 53 (vP w1.heap.size (0+(t-2)*1))) (fun w' hC=>zk (((hD.ext hEw6).ext hC).cell (zcB (t-2) (by omega))))) (zh hT125 [(8,5,(vW (((zE b.l t).get (t-15)).toNat))),(9,6,(vW (((zE b.l t).get (t-2)).toNat)))] 2 1023 (zJ ?_)))))))))
   refine zb (ze (zd (zc 1 [(40,(vW (((zE b.l t).get (t-15)).toNat)))] (za (zl (some 41) (zdq ((zE b.l t).get (t-15)) 7 _ (by decide) (by decide)) ?_)))))
   rintro _ _ ⟨rfl,rfl⟩
   refine zc 1 [(42,(vW (((zE b.l t).get (t-15)).toNat)))] (za (zl (some 43) (zdq ((zE b.l t).get (t-15)) 18 _ (by decide) (by decide)) ?_))
   rintro _ _ ⟨rfl,rfl⟩
   refine za (zt (some 44) .u32 ((IntKind.u32.wrap ((BitVec.ofInt IntKind.u32.bits (((rr ((zE b.l t).get (t-15)) 7).toNat:Nat):Int)^^^BitVec.ofInt IntKind.u32.bits (((rr ((zE b.l t).get (t-15)) 18).toNat:Nat):Int)).toNat:Int))) (((rr ((zE b.l t).get (t-15)) 7)^^^(rr ((zE b.l t).get (t-15)) 18)).toNat) (zbW (rr ((zE b.l t).get (t-15)) 7) (rr ((zE b.l t).get (t-15)) 18)) ?_)
   refine zc 1 [(45,(vW (((zE b.l t).get (t-15)).toNat)))] (za (zt (some 46) .u32 (((((zE b.l t).get (t-15)).toNat:Nat):Int).fdiv (2^3)) ((((zE b.l t).get (t-15))>>>UInt32.ofNat 3).toNat) (zit ((zE b.l t).get (t-15)) 3 (by decide)) ?_))
   refine za (zt (some 47) .u32 ((IntKind.u32.wrap ((BitVec.ofInt IntKind.u32.bits ((((rr ((zE b.l t).get (t-15)) 7)^^^(rr ((zE b.l t).get (t-15)) 18)).toNat:Nat):Int)^^^BitVec.ofInt IntKind.u32.bits (((((zE b.l t).get (t-15))>>>UInt32.ofNat 3).toNat:Nat):Int)).toNat:Int))) ((((rr ((zE b.l t).get (t-15)) 7)^^^(rr ((zE b.l t).get (t-15)) 18))^^^(((zE b.l t).get (t-15))>>>UInt32.ofNat 3)).toNat) (zbW ((rr ((zE b.l t).get (t-15)) 7)^^^(rr ((zE b.l t).get (t-15)) 18)) (((zE b.l t).get (t-15))>>>UInt32.ofNat 3)) ?_)
   refine zc 1 [(7,(vW ((((rr ((zE b.l t).get (t-15)) 7)^^^(rr ((zE b.l t).get (t-15)) 18))^^^(((zE b.l t).get (t-15))>>>UInt32.ofNat 3)).toNat)))] (zf (zb (ze (zd (zc 1 [(48,(vW (((zE b.l t).get (t-2)).toNat)))] (za (zl (some 49) (zdq ((zE b.l t).get (t-2)) 17 _ (by decide) (by decide)) ?_)))))))
   rintro _ _ ⟨rfl,rfl⟩
   refine zc 1 [(50,(vW (((zE b.l t).get (t-2)).toNat)))] (za (zl (some 51) (zdq ((zE b.l t).get (t-2)) 19 _ (by decide) (by decide)) ?_))
   rintro _ _ ⟨rfl,rfl⟩
   refine za (zt (some 52) .u32 ((IntKind.u32.wrap ((BitVec.ofInt IntKind.u32.bits (((rr ((zE b.l t).get (t-2)) 17).toNat:Nat):Int)^^^BitVec.ofInt IntKind.u32.bits (((rr ((zE b.l t).get (t-2)) 19).toNat:Nat):Int)).toNat:Int))) (((rr ((zE b.l t).get (t-2)) 17)^^^(rr ((zE b.l t).get (t-2)) 19)).toNat) (zbW (rr ((zE b.l t).get (t-2)) 17) (rr ((zE b.l t).get (t-2)) 19)) ?_)
   refine zc 1 [(53,(vW (((zE b.l t).get (t-2)).toNat)))] (za (zt (some 54) .u32 (((((zE b.l t).get (t-2)).toNat:Nat):Int).fdiv (2^10)) ((((zE b.l t).get (t-2))>>>UInt32.ofNat 10).toNat) (zit ((zE b.l t).get (t-2)) 10 (by decide)) ?_))
   refine za (zt (some 55) .u32 ((IntKind.u32.wrap ((BitVec.ofInt IntKind.u32.bits ((((rr ((zE b.l t).get (t-2)) 17)^^^(rr ((zE b.l t).get (t-2)) 19)).toNat:Nat):Int)^^^BitVec.ofInt IntKind.u32.bits (((((zE b.l t).get (t-2))>>>UInt32.ofNat 10).toNat:Nat):Int)).toNat:Int))) ((((rr ((zE b.l t).get (t-2)) 17)^^^(rr ((zE b.l t).get (t-2)) 19))^^^(((zE b.l t).get (t-2))>>>UInt32.ofNat 10)).toNat) (zbW ((rr ((zE b.l t).get (t-2)) 17)^^^(rr ((zE b.l t).get (t-2)) 19)) (((zE b.l t).get (t-2))>>>UInt32.ofNat 10)) ?_)
   refine zc 1 [(8,(vW ((((rr ((zE b.l t).get (t-2)) 17)^^^(rr ((zE b.l t).get (t-2)) 19))^^^(((zE b.l t).get (t-2))>>>UInt32.ofNat 10)).toNat)))] (zf (zb (zT (Ext w6.drew) 16 [(57,16,0),(58,256,0),(59,16,0),(60,288230376151711744,4),(61,576460752303423492,8),(62,1152921504606846976,16),(63,2449958197289549824,34),(64,128,0),(65,13835058055282163712,192),(66,16,0),(67,36893488147419103232,512),(68,73786976294838206468,1024),(69,147573952589676412928,2048),(70,313594649253062377472,4352),(71,72057594037927940,16383),(0,1770887431076116955136,32767)] (fun hT170=> ?_))))
   have hEw7:Ext w6 w6.drew:=Ext.drew w6
   generalize w6.drew=w7 at hEw7⊢
   have hzw7:=hEw7.size
   refine zh hT170 [(0,56,(vI t)),(1,57,(vW ((((rr ((zE b.l t).get (t-2)) 17)^^^(rr ((zE b.l t).get (t-2)) 19))^^^(((zE b.l t).get (t-2))>>>UInt32.ofNat 10)).toNat))),(2,58,(vI t))] 3 7 (zg hT170 3 15 (some 59) (vI (t-7)) (zaa .i64 (IntKind.i64.wrap (((t:Nat):Int)-((7:Nat):Int))) (zA (by omega) (by omega) (by omega))) (zg hT170 4 31 (some 60) (vP w1.heap.size (0+(t-7)*1)) (zi (Instr.indexAt 167 (vP w1.heap.size 0) (vI (t-7))) (fun w' hC=>zag (E:=53) (sz:=1) (m:=64) (by omega))) (zg hT170 5 63 (some 61) (vW (((zE b.l t).get (t-7)).toNat)) (zi (Instr.loadAt 53 (vP w1.heap.size (0+(t-7)*1))) (fun w' hC=>zk (((((hD.ext hEw6)).ext hEw7).ext hC).cell (zcB (t-7) (by omega))))) (zg hT170 6 127 (some 62) (vW (((((rr ((zE b.l t).get (t-2)) 17)^^^(rr ((zE b.l t).get (t-2)) 19))^^^(((zE b.l t).get (t-2))>>>UInt32.ofNat 10))+((zE b.l t).get (t-7))).toNat)) (zaa .u32 _ (zbb (((rr ((zE b.l t).get (t-2)) 17)^^^(rr ((zE b.l t).get (t-2)) 19))^^^(((zE b.l t).get (t-2))>>>UInt32.ofNat 10)) ((zE b.l t).get (t-7)))) (zh hT170 [(7,63,(vW ((((rr ((zE b.l t).get (t-15)) 7)^^^(rr ((zE b.l t).get (t-15)) 18))^^^(((zE b.l t).get (t-15))>>>UInt32.ofNat 3)).toNat)))] 1 255 ?_)))))
   refine zg hT170 8 511 (some 64) (vW ((((((rr ((zE b.l t).get (t-2)) 17)^^^(rr ((zE b.l t).get (t-2)) 19))^^^(((zE b.l t).get (t-2))>>>UInt32.ofNat 10))+((zE b.l t).get (t-7)))+(((rr ((zE b.l t).get (t-15)) 7)^^^(rr ((zE b.l t).get (t-15)) 18))^^^(((zE b.l t).get (t-15))>>>UInt32.ofNat 3))).toNat)) (zaa .u32 _ (zbb ((((rr ((zE b.l t).get (t-2)) 17)^^^(rr ((zE b.l t).get (t-2)) 19))^^^(((zE b.l t).get (t-2))>>>UInt32.ofNat 10))+((zE b.l t).get (t-7))) (((rr ((zE b.l t).get (t-15)) 7)^^^(rr ((zE b.l t).get (t-15)) 18))^^^(((zE b.l t).get (t-15))>>>UInt32.ofNat 3)))) (zh hT170 [(9,65,(vI t))] 1 1023 (zg hT170 10 2047 (some 66) (vI (t-16)) (zaa .i64 (IntKind.i64.wrap (((t:Nat):Int)-((16:Nat):Int))) (zA (by omega) (by omega) (by omega))) (zg hT170 11 4095 (some 67) (vP w1.heap.size (0+(t-16)*1)) (zi (Instr.indexAt 167 (vP w1.heap.size 0) (vI (t-16))) (fun w' hC=>zag (E:=53) (sz:=1) (m:=64) (by omega))) (zg hT170 12 8191 (some 68) (vW (((zE b.l t).get (t-16)).toNat)) (zi (Instr.loadAt 53 (vP w1.heap.size (0+(t-16)*1))) (fun w' hC=>zk (((((hD.ext hEw6)).ext hEw7).ext hC).cell (zcB (t-16) (by omega))))) ?_))))
   refine zg hT170 13 16383 (some 69) (vW (((((((rr ((zE b.l t).get (t-2)) 17)^^^(rr ((zE b.l t).get (t-2)) 19))^^^(((zE b.l t).get (t-2))>>>UInt32.ofNat 10))+((zE b.l t).get (t-7)))+(((rr ((zE b.l t).get (t-15)) 7)^^^(rr ((zE b.l t).get (t-15)) 18))^^^(((zE b.l t).get (t-15))>>>UInt32.ofNat 3)))+((zE b.l t).get (t-16))).toNat)) (zaa .u32 _ (zbb (((((rr ((zE b.l t).get (t-2)) 17)^^^(rr ((zE b.l t).get (t-2)) 19))^^^(((zE b.l t).get (t-2))>>>UInt32.ofNat 10))+((zE b.l t).get (t-7)))+(((rr ((zE b.l t).get (t-15)) 7)^^^(rr ((zE b.l t).get (t-15)) 18))^^^(((zE b.l t).get (t-15))>>>UInt32.ofNat 3))) ((zE b.l t).get (t-16)))) (zg hT170 14 32767 (some 70) (vP w1.heap.size (0+t*1)) (zi (Instr.indexAt 167 (vP w1.heap.size 0) (vI t)) (fun w' hC=>zag (E:=53) (sz:=1) (m:=64) (by omega))) (zz 15 65535 (zah 53 w1.heap.size (0+t*1) 167 (vW (((((((rr ((zE b.l t).get (t-2)) 17)^^^(rr ((zE b.l t).get (t-2)) 19))^^^(((zE b.l t).get (t-2))>>>UInt32.ofNat 10))+((zE b.l t).get (t-7)))+(((rr ((zE b.l t).get (t-15)) 7)^^^(rr ((zE b.l t).get (t-15)) 18))^^^(((zE b.l t).get (t-15))>>>UInt32.ofNat 3)))+((zE b.l t).get (t-16))).toNat)) (zar (zE b.l t)) (((hD.ext hEw6)).ext hEw7) (by first | decide |(simp;done)|(simp;omega)) ?_)))
   intro w8 hBw8 hCw8
   have hzw8:=hCw8.size
   rw [show ((zar (zE b.l t)).set (0+t*1) (vW (((((((rr ((zE b.l t).get (t-2)) 17)^^^(rr ((zE b.l t).get (t-2)) 19))^^^(((zE b.l t).get (t-2))>>>UInt32.ofNat 10))+((zE b.l t).get (t-7)))+(((rr ((zE b.l t).get (t-15)) 7)^^^(rr ((zE b.l t).get (t-15)) 18))^^^(((zE b.l t).get (t-15))>>>UInt32.ofNat 3)))+((zE b.l t).get (t-16))).toNat)):List Value)=zar ((zE b.l t).set t ((((((rr ((zE b.l t).get (t-2)) 17)^^^(rr ((zE b.l t).get (t-2)) 19))^^^(((zE b.l t).get (t-2))>>>UInt32.ofNat 10))+((zE b.l t).get (t-7)))+(((rr ((zE b.l t).get (t-15)) 7)^^^(rr ((zE b.l t).get (t-15)) 18))^^^(((zE b.l t).get (t-15))>>>UInt32.ofNat 3)))+((zE b.l t).get (t-16)))) from zhc t ((((((rr ((zE b.l t).get (t-2)) 17)^^^(rr ((zE b.l t).get (t-2)) 19))^^^(((zE b.l t).get (t-2))>>>UInt32.ofNat 10))+((zE b.l t).get (t-7)))+(((rr ((zE b.l t).get (t-15)) 7)^^^(rr ((zE b.l t).get (t-15)) 18))^^^(((zE b.l t).get (t-15))>>>UInt32.ofNat 3)))+((zE b.l t).get (t-16)))] at hBw8
   refine ⟨.inl (by kernel_rfl), ?_⟩
   refine zJ (zp (zb (zd (zc 1 [(30,(vI t))] (za (zt (some 31) .i64 (IntKind.i64.wrap (((t:Nat):Int)+((1:Nat):Int))) (t+1) (zA (by omega) (by omega) (by omega)) ?_))))))
   refine zc 1 [(4,(vI (t+1)))] (zf (zF ?_))
   have hK1:=(((((hC.ext hEw6)).ext hEw7)).chg hCw8 (fun hs=>by have h:_=_:=hs;omega))
   have hX1:Ext w w8:=(Ext.own ((hEm.trans hEw6).trans hEw7) hCw8 (by omega))
   refine zR (t+1) ?_ ?_
   ·exact ⟨by omega,by omega,hK1,by have hz:=hBw8;rwa [show (zE b.l t).set t _=zE b.l (t+1) from zkM (by omega) (by unfold znh zmE;ac_rfl)] at hz,hX1⟩
   ·first | omega |(dsimp only;omega)
  ·replace hc29:¬(t<64):=by have:=zae hc29;omega
   refine zf (zb (zn (zW (zx (zx (zL (zb (ze (zd ?_)))))))))
   refine za (zj (some 71) (Instr.loadAt 167 (vP w1.heap.size 0)) (vA (zar (zE b.l t))) (zw (vs:=zar (zE b.l t)) (hD.all) (by rw [zdd];kernel_rfl)) ?_)
   refine za (zv 167 w1.heap.size 0 167 (vA (zar (zE b.l t))) (zar (zE b.l t)) (zar (zE b.l t)) hD (by rw [zdd];kernel_rfl) (by first |(simp;done)|(simp;omega)) (zfx _) ?_)
   intro w9 hBw9 hCw9
   have hzw9:=hCw9.size
   rw [zm _ _ (by simp)] at hBw9
   refine zf (zb (zq (zaB (show zZ Tryz.prog 72 _ _ (.cell 2 167) (vA (zar (zE b.l t))) from ⟨⟨w1.heap.size,0,none⟩,(by kernel_rfl),zN (T:=167) (vs:=zar (zE b.l t)) (hBw9).all (by rw [zdd];kernel_rfl)⟩) ?_)))
   obtain rfl:t=64:=by omega
   exact ⟨rfl,(Ext.own hEm hCw9 (by omega))⟩
end Go.Proofs.YtkmhgepdhilllaaGreatDoor
namespace Go.Proofs.YtkmhgepdhilllaaGreatDoor
open Go Go.RowKit Go.Cs
set_option maxRecDepth 100000
theorem zqY (h:(WA 8)) (b:B64) (w:World) (hg2:Gl 3 (zar kA) w):
  Calls Tryz.prog 135 #[(vA (w8C h)),(vA (zcI b))] w (Ret fun r w'=>r=(vA (w8C (zey h b.l)))∧Ext w w'):=by
 refine zI (n:=112) (σ:= [(0,(vA (w8C h))),(1,(vA (zcI b)))]) Tryz.func135 rfl ?_
 have hgl2:=hg2.lt
 refine ze (zd (za (zo (some 2) (Instr.box 168 (vA (w8C h))) (vP w.heap.size 0) (w8C h) 168 ?_)))
 intro w1 hBw1 hEw1
 have hzw1:=hEw1.size;have hlw1:=hBw1.lt
 refine za (zo (some 3) (Instr.box 191 (vA (zcI b))) (vP w1.heap.size 0) (zcI b) 191 ?_)
 intro w2 hBw2 hEw2
 have hzw2:=hEw2.size;have hlw2:=hBw2.lt
 refine za (zo (some 4) (Instr.alloc 168 true (.tuple #[])) (vP w2.heap.size 0) (w8C (WA.zero 8)) 168 ?_)
 intro w3 hBw3 hEw3
 have hzw3:=hEw3.size;have hlw3:=hBw3.lt
 refine zf (zb (ze (zd (za (zj (some 14) (Instr.loadAt 191 (vP w1.heap.size 0)) (vA (zcI b)) (zw (vs:=zcI b) ((hBw2.ext hEw3).all) (by rw [zj1];kernel_rfl)) ?_)))))
 refine za (zl (some 15) (zru b _) ?_)
 rintro _ w4 ⟨rfl,hEw4⟩
 have hzw4:=hEw4.size
 refine za (zo (some 5) (Instr.alloc 167 true (.tuple #[])) (vP w4.heap.size 0) (zar (WA.zero 64)) 167 ?_)
 intro w5 hBw5 hEw5
 have hzw5:=hEw5.size;have hlw5:=hBw5.lt
 refine za (zv 167 w4.heap.size 0 167 (vA (zar (zE b.l 64))) (zar (WA.zero 64)) (zar (zE b.l 64)) hBw5 (by rw [zdd];kernel_rfl) (by first |(simp;done)|(simp;omega)) (zfx _) ?_)
 intro w6 hBw6 hCw6
 have hzw6:=hCw6.size
 rw [zm _ _ (by simp)] at hBw6
 refine zf (zb (ze (zd ?_)))
 have hK1:=(((((((((hBw1.ext hEw2)).ext hEw3)).ext hEw4)).ext hEw5)).chg hCw6 (fun hs=>by have h:_=_:=hs;omega))
 refine za (zj (some 16) (Instr.loadAt 168 (vP w.heap.size 0)) (vA (w8C h)) (zw (vs:=w8C h) (hK1.all) (by rw [zbA];kernel_rfl)) ?_)
 refine za (zo (some 6) (Instr.alloc 168 true (.tuple #[])) (vP w6.heap.size 0) (w8C (WA.zero 8)) 168 ?_)
 intro w7 hBw7 hEw7
 have hzw7:=hEw7.size;have hlw7:=hBw7.lt
 refine za (zv 168 w6.heap.size 0 168 (vA (w8C h)) (w8C (WA.zero 8)) (w8C h) hBw7 (by rw [zbA];kernel_rfl) (by first |(simp;done)|(simp;omega)) (zdo _) ?_)
 intro w8 hBw8 hCw8
 have hzw8:=hCw8.size
 rw [zm _ _ (by simp)] at hBw8
 refine zf (zb (ze (ze (zd ?_))))
 have hK2:=(((((((((((((((hg2.ext hEw1)).ext hEw2)).ext hEw3)).ext hEw4)).ext hEw5)).chg hCw6 (fun hs=>by have h:_=_:=hs;omega))).ext hEw7)).chg hCw8 (fun hs=>by have h:_=_:=hs;omega))
 refine za (zj (some 17) (Instr.loadAt 167 (vP 3 0)) (vA (zar kA)) (zw (vs:=zar kA) (hK2.all) (by rw [zdd];kernel_rfl)) ?_)
 refine zc 1 [(18,(vI 0))] (zf (zb (zy ?_)))
 have hK3:=(((((((((hBw3.ext hEw4)).ext hEw5)).chg hCw6 (fun hs=>by have h:_=_:=hs;omega))).ext hEw7)).chg hCw8 (fun hs=>by have h:_=_:=hs;omega))
 have hX1:Ext w w8:=(Ext.own ((Ext.own ((((hEw1.trans hEw2).trans hEw3).trans hEw4).trans hEw5) hCw6 (by omega)).trans hEw7) hCw8 (by omega))
 refine zY (X:=Nat×WA 8) (fun ⟨t,x⟩=> [(18,(vI t))]) [7,8,9,10,11,12,19,20,21,22,23,24,25,26,27,28,29,30,31,32,33,34,35,36,37,38,39,40,41,42,43,44,45,46,47,48,49,50,51,52,53,54,55,56,57,58,59,60,61,62,63,64,65,66,67,68,69,70,71,72,73,74,75,76,77,78,79,80,81,82,83,84,85,86,87,88,89,90,91,92,93,94,95,96,97,98] (fun ⟨t,x⟩ w9=>t≤64∧x=zew h (zE b.l 64) t∧Blk w9 w.heap.size (w8C h) 168∧Blk w9 w4.heap.size (zar (zE b.l 64)) 167∧Blk w9 w6.heap.size (w8C x) 168∧Blk w9 w2.heap.size (w8C (WA.zero 8)) 168∧Ext w w9) (fun ⟨t,x⟩=>64-t) (0,h) (by kernel_rfl) ⟨by omega,rfl,(((hK1.ext hEw7)).chg hCw8 (fun hs=>by have h:_=_:=hs;omega)),(((hBw6.ext hEw7)).chg hCw8 (fun hs=>by have h:_=_:=hs;omega)),hBw8,hK3,hX1⟩ ?_
 rintro ⟨t,x⟩ dw9 w9 ⟨ht,hx,hA,hB,hD,hZ4,hEl⟩
 have hzl:=hEl.size
 have hlthA:=hA.lt
 have hlthB:=hB.lt
 have hlthD:=hD.lt
 have hlthZ4:=hZ4.lt
 refine ze (zd (za (zK (some 19) (decide (((t:Nat):Int)<((64:Nat):Int))) (fun hc19=> ?_) (fun hc19=> ?_))))
 ·replace hc19:t<64:=by have:=zaf hc19;omega
  refine zf (zb (ze (zC (zu (zb (ze (zy (ze (zd ?_)))))))))
  refine zc 1 [(20,(vI t))] (za (zj (some 21) (Instr.index 167 (vA (zar kA)) (vI t)) (vW ((kA.get t).toNat)) (zhk (E:=53) (m:=64) (by omega) (zox (by omega))) ?_))
  refine zc 2 [(8,(vW ((kA.get t).toNat))),(7,(vI t))] (zf (zb (ze (zT (Ext w9.drew) 6 [(23,64,0),(24,4194304,1),(25,64,0),(26,16777216,4),(10,8388608,3),(11,33554432,31)] (fun hT83=> ?_)))))
  have hEw10:Ext w9 w9.drew:=Ext.drew w9
  generalize w9.drew=w10 at hEw10⊢
  have hzw10:=hEw10.size
  refine zg hT83 0 1 (some 22) (vP w6.heap.size 0) (zi (Instr.indexAt 168 (vP w6.heap.size 0) (vI 0)) (fun w' hC=>zag (E:=53) (sz:=1) (m:=8) (by omega))) (zg hT83 1 3 (some 23) (vW ((x.get 0).toNat)) (zi (Instr.loadAt 53 (vP w6.heap.size 0)) (fun w' hC=>zk (((hD.ext hEw10).ext hC).cell (zaM 0 (by omega))))) (zg hT83 2 7 (some 24) (vP w6.heap.size 4) (zi (Instr.indexAt 168 (vP w6.heap.size 0) (vI 4)) (fun w' hC=>zag (E:=53) (sz:=1) (m:=8) (by omega))) (zg hT83 3 15 (some 25) (vW ((x.get 4).toNat)) (zi (Instr.loadAt 53 (vP w6.heap.size 4)) (fun w' hC=>zk (((hD.ext hEw10).ext hC).cell (zaM 4 (by omega))))) (zh hT83 [(4,9,(vW ((x.get 0).toNat))),(5,10,(vW ((x.get 4).toNat)))] 2 63 (zJ (zb (ze (zT (Ext w10.drew) 29 [(27,64,0),(28,67108864,1),(29,1024,0),(30,268435456,4),(31,1024,0),(32,1073741824,24),(33,2684354560,40),(34,1024,0),(35,8589934592,160),(36,21474836480,320),(37,34493956096,514),(38,1024,0),(39,64,0),(40,274877906944,4096),(41,687194767360,10240),(42,1024,0),(43,2199023255552,32768),(44,64,0),(45,8796093022208,131072),(46,21990232555520,327680),(47,36283883716608,540672),(48,70437463654400,1049600),(49,256,0),(50,422212465065984,6291456),(51,128,0),(52,1125899906842656,16777216),(53,2251799813685248,33554432),(54,5066549580791808,75497472),(12,9007199254740992,268435455)] (fun hT95=> ?_)))))))))
  have hEw11:Ext w10 w10.drew:=Ext.drew w10
  generalize w10.drew=w11 at hEw11⊢
  have hzw11:=hEw11.size
  refine zg hT95 0 1 (some 26) (vP w6.heap.size 7) (zi (Instr.indexAt 168 (vP w6.heap.size 0) (vI 7)) (fun w' hC=>zag (E:=53) (sz:=1) (m:=8) (by omega))) (zg hT95 1 3 (some 27) (vW ((x.get 7).toNat)) (zi (Instr.loadAt 53 (vP w6.heap.size 7)) (fun w' hC=>zk (((((hD.ext hEw10)).ext hEw11).ext hC).cell (zaM 7 (by omega))))) (zh hT95 [(2,28,(vW ((x.get 4).toNat)))] 1 7 (zg hT95 3 15 (some 29) (vW ((rr (x.get 4) 6).toNat)) (zd9 (f:=145) (args:= #[(vW ((x.get 4).toNat)),(vI 6)]) (fun w' hC=>zdq (x.get 4) 6 _ (by decide) (by decide))) (zh hT95 [(4,30,(vW ((x.get 4).toNat)))] 1 31 (zg hT95 5 63 (some 31) (vW ((rr (x.get 4) 11).toNat)) (zd9 (f:=145) (args:= #[(vW ((x.get 4).toNat)),(vI 11)]) (fun w' hC=>zdq (x.get 4) 11 _ (by decide) (by decide))) (zg hT95 6 127 (some 32) (vW (((rr (x.get 4) 6)^^^(rr (x.get 4) 11)).toNat)) (zaa .u32 _ (zbW (rr (x.get 4) 6) (rr (x.get 4) 11))) (zh hT95 [(7,33,(vW ((x.get 4).toNat)))] 1 255 (zg hT95 8 511 (some 34) (vW ((rr (x.get 4) 25).toNat)) (zd9 (f:=145) (args:= #[(vW ((x.get 4).toNat)),(vI 25)]) (fun w' hC=>zdq (x.get 4) 25 _ (by decide) (by decide))) (zg hT95 9 1023 (some 35) (vW ((((rr (x.get 4) 6)^^^(rr (x.get 4) 11))^^^(rr (x.get 4) 25)).toNat)) (zaa .u32 _ (zbW ((rr (x.get 4) 6)^^^(rr (x.get 4) 11)) (rr (x.get 4) 25))) ?_)))))))))
  refine zg hT95 10 2047 (some 36) (vW (((x.get 7)+(((rr (x.get 4) 6)^^^(rr (x.get 4) 11))^^^(rr (x.get 4) 25))).toNat)) (zaa .u32 _ (zbb (x.get 7) (((rr (x.get 4) 6)^^^(rr (x.get 4) 11))^^^(rr (x.get 4) 25)))) (zh hT95 [(11,37,(vW ((x.get 4).toNat)))] 1 4095 (zg hT95 12 8191 (some 38) (vP w6.heap.size 5) (zi (Instr.indexAt 168 (vP w6.heap.size 0) (vI 5)) (fun w' hC=>zag (E:=53) (sz:=1) (m:=8) (by omega))) (zg hT95 13 16383 (some 39) (vW ((x.get 5).toNat)) (zi (Instr.loadAt 53 (vP w6.heap.size 5)) (fun w' hC=>zk (((((hD.ext hEw10)).ext hEw11).ext hC).cell (zaM 5 (by omega))))) (zg hT95 14 32767 (some 40) (vW (((x.get 4)&&&(x.get 5)).toNat)) (zaa .u32 _ (zd2 (x.get 4) (x.get 5))) (zh hT95 [(15,41,(vW ((x.get 4).toNat)))] 1 65535 (zg hT95 16 131071 (some 42) (vW ((~~~(x.get 4)).toNat)) (zaa .u32 _ (zom (x.get 4))) (zg hT95 17 262143 (some 43) (vP w6.heap.size 6) (zi (Instr.indexAt 168 (vP w6.heap.size 0) (vI 6)) (fun w' hC=>zag (E:=53) (sz:=1) (m:=8) (by omega))) (zg hT95 18 524287 (some 44) (vW ((x.get 6).toNat)) (zi (Instr.loadAt 53 (vP w6.heap.size 6)) (fun w' hC=>zk (((((hD.ext hEw10)).ext hEw11).ext hC).cell (zaM 6 (by omega))))) (zg hT95 19 1048575 (some 45) (vW (((~~~(x.get 4))&&&(x.get 6)).toNat)) (zaa .u32 _ (zd2 (~~~(x.get 4)) (x.get 6))) ?_)))))))))
  refine zg hT95 20 2097151 (some 46) (vW ((((x.get 4)&&&(x.get 5))^^^((~~~(x.get 4))&&&(x.get 6))).toNat)) (zaa .u32 _ (zbW ((x.get 4)&&&(x.get 5)) ((~~~(x.get 4))&&&(x.get 6)))) (zg hT95 21 4194303 (some 47) (vW ((((x.get 7)+(((rr (x.get 4) 6)^^^(rr (x.get 4) 11))^^^(rr (x.get 4) 25)))+(((x.get 4)&&&(x.get 5))^^^((~~~(x.get 4))&&&(x.get 6)))).toNat)) (zaa .u32 _ (zbb ((x.get 7)+(((rr (x.get 4) 6)^^^(rr (x.get 4) 11))^^^(rr (x.get 4) 25))) (((x.get 4)&&&(x.get 5))^^^((~~~(x.get 4))&&&(x.get 6))))) (zh hT95 [(22,48,(vW ((kA.get t).toNat)))] 1 8388607 (zg hT95 23 16777215 (some 49) (vW (((((x.get 7)+(((rr (x.get 4) 6)^^^(rr (x.get 4) 11))^^^(rr (x.get 4) 25)))+(((x.get 4)&&&(x.get 5))^^^((~~~(x.get 4))&&&(x.get 6))))+(kA.get t)).toNat)) (zaa .u32 _ (zbb (((x.get 7)+(((rr (x.get 4) 6)^^^(rr (x.get 4) 11))^^^(rr (x.get 4) 25)))+(((x.get 4)&&&(x.get 5))^^^((~~~(x.get 4))&&&(x.get 6)))) (kA.get t))) (zh hT95 [(24,50,(vI t))] 1 33554431 (zg hT95 25 67108863 (some 51) (vP w4.heap.size (0+t*1)) (zi (Instr.indexAt 167 (vP w4.heap.size 0) (vI t)) (fun w' hC=>zag (E:=53) (sz:=1) (m:=64) (by omega))) (zg hT95 26 134217727 (some 52) (vW (((zE b.l 64).get t).toNat)) (zi (Instr.loadAt 53 (vP w4.heap.size (0+t*1))) (fun w' hC=>zk (((((hB.ext hEw10)).ext hEw11).ext hC).cell (zcB t (by omega))))) ?_))))))
  refine zg hT95 27 268435455 (some 53) (vW ((((((x.get 7)+(((rr (x.get 4) 6)^^^(rr (x.get 4) 11))^^^(rr (x.get 4) 25)))+(((x.get 4)&&&(x.get 5))^^^((~~~(x.get 4))&&&(x.get 6))))+(kA.get t))+((zE b.l 64).get t)).toNat)) (zaa .u32 _ (zbb ((((x.get 7)+(((rr (x.get 4) 6)^^^(rr (x.get 4) 11))^^^(rr (x.get 4) 25)))+(((x.get 4)&&&(x.get 5))^^^((~~~(x.get 4))&&&(x.get 6))))+(kA.get t)) ((zE b.l 64).get t))) (zh hT95 [(28,11,(vW ((((((x.get 7)+(((rr (x.get 4) 6)^^^(rr (x.get 4) 11))^^^(rr (x.get 4) 25)))+(((x.get 4)&&&(x.get 5))^^^((~~~(x.get 4))&&&(x.get 6))))+(kA.get t))+((zE b.l 64).get t)).toNat)))] 1 536870911 (zJ (zb (ze (zT (Ext w11.drew) 25 [(55,512,0),(56,18014398509481984,1),(57,512,0),(58,72057594037927936,6),(59,180143985094819840,10),(60,512,0),(61,576460752303423488,40),(62,1441151880758558720,80),(63,512,0),(64,64,0),(65,9223372036854775808,512),(66,23058430092136939520,1280),(67,512,0),(68,64,0),(69,147573952589676412928,8192),(70,368934881474191032320,20480),(71,627189298506124754944,34816),(72,64,0),(73,2361183241434822606848,131072),(74,64,0),(75,9444732965739290427392,524288),(76,23611832414348226068480,1310720),(77,38959523483674573012992,2162688),(78,75560169568923537113088,4194432),(13,151115727451828646838272,16777215)] (fun hT131=> ?_))))))
  have hEw12:Ext w11 w11.drew:=Ext.drew w11
  generalize w11.drew=w12 at hEw12⊢
  have hzw12:=hEw12.size
  refine zh hT131 [(0,54,(vW ((x.get 0).toNat)))] 1 1 (zg hT131 1 3 (some 55) (vW ((rr (x.get 0) 2).toNat)) (zd9 (f:=145) (args:= #[(vW ((x.get 0).toNat)),(vI 2)]) (fun w' hC=>zdq (x.get 0) 2 _ (by decide) (by decide))) (zh hT131 [(2,56,(vW ((x.get 0).toNat)))] 1 7 (zg hT131 3 15 (some 57) (vW ((rr (x.get 0) 13).toNat)) (zd9 (f:=145) (args:= #[(vW ((x.get 0).toNat)),(vI 13)]) (fun w' hC=>zdq (x.get 0) 13 _ (by decide) (by decide))) (zg hT131 4 31 (some 58) (vW (((rr (x.get 0) 2)^^^(rr (x.get 0) 13)).toNat)) (zaa .u32 _ (zbW (rr (x.get 0) 2) (rr (x.get 0) 13))) (zh hT131 [(5,59,(vW ((x.get 0).toNat)))] 1 63 (zg hT131 6 127 (some 60) (vW ((rr (x.get 0) 22).toNat)) (zd9 (f:=145) (args:= #[(vW ((x.get 0).toNat)),(vI 22)]) (fun w' hC=>zdq (x.get 0) 22 _ (by decide) (by decide))) (zg hT131 7 255 (some 61) (vW ((((rr (x.get 0) 2)^^^(rr (x.get 0) 13))^^^(rr (x.get 0) 22)).toNat)) (zaa .u32 _ (zbW ((rr (x.get 0) 2)^^^(rr (x.get 0) 13)) (rr (x.get 0) 22))) (zh hT131 [(8,62,(vW ((x.get 0).toNat)))] 1 511 (zg hT131 9 1023 (some 63) (vP w6.heap.size 1) (zi (Instr.indexAt 168 (vP w6.heap.size 0) (vI 1)) (fun w' hC=>zag (E:=53) (sz:=1) (m:=8) (by omega))) ?_)))))))))
  have hK4:=(((((hD.ext hEw10)).ext hEw11)).ext hEw12)
  refine zg hT131 10 2047 (some 64) (vW ((x.get 1).toNat)) (zi (Instr.loadAt 53 (vP w6.heap.size 1)) (fun w' hC=>zk ((hK4.ext hC).cell (zaM 1 (by omega))))) (zg hT131 11 4095 (some 65) (vW (((x.get 0)&&&(x.get 1)).toNat)) (zaa .u32 _ (zd2 (x.get 0) (x.get 1))) (zh hT131 [(12,66,(vW ((x.get 0).toNat)))] 1 8191 (zg hT131 13 16383 (some 67) (vP w6.heap.size 2) (zi (Instr.indexAt 168 (vP w6.heap.size 0) (vI 2)) (fun w' hC=>zag (E:=53) (sz:=1) (m:=8) (by omega))) (zg hT131 14 32767 (some 68) (vW ((x.get 2).toNat)) (zi (Instr.loadAt 53 (vP w6.heap.size 2)) (fun w' hC=>zk ((hK4.ext hC).cell (zaM 2 (by omega))))) (zg hT131 15 65535 (some 69) (vW (((x.get 0)&&&(x.get 2)).toNat)) (zaa .u32 _ (zd2 (x.get 0) (x.get 2))) (zg hT131 16 131071 (some 70) (vW ((((x.get 0)&&&(x.get 1))^^^((x.get 0)&&&(x.get 2))).toNat)) (zaa .u32 _ (zbW ((x.get 0)&&&(x.get 1)) ((x.get 0)&&&(x.get 2)))) (zg hT131 17 262143 (some 71) (vP w6.heap.size 1) (zi (Instr.indexAt 168 (vP w6.heap.size 0) (vI 1)) (fun w' hC=>zag (E:=53) (sz:=1) (m:=8) (by omega))) (zg hT131 18 524287 (some 72) (vW ((x.get 1).toNat)) (zi (Instr.loadAt 53 (vP w6.heap.size 1)) (fun w' hC=>zk ((hK4.ext hC).cell (zaM 1 (by omega))))) (zg hT131 19 1048575 (some 73) (vP w6.heap.size 2) (zi (Instr.indexAt 168 (vP w6.heap.size 0) (vI 2)) (fun w' hC=>zag (E:=53) (sz:=1) (m:=8) (by omega))) ?_)))))))))
  refine zg hT131 20 2097151 (some 74) (vW ((x.get 2).toNat)) (zi (Instr.loadAt 53 (vP w6.heap.size 2)) (fun w' hC=>zk ((hK4.ext hC).cell (zaM 2 (by omega))))) (zg hT131 21 4194303 (some 75) (vW (((x.get 1)&&&(x.get 2)).toNat)) (zaa .u32 _ (zd2 (x.get 1) (x.get 2))) (zg hT131 22 8388607 (some 76) (vW (((((x.get 0)&&&(x.get 1))^^^((x.get 0)&&&(x.get 2)))^^^((x.get 1)&&&(x.get 2))).toNat)) (zaa .u32 _ (zbW (((x.get 0)&&&(x.get 1))^^^((x.get 0)&&&(x.get 2))) ((x.get 1)&&&(x.get 2)))) (zg hT131 23 16777215 (some 77) (vW (((((rr (x.get 0) 2)^^^(rr (x.get 0) 13))^^^(rr (x.get 0) 22))+((((x.get 0)&&&(x.get 1))^^^((x.get 0)&&&(x.get 2)))^^^((x.get 1)&&&(x.get 2)))).toNat)) (zaa .u32 _ (zbb (((rr (x.get 0) 2)^^^(rr (x.get 0) 13))^^^(rr (x.get 0) 22)) ((((x.get 0)&&&(x.get 1))^^^((x.get 0)&&&(x.get 2)))^^^((x.get 1)&&&(x.get 2))))) (zh hT131 [(24,12,(vW (((((rr (x.get 0) 2)^^^(rr (x.get 0) 13))^^^(rr (x.get 0) 22))+((((x.get 0)&&&(x.get 1))^^^((x.get 0)&&&(x.get 2)))^^^((x.get 1)&&&(x.get 2)))).toNat)))] 1 33554431 (zJ (zb (zd (zc 2 [(79,(vW (((((rr (x.get 0) 2)^^^(rr (x.get 0) 13))^^^(rr (x.get 0) 22))+((((x.get 0)&&&(x.get 1))^^^((x.get 0)&&&(x.get 2)))^^^((x.get 1)&&&(x.get 2)))).toNat))),(78,(vW ((((((x.get 7)+(((rr (x.get 4) 6)^^^(rr (x.get 4) 11))^^^(rr (x.get 4) 25)))+(((x.get 4)&&&(x.get 5))^^^((~~~(x.get 4))&&&(x.get 6))))+(kA.get t))+((zE b.l 64).get t)).toNat)))] ?_))))))))
  refine za (zt (some 80) .u32 (IntKind.u32.wrap ((((((((x.get 7)+(((rr (x.get 4) 6)^^^(rr (x.get 4) 11))^^^(rr (x.get 4) 25)))+(((x.get 4)&&&(x.get 5))^^^((~~~(x.get 4))&&&(x.get 6))))+(kA.get t))+((zE b.l 64).get t)).toNat:Nat):Int)+((((((rr (x.get 0) 2)^^^(rr (x.get 0) 13))^^^(rr (x.get 0) 22))+((((x.get 0)&&&(x.get 1))^^^((x.get 0)&&&(x.get 2)))^^^((x.get 1)&&&(x.get 2)))).toNat:Nat):Int))) (((((((x.get 7)+(((rr (x.get 4) 6)^^^(rr (x.get 4) 11))^^^(rr (x.get 4) 25)))+(((x.get 4)&&&(x.get 5))^^^((~~~(x.get 4))&&&(x.get 6))))+(kA.get t))+((zE b.l 64).get t))+((((rr (x.get 0) 2)^^^(rr (x.get 0) 13))^^^(rr (x.get 0) 22))+((((x.get 0)&&&(x.get 1))^^^((x.get 0)&&&(x.get 2)))^^^((x.get 1)&&&(x.get 2))))).toNat) (zbb (((((x.get 7)+(((rr (x.get 4) 6)^^^(rr (x.get 4) 11))^^^(rr (x.get 4) 25)))+(((x.get 4)&&&(x.get 5))^^^((~~~(x.get 4))&&&(x.get 6))))+(kA.get t))+((zE b.l 64).get t)) ((((rr (x.get 0) 2)^^^(rr (x.get 0) 13))^^^(rr (x.get 0) 22))+((((x.get 0)&&&(x.get 1))^^^((x.get 0)&&&(x.get 2)))^^^((x.get 1)&&&(x.get 2))))) ?_)
  refine za (zj (some 81) (Instr.indexAt 168 (vP w6.heap.size 0) (vI 0)) (vP w6.heap.size 0) (zag (E:=53) (sz:=1) (m:=8) (by omega)) ?_)
  refine za (zj (some 82) (Instr.loadAt 53 (vP w6.heap.size 0)) (vW ((x.get 0).toNat)) (zk (hK4.cell (zaM 0 (by omega)))) ?_)
  refine za (zj (some 83) (Instr.indexAt 168 (vP w6.heap.size 0) (vI 1)) (vP w6.heap.size 1) (zag (E:=53) (sz:=1) (m:=8) (by omega)) ?_)
  refine za (zj (some 84) (Instr.loadAt 53 (vP w6.heap.size 1)) (vW ((x.get 1).toNat)) (zk (hK4.cell (zaM 1 (by omega)))) ?_)
  refine za (zj (some 85) (Instr.indexAt 168 (vP w6.heap.size 0) (vI 2)) (vP w6.heap.size 2) (zag (E:=53) (sz:=1) (m:=8) (by omega)) ?_)
  refine za (zj (some 86) (Instr.loadAt 53 (vP w6.heap.size 2)) (vW ((x.get 2).toNat)) (zk (hK4.cell (zaM 2 (by omega)))) ?_)
  refine za (zj (some 87) (Instr.indexAt 168 (vP w6.heap.size 0) (vI 3)) (vP w6.heap.size 3) (zag (E:=53) (sz:=1) (m:=8) (by omega)) ?_)
  refine za (zj (some 88) (Instr.loadAt 53 (vP w6.heap.size 3)) (vW ((x.get 3).toNat)) (zk (hK4.cell (zaM 3 (by omega)))) ?_)
  refine zc 1 [(89,(vW ((((((x.get 7)+(((rr (x.get 4) 6)^^^(rr (x.get 4) 11))^^^(rr (x.get 4) 25)))+(((x.get 4)&&&(x.get 5))^^^((~~~(x.get 4))&&&(x.get 6))))+(kA.get t))+((zE b.l 64).get t)).toNat)))] (za (zt (some 90) .u32 (IntKind.u32.wrap ((((x.get 3).toNat:Nat):Int)+(((((((x.get 7)+(((rr (x.get 4) 6)^^^(rr (x.get 4) 11))^^^(rr (x.get 4) 25)))+(((x.get 4)&&&(x.get 5))^^^((~~~(x.get 4))&&&(x.get 6))))+(kA.get t))+((zE b.l 64).get t)).toNat:Nat):Int))) (((x.get 3)+(((((x.get 7)+(((rr (x.get 4) 6)^^^(rr (x.get 4) 11))^^^(rr (x.get 4) 25)))+(((x.get 4)&&&(x.get 5))^^^((~~~(x.get 4))&&&(x.get 6))))+(kA.get t))+((zE b.l 64).get t))).toNat) (zbb (x.get 3) (((((x.get 7)+(((rr (x.get 4) 6)^^^(rr (x.get 4) 11))^^^(rr (x.get 4) 25)))+(((x.get 4)&&&(x.get 5))^^^((~~~(x.get 4))&&&(x.get 6))))+(kA.get t))+((zE b.l 64).get t))) ?_))
  refine za (zj (some 91) (Instr.indexAt 168 (vP w6.heap.size 0) (vI 4)) (vP w6.heap.size 4) (zag (E:=53) (sz:=1) (m:=8) (by omega)) ?_)
  refine za (zj (some 92) (Instr.loadAt 53 (vP w6.heap.size 4)) (vW ((x.get 4).toNat)) (zk (hK4.cell (zaM 4 (by omega)))) ?_)
  refine za (zj (some 93) (Instr.indexAt 168 (vP w6.heap.size 0) (vI 5)) (vP w6.heap.size 5) (zag (E:=53) (sz:=1) (m:=8) (by omega)) ?_)
  refine za (zj (some 94) (Instr.loadAt 53 (vP w6.heap.size 5)) (vW ((x.get 5).toNat)) (zk (hK4.cell (zaM 5 (by omega)))) ?_)
  refine za (zj (some 95) (Instr.indexAt 168 (vP w6.heap.size 0) (vI 6)) (vP w6.heap.size 6) (zag (E:=53) (sz:=1) (m:=8) (by omega)) ?_)
  refine za (zj (some 96) (Instr.loadAt 53 (vP w6.heap.size 6)) (vW ((x.get 6).toNat)) (zk (hK4.cell (zaM 6 (by omega)))) ?_)
  refine zc 1 [(97,(vA (w8C ⟨[((((((x.get 7)+(((rr (x.get 4) 6)^^^(rr (x.get 4) 11))^^^(rr (x.get 4) 25)))+(((x.get 4)&&&(x.get 5))^^^((~~~(x.get 4))&&&(x.get 6))))+(kA.get t))+((zE b.l 64).get t))+((((rr (x.get 0) 2)^^^(rr (x.get 0) 13))^^^(rr (x.get 0) 22))+((((x.get 0)&&&(x.get 1))^^^((x.get 0)&&&(x.get 2)))^^^((x.get 1)&&&(x.get 2))))),(x.get 0),(x.get 1),(x.get 2),((x.get 3)+(((((x.get 7)+(((rr (x.get 4) 6)^^^(rr (x.get 4) 11))^^^(rr (x.get 4) 25)))+(((x.get 4)&&&(x.get 5))^^^((~~~(x.get 4))&&&(x.get 6))))+(kA.get t))+((zE b.l 64).get t))),(x.get 4),(x.get 5),(x.get 6)],rfl⟩)))] ?_
  refine za (zv 168 w6.heap.size 0 168 (vA (w8C ⟨[((((((x.get 7)+(((rr (x.get 4) 6)^^^(rr (x.get 4) 11))^^^(rr (x.get 4) 25)))+(((x.get 4)&&&(x.get 5))^^^((~~~(x.get 4))&&&(x.get 6))))+(kA.get t))+((zE b.l 64).get t))+((((rr (x.get 0) 2)^^^(rr (x.get 0) 13))^^^(rr (x.get 0) 22))+((((x.get 0)&&&(x.get 1))^^^((x.get 0)&&&(x.get 2)))^^^((x.get 1)&&&(x.get 2))))),(x.get 0),(x.get 1),(x.get 2),((x.get 3)+(((((x.get 7)+(((rr (x.get 4) 6)^^^(rr (x.get 4) 11))^^^(rr (x.get 4) 25)))+(((x.get 4)&&&(x.get 5))^^^((~~~(x.get 4))&&&(x.get 6))))+(kA.get t))+((zE b.l 64).get t))),(x.get 4),(x.get 5),(x.get 6)],rfl⟩)) (w8C x) (w8C ⟨[((((((x.get 7)+(((rr (x.get 4) 6)^^^(rr (x.get 4) 11))^^^(rr (x.get 4) 25)))+(((x.get 4)&&&(x.get 5))^^^((~~~(x.get 4))&&&(x.get 6))))+(kA.get t))+((zE b.l 64).get t))+((((rr (x.get 0) 2)^^^(rr (x.get 0) 13))^^^(rr (x.get 0) 22))+((((x.get 0)&&&(x.get 1))^^^((x.get 0)&&&(x.get 2)))^^^((x.get 1)&&&(x.get 2))))),(x.get 0),(x.get 1),(x.get 2),((x.get 3)+(((((x.get 7)+(((rr (x.get 4) 6)^^^(rr (x.get 4) 11))^^^(rr (x.get 4) 25)))+(((x.get 4)&&&(x.get 5))^^^((~~~(x.get 4))&&&(x.get 6))))+(kA.get t))+((zE b.l 64).get t))),(x.get 4),(x.get 5),(x.get 6)],rfl⟩) hK4 (by rw [zbA];kernel_rfl) (by first |(simp;done)|(simp;omega)) (zdo _) ?_)
  intro w13 hBw13 hCw13
  have hzw13:=hCw13.size
  rw [show (zac (w8C x) 0 (w8C ⟨[((((((x.get 7)+(((rr (x.get 4) 6)^^^(rr (x.get 4) 11))^^^(rr (x.get 4) 25)))+(((x.get 4)&&&(x.get 5))^^^((~~~(x.get 4))&&&(x.get 6))))+(kA.get t))+((zE b.l 64).get t))+((((rr (x.get 0) 2)^^^(rr (x.get 0) 13))^^^(rr (x.get 0) 22))+((((x.get 0)&&&(x.get 1))^^^((x.get 0)&&&(x.get 2)))^^^((x.get 1)&&&(x.get 2))))),(x.get 0),(x.get 1),(x.get 2),((x.get 3)+(((((x.get 7)+(((rr (x.get 4) 6)^^^(rr (x.get 4) 11))^^^(rr (x.get 4) 25)))+(((x.get 4)&&&(x.get 5))^^^((~~~(x.get 4))&&&(x.get 6))))+(kA.get t))+((zE b.l 64).get t))),(x.get 4),(x.get 5),(x.get 6)],rfl⟩):List Value)=w8C (rnd x (kA.get t) ((zE b.l 64).get t)) from (zm _ _ (by simp)).trans rfl] at hBw13
  refine zf (zp (zb (zd (za (zt (some 98) .i64 (IntKind.i64.wrap (((t:Nat):Int)+((1:Nat):Int))) (t+1) (zA (by omega) (by omega) (by omega)) ?_)))))
  refine zc 1 [(18,(vI (t+1)))] (zf (zF ?_))
  have hK5:=(((((((hA.ext hEw10)).ext hEw11)).ext hEw12)).chg hCw13 (fun hs=>by have h:_=_:=hs;omega))
  have hK6:=(((((((hB.ext hEw10)).ext hEw11)).ext hEw12)).chg hCw13 (fun hs=>by have h:_=_:=hs;omega))
  have hK7:=(((((((hZ4.ext hEw10)).ext hEw11)).ext hEw12)).chg hCw13 (fun hs=>by have h:_=_:=hs;omega))
  have hX2:Ext w w13:=(Ext.own (((hEl.trans hEw10).trans hEw11).trans hEw12) hCw13 (by omega))
  refine zR (t+1,rnd x (kA.get t) ((zE b.l 64).get t)) ?_ ?_
  ·exact ⟨by omega,by rw [zew,←hx],hK5,hK6,hBw13,hK7,hX2⟩
  ·first | omega |(dsimp only;omega)
 ·replace hc19:¬(t<64):=by have:=zae hc19;omega
  refine zf (zb (ze (zn (zW (zx (zx (zL (zb (ze ?_)))))))))
  refine ze (zd (zc 1 [(99,(vI 0))] (zf (zb (zy ?_)))))
  obtain rfl:t=64:=by omega
  refine zY (X:=Nat) (fun i=> [(99,(vI i))]) [13,100,101,102,103,104,105,106,107,108,109,110] (fun i w14=>i≤8∧Blk w14 w.heap.size (w8C (zcr h x i)) 168∧Blk w14 w6.heap.size (w8C x) 168∧Blk w14 w2.heap.size (w8C (WA.zero 8)) 168∧Ext w w14) (fun i=>8-i) 0 (by kernel_rfl) ⟨by omega,(zoO h x).symm▸hA,hD,hZ4,hEl⟩ ?_
  rintro i dw14 w14 ⟨hi,hA2,hD2,hZ42,hEm⟩
  have hzm:=hEm.size
  have hlthA2:=hA2.lt
  have hlthD2:=hD2.lt
  have hlthZ42:=hZ42.lt
  refine ze (zd (za (zK (some 100) (decide (((i:Nat):Int)<((8:Nat):Int))) (fun hc100=> ?_) (fun hc100=> ?_))))
  ·replace hc100:i<8:=by have:=zaf hc100;omega
   refine zf (zb (ze (zC (zu (zb (ze (zy (ze (zd ?_)))))))))
   refine zc 2 [(13,(vI i)),(101,(vI i))] (zf (zb (zT (Ext w14.drew) 9 [(103,8192,0),(104,5070602400912917605986812821508,1),(105,10141204801825835211973625643008,2),(106,8192,0),(107,40564819207303340847894502572096,8),(108,81129638414606681695789005144064,16),(109,182541686432865033815525261574144,36),(110,5070602400912917605986812821508,127),(0,973555660975280180349468061728768,255)] (fun hT243=> ?_))))
   have hEw15:Ext w14 w14.drew:=Ext.drew w14
   generalize w14.drew=w15 at hEw15⊢
   have hzw15:=hEw15.size
   refine zh hT243 [(0,102,(vI i))] 1 1 (zg hT243 1 3 (some 103) (vP w.heap.size (0+i*1)) (zi (Instr.indexAt 168 (vP w.heap.size 0) (vI i)) (fun w' hC=>zag (E:=53) (sz:=1) (m:=8) (by omega))) (zg hT243 2 7 (some 104) (vW (((zcr h x i).get i).toNat)) (zi (Instr.loadAt 53 (vP w.heap.size (0+i*1))) (fun w' hC=>zk (((hA2.ext hEw15).ext hC).cell (zaM i (by omega))))) (zh hT243 [(3,105,(vI i))] 1 15 (zg hT243 4 31 (some 106) (vP w6.heap.size (0+i*1)) (zi (Instr.indexAt 168 (vP w6.heap.size 0) (vI i)) (fun w' hC=>zag (E:=53) (sz:=1) (m:=8) (by omega))) (zg hT243 5 63 (some 107) (vW ((x.get i).toNat)) (zi (Instr.loadAt 53 (vP w6.heap.size (0+i*1))) (fun w' hC=>zk (((hD2.ext hEw15).ext hC).cell (zaM i (by omega))))) (zg hT243 6 127 (some 108) (vW ((((zcr h x i).get i)+(x.get i)).toNat)) (zaa .u32 _ (zbb ((zcr h x i).get i) (x.get i))) (zg hT243 7 255 (some 109) (vP w.heap.size (0+i*1)) (zi (Instr.indexAt 168 (vP w.heap.size 0) (vI i)) (fun w' hC=>zag (E:=53) (sz:=1) (m:=8) (by omega))) (zz 8 511 (zah 53 w.heap.size (0+i*1) 168 (vW ((((zcr h x i).get i)+(x.get i)).toNat)) (w8C (zcr h x i)) (hA2.ext hEw15) (by first | decide |(simp;done)|(simp;omega)) ?_)))))))))
   intro w16 hBw16 hCw16
   have hzw16:=hCw16.size
   rw [show ((w8C (zcr h x i)).set (0+i*1) (vW ((((zcr h x i).get i)+(x.get i)).toNat)):List Value)=w8C ((zcr h x i).set i (((zcr h x i).get i)+(x.get i))) from zsc i (((zcr h x i).get i)+(x.get i))] at hBw16
   refine ⟨.inl (by kernel_rfl), ?_⟩
   refine zJ (zp (zb (zd (za (zt (some 110) .i64 (IntKind.i64.wrap (((i:Nat):Int)+((1:Nat):Int))) (i+1) (zA (by omega) (by omega) (by omega)) ?_)))))
   refine zc 1 [(99,(vI (i+1)))] (zf (zF (zR (i+1) ?_ ?_)))
   ·exact ⟨by omega,znP (h:=h) (x:=x) (i:=i) (by omega)▸hBw16,(((hD2.ext hEw15)).chg hCw16 (fun hs=>by have h:_=_:=hs;omega)),(((hZ42.ext hEw15)).chg hCw16 (fun hs=>by have h:_=_:=hs;omega)),(Ext.own (hEm.trans hEw15) hCw16 (by omega))⟩
   ·first | omega |(dsimp only;omega)
  ·replace hc100:¬(i<8):=by have:=zae hc100;omega
   refine zf (zb (ze (zn (zW (zx (zx (zL (zb (ze ?_)))))))))
   refine zd (za (zj (some 111) (Instr.loadAt 168 (vP w.heap.size 0)) (vA (w8C (zcr h x i))) (zw (vs:=w8C (zcr h x i)) (hA2.all) (by rw [zbA];kernel_rfl)) ?_))
   refine za (zv 168 w2.heap.size 0 168 (vA (w8C (zcr h x i))) (w8C (WA.zero 8)) (w8C (zcr h x i)) hZ42 (by rw [zbA];kernel_rfl) (by first |(simp;done)|(simp;omega)) (zdo _) ?_)
   intro w17 hBw17 hCw17
   have hzw17:=hCw17.size
   rw [zm _ _ (by simp)] at hBw17
   refine zf (zb (zq (zaB (show zZ Tryz.prog 112 _ _ (.cell 4 168) (vA (w8C (zcr h x i))) from ⟨⟨w2.heap.size,0,none⟩,(by kernel_rfl),zN (T:=168) (vs:=w8C (zcr h x i)) (hBw17).all (by rw [zbA];kernel_rfl)⟩) ?_)))
   obtain rfl:i=8:=by omega
   exact ⟨by rw [hx];rfl,(Ext.own hEm hCw17 (by omega))⟩
end Go.Proofs.YtkmhgepdhilllaaGreatDoor
