/- Lemmas and walks: what each function does, by its own code. No condition beyond those of each statement. -/
import Derived.Test.YtkmhgepdhilllaaGreatDoorT2
import Derived.Test.YtkmhgepdhilllaaGreatDoorProg
set_option linter.all false
set_option linter.unusedVariables false
namespace Go.Proofs.YtkmhgepdhilllaaGreatDoor
open Go Go.RowKit Go.Cs
set_option maxRecDepth 100000
theorem zrh (v:Nat) (sz:Nat) (w:World) (hp0:sz≤8):
  Calls Tryz.prog 132 #[(vQ v),(vI sz)] w (Ret fun r w'=>∃a0,r=(.slice a0 sz sz)∧Bs w.heap.size w'.heap.size w' a0 sz sz (be v sz)∧Ext w w'):=by
 refine zC (n:=26) (σ:= [(0,(vQ v)),(1,(vI sz))]) Tryz.func132 rfl ?_
 refine ze (zd (zc 1 [(4,(.slice none 0 0))] (zf (zb (ze (zd (zc 1 [(7,(vI sz))] (za (zcy (some 8) 23 5 1 1 sz sz .i64 .i64 (vB 0) (by omega) (by omega) (by omega) ?_)))))))))
 rw [zd3 _ rfl]
 intro w1 hBw1 hEw1
 have hzw1:=hEw1.size;have hlw1:=hBw1.lt
 have hSw1:Bs w.heap.size (w.heap.size+1) w1 (pA w.heap.size 0) sz sz (List.replicate sz 0):=Bs.of_blk hBw1 (ze3 _) (by simp) (Nat.le_refl _) (by simp only [maxLen];omega) (Nat.le_refl _) (Nat.lt_succ_self _)
 refine zc 1 [(5,(.slice (pA w.heap.size 0) sz sz))] (zf (zb (ze (ze (zd (zc 2 [(10,(vI 0)),(9,(vI sz))] (zf (zb (zr ?_)))))))))
 refine zW (X:=Nat) (fun i=> [(10,(vI i))]) [6,11,12,13,14,15,16,17,18,19,20,21,22,23,24] (fun i w2=>i≤sz∧Blk w2 w.heap.size (u8s (zc0 sz (fun j=>decide (sz-1-j<i)) fun j=>UInt8.ofNat (v/256^(sz-1-j)))) 5∧Ext w w2) (fun i=>sz-i) 0 (by kernel_rfl) ⟨by omega,(by rw [zhk _ _ _ (by intro j hj;simp)];rw [←ze3];exact hBw1),hEw1⟩ ?_
 rintro i dw2 w2 ⟨hi,hBl,hEl⟩
 have hzl:=hEl.size;have hll:=hBl.lt
 refine ze (zd (za (zE (some 11) (decide (((i:Nat):Int)<((sz:Nat):Int))) (fun hc11=> ?_) (fun hc11=> ?_))))
 ·replace hc11:i<sz:=by have:=zac hc11;omega
  refine zf (zb (ze (zv (zo (zb (ze (zr (ze (zd ?_)))))))))
  refine zc 2 [(6,(vI i)),(12,(vI i))] (zf (zb (zd (zc 2 [(14,(vI sz)),(13,(.slice (pA w.heap.size 0) sz sz))] (za (zn (some 15) .i64 (IntKind.i64.wrap (((sz:Nat):Int)-((1:Nat):Int))) (sz-1) (zu) ?_))))))
  refine zc 1 [(16,(vI i))] (za (zn (some 17) .i64 (IntKind.i64.wrap (((sz-1:Nat):Int)-((i:Nat):Int))) (sz-1-i) (zu) ?_))
  refine zc 2 [(19,(vI i)),(18,(vQ v))] (za (zn (some 20) .i64 (IntKind.i64.wrap (((8:Nat):Int)*((i:Nat):Int))) (8*i) (zu) ?_))
  refine za (zaM (do eqGuard .shr 54 (.tmp 18) (.tmp 20) (.int .u64 ((v:Nat):Int)) (.int .i64 ((8*i:Nat):Int));binOp .shr 54 (.int .u64 ((v:Nat):Int)) (.int .i64 ((8*i:Nat):Int))) (vQ (v/2^(8*i))) (zjw (by show _≤64;omega)) ?_)
  refine za (zn (some 22) .u8 (IntKind.u8.wrap ((v/2^(8*i):Nat):Int)) ((v/2^(8*i))%2^8) (zci rfl rfl) ?_)
  refine za (zai w.heap.size 0 sz sz (sz-1-i) 1 ?_)
  refine za (zak 5 w.heap.size (0+(sz-1-i)*1) 5 (vB ((v/2^(8*i))%2^8)) (u8s (zc0 sz (fun j=>decide (sz-1-j<i)) fun j=>UInt8.ofNat (v/256^(sz-1-j)))) hBl (by simp;omega) ?_)
  intro w3 hBw3 hCw3
  have hzw3:=hCw3.size
  rw [show ((u8s (zc0 sz (fun j=>decide (sz-1-j<i)) fun j=>UInt8.ofNat (v/256^(sz-1-j)))).set (0+(sz-1-i)*1) (vB ((v/2^(8*i))%2^8)):List Value)=u8s (zc0 sz (fun j=>decide (sz-1-j<i+1)) fun j=>UInt8.ofNat (v/256^(sz-1-j))) from by have hx:=zii sz (fun j=>decide (sz-1-j<i)) (fun j=>decide (sz-1-j<i+1)) (fun j=>UInt8.ofNat (v/256^(sz-1-j))) (sz-1-i) (UInt8.ofNat (v/2^(8*i))) (by omega) (by first |(rw [zhv];congr 3;omega)|(rw [zkr,show sz-1-(sz-1-i)=i from by omega])) (by intro j hj;by_cases h1:sz-1-j<i+1<;>by_cases h2:sz-1-j<i<;>by_cases h3:j=sz-1-i<;>simp [h1,h2,h3]<;>omega);rw [UInt8.toNat_ofNat'] at hx;first |(simpa only [Nat.zero_add,Nat.mul_one] using hx)|(rw [show v/256^i%256%2^8=v/256^i%256 from by omega] at hx;simpa only [Nat.zero_add,Nat.mul_one] using hx)] at hBw3
  refine zf (zi (zb (zd (za (zn (some 24) .i64 (IntKind.i64.wrap (((i:Nat):Int)+((1:Nat):Int))) (i+1) (zu) ?_)))))
  refine zc 1 [(10,(vI (i+1)))] (zf (zz (zL (i+1) ?_ ?_)))
  ·exact ⟨by omega,hBw3,(Ext.own hEl hCw3 (by omega))⟩
  ·first | omega |(dsimp only;omega)
 ·replace hc11:¬(i<sz):=by have:=zad hc11;omega
  refine zf (zb (ze (zh (zP (zp (zp (zF (zb (ze ?_)))))))))
  refine zd (zc 2 [(4,(.slice (pA w.heap.size 0) sz sz)),(25,(.slice (pA w.heap.size 0) sz sz))] (zf (zb (zj (zm (.slice (pA w.heap.size 0) sz sz) (⟨_,rfl,Bs.of_blk hBl ?_ (by simp) (by omega) (by simp only [maxLen];omega) (by omega) (by omega),hEl⟩))))))
  rw [ziD _ _ _ (by intro j hj;simp;omega)];rfl
theorem zoo (v:Nat) (sz:Nat) (w:World) (hp0:sz≤8) (hp1:v<2^64):
  Calls Tryz.prog 126 #[(vQ v),(vI sz)] w (Ret fun r w'=>∃a0,r=(.slice (pA a0 0) sz sz)∧w.heap.size≤a0∧Blk w' a0 (u8s (be v sz)) 5∧sz=(be v sz).length∧sz≤1099511627776∧Ext w w'):=by
 refine zC (n:=24) (σ:= [(0,(vQ v)),(1,(vI sz))]) Tryz.func126 rfl ?_
 refine ze (zd (zc 1 [(4,(.slice none 0 0))] (zf (zb (ze (zd (zc 1 [(7,(vI sz))] (za (zcy (some 8) 23 5 1 1 sz sz .i64 .i64 (vB 0) (by omega) (by omega) (by omega) ?_)))))))))
 rw [zd3 _ rfl]
 intro w1 hBw1 hEw1
 have hzw1:=hEw1.size;have hlw1:=hBw1.lt
 have hSw1:Bs w.heap.size (w.heap.size+1) w1 (pA w.heap.size 0) sz sz (List.replicate sz 0):=Bs.of_blk hBw1 (ze3 _) (by simp) (Nat.le_refl _) (by simp only [maxLen];omega) (Nat.le_refl _) (Nat.lt_succ_self _)
 refine zc 1 [(5,(.slice (pA w.heap.size 0) sz sz))] (zf (zb (ze (ze (zd (zc 1 [(9,(vI sz))] (za (zhU (some 10) .i64 (IntKind.i64.wrap (((sz:Nat):Int)-((1:Nat):Int))) ((sz:Int)-1) (zu rfl) ?_))))))))
 refine zc 1 [(6,(.int .i64 ((sz:Int)-1)))] (zf (zb (zr (zW (X:=Nat) (fun i=> [(0,(vQ (v/256^i))),(6,(.int .i64 ((sz:Int)-1-(i:Int))))]) [11,12,13,14,15,16,17,18,19,20,21,22] (fun i w2=>i≤sz∧Blk w2 w.heap.size (u8s (zc0 sz (fun j=>decide (sz-1-j<i)) fun j=>UInt8.ofNat (v/256^(sz-1-j)))) 5∧Ext w w2) (fun i=>sz-i) 0 (by rw [Nat.pow_zero,Nat.div_one,show (sz:Int)-1-((0:Nat):Int)=(sz:Int)-1 from by omega];kernel_rfl) ⟨by omega,(by rw [zhk _ _ _ (by intro j hj;simp)];rw [←ze3];exact hBw1),hEw1⟩ ?_))))
 rintro i dw2 w2 ⟨hi,hBl,hEl⟩
 have hzl:=hEl.size;have hll:=hBl.lt
 refine ze (ze (zd (zc 1 [(11,(.int .i64 ((sz:Int)-1-(i:Int))))] (za (zE (some 12) (decide ((sz:Int)-1-(i:Int)≥((0:Nat):Int))) (fun hc=> ?_) (fun hc=> ?_))))))
 ·replace hc:i<sz:=by have:=zac hc;omega
  have hidx:(sz:Int)-1-(i:Int)=((sz-1-i:Nat):Int):=by omega
  refine zf (zb (zv (zo (zb (ze (zr (ze (zd (zc 3 [(17,(vQ (v/256^i))),(16,(.int .i64 ((sz:Int)-1-(i:Int)))),(15,(.slice (pA w.heap.size 0) sz sz))] ?_)))))))))
  refine za (zn (some 18) .u64 (((v/256^i:Nat):Int).tmod ((256:Nat):Int)) ((v/256^i)%256) (zcZ _ _) ?_)
  refine za (zn (some 19) .u8 (IntKind.u8.wrap (((v/256^i)%256:Nat):Int)) (((v/256^i)%256)%2^8) (zci rfl rfl) ?_)
  refine za (zaM (Instr.indexAt 23 (.slice (pA w.heap.size 0) sz sz) (.int .i64 ((sz:Int)-1-(i:Int)))) (vP w.heap.size (0+(sz-1-i)*1)) (by rw [hidx];exact zkY (E:=5) (sz:=1)) ?_)
  refine za (zak 5 w.heap.size (0+(sz-1-i)*1) 5 (vB (((v/256^i)%256)%2^8)) (u8s (zc0 sz (fun j=>decide (sz-1-j<i)) fun j=>UInt8.ofNat (v/256^(sz-1-j)))) hBl (by simp;omega) ?_)
  intro w3 hBw3 hCw3
  have hzw3:=hCw3.size
  rw [show ((u8s (zc0 sz (fun j=>decide (sz-1-j<i)) fun j=>UInt8.ofNat (v/256^(sz-1-j)))).set (0+(sz-1-i)*1) (vB (((v/256^i)%256)%2^8)):List Value)=u8s (zc0 sz (fun j=>decide (sz-1-j<i+1)) fun j=>UInt8.ofNat (v/256^(sz-1-j))) from by have hx:=zii sz (fun j=>decide (sz-1-j<i)) (fun j=>decide (sz-1-j<i+1)) (fun j=>UInt8.ofNat (v/256^(sz-1-j))) (sz-1-i) (UInt8.ofNat (v/256^i%256)) (by omega) (by first |(rw [zhv];congr 3;omega)|(rw [zkr,show sz-1-(sz-1-i)=i from by omega])) (by intro j hj;by_cases h1:sz-1-j<i+1<;>by_cases h2:sz-1-j<i<;>by_cases h3:j=sz-1-i<;>simp [h1,h2,h3]<;>omega);rw [UInt8.toNat_ofNat'] at hx;first |(simpa only [Nat.zero_add,Nat.mul_one] using hx)|(rw [show v/256^i%256%2^8=v/256^i%256 from by omega] at hx;simpa only [Nat.zero_add,Nat.mul_one] using hx)] at hBw3
  refine zf (zb (zd (zc 1 [(21,(vQ (v/256^i)))] (za (zn (some 22) .u64 (IntKind.u64.wrap ((((v/256^i:Nat):Int)).tdiv ((256:Nat):Int))) (v/256^(i+1)) (zbA rfl (by rw [zed,Nat.div_div_eq_div_mul,Nat.pow_succ]) (by show _<2^64;exact Nat.lt_of_le_of_lt (Nat.div_le_self _ _) hp1)) ?_)))))
  refine zc 1 [(0,(vQ (v/256^(i+1))))] (zf (zi (zb (zd (zc 1 [(13,(.int .i64 ((sz:Int)-1-(i:Int))))] (za (zhU (some 14) .i64 (IntKind.i64.wrap ((sz:Int)-1-(i:Int)-((1:Nat):Int))) ((sz:Int)-1-((i+1:Nat):Int)) (zu) ?_)))))))
  refine zc 1 [(6,(.int .i64 ((sz:Int)-1-((i+1:Nat):Int))))] (zf (zz (zL (i+1) ?_ ?_)))
  ·exact ⟨by omega,hBw3,(Ext.own hEl hCw3 (by omega))⟩
  ·first | omega |(dsimp only;omega)
 ·replace hc:¬i<sz:=by have:=zad hc;omega
  refine zf (zb (zh (zP (zp (zp (zF (zb (ze (zd ?_)))))))))
  refine zc 2 [(4,(.slice (pA w.heap.size 0) sz sz)),(23,(.slice (pA w.heap.size 0) sz sz))] (zf (zb (zj (zm (.slice (pA w.heap.size 0) sz sz) ?_))))
  have hBf:=hBl
  rw [ziD _ _ _ (by intro j hj;simp;omega)] at hBf
  exact ⟨_,rfl,Nat.le_refl _,hBf,by simp,by omega,hEl⟩
theorem zmN (v:Nat) (w:World):
  Calls Tryz.prog 136 #[(vQ v)] w (Ret fun r w'=>∃a0,r=(.slice a0 8 8)∧Bs w.heap.size w'.heap.size w' a0 8 8 (be v 8)∧Ext w w'):=by
 refine zC (n:=5) (σ:= [(0,(vQ v))]) Tryz.func136 rfl ?_
 refine ze (zd (zc 1 [(2,(.slice none 0 0))] (zf (zb (ze (zd (zc 1 [(3,(vQ v))] (za (zq (zrh v 8 _ (by omega)) ?_)))))))))
 rintro _ w1 ⟨a1,rfl,hFz1_0,hEw1⟩
 have hzw1:=hEw1.size
 exact zc 1 [(2,(.slice a1 8 8))] (zf (zb (zj (zm (.slice a1 8 8) (⟨_,rfl,hFz1_0,hEw1⟩)))))
theorem zfN (v:Nat) (w:World) (hp0:v<2^32):
  Calls Tryz.prog 111 #[(vW v)] w (Ret fun r w'=>∃a0,r=(.slice a0 4 4)∧Bs w.heap.size w'.heap.size w' a0 4 4 (be v 4)∧Ext w w'):=by
 refine zC (n:=6) (σ:= [(0,(vW v))]) Tryz.func111 rfl ?_
 refine ze (zd (zc 1 [(2,(.slice none 0 0))] (zf (zb (ze (zd (zc 1 [(3,(vW v))] (za (zn (some 4) .u64 (IntKind.u64.wrap ((v:Nat):Int)) v (zbA rfl rfl (by show _<2^64;omega)) ?_)))))))))
 refine za (zq (zrh v 4 _ (by omega)) ?_)
 rintro _ w1 ⟨a1,rfl,hFz1_0,hEw1⟩
 have hzw1:=hEw1.size
 exact zc 1 [(2,(.slice a1 4 4))] (zf (zb (zj (zm (.slice a1 4 4) (⟨_,rfl,hFz1_0,hEw1⟩)))))
theorem zlL (v:Nat) (w:World) (hp0:v<2^64):
  Calls Tryz.prog 99 #[(vQ v)] w (Ret fun r w'=>∃a0,r=(.slice (pA a0 0) 8 8)∧w.heap.size≤a0∧Blk w' a0 (u8s (be v 8)) 5∧8=(be v 8).length∧8≤1099511627776∧Ext w w'):=by
 refine zC (n:=5) (σ:= [(0,(vQ v))]) Tryz.func99 rfl ?_
 refine ze (zd (zc 1 [(2,(.slice none 0 0))] (zf (zb (ze (zd (zc 1 [(3,(vQ v))] (za (zq (zoo v 8 _ (by omega) (by omega)) ?_)))))))))
 rintro _ w1 ⟨a1,rfl,hFz1_0,hFz1_1,hFz1_2,hFz1_3,hEw1⟩
 have hzw1:=hEw1.size
 have hla1:=hFz1_1.lt;have hna1:=hFz1_3
 have hSa1:Bs a1 (a1+1) w1 (pA a1 0) 8 8 (be v 8):=Bs.of_blk hFz1_1 rfl hFz1_2 (Nat.le_refl _) (zcw hna1) (Nat.le_refl _) (Nat.lt_succ_self _)
 exact zc 1 [(2,(.slice (pA a1 0) 8 8))] (zf (zb (zj (zm (.slice (pA a1 0) 8 8) (⟨_,rfl,by omega,hFz1_1,by simp,by omega,hEw1⟩)))))
theorem zkU (v:Nat) (w:World) (hp0:v<2^32):
  Calls Tryz.prog 102 #[(vW v)] w (Ret fun r w'=>∃a0,r=(.slice (pA a0 0) 4 4)∧w.heap.size≤a0∧Blk w' a0 (u8s (be v 4)) 5∧4=(be v 4).length∧4≤1099511627776∧Ext w w'):=by
 refine zC (n:=6) (σ:= [(0,(vW v))]) Tryz.func102 rfl ?_
 refine ze (zd (zc 1 [(2,(.slice none 0 0))] (zf (zb (ze (zd (zc 1 [(3,(vW v))] (za (zn (some 4) .u64 (IntKind.u64.wrap ((v:Nat):Int)) v (zbA rfl rfl (by show _<2^64;omega)) ?_)))))))))
 refine za (zq (zoo v 4 _ (by omega) (by omega)) ?_)
 rintro _ w1 ⟨a1,rfl,hFz1_0,hFz1_1,hFz1_2,hFz1_3,hEw1⟩
 have hzw1:=hEw1.size
 have hla1:=hFz1_1.lt;have hna1:=hFz1_3
 have hSa1:Bs a1 (a1+1) w1 (pA a1 0) 4 4 (be v 4):=Bs.of_blk hFz1_1 rfl hFz1_2 (Nat.le_refl _) (zcw hna1) (Nat.le_refl _) (Nat.lt_succ_self _)
 exact zc 1 [(2,(.slice (pA a1 0) 4 4))] (zf (zb (zj (zm (.slice (pA a1 0) 4 4) (⟨_,rfl,by omega,hFz1_1,by simp,by omega,hEw1⟩)))))
theorem zu6 {lo_l hi_l:Nat} {a_l:Option Addr} {n_l c_l:Nat} {l:List UInt8} (sz:Nat) (w:World) (h_l:Bs lo_l hi_l w a_l n_l c_l l) (hp0:sz≤8):
  Calls Tryz.prog 151 #[(.slice a_l n_l c_l),(vI sz)] w (Ret fun r w'=>r=(.tuple #[(vQ (zaY l sz)),(vI (zcK l sz))])∧w=w'):=by
 refine zC (n:=32) (σ:= [(0,(.slice a_l n_l c_l)),(1,(vI sz))]) Tryz.func151 rfl ?_
 replace h_l:=h_l.now;have hle_l:=h_l.le
 refine ze (zd (zc 2 [(5,(vI 0)),(4,(vQ 0))] (zf (zb (ze (zr (ze (zd (zc 3 [(12,(vI sz)),(11,(vI n_l)),(10,(.slice a_l n_l c_l))] ?_)))))))))
 refine za (zE (some 13) (decide (((n_l:Nat):Int)<((sz:Nat):Int))) (fun hc13=> ?_) (fun hc13=> ?_))
 ·replace hc13:n_l<sz:=by have:=zac hc13;omega
  refine zc 1 [(9,vT)] (zf (zb (zv (ze (zd (zc 2 [(5,(vI 6)),(4,(vQ 0))] (zf (zb (zj ?_)))))))))
  exact zA (zw (zm (.tuple #[(vQ 0),(vI 6)]) (⟨by rw [zhF (by have:=h_l.len_eq;omega),ziX (by have:=h_l.len_eq;omega)],rfl⟩)))
 ·replace hc13:¬(n_l<sz):=by have:=zad hc13;omega
  refine zc 1 [(9,vF)] (zf (zb (zh (ze (zd (zc 3 [(17,(vI sz)),(16,(vI n_l)),(15,(.slice a_l n_l c_l))] (za (zE (some 18) (decide (((n_l:Nat):Int)>((sz:Nat):Int))) (fun hc18=> ?_) (fun hc18=> ?_)))))))))
  ·replace hc18:n_l>sz:=by have:=zac hc18;omega
   refine zc 1 [(14,vT)] (zf (zb (zv (ze (zd (zc 2 [(5,(vI 5)),(4,(vQ 0))] (zf (zb (zj ?_)))))))))
   exact zA (zw (zm (.tuple #[(vQ 0),(vI 5)]) (⟨by rw [zhF (by have:=h_l.len_eq;omega),zjZ (by have:=h_l.len_eq;omega)],rfl⟩)))
  ·replace hc18:¬(n_l>sz):=by have:=zad hc18;omega
   refine zc 1 [(14,vF)] (zf (zb (zh (zo (zi (zb (ze (zd (zc 1 [(6,(vQ 0))] ?_)))))))))
   refine zf (zb (ze (ze (zd (zc 3 [(21,(vI 0)),(20,(vI n_l)),(19,(.slice a_l n_l c_l))] (zf (zb (zr (zW (X:=Nat) (fun i=> [(6,(vQ (zbJ (l.take i)))),(21,(vI i))]) [8,22,23,24,25,26,27,28,29,30] (fun i w1=>w=w1∧i≤sz) (fun i=>sz-i) 0 (by rw [List.take_zero];kernel_rfl) ⟨rfl,by omega⟩ ?_)))))))))
   rintro i dw1 w1 ⟨rfl,hi⟩
   have hlen:=h_l.len_eq
   refine ze (zd (za (zE (some 22) (decide (((i:Nat):Int)<((n_l:Nat):Int))) (fun hc22=> ?_) (fun hc22=> ?_))))
   ·replace hc22:i<n_l:=by have:=zac hc22;omega
    have hb1:=zeN l i
    have hb2:zbJ (l.take i)*256+255<2^64:=zhp (by omega)
    refine zf (zb (ze (zv (zo (zb (ze (zr (ze (zd ?_)))))))))
    obtain ⟨b1,o1,rfl⟩:=h_l.addr (by omega)
    refine za (zai b1 o1 n_l c_l i 1 ?_)
    refine za (zl b1 (o1+i*1) (h_l.cell1 (by omega)) ?_)
    refine zc 1 [(8,(vB (byt l i)))] (zf (zb (zd (zc 1 [(25,(vQ (zbJ (l.take i))))] (za (zn (some 26) .u64 (IntKind.u64.wrap (((zbJ (l.take i):Nat):Int)*2^8)) (zbJ (l.take i)*256) ((ztZ rfl).trans (by rw [Nat.mod_eq_of_lt (show _<2^IntKind.u64.bits from by show _<2^64;omega)])) ?_))))))
    refine zc 1 [(27,(vB (byt l i)))] (za (zn (some 28) .u64 (IntKind.u64.wrap ((byt l i:Nat):Int)) (byt l i) (zbA rfl rfl (by show _<2^64;omega)) ?_))
    refine za (zn (some 29) .u64 ((IntKind.u64.wrap ((BitVec.ofInt IntKind.u64.bits ((zbJ (l.take i)*256:Nat):Int)||| BitVec.ofInt IntKind.u64.bits ((byt l i:Nat):Int)).toNat:Int))) (zbJ (l.take (i+1))) ((orU .u64 rfl (by show _<2^64;omega) (by show _<2^64;omega)).trans (by rw [zrM _ _ hb1,zhr (by omega)])) ?_)
    refine zc 1 [(6,(vQ (zbJ (l.take (i+1)))))] (zf (zi (zb (zd (za (zn (some 30) .i64 (IntKind.i64.wrap (((i:Nat):Int)+((1:Nat):Int))) (i+1) (zu) ?_))))))
    refine zc 1 [(21,(vI (i+1)))] (zf (zz (zL (i+1) ?_ ?_)))
    ·exact ⟨rfl,by omega⟩
    ·first | omega |(dsimp only;omega)
   ·replace hc22:¬(i<n_l):=by have:=zad hc22;omega
    refine zf (zb (ze (zh (zP (zp (zp (zF (zb (ze ?_)))))))))
    exact zd (zc 3 [(5,(vI 0)),(4,(vQ (zbJ (l.take i)))),(31,(vQ (zbJ (l.take i))))] (zf (zb (zj (zm (.tuple #[(vQ (zbJ (l.take i))),(vI 0)]) (⟨by rw [zgB (by have:=h_l.len_eq;omega),zhS (by have:=h_l.len_eq;omega),List.take_of_length_le (by omega)],rfl⟩))))))
theorem zut {lo_l hi_l:Nat} {a_l:Option Addr} {n_l c_l:Nat} {l:List UInt8} (sz:Nat) (w:World) (h_l:Bs lo_l hi_l w a_l n_l c_l l) (hp0:sz≤8):
  Calls Tryz.prog 127 #[(.slice a_l n_l c_l),(vI sz)] w (Ret fun r w'=>r=(.tuple #[(vQ (zaY l sz)),(vI (zcK l sz))])∧w=w'):=by
 refine zC (n:=30) (σ:= [(0,(.slice a_l n_l c_l)),(1,(vI sz))]) Tryz.func127 rfl ?_
 replace h_l:=h_l.now;have hle_l:=h_l.le
 refine ze (zd (zc 2 [(5,(vI 0)),(4,(vQ 0))] (zf (zb (ze (ze (zd (zc 3 [(10,(vI sz)),(9,(vI n_l)),(8,(.slice a_l n_l c_l))] (za (zE (some 11) (decide (((n_l:Nat):Int)<((sz:Nat):Int))) (fun hc11=> ?_) (fun hc11=> ?_)))))))))))
 ·replace hc11:n_l<sz:=by have:=zac hc11;omega
  refine zf (zb (zv (ze (zd (zc 2 [(5,(vI 6)),(4,(vQ 0))] (zf (zb (zj (zw ?_)))))))))
  exact zm (.tuple #[(vQ 0),(vI 6)]) (⟨by rw [zhF (by have:=h_l.len_eq;omega),ziX (by have:=h_l.len_eq;omega)],rfl⟩)
 ·replace hc11:¬(n_l<sz):=by have:=zad hc11;omega
  refine zf (zb (zh (zo (zb (ze (ze (zd (zc 3 [(14,(vI sz)),(13,(vI n_l)),(12,(.slice a_l n_l c_l))] (za (zE (some 15) (decide (((n_l:Nat):Int)>((sz:Nat):Int))) (fun hc15=> ?_) (fun hc15=> ?_)))))))))))
  ·replace hc15:n_l>sz:=by have:=zac hc15;omega
   refine zf (zb (zv (ze (zd (zc 2 [(5,(vI 5)),(4,(vQ 0))] (zf (zb (zj (zw ?_)))))))))
   exact zm (.tuple #[(vQ 0),(vI 5)]) (⟨by rw [zhF (by have:=h_l.len_eq;omega),zjZ (by have:=h_l.len_eq;omega)],rfl⟩)
  ·replace hc15:¬(n_l>sz):=by have:=zad hc15;omega
   refine zf (zb (zh (zo (zb (ze (zd (zc 1 [(6,(vQ 0))] (zf (zb ?_)))))))))
   refine ze (ze (zd (zc 1 [(7,(vI 0))] (zf (zb (zr (zW (X:=Nat) (fun i=> [(6,(vQ (zbJ (l.take i)))),(7,(vI i))]) [16,17,18,19,20,21,22,23,24,25,26,27,28] (fun i w1=>w=w1∧i≤sz) (fun i=>sz-i) 0 (by rw [List.take_zero];kernel_rfl) ⟨rfl,by omega⟩ ?_)))))))
   rintro i dw1 w1 ⟨rfl,hi⟩
   have hlen:=h_l.len_eq
   refine ze (ze (zd (zc 2 [(17,(vI sz)),(16,(vI i))] (za (zE (some 18) (decide (((i:Nat):Int)<((sz:Nat):Int))) (fun hc18=> ?_) (fun hc18=> ?_))))))
   ·replace hc18:i<sz:=by have:=zac hc18;omega
    have hb1:=zeN l i
    have hb2:zbJ (l.take i)*256+255<2^64:=zhp (by omega)
    refine zf (zb (zv (zo (zb (ze (zr (zd (zc 1 [(21,(vQ (zbJ (l.take i))))] (za (zn (some 22) .u64 (IntKind.u64.wrap (((zbJ (l.take i):Nat):Int)*((256:Nat):Int))) (zbJ (l.take i)*256) (zbA rfl (by simp) (by show _<2^64;omega)) ?_))))))))))
    refine zc 2 [(24,(vI i)),(23,(.slice a_l n_l c_l))] ?_
    obtain ⟨b1,o1,rfl⟩:=h_l.addr (by omega)
    refine za (zai b1 o1 n_l c_l i 1 ?_)
    refine za (zl b1 (o1+i*1) (h_l.cell1 (by omega)) ?_)
    refine za (zn (some 27) .u64 (IntKind.u64.wrap ((byt l i:Nat):Int)) (byt l i) (zbA rfl rfl (by show _<2^64;omega)) ?_)
    refine za (zn (some 28) .u64 (IntKind.u64.wrap (((zbJ (l.take i)*256:Nat):Int)+((byt l i:Nat):Int))) (zbJ (l.take (i+1))) (zbA rfl (by rw [zhr (by omega)];omega) (by rw [zhr (by omega)];show _<2^64;omega)) ?_)
    refine zc 1 [(6,(vQ (zbJ (l.take (i+1)))))] (zf (zi (zb (zd (zc 1 [(19,(vI i))] (za (zn (some 20) .i64 (IntKind.i64.wrap (((i:Nat):Int)+((1:Nat):Int))) (i+1) (zu) ?_)))))))
    refine zc 1 [(7,(vI (i+1)))] (zf (zz (zL (i+1) ?_ ?_)))
    ·exact ⟨rfl,by omega⟩
    ·first | omega |(dsimp only;omega)
   ·replace hc18:¬(i<sz):=by have:=zad hc18;omega
    refine zf (zb (zh (zP (zp (zp (zF (zb (ze (zd ?_)))))))))
    exact zc 3 [(5,(vI 0)),(4,(vQ (zbJ (l.take i)))),(29,(vQ (zbJ (l.take i))))] (zf (zb (zj (zm (.tuple #[(vQ (zbJ (l.take i))),(vI 0)]) (⟨by rw [zgB (by have:=h_l.len_eq;omega),zhS (by have:=h_l.len_eq;omega),List.take_of_length_le (by omega)],rfl⟩)))))
theorem zsf {lo_l hi_l:Nat} {a_l:Option Addr} {n_l c_l:Nat} {l:List UInt8} (w:World) (h_l:Bs lo_l hi_l w a_l n_l c_l l):
  Calls Tryz.prog 149 #[(.slice a_l n_l c_l)] w (Ret fun r w'=>r=(.tuple #[(vW (zaY l 4)),(vI (zcK l 4))])∧w=w'):=by
 refine zC (n:=14) (σ:= [(0,(.slice a_l n_l c_l))]) Tryz.func149 rfl ?_
 replace h_l:=h_l.now;have hle_l:=h_l.le
 refine ze (zd (zc 2 [(3,(vI 0)),(2,(vW 0))] (zf (zb (ze (zd (zc 1 [(7,(.slice a_l n_l c_l))] (za (zq (zu6 4 _ h_l (by first | omega | decide)) ?_)))))))))
 rintro _ _ ⟨rfl,rfl⟩
 refine zc 5 [(5,(vI (zcK l 4))),(4,(vQ (zaY l 4))),(10,(vI (zcK l 4))),(9,(vQ (zaY l 4))),(6,(.tuple #[(vQ (zaY l 4)),(vI (zcK l 4))]))] (zf (zb (ze (zd (zc 1 [(11,(vQ (zaY l 4)))] (za (zn (some 12) .u32 (IntKind.u32.wrap ((zaY l 4:Nat):Int)) (zaY l 4) (zbA rfl rfl (zdM l 4)) ?_)))))))
 exact zc 3 [(3,(vI (zcK l 4))),(2,(vW (zaY l 4))),(13,(vI (zcK l 4)))] (zf (zb (zj (zm (.tuple #[(vW (zaY l 4)),(vI (zcK l 4))]) (⟨rfl,rfl⟩)))))
end Go.Proofs.YtkmhgepdhilllaaGreatDoor
namespace Go.Proofs.YtkmhgepdhilllaaGreatDoor
open Go Go.RowKit Go.Cs
set_option maxRecDepth 100000
theorem zwN (v:Nat) (k:Int) (w:World) (hp0:v<2^32):
  Calls Tryz.prog 152 #[(vW v),(.int .i64 k)] w (Ret fun r w'=>r=(vW (zfm v (k%32).toNat))∧w=w'):=by
 refine zC (n:=17) (σ:= [(0,(vW v)),(1,(.int .i64 k))]) Tryz.func152 rfl ?_
 refine ze (zd (zc 1 [(4,(vW 0))] (zf (zb (ze (zd (zc 1 [(6,(.int .i64 k))] (za (zn (some 7) .u64 (IntKind.u64.wrap k) ((k%18446744073709551616).toNat) (zlz k) ?_)))))))))
 refine za (zn (some 8) .u64 ((IntKind.u64.wrap ((BitVec.ofInt IntKind.u64.bits (((k%18446744073709551616).toNat:Nat):Int)&&&BitVec.ofInt IntKind.u64.bits ((31:Nat):Int)).toNat:Int))) ((k%32).toNat) ((zvU .u64 rfl (by show _<2^64;omega) (by show _<2^64;omega)).trans (by rw [zvd])) ?_)
 refine zc 1 [(5,(vQ ((k%32).toNat)))] (zf (zb (ze (zd (zc 2 [(10,(vQ ((k%32).toNat))),(9,(vW v))] (za (zaM (do eqGuard .shl 53 (.tmp 9) (.tmp 10) (.int .u32 ((v:Nat):Int)) (.int .u64 (((k%32).toNat:Nat):Int));binOp .shl 53 (.int .u32 ((v:Nat):Int)) (.int .u64 (((k%32).toNat:Nat):Int))) (vW (v*2^((k%32).toNat)%2^32)) (zm2 rfl (by show _≤32;omega)) ?_)))))))
 refine zc 2 [(13,(vQ ((k%32).toNat))),(12,(vW v))] (za (zn (some 14) .u64 (IntKind.u64.wrap (((32:Nat):Int)-(((k%32).toNat:Nat):Int))) (32-(k%32).toNat) (zbA rfl (by omega) (by show _<2^64;omega)) ?_))
 refine za (zaM (do eqGuard .shr 53 (.tmp 12) (.tmp 14) (.int .u32 ((v:Nat):Int)) (.int .u64 ((32-(k%32).toNat:Nat):Int));binOp .shr 53 (.int .u32 ((v:Nat):Int)) (.int .u64 ((32-(k%32).toNat:Nat):Int))) (vW (v/2^(32-(k%32).toNat))) (zjw (by show _≤32;omega)) ?_)
 refine za (zn (some 16) .u32 ((IntKind.u32.wrap ((BitVec.ofInt IntKind.u32.bits ((v*2^((k%32).toNat)%2^32:Nat):Int)||| BitVec.ofInt IntKind.u32.bits ((v/2^(32-(k%32).toNat):Nat):Int)).toNat:Int))) (zfm v (k%32).toNat) (orU .u32 rfl (Nat.mod_lt _ (by decide)) (by show _<2^32;exact Nat.lt_of_le_of_lt (Nat.div_le_self _ _) hp0)) ?_)
 exact zc 1 [(4,(vW (zfm v (k%32).toNat)))] (zf (zb (zj (zm (vW (zfm v (k%32).toNat)) (⟨rfl,rfl⟩)))))
theorem zu3 (v:Nat) (n:Int) (w:World) (hp0:v<2^32):
  Calls Tryz.prog 150 #[(vW v),(.int .i64 n)] w (Ret fun r w'=>r=(vW (rot v n))∧w=w'):=by
 refine zC (n:=9) (σ:= [(0,(vW v)),(1,(.int .i64 n))]) Tryz.func150 rfl ?_
 refine ze (zd (zc 1 [(4,(vW 0))] (zf (zb (ze (zd (zc 2 [(6,(.int .i64 n)),(5,(vW v))] (za (zhU (some 7) .i64 (n.tmod ((32:Nat):Int)) (n.tmod 32) (rfl) ?_)))))))))
 refine za (zq (zwN v (n.tmod 32) _ (by omega)) ?_)
 rintro _ _ ⟨rfl,rfl⟩
 refine zc 1 [(4,(vW (zfm v ((n.tmod 32)%32).toNat)))] (zf (zb (zj (zm (vW (zfm v ((n.tmod 32)%32).toNat)) ?_))))
 have h32:=(zuj n).2.2
 rw [h32]
 exact ⟨rfl,rfl⟩
end Go.Proofs.YtkmhgepdhilllaaGreatDoor
namespace Go.Proofs.YtkmhgepdhilllaaGreatDoor
open Go Go.RowKit Go.Cs
set_option maxRecDepth 100000
theorem ziG {lo_ls hi_ls:Nat} {a_ls:Option Addr} {n_ls c_ls:Nat} {v_ls:List Value} {ls:List (List UInt8)} (w:World) (h_ls:Ps lo_ls hi_ls w a_ls n_ls c_ls v_ls ls) (hp0:zV ls≤1099511627776):
  Calls Tryz.prog 133 #[(.slice a_ls n_ls c_ls)] w (Ret fun r w'=>∃a0,r=(.slice (pA a0 0) (zV ls) (zV ls))∧w.heap.size≤a0∧Blk w' a0 (u8s ls.flatten) 5∧zV ls=(ls.flatten).length∧zV ls≤1099511627776∧Ext w w'):=by
 refine zC (n:=38) (σ:= [(0,(.slice a_ls n_ls c_ls))]) Tryz.func133 rfl ?_
 replace h_ls:=h_ls.now;have hle_ls:=h_ls.le
 refine ze (zd (zc 1 [(2,(.slice none 0 0))] (zf (zb (ze (zd (zc 1 [(3,(vI 0))] (zf (zb ?_)))))))))
 refine ze (ze (zd (zc 3 [(12,(vI 0)),(11,(vI n_ls)),(10,(.slice a_ls n_ls c_ls))] (zf (zb (zr (zW (X:=Nat) (fun i=> [(3,(vI (zV (ls.take i)))),(12,(vI i))]) [5,13,14,15,16,17,18,19,20] (fun i w1=>w=w1∧i≤n_ls) (fun i=>n_ls-i) 0 (by rw [List.take_zero];kernel_rfl) ⟨rfl,by omega⟩ ?_)))))))
 rintro i dw1 w1 ⟨rfl,hi⟩
 have hlen:=h_ls.len_eq
 have hsl:=zeF ls i
 have hsl1:=zeF ls (i+1)
 refine ze (zd (za (zE (some 13) (decide (((i:Nat):Int)<((n_ls:Nat):Int))) (fun hc13=> ?_) (fun hc13=> ?_))))
 ·replace hc13:i<n_ls:=by have:=zac hc13;omega
  have hst:=zff (ls:=ls) (i:=i) (by omega)
  refine zf (zb (ze (zv (zo (zb (ze (zr (ze (zd ?_)))))))))
  obtain ⟨b1,o1,rfl⟩:=h_ls.addr (by omega)
  refine za (zai b1 o1 n_ls c_ls i 1 ?_)
  obtain ⟨a1,n1,cp1,hP1,hS1⟩:=(h_ls).cell (i:=i) (by omega)
  have hlehS1:=hS1.le;have hlnhS1:=hS1.len_eq
  refine za (zl b1 (o1+i*1) hP1 ?_)
  refine zc 1 [(5,(.slice a1 n1 cp1))] (zf (zb (zd (zc 3 [(18,(vI n1)),(17,(.slice a1 n1 cp1)),(16,(vI (zV (ls.take i))))] (za (zn (some 19) .i64 (IntKind.i64.wrap (((zV (ls.take i):Nat):Int)+((n1:Nat):Int))) (zV (ls.take (i+1))) (zu) ?_))))))
  refine zc 1 [(3,(vI (zV (ls.take (i+1)))))] (zf (zi (zb (zd (za (zn (some 20) .i64 (IntKind.i64.wrap (((i:Nat):Int)+((1:Nat):Int))) (i+1) (zu) ?_))))))
  refine zc 1 [(12,(vI (i+1)))] (zf (zz (zL (i+1) ?_ ?_)))
  ·exact ⟨rfl,by omega⟩
  ·first | omega |(dsimp only;omega)
 ·replace hc13:¬(i<n_ls):=by have:=zad hc13;omega
  have hfin1:ls.take i=ls:=List.take_of_length_le (by omega)
  rw [hfin1]
  refine zf (zb (ze (zh (zP (zp (zp (zF (zb (ze ?_)))))))))
  refine zd (zc 1 [(21,(vI (zV (ls))))] (za (zcy (some 22) 23 5 1 1 (zV (ls)) (zV (ls)) .i64 .i64 (vB 0) (by omega) (by omega) (by omega) ?_)))
  rw [zd3 _ rfl]
  intro w2 hBw2 hEw2
  have hzw2:=hEw2.size;have hlw2:=hBw2.lt
  have hSw2:Bs w.heap.size (w.heap.size+1) w2 (pA w.heap.size 0) (zV (ls)) (zV (ls)) (List.replicate (zV (ls)) 0):=Bs.of_blk hBw2 (ze3 _) (by simp) (Nat.le_refl _) (by simp only [maxLen];omega) (Nat.le_refl _) (Nat.lt_succ_self _)
  refine zc 1 [(6,(.slice (pA w.heap.size 0) (zV (ls)) (zV (ls))))] (zf (zb (ze (zd (zc 1 [(7,(vI 0))] (zf (zb (ze (ze ?_)))))))))
  refine zd (zc 3 [(25,(vI 0)),(24,(vI n_ls)),(23,(.slice a_ls n_ls c_ls))] (zf (zb (zr (zW (X:=Nat) (fun jj=> [(7,(vI (zV (ls.take jj)))),(25,(vI jj))]) [9,26,27,28,29,30,31,32,33,34,35,36] (fun jj w3=>jj≤n_ls∧Blk w3 w.heap.size (u8s ((ls.take jj).flatten++List.replicate (zV ls-zV (ls.take jj)) 0)) 5∧Ext w w3) (fun jj=>n_ls-jj) 0 (by rw [List.take_zero];kernel_rfl) ⟨by omega,(by rw [List.take_zero,show zV ls-zV []=zV ls from rfl,List.flatten_nil,List.nil_append,←ze3];exact hBw2),hEw2⟩ ?_)))))
  rintro jj dw3 w3 ⟨hi,hBl,hEl⟩
  have hzl:=hEl.size;have hll:=hBl.lt
  have hlen:=h_ls.len_eq
  have hsl:=zeF ls jj
  have hsl1:=zeF ls (jj+1)
  refine ze (zd (za (zE (some 26) (decide (((jj:Nat):Int)<((n_ls:Nat):Int))) (fun hc26=> ?_) (fun hc26=> ?_))))
  ·replace hc26:jj<n_ls:=by have:=zac hc26;omega
   have hst:=zff (ls:=ls) (i:=jj) (by omega)
   refine zf (zb (ze (zv (zo (zb (ze (zr (ze (zd ?_)))))))))
   obtain ⟨b2,o2,rfl⟩:=h_ls.addr (by omega)
   refine za (zai b2 o2 n_ls c_ls jj 1 ?_)
   obtain ⟨a2,n2,cp2,hP2,hS2⟩:=((h_ls.ext hEl)).cell (i:=jj) (by omega)
   have hlehS2:=hS2.le;have hlnhS2:=hS2.len_eq
   refine za (zl b2 (o2+jj*1) hP2 ?_)
   refine zc 1 [(9,(.slice a2 n2 cp2))] (zf (zb (zd (zc 3 [(31,(vI (zV (ls.take jj)))),(30,(.slice (pA w.heap.size 0) (zV (ls)) (zV (ls)))),(29,(vI (zV (ls.take jj))))] ?_))))
   obtain ⟨ad,hRd,hAd⟩:=hBl.slice (len:=(zV (ls))) (cap:=(zV (ls))) Tryz.prog 23 5 (zV (ls.take jj)) (zV (ls)) (zV (ls)) (some (vI (zV (ls.take jj)))) none none
   refine za (zaM (Instr.sliceAt 23 (.slice (pA w.heap.size 0) (zV (ls)) (zV (ls))) (some (vI (zV (ls.take jj)))) none none) (.slice ad (zV ls-zV (ls.take jj)) (zV ls-zV (ls.take jj))) (hRd _) ?_)
   refine zc 1 [(33,(.slice a2 n2 cp2))] (za (zhH (a:=ad) (dl:=zV ls-zV (ls.take jj)) (dc:=zV ls-zV (ls.take jj)) (some 34) 23 23 3 5 w.heap.size (zV (ls.take jj)) hBl (fun h=>hAd (by omega)) (by rw [za4,List.length_append,zd9,List.length_replicate];omega) hS2.es (fun _=>rfl) ?_))
   intro w4 hBw4 hCw4
   have hzw4:=hCw4.size
   rw [show zU (u8s ((ls.take jj).flatten++List.replicate (zV ls-zV (ls.take jj)) 0)) (zV (ls.take jj)) (((ls.getD jj []).take (min n2 (zV ls-zV (ls.take jj)))).map u8v)=u8s ((ls.take (jj+1)).flatten++List.replicate (zV ls-zV (ls.take (jj+1))) 0) from by rw [zhc (by omega),zff (by omega),show min n2 (zV ls-zV (ls.take jj))=(ls.getD jj []).length from by omega];exact zoq _ _ _ _ (zd9 _).symm (by omega)] at hBw4
   refine za (zn (some 35) .i64 (IntKind.i64.wrap (((zV (ls.take jj):Nat):Int)+((min n2 (zV ls-zV (ls.take jj)):Nat):Int))) (zV (ls.take (jj+1))) (zu) ?_)
   refine zc 1 [(7,(vI (zV (ls.take (jj+1)))))] (zf (zi (zb (zd (za (zn (some 36) .i64 (IntKind.i64.wrap (((jj:Nat):Int)+((1:Nat):Int))) (jj+1) (zu) ?_))))))
   refine zc 1 [(25,(vI (jj+1)))] (zf (zz (zL (jj+1) ?_ ?_)))
   ·exact ⟨by omega,hBw4,(Ext.own hEl hCw4 (by omega))⟩
   ·first | omega |(dsimp only;omega)
  ·replace hc26:¬(jj<n_ls):=by have:=zad hc26;omega
   refine zf (zb (ze (zh (zP (zp (zp (zF (zb (ze ?_)))))))))
   refine zd (zc 2 [(2,(.slice (pA w.heap.size 0) (zV (ls)) (zV (ls)))),(37,(.slice (pA w.heap.size 0) (zV (ls)) (zV (ls))))] (zf (zb (zj (zm (.slice (pA w.heap.size 0) (zV (ls)) (zV (ls))) ?_)))))
   have hfin:ls.take jj=ls:=List.take_of_length_le (by omega)
   rw [hfin] at hBl
   rw [Nat.sub_self,List.replicate_zero,List.append_nil] at hBl
   exact ⟨_,rfl,Nat.le_refl _,hBl,(zd9 ls).symm,hp0,hEl⟩
end Go.Proofs.YtkmhgepdhilllaaGreatDoor
namespace Go.Proofs.YtkmhgepdhilllaaGreatDoor
open Go Go.RowKit Go.Cs
set_option maxRecDepth 100000
theorem zfq (x:Rec) (w:World):
  Calls Tryz.prog 62 #[(vA (zM x))] w (Ret fun r w'=>r=(vI (zaV x))∧Ext w w'):=by
 refine zC (n:=16) (σ:= [(0,(vA (zM x)))]) Tryz.func62 rfl ?_
 refine ze (zd (za (zab (Instr.box 68 (vA (zM x))) (vP w.heap.size 0) (zM x) 68 ?_)))
 intro w1 hBw1 hEw1 hzw1 hlw1
 refine zc 1 [(2,(vI 0))] (zf (zb (ze (ze (zd (zc 1 [(3,(vP w.heap.size 0))] (za (zl w.heap.size 0 (hBw1.cell rfl) ?_))))))))
 refine za (zE (some 5) (decide (((x.st:Nat):Int)>((2:Nat):Int))) (fun hc5=> ?_) (fun hc5=> ?_))
 ·replace hc5:x.st>2:=by have:=zac hc5;omega
  refine zc 10 [(15,vT),(14,undef),(13,undef),(12,undef),(11,undef),(10,undef),(9,undef),(8,undef),(7,undef),(6,vT)] (zf (zb (zv (ze (zd (zc 1 [(2,(vI 1))] (zf (zb (zj ?_)))))))))
  exact zw (zm (vI 1) (⟨congrArg (fun z:Nat=>Value.int .i64 (z:Int)) (by unfold zaV;simp_all []<;>omega),hEw1⟩))
 ·replace hc5:¬(x.st>2):=by have:=zad hc5;omega
  refine zc 2 [(7,(vP w.heap.size 0)),(6,vF)] (za (zl w.heap.size 0 (hBw1.cell rfl) ?_))
  refine za (zE (some 9) ((((x.st:Nat):Int)==((0:Nat):Int))) (fun hc9=> ?_) (fun hc9=> ?_))
  ·replace hc9:x.st=0:=by have:=zbD hc9;omega
   refine zc 1 [(10,vT)] (za (zS w.heap.size 0 (hBw1.all) (zZ _) ?_))
   refine zc 1 [(12,(vA (zM Rec.zero)))] ?_
   rcases Bool.eq_false_or_eq_true (x.eqb Rec.zero) with hq13 | hq13
   ·refine za (zcg (some 13) (bo .neq 68 (.tmp 11) (.tmp 12) (vA (zM x)) (vA (zM Rec.zero))) vF (zap (r:=true) (T:=68) ((zdb (dd:=9997) (t:=68) (t8:=5) (tn:=56) (td:=59) (e:=5) (t32:=53) (t64:=54) x Rec.zero).trans (congrArg (fun b=>Result.ok b _) (show (x.eqb Rec.zero)=true from hq13)))) ?_)
    refine zc 2 [(15,vF),(14,vF)] (zf (zb (zh (zo (zb (ze (zd (zc 1 [(2,(vI 0))] (zf ?_)))))))))
    exact zb (zj (zm (vI 0) (⟨congrArg (fun z:Nat=>Value.int .i64 (z:Int)) (by unfold zaV;simp_all []<;>omega),hEw1⟩)))
   ·refine za (zcg (some 13) (bo .neq 68 (.tmp 11) (.tmp 12) (vA (zM x)) (vA (zM Rec.zero))) vT (zap (r:=false) (T:=68) ((zdb (dd:=9997) (t:=68) (t8:=5) (tn:=56) (td:=59) (e:=5) (t32:=53) (t64:=54) x Rec.zero).trans (congrArg (fun b=>Result.ok b _) (show (x.eqb Rec.zero)=false from hq13)))) ?_)
    refine zc 2 [(15,vT),(14,vT)] (zf (zb (zv (ze (zd (zc 1 [(2,(vI 1))] (zf (zb (zj ?_)))))))))
    exact zw (zm (vI 1) (⟨congrArg (fun z:Nat=>Value.int .i64 (z:Int)) (by unfold zaV;simp_all []<;>omega),hEw1⟩))
  ·replace hc9:¬(x.st=0):=by have:=zbC hc9;omega
   refine zc 6 [(15,vF),(14,vF),(13,undef),(12,undef),(11,undef),(10,vF)] (zf (zb (zh (zo (zb (ze (zd (zc 1 [(2,(vI 0))] (zf ?_)))))))))
   exact zb (zj (zm (vI 0) (⟨congrArg (fun z:Nat=>Value.int .i64 (z:Int)) (by unfold zaV;simp_all []<;>omega),hEw1⟩)))
theorem zhA (x:Ent) (w:World):
  Calls Tryz.prog 131 #[(vA (zaj x))] w (Ret fun r w'=>r=(vI (zba x))∧Ext w w'):=by
 refine zC (n:=16) (σ:= [(0,(vA (zaj x)))]) Tryz.func131 rfl ?_
 refine ze (zd (za (zab (Instr.box 71 (vA (zaj x))) (vP w.heap.size 0) (zaj x) 71 ?_)))
 intro w1 hBw1 hEw1 hzw1 hlw1
 refine zc 1 [(2,(vI 0))] (zf (zb (ze (ze (zd (zc 1 [(3,(vP w.heap.size 0))] (za (zl w.heap.size 0 (hBw1.cell rfl) ?_))))))))
 refine za (zE (some 5) (decide (((x.st:Nat):Int)>((2:Nat):Int))) (fun hc5=> ?_) (fun hc5=> ?_))
 ·replace hc5:x.st>2:=by have:=zac hc5;omega
  refine zc 10 [(15,vT),(14,undef),(13,undef),(12,undef),(11,undef),(10,undef),(9,undef),(8,undef),(7,undef),(6,vT)] (zf (zb (zv (ze (zd (zc 1 [(2,(vI 1))] (zf (zb (zj ?_)))))))))
  exact zw (zm (vI 1) (⟨congrArg (fun z:Nat=>Value.int .i64 (z:Int)) (by unfold zba;simp_all []<;>omega),hEw1⟩))
 ·replace hc5:¬(x.st>2):=by have:=zad hc5;omega
  refine zc 2 [(7,(vP w.heap.size 0)),(6,vF)] (za (zl w.heap.size 0 (hBw1.cell rfl) ?_))
  refine za (zE (some 9) ((((x.st:Nat):Int)==((0:Nat):Int))) (fun hc9=> ?_) (fun hc9=> ?_))
  ·replace hc9:x.st=0:=by have:=zbD hc9;omega
   refine zc 1 [(10,vT)] (za (zS w.heap.size 0 (hBw1.all) (zaK _) ?_))
   refine zc 1 [(12,(vA (zaj Ent.zero)))] ?_
   rcases Bool.eq_false_or_eq_true (x.eqb Ent.zero) with hq13 | hq13
   ·refine za (zcg (some 13) (bo .neq 71 (.tmp 11) (.tmp 12) (vA (zaj x)) (vA (zaj Ent.zero))) vF (zap (r:=true) (T:=71) ((zcq (dd:=9997) (t:=71) (t8:=5) (td:=59) (e:=5) x Ent.zero).trans (congrArg (fun b=>Result.ok b _) (show (x.eqb Ent.zero)=true from hq13)))) ?_)
    refine zc 2 [(15,vF),(14,vF)] (zf (zb (zh (zo (zb (ze (zd (zc 1 [(2,(vI 0))] (zf ?_)))))))))
    exact zb (zj (zm (vI 0) (⟨congrArg (fun z:Nat=>Value.int .i64 (z:Int)) (by unfold zba;simp_all []<;>omega),hEw1⟩)))
   ·refine za (zcg (some 13) (bo .neq 71 (.tmp 11) (.tmp 12) (vA (zaj x)) (vA (zaj Ent.zero))) vT (zap (r:=false) (T:=71) ((zcq (dd:=9997) (t:=71) (t8:=5) (td:=59) (e:=5) x Ent.zero).trans (congrArg (fun b=>Result.ok b _) (show (x.eqb Ent.zero)=false from hq13)))) ?_)
    refine zc 2 [(15,vT),(14,vT)] (zf (zb (zv (ze (zd (zc 1 [(2,(vI 1))] (zf (zb (zj ?_)))))))))
    exact zw (zm (vI 1) (⟨congrArg (fun z:Nat=>Value.int .i64 (z:Int)) (by unfold zba;simp_all []<;>omega),hEw1⟩))
  ·replace hc9:¬(x.st=0):=by have:=zbC hc9;omega
   refine zc 6 [(15,vF),(14,vF),(13,undef),(12,undef),(11,undef),(10,vF)] (zf (zb (zh (zo (zb (ze (zd (zc 1 [(2,(vI 0))] (zf ?_)))))))))
   exact zb (zj (zm (vI 0) (⟨congrArg (fun z:Nat=>Value.int .i64 (z:Int)) (by unfold zba;simp_all []<;>omega),hEw1⟩)))
theorem zzg (x:Rec) (w:World):
  Calls Tryz.prog 105 #[(vA (zM x))] w (Ret fun r w'=>r=(vI (zaV x))∧Ext w w'):=by
 refine zC (n:=36) (σ:= [(0,(vA (zM x)))]) Tryz.func105 rfl ?_
 refine ze (zd (za (zab (Instr.box 68 (vA (zM x))) (vP w.heap.size 0) (zM x) 68 ?_)))
 intro w1 hBw1 hEw1 hzw1 hlw1
 refine zc 1 [(2,(vI 0))] (zf (zb (ze (zd (zc 2 [(5,(vP w.heap.size 1)),(4,(vP w.heap.size 1))] (za (zl w.heap.size 1 (hBw1.cell rfl) ?_)))))))
 refine za (zE (some 7) ((((x.non.sh:Nat):Int)==((0:Nat):Int))) (fun hc7=> ?_) (fun hc7=> ?_))
 ·replace hc7:x.non.sh=0:=by have:=zbD hc7;omega
  refine zc 3 [(10,(vP w.heap.size 2)),(9,(vP w.heap.size 1)),(8,vT)] (za (zl w.heap.size 2 (hBw1.cell rfl) ?_))
  refine za (zE (some 12) ((((x.non.ct:Nat):Int)==((0:Nat):Int))) (fun hc12=> ?_) (fun hc12=> ?_))
  ·replace hc12:x.non.ct=0:=by have:=zbD hc12;omega
   refine zc 3 [(15,(vP w.heap.size 3)),(14,vT),(13,vT)] (za (zS w.heap.size 3 (hBw1.at 3 (zQ x.tag) (zhP _)) (zaq _) ?_))
   refine zc 1 [(17,(vA (zQ Dig.zero)))] ?_
   rcases Bool.eq_false_or_eq_true (x.tag.l==Dig.zero.l) with hq18 | hq18
   ·refine za (zcg (some 18) (bo .eql 59 (.tmp 16) (.tmp 17) (vA (zQ x.tag)) (vA (zQ Dig.zero))) vT (zuJ (r:=true) (T:=59) ((zcJ (dd:=9998) (t:=59) (e:=5) x.tag Dig.zero).trans (congrArg (fun b=>Result.ok b _) (show (x.tag.l==Dig.zero.l)=true from hq18)))) ?_)
    refine zc 2 [(3,vT),(19,vT)] (zf (zb (ze (ze (zd (zc 1 [(20,(vP w.heap.size 0))] (za (zl w.heap.size 0 (hBw1.cell rfl) ?_))))))))
    refine za (zE (some 22) ((((x.st:Nat):Int)==((0:Nat):Int))) (fun hc22=> ?_) (fun hc22=> ?_))
    ·replace hc22:x.st=0:=by have:=zbD hc22;omega
     refine zc 13 [(35,vT),(34,undef),(33,undef),(32,undef),(31,vT),(30,vT),(29,undef),(28,undef),(27,undef),(26,vT),(25,vT),(24,vT),(23,vT)] (zf (zb (zv (ze (zd (zc 1 [(2,(vI 0))] (zf (zb (zj ?_)))))))))
     exact zw (zm (vI 0) (⟨congrArg (fun z:Nat=>Value.int .i64 (z:Int)) (by unfold zaV;simp_all [Rec.eqb,Non.eqb,Rec.zero,Non.zero]<;>omega),hEw1⟩))
    ·replace hc22:¬(x.st=0):=by have:=zbC hc22;omega
     refine zc 5 [(27,(vP w.heap.size 0)),(26,vF),(25,vF),(24,undef),(23,vF)] (za (zl w.heap.size 0 (hBw1.cell rfl) ?_))
     refine za (zE (some 29) ((((x.st:Nat):Int)==((1:Nat):Int))) (fun hc29=> ?_) (fun hc29=> ?_))
     ·replace hc29:x.st=1:=by have:=zbD hc29;omega
      refine zc 6 [(35,vT),(34,undef),(33,undef),(32,undef),(31,vT),(30,vT)] (zf (zb (zv (ze (zd (zc 1 [(2,(vI 0))] (zf (zb (zj ?_)))))))))
      exact zw (zm (vI 0) (⟨congrArg (fun z:Nat=>Value.int .i64 (z:Int)) (by unfold zaV;simp_all [Rec.eqb,Non.eqb,Rec.zero,Non.zero]<;>omega),hEw1⟩))
     ·replace hc29:¬(x.st=1):=by have:=zbC hc29;omega
      refine zc 3 [(32,(vP w.heap.size 0)),(31,vF),(30,vF)] (za (zl w.heap.size 0 (hBw1.cell rfl) ?_))
      refine za (zE (some 34) ((((x.st:Nat):Int)==((2:Nat):Int))) (fun hc34=> ?_) (fun hc34=> ?_))
      ·replace hc34:x.st=2:=by have:=zbD hc34;omega
       refine zc 1 [(35,vT)] (zf (zb (zv (ze (zd (zc 1 [(2,(vI 0))] (zf (zb (zj ?_)))))))))
       exact zw (zm (vI 0) (⟨congrArg (fun z:Nat=>Value.int .i64 (z:Int)) (by unfold zaV;simp_all [Rec.eqb,Non.eqb,Rec.zero,Non.zero]<;>omega),hEw1⟩))
      ·replace hc34:¬(x.st=2):=by have:=zbC hc34;omega
       refine zc 1 [(35,vF)] (zf (zb (zh (zo (zb (ze (zd (zc 1 [(2,(vI 1))] (zf ?_)))))))))
       exact zb (zj (zm (vI 1) (⟨congrArg (fun z:Nat=>Value.int .i64 (z:Int)) (by unfold zaV;simp_all [Rec.eqb,Non.eqb,Rec.zero,Non.zero]<;>omega),hEw1⟩)))
   ·refine za (zcg (some 18) (bo .eql 59 (.tmp 16) (.tmp 17) (vA (zQ x.tag)) (vA (zQ Dig.zero))) vF (zuJ (r:=false) (T:=59) ((zcJ (dd:=9998) (t:=59) (e:=5) x.tag Dig.zero).trans (congrArg (fun b=>Result.ok b _) (show (x.tag.l==Dig.zero.l)=false from hq18)))) ?_)
    refine zc 2 [(3,vF),(19,vF)] (zf (zb (ze (ze (zd (zc 1 [(20,(vP w.heap.size 0))] (za (zl w.heap.size 0 (hBw1.cell rfl) ?_))))))))
    refine za (zE (some 22) ((((x.st:Nat):Int)==((0:Nat):Int))) (fun hc22=> ?_) (fun hc22=> ?_))
    ·replace hc22:x.st=0:=by have:=zbD hc22;omega
     refine zc 5 [(27,(vP w.heap.size 0)),(26,vF),(25,vF),(24,vF),(23,vT)] (za (zl w.heap.size 0 (hBw1.cell rfl) ?_))
     refine za (zE (some 29) ((((x.st:Nat):Int)==((1:Nat):Int))) (fun hc29=> ?_) (fun hc29=> ?_))
     ·replace hc29:x.st=1:=by have:=zbD hc29;omega
      refine zc 6 [(35,vT),(34,undef),(33,undef),(32,undef),(31,vT),(30,vT)] (zf (zb (zv (ze (zd (zc 1 [(2,(vI 0))] (zf (zb (zj ?_)))))))))
      exact zw (zm (vI 0) (⟨congrArg (fun z:Nat=>Value.int .i64 (z:Int)) (by unfold zaV;simp_all [Rec.eqb,Non.eqb,Rec.zero,Non.zero]<;>omega),hEw1⟩))
     ·replace hc29:¬(x.st=1):=by have:=zbC hc29;omega
      refine zc 3 [(32,(vP w.heap.size 0)),(31,vF),(30,vF)] (za (zl w.heap.size 0 (hBw1.cell rfl) ?_))
      refine za (zE (some 34) ((((x.st:Nat):Int)==((2:Nat):Int))) (fun hc34=> ?_) (fun hc34=> ?_))
      ·replace hc34:x.st=2:=by have:=zbD hc34;omega
       refine zc 1 [(35,vT)] (zf (zb (zv (ze (zd (zc 1 [(2,(vI 0))] (zf (zb (zj ?_)))))))))
       exact zw (zm (vI 0) (⟨congrArg (fun z:Nat=>Value.int .i64 (z:Int)) (by unfold zaV;simp_all [Rec.eqb,Non.eqb,Rec.zero,Non.zero]<;>omega),hEw1⟩))
      ·replace hc34:¬(x.st=2):=by have:=zbC hc34;omega
       refine zc 1 [(35,vF)] (zf (zb (zh (zo (zb (ze (zd (zc 1 [(2,(vI 1))] (zf ?_)))))))))
       exact zb (zj (zm (vI 1) (⟨congrArg (fun z:Nat=>Value.int .i64 (z:Int)) (by unfold zaV;simp_all [Rec.eqb,Non.eqb,Rec.zero,Non.zero]<;>omega),hEw1⟩)))
    ·replace hc22:¬(x.st=0):=by have:=zbC hc22;omega
     refine zc 5 [(27,(vP w.heap.size 0)),(26,vF),(25,vF),(24,undef),(23,vF)] (za (zl w.heap.size 0 (hBw1.cell rfl) ?_))
     refine za (zE (some 29) ((((x.st:Nat):Int)==((1:Nat):Int))) (fun hc29=> ?_) (fun hc29=> ?_))
     ·replace hc29:x.st=1:=by have:=zbD hc29;omega
      refine zc 6 [(35,vT),(34,undef),(33,undef),(32,undef),(31,vT),(30,vT)] (zf (zb (zv (ze (zd (zc 1 [(2,(vI 0))] (zf (zb (zj ?_)))))))))
      exact zw (zm (vI 0) (⟨congrArg (fun z:Nat=>Value.int .i64 (z:Int)) (by unfold zaV;simp_all [Rec.eqb,Non.eqb,Rec.zero,Non.zero]<;>omega),hEw1⟩))
     ·replace hc29:¬(x.st=1):=by have:=zbC hc29;omega
      refine zc 3 [(32,(vP w.heap.size 0)),(31,vF),(30,vF)] (za (zl w.heap.size 0 (hBw1.cell rfl) ?_))
      refine za (zE (some 34) ((((x.st:Nat):Int)==((2:Nat):Int))) (fun hc34=> ?_) (fun hc34=> ?_))
      ·replace hc34:x.st=2:=by have:=zbD hc34;omega
       refine zc 1 [(35,vT)] (zf (zb (zv (ze (zd (zc 1 [(2,(vI 0))] (zf (zb (zj ?_)))))))))
       exact zw (zm (vI 0) (⟨congrArg (fun z:Nat=>Value.int .i64 (z:Int)) (by unfold zaV;simp_all [Rec.eqb,Non.eqb,Rec.zero,Non.zero]<;>omega),hEw1⟩))
      ·replace hc34:¬(x.st=2):=by have:=zbC hc34;omega
       refine zc 1 [(35,vF)] (zf (zb (zh (zo (zb (ze (zd (zc 1 [(2,(vI 1))] (zf ?_)))))))))
       exact zb (zj (zm (vI 1) (⟨congrArg (fun z:Nat=>Value.int .i64 (z:Int)) (by unfold zaV;simp_all [Rec.eqb,Non.eqb,Rec.zero,Non.zero]<;>omega),hEw1⟩)))
  ·replace hc12:¬(x.non.ct=0):=by have:=zbC hc12;omega
   refine zc 8 [(3,vF),(19,vF),(18,undef),(17,undef),(16,undef),(15,undef),(14,vF),(13,vF)] (zf (zb (ze (ze (zd (zc 1 [(20,(vP w.heap.size 0))] (za (zl w.heap.size 0 (hBw1.cell rfl) ?_))))))))
   refine za (zE (some 22) ((((x.st:Nat):Int)==((0:Nat):Int))) (fun hc22=> ?_) (fun hc22=> ?_))
   ·replace hc22:x.st=0:=by have:=zbD hc22;omega
    refine zc 5 [(27,(vP w.heap.size 0)),(26,vF),(25,vF),(24,vF),(23,vT)] (za (zl w.heap.size 0 (hBw1.cell rfl) ?_))
    refine za (zE (some 29) ((((x.st:Nat):Int)==((1:Nat):Int))) (fun hc29=> ?_) (fun hc29=> ?_))
    ·replace hc29:x.st=1:=by have:=zbD hc29;omega
     refine zc 6 [(35,vT),(34,undef),(33,undef),(32,undef),(31,vT),(30,vT)] (zf (zb (zv (ze (zd (zc 1 [(2,(vI 0))] (zf (zb (zj ?_)))))))))
     exact zw (zm (vI 0) (⟨congrArg (fun z:Nat=>Value.int .i64 (z:Int)) (by unfold zaV;simp_all [Rec.eqb,Non.eqb,Rec.zero,Non.zero]<;>omega),hEw1⟩))
    ·replace hc29:¬(x.st=1):=by have:=zbC hc29;omega
     refine zc 3 [(32,(vP w.heap.size 0)),(31,vF),(30,vF)] (za (zl w.heap.size 0 (hBw1.cell rfl) ?_))
     refine za (zE (some 34) ((((x.st:Nat):Int)==((2:Nat):Int))) (fun hc34=> ?_) (fun hc34=> ?_))
     ·replace hc34:x.st=2:=by have:=zbD hc34;omega
      refine zc 1 [(35,vT)] (zf (zb (zv (ze (zd (zc 1 [(2,(vI 0))] (zf (zb (zj ?_)))))))))
      exact zw (zm (vI 0) (⟨congrArg (fun z:Nat=>Value.int .i64 (z:Int)) (by unfold zaV;simp_all [Rec.eqb,Non.eqb,Rec.zero,Non.zero]<;>omega),hEw1⟩))
     ·replace hc34:¬(x.st=2):=by have:=zbC hc34;omega
      refine zc 1 [(35,vF)] (zf (zb (zh (zo (zb (ze (zd (zc 1 [(2,(vI 1))] (zf ?_)))))))))
      exact zb (zj (zm (vI 1) (⟨congrArg (fun z:Nat=>Value.int .i64 (z:Int)) (by unfold zaV;simp_all [Rec.eqb,Non.eqb,Rec.zero,Non.zero]<;>omega),hEw1⟩)))
   ·replace hc22:¬(x.st=0):=by have:=zbC hc22;omega
    refine zc 5 [(27,(vP w.heap.size 0)),(26,vF),(25,vF),(24,undef),(23,vF)] (za (zl w.heap.size 0 (hBw1.cell rfl) ?_))
    refine za (zE (some 29) ((((x.st:Nat):Int)==((1:Nat):Int))) (fun hc29=> ?_) (fun hc29=> ?_))
    ·replace hc29:x.st=1:=by have:=zbD hc29;omega
     refine zc 6 [(35,vT),(34,undef),(33,undef),(32,undef),(31,vT),(30,vT)] (zf (zb (zv (ze (zd (zc 1 [(2,(vI 0))] (zf (zb (zj ?_)))))))))
     exact zw (zm (vI 0) (⟨congrArg (fun z:Nat=>Value.int .i64 (z:Int)) (by unfold zaV;simp_all [Rec.eqb,Non.eqb,Rec.zero,Non.zero]<;>omega),hEw1⟩))
    ·replace hc29:¬(x.st=1):=by have:=zbC hc29;omega
     refine zc 3 [(32,(vP w.heap.size 0)),(31,vF),(30,vF)] (za (zl w.heap.size 0 (hBw1.cell rfl) ?_))
     refine za (zE (some 34) ((((x.st:Nat):Int)==((2:Nat):Int))) (fun hc34=> ?_) (fun hc34=> ?_))
     ·replace hc34:x.st=2:=by have:=zbD hc34;omega
      refine zc 1 [(35,vT)] (zf (zb (zv (ze (zd (zc 1 [(2,(vI 0))] (zf (zb (zj ?_)))))))))
      exact zw (zm (vI 0) (⟨congrArg (fun z:Nat=>Value.int .i64 (z:Int)) (by unfold zaV;simp_all [Rec.eqb,Non.eqb,Rec.zero,Non.zero]<;>omega),hEw1⟩))
     ·replace hc34:¬(x.st=2):=by have:=zbC hc34;omega
      refine zc 1 [(35,vF)] (zf (zb (zh (zo (zb (ze (zd (zc 1 [(2,(vI 1))] (zf ?_)))))))))
      exact zb (zj (zm (vI 1) (⟨congrArg (fun z:Nat=>Value.int .i64 (z:Int)) (by unfold zaV;simp_all [Rec.eqb,Non.eqb,Rec.zero,Non.zero]<;>omega),hEw1⟩)))
 ·replace hc7:¬(x.non.sh=0):=by have:=zbC hc7;omega
  refine zc 13 [(3,vF),(19,vF),(18,undef),(17,undef),(16,undef),(15,undef),(14,vF),(13,vF),(12,undef),(11,undef),(10,undef),(9,undef),(8,vF)] (zf (zb (ze (ze (zd (zc 1 [(20,(vP w.heap.size 0))] (za (zl w.heap.size 0 (hBw1.cell rfl) ?_))))))))
  refine za (zE (some 22) ((((x.st:Nat):Int)==((0:Nat):Int))) (fun hc22=> ?_) (fun hc22=> ?_))
  ·replace hc22:x.st=0:=by have:=zbD hc22;omega
   refine zc 5 [(27,(vP w.heap.size 0)),(26,vF),(25,vF),(24,vF),(23,vT)] (za (zl w.heap.size 0 (hBw1.cell rfl) ?_))
   refine za (zE (some 29) ((((x.st:Nat):Int)==((1:Nat):Int))) (fun hc29=> ?_) (fun hc29=> ?_))
   ·replace hc29:x.st=1:=by have:=zbD hc29;omega
    refine zc 6 [(35,vT),(34,undef),(33,undef),(32,undef),(31,vT),(30,vT)] (zf (zb (zv (ze (zd (zc 1 [(2,(vI 0))] (zf (zb (zj ?_)))))))))
    exact zw (zm (vI 0) (⟨congrArg (fun z:Nat=>Value.int .i64 (z:Int)) (by unfold zaV;simp_all [Rec.eqb,Non.eqb,Rec.zero,Non.zero]<;>omega),hEw1⟩))
   ·replace hc29:¬(x.st=1):=by have:=zbC hc29;omega
    refine zc 3 [(32,(vP w.heap.size 0)),(31,vF),(30,vF)] (za (zl w.heap.size 0 (hBw1.cell rfl) ?_))
    refine za (zE (some 34) ((((x.st:Nat):Int)==((2:Nat):Int))) (fun hc34=> ?_) (fun hc34=> ?_))
    ·replace hc34:x.st=2:=by have:=zbD hc34;omega
     refine zc 1 [(35,vT)] (zf (zb (zv (ze (zd (zc 1 [(2,(vI 0))] (zf (zb (zj ?_)))))))))
     exact zw (zm (vI 0) (⟨congrArg (fun z:Nat=>Value.int .i64 (z:Int)) (by unfold zaV;simp_all [Rec.eqb,Non.eqb,Rec.zero,Non.zero]<;>omega),hEw1⟩))
    ·replace hc34:¬(x.st=2):=by have:=zbC hc34;omega
     refine zc 1 [(35,vF)] (zf (zb (zh (zo (zb (ze (zd (zc 1 [(2,(vI 1))] (zf ?_)))))))))
     exact zb (zj (zm (vI 1) (⟨congrArg (fun z:Nat=>Value.int .i64 (z:Int)) (by unfold zaV;simp_all [Rec.eqb,Non.eqb,Rec.zero,Non.zero]<;>omega),hEw1⟩)))
  ·replace hc22:¬(x.st=0):=by have:=zbC hc22;omega
   refine zc 5 [(27,(vP w.heap.size 0)),(26,vF),(25,vF),(24,undef),(23,vF)] (za (zl w.heap.size 0 (hBw1.cell rfl) ?_))
   refine za (zE (some 29) ((((x.st:Nat):Int)==((1:Nat):Int))) (fun hc29=> ?_) (fun hc29=> ?_))
   ·replace hc29:x.st=1:=by have:=zbD hc29;omega
    refine zc 6 [(35,vT),(34,undef),(33,undef),(32,undef),(31,vT),(30,vT)] (zf (zb (zv (ze (zd (zc 1 [(2,(vI 0))] (zf (zb (zj ?_)))))))))
    exact zw (zm (vI 0) (⟨congrArg (fun z:Nat=>Value.int .i64 (z:Int)) (by unfold zaV;simp_all [Rec.eqb,Non.eqb,Rec.zero,Non.zero]<;>omega),hEw1⟩))
   ·replace hc29:¬(x.st=1):=by have:=zbC hc29;omega
    refine zc 3 [(32,(vP w.heap.size 0)),(31,vF),(30,vF)] (za (zl w.heap.size 0 (hBw1.cell rfl) ?_))
    refine za (zE (some 34) ((((x.st:Nat):Int)==((2:Nat):Int))) (fun hc34=> ?_) (fun hc34=> ?_))
    ·replace hc34:x.st=2:=by have:=zbD hc34;omega
     refine zc 1 [(35,vT)] (zf (zb (zv (ze (zd (zc 1 [(2,(vI 0))] (zf (zb (zj ?_)))))))))
     exact zw (zm (vI 0) (⟨congrArg (fun z:Nat=>Value.int .i64 (z:Int)) (by unfold zaV;simp_all [Rec.eqb,Non.eqb,Rec.zero,Non.zero]<;>omega),hEw1⟩))
    ·replace hc34:¬(x.st=2):=by have:=zbC hc34;omega
     refine zc 1 [(35,vF)] (zf (zb (zh (zo (zb (ze (zd (zc 1 [(2,(vI 1))] (zf ?_)))))))))
     exact zb (zj (zm (vI 1) (⟨congrArg (fun z:Nat=>Value.int .i64 (z:Int)) (by unfold zaV;simp_all [Rec.eqb,Non.eqb,Rec.zero,Non.zero]<;>omega),hEw1⟩)))
theorem zzh (x:Ent) (w:World):
  Calls Tryz.prog 106 #[(vA (zaj x))] w (Ret fun r w'=>r=(vI (zba x))∧Ext w w'):=by
 refine zC (n:=22) (σ:= [(0,(vA (zaj x)))]) Tryz.func106 rfl ?_
 refine ze (zd (za (zab (Instr.box 71 (vA (zaj x))) (vP w.heap.size 0) (zaj x) 71 ?_)))
 intro w1 hBw1 hEw1 hzw1 hlw1
 refine zc 1 [(2,(vI 0))] (zf (zb (ze (ze (zd (zc 1 [(3,(vP w.heap.size 0))] (za (zl w.heap.size 0 (hBw1.cell rfl) ?_))))))))
 refine za (zE (some 5) ((((x.st:Nat):Int)==((0:Nat):Int))) (fun hc5=> ?_) (fun hc5=> ?_))
 ·replace hc5:x.st=0:=by have:=zbD hc5;omega
  refine zc 2 [(7,(vP w.heap.size 1)),(6,vT)] (za (zS w.heap.size 1 (hBw1.at 1 (zQ x.dg) (zfU _)) (zaq _) ?_))
  refine zc 1 [(9,(vA (zQ Dig.zero)))] ?_
  rcases Bool.eq_false_or_eq_true (x.dg.l==Dig.zero.l) with hq10 | hq10
  ·refine za (zcg (some 10) (bo .eql 59 (.tmp 8) (.tmp 9) (vA (zQ x.dg)) (vA (zQ Dig.zero))) vT (zuJ (r:=true) (T:=59) ((zcJ (dd:=9998) (t:=59) (e:=5) x.dg Dig.zero).trans (congrArg (fun b=>Result.ok b _) (show (x.dg.l==Dig.zero.l)=true from hq10)))) ?_)
   refine zc 11 [(21,vT),(20,undef),(19,undef),(18,undef),(17,vT),(16,vT),(15,undef),(14,undef),(13,undef),(12,vT),(11,vT)] (zf (zb (zv (ze (zd (zc 1 [(2,(vI 0))] (zf (zb (zj ?_)))))))))
   exact zw (zm (vI 0) (⟨congrArg (fun z:Nat=>Value.int .i64 (z:Int)) (by unfold zba;simp_all [Ent.eqb,Ent.zero]<;>omega),hEw1⟩))
  ·refine za (zcg (some 10) (bo .eql 59 (.tmp 8) (.tmp 9) (vA (zQ x.dg)) (vA (zQ Dig.zero))) vF (zuJ (r:=false) (T:=59) ((zcJ (dd:=9998) (t:=59) (e:=5) x.dg Dig.zero).trans (congrArg (fun b=>Result.ok b _) (show (x.dg.l==Dig.zero.l)=false from hq10)))) ?_)
   refine zc 3 [(13,(vP w.heap.size 0)),(12,vF),(11,vF)] (za (zl w.heap.size 0 (hBw1.cell rfl) ?_))
   refine za (zE (some 15) ((((x.st:Nat):Int)==((1:Nat):Int))) (fun hc15=> ?_) (fun hc15=> ?_))
   ·replace hc15:x.st=1:=by have:=zbD hc15;omega
    refine zc 6 [(21,vT),(20,undef),(19,undef),(18,undef),(17,vT),(16,vT)] (zf (zb (zv (ze (zd (zc 1 [(2,(vI 0))] (zf (zb (zj ?_)))))))))
    exact zw (zm (vI 0) (⟨congrArg (fun z:Nat=>Value.int .i64 (z:Int)) (by unfold zba;simp_all [Ent.eqb,Ent.zero]<;>omega),hEw1⟩))
   ·replace hc15:¬(x.st=1):=by have:=zbC hc15;omega
    refine zc 3 [(18,(vP w.heap.size 0)),(17,vF),(16,vF)] (za (zl w.heap.size 0 (hBw1.cell rfl) ?_))
    refine za (zE (some 20) ((((x.st:Nat):Int)==((2:Nat):Int))) (fun hc20=> ?_) (fun hc20=> ?_))
    ·replace hc20:x.st=2:=by have:=zbD hc20;omega
     refine zc 1 [(21,vT)] (zf (zb (zv (ze (zd (zc 1 [(2,(vI 0))] (zf (zb (zj ?_)))))))))
     exact zw (zm (vI 0) (⟨congrArg (fun z:Nat=>Value.int .i64 (z:Int)) (by unfold zba;simp_all [Ent.eqb,Ent.zero]<;>omega),hEw1⟩))
    ·replace hc20:¬(x.st=2):=by have:=zbC hc20;omega
     refine zc 1 [(21,vF)] (zf (zb (zh (zo (zb (ze (zd (zc 1 [(2,(vI 1))] (zf ?_)))))))))
     exact zb (zj (zm (vI 1) (⟨congrArg (fun z:Nat=>Value.int .i64 (z:Int)) (by unfold zba;simp_all [Ent.eqb,Ent.zero]<;>omega),hEw1⟩)))
 ·replace hc5:¬(x.st=0):=by have:=zbC hc5;omega
  refine zc 8 [(13,(vP w.heap.size 0)),(12,vF),(11,vF),(10,undef),(9,undef),(8,undef),(7,undef),(6,vF)] (za (zl w.heap.size 0 (hBw1.cell rfl) ?_))
  refine za (zE (some 15) ((((x.st:Nat):Int)==((1:Nat):Int))) (fun hc15=> ?_) (fun hc15=> ?_))
  ·replace hc15:x.st=1:=by have:=zbD hc15;omega
   refine zc 6 [(21,vT),(20,undef),(19,undef),(18,undef),(17,vT),(16,vT)] (zf (zb (zv (ze (zd (zc 1 [(2,(vI 0))] (zf (zb (zj ?_)))))))))
   exact zw (zm (vI 0) (⟨congrArg (fun z:Nat=>Value.int .i64 (z:Int)) (by unfold zba;simp_all [Ent.eqb,Ent.zero]<;>omega),hEw1⟩))
  ·replace hc15:¬(x.st=1):=by have:=zbC hc15;omega
   refine zc 3 [(18,(vP w.heap.size 0)),(17,vF),(16,vF)] (za (zl w.heap.size 0 (hBw1.cell rfl) ?_))
   refine za (zE (some 20) ((((x.st:Nat):Int)==((2:Nat):Int))) (fun hc20=> ?_) (fun hc20=> ?_))
   ·replace hc20:x.st=2:=by have:=zbD hc20;omega
    refine zc 1 [(21,vT)] (zf (zb (zv (ze (zd (zc 1 [(2,(vI 0))] (zf (zb (zj ?_)))))))))
    exact zw (zm (vI 0) (⟨congrArg (fun z:Nat=>Value.int .i64 (z:Int)) (by unfold zba;simp_all [Ent.eqb,Ent.zero]<;>omega),hEw1⟩))
   ·replace hc20:¬(x.st=2):=by have:=zbC hc20;omega
    refine zc 1 [(21,vF)] (zf (zb (zh (zo (zb (ze (zd (zc 1 [(2,(vI 1))] (zf ?_)))))))))
    exact zb (zj (zm (vI 1) (⟨congrArg (fun z:Nat=>Value.int .i64 (z:Int)) (by unfold zba;simp_all [Ent.eqb,Ent.zero]<;>omega),hEw1⟩)))
theorem zi0 (x:Non) (w:World):
  Calls Tryz.prog 134 #[(vA (zbc x))] w (Ret fun r w'=>∃a0,r=(.slice a0 12 12)∧Bs w.heap.size w'.heap.size w' a0 12 12 (zbx x)∧Ext w w'):=by
 refine zC (n:=11) (σ:= [(0,(vA (zbc x)))]) Tryz.func134 rfl ?_
 refine ze (zd (za (zab (Instr.box 56 (vA (zbc x))) (vP w.heap.size 0) (zbc x) 56 ?_)))
 intro w1 hBw1 hEw1 hzw1 hlw1
 refine zc 1 [(2,(.slice none 0 0))] (zf (zb (ze (zaa 9 (fun w2 hEw2 hzw2 hT245=> ?_)))))
 refine zg hT245 [(0,3,(vP w.heap.size 0))] 1 (zt hT245 1 w.heap.size 0 (fun w' hC=>(((hBw1.ext hEw2).ext hC).cell rfl)) (zg hT245 [(3,6,(vP w.heap.size 1))] 1 (zt hT245 4 w.heap.size 1 (fun w' hC=>(((hBw1.ext hEw2).ext hC).cell rfl)) (zx 2 (zq (zfN x.sh _ (x.hsh)) ?_)))))
 rintro _ w3 ⟨a1,rfl,hFz1_0,hEw3⟩
 have hzw3:=hEw3.size
 refine ⟨.inr hEw3, ?_⟩
 refine zx 5 (zq (zmN x.ct _) ?_)
 rintro _ w4 ⟨a2,rfl,hFz2_0,hEw4⟩
 have hzw4:=hEw4.size
 have hX1:Ext w2 w4:=(hEw3.trans hEw4)
 refine ⟨.inr hX1, ?_⟩
 refine zx 6 (zab (Instr.buildSlice 190 2 #[(0,(.slice a1 4 4)),(1,(.slice a2 8 8))]) (.slice (pA w4.heap.size 0) 2 2) [(.slice a1 4 4),(.slice a2 8 8)] 23 ?_)
 intro w5 hBw5 hEw5 hzw5 hlw5
 have hSw5:Ps 0 w5.heap.size w5 (pA w4.heap.size 0) 2 2 [(.slice a1 4 4),(.slice a2 8 8)] [be x.sh 4,be x.ct 8]:=Ps.of_new hBw5 rfl (by decide) (za7.cons (zc1.at ((hFz1_0.ext hEw4).ext hEw5)) (za7.cons (zc1.at (hFz2_0.ext hEw5)) za7.nil))
 have hX2:Ext w2 w5:=((hEw3.trans hEw4).trans hEw5)
 refine ⟨.inr hX2, ?_⟩
 refine zx 7 (zq (ziG _ hSw5 (by simp [zV]<;>omega)) ?_)
 rintro _ w6 ⟨a3,rfl,hFz3_0,hFz3_1,hFz3_2,hFz3_3,hEw6⟩
 have hzw6:=hEw6.size
 have hla3:=hFz3_1.lt;have hna3:=hFz3_3
 have hSa3:Bs a3 (a3+1) w6 (pA a3 0) (zV ([be x.sh 4,be x.ct 8])) (zV ([be x.sh 4,be x.ct 8])) (([be x.sh 4,be x.ct 8]).flatten):=Bs.of_blk hFz3_1 rfl hFz3_2 (Nat.le_refl _) (zcw hna3) (Nat.le_refl _) (Nat.lt_succ_self _)
 rw [show zV ([be x.sh 4,be x.ct 8])=12 from by simp [zV]]
 have hX3:Ext w2 w6:=(((hEw3.trans hEw4).trans hEw5).trans hEw6)
 refine ⟨.inr hX3, ?_⟩
 exact zg (hw:=hX3) hT245 [(8,2,(.slice (pA a3 0) 12 12))] 1 (zD (zb (zj (zm (.slice (pA a3 0) 12 12) (⟨_,rfl,by simpa [zbx,zV] using hSa3.mono (by omega) (by omega),((hEw1.trans hEw2).trans hX3)⟩)))))
theorem zh0 (x:Non) (w:World):
  Calls Tryz.prog 129 #[(vA (zbc x))] w (Ret fun r w'=>∃a0 ca0,r=(.slice a0 12 ca0)∧Es u8v w.heap.size w'.heap.size w' a0 12 ca0 (zbx x)∧Ext w w'):=by
 refine zC (n:=10) (σ:= [(0,(vA (zbc x)))]) Tryz.func129 rfl ?_
 refine ze (zd (za (zab (Instr.box 56 (vA (zbc x))) (vP w.heap.size 0) (zbc x) 56 ?_)))
 intro w1 hBw1 hEw1 hzw1 hlw1
 refine zc 1 [(2,(.slice none 0 0))] (zf (zb (ze (zaa 8 (fun w2 hEw2 hzw2 hT275=> ?_)))))
 refine zg hT275 [(0,3,(vP w.heap.size 0))] 1 (zt hT275 1 w.heap.size 0 (fun w' hC=>(((hBw1.ext hEw2).ext hC).cell rfl)) (zg hT275 [(3,6,(vP w.heap.size 1))] 1 (zt hT275 4 w.heap.size 1 (fun w' hC=>(((hBw1.ext hEw2).ext hC).cell rfl)) (zx 2 (zq (zkU x.sh _ (x.hsh)) ?_)))))
 rintro _ w3 ⟨a1,rfl,hFz1_0,hFz1_1,hFz1_2,hFz1_3,hEw3⟩
 have hzw3:=hEw3.size
 have hla1:=hFz1_1.lt;have hna1:=hFz1_3
 have hSa1:Bs a1 (a1+1) w3 (pA a1 0) 4 4 (be x.sh 4):=Bs.of_blk hFz1_1 rfl hFz1_2 (Nat.le_refl _) (zcw hna1) (Nat.le_refl _) (Nat.lt_succ_self _)
 refine ⟨.inr hEw3, ?_⟩
 refine zx 5 (zq (zlL x.ct _ (x.hct)) ?_)
 rintro _ w4 ⟨a2,rfl,hFz2_0,hFz2_1,hFz2_2,hFz2_3,hEw4⟩
 have hzw4:=hEw4.size
 have hla2:=hFz2_1.lt;have hna2:=hFz2_3
 have hSa2:Bs a2 (a2+1) w4 (pA a2 0) 8 8 (be x.ct 8):=Bs.of_blk hFz2_1 rfl hFz2_2 (Nat.le_refl _) (zcw hna2) (Nat.le_refl _) (Nat.lt_succ_self _)
 have hX1:Ext w2 w4:=(hEw3.trans hEw4)
 refine ⟨.inr hX1, ?_⟩
 have hO1:Cs.Own u8v a1 (a1+1) w4 (pA a1 0) 4 4 5 (be x.sh 4):=Cs.Own.of_blk (hFz1_1.ext hEw4) (by simp) (by first | rfl | exact rfl) (hSa1.ext hEw4).len_eq (Nat.le_refl _) (by simp only [maxLen];omega) (Nat.le_refl _) (Nat.lt_succ_self _)
 refine zx 6 (zbo (some 9) 23 23 5 1 (.int .u8 0) hO1 hSa2.es (fun _=>rfl) ?_)
 intro a3 c1 w5 hOw5 hCw5
 have hzw5:=hCw5.size
 have hSw5:=hOw5.bs
 have hX2:Ext w2 w5:=(Ext.ownS (hEw3.trans hEw4) hCw5 (fun k hs hk=>by have hn:=hO1.ne hs;omega))
 refine ⟨.inr hX2, ?_⟩
 refine zg (hw:=hX2) hT275 [(7,2,(.slice a3 (4+8) c1))] 1 (zD (zb (zj (zm (.slice a3 (4+8) c1) ?_))))
 have hX3:Ext w w5:=(Ext.ownS (((hEw1.trans hEw2).trans hEw3).trans hEw4) hCw5 (fun k hs hk=>by have hn:=hO1.ne hs;omega))
 exact ⟨_,_,rfl,by have hz:=hOw5;simpa [zbx,zbV,zb9,zdr] using (hz.es.mono (lo':=w.heap.size) (hi':=w5.heap.size) (by omega) (by omega)),hX3⟩
theorem zoT (x:Rec) (w:World):
  Calls Tryz.prog 103 #[(vA (zM x))] w (Ret fun r w'=>∃a0 ca0,r=(.slice a0 45 ca0)∧Es u8v w.heap.size w'.heap.size w' a0 45 ca0 (zbV x)∧Ext w w'):=by
 refine zC (n:=13) (σ:= [(0,(vA (zM x)))]) Tryz.func103 rfl ?_
 refine ze (zd (za (zab (Instr.box 68 (vA (zM x))) (vP w.heap.size 0) (zM x) 68 ?_)))
 intro w1 hBw1 hEw1 hzw1 hlw1
 refine zc 1 [(2,(.slice none 0 0))] (zf (zb (ze (zaa 11 (fun w2 hEw2 hzw2 hT305=> ?_)))))
 refine zg hT305 [(0,3,(vP w.heap.size 0))] 1 (zt hT305 1 w.heap.size 0 (fun w' hC=>(((hBw1.ext hEw2).ext hC).cell rfl)) (zg hT305 [(3,6,(vP w.heap.size 1))] 1 (zal hT305 4 w.heap.size 1 (fun w' hC=>(((hBw1.ext hEw2).ext hC).at 1 (zbc x.non) (zmI _))) (ze4 _) (zg hT305 [(7,10,(vP w.heap.size 3))] 1 (zk hT305 8 (.slice (pA w.heap.size 3) 32 32) (zae (Instr.sliceAt 59 (vP w.heap.size 3) none none none) (fun w' hC=>ziT (E:=5) (sz:=1) (m:=32))) ?_)))))
 have hS1:Bs w.heap.size (w.heap.size+1) w2 (pA w.heap.size 3) 32 32 x.tag.l:=Bs.of_at ((hBw1.ext hEw2).at 3 (zQ x.tag) (zhP _)) ((hBw1.ext hEw2)).lt x.tag.h.symm (by decide) (by omega) (by omega)
 refine zbE 2 5 ?_ ?_
 ·refine zab (Instr.buildSlice 23 1 #[(0,(vB x.st))]) (.slice (pA w2.heap.size 0) 1 1) [(vB x.st)] 5 ?_
  intro w3 hBw3 hEw3 hzw3 hlw3
  have hSw3:Bs w2.heap.size (w2.heap.size+1) w3 (pA w2.heap.size 0) 1 1 [UInt8.ofNat x.st]:=Bs.of_blk hBw3 (zcS x.hst) rfl (Nat.le_refl _) (by decide) (Nat.le_refl _) (Nat.lt_succ_self _)
  refine ⟨.inr hEw3, ?_⟩
  refine zx 5 (zq (zh0 x.non _) ?_)
  rintro _ w4 ⟨a1,ca1,rfl,hFz1_0,hEw4⟩
  have hzw4:=hEw4.size
  have hlea1:=hFz1_0.le
  have hba1:=hFz1_0.bs
  have hX1:Ext w2 w4:=(hEw3.trans hEw4)
  refine ⟨.inr hX1, ?_⟩
  have hO1:Cs.Own u8v w2.heap.size (w2.heap.size+1) w4 (pA w2.heap.size 0) 1 1 5 ([UInt8.ofNat x.st]):=Cs.Own.of_blk (hBw3.ext hEw4) (by simp) (by first | rfl | exact (zcS x.hst)) (hSw3.ext hEw4).len_eq (Nat.le_refl _) (by simp only [maxLen];omega) (Nat.le_refl _) (Nat.lt_succ_self _)
  refine zx 6 (zbo (some 9) 23 23 5 1 (.int .u8 0) hO1 hba1.es (fun _=>rfl) ?_)
  intro a2 c1 w5 hOw5 hCw5
  have hzw5:=hCw5.size
  have hSw5:=hOw5.bs
  have hX2:Ext w2 w5:=(Ext.ownS (hEw3.trans hEw4) hCw5 (fun k hs hk=>by have hn:=hO1.ne hs;omega))
  refine ⟨.inr hX2, ?_⟩
  have hK1:=((((hS1.ext hEw3).ext hEw4)).chg hCw5 (fun k h1 h2 hs=>by have hn:=hO1.ne hs;omega))
  refine zx 9 (zbo (some 12) 23 23 5 1 (.int .u8 0) hOw5 hK1.es (fun _=>rfl) ?_)
  intro a3 c2 w6 hOw6 hCw6
  have hzw6:=hCw6.size
  have hSw6:=hOw6.bs
  have hX3:Ext w2 w6:=(Ext.ownS (Ext.ownS (hEw3.trans hEw4) hCw5 (fun k hs hk=>by have hn:=hO1.ne hs;omega)) hCw6 (fun k hs hk=>by have hn:=hOw5.ne hs;omega))
  refine ⟨.inr hX3, ?_⟩
  exact zg (hw:=hX3) hT305 [(10,2,(.slice a3 (1+12+32) c2))] 1 (zD (zb (zj (zm (.slice a3 (1+12+32) c2) (⟨_,_,rfl,by have hz:=hOw6;simpa [zbx,zbV,zb9,zdr] using (hz.es.mono (lo':=w.heap.size) (hi':=w6.heap.size) (by omega) (by omega)),((hEw1.trans hEw2).trans hX3)⟩)))))
 ·refine zq (zh0 x.non _) ?_
  rintro _ w7 ⟨a4,ca4,rfl,hFz2_0,hEw7⟩
  have hzw7:=hEw7.size
  have hlea4:=hFz2_0.le
  have hba4:=hFz2_0.bs
  refine ⟨.inr hEw7, ?_⟩
  refine zx 2 (zab (Instr.buildSlice 23 1 #[(0,(vB x.st))]) (.slice (pA w7.heap.size 0) 1 1) [(vB x.st)] 5 ?_)
  intro w8 hBw8 hEw8 hzw8 hlw8
  have hSw8:Bs w7.heap.size (w7.heap.size+1) w8 (pA w7.heap.size 0) 1 1 [UInt8.ofNat x.st]:=Bs.of_blk hBw8 (zcS x.hst) rfl (Nat.le_refl _) (by decide) (Nat.le_refl _) (Nat.lt_succ_self _)
  have hX4:Ext w2 w8:=(hEw7.trans hEw8)
  refine ⟨.inr hX4, ?_⟩
  have hO2:Cs.Own u8v w7.heap.size (w7.heap.size+1) w8 (pA w7.heap.size 0) 1 1 5 ([UInt8.ofNat x.st]):=Cs.Own.of_blk hBw8 (by simp) (by first | rfl | exact (zcS x.hst)) hSw8.len_eq (Nat.le_refl _) (by simp only [maxLen];omega) (Nat.le_refl _) (Nat.lt_succ_self _)
  refine zx 6 (zbo (some 9) 23 23 5 1 (.int .u8 0) hO2 (hba4.ext hEw8).es (fun _=>rfl) ?_)
  intro a5 c3 w9 hOw9 hCw9
  have hzw9:=hCw9.size
  have hSw9:=hOw9.bs
  have hX5:Ext w2 w9:=(Ext.ownS (hEw7.trans hEw8) hCw9 (fun k hs hk=>by have hn:=hO2.ne hs;omega))
  refine ⟨.inr hX5, ?_⟩
  have hK2:=((((hS1.ext hEw7).ext hEw8)).chg hCw9 (fun k h1 h2 hs=>by have hn:=hO2.ne hs;omega))
  refine zx 9 (zbo (some 12) 23 23 5 1 (.int .u8 0) hOw9 hK2.es (fun _=>rfl) ?_)
  intro a6 c4 w10 hOw10 hCw10
  have hzw10:=hCw10.size
  have hSw10:=hOw10.bs
  have hX6:Ext w2 w10:=(Ext.ownS (Ext.ownS (hEw7.trans hEw8) hCw9 (fun k hs hk=>by have hn:=hO2.ne hs;omega)) hCw10 (fun k hs hk=>by have hn:=hOw9.ne hs;omega))
  refine ⟨.inr hX6, ?_⟩
  exact zg (hw:=hX6) hT305 [(10,2,(.slice a6 (1+12+32) c4))] 1 (zD (zb (zj (zm (.slice a6 (1+12+32) c4) (⟨_,_,rfl,by have hz:=hOw10;simpa [zbx,zbV,zb9,zdr] using (hz.es.mono (lo':=w.heap.size) (hi':=w10.heap.size) (by omega) (by omega)),((hEw1.trans hEw2).trans hX6)⟩)))))
theorem zqo (x:Ent) (w:World):
  Calls Tryz.prog 104 #[(vA (zaj x))] w (Ret fun r w'=>∃a0 ca0,r=(.slice a0 33 ca0)∧Es u8v w.heap.size w'.heap.size w' a0 33 ca0 (zb9 x)∧Ext w w'):=by
 refine zC (n:=9) (σ:= [(0,(vA (zaj x)))]) Tryz.func104 rfl ?_
 refine ze (zd (za (zab (Instr.box 71 (vA (zaj x))) (vP w.heap.size 0) (zaj x) 71 ?_)))
 intro w1 hBw1 hEw1 hzw1 hlw1
 refine zc 1 [(2,(.slice none 0 0))] (zf (zb (ze (zaa 7 (fun w2 hEw2 hzw2 hT367=> ?_)))))
 refine zg hT367 [(0,3,(vP w.heap.size 0))] 1 (zt hT367 1 w.heap.size 0 (fun w' hC=>(((hBw1.ext hEw2).ext hC).cell rfl)) (zg hT367 [(3,6,(vP w.heap.size 1))] 1 (zk hT367 4 (.slice (pA w.heap.size 1) 32 32) (zae (Instr.sliceAt 59 (vP w.heap.size 1) none none none) (fun w' hC=>ziT (E:=5) (sz:=1) (m:=32))) ?_)))
 have hS1:Bs w.heap.size (w.heap.size+1) w2 (pA w.heap.size 1) 32 32 x.dg.l:=Bs.of_at ((hBw1.ext hEw2).at 1 (zQ x.dg) (zfU _)) ((hBw1.ext hEw2)).lt x.dg.h.symm (by decide) (by omega) (by omega)
 refine zx 2 (zab (Instr.buildSlice 23 1 #[(0,(vB x.st))]) (.slice (pA w2.heap.size 0) 1 1) [(vB x.st)] 5 ?_)
 intro w3 hBw3 hEw3 hzw3 hlw3
 have hSw3:Bs w2.heap.size (w2.heap.size+1) w3 (pA w2.heap.size 0) 1 1 [UInt8.ofNat x.st]:=Bs.of_blk hBw3 (zcS x.hst) rfl (Nat.le_refl _) (by decide) (Nat.le_refl _) (Nat.lt_succ_self _)
 refine ⟨.inr hEw3, ?_⟩
 have hO1:Cs.Own u8v w2.heap.size (w2.heap.size+1) w3 (pA w2.heap.size 0) 1 1 5 ([UInt8.ofNat x.st]):=Cs.Own.of_blk hBw3 (by simp) (by first | rfl | exact (zcS x.hst)) hSw3.len_eq (Nat.le_refl _) (by simp only [maxLen];omega) (Nat.le_refl _) (Nat.lt_succ_self _)
 refine zx 5 (zbo (some 8) 23 23 5 1 (.int .u8 0) hO1 (hS1.ext hEw3).es (fun _=>rfl) ?_)
 intro a1 c1 w4 hOw4 hCw4
 have hzw4:=hCw4.size
 have hSw4:=hOw4.bs
 have hX1:Ext w2 w4:=(Ext.ownS hEw3 hCw4 (fun k hs hk=>by have hn:=hO1.ne hs;omega))
 refine ⟨.inr hX1, ?_⟩
 refine zg (hw:=hX1) hT367 [(6,2,(.slice a1 (1+32) c1))] 1 (zD (zb (zj (zm (.slice a1 (1+32) c1) ?_))))
 have hX2:Ext w w4:=(Ext.ownS ((hEw1.trans hEw2).trans hEw3) hCw4 (fun k hs hk=>by have hn:=hO1.ne hs;omega))
 exact ⟨_,_,rfl,by have hz:=hOw4;simpa [zbx,zbV,zb9,zdr] using (hz.es.mono (lo':=w.heap.size) (hi':=w4.heap.size) (by omega) (by omega)),hX2⟩
theorem zl4 (x:Rec) (w:World) (hp0:zaV x=0):
  Calls Tryz.prog 115 #[(vA (zM x))] w (Ret fun r w'=>∃a0,r=(.tuple #[(.slice a0 45 45),(vI 0)])∧Bs w.heap.size w'.heap.size w' a0 45 45 (zbV x)∧Ext w w'):=by
 refine zC (n:=20) (σ:= [(0,(vA (zM x)))]) Tryz.func115 rfl ?_
 refine ze (zd (za (zab (Instr.box 68 (vA (zM x))) (vP w.heap.size 0) (zM x) 68 ?_)))
 intro w1 hBw1 hEw1 hzw1 hlw1
 refine zc 2 [(3,(vI 0)),(2,(.slice none 0 0))] (zf (zb (ze (ze (zd (za (zS w.heap.size 0 (hBw1.all) (zZ _) ?_)))))))
 refine za (zq (zfq x _) ?_)
 rintro _ w2 ⟨rfl,hEw2⟩
 have hzw2:=hEw2.size
 refine zc 1 [(4,(vI (zaV x)))] (zf (zb (ze (zd (zc 1 [(7,(vI (zaV x)))] (za (zah (some 8) (((zaV x:Nat):Int) !=((0:Nat):Int)) false (zaE) ?_)))))))
 refine zf (zb (zh (zo (zb (ze (zaa 12 (fun w3 hEw3 hzw3 hT423=> ?_)))))))
 refine zg hT423 [(0,10,(vP w.heap.size 0))] 1 (zt hT423 1 w.heap.size 0 (fun w' hC=>((((hBw1.ext hEw2).ext hEw3).ext hC).cell rfl)) (zg hT423 [(3,13,(vP w.heap.size 1))] 1 (zal hT423 4 w.heap.size 1 (fun w' hC=>((((hBw1.ext hEw2).ext hEw3).ext hC).at 1 (zbc x.non) (zmI _))) (ze4 _) (zg hT423 [(6,16,(vP w.heap.size 3))] 1 (zk hT423 7 (.slice (pA w.heap.size 3) 32 32) (zae (Instr.sliceAt 59 (vP w.heap.size 3) none none none) (fun w' hC=>ziT (E:=5) (sz:=1) (m:=32))) ?_)))))
 have hS1:Bs w.heap.size (w.heap.size+1) w3 (pA w.heap.size 3) 32 32 x.tag.l:=Bs.of_at (((hBw1.ext hEw2).ext hEw3).at 3 (zQ x.tag) (zhP _)) (((hBw1.ext hEw2).ext hEw3)).lt x.tag.h.symm (by decide) (by omega) (by omega)
 refine zbE 2 5 ?_ ?_
 ·refine zab (Instr.buildSlice 23 1 #[(0,(vB x.st))]) (.slice (pA w3.heap.size 0) 1 1) [(vB x.st)] 5 ?_
  intro w4 hBw4 hEw4 hzw4 hlw4
  have hSw4:Bs w3.heap.size (w3.heap.size+1) w4 (pA w3.heap.size 0) 1 1 [UInt8.ofNat x.st]:=Bs.of_blk hBw4 (zcS x.hst) rfl (Nat.le_refl _) (by decide) (Nat.le_refl _) (Nat.lt_succ_self _)
  refine ⟨.inr hEw4, ?_⟩
  refine zx 5 (zq (zi0 x.non _) ?_)
  rintro _ w5 ⟨a1,rfl,hFz2_0,hEw5⟩
  have hzw5:=hEw5.size
  have hX1:Ext w3 w5:=(hEw4.trans hEw5)
  refine ⟨.inr hX1, ?_⟩
  refine zx 8 (zab (Instr.buildSlice 190 3 #[(0,(.slice (pA w3.heap.size 0) 1 1)),(1,(.slice a1 12 12)),(2,(.slice (pA w.heap.size 3) 32 32))]) (.slice (pA w5.heap.size 0) 3 3) [(.slice (pA w3.heap.size 0) 1 1),(.slice a1 12 12),(.slice (pA w.heap.size 3) 32 32)] 23 ?_)
  intro w6 hBw6 hEw6 hzw6 hlw6
  have hK1:=(((hS1.ext hEw4).ext hEw5).ext hEw6)
  have hSw6:Ps 0 w6.heap.size w6 (pA w5.heap.size 0) 3 3 [(.slice (pA w3.heap.size 0) 1 1),(.slice a1 12 12),(.slice (pA w.heap.size 3) 32 32)] [[UInt8.ofNat x.st],zbx x.non,x.tag.l]:=Ps.of_new hBw6 rfl (by decide) (za7.cons (zc1.at ((hSw4.ext hEw5).ext hEw6)) (za7.cons (zc1.at (hFz2_0.ext hEw6)) (za7.cons (zc1.at hK1) za7.nil)))
  have hX2:Ext w3 w6:=((hEw4.trans hEw5).trans hEw6)
  refine ⟨.inr hX2, ?_⟩
  refine zx 9 (zq (ziG _ hSw6 (by simp [zV,zbx,x.tag.h])) ?_)
  rintro _ w7 ⟨a2,rfl,hFz3_0,hFz3_1,hFz3_2,hFz3_3,hEw7⟩
  have hzw7:=hEw7.size
  have hla2:=hFz3_1.lt;have hna2:=hFz3_3
  have hSa2:Bs a2 (a2+1) w7 (pA a2 0) (zV ([[UInt8.ofNat x.st],zbx x.non,x.tag.l])) (zV ([[UInt8.ofNat x.st],zbx x.non,x.tag.l])) (([[UInt8.ofNat x.st],zbx x.non,x.tag.l]).flatten):=Bs.of_blk hFz3_1 rfl hFz3_2 (Nat.le_refl _) (zcw hna2) (Nat.le_refl _) (Nat.lt_succ_self _)
  rw [show zV ([[UInt8.ofNat x.st],zbx x.non,x.tag.l])=45 from by simp [zV,zbx,x.tag.h]]
  have hX3:Ext w3 w7:=(((hEw4.trans hEw5).trans hEw6).trans hEw7)
  refine ⟨.inr hX3, ?_⟩
  refine zg (hw:=hX3) hT423 [(10,2,(.slice (pA a2 0) 45 45)),(11,3,(vI 0))] 2 (zD (zb (zj (zm (.tuple #[(.slice (pA a2 0) 45 45),(vI 0)]) ?_))))
  have hX4:Ext w w7:=(((hEw1.trans hEw2).trans hEw3).trans hX3)
  have hz:=hSa2
  rw [show zV ([[UInt8.ofNat x.st],zbx x.non,x.tag.l])=45 from by simp [zV,zbx,x.tag.h],show ([[UInt8.ofNat x.st],zbx x.non,x.tag.l]).flatten=zbV x from by simp [zbV,zb9,zdr]] at hz
  exact ⟨_,rfl,hz.mono (by omega) (by omega),hX4⟩
 ·refine zq (zi0 x.non _) ?_
  rintro _ w8 ⟨a3,rfl,hFz4_0,hEw8⟩
  have hzw8:=hEw8.size
  refine ⟨.inr hEw8, ?_⟩
  refine zx 2 (zab (Instr.buildSlice 23 1 #[(0,(vB x.st))]) (.slice (pA w8.heap.size 0) 1 1) [(vB x.st)] 5 ?_)
  intro w9 hBw9 hEw9 hzw9 hlw9
  have hSw9:Bs w8.heap.size (w8.heap.size+1) w9 (pA w8.heap.size 0) 1 1 [UInt8.ofNat x.st]:=Bs.of_blk hBw9 (zcS x.hst) rfl (Nat.le_refl _) (by decide) (Nat.le_refl _) (Nat.lt_succ_self _)
  have hX5:Ext w3 w9:=(hEw8.trans hEw9)
  refine ⟨.inr hX5, ?_⟩
  refine zx 8 (zab (Instr.buildSlice 190 3 #[(0,(.slice (pA w8.heap.size 0) 1 1)),(1,(.slice a3 12 12)),(2,(.slice (pA w.heap.size 3) 32 32))]) (.slice (pA w9.heap.size 0) 3 3) [(.slice (pA w8.heap.size 0) 1 1),(.slice a3 12 12),(.slice (pA w.heap.size 3) 32 32)] 23 ?_)
  intro w10 hBw10 hEw10 hzw10 hlw10
  have hK2:=(((hS1.ext hEw8).ext hEw9).ext hEw10)
  have hSw10:Ps 0 w10.heap.size w10 (pA w9.heap.size 0) 3 3 [(.slice (pA w8.heap.size 0) 1 1),(.slice a3 12 12),(.slice (pA w.heap.size 3) 32 32)] [[UInt8.ofNat x.st],zbx x.non,x.tag.l]:=Ps.of_new hBw10 rfl (by decide) (za7.cons (zc1.at (hSw9.ext hEw10)) (za7.cons (zc1.at ((hFz4_0.ext hEw9).ext hEw10)) (za7.cons (zc1.at hK2) za7.nil)))
  have hX6:Ext w3 w10:=((hEw8.trans hEw9).trans hEw10)
  refine ⟨.inr hX6, ?_⟩
  refine zx 9 (zq (ziG _ hSw10 (by simp [zV,zbx,x.tag.h])) ?_)
  rintro _ w11 ⟨a4,rfl,hFz5_0,hFz5_1,hFz5_2,hFz5_3,hEw11⟩
  have hzw11:=hEw11.size
  have hla4:=hFz5_1.lt;have hna4:=hFz5_3
  have hSa4:Bs a4 (a4+1) w11 (pA a4 0) (zV ([[UInt8.ofNat x.st],zbx x.non,x.tag.l])) (zV ([[UInt8.ofNat x.st],zbx x.non,x.tag.l])) (([[UInt8.ofNat x.st],zbx x.non,x.tag.l]).flatten):=Bs.of_blk hFz5_1 rfl hFz5_2 (Nat.le_refl _) (zcw hna4) (Nat.le_refl _) (Nat.lt_succ_self _)
  rw [show zV ([[UInt8.ofNat x.st],zbx x.non,x.tag.l])=45 from by simp [zV,zbx,x.tag.h]]
  have hX7:Ext w3 w11:=(((hEw8.trans hEw9).trans hEw10).trans hEw11)
  refine ⟨.inr hX7, ?_⟩
  refine zg (hw:=hX7) hT423 [(10,2,(.slice (pA a4 0) 45 45)),(11,3,(vI 0))] 2 (zD (zb (zj (zm (.tuple #[(.slice (pA a4 0) 45 45),(vI 0)]) ?_))))
  have hX8:Ext w w11:=(((hEw1.trans hEw2).trans hEw3).trans hX7)
  have hz:=hSa4
  rw [show zV ([[UInt8.ofNat x.st],zbx x.non,x.tag.l])=45 from by simp [zV,zbx,x.tag.h],show ([[UInt8.ofNat x.st],zbx x.non,x.tag.l]).flatten=zbV x from by simp [zbV,zb9,zdr]] at hz
  exact ⟨_,rfl,hz.mono (by omega) (by omega),hX8⟩
theorem zn2 (x:Ent) (w:World) (hp0:zba x=0):
  Calls Tryz.prog 118 #[(vA (zaj x))] w (Ret fun r w'=>∃a0,r=(.tuple #[(.slice a0 33 33),(vI 0)])∧Bs w.heap.size w'.heap.size w' a0 33 33 (zb9 x)∧Ext w w'):=by
 refine zC (n:=17) (σ:= [(0,(vA (zaj x)))]) Tryz.func118 rfl ?_
 refine ze (zd (za (zab (Instr.box 71 (vA (zaj x))) (vP w.heap.size 0) (zaj x) 71 ?_)))
 intro w1 hBw1 hEw1 hzw1 hlw1
 refine zc 2 [(3,(vI 0)),(2,(.slice none 0 0))] (zf (zb (ze (ze (zd (za (zS w.heap.size 0 (hBw1.all) (zaK _) ?_)))))))
 refine za (zq (zhA x _) ?_)
 rintro _ w2 ⟨rfl,hEw2⟩
 have hzw2:=hEw2.size
 refine zc 1 [(4,(vI (zba x)))] (zf (zb (ze (zd (zc 1 [(7,(vI (zba x)))] (za (zah (some 8) (((zba x:Nat):Int) !=((0:Nat):Int)) false (zaE) ?_)))))))
 refine zf (zb (zh (zo (zb (ze (zaa 9 (fun w3 hEw3 hzw3 hT508=> ?_)))))))
 refine zg hT508 [(0,10,(vP w.heap.size 0))] 1 (zt hT508 1 w.heap.size 0 (fun w' hC=>((((hBw1.ext hEw2).ext hEw3).ext hC).cell rfl)) (zg hT508 [(3,13,(vP w.heap.size 1))] 1 (zk hT508 4 (.slice (pA w.heap.size 1) 32 32) (zae (Instr.sliceAt 59 (vP w.heap.size 1) none none none) (fun w' hC=>ziT (E:=5) (sz:=1) (m:=32))) ?_)))
 have hS1:Bs w.heap.size (w.heap.size+1) w3 (pA w.heap.size 1) 32 32 x.dg.l:=Bs.of_at (((hBw1.ext hEw2).ext hEw3).at 1 (zQ x.dg) (zfU _)) (((hBw1.ext hEw2).ext hEw3)).lt x.dg.h.symm (by decide) (by omega) (by omega)
 refine zx 2 (zab (Instr.buildSlice 23 1 #[(0,(vB x.st))]) (.slice (pA w3.heap.size 0) 1 1) [(vB x.st)] 5 ?_)
 intro w4 hBw4 hEw4 hzw4 hlw4
 have hSw4:Bs w3.heap.size (w3.heap.size+1) w4 (pA w3.heap.size 0) 1 1 [UInt8.ofNat x.st]:=Bs.of_blk hBw4 (zcS x.hst) rfl (Nat.le_refl _) (by decide) (Nat.le_refl _) (Nat.lt_succ_self _)
 refine ⟨.inr hEw4, ?_⟩
 refine zx 5 (zab (Instr.buildSlice 190 2 #[(0,(.slice (pA w3.heap.size 0) 1 1)),(1,(.slice (pA w.heap.size 1) 32 32))]) (.slice (pA w4.heap.size 0) 2 2) [(.slice (pA w3.heap.size 0) 1 1),(.slice (pA w.heap.size 1) 32 32)] 23 ?_)
 intro w5 hBw5 hEw5 hzw5 hlw5
 have hSw5:Ps 0 w5.heap.size w5 (pA w4.heap.size 0) 2 2 [(.slice (pA w3.heap.size 0) 1 1),(.slice (pA w.heap.size 1) 32 32)] [[UInt8.ofNat x.st],x.dg.l]:=Ps.of_new hBw5 rfl (by decide) (za7.cons (zc1.at (hSw4.ext hEw5)) (za7.cons (zc1.at ((hS1.ext hEw4).ext hEw5)) za7.nil))
 have hX1:Ext w3 w5:=(hEw4.trans hEw5)
 refine ⟨.inr hX1, ?_⟩
 refine zx 6 (zq (ziG _ hSw5 (by simp [zV,zbx,x.dg.h])) ?_)
 rintro _ w6 ⟨a1,rfl,hFz2_0,hFz2_1,hFz2_2,hFz2_3,hEw6⟩
 have hzw6:=hEw6.size
 have hla1:=hFz2_1.lt;have hna1:=hFz2_3
 have hSa1:Bs a1 (a1+1) w6 (pA a1 0) (zV ([[UInt8.ofNat x.st],x.dg.l])) (zV ([[UInt8.ofNat x.st],x.dg.l])) (([[UInt8.ofNat x.st],x.dg.l]).flatten):=Bs.of_blk hFz2_1 rfl hFz2_2 (Nat.le_refl _) (zcw hna1) (Nat.le_refl _) (Nat.lt_succ_self _)
 rw [show zV ([[UInt8.ofNat x.st],x.dg.l])=33 from by simp [zV,zbx,x.dg.h]]
 have hX2:Ext w3 w6:=((hEw4.trans hEw5).trans hEw6)
 refine ⟨.inr hX2, ?_⟩
 refine zg (hw:=hX2) hT508 [(7,2,(.slice (pA a1 0) 33 33)),(8,3,(vI 0))] 2 (zD (zb (zj (zm (.tuple #[(.slice (pA a1 0) 33 33),(vI 0)]) ?_))))
 have hX3:Ext w w6:=(((((hEw1.trans hEw2).trans hEw3).trans hEw4).trans hEw5).trans hEw6)
 have hz:=hSa1
 rw [show zV ([[UInt8.ofNat x.st],x.dg.l])=33 from by simp [zV,zbx,x.dg.h],show ([[UInt8.ofNat x.st],x.dg.l]).flatten=zb9 x from by simp [zbV,zb9,zdr]] at hz
 exact ⟨_,rfl,hz.mono (by omega) (by omega),hX3⟩
end Go.Proofs.YtkmhgepdhilllaaGreatDoor
namespace Go.Proofs.YtkmhgepdhilllaaGreatDoor
open Go Go.RowKit Go.Cs
set_option maxRecDepth 100000
end Go.Proofs.YtkmhgepdhilllaaGreatDoor
namespace Go.Proofs.YtkmhgepdhilllaaGreatDoor
open Go Go.RowKit Go.Cs
set_option maxRecDepth 100000
end Go.Proofs.YtkmhgepdhilllaaGreatDoor
namespace Go.Proofs.YtkmhgepdhilllaaGreatDoor
open Go Go.RowKit Go.Cs
set_option maxRecDepth 100000
theorem zmy (n:Nat) (w:World) (hp0:1≤n) (hp1:n≤4096):
  Calls Tryz.prog 124 #[(vI n)] w (Ret fun r w'=>r=(vI 0)∧w=w'):=by
 refine zC (n:=9) (σ:= [(0,(vI n))]) Tryz.func124 rfl ?_
 refine ze (zd (zc 1 [(2,(vI 0))] (zf (zb (ze (ze (zd (zc 1 [(3,(vI n))] (za (zah (some 4) (decide (((n:Nat):Int)<((1:Nat):Int))) false (zcL) ?_))))))))))
 refine zc 2 [(6,(vI n)),(5,vF)] (za (zah (some 7) (decide (((n:Nat):Int)>((4096:Nat):Int))) false (zcL) ?_))
 refine zc 1 [(8,vF)] (zf (zb (zh (zo (zb (ze (zd (zc 1 [(2,(vI 0))] (zf ?_)))))))))
 exact zb (zj (zm (vI 0) (⟨rfl,rfl⟩)))
theorem zph (n:Int) (w:World) (hp0:n<1):
  Calls Tryz.prog 124 #[(.int .i64 n)] w (Ret fun r w'=>r=(vI 1)∧w=w'):=by
 refine zC (n:=9) (σ:= [(0,(.int .i64 n))]) Tryz.func124 rfl ?_
 refine ze (zd (zc 1 [(2,(vI 0))] (zf (zb (ze (ze (zd (zc 1 [(3,(.int .i64 n))] (za (zah (some 4) (decide (n<((1:Nat):Int))) true (zga) ?_))))))))))
 refine zc 4 [(8,vT),(7,undef),(6,undef),(5,vT)] (zf (zb (zv (ze (zd (zc 1 [(2,(vI 1))] (zf (zb (zj ?_)))))))))
 exact zw (zm (vI 1) (⟨rfl,rfl⟩))
theorem zok (n:Int) (w:World) (hp0:n>4096):
  Calls Tryz.prog 124 #[(.int .i64 n)] w (Ret fun r w'=>r=(vI 1)∧w=w'):=by
 refine zC (n:=9) (σ:= [(0,(.int .i64 n))]) Tryz.func124 rfl ?_
 refine ze (zd (zc 1 [(2,(vI 0))] (zf (zb (ze (ze (zd (zc 1 [(3,(.int .i64 n))] (za (zah (some 4) (decide (n<((1:Nat):Int))) false (zcL) ?_))))))))))
 refine zc 2 [(6,(.int .i64 n)),(5,vF)] (za (zah (some 7) (decide (n>((4096:Nat):Int))) true (zga) ?_))
 refine zc 1 [(8,vT)] (zf (zb (zv (ze (zd (zc 1 [(2,(vI 1))] (zf (zb (zj ?_)))))))))
 exact zw (zm (vI 1) (⟨rfl,rfl⟩))
theorem znC (n:Int) (w:World) (hp0:¬(1≤n∧n≤4096)):
  Calls Tryz.prog 124 #[(.int .i64 n)] w (Ret fun r w'=>r=(vI 1)∧w=w'):=by
 by_cases h:n<1
 ·exact zph n w h
 ·exact zok n w (by omega)
theorem zmV (n:Nat) (w:World) (hp0:n≤4096):
  Calls Tryz.prog 143 #[(vI n)] w (Ret fun r w'=>r=(vI (up4 n))∧w=w'):=by
 refine zC (n:=7) (σ:= [(0,(vI n))]) Tryz.func143 rfl ?_
 refine ze (zd (zc 1 [(2,(vI 0))] (zf (zb (ze (zd (zc 1 [(3,(vI n))] (za (zn (some 4) .i64 (IntKind.i64.wrap (((n:Nat):Int)+((4:Nat):Int))) (n+4) (zu) ?_)))))))))
 refine za (zn (some 5) .i64 (IntKind.i64.wrap (((n+4:Nat):Int)-((1:Nat):Int))) (n+3) (zu) ?_)
 refine za (zn (some 6) .i64 (IntKind.i64.wrap (((n+3:Nat):Int).tdiv ((4:Nat):Int))) ((n+3)/4) (zu (zed _ _)) ?_)
 exact zc 1 [(2,(vI ((n+3)/4)))] (zf (zb (zj (zm (vI ((n+3)/4)) (⟨rfl,rfl⟩)))))
theorem zqs (n:Nat) (w:World) (hp0:1≤n) (hp1:n≤4096):
  Calls Tryz.prog 130 #[(vI n)] w (Ret fun r w'=>∃a0 ca0,r=(.slice a0 (hgt n+1) ca0)∧Es (nv .i64) w.heap.size w'.heap.size w' a0 (hgt n+1) ca0 (cts n)∧Ext w w'):=by
 refine zC (n:=18) (σ:= [(0,(vI n))]) Tryz.func130 rfl ?_
 refine ze (zd (zc 1 [(2,(.slice none 0 0))] (zf (zb (ze (zd (za (zaf (List.replicate 6 (vI 0)) 224 ?_))))))))
 intro w1 hBw1 hEw1 hzw1 hlw1
 refine zf (zb (ze (zd (za (zaM (Instr.sliceAt 224 (vP w.heap.size 0) (some (vI 0)) (some (vI 0)) (some (vI 6))) (.slice (pA w.heap.size 0) 0 6) (zpo (len:=6) (E:=3) (sz:=1) (l:=0) (r:=0) (m:=6) (.inr ⟨_,rfl⟩) (.inr ⟨_,rfl⟩) (.inr ⟨_,rfl⟩) (by simp) (by omega) (by omega) (by omega)) ?_)))))
 refine zc 1 [(4,(.slice (pA w.heap.size 0) 0 6))] (zf (zb (ze (zd (zc 1 [(7,(vI n))] (za (zq (zmV n _ (by omega)) ?_)))))))
 rintro _ _ ⟨rfl,rfl⟩
 refine zc 1 [(5,(vI (up4 n)))] (zf (zb (zr (zW (X:=Nat) (fun k=> [(4,(.slice (pA w.heap.size 0) k 6)),(5,(vI (cnt n k)))]) [2,9,10,11,12,13,14,15,16,17] (fun k w2=>k≤hgt n∧Blk w2 w.heap.size (((cts n).take k).map (nv .i64)++List.replicate (6-k) (vI 0)) 224∧Ext w w2) (fun k=>hgt n-k) 0 (by kernel_rfl) ⟨by omega,hBw1,hEw1⟩ ?_))))
 rintro k dw2 w2 ⟨hk,hBl,hEl⟩
 have hzl:=hEl.size;have hll:=hBl.lt;have h5:=zat n;have hcn:=zbr n k
 refine ze (zr (ze (zd (zc 2 [(12,(vI (cnt n k))),(11,(.slice (pA w.heap.size 0) k 6))] (za (zab (Instr.buildSlice 29 1 #[(0,(vI (cnt n k)))]) (.slice (pA w2.heap.size 0) 1 1) [(vI (cnt n k))] 3 ?_))))))
 intro w3 hBw3 hEw3 hzw3 hlw3
 have hSw3:Es (nv .i64) w2.heap.size (w2.heap.size+1) w3 (pA w2.heap.size 0) 1 1 ([cnt n k]):=Es.of_blk hBw3 rfl rfl (Nat.le_refl _) (by decide) (Nat.le_refl _) (Nat.lt_succ_self _)
 refine za (zdd (some 14) 29 29 3 1 w.heap.size k 6 ⟨w2.heap.size,0,none⟩ 1 1 (hBl.ext hEw3) hSw3.sla rfl (by simp [nv,Value.oneCell']) (by simp [zeh];omega) ?_)
 intro w4 hBw4 hCw4
 have hzw4:=hCw4.size
 replace hBw4:Blk w4 w.heap.size (((cts n).take (k+1)).map (nv .i64)++List.replicate (6-(k+1)) (vI 0)) 224:=zsG hk▸hBw4
 refine zc 1 [(4,(.slice (pA w.heap.size 0) (k+1) 6))] (zf (zb (ze (zd (zc 1 [(15,(vI (cnt n k)))] (za (zE (some 16) ((((cnt n k:Nat):Int)==((1:Nat):Int))) (fun hc16=> ?_) (fun hc16=> ?_))))))))
 ·replace hc16:cnt n k=1:=by have:=zbD hc16;omega
  obtain rfl:=(zgo hp0 hp1 hk).1 hc16
  refine zf (zb (zv (ze (zd (zc 2 [(2,(.slice (pA w.heap.size 0) (hgt n+1) 6)),(17,(.slice (pA w.heap.size 0) (hgt n+1) 6))] (zf (zb (zj (zA ?_)))))))))
  refine zw (zw (zA (zm (.slice (pA w.heap.size 0) (hgt n+1) 6) ?_)))
  have hBf:=hBw4
  rw [List.take_of_length_le (by rw [zeh];omega)] at hBf
  exact ⟨_,_,rfl,Es.of_pre hBf (zeh n).symm (by omega) (by decide) (by omega) (by omega),(Ext.own (hEl.trans hEw3) hCw4 (by omega))⟩
 ·replace hc16:¬(cnt n k=1):=by have:=zbC hc16;omega
  have hlt:k<hgt n:=by rcases Nat.lt_or_ge k (hgt n) with h | h;exact h;exact absurd ((zgo hp0 hp1 hk).2 (by omega)) hc16
  refine zf (zb (zh (zo (zi (zb (zd (zc 1 [(9,(vI (cnt n k)))] (za (zq (zmV (cnt n k) _ (by omega)) ?_)))))))))
  rintro _ _ ⟨rfl,rfl⟩
  refine zc 1 [(5,(vI (up4 (cnt n k))))] (zf (zz (zL (k+1) ?_ ?_)))
  ·exact ⟨by omega,hBw4,(Ext.own (hEl.trans hEw3) hCw4 (by omega))⟩
  ·first | omega |(dsimp only;omega)
theorem zjA (n:Nat) (w:World) (hp0:1≤n) (hp1:n≤4096):
  Calls Tryz.prog 107 #[(vI n)] w (Ret fun r w'=>∃a1 ca1,r=(.tuple #[(vA [(vI n),(.slice a1 (hgt n+1) ca1)]),(vI 0)])∧Es (nv .i64) w.heap.size w'.heap.size w' a1 (hgt n+1) ca1 (cts n)∧Ext w w'):=by
 refine zC (n:=15) (σ:= [(0,(vI n))]) Tryz.func107 rfl ?_
 refine ze (zd (za (zaf ([(vI 0),(.slice none 0 0)]) 179 ?_)))
 intro w1 hBw1 hEw1 hzw1 hlw1
 refine zc 1 [(3,(vI 0))] (zf (zb (ze (ze (zd (zc 1 [(5,(vI n))] (za (zq (zmy n _ (by omega) (by omega)) ?_))))))))
 rintro _ _ ⟨rfl,rfl⟩
 refine zc 1 [(4,(vI 0))] (zf (zb (ze (zd (zc 2 [(8,vF),(7,(vI 0))] (zf (zb (zh (zo ?_)))))))))
 refine zb (ze (zd (zc 2 [(12,(vI n)),(11,(vI n))] (za (zq (zqs n _ (by omega) (by omega)) ?_)))))
 rintro _ w2 ⟨a1,ca1,rfl,hFz2_0,hEw2⟩
 have hzw2:=hEw2.size
 have hlea1:=hFz2_0.le
 refine zc 1 [(14,(vA [(vI n),(.slice a1 (hgt n+1) ca1)]))] (za (zG 179 w.heap.size 0 179 (vA [(vI n),(.slice a1 (hgt n+1) ca1)]) ([(vI 0),(.slice none 0 0)]) ([(vI n),(.slice a1 (hgt n+1) ca1)]) (hBw1.ext hEw2) (by kernel_rfl) (by first | decide |(simp;done)|(simp;omega)) (by simp [Value.oneCell']) ?_))
 intro w3 hBw3 hCw3
 have hzw3:=hCw3.size
 rw [zy _ _ (by kernel_rfl)] at hBw3
 exact zc 1 [(3,(vI 0))] (zf (zb (zj (za6 (show zX Tryz.prog 15 _ _ (.cell 2 179) (vA [(vI n),(.slice a1 (hgt n+1) ca1)]) from ⟨⟨w.heap.size,0,none⟩,(by kernel_rfl),zI (T:=179) (vs:= [(vI n),(.slice a1 (hgt n+1) ca1)]) (hBw3).all (by kernel_rfl)⟩) (show zX Tryz.prog 15 _ _ (.tmp 3) (vI 0) by (show _=_;kernel_rfl)) (⟨_,_,rfl,((hFz2_0.chg hCw3)).now.mono (by omega) (Nat.le_refl _),(Ext.own (hEw1.trans hEw2) hCw3 (by omega))⟩)))))
theorem zmZ (n:Int) (w:World) (hp0:¬(1≤n∧n≤4096)):
  Calls Tryz.prog 107 #[(.int .i64 n)] w (Ret fun r w'=>r=(.tuple #[(vA [(vI 0),(.slice none 0 0)]),(vI 1)])∧Ext w w'):=by
 refine zC (n:=15) (σ:= [(0,(.int .i64 n))]) Tryz.func107 rfl ?_
 refine ze (zd (za (zaf ([(vI 0),(.slice none 0 0)]) 179 ?_)))
 intro w1 hBw1 hEw1 hzw1 hlw1
 refine zc 1 [(3,(vI 0))] (zf (zb (ze (ze (zd (zc 1 [(5,(.int .i64 n))] (za (zq (znC n _ (by omega)) ?_))))))))
 rintro _ _ ⟨rfl,rfl⟩
 refine zc 1 [(4,(vI 1))] (zf (zb (ze (zd (zc 2 [(8,vT),(7,(vI 1))] (zf (zb (zv (ze ?_)))))))))
 refine zd (zc 2 [(10,(vI 1)),(9,(vA [(vI 0),(.slice none 0 0)]))] (za (zG 179 w.heap.size 0 179 (vA [(vI 0),(.slice none 0 0)]) ([(vI 0),(.slice none 0 0)]) ([(vI 0),(.slice none 0 0)]) hBw1 (by kernel_rfl) (by first | decide |(simp;done)|(simp;omega)) (by simp [Value.oneCell']) ?_)))
 intro w2 hBw2 hCw2
 have hzw2:=hCw2.size
 rw [zy _ _ (by kernel_rfl)] at hBw2
 exact zc 1 [(3,(vI 1))] (zf (zb (zj (zw (za6 (show zX Tryz.prog 15 _ _ (.cell 2 179) (vA [(vI 0),(.slice none 0 0)]) from ⟨⟨w.heap.size,0,none⟩,(by kernel_rfl),zI (T:=179) (vs:= [(vI 0),(.slice none 0 0)]) (hBw2).all (by kernel_rfl)⟩) (show zX Tryz.prog 15 _ _ (.tmp 3) (vI 1) by (show _=_;kernel_rfl)) (⟨rfl,(Ext.own hEw1 hCw2 (by omega))⟩))))))
end Go.Proofs.YtkmhgepdhilllaaGreatDoor
namespace Go.Proofs.YtkmhgepdhilllaaGreatDoor
open Go Go.RowKit Go.Cs
set_option maxRecDepth 100000
theorem ztk (n:Nat) (l:Nat) (j:Nat) (w:World) (hp0:1≤n) (hp1:n≤4096) (hp2:l≤hgt n) (hp3:j<cnt n l):
  Calls Tryz.prog 108 #[(vI n),(vA [(vI l),(vI j)])] w (Ret fun r w'=>∃a1 ca1,r=(.tuple #[(vA [(vI n),(.slice a1 (hgt n+1) ca1)]),(vI 0)])∧Es (nv .i64) w.heap.size w'.heap.size w' a1 (hgt n+1) ca1 (cts n)∧Ext w w'):=by
 refine zC (n:=46) (σ:= [(0,(vI n)),(1,(vA [(vI l),(vI j)]))]) Tryz.func108 rfl ?_
 have h5:=zat n
 refine ze (zd (za (zab (Instr.box 89 (vA [(vI l),(vI j)])) (vP w.heap.size 0) ([(vI l),(vI j)]) 89 ?_)))
 intro w1 hBw1 hEw1 hzw1 hlw1
 refine za (zaf ([(vI 0),(.slice none 0 0)]) 179 ?_)
 intro w2 hBw2 hEw2 hzw2 hlw2
 refine zc 1 [(5,(vI 0))] (zf (zb (ze (zd (zc 1 [(9,(vI n))] (za (zq (zjA n _ (by omega) (by omega)) ?_)))))))
 rintro _ w3 ⟨a1,ca1,rfl,hFz1_0,hEw3⟩
 have hzw3:=hEw3.size
 have hlea1:=hFz1_0.le
 refine zc 3 [(12,(vI 0)),(11,(vA [(vI n),(.slice a1 (hgt n+1) ca1)])),(8,(.tuple #[(vA [(vI n),(.slice a1 (hgt n+1) ca1)]),(vI 0)]))] (zan ([(vI n),(.slice a1 (hgt n+1) ca1)]) 179 rfl (by simp [Value.oneCell']) ?_)
 intro w4 hBw4 hEw4 hzw4 hlw4
 refine zc 1 [(7,(vI 0))] (zf (zb (ze (ze (zaa 31 (fun w5 hEw5 hzw5 hT28=> ?_))))))
 refine zg hT28 [(0,13,(vI 0))] 1 (zk hT28 1 vT (zaJ (((0:Nat):Int)==((0:Nat):Int)) (zau)) (zg hT28 [(2,15,vT),(3,16,(vP w.heap.size 0))] 2 ?_))
 have hK1:=((((hBw1.ext hEw2).ext hEw3).ext hEw4).ext hEw5)
 refine zt hT28 4 w.heap.size 0 (fun w' hC=>((hK1.ext hC).cell rfl)) (zk hT28 5 vF (zaJ (decide (((l:Nat):Int)<((0:Nat):Int))) (zcL)) (zg hT28 [(6,19,vF),(7,20,(vP w.heap.size 0))] 2 (zt hT28 8 w.heap.size 0 (fun w' hC=>((hK1.ext hC).cell rfl)) (zg hT28 [(9,22,(vP w3.heap.size 1))] 1 (zt hT28 10 w3.heap.size 1 (fun w' hC=>(((hBw4.ext hEw5).ext hC).cell rfl)) (zg hT28 [(11,24,(vI (hgt n+1)))] 1 (zk hT28 12 vF (zaJ (decide (((l:Nat):Int)≥((hgt n+1:Nat):Int))) (zcL)) (zg hT28 [(13,26,vF),(14,27,vF),(15,28,(vP w.heap.size 1))] 3 (zt hT28 16 w.heap.size 1 (fun w' hC=>((hK1.ext hC).cell rfl)) ?_)))))))))
 refine zk hT28 17 vF (zaJ (decide (((j:Nat):Int)<((0:Nat):Int))) (zcL)) (zg hT28 [(18,31,vF),(19,32,vF),(20,33,(vP w.heap.size 1))] 3 (zt hT28 21 w.heap.size 1 (fun w' hC=>((hK1.ext hC).cell rfl)) (zg hT28 [(22,35,(vP w3.heap.size 1))] 1 (zt hT28 23 w3.heap.size 1 (fun w' hC=>(((hBw4.ext hEw5).ext hC).cell rfl)) (zg hT28 [(24,37,(vP w.heap.size 0))] 1 (zt hT28 25 w.heap.size 0 (fun w' hC=>((hK1.ext hC).cell rfl)) ?_))))))
 obtain ⟨b1,o1,rfl⟩:=hFz1_0.addr (by omega)
 refine zag hT28 26 b1 o1 (hgt n+1) ca1 l 1 (zt hT28 27 b1 (o1+l*1) (fun w' hC=>((((hFz1_0.ext hEw4).ext hEw5).ext hC).celln (by omega))) (zk hT28 28 vF (zaJ (decide (((j:Nat):Int)≥((gt (cts n) l:Nat):Int))) (zcL (by rw [zi4 hp2];omega))) (zg hT28 [(29,42,vF),(30,43,vF)] 2 (zD (zb (zh (zo (zb (ze ?_)))))))))
 refine zd (za (zT w3.heap.size 0 ((hBw4.ext hEw5).all) ?_))
 refine zc 1 [(45,(vI 0))] ?_
 have hK2:=(((hBw2.ext hEw3).ext hEw4).ext hEw5)
 refine za (zG 179 w1.heap.size 0 179 (vA [(vI n),(.slice (pA b1 o1) (hgt n+1) ca1)]) ([(vI 0),(.slice none 0 0)]) ([(vI n),(.slice (pA b1 o1) (hgt n+1) ca1)]) hK2 (by kernel_rfl) (by first | decide |(simp;done)|(simp;omega)) (by simp [Value.oneCell']) ?_)
 have hK3:=(((hBw2.ext hEw3).ext hEw4).ext hEw5)
 intro w6 hBw6 hCw6
 have hzw6:=hCw6.size
 rw [zy _ _ (by kernel_rfl)] at hBw6
 refine zc 1 [(5,(vI 0))] (zf (zb (zj (za6 (show zX Tryz.prog 46 _ _ (.cell 4 179) (vA [(vI n),(.slice (pA b1 o1) (hgt n+1) ca1)]) from ⟨⟨w1.heap.size,0,none⟩,(by kernel_rfl),zI (T:=179) (vs:= [(vI n),(.slice (pA b1 o1) (hgt n+1) ca1)]) (hBw6).all (by kernel_rfl)⟩) (show zX Tryz.prog 46 _ _ (.tmp 5) (vI 0) by (show _=_;kernel_rfl)) ?_))))
 have hK4:=(((hFz1_0.ext hEw4).ext hEw5).chg hCw6)
 have hX1:Ext w w6:=(Ext.own ((((hEw1.trans hEw2).trans hEw3).trans hEw4).trans hEw5) hCw6 (by omega))
 exact ⟨_,_,rfl,(hK4).now.mono (by omega) (Nat.le_refl _),hX1⟩
theorem zuc (n:Int) (l:Int) (j:Int) (w:World) (hp0:¬(1≤n∧n≤4096)):
  Calls Tryz.prog 108 #[(.int .i64 n),(vA [(.int .i64 l),(.int .i64 j)])] w (Ret fun r w'=>∃(a0:Int) (a1:Option Addr) (na1:Nat) (ca1:Nat),r=(.tuple #[(vA [(.int .i64 a0),(.slice a1 na1 ca1)]),(vI 1)])∧Ext w w'):=by
 refine zC (n:=46) (σ:= [(0,(.int .i64 n)),(1,(vA [(.int .i64 l),(.int .i64 j)]))]) Tryz.func108 rfl ?_
 refine ze (zd (za (zab (Instr.box 89 (vA [(.int .i64 l),(.int .i64 j)])) (vP w.heap.size 0) ([(.int .i64 l),(.int .i64 j)]) 89 ?_)))
 intro w1 hBw1 hEw1 hzw1 hlw1
 refine za (zaf ([(vI 0),(.slice none 0 0)]) 179 ?_)
 intro w2 hBw2 hEw2 hzw2 hlw2
 refine zc 1 [(5,(vI 0))] (zf (zb (ze (zd (zc 1 [(9,(.int .i64 n))] (za (zq (zmZ n _ (by omega)) ?_)))))))
 rintro _ w3 ⟨rfl,hEw3⟩
 have hzw3:=hEw3.size
 refine zc 3 [(12,(vI 1)),(11,(vA [(vI 0),(.slice none 0 0)])),(8,(.tuple #[(vA [(vI 0),(.slice none 0 0)]),(vI 1)]))] (zan ([(vI 0),(.slice none 0 0)]) 179 rfl (by simp [Value.oneCell']) ?_)
 intro w4 hBw4 hEw4 hzw4 hlw4
 refine zc 1 [(7,(vI 1))] (zf (zb (ze (ze (zaa 31 (fun w5 hEw5 hzw5 hT60=> ?_))))))
 refine zg hT60 [(0,13,(vI 1))] 1 (zk hT60 1 vF (zaJ (((1:Nat):Int)==((0:Nat):Int)) (zct)) (zg hT60 [(2,15,vF),(3,16,undef),(4,17,undef),(5,18,undef),(6,19,undef),(7,20,undef),(8,21,undef),(9,22,undef),(10,23,undef),(11,24,undef),(12,25,undef),(13,26,undef),(14,27,undef),(15,28,undef),(16,29,undef),(17,30,undef),(18,31,undef),(19,32,undef),(20,33,undef),(21,34,undef),(22,35,undef),(23,36,undef),(24,37,undef),(25,38,undef),(26,39,undef),(27,40,undef),(28,41,undef),(29,42,undef),(30,43,vF)] 29 (zD (zb (zh (zo (zb (ze (zd ?_)))))))))
 refine za (zT w3.heap.size 0 ((hBw4.ext hEw5).all) ?_)
 refine zc 1 [(45,(vI 1))] ?_
 have hK1:=(((hBw2.ext hEw3).ext hEw4).ext hEw5)
 refine za (zG 179 w1.heap.size 0 179 (vA [(vI 0),(.slice none 0 0)]) ([(vI 0),(.slice none 0 0)]) ([(vI 0),(.slice none 0 0)]) hK1 (by kernel_rfl) (by first | decide |(simp;done)|(simp;omega)) (by simp [Value.oneCell']) ?_)
 have hK2:=(((hBw2.ext hEw3).ext hEw4).ext hEw5)
 intro w6 hBw6 hCw6
 have hzw6:=hCw6.size
 rw [zy _ _ (by kernel_rfl)] at hBw6
 refine zc 1 [(5,(vI 1))] (zf (zb (zj (za6 (show zX Tryz.prog 46 _ _ (.cell 4 179) (vA [(vI 0),(.slice none 0 0)]) from ⟨⟨w1.heap.size,0,none⟩,(by kernel_rfl),zI (T:=179) (vs:= [(vI 0),(.slice none 0 0)]) (hBw6).all (by kernel_rfl)⟩) (show zX Tryz.prog 46 _ _ (.tmp 5) (vI 1) by (show _=_;kernel_rfl)) ?_))))
 have hX1:Ext w w6:=(Ext.own ((((hEw1.trans hEw2).trans hEw3).trans hEw4).trans hEw5) hCw6 (by omega))
 exact ⟨_,_,_,_,rfl,hX1⟩
theorem zum (n:Nat) (l:Int) (j:Int) (w:World) (hp0:1≤n) (hp1:n≤4096) (hp2:l<0):
  Calls Tryz.prog 108 #[(vI n),(vA [(.int .i64 l),(.int .i64 j)])] w (Ret fun r w'=>∃(a0:Int) (a1:Option Addr) (na1:Nat) (ca1:Nat),r=(.tuple #[(vA [(.int .i64 a0),(.slice a1 na1 ca1)]),(vI 1)])∧Ext w w'):=by
 refine zC (n:=46) (σ:= [(0,(vI n)),(1,(vA [(.int .i64 l),(.int .i64 j)]))]) Tryz.func108 rfl ?_
 refine ze (zd (za (zab (Instr.box 89 (vA [(.int .i64 l),(.int .i64 j)])) (vP w.heap.size 0) ([(.int .i64 l),(.int .i64 j)]) 89 ?_)))
 intro w1 hBw1 hEw1 hzw1 hlw1
 refine za (zaf ([(vI 0),(.slice none 0 0)]) 179 ?_)
 intro w2 hBw2 hEw2 hzw2 hlw2
 refine zc 1 [(5,(vI 0))] (zf (zb (ze (zd (zc 1 [(9,(vI n))] (za (zq (zjA n _ (by omega) (by omega)) ?_)))))))
 rintro _ w3 ⟨a1,ca1,rfl,hFz1_0,hEw3⟩
 have hzw3:=hEw3.size
 have hlea1:=hFz1_0.le
 refine zc 3 [(12,(vI 0)),(11,(vA [(vI n),(.slice a1 (hgt n+1) ca1)])),(8,(.tuple #[(vA [(vI n),(.slice a1 (hgt n+1) ca1)]),(vI 0)]))] (zan ([(vI n),(.slice a1 (hgt n+1) ca1)]) 179 rfl (by simp [Value.oneCell']) ?_)
 intro w4 hBw4 hEw4 hzw4 hlw4
 refine zc 1 [(7,(vI 0))] (zf (zb (ze (ze (zaa 31 (fun w5 hEw5 hzw5 hT87=> ?_))))))
 refine zg hT87 [(0,13,(vI 0))] 1 (zk hT87 1 vT (zaJ (((0:Nat):Int)==((0:Nat):Int)) (zau)) (zg hT87 [(2,15,vT),(3,16,(vP w.heap.size 0))] 2 ?_))
 have hK1:=((((hBw1.ext hEw2).ext hEw3).ext hEw4).ext hEw5)
 refine zt hT87 4 w.heap.size 0 (fun w' hC=>((hK1.ext hC).cell rfl)) (zk hT87 5 vT (zaJ (decide (l<((0:Nat):Int))) (zga)) (zg hT87 [(6,19,vT),(7,20,undef),(8,21,undef),(9,22,undef),(10,23,undef),(11,24,undef),(12,25,undef),(13,26,vT),(14,27,vT),(15,28,undef),(16,29,undef),(17,30,undef),(18,31,vT),(19,32,vT),(20,33,undef),(21,34,undef),(22,35,undef),(23,36,undef),(24,37,undef),(25,38,undef),(26,39,undef),(27,40,undef),(28,41,undef),(29,42,vT),(30,43,vT)] 25 (zD (zb (zv (zd (zc 1 [(7,(vI 1))] (zf (zb ?_)))))))))
 refine ze (zd (za (zT w3.heap.size 0 ((hBw4.ext hEw5).all) ?_)))
 refine zc 1 [(45,(vI 1))] ?_
 have hK2:=(((hBw2.ext hEw3).ext hEw4).ext hEw5)
 refine za (zG 179 w1.heap.size 0 179 (vA [(vI n),(.slice a1 (hgt n+1) ca1)]) ([(vI 0),(.slice none 0 0)]) ([(vI n),(.slice a1 (hgt n+1) ca1)]) hK2 (by kernel_rfl) (by first | decide |(simp;done)|(simp;omega)) (by simp [Value.oneCell']) ?_)
 have hK3:=(((hBw2.ext hEw3).ext hEw4).ext hEw5)
 intro w6 hBw6 hCw6
 have hzw6:=hCw6.size
 rw [zy _ _ (by kernel_rfl)] at hBw6
 refine zc 1 [(5,(vI 1))] (zf (zb (zj (za6 (show zX Tryz.prog 46 _ _ (.cell 4 179) (vA [(vI n),(.slice a1 (hgt n+1) ca1)]) from ⟨⟨w1.heap.size,0,none⟩,(by kernel_rfl),zI (T:=179) (vs:= [(vI n),(.slice a1 (hgt n+1) ca1)]) (hBw6).all (by kernel_rfl)⟩) (show zX Tryz.prog 46 _ _ (.tmp 5) (vI 1) by (show _=_;kernel_rfl)) ?_))))
 have hX1:Ext w w6:=(Ext.own ((((hEw1.trans hEw2).trans hEw3).trans hEw4).trans hEw5) hCw6 (by omega))
 exact ⟨_,_,_,_,rfl,hX1⟩
theorem ztw (n:Nat) (l:Int) (j:Int) (w:World) (hp0:1≤n) (hp1:n≤4096) (hp2:(hgt n:Int)<l):
  Calls Tryz.prog 108 #[(vI n),(vA [(.int .i64 l),(.int .i64 j)])] w (Ret fun r w'=>∃(a0:Int) (a1:Option Addr) (na1:Nat) (ca1:Nat),r=(.tuple #[(vA [(.int .i64 a0),(.slice a1 na1 ca1)]),(vI 1)])∧Ext w w'):=by
 refine zC (n:=46) (σ:= [(0,(vI n)),(1,(vA [(.int .i64 l),(.int .i64 j)]))]) Tryz.func108 rfl ?_
 refine ze (zd (za (zab (Instr.box 89 (vA [(.int .i64 l),(.int .i64 j)])) (vP w.heap.size 0) ([(.int .i64 l),(.int .i64 j)]) 89 ?_)))
 intro w1 hBw1 hEw1 hzw1 hlw1
 refine za (zaf ([(vI 0),(.slice none 0 0)]) 179 ?_)
 intro w2 hBw2 hEw2 hzw2 hlw2
 refine zc 1 [(5,(vI 0))] (zf (zb (ze (zd (zc 1 [(9,(vI n))] (za (zq (zjA n _ (by omega) (by omega)) ?_)))))))
 rintro _ w3 ⟨a1,ca1,rfl,hFz1_0,hEw3⟩
 have hzw3:=hEw3.size
 have hlea1:=hFz1_0.le
 refine zc 3 [(12,(vI 0)),(11,(vA [(vI n),(.slice a1 (hgt n+1) ca1)])),(8,(.tuple #[(vA [(vI n),(.slice a1 (hgt n+1) ca1)]),(vI 0)]))] (zan ([(vI n),(.slice a1 (hgt n+1) ca1)]) 179 rfl (by simp [Value.oneCell']) ?_)
 intro w4 hBw4 hEw4 hzw4 hlw4
 refine zc 1 [(7,(vI 0))] (zf (zb (ze (ze (zaa 31 (fun w5 hEw5 hzw5 hT116=> ?_))))))
 refine zg hT116 [(0,13,(vI 0))] 1 (zk hT116 1 vT (zaJ (((0:Nat):Int)==((0:Nat):Int)) (zau)) (zg hT116 [(2,15,vT),(3,16,(vP w.heap.size 0))] 2 ?_))
 have hK1:=((((hBw1.ext hEw2).ext hEw3).ext hEw4).ext hEw5)
 refine zt hT116 4 w.heap.size 0 (fun w' hC=>((hK1.ext hC).cell rfl)) (zk hT116 5 vF (zaJ (decide (l<((0:Nat):Int))) (zcL)) (zg hT116 [(6,19,vF),(7,20,(vP w.heap.size 0))] 2 (zt hT116 8 w.heap.size 0 (fun w' hC=>((hK1.ext hC).cell rfl)) (zg hT116 [(9,22,(vP w3.heap.size 1))] 1 (zt hT116 10 w3.heap.size 1 (fun w' hC=>(((hBw4.ext hEw5).ext hC).cell rfl)) (zg hT116 [(11,24,(vI (hgt n+1)))] 1 (zk hT116 12 vT (zaJ (decide (l≥((hgt n+1:Nat):Int))) (zga)) (zg hT116 [(13,26,vT),(14,27,vT),(15,28,undef),(16,29,undef),(17,30,undef),(18,31,vT),(19,32,vT),(20,33,undef),(21,34,undef),(22,35,undef),(23,36,undef),(24,37,undef),(25,38,undef),(26,39,undef),(27,40,undef),(28,41,undef),(29,42,vT),(30,43,vT)] 18 (zD ?_)))))))))
 refine zb (zv (zd (zc 1 [(7,(vI 1))] (zf (zb (ze (zd (za (zT w3.heap.size 0 ((hBw4.ext hEw5).all) ?_)))))))))
 refine zc 1 [(45,(vI 1))] ?_
 have hK2:=(((hBw2.ext hEw3).ext hEw4).ext hEw5)
 refine za (zG 179 w1.heap.size 0 179 (vA [(vI n),(.slice a1 (hgt n+1) ca1)]) ([(vI 0),(.slice none 0 0)]) ([(vI n),(.slice a1 (hgt n+1) ca1)]) hK2 (by kernel_rfl) (by first | decide |(simp;done)|(simp;omega)) (by simp [Value.oneCell']) ?_)
 have hK3:=(((hBw2.ext hEw3).ext hEw4).ext hEw5)
 intro w6 hBw6 hCw6
 have hzw6:=hCw6.size
 rw [zy _ _ (by kernel_rfl)] at hBw6
 refine zc 1 [(5,(vI 1))] (zf (zb (zj (za6 (show zX Tryz.prog 46 _ _ (.cell 4 179) (vA [(vI n),(.slice a1 (hgt n+1) ca1)]) from ⟨⟨w1.heap.size,0,none⟩,(by kernel_rfl),zI (T:=179) (vs:= [(vI n),(.slice a1 (hgt n+1) ca1)]) (hBw6).all (by kernel_rfl)⟩) (show zX Tryz.prog 46 _ _ (.tmp 5) (vI 1) by (show _=_;kernel_rfl)) ?_))))
 have hX1:Ext w w6:=(Ext.own ((((hEw1.trans hEw2).trans hEw3).trans hEw4).trans hEw5) hCw6 (by omega))
 exact ⟨_,_,_,_,rfl,hX1⟩
theorem zte (n:Nat) (l:Nat) (j:Int) (w:World) (hp0:1≤n) (hp1:n≤4096) (hp2:l≤hgt n) (hp3:j<0):
  Calls Tryz.prog 108 #[(vI n),(vA [(vI l),(.int .i64 j)])] w (Ret fun r w'=>∃(a0:Int) (a1:Option Addr) (na1:Nat) (ca1:Nat),r=(.tuple #[(vA [(.int .i64 a0),(.slice a1 na1 ca1)]),(vI 1)])∧Ext w w'):=by
 refine zC (n:=46) (σ:= [(0,(vI n)),(1,(vA [(vI l),(.int .i64 j)]))]) Tryz.func108 rfl ?_
 refine ze (zd (za (zab (Instr.box 89 (vA [(vI l),(.int .i64 j)])) (vP w.heap.size 0) ([(vI l),(.int .i64 j)]) 89 ?_)))
 intro w1 hBw1 hEw1 hzw1 hlw1
 refine za (zaf ([(vI 0),(.slice none 0 0)]) 179 ?_)
 intro w2 hBw2 hEw2 hzw2 hlw2
 refine zc 1 [(5,(vI 0))] (zf (zb (ze (zd (zc 1 [(9,(vI n))] (za (zq (zjA n _ (by omega) (by omega)) ?_)))))))
 rintro _ w3 ⟨a1,ca1,rfl,hFz1_0,hEw3⟩
 have hzw3:=hEw3.size
 have hlea1:=hFz1_0.le
 refine zc 3 [(12,(vI 0)),(11,(vA [(vI n),(.slice a1 (hgt n+1) ca1)])),(8,(.tuple #[(vA [(vI n),(.slice a1 (hgt n+1) ca1)]),(vI 0)]))] (zan ([(vI n),(.slice a1 (hgt n+1) ca1)]) 179 rfl (by simp [Value.oneCell']) ?_)
 intro w4 hBw4 hEw4 hzw4 hlw4
 refine zc 1 [(7,(vI 0))] (zf (zb (ze (ze (zaa 31 (fun w5 hEw5 hzw5 hT145=> ?_))))))
 refine zg hT145 [(0,13,(vI 0))] 1 (zk hT145 1 vT (zaJ (((0:Nat):Int)==((0:Nat):Int)) (zau)) (zg hT145 [(2,15,vT),(3,16,(vP w.heap.size 0))] 2 ?_))
 have hK1:=((((hBw1.ext hEw2).ext hEw3).ext hEw4).ext hEw5)
 refine zt hT145 4 w.heap.size 0 (fun w' hC=>((hK1.ext hC).cell rfl)) (zk hT145 5 vF (zaJ (decide (((l:Nat):Int)<((0:Nat):Int))) (zcL)) (zg hT145 [(6,19,vF),(7,20,(vP w.heap.size 0))] 2 (zt hT145 8 w.heap.size 0 (fun w' hC=>((hK1.ext hC).cell rfl)) (zg hT145 [(9,22,(vP w3.heap.size 1))] 1 (zt hT145 10 w3.heap.size 1 (fun w' hC=>(((hBw4.ext hEw5).ext hC).cell rfl)) (zg hT145 [(11,24,(vI (hgt n+1)))] 1 (zk hT145 12 vF (zaJ (decide (((l:Nat):Int)≥((hgt n+1:Nat):Int))) (zcL)) (zg hT145 [(13,26,vF),(14,27,vF),(15,28,(vP w.heap.size 1))] 3 (zt hT145 16 w.heap.size 1 (fun w' hC=>((hK1.ext hC).cell rfl)) ?_)))))))))
 refine zk hT145 17 vT (zaJ (decide (j<((0:Nat):Int))) (zga)) (zg hT145 [(18,31,vT),(19,32,vT),(20,33,undef),(21,34,undef),(22,35,undef),(23,36,undef),(24,37,undef),(25,38,undef),(26,39,undef),(27,40,undef),(28,41,undef),(29,42,vT),(30,43,vT)] 13 (zD (zb (zv (zd (zc 1 [(7,(vI 1))] (zf (zb (ze ?_)))))))))
 refine zd (za (zT w3.heap.size 0 ((hBw4.ext hEw5).all) ?_))
 refine zc 1 [(45,(vI 1))] ?_
 have hK2:=(((hBw2.ext hEw3).ext hEw4).ext hEw5)
 refine za (zG 179 w1.heap.size 0 179 (vA [(vI n),(.slice a1 (hgt n+1) ca1)]) ([(vI 0),(.slice none 0 0)]) ([(vI n),(.slice a1 (hgt n+1) ca1)]) hK2 (by kernel_rfl) (by first | decide |(simp;done)|(simp;omega)) (by simp [Value.oneCell']) ?_)
 have hK3:=(((hBw2.ext hEw3).ext hEw4).ext hEw5)
 intro w6 hBw6 hCw6
 have hzw6:=hCw6.size
 rw [zy _ _ (by kernel_rfl)] at hBw6
 refine zc 1 [(5,(vI 1))] (zf (zb (zj (za6 (show zX Tryz.prog 46 _ _ (.cell 4 179) (vA [(vI n),(.slice a1 (hgt n+1) ca1)]) from ⟨⟨w1.heap.size,0,none⟩,(by kernel_rfl),zI (T:=179) (vs:= [(vI n),(.slice a1 (hgt n+1) ca1)]) (hBw6).all (by kernel_rfl)⟩) (show zX Tryz.prog 46 _ _ (.tmp 5) (vI 1) by (show _=_;kernel_rfl)) ?_))))
 have hX1:Ext w w6:=(Ext.own ((((hEw1.trans hEw2).trans hEw3).trans hEw4).trans hEw5) hCw6 (by omega))
 exact ⟨_,_,_,_,rfl,hX1⟩
theorem ztW (n:Nat) (l:Nat) (j:Nat) (w:World) (hp0:1≤n) (hp1:n≤4096) (hp2:l≤hgt n) (hp3:cnt n l≤j):
  Calls Tryz.prog 108 #[(vI n),(vA [(vI l),(vI j)])] w (Ret fun r w'=>∃(a0:Int) (a1:Option Addr) (na1:Nat) (ca1:Nat),r=(.tuple #[(vA [(.int .i64 a0),(.slice a1 na1 ca1)]),(vI 1)])∧Ext w w'):=by
 refine zC (n:=46) (σ:= [(0,(vI n)),(1,(vA [(vI l),(vI j)]))]) Tryz.func108 rfl ?_
 have h5:=zat n
 refine ze (zd (za (zab (Instr.box 89 (vA [(vI l),(vI j)])) (vP w.heap.size 0) ([(vI l),(vI j)]) 89 ?_)))
 intro w1 hBw1 hEw1 hzw1 hlw1
 refine za (zaf ([(vI 0),(.slice none 0 0)]) 179 ?_)
 intro w2 hBw2 hEw2 hzw2 hlw2
 refine zc 1 [(5,(vI 0))] (zf (zb (ze (zd (zc 1 [(9,(vI n))] (za (zq (zjA n _ (by omega) (by omega)) ?_)))))))
 rintro _ w3 ⟨a1,ca1,rfl,hFz1_0,hEw3⟩
 have hzw3:=hEw3.size
 have hlea1:=hFz1_0.le
 refine zc 3 [(12,(vI 0)),(11,(vA [(vI n),(.slice a1 (hgt n+1) ca1)])),(8,(.tuple #[(vA [(vI n),(.slice a1 (hgt n+1) ca1)]),(vI 0)]))] (zan ([(vI n),(.slice a1 (hgt n+1) ca1)]) 179 rfl (by simp [Value.oneCell']) ?_)
 intro w4 hBw4 hEw4 hzw4 hlw4
 refine zc 1 [(7,(vI 0))] (zf (zb (ze (ze (zaa 31 (fun w5 hEw5 hzw5 hT176=> ?_))))))
 refine zg hT176 [(0,13,(vI 0))] 1 (zk hT176 1 vT (zaJ (((0:Nat):Int)==((0:Nat):Int)) (zau)) (zg hT176 [(2,15,vT),(3,16,(vP w.heap.size 0))] 2 ?_))
 have hK1:=((((hBw1.ext hEw2).ext hEw3).ext hEw4).ext hEw5)
 refine zt hT176 4 w.heap.size 0 (fun w' hC=>((hK1.ext hC).cell rfl)) (zk hT176 5 vF (zaJ (decide (((l:Nat):Int)<((0:Nat):Int))) (zcL)) (zg hT176 [(6,19,vF),(7,20,(vP w.heap.size 0))] 2 (zt hT176 8 w.heap.size 0 (fun w' hC=>((hK1.ext hC).cell rfl)) (zg hT176 [(9,22,(vP w3.heap.size 1))] 1 (zt hT176 10 w3.heap.size 1 (fun w' hC=>(((hBw4.ext hEw5).ext hC).cell rfl)) (zg hT176 [(11,24,(vI (hgt n+1)))] 1 (zk hT176 12 vF (zaJ (decide (((l:Nat):Int)≥((hgt n+1:Nat):Int))) (zcL)) (zg hT176 [(13,26,vF),(14,27,vF),(15,28,(vP w.heap.size 1))] 3 (zt hT176 16 w.heap.size 1 (fun w' hC=>((hK1.ext hC).cell rfl)) ?_)))))))))
 refine zk hT176 17 vF (zaJ (decide (((j:Nat):Int)<((0:Nat):Int))) (zcL)) (zg hT176 [(18,31,vF),(19,32,vF),(20,33,(vP w.heap.size 1))] 3 (zt hT176 21 w.heap.size 1 (fun w' hC=>((hK1.ext hC).cell rfl)) (zg hT176 [(22,35,(vP w3.heap.size 1))] 1 (zt hT176 23 w3.heap.size 1 (fun w' hC=>(((hBw4.ext hEw5).ext hC).cell rfl)) (zg hT176 [(24,37,(vP w.heap.size 0))] 1 (zt hT176 25 w.heap.size 0 (fun w' hC=>((hK1.ext hC).cell rfl)) ?_))))))
 obtain ⟨b1,o1,rfl⟩:=hFz1_0.addr (by omega)
 refine zag hT176 26 b1 o1 (hgt n+1) ca1 l 1 (zt hT176 27 b1 (o1+l*1) (fun w' hC=>((((hFz1_0.ext hEw4).ext hEw5).ext hC).celln (by omega))) (zk hT176 28 vT (zaJ (decide (((j:Nat):Int)≥((gt (cts n) l:Nat):Int))) (zga (by rw [zi4 hp2];omega))) (zg hT176 [(29,42,vT),(30,43,vT)] 2 (zD (zb (zv (zd (zc 1 [(7,(vI 1))] (zf ?_)))))))))
 refine zb (ze (zd (za (zT w3.heap.size 0 ((hBw4.ext hEw5).all) ?_))))
 refine zc 1 [(45,(vI 1))] ?_
 have hK2:=(((hBw2.ext hEw3).ext hEw4).ext hEw5)
 refine za (zG 179 w1.heap.size 0 179 (vA [(vI n),(.slice (pA b1 o1) (hgt n+1) ca1)]) ([(vI 0),(.slice none 0 0)]) ([(vI n),(.slice (pA b1 o1) (hgt n+1) ca1)]) hK2 (by kernel_rfl) (by first | decide |(simp;done)|(simp;omega)) (by simp [Value.oneCell']) ?_)
 have hK3:=(((hBw2.ext hEw3).ext hEw4).ext hEw5)
 intro w6 hBw6 hCw6
 have hzw6:=hCw6.size
 rw [zy _ _ (by kernel_rfl)] at hBw6
 refine zc 1 [(5,(vI 1))] (zf (zb (zj (za6 (show zX Tryz.prog 46 _ _ (.cell 4 179) (vA [(vI n),(.slice (pA b1 o1) (hgt n+1) ca1)]) from ⟨⟨w1.heap.size,0,none⟩,(by kernel_rfl),zI (T:=179) (vs:= [(vI n),(.slice (pA b1 o1) (hgt n+1) ca1)]) (hBw6).all (by kernel_rfl)⟩) (show zX Tryz.prog 46 _ _ (.tmp 5) (vI 1) by (show _=_;kernel_rfl)) ?_))))
 have hX1:Ext w w6:=(Ext.own ((((hEw1.trans hEw2).trans hEw3).trans hEw4).trans hEw5) hCw6 (by omega))
 exact ⟨_,_,_,_,rfl,hX1⟩
theorem zrz (n:Int) (l:Int) (j:Int) (w:World) (hp0:¬((1≤n∧n≤4096)∧(0≤l∧l≤hgt n.toNat)∧(0≤j∧j<cnt n.toNat l.toNat))):
  Calls Tryz.prog 108 #[(.int .i64 n),(vA [(.int .i64 l),(.int .i64 j)])] w (Ret fun r w'=>∃(a0:Int) (a1:Option Addr) (na1:Nat) (ca1:Nat),r=(.tuple #[(vA [(.int .i64 a0),(.slice a1 na1 ca1)]),(vI 1)])∧Ext w w'):=by
 by_cases h:1≤n∧n≤4096
 ·obtain ⟨m,rfl⟩:=Int.eq_ofNat_of_zero_le (show 0≤n by omega)
  rw [Int.toNat_natCast] at hp0
  by_cases hl:l<0
  ·exact zum m l j w (by omega) (by omega) hl
  ·obtain ⟨k,rfl⟩:=Int.eq_ofNat_of_zero_le (show 0≤l by omega)
   rw [Int.toNat_natCast] at hp0
   by_cases hk:(hgt m:Int)<k
   ·exact ztw m k j w (by omega) (by omega) hk
   ·by_cases hj:j<0
    ·exact zte m k j w (by omega) (by omega) (by omega) hj
    ·obtain ⟨i,rfl⟩:=Int.eq_ofNat_of_zero_le (show 0≤j by omega)
     exact ztW m k i w (by omega) (by omega) (by omega) (by omega)
 ·exact zuc n l j w h
theorem zst (n:Nat) {lo_c hi_c:Nat} {a_c:Option Addr} {n_c c_c:Nat} (l:Nat) (w:World) (h_c:Es (nv .i64) lo_c hi_c w a_c n_c c_c (cts n)) (hp0:l≤hgt n+1):
  Calls Tryz.prog 142 #[(vA [(vI n),(.slice a_c n_c c_c)]),(vI l)] w (Ret fun r w'=>r=(vI (und n l))∧Ext w w'):=by
 refine zC (n:=15) (σ:= [(0,(vA [(vI n),(.slice a_c n_c c_c)])),(1,(vI l))]) Tryz.func142 rfl ?_
 replace h_c:=h_c.now;have hle_c:=h_c.le
 have hcl:=h_c.len_eq
 rw [zeh] at hcl
 have h5:=zat n
 refine ze (zd (za (zab (Instr.box 179 (vA [(vI n),(.slice a_c n_c c_c)])) (vP w.heap.size 0) ([(vI n),(.slice a_c n_c c_c)]) 179 ?_)))
 intro w1 hBw1 hEw1 hzw1 hlw1
 refine zc 1 [(4,(vI 0))] (zf (zb (ze (ze (zd (zc 1 [(5,(vI l))] (za (zE (some 6) ((((l:Nat):Int)==((0:Nat):Int))) (fun hc6=> ?_) (fun hc6=> ?_)))))))))
 ·replace hc6:l=0:=by have:=zbD hc6;omega
  refine zf (zb (zv (ze (zd (zc 1 [(7,(vP w.heap.size 0))] (za (zl w.heap.size 0 (hBw1.cell rfl) ?_)))))))
  exact zc 1 [(4,(vI n))] (zf (zb (zj (zw (zm (vI n) (⟨by subst hc6;rfl,hEw1⟩))))))
 ·replace hc6:¬(l=0):=by have:=zbC hc6;omega
  refine zf (zb (zh (zo (zb (ze (zd (zc 1 [(9,(vP w.heap.size 1))] (za (zl w.heap.size 1 (hBw1.cell rfl) ?_)))))))))
  refine zc 1 [(11,(vI l))] (za (zn (some 12) .i64 (IntKind.i64.wrap (((l:Nat):Int)-((1:Nat):Int))) (l-1) (zu) ?_))
  obtain ⟨b1,o1,rfl⟩:=h_c.addr (by omega)
  refine za (zai b1 o1 n_c c_c (l-1) 1 ?_)
  refine za (zl b1 (o1+(l-1)*1) ((h_c.ext hEw1).celln (by omega)) ?_)
  exact zc 1 [(4,(vI (gt (cts n) (l-1))))] (zf (zb (zj (zm (vI (gt (cts n) (l-1))) (⟨by rw [zmf hc6 hp0],hEw1⟩)))))
theorem zlo (n:Nat) (w:World) (hp0:1≤n) (hp1:n≤4096):
  Calls Tryz.prog 87 #[(vI n)] w (Ret fun r w'=>r=(.tuple #[(vI (hgt n)),(vI 0)])∧Ext w w'):=by
 refine zC (n:=18) (σ:= [(0,(vI n))]) Tryz.func87 rfl ?_
 have h5:=zat n
 refine ze (zd (zc 2 [(3,(vI 0)),(2,(vI 0))] (zf (zb (ze (zd (zc 1 [(7,(vI n))] (za (zq (zjA n _ (by omega) (by omega)) ?_)))))))))
 rintro _ w1 ⟨a1,ca1,rfl,hFz1_0,hEw1⟩
 have hzw1:=hEw1.size
 have hlea1:=hFz1_0.le
 refine zc 3 [(10,(vI 0)),(9,(vA [(vI n),(.slice a1 (hgt n+1) ca1)])),(6,(.tuple #[(vA [(vI n),(.slice a1 (hgt n+1) ca1)]),(vI 0)]))] (zan ([(vI n),(.slice a1 (hgt n+1) ca1)]) 179 rfl (by simp [Value.oneCell']) ?_)
 intro w2 hBw2 hEw2 hzw2 hlw2
 refine zc 1 [(5,(vI 0))] (zf (zb (ze (ze (zd (zc 2 [(12,vF),(11,(vI 0))] (zf (zb (zh ?_)))))))))
 refine zo (zb (ze (zd (zc 1 [(14,(vP w1.heap.size 1))] (za (zl w1.heap.size 1 (hBw2.cell rfl) ?_))))))
 refine zc 1 [(16,(vI (hgt n+1)))] (za (zn (some 17) .i64 (IntKind.i64.wrap (((hgt n+1:Nat):Int)-((1:Nat):Int))) (hgt n) (zu) ?_))
 exact zc 2 [(3,(vI 0)),(2,(vI (hgt n)))] (zf (zb (zj (zm (.tuple #[(vI (hgt n)),(vI 0)]) (⟨rfl,(hEw1.trans hEw2)⟩)))))
theorem zh4 (n:Int) (w:World) (hp0:¬(1≤n∧n≤4096)):
  Calls Tryz.prog 87 #[(.int .i64 n)] w (Ret fun r w'=>r=(.tuple #[(vI 0),(vI 1)])∧Ext w w'):=by
 refine zC (n:=18) (σ:= [(0,(.int .i64 n))]) Tryz.func87 rfl ?_
 refine ze (zd (zc 2 [(3,(vI 0)),(2,(vI 0))] (zf (zb (ze (zd (zc 1 [(7,(.int .i64 n))] (za (zq (zmZ n _ (by omega)) ?_)))))))))
 rintro _ w1 ⟨rfl,hEw1⟩
 have hzw1:=hEw1.size
 refine zc 3 [(10,(vI 1)),(9,(vA [(vI 0),(.slice none 0 0)])),(6,(.tuple #[(vA [(vI 0),(.slice none 0 0)]),(vI 1)]))] (zan ([(vI 0),(.slice none 0 0)]) 179 rfl (by simp [Value.oneCell']) ?_)
 intro w2 hBw2 hEw2 hzw2 hlw2
 refine zc 1 [(5,(vI 1))] (zf (zb (ze (ze (zd (zc 2 [(12,vT),(11,(vI 1))] (zf (zb (zv ?_)))))))))
 exact ze (zd (zc 3 [(3,(vI 1)),(2,(vI 0)),(13,(vI 1))] (zf (zb (zj (zw (zm (.tuple #[(vI 0),(vI 1)]) (⟨rfl,(hEw1.trans hEw2)⟩))))))))
theorem zmR (n:Nat) (l:Nat) (w:World) (hp0:1≤n) (hp1:n≤4096) (hp2:l≤hgt n):
  Calls Tryz.prog 88 #[(vI n),(vI l)] w (Ret fun r w'=>r=(.tuple #[(vI (cnt n l)),(vI 0)])∧Ext w w'):=by
 refine zC (n:=23) (σ:= [(0,(vI n)),(1,(vI l))]) Tryz.func88 rfl ?_
 have h5:=zat n
 refine ze (zd (zc 2 [(5,(vI 0)),(4,(vI 0))] (zf (zb (ze (zd (zc 3 [(11,(vA [(vI l),(vI 0)])),(10,(vI l)),(9,(vI n))] (za (zq (ztk n l 0 _ (by omega) (by omega) (by omega) (zjp hp0 l)) ?_)))))))))
 rintro _ w1 ⟨a1,ca1,rfl,hFz1_0,hEw1⟩
 have hzw1:=hEw1.size
 have hlea1:=hFz1_0.le
 refine zc 3 [(14,(vI 0)),(13,(vA [(vI n),(.slice a1 (hgt n+1) ca1)])),(8,(.tuple #[(vA [(vI n),(.slice a1 (hgt n+1) ca1)]),(vI 0)]))] (zan ([(vI n),(.slice a1 (hgt n+1) ca1)]) 179 rfl (by simp [Value.oneCell']) ?_)
 intro w2 hBw2 hEw2 hzw2 hlw2
 refine zc 1 [(7,(vI 0))] (zf (zb (ze (ze (zd (zc 2 [(16,vF),(15,(vI 0))] (zf (zb (zh ?_)))))))))
 refine zo (zb (ze (zd (zc 1 [(18,(vP w1.heap.size 1))] (za (zl w1.heap.size 1 (hBw2.cell rfl) ?_))))))
 refine zc 1 [(20,(vI l))] ?_
 obtain ⟨b1,o1,rfl⟩:=hFz1_0.addr (by omega)
 refine za (zai b1 o1 (hgt n+1) ca1 l 1 ?_)
 refine za (zl b1 (o1+l*1) ((hFz1_0.ext hEw2).celln (by omega)) ?_)
 exact zc 2 [(5,(vI 0)),(4,(vI (gt (cts n) l)))] (zf (zb (zj (zm (.tuple #[(vI (gt (cts n) l)),(vI 0)]) (⟨by rw [zi4 hp2],(hEw1.trans hEw2)⟩)))))
theorem zsC (n:Nat) (l:Nat) (j:Nat) (w:World) (hp0:1≤n) (hp1:n≤4096) (hp2:l≤hgt n) (hp3:j<cnt n l):
  Calls Tryz.prog 125 #[(vI n),(vI l),(vI j)] w (Ret fun r w'=>r=(.tuple #[(vI (prt n l j)),(vI 0)])∧Ext w w'):=by
 refine zC (n:=28) (σ:= [(0,(vI n)),(1,(vI l)),(2,(vI j))]) Tryz.func125 rfl ?_
 have h5:=zat n
 have hcn:=zbr n l
 have hun:=zgL n l
 have hlc:=zi7.1 hp3
 refine ze (zd (zc 2 [(7,(vI 0)),(6,(vI 0))] (zf (zb (ze (zd (zc 4 [(14,(vA [(vI l),(vI j)])),(13,(vI j)),(12,(vI l)),(11,(vI n))] (za (zq (ztk n l j _ (by omega) (by omega) (by omega) (by omega)) ?_)))))))))
 rintro _ w1 ⟨a1,ca1,rfl,hFz1_0,hEw1⟩
 have hzw1:=hEw1.size
 have hlea1:=hFz1_0.le
 refine zc 3 [(17,(vI 0)),(16,(vA [(vI n),(.slice a1 (hgt n+1) ca1)])),(10,(.tuple #[(vA [(vI n),(.slice a1 (hgt n+1) ca1)]),(vI 0)]))] (zan ([(vI n),(.slice a1 (hgt n+1) ca1)]) 179 rfl (by simp [Value.oneCell']) ?_)
 intro w2 hBw2 hEw2 hzw2 hlw2
 refine zc 1 [(9,(vI 0))] (zf (zb (ze (ze (zd (zc 2 [(19,vF),(18,(vI 0))] (zf (zb (zh ?_)))))))))
 refine zo (zb (ze (zd (za (zT w1.heap.size 0 (hBw2.all) ?_)))))
 refine zc 1 [(22,(vI l))] (za (zq (zst n l _ (hFz1_0.ext hEw2) (by omega)) ?_))
 rintro _ w3 ⟨rfl,hEw3⟩
 have hzw3:=hEw3.size
 refine zc 1 [(24,(vI j))] (za (zn (some 25) .i64 (IntKind.i64.wrap (((4:Nat):Int)*((j:Nat):Int))) (4*j) (zu) ?_))
 refine za (zn (some 26) .i64 (IntKind.i64.wrap (((und n l:Nat):Int)-((4*j:Nat):Int))) (und n l-4*j) (zu) ?_)
 refine za (ziP (some 27) (.int .i64 (if ((und n l-4*j:Nat):Int)<((4:Nat):Int) then ((und n l-4*j:Nat):Int) else ((4:Nat):Int))) (vI (min 4 (und n l-4*j))) (congrArg _ (zkA _ _)) ?_)
 exact zc 2 [(7,(vI 0)),(6,(vI (min 4 (und n l-4*j))))] (zf (zb (zj (zm (.tuple #[(vI (min 4 (und n l-4*j))),(vI 0)]) (⟨rfl,((hEw1.trans hEw2).trans hEw3)⟩)))))
theorem znm (n:Int) (l:Int) (j:Int) (w:World) (hp0:¬((1≤n∧n≤4096)∧(0≤l∧l≤hgt n.toNat)∧(0≤j∧j<cnt n.toNat l.toNat))):
  Calls Tryz.prog 125 #[(.int .i64 n),(.int .i64 l),(.int .i64 j)] w (Ret fun r w'=>r=(.tuple #[(vI 0),(vI 1)])∧Ext w w'):=by
 refine zC (n:=28) (σ:= [(0,(.int .i64 n)),(1,(.int .i64 l)),(2,(.int .i64 j))]) Tryz.func125 rfl ?_
 refine ze (zd (zc 2 [(7,(vI 0)),(6,(vI 0))] (zf (zb (ze (zd (zc 4 [(14,(vA [(.int .i64 l),(.int .i64 j)])),(13,(.int .i64 j)),(12,(.int .i64 l)),(11,(.int .i64 n))] (za (zq (zrz n l j _ (by omega)) ?_)))))))))
 rintro _ w1 ⟨a1,a2,na2,ca2,rfl,hEw1⟩
 have hzw1:=hEw1.size
 refine zc 3 [(17,(vI 1)),(16,(vA [(.int .i64 a1),(.slice a2 na2 ca2)])),(10,(.tuple #[(vA [(.int .i64 a1),(.slice a2 na2 ca2)]),(vI 1)]))] (zan ([(.int .i64 a1),(.slice a2 na2 ca2)]) 179 rfl (by simp [Value.oneCell']) ?_)
 intro w2 hBw2 hEw2 hzw2 hlw2
 refine zc 1 [(9,(vI 1))] (zf (zb (ze (ze (zd (zc 2 [(19,vT),(18,(vI 1))] (zf (zb (zv ?_)))))))))
 exact ze (zd (zc 3 [(7,(vI 1)),(6,(vI 0)),(20,(vI 1))] (zf (zb (zj (zw (zm (.tuple #[(vI 0),(vI 1)]) (⟨rfl,(hEw1.trans hEw2)⟩))))))))
end Go.Proofs.YtkmhgepdhilllaaGreatDoor
namespace Go.Proofs.YtkmhgepdhilllaaGreatDoor
open Go Go.RowKit Go.Cs
set_option maxRecDepth 100000
end Go.Proofs.YtkmhgepdhilllaaGreatDoor
namespace Go.Proofs.YtkmhgepdhilllaaGreatDoor
open Go Go.RowKit Go.Cs
set_option maxRecDepth 100000
end Go.Proofs.YtkmhgepdhilllaaGreatDoor
namespace Go.Proofs.YtkmhgepdhilllaaGreatDoor
open Go Go.RowKit Go.Cs
set_option maxRecDepth 100000
end Go.Proofs.YtkmhgepdhilllaaGreatDoor
namespace Go.Proofs.YtkmhgepdhilllaaGreatDoor
open Go Go.RowKit Go.Cs
set_option maxRecDepth 100000
theorem zf8 (n:Nat) (l:Nat) (w:World) (hp0:1≤n) (hp1:n≤4096) (hp2:l≤hgt n):
  Calls Tryz.prog 32 #[(vI n),(vI l)] w (Ret fun r w'=>r=(vI (cnt n l))∧w=w'):=by
 refine zC (n:=23) (σ:= [(0,(vI n)),(1,(vI l))]) Tryz.func32 rfl ?_
 have h5:=zat n
 refine ze (zd (zc 1 [(4,(vI 0))] (zf (zb (ze (zd (zc 2 [(5,(vI n)),(7,(vI n))] (zf (zb ?_)))))))))
 refine ze (ze (zd (zc 1 [(6,(vI 0))] (zf (zb (zr (zW (X:=Nat) (fun k=> [(5,(vI (und n k))),(6,(vI k))]) [4,8,9,10,11,12,13,14,15,16,17,18,19,20,21] (fun k w1=>w=w1∧k≤l+1) (fun k=>l+1-k) 0 (by kernel_rfl) ⟨rfl,by omega⟩ ?_)))))))
 rintro k dw1 w1 ⟨rfl,hk⟩
 have hun:=zgL n k
 have hun2:=zgL n (k+1)
 refine ze (ze (zd (zc 2 [(9,(vI l)),(8,(vI k))] (za (zE (some 10) (decide (((k:Nat):Int)≤((l:Nat):Int))) (fun hc10=> ?_) (fun hc10=> ?_))))))
 ·replace hc10:k≤l:=by have:=zac hc10;omega
  refine zf (zb (zv (zo (zb (ze (zr (ze (ze (zd ?_)))))))))
  refine zc 1 [(13,(vI k))] (za (zE (some 14) (decide (((k:Nat):Int)>((0:Nat):Int))) (fun hc14=> ?_) (fun hc14=> ?_)))
  ·replace hc14:k>0:=by have:=zac hc14;omega
   have hm:=zlK (n:=n) (l:=k-1) (by omega)
   have hku:=zcF (n:=n) (l:=k) (by omega)
   refine zc 2 [(16,(vI (und n k))),(15,vT)] (za (zah (some 17) (((und n k:Nat):Int)==((1:Nat):Int)) false (zct) ?_))
   refine zc 1 [(18,vF)] (zf (zb (zh (zo (zb (zd (zc 1 [(19,(vI (und n k)))] (za (zn (some 20) .i64 (IntKind.i64.wrap (((und n k:Nat):Int)+((3:Nat):Int))) (und n k+3) (zu) ?_)))))))))
   refine za (zn (some 21) .i64 (IntKind.i64.wrap (((und n k+3:Nat):Int).tdiv ((4:Nat):Int))) (und n (k+1)) (zu (zed _ _)) ?_)
   refine zc 1 [(5,(vI (und n (k+1))))] (zf (zi (zb (zd (zc 1 [(11,(vI k))] (za (zn (some 12) .i64 (IntKind.i64.wrap (((k:Nat):Int)+((1:Nat):Int))) (k+1) (zu) ?_)))))))
   refine zc 1 [(6,(vI (k+1)))] (zf (zz (zL (k+1) ?_ ?_)))
   ·exact ⟨rfl,by omega⟩
   ·first | omega |(dsimp only;omega)
  ·replace hc14:¬(k>0):=by have:=zad hc14;omega
   obtain rfl:k=0:=by omega
   refine zc 4 [(18,vF),(17,undef),(16,undef),(15,vF)] (zf (zb (zh (zo (zb (zd (zc 1 [(19,(vI (und n 0)))] (za (zn (some 20) .i64 (IntKind.i64.wrap (((und n 0:Nat):Int)+((3:Nat):Int))) (und n 0+3) (zu) ?_)))))))))
   refine za (zn (some 21) .i64 (IntKind.i64.wrap (((und n 0+3:Nat):Int).tdiv ((4:Nat):Int))) (und n (0+1)) (zu (zed _ _)) ?_)
   refine zc 1 [(5,(vI (und n (0+1))))] (zf (zi (zb (zd (zc 1 [(11,(vI 0))] (za (zn (some 12) .i64 (IntKind.i64.wrap (((0:Nat):Int)+((1:Nat):Int))) 1 (zu) ?_)))))))
   refine zc 1 [(6,(vI 1))] (zf (zz (zL (1) ?_ ?_)))
   ·exact ⟨rfl,by omega⟩
   ·first | omega |(dsimp only;omega)
 ·replace hc10:¬(k≤l):=by have:=zad hc10;omega
  refine zf (zb (zh (zP (zp (zp (zF (zb (ze (zd ?_)))))))))
  refine zc 2 [(4,(vI (und n k))),(22,(vI (und n k)))] (zf (zb (zj (zm (vI (und n k)) ?_))))
  obtain rfl:k=l+1:=by omega
  exact ⟨rfl,rfl⟩
theorem zhq (n:Nat) (w:World) (hp0:1≤n) (hp1:n≤4096):
  Calls Tryz.prog 31 #[(vI n)] w (Ret fun r w'=>r=(vI (hgt n))∧w=w'):=by
 refine zC (n:=11) (σ:= [(0,(vI n))]) Tryz.func31 rfl ?_
 have h5:=zat n
 refine ze (zd (zc 1 [(2,(vI 0))] (zf (zb (ze (zd (zc 1 [(3,(vI 0))] (zf (zb ?_)))))))))
 refine ze (zr (zW (X:=Nat) (fun k=> [(3,(vI k))]) [4,5,6,7,8,9] (fun k w1=>w=w1∧k≤hgt n) (fun k=>hgt n-k) 0 (by kernel_rfl) ⟨rfl,by omega⟩ ?_))
 rintro k dw1 w1 ⟨rfl,hk⟩
 have hiff:=zgo hp0 hp1 hk
 refine ze (ze (zd (zc 2 [(5,(vI k)),(4,(vI n))] (za (zq (zf8 n k _ (by omega) (by omega) (by omega)) ?_)))))
 rintro _ _ ⟨rfl,rfl⟩
 refine za (zE (some 7) ((((cnt n k:Nat):Int) !=((1:Nat):Int))) (fun hc7=> ?_) (fun hc7=> ?_))
 ·replace hc7:¬(cnt n k=1):=by have:=zbT hc7;omega
  have hlt:k<hgt n:=by rcases Nat.lt_or_ge k (hgt n) with h | h;exact h;exact absurd (hiff.2 (by omega)) hc7
  refine zf (zb (zv (zo (zb (zr (zd (zc 1 [(8,(vI k))] (za (zn (some 9) .i64 (IntKind.i64.wrap (((k:Nat):Int)+((1:Nat):Int))) (k+1) (zu) ?_)))))))))
  refine zc 1 [(3,(vI (k+1)))] (zf (zi (zz (zL (k+1) ?_ ?_))))
  ·exact ⟨rfl,by omega⟩
  ·first | omega |(dsimp only;omega)
 ·replace hc7:cnt n k=1:=by have:=zbU hc7;omega
  obtain rfl:=hiff.1 hc7
  refine zf (zb (zh (zP (zp (zp (zF (zb (ze (zd ?_)))))))))
  exact zc 2 [(2,(vI (hgt n))),(10,(vI (hgt n)))] (zf (zb (zj (zm (vI (hgt n)) (⟨rfl,rfl⟩)))))
theorem zzI (n:Nat) (l:Nat) (j:Nat) (w:World) (hp0:1≤n) (hp1:n≤4096) (hp2:l≤hgt n) (hp3:j<cnt n l):
  Calls Tryz.prog 86 #[(vI n),(vI l),(vI j)] w (Ret fun r w'=>r=vT∧w=w'):=by
 refine zC (n:=26) (σ:= [(0,(vI n)),(1,(vI l)),(2,(vI j))]) Tryz.func86 rfl ?_
 refine ze (zd (zc 1 [(6,vF)] (zf (zb (ze (zd (zc 1 [(7,(vI l))] (za (zah (some 8) (decide (((l:Nat):Int)≥((0:Nat):Int))) true (zga) ?_)))))))))
 refine zc 3 [(11,(vI n)),(10,(vI l)),(9,vT)] (za (zq (zhq n _ (by omega) (by omega)) ?_))
 rintro _ _ ⟨rfl,rfl⟩
 refine za (zah (some 13) (decide (((l:Nat):Int)≤((hgt n:Nat):Int))) true (zga) ?_)
 refine zc 3 [(16,(vI j)),(15,vT),(14,vT)] (za (zah (some 17) (decide (((j:Nat):Int)≥((0:Nat):Int))) true (zga) ?_))
 refine zc 5 [(22,(vI l)),(21,(vI n)),(20,(vI j)),(19,vT),(18,vT)] (za (zq (zf8 n l _ (by omega) (by omega) (by omega)) ?_))
 rintro _ _ ⟨rfl,rfl⟩
 refine za (zah (some 24) (decide (((j:Nat):Int)<((cnt n l:Nat):Int))) true (zga) ?_)
 exact zc 2 [(6,vT),(25,vT)] (zf (zb (zj (zm vT (⟨rfl,rfl⟩)))))
theorem zzr (n:Nat) (l:Int) (j:Int) (w:World) (hp0:1≤n) (hp1:n≤4096) (hp2:l<0):
  Calls Tryz.prog 86 #[(vI n),(.int .i64 l),(.int .i64 j)] w (Ret fun r w'=>r=vF∧w=w'):=by
 refine zC (n:=26) (σ:= [(0,(vI n)),(1,(.int .i64 l)),(2,(.int .i64 j))]) Tryz.func86 rfl ?_
 refine ze (zd (zc 1 [(6,vF)] (zf (zb (ze (zd (zc 1 [(7,(.int .i64 l))] (za (zah (some 8) (decide (l≥((0:Nat):Int))) false (zcL) ?_)))))))))
 exact zc 18 [(6,vF),(25,vF),(24,undef),(23,undef),(22,undef),(21,undef),(20,undef),(19,vF),(18,vF),(17,undef),(16,undef),(15,vF),(14,vF),(13,undef),(12,undef),(11,undef),(10,undef),(9,vF)] (zf (zb (zj (zm vF (⟨rfl,rfl⟩)))))
theorem zzu (n:Nat) (l:Nat) (j:Int) (w:World) (hp0:1≤n) (hp1:n≤4096) (hp2:hgt n<l):
  Calls Tryz.prog 86 #[(vI n),(vI l),(.int .i64 j)] w (Ret fun r w'=>r=vF∧w=w'):=by
 refine zC (n:=26) (σ:= [(0,(vI n)),(1,(vI l)),(2,(.int .i64 j))]) Tryz.func86 rfl ?_
 refine ze (zd (zc 1 [(6,vF)] (zf (zb (ze (zd (zc 1 [(7,(vI l))] (za (zah (some 8) (decide (((l:Nat):Int)≥((0:Nat):Int))) true (zga) ?_)))))))))
 refine zc 3 [(11,(vI n)),(10,(vI l)),(9,vT)] (za (zq (zhq n _ (by omega) (by omega)) ?_))
 rintro _ _ ⟨rfl,rfl⟩
 refine za (zah (some 13) (decide (((l:Nat):Int)≤((hgt n:Nat):Int))) false (zcL) ?_)
 exact zc 13 [(6,vF),(25,vF),(24,undef),(23,undef),(22,undef),(21,undef),(20,undef),(19,vF),(18,vF),(17,undef),(16,undef),(15,vF),(14,vF)] (zf (zb (zj (zm vF (⟨rfl,rfl⟩)))))
theorem zzz (n:Nat) (l:Nat) (j:Int) (w:World) (hp0:1≤n) (hp1:n≤4096) (hp2:l≤hgt n) (hp3:j<0):
  Calls Tryz.prog 86 #[(vI n),(vI l),(.int .i64 j)] w (Ret fun r w'=>r=vF∧w=w'):=by
 refine zC (n:=26) (σ:= [(0,(vI n)),(1,(vI l)),(2,(.int .i64 j))]) Tryz.func86 rfl ?_
 refine ze (zd (zc 1 [(6,vF)] (zf (zb (ze (zd (zc 1 [(7,(vI l))] (za (zah (some 8) (decide (((l:Nat):Int)≥((0:Nat):Int))) true (zga) ?_)))))))))
 refine zc 3 [(11,(vI n)),(10,(vI l)),(9,vT)] (za (zq (zhq n _ (by omega) (by omega)) ?_))
 rintro _ _ ⟨rfl,rfl⟩
 refine za (zah (some 13) (decide (((l:Nat):Int)≤((hgt n:Nat):Int))) true (zga) ?_)
 refine zc 3 [(16,(.int .i64 j)),(15,vT),(14,vT)] (za (zah (some 17) (decide (j≥((0:Nat):Int))) false (zcL) ?_))
 exact zc 9 [(6,vF),(25,vF),(24,undef),(23,undef),(22,undef),(21,undef),(20,undef),(19,vF),(18,vF)] (zf (zb (zj (zm vF (⟨rfl,rfl⟩)))))
theorem zzB (n:Nat) (l:Nat) (j:Nat) (w:World) (hp0:1≤n) (hp1:n≤4096) (hp2:l≤hgt n) (hp3:cnt n l≤j):
  Calls Tryz.prog 86 #[(vI n),(vI l),(vI j)] w (Ret fun r w'=>r=vF∧w=w'):=by
 refine zC (n:=26) (σ:= [(0,(vI n)),(1,(vI l)),(2,(vI j))]) Tryz.func86 rfl ?_
 refine ze (zd (zc 1 [(6,vF)] (zf (zb (ze (zd (zc 1 [(7,(vI l))] (za (zah (some 8) (decide (((l:Nat):Int)≥((0:Nat):Int))) true (zga) ?_)))))))))
 refine zc 3 [(11,(vI n)),(10,(vI l)),(9,vT)] (za (zq (zhq n _ (by omega) (by omega)) ?_))
 rintro _ _ ⟨rfl,rfl⟩
 refine za (zah (some 13) (decide (((l:Nat):Int)≤((hgt n:Nat):Int))) true (zga) ?_)
 refine zc 3 [(16,(vI j)),(15,vT),(14,vT)] (za (zah (some 17) (decide (((j:Nat):Int)≥((0:Nat):Int))) true (zga) ?_))
 refine zc 5 [(22,(vI l)),(21,(vI n)),(20,(vI j)),(19,vT),(18,vT)] (za (zq (zf8 n l _ (by omega) (by omega) (by omega)) ?_))
 rintro _ _ ⟨rfl,rfl⟩
 refine za (zah (some 24) (decide (((j:Nat):Int)<((cnt n l:Nat):Int))) false (zcL) ?_)
 exact zc 2 [(6,vF),(25,vF)] (zf (zb (zj (zm vF (⟨rfl,rfl⟩)))))
theorem zzm (n:Nat) (l:Int) (j:Int) (w:World) (hp0:1≤n) (hp1:n≤4096) (hp2:¬((0≤l∧l≤hgt n)∧(0≤j∧j<cnt n l.toNat))):
  Calls Tryz.prog 86 #[(vI n),(.int .i64 l),(.int .i64 j)] w (Ret fun r w'=>r=vF∧w=w'):=by
 by_cases hl:l<0
 ·exact zzr n l j w hp0 hp1 hl
 ·obtain ⟨k,rfl⟩:=Int.eq_ofNat_of_zero_le (show 0≤l by omega)
  rw [Int.toNat_natCast] at hp2
  by_cases hk:hgt n<k
  ·exact zzu n k j w hp0 hp1 hk
  ·by_cases hj:j<0
   ·exact zzz n k j w hp0 hp1 (by omega) hj
   ·obtain ⟨i,rfl⟩:=Int.eq_ofNat_of_zero_le (show 0≤j by omega)
    exact zzB n k i w hp0 hp1 (by omega) (by omega)
theorem zk0 (n:Nat) (l:Nat) (j:Nat) (w:World) (hp0:1≤n) (hp1:n≤4096) (hp2:l≤hgt n+1) (hp3:j≤4096):
  Calls Tryz.prog 73 #[(vI n),(vI l),(vI j)] w (Ret fun r w'=>r=(vI (prt n l j))∧w=w'):=by
 refine zC (n:=30) (σ:= [(0,(vI n)),(1,(vI l)),(2,(vI j))]) Tryz.func73 rfl ?_
 have h5:=zat n
 refine ze (zd (zc 1 [(6,(vI 0))] (zf (zb (ze (zd (zc 2 [(7,(vI n)),(10,(vI n))] (zf (zb ?_)))))))))
 refine ze (ze (zd (zc 1 [(11,(vI l))] (za (zE (some 12) (decide (((l:Nat):Int)>((0:Nat):Int))) (fun hc12=> ?_) (fun hc12=> ?_))))))
 ·replace hc12:l>0:=by have:=zac hc12;omega
  have hup:=zcF (n:=n) (l:=l) (by omega)
  have hun:=zgL n l
  refine zf (zb (zv (zd (zc 2 [(14,(vI l)),(13,(vI n))] (za (zn (some 15) .i64 (IntKind.i64.wrap (((l:Nat):Int)-((1:Nat):Int))) (l-1) (zu) ?_))))))
  refine za (zq (zf8 n (l-1) _ (by omega) (by omega) (by omega)) ?_)
  rintro _ _ ⟨rfl,rfl⟩
  rw [show cnt n (l-1)=und n l from hup.symm]
  refine zc 1 [(7,(vI (und n l)))] (zf (zb (ze (zd (zc 1 [(8,(vI 0))] (zf (zb (ze (ze ?_)))))))))
  refine zd (zc 1 [(9,(vI 0))] (zf (zb (zr (zW (X:=Nat) (fun v=> [(8,(vI (min v (und n l-4*j)))),(9,(vI v))]) [17,18,19,20,21,22,23,24,25,26,27,28] (fun v w1=>w=w1∧v≤4) (fun v=>4-v) 0 (by rw [Nat.zero_min];kernel_rfl) ⟨rfl,by omega⟩ ?_)))))
  rintro v dw1 w1 ⟨rfl,hv⟩
  refine ze (ze (zd (zc 1 [(17,(vI v))] (za (zE (some 18) (decide (((v:Nat):Int)<((4:Nat):Int))) (fun hc18=> ?_) (fun hc18=> ?_))))))
  ·replace hc18:v<4:=by have:=zac hc18;omega
   refine zf (zb (zv (zo (zb (ze (zr (ze (zd (zc 1 [(21,(vI j))] ?_)))))))))
   refine za (zn (some 22) .i64 (IntKind.i64.wrap (((4:Nat):Int)*((j:Nat):Int))) (4*j) (zu) ?_)
   refine zc 1 [(23,(vI v))] (za (zn (some 24) .i64 (IntKind.i64.wrap (((4*j:Nat):Int)+((v:Nat):Int))) (4*j+v) (zu) ?_))
   refine zc 1 [(25,(vI (und n l)))] (za (zE (some 26) (decide (((4*j+v:Nat):Int)<((und n l:Nat):Int))) (fun hc26=> ?_) (fun hc26=> ?_)))
   ·replace hc26:4*j+v<und n l:=by have:=zac hc26;omega
    refine zf (zb (zv (zd (zc 1 [(27,(vI (min v (und n l-4*j))))] (za (zn (some 28) .i64 (IntKind.i64.wrap (((min v (und n l-4*j):Nat):Int)+((1:Nat):Int))) (min (v+1) (und n l-4*j)) (zu) ?_))))))
    refine zc 1 [(8,(vI (min (v+1) (und n l-4*j))))] (zf (zi (zb (zd (zc 1 [(19,(vI v))] (za (zn (some 20) .i64 (IntKind.i64.wrap (((v:Nat):Int)+((1:Nat):Int))) (v+1) (zu) ?_)))))))
    refine zc 1 [(9,(vI (v+1)))] (zf (zz (zL (v+1) ?_ ?_)))
    ·exact ⟨rfl,by omega⟩
    ·first | omega |(dsimp only;omega)
   ·replace hc26:¬(4*j+v<und n l):=by have:=zad hc26;omega
    rw [show min v (und n l-4*j)=min (v+1) (und n l-4*j) from by omega]
    refine zf (zb (zh (zo (zi (zb (zd (zc 1 [(19,(vI v))] (za (zn (some 20) .i64 (IntKind.i64.wrap (((v:Nat):Int)+((1:Nat):Int))) (v+1) (zu) ?_)))))))))
    refine zc 1 [(9,(vI (v+1)))] (zf (zz (zL (v+1) ?_ ?_)))
    ·exact ⟨rfl,by omega⟩
    ·first | omega |(dsimp only;omega)
  ·replace hc18:¬(v<4):=by have:=zad hc18;omega
   refine zf (zb (zh (zP (zp (zp (zF (zb (ze (zd ?_)))))))))
   refine zc 2 [(6,(vI (min v (und n l-4*j)))),(29,(vI (min v (und n l-4*j))))] (zf (zb (zj (zm (vI (min v (und n l-4*j))) ?_))))
   obtain rfl:v=4:=by omega
   exact ⟨rfl,rfl⟩
 ·replace hc12:¬(l>0):=by have:=zad hc12;omega
  obtain rfl:l=0:=by omega
  have hu0:und n 0=n:=rfl
  refine zf (zb (zh (zo (zb (ze (zd (zc 1 [(8,(vI 0))] (zf (zb ?_)))))))))
  refine ze (ze (zd (zc 1 [(9,(vI 0))] (zf (zb (zr (zW (X:=Nat) (fun v=> [(8,(vI (min v (und n 0-4*j)))),(9,(vI v))]) [17,18,19,20,21,22,23,24,25,26,27,28] (fun v w2=>w=w2∧v≤4) (fun v=>4-v) 0 (by rw [Nat.zero_min];kernel_rfl) ⟨rfl,by omega⟩ ?_)))))))
  rintro v dw2 w2 ⟨rfl,hv⟩
  refine ze (ze (zd (zc 1 [(17,(vI v))] (za (zE (some 18) (decide (((v:Nat):Int)<((4:Nat):Int))) (fun hc18=> ?_) (fun hc18=> ?_))))))
  ·replace hc18:v<4:=by have:=zac hc18;omega
   refine zf (zb (zv (zo (zb (ze (zr (ze (zd (zc 1 [(21,(vI j))] ?_)))))))))
   refine za (zn (some 22) .i64 (IntKind.i64.wrap (((4:Nat):Int)*((j:Nat):Int))) (4*j) (zu) ?_)
   refine zc 1 [(23,(vI v))] (za (zn (some 24) .i64 (IntKind.i64.wrap (((4*j:Nat):Int)+((v:Nat):Int))) (4*j+v) (zu) ?_))
   refine zc 1 [(25,(vI n))] (za (zE (some 26) (decide (((4*j+v:Nat):Int)<((n:Nat):Int))) (fun hc26=> ?_) (fun hc26=> ?_)))
   ·replace hc26:4*j+v<n:=by have:=zac hc26;omega
    refine zf (zb (zv (zd (zc 1 [(27,(vI (min v (und n 0-4*j))))] (za (zn (some 28) .i64 (IntKind.i64.wrap (((min v (und n 0-4*j):Nat):Int)+((1:Nat):Int))) (min (v+1) (und n 0-4*j)) (zu) ?_))))))
    refine zc 1 [(8,(vI (min (v+1) (und n 0-4*j))))] (zf (zi (zb (zd (zc 1 [(19,(vI v))] (za (zn (some 20) .i64 (IntKind.i64.wrap (((v:Nat):Int)+((1:Nat):Int))) (v+1) (zu) ?_)))))))
    refine zc 1 [(9,(vI (v+1)))] (zf (zz (zL (v+1) ?_ ?_)))
    ·exact ⟨rfl,by omega⟩
    ·first | omega |(dsimp only;omega)
   ·replace hc26:¬(4*j+v<n):=by have:=zad hc26;omega
    rw [show min v (und n 0-4*j)=min (v+1) (und n 0-4*j) from by omega]
    refine zf (zb (zh (zo (zi (zb (zd (zc 1 [(19,(vI v))] (za (zn (some 20) .i64 (IntKind.i64.wrap (((v:Nat):Int)+((1:Nat):Int))) (v+1) (zu) ?_)))))))))
    refine zc 1 [(9,(vI (v+1)))] (zf (zz (zL (v+1) ?_ ?_)))
    ·exact ⟨rfl,by omega⟩
    ·first | omega |(dsimp only;omega)
  ·replace hc18:¬(v<4):=by have:=zad hc18;omega
   refine zf (zb (zh (zP (zp (zp (zF (zb (ze (zd ?_)))))))))
   refine zc 2 [(6,(vI (min v (und n 0-4*j)))),(29,(vI (min v (und n 0-4*j))))] (zf (zb (zj (zm (vI (min v (und n 0-4*j))) ?_))))
   obtain rfl:v=4:=by omega
   exact ⟨rfl,rfl⟩
theorem zk2 (i:Nat) (l:Nat) (w:World) (hp0:i≤4096) (hp1:l≤4096):
  Calls Tryz.prog 69 #[(vI i),(vI l)] w (Ret fun r w'=>r=(vI (idx i l))∧w=w'):=by
 refine zC (n:=17) (σ:= [(0,(vI i)),(1,(vI l))]) Tryz.func69 rfl ?_
 refine ze (zd (zc 1 [(4,(vI 0))] (zf (zb (ze (zd (zc 1 [(7,(vI i))] (za (zn (some 8) .i64 (IntKind.i64.wrap (((i:Nat):Int).tdiv ((4:Nat):Int))) (i/4) (zu (zed _ _)) ?_)))))))))
 refine zc 1 [(5,(vI (i/4)))] (zf (zb (ze (ze (zd (zc 1 [(6,(vI 0))] (zf (zb (zr ?_)))))))))
 refine zW (X:=Nat) (fun k=> [(5,(vI (idx i k))),(6,(vI k))]) [9,10,11,12,13,14,15] (fun k w1=>w=w1∧k≤l) (fun k=>l-k) 0 (by kernel_rfl) ⟨rfl,by omega⟩ ?_
 rintro k dw1 w1 ⟨rfl,hk⟩
 have hix:=zkH i k
 refine ze (ze (zd (zc 2 [(10,(vI l)),(9,(vI k))] (za (zE (some 11) (decide (((k:Nat):Int)<((l:Nat):Int))) (fun hc11=> ?_) (fun hc11=> ?_))))))
 ·replace hc11:k<l:=by have:=zac hc11;omega
  refine zf (zb (zv (zo (zb (ze (zr (zd (zc 1 [(14,(vI (idx i k)))] (za (zn (some 15) .i64 (IntKind.i64.wrap (((idx i k:Nat):Int).tdiv ((4:Nat):Int))) (idx i (k+1)) (zu (zed _ _) (by omega) (by rw [idx];omega)) ?_))))))))))
  refine zc 1 [(5,(vI (idx i (k+1))))] (zf (zi (zb (zd (zc 1 [(12,(vI k))] (za (zn (some 13) .i64 (IntKind.i64.wrap (((k:Nat):Int)+((1:Nat):Int))) (k+1) (zu) ?_)))))))
  refine zc 1 [(6,(vI (k+1)))] (zf (zz (zL (k+1) ?_ ?_)))
  ·exact ⟨rfl,by omega⟩
  ·first | omega |(dsimp only;omega)
 ·replace hc11:¬(k<l):=by have:=zad hc11;omega
  refine zf (zb (zh (zP (zp (zp (zF (zb (ze (zd ?_)))))))))
  refine zc 2 [(4,(vI (idx i k))),(16,(vI (idx i k)))] (zf (zb (zj (zm (vI (idx i k)) ?_))))
  obtain rfl:k=l:=by omega
  exact ⟨rfl,rfl⟩
end Go.Proofs.YtkmhgepdhilllaaGreatDoor
namespace Go.Proofs.YtkmhgepdhilllaaGreatDoor
open Go Go.RowKit Go.Cs
set_option maxRecDepth 100000
theorem zoS (v:Nat) (w:World):
  Calls Tryz.prog 110 #[(vB v)] w (Ret fun r w'=>r=(vI (min v 1))∧w=w'):=by
 refine zC (n:=6) (σ:= [(0,(vB v))]) Tryz.func110 rfl ?_
 refine ze (zd (zc 1 [(2,(vI 0))] (zf (zb (ze (zd (zc 1 [(3,(vB v))] (za (ziP (some 4) (.int .u8 (if ((1:Nat):Int)<((v:Nat):Int) then ((1:Nat):Int) else ((v:Nat):Int))) (vB (min v 1)) (congrArg _ (zkA _ _)) ?_)))))))))
 refine za (zn (some 5) .i64 (IntKind.i64.wrap ((min v 1:Nat):Int)) (min v 1) (zu rfl) ?_)
 exact zc 1 [(2,(vI (min v 1)))] (zf (zb (zj (zm (vI (min v 1)) (⟨rfl,rfl⟩)))))
theorem zsM (x:R4) (w:World):
  Calls Tryz.prog 113 #[(vA (r4C x)),(.func (.func 62) #[] #[])] w (Ret fun r w'=>r=(vI (zgj x))∧Ext w w'):=by
 refine zC (n:=19) (σ:= [(0,(vA (r4C x))),(1,(.func (.func 62) #[] #[]))]) Tryz.func113 rfl ?_
 refine ze (zd (za (zab (Instr.box 69 (vA (r4C x))) (vP w.heap.size 0) (r4C x) 69 ?_)))
 intro w1 hBw1 hEw1 hzw1 hlw1
 refine zc 1 [(4,(vI 0))] (zf (zb (ze (ze (zd (za (zS w.heap.size 0 (hBw1.all) (zdl _) ?_)))))))
 refine zc 1 [(9,(vI 0))] (zf (zb (zr (zW (X:=Nat) (fun i=> [(9,(vI i))]) [4,6,7,10,11,12,13,14,15,16,17,18] (fun i w2=>i≤4∧zcT zaV x.get i=0∧Ext w w2) (fun i=>4-i) 0 (by kernel_rfl) ⟨by omega,rfl,hEw1⟩ ?_))))
 rintro i dw2 w2 ⟨hi,hz,hEl⟩
 have hzl:=hEl.size
 refine ze (zd (za (zE (some 10) (decide (((i:Nat):Int)<((4:Nat):Int))) (fun hc10=> ?_) (fun hc10=> ?_))))
 ·replace hc10:i<4:=by have:=zac hc10;omega
  refine zf (zb (ze (zv (zo (zb (ze (zr (ze (zd ?_)))))))))
  refine za (zaM (Instr.index 69 (vA (r4C x)) (vI i)) (vA (zM (x.get i))) (zhw (E:=68) (m:=4) (sz:=35) (us:=zM (x.get i)) (by omega) (znx (by omega))) ?_)
  refine zan (zM (x.get i)) 68 (zZ _) (za8 _) ?_
  intro w3 hBw3 hEw3 hzw3 hlw3
  refine zf (zb (ze (zd (zc 1 [(12,(.func (.func 62) #[] #[]))] (za (zS w2.heap.size 0 (hBw3.all) (zZ _) ?_))))))
  refine za (zq (zfq (x.get i) _) ?_)
  rintro _ w4 ⟨rfl,hEw4⟩
  have hzw4:=hEw4.size
  refine zc 1 [(7,(vI (zaV (x.get i))))] (zf (zb (ze (zd (zc 1 [(15,(vI (zaV (x.get i))))] (za (zE (some 16) ((((zaV (x.get i):Nat):Int) !=((0:Nat):Int))) (fun hc16=> ?_) (fun hc16=> ?_))))))))
  ·replace hc16:¬(zaV (x.get i)=0):=by have:=zbT hc16;omega
   refine zf (zb (zv (ze (zd (zc 2 [(4,(vI (zaV (x.get i)))),(17,(vI (zaV (x.get i))))] (zf (zb (zj (zA ?_)))))))))
   exact zw (zw (zA (zw (zm (vI (zaV (x.get i))) (⟨congrArg (fun z:Nat=>vI z) (zn7 (by omega) (by omega)),((hEl.trans hEw3).trans hEw4)⟩)))))
  ·replace hc16:zaV (x.get i)=0:=by have:=zbU hc16;omega
   refine zf (zb (zh (zo (zi (zb (zd (za (zn (some 18) .i64 (IntKind.i64.wrap (((i:Nat):Int)+((1:Nat):Int))) (i+1) (zu) ?_))))))))
   refine zc 1 [(9,(vI (i+1)))] (zf (zz (zL (i+1) ?_ ?_)))
   ·exact ⟨by omega,by rw [zcT,if_pos hz];omega,((hEl.trans hEw3).trans hEw4)⟩
   ·first | omega |(dsimp only;omega)
 ·replace hc10:¬(i<4):=by have:=zad hc10;omega
  refine zf (zb (ze (zh (zP (zp (zp (zF (zb (ze ?_)))))))))
  refine zd (zc 1 [(4,(vI 0))] (zf (zb (zj (zm (vI 0) ?_)))))
  obtain rfl:i=4:=by omega
  exact ⟨congrArg (fun z:Nat=>vI z) (hz.symm),hEl⟩
theorem zr9 (x:E4) (w:World):
  Calls Tryz.prog 116 #[(vA (e4C x)),(.func (.func 131) #[] #[])] w (Ret fun r w'=>r=(vI (zgc x))∧Ext w w'):=by
 refine zC (n:=19) (σ:= [(0,(vA (e4C x))),(1,(.func (.func 131) #[] #[]))]) Tryz.func116 rfl ?_
 refine ze (zd (za (zab (Instr.box 72 (vA (e4C x))) (vP w.heap.size 0) (e4C x) 72 ?_)))
 intro w1 hBw1 hEw1 hzw1 hlw1
 refine zc 1 [(4,(vI 0))] (zf (zb (ze (ze (zd (za (zS w.heap.size 0 (hBw1.all) (zeb _) ?_)))))))
 refine zc 1 [(9,(vI 0))] (zf (zb (zr (zW (X:=Nat) (fun i=> [(9,(vI i))]) [4,6,7,10,11,12,13,14,15,16,17,18] (fun i w2=>i≤4∧zcT zba x.get i=0∧Ext w w2) (fun i=>4-i) 0 (by kernel_rfl) ⟨by omega,rfl,hEw1⟩ ?_))))
 rintro i dw2 w2 ⟨hi,hz,hEl⟩
 have hzl:=hEl.size
 refine ze (zd (za (zE (some 10) (decide (((i:Nat):Int)<((4:Nat):Int))) (fun hc10=> ?_) (fun hc10=> ?_))))
 ·replace hc10:i<4:=by have:=zac hc10;omega
  refine zf (zb (ze (zv (zo (zb (ze (zr (ze (zd ?_)))))))))
  refine za (zaM (Instr.index 72 (vA (e4C x)) (vI i)) (vA (zaj (x.get i))) (zhw (E:=71) (m:=4) (sz:=33) (us:=zaj (x.get i)) (by omega) (zkc (by omega))) ?_)
  refine zan (zaj (x.get i)) 71 (zaK _) (zcR _) ?_
  intro w3 hBw3 hEw3 hzw3 hlw3
  refine zf (zb (ze (zd (zc 1 [(12,(.func (.func 131) #[] #[]))] (za (zS w2.heap.size 0 (hBw3.all) (zaK _) ?_))))))
  refine za (zq (zhA (x.get i) _) ?_)
  rintro _ w4 ⟨rfl,hEw4⟩
  have hzw4:=hEw4.size
  refine zc 1 [(7,(vI (zba (x.get i))))] (zf (zb (ze (zd (zc 1 [(15,(vI (zba (x.get i))))] (za (zE (some 16) ((((zba (x.get i):Nat):Int) !=((0:Nat):Int))) (fun hc16=> ?_) (fun hc16=> ?_))))))))
  ·replace hc16:¬(zba (x.get i)=0):=by have:=zbT hc16;omega
   refine zf (zb (zv (ze (zd (zc 2 [(4,(vI (zba (x.get i)))),(17,(vI (zba (x.get i))))] (zf (zb (zj (zA ?_)))))))))
   exact zw (zw (zA (zw (zm (vI (zba (x.get i))) (⟨congrArg (fun z:Nat=>vI z) (znc (by omega) (by omega)),((hEl.trans hEw3).trans hEw4)⟩)))))
  ·replace hc16:zba (x.get i)=0:=by have:=zbU hc16;omega
   refine zf (zb (zh (zo (zi (zb (zd (za (zn (some 18) .i64 (IntKind.i64.wrap (((i:Nat):Int)+((1:Nat):Int))) (i+1) (zu) ?_))))))))
   refine zc 1 [(9,(vI (i+1)))] (zf (zz (zL (i+1) ?_ ?_)))
   ·exact ⟨by omega,by rw [zcT,if_pos hz];omega,((hEl.trans hEw3).trans hEw4)⟩
   ·first | omega |(dsimp only;omega)
 ·replace hc10:¬(i<4):=by have:=zad hc10;omega
  refine zf (zb (ze (zh (zP (zp (zp (zF (zb (ze ?_)))))))))
  refine zd (zc 1 [(4,(vI 0))] (zf (zb (zj (zm (vI 0) ?_)))))
  obtain rfl:i=4:=by omega
  exact ⟨congrArg (fun z:Nat=>vI z) (hz.symm),hEl⟩
theorem ziq (x:Nod) (w:World):
  Calls Tryz.prog 109 #[(vA (zJ x))] w (Ret fun r w'=>r=(vI (zaz x))∧Ext w w'):=by
 refine zC (n:=32) (σ:= [(0,(vA (zJ x)))]) Tryz.func109 rfl ?_
 refine ze (zd (za (zab (Instr.box 74 (vA (zJ x))) (vP w.heap.size 0) (zJ x) 74 ?_)))
 intro w1 hBw1 hEw1 hzw1 hlw1
 refine zc 1 [(2,(vI 0))] (zf (zb (ze (zr (ze (zd (zc 1 [(4,(vP w.heap.size 0))] (za (zl w.heap.size 0 (hBw1.cell rfl) ?_)))))))))
 refine za (zE (some 6) (decide (((x.lv:Nat):Int)>((5:Nat):Int))) (fun hc6=> ?_) (fun hc6=> ?_))
 ·replace hc6:x.lv>5:=by have:=zac hc6;omega
  refine zc 1 [(3,vT)] (zf (zb (zv (ze (zd (zc 1 [(2,(vI 1))] (zf (zb (zj ?_)))))))))
  exact zA (zw (zm (vI 1) (⟨congrArg (fun z:Nat=>vI z) (by unfold zaz;(repeat' split)<;>first | rfl | omega | simp_all),hEw1⟩)))
 ·replace hc6:¬(x.lv>5):=by have:=zad hc6;omega
  refine zc 1 [(3,vF)] (zf (zb (zh (ze (zd (zc 1 [(8,(vP w.heap.size 0))] (za (zl w.heap.size 0 (hBw1.cell rfl) ?_))))))))
  refine za (zE (some 10) ((((x.lv:Nat):Int)==((0:Nat):Int))) (fun hc10=> ?_) (fun hc10=> ?_))
  ·replace hc10:x.lv=0:=by have:=zbD hc10;omega
   refine zc 2 [(12,(vP w.heap.size 142)),(11,vT)] (za (zS w.heap.size 142 (hBw1.at 142 (e4C x.es) (zf4 _)) (zeb _) ?_))
   refine zc 1 [(14,(vA (e4C E4.zero)))] ?_
   rcases Bool.eq_false_or_eq_true (x.es.eqb E4.zero) with hq15 | hq15
   ·refine za (zcg (some 15) (bo .neq 72 (.tmp 13) (.tmp 14) (vA (e4C x.es)) (vA (e4C E4.zero))) vF (zap (r:=true) (T:=72) ((zg7 (dd:=9996) (T:=72) (t:=71) (t8:=5) (td:=59) (e:=5) x.es E4.zero).trans (congrArg (fun b=>Result.ok b _) (show (x.es.eqb E4.zero)=true from hq15)))) ?_)
    refine zc 2 [(7,vF),(16,vF)] (zf (zb (zh (ze (zd (zc 1 [(18,(vP w.heap.size 0))] (za (zl w.heap.size 0 (hBw1.cell rfl) ?_))))))))
    refine za (zah (some 20) (((x.lv:Nat):Int)==((0:Nat):Int)) true (zau) ?_)
    refine zc 1 [(17,vT)] (zf (zb (zv (ze (zd (zc 1 [(21,(vP w.heap.size 2))] (za (zS w.heap.size 2 (hBw1.at 2 (r4C x.rs) (zgw _)) (zdl _) ?_))))))))
    refine za (zq (zsM x.rs _) ?_)
    rintro _ w2 ⟨rfl,hEw2⟩
    have hzw2:=hEw2.size
    exact zc 1 [(2,(vI (zgj x.rs)))] (zf (zb (zj (zA (zw (zm (vI (zgj x.rs)) (⟨congrArg (fun z:Nat=>vI z) (by unfold zaz;(repeat' split)<;>first | rfl | omega | simp_all),(hEw1.trans hEw2)⟩)))))))
   ·refine za (zcg (some 15) (bo .neq 72 (.tmp 13) (.tmp 14) (vA (e4C x.es)) (vA (e4C E4.zero))) vT (zap (r:=false) (T:=72) ((zg7 (dd:=9996) (T:=72) (t:=71) (t8:=5) (td:=59) (e:=5) x.es E4.zero).trans (congrArg (fun b=>Result.ok b _) (show (x.es.eqb E4.zero)=false from hq15)))) ?_)
    refine zc 2 [(7,vT),(16,vT)] (zf (zb (zv (ze (zd (zc 1 [(2,(vI 1))] (zf (zb (zj ?_)))))))))
    exact zA (zw (zm (vI 1) (⟨congrArg (fun z:Nat=>vI z) (by unfold zaz;(repeat' split)<;>first | rfl | omega | simp_all),hEw1⟩)))
  ·replace hc10:¬(x.lv=0):=by have:=zbC hc10;omega
   refine zc 7 [(7,vF),(16,vF),(15,undef),(14,undef),(13,undef),(12,undef),(11,vF)] (zf (zb (zh (ze (zd (zc 1 [(18,(vP w.heap.size 0))] (za (zl w.heap.size 0 (hBw1.cell rfl) ?_))))))))
   refine za (zah (some 20) (((x.lv:Nat):Int)==((0:Nat):Int)) false (zct) ?_)
   refine zc 1 [(17,vF)] (zf (zb (zh (ze (zd (zc 1 [(25,(vP w.heap.size 2))] (za (zS w.heap.size 2 (hBw1.at 2 (r4C x.rs) (zgw _)) (zdl _) ?_))))))))
   refine zc 1 [(27,(vA (r4C R4.zero)))] ?_
   rcases Bool.eq_false_or_eq_true (x.rs.eqb R4.zero) with hq28 | hq28
   ·refine za (zcg (some 28) (bo .neq 69 (.tmp 26) (.tmp 27) (vA (r4C x.rs)) (vA (r4C R4.zero))) vF (zap (r:=true) (T:=69) ((zhy (dd:=9996) (T:=69) (t:=68) (t8:=5) (td:=59) (e:=5) (tn:=56) (t32:=53) (t64:=54) x.rs R4.zero).trans (congrArg (fun b=>Result.ok b _) (show (x.rs.eqb R4.zero)=true from hq28)))) ?_)
    refine zc 1 [(24,vF)] (zf (zb (zh (zo (zi (zb (ze (zd (zc 1 [(29,(vP w.heap.size 142))] ?_)))))))))
    refine za (zS w.heap.size 142 (hBw1.at 142 (e4C x.es) (zf4 _)) (zeb _) ?_)
    refine za (zq (zr9 x.es _) ?_)
    rintro _ w3 ⟨rfl,hEw3⟩
    have hzw3:=hEw3.size
    exact zc 1 [(2,(vI (zgc x.es)))] (zf (zb (zj (zm (vI (zgc x.es)) (⟨congrArg (fun z:Nat=>vI z) (by unfold zaz;(repeat' split)<;>first | rfl | omega | simp_all),(hEw1.trans hEw3)⟩)))))
   ·refine za (zcg (some 28) (bo .neq 69 (.tmp 26) (.tmp 27) (vA (r4C x.rs)) (vA (r4C R4.zero))) vT (zap (r:=false) (T:=69) ((zhy (dd:=9996) (T:=69) (t:=68) (t8:=5) (td:=59) (e:=5) (tn:=56) (t32:=53) (t64:=54) x.rs R4.zero).trans (congrArg (fun b=>Result.ok b _) (show (x.rs.eqb R4.zero)=false from hq28)))) ?_)
    refine zc 1 [(24,vT)] (zf (zb (zv (ze (zd (zc 1 [(2,(vI 1))] (zf (zb (zj ?_)))))))))
    exact zA (zw (zm (vI 1) (⟨congrArg (fun z:Nat=>vI z) (by unfold zaz;(repeat' split)<;>first | rfl | omega | simp_all),hEw1⟩)))
theorem zzl (x:Nod) (w:World):
  Calls Tryz.prog 85 #[(vA (zJ x))] w (Ret fun r w'=>r=(vI (zaz x))∧Ext w w'):=by
 refine zC (n:=57) (σ:= [(0,(vA (zJ x)))]) Tryz.func85 rfl ?_
 refine ze (zd (za (zab (Instr.box 74 (vA (zJ x))) (vP w.heap.size 0) (zJ x) 74 ?_)))
 intro w1 hBw1 hEw1 hzw1 hlw1
 refine zc 1 [(2,(vI 0))] (zf (zb (ze (ze (zd (zc 1 [(6,(vP w.heap.size 0))] (za (zl w.heap.size 0 (hBw1.cell rfl) ?_))))))))
 refine za (zE (some 8) (decide (((x.lv:Nat):Int)>((5:Nat):Int))) (fun hc8=> ?_) (fun hc8=> ?_))
 ·replace hc8:x.lv>5:=by have:=zac hc8;omega
  refine zf (zb (zv (ze (zd (zc 1 [(2,(vI 1))] (zf (zb (zj (zw ?_)))))))))
  exact zm (vI 1) (⟨congrArg (fun z:Nat=>vI z) ((by unfold zaz;rw [if_pos (by omega)])),hEw1⟩)
 ·replace hc8:¬(x.lv>5):=by have:=zad hc8;omega
  refine zf (zb (zh (zo (zb (ze (ze (zd (zc 1 [(3,(vI 0))] (zf ?_)))))))))
  refine zb (zr (zW (X:=Nat) (fun i=> [(3,(vI i))]) [2,9,10,11,12,13,14,15,16,17,18,19,20,21,22,23,24,25,26,27,28,29,30,31,32,33,34,35,36] (fun i w2=>i≤4∧Zs x i∧Ext w1 w2) (fun i=>4-i) 0 (by kernel_rfl) ⟨by omega,Zs.zero x,(Ext.refl _)⟩ ?_))
  rintro i dw2 w2 ⟨hi,hz,hEl⟩
  have hzl:=hEl.size
  refine ze (ze (zd (zc 1 [(9,(vI i))] (za (zE (some 10) (decide (((i:Nat):Int)<((4:Nat):Int))) (fun hc10=> ?_) (fun hc10=> ?_))))))
  ·replace hc10:i<4:=by have:=zac hc10;omega
   refine zf (zb (zv (zo (zb (ze (zr (ze (zd (zc 1 [(13,(vP w.heap.size 0))] ?_)))))))))
   refine za (zl w.heap.size 0 ((hBw1.ext hEl).cell rfl) ?_)
   refine za (zE (some 15) ((((x.lv:Nat):Int)==((0:Nat):Int))) (fun hc15=> ?_) (fun hc15=> ?_))
   ·replace hc15:x.lv=0:=by have:=zbD hc15;omega
    refine zc 3 [(18,(vP w.heap.size 142)),(17,(vI i)),(16,vT)] (za (zbk w.heap.size 142 i 4 33 ?_))
    refine za (zS w.heap.size (142+i*33) ((hBw1.ext hEl).at (142+i*33) (zaj (x.es.get i)) (nod_e (by omega))) (zaK _) ?_)
    refine zc 1 [(21,(vA (zaj Ent.zero)))] ?_
    rcases Bool.eq_false_or_eq_true ((x.es.get i).eqb Ent.zero) with hq22 | hq22
    ·refine za (zcg (some 22) (bo .neq 71 (.tmp 20) (.tmp 21) (vA (zaj (x.es.get i))) (vA (zaj Ent.zero))) vF (zap (r:=true) (T:=71) ((zcq (dd:=9997) (t:=71) (t8:=5) (td:=59) (e:=5) (x.es.get i) Ent.zero).trans (congrArg (fun b=>Result.ok b _) (show ((x.es.get i).eqb Ent.zero)=true from hq22)))) ?_)
     refine zc 3 [(25,(vP w.heap.size 0)),(24,vF),(23,vF)] (za (zl w.heap.size 0 ((hBw1.ext hEl).cell rfl) ?_))
     refine za (zah (some 27) (decide (((x.lv:Nat):Int)>((0:Nat):Int))) false (zcL) ?_)
     refine zc 9 [(36,vF),(35,vF),(34,undef),(33,undef),(32,undef),(31,undef),(30,undef),(29,undef),(28,vF)] (zf (zb (zh (zo (zi (zb (zd (zc 1 [(11,(vI i))] (za (zn (some 12) .i64 (IntKind.i64.wrap (((i:Nat):Int)+((1:Nat):Int))) (i+1) (zu) ?_))))))))))
     refine zc 1 [(3,(vI (i+1)))] (zf (zz (zL (i+1) ?_ ?_)))
     ·exact ⟨by omega,hz.stepE (by omega) hq22,hEl⟩
     ·first | omega |(dsimp only;omega)
    ·refine za (zcg (some 22) (bo .neq 71 (.tmp 20) (.tmp 21) (vA (zaj (x.es.get i))) (vA (zaj Ent.zero))) vT (zap (r:=false) (T:=71) ((zcq (dd:=9997) (t:=71) (t8:=5) (td:=59) (e:=5) (x.es.get i) Ent.zero).trans (congrArg (fun b=>Result.ok b _) (show ((x.es.get i).eqb Ent.zero)=false from hq22)))) ?_)
     refine zc 14 [(36,vT),(35,undef),(34,undef),(33,undef),(32,undef),(31,undef),(30,undef),(29,undef),(28,undef),(27,undef),(26,undef),(25,undef),(24,vT),(23,vT)] (zf (zb (zv (ze (zd (zc 1 [(2,(vI 1))] (zf (zb (zj ?_)))))))))
     exact zA (zw (zw (zA (zw (zm (vI 1) (⟨congrArg (fun z:Nat=>vI z) (zvl (by omega) (by omega) hq22 |>.symm),(hEw1.trans hEl)⟩))))))
   ·replace hc15:¬(x.lv=0):=by have:=zbC hc15;omega
    refine zc 10 [(25,(vP w.heap.size 0)),(24,vF),(23,vF),(22,undef),(21,undef),(20,undef),(19,undef),(18,undef),(17,undef),(16,vF)] (za (zl w.heap.size 0 ((hBw1.ext hEl).cell rfl) ?_))
    refine za (zah (some 27) (decide (((x.lv:Nat):Int)>((0:Nat):Int))) true (zga) ?_)
    refine zc 3 [(30,(vP w.heap.size 2)),(29,(vI i)),(28,vT)] (za (zbk w.heap.size 2 i 4 35 ?_))
    refine za (zS w.heap.size (2+i*35) ((hBw1.ext hEl).at (2+i*35) (zM (x.rs.get i)) (nod_r (by omega))) (zZ _) ?_)
    refine zc 1 [(33,(vA (zM Rec.zero)))] ?_
    rcases Bool.eq_false_or_eq_true ((x.rs.get i).eqb Rec.zero) with hq34 | hq34
    ·refine za (zcg (some 34) (bo .neq 68 (.tmp 32) (.tmp 33) (vA (zM (x.rs.get i))) (vA (zM Rec.zero))) vF (zap (r:=true) (T:=68) ((zdb (dd:=9997) (t:=68) (t8:=5) (tn:=56) (td:=59) (e:=5) (t32:=53) (t64:=54) (x.rs.get i) Rec.zero).trans (congrArg (fun b=>Result.ok b _) (show ((x.rs.get i).eqb Rec.zero)=true from hq34)))) ?_)
     refine zc 2 [(36,vF),(35,vF)] (zf (zb (zh (zo (zi (zb (zd (zc 1 [(11,(vI i))] (za (zn (some 12) .i64 (IntKind.i64.wrap (((i:Nat):Int)+((1:Nat):Int))) (i+1) (zu) ?_))))))))))
     refine zc 1 [(3,(vI (i+1)))] (zf (zz (zL (i+1) ?_ ?_)))
     ·exact ⟨by omega,hz.stepR (by omega) hq34,hEl⟩
     ·first | omega |(dsimp only;omega)
    ·refine za (zcg (some 34) (bo .neq 68 (.tmp 32) (.tmp 33) (vA (zM (x.rs.get i))) (vA (zM Rec.zero))) vT (zap (r:=false) (T:=68) ((zdb (dd:=9997) (t:=68) (t8:=5) (tn:=56) (td:=59) (e:=5) (t32:=53) (t64:=54) (x.rs.get i) Rec.zero).trans (congrArg (fun b=>Result.ok b _) (show ((x.rs.get i).eqb Rec.zero)=false from hq34)))) ?_)
     refine zc 2 [(36,vT),(35,vT)] (zf (zb (zv (ze (zd (zc 1 [(2,(vI 1))] (zf (zb (zj ?_)))))))))
     exact zA (zw (zw (zA (zw (zm (vI 1) (⟨congrArg (fun z:Nat=>vI z) (zvo (by omega) (by omega) hq34 |>.symm),(hEw1.trans hEl)⟩))))))
  ·replace hc10:¬(i<4):=by have:=zad hc10;omega
   refine zf (zb (zh (zP (zp (zp (zF (zb (ze (ze ?_)))))))))
   refine zd (zc 1 [(4,(vI 0))] (zf (zb (zr ?_))))
   obtain rfl:i=4:=by omega
   refine zW (X:=Nat) (fun j=> [(4,(vI j))]) [2,5,37,38,39,40,41,42,43,44,45,46,47,48,49,50,51,52,53,54,55,56] (fun j w3=>j≤4∧ckA x j=0∧Ext w1 w3) (fun j=>4-j) 0 (by kernel_rfl) ⟨by omega,zwg x,hEl⟩ ?_
   rintro j dw3 w3 ⟨hj,hck,hEm⟩
   have hzm:=hEm.size
   refine ze (ze (zd (zc 1 [(37,(vI j))] (za (zE (some 38) (decide (((j:Nat):Int)<((4:Nat):Int))) (fun hc38=> ?_) (fun hc38=> ?_))))))
   ·replace hc38:j<4:=by have:=zac hc38;omega
    refine zf (zb (zv (zo (zb (ze (zr (ze (zd (zc 2 [(42,(vP w.heap.size 2)),(41,(vI j))] ?_)))))))))
    refine za (zbk w.heap.size 2 j 4 35 ?_)
    refine za (zS w.heap.size (2+j*35) ((hBw1.ext hEm).at (2+j*35) (zM (x.rs.get j)) (nod_r (by omega))) (zZ _) ?_)
    refine za (zq (zzg (x.rs.get j) _) ?_)
    rintro _ w4 ⟨rfl,hEw4⟩
    have hzw4:=hEw4.size
    refine zc 1 [(5,(vI (zaV (x.rs.get j))))] (zf (zb (ze (ze (zd (zc 1 [(46,(vP w.heap.size 0))] (za (zl w.heap.size 0 (((hBw1.ext hEm).ext hEw4).cell rfl) ?_))))))))
    refine za (zE (some 48) (decide (((x.lv:Nat):Int)>((0:Nat):Int))) (fun hc48=> ?_) (fun hc48=> ?_))
    ·replace hc48:x.lv>0:=by have:=zac hc48;omega
     refine zf (zb (zv (zd (zc 2 [(50,(vP w.heap.size 142)),(49,(vI j))] (za (zbk w.heap.size 142 j 4 33 ?_))))))
     refine za (zS w.heap.size (142+j*33) (((hBw1.ext hEm).ext hEw4).at (142+j*33) (zaj (x.es.get j)) (nod_e (by omega))) (zaK _) ?_)
     refine za (zq (zzh (x.es.get j) _) ?_)
     rintro _ w5 ⟨rfl,hEw5⟩
     have hzw5:=hEw5.size
     refine zc 1 [(5,(vI (zba (x.es.get j))))] (zf (zb (ze (zd (zc 1 [(54,(vI (zba (x.es.get j))))] (za (zE (some 55) ((((zba (x.es.get j):Nat):Int) !=((0:Nat):Int))) (fun hc55=> ?_) (fun hc55=> ?_))))))))
     ·replace hc55:¬(zba (x.es.get j)=0):=by have:=zbT hc55;omega
      refine zf (zb (zv (ze (zd (zc 2 [(2,(vI (zba (x.es.get j)))),(56,(vI (zba (x.es.get j))))] (zf (zb (zj (zA ?_)))))))))
      refine zw (zw (zA (zw (zm (vI (zba (x.es.get j))) ?_))))
      have hX1:Ext w w5:=(((hEw1.trans hEm).trans hEw4).trans hEw5)
      exact ⟨congrArg (fun z:Nat=>vI z) (by rw [zhK (by omega) hz,zvE (by omega) (by omega) (by omega)]),hX1⟩
     ·replace hc55:zba (x.es.get j)=0:=by have:=zbU hc55;omega
      refine zf (zb (zh (zo (zi (zb (zd (zc 1 [(39,(vI j))] (za (zn (some 40) .i64 (IntKind.i64.wrap (((j:Nat):Int)+((1:Nat):Int))) (j+1) (zu) ?_)))))))))
      refine zc 1 [(4,(vI (j+1)))] (zf (zz (zL (j+1) ?_ ?_)))
      ·exact ⟨by omega,by rw [zy1 hck (by omega)];omega,((hEm.trans hEw4).trans hEw5)⟩
      ·first | omega |(dsimp only;omega)
    ·replace hc48:¬(x.lv>0):=by have:=zad hc48;omega
     refine zf (zb (zh (zo (zb (ze (zd (zc 1 [(54,(vI (zaV (x.rs.get j))))] (za (zE (some 55) ((((zaV (x.rs.get j):Nat):Int) !=((0:Nat):Int))) (fun hc55=> ?_) (fun hc55=> ?_))))))))))
     ·replace hc55:¬(zaV (x.rs.get j)=0):=by have:=zbT hc55;omega
      refine zf (zb (zv (ze (zd (zc 2 [(2,(vI (zaV (x.rs.get j)))),(56,(vI (zaV (x.rs.get j))))] (zf (zb (zj (zA ?_)))))))))
      exact zw (zw (zA (zw (zm (vI (zaV (x.rs.get j))) (⟨congrArg (fun z:Nat=>vI z) (by rw [zhK (by omega) hz,zvu (by omega) (by omega) (by omega)]),((hEw1.trans hEm).trans hEw4)⟩)))))
     ·replace hc55:zaV (x.rs.get j)=0:=by have:=zbU hc55;omega
      refine zf (zb (zh (zo (zi (zb (zd (zc 1 [(39,(vI j))] (za (zn (some 40) .i64 (IntKind.i64.wrap (((j:Nat):Int)+((1:Nat):Int))) (j+1) (zu) ?_)))))))))
      refine zc 1 [(4,(vI (j+1)))] (zf (zz (zL (j+1) ?_ ?_)))
      ·exact ⟨by omega,by rw [zyU hck (by omega)];omega,(hEm.trans hEw4)⟩
      ·first | omega |(dsimp only;omega)
   ·replace hc38:¬(j<4):=by have:=zad hc38;omega
    refine zf (zb (zh (zP (zp (zp (zF (zb (ze (zd ?_)))))))))
    refine zc 1 [(2,(vI 0))] (zf (zb (zj (zm (vI 0) ?_))))
    obtain rfl:j=4:=by omega
    exact ⟨congrArg (fun z:Nat=>vI z) ((by rw [zhK (by omega) hz];exact hck.symm)),(hEw1.trans hEm)⟩
end Go.Proofs.YtkmhgepdhilllaaGreatDoor
namespace Go.Proofs.YtkmhgepdhilllaaGreatDoor
open Go Go.RowKit Go.Cs
set_option maxRecDepth 100000
theorem zs6 (a:Nat) (b:Nat) (w:World) (hp0:a<256) (hp1:b<2^32):
  Calls Tryz.prog 63 #[(vB a),(vW b)] w (Ret fun r w'=>r=(vA (zJ (Nod.mt a b)))∧Ext w w'):=by
 refine zC (n:=8) (σ:= [(0,(vB a)),(1,(vW b))]) Tryz.func63 rfl ?_
 refine ze (zd (za (zaf (zJ Nod.zero) 74 ?_)))
 intro w1 hBw1 hEw1 hzw1 hlw1
 refine zf (zb (ze (zd (zc 2 [(6,(vW b)),(5,(vB a))] (za (zaM (Instr.build 74 #[(0,(vB a)),(1,(vW b))]) (vA (zJ (Nod.mt a b))) ((zfr a b (by omega) (by omega)).trans (congrArg (fun z:Nod=>Result.ok (Value.agg (zJ z).toArray) _) (show (Nod.emp a b (by omega) (by omega):Nod)=Nod.mt a b from Nod.mt_eq _ _))) ?_))))))
 refine za (zG 74 w.heap.size 0 74 (vA (zJ (Nod.mt a b))) (zJ Nod.zero) (zJ (Nod.mt a b)) hBw1 (by rw [zO];kernel_rfl) (by first |(simp;done)|(simp;omega)) (zcb _) ?_)
 intro w2 hBw2 hCw2
 have hzw2:=hCw2.size
 rw [zy _ _ (by simp)] at hBw2
 exact zf (zb (zj (zaI (show zX Tryz.prog 8 _ _ (.cell 4 74) (vA (zJ (Nod.mt a b))) from ⟨⟨w.heap.size,0,none⟩,(by kernel_rfl),zI (T:=74) (vs:=zJ (Nod.mt a b)) (hBw2).all (by rw [zO];kernel_rfl)⟩) (⟨rfl,(Ext.own hEw1 hCw2 (by omega))⟩))))
theorem zkT (x:Nod) (w:World):
  Calls Tryz.prog 65 #[(vA (zJ x))] w (Ret fun r w'=>r=(vI (usd x 4))∧Ext w w'):=by
 refine zC (n:=36) (σ:= [(0,(vA (zJ x)))]) Tryz.func65 rfl ?_
 refine ze (zd (za (zab (Instr.box 74 (vA (zJ x))) (vP w.heap.size 0) (zJ x) 74 ?_)))
 intro w1 hBw1 hEw1 hzw1 hlw1
 refine zc 1 [(2,(vI 0))] (zf (zb (ze (zd (zc 1 [(3,(vI 0))] (zf (zb (ze (ze ?_)))))))))
 refine zd (zc 1 [(5,(vI 0))] (zf (zb (zr (zW (X:=Nat) (fun i=> [(3,(vI (usd x i))),(5,(vI i))]) [4,6,7,8,9,10,11,12,13,14,15,16,17,18,19,20,21,22,23,24,25,26,27,28,29,30,31,32,33,34] (fun i w2=>i≤4∧Ext w1 w2) (fun i=>4-i) 0 (by kernel_rfl) ⟨by omega,(Ext.refl _)⟩ ?_)))))
 rintro i dw2 w2 ⟨hi,hEl⟩
 have hzl:=hEl.size
 have hul:=zon x i
 refine ze (zd (za (zE (some 6) (decide (((i:Nat):Int)<((4:Nat):Int))) (fun hc6=> ?_) (fun hc6=> ?_))))
 ·replace hc6:i<4:=by have:=zac hc6;omega
  refine zf (zb (ze (zv (zo (zb (ze (zr (ze (zd ?_)))))))))
  refine zc 2 [(4,(vI i)),(7,(vI i))] (zf (zb (ze (zd (zc 1 [(8,(vP w.heap.size 0))] (za (zl w.heap.size 0 ((hBw1.ext hEl).cell rfl) ?_)))))))
  refine za (zE (some 10) ((((x.lv:Nat):Int)==((0:Nat):Int))) (fun hc10=> ?_) (fun hc10=> ?_))
  ·replace hc10:x.lv=0:=by have:=zbD hc10;omega
   refine zc 3 [(13,(vP w.heap.size 2)),(12,(vI i)),(11,vT)] (za (zbk w.heap.size 2 i 4 35 ?_))
   refine zc 1 [(15,(vP w.heap.size (2+i*35)))] (za (zl w.heap.size (2+i*35) ((hBw1.ext hEl).cell (zsa (by omega))) ?_))
   refine za (zE (some 17) (((((x.rs.get i).st:Nat):Int) !=((0:Nat):Int))) (fun hc17=> ?_) (fun hc17=> ?_))
   ·replace hc17:¬((x.rs.get i).st=0):=by have:=zbT hc17;omega
    refine zc 14 [(31,vT),(30,undef),(29,undef),(28,undef),(27,undef),(26,undef),(25,undef),(24,undef),(23,undef),(22,undef),(21,undef),(20,undef),(19,vT),(18,vT)] (zf (zb (zv (zd (zc 1 [(32,(vI (usd x i)))] (za (zn (some 33) .i64 (IntKind.i64.wrap (((usd x i:Nat):Int)+((1:Nat):Int))) (usd x i+1) (zu) ?_)))))))
    refine zc 1 [(3,(vI (usd x i+1)))] (zf (zi (zb (zd (za (zn (some 34) .i64 (IntKind.i64.wrap (((i:Nat):Int)+((1:Nat):Int))) (i+1) (zu) ?_))))))
    refine zc 1 [(5,(vI (i+1)))] (zf (zz ?_))
    rw [show usd x i+1=usd x (i+1) from by rw [usd];(repeat' split)<;>omega]
    refine zL (i+1) ?_ ?_
    ·exact ⟨by omega,hEl⟩
    ·first | omega |(dsimp only;omega)
   ·replace hc17:(x.rs.get i).st=0:=by have:=zbU hc17;omega
    refine zc 3 [(20,(vP w.heap.size 0)),(19,vF),(18,vF)] (za (zl w.heap.size 0 ((hBw1.ext hEl).cell rfl) ?_))
    refine za (zah (some 22) (((x.lv:Nat):Int) !=((0:Nat):Int)) false (zaE) ?_)
    refine zc 9 [(31,vF),(30,vF),(29,undef),(28,undef),(27,undef),(26,undef),(25,undef),(24,undef),(23,vF)] (zf (zb (zh (zo (zi (zb (zd (za (zn (some 34) .i64 (IntKind.i64.wrap (((i:Nat):Int)+((1:Nat):Int))) (i+1) (zu) ?_)))))))))
    refine zc 1 [(5,(vI (i+1)))] (zf (zz ?_))
    rw [show usd x i=usd x (i+1) from by rw [usd];(repeat' split)<;>omega]
    refine zL (i+1) ?_ ?_
    ·exact ⟨by omega,hEl⟩
    ·first | omega |(dsimp only;omega)
  ·replace hc10:¬(x.lv=0):=by have:=zbC hc10;omega
   refine zc 10 [(20,(vP w.heap.size 0)),(19,vF),(18,vF),(17,undef),(16,undef),(15,undef),(14,undef),(13,undef),(12,undef),(11,vF)] (za (zl w.heap.size 0 ((hBw1.ext hEl).cell rfl) ?_))
   refine za (zah (some 22) (((x.lv:Nat):Int) !=((0:Nat):Int)) true (zcG) ?_)
   refine zc 3 [(25,(vP w.heap.size 142)),(24,(vI i)),(23,vT)] (za (zbk w.heap.size 142 i 4 33 ?_))
   refine zc 1 [(27,(vP w.heap.size (142+i*33)))] (za (zl w.heap.size (142+i*33) ((hBw1.ext hEl).cell (zsY (by omega))) ?_))
   refine za (zE (some 29) (((((x.es.get i).st:Nat):Int) !=((0:Nat):Int))) (fun hc29=> ?_) (fun hc29=> ?_))
   ·replace hc29:¬((x.es.get i).st=0):=by have:=zbT hc29;omega
    refine zc 2 [(31,vT),(30,vT)] (zf (zb (zv (zd (zc 1 [(32,(vI (usd x i)))] (za (zn (some 33) .i64 (IntKind.i64.wrap (((usd x i:Nat):Int)+((1:Nat):Int))) (usd x i+1) (zu) ?_)))))))
    refine zc 1 [(3,(vI (usd x i+1)))] (zf (zi (zb (zd (za (zn (some 34) .i64 (IntKind.i64.wrap (((i:Nat):Int)+((1:Nat):Int))) (i+1) (zu) ?_))))))
    refine zc 1 [(5,(vI (i+1)))] (zf (zz ?_))
    rw [show usd x i+1=usd x (i+1) from by rw [usd];(repeat' split)<;>omega]
    refine zL (i+1) ?_ ?_
    ·exact ⟨by omega,hEl⟩
    ·first | omega |(dsimp only;omega)
   ·replace hc29:(x.es.get i).st=0:=by have:=zbU hc29;omega
    refine zc 2 [(31,vF),(30,vF)] (zf (zb (zh (zo (zi (zb (zd (za (zn (some 34) .i64 (IntKind.i64.wrap (((i:Nat):Int)+((1:Nat):Int))) (i+1) (zu) ?_)))))))))
    refine zc 1 [(5,(vI (i+1)))] (zf (zz ?_))
    rw [show usd x i=usd x (i+1) from by rw [usd];(repeat' split)<;>omega]
    refine zL (i+1) ?_ ?_
    ·exact ⟨by omega,hEl⟩
    ·first | omega |(dsimp only;omega)
 ·replace hc6:¬(i<4):=by have:=zad hc6;omega
  refine zf (zb (ze (zh (zP (zp (zp (zF (zb (ze ?_)))))))))
  refine zd (zc 2 [(2,(vI (usd x i))),(35,(vI (usd x i)))] (zf (zb (zj (zm (vI (usd x i)) ?_)))))
  obtain rfl:i=4:=by omega
  exact ⟨rfl,(hEw1.trans hEl)⟩
theorem zkb (sd:Nat) (w:World) (hp0:sd<256):
  Calls Tryz.prog 21 #[(vB sd)] w (Ret fun r w'=>r=(vA (zQ (mkD sd)))∧Ext w w'):=by
 refine zC (n:=17) (σ:= [(0,(vB sd))]) Tryz.func21 rfl ?_
 refine ze (zd (za (zaf (zQ Dig.zero) 59 ?_)))
 intro w1 hBw1 hEw1 hzw1 hlw1
 refine zf (zb (ze (zd (za (zaf (zQ Dig.zero) 59 ?_)))))
 intro w2 hBw2 hEw2 hzw2 hlw2
 refine zf (zb (ze (ze (zd (zc 1 [(4,(vI 0))] (zf (zb (zr (zW (X:=Nat) (fun i=> [(4,(vI i))]) [5,6,7,8,9,10,11,12,13,14,15] (fun i w3=>i≤32∧Blk w3 w1.heap.size (u8s (zc0 32 (fun j=>decide (j<i)) (fun j=>UInt8.ofNat (sd+7*j)))) 59∧Ext w1 w3) (fun i=>32-i) 0 (by kernel_rfl) ⟨by omega,(by rw [zhk _ _ _ (by intro j hj;simp)];exact hBw2),hEw2⟩ ?_)))))))))
 rintro i dw3 w3 ⟨hi,hBl,hEl⟩
 have hzl:=hEl.size;have hll:=hBl.lt
 refine ze (ze (zd (zc 1 [(5,(vI i))] (za (zE (some 6) (decide (((i:Nat):Int)<((32:Nat):Int))) (fun hc6=> ?_) (fun hc6=> ?_))))))
 ·replace hc6:i<32:=by have:=zac hc6;omega
  refine zf (zb (zv (zo (zb (ze (zr (zd (zc 3 [(11,(vI i)),(10,(vB sd)),(9,(vI i))] (za (zn (some 12) .i64 (IntKind.i64.wrap (((7:Nat):Int)*((i:Nat):Int))) (7*i) (zu) ?_))))))))))
  refine za (zn (some 13) .u8 (IntKind.u8.wrap ((7*i:Nat):Int)) ((7*i)%2^8) (zci rfl rfl) ?_)
  refine za (zn (some 14) .u8 (IntKind.u8.wrap (((sd:Nat):Int)+(((7*i)%2^8:Nat):Int))) ((sd+(7*i)%2^8)%2^8) (zci rfl (by simp)) ?_)
  refine za (zbk w1.heap.size 0 i 32 1 ?_)
  refine za (zak 5 w1.heap.size (0+i*1) 59 (vB ((sd+(7*i)%2^8)%2^8)) (u8s (zc0 32 (fun j=>decide (j<i)) (fun j=>UInt8.ofNat (sd+7*j)))) hBl (by simp;omega) ?_)
  intro w4 hBw4 hCw4
  have hzw4:=hCw4.size
  rw [show ((u8s (zc0 32 (fun j=>decide (j<i)) (fun j=>UInt8.ofNat (sd+7*j)))).set (0+i*1) (vB ((sd+(7*i)%2^8)%2^8)):List Value)=u8s (zc0 32 (fun j=>decide (j<i+1)) (fun j=>UInt8.ofNat (sd+7*j))) from by have hx:=zii 32 (fun j=>decide (j<i)) (fun j=>decide (j<i+1)) (fun j=>UInt8.ofNat (sd+7*j)) i (UInt8.ofNat (sd+7*i)) (by omega) rfl (by intro j hj;by_cases h1:j<i+1<;>by_cases h2:j<i<;>by_cases h3:j=i<;>simp [h1,h2,h3]<;>omega);rw [UInt8.toNat_ofNat'] at hx;simpa only [Nat.zero_add,Nat.mul_one,show (sd+7*i%2^8)%2^8=(sd+7*i)%2^8 from by omega] using hx] at hBw4
  refine zf (zi (zb (zd (zc 1 [(7,(vI i))] (za (zn (some 8) .i64 (IntKind.i64.wrap (((i:Nat):Int)+((1:Nat):Int))) (i+1) (zu) ?_))))))
  refine zc 1 [(4,(vI (i+1)))] (zf (zz (zL (i+1) ?_ ?_)))
  ·exact ⟨by omega,hBw4,(Ext.own hEl hCw4 (by omega))⟩
  ·first | omega |(dsimp only;omega)
 ·replace hc6:¬(i<32):=by have:=zad hc6;omega
  refine zf (zb (zh (zP (zp (zp (zF (zb (ze (zd ?_)))))))))
  obtain rfl:i=32:=by omega
  have hBd:Blk w3 w1.heap.size (zQ (mkD sd)) 59:=by have hq:=hBl;rw [ziD _ _ _ (by intro j hj;simpa using hj)] at hq;exact hq
  refine za (zS w1.heap.size 0 hBd.all (zaq _) ?_)
  refine za (zG 59 w.heap.size 0 59 (vA (zQ (mkD sd))) (zQ Dig.zero) (zQ (mkD sd)) (hBw1.ext hEl) (by rw [zaq];kernel_rfl) (by first |(simp;done)|(simp;omega)) (zbW _) ?_)
  intro w5 hBw5 hCw5
  have hzw5:=hCw5.size
  rw [zy _ _ (by simp)] at hBw5
  exact zf (zb (zj (zaI (show zX Tryz.prog 17 _ _ (.cell 2 59) (vA (zQ (mkD sd))) from ⟨⟨w.heap.size,0,none⟩,(by kernel_rfl),zI (T:=59) (vs:=zQ (mkD sd)) (hBw5).all (by rw [zaq];kernel_rfl)⟩) (⟨rfl,(Ext.own (hEw1.trans hEl) hCw5 (by omega))⟩))))
theorem zuU (st:Nat) (sd:Nat) (w:World) (hp0:st<256) (hp1:sd<256):
  Calls Tryz.prog 43 #[(vB st),(vB sd)] w (Ret fun r w'=>r=(vA (zM (mkR st sd)))∧Ext w w'):=by
 refine zC (n:=21) (σ:= [(0,(vB st)),(1,(vB sd))]) Tryz.func43 rfl ?_
 refine ze (zd (za (zaf (zM Rec.zero) 68 ?_)))
 intro w1 hBw1 hEw1 hzw1 hlw1
 refine zf (zb (ze (ze (zd (zc 1 [(5,(vB st))] (za (zn (some 6) .u8 (((st:Nat):Int).tmod ((3:Nat):Int)) (st%3) (zcZ _ _) ?_)))))))
 refine za (zE (some 7) ((((st%3:Nat):Int)==((0:Nat):Int))) (fun hc7=> ?_) (fun hc7=> ?_))
 ·replace hc7:st%3=0:=by have:=zbD hc7;omega
  refine zf (zb (zv (ze (zd (zc 1 [(8,(vA (zM Rec.zero)))] (za (zG 68 w.heap.size 0 68 (vA (zM Rec.zero)) (zM Rec.zero) (zM Rec.zero) hBw1 (by rw [zZ];kernel_rfl) (by first |(simp;done)|(simp;omega)) (za8 _) ?_)))))))
  intro w2 hBw2 hCw2
  have hzw2:=hCw2.size
  rw [zy _ _ (by simp)] at hBw2
  exact zf (zb (zj (zw (zaI (show zX Tryz.prog 21 _ _ (.cell 4 68) (vA (zM Rec.zero)) from ⟨⟨w.heap.size,0,none⟩,(by kernel_rfl),zI (T:=68) (vs:=zM Rec.zero) (hBw2).all (by rw [zZ];kernel_rfl)⟩) (⟨by unfold mkR;first | rw [if_pos (by omega)] |(rw [if_neg (by omega)]),(Ext.own hEw1 hCw2 (by omega))⟩)))))
 ·replace hc7:¬(st%3=0):=by have:=zbC hc7;omega
  refine zf (zb (zh (zo (zb (ze (zd (zc 1 [(9,(vB st))] (za (zn (some 10) .u8 (((st:Nat):Int).tmod ((3:Nat):Int)) (st%3) (zcZ _ _) ?_)))))))))
  refine zc 1 [(11,(vB sd))] (za (zn (some 12) .u8 (((sd:Nat):Int).tmod ((8:Nat):Int)) (sd%8) (zcZ _ _) ?_))
  refine za (zn (some 13) .u32 (IntKind.u32.wrap ((sd%8:Nat):Int)) (sd%8) (zbA rfl rfl (by show _<2^32;omega)) ?_)
  refine zc 1 [(14,(vB sd))] (za (zn (some 15) .u64 (IntKind.u64.wrap ((sd:Nat):Int)) sd (zbA rfl rfl (by show _<2^64;omega)) ?_))
  refine za (zn (some 16) .u64 (IntKind.u64.wrap (((sd:Nat):Int)*((257:Nat):Int))) (sd%256*257) (zbA rfl (by rw [show sd%256=sd from by omega];simp) (by show _<2^64;omega)) ?_)
  refine zc 2 [(18,(vB sd)),(17,(vA (zbc ⟨sd%8,sd%256*257,by omega,by omega⟩)))] (za (zq (zkb sd _ (by omega)) ?_))
  rintro _ w3 ⟨rfl,hEw3⟩
  have hzw3:=hEw3.size
  refine za (zaM (Instr.build 68 #[(0,(vB (st%3))),(1,(vA (zbc ⟨sd%8,sd%256*257,by omega,by omega⟩))),(2,(vA (zQ (mkD sd))))]) (vA (zM (⟨st%3,(⟨sd%8,sd%256*257,by omega,by omega⟩),(mkD sd),by omega⟩))) (zc9 (st%3) (⟨sd%8,sd%256*257,by omega,by omega⟩) (mkD sd) (by omega)) ?_)
  refine za (zG 68 w.heap.size 0 68 (vA (zM (⟨st%3,(⟨sd%8,sd%256*257,by omega,by omega⟩),(mkD sd),by omega⟩))) (zM Rec.zero) (zM (⟨st%3,(⟨sd%8,sd%256*257,by omega,by omega⟩),(mkD sd),by omega⟩)) (hBw1.ext hEw3) (by rw [zZ];kernel_rfl) (by first |(simp;done)|(simp;omega)) (za8 _) ?_)
  intro w4 hBw4 hCw4
  have hzw4:=hCw4.size
  rw [zy _ _ (by simp)] at hBw4
  exact zf (zb (zj (zaI (show zX Tryz.prog 21 _ _ (.cell 4 68) (vA (zM (⟨st%3,(⟨sd%8,sd%256*257,by omega,by omega⟩),(mkD sd),by omega⟩))) from ⟨⟨w.heap.size,0,none⟩,(by kernel_rfl),zI (T:=68) (vs:=zM (⟨st%3,(⟨sd%8,sd%256*257,by omega,by omega⟩),(mkD sd),by omega⟩)) (hBw4).all (by rw [zZ];kernel_rfl)⟩) (⟨by unfold mkR;first | rw [if_pos (by omega)] |(rw [if_neg (by omega)]),(Ext.own (hEw1.trans hEw3) hCw4 (by omega))⟩))))
end Go.Proofs.YtkmhgepdhilllaaGreatDoor
namespace Go.Proofs.YtkmhgepdhilllaaGreatDoor
open Go Go.RowKit Go.Cs
set_option maxRecDepth 100000
theorem znq (x:Nod) (w:World) (hp0:x.lv=0):
  Calls Tryz.prog 84 #[(vA (zJ x))] w (Ret fun r w'=>∃a0 ca0,r=(.slice a0 185 ca0)∧Es u8v w.heap.size w'.heap.size w' a0 185 ca0 (zN x)∧Ext w w'):=by
 refine zC (n:=45) (σ:= [(0,(vA (zJ x)))]) Tryz.func84 rfl ?_
 have hlvx:=x.hlv
 have hixx:=x.hix
 refine ze (zd (za (zab (Instr.box 74 (vA (zJ x))) (vP w.heap.size 0) (zJ x) 74 ?_)))
 intro w1 hBw1 hEw1 hzw1 hlw1
 refine zc 1 [(2,(.slice none 0 0))] (zf (zb (ze (zd (zc 1 [(5,(vP w.heap.size 0))] (za (zl w.heap.size 0 (hBw1.cell rfl) ?_)))))))
 refine zc 1 [(7,(vP w.heap.size 1))] (za (zl w.heap.size 1 (hBw1.cell rfl) ?_))
 refine za (zn (some 9) .u32 (((x.ix:Nat):Int).fdiv (2^24)) (x.ix/256^3) (zgg _ _) ?_)
 refine za (zn (some 10) .u8 (IntKind.u8.wrap ((x.ix/256^3:Nat):Int)) ((x.ix/256^3)%2^8) (zci rfl rfl) ?_)
 refine zc 1 [(11,(vP w.heap.size 1))] (za (zl w.heap.size 1 (hBw1.cell rfl) ?_))
 refine za (zn (some 13) .u32 (((x.ix:Nat):Int).fdiv (2^16)) (x.ix/256^2) (zgg _ _) ?_)
 refine za (zn (some 14) .u8 (IntKind.u8.wrap ((x.ix/256^2:Nat):Int)) ((x.ix/256^2)%2^8) (zci rfl rfl) ?_)
 refine zc 1 [(15,(vP w.heap.size 1))] (za (zl w.heap.size 1 (hBw1.cell rfl) ?_))
 refine za (zn (some 17) .u32 (((x.ix:Nat):Int).fdiv (2^8)) (x.ix/256^1) (zgg _ _) ?_)
 refine za (zn (some 18) .u8 (IntKind.u8.wrap ((x.ix/256^1:Nat):Int)) ((x.ix/256^1)%2^8) (zci rfl rfl) ?_)
 refine zc 1 [(19,(vP w.heap.size 1))] (za (zl w.heap.size 1 (hBw1.cell rfl) ?_))
 refine za (zn (some 21) .u8 (IntKind.u8.wrap ((x.ix:Nat):Int)) (x.ix%2^8) (zci rfl rfl) ?_)
 refine za (zab (Instr.buildSlice 23 5 #[(0,(vB x.lv)),(1,(vB ((x.ix/256^3)%2^8))),(2,(vB ((x.ix/256^2)%2^8))),(3,(vB ((x.ix/256^1)%2^8))),(4,(vB (x.ix%2^8)))]) (.slice (pA w1.heap.size 0) 5 5) [(vB x.lv),(vB ((x.ix/256^3)%2^8)),(vB ((x.ix/256^2)%2^8)),(vB ((x.ix/256^1)%2^8)),(vB (x.ix%2^8))] 5 ?_)
 intro w2 hBw2 hEw2 hzw2 hlw2
 have hSw2:Bs w1.heap.size (w1.heap.size+1) w2 (pA w1.heap.size 0) 5 5 [UInt8.ofNat x.lv,UInt8.ofNat ((x.ix/256^3)%2^8),UInt8.ofNat ((x.ix/256^2)%2^8),UInt8.ofNat ((x.ix/256^1)%2^8),UInt8.ofNat (x.ix%2^8)]:=Bs.of_blk hBw2 (zgb x) rfl (Nat.le_refl _) (by decide) (Nat.le_refl _) (Nat.lt_succ_self _)
 refine zc 1 [(3,(.slice (pA w1.heap.size 0) 5 5))] (zf (zb (ze (ze (zd (zc 1 [(4,(vI 0))] (zf (zb (zr ?_)))))))))
 have hO1:Cs.Own u8v w1.heap.size (w1.heap.size+1) w2 (pA w1.heap.size 0) 5 5 5 ([UInt8.ofNat x.lv,UInt8.ofNat ((x.ix/256^3)%2^8),UInt8.ofNat ((x.ix/256^2)%2^8),UInt8.ofNat ((x.ix/256^1)%2^8),UInt8.ofNat (x.ix%2^8)]):=Cs.Own.of_blk hBw2 (by simp) (by first | rfl | exact (zgb x)) hSw2.len_eq (Nat.le_refl _) (by simp only [maxLen];omega) (Nat.le_refl _) (Nat.lt_succ_self _)
 refine zW (X:=Nat×Option Addr×Nat) (fun ⟨i,p,cp⟩=> [(3,(.slice p (5+45*i) cp)),(4,(vI i))]) [23,24,25,26,27,28,29,30,31,32,33,34,35,36,37,38,39,40,41,42,43] (fun ⟨i,p,cp⟩ w3=>i≤4∧Cs.Own u8v w1.heap.size w3.heap.size w3 p (5+45*i) cp 5 (zej x++zbM zbV x.rs.get i)∧Ext w1 w3) (fun ⟨i,p,cp⟩=>4-i) (0,(pA w1.heap.size 0),5) (by kernel_rfl) ⟨by omega,by have hz:=(hO1).now;rw [zrg] at hz;rw [zbM,List.append_nil];exact hz.mono (by omega) (Nat.le_refl _),hEw2⟩ ?_
 rintro ⟨i,p,cp⟩ dw3 w3 ⟨hi,hO,hEl⟩
 have hzl:=hEl.size
 have hle:=hO.es.le
 refine ze (ze (zd (zc 1 [(23,(vI i))] (za (zE (some 24) (decide (((i:Nat):Int)<((4:Nat):Int))) (fun hc24=> ?_) (fun hc24=> ?_))))))
 ·replace hc24:i<4:=by have:=zac hc24;omega
  refine zf (zb (zv (zo (zb (ze (zr (ze (zd (zc 1 [(27,(vP w.heap.size 0))] ?_)))))))))
  refine za (zl w.heap.size 0 ((hBw1.ext hEl).cell rfl) ?_)
  refine za (zah (some 29) (((x.lv:Nat):Int)==((0:Nat):Int)) true (zau) ?_)
  refine zf (zb (zv (zd (zc 3 [(32,(vP w.heap.size 2)),(31,(vI i)),(30,(.slice p (5+45*i) cp))] (za (zbk w.heap.size 2 i 4 35 ?_))))))
  refine za (zS w.heap.size (2+i*35) ((hBw1.ext hEl).at (2+i*35) (zM (x.rs.get i)) (nod_r (by omega))) (zZ _) ?_)
  refine za (zq (zoT (x.rs.get i) _) ?_)
  rintro _ w4 ⟨a1,ca1,rfl,hFz1_0,hEw4⟩
  have hzw4:=hEw4.size
  have hlea1:=hFz1_0.le
  have hba1:=hFz1_0.bs
  refine za (zbo (some 36) 23 23 5 1 (.int .u8 0) (hO.ext hEw4) hba1.es (fun _=>rfl) ?_)
  intro a2 c1 w5 hOw5 hCw5
  have hzw5:=hCw5.size
  have hSw5:=hOw5.bs
  refine zc 1 [(3,(.slice a2 (5+45*i+45) c1))] (zf (zi (zb (zd (zc 1 [(25,(vI i))] (za (zn (some 26) .i64 (IntKind.i64.wrap (((i:Nat):Int)+((1:Nat):Int))) (i+1) (zu) ?_)))))))
  refine zc 1 [(4,(vI (i+1)))] (zf (zz ?_))
  rw [show 5+45*i+45=5+45*(i+1) from by omega]
  refine zL (i+1,a2,c1) ?_ ?_
  ·exact ⟨by omega,by have hz:=hOw5;rw [List.append_assoc] at hz;exact (show 5+45*i+45=5+45*(i+1) from by omega)▸hz,(Ext.ownS (hEl.trans hEw4) hCw5 (fun k hs hk=>by have hn:=(hO.ext hEw4).ne hs;omega))⟩
  ·first | omega |(dsimp only;omega)
 ·replace hc24:¬(i<4):=by have:=zad hc24;omega
  refine zf (zb (zh (zP (zp (zp (zF (zb (ze (zd ?_)))))))))
  refine zc 2 [(2,(.slice p (5+45*i) cp)),(44,(.slice p (5+45*i) cp))] (zf (zb (zj (zm (.slice p (5+45*i) cp) ?_))))
  obtain rfl:i=4:=by omega
  rw [show zN x=zej x++zbM zbV x.rs.get 4 from by unfold zN;rw [if_pos hp0]]
  exact ⟨_,_,rfl,(hO).es.mono (by omega) (Nat.le_refl _),(hEw1.trans hEl)⟩
theorem zne (x:Nod) (w:World) (hp0:¬x.lv=0):
  Calls Tryz.prog 84 #[(vA (zJ x))] w (Ret fun r w'=>∃a0 ca0,r=(.slice a0 137 ca0)∧Es u8v w.heap.size w'.heap.size w' a0 137 ca0 (zN x)∧Ext w w'):=by
 refine zC (n:=45) (σ:= [(0,(vA (zJ x)))]) Tryz.func84 rfl ?_
 have hlvx:=x.hlv
 have hixx:=x.hix
 refine ze (zd (za (zab (Instr.box 74 (vA (zJ x))) (vP w.heap.size 0) (zJ x) 74 ?_)))
 intro w1 hBw1 hEw1 hzw1 hlw1
 refine zc 1 [(2,(.slice none 0 0))] (zf (zb (ze (zd (zc 1 [(5,(vP w.heap.size 0))] (za (zl w.heap.size 0 (hBw1.cell rfl) ?_)))))))
 refine zc 1 [(7,(vP w.heap.size 1))] (za (zl w.heap.size 1 (hBw1.cell rfl) ?_))
 refine za (zn (some 9) .u32 (((x.ix:Nat):Int).fdiv (2^24)) (x.ix/256^3) (zgg _ _) ?_)
 refine za (zn (some 10) .u8 (IntKind.u8.wrap ((x.ix/256^3:Nat):Int)) ((x.ix/256^3)%2^8) (zci rfl rfl) ?_)
 refine zc 1 [(11,(vP w.heap.size 1))] (za (zl w.heap.size 1 (hBw1.cell rfl) ?_))
 refine za (zn (some 13) .u32 (((x.ix:Nat):Int).fdiv (2^16)) (x.ix/256^2) (zgg _ _) ?_)
 refine za (zn (some 14) .u8 (IntKind.u8.wrap ((x.ix/256^2:Nat):Int)) ((x.ix/256^2)%2^8) (zci rfl rfl) ?_)
 refine zc 1 [(15,(vP w.heap.size 1))] (za (zl w.heap.size 1 (hBw1.cell rfl) ?_))
 refine za (zn (some 17) .u32 (((x.ix:Nat):Int).fdiv (2^8)) (x.ix/256^1) (zgg _ _) ?_)
 refine za (zn (some 18) .u8 (IntKind.u8.wrap ((x.ix/256^1:Nat):Int)) ((x.ix/256^1)%2^8) (zci rfl rfl) ?_)
 refine zc 1 [(19,(vP w.heap.size 1))] (za (zl w.heap.size 1 (hBw1.cell rfl) ?_))
 refine za (zn (some 21) .u8 (IntKind.u8.wrap ((x.ix:Nat):Int)) (x.ix%2^8) (zci rfl rfl) ?_)
 refine za (zab (Instr.buildSlice 23 5 #[(0,(vB x.lv)),(1,(vB ((x.ix/256^3)%2^8))),(2,(vB ((x.ix/256^2)%2^8))),(3,(vB ((x.ix/256^1)%2^8))),(4,(vB (x.ix%2^8)))]) (.slice (pA w1.heap.size 0) 5 5) [(vB x.lv),(vB ((x.ix/256^3)%2^8)),(vB ((x.ix/256^2)%2^8)),(vB ((x.ix/256^1)%2^8)),(vB (x.ix%2^8))] 5 ?_)
 intro w2 hBw2 hEw2 hzw2 hlw2
 have hSw2:Bs w1.heap.size (w1.heap.size+1) w2 (pA w1.heap.size 0) 5 5 [UInt8.ofNat x.lv,UInt8.ofNat ((x.ix/256^3)%2^8),UInt8.ofNat ((x.ix/256^2)%2^8),UInt8.ofNat ((x.ix/256^1)%2^8),UInt8.ofNat (x.ix%2^8)]:=Bs.of_blk hBw2 (zgb x) rfl (Nat.le_refl _) (by decide) (Nat.le_refl _) (Nat.lt_succ_self _)
 refine zc 1 [(3,(.slice (pA w1.heap.size 0) 5 5))] (zf (zb (ze (ze (zd (zc 1 [(4,(vI 0))] (zf (zb (zr ?_)))))))))
 have hO1:Cs.Own u8v w1.heap.size (w1.heap.size+1) w2 (pA w1.heap.size 0) 5 5 5 ([UInt8.ofNat x.lv,UInt8.ofNat ((x.ix/256^3)%2^8),UInt8.ofNat ((x.ix/256^2)%2^8),UInt8.ofNat ((x.ix/256^1)%2^8),UInt8.ofNat (x.ix%2^8)]):=Cs.Own.of_blk hBw2 (by simp) (by first | rfl | exact (zgb x)) hSw2.len_eq (Nat.le_refl _) (by simp only [maxLen];omega) (Nat.le_refl _) (Nat.lt_succ_self _)
 refine zW (X:=Nat×Option Addr×Nat) (fun ⟨i,p,cp⟩=> [(3,(.slice p (5+33*i) cp)),(4,(vI i))]) [23,24,25,26,27,28,29,30,31,32,33,34,35,36,37,38,39,40,41,42,43] (fun ⟨i,p,cp⟩ w3=>i≤4∧Cs.Own u8v w1.heap.size w3.heap.size w3 p (5+33*i) cp 5 (zej x++zbM zb9 x.es.get i)∧Ext w1 w3) (fun ⟨i,p,cp⟩=>4-i) (0,(pA w1.heap.size 0),5) (by kernel_rfl) ⟨by omega,by have hz:=(hO1).now;rw [zrg] at hz;rw [zbM,List.append_nil];exact hz.mono (by omega) (Nat.le_refl _),hEw2⟩ ?_
 rintro ⟨i,p,cp⟩ dw3 w3 ⟨hi,hO,hEl⟩
 have hzl:=hEl.size
 have hle:=hO.es.le
 refine ze (ze (zd (zc 1 [(23,(vI i))] (za (zE (some 24) (decide (((i:Nat):Int)<((4:Nat):Int))) (fun hc24=> ?_) (fun hc24=> ?_))))))
 ·replace hc24:i<4:=by have:=zac hc24;omega
  refine zf (zb (zv (zo (zb (ze (zr (ze (zd (zc 1 [(27,(vP w.heap.size 0))] ?_)))))))))
  refine za (zl w.heap.size 0 ((hBw1.ext hEl).cell rfl) ?_)
  refine za (zah (some 29) (((x.lv:Nat):Int)==((0:Nat):Int)) false (zct) ?_)
  refine zf (zb (zh (zd (zc 3 [(39,(vP w.heap.size 142)),(38,(vI i)),(37,(.slice p (5+33*i) cp))] (za (zbk w.heap.size 142 i 4 33 ?_))))))
  refine za (zS w.heap.size (142+i*33) ((hBw1.ext hEl).at (142+i*33) (zaj (x.es.get i)) (nod_e (by omega))) (zaK _) ?_)
  refine za (zq (zqo (x.es.get i) _) ?_)
  rintro _ w4 ⟨a1,ca1,rfl,hFz1_0,hEw4⟩
  have hzw4:=hEw4.size
  have hlea1:=hFz1_0.le
  have hba1:=hFz1_0.bs
  refine za (zbo (some 43) 23 23 5 1 (.int .u8 0) (hO.ext hEw4) hba1.es (fun _=>rfl) ?_)
  intro a2 c1 w5 hOw5 hCw5
  have hzw5:=hCw5.size
  have hSw5:=hOw5.bs
  refine zc 1 [(3,(.slice a2 (5+33*i+33) c1))] (zf (zi (zb (zd (zc 1 [(25,(vI i))] (za (zn (some 26) .i64 (IntKind.i64.wrap (((i:Nat):Int)+((1:Nat):Int))) (i+1) (zu) ?_)))))))
  refine zc 1 [(4,(vI (i+1)))] (zf (zz ?_))
  rw [show 5+33*i+33=5+33*(i+1) from by omega]
  refine zL (i+1,a2,c1) ?_ ?_
  ·exact ⟨by omega,by have hz:=hOw5;rw [List.append_assoc] at hz;exact (show 5+33*i+33=5+33*(i+1) from by omega)▸hz,(Ext.ownS (hEl.trans hEw4) hCw5 (fun k hs hk=>by have hn:=(hO.ext hEw4).ne hs;omega))⟩
  ·first | omega |(dsimp only;omega)
 ·replace hc24:¬(i<4):=by have:=zad hc24;omega
  refine zf (zb (zh (zP (zp (zp (zF (zb (ze (zd ?_)))))))))
  refine zc 2 [(2,(.slice p (5+33*i) cp)),(44,(.slice p (5+33*i) cp))] (zf (zb (zj (zm (.slice p (5+33*i) cp) ?_))))
  obtain rfl:i=4:=by omega
  rw [show zN x=zej x++zbM zb9 x.es.get 4 from by unfold zN;rw [if_neg hp0]]
  exact ⟨_,_,rfl,(hO).es.mono (by omega) (Nat.le_refl _),(hEw1.trans hEl)⟩
theorem zpX (x:Nod) (w:World):
  Calls Tryz.prog 84 #[(vA (zJ x))] w (Ret fun r w'=>∃a0 ca0,r=(.slice a0 (zb4 x) ca0)∧Es u8v w.heap.size w'.heap.size w' a0 (zb4 x) ca0 (zN x)∧Ext w w'):=by
 by_cases h:x.lv=0
 ·rw [show zb4 x=185 from if_pos h];exact znq x w h
 ·rw [show zb4 x=137 from if_neg h];exact zne x w h
end Go.Proofs.YtkmhgepdhilllaaGreatDoor
namespace Go.Proofs.YtkmhgepdhilllaaGreatDoor
open Go Go.RowKit Go.Cs
set_option maxRecDepth 100000
theorem zpc {b6 bm n cp m:Nat} {L:List UInt8} {lo hi k:Nat} {a:Option Addr} {cl:Nat} {l:List UInt8} (e:Nat) (w:World) (hb6:Blk w b6 [(.slice (pA bm 0) n cp)] 23) (hbm:Blk w bm (u8s L++List.replicate m (vB 0)) 5) (hL:L.length=n) (hcp:n+m=cp) (hmx:cp≤1000) (hne:b6≠bm) (hl:Bs lo hi w a k cl l) (hk:0<k) (hkm:k≤m):
  Calls Tryz.prog 112 #[(.slice a k cl),(vI e),(vP b6 0)] w (Ret fun r w'=>r=(vI e)∧Blk w' b6 [(.slice (pA bm 0) (n+k) cp)] 23∧Blk w' bm (u8s (L++l)++List.replicate (m-k) (vB 0)) 5∧Chg (fun j=>j=b6∨j=bm) w w'):=by
 refine zC (n:=10) (σ:= [(0,(.slice a k cl)),(1,(vI e)),(2,(vP b6 0))]) Tryz.func112 rfl ?_
 have hle:=hl.le
 refine ze (zd (zc 1 [(5,(vI 0))] (zf (zb (ze (zd (za (zl b6 0 (hb6.cell rfl) ?_))))))))
 refine zc 1 [(7,(.slice a k cl))] ?_
 obtain ⟨b1,o1,rfl⟩:=hl.addr (by omega)
 refine za (zdd (some 8) 23 23 5 1 bm n cp ⟨b1,o1,none⟩ k cl hbm hl.sla (by rw [za4,←hl.len_eq,Nat.mul_one]) (zc8 _) (by rw [List.length_append,za4,hL,List.length_replicate,Nat.mul_one];omega) ?_ (by omega))
 intro w1 hBw1 hCw1
 have hzw1:=hCw1.size
 rw [zf2 hL hl.len_eq.symm (by omega)] at hBw1
 have hLw1:(L++l).length=n+k:=by rw [List.length_append,hL,←hl.len_eq]
 refine za (zak 23 b6 0 23 (.slice (pA bm 0) (n+k) cp) ([(.slice (pA bm 0) n cp)]) (hb6.chg hCw1) (by first | decide |(simp;done)|(simp;omega)) ?_)
 intro w2 hBw2 hCw2
 have hzw2:=hCw2.size
 replace hBw2:=hBw2.set1
 exact zf (zb (ze (zd (zc 2 [(5,(vI e)),(9,(vI e))] (zf (zb (zj (zm (vI e) (⟨rfl,hBw2,(hBw1.chg hCw2),(Chg.then (Chg.then (Chg.refl (fun j=>j=b6∨j=bm) w) hCw1 (fun k hk hs=>by have h:k=_:=hs;first | exact hs | exact .inl h | exact .inr h |(exfalso;omega))) hCw2 (fun k hk hs=>by have h:k=_:=hs;first | exact hs | exact .inl h | exact .inr h |(exfalso;omega)))⟩)))))))))
theorem zto {b6 bm n cp m:Nat} {L:List UInt8} {b7:Nat} (q:Rec) (w:World) (hb6:Blk w b6 [(.slice (pA bm 0) n cp)] 23) (hbm:Blk w bm (u8s L++List.replicate m (vB 0)) 5) (hL:L.length=n) (hcp:n+m=cp) (hmx:cp≤1000) (hne:b6≠bm) (hb7:Blk w b7 [(.func (.func 112) #[] #[(vP b6 0)])] 184) (h76:b7≠b6) (h7m:b7≠bm) (hq:zaV q=0) (hm:45≤m):
  Calls Tryz.prog 114 #[(vA (zM q)),(vP b7 0)] w (Ret fun r w'=>r=(vI 0)∧Blk w' b7 [(.func (.func 112) #[] #[(vP b6 0)])] 184∧Blk w' b6 [(.slice (pA bm 0) (n+45) cp)] 23∧Blk w' bm (u8s (L++zbV q)++List.replicate (m-45) (vB 0)) 5∧Chg (fun j=>j=b6∨j=bm) w w'):=by
 refine zC (n:=10) (σ:= [(0,(vA (zM q))),(1,(vP b7 0))]) Tryz.func114 rfl ?_
 have h6l:=hb6.lt;have hml:=hbm.lt;have h7l:=hb7.lt
 refine ze (zd (za (zab (Instr.box 68 (vA (zM q))) (vP w.heap.size 0) (zM q) 68 ?_)))
 intro w1 hBw1 hEw1 hzw1 hlw1
 refine zc 1 [(3,(vI 0))] (zf (zb (ze (zbI (fun j=>j=b6∨j=bm) 7 (fun w2 hEw2 hzw2 hT30=> ?_)))))
 have hX1:Chg (fun j=>j=b6∨j=bm) w2 w2:=(Chg.refl (fun j=>j=b6∨j=bm) w2)
 refine zt (hw:=hX1) hT30 0 b7 0 (fun w' hC=>((((hb7.ext hEw1).ext hEw2).chg hC (fun hs=>by rcases hs with hs | hs<;>omega)).cell rfl)) (zal (hw:=hX1) hT30 1 w.heap.size 0 (fun w' hC=>(((hBw1.ext hEw2).chg hC (fun hs=>by rcases hs with hs | hs<;>omega)).all)) (zZ _) (zx 2 (zq (zl4 q _ (by assumption)) ?_)))
 rintro _ w3 ⟨a1,rfl,hFz1_0,hEw3⟩
 have hzw3:=hEw3.size
 have hX2:Chg (fun j=>j=b6∨j=bm) w2 w3:=((Chg.refl (fun j=>j=b6∨j=bm) w2).trans hEw3.chg)
 refine ⟨.inr hX2, ?_⟩
 refine zg (hw:=hX2) hT30 [(3,7,(.slice a1 45 45)),(4,8,(vI 0))] 2 ?_
 have hK1:=(((hb6.ext hEw1).ext hEw2).ext hEw3)
 have hK2:=(((hbm.ext hEw1).ext hEw2).ext hEw3)
 refine zx 5 (zcz (some 9) (zpc 0 _ hK1 hK2 hL hcp hmx hne hFz1_0 (by omega) (by omega)) ?_)
 rintro _ w4 ⟨rfl,hPw4,hQw4,hCw4⟩
 have hzw4:=hCw4.size
 have hX3:Chg (fun j=>j=b6∨j=bm) w2 w4:=(Chg.then ((Chg.refl (fun j=>j=b6∨j=bm) w2).trans hEw3.chg) hCw4 (fun k hk hs=>by first | exact hs |(rcases hs with hs | hs<;>first |(left;omega)|(right;omega)|(exfalso;omega))))
 refine ⟨.inr hX3, ?_⟩
 refine zg (hw:=hX3) hT30 [(6,3,(vI 0))] 1 (zD (zb (zj (zm (vI 0) ?_))))
 have hK3:=((((hb7.ext hEw1).ext hEw2).ext hEw3).chg hCw4)
 exact ⟨rfl,hK3,hPw4,hQw4,(Chg.then ((((Chg.refl (fun j=>j=b6∨j=bm) w).trans hEw1.chg).trans hEw2.chg).trans hEw3.chg) hCw4 (fun k hk hs=>by first | exact hs |(rcases hs with hs | hs<;>first |(left;omega)|(right;omega)|(exfalso;omega))))⟩
theorem zld {b6 bm n cp m:Nat} {L:List UInt8} {b7:Nat} (x:R4) (w:World) (hb6:Blk w b6 [(.slice (pA bm 0) n cp)] 23) (hbm:Blk w bm (u8s L++List.replicate m (vB 0)) 5) (hL:L.length=n) (hcp:n+m=cp) (hmx:cp≤1000) (hne:b6≠bm) (hb7:Blk w b7 [(.func (.func 112) #[] #[(vP b6 0)])] 184) (h76:b7≠b6) (h7m:b7≠bm) (hq:zgj x=0) (hm:180≤m):
  Calls Tryz.prog 113 #[(vA (r4C x)),(.func (.func 114) #[] #[(vP b7 0)])] w (Ret fun r w'=>r=(vI 0)∧Blk w' b7 [(.func (.func 112) #[] #[(vP b6 0)])] 184∧Blk w' b6 [(.slice (pA bm 0) (n+45*4) cp)] 23∧Blk w' bm (u8s (L++zbM zbV x.get 4)++List.replicate (m-45*4) (vB 0)) 5∧Chg (fun j=>j=b6∨j=bm) w w'):=by
 refine zC (n:=19) (σ:= [(0,(vA (r4C x))),(1,(.func (.func 114) #[] #[(vP b7 0)]))]) Tryz.func113 rfl ?_
 have h6l:=hb6.lt;have hml:=hbm.lt;have h7l:=hb7.lt
 refine ze (zd (za (zab (Instr.box 69 (vA (r4C x))) (vP w.heap.size 0) (r4C x) 69 ?_)))
 intro w1 hBw1 hEw1 hzw1 hlw1
 refine zc 1 [(4,(vI 0))] (zf (zb (ze (ze (zd (za (zS w.heap.size 0 (hBw1.all) (zdl _) ?_)))))))
 refine zc 1 [(9,(vI 0))] (zf (zb (zr (zW (X:=Nat) (fun i=> [(9,(vI i))]) [4,6,7,10,11,12,13,14,15,16,17,18] (fun i w2=>i≤4∧Blk w2 b7 ([(.func (.func 112) #[] #[(vP b6 0)])]) 184∧Blk w2 b6 ([(.slice (pA bm 0) (n+45*i) cp)]) 23∧Blk w2 bm (u8s (L++zbM zbV x.get i)++List.replicate (m-45*i) (vB 0)) 5∧Chg (fun j=>j=b6∨j=bm) w w2) (fun i=>4-i) 0 (by kernel_rfl) ⟨by omega,(hb7.ext hEw1),(hb6.ext hEw1),by have hz:=(hbm.ext hEw1);simpa [zbM] using hz,((Chg.refl (fun j=>j=b6∨j=bm) w).trans hEw1.chg)⟩ ?_))))
 rintro i dw2 w2 ⟨hi,hR,hP,hQ,hCl⟩
 have hzl:=hCl.size
 refine ze (zd (za (zE (some 10) (decide (((i:Nat):Int)<((4:Nat):Int))) (fun hc10=> ?_) (fun hc10=> ?_))))
 ·replace hc10:i<4:=by have:=zac hc10;omega
  refine zf (zb (ze (zv (zo (zb (ze (zr (ze (zd ?_)))))))))
  refine za (zaM (Instr.index 69 (vA (r4C x)) (vI i)) (vA (zM (x.get i))) (zhw (E:=68) (m:=4) (sz:=35) (us:=zM (x.get i)) (by omega) (znx (by omega))) ?_)
  refine zan (zM (x.get i)) 68 (zZ _) (za8 _) ?_
  intro w3 hBw3 hEw3 hzw3 hlw3
  refine zf (zb (ze (zd (zc 1 [(12,(.func (.func 114) #[] #[(vP b7 0)]))] (za (zS w2.heap.size 0 (hBw3.all) (zZ _) ?_))))))
  refine za (zcz (some 14) (zto (x.get i) _ (hP.ext hEw3) (hQ.ext hEw3) (by rw [List.length_append,zev zik];omega) (by omega) hmx hne (hR.ext hEw3) h76 h7m (za3.1 hq _ (by omega)) (by omega)) ?_)
  rintro _ w4 ⟨rfl,hRw4,hPw4,hQw4,hCw4⟩
  have hzw4:=hCw4.size
  refine zc 1 [(7,(vI 0))] (zf (zb (ze (zd (zc 2 [(16,vF),(15,(vI 0))] (zf (zb (zh (zo ?_)))))))))
  refine zi (zb (zd (za (zn (some 18) .i64 (IntKind.i64.wrap (((i:Nat):Int)+((1:Nat):Int))) (i+1) (zu) ?_))))
  refine zc 1 [(9,(vI (i+1)))] (zf (zz (zL (i+1) ?_ ?_)))
  ·exact ⟨by omega,hRw4,by have hz:=hPw4;rwa [show n+45*i+45=n+45*(i+1) from by omega] at hz,by have hz:=hQw4;rw [List.append_assoc] at hz;exact (show m-45*i-45=m-45*(i+1) from by omega)▸hz,(Chg.then ((Chg.then (Chg.refl (fun j=>j=b6∨j=bm) w) hCl (fun k hk hs=>by first | exact hs |(rcases hs with hs | hs<;>first |(left;omega)|(right;omega)|(exfalso;omega)))).trans hEw3.chg) hCw4 (fun k hk hs=>by first | exact hs |(rcases hs with hs | hs<;>first |(left;omega)|(right;omega)|(exfalso;omega))))⟩
  ·first | omega |(dsimp only;omega)
 ·replace hc10:¬(i<4):=by have:=zad hc10;omega
  refine zf (zb (ze (zh (zP (zp (zp (zF (zb (ze ?_)))))))))
  refine zd (zc 1 [(4,(vI 0))] (zf (zb (zj (zm (vI 0) ?_)))))
  obtain rfl:i=4:=by omega
  exact ⟨rfl,hR,hP,hQ,(Chg.then (Chg.refl (fun j=>j=b6∨j=bm) w) hCl (fun k hk hs=>by first | exact hs |(rcases hs with hs | hs<;>first |(left;omega)|(right;omega)|(exfalso;omega))))⟩
theorem ztG {b6 bm n cp m:Nat} {L:List UInt8} {b7:Nat} (q:Ent) (w:World) (hb6:Blk w b6 [(.slice (pA bm 0) n cp)] 23) (hbm:Blk w bm (u8s L++List.replicate m (vB 0)) 5) (hL:L.length=n) (hcp:n+m=cp) (hmx:cp≤1000) (hne:b6≠bm) (hb7:Blk w b7 [(.func (.func 112) #[] #[(vP b6 0)])] 184) (h76:b7≠b6) (h7m:b7≠bm) (hq:zba q=0) (hm:33≤m):
  Calls Tryz.prog 117 #[(vA (zaj q)),(vP b7 0)] w (Ret fun r w'=>r=(vI 0)∧Blk w' b7 [(.func (.func 112) #[] #[(vP b6 0)])] 184∧Blk w' b6 [(.slice (pA bm 0) (n+33) cp)] 23∧Blk w' bm (u8s (L++zb9 q)++List.replicate (m-33) (vB 0)) 5∧Chg (fun j=>j=b6∨j=bm) w w'):=by
 refine zC (n:=10) (σ:= [(0,(vA (zaj q))),(1,(vP b7 0))]) Tryz.func117 rfl ?_
 have h6l:=hb6.lt;have hml:=hbm.lt;have h7l:=hb7.lt
 refine ze (zd (za (zab (Instr.box 71 (vA (zaj q))) (vP w.heap.size 0) (zaj q) 71 ?_)))
 intro w1 hBw1 hEw1 hzw1 hlw1
 refine zc 1 [(3,(vI 0))] (zf (zb (ze (zbI (fun j=>j=b6∨j=bm) 7 (fun w2 hEw2 hzw2 hT86=> ?_)))))
 have hX1:Chg (fun j=>j=b6∨j=bm) w2 w2:=(Chg.refl (fun j=>j=b6∨j=bm) w2)
 refine zt (hw:=hX1) hT86 0 b7 0 (fun w' hC=>((((hb7.ext hEw1).ext hEw2).chg hC (fun hs=>by rcases hs with hs | hs<;>omega)).cell rfl)) (zal (hw:=hX1) hT86 1 w.heap.size 0 (fun w' hC=>(((hBw1.ext hEw2).chg hC (fun hs=>by rcases hs with hs | hs<;>omega)).all)) (zaK _) (zx 2 (zq (zn2 q _ (by assumption)) ?_)))
 rintro _ w3 ⟨a1,rfl,hFz1_0,hEw3⟩
 have hzw3:=hEw3.size
 have hX2:Chg (fun j=>j=b6∨j=bm) w2 w3:=((Chg.refl (fun j=>j=b6∨j=bm) w2).trans hEw3.chg)
 refine ⟨.inr hX2, ?_⟩
 refine zg (hw:=hX2) hT86 [(3,7,(.slice a1 33 33)),(4,8,(vI 0))] 2 ?_
 have hK1:=(((hb6.ext hEw1).ext hEw2).ext hEw3)
 have hK2:=(((hbm.ext hEw1).ext hEw2).ext hEw3)
 refine zx 5 (zcz (some 9) (zpc 0 _ hK1 hK2 hL hcp hmx hne hFz1_0 (by omega) (by omega)) ?_)
 rintro _ w4 ⟨rfl,hPw4,hQw4,hCw4⟩
 have hzw4:=hCw4.size
 have hX3:Chg (fun j=>j=b6∨j=bm) w2 w4:=(Chg.then ((Chg.refl (fun j=>j=b6∨j=bm) w2).trans hEw3.chg) hCw4 (fun k hk hs=>by first | exact hs |(rcases hs with hs | hs<;>first |(left;omega)|(right;omega)|(exfalso;omega))))
 refine ⟨.inr hX3, ?_⟩
 refine zg (hw:=hX3) hT86 [(6,3,(vI 0))] 1 (zD (zb (zj (zm (vI 0) ?_))))
 have hK3:=((((hb7.ext hEw1).ext hEw2).ext hEw3).chg hCw4)
 exact ⟨rfl,hK3,hPw4,hQw4,(Chg.then ((((Chg.refl (fun j=>j=b6∨j=bm) w).trans hEw1.chg).trans hEw2.chg).trans hEw3.chg) hCw4 (fun k hk hs=>by first | exact hs |(rcases hs with hs | hs<;>first |(left;omega)|(right;omega)|(exfalso;omega))))⟩
theorem zkQ {b6 bm n cp m:Nat} {L:List UInt8} {b7:Nat} (x:E4) (w:World) (hb6:Blk w b6 [(.slice (pA bm 0) n cp)] 23) (hbm:Blk w bm (u8s L++List.replicate m (vB 0)) 5) (hL:L.length=n) (hcp:n+m=cp) (hmx:cp≤1000) (hne:b6≠bm) (hb7:Blk w b7 [(.func (.func 112) #[] #[(vP b6 0)])] 184) (h76:b7≠b6) (h7m:b7≠bm) (hq:zgc x=0) (hm:132≤m):
  Calls Tryz.prog 116 #[(vA (e4C x)),(.func (.func 117) #[] #[(vP b7 0)])] w (Ret fun r w'=>r=(vI 0)∧Blk w' b7 [(.func (.func 112) #[] #[(vP b6 0)])] 184∧Blk w' b6 [(.slice (pA bm 0) (n+33*4) cp)] 23∧Blk w' bm (u8s (L++zbM zb9 x.get 4)++List.replicate (m-33*4) (vB 0)) 5∧Chg (fun j=>j=b6∨j=bm) w w'):=by
 refine zC (n:=19) (σ:= [(0,(vA (e4C x))),(1,(.func (.func 117) #[] #[(vP b7 0)]))]) Tryz.func116 rfl ?_
 have h6l:=hb6.lt;have hml:=hbm.lt;have h7l:=hb7.lt
 refine ze (zd (za (zab (Instr.box 72 (vA (e4C x))) (vP w.heap.size 0) (e4C x) 72 ?_)))
 intro w1 hBw1 hEw1 hzw1 hlw1
 refine zc 1 [(4,(vI 0))] (zf (zb (ze (ze (zd (za (zS w.heap.size 0 (hBw1.all) (zeb _) ?_)))))))
 refine zc 1 [(9,(vI 0))] (zf (zb (zr (zW (X:=Nat) (fun i=> [(9,(vI i))]) [4,6,7,10,11,12,13,14,15,16,17,18] (fun i w2=>i≤4∧Blk w2 b7 ([(.func (.func 112) #[] #[(vP b6 0)])]) 184∧Blk w2 b6 ([(.slice (pA bm 0) (n+33*i) cp)]) 23∧Blk w2 bm (u8s (L++zbM zb9 x.get i)++List.replicate (m-33*i) (vB 0)) 5∧Chg (fun j=>j=b6∨j=bm) w w2) (fun i=>4-i) 0 (by kernel_rfl) ⟨by omega,(hb7.ext hEw1),(hb6.ext hEw1),by have hz:=(hbm.ext hEw1);simpa [zbM] using hz,((Chg.refl (fun j=>j=b6∨j=bm) w).trans hEw1.chg)⟩ ?_))))
 rintro i dw2 w2 ⟨hi,hR,hP,hQ,hCl⟩
 have hzl:=hCl.size
 refine ze (zd (za (zE (some 10) (decide (((i:Nat):Int)<((4:Nat):Int))) (fun hc10=> ?_) (fun hc10=> ?_))))
 ·replace hc10:i<4:=by have:=zac hc10;omega
  refine zf (zb (ze (zv (zo (zb (ze (zr (ze (zd ?_)))))))))
  refine za (zaM (Instr.index 72 (vA (e4C x)) (vI i)) (vA (zaj (x.get i))) (zhw (E:=71) (m:=4) (sz:=33) (us:=zaj (x.get i)) (by omega) (zkc (by omega))) ?_)
  refine zan (zaj (x.get i)) 71 (zaK _) (zcR _) ?_
  intro w3 hBw3 hEw3 hzw3 hlw3
  refine zf (zb (ze (zd (zc 1 [(12,(.func (.func 117) #[] #[(vP b7 0)]))] (za (zS w2.heap.size 0 (hBw3.all) (zaK _) ?_))))))
  refine za (zcz (some 14) (ztG (x.get i) _ (hP.ext hEw3) (hQ.ext hEw3) (by rw [List.length_append,zev zit];omega) (by omega) hmx hne (hR.ext hEw3) h76 h7m (za3.1 hq _ (by omega)) (by omega)) ?_)
  rintro _ w4 ⟨rfl,hRw4,hPw4,hQw4,hCw4⟩
  have hzw4:=hCw4.size
  refine zc 1 [(7,(vI 0))] (zf (zb (ze (zd (zc 2 [(16,vF),(15,(vI 0))] (zf (zb (zh (zo ?_)))))))))
  refine zi (zb (zd (za (zn (some 18) .i64 (IntKind.i64.wrap (((i:Nat):Int)+((1:Nat):Int))) (i+1) (zu) ?_))))
  refine zc 1 [(9,(vI (i+1)))] (zf (zz (zL (i+1) ?_ ?_)))
  ·exact ⟨by omega,hRw4,by have hz:=hPw4;rwa [show n+33*i+33=n+33*(i+1) from by omega] at hz,by have hz:=hQw4;rw [List.append_assoc] at hz;exact (show m-33*i-33=m-33*(i+1) from by omega)▸hz,(Chg.then ((Chg.then (Chg.refl (fun j=>j=b6∨j=bm) w) hCl (fun k hk hs=>by first | exact hs |(rcases hs with hs | hs<;>first |(left;omega)|(right;omega)|(exfalso;omega)))).trans hEw3.chg) hCw4 (fun k hk hs=>by first | exact hs |(rcases hs with hs | hs<;>first |(left;omega)|(right;omega)|(exfalso;omega))))⟩
  ·first | omega |(dsimp only;omega)
 ·replace hc10:¬(i<4):=by have:=zad hc10;omega
  refine zf (zb (ze (zh (zP (zp (zp (zF (zb (ze ?_)))))))))
  refine zd (zc 1 [(4,(vI 0))] (zf (zb (zj (zm (vI 0) ?_)))))
  obtain rfl:i=4:=by omega
  exact ⟨rfl,hR,hP,hQ,(Chg.then (Chg.refl (fun j=>j=b6∨j=bm) w) hCl (fun k hk hs=>by first | exact hs |(rcases hs with hs | hs<;>first |(left;omega)|(right;omega)|(exfalso;omega))))⟩
end Go.Proofs.YtkmhgepdhilllaaGreatDoor
namespace Go.Proofs.YtkmhgepdhilllaaGreatDoor
open Go Go.RowKit Go.Cs
set_option maxRecDepth 100000
theorem zr5 (x:Nod) (w:World) (hp0:zaz x=0) (hp1:x.lv=0) (hg0:Gl 0 [vI 45,vI 33] w):
  Calls Tryz.prog 89 #[(vA (zJ x))] w (Ret fun r w'=>∃a0,r=(.tuple #[(.slice (pA a0 0) 185 185),(vI 0)])∧w.heap.size≤a0∧Blk w' a0 (u8s (zN x)) 5∧185=(zN x).length∧185≤1099511627776∧Ext w w'):=by
 refine zC (n:=44) (σ:= [(0,(vA (zJ x)))]) Tryz.func89 rfl ?_
 have hgl0:=hg0.lt
 have hlvx:=x.hlv
 have hixx:=x.hix
 refine ze (zd (za (zab (Instr.box 74 (vA (zJ x))) (vP w.heap.size 0) (zJ x) 74 ?_)))
 intro w1 hBw1 hEw1 hzw1 hlw1
 refine zc 2 [(3,(vI 0)),(2,(.slice none 0 0))] (zf (zb (ze (ze (zd (za (zS w.heap.size 0 (hBw1.all) (zO _) ?_)))))))
 refine za (zq (ziq x _) ?_)
 rintro _ w2 ⟨rfl,hEw2⟩
 have hzw2:=hEw2.size
 refine zc 1 [(4,(vI (zaz x)))] (zf (zb (ze (zd (zc 1 [(10,(vI (zaz x)))] (za (zah (some 11) (((zaz x:Nat):Int) !=((0:Nat):Int)) false (zaE) ?_)))))))
 refine zf (zb (zh (zo (zb (ze (zd (zc 1 [(13,(vP w.heap.size 0))] (za (zl w.heap.size 0 ((hBw1.ext hEw2).cell rfl) ?_)))))))))
 refine za (zq (zoS x.lv _) ?_)
 rintro _ _ ⟨rfl,rfl⟩
 rw [show min x.lv 1=0 from by omega]
 refine zc 1 [(5,(vI 0))] (zf (zb (ze (zd (zc 1 [(16,(vI 0))] (za (zaM (Instr.indexAt 183 (vP 0 0) (vI 0)) (vP 0 0) (za2 (E:=3) (sz:=1) (m:=2)) ?_)))))))
 refine za (zl 0 0 (((hg0.ext hEw1).ext hEw2).all.one 0 (vI 45) rfl) ?_)
 refine za (zn (some 19) .i64 (IntKind.i64.wrap (((4:Nat):Int)*((45:Nat):Int))) 180 (zu) ?_)
 refine za (zn (some 20) .i64 (IntKind.i64.wrap (((5:Nat):Int)+((180:Nat):Int))) 185 (zu) ?_)
 refine za (zcy (some 21) 23 5 1 1 0 185 .i64 .i64 (vB 0) (by omega) (by omega) (by omega) ?_)
 rw [zd3 _ rfl]
 intro w3 hBw3 hEw3
 have hzw3:=hEw3.size;have hlw3:=hBw3.lt
 refine zfM (.slice (pA w2.heap.size 0) 0 185) 23 ?_
 intro w4 hBw4 hEw4 hzw4 hlw4
 refine zf (zb (ze (zd (za (zl w3.heap.size 0 (hBw4.cell rfl) ?_)))))
 refine zc 1 [(23,(vP w.heap.size 0))] ?_
 have hK1:=(((hBw1.ext hEw2).ext hEw3).ext hEw4)
 refine za (zl w.heap.size 0 (hK1.cell rfl) ?_)
 refine za (zab (Instr.buildSlice 23 1 #[(0,(vB x.lv))]) (.slice (pA w4.heap.size 0) 1 1) [(vB x.lv)] 5 ?_)
 intro w5 hBw5 hEw5 hzw5 hlw5
 have hSw5:Bs w4.heap.size (w4.heap.size+1) w5 (pA w4.heap.size 0) 1 1 [UInt8.ofNat x.lv]:=Bs.of_blk hBw5 (zcS x.hlv) rfl (Nat.le_refl _) (by decide) (Nat.le_refl _) (Nat.lt_succ_self _)
 have hZw2:Blk w5 w2.heap.size (u8s []++List.replicate 185 (vB 0)) 5:=((hBw3.ext hEw4).ext hEw5)
 refine za (zdd (some 26) 23 23 5 1 w2.heap.size 0 185 ⟨w4.heap.size,0,none⟩ 1 1 hZw2 hSw5.sla (by rw [za4,←hSw5.len_eq,Nat.mul_one]) (zc8 _) (by rw [List.length_append,za4,(show ([]:List UInt8).length=0 from rfl),List.length_replicate,Nat.mul_one];omega) ?_ (by omega))
 intro w6 hBw6 hCw6
 have hzw6:=hCw6.size
 rw [zf2 (show ([]:List UInt8).length=0 from rfl) hSw5.len_eq.symm (by omega)] at hBw6
 rw [show 185-1=184 from rfl] at hBw6
 have hLw6:([]++([UInt8.ofNat x.lv])).length=0+1:=by rw [List.length_append,(show ([]:List UInt8).length=0 from rfl),←hSw5.len_eq]
 rw [show 0+1=1 from rfl]
 rw [show 0+1=1 from rfl] at hLw6
 refine za (zak 23 w3.heap.size 0 23 (.slice (pA w2.heap.size 0) 1 185) ([(.slice (pA w2.heap.size 0) 0 185)]) ((hBw4.ext hEw5).chg hCw6) (by first | decide |(simp;done)|(simp;omega)) ?_)
 intro w7 hBw7 hCw7
 have hzw7:=hCw7.size
 replace hBw7:=hBw7.set1
 refine zf (zb (ze (zbI (fun k=>k=w3.heap.size∨k=w2.heap.size) 6 (fun w8 hEw8 hzw8 hT98=> ?_))))
 have hX1:Chg (fun k=>k=w3.heap.size∨k=w2.heap.size) w8 w8:=(Chg.refl (fun k=>k=w3.heap.size∨k=w2.heap.size) w8)
 refine zg (hw:=hX1) hT98 [(1,28,(vP w.heap.size 1))] 1 ?_
 have hK2:=((((hK1.ext hEw5).chg hCw6).chg hCw7).ext hEw8)
 refine zt (hw:=hX1) hT98 2 w.heap.size 1 (fun w' hC=>((hK2.chg hC (fun hs=>by rcases hs with hs | hs<;>omega)).cell rfl)) (zbE 0 3 ?_ ?_)
 ·refine zl w3.heap.size 0 ((hBw7.ext hEw8).cell rfl) (⟨.inr hX1, ?_⟩)
  refine zx 3 (zq (zfN x.ix _ (by omega)) ?_)
  rintro _ w9 ⟨a1,rfl,hFz3_0,hEw9⟩
  have hzw9:=hEw9.size
  have hX2:Chg (fun k=>k=w3.heap.size∨k=w2.heap.size) w8 w9:=((Chg.refl (fun k=>k=w3.heap.size∨k=w2.heap.size) w8).trans hEw9.chg)
  refine ⟨.inr hX2, ?_⟩
  obtain ⟨b1,o1,rfl⟩:=hFz3_0.addr (by omega)
  have hK3:=(((hBw6.chg hCw7).ext hEw8).ext hEw9)
  refine zx 4 (zdd (some 31) 23 23 5 1 w2.heap.size 1 185 ⟨b1,o1,none⟩ 4 4 hK3 hFz3_0.sla (by rw [za4,←hFz3_0.len_eq,Nat.mul_one]) (zc8 _) (by rw [List.length_append,za4,hLw6,List.length_replicate,Nat.mul_one];omega) ?_ (by omega))
  intro w10 hBw10 hCw10
  have hzw10:=hCw10.size
  rw [zf2 hLw6 hFz3_0.len_eq.symm (by omega)] at hBw10
  rw [show 184-4=180 from rfl] at hBw10
  have hLw10:([]++([UInt8.ofNat x.lv])++(be x.ix 4)).length=1+4:=by rw [List.length_append,hLw6,←hFz3_0.len_eq]
  rw [show 1+4=5 from rfl]
  rw [show 1+4=5 from rfl] at hLw10
  have hX3:Chg (fun k=>k=w3.heap.size∨k=w2.heap.size) w8 w10:=(Chg.then ((Chg.refl (fun k=>k=w3.heap.size∨k=w2.heap.size) w8).trans hEw9.chg) hCw10 (fun k hk hs=>by have h:k=_:=hs;first | exact hs | exact .inl h | exact .inr h |(exfalso;omega)))
  refine ⟨.inr hX3, ?_⟩
  have hK4:=(((hBw7.ext hEw8).ext hEw9).chg hCw10)
  refine zx 5 (zak 23 w3.heap.size 0 23 (.slice (pA w2.heap.size 0) 5 185) ([(.slice (pA w2.heap.size 0) 1 185)]) hK4 (by first | decide |(simp;done)|(simp;omega)) ?_)
  have hK5:=(((hBw7.ext hEw8).ext hEw9).chg hCw10)
  intro w11 hBw11 hCw11
  have hzw11:=hCw11.size
  replace hBw11:=hBw11.set1
  refine ⟨.inl (by kernel_rfl), ?_⟩
  refine zD (zb (ze (zd (zc 1 [(32,(.func (.func 112) #[] #[(vP w3.heap.size 0)]))] (zfM (.func (.func 112) #[] #[(vP w3.heap.size 0)]) 184 ?_)))))
  intro w12 hBw12 hEw12 hzw12 hlw12
  refine zf (zb (ze (ze (zd (zc 1 [(33,(vI 0))] (za (zah (some 34) (((0:Nat):Int)==((0:Nat):Int)) true (zau) ?_)))))))
  refine zf (zb (zv (zd (zc 1 [(35,(vP w.heap.size 2))] ?_))))
  have hK6:=((((hK2.ext hEw9).chg hCw10).chg hCw11).ext hEw12)
  refine za (zS w.heap.size 2 (hK6.at 2 (r4C x.rs) (zgw _)) (zdl _) ?_)
  refine zc 1 [(37,(.func (.func 114) #[] #[(vP w11.heap.size 0)]))] (za (zcz (some 38) (zld x.rs _ (hBw11.ext hEw12) ((hBw10.chg hCw11).ext hEw12) hLw10 rfl (by decide) (by omega) hBw12 (by omega) (by omega) (zgx hp0 hp1) (by omega)) ?_))
  rintro _ w13 ⟨rfl,hRw13,hPw13,hQw13,hCw13⟩
  have hzw13:=hCw13.size
  refine zf (zb (ze (zd (za (zl w3.heap.size 0 (hPw13.cell rfl) ?_)))))
  refine zc 2 [(3,(vI 0)),(2,(.slice (pA w2.heap.size 0) 185 185))] (zf (zb (zj (zm (.tuple #[(.slice (pA w2.heap.size 0) 185 185),(vI 0)]) ?_))))
  have hX4:Ext w w13:=(Ext.ownS ((Ext.own (Ext.own (((Ext.own (Ext.own ((((hEw1.trans hEw2).trans hEw3).trans hEw4).trans hEw5) hCw6 (by omega)) hCw7 (by omega)).trans hEw8).trans hEw9) hCw10 (by omega)) hCw11 (by omega)).trans hEw12) hCw13 (fun k hs hk=>by rcases hs with hs | hs<;>omega))
  have hfin:=hQw13
  rw [show u8s ([]++([UInt8.ofNat x.lv])++(be x.ix 4)++zbM zbV (x.rs.get) 4)++List.replicate (0) (vB 0)=u8s (zN x) from by rw [List.replicate_zero,List.append_nil];unfold zN;rw [if_pos hp1];simp [zej]] at hfin
  exact ⟨_,rfl,by omega,hfin,by rw [zeY,if_pos hp1],by decide,hX4⟩
 ·refine zq (zfN x.ix _ (by omega)) ?_
  rintro _ w14 ⟨a2,rfl,hFz4_0,hEw14⟩
  have hzw14:=hEw14.size
  have hX5:Chg (fun k=>k=w3.heap.size∨k=w2.heap.size) w8 w14:=((Chg.refl (fun k=>k=w3.heap.size∨k=w2.heap.size) w8).trans hEw14.chg)
  refine ⟨.inr hX5, ?_⟩
  refine zx 0 (zl w3.heap.size 0 (((hBw7.ext hEw8).ext hEw14).cell rfl) ?_)
  refine ⟨.inr hX5, ?_⟩
  obtain ⟨b2,o2,rfl⟩:=hFz4_0.addr (by omega)
  have hK7:=(((hBw6.chg hCw7).ext hEw8).ext hEw14)
  refine zx 4 (zdd (some 31) 23 23 5 1 w2.heap.size 1 185 ⟨b2,o2,none⟩ 4 4 hK7 hFz4_0.sla (by rw [za4,←hFz4_0.len_eq,Nat.mul_one]) (zc8 _) (by rw [List.length_append,za4,hLw6,List.length_replicate,Nat.mul_one];omega) ?_ (by omega))
  intro w15 hBw15 hCw15
  have hzw15:=hCw15.size
  rw [zf2 hLw6 hFz4_0.len_eq.symm (by omega)] at hBw15
  rw [show 184-4=180 from rfl] at hBw15
  have hLw15:([]++([UInt8.ofNat x.lv])++(be x.ix 4)).length=1+4:=by rw [List.length_append,hLw6,←hFz4_0.len_eq]
  rw [show 1+4=5 from rfl]
  rw [show 1+4=5 from rfl] at hLw15
  have hX6:Chg (fun k=>k=w3.heap.size∨k=w2.heap.size) w8 w15:=(Chg.then ((Chg.refl (fun k=>k=w3.heap.size∨k=w2.heap.size) w8).trans hEw14.chg) hCw15 (fun k hk hs=>by have h:k=_:=hs;first | exact hs | exact .inl h | exact .inr h |(exfalso;omega)))
  refine ⟨.inr hX6, ?_⟩
  have hK8:=(((hBw7.ext hEw8).ext hEw14).chg hCw15)
  refine zx 5 (zak 23 w3.heap.size 0 23 (.slice (pA w2.heap.size 0) 5 185) ([(.slice (pA w2.heap.size 0) 1 185)]) hK8 (by first | decide |(simp;done)|(simp;omega)) ?_)
  have hK9:=(((hBw7.ext hEw8).ext hEw14).chg hCw15)
  intro w16 hBw16 hCw16
  have hzw16:=hCw16.size
  replace hBw16:=hBw16.set1
  refine ⟨.inl (by kernel_rfl), ?_⟩
  refine zD (zb (ze (zd (zc 1 [(32,(.func (.func 112) #[] #[(vP w3.heap.size 0)]))] (zfM (.func (.func 112) #[] #[(vP w3.heap.size 0)]) 184 ?_)))))
  intro w17 hBw17 hEw17 hzw17 hlw17
  refine zf (zb (ze (ze (zd (zc 1 [(33,(vI 0))] (za (zah (some 34) (((0:Nat):Int)==((0:Nat):Int)) true (zau) ?_)))))))
  refine zf (zb (zv (zd (zc 1 [(35,(vP w.heap.size 2))] ?_))))
  have hK10:=((((hK2.ext hEw14).chg hCw15).chg hCw16).ext hEw17)
  refine za (zS w.heap.size 2 (hK10.at 2 (r4C x.rs) (zgw _)) (zdl _) ?_)
  refine zc 1 [(37,(.func (.func 114) #[] #[(vP w16.heap.size 0)]))] (za (zcz (some 38) (zld x.rs _ (hBw16.ext hEw17) ((hBw15.chg hCw16).ext hEw17) hLw15 rfl (by decide) (by omega) hBw17 (by omega) (by omega) (zgx hp0 hp1) (by omega)) ?_))
  rintro _ w18 ⟨rfl,hRw18,hPw18,hQw18,hCw18⟩
  have hzw18:=hCw18.size
  refine zf (zb (ze (zd (za (zl w3.heap.size 0 (hPw18.cell rfl) ?_)))))
  refine zc 2 [(3,(vI 0)),(2,(.slice (pA w2.heap.size 0) 185 185))] (zf (zb (zj (zm (.tuple #[(.slice (pA w2.heap.size 0) 185 185),(vI 0)]) ?_))))
  have hX7:Ext w w18:=(Ext.ownS ((Ext.own (Ext.own (((Ext.own (Ext.own ((((hEw1.trans hEw2).trans hEw3).trans hEw4).trans hEw5) hCw6 (by omega)) hCw7 (by omega)).trans hEw8).trans hEw14) hCw15 (by omega)) hCw16 (by omega)).trans hEw17) hCw18 (fun k hs hk=>by rcases hs with hs | hs<;>omega))
  have hfin:=hQw18
  rw [show u8s ([]++([UInt8.ofNat x.lv])++(be x.ix 4)++zbM zbV (x.rs.get) 4)++List.replicate (0) (vB 0)=u8s (zN x) from by rw [List.replicate_zero,List.append_nil];unfold zN;rw [if_pos hp1];simp [zej]] at hfin
  exact ⟨_,rfl,by omega,hfin,by rw [zeY,if_pos hp1],by decide,hX7⟩
theorem zse (x:Nod) (w:World) (hp0:zaz x=0) (hp1:¬x.lv=0) (hg0:Gl 0 [vI 45,vI 33] w):
  Calls Tryz.prog 89 #[(vA (zJ x))] w (Ret fun r w'=>∃a0,r=(.tuple #[(.slice (pA a0 0) 137 137),(vI 0)])∧w.heap.size≤a0∧Blk w' a0 (u8s (zN x)) 5∧137=(zN x).length∧137≤1099511627776∧Ext w w'):=by
 refine zC (n:=44) (σ:= [(0,(vA (zJ x)))]) Tryz.func89 rfl ?_
 have hgl0:=hg0.lt
 have hlvx:=x.hlv
 have hixx:=x.hix
 refine ze (zd (za (zab (Instr.box 74 (vA (zJ x))) (vP w.heap.size 0) (zJ x) 74 ?_)))
 intro w1 hBw1 hEw1 hzw1 hlw1
 refine zc 2 [(3,(vI 0)),(2,(.slice none 0 0))] (zf (zb (ze (ze (zd (za (zS w.heap.size 0 (hBw1.all) (zO _) ?_)))))))
 refine za (zq (ziq x _) ?_)
 rintro _ w2 ⟨rfl,hEw2⟩
 have hzw2:=hEw2.size
 refine zc 1 [(4,(vI (zaz x)))] (zf (zb (ze (zd (zc 1 [(10,(vI (zaz x)))] (za (zah (some 11) (((zaz x:Nat):Int) !=((0:Nat):Int)) false (zaE) ?_)))))))
 refine zf (zb (zh (zo (zb (ze (zd (zc 1 [(13,(vP w.heap.size 0))] (za (zl w.heap.size 0 ((hBw1.ext hEw2).cell rfl) ?_)))))))))
 refine za (zq (zoS x.lv _) ?_)
 rintro _ _ ⟨rfl,rfl⟩
 rw [show min x.lv 1=1 from by omega]
 refine zc 1 [(5,(vI 1))] (zf (zb (ze (zd (zc 1 [(16,(vI 1))] (za (zaM (Instr.indexAt 183 (vP 0 0) (vI 1)) (vP 0 1) (za2 (E:=3) (sz:=1) (m:=2)) ?_)))))))
 refine za (zl 0 1 (((hg0.ext hEw1).ext hEw2).all.one 1 (vI 33) rfl) ?_)
 refine za (zn (some 19) .i64 (IntKind.i64.wrap (((4:Nat):Int)*((33:Nat):Int))) 132 (zu) ?_)
 refine za (zn (some 20) .i64 (IntKind.i64.wrap (((5:Nat):Int)+((132:Nat):Int))) 137 (zu) ?_)
 refine za (zcy (some 21) 23 5 1 1 0 137 .i64 .i64 (vB 0) (by omega) (by omega) (by omega) ?_)
 rw [zd3 _ rfl]
 intro w3 hBw3 hEw3
 have hzw3:=hEw3.size;have hlw3:=hBw3.lt
 refine zfM (.slice (pA w2.heap.size 0) 0 137) 23 ?_
 intro w4 hBw4 hEw4 hzw4 hlw4
 refine zf (zb (ze (zd (za (zl w3.heap.size 0 (hBw4.cell rfl) ?_)))))
 refine zc 1 [(23,(vP w.heap.size 0))] ?_
 have hK1:=(((hBw1.ext hEw2).ext hEw3).ext hEw4)
 refine za (zl w.heap.size 0 (hK1.cell rfl) ?_)
 refine za (zab (Instr.buildSlice 23 1 #[(0,(vB x.lv))]) (.slice (pA w4.heap.size 0) 1 1) [(vB x.lv)] 5 ?_)
 intro w5 hBw5 hEw5 hzw5 hlw5
 have hSw5:Bs w4.heap.size (w4.heap.size+1) w5 (pA w4.heap.size 0) 1 1 [UInt8.ofNat x.lv]:=Bs.of_blk hBw5 (zcS x.hlv) rfl (Nat.le_refl _) (by decide) (Nat.le_refl _) (Nat.lt_succ_self _)
 have hZw2:Blk w5 w2.heap.size (u8s []++List.replicate 137 (vB 0)) 5:=((hBw3.ext hEw4).ext hEw5)
 refine za (zdd (some 26) 23 23 5 1 w2.heap.size 0 137 ⟨w4.heap.size,0,none⟩ 1 1 hZw2 hSw5.sla (by rw [za4,←hSw5.len_eq,Nat.mul_one]) (zc8 _) (by rw [List.length_append,za4,(show ([]:List UInt8).length=0 from rfl),List.length_replicate,Nat.mul_one];omega) ?_ (by omega))
 intro w6 hBw6 hCw6
 have hzw6:=hCw6.size
 rw [zf2 (show ([]:List UInt8).length=0 from rfl) hSw5.len_eq.symm (by omega)] at hBw6
 rw [show 137-1=136 from rfl] at hBw6
 have hLw6:([]++([UInt8.ofNat x.lv])).length=0+1:=by rw [List.length_append,(show ([]:List UInt8).length=0 from rfl),←hSw5.len_eq]
 rw [show 0+1=1 from rfl]
 rw [show 0+1=1 from rfl] at hLw6
 refine za (zak 23 w3.heap.size 0 23 (.slice (pA w2.heap.size 0) 1 137) ([(.slice (pA w2.heap.size 0) 0 137)]) ((hBw4.ext hEw5).chg hCw6) (by first | decide |(simp;done)|(simp;omega)) ?_)
 intro w7 hBw7 hCw7
 have hzw7:=hCw7.size
 replace hBw7:=hBw7.set1
 refine zf (zb (ze (zbI (fun k=>k=w3.heap.size∨k=w2.heap.size) 6 (fun w8 hEw8 hzw8 hT232=> ?_))))
 have hX1:Chg (fun k=>k=w3.heap.size∨k=w2.heap.size) w8 w8:=(Chg.refl (fun k=>k=w3.heap.size∨k=w2.heap.size) w8)
 refine zg (hw:=hX1) hT232 [(1,28,(vP w.heap.size 1))] 1 ?_
 have hK2:=((((hK1.ext hEw5).chg hCw6).chg hCw7).ext hEw8)
 refine zt (hw:=hX1) hT232 2 w.heap.size 1 (fun w' hC=>((hK2.chg hC (fun hs=>by rcases hs with hs | hs<;>omega)).cell rfl)) (zbE 0 3 ?_ ?_)
 ·refine zl w3.heap.size 0 ((hBw7.ext hEw8).cell rfl) (⟨.inr hX1, ?_⟩)
  refine zx 3 (zq (zfN x.ix _ (by omega)) ?_)
  rintro _ w9 ⟨a1,rfl,hFz3_0,hEw9⟩
  have hzw9:=hEw9.size
  have hX2:Chg (fun k=>k=w3.heap.size∨k=w2.heap.size) w8 w9:=((Chg.refl (fun k=>k=w3.heap.size∨k=w2.heap.size) w8).trans hEw9.chg)
  refine ⟨.inr hX2, ?_⟩
  obtain ⟨b1,o1,rfl⟩:=hFz3_0.addr (by omega)
  have hK3:=(((hBw6.chg hCw7).ext hEw8).ext hEw9)
  refine zx 4 (zdd (some 31) 23 23 5 1 w2.heap.size 1 137 ⟨b1,o1,none⟩ 4 4 hK3 hFz3_0.sla (by rw [za4,←hFz3_0.len_eq,Nat.mul_one]) (zc8 _) (by rw [List.length_append,za4,hLw6,List.length_replicate,Nat.mul_one];omega) ?_ (by omega))
  intro w10 hBw10 hCw10
  have hzw10:=hCw10.size
  rw [zf2 hLw6 hFz3_0.len_eq.symm (by omega)] at hBw10
  rw [show 136-4=132 from rfl] at hBw10
  have hLw10:([]++([UInt8.ofNat x.lv])++(be x.ix 4)).length=1+4:=by rw [List.length_append,hLw6,←hFz3_0.len_eq]
  rw [show 1+4=5 from rfl]
  rw [show 1+4=5 from rfl] at hLw10
  have hX3:Chg (fun k=>k=w3.heap.size∨k=w2.heap.size) w8 w10:=(Chg.then ((Chg.refl (fun k=>k=w3.heap.size∨k=w2.heap.size) w8).trans hEw9.chg) hCw10 (fun k hk hs=>by have h:k=_:=hs;first | exact hs | exact .inl h | exact .inr h |(exfalso;omega)))
  refine ⟨.inr hX3, ?_⟩
  have hK4:=(((hBw7.ext hEw8).ext hEw9).chg hCw10)
  refine zx 5 (zak 23 w3.heap.size 0 23 (.slice (pA w2.heap.size 0) 5 137) ([(.slice (pA w2.heap.size 0) 1 137)]) hK4 (by first | decide |(simp;done)|(simp;omega)) ?_)
  have hK5:=(((hBw7.ext hEw8).ext hEw9).chg hCw10)
  intro w11 hBw11 hCw11
  have hzw11:=hCw11.size
  replace hBw11:=hBw11.set1
  refine ⟨.inl (by kernel_rfl), ?_⟩
  refine zD (zb (ze (zd (zc 1 [(32,(.func (.func 112) #[] #[(vP w3.heap.size 0)]))] (zfM (.func (.func 112) #[] #[(vP w3.heap.size 0)]) 184 ?_)))))
  intro w12 hBw12 hEw12 hzw12 hlw12
  refine zf (zb (ze (ze (zd (zc 1 [(33,(vI 1))] (za (zah (some 34) (((1:Nat):Int)==((0:Nat):Int)) false (zct) ?_)))))))
  refine zf (zb (zh (zd (zc 1 [(39,(vP w.heap.size 142))] ?_))))
  have hK6:=((((hK2.ext hEw9).chg hCw10).chg hCw11).ext hEw12)
  refine za (zS w.heap.size 142 (hK6.at 142 (e4C x.es) (zf4 _)) (zeb _) ?_)
  refine zc 1 [(41,(.func (.func 117) #[] #[(vP w11.heap.size 0)]))] (za (zcz (some 42) (zkQ x.es _ (hBw11.ext hEw12) ((hBw10.chg hCw11).ext hEw12) hLw10 rfl (by decide) (by omega) hBw12 (by omega) (by omega) (zfK hp0 hp1) (by omega)) ?_))
  rintro _ w13 ⟨rfl,hRw13,hPw13,hQw13,hCw13⟩
  have hzw13:=hCw13.size
  refine zf (zb (ze (zd (za (zl w3.heap.size 0 (hPw13.cell rfl) ?_)))))
  refine zc 2 [(3,(vI 0)),(2,(.slice (pA w2.heap.size 0) 137 137))] (zf (zb (zj (zm (.tuple #[(.slice (pA w2.heap.size 0) 137 137),(vI 0)]) ?_))))
  have hX4:Ext w w13:=(Ext.ownS ((Ext.own (Ext.own (((Ext.own (Ext.own ((((hEw1.trans hEw2).trans hEw3).trans hEw4).trans hEw5) hCw6 (by omega)) hCw7 (by omega)).trans hEw8).trans hEw9) hCw10 (by omega)) hCw11 (by omega)).trans hEw12) hCw13 (fun k hs hk=>by rcases hs with hs | hs<;>omega))
  have hfin:=hQw13
  rw [show u8s ([]++([UInt8.ofNat x.lv])++(be x.ix 4)++zbM zb9 (x.es.get) 4)++List.replicate (0) (vB 0)=u8s (zN x) from by rw [List.replicate_zero,List.append_nil];unfold zN;rw [if_neg hp1];simp [zej]] at hfin
  exact ⟨_,rfl,by omega,hfin,by rw [zeY,if_neg hp1],by decide,hX4⟩
 ·refine zq (zfN x.ix _ (by omega)) ?_
  rintro _ w14 ⟨a2,rfl,hFz4_0,hEw14⟩
  have hzw14:=hEw14.size
  have hX5:Chg (fun k=>k=w3.heap.size∨k=w2.heap.size) w8 w14:=((Chg.refl (fun k=>k=w3.heap.size∨k=w2.heap.size) w8).trans hEw14.chg)
  refine ⟨.inr hX5, ?_⟩
  refine zx 0 (zl w3.heap.size 0 (((hBw7.ext hEw8).ext hEw14).cell rfl) ?_)
  refine ⟨.inr hX5, ?_⟩
  obtain ⟨b2,o2,rfl⟩:=hFz4_0.addr (by omega)
  have hK7:=(((hBw6.chg hCw7).ext hEw8).ext hEw14)
  refine zx 4 (zdd (some 31) 23 23 5 1 w2.heap.size 1 137 ⟨b2,o2,none⟩ 4 4 hK7 hFz4_0.sla (by rw [za4,←hFz4_0.len_eq,Nat.mul_one]) (zc8 _) (by rw [List.length_append,za4,hLw6,List.length_replicate,Nat.mul_one];omega) ?_ (by omega))
  intro w15 hBw15 hCw15
  have hzw15:=hCw15.size
  rw [zf2 hLw6 hFz4_0.len_eq.symm (by omega)] at hBw15
  rw [show 136-4=132 from rfl] at hBw15
  have hLw15:([]++([UInt8.ofNat x.lv])++(be x.ix 4)).length=1+4:=by rw [List.length_append,hLw6,←hFz4_0.len_eq]
  rw [show 1+4=5 from rfl]
  rw [show 1+4=5 from rfl] at hLw15
  have hX6:Chg (fun k=>k=w3.heap.size∨k=w2.heap.size) w8 w15:=(Chg.then ((Chg.refl (fun k=>k=w3.heap.size∨k=w2.heap.size) w8).trans hEw14.chg) hCw15 (fun k hk hs=>by have h:k=_:=hs;first | exact hs | exact .inl h | exact .inr h |(exfalso;omega)))
  refine ⟨.inr hX6, ?_⟩
  have hK8:=(((hBw7.ext hEw8).ext hEw14).chg hCw15)
  refine zx 5 (zak 23 w3.heap.size 0 23 (.slice (pA w2.heap.size 0) 5 137) ([(.slice (pA w2.heap.size 0) 1 137)]) hK8 (by first | decide |(simp;done)|(simp;omega)) ?_)
  have hK9:=(((hBw7.ext hEw8).ext hEw14).chg hCw15)
  intro w16 hBw16 hCw16
  have hzw16:=hCw16.size
  replace hBw16:=hBw16.set1
  refine ⟨.inl (by kernel_rfl), ?_⟩
  refine zD (zb (ze (zd (zc 1 [(32,(.func (.func 112) #[] #[(vP w3.heap.size 0)]))] (zfM (.func (.func 112) #[] #[(vP w3.heap.size 0)]) 184 ?_)))))
  intro w17 hBw17 hEw17 hzw17 hlw17
  refine zf (zb (ze (ze (zd (zc 1 [(33,(vI 1))] (za (zah (some 34) (((1:Nat):Int)==((0:Nat):Int)) false (zct) ?_)))))))
  refine zf (zb (zh (zd (zc 1 [(39,(vP w.heap.size 142))] ?_))))
  have hK10:=((((hK2.ext hEw14).chg hCw15).chg hCw16).ext hEw17)
  refine za (zS w.heap.size 142 (hK10.at 142 (e4C x.es) (zf4 _)) (zeb _) ?_)
  refine zc 1 [(41,(.func (.func 117) #[] #[(vP w16.heap.size 0)]))] (za (zcz (some 42) (zkQ x.es _ (hBw16.ext hEw17) ((hBw15.chg hCw16).ext hEw17) hLw15 rfl (by decide) (by omega) hBw17 (by omega) (by omega) (zfK hp0 hp1) (by omega)) ?_))
  rintro _ w18 ⟨rfl,hRw18,hPw18,hQw18,hCw18⟩
  have hzw18:=hCw18.size
  refine zf (zb (ze (zd (za (zl w3.heap.size 0 (hPw18.cell rfl) ?_)))))
  refine zc 2 [(3,(vI 0)),(2,(.slice (pA w2.heap.size 0) 137 137))] (zf (zb (zj (zm (.tuple #[(.slice (pA w2.heap.size 0) 137 137),(vI 0)]) ?_))))
  have hX7:Ext w w18:=(Ext.ownS ((Ext.own (Ext.own (((Ext.own (Ext.own ((((hEw1.trans hEw2).trans hEw3).trans hEw4).trans hEw5) hCw6 (by omega)) hCw7 (by omega)).trans hEw8).trans hEw14) hCw15 (by omega)) hCw16 (by omega)).trans hEw17) hCw18 (fun k hs hk=>by rcases hs with hs | hs<;>omega))
  have hfin:=hQw18
  rw [show u8s ([]++([UInt8.ofNat x.lv])++(be x.ix 4)++zbM zb9 (x.es.get) 4)++List.replicate (0) (vB 0)=u8s (zN x) from by rw [List.replicate_zero,List.append_nil];unfold zN;rw [if_neg hp1];simp [zej]] at hfin
  exact ⟨_,rfl,by omega,hfin,by rw [zeY,if_neg hp1],by decide,hX7⟩
theorem zuv (x:Nod) (w:World) (hp0:zaz x=0) (hg0:Gl 0 [vI 45,vI 33] w):
  Calls Tryz.prog 89 #[(vA (zJ x))] w (Ret fun r w'=>∃a0,r=(.tuple #[(.slice (pA a0 0) (zb4 x) (zb4 x)),(vI 0)])∧w.heap.size≤a0∧Blk w' a0 (u8s (zN x)) 5∧zb4 x=(zN x).length∧zb4 x≤1099511627776∧Ext w w'):=by
 by_cases h:x.lv=0
 ·rw [show zb4 x=185 from if_pos h];exact zr5 x w hp0 h hg0
 ·rw [show zb4 x=137 from if_neg h];exact zse x w hp0 h hg0
end Go.Proofs.YtkmhgepdhilllaaGreatDoor
namespace Go.Proofs.YtkmhgepdhilllaaGreatDoor
open Go Go.RowKit Go.Cs
set_option maxRecDepth 100000
theorem zmK (n:Nat) (x:Nod) (w:World) (hp0:1≤n) (hp1:n≤4096):
  Calls Tryz.prog 96 #[(vI n),(vA (zJ x))] w (Ret fun r w'=>r=(vI (zb8 n x))∧Ext w w'):=by
 refine zC (n:=52) (σ:= [(0,(vI n)),(1,(vA (zJ x)))]) Tryz.func96 rfl ?_
 have hlvx:=x.hlv
 have hixx:=x.hix
 have hcl:=zmv x
 have h5:=zat n
 refine ze (zd (za (zab (Instr.box 74 (vA (zJ x))) (vP w.heap.size 0) (zJ x) 74 ?_)))
 intro w1 hBw1 hEw1 hzw1 hlw1
 refine zc 1 [(4,(vI 0))] (zf (zb (ze (ze (zd (zc 1 [(10,(vI n))] (za (zq (zmy n _ (by omega) (by omega)) ?_))))))))
 rintro _ _ ⟨rfl,rfl⟩
 refine zc 1 [(5,(vI 0))] (zf (zb (ze (zd (zc 2 [(13,vF),(12,(vI 0))] (zf (zb (zh (zo ?_)))))))))
 refine zb (ze (ze (zd (za (zS w.heap.size 0 (hBw1.all) (zO _) ?_)))))
 refine za (zq (ziq x _) ?_)
 rintro _ w2 ⟨rfl,hEw2⟩
 have hzw2:=hEw2.size
 refine zc 1 [(6,(vI (zaz x)))] (zf (zb (ze (zd (zc 1 [(17,(vI (zaz x)))] (za (zE (some 18) ((((zaz x:Nat):Int) !=((0:Nat):Int))) (fun hc18=> ?_) (fun hc18=> ?_))))))))
 ·replace hc18:¬(zaz x=0):=by have:=zbT hc18;omega
  refine zf (zb (zv (ze (zd (zc 2 [(4,(vI (zaz x))),(19,(vI (zaz x)))] (zf (zb (zj (zw ?_)))))))))
  exact zm (vI (zaz x)) (⟨congrArg (fun z:Nat=>vI z) (zq4 (by omega)),(hEw1.trans hEw2)⟩)
 ·replace hc18:zaz x=0:=by have:=zbU hc18;omega
  refine zf (zb (zh (zo (zb (ze (zd (zc 2 [(22,(vP w.heap.size 0)),(21,(vI n))] (za (zl w.heap.size 0 ((hBw1.ext hEw2).cell rfl) ?_)))))))))
  refine za (zn (some 24) .i64 (IntKind.i64.wrap ((x.lv:Nat):Int)) x.lv (zu rfl) ?_)
  refine zc 1 [(25,(vP w.heap.size 1))] (za (zl w.heap.size 1 ((hBw1.ext hEw2).cell rfl) ?_))
  refine za (zn (some 27) .i64 (IntKind.i64.wrap ((x.ix:Nat):Int)) x.ix (zu rfl) ?_)
  rcases Classical.em (x.lv≤hgt n∧x.ix<cnt n x.lv) with hin | hin
  ·have hcn:=zbr n x.lv
   refine za (zq (zsC n x.lv x.ix _ (by first | omega |(simp only [Int.toNat_natCast];omega)) (by omega) (by omega) (by omega)) ?_)
   rintro _ w3 ⟨rfl,hEw3⟩
   have hzw3:=hEw3.size
   refine zc 5 [(8,(vI 0)),(7,(vI (prt n x.lv x.ix))),(30,(vI 0)),(29,(vI (prt n x.lv x.ix))),(20,(.tuple #[(vI (prt n x.lv x.ix)),(vI 0)]))] (zf (zb (ze (ze (zd (zc 2 [(32,vF),(31,(vI 0))] (zf (zb (zh ?_)))))))))
   refine zo (zb (ze (ze (zd (zc 2 [(9,(vI (prt n x.lv x.ix))),(33,(vI (prt n x.lv x.ix)))] (zf (zb (zr (zW (X:=Nat) (fun i=> [(9,(vI i))]) [4,34,35,36,37,38,39,40,41,42,43,44,45,46,47,48,49,50,51] (fun i w4=>prt n x.lv x.ix≤i∧i≤4∧(∀k,prt n x.lv x.ix≤k→k<i→(x.rs.get k).eqb Rec.zero=true∧(x.es.get k).eqb Ent.zero=true)∧Ext w1 w4) (fun i=>4-i) (prt n x.lv x.ix) (by kernel_rfl) ⟨Nat.le_refl _,zdF _ _ _,fun k h1 h2=>absurd h1 (by omega),(hEw2.trans hEw3)⟩ ?_)))))))))
   rintro i dw4 w4 ⟨hpi,hi,hz,hEl⟩
   have hzl:=hEl.size
   refine ze (ze (zd (zc 1 [(34,(vI i))] (za (zE (some 35) (decide (((i:Nat):Int)<((4:Nat):Int))) (fun hc35=> ?_) (fun hc35=> ?_))))))
   ·replace hc35:i<4:=by have:=zac hc35;omega
    refine zf (zb (zv (zo (zb (ze (zr (ze (zd (zc 2 [(39,(vP w.heap.size 2)),(38,(vI i))] ?_)))))))))
    refine za (zbk w.heap.size 2 i 4 35 ?_)
    refine za (zS w.heap.size (2+i*35) ((hBw1.ext hEl).at (2+i*35) (zM (x.rs.get i)) (nod_r (by omega))) (zZ _) ?_)
    refine zc 1 [(42,(vA (zM Rec.zero)))] ?_
    rcases Bool.eq_false_or_eq_true ((x.rs.get i).eqb Rec.zero) with hq43 | hq43
    ·refine za (zcg (some 43) (bo .neq 68 (.tmp 41) (.tmp 42) (vA (zM (x.rs.get i))) (vA (zM Rec.zero))) vF (zap (r:=true) (T:=68) ((zdb (dd:=9997) (t:=68) (t8:=5) (tn:=56) (td:=59) (e:=5) (t32:=53) (t64:=54) (x.rs.get i) Rec.zero).trans (congrArg (fun b=>Result.ok b _) (show ((x.rs.get i).eqb Rec.zero)=true from hq43)))) ?_)
     refine zc 3 [(46,(vP w.heap.size 142)),(45,(vI i)),(44,vF)] (za (zbk w.heap.size 142 i 4 33 ?_))
     refine za (zS w.heap.size (142+i*33) ((hBw1.ext hEl).at (142+i*33) (zaj (x.es.get i)) (nod_e (by omega))) (zaK _) ?_)
     refine zc 1 [(49,(vA (zaj Ent.zero)))] ?_
     rcases Bool.eq_false_or_eq_true ((x.es.get i).eqb Ent.zero) with hq50 | hq50
     ·refine za (zcg (some 50) (bo .neq 71 (.tmp 48) (.tmp 49) (vA (zaj (x.es.get i))) (vA (zaj Ent.zero))) vF (zap (r:=true) (T:=71) ((zcq (dd:=9997) (t:=71) (t8:=5) (td:=59) (e:=5) (x.es.get i) Ent.zero).trans (congrArg (fun b=>Result.ok b _) (show ((x.es.get i).eqb Ent.zero)=true from hq50)))) ?_)
      refine zc 1 [(51,vF)] (zf (zb (zh (zo (zi (zb (zd (zc 1 [(36,(vI i))] (za (zn (some 37) .i64 (IntKind.i64.wrap (((i:Nat):Int)+((1:Nat):Int))) (i+1) (zu) ?_))))))))))
      refine zc 1 [(9,(vI (i+1)))] (zf (zz (zL (i+1) ?_ ?_)))
      ·exact ⟨by omega,by omega,fun k h1 h2=>by rcases Nat.lt_or_ge k i with h3 | h3;exact hz k h1 h3;rw [show k=i by omega];exact ⟨hq43,hq50⟩,hEl⟩
      ·first | omega |(dsimp only;omega)
     ·refine za (zcg (some 50) (bo .neq 71 (.tmp 48) (.tmp 49) (vA (zaj (x.es.get i))) (vA (zaj Ent.zero))) vT (zap (r:=false) (T:=71) ((zcq (dd:=9997) (t:=71) (t8:=5) (td:=59) (e:=5) (x.es.get i) Ent.zero).trans (congrArg (fun b=>Result.ok b _) (show ((x.es.get i).eqb Ent.zero)=false from hq50)))) ?_)
      refine zc 1 [(51,vT)] (zf (zb (zv (ze (zd (zc 1 [(4,(vI 17))] (zf (zb (zj ?_)))))))))
      exact zA (zw (zw (zA (zw (zm (vI 17) (⟨congrArg (fun z:Nat=>vI z) (by rw [zgz (by omega) hin,zpY hpi (by omega) hq50];rfl),(hEw1.trans hEl)⟩))))))
    ·refine za (zcg (some 43) (bo .neq 68 (.tmp 41) (.tmp 42) (vA (zM (x.rs.get i))) (vA (zM Rec.zero))) vT (zap (r:=false) (T:=68) ((zdb (dd:=9997) (t:=68) (t8:=5) (tn:=56) (td:=59) (e:=5) (t32:=53) (t64:=54) (x.rs.get i) Rec.zero).trans (congrArg (fun b=>Result.ok b _) (show ((x.rs.get i).eqb Rec.zero)=false from hq43)))) ?_)
     refine zc 8 [(51,vT),(50,undef),(49,undef),(48,undef),(47,undef),(46,undef),(45,undef),(44,vT)] (zf (zb (zv (ze (zd (zc 1 [(4,(vI 17))] (zf (zb (zj ?_)))))))))
     exact zA (zw (zw (zA (zw (zm (vI 17) (⟨congrArg (fun z:Nat=>vI z) (by rw [zgz (by omega) hin,zqx hpi (by omega) hq43];rfl),(hEw1.trans hEl)⟩))))))
   ·replace hc35:¬(i<4):=by have:=zad hc35;omega
    refine zf (zb (zh (zP (zp (zp (zF (zb (ze (zd ?_)))))))))
    refine zc 1 [(4,(vI 0))] (zf (zb (zj (zm (vI 0) ?_))))
    obtain rfl:i=4:=by omega
    exact ⟨congrArg (fun z:Nat=>vI z) (by rw [zgz (by omega) hin,if_pos (zfG.2 hz)]),(hEw1.trans hEl)⟩
  ·refine za (zq (znm ((n:Nat):Int) ((x.lv:Nat):Int) ((x.ix:Nat):Int) _ (by first | omega |(simp only [Int.toNat_natCast];omega))) ?_)
   rintro _ w5 ⟨rfl,hEw5⟩
   have hzw5:=hEw5.size
   refine zc 5 [(8,(vI 1)),(7,(vI 0)),(30,(vI 1)),(29,(vI 0)),(20,(.tuple #[(vI 0),(vI 1)]))] (zf (zb (ze (ze (zd (zc 2 [(32,vT),(31,(vI 1))] (zf (zb (zv ?_)))))))))
   exact ze (zd (zc 1 [(4,(vI 17))] (zf (zb (zj (zw (zm (vI 17) (⟨congrArg (fun z:Nat=>vI z) ((zqQ (by omega) hin).symm),((hEw1.trans hEw2).trans hEw5)⟩))))))))
theorem zzn (n:Nat) (x:Nod) (w:World) (hp0:1≤n) (hp1:n≤4096):
  Calls Tryz.prog 57 #[(vI n),(vA (zJ x))] w (Ret fun r w'=>r=(vI (zb8 n x))∧Ext w w'):=by
 refine zC (n:=53) (σ:= [(0,(vI n)),(1,(vA (zJ x)))]) Tryz.func57 rfl ?_
 have hlvx:=x.hlv
 have hixx:=x.hix
 have hcl:=zmv x
 have h5:=zat n
 refine ze (zd (za (zab (Instr.box 74 (vA (zJ x))) (vP w.heap.size 0) (zJ x) 74 ?_)))
 intro w1 hBw1 hEw1 hzw1 hlw1
 refine zc 1 [(4,(vI 0))] (zf (zb (ze (ze (zd (zc 1 [(7,(vI n))] (za (zah (some 8) (decide (((n:Nat):Int)<((1:Nat):Int))) false (zcL) ?_))))))))
 refine zc 2 [(10,(vI n)),(9,vF)] (za (zah (some 11) (decide (((n:Nat):Int)>((4096:Nat):Int))) false (zcL) ?_))
 refine zc 1 [(12,vF)] (zf (zb (zh (zo (zb (ze (zd (za (zS w.heap.size 0 (hBw1.all) (zO _) ?_)))))))))
 refine za (zq (zzl x _) ?_)
 rintro _ w2 ⟨rfl,hEw2⟩
 have hzw2:=hEw2.size
 refine zc 1 [(5,(vI (zaz x)))] (zf (zb (ze (ze (zd (zc 1 [(15,(vI (zaz x)))] (za (zE (some 16) ((((zaz x:Nat):Int) !=((0:Nat):Int))) (fun hc16=> ?_) (fun hc16=> ?_)))))))))
 ·replace hc16:¬(zaz x=0):=by have:=zbT hc16;omega
  refine zf (zb (zv (ze (zd (zc 2 [(4,(vI (zaz x))),(17,(vI (zaz x)))] (zf (zb (zj (zw ?_)))))))))
  exact zm (vI (zaz x)) (⟨congrArg (fun z:Nat=>vI z) (zq4 (by omega)),(hEw1.trans hEw2)⟩)
 ·replace hc16:zaz x=0:=by have:=zbU hc16;omega
  refine zf (zb (zh (zo (zb (ze (ze (zd (zc 2 [(19,(vP w.heap.size 0)),(18,(vI n))] (za (zl w.heap.size 0 ((hBw1.ext hEw2).cell rfl) ?_))))))))))
  refine za (zn (some 21) .i64 (IntKind.i64.wrap ((x.lv:Nat):Int)) x.lv (zu rfl) ?_)
  refine zc 1 [(22,(vP w.heap.size 1))] (za (zl w.heap.size 1 ((hBw1.ext hEw2).cell rfl) ?_))
  refine za (zn (some 24) .i64 (IntKind.i64.wrap ((x.ix:Nat):Int)) x.ix (zu rfl) ?_)
  rcases Classical.em (x.lv≤hgt n∧x.ix<cnt n x.lv) with hin | hin
  ·have hcn:=zbr n x.lv
   refine za (zq (zzI n x.lv x.ix _ (by omega) (by omega) (by first | omega |(simp only [Int.toNat_natCast];omega)) (by omega)) ?_)
   rintro _ _ ⟨rfl,rfl⟩
   refine zc 1 [(26,vF)] (zf (zb (zh (zo (zb (ze (ze (zd (zc 2 [(28,(vP w.heap.size 0)),(27,(vI n))] ?_)))))))))
   refine za (zl w.heap.size 0 ((hBw1.ext hEw2).cell rfl) ?_)
   refine za (zn (some 30) .i64 (IntKind.i64.wrap ((x.lv:Nat):Int)) x.lv (zu rfl) ?_)
   refine zc 1 [(31,(vP w.heap.size 1))] (za (zl w.heap.size 1 ((hBw1.ext hEw2).cell rfl) ?_))
   refine za (zn (some 33) .i64 (IntKind.i64.wrap ((x.ix:Nat):Int)) x.ix (zu rfl) ?_)
   refine za (zq (zk0 n x.lv x.ix _ (by omega) (by omega) (by omega) (by omega)) ?_)
   rintro _ _ ⟨rfl,rfl⟩
   refine zc 1 [(6,(vI (prt n x.lv x.ix)))] (zf (zb (zr (zW (X:=Nat) (fun i=> [(6,(vI i))]) [4,35,36,37,38,39,40,41,42,43,44,45,46,47,48,49,50,51,52] (fun i w3=>prt n x.lv x.ix≤i∧i≤4∧(∀k,prt n x.lv x.ix≤k→k<i→(x.rs.get k).eqb Rec.zero=true∧(x.es.get k).eqb Ent.zero=true)∧Ext w1 w3) (fun i=>4-i) (prt n x.lv x.ix) (by kernel_rfl) ⟨Nat.le_refl _,zdF _ _ _,fun k h1 h2=>absurd h1 (by omega),hEw2⟩ ?_))))
   rintro i dw3 w3 ⟨hpi,hi,hz,hEl⟩
   have hzl:=hEl.size
   refine ze (ze (zd (zc 1 [(35,(vI i))] (za (zE (some 36) (decide (((i:Nat):Int)<((4:Nat):Int))) (fun hc36=> ?_) (fun hc36=> ?_))))))
   ·replace hc36:i<4:=by have:=zac hc36;omega
    refine zf (zb (zv (zo (zb (ze (zr (ze (zd (zc 2 [(40,(vP w.heap.size 2)),(39,(vI i))] ?_)))))))))
    refine za (zbk w.heap.size 2 i 4 35 ?_)
    refine za (zS w.heap.size (2+i*35) ((hBw1.ext hEl).at (2+i*35) (zM (x.rs.get i)) (nod_r (by omega))) (zZ _) ?_)
    refine zc 1 [(43,(vA (zM Rec.zero)))] ?_
    rcases Bool.eq_false_or_eq_true ((x.rs.get i).eqb Rec.zero) with hq44 | hq44
    ·refine za (zcg (some 44) (bo .neq 68 (.tmp 42) (.tmp 43) (vA (zM (x.rs.get i))) (vA (zM Rec.zero))) vF (zap (r:=true) (T:=68) ((zdb (dd:=9997) (t:=68) (t8:=5) (tn:=56) (td:=59) (e:=5) (t32:=53) (t64:=54) (x.rs.get i) Rec.zero).trans (congrArg (fun b=>Result.ok b _) (show ((x.rs.get i).eqb Rec.zero)=true from hq44)))) ?_)
     refine zc 3 [(47,(vP w.heap.size 142)),(46,(vI i)),(45,vF)] (za (zbk w.heap.size 142 i 4 33 ?_))
     refine za (zS w.heap.size (142+i*33) ((hBw1.ext hEl).at (142+i*33) (zaj (x.es.get i)) (nod_e (by omega))) (zaK _) ?_)
     refine zc 1 [(50,(vA (zaj Ent.zero)))] ?_
     rcases Bool.eq_false_or_eq_true ((x.es.get i).eqb Ent.zero) with hq51 | hq51
     ·refine za (zcg (some 51) (bo .neq 71 (.tmp 49) (.tmp 50) (vA (zaj (x.es.get i))) (vA (zaj Ent.zero))) vF (zap (r:=true) (T:=71) ((zcq (dd:=9997) (t:=71) (t8:=5) (td:=59) (e:=5) (x.es.get i) Ent.zero).trans (congrArg (fun b=>Result.ok b _) (show ((x.es.get i).eqb Ent.zero)=true from hq51)))) ?_)
      refine zc 1 [(52,vF)] (zf (zb (zh (zo (zi (zb (zd (zc 1 [(37,(vI i))] (za (zn (some 38) .i64 (IntKind.i64.wrap (((i:Nat):Int)+((1:Nat):Int))) (i+1) (zu) ?_))))))))))
      refine zc 1 [(6,(vI (i+1)))] (zf (zz (zL (i+1) ?_ ?_)))
      ·exact ⟨by omega,by omega,fun k h1 h2=>by rcases Nat.lt_or_ge k i with h3 | h3;exact hz k h1 h3;rw [show k=i by omega];exact ⟨hq44,hq51⟩,hEl⟩
      ·first | omega |(dsimp only;omega)
     ·refine za (zcg (some 51) (bo .neq 71 (.tmp 49) (.tmp 50) (vA (zaj (x.es.get i))) (vA (zaj Ent.zero))) vT (zap (r:=false) (T:=71) ((zcq (dd:=9997) (t:=71) (t8:=5) (td:=59) (e:=5) (x.es.get i) Ent.zero).trans (congrArg (fun b=>Result.ok b _) (show ((x.es.get i).eqb Ent.zero)=false from hq51)))) ?_)
      refine zc 1 [(52,vT)] (zf (zb (zv (ze (zd (zc 1 [(4,(vI 17))] (zf (zb (zj ?_)))))))))
      exact zA (zw (zw (zA (zw (zm (vI 17) (⟨congrArg (fun z:Nat=>vI z) (by rw [zgz (by omega) hin,zpY hpi (by omega) hq51];rfl),(hEw1.trans hEl)⟩))))))
    ·refine za (zcg (some 44) (bo .neq 68 (.tmp 42) (.tmp 43) (vA (zM (x.rs.get i))) (vA (zM Rec.zero))) vT (zap (r:=false) (T:=68) ((zdb (dd:=9997) (t:=68) (t8:=5) (tn:=56) (td:=59) (e:=5) (t32:=53) (t64:=54) (x.rs.get i) Rec.zero).trans (congrArg (fun b=>Result.ok b _) (show ((x.rs.get i).eqb Rec.zero)=false from hq44)))) ?_)
     refine zc 8 [(52,vT),(51,undef),(50,undef),(49,undef),(48,undef),(47,undef),(46,undef),(45,vT)] (zf (zb (zv (ze (zd (zc 1 [(4,(vI 17))] (zf (zb (zj ?_)))))))))
     exact zA (zw (zw (zA (zw (zm (vI 17) (⟨congrArg (fun z:Nat=>vI z) (by rw [zgz (by omega) hin,zqx hpi (by omega) hq44];rfl),(hEw1.trans hEl)⟩))))))
   ·replace hc36:¬(i<4):=by have:=zad hc36;omega
    refine zf (zb (zh (zP (zp (zp (zF (zb (ze (zd ?_)))))))))
    refine zc 1 [(4,(vI 0))] (zf (zb (zj (zm (vI 0) ?_))))
    obtain rfl:i=4:=by omega
    exact ⟨congrArg (fun z:Nat=>vI z) (by rw [zgz (by omega) hin,if_pos (zfG.2 hz)]),(hEw1.trans hEl)⟩
  ·refine za (zq (zzm n ((x.lv:Nat):Int) ((x.ix:Nat):Int) _ (by omega) (by omega) (by first | omega |(simp only [Int.toNat_natCast];omega))) ?_)
   rintro _ _ ⟨rfl,rfl⟩
   refine zc 1 [(26,vT)] (zf (zb (zv (ze (zd (zc 1 [(4,(vI 17))] (zf (zb (zj ?_)))))))))
   exact zw (zm (vI 17) (⟨congrArg (fun z:Nat=>vI z) ((zqQ (by omega) hin).symm),(hEw1.trans hEw2)⟩))
end Go.Proofs.YtkmhgepdhilllaaGreatDoor
namespace Go.Proofs.YtkmhgepdhilllaaGreatDoor
open Go Go.RowKit Go.Cs
set_option maxRecDepth 100000
theorem zdN (x:UInt32) (k:Nat) (w:World) (hp0:1≤k) (hp1:k≤31):
  Calls Tryz.prog 145 #[(vW x.toNat),(vI k)] w (Ret fun r w'=>r=(vW ((rr x k).toNat))∧w=w'):=by
 refine zC (n:=9) (σ:= [(0,(vW x.toNat)),(1,(vI k))]) Tryz.func145 rfl ?_
 refine ze (zd (zc 1 [(4,(vW 0))] (zf (zb (ze (zd (zc 2 [(6,(vI k)),(5,(vW x.toNat))] (za (zhU (some 7) .i64 (IntKind.i64.wrap (0-((k:Nat):Int))) (-((k:Nat):Int)) (zu) ?_)))))))))
 refine za (zq (zu3 x.toNat (-((k:Nat):Int)) _ (x.toNat_lt)) ?_)
 rintro _ _ ⟨rfl,rfl⟩
 refine zc 1 [(4,(vW (rot x.toNat (-((k:Nat):Int)))))] (zf (zb (zj (zm (vW (rot x.toNat (-((k:Nat):Int)))) ?_))))
 rw [zoW];exact ⟨rfl,rfl⟩
theorem zdI (x:UInt32) (k:Nat) (w:World) (hp0:1≤k) (hp1:k≤31):
  Calls Tryz.prog 128 #[(vW x.toNat),(vI k)] w (Ret fun r w'=>r=(vW ((rr x k).toNat))∧Ext w w'):=by
 refine zC (n:=13) (σ:= [(0,(vW x.toNat)),(1,(vI k))]) Tryz.func128 rfl ?_
 refine ze (zd (zc 1 [(4,(vW 0))] (zf (zb (ze (zaa 9 (fun w1 hEw1 hzw1 hT18=> ?_)))))))
 refine zg hT18 [(0,5,(vW x.toNat)),(1,6,(vI k))] 2 (zk hT18 2 (vW (x.toNat/2^k)) (zae (do eqGuard .shr 53 (.tmp 5) (.tmp 6) (.int .u32 ((x.toNat:Nat):Int)) (.int .i64 ((k:Nat):Int));binOp .shr 53 (.int .u32 ((x.toNat:Nat):Int)) (.int .i64 ((k:Nat):Int))) (fun w' hC=>zjw (by show _≤32;omega))) (zg hT18 [(3,8,(vW x.toNat)),(4,9,(vI k))] 2 (zk hT18 5 (vI (32-k)) (zY .i64 (IntKind.i64.wrap (((32:Nat):Int)-((k:Nat):Int))) (zu)) (zk hT18 6 (vW (x.toNat*2^(32-k)%2^32)) (zae (do eqGuard .shl 53 (.tmp 8) (.tmp 10) (.int .u32 ((x.toNat:Nat):Int)) (.int .i64 ((32-k:Nat):Int));binOp .shl 53 (.int .u32 ((x.toNat:Nat):Int)) (.int .i64 ((32-k:Nat):Int))) (fun w' hC=>zm2 rfl (by show _≤32;omega))) (zk hT18 7 (vW ((rr x k).toNat)) (zY .u32 ((IntKind.u32.wrap ((BitVec.ofInt IntKind.u32.bits ((x.toNat/2^k:Nat):Int)||| BitVec.ofInt IntKind.u32.bits ((x.toNat*2^(32-k)%2^32:Nat):Int)).toNat:Int))) ((orU .u32 rfl (by show _<2^32;exact Nat.lt_of_le_of_lt (Nat.div_le_self _ _) x.toNat_lt) (Nat.mod_lt _ (by decide))).trans (congrArg _ (zt0 x hp0 hp1)))) (zg hT18 [(8,4,(vW ((rr x k).toNat)))] 1 (zD (zb (zj ?_)))))))))
 exact zm (vW ((rr x k).toNat)) (⟨rfl,hEw1⟩)
theorem zro (b:B64) (w:World):
  Calls Tryz.prog 144 #[(vA (zdQ b))] w (Ret fun r w'=>r=(vA (zax (zB b.l 64)))∧Ext w w'):=by
 refine zC (n:=72) (σ:= [(0,(vA (zdQ b)))]) Tryz.func144 rfl ?_
 refine ze (zd (za (zab (Instr.box 191 (vA (zdQ b))) (vP w.heap.size 0) (zdQ b) 191 ?_)))
 intro w1 hBw1 hEw1 hzw1 hlw1
 refine za (zaf (zax (WA.zero 64)) 167 ?_)
 intro w2 hBw2 hEw2 hzw2 hlw2
 refine zf (zb (ze (ze (zd (zc 1 [(9,(vI 0))] (zf (zb (zr (zW (X:=Nat) (fun i=> [(9,(vI i))]) [3,10,11,12,13,14,15,16,17,18,19,20,21,22,23,24,25,26,27] (fun i w3=>i≤16∧Blk w3 w.heap.size (zdQ b) 191∧Blk w3 w1.heap.size (zax (zB b.l i)) 167∧Ext w w3) (fun i=>16-i) 0 (by kernel_rfl) ⟨by omega,(hBw1.ext hEw2),hBw2,(hEw1.trans hEw2)⟩ ?_)))))))))
 rintro i dw3 w3 ⟨hi,hA,hB,hEl⟩
 have hzhEl:=hEl.size;have hlthA:=hA.lt;have hlthB:=hB.lt
 refine ze (zd (za (zE (some 10) (decide (((i:Nat):Int)<((16:Nat):Int))) (fun hc10=> ?_) (fun hc10=> ?_))))
 ·replace hc10:i<16:=by have:=zac hc10;omega
  refine zf (zb (ze (zv (zo (zb (ze (zr (ze (zd ?_)))))))))
  refine zc 2 [(3,(vI i)),(11,(vI i))] (zf (zb (zd (zc 2 [(14,(vI i)),(13,(vI i))] (za (zn (some 15) .i64 (IntKind.i64.wrap (((4:Nat):Int)*((i:Nat):Int))) (4*i) (zu) ?_))))))
  refine zc 1 [(16,(vI i))] (za (zn (some 17) .i64 (IntKind.i64.wrap (((4:Nat):Int)*((i:Nat):Int))) (4*i) (zu) ?_))
  refine za (zn (some 18) .i64 (IntKind.i64.wrap (((4*i:Nat):Int)+((4:Nat):Int))) (4*i+4) (zu) ?_)
  refine zc 1 [(19,(vI i))] (za (zn (some 20) .i64 (IntKind.i64.wrap (((4:Nat):Int)*((i:Nat):Int))) (4*i) (zu) ?_))
  refine za (zn (some 21) .i64 (IntKind.i64.wrap (((4*i:Nat):Int)+((4:Nat):Int))) (4*i+4) (zu) ?_)
  refine za (zaM (Instr.sliceAt 191 (vP w.heap.size 0) (some (vI (4*i))) (some (vI (4*i+4))) (some (vI (4*i+4)))) (.slice (pA w.heap.size (0+(4*i)*1)) (4*i+4-(4*i)) (4*i+4-(4*i))) (zjc (len:=64) (E:=5) (sz:=1) (l:=4*i) (r:=4*i+4) (m:=4*i+4) (.inr ⟨_,rfl⟩) (.inr ⟨_,rfl⟩) (.inr ⟨_,rfl⟩) (by simp) (by omega) (by omega) (by omega) (by omega)) ?_)
  have hSb:Bs w.heap.size (w.heap.size+1) w3 (pA w.heap.size (0+(4*i)*1)) (4*i+4-(4*i)) (4*i+4-(4*i)) ((b.l.drop (4*i)).take 4):=by have hq:=Bs.of_at (lo:=w.heap.size) (hi:=w.heap.size+1) (len:=4) (hA.at (4*i) (u8s ((b.l.drop (4*i)).take 4)) (zqC (by omega))) (hA).lt (by have:=b.h;simp;omega) (by decide) (by omega) (by omega);rw [show 4*i+4-4*i=4 from by omega,Nat.zero_add,Nat.mul_one];exact hq
  refine za (zq (zsf _ hSb) ?_)
  rintro _ _ ⟨rfl,rfl⟩
  rw [show zaY ((b.l.drop (4*i)).take 4) 4=(UInt32.ofNat (zaY ((b.l.drop (4*i)).take 4) 4)).toNat from by rw [UInt32.toNat_ofNat',Nat.mod_eq_of_lt (zdM _ 4)]]
  refine zc 3 [(25,(vI (zcK ((b.l.drop (4*i)).take 4) 4))),(24,(vW ((UInt32.ofNat (zaY ((b.l.drop (4*i)).take 4) 4)).toNat))),(12,(.tuple #[(vW ((UInt32.ofNat (zaY ((b.l.drop (4*i)).take 4) 4)).toNat)),(vI (zcK ((b.l.drop (4*i)).take 4) 4))]))] (za (zbk w1.heap.size 0 i 64 1 ?_))
  refine za (zak 53 w1.heap.size (0+i*1) 167 (vW ((UInt32.ofNat (zaY ((b.l.drop (4*i)).take 4) 4)).toNat)) (zax (zB b.l i)) hB (by first | decide |(simp;done)|(simp;omega)) ?_)
  intro w4 hBw4 hCw4
  have hzw4:=hCw4.size
  rw [show ((zax (zB b.l i)).set (0+i*1) (vW ((UInt32.ofNat (zaY ((b.l.drop (4*i)).take 4) 4)).toNat)):List Value)=zax ((zB b.l i).set i (UInt32.ofNat (zaY ((b.l.drop (4*i)).take 4) 4))) from zhI i (UInt32.ofNat (zaY ((b.l.drop (4*i)).take 4) 4))] at hBw4
  refine zf (zi (zb (zd (za (zn (some 27) .i64 (IntKind.i64.wrap (((i:Nat):Int)+((1:Nat):Int))) (i+1) (zu) ?_)))))
  refine zc 1 [(9,(vI (i+1)))] (zf (zz (zL (i+1) ?_ ?_)))
  ·exact ⟨by omega,(hA.chg hCw4),by have hz:=hBw4;rwa [show (zB b.l i).set i _=zB b.l (i+1) from zkn (by omega) rfl] at hz,(Ext.own hEl hCw4 (by omega))⟩
  ·first | omega |(dsimp only;omega)
 ·replace hc10:¬(i<16):=by have:=zad hc10;omega
  refine zf (zb (ze (zh (zP (zp (zp (zF (zb (ze ?_)))))))))
  refine ze (zd (zc 1 [(4,(vI 16))] (zf (zb (zr ?_)))))
  obtain rfl:i=16:=by omega
  refine zW (X:=Nat) (fun t=> [(4,(vI t))]) [5,6,7,8,28,29,30,31,32,33,34,35,36,37,38,39,40,41,42,43,44,45,46,47,48,49,50,51,52,53,54,55,56,57,58,59,60,61,62,63,64,65,66,67,68,69,70] (fun t w5=>16≤t∧t≤64∧Blk w5 w.heap.size (zdQ b) 191∧Blk w5 w1.heap.size (zax (zB b.l t)) 167∧Ext w w5) (fun t=>64-t) 16 (by kernel_rfl) ⟨by omega,by omega,hA,hB,hEl⟩ ?_
  rintro t dw5 w5 ⟨hlt,ht,hC,hD,hEm⟩
  have hzhEm:=hEm.size;have hlthC:=hC.lt;have hlthD:=hD.lt
  refine ze (ze (zd (zc 1 [(28,(vI t))] (za (zE (some 29) (decide (((t:Nat):Int)<((64:Nat):Int))) (fun hc29=> ?_) (fun hc29=> ?_))))))
  ·replace hc29:t<64:=by have:=zac hc29;omega
   refine zf (zb (zv (zo (zb (ze (zr (ze (zaa 10 (fun w6 hEw6 hzw6 hT120=> ?_)))))))))
   refine zg hT120 [(0,32,(vI t))] 1 (zk hT120 1 (vI (t-15)) (zY .i64 (IntKind.i64.wrap (((t:Nat):Int)-((15:Nat):Int))) (zu)) (zaP hT120 2 w1.heap.size 0 (t-15) 64 1 (zt hT120 3 w1.heap.size (0+(t-15)*1) (fun w' hC=>(((hD.ext hEw6).ext hC).cell (zcW (t-15) (by omega)))) (zg hT120 [(4,36,(vI t))] 1 (zk hT120 5 (vI (t-2)) (zY .i64 (IntKind.i64.wrap (((t:Nat):Int)-((2:Nat):Int))) (zu)) (zaP hT120 6 w1.heap.size 0 (t-2) 64 1 (zt hT120 7 w1.heap.size (0+(t-2)*1) (fun w' hC=>(((hD.ext hEw6).ext hC).cell (zcW (t-2) (by omega)))) (zg hT120 [(8,5,(vW (((zB b.l t).get (t-15)).toNat))),(9,6,(vW (((zB b.l t).get (t-2)).toNat)))] 2 (zD ?_)))))))))
   refine zb (ze (zd (zc 1 [(40,(vW (((zB b.l t).get (t-15)).toNat)))] (za (zq (zdN ((zB b.l t).get (t-15)) 7 _ (by decide) (by decide)) ?_)))))
   rintro _ _ ⟨rfl,rfl⟩
   refine zc 1 [(42,(vW (((zB b.l t).get (t-15)).toNat)))] (za (zq (zdN ((zB b.l t).get (t-15)) 18 _ (by decide) (by decide)) ?_))
   rintro _ _ ⟨rfl,rfl⟩
   refine za (zn (some 44) .u32 ((IntKind.u32.wrap ((BitVec.ofInt IntKind.u32.bits (((rr ((zB b.l t).get (t-15)) 7).toNat:Nat):Int)^^^BitVec.ofInt IntKind.u32.bits (((rr ((zB b.l t).get (t-15)) 18).toNat:Nat):Int)).toNat:Int))) (((rr ((zB b.l t).get (t-15)) 7)^^^(rr ((zB b.l t).get (t-15)) 18)).toNat) (zca (rr ((zB b.l t).get (t-15)) 7) (rr ((zB b.l t).get (t-15)) 18)) ?_)
   refine zc 1 [(45,(vW (((zB b.l t).get (t-15)).toNat)))] (za (zn (some 46) .u32 (((((zB b.l t).get (t-15)).toNat:Nat):Int).fdiv (2^3)) ((((zB b.l t).get (t-15))>>>UInt32.ofNat 3).toNat) (ziF ((zB b.l t).get (t-15)) 3 (by decide)) ?_))
   refine za (zn (some 47) .u32 ((IntKind.u32.wrap ((BitVec.ofInt IntKind.u32.bits ((((rr ((zB b.l t).get (t-15)) 7)^^^(rr ((zB b.l t).get (t-15)) 18)).toNat:Nat):Int)^^^BitVec.ofInt IntKind.u32.bits (((((zB b.l t).get (t-15))>>>UInt32.ofNat 3).toNat:Nat):Int)).toNat:Int))) ((((rr ((zB b.l t).get (t-15)) 7)^^^(rr ((zB b.l t).get (t-15)) 18))^^^(((zB b.l t).get (t-15))>>>UInt32.ofNat 3)).toNat) (zca ((rr ((zB b.l t).get (t-15)) 7)^^^(rr ((zB b.l t).get (t-15)) 18)) (((zB b.l t).get (t-15))>>>UInt32.ofNat 3)) ?_)
   refine zc 1 [(7,(vW ((((rr ((zB b.l t).get (t-15)) 7)^^^(rr ((zB b.l t).get (t-15)) 18))^^^(((zB b.l t).get (t-15))>>>UInt32.ofNat 3)).toNat)))] (zf (zb (ze (zd (zc 1 [(48,(vW (((zB b.l t).get (t-2)).toNat)))] (za (zq (zdN ((zB b.l t).get (t-2)) 17 _ (by decide) (by decide)) ?_)))))))
   rintro _ _ ⟨rfl,rfl⟩
   refine zc 1 [(50,(vW (((zB b.l t).get (t-2)).toNat)))] (za (zq (zdN ((zB b.l t).get (t-2)) 19 _ (by decide) (by decide)) ?_))
   rintro _ _ ⟨rfl,rfl⟩
   refine za (zn (some 52) .u32 ((IntKind.u32.wrap ((BitVec.ofInt IntKind.u32.bits (((rr ((zB b.l t).get (t-2)) 17).toNat:Nat):Int)^^^BitVec.ofInt IntKind.u32.bits (((rr ((zB b.l t).get (t-2)) 19).toNat:Nat):Int)).toNat:Int))) (((rr ((zB b.l t).get (t-2)) 17)^^^(rr ((zB b.l t).get (t-2)) 19)).toNat) (zca (rr ((zB b.l t).get (t-2)) 17) (rr ((zB b.l t).get (t-2)) 19)) ?_)
   refine zc 1 [(53,(vW (((zB b.l t).get (t-2)).toNat)))] (za (zn (some 54) .u32 (((((zB b.l t).get (t-2)).toNat:Nat):Int).fdiv (2^10)) ((((zB b.l t).get (t-2))>>>UInt32.ofNat 10).toNat) (ziF ((zB b.l t).get (t-2)) 10 (by decide)) ?_))
   refine za (zn (some 55) .u32 ((IntKind.u32.wrap ((BitVec.ofInt IntKind.u32.bits ((((rr ((zB b.l t).get (t-2)) 17)^^^(rr ((zB b.l t).get (t-2)) 19)).toNat:Nat):Int)^^^BitVec.ofInt IntKind.u32.bits (((((zB b.l t).get (t-2))>>>UInt32.ofNat 10).toNat:Nat):Int)).toNat:Int))) ((((rr ((zB b.l t).get (t-2)) 17)^^^(rr ((zB b.l t).get (t-2)) 19))^^^(((zB b.l t).get (t-2))>>>UInt32.ofNat 10)).toNat) (zca ((rr ((zB b.l t).get (t-2)) 17)^^^(rr ((zB b.l t).get (t-2)) 19)) (((zB b.l t).get (t-2))>>>UInt32.ofNat 10)) ?_)
   refine zc 1 [(8,(vW ((((rr ((zB b.l t).get (t-2)) 17)^^^(rr ((zB b.l t).get (t-2)) 19))^^^(((zB b.l t).get (t-2))>>>UInt32.ofNat 10)).toNat)))] (zf (zb (zaa 16 (fun w7 hEw7 hzw7 hT162=> ?_))))
   refine zg hT162 [(0,56,(vI t)),(1,57,(vW ((((rr ((zB b.l t).get (t-2)) 17)^^^(rr ((zB b.l t).get (t-2)) 19))^^^(((zB b.l t).get (t-2))>>>UInt32.ofNat 10)).toNat))),(2,58,(vI t))] 3 (zk hT162 3 (vI (t-7)) (zY .i64 (IntKind.i64.wrap (((t:Nat):Int)-((7:Nat):Int))) (zu)) (zaP hT162 4 w1.heap.size 0 (t-7) 64 1 (zt hT162 5 w1.heap.size (0+(t-7)*1) (fun w' hC=>((((hD.ext hEw6).ext hEw7).ext hC).cell (zcW (t-7) (by omega)))) (zk hT162 6 (vW (((((rr ((zB b.l t).get (t-2)) 17)^^^(rr ((zB b.l t).get (t-2)) 19))^^^(((zB b.l t).get (t-2))>>>UInt32.ofNat 10))+((zB b.l t).get (t-7))).toNat)) (zY .u32 _ (zbl (((rr ((zB b.l t).get (t-2)) 17)^^^(rr ((zB b.l t).get (t-2)) 19))^^^(((zB b.l t).get (t-2))>>>UInt32.ofNat 10)) ((zB b.l t).get (t-7)))) (zg hT162 [(7,63,(vW ((((rr ((zB b.l t).get (t-15)) 7)^^^(rr ((zB b.l t).get (t-15)) 18))^^^(((zB b.l t).get (t-15))>>>UInt32.ofNat 3)).toNat)))] 1 ?_)))))
   refine zk hT162 8 (vW ((((((rr ((zB b.l t).get (t-2)) 17)^^^(rr ((zB b.l t).get (t-2)) 19))^^^(((zB b.l t).get (t-2))>>>UInt32.ofNat 10))+((zB b.l t).get (t-7)))+(((rr ((zB b.l t).get (t-15)) 7)^^^(rr ((zB b.l t).get (t-15)) 18))^^^(((zB b.l t).get (t-15))>>>UInt32.ofNat 3))).toNat)) (zY .u32 _ (zbl ((((rr ((zB b.l t).get (t-2)) 17)^^^(rr ((zB b.l t).get (t-2)) 19))^^^(((zB b.l t).get (t-2))>>>UInt32.ofNat 10))+((zB b.l t).get (t-7))) (((rr ((zB b.l t).get (t-15)) 7)^^^(rr ((zB b.l t).get (t-15)) 18))^^^(((zB b.l t).get (t-15))>>>UInt32.ofNat 3)))) (zg hT162 [(9,65,(vI t))] 1 (zk hT162 10 (vI (t-16)) (zY .i64 (IntKind.i64.wrap (((t:Nat):Int)-((16:Nat):Int))) (zu)) (zaP hT162 11 w1.heap.size 0 (t-16) 64 1 (zt hT162 12 w1.heap.size (0+(t-16)*1) (fun w' hC=>((((hD.ext hEw6).ext hEw7).ext hC).cell (zcW (t-16) (by omega)))) ?_))))
   refine zk hT162 13 (vW (((((((rr ((zB b.l t).get (t-2)) 17)^^^(rr ((zB b.l t).get (t-2)) 19))^^^(((zB b.l t).get (t-2))>>>UInt32.ofNat 10))+((zB b.l t).get (t-7)))+(((rr ((zB b.l t).get (t-15)) 7)^^^(rr ((zB b.l t).get (t-15)) 18))^^^(((zB b.l t).get (t-15))>>>UInt32.ofNat 3)))+((zB b.l t).get (t-16))).toNat)) (zY .u32 _ (zbl (((((rr ((zB b.l t).get (t-2)) 17)^^^(rr ((zB b.l t).get (t-2)) 19))^^^(((zB b.l t).get (t-2))>>>UInt32.ofNat 10))+((zB b.l t).get (t-7)))+(((rr ((zB b.l t).get (t-15)) 7)^^^(rr ((zB b.l t).get (t-15)) 18))^^^(((zB b.l t).get (t-15))>>>UInt32.ofNat 3))) ((zB b.l t).get (t-16)))) (zaP hT162 14 w1.heap.size 0 t 64 1 (zx 15 (zak 53 w1.heap.size (0+t*1) 167 (vW (((((((rr ((zB b.l t).get (t-2)) 17)^^^(rr ((zB b.l t).get (t-2)) 19))^^^(((zB b.l t).get (t-2))>>>UInt32.ofNat 10))+((zB b.l t).get (t-7)))+(((rr ((zB b.l t).get (t-15)) 7)^^^(rr ((zB b.l t).get (t-15)) 18))^^^(((zB b.l t).get (t-15))>>>UInt32.ofNat 3)))+((zB b.l t).get (t-16))).toNat)) (zax (zB b.l t)) ((hD.ext hEw6).ext hEw7) (by first | decide |(simp;done)|(simp;omega)) ?_)))
   intro w8 hBw8 hCw8
   have hzw8:=hCw8.size
   rw [show ((zax (zB b.l t)).set (0+t*1) (vW (((((((rr ((zB b.l t).get (t-2)) 17)^^^(rr ((zB b.l t).get (t-2)) 19))^^^(((zB b.l t).get (t-2))>>>UInt32.ofNat 10))+((zB b.l t).get (t-7)))+(((rr ((zB b.l t).get (t-15)) 7)^^^(rr ((zB b.l t).get (t-15)) 18))^^^(((zB b.l t).get (t-15))>>>UInt32.ofNat 3)))+((zB b.l t).get (t-16))).toNat)):List Value)=zax ((zB b.l t).set t ((((((rr ((zB b.l t).get (t-2)) 17)^^^(rr ((zB b.l t).get (t-2)) 19))^^^(((zB b.l t).get (t-2))>>>UInt32.ofNat 10))+((zB b.l t).get (t-7)))+(((rr ((zB b.l t).get (t-15)) 7)^^^(rr ((zB b.l t).get (t-15)) 18))^^^(((zB b.l t).get (t-15))>>>UInt32.ofNat 3)))+((zB b.l t).get (t-16)))) from zhI t ((((((rr ((zB b.l t).get (t-2)) 17)^^^(rr ((zB b.l t).get (t-2)) 19))^^^(((zB b.l t).get (t-2))>>>UInt32.ofNat 10))+((zB b.l t).get (t-7)))+(((rr ((zB b.l t).get (t-15)) 7)^^^(rr ((zB b.l t).get (t-15)) 18))^^^(((zB b.l t).get (t-15))>>>UInt32.ofNat 3)))+((zB b.l t).get (t-16)))] at hBw8
   refine ⟨.inl (by kernel_rfl), ?_⟩
   refine zD (zi (zb (zd (zc 1 [(30,(vI t))] (za (zn (some 31) .i64 (IntKind.i64.wrap (((t:Nat):Int)+((1:Nat):Int))) (t+1) (zu) ?_))))))
   refine zc 1 [(4,(vI (t+1)))] (zf (zz ?_))
   have hK1:=(((hC.ext hEw6).ext hEw7).chg hCw8)
   have hX1:Ext w w8:=(Ext.own ((hEm.trans hEw6).trans hEw7) hCw8 (by omega))
   refine zL (t+1) ?_ ?_
   ·exact ⟨by omega,by omega,hK1,by have hz:=hBw8;rwa [show (zB b.l t).set t _=zB b.l (t+1) from zk4 (by omega) (by unfold znZ zn0;ac_rfl)] at hz,hX1⟩
   ·first | omega |(dsimp only;omega)
  ·replace hc29:¬(t<64):=by have:=zad hc29;omega
   refine zf (zb (zh (zP (zp (zp (zF (zb (ze (zd ?_)))))))))
   refine za (zS w1.heap.size 0 (hD.all) (zdv _) ?_)
   refine za (zG 167 w1.heap.size 0 167 (vA (zax (zB b.l t))) (zax (zB b.l t)) (zax (zB b.l t)) hD (by rw [zdv];kernel_rfl) (by first |(simp;done)|(simp;omega)) (zf9 _) ?_)
   intro w9 hBw9 hCw9
   have hzw9:=hCw9.size
   rw [zy _ _ (by simp)] at hBw9
   refine zf (zb (zj (zaI (show zX Tryz.prog 72 _ _ (.cell 2 167) (vA (zax (zB b.l t))) from ⟨⟨w1.heap.size,0,none⟩,(by kernel_rfl),zI (T:=167) (vs:=zax (zB b.l t)) (hBw9).all (by rw [zdv];kernel_rfl)⟩) ?_)))
   obtain rfl:t=64:=by omega
   exact ⟨rfl,(Ext.own hEm hCw9 (by omega))⟩
end Go.Proofs.YtkmhgepdhilllaaGreatDoor
namespace Go.Proofs.YtkmhgepdhilllaaGreatDoor
open Go Go.RowKit Go.Cs
set_option maxRecDepth 100000
theorem zrP (h:(WA 8)) (b:B64) (w:World) (hg2:Gl 3 (zax kA) w):
  Calls Tryz.prog 135 #[(vA (w8C h)),(vA (zdQ b))] w (Ret fun r w'=>r=(vA (w8C (zeU h b.l)))∧Ext w w'):=by
 refine zC (n:=112) (σ:= [(0,(vA (w8C h))),(1,(vA (zdQ b)))]) Tryz.func135 rfl ?_
 have hgl2:=hg2.lt
 refine ze (zd (za (zab (Instr.box 168 (vA (w8C h))) (vP w.heap.size 0) (w8C h) 168 ?_)))
 intro w1 hBw1 hEw1 hzw1 hlw1
 refine za (zab (Instr.box 191 (vA (zdQ b))) (vP w1.heap.size 0) (zdQ b) 191 ?_)
 intro w2 hBw2 hEw2 hzw2 hlw2
 refine za (zaf (w8C (WA.zero 8)) 168 ?_)
 intro w3 hBw3 hEw3 hzw3 hlw3
 refine zf (zb (ze (zd (za (zS w1.heap.size 0 ((hBw2.ext hEw3).all) (zlq _) ?_)))))
 refine za (zq (zro b _) ?_)
 rintro _ w4 ⟨rfl,hEw4⟩
 have hzw4:=hEw4.size
 refine zan (zax (zB b.l 64)) 167 (zdv _) (zf9 _) ?_
 intro w5 hBw5 hEw5 hzw5 hlw5
 refine zf (zb (ze (zd ?_)))
 have hK1:=((((hBw1.ext hEw2).ext hEw3).ext hEw4).ext hEw5)
 refine za (zS w.heap.size 0 (hK1.all) (zbO _) ?_)
 refine zan (w8C h) 168 (zbO _) (zdL _) ?_
 intro w6 hBw6 hEw6 hzw6 hlw6
 refine zf (zb (ze (ze (zd ?_))))
 have hK2:=((((((hg2.ext hEw1).ext hEw2).ext hEw3).ext hEw4).ext hEw5).ext hEw6)
 refine za (zS 3 0 (hK2.all) (zdv _) ?_)
 refine zc 1 [(18,(vI 0))] (zf (zb (zr ?_)))
 have hK3:=(((hBw3.ext hEw4).ext hEw5).ext hEw6)
 have hX1:Ext w w6:=(((((hEw1.trans hEw2).trans hEw3).trans hEw4).trans hEw5).trans hEw6)
 refine zW (X:=Nat×WA 8) (fun ⟨t,x⟩=> [(18,(vI t))]) [7,8,9,10,11,12,19,20,21,22,23,24,25,26,27,28,29,30,31,32,33,34,35,36,37,38,39,40,41,42,43,44,45,46,47,48,49,50,51,52,53,54,55,56,57,58,59,60,61,62,63,64,65,66,67,68,69,70,71,72,73,74,75,76,77,78,79,80,81,82,83,84,85,86,87,88,89,90,91,92,93,94,95,96,97,98] (fun ⟨t,x⟩ w7=>t≤64∧x=zeR h (zB b.l 64) t∧Blk w7 w.heap.size (w8C h) 168∧Blk w7 w4.heap.size (zax (zB b.l 64)) 167∧Blk w7 w5.heap.size (w8C x) 168∧Blk w7 w2.heap.size (w8C (WA.zero 8)) 168∧Ext w w7) (fun ⟨t,x⟩=>64-t) (0,h) (by kernel_rfl) ⟨by omega,rfl,(hK1.ext hEw6),(hBw5.ext hEw6),hBw6,hK3,hX1⟩ ?_
 rintro ⟨t,x⟩ dw7 w7 ⟨ht,hx,hA,hB,hD,hZ4,hEl⟩
 have hzl:=hEl.size
 have hlthA:=hA.lt
 have hlthB:=hB.lt
 have hlthD:=hD.lt
 have hlthZ4:=hZ4.lt
 refine ze (zd (za (zE (some 19) (decide (((t:Nat):Int)<((64:Nat):Int))) (fun hc19=> ?_) (fun hc19=> ?_))))
 ·replace hc19:t<64:=by have:=zac hc19;omega
  refine zf (zb (ze (zv (zo (zb (ze (zr (ze (zd ?_)))))))))
  refine zc 1 [(20,(vI t))] (za (zaM (Instr.index 167 (vA (zax kA)) (vI t)) (vW ((kA.get t).toNat)) (zhJ (E:=53) (m:=64) (by omega) (zpB (by omega))) ?_))
  refine zc 2 [(8,(vW ((kA.get t).toNat))),(7,(vI t))] (zf (zb (ze (zaa 6 (fun w8 hEw8 hzw8 hT70=> ?_)))))
  refine zk hT70 0 (vP w5.heap.size 0) (zae (Instr.indexAt 168 (vP w5.heap.size 0) (vI 0)) (fun w' hC=>za2 (E:=53) (sz:=1) (m:=8))) (zt hT70 1 w5.heap.size 0 (fun w' hC=>(((hD.ext hEw8).ext hC).cell (zaR 0 (by omega)))) (zk hT70 2 (vP w5.heap.size 4) (zae (Instr.indexAt 168 (vP w5.heap.size 0) (vI 4)) (fun w' hC=>za2 (E:=53) (sz:=1) (m:=8))) (zt hT70 3 w5.heap.size 4 (fun w' hC=>(((hD.ext hEw8).ext hC).cell (zaR 4 (by omega)))) (zg hT70 [(4,9,(vW ((x.get 0).toNat))),(5,10,(vW ((x.get 4).toNat)))] 2 (zD (zb (ze (zaa 29 (fun w9 hEw9 hzw9 hT79=> ?_)))))))))
  refine zk hT79 0 (vP w5.heap.size 7) (zae (Instr.indexAt 168 (vP w5.heap.size 0) (vI 7)) (fun w' hC=>za2 (E:=53) (sz:=1) (m:=8))) (zt hT79 1 w5.heap.size 7 (fun w' hC=>((((hD.ext hEw8).ext hEw9).ext hC).cell (zaR 7 (by omega)))) (zg hT79 [(2,28,(vW ((x.get 4).toNat)))] 1 (zk hT79 3 (vW ((rr (x.get 4) 6).toNat)) (zeu (f:=145) (args:= #[(vW ((x.get 4).toNat)),(vI 6)]) (fun w' hC=>zdN (x.get 4) 6 _ (by decide) (by decide))) (zg hT79 [(4,30,(vW ((x.get 4).toNat)))] 1 (zk hT79 5 (vW ((rr (x.get 4) 11).toNat)) (zeu (f:=145) (args:= #[(vW ((x.get 4).toNat)),(vI 11)]) (fun w' hC=>zdN (x.get 4) 11 _ (by decide) (by decide))) (zk hT79 6 (vW (((rr (x.get 4) 6)^^^(rr (x.get 4) 11)).toNat)) (zY .u32 _ (zca (rr (x.get 4) 6) (rr (x.get 4) 11))) (zg hT79 [(7,33,(vW ((x.get 4).toNat)))] 1 (zk hT79 8 (vW ((rr (x.get 4) 25).toNat)) (zeu (f:=145) (args:= #[(vW ((x.get 4).toNat)),(vI 25)]) (fun w' hC=>zdN (x.get 4) 25 _ (by decide) (by decide))) (zk hT79 9 (vW ((((rr (x.get 4) 6)^^^(rr (x.get 4) 11))^^^(rr (x.get 4) 25)).toNat)) (zY .u32 _ (zca ((rr (x.get 4) 6)^^^(rr (x.get 4) 11)) (rr (x.get 4) 25))) ?_)))))))))
  refine zk hT79 10 (vW (((x.get 7)+(((rr (x.get 4) 6)^^^(rr (x.get 4) 11))^^^(rr (x.get 4) 25))).toNat)) (zY .u32 _ (zbl (x.get 7) (((rr (x.get 4) 6)^^^(rr (x.get 4) 11))^^^(rr (x.get 4) 25)))) (zg hT79 [(11,37,(vW ((x.get 4).toNat)))] 1 (zk hT79 12 (vP w5.heap.size 5) (zae (Instr.indexAt 168 (vP w5.heap.size 0) (vI 5)) (fun w' hC=>za2 (E:=53) (sz:=1) (m:=8))) (zt hT79 13 w5.heap.size 5 (fun w' hC=>((((hD.ext hEw8).ext hEw9).ext hC).cell (zaR 5 (by omega)))) (zk hT79 14 (vW (((x.get 4)&&&(x.get 5)).toNat)) (zY .u32 _ (zeq (x.get 4) (x.get 5))) (zg hT79 [(15,41,(vW ((x.get 4).toNat)))] 1 (zk hT79 16 (vW ((~~~(x.get 4)).toNat)) (zY .u32 _ (zoz (x.get 4))) (zk hT79 17 (vP w5.heap.size 6) (zae (Instr.indexAt 168 (vP w5.heap.size 0) (vI 6)) (fun w' hC=>za2 (E:=53) (sz:=1) (m:=8))) (zt hT79 18 w5.heap.size 6 (fun w' hC=>((((hD.ext hEw8).ext hEw9).ext hC).cell (zaR 6 (by omega)))) (zk hT79 19 (vW (((~~~(x.get 4))&&&(x.get 6)).toNat)) (zY .u32 _ (zeq (~~~(x.get 4)) (x.get 6))) ?_)))))))))
  refine zk hT79 20 (vW ((((x.get 4)&&&(x.get 5))^^^((~~~(x.get 4))&&&(x.get 6))).toNat)) (zY .u32 _ (zca ((x.get 4)&&&(x.get 5)) ((~~~(x.get 4))&&&(x.get 6)))) (zk hT79 21 (vW ((((x.get 7)+(((rr (x.get 4) 6)^^^(rr (x.get 4) 11))^^^(rr (x.get 4) 25)))+(((x.get 4)&&&(x.get 5))^^^((~~~(x.get 4))&&&(x.get 6)))).toNat)) (zY .u32 _ (zbl ((x.get 7)+(((rr (x.get 4) 6)^^^(rr (x.get 4) 11))^^^(rr (x.get 4) 25))) (((x.get 4)&&&(x.get 5))^^^((~~~(x.get 4))&&&(x.get 6))))) (zg hT79 [(22,48,(vW ((kA.get t).toNat)))] 1 (zk hT79 23 (vW (((((x.get 7)+(((rr (x.get 4) 6)^^^(rr (x.get 4) 11))^^^(rr (x.get 4) 25)))+(((x.get 4)&&&(x.get 5))^^^((~~~(x.get 4))&&&(x.get 6))))+(kA.get t)).toNat)) (zY .u32 _ (zbl (((x.get 7)+(((rr (x.get 4) 6)^^^(rr (x.get 4) 11))^^^(rr (x.get 4) 25)))+(((x.get 4)&&&(x.get 5))^^^((~~~(x.get 4))&&&(x.get 6)))) (kA.get t))) (zg hT79 [(24,50,(vI t))] 1 (zaP hT79 25 w4.heap.size 0 t 64 1 (zt hT79 26 w4.heap.size (0+t*1) (fun w' hC=>((((hB.ext hEw8).ext hEw9).ext hC).cell (zcW t (by omega)))) (zk hT79 27 (vW ((((((x.get 7)+(((rr (x.get 4) 6)^^^(rr (x.get 4) 11))^^^(rr (x.get 4) 25)))+(((x.get 4)&&&(x.get 5))^^^((~~~(x.get 4))&&&(x.get 6))))+(kA.get t))+((zB b.l 64).get t)).toNat)) (zY .u32 _ (zbl ((((x.get 7)+(((rr (x.get 4) 6)^^^(rr (x.get 4) 11))^^^(rr (x.get 4) 25)))+(((x.get 4)&&&(x.get 5))^^^((~~~(x.get 4))&&&(x.get 6))))+(kA.get t)) ((zB b.l 64).get t))) ?_)))))))
  refine zg hT79 [(28,11,(vW ((((((x.get 7)+(((rr (x.get 4) 6)^^^(rr (x.get 4) 11))^^^(rr (x.get 4) 25)))+(((x.get 4)&&&(x.get 5))^^^((~~~(x.get 4))&&&(x.get 6))))+(kA.get t))+((zB b.l 64).get t)).toNat)))] 1 (zD (zb (ze (zaa 25 (fun w10 hEw10 hzw10 hT112=> ?_)))))
  refine zg hT112 [(0,54,(vW ((x.get 0).toNat)))] 1 (zk hT112 1 (vW ((rr (x.get 0) 2).toNat)) (zeu (f:=145) (args:= #[(vW ((x.get 0).toNat)),(vI 2)]) (fun w' hC=>zdN (x.get 0) 2 _ (by decide) (by decide))) (zg hT112 [(2,56,(vW ((x.get 0).toNat)))] 1 (zk hT112 3 (vW ((rr (x.get 0) 13).toNat)) (zeu (f:=145) (args:= #[(vW ((x.get 0).toNat)),(vI 13)]) (fun w' hC=>zdN (x.get 0) 13 _ (by decide) (by decide))) (zk hT112 4 (vW (((rr (x.get 0) 2)^^^(rr (x.get 0) 13)).toNat)) (zY .u32 _ (zca (rr (x.get 0) 2) (rr (x.get 0) 13))) (zg hT112 [(5,59,(vW ((x.get 0).toNat)))] 1 (zk hT112 6 (vW ((rr (x.get 0) 22).toNat)) (zeu (f:=145) (args:= #[(vW ((x.get 0).toNat)),(vI 22)]) (fun w' hC=>zdN (x.get 0) 22 _ (by decide) (by decide))) (zk hT112 7 (vW ((((rr (x.get 0) 2)^^^(rr (x.get 0) 13))^^^(rr (x.get 0) 22)).toNat)) (zY .u32 _ (zca ((rr (x.get 0) 2)^^^(rr (x.get 0) 13)) (rr (x.get 0) 22))) (zg hT112 [(8,62,(vW ((x.get 0).toNat)))] 1 (zk hT112 9 (vP w5.heap.size 1) (zae (Instr.indexAt 168 (vP w5.heap.size 0) (vI 1)) (fun w' hC=>za2 (E:=53) (sz:=1) (m:=8))) ?_)))))))))
  have hK4:=(((hD.ext hEw8).ext hEw9).ext hEw10)
  refine zt hT112 10 w5.heap.size 1 (fun w' hC=>((hK4.ext hC).cell (zaR 1 (by omega)))) (zk hT112 11 (vW (((x.get 0)&&&(x.get 1)).toNat)) (zY .u32 _ (zeq (x.get 0) (x.get 1))) (zg hT112 [(12,66,(vW ((x.get 0).toNat)))] 1 (zk hT112 13 (vP w5.heap.size 2) (zae (Instr.indexAt 168 (vP w5.heap.size 0) (vI 2)) (fun w' hC=>za2 (E:=53) (sz:=1) (m:=8))) (zt hT112 14 w5.heap.size 2 (fun w' hC=>((hK4.ext hC).cell (zaR 2 (by omega)))) (zk hT112 15 (vW (((x.get 0)&&&(x.get 2)).toNat)) (zY .u32 _ (zeq (x.get 0) (x.get 2))) (zk hT112 16 (vW ((((x.get 0)&&&(x.get 1))^^^((x.get 0)&&&(x.get 2))).toNat)) (zY .u32 _ (zca ((x.get 0)&&&(x.get 1)) ((x.get 0)&&&(x.get 2)))) (zk hT112 17 (vP w5.heap.size 1) (zae (Instr.indexAt 168 (vP w5.heap.size 0) (vI 1)) (fun w' hC=>za2 (E:=53) (sz:=1) (m:=8))) (zt hT112 18 w5.heap.size 1 (fun w' hC=>((hK4.ext hC).cell (zaR 1 (by omega)))) (zk hT112 19 (vP w5.heap.size 2) (zae (Instr.indexAt 168 (vP w5.heap.size 0) (vI 2)) (fun w' hC=>za2 (E:=53) (sz:=1) (m:=8))) ?_)))))))))
  refine zt hT112 20 w5.heap.size 2 (fun w' hC=>((hK4.ext hC).cell (zaR 2 (by omega)))) (zk hT112 21 (vW (((x.get 1)&&&(x.get 2)).toNat)) (zY .u32 _ (zeq (x.get 1) (x.get 2))) (zk hT112 22 (vW (((((x.get 0)&&&(x.get 1))^^^((x.get 0)&&&(x.get 2)))^^^((x.get 1)&&&(x.get 2))).toNat)) (zY .u32 _ (zca (((x.get 0)&&&(x.get 1))^^^((x.get 0)&&&(x.get 2))) ((x.get 1)&&&(x.get 2)))) (zk hT112 23 (vW (((((rr (x.get 0) 2)^^^(rr (x.get 0) 13))^^^(rr (x.get 0) 22))+((((x.get 0)&&&(x.get 1))^^^((x.get 0)&&&(x.get 2)))^^^((x.get 1)&&&(x.get 2)))).toNat)) (zY .u32 _ (zbl (((rr (x.get 0) 2)^^^(rr (x.get 0) 13))^^^(rr (x.get 0) 22)) ((((x.get 0)&&&(x.get 1))^^^((x.get 0)&&&(x.get 2)))^^^((x.get 1)&&&(x.get 2))))) (zg hT112 [(24,12,(vW (((((rr (x.get 0) 2)^^^(rr (x.get 0) 13))^^^(rr (x.get 0) 22))+((((x.get 0)&&&(x.get 1))^^^((x.get 0)&&&(x.get 2)))^^^((x.get 1)&&&(x.get 2)))).toNat)))] 1 (zD (zb (zd (zc 2 [(79,(vW (((((rr (x.get 0) 2)^^^(rr (x.get 0) 13))^^^(rr (x.get 0) 22))+((((x.get 0)&&&(x.get 1))^^^((x.get 0)&&&(x.get 2)))^^^((x.get 1)&&&(x.get 2)))).toNat))),(78,(vW ((((((x.get 7)+(((rr (x.get 4) 6)^^^(rr (x.get 4) 11))^^^(rr (x.get 4) 25)))+(((x.get 4)&&&(x.get 5))^^^((~~~(x.get 4))&&&(x.get 6))))+(kA.get t))+((zB b.l 64).get t)).toNat)))] ?_))))))))
  refine za (zn (some 80) .u32 (IntKind.u32.wrap ((((((((x.get 7)+(((rr (x.get 4) 6)^^^(rr (x.get 4) 11))^^^(rr (x.get 4) 25)))+(((x.get 4)&&&(x.get 5))^^^((~~~(x.get 4))&&&(x.get 6))))+(kA.get t))+((zB b.l 64).get t)).toNat:Nat):Int)+((((((rr (x.get 0) 2)^^^(rr (x.get 0) 13))^^^(rr (x.get 0) 22))+((((x.get 0)&&&(x.get 1))^^^((x.get 0)&&&(x.get 2)))^^^((x.get 1)&&&(x.get 2)))).toNat:Nat):Int))) (((((((x.get 7)+(((rr (x.get 4) 6)^^^(rr (x.get 4) 11))^^^(rr (x.get 4) 25)))+(((x.get 4)&&&(x.get 5))^^^((~~~(x.get 4))&&&(x.get 6))))+(kA.get t))+((zB b.l 64).get t))+((((rr (x.get 0) 2)^^^(rr (x.get 0) 13))^^^(rr (x.get 0) 22))+((((x.get 0)&&&(x.get 1))^^^((x.get 0)&&&(x.get 2)))^^^((x.get 1)&&&(x.get 2))))).toNat) (zbl (((((x.get 7)+(((rr (x.get 4) 6)^^^(rr (x.get 4) 11))^^^(rr (x.get 4) 25)))+(((x.get 4)&&&(x.get 5))^^^((~~~(x.get 4))&&&(x.get 6))))+(kA.get t))+((zB b.l 64).get t)) ((((rr (x.get 0) 2)^^^(rr (x.get 0) 13))^^^(rr (x.get 0) 22))+((((x.get 0)&&&(x.get 1))^^^((x.get 0)&&&(x.get 2)))^^^((x.get 1)&&&(x.get 2))))) ?_)
  refine za (zaM (Instr.indexAt 168 (vP w5.heap.size 0) (vI 0)) (vP w5.heap.size 0) (za2 (E:=53) (sz:=1) (m:=8)) ?_)
  refine za (zl w5.heap.size 0 (hK4.cell (zaR 0 (by omega))) ?_)
  refine za (zaM (Instr.indexAt 168 (vP w5.heap.size 0) (vI 1)) (vP w5.heap.size 1) (za2 (E:=53) (sz:=1) (m:=8)) ?_)
  refine za (zl w5.heap.size 1 (hK4.cell (zaR 1 (by omega))) ?_)
  refine za (zaM (Instr.indexAt 168 (vP w5.heap.size 0) (vI 2)) (vP w5.heap.size 2) (za2 (E:=53) (sz:=1) (m:=8)) ?_)
  refine za (zl w5.heap.size 2 (hK4.cell (zaR 2 (by omega))) ?_)
  refine za (zaM (Instr.indexAt 168 (vP w5.heap.size 0) (vI 3)) (vP w5.heap.size 3) (za2 (E:=53) (sz:=1) (m:=8)) ?_)
  refine za (zl w5.heap.size 3 (hK4.cell (zaR 3 (by omega))) ?_)
  refine zc 1 [(89,(vW ((((((x.get 7)+(((rr (x.get 4) 6)^^^(rr (x.get 4) 11))^^^(rr (x.get 4) 25)))+(((x.get 4)&&&(x.get 5))^^^((~~~(x.get 4))&&&(x.get 6))))+(kA.get t))+((zB b.l 64).get t)).toNat)))] (za (zn (some 90) .u32 (IntKind.u32.wrap ((((x.get 3).toNat:Nat):Int)+(((((((x.get 7)+(((rr (x.get 4) 6)^^^(rr (x.get 4) 11))^^^(rr (x.get 4) 25)))+(((x.get 4)&&&(x.get 5))^^^((~~~(x.get 4))&&&(x.get 6))))+(kA.get t))+((zB b.l 64).get t)).toNat:Nat):Int))) (((x.get 3)+(((((x.get 7)+(((rr (x.get 4) 6)^^^(rr (x.get 4) 11))^^^(rr (x.get 4) 25)))+(((x.get 4)&&&(x.get 5))^^^((~~~(x.get 4))&&&(x.get 6))))+(kA.get t))+((zB b.l 64).get t))).toNat) (zbl (x.get 3) (((((x.get 7)+(((rr (x.get 4) 6)^^^(rr (x.get 4) 11))^^^(rr (x.get 4) 25)))+(((x.get 4)&&&(x.get 5))^^^((~~~(x.get 4))&&&(x.get 6))))+(kA.get t))+((zB b.l 64).get t))) ?_))
  refine za (zaM (Instr.indexAt 168 (vP w5.heap.size 0) (vI 4)) (vP w5.heap.size 4) (za2 (E:=53) (sz:=1) (m:=8)) ?_)
  refine za (zl w5.heap.size 4 (hK4.cell (zaR 4 (by omega))) ?_)
  refine za (zaM (Instr.indexAt 168 (vP w5.heap.size 0) (vI 5)) (vP w5.heap.size 5) (za2 (E:=53) (sz:=1) (m:=8)) ?_)
  refine za (zl w5.heap.size 5 (hK4.cell (zaR 5 (by omega))) ?_)
  refine za (zaM (Instr.indexAt 168 (vP w5.heap.size 0) (vI 6)) (vP w5.heap.size 6) (za2 (E:=53) (sz:=1) (m:=8)) ?_)
  refine za (zl w5.heap.size 6 (hK4.cell (zaR 6 (by omega))) ?_)
  refine zc 1 [(97,(vA (w8C ⟨[((((((x.get 7)+(((rr (x.get 4) 6)^^^(rr (x.get 4) 11))^^^(rr (x.get 4) 25)))+(((x.get 4)&&&(x.get 5))^^^((~~~(x.get 4))&&&(x.get 6))))+(kA.get t))+((zB b.l 64).get t))+((((rr (x.get 0) 2)^^^(rr (x.get 0) 13))^^^(rr (x.get 0) 22))+((((x.get 0)&&&(x.get 1))^^^((x.get 0)&&&(x.get 2)))^^^((x.get 1)&&&(x.get 2))))),(x.get 0),(x.get 1),(x.get 2),((x.get 3)+(((((x.get 7)+(((rr (x.get 4) 6)^^^(rr (x.get 4) 11))^^^(rr (x.get 4) 25)))+(((x.get 4)&&&(x.get 5))^^^((~~~(x.get 4))&&&(x.get 6))))+(kA.get t))+((zB b.l 64).get t))),(x.get 4),(x.get 5),(x.get 6)],rfl⟩)))] ?_
  refine za (zG 168 w5.heap.size 0 168 (vA (w8C ⟨[((((((x.get 7)+(((rr (x.get 4) 6)^^^(rr (x.get 4) 11))^^^(rr (x.get 4) 25)))+(((x.get 4)&&&(x.get 5))^^^((~~~(x.get 4))&&&(x.get 6))))+(kA.get t))+((zB b.l 64).get t))+((((rr (x.get 0) 2)^^^(rr (x.get 0) 13))^^^(rr (x.get 0) 22))+((((x.get 0)&&&(x.get 1))^^^((x.get 0)&&&(x.get 2)))^^^((x.get 1)&&&(x.get 2))))),(x.get 0),(x.get 1),(x.get 2),((x.get 3)+(((((x.get 7)+(((rr (x.get 4) 6)^^^(rr (x.get 4) 11))^^^(rr (x.get 4) 25)))+(((x.get 4)&&&(x.get 5))^^^((~~~(x.get 4))&&&(x.get 6))))+(kA.get t))+((zB b.l 64).get t))),(x.get 4),(x.get 5),(x.get 6)],rfl⟩)) (w8C x) (w8C ⟨[((((((x.get 7)+(((rr (x.get 4) 6)^^^(rr (x.get 4) 11))^^^(rr (x.get 4) 25)))+(((x.get 4)&&&(x.get 5))^^^((~~~(x.get 4))&&&(x.get 6))))+(kA.get t))+((zB b.l 64).get t))+((((rr (x.get 0) 2)^^^(rr (x.get 0) 13))^^^(rr (x.get 0) 22))+((((x.get 0)&&&(x.get 1))^^^((x.get 0)&&&(x.get 2)))^^^((x.get 1)&&&(x.get 2))))),(x.get 0),(x.get 1),(x.get 2),((x.get 3)+(((((x.get 7)+(((rr (x.get 4) 6)^^^(rr (x.get 4) 11))^^^(rr (x.get 4) 25)))+(((x.get 4)&&&(x.get 5))^^^((~~~(x.get 4))&&&(x.get 6))))+(kA.get t))+((zB b.l 64).get t))),(x.get 4),(x.get 5),(x.get 6)],rfl⟩) hK4 (by rw [zbO];kernel_rfl) (by first |(simp;done)|(simp;omega)) (zdL _) ?_)
  intro w11 hBw11 hCw11
  have hzw11:=hCw11.size
  rw [show (zU (w8C x) 0 (w8C ⟨[((((((x.get 7)+(((rr (x.get 4) 6)^^^(rr (x.get 4) 11))^^^(rr (x.get 4) 25)))+(((x.get 4)&&&(x.get 5))^^^((~~~(x.get 4))&&&(x.get 6))))+(kA.get t))+((zB b.l 64).get t))+((((rr (x.get 0) 2)^^^(rr (x.get 0) 13))^^^(rr (x.get 0) 22))+((((x.get 0)&&&(x.get 1))^^^((x.get 0)&&&(x.get 2)))^^^((x.get 1)&&&(x.get 2))))),(x.get 0),(x.get 1),(x.get 2),((x.get 3)+(((((x.get 7)+(((rr (x.get 4) 6)^^^(rr (x.get 4) 11))^^^(rr (x.get 4) 25)))+(((x.get 4)&&&(x.get 5))^^^((~~~(x.get 4))&&&(x.get 6))))+(kA.get t))+((zB b.l 64).get t))),(x.get 4),(x.get 5),(x.get 6)],rfl⟩):List Value)=w8C (rnd x (kA.get t) ((zB b.l 64).get t)) from (zy _ _ (by simp)).trans rfl] at hBw11
  refine zf (zi (zb (zd (za (zn (some 98) .i64 (IntKind.i64.wrap (((t:Nat):Int)+((1:Nat):Int))) (t+1) (zu) ?_)))))
  refine zc 1 [(18,(vI (t+1)))] (zf (zz ?_))
  have hK5:=((((hA.ext hEw8).ext hEw9).ext hEw10).chg hCw11)
  have hK6:=((((hB.ext hEw8).ext hEw9).ext hEw10).chg hCw11)
  have hK7:=((((hZ4.ext hEw8).ext hEw9).ext hEw10).chg hCw11)
  have hX2:Ext w w11:=(Ext.own (((hEl.trans hEw8).trans hEw9).trans hEw10) hCw11 (by omega))
  refine zL (t+1,rnd x (kA.get t) ((zB b.l 64).get t)) ?_ ?_
  ·exact ⟨by omega,by rw [zeR,←hx],hK5,hK6,hBw11,hK7,hX2⟩
  ·first | omega |(dsimp only;omega)
 ·replace hc19:¬(t<64):=by have:=zad hc19;omega
  refine zf (zb (ze (zh (zP (zp (zp (zF (zb (ze ?_)))))))))
  refine ze (zd (zc 1 [(99,(vI 0))] (zf (zb (zr ?_)))))
  obtain rfl:t=64:=by omega
  refine zW (X:=Nat) (fun i=> [(99,(vI i))]) [13,100,101,102,103,104,105,106,107,108,109,110] (fun i w12=>i≤8∧Blk w12 w.heap.size (w8C (zdk h x i)) 168∧Blk w12 w5.heap.size (w8C x) 168∧Blk w12 w2.heap.size (w8C (WA.zero 8)) 168∧Ext w w12) (fun i=>8-i) 0 (by kernel_rfl) ⟨by omega,(zoY h x).symm▸hA,hD,hZ4,hEl⟩ ?_
  rintro i dw12 w12 ⟨hi,hA2,hD2,hZ42,hEm⟩
  have hzm:=hEm.size
  have hlthA2:=hA2.lt
  have hlthD2:=hD2.lt
  have hlthZ42:=hZ42.lt
  refine ze (zd (za (zE (some 100) (decide (((i:Nat):Int)<((8:Nat):Int))) (fun hc100=> ?_) (fun hc100=> ?_))))
  ·replace hc100:i<8:=by have:=zac hc100;omega
   refine zf (zb (ze (zv (zo (zb (ze (zr (ze (zd ?_)))))))))
   refine zc 2 [(13,(vI i)),(101,(vI i))] (zf (zb (zaa 9 (fun w13 hEw13 hzw13 hT221=> ?_))))
   refine zg hT221 [(0,102,(vI i))] 1 (zaP hT221 1 w.heap.size 0 i 8 1 (zt hT221 2 w.heap.size (0+i*1) (fun w' hC=>(((hA2.ext hEw13).ext hC).cell (zaR i (by omega)))) (zg hT221 [(3,105,(vI i))] 1 (zaP hT221 4 w5.heap.size 0 i 8 1 (zt hT221 5 w5.heap.size (0+i*1) (fun w' hC=>(((hD2.ext hEw13).ext hC).cell (zaR i (by omega)))) (zk hT221 6 (vW ((((zdk h x i).get i)+(x.get i)).toNat)) (zY .u32 _ (zbl ((zdk h x i).get i) (x.get i))) (zaP hT221 7 w.heap.size 0 i 8 1 (zx 8 (zak 53 w.heap.size (0+i*1) 168 (vW ((((zdk h x i).get i)+(x.get i)).toNat)) (w8C (zdk h x i)) (hA2.ext hEw13) (by first | decide |(simp;done)|(simp;omega)) ?_)))))))))
   intro w14 hBw14 hCw14
   have hzw14:=hCw14.size
   rw [show ((w8C (zdk h x i)).set (0+i*1) (vW ((((zdk h x i).get i)+(x.get i)).toNat)):List Value)=w8C ((zdk h x i).set i (((zdk h x i).get i)+(x.get i))) from ztP i (((zdk h x i).get i)+(x.get i))] at hBw14
   refine ⟨.inl (by kernel_rfl), ?_⟩
   refine zD (zi (zb (zd (za (zn (some 110) .i64 (IntKind.i64.wrap (((i:Nat):Int)+((1:Nat):Int))) (i+1) (zu) ?_)))))
   refine zc 1 [(99,(vI (i+1)))] (zf (zz (zL (i+1) ?_ ?_)))
   ·exact ⟨by omega,zpR (h:=h) (x:=x) (i:=i) (by omega)▸hBw14,((hD2.ext hEw13).chg hCw14),((hZ42.ext hEw13).chg hCw14),(Ext.own (hEm.trans hEw13) hCw14 (by omega))⟩
   ·first | omega |(dsimp only;omega)
  ·replace hc100:¬(i<8):=by have:=zad hc100;omega
   refine zf (zb (ze (zh (zP (zp (zp (zF (zb (ze ?_)))))))))
   refine zd (za (zS w.heap.size 0 (hA2.all) (zbO _) ?_))
   refine za (zG 168 w2.heap.size 0 168 (vA (w8C (zdk h x i))) (w8C (WA.zero 8)) (w8C (zdk h x i)) hZ42 (by rw [zbO];kernel_rfl) (by first |(simp;done)|(simp;omega)) (zdL _) ?_)
   intro w15 hBw15 hCw15
   have hzw15:=hCw15.size
   rw [zy _ _ (by simp)] at hBw15
   refine zf (zb (zj (zaI (show zX Tryz.prog 112 _ _ (.cell 4 168) (vA (w8C (zdk h x i))) from ⟨⟨w2.heap.size,0,none⟩,(by kernel_rfl),zI (T:=168) (vs:=w8C (zdk h x i)) (hBw15).all (by rw [zbO];kernel_rfl)⟩) ?_)))
   obtain rfl:i=8:=by omega
   exact ⟨by rw [hx];rfl,(Ext.own hEm hCw15 (by omega))⟩
end Go.Proofs.YtkmhgepdhilllaaGreatDoor
