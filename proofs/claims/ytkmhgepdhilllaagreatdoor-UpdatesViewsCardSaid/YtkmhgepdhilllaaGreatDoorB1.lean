/- Lemmas and walks: what each function does, by its own code. No condition beyond those of each statement. -/
import Derived.Test.YtkmhgepdhilllaaGreatDoorT2
import Derived.Test.YtkmhgepdhilllaaGreatDoorProg
set_option linter.all false
set_option linter.unusedVariables false
namespace Go.Proofs.YtkmhgepdhilllaaGreatDoor
open Go Go.RowKit Go.Cs
set_option maxRecDepth 100000
theorem zrn (v:Nat) (sz:Nat) (w:World) (hp0:sz≤8):
  Calls Tryz.prog 132 #[(vQ v),(vI sz)] w (Ret fun r w'=>∃a0,r=(.slice a0 sz sz)∧Bs w.heap.size w'.heap.size w' a0 sz sz (be v sz)∧Ext w w'):=by
 refine zD (n:=26) (σ:= [(0,(vQ v)),(1,(vI sz))]) Tryz.func132 rfl ?_
 refine ze (zd (zc 1 [(4,(.slice none 0 0))] (zf (zb (ze (zd (zc 1 [(7,(vI sz))] (za (zcx (some 8) 23 5 1 1 sz sz .i64 .i64 (vB 0) (by omega) (by omega) (by omega) ?_)))))))))
 rw [zd4 _ rfl]
 intro w1 hBw1 hEw1
 have hzw1:=hEw1.size;have hlw1:=hBw1.lt
 have hSw1:Bs w.heap.size (w.heap.size+1) w1 (pA w.heap.size 0) sz sz (List.replicate sz 0):=Bs.of_blk hBw1 (ze1 _) (by simp) (Nat.le_refl _) (by simp only [maxLen];omega) (Nat.le_refl _) (Nat.lt_succ_self _)
 refine zc 1 [(5,(.slice (pA w.heap.size 0) sz sz))] (zf (zb (ze (ze (zd (zc 2 [(10,(vI 0)),(9,(vI sz))] (zf (zb (zr ?_)))))))))
 refine zU (X:=Nat) (fun i=> [(10,(vI i))]) [6,11,12,13,14,15,16,17,18,19,20,21,22,23,24] (fun i w2=>i≤sz∧Blk w2 w.heap.size (u8s (zc7 sz (fun j=>decide (sz-1-j<i)) fun j=>UInt8.ofNat (v/256^(sz-1-j)))) 5∧Ext w w2) (fun i=>sz-i) 0 (by kernel_rfl) ⟨by omega,(by rw [zhb _ _ _ (by intro j hj;simp)];rw [←ze1];exact hBw1),hEw1⟩ ?_
 rintro i dw2 w2 ⟨hi,hBl,hEl⟩
 have hzl:=hEl.size;have hll:=hBl.lt
 refine ze (zd (za (zF (some 11) (decide (((i:Nat):Int)<((sz:Nat):Int))) (fun hc11=> ?_) (fun hc11=> ?_))))
 ·replace hc11:i<sz:=by have:=zac hc11;omega
  refine zf (zb (ze (zv (zk (zb (ze (zr (ze (zd ?_)))))))))
  refine zc 2 [(6,(vI i)),(12,(vI i))] (zf (zb (zd (zc 2 [(14,(vI sz)),(13,(.slice (pA w.heap.size 0) sz sz))] (za (zo (some 15) .i64 (IntKind.i64.wrap (((sz:Nat):Int)-((1:Nat):Int))) (sz-1) (zu) ?_))))))
  refine zc 1 [(16,(vI i))] (za (zo (some 17) .i64 (IntKind.i64.wrap (((sz-1:Nat):Int)-((i:Nat):Int))) (sz-1-i) (zu) ?_))
  refine zc 2 [(19,(vI i)),(18,(vQ v))] (za (zo (some 20) .i64 (IntKind.i64.wrap (((8:Nat):Int)*((i:Nat):Int))) (8*i) (zu) ?_))
  refine za (zaM (do eqGuard .shr 54 (.tmp 18) (.tmp 20) (.int .u64 ((v:Nat):Int)) (.int .i64 ((8*i:Nat):Int));binOp .shr 54 (.int .u64 ((v:Nat):Int)) (.int .i64 ((8*i:Nat):Int))) (vQ (v/2^(8*i))) (zjf (by show _≤64;omega)) ?_)
  refine za (zo (some 22) .u8 (IntKind.u8.wrap ((v/2^(8*i):Nat):Int)) ((v/2^(8*i))%2^8) (zcj rfl rfl) ?_)
  refine za (zah w.heap.size 0 sz sz (sz-1-i) 1 ?_)
  refine za (zaj 5 w.heap.size (0+(sz-1-i)*1) 5 (vB ((v/2^(8*i))%2^8)) (u8s (zc7 sz (fun j=>decide (sz-1-j<i)) fun j=>UInt8.ofNat (v/256^(sz-1-j)))) hBl (by simp;omega) ?_)
  intro w3 hBw3 hCw3
  have hzw3:=hCw3.size
  rw [show ((u8s (zc7 sz (fun j=>decide (sz-1-j<i)) fun j=>UInt8.ofNat (v/256^(sz-1-j)))).set (0+(sz-1-i)*1) (vB ((v/2^(8*i))%2^8)):List Value)=u8s (zc7 sz (fun j=>decide (sz-1-j<i+1)) fun j=>UInt8.ofNat (v/256^(sz-1-j))) from by have hx:=zih sz (fun j=>decide (sz-1-j<i)) (fun j=>decide (sz-1-j<i+1)) (fun j=>UInt8.ofNat (v/256^(sz-1-j))) (sz-1-i) (UInt8.ofNat (v/2^(8*i))) (by omega) (by first |(rw [zhe];congr 3;omega)|(rw [zkX,show sz-1-(sz-1-i)=i from by omega])) (by intro j hj;by_cases h1:sz-1-j<i+1<;>by_cases h2:sz-1-j<i<;>by_cases h3:j=sz-1-i<;>simp [h1,h2,h3]<;>omega);rw [UInt8.toNat_ofNat'] at hx;first |(simpa only [Nat.zero_add,Nat.mul_one] using hx)|(rw [show v/256^i%256%2^8=v/256^i%256 from by omega] at hx;simpa only [Nat.zero_add,Nat.mul_one] using hx)] at hBw3
  refine zf (zi (zb (zd (za (zo (some 24) .i64 (IntKind.i64.wrap (((i:Nat):Int)+((1:Nat):Int))) (i+1) (zu) ?_)))))
  refine zc 1 [(10,(vI (i+1)))] (zf (zz (zL (i+1) ?_ ?_)))
  ·exact ⟨by omega,hBw3,(Ext.own hEl hCw3 (by omega))⟩
  ·first | omega |(dsimp only;omega)
 ·replace hc11:¬(i<sz):=by have:=zad hc11;omega
  refine zf (zb (ze (zh (zP (zq (zq (zH (zb (ze ?_)))))))))
  refine zd (zc 2 [(4,(.slice (pA w.heap.size 0) sz sz)),(25,(.slice (pA w.heap.size 0) sz sz))] (zf (zb (zj (zl (.slice (pA w.heap.size 0) sz sz) (⟨_,rfl,Bs.of_blk hBl ?_ (by simp) (by omega) (by simp only [maxLen];omega) (by omega) (by omega),hEl⟩))))))
  rw [zis _ _ _ (by intro j hj;simp;omega)];rfl
theorem zoC (v:Nat) (sz:Nat) (w:World) (hp0:sz≤8) (hp1:v<2^64):
  Calls Tryz.prog 126 #[(vQ v),(vI sz)] w (Ret fun r w'=>∃a0,r=(.slice (pA a0 0) sz sz)∧w.heap.size≤a0∧Blk w' a0 (u8s (be v sz)) 5∧sz=(be v sz).length∧sz≤1099511627776∧Ext w w'):=by
 refine zD (n:=24) (σ:= [(0,(vQ v)),(1,(vI sz))]) Tryz.func126 rfl ?_
 refine ze (zd (zc 1 [(4,(.slice none 0 0))] (zf (zb (ze (zd (zc 1 [(7,(vI sz))] (za (zcx (some 8) 23 5 1 1 sz sz .i64 .i64 (vB 0) (by omega) (by omega) (by omega) ?_)))))))))
 rw [zd4 _ rfl]
 intro w1 hBw1 hEw1
 have hzw1:=hEw1.size;have hlw1:=hBw1.lt
 have hSw1:Bs w.heap.size (w.heap.size+1) w1 (pA w.heap.size 0) sz sz (List.replicate sz 0):=Bs.of_blk hBw1 (ze1 _) (by simp) (Nat.le_refl _) (by simp only [maxLen];omega) (Nat.le_refl _) (Nat.lt_succ_self _)
 refine zc 1 [(5,(.slice (pA w.heap.size 0) sz sz))] (zf (zb (ze (ze (zd (zc 1 [(9,(vI sz))] (za (zhW (some 10) .i64 (IntKind.i64.wrap (((sz:Nat):Int)-((1:Nat):Int))) ((sz:Int)-1) (zu rfl) ?_))))))))
 refine zc 1 [(6,(.int .i64 ((sz:Int)-1)))] (zf (zb (zr (zU (X:=Nat) (fun i=> [(0,(vQ (v/256^i))),(6,(.int .i64 ((sz:Int)-1-(i:Int))))]) [11,12,13,14,15,16,17,18,19,20,21,22] (fun i w2=>i≤sz∧Blk w2 w.heap.size (u8s (zc7 sz (fun j=>decide (sz-1-j<i)) fun j=>UInt8.ofNat (v/256^(sz-1-j)))) 5∧Ext w w2) (fun i=>sz-i) 0 (by rw [Nat.pow_zero,Nat.div_one,show (sz:Int)-1-((0:Nat):Int)=(sz:Int)-1 from by omega];kernel_rfl) ⟨by omega,(by rw [zhb _ _ _ (by intro j hj;simp)];rw [←ze1];exact hBw1),hEw1⟩ ?_))))
 rintro i dw2 w2 ⟨hi,hBl,hEl⟩
 have hzl:=hEl.size;have hll:=hBl.lt
 refine ze (ze (zd (zc 1 [(11,(.int .i64 ((sz:Int)-1-(i:Int))))] (za (zF (some 12) (decide ((sz:Int)-1-(i:Int)≥((0:Nat):Int))) (fun hc=> ?_) (fun hc=> ?_))))))
 ·replace hc:i<sz:=by have:=zac hc;omega
  have hidx:(sz:Int)-1-(i:Int)=((sz-1-i:Nat):Int):=by omega
  refine zf (zb (zv (zk (zb (ze (zr (ze (zd (zc 3 [(17,(vQ (v/256^i))),(16,(.int .i64 ((sz:Int)-1-(i:Int)))),(15,(.slice (pA w.heap.size 0) sz sz))] ?_)))))))))
  refine za (zo (some 18) .u64 (((v/256^i:Nat):Int).tmod ((256:Nat):Int)) ((v/256^i)%256) (zcZ _ _) ?_)
  refine za (zo (some 19) .u8 (IntKind.u8.wrap (((v/256^i)%256:Nat):Int)) (((v/256^i)%256)%2^8) (zcj rfl rfl) ?_)
  refine za (zaM (Instr.indexAt 23 (.slice (pA w.heap.size 0) sz sz) (.int .i64 ((sz:Int)-1-(i:Int)))) (vP w.heap.size (0+(sz-1-i)*1)) (by rw [hidx];exact zlh (E:=5) (sz:=1)) ?_)
  refine za (zaj 5 w.heap.size (0+(sz-1-i)*1) 5 (vB (((v/256^i)%256)%2^8)) (u8s (zc7 sz (fun j=>decide (sz-1-j<i)) fun j=>UInt8.ofNat (v/256^(sz-1-j)))) hBl (by simp;omega) ?_)
  intro w3 hBw3 hCw3
  have hzw3:=hCw3.size
  rw [show ((u8s (zc7 sz (fun j=>decide (sz-1-j<i)) fun j=>UInt8.ofNat (v/256^(sz-1-j)))).set (0+(sz-1-i)*1) (vB (((v/256^i)%256)%2^8)):List Value)=u8s (zc7 sz (fun j=>decide (sz-1-j<i+1)) fun j=>UInt8.ofNat (v/256^(sz-1-j))) from by have hx:=zih sz (fun j=>decide (sz-1-j<i)) (fun j=>decide (sz-1-j<i+1)) (fun j=>UInt8.ofNat (v/256^(sz-1-j))) (sz-1-i) (UInt8.ofNat (v/256^i%256)) (by omega) (by first |(rw [zhe];congr 3;omega)|(rw [zkX,show sz-1-(sz-1-i)=i from by omega])) (by intro j hj;by_cases h1:sz-1-j<i+1<;>by_cases h2:sz-1-j<i<;>by_cases h3:j=sz-1-i<;>simp [h1,h2,h3]<;>omega);rw [UInt8.toNat_ofNat'] at hx;first |(simpa only [Nat.zero_add,Nat.mul_one] using hx)|(rw [show v/256^i%256%2^8=v/256^i%256 from by omega] at hx;simpa only [Nat.zero_add,Nat.mul_one] using hx)] at hBw3
  refine zf (zb (zd (zc 1 [(21,(vQ (v/256^i)))] (za (zo (some 22) .u64 (IntKind.u64.wrap ((((v/256^i:Nat):Int)).tdiv ((256:Nat):Int))) (v/256^(i+1)) (zbz rfl (by rw [zec,Nat.div_div_eq_div_mul,Nat.pow_succ]) (by show _<2^64;exact Nat.lt_of_le_of_lt (Nat.div_le_self _ _) hp1)) ?_)))))
  refine zc 1 [(0,(vQ (v/256^(i+1))))] (zf (zi (zb (zd (zc 1 [(13,(.int .i64 ((sz:Int)-1-(i:Int))))] (za (zhW (some 14) .i64 (IntKind.i64.wrap ((sz:Int)-1-(i:Int)-((1:Nat):Int))) ((sz:Int)-1-((i+1:Nat):Int)) (zu) ?_)))))))
  refine zc 1 [(6,(.int .i64 ((sz:Int)-1-((i+1:Nat):Int))))] (zf (zz (zL (i+1) ?_ ?_)))
  ·exact ⟨by omega,hBw3,(Ext.own hEl hCw3 (by omega))⟩
  ·first | omega |(dsimp only;omega)
 ·replace hc:¬i<sz:=by have:=zad hc;omega
  refine zf (zb (zh (zP (zq (zq (zH (zb (ze (zd ?_)))))))))
  refine zc 2 [(4,(.slice (pA w.heap.size 0) sz sz)),(23,(.slice (pA w.heap.size 0) sz sz))] (zf (zb (zj (zl (.slice (pA w.heap.size 0) sz sz) ?_))))
  have hBf:=hBl
  rw [zis _ _ _ (by intro j hj;simp;omega)] at hBf
  exact ⟨_,rfl,Nat.le_refl _,hBf,by simp,by omega,hEl⟩
theorem zmw (v:Nat) (w:World):
  Calls Tryz.prog 136 #[(vQ v)] w (Ret fun r w'=>∃a0,r=(.slice a0 8 8)∧Bs w.heap.size w'.heap.size w' a0 8 8 (be v 8)∧Ext w w'):=by
 refine zD (n:=5) (σ:= [(0,(vQ v))]) Tryz.func136 rfl ?_
 refine ze (zd (zc 1 [(2,(.slice none 0 0))] (zf (zb (ze (zd (zc 1 [(3,(vQ v))] (za (zp (zrn v 8 _ (by omega)) ?_)))))))))
 rintro _ w1 ⟨a1,rfl,hFz1_0,hEw1⟩
 have hzw1:=hEw1.size
 exact zc 1 [(2,(.slice a1 8 8))] (zf (zb (zj (zl (.slice a1 8 8) (⟨_,rfl,hFz1_0,hEw1⟩)))))
theorem zfM (v:Nat) (w:World) (hp0:v<2^32):
  Calls Tryz.prog 111 #[(vW v)] w (Ret fun r w'=>∃a0,r=(.slice a0 4 4)∧Bs w.heap.size w'.heap.size w' a0 4 4 (be v 4)∧Ext w w'):=by
 refine zD (n:=6) (σ:= [(0,(vW v))]) Tryz.func111 rfl ?_
 refine ze (zd (zc 1 [(2,(.slice none 0 0))] (zf (zb (ze (zd (zc 1 [(3,(vW v))] (za (zo (some 4) .u64 (IntKind.u64.wrap ((v:Nat):Int)) v (zbz rfl rfl (by show _<2^64;omega)) ?_)))))))))
 refine za (zp (zrn v 4 _ (by omega)) ?_)
 rintro _ w1 ⟨a1,rfl,hFz1_0,hEw1⟩
 have hzw1:=hEw1.size
 exact zc 1 [(2,(.slice a1 4 4))] (zf (zb (zj (zl (.slice a1 4 4) (⟨_,rfl,hFz1_0,hEw1⟩)))))
theorem zlb (v:Nat) (w:World) (hp0:v<2^64):
  Calls Tryz.prog 99 #[(vQ v)] w (Ret fun r w'=>∃a0,r=(.slice (pA a0 0) 8 8)∧w.heap.size≤a0∧Blk w' a0 (u8s (be v 8)) 5∧8=(be v 8).length∧8≤1099511627776∧Ext w w'):=by
 refine zD (n:=5) (σ:= [(0,(vQ v))]) Tryz.func99 rfl ?_
 refine ze (zd (zc 1 [(2,(.slice none 0 0))] (zf (zb (ze (zd (zc 1 [(3,(vQ v))] (za (zp (zoC v 8 _ (by omega) (by omega)) ?_)))))))))
 rintro _ w1 ⟨a1,rfl,hFz1_0,hFz1_1,hFz1_2,hFz1_3,hEw1⟩
 have hzw1:=hEw1.size
 have hla1:=hFz1_1.lt;have hna1:=hFz1_3
 have hSa1:Bs a1 (a1+1) w1 (pA a1 0) 8 8 (be v 8):=Bs.of_blk hFz1_1 rfl hFz1_2 (Nat.le_refl _) (zct hna1) (Nat.le_refl _) (Nat.lt_succ_self _)
 exact zc 1 [(2,(.slice (pA a1 0) 8 8))] (zf (zb (zj (zl (.slice (pA a1 0) 8 8) (⟨_,rfl,by omega,hFz1_1,by simp,by omega,hEw1⟩)))))
theorem zlT (v:Nat) (w:World) (hp0:v<2^32):
  Calls Tryz.prog 102 #[(vW v)] w (Ret fun r w'=>∃a0,r=(.slice (pA a0 0) 4 4)∧w.heap.size≤a0∧Blk w' a0 (u8s (be v 4)) 5∧4=(be v 4).length∧4≤1099511627776∧Ext w w'):=by
 refine zD (n:=6) (σ:= [(0,(vW v))]) Tryz.func102 rfl ?_
 refine ze (zd (zc 1 [(2,(.slice none 0 0))] (zf (zb (ze (zd (zc 1 [(3,(vW v))] (za (zo (some 4) .u64 (IntKind.u64.wrap ((v:Nat):Int)) v (zbz rfl rfl (by show _<2^64;omega)) ?_)))))))))
 refine za (zp (zoC v 4 _ (by omega) (by omega)) ?_)
 rintro _ w1 ⟨a1,rfl,hFz1_0,hFz1_1,hFz1_2,hFz1_3,hEw1⟩
 have hzw1:=hEw1.size
 have hla1:=hFz1_1.lt;have hna1:=hFz1_3
 have hSa1:Bs a1 (a1+1) w1 (pA a1 0) 4 4 (be v 4):=Bs.of_blk hFz1_1 rfl hFz1_2 (Nat.le_refl _) (zct hna1) (Nat.le_refl _) (Nat.lt_succ_self _)
 exact zc 1 [(2,(.slice (pA a1 0) 4 4))] (zf (zb (zj (zl (.slice (pA a1 0) 4 4) (⟨_,rfl,by omega,hFz1_1,by simp,by omega,hEw1⟩)))))
theorem zuL {lo_l hi_l:Nat} {a_l:Option Addr} {n_l c_l:Nat} {l:List UInt8} (sz:Nat) (w:World) (h_l:Bs lo_l hi_l w a_l n_l c_l l) (hp0:sz≤8):
  Calls Tryz.prog 151 #[(.slice a_l n_l c_l),(vI sz)] w (Ret fun r w'=>r=(.tuple #[(vQ (za0 l sz)),(vI (zcI l sz))])∧w=w'):=by
 refine zD (n:=32) (σ:= [(0,(.slice a_l n_l c_l)),(1,(vI sz))]) Tryz.func151 rfl ?_
 replace h_l:=h_l.now;have hle_l:=h_l.le
 refine ze (zd (zc 2 [(5,(vI 0)),(4,(vQ 0))] (zf (zb (ze (zr (ze (zd (zc 3 [(12,(vI sz)),(11,(vI n_l)),(10,(.slice a_l n_l c_l))] ?_)))))))))
 refine za (zF (some 13) (decide (((n_l:Nat):Int)<((sz:Nat):Int))) (fun hc13=> ?_) (fun hc13=> ?_))
 ·replace hc13:n_l<sz:=by have:=zac hc13;omega
  refine zc 1 [(9,vT)] (zf (zb (zv (ze (zd (zc 2 [(5,(vI 6)),(4,(vQ 0))] (zf (zb (zj ?_)))))))))
  exact zB (zw (zl (.tuple #[(vQ 0),(vI 6)]) (⟨by rw [zhO (by have:=h_l.len_eq;omega),ziR (by have:=h_l.len_eq;omega)],rfl⟩)))
 ·replace hc13:¬(n_l<sz):=by have:=zad hc13;omega
  refine zc 1 [(9,vF)] (zf (zb (zh (ze (zd (zc 3 [(17,(vI sz)),(16,(vI n_l)),(15,(.slice a_l n_l c_l))] (za (zF (some 18) (decide (((n_l:Nat):Int)>((sz:Nat):Int))) (fun hc18=> ?_) (fun hc18=> ?_)))))))))
  ·replace hc18:n_l>sz:=by have:=zac hc18;omega
   refine zc 1 [(14,vT)] (zf (zb (zv (ze (zd (zc 2 [(5,(vI 5)),(4,(vQ 0))] (zf (zb (zj ?_)))))))))
   exact zB (zw (zl (.tuple #[(vQ 0),(vI 5)]) (⟨by rw [zhO (by have:=h_l.len_eq;omega),zj7 (by have:=h_l.len_eq;omega)],rfl⟩)))
  ·replace hc18:¬(n_l>sz):=by have:=zad hc18;omega
   refine zc 1 [(14,vF)] (zf (zb (zh (zk (zi (zb (ze (zd (zc 1 [(6,(vQ 0))] ?_)))))))))
   refine zf (zb (ze (ze (zd (zc 3 [(21,(vI 0)),(20,(vI n_l)),(19,(.slice a_l n_l c_l))] (zf (zb (zr (zU (X:=Nat) (fun i=> [(6,(vQ (zbK (l.take i)))),(21,(vI i))]) [8,22,23,24,25,26,27,28,29,30] (fun i w1=>w=w1∧i≤sz) (fun i=>sz-i) 0 (by rw [List.take_zero];kernel_rfl) ⟨rfl,by omega⟩ ?_)))))))))
   rintro i dw1 w1 ⟨rfl,hi⟩
   have hlen:=h_l.len_eq
   refine ze (zd (za (zF (some 22) (decide (((i:Nat):Int)<((n_l:Nat):Int))) (fun hc22=> ?_) (fun hc22=> ?_))))
   ·replace hc22:i<n_l:=by have:=zac hc22;omega
    have hb1:=zeQ l i
    have hb2:zbK (l.take i)*256+255<2^64:=zhs (by omega)
    refine zf (zb (ze (zv (zk (zb (ze (zr (ze (zd ?_)))))))))
    obtain ⟨b1,o1,rfl⟩:=h_l.addr (by omega)
    refine za (zah b1 o1 n_l c_l i 1 ?_)
    refine za (zm b1 (o1+i*1) (h_l.cell1 (by omega)) ?_)
    refine zc 1 [(8,(vB (byt l i)))] (zf (zb (zd (zc 1 [(25,(vQ (zbK (l.take i))))] (za (zo (some 26) .u64 (IntKind.u64.wrap (((zbK (l.take i):Nat):Int)*2^8)) (zbK (l.take i)*256) ((ztP rfl).trans (by rw [Nat.mod_eq_of_lt (show _<2^IntKind.u64.bits from by show _<2^64;omega)])) ?_))))))
    refine zc 1 [(27,(vB (byt l i)))] (za (zo (some 28) .u64 (IntKind.u64.wrap ((byt l i:Nat):Int)) (byt l i) (zbz rfl rfl (by show _<2^64;omega)) ?_))
    refine za (zo (some 29) .u64 ((IntKind.u64.wrap ((BitVec.ofInt IntKind.u64.bits ((zbK (l.take i)*256:Nat):Int)||| BitVec.ofInt IntKind.u64.bits ((byt l i:Nat):Int)).toNat:Int))) (zbK (l.take (i+1))) ((orU .u64 rfl (by show _<2^64;omega) (by show _<2^64;omega)).trans (by rw [zr6 _ _ hb1,zhm (by omega)])) ?_)
    refine zc 1 [(6,(vQ (zbK (l.take (i+1)))))] (zf (zi (zb (zd (za (zo (some 30) .i64 (IntKind.i64.wrap (((i:Nat):Int)+((1:Nat):Int))) (i+1) (zu) ?_))))))
    refine zc 1 [(21,(vI (i+1)))] (zf (zz (zL (i+1) ?_ ?_)))
    ·exact ⟨rfl,by omega⟩
    ·first | omega |(dsimp only;omega)
   ·replace hc22:¬(i<n_l):=by have:=zad hc22;omega
    refine zf (zb (ze (zh (zP (zq (zq (zH (zb (ze ?_)))))))))
    exact zd (zc 3 [(5,(vI 0)),(4,(vQ (zbK (l.take i)))),(31,(vQ (zbK (l.take i))))] (zf (zb (zj (zl (.tuple #[(vQ (zbK (l.take i))),(vI 0)]) (⟨by rw [zgD (by have:=h_l.len_eq;omega),zhU (by have:=h_l.len_eq;omega),List.take_of_length_le (by omega)],rfl⟩))))))
theorem ztZ {lo_l hi_l:Nat} {a_l:Option Addr} {n_l c_l:Nat} {l:List UInt8} (sz:Nat) (w:World) (h_l:Bs lo_l hi_l w a_l n_l c_l l) (hp0:sz≤8):
  Calls Tryz.prog 127 #[(.slice a_l n_l c_l),(vI sz)] w (Ret fun r w'=>r=(.tuple #[(vQ (za0 l sz)),(vI (zcI l sz))])∧w=w'):=by
 refine zD (n:=30) (σ:= [(0,(.slice a_l n_l c_l)),(1,(vI sz))]) Tryz.func127 rfl ?_
 replace h_l:=h_l.now;have hle_l:=h_l.le
 refine ze (zd (zc 2 [(5,(vI 0)),(4,(vQ 0))] (zf (zb (ze (ze (zd (zc 3 [(10,(vI sz)),(9,(vI n_l)),(8,(.slice a_l n_l c_l))] (za (zF (some 11) (decide (((n_l:Nat):Int)<((sz:Nat):Int))) (fun hc11=> ?_) (fun hc11=> ?_)))))))))))
 ·replace hc11:n_l<sz:=by have:=zac hc11;omega
  refine zf (zb (zv (ze (zd (zc 2 [(5,(vI 6)),(4,(vQ 0))] (zf (zb (zj (zw ?_)))))))))
  exact zl (.tuple #[(vQ 0),(vI 6)]) (⟨by rw [zhO (by have:=h_l.len_eq;omega),ziR (by have:=h_l.len_eq;omega)],rfl⟩)
 ·replace hc11:¬(n_l<sz):=by have:=zad hc11;omega
  refine zf (zb (zh (zk (zb (ze (ze (zd (zc 3 [(14,(vI sz)),(13,(vI n_l)),(12,(.slice a_l n_l c_l))] (za (zF (some 15) (decide (((n_l:Nat):Int)>((sz:Nat):Int))) (fun hc15=> ?_) (fun hc15=> ?_)))))))))))
  ·replace hc15:n_l>sz:=by have:=zac hc15;omega
   refine zf (zb (zv (ze (zd (zc 2 [(5,(vI 5)),(4,(vQ 0))] (zf (zb (zj (zw ?_)))))))))
   exact zl (.tuple #[(vQ 0),(vI 5)]) (⟨by rw [zhO (by have:=h_l.len_eq;omega),zj7 (by have:=h_l.len_eq;omega)],rfl⟩)
  ·replace hc15:¬(n_l>sz):=by have:=zad hc15;omega
   refine zf (zb (zh (zk (zb (ze (zd (zc 1 [(6,(vQ 0))] (zf (zb ?_)))))))))
   refine ze (ze (zd (zc 1 [(7,(vI 0))] (zf (zb (zr (zU (X:=Nat) (fun i=> [(6,(vQ (zbK (l.take i)))),(7,(vI i))]) [16,17,18,19,20,21,22,23,24,25,26,27,28] (fun i w1=>w=w1∧i≤sz) (fun i=>sz-i) 0 (by rw [List.take_zero];kernel_rfl) ⟨rfl,by omega⟩ ?_)))))))
   rintro i dw1 w1 ⟨rfl,hi⟩
   have hlen:=h_l.len_eq
   refine ze (ze (zd (zc 2 [(17,(vI sz)),(16,(vI i))] (za (zF (some 18) (decide (((i:Nat):Int)<((sz:Nat):Int))) (fun hc18=> ?_) (fun hc18=> ?_))))))
   ·replace hc18:i<sz:=by have:=zac hc18;omega
    have hb1:=zeQ l i
    have hb2:zbK (l.take i)*256+255<2^64:=zhs (by omega)
    refine zf (zb (zv (zk (zb (ze (zr (zd (zc 1 [(21,(vQ (zbK (l.take i))))] (za (zo (some 22) .u64 (IntKind.u64.wrap (((zbK (l.take i):Nat):Int)*((256:Nat):Int))) (zbK (l.take i)*256) (zbz rfl (by simp) (by show _<2^64;omega)) ?_))))))))))
    refine zc 2 [(24,(vI i)),(23,(.slice a_l n_l c_l))] ?_
    obtain ⟨b1,o1,rfl⟩:=h_l.addr (by omega)
    refine za (zah b1 o1 n_l c_l i 1 ?_)
    refine za (zm b1 (o1+i*1) (h_l.cell1 (by omega)) ?_)
    refine za (zo (some 27) .u64 (IntKind.u64.wrap ((byt l i:Nat):Int)) (byt l i) (zbz rfl rfl (by show _<2^64;omega)) ?_)
    refine za (zo (some 28) .u64 (IntKind.u64.wrap (((zbK (l.take i)*256:Nat):Int)+((byt l i:Nat):Int))) (zbK (l.take (i+1))) (zbz rfl (by rw [zhm (by omega)];omega) (by rw [zhm (by omega)];show _<2^64;omega)) ?_)
    refine zc 1 [(6,(vQ (zbK (l.take (i+1)))))] (zf (zi (zb (zd (zc 1 [(19,(vI i))] (za (zo (some 20) .i64 (IntKind.i64.wrap (((i:Nat):Int)+((1:Nat):Int))) (i+1) (zu) ?_)))))))
    refine zc 1 [(7,(vI (i+1)))] (zf (zz (zL (i+1) ?_ ?_)))
    ·exact ⟨rfl,by omega⟩
    ·first | omega |(dsimp only;omega)
   ·replace hc18:¬(i<sz):=by have:=zad hc18;omega
    refine zf (zb (zh (zP (zq (zq (zH (zb (ze (zd ?_)))))))))
    exact zc 3 [(5,(vI 0)),(4,(vQ (zbK (l.take i)))),(29,(vQ (zbK (l.take i))))] (zf (zb (zj (zl (.tuple #[(vQ (zbK (l.take i))),(vI 0)]) (⟨by rw [zgD (by have:=h_l.len_eq;omega),zhU (by have:=h_l.len_eq;omega),List.take_of_length_le (by omega)],rfl⟩)))))
theorem zsx {lo_l hi_l:Nat} {a_l:Option Addr} {n_l c_l:Nat} {l:List UInt8} (w:World) (h_l:Bs lo_l hi_l w a_l n_l c_l l):
  Calls Tryz.prog 149 #[(.slice a_l n_l c_l)] w (Ret fun r w'=>r=(.tuple #[(vW (za0 l 4)),(vI (zcI l 4))])∧w=w'):=by
 refine zD (n:=14) (σ:= [(0,(.slice a_l n_l c_l))]) Tryz.func149 rfl ?_
 replace h_l:=h_l.now;have hle_l:=h_l.le
 refine ze (zd (zc 2 [(3,(vI 0)),(2,(vW 0))] (zf (zb (ze (zd (zc 1 [(7,(.slice a_l n_l c_l))] (za (zp (zuL 4 _ h_l (by first | omega | decide)) ?_)))))))))
 rintro _ _ ⟨rfl,rfl⟩
 refine zc 5 [(5,(vI (zcI l 4))),(4,(vQ (za0 l 4))),(10,(vI (zcI l 4))),(9,(vQ (za0 l 4))),(6,(.tuple #[(vQ (za0 l 4)),(vI (zcI l 4))]))] (zf (zb (ze (zd (zc 1 [(11,(vQ (za0 l 4)))] (za (zo (some 12) .u32 (IntKind.u32.wrap ((za0 l 4:Nat):Int)) (za0 l 4) (zbz rfl rfl (zdM l 4)) ?_)))))))
 exact zc 3 [(3,(vI (zcI l 4))),(2,(vW (za0 l 4))),(13,(vI (zcI l 4)))] (zf (zb (zj (zl (.tuple #[(vW (za0 l 4)),(vI (zcI l 4))]) (⟨rfl,rfl⟩)))))
end Go.Proofs.YtkmhgepdhilllaaGreatDoor
namespace Go.Proofs.YtkmhgepdhilllaaGreatDoor
open Go Go.RowKit Go.Cs
set_option maxRecDepth 100000
theorem zwI (v:Nat) (k:Int) (w:World) (hp0:v<2^32):
  Calls Tryz.prog 152 #[(vW v),(.int .i64 k)] w (Ret fun r w'=>r=(vW (zfo v (k%32).toNat))∧w=w'):=by
 refine zD (n:=17) (σ:= [(0,(vW v)),(1,(.int .i64 k))]) Tryz.func152 rfl ?_
 refine ze (zd (zc 1 [(4,(vW 0))] (zf (zb (ze (zd (zc 1 [(6,(.int .i64 k))] (za (zo (some 7) .u64 (IntKind.u64.wrap k) ((k%18446744073709551616).toNat) (zkG k) ?_)))))))))
 refine za (zo (some 8) .u64 ((IntKind.u64.wrap ((BitVec.ofInt IntKind.u64.bits (((k%18446744073709551616).toNat:Nat):Int)&&&BitVec.ofInt IntKind.u64.bits ((31:Nat):Int)).toNat:Int))) ((k%32).toNat) ((zv7 .u64 rfl (by show _<2^64;omega) (by show _<2^64;omega)).trans (by rw [zuU])) ?_)
 refine zc 1 [(5,(vQ ((k%32).toNat)))] (zf (zb (ze (zd (zc 2 [(10,(vQ ((k%32).toNat))),(9,(vW v))] (za (zaM (do eqGuard .shl 53 (.tmp 9) (.tmp 10) (.int .u32 ((v:Nat):Int)) (.int .u64 (((k%32).toNat:Nat):Int));binOp .shl 53 (.int .u32 ((v:Nat):Int)) (.int .u64 (((k%32).toNat:Nat):Int))) (vW (v*2^((k%32).toNat)%2^32)) (zmr rfl (by show _≤32;omega)) ?_)))))))
 refine zc 2 [(13,(vQ ((k%32).toNat))),(12,(vW v))] (za (zo (some 14) .u64 (IntKind.u64.wrap (((32:Nat):Int)-(((k%32).toNat:Nat):Int))) (32-(k%32).toNat) (zbz rfl (by omega) (by show _<2^64;omega)) ?_))
 refine za (zaM (do eqGuard .shr 53 (.tmp 12) (.tmp 14) (.int .u32 ((v:Nat):Int)) (.int .u64 ((32-(k%32).toNat:Nat):Int));binOp .shr 53 (.int .u32 ((v:Nat):Int)) (.int .u64 ((32-(k%32).toNat:Nat):Int))) (vW (v/2^(32-(k%32).toNat))) (zjf (by show _≤32;omega)) ?_)
 refine za (zo (some 16) .u32 ((IntKind.u32.wrap ((BitVec.ofInt IntKind.u32.bits ((v*2^((k%32).toNat)%2^32:Nat):Int)||| BitVec.ofInt IntKind.u32.bits ((v/2^(32-(k%32).toNat):Nat):Int)).toNat:Int))) (zfo v (k%32).toNat) (orU .u32 rfl (Nat.mod_lt _ (by decide)) (by show _<2^32;exact Nat.lt_of_le_of_lt (Nat.div_le_self _ _) hp0)) ?_)
 exact zc 1 [(4,(vW (zfo v (k%32).toNat)))] (zf (zb (zj (zl (vW (zfo v (k%32).toNat)) (⟨rfl,rfl⟩)))))
theorem zu4 (v:Nat) (n:Int) (w:World) (hp0:v<2^32):
  Calls Tryz.prog 150 #[(vW v),(.int .i64 n)] w (Ret fun r w'=>r=(vW (rot v n))∧w=w'):=by
 refine zD (n:=9) (σ:= [(0,(vW v)),(1,(.int .i64 n))]) Tryz.func150 rfl ?_
 refine ze (zd (zc 1 [(4,(vW 0))] (zf (zb (ze (zd (zc 2 [(6,(.int .i64 n)),(5,(vW v))] (za (zhW (some 7) .i64 (n.tmod ((32:Nat):Int)) (n.tmod 32) (rfl) ?_)))))))))
 refine za (zp (zwI v (n.tmod 32) _ (by omega)) ?_)
 rintro _ _ ⟨rfl,rfl⟩
 refine zc 1 [(4,(vW (zfo v ((n.tmod 32)%32).toNat)))] (zf (zb (zj (zl (vW (zfo v ((n.tmod 32)%32).toNat)) ?_))))
 have h32:=(ztM n).2.2
 rw [h32]
 exact ⟨rfl,rfl⟩
end Go.Proofs.YtkmhgepdhilllaaGreatDoor
namespace Go.Proofs.YtkmhgepdhilllaaGreatDoor
open Go Go.RowKit Go.Cs
set_option maxRecDepth 100000
theorem ziO {lo_ls hi_ls:Nat} {a_ls:Option Addr} {n_ls c_ls:Nat} {v_ls:List Value} {ls:List (List UInt8)} (w:World) (h_ls:Ps lo_ls hi_ls w a_ls n_ls c_ls v_ls ls) (hp0:zW ls≤1099511627776):
  Calls Tryz.prog 133 #[(.slice a_ls n_ls c_ls)] w (Ret fun r w'=>∃a0,r=(.slice (pA a0 0) (zW ls) (zW ls))∧w.heap.size≤a0∧Blk w' a0 (u8s ls.flatten) 5∧zW ls=(ls.flatten).length∧zW ls≤1099511627776∧Ext w w'):=by
 refine zD (n:=38) (σ:= [(0,(.slice a_ls n_ls c_ls))]) Tryz.func133 rfl ?_
 replace h_ls:=h_ls.now;have hle_ls:=h_ls.le
 refine ze (zd (zc 1 [(2,(.slice none 0 0))] (zf (zb (ze (zd (zc 1 [(3,(vI 0))] (zf (zb ?_)))))))))
 refine ze (ze (zd (zc 3 [(12,(vI 0)),(11,(vI n_ls)),(10,(.slice a_ls n_ls c_ls))] (zf (zb (zr (zU (X:=Nat) (fun i=> [(3,(vI (zW (ls.take i)))),(12,(vI i))]) [5,13,14,15,16,17,18,19,20] (fun i w1=>w=w1∧i≤n_ls) (fun i=>n_ls-i) 0 (by rw [List.take_zero];kernel_rfl) ⟨rfl,by omega⟩ ?_)))))))
 rintro i dw1 w1 ⟨rfl,hi⟩
 have hlen:=h_ls.len_eq
 have hsl:=zeH ls i
 have hsl1:=zeH ls (i+1)
 refine ze (zd (za (zF (some 13) (decide (((i:Nat):Int)<((n_ls:Nat):Int))) (fun hc13=> ?_) (fun hc13=> ?_))))
 ·replace hc13:i<n_ls:=by have:=zac hc13;omega
  have hst:=zff (ls:=ls) (i:=i) (by omega)
  refine zf (zb (ze (zv (zk (zb (ze (zr (ze (zd ?_)))))))))
  obtain ⟨b1,o1,rfl⟩:=h_ls.addr (by omega)
  refine za (zah b1 o1 n_ls c_ls i 1 ?_)
  obtain ⟨a1,n1,cp1,hP1,hS1⟩:=(h_ls).cell (i:=i) (by omega)
  have hlehS1:=hS1.le;have hlnhS1:=hS1.len_eq
  refine za (zm b1 (o1+i*1) hP1 ?_)
  refine zc 1 [(5,(.slice a1 n1 cp1))] (zf (zb (zd (zc 3 [(18,(vI n1)),(17,(.slice a1 n1 cp1)),(16,(vI (zW (ls.take i))))] (za (zo (some 19) .i64 (IntKind.i64.wrap (((zW (ls.take i):Nat):Int)+((n1:Nat):Int))) (zW (ls.take (i+1))) (zu) ?_))))))
  refine zc 1 [(3,(vI (zW (ls.take (i+1)))))] (zf (zi (zb (zd (za (zo (some 20) .i64 (IntKind.i64.wrap (((i:Nat):Int)+((1:Nat):Int))) (i+1) (zu) ?_))))))
  refine zc 1 [(12,(vI (i+1)))] (zf (zz (zL (i+1) ?_ ?_)))
  ·exact ⟨rfl,by omega⟩
  ·first | omega |(dsimp only;omega)
 ·replace hc13:¬(i<n_ls):=by have:=zad hc13;omega
  have hfin1:ls.take i=ls:=List.take_of_length_le (by omega)
  rw [hfin1]
  refine zf (zb (ze (zh (zP (zq (zq (zH (zb (ze ?_)))))))))
  refine zd (zc 1 [(21,(vI (zW (ls))))] (za (zcx (some 22) 23 5 1 1 (zW (ls)) (zW (ls)) .i64 .i64 (vB 0) (by omega) (by omega) (by omega) ?_)))
  rw [zd4 _ rfl]
  intro w2 hBw2 hEw2
  have hzw2:=hEw2.size;have hlw2:=hBw2.lt
  have hSw2:Bs w.heap.size (w.heap.size+1) w2 (pA w.heap.size 0) (zW (ls)) (zW (ls)) (List.replicate (zW (ls)) 0):=Bs.of_blk hBw2 (ze1 _) (by simp) (Nat.le_refl _) (by simp only [maxLen];omega) (Nat.le_refl _) (Nat.lt_succ_self _)
  refine zc 1 [(6,(.slice (pA w.heap.size 0) (zW (ls)) (zW (ls))))] (zf (zb (ze (zd (zc 1 [(7,(vI 0))] (zf (zb (ze (ze ?_)))))))))
  refine zd (zc 3 [(25,(vI 0)),(24,(vI n_ls)),(23,(.slice a_ls n_ls c_ls))] (zf (zb (zr (zU (X:=Nat) (fun jj=> [(7,(vI (zW (ls.take jj)))),(25,(vI jj))]) [9,26,27,28,29,30,31,32,33,34,35,36] (fun jj w3=>jj≤n_ls∧Blk w3 w.heap.size (u8s ((ls.take jj).flatten++List.replicate (zW ls-zW (ls.take jj)) 0)) 5∧Ext w w3) (fun jj=>n_ls-jj) 0 (by rw [List.take_zero];kernel_rfl) ⟨by omega,(by rw [List.take_zero,show zW ls-zW []=zW ls from rfl,List.flatten_nil,List.nil_append,←ze1];exact hBw2),hEw2⟩ ?_)))))
  rintro jj dw3 w3 ⟨hi,hBl,hEl⟩
  have hzl:=hEl.size;have hll:=hBl.lt
  have hlen:=h_ls.len_eq
  have hsl:=zeH ls jj
  have hsl1:=zeH ls (jj+1)
  refine ze (zd (za (zF (some 26) (decide (((jj:Nat):Int)<((n_ls:Nat):Int))) (fun hc26=> ?_) (fun hc26=> ?_))))
  ·replace hc26:jj<n_ls:=by have:=zac hc26;omega
   have hst:=zff (ls:=ls) (i:=jj) (by omega)
   refine zf (zb (ze (zv (zk (zb (ze (zr (ze (zd ?_)))))))))
   obtain ⟨b2,o2,rfl⟩:=h_ls.addr (by omega)
   refine za (zah b2 o2 n_ls c_ls jj 1 ?_)
   obtain ⟨a2,n2,cp2,hP2,hS2⟩:=((h_ls.ext hEl)).cell (i:=jj) (by omega)
   have hlehS2:=hS2.le;have hlnhS2:=hS2.len_eq
   refine za (zm b2 (o2+jj*1) hP2 ?_)
   refine zc 1 [(9,(.slice a2 n2 cp2))] (zf (zb (zd (zc 3 [(31,(vI (zW (ls.take jj)))),(30,(.slice (pA w.heap.size 0) (zW (ls)) (zW (ls)))),(29,(vI (zW (ls.take jj))))] ?_))))
   obtain ⟨ad,hRd,hAd⟩:=hBl.slice (len:=(zW (ls))) (cap:=(zW (ls))) Tryz.prog 23 5 (zW (ls.take jj)) (zW (ls)) (zW (ls)) (some (vI (zW (ls.take jj)))) none none
   refine za (zaM (Instr.sliceAt 23 (.slice (pA w.heap.size 0) (zW (ls)) (zW (ls))) (some (vI (zW (ls.take jj)))) none none) (.slice ad (zW ls-zW (ls.take jj)) (zW ls-zW (ls.take jj))) (hRd _) ?_)
   refine zc 1 [(33,(.slice a2 n2 cp2))] (za (zhH (a:=ad) (dl:=zW ls-zW (ls.take jj)) (dc:=zW ls-zW (ls.take jj)) (some 34) 23 23 3 5 w.heap.size (zW (ls.take jj)) hBl (fun h=>hAd (by omega)) (by rw [za6,List.length_append,zeg,List.length_replicate];omega) hS2.es (fun _=>rfl) ?_))
   intro w4 hBw4 hCw4
   have hzw4:=hCw4.size
   rw [show zV (u8s ((ls.take jj).flatten++List.replicate (zW ls-zW (ls.take jj)) 0)) (zW (ls.take jj)) (((ls.getD jj []).take (min n2 (zW ls-zW (ls.take jj)))).map u8v)=u8s ((ls.take (jj+1)).flatten++List.replicate (zW ls-zW (ls.take (jj+1))) 0) from by rw [zhd (by omega),zff (by omega),show min n2 (zW ls-zW (ls.take jj))=(ls.getD jj []).length from by omega];exact zoL _ _ _ _ (zeg _).symm (by omega)] at hBw4
   refine za (zo (some 35) .i64 (IntKind.i64.wrap (((zW (ls.take jj):Nat):Int)+((min n2 (zW ls-zW (ls.take jj)):Nat):Int))) (zW (ls.take (jj+1))) (zu) ?_)
   refine zc 1 [(7,(vI (zW (ls.take (jj+1)))))] (zf (zi (zb (zd (za (zo (some 36) .i64 (IntKind.i64.wrap (((jj:Nat):Int)+((1:Nat):Int))) (jj+1) (zu) ?_))))))
   refine zc 1 [(25,(vI (jj+1)))] (zf (zz (zL (jj+1) ?_ ?_)))
   ·exact ⟨by omega,hBw4,(Ext.own hEl hCw4 (by omega))⟩
   ·first | omega |(dsimp only;omega)
  ·replace hc26:¬(jj<n_ls):=by have:=zad hc26;omega
   refine zf (zb (ze (zh (zP (zq (zq (zH (zb (ze ?_)))))))))
   refine zd (zc 2 [(2,(.slice (pA w.heap.size 0) (zW (ls)) (zW (ls)))),(37,(.slice (pA w.heap.size 0) (zW (ls)) (zW (ls))))] (zf (zb (zj (zl (.slice (pA w.heap.size 0) (zW (ls)) (zW (ls))) ?_)))))
   have hfin:ls.take jj=ls:=List.take_of_length_le (by omega)
   rw [hfin] at hBl
   rw [Nat.sub_self,List.replicate_zero,List.append_nil] at hBl
   exact ⟨_,rfl,Nat.le_refl _,hBl,(zeg ls).symm,hp0,hEl⟩
end Go.Proofs.YtkmhgepdhilllaaGreatDoor
namespace Go.Proofs.YtkmhgepdhilllaaGreatDoor
open Go Go.RowKit Go.Cs
set_option maxRecDepth 100000
theorem zfs (x:Rec) (w:World):
  Calls Tryz.prog 62 #[(vA (zM x))] w (Ret fun r w'=>r=(vI (zaW x))∧Ext w w'):=by
 refine zD (n:=16) (σ:= [(0,(vA (zM x)))]) Tryz.func62 rfl ?_
 refine ze (zd (za (zaa (Instr.box 68 (vA (zM x))) (vP w.heap.size 0) (zM x) 68 ?_)))
 intro w1 hBw1 hEw1 hzw1 hlw1
 refine zc 1 [(2,(vI 0))] (zf (zb (ze (ze (zd (zc 1 [(3,(vP w.heap.size 0))] (za (zm w.heap.size 0 (hBw1.cell rfl) ?_))))))))
 refine za (zF (some 5) (decide (((x.st:Nat):Int)>((2:Nat):Int))) (fun hc5=> ?_) (fun hc5=> ?_))
 ·replace hc5:x.st>2:=by have:=zac hc5;omega
  refine zc 10 [(15,vT),(14,undef),(13,undef),(12,undef),(11,undef),(10,undef),(9,undef),(8,undef),(7,undef),(6,vT)] (zf (zb (zv (ze (zd (zc 1 [(2,(vI 1))] (zf (zb (zj ?_)))))))))
  exact zw (zl (vI 1) (⟨congrArg (fun z:Nat=>Value.int .i64 (z:Int)) (by unfold zaW;simp_all []<;>omega),hEw1⟩))
 ·replace hc5:¬(x.st>2):=by have:=zad hc5;omega
  refine zc 2 [(7,(vP w.heap.size 0)),(6,vF)] (za (zm w.heap.size 0 (hBw1.cell rfl) ?_))
  refine za (zF (some 9) ((((x.st:Nat):Int)==((0:Nat):Int))) (fun hc9=> ?_) (fun hc9=> ?_))
  ·replace hc9:x.st=0:=by have:=zbJ hc9;omega
   refine zc 1 [(10,vT)] (za (zT w.heap.size 0 (hBw1.all) (zZ _) ?_))
   refine zc 1 [(12,(vA (zM Rec.zero)))] ?_
   rcases Bool.eq_false_or_eq_true (x.eqb Rec.zero) with hq13 | hq13
   ·refine za (zci (some 13) (bo .neq 68 (.tmp 11) (.tmp 12) (vA (zM x)) (vA (zM Rec.zero))) vF (zat (r:=true) (T:=68) ((zdj (dd:=9997) (t:=68) (t8:=5) (tn:=56) (td:=59) (e:=5) (t32:=53) (t64:=54) x Rec.zero).trans (congrArg (fun b=>Result.ok b _) (show (x.eqb Rec.zero)=true from hq13)))) ?_)
    refine zc 2 [(15,vF),(14,vF)] (zf (zb (zh (zk (zb (ze (zd (zc 1 [(2,(vI 0))] (zf ?_)))))))))
    exact zb (zj (zl (vI 0) (⟨congrArg (fun z:Nat=>Value.int .i64 (z:Int)) (by unfold zaW;simp_all []<;>omega),hEw1⟩)))
   ·refine za (zci (some 13) (bo .neq 68 (.tmp 11) (.tmp 12) (vA (zM x)) (vA (zM Rec.zero))) vT (zat (r:=false) (T:=68) ((zdj (dd:=9997) (t:=68) (t8:=5) (tn:=56) (td:=59) (e:=5) (t32:=53) (t64:=54) x Rec.zero).trans (congrArg (fun b=>Result.ok b _) (show (x.eqb Rec.zero)=false from hq13)))) ?_)
    refine zc 2 [(15,vT),(14,vT)] (zf (zb (zv (ze (zd (zc 1 [(2,(vI 1))] (zf (zb (zj ?_)))))))))
    exact zw (zl (vI 1) (⟨congrArg (fun z:Nat=>Value.int .i64 (z:Int)) (by unfold zaW;simp_all []<;>omega),hEw1⟩))
  ·replace hc9:¬(x.st=0):=by have:=zbI hc9;omega
   refine zc 6 [(15,vF),(14,vF),(13,undef),(12,undef),(11,undef),(10,vF)] (zf (zb (zh (zk (zb (ze (zd (zc 1 [(2,(vI 0))] (zf ?_)))))))))
   exact zb (zj (zl (vI 0) (⟨congrArg (fun z:Nat=>Value.int .i64 (z:Int)) (by unfold zaW;simp_all []<;>omega),hEw1⟩)))
theorem zhz (x:Ent) (w:World):
  Calls Tryz.prog 131 #[(vA (zai x))] w (Ret fun r w'=>r=(vI (zbc x))∧Ext w w'):=by
 refine zD (n:=16) (σ:= [(0,(vA (zai x)))]) Tryz.func131 rfl ?_
 refine ze (zd (za (zaa (Instr.box 71 (vA (zai x))) (vP w.heap.size 0) (zai x) 71 ?_)))
 intro w1 hBw1 hEw1 hzw1 hlw1
 refine zc 1 [(2,(vI 0))] (zf (zb (ze (ze (zd (zc 1 [(3,(vP w.heap.size 0))] (za (zm w.heap.size 0 (hBw1.cell rfl) ?_))))))))
 refine za (zF (some 5) (decide (((x.st:Nat):Int)>((2:Nat):Int))) (fun hc5=> ?_) (fun hc5=> ?_))
 ·replace hc5:x.st>2:=by have:=zac hc5;omega
  refine zc 10 [(15,vT),(14,undef),(13,undef),(12,undef),(11,undef),(10,undef),(9,undef),(8,undef),(7,undef),(6,vT)] (zf (zb (zv (ze (zd (zc 1 [(2,(vI 1))] (zf (zb (zj ?_)))))))))
  exact zw (zl (vI 1) (⟨congrArg (fun z:Nat=>Value.int .i64 (z:Int)) (by unfold zbc;simp_all []<;>omega),hEw1⟩))
 ·replace hc5:¬(x.st>2):=by have:=zad hc5;omega
  refine zc 2 [(7,(vP w.heap.size 0)),(6,vF)] (za (zm w.heap.size 0 (hBw1.cell rfl) ?_))
  refine za (zF (some 9) ((((x.st:Nat):Int)==((0:Nat):Int))) (fun hc9=> ?_) (fun hc9=> ?_))
  ·replace hc9:x.st=0:=by have:=zbJ hc9;omega
   refine zc 1 [(10,vT)] (za (zT w.heap.size 0 (hBw1.all) (zaK _) ?_))
   refine zc 1 [(12,(vA (zai Ent.zero)))] ?_
   rcases Bool.eq_false_or_eq_true (x.eqb Ent.zero) with hq13 | hq13
   ·refine za (zci (some 13) (bo .neq 71 (.tmp 11) (.tmp 12) (vA (zai x)) (vA (zai Ent.zero))) vF (zat (r:=true) (T:=71) ((zcs (dd:=9997) (t:=71) (t8:=5) (td:=59) (e:=5) x Ent.zero).trans (congrArg (fun b=>Result.ok b _) (show (x.eqb Ent.zero)=true from hq13)))) ?_)
    refine zc 2 [(15,vF),(14,vF)] (zf (zb (zh (zk (zb (ze (zd (zc 1 [(2,(vI 0))] (zf ?_)))))))))
    exact zb (zj (zl (vI 0) (⟨congrArg (fun z:Nat=>Value.int .i64 (z:Int)) (by unfold zbc;simp_all []<;>omega),hEw1⟩)))
   ·refine za (zci (some 13) (bo .neq 71 (.tmp 11) (.tmp 12) (vA (zai x)) (vA (zai Ent.zero))) vT (zat (r:=false) (T:=71) ((zcs (dd:=9997) (t:=71) (t8:=5) (td:=59) (e:=5) x Ent.zero).trans (congrArg (fun b=>Result.ok b _) (show (x.eqb Ent.zero)=false from hq13)))) ?_)
    refine zc 2 [(15,vT),(14,vT)] (zf (zb (zv (ze (zd (zc 1 [(2,(vI 1))] (zf (zb (zj ?_)))))))))
    exact zw (zl (vI 1) (⟨congrArg (fun z:Nat=>Value.int .i64 (z:Int)) (by unfold zbc;simp_all []<;>omega),hEw1⟩))
  ·replace hc9:¬(x.st=0):=by have:=zbI hc9;omega
   refine zc 6 [(15,vF),(14,vF),(13,undef),(12,undef),(11,undef),(10,vF)] (zf (zb (zh (zk (zb (ze (zd (zc 1 [(2,(vI 0))] (zf ?_)))))))))
   exact zb (zj (zl (vI 0) (⟨congrArg (fun z:Nat=>Value.int .i64 (z:Int)) (by unfold zbc;simp_all []<;>omega),hEw1⟩)))
theorem zjb (x:Non) (w:World):
  Calls Tryz.prog 134 #[(vA (zbf x))] w (Ret fun r w'=>∃a0,r=(.slice a0 12 12)∧Bs w.heap.size w'.heap.size w' a0 12 12 (zbB x)∧Ext w w'):=by
 refine zD (n:=11) (σ:= [(0,(vA (zbf x)))]) Tryz.func134 rfl ?_
 refine ze (zd (za (zaa (Instr.box 56 (vA (zbf x))) (vP w.heap.size 0) (zbf x) 56 ?_)))
 intro w1 hBw1 hEw1 hzw1 hlw1
 refine zc 1 [(2,(.slice none 0 0))] (zf (zb (ze (zab 9 (fun w2 hEw2 hzw2 hT245=> ?_)))))
 refine zg hT245 [(0,3,(vP w.heap.size 0))] 1 (zA hT245 1 w.heap.size 0 (fun w' hC=>(((hBw1.ext hEw2).ext hC).cell rfl)) (zg hT245 [(3,6,(vP w.heap.size 1))] 1 (zA hT245 4 w.heap.size 1 (fun w' hC=>(((hBw1.ext hEw2).ext hC).cell rfl)) (zx 2 (zp (zfM x.sh _ (x.hsh)) ?_)))))
 rintro _ w3 ⟨a1,rfl,hFz1_0,hEw3⟩
 have hzw3:=hEw3.size
 refine ⟨.inr hEw3, ?_⟩
 refine zx 5 (zp (zmw x.ct _) ?_)
 rintro _ w4 ⟨a2,rfl,hFz2_0,hEw4⟩
 have hzw4:=hEw4.size
 have hX1:Ext w2 w4:=(hEw3.trans hEw4)
 refine ⟨.inr hX1, ?_⟩
 refine zx 6 (zaa (Instr.buildSlice 190 2 #[(0,(.slice a1 4 4)),(1,(.slice a2 8 8))]) (.slice (pA w4.heap.size 0) 2 2) [(.slice a1 4 4),(.slice a2 8 8)] 23 ?_)
 intro w5 hBw5 hEw5 hzw5 hlw5
 have hSw5:Ps 0 w5.heap.size w5 (pA w4.heap.size 0) 2 2 [(.slice a1 4 4),(.slice a2 8 8)] [be x.sh 4,be x.ct 8]:=Ps.of_new hBw5 rfl (by decide) (za9.cons (zc5.at ((hFz1_0.ext hEw4).ext hEw5)) (za9.cons (zc5.at (hFz2_0.ext hEw5)) za9.nil))
 have hX2:Ext w2 w5:=((hEw3.trans hEw4).trans hEw5)
 refine ⟨.inr hX2, ?_⟩
 refine zx 7 (zp (ziO _ hSw5 (by simp [zW]<;>omega)) ?_)
 rintro _ w6 ⟨a3,rfl,hFz3_0,hFz3_1,hFz3_2,hFz3_3,hEw6⟩
 have hzw6:=hEw6.size
 have hla3:=hFz3_1.lt;have hna3:=hFz3_3
 have hSa3:Bs a3 (a3+1) w6 (pA a3 0) (zW ([be x.sh 4,be x.ct 8])) (zW ([be x.sh 4,be x.ct 8])) (([be x.sh 4,be x.ct 8]).flatten):=Bs.of_blk hFz3_1 rfl hFz3_2 (Nat.le_refl _) (zct hna3) (Nat.le_refl _) (Nat.lt_succ_self _)
 rw [show zW ([be x.sh 4,be x.ct 8])=12 from by simp [zW]]
 have hX3:Ext w2 w6:=(((hEw3.trans hEw4).trans hEw5).trans hEw6)
 refine ⟨.inr hX3, ?_⟩
 exact zg (hw:=hX3) hT245 [(8,2,(.slice (pA a3 0) 12 12))] 1 (zE (zb (zj (zl (.slice (pA a3 0) 12 12) (⟨_,rfl,by simpa [zbB,zW] using hSa3.mono (by omega) (by omega),((hEw1.trans hEw2).trans hX3)⟩)))))
theorem zh1 (x:Non) (w:World):
  Calls Tryz.prog 129 #[(vA (zbf x))] w (Ret fun r w'=>∃a0 ca0,r=(.slice a0 12 ca0)∧Es u8v w.heap.size w'.heap.size w' a0 12 ca0 (zbB x)∧Ext w w'):=by
 refine zD (n:=10) (σ:= [(0,(vA (zbf x)))]) Tryz.func129 rfl ?_
 refine ze (zd (za (zaa (Instr.box 56 (vA (zbf x))) (vP w.heap.size 0) (zbf x) 56 ?_)))
 intro w1 hBw1 hEw1 hzw1 hlw1
 refine zc 1 [(2,(.slice none 0 0))] (zf (zb (ze (zab 8 (fun w2 hEw2 hzw2 hT275=> ?_)))))
 refine zg hT275 [(0,3,(vP w.heap.size 0))] 1 (zA hT275 1 w.heap.size 0 (fun w' hC=>(((hBw1.ext hEw2).ext hC).cell rfl)) (zg hT275 [(3,6,(vP w.heap.size 1))] 1 (zA hT275 4 w.heap.size 1 (fun w' hC=>(((hBw1.ext hEw2).ext hC).cell rfl)) (zx 2 (zp (zlT x.sh _ (x.hsh)) ?_)))))
 rintro _ w3 ⟨a1,rfl,hFz1_0,hFz1_1,hFz1_2,hFz1_3,hEw3⟩
 have hzw3:=hEw3.size
 have hla1:=hFz1_1.lt;have hna1:=hFz1_3
 have hSa1:Bs a1 (a1+1) w3 (pA a1 0) 4 4 (be x.sh 4):=Bs.of_blk hFz1_1 rfl hFz1_2 (Nat.le_refl _) (zct hna1) (Nat.le_refl _) (Nat.lt_succ_self _)
 refine ⟨.inr hEw3, ?_⟩
 refine zx 5 (zp (zlb x.ct _ (x.hct)) ?_)
 rintro _ w4 ⟨a2,rfl,hFz2_0,hFz2_1,hFz2_2,hFz2_3,hEw4⟩
 have hzw4:=hEw4.size
 have hla2:=hFz2_1.lt;have hna2:=hFz2_3
 have hSa2:Bs a2 (a2+1) w4 (pA a2 0) 8 8 (be x.ct 8):=Bs.of_blk hFz2_1 rfl hFz2_2 (Nat.le_refl _) (zct hna2) (Nat.le_refl _) (Nat.lt_succ_self _)
 have hX1:Ext w2 w4:=(hEw3.trans hEw4)
 refine ⟨.inr hX1, ?_⟩
 have hO1:Cs.Own u8v a1 (a1+1) w4 (pA a1 0) 4 4 5 (be x.sh 4):=Cs.Own.of_blk (hFz1_1.ext hEw4) (by simp) (by first | rfl | exact rfl) (hSa1.ext hEw4).len_eq (Nat.le_refl _) (by simp only [maxLen];omega) (Nat.le_refl _) (Nat.lt_succ_self _)
 refine zx 6 (zbo (some 9) 23 23 5 1 (.int .u8 0) hO1 hSa2.es (fun _=>rfl) ?_)
 intro a3 c1 w5 hOw5 hCw5
 have hzw5:=hCw5.size
 have hSw5:=hOw5.bs
 have hX2:Ext w2 w5:=(Ext.ownS (hEw3.trans hEw4) hCw5 (fun k hs hk=>by have hn:=hO1.ne hs;omega))
 refine ⟨.inr hX2, ?_⟩
 refine zg (hw:=hX2) hT275 [(7,2,(.slice a3 (4+8) c1))] 1 (zE (zb (zj (zl (.slice a3 (4+8) c1) ?_))))
 have hX3:Ext w w5:=(Ext.ownS (((hEw1.trans hEw2).trans hEw3).trans hEw4) hCw5 (fun k hs hk=>by have hn:=hO1.ne hs;omega))
 exact ⟨_,_,rfl,by have hz:=hOw5;simpa [zbB,zbT,zb9,zdt] using (hz.es.mono (lo':=w.heap.size) (hi':=w5.heap.size) (by omega) (by omega)),hX3⟩
theorem zo6 (x:Rec) (w:World):
  Calls Tryz.prog 103 #[(vA (zM x))] w (Ret fun r w'=>∃a0 ca0,r=(.slice a0 45 ca0)∧Es u8v w.heap.size w'.heap.size w' a0 45 ca0 (zbT x)∧Ext w w'):=by
 refine zD (n:=13) (σ:= [(0,(vA (zM x)))]) Tryz.func103 rfl ?_
 refine ze (zd (za (zaa (Instr.box 68 (vA (zM x))) (vP w.heap.size 0) (zM x) 68 ?_)))
 intro w1 hBw1 hEw1 hzw1 hlw1
 refine zc 1 [(2,(.slice none 0 0))] (zf (zb (ze (zab 11 (fun w2 hEw2 hzw2 hT305=> ?_)))))
 refine zg hT305 [(0,3,(vP w.heap.size 0))] 1 (zA hT305 1 w.heap.size 0 (fun w' hC=>(((hBw1.ext hEw2).ext hC).cell rfl)) (zg hT305 [(3,6,(vP w.heap.size 1))] 1 (zan hT305 4 w.heap.size 1 (fun w' hC=>(((hBw1.ext hEw2).ext hC).at 1 (zbf x.non) (zmC _))) (ze6 _) (zg hT305 [(7,10,(vP w.heap.size 3))] 1 (zn hT305 8 (.slice (pA w.heap.size 3) 32 32) (zag (Instr.sliceAt 59 (vP w.heap.size 3) none none none) (fun w' hC=>zi6 (E:=5) (sz:=1) (m:=32))) ?_)))))
 have hS1:Bs w.heap.size (w.heap.size+1) w2 (pA w.heap.size 3) 32 32 x.tag.l:=Bs.of_at ((hBw1.ext hEw2).at 3 (zR x.tag) (zhR _)) ((hBw1.ext hEw2)).lt x.tag.h.symm (by decide) (by omega) (by omega)
 refine zbt 2 5 ?_ ?_
 ·refine zaa (Instr.buildSlice 23 1 #[(0,(vB x.st))]) (.slice (pA w2.heap.size 0) 1 1) [(vB x.st)] 5 ?_
  intro w3 hBw3 hEw3 hzw3 hlw3
  have hSw3:Bs w2.heap.size (w2.heap.size+1) w3 (pA w2.heap.size 0) 1 1 [UInt8.ofNat x.st]:=Bs.of_blk hBw3 (zcW x.hst) rfl (Nat.le_refl _) (by decide) (Nat.le_refl _) (Nat.lt_succ_self _)
  refine ⟨.inr hEw3, ?_⟩
  refine zx 5 (zp (zh1 x.non _) ?_)
  rintro _ w4 ⟨a1,ca1,rfl,hFz1_0,hEw4⟩
  have hzw4:=hEw4.size
  have hlea1:=hFz1_0.le
  have hba1:=hFz1_0.bs
  have hX1:Ext w2 w4:=(hEw3.trans hEw4)
  refine ⟨.inr hX1, ?_⟩
  have hO1:Cs.Own u8v w2.heap.size (w2.heap.size+1) w4 (pA w2.heap.size 0) 1 1 5 ([UInt8.ofNat x.st]):=Cs.Own.of_blk (hBw3.ext hEw4) (by simp) (by first | rfl | exact (zcW x.hst)) (hSw3.ext hEw4).len_eq (Nat.le_refl _) (by simp only [maxLen];omega) (Nat.le_refl _) (Nat.lt_succ_self _)
  refine zx 6 (zbo (some 9) 23 23 5 1 (.int .u8 0) hO1 hba1.es (fun _=>rfl) ?_)
  intro a2 c1 w5 hOw5 hCw5
  have hzw5:=hCw5.size
  have hSw5:=hOw5.bs
  have hX2:Ext w2 w5:=(Ext.ownS (hEw3.trans hEw4) hCw5 (fun k hs hk=>by have hn:=hO1.ne hs;omega))
  refine ⟨.inr hX2, ?_⟩
  have hK1:=((((hS1.ext hEw3).ext hEw4)).chg hCw5 (fun k h1 h2 hs=>by have hn:=hO1.ne hs;omega))
  refine zx 9 (zbo (some 12) 23 23 5 1 (.int .u8 0) hOw5 hK1.es (fun _=>rfl) ?_)
  intro a3 c2 w6 hOw6 hCw6
  have hzw6:=hCw6.size
  have hSw6:=hOw6.bs
  have hX3:Ext w2 w6:=(Ext.ownS (Ext.ownS (hEw3.trans hEw4) hCw5 (fun k hs hk=>by have hn:=hO1.ne hs;omega)) hCw6 (fun k hs hk=>by have hn:=hOw5.ne hs;omega))
  refine ⟨.inr hX3, ?_⟩
  exact zg (hw:=hX3) hT305 [(10,2,(.slice a3 (1+12+32) c2))] 1 (zE (zb (zj (zl (.slice a3 (1+12+32) c2) (⟨_,_,rfl,by have hz:=hOw6;simpa [zbB,zbT,zb9,zdt] using (hz.es.mono (lo':=w.heap.size) (hi':=w6.heap.size) (by omega) (by omega)),((hEw1.trans hEw2).trans hX3)⟩)))))
 ·refine zp (zh1 x.non _) ?_
  rintro _ w7 ⟨a4,ca4,rfl,hFz2_0,hEw7⟩
  have hzw7:=hEw7.size
  have hlea4:=hFz2_0.le
  have hba4:=hFz2_0.bs
  refine ⟨.inr hEw7, ?_⟩
  refine zx 2 (zaa (Instr.buildSlice 23 1 #[(0,(vB x.st))]) (.slice (pA w7.heap.size 0) 1 1) [(vB x.st)] 5 ?_)
  intro w8 hBw8 hEw8 hzw8 hlw8
  have hSw8:Bs w7.heap.size (w7.heap.size+1) w8 (pA w7.heap.size 0) 1 1 [UInt8.ofNat x.st]:=Bs.of_blk hBw8 (zcW x.hst) rfl (Nat.le_refl _) (by decide) (Nat.le_refl _) (Nat.lt_succ_self _)
  have hX4:Ext w2 w8:=(hEw7.trans hEw8)
  refine ⟨.inr hX4, ?_⟩
  have hO2:Cs.Own u8v w7.heap.size (w7.heap.size+1) w8 (pA w7.heap.size 0) 1 1 5 ([UInt8.ofNat x.st]):=Cs.Own.of_blk hBw8 (by simp) (by first | rfl | exact (zcW x.hst)) hSw8.len_eq (Nat.le_refl _) (by simp only [maxLen];omega) (Nat.le_refl _) (Nat.lt_succ_self _)
  refine zx 6 (zbo (some 9) 23 23 5 1 (.int .u8 0) hO2 (hba4.ext hEw8).es (fun _=>rfl) ?_)
  intro a5 c3 w9 hOw9 hCw9
  have hzw9:=hCw9.size
  have hSw9:=hOw9.bs
  have hX5:Ext w2 w9:=(Ext.ownS (hEw7.trans hEw8) hCw9 (fun k hs hk=>by have hn:=hO2.ne hs;omega))
  refine ⟨.inr hX5, ?_⟩
  have hK2:=((((hS1.ext hEw7).ext hEw8)).chg hCw9 (fun k h1 h2 hs=>by have hn:=hO2.ne hs;omega))
  refine zx 9 (zbo (some 12) 23 23 5 1 (.int .u8 0) hOw9 hK2.es (fun _=>rfl) ?_)
  intro a6 c4 w10 hOw10 hCw10
  have hzw10:=hCw10.size
  have hSw10:=hOw10.bs
  have hX6:Ext w2 w10:=(Ext.ownS (Ext.ownS (hEw7.trans hEw8) hCw9 (fun k hs hk=>by have hn:=hO2.ne hs;omega)) hCw10 (fun k hs hk=>by have hn:=hOw9.ne hs;omega))
  refine ⟨.inr hX6, ?_⟩
  exact zg (hw:=hX6) hT305 [(10,2,(.slice a6 (1+12+32) c4))] 1 (zE (zb (zj (zl (.slice a6 (1+12+32) c4) (⟨_,_,rfl,by have hz:=hOw10;simpa [zbB,zbT,zb9,zdt] using (hz.es.mono (lo':=w.heap.size) (hi':=w10.heap.size) (by omega) (by omega)),((hEw1.trans hEw2).trans hX6)⟩)))))
theorem zp1 (x:Ent) (w:World):
  Calls Tryz.prog 104 #[(vA (zai x))] w (Ret fun r w'=>∃a0 ca0,r=(.slice a0 33 ca0)∧Es u8v w.heap.size w'.heap.size w' a0 33 ca0 (zb9 x)∧Ext w w'):=by
 refine zD (n:=9) (σ:= [(0,(vA (zai x)))]) Tryz.func104 rfl ?_
 refine ze (zd (za (zaa (Instr.box 71 (vA (zai x))) (vP w.heap.size 0) (zai x) 71 ?_)))
 intro w1 hBw1 hEw1 hzw1 hlw1
 refine zc 1 [(2,(.slice none 0 0))] (zf (zb (ze (zab 7 (fun w2 hEw2 hzw2 hT367=> ?_)))))
 refine zg hT367 [(0,3,(vP w.heap.size 0))] 1 (zA hT367 1 w.heap.size 0 (fun w' hC=>(((hBw1.ext hEw2).ext hC).cell rfl)) (zg hT367 [(3,6,(vP w.heap.size 1))] 1 (zn hT367 4 (.slice (pA w.heap.size 1) 32 32) (zag (Instr.sliceAt 59 (vP w.heap.size 1) none none none) (fun w' hC=>zi6 (E:=5) (sz:=1) (m:=32))) ?_)))
 have hS1:Bs w.heap.size (w.heap.size+1) w2 (pA w.heap.size 1) 32 32 x.dg.l:=Bs.of_at ((hBw1.ext hEw2).at 1 (zR x.dg) (zfO _)) ((hBw1.ext hEw2)).lt x.dg.h.symm (by decide) (by omega) (by omega)
 refine zx 2 (zaa (Instr.buildSlice 23 1 #[(0,(vB x.st))]) (.slice (pA w2.heap.size 0) 1 1) [(vB x.st)] 5 ?_)
 intro w3 hBw3 hEw3 hzw3 hlw3
 have hSw3:Bs w2.heap.size (w2.heap.size+1) w3 (pA w2.heap.size 0) 1 1 [UInt8.ofNat x.st]:=Bs.of_blk hBw3 (zcW x.hst) rfl (Nat.le_refl _) (by decide) (Nat.le_refl _) (Nat.lt_succ_self _)
 refine ⟨.inr hEw3, ?_⟩
 have hO1:Cs.Own u8v w2.heap.size (w2.heap.size+1) w3 (pA w2.heap.size 0) 1 1 5 ([UInt8.ofNat x.st]):=Cs.Own.of_blk hBw3 (by simp) (by first | rfl | exact (zcW x.hst)) hSw3.len_eq (Nat.le_refl _) (by simp only [maxLen];omega) (Nat.le_refl _) (Nat.lt_succ_self _)
 refine zx 5 (zbo (some 8) 23 23 5 1 (.int .u8 0) hO1 (hS1.ext hEw3).es (fun _=>rfl) ?_)
 intro a1 c1 w4 hOw4 hCw4
 have hzw4:=hCw4.size
 have hSw4:=hOw4.bs
 have hX1:Ext w2 w4:=(Ext.ownS hEw3 hCw4 (fun k hs hk=>by have hn:=hO1.ne hs;omega))
 refine ⟨.inr hX1, ?_⟩
 refine zg (hw:=hX1) hT367 [(6,2,(.slice a1 (1+32) c1))] 1 (zE (zb (zj (zl (.slice a1 (1+32) c1) ?_))))
 have hX2:Ext w w4:=(Ext.ownS ((hEw1.trans hEw2).trans hEw3) hCw4 (fun k hs hk=>by have hn:=hO1.ne hs;omega))
 exact ⟨_,_,rfl,by have hz:=hOw4;simpa [zbB,zbT,zb9,zdt] using (hz.es.mono (lo':=w.heap.size) (hi':=w4.heap.size) (by omega) (by omega)),hX2⟩
theorem zmb (x:Rec) (w:World) (hp0:zaW x=0):
  Calls Tryz.prog 115 #[(vA (zM x))] w (Ret fun r w'=>∃a0,r=(.tuple #[(.slice a0 45 45),(vI 0)])∧Bs w.heap.size w'.heap.size w' a0 45 45 (zbT x)∧Ext w w'):=by
 refine zD (n:=20) (σ:= [(0,(vA (zM x)))]) Tryz.func115 rfl ?_
 refine ze (zd (za (zaa (Instr.box 68 (vA (zM x))) (vP w.heap.size 0) (zM x) 68 ?_)))
 intro w1 hBw1 hEw1 hzw1 hlw1
 refine zc 2 [(3,(vI 0)),(2,(.slice none 0 0))] (zf (zb (ze (ze (zd (za (zT w.heap.size 0 (hBw1.all) (zZ _) ?_)))))))
 refine za (zp (zfs x _) ?_)
 rintro _ w2 ⟨rfl,hEw2⟩
 have hzw2:=hEw2.size
 refine zc 1 [(4,(vI (zaW x)))] (zf (zb (ze (zd (zc 1 [(7,(vI (zaW x)))] (za (zae (some 8) (((zaW x:Nat):Int) !=((0:Nat):Int)) false (zax) ?_)))))))
 refine zf (zb (zh (zk (zb (ze (zab 12 (fun w3 hEw3 hzw3 hT423=> ?_)))))))
 refine zg hT423 [(0,10,(vP w.heap.size 0))] 1 (zA hT423 1 w.heap.size 0 (fun w' hC=>((((hBw1.ext hEw2).ext hEw3).ext hC).cell rfl)) (zg hT423 [(3,13,(vP w.heap.size 1))] 1 (zan hT423 4 w.heap.size 1 (fun w' hC=>((((hBw1.ext hEw2).ext hEw3).ext hC).at 1 (zbf x.non) (zmC _))) (ze6 _) (zg hT423 [(6,16,(vP w.heap.size 3))] 1 (zn hT423 7 (.slice (pA w.heap.size 3) 32 32) (zag (Instr.sliceAt 59 (vP w.heap.size 3) none none none) (fun w' hC=>zi6 (E:=5) (sz:=1) (m:=32))) ?_)))))
 have hS1:Bs w.heap.size (w.heap.size+1) w3 (pA w.heap.size 3) 32 32 x.tag.l:=Bs.of_at (((hBw1.ext hEw2).ext hEw3).at 3 (zR x.tag) (zhR _)) (((hBw1.ext hEw2).ext hEw3)).lt x.tag.h.symm (by decide) (by omega) (by omega)
 refine zbt 2 5 ?_ ?_
 ·refine zaa (Instr.buildSlice 23 1 #[(0,(vB x.st))]) (.slice (pA w3.heap.size 0) 1 1) [(vB x.st)] 5 ?_
  intro w4 hBw4 hEw4 hzw4 hlw4
  have hSw4:Bs w3.heap.size (w3.heap.size+1) w4 (pA w3.heap.size 0) 1 1 [UInt8.ofNat x.st]:=Bs.of_blk hBw4 (zcW x.hst) rfl (Nat.le_refl _) (by decide) (Nat.le_refl _) (Nat.lt_succ_self _)
  refine ⟨.inr hEw4, ?_⟩
  refine zx 5 (zp (zjb x.non _) ?_)
  rintro _ w5 ⟨a1,rfl,hFz2_0,hEw5⟩
  have hzw5:=hEw5.size
  have hX1:Ext w3 w5:=(hEw4.trans hEw5)
  refine ⟨.inr hX1, ?_⟩
  refine zx 8 (zaa (Instr.buildSlice 190 3 #[(0,(.slice (pA w3.heap.size 0) 1 1)),(1,(.slice a1 12 12)),(2,(.slice (pA w.heap.size 3) 32 32))]) (.slice (pA w5.heap.size 0) 3 3) [(.slice (pA w3.heap.size 0) 1 1),(.slice a1 12 12),(.slice (pA w.heap.size 3) 32 32)] 23 ?_)
  intro w6 hBw6 hEw6 hzw6 hlw6
  have hK1:=(((hS1.ext hEw4).ext hEw5).ext hEw6)
  have hSw6:Ps 0 w6.heap.size w6 (pA w5.heap.size 0) 3 3 [(.slice (pA w3.heap.size 0) 1 1),(.slice a1 12 12),(.slice (pA w.heap.size 3) 32 32)] [[UInt8.ofNat x.st],zbB x.non,x.tag.l]:=Ps.of_new hBw6 rfl (by decide) (za9.cons (zc5.at ((hSw4.ext hEw5).ext hEw6)) (za9.cons (zc5.at (hFz2_0.ext hEw6)) (za9.cons (zc5.at hK1) za9.nil)))
  have hX2:Ext w3 w6:=((hEw4.trans hEw5).trans hEw6)
  refine ⟨.inr hX2, ?_⟩
  refine zx 9 (zp (ziO _ hSw6 (by simp [zW,zbB,x.tag.h])) ?_)
  rintro _ w7 ⟨a2,rfl,hFz3_0,hFz3_1,hFz3_2,hFz3_3,hEw7⟩
  have hzw7:=hEw7.size
  have hla2:=hFz3_1.lt;have hna2:=hFz3_3
  have hSa2:Bs a2 (a2+1) w7 (pA a2 0) (zW ([[UInt8.ofNat x.st],zbB x.non,x.tag.l])) (zW ([[UInt8.ofNat x.st],zbB x.non,x.tag.l])) (([[UInt8.ofNat x.st],zbB x.non,x.tag.l]).flatten):=Bs.of_blk hFz3_1 rfl hFz3_2 (Nat.le_refl _) (zct hna2) (Nat.le_refl _) (Nat.lt_succ_self _)
  rw [show zW ([[UInt8.ofNat x.st],zbB x.non,x.tag.l])=45 from by simp [zW,zbB,x.tag.h]]
  have hX3:Ext w3 w7:=(((hEw4.trans hEw5).trans hEw6).trans hEw7)
  refine ⟨.inr hX3, ?_⟩
  refine zg (hw:=hX3) hT423 [(10,2,(.slice (pA a2 0) 45 45)),(11,3,(vI 0))] 2 (zE (zb (zj (zl (.tuple #[(.slice (pA a2 0) 45 45),(vI 0)]) ?_))))
  have hX4:Ext w w7:=(((hEw1.trans hEw2).trans hEw3).trans hX3)
  have hz:=hSa2
  rw [show zW ([[UInt8.ofNat x.st],zbB x.non,x.tag.l])=45 from by simp [zW,zbB,x.tag.h],show ([[UInt8.ofNat x.st],zbB x.non,x.tag.l]).flatten=zbT x from by simp [zbT,zb9,zdt]] at hz
  exact ⟨_,rfl,hz.mono (by omega) (by omega),hX4⟩
 ·refine zp (zjb x.non _) ?_
  rintro _ w8 ⟨a3,rfl,hFz4_0,hEw8⟩
  have hzw8:=hEw8.size
  refine ⟨.inr hEw8, ?_⟩
  refine zx 2 (zaa (Instr.buildSlice 23 1 #[(0,(vB x.st))]) (.slice (pA w8.heap.size 0) 1 1) [(vB x.st)] 5 ?_)
  intro w9 hBw9 hEw9 hzw9 hlw9
  have hSw9:Bs w8.heap.size (w8.heap.size+1) w9 (pA w8.heap.size 0) 1 1 [UInt8.ofNat x.st]:=Bs.of_blk hBw9 (zcW x.hst) rfl (Nat.le_refl _) (by decide) (Nat.le_refl _) (Nat.lt_succ_self _)
  have hX5:Ext w3 w9:=(hEw8.trans hEw9)
  refine ⟨.inr hX5, ?_⟩
  refine zx 8 (zaa (Instr.buildSlice 190 3 #[(0,(.slice (pA w8.heap.size 0) 1 1)),(1,(.slice a3 12 12)),(2,(.slice (pA w.heap.size 3) 32 32))]) (.slice (pA w9.heap.size 0) 3 3) [(.slice (pA w8.heap.size 0) 1 1),(.slice a3 12 12),(.slice (pA w.heap.size 3) 32 32)] 23 ?_)
  intro w10 hBw10 hEw10 hzw10 hlw10
  have hK2:=(((hS1.ext hEw8).ext hEw9).ext hEw10)
  have hSw10:Ps 0 w10.heap.size w10 (pA w9.heap.size 0) 3 3 [(.slice (pA w8.heap.size 0) 1 1),(.slice a3 12 12),(.slice (pA w.heap.size 3) 32 32)] [[UInt8.ofNat x.st],zbB x.non,x.tag.l]:=Ps.of_new hBw10 rfl (by decide) (za9.cons (zc5.at (hSw9.ext hEw10)) (za9.cons (zc5.at ((hFz4_0.ext hEw9).ext hEw10)) (za9.cons (zc5.at hK2) za9.nil)))
  have hX6:Ext w3 w10:=((hEw8.trans hEw9).trans hEw10)
  refine ⟨.inr hX6, ?_⟩
  refine zx 9 (zp (ziO _ hSw10 (by simp [zW,zbB,x.tag.h])) ?_)
  rintro _ w11 ⟨a4,rfl,hFz5_0,hFz5_1,hFz5_2,hFz5_3,hEw11⟩
  have hzw11:=hEw11.size
  have hla4:=hFz5_1.lt;have hna4:=hFz5_3
  have hSa4:Bs a4 (a4+1) w11 (pA a4 0) (zW ([[UInt8.ofNat x.st],zbB x.non,x.tag.l])) (zW ([[UInt8.ofNat x.st],zbB x.non,x.tag.l])) (([[UInt8.ofNat x.st],zbB x.non,x.tag.l]).flatten):=Bs.of_blk hFz5_1 rfl hFz5_2 (Nat.le_refl _) (zct hna4) (Nat.le_refl _) (Nat.lt_succ_self _)
  rw [show zW ([[UInt8.ofNat x.st],zbB x.non,x.tag.l])=45 from by simp [zW,zbB,x.tag.h]]
  have hX7:Ext w3 w11:=(((hEw8.trans hEw9).trans hEw10).trans hEw11)
  refine ⟨.inr hX7, ?_⟩
  refine zg (hw:=hX7) hT423 [(10,2,(.slice (pA a4 0) 45 45)),(11,3,(vI 0))] 2 (zE (zb (zj (zl (.tuple #[(.slice (pA a4 0) 45 45),(vI 0)]) ?_))))
  have hX8:Ext w w11:=(((hEw1.trans hEw2).trans hEw3).trans hX7)
  have hz:=hSa4
  rw [show zW ([[UInt8.ofNat x.st],zbB x.non,x.tag.l])=45 from by simp [zW,zbB,x.tag.h],show ([[UInt8.ofNat x.st],zbB x.non,x.tag.l]).flatten=zbT x from by simp [zbT,zb9,zdt]] at hz
  exact ⟨_,rfl,hz.mono (by omega) (by omega),hX8⟩
theorem zof (x:Ent) (w:World) (hp0:zbc x=0):
  Calls Tryz.prog 118 #[(vA (zai x))] w (Ret fun r w'=>∃a0,r=(.tuple #[(.slice a0 33 33),(vI 0)])∧Bs w.heap.size w'.heap.size w' a0 33 33 (zb9 x)∧Ext w w'):=by
 refine zD (n:=17) (σ:= [(0,(vA (zai x)))]) Tryz.func118 rfl ?_
 refine ze (zd (za (zaa (Instr.box 71 (vA (zai x))) (vP w.heap.size 0) (zai x) 71 ?_)))
 intro w1 hBw1 hEw1 hzw1 hlw1
 refine zc 2 [(3,(vI 0)),(2,(.slice none 0 0))] (zf (zb (ze (ze (zd (za (zT w.heap.size 0 (hBw1.all) (zaK _) ?_)))))))
 refine za (zp (zhz x _) ?_)
 rintro _ w2 ⟨rfl,hEw2⟩
 have hzw2:=hEw2.size
 refine zc 1 [(4,(vI (zbc x)))] (zf (zb (ze (zd (zc 1 [(7,(vI (zbc x)))] (za (zae (some 8) (((zbc x:Nat):Int) !=((0:Nat):Int)) false (zax) ?_)))))))
 refine zf (zb (zh (zk (zb (ze (zab 9 (fun w3 hEw3 hzw3 hT508=> ?_)))))))
 refine zg hT508 [(0,10,(vP w.heap.size 0))] 1 (zA hT508 1 w.heap.size 0 (fun w' hC=>((((hBw1.ext hEw2).ext hEw3).ext hC).cell rfl)) (zg hT508 [(3,13,(vP w.heap.size 1))] 1 (zn hT508 4 (.slice (pA w.heap.size 1) 32 32) (zag (Instr.sliceAt 59 (vP w.heap.size 1) none none none) (fun w' hC=>zi6 (E:=5) (sz:=1) (m:=32))) ?_)))
 have hS1:Bs w.heap.size (w.heap.size+1) w3 (pA w.heap.size 1) 32 32 x.dg.l:=Bs.of_at (((hBw1.ext hEw2).ext hEw3).at 1 (zR x.dg) (zfO _)) (((hBw1.ext hEw2).ext hEw3)).lt x.dg.h.symm (by decide) (by omega) (by omega)
 refine zx 2 (zaa (Instr.buildSlice 23 1 #[(0,(vB x.st))]) (.slice (pA w3.heap.size 0) 1 1) [(vB x.st)] 5 ?_)
 intro w4 hBw4 hEw4 hzw4 hlw4
 have hSw4:Bs w3.heap.size (w3.heap.size+1) w4 (pA w3.heap.size 0) 1 1 [UInt8.ofNat x.st]:=Bs.of_blk hBw4 (zcW x.hst) rfl (Nat.le_refl _) (by decide) (Nat.le_refl _) (Nat.lt_succ_self _)
 refine ⟨.inr hEw4, ?_⟩
 refine zx 5 (zaa (Instr.buildSlice 190 2 #[(0,(.slice (pA w3.heap.size 0) 1 1)),(1,(.slice (pA w.heap.size 1) 32 32))]) (.slice (pA w4.heap.size 0) 2 2) [(.slice (pA w3.heap.size 0) 1 1),(.slice (pA w.heap.size 1) 32 32)] 23 ?_)
 intro w5 hBw5 hEw5 hzw5 hlw5
 have hSw5:Ps 0 w5.heap.size w5 (pA w4.heap.size 0) 2 2 [(.slice (pA w3.heap.size 0) 1 1),(.slice (pA w.heap.size 1) 32 32)] [[UInt8.ofNat x.st],x.dg.l]:=Ps.of_new hBw5 rfl (by decide) (za9.cons (zc5.at (hSw4.ext hEw5)) (za9.cons (zc5.at ((hS1.ext hEw4).ext hEw5)) za9.nil))
 have hX1:Ext w3 w5:=(hEw4.trans hEw5)
 refine ⟨.inr hX1, ?_⟩
 refine zx 6 (zp (ziO _ hSw5 (by simp [zW,zbB,x.dg.h])) ?_)
 rintro _ w6 ⟨a1,rfl,hFz2_0,hFz2_1,hFz2_2,hFz2_3,hEw6⟩
 have hzw6:=hEw6.size
 have hla1:=hFz2_1.lt;have hna1:=hFz2_3
 have hSa1:Bs a1 (a1+1) w6 (pA a1 0) (zW ([[UInt8.ofNat x.st],x.dg.l])) (zW ([[UInt8.ofNat x.st],x.dg.l])) (([[UInt8.ofNat x.st],x.dg.l]).flatten):=Bs.of_blk hFz2_1 rfl hFz2_2 (Nat.le_refl _) (zct hna1) (Nat.le_refl _) (Nat.lt_succ_self _)
 rw [show zW ([[UInt8.ofNat x.st],x.dg.l])=33 from by simp [zW,zbB,x.dg.h]]
 have hX2:Ext w3 w6:=((hEw4.trans hEw5).trans hEw6)
 refine ⟨.inr hX2, ?_⟩
 refine zg (hw:=hX2) hT508 [(7,2,(.slice (pA a1 0) 33 33)),(8,3,(vI 0))] 2 (zE (zb (zj (zl (.tuple #[(.slice (pA a1 0) 33 33),(vI 0)]) ?_))))
 have hX3:Ext w w6:=(((((hEw1.trans hEw2).trans hEw3).trans hEw4).trans hEw5).trans hEw6)
 have hz:=hSa1
 rw [show zW ([[UInt8.ofNat x.st],x.dg.l])=33 from by simp [zW,zbB,x.dg.h],show ([[UInt8.ofNat x.st],x.dg.l]).flatten=zb9 x from by simp [zbT,zb9,zdt]] at hz
 exact ⟨_,rfl,hz.mono (by omega) (by omega),hX3⟩
end Go.Proofs.YtkmhgepdhilllaaGreatDoor
namespace Go.Proofs.YtkmhgepdhilllaaGreatDoor
open Go Go.RowKit Go.Cs
set_option maxRecDepth 100000
end Go.Proofs.YtkmhgepdhilllaaGreatDoor
namespace Go.Proofs.YtkmhgepdhilllaaGreatDoor
open Go Go.RowKit Go.Cs
set_option maxRecDepth 100000
end Go.Proofs.YtkmhgepdhilllaaGreatDoor
namespace Go.Proofs.YtkmhgepdhilllaaGreatDoor
open Go Go.RowKit Go.Cs
set_option maxRecDepth 100000
theorem zmv (n:Nat) (w:World) (hp0:1≤n) (hp1:n≤4096):
  Calls Tryz.prog 124 #[(vI n)] w (Ret fun r w'=>r=(vI 0)∧w=w'):=by
 refine zD (n:=9) (σ:= [(0,(vI n))]) Tryz.func124 rfl ?_
 refine ze (zd (zc 1 [(2,(vI 0))] (zf (zb (ze (ze (zd (zc 1 [(3,(vI n))] (za (zae (some 4) (decide (((n:Nat):Int)<((1:Nat):Int))) false (zcH) ?_))))))))))
 refine zc 2 [(6,(vI n)),(5,vF)] (za (zae (some 7) (decide (((n:Nat):Int)>((4096:Nat):Int))) false (zcH) ?_))
 refine zc 1 [(8,vF)] (zf (zb (zh (zk (zb (ze (zd (zc 1 [(2,(vI 0))] (zf ?_)))))))))
 exact zb (zj (zl (vI 0) (⟨rfl,rfl⟩)))
theorem zo7 (n:Int) (w:World) (hp0:n<1):
  Calls Tryz.prog 124 #[(.int .i64 n)] w (Ret fun r w'=>r=(vI 1)∧w=w'):=by
 refine zD (n:=9) (σ:= [(0,(.int .i64 n))]) Tryz.func124 rfl ?_
 refine ze (zd (zc 1 [(2,(vI 0))] (zf (zb (ze (ze (zd (zc 1 [(3,(.int .i64 n))] (za (zae (some 4) (decide (n<((1:Nat):Int))) true (zgk) ?_))))))))))
 refine zc 4 [(8,vT),(7,undef),(6,undef),(5,vT)] (zf (zb (zv (ze (zd (zc 1 [(2,(vI 1))] (zf (zb (zj ?_)))))))))
 exact zw (zl (vI 1) (⟨rfl,rfl⟩))
theorem zpw (n:Int) (w:World) (hp0:n>4096):
  Calls Tryz.prog 124 #[(.int .i64 n)] w (Ret fun r w'=>r=(vI 1)∧w=w'):=by
 refine zD (n:=9) (σ:= [(0,(.int .i64 n))]) Tryz.func124 rfl ?_
 refine ze (zd (zc 1 [(2,(vI 0))] (zf (zb (ze (ze (zd (zc 1 [(3,(.int .i64 n))] (za (zae (some 4) (decide (n<((1:Nat):Int))) false (zcH) ?_))))))))))
 refine zc 2 [(6,(.int .i64 n)),(5,vF)] (za (zae (some 7) (decide (n>((4096:Nat):Int))) true (zgk) ?_))
 refine zc 1 [(8,vT)] (zf (zb (zv (ze (zd (zc 1 [(2,(vI 1))] (zf (zb (zj ?_)))))))))
 exact zw (zl (vI 1) (⟨rfl,rfl⟩))
theorem zn7 (n:Int) (w:World) (hp0:¬(1≤n∧n≤4096)):
  Calls Tryz.prog 124 #[(.int .i64 n)] w (Ret fun r w'=>r=(vI 1)∧w=w'):=by
 by_cases h:n<1
 ·exact zo7 n w h
 ·exact zpw n w (by omega)
theorem zm6 (n:Nat) (w:World) (hp0:n≤4096):
  Calls Tryz.prog 143 #[(vI n)] w (Ret fun r w'=>r=(vI (up4 n))∧w=w'):=by
 refine zD (n:=7) (σ:= [(0,(vI n))]) Tryz.func143 rfl ?_
 refine ze (zd (zc 1 [(2,(vI 0))] (zf (zb (ze (zd (zc 1 [(3,(vI n))] (za (zo (some 4) .i64 (IntKind.i64.wrap (((n:Nat):Int)+((4:Nat):Int))) (n+4) (zu) ?_)))))))))
 refine za (zo (some 5) .i64 (IntKind.i64.wrap (((n+4:Nat):Int)-((1:Nat):Int))) (n+3) (zu) ?_)
 refine za (zo (some 6) .i64 (IntKind.i64.wrap (((n+3:Nat):Int).tdiv ((4:Nat):Int))) ((n+3)/4) (zu (zec _ _)) ?_)
 exact zc 1 [(2,(vI ((n+3)/4)))] (zf (zb (zj (zl (vI ((n+3)/4)) (⟨rfl,rfl⟩)))))
theorem zqa (n:Nat) (w:World) (hp0:1≤n) (hp1:n≤4096):
  Calls Tryz.prog 130 #[(vI n)] w (Ret fun r w'=>∃a0 ca0,r=(.slice a0 (hgt n+1) ca0)∧Es (nv .i64) w.heap.size w'.heap.size w' a0 (hgt n+1) ca0 (cts n)∧Ext w w'):=by
 refine zD (n:=18) (σ:= [(0,(vI n))]) Tryz.func130 rfl ?_
 refine ze (zd (zc 1 [(2,(.slice none 0 0))] (zf (zb (ze (zd (za (zaf (List.replicate 6 (vI 0)) 224 ?_))))))))
 intro w1 hBw1 hEw1 hzw1 hlw1
 refine zf (zb (ze (zd (za (zaM (Instr.sliceAt 224 (vP w.heap.size 0) (some (vI 0)) (some (vI 0)) (some (vI 6))) (.slice (pA w.heap.size 0) 0 6) (zpc (len:=6) (E:=3) (sz:=1) (l:=0) (r:=0) (m:=6) (.inr ⟨_,rfl⟩) (.inr ⟨_,rfl⟩) (.inr ⟨_,rfl⟩) (by simp) (by omega) (by omega) (by omega)) ?_)))))
 refine zc 1 [(4,(.slice (pA w.heap.size 0) 0 6))] (zf (zb (ze (zd (zc 1 [(7,(vI n))] (za (zp (zm6 n _ (by omega)) ?_)))))))
 rintro _ _ ⟨rfl,rfl⟩
 refine zc 1 [(5,(vI (up4 n)))] (zf (zb (zr (zU (X:=Nat) (fun k=> [(4,(.slice (pA w.heap.size 0) k 6)),(5,(vI (cnt n k)))]) [2,9,10,11,12,13,14,15,16,17] (fun k w2=>k≤hgt n∧Blk w2 w.heap.size (((cts n).take k).map (nv .i64)++List.replicate (6-k) (vI 0)) 224∧Ext w w2) (fun k=>hgt n-k) 0 (by kernel_rfl) ⟨by omega,hBw1,hEw1⟩ ?_))))
 rintro k dw2 w2 ⟨hk,hBl,hEl⟩
 have hzl:=hEl.size;have hll:=hBl.lt;have h5:=zar n;have hcn:=zbq n k
 refine ze (zr (ze (zd (zc 2 [(12,(vI (cnt n k))),(11,(.slice (pA w.heap.size 0) k 6))] (za (zaa (Instr.buildSlice 29 1 #[(0,(vI (cnt n k)))]) (.slice (pA w2.heap.size 0) 1 1) [(vI (cnt n k))] 3 ?_))))))
 intro w3 hBw3 hEw3 hzw3 hlw3
 have hSw3:Es (nv .i64) w2.heap.size (w2.heap.size+1) w3 (pA w2.heap.size 0) 1 1 ([cnt n k]):=Es.of_blk hBw3 rfl rfl (Nat.le_refl _) (by decide) (Nat.le_refl _) (Nat.lt_succ_self _)
 refine za (zdk (some 14) 29 29 3 1 w.heap.size k 6 ⟨w2.heap.size,0,none⟩ 1 1 (hBl.ext hEw3) hSw3.sla rfl (by simp [nv,Value.oneCell']) (by simp [zea];omega) ?_)
 intro w4 hBw4 hCw4
 have hzw4:=hCw4.size
 replace hBw4:Blk w4 w.heap.size (((cts n).take (k+1)).map (nv .i64)++List.replicate (6-(k+1)) (vI 0)) 224:=zrC hk▸hBw4
 refine zc 1 [(4,(.slice (pA w.heap.size 0) (k+1) 6))] (zf (zb (ze (zd (zc 1 [(15,(vI (cnt n k)))] (za (zF (some 16) ((((cnt n k:Nat):Int)==((1:Nat):Int))) (fun hc16=> ?_) (fun hc16=> ?_))))))))
 ·replace hc16:cnt n k=1:=by have:=zbJ hc16;omega
  obtain rfl:=(zgp hp0 hp1 hk).1 hc16
  refine zf (zb (zv (ze (zd (zc 2 [(2,(.slice (pA w.heap.size 0) (hgt n+1) 6)),(17,(.slice (pA w.heap.size 0) (hgt n+1) 6))] (zf (zb (zj (zB ?_)))))))))
  refine zw (zw (zB (zl (.slice (pA w.heap.size 0) (hgt n+1) 6) ?_)))
  have hBf:=hBw4
  rw [List.take_of_length_le (by rw [zea];omega)] at hBf
  exact ⟨_,_,rfl,Es.of_pre hBf (zea n).symm (by omega) (by decide) (by omega) (by omega),(Ext.own (hEl.trans hEw3) hCw4 (by omega))⟩
 ·replace hc16:¬(cnt n k=1):=by have:=zbI hc16;omega
  have hlt:k<hgt n:=by rcases Nat.lt_or_ge k (hgt n) with h | h;exact h;exact absurd ((zgp hp0 hp1 hk).2 (by omega)) hc16
  refine zf (zb (zh (zk (zi (zb (zd (zc 1 [(9,(vI (cnt n k)))] (za (zp (zm6 (cnt n k) _ (by omega)) ?_)))))))))
  rintro _ _ ⟨rfl,rfl⟩
  refine zc 1 [(5,(vI (up4 (cnt n k))))] (zf (zz (zL (k+1) ?_ ?_)))
  ·exact ⟨by omega,hBw4,(Ext.own (hEl.trans hEw3) hCw4 (by omega))⟩
  ·first | omega |(dsimp only;omega)
theorem zjr (n:Nat) (w:World) (hp0:1≤n) (hp1:n≤4096):
  Calls Tryz.prog 107 #[(vI n)] w (Ret fun r w'=>∃a1 ca1,r=(.tuple #[(vA [(vI n),(.slice a1 (hgt n+1) ca1)]),(vI 0)])∧Es (nv .i64) w.heap.size w'.heap.size w' a1 (hgt n+1) ca1 (cts n)∧Ext w w'):=by
 refine zD (n:=15) (σ:= [(0,(vI n))]) Tryz.func107 rfl ?_
 refine ze (zd (za (zaf ([(vI 0),(.slice none 0 0)]) 179 ?_)))
 intro w1 hBw1 hEw1 hzw1 hlw1
 refine zc 1 [(3,(vI 0))] (zf (zb (ze (ze (zd (zc 1 [(5,(vI n))] (za (zp (zmv n _ (by omega) (by omega)) ?_))))))))
 rintro _ _ ⟨rfl,rfl⟩
 refine zc 1 [(4,(vI 0))] (zf (zb (ze (zd (zc 2 [(8,vF),(7,(vI 0))] (zf (zb (zh (zk ?_)))))))))
 refine zb (ze (zd (zc 2 [(12,(vI n)),(11,(vI n))] (za (zp (zqa n _ (by omega) (by omega)) ?_)))))
 rintro _ w2 ⟨a1,ca1,rfl,hFz2_0,hEw2⟩
 have hzw2:=hEw2.size
 have hlea1:=hFz2_0.le
 refine zc 1 [(14,(vA [(vI n),(.slice a1 (hgt n+1) ca1)]))] (za (zG 179 w.heap.size 0 179 (vA [(vI n),(.slice a1 (hgt n+1) ca1)]) ([(vI 0),(.slice none 0 0)]) ([(vI n),(.slice a1 (hgt n+1) ca1)]) (hBw1.ext hEw2) (by kernel_rfl) (by first | decide |(simp;done)|(simp;omega)) (by simp [Value.oneCell']) ?_))
 intro w3 hBw3 hCw3
 have hzw3:=hCw3.size
 rw [zy _ _ (by kernel_rfl)] at hBw3
 exact zc 1 [(3,(vI 0))] (zf (zb (zj (za7 (show zX Tryz.prog 15 _ _ (.cell 2 179) (vA [(vI n),(.slice a1 (hgt n+1) ca1)]) from ⟨⟨w.heap.size,0,none⟩,(by kernel_rfl),zI (T:=179) (vs:= [(vI n),(.slice a1 (hgt n+1) ca1)]) (hBw3).all (by kernel_rfl)⟩) (show zX Tryz.prog 15 _ _ (.tmp 3) (vI 0) by (show _=_;kernel_rfl)) (⟨_,_,rfl,((hFz2_0.chg hCw3)).now.mono (by omega) (Nat.le_refl _),(Ext.own (hEw1.trans hEw2) hCw3 (by omega))⟩)))))
theorem zmu (n:Int) (w:World) (hp0:¬(1≤n∧n≤4096)):
  Calls Tryz.prog 107 #[(.int .i64 n)] w (Ret fun r w'=>r=(.tuple #[(vA [(vI 0),(.slice none 0 0)]),(vI 1)])∧Ext w w'):=by
 refine zD (n:=15) (σ:= [(0,(.int .i64 n))]) Tryz.func107 rfl ?_
 refine ze (zd (za (zaf ([(vI 0),(.slice none 0 0)]) 179 ?_)))
 intro w1 hBw1 hEw1 hzw1 hlw1
 refine zc 1 [(3,(vI 0))] (zf (zb (ze (ze (zd (zc 1 [(5,(.int .i64 n))] (za (zp (zn7 n _ (by omega)) ?_))))))))
 rintro _ _ ⟨rfl,rfl⟩
 refine zc 1 [(4,(vI 1))] (zf (zb (ze (zd (zc 2 [(8,vT),(7,(vI 1))] (zf (zb (zv (ze ?_)))))))))
 refine zd (zc 2 [(10,(vI 1)),(9,(vA [(vI 0),(.slice none 0 0)]))] (za (zG 179 w.heap.size 0 179 (vA [(vI 0),(.slice none 0 0)]) ([(vI 0),(.slice none 0 0)]) ([(vI 0),(.slice none 0 0)]) hBw1 (by kernel_rfl) (by first | decide |(simp;done)|(simp;omega)) (by simp [Value.oneCell']) ?_)))
 intro w2 hBw2 hCw2
 have hzw2:=hCw2.size
 rw [zy _ _ (by kernel_rfl)] at hBw2
 exact zc 1 [(3,(vI 1))] (zf (zb (zj (zw (za7 (show zX Tryz.prog 15 _ _ (.cell 2 179) (vA [(vI 0),(.slice none 0 0)]) from ⟨⟨w.heap.size,0,none⟩,(by kernel_rfl),zI (T:=179) (vs:= [(vI 0),(.slice none 0 0)]) (hBw2).all (by kernel_rfl)⟩) (show zX Tryz.prog 15 _ _ (.tmp 3) (vI 1) by (show _=_;kernel_rfl)) (⟨rfl,(Ext.own hEw1 hCw2 (by omega))⟩))))))
end Go.Proofs.YtkmhgepdhilllaaGreatDoor
namespace Go.Proofs.YtkmhgepdhilllaaGreatDoor
open Go Go.RowKit Go.Cs
set_option maxRecDepth 100000
theorem ztB (n:Nat) (l:Nat) (j:Nat) (w:World) (hp0:1≤n) (hp1:n≤4096) (hp2:l≤hgt n) (hp3:j<cnt n l):
  Calls Tryz.prog 108 #[(vI n),(vA [(vI l),(vI j)])] w (Ret fun r w'=>∃a1 ca1,r=(.tuple #[(vA [(vI n),(.slice a1 (hgt n+1) ca1)]),(vI 0)])∧Es (nv .i64) w.heap.size w'.heap.size w' a1 (hgt n+1) ca1 (cts n)∧Ext w w'):=by
 refine zD (n:=46) (σ:= [(0,(vI n)),(1,(vA [(vI l),(vI j)]))]) Tryz.func108 rfl ?_
 have h5:=zar n
 refine ze (zd (za (zaa (Instr.box 89 (vA [(vI l),(vI j)])) (vP w.heap.size 0) ([(vI l),(vI j)]) 89 ?_)))
 intro w1 hBw1 hEw1 hzw1 hlw1
 refine za (zaf ([(vI 0),(.slice none 0 0)]) 179 ?_)
 intro w2 hBw2 hEw2 hzw2 hlw2
 refine zc 1 [(5,(vI 0))] (zf (zb (ze (zd (zc 1 [(9,(vI n))] (za (zp (zjr n _ (by omega) (by omega)) ?_)))))))
 rintro _ w3 ⟨a1,ca1,rfl,hFz1_0,hEw3⟩
 have hzw3:=hEw3.size
 have hlea1:=hFz1_0.le
 refine zc 3 [(12,(vI 0)),(11,(vA [(vI n),(.slice a1 (hgt n+1) ca1)])),(8,(.tuple #[(vA [(vI n),(.slice a1 (hgt n+1) ca1)]),(vI 0)]))] (zal ([(vI n),(.slice a1 (hgt n+1) ca1)]) 179 rfl (by simp [Value.oneCell']) ?_)
 intro w4 hBw4 hEw4 hzw4 hlw4
 refine zc 1 [(7,(vI 0))] (zf (zb (ze (ze (zab 31 (fun w5 hEw5 hzw5 hT28=> ?_))))))
 refine zg hT28 [(0,13,(vI 0))] 1 (zn hT28 1 vT (zaN (((0:Nat):Int)==((0:Nat):Int)) (zaq)) (zg hT28 [(2,15,vT),(3,16,(vP w.heap.size 0))] 2 ?_))
 have hK1:=((((hBw1.ext hEw2).ext hEw3).ext hEw4).ext hEw5)
 refine zA hT28 4 w.heap.size 0 (fun w' hC=>((hK1.ext hC).cell rfl)) (zn hT28 5 vF (zaN (decide (((l:Nat):Int)<((0:Nat):Int))) (zcH)) (zg hT28 [(6,19,vF),(7,20,(vP w.heap.size 0))] 2 (zA hT28 8 w.heap.size 0 (fun w' hC=>((hK1.ext hC).cell rfl)) (zg hT28 [(9,22,(vP w3.heap.size 1))] 1 (zA hT28 10 w3.heap.size 1 (fun w' hC=>(((hBw4.ext hEw5).ext hC).cell rfl)) (zg hT28 [(11,24,(vI (hgt n+1)))] 1 (zn hT28 12 vF (zaN (decide (((l:Nat):Int)≥((hgt n+1:Nat):Int))) (zcH)) (zg hT28 [(13,26,vF),(14,27,vF),(15,28,(vP w.heap.size 1))] 3 (zA hT28 16 w.heap.size 1 (fun w' hC=>((hK1.ext hC).cell rfl)) ?_)))))))))
 refine zn hT28 17 vF (zaN (decide (((j:Nat):Int)<((0:Nat):Int))) (zcH)) (zg hT28 [(18,31,vF),(19,32,vF),(20,33,(vP w.heap.size 1))] 3 (zA hT28 21 w.heap.size 1 (fun w' hC=>((hK1.ext hC).cell rfl)) (zg hT28 [(22,35,(vP w3.heap.size 1))] 1 (zA hT28 23 w3.heap.size 1 (fun w' hC=>(((hBw4.ext hEw5).ext hC).cell rfl)) (zg hT28 [(24,37,(vP w.heap.size 0))] 1 (zA hT28 25 w.heap.size 0 (fun w' hC=>((hK1.ext hC).cell rfl)) ?_))))))
 obtain ⟨b1,o1,rfl⟩:=hFz1_0.addr (by omega)
 refine zas hT28 26 b1 o1 (hgt n+1) ca1 l 1 (zA hT28 27 b1 (o1+l*1) (fun w' hC=>((((hFz1_0.ext hEw4).ext hEw5).ext hC).celln (by omega))) (zn hT28 28 vF (zaN (decide (((j:Nat):Int)≥((gt (cts n) l:Nat):Int))) (zcH (by rw [ziS hp2];omega))) (zg hT28 [(29,42,vF),(30,43,vF)] 2 (zE (zb (zh (zk (zb (ze ?_)))))))))
 refine zd (za (zO w3.heap.size 0 ((hBw4.ext hEw5).all) ?_))
 refine zc 1 [(45,(vI 0))] ?_
 have hK2:=(((hBw2.ext hEw3).ext hEw4).ext hEw5)
 refine za (zG 179 w1.heap.size 0 179 (vA [(vI n),(.slice (pA b1 o1) (hgt n+1) ca1)]) ([(vI 0),(.slice none 0 0)]) ([(vI n),(.slice (pA b1 o1) (hgt n+1) ca1)]) hK2 (by kernel_rfl) (by first | decide |(simp;done)|(simp;omega)) (by simp [Value.oneCell']) ?_)
 have hK3:=(((hBw2.ext hEw3).ext hEw4).ext hEw5)
 intro w6 hBw6 hCw6
 have hzw6:=hCw6.size
 rw [zy _ _ (by kernel_rfl)] at hBw6
 refine zc 1 [(5,(vI 0))] (zf (zb (zj (za7 (show zX Tryz.prog 46 _ _ (.cell 4 179) (vA [(vI n),(.slice (pA b1 o1) (hgt n+1) ca1)]) from ⟨⟨w1.heap.size,0,none⟩,(by kernel_rfl),zI (T:=179) (vs:= [(vI n),(.slice (pA b1 o1) (hgt n+1) ca1)]) (hBw6).all (by kernel_rfl)⟩) (show zX Tryz.prog 46 _ _ (.tmp 5) (vI 0) by (show _=_;kernel_rfl)) ?_))))
 have hK4:=(((hFz1_0.ext hEw4).ext hEw5).chg hCw6)
 have hX1:Ext w w6:=(Ext.own ((((hEw1.trans hEw2).trans hEw3).trans hEw4).trans hEw5) hCw6 (by omega))
 exact ⟨_,_,rfl,(hK4).now.mono (by omega) (Nat.le_refl _),hX1⟩
theorem zti (n:Int) (l:Int) (j:Int) (w:World) (hp0:¬(1≤n∧n≤4096)):
  Calls Tryz.prog 108 #[(.int .i64 n),(vA [(.int .i64 l),(.int .i64 j)])] w (Ret fun r w'=>∃(a0:Int) (a1:Option Addr) (na1:Nat) (ca1:Nat),r=(.tuple #[(vA [(.int .i64 a0),(.slice a1 na1 ca1)]),(vI 1)])∧Ext w w'):=by
 refine zD (n:=46) (σ:= [(0,(.int .i64 n)),(1,(vA [(.int .i64 l),(.int .i64 j)]))]) Tryz.func108 rfl ?_
 refine ze (zd (za (zaa (Instr.box 89 (vA [(.int .i64 l),(.int .i64 j)])) (vP w.heap.size 0) ([(.int .i64 l),(.int .i64 j)]) 89 ?_)))
 intro w1 hBw1 hEw1 hzw1 hlw1
 refine za (zaf ([(vI 0),(.slice none 0 0)]) 179 ?_)
 intro w2 hBw2 hEw2 hzw2 hlw2
 refine zc 1 [(5,(vI 0))] (zf (zb (ze (zd (zc 1 [(9,(.int .i64 n))] (za (zp (zmu n _ (by omega)) ?_)))))))
 rintro _ w3 ⟨rfl,hEw3⟩
 have hzw3:=hEw3.size
 refine zc 3 [(12,(vI 1)),(11,(vA [(vI 0),(.slice none 0 0)])),(8,(.tuple #[(vA [(vI 0),(.slice none 0 0)]),(vI 1)]))] (zal ([(vI 0),(.slice none 0 0)]) 179 rfl (by simp [Value.oneCell']) ?_)
 intro w4 hBw4 hEw4 hzw4 hlw4
 refine zc 1 [(7,(vI 1))] (zf (zb (ze (ze (zab 31 (fun w5 hEw5 hzw5 hT60=> ?_))))))
 refine zg hT60 [(0,13,(vI 1))] 1 (zn hT60 1 vF (zaN (((1:Nat):Int)==((0:Nat):Int)) (zb8)) (zg hT60 [(2,15,vF),(3,16,undef),(4,17,undef),(5,18,undef),(6,19,undef),(7,20,undef),(8,21,undef),(9,22,undef),(10,23,undef),(11,24,undef),(12,25,undef),(13,26,undef),(14,27,undef),(15,28,undef),(16,29,undef),(17,30,undef),(18,31,undef),(19,32,undef),(20,33,undef),(21,34,undef),(22,35,undef),(23,36,undef),(24,37,undef),(25,38,undef),(26,39,undef),(27,40,undef),(28,41,undef),(29,42,undef),(30,43,vF)] 29 (zE (zb (zh (zk (zb (ze (zd ?_)))))))))
 refine za (zO w3.heap.size 0 ((hBw4.ext hEw5).all) ?_)
 refine zc 1 [(45,(vI 1))] ?_
 have hK1:=(((hBw2.ext hEw3).ext hEw4).ext hEw5)
 refine za (zG 179 w1.heap.size 0 179 (vA [(vI 0),(.slice none 0 0)]) ([(vI 0),(.slice none 0 0)]) ([(vI 0),(.slice none 0 0)]) hK1 (by kernel_rfl) (by first | decide |(simp;done)|(simp;omega)) (by simp [Value.oneCell']) ?_)
 have hK2:=(((hBw2.ext hEw3).ext hEw4).ext hEw5)
 intro w6 hBw6 hCw6
 have hzw6:=hCw6.size
 rw [zy _ _ (by kernel_rfl)] at hBw6
 refine zc 1 [(5,(vI 1))] (zf (zb (zj (za7 (show zX Tryz.prog 46 _ _ (.cell 4 179) (vA [(vI 0),(.slice none 0 0)]) from ⟨⟨w1.heap.size,0,none⟩,(by kernel_rfl),zI (T:=179) (vs:= [(vI 0),(.slice none 0 0)]) (hBw6).all (by kernel_rfl)⟩) (show zX Tryz.prog 46 _ _ (.tmp 5) (vI 1) by (show _=_;kernel_rfl)) ?_))))
 have hX1:Ext w w6:=(Ext.own ((((hEw1.trans hEw2).trans hEw3).trans hEw4).trans hEw5) hCw6 (by omega))
 exact ⟨_,_,_,_,rfl,hX1⟩
theorem zuj (n:Nat) (l:Int) (j:Int) (w:World) (hp0:1≤n) (hp1:n≤4096) (hp2:l<0):
  Calls Tryz.prog 108 #[(vI n),(vA [(.int .i64 l),(.int .i64 j)])] w (Ret fun r w'=>∃(a0:Int) (a1:Option Addr) (na1:Nat) (ca1:Nat),r=(.tuple #[(vA [(.int .i64 a0),(.slice a1 na1 ca1)]),(vI 1)])∧Ext w w'):=by
 refine zD (n:=46) (σ:= [(0,(vI n)),(1,(vA [(.int .i64 l),(.int .i64 j)]))]) Tryz.func108 rfl ?_
 refine ze (zd (za (zaa (Instr.box 89 (vA [(.int .i64 l),(.int .i64 j)])) (vP w.heap.size 0) ([(.int .i64 l),(.int .i64 j)]) 89 ?_)))
 intro w1 hBw1 hEw1 hzw1 hlw1
 refine za (zaf ([(vI 0),(.slice none 0 0)]) 179 ?_)
 intro w2 hBw2 hEw2 hzw2 hlw2
 refine zc 1 [(5,(vI 0))] (zf (zb (ze (zd (zc 1 [(9,(vI n))] (za (zp (zjr n _ (by omega) (by omega)) ?_)))))))
 rintro _ w3 ⟨a1,ca1,rfl,hFz1_0,hEw3⟩
 have hzw3:=hEw3.size
 have hlea1:=hFz1_0.le
 refine zc 3 [(12,(vI 0)),(11,(vA [(vI n),(.slice a1 (hgt n+1) ca1)])),(8,(.tuple #[(vA [(vI n),(.slice a1 (hgt n+1) ca1)]),(vI 0)]))] (zal ([(vI n),(.slice a1 (hgt n+1) ca1)]) 179 rfl (by simp [Value.oneCell']) ?_)
 intro w4 hBw4 hEw4 hzw4 hlw4
 refine zc 1 [(7,(vI 0))] (zf (zb (ze (ze (zab 31 (fun w5 hEw5 hzw5 hT87=> ?_))))))
 refine zg hT87 [(0,13,(vI 0))] 1 (zn hT87 1 vT (zaN (((0:Nat):Int)==((0:Nat):Int)) (zaq)) (zg hT87 [(2,15,vT),(3,16,(vP w.heap.size 0))] 2 ?_))
 have hK1:=((((hBw1.ext hEw2).ext hEw3).ext hEw4).ext hEw5)
 refine zA hT87 4 w.heap.size 0 (fun w' hC=>((hK1.ext hC).cell rfl)) (zn hT87 5 vT (zaN (decide (l<((0:Nat):Int))) (zgk)) (zg hT87 [(6,19,vT),(7,20,undef),(8,21,undef),(9,22,undef),(10,23,undef),(11,24,undef),(12,25,undef),(13,26,vT),(14,27,vT),(15,28,undef),(16,29,undef),(17,30,undef),(18,31,vT),(19,32,vT),(20,33,undef),(21,34,undef),(22,35,undef),(23,36,undef),(24,37,undef),(25,38,undef),(26,39,undef),(27,40,undef),(28,41,undef),(29,42,vT),(30,43,vT)] 25 (zE (zb (zv (zd (zc 1 [(7,(vI 1))] (zf (zb ?_)))))))))
 refine ze (zd (za (zO w3.heap.size 0 ((hBw4.ext hEw5).all) ?_)))
 refine zc 1 [(45,(vI 1))] ?_
 have hK2:=(((hBw2.ext hEw3).ext hEw4).ext hEw5)
 refine za (zG 179 w1.heap.size 0 179 (vA [(vI n),(.slice a1 (hgt n+1) ca1)]) ([(vI 0),(.slice none 0 0)]) ([(vI n),(.slice a1 (hgt n+1) ca1)]) hK2 (by kernel_rfl) (by first | decide |(simp;done)|(simp;omega)) (by simp [Value.oneCell']) ?_)
 have hK3:=(((hBw2.ext hEw3).ext hEw4).ext hEw5)
 intro w6 hBw6 hCw6
 have hzw6:=hCw6.size
 rw [zy _ _ (by kernel_rfl)] at hBw6
 refine zc 1 [(5,(vI 1))] (zf (zb (zj (za7 (show zX Tryz.prog 46 _ _ (.cell 4 179) (vA [(vI n),(.slice a1 (hgt n+1) ca1)]) from ⟨⟨w1.heap.size,0,none⟩,(by kernel_rfl),zI (T:=179) (vs:= [(vI n),(.slice a1 (hgt n+1) ca1)]) (hBw6).all (by kernel_rfl)⟩) (show zX Tryz.prog 46 _ _ (.tmp 5) (vI 1) by (show _=_;kernel_rfl)) ?_))))
 have hX1:Ext w w6:=(Ext.own ((((hEw1.trans hEw2).trans hEw3).trans hEw4).trans hEw5) hCw6 (by omega))
 exact ⟨_,_,_,_,rfl,hX1⟩
theorem zto (n:Nat) (l:Int) (j:Int) (w:World) (hp0:1≤n) (hp1:n≤4096) (hp2:(hgt n:Int)<l):
  Calls Tryz.prog 108 #[(vI n),(vA [(.int .i64 l),(.int .i64 j)])] w (Ret fun r w'=>∃(a0:Int) (a1:Option Addr) (na1:Nat) (ca1:Nat),r=(.tuple #[(vA [(.int .i64 a0),(.slice a1 na1 ca1)]),(vI 1)])∧Ext w w'):=by
 refine zD (n:=46) (σ:= [(0,(vI n)),(1,(vA [(.int .i64 l),(.int .i64 j)]))]) Tryz.func108 rfl ?_
 refine ze (zd (za (zaa (Instr.box 89 (vA [(.int .i64 l),(.int .i64 j)])) (vP w.heap.size 0) ([(.int .i64 l),(.int .i64 j)]) 89 ?_)))
 intro w1 hBw1 hEw1 hzw1 hlw1
 refine za (zaf ([(vI 0),(.slice none 0 0)]) 179 ?_)
 intro w2 hBw2 hEw2 hzw2 hlw2
 refine zc 1 [(5,(vI 0))] (zf (zb (ze (zd (zc 1 [(9,(vI n))] (za (zp (zjr n _ (by omega) (by omega)) ?_)))))))
 rintro _ w3 ⟨a1,ca1,rfl,hFz1_0,hEw3⟩
 have hzw3:=hEw3.size
 have hlea1:=hFz1_0.le
 refine zc 3 [(12,(vI 0)),(11,(vA [(vI n),(.slice a1 (hgt n+1) ca1)])),(8,(.tuple #[(vA [(vI n),(.slice a1 (hgt n+1) ca1)]),(vI 0)]))] (zal ([(vI n),(.slice a1 (hgt n+1) ca1)]) 179 rfl (by simp [Value.oneCell']) ?_)
 intro w4 hBw4 hEw4 hzw4 hlw4
 refine zc 1 [(7,(vI 0))] (zf (zb (ze (ze (zab 31 (fun w5 hEw5 hzw5 hT116=> ?_))))))
 refine zg hT116 [(0,13,(vI 0))] 1 (zn hT116 1 vT (zaN (((0:Nat):Int)==((0:Nat):Int)) (zaq)) (zg hT116 [(2,15,vT),(3,16,(vP w.heap.size 0))] 2 ?_))
 have hK1:=((((hBw1.ext hEw2).ext hEw3).ext hEw4).ext hEw5)
 refine zA hT116 4 w.heap.size 0 (fun w' hC=>((hK1.ext hC).cell rfl)) (zn hT116 5 vF (zaN (decide (l<((0:Nat):Int))) (zcH)) (zg hT116 [(6,19,vF),(7,20,(vP w.heap.size 0))] 2 (zA hT116 8 w.heap.size 0 (fun w' hC=>((hK1.ext hC).cell rfl)) (zg hT116 [(9,22,(vP w3.heap.size 1))] 1 (zA hT116 10 w3.heap.size 1 (fun w' hC=>(((hBw4.ext hEw5).ext hC).cell rfl)) (zg hT116 [(11,24,(vI (hgt n+1)))] 1 (zn hT116 12 vT (zaN (decide (l≥((hgt n+1:Nat):Int))) (zgk)) (zg hT116 [(13,26,vT),(14,27,vT),(15,28,undef),(16,29,undef),(17,30,undef),(18,31,vT),(19,32,vT),(20,33,undef),(21,34,undef),(22,35,undef),(23,36,undef),(24,37,undef),(25,38,undef),(26,39,undef),(27,40,undef),(28,41,undef),(29,42,vT),(30,43,vT)] 18 (zE ?_)))))))))
 refine zb (zv (zd (zc 1 [(7,(vI 1))] (zf (zb (ze (zd (za (zO w3.heap.size 0 ((hBw4.ext hEw5).all) ?_)))))))))
 refine zc 1 [(45,(vI 1))] ?_
 have hK2:=(((hBw2.ext hEw3).ext hEw4).ext hEw5)
 refine za (zG 179 w1.heap.size 0 179 (vA [(vI n),(.slice a1 (hgt n+1) ca1)]) ([(vI 0),(.slice none 0 0)]) ([(vI n),(.slice a1 (hgt n+1) ca1)]) hK2 (by kernel_rfl) (by first | decide |(simp;done)|(simp;omega)) (by simp [Value.oneCell']) ?_)
 have hK3:=(((hBw2.ext hEw3).ext hEw4).ext hEw5)
 intro w6 hBw6 hCw6
 have hzw6:=hCw6.size
 rw [zy _ _ (by kernel_rfl)] at hBw6
 refine zc 1 [(5,(vI 1))] (zf (zb (zj (za7 (show zX Tryz.prog 46 _ _ (.cell 4 179) (vA [(vI n),(.slice a1 (hgt n+1) ca1)]) from ⟨⟨w1.heap.size,0,none⟩,(by kernel_rfl),zI (T:=179) (vs:= [(vI n),(.slice a1 (hgt n+1) ca1)]) (hBw6).all (by kernel_rfl)⟩) (show zX Tryz.prog 46 _ _ (.tmp 5) (vI 1) by (show _=_;kernel_rfl)) ?_))))
 have hX1:Ext w w6:=(Ext.own ((((hEw1.trans hEw2).trans hEw3).trans hEw4).trans hEw5) hCw6 (by omega))
 exact ⟨_,_,_,_,rfl,hX1⟩
theorem zuq (n:Nat) (l:Nat) (j:Int) (w:World) (hp0:1≤n) (hp1:n≤4096) (hp2:l≤hgt n) (hp3:j<0):
  Calls Tryz.prog 108 #[(vI n),(vA [(vI l),(.int .i64 j)])] w (Ret fun r w'=>∃(a0:Int) (a1:Option Addr) (na1:Nat) (ca1:Nat),r=(.tuple #[(vA [(.int .i64 a0),(.slice a1 na1 ca1)]),(vI 1)])∧Ext w w'):=by
 refine zD (n:=46) (σ:= [(0,(vI n)),(1,(vA [(vI l),(.int .i64 j)]))]) Tryz.func108 rfl ?_
 refine ze (zd (za (zaa (Instr.box 89 (vA [(vI l),(.int .i64 j)])) (vP w.heap.size 0) ([(vI l),(.int .i64 j)]) 89 ?_)))
 intro w1 hBw1 hEw1 hzw1 hlw1
 refine za (zaf ([(vI 0),(.slice none 0 0)]) 179 ?_)
 intro w2 hBw2 hEw2 hzw2 hlw2
 refine zc 1 [(5,(vI 0))] (zf (zb (ze (zd (zc 1 [(9,(vI n))] (za (zp (zjr n _ (by omega) (by omega)) ?_)))))))
 rintro _ w3 ⟨a1,ca1,rfl,hFz1_0,hEw3⟩
 have hzw3:=hEw3.size
 have hlea1:=hFz1_0.le
 refine zc 3 [(12,(vI 0)),(11,(vA [(vI n),(.slice a1 (hgt n+1) ca1)])),(8,(.tuple #[(vA [(vI n),(.slice a1 (hgt n+1) ca1)]),(vI 0)]))] (zal ([(vI n),(.slice a1 (hgt n+1) ca1)]) 179 rfl (by simp [Value.oneCell']) ?_)
 intro w4 hBw4 hEw4 hzw4 hlw4
 refine zc 1 [(7,(vI 0))] (zf (zb (ze (ze (zab 31 (fun w5 hEw5 hzw5 hT145=> ?_))))))
 refine zg hT145 [(0,13,(vI 0))] 1 (zn hT145 1 vT (zaN (((0:Nat):Int)==((0:Nat):Int)) (zaq)) (zg hT145 [(2,15,vT),(3,16,(vP w.heap.size 0))] 2 ?_))
 have hK1:=((((hBw1.ext hEw2).ext hEw3).ext hEw4).ext hEw5)
 refine zA hT145 4 w.heap.size 0 (fun w' hC=>((hK1.ext hC).cell rfl)) (zn hT145 5 vF (zaN (decide (((l:Nat):Int)<((0:Nat):Int))) (zcH)) (zg hT145 [(6,19,vF),(7,20,(vP w.heap.size 0))] 2 (zA hT145 8 w.heap.size 0 (fun w' hC=>((hK1.ext hC).cell rfl)) (zg hT145 [(9,22,(vP w3.heap.size 1))] 1 (zA hT145 10 w3.heap.size 1 (fun w' hC=>(((hBw4.ext hEw5).ext hC).cell rfl)) (zg hT145 [(11,24,(vI (hgt n+1)))] 1 (zn hT145 12 vF (zaN (decide (((l:Nat):Int)≥((hgt n+1:Nat):Int))) (zcH)) (zg hT145 [(13,26,vF),(14,27,vF),(15,28,(vP w.heap.size 1))] 3 (zA hT145 16 w.heap.size 1 (fun w' hC=>((hK1.ext hC).cell rfl)) ?_)))))))))
 refine zn hT145 17 vT (zaN (decide (j<((0:Nat):Int))) (zgk)) (zg hT145 [(18,31,vT),(19,32,vT),(20,33,undef),(21,34,undef),(22,35,undef),(23,36,undef),(24,37,undef),(25,38,undef),(26,39,undef),(27,40,undef),(28,41,undef),(29,42,vT),(30,43,vT)] 13 (zE (zb (zv (zd (zc 1 [(7,(vI 1))] (zf (zb (ze ?_)))))))))
 refine zd (za (zO w3.heap.size 0 ((hBw4.ext hEw5).all) ?_))
 refine zc 1 [(45,(vI 1))] ?_
 have hK2:=(((hBw2.ext hEw3).ext hEw4).ext hEw5)
 refine za (zG 179 w1.heap.size 0 179 (vA [(vI n),(.slice a1 (hgt n+1) ca1)]) ([(vI 0),(.slice none 0 0)]) ([(vI n),(.slice a1 (hgt n+1) ca1)]) hK2 (by kernel_rfl) (by first | decide |(simp;done)|(simp;omega)) (by simp [Value.oneCell']) ?_)
 have hK3:=(((hBw2.ext hEw3).ext hEw4).ext hEw5)
 intro w6 hBw6 hCw6
 have hzw6:=hCw6.size
 rw [zy _ _ (by kernel_rfl)] at hBw6
 refine zc 1 [(5,(vI 1))] (zf (zb (zj (za7 (show zX Tryz.prog 46 _ _ (.cell 4 179) (vA [(vI n),(.slice a1 (hgt n+1) ca1)]) from ⟨⟨w1.heap.size,0,none⟩,(by kernel_rfl),zI (T:=179) (vs:= [(vI n),(.slice a1 (hgt n+1) ca1)]) (hBw6).all (by kernel_rfl)⟩) (show zX Tryz.prog 46 _ _ (.tmp 5) (vI 1) by (show _=_;kernel_rfl)) ?_))))
 have hX1:Ext w w6:=(Ext.own ((((hEw1.trans hEw2).trans hEw3).trans hEw4).trans hEw5) hCw6 (by omega))
 exact ⟨_,_,_,_,rfl,hX1⟩
theorem zt0 (n:Nat) (l:Nat) (j:Nat) (w:World) (hp0:1≤n) (hp1:n≤4096) (hp2:l≤hgt n) (hp3:cnt n l≤j):
  Calls Tryz.prog 108 #[(vI n),(vA [(vI l),(vI j)])] w (Ret fun r w'=>∃(a0:Int) (a1:Option Addr) (na1:Nat) (ca1:Nat),r=(.tuple #[(vA [(.int .i64 a0),(.slice a1 na1 ca1)]),(vI 1)])∧Ext w w'):=by
 refine zD (n:=46) (σ:= [(0,(vI n)),(1,(vA [(vI l),(vI j)]))]) Tryz.func108 rfl ?_
 have h5:=zar n
 refine ze (zd (za (zaa (Instr.box 89 (vA [(vI l),(vI j)])) (vP w.heap.size 0) ([(vI l),(vI j)]) 89 ?_)))
 intro w1 hBw1 hEw1 hzw1 hlw1
 refine za (zaf ([(vI 0),(.slice none 0 0)]) 179 ?_)
 intro w2 hBw2 hEw2 hzw2 hlw2
 refine zc 1 [(5,(vI 0))] (zf (zb (ze (zd (zc 1 [(9,(vI n))] (za (zp (zjr n _ (by omega) (by omega)) ?_)))))))
 rintro _ w3 ⟨a1,ca1,rfl,hFz1_0,hEw3⟩
 have hzw3:=hEw3.size
 have hlea1:=hFz1_0.le
 refine zc 3 [(12,(vI 0)),(11,(vA [(vI n),(.slice a1 (hgt n+1) ca1)])),(8,(.tuple #[(vA [(vI n),(.slice a1 (hgt n+1) ca1)]),(vI 0)]))] (zal ([(vI n),(.slice a1 (hgt n+1) ca1)]) 179 rfl (by simp [Value.oneCell']) ?_)
 intro w4 hBw4 hEw4 hzw4 hlw4
 refine zc 1 [(7,(vI 0))] (zf (zb (ze (ze (zab 31 (fun w5 hEw5 hzw5 hT176=> ?_))))))
 refine zg hT176 [(0,13,(vI 0))] 1 (zn hT176 1 vT (zaN (((0:Nat):Int)==((0:Nat):Int)) (zaq)) (zg hT176 [(2,15,vT),(3,16,(vP w.heap.size 0))] 2 ?_))
 have hK1:=((((hBw1.ext hEw2).ext hEw3).ext hEw4).ext hEw5)
 refine zA hT176 4 w.heap.size 0 (fun w' hC=>((hK1.ext hC).cell rfl)) (zn hT176 5 vF (zaN (decide (((l:Nat):Int)<((0:Nat):Int))) (zcH)) (zg hT176 [(6,19,vF),(7,20,(vP w.heap.size 0))] 2 (zA hT176 8 w.heap.size 0 (fun w' hC=>((hK1.ext hC).cell rfl)) (zg hT176 [(9,22,(vP w3.heap.size 1))] 1 (zA hT176 10 w3.heap.size 1 (fun w' hC=>(((hBw4.ext hEw5).ext hC).cell rfl)) (zg hT176 [(11,24,(vI (hgt n+1)))] 1 (zn hT176 12 vF (zaN (decide (((l:Nat):Int)≥((hgt n+1:Nat):Int))) (zcH)) (zg hT176 [(13,26,vF),(14,27,vF),(15,28,(vP w.heap.size 1))] 3 (zA hT176 16 w.heap.size 1 (fun w' hC=>((hK1.ext hC).cell rfl)) ?_)))))))))
 refine zn hT176 17 vF (zaN (decide (((j:Nat):Int)<((0:Nat):Int))) (zcH)) (zg hT176 [(18,31,vF),(19,32,vF),(20,33,(vP w.heap.size 1))] 3 (zA hT176 21 w.heap.size 1 (fun w' hC=>((hK1.ext hC).cell rfl)) (zg hT176 [(22,35,(vP w3.heap.size 1))] 1 (zA hT176 23 w3.heap.size 1 (fun w' hC=>(((hBw4.ext hEw5).ext hC).cell rfl)) (zg hT176 [(24,37,(vP w.heap.size 0))] 1 (zA hT176 25 w.heap.size 0 (fun w' hC=>((hK1.ext hC).cell rfl)) ?_))))))
 obtain ⟨b1,o1,rfl⟩:=hFz1_0.addr (by omega)
 refine zas hT176 26 b1 o1 (hgt n+1) ca1 l 1 (zA hT176 27 b1 (o1+l*1) (fun w' hC=>((((hFz1_0.ext hEw4).ext hEw5).ext hC).celln (by omega))) (zn hT176 28 vT (zaN (decide (((j:Nat):Int)≥((gt (cts n) l:Nat):Int))) (zgk (by rw [ziS hp2];omega))) (zg hT176 [(29,42,vT),(30,43,vT)] 2 (zE (zb (zv (zd (zc 1 [(7,(vI 1))] (zf ?_)))))))))
 refine zb (ze (zd (za (zO w3.heap.size 0 ((hBw4.ext hEw5).all) ?_))))
 refine zc 1 [(45,(vI 1))] ?_
 have hK2:=(((hBw2.ext hEw3).ext hEw4).ext hEw5)
 refine za (zG 179 w1.heap.size 0 179 (vA [(vI n),(.slice (pA b1 o1) (hgt n+1) ca1)]) ([(vI 0),(.slice none 0 0)]) ([(vI n),(.slice (pA b1 o1) (hgt n+1) ca1)]) hK2 (by kernel_rfl) (by first | decide |(simp;done)|(simp;omega)) (by simp [Value.oneCell']) ?_)
 have hK3:=(((hBw2.ext hEw3).ext hEw4).ext hEw5)
 intro w6 hBw6 hCw6
 have hzw6:=hCw6.size
 rw [zy _ _ (by kernel_rfl)] at hBw6
 refine zc 1 [(5,(vI 1))] (zf (zb (zj (za7 (show zX Tryz.prog 46 _ _ (.cell 4 179) (vA [(vI n),(.slice (pA b1 o1) (hgt n+1) ca1)]) from ⟨⟨w1.heap.size,0,none⟩,(by kernel_rfl),zI (T:=179) (vs:= [(vI n),(.slice (pA b1 o1) (hgt n+1) ca1)]) (hBw6).all (by kernel_rfl)⟩) (show zX Tryz.prog 46 _ _ (.tmp 5) (vI 1) by (show _=_;kernel_rfl)) ?_))))
 have hX1:Ext w w6:=(Ext.own ((((hEw1.trans hEw2).trans hEw3).trans hEw4).trans hEw5) hCw6 (by omega))
 exact ⟨_,_,_,_,rfl,hX1⟩
theorem zrJ (n:Int) (l:Int) (j:Int) (w:World) (hp0:¬((1≤n∧n≤4096)∧(0≤l∧l≤hgt n.toNat)∧(0≤j∧j<cnt n.toNat l.toNat))):
  Calls Tryz.prog 108 #[(.int .i64 n),(vA [(.int .i64 l),(.int .i64 j)])] w (Ret fun r w'=>∃(a0:Int) (a1:Option Addr) (na1:Nat) (ca1:Nat),r=(.tuple #[(vA [(.int .i64 a0),(.slice a1 na1 ca1)]),(vI 1)])∧Ext w w'):=by
 by_cases h:1≤n∧n≤4096
 ·obtain ⟨m,rfl⟩:=Int.eq_ofNat_of_zero_le (show 0≤n by omega)
  rw [Int.toNat_natCast] at hp0
  by_cases hl:l<0
  ·exact zuj m l j w (by omega) (by omega) hl
  ·obtain ⟨k,rfl⟩:=Int.eq_ofNat_of_zero_le (show 0≤l by omega)
   rw [Int.toNat_natCast] at hp0
   by_cases hk:(hgt m:Int)<k
   ·exact zto m k j w (by omega) (by omega) hk
   ·by_cases hj:j<0
    ·exact zuq m k j w (by omega) (by omega) (by omega) hj
    ·obtain ⟨i,rfl⟩:=Int.eq_ofNat_of_zero_le (show 0≤j by omega)
     exact zt0 m k i w (by omega) (by omega) (by omega) (by omega)
 ·exact zti n l j w h
theorem zrR (n:Nat) {lo_c hi_c:Nat} {a_c:Option Addr} {n_c c_c:Nat} (l:Nat) (w:World) (h_c:Es (nv .i64) lo_c hi_c w a_c n_c c_c (cts n)) (hp0:l≤hgt n+1):
  Calls Tryz.prog 142 #[(vA [(vI n),(.slice a_c n_c c_c)]),(vI l)] w (Ret fun r w'=>r=(vI (und n l))∧Ext w w'):=by
 refine zD (n:=15) (σ:= [(0,(vA [(vI n),(.slice a_c n_c c_c)])),(1,(vI l))]) Tryz.func142 rfl ?_
 replace h_c:=h_c.now;have hle_c:=h_c.le
 have hcl:=h_c.len_eq
 rw [zea] at hcl
 have h5:=zar n
 refine ze (zd (za (zaa (Instr.box 179 (vA [(vI n),(.slice a_c n_c c_c)])) (vP w.heap.size 0) ([(vI n),(.slice a_c n_c c_c)]) 179 ?_)))
 intro w1 hBw1 hEw1 hzw1 hlw1
 refine zc 1 [(4,(vI 0))] (zf (zb (ze (ze (zd (zc 1 [(5,(vI l))] (za (zF (some 6) ((((l:Nat):Int)==((0:Nat):Int))) (fun hc6=> ?_) (fun hc6=> ?_)))))))))
 ·replace hc6:l=0:=by have:=zbJ hc6;omega
  refine zf (zb (zv (ze (zd (zc 1 [(7,(vP w.heap.size 0))] (za (zm w.heap.size 0 (hBw1.cell rfl) ?_)))))))
  exact zc 1 [(4,(vI n))] (zf (zb (zj (zw (zl (vI n) (⟨by subst hc6;rfl,hEw1⟩))))))
 ·replace hc6:¬(l=0):=by have:=zbI hc6;omega
  refine zf (zb (zh (zk (zb (ze (zd (zc 1 [(9,(vP w.heap.size 1))] (za (zm w.heap.size 1 (hBw1.cell rfl) ?_)))))))))
  refine zc 1 [(11,(vI l))] (za (zo (some 12) .i64 (IntKind.i64.wrap (((l:Nat):Int)-((1:Nat):Int))) (l-1) (zu) ?_))
  obtain ⟨b1,o1,rfl⟩:=h_c.addr (by omega)
  refine za (zah b1 o1 n_c c_c (l-1) 1 ?_)
  refine za (zm b1 (o1+(l-1)*1) ((h_c.ext hEw1).celln (by omega)) ?_)
  exact zc 1 [(4,(vI (gt (cts n) (l-1))))] (zf (zb (zj (zl (vI (gt (cts n) (l-1))) (⟨by rw [zml hc6 hp0],hEw1⟩)))))
theorem zk4 (n:Nat) (w:World) (hp0:1≤n) (hp1:n≤4096):
  Calls Tryz.prog 87 #[(vI n)] w (Ret fun r w'=>r=(.tuple #[(vI (hgt n)),(vI 0)])∧Ext w w'):=by
 refine zD (n:=18) (σ:= [(0,(vI n))]) Tryz.func87 rfl ?_
 have h5:=zar n
 refine ze (zd (zc 2 [(3,(vI 0)),(2,(vI 0))] (zf (zb (ze (zd (zc 1 [(7,(vI n))] (za (zp (zjr n _ (by omega) (by omega)) ?_)))))))))
 rintro _ w1 ⟨a1,ca1,rfl,hFz1_0,hEw1⟩
 have hzw1:=hEw1.size
 have hlea1:=hFz1_0.le
 refine zc 3 [(10,(vI 0)),(9,(vA [(vI n),(.slice a1 (hgt n+1) ca1)])),(6,(.tuple #[(vA [(vI n),(.slice a1 (hgt n+1) ca1)]),(vI 0)]))] (zal ([(vI n),(.slice a1 (hgt n+1) ca1)]) 179 rfl (by simp [Value.oneCell']) ?_)
 intro w2 hBw2 hEw2 hzw2 hlw2
 refine zc 1 [(5,(vI 0))] (zf (zb (ze (ze (zd (zc 2 [(12,vF),(11,(vI 0))] (zf (zb (zh ?_)))))))))
 refine zk (zb (ze (zd (zc 1 [(14,(vP w1.heap.size 1))] (za (zm w1.heap.size 1 (hBw2.cell rfl) ?_))))))
 refine zc 1 [(16,(vI (hgt n+1)))] (za (zo (some 17) .i64 (IntKind.i64.wrap (((hgt n+1:Nat):Int)-((1:Nat):Int))) (hgt n) (zu) ?_))
 exact zc 2 [(3,(vI 0)),(2,(vI (hgt n)))] (zf (zb (zj (zl (.tuple #[(vI (hgt n)),(vI 0)]) (⟨rfl,(hEw1.trans hEw2)⟩)))))
theorem zh3 (n:Int) (w:World) (hp0:¬(1≤n∧n≤4096)):
  Calls Tryz.prog 87 #[(.int .i64 n)] w (Ret fun r w'=>r=(.tuple #[(vI 0),(vI 1)])∧Ext w w'):=by
 refine zD (n:=18) (σ:= [(0,(.int .i64 n))]) Tryz.func87 rfl ?_
 refine ze (zd (zc 2 [(3,(vI 0)),(2,(vI 0))] (zf (zb (ze (zd (zc 1 [(7,(.int .i64 n))] (za (zp (zmu n _ (by omega)) ?_)))))))))
 rintro _ w1 ⟨rfl,hEw1⟩
 have hzw1:=hEw1.size
 refine zc 3 [(10,(vI 1)),(9,(vA [(vI 0),(.slice none 0 0)])),(6,(.tuple #[(vA [(vI 0),(.slice none 0 0)]),(vI 1)]))] (zal ([(vI 0),(.slice none 0 0)]) 179 rfl (by simp [Value.oneCell']) ?_)
 intro w2 hBw2 hEw2 hzw2 hlw2
 refine zc 1 [(5,(vI 1))] (zf (zb (ze (ze (zd (zc 2 [(12,vT),(11,(vI 1))] (zf (zb (zv ?_)))))))))
 exact ze (zd (zc 3 [(3,(vI 1)),(2,(vI 0)),(13,(vI 1))] (zf (zb (zj (zw (zl (.tuple #[(vI 0),(vI 1)]) (⟨rfl,(hEw1.trans hEw2)⟩))))))))
theorem zmZ (n:Nat) (l:Nat) (w:World) (hp0:1≤n) (hp1:n≤4096) (hp2:l≤hgt n):
  Calls Tryz.prog 88 #[(vI n),(vI l)] w (Ret fun r w'=>r=(.tuple #[(vI (cnt n l)),(vI 0)])∧Ext w w'):=by
 refine zD (n:=23) (σ:= [(0,(vI n)),(1,(vI l))]) Tryz.func88 rfl ?_
 have h5:=zar n
 refine ze (zd (zc 2 [(5,(vI 0)),(4,(vI 0))] (zf (zb (ze (zd (zc 3 [(11,(vA [(vI l),(vI 0)])),(10,(vI l)),(9,(vI n))] (za (zp (ztB n l 0 _ (by omega) (by omega) (by omega) (zjk hp0 l)) ?_)))))))))
 rintro _ w1 ⟨a1,ca1,rfl,hFz1_0,hEw1⟩
 have hzw1:=hEw1.size
 have hlea1:=hFz1_0.le
 refine zc 3 [(14,(vI 0)),(13,(vA [(vI n),(.slice a1 (hgt n+1) ca1)])),(8,(.tuple #[(vA [(vI n),(.slice a1 (hgt n+1) ca1)]),(vI 0)]))] (zal ([(vI n),(.slice a1 (hgt n+1) ca1)]) 179 rfl (by simp [Value.oneCell']) ?_)
 intro w2 hBw2 hEw2 hzw2 hlw2
 refine zc 1 [(7,(vI 0))] (zf (zb (ze (ze (zd (zc 2 [(16,vF),(15,(vI 0))] (zf (zb (zh ?_)))))))))
 refine zk (zb (ze (zd (zc 1 [(18,(vP w1.heap.size 1))] (za (zm w1.heap.size 1 (hBw2.cell rfl) ?_))))))
 refine zc 1 [(20,(vI l))] ?_
 obtain ⟨b1,o1,rfl⟩:=hFz1_0.addr (by omega)
 refine za (zah b1 o1 (hgt n+1) ca1 l 1 ?_)
 refine za (zm b1 (o1+l*1) ((hFz1_0.ext hEw2).celln (by omega)) ?_)
 exact zc 2 [(5,(vI 0)),(4,(vI (gt (cts n) l)))] (zf (zb (zj (zl (.tuple #[(vI (gt (cts n) l)),(vI 0)]) (⟨by rw [ziS hp2],(hEw1.trans hEw2)⟩)))))
theorem zsl (n:Nat) (l:Nat) (j:Nat) (w:World) (hp0:1≤n) (hp1:n≤4096) (hp2:l≤hgt n) (hp3:j<cnt n l):
  Calls Tryz.prog 125 #[(vI n),(vI l),(vI j)] w (Ret fun r w'=>r=(.tuple #[(vI (prt n l j)),(vI 0)])∧Ext w w'):=by
 refine zD (n:=28) (σ:= [(0,(vI n)),(1,(vI l)),(2,(vI j))]) Tryz.func125 rfl ?_
 have h5:=zar n
 have hcn:=zbq n l
 have hun:=zg5 n l
 have hlc:=ziW.1 hp3
 refine ze (zd (zc 2 [(7,(vI 0)),(6,(vI 0))] (zf (zb (ze (zd (zc 4 [(14,(vA [(vI l),(vI j)])),(13,(vI j)),(12,(vI l)),(11,(vI n))] (za (zp (ztB n l j _ (by omega) (by omega) (by omega) (by omega)) ?_)))))))))
 rintro _ w1 ⟨a1,ca1,rfl,hFz1_0,hEw1⟩
 have hzw1:=hEw1.size
 have hlea1:=hFz1_0.le
 refine zc 3 [(17,(vI 0)),(16,(vA [(vI n),(.slice a1 (hgt n+1) ca1)])),(10,(.tuple #[(vA [(vI n),(.slice a1 (hgt n+1) ca1)]),(vI 0)]))] (zal ([(vI n),(.slice a1 (hgt n+1) ca1)]) 179 rfl (by simp [Value.oneCell']) ?_)
 intro w2 hBw2 hEw2 hzw2 hlw2
 refine zc 1 [(9,(vI 0))] (zf (zb (ze (ze (zd (zc 2 [(19,vF),(18,(vI 0))] (zf (zb (zh ?_)))))))))
 refine zk (zb (ze (zd (za (zO w1.heap.size 0 (hBw2.all) ?_)))))
 refine zc 1 [(22,(vI l))] (za (zp (zrR n l _ (hFz1_0.ext hEw2) (by omega)) ?_))
 rintro _ w3 ⟨rfl,hEw3⟩
 have hzw3:=hEw3.size
 refine zc 1 [(24,(vI j))] (za (zo (some 25) .i64 (IntKind.i64.wrap (((4:Nat):Int)*((j:Nat):Int))) (4*j) (zu) ?_))
 refine za (zo (some 26) .i64 (IntKind.i64.wrap (((und n l:Nat):Int)-((4*j:Nat):Int))) (und n l-4*j) (zu) ?_)
 refine za (zi8 (some 27) (.int .i64 (if ((und n l-4*j:Nat):Int)<((4:Nat):Int) then ((und n l-4*j:Nat):Int) else ((4:Nat):Int))) (vI (min 4 (und n l-4*j))) (congrArg _ (zkZ _ _)) ?_)
 exact zc 2 [(7,(vI 0)),(6,(vI (min 4 (und n l-4*j))))] (zf (zb (zj (zl (.tuple #[(vI (min 4 (und n l-4*j))),(vI 0)]) (⟨rfl,((hEw1.trans hEw2).trans hEw3)⟩)))))
theorem znz (n:Int) (l:Int) (j:Int) (w:World) (hp0:¬((1≤n∧n≤4096)∧(0≤l∧l≤hgt n.toNat)∧(0≤j∧j<cnt n.toNat l.toNat))):
  Calls Tryz.prog 125 #[(.int .i64 n),(.int .i64 l),(.int .i64 j)] w (Ret fun r w'=>r=(.tuple #[(vI 0),(vI 1)])∧Ext w w'):=by
 refine zD (n:=28) (σ:= [(0,(.int .i64 n)),(1,(.int .i64 l)),(2,(.int .i64 j))]) Tryz.func125 rfl ?_
 refine ze (zd (zc 2 [(7,(vI 0)),(6,(vI 0))] (zf (zb (ze (zd (zc 4 [(14,(vA [(.int .i64 l),(.int .i64 j)])),(13,(.int .i64 j)),(12,(.int .i64 l)),(11,(.int .i64 n))] (za (zp (zrJ n l j _ (by omega)) ?_)))))))))
 rintro _ w1 ⟨a1,a2,na2,ca2,rfl,hEw1⟩
 have hzw1:=hEw1.size
 refine zc 3 [(17,(vI 1)),(16,(vA [(.int .i64 a1),(.slice a2 na2 ca2)])),(10,(.tuple #[(vA [(.int .i64 a1),(.slice a2 na2 ca2)]),(vI 1)]))] (zal ([(.int .i64 a1),(.slice a2 na2 ca2)]) 179 rfl (by simp [Value.oneCell']) ?_)
 intro w2 hBw2 hEw2 hzw2 hlw2
 refine zc 1 [(9,(vI 1))] (zf (zb (ze (ze (zd (zc 2 [(19,vT),(18,(vI 1))] (zf (zb (zv ?_)))))))))
 exact ze (zd (zc 3 [(7,(vI 1)),(6,(vI 0)),(20,(vI 1))] (zf (zb (zj (zw (zl (.tuple #[(vI 0),(vI 1)]) (⟨rfl,(hEw1.trans hEw2)⟩))))))))
end Go.Proofs.YtkmhgepdhilllaaGreatDoor
namespace Go.Proofs.YtkmhgepdhilllaaGreatDoor
open Go Go.RowKit Go.Cs
set_option maxRecDepth 100000
end Go.Proofs.YtkmhgepdhilllaaGreatDoor
namespace Go.Proofs.YtkmhgepdhilllaaGreatDoor
open Go Go.RowKit Go.Cs
set_option maxRecDepth 100000
end Go.Proofs.YtkmhgepdhilllaaGreatDoor
namespace Go.Proofs.YtkmhgepdhilllaaGreatDoor
open Go Go.RowKit Go.Cs
set_option maxRecDepth 100000
end Go.Proofs.YtkmhgepdhilllaaGreatDoor
namespace Go.Proofs.YtkmhgepdhilllaaGreatDoor
open Go Go.RowKit Go.Cs
set_option maxRecDepth 100000
theorem zfb (n:Nat) (l:Nat) (w:World) (hp0:1≤n) (hp1:n≤4096) (hp2:l≤hgt n):
  Calls Tryz.prog 32 #[(vI n),(vI l)] w (Ret fun r w'=>r=(vI (cnt n l))∧w=w'):=by
 refine zD (n:=23) (σ:= [(0,(vI n)),(1,(vI l))]) Tryz.func32 rfl ?_
 have h5:=zar n
 refine ze (zd (zc 1 [(4,(vI 0))] (zf (zb (ze (zd (zc 2 [(5,(vI n)),(7,(vI n))] (zf (zb ?_)))))))))
 refine ze (ze (zd (zc 1 [(6,(vI 0))] (zf (zb (zr (zU (X:=Nat) (fun k=> [(5,(vI (und n k))),(6,(vI k))]) [4,8,9,10,11,12,13,14,15,16,17,18,19,20,21] (fun k w1=>w=w1∧k≤l+1) (fun k=>l+1-k) 0 (by kernel_rfl) ⟨rfl,by omega⟩ ?_)))))))
 rintro k dw1 w1 ⟨rfl,hk⟩
 have hun:=zg5 n k
 have hun2:=zg5 n (k+1)
 refine ze (ze (zd (zc 2 [(9,(vI l)),(8,(vI k))] (za (zF (some 10) (decide (((k:Nat):Int)≤((l:Nat):Int))) (fun hc10=> ?_) (fun hc10=> ?_))))))
 ·replace hc10:k≤l:=by have:=zac hc10;omega
  refine zf (zb (zv (zk (zb (ze (zr (ze (ze (zd ?_)))))))))
  refine zc 1 [(13,(vI k))] (za (zF (some 14) (decide (((k:Nat):Int)>((0:Nat):Int))) (fun hc14=> ?_) (fun hc14=> ?_)))
  ·replace hc14:k>0:=by have:=zac hc14;omega
   have hm:=zkK (n:=n) (l:=k-1) (by omega)
   have hku:=zcB (n:=n) (l:=k) (by omega)
   refine zc 2 [(16,(vI (und n k))),(15,vT)] (za (zae (some 17) (((und n k:Nat):Int)==((1:Nat):Int)) false (zb8) ?_))
   refine zc 1 [(18,vF)] (zf (zb (zh (zk (zb (zd (zc 1 [(19,(vI (und n k)))] (za (zo (some 20) .i64 (IntKind.i64.wrap (((und n k:Nat):Int)+((3:Nat):Int))) (und n k+3) (zu) ?_)))))))))
   refine za (zo (some 21) .i64 (IntKind.i64.wrap (((und n k+3:Nat):Int).tdiv ((4:Nat):Int))) (und n (k+1)) (zu (zec _ _)) ?_)
   refine zc 1 [(5,(vI (und n (k+1))))] (zf (zi (zb (zd (zc 1 [(11,(vI k))] (za (zo (some 12) .i64 (IntKind.i64.wrap (((k:Nat):Int)+((1:Nat):Int))) (k+1) (zu) ?_)))))))
   refine zc 1 [(6,(vI (k+1)))] (zf (zz (zL (k+1) ?_ ?_)))
   ·exact ⟨rfl,by omega⟩
   ·first | omega |(dsimp only;omega)
  ·replace hc14:¬(k>0):=by have:=zad hc14;omega
   obtain rfl:k=0:=by omega
   refine zc 4 [(18,vF),(17,undef),(16,undef),(15,vF)] (zf (zb (zh (zk (zb (zd (zc 1 [(19,(vI (und n 0)))] (za (zo (some 20) .i64 (IntKind.i64.wrap (((und n 0:Nat):Int)+((3:Nat):Int))) (und n 0+3) (zu) ?_)))))))))
   refine za (zo (some 21) .i64 (IntKind.i64.wrap (((und n 0+3:Nat):Int).tdiv ((4:Nat):Int))) (und n (0+1)) (zu (zec _ _)) ?_)
   refine zc 1 [(5,(vI (und n (0+1))))] (zf (zi (zb (zd (zc 1 [(11,(vI 0))] (za (zo (some 12) .i64 (IntKind.i64.wrap (((0:Nat):Int)+((1:Nat):Int))) 1 (zu) ?_)))))))
   refine zc 1 [(6,(vI 1))] (zf (zz (zL (1) ?_ ?_)))
   ·exact ⟨rfl,by omega⟩
   ·first | omega |(dsimp only;omega)
 ·replace hc10:¬(k≤l):=by have:=zad hc10;omega
  refine zf (zb (zh (zP (zq (zq (zH (zb (ze (zd ?_)))))))))
  refine zc 2 [(4,(vI (und n k))),(22,(vI (und n k)))] (zf (zb (zj (zl (vI (und n k)) ?_))))
  obtain rfl:k=l+1:=by omega
  exact ⟨rfl,rfl⟩
theorem zgj (n:Nat) (w:World) (hp0:1≤n) (hp1:n≤4096):
  Calls Tryz.prog 31 #[(vI n)] w (Ret fun r w'=>r=(vI (hgt n))∧w=w'):=by
 refine zD (n:=11) (σ:= [(0,(vI n))]) Tryz.func31 rfl ?_
 have h5:=zar n
 refine ze (zd (zc 1 [(2,(vI 0))] (zf (zb (ze (zd (zc 1 [(3,(vI 0))] (zf (zb ?_)))))))))
 refine ze (zr (zU (X:=Nat) (fun k=> [(3,(vI k))]) [4,5,6,7,8,9] (fun k w1=>w=w1∧k≤hgt n) (fun k=>hgt n-k) 0 (by kernel_rfl) ⟨rfl,by omega⟩ ?_))
 rintro k dw1 w1 ⟨rfl,hk⟩
 have hiff:=zgp hp0 hp1 hk
 refine ze (ze (zd (zc 2 [(5,(vI k)),(4,(vI n))] (za (zp (zfb n k _ (by omega) (by omega) (by omega)) ?_)))))
 rintro _ _ ⟨rfl,rfl⟩
 refine za (zF (some 7) ((((cnt n k:Nat):Int) !=((1:Nat):Int))) (fun hc7=> ?_) (fun hc7=> ?_))
 ·replace hc7:¬(cnt n k=1):=by have:=zbV hc7;omega
  have hlt:k<hgt n:=by rcases Nat.lt_or_ge k (hgt n) with h | h;exact h;exact absurd (hiff.2 (by omega)) hc7
  refine zf (zb (zv (zk (zb (zr (zd (zc 1 [(8,(vI k))] (za (zo (some 9) .i64 (IntKind.i64.wrap (((k:Nat):Int)+((1:Nat):Int))) (k+1) (zu) ?_)))))))))
  refine zc 1 [(3,(vI (k+1)))] (zf (zi (zz (zL (k+1) ?_ ?_))))
  ·exact ⟨rfl,by omega⟩
  ·first | omega |(dsimp only;omega)
 ·replace hc7:cnt n k=1:=by have:=zbS hc7;omega
  obtain rfl:=hiff.1 hc7
  refine zf (zb (zh (zP (zq (zq (zH (zb (ze (zd ?_)))))))))
  exact zc 2 [(2,(vI (hgt n))),(10,(vI (hgt n)))] (zf (zb (zj (zl (vI (hgt n)) (⟨rfl,rfl⟩)))))
theorem zli (n:Nat) (l:Nat) (j:Nat) (w:World) (hp0:1≤n) (hp1:n≤4096) (hp2:l≤hgt n+1) (hp3:j≤4096):
  Calls Tryz.prog 73 #[(vI n),(vI l),(vI j)] w (Ret fun r w'=>r=(vI (prt n l j))∧w=w'):=by
 refine zD (n:=30) (σ:= [(0,(vI n)),(1,(vI l)),(2,(vI j))]) Tryz.func73 rfl ?_
 have h5:=zar n
 refine ze (zd (zc 1 [(6,(vI 0))] (zf (zb (ze (zd (zc 2 [(7,(vI n)),(10,(vI n))] (zf (zb ?_)))))))))
 refine ze (ze (zd (zc 1 [(11,(vI l))] (za (zF (some 12) (decide (((l:Nat):Int)>((0:Nat):Int))) (fun hc12=> ?_) (fun hc12=> ?_))))))
 ·replace hc12:l>0:=by have:=zac hc12;omega
  have hup:=zcB (n:=n) (l:=l) (by omega)
  have hun:=zg5 n l
  refine zf (zb (zv (zd (zc 2 [(14,(vI l)),(13,(vI n))] (za (zo (some 15) .i64 (IntKind.i64.wrap (((l:Nat):Int)-((1:Nat):Int))) (l-1) (zu) ?_))))))
  refine za (zp (zfb n (l-1) _ (by omega) (by omega) (by omega)) ?_)
  rintro _ _ ⟨rfl,rfl⟩
  rw [show cnt n (l-1)=und n l from hup.symm]
  refine zc 1 [(7,(vI (und n l)))] (zf (zb (ze (zd (zc 1 [(8,(vI 0))] (zf (zb (ze (ze ?_)))))))))
  refine zd (zc 1 [(9,(vI 0))] (zf (zb (zr (zU (X:=Nat) (fun v=> [(8,(vI (min v (und n l-4*j)))),(9,(vI v))]) [17,18,19,20,21,22,23,24,25,26,27,28] (fun v w1=>w=w1∧v≤4) (fun v=>4-v) 0 (by rw [Nat.zero_min];kernel_rfl) ⟨rfl,by omega⟩ ?_)))))
  rintro v dw1 w1 ⟨rfl,hv⟩
  refine ze (ze (zd (zc 1 [(17,(vI v))] (za (zF (some 18) (decide (((v:Nat):Int)<((4:Nat):Int))) (fun hc18=> ?_) (fun hc18=> ?_))))))
  ·replace hc18:v<4:=by have:=zac hc18;omega
   refine zf (zb (zv (zk (zb (ze (zr (ze (zd (zc 1 [(21,(vI j))] ?_)))))))))
   refine za (zo (some 22) .i64 (IntKind.i64.wrap (((4:Nat):Int)*((j:Nat):Int))) (4*j) (zu) ?_)
   refine zc 1 [(23,(vI v))] (za (zo (some 24) .i64 (IntKind.i64.wrap (((4*j:Nat):Int)+((v:Nat):Int))) (4*j+v) (zu) ?_))
   refine zc 1 [(25,(vI (und n l)))] (za (zF (some 26) (decide (((4*j+v:Nat):Int)<((und n l:Nat):Int))) (fun hc26=> ?_) (fun hc26=> ?_)))
   ·replace hc26:4*j+v<und n l:=by have:=zac hc26;omega
    refine zf (zb (zv (zd (zc 1 [(27,(vI (min v (und n l-4*j))))] (za (zo (some 28) .i64 (IntKind.i64.wrap (((min v (und n l-4*j):Nat):Int)+((1:Nat):Int))) (min (v+1) (und n l-4*j)) (zu) ?_))))))
    refine zc 1 [(8,(vI (min (v+1) (und n l-4*j))))] (zf (zi (zb (zd (zc 1 [(19,(vI v))] (za (zo (some 20) .i64 (IntKind.i64.wrap (((v:Nat):Int)+((1:Nat):Int))) (v+1) (zu) ?_)))))))
    refine zc 1 [(9,(vI (v+1)))] (zf (zz (zL (v+1) ?_ ?_)))
    ·exact ⟨rfl,by omega⟩
    ·first | omega |(dsimp only;omega)
   ·replace hc26:¬(4*j+v<und n l):=by have:=zad hc26;omega
    rw [show min v (und n l-4*j)=min (v+1) (und n l-4*j) from by omega]
    refine zf (zb (zh (zk (zi (zb (zd (zc 1 [(19,(vI v))] (za (zo (some 20) .i64 (IntKind.i64.wrap (((v:Nat):Int)+((1:Nat):Int))) (v+1) (zu) ?_)))))))))
    refine zc 1 [(9,(vI (v+1)))] (zf (zz (zL (v+1) ?_ ?_)))
    ·exact ⟨rfl,by omega⟩
    ·first | omega |(dsimp only;omega)
  ·replace hc18:¬(v<4):=by have:=zad hc18;omega
   refine zf (zb (zh (zP (zq (zq (zH (zb (ze (zd ?_)))))))))
   refine zc 2 [(6,(vI (min v (und n l-4*j)))),(29,(vI (min v (und n l-4*j))))] (zf (zb (zj (zl (vI (min v (und n l-4*j))) ?_))))
   obtain rfl:v=4:=by omega
   exact ⟨rfl,rfl⟩
 ·replace hc12:¬(l>0):=by have:=zad hc12;omega
  obtain rfl:l=0:=by omega
  have hu0:und n 0=n:=rfl
  refine zf (zb (zh (zk (zb (ze (zd (zc 1 [(8,(vI 0))] (zf (zb ?_)))))))))
  refine ze (ze (zd (zc 1 [(9,(vI 0))] (zf (zb (zr (zU (X:=Nat) (fun v=> [(8,(vI (min v (und n 0-4*j)))),(9,(vI v))]) [17,18,19,20,21,22,23,24,25,26,27,28] (fun v w2=>w=w2∧v≤4) (fun v=>4-v) 0 (by rw [Nat.zero_min];kernel_rfl) ⟨rfl,by omega⟩ ?_)))))))
  rintro v dw2 w2 ⟨rfl,hv⟩
  refine ze (ze (zd (zc 1 [(17,(vI v))] (za (zF (some 18) (decide (((v:Nat):Int)<((4:Nat):Int))) (fun hc18=> ?_) (fun hc18=> ?_))))))
  ·replace hc18:v<4:=by have:=zac hc18;omega
   refine zf (zb (zv (zk (zb (ze (zr (ze (zd (zc 1 [(21,(vI j))] ?_)))))))))
   refine za (zo (some 22) .i64 (IntKind.i64.wrap (((4:Nat):Int)*((j:Nat):Int))) (4*j) (zu) ?_)
   refine zc 1 [(23,(vI v))] (za (zo (some 24) .i64 (IntKind.i64.wrap (((4*j:Nat):Int)+((v:Nat):Int))) (4*j+v) (zu) ?_))
   refine zc 1 [(25,(vI n))] (za (zF (some 26) (decide (((4*j+v:Nat):Int)<((n:Nat):Int))) (fun hc26=> ?_) (fun hc26=> ?_)))
   ·replace hc26:4*j+v<n:=by have:=zac hc26;omega
    refine zf (zb (zv (zd (zc 1 [(27,(vI (min v (und n 0-4*j))))] (za (zo (some 28) .i64 (IntKind.i64.wrap (((min v (und n 0-4*j):Nat):Int)+((1:Nat):Int))) (min (v+1) (und n 0-4*j)) (zu) ?_))))))
    refine zc 1 [(8,(vI (min (v+1) (und n 0-4*j))))] (zf (zi (zb (zd (zc 1 [(19,(vI v))] (za (zo (some 20) .i64 (IntKind.i64.wrap (((v:Nat):Int)+((1:Nat):Int))) (v+1) (zu) ?_)))))))
    refine zc 1 [(9,(vI (v+1)))] (zf (zz (zL (v+1) ?_ ?_)))
    ·exact ⟨rfl,by omega⟩
    ·first | omega |(dsimp only;omega)
   ·replace hc26:¬(4*j+v<n):=by have:=zad hc26;omega
    rw [show min v (und n 0-4*j)=min (v+1) (und n 0-4*j) from by omega]
    refine zf (zb (zh (zk (zi (zb (zd (zc 1 [(19,(vI v))] (za (zo (some 20) .i64 (IntKind.i64.wrap (((v:Nat):Int)+((1:Nat):Int))) (v+1) (zu) ?_)))))))))
    refine zc 1 [(9,(vI (v+1)))] (zf (zz (zL (v+1) ?_ ?_)))
    ·exact ⟨rfl,by omega⟩
    ·first | omega |(dsimp only;omega)
  ·replace hc18:¬(v<4):=by have:=zad hc18;omega
   refine zf (zb (zh (zP (zq (zq (zH (zb (ze (zd ?_)))))))))
   refine zc 2 [(6,(vI (min v (und n 0-4*j)))),(29,(vI (min v (und n 0-4*j))))] (zf (zb (zj (zl (vI (min v (und n 0-4*j))) ?_))))
   obtain rfl:v=4:=by omega
   exact ⟨rfl,rfl⟩
theorem zk9 (i:Nat) (l:Nat) (w:World) (hp0:i≤4096) (hp1:l≤4096):
  Calls Tryz.prog 69 #[(vI i),(vI l)] w (Ret fun r w'=>r=(vI (idx i l))∧w=w'):=by
 refine zD (n:=17) (σ:= [(0,(vI i)),(1,(vI l))]) Tryz.func69 rfl ?_
 refine ze (zd (zc 1 [(4,(vI 0))] (zf (zb (ze (zd (zc 1 [(7,(vI i))] (za (zo (some 8) .i64 (IntKind.i64.wrap (((i:Nat):Int).tdiv ((4:Nat):Int))) (i/4) (zu (zec _ _)) ?_)))))))))
 refine zc 1 [(5,(vI (i/4)))] (zf (zb (ze (ze (zd (zc 1 [(6,(vI 0))] (zf (zb (zr ?_)))))))))
 refine zU (X:=Nat) (fun k=> [(5,(vI (idx i k))),(6,(vI k))]) [9,10,11,12,13,14,15] (fun k w1=>w=w1∧k≤l) (fun k=>l-k) 0 (by kernel_rfl) ⟨rfl,by omega⟩ ?_
 rintro k dw1 w1 ⟨rfl,hk⟩
 have hix:=zlY i k
 refine ze (ze (zd (zc 2 [(10,(vI l)),(9,(vI k))] (za (zF (some 11) (decide (((k:Nat):Int)<((l:Nat):Int))) (fun hc11=> ?_) (fun hc11=> ?_))))))
 ·replace hc11:k<l:=by have:=zac hc11;omega
  refine zf (zb (zv (zk (zb (ze (zr (zd (zc 1 [(14,(vI (idx i k)))] (za (zo (some 15) .i64 (IntKind.i64.wrap (((idx i k:Nat):Int).tdiv ((4:Nat):Int))) (idx i (k+1)) (zu (zec _ _) (by omega) (by rw [idx];omega)) ?_))))))))))
  refine zc 1 [(5,(vI (idx i (k+1))))] (zf (zi (zb (zd (zc 1 [(12,(vI k))] (za (zo (some 13) .i64 (IntKind.i64.wrap (((k:Nat):Int)+((1:Nat):Int))) (k+1) (zu) ?_)))))))
  refine zc 1 [(6,(vI (k+1)))] (zf (zz (zL (k+1) ?_ ?_)))
  ·exact ⟨rfl,by omega⟩
  ·first | omega |(dsimp only;omega)
 ·replace hc11:¬(k<l):=by have:=zad hc11;omega
  refine zf (zb (zh (zP (zq (zq (zH (zb (ze (zd ?_)))))))))
  refine zc 2 [(4,(vI (idx i k))),(16,(vI (idx i k)))] (zf (zb (zj (zl (vI (idx i k)) ?_))))
  obtain rfl:k=l:=by omega
  exact ⟨rfl,rfl⟩
end Go.Proofs.YtkmhgepdhilllaaGreatDoor
namespace Go.Proofs.YtkmhgepdhilllaaGreatDoor
open Go Go.RowKit Go.Cs
set_option maxRecDepth 100000
theorem zpa (v:Nat) (w:World):
  Calls Tryz.prog 110 #[(vB v)] w (Ret fun r w'=>r=(vI (min v 1))∧w=w'):=by
 refine zD (n:=6) (σ:= [(0,(vB v))]) Tryz.func110 rfl ?_
 refine ze (zd (zc 1 [(2,(vI 0))] (zf (zb (ze (zd (zc 1 [(3,(vB v))] (za (zi8 (some 4) (.int .u8 (if ((1:Nat):Int)<((v:Nat):Int) then ((1:Nat):Int) else ((v:Nat):Int))) (vB (min v 1)) (congrArg _ (zkZ _ _)) ?_)))))))))
 refine za (zo (some 5) .i64 (IntKind.i64.wrap ((min v 1:Nat):Int)) (min v 1) (zu rfl) ?_)
 exact zc 1 [(2,(vI (min v 1)))] (zf (zb (zj (zl (vI (min v 1)) (⟨rfl,rfl⟩)))))
theorem zss (x:R4) (w:World):
  Calls Tryz.prog 113 #[(vA (r4C x)),(.func (.func 62) #[] #[])] w (Ret fun r w'=>r=(vI (zgb x))∧Ext w w'):=by
 refine zD (n:=19) (σ:= [(0,(vA (r4C x))),(1,(.func (.func 62) #[] #[]))]) Tryz.func113 rfl ?_
 refine ze (zd (za (zaa (Instr.box 69 (vA (r4C x))) (vP w.heap.size 0) (r4C x) 69 ?_)))
 intro w1 hBw1 hEw1 hzw1 hlw1
 refine zc 1 [(4,(vI 0))] (zf (zb (ze (ze (zd (za (zT w.heap.size 0 (hBw1.all) (zdq _) ?_)))))))
 refine zc 1 [(9,(vI 0))] (zf (zb (zr (zU (X:=Nat) (fun i=> [(9,(vI i))]) [4,6,7,10,11,12,13,14,15,16,17,18] (fun i w2=>i≤4∧zcR zaW x.get i=0∧Ext w w2) (fun i=>4-i) 0 (by kernel_rfl) ⟨by omega,rfl,hEw1⟩ ?_))))
 rintro i dw2 w2 ⟨hi,hz,hEl⟩
 have hzl:=hEl.size
 refine ze (zd (za (zF (some 10) (decide (((i:Nat):Int)<((4:Nat):Int))) (fun hc10=> ?_) (fun hc10=> ?_))))
 ·replace hc10:i<4:=by have:=zac hc10;omega
  refine zf (zb (ze (zv (zk (zb (ze (zr (ze (zd ?_)))))))))
  refine za (zaM (Instr.index 69 (vA (r4C x)) (vI i)) (vA (zM (x.get i))) (zhl (E:=68) (m:=4) (sz:=35) (us:=zM (x.get i)) (by omega) (zn6 (by omega))) ?_)
  refine zal (zM (x.get i)) 68 (zZ _) (zbb _) ?_
  intro w3 hBw3 hEw3 hzw3 hlw3
  refine zf (zb (ze (zd (zc 1 [(12,(.func (.func 62) #[] #[]))] (za (zT w2.heap.size 0 (hBw3.all) (zZ _) ?_))))))
  refine za (zp (zfs (x.get i) _) ?_)
  rintro _ w4 ⟨rfl,hEw4⟩
  have hzw4:=hEw4.size
  refine zc 1 [(7,(vI (zaW (x.get i))))] (zf (zb (ze (zd (zc 1 [(15,(vI (zaW (x.get i))))] (za (zF (some 16) ((((zaW (x.get i):Nat):Int) !=((0:Nat):Int))) (fun hc16=> ?_) (fun hc16=> ?_))))))))
  ·replace hc16:¬(zaW (x.get i)=0):=by have:=zbV hc16;omega
   refine zf (zb (zv (ze (zd (zc 2 [(4,(vI (zaW (x.get i)))),(17,(vI (zaW (x.get i))))] (zf (zb (zj (zB ?_)))))))))
   exact zw (zw (zB (zw (zl (vI (zaW (x.get i))) (⟨congrArg (fun z:Nat=>vI z) (znP (by omega) (by omega)),((hEl.trans hEw3).trans hEw4)⟩)))))
  ·replace hc16:zaW (x.get i)=0:=by have:=zbS hc16;omega
   refine zf (zb (zh (zk (zi (zb (zd (za (zo (some 18) .i64 (IntKind.i64.wrap (((i:Nat):Int)+((1:Nat):Int))) (i+1) (zu) ?_))))))))
   refine zc 1 [(9,(vI (i+1)))] (zf (zz (zL (i+1) ?_ ?_)))
   ·exact ⟨by omega,by rw [zcR,if_pos hz];omega,((hEl.trans hEw3).trans hEw4)⟩
   ·first | omega |(dsimp only;omega)
 ·replace hc10:¬(i<4):=by have:=zad hc10;omega
  refine zf (zb (ze (zh (zP (zq (zq (zH (zb (ze ?_)))))))))
  refine zd (zc 1 [(4,(vI 0))] (zf (zb (zj (zl (vI 0) ?_)))))
  obtain rfl:i=4:=by omega
  exact ⟨congrArg (fun z:Nat=>vI z) (hz.symm),hEl⟩
theorem zsF (x:E4) (w:World):
  Calls Tryz.prog 116 #[(vA (e4C x)),(.func (.func 131) #[] #[])] w (Ret fun r w'=>r=(vI (zgd x))∧Ext w w'):=by
 refine zD (n:=19) (σ:= [(0,(vA (e4C x))),(1,(.func (.func 131) #[] #[]))]) Tryz.func116 rfl ?_
 refine ze (zd (za (zaa (Instr.box 72 (vA (e4C x))) (vP w.heap.size 0) (e4C x) 72 ?_)))
 intro w1 hBw1 hEw1 hzw1 hlw1
 refine zc 1 [(4,(vI 0))] (zf (zb (ze (ze (zd (za (zT w.heap.size 0 (hBw1.all) (zee _) ?_)))))))
 refine zc 1 [(9,(vI 0))] (zf (zb (zr (zU (X:=Nat) (fun i=> [(9,(vI i))]) [4,6,7,10,11,12,13,14,15,16,17,18] (fun i w2=>i≤4∧zcR zbc x.get i=0∧Ext w w2) (fun i=>4-i) 0 (by kernel_rfl) ⟨by omega,rfl,hEw1⟩ ?_))))
 rintro i dw2 w2 ⟨hi,hz,hEl⟩
 have hzl:=hEl.size
 refine ze (zd (za (zF (some 10) (decide (((i:Nat):Int)<((4:Nat):Int))) (fun hc10=> ?_) (fun hc10=> ?_))))
 ·replace hc10:i<4:=by have:=zac hc10;omega
  refine zf (zb (ze (zv (zk (zb (ze (zr (ze (zd ?_)))))))))
  refine za (zaM (Instr.index 72 (vA (e4C x)) (vI i)) (vA (zai (x.get i))) (zhl (E:=71) (m:=4) (sz:=33) (us:=zai (x.get i)) (by omega) (zkj (by omega))) ?_)
  refine zal (zai (x.get i)) 71 (zaK _) (zcX _) ?_
  intro w3 hBw3 hEw3 hzw3 hlw3
  refine zf (zb (ze (zd (zc 1 [(12,(.func (.func 131) #[] #[]))] (za (zT w2.heap.size 0 (hBw3.all) (zaK _) ?_))))))
  refine za (zp (zhz (x.get i) _) ?_)
  rintro _ w4 ⟨rfl,hEw4⟩
  have hzw4:=hEw4.size
  refine zc 1 [(7,(vI (zbc (x.get i))))] (zf (zb (ze (zd (zc 1 [(15,(vI (zbc (x.get i))))] (za (zF (some 16) ((((zbc (x.get i):Nat):Int) !=((0:Nat):Int))) (fun hc16=> ?_) (fun hc16=> ?_))))))))
  ·replace hc16:¬(zbc (x.get i)=0):=by have:=zbV hc16;omega
   refine zf (zb (zv (ze (zd (zc 2 [(4,(vI (zbc (x.get i)))),(17,(vI (zbc (x.get i))))] (zf (zb (zj (zB ?_)))))))))
   exact zw (zw (zB (zw (zl (vI (zbc (x.get i))) (⟨congrArg (fun z:Nat=>vI z) (znB (by omega) (by omega)),((hEl.trans hEw3).trans hEw4)⟩)))))
  ·replace hc16:zbc (x.get i)=0:=by have:=zbS hc16;omega
   refine zf (zb (zh (zk (zi (zb (zd (za (zo (some 18) .i64 (IntKind.i64.wrap (((i:Nat):Int)+((1:Nat):Int))) (i+1) (zu) ?_))))))))
   refine zc 1 [(9,(vI (i+1)))] (zf (zz (zL (i+1) ?_ ?_)))
   ·exact ⟨by omega,by rw [zcR,if_pos hz];omega,((hEl.trans hEw3).trans hEw4)⟩
   ·first | omega |(dsimp only;omega)
 ·replace hc10:¬(i<4):=by have:=zad hc10;omega
  refine zf (zb (ze (zh (zP (zq (zq (zH (zb (ze ?_)))))))))
  refine zd (zc 1 [(4,(vI 0))] (zf (zb (zj (zl (vI 0) ?_)))))
  obtain rfl:i=4:=by omega
  exact ⟨congrArg (fun z:Nat=>vI z) (hz.symm),hEl⟩
theorem zin (x:Nod) (w:World):
  Calls Tryz.prog 109 #[(vA (zJ x))] w (Ret fun r w'=>r=(vI (zaD x))∧Ext w w'):=by
 refine zD (n:=32) (σ:= [(0,(vA (zJ x)))]) Tryz.func109 rfl ?_
 refine ze (zd (za (zaa (Instr.box 74 (vA (zJ x))) (vP w.heap.size 0) (zJ x) 74 ?_)))
 intro w1 hBw1 hEw1 hzw1 hlw1
 refine zc 1 [(2,(vI 0))] (zf (zb (ze (zr (ze (zd (zc 1 [(4,(vP w.heap.size 0))] (za (zm w.heap.size 0 (hBw1.cell rfl) ?_)))))))))
 refine za (zF (some 6) (decide (((x.lv:Nat):Int)>((5:Nat):Int))) (fun hc6=> ?_) (fun hc6=> ?_))
 ·replace hc6:x.lv>5:=by have:=zac hc6;omega
  refine zc 1 [(3,vT)] (zf (zb (zv (ze (zd (zc 1 [(2,(vI 1))] (zf (zb (zj ?_)))))))))
  exact zB (zw (zl (vI 1) (⟨congrArg (fun z:Nat=>vI z) (by unfold zaD;(repeat' split)<;>first | rfl | omega | simp_all),hEw1⟩)))
 ·replace hc6:¬(x.lv>5):=by have:=zad hc6;omega
  refine zc 1 [(3,vF)] (zf (zb (zh (ze (zd (zc 1 [(8,(vP w.heap.size 0))] (za (zm w.heap.size 0 (hBw1.cell rfl) ?_))))))))
  refine za (zF (some 10) ((((x.lv:Nat):Int)==((0:Nat):Int))) (fun hc10=> ?_) (fun hc10=> ?_))
  ·replace hc10:x.lv=0:=by have:=zbJ hc10;omega
   refine zc 2 [(12,(vP w.heap.size 142)),(11,vT)] (za (zT w.heap.size 142 (hBw1.at 142 (e4C x.es) (zfX _)) (zee _) ?_))
   refine zc 1 [(14,(vA (e4C E4.zero)))] ?_
   rcases Bool.eq_false_or_eq_true (x.es.eqb E4.zero) with hq15 | hq15
   ·refine za (zci (some 15) (bo .neq 72 (.tmp 13) (.tmp 14) (vA (e4C x.es)) (vA (e4C E4.zero))) vF (zat (r:=true) (T:=72) ((zhf (dd:=9996) (T:=72) (t:=71) (t8:=5) (td:=59) (e:=5) x.es E4.zero).trans (congrArg (fun b=>Result.ok b _) (show (x.es.eqb E4.zero)=true from hq15)))) ?_)
    refine zc 2 [(7,vF),(16,vF)] (zf (zb (zh (ze (zd (zc 1 [(18,(vP w.heap.size 0))] (za (zm w.heap.size 0 (hBw1.cell rfl) ?_))))))))
    refine za (zae (some 20) (((x.lv:Nat):Int)==((0:Nat):Int)) true (zaq) ?_)
    refine zc 1 [(17,vT)] (zf (zb (zv (ze (zd (zc 1 [(21,(vP w.heap.size 2))] (za (zT w.heap.size 2 (hBw1.at 2 (r4C x.rs) (zgw _)) (zdq _) ?_))))))))
    refine za (zp (zss x.rs _) ?_)
    rintro _ w2 ⟨rfl,hEw2⟩
    have hzw2:=hEw2.size
    exact zc 1 [(2,(vI (zgb x.rs)))] (zf (zb (zj (zB (zw (zl (vI (zgb x.rs)) (⟨congrArg (fun z:Nat=>vI z) (by unfold zaD;(repeat' split)<;>first | rfl | omega | simp_all),(hEw1.trans hEw2)⟩)))))))
   ·refine za (zci (some 15) (bo .neq 72 (.tmp 13) (.tmp 14) (vA (e4C x.es)) (vA (e4C E4.zero))) vT (zat (r:=false) (T:=72) ((zhf (dd:=9996) (T:=72) (t:=71) (t8:=5) (td:=59) (e:=5) x.es E4.zero).trans (congrArg (fun b=>Result.ok b _) (show (x.es.eqb E4.zero)=false from hq15)))) ?_)
    refine zc 2 [(7,vT),(16,vT)] (zf (zb (zv (ze (zd (zc 1 [(2,(vI 1))] (zf (zb (zj ?_)))))))))
    exact zB (zw (zl (vI 1) (⟨congrArg (fun z:Nat=>vI z) (by unfold zaD;(repeat' split)<;>first | rfl | omega | simp_all),hEw1⟩)))
  ·replace hc10:¬(x.lv=0):=by have:=zbI hc10;omega
   refine zc 7 [(7,vF),(16,vF),(15,undef),(14,undef),(13,undef),(12,undef),(11,vF)] (zf (zb (zh (ze (zd (zc 1 [(18,(vP w.heap.size 0))] (za (zm w.heap.size 0 (hBw1.cell rfl) ?_))))))))
   refine za (zae (some 20) (((x.lv:Nat):Int)==((0:Nat):Int)) false (zb8) ?_)
   refine zc 1 [(17,vF)] (zf (zb (zh (ze (zd (zc 1 [(25,(vP w.heap.size 2))] (za (zT w.heap.size 2 (hBw1.at 2 (r4C x.rs) (zgw _)) (zdq _) ?_))))))))
   refine zc 1 [(27,(vA (r4C R4.zero)))] ?_
   rcases Bool.eq_false_or_eq_true (x.rs.eqb R4.zero) with hq28 | hq28
   ·refine za (zci (some 28) (bo .neq 69 (.tmp 26) (.tmp 27) (vA (r4C x.rs)) (vA (r4C R4.zero))) vF (zat (r:=true) (T:=69) ((zhp (dd:=9996) (T:=69) (t:=68) (t8:=5) (td:=59) (e:=5) (tn:=56) (t32:=53) (t64:=54) x.rs R4.zero).trans (congrArg (fun b=>Result.ok b _) (show (x.rs.eqb R4.zero)=true from hq28)))) ?_)
    refine zc 1 [(24,vF)] (zf (zb (zh (zk (zi (zb (ze (zd (zc 1 [(29,(vP w.heap.size 142))] ?_)))))))))
    refine za (zT w.heap.size 142 (hBw1.at 142 (e4C x.es) (zfX _)) (zee _) ?_)
    refine za (zp (zsF x.es _) ?_)
    rintro _ w3 ⟨rfl,hEw3⟩
    have hzw3:=hEw3.size
    exact zc 1 [(2,(vI (zgd x.es)))] (zf (zb (zj (zl (vI (zgd x.es)) (⟨congrArg (fun z:Nat=>vI z) (by unfold zaD;(repeat' split)<;>first | rfl | omega | simp_all),(hEw1.trans hEw3)⟩)))))
   ·refine za (zci (some 28) (bo .neq 69 (.tmp 26) (.tmp 27) (vA (r4C x.rs)) (vA (r4C R4.zero))) vT (zat (r:=false) (T:=69) ((zhp (dd:=9996) (T:=69) (t:=68) (t8:=5) (td:=59) (e:=5) (tn:=56) (t32:=53) (t64:=54) x.rs R4.zero).trans (congrArg (fun b=>Result.ok b _) (show (x.rs.eqb R4.zero)=false from hq28)))) ?_)
    refine zc 1 [(24,vT)] (zf (zb (zv (ze (zd (zc 1 [(2,(vI 1))] (zf (zb (zj ?_)))))))))
    exact zB (zw (zl (vI 1) (⟨congrArg (fun z:Nat=>vI z) (by unfold zaD;(repeat' split)<;>first | rfl | omega | simp_all),hEw1⟩)))
end Go.Proofs.YtkmhgepdhilllaaGreatDoor
namespace Go.Proofs.YtkmhgepdhilllaaGreatDoor
open Go Go.RowKit Go.Cs
set_option maxRecDepth 100000
theorem zsU (a:Nat) (b:Nat) (w:World) (hp0:a<256) (hp1:b<2^32):
  Calls Tryz.prog 63 #[(vB a),(vW b)] w (Ret fun r w'=>r=(vA (zJ (Nod.mt a b)))∧Ext w w'):=by
 refine zD (n:=8) (σ:= [(0,(vB a)),(1,(vW b))]) Tryz.func63 rfl ?_
 refine ze (zd (za (zaf (zJ Nod.zero) 74 ?_)))
 intro w1 hBw1 hEw1 hzw1 hlw1
 refine zf (zb (ze (zd (zc 2 [(6,(vW b)),(5,(vB a))] (za (zaM (Instr.build 74 #[(0,(vB a)),(1,(vW b))]) (vA (zJ (Nod.mt a b))) ((zfu a b (by omega) (by omega)).trans (congrArg (fun z:Nod=>Result.ok (Value.agg (zJ z).toArray) _) (show (Nod.emp a b (by omega) (by omega):Nod)=Nod.mt a b from Nod.mt_eq _ _))) ?_))))))
 refine za (zG 74 w.heap.size 0 74 (vA (zJ (Nod.mt a b))) (zJ Nod.zero) (zJ (Nod.mt a b)) hBw1 (by rw [zQ];kernel_rfl) (by first |(simp;done)|(simp;omega)) (zb0 _) ?_)
 intro w2 hBw2 hCw2
 have hzw2:=hCw2.size
 rw [zy _ _ (by simp)] at hBw2
 exact zf (zb (zj (zaJ (show zX Tryz.prog 8 _ _ (.cell 4 74) (vA (zJ (Nod.mt a b))) from ⟨⟨w.heap.size,0,none⟩,(by kernel_rfl),zI (T:=74) (vs:=zJ (Nod.mt a b)) (hBw2).all (by rw [zQ];kernel_rfl)⟩) (⟨rfl,(Ext.own hEw1 hCw2 (by omega))⟩))))
theorem zkA (x:Nod) (w:World):
  Calls Tryz.prog 65 #[(vA (zJ x))] w (Ret fun r w'=>r=(vI (usd x 4))∧Ext w w'):=by
 refine zD (n:=36) (σ:= [(0,(vA (zJ x)))]) Tryz.func65 rfl ?_
 refine ze (zd (za (zaa (Instr.box 74 (vA (zJ x))) (vP w.heap.size 0) (zJ x) 74 ?_)))
 intro w1 hBw1 hEw1 hzw1 hlw1
 refine zc 1 [(2,(vI 0))] (zf (zb (ze (zd (zc 1 [(3,(vI 0))] (zf (zb (ze (ze ?_)))))))))
 refine zd (zc 1 [(5,(vI 0))] (zf (zb (zr (zU (X:=Nat) (fun i=> [(3,(vI (usd x i))),(5,(vI i))]) [4,6,7,8,9,10,11,12,13,14,15,16,17,18,19,20,21,22,23,24,25,26,27,28,29,30,31,32,33,34] (fun i w2=>i≤4∧Ext w1 w2) (fun i=>4-i) 0 (by kernel_rfl) ⟨by omega,(Ext.refl _)⟩ ?_)))))
 rintro i dw2 w2 ⟨hi,hEl⟩
 have hzl:=hEl.size
 have hul:=zoR x i
 refine ze (zd (za (zF (some 6) (decide (((i:Nat):Int)<((4:Nat):Int))) (fun hc6=> ?_) (fun hc6=> ?_))))
 ·replace hc6:i<4:=by have:=zac hc6;omega
  refine zf (zb (ze (zv (zk (zb (ze (zr (ze (zd ?_)))))))))
  refine zc 2 [(4,(vI i)),(7,(vI i))] (zf (zb (ze (zd (zc 1 [(8,(vP w.heap.size 0))] (za (zm w.heap.size 0 ((hBw1.ext hEl).cell rfl) ?_)))))))
  refine za (zF (some 10) ((((x.lv:Nat):Int)==((0:Nat):Int))) (fun hc10=> ?_) (fun hc10=> ?_))
  ·replace hc10:x.lv=0:=by have:=zbJ hc10;omega
   refine zc 3 [(13,(vP w.heap.size 2)),(12,(vI i)),(11,vT)] (za (zbg w.heap.size 2 i 4 35 ?_))
   refine zc 1 [(15,(vP w.heap.size (2+i*35)))] (za (zm w.heap.size (2+i*35) ((hBw1.ext hEl).cell (zs6 (by omega))) ?_))
   refine za (zF (some 17) (((((x.rs.get i).st:Nat):Int) !=((0:Nat):Int))) (fun hc17=> ?_) (fun hc17=> ?_))
   ·replace hc17:¬((x.rs.get i).st=0):=by have:=zbV hc17;omega
    refine zc 14 [(31,vT),(30,undef),(29,undef),(28,undef),(27,undef),(26,undef),(25,undef),(24,undef),(23,undef),(22,undef),(21,undef),(20,undef),(19,vT),(18,vT)] (zf (zb (zv (zd (zc 1 [(32,(vI (usd x i)))] (za (zo (some 33) .i64 (IntKind.i64.wrap (((usd x i:Nat):Int)+((1:Nat):Int))) (usd x i+1) (zu) ?_)))))))
    refine zc 1 [(3,(vI (usd x i+1)))] (zf (zi (zb (zd (za (zo (some 34) .i64 (IntKind.i64.wrap (((i:Nat):Int)+((1:Nat):Int))) (i+1) (zu) ?_))))))
    refine zc 1 [(5,(vI (i+1)))] (zf (zz ?_))
    rw [show usd x i+1=usd x (i+1) from by rw [usd];(repeat' split)<;>omega]
    refine zL (i+1) ?_ ?_
    ·exact ⟨by omega,hEl⟩
    ·first | omega |(dsimp only;omega)
   ·replace hc17:(x.rs.get i).st=0:=by have:=zbS hc17;omega
    refine zc 3 [(20,(vP w.heap.size 0)),(19,vF),(18,vF)] (za (zm w.heap.size 0 ((hBw1.ext hEl).cell rfl) ?_))
    refine za (zae (some 22) (((x.lv:Nat):Int) !=((0:Nat):Int)) false (zax) ?_)
    refine zc 9 [(31,vF),(30,vF),(29,undef),(28,undef),(27,undef),(26,undef),(25,undef),(24,undef),(23,vF)] (zf (zb (zh (zk (zi (zb (zd (za (zo (some 34) .i64 (IntKind.i64.wrap (((i:Nat):Int)+((1:Nat):Int))) (i+1) (zu) ?_)))))))))
    refine zc 1 [(5,(vI (i+1)))] (zf (zz ?_))
    rw [show usd x i=usd x (i+1) from by rw [usd];(repeat' split)<;>omega]
    refine zL (i+1) ?_ ?_
    ·exact ⟨by omega,hEl⟩
    ·first | omega |(dsimp only;omega)
  ·replace hc10:¬(x.lv=0):=by have:=zbI hc10;omega
   refine zc 10 [(20,(vP w.heap.size 0)),(19,vF),(18,vF),(17,undef),(16,undef),(15,undef),(14,undef),(13,undef),(12,undef),(11,vF)] (za (zm w.heap.size 0 ((hBw1.ext hEl).cell rfl) ?_))
   refine za (zae (some 22) (((x.lv:Nat):Int) !=((0:Nat):Int)) true (zdf) ?_)
   refine zc 3 [(25,(vP w.heap.size 142)),(24,(vI i)),(23,vT)] (za (zbg w.heap.size 142 i 4 33 ?_))
   refine zc 1 [(27,(vP w.heap.size (142+i*33)))] (za (zm w.heap.size (142+i*33) ((hBw1.ext hEl).cell (zsM (by omega))) ?_))
   refine za (zF (some 29) (((((x.es.get i).st:Nat):Int) !=((0:Nat):Int))) (fun hc29=> ?_) (fun hc29=> ?_))
   ·replace hc29:¬((x.es.get i).st=0):=by have:=zbV hc29;omega
    refine zc 2 [(31,vT),(30,vT)] (zf (zb (zv (zd (zc 1 [(32,(vI (usd x i)))] (za (zo (some 33) .i64 (IntKind.i64.wrap (((usd x i:Nat):Int)+((1:Nat):Int))) (usd x i+1) (zu) ?_)))))))
    refine zc 1 [(3,(vI (usd x i+1)))] (zf (zi (zb (zd (za (zo (some 34) .i64 (IntKind.i64.wrap (((i:Nat):Int)+((1:Nat):Int))) (i+1) (zu) ?_))))))
    refine zc 1 [(5,(vI (i+1)))] (zf (zz ?_))
    rw [show usd x i+1=usd x (i+1) from by rw [usd];(repeat' split)<;>omega]
    refine zL (i+1) ?_ ?_
    ·exact ⟨by omega,hEl⟩
    ·first | omega |(dsimp only;omega)
   ·replace hc29:(x.es.get i).st=0:=by have:=zbS hc29;omega
    refine zc 2 [(31,vF),(30,vF)] (zf (zb (zh (zk (zi (zb (zd (za (zo (some 34) .i64 (IntKind.i64.wrap (((i:Nat):Int)+((1:Nat):Int))) (i+1) (zu) ?_)))))))))
    refine zc 1 [(5,(vI (i+1)))] (zf (zz ?_))
    rw [show usd x i=usd x (i+1) from by rw [usd];(repeat' split)<;>omega]
    refine zL (i+1) ?_ ?_
    ·exact ⟨by omega,hEl⟩
    ·first | omega |(dsimp only;omega)
 ·replace hc6:¬(i<4):=by have:=zad hc6;omega
  refine zf (zb (ze (zh (zP (zq (zq (zH (zb (ze ?_)))))))))
  refine zd (zc 2 [(2,(vI (usd x i))),(35,(vI (usd x i)))] (zf (zb (zj (zl (vI (usd x i)) ?_)))))
  obtain rfl:i=4:=by omega
  exact ⟨rfl,(hEw1.trans hEl)⟩
theorem zgI (sd:Nat) (w:World) (hp0:sd<256):
  Calls Tryz.prog 21 #[(vB sd)] w (Ret fun r w'=>r=(vA (zR (mkD sd)))∧Ext w w'):=by
 refine zD (n:=17) (σ:= [(0,(vB sd))]) Tryz.func21 rfl ?_
 refine ze (zd (za (zaf (zR Dig.zero) 59 ?_)))
 intro w1 hBw1 hEw1 hzw1 hlw1
 refine zf (zb (ze (zd (za (zaf (zR Dig.zero) 59 ?_)))))
 intro w2 hBw2 hEw2 hzw2 hlw2
 refine zf (zb (ze (ze (zd (zc 1 [(4,(vI 0))] (zf (zb (zr (zU (X:=Nat) (fun i=> [(4,(vI i))]) [5,6,7,8,9,10,11,12,13,14,15] (fun i w3=>i≤32∧Blk w3 w1.heap.size (u8s (zc7 32 (fun j=>decide (j<i)) (fun j=>UInt8.ofNat (sd+7*j)))) 59∧Ext w1 w3) (fun i=>32-i) 0 (by kernel_rfl) ⟨by omega,(by rw [zhb _ _ _ (by intro j hj;simp)];exact hBw2),hEw2⟩ ?_)))))))))
 rintro i dw3 w3 ⟨hi,hBl,hEl⟩
 have hzl:=hEl.size;have hll:=hBl.lt
 refine ze (ze (zd (zc 1 [(5,(vI i))] (za (zF (some 6) (decide (((i:Nat):Int)<((32:Nat):Int))) (fun hc6=> ?_) (fun hc6=> ?_))))))
 ·replace hc6:i<32:=by have:=zac hc6;omega
  refine zf (zb (zv (zk (zb (ze (zr (zd (zc 3 [(11,(vI i)),(10,(vB sd)),(9,(vI i))] (za (zo (some 12) .i64 (IntKind.i64.wrap (((7:Nat):Int)*((i:Nat):Int))) (7*i) (zu) ?_))))))))))
  refine za (zo (some 13) .u8 (IntKind.u8.wrap ((7*i:Nat):Int)) ((7*i)%2^8) (zcj rfl rfl) ?_)
  refine za (zo (some 14) .u8 (IntKind.u8.wrap (((sd:Nat):Int)+(((7*i)%2^8:Nat):Int))) ((sd+(7*i)%2^8)%2^8) (zcj rfl (by simp)) ?_)
  refine za (zbg w1.heap.size 0 i 32 1 ?_)
  refine za (zaj 5 w1.heap.size (0+i*1) 59 (vB ((sd+(7*i)%2^8)%2^8)) (u8s (zc7 32 (fun j=>decide (j<i)) (fun j=>UInt8.ofNat (sd+7*j)))) hBl (by simp;omega) ?_)
  intro w4 hBw4 hCw4
  have hzw4:=hCw4.size
  rw [show ((u8s (zc7 32 (fun j=>decide (j<i)) (fun j=>UInt8.ofNat (sd+7*j)))).set (0+i*1) (vB ((sd+(7*i)%2^8)%2^8)):List Value)=u8s (zc7 32 (fun j=>decide (j<i+1)) (fun j=>UInt8.ofNat (sd+7*j))) from by have hx:=zih 32 (fun j=>decide (j<i)) (fun j=>decide (j<i+1)) (fun j=>UInt8.ofNat (sd+7*j)) i (UInt8.ofNat (sd+7*i)) (by omega) rfl (by intro j hj;by_cases h1:j<i+1<;>by_cases h2:j<i<;>by_cases h3:j=i<;>simp [h1,h2,h3]<;>omega);rw [UInt8.toNat_ofNat'] at hx;simpa only [Nat.zero_add,Nat.mul_one,show (sd+7*i%2^8)%2^8=(sd+7*i)%2^8 from by omega] using hx] at hBw4
  refine zf (zi (zb (zd (zc 1 [(7,(vI i))] (za (zo (some 8) .i64 (IntKind.i64.wrap (((i:Nat):Int)+((1:Nat):Int))) (i+1) (zu) ?_))))))
  refine zc 1 [(4,(vI (i+1)))] (zf (zz (zL (i+1) ?_ ?_)))
  ·exact ⟨by omega,hBw4,(Ext.own hEl hCw4 (by omega))⟩
  ·first | omega |(dsimp only;omega)
 ·replace hc6:¬(i<32):=by have:=zad hc6;omega
  refine zf (zb (zh (zP (zq (zq (zH (zb (ze (zd ?_)))))))))
  obtain rfl:i=32:=by omega
  have hBd:Blk w3 w1.heap.size (zR (mkD sd)) 59:=by have hq:=hBl;rw [zis _ _ _ (by intro j hj;simpa using hj)] at hq;exact hq
  refine za (zT w1.heap.size 0 hBd.all (zam _) ?_)
  refine za (zG 59 w.heap.size 0 59 (vA (zR (mkD sd))) (zR Dig.zero) (zR (mkD sd)) (hBw1.ext hEl) (by rw [zam];kernel_rfl) (by first |(simp;done)|(simp;omega)) (zbW _) ?_)
  intro w5 hBw5 hCw5
  have hzw5:=hCw5.size
  rw [zy _ _ (by simp)] at hBw5
  exact zf (zb (zj (zaJ (show zX Tryz.prog 17 _ _ (.cell 2 59) (vA (zR (mkD sd))) from ⟨⟨w.heap.size,0,none⟩,(by kernel_rfl),zI (T:=59) (vs:=zR (mkD sd)) (hBw5).all (by rw [zam];kernel_rfl)⟩) (⟨rfl,(Ext.own (hEw1.trans hEl) hCw5 (by omega))⟩))))
theorem zu0 (st:Nat) (sd:Nat) (w:World) (hp0:st<256) (hp1:sd<256):
  Calls Tryz.prog 43 #[(vB st),(vB sd)] w (Ret fun r w'=>r=(vA (zM (mkR st sd)))∧Ext w w'):=by
 refine zD (n:=21) (σ:= [(0,(vB st)),(1,(vB sd))]) Tryz.func43 rfl ?_
 refine ze (zd (za (zaf (zM Rec.zero) 68 ?_)))
 intro w1 hBw1 hEw1 hzw1 hlw1
 refine zf (zb (ze (ze (zd (zc 1 [(5,(vB st))] (za (zo (some 6) .u8 (((st:Nat):Int).tmod ((3:Nat):Int)) (st%3) (zcZ _ _) ?_)))))))
 refine za (zF (some 7) ((((st%3:Nat):Int)==((0:Nat):Int))) (fun hc7=> ?_) (fun hc7=> ?_))
 ·replace hc7:st%3=0:=by have:=zbJ hc7;omega
  refine zf (zb (zv (ze (zd (zc 1 [(8,(vA (zM Rec.zero)))] (za (zG 68 w.heap.size 0 68 (vA (zM Rec.zero)) (zM Rec.zero) (zM Rec.zero) hBw1 (by rw [zZ];kernel_rfl) (by first |(simp;done)|(simp;omega)) (zbb _) ?_)))))))
  intro w2 hBw2 hCw2
  have hzw2:=hCw2.size
  rw [zy _ _ (by simp)] at hBw2
  exact zf (zb (zj (zw (zaJ (show zX Tryz.prog 21 _ _ (.cell 4 68) (vA (zM Rec.zero)) from ⟨⟨w.heap.size,0,none⟩,(by kernel_rfl),zI (T:=68) (vs:=zM Rec.zero) (hBw2).all (by rw [zZ];kernel_rfl)⟩) (⟨by unfold mkR;first | rw [if_pos (by omega)] |(rw [if_neg (by omega)]),(Ext.own hEw1 hCw2 (by omega))⟩)))))
 ·replace hc7:¬(st%3=0):=by have:=zbI hc7;omega
  refine zf (zb (zh (zk (zb (ze (zd (zc 1 [(9,(vB st))] (za (zo (some 10) .u8 (((st:Nat):Int).tmod ((3:Nat):Int)) (st%3) (zcZ _ _) ?_)))))))))
  refine zc 1 [(11,(vB sd))] (za (zo (some 12) .u8 (((sd:Nat):Int).tmod ((8:Nat):Int)) (sd%8) (zcZ _ _) ?_))
  refine za (zo (some 13) .u32 (IntKind.u32.wrap ((sd%8:Nat):Int)) (sd%8) (zbz rfl rfl (by show _<2^32;omega)) ?_)
  refine zc 1 [(14,(vB sd))] (za (zo (some 15) .u64 (IntKind.u64.wrap ((sd:Nat):Int)) sd (zbz rfl rfl (by show _<2^64;omega)) ?_))
  refine za (zo (some 16) .u64 (IntKind.u64.wrap (((sd:Nat):Int)*((257:Nat):Int))) (sd%256*257) (zbz rfl (by rw [show sd%256=sd from by omega];simp) (by show _<2^64;omega)) ?_)
  refine zc 2 [(18,(vB sd)),(17,(vA (zbf ⟨sd%8,sd%256*257,by omega,by omega⟩)))] (za (zp (zgI sd _ (by omega)) ?_))
  rintro _ w3 ⟨rfl,hEw3⟩
  have hzw3:=hEw3.size
  refine za (zaM (Instr.build 68 #[(0,(vB (st%3))),(1,(vA (zbf ⟨sd%8,sd%256*257,by omega,by omega⟩))),(2,(vA (zR (mkD sd))))]) (vA (zM (⟨st%3,(⟨sd%8,sd%256*257,by omega,by omega⟩),(mkD sd),by omega⟩))) (zdb (st%3) (⟨sd%8,sd%256*257,by omega,by omega⟩) (mkD sd) (by omega)) ?_)
  refine za (zG 68 w.heap.size 0 68 (vA (zM (⟨st%3,(⟨sd%8,sd%256*257,by omega,by omega⟩),(mkD sd),by omega⟩))) (zM Rec.zero) (zM (⟨st%3,(⟨sd%8,sd%256*257,by omega,by omega⟩),(mkD sd),by omega⟩)) (hBw1.ext hEw3) (by rw [zZ];kernel_rfl) (by first |(simp;done)|(simp;omega)) (zbb _) ?_)
  intro w4 hBw4 hCw4
  have hzw4:=hCw4.size
  rw [zy _ _ (by simp)] at hBw4
  exact zf (zb (zj (zaJ (show zX Tryz.prog 21 _ _ (.cell 4 68) (vA (zM (⟨st%3,(⟨sd%8,sd%256*257,by omega,by omega⟩),(mkD sd),by omega⟩))) from ⟨⟨w.heap.size,0,none⟩,(by kernel_rfl),zI (T:=68) (vs:=zM (⟨st%3,(⟨sd%8,sd%256*257,by omega,by omega⟩),(mkD sd),by omega⟩)) (hBw4).all (by rw [zZ];kernel_rfl)⟩) (⟨by unfold mkR;first | rw [if_pos (by omega)] |(rw [if_neg (by omega)]),(Ext.own (hEw1.trans hEw3) hCw4 (by omega))⟩))))
end Go.Proofs.YtkmhgepdhilllaaGreatDoor
namespace Go.Proofs.YtkmhgepdhilllaaGreatDoor
open Go Go.RowKit Go.Cs
set_option maxRecDepth 100000
theorem znu (x:Nod) (w:World) (hp0:x.lv=0):
  Calls Tryz.prog 84 #[(vA (zJ x))] w (Ret fun r w'=>∃a0 ca0,r=(.slice a0 185 ca0)∧Es u8v w.heap.size w'.heap.size w' a0 185 ca0 (zN x)∧Ext w w'):=by
 refine zD (n:=45) (σ:= [(0,(vA (zJ x)))]) Tryz.func84 rfl ?_
 have hlvx:=x.hlv
 have hixx:=x.hix
 refine ze (zd (za (zaa (Instr.box 74 (vA (zJ x))) (vP w.heap.size 0) (zJ x) 74 ?_)))
 intro w1 hBw1 hEw1 hzw1 hlw1
 refine zc 1 [(2,(.slice none 0 0))] (zf (zb (ze (zd (zc 1 [(5,(vP w.heap.size 0))] (za (zm w.heap.size 0 (hBw1.cell rfl) ?_)))))))
 refine zc 1 [(7,(vP w.heap.size 1))] (za (zm w.heap.size 1 (hBw1.cell rfl) ?_))
 refine za (zo (some 9) .u32 (((x.ix:Nat):Int).fdiv (2^24)) (x.ix/256^3) (zf9 _ _) ?_)
 refine za (zo (some 10) .u8 (IntKind.u8.wrap ((x.ix/256^3:Nat):Int)) ((x.ix/256^3)%2^8) (zcj rfl rfl) ?_)
 refine zc 1 [(11,(vP w.heap.size 1))] (za (zm w.heap.size 1 (hBw1.cell rfl) ?_))
 refine za (zo (some 13) .u32 (((x.ix:Nat):Int).fdiv (2^16)) (x.ix/256^2) (zf9 _ _) ?_)
 refine za (zo (some 14) .u8 (IntKind.u8.wrap ((x.ix/256^2:Nat):Int)) ((x.ix/256^2)%2^8) (zcj rfl rfl) ?_)
 refine zc 1 [(15,(vP w.heap.size 1))] (za (zm w.heap.size 1 (hBw1.cell rfl) ?_))
 refine za (zo (some 17) .u32 (((x.ix:Nat):Int).fdiv (2^8)) (x.ix/256^1) (zf9 _ _) ?_)
 refine za (zo (some 18) .u8 (IntKind.u8.wrap ((x.ix/256^1:Nat):Int)) ((x.ix/256^1)%2^8) (zcj rfl rfl) ?_)
 refine zc 1 [(19,(vP w.heap.size 1))] (za (zm w.heap.size 1 (hBw1.cell rfl) ?_))
 refine za (zo (some 21) .u8 (IntKind.u8.wrap ((x.ix:Nat):Int)) (x.ix%2^8) (zcj rfl rfl) ?_)
 refine za (zaa (Instr.buildSlice 23 5 #[(0,(vB x.lv)),(1,(vB ((x.ix/256^3)%2^8))),(2,(vB ((x.ix/256^2)%2^8))),(3,(vB ((x.ix/256^1)%2^8))),(4,(vB (x.ix%2^8)))]) (.slice (pA w1.heap.size 0) 5 5) [(vB x.lv),(vB ((x.ix/256^3)%2^8)),(vB ((x.ix/256^2)%2^8)),(vB ((x.ix/256^1)%2^8)),(vB (x.ix%2^8))] 5 ?_)
 intro w2 hBw2 hEw2 hzw2 hlw2
 have hSw2:Bs w1.heap.size (w1.heap.size+1) w2 (pA w1.heap.size 0) 5 5 [UInt8.ofNat x.lv,UInt8.ofNat ((x.ix/256^3)%2^8),UInt8.ofNat ((x.ix/256^2)%2^8),UInt8.ofNat ((x.ix/256^1)%2^8),UInt8.ofNat (x.ix%2^8)]:=Bs.of_blk hBw2 (zgh x) rfl (Nat.le_refl _) (by decide) (Nat.le_refl _) (Nat.lt_succ_self _)
 refine zc 1 [(3,(.slice (pA w1.heap.size 0) 5 5))] (zf (zb (ze (ze (zd (zc 1 [(4,(vI 0))] (zf (zb (zr ?_)))))))))
 have hO1:Cs.Own u8v w1.heap.size (w1.heap.size+1) w2 (pA w1.heap.size 0) 5 5 5 ([UInt8.ofNat x.lv,UInt8.ofNat ((x.ix/256^3)%2^8),UInt8.ofNat ((x.ix/256^2)%2^8),UInt8.ofNat ((x.ix/256^1)%2^8),UInt8.ofNat (x.ix%2^8)]):=Cs.Own.of_blk hBw2 (by simp) (by first | rfl | exact (zgh x)) hSw2.len_eq (Nat.le_refl _) (by simp only [maxLen];omega) (Nat.le_refl _) (Nat.lt_succ_self _)
 refine zU (X:=Nat×Option Addr×Nat) (fun ⟨i,p,cp⟩=> [(3,(.slice p (5+45*i) cp)),(4,(vI i))]) [23,24,25,26,27,28,29,30,31,32,33,34,35,36,37,38,39,40,41,42,43] (fun ⟨i,p,cp⟩ w3=>i≤4∧Cs.Own u8v w1.heap.size w3.heap.size w3 p (5+45*i) cp 5 (zel x++zbM zbT x.rs.get i)∧Ext w1 w3) (fun ⟨i,p,cp⟩=>4-i) (0,(pA w1.heap.size 0),5) (by kernel_rfl) ⟨by omega,by have hz:=(hO1).now;rw [zrm] at hz;rw [zbM,List.append_nil];exact hz.mono (by omega) (Nat.le_refl _),hEw2⟩ ?_
 rintro ⟨i,p,cp⟩ dw3 w3 ⟨hi,hO,hEl⟩
 have hzl:=hEl.size
 have hle:=hO.es.le
 refine ze (ze (zd (zc 1 [(23,(vI i))] (za (zF (some 24) (decide (((i:Nat):Int)<((4:Nat):Int))) (fun hc24=> ?_) (fun hc24=> ?_))))))
 ·replace hc24:i<4:=by have:=zac hc24;omega
  refine zf (zb (zv (zk (zb (ze (zr (ze (zd (zc 1 [(27,(vP w.heap.size 0))] ?_)))))))))
  refine za (zm w.heap.size 0 ((hBw1.ext hEl).cell rfl) ?_)
  refine za (zae (some 29) (((x.lv:Nat):Int)==((0:Nat):Int)) true (zaq) ?_)
  refine zf (zb (zv (zd (zc 3 [(32,(vP w.heap.size 2)),(31,(vI i)),(30,(.slice p (5+45*i) cp))] (za (zbg w.heap.size 2 i 4 35 ?_))))))
  refine za (zT w.heap.size (2+i*35) ((hBw1.ext hEl).at (2+i*35) (zM (x.rs.get i)) (nod_r (by omega))) (zZ _) ?_)
  refine za (zp (zo6 (x.rs.get i) _) ?_)
  rintro _ w4 ⟨a1,ca1,rfl,hFz1_0,hEw4⟩
  have hzw4:=hEw4.size
  have hlea1:=hFz1_0.le
  have hba1:=hFz1_0.bs
  refine za (zbo (some 36) 23 23 5 1 (.int .u8 0) (hO.ext hEw4) hba1.es (fun _=>rfl) ?_)
  intro a2 c1 w5 hOw5 hCw5
  have hzw5:=hCw5.size
  have hSw5:=hOw5.bs
  refine zc 1 [(3,(.slice a2 (5+45*i+45) c1))] (zf (zi (zb (zd (zc 1 [(25,(vI i))] (za (zo (some 26) .i64 (IntKind.i64.wrap (((i:Nat):Int)+((1:Nat):Int))) (i+1) (zu) ?_)))))))
  refine zc 1 [(4,(vI (i+1)))] (zf (zz ?_))
  rw [show 5+45*i+45=5+45*(i+1) from by omega]
  refine zL (i+1,a2,c1) ?_ ?_
  ·exact ⟨by omega,by have hz:=hOw5;rw [List.append_assoc] at hz;exact (show 5+45*i+45=5+45*(i+1) from by omega)▸hz,(Ext.ownS (hEl.trans hEw4) hCw5 (fun k hs hk=>by have hn:=(hO.ext hEw4).ne hs;omega))⟩
  ·first | omega |(dsimp only;omega)
 ·replace hc24:¬(i<4):=by have:=zad hc24;omega
  refine zf (zb (zh (zP (zq (zq (zH (zb (ze (zd ?_)))))))))
  refine zc 2 [(2,(.slice p (5+45*i) cp)),(44,(.slice p (5+45*i) cp))] (zf (zb (zj (zl (.slice p (5+45*i) cp) ?_))))
  obtain rfl:i=4:=by omega
  rw [show zN x=zel x++zbM zbT x.rs.get 4 from by unfold zN;rw [if_pos hp0]]
  exact ⟨_,_,rfl,(hO).es.mono (by omega) (Nat.le_refl _),(hEw1.trans hEl)⟩
theorem znO (x:Nod) (w:World) (hp0:¬x.lv=0):
  Calls Tryz.prog 84 #[(vA (zJ x))] w (Ret fun r w'=>∃a0 ca0,r=(.slice a0 137 ca0)∧Es u8v w.heap.size w'.heap.size w' a0 137 ca0 (zN x)∧Ext w w'):=by
 refine zD (n:=45) (σ:= [(0,(vA (zJ x)))]) Tryz.func84 rfl ?_
 have hlvx:=x.hlv
 have hixx:=x.hix
 refine ze (zd (za (zaa (Instr.box 74 (vA (zJ x))) (vP w.heap.size 0) (zJ x) 74 ?_)))
 intro w1 hBw1 hEw1 hzw1 hlw1
 refine zc 1 [(2,(.slice none 0 0))] (zf (zb (ze (zd (zc 1 [(5,(vP w.heap.size 0))] (za (zm w.heap.size 0 (hBw1.cell rfl) ?_)))))))
 refine zc 1 [(7,(vP w.heap.size 1))] (za (zm w.heap.size 1 (hBw1.cell rfl) ?_))
 refine za (zo (some 9) .u32 (((x.ix:Nat):Int).fdiv (2^24)) (x.ix/256^3) (zf9 _ _) ?_)
 refine za (zo (some 10) .u8 (IntKind.u8.wrap ((x.ix/256^3:Nat):Int)) ((x.ix/256^3)%2^8) (zcj rfl rfl) ?_)
 refine zc 1 [(11,(vP w.heap.size 1))] (za (zm w.heap.size 1 (hBw1.cell rfl) ?_))
 refine za (zo (some 13) .u32 (((x.ix:Nat):Int).fdiv (2^16)) (x.ix/256^2) (zf9 _ _) ?_)
 refine za (zo (some 14) .u8 (IntKind.u8.wrap ((x.ix/256^2:Nat):Int)) ((x.ix/256^2)%2^8) (zcj rfl rfl) ?_)
 refine zc 1 [(15,(vP w.heap.size 1))] (za (zm w.heap.size 1 (hBw1.cell rfl) ?_))
 refine za (zo (some 17) .u32 (((x.ix:Nat):Int).fdiv (2^8)) (x.ix/256^1) (zf9 _ _) ?_)
 refine za (zo (some 18) .u8 (IntKind.u8.wrap ((x.ix/256^1:Nat):Int)) ((x.ix/256^1)%2^8) (zcj rfl rfl) ?_)
 refine zc 1 [(19,(vP w.heap.size 1))] (za (zm w.heap.size 1 (hBw1.cell rfl) ?_))
 refine za (zo (some 21) .u8 (IntKind.u8.wrap ((x.ix:Nat):Int)) (x.ix%2^8) (zcj rfl rfl) ?_)
 refine za (zaa (Instr.buildSlice 23 5 #[(0,(vB x.lv)),(1,(vB ((x.ix/256^3)%2^8))),(2,(vB ((x.ix/256^2)%2^8))),(3,(vB ((x.ix/256^1)%2^8))),(4,(vB (x.ix%2^8)))]) (.slice (pA w1.heap.size 0) 5 5) [(vB x.lv),(vB ((x.ix/256^3)%2^8)),(vB ((x.ix/256^2)%2^8)),(vB ((x.ix/256^1)%2^8)),(vB (x.ix%2^8))] 5 ?_)
 intro w2 hBw2 hEw2 hzw2 hlw2
 have hSw2:Bs w1.heap.size (w1.heap.size+1) w2 (pA w1.heap.size 0) 5 5 [UInt8.ofNat x.lv,UInt8.ofNat ((x.ix/256^3)%2^8),UInt8.ofNat ((x.ix/256^2)%2^8),UInt8.ofNat ((x.ix/256^1)%2^8),UInt8.ofNat (x.ix%2^8)]:=Bs.of_blk hBw2 (zgh x) rfl (Nat.le_refl _) (by decide) (Nat.le_refl _) (Nat.lt_succ_self _)
 refine zc 1 [(3,(.slice (pA w1.heap.size 0) 5 5))] (zf (zb (ze (ze (zd (zc 1 [(4,(vI 0))] (zf (zb (zr ?_)))))))))
 have hO1:Cs.Own u8v w1.heap.size (w1.heap.size+1) w2 (pA w1.heap.size 0) 5 5 5 ([UInt8.ofNat x.lv,UInt8.ofNat ((x.ix/256^3)%2^8),UInt8.ofNat ((x.ix/256^2)%2^8),UInt8.ofNat ((x.ix/256^1)%2^8),UInt8.ofNat (x.ix%2^8)]):=Cs.Own.of_blk hBw2 (by simp) (by first | rfl | exact (zgh x)) hSw2.len_eq (Nat.le_refl _) (by simp only [maxLen];omega) (Nat.le_refl _) (Nat.lt_succ_self _)
 refine zU (X:=Nat×Option Addr×Nat) (fun ⟨i,p,cp⟩=> [(3,(.slice p (5+33*i) cp)),(4,(vI i))]) [23,24,25,26,27,28,29,30,31,32,33,34,35,36,37,38,39,40,41,42,43] (fun ⟨i,p,cp⟩ w3=>i≤4∧Cs.Own u8v w1.heap.size w3.heap.size w3 p (5+33*i) cp 5 (zel x++zbM zb9 x.es.get i)∧Ext w1 w3) (fun ⟨i,p,cp⟩=>4-i) (0,(pA w1.heap.size 0),5) (by kernel_rfl) ⟨by omega,by have hz:=(hO1).now;rw [zrm] at hz;rw [zbM,List.append_nil];exact hz.mono (by omega) (Nat.le_refl _),hEw2⟩ ?_
 rintro ⟨i,p,cp⟩ dw3 w3 ⟨hi,hO,hEl⟩
 have hzl:=hEl.size
 have hle:=hO.es.le
 refine ze (ze (zd (zc 1 [(23,(vI i))] (za (zF (some 24) (decide (((i:Nat):Int)<((4:Nat):Int))) (fun hc24=> ?_) (fun hc24=> ?_))))))
 ·replace hc24:i<4:=by have:=zac hc24;omega
  refine zf (zb (zv (zk (zb (ze (zr (ze (zd (zc 1 [(27,(vP w.heap.size 0))] ?_)))))))))
  refine za (zm w.heap.size 0 ((hBw1.ext hEl).cell rfl) ?_)
  refine za (zae (some 29) (((x.lv:Nat):Int)==((0:Nat):Int)) false (zb8) ?_)
  refine zf (zb (zh (zd (zc 3 [(39,(vP w.heap.size 142)),(38,(vI i)),(37,(.slice p (5+33*i) cp))] (za (zbg w.heap.size 142 i 4 33 ?_))))))
  refine za (zT w.heap.size (142+i*33) ((hBw1.ext hEl).at (142+i*33) (zai (x.es.get i)) (nod_e (by omega))) (zaK _) ?_)
  refine za (zp (zp1 (x.es.get i) _) ?_)
  rintro _ w4 ⟨a1,ca1,rfl,hFz1_0,hEw4⟩
  have hzw4:=hEw4.size
  have hlea1:=hFz1_0.le
  have hba1:=hFz1_0.bs
  refine za (zbo (some 43) 23 23 5 1 (.int .u8 0) (hO.ext hEw4) hba1.es (fun _=>rfl) ?_)
  intro a2 c1 w5 hOw5 hCw5
  have hzw5:=hCw5.size
  have hSw5:=hOw5.bs
  refine zc 1 [(3,(.slice a2 (5+33*i+33) c1))] (zf (zi (zb (zd (zc 1 [(25,(vI i))] (za (zo (some 26) .i64 (IntKind.i64.wrap (((i:Nat):Int)+((1:Nat):Int))) (i+1) (zu) ?_)))))))
  refine zc 1 [(4,(vI (i+1)))] (zf (zz ?_))
  rw [show 5+33*i+33=5+33*(i+1) from by omega]
  refine zL (i+1,a2,c1) ?_ ?_
  ·exact ⟨by omega,by have hz:=hOw5;rw [List.append_assoc] at hz;exact (show 5+33*i+33=5+33*(i+1) from by omega)▸hz,(Ext.ownS (hEl.trans hEw4) hCw5 (fun k hs hk=>by have hn:=(hO.ext hEw4).ne hs;omega))⟩
  ·first | omega |(dsimp only;omega)
 ·replace hc24:¬(i<4):=by have:=zad hc24;omega
  refine zf (zb (zh (zP (zq (zq (zH (zb (ze (zd ?_)))))))))
  refine zc 2 [(2,(.slice p (5+33*i) cp)),(44,(.slice p (5+33*i) cp))] (zf (zb (zj (zl (.slice p (5+33*i) cp) ?_))))
  obtain rfl:i=4:=by omega
  rw [show zN x=zel x++zbM zb9 x.es.get 4 from by unfold zN;rw [if_neg hp0]]
  exact ⟨_,_,rfl,(hO).es.mono (by omega) (Nat.le_refl _),(hEw1.trans hEl)⟩
theorem zpC (x:Nod) (w:World):
  Calls Tryz.prog 84 #[(vA (zJ x))] w (Ret fun r w'=>∃a0 ca0,r=(.slice a0 (zb4 x) ca0)∧Es u8v w.heap.size w'.heap.size w' a0 (zb4 x) ca0 (zN x)∧Ext w w'):=by
 by_cases h:x.lv=0
 ·rw [show zb4 x=185 from if_pos h];exact znu x w h
 ·rw [show zb4 x=137 from if_neg h];exact znO x w h
end Go.Proofs.YtkmhgepdhilllaaGreatDoor
namespace Go.Proofs.YtkmhgepdhilllaaGreatDoor
open Go Go.RowKit Go.Cs
set_option maxRecDepth 100000
theorem zoO {b6 bm n cp m:Nat} {L:List UInt8} {lo hi k:Nat} {a:Option Addr} {cl:Nat} {l:List UInt8} (e:Nat) (w:World) (hb6:Blk w b6 [(.slice (pA bm 0) n cp)] 23) (hbm:Blk w bm (u8s L++List.replicate m (vB 0)) 5) (hL:L.length=n) (hcp:n+m=cp) (hmx:cp≤1000) (hne:b6≠bm) (hl:Bs lo hi w a k cl l) (hk:0<k) (hkm:k≤m):
  Calls Tryz.prog 112 #[(.slice a k cl),(vI e),(vP b6 0)] w (Ret fun r w'=>r=(vI e)∧Blk w' b6 [(.slice (pA bm 0) (n+k) cp)] 23∧Blk w' bm (u8s (L++l)++List.replicate (m-k) (vB 0)) 5∧Chg (fun j=>j=b6∨j=bm) w w'):=by
 refine zD (n:=10) (σ:= [(0,(.slice a k cl)),(1,(vI e)),(2,(vP b6 0))]) Tryz.func112 rfl ?_
 have hle:=hl.le
 refine ze (zd (zc 1 [(5,(vI 0))] (zf (zb (ze (zd (za (zm b6 0 (hb6.cell rfl) ?_))))))))
 refine zc 1 [(7,(.slice a k cl))] ?_
 obtain ⟨b1,o1,rfl⟩:=hl.addr (by omega)
 refine za (zdk (some 8) 23 23 5 1 bm n cp ⟨b1,o1,none⟩ k cl hbm hl.sla (by rw [za6,←hl.len_eq,Nat.mul_one]) (zdd _) (by rw [List.length_append,za6,hL,List.length_replicate,Nat.mul_one];omega) ?_ (by omega))
 intro w1 hBw1 hCw1
 have hzw1:=hCw1.size
 rw [zf6 hL hl.len_eq.symm (by omega)] at hBw1
 have hLw1:(L++l).length=n+k:=by rw [List.length_append,hL,←hl.len_eq]
 refine za (zaj 23 b6 0 23 (.slice (pA bm 0) (n+k) cp) ([(.slice (pA bm 0) n cp)]) (hb6.chg hCw1) (by first | decide |(simp;done)|(simp;omega)) ?_)
 intro w2 hBw2 hCw2
 have hzw2:=hCw2.size
 replace hBw2:=hBw2.set1
 exact zf (zb (ze (zd (zc 2 [(5,(vI e)),(9,(vI e))] (zf (zb (zj (zl (vI e) (⟨rfl,hBw2,(hBw1.chg hCw2),(Chg.then (Chg.then (Chg.refl (fun j=>j=b6∨j=bm) w) hCw1 (fun k hk hs=>by have h:k=_:=hs;first | exact hs | exact .inl h | exact .inr h |(exfalso;omega))) hCw2 (fun k hk hs=>by have h:k=_:=hs;first | exact hs | exact .inl h | exact .inr h |(exfalso;omega)))⟩)))))))))
theorem ztt {b6 bm n cp m:Nat} {L:List UInt8} {b7:Nat} (q:Rec) (w:World) (hb6:Blk w b6 [(.slice (pA bm 0) n cp)] 23) (hbm:Blk w bm (u8s L++List.replicate m (vB 0)) 5) (hL:L.length=n) (hcp:n+m=cp) (hmx:cp≤1000) (hne:b6≠bm) (hb7:Blk w b7 [(.func (.func 112) #[] #[(vP b6 0)])] 184) (h76:b7≠b6) (h7m:b7≠bm) (hq:zaW q=0) (hm:45≤m):
  Calls Tryz.prog 114 #[(vA (zM q)),(vP b7 0)] w (Ret fun r w'=>r=(vI 0)∧Blk w' b7 [(.func (.func 112) #[] #[(vP b6 0)])] 184∧Blk w' b6 [(.slice (pA bm 0) (n+45) cp)] 23∧Blk w' bm (u8s (L++zbT q)++List.replicate (m-45) (vB 0)) 5∧Chg (fun j=>j=b6∨j=bm) w w'):=by
 refine zD (n:=10) (σ:= [(0,(vA (zM q))),(1,(vP b7 0))]) Tryz.func114 rfl ?_
 have h6l:=hb6.lt;have hml:=hbm.lt;have h7l:=hb7.lt
 refine ze (zd (za (zaa (Instr.box 68 (vA (zM q))) (vP w.heap.size 0) (zM q) 68 ?_)))
 intro w1 hBw1 hEw1 hzw1 hlw1
 refine zc 1 [(3,(vI 0))] (zf (zb (ze (zbD (fun j=>j=b6∨j=bm) 7 (fun w2 hEw2 hzw2 hT30=> ?_)))))
 have hX1:Chg (fun j=>j=b6∨j=bm) w2 w2:=(Chg.refl (fun j=>j=b6∨j=bm) w2)
 refine zA (hw:=hX1) hT30 0 b7 0 (fun w' hC=>((((hb7.ext hEw1).ext hEw2).chg hC (fun hs=>by rcases hs with hs | hs<;>omega)).cell rfl)) (zan (hw:=hX1) hT30 1 w.heap.size 0 (fun w' hC=>(((hBw1.ext hEw2).chg hC (fun hs=>by rcases hs with hs | hs<;>omega)).all)) (zZ _) (zx 2 (zp (zmb q _ (by assumption)) ?_)))
 rintro _ w3 ⟨a1,rfl,hFz1_0,hEw3⟩
 have hzw3:=hEw3.size
 have hX2:Chg (fun j=>j=b6∨j=bm) w2 w3:=((Chg.refl (fun j=>j=b6∨j=bm) w2).trans hEw3.chg)
 refine ⟨.inr hX2, ?_⟩
 refine zg (hw:=hX2) hT30 [(3,7,(.slice a1 45 45)),(4,8,(vI 0))] 2 ?_
 have hK1:=(((hb6.ext hEw1).ext hEw2).ext hEw3)
 have hK2:=(((hbm.ext hEw1).ext hEw2).ext hEw3)
 refine zx 5 (zcw (some 9) (zoO 0 _ hK1 hK2 hL hcp hmx hne hFz1_0 (by omega) (by omega)) ?_)
 rintro _ w4 ⟨rfl,hPw4,hQw4,hCw4⟩
 have hzw4:=hCw4.size
 have hX3:Chg (fun j=>j=b6∨j=bm) w2 w4:=(Chg.then ((Chg.refl (fun j=>j=b6∨j=bm) w2).trans hEw3.chg) hCw4 (fun k hk hs=>by first | exact hs |(rcases hs with hs | hs<;>first |(left;omega)|(right;omega)|(exfalso;omega))))
 refine ⟨.inr hX3, ?_⟩
 refine zg (hw:=hX3) hT30 [(6,3,(vI 0))] 1 (zE (zb (zj (zl (vI 0) ?_))))
 have hK3:=((((hb7.ext hEw1).ext hEw2).ext hEw3).chg hCw4)
 exact ⟨rfl,hK3,hPw4,hQw4,(Chg.then ((((Chg.refl (fun j=>j=b6∨j=bm) w).trans hEw1.chg).trans hEw2.chg).trans hEw3.chg) hCw4 (fun k hk hs=>by first | exact hs |(rcases hs with hs | hs<;>first |(left;omega)|(right;omega)|(exfalso;omega))))⟩
theorem zkY {b6 bm n cp m:Nat} {L:List UInt8} {b7:Nat} (x:R4) (w:World) (hb6:Blk w b6 [(.slice (pA bm 0) n cp)] 23) (hbm:Blk w bm (u8s L++List.replicate m (vB 0)) 5) (hL:L.length=n) (hcp:n+m=cp) (hmx:cp≤1000) (hne:b6≠bm) (hb7:Blk w b7 [(.func (.func 112) #[] #[(vP b6 0)])] 184) (h76:b7≠b6) (h7m:b7≠bm) (hq:zgb x=0) (hm:180≤m):
  Calls Tryz.prog 113 #[(vA (r4C x)),(.func (.func 114) #[] #[(vP b7 0)])] w (Ret fun r w'=>r=(vI 0)∧Blk w' b7 [(.func (.func 112) #[] #[(vP b6 0)])] 184∧Blk w' b6 [(.slice (pA bm 0) (n+45*4) cp)] 23∧Blk w' bm (u8s (L++zbM zbT x.get 4)++List.replicate (m-45*4) (vB 0)) 5∧Chg (fun j=>j=b6∨j=bm) w w'):=by
 refine zD (n:=19) (σ:= [(0,(vA (r4C x))),(1,(.func (.func 114) #[] #[(vP b7 0)]))]) Tryz.func113 rfl ?_
 have h6l:=hb6.lt;have hml:=hbm.lt;have h7l:=hb7.lt
 refine ze (zd (za (zaa (Instr.box 69 (vA (r4C x))) (vP w.heap.size 0) (r4C x) 69 ?_)))
 intro w1 hBw1 hEw1 hzw1 hlw1
 refine zc 1 [(4,(vI 0))] (zf (zb (ze (ze (zd (za (zT w.heap.size 0 (hBw1.all) (zdq _) ?_)))))))
 refine zc 1 [(9,(vI 0))] (zf (zb (zr (zU (X:=Nat) (fun i=> [(9,(vI i))]) [4,6,7,10,11,12,13,14,15,16,17,18] (fun i w2=>i≤4∧Blk w2 b7 ([(.func (.func 112) #[] #[(vP b6 0)])]) 184∧Blk w2 b6 ([(.slice (pA bm 0) (n+45*i) cp)]) 23∧Blk w2 bm (u8s (L++zbM zbT x.get i)++List.replicate (m-45*i) (vB 0)) 5∧Chg (fun j=>j=b6∨j=bm) w w2) (fun i=>4-i) 0 (by kernel_rfl) ⟨by omega,(hb7.ext hEw1),(hb6.ext hEw1),by have hz:=(hbm.ext hEw1);simpa [zbM] using hz,((Chg.refl (fun j=>j=b6∨j=bm) w).trans hEw1.chg)⟩ ?_))))
 rintro i dw2 w2 ⟨hi,hR,hP,hQ,hCl⟩
 have hzl:=hCl.size
 refine ze (zd (za (zF (some 10) (decide (((i:Nat):Int)<((4:Nat):Int))) (fun hc10=> ?_) (fun hc10=> ?_))))
 ·replace hc10:i<4:=by have:=zac hc10;omega
  refine zf (zb (ze (zv (zk (zb (ze (zr (ze (zd ?_)))))))))
  refine za (zaM (Instr.index 69 (vA (r4C x)) (vI i)) (vA (zM (x.get i))) (zhl (E:=68) (m:=4) (sz:=35) (us:=zM (x.get i)) (by omega) (zn6 (by omega))) ?_)
  refine zal (zM (x.get i)) 68 (zZ _) (zbb _) ?_
  intro w3 hBw3 hEw3 hzw3 hlw3
  refine zf (zb (ze (zd (zc 1 [(12,(.func (.func 114) #[] #[(vP b7 0)]))] (za (zT w2.heap.size 0 (hBw3.all) (zZ _) ?_))))))
  refine za (zcw (some 14) (ztt (x.get i) _ (hP.ext hEw3) (hQ.ext hEw3) (by rw [List.length_append,zev ziI];omega) (by omega) hmx hne (hR.ext hEw3) h76 h7m (za5.1 hq _ (by omega)) (by omega)) ?_)
  rintro _ w4 ⟨rfl,hRw4,hPw4,hQw4,hCw4⟩
  have hzw4:=hCw4.size
  refine zc 1 [(7,(vI 0))] (zf (zb (ze (zd (zc 2 [(16,vF),(15,(vI 0))] (zf (zb (zh (zk ?_)))))))))
  refine zi (zb (zd (za (zo (some 18) .i64 (IntKind.i64.wrap (((i:Nat):Int)+((1:Nat):Int))) (i+1) (zu) ?_))))
  refine zc 1 [(9,(vI (i+1)))] (zf (zz (zL (i+1) ?_ ?_)))
  ·exact ⟨by omega,hRw4,by have hz:=hPw4;rwa [show n+45*i+45=n+45*(i+1) from by omega] at hz,by have hz:=hQw4;rw [List.append_assoc] at hz;exact (show m-45*i-45=m-45*(i+1) from by omega)▸hz,(Chg.then ((Chg.then (Chg.refl (fun j=>j=b6∨j=bm) w) hCl (fun k hk hs=>by first | exact hs |(rcases hs with hs | hs<;>first |(left;omega)|(right;omega)|(exfalso;omega)))).trans hEw3.chg) hCw4 (fun k hk hs=>by first | exact hs |(rcases hs with hs | hs<;>first |(left;omega)|(right;omega)|(exfalso;omega))))⟩
  ·first | omega |(dsimp only;omega)
 ·replace hc10:¬(i<4):=by have:=zad hc10;omega
  refine zf (zb (ze (zh (zP (zq (zq (zH (zb (ze ?_)))))))))
  refine zd (zc 1 [(4,(vI 0))] (zf (zb (zj (zl (vI 0) ?_)))))
  obtain rfl:i=4:=by omega
  exact ⟨rfl,hR,hP,hQ,(Chg.then (Chg.refl (fun j=>j=b6∨j=bm) w) hCl (fun k hk hs=>by first | exact hs |(rcases hs with hs | hs<;>first |(left;omega)|(right;omega)|(exfalso;omega))))⟩
theorem ztR {b6 bm n cp m:Nat} {L:List UInt8} {b7:Nat} (q:Ent) (w:World) (hb6:Blk w b6 [(.slice (pA bm 0) n cp)] 23) (hbm:Blk w bm (u8s L++List.replicate m (vB 0)) 5) (hL:L.length=n) (hcp:n+m=cp) (hmx:cp≤1000) (hne:b6≠bm) (hb7:Blk w b7 [(.func (.func 112) #[] #[(vP b6 0)])] 184) (h76:b7≠b6) (h7m:b7≠bm) (hq:zbc q=0) (hm:33≤m):
  Calls Tryz.prog 117 #[(vA (zai q)),(vP b7 0)] w (Ret fun r w'=>r=(vI 0)∧Blk w' b7 [(.func (.func 112) #[] #[(vP b6 0)])] 184∧Blk w' b6 [(.slice (pA bm 0) (n+33) cp)] 23∧Blk w' bm (u8s (L++zb9 q)++List.replicate (m-33) (vB 0)) 5∧Chg (fun j=>j=b6∨j=bm) w w'):=by
 refine zD (n:=10) (σ:= [(0,(vA (zai q))),(1,(vP b7 0))]) Tryz.func117 rfl ?_
 have h6l:=hb6.lt;have hml:=hbm.lt;have h7l:=hb7.lt
 refine ze (zd (za (zaa (Instr.box 71 (vA (zai q))) (vP w.heap.size 0) (zai q) 71 ?_)))
 intro w1 hBw1 hEw1 hzw1 hlw1
 refine zc 1 [(3,(vI 0))] (zf (zb (ze (zbD (fun j=>j=b6∨j=bm) 7 (fun w2 hEw2 hzw2 hT86=> ?_)))))
 have hX1:Chg (fun j=>j=b6∨j=bm) w2 w2:=(Chg.refl (fun j=>j=b6∨j=bm) w2)
 refine zA (hw:=hX1) hT86 0 b7 0 (fun w' hC=>((((hb7.ext hEw1).ext hEw2).chg hC (fun hs=>by rcases hs with hs | hs<;>omega)).cell rfl)) (zan (hw:=hX1) hT86 1 w.heap.size 0 (fun w' hC=>(((hBw1.ext hEw2).chg hC (fun hs=>by rcases hs with hs | hs<;>omega)).all)) (zaK _) (zx 2 (zp (zof q _ (by assumption)) ?_)))
 rintro _ w3 ⟨a1,rfl,hFz1_0,hEw3⟩
 have hzw3:=hEw3.size
 have hX2:Chg (fun j=>j=b6∨j=bm) w2 w3:=((Chg.refl (fun j=>j=b6∨j=bm) w2).trans hEw3.chg)
 refine ⟨.inr hX2, ?_⟩
 refine zg (hw:=hX2) hT86 [(3,7,(.slice a1 33 33)),(4,8,(vI 0))] 2 ?_
 have hK1:=(((hb6.ext hEw1).ext hEw2).ext hEw3)
 have hK2:=(((hbm.ext hEw1).ext hEw2).ext hEw3)
 refine zx 5 (zcw (some 9) (zoO 0 _ hK1 hK2 hL hcp hmx hne hFz1_0 (by omega) (by omega)) ?_)
 rintro _ w4 ⟨rfl,hPw4,hQw4,hCw4⟩
 have hzw4:=hCw4.size
 have hX3:Chg (fun j=>j=b6∨j=bm) w2 w4:=(Chg.then ((Chg.refl (fun j=>j=b6∨j=bm) w2).trans hEw3.chg) hCw4 (fun k hk hs=>by first | exact hs |(rcases hs with hs | hs<;>first |(left;omega)|(right;omega)|(exfalso;omega))))
 refine ⟨.inr hX3, ?_⟩
 refine zg (hw:=hX3) hT86 [(6,3,(vI 0))] 1 (zE (zb (zj (zl (vI 0) ?_))))
 have hK3:=((((hb7.ext hEw1).ext hEw2).ext hEw3).chg hCw4)
 exact ⟨rfl,hK3,hPw4,hQw4,(Chg.then ((((Chg.refl (fun j=>j=b6∨j=bm) w).trans hEw1.chg).trans hEw2.chg).trans hEw3.chg) hCw4 (fun k hk hs=>by first | exact hs |(rcases hs with hs | hs<;>first |(left;omega)|(right;omega)|(exfalso;omega))))⟩
theorem zlU {b6 bm n cp m:Nat} {L:List UInt8} {b7:Nat} (x:E4) (w:World) (hb6:Blk w b6 [(.slice (pA bm 0) n cp)] 23) (hbm:Blk w bm (u8s L++List.replicate m (vB 0)) 5) (hL:L.length=n) (hcp:n+m=cp) (hmx:cp≤1000) (hne:b6≠bm) (hb7:Blk w b7 [(.func (.func 112) #[] #[(vP b6 0)])] 184) (h76:b7≠b6) (h7m:b7≠bm) (hq:zgd x=0) (hm:132≤m):
  Calls Tryz.prog 116 #[(vA (e4C x)),(.func (.func 117) #[] #[(vP b7 0)])] w (Ret fun r w'=>r=(vI 0)∧Blk w' b7 [(.func (.func 112) #[] #[(vP b6 0)])] 184∧Blk w' b6 [(.slice (pA bm 0) (n+33*4) cp)] 23∧Blk w' bm (u8s (L++zbM zb9 x.get 4)++List.replicate (m-33*4) (vB 0)) 5∧Chg (fun j=>j=b6∨j=bm) w w'):=by
 refine zD (n:=19) (σ:= [(0,(vA (e4C x))),(1,(.func (.func 117) #[] #[(vP b7 0)]))]) Tryz.func116 rfl ?_
 have h6l:=hb6.lt;have hml:=hbm.lt;have h7l:=hb7.lt
 refine ze (zd (za (zaa (Instr.box 72 (vA (e4C x))) (vP w.heap.size 0) (e4C x) 72 ?_)))
 intro w1 hBw1 hEw1 hzw1 hlw1
 refine zc 1 [(4,(vI 0))] (zf (zb (ze (ze (zd (za (zT w.heap.size 0 (hBw1.all) (zee _) ?_)))))))
 refine zc 1 [(9,(vI 0))] (zf (zb (zr (zU (X:=Nat) (fun i=> [(9,(vI i))]) [4,6,7,10,11,12,13,14,15,16,17,18] (fun i w2=>i≤4∧Blk w2 b7 ([(.func (.func 112) #[] #[(vP b6 0)])]) 184∧Blk w2 b6 ([(.slice (pA bm 0) (n+33*i) cp)]) 23∧Blk w2 bm (u8s (L++zbM zb9 x.get i)++List.replicate (m-33*i) (vB 0)) 5∧Chg (fun j=>j=b6∨j=bm) w w2) (fun i=>4-i) 0 (by kernel_rfl) ⟨by omega,(hb7.ext hEw1),(hb6.ext hEw1),by have hz:=(hbm.ext hEw1);simpa [zbM] using hz,((Chg.refl (fun j=>j=b6∨j=bm) w).trans hEw1.chg)⟩ ?_))))
 rintro i dw2 w2 ⟨hi,hR,hP,hQ,hCl⟩
 have hzl:=hCl.size
 refine ze (zd (za (zF (some 10) (decide (((i:Nat):Int)<((4:Nat):Int))) (fun hc10=> ?_) (fun hc10=> ?_))))
 ·replace hc10:i<4:=by have:=zac hc10;omega
  refine zf (zb (ze (zv (zk (zb (ze (zr (ze (zd ?_)))))))))
  refine za (zaM (Instr.index 72 (vA (e4C x)) (vI i)) (vA (zai (x.get i))) (zhl (E:=71) (m:=4) (sz:=33) (us:=zai (x.get i)) (by omega) (zkj (by omega))) ?_)
  refine zal (zai (x.get i)) 71 (zaK _) (zcX _) ?_
  intro w3 hBw3 hEw3 hzw3 hlw3
  refine zf (zb (ze (zd (zc 1 [(12,(.func (.func 117) #[] #[(vP b7 0)]))] (za (zT w2.heap.size 0 (hBw3.all) (zaK _) ?_))))))
  refine za (zcw (some 14) (ztR (x.get i) _ (hP.ext hEw3) (hQ.ext hEw3) (by rw [List.length_append,zev zit];omega) (by omega) hmx hne (hR.ext hEw3) h76 h7m (za5.1 hq _ (by omega)) (by omega)) ?_)
  rintro _ w4 ⟨rfl,hRw4,hPw4,hQw4,hCw4⟩
  have hzw4:=hCw4.size
  refine zc 1 [(7,(vI 0))] (zf (zb (ze (zd (zc 2 [(16,vF),(15,(vI 0))] (zf (zb (zh (zk ?_)))))))))
  refine zi (zb (zd (za (zo (some 18) .i64 (IntKind.i64.wrap (((i:Nat):Int)+((1:Nat):Int))) (i+1) (zu) ?_))))
  refine zc 1 [(9,(vI (i+1)))] (zf (zz (zL (i+1) ?_ ?_)))
  ·exact ⟨by omega,hRw4,by have hz:=hPw4;rwa [show n+33*i+33=n+33*(i+1) from by omega] at hz,by have hz:=hQw4;rw [List.append_assoc] at hz;exact (show m-33*i-33=m-33*(i+1) from by omega)▸hz,(Chg.then ((Chg.then (Chg.refl (fun j=>j=b6∨j=bm) w) hCl (fun k hk hs=>by first | exact hs |(rcases hs with hs | hs<;>first |(left;omega)|(right;omega)|(exfalso;omega)))).trans hEw3.chg) hCw4 (fun k hk hs=>by first | exact hs |(rcases hs with hs | hs<;>first |(left;omega)|(right;omega)|(exfalso;omega))))⟩
  ·first | omega |(dsimp only;omega)
 ·replace hc10:¬(i<4):=by have:=zad hc10;omega
  refine zf (zb (ze (zh (zP (zq (zq (zH (zb (ze ?_)))))))))
  refine zd (zc 1 [(4,(vI 0))] (zf (zb (zj (zl (vI 0) ?_)))))
  obtain rfl:i=4:=by omega
  exact ⟨rfl,hR,hP,hQ,(Chg.then (Chg.refl (fun j=>j=b6∨j=bm) w) hCl (fun k hk hs=>by first | exact hs |(rcases hs with hs | hs<;>first |(left;omega)|(right;omega)|(exfalso;omega))))⟩
end Go.Proofs.YtkmhgepdhilllaaGreatDoor
namespace Go.Proofs.YtkmhgepdhilllaaGreatDoor
open Go Go.RowKit Go.Cs
set_option maxRecDepth 100000
theorem zrO (x:Nod) (w:World) (hp0:zaD x=0) (hp1:x.lv=0) (hg0:Gl 0 [vI 45,vI 33] w):
  Calls Tryz.prog 89 #[(vA (zJ x))] w (Ret fun r w'=>∃a0,r=(.tuple #[(.slice (pA a0 0) 185 185),(vI 0)])∧w.heap.size≤a0∧Blk w' a0 (u8s (zN x)) 5∧185=(zN x).length∧185≤1099511627776∧Ext w w'):=by
 refine zD (n:=44) (σ:= [(0,(vA (zJ x)))]) Tryz.func89 rfl ?_
 have hgl0:=hg0.lt
 have hlvx:=x.hlv
 have hixx:=x.hix
 refine ze (zd (za (zaa (Instr.box 74 (vA (zJ x))) (vP w.heap.size 0) (zJ x) 74 ?_)))
 intro w1 hBw1 hEw1 hzw1 hlw1
 refine zc 2 [(3,(vI 0)),(2,(.slice none 0 0))] (zf (zb (ze (ze (zd (za (zT w.heap.size 0 (hBw1.all) (zQ _) ?_)))))))
 refine za (zp (zin x _) ?_)
 rintro _ w2 ⟨rfl,hEw2⟩
 have hzw2:=hEw2.size
 refine zc 1 [(4,(vI (zaD x)))] (zf (zb (ze (zd (zc 1 [(10,(vI (zaD x)))] (za (zae (some 11) (((zaD x:Nat):Int) !=((0:Nat):Int)) false (zax) ?_)))))))
 refine zf (zb (zh (zk (zb (ze (zd (zc 1 [(13,(vP w.heap.size 0))] (za (zm w.heap.size 0 ((hBw1.ext hEw2).cell rfl) ?_)))))))))
 refine za (zp (zpa x.lv _) ?_)
 rintro _ _ ⟨rfl,rfl⟩
 rw [show min x.lv 1=0 from by omega]
 refine zc 1 [(5,(vI 0))] (zf (zb (ze (zd (zc 1 [(16,(vI 0))] (za (zaM (Instr.indexAt 183 (vP 0 0) (vI 0)) (vP 0 0) (za3 (E:=3) (sz:=1) (m:=2)) ?_)))))))
 refine za (zm 0 0 (((hg0.ext hEw1).ext hEw2).all.one 0 (vI 45) rfl) ?_)
 refine za (zo (some 19) .i64 (IntKind.i64.wrap (((4:Nat):Int)*((45:Nat):Int))) 180 (zu) ?_)
 refine za (zo (some 20) .i64 (IntKind.i64.wrap (((5:Nat):Int)+((180:Nat):Int))) 185 (zu) ?_)
 refine za (zcx (some 21) 23 5 1 1 0 185 .i64 .i64 (vB 0) (by omega) (by omega) (by omega) ?_)
 rw [zd4 _ rfl]
 intro w3 hBw3 hEw3
 have hzw3:=hEw3.size;have hlw3:=hBw3.lt
 refine zfI (.slice (pA w2.heap.size 0) 0 185) 23 ?_
 intro w4 hBw4 hEw4 hzw4 hlw4
 refine zf (zb (ze (zd (za (zm w3.heap.size 0 (hBw4.cell rfl) ?_)))))
 refine zc 1 [(23,(vP w.heap.size 0))] ?_
 have hK1:=(((hBw1.ext hEw2).ext hEw3).ext hEw4)
 refine za (zm w.heap.size 0 (hK1.cell rfl) ?_)
 refine za (zaa (Instr.buildSlice 23 1 #[(0,(vB x.lv))]) (.slice (pA w4.heap.size 0) 1 1) [(vB x.lv)] 5 ?_)
 intro w5 hBw5 hEw5 hzw5 hlw5
 have hSw5:Bs w4.heap.size (w4.heap.size+1) w5 (pA w4.heap.size 0) 1 1 [UInt8.ofNat x.lv]:=Bs.of_blk hBw5 (zcW x.hlv) rfl (Nat.le_refl _) (by decide) (Nat.le_refl _) (Nat.lt_succ_self _)
 have hZw2:Blk w5 w2.heap.size (u8s []++List.replicate 185 (vB 0)) 5:=((hBw3.ext hEw4).ext hEw5)
 refine za (zdk (some 26) 23 23 5 1 w2.heap.size 0 185 ⟨w4.heap.size,0,none⟩ 1 1 hZw2 hSw5.sla (by rw [za6,←hSw5.len_eq,Nat.mul_one]) (zdd _) (by rw [List.length_append,za6,(show ([]:List UInt8).length=0 from rfl),List.length_replicate,Nat.mul_one];omega) ?_ (by omega))
 intro w6 hBw6 hCw6
 have hzw6:=hCw6.size
 rw [zf6 (show ([]:List UInt8).length=0 from rfl) hSw5.len_eq.symm (by omega)] at hBw6
 rw [show 185-1=184 from rfl] at hBw6
 have hLw6:([]++([UInt8.ofNat x.lv])).length=0+1:=by rw [List.length_append,(show ([]:List UInt8).length=0 from rfl),←hSw5.len_eq]
 rw [show 0+1=1 from rfl]
 rw [show 0+1=1 from rfl] at hLw6
 refine za (zaj 23 w3.heap.size 0 23 (.slice (pA w2.heap.size 0) 1 185) ([(.slice (pA w2.heap.size 0) 0 185)]) ((hBw4.ext hEw5).chg hCw6) (by first | decide |(simp;done)|(simp;omega)) ?_)
 intro w7 hBw7 hCw7
 have hzw7:=hCw7.size
 replace hBw7:=hBw7.set1
 refine zf (zb (ze (zbD (fun k=>k=w3.heap.size∨k=w2.heap.size) 6 (fun w8 hEw8 hzw8 hT98=> ?_))))
 have hX1:Chg (fun k=>k=w3.heap.size∨k=w2.heap.size) w8 w8:=(Chg.refl (fun k=>k=w3.heap.size∨k=w2.heap.size) w8)
 refine zg (hw:=hX1) hT98 [(1,28,(vP w.heap.size 1))] 1 ?_
 have hK2:=((((hK1.ext hEw5).chg hCw6).chg hCw7).ext hEw8)
 refine zA (hw:=hX1) hT98 2 w.heap.size 1 (fun w' hC=>((hK2.chg hC (fun hs=>by rcases hs with hs | hs<;>omega)).cell rfl)) (zbt 0 3 ?_ ?_)
 ·refine zm w3.heap.size 0 ((hBw7.ext hEw8).cell rfl) (⟨.inr hX1, ?_⟩)
  refine zx 3 (zp (zfM x.ix _ (by omega)) ?_)
  rintro _ w9 ⟨a1,rfl,hFz3_0,hEw9⟩
  have hzw9:=hEw9.size
  have hX2:Chg (fun k=>k=w3.heap.size∨k=w2.heap.size) w8 w9:=((Chg.refl (fun k=>k=w3.heap.size∨k=w2.heap.size) w8).trans hEw9.chg)
  refine ⟨.inr hX2, ?_⟩
  obtain ⟨b1,o1,rfl⟩:=hFz3_0.addr (by omega)
  have hK3:=(((hBw6.chg hCw7).ext hEw8).ext hEw9)
  refine zx 4 (zdk (some 31) 23 23 5 1 w2.heap.size 1 185 ⟨b1,o1,none⟩ 4 4 hK3 hFz3_0.sla (by rw [za6,←hFz3_0.len_eq,Nat.mul_one]) (zdd _) (by rw [List.length_append,za6,hLw6,List.length_replicate,Nat.mul_one];omega) ?_ (by omega))
  intro w10 hBw10 hCw10
  have hzw10:=hCw10.size
  rw [zf6 hLw6 hFz3_0.len_eq.symm (by omega)] at hBw10
  rw [show 184-4=180 from rfl] at hBw10
  have hLw10:([]++([UInt8.ofNat x.lv])++(be x.ix 4)).length=1+4:=by rw [List.length_append,hLw6,←hFz3_0.len_eq]
  rw [show 1+4=5 from rfl]
  rw [show 1+4=5 from rfl] at hLw10
  have hX3:Chg (fun k=>k=w3.heap.size∨k=w2.heap.size) w8 w10:=(Chg.then ((Chg.refl (fun k=>k=w3.heap.size∨k=w2.heap.size) w8).trans hEw9.chg) hCw10 (fun k hk hs=>by have h:k=_:=hs;first | exact hs | exact .inl h | exact .inr h |(exfalso;omega)))
  refine ⟨.inr hX3, ?_⟩
  have hK4:=(((hBw7.ext hEw8).ext hEw9).chg hCw10)
  refine zx 5 (zaj 23 w3.heap.size 0 23 (.slice (pA w2.heap.size 0) 5 185) ([(.slice (pA w2.heap.size 0) 1 185)]) hK4 (by first | decide |(simp;done)|(simp;omega)) ?_)
  have hK5:=(((hBw7.ext hEw8).ext hEw9).chg hCw10)
  intro w11 hBw11 hCw11
  have hzw11:=hCw11.size
  replace hBw11:=hBw11.set1
  refine ⟨.inl (by kernel_rfl), ?_⟩
  refine zE (zb (ze (zd (zc 1 [(32,(.func (.func 112) #[] #[(vP w3.heap.size 0)]))] (zfI (.func (.func 112) #[] #[(vP w3.heap.size 0)]) 184 ?_)))))
  intro w12 hBw12 hEw12 hzw12 hlw12
  refine zf (zb (ze (ze (zd (zc 1 [(33,(vI 0))] (za (zae (some 34) (((0:Nat):Int)==((0:Nat):Int)) true (zaq) ?_)))))))
  refine zf (zb (zv (zd (zc 1 [(35,(vP w.heap.size 2))] ?_))))
  have hK6:=((((hK2.ext hEw9).chg hCw10).chg hCw11).ext hEw12)
  refine za (zT w.heap.size 2 (hK6.at 2 (r4C x.rs) (zgw _)) (zdq _) ?_)
  refine zc 1 [(37,(.func (.func 114) #[] #[(vP w11.heap.size 0)]))] (za (zcw (some 38) (zkY x.rs _ (hBw11.ext hEw12) ((hBw10.chg hCw11).ext hEw12) hLw10 rfl (by decide) (by omega) hBw12 (by omega) (by omega) (zgx hp0 hp1) (by omega)) ?_))
  rintro _ w13 ⟨rfl,hRw13,hPw13,hQw13,hCw13⟩
  have hzw13:=hCw13.size
  refine zf (zb (ze (zd (za (zm w3.heap.size 0 (hPw13.cell rfl) ?_)))))
  refine zc 2 [(3,(vI 0)),(2,(.slice (pA w2.heap.size 0) 185 185))] (zf (zb (zj (zl (.tuple #[(.slice (pA w2.heap.size 0) 185 185),(vI 0)]) ?_))))
  have hX4:Ext w w13:=(Ext.ownS ((Ext.own (Ext.own (((Ext.own (Ext.own ((((hEw1.trans hEw2).trans hEw3).trans hEw4).trans hEw5) hCw6 (by omega)) hCw7 (by omega)).trans hEw8).trans hEw9) hCw10 (by omega)) hCw11 (by omega)).trans hEw12) hCw13 (fun k hs hk=>by rcases hs with hs | hs<;>omega))
  have hfin:=hQw13
  rw [show u8s ([]++([UInt8.ofNat x.lv])++(be x.ix 4)++zbM zbT (x.rs.get) 4)++List.replicate (0) (vB 0)=u8s (zN x) from by rw [List.replicate_zero,List.append_nil];unfold zN;rw [if_pos hp1];simp [zel]] at hfin
  exact ⟨_,rfl,by omega,hfin,by rw [ze2,if_pos hp1],by decide,hX4⟩
 ·refine zp (zfM x.ix _ (by omega)) ?_
  rintro _ w14 ⟨a2,rfl,hFz4_0,hEw14⟩
  have hzw14:=hEw14.size
  have hX5:Chg (fun k=>k=w3.heap.size∨k=w2.heap.size) w8 w14:=((Chg.refl (fun k=>k=w3.heap.size∨k=w2.heap.size) w8).trans hEw14.chg)
  refine ⟨.inr hX5, ?_⟩
  refine zx 0 (zm w3.heap.size 0 (((hBw7.ext hEw8).ext hEw14).cell rfl) ?_)
  refine ⟨.inr hX5, ?_⟩
  obtain ⟨b2,o2,rfl⟩:=hFz4_0.addr (by omega)
  have hK7:=(((hBw6.chg hCw7).ext hEw8).ext hEw14)
  refine zx 4 (zdk (some 31) 23 23 5 1 w2.heap.size 1 185 ⟨b2,o2,none⟩ 4 4 hK7 hFz4_0.sla (by rw [za6,←hFz4_0.len_eq,Nat.mul_one]) (zdd _) (by rw [List.length_append,za6,hLw6,List.length_replicate,Nat.mul_one];omega) ?_ (by omega))
  intro w15 hBw15 hCw15
  have hzw15:=hCw15.size
  rw [zf6 hLw6 hFz4_0.len_eq.symm (by omega)] at hBw15
  rw [show 184-4=180 from rfl] at hBw15
  have hLw15:([]++([UInt8.ofNat x.lv])++(be x.ix 4)).length=1+4:=by rw [List.length_append,hLw6,←hFz4_0.len_eq]
  rw [show 1+4=5 from rfl]
  rw [show 1+4=5 from rfl] at hLw15
  have hX6:Chg (fun k=>k=w3.heap.size∨k=w2.heap.size) w8 w15:=(Chg.then ((Chg.refl (fun k=>k=w3.heap.size∨k=w2.heap.size) w8).trans hEw14.chg) hCw15 (fun k hk hs=>by have h:k=_:=hs;first | exact hs | exact .inl h | exact .inr h |(exfalso;omega)))
  refine ⟨.inr hX6, ?_⟩
  have hK8:=(((hBw7.ext hEw8).ext hEw14).chg hCw15)
  refine zx 5 (zaj 23 w3.heap.size 0 23 (.slice (pA w2.heap.size 0) 5 185) ([(.slice (pA w2.heap.size 0) 1 185)]) hK8 (by first | decide |(simp;done)|(simp;omega)) ?_)
  have hK9:=(((hBw7.ext hEw8).ext hEw14).chg hCw15)
  intro w16 hBw16 hCw16
  have hzw16:=hCw16.size
  replace hBw16:=hBw16.set1
  refine ⟨.inl (by kernel_rfl), ?_⟩
  refine zE (zb (ze (zd (zc 1 [(32,(.func (.func 112) #[] #[(vP w3.heap.size 0)]))] (zfI (.func (.func 112) #[] #[(vP w3.heap.size 0)]) 184 ?_)))))
  intro w17 hBw17 hEw17 hzw17 hlw17
  refine zf (zb (ze (ze (zd (zc 1 [(33,(vI 0))] (za (zae (some 34) (((0:Nat):Int)==((0:Nat):Int)) true (zaq) ?_)))))))
  refine zf (zb (zv (zd (zc 1 [(35,(vP w.heap.size 2))] ?_))))
  have hK10:=((((hK2.ext hEw14).chg hCw15).chg hCw16).ext hEw17)
  refine za (zT w.heap.size 2 (hK10.at 2 (r4C x.rs) (zgw _)) (zdq _) ?_)
  refine zc 1 [(37,(.func (.func 114) #[] #[(vP w16.heap.size 0)]))] (za (zcw (some 38) (zkY x.rs _ (hBw16.ext hEw17) ((hBw15.chg hCw16).ext hEw17) hLw15 rfl (by decide) (by omega) hBw17 (by omega) (by omega) (zgx hp0 hp1) (by omega)) ?_))
  rintro _ w18 ⟨rfl,hRw18,hPw18,hQw18,hCw18⟩
  have hzw18:=hCw18.size
  refine zf (zb (ze (zd (za (zm w3.heap.size 0 (hPw18.cell rfl) ?_)))))
  refine zc 2 [(3,(vI 0)),(2,(.slice (pA w2.heap.size 0) 185 185))] (zf (zb (zj (zl (.tuple #[(.slice (pA w2.heap.size 0) 185 185),(vI 0)]) ?_))))
  have hX7:Ext w w18:=(Ext.ownS ((Ext.own (Ext.own (((Ext.own (Ext.own ((((hEw1.trans hEw2).trans hEw3).trans hEw4).trans hEw5) hCw6 (by omega)) hCw7 (by omega)).trans hEw8).trans hEw14) hCw15 (by omega)) hCw16 (by omega)).trans hEw17) hCw18 (fun k hs hk=>by rcases hs with hs | hs<;>omega))
  have hfin:=hQw18
  rw [show u8s ([]++([UInt8.ofNat x.lv])++(be x.ix 4)++zbM zbT (x.rs.get) 4)++List.replicate (0) (vB 0)=u8s (zN x) from by rw [List.replicate_zero,List.append_nil];unfold zN;rw [if_pos hp1];simp [zel]] at hfin
  exact ⟨_,rfl,by omega,hfin,by rw [ze2,if_pos hp1],by decide,hX7⟩
theorem zrq (x:Nod) (w:World) (hp0:zaD x=0) (hp1:¬x.lv=0) (hg0:Gl 0 [vI 45,vI 33] w):
  Calls Tryz.prog 89 #[(vA (zJ x))] w (Ret fun r w'=>∃a0,r=(.tuple #[(.slice (pA a0 0) 137 137),(vI 0)])∧w.heap.size≤a0∧Blk w' a0 (u8s (zN x)) 5∧137=(zN x).length∧137≤1099511627776∧Ext w w'):=by
 refine zD (n:=44) (σ:= [(0,(vA (zJ x)))]) Tryz.func89 rfl ?_
 have hgl0:=hg0.lt
 have hlvx:=x.hlv
 have hixx:=x.hix
 refine ze (zd (za (zaa (Instr.box 74 (vA (zJ x))) (vP w.heap.size 0) (zJ x) 74 ?_)))
 intro w1 hBw1 hEw1 hzw1 hlw1
 refine zc 2 [(3,(vI 0)),(2,(.slice none 0 0))] (zf (zb (ze (ze (zd (za (zT w.heap.size 0 (hBw1.all) (zQ _) ?_)))))))
 refine za (zp (zin x _) ?_)
 rintro _ w2 ⟨rfl,hEw2⟩
 have hzw2:=hEw2.size
 refine zc 1 [(4,(vI (zaD x)))] (zf (zb (ze (zd (zc 1 [(10,(vI (zaD x)))] (za (zae (some 11) (((zaD x:Nat):Int) !=((0:Nat):Int)) false (zax) ?_)))))))
 refine zf (zb (zh (zk (zb (ze (zd (zc 1 [(13,(vP w.heap.size 0))] (za (zm w.heap.size 0 ((hBw1.ext hEw2).cell rfl) ?_)))))))))
 refine za (zp (zpa x.lv _) ?_)
 rintro _ _ ⟨rfl,rfl⟩
 rw [show min x.lv 1=1 from by omega]
 refine zc 1 [(5,(vI 1))] (zf (zb (ze (zd (zc 1 [(16,(vI 1))] (za (zaM (Instr.indexAt 183 (vP 0 0) (vI 1)) (vP 0 1) (za3 (E:=3) (sz:=1) (m:=2)) ?_)))))))
 refine za (zm 0 1 (((hg0.ext hEw1).ext hEw2).all.one 1 (vI 33) rfl) ?_)
 refine za (zo (some 19) .i64 (IntKind.i64.wrap (((4:Nat):Int)*((33:Nat):Int))) 132 (zu) ?_)
 refine za (zo (some 20) .i64 (IntKind.i64.wrap (((5:Nat):Int)+((132:Nat):Int))) 137 (zu) ?_)
 refine za (zcx (some 21) 23 5 1 1 0 137 .i64 .i64 (vB 0) (by omega) (by omega) (by omega) ?_)
 rw [zd4 _ rfl]
 intro w3 hBw3 hEw3
 have hzw3:=hEw3.size;have hlw3:=hBw3.lt
 refine zfI (.slice (pA w2.heap.size 0) 0 137) 23 ?_
 intro w4 hBw4 hEw4 hzw4 hlw4
 refine zf (zb (ze (zd (za (zm w3.heap.size 0 (hBw4.cell rfl) ?_)))))
 refine zc 1 [(23,(vP w.heap.size 0))] ?_
 have hK1:=(((hBw1.ext hEw2).ext hEw3).ext hEw4)
 refine za (zm w.heap.size 0 (hK1.cell rfl) ?_)
 refine za (zaa (Instr.buildSlice 23 1 #[(0,(vB x.lv))]) (.slice (pA w4.heap.size 0) 1 1) [(vB x.lv)] 5 ?_)
 intro w5 hBw5 hEw5 hzw5 hlw5
 have hSw5:Bs w4.heap.size (w4.heap.size+1) w5 (pA w4.heap.size 0) 1 1 [UInt8.ofNat x.lv]:=Bs.of_blk hBw5 (zcW x.hlv) rfl (Nat.le_refl _) (by decide) (Nat.le_refl _) (Nat.lt_succ_self _)
 have hZw2:Blk w5 w2.heap.size (u8s []++List.replicate 137 (vB 0)) 5:=((hBw3.ext hEw4).ext hEw5)
 refine za (zdk (some 26) 23 23 5 1 w2.heap.size 0 137 ⟨w4.heap.size,0,none⟩ 1 1 hZw2 hSw5.sla (by rw [za6,←hSw5.len_eq,Nat.mul_one]) (zdd _) (by rw [List.length_append,za6,(show ([]:List UInt8).length=0 from rfl),List.length_replicate,Nat.mul_one];omega) ?_ (by omega))
 intro w6 hBw6 hCw6
 have hzw6:=hCw6.size
 rw [zf6 (show ([]:List UInt8).length=0 from rfl) hSw5.len_eq.symm (by omega)] at hBw6
 rw [show 137-1=136 from rfl] at hBw6
 have hLw6:([]++([UInt8.ofNat x.lv])).length=0+1:=by rw [List.length_append,(show ([]:List UInt8).length=0 from rfl),←hSw5.len_eq]
 rw [show 0+1=1 from rfl]
 rw [show 0+1=1 from rfl] at hLw6
 refine za (zaj 23 w3.heap.size 0 23 (.slice (pA w2.heap.size 0) 1 137) ([(.slice (pA w2.heap.size 0) 0 137)]) ((hBw4.ext hEw5).chg hCw6) (by first | decide |(simp;done)|(simp;omega)) ?_)
 intro w7 hBw7 hCw7
 have hzw7:=hCw7.size
 replace hBw7:=hBw7.set1
 refine zf (zb (ze (zbD (fun k=>k=w3.heap.size∨k=w2.heap.size) 6 (fun w8 hEw8 hzw8 hT232=> ?_))))
 have hX1:Chg (fun k=>k=w3.heap.size∨k=w2.heap.size) w8 w8:=(Chg.refl (fun k=>k=w3.heap.size∨k=w2.heap.size) w8)
 refine zg (hw:=hX1) hT232 [(1,28,(vP w.heap.size 1))] 1 ?_
 have hK2:=((((hK1.ext hEw5).chg hCw6).chg hCw7).ext hEw8)
 refine zA (hw:=hX1) hT232 2 w.heap.size 1 (fun w' hC=>((hK2.chg hC (fun hs=>by rcases hs with hs | hs<;>omega)).cell rfl)) (zbt 0 3 ?_ ?_)
 ·refine zm w3.heap.size 0 ((hBw7.ext hEw8).cell rfl) (⟨.inr hX1, ?_⟩)
  refine zx 3 (zp (zfM x.ix _ (by omega)) ?_)
  rintro _ w9 ⟨a1,rfl,hFz3_0,hEw9⟩
  have hzw9:=hEw9.size
  have hX2:Chg (fun k=>k=w3.heap.size∨k=w2.heap.size) w8 w9:=((Chg.refl (fun k=>k=w3.heap.size∨k=w2.heap.size) w8).trans hEw9.chg)
  refine ⟨.inr hX2, ?_⟩
  obtain ⟨b1,o1,rfl⟩:=hFz3_0.addr (by omega)
  have hK3:=(((hBw6.chg hCw7).ext hEw8).ext hEw9)
  refine zx 4 (zdk (some 31) 23 23 5 1 w2.heap.size 1 137 ⟨b1,o1,none⟩ 4 4 hK3 hFz3_0.sla (by rw [za6,←hFz3_0.len_eq,Nat.mul_one]) (zdd _) (by rw [List.length_append,za6,hLw6,List.length_replicate,Nat.mul_one];omega) ?_ (by omega))
  intro w10 hBw10 hCw10
  have hzw10:=hCw10.size
  rw [zf6 hLw6 hFz3_0.len_eq.symm (by omega)] at hBw10
  rw [show 136-4=132 from rfl] at hBw10
  have hLw10:([]++([UInt8.ofNat x.lv])++(be x.ix 4)).length=1+4:=by rw [List.length_append,hLw6,←hFz3_0.len_eq]
  rw [show 1+4=5 from rfl]
  rw [show 1+4=5 from rfl] at hLw10
  have hX3:Chg (fun k=>k=w3.heap.size∨k=w2.heap.size) w8 w10:=(Chg.then ((Chg.refl (fun k=>k=w3.heap.size∨k=w2.heap.size) w8).trans hEw9.chg) hCw10 (fun k hk hs=>by have h:k=_:=hs;first | exact hs | exact .inl h | exact .inr h |(exfalso;omega)))
  refine ⟨.inr hX3, ?_⟩
  have hK4:=(((hBw7.ext hEw8).ext hEw9).chg hCw10)
  refine zx 5 (zaj 23 w3.heap.size 0 23 (.slice (pA w2.heap.size 0) 5 137) ([(.slice (pA w2.heap.size 0) 1 137)]) hK4 (by first | decide |(simp;done)|(simp;omega)) ?_)
  have hK5:=(((hBw7.ext hEw8).ext hEw9).chg hCw10)
  intro w11 hBw11 hCw11
  have hzw11:=hCw11.size
  replace hBw11:=hBw11.set1
  refine ⟨.inl (by kernel_rfl), ?_⟩
  refine zE (zb (ze (zd (zc 1 [(32,(.func (.func 112) #[] #[(vP w3.heap.size 0)]))] (zfI (.func (.func 112) #[] #[(vP w3.heap.size 0)]) 184 ?_)))))
  intro w12 hBw12 hEw12 hzw12 hlw12
  refine zf (zb (ze (ze (zd (zc 1 [(33,(vI 1))] (za (zae (some 34) (((1:Nat):Int)==((0:Nat):Int)) false (zb8) ?_)))))))
  refine zf (zb (zh (zd (zc 1 [(39,(vP w.heap.size 142))] ?_))))
  have hK6:=((((hK2.ext hEw9).chg hCw10).chg hCw11).ext hEw12)
  refine za (zT w.heap.size 142 (hK6.at 142 (e4C x.es) (zfX _)) (zee _) ?_)
  refine zc 1 [(41,(.func (.func 117) #[] #[(vP w11.heap.size 0)]))] (za (zcw (some 42) (zlU x.es _ (hBw11.ext hEw12) ((hBw10.chg hCw11).ext hEw12) hLw10 rfl (by decide) (by omega) hBw12 (by omega) (by omega) (zfH hp0 hp1) (by omega)) ?_))
  rintro _ w13 ⟨rfl,hRw13,hPw13,hQw13,hCw13⟩
  have hzw13:=hCw13.size
  refine zf (zb (ze (zd (za (zm w3.heap.size 0 (hPw13.cell rfl) ?_)))))
  refine zc 2 [(3,(vI 0)),(2,(.slice (pA w2.heap.size 0) 137 137))] (zf (zb (zj (zl (.tuple #[(.slice (pA w2.heap.size 0) 137 137),(vI 0)]) ?_))))
  have hX4:Ext w w13:=(Ext.ownS ((Ext.own (Ext.own (((Ext.own (Ext.own ((((hEw1.trans hEw2).trans hEw3).trans hEw4).trans hEw5) hCw6 (by omega)) hCw7 (by omega)).trans hEw8).trans hEw9) hCw10 (by omega)) hCw11 (by omega)).trans hEw12) hCw13 (fun k hs hk=>by rcases hs with hs | hs<;>omega))
  have hfin:=hQw13
  rw [show u8s ([]++([UInt8.ofNat x.lv])++(be x.ix 4)++zbM zb9 (x.es.get) 4)++List.replicate (0) (vB 0)=u8s (zN x) from by rw [List.replicate_zero,List.append_nil];unfold zN;rw [if_neg hp1];simp [zel]] at hfin
  exact ⟨_,rfl,by omega,hfin,by rw [ze2,if_neg hp1],by decide,hX4⟩
 ·refine zp (zfM x.ix _ (by omega)) ?_
  rintro _ w14 ⟨a2,rfl,hFz4_0,hEw14⟩
  have hzw14:=hEw14.size
  have hX5:Chg (fun k=>k=w3.heap.size∨k=w2.heap.size) w8 w14:=((Chg.refl (fun k=>k=w3.heap.size∨k=w2.heap.size) w8).trans hEw14.chg)
  refine ⟨.inr hX5, ?_⟩
  refine zx 0 (zm w3.heap.size 0 (((hBw7.ext hEw8).ext hEw14).cell rfl) ?_)
  refine ⟨.inr hX5, ?_⟩
  obtain ⟨b2,o2,rfl⟩:=hFz4_0.addr (by omega)
  have hK7:=(((hBw6.chg hCw7).ext hEw8).ext hEw14)
  refine zx 4 (zdk (some 31) 23 23 5 1 w2.heap.size 1 137 ⟨b2,o2,none⟩ 4 4 hK7 hFz4_0.sla (by rw [za6,←hFz4_0.len_eq,Nat.mul_one]) (zdd _) (by rw [List.length_append,za6,hLw6,List.length_replicate,Nat.mul_one];omega) ?_ (by omega))
  intro w15 hBw15 hCw15
  have hzw15:=hCw15.size
  rw [zf6 hLw6 hFz4_0.len_eq.symm (by omega)] at hBw15
  rw [show 136-4=132 from rfl] at hBw15
  have hLw15:([]++([UInt8.ofNat x.lv])++(be x.ix 4)).length=1+4:=by rw [List.length_append,hLw6,←hFz4_0.len_eq]
  rw [show 1+4=5 from rfl]
  rw [show 1+4=5 from rfl] at hLw15
  have hX6:Chg (fun k=>k=w3.heap.size∨k=w2.heap.size) w8 w15:=(Chg.then ((Chg.refl (fun k=>k=w3.heap.size∨k=w2.heap.size) w8).trans hEw14.chg) hCw15 (fun k hk hs=>by have h:k=_:=hs;first | exact hs | exact .inl h | exact .inr h |(exfalso;omega)))
  refine ⟨.inr hX6, ?_⟩
  have hK8:=(((hBw7.ext hEw8).ext hEw14).chg hCw15)
  refine zx 5 (zaj 23 w3.heap.size 0 23 (.slice (pA w2.heap.size 0) 5 137) ([(.slice (pA w2.heap.size 0) 1 137)]) hK8 (by first | decide |(simp;done)|(simp;omega)) ?_)
  have hK9:=(((hBw7.ext hEw8).ext hEw14).chg hCw15)
  intro w16 hBw16 hCw16
  have hzw16:=hCw16.size
  replace hBw16:=hBw16.set1
  refine ⟨.inl (by kernel_rfl), ?_⟩
  refine zE (zb (ze (zd (zc 1 [(32,(.func (.func 112) #[] #[(vP w3.heap.size 0)]))] (zfI (.func (.func 112) #[] #[(vP w3.heap.size 0)]) 184 ?_)))))
  intro w17 hBw17 hEw17 hzw17 hlw17
  refine zf (zb (ze (ze (zd (zc 1 [(33,(vI 1))] (za (zae (some 34) (((1:Nat):Int)==((0:Nat):Int)) false (zb8) ?_)))))))
  refine zf (zb (zh (zd (zc 1 [(39,(vP w.heap.size 142))] ?_))))
  have hK10:=((((hK2.ext hEw14).chg hCw15).chg hCw16).ext hEw17)
  refine za (zT w.heap.size 142 (hK10.at 142 (e4C x.es) (zfX _)) (zee _) ?_)
  refine zc 1 [(41,(.func (.func 117) #[] #[(vP w16.heap.size 0)]))] (za (zcw (some 42) (zlU x.es _ (hBw16.ext hEw17) ((hBw15.chg hCw16).ext hEw17) hLw15 rfl (by decide) (by omega) hBw17 (by omega) (by omega) (zfH hp0 hp1) (by omega)) ?_))
  rintro _ w18 ⟨rfl,hRw18,hPw18,hQw18,hCw18⟩
  have hzw18:=hCw18.size
  refine zf (zb (ze (zd (za (zm w3.heap.size 0 (hPw18.cell rfl) ?_)))))
  refine zc 2 [(3,(vI 0)),(2,(.slice (pA w2.heap.size 0) 137 137))] (zf (zb (zj (zl (.tuple #[(.slice (pA w2.heap.size 0) 137 137),(vI 0)]) ?_))))
  have hX7:Ext w w18:=(Ext.ownS ((Ext.own (Ext.own (((Ext.own (Ext.own ((((hEw1.trans hEw2).trans hEw3).trans hEw4).trans hEw5) hCw6 (by omega)) hCw7 (by omega)).trans hEw8).trans hEw14) hCw15 (by omega)) hCw16 (by omega)).trans hEw17) hCw18 (fun k hs hk=>by rcases hs with hs | hs<;>omega))
  have hfin:=hQw18
  rw [show u8s ([]++([UInt8.ofNat x.lv])++(be x.ix 4)++zbM zb9 (x.es.get) 4)++List.replicate (0) (vB 0)=u8s (zN x) from by rw [List.replicate_zero,List.append_nil];unfold zN;rw [if_neg hp1];simp [zel]] at hfin
  exact ⟨_,rfl,by omega,hfin,by rw [ze2,if_neg hp1],by decide,hX7⟩
theorem zup (x:Nod) (w:World) (hp0:zaD x=0) (hg0:Gl 0 [vI 45,vI 33] w):
  Calls Tryz.prog 89 #[(vA (zJ x))] w (Ret fun r w'=>∃a0,r=(.tuple #[(.slice (pA a0 0) (zb4 x) (zb4 x)),(vI 0)])∧w.heap.size≤a0∧Blk w' a0 (u8s (zN x)) 5∧zb4 x=(zN x).length∧zb4 x≤1099511627776∧Ext w w'):=by
 by_cases h:x.lv=0
 ·rw [show zb4 x=185 from if_pos h];exact zrO x w hp0 h hg0
 ·rw [show zb4 x=137 from if_neg h];exact zrq x w hp0 h hg0
end Go.Proofs.YtkmhgepdhilllaaGreatDoor
namespace Go.Proofs.YtkmhgepdhilllaaGreatDoor
open Go Go.RowKit Go.Cs
set_option maxRecDepth 100000
theorem zmD (n:Nat) (x:Nod) (w:World) (hp0:1≤n) (hp1:n≤4096):
  Calls Tryz.prog 96 #[(vI n),(vA (zJ x))] w (Ret fun r w'=>r=(vI (zca n x))∧Ext w w'):=by
 refine zD (n:=52) (σ:= [(0,(vI n)),(1,(vA (zJ x)))]) Tryz.func96 rfl ?_
 have hlvx:=x.hlv
 have hixx:=x.hix
 have hcl:=zmF x
 have h5:=zar n
 refine ze (zd (za (zaa (Instr.box 74 (vA (zJ x))) (vP w.heap.size 0) (zJ x) 74 ?_)))
 intro w1 hBw1 hEw1 hzw1 hlw1
 refine zc 1 [(4,(vI 0))] (zf (zb (ze (ze (zd (zc 1 [(10,(vI n))] (za (zp (zmv n _ (by omega) (by omega)) ?_))))))))
 rintro _ _ ⟨rfl,rfl⟩
 refine zc 1 [(5,(vI 0))] (zf (zb (ze (zd (zc 2 [(13,vF),(12,(vI 0))] (zf (zb (zh (zk ?_)))))))))
 refine zb (ze (ze (zd (za (zT w.heap.size 0 (hBw1.all) (zQ _) ?_)))))
 refine za (zp (zin x _) ?_)
 rintro _ w2 ⟨rfl,hEw2⟩
 have hzw2:=hEw2.size
 refine zc 1 [(6,(vI (zaD x)))] (zf (zb (ze (zd (zc 1 [(17,(vI (zaD x)))] (za (zF (some 18) ((((zaD x:Nat):Int) !=((0:Nat):Int))) (fun hc18=> ?_) (fun hc18=> ?_))))))))
 ·replace hc18:¬(zaD x=0):=by have:=zbV hc18;omega
  refine zf (zb (zv (ze (zd (zc 2 [(4,(vI (zaD x))),(19,(vI (zaD x)))] (zf (zb (zj (zw ?_)))))))))
  exact zl (vI (zaD x)) (⟨congrArg (fun z:Nat=>vI z) (zqm (by omega)),(hEw1.trans hEw2)⟩)
 ·replace hc18:zaD x=0:=by have:=zbS hc18;omega
  refine zf (zb (zh (zk (zb (ze (zd (zc 2 [(22,(vP w.heap.size 0)),(21,(vI n))] (za (zm w.heap.size 0 ((hBw1.ext hEw2).cell rfl) ?_)))))))))
  refine za (zo (some 24) .i64 (IntKind.i64.wrap ((x.lv:Nat):Int)) x.lv (zu rfl) ?_)
  refine zc 1 [(25,(vP w.heap.size 1))] (za (zm w.heap.size 1 ((hBw1.ext hEw2).cell rfl) ?_))
  refine za (zo (some 27) .i64 (IntKind.i64.wrap ((x.ix:Nat):Int)) x.ix (zu rfl) ?_)
  rcases Classical.em (x.lv≤hgt n∧x.ix<cnt n x.lv) with hin | hin
  ·have hcn:=zbq n x.lv
   refine za (zp (zsl n x.lv x.ix _ (by first | omega |(simp only [Int.toNat_natCast];omega)) (by omega) (by omega) (by omega)) ?_)
   rintro _ w3 ⟨rfl,hEw3⟩
   have hzw3:=hEw3.size
   refine zc 5 [(8,(vI 0)),(7,(vI (prt n x.lv x.ix))),(30,(vI 0)),(29,(vI (prt n x.lv x.ix))),(20,(.tuple #[(vI (prt n x.lv x.ix)),(vI 0)]))] (zf (zb (ze (ze (zd (zc 2 [(32,vF),(31,(vI 0))] (zf (zb (zh ?_)))))))))
   refine zk (zb (ze (ze (zd (zc 2 [(9,(vI (prt n x.lv x.ix))),(33,(vI (prt n x.lv x.ix)))] (zf (zb (zr (zU (X:=Nat) (fun i=> [(9,(vI i))]) [4,34,35,36,37,38,39,40,41,42,43,44,45,46,47,48,49,50,51] (fun i w4=>prt n x.lv x.ix≤i∧i≤4∧(∀k,prt n x.lv x.ix≤k→k<i→(x.rs.get k).eqb Rec.zero=true∧(x.es.get k).eqb Ent.zero=true)∧Ext w1 w4) (fun i=>4-i) (prt n x.lv x.ix) (by kernel_rfl) ⟨Nat.le_refl _,zdF _ _ _,fun k h1 h2=>absurd h1 (by omega),(hEw2.trans hEw3)⟩ ?_)))))))))
   rintro i dw4 w4 ⟨hpi,hi,hz,hEl⟩
   have hzl:=hEl.size
   refine ze (ze (zd (zc 1 [(34,(vI i))] (za (zF (some 35) (decide (((i:Nat):Int)<((4:Nat):Int))) (fun hc35=> ?_) (fun hc35=> ?_))))))
   ·replace hc35:i<4:=by have:=zac hc35;omega
    refine zf (zb (zv (zk (zb (ze (zr (ze (zd (zc 2 [(39,(vP w.heap.size 2)),(38,(vI i))] ?_)))))))))
    refine za (zbg w.heap.size 2 i 4 35 ?_)
    refine za (zT w.heap.size (2+i*35) ((hBw1.ext hEl).at (2+i*35) (zM (x.rs.get i)) (nod_r (by omega))) (zZ _) ?_)
    refine zc 1 [(42,(vA (zM Rec.zero)))] ?_
    rcases Bool.eq_false_or_eq_true ((x.rs.get i).eqb Rec.zero) with hq43 | hq43
    ·refine za (zci (some 43) (bo .neq 68 (.tmp 41) (.tmp 42) (vA (zM (x.rs.get i))) (vA (zM Rec.zero))) vF (zat (r:=true) (T:=68) ((zdj (dd:=9997) (t:=68) (t8:=5) (tn:=56) (td:=59) (e:=5) (t32:=53) (t64:=54) (x.rs.get i) Rec.zero).trans (congrArg (fun b=>Result.ok b _) (show ((x.rs.get i).eqb Rec.zero)=true from hq43)))) ?_)
     refine zc 3 [(46,(vP w.heap.size 142)),(45,(vI i)),(44,vF)] (za (zbg w.heap.size 142 i 4 33 ?_))
     refine za (zT w.heap.size (142+i*33) ((hBw1.ext hEl).at (142+i*33) (zai (x.es.get i)) (nod_e (by omega))) (zaK _) ?_)
     refine zc 1 [(49,(vA (zai Ent.zero)))] ?_
     rcases Bool.eq_false_or_eq_true ((x.es.get i).eqb Ent.zero) with hq50 | hq50
     ·refine za (zci (some 50) (bo .neq 71 (.tmp 48) (.tmp 49) (vA (zai (x.es.get i))) (vA (zai Ent.zero))) vF (zat (r:=true) (T:=71) ((zcs (dd:=9997) (t:=71) (t8:=5) (td:=59) (e:=5) (x.es.get i) Ent.zero).trans (congrArg (fun b=>Result.ok b _) (show ((x.es.get i).eqb Ent.zero)=true from hq50)))) ?_)
      refine zc 1 [(51,vF)] (zf (zb (zh (zk (zi (zb (zd (zc 1 [(36,(vI i))] (za (zo (some 37) .i64 (IntKind.i64.wrap (((i:Nat):Int)+((1:Nat):Int))) (i+1) (zu) ?_))))))))))
      refine zc 1 [(9,(vI (i+1)))] (zf (zz (zL (i+1) ?_ ?_)))
      ·exact ⟨by omega,by omega,fun k h1 h2=>by rcases Nat.lt_or_ge k i with h3 | h3;exact hz k h1 h3;rw [show k=i by omega];exact ⟨hq43,hq50⟩,hEl⟩
      ·first | omega |(dsimp only;omega)
     ·refine za (zci (some 50) (bo .neq 71 (.tmp 48) (.tmp 49) (vA (zai (x.es.get i))) (vA (zai Ent.zero))) vT (zat (r:=false) (T:=71) ((zcs (dd:=9997) (t:=71) (t8:=5) (td:=59) (e:=5) (x.es.get i) Ent.zero).trans (congrArg (fun b=>Result.ok b _) (show ((x.es.get i).eqb Ent.zero)=false from hq50)))) ?_)
      refine zc 1 [(51,vT)] (zf (zb (zv (ze (zd (zc 1 [(4,(vI 17))] (zf (zb (zj ?_)))))))))
      exact zB (zw (zw (zB (zw (zl (vI 17) (⟨congrArg (fun z:Nat=>vI z) (by rw [zgE (by omega) hin,zqY hpi (by omega) hq50];rfl),(hEw1.trans hEl)⟩))))))
    ·refine za (zci (some 43) (bo .neq 68 (.tmp 41) (.tmp 42) (vA (zM (x.rs.get i))) (vA (zM Rec.zero))) vT (zat (r:=false) (T:=68) ((zdj (dd:=9997) (t:=68) (t8:=5) (tn:=56) (td:=59) (e:=5) (t32:=53) (t64:=54) (x.rs.get i) Rec.zero).trans (congrArg (fun b=>Result.ok b _) (show ((x.rs.get i).eqb Rec.zero)=false from hq43)))) ?_)
     refine zc 8 [(51,vT),(50,undef),(49,undef),(48,undef),(47,undef),(46,undef),(45,undef),(44,vT)] (zf (zb (zv (ze (zd (zc 1 [(4,(vI 17))] (zf (zb (zj ?_)))))))))
     exact zB (zw (zw (zB (zw (zl (vI 17) (⟨congrArg (fun z:Nat=>vI z) (by rw [zgE (by omega) hin,zqn hpi (by omega) hq43];rfl),(hEw1.trans hEl)⟩))))))
   ·replace hc35:¬(i<4):=by have:=zad hc35;omega
    refine zf (zb (zh (zP (zq (zq (zH (zb (ze (zd ?_)))))))))
    refine zc 1 [(4,(vI 0))] (zf (zb (zj (zl (vI 0) ?_))))
    obtain rfl:i=4:=by omega
    exact ⟨congrArg (fun z:Nat=>vI z) (by rw [zgE (by omega) hin,if_pos (zfG.2 hz)]),(hEw1.trans hEl)⟩
  ·refine za (zp (znz ((n:Nat):Int) ((x.lv:Nat):Int) ((x.ix:Nat):Int) _ (by first | omega |(simp only [Int.toNat_natCast];omega))) ?_)
   rintro _ w5 ⟨rfl,hEw5⟩
   have hzw5:=hEw5.size
   refine zc 5 [(8,(vI 1)),(7,(vI 0)),(30,(vI 1)),(29,(vI 0)),(20,(.tuple #[(vI 0),(vI 1)]))] (zf (zb (ze (ze (zd (zc 2 [(32,vT),(31,(vI 1))] (zf (zb (zv ?_)))))))))
   exact ze (zd (zc 1 [(4,(vI 17))] (zf (zb (zj (zw (zl (vI 17) (⟨congrArg (fun z:Nat=>vI z) ((zqv (by omega) hin).symm),((hEw1.trans hEw2).trans hEw5)⟩))))))))
end Go.Proofs.YtkmhgepdhilllaaGreatDoor
namespace Go.Proofs.YtkmhgepdhilllaaGreatDoor
open Go Go.RowKit Go.Cs
set_option maxRecDepth 100000
theorem zdO (x:UInt32) (k:Nat) (w:World) (hp0:1≤k) (hp1:k≤31):
  Calls Tryz.prog 145 #[(vW x.toNat),(vI k)] w (Ret fun r w'=>r=(vW ((rr x k).toNat))∧w=w'):=by
 refine zD (n:=9) (σ:= [(0,(vW x.toNat)),(1,(vI k))]) Tryz.func145 rfl ?_
 refine ze (zd (zc 1 [(4,(vW 0))] (zf (zb (ze (zd (zc 2 [(6,(vI k)),(5,(vW x.toNat))] (za (zhW (some 7) .i64 (IntKind.i64.wrap (0-((k:Nat):Int))) (-((k:Nat):Int)) (zu) ?_)))))))))
 refine za (zp (zu4 x.toNat (-((k:Nat):Int)) _ (x.toNat_lt)) ?_)
 rintro _ _ ⟨rfl,rfl⟩
 refine zc 1 [(4,(vW (rot x.toNat (-((k:Nat):Int)))))] (zf (zb (zj (zl (vW (rot x.toNat (-((k:Nat):Int)))) ?_))))
 rw [zot];exact ⟨rfl,rfl⟩
theorem zdJ (x:UInt32) (k:Nat) (w:World) (hp0:1≤k) (hp1:k≤31):
  Calls Tryz.prog 128 #[(vW x.toNat),(vI k)] w (Ret fun r w'=>r=(vW ((rr x k).toNat))∧Ext w w'):=by
 refine zD (n:=13) (σ:= [(0,(vW x.toNat)),(1,(vI k))]) Tryz.func128 rfl ?_
 refine ze (zd (zc 1 [(4,(vW 0))] (zf (zb (ze (zab 9 (fun w1 hEw1 hzw1 hT18=> ?_)))))))
 refine zg hT18 [(0,5,(vW x.toNat)),(1,6,(vI k))] 2 (zn hT18 2 (vW (x.toNat/2^k)) (zag (do eqGuard .shr 53 (.tmp 5) (.tmp 6) (.int .u32 ((x.toNat:Nat):Int)) (.int .i64 ((k:Nat):Int));binOp .shr 53 (.int .u32 ((x.toNat:Nat):Int)) (.int .i64 ((k:Nat):Int))) (fun w' hC=>zjf (by show _≤32;omega))) (zg hT18 [(3,8,(vW x.toNat)),(4,9,(vI k))] 2 (zn hT18 5 (vI (32-k)) (zY .i64 (IntKind.i64.wrap (((32:Nat):Int)-((k:Nat):Int))) (zu)) (zn hT18 6 (vW (x.toNat*2^(32-k)%2^32)) (zag (do eqGuard .shl 53 (.tmp 8) (.tmp 10) (.int .u32 ((x.toNat:Nat):Int)) (.int .i64 ((32-k:Nat):Int));binOp .shl 53 (.int .u32 ((x.toNat:Nat):Int)) (.int .i64 ((32-k:Nat):Int))) (fun w' hC=>zmr rfl (by show _≤32;omega))) (zn hT18 7 (vW ((rr x k).toNat)) (zY .u32 ((IntKind.u32.wrap ((BitVec.ofInt IntKind.u32.bits ((x.toNat/2^k:Nat):Int)||| BitVec.ofInt IntKind.u32.bits ((x.toNat*2^(32-k)%2^32:Nat):Int)).toNat:Int))) ((orU .u32 rfl (by show _<2^32;exact Nat.lt_of_le_of_lt (Nat.div_le_self _ _) x.toNat_lt) (Nat.mod_lt _ (by decide))).trans (congrArg _ (zur x hp0 hp1)))) (zg hT18 [(8,4,(vW ((rr x k).toNat)))] 1 (zE (zb (zj ?_)))))))))
 exact zl (vW ((rr x k).toNat)) (⟨rfl,hEw1⟩)
theorem zsw (b:B64) (w:World):
  Calls Tryz.prog 144 #[(vA (zdR b))] w (Ret fun r w'=>r=(vA (zay (zC b.l 64)))∧Ext w w'):=by
 refine zD (n:=72) (σ:= [(0,(vA (zdR b)))]) Tryz.func144 rfl ?_
 refine ze (zd (za (zaa (Instr.box 191 (vA (zdR b))) (vP w.heap.size 0) (zdR b) 191 ?_)))
 intro w1 hBw1 hEw1 hzw1 hlw1
 refine za (zaf (zay (WA.zero 64)) 167 ?_)
 intro w2 hBw2 hEw2 hzw2 hlw2
 refine zf (zb (ze (ze (zd (zc 1 [(9,(vI 0))] (zf (zb (zr (zU (X:=Nat) (fun i=> [(9,(vI i))]) [3,10,11,12,13,14,15,16,17,18,19,20,21,22,23,24,25,26,27] (fun i w3=>i≤16∧Blk w3 w.heap.size (zdR b) 191∧Blk w3 w1.heap.size (zay (zC b.l i)) 167∧Ext w w3) (fun i=>16-i) 0 (by kernel_rfl) ⟨by omega,(hBw1.ext hEw2),hBw2,(hEw1.trans hEw2)⟩ ?_)))))))))
 rintro i dw3 w3 ⟨hi,hA,hB,hEl⟩
 have hzhEl:=hEl.size;have hlthA:=hA.lt;have hlthB:=hB.lt
 refine ze (zd (za (zF (some 10) (decide (((i:Nat):Int)<((16:Nat):Int))) (fun hc10=> ?_) (fun hc10=> ?_))))
 ·replace hc10:i<16:=by have:=zac hc10;omega
  refine zf (zb (ze (zv (zk (zb (ze (zr (ze (zd ?_)))))))))
  refine zc 2 [(3,(vI i)),(11,(vI i))] (zf (zb (zd (zc 2 [(14,(vI i)),(13,(vI i))] (za (zo (some 15) .i64 (IntKind.i64.wrap (((4:Nat):Int)*((i:Nat):Int))) (4*i) (zu) ?_))))))
  refine zc 1 [(16,(vI i))] (za (zo (some 17) .i64 (IntKind.i64.wrap (((4:Nat):Int)*((i:Nat):Int))) (4*i) (zu) ?_))
  refine za (zo (some 18) .i64 (IntKind.i64.wrap (((4*i:Nat):Int)+((4:Nat):Int))) (4*i+4) (zu) ?_)
  refine zc 1 [(19,(vI i))] (za (zo (some 20) .i64 (IntKind.i64.wrap (((4:Nat):Int)*((i:Nat):Int))) (4*i) (zu) ?_))
  refine za (zo (some 21) .i64 (IntKind.i64.wrap (((4*i:Nat):Int)+((4:Nat):Int))) (4*i+4) (zu) ?_)
  refine za (zaM (Instr.sliceAt 191 (vP w.heap.size 0) (some (vI (4*i))) (some (vI (4*i+4))) (some (vI (4*i+4)))) (.slice (pA w.heap.size (0+(4*i)*1)) (4*i+4-(4*i)) (4*i+4-(4*i))) (zju (len:=64) (E:=5) (sz:=1) (l:=4*i) (r:=4*i+4) (m:=4*i+4) (.inr ⟨_,rfl⟩) (.inr ⟨_,rfl⟩) (.inr ⟨_,rfl⟩) (by simp) (by omega) (by omega) (by omega) (by omega)) ?_)
  have hSb:Bs w.heap.size (w.heap.size+1) w3 (pA w.heap.size (0+(4*i)*1)) (4*i+4-(4*i)) (4*i+4-(4*i)) ((b.l.drop (4*i)).take 4):=by have hq:=Bs.of_at (lo:=w.heap.size) (hi:=w.heap.size+1) (len:=4) (hA.at (4*i) (u8s ((b.l.drop (4*i)).take 4)) (zqF (by omega))) (hA).lt (by have:=b.h;simp;omega) (by decide) (by omega) (by omega);rw [show 4*i+4-4*i=4 from by omega,Nat.zero_add,Nat.mul_one];exact hq
  refine za (zp (zsx _ hSb) ?_)
  rintro _ _ ⟨rfl,rfl⟩
  rw [show za0 ((b.l.drop (4*i)).take 4) 4=(UInt32.ofNat (za0 ((b.l.drop (4*i)).take 4) 4)).toNat from by rw [UInt32.toNat_ofNat',Nat.mod_eq_of_lt (zdM _ 4)]]
  refine zc 3 [(25,(vI (zcI ((b.l.drop (4*i)).take 4) 4))),(24,(vW ((UInt32.ofNat (za0 ((b.l.drop (4*i)).take 4) 4)).toNat))),(12,(.tuple #[(vW ((UInt32.ofNat (za0 ((b.l.drop (4*i)).take 4) 4)).toNat)),(vI (zcI ((b.l.drop (4*i)).take 4) 4))]))] (za (zbg w1.heap.size 0 i 64 1 ?_))
  refine za (zaj 53 w1.heap.size (0+i*1) 167 (vW ((UInt32.ofNat (za0 ((b.l.drop (4*i)).take 4) 4)).toNat)) (zay (zC b.l i)) hB (by first | decide |(simp;done)|(simp;omega)) ?_)
  intro w4 hBw4 hCw4
  have hzw4:=hCw4.size
  rw [show ((zay (zC b.l i)).set (0+i*1) (vW ((UInt32.ofNat (za0 ((b.l.drop (4*i)).take 4) 4)).toNat)):List Value)=zay ((zC b.l i).set i (UInt32.ofNat (za0 ((b.l.drop (4*i)).take 4) 4))) from zhP i (UInt32.ofNat (za0 ((b.l.drop (4*i)).take 4) 4))] at hBw4
  refine zf (zi (zb (zd (za (zo (some 27) .i64 (IntKind.i64.wrap (((i:Nat):Int)+((1:Nat):Int))) (i+1) (zu) ?_)))))
  refine zc 1 [(9,(vI (i+1)))] (zf (zz (zL (i+1) ?_ ?_)))
  ·exact ⟨by omega,(hA.chg hCw4),by have hz:=hBw4;rwa [show (zC b.l i).set i _=zC b.l (i+1) from zkr (by omega) rfl] at hz,(Ext.own hEl hCw4 (by omega))⟩
  ·first | omega |(dsimp only;omega)
 ·replace hc10:¬(i<16):=by have:=zad hc10;omega
  refine zf (zb (ze (zh (zP (zq (zq (zH (zb (ze ?_)))))))))
  refine ze (zd (zc 1 [(4,(vI 16))] (zf (zb (zr ?_)))))
  obtain rfl:i=16:=by omega
  refine zU (X:=Nat) (fun t=> [(4,(vI t))]) [5,6,7,8,28,29,30,31,32,33,34,35,36,37,38,39,40,41,42,43,44,45,46,47,48,49,50,51,52,53,54,55,56,57,58,59,60,61,62,63,64,65,66,67,68,69,70] (fun t w5=>16≤t∧t≤64∧Blk w5 w.heap.size (zdR b) 191∧Blk w5 w1.heap.size (zay (zC b.l t)) 167∧Ext w w5) (fun t=>64-t) 16 (by kernel_rfl) ⟨by omega,by omega,hA,hB,hEl⟩ ?_
  rintro t dw5 w5 ⟨hlt,ht,hC,hD,hEm⟩
  have hzhEm:=hEm.size;have hlthC:=hC.lt;have hlthD:=hD.lt
  refine ze (ze (zd (zc 1 [(28,(vI t))] (za (zF (some 29) (decide (((t:Nat):Int)<((64:Nat):Int))) (fun hc29=> ?_) (fun hc29=> ?_))))))
  ·replace hc29:t<64:=by have:=zac hc29;omega
   refine zf (zb (zv (zk (zb (ze (zr (ze (zab 10 (fun w6 hEw6 hzw6 hT120=> ?_)))))))))
   refine zg hT120 [(0,32,(vI t))] 1 (zn hT120 1 (vI (t-15)) (zY .i64 (IntKind.i64.wrap (((t:Nat):Int)-((15:Nat):Int))) (zu)) (zaP hT120 2 w1.heap.size 0 (t-15) 64 1 (zA hT120 3 w1.heap.size (0+(t-15)*1) (fun w' hC=>(((hD.ext hEw6).ext hC).cell (zcS (t-15) (by omega)))) (zg hT120 [(4,36,(vI t))] 1 (zn hT120 5 (vI (t-2)) (zY .i64 (IntKind.i64.wrap (((t:Nat):Int)-((2:Nat):Int))) (zu)) (zaP hT120 6 w1.heap.size 0 (t-2) 64 1 (zA hT120 7 w1.heap.size (0+(t-2)*1) (fun w' hC=>(((hD.ext hEw6).ext hC).cell (zcS (t-2) (by omega)))) (zg hT120 [(8,5,(vW (((zC b.l t).get (t-15)).toNat))),(9,6,(vW (((zC b.l t).get (t-2)).toNat)))] 2 (zE ?_)))))))))
   refine zb (ze (zd (zc 1 [(40,(vW (((zC b.l t).get (t-15)).toNat)))] (za (zp (zdO ((zC b.l t).get (t-15)) 7 _ (by decide) (by decide)) ?_)))))
   rintro _ _ ⟨rfl,rfl⟩
   refine zc 1 [(42,(vW (((zC b.l t).get (t-15)).toNat)))] (za (zp (zdO ((zC b.l t).get (t-15)) 18 _ (by decide) (by decide)) ?_))
   rintro _ _ ⟨rfl,rfl⟩
   refine za (zo (some 44) .u32 ((IntKind.u32.wrap ((BitVec.ofInt IntKind.u32.bits (((rr ((zC b.l t).get (t-15)) 7).toNat:Nat):Int)^^^BitVec.ofInt IntKind.u32.bits (((rr ((zC b.l t).get (t-15)) 18).toNat:Nat):Int)).toNat:Int))) (((rr ((zC b.l t).get (t-15)) 7)^^^(rr ((zC b.l t).get (t-15)) 18)).toNat) (zcf (rr ((zC b.l t).get (t-15)) 7) (rr ((zC b.l t).get (t-15)) 18)) ?_)
   refine zc 1 [(45,(vW (((zC b.l t).get (t-15)).toNat)))] (za (zo (some 46) .u32 (((((zC b.l t).get (t-15)).toNat:Nat):Int).fdiv (2^3)) ((((zC b.l t).get (t-15))>>>UInt32.ofNat 3).toNat) (zi2 ((zC b.l t).get (t-15)) 3 (by decide)) ?_))
   refine za (zo (some 47) .u32 ((IntKind.u32.wrap ((BitVec.ofInt IntKind.u32.bits ((((rr ((zC b.l t).get (t-15)) 7)^^^(rr ((zC b.l t).get (t-15)) 18)).toNat:Nat):Int)^^^BitVec.ofInt IntKind.u32.bits (((((zC b.l t).get (t-15))>>>UInt32.ofNat 3).toNat:Nat):Int)).toNat:Int))) ((((rr ((zC b.l t).get (t-15)) 7)^^^(rr ((zC b.l t).get (t-15)) 18))^^^(((zC b.l t).get (t-15))>>>UInt32.ofNat 3)).toNat) (zcf ((rr ((zC b.l t).get (t-15)) 7)^^^(rr ((zC b.l t).get (t-15)) 18)) (((zC b.l t).get (t-15))>>>UInt32.ofNat 3)) ?_)
   refine zc 1 [(7,(vW ((((rr ((zC b.l t).get (t-15)) 7)^^^(rr ((zC b.l t).get (t-15)) 18))^^^(((zC b.l t).get (t-15))>>>UInt32.ofNat 3)).toNat)))] (zf (zb (ze (zd (zc 1 [(48,(vW (((zC b.l t).get (t-2)).toNat)))] (za (zp (zdO ((zC b.l t).get (t-2)) 17 _ (by decide) (by decide)) ?_)))))))
   rintro _ _ ⟨rfl,rfl⟩
   refine zc 1 [(50,(vW (((zC b.l t).get (t-2)).toNat)))] (za (zp (zdO ((zC b.l t).get (t-2)) 19 _ (by decide) (by decide)) ?_))
   rintro _ _ ⟨rfl,rfl⟩
   refine za (zo (some 52) .u32 ((IntKind.u32.wrap ((BitVec.ofInt IntKind.u32.bits (((rr ((zC b.l t).get (t-2)) 17).toNat:Nat):Int)^^^BitVec.ofInt IntKind.u32.bits (((rr ((zC b.l t).get (t-2)) 19).toNat:Nat):Int)).toNat:Int))) (((rr ((zC b.l t).get (t-2)) 17)^^^(rr ((zC b.l t).get (t-2)) 19)).toNat) (zcf (rr ((zC b.l t).get (t-2)) 17) (rr ((zC b.l t).get (t-2)) 19)) ?_)
   refine zc 1 [(53,(vW (((zC b.l t).get (t-2)).toNat)))] (za (zo (some 54) .u32 (((((zC b.l t).get (t-2)).toNat:Nat):Int).fdiv (2^10)) ((((zC b.l t).get (t-2))>>>UInt32.ofNat 10).toNat) (zi2 ((zC b.l t).get (t-2)) 10 (by decide)) ?_))
   refine za (zo (some 55) .u32 ((IntKind.u32.wrap ((BitVec.ofInt IntKind.u32.bits ((((rr ((zC b.l t).get (t-2)) 17)^^^(rr ((zC b.l t).get (t-2)) 19)).toNat:Nat):Int)^^^BitVec.ofInt IntKind.u32.bits (((((zC b.l t).get (t-2))>>>UInt32.ofNat 10).toNat:Nat):Int)).toNat:Int))) ((((rr ((zC b.l t).get (t-2)) 17)^^^(rr ((zC b.l t).get (t-2)) 19))^^^(((zC b.l t).get (t-2))>>>UInt32.ofNat 10)).toNat) (zcf ((rr ((zC b.l t).get (t-2)) 17)^^^(rr ((zC b.l t).get (t-2)) 19)) (((zC b.l t).get (t-2))>>>UInt32.ofNat 10)) ?_)
   refine zc 1 [(8,(vW ((((rr ((zC b.l t).get (t-2)) 17)^^^(rr ((zC b.l t).get (t-2)) 19))^^^(((zC b.l t).get (t-2))>>>UInt32.ofNat 10)).toNat)))] (zf (zb (zab 16 (fun w7 hEw7 hzw7 hT162=> ?_))))
   refine zg hT162 [(0,56,(vI t)),(1,57,(vW ((((rr ((zC b.l t).get (t-2)) 17)^^^(rr ((zC b.l t).get (t-2)) 19))^^^(((zC b.l t).get (t-2))>>>UInt32.ofNat 10)).toNat))),(2,58,(vI t))] 3 (zn hT162 3 (vI (t-7)) (zY .i64 (IntKind.i64.wrap (((t:Nat):Int)-((7:Nat):Int))) (zu)) (zaP hT162 4 w1.heap.size 0 (t-7) 64 1 (zA hT162 5 w1.heap.size (0+(t-7)*1) (fun w' hC=>((((hD.ext hEw6).ext hEw7).ext hC).cell (zcS (t-7) (by omega)))) (zn hT162 6 (vW (((((rr ((zC b.l t).get (t-2)) 17)^^^(rr ((zC b.l t).get (t-2)) 19))^^^(((zC b.l t).get (t-2))>>>UInt32.ofNat 10))+((zC b.l t).get (t-7))).toNat)) (zY .u32 _ (zbm (((rr ((zC b.l t).get (t-2)) 17)^^^(rr ((zC b.l t).get (t-2)) 19))^^^(((zC b.l t).get (t-2))>>>UInt32.ofNat 10)) ((zC b.l t).get (t-7)))) (zg hT162 [(7,63,(vW ((((rr ((zC b.l t).get (t-15)) 7)^^^(rr ((zC b.l t).get (t-15)) 18))^^^(((zC b.l t).get (t-15))>>>UInt32.ofNat 3)).toNat)))] 1 ?_)))))
   refine zn hT162 8 (vW ((((((rr ((zC b.l t).get (t-2)) 17)^^^(rr ((zC b.l t).get (t-2)) 19))^^^(((zC b.l t).get (t-2))>>>UInt32.ofNat 10))+((zC b.l t).get (t-7)))+(((rr ((zC b.l t).get (t-15)) 7)^^^(rr ((zC b.l t).get (t-15)) 18))^^^(((zC b.l t).get (t-15))>>>UInt32.ofNat 3))).toNat)) (zY .u32 _ (zbm ((((rr ((zC b.l t).get (t-2)) 17)^^^(rr ((zC b.l t).get (t-2)) 19))^^^(((zC b.l t).get (t-2))>>>UInt32.ofNat 10))+((zC b.l t).get (t-7))) (((rr ((zC b.l t).get (t-15)) 7)^^^(rr ((zC b.l t).get (t-15)) 18))^^^(((zC b.l t).get (t-15))>>>UInt32.ofNat 3)))) (zg hT162 [(9,65,(vI t))] 1 (zn hT162 10 (vI (t-16)) (zY .i64 (IntKind.i64.wrap (((t:Nat):Int)-((16:Nat):Int))) (zu)) (zaP hT162 11 w1.heap.size 0 (t-16) 64 1 (zA hT162 12 w1.heap.size (0+(t-16)*1) (fun w' hC=>((((hD.ext hEw6).ext hEw7).ext hC).cell (zcS (t-16) (by omega)))) ?_))))
   refine zn hT162 13 (vW (((((((rr ((zC b.l t).get (t-2)) 17)^^^(rr ((zC b.l t).get (t-2)) 19))^^^(((zC b.l t).get (t-2))>>>UInt32.ofNat 10))+((zC b.l t).get (t-7)))+(((rr ((zC b.l t).get (t-15)) 7)^^^(rr ((zC b.l t).get (t-15)) 18))^^^(((zC b.l t).get (t-15))>>>UInt32.ofNat 3)))+((zC b.l t).get (t-16))).toNat)) (zY .u32 _ (zbm (((((rr ((zC b.l t).get (t-2)) 17)^^^(rr ((zC b.l t).get (t-2)) 19))^^^(((zC b.l t).get (t-2))>>>UInt32.ofNat 10))+((zC b.l t).get (t-7)))+(((rr ((zC b.l t).get (t-15)) 7)^^^(rr ((zC b.l t).get (t-15)) 18))^^^(((zC b.l t).get (t-15))>>>UInt32.ofNat 3))) ((zC b.l t).get (t-16)))) (zaP hT162 14 w1.heap.size 0 t 64 1 (zx 15 (zaj 53 w1.heap.size (0+t*1) 167 (vW (((((((rr ((zC b.l t).get (t-2)) 17)^^^(rr ((zC b.l t).get (t-2)) 19))^^^(((zC b.l t).get (t-2))>>>UInt32.ofNat 10))+((zC b.l t).get (t-7)))+(((rr ((zC b.l t).get (t-15)) 7)^^^(rr ((zC b.l t).get (t-15)) 18))^^^(((zC b.l t).get (t-15))>>>UInt32.ofNat 3)))+((zC b.l t).get (t-16))).toNat)) (zay (zC b.l t)) ((hD.ext hEw6).ext hEw7) (by first | decide |(simp;done)|(simp;omega)) ?_)))
   intro w8 hBw8 hCw8
   have hzw8:=hCw8.size
   rw [show ((zay (zC b.l t)).set (0+t*1) (vW (((((((rr ((zC b.l t).get (t-2)) 17)^^^(rr ((zC b.l t).get (t-2)) 19))^^^(((zC b.l t).get (t-2))>>>UInt32.ofNat 10))+((zC b.l t).get (t-7)))+(((rr ((zC b.l t).get (t-15)) 7)^^^(rr ((zC b.l t).get (t-15)) 18))^^^(((zC b.l t).get (t-15))>>>UInt32.ofNat 3)))+((zC b.l t).get (t-16))).toNat)):List Value)=zay ((zC b.l t).set t ((((((rr ((zC b.l t).get (t-2)) 17)^^^(rr ((zC b.l t).get (t-2)) 19))^^^(((zC b.l t).get (t-2))>>>UInt32.ofNat 10))+((zC b.l t).get (t-7)))+(((rr ((zC b.l t).get (t-15)) 7)^^^(rr ((zC b.l t).get (t-15)) 18))^^^(((zC b.l t).get (t-15))>>>UInt32.ofNat 3)))+((zC b.l t).get (t-16)))) from zhP t ((((((rr ((zC b.l t).get (t-2)) 17)^^^(rr ((zC b.l t).get (t-2)) 19))^^^(((zC b.l t).get (t-2))>>>UInt32.ofNat 10))+((zC b.l t).get (t-7)))+(((rr ((zC b.l t).get (t-15)) 7)^^^(rr ((zC b.l t).get (t-15)) 18))^^^(((zC b.l t).get (t-15))>>>UInt32.ofNat 3)))+((zC b.l t).get (t-16)))] at hBw8
   refine ⟨.inl (by kernel_rfl), ?_⟩
   refine zE (zi (zb (zd (zc 1 [(30,(vI t))] (za (zo (some 31) .i64 (IntKind.i64.wrap (((t:Nat):Int)+((1:Nat):Int))) (t+1) (zu) ?_))))))
   refine zc 1 [(4,(vI (t+1)))] (zf (zz ?_))
   have hK1:=(((hC.ext hEw6).ext hEw7).chg hCw8)
   have hX1:Ext w w8:=(Ext.own ((hEm.trans hEw6).trans hEw7) hCw8 (by omega))
   refine zL (t+1) ?_ ?_
   ·exact ⟨by omega,by omega,hK1,by have hz:=hBw8;rwa [show (zC b.l t).set t _=zC b.l (t+1) from zkw (by omega) (by unfold znd znr;ac_rfl)] at hz,hX1⟩
   ·first | omega |(dsimp only;omega)
  ·replace hc29:¬(t<64):=by have:=zad hc29;omega
   refine zf (zb (zh (zP (zq (zq (zH (zb (ze (zd ?_)))))))))
   refine za (zT w1.heap.size 0 (hD.all) (zdA _) ?_)
   refine za (zG 167 w1.heap.size 0 167 (vA (zay (zC b.l t))) (zay (zC b.l t)) (zay (zC b.l t)) hD (by rw [zdA];kernel_rfl) (by first |(simp;done)|(simp;omega)) (zfU _) ?_)
   intro w9 hBw9 hCw9
   have hzw9:=hCw9.size
   rw [zy _ _ (by simp)] at hBw9
   refine zf (zb (zj (zaJ (show zX Tryz.prog 72 _ _ (.cell 2 167) (vA (zay (zC b.l t))) from ⟨⟨w1.heap.size,0,none⟩,(by kernel_rfl),zI (T:=167) (vs:=zay (zC b.l t)) (hBw9).all (by rw [zdA];kernel_rfl)⟩) ?_)))
   obtain rfl:t=64:=by omega
   exact ⟨rfl,(Ext.own hEm hCw9 (by omega))⟩
end Go.Proofs.YtkmhgepdhilllaaGreatDoor
namespace Go.Proofs.YtkmhgepdhilllaaGreatDoor
open Go Go.RowKit Go.Cs
set_option maxRecDepth 100000
theorem zrv (h:(WA 8)) (b:B64) (w:World) (hg2:Gl 3 (zay kA) w):
  Calls Tryz.prog 135 #[(vA (w8C h)),(vA (zdR b))] w (Ret fun r w'=>r=(vA (w8C (zeW h b.l)))∧Ext w w'):=by
 refine zD (n:=112) (σ:= [(0,(vA (w8C h))),(1,(vA (zdR b)))]) Tryz.func135 rfl ?_
 have hgl2:=hg2.lt
 refine ze (zd (za (zaa (Instr.box 168 (vA (w8C h))) (vP w.heap.size 0) (w8C h) 168 ?_)))
 intro w1 hBw1 hEw1 hzw1 hlw1
 refine za (zaa (Instr.box 191 (vA (zdR b))) (vP w1.heap.size 0) (zdR b) 191 ?_)
 intro w2 hBw2 hEw2 hzw2 hlw2
 refine za (zaf (w8C (WA.zero 8)) 168 ?_)
 intro w3 hBw3 hEw3 hzw3 hlw3
 refine zf (zb (ze (zd (za (zT w1.heap.size 0 ((hBw2.ext hEw3).all) (zlK _) ?_)))))
 refine za (zp (zsw b _) ?_)
 rintro _ w4 ⟨rfl,hEw4⟩
 have hzw4:=hEw4.size
 refine zal (zay (zC b.l 64)) 167 (zdA _) (zfU _) ?_
 intro w5 hBw5 hEw5 hzw5 hlw5
 refine zf (zb (ze (zd ?_)))
 have hK1:=((((hBw1.ext hEw2).ext hEw3).ext hEw4).ext hEw5)
 refine za (zT w.heap.size 0 (hK1.all) (zbN _) ?_)
 refine zal (w8C h) 168 (zbN _) (zdN _) ?_
 intro w6 hBw6 hEw6 hzw6 hlw6
 refine zf (zb (ze (ze (zd ?_))))
 have hK2:=((((((hg2.ext hEw1).ext hEw2).ext hEw3).ext hEw4).ext hEw5).ext hEw6)
 refine za (zT 3 0 (hK2.all) (zdA _) ?_)
 refine zc 1 [(18,(vI 0))] (zf (zb (zr ?_)))
 have hK3:=(((hBw3.ext hEw4).ext hEw5).ext hEw6)
 have hX1:Ext w w6:=(((((hEw1.trans hEw2).trans hEw3).trans hEw4).trans hEw5).trans hEw6)
 refine zU (X:=Nat×WA 8) (fun ⟨t,x⟩=> [(18,(vI t))]) [7,8,9,10,11,12,19,20,21,22,23,24,25,26,27,28,29,30,31,32,33,34,35,36,37,38,39,40,41,42,43,44,45,46,47,48,49,50,51,52,53,54,55,56,57,58,59,60,61,62,63,64,65,66,67,68,69,70,71,72,73,74,75,76,77,78,79,80,81,82,83,84,85,86,87,88,89,90,91,92,93,94,95,96,97,98] (fun ⟨t,x⟩ w7=>t≤64∧x=zeT h (zC b.l 64) t∧Blk w7 w.heap.size (w8C h) 168∧Blk w7 w4.heap.size (zay (zC b.l 64)) 167∧Blk w7 w5.heap.size (w8C x) 168∧Blk w7 w2.heap.size (w8C (WA.zero 8)) 168∧Ext w w7) (fun ⟨t,x⟩=>64-t) (0,h) (by kernel_rfl) ⟨by omega,rfl,(hK1.ext hEw6),(hBw5.ext hEw6),hBw6,hK3,hX1⟩ ?_
 rintro ⟨t,x⟩ dw7 w7 ⟨ht,hx,hA,hB,hD,hZ4,hEl⟩
 have hzl:=hEl.size
 have hlthA:=hA.lt
 have hlthB:=hB.lt
 have hlthD:=hD.lt
 have hlthZ4:=hZ4.lt
 refine ze (zd (za (zF (some 19) (decide (((t:Nat):Int)<((64:Nat):Int))) (fun hc19=> ?_) (fun hc19=> ?_))))
 ·replace hc19:t<64:=by have:=zac hc19;omega
  refine zf (zb (ze (zv (zk (zb (ze (zr (ze (zd ?_)))))))))
  refine zc 1 [(20,(vI t))] (za (zaM (Instr.index 167 (vA (zay kA)) (vI t)) (vW ((kA.get t).toNat)) (zhG (E:=53) (m:=64) (by omega) (zpy (by omega))) ?_))
  refine zc 2 [(8,(vW ((kA.get t).toNat))),(7,(vI t))] (zf (zb (ze (zab 6 (fun w8 hEw8 hzw8 hT70=> ?_)))))
  refine zn hT70 0 (vP w5.heap.size 0) (zag (Instr.indexAt 168 (vP w5.heap.size 0) (vI 0)) (fun w' hC=>za3 (E:=53) (sz:=1) (m:=8))) (zA hT70 1 w5.heap.size 0 (fun w' hC=>(((hD.ext hEw8).ext hC).cell (zaU 0 (by omega)))) (zn hT70 2 (vP w5.heap.size 4) (zag (Instr.indexAt 168 (vP w5.heap.size 0) (vI 4)) (fun w' hC=>za3 (E:=53) (sz:=1) (m:=8))) (zA hT70 3 w5.heap.size 4 (fun w' hC=>(((hD.ext hEw8).ext hC).cell (zaU 4 (by omega)))) (zg hT70 [(4,9,(vW ((x.get 0).toNat))),(5,10,(vW ((x.get 4).toNat)))] 2 (zE (zb (ze (zab 29 (fun w9 hEw9 hzw9 hT79=> ?_)))))))))
  refine zn hT79 0 (vP w5.heap.size 7) (zag (Instr.indexAt 168 (vP w5.heap.size 0) (vI 7)) (fun w' hC=>za3 (E:=53) (sz:=1) (m:=8))) (zA hT79 1 w5.heap.size 7 (fun w' hC=>((((hD.ext hEw8).ext hEw9).ext hC).cell (zaU 7 (by omega)))) (zg hT79 [(2,28,(vW ((x.get 4).toNat)))] 1 (zn hT79 3 (vW ((rr (x.get 4) 6).toNat)) (zew (f:=145) (args:= #[(vW ((x.get 4).toNat)),(vI 6)]) (fun w' hC=>zdO (x.get 4) 6 _ (by decide) (by decide))) (zg hT79 [(4,30,(vW ((x.get 4).toNat)))] 1 (zn hT79 5 (vW ((rr (x.get 4) 11).toNat)) (zew (f:=145) (args:= #[(vW ((x.get 4).toNat)),(vI 11)]) (fun w' hC=>zdO (x.get 4) 11 _ (by decide) (by decide))) (zn hT79 6 (vW (((rr (x.get 4) 6)^^^(rr (x.get 4) 11)).toNat)) (zY .u32 _ (zcf (rr (x.get 4) 6) (rr (x.get 4) 11))) (zg hT79 [(7,33,(vW ((x.get 4).toNat)))] 1 (zn hT79 8 (vW ((rr (x.get 4) 25).toNat)) (zew (f:=145) (args:= #[(vW ((x.get 4).toNat)),(vI 25)]) (fun w' hC=>zdO (x.get 4) 25 _ (by decide) (by decide))) (zn hT79 9 (vW ((((rr (x.get 4) 6)^^^(rr (x.get 4) 11))^^^(rr (x.get 4) 25)).toNat)) (zY .u32 _ (zcf ((rr (x.get 4) 6)^^^(rr (x.get 4) 11)) (rr (x.get 4) 25))) ?_)))))))))
  refine zn hT79 10 (vW (((x.get 7)+(((rr (x.get 4) 6)^^^(rr (x.get 4) 11))^^^(rr (x.get 4) 25))).toNat)) (zY .u32 _ (zbm (x.get 7) (((rr (x.get 4) 6)^^^(rr (x.get 4) 11))^^^(rr (x.get 4) 25)))) (zg hT79 [(11,37,(vW ((x.get 4).toNat)))] 1 (zn hT79 12 (vP w5.heap.size 5) (zag (Instr.indexAt 168 (vP w5.heap.size 0) (vI 5)) (fun w' hC=>za3 (E:=53) (sz:=1) (m:=8))) (zA hT79 13 w5.heap.size 5 (fun w' hC=>((((hD.ext hEw8).ext hEw9).ext hC).cell (zaU 5 (by omega)))) (zn hT79 14 (vW (((x.get 4)&&&(x.get 5)).toNat)) (zY .u32 _ (zen (x.get 4) (x.get 5))) (zg hT79 [(15,41,(vW ((x.get 4).toNat)))] 1 (zn hT79 16 (vW ((~~~(x.get 4)).toNat)) (zY .u32 _ (zpu (x.get 4))) (zn hT79 17 (vP w5.heap.size 6) (zag (Instr.indexAt 168 (vP w5.heap.size 0) (vI 6)) (fun w' hC=>za3 (E:=53) (sz:=1) (m:=8))) (zA hT79 18 w5.heap.size 6 (fun w' hC=>((((hD.ext hEw8).ext hEw9).ext hC).cell (zaU 6 (by omega)))) (zn hT79 19 (vW (((~~~(x.get 4))&&&(x.get 6)).toNat)) (zY .u32 _ (zen (~~~(x.get 4)) (x.get 6))) ?_)))))))))
  refine zn hT79 20 (vW ((((x.get 4)&&&(x.get 5))^^^((~~~(x.get 4))&&&(x.get 6))).toNat)) (zY .u32 _ (zcf ((x.get 4)&&&(x.get 5)) ((~~~(x.get 4))&&&(x.get 6)))) (zn hT79 21 (vW ((((x.get 7)+(((rr (x.get 4) 6)^^^(rr (x.get 4) 11))^^^(rr (x.get 4) 25)))+(((x.get 4)&&&(x.get 5))^^^((~~~(x.get 4))&&&(x.get 6)))).toNat)) (zY .u32 _ (zbm ((x.get 7)+(((rr (x.get 4) 6)^^^(rr (x.get 4) 11))^^^(rr (x.get 4) 25))) (((x.get 4)&&&(x.get 5))^^^((~~~(x.get 4))&&&(x.get 6))))) (zg hT79 [(22,48,(vW ((kA.get t).toNat)))] 1 (zn hT79 23 (vW (((((x.get 7)+(((rr (x.get 4) 6)^^^(rr (x.get 4) 11))^^^(rr (x.get 4) 25)))+(((x.get 4)&&&(x.get 5))^^^((~~~(x.get 4))&&&(x.get 6))))+(kA.get t)).toNat)) (zY .u32 _ (zbm (((x.get 7)+(((rr (x.get 4) 6)^^^(rr (x.get 4) 11))^^^(rr (x.get 4) 25)))+(((x.get 4)&&&(x.get 5))^^^((~~~(x.get 4))&&&(x.get 6)))) (kA.get t))) (zg hT79 [(24,50,(vI t))] 1 (zaP hT79 25 w4.heap.size 0 t 64 1 (zA hT79 26 w4.heap.size (0+t*1) (fun w' hC=>((((hB.ext hEw8).ext hEw9).ext hC).cell (zcS t (by omega)))) (zn hT79 27 (vW ((((((x.get 7)+(((rr (x.get 4) 6)^^^(rr (x.get 4) 11))^^^(rr (x.get 4) 25)))+(((x.get 4)&&&(x.get 5))^^^((~~~(x.get 4))&&&(x.get 6))))+(kA.get t))+((zC b.l 64).get t)).toNat)) (zY .u32 _ (zbm ((((x.get 7)+(((rr (x.get 4) 6)^^^(rr (x.get 4) 11))^^^(rr (x.get 4) 25)))+(((x.get 4)&&&(x.get 5))^^^((~~~(x.get 4))&&&(x.get 6))))+(kA.get t)) ((zC b.l 64).get t))) ?_)))))))
  refine zg hT79 [(28,11,(vW ((((((x.get 7)+(((rr (x.get 4) 6)^^^(rr (x.get 4) 11))^^^(rr (x.get 4) 25)))+(((x.get 4)&&&(x.get 5))^^^((~~~(x.get 4))&&&(x.get 6))))+(kA.get t))+((zC b.l 64).get t)).toNat)))] 1 (zE (zb (ze (zab 25 (fun w10 hEw10 hzw10 hT112=> ?_)))))
  refine zg hT112 [(0,54,(vW ((x.get 0).toNat)))] 1 (zn hT112 1 (vW ((rr (x.get 0) 2).toNat)) (zew (f:=145) (args:= #[(vW ((x.get 0).toNat)),(vI 2)]) (fun w' hC=>zdO (x.get 0) 2 _ (by decide) (by decide))) (zg hT112 [(2,56,(vW ((x.get 0).toNat)))] 1 (zn hT112 3 (vW ((rr (x.get 0) 13).toNat)) (zew (f:=145) (args:= #[(vW ((x.get 0).toNat)),(vI 13)]) (fun w' hC=>zdO (x.get 0) 13 _ (by decide) (by decide))) (zn hT112 4 (vW (((rr (x.get 0) 2)^^^(rr (x.get 0) 13)).toNat)) (zY .u32 _ (zcf (rr (x.get 0) 2) (rr (x.get 0) 13))) (zg hT112 [(5,59,(vW ((x.get 0).toNat)))] 1 (zn hT112 6 (vW ((rr (x.get 0) 22).toNat)) (zew (f:=145) (args:= #[(vW ((x.get 0).toNat)),(vI 22)]) (fun w' hC=>zdO (x.get 0) 22 _ (by decide) (by decide))) (zn hT112 7 (vW ((((rr (x.get 0) 2)^^^(rr (x.get 0) 13))^^^(rr (x.get 0) 22)).toNat)) (zY .u32 _ (zcf ((rr (x.get 0) 2)^^^(rr (x.get 0) 13)) (rr (x.get 0) 22))) (zg hT112 [(8,62,(vW ((x.get 0).toNat)))] 1 (zn hT112 9 (vP w5.heap.size 1) (zag (Instr.indexAt 168 (vP w5.heap.size 0) (vI 1)) (fun w' hC=>za3 (E:=53) (sz:=1) (m:=8))) ?_)))))))))
  have hK4:=(((hD.ext hEw8).ext hEw9).ext hEw10)
  refine zA hT112 10 w5.heap.size 1 (fun w' hC=>((hK4.ext hC).cell (zaU 1 (by omega)))) (zn hT112 11 (vW (((x.get 0)&&&(x.get 1)).toNat)) (zY .u32 _ (zen (x.get 0) (x.get 1))) (zg hT112 [(12,66,(vW ((x.get 0).toNat)))] 1 (zn hT112 13 (vP w5.heap.size 2) (zag (Instr.indexAt 168 (vP w5.heap.size 0) (vI 2)) (fun w' hC=>za3 (E:=53) (sz:=1) (m:=8))) (zA hT112 14 w5.heap.size 2 (fun w' hC=>((hK4.ext hC).cell (zaU 2 (by omega)))) (zn hT112 15 (vW (((x.get 0)&&&(x.get 2)).toNat)) (zY .u32 _ (zen (x.get 0) (x.get 2))) (zn hT112 16 (vW ((((x.get 0)&&&(x.get 1))^^^((x.get 0)&&&(x.get 2))).toNat)) (zY .u32 _ (zcf ((x.get 0)&&&(x.get 1)) ((x.get 0)&&&(x.get 2)))) (zn hT112 17 (vP w5.heap.size 1) (zag (Instr.indexAt 168 (vP w5.heap.size 0) (vI 1)) (fun w' hC=>za3 (E:=53) (sz:=1) (m:=8))) (zA hT112 18 w5.heap.size 1 (fun w' hC=>((hK4.ext hC).cell (zaU 1 (by omega)))) (zn hT112 19 (vP w5.heap.size 2) (zag (Instr.indexAt 168 (vP w5.heap.size 0) (vI 2)) (fun w' hC=>za3 (E:=53) (sz:=1) (m:=8))) ?_)))))))))
  refine zA hT112 20 w5.heap.size 2 (fun w' hC=>((hK4.ext hC).cell (zaU 2 (by omega)))) (zn hT112 21 (vW (((x.get 1)&&&(x.get 2)).toNat)) (zY .u32 _ (zen (x.get 1) (x.get 2))) (zn hT112 22 (vW (((((x.get 0)&&&(x.get 1))^^^((x.get 0)&&&(x.get 2)))^^^((x.get 1)&&&(x.get 2))).toNat)) (zY .u32 _ (zcf (((x.get 0)&&&(x.get 1))^^^((x.get 0)&&&(x.get 2))) ((x.get 1)&&&(x.get 2)))) (zn hT112 23 (vW (((((rr (x.get 0) 2)^^^(rr (x.get 0) 13))^^^(rr (x.get 0) 22))+((((x.get 0)&&&(x.get 1))^^^((x.get 0)&&&(x.get 2)))^^^((x.get 1)&&&(x.get 2)))).toNat)) (zY .u32 _ (zbm (((rr (x.get 0) 2)^^^(rr (x.get 0) 13))^^^(rr (x.get 0) 22)) ((((x.get 0)&&&(x.get 1))^^^((x.get 0)&&&(x.get 2)))^^^((x.get 1)&&&(x.get 2))))) (zg hT112 [(24,12,(vW (((((rr (x.get 0) 2)^^^(rr (x.get 0) 13))^^^(rr (x.get 0) 22))+((((x.get 0)&&&(x.get 1))^^^((x.get 0)&&&(x.get 2)))^^^((x.get 1)&&&(x.get 2)))).toNat)))] 1 (zE (zb (zd (zc 2 [(79,(vW (((((rr (x.get 0) 2)^^^(rr (x.get 0) 13))^^^(rr (x.get 0) 22))+((((x.get 0)&&&(x.get 1))^^^((x.get 0)&&&(x.get 2)))^^^((x.get 1)&&&(x.get 2)))).toNat))),(78,(vW ((((((x.get 7)+(((rr (x.get 4) 6)^^^(rr (x.get 4) 11))^^^(rr (x.get 4) 25)))+(((x.get 4)&&&(x.get 5))^^^((~~~(x.get 4))&&&(x.get 6))))+(kA.get t))+((zC b.l 64).get t)).toNat)))] ?_))))))))
  refine za (zo (some 80) .u32 (IntKind.u32.wrap ((((((((x.get 7)+(((rr (x.get 4) 6)^^^(rr (x.get 4) 11))^^^(rr (x.get 4) 25)))+(((x.get 4)&&&(x.get 5))^^^((~~~(x.get 4))&&&(x.get 6))))+(kA.get t))+((zC b.l 64).get t)).toNat:Nat):Int)+((((((rr (x.get 0) 2)^^^(rr (x.get 0) 13))^^^(rr (x.get 0) 22))+((((x.get 0)&&&(x.get 1))^^^((x.get 0)&&&(x.get 2)))^^^((x.get 1)&&&(x.get 2)))).toNat:Nat):Int))) (((((((x.get 7)+(((rr (x.get 4) 6)^^^(rr (x.get 4) 11))^^^(rr (x.get 4) 25)))+(((x.get 4)&&&(x.get 5))^^^((~~~(x.get 4))&&&(x.get 6))))+(kA.get t))+((zC b.l 64).get t))+((((rr (x.get 0) 2)^^^(rr (x.get 0) 13))^^^(rr (x.get 0) 22))+((((x.get 0)&&&(x.get 1))^^^((x.get 0)&&&(x.get 2)))^^^((x.get 1)&&&(x.get 2))))).toNat) (zbm (((((x.get 7)+(((rr (x.get 4) 6)^^^(rr (x.get 4) 11))^^^(rr (x.get 4) 25)))+(((x.get 4)&&&(x.get 5))^^^((~~~(x.get 4))&&&(x.get 6))))+(kA.get t))+((zC b.l 64).get t)) ((((rr (x.get 0) 2)^^^(rr (x.get 0) 13))^^^(rr (x.get 0) 22))+((((x.get 0)&&&(x.get 1))^^^((x.get 0)&&&(x.get 2)))^^^((x.get 1)&&&(x.get 2))))) ?_)
  refine za (zaM (Instr.indexAt 168 (vP w5.heap.size 0) (vI 0)) (vP w5.heap.size 0) (za3 (E:=53) (sz:=1) (m:=8)) ?_)
  refine za (zm w5.heap.size 0 (hK4.cell (zaU 0 (by omega))) ?_)
  refine za (zaM (Instr.indexAt 168 (vP w5.heap.size 0) (vI 1)) (vP w5.heap.size 1) (za3 (E:=53) (sz:=1) (m:=8)) ?_)
  refine za (zm w5.heap.size 1 (hK4.cell (zaU 1 (by omega))) ?_)
  refine za (zaM (Instr.indexAt 168 (vP w5.heap.size 0) (vI 2)) (vP w5.heap.size 2) (za3 (E:=53) (sz:=1) (m:=8)) ?_)
  refine za (zm w5.heap.size 2 (hK4.cell (zaU 2 (by omega))) ?_)
  refine za (zaM (Instr.indexAt 168 (vP w5.heap.size 0) (vI 3)) (vP w5.heap.size 3) (za3 (E:=53) (sz:=1) (m:=8)) ?_)
  refine za (zm w5.heap.size 3 (hK4.cell (zaU 3 (by omega))) ?_)
  refine zc 1 [(89,(vW ((((((x.get 7)+(((rr (x.get 4) 6)^^^(rr (x.get 4) 11))^^^(rr (x.get 4) 25)))+(((x.get 4)&&&(x.get 5))^^^((~~~(x.get 4))&&&(x.get 6))))+(kA.get t))+((zC b.l 64).get t)).toNat)))] (za (zo (some 90) .u32 (IntKind.u32.wrap ((((x.get 3).toNat:Nat):Int)+(((((((x.get 7)+(((rr (x.get 4) 6)^^^(rr (x.get 4) 11))^^^(rr (x.get 4) 25)))+(((x.get 4)&&&(x.get 5))^^^((~~~(x.get 4))&&&(x.get 6))))+(kA.get t))+((zC b.l 64).get t)).toNat:Nat):Int))) (((x.get 3)+(((((x.get 7)+(((rr (x.get 4) 6)^^^(rr (x.get 4) 11))^^^(rr (x.get 4) 25)))+(((x.get 4)&&&(x.get 5))^^^((~~~(x.get 4))&&&(x.get 6))))+(kA.get t))+((zC b.l 64).get t))).toNat) (zbm (x.get 3) (((((x.get 7)+(((rr (x.get 4) 6)^^^(rr (x.get 4) 11))^^^(rr (x.get 4) 25)))+(((x.get 4)&&&(x.get 5))^^^((~~~(x.get 4))&&&(x.get 6))))+(kA.get t))+((zC b.l 64).get t))) ?_))
  refine za (zaM (Instr.indexAt 168 (vP w5.heap.size 0) (vI 4)) (vP w5.heap.size 4) (za3 (E:=53) (sz:=1) (m:=8)) ?_)
  refine za (zm w5.heap.size 4 (hK4.cell (zaU 4 (by omega))) ?_)
  refine za (zaM (Instr.indexAt 168 (vP w5.heap.size 0) (vI 5)) (vP w5.heap.size 5) (za3 (E:=53) (sz:=1) (m:=8)) ?_)
  refine za (zm w5.heap.size 5 (hK4.cell (zaU 5 (by omega))) ?_)
  refine za (zaM (Instr.indexAt 168 (vP w5.heap.size 0) (vI 6)) (vP w5.heap.size 6) (za3 (E:=53) (sz:=1) (m:=8)) ?_)
  refine za (zm w5.heap.size 6 (hK4.cell (zaU 6 (by omega))) ?_)
  refine zc 1 [(97,(vA (w8C ⟨[((((((x.get 7)+(((rr (x.get 4) 6)^^^(rr (x.get 4) 11))^^^(rr (x.get 4) 25)))+(((x.get 4)&&&(x.get 5))^^^((~~~(x.get 4))&&&(x.get 6))))+(kA.get t))+((zC b.l 64).get t))+((((rr (x.get 0) 2)^^^(rr (x.get 0) 13))^^^(rr (x.get 0) 22))+((((x.get 0)&&&(x.get 1))^^^((x.get 0)&&&(x.get 2)))^^^((x.get 1)&&&(x.get 2))))),(x.get 0),(x.get 1),(x.get 2),((x.get 3)+(((((x.get 7)+(((rr (x.get 4) 6)^^^(rr (x.get 4) 11))^^^(rr (x.get 4) 25)))+(((x.get 4)&&&(x.get 5))^^^((~~~(x.get 4))&&&(x.get 6))))+(kA.get t))+((zC b.l 64).get t))),(x.get 4),(x.get 5),(x.get 6)],rfl⟩)))] ?_
  refine za (zG 168 w5.heap.size 0 168 (vA (w8C ⟨[((((((x.get 7)+(((rr (x.get 4) 6)^^^(rr (x.get 4) 11))^^^(rr (x.get 4) 25)))+(((x.get 4)&&&(x.get 5))^^^((~~~(x.get 4))&&&(x.get 6))))+(kA.get t))+((zC b.l 64).get t))+((((rr (x.get 0) 2)^^^(rr (x.get 0) 13))^^^(rr (x.get 0) 22))+((((x.get 0)&&&(x.get 1))^^^((x.get 0)&&&(x.get 2)))^^^((x.get 1)&&&(x.get 2))))),(x.get 0),(x.get 1),(x.get 2),((x.get 3)+(((((x.get 7)+(((rr (x.get 4) 6)^^^(rr (x.get 4) 11))^^^(rr (x.get 4) 25)))+(((x.get 4)&&&(x.get 5))^^^((~~~(x.get 4))&&&(x.get 6))))+(kA.get t))+((zC b.l 64).get t))),(x.get 4),(x.get 5),(x.get 6)],rfl⟩)) (w8C x) (w8C ⟨[((((((x.get 7)+(((rr (x.get 4) 6)^^^(rr (x.get 4) 11))^^^(rr (x.get 4) 25)))+(((x.get 4)&&&(x.get 5))^^^((~~~(x.get 4))&&&(x.get 6))))+(kA.get t))+((zC b.l 64).get t))+((((rr (x.get 0) 2)^^^(rr (x.get 0) 13))^^^(rr (x.get 0) 22))+((((x.get 0)&&&(x.get 1))^^^((x.get 0)&&&(x.get 2)))^^^((x.get 1)&&&(x.get 2))))),(x.get 0),(x.get 1),(x.get 2),((x.get 3)+(((((x.get 7)+(((rr (x.get 4) 6)^^^(rr (x.get 4) 11))^^^(rr (x.get 4) 25)))+(((x.get 4)&&&(x.get 5))^^^((~~~(x.get 4))&&&(x.get 6))))+(kA.get t))+((zC b.l 64).get t))),(x.get 4),(x.get 5),(x.get 6)],rfl⟩) hK4 (by rw [zbN];kernel_rfl) (by first |(simp;done)|(simp;omega)) (zdN _) ?_)
  intro w11 hBw11 hCw11
  have hzw11:=hCw11.size
  rw [show (zV (w8C x) 0 (w8C ⟨[((((((x.get 7)+(((rr (x.get 4) 6)^^^(rr (x.get 4) 11))^^^(rr (x.get 4) 25)))+(((x.get 4)&&&(x.get 5))^^^((~~~(x.get 4))&&&(x.get 6))))+(kA.get t))+((zC b.l 64).get t))+((((rr (x.get 0) 2)^^^(rr (x.get 0) 13))^^^(rr (x.get 0) 22))+((((x.get 0)&&&(x.get 1))^^^((x.get 0)&&&(x.get 2)))^^^((x.get 1)&&&(x.get 2))))),(x.get 0),(x.get 1),(x.get 2),((x.get 3)+(((((x.get 7)+(((rr (x.get 4) 6)^^^(rr (x.get 4) 11))^^^(rr (x.get 4) 25)))+(((x.get 4)&&&(x.get 5))^^^((~~~(x.get 4))&&&(x.get 6))))+(kA.get t))+((zC b.l 64).get t))),(x.get 4),(x.get 5),(x.get 6)],rfl⟩):List Value)=w8C (rnd x (kA.get t) ((zC b.l 64).get t)) from (zy _ _ (by simp)).trans rfl] at hBw11
  refine zf (zi (zb (zd (za (zo (some 98) .i64 (IntKind.i64.wrap (((t:Nat):Int)+((1:Nat):Int))) (t+1) (zu) ?_)))))
  refine zc 1 [(18,(vI (t+1)))] (zf (zz ?_))
  have hK5:=((((hA.ext hEw8).ext hEw9).ext hEw10).chg hCw11)
  have hK6:=((((hB.ext hEw8).ext hEw9).ext hEw10).chg hCw11)
  have hK7:=((((hZ4.ext hEw8).ext hEw9).ext hEw10).chg hCw11)
  have hX2:Ext w w11:=(Ext.own (((hEl.trans hEw8).trans hEw9).trans hEw10) hCw11 (by omega))
  refine zL (t+1,rnd x (kA.get t) ((zC b.l 64).get t)) ?_ ?_
  ·exact ⟨by omega,by rw [zeT,←hx],hK5,hK6,hBw11,hK7,hX2⟩
  ·first | omega |(dsimp only;omega)
 ·replace hc19:¬(t<64):=by have:=zad hc19;omega
  refine zf (zb (ze (zh (zP (zq (zq (zH (zb (ze ?_)))))))))
  refine ze (zd (zc 1 [(99,(vI 0))] (zf (zb (zr ?_)))))
  obtain rfl:t=64:=by omega
  refine zU (X:=Nat) (fun i=> [(99,(vI i))]) [13,100,101,102,103,104,105,106,107,108,109,110] (fun i w12=>i≤8∧Blk w12 w.heap.size (w8C (zdo h x i)) 168∧Blk w12 w5.heap.size (w8C x) 168∧Blk w12 w2.heap.size (w8C (WA.zero 8)) 168∧Ext w w12) (fun i=>8-i) 0 (by kernel_rfl) ⟨by omega,(zpT h x).symm▸hA,hD,hZ4,hEl⟩ ?_
  rintro i dw12 w12 ⟨hi,hA2,hD2,hZ42,hEm⟩
  have hzm:=hEm.size
  have hlthA2:=hA2.lt
  have hlthD2:=hD2.lt
  have hlthZ42:=hZ42.lt
  refine ze (zd (za (zF (some 100) (decide (((i:Nat):Int)<((8:Nat):Int))) (fun hc100=> ?_) (fun hc100=> ?_))))
  ·replace hc100:i<8:=by have:=zac hc100;omega
   refine zf (zb (ze (zv (zk (zb (ze (zr (ze (zd ?_)))))))))
   refine zc 2 [(13,(vI i)),(101,(vI i))] (zf (zb (zab 9 (fun w13 hEw13 hzw13 hT221=> ?_))))
   refine zg hT221 [(0,102,(vI i))] 1 (zaP hT221 1 w.heap.size 0 i 8 1 (zA hT221 2 w.heap.size (0+i*1) (fun w' hC=>(((hA2.ext hEw13).ext hC).cell (zaU i (by omega)))) (zg hT221 [(3,105,(vI i))] 1 (zaP hT221 4 w5.heap.size 0 i 8 1 (zA hT221 5 w5.heap.size (0+i*1) (fun w' hC=>(((hD2.ext hEw13).ext hC).cell (zaU i (by omega)))) (zn hT221 6 (vW ((((zdo h x i).get i)+(x.get i)).toNat)) (zY .u32 _ (zbm ((zdo h x i).get i) (x.get i))) (zaP hT221 7 w.heap.size 0 i 8 1 (zx 8 (zaj 53 w.heap.size (0+i*1) 168 (vW ((((zdo h x i).get i)+(x.get i)).toNat)) (w8C (zdo h x i)) (hA2.ext hEw13) (by first | decide |(simp;done)|(simp;omega)) ?_)))))))))
   intro w14 hBw14 hCw14
   have hzw14:=hCw14.size
   rw [show ((w8C (zdo h x i)).set (0+i*1) (vW ((((zdo h x i).get i)+(x.get i)).toNat)):List Value)=w8C ((zdo h x i).set i (((zdo h x i).get i)+(x.get i))) from zt2 i (((zdo h x i).get i)+(x.get i))] at hBw14
   refine ⟨.inl (by kernel_rfl), ?_⟩
   refine zE (zi (zb (zd (za (zo (some 110) .i64 (IntKind.i64.wrap (((i:Nat):Int)+((1:Nat):Int))) (i+1) (zu) ?_)))))
   refine zc 1 [(99,(vI (i+1)))] (zf (zz (zL (i+1) ?_ ?_)))
   ·exact ⟨by omega,zol (h:=h) (x:=x) (i:=i) (by omega)▸hBw14,((hD2.ext hEw13).chg hCw14),((hZ42.ext hEw13).chg hCw14),(Ext.own (hEm.trans hEw13) hCw14 (by omega))⟩
   ·first | omega |(dsimp only;omega)
  ·replace hc100:¬(i<8):=by have:=zad hc100;omega
   refine zf (zb (ze (zh (zP (zq (zq (zH (zb (ze ?_)))))))))
   refine zd (za (zT w.heap.size 0 (hA2.all) (zbN _) ?_))
   refine za (zG 168 w2.heap.size 0 168 (vA (w8C (zdo h x i))) (w8C (WA.zero 8)) (w8C (zdo h x i)) hZ42 (by rw [zbN];kernel_rfl) (by first |(simp;done)|(simp;omega)) (zdN _) ?_)
   intro w15 hBw15 hCw15
   have hzw15:=hCw15.size
   rw [zy _ _ (by simp)] at hBw15
   refine zf (zb (zj (zaJ (show zX Tryz.prog 112 _ _ (.cell 4 168) (vA (w8C (zdo h x i))) from ⟨⟨w2.heap.size,0,none⟩,(by kernel_rfl),zI (T:=168) (vs:=w8C (zdo h x i)) (hBw15).all (by rw [zbN];kernel_rfl)⟩) ?_)))
   obtain rfl:i=8:=by omega
   exact ⟨by rw [hx];rfl,(Ext.own hEm hCw15 (by omega))⟩
end Go.Proofs.YtkmhgepdhilllaaGreatDoor
namespace Go.Proofs.YtkmhgepdhilllaaGreatDoor
open Go Go.RowKit Go.Cs
set_option maxRecDepth 100000
theorem zlD (w:World):
  Calls Tryz.prog 100 #[] w (Ret fun r w'=>r=(.tuple #[(vA (zay kA)),(vA (w8C zbp))])∧Ext w w'):=by
 refine zD (n:=4) (σ:= []) Tryz.func100 rfl ?_
 refine ze (zd (za (zaf (zay (WA.zero 64)) 167 ?_)))
 intro w1 hBw1 hEw1 hzw1 hlw1
 refine za (zaf (w8C (WA.zero 8)) 168 ?_)
 intro w2 hBw2 hEw2 hzw2 hlw2
 refine zf (zb (ze (zd (zc 2 [(3,(vA (w8C zbp))),(2,(vA (zay kA)))] (za (zG 167 w.heap.size 0 167 (vA (zay kA)) (zay (WA.zero 64)) (zay kA) (hBw1.ext hEw2) (by rw [zdA];kernel_rfl) (by first |(simp;done)|(simp;omega)) (zfU _) ?_))))))
 intro w3 hBw3 hCw3
 have hzw3:=hCw3.size
 rw [zy _ _ (by simp)] at hBw3
 refine za (zG 168 w1.heap.size 0 168 (vA (w8C zbp)) (w8C (WA.zero 8)) (w8C zbp) (hBw2.chg hCw3) (by rw [zbN];kernel_rfl) (by first |(simp;done)|(simp;omega)) (zdN _) ?_)
 intro w4 hBw4 hCw4
 have hzw4:=hCw4.size
 rw [zy _ _ (by simp)] at hBw4
 refine zf (zb (zj (za7 (show zX Tryz.prog 4 _ _ (.cell 0 167) (vA (zay kA)) from ⟨⟨w.heap.size,0,none⟩,(by kernel_rfl),zI (T:=167) (vs:=zay kA) ((hBw3.chg hCw4)).all (by rw [zdA];kernel_rfl)⟩) (show zX Tryz.prog 4 _ _ (.cell 1 168) (vA (w8C zbp)) from ⟨⟨w1.heap.size,0,none⟩,(by kernel_rfl),zI (T:=168) (vs:=w8C zbp) (hBw4).all (by rw [zbN];kernel_rfl)⟩) ?_)))
 have hX1:Ext w w4:=(Ext.own (Ext.own (hEw1.trans hEw2) hCw3 (by omega)) hCw4 (by omega))
 exact ⟨rfl,hX1⟩
theorem zrL (h:(WA 8)) {lo_b hi_b:Nat} {a_b:Option Addr} {n_b c_b:Nat} {b:List UInt8} (w:World) (h_b:Bs lo_b hi_b w a_b n_b c_b b) (hp0:n_b=64):
  Calls Tryz.prog 101 #[(vA (w8C h)),(.slice a_b n_b c_b)] w (Ret fun r w'=>r=(vA (w8C (zeW h b)))∧Ext w w'):=by
 refine zD (n:=202) (σ:= [(0,(vA (w8C h))),(1,(.slice a_b n_b c_b))]) Tryz.func101 rfl ?_
 replace h_b:=h_b.now;have hle_b:=h_b.le
 refine ze (zd (za (zaa (Instr.box 168 (vA (w8C h))) (vP w.heap.size 0) (w8C h) 168 ?_)))
 intro w1 hBw1 hEw1 hzw1 hlw1
 refine za (zaf (w8C (WA.zero 8)) 168 ?_)
 intro w2 hBw2 hEw2 hzw2 hlw2
 refine zf (zb (ze (zd (za (zp (zlD _) ?_)))))
 rintro _ w3 ⟨rfl,hEw3⟩
 have hzw3:=hEw3.size
 refine zc 3 [(29,(vA (w8C zbp))),(28,(vA (zay kA))),(26,(.tuple #[(vA (zay kA)),(vA (w8C zbp))]))] (za (zaf (zay (WA.zero 64)) 167 ?_))
 intro w4 hBw4 hEw4 hzw4 hlw4
 refine za (zaf (w8C (WA.zero 8)) 168 ?_)
 intro w5 hBw5 hEw5 hzw5 hlw5
 refine za (zG 167 w3.heap.size 0 167 (vA (zay kA)) (zay (WA.zero 64)) (zay kA) (hBw4.ext hEw5) (by rw [zdA];kernel_rfl) (by first |(simp;done)|(simp;omega)) (zfU _) ?_)
 intro w6 hBw6 hCw6
 have hzw6:=hCw6.size
 rw [zy _ _ (by simp)] at hBw6
 refine za (zG 168 w4.heap.size 0 168 (vA (w8C zbp)) (w8C (WA.zero 8)) (w8C zbp) (hBw5.chg hCw6) (by rw [zbN];kernel_rfl) (by first |(simp;done)|(simp;omega)) (zdN _) ?_)
 intro w7 hBw7 hCw7
 have hzw7:=hCw7.size
 rw [zy _ _ (by simp)] at hBw7
 refine zf (zb (ze (zd (za (zaf (zay (WA.zero 64)) 167 ?_)))))
 intro w8 hBw8 hEw8 hzw8 hlw8
 refine zf (zb (ze (ze (zd (zc 1 [(8,(vI 0))] (zf (zb (zr ?_))))))))
 have hK1:=(((((((hBw1.ext hEw2).ext hEw3).ext hEw4).ext hEw5).chg hCw6).chg hCw7).ext hEw8)
 have hK2:=((((((hBw2.ext hEw3).ext hEw4).ext hEw5).chg hCw6).chg hCw7).ext hEw8)
 have hX1:Ext w w8:=((Ext.own (Ext.own ((((hEw1.trans hEw2).trans hEw3).trans hEw4).trans hEw5) hCw6 (by omega)) hCw7 (by omega)).trans hEw8)
 refine zU (X:=Nat) (fun t=> [(8,(vI t))]) [9,10,11,12,30,31,32,33,34,35,36,37,38,39,40,41,42,43,44,45,46,47,48,49,50,51,52,53,54,55,56,57,58,59,60,61,62,63,64,65,66,67,68,69,70,71,72,73,74,75,76,77,78,79,80,81,82,83,84,85,86,87] (fun t w9=>t≤64∧Blk w9 w.heap.size (w8C h) 168∧Blk w9 w7.heap.size (zay (zC b t)) 167∧Blk w9 w3.heap.size (zay kA) 167∧Blk w9 w1.heap.size (w8C (WA.zero 8)) 168∧Ext w w9) (fun t=>64-t) 0 (by kernel_rfl) ⟨by omega,hK1,hBw8,((hBw6.chg hCw7).ext hEw8),hK2,hX1⟩ ?_
 rintro t dw9 w9 ⟨ht,hA,hB,hK,hZ4,hEl⟩
 have hzl:=hEl.size
 have hlb:=h_b.len_eq
 have hlthA:=hA.lt
 have hlthB:=hB.lt
 have hlthK:=hK.lt
 have hlthZ4:=hZ4.lt
 refine ze (ze (zd (zc 1 [(30,(vI t))] (za (zF (some 31) (decide (((t:Nat):Int)<((64:Nat):Int))) (fun hc31=> ?_) (fun hc31=> ?_))))))
 ·replace hc31:t<64:=by have:=zac hc31;omega
  refine zf (zb (zv (zk (zb (ze (zr (ze (ze (zd ?_)))))))))
  refine zc 1 [(34,(vI t))] (za (zF (some 35) (decide (((t:Nat):Int)<((16:Nat):Int))) (fun hc35=> ?_) (fun hc35=> ?_)))
  ·replace hc35:t<16:=by have:=zac hc35;omega
   refine zf (zb (zv (ze (zd (zc 2 [(38,(vI t)),(37,(.slice a_b n_b c_b))] (za (zo (some 39) .i64 (IntKind.i64.wrap (((4:Nat):Int)*((t:Nat):Int))) (4*t) (zu) ?_)))))))
   refine zc 1 [(40,(vI t))] (za (zo (some 41) .i64 (IntKind.i64.wrap (((4:Nat):Int)*((t:Nat):Int))) (4*t) (zu) ?_))
   refine za (zo (some 42) .i64 (IntKind.i64.wrap (((4*t:Nat):Int)+((4:Nat):Int))) (4*t+4) (zu) ?_)
   obtain ⟨a1,hR1,hS1⟩:=(h_b.ext hEl).slice Tryz.prog 23 5 (4*t) (4*t+4) c_b (some (vI (4*t))) (some (vI (4*t+4))) none
   refine za (zaM (Instr.sliceAt 23 (.slice a_b n_b c_b) (some (vI (4*t))) (some (vI (4*t+4))) none) (.slice a1 (4*t+4-(4*t)) (c_b-(4*t))) (hR1 _) ?_)
   refine za (zp (ztZ 4 _ hS1 (by first | omega | decide)) ?_)
   rintro _ _ ⟨rfl,rfl⟩
   refine zc 5 [(10,(vI (zcI ((b.drop (4*t)).take (4*t+4-(4*t))) 4))),(9,(vQ (za0 ((b.drop (4*t)).take (4*t+4-(4*t))) 4))),(46,(vI (zcI ((b.drop (4*t)).take (4*t+4-(4*t))) 4))),(45,(vQ (za0 ((b.drop (4*t)).take (4*t+4-(4*t))) 4))),(36,(.tuple #[(vQ (za0 ((b.drop (4*t)).take (4*t+4-(4*t))) 4)),(vI (zcI ((b.drop (4*t)).take (4*t+4-(4*t))) 4))]))] (zf (zb (ze (zd (zc 2 [(48,(vQ (za0 ((b.drop (4*t)).take (4*t+4-(4*t))) 4))),(47,(vI t))] (za (zo (some 49) .u32 (IntKind.u32.wrap ((za0 ((b.drop (4*t)).take (4*t+4-(4*t))) 4:Nat):Int)) ((UInt32.ofNat (za0 ((b.drop (4*t)).take 4) 4)).toNat) (by rw [show 4*t+4-4*t=4 from by omega,UInt32.toNat_ofNat',Nat.mod_eq_of_lt (zdM _ 4)];exact zbz rfl rfl (show _<2^32 from zdM _ 4)) ?_)))))))
   refine za (zbg w7.heap.size 0 t 64 1 ?_)
   refine za (zaj 53 w7.heap.size (0+t*1) 167 (vW ((UInt32.ofNat (za0 ((b.drop (4*t)).take 4) 4)).toNat)) (zay (zC b t)) hB (by first | decide |(simp;done)|(simp;omega)) ?_)
   intro w10 hBw10 hCw10
   have hzw10:=hCw10.size
   rw [show ((zay (zC b t)).set (0+t*1) (vW ((UInt32.ofNat (za0 ((b.drop (4*t)).take 4) 4)).toNat)):List Value)=zay ((zC b t).set t (UInt32.ofNat (za0 ((b.drop (4*t)).take 4) 4))) from zhP t (UInt32.ofNat (za0 ((b.drop (4*t)).take 4) 4))] at hBw10
   refine zf (zb (zP (zq (zH (zb (zd (zc 1 [(32,(vI t))] (za (zo (some 33) .i64 (IntKind.i64.wrap (((t:Nat):Int)+((1:Nat):Int))) (t+1) (zu) ?_)))))))))
   refine zc 1 [(8,(vI (t+1)))] (zf (zz (zL (t+1) ?_ ?_)))
   ·exact ⟨by omega,(hA.chg hCw10),by have hz:=hBw10;rwa [show (zC b t).set t _=zC b (t+1) from zkr (by omega) rfl] at hz,(hK.chg hCw10),(hZ4.chg hCw10),(Ext.own hEl hCw10 (by omega))⟩
   ·first | omega |(dsimp only;omega)
  ·replace hc35:¬(t<16):=by have:=zad hc35;omega
   refine zf (zb (zh (zk (zb (ze (zab 10 (fun w11 hEw11 hzw11 hT142=> ?_)))))))
   refine zg hT142 [(0,51,(vI t))] 1 (zn hT142 1 (vI (t-15)) (zY .i64 (IntKind.i64.wrap (((t:Nat):Int)-((15:Nat):Int))) (zu)) (zaP hT142 2 w7.heap.size 0 (t-15) 64 1 (zA hT142 3 w7.heap.size (0+(t-15)*1) (fun w' hC=>(((hB.ext hEw11).ext hC).cell (zcS (t-15) (by omega)))) (zg hT142 [(4,55,(vI t))] 1 (zn hT142 5 (vI (t-2)) (zY .i64 (IntKind.i64.wrap (((t:Nat):Int)-((2:Nat):Int))) (zu)) (zaP hT142 6 w7.heap.size 0 (t-2) 64 1 (zA hT142 7 w7.heap.size (0+(t-2)*1) (fun w' hC=>(((hB.ext hEw11).ext hC).cell (zcS (t-2) (by omega)))) (zg hT142 [(8,11,(vW (((zC b t).get (t-15)).toNat))),(9,12,(vW (((zC b t).get (t-2)).toNat)))] 2 (zE ?_)))))))))
   refine zb (zab 30 (fun w12 hEw12 hzw12 hT154=> ?_))
   refine zg hT154 [(0,59,(vI t)),(1,60,(vI t))] 2 (zn hT154 2 (vI (t-16)) (zY .i64 (IntKind.i64.wrap (((t:Nat):Int)-((16:Nat):Int))) (zu)) (zaP hT154 3 w7.heap.size 0 (t-16) 64 1 (zA hT154 4 w7.heap.size (0+(t-16)*1) (fun w' hC=>((((hB.ext hEw11).ext hEw12).ext hC).cell (zcS (t-16) (by omega)))) (zg hT154 [(5,64,(vI t))] 1 (zn hT154 6 (vI (t-7)) (zY .i64 (IntKind.i64.wrap (((t:Nat):Int)-((7:Nat):Int))) (zu)) (zaP hT154 7 w7.heap.size 0 (t-7) 64 1 (zA hT154 8 w7.heap.size (0+(t-7)*1) (fun w' hC=>((((hB.ext hEw11).ext hEw12).ext hC).cell (zcS (t-7) (by omega)))) (zn hT154 9 (vW ((((zC b t).get (t-16))+((zC b t).get (t-7))).toNat)) (zY .u32 _ (zbm ((zC b t).get (t-16)) ((zC b t).get (t-7)))) (zg hT154 [(10,69,(vW (((zC b t).get (t-15)).toNat))),(12,71,(vW (((zC b t).get (t-15)).toNat))),(15,74,(vW (((zC b t).get (t-15)).toNat)))] 3 ?_)))))))))
   refine zn hT154 16 (vW ((((zC b t).get (t-15))>>>UInt32.ofNat 3).toNat)) (zY .u32 _ (zi2 ((zC b t).get (t-15)) 3 (by decide))) (zg hT154 [(19,78,(vW (((zC b t).get (t-2)).toNat))),(21,80,(vW (((zC b t).get (t-2)).toNat))),(24,83,(vW (((zC b t).get (t-2)).toNat)))] 3 (zn hT154 25 (vW ((((zC b t).get (t-2))>>>UInt32.ofNat 10).toNat)) (zY .u32 _ (zi2 ((zC b t).get (t-2)) 10 (by decide))) (zx 11 (zp (zdJ ((zC b t).get (t-15)) 7 _ (by decide) (by decide)) ?_))))
   rintro _ w13 ⟨rfl,hEw13⟩
   have hzw13:=hEw13.size
   refine ⟨.inr hEw13, ?_⟩
   refine zx 13 (zp (zdJ ((zC b t).get (t-15)) 18 _ (by decide) (by decide)) ?_)
   rintro _ w14 ⟨rfl,hEw14⟩
   have hzw14:=hEw14.size
   have hX2:Ext w12 w14:=(hEw13.trans hEw14)
   refine ⟨.inr hX2, ?_⟩
   refine zn (hw:=hX2) hT154 14 (vW (((rr ((zC b t).get (t-15)) 7)^^^(rr ((zC b t).get (t-15)) 18)).toNat)) (zY .u32 _ (zcf (rr ((zC b t).get (t-15)) 7) (rr ((zC b t).get (t-15)) 18))) (zn (hw:=hX2) hT154 17 (vW ((((rr ((zC b t).get (t-15)) 7)^^^(rr ((zC b t).get (t-15)) 18))^^^(((zC b t).get (t-15))>>>UInt32.ofNat 3)).toNat)) (zY .u32 _ (zcf ((rr ((zC b t).get (t-15)) 7)^^^(rr ((zC b t).get (t-15)) 18)) (((zC b t).get (t-15))>>>UInt32.ofNat 3))) (zn (hw:=hX2) hT154 18 (vW (((((zC b t).get (t-16))+((zC b t).get (t-7)))+(((rr ((zC b t).get (t-15)) 7)^^^(rr ((zC b t).get (t-15)) 18))^^^(((zC b t).get (t-15))>>>UInt32.ofNat 3))).toNat)) (zY .u32 _ (zbm (((zC b t).get (t-16))+((zC b t).get (t-7))) (((rr ((zC b t).get (t-15)) 7)^^^(rr ((zC b t).get (t-15)) 18))^^^(((zC b t).get (t-15))>>>UInt32.ofNat 3)))) (zx 20 (zp (zdJ ((zC b t).get (t-2)) 17 _ (by decide) (by decide)) ?_))))
   rintro _ w15 ⟨rfl,hEw15⟩
   have hzw15:=hEw15.size
   have hX3:Ext w12 w15:=((hEw13.trans hEw14).trans hEw15)
   refine ⟨.inr hX3, ?_⟩
   refine zx 22 (zp (zdJ ((zC b t).get (t-2)) 19 _ (by decide) (by decide)) ?_)
   rintro _ w16 ⟨rfl,hEw16⟩
   have hzw16:=hEw16.size
   have hX4:Ext w12 w16:=(((hEw13.trans hEw14).trans hEw15).trans hEw16)
   refine ⟨.inr hX4, ?_⟩
   refine zn (hw:=hX4) hT154 23 (vW (((rr ((zC b t).get (t-2)) 17)^^^(rr ((zC b t).get (t-2)) 19)).toNat)) (zY .u32 _ (zcf (rr ((zC b t).get (t-2)) 17) (rr ((zC b t).get (t-2)) 19))) (zn (hw:=hX4) hT154 26 (vW ((((rr ((zC b t).get (t-2)) 17)^^^(rr ((zC b t).get (t-2)) 19))^^^(((zC b t).get (t-2))>>>UInt32.ofNat 10)).toNat)) (zY .u32 _ (zcf ((rr ((zC b t).get (t-2)) 17)^^^(rr ((zC b t).get (t-2)) 19)) (((zC b t).get (t-2))>>>UInt32.ofNat 10))) (zn (hw:=hX4) hT154 27 (vW ((((((zC b t).get (t-16))+((zC b t).get (t-7)))+(((rr ((zC b t).get (t-15)) 7)^^^(rr ((zC b t).get (t-15)) 18))^^^(((zC b t).get (t-15))>>>UInt32.ofNat 3)))+(((rr ((zC b t).get (t-2)) 17)^^^(rr ((zC b t).get (t-2)) 19))^^^(((zC b t).get (t-2))>>>UInt32.ofNat 10))).toNat)) (zY .u32 _ (zbm ((((zC b t).get (t-16))+((zC b t).get (t-7)))+(((rr ((zC b t).get (t-15)) 7)^^^(rr ((zC b t).get (t-15)) 18))^^^(((zC b t).get (t-15))>>>UInt32.ofNat 3))) (((rr ((zC b t).get (t-2)) 17)^^^(rr ((zC b t).get (t-2)) 19))^^^(((zC b t).get (t-2))>>>UInt32.ofNat 10)))) (zaP (hw:=hX4) hT154 28 w7.heap.size 0 t 64 1 ?_)))
   have hK3:=(((hB.ext hEw11).ext hEw12).ext hX4)
   refine zx 29 (zaj 53 w7.heap.size (0+t*1) 167 (vW ((((((zC b t).get (t-16))+((zC b t).get (t-7)))+(((rr ((zC b t).get (t-15)) 7)^^^(rr ((zC b t).get (t-15)) 18))^^^(((zC b t).get (t-15))>>>UInt32.ofNat 3)))+(((rr ((zC b t).get (t-2)) 17)^^^(rr ((zC b t).get (t-2)) 19))^^^(((zC b t).get (t-2))>>>UInt32.ofNat 10))).toNat)) (zay (zC b t)) hK3 (by first | decide |(simp;done)|(simp;omega)) ?_)
   have hK4:=(((hB.ext hEw11).ext hEw12).ext hX4)
   intro w17 hBw17 hCw17
   have hzw17:=hCw17.size
   rw [show ((zay (zC b t)).set (0+t*1) (vW ((((((zC b t).get (t-16))+((zC b t).get (t-7)))+(((rr ((zC b t).get (t-15)) 7)^^^(rr ((zC b t).get (t-15)) 18))^^^(((zC b t).get (t-15))>>>UInt32.ofNat 3)))+(((rr ((zC b t).get (t-2)) 17)^^^(rr ((zC b t).get (t-2)) 19))^^^(((zC b t).get (t-2))>>>UInt32.ofNat 10))).toNat)):List Value)=zay ((zC b t).set t (((((zC b t).get (t-16))+((zC b t).get (t-7)))+(((rr ((zC b t).get (t-15)) 7)^^^(rr ((zC b t).get (t-15)) 18))^^^(((zC b t).get (t-15))>>>UInt32.ofNat 3)))+(((rr ((zC b t).get (t-2)) 17)^^^(rr ((zC b t).get (t-2)) 19))^^^(((zC b t).get (t-2))>>>UInt32.ofNat 10)))) from zhP t (((((zC b t).get (t-16))+((zC b t).get (t-7)))+(((rr ((zC b t).get (t-15)) 7)^^^(rr ((zC b t).get (t-15)) 18))^^^(((zC b t).get (t-15))>>>UInt32.ofNat 3)))+(((rr ((zC b t).get (t-2)) 17)^^^(rr ((zC b t).get (t-2)) 19))^^^(((zC b t).get (t-2))>>>UInt32.ofNat 10)))] at hBw17
   refine ⟨.inl (by kernel_rfl), ?_⟩
   refine zE (zi (zb (zd (zc 1 [(32,(vI t))] (za (zo (some 33) .i64 (IntKind.i64.wrap (((t:Nat):Int)+((1:Nat):Int))) (t+1) (zu) ?_))))))
   refine zc 1 [(8,(vI (t+1)))] (zf (zz ?_))
   have hK5:=((((hA.ext hEw11).ext hEw12).ext hX4).chg hCw17)
   have hK6:=((((hK.ext hEw11).ext hEw12).ext hX4).chg hCw17)
   have hK7:=((((hZ4.ext hEw11).ext hEw12).ext hX4).chg hCw17)
   have hX5:Ext w w17:=(Ext.own (((hEl.trans hEw11).trans hEw12).trans hX4) hCw17 (by omega))
   refine zL (t+1) ?_ ?_
   ·exact ⟨by omega,hK5,by have hz:=hBw17;rwa [show (zC b t).set t _=zC b (t+1) from zkw (by omega) (by unfold znd znr;ac_rfl)] at hz,hK6,hK7,hX5⟩
   ·first | omega |(dsimp only;omega)
 ·replace hc31:¬(t<64):=by have:=zad hc31;omega
  refine zf (zb (zh (zP (zq (zq (zH (zb (ze (zab 24 (fun w18 hEw18 hzw18 hT227=> ?_))))))))))
  refine zn hT227 0 (vP w.heap.size 0) (zag (Instr.indexAt 168 (vP w.heap.size 0) (vI 0)) (fun w' hC=>za3 (E:=53) (sz:=1) (m:=8))) (zA hT227 1 w.heap.size 0 (fun w' hC=>(((hA.ext hEw18).ext hC).cell (zaU 0 (by omega)))) (zn hT227 2 (vP w.heap.size 1) (zag (Instr.indexAt 168 (vP w.heap.size 0) (vI 1)) (fun w' hC=>za3 (E:=53) (sz:=1) (m:=8))) (zA hT227 3 w.heap.size 1 (fun w' hC=>(((hA.ext hEw18).ext hC).cell (zaU 1 (by omega)))) (zn hT227 4 (vP w.heap.size 2) (zag (Instr.indexAt 168 (vP w.heap.size 0) (vI 2)) (fun w' hC=>za3 (E:=53) (sz:=1) (m:=8))) (zA hT227 5 w.heap.size 2 (fun w' hC=>(((hA.ext hEw18).ext hC).cell (zaU 2 (by omega)))) (zn hT227 6 (vP w.heap.size 3) (zag (Instr.indexAt 168 (vP w.heap.size 0) (vI 3)) (fun w' hC=>za3 (E:=53) (sz:=1) (m:=8))) (zA hT227 7 w.heap.size 3 (fun w' hC=>(((hA.ext hEw18).ext hC).cell (zaU 3 (by omega)))) (zn hT227 8 (vP w.heap.size 4) (zag (Instr.indexAt 168 (vP w.heap.size 0) (vI 4)) (fun w' hC=>za3 (E:=53) (sz:=1) (m:=8))) (zA hT227 9 w.heap.size 4 (fun w' hC=>(((hA.ext hEw18).ext hC).cell (zaU 4 (by omega)))) ?_)))))))))
  refine zn hT227 10 (vP w.heap.size 5) (zag (Instr.indexAt 168 (vP w.heap.size 0) (vI 5)) (fun w' hC=>za3 (E:=53) (sz:=1) (m:=8))) (zA hT227 11 w.heap.size 5 (fun w' hC=>(((hA.ext hEw18).ext hC).cell (zaU 5 (by omega)))) (zn hT227 12 (vP w.heap.size 6) (zag (Instr.indexAt 168 (vP w.heap.size 0) (vI 6)) (fun w' hC=>za3 (E:=53) (sz:=1) (m:=8))) (zA hT227 13 w.heap.size 6 (fun w' hC=>(((hA.ext hEw18).ext hC).cell (zaU 6 (by omega)))) (zn hT227 14 (vP w.heap.size 7) (zag (Instr.indexAt 168 (vP w.heap.size 0) (vI 7)) (fun w' hC=>za3 (E:=53) (sz:=1) (m:=8))) (zA hT227 15 w.heap.size 7 (fun w' hC=>(((hA.ext hEw18).ext hC).cell (zaU 7 (by omega)))) (zg hT227 [(16,13,(vW ((h.get 0).toNat))),(17,14,(vW ((h.get 1).toNat))),(18,15,(vW ((h.get 2).toNat))),(19,16,(vW ((h.get 3).toNat))),(20,17,(vW ((h.get 4).toNat))),(21,18,(vW ((h.get 5).toNat))),(22,19,(vW ((h.get 6).toNat))),(23,20,(vW ((h.get 7).toNat)))] 8 (zE (zb (ze ?_)))))))))
  refine ze (zd (zc 1 [(21,(vI 0))] (zf (zb (zr ?_)))))
  obtain rfl:t=64:=by omega
  refine zU (X:=Nat×WA 8) (fun ⟨i,x⟩=> [(13,(vW ((x.get 0).toNat))),(14,(vW ((x.get 1).toNat))),(15,(vW ((x.get 2).toNat))),(16,(vW ((x.get 3).toNat))),(17,(vW ((x.get 4).toNat))),(18,(vW ((x.get 5).toNat))),(19,(vW ((x.get 6).toNat))),(20,(vW ((x.get 7).toNat))),(21,(vI i))]) [22,23,24,25,104,105,106,107,108,109,110,111,112,113,114,115,116,117,118,119,120,121,122,123,124,125,126,127,128,129,130,131,132,133,134,135,136,137,138,139,140,141,142,143,144,145,146,147,148,149,150,151,152,153,154,155,156,157,158,159,160,161,162,163,164,165,166,167,168] (fun ⟨i,x⟩ w19=>i≤64∧x=zeT h (zC b 64) i∧Blk w19 w.heap.size (w8C h) 168∧Blk w19 w7.heap.size (zay (zC b 64)) 167∧Blk w19 w3.heap.size (zay kA) 167∧Blk w19 w1.heap.size (w8C (WA.zero 8)) 168∧Ext w w19) (fun ⟨i,x⟩=>64-i) (0,h) (by kernel_rfl) ⟨by omega,rfl,(hA.ext hEw18),(hB.ext hEw18),(hK.ext hEw18),(hZ4.ext hEw18),(hEl.trans hEw18)⟩ ?_
  rintro ⟨i,x⟩ dw19 w19 ⟨hi,hx,hA2,hB2,hK2,hZ42,hEm⟩
  have hzm:=hEm.size
  have hlthA2:=hA2.lt
  have hlthB2:=hB2.lt
  have hlthK2:=hK2.lt
  have hlthZ42:=hZ42.lt
  refine ze (ze (zd (zc 1 [(104,(vI i))] (za (zF (some 105) (decide (((i:Nat):Int)<((64:Nat):Int))) (fun hc105=> ?_) (fun hc105=> ?_))))))
  ·replace hc105:i<64:=by have:=zac hc105;omega
   refine zf (zb (zv (zk (zb (ze (zr (ze (zd (zc 2 [(109,(vW ((x.get 5).toNat))),(108,(vW ((x.get 4).toNat)))] ?_)))))))))
   refine za (zo (some 110) .u32 ((IntKind.u32.wrap ((BitVec.ofInt IntKind.u32.bits (((x.get 4).toNat:Nat):Int)&&&BitVec.ofInt IntKind.u32.bits (((x.get 5).toNat:Nat):Int)).toNat:Int))) (((x.get 4)&&&(x.get 5)).toNat) (zen (x.get 4) (x.get 5)) ?_)
   refine zc 1 [(111,(vW ((x.get 4).toNat)))] (za (zo (some 112) .u32 (IntKind.u32.wrap ((BitVec.ofInt IntKind.u32.bits (if IntKind.u32.signed then-1 else IntKind.u32.max)^^^BitVec.ofInt IntKind.u32.bits (((x.get 4).toNat:Nat):Int)).toNat:Int)) ((~~~(x.get 4)).toNat) (zpu (x.get 4)) ?_))
   refine zc 1 [(113,(vW ((x.get 6).toNat)))] (za (zo (some 114) .u32 ((IntKind.u32.wrap ((BitVec.ofInt IntKind.u32.bits (((~~~(x.get 4)).toNat:Nat):Int)&&&BitVec.ofInt IntKind.u32.bits (((x.get 6).toNat:Nat):Int)).toNat:Int))) (((~~~(x.get 4))&&&(x.get 6)).toNat) (zen (~~~(x.get 4)) (x.get 6)) ?_))
   refine za (zo (some 115) .u32 ((IntKind.u32.wrap ((BitVec.ofInt IntKind.u32.bits (((x.get 4&&&x.get 5).toNat:Nat):Int)||| BitVec.ofInt IntKind.u32.bits (((~~~(x.get 4)&&&x.get 6).toNat:Nat):Int)).toNat:Int))) ((((x.get 4&&&x.get 5)^^^(~~~(x.get 4)&&&x.get 6))).toNat) ((znn _ _).trans (by rw [zuS])) ?_)
   refine zc 1 [(22,(vW ((((x.get 4&&&x.get 5)^^^(~~~(x.get 4)&&&x.get 6))).toNat)))] (zf (zb (ze (zd (zc 2 [(117,(vW ((x.get 1).toNat))),(116,(vW ((x.get 0).toNat)))] (za (zo (some 118) .u32 ((IntKind.u32.wrap ((BitVec.ofInt IntKind.u32.bits (((x.get 0).toNat:Nat):Int)&&&BitVec.ofInt IntKind.u32.bits (((x.get 1).toNat:Nat):Int)).toNat:Int))) (((x.get 0)&&&(x.get 1)).toNat) (zen (x.get 0) (x.get 1)) ?_)))))))
   refine zc 2 [(120,(vW ((x.get 2).toNat))),(119,(vW ((x.get 0).toNat)))] (za (zo (some 121) .u32 ((IntKind.u32.wrap ((BitVec.ofInt IntKind.u32.bits (((x.get 0).toNat:Nat):Int)&&&BitVec.ofInt IntKind.u32.bits (((x.get 2).toNat:Nat):Int)).toNat:Int))) (((x.get 0)&&&(x.get 2)).toNat) (zen (x.get 0) (x.get 2)) ?_))
   refine za (zo (some 122) .u32 ((IntKind.u32.wrap ((BitVec.ofInt IntKind.u32.bits ((((x.get 0)&&&(x.get 1)).toNat:Nat):Int)||| BitVec.ofInt IntKind.u32.bits ((((x.get 0)&&&(x.get 2)).toNat:Nat):Int)).toNat:Int))) ((((x.get 0)&&&(x.get 1))|||((x.get 0)&&&(x.get 2))).toNat) (znn ((x.get 0)&&&(x.get 1)) ((x.get 0)&&&(x.get 2))) ?_)
   refine zc 2 [(124,(vW ((x.get 2).toNat))),(123,(vW ((x.get 1).toNat)))] (za (zo (some 125) .u32 ((IntKind.u32.wrap ((BitVec.ofInt IntKind.u32.bits (((x.get 1).toNat:Nat):Int)&&&BitVec.ofInt IntKind.u32.bits (((x.get 2).toNat:Nat):Int)).toNat:Int))) (((x.get 1)&&&(x.get 2)).toNat) (zen (x.get 1) (x.get 2)) ?_))
   refine za (zo (some 126) .u32 ((IntKind.u32.wrap ((BitVec.ofInt IntKind.u32.bits ((((x.get 0&&&x.get 1)|||(x.get 0&&&x.get 2)).toNat:Nat):Int)||| BitVec.ofInt IntKind.u32.bits (((x.get 1&&&x.get 2).toNat:Nat):Int)).toNat:Int))) ((((x.get 0&&&x.get 1)^^^(x.get 0&&&x.get 2)^^^(x.get 1&&&x.get 2))).toNat) ((znn _ _).trans (by rw [zt9])) ?_)
   refine zc 1 [(23,(vW ((((x.get 0&&&x.get 1)^^^(x.get 0&&&x.get 2)^^^(x.get 1&&&x.get 2))).toNat)))] (zf (zb (ze (zab 21 (fun w20 hEw20 hzw20 hT301=> ?_)))))
   refine zg hT301 [(0,127,(vW ((x.get 7).toNat))),(1,128,(vW ((x.get 4).toNat))),(3,130,(vW ((x.get 4).toNat))),(6,133,(vW ((x.get 4).toNat))),(10,137,(vW ((((x.get 4&&&x.get 5)^^^(~~~(x.get 4)&&&x.get 6))).toNat))),(12,139,(vI i))] 6 (zaP hT301 13 w3.heap.size 0 i 64 1 (zA hT301 14 w3.heap.size (0+i*1) (fun w' hC=>(((hK2.ext hEw20).ext hC).cell (zcS i (by omega)))) (zg hT301 [(16,143,(vI i))] 1 (zaP hT301 17 w7.heap.size 0 i 64 1 (zA hT301 18 w7.heap.size (0+i*1) (fun w' hC=>(((hB2.ext hEw20).ext hC).cell (zcS i (by omega)))) (zx 2 (zp (zdJ (x.get 4) 6 _ (by decide) (by decide)) ?_)))))))
   rintro _ w21 ⟨rfl,hEw21⟩
   have hzw21:=hEw21.size
   refine ⟨.inr hEw21, ?_⟩
   refine zx 4 (zp (zdJ (x.get 4) 11 _ (by decide) (by decide)) ?_)
   rintro _ w22 ⟨rfl,hEw22⟩
   have hzw22:=hEw22.size
   have hX6:Ext w20 w22:=(hEw21.trans hEw22)
   refine ⟨.inr hX6, ?_⟩
   refine zn (hw:=hX6) hT301 5 (vW (((rr (x.get 4) 6)^^^(rr (x.get 4) 11)).toNat)) (zY .u32 _ (zcf (rr (x.get 4) 6) (rr (x.get 4) 11))) (zx 7 (zp (zdJ (x.get 4) 25 _ (by decide) (by decide)) ?_))
   rintro _ w23 ⟨rfl,hEw23⟩
   have hzw23:=hEw23.size
   have hX7:Ext w20 w23:=((hEw21.trans hEw22).trans hEw23)
   refine ⟨.inr hX7, ?_⟩
   refine zn (hw:=hX7) hT301 8 (vW ((((rr (x.get 4) 6)^^^(rr (x.get 4) 11))^^^(rr (x.get 4) 25)).toNat)) (zY .u32 _ (zcf ((rr (x.get 4) 6)^^^(rr (x.get 4) 11)) (rr (x.get 4) 25))) (zn (hw:=hX7) hT301 9 (vW (((x.get 7)+(((rr (x.get 4) 6)^^^(rr (x.get 4) 11))^^^(rr (x.get 4) 25))).toNat)) (zY .u32 _ (zbm (x.get 7) (((rr (x.get 4) 6)^^^(rr (x.get 4) 11))^^^(rr (x.get 4) 25)))) (zn (hw:=hX7) hT301 11 (vW ((((x.get 7)+(((rr (x.get 4) 6)^^^(rr (x.get 4) 11))^^^(rr (x.get 4) 25)))+(((x.get 4&&&x.get 5)^^^(~~~(x.get 4)&&&x.get 6)))).toNat)) (zY .u32 _ (zbm ((x.get 7)+(((rr (x.get 4) 6)^^^(rr (x.get 4) 11))^^^(rr (x.get 4) 25))) (((x.get 4&&&x.get 5)^^^(~~~(x.get 4)&&&x.get 6))))) (zn (hw:=hX7) hT301 15 (vW (((((x.get 7)+(((rr (x.get 4) 6)^^^(rr (x.get 4) 11))^^^(rr (x.get 4) 25)))+(((x.get 4&&&x.get 5)^^^(~~~(x.get 4)&&&x.get 6))))+(kA.get i)).toNat)) (zY .u32 _ (zbm (((x.get 7)+(((rr (x.get 4) 6)^^^(rr (x.get 4) 11))^^^(rr (x.get 4) 25)))+(((x.get 4&&&x.get 5)^^^(~~~(x.get 4)&&&x.get 6)))) (kA.get i))) (zn (hw:=hX7) hT301 19 (vW ((((((x.get 7)+(((rr (x.get 4) 6)^^^(rr (x.get 4) 11))^^^(rr (x.get 4) 25)))+(((x.get 4&&&x.get 5)^^^(~~~(x.get 4)&&&x.get 6))))+(kA.get i))+((zC b 64).get i)).toNat)) (zY .u32 _ (zbm ((((x.get 7)+(((rr (x.get 4) 6)^^^(rr (x.get 4) 11))^^^(rr (x.get 4) 25)))+(((x.get 4&&&x.get 5)^^^(~~~(x.get 4)&&&x.get 6))))+(kA.get i)) ((zC b 64).get i))) ?_))))
   refine zg (hw:=hX7) hT301 [(20,24,(vW ((((((x.get 7)+(((rr (x.get 4) 6)^^^(rr (x.get 4) 11))^^^(rr (x.get 4) 25)))+(((x.get 4&&&x.get 5)^^^(~~~(x.get 4)&&&x.get 6))))+(kA.get i))+((zC b 64).get i)).toNat)))] 1 (zE (zb (ze (zd (zc 1 [(147,(vW ((x.get 0).toNat)))] (za (zp (zdJ (x.get 0) 2 _ (by decide) (by decide)) ?_)))))))
   rintro _ w24 ⟨rfl,hEw24⟩
   have hzw24:=hEw24.size
   refine zc 1 [(149,(vW ((x.get 0).toNat)))] (za (zp (zdJ (x.get 0) 13 _ (by decide) (by decide)) ?_))
   rintro _ w25 ⟨rfl,hEw25⟩
   have hzw25:=hEw25.size
   refine za (zo (some 151) .u32 ((IntKind.u32.wrap ((BitVec.ofInt IntKind.u32.bits (((rr (x.get 0) 2).toNat:Nat):Int)^^^BitVec.ofInt IntKind.u32.bits (((rr (x.get 0) 13).toNat:Nat):Int)).toNat:Int))) (((rr (x.get 0) 2)^^^(rr (x.get 0) 13)).toNat) (zcf (rr (x.get 0) 2) (rr (x.get 0) 13)) ?_)
   refine zc 1 [(152,(vW ((x.get 0).toNat)))] (za (zp (zdJ (x.get 0) 22 _ (by decide) (by decide)) ?_))
   rintro _ w26 ⟨rfl,hEw26⟩
   have hzw26:=hEw26.size
   refine za (zo (some 154) .u32 ((IntKind.u32.wrap ((BitVec.ofInt IntKind.u32.bits ((((rr (x.get 0) 2)^^^(rr (x.get 0) 13)).toNat:Nat):Int)^^^BitVec.ofInt IntKind.u32.bits (((rr (x.get 0) 22).toNat:Nat):Int)).toNat:Int))) ((((rr (x.get 0) 2)^^^(rr (x.get 0) 13))^^^(rr (x.get 0) 22)).toNat) (zcf ((rr (x.get 0) 2)^^^(rr (x.get 0) 13)) (rr (x.get 0) 22)) ?_)
   refine zc 1 [(155,(vW ((((x.get 0&&&x.get 1)^^^(x.get 0&&&x.get 2)^^^(x.get 1&&&x.get 2))).toNat)))] (za (zo (some 156) .u32 (IntKind.u32.wrap ((((((rr (x.get 0) 2)^^^(rr (x.get 0) 13))^^^(rr (x.get 0) 22)).toNat:Nat):Int)+(((((x.get 0&&&x.get 1)^^^(x.get 0&&&x.get 2)^^^(x.get 1&&&x.get 2))).toNat:Nat):Int))) (((((rr (x.get 0) 2)^^^(rr (x.get 0) 13))^^^(rr (x.get 0) 22))+(((x.get 0&&&x.get 1)^^^(x.get 0&&&x.get 2)^^^(x.get 1&&&x.get 2)))).toNat) (zbm (((rr (x.get 0) 2)^^^(rr (x.get 0) 13))^^^(rr (x.get 0) 22)) (((x.get 0&&&x.get 1)^^^(x.get 0&&&x.get 2)^^^(x.get 1&&&x.get 2)))) ?_))
   refine zc 1 [(25,(vW (((((rr (x.get 0) 2)^^^(rr (x.get 0) 13))^^^(rr (x.get 0) 22))+(((x.get 0&&&x.get 1)^^^(x.get 0&&&x.get 2)^^^(x.get 1&&&x.get 2)))).toNat)))] (zf (zb (zd (zc 5 [(161,(vW ((((((x.get 7)+(((rr (x.get 4) 6)^^^(rr (x.get 4) 11))^^^(rr (x.get 4) 25)))+(((x.get 4&&&x.get 5)^^^(~~~(x.get 4)&&&x.get 6))))+(kA.get i))+((zC b 64).get i)).toNat))),(160,(vW ((x.get 3).toNat))),(159,(vW ((x.get 4).toNat))),(158,(vW ((x.get 5).toNat))),(157,(vW ((x.get 6).toNat)))] (za (zo (some 162) .u32 (IntKind.u32.wrap ((((x.get 3).toNat:Nat):Int)+(((((((x.get 7)+(((rr (x.get 4) 6)^^^(rr (x.get 4) 11))^^^(rr (x.get 4) 25)))+(((x.get 4&&&x.get 5)^^^(~~~(x.get 4)&&&x.get 6))))+(kA.get i))+((zC b 64).get i)).toNat:Nat):Int))) (((x.get 3)+(((((x.get 7)+(((rr (x.get 4) 6)^^^(rr (x.get 4) 11))^^^(rr (x.get 4) 25)))+(((x.get 4&&&x.get 5)^^^(~~~(x.get 4)&&&x.get 6))))+(kA.get i))+((zC b 64).get i))).toNat) (zbm (x.get 3) (((((x.get 7)+(((rr (x.get 4) 6)^^^(rr (x.get 4) 11))^^^(rr (x.get 4) 25)))+(((x.get 4&&&x.get 5)^^^(~~~(x.get 4)&&&x.get 6))))+(kA.get i))+((zC b 64).get i))) ?_))))))
   refine zc 5 [(167,(vW (((((rr (x.get 0) 2)^^^(rr (x.get 0) 13))^^^(rr (x.get 0) 22))+(((x.get 0&&&x.get 1)^^^(x.get 0&&&x.get 2)^^^(x.get 1&&&x.get 2)))).toNat))),(166,(vW ((((((x.get 7)+(((rr (x.get 4) 6)^^^(rr (x.get 4) 11))^^^(rr (x.get 4) 25)))+(((x.get 4&&&x.get 5)^^^(~~~(x.get 4)&&&x.get 6))))+(kA.get i))+((zC b 64).get i)).toNat))),(165,(vW ((x.get 0).toNat))),(164,(vW ((x.get 1).toNat))),(163,(vW ((x.get 2).toNat)))] (za (zo (some 168) .u32 (IntKind.u32.wrap ((((((((x.get 7)+(((rr (x.get 4) 6)^^^(rr (x.get 4) 11))^^^(rr (x.get 4) 25)))+(((x.get 4&&&x.get 5)^^^(~~~(x.get 4)&&&x.get 6))))+(kA.get i))+((zC b 64).get i)).toNat:Nat):Int)+((((((rr (x.get 0) 2)^^^(rr (x.get 0) 13))^^^(rr (x.get 0) 22))+(((x.get 0&&&x.get 1)^^^(x.get 0&&&x.get 2)^^^(x.get 1&&&x.get 2)))).toNat:Nat):Int))) (((((((x.get 7)+(((rr (x.get 4) 6)^^^(rr (x.get 4) 11))^^^(rr (x.get 4) 25)))+(((x.get 4&&&x.get 5)^^^(~~~(x.get 4)&&&x.get 6))))+(kA.get i))+((zC b 64).get i))+((((rr (x.get 0) 2)^^^(rr (x.get 0) 13))^^^(rr (x.get 0) 22))+(((x.get 0&&&x.get 1)^^^(x.get 0&&&x.get 2)^^^(x.get 1&&&x.get 2))))).toNat) (zbm (((((x.get 7)+(((rr (x.get 4) 6)^^^(rr (x.get 4) 11))^^^(rr (x.get 4) 25)))+(((x.get 4&&&x.get 5)^^^(~~~(x.get 4)&&&x.get 6))))+(kA.get i))+((zC b 64).get i)) ((((rr (x.get 0) 2)^^^(rr (x.get 0) 13))^^^(rr (x.get 0) 22))+(((x.get 0&&&x.get 1)^^^(x.get 0&&&x.get 2)^^^(x.get 1&&&x.get 2))))) ?_))
   refine zc 8 [(13,(vW (((((((x.get 7)+(((rr (x.get 4) 6)^^^(rr (x.get 4) 11))^^^(rr (x.get 4) 25)))+(((x.get 4&&&x.get 5)^^^(~~~(x.get 4)&&&x.get 6))))+(kA.get i))+((zC b 64).get i))+((((rr (x.get 0) 2)^^^(rr (x.get 0) 13))^^^(rr (x.get 0) 22))+(((x.get 0&&&x.get 1)^^^(x.get 0&&&x.get 2)^^^(x.get 1&&&x.get 2))))).toNat))),(14,(vW ((x.get 0).toNat))),(15,(vW ((x.get 1).toNat))),(16,(vW ((x.get 2).toNat))),(17,(vW (((x.get 3)+(((((x.get 7)+(((rr (x.get 4) 6)^^^(rr (x.get 4) 11))^^^(rr (x.get 4) 25)))+(((x.get 4&&&x.get 5)^^^(~~~(x.get 4)&&&x.get 6))))+(kA.get i))+((zC b 64).get i))).toNat))),(18,(vW ((x.get 4).toNat))),(19,(vW ((x.get 5).toNat))),(20,(vW ((x.get 6).toNat)))] (zf (zi (zb (zd (zc 1 [(106,(vI i))] (za (zo (some 107) .i64 (IntKind.i64.wrap (((i:Nat):Int)+((1:Nat):Int))) (i+1) (zu) ?_)))))))
   refine zc 1 [(21,(vI (i+1)))] (zf (zz ?_))
   have hK8:=(((((((hA2.ext hEw20).ext hEw21).ext hEw22).ext hEw23).ext hEw24).ext hEw25).ext hEw26)
   have hK9:=(((((((hB2.ext hEw20).ext hEw21).ext hEw22).ext hEw23).ext hEw24).ext hEw25).ext hEw26)
   have hK10:=(((((((hK2.ext hEw20).ext hEw21).ext hEw22).ext hEw23).ext hEw24).ext hEw25).ext hEw26)
   have hK11:=(((((((hZ42.ext hEw20).ext hEw21).ext hEw22).ext hEw23).ext hEw24).ext hEw25).ext hEw26)
   have hX8:Ext w w26:=(((((((hEm.trans hEw20).trans hEw21).trans hEw22).trans hEw23).trans hEw24).trans hEw25).trans hEw26)
   refine zL (i+1,rnd x (kA.get i) ((zC b 64).get i)) ?_ ?_
   ·exact ⟨by omega,by rw [zeT,←hx],hK8,hK9,hK10,hK11,hX8⟩
   ·first | omega |(dsimp only;omega)
  ·replace hc105:¬(i<64):=by have:=zad hc105;omega
   refine zf (zb (zh (zP (zq (zq (zH (zb (ze (zd ?_)))))))))
   refine za (zaM (Instr.indexAt 168 (vP w.heap.size 0) (vI 0)) (vP w.heap.size 0) (za3 (E:=53) (sz:=1) (m:=8)) ?_)
   refine za (zm w.heap.size 0 (hA2.cell (zaU 0 (by omega))) ?_)
   refine zc 1 [(171,(vW ((x.get 0).toNat)))] (za (zo (some 172) .u32 (IntKind.u32.wrap ((((h.get 0).toNat:Nat):Int)+(((x.get 0).toNat:Nat):Int))) (((h.get 0)+(x.get 0)).toNat) (zbm (h.get 0) (x.get 0)) ?_))
   refine za (zaM (Instr.indexAt 168 (vP w.heap.size 0) (vI 1)) (vP w.heap.size 1) (za3 (E:=53) (sz:=1) (m:=8)) ?_)
   refine za (zm w.heap.size 1 (hA2.cell (zaU 1 (by omega))) ?_)
   refine zc 1 [(175,(vW ((x.get 1).toNat)))] (za (zo (some 176) .u32 (IntKind.u32.wrap ((((h.get 1).toNat:Nat):Int)+(((x.get 1).toNat:Nat):Int))) (((h.get 1)+(x.get 1)).toNat) (zbm (h.get 1) (x.get 1)) ?_))
   refine za (zaM (Instr.indexAt 168 (vP w.heap.size 0) (vI 2)) (vP w.heap.size 2) (za3 (E:=53) (sz:=1) (m:=8)) ?_)
   refine za (zm w.heap.size 2 (hA2.cell (zaU 2 (by omega))) ?_)
   refine zc 1 [(179,(vW ((x.get 2).toNat)))] (za (zo (some 180) .u32 (IntKind.u32.wrap ((((h.get 2).toNat:Nat):Int)+(((x.get 2).toNat:Nat):Int))) (((h.get 2)+(x.get 2)).toNat) (zbm (h.get 2) (x.get 2)) ?_))
   refine za (zaM (Instr.indexAt 168 (vP w.heap.size 0) (vI 3)) (vP w.heap.size 3) (za3 (E:=53) (sz:=1) (m:=8)) ?_)
   refine za (zm w.heap.size 3 (hA2.cell (zaU 3 (by omega))) ?_)
   refine zc 1 [(183,(vW ((x.get 3).toNat)))] (za (zo (some 184) .u32 (IntKind.u32.wrap ((((h.get 3).toNat:Nat):Int)+(((x.get 3).toNat:Nat):Int))) (((h.get 3)+(x.get 3)).toNat) (zbm (h.get 3) (x.get 3)) ?_))
   refine za (zaM (Instr.indexAt 168 (vP w.heap.size 0) (vI 4)) (vP w.heap.size 4) (za3 (E:=53) (sz:=1) (m:=8)) ?_)
   refine za (zm w.heap.size 4 (hA2.cell (zaU 4 (by omega))) ?_)
   refine zc 1 [(187,(vW ((x.get 4).toNat)))] (za (zo (some 188) .u32 (IntKind.u32.wrap ((((h.get 4).toNat:Nat):Int)+(((x.get 4).toNat:Nat):Int))) (((h.get 4)+(x.get 4)).toNat) (zbm (h.get 4) (x.get 4)) ?_))
   refine za (zaM (Instr.indexAt 168 (vP w.heap.size 0) (vI 5)) (vP w.heap.size 5) (za3 (E:=53) (sz:=1) (m:=8)) ?_)
   refine za (zm w.heap.size 5 (hA2.cell (zaU 5 (by omega))) ?_)
   refine zc 1 [(191,(vW ((x.get 5).toNat)))] (za (zo (some 192) .u32 (IntKind.u32.wrap ((((h.get 5).toNat:Nat):Int)+(((x.get 5).toNat:Nat):Int))) (((h.get 5)+(x.get 5)).toNat) (zbm (h.get 5) (x.get 5)) ?_))
   refine za (zaM (Instr.indexAt 168 (vP w.heap.size 0) (vI 6)) (vP w.heap.size 6) (za3 (E:=53) (sz:=1) (m:=8)) ?_)
   refine za (zm w.heap.size 6 (hA2.cell (zaU 6 (by omega))) ?_)
   refine zc 1 [(195,(vW ((x.get 6).toNat)))] (za (zo (some 196) .u32 (IntKind.u32.wrap ((((h.get 6).toNat:Nat):Int)+(((x.get 6).toNat:Nat):Int))) (((h.get 6)+(x.get 6)).toNat) (zbm (h.get 6) (x.get 6)) ?_))
   refine za (zaM (Instr.indexAt 168 (vP w.heap.size 0) (vI 7)) (vP w.heap.size 7) (za3 (E:=53) (sz:=1) (m:=8)) ?_)
   refine za (zm w.heap.size 7 (hA2.cell (zaU 7 (by omega))) ?_)
   refine zc 1 [(199,(vW ((x.get 7).toNat)))] (za (zo (some 200) .u32 (IntKind.u32.wrap ((((h.get 7).toNat:Nat):Int)+(((x.get 7).toNat:Nat):Int))) (((h.get 7)+(x.get 7)).toNat) (zbm (h.get 7) (x.get 7)) ?_))
   refine zc 1 [(201,(vA (w8C ⟨[((h.get 0)+(x.get 0)),((h.get 1)+(x.get 1)),((h.get 2)+(x.get 2)),((h.get 3)+(x.get 3)),((h.get 4)+(x.get 4)),((h.get 5)+(x.get 5)),((h.get 6)+(x.get 6)),((h.get 7)+(x.get 7))],rfl⟩)))] (za (zG 168 w1.heap.size 0 168 (vA (w8C ⟨[((h.get 0)+(x.get 0)),((h.get 1)+(x.get 1)),((h.get 2)+(x.get 2)),((h.get 3)+(x.get 3)),((h.get 4)+(x.get 4)),((h.get 5)+(x.get 5)),((h.get 6)+(x.get 6)),((h.get 7)+(x.get 7))],rfl⟩)) (w8C (WA.zero 8)) (w8C ⟨[((h.get 0)+(x.get 0)),((h.get 1)+(x.get 1)),((h.get 2)+(x.get 2)),((h.get 3)+(x.get 3)),((h.get 4)+(x.get 4)),((h.get 5)+(x.get 5)),((h.get 6)+(x.get 6)),((h.get 7)+(x.get 7))],rfl⟩) hZ42 (by rw [zbN];kernel_rfl) (by first |(simp;done)|(simp;omega)) (zdN _) ?_))
   intro w27 hBw27 hCw27
   have hzw27:=hCw27.size
   rw [zy _ _ (by simp)] at hBw27
   refine zf (zb (zj (zaJ (show zX Tryz.prog 202 _ _ (.cell 4 168) (vA (w8C ⟨[((h.get 0)+(x.get 0)),((h.get 1)+(x.get 1)),((h.get 2)+(x.get 2)),((h.get 3)+(x.get 3)),((h.get 4)+(x.get 4)),((h.get 5)+(x.get 5)),((h.get 6)+(x.get 6)),((h.get 7)+(x.get 7))],rfl⟩)) from ⟨⟨w1.heap.size,0,none⟩,(by kernel_rfl),zI (T:=168) (vs:=w8C ⟨[((h.get 0)+(x.get 0)),((h.get 1)+(x.get 1)),((h.get 2)+(x.get 2)),((h.get 3)+(x.get 3)),((h.get 4)+(x.get 4)),((h.get 5)+(x.get 5)),((h.get 6)+(x.get 6)),((h.get 7)+(x.get 7))],rfl⟩) (hBw27).all (by rw [zbN];kernel_rfl)⟩) ?_)))
   obtain rfl:i=64:=by omega
   exact ⟨by rw [zpx,hx],(Ext.own hEm hCw27 (by omega))⟩
end Go.Proofs.YtkmhgepdhilllaaGreatDoor
namespace Go.Proofs.YtkmhgepdhilllaaGreatDoor
open Go Go.RowKit Go.Cs
set_option maxRecDepth 100000
theorem zve (w:World) (hg1:Gl 1 (w8C zbp) w):
  Calls Tryz.prog 119 #[] w (Ret fun r w'=>r=(vA (stC Sta.new))∧Ext w w'):=by
 refine zD (n:=3) (σ:= []) Tryz.func119 rfl ?_
 have hgl1:=hg1.lt
 refine ze (zd (za (zaf (stC Sta.zero) 193 ?_)))
 intro w1 hBw1 hEw1 hzw1 hlw1
 refine zf (zb (ze (zd (za (zT 1 0 ((hg1.ext hEw1).all) (zbN _) ?_)))))
 refine za (zaM (Instr.build 193 #[(0,vT),(1,(vA (w8C zbp)))]) (vA (stC Sta.new)) ((zkH zbp).trans (congrArg (fun z:Sta=>Result.ok (Value.agg (stC z).toArray) _) (show (⟨true,zbp,List.replicate 64 0,0,by simp,by decide⟩:Sta)=Sta.new from rfl))) ?_)
 refine za (zG 193 w.heap.size 0 193 (vA (stC Sta.new)) (stC Sta.zero) (stC Sta.new) hBw1 (by rw [zco];kernel_rfl) (by first |(simp;done)|(simp;omega)) (zeX _) ?_)
 intro w2 hBw2 hCw2
 have hzw2:=hCw2.size
 rw [zy _ _ (by simp)] at hBw2
 exact zf (zb (zj (zaJ (show zX Tryz.prog 3 _ _ (.cell 0 193) (vA (stC Sta.new)) from ⟨⟨w.heap.size,0,none⟩,(by kernel_rfl),zI (T:=193) (vs:=stC Sta.new) (hBw2).all (by rw [zco];kernel_rfl)⟩) (⟨rfl,(Ext.own hEw1 hCw2 (by omega))⟩))))
theorem zhQ (s:Sta) {lo_b hi_b:Nat} {a_b:Option Addr} {n_b c_b:Nat} {b:List UInt8} (l:List UInt8) (w:World) (h_b:Bs lo_b hi_b w a_b n_b c_b b) (hp0:Sm s l) (hp1:l.length+n_b<2305843009213693952) (hg2:Gl 3 (zay kA) w):
  Calls Tryz.prog 120 #[(vA (stC s)),(.slice a_b n_b c_b)] w (Ret fun r w'=>∃(a0:Sta),r=(vA (stC a0))∧Sm a0 (l++b)∧Ext w w'):=by
 refine zD (n:=43) (σ:= [(0,(vA (stC s))),(1,(.slice a_b n_b c_b))]) Tryz.func120 rfl ?_
 replace h_b:=h_b.now;have hle_b:=h_b.le
 have hgl2:=hg2.lt
 refine ze (zd (za (zaa (Instr.box 193 (vA (stC s))) (vP w.heap.size 0) (stC s) 193 ?_)))
 intro w1 hBw1 hEw1 hzw1 hlw1
 refine za (zaf (stC Sta.zero) 193 ?_)
 intro w2 hBw2 hEw2 hzw2 hlw2
 refine zf (zb (ze (ze (zd (zc 1 [(7,(vP w.heap.size 0))] (za (zm w.heap.size 0 ((hBw1.ext hEw2).cell (show (stC s)[0]? =some vT from congrArg (fun z=>some (Value.bool z)) hp0.bg)) ?_)))))))
 refine zc 1 [(9,vF)] (zf (zb (zh (zk (zb (ze (zr (zU (X:=Nat×Sta×Option Addr) (fun ⟨p,y,ad⟩=> [(1,(.slice ad (n_b-p) (c_b-p)))]) [5,6,11,12,13,14,15,16,17,18,19,20,21,22,23,24,25,26,27,28,29,30,31,32,33,34,35,36,37,38,39,40,41] (fun ⟨p,y,ad⟩ w3=>p≤n_b∧Sm y (l++b.take p)∧Bs lo_b w.heap.size w3 ad (n_b-p) (c_b-p) (b.drop p)∧Blk w3 w.heap.size (stC y) 193∧Blk w3 w1.heap.size (stC Sta.zero) 193∧Ext w w3) (fun ⟨p,y,ad⟩=>n_b-p) (0,s,a_b) (by kernel_rfl) ⟨by omega,by rw [List.take_zero,List.append_nil];exact hp0,by rw [List.drop_zero];exact ((h_b.ext hEw1).ext hEw2),(hBw1.ext hEw2),hBw2,(hEw1.trans hEw2)⟩ ?_))))))))
 rintro ⟨p,y,ad⟩ dw3 w3 ⟨hp,hsm,hBs,hB2,hB4,hEl⟩
 have hzl:=hEl.size
 have hl2:=hB2.lt;have hl4:=hB4.lt
 have hlen:=h_b.len_eq
 have hle1:=hBs.le
 have hll:(l++b.take p).length=l.length+p:=by simp;omega
 have hmy:y.many=l.length+p:=hsm.many.trans hll
 refine ze (ze (zd (zc 2 [(12,(vI (n_b-p))),(11,(.slice ad (n_b-p) (c_b-p)))] (za (zF (some 13) (decide (((n_b-p:Nat):Int)>((0:Nat):Int))) (fun hc13=> ?_) (fun hc13=> ?_))))))
 ·replace hc13:n_b-p>0:=by have:=zac hc13;omega
  refine zf (zb (zv (zk (zb (zr (ze (zd (zc 1 [(14,(vP w.heap.size 73))] (za (zm w.heap.size 73 (hB2.cell (zhX _)) ?_))))))))))
  refine za (zo (some 16) .u64 (((y.many:Nat):Int).tmod ((64:Nat):Int)) (y.many%64) (zcZ _ _) ?_)
  refine za (zo (some 17) .i64 (IntKind.i64.wrap ((y.many%64:Nat):Int)) (y.many%64) (zu rfl) ?_)
  refine zc 1 [(5,(vI (y.many%64)))] (zf (zb (ze (zd (zc 2 [(19,(vI (y.many%64))),(18,(vP w.heap.size 9))] (za (zaM (Instr.sliceAt 191 (vP w.heap.size 9) (some (vI (y.many%64))) none none) (.slice (pA w.heap.size (9+(y.many%64)*1)) (64-(y.many%64)) (64-(y.many%64))) (zju (len:=64) (E:=5) (sz:=1) (l:=y.many%64) (r:=64) (m:=64) (.inr ⟨_,rfl⟩) (.inl ⟨rfl,rfl⟩) (.inl ⟨rfl,rfl⟩) (by simp) (by omega) (by omega) (by omega) (by omega)) ?_)))))))
  refine zc 1 [(21,(.slice ad (n_b-p) (c_b-p)))] (za (zhH (a:=(pA w.heap.size (9+(y.many%64)*1))) (dl:=64-(y.many%64)) (dc:=64-(y.many%64)) (some 22) 23 23 3 5 w.heap.size (9+y.many%64) hB2 (fun _=>by rw [Nat.mul_one]) (by simp;omega) hBs.es (fun _=>rfl) ?_))
  intro w4 hBw4 hCw4
  have hzw4:=hCw4.size
  rw [show zV (stC y) (9+y.many%64) (((b.drop p).take (min (n_b-p) (64-(y.many%64)))).map u8v)=stC (y.put (y.many%64) ((b.drop p).take (min (n_b-p) (64-(y.many%64)))) (by simp;omega)) from zui (by simp;omega)] at hBw4
  refine zc 1 [(6,(vI (min (n_b-p) (64-(y.many%64)))))] (zf (zb (ze (zd (zc 1 [(23,(vP w.heap.size 73))] (za (zm w.heap.size 73 (hBw4.cell (zhX _)) ?_)))))))
  refine zc 1 [(25,(vI (min (n_b-p) (64-(y.many%64)))))] (za (zo (some 26) .u64 (IntKind.u64.wrap ((min (n_b-p) (64-(y.many%64)):Nat):Int)) (min (n_b-p) (64-(y.many%64))) (zbz rfl rfl (by show _<2^64;omega)) ?_))
  refine za (zo (some 27) .u64 (IntKind.u64.wrap ((((y.put (y.many%64) ((b.drop p).take (min (n_b-p) (64-(y.many%64)))) (by simp;omega)).many:Nat):Int)+((min (n_b-p) (64-(y.many%64)):Nat):Int))) (y.many+min (n_b-p) (64-(y.many%64))) (zbz rfl (by push_cast;rfl) (by show _<2^64;omega)) ?_)
  refine zc 1 [(28,(vP w.heap.size 73))] (za (zaj 54 w.heap.size 73 193 (vQ (y.many+min (n_b-p) (64-(y.many%64)))) (stC (y.put (y.many%64) ((b.drop p).take (min (n_b-p) (64-(y.many%64)))) (by simp;omega))) hBw4 (by first | decide |(simp;done)|(simp;omega)) ?_))
  intro w5 hBw5 hCw5
  have hzw5:=hCw5.size
  rw [show ((stC (y.put (y.many%64) ((b.drop p).take (min (n_b-p) (64-(y.many%64)))) (by simp;omega))).set 73 (vQ (y.many+min (n_b-p) (64-(y.many%64)))):List Value)=stC ((y.put (y.many%64) ((b.drop p).take (min (n_b-p) (64-(y.many%64)))) (by simp;omega)).setMany (y.many+min (n_b-p) (64-(y.many%64))) (by omega)) from znV (by omega)] at hBw5
  refine zf (zb (ze (zd (zc 2 [(30,(vI (min (n_b-p) (64-(y.many%64))))),(29,(.slice ad (n_b-p) (c_b-p)))] ?_))))
  obtain ⟨a1,hR1,hS1⟩:=((hBs.chg hCw4).chg hCw5).slice Tryz.prog 23 5 (min (n_b-p) (64-(y.many%64))) (n_b-p) (c_b-p) (some (vI (min (n_b-p) (64-(y.many%64))))) none none
  refine za (zaM (Instr.sliceAt 23 (.slice ad (n_b-p) (c_b-p)) (some (vI (min (n_b-p) (64-(y.many%64))))) none none) (.slice a1 (n_b-p-(min (n_b-p) (64-(y.many%64)))) (c_b-p-(min (n_b-p) (64-(y.many%64))))) (hR1 _) ?_)
  refine zc 1 [(1,(.slice a1 (n_b-p-(min (n_b-p) (64-(y.many%64)))) (c_b-p-(min (n_b-p) (64-(y.many%64))))))] (zf (zb (ze (zd (zc 2 [(33,(vI (min (n_b-p) (64-(y.many%64))))),(32,(vI (y.many%64)))] (za (zo (some 34) .i64 (IntKind.i64.wrap (((y.many%64:Nat):Int)+((min (n_b-p) (64-(y.many%64)):Nat):Int))) (y.many%64+(min (n_b-p) (64-(y.many%64)))) (zu) ?_)))))))
  refine za (zF (some 35) ((((y.many%64+(min (n_b-p) (64-(y.many%64))):Nat):Int)==((64:Nat):Int))) (fun hc35=> ?_) (fun hc35=> ?_))
  ·replace hc35:y.many%64+(min (n_b-p) (64-(y.many%64)))=64:=by have:=zbJ hc35;omega
   refine zf (zb (zv (zd (zc 1 [(36,(vP w.heap.size 1))] (za (zT w.heap.size 1 (hBw5.at 1 (w8C ((y.put (y.many%64) ((b.drop p).take (min (n_b-p) (64-(y.many%64)))) (by simp;omega)).setMany (y.many+min (n_b-p) (64-(y.many%64))) (by omega)).h) (zuc _)) (zbN _) ?_))))))
   refine zc 1 [(38,(vP w.heap.size 9))] (za (zT w.heap.size 9 (hBw5.at 9 (zdR ((y.put (y.many%64) ((b.drop p).take (min (n_b-p) (64-(y.many%64)))) (by simp;omega)).setMany (y.many+min (n_b-p) (64-(y.many%64))) (by omega)).rb) (zsQ _)) (zlK _) ?_))
   have hK1:=(((hg2.ext hEl).chg hCw4).chg hCw5)
   refine za (zp (zrv (((y.put (y.many%64) ((b.drop p).take (min (n_b-p) (64-(y.many%64)))) (by simp;omega)).setMany (y.many+min (n_b-p) (64-(y.many%64))) (by omega)).h) (((y.put (y.many%64) ((b.drop p).take (min (n_b-p) (64-(y.many%64)))) (by simp;omega)).setMany (y.many+min (n_b-p) (64-(y.many%64))) (by omega)).rb) _ hK1) ?_)
   rintro _ w6 ⟨rfl,hEw6⟩
   have hzw6:=hEw6.size
   refine zc 1 [(41,(vP w.heap.size 1))] (za (zG 168 w.heap.size 1 193 (vA (w8C (zeW (((y.put (y.many%64) ((b.drop p).take (min (n_b-p) (64-(y.many%64)))) (by simp;omega)).setMany (y.many+min (n_b-p) (64-(y.many%64))) (by omega)).h) (((y.put (y.many%64) ((b.drop p).take (min (n_b-p) (64-(y.many%64)))) (by simp;omega)).setMany (y.many+min (n_b-p) (64-(y.many%64))) (by omega)).rb).l))) (stC ((y.put (y.many%64) ((b.drop p).take (min (n_b-p) (64-(y.many%64)))) (by simp;omega)).setMany (y.many+min (n_b-p) (64-(y.many%64))) (by omega))) (w8C (zeW (((y.put (y.many%64) ((b.drop p).take (min (n_b-p) (64-(y.many%64)))) (by simp;omega)).setMany (y.many+min (n_b-p) (64-(y.many%64))) (by omega)).h) (((y.put (y.many%64) ((b.drop p).take (min (n_b-p) (64-(y.many%64)))) (by simp;omega)).setMany (y.many+min (n_b-p) (64-(y.many%64))) (by omega)).rb).l)) (hBw5.ext hEw6) (by rw [zbN];kernel_rfl) (by first |(simp;done)|(simp;omega)) (zdN _) ?_))
   intro w7 hBw7 hCw7
   have hzw7:=hCw7.size
   rw [show (zV (stC ((y.put (y.many%64) ((b.drop p).take (min (n_b-p) (64-(y.many%64)))) (by simp;omega)).setMany (y.many+min (n_b-p) (64-(y.many%64))) (by omega))) 1 (w8C (zeW (((y.put (y.many%64) ((b.drop p).take (min (n_b-p) (64-(y.many%64)))) (by simp;omega)).setMany (y.many+min (n_b-p) (64-(y.many%64))) (by omega)).h) (((y.put (y.many%64) ((b.drop p).take (min (n_b-p) (64-(y.many%64)))) (by simp;omega)).setMany (y.many+min (n_b-p) (64-(y.many%64))) (by omega)).rb).l)):List Value)=stC (((y.put (y.many%64) ((b.drop p).take (min (n_b-p) (64-(y.many%64)))) (by simp;omega)).setMany (y.many+min (n_b-p) (64-(y.many%64))) (by omega)).setH (zeW (((y.put (y.many%64) ((b.drop p).take (min (n_b-p) (64-(y.many%64)))) (by simp;omega)).setMany (y.many+min (n_b-p) (64-(y.many%64))) (by omega)).h) (((y.put (y.many%64) ((b.drop p).take (min (n_b-p) (64-(y.many%64)))) (by simp;omega)).setMany (y.many+min (n_b-p) (64-(y.many%64))) (by omega)).rb).l)) from zmH] at hBw7
   refine zf (zi (zz ?_))
   rw [show n_b-p-(min (n_b-p) (64-(y.many%64)))=n_b-(p+min (n_b-p) (64-(y.many%64))) from by omega,show c_b-p-(min (n_b-p) (64-(y.many%64)))=c_b-(p+min (n_b-p) (64-(y.many%64))) from by omega]
   have hK2:=((((hB4.chg hCw4).chg hCw5).ext hEw6).chg hCw7)
   have hX1:Ext w w7:=(Ext.own ((Ext.own (Ext.own hEl hCw4 (by omega)) hCw5 (by omega)).trans hEw6) hCw7 (by omega))
   refine zL (p+min (n_b-p) (64-(y.many%64)),(((y.put (y.many%64) ((b.drop p).take (min (n_b-p) (64-(y.many%64)))) (by simp;omega)).setMany (y.many+min (n_b-p) (64-(y.many%64))) (by omega)).setH (zeW (((y.put (y.many%64) ((b.drop p).take (min (n_b-p) (64-(y.many%64)))) (by simp;omega)).setMany (y.many+min (n_b-p) (64-(y.many%64))) (by omega)).h) (((y.put (y.many%64) ((b.drop p).take (min (n_b-p) (64-(y.many%64)))) (by simp;omega)).setMany (y.many+min (n_b-p) (64-(y.many%64))) (by omega)).rb).l)),a1) ?_ ?_
   ·exact ⟨by omega,by rw [List.take_add,←List.append_assoc];exact hsm.full (a:=y.many%64) (n:=min (n_b-p) (64-(y.many%64))) (by omega) (by simp;omega) (by omega) _ _,by have hz:=((hS1.ext hEw6).chg hCw7);rw [show n_b-p-(min (n_b-p) (64-(y.many%64)))=n_b-(p+min (n_b-p) (64-(y.many%64))) from by omega,show c_b-p-(min (n_b-p) (64-(y.many%64)))=c_b-(p+min (n_b-p) (64-(y.many%64))) from by omega,List.take_of_length_le (by simp;omega),List.drop_drop] at hz;exact hz,hBw7,hK2,hX1⟩
   ·first | omega |(dsimp only;omega)
  ·replace hc35:¬(y.many%64+(min (n_b-p) (64-(y.many%64)))=64):=by have:=zbI hc35;omega
   refine zf (zb (zh (zk (zi (zz ?_)))))
   rw [show n_b-p-(min (n_b-p) (64-(y.many%64)))=n_b-(p+min (n_b-p) (64-(y.many%64))) from by omega,show c_b-p-(min (n_b-p) (64-(y.many%64)))=c_b-(p+min (n_b-p) (64-(y.many%64))) from by omega]
   refine zL (p+min (n_b-p) (64-(y.many%64)),((y.put (y.many%64) ((b.drop p).take (min (n_b-p) (64-(y.many%64)))) (by simp;omega)).setMany (y.many+min (n_b-p) (64-(y.many%64))) (by omega)),a1) ?_ ?_
   ·exact ⟨by omega,by rw [List.take_add,←List.append_assoc];exact hsm.part (a:=y.many%64) (n:=min (n_b-p) (64-(y.many%64))) (by omega) (by simp;omega) (by omega) _ _,by have hz:=hS1;rw [show n_b-p-(min (n_b-p) (64-(y.many%64)))=n_b-(p+min (n_b-p) (64-(y.many%64))) from by omega,show c_b-p-(min (n_b-p) (64-(y.many%64)))=c_b-(p+min (n_b-p) (64-(y.many%64))) from by omega,List.take_of_length_le (by simp;omega),List.drop_drop] at hz;exact hz,hBw5,((hB4.chg hCw4).chg hCw5),(Ext.own (Ext.own hEl hCw4 (by omega)) hCw5 (by omega))⟩
   ·first | omega |(dsimp only;omega)
 ·replace hc13:¬(n_b-p>0):=by have:=zad hc13;omega
  refine zf (zb (zh (zP (zq (zq (zH (zb (ze (zd ?_)))))))))
  refine za (zT w.heap.size 0 (hB2.all) (zco _) ?_)
  refine za (zG 193 w1.heap.size 0 193 (vA (stC y)) (stC Sta.zero) (stC y) hB4 (by rw [zco];kernel_rfl) (by first |(simp;done)|(simp;omega)) (zeX _) ?_)
  intro w8 hBw8 hCw8
  have hzw8:=hCw8.size
  rw [zy _ _ (by simp)] at hBw8
  refine zf (zb (zj (zaJ (show zX Tryz.prog 43 _ _ (.cell 4 193) (vA (stC y)) from ⟨⟨w1.heap.size,0,none⟩,(by kernel_rfl),zI (T:=193) (vs:=stC y) (hBw8).all (by rw [zco];kernel_rfl)⟩) ?_)))
  obtain rfl:p=n_b:=by omega
  rw [List.take_of_length_le (by omega)] at hsm
  exact ⟨y,rfl,hsm,(Ext.own hEl hCw8 (by omega))⟩
end Go.Proofs.YtkmhgepdhilllaaGreatDoor
namespace Go.Proofs.YtkmhgepdhilllaaGreatDoor
open Go Go.RowKit Go.Cs
set_option maxRecDepth 100000
theorem zug (s:Sta) (l:List UInt8) (w:World) (hp0:Sm s l) (hp1:l.length<1099511627776) (hg2:Gl 3 (zay kA) w):
  Calls Tryz.prog 121 #[(vA (stC s))] w (Ret fun r w'=>r=(vA (zR (zS l)))∧Ext w w'):=by
 refine zD (n:=37) (σ:= [(0,(vA (stC s)))]) Tryz.func121 rfl ?_
 have hgl2:=hg2.lt
 have hs0:s.many=l.length:=hp0.many
 refine ze (zd (za (zaa (Instr.box 193 (vA (stC s))) (vP w.heap.size 0) (stC s) 193 ?_)))
 intro w1 hBw1 hEw1 hzw1 hlw1
 refine za (zaf (zR Dig.zero) 59 ?_)
 intro w2 hBw2 hEw2 hzw2 hlw2
 refine zf (zb (ze (zd (zc 1 [(6,(vP w.heap.size 73))] (za (zm w.heap.size 73 ((hBw1.ext hEw2).cell (zhX _)) ?_))))))
 refine zc 1 [(3,(vQ s.many))] (zf (zb (ze (zd (za (zT w.heap.size 0 ((hBw1.ext hEw2).all) (zco _) ?_))))))
 refine za (zaa (Instr.buildSlice 23 1 #[(0,(vB 128))]) (.slice (pA w2.heap.size 0) 1 1) [(vB 128)] 5 ?_)
 intro w3 hBw3 hEw3 hzw3 hlw3
 have hSw3:Bs w2.heap.size (w2.heap.size+1) w3 (pA w2.heap.size 0) 1 1 [128]:=Bs.of_blk hBw3 (by kernel_rfl) rfl (Nat.le_refl _) (by decide) (Nat.le_refl _) (Nat.lt_succ_self _)
 have hK1:=(((hg2.ext hEw1).ext hEw2).ext hEw3)
 refine za (zp (zhQ s l _ hSw3 (hp0) (by first | omega |(simp;omega)) hK1) ?_)
 rintro _ w4 ⟨a1,rfl,hFz1_0,hEw4⟩
 have hzw4:=hEw4.size
 have hK2:=(((hBw1.ext hEw2).ext hEw3).ext hEw4)
 refine za (zG 193 w.heap.size 0 193 (vA (stC a1)) (stC s) (stC a1) hK2 (by rw [zco];kernel_rfl) (by first |(simp;done)|(simp;omega)) (zeX _) ?_)
 have hK3:=(((hBw1.ext hEw2).ext hEw3).ext hEw4)
 intro w5 hBw5 hCw5
 have hzw5:=hCw5.size
 rw [zy _ _ (by simp)] at hBw5
 refine zf (zb (ze (zr ?_)))
 have hK4:=(((hBw2.ext hEw3).ext hEw4).chg hCw5)
 have hX1:Ext w w5:=(Ext.own (((hEw1.trans hEw2).trans hEw3).trans hEw4) hCw5 (by omega))
 refine zU (X:=Nat×Sta) (fun ⟨z,y⟩=> []) [11,12,13,14,15,16,17] (fun ⟨z,y⟩ w6=>z≤zdm l.length∧Sm y (l++ [128]++List.replicate z 0)∧Blk w6 w.heap.size (stC y) 193∧Blk w6 w1.heap.size (zR Dig.zero) 59∧Ext w w6) (fun ⟨z,y⟩=>zdm l.length-z) (0,a1) (by kernel_rfl) ⟨Nat.zero_le _,by rw [List.replicate_zero,List.append_nil];exact hFz1_0,hBw5,hK4,hX1⟩ ?_
 rintro ⟨z,y⟩ dw6 w6 ⟨hz,hsm,hB1,hB2,hEl⟩
 have hzl:=hEl.size
 have hl1:=hB1.lt;have hl2:=hB2.lt
 have hmy:y.many=l.length+1+z:=hsm.many.trans (by simp;omega)
 have hpz:zdm l.length=(119-l.length%64)%64:=rfl
 refine ze (ze (zd (zc 1 [(11,(vP w.heap.size 73))] (za (zm w.heap.size 73 (hB1.cell (zhX _)) ?_)))))
 refine za (zo (some 13) .u64 (((y.many:Nat):Int).tmod ((64:Nat):Int)) (y.many%64) (zcZ _ _) ?_)
 refine za (zF (some 14) ((((y.many%64:Nat):Int) !=((56:Nat):Int))) (fun hc14=> ?_) (fun hc14=> ?_))
 ·replace hc14:¬(y.many%64=56):=by have:=zbV hc14;omega
  refine zf (zb (zv (zk (zb (zr (zd (za (zT w.heap.size 0 (hB1.all) (zco _) ?_))))))))
  refine za (zaa (Instr.buildSlice 23 1 #[(0,(vB 0))]) (.slice (pA w6.heap.size 0) 1 1) [(vB 0)] 5 ?_)
  intro w7 hBw7 hEw7 hzw7 hlw7
  have hSw7:Bs w6.heap.size (w6.heap.size+1) w7 (pA w6.heap.size 0) 1 1 [0]:=Bs.of_blk hBw7 (by kernel_rfl) rfl (Nat.le_refl _) (by decide) (Nat.le_refl _) (Nat.lt_succ_self _)
  refine za (zp (zhQ y (l++ [128]++List.replicate z 0) _ hSw7 (hsm) (by first | omega |(simp;omega)) ((hg2.ext hEl).ext hEw7)) ?_)
  rintro _ w8 ⟨a2,rfl,hFz2_0,hEw8⟩
  have hzw8:=hEw8.size
  refine za (zG 193 w.heap.size 0 193 (vA (stC a2)) (stC y) (stC a2) ((hB1.ext hEw7).ext hEw8) (by rw [zco];kernel_rfl) (by first |(simp;done)|(simp;omega)) (zeX _) ?_)
  intro w9 hBw9 hCw9
  have hzw9:=hCw9.size
  rw [zy _ _ (by simp)] at hBw9
  refine zf (zi (zz ?_))
  have hK5:=(((hB2.ext hEw7).ext hEw8).chg hCw9)
  have hX2:Ext w w9:=(Ext.own ((hEl.trans hEw7).trans hEw8) hCw9 (by omega))
  refine zL (z+1,a2) ?_ ?_
  ·exact ⟨by omega,by have hz:=hFz2_0;rw [List.append_assoc] at hz;rw [List.replicate_succ'];exact hz,hBw9,hK5,hX2⟩
  ·first | omega |(dsimp only;omega)
 ·replace hc14:y.many%64=56:=by have:=zbS hc14;omega
  refine zf (zb (zh (zP (zq (zq (zH (zb (ze (zab 6 (fun w10 hEw10 hzw10 hT92=> ?_))))))))))
  refine zan hT92 0 w.heap.size 0 (fun w' hC=>(((hB1.ext hEw10).ext hC).all)) (zco _) (zg hT92 [(1,19,(vQ s.many))] 1 (zn hT92 2 (vQ (8*l.length%2^64)) (zY .u64 (IntKind.u64.wrap (((8:Nat):Int)*((s.many:Nat):Int))) (by rw [hs0];exact zcj rfl (by simp))) (zx 3 (zp (zmw (8*l.length%2^64) _) ?_))))
  rintro _ w11 ⟨a3,rfl,hFz3_0,hEw11⟩
  have hzw11:=hEw11.size
  refine ⟨.inr hEw11, ?_⟩
  have hK6:=(((hg2.ext hEl).ext hEw10).ext hEw11)
  refine zx 4 (zp (zhQ y (l++ [128]++List.replicate z 0) _ hFz3_0 (hsm) (by first | omega |(simp;omega)) hK6) ?_)
  rintro _ w12 ⟨a4,rfl,hFz4_0,hEw12⟩
  have hzw12:=hEw12.size
  have hX3:Ext w10 w12:=(hEw11.trans hEw12)
  refine ⟨.inr hX3, ?_⟩
  have hK7:=(((hB1.ext hEw10).ext hEw11).ext hEw12)
  refine zx 5 (zG 193 w.heap.size 0 193 (vA (stC a4)) (stC y) (stC a4) hK7 (by rw [zco];kernel_rfl) (by first |(simp;done)|(simp;omega)) (zeX _) ?_)
  have hK8:=(((hB1.ext hEw10).ext hEw11).ext hEw12)
  intro w13 hBw13 hCw13
  have hzw13:=hCw13.size
  rw [zy _ _ (by simp)] at hBw13
  refine ⟨.inl (by kernel_rfl), ?_⟩
  refine zE (zb (ze (ze (zd (zc 1 [(23,(vP w.heap.size 1))] (za (zT w.heap.size 1 (hBw13.at 1 (w8C a4.h) (zuc _)) (zbN _) ?_)))))))
  refine zc 1 [(25,(vI 0))] (zf (zb (zr ?_)))
  obtain rfl:z=zdm l.length:=by omega
  have hfin:a4.h=zd8 (zch l) ((zch l).length/64):=by exact (show Sm _ (zch l) from hFz4_0).h
  generalize hH:a4.h=H at hfin⊢
  have hK9:=((((hB2.ext hEw10).ext hEw11).ext hEw12).chg hCw13)
  have hX4:Ext w w13:=(Ext.own (((hEl.trans hEw10).trans hEw11).trans hEw12) hCw13 (by omega))
  refine zU (X:=Nat) (fun i=> [(25,(vI i))]) [4,5,26,27,28,29,30,31,32,33,34,35] (fun i w14=>i≤8∧Blk w14 w1.heap.size (u8s (dgP H i)) 59∧Ext w w14) (fun i=>8-i) 0 (by kernel_rfl) ⟨by omega,(zk8 H).symm▸hK9,hX4⟩ ?_
  rintro i dw14 w14 ⟨hi,hBd,hEm⟩
  have hzm:=hEm.size
  have hld:=hBd.lt
  have hdl:=zjE H hi
  refine ze (zd (za (zF (some 26) (decide (((i:Nat):Int)<((8:Nat):Int))) (fun hc26=> ?_) (fun hc26=> ?_))))
  ·replace hc26:i<8:=by have:=zac hc26;omega
   refine zf (zb (ze (zv (zk (zb (ze (zr (ze (zd ?_)))))))))
   refine zc 1 [(27,(vI i))] (za (zaM (Instr.index 168 (vA (w8C H)) (vI i)) (vW ((H.get i).toNat)) (zhG (E:=53) (m:=8) (by omega) (zrd (by omega))) ?_))
   refine zc 2 [(5,(vW ((H.get i).toNat))),(4,(vI i))] (zf (zb (zbD (fun k=>k=w1.heap.size) 6 (fun w15 hEw15 hzw15 hT153=> ?_))))
   have hX5:Chg (fun k=>k=w1.heap.size) w15 w15:=(Chg.refl (fun k=>k=w1.heap.size) w15)
   refine zg (hw:=hX5) hT153 [(0,29,(vI i))] 1 (zn (hw:=hX5) hT153 1 (vI (4*i)) (zY .i64 (IntKind.i64.wrap (((4:Nat):Int)*((i:Nat):Int))) (zu)) (zn (hw:=hX5) hT153 2 (.slice (pA w1.heap.size (0+(4*i)*1)) (32-(4*i)) (32-(4*i))) (zag (Instr.sliceAt 59 (vP w1.heap.size 0) (some (vI (4*i))) none none) (fun w' hC=>zju (len:=32) (E:=5) (sz:=1) (l:=4*i) (r:=32) (m:=32) (.inr ⟨_,rfl⟩) (.inl ⟨rfl,rfl⟩) (.inl ⟨rfl,rfl⟩) (by simp) (by omega) (by omega) (by omega) (by omega))) (zg (hw:=hX5) hT153 [(3,32,(vW ((H.get i).toNat)))] 1 (zx 4 (zp (zfM ((H.get i).toNat) _ (UInt32.toNat_lt _)) ?_)))))
   rintro _ w16 ⟨a5,rfl,hFz5_0,hEw16⟩
   have hzw16:=hEw16.size
   have hX6:Chg (fun k=>k=w1.heap.size) w15 w16:=((Chg.refl (fun k=>k=w1.heap.size) w15).trans hEw16.chg)
   refine ⟨.inr hX6, ?_⟩
   refine zx 5 (zhH (a:=(pA w1.heap.size (0+(4*i)*1))) (dl:=32-(4*i)) (dc:=32-(4*i)) (some 34) 23 23 3 5 w1.heap.size (i*4) ((hBd.ext hEw15).ext hEw16) (fun _=>by rw [Nat.zero_add,Nat.mul_one,Nat.mul_comm]) (by rw [za6,hdl];omega) hFz5_0.es (fun _=>rfl) ?_)
   intro w17 hBw17 hCw17
   have hzw17:=hCw17.size
   rw [show zV (u8s (dgP H i)) (i*4) (((be ((H.get i).toNat) 4).take (min 4 (32-(4*i)))).map u8v)=u8s (dgP H (i+1)) from by rw [show min 4 (32-(4*i))=4 from by omega,List.take_of_length_le (by simp)];exact zqq (by omega)] at hBw17
   have hX7:Chg (fun k=>k=w1.heap.size) w15 w17:=(Chg.then ((Chg.refl (fun k=>k=w1.heap.size) w15).trans hEw16.chg) hCw17 (fun k hk hs=>by have h:k=_:=hs;first | exact hs | exact .inl h | exact .inr h |(exfalso;omega)))
   refine ⟨.inr hX7, ?_⟩
   refine zE (zi (zb (zd (za (zo (some 35) .i64 (IntKind.i64.wrap (((i:Nat):Int)+((1:Nat):Int))) (i+1) (zu) ?_)))))
   refine zc 1 [(25,(vI (i+1)))] (zf (zz ?_))
   have hX8:Ext w w17:=(Ext.own ((hEm.trans hEw15).trans hEw16) hCw17 (by omega))
   refine zL (i+1) ?_ ?_
   ·exact ⟨by omega,hBw17,hX8⟩
   ·first | omega |(dsimp only;omega)
  ·replace hc26:¬(i<8):=by have:=zad hc26;omega
   refine zf (zb (ze (zh (zP (zq (zq (zH (zb (ze ?_)))))))))
   refine zd ?_
   obtain rfl:i=8:=by omega
   have hBe:Blk w14 w1.heap.size (zR (zS l)) 59:=by have hq:=hBd;rw [hfin,zmK] at hq;exact hq
   refine za (zT w1.heap.size 0 hBe.all (zam _) ?_)
   refine za (zG 59 w1.heap.size 0 59 (vA (zR (zS l))) (zR (zS l)) (zR (zS l)) hBe (by rw [zam];kernel_rfl) (by first |(simp;done)|(simp;omega)) (zbW _) ?_)
   intro w18 hBw18 hCw18
   have hzw18:=hCw18.size
   rw [zy _ _ (by simp)] at hBw18
   exact zf (zb (zj (zaJ (show zX Tryz.prog 37 _ _ (.cell 2 59) (vA (zR (zS l))) from ⟨⟨w1.heap.size,0,none⟩,(by kernel_rfl),zI (T:=59) (vs:=zR (zS l)) (hBw18).all (by rw [zam];kernel_rfl)⟩) (⟨rfl,(Ext.own hEm hCw18 (by omega))⟩))))
theorem zuQ {lo_ls hi_ls:Nat} {a_ls:Option Addr} {n_ls c_ls:Nat} {v_ls:List Value} {ls:List (List UInt8)} (w:World) (h_ls:Ps lo_ls hi_ls w a_ls n_ls c_ls v_ls ls) (hp0:zW ls<1099511627776) (hg1:Gl 1 (w8C zbp) w) (hg2:Gl 3 (zay kA) w):
  Calls Tryz.prog 90 #[(.slice a_ls n_ls c_ls)] w (Ret fun r w'=>r=(vA (zR (zS ls.flatten)))∧Ext w w'):=by
 refine zD (n:=19) (σ:= [(0,(.slice a_ls n_ls c_ls))]) Tryz.func90 rfl ?_
 replace h_ls:=h_ls.now;have hle_ls:=h_ls.le
 have hgl1:=hg1.lt
 have hgl2:=hg2.lt
 refine ze (zd (za (zaf (zR Dig.zero) 59 ?_)))
 intro w1 hBw1 hEw1 hzw1 hlw1
 refine zf (zb (ze (zd (za (zp (zve _ (hg1.ext hEw1)) ?_)))))
 rintro _ w2 ⟨rfl,hEw2⟩
 have hzw2:=hEw2.size
 refine zal (stC Sta.new) 193 (zco _) (zeX _) ?_
 intro w3 hBw3 hEw3 hzw3 hlw3
 refine zf (zb (ze (ze (zd (zc 3 [(9,(vI 0)),(8,(vI n_ls)),(7,(.slice a_ls n_ls c_ls))] (zf (zb (zr (zU (X:=Nat×Sta) (fun ⟨i,y⟩=> [(9,(vI i))]) [5,10,11,12,13,14,15,16] (fun ⟨i,y⟩ w4=>i≤n_ls∧Sm y (ls.take i).flatten∧Blk w4 w2.heap.size (stC y) 193∧Blk w4 w.heap.size (zR Dig.zero) 59∧Ext w w4) (fun ⟨i,y⟩=>n_ls-i) (0,Sta.new) (by kernel_rfl) ⟨by omega,Sm.new,hBw3,((hBw1.ext hEw2).ext hEw3),((hEw1.trans hEw2).trans hEw3)⟩ ?_)))))))))
 rintro ⟨i,y⟩ dw4 w4 ⟨hi,hsm,hB3,hB2,hEl⟩
 have hzl:=hEl.size
 have hl3:=hB3.lt;have hl2:=hB2.lt
 have hlen:=h_ls.len_eq
 have hsl:=zeH ls i
 have hsl1:=zeH ls (i+1)
 have hfl:=zeg (ls.take i)
 refine ze (zd (za (zF (some 10) (decide (((i:Nat):Int)<((n_ls:Nat):Int))) (fun hc10=> ?_) (fun hc10=> ?_))))
 ·replace hc10:i<n_ls:=by have:=zac hc10;omega
  refine zf (zb (ze (zv (zk (zb (ze (zr (ze (zd ?_)))))))))
  obtain ⟨b1,o1,rfl⟩:=h_ls.addr (by omega)
  refine za (zah b1 o1 n_ls c_ls i 1 ?_)
  obtain ⟨a1,n1,cp1,hP1,hS1⟩:=((h_ls.ext hEl)).cell (i:=i) (by omega)
  have hlehS1:=hS1.le;have hlnhS1:=hS1.len_eq;have hsthS1:=zff (ls:=ls) (i:=i) (by omega)
  refine za (zm b1 (o1+i*1) hP1 ?_)
  refine zc 1 [(5,(.slice a1 n1 cp1))] (zf (zb (zd (za (zT w2.heap.size 0 (hB3.all) (zco _) ?_)))))
  refine zc 1 [(14,(.slice a1 n1 cp1))] (za (zp (zhQ y ((ls.take i).flatten) _ hS1 (hsm) (by first | omega | decide) (hg2.ext hEl)) ?_))
  rintro _ w5 ⟨a2,rfl,hFz2_0,hEw5⟩
  have hzw5:=hEw5.size
  refine za (zG 193 w2.heap.size 0 193 (vA (stC a2)) (stC y) (stC a2) (hB3.ext hEw5) (by rw [zco];kernel_rfl) (by first |(simp;done)|(simp;omega)) (zeX _) ?_)
  intro w6 hBw6 hCw6
  have hzw6:=hCw6.size
  rw [zy _ _ (by simp)] at hBw6
  refine zf (zi (zb (zd (za (zo (some 16) .i64 (IntKind.i64.wrap (((i:Nat):Int)+((1:Nat):Int))) (i+1) (zu) ?_)))))
  refine zc 1 [(9,(vI (i+1)))] (zf (zz (zL (i+1,a2) ?_ ?_)))
  ·exact ⟨by omega,by rw [zhd (by omega)];exact hFz2_0,hBw6,((hB2.ext hEw5).chg hCw6),(Ext.own (hEl.trans hEw5) hCw6 (by omega))⟩
  ·first | omega |(dsimp only;omega)
 ·replace hc10:¬(i<n_ls):=by have:=zad hc10;omega
  obtain rfl:i=n_ls:=by omega
  rw [List.take_of_length_le (by omega)] at hsm hfl
  refine zf (zb (ze (zh (zP (zq (zq (zH (zb (ze ?_)))))))))
  refine zd (za (zT w2.heap.size 0 (hB3.all) (zco _) ?_))
  refine za (zp (zug y ls.flatten _ (hsm) (by first | omega | decide) (hg2.ext hEl)) ?_)
  rintro _ w7 ⟨rfl,hEw7⟩
  have hzw7:=hEw7.size
  refine za (zG 59 w.heap.size 0 59 (vA (zR (zS ls.flatten))) (zR Dig.zero) (zR (zS ls.flatten)) (hB2.ext hEw7) (by rw [zam];kernel_rfl) (by first |(simp;done)|(simp;omega)) (zbW _) ?_)
  intro w8 hBw8 hCw8
  have hzw8:=hCw8.size
  rw [zy _ _ (by simp)] at hBw8
  exact zf (zb (zj (zaJ (show zX Tryz.prog 19 _ _ (.cell 2 59) (vA (zR (zS ls.flatten))) from ⟨⟨w.heap.size,0,none⟩,(by kernel_rfl),zI (T:=59) (vs:=zR (zS ls.flatten)) (hBw8).all (by rw [zam];kernel_rfl)⟩) (⟨rfl,(Ext.own (hEl.trans hEw7) hCw8 (by omega))⟩))))
end Go.Proofs.YtkmhgepdhilllaaGreatDoor
