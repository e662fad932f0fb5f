/- Lemmas and walks: what each function does, by its own code. No condition beyond those of each statement. -/
import Derived.Test.YtkmhgepdhilllaaGreatDoorT2
import Derived.Test.YtkmhgepdhilllaaGreatDoorProg
set_option linter.all false
set_option linter.unusedVariables false
namespace Go.Proofs.YtkmhgepdhilllaaGreatDoor
open Go Go.RowKit Go.Cs
set_option maxRecDepth 100000
theorem zsh (v:Nat) (sz:Nat) (w:World) (hp0:sz≤8):
  Calls Tryz.prog 132 #[(vQ v),(vI sz)] w (Ret fun r w'=>∃a0,r=(.slice a0 sz sz)∧Bs w.heap.size w'.heap.size w' a0 sz sz (be v sz)∧Ext w w'):=by
 refine zw (n:=26) (σ:= [(0,(vQ v)),(1,(vI sz))]) Tryz.func132 rfl ?_
 refine wsr (zb 1 [(4,(.slice none 0 0))] (zz (zb 1 [(7,(vI sz))] (za (zb8 (some 8) 23 5 1 1 sz sz .i64 .i64 (vB 0) (by omega) (by omega) (by omega) ?_)))))
 rw [zdy _ rfl]
 intro w1 hBw1 hEw1
 have hzw1:=hEw1.size;have hlw1:=hBw1.lt
 have hSw1:Bs w.heap.size (w.heap.size+1) w1 (pA w.heap.size 0) sz sz (List.replicate sz 0):=Bs.of_blk hBw1 (zfA _) (by simp) (Nat.le_refl _) (by simp only [maxLen];omega) (Nat.le_refl _) (Nat.lt_succ_self _)
 refine zb 1 [(5,(.slice (pA w.heap.size 0) sz sz))] (zM (zb 2 [(10,(vI 0)),(9,(vI sz))] (wEt (zp ?_))))
 refine zU (X:=Nat) (fun i=> [(10,(vI i))]) [6,11,12,13,14,15,16,17,18,19,20,21,22,23,24] (fun i w2=>i≤sz∧Blk w2 w.heap.size (u8s (zdj sz (fun j=>decide (sz-1-j<i)) fun j=>UInt8.ofNat (v/256^(sz-1-j)))) 5∧Ext w w2) (fun i=>sz-i) 0 (by kernel_rfl) ⟨by omega,(by rw [zhR _ _ _ (by intro j hj;simp)];rw [←zfA];exact hBw1),hEw1⟩ ?_
 rintro i dw2 w2 ⟨hi,hBl,hEl⟩
 have hzl:=hEl.size;have hll:=hBl.lt
 refine wsr (za (zag 11 i sz (fun hc11=> ?_) (fun hc11=> ?_)))
 ·refine wEt (zd (zk (zl (zc (zd (zp (wsr ?_)))))))
  refine zb 2 [(6,(vI i)),(12,(vI i))] (zdx (zb 2 [(14,(vI sz)),(13,(.slice (pA w.heap.size 0) sz sz))] (za (zb5 15 sz 1 (sz-1) ?_))))
  refine zb 1 [(16,(vI i))] (za (zb5 17 (sz-1) i (sz-1-i) ?_))
  refine zb 2 [(19,(vI i)),(18,(vQ v))] (za (zcg 20 8 i (8*i) ?_))
  refine za (zaN (do eqGuard .shr 54 (.tmp 18) (.tmp 20) (.int .u64 ((v:Nat):Int)) (.int .i64 ((8*i:Nat):Int));binOp .shr 54 (.int .u64 ((v:Nat):Int)) (.int .i64 ((8*i:Nat):Int))) (vQ (v/2^(8*i))) (zjV (by show _≤64;omega)) ?_)
  refine za (zae (some 22) .u8 (IntKind.u8.wrap ((v/2^(8*i):Nat):Int)) ((v/2^(8*i))%2^8) (zcz rfl rfl) ?_)
  refine za (zan w.heap.size 0 sz sz (sz-1-i) 1 ?_)
  refine za (zah 5 w.heap.size (0+(sz-1-i)*1) 5 (vB ((v/2^(8*i))%2^8)) (u8s (zdj sz (fun j=>decide (sz-1-j<i)) fun j=>UInt8.ofNat (v/256^(sz-1-j)))) hBl (by simp;omega) ?_)
  intro w3 hBw3 hCw3
  have hzw3:=hCw3.size
  rw [show ((u8s (zdj sz (fun j=>decide (sz-1-j<i)) fun j=>UInt8.ofNat (v/256^(sz-1-j)))).set (0+(sz-1-i)*1) (vB ((v/2^(8*i))%2^8)):List Value)=u8s (zdj sz (fun j=>decide (sz-1-j<i+1)) fun j=>UInt8.ofNat (v/256^(sz-1-j))) from by have hx:=ziR sz (fun j=>decide (sz-1-j<i)) (fun j=>decide (sz-1-j<i+1)) (fun j=>UInt8.ofNat (v/256^(sz-1-j))) (sz-1-i) (UInt8.ofNat (v/2^(8*i))) (by omega) (by first |(rw [zh2];congr 3;omega)|(rw [zlF,show sz-1-(sz-1-i)=i from by omega])) (by intro j hj;by_cases h1:sz-1-j<i+1<;>by_cases h2:sz-1-j<i<;>by_cases h3:j=sz-1-i<;>simp [h1,h2,h3]<;>omega);rw [UInt8.toNat_ofNat'] at hx;first |(simpa only [Nat.zero_add,Nat.mul_one] using hx)|(rw [show v/256^i%256%2^8=v/256^i%256 from by omega] at hx;simpa only [Nat.zero_add,Nat.mul_one] using hx)] at hBw3
  refine zq (zi (zc (zg (za (zJ 24 i 1 (i+1) ?_)))))
  refine zb 1 [(10,(vI (i+1)))] (zq (zn (zG (i+1) ?_ ?_)))
  ·exact ⟨by omega,hBw3,(Ext.own hEl hCw3 (by omega))⟩
  ·first | omega |(dsimp only;omega)
 ·refine wEt (zd (zf (zP (zo (zo (zD (zc (zd ?_))))))))
  refine zg (zb 2 [(4,(.slice (pA w.heap.size 0) sz sz)),(25,(.slice (pA w.heap.size 0) sz sz))] (zF (zh (.slice (pA w.heap.size 0) sz sz) (⟨_,rfl,Bs.of_blk hBl ?_ (by simp) (by omega) (by simp only [maxLen];omega) (by omega) (by omega),hEl⟩))))
  rw [ziZ _ _ _ (by intro j hj;simp;omega)];rfl
theorem zpO (v:Nat) (sz:Nat) (w:World) (hp0:sz≤8) (hp1:v<2^64):
  Calls Tryz.prog 126 #[(vQ v),(vI sz)] w (Ret fun r w'=>∃a0,r=(.slice (pA a0 0) sz sz)∧w.heap.size≤a0∧Blk w' a0 (u8s (be v sz)) 5∧sz=(be v sz).length∧sz≤1099511627776∧Ext w w'):=by
 refine zw (n:=24) (σ:= [(0,(vQ v)),(1,(vI sz))]) Tryz.func126 rfl ?_
 refine wsr (zb 1 [(4,(.slice none 0 0))] (zz (zb 1 [(7,(vI sz))] (za (zb8 (some 8) 23 5 1 1 sz sz .i64 .i64 (vB 0) (by omega) (by omega) (by omega) ?_)))))
 rw [zdy _ rfl]
 intro w1 hBw1 hEw1
 have hzw1:=hEw1.size;have hlw1:=hBw1.lt
 have hSw1:Bs w.heap.size (w.heap.size+1) w1 (pA w.heap.size 0) sz sz (List.replicate sz 0):=Bs.of_blk hBw1 (zfA _) (by simp) (Nat.le_refl _) (by simp only [maxLen];omega) (Nat.le_refl _) (Nat.lt_succ_self _)
 refine zb 1 [(5,(.slice (pA w.heap.size 0) sz sz))] (zM (zb 1 [(9,(vI sz))] (za (zeR (some 10) .i64 (IntKind.i64.wrap (((sz:Nat):Int)-((1:Nat):Int))) ((sz:Int)-1) (zao rfl) ?_))))
 refine zb 1 [(6,(.int .i64 ((sz:Int)-1)))] (wEt (zp (zU (X:=Nat) (fun i=> [(0,(vQ (v/256^i))),(6,(.int .i64 ((sz:Int)-1-(i:Int))))]) [11,12,13,14,15,16,17,18,19,20,21,22] (fun i w2=>i≤sz∧Blk w2 w.heap.size (u8s (zdj sz (fun j=>decide (sz-1-j<i)) fun j=>UInt8.ofNat (v/256^(sz-1-j)))) 5∧Ext w w2) (fun i=>sz-i) 0 (by rw [Nat.pow_zero,Nat.div_one,show (sz:Int)-1-((0:Nat):Int)=(sz:Int)-1 from by omega];kernel_rfl) ⟨by omega,(by rw [zhR _ _ _ (by intro j hj;simp)];rw [←zfA];exact hBw1),hEw1⟩ ?_)))
 rintro i dw2 w2 ⟨hi,hBl,hEl⟩
 have hzl:=hEl.size;have hll:=hBl.lt
 refine zd (wsr (zb 1 [(11,(.int .i64 ((sz:Int)-1-(i:Int))))] (za (zcD (some 12) (decide ((sz:Int)-1-(i:Int)≥((0:Nat):Int))) (fun hc=> ?_) (fun hc=> ?_)))))
 ·replace hc:i<sz:=by have:=zfl hc;omega
  have hidx:(sz:Int)-1-(i:Int)=((sz-1-i:Nat):Int):=by omega
  refine wEt (zk (zl (zc (zd (zp (wsr (zb 3 [(17,(vQ (v/256^i))),(16,(.int .i64 ((sz:Int)-1-(i:Int)))),(15,(.slice (pA w.heap.size 0) sz sz))] ?_)))))))
  refine za (zae (some 18) .u64 (((v/256^i:Nat):Int).tmod ((256:Nat):Int)) ((v/256^i)%256) (zcX _ _) ?_)
  refine za (zae (some 19) .u8 (IntKind.u8.wrap (((v/256^i)%256:Nat):Int)) (((v/256^i)%256)%2^8) (zcz rfl rfl) ?_)
  refine za (zaN (Instr.indexAt 23 (.slice (pA w.heap.size 0) sz sz) (.int .i64 ((sz:Int)-1-(i:Int)))) (vP w.heap.size (0+(sz-1-i)*1)) (by rw [hidx];exact zlJ (E:=5) (sz:=1)) ?_)
  refine za (zah 5 w.heap.size (0+(sz-1-i)*1) 5 (vB (((v/256^i)%256)%2^8)) (u8s (zdj sz (fun j=>decide (sz-1-j<i)) fun j=>UInt8.ofNat (v/256^(sz-1-j)))) hBl (by simp;omega) ?_)
  intro w3 hBw3 hCw3
  have hzw3:=hCw3.size
  rw [show ((u8s (zdj sz (fun j=>decide (sz-1-j<i)) fun j=>UInt8.ofNat (v/256^(sz-1-j)))).set (0+(sz-1-i)*1) (vB (((v/256^i)%256)%2^8)):List Value)=u8s (zdj sz (fun j=>decide (sz-1-j<i+1)) fun j=>UInt8.ofNat (v/256^(sz-1-j))) from by have hx:=ziR sz (fun j=>decide (sz-1-j<i)) (fun j=>decide (sz-1-j<i+1)) (fun j=>UInt8.ofNat (v/256^(sz-1-j))) (sz-1-i) (UInt8.ofNat (v/256^i%256)) (by omega) (by first |(rw [zh2];congr 3;omega)|(rw [zlF,show sz-1-(sz-1-i)=i from by omega])) (by intro j hj;by_cases h1:sz-1-j<i+1<;>by_cases h2:sz-1-j<i<;>by_cases h3:j=sz-1-i<;>simp [h1,h2,h3]<;>omega);rw [UInt8.toNat_ofNat'] at hx;first |(simpa only [Nat.zero_add,Nat.mul_one] using hx)|(rw [show v/256^i%256%2^8=v/256^i%256 from by omega] at hx;simpa only [Nat.zero_add,Nat.mul_one] using hx)] at hBw3
  refine zdx (zb 1 [(21,(vQ (v/256^i)))] (za (zae (some 22) .u64 (IntKind.u64.wrap ((((v/256^i:Nat):Int)).tdiv ((256:Nat):Int))) (v/256^(i+1)) (zbF rfl (by rw [zez,Nat.div_div_eq_div_mul,Nat.pow_succ]) (by show _<2^64;exact Nat.lt_of_le_of_lt (Nat.div_le_self _ _) hp1)) ?_)))
  refine zb 1 [(0,(vQ (v/256^(i+1))))] (zq (zi (zc (zg (zb 1 [(13,(.int .i64 ((sz:Int)-1-(i:Int))))] (za (zeR (some 14) .i64 (IntKind.i64.wrap ((sz:Int)-1-(i:Int)-((1:Nat):Int))) ((sz:Int)-1-((i+1:Nat):Int)) (zao) ?_)))))))
  refine zb 1 [(6,(.int .i64 ((sz:Int)-1-((i+1:Nat):Int))))] (zq (zn (zG (i+1) ?_ ?_)))
  ·exact ⟨by omega,hBw3,(Ext.own hEl hCw3 (by omega))⟩
  ·first | omega |(dsimp only;omega)
 ·replace hc:¬i<sz:=by have:=zfj hc;omega
  refine wEt (zf (zP (zo (zo (zD (zc (wsr ?_)))))))
  refine zb 2 [(4,(.slice (pA w.heap.size 0) sz sz)),(23,(.slice (pA w.heap.size 0) sz sz))] (zF (zh (.slice (pA w.heap.size 0) sz sz) ?_))
  have hBf:=hBl
  rw [ziZ _ _ _ (by intro j hj;simp;omega)] at hBf
  exact ⟨_,rfl,Nat.le_refl _,hBf,by simp,by omega,hEl⟩
theorem znz (v:Nat) (w:World):
  Calls Tryz.prog 136 #[(vQ v)] w (Ret fun r w'=>∃a0,r=(.slice a0 8 8)∧Bs w.heap.size w'.heap.size w' a0 8 8 (be v 8)∧Ext w w'):=by
 refine zw (n:=5) (σ:= [(0,(vQ v))]) Tryz.func136 rfl ?_
 refine wsr (zb 1 [(2,(.slice none 0 0))] (zz (zb 1 [(3,(vQ v))] (za (zt (zsh v 8 _ (by omega)) ?_)))))
 rintro _ w1 ⟨a1,rfl,hFz1_0,hEw1⟩
 have hzw1:=hEw1.size
 exact zb 1 [(2,(.slice a1 8 8))] (zF (zh (.slice a1 8 8) (⟨_,rfl,hFz1_0,hEw1⟩)))
theorem zgg (v:Nat) (w:World) (hp0:v<2^32):
  Calls Tryz.prog 111 #[(vW v)] w (Ret fun r w'=>∃a0,r=(.slice a0 4 4)∧Bs w.heap.size w'.heap.size w' a0 4 4 (be v 4)∧Ext w w'):=by
 refine zw (n:=6) (σ:= [(0,(vW v))]) Tryz.func111 rfl ?_
 refine wsr (zb 1 [(2,(.slice none 0 0))] (zz (zb 1 [(3,(vW v))] (za (zae (some 4) .u64 (IntKind.u64.wrap ((v:Nat):Int)) v (zbF rfl rfl (by show _<2^64;omega)) ?_)))))
 refine za (zt (zsh v 4 _ (by omega)) ?_)
 rintro _ w1 ⟨a1,rfl,hFz1_0,hEw1⟩
 have hzw1:=hEw1.size
 exact zb 1 [(2,(.slice a1 4 4))] (zF (zh (.slice a1 4 4) (⟨_,rfl,hFz1_0,hEw1⟩)))
theorem zk7 (v:Nat) (w:World) (hp0:v<2^64):
  Calls Tryz.prog 99 #[(vQ v)] w (Ret fun r w'=>∃a0,r=(.slice (pA a0 0) 8 8)∧w.heap.size≤a0∧Blk w' a0 (u8s (be v 8)) 5∧8=(be v 8).length∧8≤1099511627776∧Ext w w'):=by
 refine zw (n:=5) (σ:= [(0,(vQ v))]) Tryz.func99 rfl ?_
 refine wsr (zb 1 [(2,(.slice none 0 0))] (zz (zb 1 [(3,(vQ v))] (za (zt (zpO v 8 _ (by omega) (by omega)) ?_)))))
 rintro _ w1 ⟨a1,rfl,hFz1_0,hFz1_1,hFz1_2,hFz1_3,hEw1⟩
 have hzw1:=hEw1.size
 have hla1:=hFz1_1.lt;have hna1:=hFz1_3
 have hSa1:Bs a1 (a1+1) w1 (pA a1 0) 8 8 (be v 8):=Bs.of_blk hFz1_1 rfl hFz1_2 (Nat.le_refl _) (zcI hna1) (Nat.le_refl _) (Nat.lt_succ_self _)
 exact zb 1 [(2,(.slice (pA a1 0) 8 8))] (zF (zh (.slice (pA a1 0) 8 8) (⟨_,rfl,by omega,hFz1_1,by simp,by omega,hEw1⟩)))
theorem zlm (v:Nat) (w:World) (hp0:v<2^32):
  Calls Tryz.prog 102 #[(vW v)] w (Ret fun r w'=>∃a0,r=(.slice (pA a0 0) 4 4)∧w.heap.size≤a0∧Blk w' a0 (u8s (be v 4)) 5∧4=(be v 4).length∧4≤1099511627776∧Ext w w'):=by
 refine zw (n:=6) (σ:= [(0,(vW v))]) Tryz.func102 rfl ?_
 refine wsr (zb 1 [(2,(.slice none 0 0))] (zz (zb 1 [(3,(vW v))] (za (zae (some 4) .u64 (IntKind.u64.wrap ((v:Nat):Int)) v (zbF rfl rfl (by show _<2^64;omega)) ?_)))))
 refine za (zt (zpO v 4 _ (by omega) (by omega)) ?_)
 rintro _ w1 ⟨a1,rfl,hFz1_0,hFz1_1,hFz1_2,hFz1_3,hEw1⟩
 have hzw1:=hEw1.size
 have hla1:=hFz1_1.lt;have hna1:=hFz1_3
 have hSa1:Bs a1 (a1+1) w1 (pA a1 0) 4 4 (be v 4):=Bs.of_blk hFz1_1 rfl hFz1_2 (Nat.le_refl _) (zcI hna1) (Nat.le_refl _) (Nat.lt_succ_self _)
 exact zb 1 [(2,(.slice (pA a1 0) 4 4))] (zF (zh (.slice (pA a1 0) 4 4) (⟨_,rfl,by omega,hFz1_1,by simp,by omega,hEw1⟩)))
theorem zwg {lo_l hi_l:Nat} {a_l:Option Addr} {n_l c_l:Nat} {l:List UInt8} (sz:Nat) (w:World) (h_l:Bs lo_l hi_l w a_l n_l c_l l) (hp0:sz≤8):
  Calls Tryz.prog 151 #[(.slice a_l n_l c_l),(vI sz)] w (Ret fun r w'=>r=(.tuple #[(vQ (za6 l sz)),(vI (zcU l sz))])∧w=w'):=by
 refine zw (n:=32) (σ:= [(0,(.slice a_l n_l c_l)),(1,(vI sz))]) Tryz.func151 rfl ?_
 replace h_l:=h_l.now;have hle_l:=h_l.le
 refine wsr (zb 2 [(5,(vI 0)),(4,(vQ 0))] (wEt (zd (zp (wsr (zb 3 [(12,(vI sz)),(11,(vI n_l)),(10,(.slice a_l n_l c_l))] ?_))))))
 refine za (zag 13 n_l sz (fun hc13=> ?_) (fun hc13=> ?_))
 ·refine zb 1 [(9,vT)] (wEt (zk (wsr (zb 2 [(5,(vI 6)),(4,(vQ 0))] (zF ?_)))))
  exact zu (zj (zh (.tuple #[(vQ 0),(vI 6)]) (⟨by rw [zik (by have:=h_l.len_eq;omega),zjG (by have:=h_l.len_eq;omega)],rfl⟩)))
 ·refine zb 1 [(9,vF)] (wEt (zf (wsr (zb 3 [(17,(vI sz)),(16,(vI n_l)),(15,(.slice a_l n_l c_l))] (za (zcn 18 n_l sz (fun hc18=> ?_) (fun hc18=> ?_)))))))
  ·refine zb 1 [(14,vT)] (wEt (zk (wsr (zb 2 [(5,(vI 5)),(4,(vQ 0))] (zF ?_)))))
   exact zu (zj (zh (.tuple #[(vQ 0),(vI 5)]) (⟨by rw [zik (by have:=h_l.len_eq;omega),zkz (by have:=h_l.len_eq;omega)],rfl⟩)))
  ·refine zb 1 [(14,vF)] (wEt (zf (zl (zi (zc (wsr (zb 1 [(6,(vQ 0))] ?_)))))))
   refine zM (zb 3 [(21,(vI 0)),(20,(vI n_l)),(19,(.slice a_l n_l c_l))] (wEt (zp (zU (X:=Nat) (fun i=> [(6,(vQ (zbP (l.take i)))),(21,(vI i))]) [8,22,23,24,25,26,27,28,29,30] (fun i w1=>w=w1∧i≤sz) (fun i=>sz-i) 0 (by rw [List.take_zero];kernel_rfl) ⟨rfl,by omega⟩ ?_))))
   rintro i dw1 w1 ⟨rfl,hi⟩
   have hlen:=h_l.len_eq
   refine wsr (za (zag 22 i n_l (fun hc22=> ?_) (fun hc22=> ?_)))
   ·have hb1:=zfq l i
    have hb2:zbP (l.take i)*256+255<2^64:=zhV (by omega)
    refine wEt (zd (zk (zl (zc (zd (zp (wsr ?_)))))))
    obtain ⟨b1,o1,rfl⟩:=h_l.addr (by omega)
    refine za (zan b1 o1 n_l c_l i 1 ?_)
    refine za (zm b1 (o1+i*1) (h_l.cell1 (by omega)) ?_)
    refine zb 1 [(8,(vB (byt l i)))] (zdx (zb 1 [(25,(vQ (zbP (l.take i))))] (za (zae (some 26) .u64 (IntKind.u64.wrap (((zbP (l.take i):Nat):Int)*2^8)) (zbP (l.take i)*256) ((zuS rfl).trans (by rw [Nat.mod_eq_of_lt (show _<2^IntKind.u64.bits from by show _<2^64;omega)])) ?_))))
    refine zb 1 [(27,(vB (byt l i)))] (za (zae (some 28) .u64 (IntKind.u64.wrap ((byt l i:Nat):Int)) (byt l i) (zbF rfl rfl (by show _<2^64;omega)) ?_))
    refine za (zae (some 29) .u64 ((IntKind.u64.wrap ((BitVec.ofInt IntKind.u64.bits ((zbP (l.take i)*256:Nat):Int)||| BitVec.ofInt IntKind.u64.bits ((byt l i:Nat):Int)).toNat:Int))) (zbP (l.take (i+1))) ((orU .u64 rfl (by show _<2^64;omega) (by show _<2^64;omega)).trans (by rw [zue _ _ hb1,zh9 (by omega)])) ?_)
    refine zb 1 [(6,(vQ (zbP (l.take (i+1)))))] (zq (zi (zc (zg (za (zJ 30 i 1 (i+1) ?_))))))
    refine zb 1 [(21,(vI (i+1)))] (zq (zn (zG (i+1) ?_ ?_)))
    ·exact ⟨rfl,by omega⟩
    ·first | omega |(dsimp only;omega)
   ·refine wEt (zd (zf (zP (zo (zo (zD (zc (zd ?_))))))))
    exact zg (zb 3 [(5,(vI 0)),(4,(vQ (zbP (l.take i)))),(31,(vQ (zbP (l.take i))))] (zF (zh (.tuple #[(vQ (zbP (l.take i))),(vI 0)]) (⟨by rw [zg8 (by have:=h_l.len_eq;omega),ziz (by have:=h_l.len_eq;omega),List.take_of_length_le (by omega)],rfl⟩))))
theorem zvT {lo_l hi_l:Nat} {a_l:Option Addr} {n_l c_l:Nat} {l:List UInt8} (sz:Nat) (w:World) (h_l:Bs lo_l hi_l w a_l n_l c_l l) (hp0:sz≤8):
  Calls Tryz.prog 127 #[(.slice a_l n_l c_l),(vI sz)] w (Ret fun r w'=>r=(.tuple #[(vQ (za6 l sz)),(vI (zcU l sz))])∧w=w'):=by
 refine zw (n:=30) (σ:= [(0,(.slice a_l n_l c_l)),(1,(vI sz))]) Tryz.func127 rfl ?_
 replace h_l:=h_l.now;have hle_l:=h_l.le
 refine wsr (zb 2 [(5,(vI 0)),(4,(vQ 0))] (zM (zb 3 [(10,(vI sz)),(9,(vI n_l)),(8,(.slice a_l n_l c_l))] (za (zag 11 n_l sz (fun hc11=> ?_) (fun hc11=> ?_))))))
 ·refine wEt (zk (wsr (zb 2 [(5,(vI 6)),(4,(vQ 0))] (zF (zj ?_)))))
  exact zh (.tuple #[(vQ 0),(vI 6)]) (⟨by rw [zik (by have:=h_l.len_eq;omega),zjG (by have:=h_l.len_eq;omega)],rfl⟩)
 ·refine wEt (zf (zl (zc (zd (wsr (zb 3 [(14,(vI sz)),(13,(vI n_l)),(12,(.slice a_l n_l c_l))] (za (zcn 15 n_l sz (fun hc15=> ?_) (fun hc15=> ?_)))))))))
  ·refine wEt (zk (wsr (zb 2 [(5,(vI 5)),(4,(vQ 0))] (zF (zj ?_)))))
   exact zh (.tuple #[(vQ 0),(vI 5)]) (⟨by rw [zik (by have:=h_l.len_eq;omega),zkz (by have:=h_l.len_eq;omega)],rfl⟩)
  ·refine wEt (zf (zl (zc (wsr (zb 1 [(6,(vQ 0))] (wEt ?_))))))
   refine zd (wsr (zb 1 [(7,(vI 0))] (wEt (zp (zU (X:=Nat) (fun i=> [(6,(vQ (zbP (l.take i)))),(7,(vI i))]) [16,17,18,19,20,21,22,23,24,25,26,27,28] (fun i w1=>w=w1∧i≤sz) (fun i=>sz-i) 0 (by rw [List.take_zero];kernel_rfl) ⟨rfl,by omega⟩ ?_)))))
   rintro i dw1 w1 ⟨rfl,hi⟩
   have hlen:=h_l.len_eq
   refine zd (wsr (zb 2 [(17,(vI sz)),(16,(vI i))] (za (zag 18 i sz (fun hc18=> ?_) (fun hc18=> ?_)))))
   ·have hb1:=zfq l i
    have hb2:zbP (l.take i)*256+255<2^64:=zhV (by omega)
    refine wEt (zk (zl (zc (zd (zp (zg (zb 1 [(21,(vQ (zbP (l.take i))))] (za (zae (some 22) .u64 (IntKind.u64.wrap (((zbP (l.take i):Nat):Int)*((256:Nat):Int))) (zbP (l.take i)*256) (zbF rfl (by simp) (by show _<2^64;omega)) ?_)))))))))
    refine zb 2 [(24,(vI i)),(23,(.slice a_l n_l c_l))] ?_
    obtain ⟨b1,o1,rfl⟩:=h_l.addr (by omega)
    refine za (zan b1 o1 n_l c_l i 1 ?_)
    refine za (zm b1 (o1+i*1) (h_l.cell1 (by omega)) ?_)
    refine za (zae (some 27) .u64 (IntKind.u64.wrap ((byt l i:Nat):Int)) (byt l i) (zbF rfl rfl (by show _<2^64;omega)) ?_)
    refine za (zae (some 28) .u64 (IntKind.u64.wrap (((zbP (l.take i)*256:Nat):Int)+((byt l i:Nat):Int))) (zbP (l.take (i+1))) (zbF rfl (by rw [zh9 (by omega)];omega) (by rw [zh9 (by omega)];show _<2^64;omega)) ?_)
    refine zb 1 [(6,(vQ (zbP (l.take (i+1)))))] (zq (zi (zc (zg (zb 1 [(19,(vI i))] (za (zJ 20 i 1 (i+1) ?_)))))))
    refine zb 1 [(7,(vI (i+1)))] (zq (zn (zG (i+1) ?_ ?_)))
    ·exact ⟨rfl,by omega⟩
    ·first | omega |(dsimp only;omega)
   ·refine wEt (zf (zP (zo (zo (zD (zc (wsr ?_)))))))
    exact zb 3 [(5,(vI 0)),(4,(vQ (zbP (l.take i)))),(29,(vQ (zbP (l.take i))))] (zF (zh (.tuple #[(vQ (zbP (l.take i))),(vI 0)]) (⟨by rw [zg8 (by have:=h_l.len_eq;omega),ziz (by have:=h_l.len_eq;omega),List.take_of_length_le (by omega)],rfl⟩)))
theorem ztp {lo_l hi_l:Nat} {a_l:Option Addr} {n_l c_l:Nat} {l:List UInt8} (w:World) (h_l:Bs lo_l hi_l w a_l n_l c_l l):
  Calls Tryz.prog 149 #[(.slice a_l n_l c_l)] w (Ret fun r w'=>r=(.tuple #[(vW (za6 l 4)),(vI (zcU l 4))])∧w=w'):=by
 refine zw (n:=14) (σ:= [(0,(.slice a_l n_l c_l))]) Tryz.func149 rfl ?_
 replace h_l:=h_l.now;have hle_l:=h_l.le
 refine wsr (zb 2 [(3,(vI 0)),(2,(vW 0))] (zz (zb 1 [(7,(.slice a_l n_l c_l))] (za (zt (zwg 4 _ h_l (by first | omega | decide)) ?_)))))
 rintro _ _ ⟨rfl,rfl⟩
 refine zb 5 [(5,(vI (zcU l 4))),(4,(vQ (za6 l 4))),(10,(vI (zcU l 4))),(9,(vQ (za6 l 4))),(6,(.tuple #[(vQ (za6 l 4)),(vI (zcU l 4))]))] (zz (zb 1 [(11,(vQ (za6 l 4)))] (za (zae (some 12) .u32 (IntKind.u32.wrap ((za6 l 4:Nat):Int)) (za6 l 4) (zbF rfl rfl (zd2 l 4)) ?_))))
 exact zb 3 [(3,(vI (zcU l 4))),(2,(vW (za6 l 4))),(13,(vI (zcU l 4)))] (zF (zh (.tuple #[(vW (za6 l 4)),(vI (zcU l 4))]) (⟨rfl,rfl⟩)))
end Go.Proofs.YtkmhgepdhilllaaGreatDoor
namespace Go.Proofs.YtkmhgepdhilllaaGreatDoor
open Go Go.RowKit Go.Cs
set_option maxRecDepth 100000
theorem zxZ (v:Nat) (k:Int) (w:World) (hp0:v<2^32):
  Calls Tryz.prog 152 #[(vW v),(.int .i64 k)] w (Ret fun r w'=>r=(vW (zf3 v (k%32).toNat))∧w=w'):=by
 refine zw (n:=17) (σ:= [(0,(vW v)),(1,(.int .i64 k))]) Tryz.func152 rfl ?_
 refine wsr (zb 1 [(4,(vW 0))] (zz (zb 1 [(6,(.int .i64 k))] (za (zae (some 7) .u64 (IntKind.u64.wrap k) ((k%18446744073709551616).toNat) (zlZ k) ?_)))))
 refine za (zae (some 8) .u64 ((IntKind.u64.wrap ((BitVec.ofInt IntKind.u64.bits (((k%18446744073709551616).toNat:Nat):Int)&&&BitVec.ofInt IntKind.u64.bits ((31:Nat):Int)).toNat:Int))) ((k%32).toNat) ((zxi .u64 rfl (by show _<2^64;omega) (by show _<2^64;omega)).trans (by rw [zwk])) ?_)
 refine zb 1 [(5,(vQ ((k%32).toNat)))] (zz (zb 2 [(10,(vQ ((k%32).toNat))),(9,(vW v))] (za (zaN (do eqGuard .shl 53 (.tmp 9) (.tmp 10) (.int .u32 ((v:Nat):Int)) (.int .u64 (((k%32).toNat:Nat):Int));binOp .shl 53 (.int .u32 ((v:Nat):Int)) (.int .u64 (((k%32).toNat:Nat):Int))) (vW (v*2^((k%32).toNat)%2^32)) (znH rfl (by show _≤32;omega)) ?_))))
 refine zb 2 [(13,(vQ ((k%32).toNat))),(12,(vW v))] (za (zae (some 14) .u64 (IntKind.u64.wrap (((32:Nat):Int)-(((k%32).toNat:Nat):Int))) (32-(k%32).toNat) (zbF rfl (by omega) (by show _<2^64;omega)) ?_))
 refine za (zaN (do eqGuard .shr 53 (.tmp 12) (.tmp 14) (.int .u32 ((v:Nat):Int)) (.int .u64 ((32-(k%32).toNat:Nat):Int));binOp .shr 53 (.int .u32 ((v:Nat):Int)) (.int .u64 ((32-(k%32).toNat:Nat):Int))) (vW (v/2^(32-(k%32).toNat))) (zjV (by show _≤32;omega)) ?_)
 refine za (zae (some 16) .u32 ((IntKind.u32.wrap ((BitVec.ofInt IntKind.u32.bits ((v*2^((k%32).toNat)%2^32:Nat):Int)||| BitVec.ofInt IntKind.u32.bits ((v/2^(32-(k%32).toNat):Nat):Int)).toNat:Int))) (zf3 v (k%32).toNat) (orU .u32 rfl (Nat.mod_lt _ (by decide)) (by show _<2^32;exact Nat.lt_of_le_of_lt (Nat.div_le_self _ _) hp0)) ?_)
 exact zb 1 [(4,(vW (zf3 v (k%32).toNat)))] (zF (zh (vW (zf3 v (k%32).toNat)) (⟨rfl,rfl⟩)))
theorem zv9 (v:Nat) (n:Int) (w:World) (hp0:v<2^32):
  Calls Tryz.prog 150 #[(vW v),(.int .i64 n)] w (Ret fun r w'=>r=(vW (rot v n))∧w=w'):=by
 refine zw (n:=9) (σ:= [(0,(vW v)),(1,(.int .i64 n))]) Tryz.func150 rfl ?_
 refine wsr (zb 1 [(4,(vW 0))] (zz (zb 2 [(6,(.int .i64 n)),(5,(vW v))] (za (zeR (some 7) .i64 (n.tmod ((32:Nat):Int)) (n.tmod 32) (rfl) ?_)))))
 refine za (zt (zxZ v (n.tmod 32) _ (by omega)) ?_)
 rintro _ _ ⟨rfl,rfl⟩
 refine zb 1 [(4,(vW (zf3 v ((n.tmod 32)%32).toNat)))] (zF (zh (vW (zf3 v ((n.tmod 32)%32).toNat)) ?_))
 have h32:=(zut n).2.2
 rw [h32]
 exact ⟨rfl,rfl⟩
end Go.Proofs.YtkmhgepdhilllaaGreatDoor
namespace Go.Proofs.YtkmhgepdhilllaaGreatDoor
open Go Go.RowKit Go.Cs
set_option maxRecDepth 100000
theorem zjB {lo_ls hi_ls:Nat} {a_ls:Option Addr} {n_ls c_ls:Nat} {v_ls:List Value} {ls:List (List UInt8)} (w:World) (h_ls:Ps lo_ls hi_ls w a_ls n_ls c_ls v_ls ls) (hp0:zaa ls≤1099511627776):
  Calls Tryz.prog 133 #[(.slice a_ls n_ls c_ls)] w (Ret fun r w'=>∃a0,r=(.slice (pA a0 0) (zaa ls) (zaa ls))∧w.heap.size≤a0∧Blk w' a0 (u8s ls.flatten) 5∧zaa ls=(ls.flatten).length∧zaa ls≤1099511627776∧Ext w w'):=by
 refine zw (n:=38) (σ:= [(0,(.slice a_ls n_ls c_ls))]) Tryz.func133 rfl ?_
 replace h_ls:=h_ls.now;have hle_ls:=h_ls.le
 refine wsr (zb 1 [(2,(.slice none 0 0))] (zz (zb 1 [(3,(vI 0))] (wEt ?_))))
 refine zd (wsr (zb 3 [(12,(vI 0)),(11,(vI n_ls)),(10,(.slice a_ls n_ls c_ls))] (wEt (zp (zU (X:=Nat) (fun i=> [(3,(vI (zaa (ls.take i)))),(12,(vI i))]) [5,13,14,15,16,17,18,19,20] (fun i w1=>w=w1∧i≤n_ls) (fun i=>n_ls-i) 0 (by rw [List.take_zero];kernel_rfl) ⟨rfl,by omega⟩ ?_)))))
 rintro i dw1 w1 ⟨rfl,hi⟩
 have hlen:=h_ls.len_eq
 have hsl:=ze5 ls i
 have hsl1:=ze5 ls (i+1)
 refine wsr (za (zag 13 i n_ls (fun hc13=> ?_) (fun hc13=> ?_)))
 ·have hst:=zfR (ls:=ls) (i:=i) (by omega)
  refine wEt (zd (zk (zl (zc (zd (zp (wsr ?_)))))))
  obtain ⟨b1,o1,rfl⟩:=h_ls.addr (by omega)
  refine za (zan b1 o1 n_ls c_ls i 1 ?_)
  obtain ⟨a1,n1,cp1,hP1,hS1⟩:=(h_ls).cell (i:=i) (by omega)
  have hlehS1:=hS1.le;have hlnhS1:=hS1.len_eq
  refine za (zm b1 (o1+i*1) hP1 ?_)
  refine zb 1 [(5,(.slice a1 n1 cp1))] (zdx (zb 3 [(18,(vI n1)),(17,(.slice a1 n1 cp1)),(16,(vI (zaa (ls.take i))))] (za (zJ 19 (zaa (ls.take i)) n1 (zaa (ls.take (i+1))) ?_))))
  refine zb 1 [(3,(vI (zaa (ls.take (i+1)))))] (zq (zi (zc (zg (za (zJ 20 i 1 (i+1) ?_))))))
  refine zb 1 [(12,(vI (i+1)))] (zq (zn (zG (i+1) ?_ ?_)))
  ·exact ⟨rfl,by omega⟩
  ·first | omega |(dsimp only;omega)
 ·have hfin1:ls.take i=ls:=List.take_of_length_le (by omega)
  rw [hfin1]
  refine wEt (zd (zf (zP (zo (zo (zD (zc (zd ?_))))))))
  refine zg (zb 1 [(21,(vI (zaa (ls))))] (za (zb8 (some 22) 23 5 1 1 (zaa (ls)) (zaa (ls)) .i64 .i64 (vB 0) (by omega) (by omega) (by omega) ?_)))
  rw [zdy _ rfl]
  intro w2 hBw2 hEw2
  have hzw2:=hEw2.size;have hlw2:=hBw2.lt
  have hSw2:Bs w.heap.size (w.heap.size+1) w2 (pA w.heap.size 0) (zaa (ls)) (zaa (ls)) (List.replicate (zaa (ls)) 0):=Bs.of_blk hBw2 (zfA _) (by simp) (Nat.le_refl _) (by simp only [maxLen];omega) (Nat.le_refl _) (Nat.lt_succ_self _)
  refine zb 1 [(6,(.slice (pA w.heap.size 0) (zaa (ls)) (zaa (ls))))] (zz (zb 1 [(7,(vI 0))] (wEt (zd (zd ?_)))))
  refine zg (zb 3 [(25,(vI 0)),(24,(vI n_ls)),(23,(.slice a_ls n_ls c_ls))] (wEt (zp (zU (X:=Nat) (fun jj=> [(7,(vI (zaa (ls.take jj)))),(25,(vI jj))]) [9,26,27,28,29,30,31,32,33,34,35,36] (fun jj w3=>jj≤n_ls∧Blk w3 w.heap.size (u8s ((ls.take jj).flatten++List.replicate (zaa ls-zaa (ls.take jj)) 0)) 5∧Ext w w3) (fun jj=>n_ls-jj) 0 (by rw [List.take_zero];kernel_rfl) ⟨by omega,(by rw [List.take_zero,show zaa ls-zaa []=zaa ls from rfl,List.flatten_nil,List.nil_append,←zfA];exact hBw2),hEw2⟩ ?_))))
  rintro jj dw3 w3 ⟨hi,hBl,hEl⟩
  have hzl:=hEl.size;have hll:=hBl.lt
  have hlen:=h_ls.len_eq
  have hsl:=ze5 ls jj
  have hsl1:=ze5 ls (jj+1)
  refine wsr (za (zag 26 jj n_ls (fun hc26=> ?_) (fun hc26=> ?_)))
  ·have hst:=zfR (ls:=ls) (i:=jj) (by omega)
   refine wEt (zd (zk (zl (zc (zd (zp (wsr ?_)))))))
   obtain ⟨b2,o2,rfl⟩:=h_ls.addr (by omega)
   refine za (zan b2 o2 n_ls c_ls jj 1 ?_)
   obtain ⟨a2,n2,cp2,hP2,hS2⟩:=((h_ls.ext hEl)).cell (i:=jj) (by omega)
   have hlehS2:=hS2.le;have hlnhS2:=hS2.len_eq
   refine za (zm b2 (o2+jj*1) hP2 ?_)
   refine zb 1 [(9,(.slice a2 n2 cp2))] (zdx (zb 3 [(31,(vI (zaa (ls.take jj)))),(30,(.slice (pA w.heap.size 0) (zaa (ls)) (zaa (ls)))),(29,(vI (zaa (ls.take jj))))] ?_))
   obtain ⟨ad,hRd,hAd⟩:=hBl.slice (len:=(zaa (ls))) (cap:=(zaa (ls))) Tryz.prog 23 5 (zaa (ls.take jj)) (zaa (ls)) (zaa (ls)) (some (vI (zaa (ls.take jj)))) none none
   refine za (zaN (Instr.sliceAt 23 (.slice (pA w.heap.size 0) (zaa (ls)) (zaa (ls))) (some (vI (zaa (ls.take jj)))) none none) (.slice ad (zaa ls-zaa (ls.take jj)) (zaa ls-zaa (ls.take jj))) (hRd _) ?_)
   refine zb 1 [(33,(.slice a2 n2 cp2))] (za (ziy (a:=ad) (dl:=zaa ls-zaa (ls.take jj)) (dc:=zaa ls-zaa (ls.take jj)) (some 34) 23 23 3 5 w.heap.size (zaa (ls.take jj)) hBl (fun h=>hAd (by omega)) (by rw [zbd,List.length_append,zey,List.length_replicate];omega) hS2.es (fun _=>rfl) ?_))
   intro w4 hBw4 hCw4
   have hzw4:=hCw4.size
   rw [show zZ (u8s ((ls.take jj).flatten++List.replicate (zaa ls-zaa (ls.take jj)) 0)) (zaa (ls.take jj)) (((ls.getD jj []).take (min n2 (zaa ls-zaa (ls.take jj)))).map u8v)=u8s ((ls.take (jj+1)).flatten++List.replicate (zaa ls-zaa (ls.take (jj+1))) 0) from by rw [zh3 (by omega),zfR (by omega),show min n2 (zaa ls-zaa (ls.take jj))=(ls.getD jj []).length from by omega];exact zqt _ _ _ _ (zey _).symm (by omega)] at hBw4
   refine za (zJ 35 (zaa (ls.take jj)) (min n2 (zaa ls-zaa (ls.take jj))) (zaa (ls.take (jj+1))) ?_)
   refine zb 1 [(7,(vI (zaa (ls.take (jj+1)))))] (zq (zi (zc (zg (za (zJ 36 jj 1 (jj+1) ?_))))))
   refine zb 1 [(25,(vI (jj+1)))] (zq (zn (zG (jj+1) ?_ ?_)))
   ·exact ⟨by omega,hBw4,(Ext.own hEl hCw4 (by omega))⟩
   ·first | omega |(dsimp only;omega)
  ·refine wEt (zd (zf (zP (zo (zo (zD (zc (zd ?_))))))))
   refine zg (zb 2 [(2,(.slice (pA w.heap.size 0) (zaa (ls)) (zaa (ls)))),(37,(.slice (pA w.heap.size 0) (zaa (ls)) (zaa (ls))))] (zF (zh (.slice (pA w.heap.size 0) (zaa (ls)) (zaa (ls))) ?_)))
   have hfin:ls.take jj=ls:=List.take_of_length_le (by omega)
   rw [hfin] at hBl
   rw [Nat.sub_self,List.replicate_zero,List.append_nil] at hBl
   exact ⟨_,rfl,Nat.le_refl _,hBl,(zey ls).symm,hp0,hEl⟩
end Go.Proofs.YtkmhgepdhilllaaGreatDoor
namespace Go.Proofs.YtkmhgepdhilllaaGreatDoor
open Go Go.RowKit Go.Cs
set_option maxRecDepth 100000
theorem zf5 (x:Rec) (w:World):
  Calls Tryz.prog 62 #[(vA (zL x))] w (Ret fun r w'=>r=(vI (zaB x))∧Ext w w'):=by
 refine zw (n:=16) (σ:= [(0,(vA (zL x)))]) Tryz.func62 rfl ?_
 refine wsr (za (zS (Instr.box 68 (vA (zL x))) (vP w.heap.size 0) (zL x) 68 ?_))
 intro w1 hBw1 hEw1 hzw1 hlw1
 refine zb 1 [(2,(vI 0))] (zM (zb 1 [(3,(vP w.heap.size 0))] (za (zm w.heap.size 0 (hBw1.cell rfl) ?_))))
 refine za (zcn 5 x.st 2 (fun hc5=> ?_) (fun hc5=> ?_))
 ·refine zb 10 [(15,vT),(14,undef),(13,undef),(12,undef),(11,undef),(10,undef),(9,undef),(8,undef),(7,undef),(6,vT)] (wEt (zk (wsr (zb 1 [(2,(vI 1))] (zF ?_)))))
  exact zj (zh (vI 1) (⟨congrArg (fun z:Nat=>Value.int .i64 (z:Int)) (by unfold zaB;simp_all []<;>omega),hEw1⟩))
 ·refine zb 2 [(7,(vP w.heap.size 0)),(6,vF)] (za (zm w.heap.size 0 (hBw1.cell rfl) ?_))
  refine za (zaI 9 x.st 0 (fun hc9=> ?_) (fun hc9=> ?_))
  ·refine zb 1 [(10,vT)] (za (zQ w.heap.size 0 (hBw1.all) (zab _) ?_))
   refine zb 1 [(12,(vA (zL Rec.zero)))] ?_
   rcases Bool.eq_false_or_eq_true (x.eqb Rec.zero) with hq13 | hq13
   ·refine za (zbG (some 13) (bo .neq 68 (.tmp 11) (.tmp 12) (vA (zL x)) (vA (zL Rec.zero))) vF (zaj (r:=true) (T:=68) ((zcd (dd:=9997) (t:=68) (t8:=5) (tn:=56) (td:=59) (e:=5) (t32:=53) (t64:=54) x Rec.zero).trans (congrArg (fun b=>Result.ok b _) (show (x.eqb Rec.zero)=true from hq13)))) ?_)
    refine zb 2 [(15,vF),(14,vF)] (wEt (zf (zl (zc (wsr (zb 1 [(2,(vI 0))] (zq ?_)))))))
    exact zc (zaH (zh (vI 0) (⟨congrArg (fun z:Nat=>Value.int .i64 (z:Int)) (by unfold zaB;simp_all []<;>omega),hEw1⟩)))
   ·refine za (zbG (some 13) (bo .neq 68 (.tmp 11) (.tmp 12) (vA (zL x)) (vA (zL Rec.zero))) vT (zaj (r:=false) (T:=68) ((zcd (dd:=9997) (t:=68) (t8:=5) (tn:=56) (td:=59) (e:=5) (t32:=53) (t64:=54) x Rec.zero).trans (congrArg (fun b=>Result.ok b _) (show (x.eqb Rec.zero)=false from hq13)))) ?_)
    refine zb 2 [(15,vT),(14,vT)] (wEt (zk (wsr (zb 1 [(2,(vI 1))] (zF ?_)))))
    exact zj (zh (vI 1) (⟨congrArg (fun z:Nat=>Value.int .i64 (z:Int)) (by unfold zaB;simp_all []<;>omega),hEw1⟩))
  ·refine zb 6 [(15,vF),(14,vF),(13,undef),(12,undef),(11,undef),(10,vF)] (wEt (zf (zl (zc (wsr (zb 1 [(2,(vI 0))] (zq ?_)))))))
   exact zc (zaH (zh (vI 0) (⟨congrArg (fun z:Nat=>Value.int .i64 (z:Int)) (by unfold zaB;simp_all []<;>omega),hEw1⟩)))
theorem zie (x:Ent) (w:World):
  Calls Tryz.prog 131 #[(vA (zW x))] w (Ret fun r w'=>r=(vI (za3 x))∧Ext w w'):=by
 refine zw (n:=16) (σ:= [(0,(vA (zW x)))]) Tryz.func131 rfl ?_
 refine wsr (za (zS (Instr.box 71 (vA (zW x))) (vP w.heap.size 0) (zW x) 71 ?_))
 intro w1 hBw1 hEw1 hzw1 hlw1
 refine zb 1 [(2,(vI 0))] (zM (zb 1 [(3,(vP w.heap.size 0))] (za (zm w.heap.size 0 (hBw1.cell rfl) ?_))))
 refine za (zcn 5 x.st 2 (fun hc5=> ?_) (fun hc5=> ?_))
 ·refine zb 10 [(15,vT),(14,undef),(13,undef),(12,undef),(11,undef),(10,undef),(9,undef),(8,undef),(7,undef),(6,vT)] (wEt (zk (wsr (zb 1 [(2,(vI 1))] (zF ?_)))))
  exact zj (zh (vI 1) (⟨congrArg (fun z:Nat=>Value.int .i64 (z:Int)) (by unfold za3;simp_all []<;>omega),hEw1⟩))
 ·refine zb 2 [(7,(vP w.heap.size 0)),(6,vF)] (za (zm w.heap.size 0 (hBw1.cell rfl) ?_))
  refine za (zaI 9 x.st 0 (fun hc9=> ?_) (fun hc9=> ?_))
  ·refine zb 1 [(10,vT)] (za (zQ w.heap.size 0 (hBw1.all) (zat _) ?_))
   refine zb 1 [(12,(vA (zW Ent.zero)))] ?_
   rcases Bool.eq_false_or_eq_true (x.eqb Ent.zero) with hq13 | hq13
   ·refine za (zbG (some 13) (bo .neq 71 (.tmp 11) (.tmp 12) (vA (zW x)) (vA (zW Ent.zero))) vF (zaj (r:=true) (T:=71) ((za2 (dd:=9997) (t:=71) (t8:=5) (td:=59) (e:=5) x Ent.zero).trans (congrArg (fun b=>Result.ok b _) (show (x.eqb Ent.zero)=true from hq13)))) ?_)
    refine zb 2 [(15,vF),(14,vF)] (wEt (zf (zl (zc (wsr (zb 1 [(2,(vI 0))] (zq ?_)))))))
    exact zc (zaH (zh (vI 0) (⟨congrArg (fun z:Nat=>Value.int .i64 (z:Int)) (by unfold za3;simp_all []<;>omega),hEw1⟩)))
   ·refine za (zbG (some 13) (bo .neq 71 (.tmp 11) (.tmp 12) (vA (zW x)) (vA (zW Ent.zero))) vT (zaj (r:=false) (T:=71) ((za2 (dd:=9997) (t:=71) (t8:=5) (td:=59) (e:=5) x Ent.zero).trans (congrArg (fun b=>Result.ok b _) (show (x.eqb Ent.zero)=false from hq13)))) ?_)
    refine zb 2 [(15,vT),(14,vT)] (wEt (zk (wsr (zb 1 [(2,(vI 1))] (zF ?_)))))
    exact zj (zh (vI 1) (⟨congrArg (fun z:Nat=>Value.int .i64 (z:Int)) (by unfold za3;simp_all []<;>omega),hEw1⟩))
  ·refine zb 6 [(15,vF),(14,vF),(13,undef),(12,undef),(11,undef),(10,vF)] (wEt (zf (zl (zc (wsr (zb 1 [(2,(vI 0))] (zq ?_)))))))
   exact zc (zaH (zh (vI 0) (⟨congrArg (fun z:Nat=>Value.int .i64 (z:Int)) (by unfold za3;simp_all []<;>omega),hEw1⟩)))
theorem zkm (x:Rec) (w:World):
  Calls Tryz.prog 105 #[(vA (zL x))] w (Ret fun r w'=>r=(vI (zaB x))∧Ext w w'):=by
 refine zw (n:=36) (σ:= [(0,(vA (zL x)))]) Tryz.func105 rfl ?_
 refine wsr (za (zS (Instr.box 68 (vA (zL x))) (vP w.heap.size 0) (zL x) 68 ?_))
 intro w1 hBw1 hEw1 hzw1 hlw1
 refine zb 1 [(2,(vI 0))] (zz (zb 2 [(5,(vP w.heap.size 1)),(4,(vP w.heap.size 1))] (za (zm w.heap.size 1 (hBw1.cell rfl) ?_))))
 refine za (zaI 7 x.non.sh 0 (fun hc7=> ?_) (fun hc7=> ?_))
 ·refine zb 3 [(10,(vP w.heap.size 2)),(9,(vP w.heap.size 1)),(8,vT)] (za (zm w.heap.size 2 (hBw1.cell rfl) ?_))
  refine za (zaI 12 x.non.ct 0 (fun hc12=> ?_) (fun hc12=> ?_))
  ·refine zb 3 [(15,(vP w.heap.size 3)),(14,vT),(13,vT)] (za (zQ w.heap.size 3 (hBw1.at 3 (zK x.tag) (zg3 _)) (zar _) ?_))
   refine zb 1 [(17,(vA (zK Dig.zero)))] ?_
   rcases Bool.eq_false_or_eq_true (x.tag.l==Dig.zero.l) with hq18 | hq18
   ·refine za (zbG (some 18) (bo .eql 59 (.tmp 16) (.tmp 17) (vA (zK x.tag)) (vA (zK Dig.zero))) vT (zeF (r:=true) (T:=59) ((zbS (dd:=9998) (t:=59) (e:=5) x.tag Dig.zero).trans (congrArg (fun b=>Result.ok b _) (show (x.tag.l==Dig.zero.l)=true from hq18)))) ?_)
    refine zb 2 [(3,vT),(19,vT)] (zM (zb 1 [(20,(vP w.heap.size 0))] (za (zm w.heap.size 0 (hBw1.cell rfl) ?_))))
    refine za (zaI 22 x.st 0 (fun hc22=> ?_) (fun hc22=> ?_))
    ·refine zb 13 [(35,vT),(34,undef),(33,undef),(32,undef),(31,vT),(30,vT),(29,undef),(28,undef),(27,undef),(26,vT),(25,vT),(24,vT),(23,vT)] (wEt (zk (wsr (zb 1 [(2,(vI 0))] (zF ?_)))))
     exact zj (zh (vI 0) (⟨congrArg (fun z:Nat=>Value.int .i64 (z:Int)) (by unfold zaB;simp_all [Rec.eqb,Non.eqb,Rec.zero,Non.zero]<;>omega),hEw1⟩))
    ·refine zb 5 [(27,(vP w.heap.size 0)),(26,vF),(25,vF),(24,undef),(23,vF)] (za (zm w.heap.size 0 (hBw1.cell rfl) ?_))
     refine za (zaI 29 x.st 1 (fun hc29=> ?_) (fun hc29=> ?_))
     ·refine zb 6 [(35,vT),(34,undef),(33,undef),(32,undef),(31,vT),(30,vT)] (wEt (zk (wsr (zb 1 [(2,(vI 0))] (zF ?_)))))
      exact zj (zh (vI 0) (⟨congrArg (fun z:Nat=>Value.int .i64 (z:Int)) (by unfold zaB;simp_all [Rec.eqb,Non.eqb,Rec.zero,Non.zero]<;>omega),hEw1⟩))
     ·refine zb 3 [(32,(vP w.heap.size 0)),(31,vF),(30,vF)] (za (zm w.heap.size 0 (hBw1.cell rfl) ?_))
      refine za (zaI 34 x.st 2 (fun hc34=> ?_) (fun hc34=> ?_))
      ·refine zb 1 [(35,vT)] (wEt (zk (wsr (zb 1 [(2,(vI 0))] (zF ?_)))))
       exact zj (zh (vI 0) (⟨congrArg (fun z:Nat=>Value.int .i64 (z:Int)) (by unfold zaB;simp_all [Rec.eqb,Non.eqb,Rec.zero,Non.zero]<;>omega),hEw1⟩))
      ·refine zb 1 [(35,vF)] (wEt (zf (zl (zc (wsr (zb 1 [(2,(vI 1))] (zq ?_)))))))
       exact zc (zaH (zh (vI 1) (⟨congrArg (fun z:Nat=>Value.int .i64 (z:Int)) (by unfold zaB;simp_all [Rec.eqb,Non.eqb,Rec.zero,Non.zero]<;>omega),hEw1⟩)))
   ·refine za (zbG (some 18) (bo .eql 59 (.tmp 16) (.tmp 17) (vA (zK x.tag)) (vA (zK Dig.zero))) vF (zeF (r:=false) (T:=59) ((zbS (dd:=9998) (t:=59) (e:=5) x.tag Dig.zero).trans (congrArg (fun b=>Result.ok b _) (show (x.tag.l==Dig.zero.l)=false from hq18)))) ?_)
    refine zb 2 [(3,vF),(19,vF)] (zM (zb 1 [(20,(vP w.heap.size 0))] (za (zm w.heap.size 0 (hBw1.cell rfl) ?_))))
    refine za (zaI 22 x.st 0 (fun hc22=> ?_) (fun hc22=> ?_))
    ·refine zb 5 [(27,(vP w.heap.size 0)),(26,vF),(25,vF),(24,vF),(23,vT)] (za (zm w.heap.size 0 (hBw1.cell rfl) ?_))
     refine za (zaI 29 x.st 1 (fun hc29=> ?_) (fun hc29=> ?_))
     ·refine zb 6 [(35,vT),(34,undef),(33,undef),(32,undef),(31,vT),(30,vT)] (wEt (zk (wsr (zb 1 [(2,(vI 0))] (zF ?_)))))
      exact zj (zh (vI 0) (⟨congrArg (fun z:Nat=>Value.int .i64 (z:Int)) (by unfold zaB;simp_all [Rec.eqb,Non.eqb,Rec.zero,Non.zero]<;>omega),hEw1⟩))
     ·refine zb 3 [(32,(vP w.heap.size 0)),(31,vF),(30,vF)] (za (zm w.heap.size 0 (hBw1.cell rfl) ?_))
      refine za (zaI 34 x.st 2 (fun hc34=> ?_) (fun hc34=> ?_))
      ·refine zb 1 [(35,vT)] (wEt (zk (wsr (zb 1 [(2,(vI 0))] (zF ?_)))))
       exact zj (zh (vI 0) (⟨congrArg (fun z:Nat=>Value.int .i64 (z:Int)) (by unfold zaB;simp_all [Rec.eqb,Non.eqb,Rec.zero,Non.zero]<;>omega),hEw1⟩))
      ·refine zb 1 [(35,vF)] (wEt (zf (zl (zc (wsr (zb 1 [(2,(vI 1))] (zq ?_)))))))
       exact zc (zaH (zh (vI 1) (⟨congrArg (fun z:Nat=>Value.int .i64 (z:Int)) (by unfold zaB;simp_all [Rec.eqb,Non.eqb,Rec.zero,Non.zero]<;>omega),hEw1⟩)))
    ·refine zb 5 [(27,(vP w.heap.size 0)),(26,vF),(25,vF),(24,undef),(23,vF)] (za (zm w.heap.size 0 (hBw1.cell rfl) ?_))
     refine za (zaI 29 x.st 1 (fun hc29=> ?_) (fun hc29=> ?_))
     ·refine zb 6 [(35,vT),(34,undef),(33,undef),(32,undef),(31,vT),(30,vT)] (wEt (zk (wsr (zb 1 [(2,(vI 0))] (zF ?_)))))
      exact zj (zh (vI 0) (⟨congrArg (fun z:Nat=>Value.int .i64 (z:Int)) (by unfold zaB;simp_all [Rec.eqb,Non.eqb,Rec.zero,Non.zero]<;>omega),hEw1⟩))
     ·refine zb 3 [(32,(vP w.heap.size 0)),(31,vF),(30,vF)] (za (zm w.heap.size 0 (hBw1.cell rfl) ?_))
      refine za (zaI 34 x.st 2 (fun hc34=> ?_) (fun hc34=> ?_))
      ·refine zb 1 [(35,vT)] (wEt (zk (wsr (zb 1 [(2,(vI 0))] (zF ?_)))))
       exact zj (zh (vI 0) (⟨congrArg (fun z:Nat=>Value.int .i64 (z:Int)) (by unfold zaB;simp_all [Rec.eqb,Non.eqb,Rec.zero,Non.zero]<;>omega),hEw1⟩))
      ·refine zb 1 [(35,vF)] (wEt (zf (zl (zc (wsr (zb 1 [(2,(vI 1))] (zq ?_)))))))
       exact zc (zaH (zh (vI 1) (⟨congrArg (fun z:Nat=>Value.int .i64 (z:Int)) (by unfold zaB;simp_all [Rec.eqb,Non.eqb,Rec.zero,Non.zero]<;>omega),hEw1⟩)))
  ·refine zb 8 [(3,vF),(19,vF),(18,undef),(17,undef),(16,undef),(15,undef),(14,vF),(13,vF)] (zM (zb 1 [(20,(vP w.heap.size 0))] (za (zm w.heap.size 0 (hBw1.cell rfl) ?_))))
   refine za (zaI 22 x.st 0 (fun hc22=> ?_) (fun hc22=> ?_))
   ·refine zb 5 [(27,(vP w.heap.size 0)),(26,vF),(25,vF),(24,vF),(23,vT)] (za (zm w.heap.size 0 (hBw1.cell rfl) ?_))
    refine za (zaI 29 x.st 1 (fun hc29=> ?_) (fun hc29=> ?_))
    ·refine zb 6 [(35,vT),(34,undef),(33,undef),(32,undef),(31,vT),(30,vT)] (wEt (zk (wsr (zb 1 [(2,(vI 0))] (zF ?_)))))
     exact zj (zh (vI 0) (⟨congrArg (fun z:Nat=>Value.int .i64 (z:Int)) (by unfold zaB;simp_all [Rec.eqb,Non.eqb,Rec.zero,Non.zero]<;>omega),hEw1⟩))
    ·refine zb 3 [(32,(vP w.heap.size 0)),(31,vF),(30,vF)] (za (zm w.heap.size 0 (hBw1.cell rfl) ?_))
     refine za (zaI 34 x.st 2 (fun hc34=> ?_) (fun hc34=> ?_))
     ·refine zb 1 [(35,vT)] (wEt (zk (wsr (zb 1 [(2,(vI 0))] (zF ?_)))))
      exact zj (zh (vI 0) (⟨congrArg (fun z:Nat=>Value.int .i64 (z:Int)) (by unfold zaB;simp_all [Rec.eqb,Non.eqb,Rec.zero,Non.zero]<;>omega),hEw1⟩))
     ·refine zb 1 [(35,vF)] (wEt (zf (zl (zc (wsr (zb 1 [(2,(vI 1))] (zq ?_)))))))
      exact zc (zaH (zh (vI 1) (⟨congrArg (fun z:Nat=>Value.int .i64 (z:Int)) (by unfold zaB;simp_all [Rec.eqb,Non.eqb,Rec.zero,Non.zero]<;>omega),hEw1⟩)))
   ·refine zb 5 [(27,(vP w.heap.size 0)),(26,vF),(25,vF),(24,undef),(23,vF)] (za (zm w.heap.size 0 (hBw1.cell rfl) ?_))
    refine za (zaI 29 x.st 1 (fun hc29=> ?_) (fun hc29=> ?_))
    ·refine zb 6 [(35,vT),(34,undef),(33,undef),(32,undef),(31,vT),(30,vT)] (wEt (zk (wsr (zb 1 [(2,(vI 0))] (zF ?_)))))
     exact zj (zh (vI 0) (⟨congrArg (fun z:Nat=>Value.int .i64 (z:Int)) (by unfold zaB;simp_all [Rec.eqb,Non.eqb,Rec.zero,Non.zero]<;>omega),hEw1⟩))
    ·refine zb 3 [(32,(vP w.heap.size 0)),(31,vF),(30,vF)] (za (zm w.heap.size 0 (hBw1.cell rfl) ?_))
     refine za (zaI 34 x.st 2 (fun hc34=> ?_) (fun hc34=> ?_))
     ·refine zb 1 [(35,vT)] (wEt (zk (wsr (zb 1 [(2,(vI 0))] (zF ?_)))))
      exact zj (zh (vI 0) (⟨congrArg (fun z:Nat=>Value.int .i64 (z:Int)) (by unfold zaB;simp_all [Rec.eqb,Non.eqb,Rec.zero,Non.zero]<;>omega),hEw1⟩))
     ·refine zb 1 [(35,vF)] (wEt (zf (zl (zc (wsr (zb 1 [(2,(vI 1))] (zq ?_)))))))
      exact zc (zaH (zh (vI 1) (⟨congrArg (fun z:Nat=>Value.int .i64 (z:Int)) (by unfold zaB;simp_all [Rec.eqb,Non.eqb,Rec.zero,Non.zero]<;>omega),hEw1⟩)))
 ·refine zb 13 [(3,vF),(19,vF),(18,undef),(17,undef),(16,undef),(15,undef),(14,vF),(13,vF),(12,undef),(11,undef),(10,undef),(9,undef),(8,vF)] (zM (zb 1 [(20,(vP w.heap.size 0))] (za (zm w.heap.size 0 (hBw1.cell rfl) ?_))))
  refine za (zaI 22 x.st 0 (fun hc22=> ?_) (fun hc22=> ?_))
  ·refine zb 5 [(27,(vP w.heap.size 0)),(26,vF),(25,vF),(24,vF),(23,vT)] (za (zm w.heap.size 0 (hBw1.cell rfl) ?_))
   refine za (zaI 29 x.st 1 (fun hc29=> ?_) (fun hc29=> ?_))
   ·refine zb 6 [(35,vT),(34,undef),(33,undef),(32,undef),(31,vT),(30,vT)] (wEt (zk (wsr (zb 1 [(2,(vI 0))] (zF ?_)))))
    exact zj (zh (vI 0) (⟨congrArg (fun z:Nat=>Value.int .i64 (z:Int)) (by unfold zaB;simp_all [Rec.eqb,Non.eqb,Rec.zero,Non.zero]<;>omega),hEw1⟩))
   ·refine zb 3 [(32,(vP w.heap.size 0)),(31,vF),(30,vF)] (za (zm w.heap.size 0 (hBw1.cell rfl) ?_))
    refine za (zaI 34 x.st 2 (fun hc34=> ?_) (fun hc34=> ?_))
    ·refine zb 1 [(35,vT)] (wEt (zk (wsr (zb 1 [(2,(vI 0))] (zF ?_)))))
     exact zj (zh (vI 0) (⟨congrArg (fun z:Nat=>Value.int .i64 (z:Int)) (by unfold zaB;simp_all [Rec.eqb,Non.eqb,Rec.zero,Non.zero]<;>omega),hEw1⟩))
    ·refine zb 1 [(35,vF)] (wEt (zf (zl (zc (wsr (zb 1 [(2,(vI 1))] (zq ?_)))))))
     exact zc (zaH (zh (vI 1) (⟨congrArg (fun z:Nat=>Value.int .i64 (z:Int)) (by unfold zaB;simp_all [Rec.eqb,Non.eqb,Rec.zero,Non.zero]<;>omega),hEw1⟩)))
  ·refine zb 5 [(27,(vP w.heap.size 0)),(26,vF),(25,vF),(24,undef),(23,vF)] (za (zm w.heap.size 0 (hBw1.cell rfl) ?_))
   refine za (zaI 29 x.st 1 (fun hc29=> ?_) (fun hc29=> ?_))
   ·refine zb 6 [(35,vT),(34,undef),(33,undef),(32,undef),(31,vT),(30,vT)] (wEt (zk (wsr (zb 1 [(2,(vI 0))] (zF ?_)))))
    exact zj (zh (vI 0) (⟨congrArg (fun z:Nat=>Value.int .i64 (z:Int)) (by unfold zaB;simp_all [Rec.eqb,Non.eqb,Rec.zero,Non.zero]<;>omega),hEw1⟩))
   ·refine zb 3 [(32,(vP w.heap.size 0)),(31,vF),(30,vF)] (za (zm w.heap.size 0 (hBw1.cell rfl) ?_))
    refine za (zaI 34 x.st 2 (fun hc34=> ?_) (fun hc34=> ?_))
    ·refine zb 1 [(35,vT)] (wEt (zk (wsr (zb 1 [(2,(vI 0))] (zF ?_)))))
     exact zj (zh (vI 0) (⟨congrArg (fun z:Nat=>Value.int .i64 (z:Int)) (by unfold zaB;simp_all [Rec.eqb,Non.eqb,Rec.zero,Non.zero]<;>omega),hEw1⟩))
    ·refine zb 1 [(35,vF)] (wEt (zf (zl (zc (wsr (zb 1 [(2,(vI 1))] (zq ?_)))))))
     exact zc (zaH (zh (vI 1) (⟨congrArg (fun z:Nat=>Value.int .i64 (z:Int)) (by unfold zaB;simp_all [Rec.eqb,Non.eqb,Rec.zero,Non.zero]<;>omega),hEw1⟩)))
theorem zkY (x:Ent) (w:World):
  Calls Tryz.prog 106 #[(vA (zW x))] w (Ret fun r w'=>r=(vI (za3 x))∧Ext w w'):=by
 refine zw (n:=22) (σ:= [(0,(vA (zW x)))]) Tryz.func106 rfl ?_
 refine wsr (za (zS (Instr.box 71 (vA (zW x))) (vP w.heap.size 0) (zW x) 71 ?_))
 intro w1 hBw1 hEw1 hzw1 hlw1
 refine zb 1 [(2,(vI 0))] (zM (zb 1 [(3,(vP w.heap.size 0))] (za (zm w.heap.size 0 (hBw1.cell rfl) ?_))))
 refine za (zaI 5 x.st 0 (fun hc5=> ?_) (fun hc5=> ?_))
 ·refine zb 2 [(7,(vP w.heap.size 1)),(6,vT)] (za (zQ w.heap.size 1 (hBw1.at 1 (zK x.dg) (zfY _)) (zar _) ?_))
  refine zb 1 [(9,(vA (zK Dig.zero)))] ?_
  rcases Bool.eq_false_or_eq_true (x.dg.l==Dig.zero.l) with hq10 | hq10
  ·refine za (zbG (some 10) (bo .eql 59 (.tmp 8) (.tmp 9) (vA (zK x.dg)) (vA (zK Dig.zero))) vT (zeF (r:=true) (T:=59) ((zbS (dd:=9998) (t:=59) (e:=5) x.dg Dig.zero).trans (congrArg (fun b=>Result.ok b _) (show (x.dg.l==Dig.zero.l)=true from hq10)))) ?_)
   refine zb 11 [(21,vT),(20,undef),(19,undef),(18,undef),(17,vT),(16,vT),(15,undef),(14,undef),(13,undef),(12,vT),(11,vT)] (wEt (zk (wsr (zb 1 [(2,(vI 0))] (zF ?_)))))
   exact zj (zh (vI 0) (⟨congrArg (fun z:Nat=>Value.int .i64 (z:Int)) (by unfold za3;simp_all [Ent.eqb,Ent.zero]<;>omega),hEw1⟩))
  ·refine za (zbG (some 10) (bo .eql 59 (.tmp 8) (.tmp 9) (vA (zK x.dg)) (vA (zK Dig.zero))) vF (zeF (r:=false) (T:=59) ((zbS (dd:=9998) (t:=59) (e:=5) x.dg Dig.zero).trans (congrArg (fun b=>Result.ok b _) (show (x.dg.l==Dig.zero.l)=false from hq10)))) ?_)
   refine zb 3 [(13,(vP w.heap.size 0)),(12,vF),(11,vF)] (za (zm w.heap.size 0 (hBw1.cell rfl) ?_))
   refine za (zaI 15 x.st 1 (fun hc15=> ?_) (fun hc15=> ?_))
   ·refine zb 6 [(21,vT),(20,undef),(19,undef),(18,undef),(17,vT),(16,vT)] (wEt (zk (wsr (zb 1 [(2,(vI 0))] (zF ?_)))))
    exact zj (zh (vI 0) (⟨congrArg (fun z:Nat=>Value.int .i64 (z:Int)) (by unfold za3;simp_all [Ent.eqb,Ent.zero]<;>omega),hEw1⟩))
   ·refine zb 3 [(18,(vP w.heap.size 0)),(17,vF),(16,vF)] (za (zm w.heap.size 0 (hBw1.cell rfl) ?_))
    refine za (zaI 20 x.st 2 (fun hc20=> ?_) (fun hc20=> ?_))
    ·refine zb 1 [(21,vT)] (wEt (zk (wsr (zb 1 [(2,(vI 0))] (zF ?_)))))
     exact zj (zh (vI 0) (⟨congrArg (fun z:Nat=>Value.int .i64 (z:Int)) (by unfold za3;simp_all [Ent.eqb,Ent.zero]<;>omega),hEw1⟩))
    ·refine zb 1 [(21,vF)] (wEt (zf (zl (zc (wsr (zb 1 [(2,(vI 1))] (zq ?_)))))))
     exact zc (zaH (zh (vI 1) (⟨congrArg (fun z:Nat=>Value.int .i64 (z:Int)) (by unfold za3;simp_all [Ent.eqb,Ent.zero]<;>omega),hEw1⟩)))
 ·refine zb 8 [(13,(vP w.heap.size 0)),(12,vF),(11,vF),(10,undef),(9,undef),(8,undef),(7,undef),(6,vF)] (za (zm w.heap.size 0 (hBw1.cell rfl) ?_))
  refine za (zaI 15 x.st 1 (fun hc15=> ?_) (fun hc15=> ?_))
  ·refine zb 6 [(21,vT),(20,undef),(19,undef),(18,undef),(17,vT),(16,vT)] (wEt (zk (wsr (zb 1 [(2,(vI 0))] (zF ?_)))))
   exact zj (zh (vI 0) (⟨congrArg (fun z:Nat=>Value.int .i64 (z:Int)) (by unfold za3;simp_all [Ent.eqb,Ent.zero]<;>omega),hEw1⟩))
  ·refine zb 3 [(18,(vP w.heap.size 0)),(17,vF),(16,vF)] (za (zm w.heap.size 0 (hBw1.cell rfl) ?_))
   refine za (zaI 20 x.st 2 (fun hc20=> ?_) (fun hc20=> ?_))
   ·refine zb 1 [(21,vT)] (wEt (zk (wsr (zb 1 [(2,(vI 0))] (zF ?_)))))
    exact zj (zh (vI 0) (⟨congrArg (fun z:Nat=>Value.int .i64 (z:Int)) (by unfold za3;simp_all [Ent.eqb,Ent.zero]<;>omega),hEw1⟩))
   ·refine zb 1 [(21,vF)] (wEt (zf (zl (zc (wsr (zb 1 [(2,(vI 1))] (zq ?_)))))))
    exact zc (zaH (zh (vI 1) (⟨congrArg (fun z:Nat=>Value.int .i64 (z:Int)) (by unfold za3;simp_all [Ent.eqb,Ent.zero]<;>omega),hEw1⟩)))
theorem zjH (x:Non) (w:World):
  Calls Tryz.prog 134 #[(vA (zbb x))] w (Ret fun r w'=>∃a0,r=(.slice a0 12 12)∧Bs w.heap.size w'.heap.size w' a0 12 12 (zbC x)∧Ext w w'):=by
 refine zw (n:=11) (σ:= [(0,(vA (zbb x)))]) Tryz.func134 rfl ?_
 refine wsr (za (zS (Instr.box 56 (vA (zbb x))) (vP w.heap.size 0) (zbb x) 56 ?_))
 intro w1 hBw1 hEw1 hzw1 hlw1
 refine zb 1 [(2,(.slice none 0 0))] (wEt (zd (zY 9 (fun w2 hEw2 hzw2 hT187=> ?_))))
 refine ze hT187 [(0,3,(vP w.heap.size 0))] 1 (zx hT187 1 w.heap.size 0 (fun w' hC=>(((hBw1.ext hEw2).ext hC).cell rfl)) (ze hT187 [(3,6,(vP w.heap.size 1))] 1 (zx hT187 4 w.heap.size 1 (fun w' hC=>(((hBw1.ext hEw2).ext hC).cell rfl)) (zy 2 (zt (zgg x.sh _ (x.hsh)) ?_)))))
 rintro _ w3 ⟨a1,rfl,hFz1_0,hEw3⟩
 have hzw3:=hEw3.size
 refine ⟨.inr hEw3, ?_⟩
 refine zy 5 (zt (znz x.ct _) ?_)
 rintro _ w4 ⟨a2,rfl,hFz2_0,hEw4⟩
 have hzw4:=hEw4.size
 have hX1:Ext w2 w4:=(hEw3.trans hEw4)
 refine ⟨.inr hX1, ?_⟩
 refine zy 6 (zS (Instr.buildSlice 190 2 #[(0,(.slice a1 4 4)),(1,(.slice a2 8 8))]) (.slice (pA w4.heap.size 0) 2 2) [(.slice a1 4 4),(.slice a2 8 8)] 23 ?_)
 intro w5 hBw5 hEw5 hzw5 hlw5
 have hSw5:Ps 0 w5.heap.size w5 (pA w4.heap.size 0) 2 2 [(.slice a1 4 4),(.slice a2 8 8)] [be x.sh 4,be x.ct 8]:=Ps.of_new hBw5 rfl (by decide) (zbg.cons (zde.at ((hFz1_0.ext hEw4).ext hEw5)) (zbg.cons (zde.at (hFz2_0.ext hEw5)) zbg.nil))
 have hX2:Ext w2 w5:=((hEw3.trans hEw4).trans hEw5)
 refine ⟨.inr hX2, ?_⟩
 refine zy 7 (zt (zjB _ hSw5 (by simp [zaa]<;>omega)) ?_)
 rintro _ w6 ⟨a3,rfl,hFz3_0,hFz3_1,hFz3_2,hFz3_3,hEw6⟩
 have hzw6:=hEw6.size
 have hla3:=hFz3_1.lt;have hna3:=hFz3_3
 have hSa3:Bs a3 (a3+1) w6 (pA a3 0) (zaa ([be x.sh 4,be x.ct 8])) (zaa ([be x.sh 4,be x.ct 8])) (([be x.sh 4,be x.ct 8]).flatten):=Bs.of_blk hFz3_1 rfl hFz3_2 (Nat.le_refl _) (zcI hna3) (Nat.le_refl _) (Nat.lt_succ_self _)
 rw [show zaa ([be x.sh 4,be x.ct 8])=12 from by simp [zaa]]
 have hX3:Ext w2 w6:=(((hEw3.trans hEw4).trans hEw5).trans hEw6)
 refine ⟨.inr hX3, ?_⟩
 exact ze (hw:=hX3) hT187 [(8,2,(.slice (pA a3 0) 12 12))] 1 (zB (zc (zaH (zh (.slice (pA a3 0) 12 12) (⟨_,rfl,by simpa [zbC,zaa] using hSa3.mono (by omega) (by omega),((hEw1.trans hEw2).trans hX3)⟩)))))
theorem ziF (x:Non) (w:World):
  Calls Tryz.prog 129 #[(vA (zbb x))] w (Ret fun r w'=>∃a0 ca0,r=(.slice a0 12 ca0)∧Es u8v w.heap.size w'.heap.size w' a0 12 ca0 (zbC x)∧Ext w w'):=by
 refine zw (n:=10) (σ:= [(0,(vA (zbb x)))]) Tryz.func129 rfl ?_
 refine wsr (za (zS (Instr.box 56 (vA (zbb x))) (vP w.heap.size 0) (zbb x) 56 ?_))
 intro w1 hBw1 hEw1 hzw1 hlw1
 refine zb 1 [(2,(.slice none 0 0))] (wEt (zd (zY 8 (fun w2 hEw2 hzw2 hT217=> ?_))))
 refine ze hT217 [(0,3,(vP w.heap.size 0))] 1 (zx hT217 1 w.heap.size 0 (fun w' hC=>(((hBw1.ext hEw2).ext hC).cell rfl)) (ze hT217 [(3,6,(vP w.heap.size 1))] 1 (zx hT217 4 w.heap.size 1 (fun w' hC=>(((hBw1.ext hEw2).ext hC).cell rfl)) (zy 2 (zt (zlm x.sh _ (x.hsh)) ?_)))))
 rintro _ w3 ⟨a1,rfl,hFz1_0,hFz1_1,hFz1_2,hFz1_3,hEw3⟩
 have hzw3:=hEw3.size
 have hla1:=hFz1_1.lt;have hna1:=hFz1_3
 have hSa1:Bs a1 (a1+1) w3 (pA a1 0) 4 4 (be x.sh 4):=Bs.of_blk hFz1_1 rfl hFz1_2 (Nat.le_refl _) (zcI hna1) (Nat.le_refl _) (Nat.lt_succ_self _)
 refine ⟨.inr hEw3, ?_⟩
 refine zy 5 (zt (zk7 x.ct _ (x.hct)) ?_)
 rintro _ w4 ⟨a2,rfl,hFz2_0,hFz2_1,hFz2_2,hFz2_3,hEw4⟩
 have hzw4:=hEw4.size
 have hla2:=hFz2_1.lt;have hna2:=hFz2_3
 have hSa2:Bs a2 (a2+1) w4 (pA a2 0) 8 8 (be x.ct 8):=Bs.of_blk hFz2_1 rfl hFz2_2 (Nat.le_refl _) (zcI hna2) (Nat.le_refl _) (Nat.lt_succ_self _)
 have hX1:Ext w2 w4:=(hEw3.trans hEw4)
 refine ⟨.inr hX1, ?_⟩
 have hO1:Cs.Own u8v a1 (a1+1) w4 (pA a1 0) 4 4 5 (be x.sh 4):=Cs.Own.of_blk (hFz1_1.ext hEw4) (by simp) (by first | rfl | exact rfl) (hSa1.ext hEw4).len_eq (Nat.le_refl _) (by simp only [maxLen];omega) (Nat.le_refl _) (Nat.lt_succ_self _)
 refine zy 6 (zbr (some 9) 23 23 5 1 (.int .u8 0) hO1 hSa2.es (fun _=>rfl) ?_)
 intro a3 c1 w5 hOw5 hCw5
 have hzw5:=hCw5.size
 have hSw5:=hOw5.bs
 have hX2:Ext w2 w5:=(Ext.ownS (hEw3.trans hEw4) hCw5 (fun k hs hk=>by have hn:=hO1.ne hs;omega))
 refine ⟨.inr hX2, ?_⟩
 refine ze (hw:=hX2) hT217 [(7,2,(.slice a3 (4+8) c1))] 1 (zB (zc (zaH (zh (.slice a3 (4+8) c1) ?_))))
 have hX3:Ext w w5:=(Ext.ownS (((hEw1.trans hEw2).trans hEw3).trans hEw4) hCw5 (fun k hs hk=>by have hn:=hO1.ne hs;omega))
 exact ⟨_,_,rfl,by have hz:=hOw5;simpa [zbC,zb0,zcp,zdJ] using (hz.es.mono (lo':=w.heap.size) (hi':=w5.heap.size) (by omega) (by omega)),hX3⟩
theorem zpY (x:Rec) (w:World):
  Calls Tryz.prog 103 #[(vA (zL x))] w (Ret fun r w'=>∃a0 ca0,r=(.slice a0 45 ca0)∧Es u8v w.heap.size w'.heap.size w' a0 45 ca0 (zb0 x)∧Ext w w'):=by
 refine zw (n:=13) (σ:= [(0,(vA (zL x)))]) Tryz.func103 rfl ?_
 refine wsr (za (zS (Instr.box 68 (vA (zL x))) (vP w.heap.size 0) (zL x) 68 ?_))
 intro w1 hBw1 hEw1 hzw1 hlw1
 refine zb 1 [(2,(.slice none 0 0))] (wEt (zd (zY 11 (fun w2 hEw2 hzw2 hT247=> ?_))))
 refine ze hT247 [(0,3,(vP w.heap.size 0))] 1 (zx hT247 1 w.heap.size 0 (fun w' hC=>(((hBw1.ext hEw2).ext hC).cell rfl)) (ze hT247 [(3,6,(vP w.heap.size 1))] 1 (zaq hT247 4 w.heap.size 1 (fun w' hC=>(((hBw1.ext hEw2).ext hC).at 1 (zbb x.non) (zm9 _))) (zfN _) (ze hT247 [(7,10,(vP w.heap.size 3))] 1 (zr hT247 8 (.slice (pA w.heap.size 3) 32 32) (zai (Instr.sliceAt 59 (vP w.heap.size 3) none none none) (fun w' hC=>zjK (E:=5) (sz:=1) (m:=32))) ?_)))))
 have hS1:Bs w.heap.size (w.heap.size+1) w2 (pA w.heap.size 3) 32 32 x.tag.l:=Bs.of_at ((hBw1.ext hEw2).at 3 (zK x.tag) (zg3 _)) ((hBw1.ext hEw2)).lt x.tag.h.symm (by decide) (by omega) (by omega)
 refine zbB 2 5 ?_ ?_
 ·refine zS (Instr.buildSlice 23 1 #[(0,(vB x.st))]) (.slice (pA w2.heap.size 0) 1 1) [(vB x.st)] 5 ?_
  intro w3 hBw3 hEw3 hzw3 hlw3
  have hSw3:Bs w2.heap.size (w2.heap.size+1) w3 (pA w2.heap.size 0) 1 1 [UInt8.ofNat x.st]:=Bs.of_blk hBw3 (zdb x.hst) rfl (Nat.le_refl _) (by decide) (Nat.le_refl _) (Nat.lt_succ_self _)
  refine ⟨.inr hEw3, ?_⟩
  refine zy 5 (zt (ziF x.non _) ?_)
  rintro _ w4 ⟨a1,ca1,rfl,hFz1_0,hEw4⟩
  have hzw4:=hEw4.size
  have hlea1:=hFz1_0.le
  have hba1:=hFz1_0.bs
  have hX1:Ext w2 w4:=(hEw3.trans hEw4)
  refine ⟨.inr hX1, ?_⟩
  have hO1:Cs.Own u8v w2.heap.size (w2.heap.size+1) w4 (pA w2.heap.size 0) 1 1 5 ([UInt8.ofNat x.st]):=Cs.Own.of_blk (hBw3.ext hEw4) (by simp) (by first | rfl | exact (zdb x.hst)) (hSw3.ext hEw4).len_eq (Nat.le_refl _) (by simp only [maxLen];omega) (Nat.le_refl _) (Nat.lt_succ_self _)
  refine zy 6 (zbr (some 9) 23 23 5 1 (.int .u8 0) hO1 hba1.es (fun _=>rfl) ?_)
  intro a2 c1 w5 hOw5 hCw5
  have hzw5:=hCw5.size
  have hSw5:=hOw5.bs
  have hX2:Ext w2 w5:=(Ext.ownS (hEw3.trans hEw4) hCw5 (fun k hs hk=>by have hn:=hO1.ne hs;omega))
  refine ⟨.inr hX2, ?_⟩
  have hK1:=((((hS1.ext hEw3).ext hEw4)).chg hCw5 (fun k h1 h2 hs=>by have hn:=hO1.ne hs;omega))
  refine zy 9 (zbr (some 12) 23 23 5 1 (.int .u8 0) hOw5 hK1.es (fun _=>rfl) ?_)
  intro a3 c2 w6 hOw6 hCw6
  have hzw6:=hCw6.size
  have hSw6:=hOw6.bs
  have hX3:Ext w2 w6:=(Ext.ownS (Ext.ownS (hEw3.trans hEw4) hCw5 (fun k hs hk=>by have hn:=hO1.ne hs;omega)) hCw6 (fun k hs hk=>by have hn:=hOw5.ne hs;omega))
  refine ⟨.inr hX3, ?_⟩
  exact ze (hw:=hX3) hT247 [(10,2,(.slice a3 (1+12+32) c2))] 1 (zB (zc (zaH (zh (.slice a3 (1+12+32) c2) (⟨_,_,rfl,by have hz:=hOw6;simpa [zbC,zb0,zcp,zdJ] using (hz.es.mono (lo':=w.heap.size) (hi':=w6.heap.size) (by omega) (by omega)),((hEw1.trans hEw2).trans hX3)⟩)))))
 ·refine zt (ziF x.non _) ?_
  rintro _ w7 ⟨a4,ca4,rfl,hFz2_0,hEw7⟩
  have hzw7:=hEw7.size
  have hlea4:=hFz2_0.le
  have hba4:=hFz2_0.bs
  refine ⟨.inr hEw7, ?_⟩
  refine zy 2 (zS (Instr.buildSlice 23 1 #[(0,(vB x.st))]) (.slice (pA w7.heap.size 0) 1 1) [(vB x.st)] 5 ?_)
  intro w8 hBw8 hEw8 hzw8 hlw8
  have hSw8:Bs w7.heap.size (w7.heap.size+1) w8 (pA w7.heap.size 0) 1 1 [UInt8.ofNat x.st]:=Bs.of_blk hBw8 (zdb x.hst) rfl (Nat.le_refl _) (by decide) (Nat.le_refl _) (Nat.lt_succ_self _)
  have hX4:Ext w2 w8:=(hEw7.trans hEw8)
  refine ⟨.inr hX4, ?_⟩
  have hO2:Cs.Own u8v w7.heap.size (w7.heap.size+1) w8 (pA w7.heap.size 0) 1 1 5 ([UInt8.ofNat x.st]):=Cs.Own.of_blk hBw8 (by simp) (by first | rfl | exact (zdb x.hst)) hSw8.len_eq (Nat.le_refl _) (by simp only [maxLen];omega) (Nat.le_refl _) (Nat.lt_succ_self _)
  refine zy 6 (zbr (some 9) 23 23 5 1 (.int .u8 0) hO2 (hba4.ext hEw8).es (fun _=>rfl) ?_)
  intro a5 c3 w9 hOw9 hCw9
  have hzw9:=hCw9.size
  have hSw9:=hOw9.bs
  have hX5:Ext w2 w9:=(Ext.ownS (hEw7.trans hEw8) hCw9 (fun k hs hk=>by have hn:=hO2.ne hs;omega))
  refine ⟨.inr hX5, ?_⟩
  have hK2:=((((hS1.ext hEw7).ext hEw8)).chg hCw9 (fun k h1 h2 hs=>by have hn:=hO2.ne hs;omega))
  refine zy 9 (zbr (some 12) 23 23 5 1 (.int .u8 0) hOw9 hK2.es (fun _=>rfl) ?_)
  intro a6 c4 w10 hOw10 hCw10
  have hzw10:=hCw10.size
  have hSw10:=hOw10.bs
  have hX6:Ext w2 w10:=(Ext.ownS (Ext.ownS (hEw7.trans hEw8) hCw9 (fun k hs hk=>by have hn:=hO2.ne hs;omega)) hCw10 (fun k hs hk=>by have hn:=hOw9.ne hs;omega))
  refine ⟨.inr hX6, ?_⟩
  exact ze (hw:=hX6) hT247 [(10,2,(.slice a6 (1+12+32) c4))] 1 (zB (zc (zaH (zh (.slice a6 (1+12+32) c4) (⟨_,_,rfl,by have hz:=hOw10;simpa [zbC,zb0,zcp,zdJ] using (hz.es.mono (lo':=w.heap.size) (hi':=w10.heap.size) (by omega) (by omega)),((hEw1.trans hEw2).trans hX6)⟩)))))
theorem zrI (x:Ent) (w:World):
  Calls Tryz.prog 104 #[(vA (zW x))] w (Ret fun r w'=>∃a0 ca0,r=(.slice a0 33 ca0)∧Es u8v w.heap.size w'.heap.size w' a0 33 ca0 (zcp x)∧Ext w w'):=by
 refine zw (n:=9) (σ:= [(0,(vA (zW x)))]) Tryz.func104 rfl ?_
 refine wsr (za (zS (Instr.box 71 (vA (zW x))) (vP w.heap.size 0) (zW x) 71 ?_))
 intro w1 hBw1 hEw1 hzw1 hlw1
 refine zb 1 [(2,(.slice none 0 0))] (wEt (zd (zY 7 (fun w2 hEw2 hzw2 hT309=> ?_))))
 refine ze hT309 [(0,3,(vP w.heap.size 0))] 1 (zx hT309 1 w.heap.size 0 (fun w' hC=>(((hBw1.ext hEw2).ext hC).cell rfl)) (ze hT309 [(3,6,(vP w.heap.size 1))] 1 (zr hT309 4 (.slice (pA w.heap.size 1) 32 32) (zai (Instr.sliceAt 59 (vP w.heap.size 1) none none none) (fun w' hC=>zjK (E:=5) (sz:=1) (m:=32))) ?_)))
 have hS1:Bs w.heap.size (w.heap.size+1) w2 (pA w.heap.size 1) 32 32 x.dg.l:=Bs.of_at ((hBw1.ext hEw2).at 1 (zK x.dg) (zfY _)) ((hBw1.ext hEw2)).lt x.dg.h.symm (by decide) (by omega) (by omega)
 refine zy 2 (zS (Instr.buildSlice 23 1 #[(0,(vB x.st))]) (.slice (pA w2.heap.size 0) 1 1) [(vB x.st)] 5 ?_)
 intro w3 hBw3 hEw3 hzw3 hlw3
 have hSw3:Bs w2.heap.size (w2.heap.size+1) w3 (pA w2.heap.size 0) 1 1 [UInt8.ofNat x.st]:=Bs.of_blk hBw3 (zdb x.hst) rfl (Nat.le_refl _) (by decide) (Nat.le_refl _) (Nat.lt_succ_self _)
 refine ⟨.inr hEw3, ?_⟩
 have hO1:Cs.Own u8v w2.heap.size (w2.heap.size+1) w3 (pA w2.heap.size 0) 1 1 5 ([UInt8.ofNat x.st]):=Cs.Own.of_blk hBw3 (by simp) (by first | rfl | exact (zdb x.hst)) hSw3.len_eq (Nat.le_refl _) (by simp only [maxLen];omega) (Nat.le_refl _) (Nat.lt_succ_self _)
 refine zy 5 (zbr (some 8) 23 23 5 1 (.int .u8 0) hO1 (hS1.ext hEw3).es (fun _=>rfl) ?_)
 intro a1 c1 w4 hOw4 hCw4
 have hzw4:=hCw4.size
 have hSw4:=hOw4.bs
 have hX1:Ext w2 w4:=(Ext.ownS hEw3 hCw4 (fun k hs hk=>by have hn:=hO1.ne hs;omega))
 refine ⟨.inr hX1, ?_⟩
 refine ze (hw:=hX1) hT309 [(6,2,(.slice a1 (1+32) c1))] 1 (zB (zc (zaH (zh (.slice a1 (1+32) c1) ?_))))
 have hX2:Ext w w4:=(Ext.ownS ((hEw1.trans hEw2).trans hEw3) hCw4 (fun k hs hk=>by have hn:=hO1.ne hs;omega))
 exact ⟨_,_,rfl,by have hz:=hOw4;simpa [zbC,zb0,zcp,zdJ] using (hz.es.mono (lo':=w.heap.size) (hi':=w4.heap.size) (by omega) (by omega)),hX2⟩
theorem zm1 (x:Rec) (w:World) (hp0:zaB x=0):
  Calls Tryz.prog 115 #[(vA (zL x))] w (Ret fun r w'=>∃a0,r=(.tuple #[(.slice a0 45 45),(vI 0)])∧Bs w.heap.size w'.heap.size w' a0 45 45 (zb0 x)∧Ext w w'):=by
 refine zw (n:=20) (σ:= [(0,(vA (zL x)))]) Tryz.func115 rfl ?_
 refine wsr (za (zS (Instr.box 68 (vA (zL x))) (vP w.heap.size 0) (zL x) 68 ?_))
 intro w1 hBw1 hEw1 hzw1 hlw1
 refine zb 2 [(3,(vI 0)),(2,(.slice none 0 0))] (zM (za (zQ w.heap.size 0 (hBw1.all) (zab _) ?_)))
 refine za (zt (zf5 x _) ?_)
 rintro _ w2 ⟨rfl,hEw2⟩
 have hzw2:=hEw2.size
 refine zb 1 [(4,(vI (zaB x)))] (zz (zb 1 [(7,(vI (zaB x)))] (za (zbn (some 8) (((zaB x:Nat):Int) !=((0:Nat):Int)) false (zcb) ?_))))
 refine wEt (zf (zl (zc (zd (zY 12 (fun w3 hEw3 hzw3 hT365=> ?_))))))
 refine ze hT365 [(0,10,(vP w.heap.size 0))] 1 (zx hT365 1 w.heap.size 0 (fun w' hC=>((((hBw1.ext hEw2).ext hEw3).ext hC).cell rfl)) (ze hT365 [(3,13,(vP w.heap.size 1))] 1 (zaq hT365 4 w.heap.size 1 (fun w' hC=>((((hBw1.ext hEw2).ext hEw3).ext hC).at 1 (zbb x.non) (zm9 _))) (zfN _) (ze hT365 [(6,16,(vP w.heap.size 3))] 1 (zr hT365 7 (.slice (pA w.heap.size 3) 32 32) (zai (Instr.sliceAt 59 (vP w.heap.size 3) none none none) (fun w' hC=>zjK (E:=5) (sz:=1) (m:=32))) ?_)))))
 have hS1:Bs w.heap.size (w.heap.size+1) w3 (pA w.heap.size 3) 32 32 x.tag.l:=Bs.of_at (((hBw1.ext hEw2).ext hEw3).at 3 (zK x.tag) (zg3 _)) (((hBw1.ext hEw2).ext hEw3)).lt x.tag.h.symm (by decide) (by omega) (by omega)
 refine zbB 2 5 ?_ ?_
 ·refine zS (Instr.buildSlice 23 1 #[(0,(vB x.st))]) (.slice (pA w3.heap.size 0) 1 1) [(vB x.st)] 5 ?_
  intro w4 hBw4 hEw4 hzw4 hlw4
  have hSw4:Bs w3.heap.size (w3.heap.size+1) w4 (pA w3.heap.size 0) 1 1 [UInt8.ofNat x.st]:=Bs.of_blk hBw4 (zdb x.hst) rfl (Nat.le_refl _) (by decide) (Nat.le_refl _) (Nat.lt_succ_self _)
  refine ⟨.inr hEw4, ?_⟩
  refine zy 5 (zt (zjH x.non _) ?_)
  rintro _ w5 ⟨a1,rfl,hFz2_0,hEw5⟩
  have hzw5:=hEw5.size
  have hX1:Ext w3 w5:=(hEw4.trans hEw5)
  refine ⟨.inr hX1, ?_⟩
  refine zy 8 (zS (Instr.buildSlice 190 3 #[(0,(.slice (pA w3.heap.size 0) 1 1)),(1,(.slice a1 12 12)),(2,(.slice (pA w.heap.size 3) 32 32))]) (.slice (pA w5.heap.size 0) 3 3) [(.slice (pA w3.heap.size 0) 1 1),(.slice a1 12 12),(.slice (pA w.heap.size 3) 32 32)] 23 ?_)
  intro w6 hBw6 hEw6 hzw6 hlw6
  have hK1:=(((hS1.ext hEw4).ext hEw5).ext hEw6)
  have hSw6:Ps 0 w6.heap.size w6 (pA w5.heap.size 0) 3 3 [(.slice (pA w3.heap.size 0) 1 1),(.slice a1 12 12),(.slice (pA w.heap.size 3) 32 32)] [[UInt8.ofNat x.st],zbC x.non,x.tag.l]:=Ps.of_new hBw6 rfl (by decide) (zbg.cons (zde.at ((hSw4.ext hEw5).ext hEw6)) (zbg.cons (zde.at (hFz2_0.ext hEw6)) (zbg.cons (zde.at hK1) zbg.nil)))
  have hX2:Ext w3 w6:=((hEw4.trans hEw5).trans hEw6)
  refine ⟨.inr hX2, ?_⟩
  refine zy 9 (zt (zjB _ hSw6 (by simp [zaa,zbC,x.tag.h])) ?_)
  rintro _ w7 ⟨a2,rfl,hFz3_0,hFz3_1,hFz3_2,hFz3_3,hEw7⟩
  have hzw7:=hEw7.size
  have hla2:=hFz3_1.lt;have hna2:=hFz3_3
  have hSa2:Bs a2 (a2+1) w7 (pA a2 0) (zaa ([[UInt8.ofNat x.st],zbC x.non,x.tag.l])) (zaa ([[UInt8.ofNat x.st],zbC x.non,x.tag.l])) (([[UInt8.ofNat x.st],zbC x.non,x.tag.l]).flatten):=Bs.of_blk hFz3_1 rfl hFz3_2 (Nat.le_refl _) (zcI hna2) (Nat.le_refl _) (Nat.lt_succ_self _)
  rw [show zaa ([[UInt8.ofNat x.st],zbC x.non,x.tag.l])=45 from by simp [zaa,zbC,x.tag.h]]
  have hX3:Ext w3 w7:=(((hEw4.trans hEw5).trans hEw6).trans hEw7)
  refine ⟨.inr hX3, ?_⟩
  refine ze (hw:=hX3) hT365 [(10,2,(.slice (pA a2 0) 45 45)),(11,3,(vI 0))] 2 (zB (zc (zaH (zh (.tuple #[(.slice (pA a2 0) 45 45),(vI 0)]) ?_))))
  have hX4:Ext w w7:=(((hEw1.trans hEw2).trans hEw3).trans hX3)
  have hz:=hSa2
  rw [show zaa ([[UInt8.ofNat x.st],zbC x.non,x.tag.l])=45 from by simp [zaa,zbC,x.tag.h],show ([[UInt8.ofNat x.st],zbC x.non,x.tag.l]).flatten=zb0 x from by simp [zb0,zcp,zdJ]] at hz
  exact ⟨_,rfl,hz.mono (by omega) (by omega),hX4⟩
 ·refine zt (zjH x.non _) ?_
  rintro _ w8 ⟨a3,rfl,hFz4_0,hEw8⟩
  have hzw8:=hEw8.size
  refine ⟨.inr hEw8, ?_⟩
  refine zy 2 (zS (Instr.buildSlice 23 1 #[(0,(vB x.st))]) (.slice (pA w8.heap.size 0) 1 1) [(vB x.st)] 5 ?_)
  intro w9 hBw9 hEw9 hzw9 hlw9
  have hSw9:Bs w8.heap.size (w8.heap.size+1) w9 (pA w8.heap.size 0) 1 1 [UInt8.ofNat x.st]:=Bs.of_blk hBw9 (zdb x.hst) rfl (Nat.le_refl _) (by decide) (Nat.le_refl _) (Nat.lt_succ_self _)
  have hX5:Ext w3 w9:=(hEw8.trans hEw9)
  refine ⟨.inr hX5, ?_⟩
  refine zy 8 (zS (Instr.buildSlice 190 3 #[(0,(.slice (pA w8.heap.size 0) 1 1)),(1,(.slice a3 12 12)),(2,(.slice (pA w.heap.size 3) 32 32))]) (.slice (pA w9.heap.size 0) 3 3) [(.slice (pA w8.heap.size 0) 1 1),(.slice a3 12 12),(.slice (pA w.heap.size 3) 32 32)] 23 ?_)
  intro w10 hBw10 hEw10 hzw10 hlw10
  have hK2:=(((hS1.ext hEw8).ext hEw9).ext hEw10)
  have hSw10:Ps 0 w10.heap.size w10 (pA w9.heap.size 0) 3 3 [(.slice (pA w8.heap.size 0) 1 1),(.slice a3 12 12),(.slice (pA w.heap.size 3) 32 32)] [[UInt8.ofNat x.st],zbC x.non,x.tag.l]:=Ps.of_new hBw10 rfl (by decide) (zbg.cons (zde.at (hSw9.ext hEw10)) (zbg.cons (zde.at ((hFz4_0.ext hEw9).ext hEw10)) (zbg.cons (zde.at hK2) zbg.nil)))
  have hX6:Ext w3 w10:=((hEw8.trans hEw9).trans hEw10)
  refine ⟨.inr hX6, ?_⟩
  refine zy 9 (zt (zjB _ hSw10 (by simp [zaa,zbC,x.tag.h])) ?_)
  rintro _ w11 ⟨a4,rfl,hFz5_0,hFz5_1,hFz5_2,hFz5_3,hEw11⟩
  have hzw11:=hEw11.size
  have hla4:=hFz5_1.lt;have hna4:=hFz5_3
  have hSa4:Bs a4 (a4+1) w11 (pA a4 0) (zaa ([[UInt8.ofNat x.st],zbC x.non,x.tag.l])) (zaa ([[UInt8.ofNat x.st],zbC x.non,x.tag.l])) (([[UInt8.ofNat x.st],zbC x.non,x.tag.l]).flatten):=Bs.of_blk hFz5_1 rfl hFz5_2 (Nat.le_refl _) (zcI hna4) (Nat.le_refl _) (Nat.lt_succ_self _)
  rw [show zaa ([[UInt8.ofNat x.st],zbC x.non,x.tag.l])=45 from by simp [zaa,zbC,x.tag.h]]
  have hX7:Ext w3 w11:=(((hEw8.trans hEw9).trans hEw10).trans hEw11)
  refine ⟨.inr hX7, ?_⟩
  refine ze (hw:=hX7) hT365 [(10,2,(.slice (pA a4 0) 45 45)),(11,3,(vI 0))] 2 (zB (zc (zaH (zh (.tuple #[(.slice (pA a4 0) 45 45),(vI 0)]) ?_))))
  have hX8:Ext w w11:=(((hEw1.trans hEw2).trans hEw3).trans hX7)
  have hz:=hSa4
  rw [show zaa ([[UInt8.ofNat x.st],zbC x.non,x.tag.l])=45 from by simp [zaa,zbC,x.tag.h],show ([[UInt8.ofNat x.st],zbC x.non,x.tag.l]).flatten=zb0 x from by simp [zb0,zcp,zdJ]] at hz
  exact ⟨_,rfl,hz.mono (by omega) (by omega),hX8⟩
theorem zoe (x:Ent) (w:World) (hp0:za3 x=0):
  Calls Tryz.prog 118 #[(vA (zW x))] w (Ret fun r w'=>∃a0,r=(.tuple #[(.slice a0 33 33),(vI 0)])∧Bs w.heap.size w'.heap.size w' a0 33 33 (zcp x)∧Ext w w'):=by
 refine zw (n:=17) (σ:= [(0,(vA (zW x)))]) Tryz.func118 rfl ?_
 refine wsr (za (zS (Instr.box 71 (vA (zW x))) (vP w.heap.size 0) (zW x) 71 ?_))
 intro w1 hBw1 hEw1 hzw1 hlw1
 refine zb 2 [(3,(vI 0)),(2,(.slice none 0 0))] (zM (za (zQ w.heap.size 0 (hBw1.all) (zat _) ?_)))
 refine za (zt (zie x _) ?_)
 rintro _ w2 ⟨rfl,hEw2⟩
 have hzw2:=hEw2.size
 refine zb 1 [(4,(vI (za3 x)))] (zz (zb 1 [(7,(vI (za3 x)))] (za (zbn (some 8) (((za3 x:Nat):Int) !=((0:Nat):Int)) false (zcb) ?_))))
 refine wEt (zf (zl (zc (zd (zY 9 (fun w3 hEw3 hzw3 hT450=> ?_))))))
 refine ze hT450 [(0,10,(vP w.heap.size 0))] 1 (zx hT450 1 w.heap.size 0 (fun w' hC=>((((hBw1.ext hEw2).ext hEw3).ext hC).cell rfl)) (ze hT450 [(3,13,(vP w.heap.size 1))] 1 (zr hT450 4 (.slice (pA w.heap.size 1) 32 32) (zai (Instr.sliceAt 59 (vP w.heap.size 1) none none none) (fun w' hC=>zjK (E:=5) (sz:=1) (m:=32))) ?_)))
 have hS1:Bs w.heap.size (w.heap.size+1) w3 (pA w.heap.size 1) 32 32 x.dg.l:=Bs.of_at (((hBw1.ext hEw2).ext hEw3).at 1 (zK x.dg) (zfY _)) (((hBw1.ext hEw2).ext hEw3)).lt x.dg.h.symm (by decide) (by omega) (by omega)
 refine zy 2 (zS (Instr.buildSlice 23 1 #[(0,(vB x.st))]) (.slice (pA w3.heap.size 0) 1 1) [(vB x.st)] 5 ?_)
 intro w4 hBw4 hEw4 hzw4 hlw4
 have hSw4:Bs w3.heap.size (w3.heap.size+1) w4 (pA w3.heap.size 0) 1 1 [UInt8.ofNat x.st]:=Bs.of_blk hBw4 (zdb x.hst) rfl (Nat.le_refl _) (by decide) (Nat.le_refl _) (Nat.lt_succ_self _)
 refine ⟨.inr hEw4, ?_⟩
 refine zy 5 (zS (Instr.buildSlice 190 2 #[(0,(.slice (pA w3.heap.size 0) 1 1)),(1,(.slice (pA w.heap.size 1) 32 32))]) (.slice (pA w4.heap.size 0) 2 2) [(.slice (pA w3.heap.size 0) 1 1),(.slice (pA w.heap.size 1) 32 32)] 23 ?_)
 intro w5 hBw5 hEw5 hzw5 hlw5
 have hSw5:Ps 0 w5.heap.size w5 (pA w4.heap.size 0) 2 2 [(.slice (pA w3.heap.size 0) 1 1),(.slice (pA w.heap.size 1) 32 32)] [[UInt8.ofNat x.st],x.dg.l]:=Ps.of_new hBw5 rfl (by decide) (zbg.cons (zde.at (hSw4.ext hEw5)) (zbg.cons (zde.at ((hS1.ext hEw4).ext hEw5)) zbg.nil))
 have hX1:Ext w3 w5:=(hEw4.trans hEw5)
 refine ⟨.inr hX1, ?_⟩
 refine zy 6 (zt (zjB _ hSw5 (by simp [zaa,zbC,x.dg.h])) ?_)
 rintro _ w6 ⟨a1,rfl,hFz2_0,hFz2_1,hFz2_2,hFz2_3,hEw6⟩
 have hzw6:=hEw6.size
 have hla1:=hFz2_1.lt;have hna1:=hFz2_3
 have hSa1:Bs a1 (a1+1) w6 (pA a1 0) (zaa ([[UInt8.ofNat x.st],x.dg.l])) (zaa ([[UInt8.ofNat x.st],x.dg.l])) (([[UInt8.ofNat x.st],x.dg.l]).flatten):=Bs.of_blk hFz2_1 rfl hFz2_2 (Nat.le_refl _) (zcI hna1) (Nat.le_refl _) (Nat.lt_succ_self _)
 rw [show zaa ([[UInt8.ofNat x.st],x.dg.l])=33 from by simp [zaa,zbC,x.dg.h]]
 have hX2:Ext w3 w6:=((hEw4.trans hEw5).trans hEw6)
 refine ⟨.inr hX2, ?_⟩
 refine ze (hw:=hX2) hT450 [(7,2,(.slice (pA a1 0) 33 33)),(8,3,(vI 0))] 2 (zB (zc (zaH (zh (.tuple #[(.slice (pA a1 0) 33 33),(vI 0)]) ?_))))
 have hX3:Ext w w6:=(((((hEw1.trans hEw2).trans hEw3).trans hEw4).trans hEw5).trans hEw6)
 have hz:=hSa1
 rw [show zaa ([[UInt8.ofNat x.st],x.dg.l])=33 from by simp [zaa,zbC,x.dg.h],show ([[UInt8.ofNat x.st],x.dg.l]).flatten=zcp x from by simp [zb0,zcp,zdJ]] at hz
 exact ⟨_,rfl,hz.mono (by omega) (by omega),hX3⟩
end Go.Proofs.YtkmhgepdhilllaaGreatDoor
namespace Go.Proofs.YtkmhgepdhilllaaGreatDoor
open Go Go.RowKit Go.Cs
set_option maxRecDepth 100000
end Go.Proofs.YtkmhgepdhilllaaGreatDoor
namespace Go.Proofs.YtkmhgepdhilllaaGreatDoor
open Go Go.RowKit Go.Cs
set_option maxRecDepth 100000
end Go.Proofs.YtkmhgepdhilllaaGreatDoor
namespace Go.Proofs.YtkmhgepdhilllaaGreatDoor
open Go Go.RowKit Go.Cs
set_option maxRecDepth 100000
theorem znn (n:Nat) (w:World) (hp0:1≤n) (hp1:n≤4096):
  Calls Tryz.prog 124 #[(vI n)] w (Ret fun r w'=>r=(vI 0)∧w=w'):=by
 refine zw (n:=9) (σ:= [(0,(vI n))]) Tryz.func124 rfl ?_
 refine wsr (zb 1 [(2,(vI 0))] (zM (zb 1 [(3,(vI n))] (za (zjL 4 n 1 ?_)))))
 refine zb 2 [(6,(vI n)),(5,vF)] (za (zgE 7 n 4096 ?_))
 refine zb 1 [(8,vF)] (wEt (zf (zl (zc (wsr (zb 1 [(2,(vI 0))] (zq ?_)))))))
 exact zc (zaH (zh (vI 0) (⟨rfl,rfl⟩)))
theorem zp9 (n:Int) (w:World) (hp0:n<1):
  Calls Tryz.prog 124 #[(.int .i64 n)] w (Ret fun r w'=>r=(vI 1)∧w=w'):=by
 refine zw (n:=9) (σ:= [(0,(.int .i64 n))]) Tryz.func124 rfl ?_
 refine wsr (zb 1 [(2,(vI 0))] (zM (zb 1 [(3,(.int .i64 n))] (za (zbn (some 4) (decide (n<((1:Nat):Int))) true (zeA) ?_)))))
 refine zb 4 [(8,vT),(7,undef),(6,undef),(5,vT)] (wEt (zk (wsr (zb 1 [(2,(vI 1))] (zF ?_)))))
 exact zj (zh (vI 1) (⟨rfl,rfl⟩))
theorem zpp (n:Int) (w:World) (hp0:n>4096):
  Calls Tryz.prog 124 #[(.int .i64 n)] w (Ret fun r w'=>r=(vI 1)∧w=w'):=by
 refine zw (n:=9) (σ:= [(0,(.int .i64 n))]) Tryz.func124 rfl ?_
 refine wsr (zb 1 [(2,(vI 0))] (zM (zb 1 [(3,(.int .i64 n))] (za (zbn (some 4) (decide (n<((1:Nat):Int))) false (zbW) ?_)))))
 refine zb 2 [(6,(.int .i64 n)),(5,vF)] (za (zbn (some 7) (decide (n>((4096:Nat):Int))) true (zeA) ?_))
 refine zb 1 [(8,vT)] (wEt (zk (wsr (zb 1 [(2,(vI 1))] (zF ?_)))))
 exact zj (zh (vI 1) (⟨rfl,rfl⟩))
theorem zoT (n:Int) (w:World) (hp0:¬(1≤n∧n≤4096)):
  Calls Tryz.prog 124 #[(.int .i64 n)] w (Ret fun r w'=>r=(vI 1)∧w=w'):=by
 by_cases h:n<1
 ·exact zp9 n w h
 ·exact zpp n w (by omega)
theorem znd (n:Nat) (w:World) (hp0:n≤4096):
  Calls Tryz.prog 143 #[(vI n)] w (Ret fun r w'=>r=(vI (up4 n))∧w=w'):=by
 refine zw (n:=7) (σ:= [(0,(vI n))]) Tryz.func143 rfl ?_
 refine wsr (zb 1 [(2,(vI 0))] (zz (zb 1 [(3,(vI n))] (za (zJ 4 n 4 (n+4) ?_)))))
 refine za (zb5 5 (n+4) 1 (n+3) ?_)
 refine za (zae (some 6) .i64 (IntKind.i64.wrap (((n+3:Nat):Int).tdiv ((4:Nat):Int))) ((n+3)/4) (zao (zez _ _)) ?_)
 exact zb 1 [(2,(vI ((n+3)/4)))] (zF (zh (vI ((n+3)/4)) (⟨rfl,rfl⟩)))
theorem zq1 (n:Nat) (w:World) (hp0:1≤n) (hp1:n≤4096):
  Calls Tryz.prog 130 #[(vI n)] w (Ret fun r w'=>∃a0 ca0,r=(.slice a0 (hgt n+1) ca0)∧Es (nv .i64) w.heap.size w'.heap.size w' a0 (hgt n+1) ca0 (cts n)∧Ext w w'):=by
 refine zw (n:=18) (σ:= [(0,(vI n))]) Tryz.func130 rfl ?_
 refine wsr (zb 1 [(2,(.slice none 0 0))] (zz (za (zad (List.replicate 6 (vI 0)) 224 ?_))))
 intro w1 hBw1 hEw1 hzw1 hlw1
 refine zz (za (zaN (Instr.sliceAt 224 (vP w.heap.size 0) (some (vI 0)) (some (vI 0)) (some (vI 6))) (.slice (pA w.heap.size 0) 0 6) (zpW (len:=6) (E:=3) (sz:=1) (l:=0) (r:=0) (m:=6) (.inr ⟨_,rfl⟩) (.inr ⟨_,rfl⟩) (.inr ⟨_,rfl⟩) (by simp) (by omega) (by omega) (by omega)) ?_))
 refine zb 1 [(4,(.slice (pA w.heap.size 0) 0 6))] (zz (zb 1 [(7,(vI n))] (za (zt (znd n _ (by omega)) ?_))))
 rintro _ _ ⟨rfl,rfl⟩
 refine zb 1 [(5,(vI (up4 n)))] (wEt (zp (zU (X:=Nat) (fun k=> [(4,(.slice (pA w.heap.size 0) k 6)),(5,(vI (cnt n k)))]) [2,9,10,11,12,13,14,15,16,17] (fun k w2=>k≤hgt n∧Blk w2 w.heap.size (((cts n).take k).map (nv .i64)++List.replicate (6-k) (vI 0)) 224∧Ext w w2) (fun k=>hgt n-k) 0 (by kernel_rfl) ⟨by omega,hBw1,hEw1⟩ ?_)))
 rintro k dw2 w2 ⟨hk,hBl,hEl⟩
 have hzl:=hEl.size;have hll:=hBl.lt;have h5:=zam n;have hcn:=zbl n k
 refine zd (zp (wsr (zb 2 [(12,(vI (cnt n k))),(11,(.slice (pA w.heap.size 0) k 6))] (za (zS (Instr.buildSlice 29 1 #[(0,(vI (cnt n k)))]) (.slice (pA w2.heap.size 0) 1 1) [(vI (cnt n k))] 3 ?_)))))
 intro w3 hBw3 hEw3 hzw3 hlw3
 have hSw3:Es (nv .i64) w2.heap.size (w2.heap.size+1) w3 (pA w2.heap.size 0) 1 1 ([cnt n k]):=Es.of_blk hBw3 rfl rfl (Nat.le_refl _) (by decide) (Nat.le_refl _) (Nat.lt_succ_self _)
 refine za (zdn (some 14) 29 29 3 1 w.heap.size k 6 ⟨w2.heap.size,0,none⟩ 1 1 (hBl.ext hEw3) hSw3.sla rfl (by simp [nv,Value.oneCell']) (by simp [zev];omega) ?_)
 intro w4 hBw4 hCw4
 have hzw4:=hCw4.size
 replace hBw4:Blk w4 w.heap.size (((cts n).take (k+1)).map (nv .i64)++List.replicate (6-(k+1)) (vI 0)) 224:=zt4 hk▸hBw4
 refine zb 1 [(4,(.slice (pA w.heap.size 0) (k+1) 6))] (zz (zb 1 [(15,(vI (cnt n k)))] (za (zaI 16 (cnt n k) 1 (fun hc16=> ?_) (fun hc16=> ?_)))))
 ·obtain rfl:=(zg1 hp0 hp1 hk).1 hc16
  refine wEt (zk (wsr (zb 2 [(2,(.slice (pA w.heap.size 0) (hgt n+1) 6)),(17,(.slice (pA w.heap.size 0) (hgt n+1) 6))] (zF (zu ?_)))))
  refine zj (zj (zu (zh (.slice (pA w.heap.size 0) (hgt n+1) 6) ?_)))
  have hBf:=hBw4
  rw [List.take_of_length_le (by rw [zev];omega)] at hBf
  exact ⟨_,_,rfl,Es.of_pre hBf (zev n).symm (by omega) (by decide) (by omega) (by omega),(Ext.own (hEl.trans hEw3) hCw4 (by omega))⟩
 ·have hlt:k<hgt n:=by rcases Nat.lt_or_ge k (hgt n) with h | h;exact h;exact absurd ((zg1 hp0 hp1 hk).2 (by omega)) hc16
  refine wEt (zf (zl (zi (zc (zg (zb 1 [(9,(vI (cnt n k)))] (za (zt (znd (cnt n k) _ (by omega)) ?_))))))))
  rintro _ _ ⟨rfl,rfl⟩
  refine zb 1 [(5,(vI (up4 (cnt n k))))] (zq (zn (zG (k+1) ?_ ?_)))
  ·exact ⟨by omega,hBw4,(Ext.own (hEl.trans hEw3) hCw4 (by omega))⟩
  ·first | omega |(dsimp only;omega)
theorem zj5 (n:Nat) (w:World) (hp0:1≤n) (hp1:n≤4096):
  Calls Tryz.prog 107 #[(vI n)] w (Ret fun r w'=>∃a1 ca1,r=(.tuple #[(vA [(vI n),(.slice a1 (hgt n+1) ca1)]),(vI 0)])∧Es (nv .i64) w.heap.size w'.heap.size w' a1 (hgt n+1) ca1 (cts n)∧Ext w w'):=by
 refine zw (n:=15) (σ:= [(0,(vI n))]) Tryz.func107 rfl ?_
 refine wsr (za (zad ([(vI 0),(.slice none 0 0)]) 179 ?_))
 intro w1 hBw1 hEw1 hzw1 hlw1
 refine zb 1 [(3,(vI 0))] (zM (zb 1 [(5,(vI n))] (za (zt (znn n _ (by omega) (by omega)) ?_))))
 rintro _ _ ⟨rfl,rfl⟩
 refine zb 1 [(4,(vI 0))] (zz (zb 2 [(8,vF),(7,(vI 0))] (wEt (zf (zl ?_)))))
 refine zc (wsr (zb 2 [(12,(vI n)),(11,(vI n))] (za (zt (zq1 n _ (by omega) (by omega)) ?_))))
 rintro _ w2 ⟨a1,ca1,rfl,hFz2_0,hEw2⟩
 have hzw2:=hEw2.size
 have hlea1:=hFz2_0.le
 refine zb 1 [(14,(vA [(vI n),(.slice a1 (hgt n+1) ca1)]))] (za (zC 179 w.heap.size 0 179 (vA [(vI n),(.slice a1 (hgt n+1) ca1)]) ([(vI 0),(.slice none 0 0)]) ([(vI n),(.slice a1 (hgt n+1) ca1)]) (hBw1.ext hEw2) (by kernel_rfl) (by first | decide |(simp;done)|(simp;omega)) (by simp [Value.oneCell']) ?_))
 intro w3 hBw3 hCw3
 have hzw3:=hCw3.size
 rw [zv _ _ (by kernel_rfl)] at hBw3
 exact zb 1 [(3,(vI 0))] (zF (zaQ (show zO Tryz.prog 15 _ _ (.cell 2 179) (vA [(vI n),(.slice a1 (hgt n+1) ca1)]) from ⟨⟨w.heap.size,0,none⟩,(by kernel_rfl),zE (T:=179) (vs:= [(vI n),(.slice a1 (hgt n+1) ca1)]) (hBw3).all (by kernel_rfl)⟩) (show zO Tryz.prog 15 _ _ (.tmp 3) (vI 0) by (show _=_;kernel_rfl)) (⟨_,_,rfl,((hFz2_0.chg hCw3)).now.mono (by omega) (Nat.le_refl _),(Ext.own (hEw1.trans hEw2) hCw3 (by omega))⟩)))
theorem zna (n:Int) (w:World) (hp0:¬(1≤n∧n≤4096)):
  Calls Tryz.prog 107 #[(.int .i64 n)] w (Ret fun r w'=>r=(.tuple #[(vA [(vI 0),(.slice none 0 0)]),(vI 1)])∧Ext w w'):=by
 refine zw (n:=15) (σ:= [(0,(.int .i64 n))]) Tryz.func107 rfl ?_
 refine wsr (za (zad ([(vI 0),(.slice none 0 0)]) 179 ?_))
 intro w1 hBw1 hEw1 hzw1 hlw1
 refine zb 1 [(3,(vI 0))] (zM (zb 1 [(5,(.int .i64 n))] (za (zt (zoT n _ (by omega)) ?_))))
 rintro _ _ ⟨rfl,rfl⟩
 refine zb 1 [(4,(vI 1))] (zz (zb 2 [(8,vT),(7,(vI 1))] (wEt (zk (zd ?_)))))
 refine zg (zb 2 [(10,(vI 1)),(9,(vA [(vI 0),(.slice none 0 0)]))] (za (zC 179 w.heap.size 0 179 (vA [(vI 0),(.slice none 0 0)]) ([(vI 0),(.slice none 0 0)]) ([(vI 0),(.slice none 0 0)]) hBw1 (by kernel_rfl) (by first | decide |(simp;done)|(simp;omega)) (by simp [Value.oneCell']) ?_)))
 intro w2 hBw2 hCw2
 have hzw2:=hCw2.size
 rw [zv _ _ (by kernel_rfl)] at hBw2
 exact zb 1 [(3,(vI 1))] (zF (zj (zaQ (show zO Tryz.prog 15 _ _ (.cell 2 179) (vA [(vI 0),(.slice none 0 0)]) from ⟨⟨w.heap.size,0,none⟩,(by kernel_rfl),zE (T:=179) (vs:= [(vI 0),(.slice none 0 0)]) (hBw2).all (by kernel_rfl)⟩) (show zO Tryz.prog 15 _ _ (.tmp 3) (vI 1) by (show _=_;kernel_rfl)) (⟨rfl,(Ext.own hEw1 hCw2 (by omega))⟩))))
end Go.Proofs.YtkmhgepdhilllaaGreatDoor
namespace Go.Proofs.YtkmhgepdhilllaaGreatDoor
open Go Go.RowKit Go.Cs
set_option maxRecDepth 100000
theorem zuR (n:Nat) (l:Nat) (j:Nat) (w:World) (hp0:1≤n) (hp1:n≤4096) (hp2:l≤hgt n) (hp3:j<cnt n l):
  Calls Tryz.prog 108 #[(vI n),(vA [(vI l),(vI j)])] w (Ret fun r w'=>∃a1 ca1,r=(.tuple #[(vA [(vI n),(.slice a1 (hgt n+1) ca1)]),(vI 0)])∧Es (nv .i64) w.heap.size w'.heap.size w' a1 (hgt n+1) ca1 (cts n)∧Ext w w'):=by
 refine zw (n:=46) (σ:= [(0,(vI n)),(1,(vA [(vI l),(vI j)]))]) Tryz.func108 rfl ?_
 have h5:=zam n
 refine wsr (za (zS (Instr.box 89 (vA [(vI l),(vI j)])) (vP w.heap.size 0) ([(vI l),(vI j)]) 89 ?_))
 intro w1 hBw1 hEw1 hzw1 hlw1
 refine za (zad ([(vI 0),(.slice none 0 0)]) 179 ?_)
 intro w2 hBw2 hEw2 hzw2 hlw2
 refine zb 1 [(5,(vI 0))] (zz (zb 1 [(9,(vI n))] (za (zt (zj5 n _ (by omega) (by omega)) ?_))))
 rintro _ w3 ⟨a1,ca1,rfl,hFz1_0,hEw3⟩
 have hzw3:=hEw3.size
 have hlea1:=hFz1_0.le
 refine zb 3 [(12,(vI 0)),(11,(vA [(vI n),(.slice a1 (hgt n+1) ca1)])),(8,(.tuple #[(vA [(vI n),(.slice a1 (hgt n+1) ca1)]),(vI 0)]))] (zal ([(vI n),(.slice a1 (hgt n+1) ca1)]) 179 rfl (by simp [Value.oneCell']) ?_)
 intro w4 hBw4 hEw4 hzw4 hlw4
 refine zb 1 [(7,(vI 0))] (wEt (zd (zd (zY 31 (fun w5 hEw5 hzw5 hT28=> ?_)))))
 refine ze hT28 [(0,13,(vI 0))] 1 (zr hT28 1 vT (zaS (((0:Nat):Int)==((0:Nat):Int)) (zc8)) (ze hT28 [(2,15,vT),(3,16,(vP w.heap.size 0))] 2 ?_))
 have hK1:=((((hBw1.ext hEw2).ext hEw3).ext hEw4).ext hEw5)
 refine zx hT28 4 w.heap.size 0 (fun w' hC=>((hK1.ext hC).cell rfl)) (zr hT28 5 vF (zaS (decide (((l:Nat):Int)<((0:Nat):Int))) (zbW)) (ze hT28 [(6,19,vF),(7,20,(vP w.heap.size 0))] 2 (zx hT28 8 w.heap.size 0 (fun w' hC=>((hK1.ext hC).cell rfl)) (ze hT28 [(9,22,(vP w3.heap.size 1))] 1 (zx hT28 10 w3.heap.size 1 (fun w' hC=>(((hBw4.ext hEw5).ext hC).cell rfl)) (ze hT28 [(11,24,(vI (hgt n+1)))] 1 (zr hT28 12 vF (zaS (decide (((l:Nat):Int)≥((hgt n+1:Nat):Int))) (zbW)) (ze hT28 [(13,26,vF),(14,27,vF),(15,28,(vP w.heap.size 1))] 3 (zx hT28 16 w.heap.size 1 (fun w' hC=>((hK1.ext hC).cell rfl)) ?_)))))))))
 refine zr hT28 17 vF (zaS (decide (((j:Nat):Int)<((0:Nat):Int))) (zbW)) (ze hT28 [(18,31,vF),(19,32,vF),(20,33,(vP w.heap.size 1))] 3 (zx hT28 21 w.heap.size 1 (fun w' hC=>((hK1.ext hC).cell rfl)) (ze hT28 [(22,35,(vP w3.heap.size 1))] 1 (zx hT28 23 w3.heap.size 1 (fun w' hC=>(((hBw4.ext hEw5).ext hC).cell rfl)) (ze hT28 [(24,37,(vP w.heap.size 0))] 1 (zx hT28 25 w.heap.size 0 (fun w' hC=>((hK1.ext hC).cell rfl)) ?_))))))
 obtain ⟨b1,o1,rfl⟩:=hFz1_0.addr (by omega)
 refine zaD hT28 26 b1 o1 (hgt n+1) ca1 l 1 (zx hT28 27 b1 (o1+l*1) (fun w' hC=>((((hFz1_0.ext hEw4).ext hEw5).ext hC).celln (by omega))) (zr hT28 28 vF (zaS (decide (((j:Nat):Int)≥((gt (cts n) l:Nat):Int))) (zbW (by rw [zjr hp2];omega))) (ze hT28 [(29,42,vF),(30,43,vF)] 2 (zB (zc (zf (zl (zc (zd ?_)))))))))
 refine zg (za (zV w3.heap.size 0 ((hBw4.ext hEw5).all) ?_))
 refine zb 1 [(45,(vI 0))] ?_
 have hK2:=(((hBw2.ext hEw3).ext hEw4).ext hEw5)
 refine za (zC 179 w1.heap.size 0 179 (vA [(vI n),(.slice (pA b1 o1) (hgt n+1) ca1)]) ([(vI 0),(.slice none 0 0)]) ([(vI n),(.slice (pA b1 o1) (hgt n+1) ca1)]) hK2 (by kernel_rfl) (by first | decide |(simp;done)|(simp;omega)) (by simp [Value.oneCell']) ?_)
 have hK3:=(((hBw2.ext hEw3).ext hEw4).ext hEw5)
 intro w6 hBw6 hCw6
 have hzw6:=hCw6.size
 rw [zv _ _ (by kernel_rfl)] at hBw6
 refine zb 1 [(5,(vI 0))] (zF (zaQ (show zO Tryz.prog 46 _ _ (.cell 4 179) (vA [(vI n),(.slice (pA b1 o1) (hgt n+1) ca1)]) from ⟨⟨w1.heap.size,0,none⟩,(by kernel_rfl),zE (T:=179) (vs:= [(vI n),(.slice (pA b1 o1) (hgt n+1) ca1)]) (hBw6).all (by kernel_rfl)⟩) (show zO Tryz.prog 46 _ _ (.tmp 5) (vI 0) by (show _=_;kernel_rfl)) ?_))
 have hK4:=(((hFz1_0.ext hEw4).ext hEw5).chg hCw6)
 have hX1:Ext w w6:=(Ext.own ((((hEw1.trans hEw2).trans hEw3).trans hEw4).trans hEw5) hCw6 (by omega))
 exact ⟨_,_,rfl,(hK4).now.mono (by omega) (Nat.le_refl _),hX1⟩
theorem zvJ (n:Int) (l:Int) (j:Int) (w:World) (hp0:¬(1≤n∧n≤4096)):
  Calls Tryz.prog 108 #[(.int .i64 n),(vA [(.int .i64 l),(.int .i64 j)])] w (Ret fun r w'=>∃(a0:Int) (a1:Option Addr) (na1:Nat) (ca1:Nat),r=(.tuple #[(vA [(.int .i64 a0),(.slice a1 na1 ca1)]),(vI 1)])∧Ext w w'):=by
 refine zw (n:=46) (σ:= [(0,(.int .i64 n)),(1,(vA [(.int .i64 l),(.int .i64 j)]))]) Tryz.func108 rfl ?_
 refine wsr (za (zS (Instr.box 89 (vA [(.int .i64 l),(.int .i64 j)])) (vP w.heap.size 0) ([(.int .i64 l),(.int .i64 j)]) 89 ?_))
 intro w1 hBw1 hEw1 hzw1 hlw1
 refine za (zad ([(vI 0),(.slice none 0 0)]) 179 ?_)
 intro w2 hBw2 hEw2 hzw2 hlw2
 refine zb 1 [(5,(vI 0))] (zz (zb 1 [(9,(.int .i64 n))] (za (zt (zna n _ (by omega)) ?_))))
 rintro _ w3 ⟨rfl,hEw3⟩
 have hzw3:=hEw3.size
 refine zb 3 [(12,(vI 1)),(11,(vA [(vI 0),(.slice none 0 0)])),(8,(.tuple #[(vA [(vI 0),(.slice none 0 0)]),(vI 1)]))] (zal ([(vI 0),(.slice none 0 0)]) 179 rfl (by simp [Value.oneCell']) ?_)
 intro w4 hBw4 hEw4 hzw4 hlw4
 refine zb 1 [(7,(vI 1))] (wEt (zd (zd (zY 31 (fun w5 hEw5 hzw5 hT60=> ?_)))))
 refine ze hT60 [(0,13,(vI 1))] 1 (zr hT60 1 vF (zaS (((1:Nat):Int)==((0:Nat):Int)) (zh4)) (ze hT60 [(2,15,vF),(3,16,undef),(4,17,undef),(5,18,undef),(6,19,undef),(7,20,undef),(8,21,undef),(9,22,undef),(10,23,undef),(11,24,undef),(12,25,undef),(13,26,undef),(14,27,undef),(15,28,undef),(16,29,undef),(17,30,undef),(18,31,undef),(19,32,undef),(20,33,undef),(21,34,undef),(22,35,undef),(23,36,undef),(24,37,undef),(25,38,undef),(26,39,undef),(27,40,undef),(28,41,undef),(29,42,undef),(30,43,vF)] 29 (zB (zc (zf (zl (zc (wsr ?_))))))))
 refine za (zV w3.heap.size 0 ((hBw4.ext hEw5).all) ?_)
 refine zb 1 [(45,(vI 1))] ?_
 have hK1:=(((hBw2.ext hEw3).ext hEw4).ext hEw5)
 refine za (zC 179 w1.heap.size 0 179 (vA [(vI 0),(.slice none 0 0)]) ([(vI 0),(.slice none 0 0)]) ([(vI 0),(.slice none 0 0)]) hK1 (by kernel_rfl) (by first | decide |(simp;done)|(simp;omega)) (by simp [Value.oneCell']) ?_)
 have hK2:=(((hBw2.ext hEw3).ext hEw4).ext hEw5)
 intro w6 hBw6 hCw6
 have hzw6:=hCw6.size
 rw [zv _ _ (by kernel_rfl)] at hBw6
 refine zb 1 [(5,(vI 1))] (zF (zaQ (show zO Tryz.prog 46 _ _ (.cell 4 179) (vA [(vI 0),(.slice none 0 0)]) from ⟨⟨w1.heap.size,0,none⟩,(by kernel_rfl),zE (T:=179) (vs:= [(vI 0),(.slice none 0 0)]) (hBw6).all (by kernel_rfl)⟩) (show zO Tryz.prog 46 _ _ (.tmp 5) (vI 1) by (show _=_;kernel_rfl)) ?_))
 have hX1:Ext w w6:=(Ext.own ((((hEw1.trans hEw2).trans hEw3).trans hEw4).trans hEw5) hCw6 (by omega))
 exact ⟨_,_,_,_,rfl,hX1⟩
theorem zux (n:Nat) (l:Int) (j:Int) (w:World) (hp0:1≤n) (hp1:n≤4096) (hp2:l<0):
  Calls Tryz.prog 108 #[(vI n),(vA [(.int .i64 l),(.int .i64 j)])] w (Ret fun r w'=>∃(a0:Int) (a1:Option Addr) (na1:Nat) (ca1:Nat),r=(.tuple #[(vA [(.int .i64 a0),(.slice a1 na1 ca1)]),(vI 1)])∧Ext w w'):=by
 refine zw (n:=46) (σ:= [(0,(vI n)),(1,(vA [(.int .i64 l),(.int .i64 j)]))]) Tryz.func108 rfl ?_
 refine wsr (za (zS (Instr.box 89 (vA [(.int .i64 l),(.int .i64 j)])) (vP w.heap.size 0) ([(.int .i64 l),(.int .i64 j)]) 89 ?_))
 intro w1 hBw1 hEw1 hzw1 hlw1
 refine za (zad ([(vI 0),(.slice none 0 0)]) 179 ?_)
 intro w2 hBw2 hEw2 hzw2 hlw2
 refine zb 1 [(5,(vI 0))] (zz (zb 1 [(9,(vI n))] (za (zt (zj5 n _ (by omega) (by omega)) ?_))))
 rintro _ w3 ⟨a1,ca1,rfl,hFz1_0,hEw3⟩
 have hzw3:=hEw3.size
 have hlea1:=hFz1_0.le
 refine zb 3 [(12,(vI 0)),(11,(vA [(vI n),(.slice a1 (hgt n+1) ca1)])),(8,(.tuple #[(vA [(vI n),(.slice a1 (hgt n+1) ca1)]),(vI 0)]))] (zal ([(vI n),(.slice a1 (hgt n+1) ca1)]) 179 rfl (by simp [Value.oneCell']) ?_)
 intro w4 hBw4 hEw4 hzw4 hlw4
 refine zb 1 [(7,(vI 0))] (wEt (zd (zd (zY 31 (fun w5 hEw5 hzw5 hT87=> ?_)))))
 refine ze hT87 [(0,13,(vI 0))] 1 (zr hT87 1 vT (zaS (((0:Nat):Int)==((0:Nat):Int)) (zc8)) (ze hT87 [(2,15,vT),(3,16,(vP w.heap.size 0))] 2 ?_))
 have hK1:=((((hBw1.ext hEw2).ext hEw3).ext hEw4).ext hEw5)
 refine zx hT87 4 w.heap.size 0 (fun w' hC=>((hK1.ext hC).cell rfl)) (zr hT87 5 vT (zaS (decide (l<((0:Nat):Int))) (zeA)) (ze hT87 [(6,19,vT),(7,20,undef),(8,21,undef),(9,22,undef),(10,23,undef),(11,24,undef),(12,25,undef),(13,26,vT),(14,27,vT),(15,28,undef),(16,29,undef),(17,30,undef),(18,31,vT),(19,32,vT),(20,33,undef),(21,34,undef),(22,35,undef),(23,36,undef),(24,37,undef),(25,38,undef),(26,39,undef),(27,40,undef),(28,41,undef),(29,42,vT),(30,43,vT)] 25 (zB (zc (zk (zg (zb 1 [(7,(vI 1))] (wEt ?_))))))))
 refine wsr (za (zV w3.heap.size 0 ((hBw4.ext hEw5).all) ?_))
 refine zb 1 [(45,(vI 1))] ?_
 have hK2:=(((hBw2.ext hEw3).ext hEw4).ext hEw5)
 refine za (zC 179 w1.heap.size 0 179 (vA [(vI n),(.slice a1 (hgt n+1) ca1)]) ([(vI 0),(.slice none 0 0)]) ([(vI n),(.slice a1 (hgt n+1) ca1)]) hK2 (by kernel_rfl) (by first | decide |(simp;done)|(simp;omega)) (by simp [Value.oneCell']) ?_)
 have hK3:=(((hBw2.ext hEw3).ext hEw4).ext hEw5)
 intro w6 hBw6 hCw6
 have hzw6:=hCw6.size
 rw [zv _ _ (by kernel_rfl)] at hBw6
 refine zb 1 [(5,(vI 1))] (zF (zaQ (show zO Tryz.prog 46 _ _ (.cell 4 179) (vA [(vI n),(.slice a1 (hgt n+1) ca1)]) from ⟨⟨w1.heap.size,0,none⟩,(by kernel_rfl),zE (T:=179) (vs:= [(vI n),(.slice a1 (hgt n+1) ca1)]) (hBw6).all (by kernel_rfl)⟩) (show zO Tryz.prog 46 _ _ (.tmp 5) (vI 1) by (show _=_;kernel_rfl)) ?_))
 have hX1:Ext w w6:=(Ext.own ((((hEw1.trans hEw2).trans hEw3).trans hEw4).trans hEw5) hCw6 (by omega))
 exact ⟨_,_,_,_,rfl,hX1⟩
theorem zvw (n:Nat) (l:Int) (j:Int) (w:World) (hp0:1≤n) (hp1:n≤4096) (hp2:(hgt n:Int)<l):
  Calls Tryz.prog 108 #[(vI n),(vA [(.int .i64 l),(.int .i64 j)])] w (Ret fun r w'=>∃(a0:Int) (a1:Option Addr) (na1:Nat) (ca1:Nat),r=(.tuple #[(vA [(.int .i64 a0),(.slice a1 na1 ca1)]),(vI 1)])∧Ext w w'):=by
 refine zw (n:=46) (σ:= [(0,(vI n)),(1,(vA [(.int .i64 l),(.int .i64 j)]))]) Tryz.func108 rfl ?_
 refine wsr (za (zS (Instr.box 89 (vA [(.int .i64 l),(.int .i64 j)])) (vP w.heap.size 0) ([(.int .i64 l),(.int .i64 j)]) 89 ?_))
 intro w1 hBw1 hEw1 hzw1 hlw1
 refine za (zad ([(vI 0),(.slice none 0 0)]) 179 ?_)
 intro w2 hBw2 hEw2 hzw2 hlw2
 refine zb 1 [(5,(vI 0))] (zz (zb 1 [(9,(vI n))] (za (zt (zj5 n _ (by omega) (by omega)) ?_))))
 rintro _ w3 ⟨a1,ca1,rfl,hFz1_0,hEw3⟩
 have hzw3:=hEw3.size
 have hlea1:=hFz1_0.le
 refine zb 3 [(12,(vI 0)),(11,(vA [(vI n),(.slice a1 (hgt n+1) ca1)])),(8,(.tuple #[(vA [(vI n),(.slice a1 (hgt n+1) ca1)]),(vI 0)]))] (zal ([(vI n),(.slice a1 (hgt n+1) ca1)]) 179 rfl (by simp [Value.oneCell']) ?_)
 intro w4 hBw4 hEw4 hzw4 hlw4
 refine zb 1 [(7,(vI 0))] (wEt (zd (zd (zY 31 (fun w5 hEw5 hzw5 hT116=> ?_)))))
 refine ze hT116 [(0,13,(vI 0))] 1 (zr hT116 1 vT (zaS (((0:Nat):Int)==((0:Nat):Int)) (zc8)) (ze hT116 [(2,15,vT),(3,16,(vP w.heap.size 0))] 2 ?_))
 have hK1:=((((hBw1.ext hEw2).ext hEw3).ext hEw4).ext hEw5)
 refine zx hT116 4 w.heap.size 0 (fun w' hC=>((hK1.ext hC).cell rfl)) (zr hT116 5 vF (zaS (decide (l<((0:Nat):Int))) (zbW)) (ze hT116 [(6,19,vF),(7,20,(vP w.heap.size 0))] 2 (zx hT116 8 w.heap.size 0 (fun w' hC=>((hK1.ext hC).cell rfl)) (ze hT116 [(9,22,(vP w3.heap.size 1))] 1 (zx hT116 10 w3.heap.size 1 (fun w' hC=>(((hBw4.ext hEw5).ext hC).cell rfl)) (ze hT116 [(11,24,(vI (hgt n+1)))] 1 (zr hT116 12 vT (zaS (decide (l≥((hgt n+1:Nat):Int))) (zeA)) (ze hT116 [(13,26,vT),(14,27,vT),(15,28,undef),(16,29,undef),(17,30,undef),(18,31,vT),(19,32,vT),(20,33,undef),(21,34,undef),(22,35,undef),(23,36,undef),(24,37,undef),(25,38,undef),(26,39,undef),(27,40,undef),(28,41,undef),(29,42,vT),(30,43,vT)] 18 (zB ?_)))))))))
 refine zc (zk (zg (zb 1 [(7,(vI 1))] (zz (za (zV w3.heap.size 0 ((hBw4.ext hEw5).all) ?_))))))
 refine zb 1 [(45,(vI 1))] ?_
 have hK2:=(((hBw2.ext hEw3).ext hEw4).ext hEw5)
 refine za (zC 179 w1.heap.size 0 179 (vA [(vI n),(.slice a1 (hgt n+1) ca1)]) ([(vI 0),(.slice none 0 0)]) ([(vI n),(.slice a1 (hgt n+1) ca1)]) hK2 (by kernel_rfl) (by first | decide |(simp;done)|(simp;omega)) (by simp [Value.oneCell']) ?_)
 have hK3:=(((hBw2.ext hEw3).ext hEw4).ext hEw5)
 intro w6 hBw6 hCw6
 have hzw6:=hCw6.size
 rw [zv _ _ (by kernel_rfl)] at hBw6
 refine zb 1 [(5,(vI 1))] (zF (zaQ (show zO Tryz.prog 46 _ _ (.cell 4 179) (vA [(vI n),(.slice a1 (hgt n+1) ca1)]) from ⟨⟨w1.heap.size,0,none⟩,(by kernel_rfl),zE (T:=179) (vs:= [(vI n),(.slice a1 (hgt n+1) ca1)]) (hBw6).all (by kernel_rfl)⟩) (show zO Tryz.prog 46 _ _ (.tmp 5) (vI 1) by (show _=_;kernel_rfl)) ?_))
 have hX1:Ext w w6:=(Ext.own ((((hEw1.trans hEw2).trans hEw3).trans hEw4).trans hEw5) hCw6 (by omega))
 exact ⟨_,_,_,_,rfl,hX1⟩
theorem zuP (n:Nat) (l:Nat) (j:Int) (w:World) (hp0:1≤n) (hp1:n≤4096) (hp2:l≤hgt n) (hp3:j<0):
  Calls Tryz.prog 108 #[(vI n),(vA [(vI l),(.int .i64 j)])] w (Ret fun r w'=>∃(a0:Int) (a1:Option Addr) (na1:Nat) (ca1:Nat),r=(.tuple #[(vA [(.int .i64 a0),(.slice a1 na1 ca1)]),(vI 1)])∧Ext w w'):=by
 refine zw (n:=46) (σ:= [(0,(vI n)),(1,(vA [(vI l),(.int .i64 j)]))]) Tryz.func108 rfl ?_
 refine wsr (za (zS (Instr.box 89 (vA [(vI l),(.int .i64 j)])) (vP w.heap.size 0) ([(vI l),(.int .i64 j)]) 89 ?_))
 intro w1 hBw1 hEw1 hzw1 hlw1
 refine za (zad ([(vI 0),(.slice none 0 0)]) 179 ?_)
 intro w2 hBw2 hEw2 hzw2 hlw2
 refine zb 1 [(5,(vI 0))] (zz (zb 1 [(9,(vI n))] (za (zt (zj5 n _ (by omega) (by omega)) ?_))))
 rintro _ w3 ⟨a1,ca1,rfl,hFz1_0,hEw3⟩
 have hzw3:=hEw3.size
 have hlea1:=hFz1_0.le
 refine zb 3 [(12,(vI 0)),(11,(vA [(vI n),(.slice a1 (hgt n+1) ca1)])),(8,(.tuple #[(vA [(vI n),(.slice a1 (hgt n+1) ca1)]),(vI 0)]))] (zal ([(vI n),(.slice a1 (hgt n+1) ca1)]) 179 rfl (by simp [Value.oneCell']) ?_)
 intro w4 hBw4 hEw4 hzw4 hlw4
 refine zb 1 [(7,(vI 0))] (wEt (zd (zd (zY 31 (fun w5 hEw5 hzw5 hT145=> ?_)))))
 refine ze hT145 [(0,13,(vI 0))] 1 (zr hT145 1 vT (zaS (((0:Nat):Int)==((0:Nat):Int)) (zc8)) (ze hT145 [(2,15,vT),(3,16,(vP w.heap.size 0))] 2 ?_))
 have hK1:=((((hBw1.ext hEw2).ext hEw3).ext hEw4).ext hEw5)
 refine zx hT145 4 w.heap.size 0 (fun w' hC=>((hK1.ext hC).cell rfl)) (zr hT145 5 vF (zaS (decide (((l:Nat):Int)<((0:Nat):Int))) (zbW)) (ze hT145 [(6,19,vF),(7,20,(vP w.heap.size 0))] 2 (zx hT145 8 w.heap.size 0 (fun w' hC=>((hK1.ext hC).cell rfl)) (ze hT145 [(9,22,(vP w3.heap.size 1))] 1 (zx hT145 10 w3.heap.size 1 (fun w' hC=>(((hBw4.ext hEw5).ext hC).cell rfl)) (ze hT145 [(11,24,(vI (hgt n+1)))] 1 (zr hT145 12 vF (zaS (decide (((l:Nat):Int)≥((hgt n+1:Nat):Int))) (zbW)) (ze hT145 [(13,26,vF),(14,27,vF),(15,28,(vP w.heap.size 1))] 3 (zx hT145 16 w.heap.size 1 (fun w' hC=>((hK1.ext hC).cell rfl)) ?_)))))))))
 refine zr hT145 17 vT (zaS (decide (j<((0:Nat):Int))) (zeA)) (ze hT145 [(18,31,vT),(19,32,vT),(20,33,undef),(21,34,undef),(22,35,undef),(23,36,undef),(24,37,undef),(25,38,undef),(26,39,undef),(27,40,undef),(28,41,undef),(29,42,vT),(30,43,vT)] 13 (zB (zc (zk (zg (zb 1 [(7,(vI 1))] (wEt (zd ?_))))))))
 refine zg (za (zV w3.heap.size 0 ((hBw4.ext hEw5).all) ?_))
 refine zb 1 [(45,(vI 1))] ?_
 have hK2:=(((hBw2.ext hEw3).ext hEw4).ext hEw5)
 refine za (zC 179 w1.heap.size 0 179 (vA [(vI n),(.slice a1 (hgt n+1) ca1)]) ([(vI 0),(.slice none 0 0)]) ([(vI n),(.slice a1 (hgt n+1) ca1)]) hK2 (by kernel_rfl) (by first | decide |(simp;done)|(simp;omega)) (by simp [Value.oneCell']) ?_)
 have hK3:=(((hBw2.ext hEw3).ext hEw4).ext hEw5)
 intro w6 hBw6 hCw6
 have hzw6:=hCw6.size
 rw [zv _ _ (by kernel_rfl)] at hBw6
 refine zb 1 [(5,(vI 1))] (zF (zaQ (show zO Tryz.prog 46 _ _ (.cell 4 179) (vA [(vI n),(.slice a1 (hgt n+1) ca1)]) from ⟨⟨w1.heap.size,0,none⟩,(by kernel_rfl),zE (T:=179) (vs:= [(vI n),(.slice a1 (hgt n+1) ca1)]) (hBw6).all (by kernel_rfl)⟩) (show zO Tryz.prog 46 _ _ (.tmp 5) (vI 1) by (show _=_;kernel_rfl)) ?_))
 have hX1:Ext w w6:=(Ext.own ((((hEw1.trans hEw2).trans hEw3).trans hEw4).trans hEw5) hCw6 (by omega))
 exact ⟨_,_,_,_,rfl,hX1⟩
theorem zu2 (n:Nat) (l:Nat) (j:Nat) (w:World) (hp0:1≤n) (hp1:n≤4096) (hp2:l≤hgt n) (hp3:cnt n l≤j):
  Calls Tryz.prog 108 #[(vI n),(vA [(vI l),(vI j)])] w (Ret fun r w'=>∃(a0:Int) (a1:Option Addr) (na1:Nat) (ca1:Nat),r=(.tuple #[(vA [(.int .i64 a0),(.slice a1 na1 ca1)]),(vI 1)])∧Ext w w'):=by
 refine zw (n:=46) (σ:= [(0,(vI n)),(1,(vA [(vI l),(vI j)]))]) Tryz.func108 rfl ?_
 have h5:=zam n
 refine wsr (za (zS (Instr.box 89 (vA [(vI l),(vI j)])) (vP w.heap.size 0) ([(vI l),(vI j)]) 89 ?_))
 intro w1 hBw1 hEw1 hzw1 hlw1
 refine za (zad ([(vI 0),(.slice none 0 0)]) 179 ?_)
 intro w2 hBw2 hEw2 hzw2 hlw2
 refine zb 1 [(5,(vI 0))] (zz (zb 1 [(9,(vI n))] (za (zt (zj5 n _ (by omega) (by omega)) ?_))))
 rintro _ w3 ⟨a1,ca1,rfl,hFz1_0,hEw3⟩
 have hzw3:=hEw3.size
 have hlea1:=hFz1_0.le
 refine zb 3 [(12,(vI 0)),(11,(vA [(vI n),(.slice a1 (hgt n+1) ca1)])),(8,(.tuple #[(vA [(vI n),(.slice a1 (hgt n+1) ca1)]),(vI 0)]))] (zal ([(vI n),(.slice a1 (hgt n+1) ca1)]) 179 rfl (by simp [Value.oneCell']) ?_)
 intro w4 hBw4 hEw4 hzw4 hlw4
 refine zb 1 [(7,(vI 0))] (wEt (zd (zd (zY 31 (fun w5 hEw5 hzw5 hT176=> ?_)))))
 refine ze hT176 [(0,13,(vI 0))] 1 (zr hT176 1 vT (zaS (((0:Nat):Int)==((0:Nat):Int)) (zc8)) (ze hT176 [(2,15,vT),(3,16,(vP w.heap.size 0))] 2 ?_))
 have hK1:=((((hBw1.ext hEw2).ext hEw3).ext hEw4).ext hEw5)
 refine zx hT176 4 w.heap.size 0 (fun w' hC=>((hK1.ext hC).cell rfl)) (zr hT176 5 vF (zaS (decide (((l:Nat):Int)<((0:Nat):Int))) (zbW)) (ze hT176 [(6,19,vF),(7,20,(vP w.heap.size 0))] 2 (zx hT176 8 w.heap.size 0 (fun w' hC=>((hK1.ext hC).cell rfl)) (ze hT176 [(9,22,(vP w3.heap.size 1))] 1 (zx hT176 10 w3.heap.size 1 (fun w' hC=>(((hBw4.ext hEw5).ext hC).cell rfl)) (ze hT176 [(11,24,(vI (hgt n+1)))] 1 (zr hT176 12 vF (zaS (decide (((l:Nat):Int)≥((hgt n+1:Nat):Int))) (zbW)) (ze hT176 [(13,26,vF),(14,27,vF),(15,28,(vP w.heap.size 1))] 3 (zx hT176 16 w.heap.size 1 (fun w' hC=>((hK1.ext hC).cell rfl)) ?_)))))))))
 refine zr hT176 17 vF (zaS (decide (((j:Nat):Int)<((0:Nat):Int))) (zbW)) (ze hT176 [(18,31,vF),(19,32,vF),(20,33,(vP w.heap.size 1))] 3 (zx hT176 21 w.heap.size 1 (fun w' hC=>((hK1.ext hC).cell rfl)) (ze hT176 [(22,35,(vP w3.heap.size 1))] 1 (zx hT176 23 w3.heap.size 1 (fun w' hC=>(((hBw4.ext hEw5).ext hC).cell rfl)) (ze hT176 [(24,37,(vP w.heap.size 0))] 1 (zx hT176 25 w.heap.size 0 (fun w' hC=>((hK1.ext hC).cell rfl)) ?_))))))
 obtain ⟨b1,o1,rfl⟩:=hFz1_0.addr (by omega)
 refine zaD hT176 26 b1 o1 (hgt n+1) ca1 l 1 (zx hT176 27 b1 (o1+l*1) (fun w' hC=>((((hFz1_0.ext hEw4).ext hEw5).ext hC).celln (by omega))) (zr hT176 28 vT (zaS (decide (((j:Nat):Int)≥((gt (cts n) l:Nat):Int))) (zeA (by rw [zjr hp2];omega))) (ze hT176 [(29,42,vT),(30,43,vT)] 2 (zB (zc (zk (zg (zb 1 [(7,(vI 1))] (zq ?_)))))))))
 refine zc (wsr (za (zV w3.heap.size 0 ((hBw4.ext hEw5).all) ?_)))
 refine zb 1 [(45,(vI 1))] ?_
 have hK2:=(((hBw2.ext hEw3).ext hEw4).ext hEw5)
 refine za (zC 179 w1.heap.size 0 179 (vA [(vI n),(.slice (pA b1 o1) (hgt n+1) ca1)]) ([(vI 0),(.slice none 0 0)]) ([(vI n),(.slice (pA b1 o1) (hgt n+1) ca1)]) hK2 (by kernel_rfl) (by first | decide |(simp;done)|(simp;omega)) (by simp [Value.oneCell']) ?_)
 have hK3:=(((hBw2.ext hEw3).ext hEw4).ext hEw5)
 intro w6 hBw6 hCw6
 have hzw6:=hCw6.size
 rw [zv _ _ (by kernel_rfl)] at hBw6
 refine zb 1 [(5,(vI 1))] (zF (zaQ (show zO Tryz.prog 46 _ _ (.cell 4 179) (vA [(vI n),(.slice (pA b1 o1) (hgt n+1) ca1)]) from ⟨⟨w1.heap.size,0,none⟩,(by kernel_rfl),zE (T:=179) (vs:= [(vI n),(.slice (pA b1 o1) (hgt n+1) ca1)]) (hBw6).all (by kernel_rfl)⟩) (show zO Tryz.prog 46 _ _ (.tmp 5) (vI 1) by (show _=_;kernel_rfl)) ?_))
 have hX1:Ext w w6:=(Ext.own ((((hEw1.trans hEw2).trans hEw3).trans hEw4).trans hEw5) hCw6 (by omega))
 exact ⟨_,_,_,_,rfl,hX1⟩
theorem zum (n:Int) (l:Int) (j:Int) (w:World) (hp0:¬((1≤n∧n≤4096)∧(0≤l∧l≤hgt n.toNat)∧(0≤j∧j<cnt n.toNat l.toNat))):
  Calls Tryz.prog 108 #[(.int .i64 n),(vA [(.int .i64 l),(.int .i64 j)])] w (Ret fun r w'=>∃(a0:Int) (a1:Option Addr) (na1:Nat) (ca1:Nat),r=(.tuple #[(vA [(.int .i64 a0),(.slice a1 na1 ca1)]),(vI 1)])∧Ext w w'):=by
 by_cases h:1≤n∧n≤4096
 ·obtain ⟨m,rfl⟩:=Int.eq_ofNat_of_zero_le (show 0≤n by omega)
  rw [Int.toNat_natCast] at hp0
  by_cases hl:l<0
  ·exact zux m l j w (by omega) (by omega) hl
  ·obtain ⟨k,rfl⟩:=Int.eq_ofNat_of_zero_le (show 0≤l by omega)
   rw [Int.toNat_natCast] at hp0
   by_cases hk:(hgt m:Int)<k
   ·exact zvw m k j w (by omega) (by omega) hk
   ·by_cases hj:j<0
    ·exact zuP m k j w (by omega) (by omega) (by omega) hj
    ·obtain ⟨i,rfl⟩:=Int.eq_ofNat_of_zero_le (show 0≤j by omega)
     exact zu2 m k i w (by omega) (by omega) (by omega) (by omega)
 ·exact zvJ n l j w h
theorem zsV (n:Nat) {lo_c hi_c:Nat} {a_c:Option Addr} {n_c c_c:Nat} (l:Nat) (w:World) (h_c:Es (nv .i64) lo_c hi_c w a_c n_c c_c (cts n)) (hp0:l≤hgt n+1):
  Calls Tryz.prog 142 #[(vA [(vI n),(.slice a_c n_c c_c)]),(vI l)] w (Ret fun r w'=>r=(vI (und n l))∧Ext w w'):=by
 refine zw (n:=15) (σ:= [(0,(vA [(vI n),(.slice a_c n_c c_c)])),(1,(vI l))]) Tryz.func142 rfl ?_
 replace h_c:=h_c.now;have hle_c:=h_c.le
 have hcl:=h_c.len_eq
 rw [zev] at hcl
 have h5:=zam n
 refine wsr (za (zS (Instr.box 179 (vA [(vI n),(.slice a_c n_c c_c)])) (vP w.heap.size 0) ([(vI n),(.slice a_c n_c c_c)]) 179 ?_))
 intro w1 hBw1 hEw1 hzw1 hlw1
 refine zb 1 [(4,(vI 0))] (zM (zb 1 [(5,(vI l))] (za (zaI 6 l 0 (fun hc6=> ?_) (fun hc6=> ?_)))))
 ·refine wEt (zk (wsr (zb 1 [(7,(vP w.heap.size 0))] (za (zm w.heap.size 0 (hBw1.cell rfl) ?_)))))
  exact zb 1 [(4,(vI n))] (zF (zj (zh (vI n) (⟨by subst hc6;rfl,hEw1⟩))))
 ·refine wEt (zf (zl (zc (wsr (zb 1 [(9,(vP w.heap.size 1))] (za (zm w.heap.size 1 (hBw1.cell rfl) ?_)))))))
  refine zb 1 [(11,(vI l))] (za (zb5 12 l 1 (l-1) ?_))
  obtain ⟨b1,o1,rfl⟩:=h_c.addr (by omega)
  refine za (zan b1 o1 n_c c_c (l-1) 1 ?_)
  refine za (zm b1 (o1+(l-1)*1) ((h_c.ext hEw1).celln (by omega)) ?_)
  exact zb 1 [(4,(vI (gt (cts n) (l-1))))] (zF (zh (vI (gt (cts n) (l-1))) (⟨by rw [zmV hc6 hp0],hEw1⟩)))
theorem zlA (n:Nat) (w:World) (hp0:1≤n) (hp1:n≤4096):
  Calls Tryz.prog 87 #[(vI n)] w (Ret fun r w'=>r=(.tuple #[(vI (hgt n)),(vI 0)])∧Ext w w'):=by
 refine zw (n:=18) (σ:= [(0,(vI n))]) Tryz.func87 rfl ?_
 have h5:=zam n
 refine wsr (zb 2 [(3,(vI 0)),(2,(vI 0))] (zz (zb 1 [(7,(vI n))] (za (zt (zj5 n _ (by omega) (by omega)) ?_)))))
 rintro _ w1 ⟨a1,ca1,rfl,hFz1_0,hEw1⟩
 have hzw1:=hEw1.size
 have hlea1:=hFz1_0.le
 refine zb 3 [(10,(vI 0)),(9,(vA [(vI n),(.slice a1 (hgt n+1) ca1)])),(6,(.tuple #[(vA [(vI n),(.slice a1 (hgt n+1) ca1)]),(vI 0)]))] (zal ([(vI n),(.slice a1 (hgt n+1) ca1)]) 179 rfl (by simp [Value.oneCell']) ?_)
 intro w2 hBw2 hEw2 hzw2 hlw2
 refine zb 1 [(5,(vI 0))] (zM (zb 2 [(12,vF),(11,(vI 0))] (wEt (zf ?_))))
 refine zl (zc (wsr (zb 1 [(14,(vP w1.heap.size 1))] (za (zm w1.heap.size 1 (hBw2.cell rfl) ?_)))))
 refine zb 1 [(16,(vI (hgt n+1)))] (za (zb5 17 (hgt n+1) 1 (hgt n) ?_))
 exact zb 2 [(3,(vI 0)),(2,(vI (hgt n)))] (zF (zh (.tuple #[(vI (hgt n)),(vI 0)]) (⟨rfl,(hEw1.trans hEw2)⟩)))
theorem ziH (n:Int) (w:World) (hp0:¬(1≤n∧n≤4096)):
  Calls Tryz.prog 87 #[(.int .i64 n)] w (Ret fun r w'=>r=(.tuple #[(vI 0),(vI 1)])∧Ext w w'):=by
 refine zw (n:=18) (σ:= [(0,(.int .i64 n))]) Tryz.func87 rfl ?_
 refine wsr (zb 2 [(3,(vI 0)),(2,(vI 0))] (zz (zb 1 [(7,(.int .i64 n))] (za (zt (zna n _ (by omega)) ?_)))))
 rintro _ w1 ⟨rfl,hEw1⟩
 have hzw1:=hEw1.size
 refine zb 3 [(10,(vI 1)),(9,(vA [(vI 0),(.slice none 0 0)])),(6,(.tuple #[(vA [(vI 0),(.slice none 0 0)]),(vI 1)]))] (zal ([(vI 0),(.slice none 0 0)]) 179 rfl (by simp [Value.oneCell']) ?_)
 intro w2 hBw2 hEw2 hzw2 hlw2
 refine zb 1 [(5,(vI 1))] (zM (zb 2 [(12,vT),(11,(vI 1))] (wEt (zk ?_))))
 exact wsr (zb 3 [(3,(vI 1)),(2,(vI 0)),(13,(vI 1))] (zF (zj (zh (.tuple #[(vI 0),(vI 1)]) (⟨rfl,(hEw1.trans hEw2)⟩)))))
theorem znw (n:Nat) (l:Nat) (w:World) (hp0:1≤n) (hp1:n≤4096) (hp2:l≤hgt n):
  Calls Tryz.prog 88 #[(vI n),(vI l)] w (Ret fun r w'=>r=(.tuple #[(vI (cnt n l)),(vI 0)])∧Ext w w'):=by
 refine zw (n:=23) (σ:= [(0,(vI n)),(1,(vI l))]) Tryz.func88 rfl ?_
 have h5:=zam n
 refine wsr (zb 2 [(5,(vI 0)),(4,(vI 0))] (zz (zb 3 [(11,(vA [(vI l),(vI 0)])),(10,(vI l)),(9,(vI n))] (za (zt (zuR n l 0 _ (by omega) (by omega) (by omega) (zkf hp0 l)) ?_)))))
 rintro _ w1 ⟨a1,ca1,rfl,hFz1_0,hEw1⟩
 have hzw1:=hEw1.size
 have hlea1:=hFz1_0.le
 refine zb 3 [(14,(vI 0)),(13,(vA [(vI n),(.slice a1 (hgt n+1) ca1)])),(8,(.tuple #[(vA [(vI n),(.slice a1 (hgt n+1) ca1)]),(vI 0)]))] (zal ([(vI n),(.slice a1 (hgt n+1) ca1)]) 179 rfl (by simp [Value.oneCell']) ?_)
 intro w2 hBw2 hEw2 hzw2 hlw2
 refine zb 1 [(7,(vI 0))] (zM (zb 2 [(16,vF),(15,(vI 0))] (wEt (zf ?_))))
 refine zl (zc (wsr (zb 1 [(18,(vP w1.heap.size 1))] (za (zm w1.heap.size 1 (hBw2.cell rfl) ?_)))))
 refine zb 1 [(20,(vI l))] ?_
 obtain ⟨b1,o1,rfl⟩:=hFz1_0.addr (by omega)
 refine za (zan b1 o1 (hgt n+1) ca1 l 1 ?_)
 refine za (zm b1 (o1+l*1) ((hFz1_0.ext hEw2).celln (by omega)) ?_)
 exact zb 2 [(5,(vI 0)),(4,(vI (gt (cts n) l)))] (zF (zh (.tuple #[(vI (gt (cts n) l)),(vI 0)]) (⟨by rw [zjr hp2],(hEw1.trans hEw2)⟩)))
theorem ztT (n:Nat) (l:Nat) (j:Nat) (w:World) (hp0:1≤n) (hp1:n≤4096) (hp2:l≤hgt n) (hp3:j<cnt n l):
  Calls Tryz.prog 125 #[(vI n),(vI l),(vI j)] w (Ret fun r w'=>r=(.tuple #[(vI (prt n l j)),(vI 0)])∧Ext w w'):=by
 refine zw (n:=28) (σ:= [(0,(vI n)),(1,(vI l)),(2,(vI j))]) Tryz.func125 rfl ?_
 have h5:=zam n
 have hcn:=zbl n l
 have hun:=zhE n l
 have hlc:=zjE.1 hp3
 refine wsr (zb 2 [(7,(vI 0)),(6,(vI 0))] (zz (zb 4 [(14,(vA [(vI l),(vI j)])),(13,(vI j)),(12,(vI l)),(11,(vI n))] (za (zt (zuR n l j _ (by omega) (by omega) (by omega) (by omega)) ?_)))))
 rintro _ w1 ⟨a1,ca1,rfl,hFz1_0,hEw1⟩
 have hzw1:=hEw1.size
 have hlea1:=hFz1_0.le
 refine zb 3 [(17,(vI 0)),(16,(vA [(vI n),(.slice a1 (hgt n+1) ca1)])),(10,(.tuple #[(vA [(vI n),(.slice a1 (hgt n+1) ca1)]),(vI 0)]))] (zal ([(vI n),(.slice a1 (hgt n+1) ca1)]) 179 rfl (by simp [Value.oneCell']) ?_)
 intro w2 hBw2 hEw2 hzw2 hlw2
 refine zb 1 [(9,(vI 0))] (zM (zb 2 [(19,vF),(18,(vI 0))] (wEt (zf ?_))))
 refine zl (zc (wsr (za (zV w1.heap.size 0 (hBw2.all) ?_))))
 refine zb 1 [(22,(vI l))] (za (zt (zsV n l _ (hFz1_0.ext hEw2) (by omega)) ?_))
 rintro _ w3 ⟨rfl,hEw3⟩
 have hzw3:=hEw3.size
 refine zb 1 [(24,(vI j))] (za (zcg 25 4 j (4*j) ?_))
 refine za (zb5 26 (und n l) (4*j) (und n l-4*j) ?_)
 refine za (zju (some 27) (.int .i64 (if ((und n l-4*j:Nat):Int)<((4:Nat):Int) then ((und n l-4*j:Nat):Int) else ((4:Nat):Int))) (vI (min 4 (und n l-4*j))) (congrArg _ (zmt _ _)) ?_)
 exact zb 2 [(7,(vI 0)),(6,(vI (min 4 (und n l-4*j))))] (zF (zh (.tuple #[(vI (min 4 (und n l-4*j))),(vI 0)]) (⟨rfl,((hEw1.trans hEw2).trans hEw3)⟩)))
theorem zow (n:Int) (l:Int) (j:Int) (w:World) (hp0:¬((1≤n∧n≤4096)∧(0≤l∧l≤hgt n.toNat)∧(0≤j∧j<cnt n.toNat l.toNat))):
  Calls Tryz.prog 125 #[(.int .i64 n),(.int .i64 l),(.int .i64 j)] w (Ret fun r w'=>r=(.tuple #[(vI 0),(vI 1)])∧Ext w w'):=by
 refine zw (n:=28) (σ:= [(0,(.int .i64 n)),(1,(.int .i64 l)),(2,(.int .i64 j))]) Tryz.func125 rfl ?_
 refine wsr (zb 2 [(7,(vI 0)),(6,(vI 0))] (zz (zb 4 [(14,(vA [(.int .i64 l),(.int .i64 j)])),(13,(.int .i64 j)),(12,(.int .i64 l)),(11,(.int .i64 n))] (za (zt (zum n l j _ (by omega)) ?_)))))
 rintro _ w1 ⟨a1,a2,na2,ca2,rfl,hEw1⟩
 have hzw1:=hEw1.size
 refine zb 3 [(17,(vI 1)),(16,(vA [(.int .i64 a1),(.slice a2 na2 ca2)])),(10,(.tuple #[(vA [(.int .i64 a1),(.slice a2 na2 ca2)]),(vI 1)]))] (zal ([(.int .i64 a1),(.slice a2 na2 ca2)]) 179 rfl (by simp [Value.oneCell']) ?_)
 intro w2 hBw2 hEw2 hzw2 hlw2
 refine zb 1 [(9,(vI 1))] (zM (zb 2 [(19,vT),(18,(vI 1))] (wEt (zk ?_))))
 exact wsr (zb 3 [(7,(vI 1)),(6,(vI 0)),(20,(vI 1))] (zF (zj (zh (.tuple #[(vI 0),(vI 1)]) (⟨rfl,(hEw1.trans hEw2)⟩)))))
end Go.Proofs.YtkmhgepdhilllaaGreatDoor
namespace Go.Proofs.YtkmhgepdhilllaaGreatDoor
open Go Go.RowKit Go.Cs
set_option maxRecDepth 100000
end Go.Proofs.YtkmhgepdhilllaaGreatDoor
namespace Go.Proofs.YtkmhgepdhilllaaGreatDoor
open Go Go.RowKit Go.Cs
set_option maxRecDepth 100000
end Go.Proofs.YtkmhgepdhilllaaGreatDoor
namespace Go.Proofs.YtkmhgepdhilllaaGreatDoor
open Go Go.RowKit Go.Cs
set_option maxRecDepth 100000
end Go.Proofs.YtkmhgepdhilllaaGreatDoor
namespace Go.Proofs.YtkmhgepdhilllaaGreatDoor
open Go Go.RowKit Go.Cs
set_option maxRecDepth 100000
theorem zep (n:Nat) (l:Nat) (w:World) (hp0:1≤n) (hp1:n≤4096) (hp2:l≤hgt n):
  Calls Tryz.prog 32 #[(vI n),(vI l)] w (Ret fun r w'=>r=(vI (cnt n l))∧w=w'):=by
 refine zw (n:=23) (σ:= [(0,(vI n)),(1,(vI l))]) Tryz.func32 rfl ?_
 have h5:=zam n
 refine wsr (zb 1 [(4,(vI 0))] (zz (zb 2 [(5,(vI n)),(7,(vI n))] (wEt ?_))))
 refine zd (wsr (zb 1 [(6,(vI 0))] (wEt (zp (zU (X:=Nat) (fun k=> [(5,(vI (und n k))),(6,(vI k))]) [4,8,9,10,11,12,13,14,15,16,17,18,19,20,21] (fun k w1=>w=w1∧k≤l+1) (fun k=>l+1-k) 0 (by kernel_rfl) ⟨rfl,by omega⟩ ?_)))))
 rintro k dw1 w1 ⟨rfl,hk⟩
 have hun:=zhE n k
 have hun2:=zhE n (k+1)
 refine zd (wsr (zb 2 [(9,(vI l)),(8,(vI k))] (za (zjO 10 k l (fun hc10=> ?_) (fun hc10=> ?_)))))
 ·refine wEt (zk (zl (zc (zd (zp (zd (wsr ?_)))))))
  refine zb 1 [(13,(vI k))] (za (zcn 14 k 0 (fun hc14=> ?_) (fun hc14=> ?_)))
  ·have hm:=zli (n:=n) (l:=k-1) (by omega)
   have hku:=zcO (n:=n) (l:=k) (by omega)
   refine zb 2 [(16,(vI (und n k))),(15,vT)] (za (zdv 17 (und n k) 1 ?_))
   refine zb 1 [(18,vF)] (wEt (zf (zl (zc (zg (zb 1 [(19,(vI (und n k)))] (za (zae (some 20) .i64 (IntKind.i64.wrap (((und n k:Nat):Int)+((3:Nat):Int))) (und n k+3) (zao) ?_))))))))
   refine za (zae (some 21) .i64 (IntKind.i64.wrap (((und n k+3:Nat):Int).tdiv ((4:Nat):Int))) (und n (k+1)) (zao (zez _ _)) ?_)
   refine zb 1 [(5,(vI (und n (k+1))))] (zq (zi (zc (zg (zb 1 [(11,(vI k))] (za (zJ 12 k 1 (k+1) ?_)))))))
   refine zb 1 [(6,(vI (k+1)))] (zq (zn (zG (k+1) ?_ ?_)))
   ·exact ⟨rfl,by omega⟩
   ·first | omega |(dsimp only;omega)
  ·obtain rfl:k=0:=by omega
   refine zb 4 [(18,vF),(17,undef),(16,undef),(15,vF)] (wEt (zf (zl (zc (zg (zb 1 [(19,(vI (und n 0)))] (za (zae (some 20) .i64 (IntKind.i64.wrap (((und n 0:Nat):Int)+((3:Nat):Int))) (und n 0+3) (zao) ?_))))))))
   refine za (zae (some 21) .i64 (IntKind.i64.wrap (((und n 0+3:Nat):Int).tdiv ((4:Nat):Int))) (und n (0+1)) (zao (zez _ _)) ?_)
   refine zb 1 [(5,(vI (und n (0+1))))] (zq (zi (zc (zg (zb 1 [(11,(vI 0))] (za (zJ 12 0 1 1 ?_)))))))
   refine zb 1 [(6,(vI 1))] (zq (zn (zG (1) ?_ ?_)))
   ·exact ⟨rfl,by omega⟩
   ·first | omega |(dsimp only;omega)
 ·refine wEt (zf (zP (zo (zo (zD (zc (wsr ?_)))))))
  refine zb 2 [(4,(vI (und n k))),(22,(vI (und n k)))] (zF (zh (vI (und n k)) ?_))
  obtain rfl:k=l+1:=by omega
  exact ⟨rfl,rfl⟩
theorem zdM (n:Nat) (w:World) (hp0:1≤n) (hp1:n≤4096):
  Calls Tryz.prog 31 #[(vI n)] w (Ret fun r w'=>r=(vI (hgt n))∧w=w'):=by
 refine zw (n:=11) (σ:= [(0,(vI n))]) Tryz.func31 rfl ?_
 have h5:=zam n
 refine wsr (zb 1 [(2,(vI 0))] (zz (zb 1 [(3,(vI 0))] (wEt ?_))))
 refine zd (zp (zU (X:=Nat) (fun k=> [(3,(vI k))]) [4,5,6,7,8,9] (fun k w1=>w=w1∧k≤hgt n) (fun k=>hgt n-k) 0 (by kernel_rfl) ⟨rfl,by omega⟩ ?_))
 rintro k dw1 w1 ⟨rfl,hk⟩
 have hiff:=zg1 hp0 hp1 hk
 refine zd (wsr (zb 2 [(5,(vI k)),(4,(vI n))] (za (zt (zep n k _ (by omega) (by omega) (by omega)) ?_))))
 rintro _ _ ⟨rfl,rfl⟩
 refine za (zbT 7 (cnt n k) 1 (fun hc7=> ?_) (fun hc7=> ?_))
 ·have hlt:k<hgt n:=by rcases Nat.lt_or_ge k (hgt n) with h | h;exact h;exact absurd (hiff.2 (by omega)) hc7
  refine wEt (zk (zl (zc (zp (zg (zb 1 [(8,(vI k))] (za (zJ 9 k 1 (k+1) ?_))))))))
  refine zb 1 [(3,(vI (k+1)))] (zq (zi (zn (zG (k+1) ?_ ?_))))
  ·exact ⟨rfl,by omega⟩
  ·first | omega |(dsimp only;omega)
 ·obtain rfl:=hiff.1 hc7
  refine wEt (zf (zP (zo (zo (zD (zc (wsr ?_)))))))
  exact zb 2 [(2,(vI (hgt n))),(10,(vI (hgt n)))] (zF (zh (vI (hgt n)) (⟨rfl,rfl⟩)))
theorem zwF (n:Nat) (l:Nat) (j:Nat) (w:World) (hp0:1≤n) (hp1:n≤4096) (hp2:l≤hgt n) (hp3:j<cnt n l):
  Calls Tryz.prog 86 #[(vI n),(vI l),(vI j)] w (Ret fun r w'=>r=vT∧w=w'):=by
 refine zw (n:=26) (σ:= [(0,(vI n)),(1,(vI l)),(2,(vI j))]) Tryz.func86 rfl ?_
 refine wsr (zb 1 [(6,vF)] (zz (zb 1 [(7,(vI l))] (za (zf0 8 l 0 ?_)))))
 refine zb 3 [(11,(vI n)),(10,(vI l)),(9,vT)] (za (zt (zdM n _ (by omega) (by omega)) ?_))
 rintro _ _ ⟨rfl,rfl⟩
 refine za (zmf 13 l (hgt n) ?_)
 refine zb 3 [(16,(vI j)),(15,vT),(14,vT)] (za (zf0 17 j 0 ?_))
 refine zb 5 [(22,(vI l)),(21,(vI n)),(20,(vI j)),(19,vT),(18,vT)] (za (zt (zep n l _ (by omega) (by omega) (by omega)) ?_))
 rintro _ _ ⟨rfl,rfl⟩
 refine za (zvc 24 j (cnt n l) ?_)
 exact zb 2 [(6,vT),(25,vT)] (zF (zh vT (⟨rfl,rfl⟩)))
theorem ztg (n:Nat) (l:Int) (j:Int) (w:World) (hp0:1≤n) (hp1:n≤4096) (hp2:l<0):
  Calls Tryz.prog 86 #[(vI n),(.int .i64 l),(.int .i64 j)] w (Ret fun r w'=>r=vF∧w=w'):=by
 refine zw (n:=26) (σ:= [(0,(vI n)),(1,(.int .i64 l)),(2,(.int .i64 j))]) Tryz.func86 rfl ?_
 refine wsr (zb 1 [(6,vF)] (zz (zb 1 [(7,(.int .i64 l))] (za (zbn (some 8) (decide (l≥((0:Nat):Int))) false (zbW) ?_)))))
 exact zb 18 [(6,vF),(25,vF),(24,undef),(23,undef),(22,undef),(21,undef),(20,undef),(19,vF),(18,vF),(17,undef),(16,undef),(15,vF),(14,vF),(13,undef),(12,undef),(11,undef),(10,undef),(9,vF)] (zF (zh vF (⟨rfl,rfl⟩)))
theorem ztW (n:Nat) (l:Nat) (j:Int) (w:World) (hp0:1≤n) (hp1:n≤4096) (hp2:hgt n<l):
  Calls Tryz.prog 86 #[(vI n),(vI l),(.int .i64 j)] w (Ret fun r w'=>r=vF∧w=w'):=by
 refine zw (n:=26) (σ:= [(0,(vI n)),(1,(vI l)),(2,(.int .i64 j))]) Tryz.func86 rfl ?_
 refine wsr (zb 1 [(6,vF)] (zz (zb 1 [(7,(vI l))] (za (zf0 8 l 0 ?_)))))
 refine zb 3 [(11,(vI n)),(10,(vI l)),(9,vT)] (za (zt (zdM n _ (by omega) (by omega)) ?_))
 rintro _ _ ⟨rfl,rfl⟩
 refine za (zvB 13 l (hgt n) ?_)
 exact zb 13 [(6,vF),(25,vF),(24,undef),(23,undef),(22,undef),(21,undef),(20,undef),(19,vF),(18,vF),(17,undef),(16,undef),(15,vF),(14,vF)] (zF (zh vF (⟨rfl,rfl⟩)))
theorem zta (n:Nat) (l:Nat) (j:Int) (w:World) (hp0:1≤n) (hp1:n≤4096) (hp2:l≤hgt n) (hp3:j<0):
  Calls Tryz.prog 86 #[(vI n),(vI l),(.int .i64 j)] w (Ret fun r w'=>r=vF∧w=w'):=by
 refine zw (n:=26) (σ:= [(0,(vI n)),(1,(vI l)),(2,(.int .i64 j))]) Tryz.func86 rfl ?_
 refine wsr (zb 1 [(6,vF)] (zz (zb 1 [(7,(vI l))] (za (zf0 8 l 0 ?_)))))
 refine zb 3 [(11,(vI n)),(10,(vI l)),(9,vT)] (za (zt (zdM n _ (by omega) (by omega)) ?_))
 rintro _ _ ⟨rfl,rfl⟩
 refine za (zmf 13 l (hgt n) ?_)
 refine zb 3 [(16,(.int .i64 j)),(15,vT),(14,vT)] (za (zbn (some 17) (decide (j≥((0:Nat):Int))) false (zbW) ?_))
 exact zb 9 [(6,vF),(25,vF),(24,undef),(23,undef),(22,undef),(21,undef),(20,undef),(19,vF),(18,vF)] (zF (zh vF (⟨rfl,rfl⟩)))
theorem zsG (n:Nat) (l:Nat) (j:Nat) (w:World) (hp0:1≤n) (hp1:n≤4096) (hp2:l≤hgt n) (hp3:cnt n l≤j):
  Calls Tryz.prog 86 #[(vI n),(vI l),(vI j)] w (Ret fun r w'=>r=vF∧w=w'):=by
 refine zw (n:=26) (σ:= [(0,(vI n)),(1,(vI l)),(2,(vI j))]) Tryz.func86 rfl ?_
 refine wsr (zb 1 [(6,vF)] (zz (zb 1 [(7,(vI l))] (za (zf0 8 l 0 ?_)))))
 refine zb 3 [(11,(vI n)),(10,(vI l)),(9,vT)] (za (zt (zdM n _ (by omega) (by omega)) ?_))
 rintro _ _ ⟨rfl,rfl⟩
 refine za (zmf 13 l (hgt n) ?_)
 refine zb 3 [(16,(vI j)),(15,vT),(14,vT)] (za (zf0 17 j 0 ?_))
 refine zb 5 [(22,(vI l)),(21,(vI n)),(20,(vI j)),(19,vT),(18,vT)] (za (zt (zep n l _ (by omega) (by omega) (by omega)) ?_))
 rintro _ _ ⟨rfl,rfl⟩
 refine za (zjL 24 j (cnt n l) ?_)
 exact zb 2 [(6,vF),(25,vF)] (zF (zh vF (⟨rfl,rfl⟩)))
theorem zr9 (n:Nat) (l:Int) (j:Int) (w:World) (hp0:1≤n) (hp1:n≤4096) (hp2:¬((0≤l∧l≤hgt n)∧(0≤j∧j<cnt n l.toNat))):
  Calls Tryz.prog 86 #[(vI n),(.int .i64 l),(.int .i64 j)] w (Ret fun r w'=>r=vF∧w=w'):=by
 by_cases hl:l<0
 ·exact ztg n l j w hp0 hp1 hl
 ·obtain ⟨k,rfl⟩:=Int.eq_ofNat_of_zero_le (show 0≤l by omega)
  rw [Int.toNat_natCast] at hp2
  by_cases hk:hgt n<k
  ·exact ztW n k j w hp0 hp1 hk
  ·by_cases hj:j<0
   ·exact zta n k j w hp0 hp1 (by omega) hj
   ·obtain ⟨i,rfl⟩:=Int.eq_ofNat_of_zero_le (show 0≤j by omega)
    exact zsG n k i w hp0 hp1 (by omega) (by omega)
theorem zhD (n:Nat) (l:Nat) (j:Nat) (w:World) (hp0:1≤n) (hp1:n≤4096) (hp2:l≤hgt n+1) (hp3:j≤4096):
  Calls Tryz.prog 73 #[(vI n),(vI l),(vI j)] w (Ret fun r w'=>r=(vI (prt n l j))∧w=w'):=by
 refine zw (n:=30) (σ:= [(0,(vI n)),(1,(vI l)),(2,(vI j))]) Tryz.func73 rfl ?_
 have h5:=zam n
 refine wsr (zb 1 [(6,(vI 0))] (zz (zb 2 [(7,(vI n)),(10,(vI n))] (wEt ?_))))
 refine zd (wsr (zb 1 [(11,(vI l))] (za (zcn 12 l 0 (fun hc12=> ?_) (fun hc12=> ?_)))))
 ·have hup:=zcO (n:=n) (l:=l) (by omega)
  have hun:=zhE n l
  refine wEt (zk (zg (zb 2 [(14,(vI l)),(13,(vI n))] (za (zb5 15 l 1 (l-1) ?_)))))
  refine za (zt (zep n (l-1) _ (by omega) (by omega) (by omega)) ?_)
  rintro _ _ ⟨rfl,rfl⟩
  rw [show cnt n (l-1)=und n l from hup.symm]
  refine zb 1 [(7,(vI (und n l)))] (zz (zb 1 [(8,(vI 0))] (wEt (zd (zd ?_)))))
  refine zg (zb 1 [(9,(vI 0))] (wEt (zp (zU (X:=Nat) (fun v=> [(8,(vI (min v (und n l-4*j)))),(9,(vI v))]) [17,18,19,20,21,22,23,24,25,26,27,28] (fun v w1=>w=w1∧v≤4) (fun v=>4-v) 0 (by rw [Nat.zero_min];kernel_rfl) ⟨rfl,by omega⟩ ?_))))
  rintro v dw1 w1 ⟨rfl,hv⟩
  refine zd (wsr (zb 1 [(17,(vI v))] (za (zag 18 v 4 (fun hc18=> ?_) (fun hc18=> ?_)))))
  ·refine wEt (zk (zl (zc (zd (zp (wsr (zb 1 [(21,(vI j))] ?_)))))))
   refine za (zcg 22 4 j (4*j) ?_)
   refine zb 1 [(23,(vI v))] (za (zJ 24 (4*j) v (4*j+v) ?_))
   refine zb 1 [(25,(vI (und n l)))] (za (zag 26 (4*j+v) (und n l) (fun hc26=> ?_) (fun hc26=> ?_)))
   ·refine wEt (zk (zg (zb 1 [(27,(vI (min v (und n l-4*j))))] (za (zae (some 28) .i64 (IntKind.i64.wrap (((min v (und n l-4*j):Nat):Int)+((1:Nat):Int))) (min (v+1) (und n l-4*j)) (zao) ?_)))))
    refine zb 1 [(8,(vI (min (v+1) (und n l-4*j))))] (zq (zi (zc (zg (zb 1 [(19,(vI v))] (za (zJ 20 v 1 (v+1) ?_)))))))
    refine zb 1 [(9,(vI (v+1)))] (zq (zn (zG (v+1) ?_ ?_)))
    ·exact ⟨rfl,by omega⟩
    ·first | omega |(dsimp only;omega)
   ·rw [show min v (und n l-4*j)=min (v+1) (und n l-4*j) from by omega]
    refine wEt (zf (zl (zi (zc (zg (zb 1 [(19,(vI v))] (za (zJ 20 v 1 (v+1) ?_))))))))
    refine zb 1 [(9,(vI (v+1)))] (zq (zn (zG (v+1) ?_ ?_)))
    ·exact ⟨rfl,by omega⟩
    ·first | omega |(dsimp only;omega)
  ·refine wEt (zf (zP (zo (zo (zD (zc (wsr ?_)))))))
   refine zb 2 [(6,(vI (min v (und n l-4*j)))),(29,(vI (min v (und n l-4*j))))] (zF (zh (vI (min v (und n l-4*j))) ?_))
   obtain rfl:v=4:=by omega
   exact ⟨rfl,rfl⟩
 ·obtain rfl:l=0:=by omega
  have hu0:und n 0=n:=rfl
  refine wEt (zf (zl (zc (wsr (zb 1 [(8,(vI 0))] (wEt ?_))))))
  refine zd (wsr (zb 1 [(9,(vI 0))] (wEt (zp (zU (X:=Nat) (fun v=> [(8,(vI (min v (und n 0-4*j)))),(9,(vI v))]) [17,18,19,20,21,22,23,24,25,26,27,28] (fun v w2=>w=w2∧v≤4) (fun v=>4-v) 0 (by rw [Nat.zero_min];kernel_rfl) ⟨rfl,by omega⟩ ?_)))))
  rintro v dw2 w2 ⟨rfl,hv⟩
  refine zd (wsr (zb 1 [(17,(vI v))] (za (zag 18 v 4 (fun hc18=> ?_) (fun hc18=> ?_)))))
  ·refine wEt (zk (zl (zc (zd (zp (wsr (zb 1 [(21,(vI j))] ?_)))))))
   refine za (zcg 22 4 j (4*j) ?_)
   refine zb 1 [(23,(vI v))] (za (zJ 24 (4*j) v (4*j+v) ?_))
   refine zb 1 [(25,(vI n))] (za (zag 26 (4*j+v) n (fun hc26=> ?_) (fun hc26=> ?_)))
   ·refine wEt (zk (zg (zb 1 [(27,(vI (min v (und n 0-4*j))))] (za (zae (some 28) .i64 (IntKind.i64.wrap (((min v (und n 0-4*j):Nat):Int)+((1:Nat):Int))) (min (v+1) (und n 0-4*j)) (zao) ?_)))))
    refine zb 1 [(8,(vI (min (v+1) (und n 0-4*j))))] (zq (zi (zc (zg (zb 1 [(19,(vI v))] (za (zJ 20 v 1 (v+1) ?_)))))))
    refine zb 1 [(9,(vI (v+1)))] (zq (zn (zG (v+1) ?_ ?_)))
    ·exact ⟨rfl,by omega⟩
    ·first | omega |(dsimp only;omega)
   ·rw [show min v (und n 0-4*j)=min (v+1) (und n 0-4*j) from by omega]
    refine wEt (zf (zl (zi (zc (zg (zb 1 [(19,(vI v))] (za (zJ 20 v 1 (v+1) ?_))))))))
    refine zb 1 [(9,(vI (v+1)))] (zq (zn (zG (v+1) ?_ ?_)))
    ·exact ⟨rfl,by omega⟩
    ·first | omega |(dsimp only;omega)
  ·refine wEt (zf (zP (zo (zo (zD (zc (wsr ?_)))))))
   refine zb 2 [(6,(vI (min v (und n 0-4*j)))),(29,(vI (min v (und n 0-4*j))))] (zF (zh (vI (min v (und n 0-4*j))) ?_))
   obtain rfl:v=4:=by omega
   exact ⟨rfl,rfl⟩
theorem zml (i:Nat) (l:Nat) (w:World) (hp0:i≤4096) (hp1:l≤4096):
  Calls Tryz.prog 69 #[(vI i),(vI l)] w (Ret fun r w'=>r=(vI (idx i l))∧w=w'):=by
 refine zw (n:=17) (σ:= [(0,(vI i)),(1,(vI l))]) Tryz.func69 rfl ?_
 refine wsr (zb 1 [(4,(vI 0))] (zz (zb 1 [(7,(vI i))] (za (zae (some 8) .i64 (IntKind.i64.wrap (((i:Nat):Int).tdiv ((4:Nat):Int))) (i/4) (zao (zez _ _)) ?_)))))
 refine zb 1 [(5,(vI (i/4)))] (zM (zb 1 [(6,(vI 0))] (wEt (zp ?_))))
 refine zU (X:=Nat) (fun k=> [(5,(vI (idx i k))),(6,(vI k))]) [9,10,11,12,13,14,15] (fun k w1=>w=w1∧k≤l) (fun k=>l-k) 0 (by kernel_rfl) ⟨rfl,by omega⟩ ?_
 rintro k dw1 w1 ⟨rfl,hk⟩
 have hix:=zl7 i k
 refine zd (wsr (zb 2 [(10,(vI l)),(9,(vI k))] (za (zag 11 k l (fun hc11=> ?_) (fun hc11=> ?_)))))
 ·refine wEt (zk (zl (zc (zd (zp (zg (zb 1 [(14,(vI (idx i k)))] (za (zae (some 15) .i64 (IntKind.i64.wrap (((idx i k:Nat):Int).tdiv ((4:Nat):Int))) (idx i (k+1)) (zao (zez _ _) (by omega) (by rw [idx];omega)) ?_)))))))))
  refine zb 1 [(5,(vI (idx i (k+1))))] (zq (zi (zc (zg (zb 1 [(12,(vI k))] (za (zJ 13 k 1 (k+1) ?_)))))))
  refine zb 1 [(6,(vI (k+1)))] (zq (zn (zG (k+1) ?_ ?_)))
  ·exact ⟨rfl,by omega⟩
  ·first | omega |(dsimp only;omega)
 ·refine wEt (zf (zP (zo (zo (zD (zc (wsr ?_)))))))
  refine zb 2 [(4,(vI (idx i k))),(16,(vI (idx i k)))] (zF (zh (vI (idx i k)) ?_))
  obtain rfl:k=l:=by omega
  exact ⟨rfl,rfl⟩
end Go.Proofs.YtkmhgepdhilllaaGreatDoor
namespace Go.Proofs.YtkmhgepdhilllaaGreatDoor
open Go Go.RowKit Go.Cs
set_option maxRecDepth 100000
theorem zqP (v:Nat) (w:World):
  Calls Tryz.prog 110 #[(vB v)] w (Ret fun r w'=>r=(vI (min v 1))∧w=w'):=by
 refine zw (n:=6) (σ:= [(0,(vB v))]) Tryz.func110 rfl ?_
 refine wsr (zb 1 [(2,(vI 0))] (zz (zb 1 [(3,(vB v))] (za (zju (some 4) (.int .u8 (if ((1:Nat):Int)<((v:Nat):Int) then ((1:Nat):Int) else ((v:Nat):Int))) (vB (min v 1)) (congrArg _ (zmt _ _)) ?_)))))
 refine za (zdq 5 (min v 1) ?_)
 exact zb 1 [(2,(vI (min v 1)))] (zF (zh (vI (min v 1)) (⟨rfl,rfl⟩)))
theorem ztS (x:R4) (w:World):
  Calls Tryz.prog 113 #[(vA (r4C x)),(.func (.func 62) #[] #[])] w (Ret fun r w'=>r=(vI (zgN x))∧Ext w w'):=by
 refine zw (n:=19) (σ:= [(0,(vA (r4C x))),(1,(.func (.func 62) #[] #[]))]) Tryz.func113 rfl ?_
 refine wsr (za (zS (Instr.box 69 (vA (r4C x))) (vP w.heap.size 0) (r4C x) 69 ?_))
 intro w1 hBw1 hEw1 hzw1 hlw1
 refine zb 1 [(4,(vI 0))] (zM (za (zQ w.heap.size 0 (hBw1.all) (zdL _) ?_)))
 refine zb 1 [(9,(vI 0))] (wEt (zp (zU (X:=Nat) (fun i=> [(9,(vI i))]) [4,6,7,10,11,12,13,14,15,16,17,18] (fun i w2=>i≤4∧zc7 zaB x.get i=0∧Ext w w2) (fun i=>4-i) 0 (by kernel_rfl) ⟨by omega,rfl,hEw1⟩ ?_)))
 rintro i dw2 w2 ⟨hi,hz,hEl⟩
 have hzl:=hEl.size
 refine wsr (za (zag 10 i 4 (fun hc10=> ?_) (fun hc10=> ?_)))
 ·refine wEt (zd (zk (zl (zc (zd (zp (wsr ?_)))))))
  refine za (zaN (Instr.index 69 (vA (r4C x)) (vI i)) (vA (zL (x.get i))) (zhS (E:=68) (m:=4) (sz:=35) (us:=zL (x.get i)) (by omega) (zo1 (by omega))) ?_)
  refine zal (zL (x.get i)) 68 (zab _) (zbi _) ?_
  intro w3 hBw3 hEw3 hzw3 hlw3
  refine zz (zb 1 [(12,(.func (.func 62) #[] #[]))] (za (zQ w2.heap.size 0 (hBw3.all) (zab _) ?_)))
  refine za (zt (zf5 (x.get i) _) ?_)
  rintro _ w4 ⟨rfl,hEw4⟩
  have hzw4:=hEw4.size
  refine zb 1 [(7,(vI (zaB (x.get i))))] (zz (zb 1 [(15,(vI (zaB (x.get i))))] (za (zbT 16 (zaB (x.get i)) 0 (fun hc16=> ?_) (fun hc16=> ?_)))))
  ·refine wEt (zk (wsr (zb 2 [(4,(vI (zaB (x.get i)))),(17,(vI (zaB (x.get i))))] (zF (zu ?_)))))
   exact zj (zj (zu (zj (zh (vI (zaB (x.get i))) (⟨congrArg (fun z:Nat=>vI z) (zob (by omega) (by omega)),((hEl.trans hEw3).trans hEw4)⟩)))))
  ·refine wEt (zf (zl (zi (zc (zg (za (zJ 18 i 1 (i+1) ?_)))))))
   refine zb 1 [(9,(vI (i+1)))] (zq (zn (zG (i+1) ?_ ?_)))
   ·exact ⟨by omega,by rw [zc7,if_pos hz];omega,((hEl.trans hEw3).trans hEw4)⟩
   ·first | omega |(dsimp only;omega)
 ·refine wEt (zd (zf (zP (zo (zo (zD (zc (zd ?_))))))))
  refine zg (zb 1 [(4,(vI 0))] (zF (zh (vI 0) ?_)))
  obtain rfl:i=4:=by omega
  exact ⟨congrArg (fun z:Nat=>vI z) (hz.symm),hEl⟩
theorem zsZ (x:E4) (w:World):
  Calls Tryz.prog 116 #[(vA (e4C x)),(.func (.func 131) #[] #[])] w (Ret fun r w'=>r=(vI (zgU x))∧Ext w w'):=by
 refine zw (n:=19) (σ:= [(0,(vA (e4C x))),(1,(.func (.func 131) #[] #[]))]) Tryz.func116 rfl ?_
 refine wsr (za (zS (Instr.box 72 (vA (e4C x))) (vP w.heap.size 0) (e4C x) 72 ?_))
 intro w1 hBw1 hEw1 hzw1 hlw1
 refine zb 1 [(4,(vI 0))] (zM (za (zQ w.heap.size 0 (hBw1.all) (zew _) ?_)))
 refine zb 1 [(9,(vI 0))] (wEt (zp (zU (X:=Nat) (fun i=> [(9,(vI i))]) [4,6,7,10,11,12,13,14,15,16,17,18] (fun i w2=>i≤4∧zc7 za3 x.get i=0∧Ext w w2) (fun i=>4-i) 0 (by kernel_rfl) ⟨by omega,rfl,hEw1⟩ ?_)))
 rintro i dw2 w2 ⟨hi,hz,hEl⟩
 have hzl:=hEl.size
 refine wsr (za (zag 10 i 4 (fun hc10=> ?_) (fun hc10=> ?_)))
 ·refine wEt (zd (zk (zl (zc (zd (zp (wsr ?_)))))))
  refine za (zaN (Instr.index 72 (vA (e4C x)) (vI i)) (vA (zW (x.get i))) (zhS (E:=71) (m:=4) (sz:=33) (us:=zW (x.get i)) (by omega) (zk3 (by omega))) ?_)
  refine zal (zW (x.get i)) 71 (zat _) (zch _) ?_
  intro w3 hBw3 hEw3 hzw3 hlw3
  refine zz (zb 1 [(12,(.func (.func 131) #[] #[]))] (za (zQ w2.heap.size 0 (hBw3.all) (zat _) ?_)))
  refine za (zt (zie (x.get i) _) ?_)
  rintro _ w4 ⟨rfl,hEw4⟩
  have hzw4:=hEw4.size
  refine zb 1 [(7,(vI (za3 (x.get i))))] (zz (zb 1 [(15,(vI (za3 (x.get i))))] (za (zbT 16 (za3 (x.get i)) 0 (fun hc16=> ?_) (fun hc16=> ?_)))))
  ·refine wEt (zk (wsr (zb 2 [(4,(vI (za3 (x.get i)))),(17,(vI (za3 (x.get i))))] (zF (zu ?_)))))
   exact zj (zj (zu (zj (zh (vI (za3 (x.get i))) (⟨congrArg (fun z:Nat=>vI z) (zol (by omega) (by omega)),((hEl.trans hEw3).trans hEw4)⟩)))))
  ·refine wEt (zf (zl (zi (zc (zg (za (zJ 18 i 1 (i+1) ?_)))))))
   refine zb 1 [(9,(vI (i+1)))] (zq (zn (zG (i+1) ?_ ?_)))
   ·exact ⟨by omega,by rw [zc7,if_pos hz];omega,((hEl.trans hEw3).trans hEw4)⟩
   ·first | omega |(dsimp only;omega)
 ·refine wEt (zd (zf (zP (zo (zo (zD (zc (zd ?_))))))))
  refine zg (zb 1 [(4,(vI 0))] (zF (zh (vI 0) ?_)))
  obtain rfl:i=4:=by omega
  exact ⟨congrArg (fun z:Nat=>vI z) (hz.symm),hEl⟩
theorem zjl (x:Nod) (w:World):
  Calls Tryz.prog 109 #[(vA (zH x))] w (Ret fun r w'=>r=(vI (zaz x))∧Ext w w'):=by
 refine zw (n:=32) (σ:= [(0,(vA (zH x)))]) Tryz.func109 rfl ?_
 refine wsr (za (zS (Instr.box 74 (vA (zH x))) (vP w.heap.size 0) (zH x) 74 ?_))
 intro w1 hBw1 hEw1 hzw1 hlw1
 refine zb 1 [(2,(vI 0))] (wEt (zd (zp (wsr (zb 1 [(4,(vP w.heap.size 0))] (za (zm w.heap.size 0 (hBw1.cell rfl) ?_)))))))
 refine za (zcn 6 x.lv 5 (fun hc6=> ?_) (fun hc6=> ?_))
 ·refine zb 1 [(3,vT)] (wEt (zk (wsr (zb 1 [(2,(vI 1))] (zF ?_)))))
  exact zu (zj (zh (vI 1) (⟨congrArg (fun z:Nat=>vI z) (by unfold zaz;(repeat' split)<;>first | rfl | omega | simp_all),hEw1⟩)))
 ·refine zb 1 [(3,vF)] (wEt (zf (wsr (zb 1 [(8,(vP w.heap.size 0))] (za (zm w.heap.size 0 (hBw1.cell rfl) ?_))))))
  refine za (zaI 10 x.lv 0 (fun hc10=> ?_) (fun hc10=> ?_))
  ·refine zb 2 [(12,(vP w.heap.size 142)),(11,vT)] (za (zQ w.heap.size 142 (hBw1.at 142 (e4C x.es) (zgK _)) (zew _) ?_))
   refine zb 1 [(14,(vA (e4C E4.zero)))] ?_
   rcases Bool.eq_false_or_eq_true (x.es.eqb E4.zero) with hq15 | hq15
   ·refine za (zbG (some 15) (bo .neq 72 (.tmp 13) (.tmp 14) (vA (e4C x.es)) (vA (e4C E4.zero))) vF (zaj (r:=true) (T:=72) ((zhT (dd:=9996) (T:=72) (t:=71) (t8:=5) (td:=59) (e:=5) x.es E4.zero).trans (congrArg (fun b=>Result.ok b _) (show (x.es.eqb E4.zero)=true from hq15)))) ?_)
    refine zb 2 [(7,vF),(16,vF)] (wEt (zf (wsr (zb 1 [(18,(vP w.heap.size 0))] (za (zm w.heap.size 0 (hBw1.cell rfl) ?_))))))
    refine za (zdI 20 x.lv 0 ?_)
    refine zb 1 [(17,vT)] (wEt (zk (wsr (zb 1 [(21,(vP w.heap.size 2))] (za (zQ w.heap.size 2 (hBw1.at 2 (r4C x.rs) (zg4 _)) (zdL _) ?_))))))
    refine za (zt (ztS x.rs _) ?_)
    rintro _ w2 ⟨rfl,hEw2⟩
    have hzw2:=hEw2.size
    exact zb 1 [(2,(vI (zgN x.rs)))] (zF (zu (zj (zh (vI (zgN x.rs)) (⟨congrArg (fun z:Nat=>vI z) (by unfold zaz;(repeat' split)<;>first | rfl | omega | simp_all),(hEw1.trans hEw2)⟩)))))
   ·refine za (zbG (some 15) (bo .neq 72 (.tmp 13) (.tmp 14) (vA (e4C x.es)) (vA (e4C E4.zero))) vT (zaj (r:=false) (T:=72) ((zhT (dd:=9996) (T:=72) (t:=71) (t8:=5) (td:=59) (e:=5) x.es E4.zero).trans (congrArg (fun b=>Result.ok b _) (show (x.es.eqb E4.zero)=false from hq15)))) ?_)
    refine zb 2 [(7,vT),(16,vT)] (wEt (zk (wsr (zb 1 [(2,(vI 1))] (zF ?_)))))
    exact zu (zj (zh (vI 1) (⟨congrArg (fun z:Nat=>vI z) (by unfold zaz;(repeat' split)<;>first | rfl | omega | simp_all),hEw1⟩)))
  ·refine zb 7 [(7,vF),(16,vF),(15,undef),(14,undef),(13,undef),(12,undef),(11,vF)] (wEt (zf (wsr (zb 1 [(18,(vP w.heap.size 0))] (za (zm w.heap.size 0 (hBw1.cell rfl) ?_))))))
   refine za (zdv 20 x.lv 0 ?_)
   refine zb 1 [(17,vF)] (wEt (zf (wsr (zb 1 [(25,(vP w.heap.size 2))] (za (zQ w.heap.size 2 (hBw1.at 2 (r4C x.rs) (zg4 _)) (zdL _) ?_))))))
   refine zb 1 [(27,(vA (r4C R4.zero)))] ?_
   rcases Bool.eq_false_or_eq_true (x.rs.eqb R4.zero) with hq28 | hq28
   ·refine za (zbG (some 28) (bo .neq 69 (.tmp 26) (.tmp 27) (vA (r4C x.rs)) (vA (r4C R4.zero))) vF (zaj (r:=true) (T:=69) ((zhO (dd:=9996) (T:=69) (t:=68) (t8:=5) (td:=59) (e:=5) (tn:=56) (t32:=53) (t64:=54) x.rs R4.zero).trans (congrArg (fun b=>Result.ok b _) (show (x.rs.eqb R4.zero)=true from hq28)))) ?_)
    refine zb 1 [(24,vF)] (wEt (zf (zl (zi (zc (wsr (zb 1 [(29,(vP w.heap.size 142))] ?_)))))))
    refine za (zQ w.heap.size 142 (hBw1.at 142 (e4C x.es) (zgK _)) (zew _) ?_)
    refine za (zt (zsZ x.es _) ?_)
    rintro _ w3 ⟨rfl,hEw3⟩
    have hzw3:=hEw3.size
    exact zb 1 [(2,(vI (zgU x.es)))] (zF (zh (vI (zgU x.es)) (⟨congrArg (fun z:Nat=>vI z) (by unfold zaz;(repeat' split)<;>first | rfl | omega | simp_all),(hEw1.trans hEw3)⟩)))
   ·refine za (zbG (some 28) (bo .neq 69 (.tmp 26) (.tmp 27) (vA (r4C x.rs)) (vA (r4C R4.zero))) vT (zaj (r:=false) (T:=69) ((zhO (dd:=9996) (T:=69) (t:=68) (t8:=5) (td:=59) (e:=5) (tn:=56) (t32:=53) (t64:=54) x.rs R4.zero).trans (congrArg (fun b=>Result.ok b _) (show (x.rs.eqb R4.zero)=false from hq28)))) ?_)
    refine zb 1 [(24,vT)] (wEt (zk (wsr (zb 1 [(2,(vI 1))] (zF ?_)))))
    exact zu (zj (zh (vI 1) (⟨congrArg (fun z:Nat=>vI z) (by unfold zaz;(repeat' split)<;>first | rfl | omega | simp_all),hEw1⟩)))
theorem zqM (x:Nod) (w:World):
  Calls Tryz.prog 85 #[(vA (zH x))] w (Ret fun r w'=>r=(vI (zaz x))∧Ext w w'):=by
 refine zw (n:=57) (σ:= [(0,(vA (zH x)))]) Tryz.func85 rfl ?_
 refine wsr (za (zS (Instr.box 74 (vA (zH x))) (vP w.heap.size 0) (zH x) 74 ?_))
 intro w1 hBw1 hEw1 hzw1 hlw1
 refine zb 1 [(2,(vI 0))] (zM (zb 1 [(6,(vP w.heap.size 0))] (za (zm w.heap.size 0 (hBw1.cell rfl) ?_))))
 refine za (zcn 8 x.lv 5 (fun hc8=> ?_) (fun hc8=> ?_))
 ·refine wEt (zk (wsr (zb 1 [(2,(vI 1))] (zF (zj ?_)))))
  exact zh (vI 1) (⟨congrArg (fun z:Nat=>vI z) ((by unfold zaz;rw [if_pos (by omega)])),hEw1⟩)
 ·refine wEt (zf (zl (zc (zd (wsr (zb 1 [(3,(vI 0))] (zq ?_)))))))
  refine zc (zp (zU (X:=Nat) (fun i=> [(3,(vI i))]) [2,9,10,11,12,13,14,15,16,17,18,19,20,21,22,23,24,25,26,27,28,29,30,31,32,33,34,35,36] (fun i w2=>i≤4∧Zs x i∧Ext w1 w2) (fun i=>4-i) 0 (by kernel_rfl) ⟨by omega,Zs.zero x,(Ext.refl _)⟩ ?_))
  rintro i dw2 w2 ⟨hi,hz,hEl⟩
  have hzl:=hEl.size
  refine zd (wsr (zb 1 [(9,(vI i))] (za (zag 10 i 4 (fun hc10=> ?_) (fun hc10=> ?_)))))
  ·refine wEt (zk (zl (zc (zd (zp (wsr (zb 1 [(13,(vP w.heap.size 0))] ?_)))))))
   refine za (zm w.heap.size 0 ((hBw1.ext hEl).cell rfl) ?_)
   refine za (zaI 15 x.lv 0 (fun hc15=> ?_) (fun hc15=> ?_))
   ·refine zb 3 [(18,(vP w.heap.size 142)),(17,(vI i)),(16,vT)] (za (zaW w.heap.size 142 i 4 33 ?_))
    refine za (zQ w.heap.size (142+i*33) ((hBw1.ext hEl).at (142+i*33) (zW (x.es.get i)) (nod_e (by omega))) (zat _) ?_)
    refine zb 1 [(21,(vA (zW Ent.zero)))] ?_
    rcases Bool.eq_false_or_eq_true ((x.es.get i).eqb Ent.zero) with hq22 | hq22
    ·refine za (zbG (some 22) (bo .neq 71 (.tmp 20) (.tmp 21) (vA (zW (x.es.get i))) (vA (zW Ent.zero))) vF (zaj (r:=true) (T:=71) ((za2 (dd:=9997) (t:=71) (t8:=5) (td:=59) (e:=5) (x.es.get i) Ent.zero).trans (congrArg (fun b=>Result.ok b _) (show ((x.es.get i).eqb Ent.zero)=true from hq22)))) ?_)
     refine zb 3 [(25,(vP w.heap.size 0)),(24,vF),(23,vF)] (za (zm w.heap.size 0 ((hBw1.ext hEl).cell rfl) ?_))
     refine za (zgE 27 x.lv 0 ?_)
     refine zb 9 [(36,vF),(35,vF),(34,undef),(33,undef),(32,undef),(31,undef),(30,undef),(29,undef),(28,vF)] (wEt (zf (zl (zi (zc (zg (zb 1 [(11,(vI i))] (za (zJ 12 i 1 (i+1) ?_)))))))))
     refine zb 1 [(3,(vI (i+1)))] (zq (zn (zG (i+1) ?_ ?_)))
     ·exact ⟨by omega,hz.stepE (by omega) hq22,hEl⟩
     ·first | omega |(dsimp only;omega)
    ·refine za (zbG (some 22) (bo .neq 71 (.tmp 20) (.tmp 21) (vA (zW (x.es.get i))) (vA (zW Ent.zero))) vT (zaj (r:=false) (T:=71) ((za2 (dd:=9997) (t:=71) (t8:=5) (td:=59) (e:=5) (x.es.get i) Ent.zero).trans (congrArg (fun b=>Result.ok b _) (show ((x.es.get i).eqb Ent.zero)=false from hq22)))) ?_)
     refine zb 14 [(36,vT),(35,undef),(34,undef),(33,undef),(32,undef),(31,undef),(30,undef),(29,undef),(28,undef),(27,undef),(26,undef),(25,undef),(24,vT),(23,vT)] (wEt (zk (wsr (zb 1 [(2,(vI 1))] (zF ?_)))))
     exact zu (zj (zj (zu (zj (zh (vI 1) (⟨congrArg (fun z:Nat=>vI z) (zpg (by omega) (by omega) hq22 |>.symm),(hEw1.trans hEl)⟩))))))
   ·refine zb 10 [(25,(vP w.heap.size 0)),(24,vF),(23,vF),(22,undef),(21,undef),(20,undef),(19,undef),(18,undef),(17,undef),(16,vF)] (za (zm w.heap.size 0 ((hBw1.ext hEl).cell rfl) ?_))
    refine za (zvi 27 x.lv 0 ?_)
    refine zb 3 [(30,(vP w.heap.size 2)),(29,(vI i)),(28,vT)] (za (zaW w.heap.size 2 i 4 35 ?_))
    refine za (zQ w.heap.size (2+i*35) ((hBw1.ext hEl).at (2+i*35) (zL (x.rs.get i)) (nod_r (by omega))) (zab _) ?_)
    refine zb 1 [(33,(vA (zL Rec.zero)))] ?_
    rcases Bool.eq_false_or_eq_true ((x.rs.get i).eqb Rec.zero) with hq34 | hq34
    ·refine za (zbG (some 34) (bo .neq 68 (.tmp 32) (.tmp 33) (vA (zL (x.rs.get i))) (vA (zL Rec.zero))) vF (zaj (r:=true) (T:=68) ((zcd (dd:=9997) (t:=68) (t8:=5) (tn:=56) (td:=59) (e:=5) (t32:=53) (t64:=54) (x.rs.get i) Rec.zero).trans (congrArg (fun b=>Result.ok b _) (show ((x.rs.get i).eqb Rec.zero)=true from hq34)))) ?_)
     refine zb 2 [(36,vF),(35,vF)] (wEt (zf (zl (zi (zc (zg (zb 1 [(11,(vI i))] (za (zJ 12 i 1 (i+1) ?_)))))))))
     refine zb 1 [(3,(vI (i+1)))] (zq (zn (zG (i+1) ?_ ?_)))
     ·exact ⟨by omega,hz.stepR (by omega) hq34,hEl⟩
     ·first | omega |(dsimp only;omega)
    ·refine za (zbG (some 34) (bo .neq 68 (.tmp 32) (.tmp 33) (vA (zL (x.rs.get i))) (vA (zL Rec.zero))) vT (zaj (r:=false) (T:=68) ((zcd (dd:=9997) (t:=68) (t8:=5) (tn:=56) (td:=59) (e:=5) (t32:=53) (t64:=54) (x.rs.get i) Rec.zero).trans (congrArg (fun b=>Result.ok b _) (show ((x.rs.get i).eqb Rec.zero)=false from hq34)))) ?_)
     refine zb 2 [(36,vT),(35,vT)] (wEt (zk (wsr (zb 1 [(2,(vI 1))] (zF ?_)))))
     exact zu (zj (zj (zu (zj (zh (vI 1) (⟨congrArg (fun z:Nat=>vI z) (zpU (by omega) (by omega) hq34 |>.symm),(hEw1.trans hEl)⟩))))))
  ·refine wEt (zf (zP (zo (zo (zD (zc (zd (zd ?_))))))))
   refine zg (zb 1 [(4,(vI 0))] (wEt (zp ?_)))
   obtain rfl:i=4:=by omega
   refine zU (X:=Nat) (fun j=> [(4,(vI j))]) [2,5,37,38,39,40,41,42,43,44,45,46,47,48,49,50,51,52,53,54,55,56] (fun j w3=>j≤4∧ckA x j=0∧Ext w1 w3) (fun j=>4-j) 0 (by kernel_rfl) ⟨by omega,zrs x,hEl⟩ ?_
   rintro j dw3 w3 ⟨hj,hck,hEm⟩
   have hzm:=hEm.size
   refine zd (wsr (zb 1 [(37,(vI j))] (za (zag 38 j 4 (fun hc38=> ?_) (fun hc38=> ?_)))))
   ·refine wEt (zk (zl (zc (zd (zp (wsr (zb 2 [(42,(vP w.heap.size 2)),(41,(vI j))] ?_)))))))
    refine za (zaW w.heap.size 2 j 4 35 ?_)
    refine za (zQ w.heap.size (2+j*35) ((hBw1.ext hEm).at (2+j*35) (zL (x.rs.get j)) (nod_r (by omega))) (zab _) ?_)
    refine za (zt (zkm (x.rs.get j) _) ?_)
    rintro _ w4 ⟨rfl,hEw4⟩
    have hzw4:=hEw4.size
    refine zb 1 [(5,(vI (zaB (x.rs.get j))))] (zM (zb 1 [(46,(vP w.heap.size 0))] (za (zm w.heap.size 0 (((hBw1.ext hEm).ext hEw4).cell rfl) ?_))))
    refine za (zcn 48 x.lv 0 (fun hc48=> ?_) (fun hc48=> ?_))
    ·refine wEt (zk (zg (zb 2 [(50,(vP w.heap.size 142)),(49,(vI j))] (za (zaW w.heap.size 142 j 4 33 ?_)))))
     refine za (zQ w.heap.size (142+j*33) (((hBw1.ext hEm).ext hEw4).at (142+j*33) (zW (x.es.get j)) (nod_e (by omega))) (zat _) ?_)
     refine za (zt (zkY (x.es.get j) _) ?_)
     rintro _ w5 ⟨rfl,hEw5⟩
     have hzw5:=hEw5.size
     refine zb 1 [(5,(vI (za3 (x.es.get j))))] (zz (zb 1 [(54,(vI (za3 (x.es.get j))))] (za (zbT 55 (za3 (x.es.get j)) 0 (fun hc55=> ?_) (fun hc55=> ?_)))))
     ·refine wEt (zk (wsr (zb 2 [(2,(vI (za3 (x.es.get j)))),(56,(vI (za3 (x.es.get j))))] (zF (zu ?_)))))
      refine zj (zj (zu (zj (zh (vI (za3 (x.es.get j))) ?_))))
      have hX1:Ext w w5:=(((hEw1.trans hEm).trans hEw4).trans hEw5)
      exact ⟨congrArg (fun z:Nat=>vI z) (by rw [zfE (by omega) hz,zpx (by omega) (by omega) (by omega)]),hX1⟩
     ·refine wEt (zf (zl (zi (zc (zg (zb 1 [(39,(vI j))] (za (zJ 40 j 1 (j+1) ?_))))))))
      refine zb 1 [(4,(vI (j+1)))] (zq (zn (zG (j+1) ?_ ?_)))
      ·exact ⟨by omega,by rw [zwp hck (by omega)];omega,((hEm.trans hEw4).trans hEw5)⟩
      ·first | omega |(dsimp only;omega)
    ·refine wEt (zf (zl (zc (wsr (zb 1 [(54,(vI (zaB (x.rs.get j))))] (za (zbT 55 (zaB (x.rs.get j)) 0 (fun hc55=> ?_) (fun hc55=> ?_))))))))
     ·refine wEt (zk (wsr (zb 2 [(2,(vI (zaB (x.rs.get j)))),(56,(vI (zaB (x.rs.get j))))] (zF (zu ?_)))))
      exact zj (zj (zu (zj (zh (vI (zaB (x.rs.get j))) (⟨congrArg (fun z:Nat=>vI z) (by rw [zfE (by omega) hz,zpJ (by omega) (by omega) (by omega)]),((hEw1.trans hEm).trans hEw4)⟩)))))
     ·refine wEt (zf (zl (zi (zc (zg (zb 1 [(39,(vI j))] (za (zJ 40 j 1 (j+1) ?_))))))))
      refine zb 1 [(4,(vI (j+1)))] (zq (zn (zG (j+1) ?_ ?_)))
      ·exact ⟨by omega,by rw [zwG hck (by omega)];omega,(hEm.trans hEw4)⟩
      ·first | omega |(dsimp only;omega)
   ·refine wEt (zf (zP (zo (zo (zD (zc (wsr ?_)))))))
    refine zb 1 [(2,(vI 0))] (zF (zh (vI 0) ?_))
    obtain rfl:j=4:=by omega
    exact ⟨congrArg (fun z:Nat=>vI z) ((by rw [zfE (by omega) hz];exact hck.symm)),(hEw1.trans hEm)⟩
end Go.Proofs.YtkmhgepdhilllaaGreatDoor
namespace Go.Proofs.YtkmhgepdhilllaaGreatDoor
open Go Go.RowKit Go.Cs
set_option maxRecDepth 100000
theorem zt5 (a:Nat) (b:Nat) (w:World) (hp0:a<256) (hp1:b<2^32):
  Calls Tryz.prog 63 #[(vB a),(vW b)] w (Ret fun r w'=>r=(vA (zH (Nod.mt a b)))∧Ext w w'):=by
 refine zw (n:=8) (σ:= [(0,(vB a)),(1,(vW b))]) Tryz.func63 rfl ?_
 refine wsr (za (zad (zH Nod.zero) 74 ?_))
 intro w1 hBw1 hEw1 hzw1 hlw1
 refine zz (zb 2 [(6,(vW b)),(5,(vB a))] (za (zaN (Instr.build 74 #[(0,(vB a)),(1,(vW b))]) (vA (zH (Nod.mt a b))) ((zf6 a b (by omega) (by omega)).trans (congrArg (fun z:Nod=>Result.ok (Value.agg (zH z).toArray) _) (show (Nod.emp a b (by omega) (by omega):Nod)=Nod.mt a b from Nod.mt_eq _ _))) ?_)))
 refine za (zC 74 w.heap.size 0 74 (vA (zH (Nod.mt a b))) (zH Nod.zero) (zH (Nod.mt a b)) hBw1 (by rw [zN];kernel_rfl) (by first |(simp;done)|(simp;omega)) (zct _) ?_)
 intro w2 hBw2 hCw2
 have hzw2:=hCw2.size
 rw [zv _ _ (by simp)] at hBw2
 exact zF (zaR (show zO Tryz.prog 8 _ _ (.cell 4 74) (vA (zH (Nod.mt a b))) from ⟨⟨w.heap.size,0,none⟩,(by kernel_rfl),zE (T:=74) (vs:=zH (Nod.mt a b)) (hBw2).all (by rw [zN];kernel_rfl)⟩) (⟨rfl,(Ext.own hEw1 hCw2 (by omega))⟩))
theorem zlf (x:Nod) (w:World):
  Calls Tryz.prog 65 #[(vA (zH x))] w (Ret fun r w'=>r=(vI (usd x 4))∧Ext w w'):=by
 refine zw (n:=36) (σ:= [(0,(vA (zH x)))]) Tryz.func65 rfl ?_
 refine wsr (za (zS (Instr.box 74 (vA (zH x))) (vP w.heap.size 0) (zH x) 74 ?_))
 intro w1 hBw1 hEw1 hzw1 hlw1
 refine zb 1 [(2,(vI 0))] (zz (zb 1 [(3,(vI 0))] (wEt (zd (zd ?_)))))
 refine zg (zb 1 [(5,(vI 0))] (wEt (zp (zU (X:=Nat) (fun i=> [(3,(vI (usd x i))),(5,(vI i))]) [4,6,7,8,9,10,11,12,13,14,15,16,17,18,19,20,21,22,23,24,25,26,27,28,29,30,31,32,33,34] (fun i w2=>i≤4∧Ext w1 w2) (fun i=>4-i) 0 (by kernel_rfl) ⟨by omega,(Ext.refl _)⟩ ?_))))
 rintro i dw2 w2 ⟨hi,hEl⟩
 have hzl:=hEl.size
 have hul:=zpM x i
 refine wsr (za (zag 6 i 4 (fun hc6=> ?_) (fun hc6=> ?_)))
 ·refine wEt (zd (zk (zl (zc (zd (zp (wsr ?_)))))))
  refine zb 2 [(4,(vI i)),(7,(vI i))] (zz (zb 1 [(8,(vP w.heap.size 0))] (za (zm w.heap.size 0 ((hBw1.ext hEl).cell rfl) ?_))))
  refine za (zaI 10 x.lv 0 (fun hc10=> ?_) (fun hc10=> ?_))
  ·refine zb 3 [(13,(vP w.heap.size 2)),(12,(vI i)),(11,vT)] (za (zaW w.heap.size 2 i 4 35 ?_))
   refine zb 1 [(15,(vP w.heap.size (2+i*35)))] (za (zm w.heap.size (2+i*35) ((hBw1.ext hEl).cell (zsF (by omega))) ?_))
   refine za (zbT 17 ((x.rs.get i).st) 0 (fun hc17=> ?_) (fun hc17=> ?_))
   ·refine zb 14 [(31,vT),(30,undef),(29,undef),(28,undef),(27,undef),(26,undef),(25,undef),(24,undef),(23,undef),(22,undef),(21,undef),(20,undef),(19,vT),(18,vT)] (wEt (zk (zg (zb 1 [(32,(vI (usd x i)))] (za (zJ 33 (usd x i) 1 (usd x i+1) ?_))))))
    refine zb 1 [(3,(vI (usd x i+1)))] (zq (zi (zc (zg (za (zJ 34 i 1 (i+1) ?_))))))
    refine zb 1 [(5,(vI (i+1)))] (zq (zn ?_))
    rw [show usd x i+1=usd x (i+1) from by rw [usd];(repeat' split)<;>omega]
    refine zG (i+1) ?_ ?_
    ·exact ⟨by omega,hEl⟩
    ·first | omega |(dsimp only;omega)
   ·refine zb 3 [(20,(vP w.heap.size 0)),(19,vF),(18,vF)] (za (zm w.heap.size 0 ((hBw1.ext hEl).cell rfl) ?_))
    refine za (zbe 22 x.lv 0 ?_)
    refine zb 9 [(31,vF),(30,vF),(29,undef),(28,undef),(27,undef),(26,undef),(25,undef),(24,undef),(23,vF)] (wEt (zf (zl (zi (zc (zg (za (zJ 34 i 1 (i+1) ?_))))))))
    refine zb 1 [(5,(vI (i+1)))] (zq (zn ?_))
    rw [show usd x i=usd x (i+1) from by rw [usd];(repeat' split)<;>omega]
    refine zG (i+1) ?_ ?_
    ·exact ⟨by omega,hEl⟩
    ·first | omega |(dsimp only;omega)
  ·refine zb 10 [(20,(vP w.heap.size 0)),(19,vF),(18,vF),(17,undef),(16,undef),(15,undef),(14,undef),(13,undef),(12,undef),(11,vF)] (za (zm w.heap.size 0 ((hBw1.ext hEl).cell rfl) ?_))
   refine za (zda 22 x.lv 0 ?_)
   refine zb 3 [(25,(vP w.heap.size 142)),(24,(vI i)),(23,vT)] (za (zaW w.heap.size 142 i 4 33 ?_))
   refine zb 1 [(27,(vP w.heap.size (142+i*33)))] (za (zm w.heap.size (142+i*33) ((hBw1.ext hEl).cell (zs3 (by omega))) ?_))
   refine za (zbT 29 ((x.es.get i).st) 0 (fun hc29=> ?_) (fun hc29=> ?_))
   ·refine zb 2 [(31,vT),(30,vT)] (wEt (zk (zg (zb 1 [(32,(vI (usd x i)))] (za (zJ 33 (usd x i) 1 (usd x i+1) ?_))))))
    refine zb 1 [(3,(vI (usd x i+1)))] (zq (zi (zc (zg (za (zJ 34 i 1 (i+1) ?_))))))
    refine zb 1 [(5,(vI (i+1)))] (zq (zn ?_))
    rw [show usd x i+1=usd x (i+1) from by rw [usd];(repeat' split)<;>omega]
    refine zG (i+1) ?_ ?_
    ·exact ⟨by omega,hEl⟩
    ·first | omega |(dsimp only;omega)
   ·refine zb 2 [(31,vF),(30,vF)] (wEt (zf (zl (zi (zc (zg (za (zJ 34 i 1 (i+1) ?_))))))))
    refine zb 1 [(5,(vI (i+1)))] (zq (zn ?_))
    rw [show usd x i=usd x (i+1) from by rw [usd];(repeat' split)<;>omega]
    refine zG (i+1) ?_ ?_
    ·exact ⟨by omega,hEl⟩
    ·first | omega |(dsimp only;omega)
 ·refine wEt (zd (zf (zP (zo (zo (zD (zc (zd ?_))))))))
  refine zg (zb 2 [(2,(vI (usd x i))),(35,(vI (usd x i)))] (zF (zh (vI (usd x i)) ?_)))
  obtain rfl:i=4:=by omega
  exact ⟨rfl,(hEw1.trans hEl)⟩
theorem zk4 (sd:Nat) (w:World) (hp0:sd<256):
  Calls Tryz.prog 21 #[(vB sd)] w (Ret fun r w'=>r=(vA (zK (mkD sd)))∧Ext w w'):=by
 refine zw (n:=17) (σ:= [(0,(vB sd))]) Tryz.func21 rfl ?_
 refine wsr (za (zad (zK Dig.zero) 59 ?_))
 intro w1 hBw1 hEw1 hzw1 hlw1
 refine zz (za (zad (zK Dig.zero) 59 ?_))
 intro w2 hBw2 hEw2 hzw2 hlw2
 refine zM (zb 1 [(4,(vI 0))] (wEt (zp (zU (X:=Nat) (fun i=> [(4,(vI i))]) [5,6,7,8,9,10,11,12,13,14,15] (fun i w3=>i≤32∧Blk w3 w1.heap.size (u8s (zdj 32 (fun j=>decide (j<i)) (fun j=>UInt8.ofNat (sd+7*j)))) 59∧Ext w1 w3) (fun i=>32-i) 0 (by kernel_rfl) ⟨by omega,(by rw [zhR _ _ _ (by intro j hj;simp)];exact hBw2),hEw2⟩ ?_))))
 rintro i dw3 w3 ⟨hi,hBl,hEl⟩
 have hzl:=hEl.size;have hll:=hBl.lt
 refine zd (wsr (zb 1 [(5,(vI i))] (za (zag 6 i 32 (fun hc6=> ?_) (fun hc6=> ?_)))))
 ·refine wEt (zk (zl (zc (zd (zp (zg (zb 3 [(11,(vI i)),(10,(vB sd)),(9,(vI i))] (za (zcg 12 7 i (7*i) ?_)))))))))
  refine za (zae (some 13) .u8 (IntKind.u8.wrap ((7*i:Nat):Int)) ((7*i)%2^8) (zcz rfl rfl) ?_)
  refine za (zae (some 14) .u8 (IntKind.u8.wrap (((sd:Nat):Int)+(((7*i)%2^8:Nat):Int))) ((sd+(7*i)%2^8)%2^8) (zcz rfl (by simp)) ?_)
  refine za (zaW w1.heap.size 0 i 32 1 ?_)
  refine za (zah 5 w1.heap.size (0+i*1) 59 (vB ((sd+(7*i)%2^8)%2^8)) (u8s (zdj 32 (fun j=>decide (j<i)) (fun j=>UInt8.ofNat (sd+7*j)))) hBl (by simp;omega) ?_)
  intro w4 hBw4 hCw4
  have hzw4:=hCw4.size
  rw [show ((u8s (zdj 32 (fun j=>decide (j<i)) (fun j=>UInt8.ofNat (sd+7*j)))).set (0+i*1) (vB ((sd+(7*i)%2^8)%2^8)):List Value)=u8s (zdj 32 (fun j=>decide (j<i+1)) (fun j=>UInt8.ofNat (sd+7*j))) from by have hx:=ziR 32 (fun j=>decide (j<i)) (fun j=>decide (j<i+1)) (fun j=>UInt8.ofNat (sd+7*j)) i (UInt8.ofNat (sd+7*i)) (by omega) rfl (by intro j hj;by_cases h1:j<i+1<;>by_cases h2:j<i<;>by_cases h3:j=i<;>simp [h1,h2,h3]<;>omega);rw [UInt8.toNat_ofNat'] at hx;simpa only [Nat.zero_add,Nat.mul_one,show (sd+7*i%2^8)%2^8=(sd+7*i)%2^8 from by omega] using hx] at hBw4
  refine zq (zi (zc (zg (zb 1 [(7,(vI i))] (za (zJ 8 i 1 (i+1) ?_))))))
  refine zb 1 [(4,(vI (i+1)))] (zq (zn (zG (i+1) ?_ ?_)))
  ·exact ⟨by omega,hBw4,(Ext.own hEl hCw4 (by omega))⟩
  ·first | omega |(dsimp only;omega)
 ·refine wEt (zf (zP (zo (zo (zD (zc (wsr ?_)))))))
  obtain rfl:i=32:=by omega
  have hBd:Blk w3 w1.heap.size (zK (mkD sd)) 59:=by have hq:=hBl;rw [ziZ _ _ _ (by intro j hj;simpa using hj)] at hq;exact hq
  refine za (zQ w1.heap.size 0 hBd.all (zar _) ?_)
  refine za (zC 59 w.heap.size 0 59 (vA (zK (mkD sd))) (zK Dig.zero) (zK (mkD sd)) (hBw1.ext hEl) (by rw [zar];kernel_rfl) (by first |(simp;done)|(simp;omega)) (zbK _) ?_)
  intro w5 hBw5 hCw5
  have hzw5:=hCw5.size
  rw [zv _ _ (by simp)] at hBw5
  exact zF (zaR (show zO Tryz.prog 17 _ _ (.cell 2 59) (vA (zK (mkD sd))) from ⟨⟨w.heap.size,0,none⟩,(by kernel_rfl),zE (T:=59) (vs:=zK (mkD sd)) (hBw5).all (by rw [zar];kernel_rfl)⟩) (⟨rfl,(Ext.own (hEw1.trans hEl) hCw5 (by omega))⟩))
theorem zww (st:Nat) (sd:Nat) (w:World) (hp0:st<256) (hp1:sd<256):
  Calls Tryz.prog 43 #[(vB st),(vB sd)] w (Ret fun r w'=>r=(vA (zL (mkR st sd)))∧Ext w w'):=by
 refine zw (n:=21) (σ:= [(0,(vB st)),(1,(vB sd))]) Tryz.func43 rfl ?_
 refine wsr (za (zad (zL Rec.zero) 68 ?_))
 intro w1 hBw1 hEw1 hzw1 hlw1
 refine zM (zb 1 [(5,(vB st))] (za (zae (some 6) .u8 (((st:Nat):Int).tmod ((3:Nat):Int)) (st%3) (zcX _ _) ?_)))
 refine za (zaI 7 (st%3) 0 (fun hc7=> ?_) (fun hc7=> ?_))
 ·refine wEt (zk (wsr (zb 1 [(8,(vA (zL Rec.zero)))] (za (zC 68 w.heap.size 0 68 (vA (zL Rec.zero)) (zL Rec.zero) (zL Rec.zero) hBw1 (by rw [zab];kernel_rfl) (by first |(simp;done)|(simp;omega)) (zbi _) ?_)))))
  intro w2 hBw2 hCw2
  have hzw2:=hCw2.size
  rw [zv _ _ (by simp)] at hBw2
  exact zF (zj (zaR (show zO Tryz.prog 21 _ _ (.cell 4 68) (vA (zL Rec.zero)) from ⟨⟨w.heap.size,0,none⟩,(by kernel_rfl),zE (T:=68) (vs:=zL Rec.zero) (hBw2).all (by rw [zab];kernel_rfl)⟩) (⟨by unfold mkR;first | rw [if_pos (by omega)] |(rw [if_neg (by omega)]),(Ext.own hEw1 hCw2 (by omega))⟩)))
 ·refine wEt (zf (zl (zc (wsr (zb 1 [(9,(vB st))] (za (zae (some 10) .u8 (((st:Nat):Int).tmod ((3:Nat):Int)) (st%3) (zcX _ _) ?_)))))))
  refine zb 1 [(11,(vB sd))] (za (zae (some 12) .u8 (((sd:Nat):Int).tmod ((8:Nat):Int)) (sd%8) (zcX _ _) ?_))
  refine za (zae (some 13) .u32 (IntKind.u32.wrap ((sd%8:Nat):Int)) (sd%8) (zbF rfl rfl (by show _<2^32;omega)) ?_)
  refine zb 1 [(14,(vB sd))] (za (zae (some 15) .u64 (IntKind.u64.wrap ((sd:Nat):Int)) sd (zbF rfl rfl (by show _<2^64;omega)) ?_))
  refine za (zae (some 16) .u64 (IntKind.u64.wrap (((sd:Nat):Int)*((257:Nat):Int))) (sd%256*257) (zbF rfl (by rw [show sd%256=sd from by omega];simp) (by show _<2^64;omega)) ?_)
  refine zb 2 [(18,(vB sd)),(17,(vA (zbb ⟨sd%8,sd%256*257,by omega,by omega⟩)))] (za (zt (zk4 sd _ (by omega)) ?_))
  rintro _ w3 ⟨rfl,hEw3⟩
  have hzw3:=hEw3.size
  refine za (zaN (Instr.build 68 #[(0,(vB (st%3))),(1,(vA (zbb ⟨sd%8,sd%256*257,by omega,by omega⟩))),(2,(vA (zK (mkD sd))))]) (vA (zL (⟨st%3,(⟨sd%8,sd%256*257,by omega,by omega⟩),(mkD sd),by omega⟩))) (zeP (st%3) (⟨sd%8,sd%256*257,by omega,by omega⟩) (mkD sd) (by omega)) ?_)
  refine za (zC 68 w.heap.size 0 68 (vA (zL (⟨st%3,(⟨sd%8,sd%256*257,by omega,by omega⟩),(mkD sd),by omega⟩))) (zL Rec.zero) (zL (⟨st%3,(⟨sd%8,sd%256*257,by omega,by omega⟩),(mkD sd),by omega⟩)) (hBw1.ext hEw3) (by rw [zab];kernel_rfl) (by first |(simp;done)|(simp;omega)) (zbi _) ?_)
  intro w4 hBw4 hCw4
  have hzw4:=hCw4.size
  rw [zv _ _ (by simp)] at hBw4
  exact zF (zaR (show zO Tryz.prog 21 _ _ (.cell 4 68) (vA (zL (⟨st%3,(⟨sd%8,sd%256*257,by omega,by omega⟩),(mkD sd),by omega⟩))) from ⟨⟨w.heap.size,0,none⟩,(by kernel_rfl),zE (T:=68) (vs:=zL (⟨st%3,(⟨sd%8,sd%256*257,by omega,by omega⟩),(mkD sd),by omega⟩)) (hBw4).all (by rw [zab];kernel_rfl)⟩) (⟨by unfold mkR;first | rw [if_pos (by omega)] |(rw [if_neg (by omega)]),(Ext.own (hEw1.trans hEw3) hCw4 (by omega))⟩))
end Go.Proofs.YtkmhgepdhilllaaGreatDoor
namespace Go.Proofs.YtkmhgepdhilllaaGreatDoor
open Go Go.RowKit Go.Cs
set_option maxRecDepth 100000
theorem zn5 (x:Nod) (w:World) (hp0:x.lv=0):
  Calls Tryz.prog 84 #[(vA (zH x))] w (Ret fun r w'=>∃a0 ca0,r=(.slice a0 185 ca0)∧Es u8v w.heap.size w'.heap.size w' a0 185 ca0 (zR x)∧Ext w w'):=by
 refine zw (n:=45) (σ:= [(0,(vA (zH x)))]) Tryz.func84 rfl ?_
 have hlvx:=x.hlv
 have hixx:=x.hix
 refine wsr (za (zS (Instr.box 74 (vA (zH x))) (vP w.heap.size 0) (zH x) 74 ?_))
 intro w1 hBw1 hEw1 hzw1 hlw1
 refine zb 1 [(2,(.slice none 0 0))] (zz (zb 1 [(5,(vP w.heap.size 0))] (za (zm w.heap.size 0 (hBw1.cell rfl) ?_))))
 refine zb 1 [(7,(vP w.heap.size 1))] (za (zm w.heap.size 1 (hBw1.cell rfl) ?_))
 refine za (zae (some 9) .u32 (((x.ix:Nat):Int).fdiv (2^24)) (x.ix/256^3) (zgO _ _) ?_)
 refine za (zae (some 10) .u8 (IntKind.u8.wrap ((x.ix/256^3:Nat):Int)) ((x.ix/256^3)%2^8) (zcz rfl rfl) ?_)
 refine zb 1 [(11,(vP w.heap.size 1))] (za (zm w.heap.size 1 (hBw1.cell rfl) ?_))
 refine za (zae (some 13) .u32 (((x.ix:Nat):Int).fdiv (2^16)) (x.ix/256^2) (zgO _ _) ?_)
 refine za (zae (some 14) .u8 (IntKind.u8.wrap ((x.ix/256^2:Nat):Int)) ((x.ix/256^2)%2^8) (zcz rfl rfl) ?_)
 refine zb 1 [(15,(vP w.heap.size 1))] (za (zm w.heap.size 1 (hBw1.cell rfl) ?_))
 refine za (zae (some 17) .u32 (((x.ix:Nat):Int).fdiv (2^8)) (x.ix/256^1) (zgO _ _) ?_)
 refine za (zae (some 18) .u8 (IntKind.u8.wrap ((x.ix/256^1:Nat):Int)) ((x.ix/256^1)%2^8) (zcz rfl rfl) ?_)
 refine zb 1 [(19,(vP w.heap.size 1))] (za (zm w.heap.size 1 (hBw1.cell rfl) ?_))
 refine za (zae (some 21) .u8 (IntKind.u8.wrap ((x.ix:Nat):Int)) (x.ix%2^8) (zcz rfl rfl) ?_)
 refine za (zS (Instr.buildSlice 23 5 #[(0,(vB x.lv)),(1,(vB ((x.ix/256^3)%2^8))),(2,(vB ((x.ix/256^2)%2^8))),(3,(vB ((x.ix/256^1)%2^8))),(4,(vB (x.ix%2^8)))]) (.slice (pA w1.heap.size 0) 5 5) [(vB x.lv),(vB ((x.ix/256^3)%2^8)),(vB ((x.ix/256^2)%2^8)),(vB ((x.ix/256^1)%2^8)),(vB (x.ix%2^8))] 5 ?_)
 intro w2 hBw2 hEw2 hzw2 hlw2
 have hSw2:Bs w1.heap.size (w1.heap.size+1) w2 (pA w1.heap.size 0) 5 5 [UInt8.ofNat x.lv,UInt8.ofNat ((x.ix/256^3)%2^8),UInt8.ofNat ((x.ix/256^2)%2^8),UInt8.ofNat ((x.ix/256^1)%2^8),UInt8.ofNat (x.ix%2^8)]:=Bs.of_blk hBw2 (zgP x) rfl (Nat.le_refl _) (by decide) (Nat.le_refl _) (Nat.lt_succ_self _)
 refine zb 1 [(3,(.slice (pA w1.heap.size 0) 5 5))] (zM (zb 1 [(4,(vI 0))] (wEt (zp ?_))))
 have hO1:Cs.Own u8v w1.heap.size (w1.heap.size+1) w2 (pA w1.heap.size 0) 5 5 5 ([UInt8.ofNat x.lv,UInt8.ofNat ((x.ix/256^3)%2^8),UInt8.ofNat ((x.ix/256^2)%2^8),UInt8.ofNat ((x.ix/256^1)%2^8),UInt8.ofNat (x.ix%2^8)]):=Cs.Own.of_blk hBw2 (by simp) (by first | rfl | exact (zgP x)) hSw2.len_eq (Nat.le_refl _) (by simp only [maxLen];omega) (Nat.le_refl _) (Nat.lt_succ_self _)
 refine zU (X:=Nat×Option Addr×Nat) (fun ⟨i,p,cp⟩=> [(3,(.slice p (5+45*i) cp)),(4,(vI i))]) [23,24,25,26,27,28,29,30,31,32,33,34,35,36,37,38,39,40,41,42,43] (fun ⟨i,p,cp⟩ w3=>i≤4∧Cs.Own u8v w1.heap.size w3.heap.size w3 p (5+45*i) cp 5 (zeL x++zbU zb0 x.rs.get i)∧Ext w1 w3) (fun ⟨i,p,cp⟩=>4-i) (0,(pA w1.heap.size 0),5) (by kernel_rfl) ⟨by omega,by have hz:=(hO1).now;rw [zsf] at hz;rw [zbU,List.append_nil];exact hz.mono (by omega) (Nat.le_refl _),hEw2⟩ ?_
 rintro ⟨i,p,cp⟩ dw3 w3 ⟨hi,hO,hEl⟩
 have hzl:=hEl.size
 have hle:=hO.es.le
 refine zd (wsr (zb 1 [(23,(vI i))] (za (zag 24 i 4 (fun hc24=> ?_) (fun hc24=> ?_)))))
 ·refine wEt (zk (zl (zc (zd (zp (wsr (zb 1 [(27,(vP w.heap.size 0))] ?_)))))))
  refine za (zm w.heap.size 0 ((hBw1.ext hEl).cell rfl) ?_)
  refine za (zdI 29 x.lv 0 ?_)
  refine wEt (zk (zg (zb 3 [(32,(vP w.heap.size 2)),(31,(vI i)),(30,(.slice p (5+45*i) cp))] (za (zaW w.heap.size 2 i 4 35 ?_)))))
  refine za (zQ w.heap.size (2+i*35) ((hBw1.ext hEl).at (2+i*35) (zL (x.rs.get i)) (nod_r (by omega))) (zab _) ?_)
  refine za (zt (zpY (x.rs.get i) _) ?_)
  rintro _ w4 ⟨a1,ca1,rfl,hFz1_0,hEw4⟩
  have hzw4:=hEw4.size
  have hlea1:=hFz1_0.le
  have hba1:=hFz1_0.bs
  refine za (zbr (some 36) 23 23 5 1 (.int .u8 0) (hO.ext hEw4) hba1.es (fun _=>rfl) ?_)
  intro a2 c1 w5 hOw5 hCw5
  have hzw5:=hCw5.size
  have hSw5:=hOw5.bs
  refine zb 1 [(3,(.slice a2 (5+45*i+45) c1))] (zq (zi (zc (zg (zb 1 [(25,(vI i))] (za (zJ 26 i 1 (i+1) ?_)))))))
  refine zb 1 [(4,(vI (i+1)))] (zq (zn ?_))
  rw [show 5+45*i+45=5+45*(i+1) from by omega]
  refine zG (i+1,a2,c1) ?_ ?_
  ·exact ⟨by omega,by have hz:=hOw5;rw [List.append_assoc] at hz;exact (show 5+45*i+45=5+45*(i+1) from by omega)▸hz,(Ext.ownS (hEl.trans hEw4) hCw5 (fun k hs hk=>by have hn:=(hO.ext hEw4).ne hs;omega))⟩
  ·first | omega |(dsimp only;omega)
 ·refine wEt (zf (zP (zo (zo (zD (zc (wsr ?_)))))))
  refine zb 2 [(2,(.slice p (5+45*i) cp)),(44,(.slice p (5+45*i) cp))] (zF (zh (.slice p (5+45*i) cp) ?_))
  obtain rfl:i=4:=by omega
  rw [show zR x=zeL x++zbU zb0 x.rs.get 4 from by unfold zR;rw [if_pos hp0]]
  exact ⟨_,_,rfl,(hO).es.mono (by omega) (Nat.le_refl _),(hEw1.trans hEl)⟩
theorem zoy (x:Nod) (w:World) (hp0:¬x.lv=0):
  Calls Tryz.prog 84 #[(vA (zH x))] w (Ret fun r w'=>∃a0 ca0,r=(.slice a0 137 ca0)∧Es u8v w.heap.size w'.heap.size w' a0 137 ca0 (zR x)∧Ext w w'):=by
 refine zw (n:=45) (σ:= [(0,(vA (zH x)))]) Tryz.func84 rfl ?_
 have hlvx:=x.hlv
 have hixx:=x.hix
 refine wsr (za (zS (Instr.box 74 (vA (zH x))) (vP w.heap.size 0) (zH x) 74 ?_))
 intro w1 hBw1 hEw1 hzw1 hlw1
 refine zb 1 [(2,(.slice none 0 0))] (zz (zb 1 [(5,(vP w.heap.size 0))] (za (zm w.heap.size 0 (hBw1.cell rfl) ?_))))
 refine zb 1 [(7,(vP w.heap.size 1))] (za (zm w.heap.size 1 (hBw1.cell rfl) ?_))
 refine za (zae (some 9) .u32 (((x.ix:Nat):Int).fdiv (2^24)) (x.ix/256^3) (zgO _ _) ?_)
 refine za (zae (some 10) .u8 (IntKind.u8.wrap ((x.ix/256^3:Nat):Int)) ((x.ix/256^3)%2^8) (zcz rfl rfl) ?_)
 refine zb 1 [(11,(vP w.heap.size 1))] (za (zm w.heap.size 1 (hBw1.cell rfl) ?_))
 refine za (zae (some 13) .u32 (((x.ix:Nat):Int).fdiv (2^16)) (x.ix/256^2) (zgO _ _) ?_)
 refine za (zae (some 14) .u8 (IntKind.u8.wrap ((x.ix/256^2:Nat):Int)) ((x.ix/256^2)%2^8) (zcz rfl rfl) ?_)
 refine zb 1 [(15,(vP w.heap.size 1))] (za (zm w.heap.size 1 (hBw1.cell rfl) ?_))
 refine za (zae (some 17) .u32 (((x.ix:Nat):Int).fdiv (2^8)) (x.ix/256^1) (zgO _ _) ?_)
 refine za (zae (some 18) .u8 (IntKind.u8.wrap ((x.ix/256^1:Nat):Int)) ((x.ix/256^1)%2^8) (zcz rfl rfl) ?_)
 refine zb 1 [(19,(vP w.heap.size 1))] (za (zm w.heap.size 1 (hBw1.cell rfl) ?_))
 refine za (zae (some 21) .u8 (IntKind.u8.wrap ((x.ix:Nat):Int)) (x.ix%2^8) (zcz rfl rfl) ?_)
 refine za (zS (Instr.buildSlice 23 5 #[(0,(vB x.lv)),(1,(vB ((x.ix/256^3)%2^8))),(2,(vB ((x.ix/256^2)%2^8))),(3,(vB ((x.ix/256^1)%2^8))),(4,(vB (x.ix%2^8)))]) (.slice (pA w1.heap.size 0) 5 5) [(vB x.lv),(vB ((x.ix/256^3)%2^8)),(vB ((x.ix/256^2)%2^8)),(vB ((x.ix/256^1)%2^8)),(vB (x.ix%2^8))] 5 ?_)
 intro w2 hBw2 hEw2 hzw2 hlw2
 have hSw2:Bs w1.heap.size (w1.heap.size+1) w2 (pA w1.heap.size 0) 5 5 [UInt8.ofNat x.lv,UInt8.ofNat ((x.ix/256^3)%2^8),UInt8.ofNat ((x.ix/256^2)%2^8),UInt8.ofNat ((x.ix/256^1)%2^8),UInt8.ofNat (x.ix%2^8)]:=Bs.of_blk hBw2 (zgP x) rfl (Nat.le_refl _) (by decide) (Nat.le_refl _) (Nat.lt_succ_self _)
 refine zb 1 [(3,(.slice (pA w1.heap.size 0) 5 5))] (zM (zb 1 [(4,(vI 0))] (wEt (zp ?_))))
 have hO1:Cs.Own u8v w1.heap.size (w1.heap.size+1) w2 (pA w1.heap.size 0) 5 5 5 ([UInt8.ofNat x.lv,UInt8.ofNat ((x.ix/256^3)%2^8),UInt8.ofNat ((x.ix/256^2)%2^8),UInt8.ofNat ((x.ix/256^1)%2^8),UInt8.ofNat (x.ix%2^8)]):=Cs.Own.of_blk hBw2 (by simp) (by first | rfl | exact (zgP x)) hSw2.len_eq (Nat.le_refl _) (by simp only [maxLen];omega) (Nat.le_refl _) (Nat.lt_succ_self _)
 refine zU (X:=Nat×Option Addr×Nat) (fun ⟨i,p,cp⟩=> [(3,(.slice p (5+33*i) cp)),(4,(vI i))]) [23,24,25,26,27,28,29,30,31,32,33,34,35,36,37,38,39,40,41,42,43] (fun ⟨i,p,cp⟩ w3=>i≤4∧Cs.Own u8v w1.heap.size w3.heap.size w3 p (5+33*i) cp 5 (zeL x++zbU zcp x.es.get i)∧Ext w1 w3) (fun ⟨i,p,cp⟩=>4-i) (0,(pA w1.heap.size 0),5) (by kernel_rfl) ⟨by omega,by have hz:=(hO1).now;rw [zsf] at hz;rw [zbU,List.append_nil];exact hz.mono (by omega) (Nat.le_refl _),hEw2⟩ ?_
 rintro ⟨i,p,cp⟩ dw3 w3 ⟨hi,hO,hEl⟩
 have hzl:=hEl.size
 have hle:=hO.es.le
 refine zd (wsr (zb 1 [(23,(vI i))] (za (zag 24 i 4 (fun hc24=> ?_) (fun hc24=> ?_)))))
 ·refine wEt (zk (zl (zc (zd (zp (wsr (zb 1 [(27,(vP w.heap.size 0))] ?_)))))))
  refine za (zm w.heap.size 0 ((hBw1.ext hEl).cell rfl) ?_)
  refine za (zdv 29 x.lv 0 ?_)
  refine wEt (zf (zg (zb 3 [(39,(vP w.heap.size 142)),(38,(vI i)),(37,(.slice p (5+33*i) cp))] (za (zaW w.heap.size 142 i 4 33 ?_)))))
  refine za (zQ w.heap.size (142+i*33) ((hBw1.ext hEl).at (142+i*33) (zW (x.es.get i)) (nod_e (by omega))) (zat _) ?_)
  refine za (zt (zrI (x.es.get i) _) ?_)
  rintro _ w4 ⟨a1,ca1,rfl,hFz1_0,hEw4⟩
  have hzw4:=hEw4.size
  have hlea1:=hFz1_0.le
  have hba1:=hFz1_0.bs
  refine za (zbr (some 43) 23 23 5 1 (.int .u8 0) (hO.ext hEw4) hba1.es (fun _=>rfl) ?_)
  intro a2 c1 w5 hOw5 hCw5
  have hzw5:=hCw5.size
  have hSw5:=hOw5.bs
  refine zb 1 [(3,(.slice a2 (5+33*i+33) c1))] (zq (zi (zc (zg (zb 1 [(25,(vI i))] (za (zJ 26 i 1 (i+1) ?_)))))))
  refine zb 1 [(4,(vI (i+1)))] (zq (zn ?_))
  rw [show 5+33*i+33=5+33*(i+1) from by omega]
  refine zG (i+1,a2,c1) ?_ ?_
  ·exact ⟨by omega,by have hz:=hOw5;rw [List.append_assoc] at hz;exact (show 5+33*i+33=5+33*(i+1) from by omega)▸hz,(Ext.ownS (hEl.trans hEw4) hCw5 (fun k hs hk=>by have hn:=(hO.ext hEw4).ne hs;omega))⟩
  ·first | omega |(dsimp only;omega)
 ·refine wEt (zf (zP (zo (zo (zD (zc (wsr ?_)))))))
  refine zb 2 [(2,(.slice p (5+33*i) cp)),(44,(.slice p (5+33*i) cp))] (zF (zh (.slice p (5+33*i) cp) ?_))
  obtain rfl:i=4:=by omega
  rw [show zR x=zeL x++zbU zcp x.es.get 4 from by unfold zR;rw [if_neg hp0]]
  exact ⟨_,_,rfl,(hO).es.mono (by omega) (Nat.le_refl _),(hEw1.trans hEl)⟩
theorem zqg (x:Nod) (w:World):
  Calls Tryz.prog 84 #[(vA (zH x))] w (Ret fun r w'=>∃a0 ca0,r=(.slice a0 (zcj x) ca0)∧Es u8v w.heap.size w'.heap.size w' a0 (zcj x) ca0 (zR x)∧Ext w w'):=by
 by_cases h:x.lv=0
 ·rw [show zcj x=185 from if_pos h];exact zn5 x w h
 ·rw [show zcj x=137 from if_neg h];exact zoy x w h
end Go.Proofs.YtkmhgepdhilllaaGreatDoor
namespace Go.Proofs.YtkmhgepdhilllaaGreatDoor
open Go Go.RowKit Go.Cs
set_option maxRecDepth 100000
theorem zqz {b6 bm n cp m:Nat} {L:List UInt8} {lo hi k:Nat} {a:Option Addr} {cl:Nat} {l:List UInt8} (e:Nat) (w:World) (hb6:Blk w b6 [(.slice (pA bm 0) n cp)] 23) (hbm:Blk w bm (u8s L++List.replicate m (vB 0)) 5) (hL:L.length=n) (hcp:n+m=cp) (hmx:cp≤1000) (hne:b6≠bm) (hl:Bs lo hi w a k cl l) (hk:0<k) (hkm:k≤m):
  Calls Tryz.prog 112 #[(.slice a k cl),(vI e),(vP b6 0)] w (Ret fun r w'=>r=(vI e)∧Blk w' b6 [(.slice (pA bm 0) (n+k) cp)] 23∧Blk w' bm (u8s (L++l)++List.replicate (m-k) (vB 0)) 5∧Chg (fun j=>j=b6∨j=bm) w w'):=by
 refine zw (n:=10) (σ:= [(0,(.slice a k cl)),(1,(vI e)),(2,(vP b6 0))]) Tryz.func112 rfl ?_
 have hle:=hl.le
 refine wsr (zb 1 [(5,(vI 0))] (zz (za (zm b6 0 (hb6.cell rfl) ?_))))
 refine zb 1 [(7,(.slice a k cl))] ?_
 obtain ⟨b1,o1,rfl⟩:=hl.addr (by omega)
 refine za (zdn (some 8) 23 23 5 1 bm n cp ⟨b1,o1,none⟩ k cl hbm hl.sla (by rw [zbd,←hl.len_eq,Nat.mul_one]) (zdm _) (by rw [List.length_append,zbd,hL,List.length_replicate,Nat.mul_one];omega) ?_ (by omega))
 intro w1 hBw1 hCw1
 have hzw1:=hCw1.size
 rw [zgF hL hl.len_eq.symm (by omega)] at hBw1
 have hLw1:(L++l).length=n+k:=by rw [List.length_append,hL,←hl.len_eq]
 refine za (zah 23 b6 0 23 (.slice (pA bm 0) (n+k) cp) ([(.slice (pA bm 0) n cp)]) (hb6.chg hCw1) (by first | decide |(simp;done)|(simp;omega)) ?_)
 intro w2 hBw2 hCw2
 have hzw2:=hCw2.size
 replace hBw2:=hBw2.set1
 exact zz (zb 2 [(5,(vI e)),(9,(vI e))] (zF (zh (vI e) (⟨rfl,hBw2,(hBw1.chg hCw2),(Chg.then (Chg.then (Chg.refl (fun j=>j=b6∨j=bm) w) hCw1 (fun k hk hs=>by have h:k=_:=hs;first | exact hs | exact .inl h | exact .inr h |(exfalso;omega))) hCw2 (fun k hk hs=>by have h:k=_:=hs;first | exact hs | exact .inl h | exact .inr h |(exfalso;omega)))⟩))))
theorem zuw {b6 bm n cp m:Nat} {L:List UInt8} {b7:Nat} (q:Rec) (w:World) (hb6:Blk w b6 [(.slice (pA bm 0) n cp)] 23) (hbm:Blk w bm (u8s L++List.replicate m (vB 0)) 5) (hL:L.length=n) (hcp:n+m=cp) (hmx:cp≤1000) (hne:b6≠bm) (hb7:Blk w b7 [(.func (.func 112) #[] #[(vP b6 0)])] 184) (h76:b7≠b6) (h7m:b7≠bm) (hq:zaB q=0) (hm:45≤m):
  Calls Tryz.prog 114 #[(vA (zL q)),(vP b7 0)] w (Ret fun r w'=>r=(vI 0)∧Blk w' b7 [(.func (.func 112) #[] #[(vP b6 0)])] 184∧Blk w' b6 [(.slice (pA bm 0) (n+45) cp)] 23∧Blk w' bm (u8s (L++zb0 q)++List.replicate (m-45) (vB 0)) 5∧Chg (fun j=>j=b6∨j=bm) w w'):=by
 refine zw (n:=10) (σ:= [(0,(vA (zL q))),(1,(vP b7 0))]) Tryz.func114 rfl ?_
 have h6l:=hb6.lt;have hml:=hbm.lt;have h7l:=hb7.lt
 refine wsr (za (zS (Instr.box 68 (vA (zL q))) (vP w.heap.size 0) (zL q) 68 ?_))
 intro w1 hBw1 hEw1 hzw1 hlw1
 refine zb 1 [(3,(vI 0))] (wEt (zd (zbO (fun j=>j=b6∨j=bm) 7 (fun w2 hEw2 hzw2 hT30=> ?_))))
 have hX1:Chg (fun j=>j=b6∨j=bm) w2 w2:=(Chg.refl (fun j=>j=b6∨j=bm) w2)
 refine zx (hw:=hX1) hT30 0 b7 0 (fun w' hC=>((((hb7.ext hEw1).ext hEw2).chg hC (fun hs=>by rcases hs with hs | hs<;>omega)).cell rfl)) (zaq (hw:=hX1) hT30 1 w.heap.size 0 (fun w' hC=>(((hBw1.ext hEw2).chg hC (fun hs=>by rcases hs with hs | hs<;>omega)).all)) (zab _) (zy 2 (zt (zm1 q _ (by assumption)) ?_)))
 rintro _ w3 ⟨a1,rfl,hFz1_0,hEw3⟩
 have hzw3:=hEw3.size
 have hX2:Chg (fun j=>j=b6∨j=bm) w2 w3:=((Chg.refl (fun j=>j=b6∨j=bm) w2).trans hEw3.chg)
 refine ⟨.inr hX2, ?_⟩
 refine ze (hw:=hX2) hT30 [(3,7,(.slice a1 45 45)),(4,8,(vI 0))] 2 ?_
 have hK1:=(((hb6.ext hEw1).ext hEw2).ext hEw3)
 have hK2:=(((hbm.ext hEw1).ext hEw2).ext hEw3)
 refine zy 5 (zcL (some 9) (zqz 0 _ hK1 hK2 hL hcp hmx hne hFz1_0 (by omega) (by omega)) ?_)
 rintro _ w4 ⟨rfl,hPw4,hQw4,hCw4⟩
 have hzw4:=hCw4.size
 have hX3:Chg (fun j=>j=b6∨j=bm) w2 w4:=(Chg.then ((Chg.refl (fun j=>j=b6∨j=bm) w2).trans hEw3.chg) hCw4 (fun k hk hs=>by first | exact hs |(rcases hs with hs | hs<;>first |(left;omega)|(right;omega)|(exfalso;omega))))
 refine ⟨.inr hX3, ?_⟩
 refine ze (hw:=hX3) hT30 [(6,3,(vI 0))] 1 (zB (zc (zaH (zh (vI 0) ?_))))
 have hK3:=((((hb7.ext hEw1).ext hEw2).ext hEw3).chg hCw4)
 exact ⟨rfl,hK3,hPw4,hQw4,(Chg.then ((((Chg.refl (fun j=>j=b6∨j=bm) w).trans hEw1.chg).trans hEw2.chg).trans hEw3.chg) hCw4 (fun k hk hs=>by first | exact hs |(rcases hs with hs | hs<;>first |(left;omega)|(right;omega)|(exfalso;omega))))⟩
theorem zms {b6 bm n cp m:Nat} {L:List UInt8} {b7:Nat} (x:R4) (w:World) (hb6:Blk w b6 [(.slice (pA bm 0) n cp)] 23) (hbm:Blk w bm (u8s L++List.replicate m (vB 0)) 5) (hL:L.length=n) (hcp:n+m=cp) (hmx:cp≤1000) (hne:b6≠bm) (hb7:Blk w b7 [(.func (.func 112) #[] #[(vP b6 0)])] 184) (h76:b7≠b6) (h7m:b7≠bm) (hq:zgN x=0) (hm:180≤m):
  Calls Tryz.prog 113 #[(vA (r4C x)),(.func (.func 114) #[] #[(vP b7 0)])] w (Ret fun r w'=>r=(vI 0)∧Blk w' b7 [(.func (.func 112) #[] #[(vP b6 0)])] 184∧Blk w' b6 [(.slice (pA bm 0) (n+45*4) cp)] 23∧Blk w' bm (u8s (L++zbU zb0 x.get 4)++List.replicate (m-45*4) (vB 0)) 5∧Chg (fun j=>j=b6∨j=bm) w w'):=by
 refine zw (n:=19) (σ:= [(0,(vA (r4C x))),(1,(.func (.func 114) #[] #[(vP b7 0)]))]) Tryz.func113 rfl ?_
 have h6l:=hb6.lt;have hml:=hbm.lt;have h7l:=hb7.lt
 refine wsr (za (zS (Instr.box 69 (vA (r4C x))) (vP w.heap.size 0) (r4C x) 69 ?_))
 intro w1 hBw1 hEw1 hzw1 hlw1
 refine zb 1 [(4,(vI 0))] (zM (za (zQ w.heap.size 0 (hBw1.all) (zdL _) ?_)))
 refine zb 1 [(9,(vI 0))] (wEt (zp (zU (X:=Nat) (fun i=> [(9,(vI i))]) [4,6,7,10,11,12,13,14,15,16,17,18] (fun i w2=>i≤4∧Blk w2 b7 ([(.func (.func 112) #[] #[(vP b6 0)])]) 184∧Blk w2 b6 ([(.slice (pA bm 0) (n+45*i) cp)]) 23∧Blk w2 bm (u8s (L++zbU zb0 x.get i)++List.replicate (m-45*i) (vB 0)) 5∧Chg (fun j=>j=b6∨j=bm) w w2) (fun i=>4-i) 0 (by kernel_rfl) ⟨by omega,(hb7.ext hEw1),(hb6.ext hEw1),by have hz:=(hbm.ext hEw1);simpa [zbU] using hz,((Chg.refl (fun j=>j=b6∨j=bm) w).trans hEw1.chg)⟩ ?_)))
 rintro i dw2 w2 ⟨hi,hR,hP,hQ,hCl⟩
 have hzl:=hCl.size
 refine wsr (za (zag 10 i 4 (fun hc10=> ?_) (fun hc10=> ?_)))
 ·refine wEt (zd (zk (zl (zc (zd (zp (wsr ?_)))))))
  refine za (zaN (Instr.index 69 (vA (r4C x)) (vI i)) (vA (zL (x.get i))) (zhS (E:=68) (m:=4) (sz:=35) (us:=zL (x.get i)) (by omega) (zo1 (by omega))) ?_)
  refine zal (zL (x.get i)) 68 (zab _) (zbi _) ?_
  intro w3 hBw3 hEw3 hzw3 hlw3
  refine zz (zb 1 [(12,(.func (.func 114) #[] #[(vP b7 0)]))] (za (zQ w2.heap.size 0 (hBw3.all) (zab _) ?_)))
  refine za (zcL (some 14) (zuw (x.get i) _ (hP.ext hEw3) (hQ.ext hEw3) (by rw [List.length_append,ze1 zi7];omega) (by omega) hmx hne (hR.ext hEw3) h76 h7m (zba.1 hq _ (by omega)) (by omega)) ?_)
  rintro _ w4 ⟨rfl,hRw4,hPw4,hQw4,hCw4⟩
  have hzw4:=hCw4.size
  refine zb 1 [(7,(vI 0))] (zz (zb 2 [(16,vF),(15,(vI 0))] (wEt (zf (zl ?_)))))
  refine zi (zc (zg (za (zJ 18 i 1 (i+1) ?_))))
  refine zb 1 [(9,(vI (i+1)))] (zq (zn (zG (i+1) ?_ ?_)))
  ·exact ⟨by omega,hRw4,by have hz:=hPw4;rwa [show n+45*i+45=n+45*(i+1) from by omega] at hz,by have hz:=hQw4;rw [List.append_assoc] at hz;exact (show m-45*i-45=m-45*(i+1) from by omega)▸hz,(Chg.then ((Chg.then (Chg.refl (fun j=>j=b6∨j=bm) w) hCl (fun k hk hs=>by first | exact hs |(rcases hs with hs | hs<;>first |(left;omega)|(right;omega)|(exfalso;omega)))).trans hEw3.chg) hCw4 (fun k hk hs=>by first | exact hs |(rcases hs with hs | hs<;>first |(left;omega)|(right;omega)|(exfalso;omega))))⟩
  ·first | omega |(dsimp only;omega)
 ·refine wEt (zd (zf (zP (zo (zo (zD (zc (zd ?_))))))))
  refine zg (zb 1 [(4,(vI 0))] (zF (zh (vI 0) ?_)))
  obtain rfl:i=4:=by omega
  exact ⟨rfl,hR,hP,hQ,(Chg.then (Chg.refl (fun j=>j=b6∨j=bm) w) hCl (fun k hk hs=>by first | exact hs |(rcases hs with hs | hs<;>first |(left;omega)|(right;omega)|(exfalso;omega))))⟩
theorem zuO {b6 bm n cp m:Nat} {L:List UInt8} {b7:Nat} (q:Ent) (w:World) (hb6:Blk w b6 [(.slice (pA bm 0) n cp)] 23) (hbm:Blk w bm (u8s L++List.replicate m (vB 0)) 5) (hL:L.length=n) (hcp:n+m=cp) (hmx:cp≤1000) (hne:b6≠bm) (hb7:Blk w b7 [(.func (.func 112) #[] #[(vP b6 0)])] 184) (h76:b7≠b6) (h7m:b7≠bm) (hq:za3 q=0) (hm:33≤m):
  Calls Tryz.prog 117 #[(vA (zW q)),(vP b7 0)] w (Ret fun r w'=>r=(vI 0)∧Blk w' b7 [(.func (.func 112) #[] #[(vP b6 0)])] 184∧Blk w' b6 [(.slice (pA bm 0) (n+33) cp)] 23∧Blk w' bm (u8s (L++zcp q)++List.replicate (m-33) (vB 0)) 5∧Chg (fun j=>j=b6∨j=bm) w w'):=by
 refine zw (n:=10) (σ:= [(0,(vA (zW q))),(1,(vP b7 0))]) Tryz.func117 rfl ?_
 have h6l:=hb6.lt;have hml:=hbm.lt;have h7l:=hb7.lt
 refine wsr (za (zS (Instr.box 71 (vA (zW q))) (vP w.heap.size 0) (zW q) 71 ?_))
 intro w1 hBw1 hEw1 hzw1 hlw1
 refine zb 1 [(3,(vI 0))] (wEt (zd (zbO (fun j=>j=b6∨j=bm) 7 (fun w2 hEw2 hzw2 hT84=> ?_))))
 have hX1:Chg (fun j=>j=b6∨j=bm) w2 w2:=(Chg.refl (fun j=>j=b6∨j=bm) w2)
 refine zx (hw:=hX1) hT84 0 b7 0 (fun w' hC=>((((hb7.ext hEw1).ext hEw2).chg hC (fun hs=>by rcases hs with hs | hs<;>omega)).cell rfl)) (zaq (hw:=hX1) hT84 1 w.heap.size 0 (fun w' hC=>(((hBw1.ext hEw2).chg hC (fun hs=>by rcases hs with hs | hs<;>omega)).all)) (zat _) (zy 2 (zt (zoe q _ (by assumption)) ?_)))
 rintro _ w3 ⟨a1,rfl,hFz1_0,hEw3⟩
 have hzw3:=hEw3.size
 have hX2:Chg (fun j=>j=b6∨j=bm) w2 w3:=((Chg.refl (fun j=>j=b6∨j=bm) w2).trans hEw3.chg)
 refine ⟨.inr hX2, ?_⟩
 refine ze (hw:=hX2) hT84 [(3,7,(.slice a1 33 33)),(4,8,(vI 0))] 2 ?_
 have hK1:=(((hb6.ext hEw1).ext hEw2).ext hEw3)
 have hK2:=(((hbm.ext hEw1).ext hEw2).ext hEw3)
 refine zy 5 (zcL (some 9) (zqz 0 _ hK1 hK2 hL hcp hmx hne hFz1_0 (by omega) (by omega)) ?_)
 rintro _ w4 ⟨rfl,hPw4,hQw4,hCw4⟩
 have hzw4:=hCw4.size
 have hX3:Chg (fun j=>j=b6∨j=bm) w2 w4:=(Chg.then ((Chg.refl (fun j=>j=b6∨j=bm) w2).trans hEw3.chg) hCw4 (fun k hk hs=>by first | exact hs |(rcases hs with hs | hs<;>first |(left;omega)|(right;omega)|(exfalso;omega))))
 refine ⟨.inr hX3, ?_⟩
 refine ze (hw:=hX3) hT84 [(6,3,(vI 0))] 1 (zB (zc (zaH (zh (vI 0) ?_))))
 have hK3:=((((hb7.ext hEw1).ext hEw2).ext hEw3).chg hCw4)
 exact ⟨rfl,hK3,hPw4,hQw4,(Chg.then ((((Chg.refl (fun j=>j=b6∨j=bm) w).trans hEw1.chg).trans hEw2.chg).trans hEw3.chg) hCw4 (fun k hk hs=>by first | exact hs |(rcases hs with hs | hs<;>first |(left;omega)|(right;omega)|(exfalso;omega))))⟩
theorem zlu {b6 bm n cp m:Nat} {L:List UInt8} {b7:Nat} (x:E4) (w:World) (hb6:Blk w b6 [(.slice (pA bm 0) n cp)] 23) (hbm:Blk w bm (u8s L++List.replicate m (vB 0)) 5) (hL:L.length=n) (hcp:n+m=cp) (hmx:cp≤1000) (hne:b6≠bm) (hb7:Blk w b7 [(.func (.func 112) #[] #[(vP b6 0)])] 184) (h76:b7≠b6) (h7m:b7≠bm) (hq:zgU x=0) (hm:132≤m):
  Calls Tryz.prog 116 #[(vA (e4C x)),(.func (.func 117) #[] #[(vP b7 0)])] w (Ret fun r w'=>r=(vI 0)∧Blk w' b7 [(.func (.func 112) #[] #[(vP b6 0)])] 184∧Blk w' b6 [(.slice (pA bm 0) (n+33*4) cp)] 23∧Blk w' bm (u8s (L++zbU zcp x.get 4)++List.replicate (m-33*4) (vB 0)) 5∧Chg (fun j=>j=b6∨j=bm) w w'):=by
 refine zw (n:=19) (σ:= [(0,(vA (e4C x))),(1,(.func (.func 117) #[] #[(vP b7 0)]))]) Tryz.func116 rfl ?_
 have h6l:=hb6.lt;have hml:=hbm.lt;have h7l:=hb7.lt
 refine wsr (za (zS (Instr.box 72 (vA (e4C x))) (vP w.heap.size 0) (e4C x) 72 ?_))
 intro w1 hBw1 hEw1 hzw1 hlw1
 refine zb 1 [(4,(vI 0))] (zM (za (zQ w.heap.size 0 (hBw1.all) (zew _) ?_)))
 refine zb 1 [(9,(vI 0))] (wEt (zp (zU (X:=Nat) (fun i=> [(9,(vI i))]) [4,6,7,10,11,12,13,14,15,16,17,18] (fun i w2=>i≤4∧Blk w2 b7 ([(.func (.func 112) #[] #[(vP b6 0)])]) 184∧Blk w2 b6 ([(.slice (pA bm 0) (n+33*i) cp)]) 23∧Blk w2 bm (u8s (L++zbU zcp x.get i)++List.replicate (m-33*i) (vB 0)) 5∧Chg (fun j=>j=b6∨j=bm) w w2) (fun i=>4-i) 0 (by kernel_rfl) ⟨by omega,(hb7.ext hEw1),(hb6.ext hEw1),by have hz:=(hbm.ext hEw1);simpa [zbU] using hz,((Chg.refl (fun j=>j=b6∨j=bm) w).trans hEw1.chg)⟩ ?_)))
 rintro i dw2 w2 ⟨hi,hR,hP,hQ,hCl⟩
 have hzl:=hCl.size
 refine wsr (za (zag 10 i 4 (fun hc10=> ?_) (fun hc10=> ?_)))
 ·refine wEt (zd (zk (zl (zc (zd (zp (wsr ?_)))))))
  refine za (zaN (Instr.index 72 (vA (e4C x)) (vI i)) (vA (zW (x.get i))) (zhS (E:=71) (m:=4) (sz:=33) (us:=zW (x.get i)) (by omega) (zk3 (by omega))) ?_)
  refine zal (zW (x.get i)) 71 (zat _) (zch _) ?_
  intro w3 hBw3 hEw3 hzw3 hlw3
  refine zz (zb 1 [(12,(.func (.func 117) #[] #[(vP b7 0)]))] (za (zQ w2.heap.size 0 (hBw3.all) (zat _) ?_)))
  refine za (zcL (some 14) (zuO (x.get i) _ (hP.ext hEw3) (hQ.ext hEw3) (by rw [List.length_append,ze1 zjc];omega) (by omega) hmx hne (hR.ext hEw3) h76 h7m (zba.1 hq _ (by omega)) (by omega)) ?_)
  rintro _ w4 ⟨rfl,hRw4,hPw4,hQw4,hCw4⟩
  have hzw4:=hCw4.size
  refine zb 1 [(7,(vI 0))] (zz (zb 2 [(16,vF),(15,(vI 0))] (wEt (zf (zl ?_)))))
  refine zi (zc (zg (za (zJ 18 i 1 (i+1) ?_))))
  refine zb 1 [(9,(vI (i+1)))] (zq (zn (zG (i+1) ?_ ?_)))
  ·exact ⟨by omega,hRw4,by have hz:=hPw4;rwa [show n+33*i+33=n+33*(i+1) from by omega] at hz,by have hz:=hQw4;rw [List.append_assoc] at hz;exact (show m-33*i-33=m-33*(i+1) from by omega)▸hz,(Chg.then ((Chg.then (Chg.refl (fun j=>j=b6∨j=bm) w) hCl (fun k hk hs=>by first | exact hs |(rcases hs with hs | hs<;>first |(left;omega)|(right;omega)|(exfalso;omega)))).trans hEw3.chg) hCw4 (fun k hk hs=>by first | exact hs |(rcases hs with hs | hs<;>first |(left;omega)|(right;omega)|(exfalso;omega))))⟩
  ·first | omega |(dsimp only;omega)
 ·refine wEt (zd (zf (zP (zo (zo (zD (zc (zd ?_))))))))
  refine zg (zb 1 [(4,(vI 0))] (zF (zh (vI 0) ?_)))
  obtain rfl:i=4:=by omega
  exact ⟨rfl,hR,hP,hQ,(Chg.then (Chg.refl (fun j=>j=b6∨j=bm) w) hCl (fun k hk hs=>by first | exact hs |(rcases hs with hs | hs<;>first |(left;omega)|(right;omega)|(exfalso;omega))))⟩
end Go.Proofs.YtkmhgepdhilllaaGreatDoor
namespace Go.Proofs.YtkmhgepdhilllaaGreatDoor
open Go Go.RowKit Go.Cs
set_option maxRecDepth 100000
theorem ztn (x:Nod) (w:World) (hp0:zaz x=0) (hp1:x.lv=0) (hg0:Gl 0 [vI 45,vI 33] w):
  Calls Tryz.prog 89 #[(vA (zH x))] w (Ret fun r w'=>∃a0,r=(.tuple #[(.slice (pA a0 0) 185 185),(vI 0)])∧w.heap.size≤a0∧Blk w' a0 (u8s (zR x)) 5∧185=(zR x).length∧185≤1099511627776∧Ext w w'):=by
 refine zw (n:=44) (σ:= [(0,(vA (zH x)))]) Tryz.func89 rfl ?_
 have hgl0:=hg0.lt
 have hlvx:=x.hlv
 have hixx:=x.hix
 refine wsr (za (zS (Instr.box 74 (vA (zH x))) (vP w.heap.size 0) (zH x) 74 ?_))
 intro w1 hBw1 hEw1 hzw1 hlw1
 refine zb 2 [(3,(vI 0)),(2,(.slice none 0 0))] (zM (za (zQ w.heap.size 0 (hBw1.all) (zN _) ?_)))
 refine za (zt (zjl x _) ?_)
 rintro _ w2 ⟨rfl,hEw2⟩
 have hzw2:=hEw2.size
 refine zb 1 [(4,(vI (zaz x)))] (zz (zb 1 [(10,(vI (zaz x)))] (za (zbe 11 (zaz x) 0 ?_))))
 refine wEt (zf (zl (zc (wsr (zb 1 [(13,(vP w.heap.size 0))] (za (zm w.heap.size 0 ((hBw1.ext hEw2).cell rfl) ?_)))))))
 refine za (zt (zqP x.lv _) ?_)
 rintro _ _ ⟨rfl,rfl⟩
 rw [show min x.lv 1=0 from by omega]
 refine zb 1 [(5,(vI 0))] (zz (zb 1 [(16,(vI 0))] (za (zaN (Instr.indexAt 183 (vP 0 0) (vI 0)) (vP 0 0) (za8 (E:=3) (sz:=1) (m:=2)) ?_))))
 refine za (zm 0 0 (((hg0.ext hEw1).ext hEw2).all.one 0 (vI 45) rfl) ?_)
 refine za (zcg 19 4 45 180 ?_)
 refine za (zJ 20 5 180 185 ?_)
 refine za (zb8 (some 21) 23 5 1 1 0 185 .i64 .i64 (vB 0) (by omega) (by omega) (by omega) ?_)
 rw [zdy _ rfl]
 intro w3 hBw3 hEw3
 have hzw3:=hEw3.size;have hlw3:=hBw3.lt
 refine zgl (.slice (pA w2.heap.size 0) 0 185) 23 ?_
 intro w4 hBw4 hEw4 hzw4 hlw4
 refine zz (za (zm w3.heap.size 0 (hBw4.cell rfl) ?_))
 refine zb 1 [(23,(vP w.heap.size 0))] ?_
 have hK1:=(((hBw1.ext hEw2).ext hEw3).ext hEw4)
 refine za (zm w.heap.size 0 (hK1.cell rfl) ?_)
 refine za (zS (Instr.buildSlice 23 1 #[(0,(vB x.lv))]) (.slice (pA w4.heap.size 0) 1 1) [(vB x.lv)] 5 ?_)
 intro w5 hBw5 hEw5 hzw5 hlw5
 have hSw5:Bs w4.heap.size (w4.heap.size+1) w5 (pA w4.heap.size 0) 1 1 [UInt8.ofNat x.lv]:=Bs.of_blk hBw5 (zdb x.hlv) rfl (Nat.le_refl _) (by decide) (Nat.le_refl _) (Nat.lt_succ_self _)
 have hZw2:Blk w5 w2.heap.size (u8s []++List.replicate 185 (vB 0)) 5:=((hBw3.ext hEw4).ext hEw5)
 refine za (zdn (some 26) 23 23 5 1 w2.heap.size 0 185 ⟨w4.heap.size,0,none⟩ 1 1 hZw2 hSw5.sla (by rw [zbd,←hSw5.len_eq,Nat.mul_one]) (zdm _) (by rw [List.length_append,zbd,(show ([]:List UInt8).length=0 from rfl),List.length_replicate,Nat.mul_one];omega) ?_ (by omega))
 intro w6 hBw6 hCw6
 have hzw6:=hCw6.size
 rw [zgF (show ([]:List UInt8).length=0 from rfl) hSw5.len_eq.symm (by omega)] at hBw6
 rw [show 185-1=184 from rfl] at hBw6
 have hLw6:([]++([UInt8.ofNat x.lv])).length=0+1:=by rw [List.length_append,(show ([]:List UInt8).length=0 from rfl),←hSw5.len_eq]
 rw [show 0+1=1 from rfl]
 rw [show 0+1=1 from rfl] at hLw6
 refine za (zah 23 w3.heap.size 0 23 (.slice (pA w2.heap.size 0) 1 185) ([(.slice (pA w2.heap.size 0) 0 185)]) ((hBw4.ext hEw5).chg hCw6) (by first | decide |(simp;done)|(simp;omega)) ?_)
 intro w7 hBw7 hCw7
 have hzw7:=hCw7.size
 replace hBw7:=hBw7.set1
 refine wEt (zd (zbO (fun k=>k=w3.heap.size∨k=w2.heap.size) 6 (fun w8 hEw8 hzw8 hT98=> ?_)))
 have hX1:Chg (fun k=>k=w3.heap.size∨k=w2.heap.size) w8 w8:=(Chg.refl (fun k=>k=w3.heap.size∨k=w2.heap.size) w8)
 refine ze (hw:=hX1) hT98 [(1,28,(vP w.heap.size 1))] 1 ?_
 have hK2:=((((hK1.ext hEw5).chg hCw6).chg hCw7).ext hEw8)
 refine zx (hw:=hX1) hT98 2 w.heap.size 1 (fun w' hC=>((hK2.chg hC (fun hs=>by rcases hs with hs | hs<;>omega)).cell rfl)) (zbB 0 3 ?_ ?_)
 ·refine zm w3.heap.size 0 ((hBw7.ext hEw8).cell rfl) (⟨.inr hX1, ?_⟩)
  refine zy 3 (zt (zgg x.ix _ (by omega)) ?_)
  rintro _ w9 ⟨a1,rfl,hFz3_0,hEw9⟩
  have hzw9:=hEw9.size
  have hX2:Chg (fun k=>k=w3.heap.size∨k=w2.heap.size) w8 w9:=((Chg.refl (fun k=>k=w3.heap.size∨k=w2.heap.size) w8).trans hEw9.chg)
  refine ⟨.inr hX2, ?_⟩
  obtain ⟨b1,o1,rfl⟩:=hFz3_0.addr (by omega)
  have hK3:=(((hBw6.chg hCw7).ext hEw8).ext hEw9)
  refine zy 4 (zdn (some 31) 23 23 5 1 w2.heap.size 1 185 ⟨b1,o1,none⟩ 4 4 hK3 hFz3_0.sla (by rw [zbd,←hFz3_0.len_eq,Nat.mul_one]) (zdm _) (by rw [List.length_append,zbd,hLw6,List.length_replicate,Nat.mul_one];omega) ?_ (by omega))
  intro w10 hBw10 hCw10
  have hzw10:=hCw10.size
  rw [zgF hLw6 hFz3_0.len_eq.symm (by omega)] at hBw10
  rw [show 184-4=180 from rfl] at hBw10
  have hLw10:([]++([UInt8.ofNat x.lv])++(be x.ix 4)).length=1+4:=by rw [List.length_append,hLw6,←hFz3_0.len_eq]
  rw [show 1+4=5 from rfl]
  rw [show 1+4=5 from rfl] at hLw10
  have hX3:Chg (fun k=>k=w3.heap.size∨k=w2.heap.size) w8 w10:=(Chg.then ((Chg.refl (fun k=>k=w3.heap.size∨k=w2.heap.size) w8).trans hEw9.chg) hCw10 (fun k hk hs=>by have h:k=_:=hs;first | exact hs | exact .inl h | exact .inr h |(exfalso;omega)))
  refine ⟨.inr hX3, ?_⟩
  have hK4:=(((hBw7.ext hEw8).ext hEw9).chg hCw10)
  refine zy 5 (zah 23 w3.heap.size 0 23 (.slice (pA w2.heap.size 0) 5 185) ([(.slice (pA w2.heap.size 0) 1 185)]) hK4 (by first | decide |(simp;done)|(simp;omega)) ?_)
  have hK5:=(((hBw7.ext hEw8).ext hEw9).chg hCw10)
  intro w11 hBw11 hCw11
  have hzw11:=hCw11.size
  replace hBw11:=hBw11.set1
  refine ⟨.inl (by kernel_rfl), ?_⟩
  refine zB (zc (wsr (zb 1 [(32,(.func (.func 112) #[] #[(vP w3.heap.size 0)]))] (zgl (.func (.func 112) #[] #[(vP w3.heap.size 0)]) 184 ?_))))
  intro w12 hBw12 hEw12 hzw12 hlw12
  refine zM (zb 1 [(33,(vI 0))] (za (zdI 34 0 0 ?_)))
  refine wEt (zk (zg (zb 1 [(35,(vP w.heap.size 2))] ?_)))
  have hK6:=((((hK2.ext hEw9).chg hCw10).chg hCw11).ext hEw12)
  refine za (zQ w.heap.size 2 (hK6.at 2 (r4C x.rs) (zg4 _)) (zdL _) ?_)
  refine zb 1 [(37,(.func (.func 114) #[] #[(vP w11.heap.size 0)]))] (za (zcL (some 38) (zms x.rs _ (hBw11.ext hEw12) ((hBw10.chg hCw11).ext hEw12) hLw10 rfl (by decide) (by omega) hBw12 (by omega) (by omega) (zhb hp0 hp1) (by omega)) ?_))
  rintro _ w13 ⟨rfl,hRw13,hPw13,hQw13,hCw13⟩
  have hzw13:=hCw13.size
  refine zz (za (zm w3.heap.size 0 (hPw13.cell rfl) ?_))
  refine zb 2 [(3,(vI 0)),(2,(.slice (pA w2.heap.size 0) 185 185))] (zF (zh (.tuple #[(.slice (pA w2.heap.size 0) 185 185),(vI 0)]) ?_))
  have hX4:Ext w w13:=(Ext.ownS ((Ext.own (Ext.own (((Ext.own (Ext.own ((((hEw1.trans hEw2).trans hEw3).trans hEw4).trans hEw5) hCw6 (by omega)) hCw7 (by omega)).trans hEw8).trans hEw9) hCw10 (by omega)) hCw11 (by omega)).trans hEw12) hCw13 (fun k hs hk=>by rcases hs with hs | hs<;>omega))
  have hfin:=hQw13
  rw [show u8s ([]++([UInt8.ofNat x.lv])++(be x.ix 4)++zbU zb0 (x.rs.get) 4)++List.replicate (0) (vB 0)=u8s (zR x) from by rw [List.replicate_zero,List.append_nil];unfold zR;rw [if_pos hp1];simp [zeL]] at hfin
  exact ⟨_,rfl,by omega,hfin,by rw [zfF,if_pos hp1],by decide,hX4⟩
 ·refine zt (zgg x.ix _ (by omega)) ?_
  rintro _ w14 ⟨a2,rfl,hFz4_0,hEw14⟩
  have hzw14:=hEw14.size
  have hX5:Chg (fun k=>k=w3.heap.size∨k=w2.heap.size) w8 w14:=((Chg.refl (fun k=>k=w3.heap.size∨k=w2.heap.size) w8).trans hEw14.chg)
  refine ⟨.inr hX5, ?_⟩
  refine zy 0 (zm w3.heap.size 0 (((hBw7.ext hEw8).ext hEw14).cell rfl) ?_)
  refine ⟨.inr hX5, ?_⟩
  obtain ⟨b2,o2,rfl⟩:=hFz4_0.addr (by omega)
  have hK7:=(((hBw6.chg hCw7).ext hEw8).ext hEw14)
  refine zy 4 (zdn (some 31) 23 23 5 1 w2.heap.size 1 185 ⟨b2,o2,none⟩ 4 4 hK7 hFz4_0.sla (by rw [zbd,←hFz4_0.len_eq,Nat.mul_one]) (zdm _) (by rw [List.length_append,zbd,hLw6,List.length_replicate,Nat.mul_one];omega) ?_ (by omega))
  intro w15 hBw15 hCw15
  have hzw15:=hCw15.size
  rw [zgF hLw6 hFz4_0.len_eq.symm (by omega)] at hBw15
  rw [show 184-4=180 from rfl] at hBw15
  have hLw15:([]++([UInt8.ofNat x.lv])++(be x.ix 4)).length=1+4:=by rw [List.length_append,hLw6,←hFz4_0.len_eq]
  rw [show 1+4=5 from rfl]
  rw [show 1+4=5 from rfl] at hLw15
  have hX6:Chg (fun k=>k=w3.heap.size∨k=w2.heap.size) w8 w15:=(Chg.then ((Chg.refl (fun k=>k=w3.heap.size∨k=w2.heap.size) w8).trans hEw14.chg) hCw15 (fun k hk hs=>by have h:k=_:=hs;first | exact hs | exact .inl h | exact .inr h |(exfalso;omega)))
  refine ⟨.inr hX6, ?_⟩
  have hK8:=(((hBw7.ext hEw8).ext hEw14).chg hCw15)
  refine zy 5 (zah 23 w3.heap.size 0 23 (.slice (pA w2.heap.size 0) 5 185) ([(.slice (pA w2.heap.size 0) 1 185)]) hK8 (by first | decide |(simp;done)|(simp;omega)) ?_)
  have hK9:=(((hBw7.ext hEw8).ext hEw14).chg hCw15)
  intro w16 hBw16 hCw16
  have hzw16:=hCw16.size
  replace hBw16:=hBw16.set1
  refine ⟨.inl (by kernel_rfl), ?_⟩
  refine zB (zc (wsr (zb 1 [(32,(.func (.func 112) #[] #[(vP w3.heap.size 0)]))] (zgl (.func (.func 112) #[] #[(vP w3.heap.size 0)]) 184 ?_))))
  intro w17 hBw17 hEw17 hzw17 hlw17
  refine zM (zb 1 [(33,(vI 0))] (za (zdI 34 0 0 ?_)))
  refine wEt (zk (zg (zb 1 [(35,(vP w.heap.size 2))] ?_)))
  have hK10:=((((hK2.ext hEw14).chg hCw15).chg hCw16).ext hEw17)
  refine za (zQ w.heap.size 2 (hK10.at 2 (r4C x.rs) (zg4 _)) (zdL _) ?_)
  refine zb 1 [(37,(.func (.func 114) #[] #[(vP w16.heap.size 0)]))] (za (zcL (some 38) (zms x.rs _ (hBw16.ext hEw17) ((hBw15.chg hCw16).ext hEw17) hLw15 rfl (by decide) (by omega) hBw17 (by omega) (by omega) (zhb hp0 hp1) (by omega)) ?_))
  rintro _ w18 ⟨rfl,hRw18,hPw18,hQw18,hCw18⟩
  have hzw18:=hCw18.size
  refine zz (za (zm w3.heap.size 0 (hPw18.cell rfl) ?_))
  refine zb 2 [(3,(vI 0)),(2,(.slice (pA w2.heap.size 0) 185 185))] (zF (zh (.tuple #[(.slice (pA w2.heap.size 0) 185 185),(vI 0)]) ?_))
  have hX7:Ext w w18:=(Ext.ownS ((Ext.own (Ext.own (((Ext.own (Ext.own ((((hEw1.trans hEw2).trans hEw3).trans hEw4).trans hEw5) hCw6 (by omega)) hCw7 (by omega)).trans hEw8).trans hEw14) hCw15 (by omega)) hCw16 (by omega)).trans hEw17) hCw18 (fun k hs hk=>by rcases hs with hs | hs<;>omega))
  have hfin:=hQw18
  rw [show u8s ([]++([UInt8.ofNat x.lv])++(be x.ix 4)++zbU zb0 (x.rs.get) 4)++List.replicate (0) (vB 0)=u8s (zR x) from by rw [List.replicate_zero,List.append_nil];unfold zR;rw [if_pos hp1];simp [zeL]] at hfin
  exact ⟨_,rfl,by omega,hfin,by rw [zfF,if_pos hp1],by decide,hX7⟩
theorem zty (x:Nod) (w:World) (hp0:zaz x=0) (hp1:¬x.lv=0) (hg0:Gl 0 [vI 45,vI 33] w):
  Calls Tryz.prog 89 #[(vA (zH x))] w (Ret fun r w'=>∃a0,r=(.tuple #[(.slice (pA a0 0) 137 137),(vI 0)])∧w.heap.size≤a0∧Blk w' a0 (u8s (zR x)) 5∧137=(zR x).length∧137≤1099511627776∧Ext w w'):=by
 refine zw (n:=44) (σ:= [(0,(vA (zH x)))]) Tryz.func89 rfl ?_
 have hgl0:=hg0.lt
 have hlvx:=x.hlv
 have hixx:=x.hix
 refine wsr (za (zS (Instr.box 74 (vA (zH x))) (vP w.heap.size 0) (zH x) 74 ?_))
 intro w1 hBw1 hEw1 hzw1 hlw1
 refine zb 2 [(3,(vI 0)),(2,(.slice none 0 0))] (zM (za (zQ w.heap.size 0 (hBw1.all) (zN _) ?_)))
 refine za (zt (zjl x _) ?_)
 rintro _ w2 ⟨rfl,hEw2⟩
 have hzw2:=hEw2.size
 refine zb 1 [(4,(vI (zaz x)))] (zz (zb 1 [(10,(vI (zaz x)))] (za (zbe 11 (zaz x) 0 ?_))))
 refine wEt (zf (zl (zc (wsr (zb 1 [(13,(vP w.heap.size 0))] (za (zm w.heap.size 0 ((hBw1.ext hEw2).cell rfl) ?_)))))))
 refine za (zt (zqP x.lv _) ?_)
 rintro _ _ ⟨rfl,rfl⟩
 rw [show min x.lv 1=1 from by omega]
 refine zb 1 [(5,(vI 1))] (zz (zb 1 [(16,(vI 1))] (za (zaN (Instr.indexAt 183 (vP 0 0) (vI 1)) (vP 0 1) (za8 (E:=3) (sz:=1) (m:=2)) ?_))))
 refine za (zm 0 1 (((hg0.ext hEw1).ext hEw2).all.one 1 (vI 33) rfl) ?_)
 refine za (zcg 19 4 33 132 ?_)
 refine za (zJ 20 5 132 137 ?_)
 refine za (zb8 (some 21) 23 5 1 1 0 137 .i64 .i64 (vB 0) (by omega) (by omega) (by omega) ?_)
 rw [zdy _ rfl]
 intro w3 hBw3 hEw3
 have hzw3:=hEw3.size;have hlw3:=hBw3.lt
 refine zgl (.slice (pA w2.heap.size 0) 0 137) 23 ?_
 intro w4 hBw4 hEw4 hzw4 hlw4
 refine zz (za (zm w3.heap.size 0 (hBw4.cell rfl) ?_))
 refine zb 1 [(23,(vP w.heap.size 0))] ?_
 have hK1:=(((hBw1.ext hEw2).ext hEw3).ext hEw4)
 refine za (zm w.heap.size 0 (hK1.cell rfl) ?_)
 refine za (zS (Instr.buildSlice 23 1 #[(0,(vB x.lv))]) (.slice (pA w4.heap.size 0) 1 1) [(vB x.lv)] 5 ?_)
 intro w5 hBw5 hEw5 hzw5 hlw5
 have hSw5:Bs w4.heap.size (w4.heap.size+1) w5 (pA w4.heap.size 0) 1 1 [UInt8.ofNat x.lv]:=Bs.of_blk hBw5 (zdb x.hlv) rfl (Nat.le_refl _) (by decide) (Nat.le_refl _) (Nat.lt_succ_self _)
 have hZw2:Blk w5 w2.heap.size (u8s []++List.replicate 137 (vB 0)) 5:=((hBw3.ext hEw4).ext hEw5)
 refine za (zdn (some 26) 23 23 5 1 w2.heap.size 0 137 ⟨w4.heap.size,0,none⟩ 1 1 hZw2 hSw5.sla (by rw [zbd,←hSw5.len_eq,Nat.mul_one]) (zdm _) (by rw [List.length_append,zbd,(show ([]:List UInt8).length=0 from rfl),List.length_replicate,Nat.mul_one];omega) ?_ (by omega))
 intro w6 hBw6 hCw6
 have hzw6:=hCw6.size
 rw [zgF (show ([]:List UInt8).length=0 from rfl) hSw5.len_eq.symm (by omega)] at hBw6
 rw [show 137-1=136 from rfl] at hBw6
 have hLw6:([]++([UInt8.ofNat x.lv])).length=0+1:=by rw [List.length_append,(show ([]:List UInt8).length=0 from rfl),←hSw5.len_eq]
 rw [show 0+1=1 from rfl]
 rw [show 0+1=1 from rfl] at hLw6
 refine za (zah 23 w3.heap.size 0 23 (.slice (pA w2.heap.size 0) 1 137) ([(.slice (pA w2.heap.size 0) 0 137)]) ((hBw4.ext hEw5).chg hCw6) (by first | decide |(simp;done)|(simp;omega)) ?_)
 intro w7 hBw7 hCw7
 have hzw7:=hCw7.size
 replace hBw7:=hBw7.set1
 refine wEt (zd (zbO (fun k=>k=w3.heap.size∨k=w2.heap.size) 6 (fun w8 hEw8 hzw8 hT232=> ?_)))
 have hX1:Chg (fun k=>k=w3.heap.size∨k=w2.heap.size) w8 w8:=(Chg.refl (fun k=>k=w3.heap.size∨k=w2.heap.size) w8)
 refine ze (hw:=hX1) hT232 [(1,28,(vP w.heap.size 1))] 1 ?_
 have hK2:=((((hK1.ext hEw5).chg hCw6).chg hCw7).ext hEw8)
 refine zx (hw:=hX1) hT232 2 w.heap.size 1 (fun w' hC=>((hK2.chg hC (fun hs=>by rcases hs with hs | hs<;>omega)).cell rfl)) (zbB 0 3 ?_ ?_)
 ·refine zm w3.heap.size 0 ((hBw7.ext hEw8).cell rfl) (⟨.inr hX1, ?_⟩)
  refine zy 3 (zt (zgg x.ix _ (by omega)) ?_)
  rintro _ w9 ⟨a1,rfl,hFz3_0,hEw9⟩
  have hzw9:=hEw9.size
  have hX2:Chg (fun k=>k=w3.heap.size∨k=w2.heap.size) w8 w9:=((Chg.refl (fun k=>k=w3.heap.size∨k=w2.heap.size) w8).trans hEw9.chg)
  refine ⟨.inr hX2, ?_⟩
  obtain ⟨b1,o1,rfl⟩:=hFz3_0.addr (by omega)
  have hK3:=(((hBw6.chg hCw7).ext hEw8).ext hEw9)
  refine zy 4 (zdn (some 31) 23 23 5 1 w2.heap.size 1 137 ⟨b1,o1,none⟩ 4 4 hK3 hFz3_0.sla (by rw [zbd,←hFz3_0.len_eq,Nat.mul_one]) (zdm _) (by rw [List.length_append,zbd,hLw6,List.length_replicate,Nat.mul_one];omega) ?_ (by omega))
  intro w10 hBw10 hCw10
  have hzw10:=hCw10.size
  rw [zgF hLw6 hFz3_0.len_eq.symm (by omega)] at hBw10
  rw [show 136-4=132 from rfl] at hBw10
  have hLw10:([]++([UInt8.ofNat x.lv])++(be x.ix 4)).length=1+4:=by rw [List.length_append,hLw6,←hFz3_0.len_eq]
  rw [show 1+4=5 from rfl]
  rw [show 1+4=5 from rfl] at hLw10
  have hX3:Chg (fun k=>k=w3.heap.size∨k=w2.heap.size) w8 w10:=(Chg.then ((Chg.refl (fun k=>k=w3.heap.size∨k=w2.heap.size) w8).trans hEw9.chg) hCw10 (fun k hk hs=>by have h:k=_:=hs;first | exact hs | exact .inl h | exact .inr h |(exfalso;omega)))
  refine ⟨.inr hX3, ?_⟩
  have hK4:=(((hBw7.ext hEw8).ext hEw9).chg hCw10)
  refine zy 5 (zah 23 w3.heap.size 0 23 (.slice (pA w2.heap.size 0) 5 137) ([(.slice (pA w2.heap.size 0) 1 137)]) hK4 (by first | decide |(simp;done)|(simp;omega)) ?_)
  have hK5:=(((hBw7.ext hEw8).ext hEw9).chg hCw10)
  intro w11 hBw11 hCw11
  have hzw11:=hCw11.size
  replace hBw11:=hBw11.set1
  refine ⟨.inl (by kernel_rfl), ?_⟩
  refine zB (zc (wsr (zb 1 [(32,(.func (.func 112) #[] #[(vP w3.heap.size 0)]))] (zgl (.func (.func 112) #[] #[(vP w3.heap.size 0)]) 184 ?_))))
  intro w12 hBw12 hEw12 hzw12 hlw12
  refine zM (zb 1 [(33,(vI 1))] (za (zdv 34 1 0 ?_)))
  refine wEt (zf (zg (zb 1 [(39,(vP w.heap.size 142))] ?_)))
  have hK6:=((((hK2.ext hEw9).chg hCw10).chg hCw11).ext hEw12)
  refine za (zQ w.heap.size 142 (hK6.at 142 (e4C x.es) (zgK _)) (zew _) ?_)
  refine zb 1 [(41,(.func (.func 117) #[] #[(vP w11.heap.size 0)]))] (za (zcL (some 42) (zlu x.es _ (hBw11.ext hEw12) ((hBw10.chg hCw11).ext hEw12) hLw10 rfl (by decide) (by omega) hBw12 (by omega) (by omega) (zgj hp0 hp1) (by omega)) ?_))
  rintro _ w13 ⟨rfl,hRw13,hPw13,hQw13,hCw13⟩
  have hzw13:=hCw13.size
  refine zz (za (zm w3.heap.size 0 (hPw13.cell rfl) ?_))
  refine zb 2 [(3,(vI 0)),(2,(.slice (pA w2.heap.size 0) 137 137))] (zF (zh (.tuple #[(.slice (pA w2.heap.size 0) 137 137),(vI 0)]) ?_))
  have hX4:Ext w w13:=(Ext.ownS ((Ext.own (Ext.own (((Ext.own (Ext.own ((((hEw1.trans hEw2).trans hEw3).trans hEw4).trans hEw5) hCw6 (by omega)) hCw7 (by omega)).trans hEw8).trans hEw9) hCw10 (by omega)) hCw11 (by omega)).trans hEw12) hCw13 (fun k hs hk=>by rcases hs with hs | hs<;>omega))
  have hfin:=hQw13
  rw [show u8s ([]++([UInt8.ofNat x.lv])++(be x.ix 4)++zbU zcp (x.es.get) 4)++List.replicate (0) (vB 0)=u8s (zR x) from by rw [List.replicate_zero,List.append_nil];unfold zR;rw [if_neg hp1];simp [zeL]] at hfin
  exact ⟨_,rfl,by omega,hfin,by rw [zfF,if_neg hp1],by decide,hX4⟩
 ·refine zt (zgg x.ix _ (by omega)) ?_
  rintro _ w14 ⟨a2,rfl,hFz4_0,hEw14⟩
  have hzw14:=hEw14.size
  have hX5:Chg (fun k=>k=w3.heap.size∨k=w2.heap.size) w8 w14:=((Chg.refl (fun k=>k=w3.heap.size∨k=w2.heap.size) w8).trans hEw14.chg)
  refine ⟨.inr hX5, ?_⟩
  refine zy 0 (zm w3.heap.size 0 (((hBw7.ext hEw8).ext hEw14).cell rfl) ?_)
  refine ⟨.inr hX5, ?_⟩
  obtain ⟨b2,o2,rfl⟩:=hFz4_0.addr (by omega)
  have hK7:=(((hBw6.chg hCw7).ext hEw8).ext hEw14)
  refine zy 4 (zdn (some 31) 23 23 5 1 w2.heap.size 1 137 ⟨b2,o2,none⟩ 4 4 hK7 hFz4_0.sla (by rw [zbd,←hFz4_0.len_eq,Nat.mul_one]) (zdm _) (by rw [List.length_append,zbd,hLw6,List.length_replicate,Nat.mul_one];omega) ?_ (by omega))
  intro w15 hBw15 hCw15
  have hzw15:=hCw15.size
  rw [zgF hLw6 hFz4_0.len_eq.symm (by omega)] at hBw15
  rw [show 136-4=132 from rfl] at hBw15
  have hLw15:([]++([UInt8.ofNat x.lv])++(be x.ix 4)).length=1+4:=by rw [List.length_append,hLw6,←hFz4_0.len_eq]
  rw [show 1+4=5 from rfl]
  rw [show 1+4=5 from rfl] at hLw15
  have hX6:Chg (fun k=>k=w3.heap.size∨k=w2.heap.size) w8 w15:=(Chg.then ((Chg.refl (fun k=>k=w3.heap.size∨k=w2.heap.size) w8).trans hEw14.chg) hCw15 (fun k hk hs=>by have h:k=_:=hs;first | exact hs | exact .inl h | exact .inr h |(exfalso;omega)))
  refine ⟨.inr hX6, ?_⟩
  have hK8:=(((hBw7.ext hEw8).ext hEw14).chg hCw15)
  refine zy 5 (zah 23 w3.heap.size 0 23 (.slice (pA w2.heap.size 0) 5 137) ([(.slice (pA w2.heap.size 0) 1 137)]) hK8 (by first | decide |(simp;done)|(simp;omega)) ?_)
  have hK9:=(((hBw7.ext hEw8).ext hEw14).chg hCw15)
  intro w16 hBw16 hCw16
  have hzw16:=hCw16.size
  replace hBw16:=hBw16.set1
  refine ⟨.inl (by kernel_rfl), ?_⟩
  refine zB (zc (wsr (zb 1 [(32,(.func (.func 112) #[] #[(vP w3.heap.size 0)]))] (zgl (.func (.func 112) #[] #[(vP w3.heap.size 0)]) 184 ?_))))
  intro w17 hBw17 hEw17 hzw17 hlw17
  refine zM (zb 1 [(33,(vI 1))] (za (zdv 34 1 0 ?_)))
  refine wEt (zf (zg (zb 1 [(39,(vP w.heap.size 142))] ?_)))
  have hK10:=((((hK2.ext hEw14).chg hCw15).chg hCw16).ext hEw17)
  refine za (zQ w.heap.size 142 (hK10.at 142 (e4C x.es) (zgK _)) (zew _) ?_)
  refine zb 1 [(41,(.func (.func 117) #[] #[(vP w16.heap.size 0)]))] (za (zcL (some 42) (zlu x.es _ (hBw16.ext hEw17) ((hBw15.chg hCw16).ext hEw17) hLw15 rfl (by decide) (by omega) hBw17 (by omega) (by omega) (zgj hp0 hp1) (by omega)) ?_))
  rintro _ w18 ⟨rfl,hRw18,hPw18,hQw18,hCw18⟩
  have hzw18:=hCw18.size
  refine zz (za (zm w3.heap.size 0 (hPw18.cell rfl) ?_))
  refine zb 2 [(3,(vI 0)),(2,(.slice (pA w2.heap.size 0) 137 137))] (zF (zh (.tuple #[(.slice (pA w2.heap.size 0) 137 137),(vI 0)]) ?_))
  have hX7:Ext w w18:=(Ext.ownS ((Ext.own (Ext.own (((Ext.own (Ext.own ((((hEw1.trans hEw2).trans hEw3).trans hEw4).trans hEw5) hCw6 (by omega)) hCw7 (by omega)).trans hEw8).trans hEw14) hCw15 (by omega)) hCw16 (by omega)).trans hEw17) hCw18 (fun k hs hk=>by rcases hs with hs | hs<;>omega))
  have hfin:=hQw18
  rw [show u8s ([]++([UInt8.ofNat x.lv])++(be x.ix 4)++zbU zcp (x.es.get) 4)++List.replicate (0) (vB 0)=u8s (zR x) from by rw [List.replicate_zero,List.append_nil];unfold zR;rw [if_neg hp1];simp [zeL]] at hfin
  exact ⟨_,rfl,by omega,hfin,by rw [zfF,if_neg hp1],by decide,hX7⟩
theorem zvv (x:Nod) (w:World) (hp0:zaz x=0) (hg0:Gl 0 [vI 45,vI 33] w):
  Calls Tryz.prog 89 #[(vA (zH x))] w (Ret fun r w'=>∃a0,r=(.tuple #[(.slice (pA a0 0) (zcj x) (zcj x)),(vI 0)])∧w.heap.size≤a0∧Blk w' a0 (u8s (zR x)) 5∧zcj x=(zR x).length∧zcj x≤1099511627776∧Ext w w'):=by
 by_cases h:x.lv=0
 ·rw [show zcj x=185 from if_pos h];exact ztn x w hp0 h hg0
 ·rw [show zcj x=137 from if_neg h];exact zty x w hp0 h hg0
end Go.Proofs.YtkmhgepdhilllaaGreatDoor
namespace Go.Proofs.YtkmhgepdhilllaaGreatDoor
open Go Go.RowKit Go.Cs
set_option maxRecDepth 100000
theorem zns (n:Nat) (x:Nod) (w:World) (hp0:1≤n) (hp1:n≤4096):
  Calls Tryz.prog 96 #[(vI n),(vA (zH x))] w (Ret fun r w'=>r=(vI (zb1 n x))∧Ext w w'):=by
 refine zw (n:=52) (σ:= [(0,(vI n)),(1,(vA (zH x)))]) Tryz.func96 rfl ?_
 have hlvx:=x.hlv
 have hixx:=x.hix
 have hcl:=zj1 x
 have h5:=zam n
 refine wsr (za (zS (Instr.box 74 (vA (zH x))) (vP w.heap.size 0) (zH x) 74 ?_))
 intro w1 hBw1 hEw1 hzw1 hlw1
 refine zb 1 [(4,(vI 0))] (zM (zb 1 [(10,(vI n))] (za (zt (znn n _ (by omega) (by omega)) ?_))))
 rintro _ _ ⟨rfl,rfl⟩
 refine zb 1 [(5,(vI 0))] (zz (zb 2 [(13,vF),(12,(vI 0))] (wEt (zf (zl ?_)))))
 refine zc (zd (wsr (za (zQ w.heap.size 0 (hBw1.all) (zN _) ?_))))
 refine za (zt (zjl x _) ?_)
 rintro _ w2 ⟨rfl,hEw2⟩
 have hzw2:=hEw2.size
 refine zb 1 [(6,(vI (zaz x)))] (zz (zb 1 [(17,(vI (zaz x)))] (za (zbT 18 (zaz x) 0 (fun hc18=> ?_) (fun hc18=> ?_)))))
 ·refine wEt (zk (wsr (zb 2 [(4,(vI (zaz x))),(19,(vI (zaz x)))] (zF (zj ?_)))))
  exact zh (vI (zaz x)) (⟨congrArg (fun z:Nat=>vI z) (zlN (by omega)),(hEw1.trans hEw2)⟩)
 ·refine wEt (zf (zl (zc (wsr (zb 2 [(22,(vP w.heap.size 0)),(21,(vI n))] (za (zm w.heap.size 0 ((hBw1.ext hEw2).cell rfl) ?_)))))))
  refine za (zdq 24 x.lv ?_)
  refine zb 1 [(25,(vP w.heap.size 1))] (za (zm w.heap.size 1 ((hBw1.ext hEw2).cell rfl) ?_))
  refine za (zdq 27 x.ix ?_)
  rcases Classical.em (x.lv≤hgt n∧x.ix<cnt n x.lv) with hin | hin
  ·have hcn:=zbl n x.lv
   refine za (zt (ztT n x.lv x.ix _ (by first | omega |(simp only [Int.toNat_natCast];omega)) (by omega) (by omega) (by omega)) ?_)
   rintro _ w3 ⟨rfl,hEw3⟩
   have hzw3:=hEw3.size
   refine zb 5 [(8,(vI 0)),(7,(vI (prt n x.lv x.ix))),(30,(vI 0)),(29,(vI (prt n x.lv x.ix))),(20,(.tuple #[(vI (prt n x.lv x.ix)),(vI 0)]))] (zM (zb 2 [(32,vF),(31,(vI 0))] (wEt (zf ?_))))
   refine zl (zc (zd (wsr (zb 2 [(9,(vI (prt n x.lv x.ix))),(33,(vI (prt n x.lv x.ix)))] (wEt (zp (zU (X:=Nat) (fun i=> [(9,(vI i))]) [4,34,35,36,37,38,39,40,41,42,43,44,45,46,47,48,49,50,51] (fun i w4=>prt n x.lv x.ix≤i∧i≤4∧(∀k,prt n x.lv x.ix≤k→k<i→(x.rs.get k).eqb Rec.zero=true∧(x.es.get k).eqb Ent.zero=true)∧Ext w1 w4) (fun i=>4-i) (prt n x.lv x.ix) (by kernel_rfl) ⟨Nat.le_refl _,zdo _ _ _,fun k h1 h2=>absurd h1 (by omega),(hEw2.trans hEw3)⟩ ?_)))))))
   rintro i dw4 w4 ⟨hpi,hi,hz,hEl⟩
   have hzl:=hEl.size
   refine zd (wsr (zb 1 [(34,(vI i))] (za (zag 35 i 4 (fun hc35=> ?_) (fun hc35=> ?_)))))
   ·refine wEt (zk (zl (zc (zd (zp (wsr (zb 2 [(39,(vP w.heap.size 2)),(38,(vI i))] ?_)))))))
    refine za (zaW w.heap.size 2 i 4 35 ?_)
    refine za (zQ w.heap.size (2+i*35) ((hBw1.ext hEl).at (2+i*35) (zL (x.rs.get i)) (nod_r (by omega))) (zab _) ?_)
    refine zb 1 [(42,(vA (zL Rec.zero)))] ?_
    rcases Bool.eq_false_or_eq_true ((x.rs.get i).eqb Rec.zero) with hq43 | hq43
    ·refine za (zbG (some 43) (bo .neq 68 (.tmp 41) (.tmp 42) (vA (zL (x.rs.get i))) (vA (zL Rec.zero))) vF (zaj (r:=true) (T:=68) ((zcd (dd:=9997) (t:=68) (t8:=5) (tn:=56) (td:=59) (e:=5) (t32:=53) (t64:=54) (x.rs.get i) Rec.zero).trans (congrArg (fun b=>Result.ok b _) (show ((x.rs.get i).eqb Rec.zero)=true from hq43)))) ?_)
     refine zb 3 [(46,(vP w.heap.size 142)),(45,(vI i)),(44,vF)] (za (zaW w.heap.size 142 i 4 33 ?_))
     refine za (zQ w.heap.size (142+i*33) ((hBw1.ext hEl).at (142+i*33) (zW (x.es.get i)) (nod_e (by omega))) (zat _) ?_)
     refine zb 1 [(49,(vA (zW Ent.zero)))] ?_
     rcases Bool.eq_false_or_eq_true ((x.es.get i).eqb Ent.zero) with hq50 | hq50
     ·refine za (zbG (some 50) (bo .neq 71 (.tmp 48) (.tmp 49) (vA (zW (x.es.get i))) (vA (zW Ent.zero))) vF (zaj (r:=true) (T:=71) ((za2 (dd:=9997) (t:=71) (t8:=5) (td:=59) (e:=5) (x.es.get i) Ent.zero).trans (congrArg (fun b=>Result.ok b _) (show ((x.es.get i).eqb Ent.zero)=true from hq50)))) ?_)
      refine zb 1 [(51,vF)] (wEt (zf (zl (zi (zc (zg (zb 1 [(36,(vI i))] (za (zJ 37 i 1 (i+1) ?_)))))))))
      refine zb 1 [(9,(vI (i+1)))] (zq (zn (zG (i+1) ?_ ?_)))
      ·exact ⟨by omega,by omega,fun k h1 h2=>by rcases Nat.lt_or_ge k i with h3 | h3;exact hz k h1 h3;rw [show k=i by omega];exact ⟨hq43,hq50⟩,hEl⟩
      ·first | omega |(dsimp only;omega)
     ·refine za (zbG (some 50) (bo .neq 71 (.tmp 48) (.tmp 49) (vA (zW (x.es.get i))) (vA (zW Ent.zero))) vT (zaj (r:=false) (T:=71) ((za2 (dd:=9997) (t:=71) (t8:=5) (td:=59) (e:=5) (x.es.get i) Ent.zero).trans (congrArg (fun b=>Result.ok b _) (show ((x.es.get i).eqb Ent.zero)=false from hq50)))) ?_)
      refine zb 1 [(51,vT)] (wEt (zk (wsr (zb 1 [(4,(vI 17))] (zF ?_)))))
      exact zu (zj (zj (zu (zj (zh (vI 17) (⟨congrArg (fun z:Nat=>vI z) (by rw [ze4 (by omega) hin,zlI hpi (by omega) hq50];rfl),(hEw1.trans hEl)⟩))))))
    ·refine za (zbG (some 43) (bo .neq 68 (.tmp 41) (.tmp 42) (vA (zL (x.rs.get i))) (vA (zL Rec.zero))) vT (zaj (r:=false) (T:=68) ((zcd (dd:=9997) (t:=68) (t8:=5) (tn:=56) (td:=59) (e:=5) (t32:=53) (t64:=54) (x.rs.get i) Rec.zero).trans (congrArg (fun b=>Result.ok b _) (show ((x.rs.get i).eqb Rec.zero)=false from hq43)))) ?_)
     refine zb 8 [(51,vT),(50,undef),(49,undef),(48,undef),(47,undef),(46,undef),(45,undef),(44,vT)] (wEt (zk (wsr (zb 1 [(4,(vI 17))] (zF ?_)))))
     exact zu (zj (zj (zu (zj (zh (vI 17) (⟨congrArg (fun z:Nat=>vI z) (by rw [ze4 (by omega) hin,zlL hpi (by omega) hq43];rfl),(hEw1.trans hEl)⟩))))))
   ·refine wEt (zf (zP (zo (zo (zD (zc (wsr ?_)))))))
    refine zb 1 [(4,(vI 0))] (zF (zh (vI 0) ?_))
    obtain rfl:i=4:=by omega
    exact ⟨congrArg (fun z:Nat=>vI z) (by rw [ze4 (by omega) hin,if_pos (zfH.2 hz)]),(hEw1.trans hEl)⟩
  ·refine za (zt (zow ((n:Nat):Int) ((x.lv:Nat):Int) ((x.ix:Nat):Int) _ (by first | omega |(simp only [Int.toNat_natCast];omega))) ?_)
   rintro _ w5 ⟨rfl,hEw5⟩
   have hzw5:=hEw5.size
   refine zb 5 [(8,(vI 1)),(7,(vI 0)),(30,(vI 1)),(29,(vI 0)),(20,(.tuple #[(vI 0),(vI 1)]))] (zM (zb 2 [(32,vT),(31,(vI 1))] (wEt (zk ?_))))
   exact wsr (zb 1 [(4,(vI 17))] (zF (zj (zh (vI 17) (⟨congrArg (fun z:Nat=>vI z) ((zlz (by omega) hin).symm),((hEw1.trans hEw2).trans hEw5)⟩)))))
theorem zrZ (n:Nat) (x:Nod) (w:World) (hp0:1≤n) (hp1:n≤4096):
  Calls Tryz.prog 57 #[(vI n),(vA (zH x))] w (Ret fun r w'=>r=(vI (zb1 n x))∧Ext w w'):=by
 refine zw (n:=53) (σ:= [(0,(vI n)),(1,(vA (zH x)))]) Tryz.func57 rfl ?_
 have hlvx:=x.hlv
 have hixx:=x.hix
 have hcl:=zj1 x
 have h5:=zam n
 refine wsr (za (zS (Instr.box 74 (vA (zH x))) (vP w.heap.size 0) (zH x) 74 ?_))
 intro w1 hBw1 hEw1 hzw1 hlw1
 refine zb 1 [(4,(vI 0))] (zM (zb 1 [(7,(vI n))] (za (zjL 8 n 1 ?_))))
 refine zb 2 [(10,(vI n)),(9,vF)] (za (zgE 11 n 4096 ?_))
 refine zb 1 [(12,vF)] (wEt (zf (zl (zc (wsr (za (zQ w.heap.size 0 (hBw1.all) (zN _) ?_)))))))
 refine za (zt (zqM x _) ?_)
 rintro _ w2 ⟨rfl,hEw2⟩
 have hzw2:=hEw2.size
 refine zb 1 [(5,(vI (zaz x)))] (zM (zb 1 [(15,(vI (zaz x)))] (za (zbT 16 (zaz x) 0 (fun hc16=> ?_) (fun hc16=> ?_)))))
 ·refine wEt (zk (wsr (zb 2 [(4,(vI (zaz x))),(17,(vI (zaz x)))] (zF (zj ?_)))))
  exact zh (vI (zaz x)) (⟨congrArg (fun z:Nat=>vI z) (zlN (by omega)),(hEw1.trans hEw2)⟩)
 ·refine wEt (zf (zl (zc (zd (wsr (zb 2 [(19,(vP w.heap.size 0)),(18,(vI n))] (za (zm w.heap.size 0 ((hBw1.ext hEw2).cell rfl) ?_))))))))
  refine za (zdq 21 x.lv ?_)
  refine zb 1 [(22,(vP w.heap.size 1))] (za (zm w.heap.size 1 ((hBw1.ext hEw2).cell rfl) ?_))
  refine za (zdq 24 x.ix ?_)
  rcases Classical.em (x.lv≤hgt n∧x.ix<cnt n x.lv) with hin | hin
  ·have hcn:=zbl n x.lv
   refine za (zt (zwF n x.lv x.ix _ (by omega) (by omega) (by first | omega |(simp only [Int.toNat_natCast];omega)) (by omega)) ?_)
   rintro _ _ ⟨rfl,rfl⟩
   refine zb 1 [(26,vF)] (wEt (zf (zl (zc (zd (wsr (zb 2 [(28,(vP w.heap.size 0)),(27,(vI n))] ?_)))))))
   refine za (zm w.heap.size 0 ((hBw1.ext hEw2).cell rfl) ?_)
   refine za (zdq 30 x.lv ?_)
   refine zb 1 [(31,(vP w.heap.size 1))] (za (zm w.heap.size 1 ((hBw1.ext hEw2).cell rfl) ?_))
   refine za (zdq 33 x.ix ?_)
   refine za (zt (zhD n x.lv x.ix _ (by omega) (by omega) (by omega) (by omega)) ?_)
   rintro _ _ ⟨rfl,rfl⟩
   refine zb 1 [(6,(vI (prt n x.lv x.ix)))] (wEt (zp (zU (X:=Nat) (fun i=> [(6,(vI i))]) [4,35,36,37,38,39,40,41,42,43,44,45,46,47,48,49,50,51,52] (fun i w3=>prt n x.lv x.ix≤i∧i≤4∧(∀k,prt n x.lv x.ix≤k→k<i→(x.rs.get k).eqb Rec.zero=true∧(x.es.get k).eqb Ent.zero=true)∧Ext w1 w3) (fun i=>4-i) (prt n x.lv x.ix) (by kernel_rfl) ⟨Nat.le_refl _,zdo _ _ _,fun k h1 h2=>absurd h1 (by omega),hEw2⟩ ?_)))
   rintro i dw3 w3 ⟨hpi,hi,hz,hEl⟩
   have hzl:=hEl.size
   refine zd (wsr (zb 1 [(35,(vI i))] (za (zag 36 i 4 (fun hc36=> ?_) (fun hc36=> ?_)))))
   ·refine wEt (zk (zl (zc (zd (zp (wsr (zb 2 [(40,(vP w.heap.size 2)),(39,(vI i))] ?_)))))))
    refine za (zaW w.heap.size 2 i 4 35 ?_)
    refine za (zQ w.heap.size (2+i*35) ((hBw1.ext hEl).at (2+i*35) (zL (x.rs.get i)) (nod_r (by omega))) (zab _) ?_)
    refine zb 1 [(43,(vA (zL Rec.zero)))] ?_
    rcases Bool.eq_false_or_eq_true ((x.rs.get i).eqb Rec.zero) with hq44 | hq44
    ·refine za (zbG (some 44) (bo .neq 68 (.tmp 42) (.tmp 43) (vA (zL (x.rs.get i))) (vA (zL Rec.zero))) vF (zaj (r:=true) (T:=68) ((zcd (dd:=9997) (t:=68) (t8:=5) (tn:=56) (td:=59) (e:=5) (t32:=53) (t64:=54) (x.rs.get i) Rec.zero).trans (congrArg (fun b=>Result.ok b _) (show ((x.rs.get i).eqb Rec.zero)=true from hq44)))) ?_)
     refine zb 3 [(47,(vP w.heap.size 142)),(46,(vI i)),(45,vF)] (za (zaW w.heap.size 142 i 4 33 ?_))
     refine za (zQ w.heap.size (142+i*33) ((hBw1.ext hEl).at (142+i*33) (zW (x.es.get i)) (nod_e (by omega))) (zat _) ?_)
     refine zb 1 [(50,(vA (zW Ent.zero)))] ?_
     rcases Bool.eq_false_or_eq_true ((x.es.get i).eqb Ent.zero) with hq51 | hq51
     ·refine za (zbG (some 51) (bo .neq 71 (.tmp 49) (.tmp 50) (vA (zW (x.es.get i))) (vA (zW Ent.zero))) vF (zaj (r:=true) (T:=71) ((za2 (dd:=9997) (t:=71) (t8:=5) (td:=59) (e:=5) (x.es.get i) Ent.zero).trans (congrArg (fun b=>Result.ok b _) (show ((x.es.get i).eqb Ent.zero)=true from hq51)))) ?_)
      refine zb 1 [(52,vF)] (wEt (zf (zl (zi (zc (zg (zb 1 [(37,(vI i))] (za (zJ 38 i 1 (i+1) ?_)))))))))
      refine zb 1 [(6,(vI (i+1)))] (zq (zn (zG (i+1) ?_ ?_)))
      ·exact ⟨by omega,by omega,fun k h1 h2=>by rcases Nat.lt_or_ge k i with h3 | h3;exact hz k h1 h3;rw [show k=i by omega];exact ⟨hq44,hq51⟩,hEl⟩
      ·first | omega |(dsimp only;omega)
     ·refine za (zbG (some 51) (bo .neq 71 (.tmp 49) (.tmp 50) (vA (zW (x.es.get i))) (vA (zW Ent.zero))) vT (zaj (r:=false) (T:=71) ((za2 (dd:=9997) (t:=71) (t8:=5) (td:=59) (e:=5) (x.es.get i) Ent.zero).trans (congrArg (fun b=>Result.ok b _) (show ((x.es.get i).eqb Ent.zero)=false from hq51)))) ?_)
      refine zb 1 [(52,vT)] (wEt (zk (wsr (zb 1 [(4,(vI 17))] (zF ?_)))))
      exact zu (zj (zj (zu (zj (zh (vI 17) (⟨congrArg (fun z:Nat=>vI z) (by rw [ze4 (by omega) hin,zlI hpi (by omega) hq51];rfl),(hEw1.trans hEl)⟩))))))
    ·refine za (zbG (some 44) (bo .neq 68 (.tmp 42) (.tmp 43) (vA (zL (x.rs.get i))) (vA (zL Rec.zero))) vT (zaj (r:=false) (T:=68) ((zcd (dd:=9997) (t:=68) (t8:=5) (tn:=56) (td:=59) (e:=5) (t32:=53) (t64:=54) (x.rs.get i) Rec.zero).trans (congrArg (fun b=>Result.ok b _) (show ((x.rs.get i).eqb Rec.zero)=false from hq44)))) ?_)
     refine zb 8 [(52,vT),(51,undef),(50,undef),(49,undef),(48,undef),(47,undef),(46,undef),(45,vT)] (wEt (zk (wsr (zb 1 [(4,(vI 17))] (zF ?_)))))
     exact zu (zj (zj (zu (zj (zh (vI 17) (⟨congrArg (fun z:Nat=>vI z) (by rw [ze4 (by omega) hin,zlL hpi (by omega) hq44];rfl),(hEw1.trans hEl)⟩))))))
   ·refine wEt (zf (zP (zo (zo (zD (zc (wsr ?_)))))))
    refine zb 1 [(4,(vI 0))] (zF (zh (vI 0) ?_))
    obtain rfl:i=4:=by omega
    exact ⟨congrArg (fun z:Nat=>vI z) (by rw [ze4 (by omega) hin,if_pos (zfH.2 hz)]),(hEw1.trans hEl)⟩
  ·refine za (zt (zr9 n ((x.lv:Nat):Int) ((x.ix:Nat):Int) _ (by omega) (by omega) (by first | omega |(simp only [Int.toNat_natCast];omega))) ?_)
   rintro _ _ ⟨rfl,rfl⟩
   refine zb 1 [(26,vT)] (wEt (zk (wsr (zb 1 [(4,(vI 17))] (zF ?_)))))
   exact zj (zh (vI 17) (⟨congrArg (fun z:Nat=>vI z) ((zlz (by omega) hin).symm),(hEw1.trans hEw2)⟩))
end Go.Proofs.YtkmhgepdhilllaaGreatDoor
namespace Go.Proofs.YtkmhgepdhilllaaGreatDoor
open Go Go.RowKit Go.Cs
set_option maxRecDepth 100000
theorem zd3 (x:UInt32) (k:Nat) (w:World) (hp0:1≤k) (hp1:k≤31):
  Calls Tryz.prog 145 #[(vW x.toNat),(vI k)] w (Ret fun r w'=>r=(vW ((rr x k).toNat))∧w=w'):=by
 refine zw (n:=9) (σ:= [(0,(vW x.toNat)),(1,(vI k))]) Tryz.func145 rfl ?_
 refine wsr (zb 1 [(4,(vW 0))] (zz (zb 2 [(6,(vI k)),(5,(vW x.toNat))] (za (zeR (some 7) .i64 (IntKind.i64.wrap (0-((k:Nat):Int))) (-((k:Nat):Int)) (zao) ?_)))))
 refine za (zt (zv9 x.toNat (-((k:Nat):Int)) _ (x.toNat_lt)) ?_)
 rintro _ _ ⟨rfl,rfl⟩
 refine zb 1 [(4,(vW (rot x.toNat (-((k:Nat):Int)))))] (zF (zh (vW (rot x.toNat (-((k:Nat):Int)))) ?_))
 rw [zqk];exact ⟨rfl,rfl⟩
theorem zd6 (x:UInt32) (k:Nat) (w:World) (hp0:1≤k) (hp1:k≤31):
  Calls Tryz.prog 128 #[(vW x.toNat),(vI k)] w (Ret fun r w'=>r=(vW ((rr x k).toNat))∧Ext w w'):=by
 refine zw (n:=13) (σ:= [(0,(vW x.toNat)),(1,(vI k))]) Tryz.func128 rfl ?_
 refine wsr (zb 1 [(4,(vW 0))] (wEt (zd (zY 9 (fun w1 hEw1 hzw1 hT18=> ?_)))))
 refine ze hT18 [(0,5,(vW x.toNat)),(1,6,(vI k))] 2 (zr hT18 2 (vW (x.toNat/2^k)) (zai (do eqGuard .shr 53 (.tmp 5) (.tmp 6) (.int .u32 ((x.toNat:Nat):Int)) (.int .i64 ((k:Nat):Int));binOp .shr 53 (.int .u32 ((x.toNat:Nat):Int)) (.int .i64 ((k:Nat):Int))) (fun w' hC=>zjV (by show _≤32;omega))) (ze hT18 [(3,8,(vW x.toNat)),(4,9,(vI k))] 2 (zr hT18 5 (vI (32-k)) (zac .i64 (IntKind.i64.wrap (((32:Nat):Int)-((k:Nat):Int))) (zao)) (zr hT18 6 (vW (x.toNat*2^(32-k)%2^32)) (zai (do eqGuard .shl 53 (.tmp 8) (.tmp 10) (.int .u32 ((x.toNat:Nat):Int)) (.int .i64 ((32-k:Nat):Int));binOp .shl 53 (.int .u32 ((x.toNat:Nat):Int)) (.int .i64 ((32-k:Nat):Int))) (fun w' hC=>znH rfl (by show _≤32;omega))) (zr hT18 7 (vW ((rr x k).toNat)) (zac .u32 ((IntKind.u32.wrap ((BitVec.ofInt IntKind.u32.bits ((x.toNat/2^k:Nat):Int)||| BitVec.ofInt IntKind.u32.bits ((x.toNat*2^(32-k)%2^32:Nat):Int)).toNat:Int))) ((orU .u32 rfl (by show _<2^32;exact Nat.lt_of_le_of_lt (Nat.div_le_self _ _) x.toNat_lt) (Nat.mod_lt _ (by decide))).trans (congrArg _ (zuM x hp0 hp1)))) (ze hT18 [(8,4,(vW ((rr x k).toNat)))] 1 (zB (zc (zaH ?_)))))))))
 exact zh (vW ((rr x k).toNat)) (⟨rfl,hEw1⟩)
theorem zsB (b:B64) (w:World):
  Calls Tryz.prog 144 #[(vA (zd8 b))] w (Ret fun r w'=>r=(vA (zas (zA b.l 64)))∧Ext w w'):=by
 refine zw (n:=72) (σ:= [(0,(vA (zd8 b)))]) Tryz.func144 rfl ?_
 refine wsr (za (zS (Instr.box 191 (vA (zd8 b))) (vP w.heap.size 0) (zd8 b) 191 ?_))
 intro w1 hBw1 hEw1 hzw1 hlw1
 refine za (zad (zas (WA.zero 64)) 167 ?_)
 intro w2 hBw2 hEw2 hzw2 hlw2
 refine zM (zb 1 [(9,(vI 0))] (wEt (zp (zU (X:=Nat) (fun i=> [(9,(vI i))]) [3,10,11,12,13,14,15,16,17,18,19,20,21,22,23,24,25,26,27] (fun i w3=>i≤16∧Blk w3 w.heap.size (zd8 b) 191∧Blk w3 w1.heap.size (zas (zA b.l i)) 167∧Ext w w3) (fun i=>16-i) 0 (by kernel_rfl) ⟨by omega,(hBw1.ext hEw2),hBw2,(hEw1.trans hEw2)⟩ ?_))))
 rintro i dw3 w3 ⟨hi,hA,hB,hEl⟩
 have hzhEl:=hEl.size;have hlthA:=hA.lt;have hlthB:=hB.lt
 refine wsr (za (zag 10 i 16 (fun hc10=> ?_) (fun hc10=> ?_)))
 ·refine wEt (zd (zk (zl (zc (zd (zp (wsr ?_)))))))
  refine zb 2 [(3,(vI i)),(11,(vI i))] (zdx (zb 2 [(14,(vI i)),(13,(vI i))] (za (zcg 15 4 i (4*i) ?_))))
  refine zb 1 [(16,(vI i))] (za (zcg 17 4 i (4*i) ?_))
  refine za (zJ 18 (4*i) 4 (4*i+4) ?_)
  refine zb 1 [(19,(vI i))] (za (zcg 20 4 i (4*i) ?_))
  refine za (zJ 21 (4*i) 4 (4*i+4) ?_)
  refine za (zaN (Instr.sliceAt 191 (vP w.heap.size 0) (some (vI (4*i))) (some (vI (4*i+4))) (some (vI (4*i+4)))) (.slice (pA w.heap.size (0+(4*i)*1)) (4*i+4-(4*i)) (4*i+4-(4*i))) (zkb (len:=64) (E:=5) (sz:=1) (l:=4*i) (r:=4*i+4) (m:=4*i+4) (.inr ⟨_,rfl⟩) (.inr ⟨_,rfl⟩) (.inr ⟨_,rfl⟩) (by simp) (by omega) (by omega) (by omega) (by omega)) ?_)
  have hSb:Bs w.heap.size (w.heap.size+1) w3 (pA w.heap.size (0+(4*i)*1)) (4*i+4-(4*i)) (4*i+4-(4*i)) ((b.l.drop (4*i)).take 4):=by have hq:=Bs.of_at (lo:=w.heap.size) (hi:=w.heap.size+1) (len:=4) (hA.at (4*i) (u8s ((b.l.drop (4*i)).take 4)) (zrY (by omega))) (hA).lt (by have:=b.h;simp;omega) (by decide) (by omega) (by omega);rw [show 4*i+4-4*i=4 from by omega,Nat.zero_add,Nat.mul_one];exact hq
  refine za (zt (ztp _ hSb) ?_)
  rintro _ _ ⟨rfl,rfl⟩
  rw [show za6 ((b.l.drop (4*i)).take 4) 4=(UInt32.ofNat (za6 ((b.l.drop (4*i)).take 4) 4)).toNat from by rw [UInt32.toNat_ofNat',Nat.mod_eq_of_lt (zd2 _ 4)]]
  refine zb 3 [(25,(vI (zcU ((b.l.drop (4*i)).take 4) 4))),(24,(vW ((UInt32.ofNat (za6 ((b.l.drop (4*i)).take 4) 4)).toNat))),(12,(.tuple #[(vW ((UInt32.ofNat (za6 ((b.l.drop (4*i)).take 4) 4)).toNat)),(vI (zcU ((b.l.drop (4*i)).take 4) 4))]))] (za (zaW w1.heap.size 0 i 64 1 ?_))
  refine za (zah 53 w1.heap.size (0+i*1) 167 (vW ((UInt32.ofNat (za6 ((b.l.drop (4*i)).take 4) 4)).toNat)) (zas (zA b.l i)) hB (by first | decide |(simp;done)|(simp;omega)) ?_)
  intro w4 hBw4 hCw4
  have hzw4:=hCw4.size
  rw [show ((zas (zA b.l i)).set (0+i*1) (vW ((UInt32.ofNat (za6 ((b.l.drop (4*i)).take 4) 4)).toNat)):List Value)=zas ((zA b.l i).set i (UInt32.ofNat (za6 ((b.l.drop (4*i)).take 4) 4))) from zit i (UInt32.ofNat (za6 ((b.l.drop (4*i)).take 4) 4))] at hBw4
  refine zq (zi (zc (zg (za (zJ 27 i 1 (i+1) ?_)))))
  refine zb 1 [(9,(vI (i+1)))] (zq (zn (zG (i+1) ?_ ?_)))
  ·exact ⟨by omega,(hA.chg hCw4),by have hz:=hBw4;rwa [show (zA b.l i).set i _=zA b.l (i+1) from zmH (by omega) rfl] at hz,(Ext.own hEl hCw4 (by omega))⟩
  ·first | omega |(dsimp only;omega)
 ·refine wEt (zd (zf (zP (zo (zo (zD (zc (zd ?_))))))))
  refine wsr (zb 1 [(4,(vI 16))] (wEt (zp ?_)))
  obtain rfl:i=16:=by omega
  refine zU (X:=Nat) (fun t=> [(4,(vI t))]) [5,6,7,8,28,29,30,31,32,33,34,35,36,37,38,39,40,41,42,43,44,45,46,47,48,49,50,51,52,53,54,55,56,57,58,59,60,61,62,63,64,65,66,67,68,69,70] (fun t w5=>16≤t∧t≤64∧Blk w5 w.heap.size (zd8 b) 191∧Blk w5 w1.heap.size (zas (zA b.l t)) 167∧Ext w w5) (fun t=>64-t) 16 (by kernel_rfl) ⟨by omega,by omega,hA,hB,hEl⟩ ?_
  rintro t dw5 w5 ⟨hlt,ht,hC,hD,hEm⟩
  have hzhEm:=hEm.size;have hlthC:=hC.lt;have hlthD:=hD.lt
  refine zd (wsr (zb 1 [(28,(vI t))] (za (zag 29 t 64 (fun hc29=> ?_) (fun hc29=> ?_)))))
  ·refine wEt (zk (zl (zc (zd (zp (zd (zY 10 (fun w6 hEw6 hzw6 hT117=> ?_))))))))
   refine ze hT117 [(0,32,(vI t))] 1 (zr hT117 1 (vI (t-15)) (zac .i64 (IntKind.i64.wrap (((t:Nat):Int)-((15:Nat):Int))) (zao)) (zaP hT117 2 w1.heap.size 0 (t-15) 64 1 (zx hT117 3 w1.heap.size (0+(t-15)*1) (fun w' hC=>(((hD.ext hEw6).ext hC).cell (zc6 (t-15) (by omega)))) (ze hT117 [(4,36,(vI t))] 1 (zr hT117 5 (vI (t-2)) (zac .i64 (IntKind.i64.wrap (((t:Nat):Int)-((2:Nat):Int))) (zao)) (zaP hT117 6 w1.heap.size 0 (t-2) 64 1 (zx hT117 7 w1.heap.size (0+(t-2)*1) (fun w' hC=>(((hD.ext hEw6).ext hC).cell (zc6 (t-2) (by omega)))) (ze hT117 [(8,5,(vW (((zA b.l t).get (t-15)).toNat))),(9,6,(vW (((zA b.l t).get (t-2)).toNat)))] 2 (zB ?_)))))))))
   refine zc (wsr (zb 1 [(40,(vW (((zA b.l t).get (t-15)).toNat)))] (za (zt (zd3 ((zA b.l t).get (t-15)) 7 _ (by decide) (by decide)) ?_))))
   rintro _ _ ⟨rfl,rfl⟩
   refine zb 1 [(42,(vW (((zA b.l t).get (t-15)).toNat)))] (za (zt (zd3 ((zA b.l t).get (t-15)) 18 _ (by decide) (by decide)) ?_))
   rintro _ _ ⟨rfl,rfl⟩
   refine za (zae (some 44) .u32 ((IntKind.u32.wrap ((BitVec.ofInt IntKind.u32.bits (((rr ((zA b.l t).get (t-15)) 7).toNat:Nat):Int)^^^BitVec.ofInt IntKind.u32.bits (((rr ((zA b.l t).get (t-15)) 18).toNat:Nat):Int)).toNat:Int))) (((rr ((zA b.l t).get (t-15)) 7)^^^(rr ((zA b.l t).get (t-15)) 18)).toNat) (zcs (rr ((zA b.l t).get (t-15)) 7) (rr ((zA b.l t).get (t-15)) 18)) ?_)
   refine zb 1 [(45,(vW (((zA b.l t).get (t-15)).toNat)))] (za (zae (some 46) .u32 (((((zA b.l t).get (t-15)).toNat:Nat):Int).fdiv (2^3)) ((((zA b.l t).get (t-15))>>>UInt32.ofNat 3).toNat) (zjx ((zA b.l t).get (t-15)) 3 (by decide)) ?_))
   refine za (zae (some 47) .u32 ((IntKind.u32.wrap ((BitVec.ofInt IntKind.u32.bits ((((rr ((zA b.l t).get (t-15)) 7)^^^(rr ((zA b.l t).get (t-15)) 18)).toNat:Nat):Int)^^^BitVec.ofInt IntKind.u32.bits (((((zA b.l t).get (t-15))>>>UInt32.ofNat 3).toNat:Nat):Int)).toNat:Int))) ((((rr ((zA b.l t).get (t-15)) 7)^^^(rr ((zA b.l t).get (t-15)) 18))^^^(((zA b.l t).get (t-15))>>>UInt32.ofNat 3)).toNat) (zcs ((rr ((zA b.l t).get (t-15)) 7)^^^(rr ((zA b.l t).get (t-15)) 18)) (((zA b.l t).get (t-15))>>>UInt32.ofNat 3)) ?_)
   refine zb 1 [(7,(vW ((((rr ((zA b.l t).get (t-15)) 7)^^^(rr ((zA b.l t).get (t-15)) 18))^^^(((zA b.l t).get (t-15))>>>UInt32.ofNat 3)).toNat)))] (zz (zb 1 [(48,(vW (((zA b.l t).get (t-2)).toNat)))] (za (zt (zd3 ((zA b.l t).get (t-2)) 17 _ (by decide) (by decide)) ?_))))
   rintro _ _ ⟨rfl,rfl⟩
   refine zb 1 [(50,(vW (((zA b.l t).get (t-2)).toNat)))] (za (zt (zd3 ((zA b.l t).get (t-2)) 19 _ (by decide) (by decide)) ?_))
   rintro _ _ ⟨rfl,rfl⟩
   refine za (zae (some 52) .u32 ((IntKind.u32.wrap ((BitVec.ofInt IntKind.u32.bits (((rr ((zA b.l t).get (t-2)) 17).toNat:Nat):Int)^^^BitVec.ofInt IntKind.u32.bits (((rr ((zA b.l t).get (t-2)) 19).toNat:Nat):Int)).toNat:Int))) (((rr ((zA b.l t).get (t-2)) 17)^^^(rr ((zA b.l t).get (t-2)) 19)).toNat) (zcs (rr ((zA b.l t).get (t-2)) 17) (rr ((zA b.l t).get (t-2)) 19)) ?_)
   refine zb 1 [(53,(vW (((zA b.l t).get (t-2)).toNat)))] (za (zae (some 54) .u32 (((((zA b.l t).get (t-2)).toNat:Nat):Int).fdiv (2^10)) ((((zA b.l t).get (t-2))>>>UInt32.ofNat 10).toNat) (zjx ((zA b.l t).get (t-2)) 10 (by decide)) ?_))
   refine za (zae (some 55) .u32 ((IntKind.u32.wrap ((BitVec.ofInt IntKind.u32.bits ((((rr ((zA b.l t).get (t-2)) 17)^^^(rr ((zA b.l t).get (t-2)) 19)).toNat:Nat):Int)^^^BitVec.ofInt IntKind.u32.bits (((((zA b.l t).get (t-2))>>>UInt32.ofNat 10).toNat:Nat):Int)).toNat:Int))) ((((rr ((zA b.l t).get (t-2)) 17)^^^(rr ((zA b.l t).get (t-2)) 19))^^^(((zA b.l t).get (t-2))>>>UInt32.ofNat 10)).toNat) (zcs ((rr ((zA b.l t).get (t-2)) 17)^^^(rr ((zA b.l t).get (t-2)) 19)) (((zA b.l t).get (t-2))>>>UInt32.ofNat 10)) ?_)
   refine zb 1 [(8,(vW ((((rr ((zA b.l t).get (t-2)) 17)^^^(rr ((zA b.l t).get (t-2)) 19))^^^(((zA b.l t).get (t-2))>>>UInt32.ofNat 10)).toNat)))] (wEt (zY 16 (fun w7 hEw7 hzw7 hT159=> ?_)))
   refine ze hT159 [(0,56,(vI t)),(1,57,(vW ((((rr ((zA b.l t).get (t-2)) 17)^^^(rr ((zA b.l t).get (t-2)) 19))^^^(((zA b.l t).get (t-2))>>>UInt32.ofNat 10)).toNat))),(2,58,(vI t))] 3 (zr hT159 3 (vI (t-7)) (zac .i64 (IntKind.i64.wrap (((t:Nat):Int)-((7:Nat):Int))) (zao)) (zaP hT159 4 w1.heap.size 0 (t-7) 64 1 (zx hT159 5 w1.heap.size (0+(t-7)*1) (fun w' hC=>((((hD.ext hEw6).ext hEw7).ext hC).cell (zc6 (t-7) (by omega)))) (zr hT159 6 (vW (((((rr ((zA b.l t).get (t-2)) 17)^^^(rr ((zA b.l t).get (t-2)) 19))^^^(((zA b.l t).get (t-2))>>>UInt32.ofNat 10))+((zA b.l t).get (t-7))).toNat)) (zac .u32 _ (zbs (((rr ((zA b.l t).get (t-2)) 17)^^^(rr ((zA b.l t).get (t-2)) 19))^^^(((zA b.l t).get (t-2))>>>UInt32.ofNat 10)) ((zA b.l t).get (t-7)))) (ze hT159 [(7,63,(vW ((((rr ((zA b.l t).get (t-15)) 7)^^^(rr ((zA b.l t).get (t-15)) 18))^^^(((zA b.l t).get (t-15))>>>UInt32.ofNat 3)).toNat)))] 1 ?_)))))
   refine zr hT159 8 (vW ((((((rr ((zA b.l t).get (t-2)) 17)^^^(rr ((zA b.l t).get (t-2)) 19))^^^(((zA b.l t).get (t-2))>>>UInt32.ofNat 10))+((zA b.l t).get (t-7)))+(((rr ((zA b.l t).get (t-15)) 7)^^^(rr ((zA b.l t).get (t-15)) 18))^^^(((zA b.l t).get (t-15))>>>UInt32.ofNat 3))).toNat)) (zac .u32 _ (zbs ((((rr ((zA b.l t).get (t-2)) 17)^^^(rr ((zA b.l t).get (t-2)) 19))^^^(((zA b.l t).get (t-2))>>>UInt32.ofNat 10))+((zA b.l t).get (t-7))) (((rr ((zA b.l t).get (t-15)) 7)^^^(rr ((zA b.l t).get (t-15)) 18))^^^(((zA b.l t).get (t-15))>>>UInt32.ofNat 3)))) (ze hT159 [(9,65,(vI t))] 1 (zr hT159 10 (vI (t-16)) (zac .i64 (IntKind.i64.wrap (((t:Nat):Int)-((16:Nat):Int))) (zao)) (zaP hT159 11 w1.heap.size 0 (t-16) 64 1 (zx hT159 12 w1.heap.size (0+(t-16)*1) (fun w' hC=>((((hD.ext hEw6).ext hEw7).ext hC).cell (zc6 (t-16) (by omega)))) ?_))))
   refine zr hT159 13 (vW (((((((rr ((zA b.l t).get (t-2)) 17)^^^(rr ((zA b.l t).get (t-2)) 19))^^^(((zA b.l t).get (t-2))>>>UInt32.ofNat 10))+((zA b.l t).get (t-7)))+(((rr ((zA b.l t).get (t-15)) 7)^^^(rr ((zA b.l t).get (t-15)) 18))^^^(((zA b.l t).get (t-15))>>>UInt32.ofNat 3)))+((zA b.l t).get (t-16))).toNat)) (zac .u32 _ (zbs (((((rr ((zA b.l t).get (t-2)) 17)^^^(rr ((zA b.l t).get (t-2)) 19))^^^(((zA b.l t).get (t-2))>>>UInt32.ofNat 10))+((zA b.l t).get (t-7)))+(((rr ((zA b.l t).get (t-15)) 7)^^^(rr ((zA b.l t).get (t-15)) 18))^^^(((zA b.l t).get (t-15))>>>UInt32.ofNat 3))) ((zA b.l t).get (t-16)))) (zaP hT159 14 w1.heap.size 0 t 64 1 (zy 15 (zah 53 w1.heap.size (0+t*1) 167 (vW (((((((rr ((zA b.l t).get (t-2)) 17)^^^(rr ((zA b.l t).get (t-2)) 19))^^^(((zA b.l t).get (t-2))>>>UInt32.ofNat 10))+((zA b.l t).get (t-7)))+(((rr ((zA b.l t).get (t-15)) 7)^^^(rr ((zA b.l t).get (t-15)) 18))^^^(((zA b.l t).get (t-15))>>>UInt32.ofNat 3)))+((zA b.l t).get (t-16))).toNat)) (zas (zA b.l t)) ((hD.ext hEw6).ext hEw7) (by first | decide |(simp;done)|(simp;omega)) ?_)))
   intro w8 hBw8 hCw8
   have hzw8:=hCw8.size
   rw [show ((zas (zA b.l t)).set (0+t*1) (vW (((((((rr ((zA b.l t).get (t-2)) 17)^^^(rr ((zA b.l t).get (t-2)) 19))^^^(((zA b.l t).get (t-2))>>>UInt32.ofNat 10))+((zA b.l t).get (t-7)))+(((rr ((zA b.l t).get (t-15)) 7)^^^(rr ((zA b.l t).get (t-15)) 18))^^^(((zA b.l t).get (t-15))>>>UInt32.ofNat 3)))+((zA b.l t).get (t-16))).toNat)):List Value)=zas ((zA b.l t).set t ((((((rr ((zA b.l t).get (t-2)) 17)^^^(rr ((zA b.l t).get (t-2)) 19))^^^(((zA b.l t).get (t-2))>>>UInt32.ofNat 10))+((zA b.l t).get (t-7)))+(((rr ((zA b.l t).get (t-15)) 7)^^^(rr ((zA b.l t).get (t-15)) 18))^^^(((zA b.l t).get (t-15))>>>UInt32.ofNat 3)))+((zA b.l t).get (t-16)))) from zit t ((((((rr ((zA b.l t).get (t-2)) 17)^^^(rr ((zA b.l t).get (t-2)) 19))^^^(((zA b.l t).get (t-2))>>>UInt32.ofNat 10))+((zA b.l t).get (t-7)))+(((rr ((zA b.l t).get (t-15)) 7)^^^(rr ((zA b.l t).get (t-15)) 18))^^^(((zA b.l t).get (t-15))>>>UInt32.ofNat 3)))+((zA b.l t).get (t-16)))] at hBw8
   refine ⟨.inl (by kernel_rfl), ?_⟩
   refine zB (zi (zc (zg (zb 1 [(30,(vI t))] (za (zJ 31 t 1 (t+1) ?_))))))
   refine zb 1 [(4,(vI (t+1)))] (zq (zn ?_))
   have hK1:=(((hC.ext hEw6).ext hEw7).chg hCw8)
   have hX1:Ext w w8:=(Ext.own ((hEm.trans hEw6).trans hEw7) hCw8 (by omega))
   refine zG (t+1) ?_ ?_
   ·exact ⟨by omega,by omega,hK1,by have hz:=hBw8;rwa [show (zA b.l t).set t _=zA b.l (t+1) from zl2 (by omega) (by unfold zop zoG;ac_rfl)] at hz,hX1⟩
   ·first | omega |(dsimp only;omega)
  ·refine wEt (zf (zP (zo (zo (zD (zc (wsr ?_)))))))
   refine za (zQ w1.heap.size 0 (hD.all) (zdW _) ?_)
   refine za (zC 167 w1.heap.size 0 167 (vA (zas (zA b.l t))) (zas (zA b.l t)) (zas (zA b.l t)) hD (by rw [zdW];kernel_rfl) (by first |(simp;done)|(simp;omega)) (zgv _) ?_)
   intro w9 hBw9 hCw9
   have hzw9:=hCw9.size
   rw [zv _ _ (by simp)] at hBw9
   refine zF (zaR (show zO Tryz.prog 72 _ _ (.cell 2 167) (vA (zas (zA b.l t))) from ⟨⟨w1.heap.size,0,none⟩,(by kernel_rfl),zE (T:=167) (vs:=zas (zA b.l t)) (hBw9).all (by rw [zdW];kernel_rfl)⟩) ?_)
   obtain rfl:t=64:=by omega
   exact ⟨rfl,(Ext.own hEm hCw9 (by omega))⟩
end Go.Proofs.YtkmhgepdhilllaaGreatDoor
namespace Go.Proofs.YtkmhgepdhilllaaGreatDoor
open Go Go.RowKit Go.Cs
set_option maxRecDepth 100000
theorem zs1 (h:(WA 8)) (b:B64) (w:World) (hg2:Gl 3 (zas kA) w):
  Calls Tryz.prog 135 #[(vA (w8C h)),(vA (zd8 b))] w (Ret fun r w'=>r=(vA (w8C (zfp h b.l)))∧Ext w w'):=by
 refine zw (n:=112) (σ:= [(0,(vA (w8C h))),(1,(vA (zd8 b)))]) Tryz.func135 rfl ?_
 have hgl2:=hg2.lt
 refine wsr (za (zS (Instr.box 168 (vA (w8C h))) (vP w.heap.size 0) (w8C h) 168 ?_))
 intro w1 hBw1 hEw1 hzw1 hlw1
 refine za (zS (Instr.box 191 (vA (zd8 b))) (vP w1.heap.size 0) (zd8 b) 191 ?_)
 intro w2 hBw2 hEw2 hzw2 hlw2
 refine za (zad (w8C (WA.zero 8)) 168 ?_)
 intro w3 hBw3 hEw3 hzw3 hlw3
 refine zz (za (zQ w1.heap.size 0 ((hBw2.ext hEw3).all) (zlr _) ?_))
 refine za (zt (zsB b _) ?_)
 rintro _ w4 ⟨rfl,hEw4⟩
 have hzw4:=hEw4.size
 refine zal (zas (zA b.l 64)) 167 (zdW _) (zgv _) ?_
 intro w5 hBw5 hEw5 hzw5 hlw5
 refine zz ?_
 have hK1:=((((hBw1.ext hEw2).ext hEw3).ext hEw4).ext hEw5)
 refine za (zQ w.heap.size 0 (hK1.all) (zbV _) ?_)
 refine zal (w8C h) 168 (zbV _) (zd7 _) ?_
 intro w6 hBw6 hEw6 hzw6 hlw6
 refine zM ?_
 have hX1:=((hEw1.trans hEw2).trans hEw3).trans hEw4
 have hK2:=(((hg2.ext hX1).ext hEw5).ext hEw6)
 refine za (zQ 3 0 (hK2.all) (zdW _) ?_)
 refine zb 1 [(18,(vI 0))] (wEt (zp ?_))
 have hK3:=(((hBw3.ext hEw4).ext hEw5).ext hEw6)
 refine zU (X:=Nat×WA 8) (fun ⟨t,x⟩=> [(18,(vI t))]) [7,8,9,10,11,12,19,20,21,22,23,24,25,26,27,28,29,30,31,32,33,34,35,36,37,38,39,40,41,42,43,44,45,46,47,48,49,50,51,52,53,54,55,56,57,58,59,60,61,62,63,64,65,66,67,68,69,70,71,72,73,74,75,76,77,78,79,80,81,82,83,84,85,86,87,88,89,90,91,92,93,94,95,96,97,98] (fun ⟨t,x⟩ w7=>t≤64∧x=zfd h (zA b.l 64) t∧Blk w7 w.heap.size (w8C h) 168∧Blk w7 w4.heap.size (zas (zA b.l 64)) 167∧Blk w7 w5.heap.size (w8C x) 168∧Blk w7 w2.heap.size (w8C (WA.zero 8)) 168∧Ext w w7) (fun ⟨t,x⟩=>64-t) (0,h) (by kernel_rfl) ⟨by omega,rfl,(hK1.ext hEw6),(hBw5.ext hEw6),hBw6,hK3,((hX1.trans hEw5).trans hEw6)⟩ ?_
 rintro ⟨t,x⟩ dw7 w7 ⟨ht,hx,hA,hB,hD,hZ4,hEl⟩
 have hzl:=hEl.size
 have hlthA:=hA.lt
 have hlthB:=hB.lt
 have hlthD:=hD.lt
 have hlthZ4:=hZ4.lt
 refine wsr (za (zag 19 t 64 (fun hc19=> ?_) (fun hc19=> ?_)))
 ·refine wEt (zd (zk (zl (zc (zd (zp (wsr ?_)))))))
  refine zb 1 [(20,(vI t))] (za (zaN (Instr.index 167 (vA (zas kA)) (vI t)) (vW ((kA.get t).toNat)) (zix (E:=53) (m:=64) (by omega) (zqd (by omega))) ?_))
  refine zb 2 [(8,(vW ((kA.get t).toNat))),(7,(vI t))] (wEt (zd (zY 6 (fun w8 hEw8 hzw8 hT69=> ?_))))
  refine zr hT69 0 (vP w5.heap.size 0) (zai (Instr.indexAt 168 (vP w5.heap.size 0) (vI 0)) (fun w' hC=>za8 (E:=53) (sz:=1) (m:=8))) (zx hT69 1 w5.heap.size 0 (fun w' hC=>(((hD.ext hEw8).ext hC).cell (za1 0 (by omega)))) (zr hT69 2 (vP w5.heap.size 4) (zai (Instr.indexAt 168 (vP w5.heap.size 0) (vI 4)) (fun w' hC=>za8 (E:=53) (sz:=1) (m:=8))) (zx hT69 3 w5.heap.size 4 (fun w' hC=>(((hD.ext hEw8).ext hC).cell (za1 4 (by omega)))) (ze hT69 [(4,9,(vW ((x.get 0).toNat))),(5,10,(vW ((x.get 4).toNat)))] 2 (zB (zc (zd (zY 29 (fun w9 hEw9 hzw9 hT78=> ?_)))))))))
  refine zr hT78 0 (vP w5.heap.size 7) (zai (Instr.indexAt 168 (vP w5.heap.size 0) (vI 7)) (fun w' hC=>za8 (E:=53) (sz:=1) (m:=8))) (zx hT78 1 w5.heap.size 7 (fun w' hC=>((((hD.ext hEw8).ext hEw9).ext hC).cell (za1 7 (by omega)))) (ze hT78 [(2,28,(vW ((x.get 4).toNat)))] 1 (zr hT78 3 (vW ((rr (x.get 4) 6).toNat)) (zcv (f:=145) (args:= #[(vW ((x.get 4).toNat)),(vI 6)]) (fun w' hC=>zd3 (x.get 4) 6 _ (by decide) (by decide))) (ze hT78 [(4,30,(vW ((x.get 4).toNat)))] 1 (zr hT78 5 (vW ((rr (x.get 4) 11).toNat)) (zcv (f:=145) (args:= #[(vW ((x.get 4).toNat)),(vI 11)]) (fun w' hC=>zd3 (x.get 4) 11 _ (by decide) (by decide))) (zr hT78 6 (vW (((rr (x.get 4) 6)^^^(rr (x.get 4) 11)).toNat)) (zac .u32 _ (zcs (rr (x.get 4) 6) (rr (x.get 4) 11))) (ze hT78 [(7,33,(vW ((x.get 4).toNat)))] 1 (zr hT78 8 (vW ((rr (x.get 4) 25).toNat)) (zcv (f:=145) (args:= #[(vW ((x.get 4).toNat)),(vI 25)]) (fun w' hC=>zd3 (x.get 4) 25 _ (by decide) (by decide))) (zr hT78 9 (vW ((((rr (x.get 4) 6)^^^(rr (x.get 4) 11))^^^(rr (x.get 4) 25)).toNat)) (zac .u32 _ (zcs ((rr (x.get 4) 6)^^^(rr (x.get 4) 11)) (rr (x.get 4) 25))) ?_)))))))))
  refine zr hT78 10 (vW (((x.get 7)+(((rr (x.get 4) 6)^^^(rr (x.get 4) 11))^^^(rr (x.get 4) 25))).toNat)) (zac .u32 _ (zbs (x.get 7) (((rr (x.get 4) 6)^^^(rr (x.get 4) 11))^^^(rr (x.get 4) 25)))) (ze hT78 [(11,37,(vW ((x.get 4).toNat)))] 1 (zr hT78 12 (vP w5.heap.size 5) (zai (Instr.indexAt 168 (vP w5.heap.size 0) (vI 5)) (fun w' hC=>za8 (E:=53) (sz:=1) (m:=8))) (zx hT78 13 w5.heap.size 5 (fun w' hC=>((((hD.ext hEw8).ext hEw9).ext hC).cell (za1 5 (by omega)))) (zr hT78 14 (vW (((x.get 4)&&&(x.get 5)).toNat)) (zac .u32 _ (zeO (x.get 4) (x.get 5))) (ze hT78 [(15,41,(vW ((x.get 4).toNat)))] 1 (zr hT78 16 (vW ((~~~(x.get 4)).toNat)) (zac .u32 _ (zpH (x.get 4))) (zr hT78 17 (vP w5.heap.size 6) (zai (Instr.indexAt 168 (vP w5.heap.size 0) (vI 6)) (fun w' hC=>za8 (E:=53) (sz:=1) (m:=8))) (zx hT78 18 w5.heap.size 6 (fun w' hC=>((((hD.ext hEw8).ext hEw9).ext hC).cell (za1 6 (by omega)))) (zr hT78 19 (vW (((~~~(x.get 4))&&&(x.get 6)).toNat)) (zac .u32 _ (zeO (~~~(x.get 4)) (x.get 6))) ?_)))))))))
  refine zr hT78 20 (vW ((((x.get 4)&&&(x.get 5))^^^((~~~(x.get 4))&&&(x.get 6))).toNat)) (zac .u32 _ (zcs ((x.get 4)&&&(x.get 5)) ((~~~(x.get 4))&&&(x.get 6)))) (zr hT78 21 (vW ((((x.get 7)+(((rr (x.get 4) 6)^^^(rr (x.get 4) 11))^^^(rr (x.get 4) 25)))+(((x.get 4)&&&(x.get 5))^^^((~~~(x.get 4))&&&(x.get 6)))).toNat)) (zac .u32 _ (zbs ((x.get 7)+(((rr (x.get 4) 6)^^^(rr (x.get 4) 11))^^^(rr (x.get 4) 25))) (((x.get 4)&&&(x.get 5))^^^((~~~(x.get 4))&&&(x.get 6))))) (ze hT78 [(22,48,(vW ((kA.get t).toNat)))] 1 (zr hT78 23 (vW (((((x.get 7)+(((rr (x.get 4) 6)^^^(rr (x.get 4) 11))^^^(rr (x.get 4) 25)))+(((x.get 4)&&&(x.get 5))^^^((~~~(x.get 4))&&&(x.get 6))))+(kA.get t)).toNat)) (zac .u32 _ (zbs (((x.get 7)+(((rr (x.get 4) 6)^^^(rr (x.get 4) 11))^^^(rr (x.get 4) 25)))+(((x.get 4)&&&(x.get 5))^^^((~~~(x.get 4))&&&(x.get 6)))) (kA.get t))) (ze hT78 [(24,50,(vI t))] 1 (zaP hT78 25 w4.heap.size 0 t 64 1 (zx hT78 26 w4.heap.size (0+t*1) (fun w' hC=>((((hB.ext hEw8).ext hEw9).ext hC).cell (zc6 t (by omega)))) (zr hT78 27 (vW ((((((x.get 7)+(((rr (x.get 4) 6)^^^(rr (x.get 4) 11))^^^(rr (x.get 4) 25)))+(((x.get 4)&&&(x.get 5))^^^((~~~(x.get 4))&&&(x.get 6))))+(kA.get t))+((zA b.l 64).get t)).toNat)) (zac .u32 _ (zbs ((((x.get 7)+(((rr (x.get 4) 6)^^^(rr (x.get 4) 11))^^^(rr (x.get 4) 25)))+(((x.get 4)&&&(x.get 5))^^^((~~~(x.get 4))&&&(x.get 6))))+(kA.get t)) ((zA b.l 64).get t))) ?_)))))))
  refine ze hT78 [(28,11,(vW ((((((x.get 7)+(((rr (x.get 4) 6)^^^(rr (x.get 4) 11))^^^(rr (x.get 4) 25)))+(((x.get 4)&&&(x.get 5))^^^((~~~(x.get 4))&&&(x.get 6))))+(kA.get t))+((zA b.l 64).get t)).toNat)))] 1 (zB (zc (zd (zY 25 (fun w10 hEw10 hzw10 hT111=> ?_)))))
  refine ze hT111 [(0,54,(vW ((x.get 0).toNat)))] 1 (zr hT111 1 (vW ((rr (x.get 0) 2).toNat)) (zcv (f:=145) (args:= #[(vW ((x.get 0).toNat)),(vI 2)]) (fun w' hC=>zd3 (x.get 0) 2 _ (by decide) (by decide))) (ze hT111 [(2,56,(vW ((x.get 0).toNat)))] 1 (zr hT111 3 (vW ((rr (x.get 0) 13).toNat)) (zcv (f:=145) (args:= #[(vW ((x.get 0).toNat)),(vI 13)]) (fun w' hC=>zd3 (x.get 0) 13 _ (by decide) (by decide))) (zr hT111 4 (vW (((rr (x.get 0) 2)^^^(rr (x.get 0) 13)).toNat)) (zac .u32 _ (zcs (rr (x.get 0) 2) (rr (x.get 0) 13))) (ze hT111 [(5,59,(vW ((x.get 0).toNat)))] 1 (zr hT111 6 (vW ((rr (x.get 0) 22).toNat)) (zcv (f:=145) (args:= #[(vW ((x.get 0).toNat)),(vI 22)]) (fun w' hC=>zd3 (x.get 0) 22 _ (by decide) (by decide))) (zr hT111 7 (vW ((((rr (x.get 0) 2)^^^(rr (x.get 0) 13))^^^(rr (x.get 0) 22)).toNat)) (zac .u32 _ (zcs ((rr (x.get 0) 2)^^^(rr (x.get 0) 13)) (rr (x.get 0) 22))) (ze hT111 [(8,62,(vW ((x.get 0).toNat)))] 1 (zr hT111 9 (vP w5.heap.size 1) (zai (Instr.indexAt 168 (vP w5.heap.size 0) (vI 1)) (fun w' hC=>za8 (E:=53) (sz:=1) (m:=8))) ?_)))))))))
  have hK4:=(((hD.ext hEw8).ext hEw9).ext hEw10)
  refine zx hT111 10 w5.heap.size 1 (fun w' hC=>((hK4.ext hC).cell (za1 1 (by omega)))) (zr hT111 11 (vW (((x.get 0)&&&(x.get 1)).toNat)) (zac .u32 _ (zeO (x.get 0) (x.get 1))) (ze hT111 [(12,66,(vW ((x.get 0).toNat)))] 1 (zr hT111 13 (vP w5.heap.size 2) (zai (Instr.indexAt 168 (vP w5.heap.size 0) (vI 2)) (fun w' hC=>za8 (E:=53) (sz:=1) (m:=8))) (zx hT111 14 w5.heap.size 2 (fun w' hC=>((hK4.ext hC).cell (za1 2 (by omega)))) (zr hT111 15 (vW (((x.get 0)&&&(x.get 2)).toNat)) (zac .u32 _ (zeO (x.get 0) (x.get 2))) (zr hT111 16 (vW ((((x.get 0)&&&(x.get 1))^^^((x.get 0)&&&(x.get 2))).toNat)) (zac .u32 _ (zcs ((x.get 0)&&&(x.get 1)) ((x.get 0)&&&(x.get 2)))) (zr hT111 17 (vP w5.heap.size 1) (zai (Instr.indexAt 168 (vP w5.heap.size 0) (vI 1)) (fun w' hC=>za8 (E:=53) (sz:=1) (m:=8))) (zx hT111 18 w5.heap.size 1 (fun w' hC=>((hK4.ext hC).cell (za1 1 (by omega)))) (zr hT111 19 (vP w5.heap.size 2) (zai (Instr.indexAt 168 (vP w5.heap.size 0) (vI 2)) (fun w' hC=>za8 (E:=53) (sz:=1) (m:=8))) ?_)))))))))
  refine zx hT111 20 w5.heap.size 2 (fun w' hC=>((hK4.ext hC).cell (za1 2 (by omega)))) (zr hT111 21 (vW (((x.get 1)&&&(x.get 2)).toNat)) (zac .u32 _ (zeO (x.get 1) (x.get 2))) (zr hT111 22 (vW (((((x.get 0)&&&(x.get 1))^^^((x.get 0)&&&(x.get 2)))^^^((x.get 1)&&&(x.get 2))).toNat)) (zac .u32 _ (zcs (((x.get 0)&&&(x.get 1))^^^((x.get 0)&&&(x.get 2))) ((x.get 1)&&&(x.get 2)))) (zr hT111 23 (vW (((((rr (x.get 0) 2)^^^(rr (x.get 0) 13))^^^(rr (x.get 0) 22))+((((x.get 0)&&&(x.get 1))^^^((x.get 0)&&&(x.get 2)))^^^((x.get 1)&&&(x.get 2)))).toNat)) (zac .u32 _ (zbs (((rr (x.get 0) 2)^^^(rr (x.get 0) 13))^^^(rr (x.get 0) 22)) ((((x.get 0)&&&(x.get 1))^^^((x.get 0)&&&(x.get 2)))^^^((x.get 1)&&&(x.get 2))))) (ze hT111 [(24,12,(vW (((((rr (x.get 0) 2)^^^(rr (x.get 0) 13))^^^(rr (x.get 0) 22))+((((x.get 0)&&&(x.get 1))^^^((x.get 0)&&&(x.get 2)))^^^((x.get 1)&&&(x.get 2)))).toNat)))] 1 (zB (zc (zg (zb 2 [(79,(vW (((((rr (x.get 0) 2)^^^(rr (x.get 0) 13))^^^(rr (x.get 0) 22))+((((x.get 0)&&&(x.get 1))^^^((x.get 0)&&&(x.get 2)))^^^((x.get 1)&&&(x.get 2)))).toNat))),(78,(vW ((((((x.get 7)+(((rr (x.get 4) 6)^^^(rr (x.get 4) 11))^^^(rr (x.get 4) 25)))+(((x.get 4)&&&(x.get 5))^^^((~~~(x.get 4))&&&(x.get 6))))+(kA.get t))+((zA b.l 64).get t)).toNat)))] ?_))))))))
  refine za (zae (some 80) .u32 (IntKind.u32.wrap ((((((((x.get 7)+(((rr (x.get 4) 6)^^^(rr (x.get 4) 11))^^^(rr (x.get 4) 25)))+(((x.get 4)&&&(x.get 5))^^^((~~~(x.get 4))&&&(x.get 6))))+(kA.get t))+((zA b.l 64).get t)).toNat:Nat):Int)+((((((rr (x.get 0) 2)^^^(rr (x.get 0) 13))^^^(rr (x.get 0) 22))+((((x.get 0)&&&(x.get 1))^^^((x.get 0)&&&(x.get 2)))^^^((x.get 1)&&&(x.get 2)))).toNat:Nat):Int))) (((((((x.get 7)+(((rr (x.get 4) 6)^^^(rr (x.get 4) 11))^^^(rr (x.get 4) 25)))+(((x.get 4)&&&(x.get 5))^^^((~~~(x.get 4))&&&(x.get 6))))+(kA.get t))+((zA b.l 64).get t))+((((rr (x.get 0) 2)^^^(rr (x.get 0) 13))^^^(rr (x.get 0) 22))+((((x.get 0)&&&(x.get 1))^^^((x.get 0)&&&(x.get 2)))^^^((x.get 1)&&&(x.get 2))))).toNat) (zbs (((((x.get 7)+(((rr (x.get 4) 6)^^^(rr (x.get 4) 11))^^^(rr (x.get 4) 25)))+(((x.get 4)&&&(x.get 5))^^^((~~~(x.get 4))&&&(x.get 6))))+(kA.get t))+((zA b.l 64).get t)) ((((rr (x.get 0) 2)^^^(rr (x.get 0) 13))^^^(rr (x.get 0) 22))+((((x.get 0)&&&(x.get 1))^^^((x.get 0)&&&(x.get 2)))^^^((x.get 1)&&&(x.get 2))))) ?_)
  refine za (zaN (Instr.indexAt 168 (vP w5.heap.size 0) (vI 0)) (vP w5.heap.size 0) (za8 (E:=53) (sz:=1) (m:=8)) ?_)
  refine za (zm w5.heap.size 0 (hK4.cell (za1 0 (by omega))) ?_)
  refine za (zaN (Instr.indexAt 168 (vP w5.heap.size 0) (vI 1)) (vP w5.heap.size 1) (za8 (E:=53) (sz:=1) (m:=8)) ?_)
  refine za (zm w5.heap.size 1 (hK4.cell (za1 1 (by omega))) ?_)
  refine za (zaN (Instr.indexAt 168 (vP w5.heap.size 0) (vI 2)) (vP w5.heap.size 2) (za8 (E:=53) (sz:=1) (m:=8)) ?_)
  refine za (zm w5.heap.size 2 (hK4.cell (za1 2 (by omega))) ?_)
  refine za (zaN (Instr.indexAt 168 (vP w5.heap.size 0) (vI 3)) (vP w5.heap.size 3) (za8 (E:=53) (sz:=1) (m:=8)) ?_)
  refine za (zm w5.heap.size 3 (hK4.cell (za1 3 (by omega))) ?_)
  refine zb 1 [(89,(vW ((((((x.get 7)+(((rr (x.get 4) 6)^^^(rr (x.get 4) 11))^^^(rr (x.get 4) 25)))+(((x.get 4)&&&(x.get 5))^^^((~~~(x.get 4))&&&(x.get 6))))+(kA.get t))+((zA b.l 64).get t)).toNat)))] (za (zae (some 90) .u32 (IntKind.u32.wrap ((((x.get 3).toNat:Nat):Int)+(((((((x.get 7)+(((rr (x.get 4) 6)^^^(rr (x.get 4) 11))^^^(rr (x.get 4) 25)))+(((x.get 4)&&&(x.get 5))^^^((~~~(x.get 4))&&&(x.get 6))))+(kA.get t))+((zA b.l 64).get t)).toNat:Nat):Int))) (((x.get 3)+(((((x.get 7)+(((rr (x.get 4) 6)^^^(rr (x.get 4) 11))^^^(rr (x.get 4) 25)))+(((x.get 4)&&&(x.get 5))^^^((~~~(x.get 4))&&&(x.get 6))))+(kA.get t))+((zA b.l 64).get t))).toNat) (zbs (x.get 3) (((((x.get 7)+(((rr (x.get 4) 6)^^^(rr (x.get 4) 11))^^^(rr (x.get 4) 25)))+(((x.get 4)&&&(x.get 5))^^^((~~~(x.get 4))&&&(x.get 6))))+(kA.get t))+((zA b.l 64).get t))) ?_))
  refine za (zaN (Instr.indexAt 168 (vP w5.heap.size 0) (vI 4)) (vP w5.heap.size 4) (za8 (E:=53) (sz:=1) (m:=8)) ?_)
  refine za (zm w5.heap.size 4 (hK4.cell (za1 4 (by omega))) ?_)
  refine za (zaN (Instr.indexAt 168 (vP w5.heap.size 0) (vI 5)) (vP w5.heap.size 5) (za8 (E:=53) (sz:=1) (m:=8)) ?_)
  refine za (zm w5.heap.size 5 (hK4.cell (za1 5 (by omega))) ?_)
  refine za (zaN (Instr.indexAt 168 (vP w5.heap.size 0) (vI 6)) (vP w5.heap.size 6) (za8 (E:=53) (sz:=1) (m:=8)) ?_)
  refine za (zm w5.heap.size 6 (hK4.cell (za1 6 (by omega))) ?_)
  refine zb 1 [(97,(vA (w8C ⟨[((((((x.get 7)+(((rr (x.get 4) 6)^^^(rr (x.get 4) 11))^^^(rr (x.get 4) 25)))+(((x.get 4)&&&(x.get 5))^^^((~~~(x.get 4))&&&(x.get 6))))+(kA.get t))+((zA b.l 64).get t))+((((rr (x.get 0) 2)^^^(rr (x.get 0) 13))^^^(rr (x.get 0) 22))+((((x.get 0)&&&(x.get 1))^^^((x.get 0)&&&(x.get 2)))^^^((x.get 1)&&&(x.get 2))))),(x.get 0),(x.get 1),(x.get 2),((x.get 3)+(((((x.get 7)+(((rr (x.get 4) 6)^^^(rr (x.get 4) 11))^^^(rr (x.get 4) 25)))+(((x.get 4)&&&(x.get 5))^^^((~~~(x.get 4))&&&(x.get 6))))+(kA.get t))+((zA b.l 64).get t))),(x.get 4),(x.get 5),(x.get 6)],rfl⟩)))] ?_
  refine za (zC 168 w5.heap.size 0 168 (vA (w8C ⟨[((((((x.get 7)+(((rr (x.get 4) 6)^^^(rr (x.get 4) 11))^^^(rr (x.get 4) 25)))+(((x.get 4)&&&(x.get 5))^^^((~~~(x.get 4))&&&(x.get 6))))+(kA.get t))+((zA b.l 64).get t))+((((rr (x.get 0) 2)^^^(rr (x.get 0) 13))^^^(rr (x.get 0) 22))+((((x.get 0)&&&(x.get 1))^^^((x.get 0)&&&(x.get 2)))^^^((x.get 1)&&&(x.get 2))))),(x.get 0),(x.get 1),(x.get 2),((x.get 3)+(((((x.get 7)+(((rr (x.get 4) 6)^^^(rr (x.get 4) 11))^^^(rr (x.get 4) 25)))+(((x.get 4)&&&(x.get 5))^^^((~~~(x.get 4))&&&(x.get 6))))+(kA.get t))+((zA b.l 64).get t))),(x.get 4),(x.get 5),(x.get 6)],rfl⟩)) (w8C x) (w8C ⟨[((((((x.get 7)+(((rr (x.get 4) 6)^^^(rr (x.get 4) 11))^^^(rr (x.get 4) 25)))+(((x.get 4)&&&(x.get 5))^^^((~~~(x.get 4))&&&(x.get 6))))+(kA.get t))+((zA b.l 64).get t))+((((rr (x.get 0) 2)^^^(rr (x.get 0) 13))^^^(rr (x.get 0) 22))+((((x.get 0)&&&(x.get 1))^^^((x.get 0)&&&(x.get 2)))^^^((x.get 1)&&&(x.get 2))))),(x.get 0),(x.get 1),(x.get 2),((x.get 3)+(((((x.get 7)+(((rr (x.get 4) 6)^^^(rr (x.get 4) 11))^^^(rr (x.get 4) 25)))+(((x.get 4)&&&(x.get 5))^^^((~~~(x.get 4))&&&(x.get 6))))+(kA.get t))+((zA b.l 64).get t))),(x.get 4),(x.get 5),(x.get 6)],rfl⟩) hK4 (by rw [zbV];kernel_rfl) (by first |(simp;done)|(simp;omega)) (zd7 _) ?_)
  intro w11 hBw11 hCw11
  have hzw11:=hCw11.size
  rw [show (zZ (w8C x) 0 (w8C ⟨[((((((x.get 7)+(((rr (x.get 4) 6)^^^(rr (x.get 4) 11))^^^(rr (x.get 4) 25)))+(((x.get 4)&&&(x.get 5))^^^((~~~(x.get 4))&&&(x.get 6))))+(kA.get t))+((zA b.l 64).get t))+((((rr (x.get 0) 2)^^^(rr (x.get 0) 13))^^^(rr (x.get 0) 22))+((((x.get 0)&&&(x.get 1))^^^((x.get 0)&&&(x.get 2)))^^^((x.get 1)&&&(x.get 2))))),(x.get 0),(x.get 1),(x.get 2),((x.get 3)+(((((x.get 7)+(((rr (x.get 4) 6)^^^(rr (x.get 4) 11))^^^(rr (x.get 4) 25)))+(((x.get 4)&&&(x.get 5))^^^((~~~(x.get 4))&&&(x.get 6))))+(kA.get t))+((zA b.l 64).get t))),(x.get 4),(x.get 5),(x.get 6)],rfl⟩):List Value)=w8C (rnd x (kA.get t) ((zA b.l 64).get t)) from (zv _ _ (by simp)).trans rfl] at hBw11
  refine zq (zi (zc (zg (za (zJ 98 t 1 (t+1) ?_)))))
  refine zb 1 [(18,(vI (t+1)))] (zq (zn ?_))
  have hK5:=((((hA.ext hEw8).ext hEw9).ext hEw10).chg hCw11)
  have hK6:=((((hB.ext hEw8).ext hEw9).ext hEw10).chg hCw11)
  have hK7:=((((hZ4.ext hEw8).ext hEw9).ext hEw10).chg hCw11)
  have hX2:Ext w w11:=(Ext.own (((hEl.trans hEw8).trans hEw9).trans hEw10) hCw11 (by omega))
  refine zG (t+1,rnd x (kA.get t) ((zA b.l 64).get t)) ?_ ?_
  ·exact ⟨by omega,by rw [zfd,←hx],hK5,hK6,hBw11,hK7,hX2⟩
  ·first | omega |(dsimp only;omega)
 ·refine wEt (zd (zf (zP (zo (zo (zD (zc (zd ?_))))))))
  refine wsr (zb 1 [(99,(vI 0))] (wEt (zp ?_)))
  obtain rfl:t=64:=by omega
  refine zU (X:=Nat) (fun i=> [(99,(vI i))]) [13,100,101,102,103,104,105,106,107,108,109,110] (fun i w12=>i≤8∧Blk w12 w.heap.size (w8C (zdA h x i)) 168∧Blk w12 w5.heap.size (w8C x) 168∧Blk w12 w2.heap.size (w8C (WA.zero 8)) 168∧Ext w w12) (fun i=>8-i) 0 (by kernel_rfl) ⟨by omega,(zqA h x).symm▸hA,hD,hZ4,hEl⟩ ?_
  rintro i dw12 w12 ⟨hi,hA2,hD2,hZ42,hEm⟩
  have hzm:=hEm.size
  have hlthA2:=hA2.lt
  have hlthD2:=hD2.lt
  have hlthZ42:=hZ42.lt
  refine wsr (za (zag 100 i 8 (fun hc100=> ?_) (fun hc100=> ?_)))
  ·refine wEt (zd (zk (zl (zc (zd (zp (wsr ?_)))))))
   refine zb 2 [(13,(vI i)),(101,(vI i))] (wEt (zY 9 (fun w13 hEw13 hzw13 hT218=> ?_)))
   refine ze hT218 [(0,102,(vI i))] 1 (zaP hT218 1 w.heap.size 0 i 8 1 (zx hT218 2 w.heap.size (0+i*1) (fun w' hC=>(((hA2.ext hEw13).ext hC).cell (za1 i (by omega)))) (ze hT218 [(3,105,(vI i))] 1 (zaP hT218 4 w5.heap.size 0 i 8 1 (zx hT218 5 w5.heap.size (0+i*1) (fun w' hC=>(((hD2.ext hEw13).ext hC).cell (za1 i (by omega)))) (zr hT218 6 (vW ((((zdA h x i).get i)+(x.get i)).toNat)) (zac .u32 _ (zbs ((zdA h x i).get i) (x.get i))) (zaP hT218 7 w.heap.size 0 i 8 1 (zy 8 (zah 53 w.heap.size (0+i*1) 168 (vW ((((zdA h x i).get i)+(x.get i)).toNat)) (w8C (zdA h x i)) (hA2.ext hEw13) (by first | decide |(simp;done)|(simp;omega)) ?_)))))))))
   intro w14 hBw14 hCw14
   have hzw14:=hCw14.size
   rw [show ((w8C (zdA h x i)).set (0+i*1) (vW ((((zdA h x i).get i)+(x.get i)).toNat)):List Value)=w8C ((zdA h x i).set i (((zdA h x i).get i)+(x.get i))) from zuy i (((zdA h x i).get i)+(x.get i))] at hBw14
   refine ⟨.inl (by kernel_rfl), ?_⟩
   refine zB (zi (zc (zg (za (zJ 110 i 1 (i+1) ?_)))))
   refine zb 1 [(99,(vI (i+1)))] (zq (zn (zG (i+1) ?_ ?_)))
   ·exact ⟨by omega,zo8 (h:=h) (x:=x) (i:=i) (by omega)▸hBw14,((hD2.ext hEw13).chg hCw14),((hZ42.ext hEw13).chg hCw14),(Ext.own (hEm.trans hEw13) hCw14 (by omega))⟩
   ·first | omega |(dsimp only;omega)
  ·refine wEt (zd (zf (zP (zo (zo (zD (zc (zd ?_))))))))
   refine zg (za (zQ w.heap.size 0 (hA2.all) (zbV _) ?_))
   refine za (zC 168 w2.heap.size 0 168 (vA (w8C (zdA h x i))) (w8C (WA.zero 8)) (w8C (zdA h x i)) hZ42 (by rw [zbV];kernel_rfl) (by first |(simp;done)|(simp;omega)) (zd7 _) ?_)
   intro w15 hBw15 hCw15
   have hzw15:=hCw15.size
   rw [zv _ _ (by simp)] at hBw15
   refine zF (zaR (show zO Tryz.prog 112 _ _ (.cell 4 168) (vA (w8C (zdA h x i))) from ⟨⟨w2.heap.size,0,none⟩,(by kernel_rfl),zE (T:=168) (vs:=w8C (zdA h x i)) (hBw15).all (by rw [zbV];kernel_rfl)⟩) ?_)
   obtain rfl:i=8:=by omega
   exact ⟨by rw [hx];rfl,(Ext.own hEm hCw15 (by omega))⟩
end Go.Proofs.YtkmhgepdhilllaaGreatDoor
namespace Go.Proofs.YtkmhgepdhilllaaGreatDoor
open Go Go.RowKit Go.Cs
set_option maxRecDepth 100000
theorem zlK (w:World):
  Calls Tryz.prog 100 #[] w (Ret fun r w'=>r=(.tuple #[(vA (zas kA)),(vA (w8C zaV))])∧Ext w w'):=by
 refine zw (n:=4) (σ:= []) Tryz.func100 rfl ?_
 refine wsr (za (zad (zas (WA.zero 64)) 167 ?_))
 intro w1 hBw1 hEw1 hzw1 hlw1
 refine za (zad (w8C (WA.zero 8)) 168 ?_)
 intro w2 hBw2 hEw2 hzw2 hlw2
 refine zz (zb 2 [(3,(vA (w8C zaV))),(2,(vA (zas kA)))] (za (zC 167 w.heap.size 0 167 (vA (zas kA)) (zas (WA.zero 64)) (zas kA) (hBw1.ext hEw2) (by rw [zdW];kernel_rfl) (by first |(simp;done)|(simp;omega)) (zgv _) ?_)))
 intro w3 hBw3 hCw3
 have hzw3:=hCw3.size
 rw [zv _ _ (by simp)] at hBw3
 refine za (zC 168 w1.heap.size 0 168 (vA (w8C zaV)) (w8C (WA.zero 8)) (w8C zaV) (hBw2.chg hCw3) (by rw [zbV];kernel_rfl) (by first |(simp;done)|(simp;omega)) (zd7 _) ?_)
 intro w4 hBw4 hCw4
 have hzw4:=hCw4.size
 rw [zv _ _ (by simp)] at hBw4
 refine zF (zaQ (show zO Tryz.prog 4 _ _ (.cell 0 167) (vA (zas kA)) from ⟨⟨w.heap.size,0,none⟩,(by kernel_rfl),zE (T:=167) (vs:=zas kA) ((hBw3.chg hCw4)).all (by rw [zdW];kernel_rfl)⟩) (show zO Tryz.prog 4 _ _ (.cell 1 168) (vA (w8C zaV)) from ⟨⟨w1.heap.size,0,none⟩,(by kernel_rfl),zE (T:=168) (vs:=w8C zaV) (hBw4).all (by rw [zbV];kernel_rfl)⟩) ?_)
 have hX1:Ext w w4:=(Ext.own (Ext.own (hEw1.trans hEw2) hCw3 (by omega)) hCw4 (by omega))
 exact ⟨rfl,hX1⟩
theorem ztk (h:(WA 8)) {lo_b hi_b:Nat} {a_b:Option Addr} {n_b c_b:Nat} {b:List UInt8} (w:World) (h_b:Bs lo_b hi_b w a_b n_b c_b b) (hp0:n_b=64):
  Calls Tryz.prog 101 #[(vA (w8C h)),(.slice a_b n_b c_b)] w (Ret fun r w'=>r=(vA (w8C (zfp h b)))∧Ext w w'):=by
 refine zw (n:=202) (σ:= [(0,(vA (w8C h))),(1,(.slice a_b n_b c_b))]) Tryz.func101 rfl ?_
 replace h_b:=h_b.now;have hle_b:=h_b.le
 refine wsr (za (zS (Instr.box 168 (vA (w8C h))) (vP w.heap.size 0) (w8C h) 168 ?_))
 intro w1 hBw1 hEw1 hzw1 hlw1
 refine za (zad (w8C (WA.zero 8)) 168 ?_)
 intro w2 hBw2 hEw2 hzw2 hlw2
 refine zz (za (zt (zlK _) ?_))
 rintro _ w3 ⟨rfl,hEw3⟩
 have hzw3:=hEw3.size
 refine zb 3 [(29,(vA (w8C zaV))),(28,(vA (zas kA))),(26,(.tuple #[(vA (zas kA)),(vA (w8C zaV))]))] (za (zad (zas (WA.zero 64)) 167 ?_))
 intro w4 hBw4 hEw4 hzw4 hlw4
 refine za (zad (w8C (WA.zero 8)) 168 ?_)
 intro w5 hBw5 hEw5 hzw5 hlw5
 refine za (zC 167 w3.heap.size 0 167 (vA (zas kA)) (zas (WA.zero 64)) (zas kA) (hBw4.ext hEw5) (by rw [zdW];kernel_rfl) (by first |(simp;done)|(simp;omega)) (zgv _) ?_)
 intro w6 hBw6 hCw6
 have hzw6:=hCw6.size
 rw [zv _ _ (by simp)] at hBw6
 refine za (zC 168 w4.heap.size 0 168 (vA (w8C zaV)) (w8C (WA.zero 8)) (w8C zaV) (hBw5.chg hCw6) (by rw [zbV];kernel_rfl) (by first |(simp;done)|(simp;omega)) (zd7 _) ?_)
 intro w7 hBw7 hCw7
 have hzw7:=hCw7.size
 rw [zv _ _ (by simp)] at hBw7
 refine zz (za (zad (zas (WA.zero 64)) 167 ?_))
 intro w8 hBw8 hEw8 hzw8 hlw8
 refine zM (zb 1 [(8,(vI 0))] (wEt (zp ?_)))
 have hK1:=(((((((hBw1.ext hEw2).ext hEw3).ext hEw4).ext hEw5).chg hCw6).chg hCw7).ext hEw8)
 have hK2:=((((((hBw2.ext hEw3).ext hEw4).ext hEw5).chg hCw6).chg hCw7).ext hEw8)
 have hX1:Ext w w8:=((Ext.own (Ext.own ((((hEw1.trans hEw2).trans hEw3).trans hEw4).trans hEw5) hCw6 (by omega)) hCw7 (by omega)).trans hEw8)
 refine zU (X:=Nat) (fun t=> [(8,(vI t))]) [9,10,11,12,30,31,32,33,34,35,36,37,38,39,40,41,42,43,44,45,46,47,48,49,50,51,52,53,54,55,56,57,58,59,60,61,62,63,64,65,66,67,68,69,70,71,72,73,74,75,76,77,78,79,80,81,82,83,84,85,86,87] (fun t w9=>t≤64∧Blk w9 w.heap.size (w8C h) 168∧Blk w9 w7.heap.size (zas (zA b t)) 167∧Blk w9 w3.heap.size (zas kA) 167∧Blk w9 w1.heap.size (w8C (WA.zero 8)) 168∧Ext w w9) (fun t=>64-t) 0 (by kernel_rfl) ⟨by omega,hK1,hBw8,((hBw6.chg hCw7).ext hEw8),hK2,hX1⟩ ?_
 rintro t dw9 w9 ⟨ht,hA,hB,hK,hZ4,hEl⟩
 have hzl:=hEl.size
 have hlb:=h_b.len_eq
 have hlthA:=hA.lt
 have hlthB:=hB.lt
 have hlthK:=hK.lt
 have hlthZ4:=hZ4.lt
 refine zd (wsr (zb 1 [(30,(vI t))] (za (zag 31 t 64 (fun hc31=> ?_) (fun hc31=> ?_)))))
 ·refine wEt (zk (zl (zc (zd (zp (zd (wsr ?_)))))))
  refine zb 1 [(34,(vI t))] (za (zag 35 t 16 (fun hc35=> ?_) (fun hc35=> ?_)))
  ·refine wEt (zk (wsr (zb 2 [(38,(vI t)),(37,(.slice a_b n_b c_b))] (za (zcg 39 4 t (4*t) ?_)))))
   refine zb 1 [(40,(vI t))] (za (zcg 41 4 t (4*t) ?_))
   refine za (zJ 42 (4*t) 4 (4*t+4) ?_)
   obtain ⟨a1,hR1,hS1⟩:=(h_b.ext hEl).slice Tryz.prog 23 5 (4*t) (4*t+4) c_b (some (vI (4*t))) (some (vI (4*t+4))) none
   refine za (zaN (Instr.sliceAt 23 (.slice a_b n_b c_b) (some (vI (4*t))) (some (vI (4*t+4))) none) (.slice a1 (4*t+4-(4*t)) (c_b-(4*t))) (hR1 _) ?_)
   refine za (zt (zvT 4 _ hS1 (by first | omega | decide)) ?_)
   rintro _ _ ⟨rfl,rfl⟩
   refine zb 5 [(10,(vI (zcU ((b.drop (4*t)).take (4*t+4-(4*t))) 4))),(9,(vQ (za6 ((b.drop (4*t)).take (4*t+4-(4*t))) 4))),(46,(vI (zcU ((b.drop (4*t)).take (4*t+4-(4*t))) 4))),(45,(vQ (za6 ((b.drop (4*t)).take (4*t+4-(4*t))) 4))),(36,(.tuple #[(vQ (za6 ((b.drop (4*t)).take (4*t+4-(4*t))) 4)),(vI (zcU ((b.drop (4*t)).take (4*t+4-(4*t))) 4))]))] (zz (zb 2 [(48,(vQ (za6 ((b.drop (4*t)).take (4*t+4-(4*t))) 4))),(47,(vI t))] (za (zae (some 49) .u32 (IntKind.u32.wrap ((za6 ((b.drop (4*t)).take (4*t+4-(4*t))) 4:Nat):Int)) ((UInt32.ofNat (za6 ((b.drop (4*t)).take 4) 4)).toNat) (by rw [show 4*t+4-4*t=4 from by omega,UInt32.toNat_ofNat',Nat.mod_eq_of_lt (zd2 _ 4)];exact zbF rfl rfl (show _<2^32 from zd2 _ 4)) ?_))))
   refine za (zaW w7.heap.size 0 t 64 1 ?_)
   refine za (zah 53 w7.heap.size (0+t*1) 167 (vW ((UInt32.ofNat (za6 ((b.drop (4*t)).take 4) 4)).toNat)) (zas (zA b t)) hB (by first | decide |(simp;done)|(simp;omega)) ?_)
   intro w10 hBw10 hCw10
   have hzw10:=hCw10.size
   rw [show ((zas (zA b t)).set (0+t*1) (vW ((UInt32.ofNat (za6 ((b.drop (4*t)).take 4) 4)).toNat)):List Value)=zas ((zA b t).set t (UInt32.ofNat (za6 ((b.drop (4*t)).take 4) 4))) from zit t (UInt32.ofNat (za6 ((b.drop (4*t)).take 4) 4))] at hBw10
   refine wEt (zP (zo (zD (zc (zg (zb 1 [(32,(vI t))] (za (zJ 33 t 1 (t+1) ?_))))))))
   refine zb 1 [(8,(vI (t+1)))] (zq (zn (zG (t+1) ?_ ?_)))
   ·exact ⟨by omega,(hA.chg hCw10),by have hz:=hBw10;rwa [show (zA b t).set t _=zA b (t+1) from zmH (by omega) rfl] at hz,(hK.chg hCw10),(hZ4.chg hCw10),(Ext.own hEl hCw10 (by omega))⟩
   ·first | omega |(dsimp only;omega)
  ·refine wEt (zf (zl (zc (zd (zY 10 (fun w11 hEw11 hzw11 hT139=> ?_))))))
   refine ze hT139 [(0,51,(vI t))] 1 (zr hT139 1 (vI (t-15)) (zac .i64 (IntKind.i64.wrap (((t:Nat):Int)-((15:Nat):Int))) (zao)) (zaP hT139 2 w7.heap.size 0 (t-15) 64 1 (zx hT139 3 w7.heap.size (0+(t-15)*1) (fun w' hC=>(((hB.ext hEw11).ext hC).cell (zc6 (t-15) (by omega)))) (ze hT139 [(4,55,(vI t))] 1 (zr hT139 5 (vI (t-2)) (zac .i64 (IntKind.i64.wrap (((t:Nat):Int)-((2:Nat):Int))) (zao)) (zaP hT139 6 w7.heap.size 0 (t-2) 64 1 (zx hT139 7 w7.heap.size (0+(t-2)*1) (fun w' hC=>(((hB.ext hEw11).ext hC).cell (zc6 (t-2) (by omega)))) (ze hT139 [(8,11,(vW (((zA b t).get (t-15)).toNat))),(9,12,(vW (((zA b t).get (t-2)).toNat)))] 2 (zB ?_)))))))))
   refine zc (zY 30 (fun w12 hEw12 hzw12 hT151=> ?_))
   refine ze hT151 [(0,59,(vI t)),(1,60,(vI t))] 2 (zr hT151 2 (vI (t-16)) (zac .i64 (IntKind.i64.wrap (((t:Nat):Int)-((16:Nat):Int))) (zao)) (zaP hT151 3 w7.heap.size 0 (t-16) 64 1 (zx hT151 4 w7.heap.size (0+(t-16)*1) (fun w' hC=>((((hB.ext hEw11).ext hEw12).ext hC).cell (zc6 (t-16) (by omega)))) (ze hT151 [(5,64,(vI t))] 1 (zr hT151 6 (vI (t-7)) (zac .i64 (IntKind.i64.wrap (((t:Nat):Int)-((7:Nat):Int))) (zao)) (zaP hT151 7 w7.heap.size 0 (t-7) 64 1 (zx hT151 8 w7.heap.size (0+(t-7)*1) (fun w' hC=>((((hB.ext hEw11).ext hEw12).ext hC).cell (zc6 (t-7) (by omega)))) (zr hT151 9 (vW ((((zA b t).get (t-16))+((zA b t).get (t-7))).toNat)) (zac .u32 _ (zbs ((zA b t).get (t-16)) ((zA b t).get (t-7)))) (ze hT151 [(10,69,(vW (((zA b t).get (t-15)).toNat))),(12,71,(vW (((zA b t).get (t-15)).toNat))),(15,74,(vW (((zA b t).get (t-15)).toNat)))] 3 ?_)))))))))
   refine zr hT151 16 (vW ((((zA b t).get (t-15))>>>UInt32.ofNat 3).toNat)) (zac .u32 _ (zjx ((zA b t).get (t-15)) 3 (by decide))) (ze hT151 [(19,78,(vW (((zA b t).get (t-2)).toNat))),(21,80,(vW (((zA b t).get (t-2)).toNat))),(24,83,(vW (((zA b t).get (t-2)).toNat)))] 3 (zr hT151 25 (vW ((((zA b t).get (t-2))>>>UInt32.ofNat 10).toNat)) (zac .u32 _ (zjx ((zA b t).get (t-2)) 10 (by decide))) (zy 11 (zt (zd6 ((zA b t).get (t-15)) 7 _ (by decide) (by decide)) ?_))))
   rintro _ w13 ⟨rfl,hEw13⟩
   have hzw13:=hEw13.size
   refine ⟨.inr hEw13, ?_⟩
   refine zy 13 (zt (zd6 ((zA b t).get (t-15)) 18 _ (by decide) (by decide)) ?_)
   rintro _ w14 ⟨rfl,hEw14⟩
   have hzw14:=hEw14.size
   have hX2:Ext w12 w14:=(hEw13.trans hEw14)
   refine ⟨.inr hX2, ?_⟩
   refine zr (hw:=hX2) hT151 14 (vW (((rr ((zA b t).get (t-15)) 7)^^^(rr ((zA b t).get (t-15)) 18)).toNat)) (zac .u32 _ (zcs (rr ((zA b t).get (t-15)) 7) (rr ((zA b t).get (t-15)) 18))) (zr (hw:=hX2) hT151 17 (vW ((((rr ((zA b t).get (t-15)) 7)^^^(rr ((zA b t).get (t-15)) 18))^^^(((zA b t).get (t-15))>>>UInt32.ofNat 3)).toNat)) (zac .u32 _ (zcs ((rr ((zA b t).get (t-15)) 7)^^^(rr ((zA b t).get (t-15)) 18)) (((zA b t).get (t-15))>>>UInt32.ofNat 3))) (zr (hw:=hX2) hT151 18 (vW (((((zA b t).get (t-16))+((zA b t).get (t-7)))+(((rr ((zA b t).get (t-15)) 7)^^^(rr ((zA b t).get (t-15)) 18))^^^(((zA b t).get (t-15))>>>UInt32.ofNat 3))).toNat)) (zac .u32 _ (zbs (((zA b t).get (t-16))+((zA b t).get (t-7))) (((rr ((zA b t).get (t-15)) 7)^^^(rr ((zA b t).get (t-15)) 18))^^^(((zA b t).get (t-15))>>>UInt32.ofNat 3)))) (zy 20 (zt (zd6 ((zA b t).get (t-2)) 17 _ (by decide) (by decide)) ?_))))
   rintro _ w15 ⟨rfl,hEw15⟩
   have hzw15:=hEw15.size
   have hX3:Ext w12 w15:=((hEw13.trans hEw14).trans hEw15)
   refine ⟨.inr hX3, ?_⟩
   refine zy 22 (zt (zd6 ((zA b t).get (t-2)) 19 _ (by decide) (by decide)) ?_)
   rintro _ w16 ⟨rfl,hEw16⟩
   have hzw16:=hEw16.size
   have hX4:Ext w12 w16:=(((hEw13.trans hEw14).trans hEw15).trans hEw16)
   refine ⟨.inr hX4, ?_⟩
   refine zr (hw:=hX4) hT151 23 (vW (((rr ((zA b t).get (t-2)) 17)^^^(rr ((zA b t).get (t-2)) 19)).toNat)) (zac .u32 _ (zcs (rr ((zA b t).get (t-2)) 17) (rr ((zA b t).get (t-2)) 19))) (zr (hw:=hX4) hT151 26 (vW ((((rr ((zA b t).get (t-2)) 17)^^^(rr ((zA b t).get (t-2)) 19))^^^(((zA b t).get (t-2))>>>UInt32.ofNat 10)).toNat)) (zac .u32 _ (zcs ((rr ((zA b t).get (t-2)) 17)^^^(rr ((zA b t).get (t-2)) 19)) (((zA b t).get (t-2))>>>UInt32.ofNat 10))) (zr (hw:=hX4) hT151 27 (vW ((((((zA b t).get (t-16))+((zA b t).get (t-7)))+(((rr ((zA b t).get (t-15)) 7)^^^(rr ((zA b t).get (t-15)) 18))^^^(((zA b t).get (t-15))>>>UInt32.ofNat 3)))+(((rr ((zA b t).get (t-2)) 17)^^^(rr ((zA b t).get (t-2)) 19))^^^(((zA b t).get (t-2))>>>UInt32.ofNat 10))).toNat)) (zac .u32 _ (zbs ((((zA b t).get (t-16))+((zA b t).get (t-7)))+(((rr ((zA b t).get (t-15)) 7)^^^(rr ((zA b t).get (t-15)) 18))^^^(((zA b t).get (t-15))>>>UInt32.ofNat 3))) (((rr ((zA b t).get (t-2)) 17)^^^(rr ((zA b t).get (t-2)) 19))^^^(((zA b t).get (t-2))>>>UInt32.ofNat 10)))) (zaP (hw:=hX4) hT151 28 w7.heap.size 0 t 64 1 ?_)))
   have hK3:=(((hB.ext hEw11).ext hEw12).ext hX4)
   refine zy 29 (zah 53 w7.heap.size (0+t*1) 167 (vW ((((((zA b t).get (t-16))+((zA b t).get (t-7)))+(((rr ((zA b t).get (t-15)) 7)^^^(rr ((zA b t).get (t-15)) 18))^^^(((zA b t).get (t-15))>>>UInt32.ofNat 3)))+(((rr ((zA b t).get (t-2)) 17)^^^(rr ((zA b t).get (t-2)) 19))^^^(((zA b t).get (t-2))>>>UInt32.ofNat 10))).toNat)) (zas (zA b t)) hK3 (by first | decide |(simp;done)|(simp;omega)) ?_)
   have hK4:=(((hB.ext hEw11).ext hEw12).ext hX4)
   intro w17 hBw17 hCw17
   have hzw17:=hCw17.size
   rw [show ((zas (zA b t)).set (0+t*1) (vW ((((((zA b t).get (t-16))+((zA b t).get (t-7)))+(((rr ((zA b t).get (t-15)) 7)^^^(rr ((zA b t).get (t-15)) 18))^^^(((zA b t).get (t-15))>>>UInt32.ofNat 3)))+(((rr ((zA b t).get (t-2)) 17)^^^(rr ((zA b t).get (t-2)) 19))^^^(((zA b t).get (t-2))>>>UInt32.ofNat 10))).toNat)):List Value)=zas ((zA b t).set t (((((zA b t).get (t-16))+((zA b t).get (t-7)))+(((rr ((zA b t).get (t-15)) 7)^^^(rr ((zA b t).get (t-15)) 18))^^^(((zA b t).get (t-15))>>>UInt32.ofNat 3)))+(((rr ((zA b t).get (t-2)) 17)^^^(rr ((zA b t).get (t-2)) 19))^^^(((zA b t).get (t-2))>>>UInt32.ofNat 10)))) from zit t (((((zA b t).get (t-16))+((zA b t).get (t-7)))+(((rr ((zA b t).get (t-15)) 7)^^^(rr ((zA b t).get (t-15)) 18))^^^(((zA b t).get (t-15))>>>UInt32.ofNat 3)))+(((rr ((zA b t).get (t-2)) 17)^^^(rr ((zA b t).get (t-2)) 19))^^^(((zA b t).get (t-2))>>>UInt32.ofNat 10)))] at hBw17
   refine ⟨.inl (by kernel_rfl), ?_⟩
   refine zB (zi (zc (zg (zb 1 [(32,(vI t))] (za (zJ 33 t 1 (t+1) ?_))))))
   refine zb 1 [(8,(vI (t+1)))] (zq (zn ?_))
   have hK5:=((((hA.ext hEw11).ext hEw12).ext hX4).chg hCw17)
   have hK6:=((((hK.ext hEw11).ext hEw12).ext hX4).chg hCw17)
   have hK7:=((((hZ4.ext hEw11).ext hEw12).ext hX4).chg hCw17)
   have hX5:Ext w w17:=(Ext.own (((hEl.trans hEw11).trans hEw12).trans hX4) hCw17 (by omega))
   refine zG (t+1) ?_ ?_
   ·exact ⟨by omega,hK5,by have hz:=hBw17;rwa [show (zA b t).set t _=zA b (t+1) from zl2 (by omega) (by unfold zop zoG;ac_rfl)] at hz,hK6,hK7,hX5⟩
   ·first | omega |(dsimp only;omega)
 ·refine wEt (zf (zP (zo (zo (zD (zc (zd (zY 24 (fun w18 hEw18 hzw18 hT223=> ?_)))))))))
  refine zr hT223 0 (vP w.heap.size 0) (zai (Instr.indexAt 168 (vP w.heap.size 0) (vI 0)) (fun w' hC=>za8 (E:=53) (sz:=1) (m:=8))) (zx hT223 1 w.heap.size 0 (fun w' hC=>(((hA.ext hEw18).ext hC).cell (za1 0 (by omega)))) (zr hT223 2 (vP w.heap.size 1) (zai (Instr.indexAt 168 (vP w.heap.size 0) (vI 1)) (fun w' hC=>za8 (E:=53) (sz:=1) (m:=8))) (zx hT223 3 w.heap.size 1 (fun w' hC=>(((hA.ext hEw18).ext hC).cell (za1 1 (by omega)))) (zr hT223 4 (vP w.heap.size 2) (zai (Instr.indexAt 168 (vP w.heap.size 0) (vI 2)) (fun w' hC=>za8 (E:=53) (sz:=1) (m:=8))) (zx hT223 5 w.heap.size 2 (fun w' hC=>(((hA.ext hEw18).ext hC).cell (za1 2 (by omega)))) (zr hT223 6 (vP w.heap.size 3) (zai (Instr.indexAt 168 (vP w.heap.size 0) (vI 3)) (fun w' hC=>za8 (E:=53) (sz:=1) (m:=8))) (zx hT223 7 w.heap.size 3 (fun w' hC=>(((hA.ext hEw18).ext hC).cell (za1 3 (by omega)))) (zr hT223 8 (vP w.heap.size 4) (zai (Instr.indexAt 168 (vP w.heap.size 0) (vI 4)) (fun w' hC=>za8 (E:=53) (sz:=1) (m:=8))) (zx hT223 9 w.heap.size 4 (fun w' hC=>(((hA.ext hEw18).ext hC).cell (za1 4 (by omega)))) ?_)))))))))
  refine zr hT223 10 (vP w.heap.size 5) (zai (Instr.indexAt 168 (vP w.heap.size 0) (vI 5)) (fun w' hC=>za8 (E:=53) (sz:=1) (m:=8))) (zx hT223 11 w.heap.size 5 (fun w' hC=>(((hA.ext hEw18).ext hC).cell (za1 5 (by omega)))) (zr hT223 12 (vP w.heap.size 6) (zai (Instr.indexAt 168 (vP w.heap.size 0) (vI 6)) (fun w' hC=>za8 (E:=53) (sz:=1) (m:=8))) (zx hT223 13 w.heap.size 6 (fun w' hC=>(((hA.ext hEw18).ext hC).cell (za1 6 (by omega)))) (zr hT223 14 (vP w.heap.size 7) (zai (Instr.indexAt 168 (vP w.heap.size 0) (vI 7)) (fun w' hC=>za8 (E:=53) (sz:=1) (m:=8))) (zx hT223 15 w.heap.size 7 (fun w' hC=>(((hA.ext hEw18).ext hC).cell (za1 7 (by omega)))) (ze hT223 [(16,13,(vW ((h.get 0).toNat))),(17,14,(vW ((h.get 1).toNat))),(18,15,(vW ((h.get 2).toNat))),(19,16,(vW ((h.get 3).toNat))),(20,17,(vW ((h.get 4).toNat))),(21,18,(vW ((h.get 5).toNat))),(22,19,(vW ((h.get 6).toNat))),(23,20,(vW ((h.get 7).toNat)))] 8 (zB (zc (zd ?_)))))))))
  refine wsr (zb 1 [(21,(vI 0))] (wEt (zp ?_)))
  obtain rfl:t=64:=by omega
  refine zU (X:=Nat×WA 8) (fun ⟨i,x⟩=> [(13,(vW ((x.get 0).toNat))),(14,(vW ((x.get 1).toNat))),(15,(vW ((x.get 2).toNat))),(16,(vW ((x.get 3).toNat))),(17,(vW ((x.get 4).toNat))),(18,(vW ((x.get 5).toNat))),(19,(vW ((x.get 6).toNat))),(20,(vW ((x.get 7).toNat))),(21,(vI i))]) [22,23,24,25,104,105,106,107,108,109,110,111,112,113,114,115,116,117,118,119,120,121,122,123,124,125,126,127,128,129,130,131,132,133,134,135,136,137,138,139,140,141,142,143,144,145,146,147,148,149,150,151,152,153,154,155,156,157,158,159,160,161,162,163,164,165,166,167,168] (fun ⟨i,x⟩ w19=>i≤64∧x=zfd h (zA b 64) i∧Blk w19 w.heap.size (w8C h) 168∧Blk w19 w7.heap.size (zas (zA b 64)) 167∧Blk w19 w3.heap.size (zas kA) 167∧Blk w19 w1.heap.size (w8C (WA.zero 8)) 168∧Ext w w19) (fun ⟨i,x⟩=>64-i) (0,h) (by kernel_rfl) ⟨by omega,rfl,(hA.ext hEw18),(hB.ext hEw18),(hK.ext hEw18),(hZ4.ext hEw18),(hEl.trans hEw18)⟩ ?_
  rintro ⟨i,x⟩ dw19 w19 ⟨hi,hx,hA2,hB2,hK2,hZ42,hEm⟩
  have hzm:=hEm.size
  have hlthA2:=hA2.lt
  have hlthB2:=hB2.lt
  have hlthK2:=hK2.lt
  have hlthZ42:=hZ42.lt
  refine zd (wsr (zb 1 [(104,(vI i))] (za (zag 105 i 64 (fun hc105=> ?_) (fun hc105=> ?_)))))
  ·refine wEt (zk (zl (zc (zd (zp (wsr (zb 2 [(109,(vW ((x.get 5).toNat))),(108,(vW ((x.get 4).toNat)))] ?_)))))))
   refine za (zae (some 110) .u32 ((IntKind.u32.wrap ((BitVec.ofInt IntKind.u32.bits (((x.get 4).toNat:Nat):Int)&&&BitVec.ofInt IntKind.u32.bits (((x.get 5).toNat:Nat):Int)).toNat:Int))) (((x.get 4)&&&(x.get 5)).toNat) (zeO (x.get 4) (x.get 5)) ?_)
   refine zb 1 [(111,(vW ((x.get 4).toNat)))] (za (zae (some 112) .u32 (IntKind.u32.wrap ((BitVec.ofInt IntKind.u32.bits (if IntKind.u32.signed then-1 else IntKind.u32.max)^^^BitVec.ofInt IntKind.u32.bits (((x.get 4).toNat:Nat):Int)).toNat:Int)) ((~~~(x.get 4)).toNat) (zpH (x.get 4)) ?_))
   refine zb 1 [(113,(vW ((x.get 6).toNat)))] (za (zae (some 114) .u32 ((IntKind.u32.wrap ((BitVec.ofInt IntKind.u32.bits (((~~~(x.get 4)).toNat:Nat):Int)&&&BitVec.ofInt IntKind.u32.bits (((x.get 6).toNat:Nat):Int)).toNat:Int))) (((~~~(x.get 4))&&&(x.get 6)).toNat) (zeO (~~~(x.get 4)) (x.get 6)) ?_))
   refine za (zae (some 115) .u32 ((IntKind.u32.wrap ((BitVec.ofInt IntKind.u32.bits (((x.get 4&&&x.get 5).toNat:Nat):Int)||| BitVec.ofInt IntKind.u32.bits (((~~~(x.get 4)&&&x.get 6).toNat:Nat):Int)).toNat:Int))) ((((x.get 4&&&x.get 5)^^^(~~~(x.get 4)&&&x.get 6))).toNat) ((zoa _ _).trans (by rw [zwC])) ?_)
   refine zb 1 [(22,(vW ((((x.get 4&&&x.get 5)^^^(~~~(x.get 4)&&&x.get 6))).toNat)))] (zz (zb 2 [(117,(vW ((x.get 1).toNat))),(116,(vW ((x.get 0).toNat)))] (za (zae (some 118) .u32 ((IntKind.u32.wrap ((BitVec.ofInt IntKind.u32.bits (((x.get 0).toNat:Nat):Int)&&&BitVec.ofInt IntKind.u32.bits (((x.get 1).toNat:Nat):Int)).toNat:Int))) (((x.get 0)&&&(x.get 1)).toNat) (zeO (x.get 0) (x.get 1)) ?_))))
   refine zb 2 [(120,(vW ((x.get 2).toNat))),(119,(vW ((x.get 0).toNat)))] (za (zae (some 121) .u32 ((IntKind.u32.wrap ((BitVec.ofInt IntKind.u32.bits (((x.get 0).toNat:Nat):Int)&&&BitVec.ofInt IntKind.u32.bits (((x.get 2).toNat:Nat):Int)).toNat:Int))) (((x.get 0)&&&(x.get 2)).toNat) (zeO (x.get 0) (x.get 2)) ?_))
   refine za (zae (some 122) .u32 ((IntKind.u32.wrap ((BitVec.ofInt IntKind.u32.bits ((((x.get 0)&&&(x.get 1)).toNat:Nat):Int)||| BitVec.ofInt IntKind.u32.bits ((((x.get 0)&&&(x.get 2)).toNat:Nat):Int)).toNat:Int))) ((((x.get 0)&&&(x.get 1))|||((x.get 0)&&&(x.get 2))).toNat) (zoa ((x.get 0)&&&(x.get 1)) ((x.get 0)&&&(x.get 2))) ?_)
   refine zb 2 [(124,(vW ((x.get 2).toNat))),(123,(vW ((x.get 1).toNat)))] (za (zae (some 125) .u32 ((IntKind.u32.wrap ((BitVec.ofInt IntKind.u32.bits (((x.get 1).toNat:Nat):Int)&&&BitVec.ofInt IntKind.u32.bits (((x.get 2).toNat:Nat):Int)).toNat:Int))) (((x.get 1)&&&(x.get 2)).toNat) (zeO (x.get 1) (x.get 2)) ?_))
   refine za (zae (some 126) .u32 ((IntKind.u32.wrap ((BitVec.ofInt IntKind.u32.bits ((((x.get 0&&&x.get 1)|||(x.get 0&&&x.get 2)).toNat:Nat):Int)||| BitVec.ofInt IntKind.u32.bits (((x.get 1&&&x.get 2).toNat:Nat):Int)).toNat:Int))) ((((x.get 0&&&x.get 1)^^^(x.get 0&&&x.get 2)^^^(x.get 1&&&x.get 2))).toNat) ((zoa _ _).trans (by rw [zuF])) ?_)
   refine zb 1 [(23,(vW ((((x.get 0&&&x.get 1)^^^(x.get 0&&&x.get 2)^^^(x.get 1&&&x.get 2))).toNat)))] (wEt (zd (zY 21 (fun w20 hEw20 hzw20 hT296=> ?_))))
   refine ze hT296 [(0,127,(vW ((x.get 7).toNat))),(1,128,(vW ((x.get 4).toNat))),(3,130,(vW ((x.get 4).toNat))),(6,133,(vW ((x.get 4).toNat))),(10,137,(vW ((((x.get 4&&&x.get 5)^^^(~~~(x.get 4)&&&x.get 6))).toNat))),(12,139,(vI i))] 6 (zaP hT296 13 w3.heap.size 0 i 64 1 (zx hT296 14 w3.heap.size (0+i*1) (fun w' hC=>(((hK2.ext hEw20).ext hC).cell (zc6 i (by omega)))) (ze hT296 [(16,143,(vI i))] 1 (zaP hT296 17 w7.heap.size 0 i 64 1 (zx hT296 18 w7.heap.size (0+i*1) (fun w' hC=>(((hB2.ext hEw20).ext hC).cell (zc6 i (by omega)))) (zy 2 (zt (zd6 (x.get 4) 6 _ (by decide) (by decide)) ?_)))))))
   rintro _ w21 ⟨rfl,hEw21⟩
   have hzw21:=hEw21.size
   refine ⟨.inr hEw21, ?_⟩
   refine zy 4 (zt (zd6 (x.get 4) 11 _ (by decide) (by decide)) ?_)
   rintro _ w22 ⟨rfl,hEw22⟩
   have hzw22:=hEw22.size
   have hX6:Ext w20 w22:=(hEw21.trans hEw22)
   refine ⟨.inr hX6, ?_⟩
   refine zr (hw:=hX6) hT296 5 (vW (((rr (x.get 4) 6)^^^(rr (x.get 4) 11)).toNat)) (zac .u32 _ (zcs (rr (x.get 4) 6) (rr (x.get 4) 11))) (zy 7 (zt (zd6 (x.get 4) 25 _ (by decide) (by decide)) ?_))
   rintro _ w23 ⟨rfl,hEw23⟩
   have hzw23:=hEw23.size
   have hX7:Ext w20 w23:=((hEw21.trans hEw22).trans hEw23)
   refine ⟨.inr hX7, ?_⟩
   refine zr (hw:=hX7) hT296 8 (vW ((((rr (x.get 4) 6)^^^(rr (x.get 4) 11))^^^(rr (x.get 4) 25)).toNat)) (zac .u32 _ (zcs ((rr (x.get 4) 6)^^^(rr (x.get 4) 11)) (rr (x.get 4) 25))) (zr (hw:=hX7) hT296 9 (vW (((x.get 7)+(((rr (x.get 4) 6)^^^(rr (x.get 4) 11))^^^(rr (x.get 4) 25))).toNat)) (zac .u32 _ (zbs (x.get 7) (((rr (x.get 4) 6)^^^(rr (x.get 4) 11))^^^(rr (x.get 4) 25)))) (zr (hw:=hX7) hT296 11 (vW ((((x.get 7)+(((rr (x.get 4) 6)^^^(rr (x.get 4) 11))^^^(rr (x.get 4) 25)))+(((x.get 4&&&x.get 5)^^^(~~~(x.get 4)&&&x.get 6)))).toNat)) (zac .u32 _ (zbs ((x.get 7)+(((rr (x.get 4) 6)^^^(rr (x.get 4) 11))^^^(rr (x.get 4) 25))) (((x.get 4&&&x.get 5)^^^(~~~(x.get 4)&&&x.get 6))))) (zr (hw:=hX7) hT296 15 (vW (((((x.get 7)+(((rr (x.get 4) 6)^^^(rr (x.get 4) 11))^^^(rr (x.get 4) 25)))+(((x.get 4&&&x.get 5)^^^(~~~(x.get 4)&&&x.get 6))))+(kA.get i)).toNat)) (zac .u32 _ (zbs (((x.get 7)+(((rr (x.get 4) 6)^^^(rr (x.get 4) 11))^^^(rr (x.get 4) 25)))+(((x.get 4&&&x.get 5)^^^(~~~(x.get 4)&&&x.get 6)))) (kA.get i))) (zr (hw:=hX7) hT296 19 (vW ((((((x.get 7)+(((rr (x.get 4) 6)^^^(rr (x.get 4) 11))^^^(rr (x.get 4) 25)))+(((x.get 4&&&x.get 5)^^^(~~~(x.get 4)&&&x.get 6))))+(kA.get i))+((zA b 64).get i)).toNat)) (zac .u32 _ (zbs ((((x.get 7)+(((rr (x.get 4) 6)^^^(rr (x.get 4) 11))^^^(rr (x.get 4) 25)))+(((x.get 4&&&x.get 5)^^^(~~~(x.get 4)&&&x.get 6))))+(kA.get i)) ((zA b 64).get i))) ?_))))
   refine ze (hw:=hX7) hT296 [(20,24,(vW ((((((x.get 7)+(((rr (x.get 4) 6)^^^(rr (x.get 4) 11))^^^(rr (x.get 4) 25)))+(((x.get 4&&&x.get 5)^^^(~~~(x.get 4)&&&x.get 6))))+(kA.get i))+((zA b 64).get i)).toNat)))] 1 (zB (zc (wsr (zb 1 [(147,(vW ((x.get 0).toNat)))] (za (zt (zd6 (x.get 0) 2 _ (by decide) (by decide)) ?_))))))
   rintro _ w24 ⟨rfl,hEw24⟩
   have hzw24:=hEw24.size
   refine zb 1 [(149,(vW ((x.get 0).toNat)))] (za (zt (zd6 (x.get 0) 13 _ (by decide) (by decide)) ?_))
   rintro _ w25 ⟨rfl,hEw25⟩
   have hzw25:=hEw25.size
   refine za (zae (some 151) .u32 ((IntKind.u32.wrap ((BitVec.ofInt IntKind.u32.bits (((rr (x.get 0) 2).toNat:Nat):Int)^^^BitVec.ofInt IntKind.u32.bits (((rr (x.get 0) 13).toNat:Nat):Int)).toNat:Int))) (((rr (x.get 0) 2)^^^(rr (x.get 0) 13)).toNat) (zcs (rr (x.get 0) 2) (rr (x.get 0) 13)) ?_)
   refine zb 1 [(152,(vW ((x.get 0).toNat)))] (za (zt (zd6 (x.get 0) 22 _ (by decide) (by decide)) ?_))
   rintro _ w26 ⟨rfl,hEw26⟩
   have hzw26:=hEw26.size
   refine za (zae (some 154) .u32 ((IntKind.u32.wrap ((BitVec.ofInt IntKind.u32.bits ((((rr (x.get 0) 2)^^^(rr (x.get 0) 13)).toNat:Nat):Int)^^^BitVec.ofInt IntKind.u32.bits (((rr (x.get 0) 22).toNat:Nat):Int)).toNat:Int))) ((((rr (x.get 0) 2)^^^(rr (x.get 0) 13))^^^(rr (x.get 0) 22)).toNat) (zcs ((rr (x.get 0) 2)^^^(rr (x.get 0) 13)) (rr (x.get 0) 22)) ?_)
   refine zb 1 [(155,(vW ((((x.get 0&&&x.get 1)^^^(x.get 0&&&x.get 2)^^^(x.get 1&&&x.get 2))).toNat)))] (za (zae (some 156) .u32 (IntKind.u32.wrap ((((((rr (x.get 0) 2)^^^(rr (x.get 0) 13))^^^(rr (x.get 0) 22)).toNat:Nat):Int)+(((((x.get 0&&&x.get 1)^^^(x.get 0&&&x.get 2)^^^(x.get 1&&&x.get 2))).toNat:Nat):Int))) (((((rr (x.get 0) 2)^^^(rr (x.get 0) 13))^^^(rr (x.get 0) 22))+(((x.get 0&&&x.get 1)^^^(x.get 0&&&x.get 2)^^^(x.get 1&&&x.get 2)))).toNat) (zbs (((rr (x.get 0) 2)^^^(rr (x.get 0) 13))^^^(rr (x.get 0) 22)) (((x.get 0&&&x.get 1)^^^(x.get 0&&&x.get 2)^^^(x.get 1&&&x.get 2)))) ?_))
   refine zb 1 [(25,(vW (((((rr (x.get 0) 2)^^^(rr (x.get 0) 13))^^^(rr (x.get 0) 22))+(((x.get 0&&&x.get 1)^^^(x.get 0&&&x.get 2)^^^(x.get 1&&&x.get 2)))).toNat)))] (zdx (zb 5 [(161,(vW ((((((x.get 7)+(((rr (x.get 4) 6)^^^(rr (x.get 4) 11))^^^(rr (x.get 4) 25)))+(((x.get 4&&&x.get 5)^^^(~~~(x.get 4)&&&x.get 6))))+(kA.get i))+((zA b 64).get i)).toNat))),(160,(vW ((x.get 3).toNat))),(159,(vW ((x.get 4).toNat))),(158,(vW ((x.get 5).toNat))),(157,(vW ((x.get 6).toNat)))] (za (zae (some 162) .u32 (IntKind.u32.wrap ((((x.get 3).toNat:Nat):Int)+(((((((x.get 7)+(((rr (x.get 4) 6)^^^(rr (x.get 4) 11))^^^(rr (x.get 4) 25)))+(((x.get 4&&&x.get 5)^^^(~~~(x.get 4)&&&x.get 6))))+(kA.get i))+((zA b 64).get i)).toNat:Nat):Int))) (((x.get 3)+(((((x.get 7)+(((rr (x.get 4) 6)^^^(rr (x.get 4) 11))^^^(rr (x.get 4) 25)))+(((x.get 4&&&x.get 5)^^^(~~~(x.get 4)&&&x.get 6))))+(kA.get i))+((zA b 64).get i))).toNat) (zbs (x.get 3) (((((x.get 7)+(((rr (x.get 4) 6)^^^(rr (x.get 4) 11))^^^(rr (x.get 4) 25)))+(((x.get 4&&&x.get 5)^^^(~~~(x.get 4)&&&x.get 6))))+(kA.get i))+((zA b 64).get i))) ?_))))
   refine zb 5 [(167,(vW (((((rr (x.get 0) 2)^^^(rr (x.get 0) 13))^^^(rr (x.get 0) 22))+(((x.get 0&&&x.get 1)^^^(x.get 0&&&x.get 2)^^^(x.get 1&&&x.get 2)))).toNat))),(166,(vW ((((((x.get 7)+(((rr (x.get 4) 6)^^^(rr (x.get 4) 11))^^^(rr (x.get 4) 25)))+(((x.get 4&&&x.get 5)^^^(~~~(x.get 4)&&&x.get 6))))+(kA.get i))+((zA b 64).get i)).toNat))),(165,(vW ((x.get 0).toNat))),(164,(vW ((x.get 1).toNat))),(163,(vW ((x.get 2).toNat)))] (za (zae (some 168) .u32 (IntKind.u32.wrap ((((((((x.get 7)+(((rr (x.get 4) 6)^^^(rr (x.get 4) 11))^^^(rr (x.get 4) 25)))+(((x.get 4&&&x.get 5)^^^(~~~(x.get 4)&&&x.get 6))))+(kA.get i))+((zA b 64).get i)).toNat:Nat):Int)+((((((rr (x.get 0) 2)^^^(rr (x.get 0) 13))^^^(rr (x.get 0) 22))+(((x.get 0&&&x.get 1)^^^(x.get 0&&&x.get 2)^^^(x.get 1&&&x.get 2)))).toNat:Nat):Int))) (((((((x.get 7)+(((rr (x.get 4) 6)^^^(rr (x.get 4) 11))^^^(rr (x.get 4) 25)))+(((x.get 4&&&x.get 5)^^^(~~~(x.get 4)&&&x.get 6))))+(kA.get i))+((zA b 64).get i))+((((rr (x.get 0) 2)^^^(rr (x.get 0) 13))^^^(rr (x.get 0) 22))+(((x.get 0&&&x.get 1)^^^(x.get 0&&&x.get 2)^^^(x.get 1&&&x.get 2))))).toNat) (zbs (((((x.get 7)+(((rr (x.get 4) 6)^^^(rr (x.get 4) 11))^^^(rr (x.get 4) 25)))+(((x.get 4&&&x.get 5)^^^(~~~(x.get 4)&&&x.get 6))))+(kA.get i))+((zA b 64).get i)) ((((rr (x.get 0) 2)^^^(rr (x.get 0) 13))^^^(rr (x.get 0) 22))+(((x.get 0&&&x.get 1)^^^(x.get 0&&&x.get 2)^^^(x.get 1&&&x.get 2))))) ?_))
   refine zb 8 [(13,(vW (((((((x.get 7)+(((rr (x.get 4) 6)^^^(rr (x.get 4) 11))^^^(rr (x.get 4) 25)))+(((x.get 4&&&x.get 5)^^^(~~~(x.get 4)&&&x.get 6))))+(kA.get i))+((zA b 64).get i))+((((rr (x.get 0) 2)^^^(rr (x.get 0) 13))^^^(rr (x.get 0) 22))+(((x.get 0&&&x.get 1)^^^(x.get 0&&&x.get 2)^^^(x.get 1&&&x.get 2))))).toNat))),(14,(vW ((x.get 0).toNat))),(15,(vW ((x.get 1).toNat))),(16,(vW ((x.get 2).toNat))),(17,(vW (((x.get 3)+(((((x.get 7)+(((rr (x.get 4) 6)^^^(rr (x.get 4) 11))^^^(rr (x.get 4) 25)))+(((x.get 4&&&x.get 5)^^^(~~~(x.get 4)&&&x.get 6))))+(kA.get i))+((zA b 64).get i))).toNat))),(18,(vW ((x.get 4).toNat))),(19,(vW ((x.get 5).toNat))),(20,(vW ((x.get 6).toNat)))] (zq (zi (zc (zg (zb 1 [(106,(vI i))] (za (zJ 107 i 1 (i+1) ?_)))))))
   refine zb 1 [(21,(vI (i+1)))] (zq (zn ?_))
   have hX8:=((hEw21.trans hEw22).trans hEw23).trans hEw24
   have hK8:=((((hA2.ext hEw20).ext hX8).ext hEw25).ext hEw26)
   have hK9:=((((hB2.ext hEw20).ext hX8).ext hEw25).ext hEw26)
   have hK10:=((((hK2.ext hEw20).ext hX8).ext hEw25).ext hEw26)
   have hK11:=((((hZ42.ext hEw20).ext hX8).ext hEw25).ext hEw26)
   have hX9:Ext w w26:=((((hEm.trans hEw20).trans hX8).trans hEw25).trans hEw26)
   refine zG (i+1,rnd x (kA.get i) ((zA b 64).get i)) ?_ ?_
   ·exact ⟨by omega,by rw [zfd,←hx],hK8,hK9,hK10,hK11,hX9⟩
   ·first | omega |(dsimp only;omega)
  ·refine wEt (zf (zP (zo (zo (zD (zc (wsr ?_)))))))
   refine za (zaN (Instr.indexAt 168 (vP w.heap.size 0) (vI 0)) (vP w.heap.size 0) (za8 (E:=53) (sz:=1) (m:=8)) ?_)
   refine za (zm w.heap.size 0 (hA2.cell (za1 0 (by omega))) ?_)
   refine zb 1 [(171,(vW ((x.get 0).toNat)))] (za (zae (some 172) .u32 (IntKind.u32.wrap ((((h.get 0).toNat:Nat):Int)+(((x.get 0).toNat:Nat):Int))) (((h.get 0)+(x.get 0)).toNat) (zbs (h.get 0) (x.get 0)) ?_))
   refine za (zaN (Instr.indexAt 168 (vP w.heap.size 0) (vI 1)) (vP w.heap.size 1) (za8 (E:=53) (sz:=1) (m:=8)) ?_)
   refine za (zm w.heap.size 1 (hA2.cell (za1 1 (by omega))) ?_)
   refine zb 1 [(175,(vW ((x.get 1).toNat)))] (za (zae (some 176) .u32 (IntKind.u32.wrap ((((h.get 1).toNat:Nat):Int)+(((x.get 1).toNat:Nat):Int))) (((h.get 1)+(x.get 1)).toNat) (zbs (h.get 1) (x.get 1)) ?_))
   refine za (zaN (Instr.indexAt 168 (vP w.heap.size 0) (vI 2)) (vP w.heap.size 2) (za8 (E:=53) (sz:=1) (m:=8)) ?_)
   refine za (zm w.heap.size 2 (hA2.cell (za1 2 (by omega))) ?_)
   refine zb 1 [(179,(vW ((x.get 2).toNat)))] (za (zae (some 180) .u32 (IntKind.u32.wrap ((((h.get 2).toNat:Nat):Int)+(((x.get 2).toNat:Nat):Int))) (((h.get 2)+(x.get 2)).toNat) (zbs (h.get 2) (x.get 2)) ?_))
   refine za (zaN (Instr.indexAt 168 (vP w.heap.size 0) (vI 3)) (vP w.heap.size 3) (za8 (E:=53) (sz:=1) (m:=8)) ?_)
   refine za (zm w.heap.size 3 (hA2.cell (za1 3 (by omega))) ?_)
   refine zb 1 [(183,(vW ((x.get 3).toNat)))] (za (zae (some 184) .u32 (IntKind.u32.wrap ((((h.get 3).toNat:Nat):Int)+(((x.get 3).toNat:Nat):Int))) (((h.get 3)+(x.get 3)).toNat) (zbs (h.get 3) (x.get 3)) ?_))
   refine za (zaN (Instr.indexAt 168 (vP w.heap.size 0) (vI 4)) (vP w.heap.size 4) (za8 (E:=53) (sz:=1) (m:=8)) ?_)
   refine za (zm w.heap.size 4 (hA2.cell (za1 4 (by omega))) ?_)
   refine zb 1 [(187,(vW ((x.get 4).toNat)))] (za (zae (some 188) .u32 (IntKind.u32.wrap ((((h.get 4).toNat:Nat):Int)+(((x.get 4).toNat:Nat):Int))) (((h.get 4)+(x.get 4)).toNat) (zbs (h.get 4) (x.get 4)) ?_))
   refine za (zaN (Instr.indexAt 168 (vP w.heap.size 0) (vI 5)) (vP w.heap.size 5) (za8 (E:=53) (sz:=1) (m:=8)) ?_)
   refine za (zm w.heap.size 5 (hA2.cell (za1 5 (by omega))) ?_)
   refine zb 1 [(191,(vW ((x.get 5).toNat)))] (za (zae (some 192) .u32 (IntKind.u32.wrap ((((h.get 5).toNat:Nat):Int)+(((x.get 5).toNat:Nat):Int))) (((h.get 5)+(x.get 5)).toNat) (zbs (h.get 5) (x.get 5)) ?_))
   refine za (zaN (Instr.indexAt 168 (vP w.heap.size 0) (vI 6)) (vP w.heap.size 6) (za8 (E:=53) (sz:=1) (m:=8)) ?_)
   refine za (zm w.heap.size 6 (hA2.cell (za1 6 (by omega))) ?_)
   refine zb 1 [(195,(vW ((x.get 6).toNat)))] (za (zae (some 196) .u32 (IntKind.u32.wrap ((((h.get 6).toNat:Nat):Int)+(((x.get 6).toNat:Nat):Int))) (((h.get 6)+(x.get 6)).toNat) (zbs (h.get 6) (x.get 6)) ?_))
   refine za (zaN (Instr.indexAt 168 (vP w.heap.size 0) (vI 7)) (vP w.heap.size 7) (za8 (E:=53) (sz:=1) (m:=8)) ?_)
   refine za (zm w.heap.size 7 (hA2.cell (za1 7 (by omega))) ?_)
   refine zb 1 [(199,(vW ((x.get 7).toNat)))] (za (zae (some 200) .u32 (IntKind.u32.wrap ((((h.get 7).toNat:Nat):Int)+(((x.get 7).toNat:Nat):Int))) (((h.get 7)+(x.get 7)).toNat) (zbs (h.get 7) (x.get 7)) ?_))
   refine zb 1 [(201,(vA (w8C ⟨[((h.get 0)+(x.get 0)),((h.get 1)+(x.get 1)),((h.get 2)+(x.get 2)),((h.get 3)+(x.get 3)),((h.get 4)+(x.get 4)),((h.get 5)+(x.get 5)),((h.get 6)+(x.get 6)),((h.get 7)+(x.get 7))],rfl⟩)))] (za (zC 168 w1.heap.size 0 168 (vA (w8C ⟨[((h.get 0)+(x.get 0)),((h.get 1)+(x.get 1)),((h.get 2)+(x.get 2)),((h.get 3)+(x.get 3)),((h.get 4)+(x.get 4)),((h.get 5)+(x.get 5)),((h.get 6)+(x.get 6)),((h.get 7)+(x.get 7))],rfl⟩)) (w8C (WA.zero 8)) (w8C ⟨[((h.get 0)+(x.get 0)),((h.get 1)+(x.get 1)),((h.get 2)+(x.get 2)),((h.get 3)+(x.get 3)),((h.get 4)+(x.get 4)),((h.get 5)+(x.get 5)),((h.get 6)+(x.get 6)),((h.get 7)+(x.get 7))],rfl⟩) hZ42 (by rw [zbV];kernel_rfl) (by first |(simp;done)|(simp;omega)) (zd7 _) ?_))
   intro w27 hBw27 hCw27
   have hzw27:=hCw27.size
   rw [zv _ _ (by simp)] at hBw27
   refine zF (zaR (show zO Tryz.prog 202 _ _ (.cell 4 168) (vA (w8C ⟨[((h.get 0)+(x.get 0)),((h.get 1)+(x.get 1)),((h.get 2)+(x.get 2)),((h.get 3)+(x.get 3)),((h.get 4)+(x.get 4)),((h.get 5)+(x.get 5)),((h.get 6)+(x.get 6)),((h.get 7)+(x.get 7))],rfl⟩)) from ⟨⟨w1.heap.size,0,none⟩,(by kernel_rfl),zE (T:=168) (vs:=w8C ⟨[((h.get 0)+(x.get 0)),((h.get 1)+(x.get 1)),((h.get 2)+(x.get 2)),((h.get 3)+(x.get 3)),((h.get 4)+(x.get 4)),((h.get 5)+(x.get 5)),((h.get 6)+(x.get 6)),((h.get 7)+(x.get 7))],rfl⟩) (hBw27).all (by rw [zbV];kernel_rfl)⟩) ?_)
   obtain rfl:i=64:=by omega
   exact ⟨by rw [zp0,hx],(Ext.own hEm hCw27 (by omega))⟩
end Go.Proofs.YtkmhgepdhilllaaGreatDoor
namespace Go.Proofs.YtkmhgepdhilllaaGreatDoor
open Go Go.RowKit Go.Cs
set_option maxRecDepth 100000
theorem zwD (w:World) (hg1:Gl 1 (w8C zaV) w):
  Calls Tryz.prog 119 #[] w (Ret fun r w'=>r=(vA (stC Sta.new))∧Ext w w'):=by
 refine zw (n:=3) (σ:= []) Tryz.func119 rfl ?_
 have hgl1:=hg1.lt
 refine wsr (za (zad (stC Sta.zero) 193 ?_))
 intro w1 hBw1 hEw1 hzw1 hlw1
 refine zz (za (zQ 1 0 ((hg1.ext hEw1).all) (zbV _) ?_))
 refine za (zaN (Instr.build 193 #[(0,vT),(1,(vA (w8C zaV)))]) (vA (stC Sta.new)) ((zlx zaV).trans (congrArg (fun z:Sta=>Result.ok (Value.agg (stC z).toArray) _) (show (⟨true,zaV,List.replicate 64 0,0,by simp,by decide⟩:Sta)=Sta.new from rfl))) ?_)
 refine za (zC 193 w.heap.size 0 193 (vA (stC Sta.new)) (stC Sta.zero) (stC Sta.new) hBw1 (by rw [zcF];kernel_rfl) (by first |(simp;done)|(simp;omega)) (zfB _) ?_)
 intro w2 hBw2 hCw2
 have hzw2:=hCw2.size
 rw [zv _ _ (by simp)] at hBw2
 exact zF (zaR (show zO Tryz.prog 3 _ _ (.cell 0 193) (vA (stC Sta.new)) from ⟨⟨w.heap.size,0,none⟩,(by kernel_rfl),zE (T:=193) (vs:=stC Sta.new) (hBw2).all (by rw [zcF];kernel_rfl)⟩) (⟨rfl,(Ext.own hEw1 hCw2 (by omega))⟩))
theorem ziB (s:Sta) {lo_b hi_b:Nat} {a_b:Option Addr} {n_b c_b:Nat} {b:List UInt8} (l:List UInt8) (w:World) (h_b:Bs lo_b hi_b w a_b n_b c_b b) (hp0:Sm s l) (hp1:l.length+n_b<2305843009213693952) (hg2:Gl 3 (zas kA) w):
  Calls Tryz.prog 120 #[(vA (stC s)),(.slice a_b n_b c_b)] w (Ret fun r w'=>∃(a0:Sta),r=(vA (stC a0))∧Sm a0 (l++b)∧Ext w w'):=by
 refine zw (n:=43) (σ:= [(0,(vA (stC s))),(1,(.slice a_b n_b c_b))]) Tryz.func120 rfl ?_
 replace h_b:=h_b.now;have hle_b:=h_b.le
 have hgl2:=hg2.lt
 refine wsr (za (zS (Instr.box 193 (vA (stC s))) (vP w.heap.size 0) (stC s) 193 ?_))
 intro w1 hBw1 hEw1 hzw1 hlw1
 refine za (zad (stC Sta.zero) 193 ?_)
 intro w2 hBw2 hEw2 hzw2 hlw2
 refine zM (zb 1 [(7,(vP w.heap.size 0))] (za (zm w.heap.size 0 ((hBw1.ext hEw2).cell (show (stC s)[0]? =some vT from congrArg (fun z=>some (Value.bool z)) hp0.bg)) ?_)))
 refine zb 1 [(9,vF)] (wEt (zf (zl (zc (zd (zp (zU (X:=Nat×Sta×Option Addr) (fun ⟨p,y,ad⟩=> [(1,(.slice ad (n_b-p) (c_b-p)))]) [5,6,11,12,13,14,15,16,17,18,19,20,21,22,23,24,25,26,27,28,29,30,31,32,33,34,35,36,37,38,39,40,41] (fun ⟨p,y,ad⟩ w3=>p≤n_b∧Sm y (l++b.take p)∧Bs lo_b w.heap.size w3 ad (n_b-p) (c_b-p) (b.drop p)∧Blk w3 w.heap.size (stC y) 193∧Blk w3 w1.heap.size (stC Sta.zero) 193∧Ext w w3) (fun ⟨p,y,ad⟩=>n_b-p) (0,s,a_b) (by kernel_rfl) ⟨by omega,by rw [List.take_zero,List.append_nil];exact hp0,by rw [List.drop_zero];exact ((h_b.ext hEw1).ext hEw2),(hBw1.ext hEw2),hBw2,(hEw1.trans hEw2)⟩ ?_)))))))
 rintro ⟨p,y,ad⟩ dw3 w3 ⟨hp,hsm,hBs,hB2,hB4,hEl⟩
 have hzl:=hEl.size
 have hl2:=hB2.lt;have hl4:=hB4.lt
 have hlen:=h_b.len_eq
 have hle1:=hBs.le
 have hll:(l++b.take p).length=l.length+p:=by simp;omega
 have hmy:y.many=l.length+p:=hsm.many.trans hll
 refine zd (wsr (zb 2 [(12,(vI (n_b-p))),(11,(.slice ad (n_b-p) (c_b-p)))] (za (zcn 13 (n_b-p) 0 (fun hc13=> ?_) (fun hc13=> ?_)))))
 ·refine wEt (zk (zl (zc (zp (wsr (zb 1 [(14,(vP w.heap.size 73))] (za (zm w.heap.size 73 (hB2.cell (zim _)) ?_))))))))
  refine za (zae (some 16) .u64 (((y.many:Nat):Int).tmod ((64:Nat):Int)) (y.many%64) (zcX _ _) ?_)
  refine za (zdq 17 (y.many%64) ?_)
  refine zb 1 [(5,(vI (y.many%64)))] (zz (zb 2 [(19,(vI (y.many%64))),(18,(vP w.heap.size 9))] (za (zaN (Instr.sliceAt 191 (vP w.heap.size 9) (some (vI (y.many%64))) none none) (.slice (pA w.heap.size (9+(y.many%64)*1)) (64-(y.many%64)) (64-(y.many%64))) (zkb (len:=64) (E:=5) (sz:=1) (l:=y.many%64) (r:=64) (m:=64) (.inr ⟨_,rfl⟩) (.inl ⟨rfl,rfl⟩) (.inl ⟨rfl,rfl⟩) (by simp) (by omega) (by omega) (by omega) (by omega)) ?_))))
  refine zb 1 [(21,(.slice ad (n_b-p) (c_b-p)))] (za (ziy (a:=(pA w.heap.size (9+(y.many%64)*1))) (dl:=64-(y.many%64)) (dc:=64-(y.many%64)) (some 22) 23 23 3 5 w.heap.size (9+y.many%64) hB2 (fun _=>by rw [Nat.mul_one]) (by simp;omega) hBs.es (fun _=>rfl) ?_))
  intro w4 hBw4 hCw4
  have hzw4:=hCw4.size
  rw [show zZ (stC y) (9+y.many%64) (((b.drop p).take (min (n_b-p) (64-(y.many%64)))).map u8v)=stC (y.put (y.many%64) ((b.drop p).take (min (n_b-p) (64-(y.many%64)))) (by simp;omega)) from zvH (by simp;omega)] at hBw4
  refine zb 1 [(6,(vI (min (n_b-p) (64-(y.many%64)))))] (zz (zb 1 [(23,(vP w.heap.size 73))] (za (zm w.heap.size 73 (hBw4.cell (zim _)) ?_))))
  refine zb 1 [(25,(vI (min (n_b-p) (64-(y.many%64)))))] (za (zae (some 26) .u64 (IntKind.u64.wrap ((min (n_b-p) (64-(y.many%64)):Nat):Int)) (min (n_b-p) (64-(y.many%64))) (zbF rfl rfl (by show _<2^64;omega)) ?_))
  refine za (zae (some 27) .u64 (IntKind.u64.wrap ((((y.put (y.many%64) ((b.drop p).take (min (n_b-p) (64-(y.many%64)))) (by simp;omega)).many:Nat):Int)+((min (n_b-p) (64-(y.many%64)):Nat):Int))) (y.many+min (n_b-p) (64-(y.many%64))) (zbF rfl (by push_cast;rfl) (by show _<2^64;omega)) ?_)
  refine zb 1 [(28,(vP w.heap.size 73))] (za (zah 54 w.heap.size 73 193 (vQ (y.many+min (n_b-p) (64-(y.many%64)))) (stC (y.put (y.many%64) ((b.drop p).take (min (n_b-p) (64-(y.many%64)))) (by simp;omega))) hBw4 (by first | decide |(simp;done)|(simp;omega)) ?_))
  intro w5 hBw5 hCw5
  have hzw5:=hCw5.size
  rw [show ((stC (y.put (y.many%64) ((b.drop p).take (min (n_b-p) (64-(y.many%64)))) (by simp;omega))).set 73 (vQ (y.many+min (n_b-p) (64-(y.many%64)))):List Value)=stC ((y.put (y.many%64) ((b.drop p).take (min (n_b-p) (64-(y.many%64)))) (by simp;omega)).setMany (y.many+min (n_b-p) (64-(y.many%64))) (by omega)) from zoM (by omega)] at hBw5
  refine zz (zb 2 [(30,(vI (min (n_b-p) (64-(y.many%64))))),(29,(.slice ad (n_b-p) (c_b-p)))] ?_)
  obtain ⟨a1,hR1,hS1⟩:=((hBs.chg hCw4).chg hCw5).slice Tryz.prog 23 5 (min (n_b-p) (64-(y.many%64))) (n_b-p) (c_b-p) (some (vI (min (n_b-p) (64-(y.many%64))))) none none
  refine za (zaN (Instr.sliceAt 23 (.slice ad (n_b-p) (c_b-p)) (some (vI (min (n_b-p) (64-(y.many%64))))) none none) (.slice a1 (n_b-p-(min (n_b-p) (64-(y.many%64)))) (c_b-p-(min (n_b-p) (64-(y.many%64))))) (hR1 _) ?_)
  refine zb 1 [(1,(.slice a1 (n_b-p-(min (n_b-p) (64-(y.many%64)))) (c_b-p-(min (n_b-p) (64-(y.many%64))))))] (zz (zb 2 [(33,(vI (min (n_b-p) (64-(y.many%64))))),(32,(vI (y.many%64)))] (za (zJ 34 (y.many%64) (min (n_b-p) (64-(y.many%64))) (y.many%64+(min (n_b-p) (64-(y.many%64)))) ?_))))
  refine za (zaI 35 (y.many%64+(min (n_b-p) (64-(y.many%64)))) 64 (fun hc35=> ?_) (fun hc35=> ?_))
  ·refine wEt (zk (zg (zb 1 [(36,(vP w.heap.size 1))] (za (zQ w.heap.size 1 (hBw5.at 1 (w8C ((y.put (y.many%64) ((b.drop p).take (min (n_b-p) (64-(y.many%64)))) (by simp;omega)).setMany (y.many+min (n_b-p) (64-(y.many%64))) (by omega)).h) (zu7 _)) (zbV _) ?_)))))
   refine zb 1 [(38,(vP w.heap.size 9))] (za (zQ w.heap.size 9 (hBw5.at 9 (zd8 ((y.put (y.many%64) ((b.drop p).take (min (n_b-p) (64-(y.many%64)))) (by simp;omega)).setMany (y.many+min (n_b-p) (64-(y.many%64))) (by omega)).rb) (ztE _)) (zlr _) ?_))
   have hK1:=(((hg2.ext hEl).chg hCw4).chg hCw5)
   refine za (zt (zs1 (((y.put (y.many%64) ((b.drop p).take (min (n_b-p) (64-(y.many%64)))) (by simp;omega)).setMany (y.many+min (n_b-p) (64-(y.many%64))) (by omega)).h) (((y.put (y.many%64) ((b.drop p).take (min (n_b-p) (64-(y.many%64)))) (by simp;omega)).setMany (y.many+min (n_b-p) (64-(y.many%64))) (by omega)).rb) _ hK1) ?_)
   rintro _ w6 ⟨rfl,hEw6⟩
   have hzw6:=hEw6.size
   refine zb 1 [(41,(vP w.heap.size 1))] (za (zC 168 w.heap.size 1 193 (vA (w8C (zfp (((y.put (y.many%64) ((b.drop p).take (min (n_b-p) (64-(y.many%64)))) (by simp;omega)).setMany (y.many+min (n_b-p) (64-(y.many%64))) (by omega)).h) (((y.put (y.many%64) ((b.drop p).take (min (n_b-p) (64-(y.many%64)))) (by simp;omega)).setMany (y.many+min (n_b-p) (64-(y.many%64))) (by omega)).rb).l))) (stC ((y.put (y.many%64) ((b.drop p).take (min (n_b-p) (64-(y.many%64)))) (by simp;omega)).setMany (y.many+min (n_b-p) (64-(y.many%64))) (by omega))) (w8C (zfp (((y.put (y.many%64) ((b.drop p).take (min (n_b-p) (64-(y.many%64)))) (by simp;omega)).setMany (y.many+min (n_b-p) (64-(y.many%64))) (by omega)).h) (((y.put (y.many%64) ((b.drop p).take (min (n_b-p) (64-(y.many%64)))) (by simp;omega)).setMany (y.many+min (n_b-p) (64-(y.many%64))) (by omega)).rb).l)) (hBw5.ext hEw6) (by rw [zbV];kernel_rfl) (by first |(simp;done)|(simp;omega)) (zd7 _) ?_))
   intro w7 hBw7 hCw7
   have hzw7:=hCw7.size
   rw [show (zZ (stC ((y.put (y.many%64) ((b.drop p).take (min (n_b-p) (64-(y.many%64)))) (by simp;omega)).setMany (y.many+min (n_b-p) (64-(y.many%64))) (by omega))) 1 (w8C (zfp (((y.put (y.many%64) ((b.drop p).take (min (n_b-p) (64-(y.many%64)))) (by simp;omega)).setMany (y.many+min (n_b-p) (64-(y.many%64))) (by omega)).h) (((y.put (y.many%64) ((b.drop p).take (min (n_b-p) (64-(y.many%64)))) (by simp;omega)).setMany (y.many+min (n_b-p) (64-(y.many%64))) (by omega)).rb).l)):List Value)=stC (((y.put (y.many%64) ((b.drop p).take (min (n_b-p) (64-(y.many%64)))) (by simp;omega)).setMany (y.many+min (n_b-p) (64-(y.many%64))) (by omega)).setH (zfp (((y.put (y.many%64) ((b.drop p).take (min (n_b-p) (64-(y.many%64)))) (by simp;omega)).setMany (y.many+min (n_b-p) (64-(y.many%64))) (by omega)).h) (((y.put (y.many%64) ((b.drop p).take (min (n_b-p) (64-(y.many%64)))) (by simp;omega)).setMany (y.many+min (n_b-p) (64-(y.many%64))) (by omega)).rb).l)) from znB] at hBw7
   refine zq (zi (zn ?_))
   rw [show n_b-p-(min (n_b-p) (64-(y.many%64)))=n_b-(p+min (n_b-p) (64-(y.many%64))) from by omega,show c_b-p-(min (n_b-p) (64-(y.many%64)))=c_b-(p+min (n_b-p) (64-(y.many%64))) from by omega]
   have hK2:=((((hB4.chg hCw4).chg hCw5).ext hEw6).chg hCw7)
   have hX1:Ext w w7:=(Ext.own ((Ext.own (Ext.own hEl hCw4 (by omega)) hCw5 (by omega)).trans hEw6) hCw7 (by omega))
   refine zG (p+min (n_b-p) (64-(y.many%64)),(((y.put (y.many%64) ((b.drop p).take (min (n_b-p) (64-(y.many%64)))) (by simp;omega)).setMany (y.many+min (n_b-p) (64-(y.many%64))) (by omega)).setH (zfp (((y.put (y.many%64) ((b.drop p).take (min (n_b-p) (64-(y.many%64)))) (by simp;omega)).setMany (y.many+min (n_b-p) (64-(y.many%64))) (by omega)).h) (((y.put (y.many%64) ((b.drop p).take (min (n_b-p) (64-(y.many%64)))) (by simp;omega)).setMany (y.many+min (n_b-p) (64-(y.many%64))) (by omega)).rb).l)),a1) ?_ ?_
   ·exact ⟨by omega,by rw [List.take_add,←List.append_assoc];exact hsm.full (a:=y.many%64) (n:=min (n_b-p) (64-(y.many%64))) (by omega) (by simp;omega) (by omega) _ _,by have hz:=((hS1.ext hEw6).chg hCw7);rw [show n_b-p-(min (n_b-p) (64-(y.many%64)))=n_b-(p+min (n_b-p) (64-(y.many%64))) from by omega,show c_b-p-(min (n_b-p) (64-(y.many%64)))=c_b-(p+min (n_b-p) (64-(y.many%64))) from by omega,List.take_of_length_le (by simp;omega),List.drop_drop] at hz;exact hz,hBw7,hK2,hX1⟩
   ·first | omega |(dsimp only;omega)
  ·refine wEt (zf (zl (zi (zn ?_))))
   rw [show n_b-p-(min (n_b-p) (64-(y.many%64)))=n_b-(p+min (n_b-p) (64-(y.many%64))) from by omega,show c_b-p-(min (n_b-p) (64-(y.many%64)))=c_b-(p+min (n_b-p) (64-(y.many%64))) from by omega]
   refine zG (p+min (n_b-p) (64-(y.many%64)),((y.put (y.many%64) ((b.drop p).take (min (n_b-p) (64-(y.many%64)))) (by simp;omega)).setMany (y.many+min (n_b-p) (64-(y.many%64))) (by omega)),a1) ?_ ?_
   ·exact ⟨by omega,by rw [List.take_add,←List.append_assoc];exact hsm.part (a:=y.many%64) (n:=min (n_b-p) (64-(y.many%64))) (by omega) (by simp;omega) (by omega) _ _,by have hz:=hS1;rw [show n_b-p-(min (n_b-p) (64-(y.many%64)))=n_b-(p+min (n_b-p) (64-(y.many%64))) from by omega,show c_b-p-(min (n_b-p) (64-(y.many%64)))=c_b-(p+min (n_b-p) (64-(y.many%64))) from by omega,List.take_of_length_le (by simp;omega),List.drop_drop] at hz;exact hz,hBw5,((hB4.chg hCw4).chg hCw5),(Ext.own (Ext.own hEl hCw4 (by omega)) hCw5 (by omega))⟩
   ·first | omega |(dsimp only;omega)
 ·refine wEt (zf (zP (zo (zo (zD (zc (wsr ?_)))))))
  refine za (zQ w.heap.size 0 (hB2.all) (zcF _) ?_)
  refine za (zC 193 w1.heap.size 0 193 (vA (stC y)) (stC Sta.zero) (stC y) hB4 (by rw [zcF];kernel_rfl) (by first |(simp;done)|(simp;omega)) (zfB _) ?_)
  intro w8 hBw8 hCw8
  have hzw8:=hCw8.size
  rw [zv _ _ (by simp)] at hBw8
  refine zF (zaR (show zO Tryz.prog 43 _ _ (.cell 4 193) (vA (stC y)) from ⟨⟨w1.heap.size,0,none⟩,(by kernel_rfl),zE (T:=193) (vs:=stC y) (hBw8).all (by rw [zcF];kernel_rfl)⟩) ?_)
  obtain rfl:p=n_b:=by omega
  rw [List.take_of_length_le (by omega)] at hsm
  exact ⟨y,rfl,hsm,(Ext.own hEl hCw8 (by omega))⟩
end Go.Proofs.YtkmhgepdhilllaaGreatDoor
