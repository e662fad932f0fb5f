/- Lemmas and walks: what each function does, by its own code. No condition beyond those of each statement. -/
import Derived.Test.YtkmhgepdhilllaaGreatDoorB2
import Derived.LaidEql
import Derived.Stop.Asserts
import Derived.RowKitTokens
import Derived.Laws.Tables
import Derived.Test.YtkmhgepdhilllaaGreatDoorProg
set_option linter.all false
set_option linter.unusedVariables false
namespace Go.Proofs.YtkmhgepdhilllaaGreatDoor
open Go Go.RowKit Go.Cs
set_option maxRecDepth 100000
theorem ze6 (n:Nat) (v:Nat) (j:Nat) (w:World) (hp0:1≤n) (hp1:n≤4096) (hp2:v≤hgt n+1) (hp3:j≤1099511627776):
  Calls Tryz.prog 27 #[(vI n),(vI v),(vI j)] w (Ret fun r w'=>r=(vI (num n v+j))∧w=w'):=by
 refine zw (n:=21) (σ:= [(0,(vI n)),(1,(vI v)),(2,(vI j))]) Tryz.func27 rfl ?_
 have h5:=zam n
 refine wsr (zb 1 [(6,(vI 0))] (zz (zb 2 [(7,(vI j)),(9,(vI j))] (wEt ?_))))
 refine zd (wsr (zb 1 [(8,(vI 0))] (wEt (zp (zU (X:=Nat) (fun k=> [(7,(vI (num n k+j))),(8,(vI k))]) [10,11,12,13,14,15,16,17,18,19] (fun k w1=>w=w1∧k≤v) (fun k=>v-k) 0 (by rw [show num n 0=0 from rfl,Nat.zero_add];kernel_rfl) ⟨rfl,by omega⟩ ?_)))))
 rintro k dw1 w1 ⟨rfl,hk⟩
 have hns:=zbN (l:=k) hp1 (by omega)
 have hcn:=zbl n k
 have hnx:=zgH n k
 refine zd (wsr (zb 2 [(11,(vI v)),(10,(vI k))] (za (zag 12 k v (fun hc12=> ?_) (fun hc12=> ?_)))))
 ·refine wEt (zk (zl (zc (zd (zp (zg (zb 3 [(17,(vI k)),(16,(vI n)),(15,(vI (num n k+j)))] (za (zt (zep n k _ (by omega) (by omega) (by omega)) ?_)))))))))
  rintro _ _ ⟨rfl,rfl⟩
  refine za (zJ 19 (num n k+j) (cnt n k) (num n (k+1)+j) ?_)
  refine zb 1 [(7,(vI (num n (k+1)+j)))] (zq (zi (zc (zg (zb 1 [(13,(vI k))] (za (zJ 14 k 1 (k+1) ?_)))))))
  refine zb 1 [(8,(vI (k+1)))] (zq (zn (zG (k+1) ?_ ?_)))
  ·exact ⟨rfl,by omega⟩
  ·first | omega |(dsimp only;omega)
 ·refine wEt (zf (zP (zo (zo (zD (zc (wsr ?_)))))))
  refine zb 2 [(6,(vI (num n k+j))),(20,(vI (num n k+j)))] (zF (zh (vI (num n k+j)) ?_))
  obtain rfl:k=v:=by omega
  exact ⟨rfl,rfl⟩
theorem zhA (n:Nat) (w:World) (hp0:1≤n) (hp1:n≤4096):
  Calls Tryz.prog 28 #[(vI n)] w (Ret fun r w'=>r=(vI (tot n))∧w=w'):=by
 refine zw (n:=8) (σ:= [(0,(vI n))]) Tryz.func28 rfl ?_
 have h5:=zam n
 have htt:=zcq hp0 hp1
 have hts:=zau hp1
 refine wsr (zb 1 [(2,(vI 0))] (zz (zb 2 [(4,(vI n)),(3,(vI n))] (za (zt (zdM n _ (by omega) (by omega)) ?_)))))
 rintro _ _ ⟨rfl,rfl⟩
 refine za (zt (ze6 n (hgt n) 0 _ (by omega) (by omega) (by omega) (by omega)) ?_)
 rintro _ _ ⟨rfl,rfl⟩
 refine za (zae (some 7) .i64 (IntKind.i64.wrap (((num n (hgt n)+0:Nat):Int)+((1:Nat):Int))) (tot n) (zao (by rw [htt];omega)) ?_)
 exact zb 1 [(2,(vI (tot n)))] (zF (zh (vI (tot n)) (⟨rfl,rfl⟩)))
theorem zmk {lo_l hi_l:Nat} {a_l:Option Addr} {n_l c_l:Nat} {l:List Rec} (v:Nat) (j:Nat) (w:World) (h_l:Ms zL 35 lo_l hi_l w a_l n_l c_l l) (hp0:n_l≤4096) (hp1:v≤4096):
  Calls Tryz.prog 58 #[(.slice a_l n_l c_l),(vI v),(vI j)] w (Ret fun r w'=>r=(.bool (zaO l v j))∧w=w'):=by
 refine zw (n:=27) (σ:= [(0,(.slice a_l n_l c_l)),(1,(vI v)),(2,(vI j))]) Tryz.func58 rfl ?_
 replace h_l:=h_l.now;have hle_l:=h_l.le
 have hlen:=h_l.len_eq
 have hle:=h_l.le
 refine wsr (zb 1 [(6,vF)] (zM (zb 1 [(7,(vI 0))] (zq ?_))))
 refine zc (zp (zU (X:=Nat) (fun k=> [(7,(vI k))]) [6,8,9,10,11,12,13,14,15,16,17,18,19,20,21,22,23,24,25,26] (fun k w1=>w=w1∧k≤n_l∧∀i,i<k→idx i v=j→(l.getD i Rec.zero).st=0) (fun k=>n_l-k) 0 (by kernel_rfl) ⟨rfl,by omega,fun i h=>absurd h (Nat.not_lt_zero _)⟩ ?_))
 rintro k dw1 w1 ⟨rfl,hk,hem⟩
 refine zd (wsr (zb 3 [(10,(vI n_l)),(9,(.slice a_l n_l c_l)),(8,(vI k))] (za (zag 11 k n_l (fun hc11=> ?_) (fun hc11=> ?_)))))
 ·refine wEt (zk (zl (zc (zd (zp (wsr (zb 2 [(15,(vI v)),(14,(vI k))] ?_)))))))
  refine za (zt (zml k v _ (by omega) (by omega)) ?_)
  rintro _ _ ⟨rfl,rfl⟩
  refine zb 1 [(17,(vI j))] (za (zaI 18 (idx k v) j (fun hc18=> ?_) (fun hc18=> ?_)))
  ·refine zb 3 [(21,(vI k)),(20,(.slice a_l n_l c_l)),(19,vT)] ?_
   obtain ⟨b1,o1,rfl⟩:=h_l.addr (by omega) (by decide)
   refine za (zan b1 o1 n_l c_l k 35 ?_)
   refine zb 1 [(23,(vP b1 (o1+k*35)))] (za (zm b1 (o1+k*35) (h_l.cell (j:=0) Rec.zero (by omega) rfl) ?_))
   refine za (zbT 25 ((l.getD k Rec.zero).st) 0 (fun hc25=> ?_) (fun hc25=> ?_))
   ·refine zb 1 [(26,vT)] (wEt (zk (wsr (zb 1 [(6,vF)] (zF ?_)))))
    exact zu (zj (zj (zu (zj (zh vF (⟨congrArg (fun z:Bool=>Value.bool z) (zht.2 ⟨k,by omega,by omega,by omega⟩).symm,rfl⟩))))))
   ·refine zb 1 [(26,vF)] (wEt (zf (zl (zi (zc (zg (zb 1 [(12,(vI k))] (za (zJ 13 k 1 (k+1) ?_)))))))))
    refine zb 1 [(7,(vI (k+1)))] (zq (zn (zG (k+1) ?_ ?_)))
    ·exact ⟨rfl,by omega,fun i hi he=>by rcases Nat.lt_succ_iff_lt_or_eq.1 hi with h1 | rfl;exact hem i h1 he;first | omega | exact absurd he (by omega)⟩
    ·first | omega |(dsimp only;omega)
  ·refine zb 8 [(26,vF),(25,undef),(24,undef),(23,undef),(22,undef),(21,undef),(20,undef),(19,vF)] (wEt (zf (zl (zi (zc (zg (zb 1 [(12,(vI k))] (za (zJ 13 k 1 (k+1) ?_)))))))))
   refine zb 1 [(7,(vI (k+1)))] (zq (zn (zG (k+1) ?_ ?_)))
   ·exact ⟨rfl,by omega,fun i hi he=>by rcases Nat.lt_succ_iff_lt_or_eq.1 hi with h1 | rfl;exact hem i h1 he;first | omega | exact absurd he (by omega)⟩
   ·first | omega |(dsimp only;omega)
 ·refine wEt (zf (zP (zo (zo (zD (zc (wsr ?_)))))))
  refine zb 1 [(6,vT)] (zF (zh vT ?_))
  obtain rfl:k=n_l:=by omega
  exact ⟨congrArg (fun z:Bool=>Value.bool z) (zbt.2 (fun i hi he=>hem i (by omega) he)).symm,rfl⟩
theorem zrK {lo_l hi_l:Nat} {a_l:Option Addr} {n_l c_l:Nat} {l:List Rec} {lo_s hi_s:Nat} {a_s:Option Addr} {n_s c_s:Nat} {s:List Nat} (j:Nat) (w:World) (h_l:Ms zL 35 lo_l hi_l w a_l n_l c_l l) (h_s:Es (nv .i64) lo_s hi_s w a_s n_s c_s s) (hp0:1≤n_l) (hp1:n_l≤4096) (hp2:n_s=tot n_l) (hp3:j<cnt n_l 0):
  Calls Tryz.prog 47 #[(.slice a_l n_l c_l),(.slice a_s n_s c_s),(vI 0),(vI j)] w (Ret fun r w'=>r=(vA (zH (zaw l s 0 j)))∧Ext w w'):=by
 refine zw (n:=69) (σ:= [(0,(.slice a_l n_l c_l)),(1,(.slice a_s n_s c_s)),(2,(vI 0)),(3,(vI j))]) Tryz.func47 rfl ?_
 replace h_l:=h_l.now;have hle_l:=h_l.le
 replace h_s:=h_s.now;have hle_s:=h_s.le
 have h5:=zam n_l
 have hlen:=h_l.len_eq
 have hles:=h_s.le
 have hlel:=h_l.le
 have hts:=zau hp1
 have hcn:=zbl n_l 0
 have hu0:und n_l 0=n_l:=rfl
 refine wsr (za (zad (zH Nod.zero) 74 ?_))
 intro w1 hBw1 hEw1 hzw1 hlw1
 refine zz (zb 3 [(9,(vI n_l)),(14,(vI n_l)),(13,(.slice a_l n_l c_l))] (zz (zb 1 [(15,(vI 0))] ?_)))
 refine za (zae (some 16) .u8 (IntKind.u8.wrap ((0:Nat):Int)) (0%2^8) (zcz rfl rfl) ?_)
 refine zb 1 [(17,(vI j))] (za (zae (some 18) .u32 (IntKind.u32.wrap ((j:Nat):Int)) (j%2^32) (zcz rfl rfl) ?_))
 refine za (zaN (Instr.build 74 #[(0,(vB (0%2^8))),(1,(vW (j%2^32)))]) (vA (zH (Nod.mt 0 j))) ((zf6 (0%2^8) (j%2^32) (Nat.mod_lt _ (by decide)) (Nat.mod_lt _ (by decide))).trans (congrArg (fun z:Nod=>Result.ok (Value.agg (zH z).toArray) _) (show (Nod.emp (0%2^8) (j%2^32) (Nat.mod_lt _ (by decide)) (Nat.mod_lt _ (by decide)):Nod)=Nod.mt 0 j from rfl))) ?_)
 refine zal (zH (Nod.mt 0 j)) 74 (zN _) (zct _) ?_
 intro w2 hBw2 hEw2 hzw2 hlw2
 refine zM (zb 1 [(11,(vI 0))] (wEt (zp (zU (X:=Nat) (fun v=> [(11,(vI v))]) [12,20,21,22,23,24,25,26,27,28,29,30,31,32,33,34,35,36,37,38,39,40,41,42,43,44,45,46,47,48,49,50,51,52,53,54,55,56,57,58,59,60,61,62,63,64,65,66,67] (fun v w3=>v≤prt n_l 0 j∧Blk w3 w.heap.size (zH Nod.zero) 74∧Blk w3 w1.heap.size (zH (zcl l s 0 j v)) 74∧Ext w w3) (fun v=>4-v) 0 (by kernel_rfl) ⟨by omega,(hBw1.ext hEw2),by rw [zky];exact hBw2,(hEw1.trans hEw2)⟩ ?_))))
 rintro v dw3 w3 ⟨hv,hB8,hB10,hEl⟩
 have hzl:=hEl.size;have hl8:=hB8.lt;have hl10:=hB10.lt
 have hp4:=zdo n_l 0 j
 have hlw:=fun h4=>(zbm (n:=n_l) (l:=0) (j:=j) (w:=v) h4).1
 refine zd (wsr (zb 4 [(23,(vI j)),(22,(vI 0)),(21,(vI n_l)),(20,(vI v))] (za (zt (zhD n_l 0 j _ (by omega) (by omega) (by omega) (by omega)) ?_))))
 rintro _ _ ⟨rfl,rfl⟩
 refine za (zag 25 v (prt n_l 0 j) (fun hc25=> ?_) (fun hc25=> ?_))
 ·have hlw2:=hlw (by omega)
  refine wEt (zk (zl (zc (zd (zp (wsr (zb 1 [(28,(vI j))] ?_)))))))
  refine za (zcg 29 4 j (4*j) ?_)
  refine zb 1 [(30,(vI v))] (za (zae (some 31) .i64 (IntKind.i64.wrap (((4*j:Nat):Int)+((v:Nat):Int))) (4*j+v) (zao) ?_))
  refine zb 1 [(12,(vI (4*j+v)))] (zz (zb 2 [(33,vT),(32,(vI 0))] (wEt (zk (zg ?_)))))
  refine zb 3 [(36,(vI (4*j+v))),(35,(.slice a_l n_l c_l)),(34,(vI v))] ?_
  obtain ⟨b1,o1,rfl⟩:=h_l.addr (by omega) (by decide)
  refine za (zan b1 o1 n_l c_l (4*j+v) 35 ?_)
  refine za (zQ b1 (o1+(4*j+v)*35) ((h_l.ext hEl).at Rec.zero (by omega)) (zab _) ?_)
  refine zb 1 [(39,(vP w1.heap.size 2))] (za (zaW w1.heap.size 2 v 4 35 ?_))
  refine za (zC 68 w1.heap.size (2+v*35) 74 (vA (zL (l.getD (4*j+v) Rec.zero))) (zH (zcl l s 0 j v)) (zL (l.getD (4*j+v) Rec.zero)) hB10 (by rw [zab];kernel_rfl) (by first |(simp;done)|(simp;omega)) (zbi _) ?_)
  intro w4 hBw4 hCw4
  have hzw4:=hCw4.size
  rw [show (zZ (zH (zcl l s 0 j v)) (2+v*35) (zL (l.getD (4*j+v) Rec.zero)):List Value)=zH ((zcl l s 0 j v).setR v (l.getD (4*j+v) Rec.zero)) from nod_setR (by omega)] at hBw4
  refine zq (zi (zc (zg (zb 1 [(26,(vI v))] (za (zJ 27 v 1 (v+1) ?_))))))
  refine zb 1 [(11,(vI (v+1)))] (zq (zn (zG (v+1) ?_ ?_)))
  ·exact ⟨by omega,(hB8.chg hCw4),by have hz:=zpr (L:=l) (S:=s) (j:=j) (v:=v) (by omega);rw [←hz];exact hBw4,(Ext.own hEl hCw4 (by omega))⟩
  ·first | omega |(dsimp only;omega)
 ·refine wEt (zf (zP (zo (zo (zD (zc (wsr ?_)))))))
  refine za (zQ w1.heap.size 0 (hB10.all) (zN _) ?_)
  refine za (zC 74 w.heap.size 0 74 (vA (zH (zcl l s 0 j v))) (zH Nod.zero) (zH (zcl l s 0 j v)) hB8 (by rw [zN];kernel_rfl) (by first |(simp;done)|(simp;omega)) (zct _) ?_)
  intro w5 hBw5 hCw5
  have hzw5:=hCw5.size
  rw [zv _ _ (by simp)] at hBw5
  refine zF (zaR (show zO Tryz.prog 69 _ _ (.cell 8 74) (vA (zH (zcl l s 0 j v))) from ⟨⟨w.heap.size,0,none⟩,(by kernel_rfl),zE (T:=74) (vs:=zH (zcl l s 0 j v)) (hBw5).all (by rw [zN];kernel_rfl)⟩) ?_)
  obtain rfl:v=prt n_l 0 j:=by omega
  exact ⟨by rw [zaZ,←hlen],(Ext.own hEl hCw5 (by omega))⟩
theorem zrJ {lo_l hi_l:Nat} {a_l:Option Addr} {n_l c_l:Nat} {l:List Rec} {lo_s hi_s:Nat} {a_s:Option Addr} {n_s c_s:Nat} {s:List Nat} (v0:Nat) (j:Nat) (w:World) (h_l:Ms zL 35 lo_l hi_l w a_l n_l c_l l) (h_s:Es (nv .i64) lo_s hi_s w a_s n_s c_s s) (hp0:1≤n_l) (hp1:n_l≤4096) (hp2:n_s=tot n_l) (hp3:v0≤hgt n_l) (hp4:j<cnt n_l v0) (hp5:v0≠0) (hp6:∀i,s.getD i 0≤1099511627776) (hih:∀(j:Nat) (lo1 hi1 lo2 hi2:Nat) (w:World),Ms zL 35 lo1 hi1 w a_l n_l c_l l→Es (nv .i64) lo2 hi2 w a_s n_s c_s s→j<cnt n_l (v0-1)→Calls Tryz.prog 47 #[(.slice a_l n_l c_l),(.slice a_s n_s c_s),(vI (v0-1)),(vI j)] w (Ret fun r w'=>r=(vA (zH (zaw l s (v0-1) j)))∧Ext w w')):
  Calls Tryz.prog 47 #[(.slice a_l n_l c_l),(.slice a_s n_s c_s),(vI v0),(vI j)] w (Ret fun r w'=>r=(vA (zH (zaw l s v0 j)))∧Ext w w'):=by
 refine zw (n:=69) (σ:= [(0,(.slice a_l n_l c_l)),(1,(.slice a_s n_s c_s)),(2,(vI v0)),(3,(vI j))]) Tryz.func47 rfl ?_
 replace h_l:=h_l.now;have hle_l:=h_l.le
 replace h_s:=h_s.now;have hle_s:=h_s.le
 have h5:=zam n_l
 have hlen:=h_l.len_eq
 have hles:=h_s.le
 have hlel:=h_l.le
 have hts:=zau hp1
 have hcn:=zbl n_l v0
 have hup:=zcO (n:=n_l) (l:=v0) (by omega)
 have hcm:=zbl n_l (v0-1)
 have hns:=zbN (n:=n_l) (l:=v0-1) hp1 (by omega)
 have hsb:∀i,gt s i≤1099511627776:=hp6
 refine wsr (za (zad (zH Nod.zero) 74 ?_))
 intro w1 hBw1 hEw1 hzw1 hlw1
 refine zz (zb 3 [(9,(vI n_l)),(14,(vI n_l)),(13,(.slice a_l n_l c_l))] (zz (zb 1 [(15,(vI v0))] ?_)))
 refine za (zae (some 16) .u8 (IntKind.u8.wrap ((v0:Nat):Int)) (v0%2^8) (zcz rfl rfl) ?_)
 refine zb 1 [(17,(vI j))] (za (zae (some 18) .u32 (IntKind.u32.wrap ((j:Nat):Int)) (j%2^32) (zcz rfl rfl) ?_))
 refine za (zaN (Instr.build 74 #[(0,(vB (v0%2^8))),(1,(vW (j%2^32)))]) (vA (zH (Nod.mt v0 j))) ((zf6 (v0%2^8) (j%2^32) (Nat.mod_lt _ (by decide)) (Nat.mod_lt _ (by decide))).trans (congrArg (fun z:Nod=>Result.ok (Value.agg (zH z).toArray) _) (show (Nod.emp (v0%2^8) (j%2^32) (Nat.mod_lt _ (by decide)) (Nat.mod_lt _ (by decide)):Nod)=Nod.mt v0 j from rfl))) ?_)
 refine zal (zH (Nod.mt v0 j)) 74 (zN _) (zct _) ?_
 intro w2 hBw2 hEw2 hzw2 hlw2
 refine zM (zb 1 [(11,(vI 0))] (wEt (zp (zU (X:=Nat) (fun v=> [(11,(vI v))]) [12,20,21,22,23,24,25,26,27,28,29,30,31,32,33,34,35,36,37,38,39,40,41,42,43,44,45,46,47,48,49,50,51,52,53,54,55,56,57,58,59,60,61,62,63,64,65,66,67] (fun v w3=>v≤prt n_l v0 j∧Blk w3 w.heap.size (zH Nod.zero) 74∧Blk w3 w1.heap.size (zH (zcl l s v0 j v)) 74∧Ext w w3) (fun v=>4-v) 0 (by kernel_rfl) ⟨by omega,(hBw1.ext hEw2),by rw [zky];exact hBw2,(hEw1.trans hEw2)⟩ ?_))))
 rintro v dw3 w3 ⟨hv,hB8,hB10,hEl⟩
 have hzl:=hEl.size;have hl8:=hB8.lt;have hl10:=hB10.lt
 have hp4:=zdo n_l v0 j
 have hlw:=fun h4=>(zbm (n:=n_l) (l:=v0) (j:=j) (w:=v) h4).1
 refine zd (wsr (zb 4 [(23,(vI j)),(22,(vI v0)),(21,(vI n_l)),(20,(vI v))] (za (zt (zhD n_l v0 j _ (by omega) (by omega) (by omega) (by omega)) ?_))))
 rintro _ _ ⟨rfl,rfl⟩
 refine za (zag 25 v (prt n_l v0 j) (fun hc25=> ?_) (fun hc25=> ?_))
 ·have hlw2:=hlw (by omega)
  have hpl2:=zaL (n:=n_l) (l:=v0-1) (j:=4*j+v) (by omega) (by omega)
  refine wEt (zk (zl (zc (zd (zp (wsr (zb 1 [(28,(vI j))] ?_)))))))
  refine za (zcg 29 4 j (4*j) ?_)
  refine zb 1 [(30,(vI v))] (za (zae (some 31) .i64 (IntKind.i64.wrap (((4*j:Nat):Int)+((v:Nat):Int))) (4*j+v) (zao) ?_))
  refine zb 1 [(12,(vI (4*j+v)))] (zz (zb 1 [(32,(vI v0))] (za (zdv 33 v0 0 ?_))))
  refine wEt (zf (wsr (zb 2 [(42,(vI v0)),(41,(.slice a_l n_l c_l))] (za (zb5 43 v0 1 (v0-1) ?_)))))
  refine zb 1 [(44,(vI (4*j+v)))] ?_
  rcases (show zaO l (v0-1) (4*j+v)=true∨zaO l (v0-1) (4*j+v)=false by cases zaO l (v0-1) (4*j+v)<;>simp) with he | he
  ·refine za (zt (zmk (v0-1) (4*j+v) _ (h_l.ext hEl) (by omega) (by omega)) ?_)
   rintro _ _ ⟨rfl,rfl⟩
   rw [show zaO l (v0-1) (4*j+v)=true from he]
   refine zb 1 [(46,vF)] (wEt (zf (zl (zi (zc (zg (zb 1 [(26,(vI v))] (za (zJ 27 v 1 (v+1) ?_)))))))))
   refine zb 1 [(11,(vI (v+1)))] (zq (zn (zG (v+1) ?_ ?_)))
   ·exact ⟨by omega,hB8,by rw [←zpz hp5 (by assumption)];exact hB10,hEl⟩
   ·first | omega |(dsimp only;omega)
  ·refine za (zt (zmk (v0-1) (4*j+v) _ (h_l.ext hEl) (by omega) (by omega)) ?_)
   rintro _ _ ⟨rfl,rfl⟩
   rw [show zaO l (v0-1) (4*j+v)=false from he]
   refine zb 1 [(46,vT)] (wEt (zk (zbO (fun k=>k=w1.heap.size) 22 (fun w4 hEw4 hzw4 hT239=> ?_))))
   have hX1:Chg (fun k=>k=w1.heap.size) w4 w4:=(Chg.refl (fun k=>k=w1.heap.size) w4)
   refine ze (hw:=hX1) hT239 [(0,47,(vI v)),(1,48,(.slice a_s n_s c_s)),(2,49,(vI n_l)),(3,50,(vI v0))] 4 (zr (hw:=hX1) hT239 4 (vI (v0-1)) (zac .i64 (IntKind.i64.wrap (((v0:Nat):Int)-((1:Nat):Int))) (zao)) (ze (hw:=hX1) hT239 [(5,52,(vI (4*j+v)))] 1 (zr (hw:=hX1) hT239 6 (vI (num n_l (v0-1)+(4*j+v))) (zcv (f:=27) (args:= #[(vI n_l),(vI (v0-1)),(vI (4*j+v))]) (fun w' hC=>ze6 n_l (v0-1) (4*j+v) _ (by omega) (by omega) (by omega) (by omega))) ?_)))
   obtain ⟨b1,o1,rfl⟩:=h_s.addr (by omega)
   refine zaD (hw:=hX1) hT239 7 b1 o1 n_s c_s (num n_l (v0-1)+(4*j+v)) 1 (zx (hw:=hX1) hT239 8 b1 (o1+(num n_l (v0-1)+(4*j+v))*1) (fun w' hC=>((((h_s.ext hEl).ext hEw4).chg hC (fun k h1 h2 hs=>by have h:_=_:=hs;omega)).celln (by omega))) ?_)
   have hsl:=hsb (num n_l (v0-1)+(4*j+v))
   refine zr (hw:=hX1) hT239 9 (vI (gt s (num n_l (v0-1)+(4*j+v))+1)) (zac .i64 (IntKind.i64.wrap (((gt s (num n_l (v0-1)+(4*j+v)):Nat):Int)+((1:Nat):Int))) (zao)) (zr (hw:=hX1) hT239 10 (vB ((gt s (num n_l (v0-1)+(4*j+v))+1)%2^8)) (zac .u8 (IntKind.u8.wrap ((gt s (num n_l (v0-1)+(4*j+v))+1:Nat):Int)) (zcz rfl rfl)) (ze (hw:=hX1) hT239 [(11,58,(.slice a_l n_l c_l)),(12,59,(.slice (pA b1 o1) n_s c_s)),(13,60,(vI v0))] 3 (zr (hw:=hX1) hT239 14 (vI (v0-1)) (zac .i64 (IntKind.i64.wrap (((v0:Nat):Int)-((1:Nat):Int))) (zao)) (ze (hw:=hX1) hT239 [(15,62,(vI (4*j+v))),(19,66,(vP w1.heap.size 142))] 2 (zy 16 (zcL (some 63) (hih (4*j+v) _ _ _ _ _ ((h_l.ext hEl).ext hEw4) ((h_s.ext hEl).ext hEw4) (by omega)) ?_))))))
   rintro _ w5 ⟨rfl,hEw5⟩
   have hzw5:=hEw5.size
   have hX2:Chg (fun k=>k=w1.heap.size) w4 w5:=((Chg.refl (fun k=>k=w1.heap.size) w4).trans hEw5.chg)
   refine ⟨.inr hX2, ?_⟩
   refine zy 17 (zt (zeG (zaw l s (v0-1) (4*j+v)) _) ?_)
   rintro _ w6 ⟨rfl,hEw6⟩
   have hzw6:=hEw6.size
   have hX3:Chg (fun k=>k=w1.heap.size) w4 w6:=(((Chg.refl (fun k=>k=w1.heap.size) w4).trans hEw5.chg).trans hEw6.chg)
   refine ⟨.inr hX3, ?_⟩
   refine zr (hw:=hX3) hT239 18 (vA (zW (⟨(gt s (num n_l (v0-1)+(4*j+v))+1)%2^8,(zX (zR (zaw l s (v0-1) (4*j+v)))),Nat.mod_lt _ (by decide)⟩))) (zai (Instr.build 71 #[(0,(vB ((gt s (num n_l (v0-1)+(4*j+v))+1)%2^8))),(1,(vA (zK (zX (zR (zaw l s (v0-1) (4*j+v)))))))]) (fun w' hC=>zcf ((gt s (num n_l (v0-1)+(4*j+v))+1)%2^8) (zX (zR (zaw l s (v0-1) (4*j+v)))) (Nat.mod_lt _ (by decide)))) ?_
   have hent:((⟨(gt s (num n_l (v0-1)+(4*j+v))+1)%2^8,(zX (zR (zaw l s (v0-1) (4*j+v)))),Nat.mod_lt _ (by decide)⟩):Ent)=zbJ l s (v0-1) (4*j+v):=by subst hlen;unfold zbJ;rw [if_neg (by rw [he];decide)];rfl
   refine zaP (hw:=hX3) hT239 20 w1.heap.size 142 v 4 33 ?_
   have hK1:=(((hB10.ext hEw4).ext hEw5).ext hEw6)
   refine zy 21 (zC 71 w1.heap.size (142+v*33) 74 (vA (zW (⟨(gt s (num n_l (v0-1)+(4*j+v))+1)%2^8,(zX (zR (zaw l s (v0-1) (4*j+v)))),Nat.mod_lt _ (by decide)⟩))) (zH (zcl l s v0 j v)) (zW (⟨(gt s (num n_l (v0-1)+(4*j+v))+1)%2^8,(zX (zR (zaw l s (v0-1) (4*j+v)))),Nat.mod_lt _ (by decide)⟩)) hK1 (by rw [zat];kernel_rfl) (by first |(simp;done)|(simp;omega)) (zch _) ?_)
   have hK2:=(((hB10.ext hEw4).ext hEw5).ext hEw6)
   intro w7 hBw7 hCw7
   have hzw7:=hCw7.size
   rw [show (zZ (zH (zcl l s v0 j v)) (142+v*33) (zW (⟨(gt s (num n_l (v0-1)+(4*j+v))+1)%2^8,(zX (zR (zaw l s (v0-1) (4*j+v)))),Nat.mod_lt _ (by decide)⟩)):List Value)=zH ((zcl l s v0 j v).setE v (⟨(gt s (num n_l (v0-1)+(4*j+v))+1)%2^8,(zX (zR (zaw l s (v0-1) (4*j+v)))),Nat.mod_lt _ (by decide)⟩)) from nod_setE (by omega)] at hBw7
   have hX4:Chg (fun k=>k=w1.heap.size) w4 w7:=(Chg.then (((Chg.refl (fun k=>k=w1.heap.size) w4).trans hEw5.chg).trans hEw6.chg) hCw7 (fun k hk hs=>by have h:k=_:=hs;first | exact hs | exact .inl h | exact .inr h |(exfalso;omega)))
   refine ⟨.inr hX4, ?_⟩
   refine zB (zi (zc (zg (zb 1 [(26,(vI v))] (za (zJ 27 v 1 (v+1) ?_))))))
   refine zb 1 [(11,(vI (v+1)))] (zq (zn ?_))
   have hK3:=((((hB8.ext hEw4).ext hEw5).ext hEw6).chg hCw7)
   have hX5:Ext w w7:=(Ext.own (((hEl.trans hEw4).trans hEw5).trans hEw6) hCw7 (by omega))
   refine zG (v+1) ?_ ?_
   ·exact ⟨by omega,hK3,by have hz:=zpR (L:=l) (S:=s) (l:=v0) (j:=j) (v:=v) (by omega) hp5;rw [←hz,←hent];exact hBw7,hX5⟩
   ·first | omega |(dsimp only;omega)
 ·refine wEt (zf (zP (zo (zo (zD (zc (wsr ?_)))))))
  refine za (zQ w1.heap.size 0 (hB10.all) (zN _) ?_)
  refine za (zC 74 w.heap.size 0 74 (vA (zH (zcl l s v0 j v))) (zH Nod.zero) (zH (zcl l s v0 j v)) hB8 (by rw [zN];kernel_rfl) (by first |(simp;done)|(simp;omega)) (zct _) ?_)
  intro w8 hBw8 hCw8
  have hzw8:=hCw8.size
  rw [zv _ _ (by simp)] at hBw8
  refine zF (zaR (show zO Tryz.prog 69 _ _ (.cell 8 74) (vA (zH (zcl l s v0 j v))) from ⟨⟨w.heap.size,0,none⟩,(by kernel_rfl),zE (T:=74) (vs:=zH (zcl l s v0 j v)) (hBw8).all (by rw [zN];kernel_rfl)⟩) ?_)
  obtain rfl:v=prt n_l v0 j:=by omega
  exact ⟨by rw [zaZ,←hlen],(Ext.own hEl hCw8 (by omega))⟩
theorem zl9 {a_l a_s:Option Addr} {n_l c_l n_s c_s:Nat} {l:List Rec} {s:List Nat} (h1:1≤n_l) (h2:n_l≤4096) (h3:n_s=tot n_l) (hsb:∀i,s.getD i 0≤1099511627776):∀(v j lo1 hi1 lo2 hi2:Nat) (w:World),Ms zL 35 lo1 hi1 w a_l n_l c_l l→Es (nv .i64) lo2 hi2 w a_s n_s c_s s→v≤hgt n_l→j<cnt n_l v→
  Calls Tryz.prog 47 #[(.slice a_l n_l c_l),(.slice a_s n_s c_s),(vI v),(vI j)] w (Ret fun r w'=>r=(vA (zH (zaw l s v j)))∧Ext w w')
 | 0,j,_,_,_,_,w,hl,hs,_,hj=>zrK j w hl hs h1 h2 h3 hj
 | v+1,j,_,_,_,_,w,hl,hs,hv,hj=>zrJ (v+1) j w hl hs h1 h2 h3 hv hj (Nat.succ_ne_zero v) hsb (fun j' lo1 hi1 lo2 hi2 w' hl' hs' hj'=>zl9 h1 h2 h3 hsb v j' lo1 hi1 lo2 hi2 w' hl' hs' (by omega) hj')
theorem znm {lo_l hi_l:Nat} {a_l:Option Addr} {n_l c_l:Nat} {l:List Rec} {lo_s hi_s:Nat} {a_s:Option Addr} {n_s c_s:Nat} {s:List Nat} (v:Nat) (j:Nat) (w:World) (h_l:Ms zL 35 lo_l hi_l w a_l n_l c_l l) (h_s:Es (nv .i64) lo_s hi_s w a_s n_s c_s s) (hp0:1≤n_l) (hp1:n_l≤4096) (hp2:n_s=tot n_l) (hp3:v≤hgt n_l) (hp4:j<cnt n_l v) (hp5:∀i,s.getD i 0≤1099511627776):
  Calls Tryz.prog 47 #[(.slice a_l n_l c_l),(.slice a_s n_s c_s),(vI v),(vI j)] w (Ret fun r w'=>r=(vA (zH (zaw l s v j)))∧Ext w w'):=by
 exact zl9 hp0 hp1 hp2 hp5 v j _ _ _ _ w h_l h_s hp3 hp4
end Go.Proofs.YtkmhgepdhilllaaGreatDoor
namespace Go.Proofs.YtkmhgepdhilllaaGreatDoor
open Go Go.RowKit Go.Cs
set_option maxRecDepth 100000
theorem zt7 (k:Nat) (w:World) (hp0:k<256):
  Calls Tryz.prog 42 #[(vB k)] w (Ret fun r w'=>r=(vI (zT k))∧w=w'):=by
 refine zw (n:=7) (σ:= [(0,(vB k))]) Tryz.func42 rfl ?_
 refine wsr (zb 1 [(2,(vI 0))] (zz (zb 1 [(3,(vB k))] (za (zdq 4 k ?_)))))
 refine za (zae (some 5) .i64 (((k:Nat):Int).tmod ((24:Nat):Int)) (k%24) (zcX _ _) ?_)
 refine za (zJ 6 1 (k%24) (1+(k%24)) ?_)
 exact zb 1 [(2,(vI (1+(k%24))))] (zF (zh (vI (1+(k%24))) (⟨rfl,rfl⟩)))
theorem zv8 (k:Nat) {lo_p hi_p:Nat} {a_p:Option Addr} {n_p c_p:Nat} {p:List (UInt8×UInt8)} {lo_s hi_s:Nat} {a_s:Option Addr} {n_s c_s:Nat} {s:List UInt8} (w:World) (h_p:Ms b2C 2 lo_p hi_p w a_p n_p c_p p) (h_s:Bs lo_s hi_s w a_s n_s c_s s) (hp0:k<256):
  Calls Tryz.prog 10 #[(vA [(vB k),(.slice a_p n_p c_p),(.slice a_s n_s c_s)])] w (Ret fun r w'=>∃a0 ca0 a1 ca1,r=(.tuple #[(.slice a0 (zT k) ca0),(.slice a1 (tot (zT k)) ca1)])∧OwM zL 35 w.heap.size w'.heap.size w' a0 (zT k) ca0 68 (zf1 p (zT k))∧Es (nv .i64) w.heap.size w'.heap.size w' a1 (tot (zT k)) ca1 (zfG s (tot (zT k)))∧Ext w w'):=by
 refine zw (n:=65) (σ:= [(0,(vA [(vB k),(.slice a_p n_p c_p),(.slice a_s n_s c_s)]))]) Tryz.func10 rfl ?_
 replace h_p:=h_p.now;have hle_p:=h_p.le
 replace h_s:=h_s.now;have hle_s:=h_s.le
 have hbk:=zhx k
 have hts:=zau (n:=zT k) (by omega)
 have hlp:=h_p.len_eq;have hls:=h_s.len_eq
 refine wsr (za (zS (Instr.box 25 (vA [(vB k),(.slice a_p n_p c_p),(.slice a_s n_s c_s)])) (vP w.heap.size 0) ([(vB k),(.slice a_p n_p c_p),(.slice a_s n_s c_s)]) 25 ?_))
 intro w1 hBw1 hEw1 hzw1 hlw1
 refine zb 2 [(3,(.slice none 0 0)),(2,(.slice none 0 0))] (zz (zb 1 [(11,(vP w.heap.size 0))] (za (zm w.heap.size 0 (hBw1.cell rfl) ?_))))
 refine za (zt (zt7 k _ (by omega)) ?_)
 rintro _ _ ⟨rfl,rfl⟩
 refine zb 1 [(4,(vI (zT k)))] (zz (zb 1 [(5,(.slice none 0 0))] (wEt (zd (zd ?_)))))
 refine zg (zb 1 [(6,(vI 0))] (wEt (zp (zU (X:=Nat×Option Addr×Nat) (fun ⟨i,ao,cp⟩=> [(5,(.slice ao i cp)),(6,(vI i))]) [7,14,15,16,17,18,19,20,21,22,23,24,25,26,27,28,29,30,31,32,33,34,35,36,37,38,39,40] (fun ⟨i,ao,cp⟩ w2=>i≤zT k∧OwM zL 35 w1.heap.size w2.heap.size w2 ao i cp 68 (zf1 p i)∧Ext w1 w2) (fun ⟨i,ao,cp⟩=>zT k-i) (0,none,0) (by kernel_rfl) ⟨by omega,OwM.nil _ _ _ _ _ _ zab,Ext.refl _⟩ ?_))))
 rintro ⟨i,ao,cp⟩ dw2 w2 ⟨hi,hO,hEl⟩
 have hzl:=hEl.size
 have hx1:=(p.getD i (0,0)).1.toNat_lt;have hx2:=(p.getD i (0,0)).2.toNat_lt
 have hle1:=hO.ms.le
 refine zd (wsr (zb 2 [(15,(vI (zT k))),(14,(vI i))] (za (zag 16 i (zT k) (fun hc16=> ?_) (fun hc16=> ?_)))))
 ·refine wEt (zk (zl (zc (zd (zp (wsr (za (zad (zL Rec.zero) 68 ?_))))))))
  intro w3 hBw3 hEw3 hzw3 hlw3
  refine zM (zb 2 [(20,(vP w.heap.size 1)),(19,(vI i))] (za (zm w.heap.size 1 (((hBw1.ext hEl).ext hEw3).cell rfl) ?_)))
  refine zb 1 [(22,(vI n_p))] (za (zag 23 i n_p (fun hc23=> ?_) (fun hc23=> ?_)))
  ·refine wEt (zk (zY 14 (fun w4 hEw4 hzw4 hT77=> ?_)))
   refine ze hT77 [(0,24,(vP w.heap.size 1))] 1 ?_
   have hK1:=(((hBw1.ext hEl).ext hEw3).ext hEw4)
   refine zx hT77 1 w.heap.size 1 (fun w' hC=>((hK1.ext hC).cell rfl)) (ze hT77 [(2,26,(vI i))] 1 ?_)
   obtain ⟨b1,o1,rfl⟩:=h_p.addr (by omega) (by decide)
   refine zaD hT77 3 b1 o1 n_p c_p i 2 (zaP hT77 4 b1 (o1+i*2) 0 2 1 ?_)
   have hX1:=((hEw1.trans hEl).trans hEw3).trans hEw4
   refine zx hT77 5 b1 (o1+i*2) (fun w' hC=>(((h_p.ext hX1).ext hC).cell (j:=0) (0,0) (by omega) rfl)) (ze hT77 [(6,30,(vP w.heap.size 1))] 1 (zx hT77 7 w.heap.size 1 (fun w' hC=>((hK1.ext hC).cell rfl)) (ze hT77 [(8,32,(vI i))] 1 (zaD hT77 9 b1 o1 n_p c_p i 2 (zaP hT77 10 b1 (o1+i*2) 1 2 1 (zx hT77 11 b1 (o1+i*2+1) (fun w' hC=>(((h_p.ext hX1).ext hC).cell (j:=1) (0,0) (by omega) rfl)) (zy 12 (zt (zww ((p.getD i (0,0)).1.toNat) ((p.getD i (0,0)).2.toNat) _ (by omega) (by omega)) ?_))))))))
   rintro _ w5 ⟨rfl,hEw5⟩
   have hzw5:=hEw5.size
   refine ⟨.inr hEw5, ?_⟩
   refine zy 13 (zC 68 w2.heap.size 0 68 (vA (zL (mkR ((p.getD i (0,0)).1.toNat) ((p.getD i (0,0)).2.toNat)))) (zL Rec.zero) (zL (mkR ((p.getD i (0,0)).1.toNat) ((p.getD i (0,0)).2.toNat))) ((hBw3.ext hEw4).ext hEw5) (by rw [zab];kernel_rfl) (by first |(simp;done)|(simp;omega)) (zbi _) ?_)
   intro w6 hBw6 hCw6
   have hzw6:=hCw6.size
   rw [zv _ _ (by simp)] at hBw6
   refine ⟨.inl (by kernel_rfl), ?_⟩
   refine zB (zc (zg (zb 1 [(37,(.slice ao i cp))] (za (zQ w2.heap.size 0 (hBw6.all) (zab _) ?_)))))
   refine za (zdr (some 39) (Instr.buildSlice 28 1 #[(0,(vA (zL (mkR ((p.getD i (0,0)).1.toNat) ((p.getD i (0,0)).2.toNat)))))]) (.slice (pA w6.heap.size 0) 1 1) (([(mkR ((p.getD i (0,0)).1.toNat) ((p.getD i (0,0)).2.toNat))]:List Rec).flatMap zL) 68 ?_ (hr:=zdH (f:=zL) (sz:=35) (z:=(vA (zL Rec.zero))) [(mkR ((p.getD i (0,0)).1.toNat) ((p.getD i (0,0)).2.toNat))] zab (by decide) rfl (Nat.succ_pos _) (show 35≤2^24 from by decide) rfl))
   intro w7 hBw7 hEw7
   have hzw7:=hEw7.size;have hlw7:=hBw7.lt
   have hmw7:Ms zL 35 w6.heap.size (w6.heap.size+1) w7 (pA w6.heap.size 0) 1 1 [(mkR ((p.getD i (0,0)).1.toNat) ((p.getD i (0,0)).2.toNat))]:=Ms.of_pre (r:= []) (by rw [List.append_nil];exact hBw7) zab rfl (Nat.le_refl _) (by decide) (Nat.le_refl _) (Nat.lt_succ_self _)
   have hK2:=(((((hO.ext hEw3).ext hEw4).ext hEw5).chg hCw6).ext hEw7)
   refine za (zbR (some 40) 28 28 68 56 (vA (zL Rec.zero)) hK2 hmw7 zbi ?_ (by rw [Value.cells,List.size_toArray,zab]) (by decide))
   intro a1 c1 w8 hOw8 hCw8
   have hzw8:=hCw8.size
   have hSw8:=hOw8.ms;have hlea1:=hSw8.le
   refine zb 1 [(5,(.slice a1 (i+1) c1))] (zq (zi (zc (zg (zb 1 [(17,(vI i))] (za (zJ 18 i 1 (i+1) ?_)))))))
   refine zb 1 [(6,(vI (i+1)))] (zq (zn ?_))
   have hK3:=(((((hO.ext hEw3).ext hEw4).ext hEw5).chg hCw6).ext hEw7)
   have hX2:Ext w1 w8:=(Ext.ownS ((Ext.own (((hEl.trans hEw3).trans hEw4).trans hEw5) hCw6 (by omega)).trans hEw7) hCw8 (fun k hs hk=>by have hn:=hK3.ne hs;omega))
   refine zG (i+1,a1,c1) ?_ ?_
   ·exact ⟨by omega,by rw [zkE,if_pos (by omega)];exact (hOw8).now,hX2⟩
   ·first | omega |(dsimp only;omega)
  ·refine wEt (zf (zl (zc (zg (zb 1 [(37,(.slice ao i cp))] (za (zQ w2.heap.size 0 (hBw3.all) (zab _) ?_)))))))
   refine za (zdr (some 39) (Instr.buildSlice 28 1 #[(0,(vA (zL Rec.zero)))]) (.slice (pA w3.heap.size 0) 1 1) (([Rec.zero]:List Rec).flatMap zL) 68 ?_ (hr:=zdH (f:=zL) (sz:=35) (z:=(vA (zL Rec.zero))) [Rec.zero] zab (by decide) rfl (Nat.succ_pos _) (show 35≤2^24 from by decide) rfl))
   intro w9 hBw9 hEw9
   have hzw9:=hEw9.size;have hlw9:=hBw9.lt
   have hmw9:Ms zL 35 w3.heap.size (w3.heap.size+1) w9 (pA w3.heap.size 0) 1 1 [Rec.zero]:=Ms.of_pre (r:= []) (by rw [List.append_nil];exact hBw9) zab rfl (Nat.le_refl _) (by decide) (Nat.le_refl _) (Nat.lt_succ_self _)
   refine za (zbR (some 40) 28 28 68 56 (vA (zL Rec.zero)) ((hO.ext hEw3).ext hEw9) hmw9 zbi ?_ (by rw [Value.cells,List.size_toArray,zab]) (by decide))
   intro a2 c2 w10 hOw10 hCw10
   have hzw10:=hCw10.size
   have hSw10:=hOw10.ms;have hlea2:=hSw10.le
   refine zb 1 [(5,(.slice a2 (i+1) c2))] (zq (zi (zc (zg (zb 1 [(17,(vI i))] (za (zJ 18 i 1 (i+1) ?_)))))))
   refine zb 1 [(6,(vI (i+1)))] (zq (zn ?_))
   have hX3:Ext w1 w10:=(Ext.ownS ((hEl.trans hEw3).trans hEw9) hCw10 (fun k hs hk=>by have hn:=((hO.ext hEw3).ext hEw9).ne hs;omega))
   refine zG (i+1,a2,c2) ?_ ?_
   ·exact ⟨by omega,by rw [zkE,if_neg (by omega)];exact (hOw10).now,hX3⟩
   ·first | omega |(dsimp only;omega)
 ·obtain rfl:i=zT k:=by omega
  refine wEt (zf (zP (zo (zo (zD (zc (wsr ?_)))))))
  refine zb 1 [(8,(.slice none 0 0))] (zM (zb 1 [(9,(vI 0))] (wEt (zp ?_))))
  refine zU (X:=Nat×Option Addr×Nat) (fun ⟨i,aq,cq⟩=> [(8,(.slice aq i cq)),(9,(vI i))]) [10,41,42,43,44,45,46,47,48,49,50,51,52,53,54,55,56,57,58,59,60,61,62] (fun ⟨i,aq,cq⟩ w11=>i≤tot (zT k)∧Cs.Own (nv .i64) w2.heap.size w11.heap.size w11 aq i cq 3 (zfG s i)∧Ext w2 w11) (fun ⟨i,aq,cq⟩=>tot (zT k)-i) (0,none,0) (by kernel_rfl) ⟨by omega,Cs.Own.nil _ _ _ _ _,Ext.refl _⟩ ?_
  rintro ⟨i,aq,cq⟩ dw11 w11 ⟨hi2,hQ,hEm⟩
  have hzm:=hEm.size
  have hle2:=hQ.es.le
  have hbt:=zfq s i
  refine zd (wsr (zb 2 [(42,(vI (zT k))),(41,(vI i))] (za (zt (zhA (zT k) _ (by omega) (by omega)) ?_))))
  rintro _ _ ⟨rfl,rfl⟩
  refine za (zag 44 i (tot (zT k)) (fun hc44=> ?_) (fun hc44=> ?_))
  ·refine wEt (zk (zl (zc (zd (zp (wsr (zb 1 [(10,(vI 0))] ?_)))))))
   refine zM (zb 2 [(48,(vP w.heap.size 2)),(47,(vI i))] (za (zm w.heap.size 2 (((hBw1.ext hEl).ext hEm).cell rfl) ?_)))
   refine zb 1 [(50,(vI n_s))] (za (zag 51 i n_s (fun hc51=> ?_) (fun hc51=> ?_)))
   ·refine wEt (zk (zg (zb 1 [(52,(vP w.heap.size 2))] (za (zm w.heap.size 2 (((hBw1.ext hEl).ext hEm).cell rfl) ?_)))))
    refine zb 1 [(54,(vI i))] ?_
    obtain ⟨b2,o2,rfl⟩:=h_s.addr (by omega)
    refine za (zan b2 o2 n_s c_s i 1 ?_)
    have hK4:=(((h_s.ext hEw1).ext hEl).ext hEm)
    refine za (zm b2 (o2+i*1) (hK4.cell1 (by omega)) ?_)
    refine za (zae (some 57) .u8 (((byt s i:Nat):Int).tmod ((2:Nat):Int)) ((byt s i)%2) (zcX _ _) ?_)
    refine za (zdq 58 ((byt s i)%2) ?_)
    refine zb 1 [(10,(vI ((byt s i)%2)))] (zdx (zb 2 [(60,(vI ((byt s i)%2))),(59,(.slice aq i cq))] (za (zS (Instr.buildSlice 29 1 #[(0,(vI ((byt s i)%2)))]) (.slice (pA w11.heap.size 0) 1 1) [(vI ((byt s i)%2))] 3 ?_))))
    intro w12 hBw12 hEw12 hzw12 hlw12
    have hSw12:Es (nv .i64) w11.heap.size (w11.heap.size+1) w12 (pA w11.heap.size 0) 1 1 ([(byt s i)%2]):=Es.of_blk hBw12 rfl rfl (Nat.le_refl _) (by decide) (Nat.le_refl _) (Nat.lt_succ_self _)
    refine za (zbr (some 62) 29 29 3 8 (vI 0) (hQ.ext hEw12) hSw12 (fun _=>rfl) ?_)
    intro a3 c3 w13 hOw13 hCw13
    have hzw13:=hCw13.size
    have hSw13:=hOw13.es
    refine zb 1 [(8,(.slice a3 (i+1) c3))] (zq (zi (zc (zg (zb 1 [(45,(vI i))] (za (zJ 46 i 1 (i+1) ?_)))))))
    refine zb 1 [(9,(vI (i+1)))] (zq (zn (zG (i+1,a3,c3) ?_ ?_)))
    ·exact ⟨by omega,by rw [zkH,if_pos (by omega)];exact (hOw13).now,(Ext.ownS (hEm.trans hEw12) hCw13 (fun k hs hk=>by have hn:=(hQ.ext hEw12).ne hs;omega))⟩
    ·first | omega |(dsimp only;omega)
   ·refine wEt (zf (zl (zc (zg (zb 2 [(60,(vI 0)),(59,(.slice aq i cq))] (za (zS (Instr.buildSlice 29 1 #[(0,(vI 0))]) (.slice (pA w11.heap.size 0) 1 1) [(vI 0)] 3 ?_)))))))
    intro w14 hBw14 hEw14 hzw14 hlw14
    have hSw14:Es (nv .i64) w11.heap.size (w11.heap.size+1) w14 (pA w11.heap.size 0) 1 1 ([0]):=Es.of_blk hBw14 rfl rfl (Nat.le_refl _) (by decide) (Nat.le_refl _) (Nat.lt_succ_self _)
    refine za (zbr (some 62) 29 29 3 8 (vI 0) (hQ.ext hEw14) hSw14 (fun _=>rfl) ?_)
    intro a4 c4 w15 hOw15 hCw15
    have hzw15:=hCw15.size
    have hSw15:=hOw15.es
    refine zb 1 [(8,(.slice a4 (i+1) c4))] (zq (zi (zc (zg (zb 1 [(45,(vI i))] (za (zJ 46 i 1 (i+1) ?_)))))))
    refine zb 1 [(9,(vI (i+1)))] (zq (zn (zG (i+1,a4,c4) ?_ ?_)))
    ·exact ⟨by omega,by rw [zkH,if_neg (by omega)];exact (hOw15).now,(Ext.ownS (hEm.trans hEw14) hCw15 (fun k hs hk=>by have hn:=(hQ.ext hEw14).ne hs;omega))⟩
    ·first | omega |(dsimp only;omega)
  ·refine wEt (zf (zP (zo (zo (zD (zc (wsr ?_)))))))
   refine zb 4 [(3,(.slice aq i cq)),(2,(.slice ao (zT k) cp)),(64,(.slice aq i cq)),(63,(.slice ao (zT k) cp))] (zF (zh (.tuple #[(.slice ao (zT k) cp),(.slice aq i cq)]) ?_))
   obtain rfl:i=tot (zT k):=by omega
   exact ⟨_,_,_,_,rfl,((hO.ext hEm)).mono (by omega) (by omega),(hQ).es.mono (by omega) (Nat.le_refl _),((hEw1.trans hEl).trans hEm)⟩
end Go.Proofs.YtkmhgepdhilllaaGreatDoor
namespace Go.Proofs.YtkmhgepdhilllaaGreatDoor
open Go Go.RowKit Go.Cs
set_option maxRecDepth 100000
end Go.Proofs.YtkmhgepdhilllaaGreatDoor
namespace Go.Proofs.YtkmhgepdhilllaaGreatDoor
open Go Go.RowKit Go.Cs
set_option maxRecDepth 100000
theorem zoB (n:Nat) (w:World) (hp0:1≤n) (hp1:n≤4096):
  Calls Tryz.prog 59 #[(vI n)] w (Ret fun r w'=>∃a1 ca1 a2 ca2,r=(.tuple #[(vA [(vI n),(.slice a1 (hgt n+1) ca1),(.slice a2 (hgt n+1) ca2)]),(vI 0)])∧Es (nv .i64) w.heap.size w'.heap.size w' a1 (hgt n+1) ca1 (za9 n (hgt n+1))∧Es (nv .i64) w.heap.size w'.heap.size w' a2 (hgt n+1) ca2 (zbk n (hgt n+1))∧Ext w w'):=by
 refine zw (n:=50) (σ:= [(0,(vI n))]) Tryz.func59 rfl ?_
 have h5:=zam n
 refine wsr (za (zad ([(vI 0),(.slice none 0 0),(.slice none 0 0)]) 128 ?_))
 intro w1 hBw1 hEw1 hzw1 hlw1
 refine zb 1 [(3,(vI 0))] (zz (zb 1 [(12,(vI n))] (za (zt (zlA n _ (by omega) (by omega)) ?_))))
 rintro _ w2 ⟨rfl,hEw2⟩
 have hzw2:=hEw2.size
 refine zb 5 [(5,(vI 0)),(4,(vI (hgt n))),(15,(vI 0)),(14,(vI (hgt n))),(11,(.tuple #[(vI (hgt n)),(vI 0)]))] (zM (zb 2 [(17,vF),(16,(vI 0))] (wEt (zf ?_))))
 refine zl (zc (wsr (zb 2 [(21,(vA [(vI n),(.slice none 0 0),(.slice none 0 0)])),(20,(vI n))] (zal ([(vI n),(.slice none 0 0),(.slice none 0 0)]) 128 rfl (by simp [Value.oneCell']) ?_))))
 intro w3 hBw3 hEw3 hzw3 hlw3
 refine zz (zb 1 [(7,(vI 0))] (zM ?_))
 refine zb 1 [(22,(vI (hgt n)))] (za (zJ 23 (hgt n) 1 (hgt n+1) ?_))
 refine zb 1 [(24,(vI 0))] (wEt (zp (zU (X:=Nat×Nat×Nat×Option Addr×Option Addr×Nat×Nat) (fun ⟨v,g1,g2,ao,aq,cp,cq⟩=> [(7,(vI (num n v))),(24,(vI v))]) [8,9,10,25,26,27,28,29,30,31,32,33,34,35,36,37,38,39,40,41,42,43,44,45,46,47,48] (fun ⟨v,g1,g2,ao,aq,cp,cq⟩ w4=>v≤hgt n+1∧(Cs.Own (nv .i64) g1 (g1+1) w4 ao v cp 3 (za9 n v))∧(Cs.Own (nv .i64) g2 (g2+1) w4 aq v cq 3 (zbk n v))∧Blk w4 w2.heap.size ([(vI n),(.slice ao v cp),(.slice aq v cq)]) 128∧Blk w4 w.heap.size ([(vI 0),(.slice none 0 0),(.slice none 0 0)]) 128∧(g1≠g2∧g1≠w2.heap.size∧g2≠w2.heap.size∧g1≠w.heap.size∧g2≠w.heap.size∧w.heap.size≤g1∧w.heap.size≤g2∧g1≤w4.heap.size∧g2≤w4.heap.size+1)∧Ext w w4) (fun ⟨v,g1,g2,ao,aq,cp,cq⟩=>hgt n+1-v) (0,w3.heap.size,w3.heap.size+1,none,none,0,0) (by kernel_rfl) ⟨by omega,Cs.Own.nil _ _ _ _ _,Cs.Own.nil _ _ _ _ _,hBw3,((hBw1.ext hEw2).ext hEw3),by omega,((hEw1.trans hEw2).trans hEw3)⟩ ?_)))
 rintro ⟨v,g1,g2,ao,aq,cp,cq⟩ dw4 w4 ⟨hv,hO1,hO2,hB6,hB2,hg,hEl⟩
 have hzl:=hEl.size;have hl6:=hB6.lt;have hl2:=hB2.lt
 have hns:=zbN (n:=n) (l:=v) hp1 (by omega)
 have hcn:=zbl n v
 have hnx:=zgH n v
 refine wsr (za (zag 25 v (hgt n+1) (fun hc25=> ?_) (fun hc25=> ?_)))
 ·refine wEt (zd (zk (zl (zc (zd (zp (wsr ?_)))))))
  refine zb 2 [(8,(vI v)),(26,(vI v))] (zz (zb 2 [(29,(vI v)),(28,(vI n))] (za (zt (znw n v _ (by omega) (by omega) (by omega)) ?_))))
  rintro _ w5 ⟨rfl,hEw5⟩
  have hzw5:=hEw5.size
  refine zb 5 [(10,(vI 0)),(9,(vI (cnt n v))),(32,(vI 0)),(31,(vI (cnt n v))),(27,(.tuple #[(vI (cnt n v)),(vI 0)]))] (zz (zb 1 [(33,(vP w2.heap.size 1))] (za (zm w2.heap.size 1 ((hB6.ext hEw5).cell rfl) ?_))))
  refine zb 1 [(35,(vI (cnt n v)))] (za (zS (Instr.buildSlice 29 1 #[(0,(vI (cnt n v)))]) (.slice (pA w5.heap.size 0) 1 1) [(vI (cnt n v))] 3 ?_))
  intro w6 hBw6 hEw6 hzw6 hlw6
  have hSw6:Es (nv .i64) w5.heap.size (w5.heap.size+1) w6 (pA w5.heap.size 0) 1 1 ([cnt n v]):=Es.of_blk hBw6 rfl rfl (Nat.le_refl _) (by decide) (Nat.le_refl _) (Nat.lt_succ_self _)
  have hsm1:=fun (k:Nat) (hk:zeb aq k)=>(((hO2.ext hEw5).ext hEw6)).ltk hk
  refine za (zgd (some 37) 29 29 3 8 (vI 0) ((hO1.ext hEw5).ext hEw6) hSw6 (fun _=>rfl) ?_)
  intro b1 c1 w7 hOw7 hCw7 hqb1
  replace hqb1:=hqb1.imp_left (((hO1.ext hEw5).ext hEw6)).ltk
  have hlb1:b1<w7.heap.size:=(hOw7.row.lt b1 rfl).2
  have hzw7:=hCw7.size
  have hSw7:=hOw7.es
  refine zb 1 [(38,(vP w2.heap.size 1))] ?_
  have hK1:=((((hB6.ext hEw5).ext hEw6)).chg hCw7 (fun hs=>by have hn:=((hO1.ext hEw5).ext hEw6).ne hs;omega))
  refine za (zah 29 w2.heap.size 1 128 (.slice (pA b1 0) (v+1) c1) ([(vI n),(.slice ao v cp),(.slice aq v cq)]) hK1 (by first | decide |(simp;done)|(simp;omega)) ?_)
  have hK2:=((((hB6.ext hEw5).ext hEw6)).chg hCw7 (fun hs=>by have hn:=((hO1.ext hEw5).ext hEw6).ne hs;omega))
  intro w8 hBw8 hCw8
  have hzw8:=hCw8.size
  rw [show (([(vI n),(.slice ao v cp),(.slice aq v cq)]).set 1 (.slice (pA b1 0) (v+1) c1):List Value)= [(vI n),(.slice (pA b1 0) (v+1) c1),(.slice aq v cq)] from rfl] at hBw8
  refine zz (zb 1 [(39,(vP w2.heap.size 2))] (za (zm w2.heap.size 2 (hBw8.cell rfl) ?_)))
  refine zb 1 [(41,(vI (num n v)))] (za (zS (Instr.buildSlice 29 1 #[(0,(vI (num n v)))]) (.slice (pA w8.heap.size 0) 1 1) [(vI (num n v))] 3 ?_))
  intro w9 hBw9 hEw9 hzw9 hlw9
  have hSw9:Es (nv .i64) w8.heap.size (w8.heap.size+1) w9 (pA w8.heap.size 0) 1 1 ([num n v]):=Es.of_blk hBw9 rfl rfl (Nat.le_refl _) (by decide) (Nat.le_refl _) (Nat.lt_succ_self _)
  have hK3:=((((((hO2.ext hEw5).ext hEw6)).chg hCw7 (fun k h1 h2 hs=>by have hn:=((hO1.ext hEw5).ext hEw6).ne hs;omega)).chg hCw8).ext hEw9)
  refine za (zgd (some 43) 29 29 3 8 (vI 0) hK3 hSw9 (fun _=>rfl) ?_)
  intro b2 c2 w10 hOw10 hCw10 hqb2
  replace hqb2:=hqb2.imp_left (hsm1 _)
  have hlb2:b2<w10.heap.size:=(hOw10.row.lt b2 rfl).2
  have hzw10:=hCw10.size
  have hSw10:=hOw10.es
  refine zb 1 [(44,(vP w2.heap.size 2))] (za (zah 29 w2.heap.size 2 128 (.slice (pA b2 0) (v+1) c2) ([(vI n),(.slice (pA b1 0) (v+1) c1),(.slice aq v cq)]) (((hBw8.ext hEw9)).chg hCw10 (fun hs=>by have hn:=(hsm1 _) hs;omega)) (by first | decide |(simp;done)|(simp;omega)) ?_))
  intro w11 hBw11 hCw11
  have hzw11:=hCw11.size
  rw [show (([(vI n),(.slice (pA b1 0) (v+1) c1),(.slice aq v cq)]).set 2 (.slice (pA b2 0) (v+1) c2):List Value)= [(vI n),(.slice (pA b1 0) (v+1) c1),(.slice (pA b2 0) (v+1) c2)] from rfl] at hBw11
  refine zdx (zb 2 [(46,(vI (cnt n v))),(45,(vI (num n v)))] (za (zJ 47 (num n v) (cnt n v) (num n (v+1)) ?_)))
  refine zb 1 [(7,(vI (num n (v+1))))] (zq (zi (zc (zg (za (zJ 48 v 1 (v+1) ?_))))))
  refine zb 1 [(24,(vI (v+1)))] (zq (zn ?_))
  have hK4:=(((((hOw7.chg hCw8).ext hEw9)).chg hCw10 (fun k h1 h2 hs=>by have hn:=(hsm1 _) hs;omega)).chg hCw11)
  have hK5:=(((((((((hB2.ext hEw5).ext hEw6)).chg hCw7 (fun hs=>by have hn:=((hO1.ext hEw5).ext hEw6).ne hs;omega)).chg hCw8).ext hEw9)).chg hCw10 (fun hs=>by have hn:=(hsm1 _) hs;omega)).chg hCw11)
  have hK6:=((((((hO2.ext hEw5).ext hEw6)).chg hCw7 (fun k h1 h2 hs=>by have hn:=((hO1.ext hEw5).ext hEw6).ne hs;omega)).chg hCw8).ext hEw9)
  have hX1:Ext w w11:=(Ext.own (Ext.ownS ((Ext.own (Ext.ownS ((hEl.trans hEw5).trans hEw6) hCw7 (fun k hs hk=>by have hn:=((hO1.ext hEw5).ext hEw6).ne hs;omega)) hCw8 (by omega)).trans hEw9) hCw10 (fun k hs hk=>by have hn:=hK6.ne hs;omega)) hCw11 (by omega))
  refine zG (v+1,b1,b2,(pA b1 0),(pA b2 0),c1,c2) ?_ ?_
  ·exact ⟨by omega,by rw [zkA];exact hK4,by rw [zkw];exact (hOw10.chg hCw11),hBw11,hK5,by omega,hX1⟩
  ·first | omega |(dsimp only;omega)
 ·refine wEt (zd (zf (zP (zo (zo (zD (zc (zd ?_))))))))
  refine zg (za (zV w2.heap.size 0 (hB6.all) ?_))
  refine za (zC 128 w.heap.size 0 128 (vA [(vI n),(.slice ao v cp),(.slice aq v cq)]) ([(vI 0),(.slice none 0 0),(.slice none 0 0)]) ([(vI n),(.slice ao v cp),(.slice aq v cq)]) hB2 (by kernel_rfl) (by first | decide |(simp;done)|(simp;omega)) (by simp [Value.oneCell']) ?_)
  intro w12 hBw12 hCw12
  have hzw12:=hCw12.size
  rw [zv _ _ (by kernel_rfl)] at hBw12
  refine zb 1 [(3,(vI 0))] (zF (zaQ (show zO Tryz.prog 50 _ _ (.cell 2 128) (vA [(vI n),(.slice ao v cp),(.slice aq v cq)]) from ⟨⟨w.heap.size,0,none⟩,(by kernel_rfl),zE (T:=128) (vs:= [(vI n),(.slice ao v cp),(.slice aq v cq)]) (hBw12).all (by kernel_rfl)⟩) (show zO Tryz.prog 50 _ _ (.tmp 3) (vI 0) by (show _=_;kernel_rfl)) ?_))
  obtain rfl:v=hgt n+1:=by omega
  exact ⟨_,_,_,_,rfl,((hO1.chg hCw12)).es.now.mono (by omega) (Nat.le_refl _),((hO2.chg hCw12)).es.now.mono (by omega) (Nat.le_refl _),(Ext.own hEl hCw12 (by omega))⟩
theorem zrQ (n:Int) (w:World) (hp0:¬(1≤n∧n≤4096)):
  Calls Tryz.prog 59 #[(.int .i64 n)] w (Ret fun r w'=>∃a1 a2,r=(.tuple #[(vA [(vI 0),(.slice a1 0 0),(.slice a2 0 0)]),(vI 1)])∧Es (nv .i64) w.heap.size w'.heap.size w' a1 0 0 ([])∧Es (nv .i64) w.heap.size w'.heap.size w' a2 0 0 ([])∧Ext w w'):=by
 refine zw (n:=50) (σ:= [(0,(.int .i64 n))]) Tryz.func59 rfl ?_
 refine wsr (za (zad ([(vI 0),(.slice none 0 0),(.slice none 0 0)]) 128 ?_))
 intro w1 hBw1 hEw1 hzw1 hlw1
 refine zb 1 [(3,(vI 0))] (zz (zb 1 [(12,(.int .i64 n))] (za (zt (ziH n _ (by omega)) ?_))))
 rintro _ w2 ⟨rfl,hEw2⟩
 have hzw2:=hEw2.size
 refine zb 5 [(5,(vI 1)),(4,(vI 0)),(15,(vI 1)),(14,(vI 0)),(11,(.tuple #[(vI 0),(vI 1)]))] (zM (zb 2 [(17,vT),(16,(vI 1))] (wEt (zk ?_))))
 refine wsr (zb 2 [(19,(vI 1)),(18,(vA [(vI 0),(.slice none 0 0),(.slice none 0 0)]))] (za (zC 128 w.heap.size 0 128 (vA [(vI 0),(.slice none 0 0),(.slice none 0 0)]) ([(vI 0),(.slice none 0 0),(.slice none 0 0)]) ([(vI 0),(.slice none 0 0),(.slice none 0 0)]) (hBw1.ext hEw2) (by kernel_rfl) (by first | decide |(simp;done)|(simp;omega)) (by simp [Value.oneCell']) ?_)))
 intro w3 hBw3 hCw3
 have hzw3:=hCw3.size
 rw [zv _ _ (by kernel_rfl)] at hBw3
 exact zb 1 [(3,(vI 1))] (zF (zj (zaQ (show zO Tryz.prog 50 _ _ (.cell 2 128) (vA [(vI 0),(.slice none 0 0),(.slice none 0 0)]) from ⟨⟨w.heap.size,0,none⟩,(by kernel_rfl),zE (T:=128) (vs:= [(vI 0),(.slice none 0 0),(.slice none 0 0)]) (hBw3).all (by kernel_rfl)⟩) (show zO Tryz.prog 50 _ _ (.tmp 3) (vI 1) by (show _=_;kernel_rfl)) (⟨_,_,rfl,Es.nil _ _ _ _,Es.nil _ _ _ _,(Ext.own (hEw1.trans hEw2) hCw3 (by omega))⟩))))
theorem zhl (n:Nat) {lo_c hi_c:Nat} {a_c:Option Addr} {n_c c_c:Nat} {c:List Nat} {lo_f hi_f:Nat} {a_f:Option Addr} {n_f c_f:Nat} {f:List Nat} (w:World) (h_c:Es (nv .i64) lo_c hi_c w a_c n_c c_c c) (h_f:Es (nv .i64) lo_f hi_f w a_f n_f c_f f) (hp0:c=za9 n (hgt n+1)) (hp1:f=zbk n (hgt n+1)) (hp2:1≤n) (hp3:n≤4096):
  Calls Tryz.prog 61 #[(vA [(vI n),(.slice a_c n_c c_c),(.slice a_f n_f c_f)])] w (Ret fun r w'=>r=(vI (tot n))∧Ext w w'):=by
 refine zw (n:=12) (σ:= [(0,(vA [(vI n),(.slice a_c n_c c_c),(.slice a_f n_f c_f)]))]) Tryz.func61 rfl ?_
 replace h_c:=h_c.now;have hle_c:=h_c.le
 replace h_f:=h_f.now;have hle_f:=h_f.le
 have hlc:=h_c.len_eq;rw [hp0,zck] at hlc
 have hlf:=h_f.len_eq;rw [hp1,zcC] at hlf
 have h5:=zam n
 have hts:=zau hp3
 have htt:=zcq hp2 hp3
 have hgf:gt f (n_f-1)=num n (hgt n):=by rw [show n_f-1=hgt n from by omega,hp1];exact zcM (by omega)
 refine wsr (za (zS (Instr.box 128 (vA [(vI n),(.slice a_c n_c c_c),(.slice a_f n_f c_f)])) (vP w.heap.size 0) ([(vI n),(.slice a_c n_c c_c),(.slice a_f n_f c_f)]) 128 ?_))
 intro w1 hBw1 hEw1 hzw1 hlw1
 refine zb 1 [(2,(vI 0))] (zz (zb 1 [(3,(vP w.heap.size 2))] (za (zm w.heap.size 2 (hBw1.cell rfl) ?_))))
 refine zb 1 [(5,(vP w.heap.size 2))] (za (zm w.heap.size 2 (hBw1.cell rfl) ?_))
 refine zb 1 [(7,(vI n_f))] (za (zb5 8 n_f 1 (n_f-1) ?_))
 obtain ⟨b1,o1,rfl⟩:=h_f.addr (by omega)
 refine za (zan b1 o1 n_f c_f (n_f-1) 1 ?_)
 refine za (zm b1 (o1+(n_f-1)*1) ((h_f.ext hEw1).celln (by omega)) ?_)
 refine za (zJ 11 (gt f (n_f-1)) 1 (tot n) ?_)
 exact zb 1 [(2,(vI (tot n)))] (zF (zh (vI (tot n)) (⟨rfl,hEw1⟩)))
theorem ze8 (n:Nat) {lo_c hi_c:Nat} {a_c:Option Addr} {n_c c_c:Nat} {c:List Nat} {lo_f hi_f:Nat} {a_f:Option Addr} {n_f c_f:Nat} {f:List Nat} (v:Nat) (j:Nat) (w:World) (h_c:Es (nv .i64) lo_c hi_c w a_c n_c c_c c) (h_f:Es (nv .i64) lo_f hi_f w a_f n_f c_f f) (hp0:c=za9 n (hgt n+1)) (hp1:f=zbk n (hgt n+1)) (hp2:1≤n) (hp3:n≤4096) (hp4:v≤hgt n) (hp5:j<cnt n v):
  Calls Tryz.prog 64 #[(vA [(vI n),(.slice a_c n_c c_c),(.slice a_f n_f c_f)]),(vI v),(vI j)] w (Ret fun r w'=>r=(vI (num n v+j))∧Ext w w'):=by
 refine zw (n:=14) (σ:= [(0,(vA [(vI n),(.slice a_c n_c c_c),(.slice a_f n_f c_f)])),(1,(vI v)),(2,(vI j))]) Tryz.func64 rfl ?_
 replace h_c:=h_c.now;have hle_c:=h_c.le
 replace h_f:=h_f.now;have hle_f:=h_f.le
 have hlc:=h_c.len_eq;rw [hp0,zck] at hlc
 have hlf:=h_f.len_eq;rw [hp1,zcC] at hlf
 have h5:=zam n
 have hts:=zau hp3
 have htt:=zcq hp2 hp3
 have hgf:gt f v=num n v:=by rw [hp1];exact zcM (by omega)
 have hpl:=zaL (n:=n) (l:=v) (j:=j) hp4 hp5
 refine wsr (za (zS (Instr.box 128 (vA [(vI n),(.slice a_c n_c c_c),(.slice a_f n_f c_f)])) (vP w.heap.size 0) ([(vI n),(.slice a_c n_c c_c),(.slice a_f n_f c_f)]) 128 ?_))
 intro w1 hBw1 hEw1 hzw1 hlw1
 refine zb 1 [(6,(vI 0))] (zz (zb 1 [(7,(vP w.heap.size 2))] (za (zm w.heap.size 2 (hBw1.cell rfl) ?_))))
 refine zb 1 [(9,(vI v))] ?_
 obtain ⟨b1,o1,rfl⟩:=h_f.addr (by omega)
 refine za (zan b1 o1 n_f c_f v 1 ?_)
 refine za (zm b1 (o1+v*1) ((h_f.ext hEw1).celln (by omega)) ?_)
 refine zb 1 [(12,(vI j))] (za (zJ 13 (gt f v) j (num n v+j) ?_))
 exact zb 1 [(6,(vI (num n v+j)))] (zF (zh (vI (num n v+j)) (⟨rfl,hEw1⟩)))
end Go.Proofs.YtkmhgepdhilllaaGreatDoor
namespace Go.Proofs.YtkmhgepdhilllaaGreatDoor
open Go Go.RowKit Go.Cs
set_option maxRecDepth 100000
theorem zvK (j:Nat) (b2:Nat) {lo_t hi_t:Nat} {a_t:Option Addr} {n_t c_t:Nat} {t:List Nod} (b3 n:Nat) {lo_c hi_c:Nat} {a_c:Option Addr} {n_c c_c:Nat} {c:List Nat} {a_f:Option Addr} {n_f c_f:Nat} (b4:Nat) (w:World) (hX2:Blk w b2 [.slice a_t n_t c_t] 42) (h_t:Ms zH 274 lo_t hi_t w a_t n_t c_t t) (hX3:Blk w b3 [vI n, .slice a_c n_c c_c, .slice a_f n_f c_f] 128) (h_c:Es (nv .i64) lo_c hi_c w a_c n_c c_c c) (hX4:Blk w b4 [(.func (.func 141) #[] #[(vP b2 0),(vP b3 0),(vP b4 0)])] 91) (hp0:c=za9 n (hgt n+1)) (hp1:n_t=tot n) (hp2:1≤n) (hp3:n≤4096) (hp4:j<cnt n 0):
  Calls Tryz.prog 141 #[(vI 0),(vI j),(vP b2 0),(vP b3 0),(vP b4 0)] w (Ret fun r w'=>r=(.bool (emP n t 0 j))∧Ext w w'):=by
 refine zw (n:=39) (σ:= [(0,(vI 0)),(1,(vI j)),(2,(vP b2 0)),(3,(vP b3 0)),(4,(vP b4 0))]) Tryz.func141 rfl ?_
 have hlc:=h_c.len_eq;rw [hp0,zck] at hlc
 have hlt:=h_t.len_eq
 have h5:=zam n
 have hts:=zau hp3
 have hle:=h_t.le
 have hb2:=hX2.lt;have hb3:=hX3.lt;have hb4:=hX4.lt
 have hpl:=zaL (n:=n) (l:=0) (j:=j) (by omega) hp4
 have hnum:num n 0=0:=rfl
 have hnd:ndA n t 0 j=t.getD j Nod.zero:=by unfold ndA;rw [hnum,Nat.zero_add]
 refine wsr (zb 1 [(7,vF)] (zM (zb 1 [(9,(vI 0))] (za (zdI 10 0 0 ?_)))))
 refine wEt (zk (wsr (za (zm b2 0 (hX2.cell rfl) ?_))))
 refine zb 1 [(12,(vI j))] ?_
 obtain ⟨b1,o1,rfl⟩:=h_t.addr (by omega) (by decide)
 refine za (zan b1 o1 n_t c_t j 274 ?_)
 refine za (zQ b1 (o1+j*274) (h_t.at Nod.zero (by omega)) (zN _) ?_)
 refine za (zt (zlf (t.getD j Nod.zero) _) ?_)
 rintro _ w1 ⟨rfl,hEw1⟩
 have hzw1:=hEw1.size
 refine za (zaI 16 (usd (t.getD j Nod.zero) 4) 0 (fun hc16=> ?_) (fun hc16=> ?_))
 ·exact zb 1 [(7,vT)] (zF (zj (zh vT (⟨congrArg (fun z:Bool=>Value.bool z) (by rw [emP,hnd];exact (beq_iff_eq.2 hc16).symm),hEw1⟩))))
 ·exact zb 1 [(7,vF)] (zF (zj (zh vF (⟨congrArg (fun z:Bool=>Value.bool z) (by rw [emP,hnd];exact (beq_eq_false_iff_ne.2 hc16).symm),hEw1⟩))))
theorem zvE (v:Nat) (j:Nat) (b2:Nat) {lo_t hi_t:Nat} {a_t:Option Addr} {n_t c_t:Nat} {t:List Nod} (b3 n:Nat) {lo_c hi_c:Nat} {a_c:Option Addr} {n_c c_c:Nat} {c:List Nat} {a_f:Option Addr} {n_f c_f:Nat} (b4:Nat) (w:World) (hX2:Blk w b2 [.slice a_t n_t c_t] 42) (h_t:Ms zH 274 lo_t hi_t w a_t n_t c_t t) (hX3:Blk w b3 [vI n, .slice a_c n_c c_c, .slice a_f n_f c_f] 128) (h_c:Es (nv .i64) lo_c hi_c w a_c n_c c_c c) (hX4:Blk w b4 [(.func (.func 141) #[] #[(vP b2 0),(vP b3 0),(vP b4 0)])] 91) (hp0:c=za9 n (hgt n+1)) (hp1:n_t=tot n) (hp2:1≤n) (hp3:n≤4096) (hp4:v≤hgt n) (hp5:j<cnt n v) (hp6:v≠0) (hih:∀(j:Nat) (lo_t hi_t lo_c hi_c:Nat) (w:World),Blk w b2 [.slice a_t n_t c_t] 42→Ms zH 274 lo_t hi_t w a_t n_t c_t t→Blk w b3 [vI n, .slice a_c n_c c_c, .slice a_f n_f c_f] 128→Es (nv .i64) lo_c hi_c w a_c n_c c_c c→Blk w b4 [(.func (.func 141) #[] #[(vP b2 0),(vP b3 0),(vP b4 0)])] 91→j<cnt n (v-1)→Calls Tryz.prog 141 #[vI (v-1),vI j,vP b2 0,vP b3 0,vP b4 0] w (Ret fun r w'=>r= .bool (emP n t (v-1) j)∧Ext w w')):
  Calls Tryz.prog 141 #[(vI v),(vI j),(vP b2 0),(vP b3 0),(vP b4 0)] w (Ret fun r w'=>r=(.bool (emP n t v j))∧Ext w w'):=by
 refine zw (n:=39) (σ:= [(0,(vI v)),(1,(vI j)),(2,(vP b2 0)),(3,(vP b3 0)),(4,(vP b4 0))]) Tryz.func141 rfl ?_
 have hlc:=h_c.len_eq;rw [hp0,zck] at hlc
 have hlt:=h_t.len_eq
 have h5:=zam n
 have hts:=zau hp3
 have hle:=h_t.le
 have hb2:=hX2.lt;have hb3:=hX3.lt;have hb4:=hX4.lt
 have hcn:=zbl n v
 have hup:=zcO (n:=n) (l:=v) (by omega)
 have hcm:=zbl n (v-1)
 have hgc:gt c (v-1)=cnt n (v-1):=by rw [hp0];exact zfy (by omega)
 refine wsr (zb 1 [(7,vF)] (zM (zb 1 [(9,(vI v))] (za (zdv 10 v 0 ?_)))))
 refine wEt (zf (zl (zc (zd (wsr (zb 1 [(17,(vI j))] (za (zcg 18 4 j (4*j) ?_))))))))
 refine zb 1 [(8,(vI (4*j)))] (wEt (zp (zU (X:=Nat) (fun x=> [(8,(vI (4*j+x)))]) [7,19,20,21,22,23,24,25,26,27,28,29,30,31,32,33,34,35,36,37,38] (fun x w1=>x≤prt n v j∧(∀y,y<x→emP n t (v-1) (4*j+y)=true)∧Ext w w1) (fun x=>4-x) 0 (by kernel_rfl) ⟨Nat.zero_le _,fun y h=>absurd h (Nat.not_lt_zero _),(Ext.refl _)⟩ ?_)))
 rintro x dw1 w1 ⟨hx,hal,hEl⟩
 have hzl:=hEl.size
 have hp4:=zdo n v j
 have hlw:=fun h4=>zbm (n:=n) (l:=v) (j:=j) (w:=x) h4
 refine zd (wsr (zb 2 [(20,(vI j)),(19,(vI (4*j+x)))] (za (zJ 21 j 1 (j+1) ?_))))
 refine za (zcg 22 4 (j+1) (4*(j+1)) ?_)
 refine zb 1 [(23,(vP b3 1))] (za (zm b3 1 ((hX3.ext hEl).cell rfl) ?_))
 refine zb 1 [(25,(vI v))] (za (zb5 26 v 1 (v-1) ?_))
 obtain ⟨b1,o1,rfl⟩:=h_c.addr (by omega)
 refine za (zan b1 o1 n_c c_c (v-1) 1 ?_)
 refine za (zm b1 (o1+(v-1)*1) ((h_c.ext hEl).celln (by omega)) ?_)
 refine za (zju (some 29) (.int .i64 (if ((gt c (v-1):Nat):Int)<((4*(j+1):Nat):Int) then ((gt c (v-1):Nat):Int) else ((4*(j+1):Nat):Int))) (vI (min (4*(j+1)) (gt c (v-1)))) (congrArg _ (zmt _ _)) ?_)
 refine za (zag 30 (4*j+x) (min (4*(j+1)) (gt c (v-1))) (fun hc30=> ?_) (fun hc30=> ?_))
 ·have hx4:x<4:=by omega
  have hxp:x<prt n v j:=(hlw hx4).2 (by omega)
  refine wEt (zk (zl (zc (zd (zp (wsr (za (zm b4 0 ((hX4.ext hEl).cell rfl) ?_))))))))
  refine zb 1 [(34,(vI v))] (za (zb5 35 v 1 (v-1) ?_))
  refine zb 1 [(36,(vI (4*j+x)))] ?_
  rcases (show emP n t (v-1) (4*j+x)=true∨emP n t (v-1) (4*j+x)=false by cases emP n t (v-1) (4*j+x)<;>simp) with he | he
  ·refine za (zcL (some 37) (hih (4*j+x) _ _ _ _ _ (hX2.ext hEl) (h_t.ext hEl) (hX3.ext hEl) (h_c.ext hEl) (hX4.ext hEl) (by omega)) ?_)
   rintro _ w2 ⟨rfl,hEw2⟩
   have hzw2:=hEw2.size
   rw [show emP n t (v-1) (4*j+x)=true from he]
   refine zb 1 [(38,vF)] (wEt (zf (zl (zi (zc (zg (zb 1 [(31,(vI (4*j+x)))] (za (zJ 32 (4*j+x) 1 (4*j+x+1) ?_)))))))))
   refine zb 1 [(8,(vI (4*j+x+1)))] (zq (zn (zG (x+1) ?_ ?_)))
   ·exact ⟨by omega,fun y hy=>by rcases Nat.lt_succ_iff_lt_or_eq.1 hy with h1 | rfl;exact hal y h1;exact he,(hEl.trans hEw2)⟩
   ·first | omega |(dsimp only;omega)
  ·refine za (zcL (some 37) (hih (4*j+x) _ _ _ _ _ (hX2.ext hEl) (h_t.ext hEl) (hX3.ext hEl) (h_c.ext hEl) (hX4.ext hEl) (by omega)) ?_)
   rintro _ w3 ⟨rfl,hEw3⟩
   have hzw3:=hEw3.size
   rw [show emP n t (v-1) (4*j+x)=false from he]
   refine zb 1 [(38,vT)] (wEt (zk (wsr (zb 1 [(7,vF)] (zF ?_)))))
   refine zu (zj (zj (zu (zj (zh vF ?_)))))
   obtain ⟨u,rfl⟩:∃u,v=u+1:=⟨v-1,by omega⟩
   exact ⟨congrArg (fun z:Bool=>Value.bool z) ((ztQ (l:=u) hxp he).symm),(hEl.trans hEw3)⟩
 ·have hxe:x=prt n v j:=by rcases Nat.lt_or_ge x (prt n v j) with hh | hh;exact absurd ((hlw (by omega)).1 hh) (by omega);omega
  refine wEt (zf (zP (zo (zo (zD (zc (wsr ?_)))))))
  refine zb 1 [(7,vT)] (zF (zh vT ?_))
  obtain ⟨u,rfl⟩:∃u,v=u+1:=⟨v-1,by omega⟩
  exact ⟨congrArg (fun z:Bool=>Value.bool z) (((zk8 (l:=u)).2 (fun y hy=>hal y (by omega))).symm),hEl⟩
theorem zqc {b2 b3 b4:Nat} {a_t:Option Addr} {n_t c_t:Nat} {t:List Nod} {n:Nat} {a_c:Option Addr} {n_c c_c:Nat} {c:List Nat} {a_f:Option Addr} {n_f c_f:Nat} (h1:1≤n) (h2:n≤4096) (h3:n_t=tot n) (h4:c=za9 n (hgt n+1)):∀(v j lo_t hi_t lo_c hi_c:Nat) (w:World),Blk w b2 [.slice a_t n_t c_t] 42→Ms zH 274 lo_t hi_t w a_t n_t c_t t→Blk w b3 [vI n, .slice a_c n_c c_c, .slice a_f n_f c_f] 128→Es (nv .i64) lo_c hi_c w a_c n_c c_c c→Blk w b4 [(.func (.func 141) #[] #[(vP b2 0),(vP b3 0),(vP b4 0)])] 91→v≤hgt n→j<cnt n v→
  Calls Tryz.prog 141 #[vI v,vI j,vP b2 0,vP b3 0,vP b4 0] w (Ret fun r w'=>r= .bool (emP n t v j)∧Ext w w')
 | 0,j,_,_,_,_,w,x2,xt,x3,xc,x4,_,hj=>zvK j b2 b3 n b4 w x2 xt x3 xc x4 h4 h3 h1 h2 hj
 | v+1,j,_,_,_,_,w,x2,xt,x3,xc,x4,hv,hj=>zvE (v+1) j b2 b3 n b4 w x2 xt x3 xc x4 h4 h3 h1 h2 hv hj (Nat.succ_ne_zero v) (fun j' lo1 hi1 lo2 hi2 w' y2 yt y3 yc y4 hj'=>zqc h1 h2 h3 h4 v j' lo1 hi1 lo2 hi2 w' y2 yt y3 yc y4 (by omega) hj')
theorem zeQ (v:Nat) (j:Nat) (b2:Nat) {lo_t hi_t:Nat} {a_t:Option Addr} {n_t c_t:Nat} {t:List Nod} (b3 n:Nat) {lo_c hi_c:Nat} {a_c:Option Addr} {n_c c_c:Nat} {c:List Nat} {a_f:Option Addr} {n_f c_f:Nat} (b4:Nat) (w:World) (hX2:Blk w b2 [.slice a_t n_t c_t] 42) (h_t:Ms zH 274 lo_t hi_t w a_t n_t c_t t) (hX3:Blk w b3 [vI n, .slice a_c n_c c_c, .slice a_f n_f c_f] 128) (h_c:Es (nv .i64) lo_c hi_c w a_c n_c c_c c) (hX4:Blk w b4 [(.func (.func 141) #[] #[(vP b2 0),(vP b3 0),(vP b4 0)])] 91) (hp0:c=za9 n (hgt n+1)) (hp1:n_t=tot n) (hp2:1≤n) (hp3:n≤4096) (hp4:v≤hgt n) (hp5:j<cnt n v):
  Calls Tryz.prog 141 #[(vI v),(vI j),(vP b2 0),(vP b3 0),(vP b4 0)] w (Ret fun r w'=>r=(.bool (emP n t v j))∧Ext w w'):=by
 exact zqc hp2 hp3 hp1 hp0 v j _ _ _ _ w hX2 h_t hX3 h_c hX4 hp4 hp5
end Go.Proofs.YtkmhgepdhilllaaGreatDoor
namespace Go.Proofs.YtkmhgepdhilllaaGreatDoor
open Go Go.RowKit Go.Cs
set_option maxRecDepth 100000
theorem zsX (n:Nat) {lo_c hi_c:Nat} {a_c:Option Addr} {n_c c_c:Nat} {c:List Nat} {lo_f hi_f:Nat} {a_f:Option Addr} {n_f c_f:Nat} {f:List Nat} {lo_t hi_t:Nat} {a_t:Option Addr} {n_t c_t:Nat} {t:List Nod} (w:World) (h_c:Es (nv .i64) lo_c hi_c w a_c n_c c_c c) (h_f:Es (nv .i64) lo_f hi_f w a_f n_f c_f f) (h_t:Ms zH 274 lo_t hi_t w a_t n_t c_t t):
  Calls Tryz.prog 123 #[(vA [(vI n),(.slice a_c n_c c_c),(.slice a_f n_f c_f)]),(.slice a_t n_t c_t)] w (Ret fun r w'=>∃(a0:Nat) (a0y:Nat) (a0z:Nat),r=(.func (.func 141) #[] #[(vP a0 0),(vP a0y 0),(vP a0z 0)])∧(w.heap.size≤a0∧w.heap.size≤a0y∧w.heap.size≤a0z)∧Blk w' a0 [.slice a_t n_t c_t] 42∧Blk w' a0y [vI n, .slice a_c n_c c_c, .slice a_f n_f c_f] 128∧Blk w' a0z [(.func (.func 141) #[] #[(vP a0 0),(vP a0y 0),(vP a0z 0)])] 91∧Ext w w'):=by
 refine zw (n:=8) (σ:= [(0,(vA [(vI n),(.slice a_c n_c c_c),(.slice a_f n_f c_f)])),(1,(.slice a_t n_t c_t))]) Tryz.func123 rfl ?_
 replace h_c:=h_c.now;have hle_c:=h_c.le
 replace h_f:=h_f.now;have hle_f:=h_f.le
 replace h_t:=h_t.now;have hle_t:=h_t.le
 refine wsr (za (zS (Instr.box 128 (vA [(vI n),(.slice a_c n_c c_c),(.slice a_f n_f c_f)])) (vP w.heap.size 0) ([(vI n),(.slice a_c n_c c_c),(.slice a_f n_f c_f)]) 128 ?_))
 intro w1 hBw1 hEw1 hzw1 hlw1
 refine za (zS (Instr.box 42 (.slice a_t n_t c_t)) (vP w1.heap.size 0) ([(.slice a_t n_t c_t)]) 42 ?_)
 intro w2 hBw2 hEw2 hzw2 hlw2
 refine zb 1 [(4, .nilFunc)] (zz (za (zad ([.nilFunc]) 91 ?_)))
 intro w3 hBw3 hEw3 hzw3 hlw3
 refine zz (zb 1 [(6,(.func (.func 141) #[] #[(vP w1.heap.size 0),(vP w.heap.size 0),(vP w2.heap.size 0)]))] (za (zah 91 w2.heap.size 0 91 (.func (.func 141) #[] #[(vP w1.heap.size 0),(vP w.heap.size 0),(vP w2.heap.size 0)]) ([.nilFunc]) hBw3 (by first | decide |(simp;done)|(simp;omega)) ?_)))
 intro w4 hBw4 hCw4
 have hzw4:=hCw4.size
 replace hBw4:=hBw4.set1
 refine zz (za (zm w2.heap.size 0 (hBw4.cell rfl) ?_))
 refine zb 1 [(4,(.func (.func 141) #[] #[(vP w1.heap.size 0),(vP w.heap.size 0),(vP w2.heap.size 0)]))] (zF (zh (.func (.func 141) #[] #[(vP w1.heap.size 0),(vP w.heap.size 0),(vP w2.heap.size 0)]) ?_))
 have hK1:=(((hBw1.ext hEw2).ext hEw3).chg hCw4)
 have hX1:Ext w w4:=(Ext.own ((hEw1.trans hEw2).trans hEw3) hCw4 (by omega))
 exact ⟨w1.heap.size,w.heap.size,w2.heap.size,rfl,by omega,((hBw2.ext hEw3).chg hCw4),hK1,hBw4,hX1⟩
end Go.Proofs.YtkmhgepdhilllaaGreatDoor
namespace Go.Cs
open Go Go.RowKit Go.Extern.Stop Go.Stop Go.Extern
theorem zkx (z:Sem Value) (f:TypeId→Addr→Nat→Nat→Sem Value) (v:Value):
  ReflectliteValue.method z f #[v]=(do match←ReflectliteValue.parts v with | none=>z | some (t,a,fl)=>f t a fl (fl%32)):=rfl
theorem zva (v x:Value):ReflectliteValue.set #[v,x]=(do
  let (some (dst,a,fl),some (src,b,_)):=(←ReflectliteValue.parts v,←ReflectliteValue.parts x)
   | unsupported (.noEntry "extern/(internal/reflectlite.Value).Set.zeroValue")
  if fl/ReflectliteValue.flagAddr%2==0 then unsupported (.noEntry "extern/(internal/reflectlite.Value).Set.unaddressable")
  let val←loadVar src b
  if←Rtype.directlyAssignable dst src then storeVar dst a val
  else if←Rtype.implements dst src then
   if (←Rtype.kind src)==20 then
    match val with
    | .nilIface=>unsupported (.noEntry "extern/reflectlite: a nil value of one interface type handed on as a value of another")
    | _=>storeVar dst a val
   else storeVar dst a (.iface src val)
  else panicString ("reflectlite.Set: value of type " ++(←Rtype.spelt src)++ " is not assignable to type " ++(←Rtype.spelt dst))
  pure (.tuple #[])):=rfl
theorem zjn {P:Program} {T b e:Nat} {w:World} {cs vs:List Value} (hB:Blk w b cs e) (hsz:(P.info? T).map (·.size)=some vs.length) (hl:cs.length=vs.length) (h1:∀u∈vs,u.oneCell'=true):
  ∃w',(storeVar T ⟨b,0,none⟩ (.agg vs.toArray)).run P w= .ok () w'∧Blk w' b vs e∧Chg (· =b) w w':=by
 obtain ⟨w',h2,h3,h4⟩:=zcK (P:=P) vs w b 0 0 cs e hB (by omega) h1
 refine ⟨w', ?_, ?_,h4⟩
 ·have h5:=zbA (w:=w) hsz
  simp [storeVar,Value.cells,h5,h2]
 ·have:zZ cs 0 vs=vs:=zv _ _ hl.symm
  rw [←this];simpa using h3
end Go.Cs
namespace Go.Proofs.YtkmhgepdhilllaaGreatDoor
open Go Go.RowKit Go.Cs
set_option maxRecDepth 100000
open Go.Extern.Stop Go.Stop Go.Extern
theorem zrD (t:Value) (w:World):Calls Tryz.prog 122 #[.nilIface,t] w fun e w'=>e= .returned (.bool false)∧w'=w:=by
 go_enter Tryz.func122,Tryz.ntmps122
 go_wp2
 go_ret
 exact ⟨rfl,rfl⟩
theorem zkZ (t:Addr) (w:World):(ReflectliteValue.unpack (.iface 200 (.pointer (some t)))).run Tryz.prog w= .ok (.agg #[.pointer (some ⟨4,200,none⟩), .pointer (some ⟨w.heap.size,0,none⟩), .int .u64 150]) (w.alloc (.cells #[.pointer (some t)] 200)):=by kernel_rfl
theorem zoI (a:Addr) (w:World):(ReflectliteValue.methodAny (ReflectliteValue.valueError "reflectlite.Value.Type" 0) (fun t _ _ _=>ReflectliteType.toType t) #[.agg #[.pointer (some ⟨4,200,none⟩), .pointer (some a), .int .u64 150]]).run Tryz.prog w= .ok (.iface 227 (.agg #[.pointer (some ⟨4,200,none⟩)])) w:=by kernel_rfl
theorem zoZ (h:Value) (w:World):(Go.method 372 227 (.agg #[h]) "Kind").run Tryz.prog w= .ok (167,h) w:=by kernel_rfl
theorem zoY (w:World):((ReflectliteType.abiMethod fun t=>(fun a:Nat=>Value.int IntKind.u8 (a:Int))<$>Rtype.kind t) #[.pointer (some ⟨4,200,none⟩)]).run Tryz.prog w= .ok (.int .u8 22) w:=by kernel_rfl
theorem znW (w:World):((ReflectliteType.abiMethod fun t=>(fun a:Nat=>Value.int IntKind.u8 (a:Int))<$>Rtype.kind t) #[.pointer (some ⟨4,198,none⟩)]).run Tryz.prog w= .ok (.int .u8 25) w:=by kernel_rfl
theorem ziN (a:Addr) (w:World):(ReflectliteValue.parts (.agg #[.pointer (some ⟨4,200,none⟩), .pointer (some a), .int .u64 150])).run Tryz.prog w= .ok (some (200,a,150)) w:=by kernel_rfl
theorem zmP (a p:Addr) (W:World) (ha:W.cell? a=some (.pointer (some p))):
  (ReflectliteValue.method (ReflectliteValue.valueError "reflectlite.Value.IsNil" 0) ReflectliteValue.isNil #[.agg #[.pointer (some ⟨4,200,none⟩), .pointer (some a), .int .u64 150]]).run Tryz.prog W= .ok (.bool false) W:=by
 rw [zkx]
 simp only [Sem.run_bind,ziN,Result.andThen]
 simp [ReflectliteValue.isNil,loadVar,isAgg,underlying,Tryz.underlying200,ha,Result.andThen]
theorem zoC (h:Value) (w:World):(Go.method 372 227 (.agg #[h]) "Elem").run Tryz.prog w= .ok (178, .agg #[h]) w:=by kernel_rfl
theorem zoQ (h:Value) (w:World):(Go.method 372 227 (.agg #[h]) "Implements").run Tryz.prog w= .ok (179, .agg #[h]) w:=by kernel_rfl
theorem zp8 (h:Value) (w:World):(Go.method 372 227 (.agg #[h]) "AssignableTo").run Tryz.prog w= .ok (176, .agg #[h]) w:=by kernel_rfl
theorem zn9 (w:World):(ReflectliteType.method ReflectliteType.elem #[.agg #[.pointer (some ⟨4,200,none⟩)]]).run Tryz.prog w= .ok (.iface 227 (.agg #[.pointer (some ⟨4,198,none⟩)])) w:=by kernel_rfl
theorem znX (w:World):(ReflectliteType.relation "Implements" ReflectliteType.implements_ #[.agg #[.pointer (some ⟨4,198,none⟩)], .iface 227 (.agg #[.pointer (some ⟨4,160,none⟩)])]).run Tryz.prog w= .ok (.bool true) w:=by kernel_rfl
theorem zlC (v:Value) (w:World):(ReflectliteType.typeOf #[.iface 198 v]).run Tryz.prog w= .ok (.iface 227 (.agg #[.pointer (some ⟨4,198,none⟩)])) w:=by kernel_rfl
theorem zpn (w:World):(ReflectliteType.relation "AssignableTo" ReflectliteType.assignableTo #[.agg #[.pointer (some ⟨4,198,none⟩)], .iface 227 (.agg #[.pointer (some ⟨4,198,none⟩)])]).run Tryz.prog w= .ok (.bool true) w:=by kernel_rfl
theorem zkX (x y:Value) (w:World):(ReflectliteValue.unpack (.iface 198 (.agg #[x,y]))).run Tryz.prog w= .ok (.agg #[.pointer (some ⟨4,198,none⟩), .pointer (some ⟨w.heap.size,0,none⟩), .int .u64 153]) (w.alloc (.cells #[x,y] 198)):=by kernel_rfl
theorem zm3 (w:World):(Rtype.elem? 200).run Tryz.prog w= .ok (some 198) w:=by kernel_rfl
theorem zr5 (p:Addr) (w:World):(ReflectliteValue.mk 198 p ReflectliteValue.flagAddr).run Tryz.prog w= .ok (.agg #[.pointer (some ⟨4,198,none⟩), .pointer (some p), .int .u64 409]) w:=by kernel_rfl
theorem zoO (a p:Addr) (W:World) (ha:W.cell? a=some (.pointer (some p))):
  (ReflectliteValue.method (ReflectliteValue.valueError "reflectlite.Value.Elem" 0) ReflectliteValue.elem #[.agg #[.pointer (some ⟨4,200,none⟩), .pointer (some a), .int .u64 150]]).run Tryz.prog W= .ok (.agg #[.pointer (some ⟨4,198,none⟩), .pointer (some p), .int .u64 409]) W:=by
 rw [zkx]
 simp only [Sem.run_bind,ziN,Result.andThen]
 simp [ReflectliteValue.elem,loadVar,isAgg,underlying,Tryz.underlying200,ha,Result.andThen,zm3,zr5]
theorem zmT (a:Addr) (w:World):(ReflectliteValue.parts (.agg #[.pointer (some ⟨4,198,none⟩), .pointer (some a), .int .u64 409])).run Tryz.prog w= .ok (some (198,a,409)) w:=by kernel_rfl
theorem zmQ (a:Addr) (w:World):(ReflectliteValue.parts (.agg #[.pointer (some ⟨4,198,none⟩), .pointer (some a), .int .u64 153])).run Tryz.prog w= .ok (some (198,a,153)) w:=by kernel_rfl
theorem zmY (w:World):(Rtype.directlyAssignable 198 198).run Tryz.prog w= .ok true w:=by kernel_rfl
theorem zq3 {b s:Nat} {x y u v:Value} {W:World} (hs:Blk W s [x,y] 198) (hb:Blk W b [u,v] 198) (h1:x.oneCell'=true) (h2:y.oneCell'=true):
  ∃w',(ReflectliteValue.set #[.agg #[.pointer (some ⟨4,198,none⟩), .pointer (some ⟨b,0,none⟩), .int .u64 409], .agg #[.pointer (some ⟨4,198,none⟩), .pointer (some ⟨s,0,none⟩), .int .u64 153]]).run Tryz.prog W= .ok (.tuple #[]) w'∧Blk w' b [x,y] 198∧Chg (· =b) W w':=by
 obtain ⟨w',h3,h4,h5⟩:=zjn (P:=Tryz.prog) (T:=198) (vs:= [x,y]) hb (by kernel_rfl) rfl (by
  intro u hu;simp only [List.mem_cons,List.mem_nil_iff,or_false] at hu;rcases hu with rfl | rfl;exact h1;exact h2)
 refine ⟨w', ?_,h4,h5⟩
 have hl:=zE (P:=Tryz.prog) (T:=198) (hs.at 0 [x,y] rfl) (by kernel_rfl) (by kernel_rfl)
 rw [zva]
 simp only [Sem.run_bind,zmT,zmQ,Result.andThen]
 simp [ReflectliteValue.flagAddr,hl,Result.andThen,zmY,h3]
set_option maxHeartbeats 4000000 in
theorem zrp {b:Nat} {x y u v:Value} {w:World} (hg:Gl 2 [.iface 227 (.agg #[.pointer (some ⟨4,160,none⟩)])] w) (hb:Blk w b [u,v] 198) (h1:x.oneCell'=true) (h2:y.oneCell'=true):
  Calls Tryz.prog 122 #[.iface 198 (.agg #[x,y]), .iface 200 (.pointer (some ⟨b,0,none⟩))] w fun ev w'=>ev= .returned (.bool true)∧Blk w' b [x,y] 198∧Chg (· =b) w w':=by
 have h6:= @run_callFunc_extern Tryz.prog 137 _ (fun args=>ReflectliteValue.unpack (args.getD 0 (.tuple #[]))) Tryz.func137 (by kernel_rfl) (by kernel_rfl) (by kernel_rfl) (by kernel_rfl)
 have h7:= @run_callFunc_extern Tryz.prog 138 _ (ReflectliteValue.methodAny (ReflectliteValue.valueError "reflectlite.Value.Type" 0) (fun t _ _ _=>ReflectliteType.toType t)) Tryz.func138 (by kernel_rfl) (by kernel_rfl) (by kernel_rfl) (by kernel_rfl)
 have h8:= @run_callFunc_extern Tryz.prog 139 _ (ReflectliteValue.method (ReflectliteValue.valueError "reflectlite.Value.IsNil" 0) ReflectliteValue.isNil) Tryz.func139 (by kernel_rfl) (by kernel_rfl) (by kernel_rfl) (by kernel_rfl)
 have h27:= @run_callFunc_extern Tryz.prog 167 _ (ReflectliteType.abiMethod fun t=>do pure (.int .u8 (←Rtype.kind t))) Tryz.func167 (by kernel_rfl) (by kernel_rfl) (by kernel_rfl) (by kernel_rfl)
 have h37:= @run_callFunc_extern Tryz.prog 178 _ (ReflectliteType.method ReflectliteType.elem) Tryz.func178 (by kernel_rfl) (by kernel_rfl) (by kernel_rfl) (by kernel_rfl)
 have h38:= @run_callFunc_extern Tryz.prog 179 _ (ReflectliteType.relation "Implements" ReflectliteType.implements_) Tryz.func179 (by kernel_rfl) (by kernel_rfl) (by kernel_rfl) (by kernel_rfl)
 have h10:= @run_callFunc_extern Tryz.prog 146 _ ReflectliteType.typeOf Tryz.func146 (by kernel_rfl) (by kernel_rfl) (by kernel_rfl) (by kernel_rfl)
 have h35:= @run_callFunc_extern Tryz.prog 176 _ (ReflectliteType.relation "AssignableTo" ReflectliteType.assignableTo) Tryz.func176 (by kernel_rfl) (by kernel_rfl) (by kernel_rfl) (by kernel_rfl)
 have h11:= @run_callFunc_extern Tryz.prog 147 _ (ReflectliteValue.method (ReflectliteValue.valueError "reflectlite.Value.Elem" 0) ReflectliteValue.elem) Tryz.func147 (by kernel_rfl) (by kernel_rfl) (by kernel_rfl) (by kernel_rfl)
 have h12:= @run_callFunc_extern Tryz.prog 148 _ ReflectliteValue.set Tryz.func148 (by kernel_rfl) (by kernel_rfl) (by kernel_rfl) (by kernel_rfl)
 have tO:=zlC
 have mA:=zp8
 have aF:=zpn
 have vF:=zkX
 have f6:=zkZ
 have f7:=zoI
 have mK:=zoZ
 have mE:=zoC
 have mI:=zoQ
 have kP:=zoY
 have kF:=znW
 have eP:=zn9
 have iF:=znX
 have hbl:=hb.lt
 have hgl:=hg.lt
 have n8:=zmP ⟨w.heap.size,0,none⟩ ⟨b,0,none⟩ ((w.alloc (.cells #[.pointer (some ⟨b,0,none⟩)] 200)).alloc (.cells #[.pointer (some ⟨4,200,none⟩), .pointer (some ⟨w.heap.size,0,none⟩), .int .u64 150] 215)) (by simp)
 have hg0:w.cell? ⟨2,0,none⟩=some (.iface 227 (.agg #[.pointer (some ⟨4,160,none⟩)])):=hg.all 0 _ rfl
 have hg2:((w.alloc (.cells #[.pointer (some ⟨b,0,none⟩)] 200)).alloc (.cells #[.pointer (some ⟨4,200,none⟩), .pointer (some ⟨w.heap.size,0,none⟩), .int .u64 150] 215)).cell? ⟨2,0,none⟩=some (.iface 227 (.agg #[.pointer (some ⟨4,160,none⟩)])):=by
  rw [World.cell?_alloc_lt _ _ ⟨2,0,none⟩ (by simp;omega),World.cell?_alloc_lt _ _ ⟨2,0,none⟩ hgl];exact hg0
 have el:=zoO ⟨w.heap.size,0,none⟩ ⟨b,0,none⟩ (((w.alloc (.cells #[.pointer (some ⟨b,0,none⟩)] 200)).alloc (.cells #[.pointer (some ⟨4,200,none⟩), .pointer (some ⟨w.heap.size,0,none⟩), .int .u64 150] 215)).alloc (.cells #[.pointer (some ⟨4,200,none⟩), .pointer (some ⟨w.heap.size,0,none⟩), .int .u64 150] 215)) (by rw [World.cell?_alloc_lt _ _ ⟨w.heap.size,0,none⟩ (by simp;omega)];simp)
 have e1:=Ext.alloc w (.cells #[.pointer (some ⟨b,0,none⟩)] 200)
 have e2:=e1.trans (Ext.alloc _ (.cells #[.pointer (some ⟨4,200,none⟩), .pointer (some ⟨w.heap.size,0,none⟩), .int .u64 150] 215))
 have e3:=e2.trans (Ext.alloc _ (.cells #[.pointer (some ⟨4,200,none⟩), .pointer (some ⟨w.heap.size,0,none⟩), .int .u64 150] 215))
 have e4:=e3.trans (Ext.alloc _ (.cells #[x,y] 198))
 obtain ⟨wS,st,hBS,hCS⟩:=zq3 (s:=w.heap.size+1+1+1) (by have hz:=Blk.new (((w.alloc (.cells #[.pointer (some ⟨b,0,none⟩)] 200)).alloc (.cells #[.pointer (some ⟨4,200,none⟩), .pointer (some ⟨w.heap.size,0,none⟩), .int .u64 150] 215)).alloc (.cells #[.pointer (some ⟨4,200,none⟩), .pointer (some ⟨w.heap.size,0,none⟩), .int .u64 150] 215)) [x,y] 198;simpa using hz) (hb.ext e4) h1 h2
 go_enter Tryz.func122,Tryz.ntmps122
 go_wp2
 refine wp_loop_rounds 1 ?_
 rw [rounds_succ]
 go_wp2
 go_ret
 exact ⟨rfl,hBS,(Ext.chg e4).trans hCS⟩
end Go.Proofs.YtkmhgepdhilllaaGreatDoor
namespace Go.Proofs.YtkmhgepdhilllaaGreatDoor
open Go Go.RowKit Go.Cs
set_option maxRecDepth 100000
theorem zqs {b:Nat} {x y u v:Value} {w:World} (hg:Gl 2 [.iface 227 (.agg #[.pointer (some ⟨4,160,none⟩)])] w) (hb:Blk w b [u,v] 198) (h1:x.oneCell'=true) (h2:y.oneCell'=true):
  Calls Tryz.prog 122 #[.iface 198 (.agg #[x,y]), .iface 200 (.pointer (some ⟨b,0,none⟩))] w (Ret fun r w'=>r= .bool true∧Blk w' b [x,y] 198∧Chg (· =b) w w'):=
 (zrp hg hb h1 h2).mono fun e w' h=>⟨_,h.1,rfl,h.2⟩
theorem zpv (t:Value) (w:World):Calls Tryz.prog 122 #[.nilIface,t] w (Ret fun r w'=>r= .bool false∧w'=w):=
 (zrD t w).mono fun e w' h=>⟨_,h.1,rfl,h.2⟩
theorem zss (w:World):
  Calls Tryz.prog 92 #[.nilIface] w (Ret fun r w'=>r=(vI 0)∧Ext w w'):=by
 refine zw (n:=9) (σ:= [(0, .nilIface)]) Tryz.func92 rfl ?_
 refine wsr (zb 1 [(2,(vI 0))] (zz (za (zad ([(vI 0),(vI 0)]) 198 ?_))))
 intro w1 hBw1 hEw1 hzw1 hlw1
 refine zM (zb 2 [(5,(.iface 200 (vP w.heap.size 0))),(4, .nilIface)] (za (zcL (some 6) (zpv (.iface 200 (vP w.heap.size 0)) _) ?_)))
 rintro _ _ ⟨rfl,rfl⟩
 refine wEt (zf (zl (zc (wsr (zb 1 [(2,(vI 0))] (wEt ?_))))))
 exact zaH (zh (vI 0) (⟨rfl,hEw1⟩))
theorem zsU (k e:Nat) (w:World) (hg3:Gl 2 [.iface 227 (.agg #[.pointer (some ⟨4,160,none⟩)])] w):
  Calls Tryz.prog 92 #[(.iface 198 (vA [vI k,vI e]))] w (Ret fun r w'=>r=(vI e)∧Ext w w'):=by
 refine zw (n:=9) (σ:= [(0,(.iface 198 (vA [vI k,vI e])))]) Tryz.func92 rfl ?_
 have hgl3:=hg3.lt
 refine wsr (zb 1 [(2,(vI 0))] (zz (za (zad ([(vI 0),(vI 0)]) 198 ?_))))
 intro w1 hBw1 hEw1 hzw1 hlw1
 refine zM (zb 2 [(5,(.iface 200 (vP w.heap.size 0))),(4,(.iface 198 (vA [vI k,vI e])))] (za (zcL (some 6) (zqs (x:=vI k) (y:=vI e) (hg3.ext hEw1) hBw1 rfl rfl) ?_)))
 rintro _ w2 ⟨rfl,hBw2,hCw2⟩
 have hzw2:=hCw2.size
 refine wEt (zk (wsr (zb 1 [(7,(vP w.heap.size 1))] (za (zm w.heap.size 1 (hBw2.cell rfl) ?_)))))
 exact zb 1 [(2,(vI e))] (zF (zj (zh (vI e) (⟨rfl,(Ext.own hEw1 hCw2 (by omega))⟩))))
theorem zvF (k e:Nat) (w:World) (hg3:Gl 2 [.iface 227 (.agg #[.pointer (some ⟨4,160,none⟩)])] w):
  Calls Tryz.prog 92 #[(zok 198 k e)] w (Ret fun r w'=>r=(vI e)∧Ext w w'):=by
 by_cases h:e=0
 ·subst h;exact zss w
 ·rw [zcE h];exact zsU k e w hg3
end Go.Proofs.YtkmhgepdhilllaaGreatDoor
namespace Go.Proofs.YtkmhgepdhilllaaGreatDoor
open Go Go.RowKit Go.Cs
set_option maxRecDepth 100000
set_option maxHeartbeats 4000000 in
theorem zuh (n:Nat) {lo_c hi_c:Nat} {a_c:Option Addr} {n_c c_c:Nat} {c:List Nat} {lo_f hi_f:Nat} {a_f:Option Addr} {n_f c_f:Nat} {f:List Nat} {lo_t hi_t:Nat} {a_t:Option Addr} {n_t c_t:Nat} {t:List Nod} (w:World) (h_c:Es (nv .i64) lo_c hi_c w a_c n_c c_c c) (h_f:Es (nv .i64) lo_f hi_f w a_f n_f c_f f) (h_t:Ms zH 274 lo_t hi_t w a_t n_t c_t t) (hp0:c=za9 n (hgt n+1)) (hp1:f=zbk n (hgt n+1)) (hp2:1≤n) (hp3:n≤4096) (hp4:n_t=tot n) (hg0:Gl 0 [vI 45,vI 33] w) (hg1:Gl 1 (w8C zaV) w) (hg2:Gl 3 (zas kA) w):
  Calls Tryz.prog 93 #[(vA [(vI n),(.slice a_c n_c c_c),(.slice a_f n_f c_f)]),(vA [(vI n),(.slice a_t n_t c_t)])] w (Ret fun r w'=>∃(a0:Nat),r=(zok 198 a0 (zbZ n t))∧Ext w w'):=by
 refine zw (n:=123) (σ:= [(0,(vA [(vI n),(.slice a_c n_c c_c),(.slice a_f n_f c_f)])),(1,(vA [(vI n),(.slice a_t n_t c_t)]))]) Tryz.func93 rfl ?_
 replace h_c:=h_c.now;have hle_c:=h_c.le
 replace h_f:=h_f.now;have hle_f:=h_f.le
 replace h_t:=h_t.now;have hle_t:=h_t.le
 have hgl0:=hg0.lt
 have hgl1:=hg1.lt
 have hgl2:=hg2.lt
 have hlc:=h_c.len_eq;rw [hp0,zck] at hlc
 have hlf:=h_f.len_eq;rw [hp1,zcC] at hlf
 have h5:=zam n
 have hts:=zau hp3
 have htt:=zcq hp2 hp3
 have hlt:=h_t.len_eq
 have hle:=h_t.le
 have hln:1≤n_c:=by omega
 refine wsr (za (zS (Instr.box 128 (vA [(vI n),(.slice a_c n_c c_c),(.slice a_f n_f c_f)])) (vP w.heap.size 0) ([(vI n),(.slice a_c n_c c_c),(.slice a_f n_f c_f)]) 128 ?_))
 intro w1 hBw1 hEw1 hzw1 hlw1
 refine za (zS (Instr.box 44 (vA [(vI n),(.slice a_t n_t c_t)])) (vP w1.heap.size 0) ([(vI n),(.slice a_t n_t c_t)]) 44 ?_)
 intro w2 hBw2 hEw2 hzw2 hlw2
 refine zb 1 [(4, .nilIface)] (zz (za (zV w.heap.size 0 ((hBw1.ext hEw2).all) ?_)))
 refine zb 1 [(16,(vP w1.heap.size 1))] (za (zm w1.heap.size 1 (hBw2.cell rfl) ?_))
 refine za (zt (zsX n _ ((h_c.ext hEw1).ext hEw2) ((h_f.ext hEw1).ext hEw2) ((h_t.ext hEw1).ext hEw2)) ?_)
 rintro _ w3 ⟨a1,a1y,a1z,rfl,hFz1_0,hFz1_1,hFz1_2,hFz1_3,hEw3⟩
 have hzw3:=hEw3.size
 have hla1:=hFz1_1.lt;have hla1y:=hFz1_2.lt;have hla1z:=hFz1_3.lt
 refine zb 1 [(5,(.func (.func 141) #[] #[(vP a1 0),(vP a1y 0),(vP a1z 0)]))] (zM (zb 1 [(19,(vP w.heap.size 1))] (za (zm w.heap.size 1 (((hBw1.ext hEw2).ext hEw3).cell rfl) ?_))))
 refine zb 2 [(22,(vI 0)),(21,(vI n_c))] (wEt (zp (zU (X:=Nat) (fun v=> [(22,(vI v))]) [4,6,7,8,9,10,11,12,13,14,23,24,25,26,27,28,29,30,31,32,33,34,35,36,37,38,39,40,41,42,43,44,45,46,47,48,49,50,51,52,53,54,55,56,57,58,59,60,61,62,63,64,65,66,67,68,69,70,71,72,73,74,75,76,77,78,79,80,81,82,83,84,85,86,87,88,89,90,91,92,93,94,95,96,97,98,99,100,101,102,103,104,105,106,107,108,109,110,111,112,113,114,115,116,117,118,119,120,121,122] (fun v w4=>v≤hgt n+1∧okT n t v 0∧Ext w3 w4) (fun v=>hgt n+1-v) 0 (by kernel_rfl) ⟨by omega,zr2 _ _,Ext.refl _⟩ ?_)))
 rintro v dw4 w4 ⟨hv,hok,hE1⟩
 have hz1:=hE1.size
 have hcn:=zbl n v
 have hns:=zbN (n:=n) (l:=v) hp3 (by omega)
 have hgc:v<hgt n+1→gt c v=cnt n v:=fun hh=>by rw [hp0];exact zfy hh
 refine wsr (za (zag 23 v n_c (fun hc23=> ?_) (fun hc23=> ?_)))
 ·replace hgc:=hgc (by omega)
  refine wEt (zd (zk (zl (zc (zd (zp (wsr ?_)))))))
  refine zb 1 [(24,(vI v))] ?_
  obtain ⟨b1,o1,rfl⟩:=h_c.addr (by omega)
  refine za (zan b1 o1 n_c c_c v 1 ?_)
  have hX1:=((hEw1.trans hEw2).trans hEw3).trans hE1
  refine za (zm b1 (o1+v*1) ((h_c.ext hX1).celln (by omega)) ?_)
  refine zb 2 [(7,(vI (gt c v))),(6,(vI v))] (zz (zb 2 [(28,(vI 0)),(27,(vI (gt c v)))] (wEt (zp (zU (X:=Nat) (fun j=> [(28,(vI j))]) [4,8,9,10,11,12,13,14,29,30,31,32,33,34,35,36,37,38,39,40,41,42,43,44,45,46,47,48,49,50,51,52,53,54,55,56,57,58,59,60,61,62,63,64,65,66,67,68,69,70,71,72,73,74,75,76,77,78,79,80,81,82,83,84,85,86,87,88,89,90,91,92,93,94,95,96,97,98,99,100,101,102,103,104,105,106,107,108,109,110,111,112,113,114,115,116,117,118,119,120,121] (fun j w5=>j≤cnt n v∧okT n t v j∧Ext w4 w5) (fun j=>cnt n v-j) 0 (by kernel_rfl) ⟨by omega,hok,Ext.refl _⟩ ?_)))))
  rintro j dw5 w5 ⟨hj,hok2,hE2⟩
  have hz2:=hE2.size
  refine wsr (za (zag 29 j (gt c v) (fun hc29=> ?_) (fun hc29=> ?_)))
  ·have hjc:j<cnt n v:=by omega
   have hpl:=zaL (n:=n) (l:=v) (j:=j) (by omega) hjc
   have hxl:=(t.getD (num n v+j) Nod.zero).hlv;have hxi:=(t.getD (num n v+j) Nod.zero).hix
   have hpp:=zdo n v j
   refine wEt (zd (zk (zl (zc (zd (zp (wsr ?_)))))))
   refine zb 2 [(8,(vI j)),(30,(vI j))] (zz ?_)
   have hK1:=((((hBw1.ext hEw2).ext hEw3).ext hE1).ext hE2)
   refine za (zV w.heap.size 0 (hK1.all) ?_)
   refine zb 2 [(33,(vI j)),(32,(vI v))] (za (zt (ze8 n v j _ ((h_c.ext hX1).ext hE2) ((h_f.ext hX1).ext hE2) (by first | rfl | assumption) (by first | rfl | assumption) (by omega) (by omega) (by omega) (by omega)) ?_))
   rintro _ w6 ⟨rfl,hEw6⟩
   have hzw6:=hEw6.size
   refine zb 1 [(9,(vI (num n v+j)))] (zz (zb 1 [(35,(vP w1.heap.size 1))] ?_))
   have hK2:=((((hBw2.ext hEw3).ext hE1).ext hE2).ext hEw6)
   refine za (zm w1.heap.size 1 (hK2.cell rfl) ?_)
   refine zb 1 [(37,(vI (num n v+j)))] ?_
   obtain ⟨b2,o2,rfl⟩:=h_t.addr (by omega) (by decide)
   refine za (zan b2 o2 n_t c_t (num n v+j) 274 ?_)
   have hK3:=(((h_t.ext hX1).ext hE2).ext hEw6)
   refine za (zQ b2 (o2+(num n v+j)*274) (hK3.at Nod.zero (by omega)) (zN _) ?_)
   refine zal (zH (t.getD (num n v+j) Nod.zero)) 74 (zN _) (zct _) ?_
   intro w7 hBw7 hEw7 hzw7 hlw7
   refine zM (zb 1 [(40,(vP w6.heap.size 0))] (za (zm w6.heap.size 0 (hBw7.cell rfl) ?_)))
   refine za (zdq 42 ((t.getD (num n v+j) Nod.zero).lv) ?_)
   refine zb 1 [(43,(vI v))] (za (zbT 44 ((t.getD (num n v+j) Nod.zero).lv) v (fun hc44=> ?_) (fun hc44=> ?_)))
   ·refine zb 14 [(58,vT),(57,undef),(56,undef),(55,undef),(54,undef),(53,undef),(52,vT),(51,vT),(50,undef),(49,undef),(48,undef),(47,undef),(46,undef),(45,vT)] (wEt (zk (wsr (zb 4 [(4,(.iface 198 (vA [(vI (num n v+j)),(vI 17)]))),(61,(.iface 198 (vA [(vI (num n v+j)),(vI 17)]))),(60,(vA [(vI (num n v+j)),(vI 17)])),(59,(vI (num n v+j)))] (zF ?_)))))
    refine zj (zu (zj (zj (zu (zu (zj (zj (zu (zj ?_)))))))))
    refine zh (.iface 198 (vA [(vI (num n v+j)),(vI 17)])) ?_
    have hX2:Ext w w7:=(((hX1.trans hE2).trans hEw6).trans hEw7)
    exact ⟨_,by rw [zcR hok2 (by omega) hjc (zio (fun hh=>by have h1:(t.getD (num n v+j) Nod.zero).lv=v:=hh.1;have h2:(t.getD (num n v+j) Nod.zero).ix=j:=hh.2.1;have h3:zb1 n (t.getD (num n v+j) Nod.zero)=0:=hh.2.2;omega)) (by decide),zcE (by decide)],hX2⟩
   ·refine zb 2 [(46,(vP w6.heap.size 1)),(45,vF)] (za (zm w6.heap.size 1 (hBw7.cell rfl) ?_))
    refine za (zdq 48 ((t.getD (num n v+j) Nod.zero).ix) ?_)
    refine zb 1 [(49,(vI j))] (za (zbT 50 ((t.getD (num n v+j) Nod.zero).ix) j (fun hc50=> ?_) (fun hc50=> ?_)))
    ·refine zb 8 [(58,vT),(57,undef),(56,undef),(55,undef),(54,undef),(53,undef),(52,vT),(51,vT)] (wEt (zk (wsr (zb 4 [(4,(.iface 198 (vA [(vI (num n v+j)),(vI 17)]))),(61,(.iface 198 (vA [(vI (num n v+j)),(vI 17)]))),(60,(vA [(vI (num n v+j)),(vI 17)])),(59,(vI (num n v+j)))] (zF ?_)))))
     refine zj (zu (zj (zj (zu (zu (zj (zj (zu (zj ?_)))))))))
     refine zh (.iface 198 (vA [(vI (num n v+j)),(vI 17)])) ?_
     have hX3:Ext w w7:=(((hX1.trans hE2).trans hEw6).trans hEw7)
     exact ⟨_,by rw [zcR hok2 (by omega) hjc (zio (fun hh=>by have h1:(t.getD (num n v+j) Nod.zero).lv=v:=hh.1;have h2:(t.getD (num n v+j) Nod.zero).ix=j:=hh.2.1;have h3:zb1 n (t.getD (num n v+j) Nod.zero)=0:=hh.2.2;omega)) (by decide),zcE (by decide)],hX3⟩
    ·refine zb 3 [(53,(vP w1.heap.size 0)),(52,vF),(51,vF)] (za (zm w1.heap.size 0 ((hK2.ext hEw7).cell rfl) ?_))
     refine za (zQ w6.heap.size 0 (hBw7.all) (zN _) ?_)
     refine za (zt (zns n (t.getD (num n v+j) Nod.zero) _ (by omega) (by omega)) ?_)
     rintro _ w8 ⟨rfl,hEw8⟩
     have hzw8:=hEw8.size
     refine za (zbT 57 (zb1 n (t.getD (num n v+j) Nod.zero)) 0 (fun hc57=> ?_) (fun hc57=> ?_))
     ·refine zb 1 [(58,vT)] (wEt (zk (wsr (zb 4 [(4,(.iface 198 (vA [(vI (num n v+j)),(vI 17)]))),(61,(.iface 198 (vA [(vI (num n v+j)),(vI 17)]))),(60,(vA [(vI (num n v+j)),(vI 17)])),(59,(vI (num n v+j)))] (zF ?_)))))
      refine zj (zu (zj (zj (zu (zu (zj (zj (zu (zj ?_)))))))))
      refine zh (.iface 198 (vA [(vI (num n v+j)),(vI 17)])) ?_
      have hX4:Ext w w8:=((((hX1.trans hE2).trans hEw6).trans hEw7).trans hEw8)
      exact ⟨_,by rw [zcR hok2 (by omega) hjc (zio (fun hh=>by have h1:(t.getD (num n v+j) Nod.zero).lv=v:=hh.1;have h2:(t.getD (num n v+j) Nod.zero).ix=j:=hh.2.1;have h3:zb1 n (t.getD (num n v+j) Nod.zero)=0:=hh.2.2;omega)) (by decide),zcE (by decide)],hX4⟩
     ·refine zb 1 [(58,vF)] (wEt (zf (zl (zc (zd (wsr (zb 1 [(62,(vI v))] ?_)))))))
      have hnm:¬zb9 n (ndA n t v j) v j:=ziT (show (t.getD (num n v+j) Nod.zero).lv=v by omega) (show (t.getD (num n v+j) Nod.zero).ix=j by omega) (show zb1 n (t.getD (num n v+j) Nod.zero)=0 by omega)
      refine za (zaI 63 v 0 (fun hc63=> ?_) (fun hc63=> ?_))
      ·have hdone:zcV n t v j=0:=by subst hc63;exact zvb hnm
       refine wEt (zk (zP (zo (zD (zc (zg (za (zJ 121 j 1 (j+1) ?_))))))))
       refine zb 1 [(28,(vI (j+1)))] (zq (zn ?_))
       have hX5:Ext w4 w8:=(((hE2.trans hEw6).trans hEw7).trans hEw8)
       refine zG (j+1) ?_ ?_
       ·exact ⟨by omega,zmy hok2 hdone,hX5⟩
       ·first | omega |(dsimp only;omega)
      ·have hup:=zcO (n:=n) (l:=v) (by omega)
       have hcm:=zbl n (v-1)
       have hgm:gt c (v-1)=cnt n (v-1):=by rw [hp0];exact zfy (by omega)
       refine wEt (zf (zl (zc (wsr (zb 1 [(64,(vI j))] (za (zcg 65 4 j (4*j) ?_)))))))
       refine zb 1 [(11,(vI (4*j)))] (wEt (zp (zU (X:=Nat) (fun x=> [(11,(vI (4*j+x)))]) [4,12,13,14,66,67,68,69,70,71,72,73,74,75,76,77,78,79,80,81,82,83,84,85,86,87,88,89,90,91,92,93,94,95,96,97,98,99,100,101,102,103,104,105,106,107,108,109,110,111,112,113,114,115,116,117,118,119,120] (fun x w9=>x≤prt n v j∧zbL (zdg n t v j) x=0∧Ext w8 w9) (fun x=>4-x) 0 (by kernel_rfl) ⟨Nat.zero_le _,rfl,Ext.refl _⟩ ?_)))
       rintro x dw9 w9 ⟨hxp,hen,hE3⟩
       have hz3:=hE3.size
       have hlw:=fun h4=>zbm (n:=n) (l:=v) (j:=j) (w:=x) h4
       refine zd (wsr (zb 2 [(67,(vI j)),(66,(vI (4*j+x)))] (za (zJ 68 j 1 (j+1) ?_))))
       refine za (zcg 69 4 (j+1) (4*(j+1)) ?_)
       refine zb 1 [(70,(vP w.heap.size 1))] ?_
       have hK4:=((((hK1.ext hEw6).ext hEw7).ext hEw8).ext hE3)
       refine za (zm w.heap.size 1 (hK4.cell rfl) ?_)
       refine zb 1 [(72,(vI v))] (za (zb5 73 v 1 (v-1) ?_))
       refine za (zan b1 o1 n_c c_c (v-1) 1 ?_)
       have hX6:=((hE2.trans hEw6).trans hEw7).trans hEw8
       have hK5:=(((h_c.ext hX1).ext hX6).ext hE3)
       refine za (zm b1 (o1+(v-1)*1) (hK5.celln (by omega)) ?_)
       refine za (zju (some 76) (.int .i64 (if ((gt c (v-1):Nat):Int)<((4*(j+1):Nat):Int) then ((gt c (v-1):Nat):Int) else ((4*(j+1):Nat):Int))) (vI (min (4*(j+1)) (gt c (v-1)))) (congrArg _ (zmt _ _)) ?_)
       refine za (zag 77 (4*j+x) (min (4*(j+1)) (gt c (v-1))) (fun hc77=> ?_) (fun hc77=> ?_))
       ·have hx4:x<4:=by omega
        have hxw:x<prt n v j:=(hlw hx4).2 (by omega)
        have hcl:4*j+x<cnt n (v-1):=by omega
        have hplc:=zaL (n:=n) (l:=v-1) (j:=4*j+x) (by omega) hcl
        have hnsm:=zbN (n:=n) (l:=v-1) hp3 (by omega)
        have hem:=zhe (n:=n) (ts:=t) (zsa hok2 (by omega)) (l:=v-1) (j:=4*j+x) hcl
        have hchk:zaz (t.getD (num n (v-1)+(4*j+x)) Nod.zero)=0:=(zcx (zc4 (zpj hok2 hcl (.inl (by omega)))).2.2).1
        refine wEt (zk (zl (zc (zd (zp (wsr (zb 1 [(80,(vI (4*j+x)))] ?_)))))))
        refine za (zae (some 81) .i64 (((4*j+x:Nat):Int).tmod ((4:Nat):Int)) x ((zcX _ _).trans (by omega)) ?_)
        refine zb 1 [(82,(vP w6.heap.size 142))] (za (zaW w6.heap.size 142 x 4 33 ?_))
        refine za (zQ w6.heap.size (142+x*33) (((hBw7.ext hEw8).ext hE3).at (142+x*33) (zW ((t.getD (num n v+j) Nod.zero).es.get x)) (nod_e (by omega))) (zat _) ?_)
        refine zal (zW ((t.getD (num n v+j) Nod.zero).es.get x)) 71 (zat _) (zch _) ?_
        intro w10 hBw10 hEw10 hzw10 hlw10
        refine wEt (zd (zY 16 (fun w11 hEw11 hzw11 hT311=> ?_)))
        refine ze hT311 [(0,86,(vP w1.heap.size 1))] 1 ?_
        have hK6:=(((((hK2.ext hEw7).ext hEw8).ext hE3).ext hEw10).ext hEw11)
        refine zx hT311 1 w1.heap.size 1 (fun w' hC=>((hK6.ext hC).cell rfl)) (zbj hT311 2 w.heap.size 0 (fun w' hC=>((((hK4.ext hEw10).ext hEw11).ext hC).all)) (ze hT311 [(3,89,(vI v))] 1 (zr hT311 4 (vI (v-1)) (zac .i64 (IntKind.i64.wrap (((v:Nat):Int)-((1:Nat):Int))) (zao)) (ze hT311 [(5,91,(vI (4*j+x)))] 1 (zbB 6 13 ?_ ?_)))))
        ·have hK7:=(((((h_f.ext hX1).ext hX6).ext hE3).ext hEw10).ext hEw11)
         refine zt (ze8 n (v-1) (4*j+x) _ ((hK5.ext hEw10).ext hEw11) hK7 (by first | rfl | assumption) (by first | rfl | assumption) (by omega) (by omega) (by omega) (by omega)) ?_
         rintro _ w12 ⟨rfl,hEw12⟩
         have hzw12:=hEw12.size
         refine ⟨.inr hEw12, ?_⟩
         refine zaD (hw:=hEw12) hT311 7 b2 o2 n_t c_t (num n (v-1)+(4*j+x)) 274 ?_
         have hK8:=(((((hK3.ext hEw7).ext hEw8).ext hE3).ext hEw10).ext hEw11)
         refine zaq (hw:=hEw12) hT311 8 b2 (o2+(num n (v-1)+(4*j+x))*274) (fun w' hC=>((hK8.ext hC).at Nod.zero (by omega))) (zN _) (zbB 9 13 ?_ ?_)
         ·have hX7:=((hE3.trans hEw10).trans hEw11).trans hEw12
          have hK9:=(((hg0.ext hX1).ext hX6).ext hX7)
          have hK10:=(((hg1.ext hX1).ext hX6).ext hX7)
          have hK11:=(((hg2.ext hX1).ext hX6).ext hX7)
          refine zt (ze7 (t.getD (num n (v-1)+(4*j+x)) Nod.zero) _ (by assumption) hK9 hK10 hK11) ?_
          rintro _ w13 ⟨rfl,hEw13⟩
          have hzw13:=hEw13.size
          have hX8:Ext w11 w13:=(hEw12.trans hEw13)
          refine ⟨.inr hX8, ?_⟩
          refine ze (hw:=hX8) hT311 [(10,85,(.tuple #[(vA (zK (zX (zR (t.getD (num n (v-1)+(4*j+x)) Nod.zero))))),(vI 0)])),(11,96,(vA (zK (zX (zR (t.getD (num n (v-1)+(4*j+x)) Nod.zero)))))),(12,97,(vI 0))] 3 (zy 13 (zad (zK Dig.zero) 59 ?_))
          intro w14 hBw14 hEw14 hzw14 hlw14
          have hX9:Ext w11 w14:=((hEw12.trans hEw13).trans hEw14)
          refine ⟨.inr hX9, ?_⟩
          refine zy 14 (zC 59 w13.heap.size 0 59 (vA (zK (zX (zR (t.getD (num n (v-1)+(4*j+x)) Nod.zero))))) (zK Dig.zero) (zK (zX (zR (t.getD (num n (v-1)+(4*j+x)) Nod.zero)))) hBw14 (by rw [zar];kernel_rfl) (by first |(simp;done)|(simp;omega)) (zbK _) ?_)
          intro w15 hBw15 hCw15
          have hzw15:=hCw15.size
          rw [zv _ _ (by simp)] at hBw15
          have hX10:Ext w11 w15:=(Ext.own ((hEw12.trans hEw13).trans hEw14) hCw15 (by omega))
          refine ⟨.inr hX10, ?_⟩
          refine ze (hw:=hX10) hT311 [(15,14,(vI 0))] 1 (zB (zc (zd (zY 20 (fun w16 hEw16 hzw16 hT353=> ?_)))))
          refine ze hT353 [(0,98,(vP w9.heap.size 0))] 1 ?_
          have hK12:=(((hBw10.ext hEw11).ext hX10).ext hEw16)
          refine zx hT353 1 w9.heap.size 0 (fun w' hC=>((hK12.ext hC).cell rfl)) ?_
          rcases Classical.em (((t.getD (num n v+j) Nod.zero).es.get x).st=0) with hf100 | hf100
          ·refine zr hT353 2 vT (zaS (((((t.getD (num n v+j) Nod.zero).es.get x).st:Nat):Int)==((0:Nat):Int)) (zc8)) (ze hT353 [(3,101,(.func (.func 141) #[] #[(vP a1 0),(vP a1y 0),(vP a1z 0)])),(4,102,(vI v))] 2 (zr hT353 5 (vI (v-1)) (zac .i64 (IntKind.i64.wrap (((v:Nat):Int)-((1:Nat):Int))) (zao)) (ze hT353 [(6,104,(vI (4*j+x)))] 1 ?_)))
           rcases (show emP n t (v-1) (4*j+x)=true∨emP n t (v-1) (4*j+x)=false by cases emP n t (v-1) (4*j+x)<;>simp) with he | he
           ·have hX11:=(((hE3.trans hEw10).trans hEw11).trans hX10).trans hEw16
            have hK13:=(((hFz1_1.ext hE1).ext hX6).ext hX11)
            have hK14:=(((hFz1_2.ext hE1).ext hX6).ext hX11)
            have hK15:=((((hK5.ext hEw10).ext hEw11).ext hX10).ext hEw16)
            have hK16:=(((hFz1_3.ext hE1).ext hX6).ext hX11)
            refine zy 7 (zt (zeQ (v-1) (4*j+x) a1 a1y n a1z _ hK13 ((hK8.ext hX10).ext hEw16) hK14 hK15 hK16 (by first | rfl | assumption) (by omega) (by omega) (by omega) (by omega) (by omega)) ?_)
            rintro _ w17 ⟨rfl,hEw17⟩
            have hzw17:=hEw17.size
            rw [show emP n t (v-1) (4*j+x)=true from he]
            refine ⟨.inr hEw17, ?_⟩
            refine ze (hw:=hEw17) hT353 [(8,106,vF),(9,107,vF),(10,108,(vP w9.heap.size 0))] 3 (zx (hw:=hEw17) hT353 11 w9.heap.size 0 (fun w' hC=>((hK12.ext hC).cell rfl)) (zr (hw:=hEw17) hT353 12 vF (zaS (((((t.getD (num n v+j) Nod.zero).es.get x).st:Nat):Int) !=((0:Nat):Int)) (zcb)) (ze (hw:=hEw17) hT353 [(13,111,vF),(14,112,undef),(15,113,undef),(16,114,undef),(17,115,undef),(18,116,vF),(19,117,vF)] 7 (zB (zc (zf (zl (zi (zc ?_)))))))))
            refine zg (zb 1 [(78,(vI (4*j+x)))] (za (zJ 79 (4*j+x) 1 (4*j+x+1) ?_)))
            refine zb 1 [(11,(vI (4*j+x+1)))] (zq (zn (zG (x+1) ?_ ?_)))
            ·exact ⟨by omega,zcJ hen (zgo (show (zaO (zbz n t) (v-1) (4*j+x)=true↔((t.getD (num n v+j) Nod.zero).es.get x).st=0) by rw [←hem];first |(simp only [he,iff_true,true_iff];omega)|(simp only [he,Bool.false_eq_true,iff_false,false_iff];omega)) (show ((t.getD (num n v+j) Nod.zero).es.get x).st=0∨_ from by first |(left;omega)|(right;exact beq_iff_eq.1 hf115))),(hX11.trans hEw17)⟩
            ·first | omega |(dsimp only;omega)
           ·have hX12:=(((hE3.trans hEw10).trans hEw11).trans hX10).trans hEw16
            have hK17:=(((hFz1_1.ext hE1).ext hX6).ext hX12)
            have hK18:=(((hFz1_2.ext hE1).ext hX6).ext hX12)
            have hK19:=((((hK5.ext hEw10).ext hEw11).ext hX10).ext hEw16)
            have hK20:=(((hFz1_3.ext hE1).ext hX6).ext hX12)
            refine zy 7 (zt (zeQ (v-1) (4*j+x) a1 a1y n a1z _ hK17 ((hK8.ext hX10).ext hEw16) hK18 hK19 hK20 (by first | rfl | assumption) (by omega) (by omega) (by omega) (by omega) (by omega)) ?_)
            rintro _ w18 ⟨rfl,hEw18⟩
            have hzw18:=hEw18.size
            rw [show emP n t (v-1) (4*j+x)=false from he]
            refine ⟨.inr hEw18, ?_⟩
            refine ze (hw:=hEw18) hT353 [(8,106,vT),(9,107,vT),(10,108,undef),(11,109,undef),(12,110,undef),(13,111,undef),(14,112,undef),(15,113,undef),(16,114,undef),(17,115,undef),(18,116,undef),(19,117,vT)] 12 (zB (zc (zk (wsr (zb 4 [(4,(.iface 198 (vA [(vI (num n v+j)),(vI 9)]))),(120,(.iface 198 (vA [(vI (num n v+j)),(vI 9)]))),(119,(vA [(vI (num n v+j)),(vI 9)])),(118,(vI (num n v+j)))] (zF ?_))))))
            refine zu (zj (zj (zu (zu (zj (zj (zu (zu (zj ?_)))))))))
            refine zj (zu (zj (zh (.iface 198 (vA [(vI (num n v+j)),(vI 9)])) ?_)))
            have hX13:Ext w w18:=(((hX1.trans hX6).trans hX12).trans hEw18)
            exact ⟨_,by rw [zcR hok2 (by omega) hjc (zdS hnm (by omega) hen hxw (zfa (fun hh=>by have h1:(zaO (zbz n t) (v-1) (4*j+x)=true↔((t.getD (num n v+j) Nod.zero).es.get x).st=0):=hh;rw [←hem,he] at h1;simp only [Bool.false_eq_true,false_iff,true_iff] at h1;exact absurd hf100 (by omega)))) (by decide),zcE (by decide)],hX13⟩
          ·refine zr hT353 2 vF (zaS (((((t.getD (num n v+j) Nod.zero).es.get x).st:Nat):Int)==((0:Nat):Int)) (zh4)) (ze hT353 [(3,101,(.func (.func 141) #[] #[(vP a1 0),(vP a1y 0),(vP a1z 0)])),(4,102,(vI v))] 2 (zr hT353 5 (vI (v-1)) (zac .i64 (IntKind.i64.wrap (((v:Nat):Int)-((1:Nat):Int))) (zao)) (ze hT353 [(6,104,(vI (4*j+x)))] 1 ?_)))
           rcases (show emP n t (v-1) (4*j+x)=true∨emP n t (v-1) (4*j+x)=false by cases emP n t (v-1) (4*j+x)<;>simp) with he | he
           ·have hX14:=(((hE3.trans hEw10).trans hEw11).trans hX10).trans hEw16
            have hK21:=(((hFz1_1.ext hE1).ext hX6).ext hX14)
            have hK22:=(((hFz1_2.ext hE1).ext hX6).ext hX14)
            have hK23:=((((hK5.ext hEw10).ext hEw11).ext hX10).ext hEw16)
            have hK24:=(((hFz1_3.ext hE1).ext hX6).ext hX14)
            refine zy 7 (zt (zeQ (v-1) (4*j+x) a1 a1y n a1z _ hK21 ((hK8.ext hX10).ext hEw16) hK22 hK23 hK24 (by first | rfl | assumption) (by omega) (by omega) (by omega) (by omega) (by omega)) ?_)
            rintro _ w19 ⟨rfl,hEw19⟩
            have hzw19:=hEw19.size
            rw [show emP n t (v-1) (4*j+x)=true from he]
            refine ⟨.inr hEw19, ?_⟩
            refine ze (hw:=hEw19) hT353 [(8,106,vT),(9,107,vT),(10,108,undef),(11,109,undef),(12,110,undef),(13,111,undef),(14,112,undef),(15,113,undef),(16,114,undef),(17,115,undef),(18,116,undef),(19,117,vT)] 12 (zB (zc (zk (wsr (zb 4 [(4,(.iface 198 (vA [(vI (num n v+j)),(vI 9)]))),(120,(.iface 198 (vA [(vI (num n v+j)),(vI 9)]))),(119,(vA [(vI (num n v+j)),(vI 9)])),(118,(vI (num n v+j)))] (zF ?_))))))
            refine zu (zj (zj (zu (zu (zj (zj (zu (zu (zj ?_)))))))))
            refine zj (zu (zj (zh (.iface 198 (vA [(vI (num n v+j)),(vI 9)])) ?_)))
            have hX15:Ext w w19:=(((hX1.trans hX6).trans hX14).trans hEw19)
            exact ⟨_,by rw [zcR hok2 (by omega) hjc (zdS hnm (by omega) hen hxw (zfa (fun hh=>by have h1:(zaO (zbz n t) (v-1) (4*j+x)=true↔((t.getD (num n v+j) Nod.zero).es.get x).st=0):=hh;rw [←hem,he] at h1;simp only [Bool.false_eq_true,false_iff,true_iff] at h1;exact absurd hf100 (by omega)))) (by decide),zcE (by decide)],hX15⟩
           ·have hX16:=(((hE3.trans hEw10).trans hEw11).trans hX10).trans hEw16
            have hK25:=(((hFz1_1.ext hE1).ext hX6).ext hX16)
            have hK26:=(((hFz1_2.ext hE1).ext hX6).ext hX16)
            have hK27:=((((hK5.ext hEw10).ext hEw11).ext hX10).ext hEw16)
            have hK28:=(((hFz1_3.ext hE1).ext hX6).ext hX16)
            refine zy 7 (zt (zeQ (v-1) (4*j+x) a1 a1y n a1z _ hK25 ((hK8.ext hX10).ext hEw16) hK26 hK27 hK28 (by first | rfl | assumption) (by omega) (by omega) (by omega) (by omega) (by omega)) ?_)
            rintro _ w20 ⟨rfl,hEw20⟩
            have hzw20:=hEw20.size
            rw [show emP n t (v-1) (4*j+x)=false from he]
            refine ⟨.inr hEw20, ?_⟩
            refine ze (hw:=hEw20) hT353 [(8,106,vF),(9,107,vF),(10,108,(vP w9.heap.size 0))] 3 (zx (hw:=hEw20) hT353 11 w9.heap.size 0 (fun w' hC=>((hK12.ext hC).cell rfl)) (zr (hw:=hEw20) hT353 12 vT (zaS (((((t.getD (num n v+j) Nod.zero).es.get x).st:Nat):Int) !=((0:Nat):Int)) (zd1)) (ze (hw:=hEw20) hT353 [(13,111,vT),(14,112,(vP w9.heap.size 1))] 2 (zaq (hw:=hEw20) hT353 15 w9.heap.size 1 (fun w' hC=>((hK12.ext hC).at 1 (zK ((t.getD (num n v+j) Nod.zero).es.get x).dg) (zfY _))) (zar _) (zaq (hw:=hEw20) hT353 16 w13.heap.size 0 (fun w' hC=>(((hBw15.ext hEw16).ext hC).all)) (zar _) ?_)))))
            rcases Bool.eq_false_or_eq_true (((t.getD (num n v+j) Nod.zero).es.get x).dg.l==(zX (zR (t.getD (num n (v-1)+(4*j+x)) Nod.zero))).l) with hf115 | hf115
            ·refine zr (hw:=hEw20) hT353 17 vF (zai (bo .neq 59 (.tmp 113) (.tmp 114) (vA (zK ((t.getD (num n v+j) Nod.zero).es.get x).dg)) (vA (zK (zX (zR (t.getD (num n (v-1)+(4*j+x)) Nod.zero)))))) (fun w' hC=>zaj (r:=true) (T:=59) ((zbS (dd:=9998) (t:=59) (e:=5) (((t.getD (num n v+j) Nod.zero).es.get x).dg) (zX (zR (t.getD (num n (v-1)+(4*j+x)) Nod.zero)))).trans (congrArg (fun b=>Result.ok b _) (show ((((t.getD (num n v+j) Nod.zero).es.get x).dg).l==(zX (zR (t.getD (num n (v-1)+(4*j+x)) Nod.zero))).l)=true from hf115))))) (ze (hw:=hEw20) hT353 [(18,116,vF),(19,117,vF)] 2 (zB (zc (zf (zl (zi (zc (zg (zb 1 [(78,(vI (4*j+x)))] ?_)))))))))
             refine za (zJ 79 (4*j+x) 1 (4*j+x+1) ?_)
             refine zb 1 [(11,(vI (4*j+x+1)))] (zq (zn (zG (x+1) ?_ ?_)))
             ·exact ⟨by omega,zcJ hen (zgo (show (zaO (zbz n t) (v-1) (4*j+x)=true↔((t.getD (num n v+j) Nod.zero).es.get x).st=0) by rw [←hem];first |(simp only [he,iff_true,true_iff];omega)|(simp only [he,Bool.false_eq_true,iff_false,false_iff];omega)) (show ((t.getD (num n v+j) Nod.zero).es.get x).st=0∨_ from by first |(left;omega)|(right;exact beq_iff_eq.1 hf115))),(hX16.trans hEw20)⟩
             ·first | omega |(dsimp only;omega)
            ·refine zr (hw:=hEw20) hT353 17 vT (zai (bo .neq 59 (.tmp 113) (.tmp 114) (vA (zK ((t.getD (num n v+j) Nod.zero).es.get x).dg)) (vA (zK (zX (zR (t.getD (num n (v-1)+(4*j+x)) Nod.zero)))))) (fun w' hC=>zaj (r:=false) (T:=59) ((zbS (dd:=9998) (t:=59) (e:=5) (((t.getD (num n v+j) Nod.zero).es.get x).dg) (zX (zR (t.getD (num n (v-1)+(4*j+x)) Nod.zero)))).trans (congrArg (fun b=>Result.ok b _) (show ((((t.getD (num n v+j) Nod.zero).es.get x).dg).l==(zX (zR (t.getD (num n (v-1)+(4*j+x)) Nod.zero))).l)=false from hf115))))) (ze (hw:=hEw20) hT353 [(18,116,vT),(19,117,vT)] 2 (zB (zc (zk (wsr (zb 4 [(4,(.iface 198 (vA [(vI (num n v+j)),(vI 9)]))),(120,(.iface 198 (vA [(vI (num n v+j)),(vI 9)]))),(119,(vA [(vI (num n v+j)),(vI 9)])),(118,(vI (num n v+j)))] (wEt ?_)))))))
             refine zaH (zu (zj (zj (zu (zu (zj (zj (zu (zu ?_)))))))))
             refine zj (zj (zu (zj (zh (.iface 198 (vA [(vI (num n v+j)),(vI 9)])) ?_))))
             have hX17:Ext w w20:=(((hX1.trans hX6).trans hX16).trans hEw20)
             exact ⟨_,by rw [zcR hok2 (by omega) hjc (zdS hnm (by omega) hen hxw (zh7 (show ¬((t.getD (num n v+j) Nod.zero).es.get x).st=0 from hf100) (by rw [←beq_iff_eq];intro hh;rw [show (((ndA n t v j).es.get x).dg.l==(zX (zR (ndA n t (v-1) (4*j+x)))).l)=false from hf115] at hh;cases hh))) (by decide),zcE (by decide)],hX17⟩
         ·refine zad (zK Dig.zero) 59 ?_
          intro w21 hBw21 hEw21 hzw21 hlw21
          have hX18:Ext w11 w21:=(hEw12.trans hEw21)
          refine ⟨.inr hX18, ?_⟩
          have hX19:=((hE3.trans hEw10).trans hEw11).trans hEw12
          have hK29:=((((hg0.ext hX1).ext hX6).ext hX19).ext hEw21)
          have hK30:=((((hg1.ext hX1).ext hX6).ext hX19).ext hEw21)
          have hK31:=((((hg2.ext hX1).ext hX6).ext hX19).ext hEw21)
          refine zy 9 (zt (ze7 (t.getD (num n (v-1)+(4*j+x)) Nod.zero) _ (by assumption) hK29 hK30 hK31) ?_)
          rintro _ w22 ⟨rfl,hEw22⟩
          have hzw22:=hEw22.size
          have hX20:Ext w11 w22:=((hEw12.trans hEw21).trans hEw22)
          refine ⟨.inr hX20, ?_⟩
          refine ze (hw:=hX20) hT311 [(10,85,(.tuple #[(vA (zK (zX (zR (t.getD (num n (v-1)+(4*j+x)) Nod.zero))))),(vI 0)])),(11,96,(vA (zK (zX (zR (t.getD (num n (v-1)+(4*j+x)) Nod.zero)))))),(12,97,(vI 0))] 3 (zy 14 (zC 59 w12.heap.size 0 59 (vA (zK (zX (zR (t.getD (num n (v-1)+(4*j+x)) Nod.zero))))) (zK Dig.zero) (zK (zX (zR (t.getD (num n (v-1)+(4*j+x)) Nod.zero)))) (hBw21.ext hEw22) (by rw [zar];kernel_rfl) (by first |(simp;done)|(simp;omega)) (zbK _) ?_))
          intro w23 hBw23 hCw23
          have hzw23:=hCw23.size
          rw [zv _ _ (by simp)] at hBw23
          have hX21:Ext w11 w23:=(Ext.own ((hEw12.trans hEw21).trans hEw22) hCw23 (by omega))
          refine ⟨.inr hX21, ?_⟩
          refine ze (hw:=hX21) hT311 [(15,14,(vI 0))] 1 (zB (zc (zd (zY 20 (fun w24 hEw24 hzw24 hT554=> ?_)))))
          refine ze hT554 [(0,98,(vP w9.heap.size 0))] 1 ?_
          have hK32:=(((hBw10.ext hEw11).ext hX21).ext hEw24)
          refine zx hT554 1 w9.heap.size 0 (fun w' hC=>((hK32.ext hC).cell rfl)) ?_
          rcases Classical.em (((t.getD (num n v+j) Nod.zero).es.get x).st=0) with hf100 | hf100
          ·refine zr hT554 2 vT (zaS (((((t.getD (num n v+j) Nod.zero).es.get x).st:Nat):Int)==((0:Nat):Int)) (zc8)) (ze hT554 [(3,101,(.func (.func 141) #[] #[(vP a1 0),(vP a1y 0),(vP a1z 0)])),(4,102,(vI v))] 2 (zr hT554 5 (vI (v-1)) (zac .i64 (IntKind.i64.wrap (((v:Nat):Int)-((1:Nat):Int))) (zao)) (ze hT554 [(6,104,(vI (4*j+x)))] 1 ?_)))
           rcases (show emP n t (v-1) (4*j+x)=true∨emP n t (v-1) (4*j+x)=false by cases emP n t (v-1) (4*j+x)<;>simp) with he | he
           ·have hX22:=(((hE3.trans hEw10).trans hEw11).trans hX21).trans hEw24
            have hK33:=(((hFz1_1.ext hE1).ext hX6).ext hX22)
            have hK34:=(((hFz1_2.ext hE1).ext hX6).ext hX22)
            have hK35:=((((hK5.ext hEw10).ext hEw11).ext hX21).ext hEw24)
            have hK36:=(((hFz1_3.ext hE1).ext hX6).ext hX22)
            refine zy 7 (zt (zeQ (v-1) (4*j+x) a1 a1y n a1z _ hK33 ((hK8.ext hX21).ext hEw24) hK34 hK35 hK36 (by first | rfl | assumption) (by omega) (by omega) (by omega) (by omega) (by omega)) ?_)
            rintro _ w25 ⟨rfl,hEw25⟩
            have hzw25:=hEw25.size
            rw [show emP n t (v-1) (4*j+x)=true from he]
            refine ⟨.inr hEw25, ?_⟩
            refine ze (hw:=hEw25) hT554 [(8,106,vF),(9,107,vF),(10,108,(vP w9.heap.size 0))] 3 (zx (hw:=hEw25) hT554 11 w9.heap.size 0 (fun w' hC=>((hK32.ext hC).cell rfl)) (zr (hw:=hEw25) hT554 12 vF (zaS (((((t.getD (num n v+j) Nod.zero).es.get x).st:Nat):Int) !=((0:Nat):Int)) (zcb)) (ze (hw:=hEw25) hT554 [(13,111,vF),(14,112,undef),(15,113,undef),(16,114,undef),(17,115,undef),(18,116,vF),(19,117,vF)] 7 (zB (zc (zf (zl (zi (zc ?_)))))))))
            refine zg (zb 1 [(78,(vI (4*j+x)))] (za (zJ 79 (4*j+x) 1 (4*j+x+1) ?_)))
            refine zb 1 [(11,(vI (4*j+x+1)))] (zq (zn (zG (x+1) ?_ ?_)))
            ·exact ⟨by omega,zcJ hen (zgo (show (zaO (zbz n t) (v-1) (4*j+x)=true↔((t.getD (num n v+j) Nod.zero).es.get x).st=0) by rw [←hem];first |(simp only [he,iff_true,true_iff];omega)|(simp only [he,Bool.false_eq_true,iff_false,false_iff];omega)) (show ((t.getD (num n v+j) Nod.zero).es.get x).st=0∨_ from by first |(left;omega)|(right;exact beq_iff_eq.1 hf115))),(hX22.trans hEw25)⟩
            ·first | omega |(dsimp only;omega)
           ·have hX23:=(((hE3.trans hEw10).trans hEw11).trans hX21).trans hEw24
            have hK37:=(((hFz1_1.ext hE1).ext hX6).ext hX23)
            have hK38:=(((hFz1_2.ext hE1).ext hX6).ext hX23)
            have hK39:=((((hK5.ext hEw10).ext hEw11).ext hX21).ext hEw24)
            have hK40:=(((hFz1_3.ext hE1).ext hX6).ext hX23)
            refine zy 7 (zt (zeQ (v-1) (4*j+x) a1 a1y n a1z _ hK37 ((hK8.ext hX21).ext hEw24) hK38 hK39 hK40 (by first | rfl | assumption) (by omega) (by omega) (by omega) (by omega) (by omega)) ?_)
            rintro _ w26 ⟨rfl,hEw26⟩
            have hzw26:=hEw26.size
            rw [show emP n t (v-1) (4*j+x)=false from he]
            refine ⟨.inr hEw26, ?_⟩
            refine ze (hw:=hEw26) hT554 [(8,106,vT),(9,107,vT),(10,108,undef),(11,109,undef),(12,110,undef),(13,111,undef),(14,112,undef),(15,113,undef),(16,114,undef),(17,115,undef),(18,116,undef),(19,117,vT)] 12 (zB (zc (zk (wsr (zb 4 [(4,(.iface 198 (vA [(vI (num n v+j)),(vI 9)]))),(120,(.iface 198 (vA [(vI (num n v+j)),(vI 9)]))),(119,(vA [(vI (num n v+j)),(vI 9)])),(118,(vI (num n v+j)))] (zF ?_))))))
            refine zu (zj (zj (zu (zu (zj (zj (zu (zu (zj ?_)))))))))
            refine zj (zu (zj (zh (.iface 198 (vA [(vI (num n v+j)),(vI 9)])) ?_)))
            have hX24:Ext w w26:=(((hX1.trans hX6).trans hX23).trans hEw26)
            exact ⟨_,by rw [zcR hok2 (by omega) hjc (zdS hnm (by omega) hen hxw (zfa (fun hh=>by have h1:(zaO (zbz n t) (v-1) (4*j+x)=true↔((t.getD (num n v+j) Nod.zero).es.get x).st=0):=hh;rw [←hem,he] at h1;simp only [Bool.false_eq_true,false_iff,true_iff] at h1;exact absurd hf100 (by omega)))) (by decide),zcE (by decide)],hX24⟩
          ·refine zr hT554 2 vF (zaS (((((t.getD (num n v+j) Nod.zero).es.get x).st:Nat):Int)==((0:Nat):Int)) (zh4)) (ze hT554 [(3,101,(.func (.func 141) #[] #[(vP a1 0),(vP a1y 0),(vP a1z 0)])),(4,102,(vI v))] 2 (zr hT554 5 (vI (v-1)) (zac .i64 (IntKind.i64.wrap (((v:Nat):Int)-((1:Nat):Int))) (zao)) (ze hT554 [(6,104,(vI (4*j+x)))] 1 ?_)))
           rcases (show emP n t (v-1) (4*j+x)=true∨emP n t (v-1) (4*j+x)=false by cases emP n t (v-1) (4*j+x)<;>simp) with he | he
           ·have hX25:=(((hE3.trans hEw10).trans hEw11).trans hX21).trans hEw24
            have hK41:=(((hFz1_1.ext hE1).ext hX6).ext hX25)
            have hK42:=(((hFz1_2.ext hE1).ext hX6).ext hX25)
            have hK43:=((((hK5.ext hEw10).ext hEw11).ext hX21).ext hEw24)
            have hK44:=(((hFz1_3.ext hE1).ext hX6).ext hX25)
            refine zy 7 (zt (zeQ (v-1) (4*j+x) a1 a1y n a1z _ hK41 ((hK8.ext hX21).ext hEw24) hK42 hK43 hK44 (by first | rfl | assumption) (by omega) (by omega) (by omega) (by omega) (by omega)) ?_)
            rintro _ w27 ⟨rfl,hEw27⟩
            have hzw27:=hEw27.size
            rw [show emP n t (v-1) (4*j+x)=true from he]
            refine ⟨.inr hEw27, ?_⟩
            refine ze (hw:=hEw27) hT554 [(8,106,vT),(9,107,vT),(10,108,undef),(11,109,undef),(12,110,undef),(13,111,undef),(14,112,undef),(15,113,undef),(16,114,undef),(17,115,undef),(18,116,undef),(19,117,vT)] 12 (zB (zc (zk (wsr (zb 4 [(4,(.iface 198 (vA [(vI (num n v+j)),(vI 9)]))),(120,(.iface 198 (vA [(vI (num n v+j)),(vI 9)]))),(119,(vA [(vI (num n v+j)),(vI 9)])),(118,(vI (num n v+j)))] (zF ?_))))))
            refine zu (zj (zj (zu (zu (zj (zj (zu (zu (zj ?_)))))))))
            refine zj (zu (zj (zh (.iface 198 (vA [(vI (num n v+j)),(vI 9)])) ?_)))
            have hX26:Ext w w27:=(((hX1.trans hX6).trans hX25).trans hEw27)
            exact ⟨_,by rw [zcR hok2 (by omega) hjc (zdS hnm (by omega) hen hxw (zfa (fun hh=>by have h1:(zaO (zbz n t) (v-1) (4*j+x)=true↔((t.getD (num n v+j) Nod.zero).es.get x).st=0):=hh;rw [←hem,he] at h1;simp only [Bool.false_eq_true,false_iff,true_iff] at h1;exact absurd hf100 (by omega)))) (by decide),zcE (by decide)],hX26⟩
           ·have hX27:=(((hE3.trans hEw10).trans hEw11).trans hX21).trans hEw24
            have hK45:=(((hFz1_1.ext hE1).ext hX6).ext hX27)
            have hK46:=(((hFz1_2.ext hE1).ext hX6).ext hX27)
            have hK47:=((((hK5.ext hEw10).ext hEw11).ext hX21).ext hEw24)
            have hK48:=(((hFz1_3.ext hE1).ext hX6).ext hX27)
            refine zy 7 (zt (zeQ (v-1) (4*j+x) a1 a1y n a1z _ hK45 ((hK8.ext hX21).ext hEw24) hK46 hK47 hK48 (by first | rfl | assumption) (by omega) (by omega) (by omega) (by omega) (by omega)) ?_)
            rintro _ w28 ⟨rfl,hEw28⟩
            have hzw28:=hEw28.size
            rw [show emP n t (v-1) (4*j+x)=false from he]
            refine ⟨.inr hEw28, ?_⟩
            refine ze (hw:=hEw28) hT554 [(8,106,vF),(9,107,vF),(10,108,(vP w9.heap.size 0))] 3 (zx (hw:=hEw28) hT554 11 w9.heap.size 0 (fun w' hC=>((hK32.ext hC).cell rfl)) (zr (hw:=hEw28) hT554 12 vT (zaS (((((t.getD (num n v+j) Nod.zero).es.get x).st:Nat):Int) !=((0:Nat):Int)) (zd1)) (ze (hw:=hEw28) hT554 [(13,111,vT),(14,112,(vP w9.heap.size 1))] 2 (zaq (hw:=hEw28) hT554 15 w9.heap.size 1 (fun w' hC=>((hK32.ext hC).at 1 (zK ((t.getD (num n v+j) Nod.zero).es.get x).dg) (zfY _))) (zar _) (zaq (hw:=hEw28) hT554 16 w12.heap.size 0 (fun w' hC=>(((hBw23.ext hEw24).ext hC).all)) (zar _) ?_)))))
            rcases Bool.eq_false_or_eq_true (((t.getD (num n v+j) Nod.zero).es.get x).dg.l==(zX (zR (t.getD (num n (v-1)+(4*j+x)) Nod.zero))).l) with hf115 | hf115
            ·refine zr (hw:=hEw28) hT554 17 vF (zai (bo .neq 59 (.tmp 113) (.tmp 114) (vA (zK ((t.getD (num n v+j) Nod.zero).es.get x).dg)) (vA (zK (zX (zR (t.getD (num n (v-1)+(4*j+x)) Nod.zero)))))) (fun w' hC=>zaj (r:=true) (T:=59) ((zbS (dd:=9998) (t:=59) (e:=5) (((t.getD (num n v+j) Nod.zero).es.get x).dg) (zX (zR (t.getD (num n (v-1)+(4*j+x)) Nod.zero)))).trans (congrArg (fun b=>Result.ok b _) (show ((((t.getD (num n v+j) Nod.zero).es.get x).dg).l==(zX (zR (t.getD (num n (v-1)+(4*j+x)) Nod.zero))).l)=true from hf115))))) (ze (hw:=hEw28) hT554 [(18,116,vF),(19,117,vF)] 2 (zB (zc (zf (zl (zi (zc (zg (zb 1 [(78,(vI (4*j+x)))] ?_)))))))))
             refine za (zJ 79 (4*j+x) 1 (4*j+x+1) ?_)
             refine zb 1 [(11,(vI (4*j+x+1)))] (zq (zn (zG (x+1) ?_ ?_)))
             ·exact ⟨by omega,zcJ hen (zgo (show (zaO (zbz n t) (v-1) (4*j+x)=true↔((t.getD (num n v+j) Nod.zero).es.get x).st=0) by rw [←hem];first |(simp only [he,iff_true,true_iff];omega)|(simp only [he,Bool.false_eq_true,iff_false,false_iff];omega)) (show ((t.getD (num n v+j) Nod.zero).es.get x).st=0∨_ from by first |(left;omega)|(right;exact beq_iff_eq.1 hf115))),(hX27.trans hEw28)⟩
             ·first | omega |(dsimp only;omega)
            ·refine zr (hw:=hEw28) hT554 17 vT (zai (bo .neq 59 (.tmp 113) (.tmp 114) (vA (zK ((t.getD (num n v+j) Nod.zero).es.get x).dg)) (vA (zK (zX (zR (t.getD (num n (v-1)+(4*j+x)) Nod.zero)))))) (fun w' hC=>zaj (r:=false) (T:=59) ((zbS (dd:=9998) (t:=59) (e:=5) (((t.getD (num n v+j) Nod.zero).es.get x).dg) (zX (zR (t.getD (num n (v-1)+(4*j+x)) Nod.zero)))).trans (congrArg (fun b=>Result.ok b _) (show ((((t.getD (num n v+j) Nod.zero).es.get x).dg).l==(zX (zR (t.getD (num n (v-1)+(4*j+x)) Nod.zero))).l)=false from hf115))))) (ze (hw:=hEw28) hT554 [(18,116,vT),(19,117,vT)] 2 (zB (zc (zk (wsr (zb 4 [(4,(.iface 198 (vA [(vI (num n v+j)),(vI 9)]))),(120,(.iface 198 (vA [(vI (num n v+j)),(vI 9)]))),(119,(vA [(vI (num n v+j)),(vI 9)])),(118,(vI (num n v+j)))] (wEt ?_)))))))
             refine zaH (zu (zj (zj (zu (zu (zj (zj (zu (zu ?_)))))))))
             refine zj (zj (zu (zj (zh (.iface 198 (vA [(vI (num n v+j)),(vI 9)])) ?_))))
             have hX28:Ext w w28:=(((hX1.trans hX6).trans hX27).trans hEw28)
             exact ⟨_,by rw [zcR hok2 (by omega) hjc (zdS hnm (by omega) hen hxw (zh7 (show ¬((t.getD (num n v+j) Nod.zero).es.get x).st=0 from hf100) (by rw [←beq_iff_eq];intro hh;rw [show (((ndA n t v j).es.get x).dg.l==(zX (zR (ndA n t (v-1) (4*j+x)))).l)=false from hf115] at hh;cases hh))) (by decide),zcE (by decide)],hX28⟩
        ·refine zad (zK Dig.zero) 59 ?_
         intro w29 hBw29 hEw29 hzw29 hlw29
         refine ⟨.inr hEw29, ?_⟩
         have hK49:=(((hK5.ext hEw10).ext hEw11).ext hEw29)
         have hX29:=((hE3.trans hEw10).trans hEw11).trans hEw29
         have hK50:=(((h_f.ext hX1).ext hX6).ext hX29)
         refine zy 6 (zt (ze8 n (v-1) (4*j+x) _ hK49 hK50 (by first | rfl | assumption) (by first | rfl | assumption) (by omega) (by omega) (by omega) (by omega)) ?_)
         rintro _ w30 ⟨rfl,hEw30⟩
         have hzw30:=hEw30.size
         have hX30:Ext w11 w30:=(hEw29.trans hEw30)
         refine ⟨.inr hX30, ?_⟩
         refine zaD (hw:=hX30) hT311 7 b2 o2 n_t c_t (num n (v-1)+(4*j+x)) 274 ?_
         have hK51:=(((((hK3.ext hEw7).ext hEw8).ext hE3).ext hEw10).ext hEw11)
         refine zaq (hw:=hX30) hT311 8 b2 (o2+(num n (v-1)+(4*j+x))*274) (fun w' hC=>((hK51.ext hC).at Nod.zero (by omega))) (zN _) ?_
         have hK52:=((((hg0.ext hX1).ext hX6).ext hX29).ext hEw30)
         have hK53:=((((hg1.ext hX1).ext hX6).ext hX29).ext hEw30)
         have hK54:=((((hg2.ext hX1).ext hX6).ext hX29).ext hEw30)
         refine zy 9 (zt (ze7 (t.getD (num n (v-1)+(4*j+x)) Nod.zero) _ (by assumption) hK52 hK53 hK54) ?_)
         rintro _ w31 ⟨rfl,hEw31⟩
         have hzw31:=hEw31.size
         have hX31:Ext w11 w31:=((hEw29.trans hEw30).trans hEw31)
         refine ⟨.inr hX31, ?_⟩
         refine ze (hw:=hX31) hT311 [(10,85,(.tuple #[(vA (zK (zX (zR (t.getD (num n (v-1)+(4*j+x)) Nod.zero))))),(vI 0)])),(11,96,(vA (zK (zX (zR (t.getD (num n (v-1)+(4*j+x)) Nod.zero)))))),(12,97,(vI 0))] 3 (zy 14 (zC 59 w11.heap.size 0 59 (vA (zK (zX (zR (t.getD (num n (v-1)+(4*j+x)) Nod.zero))))) (zK Dig.zero) (zK (zX (zR (t.getD (num n (v-1)+(4*j+x)) Nod.zero)))) ((hBw29.ext hEw30).ext hEw31) (by rw [zar];kernel_rfl) (by first |(simp;done)|(simp;omega)) (zbK _) ?_))
         intro w32 hBw32 hCw32
         have hzw32:=hCw32.size
         rw [zv _ _ (by simp)] at hBw32
         have hX32:Ext w11 w32:=(Ext.own ((hEw29.trans hEw30).trans hEw31) hCw32 (by omega))
         refine ⟨.inr hX32, ?_⟩
         refine ze (hw:=hX32) hT311 [(15,14,(vI 0))] 1 (zB (zc (zd (zY 20 (fun w33 hEw33 hzw33 hT764=> ?_)))))
         refine ze hT764 [(0,98,(vP w9.heap.size 0))] 1 ?_
         have hK55:=(((hBw10.ext hEw11).ext hX32).ext hEw33)
         refine zx hT764 1 w9.heap.size 0 (fun w' hC=>((hK55.ext hC).cell rfl)) ?_
         rcases Classical.em (((t.getD (num n v+j) Nod.zero).es.get x).st=0) with hf100 | hf100
         ·refine zr hT764 2 vT (zaS (((((t.getD (num n v+j) Nod.zero).es.get x).st:Nat):Int)==((0:Nat):Int)) (zc8)) (ze hT764 [(3,101,(.func (.func 141) #[] #[(vP a1 0),(vP a1y 0),(vP a1z 0)])),(4,102,(vI v))] 2 (zr hT764 5 (vI (v-1)) (zac .i64 (IntKind.i64.wrap (((v:Nat):Int)-((1:Nat):Int))) (zao)) (ze hT764 [(6,104,(vI (4*j+x)))] 1 ?_)))
          rcases (show emP n t (v-1) (4*j+x)=true∨emP n t (v-1) (4*j+x)=false by cases emP n t (v-1) (4*j+x)<;>simp) with he | he
          ·have hX33:=(((hE3.trans hEw10).trans hEw11).trans hX32).trans hEw33
           have hK56:=(((hFz1_1.ext hE1).ext hX6).ext hX33)
           have hK57:=(((hFz1_2.ext hE1).ext hX6).ext hX33)
           have hK58:=((((hK49.ext hEw30).ext hEw31).chg hCw32).ext hEw33)
           have hK59:=(((hFz1_3.ext hE1).ext hX6).ext hX33)
           refine zy 7 (zt (zeQ (v-1) (4*j+x) a1 a1y n a1z _ hK56 ((hK51.ext hX32).ext hEw33) hK57 hK58 hK59 (by first | rfl | assumption) (by omega) (by omega) (by omega) (by omega) (by omega)) ?_)
           rintro _ w34 ⟨rfl,hEw34⟩
           have hzw34:=hEw34.size
           rw [show emP n t (v-1) (4*j+x)=true from he]
           refine ⟨.inr hEw34, ?_⟩
           refine ze (hw:=hEw34) hT764 [(8,106,vF),(9,107,vF),(10,108,(vP w9.heap.size 0))] 3 (zx (hw:=hEw34) hT764 11 w9.heap.size 0 (fun w' hC=>((hK55.ext hC).cell rfl)) (zr (hw:=hEw34) hT764 12 vF (zaS (((((t.getD (num n v+j) Nod.zero).es.get x).st:Nat):Int) !=((0:Nat):Int)) (zcb)) (ze (hw:=hEw34) hT764 [(13,111,vF),(14,112,undef),(15,113,undef),(16,114,undef),(17,115,undef),(18,116,vF),(19,117,vF)] 7 (zB (zc (zf (zl (zi (zc ?_)))))))))
           refine zg (zb 1 [(78,(vI (4*j+x)))] (za (zJ 79 (4*j+x) 1 (4*j+x+1) ?_)))
           refine zb 1 [(11,(vI (4*j+x+1)))] (zq (zn (zG (x+1) ?_ ?_)))
           ·exact ⟨by omega,zcJ hen (zgo (show (zaO (zbz n t) (v-1) (4*j+x)=true↔((t.getD (num n v+j) Nod.zero).es.get x).st=0) by rw [←hem];first |(simp only [he,iff_true,true_iff];omega)|(simp only [he,Bool.false_eq_true,iff_false,false_iff];omega)) (show ((t.getD (num n v+j) Nod.zero).es.get x).st=0∨_ from by first |(left;omega)|(right;exact beq_iff_eq.1 hf115))),(hX33.trans hEw34)⟩
           ·first | omega |(dsimp only;omega)
          ·have hX34:=(((hE3.trans hEw10).trans hEw11).trans hX32).trans hEw33
           have hK60:=(((hFz1_1.ext hE1).ext hX6).ext hX34)
           have hK61:=(((hFz1_2.ext hE1).ext hX6).ext hX34)
           have hK62:=((((hK49.ext hEw30).ext hEw31).chg hCw32).ext hEw33)
           have hK63:=(((hFz1_3.ext hE1).ext hX6).ext hX34)
           refine zy 7 (zt (zeQ (v-1) (4*j+x) a1 a1y n a1z _ hK60 ((hK51.ext hX32).ext hEw33) hK61 hK62 hK63 (by first | rfl | assumption) (by omega) (by omega) (by omega) (by omega) (by omega)) ?_)
           rintro _ w35 ⟨rfl,hEw35⟩
           have hzw35:=hEw35.size
           rw [show emP n t (v-1) (4*j+x)=false from he]
           refine ⟨.inr hEw35, ?_⟩
           refine ze (hw:=hEw35) hT764 [(8,106,vT),(9,107,vT),(10,108,undef),(11,109,undef),(12,110,undef),(13,111,undef),(14,112,undef),(15,113,undef),(16,114,undef),(17,115,undef),(18,116,undef),(19,117,vT)] 12 (zB (zc (zk (wsr (zb 4 [(4,(.iface 198 (vA [(vI (num n v+j)),(vI 9)]))),(120,(.iface 198 (vA [(vI (num n v+j)),(vI 9)]))),(119,(vA [(vI (num n v+j)),(vI 9)])),(118,(vI (num n v+j)))] (zF ?_))))))
           refine zu (zj (zj (zu (zu (zj (zj (zu (zu (zj ?_)))))))))
           refine zj (zu (zj (zh (.iface 198 (vA [(vI (num n v+j)),(vI 9)])) ?_)))
           have hX35:Ext w w35:=(((hX1.trans hX6).trans hX34).trans hEw35)
           exact ⟨_,by rw [zcR hok2 (by omega) hjc (zdS hnm (by omega) hen hxw (zfa (fun hh=>by have h1:(zaO (zbz n t) (v-1) (4*j+x)=true↔((t.getD (num n v+j) Nod.zero).es.get x).st=0):=hh;rw [←hem,he] at h1;simp only [Bool.false_eq_true,false_iff,true_iff] at h1;exact absurd hf100 (by omega)))) (by decide),zcE (by decide)],hX35⟩
         ·refine zr hT764 2 vF (zaS (((((t.getD (num n v+j) Nod.zero).es.get x).st:Nat):Int)==((0:Nat):Int)) (zh4)) (ze hT764 [(3,101,(.func (.func 141) #[] #[(vP a1 0),(vP a1y 0),(vP a1z 0)])),(4,102,(vI v))] 2 (zr hT764 5 (vI (v-1)) (zac .i64 (IntKind.i64.wrap (((v:Nat):Int)-((1:Nat):Int))) (zao)) (ze hT764 [(6,104,(vI (4*j+x)))] 1 ?_)))
          rcases (show emP n t (v-1) (4*j+x)=true∨emP n t (v-1) (4*j+x)=false by cases emP n t (v-1) (4*j+x)<;>simp) with he | he
          ·have hX36:=(((hE3.trans hEw10).trans hEw11).trans hX32).trans hEw33
           have hK64:=(((hFz1_1.ext hE1).ext hX6).ext hX36)
           have hK65:=(((hFz1_2.ext hE1).ext hX6).ext hX36)
           have hK66:=((((hK49.ext hEw30).ext hEw31).chg hCw32).ext hEw33)
           have hK67:=(((hFz1_3.ext hE1).ext hX6).ext hX36)
           refine zy 7 (zt (zeQ (v-1) (4*j+x) a1 a1y n a1z _ hK64 ((hK51.ext hX32).ext hEw33) hK65 hK66 hK67 (by first | rfl | assumption) (by omega) (by omega) (by omega) (by omega) (by omega)) ?_)
           rintro _ w36 ⟨rfl,hEw36⟩
           have hzw36:=hEw36.size
           rw [show emP n t (v-1) (4*j+x)=true from he]
           refine ⟨.inr hEw36, ?_⟩
           refine ze (hw:=hEw36) hT764 [(8,106,vT),(9,107,vT),(10,108,undef),(11,109,undef),(12,110,undef),(13,111,undef),(14,112,undef),(15,113,undef),(16,114,undef),(17,115,undef),(18,116,undef),(19,117,vT)] 12 (zB (zc (zk (wsr (zb 4 [(4,(.iface 198 (vA [(vI (num n v+j)),(vI 9)]))),(120,(.iface 198 (vA [(vI (num n v+j)),(vI 9)]))),(119,(vA [(vI (num n v+j)),(vI 9)])),(118,(vI (num n v+j)))] (zF ?_))))))
           refine zu (zj (zj (zu (zu (zj (zj (zu (zu (zj ?_)))))))))
           refine zj (zu (zj (zh (.iface 198 (vA [(vI (num n v+j)),(vI 9)])) ?_)))
           have hX37:Ext w w36:=(((hX1.trans hX6).trans hX36).trans hEw36)
           exact ⟨_,by rw [zcR hok2 (by omega) hjc (zdS hnm (by omega) hen hxw (zfa (fun hh=>by have h1:(zaO (zbz n t) (v-1) (4*j+x)=true↔((t.getD (num n v+j) Nod.zero).es.get x).st=0):=hh;rw [←hem,he] at h1;simp only [Bool.false_eq_true,false_iff,true_iff] at h1;exact absurd hf100 (by omega)))) (by decide),zcE (by decide)],hX37⟩
          ·have hX38:=(((hE3.trans hEw10).trans hEw11).trans hX32).trans hEw33
           have hK68:=(((hFz1_1.ext hE1).ext hX6).ext hX38)
           have hK69:=(((hFz1_2.ext hE1).ext hX6).ext hX38)
           have hK70:=((((hK49.ext hEw30).ext hEw31).chg hCw32).ext hEw33)
           have hK71:=(((hFz1_3.ext hE1).ext hX6).ext hX38)
           refine zy 7 (zt (zeQ (v-1) (4*j+x) a1 a1y n a1z _ hK68 ((hK51.ext hX32).ext hEw33) hK69 hK70 hK71 (by first | rfl | assumption) (by omega) (by omega) (by omega) (by omega) (by omega)) ?_)
           rintro _ w37 ⟨rfl,hEw37⟩
           have hzw37:=hEw37.size
           rw [show emP n t (v-1) (4*j+x)=false from he]
           refine ⟨.inr hEw37, ?_⟩
           refine ze (hw:=hEw37) hT764 [(8,106,vF),(9,107,vF),(10,108,(vP w9.heap.size 0))] 3 (zx (hw:=hEw37) hT764 11 w9.heap.size 0 (fun w' hC=>((hK55.ext hC).cell rfl)) (zr (hw:=hEw37) hT764 12 vT (zaS (((((t.getD (num n v+j) Nod.zero).es.get x).st:Nat):Int) !=((0:Nat):Int)) (zd1)) (ze (hw:=hEw37) hT764 [(13,111,vT),(14,112,(vP w9.heap.size 1))] 2 (zaq (hw:=hEw37) hT764 15 w9.heap.size 1 (fun w' hC=>((hK55.ext hC).at 1 (zK ((t.getD (num n v+j) Nod.zero).es.get x).dg) (zfY _))) (zar _) (zaq (hw:=hEw37) hT764 16 w11.heap.size 0 (fun w' hC=>(((hBw32.ext hEw33).ext hC).all)) (zar _) ?_)))))
           rcases Bool.eq_false_or_eq_true (((t.getD (num n v+j) Nod.zero).es.get x).dg.l==(zX (zR (t.getD (num n (v-1)+(4*j+x)) Nod.zero))).l) with hf115 | hf115
           ·refine zr (hw:=hEw37) hT764 17 vF (zai (bo .neq 59 (.tmp 113) (.tmp 114) (vA (zK ((t.getD (num n v+j) Nod.zero).es.get x).dg)) (vA (zK (zX (zR (t.getD (num n (v-1)+(4*j+x)) Nod.zero)))))) (fun w' hC=>zaj (r:=true) (T:=59) ((zbS (dd:=9998) (t:=59) (e:=5) (((t.getD (num n v+j) Nod.zero).es.get x).dg) (zX (zR (t.getD (num n (v-1)+(4*j+x)) Nod.zero)))).trans (congrArg (fun b=>Result.ok b _) (show ((((t.getD (num n v+j) Nod.zero).es.get x).dg).l==(zX (zR (t.getD (num n (v-1)+(4*j+x)) Nod.zero))).l)=true from hf115))))) (ze (hw:=hEw37) hT764 [(18,116,vF),(19,117,vF)] 2 (zB (zc (zf (zl (zi (zc (zg (zb 1 [(78,(vI (4*j+x)))] ?_)))))))))
            refine za (zJ 79 (4*j+x) 1 (4*j+x+1) ?_)
            refine zb 1 [(11,(vI (4*j+x+1)))] (zq (zn (zG (x+1) ?_ ?_)))
            ·exact ⟨by omega,zcJ hen (zgo (show (zaO (zbz n t) (v-1) (4*j+x)=true↔((t.getD (num n v+j) Nod.zero).es.get x).st=0) by rw [←hem];first |(simp only [he,iff_true,true_iff];omega)|(simp only [he,Bool.false_eq_true,iff_false,false_iff];omega)) (show ((t.getD (num n v+j) Nod.zero).es.get x).st=0∨_ from by first |(left;omega)|(right;exact beq_iff_eq.1 hf115))),(hX38.trans hEw37)⟩
            ·first | omega |(dsimp only;omega)
           ·refine zr (hw:=hEw37) hT764 17 vT (zai (bo .neq 59 (.tmp 113) (.tmp 114) (vA (zK ((t.getD (num n v+j) Nod.zero).es.get x).dg)) (vA (zK (zX (zR (t.getD (num n (v-1)+(4*j+x)) Nod.zero)))))) (fun w' hC=>zaj (r:=false) (T:=59) ((zbS (dd:=9998) (t:=59) (e:=5) (((t.getD (num n v+j) Nod.zero).es.get x).dg) (zX (zR (t.getD (num n (v-1)+(4*j+x)) Nod.zero)))).trans (congrArg (fun b=>Result.ok b _) (show ((((t.getD (num n v+j) Nod.zero).es.get x).dg).l==(zX (zR (t.getD (num n (v-1)+(4*j+x)) Nod.zero))).l)=false from hf115))))) (ze (hw:=hEw37) hT764 [(18,116,vT),(19,117,vT)] 2 (zB (zc (zk (wsr (zb 4 [(4,(.iface 198 (vA [(vI (num n v+j)),(vI 9)]))),(120,(.iface 198 (vA [(vI (num n v+j)),(vI 9)]))),(119,(vA [(vI (num n v+j)),(vI 9)])),(118,(vI (num n v+j)))] (wEt ?_)))))))
            refine zaH (zu (zj (zj (zu (zu (zj (zj (zu (zu ?_)))))))))
            refine zj (zj (zu (zj (zh (.iface 198 (vA [(vI (num n v+j)),(vI 9)])) ?_))))
            have hX39:Ext w w37:=(((hX1.trans hX6).trans hX38).trans hEw37)
            exact ⟨_,by rw [zcR hok2 (by omega) hjc (zdS hnm (by omega) hen hxw (zh7 (show ¬((t.getD (num n v+j) Nod.zero).es.get x).st=0 from hf100) (by rw [←beq_iff_eq];intro hh;rw [show (((ndA n t v j).es.get x).dg.l==(zX (zR (ndA n t (v-1) (4*j+x)))).l)=false from hf115] at hh;cases hh))) (by decide),zcE (by decide)],hX39⟩
       ·have hdone:zcV n t v j=0:=zqq hnm (by omega) hen (by rcases Nat.lt_or_ge x (prt n v j) with hh | hh;exact absurd ((hlw (by omega)).1 hh) (by omega);exact hh)
        refine wEt (zf (zP (zo (zo (zD (zi (zc (zg ?_))))))))
        refine za (zJ 121 j 1 (j+1) ?_)
        refine zb 1 [(28,(vI (j+1)))] (zq (zn (zG (j+1) ?_ ?_)))
        ·exact ⟨by omega,zmy hok2 hdone,(hX6.trans hE3)⟩
        ·first | omega |(dsimp only;omega)
  ·obtain rfl:j=cnt n v:=by omega
   refine wEt (zd (zf (zP (zo (zo (zD (zi (zc ?_))))))))
   refine zg (za (zJ 122 v 1 (v+1) ?_))
   refine zb 1 [(22,(vI (v+1)))] (zq (zn (zG (v+1) ?_ ?_)))
   ·exact ⟨by omega,zqN hok2,(hE1.trans hE2)⟩
   ·first | omega |(dsimp only;omega)
 ·obtain rfl:v=hgt n+1:=by omega
  refine wEt (zd (zf (zP (zo (zo (zD (zc (zd ?_))))))))
  refine zg (zb 1 [(4, .nilIface)] (zF (zh .nilIface ?_)))
  have hX40:Ext w w4:=(((hEw1.trans hEw2).trans hEw3).trans hE1)
  exact ⟨0,by rw [zq4 hok];rfl,hX40⟩
end Go.Proofs.YtkmhgepdhilllaaGreatDoor
namespace Go.Proofs.YtkmhgepdhilllaaGreatDoor
open Go Go.RowKit Go.Cs
set_option maxRecDepth 100000
theorem zs2 (n:Nat) {lo_t hi_t:Nat} {a_t:Option Addr} {n_t c_t:Nat} {t:List Nod} (w:World) (h_t:Ms zH 274 lo_t hi_t w a_t n_t c_t t) (hp0:1≤n) (hp1:n≤4096) (hp2:n_t=tot n) (hg0:Gl 0 [vI 45,vI 33] w) (hg1:Gl 1 (w8C zaV) w) (hg2:Gl 3 (zas kA) w) (hg3:Gl 2 [.iface 227 (.agg #[.pointer (some ⟨4,160,none⟩)])] w):
  Calls Tryz.prog 71 #[(vA [(vI n),(.slice a_t n_t c_t)])] w (Ret fun r w'=>∃a1 ca1 a2 ca2,r=(.tuple #[(vA [(vI n),(.slice a1 (hgt n+1) ca1),(.slice a2 (hgt n+1) ca2)]),(vI (zbZ n t))])∧Es (nv .i64) w.heap.size w'.heap.size w' a1 (hgt n+1) ca1 (za9 n (hgt n+1))∧Es (nv .i64) w.heap.size w'.heap.size w' a2 (hgt n+1) ca2 (zbk n (hgt n+1))∧Ext w w'):=by
 refine zw (n:=28) (σ:= [(0,(vA [(vI n),(.slice a_t n_t c_t)]))]) Tryz.func71 rfl ?_
 replace h_t:=h_t.now;have hle_t:=h_t.le
 have hgl0:=hg0.lt
 have hgl1:=hg1.lt
 have hgl2:=hg2.lt
 have hgl3:=hg3.lt
 have h5:=zam n
 have hlt:=h_t.len_eq
 have hts:=zau hp1
 refine wsr (za (zS (Instr.box 44 (vA [(vI n),(.slice a_t n_t c_t)])) (vP w.heap.size 0) ([(vI n),(.slice a_t n_t c_t)]) 44 ?_))
 intro w1 hBw1 hEw1 hzw1 hlw1
 refine za (zad ([(vI 0),(.slice none 0 0),(.slice none 0 0)]) 128 ?_)
 intro w2 hBw2 hEw2 hzw2 hlw2
 refine zb 1 [(3,(vI 0))] (zz (zb 1 [(7,(vP w.heap.size 0))] (za (zm w.heap.size 0 ((hBw1.ext hEw2).cell rfl) ?_))))
 refine za (zt (zoB n _ (by omega) (by omega)) ?_)
 rintro _ w3 ⟨a1,ca1,a2,ca2,rfl,hFz1_0,hFz1_1,hEw3⟩
 have hzw3:=hEw3.size
 have hlea1:=hFz1_0.le
 have hlea2:=hFz1_1.le
 refine zb 3 [(11,(vI 0)),(10,(vA [(vI n),(.slice a1 (hgt n+1) ca1),(.slice a2 (hgt n+1) ca2)])),(6,(.tuple #[(vA [(vI n),(.slice a1 (hgt n+1) ca1),(.slice a2 (hgt n+1) ca2)]),(vI 0)]))] (zal ([(vI n),(.slice a1 (hgt n+1) ca1),(.slice a2 (hgt n+1) ca2)]) 128 rfl (by simp [Value.oneCell']) ?_)
 intro w4 hBw4 hEw4 hzw4 hlw4
 refine zb 1 [(5,(vI 0))] (zM (zb 1 [(12,(vI 0))] (za (zbe 13 0 0 ?_))))
 refine wEt (zf (zl (zc (zd (zd (zY 6 (fun w5 hEw5 hzw5 hT47=> ?_)))))))
 refine ze hT47 [(0,16,(vP w.heap.size 1))] 1 ?_
 have hK1:=((((hBw1.ext hEw2).ext hEw3).ext hEw4).ext hEw5)
 refine zx hT47 1 w.heap.size 1 (fun w' hC=>((hK1.ext hC).cell rfl)) (ze hT47 [(2,18,(vI n_t))] 1 (zbj hT47 3 w3.heap.size 0 (fun w' hC=>(((hBw4.ext hEw5).ext hC).all)) (zy 4 (zt (zhl n _ ((hFz1_0.ext hEw4).ext hEw5) ((hFz1_1.ext hEw4).ext hEw5) (by first | rfl | assumption) (by first | rfl | assumption) (by omega) (by omega)) ?_))))
 rintro _ w6 ⟨rfl,hEw6⟩
 have hzw6:=hEw6.size
 refine ⟨.inr hEw6, ?_⟩
 refine zr (hw:=hEw6) hT47 5 vF (zaS (((n_t:Nat):Int) !=((tot n:Nat):Int)) (zcb)) (zB (zc (zf (zl (zc (zd (zbO (fun k=>k=w1.heap.size) 7 (fun w7 hEw7 hzw7 hT64=> ?_))))))))
 have hK2:=(((hBw4.ext hEw5).ext hEw6).ext hEw7)
 have hX1:Chg (fun k=>k=w1.heap.size) w7 w7:=(Chg.refl (fun k=>k=w1.heap.size) w7)
 refine zbj (hw:=hX1) hT64 0 w3.heap.size 0 (fun w' hC=>((hK2.chg hC (fun hs=>by have h:_=_:=hs;omega)).all)) (zbj (hw:=hX1) hT64 1 w3.heap.size 0 (fun w' hC=>((hK2.chg hC (fun hs=>by have h:_=_:=hs;omega)).all)) (zbj (hw:=hX1) hT64 2 w.heap.size 0 (fun w' hC=>((((hK1.ext hEw6).ext hEw7).chg hC (fun hs=>by have h:_=_:=hs;omega)).all)) ?_))
 have hK3:=((((hFz1_0.ext hEw4).ext hEw5).ext hEw6).ext hEw7)
 have hK4:=((((hFz1_1.ext hEw4).ext hEw5).ext hEw6).ext hEw7)
 have hX2:=((hEw1.trans hEw2).trans hEw3).trans hEw4
 have hK5:=((((h_t.ext hX2).ext hEw5).ext hEw6).ext hEw7)
 have hK6:=((((hg0.ext hX2).ext hEw5).ext hEw6).ext hEw7)
 have hK7:=((((hg1.ext hX2).ext hEw5).ext hEw6).ext hEw7)
 have hK8:=((((hg2.ext hX2).ext hEw5).ext hEw6).ext hEw7)
 refine zy 3 (zt (zuh n _ hK3 hK4 hK5 (by first | rfl | assumption) (by first | rfl | assumption) (by omega) (by omega) (by omega) hK6 hK7 hK8) ?_)
 rintro _ w8 ⟨a3,rfl,hEw8⟩
 have hzw8:=hEw8.size
 have hX3:Chg (fun k=>k=w1.heap.size) w7 w8:=((Chg.refl (fun k=>k=w1.heap.size) w7).trans hEw8.chg)
 refine ⟨.inr hX3, ?_⟩
 have hX4:=((hEw5.trans hEw6).trans hEw7).trans hEw8
 refine zy 4 (zt (zvF a3 (zbZ n t) _ ((hg3.ext hX2).ext hX4)) ?_)
 rintro _ w9 ⟨rfl,hEw9⟩
 have hzw9:=hEw9.size
 have hX5:Chg (fun k=>k=w1.heap.size) w7 w9:=(((Chg.refl (fun k=>k=w1.heap.size) w7).trans hEw8.chg).trans hEw9.chg)
 refine ⟨.inr hX5, ?_⟩
 have hK9:=((((hBw2.ext hEw3).ext hEw4).ext hX4).ext hEw9)
 refine zy 5 (zC 128 w1.heap.size 0 128 (vA [(vI n),(.slice a1 (hgt n+1) ca1),(.slice a2 (hgt n+1) ca2)]) ([(vI 0),(.slice none 0 0),(.slice none 0 0)]) ([(vI n),(.slice a1 (hgt n+1) ca1),(.slice a2 (hgt n+1) ca2)]) hK9 (by kernel_rfl) (by first | decide |(simp;done)|(simp;omega)) (by simp [Value.oneCell']) ?_)
 have hK10:=((((hBw2.ext hEw3).ext hEw4).ext hX4).ext hEw9)
 intro w10 hBw10 hCw10
 have hzw10:=hCw10.size
 rw [zv _ _ (by kernel_rfl)] at hBw10
 have hX6:Chg (fun k=>k=w1.heap.size) w7 w10:=(Chg.then (((Chg.refl (fun k=>k=w1.heap.size) w7).trans hEw8.chg).trans hEw9.chg) hCw10 (fun k hk hs=>by have h:k=_:=hs;first | exact hs | exact .inl h | exact .inr h |(exfalso;omega)))
 refine ⟨.inr hX6, ?_⟩
 refine ze (hw:=hX6) hT64 [(6,3,(vI (zbZ n t)))] 1 (zB (zc (zaH (zaQ (show zO Tryz.prog 28 _ _ (.cell 2 128) (vA [(vI n),(.slice a1 (hgt n+1) ca1),(.slice a2 (hgt n+1) ca2)]) from ⟨⟨w1.heap.size,0,none⟩,(by kernel_rfl),zE (T:=128) (vs:= [(vI n),(.slice a1 (hgt n+1) ca1),(.slice a2 (hgt n+1) ca2)]) (hBw10).all (by kernel_rfl)⟩) (show zO Tryz.prog 28 _ _ (.tmp 3) (vI (zbZ n t)) by (show _=_;kernel_rfl)) ?_))))
 have hK11:=(((hK3.ext hEw8).ext hEw9).chg hCw10)
 have hK12:=(((hK4.ext hEw8).ext hEw9).chg hCw10)
 have hX7:Ext w w10:=(Ext.own ((hX2.trans hX4).trans hEw9) hCw10 (by omega))
 exact ⟨_,_,_,_,rfl,(hK11).now.mono (by omega) (Nat.le_refl _),(hK12).now.mono (by omega) (Nat.le_refl _),hX7⟩
theorem zpi (n:Nat) {lo_t hi_t:Nat} {a_t:Option Addr} {n_t c_t:Nat} {t:List Nod} (w:World) (h_t:Ms zH 274 lo_t hi_t w a_t n_t c_t t) (hp0:1≤n) (hp1:n≤4096) (hp2:n_t≠tot n):
  Calls Tryz.prog 71 #[(vA [(vI n),(.slice a_t n_t c_t)])] w (Ret fun r w'=>∃(a0:Int) (a1:Option Addr) (na1:Nat) (ca1:Nat) (a2:Option Addr) (na2:Nat) (ca2:Nat),r=(.tuple #[(vA [(.int .i64 a0),(.slice a1 na1 ca1),(.slice a2 na2 ca2)]),(vI 1)])∧Ext w w'):=by
 refine zw (n:=28) (σ:= [(0,(vA [(vI n),(.slice a_t n_t c_t)]))]) Tryz.func71 rfl ?_
 replace h_t:=h_t.now;have hle_t:=h_t.le
 have h5:=zam n
 refine wsr (za (zS (Instr.box 44 (vA [(vI n),(.slice a_t n_t c_t)])) (vP w.heap.size 0) ([(vI n),(.slice a_t n_t c_t)]) 44 ?_))
 intro w1 hBw1 hEw1 hzw1 hlw1
 refine za (zad ([(vI 0),(.slice none 0 0),(.slice none 0 0)]) 128 ?_)
 intro w2 hBw2 hEw2 hzw2 hlw2
 refine zb 1 [(3,(vI 0))] (zz (zb 1 [(7,(vP w.heap.size 0))] (za (zm w.heap.size 0 ((hBw1.ext hEw2).cell rfl) ?_))))
 refine za (zt (zoB n _ (by omega) (by omega)) ?_)
 rintro _ w3 ⟨a1,ca1,a2,ca2,rfl,hFz1_0,hFz1_1,hEw3⟩
 have hzw3:=hEw3.size
 have hlea1:=hFz1_0.le
 have hlea2:=hFz1_1.le
 refine zb 3 [(11,(vI 0)),(10,(vA [(vI n),(.slice a1 (hgt n+1) ca1),(.slice a2 (hgt n+1) ca2)])),(6,(.tuple #[(vA [(vI n),(.slice a1 (hgt n+1) ca1),(.slice a2 (hgt n+1) ca2)]),(vI 0)]))] (zal ([(vI n),(.slice a1 (hgt n+1) ca1),(.slice a2 (hgt n+1) ca2)]) 128 rfl (by simp [Value.oneCell']) ?_)
 intro w4 hBw4 hEw4 hzw4 hlw4
 refine zb 1 [(5,(vI 0))] (zM (zb 1 [(12,(vI 0))] (za (zbe 13 0 0 ?_))))
 refine wEt (zf (zl (zc (zd (zd (zY 6 (fun w5 hEw5 hzw5 hT108=> ?_)))))))
 refine ze hT108 [(0,16,(vP w.heap.size 1))] 1 ?_
 have hK1:=((((hBw1.ext hEw2).ext hEw3).ext hEw4).ext hEw5)
 refine zx hT108 1 w.heap.size 1 (fun w' hC=>((hK1.ext hC).cell rfl)) (ze hT108 [(2,18,(vI n_t))] 1 (zbj hT108 3 w3.heap.size 0 (fun w' hC=>(((hBw4.ext hEw5).ext hC).all)) (zy 4 (zt (zhl n _ ((hFz1_0.ext hEw4).ext hEw5) ((hFz1_1.ext hEw4).ext hEw5) (by first | rfl | assumption) (by first | rfl | assumption) (by omega) (by omega)) ?_))))
 rintro _ w6 ⟨rfl,hEw6⟩
 have hzw6:=hEw6.size
 refine ⟨.inr hEw6, ?_⟩
 refine zr (hw:=hEw6) hT108 5 vT (zaS (((n_t:Nat):Int) !=((tot n:Nat):Int)) (zd1)) (zB (zc (zk (wsr (za (zV w3.heap.size 0 (((hBw4.ext hEw5).ext hEw6).all) ?_))))))
 have hK2:=((((hBw2.ext hEw3).ext hEw4).ext hEw5).ext hEw6)
 refine za (zC 128 w1.heap.size 0 128 (vA [(vI n),(.slice a1 (hgt n+1) ca1),(.slice a2 (hgt n+1) ca2)]) ([(vI 0),(.slice none 0 0),(.slice none 0 0)]) ([(vI n),(.slice a1 (hgt n+1) ca1),(.slice a2 (hgt n+1) ca2)]) hK2 (by kernel_rfl) (by first | decide |(simp;done)|(simp;omega)) (by simp [Value.oneCell']) ?_)
 have hK3:=((((hBw2.ext hEw3).ext hEw4).ext hEw5).ext hEw6)
 intro w7 hBw7 hCw7
 have hzw7:=hCw7.size
 rw [zv _ _ (by kernel_rfl)] at hBw7
 refine zb 1 [(3,(vI 1))] (zF (zj (zaQ (show zO Tryz.prog 28 _ _ (.cell 2 128) (vA [(vI n),(.slice a1 (hgt n+1) ca1),(.slice a2 (hgt n+1) ca2)]) from ⟨⟨w1.heap.size,0,none⟩,(by kernel_rfl),zE (T:=128) (vs:= [(vI n),(.slice a1 (hgt n+1) ca1),(.slice a2 (hgt n+1) ca2)]) (hBw7).all (by kernel_rfl)⟩) (show zO Tryz.prog 28 _ _ (.tmp 3) (vI 1) by (show _=_;kernel_rfl)) ?_)))
 have hX1:Ext w w7:=(Ext.own (((((hEw1.trans hEw2).trans hEw3).trans hEw4).trans hEw5).trans hEw6) hCw7 (by omega))
 exact ⟨_,_,_,_,_,_,_,rfl,hX1⟩
theorem zqu (n:Int) {lo_t hi_t:Nat} {a_t:Option Addr} {n_t c_t:Nat} {t:List Nod} (w:World) (h_t:Ms zH 274 lo_t hi_t w a_t n_t c_t t) (hp0:¬(1≤n∧n≤4096)):
  Calls Tryz.prog 71 #[(vA [(.int .i64 n),(.slice a_t n_t c_t)])] w (Ret fun r w'=>∃(a0:Int) (a1:Option Addr) (na1:Nat) (ca1:Nat) (a2:Option Addr) (na2:Nat) (ca2:Nat),r=(.tuple #[(vA [(.int .i64 a0),(.slice a1 na1 ca1),(.slice a2 na2 ca2)]),(vI 1)])∧Ext w w'):=by
 refine zw (n:=28) (σ:= [(0,(vA [(.int .i64 n),(.slice a_t n_t c_t)]))]) Tryz.func71 rfl ?_
 replace h_t:=h_t.now;have hle_t:=h_t.le
 refine wsr (za (zS (Instr.box 44 (vA [(.int .i64 n),(.slice a_t n_t c_t)])) (vP w.heap.size 0) ([(.int .i64 n),(.slice a_t n_t c_t)]) 44 ?_))
 intro w1 hBw1 hEw1 hzw1 hlw1
 refine za (zad ([(vI 0),(.slice none 0 0),(.slice none 0 0)]) 128 ?_)
 intro w2 hBw2 hEw2 hzw2 hlw2
 refine zb 1 [(3,(vI 0))] (zz (zb 1 [(7,(vP w.heap.size 0))] (za (zm w.heap.size 0 ((hBw1.ext hEw2).cell rfl) ?_))))
 refine za (zt (zrQ n _ (by omega)) ?_)
 rintro _ w3 ⟨a1,a2,rfl,hFz1_0,hFz1_1,hEw3⟩
 have hzw3:=hEw3.size
 have hlea1:=hFz1_0.le
 have hlea2:=hFz1_1.le
 refine zb 3 [(11,(vI 1)),(10,(vA [(vI 0),(.slice a1 0 0),(.slice a2 0 0)])),(6,(.tuple #[(vA [(vI 0),(.slice a1 0 0),(.slice a2 0 0)]),(vI 1)]))] (zal ([(vI 0),(.slice a1 0 0),(.slice a2 0 0)]) 128 rfl (by simp [Value.oneCell']) ?_)
 intro w4 hBw4 hEw4 hzw4 hlw4
 refine zb 1 [(5,(vI 1))] (zM (zb 1 [(12,(vI 1))] (za (zda 13 1 0 ?_))))
 refine wEt (zk (wsr (za (zV w3.heap.size 0 (hBw4.all) ?_))))
 refine zb 1 [(15,(vI 1))] (za (zC 128 w1.heap.size 0 128 (vA [(vI 0),(.slice a1 0 0),(.slice a2 0 0)]) ([(vI 0),(.slice none 0 0),(.slice none 0 0)]) ([(vI 0),(.slice a1 0 0),(.slice a2 0 0)]) ((hBw2.ext hEw3).ext hEw4) (by kernel_rfl) (by first | decide |(simp;done)|(simp;omega)) (by simp [Value.oneCell']) ?_))
 intro w5 hBw5 hCw5
 have hzw5:=hCw5.size
 rw [zv _ _ (by kernel_rfl)] at hBw5
 refine zb 1 [(3,(vI 1))] (zF (zj (zaQ (show zO Tryz.prog 28 _ _ (.cell 2 128) (vA [(vI 0),(.slice a1 0 0),(.slice a2 0 0)]) from ⟨⟨w1.heap.size,0,none⟩,(by kernel_rfl),zE (T:=128) (vs:= [(vI 0),(.slice a1 0 0),(.slice a2 0 0)]) (hBw5).all (by kernel_rfl)⟩) (show zO Tryz.prog 28 _ _ (.tmp 3) (vI 1) by (show _=_;kernel_rfl)) ?_)))
 have hX1:Ext w w5:=(Ext.own (((hEw1.trans hEw2).trans hEw3).trans hEw4) hCw5 (by omega))
 exact ⟨_,_,_,_,_,_,_,rfl,hX1⟩
theorem zoW (n:Int) {lo_t hi_t:Nat} {a_t:Option Addr} {n_t c_t:Nat} {t:List Nod} (w:World) (h_t:Ms zH 274 lo_t hi_t w a_t n_t c_t t) (hp0:¬(1≤n∧n≤4096∧t.length=tot n.toNat)):
  Calls Tryz.prog 71 #[(vA [(.int .i64 n),(.slice a_t n_t c_t)])] w (Ret fun r w'=>∃(a0:Int) (a1:Option Addr) (na1:Nat) (ca1:Nat) (a2:Option Addr) (na2:Nat) (ca2:Nat),r=(.tuple #[(vA [(.int .i64 a0),(.slice a1 na1 ca1),(.slice a2 na2 ca2)]),(vI 1)])∧Ext w w'):=by
 have hlt:=h_t.len_eq
 by_cases h:1≤n∧n≤4096
 ·obtain ⟨m,rfl⟩:=Int.eq_ofNat_of_zero_le (show 0≤n by omega)
  exact zpi m w h_t (by omega) (by omega) (fun hh=>hp0 ⟨h.1,h.2,by rw [Int.toNat_natCast];omega⟩)
 ·exact zqu n w h_t h
theorem zvL (n:Nat) {lo_t hi_t:Nat} {a_t:Option Addr} {n_t c_t:Nat} {t:List Nod} (w:World) (h_t:Ms zH 274 lo_t hi_t w a_t n_t c_t t) (hp0:1≤n) (hp1:n≤4096) (hp2:n_t=tot n) (hg0:Gl 0 [vI 45,vI 33] w) (hg1:Gl 1 (w8C zaV) w) (hg2:Gl 3 (zas kA) w) (hg3:Gl 2 [.iface 227 (.agg #[.pointer (some ⟨4,160,none⟩)])] w):
  Calls Tryz.prog 44 #[(vA [(vI n),(.slice a_t n_t c_t)])] w (Ret fun r w'=>r=(vI (zbZ n t))∧Ext w w'):=by
 refine zw (n:=11) (σ:= [(0,(vA [(vI n),(.slice a_t n_t c_t)]))]) Tryz.func44 rfl ?_
 replace h_t:=h_t.now;have hle_t:=h_t.le
 have hgl0:=hg0.lt
 have hgl1:=hg1.lt
 have hgl2:=hg2.lt
 have hgl3:=hg3.lt
 refine wsr (za (zS (Instr.box 44 (vA [(vI n),(.slice a_t n_t c_t)])) (vP w.heap.size 0) ([(vI n),(.slice a_t n_t c_t)]) 44 ?_))
 intro w1 hBw1 hEw1 hzw1 hlw1
 refine zb 1 [(2,(vI 0))] (zz (za (zV w.heap.size 0 (hBw1.all) ?_)))
 refine za (zt (zs2 n _ (h_t.ext hEw1) (by omega) (by omega) (by omega) (hg0.ext hEw1) (hg1.ext hEw1) (hg2.ext hEw1) (hg3.ext hEw1)) ?_)
 rintro _ w2 ⟨a1,ca1,a2,ca2,rfl,hFz1_0,hFz1_1,hEw2⟩
 have hzw2:=hEw2.size
 have hlea1:=hFz1_0.le
 have hlea2:=hFz1_1.le
 refine zb 3 [(9,(vI (zbZ n t))),(8,(vA [(vI n),(.slice a1 (hgt n+1) ca1),(.slice a2 (hgt n+1) ca2)])),(5,(.tuple #[(vA [(vI n),(.slice a1 (hgt n+1) ca1),(.slice a2 (hgt n+1) ca2)]),(vI (zbZ n t))]))] (zal ([(vI n),(.slice a1 (hgt n+1) ca1),(.slice a2 (hgt n+1) ca2)]) 128 rfl (by simp [Value.oneCell']) ?_)
 intro w3 hBw3 hEw3 hzw3 hlw3
 refine zb 1 [(4,(vI (zbZ n t)))] (zz (zb 2 [(2,(vI (zbZ n t))),(10,(vI (zbZ n t)))] (zF (zh (vI (zbZ n t)) ?_))))
 exact ⟨rfl,((hEw1.trans hEw2).trans hEw3)⟩
theorem zuN (n:Int) {lo_t hi_t:Nat} {a_t:Option Addr} {n_t c_t:Nat} {t:List Nod} (w:World) (h_t:Ms zH 274 lo_t hi_t w a_t n_t c_t t) (hp0:¬(1≤n∧n≤4096∧t.length=tot n.toNat)):
  Calls Tryz.prog 44 #[(vA [(.int .i64 n),(.slice a_t n_t c_t)])] w (Ret fun r w'=>r=(vI 1)∧Ext w w'):=by
 refine zw (n:=11) (σ:= [(0,(vA [(.int .i64 n),(.slice a_t n_t c_t)]))]) Tryz.func44 rfl ?_
 replace h_t:=h_t.now;have hle_t:=h_t.le
 refine wsr (za (zS (Instr.box 44 (vA [(.int .i64 n),(.slice a_t n_t c_t)])) (vP w.heap.size 0) ([(.int .i64 n),(.slice a_t n_t c_t)]) 44 ?_))
 intro w1 hBw1 hEw1 hzw1 hlw1
 refine zb 1 [(2,(vI 0))] (zz (za (zV w.heap.size 0 (hBw1.all) ?_)))
 refine za (zt (zoW n _ (h_t.ext hEw1) (by assumption)) ?_)
 rintro _ w2 ⟨a1,a2,na2,ca2,a3,na3,ca3,rfl,hEw2⟩
 have hzw2:=hEw2.size
 refine zb 3 [(9,(vI 1)),(8,(vA [(.int .i64 a1),(.slice a2 na2 ca2),(.slice a3 na3 ca3)])),(5,(.tuple #[(vA [(.int .i64 a1),(.slice a2 na2 ca2),(.slice a3 na3 ca3)]),(vI 1)]))] (zal ([(.int .i64 a1),(.slice a2 na2 ca2),(.slice a3 na3 ca3)]) 128 rfl (by simp [Value.oneCell']) ?_)
 intro w3 hBw3 hEw3 hzw3 hlw3
 refine zb 1 [(4,(vI 1))] (zz (zb 2 [(2,(vI 1)),(10,(vI 1))] (zF (zh (vI 1) ?_))))
 exact ⟨rfl,((hEw1.trans hEw2).trans hEw3)⟩
theorem zws (n:Int) {lo_t hi_t:Nat} {a_t:Option Addr} {n_t c_t:Nat} {t:List Nod} (w:World) (h_t:Ms zH 274 lo_t hi_t w a_t n_t c_t t) (hg0:Gl 0 [vI 45,vI 33] w) (hg1:Gl 1 (w8C zaV) w) (hg2:Gl 3 (zas kA) w) (hg3:Gl 2 [.iface 227 (.agg #[.pointer (some ⟨4,160,none⟩)])] w):
  Calls Tryz.prog 44 #[(vA [(.int .i64 n),(.slice a_t n_t c_t)])] w (Ret fun r w'=>r=(vI (zeJ n t))∧Ext w w'):=by
 have hlt:=h_t.len_eq
 by_cases h:1≤n∧n≤4096∧t.length=tot n.toNat
 ·obtain ⟨m,rfl⟩:=Int.eq_ofNat_of_zero_le (show 0≤n by omega)
  have h2:=h.2.2;rw [Int.toNat_natCast] at h2
  rw [zgz (by omega) (by omega) h2];exact zvL m w h_t (by omega) (by omega) (by omega) hg0 hg1 hg2 hg3
 ·rw [zq9 h];exact zuN n w h_t h
end Go.Proofs.YtkmhgepdhilllaaGreatDoor
namespace Go.Proofs.YtkmhgepdhilllaaGreatDoor
open Go Go.RowKit Go.Cs
set_option maxRecDepth 100000
theorem zhC (p:Nat) (w:World) (hp0:p≤1):
  Calls Tryz.prog 52 #[(vI p)] w (Ret fun r w'=>r=(.tuple #[(vB (p+1)),(vI 0)])∧Ext w w'):=by
 refine zw (n:=13) (σ:= [(0,(vI p))]) Tryz.func52 rfl ?_
 refine wsr (zb 2 [(3,(vI 0)),(2,(vB 0))] (zM (zb 1 [(4,(vI p))] (za (zbT 5 p 0 (fun hc5=> ?_) (fun hc5=> ?_))))))
 ·refine zb 2 [(7,(vI p)),(6,vT)] (za (zbe 8 p 1 ?_))
  refine zb 1 [(9,vF)] (wEt (zf (zl (zc (wsr (zb 1 [(10,(vI p))] (za (zae (some 11) .u8 (IntKind.u8.wrap ((p:Nat):Int)) p (zbF rfl rfl (by show _<2^8;omega)) ?_))))))))
  refine za (zae (some 12) .u8 (IntKind.u8.wrap (((p:Nat):Int)+((1:Nat):Int))) (p+1) (zbF rfl rfl (by show _<2^8;omega)) ?_)
  exact zb 2 [(3,(vI 0)),(2,(vB (p+1)))] (zF (zh (.tuple #[(vB (p+1)),(vI 0)]) (⟨rfl,(Ext.refl _)⟩)))
 ·refine zb 4 [(9,vF),(8,undef),(7,undef),(6,vF)] (wEt (zf (zl (zc (wsr (zb 1 [(10,(vI p))] (za (zae (some 11) .u8 (IntKind.u8.wrap ((p:Nat):Int)) p (zbF rfl rfl (by show _<2^8;omega)) ?_))))))))
  refine za (zae (some 12) .u8 (IntKind.u8.wrap (((p:Nat):Int)+((1:Nat):Int))) (p+1) (zbF rfl rfl (by show _<2^8;omega)) ?_)
  exact zb 2 [(3,(vI 0)),(2,(vB (p+1)))] (zF (zh (.tuple #[(vB (p+1)),(vI 0)]) (⟨rfl,(Ext.refl _)⟩)))
theorem zu3 (x:Int) (w:World) (hp0:x=0∨x=1):
  Calls Tryz.prog 60 #[(.int .i64 x)] w (Ret fun r w'=>r=vF∧Ext w w'):=by
 refine zw (n:=9) (σ:= [(0,(.int .i64 x))]) Tryz.func60 rfl ?_
 refine wsr (zb 1 [(2,vF)] (zz (zb 1 [(3,(.int .i64 x))] (za (zg9 4 x ((0:Nat):Int) (fun hc4=> ?_) (fun hc4=> ?_))))))
 ·refine zb 2 [(6,(.int .i64 x)),(5,vT)] (za (zbn (some 7) (x !=((1:Nat):Int)) false (zcb) ?_))
  exact zb 2 [(2,vF),(8,vF)] (zF (zh vF (⟨rfl,(Ext.refl _)⟩)))
 ·exact zb 5 [(2,vF),(8,vF),(7,undef),(6,undef),(5,vF)] (zF (zh vF (⟨rfl,(Ext.refl _)⟩)))
theorem zu8 {lo_z hi_z:Nat} {a_z:Option Addr} {n_z c_z:Nat} {z:List Int} (w:World) (h_z:Es (iv .i64) lo_z hi_z w a_z n_z c_z z) (hp0:∀i,z.getD i 0=0∨z.getD i 0=1):
  Calls Tryz.prog 72 #[(.slice a_z n_z c_z),(.func (.func 60) #[] #[])] w (Ret fun r w'=>r=(.int .i64 (-1))∧Ext w w'):=by
 refine zw (n:=19) (σ:= [(0,(.slice a_z n_z c_z)),(1,(.func (.func 60) #[] #[]))]) Tryz.func72 rfl ?_
 replace h_z:=h_z.now;have hle_z:=h_z.le
 have hlz:=h_z.len_eq
 refine wsr (zb 1 [(4,(vI 0))] (zM (zb 3 [(8,(vI 0)),(7,(vI n_z)),(6,(.slice a_z n_z c_z))] (zq ?_))))
 refine zc (zp (zU (X:=Nat) (fun k=> [(8,(vI k))]) [4,5,9,10,11,12,13,14,15,16,17,18] (fun k w1=>k≤n_z∧Ext w w1) (fun k=>n_z-k) 0 (by kernel_rfl) ⟨Nat.zero_le _,(Ext.refl _)⟩ ?_))
 rintro k dw1 w1 ⟨hk,hEl⟩
 have hzl:=hEl.size
 refine wsr (za (zag 9 k n_z (fun hc9=> ?_) (fun hc9=> ?_)))
 ·refine wEt (zd (zk (zl (zc (zd (zp (wsr ?_)))))))
  refine zb 2 [(5,(vI k)),(10,(vI k))] (zz (zb 3 [(13,(vI k)),(12,(.slice a_z n_z c_z)),(11,(.func (.func 60) #[] #[]))] ?_))
  obtain ⟨b1,o1,rfl⟩:=h_z.addr (by omega)
  refine za (zan b1 o1 n_z c_z k 1 ?_)
  refine za (zm b1 (o1+k*1) ((h_z.ext hEl).celli (by omega)) ?_)
  refine za (zt (zu3 (gz z k) _ (hp0 k)) ?_)
  rintro _ w2 ⟨rfl,hEw2⟩
  have hzw2:=hEw2.size
  refine wEt (zf (zl (zi (zc (zg (za (zJ 18 k 1 (k+1) ?_)))))))
  refine zb 1 [(8,(vI (k+1)))] (zq (zn (zG (k+1) ?_ ?_)))
  ·exact ⟨by omega,(hEl.trans hEw2)⟩
  ·first | omega |(dsimp only;omega)
 ·refine wEt (zd (zf (zP (zo (zo (zD (zc (zd ?_))))))))
  exact zg (zb 1 [(4,(.int .i64 (-1)))] (zF (zh (.int .i64 (-1)) (⟨rfl,hEl⟩))))
theorem zvV {lo_z hi_z:Nat} {a_z:Option Addr} {n_z c_z:Nat} {z:List Int} (w:World) (h_z:Es (iv .i64) lo_z hi_z w a_z n_z c_z z) (hp0:∀i,z.getD i 0=0∨z.getD i 0=1):
  Calls Tryz.prog 45 #[(.slice a_z n_z c_z),(.func (.func 60) #[] #[])] w (Ret fun r w'=>r=vF∧Ext w w'):=by
 refine zw (n:=9) (σ:= [(0,(.slice a_z n_z c_z)),(1,(.func (.func 60) #[] #[]))]) Tryz.func45 rfl ?_
 replace h_z:=h_z.now;have hle_z:=h_z.le
 refine wsr (zb 1 [(4,vF)] (zz (zb 2 [(6,(.func (.func 60) #[] #[])),(5,(.slice a_z n_z c_z))] (za (zt (zu8 _ h_z (by assumption)) ?_)))))
 rintro _ w1 ⟨rfl,hEw1⟩
 have hzw1:=hEw1.size
 refine za (zbn (some 8) (decide (-1≥((0:Nat):Int))) false (zbW) ?_)
 exact zb 1 [(4,vF)] (zF (zh vF (⟨rfl,hEw1⟩)))
end Go.Proofs.YtkmhgepdhilllaaGreatDoor
namespace Go.Proofs.YtkmhgepdhilllaaGreatDoor
open Go Go.RowKit Go.Cs
set_option maxRecDepth 100000
set_option maxHeartbeats 8000000 in
theorem zsz (n:Nat) {lo_l hi_l:Nat} {a_l:Option Addr} {n_l c_l:Nat} {l:List Rec} {lo_s hi_s:Nat} {a_s:Option Addr} {n_s c_s:Nat} {s:List Nat} (w:World) (h_l:Ms zL 35 lo_l hi_l w a_l n_l c_l l) (h_s:Es (nv .i64) lo_s hi_s w a_s n_s c_s s) (hp0:OkM l s) (hp1:n=n_l) (hg0:Gl 0 [vI 45,vI 33] w) (hg1:Gl 1 (w8C zaV) w) (hg2:Gl 3 (zas kA) w):
  Calls Tryz.prog 29 #[(vI n),(.slice a_l n_l c_l),(.slice a_s n_s c_s)] w (Ret fun r w'=>∃a1,r=(.tuple #[(vA [(vI n),(.slice a1 (tot n) (tot n))]),(vI 0)])∧OwM zH 274 w.heap.size w'.heap.size w' a1 (tot n) (tot n) 74 (zap l s)∧Ext w w'):=by
 refine zw (n:=177) (σ:= [(0,(vI n)),(1,(.slice a_l n_l c_l)),(2,(.slice a_s n_s c_s))]) Tryz.func29 rfl ?_
 replace h_l:=h_l.now;have hle_l:=h_l.le
 replace h_s:=h_s.now;have hle_s:=h_s.le
 have hgl0:=hg0.lt
 have hgl1:=hg1.lt
 have hgl2:=hg2.lt
 have hlen:=h_l.len_eq
 have hls:=h_s.len_eq
 have hnl:n=l.length:=by omega
 have ho1:=hp0.n1;have ho2:=hp0.n2;have ho4:=hp0.len;rw [←hnl] at ho1 ho2 ho4
 have h5:=zam n
 have hts:=zau ho2
 have hle:=h_l.le;have hle2:=h_s.le
 refine wsr (za (zad ([(vI 0),(.slice none 0 0)]) 44 ?_))
 intro w1 hBw1 hEw1 hzw1 hlw1
 refine zb 1 [(7,(vI 0))] (zz (zb 1 [(28,(vI n))] (za (zt (zoB n _ (by omega) (by omega)) ?_))))
 rintro _ w2 ⟨a1,ca1,a2,ca2,rfl,hFz1_0,hFz1_1,hEw2⟩
 have hzw2:=hEw2.size
 have hlea1:=hFz1_0.le
 have hlea2:=hFz1_1.le
 refine zb 3 [(31,(vI 0)),(30,(vA [(vI n),(.slice a1 (hgt n+1) ca1),(.slice a2 (hgt n+1) ca2)])),(27,(.tuple #[(vA [(vI n),(.slice a1 (hgt n+1) ca1),(.slice a2 (hgt n+1) ca2)]),(vI 0)]))] (zal ([(vI n),(.slice a1 (hgt n+1) ca1),(.slice a2 (hgt n+1) ca2)]) 128 rfl (by simp [Value.oneCell']) ?_)
 intro w3 hBw3 hEw3 hzw3 hlw3
 refine zb 1 [(9,(vI 0))] (zM (zb 1 [(32,(vI 0))] (za (zbe 33 0 0 ?_))))
 refine wEt (zf (zl (zc (wsr (zb 1 [(10,(.func (.func 60) #[] #[]))] (wEt ?_))))))
 refine zd (wsr (zb 3 [(38,(vI n)),(37,(vI n_l)),(36,(.slice a_l n_l c_l))] ?_))
 have hK1:=(((h_s.ext hEw1).ext hEw2).ext hEw3)
 have hIs:=(hK1).ints
 refine za (zbe 39 n_l n ?_)
 refine zb 3 [(42,(vI n_s)),(41,(.slice a_s n_s c_s)),(40,vF)] (za (zV w2.heap.size 0 (hBw3.all) ?_))
 refine za (zt (zhl n _ (hFz1_0.ext hEw3) (hFz1_1.ext hEw3) (by first | rfl | assumption) (by first | rfl | assumption) (by omega) (by omega)) ?_)
 rintro _ w4 ⟨rfl,hEw4⟩
 have hzw4:=hEw4.size
 refine za (zbe 45 n_s (tot n) ?_)
 refine zb 4 [(49,(.func (.func 60) #[] #[])),(48,(.slice a_s n_s c_s)),(47,vF),(46,vF)] (za (zt (zvV _ (hIs.ext hEw4) (fun i=>by rw [zkF];have:=hp0.sl i;omega)) ?_))
 rintro _ w5 ⟨rfl,hEw5⟩
 have hzw5:=hEw5.size
 refine zb 1 [(51,vF)] (wEt (zf (zl (zc (zd (wsr (zb 3 [(55,(vI 0)),(54,(vI n_l)),(53,(.slice a_l n_l c_l))] ?_)))))))
 refine wEt (zp (zU (X:=Nat) (fun i=> [(55,(vI i))]) [7,12,13,56,57,58,59,60,61,62,63,64,65] (fun i w6=>i≤n_l∧Ext w5 w6) (fun i=>n_l-i) 0 (by kernel_rfl) ⟨Nat.zero_le _,Ext.refl _⟩ ?_))
 rintro i dw6 w6 ⟨hi,hE0⟩
 have hz0:=hE0.size
 refine wsr (za (zag 56 i n_l (fun hc56=> ?_) (fun hc56=> ?_)))
 ·refine wEt (zd (zk (zl (zc (zd (zp (wsr ?_)))))))
  obtain ⟨b1,o1,rfl⟩:=h_l.addr (by omega) (by decide)
  refine za (zan b1 o1 n_l c_l i 35 ?_)
  have hX1:=((hEw1.trans hEw2).trans hEw3).trans hEw4
  have hK2:=(((h_l.ext hX1).ext hEw5).ext hE0)
  refine za (zQ b1 (o1+i*35) (hK2.at Rec.zero (by omega)) (zab _) ?_)
  refine zal (zL (l.getD i Rec.zero)) 68 (zab _) (zbi _) ?_
  intro w7 hBw7 hEw7 hzw7 hlw7
  refine zz (za (zQ w6.heap.size 0 (hBw7.all) (zab _) ?_))
  refine za (zt (zf5 (l.getD i Rec.zero) _) ?_)
  rintro _ w8 ⟨rfl,hEw8⟩
  have hzw8:=hEw8.size
  rw [show zaB (l.getD i Rec.zero)=0 from hp0.rc i (by omega)]
  refine zb 1 [(13,(vI 0))] (zz (zb 1 [(61,(vI 0))] (za (zbe 62 0 0 ?_))))
  refine wEt (zf (zl (zi (zc (zg (za (zJ 65 i 1 (i+1) ?_)))))))
  refine zb 1 [(55,(vI (i+1)))] (zq (zn (zG (i+1) ?_ ?_)))
  ·exact ⟨by omega,((hE0.trans hEw7).trans hEw8)⟩
  ·first | omega |(dsimp only;omega)
 ·refine wEt (zd (zf (zP (zo (zo (zD (zc (zd ?_))))))))
  refine zg (zb 1 [(66,(vI n))] ?_)
  have hK3:=(((hBw3.ext hEw4).ext hEw5).ext hE0)
  refine za (zV w2.heap.size 0 (hK3.all) ?_)
  have hK4:=((((hFz1_0.ext hEw3).ext hEw4).ext hEw5).ext hE0)
  have hK5:=((((hFz1_1.ext hEw3).ext hEw4).ext hEw5).ext hE0)
  refine za (zt (zhl n _ hK4 hK5 (by first | rfl | assumption) (by first | rfl | assumption) (by omega) (by omega)) ?_)
  rintro _ w9 ⟨rfl,hEw9⟩
  have hzw9:=hEw9.size
  refine za (zb8 (some 69) 42 74 274 368 (tot n) (tot n) .i64 .i64 (vA (zH Nod.zero)) (by omega) (by omega) (by omega) ?_)
  rw [zdt (f:=zH) (x:=Nod.zero) rfl (zN _) (by decide)]
  intro w10 hBw10 hEw10
  have hzw10:=hEw10.size;have hlw10:=hBw10.lt
  have hmw10:Ms zH 274 w9.heap.size (w9.heap.size+1) w10 (pA w9.heap.size 0) (tot n) (tot n) (List.replicate (tot n) Nod.zero):=Ms.of_pre (r:= []) (by rw [List.append_nil];exact hBw10) zN (by simp) (Nat.le_refl _) (by simp only [maxLen];omega) (Nat.le_refl _) (Nat.lt_succ_self _)
  refine zb 1 [(70,(vA [(vI n),(.slice (pA w9.heap.size 0) (tot n) (tot n))]))] (zal ([(vI n),(.slice (pA w9.heap.size 0) (tot n) (tot n))]) 44 rfl (by simp [Value.oneCell']) ?_)
  intro w11 hBw11 hEw11 hzw11 hlw11
  refine zM (zb 1 [(71,(vP w2.heap.size 1))] ?_)
  have hK6:=(((hK3.ext hEw9).ext hEw10).ext hEw11)
  refine za (zm w2.heap.size 1 (hK6.cell rfl) ?_)
  refine zb 2 [(74,(vI 0)),(73,(vI (hgt n+1)))] (wEt (zp ?_))
  have hX2:=((hEw5.trans hE0).trans hEw9).trans hEw10
  have hK7:=(((((hBw1.ext hEw2).ext hEw3).ext hEw4).ext hX2).ext hEw11)
  have hK8:=(((hK4.ext hEw9).ext hEw10).ext hEw11)
  have hK9:=(((hK5.ext hEw9).ext hEw10).ext hEw11)
  have hX3:Ext w w11:=(((((hEw1.trans hEw2).trans hEw3).trans hEw4).trans hX2).trans hEw11)
  refine zU (X:=Nat) (fun v=> [(74,(vI v))]) [15,16,17,75,76,77,78,79,80,81,82,83,84,85,86,87,88,89,90,91,92,93,94,95,96] (fun v w12=>v≤hgt n+1∧Blk w12 w9.heap.size ((TX n (gF v 0)).flatMap zH) 74∧Blk w12 w.heap.size ([(vI 0),(.slice none 0 0)]) 44∧Blk w12 w2.heap.size ([(vI n),(.slice a1 (hgt n+1) ca1),(.slice a2 (hgt n+1) ca2)]) 128∧Blk w12 w10.heap.size ([(vI n),(.slice (pA w9.heap.size 0) (tot n) (tot n))]) 44∧Es (nv .i64) w1.heap.size w2.heap.size w12 a1 (hgt n+1) ca1 (za9 n (hgt n+1))∧Es (nv .i64) w1.heap.size w2.heap.size w12 a2 (hgt n+1) ca2 (zbk n (hgt n+1))∧Ext w w12) (fun v=>hgt n+1-v) 0 (by kernel_rfl) ⟨Nat.zero_le _,by rw [←ztF];exact (hBw10.ext hEw11),hK7,hK6,hBw11,hK8,hK9,hX3⟩ ?_
  rintro v dw12 w12 ⟨hv,hR1,hkhR16,hkhR18,hkhR114,hs1hR1,hs2hR1,hEhR1⟩
  have hzhR1:=hEhR1.size;have hlhR1:=hR1.lt
  have hmhR1:=Ms.of_row hR1 zN (len:=tot n) (zbQ _ _).symm (by simp only [maxLen];omega)
  have hlkhR16:=hkhR16.lt
  have hlkhR18:=hkhR18.lt
  have hlkhR114:=hkhR114.lt
  have hcn:=zbl n v
  have hgc:v<hgt n+1→gt (za9 n (hgt n+1)) v=cnt n v:=fun hh=>zfy hh
  refine wsr (za (zag 75 v (hgt n+1) (fun hc75=> ?_) (fun hc75=> ?_)))
  ·replace hgc:=hgc (by omega)
   refine wEt (zd (zk (zl (zc (zd (zp (wsr ?_)))))))
   refine zb 1 [(76,(vI v))] ?_
   obtain ⟨b2,o2,rfl⟩:=hs1hR1.addr (by omega)
   refine za (zan b2 o2 (hgt n+1) ca1 v 1 ?_)
   refine za (zm b2 (o2+v*1) (hs1hR1.celln (by omega)) ?_)
   refine zb 2 [(16,(vI (gt (za9 n (hgt n+1)) v))),(15,(vI v))] (zz (zb 2 [(80,(vI 0)),(79,(vI (gt (za9 n (hgt n+1)) v)))] (wEt (zp (zU (X:=Nat) (fun j=> [(80,(vI j))]) [17,81,82,83,84,85,86,87,88,89,90,91,92,93,94,95] (fun j w13=>j≤cnt n v∧Blk w13 w9.heap.size ((TX n (gF v j)).flatMap zH) 74∧Blk w13 w.heap.size ([(vI 0),(.slice none 0 0)]) 44∧Blk w13 w2.heap.size ([(vI n),(.slice (pA b2 o2) (hgt n+1) ca1),(.slice a2 (hgt n+1) ca2)]) 128∧Blk w13 w10.heap.size ([(vI n),(.slice (pA w9.heap.size 0) (tot n) (tot n))]) 44∧Es (nv .i64) w1.heap.size w2.heap.size w13 (pA b2 o2) (hgt n+1) ca1 (za9 n (hgt n+1))∧Es (nv .i64) w1.heap.size w2.heap.size w13 a2 (hgt n+1) ca2 (zbk n (hgt n+1))∧Ext w w13) (fun j=>cnt n v-j) 0 (by kernel_rfl) ⟨Nat.zero_le _,by exact hR1,hkhR16,hkhR18,hkhR114,hs1hR1,hs2hR1,hEhR1⟩ ?_)))))
   rintro j dw13 w13 ⟨hj,hR2,hkhR26,hkhR28,hkhR214,hs1hR2,hs2hR2,hEhR2⟩
   have hzhR2:=hEhR2.size;have hlhR2:=hR2.lt
   have hmhR2:=Ms.of_row hR2 zN (len:=tot n) (zbQ _ _).symm (by simp only [maxLen];omega)
   have hlkhR26:=hkhR26.lt
   have hlkhR28:=hkhR28.lt
   have hlkhR214:=hkhR214.lt
   refine wsr (za (zag 81 j (gt (za9 n (hgt n+1)) v) (fun hc81=> ?_) (fun hc81=> ?_)))
   ·have hjc:j<cnt n v:=by omega
    have hpl:=zaL (n:=n) (l:=v) (j:=j) (by omega) hjc
    refine wEt (zd (zk (zl (zc (zd (zp (wsr ?_)))))))
    refine zb 2 [(17,(vI j)),(82,(vI j))] (wEt (zY 13 (fun w14 hEw14 hzw14 hT240=> ?_)))
    refine ze hT240 [(0,83,(vP w10.heap.size 1))] 1 (zx hT240 1 w10.heap.size 1 (fun w' hC=>(((hkhR214.ext hEw14).ext hC).cell rfl)) (zbj hT240 2 w2.heap.size 0 (fun w' hC=>(((hkhR28.ext hEw14).ext hC).all)) (ze hT240 [(3,86,(vI v)),(4,87,(vI j)),(6,89,(vI v))] 3 (zr hT240 7 (vB v) (zac .u8 (IntKind.u8.wrap ((v:Nat):Int)) (zbF rfl rfl (by show _<2^8;omega))) (ze hT240 [(8,91,(vI j))] 1 (zr hT240 9 (vW j) (zac .u32 (IntKind.u32.wrap ((j:Nat):Int)) (zbF rfl rfl (by show _<2^32;omega))) (zy 5 (zt (ze8 n v j _ (hs1hR2.ext hEw14) (hs2hR2.ext hEw14) (by first | rfl | assumption) (by first | rfl | assumption) (by omega) (by omega) (by omega) (by omega)) ?_))))))))
    rintro _ w15 ⟨rfl,hEw15⟩
    have hzw15:=hEw15.size
    refine ⟨.inr hEw15, ?_⟩
    refine zy 10 (zt (zt5 v j _ (by omega) (by omega)) ?_)
    rintro _ w16 ⟨rfl,hEw16⟩
    have hzw16:=hEw16.size
    have hX4:Ext w14 w16:=(hEw15.trans hEw16)
    refine ⟨.inr hX4, ?_⟩
    refine zaD (hw:=hX4) hT240 11 w9.heap.size 0 (tot n) (tot n) (num n v+j) 274 ?_
    have hK10:=(((hR2.ext hEw14).ext hEw15).ext hEw16)
    refine zy 12 (zC 74 w9.heap.size (0+(num n v+j)*274) 74 (vA (zH (Nod.mt v j))) ((TX n (gF v j)).flatMap zH) (zH (Nod.mt v j)) hK10 (by rw [zN];kernel_rfl) (by rw [zaC zN];(try simp only [List.length_cons,List.length_nil,List.length_set]);have:=(show List.length (TX n (gF v j))=tot n from zbQ _ _);have hln:=zN (Nod.mt v j);omega) (zct _) ?_)
    have hK11:=(((hR2.ext hEw14).ext hEw15).ext hEw16)
    intro w17 hBw17 hCw17
    have hzw17:=hCw17.size
    rw [show (zZ ((TX n (gF v j)).flatMap zH) (0+(num n v+j)*274) (zH (Nod.mt v j)):List Value)=(TX n (gF v (j+1))).flatMap zH from (zca zN _ _ _ (by rw [zbQ];try omega)).trans (congrArg (fun z=>List.flatMap zH z) (show ((TX n (gF v j)).set (num n v+j) (Nod.mt v j))=(TX n (gF v (j+1))) from zuH (by omega) hjc))] at hBw17
    have hmw17:Ms zH 274 w9.heap.size (w9.heap.size+1) w17 (pA w9.heap.size 0) (tot n) (tot n) (TX n (gF v (j+1))):=Ms.of_pre (r:= []) (by rw [List.append_nil];exact hBw17) zN (by rw [zbQ];try omega) (by omega) (by simp only [maxLen];omega) (by omega) (by omega)
    refine ⟨.inl (by kernel_rfl), ?_⟩
    refine zB (zi (zc (zg (za (zJ 95 j 1 (j+1) ?_)))))
    refine zb 1 [(80,(vI (j+1)))] (zq (zn ?_))
    have hK12:=((((hkhR26.ext hEw14).ext hEw15).ext hEw16).chg hCw17)
    have hK13:=((((hkhR28.ext hEw14).ext hEw15).ext hEw16).chg hCw17)
    have hK14:=((((hkhR214.ext hEw14).ext hEw15).ext hEw16).chg hCw17)
    have hK15:=((((hs1hR2.ext hEw14).ext hEw15).ext hEw16).chg hCw17)
    have hK16:=((((hs2hR2.ext hEw14).ext hEw15).ext hEw16).chg hCw17)
    have hX5:Ext w w17:=(Ext.own (((hEhR2.trans hEw14).trans hEw15).trans hEw16) hCw17 (by omega))
    refine zG (j+1) ?_ ?_
    ·exact ⟨by omega,by exact hBw17,hK12,hK13,hK14,hK15,hK16,hX5⟩
    ·first | omega |(dsimp only;omega)
   ·obtain rfl:j=cnt n v:=by omega
    refine wEt (zd (zf (zP (zo (zo (zD (zi (zc ?_))))))))
    refine zg (za (zJ 96 v 1 (v+1) ?_))
    refine zb 1 [(74,(vI (v+1)))] (zq (zn (zG (v+1) ?_ ?_)))
    ·exact ⟨by omega,by rw [←zq7];exact hR2,hkhR26,hkhR28,hkhR214,hs1hR2,hs2hR2,hEhR2⟩
    ·first | omega |(dsimp only;omega)
  ·obtain rfl:v=hgt n+1:=by omega
   refine wEt (zd (zf (zP (zo (zo (zD (zc (zd ?_))))))))
   refine wsr (zb 3 [(99,(vI 0)),(98,(vI n_l)),(97,(.slice a_l n_l c_l))] (wEt (zp (zU (X:=Nat) (fun i=> [(99,(vI i))]) [18,19,100,101,102,103,104,105,106,107,108,109,110,111,112,113,114] (fun i w18=>i≤n∧Blk w18 w9.heap.size ((TX n (gB l s i 1 0)).flatMap zH) 74∧Blk w18 w.heap.size ([(vI 0),(.slice none 0 0)]) 44∧Blk w18 w2.heap.size ([(vI n),(.slice a1 (hgt n+1) ca1),(.slice a2 (hgt n+1) ca2)]) 128∧Blk w18 w10.heap.size ([(vI n),(.slice (pA w9.heap.size 0) (tot n) (tot n))]) 44∧Es (nv .i64) w1.heap.size w2.heap.size w18 a1 (hgt n+1) ca1 (za9 n (hgt n+1))∧Es (nv .i64) w1.heap.size w2.heap.size w18 a2 (hgt n+1) ca2 (zbk n (hgt n+1))∧Ext w w18) (fun i=>n-i) 0 (by kernel_rfl) ⟨Nat.zero_le _,by rw [←zsy l s];exact hR1,hkhR16,hkhR18,hkhR114,hs1hR1,hs2hR1,hEhR1⟩ ?_))))
   rintro i dw18 w18 ⟨hi,hR3,hkhR36,hkhR38,hkhR314,hs1hR3,hs2hR3,hEhR3⟩
   have hzhR3:=hEhR3.size;have hlhR3:=hR3.lt
   have hmhR3:=Ms.of_row hR3 zN (len:=tot n) (zbQ _ _).symm (by simp only [maxLen];omega)
   have hlkhR36:=hkhR36.lt
   have hlkhR38:=hkhR38.lt
   have hlkhR314:=hkhR314.lt
   refine wsr (za (zag 100 i n_l (fun hc100=> ?_) (fun hc100=> ?_)))
   ·have hi4:i/4<cnt n 0:=zbw (n:=n) (i:=i) (by omega) 0
    have hpl:=zaL (n:=n) (l:=0) (j:=i/4) (by omega) hi4
    refine wEt (zd (zk (zl (zc (zd (zp (wsr ?_)))))))
    refine zb 1 [(101,(vI i))] ?_
    obtain ⟨b3,o3,rfl⟩:=h_l.addr (by omega) (by decide)
    refine za (zan b3 o3 n_l c_l i 35 ?_)
    refine za (zQ b3 (o3+i*35) ((h_l.ext hEhR3).at Rec.zero (by omega)) (zab _) ?_)
    refine za (zad (zL Rec.zero) 68 ?_)
    intro w19 hBw19 hEw19 hzw19 hlw19
    refine zb 1 [(18,(vI i))] (za (zC 68 w18.heap.size 0 68 (vA (zL (l.getD i Rec.zero))) (zL Rec.zero) (zL (l.getD i Rec.zero)) hBw19 (by rw [zab];kernel_rfl) (by first |(simp;done)|(simp;omega)) (zbi _) ?_))
    intro w20 hBw20 hCw20
    have hzw20:=hCw20.size
    rw [zv _ _ (by simp)] at hBw20
    refine wEt (zbO (fun k=>k=w9.heap.size) 11 (fun w21 hEw21 hzw21 hT354=> ?_))
    have hX6:Chg (fun k=>k=w9.heap.size) w21 w21:=(Chg.refl (fun k=>k=w9.heap.size) w21)
    refine ze (hw:=hX6) hT354 [(0,104,(vP w10.heap.size 1))] 1 ?_
    have hK17:=(((hkhR314.ext hEw19).chg hCw20).ext hEw21)
    refine zx (hw:=hX6) hT354 1 w10.heap.size 1 (fun w' hC=>((hK17.chg hC (fun hs=>by have h:_=_:=hs;omega)).cell rfl)) (ze (hw:=hX6) hT354 [(2,106,(vI i))] 1 (zr (hw:=hX6) hT354 3 (vI (i/4)) (zac .i64 (IntKind.i64.wrap (((i:Nat):Int).tdiv ((4:Nat):Int))) (zao (zez _ _))) (ze (hw:=hX6) hT354 [(4,108,(vI i))] 1 (zr (hw:=hX6) hT354 5 (vI (i%4)) (zac .i64 (((i:Nat):Int).tmod ((4:Nat):Int)) (zcX _ _)) (zaq (hw:=hX6) hT354 6 w18.heap.size 0 (fun w' hC=>(((hBw20.ext hEw21).chg hC (fun hs=>by have h:_=_:=hs;omega)).all)) (zab _) (zaD (hw:=hX6) hT354 7 w9.heap.size 0 (tot n) (tot n) (i/4) 274 (ze (hw:=hX6) hT354 [(8,112,(vP w9.heap.size (0+(i/4)*274+2)))] 1 (zaP (hw:=hX6) hT354 9 w9.heap.size (0+(i/4)*274+2) (i%4) 4 35 ?_))))))))
    have hK18:=(((hR3.ext hEw19).chg hCw20).ext hEw21)
    refine zy 10 (zC 68 w9.heap.size (0+(i/4)*274+2+(i%4)*35) 74 (vA (zL (l.getD i Rec.zero))) ((TX n (gB l s i 1 0)).flatMap zH) (zL (l.getD i Rec.zero)) hK18 (by rw [zab];kernel_rfl) (by (try simp only [List.length_append]);rw [zaC zN];have:=(show List.length (TX n (gB l s i 1 0))=tot n from zbQ _ _);have hq:i/4<List.length (TX n (gB l s i 1 0)):=(by rw [zbQ];try omega);rw [zab];omega) (zbi _) ?_)
    have hK19:=(((hR3.ext hEw19).chg hCw20).ext hEw21)
    intro w22 hBw22 hCw22
    have hzw22:=hCw22.size
    rw [show (zZ ((TX n (gB l s i 1 0)).flatMap zH) (0+(i/4)*274+2+(i%4)*35) (zL (l.getD i Rec.zero)):List Value)=(TX n (gB l s (i+1) 1 0)).flatMap zH from ((show zZ ((TX n (gB l s i 1 0)).flatMap zH) (0+(i/4)*274+2+(i%4)*35) (zL (l.getD i Rec.zero))=((TX n (gB l s i 1 0)).set (i/4) (((TX n (gB l s i 1 0)).getD (i/4) Nod.zero).setR (i%4) (l.getD i Rec.zero))).flatMap zH from by have hz:=(zcc zN Nod.zero (((TX n (gB l s i 1 0)).getD (i/4) Nod.zero).setR (i%4) (l.getD i Rec.zero)) (TX n (gB l s i 1 0)) (i/4) (2+(i%4)*35) (zL (l.getD i Rec.zero)) [] (by rw [zbQ];try omega) (nod_setR (by omega)) (by rw [zab];omega));rw [List.append_nil,List.append_nil] at hz;rw [show 0+(i/4)*274+2+(i%4)*35=(i/4)*274+(2+(i%4)*35) from by omega];exact hz)).trans (congrArg (fun z=>List.flatMap zH z) (show ((TX n (gB l s i 1 0)).set (i/4) (((TX n (gB l s i 1 0)).getD (i/4) Nod.zero).setR (i%4) (l.getD i Rec.zero)))=(TX n (gB l s (i+1) 1 0)) from ztX hi4))] at hBw22
    have hmw22:Ms zH 274 w9.heap.size (w9.heap.size+1) w22 (pA w9.heap.size 0) (tot n) (tot n) (TX n (gB l s (i+1) 1 0)):=Ms.of_pre (r:= []) (by rw [List.append_nil];exact hBw22) zN (by rw [zbQ];try omega) (by omega) (by simp only [maxLen];omega) (by omega) (by omega)
    have hX7:Chg (fun k=>k=w9.heap.size) w21 w22:=(Chg.then (Chg.refl (fun k=>k=w9.heap.size) w21) hCw22 (fun k hk hs=>by have h:k=_:=hs;first | exact hs | exact .inl h | exact .inr h |(exfalso;omega)))
    refine ⟨.inr hX7, ?_⟩
    refine zB (zi (zc (zg (za (zJ 114 i 1 (i+1) ?_)))))
    refine zb 1 [(99,(vI (i+1)))] (zq (zn ?_))
    have hK20:=((((hkhR36.ext hEw19).chg hCw20).ext hEw21).chg hCw22)
    have hK21:=((((hkhR38.ext hEw19).chg hCw20).ext hEw21).chg hCw22)
    have hK22:=((((hs1hR3.ext hEw19).chg hCw20).ext hEw21).chg hCw22)
    have hK23:=((((hs2hR3.ext hEw19).chg hCw20).ext hEw21).chg hCw22)
    have hX8:Ext w w22:=(Ext.own ((Ext.own (hEhR3.trans hEw19) hCw20 (by omega)).trans hEw21) hCw22 (by omega))
    refine zG (i+1) ?_ ?_
    ·exact ⟨by omega,by exact hBw22,hK20,hK21,(hK17.chg hCw22),hK22,hK23,hX8⟩
    ·first | omega |(dsimp only;omega)
   ·obtain rfl:n=i:=by omega
    refine wEt (zd (zf (zP (zo (zo (zD (zc (zd ?_))))))))
    refine wsr (zb 1 [(20,(vI 1))] (wEt (zp (zU (X:=Nat) (fun v=> [(20,(vI v))]) [21,22,23,24,25,26,115,116,117,118,119,120,121,122,123,124,125,126,127,128,129,130,131,132,133,134,135,136,137,138,139,140,141,142,143,144,145,146,147,148,149,150,151,152,153,154,155,156,157,158,159,160,161,162,163,164,165,166,167,168,169,170,171,172,173,174,175] (fun v w23=>(1≤v∧v≤hgt n+1)∧Blk w23 w9.heap.size ((TX n (gB l s n v 0)).flatMap zH) 74∧Blk w23 w.heap.size ([(vI 0),(.slice none 0 0)]) 44∧Blk w23 w2.heap.size ([(vI n),(.slice a1 (hgt n+1) ca1),(.slice a2 (hgt n+1) ca2)]) 128∧Blk w23 w10.heap.size ([(vI n),(.slice (pA w9.heap.size 0) (tot n) (tot n))]) 44∧Es (nv .i64) w1.heap.size w2.heap.size w23 a1 (hgt n+1) ca1 (za9 n (hgt n+1))∧Es (nv .i64) w1.heap.size w2.heap.size w23 a2 (hgt n+1) ca2 (zbk n (hgt n+1))∧Ext w w23) (fun v=>hgt n+1-v) 1 (by kernel_rfl) ⟨⟨Nat.le_refl _,by omega⟩,by exact hR3,hkhR36,hkhR38,hkhR314,hs1hR3,hs2hR3,hEhR3⟩ ?_))))
    rintro v dw23 w23 ⟨hv,hR4,hkhR46,hkhR48,hkhR414,hs1hR4,hs2hR4,hEhR4⟩
    have hzhR4:=hEhR4.size;have hlhR4:=hR4.lt
    have hmhR4:=Ms.of_row hR4 zN (len:=tot n) (zbQ _ _).symm (by simp only [maxLen];omega)
    have hlkhR46:=hkhR46.lt
    have hlkhR48:=hkhR48.lt
    have hlkhR414:=hkhR414.lt
    have hcm:=zbl n (v-1)
    have hcn:=zbl n v
    have hup:=zcO (n:=n) (l:=v) (by omega)
    have hgc:gt (za9 n (hgt n+1)) (v-1)=cnt n (v-1):=zfy (by omega)
    refine zd (wsr (zb 2 [(116,(vP w2.heap.size 1)),(115,(vI v))] (za (zm w2.heap.size 1 (hkhR48.cell rfl) ?_))))
    refine zb 1 [(118,(vI (hgt n+1)))] (za (zag 119 v (hgt n+1) (fun hc119=> ?_) (fun hc119=> ?_)))
    ·refine wEt (zk (zl (zc (zd (zp (wsr (zb 1 [(122,(vP w2.heap.size 1))] ?_)))))))
     refine za (zm w2.heap.size 1 (hkhR48.cell rfl) ?_)
     refine zb 1 [(124,(vI v))] (za (zb5 125 v 1 (v-1) ?_))
     obtain ⟨b4,o4,rfl⟩:=hs1hR4.addr (by omega)
     refine za (zan b4 o4 (hgt n+1) ca1 (v-1) 1 ?_)
     refine za (zm b4 (o4+(v-1)*1) (hs1hR4.celln (by omega)) ?_)
     refine zb 1 [(128,(vI 0))] (wEt (zp (zU (X:=Nat) (fun c=> [(128,(vI c))]) [21,22,23,24,25,26,129,130,131,132,133,134,135,136,137,138,139,140,141,142,143,144,145,146,147,148,149,150,151,152,153,154,155,156,157,158,159,160,161,162,163,164,165,166,167,168,169,170,171,172,173,174,175] (fun c w24=>c≤cnt n (v-1)∧Blk w24 w9.heap.size ((TX n (gB l s n v c)).flatMap zH) 74∧Blk w24 w.heap.size ([(vI 0),(.slice none 0 0)]) 44∧Blk w24 w2.heap.size ([(vI n),(.slice (pA b4 o4) (hgt n+1) ca1),(.slice a2 (hgt n+1) ca2)]) 128∧Blk w24 w10.heap.size ([(vI n),(.slice (pA w9.heap.size 0) (tot n) (tot n))]) 44∧Es (nv .i64) w1.heap.size w2.heap.size w24 (pA b4 o4) (hgt n+1) ca1 (za9 n (hgt n+1))∧Es (nv .i64) w1.heap.size w2.heap.size w24 a2 (hgt n+1) ca2 (zbk n (hgt n+1))∧Ext w w24) (fun c=>cnt n (v-1)-c) 0 (by kernel_rfl) ⟨Nat.zero_le _,by exact hR4,hkhR46,hkhR48,hkhR414,hs1hR4,hs2hR4,hEhR4⟩ ?_)))
     rintro c dw24 w24 ⟨hc,hR5,hkhR56,hkhR58,hkhR514,hs1hR5,hs2hR5,hEhR5⟩
     have hzhR5:=hEhR5.size;have hlhR5:=hR5.lt
     have hmhR5:=Ms.of_row hR5 zN (len:=tot n) (zbQ _ _).symm (by simp only [maxLen];omega)
     have hlkhR56:=hkhR56.lt
     have hlkhR58:=hkhR58.lt
     have hlkhR514:=hkhR514.lt
     refine wsr (za (zag 129 c (gt (za9 n (hgt n+1)) (v-1)) (fun hc129=> ?_) (fun hc129=> ?_)))
     ·have hcc:c<cnt n (v-1):=by omega
      have hplc:=zaL (n:=n) (l:=v-1) (j:=c) (by omega) hcc
      have hnd:((TX n (gB l s n v c)).getD (num n (v-1)+c) Nod.zero)=zaw l s (v-1) c:=zsO hnl (by omega) (by omega) hcc
      have hus:=zsE (l:=v-1) hp0 hnl (by omega) hcc
      rw [←hnd] at hus
      have hchk:zaz ((TX n (gB l s n v c)).getD (num n (v-1)+c) Nod.zero)=0:=by rw [hnd];exact zk6 hp0 (by rw [←hnl];omega) (by rw [←hnl];exact hcc)
      have hc4:c/4<cnt n v:=zjE.2 (by rw [hup];omega)
      have hpl4:=zaL (n:=n) (l:=v) (j:=c/4) (by omega) hc4
      have hsl:gt s (num n (v-1)+c)≤1:=hp0.sl _
      refine wEt (zd (zk (zl (zc (zd (zp (wsr ?_)))))))
      refine zb 2 [(21,(vI c)),(130,(vI c))] (zz (za (zV w2.heap.size 0 (hkhR58.all) ?_)))
      refine zb 1 [(132,(vI v))] (za (zb5 133 v 1 (v-1) ?_))
      refine zb 1 [(134,(vI c))] (za (zt (ze8 n (v-1) c _ hs1hR5 hs2hR5 (by first | rfl | assumption) (by first | rfl | assumption) (by omega) (by omega) (by omega) (by omega)) ?_))
      rintro _ w25 ⟨rfl,hEw25⟩
      have hzw25:=hEw25.size
      refine zb 1 [(22,(vI (num n (v-1)+c)))] (zz (zb 1 [(136,(vP w10.heap.size 1))] (za (zm w10.heap.size 1 ((hkhR514.ext hEw25).cell rfl) ?_))))
      refine zb 1 [(138,(vI (num n (v-1)+c)))] (za (zan w9.heap.size 0 (tot n) (tot n) (num n (v-1)+c) 274 ?_))
      refine za (zQ w9.heap.size (0+(num n (v-1)+c)*274) ((hmhR5.ext hEw25).at Nod.zero (by omega)) (zN _) ?_)
      refine za (zt (zlf ((TX n (gB l s n v c)).getD (num n (v-1)+c) Nod.zero) _) ?_)
      rintro _ w26 ⟨rfl,hEw26⟩
      have hzw26:=hEw26.size
      refine za (zcn 142 (usd ((TX n (gB l s n v c)).getD (num n (v-1)+c) Nod.zero) 4) 0 (fun hc142=> ?_) (fun hc142=> ?_))
      ·have hem:=hus.1 hc142
       refine wEt (zk (wsr (zb 1 [(144,(vP w10.heap.size 1))] (za (zm w10.heap.size 1 (((hkhR514.ext hEw25).ext hEw26).cell rfl) ?_)))))
       refine zb 1 [(146,(vI (num n (v-1)+c)))] (za (zan w9.heap.size 0 (tot n) (tot n) (num n (v-1)+c) 274 ?_))
       refine za (zQ w9.heap.size (0+(num n (v-1)+c)*274) (((hmhR5.ext hEw25).ext hEw26).at Nod.zero (by omega)) (zN _) ?_)
       have hK24:=(((hg0.ext hEhR5).ext hEw25).ext hEw26)
       have hK25:=(((hg1.ext hEhR5).ext hEw25).ext hEw26)
       have hK26:=(((hg2.ext hEhR5).ext hEw25).ext hEw26)
       refine za (zt (ze7 ((TX n (gB l s n v c)).getD (num n (v-1)+c) Nod.zero) _ (by assumption) hK24 hK25 hK26) ?_)
       rintro _ w27 ⟨rfl,hEw27⟩
       have hzw27:=hEw27.size
       refine zb 3 [(151,(vI 0)),(150,(vA (zK (zX (zR ((TX n (gB l s n v c)).getD (num n (v-1)+c) Nod.zero)))))),(143,(.tuple #[(vA (zK (zX (zR ((TX n (gB l s n v c)).getD (num n (v-1)+c) Nod.zero))))),(vI 0)]))] (zal (zK (zX (zR ((TX n (gB l s n v c)).getD (num n (v-1)+c) Nod.zero)))) 59 (zar _) (zbK _) ?_)
       intro w28 hBw28 hEw28 hzw28 hlw28
       refine zb 1 [(24,(vI 0))] (zz (zb 2 [(154,(vI (num n (v-1)+c))),(153,(.slice a_s n_s c_s))] ?_))
       obtain ⟨b5,o5,rfl⟩:=h_s.addr (by omega)
       refine za (zan b5 o5 n_s c_s (num n (v-1)+c) 1 ?_)
       have hX9:=((hEhR5.trans hEw25).trans hEw26).trans hEw27
       refine za (zm b5 (o5+(num n (v-1)+c)*1) (((h_s.ext hX9).ext hEw28).celln (by omega)) ?_)
       refine za (zt (zhC (gt s (num n (v-1)+c)) _ (by omega)) ?_)
       rintro _ w29 ⟨rfl,hEw29⟩
       have hzw29:=hEw29.size
       refine zb 5 [(26,(vI 0)),(25,(vB ((gt s (num n (v-1)+c))+1))),(159,(vI 0)),(158,(vB ((gt s (num n (v-1)+c))+1))),(152,(.tuple #[(vB ((gt s (num n (v-1)+c))+1)),(vI 0)]))] (wEt (zbO (fun k=>k=w9.heap.size) 16 (fun w30 hEw30 hzw30 hT538=> ?_)))
       have hX10:Chg (fun k=>k=w9.heap.size) w30 w30:=(Chg.refl (fun k=>k=w9.heap.size) w30)
       refine ze (hw:=hX10) hT538 [(0,160,(vP w10.heap.size 1))] 1 ?_
       have hK27:=((((((hkhR514.ext hEw25).ext hEw26).ext hEw27).ext hEw28).ext hEw29).ext hEw30)
       refine zx (hw:=hX10) hT538 1 w10.heap.size 1 (fun w' hC=>((hK27.chg hC (fun hs=>by have h:_=_:=hs;omega)).cell rfl)) ?_
       have hK28:=((((((hkhR58.ext hEw25).ext hEw26).ext hEw27).ext hEw28).ext hEw29).ext hEw30)
       refine zbj (hw:=hX10) hT538 2 w2.heap.size 0 (fun w' hC=>((hK28.chg hC (fun hs=>by have h:_=_:=hs;omega)).all)) (ze (hw:=hX10) hT538 [(3,163,(vI v)),(4,164,(vI c))] 2 (zr (hw:=hX10) hT538 5 (vI (c/4)) (zac .i64 (IntKind.i64.wrap (((c:Nat):Int).tdiv ((4:Nat):Int))) (zao (zez _ _))) (ze (hw:=hX10) hT538 [(7,167,(vI c))] 1 (zr (hw:=hX10) hT538 8 (vI (c%4)) (zac .i64 (((c:Nat):Int).tmod ((4:Nat):Int)) (zcX _ _)) (ze (hw:=hX10) hT538 [(9,169,(vB ((gt s (num n (v-1)+c))+1)))] 1 (zaq (hw:=hX10) hT538 10 w27.heap.size 0 (fun w' hC=>((((hBw28.ext hEw29).ext hEw30).chg hC (fun hs=>by have h:_=_:=hs;omega)).all)) (zar _) (zr (hw:=hX10) hT538 11 (vA (zW (⟨(gt s (num n (v-1)+c))+1,(zX (zR ((TX n (gB l s n v c)).getD (num n (v-1)+c) Nod.zero))),by omega⟩))) (zai (Instr.build 71 #[(0,(vB ((gt s (num n (v-1)+c))+1))),(1,(vA (zK (zX (zR ((TX n (gB l s n v c)).getD (num n (v-1)+c) Nod.zero))))))]) (fun w' hC=>zcf ((gt s (num n (v-1)+c))+1) (zX (zR ((TX n (gB l s n v c)).getD (num n (v-1)+c) Nod.zero))) (by omega))) ?_)))))))
       have hK29:=((((((hs1hR5.ext hEw25).ext hEw26).ext hEw27).ext hEw28).ext hEw29).ext hEw30)
       have hK30:=((((((hs2hR5.ext hEw25).ext hEw26).ext hEw27).ext hEw28).ext hEw29).ext hEw30)
       refine zy 6 (zt (ze8 n v (c/4) _ hK29 hK30 (by first | rfl | assumption) (by first | rfl | assumption) (by omega) (by omega) (by omega) (by omega)) ?_)
       rintro _ w31 ⟨rfl,hEw31⟩
       have hzw31:=hEw31.size
       have hX11:Chg (fun k=>k=w9.heap.size) w30 w31:=((Chg.refl (fun k=>k=w9.heap.size) w30).trans hEw31.chg)
       refine ⟨.inr hX11, ?_⟩
       refine zaD (hw:=hX11) hT538 12 w9.heap.size 0 (tot n) (tot n) (num n v+(c/4)) 274 (ze (hw:=hX11) hT538 [(13,173,(vP w9.heap.size (0+(num n v+(c/4))*274+142)))] 1 (zaP (hw:=hX11) hT538 14 w9.heap.size (0+(num n v+(c/4))*274+142) (c%4) 4 33 ?_))
       have hX12:=((hEw28.trans hEw29).trans hEw30).trans hEw31
       have hK31:=((((hR5.ext hEw25).ext hEw26).ext hEw27).ext hX12)
       refine zy 15 (zC 71 w9.heap.size (0+(num n v+(c/4))*274+142+(c%4)*33) 74 (vA (zW (⟨(gt s (num n (v-1)+c))+1,(zX (zR ((TX n (gB l s n v c)).getD (num n (v-1)+c) Nod.zero))),by omega⟩))) ((TX n (gB l s n v c)).flatMap zH) (zW (⟨(gt s (num n (v-1)+c))+1,(zX (zR ((TX n (gB l s n v c)).getD (num n (v-1)+c) Nod.zero))),by omega⟩)) hK31 (by rw [zat];kernel_rfl) (by (try simp only [List.length_append]);rw [zaC zN];have:=(show List.length (TX n (gB l s n v c))=tot n from zbQ _ _);have hq:num n v+(c/4)<List.length (TX n (gB l s n v c)):=(by rw [zbQ];try omega);rw [zat];omega) (zch _) ?_)
       have hK32:=((((hR5.ext hEw25).ext hEw26).ext hEw27).ext hX12)
       intro w32 hBw32 hCw32
       have hzw32:=hCw32.size
       rw [show (zZ ((TX n (gB l s n v c)).flatMap zH) (0+(num n v+(c/4))*274+142+(c%4)*33) (zW (⟨(gt s (num n (v-1)+c))+1,(zX (zR ((TX n (gB l s n v c)).getD (num n (v-1)+c) Nod.zero))),by omega⟩)):List Value)=(TX n (gB l s n v (c+1))).flatMap zH from ((show zZ ((TX n (gB l s n v c)).flatMap zH) (0+(num n v+(c/4))*274+142+(c%4)*33) (zW (⟨(gt s (num n (v-1)+c))+1,(zX (zR ((TX n (gB l s n v c)).getD (num n (v-1)+c) Nod.zero))),by omega⟩))=((TX n (gB l s n v c)).set (num n v+(c/4)) (((TX n (gB l s n v c)).getD (num n v+(c/4)) Nod.zero).setE (c%4) (⟨(gt s (num n (v-1)+c))+1,(zX (zR ((TX n (gB l s n v c)).getD (num n (v-1)+c) Nod.zero))),by omega⟩))).flatMap zH from by have hz:=(zcc zN Nod.zero (((TX n (gB l s n v c)).getD (num n v+(c/4)) Nod.zero).setE (c%4) (⟨(gt s (num n (v-1)+c))+1,(zX (zR ((TX n (gB l s n v c)).getD (num n (v-1)+c) Nod.zero))),by omega⟩)) (TX n (gB l s n v c)) (num n v+(c/4)) (142+(c%4)*33) (zW (⟨(gt s (num n (v-1)+c))+1,(zX (zR ((TX n (gB l s n v c)).getD (num n (v-1)+c) Nod.zero))),by omega⟩)) [] (by rw [zbQ];try omega) (nod_setE (by omega)) (by rw [zat];omega));rw [List.append_nil,List.append_nil] at hz;rw [show 0+(num n v+(c/4))*274+142+(c%4)*33=(num n v+(c/4))*274+(142+(c%4)*33) from by omega];exact hz)).trans (congrArg (fun z=>List.flatMap zH z) (show ((TX n (gB l s n v c)).set (num n v+(c/4)) (((TX n (gB l s n v c)).getD (num n v+(c/4)) Nod.zero).setE (c%4) (⟨(gt s (num n (v-1)+c))+1,(zX (zR ((TX n (gB l s n v c)).getD (num n (v-1)+c) Nod.zero))),by omega⟩)))=(TX n (gB l s n v (c+1))) from zso (by omega) (by omega) hc4 (zsR hnl hem rfl (by rw [hnd]))))] at hBw32
       have hmw32:Ms zH 274 w9.heap.size (w9.heap.size+1) w32 (pA w9.heap.size 0) (tot n) (tot n) (TX n (gB l s n v (c+1))):=Ms.of_pre (r:= []) (by rw [List.append_nil];exact hBw32) zN (by rw [zbQ];try omega) (by omega) (by simp only [maxLen];omega) (by omega) (by omega)
       have hX13:Chg (fun k=>k=w9.heap.size) w30 w32:=(Chg.then ((Chg.refl (fun k=>k=w9.heap.size) w30).trans hEw31.chg) hCw32 (fun k hk hs=>by have h:k=_:=hs;first | exact hs | exact .inl h | exact .inr h |(exfalso;omega)))
       refine ⟨.inr hX13, ?_⟩
       refine zB (zi (zc (zg (za (zJ 175 c 1 (c+1) ?_)))))
       refine zb 1 [(128,(vI (c+1)))] (zq (zn ?_))
       have hK33:=(((((hkhR56.ext hEw25).ext hEw26).ext hEw27).ext hX12).chg hCw32)
       refine zG (c+1) ?_ ?_
       ·exact ⟨by omega,by exact hBw32,hK33,((hK28.ext hEw31).chg hCw32),((hK27.ext hEw31).chg hCw32),((hK29.ext hEw31).chg hCw32),((hK30.ext hEw31).chg hCw32),(Ext.own (hX9.trans hX12) hCw32 (by omega))⟩
       ·first | omega |(dsimp only;omega)
      ·have hem:=hus.2 (by omega)
       refine wEt (zf (zl (zi (zc (zg (za (zJ 175 c 1 (c+1) ?_)))))))
       refine zb 1 [(128,(vI (c+1)))] (zq (zn (zG (c+1) ?_ ?_)))
       ·exact ⟨by omega,by rw [←ztx (zhk hem)];exact ((hR5.ext hEw25).ext hEw26),((hkhR56.ext hEw25).ext hEw26),((hkhR58.ext hEw25).ext hEw26),((hkhR514.ext hEw25).ext hEw26),((hs1hR5.ext hEw25).ext hEw26),((hs2hR5.ext hEw25).ext hEw26),((hEhR5.trans hEw25).trans hEw26)⟩
       ·first | omega |(dsimp only;omega)
     ·obtain rfl:c=cnt n (v-1):=by omega
      refine wEt (zd (zf (zP (zo (zo (zD (zi (zc ?_))))))))
      refine zg (zb 1 [(120,(vI v))] (za (zJ 121 v 1 (v+1) ?_)))
      refine zb 1 [(20,(vI (v+1)))] (zq (zn (zG (v+1) ?_ ?_)))
      ·exact ⟨by omega,by rw [←zpw hnl (by omega)];exact hR5,hkhR56,hkhR58,hkhR514,hs1hR5,hs2hR5,hEhR5⟩
      ·first | omega |(dsimp only;omega)
    ·obtain rfl:v=hgt n+1:=by omega
     refine wEt (zf (zP (zo (zo (zD (zc (wsr ?_)))))))
     refine za (zV w10.heap.size 0 (hkhR414.all) ?_)
     refine za (zC 44 w.heap.size 0 44 (vA [(vI n),(.slice (pA w9.heap.size 0) (tot n) (tot n))]) ([(vI 0),(.slice none 0 0)]) ([(vI n),(.slice (pA w9.heap.size 0) (tot n) (tot n))]) hkhR46 (by kernel_rfl) (by first | decide |(simp;done)|(simp;omega)) (by simp [Value.oneCell']) ?_)
     intro w33 hBw33 hCw33
     have hzw33:=hCw33.size
     rw [zv _ _ (by kernel_rfl)] at hBw33
     exact zb 1 [(7,(vI 0))] (zF (zaQ (show zO Tryz.prog 177 _ _ (.cell 6 44) (vA [(vI n),(.slice (pA w9.heap.size 0) (tot n) (tot n))]) from ⟨⟨w.heap.size,0,none⟩,(by kernel_rfl),zE (T:=44) (vs:= [(vI n),(.slice (pA w9.heap.size 0) (tot n) (tot n))]) (hBw33).all (by kernel_rfl)⟩) (show zO Tryz.prog 177 _ _ (.tmp 7) (vI 0) by (show _=_;kernel_rfl)) (⟨_,rfl,OwM.of_full (by rw [←zqX hnl];exact (hR4.chg hCw33)) zN (by rw [zib,←hnl]) (by simp only [maxLen];omega) (by omega) (by omega),(Ext.own hEhR4 hCw33 (by omega))⟩)))
end Go.Proofs.YtkmhgepdhilllaaGreatDoor
namespace Go.Proofs.YtkmhgepdhilllaaGreatDoor
open Go Go.RowKit Go.Cs
set_option maxRecDepth 100000
theorem zlh (n:Nat) (w:World) (hp0:1≤n) (hp1:n≤4096):
  Calls Tryz.prog 76 #[(vI n)] w (Ret fun r w'=>∃a0 ca0 a1 ca1,r=(.tuple #[(vA [(.slice a0 (hgt n+1) ca0),(.slice a1 (hgt n+1) ca1)]),(vI 0)])∧Es (nv .i64) w.heap.size w'.heap.size w' a0 (hgt n+1) ca0 (za9 n (hgt n+1))∧Es (nv .i64) w.heap.size w'.heap.size w' a1 (hgt n+1) ca1 (zbk n (hgt n+1))∧Ext w w'):=by
 refine zw (n:=46) (σ:= [(0,(vI n))]) Tryz.func76 rfl ?_
 have h5:=zam n
 refine wsr (za (zad ([(.slice none 0 0),(.slice none 0 0)]) 114 ?_))
 intro w1 hBw1 hEw1 hzw1 hlw1
 refine zb 1 [(3,(vI 0))] (zz (zb 1 [(10,(vI n))] (za (zt (zlA n _ (by omega) (by omega)) ?_))))
 rintro _ w2 ⟨rfl,hEw2⟩
 have hzw2:=hEw2.size
 refine zb 5 [(3,(vI 0)),(4,(vI (hgt n))),(13,(vI 0)),(12,(vI (hgt n))),(9,(.tuple #[(vI (hgt n)),(vI 0)]))] (zM (zb 2 [(15,vF),(14,(vI 0))] (wEt (zf ?_))))
 refine zl (zc (wsr (zb 1 [(5,(vI 0))] (zM ?_))))
 refine zb 1 [(18,(vI (hgt n)))] (za (zJ 19 (hgt n) 1 (hgt n+1) ?_))
 refine zb 1 [(20,(vI 0))] (wEt (zp (zU (X:=Nat×Nat×Nat×Option Addr×Option Addr×Nat×Nat) (fun ⟨v,g1,g2,ao,aq,cp,cq⟩=> [(5,(vI (num n v))),(20,(vI v))]) [6,7,8,21,22,23,24,25,26,27,28,29,30,31,32,33,34,35,36,37,38,39,40,41,42,43,44] (fun ⟨v,g1,g2,ao,aq,cp,cq⟩ w3=>v≤hgt n+1∧(Cs.Own (nv .i64) g1 (g1+1) w3 ao v cp 3 (za9 n v))∧(Cs.Own (nv .i64) g2 (g2+1) w3 aq v cq 3 (zbk n v))∧Blk w3 w.heap.size ([(.slice ao v cp),(.slice aq v cq)]) 114∧(g1≠g2∧g1≠w.heap.size∧g2≠w.heap.size∧w.heap.size≤g1∧w.heap.size≤g2∧g1≤w3.heap.size∧g2≤w3.heap.size+1)∧Ext w w3) (fun ⟨v,g1,g2,ao,aq,cp,cq⟩=>hgt n+1-v) (0,w2.heap.size,w2.heap.size+1,none,none,0,0) (by kernel_rfl) ⟨by omega,Cs.Own.nil _ _ _ _ _,Cs.Own.nil _ _ _ _ _,(hBw1.ext hEw2),by omega,(hEw1.trans hEw2)⟩ ?_)))
 rintro ⟨v,g1,g2,ao,aq,cp,cq⟩ dw3 w3 ⟨hv,hO1,hO2,hB2,hg,hEl⟩
 have hzl:=hEl.size;have hl2:=hB2.lt
 have hns:=zbN (n:=n) (l:=v) hp1 (by omega)
 have hcn:=zbl n v
 have hnx:=zgH n v
 refine wsr (za (zag 21 v (hgt n+1) (fun hc21=> ?_) (fun hc21=> ?_)))
 ·refine wEt (zd (zk (zl (zc (zd (zp (wsr ?_)))))))
  refine zb 2 [(6,(vI v)),(22,(vI v))] (zz (zb 2 [(25,(vI v)),(24,(vI n))] (za (zt (znw n v _ (by omega) (by omega) (by omega)) ?_))))
  rintro _ w4 ⟨rfl,hEw4⟩
  have hzw4:=hEw4.size
  refine zb 5 [(8,(vI 0)),(7,(vI (cnt n v))),(28,(vI 0)),(27,(vI (cnt n v))),(23,(.tuple #[(vI (cnt n v)),(vI 0)]))] (zz (zb 1 [(29,(vP w.heap.size 0))] (za (zm w.heap.size 0 ((hB2.ext hEw4).cell rfl) ?_))))
  refine zb 1 [(31,(vI (cnt n v)))] (za (zS (Instr.buildSlice 29 1 #[(0,(vI (cnt n v)))]) (.slice (pA w4.heap.size 0) 1 1) [(vI (cnt n v))] 3 ?_))
  intro w5 hBw5 hEw5 hzw5 hlw5
  have hSw5:Es (nv .i64) w4.heap.size (w4.heap.size+1) w5 (pA w4.heap.size 0) 1 1 ([cnt n v]):=Es.of_blk hBw5 rfl rfl (Nat.le_refl _) (by decide) (Nat.le_refl _) (Nat.lt_succ_self _)
  have hsm1:=fun (k:Nat) (hk:zeb aq k)=>(((hO2.ext hEw4).ext hEw5)).ltk hk
  refine za (zgd (some 33) 29 29 3 8 (vI 0) ((hO1.ext hEw4).ext hEw5) hSw5 (fun _=>rfl) ?_)
  intro b1 c1 w6 hOw6 hCw6 hqb1
  replace hqb1:=hqb1.imp_left (((hO1.ext hEw4).ext hEw5)).ltk
  have hlb1:b1<w6.heap.size:=(hOw6.row.lt b1 rfl).2
  have hzw6:=hCw6.size
  have hSw6:=hOw6.es
  refine zb 1 [(34,(vP w.heap.size 0))] ?_
  have hK1:=((((hB2.ext hEw4).ext hEw5)).chg hCw6 (fun hs=>by have hn:=((hO1.ext hEw4).ext hEw5).ne hs;omega))
  refine za (zah 29 w.heap.size 0 114 (.slice (pA b1 0) (v+1) c1) ([(.slice ao v cp),(.slice aq v cq)]) hK1 (by first | decide |(simp;done)|(simp;omega)) ?_)
  have hK2:=((((hB2.ext hEw4).ext hEw5)).chg hCw6 (fun hs=>by have hn:=((hO1.ext hEw4).ext hEw5).ne hs;omega))
  intro w7 hBw7 hCw7
  have hzw7:=hCw7.size
  rw [show (([(.slice ao v cp),(.slice aq v cq)]).set 0 (.slice (pA b1 0) (v+1) c1):List Value)= [(.slice (pA b1 0) (v+1) c1),(.slice aq v cq)] from rfl] at hBw7
  refine zz (zb 1 [(35,(vP w.heap.size 1))] (za (zm w.heap.size 1 (hBw7.cell rfl) ?_)))
  refine zb 1 [(37,(vI (num n v)))] (za (zS (Instr.buildSlice 29 1 #[(0,(vI (num n v)))]) (.slice (pA w7.heap.size 0) 1 1) [(vI (num n v))] 3 ?_))
  intro w8 hBw8 hEw8 hzw8 hlw8
  have hSw8:Es (nv .i64) w7.heap.size (w7.heap.size+1) w8 (pA w7.heap.size 0) 1 1 ([num n v]):=Es.of_blk hBw8 rfl rfl (Nat.le_refl _) (by decide) (Nat.le_refl _) (Nat.lt_succ_self _)
  have hK3:=((((((hO2.ext hEw4).ext hEw5)).chg hCw6 (fun k h1 h2 hs=>by have hn:=((hO1.ext hEw4).ext hEw5).ne hs;omega)).chg hCw7).ext hEw8)
  refine za (zgd (some 39) 29 29 3 8 (vI 0) hK3 hSw8 (fun _=>rfl) ?_)
  intro b2 c2 w9 hOw9 hCw9 hqb2
  replace hqb2:=hqb2.imp_left (hsm1 _)
  have hlb2:b2<w9.heap.size:=(hOw9.row.lt b2 rfl).2
  have hzw9:=hCw9.size
  have hSw9:=hOw9.es
  refine zb 1 [(40,(vP w.heap.size 1))] (za (zah 29 w.heap.size 1 114 (.slice (pA b2 0) (v+1) c2) ([(.slice (pA b1 0) (v+1) c1),(.slice aq v cq)]) (((hBw7.ext hEw8)).chg hCw9 (fun hs=>by have hn:=(hsm1 _) hs;omega)) (by first | decide |(simp;done)|(simp;omega)) ?_))
  intro w10 hBw10 hCw10
  have hzw10:=hCw10.size
  rw [show (([(.slice (pA b1 0) (v+1) c1),(.slice aq v cq)]).set 1 (.slice (pA b2 0) (v+1) c2):List Value)= [(.slice (pA b1 0) (v+1) c1),(.slice (pA b2 0) (v+1) c2)] from rfl] at hBw10
  refine zdx (zb 2 [(42,(vI (cnt n v))),(41,(vI (num n v)))] (za (zJ 43 (num n v) (cnt n v) (num n (v+1)) ?_)))
  refine zb 1 [(5,(vI (num n (v+1))))] (zq (zi (zc (zg (za (zJ 44 v 1 (v+1) ?_))))))
  refine zb 1 [(20,(vI (v+1)))] (zq (zn ?_))
  have hK4:=(((((hOw6.chg hCw7).ext hEw8)).chg hCw9 (fun k h1 h2 hs=>by have hn:=(hsm1 _) hs;omega)).chg hCw10)
  have hK5:=((((((hO2.ext hEw4).ext hEw5)).chg hCw6 (fun k h1 h2 hs=>by have hn:=((hO1.ext hEw4).ext hEw5).ne hs;omega)).chg hCw7).ext hEw8)
  have hX1:Ext w w10:=(Ext.own (Ext.ownS ((Ext.own (Ext.ownS ((hEl.trans hEw4).trans hEw5) hCw6 (fun k hs hk=>by have hn:=((hO1.ext hEw4).ext hEw5).ne hs;omega)) hCw7 (by omega)).trans hEw8) hCw9 (fun k hs hk=>by have hn:=hK5.ne hs;omega)) hCw10 (by omega))
  refine zG (v+1,b1,b2,(pA b1 0),(pA b2 0),c1,c2) ?_ ?_
  ·exact ⟨by omega,by rw [zkA];exact hK4,by rw [zkw];exact (hOw9.chg hCw10),hBw10,by omega,hX1⟩
  ·first | omega |(dsimp only;omega)
 ·refine wEt (zd (zf (zP (zo (zo (zD (zc (zd ?_))))))))
  refine zg (za (zV w.heap.size 0 (hB2.all) ?_))
  refine za (zC 114 w.heap.size 0 114 (vA [(.slice ao v cp),(.slice aq v cq)]) ([(.slice ao v cp),(.slice aq v cq)]) ([(.slice ao v cp),(.slice aq v cq)]) hB2 (by kernel_rfl) (by first | decide |(simp;done)|(simp;omega)) (by simp [Value.oneCell']) ?_)
  intro w11 hBw11 hCw11
  have hzw11:=hCw11.size
  rw [zv _ _ (by kernel_rfl)] at hBw11
  refine zb 1 [(3,(vI 0))] (zF (zaQ (show zO Tryz.prog 46 _ _ (.cell 2 114) (vA [(.slice ao v cp),(.slice aq v cq)]) from ⟨⟨w.heap.size,0,none⟩,(by kernel_rfl),zE (T:=114) (vs:= [(.slice ao v cp),(.slice aq v cq)]) (hBw11).all (by kernel_rfl)⟩) (show zO Tryz.prog 46 _ _ (.tmp 3) (vI 0) by (show _=_;kernel_rfl)) ?_))
  obtain rfl:v=hgt n+1:=by omega
  exact ⟨_,_,_,_,rfl,((hO1.chg hCw11)).es.now.mono (by omega) (Nat.le_refl _),((hO2.chg hCw11)).es.now.mono (by omega) (Nat.le_refl _),(Ext.own hEl hCw11 (by omega))⟩
theorem zpo (n:Int) (w:World) (hp0:¬(1≤n∧n≤4096)):
  Calls Tryz.prog 76 #[(.int .i64 n)] w (Ret fun r w'=>r=(.tuple #[(vA [(.slice none 0 0),(.slice none 0 0)]),(vI 1)])∧Ext w w'):=by
 refine zw (n:=46) (σ:= [(0,(.int .i64 n))]) Tryz.func76 rfl ?_
 refine wsr (za (zad ([(.slice none 0 0),(.slice none 0 0)]) 114 ?_))
 intro w1 hBw1 hEw1 hzw1 hlw1
 refine zb 1 [(3,(vI 0))] (zz (zb 1 [(10,(.int .i64 n))] (za (zt (ziH n _ (by omega)) ?_))))
 rintro _ w2 ⟨rfl,hEw2⟩
 have hzw2:=hEw2.size
 refine zb 5 [(3,(vI 1)),(4,(vI 0)),(13,(vI 1)),(12,(vI 0)),(9,(.tuple #[(vI 0),(vI 1)]))] (zM (zb 2 [(15,vT),(14,(vI 1))] (wEt (zk ?_))))
 refine wsr (za (zV w.heap.size 0 ((hBw1.ext hEw2).all) ?_))
 refine zb 1 [(17,(vI 1))] (za (zC 114 w.heap.size 0 114 (vA ([(.slice none 0 0),(.slice none 0 0)])) ([(.slice none 0 0),(.slice none 0 0)]) ([(.slice none 0 0),(.slice none 0 0)]) (hBw1.ext hEw2) (by kernel_rfl) (by first | decide |(simp;done)|(simp;omega)) (by simp [Value.oneCell']) ?_))
 intro w3 hBw3 hCw3
 have hzw3:=hCw3.size
 rw [zv _ _ (by kernel_rfl)] at hBw3
 exact zb 1 [(3,(vI 1))] (zF (zj (zaQ (show zO Tryz.prog 46 _ _ (.cell 2 114) (vA ([(.slice none 0 0),(.slice none 0 0)])) from ⟨⟨w.heap.size,0,none⟩,(by kernel_rfl),zE (T:=114) (vs:= [(.slice none 0 0),(.slice none 0 0)]) (hBw3).all (by kernel_rfl)⟩) (show zO Tryz.prog 46 _ _ (.tmp 3) (vI 1) by (show _=_;kernel_rfl)) (⟨rfl,(Ext.own (hEw1.trans hEw2) hCw3 (by omega))⟩))))
theorem zjj {lo_c hi_c:Nat} {a_c:Option Addr} {n_c c_c:Nat} {c:List Nat} {lo_f hi_f:Nat} {a_f:Option Addr} {n_f c_f:Nat} {f:List Nat} (n:Nat) (w:World) (h_c:Es (nv .i64) lo_c hi_c w a_c n_c c_c c) (h_f:Es (nv .i64) lo_f hi_f w a_f n_f c_f f) (hp0:c=za9 n (hgt n+1)) (hp1:f=zbk n (hgt n+1)) (hp2:1≤n) (hp3:n≤4096):
  Calls Tryz.prog 77 #[(vA [(.slice a_c n_c c_c),(.slice a_f n_f c_f)])] w (Ret fun r w'=>r=(vI (tot n))∧Ext w w'):=by
 refine zw (n:=12) (σ:= [(0,(vA [(.slice a_c n_c c_c),(.slice a_f n_f c_f)]))]) Tryz.func77 rfl ?_
 replace h_c:=h_c.now;have hle_c:=h_c.le
 replace h_f:=h_f.now;have hle_f:=h_f.le
 have hlc:=h_c.len_eq;rw [hp0,zck] at hlc
 have hlf:=h_f.len_eq;rw [hp1,zcC] at hlf
 have h5:=zam n
 have hts:=zau hp3
 have htt:=zcq hp2 hp3
 have hgf:gt f (n_f-1)=num n (hgt n):=by rw [show n_f-1=hgt n from by omega,hp1];exact zcM (by omega)
 refine wsr (za (zS (Instr.box 114 (vA [(.slice a_c n_c c_c),(.slice a_f n_f c_f)])) (vP w.heap.size 0) ([(.slice a_c n_c c_c),(.slice a_f n_f c_f)]) 114 ?_))
 intro w1 hBw1 hEw1 hzw1 hlw1
 refine zb 1 [(2,(vI 0))] (zz (zb 1 [(3,(vP w.heap.size 1))] (za (zm w.heap.size 1 (hBw1.cell rfl) ?_))))
 refine zb 1 [(5,(vP w.heap.size 1))] (za (zm w.heap.size 1 (hBw1.cell rfl) ?_))
 refine zb 1 [(7,(vI n_f))] (za (zb5 8 n_f 1 (n_f-1) ?_))
 obtain ⟨b1,o1,rfl⟩:=h_f.addr (by omega)
 refine za (zan b1 o1 n_f c_f (n_f-1) 1 ?_)
 refine za (zm b1 (o1+(n_f-1)*1) ((h_f.ext hEw1).celln (by omega)) ?_)
 refine za (zJ 11 (gt f (n_f-1)) 1 (tot n) ?_)
 exact zb 1 [(2,(vI (tot n)))] (zF (zh (vI (tot n)) (⟨rfl,hEw1⟩)))
theorem zis (x:Un) (w:World) (hp0:x.sl=0∨x.sl=1):
  Calls Tryz.prog 49 #[(vA (unC x))] w (Ret fun r w'=>r=(.int .i64 (slU x))∧Ext w w'):=by
 refine zw (n:=10) (σ:= [(0,(vA (unC x)))]) Tryz.func49 rfl ?_
 refine wsr (za (zS (Instr.box 77 (vA (unC x))) (vP w.heap.size 0) (unC x) 77 ?_))
 intro w1 hBw1 hEw1 hzw1 hlw1
 refine zb 1 [(2,(vI 0))] (zM (zb 1 [(3,(vP w.heap.size 275))] ?_))
 rcases Bool.eq_false_or_eq_true (x.dt) with hb4 | hb4
 ·refine za (zm w.heap.size 275 (Eq.trans (hBw1.cell (zdc _)) (congrArg (fun z=>some (Value.bool z)) hb4)) ?_)
  refine wEt (zk (wsr (zb 1 [(5,(vP w.heap.size 274))] (za (zm w.heap.size 274 (hBw1.cell (zdu _)) ?_)))))
  refine za (zeR (some 7) .i64 (IntKind.i64.wrap (((1:Nat):Int)-x.sl)) (((1:Nat):Int)-x.sl) (zao rfl) ?_)
  exact zb 1 [(2,(.int .i64 (((1:Nat):Int)-x.sl)))] (zF (zj (zh (.int .i64 (((1:Nat):Int)-x.sl)) (⟨by unfold slU;rw [if_pos hb4];first | rfl | done,hEw1⟩))))
 ·refine za (zm w.heap.size 275 (Eq.trans (hBw1.cell (zdc _)) (congrArg (fun z=>some (Value.bool z)) hb4)) ?_)
  refine wEt (zf (zl (zc (wsr (zb 1 [(8,(vP w.heap.size 274))] (za (zm w.heap.size 274 (hBw1.cell (zdu _)) ?_)))))))
  exact zb 1 [(2,(.int .i64 x.sl))] (zF (zh (.int .i64 x.sl) (⟨by unfold slU;rw [if_neg (by rw [hb4];decide)];first | rfl | done,hEw1⟩)))
theorem zsN (s:Nat) (w:World) (hp0:1≤s∧s≤2):
  Calls Tryz.prog 74 #[(vB s)] w (Ret fun r w'=>r=(.tuple #[(vI (s-1)),(vI 0)])∧Ext w w'):=by
 refine zw (n:=13) (σ:= [(0,(vB s))]) Tryz.func74 rfl ?_
 refine wsr (zb 2 [(3,(vI 0)),(2,(vI 0))] (zM (zb 1 [(4,(vB s))] (zq ?_))))
 refine zc (zp (wsr (za (zdv 6 s 0 ?_))))
 refine zb 1 [(5,vF)] (wEt (zf (zd (wsr (za (zaI 8 s 1 (fun hc8=> ?_) (fun hc8=> ?_)))))))
 ·refine zb 1 [(7,vT)] (wEt (zk (zl (zc (zk (wsr (zb 1 [(10,(vB s))] ?_)))))))
  refine za (zdq 11 s ?_)
  refine za (zb5 12 s 1 (s-1) ?_)
  exact zb 2 [(3,(vI 0)),(2,(vI (s-1)))] (zF (zu (zj (zh (.tuple #[(vI (s-1)),(vI 0)]) (⟨rfl,(Ext.refl _)⟩)))))
 ·refine zb 1 [(7,vF)] (wEt (zf (zg (za (zdI 9 s 2 ?_)))))
  refine zb 1 [(7,vT)] (wEt (zk (wsr (zb 1 [(10,(vB s))] (za (zdq 11 s ?_))))))
  refine za (zb5 12 s 1 (s-1) ?_)
  exact zb 2 [(3,(vI 0)),(2,(vI (s-1)))] (zF (zu (zj (zh (.tuple #[(vI (s-1)),(vI 0)]) (⟨rfl,(Ext.refl _)⟩)))))
theorem zru (s:Nat) (w:World) (hp0:s=0∨2<s):
  Calls Tryz.prog 74 #[(vB s)] w (Ret fun r w'=>∃(a1:Nat),r=(.tuple #[(vI 0),(vI a1)])∧a1≠0∧Ext w w'):=by
 refine zw (n:=13) (σ:= [(0,(vB s))]) Tryz.func74 rfl ?_
 refine wsr (zb 2 [(3,(vI 0)),(2,(vI 0))] (zM (zb 1 [(4,(vB s))] (zq ?_))))
 refine zc (zp (wsr (za (zaI 6 s 0 (fun hc6=> ?_) (fun hc6=> ?_)))))
 ·refine zb 1 [(5,vT)] (wEt (zk (wsr (zb 2 [(3,(vI 11)),(2,(vI 0))] (zF ?_)))))
  exact zu (zj (zh (.tuple #[(vI 0),(vI 11)]) (⟨_,rfl,by decide,(Ext.refl _)⟩)))
 ·refine zb 1 [(5,vF)] (wEt (zf (zd (wsr (za (zdv 8 s 1 ?_))))))
  refine zb 1 [(7,vF)] (wEt (zf (zg (za (zdv 9 s 2 ?_)))))
  refine zb 1 [(7,vF)] (wEt (zf (zl (zi (zc (wsr (zb 2 [(3,(vI 1)),(2,(vI 0))] ?_)))))))
  exact zF (zh (.tuple #[(vI 0),(vI 1)]) (⟨_,rfl,by decide,(Ext.refl _)⟩))
theorem zqL (x:Un) (k:Nat) (w:World) (hp0:k<4):
  Calls Tryz.prog 51 #[(vA (unC x)),(vI k)] w (Ret fun r w'=>r=(vI (zbx x k))∧Ext w w'):=by
 refine zw (n:=28) (σ:= [(0,(vA (unC x))),(1,(vI k))]) Tryz.func51 rfl ?_
 refine wsr (za (zS (Instr.box 77 (vA (unC x))) (vP w.heap.size 0) (unC x) 77 ?_))
 intro w1 hBw1 hEw1 hzw1 hlw1
 refine zb 1 [(4,(vI 0))] (zz (zb 3 [(10,(vP w.heap.size 2)),(9,(vP w.heap.size 0)),(8,(vI k))] (za (zaW w.heap.size 2 k 4 35 ?_))))
 refine zb 1 [(12,(vP w.heap.size (2+k*35)))] (za (zm w.heap.size (2+k*35) (hBw1.cell (zhJ (by omega))) ?_))
 rcases Classical.em ((x.nd.rs.get k).st=0∨2<(x.nd.rs.get k).st) with hst | hst
 ·refine za (zt (zru ((x.nd.rs.get k).st) _ (by omega)) ?_)
  rintro _ w2 ⟨a1,rfl,hFz1_0,hEw2⟩
  have hzw2:=hEw2.size
  refine zb 5 [(6,(vI a1)),(5,(vI 0)),(16,(vI a1)),(15,(vI 0)),(7,(.tuple #[(vI 0),(vI a1)]))] (wEt (zd (zp (wsr (zb 1 [(18,(vI a1))] (za (zda 19 a1 0 ?_)))))))
  refine zb 1 [(17,vT)] (wEt (zk (wsr (zb 1 [(4,(vI 0))] (zF ?_)))))
  exact zu (zj (zh (vI 0) (⟨by unfold zbx;rw [if_pos hst],(hEw1.trans hEw2)⟩)))
 ·refine za (zt (zsN ((x.nd.rs.get k).st) _ (by omega)) ?_)
  rintro _ w3 ⟨rfl,hEw3⟩
  have hzw3:=hEw3.size
  refine zb 5 [(6,(vI 0)),(5,(vI (((x.nd.rs.get k).st)-1))),(16,(vI 0)),(15,(vI (((x.nd.rs.get k).st)-1))),(7,(.tuple #[(vI (((x.nd.rs.get k).st)-1)),(vI 0)]))] (wEt (zd (zp (wsr (zb 1 [(18,(vI 0))] (za (zbe 19 0 0 ?_)))))))
  refine zb 1 [(17,vF)] (wEt (zf (wsr (zb 2 [(22,(vP w.heap.size 276)),(21,(vI k))] (za (zaW w.heap.size 276 k 4 1 ?_))))))
  rcases Bool.eq_false_or_eq_true (x.g k) with hb24 | hb24
  ·refine za (zm w.heap.size (276+k*1) (Eq.trans ((hBw1.ext hEw3).cell (zin (by omega))) (congrArg (fun z=>some (Value.bool z)) hb24)) ?_)
   refine zb 1 [(20,vT)] (wEt (zk (wsr (zb 2 [(4,(vI (((x.nd.rs.get k).st)-1))),(25,(vI (((x.nd.rs.get k).st)-1)))] (zF ?_)))))
   exact zu (zj (zh (vI (((x.nd.rs.get k).st)-1)) (⟨by unfold zbx;rw [if_neg hst,if_pos hb24],(hEw1.trans hEw3)⟩)))
  ·refine za (zm w.heap.size (276+k*1) (Eq.trans ((hBw1.ext hEw3).cell (zin (by omega))) (congrArg (fun z=>some (Value.bool z)) hb24)) ?_)
   refine zb 1 [(20,vF)] (wEt (zf (zl (zi (zc (wsr (zb 1 [(26,(vI (((x.nd.rs.get k).st)-1)))] ?_)))))))
   refine za (zb5 27 1 (((x.nd.rs.get k).st)-1) (2-(x.nd.rs.get k).st) ?_)
   exact zb 1 [(4,(vI (2-(x.nd.rs.get k).st)))] (zF (zh (vI (2-(x.nd.rs.get k).st)) (⟨by unfold zbx;rw [if_neg hst,if_neg (by rw [hb24];decide)],(hEw1.trans hEw3)⟩)))
theorem zmq (x:Un) (w:World) (hp0:x.sl=0∨x.sl=1) (hp1:zaz x.nd=0) (hg0:Gl 0 [vI 45,vI 33] w) (hg1:Gl 1 (w8C zaV) w) (hg2:Gl 3 (zas kA) w):
  Calls Tryz.prog 54 #[(vA (unC x))] w (Ret fun r w'=>r=(vA (zW (enU x)))∧Ext w w'):=by
 refine zw (n:=27) (σ:= [(0,(vA (unC x)))]) Tryz.func54 rfl ?_
 have hgl0:=hg0.lt
 have hgl1:=hg1.lt
 have hgl2:=hg2.lt
 refine wsr (za (zS (Instr.box 77 (vA (unC x))) (vP w.heap.size 0) (unC x) 77 ?_))
 intro w1 hBw1 hEw1 hzw1 hlw1
 refine za (zad (zW Ent.zero) 71 ?_)
 intro w2 hBw2 hEw2 hzw2 hlw2
 refine zM (zb 1 [(7,(vP w.heap.size 0))] (za (zQ w.heap.size 0 ((hBw1.ext hEw2).at 0 (zH x.nd) (zdE _)) (zN _) ?_)))
 refine za (zt (zlf x.nd _) ?_)
 rintro _ w3 ⟨rfl,hEw3⟩
 have hzw3:=hEw3.size
 refine za (zaI 10 (usd x.nd 4) 0 (fun hc10=> ?_) (fun hc10=> ?_))
 ·refine wEt (zk (wsr (zb 1 [(11,(vA (zW Ent.zero)))] (za (zC 71 w1.heap.size 0 71 (vA (zW Ent.zero)) (zW Ent.zero) (zW Ent.zero) (hBw2.ext hEw3) (by rw [zat];kernel_rfl) (by first |(simp;done)|(simp;omega)) (zch _) ?_)))))
  intro w4 hBw4 hCw4
  have hzw4:=hCw4.size
  rw [zv _ _ (by simp)] at hBw4
  refine zF (zj (zaR (show zO Tryz.prog 27 _ _ (.cell 2 71) (vA (zW Ent.zero)) from ⟨⟨w1.heap.size,0,none⟩,(by kernel_rfl),zE (T:=71) (vs:=zW Ent.zero) (hBw4).all (by rw [zat];kernel_rfl)⟩) ?_))
  have hX1:Ext w w4:=(Ext.own ((hEw1.trans hEw2).trans hEw3) hCw4 (by omega))
  exact ⟨by unfold enU;rw [if_pos hc10],hX1⟩
 ·refine wEt (zf (zl (zc (wsr (zb 1 [(13,(vP w.heap.size 0))] (za (zQ w.heap.size 0 (((hBw1.ext hEw2).ext hEw3).at 0 (zH x.nd) (zdE _)) (zN _) ?_)))))))
  have hK1:=(((hg0.ext hEw1).ext hEw2).ext hEw3)
  have hK2:=(((hg1.ext hEw1).ext hEw2).ext hEw3)
  have hK3:=(((hg2.ext hEw1).ext hEw2).ext hEw3)
  refine za (zt (ze7 x.nd _ (by assumption) hK1 hK2 hK3) ?_)
  rintro _ w5 ⟨rfl,hEw5⟩
  have hzw5:=hEw5.size
  refine zb 3 [(17,(vI 0)),(16,(vA (zK (zX (zR x.nd))))),(12,(.tuple #[(vA (zK (zX (zR x.nd)))),(vI 0)]))] (zal (zK (zX (zR x.nd))) 59 (zar _) (zbK _) ?_)
  intro w6 hBw6 hEw6 hzw6 hlw6
  refine zb 1 [(4,(vI 0))] (zz ?_)
  have hK4:=((((hBw1.ext hEw2).ext hEw3).ext hEw5).ext hEw6)
  refine za (zQ w.heap.size 0 (hK4.all) (zI _) ?_)
  refine za (zt (zis x _ (by assumption)) ?_)
  rintro _ w7 ⟨rfl,hEw7⟩
  have hzw7:=hEw7.size
  rcases zet hp0 with hs | hs
  ·rw [show slU x=((0:Nat):Int) from hs]
   refine za (zt (zhC 0 _ (by first | omega | decide)) ?_)
   rintro _ w8 ⟨rfl,hEw8⟩
   have hzw8:=hEw8.size
   rw [show 0+1=1 from by kernel_rfl]
   refine zb 5 [(6,(vI 0)),(5,(vB 1)),(23,(vI 0)),(22,(vB 1)),(18,(.tuple #[(vB 1),(vI 0)]))] (zz (zb 1 [(24,(vB 1))] (za (zQ w5.heap.size 0 (((hBw6.ext hEw7).ext hEw8).all) (zar _) ?_))))
   refine za (zaN (Instr.build 71 #[(0,(vB 1)),(1,(vA (zK (zX (zR x.nd)))))]) (vA (zW (⟨1,(zX (zR x.nd)),by omega⟩))) (zcf 1 (zX (zR x.nd)) (by omega)) ?_)
   have hK5:=(((((hBw2.ext hEw3).ext hEw5).ext hEw6).ext hEw7).ext hEw8)
   refine za (zC 71 w1.heap.size 0 71 (vA (zW (⟨1,(zX (zR x.nd)),by omega⟩))) (zW Ent.zero) (zW (⟨1,(zX (zR x.nd)),by omega⟩)) hK5 (by rw [zat];kernel_rfl) (by first |(simp;done)|(simp;omega)) (zch _) ?_)
   have hK6:=(((((hBw2.ext hEw3).ext hEw5).ext hEw6).ext hEw7).ext hEw8)
   intro w9 hBw9 hCw9
   have hzw9:=hCw9.size
   rw [zv _ _ (by simp)] at hBw9
   refine zF (zaR (show zO Tryz.prog 27 _ _ (.cell 2 71) (vA (zW (⟨1,(zX (zR x.nd)),by omega⟩))) from ⟨⟨w1.heap.size,0,none⟩,(by kernel_rfl),zE (T:=71) (vs:=zW (⟨1,(zX (zR x.nd)),by omega⟩)) (hBw9).all (by rw [zat];kernel_rfl)⟩) ?_)
   have hX2:Ext w w9:=(Ext.own ((((((hEw1.trans hEw2).trans hEw3).trans hEw5).trans hEw6).trans hEw7).trans hEw8) hCw9 (by omega))
   exact ⟨by unfold enU;rw [if_neg hc10];exact congrArg (fun z=>vA (zW z)) (Ent.ext' (by show _=(slU x+1).toNat%2^8;rw [hs];rfl) rfl),hX2⟩
  ·rw [show slU x=((1:Nat):Int) from hs]
   refine za (zt (zhC 1 _ (by first | omega | decide)) ?_)
   rintro _ w10 ⟨rfl,hEw10⟩
   have hzw10:=hEw10.size
   rw [show 1+1=2 from by kernel_rfl]
   refine zb 5 [(6,(vI 0)),(5,(vB 2)),(23,(vI 0)),(22,(vB 2)),(18,(.tuple #[(vB 2),(vI 0)]))] (zz (zb 1 [(24,(vB 2))] (za (zQ w5.heap.size 0 (((hBw6.ext hEw7).ext hEw10).all) (zar _) ?_))))
   refine za (zaN (Instr.build 71 #[(0,(vB 2)),(1,(vA (zK (zX (zR x.nd)))))]) (vA (zW (⟨2,(zX (zR x.nd)),by omega⟩))) (zcf 2 (zX (zR x.nd)) (by omega)) ?_)
   have hK7:=(((((hBw2.ext hEw3).ext hEw5).ext hEw6).ext hEw7).ext hEw10)
   refine za (zC 71 w1.heap.size 0 71 (vA (zW (⟨2,(zX (zR x.nd)),by omega⟩))) (zW Ent.zero) (zW (⟨2,(zX (zR x.nd)),by omega⟩)) hK7 (by rw [zat];kernel_rfl) (by first |(simp;done)|(simp;omega)) (zch _) ?_)
   have hK8:=(((((hBw2.ext hEw3).ext hEw5).ext hEw6).ext hEw7).ext hEw10)
   intro w11 hBw11 hCw11
   have hzw11:=hCw11.size
   rw [zv _ _ (by simp)] at hBw11
   refine zF (zaR (show zO Tryz.prog 27 _ _ (.cell 2 71) (vA (zW (⟨2,(zX (zR x.nd)),by omega⟩))) from ⟨⟨w1.heap.size,0,none⟩,(by kernel_rfl),zE (T:=71) (vs:=zW (⟨2,(zX (zR x.nd)),by omega⟩)) (hBw11).all (by rw [zat];kernel_rfl)⟩) ?_)
   have hX3:Ext w w11:=(Ext.own ((((((hEw1.trans hEw2).trans hEw3).trans hEw5).trans hEw6).trans hEw7).trans hEw10) hCw11 (by omega))
   exact ⟨by unfold enU;rw [if_neg hc10];exact congrArg (fun z=>vA (zW z)) (Ent.ext' (by show _=(slU x+1).toNat%2^8;rw [hs];rfl) rfl),hX3⟩
end Go.Proofs.YtkmhgepdhilllaaGreatDoor
namespace Go.Proofs.YtkmhgepdhilllaaGreatDoor
open Go Go.RowKit Go.Cs
set_option maxRecDepth 100000
theorem zqv {bq lc hc2 lf hf2 nc cc nf cf:Nat} {ac af:Option Addr} (n B lp:Nat) (U:Nat→Prop) (J Jx:Nat→World→Prop) (w:World) (hp0:1≤n) (hp1:n≤4096) (hB1:Blk w bq [(.slice ac nc cc),(.slice af nf cf)] 114) (hc:Es (nv .i64) lc hc2 w ac nc cc (za9 n (hgt n+1))) (hf:Es (nv .i64) lf hf2 w af nf cf (zbk n (hgt n+1))) (hU:∀b,(B≤b∨U b)→b≠bq∧¬(lc≤b∧b<hc2)∧¬(lf≤b∧b<hf2)) (hJ:∀k W W',J k W→Ext W W'→J k W') (hY:∀k W,k<tot n→J k W→Yat Tryz.prog lp [vI (lvK n k),vI (k)] W (fun v W'=>(v= .bool true∧J (k+1) W'∧Chg (fun b=>B≤b∨U b) W W')∨(v= .bool false∧Chg (fun b=>B≤b∨U b) W W'∧Jx k W'))) (h0:J 0 w):
  Calls Tryz.prog 91 #[(.func (.yield lp) #[] #[]),(vP bq 0)] w (Ret fun r w'=>J (tot n) w'∨∃k,k<tot n∧Jx k w'):=by
 refine zw (n:=31) (σ:= [(0,(.func (.yield lp) #[] #[])),(1,(vP bq 0))]) Tryz.func91 rfl ?_
 have hlc:=hc.len_eq;rw [zck] at hlc
 have hlf:=hf.len_eq;rw [zcC] at hlf
 have h5:=zam n
 have hts:=zau hp1
 have htt:=zcq hp0 hp1
 have hle0:=hc.le;have hle1:=hf.le
 refine wsr (zb 1 [(6,(vP bq 0))] (za (zm bq 0 (hB1.cell rfl) ?_)))
 refine zb 2 [(9,(vI 0)),(8,(vI nc))] (wEt (zp (zU (X:=Nat) (fun v=> [(9,(vI v))]) [3,4,5,10,11,12,13,14,15,16,17,18,19,20,21,22,23,24,25,26,27,28,29,30] (fun v w1=>v≤hgt n+1∧J (num n v) w1∧Blk w1 bq ([(.slice ac nc cc),(.slice af nf cf)]) 114∧Es (nv .i64) lc hc2 w1 ac nc cc (za9 n (hgt n+1))∧Es (nv .i64) lf hf2 w1 af nf cf (zbk n (hgt n+1))) (fun v=>hgt n+1-v) 0 (by kernel_rfl) ⟨by omega,h0,hB1,hc,hf⟩ ?_)))
 rintro v dw1 w1 ⟨hv,hJv,hB1a,hca,hfa⟩
 have hbl:=hB1a.lt
 have hcn:=zbl n v
 have hgc:v<hgt n+1→gt (za9 n (hgt n+1)) v=cnt n v:=fun hh=>zfy hh
 have hgf:v<hgt n+1→gt (zbk n (hgt n+1)) v=num n v:=fun hh=>zcM hh
 refine wsr (za (zag 10 v nc (fun hc10=> ?_) (fun hc10=> ?_)))
 ·replace hgc:=hgc (by omega);replace hgf:=hgf (by omega)
  refine wEt (zd (zk (zl (zc (zd (zp (wsr ?_)))))))
  refine zb 1 [(11,(vI v))] ?_
  obtain ⟨b1,o1,rfl⟩:=hca.addr (by omega)
  refine za (zan b1 o1 nc cc v 1 ?_)
  refine za (zm b1 (o1+v*1) (hca.celln (by omega)) ?_)
  refine zb 2 [(4,(vI (gt (za9 n (hgt n+1)) v))),(3,(vI v))] (zz (zb 2 [(15,(vI 0)),(14,(vI (gt (za9 n (hgt n+1)) v)))] (wEt (zp (zU (X:=Nat) (fun j=> [(15,(vI j))]) [5,16,17,18,19,20,21,22,23,24,25,26,27,28,29] (fun j w2=>j≤cnt n v∧J (num n v+j) w2∧Blk w2 bq ([(.slice (pA b1 o1) nc cc),(.slice af nf cf)]) 114∧Es (nv .i64) lc hc2 w2 (pA b1 o1) nc cc (za9 n (hgt n+1))∧Es (nv .i64) lf hf2 w2 af nf cf (zbk n (hgt n+1))) (fun j=>cnt n v-j) 0 (by kernel_rfl) ⟨Nat.zero_le _,hJv,hB1a,hca,hfa⟩ ?_)))))
  rintro j dw2 w2 ⟨hj,hJj,hB1b,hcb,hfb⟩
  have hbl2:=hB1b.lt
  refine wsr (za (zag 16 j (gt (za9 n (hgt n+1)) v) (fun hc16=> ?_) (fun hc16=> ?_)))
  ·have hjc:j<cnt n v:=by omega
   have hpl:=zaL (n:=n) (l:=v) (j:=j) (by omega) hjc
   refine wEt (zd (zk (zl (zc (zd (zp (wsr ?_)))))))
   refine zb 2 [(5,(vI j)),(17,(vI j))] (zz (zb 3 [(20,(vP bq 1)),(19,(vI v)),(18,(.func (.yield lp) #[] #[]))] (za (zm bq 1 (hB1b.cell rfl) ?_))))
   refine zb 1 [(22,(vI v))] ?_
   obtain ⟨b2,o2,rfl⟩:=hfb.addr (by omega)
   refine za (zan b2 o2 nf cf v 1 ?_)
   refine za (zm b2 (o2+v*1) (hfb.celln (by omega)) ?_)
   refine zb 1 [(25,(vI j))] (za (zJ 26 (gt (zbk n (hgt n+1)) v) j (num n v+j) ?_))
   refine za (zma (some 27) lp [(vI v),(vI (num n v+j))] (by have hz:=hY (num n v+j) _ hpl hJj;rw [zh8 (by omega) hjc] at hz;exact hz) ?_)
   rintro _ w3 (⟨rfl,hJw3,hCw3⟩|⟨rfl,hCw3,hXw3⟩)
   ·have hzw3:=hCw3.size
    refine zb 1 [(28,vF)] (wEt (zf (zl (zi (zc (zg (za (zJ 29 j 1 (j+1) ?_))))))))
    refine zb 1 [(15,(vI (j+1)))] (zq (zn (zG (j+1) ?_ ?_)))
    ·exact ⟨by omega,hJw3,((hB1b).chg hCw3 (fun hs=>by have hu:=hU _ hs;omega)),((hcb).chg hCw3 (fun k h1 h2 hs=>by have hu:=hU _ hs;omega)),((hfb).chg hCw3 (fun k h1 h2 hs=>by have hu:=hU _ hs;omega))⟩
    ·first | omega |(dsimp only;omega)
   ·have hzw3:=hCw3.size
    refine zb 1 [(28,vT)] (wEt (zk (zaH (zu (zj (zj (zu (zu ?_))))))))
    exact zj (zj (zu (zh (.tuple #[]) (.inr ⟨num n v+j,hpl,hXw3⟩))))
  ·obtain rfl:j=cnt n v:=by omega
   refine wEt (zd (zf (zP (zo (zo (zD (zi (zc ?_))))))))
   refine zg (za (zJ 30 v 1 (v+1) ?_))
   refine zb 1 [(9,(vI (v+1)))] (zq (zn (zG (v+1) ?_ ?_)))
   ·exact ⟨by omega,hJj,hB1b,hcb,hfb⟩
   ·first | omega |(dsimp only;omega)
 ·obtain rfl:v=hgt n+1:=by omega
  exact wEt (zd (zf (zP (zo (zo (zD (zlY (.inl hJv))))))))
theorem zpL {lo_c hi_c:Nat} {a_c:Option Addr} {n_c c_c:Nat} {c:List Nat} {lo_f hi_f:Nat} {a_f:Option Addr} {n_f c_f:Nat} {f:List Nat} (w:World) (h_c:Es (nv .i64) lo_c hi_c w a_c n_c c_c c) (h_f:Es (nv .i64) lo_f hi_f w a_f n_f c_f f):
  Calls Tryz.prog 67 #[(vA [(.slice a_c n_c c_c),(.slice a_f n_f c_f)])] w (Ret fun r w'=>∃a0,r=(.func (.func 91) #[] #[(vP a0 0)])∧w.heap.size≤a0∧Blk w' a0 [(.slice a_c n_c c_c),(.slice a_f n_f c_f)] 114∧Ext w w'):=by
 refine zw (n:=4) (σ:= [(0,(vA [(.slice a_c n_c c_c),(.slice a_f n_f c_f)]))]) Tryz.func67 rfl ?_
 replace h_c:=h_c.now;have hle_c:=h_c.le
 replace h_f:=h_f.now;have hle_f:=h_f.le
 refine wsr (za (zS (Instr.box 114 (vA [(.slice a_c n_c c_c),(.slice a_f n_f c_f)])) (vP w.heap.size 0) ([(.slice a_c n_c c_c),(.slice a_f n_f c_f)]) 114 ?_))
 intro w1 hBw1 hEw1 hzw1 hlw1
 refine zb 1 [(2, .nilFunc)] (zz (zb 2 [(2,(.func (.func 91) #[] #[(vP w.heap.size 0)])),(3,(.func (.func 91) #[] #[(vP w.heap.size 0)]))] (zF (zh (.func (.func 91) #[] #[(vP w.heap.size 0)]) ?_))))
 exact ⟨_,rfl,by omega,hBw1,hEw1⟩
end Go.Proofs.YtkmhgepdhilllaaGreatDoor
namespace Go.Proofs.YtkmhgepdhilllaaGreatDoor
open Go Go.RowKit Go.Cs
set_option maxRecDepth 100000
theorem zsl (x:Un) (w:World) (hp0:x.sl=0∨x.sl=1):
  Calls Tryz.prog 79 #[(vA (unC x))] w (Ret fun r w'=>r=vF∧Ext w w'):=by
 refine zw (n:=11) (σ:= [(0,(vA (unC x)))]) Tryz.func79 rfl ?_
 refine wsr (za (zS (Instr.box 77 (vA (unC x))) (vP w.heap.size 0) (unC x) 77 ?_))
 intro w1 hBw1 hEw1 hzw1 hlw1
 refine zb 1 [(2,vF)] (zz (zb 1 [(3,(vP w.heap.size 274))] (za (zm w.heap.size 274 (hBw1.cell (zdu _)) ?_))))
 refine za (zg9 5 x.sl ((0:Nat):Int) (fun hc5=> ?_) (fun hc5=> ?_))
 ·refine zb 2 [(7,(vP w.heap.size 274)),(6,vT)] (za (zm w.heap.size 274 (hBw1.cell (zdu _)) ?_))
  refine za (zbn (some 9) (x.sl !=((1:Nat):Int)) false (zcb) ?_)
  exact zb 2 [(2,vF),(10,vF)] (zF (zh vF (⟨rfl,hEw1⟩)))
 ·exact zb 6 [(2,vF),(10,vF),(9,undef),(8,undef),(7,undef),(6,vF)] (zF (zh vF (⟨rfl,hEw1⟩)))
theorem zwy (x:Un) (w:World) (hp0:¬(x.sl=0∨x.sl=1)):
  Calls Tryz.prog 79 #[(vA (unC x))] w (Ret fun r w'=>r=vT∧Ext w w'):=by
 refine zw (n:=11) (σ:= [(0,(vA (unC x)))]) Tryz.func79 rfl ?_
 refine wsr (za (zS (Instr.box 77 (vA (unC x))) (vP w.heap.size 0) (unC x) 77 ?_))
 intro w1 hBw1 hEw1 hzw1 hlw1
 refine zb 1 [(2,vF)] (zz (zb 1 [(3,(vP w.heap.size 274))] (za (zm w.heap.size 274 (hBw1.cell (zdu _)) ?_))))
 refine za (zbn (some 5) (x.sl !=((0:Nat):Int)) true (zd1) ?_)
 refine zb 2 [(7,(vP w.heap.size 274)),(6,vT)] (za (zm w.heap.size 274 (hBw1.cell (zdu _)) ?_))
 refine za (zbn (some 9) (x.sl !=((1:Nat):Int)) true (zd1) ?_)
 exact zb 2 [(2,vT),(10,vT)] (zF (zh vT (⟨rfl,hEw1⟩)))
theorem zon (x:Un) (w:World):
  Calls Tryz.prog 98 #[(vA (unC x))] w (Ret fun r w'=>r=(.bool x.dt)∧Ext w w'):=by
 refine zw (n:=5) (σ:= [(0,(vA (unC x)))]) Tryz.func98 rfl ?_
 refine wsr (za (zS (Instr.box 77 (vA (unC x))) (vP w.heap.size 0) (unC x) 77 ?_))
 intro w1 hBw1 hEw1 hzw1 hlw1
 refine zb 1 [(2,vF)] (zz (zb 1 [(3,(vP w.heap.size 275))] (za (zm w.heap.size 275 (hBw1.cell (zdc _)) ?_))))
 exact zb 1 [(2,(.bool x.dt))] (zF (zh (.bool x.dt) (⟨rfl,hEw1⟩)))
theorem ztL {lo_t hi_t:Nat} {a_t:Option Addr} {n_t c_t:Nat} {t:List Un} (w:World) (h_t:Ms unC 280 lo_t hi_t w a_t n_t c_t t) (hp0:∀i,i<t.length→((t.getD i Un.zero).sl=0∨(t.getD i Un.zero).sl=1)):
  Calls Tryz.prog 94 #[(.slice a_t n_t c_t),(.func (.func 79) #[] #[])] w (Ret fun r w'=>r=(.int .i64 (-1))∧Ext w w'):=by
 refine zw (n:=19) (σ:= [(0,(.slice a_t n_t c_t)),(1,(.func (.func 79) #[] #[]))]) Tryz.func94 rfl ?_
 replace h_t:=h_t.now;have hle_t:=h_t.le
 have hlt:=h_t.len_eq
 refine wsr (zb 1 [(4,(vI 0))] (zM (zb 3 [(8,(vI 0)),(7,(vI n_t)),(6,(.slice a_t n_t c_t))] (zq ?_))))
 refine zc (zp (zU (X:=Nat) (fun k=> [(8,(vI k))]) [4,5,9,10,11,12,13,14,15,16,17,18] (fun k w1=>k≤n_t∧Ext w w1) (fun k=>n_t-k) 0 (by kernel_rfl) ⟨Nat.zero_le _,(Ext.refl _)⟩ ?_))
 rintro k dw1 w1 ⟨hk,hEl⟩
 have hzl:=hEl.size
 refine wsr (za (zag 9 k n_t (fun hc9=> ?_) (fun hc9=> ?_)))
 ·have hx:((t.getD k Un.zero).sl=0∨(t.getD k Un.zero).sl=1):=hp0 k (by omega)
  refine wEt (zd (zk (zl (zc (zd (zp (wsr ?_)))))))
  refine zb 2 [(5,(vI k)),(10,(vI k))] (zz (zb 3 [(13,(vI k)),(12,(.slice a_t n_t c_t)),(11,(.func (.func 79) #[] #[]))] ?_))
  obtain ⟨b1,o1,rfl⟩:=h_t.addr (by omega) (by decide)
  refine za (zan b1 o1 n_t c_t k 280 ?_)
  refine za (zQ b1 (o1+k*280) ((h_t.ext hEl).at Un.zero (by omega)) (zI _) ?_)
  refine za (zt (zsl (t.getD k Un.zero) _ (hx)) ?_)
  rintro _ w2 ⟨rfl,hEw2⟩
  have hzw2:=hEw2.size
  refine wEt (zf (zl (zi (zc (zg (za (zJ 18 k 1 (k+1) ?_)))))))
  refine zb 1 [(8,(vI (k+1)))] (zq (zn (zG (k+1) ?_ ?_)))
  ·exact ⟨by omega,(hEl.trans hEw2)⟩
  ·first | omega |(dsimp only;omega)
 ·refine wEt (zd (zf (zP (zo (zo (zD (zc (zd ?_))))))))
  exact zg (zb 1 [(4,(.int .i64 (-1)))] (zF (zh (.int .i64 (-1)) (⟨rfl,hEl⟩))))
theorem zsw {lo_t hi_t:Nat} {a_t:Option Addr} {n_t c_t:Nat} {t:List Un} (w:World) (h_t:Ms unC 280 lo_t hi_t w a_t n_t c_t t) (hp0:¬∀i,i<t.length→((t.getD i Un.zero).sl=0∨(t.getD i Un.zero).sl=1)):
  Calls Tryz.prog 94 #[(.slice a_t n_t c_t),(.func (.func 79) #[] #[])] w (Ret fun r w'=>∃(a0:Nat),r=(vI a0)∧Ext w w'):=by
 refine zw (n:=19) (σ:= [(0,(.slice a_t n_t c_t)),(1,(.func (.func 79) #[] #[]))]) Tryz.func94 rfl ?_
 replace h_t:=h_t.now;have hle_t:=h_t.le
 have hlt:=h_t.len_eq
 refine wsr (zb 1 [(4,(vI 0))] (zM (zb 3 [(8,(vI 0)),(7,(vI n_t)),(6,(.slice a_t n_t c_t))] (zq ?_))))
 refine zc (zp (zU (X:=Nat) (fun k=> [(8,(vI k))]) [4,5,9,10,11,12,13,14,15,16,17,18] (fun k w1=>k≤n_t∧(∀i,i<k→((t.getD i Un.zero).sl=0∨(t.getD i Un.zero).sl=1))∧Ext w w1) (fun k=>n_t-k) 0 (by kernel_rfl) ⟨Nat.zero_le _,fun i h=>absurd h (Nat.not_lt_zero _),(Ext.refl _)⟩ ?_))
 rintro k dw1 w1 ⟨hk,hal,hEl⟩
 have hzl:=hEl.size
 refine wsr (za (zag 9 k n_t (fun hc9=> ?_) (fun hc9=> ?_)))
 ·refine wEt (zd (zk (zl (zc (zd (zp (wsr ?_)))))))
  refine zb 2 [(5,(vI k)),(10,(vI k))] (zz (zb 3 [(13,(vI k)),(12,(.slice a_t n_t c_t)),(11,(.func (.func 79) #[] #[]))] ?_))
  obtain ⟨b1,o1,rfl⟩:=h_t.addr (by omega) (by decide)
  refine za (zan b1 o1 n_t c_t k 280 ?_)
  refine za (zQ b1 (o1+k*280) ((h_t.ext hEl).at Un.zero (by omega)) (zI _) ?_)
  rcases Classical.em ((t.getD k Un.zero).sl=0∨(t.getD k Un.zero).sl=1) with hx | hx
  ·refine za (zt (zsl (t.getD k Un.zero) _ (hx)) ?_)
   rintro _ w2 ⟨rfl,hEw2⟩
   have hzw2:=hEw2.size
   refine wEt (zf (zl (zi (zc (zg (za (zJ 18 k 1 (k+1) ?_)))))))
   refine zb 1 [(8,(vI (k+1)))] (zq (zn (zG (k+1) ?_ ?_)))
   ·exact ⟨by omega,fun i hi=>by rcases Nat.lt_succ_iff_lt_or_eq.1 hi with h1 | rfl;exact hal i h1;exact hx,(hEl.trans hEw2)⟩
   ·first | omega |(dsimp only;omega)
  ·refine za (zt (zwy (t.getD k Un.zero) _ (hx)) ?_)
   rintro _ w3 ⟨rfl,hEw3⟩
   have hzw3:=hEw3.size
   refine wEt (zk (wsr (zb 2 [(4,(vI k)),(17,(vI k))] (zF (zu ?_)))))
   exact zj (zj (zu (zj (zh (vI k) (⟨_,rfl,(hEl.trans hEw3)⟩)))))
 ·refine wEt (zd (zf (zP (zo (zo (zD (zc (zd ?_))))))))
  exact zg (zb 1 [(4,(.int .i64 (-1)))] (zF (zh (.int .i64 (-1)) (absurd (fun i hi=>hal i (by omega)) hp0))))
theorem zsv {lo_t hi_t:Nat} {a_t:Option Addr} {n_t c_t:Nat} {t:List Un} (w:World) (h_t:Ms unC 280 lo_t hi_t w a_t n_t c_t t) (hp0:∀i,i<t.length→(t.getD i Un.zero).dt=false):
  Calls Tryz.prog 94 #[(.slice a_t n_t c_t),(.func (.func 98) #[] #[])] w (Ret fun r w'=>r=(.int .i64 (-1))∧Ext w w'):=by
 refine zw (n:=19) (σ:= [(0,(.slice a_t n_t c_t)),(1,(.func (.func 98) #[] #[]))]) Tryz.func94 rfl ?_
 replace h_t:=h_t.now;have hle_t:=h_t.le
 have hlt:=h_t.len_eq
 refine wsr (zb 1 [(4,(vI 0))] (zM (zb 3 [(8,(vI 0)),(7,(vI n_t)),(6,(.slice a_t n_t c_t))] (zq ?_))))
 refine zc (zp (zU (X:=Nat) (fun k=> [(8,(vI k))]) [4,5,9,10,11,12,13,14,15,16,17,18] (fun k w1=>k≤n_t∧Ext w w1) (fun k=>n_t-k) 0 (by kernel_rfl) ⟨Nat.zero_le _,(Ext.refl _)⟩ ?_))
 rintro k dw1 w1 ⟨hk,hEl⟩
 have hzl:=hEl.size
 refine wsr (za (zag 9 k n_t (fun hc9=> ?_) (fun hc9=> ?_)))
 ·have hx:(t.getD k Un.zero).dt=false:=hp0 k (by omega)
  refine wEt (zd (zk (zl (zc (zd (zp (wsr ?_)))))))
  refine zb 2 [(5,(vI k)),(10,(vI k))] (zz (zb 3 [(13,(vI k)),(12,(.slice a_t n_t c_t)),(11,(.func (.func 98) #[] #[]))] ?_))
  obtain ⟨b1,o1,rfl⟩:=h_t.addr (by omega) (by decide)
  refine za (zan b1 o1 n_t c_t k 280 ?_)
  refine za (zQ b1 (o1+k*280) ((h_t.ext hEl).at Un.zero (by omega)) (zI _) ?_)
  refine za (zt (zon (t.getD k Un.zero) _) ?_)
  rintro _ w2 ⟨rfl,hEw2⟩
  have hzw2:=hEw2.size
  rw [show (t.getD k Un.zero).dt=false from hx]
  refine wEt (zf (zl (zi (zc (zg (za (zJ 18 k 1 (k+1) ?_)))))))
  refine zb 1 [(8,(vI (k+1)))] (zq (zn (zG (k+1) ?_ ?_)))
  ·exact ⟨by omega,(hEl.trans hEw2)⟩
  ·first | omega |(dsimp only;omega)
 ·refine wEt (zd (zf (zP (zo (zo (zD (zc (zd ?_))))))))
  exact zg (zb 1 [(4,(.int .i64 (-1)))] (zF (zh (.int .i64 (-1)) (⟨rfl,hEl⟩))))
theorem zsu {lo_t hi_t:Nat} {a_t:Option Addr} {n_t c_t:Nat} {t:List Un} (w:World) (h_t:Ms unC 280 lo_t hi_t w a_t n_t c_t t) (hp0:¬∀i,i<t.length→(t.getD i Un.zero).dt=false):
  Calls Tryz.prog 94 #[(.slice a_t n_t c_t),(.func (.func 98) #[] #[])] w (Ret fun r w'=>∃(a0:Nat),r=(vI a0)∧Ext w w'):=by
 refine zw (n:=19) (σ:= [(0,(.slice a_t n_t c_t)),(1,(.func (.func 98) #[] #[]))]) Tryz.func94 rfl ?_
 replace h_t:=h_t.now;have hle_t:=h_t.le
 have hlt:=h_t.len_eq
 refine wsr (zb 1 [(4,(vI 0))] (zM (zb 3 [(8,(vI 0)),(7,(vI n_t)),(6,(.slice a_t n_t c_t))] (zq ?_))))
 refine zc (zp (zU (X:=Nat) (fun k=> [(8,(vI k))]) [4,5,9,10,11,12,13,14,15,16,17,18] (fun k w1=>k≤n_t∧(∀i,i<k→(t.getD i Un.zero).dt=false)∧Ext w w1) (fun k=>n_t-k) 0 (by kernel_rfl) ⟨Nat.zero_le _,fun i h=>absurd h (Nat.not_lt_zero _),(Ext.refl _)⟩ ?_))
 rintro k dw1 w1 ⟨hk,hal,hEl⟩
 have hzl:=hEl.size
 refine wsr (za (zag 9 k n_t (fun hc9=> ?_) (fun hc9=> ?_)))
 ·refine wEt (zd (zk (zl (zc (zd (zp (wsr ?_)))))))
  refine zb 2 [(5,(vI k)),(10,(vI k))] (zz (zb 3 [(13,(vI k)),(12,(.slice a_t n_t c_t)),(11,(.func (.func 98) #[] #[]))] ?_))
  obtain ⟨b1,o1,rfl⟩:=h_t.addr (by omega) (by decide)
  refine za (zan b1 o1 n_t c_t k 280 ?_)
  refine za (zQ b1 (o1+k*280) ((h_t.ext hEl).at Un.zero (by omega)) (zI _) ?_)
  rcases Bool.eq_false_or_eq_true (t.getD k Un.zero).dt with hx | hx
  ·refine za (zt (zon (t.getD k Un.zero) _) ?_)
   rintro _ w2 ⟨rfl,hEw2⟩
   have hzw2:=hEw2.size
   rw [show (t.getD k Un.zero).dt=true from hx]
   refine wEt (zk (wsr (zb 2 [(4,(vI k)),(17,(vI k))] (zF (zu ?_)))))
   exact zj (zj (zu (zj (zh (vI k) (⟨_,rfl,(hEl.trans hEw2)⟩)))))
  ·refine za (zt (zon (t.getD k Un.zero) _) ?_)
   rintro _ w3 ⟨rfl,hEw3⟩
   have hzw3:=hEw3.size
   rw [show (t.getD k Un.zero).dt=false from hx]
   refine wEt (zf (zl (zi (zc (zg (za (zJ 18 k 1 (k+1) ?_)))))))
   refine zb 1 [(8,(vI (k+1)))] (zq (zn (zG (k+1) ?_ ?_)))
   ·exact ⟨by omega,fun i hi=>by rcases Nat.lt_succ_iff_lt_or_eq.1 hi with h1 | rfl;exact hal i h1;exact hx,(hEl.trans hEw3)⟩
   ·first | omega |(dsimp only;omega)
 ·refine wEt (zd (zf (zP (zo (zo (zD (zc (zd ?_))))))))
  exact zg (zb 1 [(4,(.int .i64 (-1)))] (zF (zh (.int .i64 (-1)) (absurd (fun i hi=>hal i (by omega)) hp0))))
theorem ztj {lo_t hi_t:Nat} {a_t:Option Addr} {n_t c_t:Nat} {t:List Un} (w:World) (h_t:Ms unC 280 lo_t hi_t w a_t n_t c_t t) (hp0:∀i,i<t.length→((t.getD i Un.zero).sl=0∨(t.getD i Un.zero).sl=1)):
  Calls Tryz.prog 78 #[(.slice a_t n_t c_t),(.func (.func 79) #[] #[])] w (Ret fun r w'=>r=vF∧Ext w w'):=by
 refine zw (n:=9) (σ:= [(0,(.slice a_t n_t c_t)),(1,(.func (.func 79) #[] #[]))]) Tryz.func78 rfl ?_
 replace h_t:=h_t.now;have hle_t:=h_t.le
 refine wsr (zb 1 [(4,vF)] (zz (zb 2 [(6,(.func (.func 79) #[] #[])),(5,(.slice a_t n_t c_t))] (za (zt (ztL _ h_t (by assumption)) ?_)))))
 rintro _ w1 ⟨rfl,hEw1⟩
 have hzw1:=hEw1.size
 refine za (zbn (some 8) (decide (-1≥((0:Nat):Int))) false (zbW) ?_)
 exact zb 1 [(4,vF)] (zF (zh vF (⟨rfl,hEw1⟩)))
theorem zte {lo_t hi_t:Nat} {a_t:Option Addr} {n_t c_t:Nat} {t:List Un} (w:World) (h_t:Ms unC 280 lo_t hi_t w a_t n_t c_t t) (hp0:¬∀i,i<t.length→((t.getD i Un.zero).sl=0∨(t.getD i Un.zero).sl=1)):
  Calls Tryz.prog 78 #[(.slice a_t n_t c_t),(.func (.func 79) #[] #[])] w (Ret fun r w'=>r=vT∧Ext w w'):=by
 refine zw (n:=9) (σ:= [(0,(.slice a_t n_t c_t)),(1,(.func (.func 79) #[] #[]))]) Tryz.func78 rfl ?_
 replace h_t:=h_t.now;have hle_t:=h_t.le
 refine wsr (zb 1 [(4,vF)] (zz (zb 2 [(6,(.func (.func 79) #[] #[])),(5,(.slice a_t n_t c_t))] (za (zt (zsw _ h_t (by assumption)) ?_)))))
 rintro _ w1 ⟨a1,rfl,hEw1⟩
 have hzw1:=hEw1.size
 refine za (zf0 8 a1 0 ?_)
 exact zb 1 [(4,vT)] (zF (zh vT (⟨rfl,hEw1⟩)))
theorem zsD {lo_t hi_t:Nat} {a_t:Option Addr} {n_t c_t:Nat} {t:List Un} (w:World) (h_t:Ms unC 280 lo_t hi_t w a_t n_t c_t t) (hp0:∀i,i<t.length→(t.getD i Un.zero).dt=false):
  Calls Tryz.prog 78 #[(.slice a_t n_t c_t),(.func (.func 98) #[] #[])] w (Ret fun r w'=>r=vF∧Ext w w'):=by
 refine zw (n:=9) (σ:= [(0,(.slice a_t n_t c_t)),(1,(.func (.func 98) #[] #[]))]) Tryz.func78 rfl ?_
 replace h_t:=h_t.now;have hle_t:=h_t.le
 refine wsr (zb 1 [(4,vF)] (zz (zb 2 [(6,(.func (.func 98) #[] #[])),(5,(.slice a_t n_t c_t))] (za (zt (zsv _ h_t (by assumption)) ?_)))))
 rintro _ w1 ⟨rfl,hEw1⟩
 have hzw1:=hEw1.size
 refine za (zbn (some 8) (decide (-1≥((0:Nat):Int))) false (zbW) ?_)
 exact zb 1 [(4,vF)] (zF (zh vF (⟨rfl,hEw1⟩)))
theorem zup {lo_t hi_t:Nat} {a_t:Option Addr} {n_t c_t:Nat} {t:List Un} (w:World) (h_t:Ms unC 280 lo_t hi_t w a_t n_t c_t t) (hp0:¬∀i,i<t.length→(t.getD i Un.zero).dt=false):
  Calls Tryz.prog 78 #[(.slice a_t n_t c_t),(.func (.func 98) #[] #[])] w (Ret fun r w'=>r=vT∧Ext w w'):=by
 refine zw (n:=9) (σ:= [(0,(.slice a_t n_t c_t)),(1,(.func (.func 98) #[] #[]))]) Tryz.func78 rfl ?_
 replace h_t:=h_t.now;have hle_t:=h_t.le
 refine wsr (zb 1 [(4,vF)] (zz (zb 2 [(6,(.func (.func 98) #[] #[])),(5,(.slice a_t n_t c_t))] (za (zt (zsu _ h_t (by assumption)) ?_)))))
 rintro _ w1 ⟨a1,rfl,hEw1⟩
 have hzw1:=hEw1.size
 refine za (zf0 8 a1 0 ?_)
 exact zb 1 [(4,vT)] (zF (zh vT (⟨rfl,hEw1⟩)))
end Go.Proofs.YtkmhgepdhilllaaGreatDoor
namespace Go.Proofs.YtkmhgepdhilllaaGreatDoor
open Go Go.RowKit Go.Cs
set_option maxRecDepth 100000
theorem ziw (b n l j:Nat) {lo_c hi_c lo_f hi_f lo_t hi_t n_c c_c n_f c_f n_t c_t:Nat} {a_c a_f a_t:Option Addr} {c f:List Nat} {t:List Un} (w:World) (hX:Blk w b [(.slice a_c n_c c_c),(.slice a_f n_f c_f),(vI n),(.slice a_t n_t c_t),(vI (num n l+j)),(vI l)] 146) (h_c:Es (nv .i64) lo_c hi_c w a_c n_c c_c c) (h_f:Es (nv .i64) lo_f hi_f w a_f n_f c_f f) (h_t:Ms unC 280 lo_t hi_t w a_t n_t c_t t) (hp0:c=za9 n (hgt n+1)) (hp1:f=zbk n (hgt n+1)) (hp2:1≤n) (hp3:n≤4096) (hp4:n_t=tot n) (hp5:l≤hgt n) (hp6:j<cnt n l):
  Calls Tryz.prog 95 #[(vP b 0)] w (Ret fun r w'=>r=(vA (unC (t.getD (num n l+j) Un.zero)))∧Ext w w'):=by
 refine zw (n:=14) (σ:= [(0,(vP b 0))]) Tryz.func95 rfl ?_
 replace h_c:=h_c.now;replace h_f:=h_f.now;replace h_t:=h_t.now
 have hbl:=hX.lt
 have hle1:=h_c.le;have hle2:=h_f.le
 have hlc:=h_c.len_eq;rw [hp0,zck] at hlc
 have hlf:=h_f.len_eq;rw [hp1,zcC] at hlf
 have hlt:=h_t.len_eq
 have hlet:=h_t.le
 have h5:=zam n
 have hts:=zau hp3
 have hpl:=zaL (n:=n) (l:=l) (j:=j) hp5 hp6
 have hcn:=zbl n l
 have hgf:gt f l=num n l:=by rw [hp1];exact zcM (by omega)
 refine wsr (za (zad (unC Un.zero) 77 ?_))
 intro w1 hBw1 hEw1 hzw1 hlw1
 refine wEt (zd (zY 12 (fun w2 hEw2 hzw2 hT22=> ?_)))
 refine ze hT22 [(0,3,(vP b 0)),(1,4,(vP b 0)),(2,5,(vP b 2)),(3,6,(vP b 3))] 4 (zx hT22 4 b 3 (fun w' hC=>((((hX.ext hEw1).ext hEw2).ext hC).cell rfl)) (ze hT22 [(5,8,(vP b 0)),(6,9,(vP b 0)),(7,10,(vP b 4))] 3 (zx hT22 8 b 4 (fun w' hC=>((((hX.ext hEw1).ext hEw2).ext hC).cell rfl)) ?_)))
 obtain ⟨b1,o1,rfl⟩:=h_t.addr (by omega) (by decide)
 refine zaD hT22 9 b1 o1 n_t c_t (num n l+j) 280 (zaq hT22 10 b1 (o1+(num n l+j)*280) (fun w' hC=>((((h_t.ext hEw1).ext hEw2).ext hC).at Un.zero (by omega))) (zI _) (zy 11 (zC 77 w.heap.size 0 77 (vA (unC (t.getD (num n l+j) Un.zero))) (unC Un.zero) (unC (t.getD (num n l+j) Un.zero)) (hBw1.ext hEw2) (by rw [zI];kernel_rfl) (by first |(simp;done)|(simp;omega)) (za7 _) ?_)))
 intro w3 hBw3 hCw3
 have hzw3:=hCw3.size
 rw [zv _ _ (by simp)] at hBw3
 refine ⟨.inl (by kernel_rfl), ?_⟩
 exact zB (zc (zaH (zaR (show zO Tryz.prog 14 _ _ (.cell 2 77) (vA (unC (t.getD (num n l+j) Un.zero))) from ⟨⟨w.heap.size,0,none⟩,(by kernel_rfl),zE (T:=77) (vs:=unC (t.getD (num n l+j) Un.zero)) (hBw3).all (by rw [zI];kernel_rfl)⟩) (⟨rfl,(Ext.own (hEw1.trans hEw2) hCw3 (by omega))⟩))))
theorem zsg (b n l j:Nat) {lo_c hi_c lo_f hi_f lo_t hi_t n_c c_c n_f c_f n_t c_t:Nat} {a_c a_f a_t:Option Addr} {c f:List Nat} {t:List Un} (w:World) (hX:Blk w b [(.slice a_c n_c c_c),(.slice a_f n_f c_f),(vI n),(.slice a_t n_t c_t),(vI (num n l+j)),(vI l)] 146) (h_c:Es (nv .i64) lo_c hi_c w a_c n_c c_c c) (h_f:Es (nv .i64) lo_f hi_f w a_f n_f c_f f) (h_t:Ms unC 280 lo_t hi_t w a_t n_t c_t t) (hp0:c=za9 n (hgt n+1)) (hp1:f=zbk n (hgt n+1)) (hp2:1≤n) (hp3:n≤4096) (hp4:n_t=tot n) (hp5:l≤hgt n) (hp6:j<cnt n l) (hp7:l≠0):
  Calls Tryz.prog 97 #[(vP b 0)] w (Ret fun r w'=>r=(.tuple #[(vI (4*j+num n (l-1))),(vI (min (4*j+4) (cnt n (l-1))+num n (l-1)))])∧Ext w w'):=by
 refine zw (n:=64) (σ:= [(0,(vP b 0))]) Tryz.func97 rfl ?_
 replace h_c:=h_c.now;replace h_f:=h_f.now;replace h_t:=h_t.now
 have hbl:=hX.lt
 have hle1:=h_c.le;have hle2:=h_f.le
 have hlc:=h_c.len_eq;rw [hp0,zck] at hlc
 have hlf:=h_f.len_eq;rw [hp1,zcC] at hlf
 have hlt:=h_t.len_eq
 have hlet:=h_t.le
 have h5:=zam n
 have hts:=zau hp3
 have hpl:=zaL (n:=n) (l:=l) (j:=j) hp5 hp6
 have hcn:=zbl n l
 have hgf:gt f l=num n l:=by rw [hp1];exact zcM (by omega)
 have hgc:gt c (l-1)=cnt n (l-1):=by rw [hp0];exact zfy (by omega)
 have hgm:gt f (l-1)=num n (l-1):=by rw [hp1];exact zcM (by omega)
 have hcm:=zbl n (l-1)
 have hns:=zbN (n:=n) (l:=l-1) hp3 (by omega)
 refine wsr (zb 2 [(3,(vI 0)),(2,(vI 0))] (wEt (zd (zY 18 (fun w1 hEw1 hzw1 hT52=> ?_)))))
 refine ze hT52 [(0,4,(vP b 0)),(1,5,(vP b 0)),(2,6,(vP b 4))] 3 (zx hT52 3 b 4 (fun w' hC=>(((hX.ext hEw1).ext hC).cell rfl)) (ze hT52 [(4,8,(vP b 0)),(5,9,(vP b 0)),(6,10,(vP b 0)),(7,11,(vP b 1))] 4 (zx hT52 8 b 1 (fun w' hC=>(((hX.ext hEw1).ext hC).cell rfl)) (ze hT52 [(9,13,(vP b 0)),(10,14,(vP b 0)),(11,15,(vP b 5))] 3 (zx hT52 12 b 5 (fun w' hC=>(((hX.ext hEw1).ext hC).cell rfl)) ?_)))))
 obtain ⟨b1,o1,rfl⟩:=h_f.addr (by omega)
 refine zaD hT52 13 b1 o1 n_f c_f l 1 (zx hT52 14 b1 (o1+l*1) (fun w' hC=>(((h_f.ext hEw1).ext hC).celln (by omega))) (zr hT52 15 (vI j) (zac .i64 (IntKind.i64.wrap (((num n l+j:Nat):Int)-((gt f l:Nat):Int))) (zao)) (zr hT52 16 (vI (4*j)) (zac .i64 (IntKind.i64.wrap (((4:Nat):Int)*((j:Nat):Int))) (zao)) (ze hT52 [(17,2,(vI (4*j)))] 1 (zB (zc (zd (zY 16 (fun w2 hEw2 hzw2 hT68=> ?_)))))))))
 refine ze hT68 [(0,21,(vI (4*j)))] 1 (zr hT68 1 (vI (4*j+4)) (zac .i64 (IntKind.i64.wrap (((4*j:Nat):Int)+((4:Nat):Int))) (zao)) (ze hT68 [(2,23,(vP b 0)),(3,24,(vP b 0)),(4,25,(vP b 0)),(5,26,(vP b 0))] 4 (zx hT68 6 b 0 (fun w' hC=>((((hX.ext hEw1).ext hEw2).ext hC).cell rfl)) (ze hT68 [(7,28,(vP b 0)),(8,29,(vP b 0)),(9,30,(vP b 5))] 3 (zx hT68 10 b 5 (fun w' hC=>((((hX.ext hEw1).ext hEw2).ext hC).cell rfl)) (zr hT68 11 (vI (l-1)) (zac .i64 (IntKind.i64.wrap (((l:Nat):Int)-((1:Nat):Int))) (zao)) ?_))))))
 obtain ⟨b2,o2,rfl⟩:=h_c.addr (by omega)
 refine zaD hT68 12 b2 o2 n_c c_c (l-1) 1 (zx hT68 13 b2 (o2+(l-1)*1) (fun w' hC=>((((h_c.ext hEw1).ext hEw2).ext hC).celln (by omega))) (zr hT68 14 (vI (min (4*j+4) (cnt n (l-1)))) (zsJ (.int .i64 (if ((gt c (l-1):Nat):Int)<((4*j+4:Nat):Int) then ((gt c (l-1):Nat):Int) else ((4*j+4:Nat):Int))) (congrArg _ ((zmt _ _).trans (by rw [hgc])))) (ze hT68 [(15,3,(vI (min (4*j+4) (cnt n (l-1)))))] 1 (zB (zc (zd (zY 30 (fun w3 hEw3 hzw3 hT84=> ?_))))))))
 refine ze hT84 [(0,36,(vI (4*j))),(1,37,(vP b 0)),(2,38,(vP b 0)),(3,39,(vP b 0)),(4,40,(vP b 1))] 5 ?_
 have hK1:=(((hX.ext hEw1).ext hEw2).ext hEw3)
 refine zx hT84 5 b 1 (fun w' hC=>((hK1.ext hC).cell rfl)) (ze hT84 [(6,42,(vP b 0)),(7,43,(vP b 0)),(8,44,(vP b 5))] 3 (zx hT84 9 b 5 (fun w' hC=>((hK1.ext hC).cell rfl)) (zr hT84 10 (vI (l-1)) (zac .i64 (IntKind.i64.wrap (((l:Nat):Int)-((1:Nat):Int))) (zao)) (zaD hT84 11 b1 o1 n_f c_f (l-1) 1 ?_))))
 have hK2:=(((h_f.ext hEw1).ext hEw2).ext hEw3)
 refine zx hT84 12 b1 (o1+(l-1)*1) (fun w' hC=>((hK2.ext hC).celln (by omega))) (zr hT84 13 (vI (4*j+num n (l-1))) (zac .i64 (IntKind.i64.wrap (((4*j:Nat):Int)+((gt f (l-1):Nat):Int))) (zao)) (ze hT84 [(14,50,(vI (min (4*j+4) (cnt n (l-1))))),(15,51,(vP b 0)),(16,52,(vP b 0)),(17,53,(vP b 0)),(18,54,(vP b 1))] 5 (zx hT84 19 b 1 (fun w' hC=>((hK1.ext hC).cell rfl)) (ze hT84 [(20,56,(vP b 0)),(21,57,(vP b 0)),(22,58,(vP b 5))] 3 (zx hT84 23 b 5 (fun w' hC=>((hK1.ext hC).cell rfl)) (zr hT84 24 (vI (l-1)) (zac .i64 (IntKind.i64.wrap (((l:Nat):Int)-((1:Nat):Int))) (zao)) (zaD hT84 25 b1 o1 n_f c_f (l-1) 1 (zx hT84 26 b1 (o1+(l-1)*1) (fun w' hC=>((hK2.ext hC).celln (by omega))) (zr hT84 27 (vI (min (4*j+4) (cnt n (l-1))+num n (l-1))) (zac .i64 (IntKind.i64.wrap (((min (4*j+4) (cnt n (l-1)):Nat):Int)+((gt f (l-1):Nat):Int))) (zao)) ?_)))))))))
 exact ze hT84 [(28,2,(vI (4*j+num n (l-1)))),(29,3,(vI (min (4*j+4) (cnt n (l-1))+num n (l-1))))] 2 (zB (zc (zaH (zh (.tuple #[(vI (4*j+num n (l-1))),(vI (min (4*j+4) (cnt n (l-1))+num n (l-1)))]) (⟨rfl,((hEw1.trans hEw2).trans hEw3)⟩)))))
theorem zuL (b n l j:Nat) {lo_c hi_c lo_f hi_f lo_t hi_t n_c c_c n_f c_f n_t c_t:Nat} {a_c a_f a_t:Option Addr} {c f:List Nat} {t:List Un} (w:World) (hX:Blk w b [(.slice a_c n_c c_c),(.slice a_f n_f c_f),(vI n),(.slice a_t n_t c_t),(vI (num n l+j)),(vI l)] 146) (h_c:Es (nv .i64) lo_c hi_c w a_c n_c c_c c) (h_f:Es (nv .i64) lo_f hi_f w a_f n_f c_f f) (h_t:Ms unC 280 lo_t hi_t w a_t n_t c_t t) (hp0:c=za9 n (hgt n+1)) (hp1:f=zbk n (hgt n+1)) (hp2:1≤n) (hp3:n≤4096) (hp4:n_t=tot n) (hp5:l≤hgt n) (hp6:j<cnt n l):
  Calls Tryz.prog 80 #[(vP b 0)] w (Ret fun r w'=>r=(vI (zeV n t l j))∧Ext w w'):=by
 refine zw (n:=47) (σ:= [(0,(vP b 0))]) Tryz.func80 rfl ?_
 replace h_c:=h_c.now;replace h_f:=h_f.now;replace h_t:=h_t.now
 have hbl:=hX.lt
 have hle1:=h_c.le;have hle2:=h_f.le
 have hlc:=h_c.len_eq;rw [hp0,zck] at hlc
 have hlf:=h_f.len_eq;rw [hp1,zcC] at hlf
 have hlt:=h_t.len_eq
 have hlet:=h_t.le
 have h5:=zam n
 have hts:=zau hp3
 have hpl:=zaL (n:=n) (l:=l) (j:=j) hp5 hp6
 have hcn:=zbl n l
 have hgf:gt f l=num n l:=by rw [hp1];exact zcM (by omega)
 have hxl:=(t.getD (num n l+j) Un.zero).nd.hlv;have hxi:=(t.getD (num n l+j) Un.zero).nd.hix
 refine wsr (zb 1 [(2,(vI 0))] (zz (zb 1 [(4,(vP b 0))] (za (zt (ziw b n l j _ hX h_c h_f h_t (by first | rfl | assumption) (by first | rfl | assumption) (by first | omega | decide) (by first | omega | decide) (by first | omega | decide) (by first | omega | decide) (by first | omega | decide)) ?_)))))
 rintro _ w1 ⟨rfl,hEw1⟩
 have hzw1:=hEw1.size
 refine za (zaN (Instr.field 77 (vA (unC (t.getD (num n l+j) Un.zero))) 0) (vA (zH (t.getD (num n l+j) Un.zero).nd)) (zln (F:=74) (us:=zH (t.getD (num n l+j) Un.zero).nd) (zdE _) (zN _)) ?_)
 refine zal (zH (t.getD (num n l+j) Un.zero).nd) 74 (zN _) (zct _) ?_
 intro w2 hBw2 hEw2 hzw2 hlw2
 refine wEt (zd (zd (zY 40 (fun w3 hEw3 hzw3 hT94=> ?_))))
 refine ze hT94 [(0,7,(vP w1.heap.size 0))] 1 (zx hT94 1 w1.heap.size 0 (fun w' hC=>(((hBw2.ext hEw3).ext hC).cell rfl)) (zr hT94 2 (vI (((t.getD (num n l+j) Un.zero).nd).lv)) (zac .i64 (IntKind.i64.wrap ((((t.getD (num n l+j) Un.zero).nd).lv:Nat):Int)) (zao rfl)) (ze hT94 [(3,10,(vP b 0)),(4,11,(vP b 0)),(5,12,(vP b 5))] 3 ?_)))
 have hK1:=(((hX.ext hEw1).ext hEw2).ext hEw3)
 refine zx hT94 6 b 5 (fun w' hC=>((hK1.ext hC).cell rfl)) ?_
 rcases Classical.em ((t.getD (num n l+j) Un.zero).nd.lv=l) with hf14 | hf14
 ·refine zr hT94 7 vF (zaS (((((t.getD (num n l+j) Un.zero).nd).lv:Nat):Int) !=((l:Nat):Int)) (zcb)) (ze hT94 [(8,15,vF),(9,16,(vP w1.heap.size 1))] 2 (zx hT94 10 w1.heap.size 1 (fun w' hC=>(((hBw2.ext hEw3).ext hC).cell rfl)) (zr hT94 11 (vI (((t.getD (num n l+j) Un.zero).nd).ix)) (zac .i64 (IntKind.i64.wrap ((((t.getD (num n l+j) Un.zero).nd).ix:Nat):Int)) (zao rfl)) (ze hT94 [(12,19,(vP b 0)),(13,20,(vP b 0)),(14,21,(vP b 4))] 3 (zx hT94 15 b 4 (fun w' hC=>((hK1.ext hC).cell rfl)) (ze hT94 [(16,23,(vP b 0)),(17,24,(vP b 0)),(18,25,(vP b 0)),(19,26,(vP b 1))] 4 (zx hT94 20 b 1 (fun w' hC=>((hK1.ext hC).cell rfl)) (ze hT94 [(21,28,(vP b 0)),(22,29,(vP b 0)),(23,30,(vP b 5))] 3 (zx hT94 24 b 5 (fun w' hC=>((hK1.ext hC).cell rfl)) ?_)))))))))
  obtain ⟨b1,o1,rfl⟩:=h_f.addr (by omega)
  refine zaD hT94 25 b1 o1 n_f c_f l 1 ?_
  have hK2:=(((h_f.ext hEw1).ext hEw2).ext hEw3)
  refine zx hT94 26 b1 (o1+l*1) (fun w' hC=>((hK2.ext hC).celln (by omega))) (zr hT94 27 (vI j) (zac .i64 (IntKind.i64.wrap (((num n l+j:Nat):Int)-((gt f l:Nat):Int))) (zao)) ?_)
  rcases Classical.em ((t.getD (num n l+j) Un.zero).nd.ix=j) with hf35 | hf35
  ·refine zr hT94 28 vF (zaS (((((t.getD (num n l+j) Un.zero).nd).ix:Nat):Int) !=((j:Nat):Int)) (zcb)) (ze hT94 [(29,36,vF),(30,37,vF),(31,38,(vP b 0)),(32,39,(vP b 0)),(33,40,(vP b 2)),(34,41,(vP b 2))] 6 (zx hT94 35 b 2 (fun w' hC=>((hK1.ext hC).cell rfl)) (zaq hT94 36 w1.heap.size 0 (fun w' hC=>(((hBw2.ext hEw3).ext hC).all)) (zN _) (zy 37 (zt (zns n ((t.getD (num n l+j) Un.zero).nd) _ (by omega) (by omega)) ?_)))))
   rintro _ w4 ⟨rfl,hEw4⟩
   have hzw4:=hEw4.size
   refine ⟨.inr hEw4, ?_⟩
   rcases Classical.em (zb1 n (t.getD (num n l+j) Un.zero).nd=0) with hf45 | hf45
   ·refine zr (hw:=hEw4) hT94 38 vF (zaS (((zb1 n ((t.getD (num n l+j) Un.zero).nd):Nat):Int) !=((0:Nat):Int)) (zcb)) (ze (hw:=hEw4) hT94 [(39,46,vF)] 1 (zB (zc (zf (zl (zc (wsr (zb 1 [(2,(vI 0))] ?_))))))))
    refine zF (zh (vI 0) ?_)
    have hX1:Ext w w4:=(((hEw1.trans hEw2).trans hEw3).trans hEw4)
    exact ⟨congrArg (fun z:Nat=>vI z) (if_neg (ziT hf14 hf35 hf45)).symm,hX1⟩
   ·refine zr (hw:=hEw4) hT94 38 vT (zaS (((zb1 n ((t.getD (num n l+j) Un.zero).nd):Nat):Int) !=((0:Nat):Int)) (zd1)) (ze (hw:=hEw4) hT94 [(39,46,vT)] 1 (zB (zc (zk (wsr (zb 1 [(2,(vI 17))] (wEt ?_)))))))
    refine zaH (zj (zh (vI 17) ?_))
    have hX2:Ext w w4:=(((hEw1.trans hEw2).trans hEw3).trans hEw4)
    exact ⟨congrArg (fun z:Nat=>vI z) (if_pos (show zb9 n (t.getD (num n l+j) Un.zero).nd l j from fun hh=>hf45 hh.2.2)).symm,hX2⟩
  ·refine zr hT94 28 vT (zaS (((((t.getD (num n l+j) Un.zero).nd).ix:Nat):Int) !=((j:Nat):Int)) (zd1)) (ze hT94 [(29,36,vT),(30,37,vT),(31,38,undef),(32,39,undef),(33,40,undef),(34,41,undef),(35,42,undef),(36,43,undef),(37,44,undef),(38,45,undef),(39,46,vT)] 11 (zB (zc (zk (wsr (zb 1 [(2,(vI 17))] (wEt ?_)))))))
   exact zaH (zj (zh (vI 17) (⟨congrArg (fun z:Nat=>vI z) (if_pos (show zb9 n (t.getD (num n l+j) Un.zero).nd l j from fun hh=>hf35 hh.2.1)).symm,((hEw1.trans hEw2).trans hEw3)⟩)))
 ·refine zr hT94 7 vT (zaS (((((t.getD (num n l+j) Un.zero).nd).lv:Nat):Int) !=((l:Nat):Int)) (zd1)) (ze hT94 [(8,15,vT),(9,16,undef),(10,17,undef),(11,18,undef),(12,19,undef),(13,20,undef),(14,21,undef),(15,22,undef),(16,23,undef),(17,24,undef),(18,25,undef),(19,26,undef),(20,27,undef),(21,28,undef),(22,29,undef),(23,30,undef),(24,31,undef),(25,32,undef),(26,33,undef),(27,34,undef),(28,35,undef),(29,36,vT),(30,37,vT),(31,38,undef),(32,39,undef),(33,40,undef),(34,41,undef),(35,42,undef),(36,43,undef),(37,44,undef),(38,45,undef),(39,46,vT)] 32 (zB (zc (zk (wsr (zb 1 [(2,(vI 17))] (wEt ?_)))))))
  exact zaH (zj (zh (vI 17) (⟨congrArg (fun z:Nat=>vI z) (if_pos (show zb9 n (t.getD (num n l+j) Un.zero).nd l j from fun hh=>hf14 hh.1)).symm,((hEw1.trans hEw2).trans hEw3)⟩)))
end Go.Proofs.YtkmhgepdhilllaaGreatDoor
namespace Go.Proofs.YtkmhgepdhilllaaGreatDoor
open Go Go.RowKit Go.Cs
set_option maxRecDepth 100000
theorem ztP (b n l j:Nat) {lo_c hi_c lo_f hi_f lo_t hi_t n_c c_c n_f c_f n_t c_t:Nat} {a_c a_f a_t:Option Addr} {c f:List Nat} {t:List Un} (w:World) (hX:Blk w b [(.slice a_c n_c c_c),(.slice a_f n_f c_f),(vI n),(.slice a_t n_t c_t),(vI (num n l+j)),(vI l)] 146) (h_c:Es (nv .i64) lo_c hi_c w a_c n_c c_c c) (h_f:Es (nv .i64) lo_f hi_f w a_f n_f c_f f) (h_t:Ms unC 280 lo_t hi_t w a_t n_t c_t t) (hp0:c=za9 n (hgt n+1)) (hp1:f=zbk n (hgt n+1)) (hp2:1≤n) (hp3:n≤4096) (hp4:n_t=tot n) (hp5:l≤hgt n) (hp6:j<cnt n l) (hp7:l=0):
  Calls Tryz.prog 81 #[(vP b 0)] w (Ret fun r w'=>r=(vI (zeW n t l j))∧Ext w w'):=by
 refine zw (n:=59) (σ:= [(0,(vP b 0))]) Tryz.func81 rfl ?_
 replace h_c:=h_c.now;replace h_f:=h_f.now;replace h_t:=h_t.now
 have hbl:=hX.lt
 have hle1:=h_c.le;have hle2:=h_f.le
 have hlc:=h_c.len_eq;rw [hp0,zck] at hlc
 have hlf:=h_f.len_eq;rw [hp1,zcC] at hlf
 have hlt:=h_t.len_eq
 have hlet:=h_t.le
 have h5:=zam n
 have hts:=zau hp3
 have hpl:=zaL (n:=n) (l:=l) (j:=j) hp5 hp6
 have hcn:=zbl n l
 have hgf:gt f l=num n l:=by rw [hp1];exact zcM (by omega)
 refine wsr (zb 1 [(2,(vI 0))] (zz (zb 1 [(9,(vP b 0))] (za (zt (ziw b n l j _ hX h_c h_f h_t (by first | rfl | assumption) (by first | rfl | assumption) (by first | omega | decide) (by first | omega | decide) (by first | omega | decide) (by first | omega | decide) (by first | omega | decide)) ?_)))))
 rintro _ w1 ⟨rfl,hEw1⟩
 have hzw1:=hEw1.size
 refine zal (unC (t.getD (num n l+j) Un.zero)) 77 (zI _) (za7 _) ?_
 intro w2 hBw2 hEw2 hzw2 hlw2
 refine zz (zb 1 [(4,vF)] (zM ?_))
 refine zb 3 [(13,(vP b 5)),(12,(vP b 0)),(11,(vP b 0))] (za (zm b 5 (((hX.ext hEw1).ext hEw2).cell rfl) ?_))
 refine za (zdI 15 l 0 ?_)
 refine wEt (zk (wsr (zb 1 [(16,(vP w1.heap.size 276))] (za (zaN (Instr.loadAt 75 (vP w1.heap.size 276)) (vA (blC (t.getD (num n l+j) Un.zero).ch)) (zfZ (vs:=blC (t.getD (num n l+j) Un.zero).ch) (hBw2.at 276 (blC (t.getD (num n l+j) Un.zero).ch) (zls _)) (by rw [ziv,Un.hch];kernel_rfl)) ?_)))))
 refine zb 1 [(18,(vI 0))] (wEt (zp (zU (X:=Nat×Bool) (fun ⟨k,d⟩=> [(4,(.bool d)),(18,(vI k))]) [2,5,6,19,20,21,22,23,24,25,26,27,28,29,30,31,32,33,34,35,36] (fun ⟨k,d⟩ w3=>k≤4∧d=(List.range k).any (t.getD (num n l+j) Un.zero).g∧(∀i,i<k→(t.getD (num n l+j) Un.zero).g i=true→((t.getD (num n l+j) Un.zero).nd.rs.get i).st≠0)∧Ext w2 w3) (fun ⟨k,d⟩=>4-k) (0,false) (by kernel_rfl) ⟨by omega,rfl,fun i h=>absurd h (Nat.not_lt_zero _),Ext.refl _⟩ ?_)))
 rintro ⟨k,d⟩ dw3 w3 ⟨hk,hd,hmk,hEl⟩
 have hzl:=hEl.size
 refine wsr (za (zag 19 k 4 (fun hc19=> ?_) (fun hc19=> ?_)))
 ·refine wEt (zd (zk (zl (zc (zd (zp (wsr ?_)))))))
  refine zb 1 [(20,(vI k))] ?_
  rcases Bool.eq_false_or_eq_true (((t.getD (num n l+j) Un.zero).ch).getD k false) with hb21 | hb21
  ·refine za (zaN (Instr.index 75 (vA (blC (t.getD (num n l+j) Un.zero).ch)) (vI k)) vT (zix (E:=4) (m:=4) (by omega) ((zlp (by first | rfl | exact Un.hch _) (by omega)).trans (congrArg (fun z=>some (Value.bool z)) hb21))) ?_)
   refine zb 2 [(6,vT),(5,(vI k))] (zM (zb 5 [(26,(vP w1.heap.size 2)),(25,(vP w1.heap.size 0)),(24,(vI k)),(23,vT),(22,vT)] (za (zaW w1.heap.size 2 k 4 35 ?_))))
   refine zb 1 [(28,(vP w1.heap.size (2+k*35)))] (za (zm w1.heap.size (2+k*35) ((hBw2.ext hEl).cell (zhJ (by omega))) ?_))
   refine za (zaI 30 (((t.getD (num n l+j) Un.zero).nd.rs.get k).st) 0 (fun hc30=> ?_) (fun hc30=> ?_))
   ·refine zb 1 [(31,vT)] (wEt (zk (wsr (zb 1 [(2,(vI 9))] (zF ?_)))))
    exact zj (zu (zj (zj (zu (zj (zh (vI 9) (⟨congrArg (fun z:Nat=>vI z) ((if_neg (fun hh=>(zdR.1 (show zeY (t.getD (num n l+j) Un.zero) l=true from hh.1) k (by omega) hb21).2 hc30)).symm),((hEw1.trans hEw2).trans hEl)⟩)))))))
   ·refine zb 1 [(31,vF)] (wEt (zf (zl (zc (zg ?_)))))
    rcases Bool.eq_false_or_eq_true (d) with hb32 | hb32
    ·rw [hb32]
     refine zb 5 [(4,vT),(35,vT),(34,undef),(33,vT),(32,vT)] (zq (zi (zc (zg (za (zJ 36 k 1 (k+1) ?_))))))
     refine zb 1 [(18,(vI (k+1)))] (zq (zn (zG (k+1,true) ?_ ?_)))
     ·exact ⟨by omega,by rw [zcP,←hd,show d=true from hb32,show (t.getD (num n l+j) Un.zero).g k=true from hb21];rfl,fun i hi hg=>by rcases Nat.lt_succ_iff_lt_or_eq.1 hi with h1 | rfl;exact hmk i h1 hg;exact hc30,hEl⟩
     ·first | omega |(dsimp only;omega)
    ·rw [hb32]
     refine zb 5 [(4,vT),(35,vT),(34,vT),(33,vF),(32,vF)] (zq (zi (zc (zg (za (zJ 36 k 1 (k+1) ?_))))))
     refine zb 1 [(18,(vI (k+1)))] (zq (zn (zG (k+1,true) ?_ ?_)))
     ·exact ⟨by omega,by rw [zcP,←hd,show d=false from hb32,show (t.getD (num n l+j) Un.zero).g k=true from hb21];rfl,fun i hi hg=>by rcases Nat.lt_succ_iff_lt_or_eq.1 hi with h1 | rfl;exact hmk i h1 hg;exact hc30,hEl⟩
     ·first | omega |(dsimp only;omega)
  ·refine za (zaN (Instr.index 75 (vA (blC (t.getD (num n l+j) Un.zero).ch)) (vI k)) vF (zix (E:=4) (m:=4) (by omega) ((zlp (by first | rfl | exact Un.hch _) (by omega)).trans (congrArg (fun z=>some (Value.bool z)) hb21))) ?_)
   refine zb 2 [(6,vF),(5,(vI k))] (zM (zb 10 [(31,vF),(30,undef),(29,undef),(28,undef),(27,undef),(26,undef),(25,undef),(24,undef),(23,vF),(22,vF)] (wEt (zf ?_))))
   refine zl (zc (zg ?_))
   rcases Bool.eq_false_or_eq_true (d) with hb32 | hb32
   ·rw [hb32]
    refine zb 5 [(4,vT),(35,vT),(34,undef),(33,vT),(32,vT)] (zq (zi (zc (zg (za (zJ 36 k 1 (k+1) ?_))))))
    refine zb 1 [(18,(vI (k+1)))] (zq (zn (zG (k+1,true) ?_ ?_)))
    ·exact ⟨by omega,by rw [zcP,←hd,show d=true from hb32,show (t.getD (num n l+j) Un.zero).g k=false from hb21];rfl,fun i hi hg=>by rcases Nat.lt_succ_iff_lt_or_eq.1 hi with h1 | rfl;exact hmk i h1 hg;exact absurd (hb21.symm.trans hg) (by decide),hEl⟩
    ·first | omega |(dsimp only;omega)
   ·rw [hb32]
    refine zb 5 [(4,vF),(35,vF),(34,vF),(33,vF),(32,vF)] (zq (zi (zc (zg (za (zJ 36 k 1 (k+1) ?_))))))
    refine zb 1 [(18,(vI (k+1)))] (zq (zn (zG (k+1,false) ?_ ?_)))
    ·exact ⟨by omega,by rw [zcP,←hd,show d=false from hb32,show (t.getD (num n l+j) Un.zero).g k=false from hb21];rfl,fun i hi hg=>by rcases Nat.lt_succ_iff_lt_or_eq.1 hi with h1 | rfl;exact hmk i h1 hg;exact absurd (hb21.symm.trans hg) (by decide),hEl⟩
    ·first | omega |(dsimp only;omega)
 ·obtain rfl:k=4:=by omega
  have hdir:d=zcW n t l j:=by rw [hd];unfold zcW;rw [if_pos hp7];rfl
  have hmrk:zeY (t.getD (num n l+j) Un.zero) l=true:=zdR.2 fun w hw hg=>⟨hp7,hmk w hw hg⟩
  refine wEt (zd (zf (zP (zo (zo (zD (zc (zd ?_))))))))
  refine wsr (zb 1 [(55,(vP w1.heap.size 275))] (za (zm w1.heap.size 275 ((hBw2.ext hEl).cell (zdc _)) ?_)))
  refine zb 1 [(57,(.bool d))] ?_
  rcases Classical.em ((t.getD (num n l+j) Un.zero).dt=d) with hq58 | hq58
  ·refine za (zbn (some 58) (!((t.getD (num n l+j) Un.zero).dt==d)) false (bnF hq58) ?_)
   refine wEt (zf (zl (zc (wsr (zb 1 [(2,(vI 0))] (wEt ?_))))))
   exact zaH (zh (vI 0) (⟨congrArg (fun z:Nat=>vI z) ((if_pos ⟨hmrk,hq58.trans hdir⟩).symm),((hEw1.trans hEw2).trans hEl)⟩))
  ·refine za (zbn (some 58) (!((t.getD (num n l+j) Un.zero).dt==d)) true (bnT hq58) ?_)
   refine wEt (zk (wsr (zb 1 [(2,(vI 9))] (zF (zj ?_)))))
   exact zh (vI 9) (⟨congrArg (fun z:Nat=>vI z) ((if_neg (fun hh=>hq58 ((show (t.getD (num n l+j) Un.zero).dt=_ from hh.2).trans hdir.symm))).symm),((hEw1.trans hEw2).trans hEl)⟩)
theorem zs7 (b n l j:Nat) {lo_c hi_c lo_f hi_f lo_t hi_t n_c c_c n_f c_f n_t c_t:Nat} {a_c a_f a_t:Option Addr} {c f:List Nat} {t:List Un} (w:World) (hX:Blk w b [(.slice a_c n_c c_c),(.slice a_f n_f c_f),(vI n),(.slice a_t n_t c_t),(vI (num n l+j)),(vI l)] 146) (h_c:Es (nv .i64) lo_c hi_c w a_c n_c c_c c) (h_f:Es (nv .i64) lo_f hi_f w a_f n_f c_f f) (h_t:Ms unC 280 lo_t hi_t w a_t n_t c_t t) (hp0:c=za9 n (hgt n+1)) (hp1:f=zbk n (hgt n+1)) (hp2:1≤n) (hp3:n≤4096) (hp4:n_t=tot n) (hp5:l≤hgt n) (hp6:j<cnt n l) (hp7:l≠0):
  Calls Tryz.prog 81 #[(vP b 0)] w (Ret fun r w'=>r=(vI (zeW n t l j))∧Ext w w'):=by
 refine zw (n:=59) (σ:= [(0,(vP b 0))]) Tryz.func81 rfl ?_
 replace h_c:=h_c.now;replace h_f:=h_f.now;replace h_t:=h_t.now
 have hbl:=hX.lt
 have hle1:=h_c.le;have hle2:=h_f.le
 have hlc:=h_c.len_eq;rw [hp0,zck] at hlc
 have hlf:=h_f.len_eq;rw [hp1,zcC] at hlf
 have hlt:=h_t.len_eq
 have hlet:=h_t.le
 have h5:=zam n
 have hts:=zau hp3
 have hpl:=zaL (n:=n) (l:=l) (j:=j) hp5 hp6
 have hcn:=zbl n l
 have hgf:gt f l=num n l:=by rw [hp1];exact zcM (by omega)
 have hch:=zks (n:=n) (l:=l) (j:=j) (t:=t) (by omega) hp7 hp5 hp6
 have hpm:=ziE hp7 hp6
 have hcm:=zbl n (l-1)
 have hns:=zbN (n:=n) (l:=l-1) hp3 (by omega)
 have hpq:=zaL (n:=n) (l:=l-1) (j:=min (4*j+4) (cnt n (l-1))-1) (by omega) (by omega)
 refine wsr (zb 1 [(2,(vI 0))] (zz (zb 1 [(9,(vP b 0))] (za (zt (ziw b n l j _ hX h_c h_f h_t (by first | rfl | assumption) (by first | rfl | assumption) (by first | omega | decide) (by first | omega | decide) (by first | omega | decide) (by first | omega | decide) (by first | omega | decide)) ?_)))))
 rintro _ w1 ⟨rfl,hEw1⟩
 have hzw1:=hEw1.size
 refine zal (unC (t.getD (num n l+j) Un.zero)) 77 (zI _) (za7 _) ?_
 intro w2 hBw2 hEw2 hzw2 hlw2
 refine zz (zb 1 [(4,vF)] (zM ?_))
 refine zb 3 [(13,(vP b 5)),(12,(vP b 0)),(11,(vP b 0))] (za (zm b 5 (((hX.ext hEw1).ext hEw2).cell rfl) ?_))
 refine za (zdv 15 l 0 ?_)
 refine wEt (zf (wsr (zb 1 [(38,(vP b 0))] (za (zt (zsg b n l j _ ((hX.ext hEw1).ext hEw2) ((h_c.ext hEw1).ext hEw2) ((h_f.ext hEw1).ext hEw2) ((h_t.ext hEw1).ext hEw2) (by first | rfl | assumption) (by first | rfl | assumption) (by first | omega | decide) (by first | omega | decide) (by first | omega | decide) (by first | omega | decide) (by first | omega | decide) (by first | omega | decide)) ?_)))))
 rintro _ w3 ⟨rfl,hEw3⟩
 have hzw3:=hEw3.size
 refine zb 5 [(8,(vI (min (4*j+4) (cnt n (l-1))+num n (l-1)))),(7,(vI (4*j+num n (l-1)))),(41,(vI (min (4*j+4) (cnt n (l-1))+num n (l-1)))),(40,(vI (4*j+num n (l-1)))),(37,(.tuple #[(vI (4*j+num n (l-1))),(vI (min (4*j+4) (cnt n (l-1))+num n (l-1)))]))] (zz (zb 4 [(45,(vP b 3)),(44,(vP b 2)),(43,(vP b 0)),(42,(vP b 0))] ?_))
 have hK1:=(((hX.ext hEw1).ext hEw2).ext hEw3)
 refine za (zm b 3 (hK1.cell rfl) ?_)
 refine zb 2 [(48,(vI (min (4*j+4) (cnt n (l-1))+num n (l-1)))),(47,(vI (4*j+num n (l-1))))] ?_
 have hK2:=(((h_t.ext hEw1).ext hEw2).ext hEw3)
 obtain ⟨a1,hR1,hS1⟩:=hK2.slice Tryz.prog 36 77 (4*j+num n (l-1)) (min (4*j+4) (cnt n (l-1))+num n (l-1)) c_t (some (vI (4*j+num n (l-1)))) (some (vI (min (4*j+4) (cnt n (l-1))+num n (l-1)))) none
 refine za (zaN (Instr.sliceAt 36 (.slice a_t n_t c_t) (some (vI (4*j+num n (l-1)))) (some (vI (min (4*j+4) (cnt n (l-1))+num n (l-1)))) none) (.slice a1 (min (4*j+4) (cnt n (l-1))+num n (l-1)-(4*j+num n (l-1))) (c_t-(4*j+num n (l-1)))) (hR1 _) ?_)
 rcases Classical.em (∀i,i<List.length ((t.drop (4*j+num n (l-1))).take (min (4*j+4) (cnt n (l-1))+num n (l-1)-(4*j+num n (l-1))))→(((t.drop (4*j+num n (l-1))).take (min (4*j+4) (cnt n (l-1))+num n (l-1)-(4*j+num n (l-1)))).getD i Un.zero).dt=false) with hq50 | hq50
 ·refine za (zt (zsD _ hS1 (hq50)) ?_)
  rintro _ w4 ⟨rfl,hEw4⟩
  have hzw4:=hEw4.size
  refine zb 1 [(4,vF)] (zz (zb 1 [(51,(vP w1.heap.size 276))] (za (zaN (Instr.loadAt 75 (vP w1.heap.size 276)) (vA (blC (t.getD (num n l+j) Un.zero).ch)) (zfZ (vs:=blC (t.getD (num n l+j) Un.zero).ch) (((hBw2.ext hEw3).ext hEw4).at 276 (blC (t.getD (num n l+j) Un.zero).ch) (zls _)) (by rw [ziv,Un.hch];kernel_rfl)) ?_))))
  refine zb 1 [(53,(vA (blC (List.replicate 4 false))))] ?_
  rcases Classical.em ((t.getD (num n l+j) Un.zero).ch=List.replicate 4 false) with hq54 | hq54
  ·refine za (zaN (bo .neq 75 (.tmp 52) (.tmp 53) (vA (blC (t.getD (num n l+j) Un.zero).ch)) (vA (blC (List.replicate 4 false)))) vF (zaj (r:=true) (T:=75) ((zeq (dd:=9998) (t:=75) (e:=4) ((t.getD (num n l+j) Un.zero).ch) (List.replicate 4 false) (by first | rfl | exact Un.hch _) (by first | rfl | exact Un.hch _)).trans (congrArg (fun b=>Result.ok b _) (show (eqL false (fun a b:Bool=>a==b) 4 ((t.getD (num n l+j) Un.zero).ch) (List.replicate 4 false))=true from (zoJ (Un.hch _) rfl).2 hq54)))) ?_)
   refine wEt (zf (zl (zc (zd (wsr (zb 1 [(55,(vP w1.heap.size 275))] (za (zm w1.heap.size 275 (((hBw2.ext hEw3).ext hEw4).cell (zdc _)) ?_))))))))
   refine zb 1 [(57,vF)] ?_
   rcases Classical.em ((t.getD (num n l+j) Un.zero).dt=false) with hq58 | hq58
   ·refine za (zbn (some 58) (!((t.getD (num n l+j) Un.zero).dt==false)) false (bnF hq58) ?_)
    refine wEt (zf (zl (zc (wsr (zb 1 [(2,(vI 0))] (wEt ?_))))))
    refine zaH (zh (vI 0) ?_)
    have hX1:Ext w w4:=(((hEw1.trans hEw2).trans hEw3).trans hEw4)
    have hdv:zcW n t l j=false:=(zhz (by omega) hp7 hp5 hp6).2 hq50
    exact ⟨congrArg (fun z:Nat=>vI z) ((if_pos ⟨(zjD hp7).2 hq54,(show (t.getD (num n l+j) Un.zero).dt=_ from hq58).trans hdv.symm⟩).symm),hX1⟩
   ·refine za (zbn (some 58) (!((t.getD (num n l+j) Un.zero).dt==false)) true (bnT hq58) ?_)
    refine wEt (zk (wsr (zb 1 [(2,(vI 9))] (zF (zj ?_)))))
    refine zh (vI 9) ?_
    have hX2:Ext w w4:=(((hEw1.trans hEw2).trans hEw3).trans hEw4)
    have hdv:zcW n t l j=false:=(zhz (by omega) hp7 hp5 hp6).2 hq50
    exact ⟨congrArg (fun z:Nat=>vI z) ((if_neg (fun hh=>hq58 ((show (t.getD (num n l+j) Un.zero).dt=_ from hh.2).trans hdv))).symm),hX2⟩
  ·refine za (zaN (bo .neq 75 (.tmp 52) (.tmp 53) (vA (blC (t.getD (num n l+j) Un.zero).ch)) (vA (blC (List.replicate 4 false)))) vT (zaj (r:=false) (T:=75) ((zeq (dd:=9998) (t:=75) (e:=4) ((t.getD (num n l+j) Un.zero).ch) (List.replicate 4 false) (by first | rfl | exact Un.hch _) (by first | rfl | exact Un.hch _)).trans (congrArg (fun b=>Result.ok b _) (show (eqL false (fun a b:Bool=>a==b) 4 ((t.getD (num n l+j) Un.zero).ch) (List.replicate 4 false))=false from zsj (Un.hch _) rfl hq54)))) ?_)
   refine wEt (zk (wsr (zb 1 [(2,(vI 9))] (zF (zj ?_)))))
   refine zh (vI 9) ?_
   have hX3:Ext w w4:=(((hEw1.trans hEw2).trans hEw3).trans hEw4)
   exact ⟨congrArg (fun z:Nat=>vI z) ((if_neg (fun hh=>hq54 ((zjD hp7).1 hh.1))).symm),hX3⟩
 ·refine za (zt (zup _ hS1 (hq50)) ?_)
  rintro _ w5 ⟨rfl,hEw5⟩
  have hzw5:=hEw5.size
  refine zb 1 [(4,vT)] (zz (zb 1 [(51,(vP w1.heap.size 276))] (za (zaN (Instr.loadAt 75 (vP w1.heap.size 276)) (vA (blC (t.getD (num n l+j) Un.zero).ch)) (zfZ (vs:=blC (t.getD (num n l+j) Un.zero).ch) (((hBw2.ext hEw3).ext hEw5).at 276 (blC (t.getD (num n l+j) Un.zero).ch) (zls _)) (by rw [ziv,Un.hch];kernel_rfl)) ?_))))
  refine zb 1 [(53,(vA (blC (List.replicate 4 false))))] ?_
  rcases Classical.em ((t.getD (num n l+j) Un.zero).ch=List.replicate 4 false) with hq54 | hq54
  ·refine za (zaN (bo .neq 75 (.tmp 52) (.tmp 53) (vA (blC (t.getD (num n l+j) Un.zero).ch)) (vA (blC (List.replicate 4 false)))) vF (zaj (r:=true) (T:=75) ((zeq (dd:=9998) (t:=75) (e:=4) ((t.getD (num n l+j) Un.zero).ch) (List.replicate 4 false) (by first | rfl | exact Un.hch _) (by first | rfl | exact Un.hch _)).trans (congrArg (fun b=>Result.ok b _) (show (eqL false (fun a b:Bool=>a==b) 4 ((t.getD (num n l+j) Un.zero).ch) (List.replicate 4 false))=true from (zoJ (Un.hch _) rfl).2 hq54)))) ?_)
   refine wEt (zf (zl (zc (zd (wsr (zb 1 [(55,(vP w1.heap.size 275))] (za (zm w1.heap.size 275 (((hBw2.ext hEw3).ext hEw5).cell (zdc _)) ?_))))))))
   refine zb 1 [(57,vT)] ?_
   rcases Classical.em ((t.getD (num n l+j) Un.zero).dt=true) with hq58 | hq58
   ·refine za (zbn (some 58) (!((t.getD (num n l+j) Un.zero).dt==true)) false (bnF hq58) ?_)
    refine wEt (zf (zl (zc (wsr (zb 1 [(2,(vI 0))] (wEt ?_))))))
    refine zaH (zh (vI 0) ?_)
    have hX4:Ext w w5:=(((hEw1.trans hEw2).trans hEw3).trans hEw5)
    have hdv:zcW n t l j=true:=by cases hd:zcW n t l j with | true=>rfl | false=>exact absurd ((zhz (by omega) hp7 hp5 hp6).1 hd) hq50
    exact ⟨congrArg (fun z:Nat=>vI z) ((if_pos ⟨(zjD hp7).2 hq54,(show (t.getD (num n l+j) Un.zero).dt=_ from hq58).trans hdv.symm⟩).symm),hX4⟩
   ·refine za (zbn (some 58) (!((t.getD (num n l+j) Un.zero).dt==true)) true (bnT hq58) ?_)
    refine wEt (zk (wsr (zb 1 [(2,(vI 9))] (zF (zj ?_)))))
    refine zh (vI 9) ?_
    have hX5:Ext w w5:=(((hEw1.trans hEw2).trans hEw3).trans hEw5)
    have hdv:zcW n t l j=true:=by cases hd:zcW n t l j with | true=>rfl | false=>exact absurd ((zhz (by omega) hp7 hp5 hp6).1 hd) hq50
    exact ⟨congrArg (fun z:Nat=>vI z) ((if_neg (fun hh=>hq58 ((show (t.getD (num n l+j) Un.zero).dt=_ from hh.2).trans hdv))).symm),hX5⟩
  ·refine za (zaN (bo .neq 75 (.tmp 52) (.tmp 53) (vA (blC (t.getD (num n l+j) Un.zero).ch)) (vA (blC (List.replicate 4 false)))) vT (zaj (r:=false) (T:=75) ((zeq (dd:=9998) (t:=75) (e:=4) ((t.getD (num n l+j) Un.zero).ch) (List.replicate 4 false) (by first | rfl | exact Un.hch _) (by first | rfl | exact Un.hch _)).trans (congrArg (fun b=>Result.ok b _) (show (eqL false (fun a b:Bool=>a==b) 4 ((t.getD (num n l+j) Un.zero).ch) (List.replicate 4 false))=false from zsj (Un.hch _) rfl hq54)))) ?_)
   refine wEt (zk (wsr (zb 1 [(2,(vI 9))] (zF (zj ?_)))))
   refine zh (vI 9) ?_
   have hX6:Ext w w5:=(((hEw1.trans hEw2).trans hEw3).trans hEw5)
   exact ⟨congrArg (fun z:Nat=>vI z) ((if_neg (fun hh=>hq54 ((zjD hp7).1 hh.1))).symm),hX6⟩
theorem zvO (b n l j:Nat) {lo_c hi_c lo_f hi_f lo_t hi_t n_c c_c n_f c_f n_t c_t:Nat} {a_c a_f a_t:Option Addr} {c f:List Nat} {t:List Un} (w:World) (hX:Blk w b [(.slice a_c n_c c_c),(.slice a_f n_f c_f),(vI n),(.slice a_t n_t c_t),(vI (num n l+j)),(vI l)] 146) (h_c:Es (nv .i64) lo_c hi_c w a_c n_c c_c c) (h_f:Es (nv .i64) lo_f hi_f w a_f n_f c_f f) (h_t:Ms unC 280 lo_t hi_t w a_t n_t c_t t) (hp0:c=za9 n (hgt n+1)) (hp1:f=zbk n (hgt n+1)) (hp2:1≤n) (hp3:n≤4096) (hp4:n_t=tot n) (hp5:l≤hgt n) (hp6:j<cnt n l):
  Calls Tryz.prog 81 #[(vP b 0)] w (Ret fun r w'=>r=(vI (zeW n t l j))∧Ext w w'):=by
 by_cases h:l=0
 ·exact ztP b n l j w hX h_c h_f h_t hp0 hp1 hp2 hp3 hp4 hp5 hp6 h
 ·exact zs7 b n l j w hX h_c h_f h_t hp0 hp1 hp2 hp3 hp4 hp5 hp6 h
theorem ztB (b n l j:Nat) {lo_c hi_c lo_f hi_f lo_t hi_t n_c c_c n_f c_f n_t c_t:Nat} {a_c a_f a_t:Option Addr} {c f:List Nat} {t:List Un} (w:World) (hX:Blk w b [(.slice a_c n_c c_c),(.slice a_f n_f c_f),(vI n),(.slice a_t n_t c_t),(vI (num n l+j)),(vI l)] 146) (h_c:Es (nv .i64) lo_c hi_c w a_c n_c c_c c) (h_f:Es (nv .i64) lo_f hi_f w a_f n_f c_f f) (h_t:Ms unC 280 lo_t hi_t w a_t n_t c_t t) (hp0:c=za9 n (hgt n+1)) (hp1:f=zbk n (hgt n+1)) (hp2:1≤n) (hp3:n≤4096) (hp4:n_t=tot n) (hp5:l≤hgt n) (hp6:j<cnt n l) (hp7:l=0):
  Calls Tryz.prog 82 #[(vP b 0)] w (Ret fun r w'=>r=(vI (zfh n t l j))∧Ext w w'):=by
 refine zw (n:=41) (σ:= [(0,(vP b 0))]) Tryz.func82 rfl ?_
 replace h_c:=h_c.now;replace h_f:=h_f.now;replace h_t:=h_t.now
 have hbl:=hX.lt
 have hle1:=h_c.le;have hle2:=h_f.le
 have hlc:=h_c.len_eq;rw [hp0,zck] at hlc
 have hlf:=h_f.len_eq;rw [hp1,zcC] at hlf
 have hlt:=h_t.len_eq
 have hlet:=h_t.le
 have h5:=zam n
 have hts:=zau hp3
 have hpl:=zaL (n:=n) (l:=l) (j:=j) hp5 hp6
 have hcn:=zbl n l
 have hgf:gt f l=num n l:=by rw [hp1];exact zcM (by omega)
 refine wsr (zb 1 [(2,(vI 0))] (zM (zb 3 [(9,(vP b 5)),(8,(vP b 0)),(7,(vP b 0))] (za (zm b 5 (hX.cell rfl) ?_)))))
 refine za (zdI 11 l 0 ?_)
 refine wEt (zk (wsr (zb 1 [(2,(vI 0))] (zF (zj ?_)))))
 exact zh (vI 0) (⟨congrArg (fun z:Nat=>vI z) ((if_pos (zb4.2 (.inl hp7))).symm),(Ext.refl _)⟩)
theorem ztb (b n l j:Nat) {lo_c hi_c lo_f hi_f lo_t hi_t n_c c_c n_f c_f n_t c_t:Nat} {a_c a_f a_t:Option Addr} {c f:List Nat} {t:List Un} (w:World) (hX:Blk w b [(.slice a_c n_c c_c),(.slice a_f n_f c_f),(vI n),(.slice a_t n_t c_t),(vI (num n l+j)),(vI l)] 146) (h_c:Es (nv .i64) lo_c hi_c w a_c n_c c_c c) (h_f:Es (nv .i64) lo_f hi_f w a_f n_f c_f f) (h_t:Ms unC 280 lo_t hi_t w a_t n_t c_t t) (hp0:c=za9 n (hgt n+1)) (hp1:f=zbk n (hgt n+1)) (hp2:1≤n) (hp3:n≤4096) (hp4:n_t=tot n) (hp5:l≤hgt n) (hp6:j<cnt n l) (hp7:l≠0) (hp8:∀w,w<prt n l j→((t.getD (num n (l-1)+(4*j+w)) Un.zero).sl=0∨(t.getD (num n (l-1)+(4*j+w)) Un.zero).sl=1)∧zaz (t.getD (num n (l-1)+(4*j+w)) Un.zero).nd=0) (hg0:Gl 0 [vI 45,vI 33] w) (hg1:Gl 1 (w8C zaV) w) (hg2:Gl 3 (zas kA) w):
  Calls Tryz.prog 82 #[(vP b 0)] w (Ret fun r w'=>r=(vI (zfh n t l j))∧Ext w w'):=by
 refine zw (n:=41) (σ:= [(0,(vP b 0))]) Tryz.func82 rfl ?_
 have hgl0:=hg0.lt
 have hgl1:=hg1.lt
 have hgl2:=hg2.lt
 replace h_c:=h_c.now;replace h_f:=h_f.now;replace h_t:=h_t.now
 have hbl:=hX.lt
 have hle1:=h_c.le;have hle2:=h_f.le
 have hlc:=h_c.len_eq;rw [hp0,zck] at hlc
 have hlf:=h_f.len_eq;rw [hp1,zcC] at hlf
 have hlt:=h_t.len_eq
 have hlet:=h_t.le
 have h5:=zam n
 have hts:=zau hp3
 have hpl:=zaL (n:=n) (l:=l) (j:=j) hp5 hp6
 have hcn:=zbl n l
 have hgf:gt f l=num n l:=by rw [hp1];exact zcM (by omega)
 have hch:=zks (n:=n) (l:=l) (j:=j) (t:=t) (by omega) hp7 hp5 hp6
 have hpm:=ziE hp7 hp6
 have hcm:=zbl n (l-1)
 have hns:=zbN (n:=n) (l:=l-1) hp3 (by omega)
 have hpq:=zaL (n:=n) (l:=l-1) (j:=min (4*j+4) (cnt n (l-1))-1) (by omega) (by omega)
 refine wsr (zb 1 [(2,(vI 0))] (zM (zb 3 [(9,(vP b 5)),(8,(vP b 0)),(7,(vP b 0))] (za (zm b 5 (hX.cell rfl) ?_)))))
 refine za (zdv 11 l 0 ?_)
 refine wEt (zf (zl (zc (wsr (zb 1 [(13,(vP b 0))] (za (zt (zsg b n l j _ hX h_c h_f h_t (by first | rfl | assumption) (by first | rfl | assumption) (by first | omega | decide) (by first | omega | decide) (by first | omega | decide) (by first | omega | decide) (by first | omega | decide) (by first | omega | decide)) ?_)))))))
 rintro _ w1 ⟨rfl,hEw1⟩
 have hzw1:=hEw1.size
 refine zb 5 [(4,(vI (min (4*j+4) (cnt n (l-1))+num n (l-1)))),(3,(vI (4*j+num n (l-1)))),(16,(vI (min (4*j+4) (cnt n (l-1))+num n (l-1)))),(15,(vI (4*j+num n (l-1)))),(12,(.tuple #[(vI (4*j+num n (l-1))),(vI (min (4*j+4) (cnt n (l-1))+num n (l-1)))]))] (zM (zb 4 [(20,(vP b 3)),(19,(vP b 2)),(18,(vP b 0)),(17,(vP b 0))] (za (zm b 3 ((hX.ext hEw1).cell rfl) ?_))))
 refine zb 2 [(23,(vI (min (4*j+4) (cnt n (l-1))+num n (l-1)))),(22,(vI (4*j+num n (l-1))))] ?_
 obtain ⟨a1,hR1,hS1⟩:=(h_t.ext hEw1).slice Tryz.prog 36 77 (4*j+num n (l-1)) (min (4*j+4) (cnt n (l-1))+num n (l-1)) c_t (some (vI (4*j+num n (l-1)))) (some (vI (min (4*j+4) (cnt n (l-1))+num n (l-1)))) none
 refine za (zaN (Instr.sliceAt 36 (.slice a_t n_t c_t) (some (vI (4*j+num n (l-1)))) (some (vI (min (4*j+4) (cnt n (l-1))+num n (l-1)))) none) (.slice a1 (min (4*j+4) (cnt n (l-1))+num n (l-1)-(4*j+num n (l-1))) (c_t-(4*j+num n (l-1)))) (hR1 _) ?_)
 refine zb 2 [(26,(vI 0)),(25,(vI (min (4*j+4) (cnt n (l-1))+num n (l-1)-(4*j+num n (l-1)))))] (wEt (zp (zU (X:=Nat) (fun k=> [(26,(vI k))]) [2,5,6,27,28,29,30,31,32,33,34,35,36,37,38,39,40] (fun k w2=>k≤prt n l j∧(∀i,i<k→((t.getD (num n l+j) Un.zero).nd.es.get i)=enU (t.getD (num n (l-1)+(4*j+i)) Un.zero))∧Ext w1 w2) (fun k=>prt n l j-k) 0 (by kernel_rfl) ⟨Nat.zero_le _,fun i h=>absurd h (Nat.not_lt_zero _),Ext.refl _⟩ ?_)))
 rintro k dw2 w2 ⟨hk,hen,hEl⟩
 have hzl:=hEl.size
 refine wsr (za (zag 27 k (min (4*j+4) (cnt n (l-1))+num n (l-1)-(4*j+num n (l-1))) (fun hc27=> ?_) (fun hc27=> ?_)))
 ·have hkp:k<prt n l j:=by omega
  obtain ⟨hm1,hm2,hm3⟩:=zc1 hp7 hp5 hp6 hkp
  obtain ⟨hs0,hs1⟩:=hp8 k hkp
  refine wEt (zd (zk (zl (zc (zd (zp (wsr ?_)))))))
  refine zb 1 [(28,(vI k))] ?_
  obtain ⟨b1,o1,rfl⟩:=hS1.addr (by omega) (by decide)
  refine za (zan b1 o1 (min (4*j+4) (cnt n (l-1))+num n (l-1)-(4*j+num n (l-1))) (c_t-(4*j+num n (l-1))) k 280 ?_)
  refine za (zQ b1 (o1+k*280) (by have hz:=(hS1.ext hEl).at Un.zero (i:=k) (by omega);rw [show ((t.drop (4*j+num n (l-1))).take (min (4*j+4) (cnt n (l-1))+num n (l-1)-(4*j+num n (l-1)))).getD k Un.zero=(t.getD (num n (l-1)+(4*j+k)) Un.zero) from zkn (by omega) hp7 hp5 hp6 hkp] at hz;exact hz) (zI _) ?_)
  refine za (zad (unC Un.zero) 77 ?_)
  intro w3 hBw3 hEw3 hzw3 hlw3
  refine zb 1 [(5,(vI k))] (za (zC 77 w2.heap.size 0 77 (vA (unC (t.getD (num n (l-1)+(4*j+k)) Un.zero))) (unC Un.zero) (unC (t.getD (num n (l-1)+(4*j+k)) Un.zero)) hBw3 (by rw [zI];kernel_rfl) (by first |(simp;done)|(simp;omega)) (za7 _) ?_))
  intro w4 hBw4 hCw4
  have hzw4:=hCw4.size
  rw [zv _ _ (by simp)] at hBw4
  refine wEt (zd (zY 9 (fun w5 hEw5 hzw5 hT285=> ?_)))
  refine ze hT285 [(0,31,(vP b 0)),(4,35,(vI k))] 2 (zaq hT285 6 w2.heap.size 0 (fun w' hC=>(((hBw4.ext hEw5).ext hC).all)) (zI _) ?_)
  have hX1:=Ext.own ((hEw1.trans hEl).trans hEw3) hCw4 (by omega)
  refine zy 1 (zt (ziw b n l j _ ((hX.ext hX1).ext hEw5) ((h_c.ext hX1).ext hEw5) ((h_f.ext hX1).ext hEw5) ((h_t.ext hX1).ext hEw5) (by first | rfl | assumption) (by first | rfl | assumption) (by first | omega | decide) (by first | omega | decide) (by first | omega | decide) (by first | omega | decide) (by first | omega | decide)) ?_)
  rintro _ w6 ⟨rfl,hEw6⟩
  have hzw6:=hEw6.size
  refine ⟨.inr hEw6, ?_⟩
  refine zr (hw:=hEw6) hT285 2 (vA (zH (t.getD (num n l+j) Un.zero).nd)) (zai (Instr.field 77 (vA (unC (t.getD (num n l+j) Un.zero))) 0) (fun w' hC=>zln (F:=74) (us:=zH (t.getD (num n l+j) Un.zero).nd) (zdE _) (zN _))) (zr (hw:=hEw6) hT285 3 (vA (e4C ((t.getD (num n l+j) Un.zero).nd).es)) (zai (Instr.field 74 (vA (zH (t.getD (num n l+j) Un.zero).nd)) 3) (fun w' hC=>zln (F:=72) (us:=e4C ((t.getD (num n l+j) Un.zero).nd).es) (zgK _) (zew _))) (zr (hw:=hEw6) hT285 5 (vA (zW ((((t.getD (num n l+j) Un.zero).nd).es).get k))) (zai (Instr.index 72 (vA (e4C ((t.getD (num n l+j) Un.zero).nd).es)) (vI k)) (fun w' hC=>zhS (E:=71) (m:=4) (sz:=33) (us:=zW ((((t.getD (num n l+j) Un.zero).nd).es).get k)) (by omega) (zk3 (by omega)))) ?_))
  have hK1:=(((hg0.ext hX1).ext hEw5).ext hEw6)
  have hK2:=(((hg1.ext hX1).ext hEw5).ext hEw6)
  have hK3:=(((hg2.ext hX1).ext hEw5).ext hEw6)
  refine zy 7 (zt (zmq (t.getD (num n (l-1)+(4*j+k)) Un.zero) _ (hs0) (hs1) hK1 hK2 hK3) ?_)
  rintro _ w7 ⟨rfl,hEw7⟩
  have hzw7:=hEw7.size
  have hX2:Ext w5 w7:=(hEw6.trans hEw7)
  refine ⟨.inr hX2, ?_⟩
  rcases Bool.eq_false_or_eq_true (((t.getD (num n l+j) Un.zero).nd.es.get k).eqb (enU (t.getD (num n (l-1)+(4*j+k)) Un.zero))) with hq39 | hq39
  ·refine zr (hw:=hX2) hT285 8 vF (zai (bo .neq 71 (.tmp 36) (.tmp 38) (vA (zW ((((t.getD (num n l+j) Un.zero).nd).es).get k))) (vA (zW (enU (t.getD (num n (l-1)+(4*j+k)) Un.zero))))) (fun w' hC=>zaj (r:=true) (T:=71) ((za2 (dd:=9997) (t:=71) (t8:=5) (td:=59) (e:=5) ((((t.getD (num n l+j) Un.zero).nd).es).get k) (enU (t.getD (num n (l-1)+(4*j+k)) Un.zero))).trans (congrArg (fun b=>Result.ok b _) (show (((((t.getD (num n l+j) Un.zero).nd).es).get k).eqb (enU (t.getD (num n (l-1)+(4*j+k)) Un.zero)))=true from hq39))))) (zB (zc (zf (zl (zi (zc (zg (za (zJ 40 k 1 (k+1) ?_)))))))))
   refine zb 1 [(26,(vI (k+1)))] (zq (zn ?_))
   have hX3:Ext w1 w7:=((((Ext.own (hEl.trans hEw3) hCw4 (by omega)).trans hEw5).trans hEw6).trans hEw7)
   refine zG (k+1) ?_ ?_
   ·exact ⟨by omega,fun i hi=>by rcases Nat.lt_succ_iff_lt_or_eq.1 hi with h1 | rfl;exact hen i h1;exact (Ent.eqb_iff _ _).1 hq39,hX3⟩
   ·first | omega |(dsimp only;omega)
  ·refine zr (hw:=hX2) hT285 8 vT (zai (bo .neq 71 (.tmp 36) (.tmp 38) (vA (zW ((((t.getD (num n l+j) Un.zero).nd).es).get k))) (vA (zW (enU (t.getD (num n (l-1)+(4*j+k)) Un.zero))))) (fun w' hC=>zaj (r:=false) (T:=71) ((za2 (dd:=9997) (t:=71) (t8:=5) (td:=59) (e:=5) ((((t.getD (num n l+j) Un.zero).nd).es).get k) (enU (t.getD (num n (l-1)+(4*j+k)) Un.zero))).trans (congrArg (fun b=>Result.ok b _) (show (((((t.getD (num n l+j) Un.zero).nd).es).get k).eqb (enU (t.getD (num n (l-1)+(4*j+k)) Un.zero)))=false from hq39))))) (zB (zc (zk (wsr (zb 1 [(2,(vI 9))] (zF ?_))))))
   refine zu (zj (zj (zu (zj (zh (vI 9) ?_)))))
   have hX4:Ext w w7:=(((hX1.trans hEw5).trans hEw6).trans hEw7)
   exact ⟨congrArg (fun z:Nat=>vI z) ((if_neg (fun hh=>by have h1:=((zb4.1 hh).resolve_left hp7) k hkp;rw [(Ent.eqb_iff _ _).2 (show ((t.getD (num n l+j) Un.zero).nd.es.get k)=enU (t.getD (num n (l-1)+(4*j+k)) Un.zero) from h1)] at hq39;cases hq39)).symm),hX4⟩
 ·obtain rfl:k=prt n l j:=by omega
  refine wEt (zd (zf (zP (zo (zo (zD (zc (zd ?_))))))))
  exact zg (zb 1 [(2,(vI 0))] (zF (zh (vI 0) (⟨congrArg (fun z:Nat=>vI z) ((if_pos (zb4.2 (.inr fun w hw=>hen w hw))).symm),(hEw1.trans hEl)⟩))))
theorem zvA (b n l j:Nat) {lo_c hi_c lo_f hi_f lo_t hi_t n_c c_c n_f c_f n_t c_t:Nat} {a_c a_f a_t:Option Addr} {c f:List Nat} {t:List Un} (w:World) (hX:Blk w b [(.slice a_c n_c c_c),(.slice a_f n_f c_f),(vI n),(.slice a_t n_t c_t),(vI (num n l+j)),(vI l)] 146) (h_c:Es (nv .i64) lo_c hi_c w a_c n_c c_c c) (h_f:Es (nv .i64) lo_f hi_f w a_f n_f c_f f) (h_t:Ms unC 280 lo_t hi_t w a_t n_t c_t t) (hp0:c=za9 n (hgt n+1)) (hp1:f=zbk n (hgt n+1)) (hp2:1≤n) (hp3:n≤4096) (hp4:n_t=tot n) (hp5:l≤hgt n) (hp6:j<cnt n l) (hp7:l≠0→∀w,w<prt n l j→((t.getD (num n (l-1)+(4*j+w)) Un.zero).sl=0∨(t.getD (num n (l-1)+(4*j+w)) Un.zero).sl=1)∧zaz (t.getD (num n (l-1)+(4*j+w)) Un.zero).nd=0) (hg0:Gl 0 [vI 45,vI 33] w) (hg1:Gl 1 (w8C zaV) w) (hg2:Gl 3 (zas kA) w):
  Calls Tryz.prog 82 #[(vP b 0)] w (Ret fun r w'=>r=(vI (zfh n t l j))∧Ext w w'):=by
 by_cases h:l=0
 ·exact ztB b n l j w hX h_c h_f h_t hp0 hp1 hp2 hp3 hp4 hp5 hp6 h
 ·exact ztb b n l j w hX h_c h_f h_t hp0 hp1 hp2 hp3 hp4 hp5 hp6 h (hp7 h) hg0 hg1 hg2
end Go.Proofs.YtkmhgepdhilllaaGreatDoor
