/- Lemmas and walks: what each function does, by its own code. No condition beyond those of each statement. -/
import Derived.Test.YtgdpdnokcnhgnaaGreatDoorB2
import Derived.LaidEql
import Derived.Stop.Asserts
import Derived.RowKitTokens
import Derived.Laws.Tables
import Derived.Test.YtgdpdnokcnhgnaaGreatDoorProg
set_option linter.all false
set_option linter.unusedVariables false
namespace Go.Proofs.YtgdpdnokcnhgnaaGreatDoor
open Go Go.RowKit Go.Cs
set_option maxRecDepth 100000
theorem zmh (n:Nat) (v:Nat) (j:Nat) (w:World) (hp0:1≤n) (hp1:n≤4096) (hp2:v≤hgt n+1) (hp3:j≤1099511627776):
  Calls Tryz.prog 44 #[(vI n),(vI v),(vI j)] w (Ret fun r w'=>r=(vI (num n v+j))∧w=w'):=by
 refine zL (n:=21) (σ:= [(0,(vI n)),(1,(vI v)),(2,(vI j))]) Tryz.func44 rfl ?_
 have h5:=zaz n
 refine zf (ze (zd 1 [(6,(vI 0))] (zg (zc (zf (ze (zd 2 [(7,(vI j)),(9,(vI j))] (zg (zc ?_)))))))))
 refine zf (zf (ze (zd 1 [(8,(vI 0))] (zg (zc (zI (zah (X:=Nat) (fun k=> [(7,(vI (num n k+j))),(8,(vI k))]) [10,11,12,13,14,15,16,17,18,19] (fun k w1=>w=w1∧k≤v) (fun k=>v-k) 0 (by rw [show num n 0=0 from rfl,Nat.zero_add];kernel_rfl) ⟨rfl,by omega⟩ ?_)))))))
 rintro k dw1 w1 ⟨rfl,hk⟩
 have hns:=zei (l:=k) hp1 (by omega)
 have hcn:=zcF n k
 have hnx:=zjO n k
 refine zf (zf (ze (zd 2 [(11,(vI v)),(10,(vI k))] (zb (zO (some 12) (decide (((k:Nat):Int)<((v:Nat):Int))) (fun hc12=> ?_) (fun hc12=> ?_))))))
 ·replace hc12:k<v:=by have:=zak hc12;omega
  refine zg (zc (zF (zy (zc (zf (zI (ze (zd 3 [(17,(vI k)),(16,(vI n)),(15,(vI (num n k+j)))] (zb (zi (some 18) (zj5 n k _ (by omega) (by omega) (by omega)) ?_))))))))))
  rintro _ _ ⟨rfl,rfl⟩
  refine zb (zv (some 19) .i64 (IntKind.i64.wrap (((num n k+j:Nat):Int)+((cnt n k:Nat):Int))) (num n (k+1)+j) (zG (by omega) (by omega) (by omega)) ?_)
  refine zd 1 [(7,(vI (num n (k+1)+j)))] (zg (zp (zc (ze (zd 1 [(13,(vI k))] (zb (zv (some 14) .i64 (IntKind.i64.wrap (((k:Nat):Int)+((1:Nat):Int))) (k+1) (zG (by omega) (by omega) (by omega)) ?_)))))))
  refine zd 1 [(8,(vI (k+1)))] (zg (zC (zS (k+1) ?_ ?_)))
  ·exact ⟨rfl,by omega⟩
  ·first | omega |(dsimp only;omega)
 ·replace hc12:¬(k<v):=by have:=zal hc12;omega
  refine zg (zc (zr (zaf (zH (zH (zT (zc (zf (ze ?_)))))))))
  refine zd 2 [(6,(vI (num n k+j))),(20,(vI (num n k+j)))] (zg (zc (zx (zB (vI (num n k+j)) ?_))))
  obtain rfl:k=v:=by omega
  exact ⟨rfl,rfl⟩
theorem zoc (n:Nat) (w:World) (hp0:1≤n) (hp1:n≤4096):
  Calls Tryz.prog 15 #[(vI n)] w (Ret fun r w'=>r=(vI (tot n))∧w=w'):=by
 refine zL (n:=8) (σ:= [(0,(vI n))]) Tryz.func15 rfl ?_
 have h5:=zaz n
 have htt:=zfo hp0 hp1
 have hts:=zbN hp1
 refine zf (ze (zd 1 [(2,(vI 0))] (zg (zc (zf (ze (zd 2 [(4,(vI n)),(3,(vI n))] (zb (zi (some 5) (zmX n _ (by omega) (by omega)) ?_)))))))))
 rintro _ _ ⟨rfl,rfl⟩
 refine zb (zi (some 6) (zmh n (hgt n) 0 _ (by omega) (by omega) (by omega) (by omega)) ?_)
 rintro _ _ ⟨rfl,rfl⟩
 refine zb (zv (some 7) .i64 (IntKind.i64.wrap (((num n (hgt n)+0:Nat):Int)+((1:Nat):Int))) (tot n) (zG (by rw [htt];omega) (by omega) (by omega)) ?_)
 exact zd 1 [(2,(vI (tot n)))] (zg (zc (zx (zB (vI (tot n)) (⟨rfl,rfl⟩)))))
theorem zvP {lo_l hi_l:Nat} {a_l:Option Addr} {n_l c_l:Nat} {l:List Rec} (v:Nat) (j:Nat) (w:World) (h_l:Ms zE 35 lo_l hi_l w a_l n_l c_l l) (hp0:n_l≤4096) (hp1:v≤4096):
  Calls Tryz.prog 27 #[(.slice a_l n_l c_l),(vI v),(vI j)] w (Ret fun r w'=>r=(.bool (zaw l v j))∧w=w'):=by
 refine zL (n:=27) (σ:= [(0,(.slice a_l n_l c_l)),(1,(vI v)),(2,(vI j))]) Tryz.func27 rfl ?_
 replace h_l:=h_l.now;have hle_l:=h_l.le
 have hlen:=h_l.len_eq
 have hle:=h_l.le
 refine zf (ze (zd 1 [(6,vF)] (zg (zc (zf (zf (ze (zd 1 [(7,(vI 0))] (zg ?_)))))))))
 refine zc (zI (zah (X:=Nat) (fun k=> [(7,(vI k))]) [6,8,9,10,11,12,13,14,15,16,17,18,19,20,21,22,23,24,25,26] (fun k w1=>w=w1∧k≤n_l∧∀i,i<k→idx i v=j→(l.getD i Rec.zero).st=0) (fun k=>n_l-k) 0 (by kernel_rfl) ⟨rfl,by omega,fun i h=>absurd h (Nat.not_lt_zero _)⟩ ?_))
 rintro k dw1 w1 ⟨rfl,hk,hem⟩
 refine zf (zf (ze (zd 3 [(10,(vI n_l)),(9,(.slice a_l n_l c_l)),(8,(vI k))] (zb (zO (some 11) (decide (((k:Nat):Int)<((n_l:Nat):Int))) (fun hc11=> ?_) (fun hc11=> ?_))))))
 ·replace hc11:k<n_l:=by have:=zak hc11;omega
  refine zg (zc (zF (zy (zc (zf (zI (zf (ze (zd 2 [(15,(vI v)),(14,(vI k))] ?_)))))))))
  refine zb (zi (some 16) (zvX k v _ (by omega) (by omega)) ?_)
  rintro _ _ ⟨rfl,rfl⟩
  refine zd 1 [(17,(vI j))] (zb (zO (some 18) ((((idx k v:Nat):Int)==((j:Nat):Int))) (fun hc18=> ?_) (fun hc18=> ?_)))
  ·replace hc18:idx k v=j:=by have:=zbL hc18;omega
   refine zd 3 [(21,(vI k)),(20,(.slice a_l n_l c_l)),(19,vT)] ?_
   obtain ⟨b1,o1,rfl⟩:=h_l.addr (by omega) (by decide)
   refine zb (zj (some 22) (Instr.indexAt 39 (.slice (pA b1 o1) n_l c_l) (vI k)) (vP b1 (o1+k*35)) (zap (E:=33) (sz:=35) (by omega)) ?_)
   refine zd 1 [(23,(vP b1 (o1+k*35)))] (zb (zj (some 24) (Instr.loadAt 5 (vP b1 (o1+k*35))) (vB ((l.getD k Rec.zero).st)) (zo (h_l.cell (j:=0) Rec.zero (by omega) rfl)) ?_))
   refine zb (zO (some 25) (((((l.getD k Rec.zero).st:Nat):Int) !=((0:Nat):Int))) (fun hc25=> ?_) (fun hc25=> ?_))
   ·replace hc25:¬((l.getD k Rec.zero).st=0):=by have:=zbY hc25;omega
    refine zd 1 [(26,vT)] (zg (zc (zF (zf (ze (zd 1 [(6,vF)] (zg (zc (zx ?_)))))))))
    exact zA (zu (zu (zA (zu (zB vF (⟨congrArg (fun z:Bool=>Value.bool z) (zhH.2 ⟨k,by omega,by omega,by omega⟩).symm,rfl⟩))))))
   ·replace hc25:(l.getD k Rec.zero).st=0:=by have:=zbX hc25;omega
    refine zd 1 [(26,vF)] (zg (zc (zr (zy (zp (zc (ze (zd 1 [(12,(vI k))] (zb (zv (some 13) .i64 (IntKind.i64.wrap (((k:Nat):Int)+((1:Nat):Int))) (k+1) (zG (by omega) (by omega) (by omega)) ?_))))))))))
    refine zd 1 [(7,(vI (k+1)))] (zg (zC (zS (k+1) ?_ ?_)))
    ·exact ⟨rfl,by omega,fun i hi he=>by rcases Nat.lt_succ_iff_lt_or_eq.1 hi with h1 | rfl;exact hem i h1 he;first | omega | exact absurd he (by omega)⟩
    ·first | omega |(dsimp only;omega)
  ·replace hc18:¬(idx k v=j):=by have:=zbK hc18;omega
   refine zd 8 [(26,vF),(25,undef),(24,undef),(23,undef),(22,undef),(21,undef),(20,undef),(19,vF)] (zg (zc (zr (zy (zp (zc (ze (zd 1 [(12,(vI k))] (zb (zv (some 13) .i64 (IntKind.i64.wrap (((k:Nat):Int)+((1:Nat):Int))) (k+1) (zG (by omega) (by omega) (by omega)) ?_))))))))))
   refine zd 1 [(7,(vI (k+1)))] (zg (zC (zS (k+1) ?_ ?_)))
   ·exact ⟨rfl,by omega,fun i hi he=>by rcases Nat.lt_succ_iff_lt_or_eq.1 hi with h1 | rfl;exact hem i h1 he;first | omega | exact absurd he (by omega)⟩
   ·first | omega |(dsimp only;omega)
 ·replace hc11:¬(k<n_l):=by have:=zal hc11;omega
  refine zg (zc (zr (zaf (zH (zH (zT (zc (zf (ze ?_)))))))))
  refine zd 1 [(6,vT)] (zg (zc (zx (zB vT ?_))))
  obtain rfl:k=n_l:=by omega
  exact ⟨congrArg (fun z:Bool=>Value.bool z) (zaZ.2 (fun i hi he=>hem i (by omega) he)).symm,rfl⟩
theorem zvW {lo_l hi_l:Nat} {a_l:Option Addr} {n_l c_l:Nat} {l:List Rec} {lo_s hi_s:Nat} {a_s:Option Addr} {n_s c_s:Nat} {s:List Nat} (j:Nat) (w:World) (h_l:Ms zE 35 lo_l hi_l w a_l n_l c_l l) (h_s:Es (nv .i64) lo_s hi_s w a_s n_s c_s s) (hp0:1≤n_l) (hp1:n_l≤4096) (hp2:n_s=tot n_l) (hp3:j<cnt n_l 0):
  Calls Tryz.prog 29 #[(.slice a_l n_l c_l),(.slice a_s n_s c_s),(vI 0),(vI j)] w (Ret fun r w'=>r=(vA (zK (zaG l s 0 j)))∧Ext w w'):=by
 refine zL (n:=69) (σ:= [(0,(.slice a_l n_l c_l)),(1,(.slice a_s n_s c_s)),(2,(vI 0)),(3,(vI j))]) Tryz.func29 rfl ?_
 replace h_l:=h_l.now;have hle_l:=h_l.le
 replace h_s:=h_s.now;have hle_s:=h_s.le
 have h5:=zaz n_l
 have hlen:=h_l.len_eq
 have hles:=h_s.le
 have hlel:=h_l.le
 have hts:=zbN hp1
 have hcn:=zcF n_l 0
 have hu0:und n_l 0=n_l:=rfl
 refine zf (ze (zb (zt (some 8) (Instr.alloc 47 true (.tuple #[])) (vP w.heap.size 0) (zK Nod.zero) 47 ?_)))
 intro w1 hBw1 hEw1
 have hzw1:=hEw1.size;have hlw1:=hBw1.lt
 refine zg (zc (zf (ze (zd 3 [(9,(vI n_l)),(14,(vI n_l)),(13,(.slice a_l n_l c_l))] (zg (zc (zf (ze (zd 1 [(15,(vI 0))] ?_)))))))))
 refine zb (zv (some 16) .u8 (IntKind.u8.wrap ((0:Nat):Int)) (0%2^8) (zcp rfl rfl) ?_)
 refine zd 1 [(17,(vI j))] (zb (zv (some 18) .u32 (IntKind.u32.wrap ((j:Nat):Int)) (j%2^32) (zcp rfl rfl) ?_))
 refine zb (zj (some 19) (Instr.build 47 #[(0,(vB (0%2^8))),(1,(vW (j%2^32)))]) (vA (zK (Nod.mt 0 j))) ((ziO (0%2^8) (j%2^32) (Nat.mod_lt _ (by decide)) (Nat.mod_lt _ (by decide))).trans (congrArg (fun z:Nod=>Result.ok (Value.agg (zK z).toArray) _) (show (Nod.emp (0%2^8) (j%2^32) (Nat.mod_lt _ (by decide)) (Nat.mod_lt _ (by decide)):Nod)=Nod.mt 0 j from rfl))) ?_)
 refine zb (zt (some 10) (Instr.alloc 47 true (.tuple #[])) (vP w1.heap.size 0) (zK Nod.zero) 47 ?_)
 intro w2 hBw2 hEw2
 have hzw2:=hEw2.size;have hlw2:=hBw2.lt
 refine zb (zz 47 w1.heap.size 0 47 (vA (zK (Nod.mt 0 j))) (zK Nod.zero) (zK (Nod.mt 0 j)) hBw2 (by rw [zW];kernel_rfl) (by first |(simp;done)|(simp;omega)) (zcG _) ?_)
 intro w3 hBw3 hCw3
 have hzw3:=hCw3.size
 rw [zm _ _ (by simp)] at hBw3
 refine zg (zc (zf (zf (ze (zd 1 [(11,(vI 0))] (zg (zc (zI (zah (X:=Nat) (fun v=> [(11,(vI v))]) [12,20,21,22,23,24,25,26,27,28,29,30,31,32,33,34,35,36,37,38,39,40,41,42,43,44,45,46,47,48,49,50,51,52,53,54,55,56,57,58,59,60,61,62,63,64,65,66,67] (fun v w4=>v≤prt n_l 0 j∧Blk w4 w.heap.size (zK Nod.zero) 47∧Blk w4 w1.heap.size (zK (zdv l s 0 j v)) 47∧Ext w w4) (fun v=>4-v) 0 (by kernel_rfl) ⟨by omega,(((hBw1.ext hEw2)).chg hCw3 (fun hs=>by have h:_=_:=hs;omega)),by rw [zsu];exact hBw3,(Ext.own (hEw1.trans hEw2) hCw3 (by omega))⟩ ?_)))))))))
 rintro v dw4 w4 ⟨hv,hB8,hB10,hEl⟩
 have hzl:=hEl.size;have hl8:=hB8.lt;have hl10:=hB10.lt
 have hp4:=zdO n_l 0 j
 have hlw:=fun h4=>(za3 (n:=n_l) (l:=0) (j:=j) (w:=v) h4).1
 refine zf (zf (ze (zd 4 [(23,(vI j)),(22,(vI 0)),(21,(vI n_l)),(20,(vI v))] (zb (zi (some 24) (zvO n_l 0 j _ (by omega) (by omega) (by omega) (by omega)) ?_)))))
 rintro _ _ ⟨rfl,rfl⟩
 refine zb (zO (some 25) (decide (((v:Nat):Int)<((prt n_l 0 j:Nat):Int))) (fun hc25=> ?_) (fun hc25=> ?_))
 ·replace hc25:v<prt n_l 0 j:=by have:=zak hc25;omega
  have hlw2:=hlw (by omega)
  refine zg (zc (zF (zy (zc (zf (zI (zf (ze (zd 1 [(28,(vI j))] ?_)))))))))
  refine zb (zv (some 29) .i64 (IntKind.i64.wrap (((4:Nat):Int)*((j:Nat):Int))) (4*j) (zG (by omega) (by omega) (by omega)) ?_)
  refine zd 1 [(30,(vI v))] (zb (zv (some 31) .i64 (IntKind.i64.wrap (((4*j:Nat):Int)+((v:Nat):Int))) (4*j+v) (zG (by omega) (by omega) (by omega)) ?_))
  refine zd 1 [(12,(vI (4*j+v)))] (zg (zc (zf (ze (zd 2 [(33,vT),(32,(vI 0))] (zg (zc (zF (ze ?_)))))))))
  refine zd 3 [(36,(vI (4*j+v))),(35,(.slice a_l n_l c_l)),(34,(vI v))] ?_
  obtain ⟨b1,o1,rfl⟩:=h_l.addr (by omega) (by decide)
  refine zb (zj (some 37) (Instr.indexAt 39 (.slice (pA b1 o1) n_l c_l) (vI (4*j+v))) (vP b1 (o1+(4*j+v)*35)) (zap (E:=33) (sz:=35) (by omega)) ?_)
  refine zb (zj (some 38) (Instr.loadAt 33 (vP b1 (o1+(4*j+v)*35))) (vA (zE (l.getD (4*j+v) Rec.zero))) (zD (vs:=zE (l.getD (4*j+v) Rec.zero)) ((h_l.ext hEl).at Rec.zero (by omega)) (by rw [zY];kernel_rfl)) ?_)
  refine zd 1 [(39,(vP w1.heap.size 2))] (zb (zj (some 40) (Instr.indexAt 42 (vP w1.heap.size 2) (vI v)) (vP w1.heap.size (2+v*35)) (zX (E:=33) (sz:=35) (m:=4) (by omega)) ?_))
  refine zb (zz 33 w1.heap.size (2+v*35) 47 (vA (zE (l.getD (4*j+v) Rec.zero))) (zK (zdv l s 0 j v)) (zE (l.getD (4*j+v) Rec.zero)) hB10 (by rw [zY];kernel_rfl) (by first |(simp;done)|(simp;omega)) (zaU _) ?_)
  intro w5 hBw5 hCw5
  have hzw5:=hCw5.size
  rw [show (zad (zK (zdv l s 0 j v)) (2+v*35) (zE (l.getD (4*j+v) Rec.zero)):List Value)=zK ((zdv l s 0 j v).setR v (l.getD (4*j+v) Rec.zero)) from nod_setR (by omega)] at hBw5
  refine zg (zp (zc (ze (zd 1 [(26,(vI v))] (zb (zv (some 27) .i64 (IntKind.i64.wrap (((v:Nat):Int)+((1:Nat):Int))) (v+1) (zG (by omega) (by omega) (by omega)) ?_))))))
  refine zd 1 [(11,(vI (v+1)))] (zg (zC (zS (v+1) ?_ ?_)))
  ·exact ⟨by omega,((hB8).chg hCw5 (fun hs=>by have h:_=_:=hs;omega)),by have hz:=zr5 (L:=l) (S:=s) (j:=j) (v:=v) (by omega);rw [←hz];exact hBw5,(Ext.own hEl hCw5 (by omega))⟩
  ·first | omega |(dsimp only;omega)
 ·replace hc25:¬(v<prt n_l 0 j):=by have:=zal hc25;omega
  refine zg (zc (zr (zaf (zH (zH (zT (zc (zf (ze ?_)))))))))
  refine zb (zj (some 68) (Instr.loadAt 47 (vP w1.heap.size 0)) (vA (zK (zdv l s 0 j v))) (zD (vs:=zK (zdv l s 0 j v)) (hB10.all) (by rw [zW];kernel_rfl)) ?_)
  refine zb (zz 47 w.heap.size 0 47 (vA (zK (zdv l s 0 j v))) (zK Nod.zero) (zK (zdv l s 0 j v)) hB8 (by rw [zW];kernel_rfl) (by first |(simp;done)|(simp;omega)) (zcG _) ?_)
  intro w6 hBw6 hCw6
  have hzw6:=hCw6.size
  rw [zm _ _ (by simp)] at hBw6
  refine zg (zc (zx (zbp (show zab Tryz.prog 69 _ _ (.cell 8 47) (vA (zK (zdv l s 0 j v))) from ⟨⟨w.heap.size,0,none⟩,(by kernel_rfl),zP (T:=47) (vs:=zK (zdv l s 0 j v)) (hBw6).all (by rw [zW];kernel_rfl)⟩) ?_)))
  obtain rfl:v=prt n_l 0 j:=by omega
  exact ⟨by rw [zaJ,←hlen],(Ext.own hEl hCw6 (by omega))⟩
theorem zvV {lo_l hi_l:Nat} {a_l:Option Addr} {n_l c_l:Nat} {l:List Rec} {lo_s hi_s:Nat} {a_s:Option Addr} {n_s c_s:Nat} {s:List Nat} (v0:Nat) (j:Nat) (w:World) (h_l:Ms zE 35 lo_l hi_l w a_l n_l c_l l) (h_s:Es (nv .i64) lo_s hi_s w a_s n_s c_s s) (hp0:1≤n_l) (hp1:n_l≤4096) (hp2:n_s=tot n_l) (hp3:v0≤hgt n_l) (hp4:j<cnt n_l v0) (hp5:v0≠0) (hp6:∀i,s.getD i 0≤1099511627776) (hih:∀(j:Nat) (lo1 hi1 lo2 hi2:Nat) (w:World),Ms zE 35 lo1 hi1 w a_l n_l c_l l→Es (nv .i64) lo2 hi2 w a_s n_s c_s s→j<cnt n_l (v0-1)→Calls Tryz.prog 29 #[(.slice a_l n_l c_l),(.slice a_s n_s c_s),(vI (v0-1)),(vI j)] w (Ret fun r w'=>r=(vA (zK (zaG l s (v0-1) j)))∧Ext w w')):
  Calls Tryz.prog 29 #[(.slice a_l n_l c_l),(.slice a_s n_s c_s),(vI v0),(vI j)] w (Ret fun r w'=>r=(vA (zK (zaG l s v0 j)))∧Ext w w'):=by
 refine zL (n:=69) (σ:= [(0,(.slice a_l n_l c_l)),(1,(.slice a_s n_s c_s)),(2,(vI v0)),(3,(vI j))]) Tryz.func29 rfl ?_
 replace h_l:=h_l.now;have hle_l:=h_l.le
 replace h_s:=h_s.now;have hle_s:=h_s.le
 have h5:=zaz n_l
 have hlen:=h_l.len_eq
 have hles:=h_s.le
 have hlel:=h_l.le
 have hts:=zbN hp1
 have hcn:=zcF n_l v0
 have hup:=zc9 (n:=n_l) (l:=v0) (by omega)
 have hcm:=zcF n_l (v0-1)
 have hns:=zei (n:=n_l) (l:=v0-1) hp1 (by omega)
 have hsb:∀i,gt s i≤1099511627776:=hp6
 refine zf (ze (zb (zt (some 8) (Instr.alloc 47 true (.tuple #[])) (vP w.heap.size 0) (zK Nod.zero) 47 ?_)))
 intro w1 hBw1 hEw1
 have hzw1:=hEw1.size;have hlw1:=hBw1.lt
 refine zg (zc (zf (ze (zd 3 [(9,(vI n_l)),(14,(vI n_l)),(13,(.slice a_l n_l c_l))] (zg (zc (zf (ze (zd 1 [(15,(vI v0))] ?_)))))))))
 refine zb (zv (some 16) .u8 (IntKind.u8.wrap ((v0:Nat):Int)) (v0%2^8) (zcp rfl rfl) ?_)
 refine zd 1 [(17,(vI j))] (zb (zv (some 18) .u32 (IntKind.u32.wrap ((j:Nat):Int)) (j%2^32) (zcp rfl rfl) ?_))
 refine zb (zj (some 19) (Instr.build 47 #[(0,(vB (v0%2^8))),(1,(vW (j%2^32)))]) (vA (zK (Nod.mt v0 j))) ((ziO (v0%2^8) (j%2^32) (Nat.mod_lt _ (by decide)) (Nat.mod_lt _ (by decide))).trans (congrArg (fun z:Nod=>Result.ok (Value.agg (zK z).toArray) _) (show (Nod.emp (v0%2^8) (j%2^32) (Nat.mod_lt _ (by decide)) (Nat.mod_lt _ (by decide)):Nod)=Nod.mt v0 j from rfl))) ?_)
 refine zb (zt (some 10) (Instr.alloc 47 true (.tuple #[])) (vP w1.heap.size 0) (zK Nod.zero) 47 ?_)
 intro w2 hBw2 hEw2
 have hzw2:=hEw2.size;have hlw2:=hBw2.lt
 refine zb (zz 47 w1.heap.size 0 47 (vA (zK (Nod.mt v0 j))) (zK Nod.zero) (zK (Nod.mt v0 j)) hBw2 (by rw [zW];kernel_rfl) (by first |(simp;done)|(simp;omega)) (zcG _) ?_)
 intro w3 hBw3 hCw3
 have hzw3:=hCw3.size
 rw [zm _ _ (by simp)] at hBw3
 refine zg (zc (zf (zf (ze (zd 1 [(11,(vI 0))] (zg (zc (zI (zah (X:=Nat) (fun v=> [(11,(vI v))]) [12,20,21,22,23,24,25,26,27,28,29,30,31,32,33,34,35,36,37,38,39,40,41,42,43,44,45,46,47,48,49,50,51,52,53,54,55,56,57,58,59,60,61,62,63,64,65,66,67] (fun v w4=>v≤prt n_l v0 j∧Blk w4 w.heap.size (zK Nod.zero) 47∧Blk w4 w1.heap.size (zK (zdv l s v0 j v)) 47∧Ext w w4) (fun v=>4-v) 0 (by kernel_rfl) ⟨by omega,(((hBw1.ext hEw2)).chg hCw3 (fun hs=>by have h:_=_:=hs;omega)),by rw [zsu];exact hBw3,(Ext.own (hEw1.trans hEw2) hCw3 (by omega))⟩ ?_)))))))))
 rintro v dw4 w4 ⟨hv,hB8,hB10,hEl⟩
 have hzl:=hEl.size;have hl8:=hB8.lt;have hl10:=hB10.lt
 have hp4:=zdO n_l v0 j
 have hlw:=fun h4=>(za3 (n:=n_l) (l:=v0) (j:=j) (w:=v) h4).1
 refine zf (zf (ze (zd 4 [(23,(vI j)),(22,(vI v0)),(21,(vI n_l)),(20,(vI v))] (zb (zi (some 24) (zvO n_l v0 j _ (by omega) (by omega) (by omega) (by omega)) ?_)))))
 rintro _ _ ⟨rfl,rfl⟩
 refine zb (zO (some 25) (decide (((v:Nat):Int)<((prt n_l v0 j:Nat):Int))) (fun hc25=> ?_) (fun hc25=> ?_))
 ·replace hc25:v<prt n_l v0 j:=by have:=zak hc25;omega
  have hlw2:=hlw (by omega)
  have hpl2:=zbe (n:=n_l) (l:=v0-1) (j:=4*j+v) (by omega) (by omega)
  refine zg (zc (zF (zy (zc (zf (zI (zf (ze (zd 1 [(28,(vI j))] ?_)))))))))
  refine zb (zv (some 29) .i64 (IntKind.i64.wrap (((4:Nat):Int)*((j:Nat):Int))) (4*j) (zG (by omega) (by omega) (by omega)) ?_)
  refine zd 1 [(30,(vI v))] (zb (zv (some 31) .i64 (IntKind.i64.wrap (((4*j:Nat):Int)+((v:Nat):Int))) (4*j+v) (zG (by omega) (by omega) (by omega)) ?_))
  refine zd 1 [(12,(vI (4*j+v)))] (zg (zc (zf (ze (zd 1 [(32,(vI v0))] (zb (zat (some 33) (((v0:Nat):Int)==((0:Nat):Int)) false (zbW (by omega)) ?_)))))))
  refine zg (zc (zr (zf (ze (zd 2 [(42,(vI v0)),(41,(.slice a_l n_l c_l))] (zb (zv (some 43) .i64 (IntKind.i64.wrap (((v0:Nat):Int)-((1:Nat):Int))) (v0-1) (zG (by omega) (by omega) (by omega)) ?_)))))))
  refine zd 1 [(44,(vI (4*j+v)))] ?_
  rcases (show zaw l (v0-1) (4*j+v)=true∨zaw l (v0-1) (4*j+v)=false by cases zaw l (v0-1) (4*j+v)<;>simp) with he | he
  ·refine zb (zi (some 45) (zvP (v0-1) (4*j+v) _ (h_l.ext hEl) (by omega) (by omega)) ?_)
   rintro _ _ ⟨rfl,rfl⟩
   rw [show zaw l (v0-1) (4*j+v)=true from he]
   refine zd 1 [(46,vF)] (zg (zc (zr (zy (zp (zc (ze (zd 1 [(26,(vI v))] (zb (zv (some 27) .i64 (IntKind.i64.wrap (((v:Nat):Int)+((1:Nat):Int))) (v+1) (zG (by omega) (by omega) (by omega)) ?_))))))))))
   refine zd 1 [(11,(vI (v+1)))] (zg (zC (zS (v+1) ?_ ?_)))
   ·exact ⟨by omega,hB8,by rw [←zsG hp5 (by assumption)];exact hB10,hEl⟩
   ·first | omega |(dsimp only;omega)
  ·refine zb (zi (some 45) (zvP (v0-1) (4*j+v) _ (h_l.ext hEl) (by omega) (by omega)) ?_)
   rintro _ _ ⟨rfl,rfl⟩
   rw [show zaw l (v0-1) (4*j+v)=false from he]
   refine zd 1 [(46,vT)] (zg (zc (zF (zag (Chg (fun k=>k=w1.heap.size) w4.drew) 22 [(48,2048,0),(49,2,0),(50,512,0),(51,4,0),(52,1125899906842624,8),(53,4096,0),(54,7318349394477056,52),(55,9288674231451648,66),(56,18014398509481984,128),(57,36028797018963968,256),(58,72057594037927936,512),(59,1,0),(60,2,0),(61,4,0),(62,1152921504606846976,8192),(63,4096,0),(64,7782220156096217088,55360),(65,9223372036854775808,65536),(66,18590859261785407488,132096),(67,1024,0),(68,73787117032326561792,1048575),(0,184467440737095516160,1572863)] (fun hT262=> ?_)))))
   have hEw5:Ext w4 w4.drew:=Ext.drew w4
   generalize w4.drew=w5 at hEw5⊢
   have hzw5:=hEw5.size
   have hX1:Chg (fun k=>k=w1.heap.size) w5 w5:=(Chg.refl (fun k=>k=w1.heap.size) w5)
   refine zk (hw:=hX1) hT262 [(0,47,(vI v)),(1,48,(.slice a_s n_s c_s)),(2,49,(vI n_l)),(3,50,(vI v0))] 4 15 (zh (hw:=hX1) hT262 4 31 (some 51) (vI (v0-1)) (zq .i64 (IntKind.i64.wrap (((v0:Nat):Int)-((1:Nat):Int))) (zG (by omega) (by omega) (by omega))) (zk (hw:=hX1) hT262 [(5,52,(vI (4*j+v)))] 1 63 (zh (hw:=hX1) hT262 6 127 (some 53) (vI (num n_l (v0-1)+(4*j+v))) (zd1 (f:=44) (args:= #[(vI n_l),(vI (v0-1)),(vI (4*j+v))]) (fun w' hC=>zmh n_l (v0-1) (4*j+v) _ (by omega) (by omega) (by omega) (by omega))) ?_)))
   obtain ⟨b1,o1,rfl⟩:=h_s.addr (by omega)
   refine zh (hw:=hX1) hT262 7 255 (some 54) (vP b1 (o1+(num n_l (v0-1)+(4*j+v))*1)) (zl (Instr.indexAt 40 (.slice (pA b1 o1) n_s c_s) (vI (num n_l (v0-1)+(4*j+v)))) (fun w' hC=>zap (E:=3) (sz:=1) (by omega))) (zh (hw:=hX1) hT262 8 511 (some 55) (vI (gt s (num n_l (v0-1)+(4*j+v)))) (zl (Instr.loadAt 3 (vP b1 (o1+(num n_l (v0-1)+(4*j+v))*1))) (fun w' hC=>zo (((((h_s.ext hEl)).ext hEw5).chg hC (fun k h1 h2 hs=>by have h:_=_:=hs;omega)).celln (by omega)))) ?_)
   have hsl:=hsb (num n_l (v0-1)+(4*j+v))
   refine zh (hw:=hX1) hT262 9 1023 (some 56) (vI (gt s (num n_l (v0-1)+(4*j+v))+1)) (zq .i64 (IntKind.i64.wrap (((gt s (num n_l (v0-1)+(4*j+v)):Nat):Int)+((1:Nat):Int))) (zG (by omega) (by omega) (by omega))) (zh (hw:=hX1) hT262 10 2047 (some 57) (vB ((gt s (num n_l (v0-1)+(4*j+v))+1)%2^8)) (zq .u8 (IntKind.u8.wrap ((gt s (num n_l (v0-1)+(4*j+v))+1:Nat):Int)) (zcp rfl rfl)) (zk (hw:=hX1) hT262 [(11,58,(.slice a_l n_l c_l)),(12,59,(.slice (pA b1 o1) n_s c_s)),(13,60,(vI v0))] 3 16383 (zh (hw:=hX1) hT262 14 32767 (some 61) (vI (v0-1)) (zq .i64 (IntKind.i64.wrap (((v0:Nat):Int)-((1:Nat):Int))) (zG (by omega) (by omega) (by omega))) (zk (hw:=hX1) hT262 [(15,62,(vI (4*j+v))),(19,66,(vP w1.heap.size 142))] 2 589823 (zn 16 655359 (zi (some 63) (hih (4*j+v) _ _ _ _ _ (((h_l.ext hEl)).ext hEw5) (((h_s.ext hEl)).ext hEw5) (by omega)) ?_))))))
   rintro _ w6 ⟨rfl,hEw6⟩
   have hzw6:=hEw6.size
   have hX2:Chg (fun k=>k=w1.heap.size) w5 w6:=((Chg.refl (fun k=>k=w1.heap.size) w5).trans hEw6.chg)
   refine ⟨.inr hX2, ?_⟩
   refine zn 17 786431 (zi (some 64) (zhm (zaG l s (v0-1) (4*j+v)) _) ?_)
   rintro _ w7 ⟨rfl,hEw7⟩
   have hzw7:=hEw7.size
   have hX3:Chg (fun k=>k=w1.heap.size) w5 w7:=(((Chg.refl (fun k=>k=w1.heap.size) w5).trans hEw6.chg).trans hEw7.chg)
   refine ⟨.inr hX3, ?_⟩
   refine zh (hw:=hX3) hT262 18 1048575 (some 65) (vA (zai (⟨(gt s (num n_l (v0-1)+(4*j+v))+1)%2^8,(zN (zM (zaG l s (v0-1) (4*j+v)))),Nat.mod_lt _ (by decide)⟩))) (zl (Instr.build 44 #[(0,(vB ((gt s (num n_l (v0-1)+(4*j+v))+1)%2^8))),(1,(vA (zw (zN (zM (zaG l s (v0-1) (4*j+v)))))))]) (fun w' hC=>zfP ((gt s (num n_l (v0-1)+(4*j+v))+1)%2^8) (zN (zM (zaG l s (v0-1) (4*j+v)))) (Nat.mod_lt _ (by decide)))) ?_
   have hent:((⟨(gt s (num n_l (v0-1)+(4*j+v))+1)%2^8,(zN (zM (zaG l s (v0-1) (4*j+v)))),Nat.mod_lt _ (by decide)⟩):Ent)=zbd l s (v0-1) (4*j+v):=by subst hlen;unfold zbd;rw [if_neg (by rw [he];decide)];rfl
   refine zh (hw:=hX3) hT262 20 2097151 (some 67) (vP w1.heap.size (142+v*33)) (zl (Instr.indexAt 45 (vP w1.heap.size 142) (vI v)) (fun w' hC=>zX (E:=44) (sz:=33) (m:=4) (by omega))) ?_
   have hK1:=(((((hB10.ext hEw5)).ext hEw6)).ext hEw7)
   refine zn 21 4194303 (zz 44 w1.heap.size (142+v*33) 47 (vA (zai (⟨(gt s (num n_l (v0-1)+(4*j+v))+1)%2^8,(zN (zM (zaG l s (v0-1) (4*j+v)))),Nat.mod_lt _ (by decide)⟩))) (zK (zdv l s v0 j v)) (zai (⟨(gt s (num n_l (v0-1)+(4*j+v))+1)%2^8,(zN (zM (zaG l s (v0-1) (4*j+v)))),Nat.mod_lt _ (by decide)⟩)) hK1 (by rw [zaS];kernel_rfl) (by first |(simp;done)|(simp;omega)) (zdq _) ?_)
   have hK2:=(((((hB10.ext hEw5)).ext hEw6)).ext hEw7)
   intro w8 hBw8 hCw8
   have hzw8:=hCw8.size
   rw [show (zad (zK (zdv l s v0 j v)) (142+v*33) (zai (⟨(gt s (num n_l (v0-1)+(4*j+v))+1)%2^8,(zN (zM (zaG l s (v0-1) (4*j+v)))),Nat.mod_lt _ (by decide)⟩)):List Value)=zK ((zdv l s v0 j v).setE v (⟨(gt s (num n_l (v0-1)+(4*j+v))+1)%2^8,(zN (zM (zaG l s (v0-1) (4*j+v)))),Nat.mod_lt _ (by decide)⟩)) from nod_setE (by omega)] at hBw8
   have hX4:Chg (fun k=>k=w1.heap.size) w5 w8:=(Chg.then (((Chg.refl (fun k=>k=w1.heap.size) w5).trans hEw6.chg).trans hEw7.chg) hCw8 (fun k hk hs=>by have h:k=_:=hs;first | exact hs | exact .inl h | exact .inr h |(exfalso;omega)))
   refine ⟨.inr hX4, ?_⟩
   refine zJ (zp (zc (ze (zd 1 [(26,(vI v))] (zb (zv (some 27) .i64 (IntKind.i64.wrap (((v:Nat):Int)+((1:Nat):Int))) (v+1) (zG (by omega) (by omega) (by omega)) ?_))))))
   refine zd 1 [(11,(vI (v+1)))] (zg (zC ?_))
   have hK3:=(((((((hB8.ext hEw5)).ext hEw6)).ext hEw7)).chg hCw8 (fun hs=>by have h:_=_:=hs;omega))
   have hX5:Ext w w8:=(Ext.own (((hEl.trans hEw5).trans hEw6).trans hEw7) hCw8 (by omega))
   refine zS (v+1) ?_ ?_
   ·exact ⟨by omega,hK3,by have hz:=zsE (L:=l) (S:=s) (l:=v0) (j:=j) (v:=v) (by omega) hp5;rw [←hz,←hent];exact hBw8,hX5⟩
   ·first | omega |(dsimp only;omega)
 ·replace hc25:¬(v<prt n_l v0 j):=by have:=zal hc25;omega
  refine zg (zc (zr (zaf (zH (zH (zT (zc (zf (ze ?_)))))))))
  refine zb (zj (some 68) (Instr.loadAt 47 (vP w1.heap.size 0)) (vA (zK (zdv l s v0 j v))) (zD (vs:=zK (zdv l s v0 j v)) (hB10.all) (by rw [zW];kernel_rfl)) ?_)
  refine zb (zz 47 w.heap.size 0 47 (vA (zK (zdv l s v0 j v))) (zK Nod.zero) (zK (zdv l s v0 j v)) hB8 (by rw [zW];kernel_rfl) (by first |(simp;done)|(simp;omega)) (zcG _) ?_)
  intro w9 hBw9 hCw9
  have hzw9:=hCw9.size
  rw [zm _ _ (by simp)] at hBw9
  refine zg (zc (zx (zbp (show zab Tryz.prog 69 _ _ (.cell 8 47) (vA (zK (zdv l s v0 j v))) from ⟨⟨w.heap.size,0,none⟩,(by kernel_rfl),zP (T:=47) (vs:=zK (zdv l s v0 j v)) (hBw9).all (by rw [zW];kernel_rfl)⟩) ?_)))
  obtain rfl:v=prt n_l v0 j:=by omega
  exact ⟨by rw [zaJ,←hlen],(Ext.own hEl hCw9 (by omega))⟩
theorem zvQ {a_l a_s:Option Addr} {n_l c_l n_s c_s:Nat} {l:List Rec} {s:List Nat} (h1:1≤n_l) (h2:n_l≤4096) (h3:n_s=tot n_l) (hsb:∀i,s.getD i 0≤1099511627776):∀(v j lo1 hi1 lo2 hi2:Nat) (w:World),Ms zE 35 lo1 hi1 w a_l n_l c_l l→Es (nv .i64) lo2 hi2 w a_s n_s c_s s→v≤hgt n_l→j<cnt n_l v→
  Calls Tryz.prog 29 #[(.slice a_l n_l c_l),(.slice a_s n_s c_s),(vI v),(vI j)] w (Ret fun r w'=>r=(vA (zK (zaG l s v j)))∧Ext w w')
 | 0,j,_,_,_,_,w,hl,hs,_,hj=>zvW j w hl hs h1 h2 h3 hj
 | v+1,j,_,_,_,_,w,hl,hs,hv,hj=>zvV (v+1) j w hl hs h1 h2 h3 hv hj (Nat.succ_ne_zero v) hsb (fun j' lo1 hi1 lo2 hi2 w' hl' hs' hj'=>zvQ h1 h2 h3 hsb v j' lo1 hi1 lo2 hi2 w' hl' hs' (by omega) hj')
theorem zvY {lo_l hi_l:Nat} {a_l:Option Addr} {n_l c_l:Nat} {l:List Rec} {lo_s hi_s:Nat} {a_s:Option Addr} {n_s c_s:Nat} {s:List Nat} (v:Nat) (j:Nat) (w:World) (h_l:Ms zE 35 lo_l hi_l w a_l n_l c_l l) (h_s:Es (nv .i64) lo_s hi_s w a_s n_s c_s s) (hp0:1≤n_l) (hp1:n_l≤4096) (hp2:n_s=tot n_l) (hp3:v≤hgt n_l) (hp4:j<cnt n_l v) (hp5:∀i,s.getD i 0≤1099511627776):
  Calls Tryz.prog 29 #[(.slice a_l n_l c_l),(.slice a_s n_s c_s),(vI v),(vI j)] w (Ret fun r w'=>r=(vA (zK (zaG l s v j)))∧Ext w w'):=by
 exact zvQ hp0 hp1 hp2 hp5 v j _ _ _ _ w h_l h_s hp3 hp4
theorem zvZ {lo_l hi_l:Nat} {a_l:Option Addr} {n_l c_l:Nat} {l:List Rec} {lo_s hi_s:Nat} {a_s:Option Addr} {n_s c_s:Nat} {s:List Nat} (w:World) (h_l:Ms zE 35 lo_l hi_l w a_l n_l c_l l) (h_s:Es (nv .i64) lo_s hi_s w a_s n_s c_s s) (hp0:1≤n_l) (hp1:n_l≤4096) (hp2:n_s=tot n_l) (hp3:∀i,s.getD i 0≤1099511627776):
  Calls Tryz.prog 18 #[(.slice a_l n_l c_l),(.slice a_s n_s c_s)] w (Ret fun r w'=>∃a0 ca0,r=(.slice a0 (tot n_l) ca0)∧OwM zK 274 w.heap.size w'.heap.size w' a0 (tot n_l) ca0 47 (zaa l s)∧Ext w w'):=by
 refine zL (n:=33) (σ:= [(0,(.slice a_l n_l c_l)),(1,(.slice a_s n_s c_s))]) Tryz.func18 rfl ?_
 replace h_l:=h_l.now;have hle_l:=h_l.le
 replace h_s:=h_s.now;have hle_s:=h_s.le
 have h5:=zaz n_l
 have hlen:=h_l.len_eq
 have hles:=h_s.le
 have hlel:=h_l.le
 have hts:=zbN hp1
 refine zf (ze (zd 1 [(4,(.slice none 0 0))] (zg (zc (zf (ze (zd 3 [(5,(vI n_l)),(10,(vI n_l)),(9,(.slice a_l n_l c_l))] (zg (zc ?_)))))))))
 refine zf (ze (zd 1 [(6,(.slice none 0 0))] (zg (zc (zf (zf (ze (zd 1 [(7,(vI 0))] (zg ?_)))))))))
 refine zc (zI (zah (X:=Nat×Option Addr×Nat) (fun ⟨v,ao,cp⟩=> [(6,(.slice ao (num n_l v) cp)),(7,(vI v))]) [8,11,12,13,14,15,16,17,18,19,20,21,22,23,24,25,26,27,28,29,30,31] (fun ⟨v,ao,cp⟩ w1=>v≤hgt n_l+1∧OwM zK 274 w.heap.size w1.heap.size w1 ao (num n_l v) cp 47 (TXp n_l (zaG l s) v)∧Ext w w1) (fun ⟨v,ao,cp⟩=>hgt n_l+1-v) (0,none,0) (by kernel_rfl) ⟨by omega,OwM.nil _ _ _ _ _ _ zW,(Ext.refl _)⟩ ?_))
 rintro ⟨v,ao,cp⟩ dw1 w1 ⟨hv,hO,hEl⟩
 have hzl:=hEl.size
 have hns:=zei (n:=n_l) (l:=v) hp1 (by omega)
 have hcnv:=zcF n_l v
 refine zf (zf (ze (zd 2 [(12,(vI n_l)),(11,(vI v))] (zb (zi (some 13) (zmX n_l _ (by omega) (by omega)) ?_)))))
 rintro _ _ ⟨rfl,rfl⟩
 refine zb (zO (some 14) (decide (((v:Nat):Int)≤((hgt n_l:Nat):Int))) (fun hc14=> ?_) (fun hc14=> ?_))
 ·replace hc14:v≤hgt n_l:=by have:=zak hc14;omega
  refine zg (zc (zF (zy (zc (zf (zI (zf (ze (zd 1 [(8,(vI 0))] ?_)))))))))
  refine zg (zc (zI (zah (X:=Nat×Option Addr×Nat) (fun ⟨j,ap,cq⟩=> [(6,(.slice ap (num n_l v+j) cq)),(8,(vI j))]) [17,18,19,20,21,22,23,24,25,26,27,28,29,30,31] (fun ⟨j,ap,cq⟩ w2=>j≤cnt n_l v∧OwM zK 274 w.heap.size w2.heap.size w2 ap (num n_l v+j) cq 47 (TXq n_l (zaG l s) v j)∧Ext w w2) (fun ⟨j,ap,cq⟩=>cnt n_l v-j) (0,ao,cp) (by kernel_rfl) ⟨by omega,by rw [ztl];exact (hO).now,hEl⟩ ?_)))
  rintro ⟨j,ap,cq⟩ dw2 w2 ⟨hj,hO2,hEm⟩
  have hzm:=hEm.size
  refine zf (zf (ze (zd 3 [(19,(vI v)),(18,(vI n_l)),(17,(vI j))] (zb (zi (some 20) (zj5 n_l v _ (by omega) (by omega) (by omega)) ?_)))))
  rintro _ _ ⟨rfl,rfl⟩
  refine zb (zO (some 21) (decide (((j:Nat):Int)<((cnt n_l v:Nat):Int))) (fun hc21=> ?_) (fun hc21=> ?_))
  ·replace hc21:j<cnt n_l v:=by have:=zak hc21;omega
   refine zg (zc (zF (zy (zc (zf (zI (ze (zd 5 [(28,(vI j)),(27,(vI v)),(26,(.slice a_s n_s c_s)),(25,(.slice a_l n_l c_l)),(24,(.slice ap (num n_l v+j) cq))] (zb (zi (some 29) (zvY v j _ (h_l.ext hEm) (h_s.ext hEm) (by omega) (by omega) (by omega) (by omega) (by omega) (by assumption)) ?_))))))))))
   rintro _ w3 ⟨rfl,hEw3⟩
   have hzw3:=hEw3.size
   refine zb (zt (some 30) (Instr.buildSlice 24 1 #[(0,(vA (zK (zaG l s v j))))]) (.slice (pA w3.heap.size 0) 1 1) (([(zaG l s v j)]:List Nod).flatMap zK) 47 ?_ (hr:=zgw (f:=zK) (sz:=274) (z:=(vA (zK Nod.zero))) [(zaG l s v j)] zW (by decide) rfl (Nat.succ_pos _) (show 274≤2^24 from by decide) rfl))
   intro w4 hBw4 hEw4
   have hzw4:=hEw4.size;have hlw4:=hBw4.lt
   have hmw4:Ms zK 274 w3.heap.size (w3.heap.size+1) w4 (pA w3.heap.size 0) 1 1 [(zaG l s v j)]:=Ms.of_pre (r:= []) (by rw [List.append_nil];exact hBw4) zW rfl (Nat.le_refl _) (by decide) (Nat.le_refl _) (Nat.lt_succ_self _)
   refine zb (zhp (some 31) 24 24 47 368 (vA (zK Nod.zero)) (((hO2.ext hEw3)).ext hEw4) hmw4 zcG ?_ (by rw [Value.cells,List.size_toArray,zW]) (by decide))
   intro a1 c1 w5 hOw5 hCw5
   have hzw5:=hCw5.size
   have hSw5:=hOw5.ms;have hlea1:=hSw5.le
   refine zd 1 [(6,(.slice a1 (num n_l v+j+1) c1))] (zg (zp (zc (ze (zd 1 [(22,(vI j))] (zb (zv (some 23) .i64 (IntKind.i64.wrap (((j:Nat):Int)+((1:Nat):Int))) (j+1) (zG (by omega) (by omega) (by omega)) ?_)))))))
   refine zd 1 [(8,(vI (j+1)))] (zg (zC ?_))
   have hX1:Ext w w5:=(Ext.ownS ((hEm.trans hEw3).trans hEw4) hCw5 (fun k hs hk=>by have hn:=(((hO2.ext hEw3)).ext hEw4).ne hs;omega))
   refine zS (j+1,a1,c1) ?_ ?_
   ·exact ⟨by omega,by rw [zte];exact (hOw5).now,hX1⟩
   ·first | omega |(dsimp only;omega)
  ·replace hc21:¬(j<cnt n_l v):=by have:=zal hc21;omega
   obtain rfl:j=cnt n_l v:=by omega
   refine zg (zc (zr (zaf (zH (zH (zT (zp (zc (ze ?_)))))))))
   refine zd 1 [(15,(vI v))] (zb (zv (some 16) .i64 (IntKind.i64.wrap (((v:Nat):Int)+((1:Nat):Int))) (v+1) (zG (by omega) (by omega) (by omega)) ?_))
   refine zd 1 [(7,(vI (v+1)))] (zg (zC (zS (v+1,ap,cq) ?_ ?_)))
   ·exact ⟨by omega,by rw [←zt2];exact (hO2).now,hEm⟩
   ·first | omega |(dsimp only;omega)
 ·replace hc14:¬(v≤hgt n_l):=by have:=zal hc14;omega
  refine zg (zc (zr (zaf (zH (zH (zT (zc (zf (ze ?_)))))))))
  refine zd 2 [(4,(.slice ao (num n_l v) cp)),(32,(.slice ao (num n_l v) cp))] (zg (zc (zx (zB (.slice ao (num n_l v) cp) ?_))))
  obtain rfl:v=hgt n_l+1:=by omega
  exact ⟨_,_,rfl,by have hz:=(hO).mono (Nat.le_refl _) (Nat.le_refl _);unfold zaa TX;rw [←hlen];exact hz.now,hEl⟩
end Go.Proofs.YtgdpdnokcnhgnaaGreatDoor
namespace Go.Proofs.YtgdpdnokcnhgnaaGreatDoor
open Go Go.RowKit Go.Cs
set_option maxRecDepth 100000
theorem zwQ (k:Nat) (w:World) (hp0:k<256):
  Calls Tryz.prog 56 #[(vB k)] w (Ret fun r w'=>r=(vI (zhA k))∧w=w'):=by
 refine zL (n:=7) (σ:= [(0,(vB k))]) Tryz.func56 rfl ?_
 refine zf (ze (zd 1 [(2,(vI 0))] (zg (zc (zf (ze (zd 1 [(3,(vB k))] (zb (zv (some 4) .i64 (IntKind.i64.wrap ((k:Nat):Int)) k (zG rfl (by omega) (by omega)) ?_)))))))))
 refine zb (zv (some 5) .i64 (((k:Nat):Int).tmod ((24:Nat):Int)) (k%24) (zcP _ _) ?_)
 refine zb (zv (some 6) .i64 (IntKind.i64.wrap (((1:Nat):Int)+((k%24:Nat):Int))) (1+(k%24)) (zG (by omega) (by omega) (by omega)) ?_)
 exact zd 1 [(2,(vI (1+(k%24))))] (zg (zc (zx (zB (vI (1+(k%24))) (⟨rfl,rfl⟩)))))
theorem zwP (k:Nat) {lo_p hi_p:Nat} {a_p:Option Addr} {n_p c_p:Nat} {p:List (UInt8×UInt8)} {lo_s hi_s:Nat} {a_s:Option Addr} {n_s c_s:Nat} {s:List UInt8} (w:World) (h_p:Ms b2C 2 lo_p hi_p w a_p n_p c_p p) (h_s:Bs lo_s hi_s w a_s n_s c_s s) (hp0:k<256):
  Calls Tryz.prog 19 #[(vA [(vB k),(.slice a_p n_p c_p),(.slice a_s n_s c_s)])] w (Ret fun r w'=>∃a0 ca0 a1 ca1,r=(.tuple #[(.slice a0 (zhA k) ca0),(.slice a1 (tot (zhA k)) ca1)])∧OwM zE 35 w.heap.size w'.heap.size w' a0 (zhA k) ca0 33 (zf2 p (zhA k))∧Es (nv .i64) w.heap.size w'.heap.size w' a1 (tot (zhA k)) ca1 (zfK s (tot (zhA k)))∧Ext w w'):=by
 refine zL (n:=65) (σ:= [(0,(vA [(vB k),(.slice a_p n_p c_p),(.slice a_s n_s c_s)]))]) Tryz.func19 rfl ?_
 replace h_p:=h_p.now;have hle_p:=h_p.le
 replace h_s:=h_s.now;have hle_s:=h_s.le
 have hbk:=znA k
 have hts:=zbN (n:=zhA k) (by omega)
 have hlp:=h_p.len_eq;have hls:=h_s.len_eq
 refine zf (ze (zb (zt (some 1) (Instr.box 59 (vA [(vB k),(.slice a_p n_p c_p),(.slice a_s n_s c_s)])) (vP w.heap.size 0) ([(vB k),(.slice a_p n_p c_p),(.slice a_s n_s c_s)]) 59 ?_)))
 intro w1 hBw1 hEw1
 have hzw1:=hEw1.size;have hlw1:=hBw1.lt
 refine zd 2 [(3,(.slice none 0 0)),(2,(.slice none 0 0))] (zg (zc (zf (ze (zd 1 [(11,(vP w.heap.size 0))] (zb (zj (some 12) (Instr.loadAt 5 (vP w.heap.size 0)) (vB k) (zo (hBw1.cell rfl)) ?_)))))))
 refine zb (zi (some 13) (zwQ k _ (by omega)) ?_)
 rintro _ _ ⟨rfl,rfl⟩
 refine zd 1 [(4,(vI (zhA k)))] (zg (zc (zf (ze (zd 1 [(5,(.slice none 0 0))] (zg (zc (zf (zf ?_)))))))))
 refine ze (zd 1 [(6,(vI 0))] (zg (zc (zI (zah (X:=Nat×Option Addr×Nat) (fun ⟨i,ao,cp⟩=> [(5,(.slice ao i cp)),(6,(vI i))]) [7,14,15,16,17,18,19,20,21,22,23,24,25,26,27,28,29,30,31,32,33,34,35,36,37,38,39,40] (fun ⟨i,ao,cp⟩ w2=>i≤zhA k∧OwM zE 35 w1.heap.size w2.heap.size w2 ao i cp 33 (zf2 p i)∧Ext w1 w2) (fun ⟨i,ao,cp⟩=>zhA k-i) (0,none,0) (by kernel_rfl) ⟨by omega,OwM.nil _ _ _ _ _ _ zY,Ext.refl _⟩ ?_)))))
 rintro ⟨i,ao,cp⟩ dw2 w2 ⟨hi,hO,hEl⟩
 have hzl:=hEl.size
 have hx1:=(p.getD i (0,0)).1.toNat_lt;have hx2:=(p.getD i (0,0)).2.toNat_lt
 have hle1:=hO.ms.le
 refine zf (zf (ze (zd 2 [(15,(vI (zhA k))),(14,(vI i))] (zb (zO (some 16) (decide (((i:Nat):Int)<((zhA k:Nat):Int))) (fun hc16=> ?_) (fun hc16=> ?_))))))
 ·replace hc16:i<zhA k:=by have:=zak hc16;omega
  refine zg (zc (zF (zy (zc (zf (zI (zf (ze (zb (zt (some 7) (Instr.alloc 33 true (.tuple #[])) (vP w2.heap.size 0) (zE Rec.zero) 33 ?_))))))))))
  intro w3 hBw3 hEw3
  have hzw3:=hEw3.size;have hlw3:=hBw3.lt
  refine zg (zc (zf (zf (ze (zd 2 [(20,(vP w.heap.size 1)),(19,(vI i))] (zb (zj (some 21) (Instr.loadAt 56 (vP w.heap.size 1)) (.slice a_p n_p c_p) (zo ((((hBw1.ext hEl)).ext hEw3).cell rfl)) ?_)))))))
  refine zd 1 [(22,(vI n_p))] (zb (zO (some 23) (decide (((i:Nat):Int)<((n_p:Nat):Int))) (fun hc23=> ?_) (fun hc23=> ?_)))
  ·replace hc23:i<n_p:=by have:=zak hc23;omega
   refine zg (zc (zF (zag (Ext w3.drew) 14 [(25,2,0),(26,16777216,1),(27,64,0),(28,100663296,6),(29,134217728,8),(30,268435456,16),(31,2,0),(32,1073741824,64),(33,64,0),(34,6442450944,384),(35,8589934592,512),(36,17179869184,1024),(37,34896609280,2080),(0,68719476864,8191)] (fun hT81=> ?_))))
   have hEw4:Ext w3 w3.drew:=Ext.drew w3
   generalize w3.drew=w4 at hEw4⊢
   have hzw4:=hEw4.size
   refine zk hT81 [(0,24,(vP w.heap.size 1))] 1 1 ?_
   have hK1:=(((((hBw1.ext hEl)).ext hEw3)).ext hEw4)
   refine zh hT81 1 3 (some 25) (.slice a_p n_p c_p) (zl (Instr.loadAt 56 (vP w.heap.size 1)) (fun w' hC=>zo ((hK1.ext hC).cell rfl))) (zk hT81 [(2,26,(vI i))] 1 7 ?_)
   obtain ⟨b1,o1,rfl⟩:=h_p.addr (by omega) (by decide)
   refine zh hT81 3 15 (some 27) (vP b1 (o1+i*2)) (zl (Instr.indexAt 56 (.slice (pA b1 o1) n_p c_p) (vI i)) (fun w' hC=>zap (E:=119) (sz:=2) (by omega))) (zh hT81 4 31 (some 28) (vP b1 (o1+i*2)) (zl (Instr.indexAt 119 (vP b1 (o1+i*2)) (vI 0)) (fun w' hC=>zX (E:=5) (sz:=1) (m:=2) (by omega))) ?_)
   have hK2:=(((((((h_p.ext hEw1)).ext hEl)).ext hEw3)).ext hEw4)
   refine zh hT81 5 63 (some 29) (vB ((p.getD i (0,0)).1.toNat)) (zl (Instr.loadAt 5 (vP b1 (o1+i*2))) (fun w' hC=>zo ((hK2.ext hC).cell (j:=0) (0,0) (by omega) rfl))) (zk hT81 [(6,30,(vP w.heap.size 1))] 1 127 (zh hT81 7 255 (some 31) (.slice (pA b1 o1) n_p c_p) (zl (Instr.loadAt 56 (vP w.heap.size 1)) (fun w' hC=>zo ((hK1.ext hC).cell rfl))) (zk hT81 [(8,32,(vI i))] 1 511 (zh hT81 9 1023 (some 33) (vP b1 (o1+i*2)) (zl (Instr.indexAt 56 (.slice (pA b1 o1) n_p c_p) (vI i)) (fun w' hC=>zap (E:=119) (sz:=2) (by omega))) (zh hT81 10 2047 (some 34) (vP b1 (o1+i*2+1)) (zl (Instr.indexAt 119 (vP b1 (o1+i*2)) (vI 1)) (fun w' hC=>zX (E:=5) (sz:=1) (m:=2) (by omega))) (zh hT81 11 4095 (some 35) (vB ((p.getD i (0,0)).2.toNat)) (zl (Instr.loadAt 5 (vP b1 (o1+i*2+1))) (fun w' hC=>zo ((hK2.ext hC).cell (j:=1) (0,0) (by omega) rfl))) (zn 12 8191 (zi (some 36) (zoF ((p.getD i (0,0)).1.toNat) ((p.getD i (0,0)).2.toNat) _ (by omega) (by omega)) ?_))))))))
   rintro _ w5 ⟨rfl,hEw5⟩
   have hzw5:=hEw5.size
   refine ⟨.inr hEw5, ?_⟩
   refine zn 13 16383 (zz 33 w2.heap.size 0 33 (vA (zE (mkR ((p.getD i (0,0)).1.toNat) ((p.getD i (0,0)).2.toNat)))) (zE Rec.zero) (zE (mkR ((p.getD i (0,0)).1.toNat) ((p.getD i (0,0)).2.toNat))) (((hBw3.ext hEw4)).ext hEw5) (by rw [zY];kernel_rfl) (by first |(simp;done)|(simp;omega)) (zaU _) ?_)
   intro w6 hBw6 hCw6
   have hzw6:=hCw6.size
   rw [zm _ _ (by simp)] at hBw6
   refine ⟨.inl (by kernel_rfl), ?_⟩
   refine zJ (zc (ze (zd 1 [(37,(.slice ao i cp))] (zb (zj (some 38) (Instr.loadAt 33 (vP w2.heap.size 0)) (vA (zE (mkR ((p.getD i (0,0)).1.toNat) ((p.getD i (0,0)).2.toNat)))) (zD (vs:=zE (mkR ((p.getD i (0,0)).1.toNat) ((p.getD i (0,0)).2.toNat))) (hBw6.all) (by rw [zY];kernel_rfl)) ?_)))))
   refine zb (zt (some 39) (Instr.buildSlice 39 1 #[(0,(vA (zE (mkR ((p.getD i (0,0)).1.toNat) ((p.getD i (0,0)).2.toNat)))))]) (.slice (pA w6.heap.size 0) 1 1) (([(mkR ((p.getD i (0,0)).1.toNat) ((p.getD i (0,0)).2.toNat))]:List Rec).flatMap zE) 33 ?_ (hr:=zgw (f:=zE) (sz:=35) (z:=(vA (zE Rec.zero))) [(mkR ((p.getD i (0,0)).1.toNat) ((p.getD i (0,0)).2.toNat))] zY (by decide) rfl (Nat.succ_pos _) (show 35≤2^24 from by decide) rfl))
   intro w7 hBw7 hEw7
   have hzw7:=hEw7.size;have hlw7:=hBw7.lt
   have hmw7:Ms zE 35 w6.heap.size (w6.heap.size+1) w7 (pA w6.heap.size 0) 1 1 [(mkR ((p.getD i (0,0)).1.toNat) ((p.getD i (0,0)).2.toNat))]:=Ms.of_pre (r:= []) (by rw [List.append_nil];exact hBw7) zY rfl (Nat.le_refl _) (by decide) (Nat.le_refl _) (Nat.lt_succ_self _)
   have hK3:=(((((((((hO.ext hEw3)).ext hEw4)).ext hEw5)).chg hCw6 (fun k h1 h2 hs=>by have h:k=_:=hs;omega))).ext hEw7)
   refine zb (zhp (some 40) 39 39 33 56 (vA (zE Rec.zero)) hK3 hmw7 zaU ?_ (by rw [Value.cells,List.size_toArray,zY]) (by decide))
   intro a1 c1 w8 hOw8 hCw8
   have hzw8:=hCw8.size
   have hSw8:=hOw8.ms;have hlea1:=hSw8.le
   refine zd 1 [(5,(.slice a1 (i+1) c1))] (zg (zp (zc (ze (zd 1 [(17,(vI i))] (zb (zv (some 18) .i64 (IntKind.i64.wrap (((i:Nat):Int)+((1:Nat):Int))) (i+1) (zG (by omega) (by omega) (by omega)) ?_)))))))
   refine zd 1 [(6,(vI (i+1)))] (zg (zC ?_))
   have hK4:=(((((((((hO.ext hEw3)).ext hEw4)).ext hEw5)).chg hCw6 (fun k h1 h2 hs=>by have h:k=_:=hs;omega))).ext hEw7)
   have hX1:Ext w1 w8:=(Ext.ownS ((Ext.own (((hEl.trans hEw3).trans hEw4).trans hEw5) hCw6 (by omega)).trans hEw7) hCw8 (fun k hs hk=>by have hn:=hK4.ne hs;omega))
   refine zS (i+1,a1,c1) ?_ ?_
   ·exact ⟨by omega,by rw [zsD,if_pos (by omega)];exact (hOw8).now,hX1⟩
   ·first | omega |(dsimp only;omega)
  ·replace hc23:¬(i<n_p):=by have:=zal hc23;omega
   refine zg (zc (zr (zy (zc (ze (zd 1 [(37,(.slice ao i cp))] (zb (zj (some 38) (Instr.loadAt 33 (vP w2.heap.size 0)) (vA (zE Rec.zero)) (zD (vs:=zE Rec.zero) (hBw3.all) (by rw [zY];kernel_rfl)) ?_))))))))
   refine zb (zt (some 39) (Instr.buildSlice 39 1 #[(0,(vA (zE Rec.zero)))]) (.slice (pA w3.heap.size 0) 1 1) (([Rec.zero]:List Rec).flatMap zE) 33 ?_ (hr:=zgw (f:=zE) (sz:=35) (z:=(vA (zE Rec.zero))) [Rec.zero] zY (by decide) rfl (Nat.succ_pos _) (show 35≤2^24 from by decide) rfl))
   intro w9 hBw9 hEw9
   have hzw9:=hEw9.size;have hlw9:=hBw9.lt
   have hmw9:Ms zE 35 w3.heap.size (w3.heap.size+1) w9 (pA w3.heap.size 0) 1 1 [Rec.zero]:=Ms.of_pre (r:= []) (by rw [List.append_nil];exact hBw9) zY rfl (Nat.le_refl _) (by decide) (Nat.le_refl _) (Nat.lt_succ_self _)
   refine zb (zhp (some 40) 39 39 33 56 (vA (zE Rec.zero)) (((hO.ext hEw3)).ext hEw9) hmw9 zaU ?_ (by rw [Value.cells,List.size_toArray,zY]) (by decide))
   intro a2 c2 w10 hOw10 hCw10
   have hzw10:=hCw10.size
   have hSw10:=hOw10.ms;have hlea2:=hSw10.le
   refine zd 1 [(5,(.slice a2 (i+1) c2))] (zg (zp (zc (ze (zd 1 [(17,(vI i))] (zb (zv (some 18) .i64 (IntKind.i64.wrap (((i:Nat):Int)+((1:Nat):Int))) (i+1) (zG (by omega) (by omega) (by omega)) ?_)))))))
   refine zd 1 [(6,(vI (i+1)))] (zg (zC ?_))
   have hX2:Ext w1 w10:=(Ext.ownS ((hEl.trans hEw3).trans hEw9) hCw10 (fun k hs hk=>by have hn:=(((hO.ext hEw3)).ext hEw9).ne hs;omega))
   refine zS (i+1,a2,c2) ?_ ?_
   ·exact ⟨by omega,by rw [zsD,if_neg (by omega)];exact (hOw10).now,hX2⟩
   ·first | omega |(dsimp only;omega)
 ·replace hc16:¬(i<zhA k):=by have:=zal hc16;omega
  obtain rfl:i=zhA k:=by omega
  refine zg (zc (zr (zaf (zH (zH (zT (zc (zf (ze ?_)))))))))
  refine zd 1 [(8,(.slice none 0 0))] (zg (zc (zf (zf (ze (zd 1 [(9,(vI 0))] (zg (zc (zI ?_)))))))))
  refine zah (X:=Nat×Option Addr×Nat) (fun ⟨i,aq,cq⟩=> [(8,(.slice aq i cq)),(9,(vI i))]) [10,41,42,43,44,45,46,47,48,49,50,51,52,53,54,55,56,57,58,59,60,61,62] (fun ⟨i,aq,cq⟩ w11=>i≤tot (zhA k)∧Cs.Own (nv .i64) w2.heap.size w11.heap.size w11 aq i cq 3 (zfK s i)∧Ext w2 w11) (fun ⟨i,aq,cq⟩=>tot (zhA k)-i) (0,none,0) (by kernel_rfl) ⟨by omega,Cs.Own.nil _ _ _ _ _,Ext.refl _⟩ ?_
  rintro ⟨i,aq,cq⟩ dw11 w11 ⟨hi2,hQ,hEm⟩
  have hzm:=hEm.size
  have hle2:=hQ.es.le
  have hbt:=zeh s i
  refine zf (zf (ze (zd 2 [(42,(vI (zhA k))),(41,(vI i))] (zb (zi (some 43) (zoc (zhA k) _ (by omega) (by omega)) ?_)))))
  rintro _ _ ⟨rfl,rfl⟩
  refine zb (zO (some 44) (decide (((i:Nat):Int)<((tot (zhA k):Nat):Int))) (fun hc44=> ?_) (fun hc44=> ?_))
  ·replace hc44:i<tot (zhA k):=by have:=zak hc44;omega
   refine zg (zc (zF (zy (zc (zf (zI (zf (ze (zd 1 [(10,(vI 0))] ?_)))))))))
   refine zg (zc (zf (zf (ze (zd 2 [(48,(vP w.heap.size 2)),(47,(vI i))] (zb (zj (some 49) (Instr.loadAt 57 (vP w.heap.size 2)) (.slice a_s n_s c_s) (zo ((((hBw1.ext hEl)).ext hEm).cell rfl)) ?_)))))))
   refine zd 1 [(50,(vI n_s))] (zb (zO (some 51) (decide (((i:Nat):Int)<((n_s:Nat):Int))) (fun hc51=> ?_) (fun hc51=> ?_)))
   ·replace hc51:i<n_s:=by have:=zak hc51;omega
    refine zg (zc (zF (ze (zd 1 [(52,(vP w.heap.size 2))] (zb (zj (some 53) (Instr.loadAt 57 (vP w.heap.size 2)) (.slice a_s n_s c_s) (zo ((((hBw1.ext hEl)).ext hEm).cell rfl)) ?_))))))
    refine zd 1 [(54,(vI i))] ?_
    obtain ⟨b2,o2,rfl⟩:=h_s.addr (by omega)
    refine zb (zj (some 55) (Instr.indexAt 57 (.slice (pA b2 o2) n_s c_s) (vI i)) (vP b2 (o2+i*1)) (zap (E:=5) (sz:=1) (by omega)) ?_)
    have hK5:=(((((h_s.ext hEw1)).ext hEl)).ext hEm)
    refine zb (zj (some 56) (Instr.loadAt 5 (vP b2 (o2+i*1))) (vB (byt s i)) (zo (hK5.cell1 (by omega))) ?_)
    refine zb (zv (some 57) .u8 (((byt s i:Nat):Int).tmod ((2:Nat):Int)) ((byt s i)%2) (zcP _ _) ?_)
    refine zb (zv (some 58) .i64 (IntKind.i64.wrap (((byt s i)%2:Nat):Int)) ((byt s i)%2) (zG rfl (by omega) (by omega)) ?_)
    refine zd 1 [(10,(vI ((byt s i)%2)))] (zg (zc (ze (zd 2 [(60,(vI ((byt s i)%2))),(59,(.slice aq i cq))] (zb (zt (some 61) (Instr.buildSlice 40 1 #[(0,(vI ((byt s i)%2)))]) (.slice (pA w11.heap.size 0) 1 1) [(vI ((byt s i)%2))] 3 ?_))))))
    intro w12 hBw12 hEw12
    have hzw12:=hEw12.size;have hlw12:=hBw12.lt
    have hSw12:Es (nv .i64) w11.heap.size (w11.heap.size+1) w12 (pA w11.heap.size 0) 1 1 ([(byt s i)%2]):=Es.of_blk hBw12 rfl rfl (Nat.le_refl _) (by decide) (Nat.le_refl _) (Nat.lt_succ_self _)
    refine zb (zbM (some 62) 40 40 3 8 (vI 0) (hQ.ext hEw12) hSw12 (fun _=>rfl) ?_)
    intro a3 c3 w13 hOw13 hCw13
    have hzw13:=hCw13.size
    have hSw13:=hOw13.es
    refine zd 1 [(8,(.slice a3 (i+1) c3))] (zg (zp (zc (ze (zd 1 [(45,(vI i))] (zb (zv (some 46) .i64 (IntKind.i64.wrap (((i:Nat):Int)+((1:Nat):Int))) (i+1) (zG (by omega) (by omega) (by omega)) ?_)))))))
    refine zd 1 [(9,(vI (i+1)))] (zg (zC (zS (i+1,a3,c3) ?_ ?_)))
    ·exact ⟨by omega,by rw [zr6,if_pos (by omega)];exact (hOw13).now,(Ext.ownS (hEm.trans hEw12) hCw13 (fun k hs hk=>by have hn:=(hQ.ext hEw12).ne hs;omega))⟩
    ·first | omega |(dsimp only;omega)
   ·replace hc51:¬(i<n_s):=by have:=zal hc51;omega
    refine zg (zc (zr (zy (zc (ze (zd 2 [(60,(vI 0)),(59,(.slice aq i cq))] (zb (zt (some 61) (Instr.buildSlice 40 1 #[(0,(vI 0))]) (.slice (pA w11.heap.size 0) 1 1) [(vI 0)] 3 ?_))))))))
    intro w14 hBw14 hEw14
    have hzw14:=hEw14.size;have hlw14:=hBw14.lt
    have hSw14:Es (nv .i64) w11.heap.size (w11.heap.size+1) w14 (pA w11.heap.size 0) 1 1 ([0]):=Es.of_blk hBw14 rfl rfl (Nat.le_refl _) (by decide) (Nat.le_refl _) (Nat.lt_succ_self _)
    refine zb (zbM (some 62) 40 40 3 8 (vI 0) (hQ.ext hEw14) hSw14 (fun _=>rfl) ?_)
    intro a4 c4 w15 hOw15 hCw15
    have hzw15:=hCw15.size
    have hSw15:=hOw15.es
    refine zd 1 [(8,(.slice a4 (i+1) c4))] (zg (zp (zc (ze (zd 1 [(45,(vI i))] (zb (zv (some 46) .i64 (IntKind.i64.wrap (((i:Nat):Int)+((1:Nat):Int))) (i+1) (zG (by omega) (by omega) (by omega)) ?_)))))))
    refine zd 1 [(9,(vI (i+1)))] (zg (zC (zS (i+1,a4,c4) ?_ ?_)))
    ·exact ⟨by omega,by rw [zr6,if_neg (by omega)];exact (hOw15).now,(Ext.ownS (hEm.trans hEw14) hCw15 (fun k hs hk=>by have hn:=(hQ.ext hEw14).ne hs;omega))⟩
    ·first | omega |(dsimp only;omega)
  ·replace hc44:¬(i<tot (zhA k)):=by have:=zal hc44;omega
   refine zg (zc (zr (zaf (zH (zH (zT (zc (zf (ze ?_)))))))))
   refine zd 4 [(3,(.slice aq i cq)),(2,(.slice ao (zhA k) cp)),(64,(.slice aq i cq)),(63,(.slice ao (zhA k) cp))] (zg (zc (zx (zB (.tuple #[(.slice ao (zhA k) cp),(.slice aq i cq)]) ?_))))
   obtain rfl:i=tot (zhA k):=by omega
   exact ⟨_,_,_,_,rfl,((hO.ext hEm)).mono (by omega) (by omega),(hQ).es.mono (by omega) (Nat.le_refl _),((hEw1.trans hEl).trans hEm)⟩
theorem zwS (k:Nat) {lo_p hi_p:Nat} {a_p:Option Addr} {n_p c_p:Nat} {p:List (UInt8×UInt8)} {lo_s hi_s:Nat} {a_s:Option Addr} {n_s c_s:Nat} {s:List UInt8} (w:World) (h_p:Ms b2C 2 lo_p hi_p w a_p n_p c_p p) (h_s:Bs lo_s hi_s w a_s n_s c_s s) (hp0:k<256):
  Calls Tryz.prog 24 #[(vA [(vB k),(.slice a_p n_p c_p),(.slice a_s n_s c_s)])] w (Ret fun r w'=>∃a1 ca1,r=(vA [(vI (zhA k)),(.slice a1 (tot (zhA k)) ca1)])∧OwM zK 274 w.heap.size w'.heap.size w' a1 (tot (zhA k)) ca1 47 (zaa (zf2 p (zhA k)) (zfK s (tot (zhA k))))∧Ext w w'):=by
 refine zL (n:=16) (σ:= [(0,(vA [(vB k),(.slice a_p n_p c_p),(.slice a_s n_s c_s)]))]) Tryz.func24 rfl ?_
 replace h_p:=h_p.now;have hle_p:=h_p.le
 replace h_s:=h_s.now;have hle_s:=h_s.le
 have hbk:=znA k
 refine zf (ze (zb (zt (some 1) (Instr.box 59 (vA [(vB k),(.slice a_p n_p c_p),(.slice a_s n_s c_s)])) (vP w.heap.size 0) ([(vB k),(.slice a_p n_p c_p),(.slice a_s n_s c_s)]) 59 ?_)))
 intro w1 hBw1 hEw1
 have hzw1:=hEw1.size;have hlw1:=hBw1.lt
 refine zb (zt (some 2) (Instr.alloc 50 true (.tuple #[])) (vP w1.heap.size 0) ([(vI 0),(.slice none 0 0)]) 50 ?_)
 intro w2 hBw2 hEw2
 have hzw2:=hEw2.size;have hlw2:=hBw2.lt
 refine zg (zc (zf (ze (zb (zj (some 6) (Instr.loadAt 59 (vP w.heap.size 0)) (vA [(vB k),(.slice a_p n_p c_p),(.slice a_s n_s c_s)]) (zD (vs:= [(vB k),(.slice a_p n_p c_p),(.slice a_s n_s c_s)]) ((hBw1.ext hEw2).all)) ?_)))))
 refine zb (zi (some 7) (zwP k _ (((h_p.ext hEw1)).ext hEw2) (((h_s.ext hEw1)).ext hEw2) (by omega)) ?_)
 rintro _ w3 ⟨a1,ca1,a2,ca2,rfl,hFz1_0,hFz1_1,hEw3⟩
 have hzw3:=hEw3.size
 have hma1:=hFz1_0.ms;have hlea1:=hma1.le
 have hlea2:=hFz1_1.le
 refine zd 5 [(4,(.slice a2 (tot (zhA k)) ca2)),(3,(.slice a1 (zhA k) ca1)),(9,(.slice a2 (tot (zhA k)) ca2)),(8,(.slice a1 (zhA k) ca1)),(5,(.tuple #[(.slice a1 (zhA k) ca1),(.slice a2 (tot (zhA k)) ca2)]))] (zg (zc (zf (ze (zd 4 [(13,(.slice a2 (tot (zhA k)) ca2)),(12,(.slice a1 (zhA k) ca1)),(11,(vI (zhA k))),(10,(.slice a1 (zhA k) ca1))] (zb (zi (some 14) (zvZ _ hma1 hFz1_1 (by first | omega | decide) (by first | omega | decide) (by first | omega | decide) (fun i=>Nat.le_trans (zps _ _ i) (by decide))) ?_)))))))
 rintro _ w4 ⟨a3,ca3,rfl,hFz2_0,hEw4⟩
 have hzw4:=hEw4.size
 have hma3:=hFz2_0.ms;have hlea3:=hma3.le
 refine zd 1 [(15,(vA [(vI (zhA k)),(.slice a3 (tot (zhA k)) ca3)]))] (zb (zz 50 w1.heap.size 0 50 (vA [(vI (zhA k)),(.slice a3 (tot (zhA k)) ca3)]) ([(vI 0),(.slice none 0 0)]) ([(vI (zhA k)),(.slice a3 (tot (zhA k)) ca3)]) (((hBw2.ext hEw3)).ext hEw4) (by kernel_rfl) (by first | decide |(simp;done)|(simp;omega)) (by simp [Value.oneCell']) ?_))
 intro w5 hBw5 hCw5
 have hzw5:=hCw5.size
 rw [zm _ _ (by kernel_rfl)] at hBw5
 refine zg (zc (zx (zbp (show zab Tryz.prog 16 _ _ (.cell 2 50) (vA [(vI (zhA k)),(.slice a3 (tot (zhA k)) ca3)]) from ⟨⟨w1.heap.size,0,none⟩,(by kernel_rfl),zP (T:=50) (vs:= [(vI (zhA k)),(.slice a3 (tot (zhA k)) ca3)]) (hBw5).all (by kernel_rfl)⟩) ?_)))
 have hX1:Ext w w5:=(Ext.own (((hEw1.trans hEw2).trans hEw3).trans hEw4) hCw5 (by omega))
 exact ⟨_,_,rfl,(((hFz2_0).chg hCw5 (fun k h1 h2 hs=>by have h:k=_:=hs;omega))).now.mono (by omega) (Nat.le_refl _),hX1⟩
theorem zv0 {lo_x hi_x:Nat} {a_x:Option Addr} {n_x c_x:Nat} {x:List Nod} {lo_y hi_y:Nat} {a_y:Option Addr} {n_y c_y:Nat} {y:List Nod} (w:World) (h_x:Ms zK 274 lo_x hi_x w a_x n_x c_x x) (h_y:Ms zK 274 lo_y hi_y w a_y n_y c_y y) (hp0:c_x=n_x) (hp1:x=y):
  Calls Tryz.prog 17 #[(.slice a_x n_x c_x),(.slice a_y n_y c_y)] w (Ret fun r w'=>r=(vI 1)∧Ext w w'):=by
 refine zL (n:=33) (σ:= [(0,(.slice a_x n_x c_x)),(1,(.slice a_y n_y c_y))]) Tryz.func17 rfl ?_
 replace h_x:=h_x.now;have hle_x:=h_x.le
 replace h_y:=h_y.now;have hle_y:=h_y.le
 have hlx:=h_x.len_eq;have hly:=h_y.len_eq;have hxy:n_x=n_y:=by rw [hlx,hly,hp1]
 refine zf (ze (zd 1 [(4,(vI 0))] (zg (zc (zf (zf (ze (zd 4 [(9,(vI n_y)),(8,(.slice a_y n_y c_y)),(7,(vI n_x)),(6,(.slice a_x n_x c_x))] (zb (zat (some 10) (((n_x:Nat):Int) !=((n_y:Nat):Int)) false (zaL (by omega)) ?_))))))))))
 refine zd 5 [(15,(vI n_x)),(14,(.slice a_x n_x c_x)),(13,(vI c_x)),(12,(.slice a_x n_x c_x)),(11,vF)] (zb (zat (some 16) (((c_x:Nat):Int) !=((n_x:Nat):Int)) false (zaL (by omega)) ?_))
 refine zd 1 [(17,vF)] (zg (zc (zr (zy (zc (zf (zf (ze (zd 1 [(5,(vI 0))] ?_)))))))))
 refine zg (zc (zI (zah (X:=Nat) (fun k=> [(5,(vI k))]) [4,18,19,20,21,22,23,24,25,26,27,28,29,30,31,32] (fun k w1=>k≤n_x∧Ext w w1) (fun k=>n_x-k) 0 (by kernel_rfl) ⟨by omega,(Ext.refl _)⟩ ?_)))
 rintro k dw1 w1 ⟨hk,hEl⟩
 have hzl:=hEl.size
 refine zf (zf (ze (zd 3 [(20,(vI n_x)),(19,(.slice a_x n_x c_x)),(18,(vI k))] (zb (zO (some 21) (decide (((k:Nat):Int)<((n_x:Nat):Int))) (fun hc21=> ?_) (fun hc21=> ?_))))))
 ·replace hc21:k<n_x:=by have:=zak hc21;omega
  refine zg (zc (zF (zy (zc (zf (zI (zf (zag (Ext w1.drew) 9 [(25,1,0),(26,32,0),(27,50331648,3),(28,67108864,4),(29,2,0),(30,32,0),(31,805306368,48),(32,1073741824,64),(33,2281701376,136)] (fun hT222=> ?_)))))))))
  have hEw2:Ext w1 w1.drew:=Ext.drew w1
  generalize w1.drew=w2 at hEw2⊢
  have hzw2:=hEw2.size
  refine zk hT222 [(0,24,(.slice a_x n_x c_x)),(1,25,(vI k))] 2 3 ?_
  obtain ⟨b1,o1,rfl⟩:=h_x.addr (by omega) (by decide)
  refine zh hT222 2 7 (some 26) (vP b1 (o1+k*274)) (zl (Instr.indexAt 24 (.slice (pA b1 o1) n_x c_x) (vI k)) (fun w' hC=>zap (E:=47) (sz:=274) (by omega))) (zh hT222 3 15 (some 27) (vA (zK (x.getD k Nod.zero))) (zl (Instr.loadAt 47 (vP b1 (o1+k*274))) (fun w' hC=>zD (vs:=zK (x.getD k Nod.zero)) (((((h_x.ext hEl)).ext hEw2).ext hC).at Nod.zero (by omega)) (by rw [zW];kernel_rfl))) (zk hT222 [(4,28,(.slice a_y n_y c_y)),(5,29,(vI k))] 2 63 ?_))
  obtain ⟨b2,o2,rfl⟩:=h_y.addr (by omega) (by decide)
  refine zh hT222 6 127 (some 30) (vP b2 (o2+k*274)) (zl (Instr.indexAt 24 (.slice (pA b2 o2) n_y c_y) (vI k)) (fun w' hC=>zap (E:=47) (sz:=274) (by omega))) (zh hT222 7 255 (some 31) (vA (zK (y.getD k Nod.zero))) (zl (Instr.loadAt 47 (vP b2 (o2+k*274))) (fun w' hC=>zD (vs:=zK (y.getD k Nod.zero)) (((((h_y.ext hEl)).ext hEw2).ext hC).at Nod.zero (by omega)) (by rw [zW];kernel_rfl))) (zh hT222 8 511 (some 32) vF (zl (bo .neq 47 (.tmp 27) (.tmp 31) (vA (zK (x.getD k Nod.zero))) (vA (zK (y.getD k Nod.zero)))) (fun w' hC=>zav (r:=true) (T:=47) ((zhl (dd:=9995) (N:=47) (R:=42) (E:=45) (r:=33) (en:=44) (t8:=5) (td:=23) (e:=5) (tn:=31) (t32:=28) (t64:=29) (x.getD k Nod.zero) (y.getD k Nod.zero)).trans (congrArg (fun b=>Result.ok b _) (show ((x.getD k Nod.zero).eqb (y.getD k Nod.zero))=true from (Nod.eqb_iff _ _).2 (by rw [hp1])))))) (zJ (zc (zr (zy (zp (zc (ze ?_)))))))))
  refine zd 1 [(22,(vI k))] (zb (zv (some 23) .i64 (IntKind.i64.wrap (((k:Nat):Int)+((1:Nat):Int))) (k+1) (zG (by omega) (by omega) (by omega)) ?_))
  refine zd 1 [(5,(vI (k+1)))] (zg (zC (zS (k+1) ?_ ?_)))
  ·exact ⟨by omega,(hEl.trans hEw2)⟩
  ·first | omega |(dsimp only;omega)
 ·replace hc21:¬(k<n_x):=by have:=zal hc21;omega
  refine zg (zc (zr (zaf (zH (zH (zT (zc (zf (ze ?_)))))))))
  exact zd 1 [(4,(vI 1))] (zg (zc (zx (zB (vI 1) (⟨rfl,hEl⟩)))))
theorem zwZ {lo_x hi_x:Nat} {a_x:Option Addr} {n_x c_x:Nat} {x:List Nod} {lo_y hi_y:Nat} {a_y:Option Addr} {n_y c_y:Nat} {y:List Nod} (w:World) (h_x:Ms zK 274 lo_x hi_x w a_x n_x c_x x) (h_y:Ms zK 274 lo_y hi_y w a_y n_y c_y y) (hp0:c_x=n_x) (hp1:n_x=n_y) (hp2:x≠y):
  Calls Tryz.prog 17 #[(.slice a_x n_x c_x),(.slice a_y n_y c_y)] w (Ret fun r w'=>r=(vI 0)∧Ext w w'):=by
 refine zL (n:=33) (σ:= [(0,(.slice a_x n_x c_x)),(1,(.slice a_y n_y c_y))]) Tryz.func17 rfl ?_
 replace h_x:=h_x.now;have hle_x:=h_x.le
 replace h_y:=h_y.now;have hle_y:=h_y.le
 have hlx:=h_x.len_eq;have hly:=h_y.len_eq
 refine zf (ze (zd 1 [(4,(vI 0))] (zg (zc (zf (zf (ze (zd 4 [(9,(vI n_y)),(8,(.slice a_y n_y c_y)),(7,(vI n_x)),(6,(.slice a_x n_x c_x))] (zb (zat (some 10) (((n_x:Nat):Int) !=((n_y:Nat):Int)) false (zaL (by omega)) ?_))))))))))
 refine zd 5 [(15,(vI n_x)),(14,(.slice a_x n_x c_x)),(13,(vI c_x)),(12,(.slice a_x n_x c_x)),(11,vF)] (zb (zat (some 16) (((c_x:Nat):Int) !=((n_x:Nat):Int)) false (zaL (by omega)) ?_))
 refine zd 1 [(17,vF)] (zg (zc (zr (zy (zc (zf (zf (ze (zd 1 [(5,(vI 0))] ?_)))))))))
 refine zg (zc (zI (zah (X:=Nat) (fun k=> [(5,(vI k))]) [4,18,19,20,21,22,23,24,25,26,27,28,29,30,31,32] (fun k w1=>k≤n_x∧(∀i,i<k→x.getD i Nod.zero=y.getD i Nod.zero)∧Ext w w1) (fun k=>n_x-k) 0 (by kernel_rfl) ⟨by omega,fun i h=>absurd h (Nat.not_lt_zero _),(Ext.refl _)⟩ ?_)))
 rintro k dw1 w1 ⟨hk,heq,hEl⟩
 have hzl:=hEl.size
 refine zf (zf (ze (zd 3 [(20,(vI n_x)),(19,(.slice a_x n_x c_x)),(18,(vI k))] (zb (zO (some 21) (decide (((k:Nat):Int)<((n_x:Nat):Int))) (fun hc21=> ?_) (fun hc21=> ?_))))))
 ·replace hc21:k<n_x:=by have:=zak hc21;omega
  refine zg (zc (zF (zy (zc (zf (zI (zf (zag (Ext w1.drew) 9 [(25,1,0),(26,32,0),(27,50331648,3),(28,67108864,4),(29,2,0),(30,32,0),(31,805306368,48),(32,1073741824,64),(33,2281701376,136)] (fun hT253=> ?_)))))))))
  have hEw2:Ext w1 w1.drew:=Ext.drew w1
  generalize w1.drew=w2 at hEw2⊢
  have hzw2:=hEw2.size
  refine zk hT253 [(0,24,(.slice a_x n_x c_x)),(1,25,(vI k))] 2 3 ?_
  obtain ⟨b1,o1,rfl⟩:=h_x.addr (by omega) (by decide)
  refine zh hT253 2 7 (some 26) (vP b1 (o1+k*274)) (zl (Instr.indexAt 24 (.slice (pA b1 o1) n_x c_x) (vI k)) (fun w' hC=>zap (E:=47) (sz:=274) (by omega))) (zh hT253 3 15 (some 27) (vA (zK (x.getD k Nod.zero))) (zl (Instr.loadAt 47 (vP b1 (o1+k*274))) (fun w' hC=>zD (vs:=zK (x.getD k Nod.zero)) (((((h_x.ext hEl)).ext hEw2).ext hC).at Nod.zero (by omega)) (by rw [zW];kernel_rfl))) (zk hT253 [(4,28,(.slice a_y n_y c_y)),(5,29,(vI k))] 2 63 ?_))
  obtain ⟨b2,o2,rfl⟩:=h_y.addr (by omega) (by decide)
  refine zh hT253 6 127 (some 30) (vP b2 (o2+k*274)) (zl (Instr.indexAt 24 (.slice (pA b2 o2) n_y c_y) (vI k)) (fun w' hC=>zap (E:=47) (sz:=274) (by omega))) (zh hT253 7 255 (some 31) (vA (zK (y.getD k Nod.zero))) (zl (Instr.loadAt 47 (vP b2 (o2+k*274))) (fun w' hC=>zD (vs:=zK (y.getD k Nod.zero)) (((((h_y.ext hEl)).ext hEw2).ext hC).at Nod.zero (by omega)) (by rw [zW];kernel_rfl))) ?_)
  rcases Bool.eq_false_or_eq_true ((x.getD k Nod.zero).eqb (y.getD k Nod.zero)) with he | he
  ·refine zh hT253 8 511 (some 32) vF (zl (bo .neq 47 (.tmp 27) (.tmp 31) (vA (zK (x.getD k Nod.zero))) (vA (zK (y.getD k Nod.zero)))) (fun w' hC=>zav (r:=true) (T:=47) ((zhl (dd:=9995) (N:=47) (R:=42) (E:=45) (r:=33) (en:=44) (t8:=5) (td:=23) (e:=5) (tn:=31) (t32:=28) (t64:=29) (x.getD k Nod.zero) (y.getD k Nod.zero)).trans (congrArg (fun b=>Result.ok b _) (show ((x.getD k Nod.zero).eqb (y.getD k Nod.zero))=true from he))))) (zJ (zc (zr (zy (zp (zc (ze (zd 1 [(22,(vI k))] (zb (zv (some 23) .i64 (IntKind.i64.wrap (((k:Nat):Int)+((1:Nat):Int))) (k+1) (zG (by omega) (by omega) (by omega)) ?_))))))))))
   refine zd 1 [(5,(vI (k+1)))] (zg (zC (zS (k+1) ?_ ?_)))
   ·exact ⟨by omega,fun i hi=>by rcases Nat.lt_succ_iff_lt_or_eq.1 hi with h1 | rfl;exact heq i h1;exact (Nod.eqb_iff _ _).1 he,(hEl.trans hEw2)⟩
   ·first | omega |(dsimp only;omega)
  ·refine zh hT253 8 511 (some 32) vT (zl (bo .neq 47 (.tmp 27) (.tmp 31) (vA (zK (x.getD k Nod.zero))) (vA (zK (y.getD k Nod.zero)))) (fun w' hC=>zav (r:=false) (T:=47) ((zhl (dd:=9995) (N:=47) (R:=42) (E:=45) (r:=33) (en:=44) (t8:=5) (td:=23) (e:=5) (tn:=31) (t32:=28) (t64:=29) (x.getD k Nod.zero) (y.getD k Nod.zero)).trans (congrArg (fun b=>Result.ok b _) (show ((x.getD k Nod.zero).eqb (y.getD k Nod.zero))=false from he))))) (zJ (zc (zF (zf (ze (zd 1 [(4,(vI 0))] (zg (zc (zx ?_)))))))))
   exact zA (zu (zu (zA (zu (zB (vI 0) (⟨rfl,(hEl.trans hEw2)⟩))))))
 ·replace hc21:¬(k<n_x):=by have:=zal hc21;omega
  refine zg (zc (zr (zaf (zH (zH (zT (zc (zf (ze ?_)))))))))
  exact zd 1 [(4,(vI 1))] (zg (zc (zx (zB (vI 1) (absurd (zrI Nod.zero (by omega) (fun i hi=>heq i (by omega))) hp2)))))
end Go.Proofs.YtgdpdnokcnhgnaaGreatDoor
namespace Go.Proofs.YtgdpdnokcnhgnaaGreatDoor
open Go Go.RowKit Go.Cs
set_option maxRecDepth 100000
end Go.Proofs.YtgdpdnokcnhgnaaGreatDoor
namespace Go.Proofs.YtgdpdnokcnhgnaaGreatDoor
open Go Go.RowKit Go.Cs
set_option maxRecDepth 100000
theorem ziS (n:Nat) (w:World) (hp0:1≤n) (hp1:n≤4096):
  Calls Tryz.prog 45 #[(vI n)] w (Ret fun r w'=>∃a1 ca1 a2 ca2,r=(.tuple #[(vA [(vI n),(.slice a1 (hgt n+1) ca1),(.slice a2 (hgt n+1) ca2)]),(vI 0)])∧Es (nv .i64) w.heap.size w'.heap.size w' a1 (hgt n+1) ca1 (za7 n (hgt n+1))∧Es (nv .i64) w.heap.size w'.heap.size w' a2 (hgt n+1) ca2 (zcy n (hgt n+1))∧Ext w w'):=by
 refine zL (n:=50) (σ:= [(0,(vI n))]) Tryz.func45 rfl ?_
 have h5:=zaz n
 refine zf (ze (zb (zt (some 2) (Instr.alloc 106 true (.tuple #[])) (vP w.heap.size 0) ([(vI 0),(.slice none 0 0),(.slice none 0 0)]) 106 ?_)))
 intro w1 hBw1 hEw1
 have hzw1:=hEw1.size;have hlw1:=hBw1.lt
 refine zd 1 [(3,(vI 0))] (zg (zc (zf (ze (zd 1 [(12,(vI n))] (zb (zi (some 13) (znC n _ (by omega) (by omega)) ?_)))))))
 rintro _ w2 ⟨rfl,hEw2⟩
 have hzw2:=hEw2.size
 refine zd 5 [(5,(vI 0)),(4,(vI (hgt n))),(15,(vI 0)),(14,(vI (hgt n))),(11,(.tuple #[(vI (hgt n)),(vI 0)]))] (zg (zc (zf (zf (ze (zd 2 [(17,vF),(16,(vI 0))] (zg (zc (zr ?_)))))))))
 refine zy (zc (zf (ze (zd 2 [(21,(vA [(vI n),(.slice none 0 0),(.slice none 0 0)])),(20,(vI n))] (zb (zt (some 6) (Instr.alloc 106 true (.tuple #[])) (vP w2.heap.size 0) ([(vI 0),(.slice none 0 0),(.slice none 0 0)]) 106 ?_))))))
 intro w3 hBw3 hEw3
 have hzw3:=hEw3.size;have hlw3:=hBw3.lt
 refine zb (zz 106 w2.heap.size 0 106 (vA [(vI n),(.slice none 0 0),(.slice none 0 0)]) ([(vI 0),(.slice none 0 0),(.slice none 0 0)]) ([(vI n),(.slice none 0 0),(.slice none 0 0)]) hBw3 (by kernel_rfl) (by first | decide |(simp;done)|(simp;omega)) (by simp [Value.oneCell']) ?_)
 intro w4 hBw4 hCw4
 have hzw4:=hCw4.size
 rw [zm _ _ (by kernel_rfl)] at hBw4
 refine zg (zc (zf (ze (zd 1 [(7,(vI 0))] (zg (zc (zf (zf (ze ?_)))))))))
 refine zd 1 [(22,(vI (hgt n)))] (zb (zv (some 23) .i64 (IntKind.i64.wrap (((hgt n:Nat):Int)+((1:Nat):Int))) (hgt n+1) (zG (by omega) (by omega) (by omega)) ?_))
 refine zd 1 [(24,(vI 0))] (zg (zc (zI ?_)))
 have hK1:=(((((hBw1.ext hEw2)).ext hEw3)).chg hCw4 (fun hs=>by have h:_=_:=hs;omega))
 have hX1:Ext w w4:=(Ext.own ((hEw1.trans hEw2).trans hEw3) hCw4 (by omega))
 refine zah (X:=Nat×Nat×Nat×Option Addr×Option Addr×Nat×Nat) (fun ⟨v,g1,g2,ao,aq,cp,cq⟩=> [(7,(vI (num n v))),(24,(vI v))]) [8,9,10,25,26,27,28,29,30,31,32,33,34,35,36,37,38,39,40,41,42,43,44,45,46,47,48] (fun ⟨v,g1,g2,ao,aq,cp,cq⟩ w5=>v≤hgt n+1∧(Cs.Own (nv .i64) g1 (g1+1) w5 ao v cp 3 (za7 n v))∧(Cs.Own (nv .i64) g2 (g2+1) w5 aq v cq 3 (zcy n v))∧Blk w5 w2.heap.size ([(vI n),(.slice ao v cp),(.slice aq v cq)]) 106∧Blk w5 w.heap.size ([(vI 0),(.slice none 0 0),(.slice none 0 0)]) 106∧(g1≠g2∧g1≠w2.heap.size∧g2≠w2.heap.size∧g1≠w.heap.size∧g2≠w.heap.size∧w.heap.size≤g1∧w.heap.size≤g2∧g1≤w5.heap.size∧g2≤w5.heap.size+1)∧Ext w w5) (fun ⟨v,g1,g2,ao,aq,cp,cq⟩=>hgt n+1-v) (0,w4.heap.size,w4.heap.size+1,none,none,0,0) (by kernel_rfl) ⟨by omega,Cs.Own.nil _ _ _ _ _,Cs.Own.nil _ _ _ _ _,hBw4,hK1,by omega,hX1⟩ ?_
 rintro ⟨v,g1,g2,ao,aq,cp,cq⟩ dw5 w5 ⟨hv,hO1,hO2,hB6,hB2,hg,hEl⟩
 have hzl:=hEl.size;have hl6:=hB6.lt;have hl2:=hB2.lt
 have hns:=zei (n:=n) (l:=v) hp1 (by omega)
 have hcn:=zcF n v
 have hnx:=zjO n v
 refine zf (ze (zb (zO (some 25) (decide (((v:Nat):Int)<((hgt n+1:Nat):Int))) (fun hc25=> ?_) (fun hc25=> ?_))))
 ·replace hc25:v<hgt n+1:=by have:=zak hc25;omega
  refine zg (zc (zf (zF (zy (zc (zf (zI (zf (ze ?_)))))))))
  refine zd 2 [(8,(vI v)),(26,(vI v))] (zg (zc (zf (ze (zd 2 [(29,(vI v)),(28,(vI n))] (zb (zi (some 30) (zpG n v _ (by omega) (by omega) (by omega)) ?_)))))))
  rintro _ w6 ⟨rfl,hEw6⟩
  have hzw6:=hEw6.size
  refine zd 5 [(10,(vI 0)),(9,(vI (cnt n v))),(32,(vI 0)),(31,(vI (cnt n v))),(27,(.tuple #[(vI (cnt n v)),(vI 0)]))] (zg (zc (zf (ze (zd 1 [(33,(vP w2.heap.size 1))] (zb (zj (some 34) (Instr.loadAt 40 (vP w2.heap.size 1)) (.slice ao v cp) (zo ((hB6.ext hEw6).cell rfl)) ?_)))))))
  refine zd 1 [(35,(vI (cnt n v)))] (zb (zt (some 36) (Instr.buildSlice 40 1 #[(0,(vI (cnt n v)))]) (.slice (pA w6.heap.size 0) 1 1) [(vI (cnt n v))] 3 ?_))
  intro w7 hBw7 hEw7
  have hzw7:=hEw7.size;have hlw7:=hBw7.lt
  have hSw7:Es (nv .i64) w6.heap.size (w6.heap.size+1) w7 (pA w6.heap.size 0) 1 1 ([cnt n v]):=Es.of_blk hBw7 rfl rfl (Nat.le_refl _) (by decide) (Nat.le_refl _) (Nat.lt_succ_self _)
  have hsm1:=fun (k:Nat) (hk:zda aq k)=>((((hO2.ext hEw6)).ext hEw7)).ltk hk
  refine zb (zht (some 37) 40 40 3 8 (vI 0) (((hO1.ext hEw6)).ext hEw7) hSw7 (fun _=>rfl) ?_)
  intro b1 c1 w8 hOw8 hCw8 hqb1
  replace hqb1:=hqb1.imp_left ((((hO1.ext hEw6)).ext hEw7)).ltk
  have hlb1:b1<w8.heap.size:=(hOw8.row.lt b1 rfl).2
  have hzw8:=hCw8.size
  have hSw8:=hOw8.es
  refine zd 1 [(38,(vP w2.heap.size 1))] ?_
  have hK2:=(((((hB6.ext hEw6)).ext hEw7)).chg hCw8 (fun hs=>by have hn:=(((hO1.ext hEw6)).ext hEw7).ne hs;omega))
  refine zb (zV 40 w2.heap.size 1 106 (.slice (pA b1 0) (v+1) c1) ([(vI n),(.slice ao v cp),(.slice aq v cq)]) hK2 (by first | decide |(simp;done)|(simp;omega)) ?_)
  have hK3:=(((((hB6.ext hEw6)).ext hEw7)).chg hCw8 (fun hs=>by have hn:=(((hO1.ext hEw6)).ext hEw7).ne hs;omega))
  intro w9 hBw9 hCw9
  have hzw9:=hCw9.size
  rw [show (([(vI n),(.slice ao v cp),(.slice aq v cq)]).set 1 (.slice (pA b1 0) (v+1) c1):List Value)= [(vI n),(.slice (pA b1 0) (v+1) c1),(.slice aq v cq)] from rfl] at hBw9
  refine zg (zc (zf (ze (zd 1 [(39,(vP w2.heap.size 2))] (zb (zj (some 40) (Instr.loadAt 40 (vP w2.heap.size 2)) (.slice aq v cq) (zo (hBw9.cell rfl)) ?_))))))
  refine zd 1 [(41,(vI (num n v)))] (zb (zt (some 42) (Instr.buildSlice 40 1 #[(0,(vI (num n v)))]) (.slice (pA w9.heap.size 0) 1 1) [(vI (num n v))] 3 ?_))
  intro w10 hBw10 hEw10
  have hzw10:=hEw10.size;have hlw10:=hBw10.lt
  have hSw10:Es (nv .i64) w9.heap.size (w9.heap.size+1) w10 (pA w9.heap.size 0) 1 1 ([num n v]):=Es.of_blk hBw10 rfl rfl (Nat.le_refl _) (by decide) (Nat.le_refl _) (Nat.lt_succ_self _)
  have hK4:=(((((((((hO2.ext hEw6)).ext hEw7)).chg hCw8 (fun k h1 h2 hs=>by have hn:=(((hO1.ext hEw6)).ext hEw7).ne hs;omega))).chg hCw9 (fun k h1 h2 hs=>by have h:k=_:=hs;omega))).ext hEw10)
  refine zb (zht (some 43) 40 40 3 8 (vI 0) hK4 hSw10 (fun _=>rfl) ?_)
  intro b2 c2 w11 hOw11 hCw11 hqb2
  replace hqb2:=hqb2.imp_left (hsm1 _)
  have hlb2:b2<w11.heap.size:=(hOw11.row.lt b2 rfl).2
  have hzw11:=hCw11.size
  have hSw11:=hOw11.es
  refine zd 1 [(44,(vP w2.heap.size 2))] (zb (zV 40 w2.heap.size 2 106 (.slice (pA b2 0) (v+1) c2) ([(vI n),(.slice (pA b1 0) (v+1) c1),(.slice aq v cq)]) (((hBw9.ext hEw10)).chg hCw11 (fun hs=>by have hn:=(hsm1 _) hs;omega)) (by first | decide |(simp;done)|(simp;omega)) ?_))
  intro w12 hBw12 hCw12
  have hzw12:=hCw12.size
  rw [show (([(vI n),(.slice (pA b1 0) (v+1) c1),(.slice aq v cq)]).set 2 (.slice (pA b2 0) (v+1) c2):List Value)= [(vI n),(.slice (pA b1 0) (v+1) c1),(.slice (pA b2 0) (v+1) c2)] from rfl] at hBw12
  refine zg (zc (ze (zd 2 [(46,(vI (cnt n v))),(45,(vI (num n v)))] (zb (zv (some 47) .i64 (IntKind.i64.wrap (((num n v:Nat):Int)+((cnt n v:Nat):Int))) (num n (v+1)) (zG (by omega) (by omega) (by omega)) ?_)))))
  refine zd 1 [(7,(vI (num n (v+1))))] (zg (zp (zc (ze (zb (zv (some 48) .i64 (IntKind.i64.wrap (((v:Nat):Int)+((1:Nat):Int))) (v+1) (zG (by omega) (by omega) (by omega)) ?_))))))
  refine zd 1 [(24,(vI (v+1)))] (zg (zC ?_))
  have hK5:=((((((((hOw8).chg hCw9 (fun k h1 h2 hs=>by have h:k=_:=hs;omega))).ext hEw10)).chg hCw11 (fun k h1 h2 hs=>by have hn:=(hsm1 _) hs;omega))).chg hCw12 (fun k h1 h2 hs=>by have h:k=_:=hs;omega))
  have hK6:=(((((((((((((hB2.ext hEw6)).ext hEw7)).chg hCw8 (fun hs=>by have hn:=(((hO1.ext hEw6)).ext hEw7).ne hs;omega))).chg hCw9 (fun hs=>by have h:_=_:=hs;omega))).ext hEw10)).chg hCw11 (fun hs=>by have hn:=(hsm1 _) hs;omega))).chg hCw12 (fun hs=>by have h:_=_:=hs;omega))
  have hK7:=(((((((((hO2.ext hEw6)).ext hEw7)).chg hCw8 (fun k h1 h2 hs=>by have hn:=(((hO1.ext hEw6)).ext hEw7).ne hs;omega))).chg hCw9 (fun k h1 h2 hs=>by have h:k=_:=hs;omega))).ext hEw10)
  have hX2:Ext w w12:=(Ext.own (Ext.ownS ((Ext.own (Ext.ownS ((hEl.trans hEw6).trans hEw7) hCw8 (fun k hs hk=>by have hn:=(((hO1.ext hEw6)).ext hEw7).ne hs;omega)) hCw9 (by omega)).trans hEw10) hCw11 (fun k hs hk=>by have hn:=hK7.ne hs;omega)) hCw12 (by omega))
  refine zS (v+1,b1,b2,(pA b1 0),(pA b2 0),c1,c2) ?_ ?_
  ·exact ⟨by omega,by rw [zmd];exact hK5,by rw [zmb];exact ((hOw11).chg hCw12 (fun k h1 h2 hs=>by have h:k=_:=hs;omega)),hBw12,hK6,by omega,hX2⟩
  ·first | omega |(dsimp only;omega)
 ·replace hc25:¬(v<hgt n+1):=by have:=zal hc25;omega
  refine zg (zc (zf (zr (zaf (zH (zH (zT (zc (zf ?_)))))))))
  refine ze (zb (zj (some 49) (Instr.loadAt 106 (vP w2.heap.size 0)) (vA [(vI n),(.slice ao v cp),(.slice aq v cq)]) (zD (vs:= [(vI n),(.slice ao v cp),(.slice aq v cq)]) (hB6.all)) ?_))
  refine zb (zz 106 w.heap.size 0 106 (vA [(vI n),(.slice ao v cp),(.slice aq v cq)]) ([(vI 0),(.slice none 0 0),(.slice none 0 0)]) ([(vI n),(.slice ao v cp),(.slice aq v cq)]) hB2 (by kernel_rfl) (by first | decide |(simp;done)|(simp;omega)) (by simp [Value.oneCell']) ?_)
  intro w13 hBw13 hCw13
  have hzw13:=hCw13.size
  rw [zm _ _ (by kernel_rfl)] at hBw13
  refine zd 1 [(3,(vI 0))] (zg (zc (zx (zas (show zab Tryz.prog 50 _ _ (.cell 2 106) (vA [(vI n),(.slice ao v cp),(.slice aq v cq)]) from ⟨⟨w.heap.size,0,none⟩,(by kernel_rfl),zP (T:=106) (vs:= [(vI n),(.slice ao v cp),(.slice aq v cq)]) (hBw13).all (by kernel_rfl)⟩) (show zab Tryz.prog 50 _ _ (.tmp 3) (vI 0) by (show _=_;kernel_rfl)) ?_))))
  obtain rfl:v=hgt n+1:=by omega
  exact ⟨_,_,_,_,rfl,(((hO1).chg hCw13 (fun k h1 h2 hs=>by have h:k=_:=hs;omega))).es.now.mono (by omega) (Nat.le_refl _),(((hO2).chg hCw13 (fun k h1 h2 hs=>by have h:k=_:=hs;omega))).es.now.mono (by omega) (Nat.le_refl _),(Ext.own hEl hCw13 (by omega))⟩
theorem znQ (n:Int) (w:World) (hp0:¬(1≤n∧n≤4096)):
  Calls Tryz.prog 45 #[(.int .i64 n)] w (Ret fun r w'=>∃a1 a2,r=(.tuple #[(vA [(vI 0),(.slice a1 0 0),(.slice a2 0 0)]),(vI 1)])∧Es (nv .i64) w.heap.size w'.heap.size w' a1 0 0 ([])∧Es (nv .i64) w.heap.size w'.heap.size w' a2 0 0 ([])∧Ext w w'):=by
 refine zL (n:=50) (σ:= [(0,(.int .i64 n))]) Tryz.func45 rfl ?_
 refine zf (ze (zb (zt (some 2) (Instr.alloc 106 true (.tuple #[])) (vP w.heap.size 0) ([(vI 0),(.slice none 0 0),(.slice none 0 0)]) 106 ?_)))
 intro w1 hBw1 hEw1
 have hzw1:=hEw1.size;have hlw1:=hBw1.lt
 refine zd 1 [(3,(vI 0))] (zg (zc (zf (ze (zd 1 [(12,(.int .i64 n))] (zb (zi (some 13) (zkp n _ (by omega)) ?_)))))))
 rintro _ w2 ⟨rfl,hEw2⟩
 have hzw2:=hEw2.size
 refine zd 5 [(5,(vI 1)),(4,(vI 0)),(15,(vI 1)),(14,(vI 0)),(11,(.tuple #[(vI 0),(vI 1)]))] (zg (zc (zf (zf (ze (zd 2 [(17,vT),(16,(vI 1))] (zg (zc (zF ?_)))))))))
 refine zf (ze (zd 2 [(19,(vI 1)),(18,(vA [(vI 0),(.slice none 0 0),(.slice none 0 0)]))] (zb (zz 106 w.heap.size 0 106 (vA [(vI 0),(.slice none 0 0),(.slice none 0 0)]) ([(vI 0),(.slice none 0 0),(.slice none 0 0)]) ([(vI 0),(.slice none 0 0),(.slice none 0 0)]) (hBw1.ext hEw2) (by kernel_rfl) (by first | decide |(simp;done)|(simp;omega)) (by simp [Value.oneCell']) ?_))))
 intro w3 hBw3 hCw3
 have hzw3:=hCw3.size
 rw [zm _ _ (by kernel_rfl)] at hBw3
 exact zd 1 [(3,(vI 1))] (zg (zc (zx (zu (zas (show zab Tryz.prog 50 _ _ (.cell 2 106) (vA [(vI 0),(.slice none 0 0),(.slice none 0 0)]) from ⟨⟨w.heap.size,0,none⟩,(by kernel_rfl),zP (T:=106) (vs:= [(vI 0),(.slice none 0 0),(.slice none 0 0)]) (hBw3).all (by kernel_rfl)⟩) (show zab Tryz.prog 50 _ _ (.tmp 3) (vI 1) by (show _=_;kernel_rfl)) (⟨_,_,rfl,Es.nil _ _ _ _,Es.nil _ _ _ _,(Ext.own (hEw1.trans hEw2) hCw3 (by omega))⟩))))))
theorem zfF (n:Nat) {lo_c hi_c:Nat} {a_c:Option Addr} {n_c c_c:Nat} {c:List Nat} {lo_f hi_f:Nat} {a_f:Option Addr} {n_f c_f:Nat} {f:List Nat} (w:World) (h_c:Es (nv .i64) lo_c hi_c w a_c n_c c_c c) (h_f:Es (nv .i64) lo_f hi_f w a_f n_f c_f f) (hp0:c=za7 n (hgt n+1)) (hp1:f=zcy n (hgt n+1)) (hp2:1≤n) (hp3:n≤4096):
  Calls Tryz.prog 47 #[(vA [(vI n),(.slice a_c n_c c_c),(.slice a_f n_f c_f)])] w (Ret fun r w'=>r=(vI (tot n))∧Ext w w'):=by
 refine zL (n:=12) (σ:= [(0,(vA [(vI n),(.slice a_c n_c c_c),(.slice a_f n_f c_f)]))]) Tryz.func47 rfl ?_
 replace h_c:=h_c.now;have hle_c:=h_c.le
 replace h_f:=h_f.now;have hle_f:=h_f.le
 have hlc:=h_c.len_eq;rw [hp0,zeE] at hlc
 have hlf:=h_f.len_eq;rw [hp1,zgR] at hlf
 have h5:=zaz n
 have hts:=zbN hp3
 have htt:=zfo hp2 hp3
 have hgf:gt f (n_f-1)=num n (hgt n):=by rw [show n_f-1=hgt n from by omega,hp1];exact zkw (by omega)
 refine zf (ze (zb (zt (some 1) (Instr.box 106 (vA [(vI n),(.slice a_c n_c c_c),(.slice a_f n_f c_f)])) (vP w.heap.size 0) ([(vI n),(.slice a_c n_c c_c),(.slice a_f n_f c_f)]) 106 ?_)))
 intro w1 hBw1 hEw1
 have hzw1:=hEw1.size;have hlw1:=hBw1.lt
 refine zd 1 [(2,(vI 0))] (zg (zc (zf (ze (zd 1 [(3,(vP w.heap.size 2))] (zb (zj (some 4) (Instr.loadAt 40 (vP w.heap.size 2)) (.slice a_f n_f c_f) (zo (hBw1.cell rfl)) ?_)))))))
 refine zd 1 [(5,(vP w.heap.size 2))] (zb (zj (some 6) (Instr.loadAt 40 (vP w.heap.size 2)) (.slice a_f n_f c_f) (zo (hBw1.cell rfl)) ?_))
 refine zd 1 [(7,(vI n_f))] (zb (zv (some 8) .i64 (IntKind.i64.wrap (((n_f:Nat):Int)-((1:Nat):Int))) (n_f-1) (zG (by omega) (by omega) (by omega)) ?_))
 obtain ⟨b1,o1,rfl⟩:=h_f.addr (by omega)
 refine zb (zj (some 9) (Instr.indexAt 40 (.slice (pA b1 o1) n_f c_f) (vI (n_f-1))) (vP b1 (o1+(n_f-1)*1)) (zap (E:=3) (sz:=1) (by omega)) ?_)
 refine zb (zj (some 10) (Instr.loadAt 3 (vP b1 (o1+(n_f-1)*1))) (vI (gt f (n_f-1))) (zo ((h_f.ext hEw1).celln (by omega))) ?_)
 refine zb (zv (some 11) .i64 (IntKind.i64.wrap (((gt f (n_f-1):Nat):Int)+((1:Nat):Int))) (tot n) (zG (by omega) (by omega) (by omega)) ?_)
 exact zd 1 [(2,(vI (tot n)))] (zg (zc (zx (zB (vI (tot n)) (⟨rfl,hEw1⟩)))))
theorem zcs (n:Nat) {lo_c hi_c:Nat} {a_c:Option Addr} {n_c c_c:Nat} {c:List Nat} {lo_f hi_f:Nat} {a_f:Option Addr} {n_f c_f:Nat} {f:List Nat} (v:Nat) (j:Nat) (w:World) (h_c:Es (nv .i64) lo_c hi_c w a_c n_c c_c c) (h_f:Es (nv .i64) lo_f hi_f w a_f n_f c_f f) (hp0:c=za7 n (hgt n+1)) (hp1:f=zcy n (hgt n+1)) (hp2:1≤n) (hp3:n≤4096) (hp4:v≤hgt n) (hp5:j<cnt n v):
  Calls Tryz.prog 51 #[(vA [(vI n),(.slice a_c n_c c_c),(.slice a_f n_f c_f)]),(vI v),(vI j)] w (Ret fun r w'=>r=(vI (num n v+j))∧Ext w w'):=by
 refine zL (n:=14) (σ:= [(0,(vA [(vI n),(.slice a_c n_c c_c),(.slice a_f n_f c_f)])),(1,(vI v)),(2,(vI j))]) Tryz.func51 rfl ?_
 replace h_c:=h_c.now;have hle_c:=h_c.le
 replace h_f:=h_f.now;have hle_f:=h_f.le
 have hlc:=h_c.len_eq;rw [hp0,zeE] at hlc
 have hlf:=h_f.len_eq;rw [hp1,zgR] at hlf
 have h5:=zaz n
 have hts:=zbN hp3
 have htt:=zfo hp2 hp3
 have hgf:gt f v=num n v:=by rw [hp1];exact zkw (by omega)
 have hpl:=zbe (n:=n) (l:=v) (j:=j) hp4 hp5
 refine zf (ze (zb (zt (some 3) (Instr.box 106 (vA [(vI n),(.slice a_c n_c c_c),(.slice a_f n_f c_f)])) (vP w.heap.size 0) ([(vI n),(.slice a_c n_c c_c),(.slice a_f n_f c_f)]) 106 ?_)))
 intro w1 hBw1 hEw1
 have hzw1:=hEw1.size;have hlw1:=hBw1.lt
 refine zd 1 [(6,(vI 0))] (zg (zc (zf (ze (zd 1 [(7,(vP w.heap.size 2))] (zb (zj (some 8) (Instr.loadAt 40 (vP w.heap.size 2)) (.slice a_f n_f c_f) (zo (hBw1.cell rfl)) ?_)))))))
 refine zd 1 [(9,(vI v))] ?_
 obtain ⟨b1,o1,rfl⟩:=h_f.addr (by omega)
 refine zb (zj (some 10) (Instr.indexAt 40 (.slice (pA b1 o1) n_f c_f) (vI v)) (vP b1 (o1+v*1)) (zap (E:=3) (sz:=1) (by omega)) ?_)
 refine zb (zj (some 11) (Instr.loadAt 3 (vP b1 (o1+v*1))) (vI (gt f v)) (zo ((h_f.ext hEw1).celln (by omega))) ?_)
 refine zd 1 [(12,(vI j))] (zb (zv (some 13) .i64 (IntKind.i64.wrap (((gt f v:Nat):Int)+((j:Nat):Int))) (num n v+j) (zG (by omega) (by omega) (by omega)) ?_))
 exact zd 1 [(6,(vI (num n v+j)))] (zg (zc (zx (zB (vI (num n v+j)) (⟨rfl,hEw1⟩)))))
end Go.Proofs.YtgdpdnokcnhgnaaGreatDoor
namespace Go.Proofs.YtgdpdnokcnhgnaaGreatDoor
open Go Go.RowKit Go.Cs
set_option maxRecDepth 100000
theorem zrm (j:Nat) (b2:Nat) {lo_t hi_t:Nat} {a_t:Option Addr} {n_t c_t:Nat} {t:List Nod} (b3 n:Nat) {lo_c hi_c:Nat} {a_c:Option Addr} {n_c c_c:Nat} {c:List Nat} {a_f:Option Addr} {n_f c_f:Nat} (b4:Nat) (w:World) (hX2:Blk w b2 [.slice a_t n_t c_t] 24) (h_t:Ms zK 274 lo_t hi_t w a_t n_t c_t t) (hX3:Blk w b3 [vI n, .slice a_c n_c c_c, .slice a_f n_f c_f] 106) (h_c:Es (nv .i64) lo_c hi_c w a_c n_c c_c c) (hX4:Blk w b4 [(.func (.func 120) #[] #[(vP b2 0),(vP b3 0),(vP b4 0)])] 165) (hp0:c=za7 n (hgt n+1)) (hp1:n_t=tot n) (hp2:1≤n) (hp3:n≤4096) (hp4:j<cnt n 0):
  Calls Tryz.prog 120 #[(vI 0),(vI j),(vP b2 0),(vP b3 0),(vP b4 0)] w (Ret fun r w'=>r=(.bool (emP n t 0 j))∧Ext w w'):=by
 refine zL (n:=39) (σ:= [(0,(vI 0)),(1,(vI j)),(2,(vP b2 0)),(3,(vP b3 0)),(4,(vP b4 0))]) Tryz.func120 rfl ?_
 have hlc:=h_c.len_eq;rw [hp0,zeE] at hlc
 have hlt:=h_t.len_eq
 have h5:=zaz n
 have hts:=zbN hp3
 have hle:=h_t.le
 have hb2:=hX2.lt;have hb3:=hX3.lt;have hb4:=hX4.lt
 have hpl:=zbe (n:=n) (l:=0) (j:=j) (by omega) hp4
 have hnum:num n 0=0:=rfl
 have hnd:ndA n t 0 j=t.getD j Nod.zero:=by unfold ndA;rw [hnum,Nat.zero_add]
 refine zf (ze (zd 1 [(7,vF)] (zg (zc (zf (zf (ze (zd 1 [(9,(vI 0))] (zb (zat (some 10) (((0:Nat):Int)==((0:Nat):Int)) true (zbt (by omega)) ?_))))))))))
 refine zg (zc (zF (zf (ze (zb (zj (some 11) (Instr.loadAt 24 (vP b2 0)) (.slice a_t n_t c_t) (zo (hX2.cell rfl)) ?_))))))
 refine zd 1 [(12,(vI j))] ?_
 obtain ⟨b1,o1,rfl⟩:=h_t.addr (by omega) (by decide)
 refine zb (zj (some 13) (Instr.indexAt 24 (.slice (pA b1 o1) n_t c_t) (vI j)) (vP b1 (o1+j*274)) (zap (E:=47) (sz:=274) (by omega)) ?_)
 refine zb (zj (some 14) (Instr.loadAt 47 (vP b1 (o1+j*274))) (vA (zK (t.getD j Nod.zero))) (zD (vs:=zK (t.getD j Nod.zero)) (h_t.at Nod.zero (by omega)) (by rw [zW];kernel_rfl)) ?_)
 refine zb (zi (some 15) (zmv (t.getD j Nod.zero) _) ?_)
 rintro _ w1 ⟨rfl,hEw1⟩
 have hzw1:=hEw1.size
 refine zb (zO (some 16) ((((usd (t.getD j Nod.zero) 4:Nat):Int)==((0:Nat):Int))) (fun hc16=> ?_) (fun hc16=> ?_))
 ·replace hc16:usd (t.getD j Nod.zero) 4=0:=by have:=zbL hc16;omega
  exact zd 1 [(7,vT)] (zg (zc (zx (zu (zB vT (⟨congrArg (fun z:Bool=>Value.bool z) (by rw [emP,hnd];exact (beq_iff_eq.2 hc16).symm),hEw1⟩))))))
 ·replace hc16:¬(usd (t.getD j Nod.zero) 4=0):=by have:=zbK hc16;omega
  exact zd 1 [(7,vF)] (zg (zc (zx (zu (zB vF (⟨congrArg (fun z:Bool=>Value.bool z) (by rw [emP,hnd];exact (beq_eq_false_iff_ne.2 hc16).symm),hEw1⟩))))))
theorem zq5 (v:Nat) (j:Nat) (b2:Nat) {lo_t hi_t:Nat} {a_t:Option Addr} {n_t c_t:Nat} {t:List Nod} (b3 n:Nat) {lo_c hi_c:Nat} {a_c:Option Addr} {n_c c_c:Nat} {c:List Nat} {a_f:Option Addr} {n_f c_f:Nat} (b4:Nat) (w:World) (hX2:Blk w b2 [.slice a_t n_t c_t] 24) (h_t:Ms zK 274 lo_t hi_t w a_t n_t c_t t) (hX3:Blk w b3 [vI n, .slice a_c n_c c_c, .slice a_f n_f c_f] 106) (h_c:Es (nv .i64) lo_c hi_c w a_c n_c c_c c) (hX4:Blk w b4 [(.func (.func 120) #[] #[(vP b2 0),(vP b3 0),(vP b4 0)])] 165) (hp0:c=za7 n (hgt n+1)) (hp1:n_t=tot n) (hp2:1≤n) (hp3:n≤4096) (hp4:v≤hgt n) (hp5:j<cnt n v) (hp6:v≠0) (hih:∀(j:Nat) (lo_t hi_t lo_c hi_c:Nat) (w:World),Blk w b2 [.slice a_t n_t c_t] 24→Ms zK 274 lo_t hi_t w a_t n_t c_t t→Blk w b3 [vI n, .slice a_c n_c c_c, .slice a_f n_f c_f] 106→Es (nv .i64) lo_c hi_c w a_c n_c c_c c→Blk w b4 [(.func (.func 120) #[] #[(vP b2 0),(vP b3 0),(vP b4 0)])] 165→j<cnt n (v-1)→Calls Tryz.prog 120 #[vI (v-1),vI j,vP b2 0,vP b3 0,vP b4 0] w (Ret fun r w'=>r= .bool (emP n t (v-1) j)∧Ext w w')):
  Calls Tryz.prog 120 #[(vI v),(vI j),(vP b2 0),(vP b3 0),(vP b4 0)] w (Ret fun r w'=>r=(.bool (emP n t v j))∧Ext w w'):=by
 refine zL (n:=39) (σ:= [(0,(vI v)),(1,(vI j)),(2,(vP b2 0)),(3,(vP b3 0)),(4,(vP b4 0))]) Tryz.func120 rfl ?_
 have hlc:=h_c.len_eq;rw [hp0,zeE] at hlc
 have hlt:=h_t.len_eq
 have h5:=zaz n
 have hts:=zbN hp3
 have hle:=h_t.le
 have hb2:=hX2.lt;have hb3:=hX3.lt;have hb4:=hX4.lt
 have hcn:=zcF n v
 have hup:=zc9 (n:=n) (l:=v) (by omega)
 have hcm:=zcF n (v-1)
 have hgc:gt c (v-1)=cnt n (v-1):=by rw [hp0];exact zeC (by omega)
 refine zf (ze (zd 1 [(7,vF)] (zg (zc (zf (zf (ze (zd 1 [(9,(vI v))] (zb (zat (some 10) (((v:Nat):Int)==((0:Nat):Int)) false (zbW (by omega)) ?_))))))))))
 refine zg (zc (zr (zy (zc (zf (zf (ze (zd 1 [(17,(vI j))] (zb (zv (some 18) .i64 (IntKind.i64.wrap (((4:Nat):Int)*((j:Nat):Int))) (4*j) (zG (by omega) (by omega) (by omega)) ?_))))))))))
 refine zd 1 [(8,(vI (4*j)))] (zg (zc (zI (zah (X:=Nat) (fun x=> [(8,(vI (4*j+x)))]) [7,19,20,21,22,23,24,25,26,27,28,29,30,31,32,33,34,35,36,37,38] (fun x w1=>x≤prt n v j∧(∀y,y<x→emP n t (v-1) (4*j+y)=true)∧Ext w w1) (fun x=>4-x) 0 (by kernel_rfl) ⟨Nat.zero_le _,fun y h=>absurd h (Nat.not_lt_zero _),(Ext.refl _)⟩ ?_))))
 rintro x dw1 w1 ⟨hx,hal,hEl⟩
 have hzl:=hEl.size
 have hp4:=zdO n v j
 have hlw:=fun h4=>za3 (n:=n) (l:=v) (j:=j) (w:=x) h4
 refine zf (zf (ze (zd 2 [(20,(vI j)),(19,(vI (4*j+x)))] (zb (zv (some 21) .i64 (IntKind.i64.wrap (((j:Nat):Int)+((1:Nat):Int))) (j+1) (zG (by omega) (by omega) (by omega)) ?_)))))
 refine zb (zv (some 22) .i64 (IntKind.i64.wrap (((4:Nat):Int)*((j+1:Nat):Int))) (4*(j+1)) (zG (by omega) (by omega) (by omega)) ?_)
 refine zd 1 [(23,(vP b3 1))] (zb (zj (some 24) (Instr.loadAt 40 (vP b3 1)) (.slice a_c n_c c_c) (zo ((hX3.ext hEl).cell rfl)) ?_))
 refine zd 1 [(25,(vI v))] (zb (zv (some 26) .i64 (IntKind.i64.wrap (((v:Nat):Int)-((1:Nat):Int))) (v-1) (zG (by omega) (by omega) (by omega)) ?_))
 obtain ⟨b1,o1,rfl⟩:=h_c.addr (by omega)
 refine zb (zj (some 27) (Instr.indexAt 40 (.slice (pA b1 o1) n_c c_c) (vI (v-1))) (vP b1 (o1+(v-1)*1)) (zap (E:=3) (sz:=1) (by omega)) ?_)
 refine zb (zj (some 28) (Instr.loadAt 3 (vP b1 (o1+(v-1)*1))) (vI (gt c (v-1))) (zo ((h_c.ext hEl).celln (by omega))) ?_)
 refine zb (zhy (some 29) (.int .i64 (if ((gt c (v-1):Nat):Int)<((4*(j+1):Nat):Int) then ((gt c (v-1):Nat):Int) else ((4*(j+1):Nat):Int))) (vI (min (4*(j+1)) (gt c (v-1)))) (congrArg _ (zlK _ _)) ?_)
 refine zb (zO (some 30) (decide (((4*j+x:Nat):Int)<((min (4*(j+1)) (gt c (v-1)):Nat):Int))) (fun hc30=> ?_) (fun hc30=> ?_))
 ·replace hc30:4*j+x<min (4*(j+1)) (gt c (v-1)):=by have:=zak hc30;omega
  have hx4:x<4:=by omega
  have hxp:x<prt n v j:=(hlw hx4).2 (by omega)
  refine zg (zc (zF (zy (zc (zf (zI (zf (ze (zb (zj (some 33) (Instr.loadAt 165 (vP b4 0)) (.func (.func 120) #[] #[(vP b2 0),(vP b3 0),(vP b4 0)]) (zo ((hX4.ext hEl).cell rfl)) ?_))))))))))
  refine zd 1 [(34,(vI v))] (zb (zv (some 35) .i64 (IntKind.i64.wrap (((v:Nat):Int)-((1:Nat):Int))) (v-1) (zG (by omega) (by omega) (by omega)) ?_))
  refine zd 1 [(36,(vI (4*j+x)))] ?_
  rcases (show emP n t (v-1) (4*j+x)=true∨emP n t (v-1) (4*j+x)=false by cases emP n t (v-1) (4*j+x)<;>simp) with he | he
  ·refine zb (zi (some 37) (hih (4*j+x) _ _ _ _ _ (hX2.ext hEl) (h_t.ext hEl) (hX3.ext hEl) (h_c.ext hEl) (hX4.ext hEl) (by omega)) ?_)
   rintro _ w2 ⟨rfl,hEw2⟩
   have hzw2:=hEw2.size
   rw [show emP n t (v-1) (4*j+x)=true from he]
   refine zd 1 [(38,vF)] (zg (zc (zr (zy (zp (zc (ze (zd 1 [(31,(vI (4*j+x)))] (zb (zv (some 32) .i64 (IntKind.i64.wrap (((4*j+x:Nat):Int)+((1:Nat):Int))) (4*j+x+1) (zG (by omega) (by omega) (by omega)) ?_))))))))))
   refine zd 1 [(8,(vI (4*j+x+1)))] (zg (zC (zS (x+1) ?_ ?_)))
   ·exact ⟨by omega,fun y hy=>by rcases Nat.lt_succ_iff_lt_or_eq.1 hy with h1 | rfl;exact hal y h1;exact he,(hEl.trans hEw2)⟩
   ·first | omega |(dsimp only;omega)
  ·refine zb (zi (some 37) (hih (4*j+x) _ _ _ _ _ (hX2.ext hEl) (h_t.ext hEl) (hX3.ext hEl) (h_c.ext hEl) (hX4.ext hEl) (by omega)) ?_)
   rintro _ w3 ⟨rfl,hEw3⟩
   have hzw3:=hEw3.size
   rw [show emP n t (v-1) (4*j+x)=false from he]
   refine zd 1 [(38,vT)] (zg (zc (zF (zf (ze (zd 1 [(7,vF)] (zg (zc (zx ?_)))))))))
   refine zA (zu (zu (zA (zu (zB vF ?_)))))
   obtain ⟨u,rfl⟩:∃u,v=u+1:=⟨v-1,by omega⟩
   exact ⟨congrArg (fun z:Bool=>Value.bool z) ((zoJ (l:=u) hxp he).symm),(hEl.trans hEw3)⟩
 ·replace hc30:¬(4*j+x<min (4*(j+1)) (gt c (v-1))):=by have:=zal hc30;omega
  have hxe:x=prt n v j:=by rcases Nat.lt_or_ge x (prt n v j) with hh | hh;exact absurd ((hlw (by omega)).1 hh) (by omega);omega
  refine zg (zc (zr (zaf (zH (zH (zT (zc (zf (ze ?_)))))))))
  refine zd 1 [(7,vT)] (zg (zc (zx (zB vT ?_))))
  obtain ⟨u,rfl⟩:∃u,v=u+1:=⟨v-1,by omega⟩
  exact ⟨congrArg (fun z:Bool=>Value.bool z) (((zj2 (l:=u)).2 (fun y hy=>hal y (by omega))).symm),hEl⟩
theorem zl5 {b2 b3 b4:Nat} {a_t:Option Addr} {n_t c_t:Nat} {t:List Nod} {n:Nat} {a_c:Option Addr} {n_c c_c:Nat} {c:List Nat} {a_f:Option Addr} {n_f c_f:Nat} (h1:1≤n) (h2:n≤4096) (h3:n_t=tot n) (h4:c=za7 n (hgt n+1)):∀(v j lo_t hi_t lo_c hi_c:Nat) (w:World),Blk w b2 [.slice a_t n_t c_t] 24→Ms zK 274 lo_t hi_t w a_t n_t c_t t→Blk w b3 [vI n, .slice a_c n_c c_c, .slice a_f n_f c_f] 106→Es (nv .i64) lo_c hi_c w a_c n_c c_c c→Blk w b4 [(.func (.func 120) #[] #[(vP b2 0),(vP b3 0),(vP b4 0)])] 165→v≤hgt n→j<cnt n v→
  Calls Tryz.prog 120 #[vI v,vI j,vP b2 0,vP b3 0,vP b4 0] w (Ret fun r w'=>r= .bool (emP n t v j)∧Ext w w')
 | 0,j,_,_,_,_,w,x2,xt,x3,xc,x4,_,hj=>zrm j b2 b3 n b4 w x2 xt x3 xc x4 h4 h3 h1 h2 hj
 | v+1,j,_,_,_,_,w,x2,xt,x3,xc,x4,hv,hj=>zq5 (v+1) j b2 b3 n b4 w x2 xt x3 xc x4 h4 h3 h1 h2 hv hj (Nat.succ_ne_zero v) (fun j' lo1 hi1 lo2 hi2 w' y2 yt y3 yc y4 hj'=>zl5 h1 h2 h3 h4 v j' lo1 hi1 lo2 hi2 w' y2 yt y3 yc y4 (by omega) hj')
theorem zdm (v:Nat) (j:Nat) (b2:Nat) {lo_t hi_t:Nat} {a_t:Option Addr} {n_t c_t:Nat} {t:List Nod} (b3 n:Nat) {lo_c hi_c:Nat} {a_c:Option Addr} {n_c c_c:Nat} {c:List Nat} {a_f:Option Addr} {n_f c_f:Nat} (b4:Nat) (w:World) (hX2:Blk w b2 [.slice a_t n_t c_t] 24) (h_t:Ms zK 274 lo_t hi_t w a_t n_t c_t t) (hX3:Blk w b3 [vI n, .slice a_c n_c c_c, .slice a_f n_f c_f] 106) (h_c:Es (nv .i64) lo_c hi_c w a_c n_c c_c c) (hX4:Blk w b4 [(.func (.func 120) #[] #[(vP b2 0),(vP b3 0),(vP b4 0)])] 165) (hp0:c=za7 n (hgt n+1)) (hp1:n_t=tot n) (hp2:1≤n) (hp3:n≤4096) (hp4:v≤hgt n) (hp5:j<cnt n v):
  Calls Tryz.prog 120 #[(vI v),(vI j),(vP b2 0),(vP b3 0),(vP b4 0)] w (Ret fun r w'=>r=(.bool (emP n t v j))∧Ext w w'):=by
 exact zl5 hp2 hp3 hp1 hp0 v j _ _ _ _ w hX2 h_t hX3 h_c hX4 hp4 hp5
end Go.Proofs.YtgdpdnokcnhgnaaGreatDoor
namespace Go.Proofs.YtgdpdnokcnhgnaaGreatDoor
open Go Go.RowKit Go.Cs
set_option maxRecDepth 100000
theorem zpD (n:Nat) {lo_c hi_c:Nat} {a_c:Option Addr} {n_c c_c:Nat} {c:List Nat} {lo_f hi_f:Nat} {a_f:Option Addr} {n_f c_f:Nat} {f:List Nat} {lo_t hi_t:Nat} {a_t:Option Addr} {n_t c_t:Nat} {t:List Nod} (w:World) (h_c:Es (nv .i64) lo_c hi_c w a_c n_c c_c c) (h_f:Es (nv .i64) lo_f hi_f w a_f n_f c_f f) (h_t:Ms zK 274 lo_t hi_t w a_t n_t c_t t):
  Calls Tryz.prog 104 #[(vA [(vI n),(.slice a_c n_c c_c),(.slice a_f n_f c_f)]),(.slice a_t n_t c_t)] w (Ret fun r w'=>∃(a0:Nat) (a0y:Nat) (a0z:Nat),r=(.func (.func 120) #[] #[(vP a0 0),(vP a0y 0),(vP a0z 0)])∧(w.heap.size≤a0∧w.heap.size≤a0y∧w.heap.size≤a0z)∧Blk w' a0 [.slice a_t n_t c_t] 24∧Blk w' a0y [vI n, .slice a_c n_c c_c, .slice a_f n_f c_f] 106∧Blk w' a0z [(.func (.func 120) #[] #[(vP a0 0),(vP a0y 0),(vP a0z 0)])] 165∧Ext w w'):=by
 refine zL (n:=8) (σ:= [(0,(vA [(vI n),(.slice a_c n_c c_c),(.slice a_f n_f c_f)])),(1,(.slice a_t n_t c_t))]) Tryz.func104 rfl ?_
 replace h_c:=h_c.now;have hle_c:=h_c.le
 replace h_f:=h_f.now;have hle_f:=h_f.le
 replace h_t:=h_t.now;have hle_t:=h_t.le
 refine zf (ze (zb (zt (some 2) (Instr.box 106 (vA [(vI n),(.slice a_c n_c c_c),(.slice a_f n_f c_f)])) (vP w.heap.size 0) ([(vI n),(.slice a_c n_c c_c),(.slice a_f n_f c_f)]) 106 ?_)))
 intro w1 hBw1 hEw1
 have hzw1:=hEw1.size;have hlw1:=hBw1.lt
 refine zb (zt (some 3) (Instr.box 24 (.slice a_t n_t c_t)) (vP w1.heap.size 0) ([(.slice a_t n_t c_t)]) 24 ?_)
 intro w2 hBw2 hEw2
 have hzw2:=hEw2.size;have hlw2:=hBw2.lt
 refine zd 1 [(4, .nilFunc)] (zg (zc (zf (ze (zb (zt (some 5) (Instr.alloc 165 true (.tuple #[])) (vP w2.heap.size 0) ([.nilFunc]) 165 ?_))))))
 intro w3 hBw3 hEw3
 have hzw3:=hEw3.size;have hlw3:=hBw3.lt
 refine zg (zc (zf (ze (zd 1 [(6,(.func (.func 120) #[] #[(vP w1.heap.size 0),(vP w.heap.size 0),(vP w2.heap.size 0)]))] (zb (zV 165 w2.heap.size 0 165 (.func (.func 120) #[] #[(vP w1.heap.size 0),(vP w.heap.size 0),(vP w2.heap.size 0)]) ([.nilFunc]) hBw3 (by first | decide |(simp;done)|(simp;omega)) ?_))))))
 intro w4 hBw4 hCw4
 have hzw4:=hCw4.size
 replace hBw4:=hBw4.set1
 refine zg (zc (zf (ze (zb (zj (some 7) (Instr.loadAt 165 (vP w2.heap.size 0)) (.func (.func 120) #[] #[(vP w1.heap.size 0),(vP w.heap.size 0),(vP w2.heap.size 0)]) (zo (hBw4.cell rfl)) ?_)))))
 refine zd 1 [(4,(.func (.func 120) #[] #[(vP w1.heap.size 0),(vP w.heap.size 0),(vP w2.heap.size 0)]))] (zg (zc (zx (zB (.func (.func 120) #[] #[(vP w1.heap.size 0),(vP w.heap.size 0),(vP w2.heap.size 0)]) ?_))))
 have hK1:=(((((hBw1.ext hEw2)).ext hEw3)).chg hCw4 (fun hs=>by have h:_=_:=hs;omega))
 have hX1:Ext w w4:=(Ext.own ((hEw1.trans hEw2).trans hEw3) hCw4 (by omega))
 exact ⟨w1.heap.size,w.heap.size,w2.heap.size,rfl,by omega,(((hBw2.ext hEw3)).chg hCw4 (fun hs=>by have h:_=_:=hs;omega)),hK1,hBw4,hX1⟩
end Go.Proofs.YtgdpdnokcnhgnaaGreatDoor
namespace Go.Cs
open Go Go.RowKit Go.Extern.Stop Go.Stop Go.Extern
theorem ziy (z:Sem Value) (f:TypeId→Addr→Nat→Nat→Sem Value) (v:Value):
  ReflectliteValue.method z f #[v]=(do match←ReflectliteValue.parts v with | none=>z | some (t,a,fl)=>f t a fl (fl%32)):=rfl
theorem zqM (v x:Value):ReflectliteValue.set #[v,x]=(do
  let (some (dst,a,fl),some (src,b,_)):=(←ReflectliteValue.parts v,←ReflectliteValue.parts x)
   | unsupported (.noEntry "extern/(internal/reflectlite.Value).Set.zeroValue")
  if fl/ReflectliteValue.flagAddr%2==0 then unsupported (.noEntry "extern/(internal/reflectlite.Value).Set.unaddressable")
  let val←loadVar src b
  if←Rtype.directlyAssignable dst src then storeVar dst a val
  else if←Rtype.implements dst src then
   if (←Rtype.kind src)==20 then
    match val with
    | .nilIface=>unsupported (.noEntry "extern/reflectlite: a nil value of one interface type handed on as a value of another")
    | _=>storeVar dst a val
   else storeVar dst a (.iface src val)
  else panicString ("reflectlite.Set: value of type " ++(←Rtype.spelt src)++ " is not assignable to type " ++(←Rtype.spelt dst))
  pure (.tuple #[])):=rfl
theorem zg7 {P:Program} {T b e:Nat} {w:World} {cs vs:List Value} (hB:Blk w b cs e) (hsz:(P.info? T).map (·.size)=some vs.length) (hl:cs.length=vs.length) (h1:∀u∈vs,u.oneCell'=true):
  ∃w',(storeVar T ⟨b,0,none⟩ (.agg vs.toArray)).run P w= .ok () w'∧Blk w' b vs e∧Chg (· =b) w w':=by
 obtain ⟨w',h2,h3,h4⟩:=zco (P:=P) vs w b 0 0 cs e hB (by omega) h1
 refine ⟨w', ?_, ?_,h4⟩
 ·have h5:=za6 (w:=w) hsz
  simp [storeVar,Value.cells,h5,h2]
 ·have:zad cs 0 vs=vs:=zm _ _ hl.symm
  rw [←this];simpa using h3
end Go.Cs
namespace Go.Proofs.YtgdpdnokcnhgnaaGreatDoor
open Go Go.RowKit Go.Cs
set_option maxRecDepth 100000
open Go.Extern.Stop Go.Stop Go.Extern
theorem zon (t:Value) (w:World):Calls Tryz.prog 68 #[.nilIface,t] w fun e w'=>e= .returned (.bool false)∧w'=w:=by
 go_enter Tryz.func68,Tryz.ntmps68
 go_wp2
 go_ret
 exact ⟨rfl,rfl⟩
theorem ziP (t:Addr) (w:World):(ReflectliteValue.unpack (.iface 141 (.pointer (some t)))).run Tryz.prog w= .ok (.agg #[.pointer (some ⟨4,141,none⟩), .pointer (some ⟨w.heap.size,0,none⟩), .int .u64 150]) (w.alloc (.cells #[.pointer (some t)] 141)):=by kernel_rfl
theorem zle (a:Addr) (w:World):(ReflectliteValue.methodAny (ReflectliteValue.valueError "reflectlite.Value.Type" 0) (fun t _ _ _=>ReflectliteType.toType t) #[.agg #[.pointer (some ⟨4,141,none⟩), .pointer (some a), .int .u64 150]]).run Tryz.prog w= .ok (.iface 199 (.agg #[.pointer (some ⟨4,141,none⟩)])) w:=by kernel_rfl
theorem zk8 (h:Value) (w:World):(Go.method 347 199 (.agg #[h]) "Kind").run Tryz.prog w= .ok (142,h) w:=by kernel_rfl
theorem zlV (w:World):((ReflectliteType.abiMethod fun t=>(fun a:Nat=>Value.int IntKind.u8 (a:Int))<$>Rtype.kind t) #[.pointer (some ⟨4,141,none⟩)]).run Tryz.prog w= .ok (.int .u8 22) w:=by kernel_rfl
theorem zlH (w:World):((ReflectliteType.abiMethod fun t=>(fun a:Nat=>Value.int IntKind.u8 (a:Int))<$>Rtype.kind t) #[.pointer (some ⟨4,139,none⟩)]).run Tryz.prog w= .ok (.int .u8 25) w:=by kernel_rfl
theorem zgI (a:Addr) (w:World):(ReflectliteValue.parts (.agg #[.pointer (some ⟨4,141,none⟩), .pointer (some a), .int .u64 150])).run Tryz.prog w= .ok (some (141,a,150)) w:=by kernel_rfl
theorem zj6 (a p:Addr) (W:World) (ha:W.cell? a=some (.pointer (some p))):
  (ReflectliteValue.method (ReflectliteValue.valueError "reflectlite.Value.IsNil" 0) ReflectliteValue.isNil #[.agg #[.pointer (some ⟨4,141,none⟩), .pointer (some a), .int .u64 150]]).run Tryz.prog W= .ok (.bool false) W:=by
 rw [ziy]
 simp only [Sem.run_bind,zgI,Result.andThen]
 simp [ReflectliteValue.isNil,loadVar,isAgg,underlying,Tryz.underlying141,ha,Result.andThen]
theorem zla (h:Value) (w:World):(Go.method 347 199 (.agg #[h]) "Elem").run Tryz.prog w= .ok (153, .agg #[h]) w:=by kernel_rfl
theorem zlD (h:Value) (w:World):(Go.method 347 199 (.agg #[h]) "Implements").run Tryz.prog w= .ok (154, .agg #[h]) w:=by kernel_rfl
theorem zmK (h:Value) (w:World):(Go.method 347 199 (.agg #[h]) "AssignableTo").run Tryz.prog w= .ok (151, .agg #[h]) w:=by kernel_rfl
theorem zlm (w:World):(ReflectliteType.method ReflectliteType.elem #[.agg #[.pointer (some ⟨4,141,none⟩)]]).run Tryz.prog w= .ok (.iface 199 (.agg #[.pointer (some ⟨4,139,none⟩)])) w:=by kernel_rfl
theorem zlY (w:World):(ReflectliteType.relation "Implements" ReflectliteType.implements_ #[.agg #[.pointer (some ⟨4,139,none⟩)], .iface 199 (.agg #[.pointer (some ⟨4,99,none⟩)])]).run Tryz.prog w= .ok (.bool true) w:=by kernel_rfl
theorem zjX (v:Value) (w:World):(ReflectliteType.typeOf #[.iface 139 v]).run Tryz.prog w= .ok (.iface 199 (.agg #[.pointer (some ⟨4,139,none⟩)])) w:=by kernel_rfl
theorem znj (w:World):(ReflectliteType.relation "AssignableTo" ReflectliteType.assignableTo #[.agg #[.pointer (some ⟨4,139,none⟩)], .iface 199 (.agg #[.pointer (some ⟨4,139,none⟩)])]).run Tryz.prog w= .ok (.bool true) w:=by kernel_rfl
theorem ziM (x y:Value) (w:World):(ReflectliteValue.unpack (.iface 139 (.agg #[x,y]))).run Tryz.prog w= .ok (.agg #[.pointer (some ⟨4,139,none⟩), .pointer (some ⟨w.heap.size,0,none⟩), .int .u64 153]) (w.alloc (.cells #[x,y] 139)):=by kernel_rfl
theorem zkk (w:World):(Rtype.elem? 141).run Tryz.prog w= .ok (some 139) w:=by kernel_rfl
theorem zn5 (p:Addr) (w:World):(ReflectliteValue.mk 139 p ReflectliteValue.flagAddr).run Tryz.prog w= .ok (.agg #[.pointer (some ⟨4,139,none⟩), .pointer (some p), .int .u64 409]) w:=by kernel_rfl
theorem zlq (a p:Addr) (W:World) (ha:W.cell? a=some (.pointer (some p))):
  (ReflectliteValue.method (ReflectliteValue.valueError "reflectlite.Value.Elem" 0) ReflectliteValue.elem #[.agg #[.pointer (some ⟨4,141,none⟩), .pointer (some a), .int .u64 150]]).run Tryz.prog W= .ok (.agg #[.pointer (some ⟨4,139,none⟩), .pointer (some p), .int .u64 409]) W:=by
 rw [ziy]
 simp only [Sem.run_bind,zgI,Result.andThen]
 simp [ReflectliteValue.elem,loadVar,isAgg,underlying,Tryz.underlying141,ha,Result.andThen,zkk,zn5]
theorem zj9 (a:Addr) (w:World):(ReflectliteValue.parts (.agg #[.pointer (some ⟨4,139,none⟩), .pointer (some a), .int .u64 409])).run Tryz.prog w= .ok (some (139,a,409)) w:=by kernel_rfl
theorem zkg (a:Addr) (w:World):(ReflectliteValue.parts (.agg #[.pointer (some ⟨4,139,none⟩), .pointer (some a), .int .u64 153])).run Tryz.prog w= .ok (some (139,a,153)) w:=by kernel_rfl
theorem zj8 (w:World):(Rtype.directlyAssignable 139 139).run Tryz.prog w= .ok true w:=by kernel_rfl
theorem zos {b s:Nat} {x y u v:Value} {W:World} (hs:Blk W s [x,y] 139) (hb:Blk W b [u,v] 139) (h1:x.oneCell'=true) (h2:y.oneCell'=true):
  ∃w',(ReflectliteValue.set #[.agg #[.pointer (some ⟨4,139,none⟩), .pointer (some ⟨b,0,none⟩), .int .u64 409], .agg #[.pointer (some ⟨4,139,none⟩), .pointer (some ⟨s,0,none⟩), .int .u64 153]]).run Tryz.prog W= .ok (.tuple #[]) w'∧Blk w' b [x,y] 139∧Chg (· =b) W w':=by
 obtain ⟨w',h3,h4,h5⟩:=zg7 (P:=Tryz.prog) (T:=139) (vs:= [x,y]) hb (by kernel_rfl) rfl (by
  intro u hu;simp only [List.mem_cons,List.mem_nil_iff,or_false] at hu;rcases hu with rfl | rfl;exact h1;exact h2)
 refine ⟨w', ?_,h4,h5⟩
 have hl:=zP (P:=Tryz.prog) (T:=139) (hs.at 0 [x,y] rfl) (by kernel_rfl) (by kernel_rfl)
 rw [zqM]
 simp only [Sem.run_bind,zj9,zkg,Result.andThen]
 simp [ReflectliteValue.flagAddr,hl,Result.andThen,zj8,h3]
set_option maxHeartbeats 4000000 in
theorem zol {b:Nat} {x y u v:Value} {w:World} (hg:Gl 1 [.iface 199 (.agg #[.pointer (some ⟨4,99,none⟩)])] w) (hb:Blk w b [u,v] 139) (h1:x.oneCell'=true) (h2:y.oneCell'=true):
  Calls Tryz.prog 68 #[.iface 139 (.agg #[x,y]), .iface 141 (.pointer (some ⟨b,0,none⟩))] w fun ev w'=>ev= .returned (.bool true)∧Blk w' b [x,y] 139∧Chg (· =b) w w':=by
 have h6:= @run_callFunc_extern Tryz.prog 94 _ (fun args=>ReflectliteValue.unpack (args.getD 0 (.tuple #[]))) Tryz.func94 (by kernel_rfl) (by kernel_rfl) (by kernel_rfl) (by kernel_rfl)
 have h7:= @run_callFunc_extern Tryz.prog 95 _ (ReflectliteValue.methodAny (ReflectliteValue.valueError "reflectlite.Value.Type" 0) (fun t _ _ _=>ReflectliteType.toType t)) Tryz.func95 (by kernel_rfl) (by kernel_rfl) (by kernel_rfl) (by kernel_rfl)
 have h8:= @run_callFunc_extern Tryz.prog 96 _ (ReflectliteValue.method (ReflectliteValue.valueError "reflectlite.Value.IsNil" 0) ReflectliteValue.isNil) Tryz.func96 (by kernel_rfl) (by kernel_rfl) (by kernel_rfl) (by kernel_rfl)
 have h27:= @run_callFunc_extern Tryz.prog 142 _ (ReflectliteType.abiMethod fun t=>do pure (.int .u8 (←Rtype.kind t))) Tryz.func142 (by kernel_rfl) (by kernel_rfl) (by kernel_rfl) (by kernel_rfl)
 have h37:= @run_callFunc_extern Tryz.prog 153 _ (ReflectliteType.method ReflectliteType.elem) Tryz.func153 (by kernel_rfl) (by kernel_rfl) (by kernel_rfl) (by kernel_rfl)
 have h38:= @run_callFunc_extern Tryz.prog 154 _ (ReflectliteType.relation "Implements" ReflectliteType.implements_) Tryz.func154 (by kernel_rfl) (by kernel_rfl) (by kernel_rfl) (by kernel_rfl)
 have h10:= @run_callFunc_extern Tryz.prog 114 _ ReflectliteType.typeOf Tryz.func114 (by kernel_rfl) (by kernel_rfl) (by kernel_rfl) (by kernel_rfl)
 have h35:= @run_callFunc_extern Tryz.prog 151 _ (ReflectliteType.relation "AssignableTo" ReflectliteType.assignableTo) Tryz.func151 (by kernel_rfl) (by kernel_rfl) (by kernel_rfl) (by kernel_rfl)
 have h11:= @run_callFunc_extern Tryz.prog 115 _ (ReflectliteValue.method (ReflectliteValue.valueError "reflectlite.Value.Elem" 0) ReflectliteValue.elem) Tryz.func115 (by kernel_rfl) (by kernel_rfl) (by kernel_rfl) (by kernel_rfl)
 have h12:= @run_callFunc_extern Tryz.prog 116 _ ReflectliteValue.set Tryz.func116 (by kernel_rfl) (by kernel_rfl) (by kernel_rfl) (by kernel_rfl)
 have tO:=zjX
 have mA:=zmK
 have aF:=znj
 have vF:=ziM
 have f6:=ziP
 have f7:=zle
 have mK:=zk8
 have mE:=zla
 have mI:=zlD
 have kP:=zlV
 have kF:=zlH
 have eP:=zlm
 have iF:=zlY
 have hbl:=hb.lt
 have hgl:=hg.lt
 have n8:=zj6 ⟨w.heap.size,0,none⟩ ⟨b,0,none⟩ ((w.alloc (.cells #[.pointer (some ⟨b,0,none⟩)] 141)).alloc (.cells #[.pointer (some ⟨4,141,none⟩), .pointer (some ⟨w.heap.size,0,none⟩), .int .u64 150] 171)) (by simp)
 have hg0:w.cell? ⟨1,0,none⟩=some (.iface 199 (.agg #[.pointer (some ⟨4,99,none⟩)])):=hg.all 0 _ rfl
 have hg2:((w.alloc (.cells #[.pointer (some ⟨b,0,none⟩)] 141)).alloc (.cells #[.pointer (some ⟨4,141,none⟩), .pointer (some ⟨w.heap.size,0,none⟩), .int .u64 150] 171)).cell? ⟨1,0,none⟩=some (.iface 199 (.agg #[.pointer (some ⟨4,99,none⟩)])):=by
  rw [World.cell?_alloc_lt _ _ ⟨1,0,none⟩ (by simp;omega),World.cell?_alloc_lt _ _ ⟨1,0,none⟩ hgl];exact hg0
 have el:=zlq ⟨w.heap.size,0,none⟩ ⟨b,0,none⟩ (((w.alloc (.cells #[.pointer (some ⟨b,0,none⟩)] 141)).alloc (.cells #[.pointer (some ⟨4,141,none⟩), .pointer (some ⟨w.heap.size,0,none⟩), .int .u64 150] 171)).alloc (.cells #[.pointer (some ⟨4,141,none⟩), .pointer (some ⟨w.heap.size,0,none⟩), .int .u64 150] 171)) (by rw [World.cell?_alloc_lt _ _ ⟨w.heap.size,0,none⟩ (by simp;omega)];simp)
 have e1:=Ext.alloc w (.cells #[.pointer (some ⟨b,0,none⟩)] 141)
 have e2:=e1.trans (Ext.alloc _ (.cells #[.pointer (some ⟨4,141,none⟩), .pointer (some ⟨w.heap.size,0,none⟩), .int .u64 150] 171))
 have e3:=e2.trans (Ext.alloc _ (.cells #[.pointer (some ⟨4,141,none⟩), .pointer (some ⟨w.heap.size,0,none⟩), .int .u64 150] 171))
 have e4:=e3.trans (Ext.alloc _ (.cells #[x,y] 139))
 obtain ⟨wS,st,hBS,hCS⟩:=zos (s:=w.heap.size+1+1+1) (by have hz:=Blk.new (((w.alloc (.cells #[.pointer (some ⟨b,0,none⟩)] 141)).alloc (.cells #[.pointer (some ⟨4,141,none⟩), .pointer (some ⟨w.heap.size,0,none⟩), .int .u64 150] 171)).alloc (.cells #[.pointer (some ⟨4,141,none⟩), .pointer (some ⟨w.heap.size,0,none⟩), .int .u64 150] 171)) [x,y] 139;simpa using hz) (hb.ext e4) h1 h2
 go_enter Tryz.func68,Tryz.ntmps68
 go_wp2
 refine wp_loop_rounds 1 ?_
 rw [rounds_succ]
 go_wp2
 go_ret
 exact ⟨rfl,hBS,(Ext.chg e4).trans hCS⟩
end Go.Proofs.YtgdpdnokcnhgnaaGreatDoor
namespace Go.Proofs.YtgdpdnokcnhgnaaGreatDoor
open Go Go.RowKit Go.Cs
set_option maxRecDepth 100000
theorem zmk {b:Nat} {x y u v:Value} {w:World} (hg:Gl 1 [.iface 199 (.agg #[.pointer (some ⟨4,99,none⟩)])] w) (hb:Blk w b [u,v] 139) (h1:x.oneCell'=true) (h2:y.oneCell'=true):
  Calls Tryz.prog 68 #[.iface 139 (.agg #[x,y]), .iface 141 (.pointer (some ⟨b,0,none⟩))] w (Ret fun r w'=>r= .bool true∧Blk w' b [x,y] 139∧Chg (· =b) w w'):=
 (zol hg hb h1 h2).mono fun e w' h=>⟨_,h.1,rfl,h.2⟩
theorem zmB (t:Value) (w:World):Calls Tryz.prog 68 #[.nilIface,t] w (Ret fun r w'=>r= .bool false∧w'=w):=
 (zon t w).mono fun e w' h=>⟨_,h.1,rfl,h.2⟩
theorem zpA (w:World):
  Calls Tryz.prog 39 #[.nilIface] w (Ret fun r w'=>r=(vI 0)∧Ext w w'):=by
 refine zL (n:=9) (σ:= [(0, .nilIface)]) Tryz.func39 rfl ?_
 refine zf (ze (zd 1 [(2,(vI 0))] (zg (zc (zf (ze (zb (zt (some 3) (Instr.alloc 139 true (.tuple #[])) (vP w.heap.size 0) ([(vI 0),(vI 0)]) 139 ?_))))))))
 intro w1 hBw1 hEw1
 have hzw1:=hEw1.size;have hlw1:=hBw1.lt
 refine zg (zc (zf (zf (ze (zd 2 [(5,(.iface 141 (vP w.heap.size 0))),(4, .nilIface)] (zb (zi (some 6) (zmB (.iface 141 (vP w.heap.size 0)) _) ?_)))))))
 rintro _ _ ⟨rfl,rfl⟩
 refine zg (zc (zr (zy (zc (zf (ze (zd 1 [(2,(vI 0))] (zg (zc ?_)))))))))
 exact zx (zB (vI 0) (⟨rfl,hEw1⟩))
theorem zpL (k e:Nat) (w:World) (hg3:Gl 1 [.iface 199 (.agg #[.pointer (some ⟨4,99,none⟩)])] w):
  Calls Tryz.prog 39 #[(.iface 139 (vA [vI k,vI e]))] w (Ret fun r w'=>r=(vI e)∧Ext w w'):=by
 refine zL (n:=9) (σ:= [(0,(.iface 139 (vA [vI k,vI e])))]) Tryz.func39 rfl ?_
 have hgl3:=hg3.lt
 refine zf (ze (zd 1 [(2,(vI 0))] (zg (zc (zf (ze (zb (zt (some 3) (Instr.alloc 139 true (.tuple #[])) (vP w.heap.size 0) ([(vI 0),(vI 0)]) 139 ?_))))))))
 intro w1 hBw1 hEw1
 have hzw1:=hEw1.size;have hlw1:=hBw1.lt
 refine zg (zc (zf (zf (ze (zd 2 [(5,(.iface 141 (vP w.heap.size 0))),(4,(.iface 139 (vA [vI k,vI e])))] (zb (zi (some 6) (zmk (x:=vI k) (y:=vI e) (hg3.ext hEw1) hBw1 rfl rfl) ?_)))))))
 rintro _ w2 ⟨rfl,hBw2,hCw2⟩
 have hzw2:=hCw2.size
 refine zg (zc (zF (zf (ze (zd 1 [(7,(vP w.heap.size 1))] (zb (zj (some 8) (Instr.loadAt 34 (vP w.heap.size 1)) (vI e) (zo (hBw2.cell rfl)) ?_)))))))
 exact zd 1 [(2,(vI e))] (zg (zc (zx (zu (zB (vI e) (⟨rfl,(Ext.own hEw1 hCw2 (by omega))⟩))))))
theorem zml (k e:Nat) (w:World) (hg3:Gl 1 [.iface 199 (.agg #[.pointer (some ⟨4,99,none⟩)])] w):
  Calls Tryz.prog 39 #[(zi0 139 k e)] w (Ret fun r w'=>r=(vI e)∧Ext w w'):=by
 by_cases h:e=0
 ·subst h;exact zpA w
 ·rw [za4 h];exact zpL k e w hg3
end Go.Proofs.YtgdpdnokcnhgnaaGreatDoor
namespace Go.Proofs.YtgdpdnokcnhgnaaGreatDoor
open Go Go.RowKit Go.Cs
set_option maxRecDepth 100000
set_option maxHeartbeats 4000000 in
theorem zpK (n:Nat) {lo_c hi_c:Nat} {a_c:Option Addr} {n_c c_c:Nat} {c:List Nat} {lo_f hi_f:Nat} {a_f:Option Addr} {n_f c_f:Nat} {f:List Nat} {lo_t hi_t:Nat} {a_t:Option Addr} {n_t c_t:Nat} {t:List Nod} (w:World) (h_c:Es (nv .i64) lo_c hi_c w a_c n_c c_c c) (h_f:Es (nv .i64) lo_f hi_f w a_f n_f c_f f) (h_t:Ms zK 274 lo_t hi_t w a_t n_t c_t t) (hp0:c=za7 n (hgt n+1)) (hp1:f=zcy n (hgt n+1)) (hp2:1≤n) (hp3:n≤4096) (hp4:n_t=tot n) (hg0:Gl 0 [vI 45,vI 33] w) (hg1:Gl 2 (w8C za2) w) (hg2:Gl 3 (zR kA) w):
  Calls Tryz.prog 74 #[(vA [(vI n),(.slice a_c n_c c_c),(.slice a_f n_f c_f)]),(vA [(vI n),(.slice a_t n_t c_t)])] w (Ret fun r w'=>∃(a0:Nat),r=(zi0 139 a0 (zbJ n t))∧Ext w w'):=by
 refine zL (n:=123) (σ:= [(0,(vA [(vI n),(.slice a_c n_c c_c),(.slice a_f n_f c_f)])),(1,(vA [(vI n),(.slice a_t n_t c_t)]))]) Tryz.func74 rfl ?_
 replace h_c:=h_c.now;have hle_c:=h_c.le
 replace h_f:=h_f.now;have hle_f:=h_f.le
 replace h_t:=h_t.now;have hle_t:=h_t.le
 have hgl0:=hg0.lt
 have hgl1:=hg1.lt
 have hgl2:=hg2.lt
 have hlc:=h_c.len_eq;rw [hp0,zeE] at hlc
 have hlf:=h_f.len_eq;rw [hp1,zgR] at hlf
 have h5:=zaz n
 have hts:=zbN hp3
 have htt:=zfo hp2 hp3
 have hlt:=h_t.len_eq
 have hle:=h_t.le
 have hln:1≤n_c:=by omega
 refine zf (ze (zb (zt (some 2) (Instr.box 106 (vA [(vI n),(.slice a_c n_c c_c),(.slice a_f n_f c_f)])) (vP w.heap.size 0) ([(vI n),(.slice a_c n_c c_c),(.slice a_f n_f c_f)]) 106 ?_)))
 intro w1 hBw1 hEw1
 have hzw1:=hEw1.size;have hlw1:=hBw1.lt
 refine zb (zt (some 3) (Instr.box 50 (vA [(vI n),(.slice a_t n_t c_t)])) (vP w1.heap.size 0) ([(vI n),(.slice a_t n_t c_t)]) 50 ?_)
 intro w2 hBw2 hEw2
 have hzw2:=hEw2.size;have hlw2:=hBw2.lt
 refine zd 1 [(4, .nilIface)] (zg (zc (zf (ze (zb (zj (some 15) (Instr.loadAt 106 (vP w.heap.size 0)) (vA [(vI n),(.slice a_c n_c c_c),(.slice a_f n_f c_f)]) (zD (vs:= [(vI n),(.slice a_c n_c c_c),(.slice a_f n_f c_f)]) ((hBw1.ext hEw2).all)) ?_))))))
 refine zd 1 [(16,(vP w1.heap.size 1))] (zb (zj (some 17) (Instr.loadAt 24 (vP w1.heap.size 1)) (.slice a_t n_t c_t) (zo (hBw2.cell rfl)) ?_))
 refine zb (zi (some 18) (zpD n _ (((h_c.ext hEw1)).ext hEw2) (((h_f.ext hEw1)).ext hEw2) (((h_t.ext hEw1)).ext hEw2)) ?_)
 rintro _ w3 ⟨a1,a1y,a1z,rfl,hFz1_0,hFz1_1,hFz1_2,hFz1_3,hEw3⟩
 have hzw3:=hEw3.size
 have hla1:=hFz1_1.lt;have hla1y:=hFz1_2.lt;have hla1z:=hFz1_3.lt
 refine zd 1 [(5,(.func (.func 120) #[] #[(vP a1 0),(vP a1y 0),(vP a1z 0)]))] (zg (zc (zf (zf (ze (zd 1 [(19,(vP w.heap.size 1))] (zb (zj (some 20) (Instr.loadAt 40 (vP w.heap.size 1)) (.slice a_c n_c c_c) (zo ((((hBw1.ext hEw2)).ext hEw3).cell rfl)) ?_))))))))
 refine zd 2 [(22,(vI 0)),(21,(vI n_c))] (zg (zc (zI (zah (X:=Nat) (fun v=> [(22,(vI v))]) [4,6,7,8,9,10,11,12,13,14,23,24,25,26,27,28,29,30,31,32,33,34,35,36,37,38,39,40,41,42,43,44,45,46,47,48,49,50,51,52,53,54,55,56,57,58,59,60,61,62,63,64,65,66,67,68,69,70,71,72,73,74,75,76,77,78,79,80,81,82,83,84,85,86,87,88,89,90,91,92,93,94,95,96,97,98,99,100,101,102,103,104,105,106,107,108,109,110,111,112,113,114,115,116,117,118,119,120,121,122] (fun v w4=>v≤hgt n+1∧okT n t v 0∧Ext w3 w4) (fun v=>hgt n+1-v) 0 (by kernel_rfl) ⟨by omega,zob _ _,Ext.refl _⟩ ?_))))
 rintro v dw4 w4 ⟨hv,hok,hE1⟩
 have hz1:=hE1.size
 have hcn:=zcF n v
 have hns:=zei (n:=n) (l:=v) hp3 (by omega)
 have hgc:v<hgt n+1→gt c v=cnt n v:=fun hh=>by rw [hp0];exact zeC hh
 refine zf (ze (zb (zO (some 23) (decide (((v:Nat):Int)<((n_c:Nat):Int))) (fun hc23=> ?_) (fun hc23=> ?_))))
 ·replace hc23:v<n_c:=by have:=zak hc23;omega
  replace hgc:=hgc (by omega)
  refine zg (zc (zf (zF (zy (zc (zf (zI (zf (ze ?_)))))))))
  refine zd 1 [(24,(vI v))] ?_
  obtain ⟨b1,o1,rfl⟩:=h_c.addr (by omega)
  refine zb (zj (some 25) (Instr.indexAt 40 (.slice (pA b1 o1) n_c c_c) (vI v)) (vP b1 (o1+v*1)) (zap (E:=3) (sz:=1) (by omega)) ?_)
  have hK1:=(((((((h_c.ext hEw1)).ext hEw2)).ext hEw3)).ext hE1)
  refine zb (zj (some 26) (Instr.loadAt 3 (vP b1 (o1+v*1))) (vI (gt c v)) (zo (hK1.celln (by omega))) ?_)
  refine zd 2 [(7,(vI (gt c v))),(6,(vI v))] (zg (zc (zf (ze (zd 2 [(28,(vI 0)),(27,(vI (gt c v)))] (zg (zc (zI (zah (X:=Nat) (fun j=> [(28,(vI j))]) [4,8,9,10,11,12,13,14,29,30,31,32,33,34,35,36,37,38,39,40,41,42,43,44,45,46,47,48,49,50,51,52,53,54,55,56,57,58,59,60,61,62,63,64,65,66,67,68,69,70,71,72,73,74,75,76,77,78,79,80,81,82,83,84,85,86,87,88,89,90,91,92,93,94,95,96,97,98,99,100,101,102,103,104,105,106,107,108,109,110,111,112,113,114,115,116,117,118,119,120,121] (fun j w5=>j≤cnt n v∧okT n t v j∧Ext w4 w5) (fun j=>cnt n v-j) 0 (by kernel_rfl) ⟨by omega,hok,Ext.refl _⟩ ?_)))))))))
  rintro j dw5 w5 ⟨hj,hok2,hE2⟩
  have hz2:=hE2.size
  refine zf (ze (zb (zO (some 29) (decide (((j:Nat):Int)<((gt c v:Nat):Int))) (fun hc29=> ?_) (fun hc29=> ?_))))
  ·replace hc29:j<gt c v:=by have:=zak hc29;omega
   have hjc:j<cnt n v:=by omega
   have hpl:=zbe (n:=n) (l:=v) (j:=j) (by omega) hjc
   have hxl:=(t.getD (num n v+j) Nod.zero).hlv;have hxi:=(t.getD (num n v+j) Nod.zero).hix
   have hpp:=zdO n v j
   refine zg (zc (zf (zF (zy (zc (zf (zI (zf (ze ?_)))))))))
   refine zd 2 [(8,(vI j)),(30,(vI j))] (zg (zc (zf (ze ?_))))
   have hK2:=(((((((hBw1.ext hEw2)).ext hEw3)).ext hE1)).ext hE2)
   refine zb (zj (some 31) (Instr.loadAt 106 (vP w.heap.size 0)) (vA [(vI n),(.slice (pA b1 o1) n_c c_c),(.slice a_f n_f c_f)]) (zD (vs:= [(vI n),(.slice (pA b1 o1) n_c c_c),(.slice a_f n_f c_f)]) (hK2.all)) ?_)
   refine zd 2 [(33,(vI j)),(32,(vI v))] ?_
   have hK3:=(((((((((h_f.ext hEw1)).ext hEw2)).ext hEw3)).ext hE1)).ext hE2)
   refine zb (zi (some 34) (zcs n v j _ (hK1.ext hE2) hK3 (by first | rfl | assumption) (by first | rfl | assumption) (by omega) (by omega) (by omega) (by omega)) ?_)
   rintro _ w6 ⟨rfl,hEw6⟩
   have hzw6:=hEw6.size
   refine zd 1 [(9,(vI (num n v+j)))] (zg (zc (zf (ze (zd 1 [(35,(vP w1.heap.size 1))] ?_)))))
   have hK4:=(((((((hBw2.ext hEw3)).ext hE1)).ext hE2)).ext hEw6)
   refine zb (zj (some 36) (Instr.loadAt 24 (vP w1.heap.size 1)) (.slice a_t n_t c_t) (zo (hK4.cell rfl)) ?_)
   refine zd 1 [(37,(vI (num n v+j)))] ?_
   obtain ⟨b2,o2,rfl⟩:=h_t.addr (by omega) (by decide)
   refine zb (zj (some 38) (Instr.indexAt 24 (.slice (pA b2 o2) n_t c_t) (vI (num n v+j))) (vP b2 (o2+(num n v+j)*274)) (zap (E:=47) (sz:=274) (by omega)) ?_)
   have hK5:=(((((((((((h_t.ext hEw1)).ext hEw2)).ext hEw3)).ext hE1)).ext hE2)).ext hEw6)
   refine zb (zj (some 39) (Instr.loadAt 47 (vP b2 (o2+(num n v+j)*274))) (vA (zK (t.getD (num n v+j) Nod.zero))) (zD (vs:=zK (t.getD (num n v+j) Nod.zero)) (hK5.at Nod.zero (by omega)) (by rw [zW];kernel_rfl)) ?_)
   refine zb (zt (some 10) (Instr.alloc 47 true (.tuple #[])) (vP w6.heap.size 0) (zK Nod.zero) 47 ?_)
   intro w7 hBw7 hEw7
   have hzw7:=hEw7.size;have hlw7:=hBw7.lt
   refine zb (zz 47 w6.heap.size 0 47 (vA (zK (t.getD (num n v+j) Nod.zero))) (zK Nod.zero) (zK (t.getD (num n v+j) Nod.zero)) hBw7 (by rw [zW];kernel_rfl) (by first |(simp;done)|(simp;omega)) (zcG _) ?_)
   intro w8 hBw8 hCw8
   have hzw8:=hCw8.size
   rw [zm _ _ (by simp)] at hBw8
   refine zg (zc (zf (zf (ze (zd 1 [(40,(vP w6.heap.size 0))] (zb (zj (some 41) (Instr.loadAt 5 (vP w6.heap.size 0)) (vB ((t.getD (num n v+j) Nod.zero).lv)) (zo (hBw8.cell rfl)) ?_)))))))
   refine zb (zv (some 42) .i64 (IntKind.i64.wrap (((t.getD (num n v+j) Nod.zero).lv:Nat):Int)) ((t.getD (num n v+j) Nod.zero).lv) (zG rfl (by omega) (by omega)) ?_)
   refine zd 1 [(43,(vI v))] (zb (zO (some 44) (((((t.getD (num n v+j) Nod.zero).lv:Nat):Int) !=((v:Nat):Int))) (fun hc44=> ?_) (fun hc44=> ?_)))
   ·replace hc44:¬((t.getD (num n v+j) Nod.zero).lv=v):=by have:=zbY hc44;omega
    refine zd 14 [(58,vT),(57,undef),(56,undef),(55,undef),(54,undef),(53,undef),(52,vT),(51,vT),(50,undef),(49,undef),(48,undef),(47,undef),(46,undef),(45,vT)] (zg (zc (zF (zf (ze (zd 4 [(4,(.iface 139 (vA [(vI (num n v+j)),(vI 17)]))),(61,(.iface 139 (vA [(vI (num n v+j)),(vI 17)]))),(60,(vA [(vI (num n v+j)),(vI 17)])),(59,(vI (num n v+j)))] (zg (zc (zx ?_)))))))))
    refine zu (zA (zu (zu (zA (zA (zu (zu (zA (zu ?_)))))))))
    refine zB (.iface 139 (vA [(vI (num n v+j)),(vI 17)])) ?_
    have hX1:Ext w w8:=(Ext.own ((((((hEw1.trans hEw2).trans hEw3).trans hE1).trans hE2).trans hEw6).trans hEw7) hCw8 (by omega))
    exact ⟨_,by rw [zb0 hok2 (by omega) hjc (zhT (fun hh=>by have h1:(t.getD (num n v+j) Nod.zero).lv=v:=hh.1;have h2:(t.getD (num n v+j) Nod.zero).ix=j:=hh.2.1;have h3:zbE n (t.getD (num n v+j) Nod.zero)=0:=hh.2.2;omega)) (by decide),za4 (by decide)],hX1⟩
   ·replace hc44:(t.getD (num n v+j) Nod.zero).lv=v:=by have:=zbX hc44;omega
    refine zd 2 [(46,(vP w6.heap.size 1)),(45,vF)] (zb (zj (some 47) (Instr.loadAt 28 (vP w6.heap.size 1)) (vW ((t.getD (num n v+j) Nod.zero).ix)) (zo (hBw8.cell rfl)) ?_))
    refine zb (zv (some 48) .i64 (IntKind.i64.wrap (((t.getD (num n v+j) Nod.zero).ix:Nat):Int)) ((t.getD (num n v+j) Nod.zero).ix) (zG rfl (by omega) (by omega)) ?_)
    refine zd 1 [(49,(vI j))] (zb (zO (some 50) (((((t.getD (num n v+j) Nod.zero).ix:Nat):Int) !=((j:Nat):Int))) (fun hc50=> ?_) (fun hc50=> ?_)))
    ·replace hc50:¬((t.getD (num n v+j) Nod.zero).ix=j):=by have:=zbY hc50;omega
     refine zd 8 [(58,vT),(57,undef),(56,undef),(55,undef),(54,undef),(53,undef),(52,vT),(51,vT)] (zg (zc (zF (zf (ze (zd 4 [(4,(.iface 139 (vA [(vI (num n v+j)),(vI 17)]))),(61,(.iface 139 (vA [(vI (num n v+j)),(vI 17)]))),(60,(vA [(vI (num n v+j)),(vI 17)])),(59,(vI (num n v+j)))] (zg (zc (zx ?_)))))))))
     refine zu (zA (zu (zu (zA (zA (zu (zu (zA (zu ?_)))))))))
     refine zB (.iface 139 (vA [(vI (num n v+j)),(vI 17)])) ?_
     have hX2:Ext w w8:=(Ext.own ((((((hEw1.trans hEw2).trans hEw3).trans hE1).trans hE2).trans hEw6).trans hEw7) hCw8 (by omega))
     exact ⟨_,by rw [zb0 hok2 (by omega) hjc (zhT (fun hh=>by have h1:(t.getD (num n v+j) Nod.zero).lv=v:=hh.1;have h2:(t.getD (num n v+j) Nod.zero).ix=j:=hh.2.1;have h3:zbE n (t.getD (num n v+j) Nod.zero)=0:=hh.2.2;omega)) (by decide),za4 (by decide)],hX2⟩
    ·replace hc50:(t.getD (num n v+j) Nod.zero).ix=j:=by have:=zbX hc50;omega
     refine zd 3 [(53,(vP w1.heap.size 0)),(52,vF),(51,vF)] (zb (zj (some 54) (Instr.loadAt 3 (vP w1.heap.size 0)) (vI n) (zo ((((hK4.ext hEw7)).chg hCw8 (fun hs=>by have h:_=_:=hs;omega)).cell rfl)) ?_))
     refine zb (zj (some 55) (Instr.loadAt 47 (vP w6.heap.size 0)) (vA (zK (t.getD (num n v+j) Nod.zero))) (zD (vs:=zK (t.getD (num n v+j) Nod.zero)) (hBw8.all) (by rw [zW];kernel_rfl)) ?_)
     refine zb (zi (some 56) (zkO n (t.getD (num n v+j) Nod.zero) _ (by omega) (by omega)) ?_)
     rintro _ w9 ⟨rfl,hEw9⟩
     have hzw9:=hEw9.size
     refine zb (zO (some 57) ((((zbE n (t.getD (num n v+j) Nod.zero):Nat):Int) !=((0:Nat):Int))) (fun hc57=> ?_) (fun hc57=> ?_))
     ·replace hc57:¬(zbE n (t.getD (num n v+j) Nod.zero)=0):=by have:=zbY hc57;omega
      refine zd 1 [(58,vT)] (zg (zc (zF (zf (ze (zd 4 [(4,(.iface 139 (vA [(vI (num n v+j)),(vI 17)]))),(61,(.iface 139 (vA [(vI (num n v+j)),(vI 17)]))),(60,(vA [(vI (num n v+j)),(vI 17)])),(59,(vI (num n v+j)))] (zg (zc (zx ?_)))))))))
      refine zu (zA (zu (zu (zA (zA (zu (zu (zA (zu ?_)))))))))
      refine zB (.iface 139 (vA [(vI (num n v+j)),(vI 17)])) ?_
      have hX3:Ext w w9:=((Ext.own ((((((hEw1.trans hEw2).trans hEw3).trans hE1).trans hE2).trans hEw6).trans hEw7) hCw8 (by omega)).trans hEw9)
      exact ⟨_,by rw [zb0 hok2 (by omega) hjc (zhT (fun hh=>by have h1:(t.getD (num n v+j) Nod.zero).lv=v:=hh.1;have h2:(t.getD (num n v+j) Nod.zero).ix=j:=hh.2.1;have h3:zbE n (t.getD (num n v+j) Nod.zero)=0:=hh.2.2;omega)) (by decide),za4 (by decide)],hX3⟩
     ·replace hc57:zbE n (t.getD (num n v+j) Nod.zero)=0:=by have:=zbX hc57;omega
      refine zd 1 [(58,vF)] (zg (zc (zr (zy (zc (zf (zf (ze (zd 1 [(62,(vI v))] ?_)))))))))
      have hnm:¬zb2 n (ndA n t v j) v j:=zjL (show (t.getD (num n v+j) Nod.zero).lv=v by omega) (show (t.getD (num n v+j) Nod.zero).ix=j by omega) (show zbE n (t.getD (num n v+j) Nod.zero)=0 by omega)
      refine zb (zO (some 63) ((((v:Nat):Int)==((0:Nat):Int))) (fun hc63=> ?_) (fun hc63=> ?_))
      ·replace hc63:v=0:=by have:=zbL hc63;omega
       have hdone:zcd n t v j=0:=by subst hc63;exact zqj hnm
       refine zg (zc (zF (zaf (zH (zT (zc (ze (zb (zv (some 121) .i64 (IntKind.i64.wrap (((j:Nat):Int)+((1:Nat):Int))) (j+1) (zG (by omega) (by omega) (by omega)) ?_)))))))))
       refine zd 1 [(28,(vI (j+1)))] (zg (zC ?_))
       have hX4:Ext w4 w9:=((Ext.own ((hE2.trans hEw6).trans hEw7) hCw8 (by omega)).trans hEw9)
       refine zS (j+1) ?_ ?_
       ·exact ⟨by omega,zjS hok2 hdone,hX4⟩
       ·first | omega |(dsimp only;omega)
      ·replace hc63:¬(v=0):=by have:=zbK hc63;omega
       have hup:=zc9 (n:=n) (l:=v) (by omega)
       have hcm:=zcF n (v-1)
       have hgm:gt c (v-1)=cnt n (v-1):=by rw [hp0];exact zeC (by omega)
       refine zg (zc (zr (zy (zc (zf (ze (zd 1 [(64,(vI j))] (zb (zv (some 65) .i64 (IntKind.i64.wrap (((4:Nat):Int)*((j:Nat):Int))) (4*j) (zG (by omega) (by omega) (by omega)) ?_)))))))))
       refine zd 1 [(11,(vI (4*j)))] (zg (zc (zI (zah (X:=Nat) (fun x=> [(11,(vI (4*j+x)))]) [4,12,13,14,66,67,68,69,70,71,72,73,74,75,76,77,78,79,80,81,82,83,84,85,86,87,88,89,90,91,92,93,94,95,96,97,98,99,100,101,102,103,104,105,106,107,108,109,110,111,112,113,114,115,116,117,118,119,120] (fun x w10=>x≤prt n v j∧zaQ (zcY n t v j) x=0∧Ext w9 w10) (fun x=>4-x) 0 (by kernel_rfl) ⟨Nat.zero_le _,rfl,Ext.refl _⟩ ?_))))
       rintro x dw10 w10 ⟨hxp,hen,hE3⟩
       have hz3:=hE3.size
       have hlw:=fun h4=>za3 (n:=n) (l:=v) (j:=j) (w:=x) h4
       refine zf (zf (ze (zd 2 [(67,(vI j)),(66,(vI (4*j+x)))] (zb (zv (some 68) .i64 (IntKind.i64.wrap (((j:Nat):Int)+((1:Nat):Int))) (j+1) (zG (by omega) (by omega) (by omega)) ?_)))))
       refine zb (zv (some 69) .i64 (IntKind.i64.wrap (((4:Nat):Int)*((j+1:Nat):Int))) (4*(j+1)) (zG (by omega) (by omega) (by omega)) ?_)
       refine zd 1 [(70,(vP w.heap.size 1))] ?_
       have hK6:=(((((((((hK2.ext hEw6)).ext hEw7)).chg hCw8 (fun hs=>by have h:_=_:=hs;omega))).ext hEw9)).ext hE3)
       refine zb (zj (some 71) (Instr.loadAt 40 (vP w.heap.size 1)) (.slice (pA b1 o1) n_c c_c) (zo (hK6.cell rfl)) ?_)
       refine zd 1 [(72,(vI v))] (zb (zv (some 73) .i64 (IntKind.i64.wrap (((v:Nat):Int)-((1:Nat):Int))) (v-1) (zG (by omega) (by omega) (by omega)) ?_))
       refine zb (zj (some 74) (Instr.indexAt 40 (.slice (pA b1 o1) n_c c_c) (vI (v-1))) (vP b1 (o1+(v-1)*1)) (zap (E:=3) (sz:=1) (by omega)) ?_)
       have hK7:=(((((((((((hK1.ext hE2)).ext hEw6)).ext hEw7)).chg hCw8 (fun k h1 h2 hs=>by have h:k=_:=hs;omega))).ext hEw9)).ext hE3)
       refine zb (zj (some 75) (Instr.loadAt 3 (vP b1 (o1+(v-1)*1))) (vI (gt c (v-1))) (zo (hK7.celln (by omega))) ?_)
       refine zb (zhy (some 76) (.int .i64 (if ((gt c (v-1):Nat):Int)<((4*(j+1):Nat):Int) then ((gt c (v-1):Nat):Int) else ((4*(j+1):Nat):Int))) (vI (min (4*(j+1)) (gt c (v-1)))) (congrArg _ (zlK _ _)) ?_)
       refine zb (zO (some 77) (decide (((4*j+x:Nat):Int)<((min (4*(j+1)) (gt c (v-1)):Nat):Int))) (fun hc77=> ?_) (fun hc77=> ?_))
       ·replace hc77:4*j+x<min (4*(j+1)) (gt c (v-1)):=by have:=zak hc77;omega
        have hx4:x<4:=by omega
        have hxw:x<prt n v j:=(hlw hx4).2 (by omega)
        have hcl:4*j+x<cnt n (v-1):=by omega
        have hplc:=zbe (n:=n) (l:=v-1) (j:=4*j+x) (by omega) hcl
        have hnsm:=zei (n:=n) (l:=v-1) hp3 (by omega)
        have hem:=zjE (n:=n) (ts:=t) (zny hok2 (by omega)) (l:=v-1) (j:=4*j+x) hcl
        have hchk:zar (t.getD (num n (v-1)+(4*j+x)) Nod.zero)=0:=(zb9 (zc3 (zmE hok2 hcl (.inl (by omega)))).2.2).1
        refine zg (zc (zF (zy (zc (zf (zI (zf (ze (zd 1 [(80,(vI (4*j+x)))] ?_)))))))))
        refine zb (zv (some 81) .i64 (((4*j+x:Nat):Int).tmod ((4:Nat):Int)) x ((zcP _ _).trans (by omega)) ?_)
        refine zd 1 [(82,(vP w6.heap.size 142))] (zb (zj (some 83) (Instr.indexAt 45 (vP w6.heap.size 142) (vI x)) (vP w6.heap.size (142+x*33)) (zX (E:=44) (sz:=33) (m:=4) (by omega)) ?_))
        refine zb (zj (some 84) (Instr.loadAt 44 (vP w6.heap.size (142+x*33))) (vA (zai ((t.getD (num n v+j) Nod.zero).es.get x))) (zD (vs:=zai ((t.getD (num n v+j) Nod.zero).es.get x)) ((((hBw8.ext hEw9)).ext hE3).at (142+x*33) (zai ((t.getD (num n v+j) Nod.zero).es.get x)) (nod_e (by omega))) (by rw [zaS];kernel_rfl)) ?_)
        refine zb (zt (some 12) (Instr.alloc 44 true (.tuple #[])) (vP w10.heap.size 0) (zai Ent.zero) 44 ?_)
        intro w11 hBw11 hEw11
        have hzw11:=hEw11.size;have hlw11:=hBw11.lt
        refine zb (zz 44 w10.heap.size 0 44 (vA (zai ((t.getD (num n v+j) Nod.zero).es.get x))) (zai Ent.zero) (zai ((t.getD (num n v+j) Nod.zero).es.get x)) hBw11 (by rw [zaS];kernel_rfl) (by first |(simp;done)|(simp;omega)) (zdq _) ?_)
        intro w12 hBw12 hCw12
        have hzw12:=hCw12.size
        rw [zm _ _ (by simp)] at hBw12
        refine zg (zc (zf (zag (Ext w12.drew) 16 [(87,8,0),(88,77371252455336267181195264,1),(89,4,0),(90,64,0),(91,618970019642690137449562112,8),(92,2048,0),(93,4023305127677485893422153728,52),(94,5106502662052193633958887424,66),(95,9903520314283042199192993792,128),(96,19807040628566084398385987584,320),(86,39614081257132168796771975168,512),(97,38685626227668133590597632,1024),(98,38685626227668133590597632,1024),(14,0,0),(0,79228162514264337593543958528,12287),(15,158456325028528675187087900672,32767)] (fun hT334=> ?_))))
        have hEw13:Ext w12 w12.drew:=Ext.drew w12
        generalize w12.drew=w13 at hEw13⊢
        have hzw13:=hEw13.size
        refine zk hT334 [(0,86,(vP w1.heap.size 1))] 1 1 ?_
        have hK8:=(((((((((((((hK4.ext hEw7)).chg hCw8 (fun hs=>by have h:_=_:=hs;omega))).ext hEw9)).ext hE3)).ext hEw11)).chg hCw12 (fun hs=>by have h:_=_:=hs;omega))).ext hEw13)
        refine zh hT334 1 3 (some 87) (.slice (pA b2 o2) n_t c_t) (zl (Instr.loadAt 24 (vP w1.heap.size 1)) (fun w' hC=>zo ((hK8.ext hC).cell rfl))) ?_
        have hK9:=(((((hK6.ext hEw11)).chg hCw12 (fun hs=>by have h:_=_:=hs;omega))).ext hEw13)
        refine zh hT334 2 7 (some 88) (vA [(vI n),(.slice (pA b1 o1) n_c c_c),(.slice a_f n_f c_f)]) (zl (Instr.loadAt 106 (vP w.heap.size 0)) (fun w' hC=>zD (vs:= [(vI n),(.slice (pA b1 o1) n_c c_c),(.slice a_f n_f c_f)]) ((hK9.ext hC).all))) (zk hT334 [(3,89,(vI v))] 1 15 (zh hT334 4 31 (some 90) (vI (v-1)) (zq .i64 (IntKind.i64.wrap (((v:Nat):Int)-((1:Nat):Int))) (zG (by omega) (by omega) (by omega))) (zk hT334 [(5,91,(vI (4*j+x)))] 1 63 (zay 6 13 127 8255 ?_ ?_))))
        ·have hK10:=(((((hK7.ext hEw11)).chg hCw12 (fun k h1 h2 hs=>by have h:k=_:=hs;omega))).ext hEw13)
         have hK11:=(((((((((((((((hK3.ext hEw6)).ext hEw7)).chg hCw8 (fun k h1 h2 hs=>by have h:k=_:=hs;omega))).ext hEw9)).ext hE3)).ext hEw11)).chg hCw12 (fun k h1 h2 hs=>by have h:k=_:=hs;omega))).ext hEw13)
         refine zi (some 92) (zcs n (v-1) (4*j+x) _ hK10 hK11 (by first | rfl | assumption) (by first | rfl | assumption) (by omega) (by omega) (by omega) (by omega)) ?_
         rintro _ w14 ⟨rfl,hEw14⟩
         have hzw14:=hEw14.size
         refine ⟨.inr hEw14, ?_⟩
         refine zh (hw:=hEw14) hT334 7 255 (some 93) (vP b2 (o2+(num n (v-1)+(4*j+x))*274)) (zl (Instr.indexAt 24 (.slice (pA b2 o2) n_t c_t) (vI (num n (v-1)+(4*j+x)))) (fun w' hC=>zap (E:=47) (sz:=274) (by omega))) ?_
         have hK12:=(((((((((((((hK5.ext hEw7)).chg hCw8 (fun k h1 h2 hs=>by have h:k=_:=hs;omega))).ext hEw9)).ext hE3)).ext hEw11)).chg hCw12 (fun k h1 h2 hs=>by have h:k=_:=hs;omega))).ext hEw13)
         refine zh (hw:=hEw14) hT334 8 511 (some 94) (vA (zK (t.getD (num n (v-1)+(4*j+x)) Nod.zero))) (zl (Instr.loadAt 47 (vP b2 (o2+(num n (v-1)+(4*j+x))*274))) (fun w' hC=>zD (vs:=zK (t.getD (num n (v-1)+(4*j+x)) Nod.zero)) ((hK12.ext hC).at Nod.zero (by omega)) (by rw [zW];kernel_rfl))) (zay 9 13 1023 8703 ?_ ?_)
         ·have hK13:=(((((((((((((((((((((((((((hg0.ext hEw1)).ext hEw2)).ext hEw3)).ext hE1)).ext hE2)).ext hEw6)).ext hEw7)).chg hCw8 (fun hs=>by have h:_=_:=hs;omega))).ext hEw9)).ext hE3)).ext hEw11)).chg hCw12 (fun hs=>by have h:_=_:=hs;omega))).ext hEw13)).ext hEw14)
          have hK14:=(((((((((((((((((((((((((((hg1.ext hEw1)).ext hEw2)).ext hEw3)).ext hE1)).ext hE2)).ext hEw6)).ext hEw7)).chg hCw8 (fun hs=>by have h:_=_:=hs;omega))).ext hEw9)).ext hE3)).ext hEw11)).chg hCw12 (fun hs=>by have h:_=_:=hs;omega))).ext hEw13)).ext hEw14)
          have hK15:=(((((((((((((((((((((((((((hg2.ext hEw1)).ext hEw2)).ext hEw3)).ext hE1)).ext hE2)).ext hEw6)).ext hEw7)).chg hCw8 (fun hs=>by have h:_=_:=hs;omega))).ext hEw9)).ext hE3)).ext hEw11)).chg hCw12 (fun hs=>by have h:_=_:=hs;omega))).ext hEw13)).ext hEw14)
          refine zi (some 95) (zdA (t.getD (num n (v-1)+(4*j+x)) Nod.zero) _ (by assumption) hK13 hK14 hK15) ?_
          rintro _ w15 ⟨rfl,hEw15⟩
          have hzw15:=hEw15.size
          have hX5:Ext w13 w15:=(hEw14.trans hEw15)
          refine ⟨.inr hX5, ?_⟩
          refine zk (hw:=hX5) hT334 [(10,85,(.tuple #[(vA (zw (zN (zM (t.getD (num n (v-1)+(4*j+x)) Nod.zero))))),(vI 0)])),(11,96,(vA (zw (zN (zM (t.getD (num n (v-1)+(4*j+x)) Nod.zero)))))),(12,97,(vI 0))] 3 8191 (zn 13 16383 (zt (some 13) (Instr.alloc 23 true (.tuple #[])) (vP w15.heap.size 0) (zw Dig.zero) 23 ?_))
          intro w16 hBw16 hEw16
          have hzw16:=hEw16.size;have hlw16:=hBw16.lt
          have hX6:Ext w13 w16:=((hEw14.trans hEw15).trans hEw16)
          refine ⟨.inr hX6, ?_⟩
          refine zn 14 32767 (zz 23 w15.heap.size 0 23 (vA (zw (zN (zM (t.getD (num n (v-1)+(4*j+x)) Nod.zero))))) (zw Dig.zero) (zw (zN (zM (t.getD (num n (v-1)+(4*j+x)) Nod.zero)))) hBw16 (by rw [zac];kernel_rfl) (by first |(simp;done)|(simp;omega)) (zaT _) ?_)
          intro w17 hBw17 hCw17
          have hzw17:=hCw17.size
          rw [zm _ _ (by simp)] at hBw17
          have hX7:Ext w13 w17:=(Ext.own ((hEw14.trans hEw15).trans hEw16) hCw17 (by omega))
          refine ⟨.inr hX7, ?_⟩
          refine zk (hw:=hX7) hT334 [(15,14,(vI 0))] 1 65535 (zJ (zc (zf (zag (Ext w17.drew) 20 [(99,4096,0),(100,316912650057057350374175801344,1),(101,633825300114114700748351602688,2),(102,32,0),(103,64,0),(104,5070602400912917605986812821504,16),(105,2048,0),(106,32958915605933964438914283339776,104),(107,41832469807531570249391205777408,132),(108,81129638414606681695789005144064,384),(109,162259276829213363391578010292224,512),(110,486777830487640090174734030864384,1536),(111,811296384146066816957890051440640,2560),(112,1460333491462920270524202092593152,4608),(113,2596148429267413814265248164614144,8192),(114,7788445287802241442795744493830144,24576),(115,2596148429267413814265248164618240,8192),(116,33749929580476379585448226139930624,106496),(117,44296782574375248205900796808658944,139776),(118,83239009013386455419879519277809664,262656)] (fun hT381=> ?_)))))
          have hEw18:Ext w17 w17.drew:=Ext.drew w17
          generalize w17.drew=w18 at hEw18⊢
          have hzw18:=hEw18.size
          refine zk hT381 [(0,98,(vP w10.heap.size 0))] 1 1 ?_
          have hK16:=(((((hBw12.ext hEw13)).ext hX7)).ext hEw18)
          refine zh hT381 1 3 (some 99) (vB (((t.getD (num n v+j) Nod.zero).es.get x).st)) (zl (Instr.loadAt 5 (vP w10.heap.size 0)) (fun w' hC=>zo ((hK16.ext hC).cell rfl))) ?_
          rcases Classical.em (((t.getD (num n v+j) Nod.zero).es.get x).st=0) with hf100 | hf100
          ·refine zh hT381 2 7 (some 100) vT (zaI (((((t.getD (num n v+j) Nod.zero).es.get x).st:Nat):Int)==((0:Nat):Int)) (zbt (by omega))) (zk hT381 [(3,101,(.func (.func 120) #[] #[(vP a1 0),(vP a1y 0),(vP a1z 0)])),(4,102,(vI v))] 2 31 (zh hT381 5 63 (some 103) (vI (v-1)) (zq .i64 (IntKind.i64.wrap (((v:Nat):Int)-((1:Nat):Int))) (zG (by omega) (by omega) (by omega))) (zk hT381 [(6,104,(vI (4*j+x)))] 1 127 ?_)))
           rcases (show emP n t (v-1) (4*j+x)=true∨emP n t (v-1) (4*j+x)=false by cases emP n t (v-1) (4*j+x)<;>simp) with he | he
           ·have hK17:=(((((((((((((((((((((((hFz1_1.ext hE1)).ext hE2)).ext hEw6)).ext hEw7)).chg hCw8 (fun hs=>by have h:_=_:=hs;omega))).ext hEw9)).ext hE3)).ext hEw11)).chg hCw12 (fun hs=>by have h:_=_:=hs;omega))).ext hEw13)).ext hX7)).ext hEw18)
            have hK18:=(((((((((((((((((((((((hFz1_2.ext hE1)).ext hE2)).ext hEw6)).ext hEw7)).chg hCw8 (fun hs=>by have h:_=_:=hs;omega))).ext hEw9)).ext hE3)).ext hEw11)).chg hCw12 (fun hs=>by have h:_=_:=hs;omega))).ext hEw13)).ext hX7)).ext hEw18)
            have hK19:=(((((((((((((((((((((((hFz1_3.ext hE1)).ext hE2)).ext hEw6)).ext hEw7)).chg hCw8 (fun hs=>by have h:_=_:=hs;omega))).ext hEw9)).ext hE3)).ext hEw11)).chg hCw12 (fun hs=>by have h:_=_:=hs;omega))).ext hEw13)).ext hX7)).ext hEw18)
            refine zn 7 255 (zi (some 105) (zdm (v-1) (4*j+x) a1 a1y n a1z _ hK17 (((hK12.ext hX7)).ext hEw18) hK18 (((hK10.ext hX7)).ext hEw18) hK19 (by first | rfl | assumption) (by omega) (by omega) (by omega) (by omega) (by omega)) ?_)
            rintro _ w19 ⟨rfl,hEw19⟩
            have hzw19:=hEw19.size
            rw [show emP n t (v-1) (4*j+x)=true from he]
            refine ⟨.inr hEw19, ?_⟩
            refine zk (hw:=hEw19) hT381 [(8,106,vF),(9,107,vF),(10,108,(vP w10.heap.size 0))] 3 2047 (zh (hw:=hEw19) hT381 11 4095 (some 109) (vB (((t.getD (num n v+j) Nod.zero).es.get x).st)) (zl (Instr.loadAt 5 (vP w10.heap.size 0)) (fun w' hC=>zo ((hK16.ext hC).cell rfl))) (zh (hw:=hEw19) hT381 12 8191 (some 110) vF (zaI (((((t.getD (num n v+j) Nod.zero).es.get x).st:Nat):Int) !=((0:Nat):Int)) (zaL (by omega))) (zk (hw:=hEw19) hT381 [(13,111,vF),(14,112,undef),(15,113,undef),(16,114,undef),(17,115,undef),(18,116,vF),(19,117,vF)] 7 1048575 (zJ (zc (zr (zy (zp (zc ?_)))))))))
            refine ze (zd 1 [(78,(vI (4*j+x)))] (zb (zv (some 79) .i64 (IntKind.i64.wrap (((4*j+x:Nat):Int)+((1:Nat):Int))) (4*j+x+1) (zG (by omega) (by omega) (by omega)) ?_)))
            refine zd 1 [(11,(vI (4*j+x+1)))] (zg (zC ?_))
            have hX8:Ext w9 w19:=(((((Ext.own (hE3.trans hEw11) hCw12 (by omega)).trans hEw13).trans hX7).trans hEw18).trans hEw19)
            refine zS (x+1) ?_ ?_
            ·exact ⟨by omega,zbo hen (zez (show (zaw (za5 n t) (v-1) (4*j+x)=true↔((t.getD (num n v+j) Nod.zero).es.get x).st=0) by rw [←hem];first |(simp only [he,iff_true,true_iff];omega)|(simp only [he,Bool.false_eq_true,iff_false,false_iff];omega)) (show ((t.getD (num n v+j) Nod.zero).es.get x).st=0∨_ from by first |(left;omega)|(right;exact beq_iff_eq.1 hf115))),hX8⟩
            ·first | omega |(dsimp only;omega)
           ·have hK20:=(((((((((((((((((((((((hFz1_1.ext hE1)).ext hE2)).ext hEw6)).ext hEw7)).chg hCw8 (fun hs=>by have h:_=_:=hs;omega))).ext hEw9)).ext hE3)).ext hEw11)).chg hCw12 (fun hs=>by have h:_=_:=hs;omega))).ext hEw13)).ext hX7)).ext hEw18)
            have hK21:=(((((((((((((((((((((((hFz1_2.ext hE1)).ext hE2)).ext hEw6)).ext hEw7)).chg hCw8 (fun hs=>by have h:_=_:=hs;omega))).ext hEw9)).ext hE3)).ext hEw11)).chg hCw12 (fun hs=>by have h:_=_:=hs;omega))).ext hEw13)).ext hX7)).ext hEw18)
            have hK22:=(((((((((((((((((((((((hFz1_3.ext hE1)).ext hE2)).ext hEw6)).ext hEw7)).chg hCw8 (fun hs=>by have h:_=_:=hs;omega))).ext hEw9)).ext hE3)).ext hEw11)).chg hCw12 (fun hs=>by have h:_=_:=hs;omega))).ext hEw13)).ext hX7)).ext hEw18)
            refine zn 7 255 (zi (some 105) (zdm (v-1) (4*j+x) a1 a1y n a1z _ hK20 (((hK12.ext hX7)).ext hEw18) hK21 (((hK10.ext hX7)).ext hEw18) hK22 (by first | rfl | assumption) (by omega) (by omega) (by omega) (by omega) (by omega)) ?_)
            rintro _ w20 ⟨rfl,hEw20⟩
            have hzw20:=hEw20.size
            rw [show emP n t (v-1) (4*j+x)=false from he]
            refine ⟨.inr hEw20, ?_⟩
            refine zk (hw:=hEw20) hT381 [(8,106,vT),(9,107,vT),(10,108,undef),(11,109,undef),(12,110,undef),(13,111,undef),(14,112,undef),(15,113,undef),(16,114,undef),(17,115,undef),(18,116,undef),(19,117,vT)] 12 1048575 (zJ (zc (zF (zf (ze (zd 4 [(4,(.iface 139 (vA [(vI (num n v+j)),(vI 9)]))),(120,(.iface 139 (vA [(vI (num n v+j)),(vI 9)]))),(119,(vA [(vI (num n v+j)),(vI 9)])),(118,(vI (num n v+j)))] (zg (zc (zx ?_)))))))))
            refine zA (zu (zu (zA (zA (zu (zu (zA (zA (zu ?_)))))))))
            refine zu (zA (zu (zB (.iface 139 (vA [(vI (num n v+j)),(vI 9)])) ?_)))
            have hX9:Ext w w20:=(((((Ext.own ((((Ext.own ((((((hEw1.trans hEw2).trans hEw3).trans hE1).trans hE2).trans hEw6).trans hEw7) hCw8 (by omega)).trans hEw9).trans hE3).trans hEw11) hCw12 (by omega)).trans hEw13).trans hX7).trans hEw18).trans hEw20)
            exact ⟨_,by rw [zb0 hok2 (by omega) hjc (zcH hnm (by omega) hen hxw (zdB (fun hh=>by have h1:(zaw (za5 n t) (v-1) (4*j+x)=true↔((t.getD (num n v+j) Nod.zero).es.get x).st=0):=hh;rw [←hem,he] at h1;simp only [Bool.false_eq_true,false_iff,true_iff] at h1;exact absurd hf100 (by omega)))) (by decide),za4 (by decide)],hX9⟩
          ·refine zh hT381 2 7 (some 100) vF (zaI (((((t.getD (num n v+j) Nod.zero).es.get x).st:Nat):Int)==((0:Nat):Int)) (zbW (by omega))) (zk hT381 [(3,101,(.func (.func 120) #[] #[(vP a1 0),(vP a1y 0),(vP a1z 0)])),(4,102,(vI v))] 2 31 (zh hT381 5 63 (some 103) (vI (v-1)) (zq .i64 (IntKind.i64.wrap (((v:Nat):Int)-((1:Nat):Int))) (zG (by omega) (by omega) (by omega))) (zk hT381 [(6,104,(vI (4*j+x)))] 1 127 ?_)))
           rcases (show emP n t (v-1) (4*j+x)=true∨emP n t (v-1) (4*j+x)=false by cases emP n t (v-1) (4*j+x)<;>simp) with he | he
           ·have hK23:=(((((((((((((((((((((((hFz1_1.ext hE1)).ext hE2)).ext hEw6)).ext hEw7)).chg hCw8 (fun hs=>by have h:_=_:=hs;omega))).ext hEw9)).ext hE3)).ext hEw11)).chg hCw12 (fun hs=>by have h:_=_:=hs;omega))).ext hEw13)).ext hX7)).ext hEw18)
            have hK24:=(((((((((((((((((((((((hFz1_2.ext hE1)).ext hE2)).ext hEw6)).ext hEw7)).chg hCw8 (fun hs=>by have h:_=_:=hs;omega))).ext hEw9)).ext hE3)).ext hEw11)).chg hCw12 (fun hs=>by have h:_=_:=hs;omega))).ext hEw13)).ext hX7)).ext hEw18)
            have hK25:=(((((((((((((((((((((((hFz1_3.ext hE1)).ext hE2)).ext hEw6)).ext hEw7)).chg hCw8 (fun hs=>by have h:_=_:=hs;omega))).ext hEw9)).ext hE3)).ext hEw11)).chg hCw12 (fun hs=>by have h:_=_:=hs;omega))).ext hEw13)).ext hX7)).ext hEw18)
            refine zn 7 255 (zi (some 105) (zdm (v-1) (4*j+x) a1 a1y n a1z _ hK23 (((hK12.ext hX7)).ext hEw18) hK24 (((hK10.ext hX7)).ext hEw18) hK25 (by first | rfl | assumption) (by omega) (by omega) (by omega) (by omega) (by omega)) ?_)
            rintro _ w21 ⟨rfl,hEw21⟩
            have hzw21:=hEw21.size
            rw [show emP n t (v-1) (4*j+x)=true from he]
            refine ⟨.inr hEw21, ?_⟩
            refine zk (hw:=hEw21) hT381 [(8,106,vT),(9,107,vT),(10,108,undef),(11,109,undef),(12,110,undef),(13,111,undef),(14,112,undef),(15,113,undef),(16,114,undef),(17,115,undef),(18,116,undef),(19,117,vT)] 12 1048575 (zJ (zc (zF (zf (ze (zd 4 [(4,(.iface 139 (vA [(vI (num n v+j)),(vI 9)]))),(120,(.iface 139 (vA [(vI (num n v+j)),(vI 9)]))),(119,(vA [(vI (num n v+j)),(vI 9)])),(118,(vI (num n v+j)))] (zg (zc (zx ?_)))))))))
            refine zA (zu (zu (zA (zA (zu (zu (zA (zA (zu ?_)))))))))
            refine zu (zA (zu (zB (.iface 139 (vA [(vI (num n v+j)),(vI 9)])) ?_)))
            have hX10:Ext w w21:=(((((Ext.own ((((Ext.own ((((((hEw1.trans hEw2).trans hEw3).trans hE1).trans hE2).trans hEw6).trans hEw7) hCw8 (by omega)).trans hEw9).trans hE3).trans hEw11) hCw12 (by omega)).trans hEw13).trans hX7).trans hEw18).trans hEw21)
            exact ⟨_,by rw [zb0 hok2 (by omega) hjc (zcH hnm (by omega) hen hxw (zdB (fun hh=>by have h1:(zaw (za5 n t) (v-1) (4*j+x)=true↔((t.getD (num n v+j) Nod.zero).es.get x).st=0):=hh;rw [←hem,he] at h1;simp only [Bool.false_eq_true,false_iff,true_iff] at h1;exact absurd hf100 (by omega)))) (by decide),za4 (by decide)],hX10⟩
           ·have hK26:=(((((((((((((((((((((((hFz1_1.ext hE1)).ext hE2)).ext hEw6)).ext hEw7)).chg hCw8 (fun hs=>by have h:_=_:=hs;omega))).ext hEw9)).ext hE3)).ext hEw11)).chg hCw12 (fun hs=>by have h:_=_:=hs;omega))).ext hEw13)).ext hX7)).ext hEw18)
            have hK27:=(((((((((((((((((((((((hFz1_2.ext hE1)).ext hE2)).ext hEw6)).ext hEw7)).chg hCw8 (fun hs=>by have h:_=_:=hs;omega))).ext hEw9)).ext hE3)).ext hEw11)).chg hCw12 (fun hs=>by have h:_=_:=hs;omega))).ext hEw13)).ext hX7)).ext hEw18)
            have hK28:=(((((((((((((((((((((((hFz1_3.ext hE1)).ext hE2)).ext hEw6)).ext hEw7)).chg hCw8 (fun hs=>by have h:_=_:=hs;omega))).ext hEw9)).ext hE3)).ext hEw11)).chg hCw12 (fun hs=>by have h:_=_:=hs;omega))).ext hEw13)).ext hX7)).ext hEw18)
            refine zn 7 255 (zi (some 105) (zdm (v-1) (4*j+x) a1 a1y n a1z _ hK26 (((hK12.ext hX7)).ext hEw18) hK27 (((hK10.ext hX7)).ext hEw18) hK28 (by first | rfl | assumption) (by omega) (by omega) (by omega) (by omega) (by omega)) ?_)
            rintro _ w22 ⟨rfl,hEw22⟩
            have hzw22:=hEw22.size
            rw [show emP n t (v-1) (4*j+x)=false from he]
            refine ⟨.inr hEw22, ?_⟩
            refine zk (hw:=hEw22) hT381 [(8,106,vF),(9,107,vF),(10,108,(vP w10.heap.size 0))] 3 2047 (zh (hw:=hEw22) hT381 11 4095 (some 109) (vB (((t.getD (num n v+j) Nod.zero).es.get x).st)) (zl (Instr.loadAt 5 (vP w10.heap.size 0)) (fun w' hC=>zo ((hK16.ext hC).cell rfl))) (zh (hw:=hEw22) hT381 12 8191 (some 110) vT (zaI (((((t.getD (num n v+j) Nod.zero).es.get x).st:Nat):Int) !=((0:Nat):Int)) (zcq (by omega))) (zk (hw:=hEw22) hT381 [(13,111,vT),(14,112,(vP w10.heap.size 1))] 2 32767 (zh (hw:=hEw22) hT381 15 65535 (some 113) (vA (zw ((t.getD (num n v+j) Nod.zero).es.get x).dg)) (zl (Instr.loadAt 23 (vP w10.heap.size 1)) (fun w' hC=>zD (vs:=zw ((t.getD (num n v+j) Nod.zero).es.get x).dg) ((hK16.ext hC).at 1 (zw ((t.getD (num n v+j) Nod.zero).es.get x).dg) (zdR _)) (by rw [zac];kernel_rfl))) (zh (hw:=hEw22) hT381 16 131071 (some 114) (vA (zw (zN (zM (t.getD (num n (v-1)+(4*j+x)) Nod.zero))))) (zl (Instr.loadAt 23 (vP w15.heap.size 0)) (fun w' hC=>zD (vs:=zw (zN (zM (t.getD (num n (v-1)+(4*j+x)) Nod.zero)))) (((hBw17.ext hEw18).ext hC).all) (by rw [zac];kernel_rfl))) ?_)))))
            rcases Bool.eq_false_or_eq_true (((t.getD (num n v+j) Nod.zero).es.get x).dg.l==(zN (zM (t.getD (num n (v-1)+(4*j+x)) Nod.zero))).l) with hf115 | hf115
            ·refine zh (hw:=hEw22) hT381 17 262143 (some 115) vF (zl (bo .neq 23 (.tmp 113) (.tmp 114) (vA (zw ((t.getD (num n v+j) Nod.zero).es.get x).dg)) (vA (zw (zN (zM (t.getD (num n (v-1)+(4*j+x)) Nod.zero)))))) (fun w' hC=>zav (r:=true) (T:=23) ((zbj (dd:=9998) (t:=23) (e:=5) (((t.getD (num n v+j) Nod.zero).es.get x).dg) (zN (zM (t.getD (num n (v-1)+(4*j+x)) Nod.zero)))).trans (congrArg (fun b=>Result.ok b _) (show ((((t.getD (num n v+j) Nod.zero).es.get x).dg).l==(zN (zM (t.getD (num n (v-1)+(4*j+x)) Nod.zero))).l)=true from hf115))))) (zk (hw:=hEw22) hT381 [(18,116,vF),(19,117,vF)] 2 1048575 (zJ (zc (zr (zy (zp (zc (ze (zd 1 [(78,(vI (4*j+x)))] ?_)))))))))
             refine zb (zv (some 79) .i64 (IntKind.i64.wrap (((4*j+x:Nat):Int)+((1:Nat):Int))) (4*j+x+1) (zG (by omega) (by omega) (by omega)) ?_)
             refine zd 1 [(11,(vI (4*j+x+1)))] (zg (zC ?_))
             have hX11:Ext w9 w22:=(((((Ext.own (hE3.trans hEw11) hCw12 (by omega)).trans hEw13).trans hX7).trans hEw18).trans hEw22)
             refine zS (x+1) ?_ ?_
             ·exact ⟨by omega,zbo hen (zez (show (zaw (za5 n t) (v-1) (4*j+x)=true↔((t.getD (num n v+j) Nod.zero).es.get x).st=0) by rw [←hem];first |(simp only [he,iff_true,true_iff];omega)|(simp only [he,Bool.false_eq_true,iff_false,false_iff];omega)) (show ((t.getD (num n v+j) Nod.zero).es.get x).st=0∨_ from by first |(left;omega)|(right;exact beq_iff_eq.1 hf115))),hX11⟩
             ·first | omega |(dsimp only;omega)
            ·refine zh (hw:=hEw22) hT381 17 262143 (some 115) vT (zl (bo .neq 23 (.tmp 113) (.tmp 114) (vA (zw ((t.getD (num n v+j) Nod.zero).es.get x).dg)) (vA (zw (zN (zM (t.getD (num n (v-1)+(4*j+x)) Nod.zero)))))) (fun w' hC=>zav (r:=false) (T:=23) ((zbj (dd:=9998) (t:=23) (e:=5) (((t.getD (num n v+j) Nod.zero).es.get x).dg) (zN (zM (t.getD (num n (v-1)+(4*j+x)) Nod.zero)))).trans (congrArg (fun b=>Result.ok b _) (show ((((t.getD (num n v+j) Nod.zero).es.get x).dg).l==(zN (zM (t.getD (num n (v-1)+(4*j+x)) Nod.zero))).l)=false from hf115))))) (zk (hw:=hEw22) hT381 [(18,116,vT),(19,117,vT)] 2 1048575 (zJ (zc (zF (zf (ze (zd 4 [(4,(.iface 139 (vA [(vI (num n v+j)),(vI 9)]))),(120,(.iface 139 (vA [(vI (num n v+j)),(vI 9)]))),(119,(vA [(vI (num n v+j)),(vI 9)])),(118,(vI (num n v+j)))] (zg (zc ?_)))))))))
             refine zx (zA (zu (zu (zA (zA (zu (zu (zA (zA ?_)))))))))
             refine zu (zu (zA (zu (zB (.iface 139 (vA [(vI (num n v+j)),(vI 9)])) ?_))))
             have hX12:Ext w w22:=(((((Ext.own ((((Ext.own ((((((hEw1.trans hEw2).trans hEw3).trans hE1).trans hE2).trans hEw6).trans hEw7) hCw8 (by omega)).trans hEw9).trans hE3).trans hEw11) hCw12 (by omega)).trans hEw13).trans hX7).trans hEw18).trans hEw22)
             exact ⟨_,by rw [zb0 hok2 (by omega) hjc (zcH hnm (by omega) hen hxw (zgg (show ¬((t.getD (num n v+j) Nod.zero).es.get x).st=0 from hf100) (by rw [←beq_iff_eq];intro hh;rw [show (((ndA n t v j).es.get x).dg.l==(zN (zM (ndA n t (v-1) (4*j+x)))).l)=false from hf115] at hh;cases hh))) (by decide),za4 (by decide)],hX12⟩
         ·refine zt (some 13) (Instr.alloc 23 true (.tuple #[])) (vP w14.heap.size 0) (zw Dig.zero) 23 ?_
          intro w23 hBw23 hEw23
          have hzw23:=hEw23.size;have hlw23:=hBw23.lt
          have hX13:Ext w13 w23:=(hEw14.trans hEw23)
          refine ⟨.inr hX13, ?_⟩
          have hK29:=(((((((((((((((((((((((((((((hg0.ext hEw1)).ext hEw2)).ext hEw3)).ext hE1)).ext hE2)).ext hEw6)).ext hEw7)).chg hCw8 (fun hs=>by have h:_=_:=hs;omega))).ext hEw9)).ext hE3)).ext hEw11)).chg hCw12 (fun hs=>by have h:_=_:=hs;omega))).ext hEw13)).ext hEw14)).ext hEw23)
          have hK30:=(((((((((((((((((((((((((((((hg1.ext hEw1)).ext hEw2)).ext hEw3)).ext hE1)).ext hE2)).ext hEw6)).ext hEw7)).chg hCw8 (fun hs=>by have h:_=_:=hs;omega))).ext hEw9)).ext hE3)).ext hEw11)).chg hCw12 (fun hs=>by have h:_=_:=hs;omega))).ext hEw13)).ext hEw14)).ext hEw23)
          have hK31:=(((((((((((((((((((((((((((((hg2.ext hEw1)).ext hEw2)).ext hEw3)).ext hE1)).ext hE2)).ext hEw6)).ext hEw7)).chg hCw8 (fun hs=>by have h:_=_:=hs;omega))).ext hEw9)).ext hE3)).ext hEw11)).chg hCw12 (fun hs=>by have h:_=_:=hs;omega))).ext hEw13)).ext hEw14)).ext hEw23)
          refine zn 9 9215 (zi (some 95) (zdA (t.getD (num n (v-1)+(4*j+x)) Nod.zero) _ (by assumption) hK29 hK30 hK31) ?_)
          rintro _ w24 ⟨rfl,hEw24⟩
          have hzw24:=hEw24.size
          have hX14:Ext w13 w24:=((hEw14.trans hEw23).trans hEw24)
          refine ⟨.inr hX14, ?_⟩
          refine zk (hw:=hX14) hT334 [(10,85,(.tuple #[(vA (zw (zN (zM (t.getD (num n (v-1)+(4*j+x)) Nod.zero))))),(vI 0)])),(11,96,(vA (zw (zN (zM (t.getD (num n (v-1)+(4*j+x)) Nod.zero)))))),(12,97,(vI 0))] 3 16383 (zn 14 32767 (zz 23 w14.heap.size 0 23 (vA (zw (zN (zM (t.getD (num n (v-1)+(4*j+x)) Nod.zero))))) (zw Dig.zero) (zw (zN (zM (t.getD (num n (v-1)+(4*j+x)) Nod.zero)))) (hBw23.ext hEw24) (by rw [zac];kernel_rfl) (by first |(simp;done)|(simp;omega)) (zaT _) ?_))
          intro w25 hBw25 hCw25
          have hzw25:=hCw25.size
          rw [zm _ _ (by simp)] at hBw25
          have hX15:Ext w13 w25:=(Ext.own ((hEw14.trans hEw23).trans hEw24) hCw25 (by omega))
          refine ⟨.inr hX15, ?_⟩
          refine zk (hw:=hX15) hT334 [(15,14,(vI 0))] 1 65535 (zJ (zc (zf (zag (Ext w25.drew) 20 [(99,4096,0),(100,316912650057057350374175801344,1),(101,633825300114114700748351602688,2),(102,32,0),(103,64,0),(104,5070602400912917605986812821504,16),(105,2048,0),(106,32958915605933964438914283339776,104),(107,41832469807531570249391205777408,132),(108,81129638414606681695789005144064,384),(109,162259276829213363391578010292224,512),(110,486777830487640090174734030864384,1536),(111,811296384146066816957890051440640,2560),(112,1460333491462920270524202092593152,4608),(113,2596148429267413814265248164614144,8192),(114,7788445287802241442795744493830144,24576),(115,2596148429267413814265248164618240,8192),(116,33749929580476379585448226139930624,106496),(117,44296782574375248205900796808658944,139776),(118,83239009013386455419879519277809664,262656)] (fun hT579=> ?_)))))
          have hEw26:Ext w25 w25.drew:=Ext.drew w25
          generalize w25.drew=w26 at hEw26⊢
          have hzw26:=hEw26.size
          refine zk hT579 [(0,98,(vP w10.heap.size 0))] 1 1 ?_
          have hK32:=(((((hBw12.ext hEw13)).ext hX15)).ext hEw26)
          refine zh hT579 1 3 (some 99) (vB (((t.getD (num n v+j) Nod.zero).es.get x).st)) (zl (Instr.loadAt 5 (vP w10.heap.size 0)) (fun w' hC=>zo ((hK32.ext hC).cell rfl))) ?_
          rcases Classical.em (((t.getD (num n v+j) Nod.zero).es.get x).st=0) with hf100 | hf100
          ·refine zh hT579 2 7 (some 100) vT (zaI (((((t.getD (num n v+j) Nod.zero).es.get x).st:Nat):Int)==((0:Nat):Int)) (zbt (by omega))) (zk hT579 [(3,101,(.func (.func 120) #[] #[(vP a1 0),(vP a1y 0),(vP a1z 0)])),(4,102,(vI v))] 2 31 (zh hT579 5 63 (some 103) (vI (v-1)) (zq .i64 (IntKind.i64.wrap (((v:Nat):Int)-((1:Nat):Int))) (zG (by omega) (by omega) (by omega))) (zk hT579 [(6,104,(vI (4*j+x)))] 1 127 ?_)))
           rcases (show emP n t (v-1) (4*j+x)=true∨emP n t (v-1) (4*j+x)=false by cases emP n t (v-1) (4*j+x)<;>simp) with he | he
           ·have hK33:=(((((((((((((((((((((((hFz1_1.ext hE1)).ext hE2)).ext hEw6)).ext hEw7)).chg hCw8 (fun hs=>by have h:_=_:=hs;omega))).ext hEw9)).ext hE3)).ext hEw11)).chg hCw12 (fun hs=>by have h:_=_:=hs;omega))).ext hEw13)).ext hX15)).ext hEw26)
            have hK34:=(((((((((((((((((((((((hFz1_2.ext hE1)).ext hE2)).ext hEw6)).ext hEw7)).chg hCw8 (fun hs=>by have h:_=_:=hs;omega))).ext hEw9)).ext hE3)).ext hEw11)).chg hCw12 (fun hs=>by have h:_=_:=hs;omega))).ext hEw13)).ext hX15)).ext hEw26)
            have hK35:=(((((((((((((((((((((((hFz1_3.ext hE1)).ext hE2)).ext hEw6)).ext hEw7)).chg hCw8 (fun hs=>by have h:_=_:=hs;omega))).ext hEw9)).ext hE3)).ext hEw11)).chg hCw12 (fun hs=>by have h:_=_:=hs;omega))).ext hEw13)).ext hX15)).ext hEw26)
            refine zn 7 255 (zi (some 105) (zdm (v-1) (4*j+x) a1 a1y n a1z _ hK33 (((hK12.ext hX15)).ext hEw26) hK34 (((hK10.ext hX15)).ext hEw26) hK35 (by first | rfl | assumption) (by omega) (by omega) (by omega) (by omega) (by omega)) ?_)
            rintro _ w27 ⟨rfl,hEw27⟩
            have hzw27:=hEw27.size
            rw [show emP n t (v-1) (4*j+x)=true from he]
            refine ⟨.inr hEw27, ?_⟩
            refine zk (hw:=hEw27) hT579 [(8,106,vF),(9,107,vF),(10,108,(vP w10.heap.size 0))] 3 2047 (zh (hw:=hEw27) hT579 11 4095 (some 109) (vB (((t.getD (num n v+j) Nod.zero).es.get x).st)) (zl (Instr.loadAt 5 (vP w10.heap.size 0)) (fun w' hC=>zo ((hK32.ext hC).cell rfl))) (zh (hw:=hEw27) hT579 12 8191 (some 110) vF (zaI (((((t.getD (num n v+j) Nod.zero).es.get x).st:Nat):Int) !=((0:Nat):Int)) (zaL (by omega))) (zk (hw:=hEw27) hT579 [(13,111,vF),(14,112,undef),(15,113,undef),(16,114,undef),(17,115,undef),(18,116,vF),(19,117,vF)] 7 1048575 (zJ (zc (zr (zy (zp (zc ?_)))))))))
            refine ze (zd 1 [(78,(vI (4*j+x)))] (zb (zv (some 79) .i64 (IntKind.i64.wrap (((4*j+x:Nat):Int)+((1:Nat):Int))) (4*j+x+1) (zG (by omega) (by omega) (by omega)) ?_)))
            refine zd 1 [(11,(vI (4*j+x+1)))] (zg (zC ?_))
            have hX16:Ext w9 w27:=(((((Ext.own (hE3.trans hEw11) hCw12 (by omega)).trans hEw13).trans hX15).trans hEw26).trans hEw27)
            refine zS (x+1) ?_ ?_
            ·exact ⟨by omega,zbo hen (zez (show (zaw (za5 n t) (v-1) (4*j+x)=true↔((t.getD (num n v+j) Nod.zero).es.get x).st=0) by rw [←hem];first |(simp only [he,iff_true,true_iff];omega)|(simp only [he,Bool.false_eq_true,iff_false,false_iff];omega)) (show ((t.getD (num n v+j) Nod.zero).es.get x).st=0∨_ from by first |(left;omega)|(right;exact beq_iff_eq.1 hf115))),hX16⟩
            ·first | omega |(dsimp only;omega)
           ·have hK36:=(((((((((((((((((((((((hFz1_1.ext hE1)).ext hE2)).ext hEw6)).ext hEw7)).chg hCw8 (fun hs=>by have h:_=_:=hs;omega))).ext hEw9)).ext hE3)).ext hEw11)).chg hCw12 (fun hs=>by have h:_=_:=hs;omega))).ext hEw13)).ext hX15)).ext hEw26)
            have hK37:=(((((((((((((((((((((((hFz1_2.ext hE1)).ext hE2)).ext hEw6)).ext hEw7)).chg hCw8 (fun hs=>by have h:_=_:=hs;omega))).ext hEw9)).ext hE3)).ext hEw11)).chg hCw12 (fun hs=>by have h:_=_:=hs;omega))).ext hEw13)).ext hX15)).ext hEw26)
            have hK38:=(((((((((((((((((((((((hFz1_3.ext hE1)).ext hE2)).ext hEw6)).ext hEw7)).chg hCw8 (fun hs=>by have h:_=_:=hs;omega))).ext hEw9)).ext hE3)).ext hEw11)).chg hCw12 (fun hs=>by have h:_=_:=hs;omega))).ext hEw13)).ext hX15)).ext hEw26)
            refine zn 7 255 (zi (some 105) (zdm (v-1) (4*j+x) a1 a1y n a1z _ hK36 (((hK12.ext hX15)).ext hEw26) hK37 (((hK10.ext hX15)).ext hEw26) hK38 (by first | rfl | assumption) (by omega) (by omega) (by omega) (by omega) (by omega)) ?_)
            rintro _ w28 ⟨rfl,hEw28⟩
            have hzw28:=hEw28.size
            rw [show emP n t (v-1) (4*j+x)=false from he]
            refine ⟨.inr hEw28, ?_⟩
            refine zk (hw:=hEw28) hT579 [(8,106,vT),(9,107,vT),(10,108,undef),(11,109,undef),(12,110,undef),(13,111,undef),(14,112,undef),(15,113,undef),(16,114,undef),(17,115,undef),(18,116,undef),(19,117,vT)] 12 1048575 (zJ (zc (zF (zf (ze (zd 4 [(4,(.iface 139 (vA [(vI (num n v+j)),(vI 9)]))),(120,(.iface 139 (vA [(vI (num n v+j)),(vI 9)]))),(119,(vA [(vI (num n v+j)),(vI 9)])),(118,(vI (num n v+j)))] (zg (zc (zx ?_)))))))))
            refine zA (zu (zu (zA (zA (zu (zu (zA (zA (zu ?_)))))))))
            refine zu (zA (zu (zB (.iface 139 (vA [(vI (num n v+j)),(vI 9)])) ?_)))
            have hX17:Ext w w28:=(((((Ext.own ((((Ext.own ((((((hEw1.trans hEw2).trans hEw3).trans hE1).trans hE2).trans hEw6).trans hEw7) hCw8 (by omega)).trans hEw9).trans hE3).trans hEw11) hCw12 (by omega)).trans hEw13).trans hX15).trans hEw26).trans hEw28)
            exact ⟨_,by rw [zb0 hok2 (by omega) hjc (zcH hnm (by omega) hen hxw (zdB (fun hh=>by have h1:(zaw (za5 n t) (v-1) (4*j+x)=true↔((t.getD (num n v+j) Nod.zero).es.get x).st=0):=hh;rw [←hem,he] at h1;simp only [Bool.false_eq_true,false_iff,true_iff] at h1;exact absurd hf100 (by omega)))) (by decide),za4 (by decide)],hX17⟩
          ·refine zh hT579 2 7 (some 100) vF (zaI (((((t.getD (num n v+j) Nod.zero).es.get x).st:Nat):Int)==((0:Nat):Int)) (zbW (by omega))) (zk hT579 [(3,101,(.func (.func 120) #[] #[(vP a1 0),(vP a1y 0),(vP a1z 0)])),(4,102,(vI v))] 2 31 (zh hT579 5 63 (some 103) (vI (v-1)) (zq .i64 (IntKind.i64.wrap (((v:Nat):Int)-((1:Nat):Int))) (zG (by omega) (by omega) (by omega))) (zk hT579 [(6,104,(vI (4*j+x)))] 1 127 ?_)))
           rcases (show emP n t (v-1) (4*j+x)=true∨emP n t (v-1) (4*j+x)=false by cases emP n t (v-1) (4*j+x)<;>simp) with he | he
           ·have hK39:=(((((((((((((((((((((((hFz1_1.ext hE1)).ext hE2)).ext hEw6)).ext hEw7)).chg hCw8 (fun hs=>by have h:_=_:=hs;omega))).ext hEw9)).ext hE3)).ext hEw11)).chg hCw12 (fun hs=>by have h:_=_:=hs;omega))).ext hEw13)).ext hX15)).ext hEw26)
            have hK40:=(((((((((((((((((((((((hFz1_2.ext hE1)).ext hE2)).ext hEw6)).ext hEw7)).chg hCw8 (fun hs=>by have h:_=_:=hs;omega))).ext hEw9)).ext hE3)).ext hEw11)).chg hCw12 (fun hs=>by have h:_=_:=hs;omega))).ext hEw13)).ext hX15)).ext hEw26)
            have hK41:=(((((((((((((((((((((((hFz1_3.ext hE1)).ext hE2)).ext hEw6)).ext hEw7)).chg hCw8 (fun hs=>by have h:_=_:=hs;omega))).ext hEw9)).ext hE3)).ext hEw11)).chg hCw12 (fun hs=>by have h:_=_:=hs;omega))).ext hEw13)).ext hX15)).ext hEw26)
            refine zn 7 255 (zi (some 105) (zdm (v-1) (4*j+x) a1 a1y n a1z _ hK39 (((hK12.ext hX15)).ext hEw26) hK40 (((hK10.ext hX15)).ext hEw26) hK41 (by first | rfl | assumption) (by omega) (by omega) (by omega) (by omega) (by omega)) ?_)
            rintro _ w29 ⟨rfl,hEw29⟩
            have hzw29:=hEw29.size
            rw [show emP n t (v-1) (4*j+x)=true from he]
            refine ⟨.inr hEw29, ?_⟩
            refine zk (hw:=hEw29) hT579 [(8,106,vT),(9,107,vT),(10,108,undef),(11,109,undef),(12,110,undef),(13,111,undef),(14,112,undef),(15,113,undef),(16,114,undef),(17,115,undef),(18,116,undef),(19,117,vT)] 12 1048575 (zJ (zc (zF (zf (ze (zd 4 [(4,(.iface 139 (vA [(vI (num n v+j)),(vI 9)]))),(120,(.iface 139 (vA [(vI (num n v+j)),(vI 9)]))),(119,(vA [(vI (num n v+j)),(vI 9)])),(118,(vI (num n v+j)))] (zg (zc (zx ?_)))))))))
            refine zA (zu (zu (zA (zA (zu (zu (zA (zA (zu ?_)))))))))
            refine zu (zA (zu (zB (.iface 139 (vA [(vI (num n v+j)),(vI 9)])) ?_)))
            have hX18:Ext w w29:=(((((Ext.own ((((Ext.own ((((((hEw1.trans hEw2).trans hEw3).trans hE1).trans hE2).trans hEw6).trans hEw7) hCw8 (by omega)).trans hEw9).trans hE3).trans hEw11) hCw12 (by omega)).trans hEw13).trans hX15).trans hEw26).trans hEw29)
            exact ⟨_,by rw [zb0 hok2 (by omega) hjc (zcH hnm (by omega) hen hxw (zdB (fun hh=>by have h1:(zaw (za5 n t) (v-1) (4*j+x)=true↔((t.getD (num n v+j) Nod.zero).es.get x).st=0):=hh;rw [←hem,he] at h1;simp only [Bool.false_eq_true,false_iff,true_iff] at h1;exact absurd hf100 (by omega)))) (by decide),za4 (by decide)],hX18⟩
           ·have hK42:=(((((((((((((((((((((((hFz1_1.ext hE1)).ext hE2)).ext hEw6)).ext hEw7)).chg hCw8 (fun hs=>by have h:_=_:=hs;omega))).ext hEw9)).ext hE3)).ext hEw11)).chg hCw12 (fun hs=>by have h:_=_:=hs;omega))).ext hEw13)).ext hX15)).ext hEw26)
            have hK43:=(((((((((((((((((((((((hFz1_2.ext hE1)).ext hE2)).ext hEw6)).ext hEw7)).chg hCw8 (fun hs=>by have h:_=_:=hs;omega))).ext hEw9)).ext hE3)).ext hEw11)).chg hCw12 (fun hs=>by have h:_=_:=hs;omega))).ext hEw13)).ext hX15)).ext hEw26)
            have hK44:=(((((((((((((((((((((((hFz1_3.ext hE1)).ext hE2)).ext hEw6)).ext hEw7)).chg hCw8 (fun hs=>by have h:_=_:=hs;omega))).ext hEw9)).ext hE3)).ext hEw11)).chg hCw12 (fun hs=>by have h:_=_:=hs;omega))).ext hEw13)).ext hX15)).ext hEw26)
            refine zn 7 255 (zi (some 105) (zdm (v-1) (4*j+x) a1 a1y n a1z _ hK42 (((hK12.ext hX15)).ext hEw26) hK43 (((hK10.ext hX15)).ext hEw26) hK44 (by first | rfl | assumption) (by omega) (by omega) (by omega) (by omega) (by omega)) ?_)
            rintro _ w30 ⟨rfl,hEw30⟩
            have hzw30:=hEw30.size
            rw [show emP n t (v-1) (4*j+x)=false from he]
            refine ⟨.inr hEw30, ?_⟩
            refine zk (hw:=hEw30) hT579 [(8,106,vF),(9,107,vF),(10,108,(vP w10.heap.size 0))] 3 2047 (zh (hw:=hEw30) hT579 11 4095 (some 109) (vB (((t.getD (num n v+j) Nod.zero).es.get x).st)) (zl (Instr.loadAt 5 (vP w10.heap.size 0)) (fun w' hC=>zo ((hK32.ext hC).cell rfl))) (zh (hw:=hEw30) hT579 12 8191 (some 110) vT (zaI (((((t.getD (num n v+j) Nod.zero).es.get x).st:Nat):Int) !=((0:Nat):Int)) (zcq (by omega))) (zk (hw:=hEw30) hT579 [(13,111,vT),(14,112,(vP w10.heap.size 1))] 2 32767 (zh (hw:=hEw30) hT579 15 65535 (some 113) (vA (zw ((t.getD (num n v+j) Nod.zero).es.get x).dg)) (zl (Instr.loadAt 23 (vP w10.heap.size 1)) (fun w' hC=>zD (vs:=zw ((t.getD (num n v+j) Nod.zero).es.get x).dg) ((hK32.ext hC).at 1 (zw ((t.getD (num n v+j) Nod.zero).es.get x).dg) (zdR _)) (by rw [zac];kernel_rfl))) (zh (hw:=hEw30) hT579 16 131071 (some 114) (vA (zw (zN (zM (t.getD (num n (v-1)+(4*j+x)) Nod.zero))))) (zl (Instr.loadAt 23 (vP w14.heap.size 0)) (fun w' hC=>zD (vs:=zw (zN (zM (t.getD (num n (v-1)+(4*j+x)) Nod.zero)))) (((hBw25.ext hEw26).ext hC).all) (by rw [zac];kernel_rfl))) ?_)))))
            rcases Bool.eq_false_or_eq_true (((t.getD (num n v+j) Nod.zero).es.get x).dg.l==(zN (zM (t.getD (num n (v-1)+(4*j+x)) Nod.zero))).l) with hf115 | hf115
            ·refine zh (hw:=hEw30) hT579 17 262143 (some 115) vF (zl (bo .neq 23 (.tmp 113) (.tmp 114) (vA (zw ((t.getD (num n v+j) Nod.zero).es.get x).dg)) (vA (zw (zN (zM (t.getD (num n (v-1)+(4*j+x)) Nod.zero)))))) (fun w' hC=>zav (r:=true) (T:=23) ((zbj (dd:=9998) (t:=23) (e:=5) (((t.getD (num n v+j) Nod.zero).es.get x).dg) (zN (zM (t.getD (num n (v-1)+(4*j+x)) Nod.zero)))).trans (congrArg (fun b=>Result.ok b _) (show ((((t.getD (num n v+j) Nod.zero).es.get x).dg).l==(zN (zM (t.getD (num n (v-1)+(4*j+x)) Nod.zero))).l)=true from hf115))))) (zk (hw:=hEw30) hT579 [(18,116,vF),(19,117,vF)] 2 1048575 (zJ (zc (zr (zy (zp (zc (ze (zd 1 [(78,(vI (4*j+x)))] ?_)))))))))
             refine zb (zv (some 79) .i64 (IntKind.i64.wrap (((4*j+x:Nat):Int)+((1:Nat):Int))) (4*j+x+1) (zG (by omega) (by omega) (by omega)) ?_)
             refine zd 1 [(11,(vI (4*j+x+1)))] (zg (zC ?_))
             have hX19:Ext w9 w30:=(((((Ext.own (hE3.trans hEw11) hCw12 (by omega)).trans hEw13).trans hX15).trans hEw26).trans hEw30)
             refine zS (x+1) ?_ ?_
             ·exact ⟨by omega,zbo hen (zez (show (zaw (za5 n t) (v-1) (4*j+x)=true↔((t.getD (num n v+j) Nod.zero).es.get x).st=0) by rw [←hem];first |(simp only [he,iff_true,true_iff];omega)|(simp only [he,Bool.false_eq_true,iff_false,false_iff];omega)) (show ((t.getD (num n v+j) Nod.zero).es.get x).st=0∨_ from by first |(left;omega)|(right;exact beq_iff_eq.1 hf115))),hX19⟩
             ·first | omega |(dsimp only;omega)
            ·refine zh (hw:=hEw30) hT579 17 262143 (some 115) vT (zl (bo .neq 23 (.tmp 113) (.tmp 114) (vA (zw ((t.getD (num n v+j) Nod.zero).es.get x).dg)) (vA (zw (zN (zM (t.getD (num n (v-1)+(4*j+x)) Nod.zero)))))) (fun w' hC=>zav (r:=false) (T:=23) ((zbj (dd:=9998) (t:=23) (e:=5) (((t.getD (num n v+j) Nod.zero).es.get x).dg) (zN (zM (t.getD (num n (v-1)+(4*j+x)) Nod.zero)))).trans (congrArg (fun b=>Result.ok b _) (show ((((t.getD (num n v+j) Nod.zero).es.get x).dg).l==(zN (zM (t.getD (num n (v-1)+(4*j+x)) Nod.zero))).l)=false from hf115))))) (zk (hw:=hEw30) hT579 [(18,116,vT),(19,117,vT)] 2 1048575 (zJ (zc (zF (zf (ze (zd 4 [(4,(.iface 139 (vA [(vI (num n v+j)),(vI 9)]))),(120,(.iface 139 (vA [(vI (num n v+j)),(vI 9)]))),(119,(vA [(vI (num n v+j)),(vI 9)])),(118,(vI (num n v+j)))] (zg (zc ?_)))))))))
             refine zx (zA (zu (zu (zA (zA (zu (zu (zA (zA ?_)))))))))
             refine zu (zu (zA (zu (zB (.iface 139 (vA [(vI (num n v+j)),(vI 9)])) ?_))))
             have hX20:Ext w w30:=(((((Ext.own ((((Ext.own ((((((hEw1.trans hEw2).trans hEw3).trans hE1).trans hE2).trans hEw6).trans hEw7) hCw8 (by omega)).trans hEw9).trans hE3).trans hEw11) hCw12 (by omega)).trans hEw13).trans hX15).trans hEw26).trans hEw30)
             exact ⟨_,by rw [zb0 hok2 (by omega) hjc (zcH hnm (by omega) hen hxw (zgg (show ¬((t.getD (num n v+j) Nod.zero).es.get x).st=0 from hf100) (by rw [←beq_iff_eq];intro hh;rw [show (((ndA n t v j).es.get x).dg.l==(zN (zM (ndA n t (v-1) (4*j+x)))).l)=false from hf115] at hh;cases hh))) (by decide),za4 (by decide)],hX20⟩
        ·refine zt (some 13) (Instr.alloc 23 true (.tuple #[])) (vP w13.heap.size 0) (zw Dig.zero) 23 ?_
         intro w31 hBw31 hEw31
         have hzw31:=hEw31.size;have hlw31:=hBw31.lt
         refine ⟨.inr hEw31, ?_⟩
         have hK45:=(((((((hK7.ext hEw11)).chg hCw12 (fun k h1 h2 hs=>by have h:k=_:=hs;omega))).ext hEw13)).ext hEw31)
         have hK46:=(((((((((((((((((hK3.ext hEw6)).ext hEw7)).chg hCw8 (fun k h1 h2 hs=>by have h:k=_:=hs;omega))).ext hEw9)).ext hE3)).ext hEw11)).chg hCw12 (fun k h1 h2 hs=>by have h:k=_:=hs;omega))).ext hEw13)).ext hEw31)
         refine zn 6 8319 (zi (some 92) (zcs n (v-1) (4*j+x) _ hK45 hK46 (by first | rfl | assumption) (by first | rfl | assumption) (by omega) (by omega) (by omega) (by omega)) ?_)
         rintro _ w32 ⟨rfl,hEw32⟩
         have hzw32:=hEw32.size
         have hX21:Ext w13 w32:=(hEw31.trans hEw32)
         refine ⟨.inr hX21, ?_⟩
         refine zh (hw:=hX21) hT334 7 8447 (some 93) (vP b2 (o2+(num n (v-1)+(4*j+x))*274)) (zl (Instr.indexAt 24 (.slice (pA b2 o2) n_t c_t) (vI (num n (v-1)+(4*j+x)))) (fun w' hC=>zap (E:=47) (sz:=274) (by omega))) ?_
         have hK47:=(((((((((((((hK5.ext hEw7)).chg hCw8 (fun k h1 h2 hs=>by have h:k=_:=hs;omega))).ext hEw9)).ext hE3)).ext hEw11)).chg hCw12 (fun k h1 h2 hs=>by have h:k=_:=hs;omega))).ext hEw13)
         refine zh (hw:=hX21) hT334 8 8703 (some 94) (vA (zK (t.getD (num n (v-1)+(4*j+x)) Nod.zero))) (zl (Instr.loadAt 47 (vP b2 (o2+(num n (v-1)+(4*j+x))*274))) (fun w' hC=>zD (vs:=zK (t.getD (num n (v-1)+(4*j+x)) Nod.zero)) ((hK47.ext hC).at Nod.zero (by omega)) (by rw [zW];kernel_rfl))) ?_
         have hK48:=(((((((((((((((((((((((((((((hg0.ext hEw1)).ext hEw2)).ext hEw3)).ext hE1)).ext hE2)).ext hEw6)).ext hEw7)).chg hCw8 (fun hs=>by have h:_=_:=hs;omega))).ext hEw9)).ext hE3)).ext hEw11)).chg hCw12 (fun hs=>by have h:_=_:=hs;omega))).ext hEw13)).ext hEw31)).ext hEw32)
         have hK49:=(((((((((((((((((((((((((((((hg1.ext hEw1)).ext hEw2)).ext hEw3)).ext hE1)).ext hE2)).ext hEw6)).ext hEw7)).chg hCw8 (fun hs=>by have h:_=_:=hs;omega))).ext hEw9)).ext hE3)).ext hEw11)).chg hCw12 (fun hs=>by have h:_=_:=hs;omega))).ext hEw13)).ext hEw31)).ext hEw32)
         have hK50:=(((((((((((((((((((((((((((((hg2.ext hEw1)).ext hEw2)).ext hEw3)).ext hE1)).ext hE2)).ext hEw6)).ext hEw7)).chg hCw8 (fun hs=>by have h:_=_:=hs;omega))).ext hEw9)).ext hE3)).ext hEw11)).chg hCw12 (fun hs=>by have h:_=_:=hs;omega))).ext hEw13)).ext hEw31)).ext hEw32)
         refine zn 9 9215 (zi (some 95) (zdA (t.getD (num n (v-1)+(4*j+x)) Nod.zero) _ (by assumption) hK48 hK49 hK50) ?_)
         rintro _ w33 ⟨rfl,hEw33⟩
         have hzw33:=hEw33.size
         have hX22:Ext w13 w33:=((hEw31.trans hEw32).trans hEw33)
         refine ⟨.inr hX22, ?_⟩
         refine zk (hw:=hX22) hT334 [(10,85,(.tuple #[(vA (zw (zN (zM (t.getD (num n (v-1)+(4*j+x)) Nod.zero))))),(vI 0)])),(11,96,(vA (zw (zN (zM (t.getD (num n (v-1)+(4*j+x)) Nod.zero)))))),(12,97,(vI 0))] 3 16383 (zn 14 32767 (zz 23 w13.heap.size 0 23 (vA (zw (zN (zM (t.getD (num n (v-1)+(4*j+x)) Nod.zero))))) (zw Dig.zero) (zw (zN (zM (t.getD (num n (v-1)+(4*j+x)) Nod.zero)))) (((hBw31.ext hEw32)).ext hEw33) (by rw [zac];kernel_rfl) (by first |(simp;done)|(simp;omega)) (zaT _) ?_))
         intro w34 hBw34 hCw34
         have hzw34:=hCw34.size
         rw [zm _ _ (by simp)] at hBw34
         have hX23:Ext w13 w34:=(Ext.own ((hEw31.trans hEw32).trans hEw33) hCw34 (by omega))
         refine ⟨.inr hX23, ?_⟩
         refine zk (hw:=hX23) hT334 [(15,14,(vI 0))] 1 65535 (zJ (zc (zf (zag (Ext w34.drew) 20 [(99,4096,0),(100,316912650057057350374175801344,1),(101,633825300114114700748351602688,2),(102,32,0),(103,64,0),(104,5070602400912917605986812821504,16),(105,2048,0),(106,32958915605933964438914283339776,104),(107,41832469807531570249391205777408,132),(108,81129638414606681695789005144064,384),(109,162259276829213363391578010292224,512),(110,486777830487640090174734030864384,1536),(111,811296384146066816957890051440640,2560),(112,1460333491462920270524202092593152,4608),(113,2596148429267413814265248164614144,8192),(114,7788445287802241442795744493830144,24576),(115,2596148429267413814265248164618240,8192),(116,33749929580476379585448226139930624,106496),(117,44296782574375248205900796808658944,139776),(118,83239009013386455419879519277809664,262656)] (fun hT786=> ?_)))))
         have hEw35:Ext w34 w34.drew:=Ext.drew w34
         generalize w34.drew=w35 at hEw35⊢
         have hzw35:=hEw35.size
         refine zk hT786 [(0,98,(vP w10.heap.size 0))] 1 1 ?_
         have hK51:=(((((hBw12.ext hEw13)).ext hX23)).ext hEw35)
         refine zh hT786 1 3 (some 99) (vB (((t.getD (num n v+j) Nod.zero).es.get x).st)) (zl (Instr.loadAt 5 (vP w10.heap.size 0)) (fun w' hC=>zo ((hK51.ext hC).cell rfl))) ?_
         rcases Classical.em (((t.getD (num n v+j) Nod.zero).es.get x).st=0) with hf100 | hf100
         ·refine zh hT786 2 7 (some 100) vT (zaI (((((t.getD (num n v+j) Nod.zero).es.get x).st:Nat):Int)==((0:Nat):Int)) (zbt (by omega))) (zk hT786 [(3,101,(.func (.func 120) #[] #[(vP a1 0),(vP a1y 0),(vP a1z 0)])),(4,102,(vI v))] 2 31 (zh hT786 5 63 (some 103) (vI (v-1)) (zq .i64 (IntKind.i64.wrap (((v:Nat):Int)-((1:Nat):Int))) (zG (by omega) (by omega) (by omega))) (zk hT786 [(6,104,(vI (4*j+x)))] 1 127 ?_)))
          rcases (show emP n t (v-1) (4*j+x)=true∨emP n t (v-1) (4*j+x)=false by cases emP n t (v-1) (4*j+x)<;>simp) with he | he
          ·have hK52:=(((((((((((((((((((((((hFz1_1.ext hE1)).ext hE2)).ext hEw6)).ext hEw7)).chg hCw8 (fun hs=>by have h:_=_:=hs;omega))).ext hEw9)).ext hE3)).ext hEw11)).chg hCw12 (fun hs=>by have h:_=_:=hs;omega))).ext hEw13)).ext hX23)).ext hEw35)
           have hK53:=(((((((((((((((((((((((hFz1_2.ext hE1)).ext hE2)).ext hEw6)).ext hEw7)).chg hCw8 (fun hs=>by have h:_=_:=hs;omega))).ext hEw9)).ext hE3)).ext hEw11)).chg hCw12 (fun hs=>by have h:_=_:=hs;omega))).ext hEw13)).ext hX23)).ext hEw35)
           have hK54:=(((((((hK45.ext hEw32)).ext hEw33)).chg hCw34 (fun k h1 h2 hs=>by have h:k=_:=hs;omega))).ext hEw35)
           have hK55:=(((((((((((((((((((((((hFz1_3.ext hE1)).ext hE2)).ext hEw6)).ext hEw7)).chg hCw8 (fun hs=>by have h:_=_:=hs;omega))).ext hEw9)).ext hE3)).ext hEw11)).chg hCw12 (fun hs=>by have h:_=_:=hs;omega))).ext hEw13)).ext hX23)).ext hEw35)
           refine zn 7 255 (zi (some 105) (zdm (v-1) (4*j+x) a1 a1y n a1z _ hK52 (((hK47.ext hX23)).ext hEw35) hK53 hK54 hK55 (by first | rfl | assumption) (by omega) (by omega) (by omega) (by omega) (by omega)) ?_)
           rintro _ w36 ⟨rfl,hEw36⟩
           have hzw36:=hEw36.size
           rw [show emP n t (v-1) (4*j+x)=true from he]
           refine ⟨.inr hEw36, ?_⟩
           refine zk (hw:=hEw36) hT786 [(8,106,vF),(9,107,vF),(10,108,(vP w10.heap.size 0))] 3 2047 (zh (hw:=hEw36) hT786 11 4095 (some 109) (vB (((t.getD (num n v+j) Nod.zero).es.get x).st)) (zl (Instr.loadAt 5 (vP w10.heap.size 0)) (fun w' hC=>zo ((hK51.ext hC).cell rfl))) (zh (hw:=hEw36) hT786 12 8191 (some 110) vF (zaI (((((t.getD (num n v+j) Nod.zero).es.get x).st:Nat):Int) !=((0:Nat):Int)) (zaL (by omega))) (zk (hw:=hEw36) hT786 [(13,111,vF),(14,112,undef),(15,113,undef),(16,114,undef),(17,115,undef),(18,116,vF),(19,117,vF)] 7 1048575 (zJ (zc (zr (zy (zp (zc ?_)))))))))
           refine ze (zd 1 [(78,(vI (4*j+x)))] (zb (zv (some 79) .i64 (IntKind.i64.wrap (((4*j+x:Nat):Int)+((1:Nat):Int))) (4*j+x+1) (zG (by omega) (by omega) (by omega)) ?_)))
           refine zd 1 [(11,(vI (4*j+x+1)))] (zg (zC ?_))
           have hX24:Ext w9 w36:=(((((Ext.own (hE3.trans hEw11) hCw12 (by omega)).trans hEw13).trans hX23).trans hEw35).trans hEw36)
           refine zS (x+1) ?_ ?_
           ·exact ⟨by omega,zbo hen (zez (show (zaw (za5 n t) (v-1) (4*j+x)=true↔((t.getD (num n v+j) Nod.zero).es.get x).st=0) by rw [←hem];first |(simp only [he,iff_true,true_iff];omega)|(simp only [he,Bool.false_eq_true,iff_false,false_iff];omega)) (show ((t.getD (num n v+j) Nod.zero).es.get x).st=0∨_ from by first |(left;omega)|(right;exact beq_iff_eq.1 hf115))),hX24⟩
           ·first | omega |(dsimp only;omega)
          ·have hK56:=(((((((((((((((((((((((hFz1_1.ext hE1)).ext hE2)).ext hEw6)).ext hEw7)).chg hCw8 (fun hs=>by have h:_=_:=hs;omega))).ext hEw9)).ext hE3)).ext hEw11)).chg hCw12 (fun hs=>by have h:_=_:=hs;omega))).ext hEw13)).ext hX23)).ext hEw35)
           have hK57:=(((((((((((((((((((((((hFz1_2.ext hE1)).ext hE2)).ext hEw6)).ext hEw7)).chg hCw8 (fun hs=>by have h:_=_:=hs;omega))).ext hEw9)).ext hE3)).ext hEw11)).chg hCw12 (fun hs=>by have h:_=_:=hs;omega))).ext hEw13)).ext hX23)).ext hEw35)
           have hK58:=(((((((hK45.ext hEw32)).ext hEw33)).chg hCw34 (fun k h1 h2 hs=>by have h:k=_:=hs;omega))).ext hEw35)
           have hK59:=(((((((((((((((((((((((hFz1_3.ext hE1)).ext hE2)).ext hEw6)).ext hEw7)).chg hCw8 (fun hs=>by have h:_=_:=hs;omega))).ext hEw9)).ext hE3)).ext hEw11)).chg hCw12 (fun hs=>by have h:_=_:=hs;omega))).ext hEw13)).ext hX23)).ext hEw35)
           refine zn 7 255 (zi (some 105) (zdm (v-1) (4*j+x) a1 a1y n a1z _ hK56 (((hK47.ext hX23)).ext hEw35) hK57 hK58 hK59 (by first | rfl | assumption) (by omega) (by omega) (by omega) (by omega) (by omega)) ?_)
           rintro _ w37 ⟨rfl,hEw37⟩
           have hzw37:=hEw37.size
           rw [show emP n t (v-1) (4*j+x)=false from he]
           refine ⟨.inr hEw37, ?_⟩
           refine zk (hw:=hEw37) hT786 [(8,106,vT),(9,107,vT),(10,108,undef),(11,109,undef),(12,110,undef),(13,111,undef),(14,112,undef),(15,113,undef),(16,114,undef),(17,115,undef),(18,116,undef),(19,117,vT)] 12 1048575 (zJ (zc (zF (zf (ze (zd 4 [(4,(.iface 139 (vA [(vI (num n v+j)),(vI 9)]))),(120,(.iface 139 (vA [(vI (num n v+j)),(vI 9)]))),(119,(vA [(vI (num n v+j)),(vI 9)])),(118,(vI (num n v+j)))] (zg (zc (zx ?_)))))))))
           refine zA (zu (zu (zA (zA (zu (zu (zA (zA (zu ?_)))))))))
           refine zu (zA (zu (zB (.iface 139 (vA [(vI (num n v+j)),(vI 9)])) ?_)))
           have hX25:Ext w w37:=(((((Ext.own ((((Ext.own ((((((hEw1.trans hEw2).trans hEw3).trans hE1).trans hE2).trans hEw6).trans hEw7) hCw8 (by omega)).trans hEw9).trans hE3).trans hEw11) hCw12 (by omega)).trans hEw13).trans hX23).trans hEw35).trans hEw37)
           exact ⟨_,by rw [zb0 hok2 (by omega) hjc (zcH hnm (by omega) hen hxw (zdB (fun hh=>by have h1:(zaw (za5 n t) (v-1) (4*j+x)=true↔((t.getD (num n v+j) Nod.zero).es.get x).st=0):=hh;rw [←hem,he] at h1;simp only [Bool.false_eq_true,false_iff,true_iff] at h1;exact absurd hf100 (by omega)))) (by decide),za4 (by decide)],hX25⟩
         ·refine zh hT786 2 7 (some 100) vF (zaI (((((t.getD (num n v+j) Nod.zero).es.get x).st:Nat):Int)==((0:Nat):Int)) (zbW (by omega))) (zk hT786 [(3,101,(.func (.func 120) #[] #[(vP a1 0),(vP a1y 0),(vP a1z 0)])),(4,102,(vI v))] 2 31 (zh hT786 5 63 (some 103) (vI (v-1)) (zq .i64 (IntKind.i64.wrap (((v:Nat):Int)-((1:Nat):Int))) (zG (by omega) (by omega) (by omega))) (zk hT786 [(6,104,(vI (4*j+x)))] 1 127 ?_)))
          rcases (show emP n t (v-1) (4*j+x)=true∨emP n t (v-1) (4*j+x)=false by cases emP n t (v-1) (4*j+x)<;>simp) with he | he
          ·have hK60:=(((((((((((((((((((((((hFz1_1.ext hE1)).ext hE2)).ext hEw6)).ext hEw7)).chg hCw8 (fun hs=>by have h:_=_:=hs;omega))).ext hEw9)).ext hE3)).ext hEw11)).chg hCw12 (fun hs=>by have h:_=_:=hs;omega))).ext hEw13)).ext hX23)).ext hEw35)
           have hK61:=(((((((((((((((((((((((hFz1_2.ext hE1)).ext hE2)).ext hEw6)).ext hEw7)).chg hCw8 (fun hs=>by have h:_=_:=hs;omega))).ext hEw9)).ext hE3)).ext hEw11)).chg hCw12 (fun hs=>by have h:_=_:=hs;omega))).ext hEw13)).ext hX23)).ext hEw35)
           have hK62:=(((((((hK45.ext hEw32)).ext hEw33)).chg hCw34 (fun k h1 h2 hs=>by have h:k=_:=hs;omega))).ext hEw35)
           have hK63:=(((((((((((((((((((((((hFz1_3.ext hE1)).ext hE2)).ext hEw6)).ext hEw7)).chg hCw8 (fun hs=>by have h:_=_:=hs;omega))).ext hEw9)).ext hE3)).ext hEw11)).chg hCw12 (fun hs=>by have h:_=_:=hs;omega))).ext hEw13)).ext hX23)).ext hEw35)
           refine zn 7 255 (zi (some 105) (zdm (v-1) (4*j+x) a1 a1y n a1z _ hK60 (((hK47.ext hX23)).ext hEw35) hK61 hK62 hK63 (by first | rfl | assumption) (by omega) (by omega) (by omega) (by omega) (by omega)) ?_)
           rintro _ w38 ⟨rfl,hEw38⟩
           have hzw38:=hEw38.size
           rw [show emP n t (v-1) (4*j+x)=true from he]
           refine ⟨.inr hEw38, ?_⟩
           refine zk (hw:=hEw38) hT786 [(8,106,vT),(9,107,vT),(10,108,undef),(11,109,undef),(12,110,undef),(13,111,undef),(14,112,undef),(15,113,undef),(16,114,undef),(17,115,undef),(18,116,undef),(19,117,vT)] 12 1048575 (zJ (zc (zF (zf (ze (zd 4 [(4,(.iface 139 (vA [(vI (num n v+j)),(vI 9)]))),(120,(.iface 139 (vA [(vI (num n v+j)),(vI 9)]))),(119,(vA [(vI (num n v+j)),(vI 9)])),(118,(vI (num n v+j)))] (zg (zc (zx ?_)))))))))
           refine zA (zu (zu (zA (zA (zu (zu (zA (zA (zu ?_)))))))))
           refine zu (zA (zu (zB (.iface 139 (vA [(vI (num n v+j)),(vI 9)])) ?_)))
           have hX26:Ext w w38:=(((((Ext.own ((((Ext.own ((((((hEw1.trans hEw2).trans hEw3).trans hE1).trans hE2).trans hEw6).trans hEw7) hCw8 (by omega)).trans hEw9).trans hE3).trans hEw11) hCw12 (by omega)).trans hEw13).trans hX23).trans hEw35).trans hEw38)
           exact ⟨_,by rw [zb0 hok2 (by omega) hjc (zcH hnm (by omega) hen hxw (zdB (fun hh=>by have h1:(zaw (za5 n t) (v-1) (4*j+x)=true↔((t.getD (num n v+j) Nod.zero).es.get x).st=0):=hh;rw [←hem,he] at h1;simp only [Bool.false_eq_true,false_iff,true_iff] at h1;exact absurd hf100 (by omega)))) (by decide),za4 (by decide)],hX26⟩
          ·have hK64:=(((((((((((((((((((((((hFz1_1.ext hE1)).ext hE2)).ext hEw6)).ext hEw7)).chg hCw8 (fun hs=>by have h:_=_:=hs;omega))).ext hEw9)).ext hE3)).ext hEw11)).chg hCw12 (fun hs=>by have h:_=_:=hs;omega))).ext hEw13)).ext hX23)).ext hEw35)
           have hK65:=(((((((((((((((((((((((hFz1_2.ext hE1)).ext hE2)).ext hEw6)).ext hEw7)).chg hCw8 (fun hs=>by have h:_=_:=hs;omega))).ext hEw9)).ext hE3)).ext hEw11)).chg hCw12 (fun hs=>by have h:_=_:=hs;omega))).ext hEw13)).ext hX23)).ext hEw35)
           have hK66:=(((((((hK45.ext hEw32)).ext hEw33)).chg hCw34 (fun k h1 h2 hs=>by have h:k=_:=hs;omega))).ext hEw35)
           have hK67:=(((((((((((((((((((((((hFz1_3.ext hE1)).ext hE2)).ext hEw6)).ext hEw7)).chg hCw8 (fun hs=>by have h:_=_:=hs;omega))).ext hEw9)).ext hE3)).ext hEw11)).chg hCw12 (fun hs=>by have h:_=_:=hs;omega))).ext hEw13)).ext hX23)).ext hEw35)
           refine zn 7 255 (zi (some 105) (zdm (v-1) (4*j+x) a1 a1y n a1z _ hK64 (((hK47.ext hX23)).ext hEw35) hK65 hK66 hK67 (by first | rfl | assumption) (by omega) (by omega) (by omega) (by omega) (by omega)) ?_)
           rintro _ w39 ⟨rfl,hEw39⟩
           have hzw39:=hEw39.size
           rw [show emP n t (v-1) (4*j+x)=false from he]
           refine ⟨.inr hEw39, ?_⟩
           refine zk (hw:=hEw39) hT786 [(8,106,vF),(9,107,vF),(10,108,(vP w10.heap.size 0))] 3 2047 (zh (hw:=hEw39) hT786 11 4095 (some 109) (vB (((t.getD (num n v+j) Nod.zero).es.get x).st)) (zl (Instr.loadAt 5 (vP w10.heap.size 0)) (fun w' hC=>zo ((hK51.ext hC).cell rfl))) (zh (hw:=hEw39) hT786 12 8191 (some 110) vT (zaI (((((t.getD (num n v+j) Nod.zero).es.get x).st:Nat):Int) !=((0:Nat):Int)) (zcq (by omega))) (zk (hw:=hEw39) hT786 [(13,111,vT),(14,112,(vP w10.heap.size 1))] 2 32767 (zh (hw:=hEw39) hT786 15 65535 (some 113) (vA (zw ((t.getD (num n v+j) Nod.zero).es.get x).dg)) (zl (Instr.loadAt 23 (vP w10.heap.size 1)) (fun w' hC=>zD (vs:=zw ((t.getD (num n v+j) Nod.zero).es.get x).dg) ((hK51.ext hC).at 1 (zw ((t.getD (num n v+j) Nod.zero).es.get x).dg) (zdR _)) (by rw [zac];kernel_rfl))) (zh (hw:=hEw39) hT786 16 131071 (some 114) (vA (zw (zN (zM (t.getD (num n (v-1)+(4*j+x)) Nod.zero))))) (zl (Instr.loadAt 23 (vP w13.heap.size 0)) (fun w' hC=>zD (vs:=zw (zN (zM (t.getD (num n (v-1)+(4*j+x)) Nod.zero)))) (((hBw34.ext hEw35).ext hC).all) (by rw [zac];kernel_rfl))) ?_)))))
           rcases Bool.eq_false_or_eq_true (((t.getD (num n v+j) Nod.zero).es.get x).dg.l==(zN (zM (t.getD (num n (v-1)+(4*j+x)) Nod.zero))).l) with hf115 | hf115
           ·refine zh (hw:=hEw39) hT786 17 262143 (some 115) vF (zl (bo .neq 23 (.tmp 113) (.tmp 114) (vA (zw ((t.getD (num n v+j) Nod.zero).es.get x).dg)) (vA (zw (zN (zM (t.getD (num n (v-1)+(4*j+x)) Nod.zero)))))) (fun w' hC=>zav (r:=true) (T:=23) ((zbj (dd:=9998) (t:=23) (e:=5) (((t.getD (num n v+j) Nod.zero).es.get x).dg) (zN (zM (t.getD (num n (v-1)+(4*j+x)) Nod.zero)))).trans (congrArg (fun b=>Result.ok b _) (show ((((t.getD (num n v+j) Nod.zero).es.get x).dg).l==(zN (zM (t.getD (num n (v-1)+(4*j+x)) Nod.zero))).l)=true from hf115))))) (zk (hw:=hEw39) hT786 [(18,116,vF),(19,117,vF)] 2 1048575 (zJ (zc (zr (zy (zp (zc (ze (zd 1 [(78,(vI (4*j+x)))] ?_)))))))))
            refine zb (zv (some 79) .i64 (IntKind.i64.wrap (((4*j+x:Nat):Int)+((1:Nat):Int))) (4*j+x+1) (zG (by omega) (by omega) (by omega)) ?_)
            refine zd 1 [(11,(vI (4*j+x+1)))] (zg (zC ?_))
            have hX27:Ext w9 w39:=(((((Ext.own (hE3.trans hEw11) hCw12 (by omega)).trans hEw13).trans hX23).trans hEw35).trans hEw39)
            refine zS (x+1) ?_ ?_
            ·exact ⟨by omega,zbo hen (zez (show (zaw (za5 n t) (v-1) (4*j+x)=true↔((t.getD (num n v+j) Nod.zero).es.get x).st=0) by rw [←hem];first |(simp only [he,iff_true,true_iff];omega)|(simp only [he,Bool.false_eq_true,iff_false,false_iff];omega)) (show ((t.getD (num n v+j) Nod.zero).es.get x).st=0∨_ from by first |(left;omega)|(right;exact beq_iff_eq.1 hf115))),hX27⟩
            ·first | omega |(dsimp only;omega)
           ·refine zh (hw:=hEw39) hT786 17 262143 (some 115) vT (zl (bo .neq 23 (.tmp 113) (.tmp 114) (vA (zw ((t.getD (num n v+j) Nod.zero).es.get x).dg)) (vA (zw (zN (zM (t.getD (num n (v-1)+(4*j+x)) Nod.zero)))))) (fun w' hC=>zav (r:=false) (T:=23) ((zbj (dd:=9998) (t:=23) (e:=5) (((t.getD (num n v+j) Nod.zero).es.get x).dg) (zN (zM (t.getD (num n (v-1)+(4*j+x)) Nod.zero)))).trans (congrArg (fun b=>Result.ok b _) (show ((((t.getD (num n v+j) Nod.zero).es.get x).dg).l==(zN (zM (t.getD (num n (v-1)+(4*j+x)) Nod.zero))).l)=false from hf115))))) (zk (hw:=hEw39) hT786 [(18,116,vT),(19,117,vT)] 2 1048575 (zJ (zc (zF (zf (ze (zd 4 [(4,(.iface 139 (vA [(vI (num n v+j)),(vI 9)]))),(120,(.iface 139 (vA [(vI (num n v+j)),(vI 9)]))),(119,(vA [(vI (num n v+j)),(vI 9)])),(118,(vI (num n v+j)))] (zg (zc ?_)))))))))
            refine zx (zA (zu (zu (zA (zA (zu (zu (zA (zA ?_)))))))))
            refine zu (zu (zA (zu (zB (.iface 139 (vA [(vI (num n v+j)),(vI 9)])) ?_))))
            have hX28:Ext w w39:=(((((Ext.own ((((Ext.own ((((((hEw1.trans hEw2).trans hEw3).trans hE1).trans hE2).trans hEw6).trans hEw7) hCw8 (by omega)).trans hEw9).trans hE3).trans hEw11) hCw12 (by omega)).trans hEw13).trans hX23).trans hEw35).trans hEw39)
            exact ⟨_,by rw [zb0 hok2 (by omega) hjc (zcH hnm (by omega) hen hxw (zgg (show ¬((t.getD (num n v+j) Nod.zero).es.get x).st=0 from hf100) (by rw [←beq_iff_eq];intro hh;rw [show (((ndA n t v j).es.get x).dg.l==(zN (zM (ndA n t (v-1) (4*j+x)))).l)=false from hf115] at hh;cases hh))) (by decide),za4 (by decide)],hX28⟩
       ·replace hc77:¬(4*j+x<min (4*(j+1)) (gt c (v-1))):=by have:=zal hc77;omega
        have hdone:zcd n t v j=0:=zm7 hnm (by omega) hen (by rcases Nat.lt_or_ge x (prt n v j) with hh | hh;exact absurd ((hlw (by omega)).1 hh) (by omega);exact hh)
        refine zg (zc (zr (zaf (zH (zH (zT (zp (zc (ze ?_)))))))))
        refine zb (zv (some 121) .i64 (IntKind.i64.wrap (((j:Nat):Int)+((1:Nat):Int))) (j+1) (zG (by omega) (by omega) (by omega)) ?_)
        refine zd 1 [(28,(vI (j+1)))] (zg (zC ?_))
        have hX29:Ext w4 w10:=(((Ext.own ((hE2.trans hEw6).trans hEw7) hCw8 (by omega)).trans hEw9).trans hE3)
        refine zS (j+1) ?_ ?_
        ·exact ⟨by omega,zjS hok2 hdone,hX29⟩
        ·first | omega |(dsimp only;omega)
  ·replace hc29:¬(j<gt c v):=by have:=zal hc29;omega
   obtain rfl:j=cnt n v:=by omega
   refine zg (zc (zf (zr (zaf (zH (zH (zT (zp (zc ?_)))))))))
   refine ze (zb (zv (some 122) .i64 (IntKind.i64.wrap (((v:Nat):Int)+((1:Nat):Int))) (v+1) (zG (by omega) (by omega) (by omega)) ?_))
   refine zd 1 [(22,(vI (v+1)))] (zg (zC (zS (v+1) ?_ ?_)))
   ·exact ⟨by omega,znt hok2,(hE1.trans hE2)⟩
   ·first | omega |(dsimp only;omega)
 ·replace hc23:¬(v<n_c):=by have:=zal hc23;omega
  obtain rfl:v=hgt n+1:=by omega
  refine zg (zc (zf (zr (zaf (zH (zH (zT (zc (zf ?_)))))))))
  refine ze (zd 1 [(4, .nilIface)] (zg (zc (zx (zB .nilIface ?_)))))
  have hX30:Ext w w4:=(((hEw1.trans hEw2).trans hEw3).trans hE1)
  exact ⟨0,by rw [znR hok];rfl,hX30⟩
end Go.Proofs.YtgdpdnokcnhgnaaGreatDoor
namespace Go.Proofs.YtgdpdnokcnhgnaaGreatDoor
open Go Go.RowKit Go.Cs
set_option maxRecDepth 100000
theorem zhS (n:Nat) {lo_t hi_t:Nat} {a_t:Option Addr} {n_t c_t:Nat} {t:List Nod} (w:World) (h_t:Ms zK 274 lo_t hi_t w a_t n_t c_t t) (hp0:1≤n) (hp1:n≤4096) (hp2:n_t=tot n) (hg0:Gl 0 [vI 45,vI 33] w) (hg1:Gl 2 (w8C za2) w) (hg2:Gl 3 (zR kA) w) (hg3:Gl 1 [.iface 199 (.agg #[.pointer (some ⟨4,99,none⟩)])] w):
  Calls Tryz.prog 57 #[(vA [(vI n),(.slice a_t n_t c_t)])] w (Ret fun r w'=>∃a1 ca1 a2 ca2,r=(.tuple #[(vA [(vI n),(.slice a1 (hgt n+1) ca1),(.slice a2 (hgt n+1) ca2)]),(vI (zbJ n t))])∧Es (nv .i64) w.heap.size w'.heap.size w' a1 (hgt n+1) ca1 (za7 n (hgt n+1))∧Es (nv .i64) w.heap.size w'.heap.size w' a2 (hgt n+1) ca2 (zcy n (hgt n+1))∧Ext w w'):=by
 refine zL (n:=28) (σ:= [(0,(vA [(vI n),(.slice a_t n_t c_t)]))]) Tryz.func57 rfl ?_
 replace h_t:=h_t.now;have hle_t:=h_t.le
 have hgl0:=hg0.lt
 have hgl1:=hg1.lt
 have hgl2:=hg2.lt
 have hgl3:=hg3.lt
 have h5:=zaz n
 have hlt:=h_t.len_eq
 have hts:=zbN hp1
 refine zf (ze (zb (zt (some 1) (Instr.box 50 (vA [(vI n),(.slice a_t n_t c_t)])) (vP w.heap.size 0) ([(vI n),(.slice a_t n_t c_t)]) 50 ?_)))
 intro w1 hBw1 hEw1
 have hzw1:=hEw1.size;have hlw1:=hBw1.lt
 refine zb (zt (some 2) (Instr.alloc 106 true (.tuple #[])) (vP w1.heap.size 0) ([(vI 0),(.slice none 0 0),(.slice none 0 0)]) 106 ?_)
 intro w2 hBw2 hEw2
 have hzw2:=hEw2.size;have hlw2:=hBw2.lt
 refine zd 1 [(3,(vI 0))] (zg (zc (zf (ze (zd 1 [(7,(vP w.heap.size 0))] (zb (zj (some 8) (Instr.loadAt 3 (vP w.heap.size 0)) (vI n) (zo ((hBw1.ext hEw2).cell rfl)) ?_)))))))
 refine zb (zi (some 9) (ziS n _ (by omega) (by omega)) ?_)
 rintro _ w3 ⟨a1,ca1,a2,ca2,rfl,hFz1_0,hFz1_1,hEw3⟩
 have hzw3:=hEw3.size
 have hlea1:=hFz1_0.le
 have hlea2:=hFz1_1.le
 refine zd 3 [(11,(vI 0)),(10,(vA [(vI n),(.slice a1 (hgt n+1) ca1),(.slice a2 (hgt n+1) ca2)])),(6,(.tuple #[(vA [(vI n),(.slice a1 (hgt n+1) ca1),(.slice a2 (hgt n+1) ca2)]),(vI 0)]))] (zb (zt (some 4) (Instr.alloc 106 true (.tuple #[])) (vP w3.heap.size 0) ([(vI 0),(.slice none 0 0),(.slice none 0 0)]) 106 ?_))
 intro w4 hBw4 hEw4
 have hzw4:=hEw4.size;have hlw4:=hBw4.lt
 refine zb (zz 106 w3.heap.size 0 106 (vA [(vI n),(.slice a1 (hgt n+1) ca1),(.slice a2 (hgt n+1) ca2)]) ([(vI 0),(.slice none 0 0),(.slice none 0 0)]) ([(vI n),(.slice a1 (hgt n+1) ca1),(.slice a2 (hgt n+1) ca2)]) hBw4 (by kernel_rfl) (by first | decide |(simp;done)|(simp;omega)) (by simp [Value.oneCell']) ?_)
 intro w5 hBw5 hCw5
 have hzw5:=hCw5.size
 rw [zm _ _ (by kernel_rfl)] at hBw5
 refine zd 1 [(5,(vI 0))] (zg (zc (zf (zf (ze (zd 1 [(12,(vI 0))] (zb (zat (some 13) (((0:Nat):Int) !=((0:Nat):Int)) false (zaL (by omega)) ?_))))))))
 refine zg (zc (zr (zy (zc (zf (zf (zag (Ext w5.drew) 6 [(17,2,0),(18,65536,1),(19,131072,2),(20,16,0),(21,524288,8),(22,1310720,20)] (fun hT54=> ?_))))))))
 have hEw6:Ext w5 w5.drew:=Ext.drew w5
 generalize w5.drew=w6 at hEw6⊢
 have hzw6:=hEw6.size
 refine zk hT54 [(0,16,(vP w.heap.size 1))] 1 1 ?_
 have hK1:=(((((((((hBw1.ext hEw2)).ext hEw3)).ext hEw4)).chg hCw5 (fun hs=>by have h:_=_:=hs;omega))).ext hEw6)
 refine zh hT54 1 3 (some 17) (.slice a_t n_t c_t) (zl (Instr.loadAt 24 (vP w.heap.size 1)) (fun w' hC=>zo ((hK1.ext hC).cell rfl))) (zk hT54 [(2,18,(vI n_t))] 1 7 (zh hT54 3 15 (some 19) (vA [(vI n),(.slice a1 (hgt n+1) ca1),(.slice a2 (hgt n+1) ca2)]) (zl (Instr.loadAt 106 (vP w3.heap.size 0)) (fun w' hC=>zD (vs:= [(vI n),(.slice a1 (hgt n+1) ca1),(.slice a2 (hgt n+1) ca2)]) (((hBw5.ext hEw6).ext hC).all))) ?_))
 have hK2:=(((((hFz1_0.ext hEw4)).chg hCw5 (fun k h1 h2 hs=>by have h:k=_:=hs;omega))).ext hEw6)
 have hK3:=(((((hFz1_1.ext hEw4)).chg hCw5 (fun k h1 h2 hs=>by have h:k=_:=hs;omega))).ext hEw6)
 refine zn 4 31 (zi (some 20) (zfF n _ hK2 hK3 (by first | rfl | assumption) (by first | rfl | assumption) (by omega) (by omega)) ?_)
 rintro _ w7 ⟨rfl,hEw7⟩
 have hzw7:=hEw7.size
 refine ⟨.inr hEw7, ?_⟩
 refine zh (hw:=hEw7) hT54 5 63 (some 21) vF (zaI (((n_t:Nat):Int) !=((tot n:Nat):Int)) (zaL (by omega))) (zJ (zc (zr (zy (zc (zf (zag (Chg (fun k=>k=w1.heap.size) w7.drew) 7 [(24,16,0),(25,16,0),(26,2,0),(27,50331648,6),(28,67108864,8),(0,8388612,17),(4,134217728,63)] (fun hT76=> ?_))))))))
 have hEw8:Ext w7 w7.drew:=Ext.drew w7
 generalize w7.drew=w8 at hEw8⊢
 have hzw8:=hEw8.size
 have hK4:=(((((hBw5.ext hEw6)).ext hEw7)).ext hEw8)
 have hX1:Chg (fun k=>k=w1.heap.size) w8 w8:=(Chg.refl (fun k=>k=w1.heap.size) w8)
 refine zh (hw:=hX1) hT76 0 1 (some 23) (vA [(vI n),(.slice a1 (hgt n+1) ca1),(.slice a2 (hgt n+1) ca2)]) (zl (Instr.loadAt 106 (vP w3.heap.size 0)) (fun w' hC=>zD (vs:= [(vI n),(.slice a1 (hgt n+1) ca1),(.slice a2 (hgt n+1) ca2)]) ((hK4.chg hC (fun hs=>by have h:_=_:=hs;omega)).all))) (zh (hw:=hX1) hT76 1 3 (some 24) (vA [(vI n),(.slice a1 (hgt n+1) ca1),(.slice a2 (hgt n+1) ca2)]) (zl (Instr.loadAt 106 (vP w3.heap.size 0)) (fun w' hC=>zD (vs:= [(vI n),(.slice a1 (hgt n+1) ca1),(.slice a2 (hgt n+1) ca2)]) ((hK4.chg hC (fun hs=>by have h:_=_:=hs;omega)).all))) (zh (hw:=hX1) hT76 2 7 (some 25) (vA [(vI n),(.slice a_t n_t c_t)]) (zl (Instr.loadAt 50 (vP w.heap.size 0)) (fun w' hC=>zD (vs:= [(vI n),(.slice a_t n_t c_t)]) (((((hK1.ext hEw7)).ext hEw8).chg hC (fun hs=>by have h:_=_:=hs;omega)).all))) ?_))
 have hK5:=(((((((((((((((h_t.ext hEw1)).ext hEw2)).ext hEw3)).ext hEw4)).chg hCw5 (fun k h1 h2 hs=>by have h:k=_:=hs;omega))).ext hEw6)).ext hEw7)).ext hEw8)
 have hK6:=(((((((((((((((hg0.ext hEw1)).ext hEw2)).ext hEw3)).ext hEw4)).chg hCw5 (fun hs=>by have h:_=_:=hs;omega))).ext hEw6)).ext hEw7)).ext hEw8)
 have hK7:=(((((((((((((((hg1.ext hEw1)).ext hEw2)).ext hEw3)).ext hEw4)).chg hCw5 (fun hs=>by have h:_=_:=hs;omega))).ext hEw6)).ext hEw7)).ext hEw8)
 have hK8:=(((((((((((((((hg2.ext hEw1)).ext hEw2)).ext hEw3)).ext hEw4)).chg hCw5 (fun hs=>by have h:_=_:=hs;omega))).ext hEw6)).ext hEw7)).ext hEw8)
 refine zn 3 15 (zi (some 26) (zpK n _ (((hK2.ext hEw7)).ext hEw8) (((hK3.ext hEw7)).ext hEw8) hK5 (by first | rfl | assumption) (by first | rfl | assumption) (by omega) (by omega) (by omega) hK6 hK7 hK8) ?_)
 rintro _ w9 ⟨a3,rfl,hEw9⟩
 have hzw9:=hEw9.size
 have hX2:Chg (fun k=>k=w1.heap.size) w8 w9:=((Chg.refl (fun k=>k=w1.heap.size) w8).trans hEw9.chg)
 refine ⟨.inr hX2, ?_⟩
 have hK9:=(((((((((((((((((hg3.ext hEw1)).ext hEw2)).ext hEw3)).ext hEw4)).chg hCw5 (fun hs=>by have h:_=_:=hs;omega))).ext hEw6)).ext hEw7)).ext hEw8)).ext hEw9)
 refine zn 4 31 (zi (some 27) (zml a3 (zbJ n t) _ hK9) ?_)
 rintro _ w10 ⟨rfl,hEw10⟩
 have hzw10:=hEw10.size
 have hX3:Chg (fun k=>k=w1.heap.size) w8 w10:=(((Chg.refl (fun k=>k=w1.heap.size) w8).trans hEw9.chg).trans hEw10.chg)
 refine ⟨.inr hX3, ?_⟩
 have hK10:=(((((((((((((((hBw2.ext hEw3)).ext hEw4)).chg hCw5 (fun hs=>by have h:_=_:=hs;omega))).ext hEw6)).ext hEw7)).ext hEw8)).ext hEw9)).ext hEw10)
 refine zn 5 63 (zz 106 w1.heap.size 0 106 (vA [(vI n),(.slice a1 (hgt n+1) ca1),(.slice a2 (hgt n+1) ca2)]) ([(vI 0),(.slice none 0 0),(.slice none 0 0)]) ([(vI n),(.slice a1 (hgt n+1) ca1),(.slice a2 (hgt n+1) ca2)]) hK10 (by kernel_rfl) (by first | decide |(simp;done)|(simp;omega)) (by simp [Value.oneCell']) ?_)
 have hK11:=(((((((((((((((hBw2.ext hEw3)).ext hEw4)).chg hCw5 (fun hs=>by have h:_=_:=hs;omega))).ext hEw6)).ext hEw7)).ext hEw8)).ext hEw9)).ext hEw10)
 intro w11 hBw11 hCw11
 have hzw11:=hCw11.size
 rw [zm _ _ (by kernel_rfl)] at hBw11
 have hX4:Chg (fun k=>k=w1.heap.size) w8 w11:=(Chg.then (((Chg.refl (fun k=>k=w1.heap.size) w8).trans hEw9.chg).trans hEw10.chg) hCw11 (fun k hk hs=>by have h:k=_:=hs;first | exact hs | exact .inl h | exact .inr h |(exfalso;omega)))
 refine ⟨.inr hX4, ?_⟩
 refine zk (hw:=hX4) hT76 [(6,3,(vI (zbJ n t)))] 1 127 (zJ (zc (zx (zas (show zab Tryz.prog 28 _ _ (.cell 2 106) (vA [(vI n),(.slice a1 (hgt n+1) ca1),(.slice a2 (hgt n+1) ca2)]) from ⟨⟨w1.heap.size,0,none⟩,(by kernel_rfl),zP (T:=106) (vs:= [(vI n),(.slice a1 (hgt n+1) ca1),(.slice a2 (hgt n+1) ca2)]) (hBw11).all (by kernel_rfl)⟩) (show zab Tryz.prog 28 _ _ (.tmp 3) (vI (zbJ n t)) by (show _=_;kernel_rfl)) ?_))))
 have hK12:=(((((((((hK2.ext hEw7)).ext hEw8)).ext hEw9)).ext hEw10)).chg hCw11 (fun k h1 h2 hs=>by have h:k=_:=hs;omega))
 have hK13:=(((((((((hK3.ext hEw7)).ext hEw8)).ext hEw9)).ext hEw10)).chg hCw11 (fun k h1 h2 hs=>by have h:k=_:=hs;omega))
 have hX5:Ext w w11:=(Ext.own ((((((Ext.own (((hEw1.trans hEw2).trans hEw3).trans hEw4) hCw5 (by omega)).trans hEw6).trans hEw7).trans hEw8).trans hEw9).trans hEw10) hCw11 (by omega))
 exact ⟨_,_,_,_,rfl,(hK12).now.mono (by omega) (Nat.le_refl _),(hK13).now.mono (by omega) (Nat.le_refl _),hX5⟩
theorem zma (n:Nat) {lo_t hi_t:Nat} {a_t:Option Addr} {n_t c_t:Nat} {t:List Nod} (w:World) (h_t:Ms zK 274 lo_t hi_t w a_t n_t c_t t) (hp0:1≤n) (hp1:n≤4096) (hp2:n_t≠tot n):
  Calls Tryz.prog 57 #[(vA [(vI n),(.slice a_t n_t c_t)])] w (Ret fun r w'=>∃(a0:Int) (a1:Option Addr) (na1:Nat) (ca1:Nat) (a2:Option Addr) (na2:Nat) (ca2:Nat),r=(.tuple #[(vA [(.int .i64 a0),(.slice a1 na1 ca1),(.slice a2 na2 ca2)]),(vI 1)])∧Ext w w'):=by
 refine zL (n:=28) (σ:= [(0,(vA [(vI n),(.slice a_t n_t c_t)]))]) Tryz.func57 rfl ?_
 replace h_t:=h_t.now;have hle_t:=h_t.le
 have h5:=zaz n
 refine zf (ze (zb (zt (some 1) (Instr.box 50 (vA [(vI n),(.slice a_t n_t c_t)])) (vP w.heap.size 0) ([(vI n),(.slice a_t n_t c_t)]) 50 ?_)))
 intro w1 hBw1 hEw1
 have hzw1:=hEw1.size;have hlw1:=hBw1.lt
 refine zb (zt (some 2) (Instr.alloc 106 true (.tuple #[])) (vP w1.heap.size 0) ([(vI 0),(.slice none 0 0),(.slice none 0 0)]) 106 ?_)
 intro w2 hBw2 hEw2
 have hzw2:=hEw2.size;have hlw2:=hBw2.lt
 refine zd 1 [(3,(vI 0))] (zg (zc (zf (ze (zd 1 [(7,(vP w.heap.size 0))] (zb (zj (some 8) (Instr.loadAt 3 (vP w.heap.size 0)) (vI n) (zo ((hBw1.ext hEw2).cell rfl)) ?_)))))))
 refine zb (zi (some 9) (ziS n _ (by omega) (by omega)) ?_)
 rintro _ w3 ⟨a1,ca1,a2,ca2,rfl,hFz1_0,hFz1_1,hEw3⟩
 have hzw3:=hEw3.size
 have hlea1:=hFz1_0.le
 have hlea2:=hFz1_1.le
 refine zd 3 [(11,(vI 0)),(10,(vA [(vI n),(.slice a1 (hgt n+1) ca1),(.slice a2 (hgt n+1) ca2)])),(6,(.tuple #[(vA [(vI n),(.slice a1 (hgt n+1) ca1),(.slice a2 (hgt n+1) ca2)]),(vI 0)]))] (zb (zt (some 4) (Instr.alloc 106 true (.tuple #[])) (vP w3.heap.size 0) ([(vI 0),(.slice none 0 0),(.slice none 0 0)]) 106 ?_))
 intro w4 hBw4 hEw4
 have hzw4:=hEw4.size;have hlw4:=hBw4.lt
 refine zb (zz 106 w3.heap.size 0 106 (vA [(vI n),(.slice a1 (hgt n+1) ca1),(.slice a2 (hgt n+1) ca2)]) ([(vI 0),(.slice none 0 0),(.slice none 0 0)]) ([(vI n),(.slice a1 (hgt n+1) ca1),(.slice a2 (hgt n+1) ca2)]) hBw4 (by kernel_rfl) (by first | decide |(simp;done)|(simp;omega)) (by simp [Value.oneCell']) ?_)
 intro w5 hBw5 hCw5
 have hzw5:=hCw5.size
 rw [zm _ _ (by kernel_rfl)] at hBw5
 refine zd 1 [(5,(vI 0))] (zg (zc (zf (zf (ze (zd 1 [(12,(vI 0))] (zb (zat (some 13) (((0:Nat):Int) !=((0:Nat):Int)) false (zaL (by omega)) ?_))))))))
 refine zg (zc (zr (zy (zc (zf (zf (zag (Ext w5.drew) 6 [(17,2,0),(18,65536,1),(19,131072,2),(20,16,0),(21,524288,8),(22,1310720,20)] (fun hT128=> ?_))))))))
 have hEw6:Ext w5 w5.drew:=Ext.drew w5
 generalize w5.drew=w6 at hEw6⊢
 have hzw6:=hEw6.size
 refine zk hT128 [(0,16,(vP w.heap.size 1))] 1 1 ?_
 have hK1:=(((((((((hBw1.ext hEw2)).ext hEw3)).ext hEw4)).chg hCw5 (fun hs=>by have h:_=_:=hs;omega))).ext hEw6)
 refine zh hT128 1 3 (some 17) (.slice a_t n_t c_t) (zl (Instr.loadAt 24 (vP w.heap.size 1)) (fun w' hC=>zo ((hK1.ext hC).cell rfl))) (zk hT128 [(2,18,(vI n_t))] 1 7 (zh hT128 3 15 (some 19) (vA [(vI n),(.slice a1 (hgt n+1) ca1),(.slice a2 (hgt n+1) ca2)]) (zl (Instr.loadAt 106 (vP w3.heap.size 0)) (fun w' hC=>zD (vs:= [(vI n),(.slice a1 (hgt n+1) ca1),(.slice a2 (hgt n+1) ca2)]) (((hBw5.ext hEw6).ext hC).all))) ?_))
 have hK2:=(((((hFz1_0.ext hEw4)).chg hCw5 (fun k h1 h2 hs=>by have h:k=_:=hs;omega))).ext hEw6)
 have hK3:=(((((hFz1_1.ext hEw4)).chg hCw5 (fun k h1 h2 hs=>by have h:k=_:=hs;omega))).ext hEw6)
 refine zn 4 31 (zi (some 20) (zfF n _ hK2 hK3 (by first | rfl | assumption) (by first | rfl | assumption) (by omega) (by omega)) ?_)
 rintro _ w7 ⟨rfl,hEw7⟩
 have hzw7:=hEw7.size
 refine ⟨.inr hEw7, ?_⟩
 refine zh (hw:=hEw7) hT128 5 63 (some 21) vT (zaI (((n_t:Nat):Int) !=((tot n:Nat):Int)) (zcq (by omega))) (zJ (zc (zF (zf (ze (zb (zj (some 22) (Instr.loadAt 106 (vP w3.heap.size 0)) (vA [(vI n),(.slice a1 (hgt n+1) ca1),(.slice a2 (hgt n+1) ca2)]) (zD (vs:= [(vI n),(.slice a1 (hgt n+1) ca1),(.slice a2 (hgt n+1) ca2)]) ((((hBw5.ext hEw6)).ext hEw7).all)) ?_)))))))
 have hK4:=(((((((((hBw2.ext hEw3)).ext hEw4)).chg hCw5 (fun hs=>by have h:_=_:=hs;omega))).ext hEw6)).ext hEw7)
 refine zb (zz 106 w1.heap.size 0 106 (vA [(vI n),(.slice a1 (hgt n+1) ca1),(.slice a2 (hgt n+1) ca2)]) ([(vI 0),(.slice none 0 0),(.slice none 0 0)]) ([(vI n),(.slice a1 (hgt n+1) ca1),(.slice a2 (hgt n+1) ca2)]) hK4 (by kernel_rfl) (by first | decide |(simp;done)|(simp;omega)) (by simp [Value.oneCell']) ?_)
 have hK5:=(((((((((hBw2.ext hEw3)).ext hEw4)).chg hCw5 (fun hs=>by have h:_=_:=hs;omega))).ext hEw6)).ext hEw7)
 intro w8 hBw8 hCw8
 have hzw8:=hCw8.size
 rw [zm _ _ (by kernel_rfl)] at hBw8
 refine zd 1 [(3,(vI 1))] (zg (zc (zx (zu (zas (show zab Tryz.prog 28 _ _ (.cell 2 106) (vA [(vI n),(.slice a1 (hgt n+1) ca1),(.slice a2 (hgt n+1) ca2)]) from ⟨⟨w1.heap.size,0,none⟩,(by kernel_rfl),zP (T:=106) (vs:= [(vI n),(.slice a1 (hgt n+1) ca1),(.slice a2 (hgt n+1) ca2)]) (hBw8).all (by kernel_rfl)⟩) (show zab Tryz.prog 28 _ _ (.tmp 3) (vI 1) by (show _=_;kernel_rfl)) ?_)))))
 have hX1:Ext w w8:=(Ext.own (((Ext.own (((hEw1.trans hEw2).trans hEw3).trans hEw4) hCw5 (by omega)).trans hEw6).trans hEw7) hCw8 (by omega))
 exact ⟨_,_,_,_,_,_,_,rfl,hX1⟩
theorem zmz (n:Int) {lo_t hi_t:Nat} {a_t:Option Addr} {n_t c_t:Nat} {t:List Nod} (w:World) (h_t:Ms zK 274 lo_t hi_t w a_t n_t c_t t) (hp0:¬(1≤n∧n≤4096)):
  Calls Tryz.prog 57 #[(vA [(.int .i64 n),(.slice a_t n_t c_t)])] w (Ret fun r w'=>∃(a0:Int) (a1:Option Addr) (na1:Nat) (ca1:Nat) (a2:Option Addr) (na2:Nat) (ca2:Nat),r=(.tuple #[(vA [(.int .i64 a0),(.slice a1 na1 ca1),(.slice a2 na2 ca2)]),(vI 1)])∧Ext w w'):=by
 refine zL (n:=28) (σ:= [(0,(vA [(.int .i64 n),(.slice a_t n_t c_t)]))]) Tryz.func57 rfl ?_
 replace h_t:=h_t.now;have hle_t:=h_t.le
 refine zf (ze (zb (zt (some 1) (Instr.box 50 (vA [(.int .i64 n),(.slice a_t n_t c_t)])) (vP w.heap.size 0) ([(.int .i64 n),(.slice a_t n_t c_t)]) 50 ?_)))
 intro w1 hBw1 hEw1
 have hzw1:=hEw1.size;have hlw1:=hBw1.lt
 refine zb (zt (some 2) (Instr.alloc 106 true (.tuple #[])) (vP w1.heap.size 0) ([(vI 0),(.slice none 0 0),(.slice none 0 0)]) 106 ?_)
 intro w2 hBw2 hEw2
 have hzw2:=hEw2.size;have hlw2:=hBw2.lt
 refine zd 1 [(3,(vI 0))] (zg (zc (zf (ze (zd 1 [(7,(vP w.heap.size 0))] (zb (zj (some 8) (Instr.loadAt 3 (vP w.heap.size 0)) (.int .i64 n) (zo ((hBw1.ext hEw2).cell rfl)) ?_)))))))
 refine zb (zi (some 9) (znQ n _ (by omega)) ?_)
 rintro _ w3 ⟨a1,a2,rfl,hFz1_0,hFz1_1,hEw3⟩
 have hzw3:=hEw3.size
 have hlea1:=hFz1_0.le
 have hlea2:=hFz1_1.le
 refine zd 3 [(11,(vI 1)),(10,(vA [(vI 0),(.slice a1 0 0),(.slice a2 0 0)])),(6,(.tuple #[(vA [(vI 0),(.slice a1 0 0),(.slice a2 0 0)]),(vI 1)]))] (zb (zt (some 4) (Instr.alloc 106 true (.tuple #[])) (vP w3.heap.size 0) ([(vI 0),(.slice none 0 0),(.slice none 0 0)]) 106 ?_))
 intro w4 hBw4 hEw4
 have hzw4:=hEw4.size;have hlw4:=hBw4.lt
 refine zb (zz 106 w3.heap.size 0 106 (vA [(vI 0),(.slice a1 0 0),(.slice a2 0 0)]) ([(vI 0),(.slice none 0 0),(.slice none 0 0)]) ([(vI 0),(.slice a1 0 0),(.slice a2 0 0)]) hBw4 (by kernel_rfl) (by first | decide |(simp;done)|(simp;omega)) (by simp [Value.oneCell']) ?_)
 intro w5 hBw5 hCw5
 have hzw5:=hCw5.size
 rw [zm _ _ (by kernel_rfl)] at hBw5
 refine zd 1 [(5,(vI 1))] (zg (zc (zf (zf (ze (zd 1 [(12,(vI 1))] (zb (zat (some 13) (((1:Nat):Int) !=((0:Nat):Int)) true (zcq (by omega)) ?_))))))))
 refine zg (zc (zF (zf (ze (zb (zj (some 14) (Instr.loadAt 106 (vP w3.heap.size 0)) (vA [(vI 0),(.slice a1 0 0),(.slice a2 0 0)]) (zD (vs:= [(vI 0),(.slice a1 0 0),(.slice a2 0 0)]) (hBw5.all)) ?_))))))
 refine zd 1 [(15,(vI 1))] ?_
 have hK1:=(((((hBw2.ext hEw3)).ext hEw4)).chg hCw5 (fun hs=>by have h:_=_:=hs;omega))
 refine zb (zz 106 w1.heap.size 0 106 (vA [(vI 0),(.slice a1 0 0),(.slice a2 0 0)]) ([(vI 0),(.slice none 0 0),(.slice none 0 0)]) ([(vI 0),(.slice a1 0 0),(.slice a2 0 0)]) hK1 (by kernel_rfl) (by first | decide |(simp;done)|(simp;omega)) (by simp [Value.oneCell']) ?_)
 have hK2:=(((((hBw2.ext hEw3)).ext hEw4)).chg hCw5 (fun hs=>by have h:_=_:=hs;omega))
 intro w6 hBw6 hCw6
 have hzw6:=hCw6.size
 rw [zm _ _ (by kernel_rfl)] at hBw6
 refine zd 1 [(3,(vI 1))] (zg (zc (zx (zu (zas (show zab Tryz.prog 28 _ _ (.cell 2 106) (vA [(vI 0),(.slice a1 0 0),(.slice a2 0 0)]) from ⟨⟨w1.heap.size,0,none⟩,(by kernel_rfl),zP (T:=106) (vs:= [(vI 0),(.slice a1 0 0),(.slice a2 0 0)]) (hBw6).all (by kernel_rfl)⟩) (show zab Tryz.prog 28 _ _ (.tmp 3) (vI 1) by (show _=_;kernel_rfl)) ?_)))))
 have hX1:Ext w w6:=(Ext.own (Ext.own (((hEw1.trans hEw2).trans hEw3).trans hEw4) hCw5 (by omega)) hCw6 (by omega))
 exact ⟨_,_,_,_,_,_,_,rfl,hX1⟩
theorem zlJ (n:Int) {lo_t hi_t:Nat} {a_t:Option Addr} {n_t c_t:Nat} {t:List Nod} (w:World) (h_t:Ms zK 274 lo_t hi_t w a_t n_t c_t t) (hp0:¬(1≤n∧n≤4096∧t.length=tot n.toNat)):
  Calls Tryz.prog 57 #[(vA [(.int .i64 n),(.slice a_t n_t c_t)])] w (Ret fun r w'=>∃(a0:Int) (a1:Option Addr) (na1:Nat) (ca1:Nat) (a2:Option Addr) (na2:Nat) (ca2:Nat),r=(.tuple #[(vA [(.int .i64 a0),(.slice a1 na1 ca1),(.slice a2 na2 ca2)]),(vI 1)])∧Ext w w'):=by
 have hlt:=h_t.len_eq
 by_cases h:1≤n∧n≤4096
 ·obtain ⟨m,rfl⟩:=Int.eq_ofNat_of_zero_le (show 0≤n by omega)
  exact zma m w h_t (by omega) (by omega) (fun hh=>hp0 ⟨h.1,h.2,by rw [Int.toNat_natCast];omega⟩)
 ·exact zmz n w h_t h
theorem zqD (n:Nat) {lo_t hi_t:Nat} {a_t:Option Addr} {n_t c_t:Nat} {t:List Nod} (w:World) (h_t:Ms zK 274 lo_t hi_t w a_t n_t c_t t) (hp0:1≤n) (hp1:n≤4096) (hp2:n_t=tot n) (hg0:Gl 0 [vI 45,vI 33] w) (hg1:Gl 2 (w8C za2) w) (hg2:Gl 3 (zR kA) w) (hg3:Gl 1 [.iface 199 (.agg #[.pointer (some ⟨4,99,none⟩)])] w):
  Calls Tryz.prog 20 #[(vA [(vI n),(.slice a_t n_t c_t)])] w (Ret fun r w'=>r=(vI (zbJ n t))∧Ext w w'):=by
 refine zL (n:=11) (σ:= [(0,(vA [(vI n),(.slice a_t n_t c_t)]))]) Tryz.func20 rfl ?_
 replace h_t:=h_t.now;have hle_t:=h_t.le
 have hgl0:=hg0.lt
 have hgl1:=hg1.lt
 have hgl2:=hg2.lt
 have hgl3:=hg3.lt
 refine zf (ze (zb (zt (some 1) (Instr.box 50 (vA [(vI n),(.slice a_t n_t c_t)])) (vP w.heap.size 0) ([(vI n),(.slice a_t n_t c_t)]) 50 ?_)))
 intro w1 hBw1 hEw1
 have hzw1:=hEw1.size;have hlw1:=hBw1.lt
 refine zd 1 [(2,(vI 0))] (zg (zc (zf (ze (zb (zj (some 6) (Instr.loadAt 50 (vP w.heap.size 0)) (vA [(vI n),(.slice a_t n_t c_t)]) (zD (vs:= [(vI n),(.slice a_t n_t c_t)]) (hBw1.all)) ?_))))))
 refine zb (zi (some 7) (zhS n _ (h_t.ext hEw1) (by omega) (by omega) (by omega) (hg0.ext hEw1) (hg1.ext hEw1) (hg2.ext hEw1) (hg3.ext hEw1)) ?_)
 rintro _ w2 ⟨a1,ca1,a2,ca2,rfl,hFz1_0,hFz1_1,hEw2⟩
 have hzw2:=hEw2.size
 have hlea1:=hFz1_0.le
 have hlea2:=hFz1_1.le
 refine zd 3 [(9,(vI (zbJ n t))),(8,(vA [(vI n),(.slice a1 (hgt n+1) ca1),(.slice a2 (hgt n+1) ca2)])),(5,(.tuple #[(vA [(vI n),(.slice a1 (hgt n+1) ca1),(.slice a2 (hgt n+1) ca2)]),(vI (zbJ n t))]))] (zb (zt (some 3) (Instr.alloc 106 true (.tuple #[])) (vP w2.heap.size 0) ([(vI 0),(.slice none 0 0),(.slice none 0 0)]) 106 ?_))
 intro w3 hBw3 hEw3
 have hzw3:=hEw3.size;have hlw3:=hBw3.lt
 refine zb (zz 106 w2.heap.size 0 106 (vA [(vI n),(.slice a1 (hgt n+1) ca1),(.slice a2 (hgt n+1) ca2)]) ([(vI 0),(.slice none 0 0),(.slice none 0 0)]) ([(vI n),(.slice a1 (hgt n+1) ca1),(.slice a2 (hgt n+1) ca2)]) hBw3 (by kernel_rfl) (by first | decide |(simp;done)|(simp;omega)) (by simp [Value.oneCell']) ?_)
 intro w4 hBw4 hCw4
 have hzw4:=hCw4.size
 rw [zm _ _ (by kernel_rfl)] at hBw4
 refine zd 1 [(4,(vI (zbJ n t)))] (zg (zc (zf (ze (zd 2 [(2,(vI (zbJ n t))),(10,(vI (zbJ n t)))] (zg (zc (zx (zB (vI (zbJ n t)) ?_)))))))))
 have hX1:Ext w w4:=(Ext.own ((hEw1.trans hEw2).trans hEw3) hCw4 (by omega))
 exact ⟨rfl,hX1⟩
theorem zq3 (n:Int) {lo_t hi_t:Nat} {a_t:Option Addr} {n_t c_t:Nat} {t:List Nod} (w:World) (h_t:Ms zK 274 lo_t hi_t w a_t n_t c_t t) (hp0:¬(1≤n∧n≤4096∧t.length=tot n.toNat)):
  Calls Tryz.prog 20 #[(vA [(.int .i64 n),(.slice a_t n_t c_t)])] w (Ret fun r w'=>r=(vI 1)∧Ext w w'):=by
 refine zL (n:=11) (σ:= [(0,(vA [(.int .i64 n),(.slice a_t n_t c_t)]))]) Tryz.func20 rfl ?_
 replace h_t:=h_t.now;have hle_t:=h_t.le
 refine zf (ze (zb (zt (some 1) (Instr.box 50 (vA [(.int .i64 n),(.slice a_t n_t c_t)])) (vP w.heap.size 0) ([(.int .i64 n),(.slice a_t n_t c_t)]) 50 ?_)))
 intro w1 hBw1 hEw1
 have hzw1:=hEw1.size;have hlw1:=hBw1.lt
 refine zd 1 [(2,(vI 0))] (zg (zc (zf (ze (zb (zj (some 6) (Instr.loadAt 50 (vP w.heap.size 0)) (vA [(.int .i64 n),(.slice a_t n_t c_t)]) (zD (vs:= [(.int .i64 n),(.slice a_t n_t c_t)]) (hBw1.all)) ?_))))))
 refine zb (zi (some 7) (zlJ n _ (h_t.ext hEw1) (by assumption)) ?_)
 rintro _ w2 ⟨a1,a2,na2,ca2,a3,na3,ca3,rfl,hEw2⟩
 have hzw2:=hEw2.size
 refine zd 3 [(9,(vI 1)),(8,(vA [(.int .i64 a1),(.slice a2 na2 ca2),(.slice a3 na3 ca3)])),(5,(.tuple #[(vA [(.int .i64 a1),(.slice a2 na2 ca2),(.slice a3 na3 ca3)]),(vI 1)]))] (zb (zt (some 3) (Instr.alloc 106 true (.tuple #[])) (vP w2.heap.size 0) ([(vI 0),(.slice none 0 0),(.slice none 0 0)]) 106 ?_))
 intro w3 hBw3 hEw3
 have hzw3:=hEw3.size;have hlw3:=hBw3.lt
 refine zb (zz 106 w2.heap.size 0 106 (vA [(.int .i64 a1),(.slice a2 na2 ca2),(.slice a3 na3 ca3)]) ([(vI 0),(.slice none 0 0),(.slice none 0 0)]) ([(.int .i64 a1),(.slice a2 na2 ca2),(.slice a3 na3 ca3)]) hBw3 (by kernel_rfl) (by first | decide |(simp;done)|(simp;omega)) (by simp [Value.oneCell']) ?_)
 intro w4 hBw4 hCw4
 have hzw4:=hCw4.size
 rw [zm _ _ (by kernel_rfl)] at hBw4
 refine zd 1 [(4,(vI 1))] (zg (zc (zf (ze (zd 2 [(2,(vI 1)),(10,(vI 1))] (zg (zc (zx (zB (vI 1) ?_)))))))))
 have hX1:Ext w w4:=(Ext.own ((hEw1.trans hEw2).trans hEw3) hCw4 (by omega))
 exact ⟨rfl,hX1⟩
theorem zlZ (n:Int) {lo_t hi_t:Nat} {a_t:Option Addr} {n_t c_t:Nat} {t:List Nod} (w:World) (h_t:Ms zK 274 lo_t hi_t w a_t n_t c_t t) (hg0:Gl 0 [vI 45,vI 33] w) (hg1:Gl 2 (w8C za2) w) (hg2:Gl 3 (zR kA) w) (hg3:Gl 1 [.iface 199 (.agg #[.pointer (some ⟨4,99,none⟩)])] w):
  Calls Tryz.prog 20 #[(vA [(.int .i64 n),(.slice a_t n_t c_t)])] w (Ret fun r w'=>r=(vI (zd2 n t))∧Ext w w'):=by
 have hlt:=h_t.len_eq
 by_cases h:1≤n∧n≤4096∧t.length=tot n.toNat
 ·obtain ⟨m,rfl⟩:=Int.eq_ofNat_of_zero_le (show 0≤n by omega)
  have h2:=h.2.2;rw [Int.toNat_natCast] at h2
  rw [zeV (by omega) (by omega) h2];exact zqD m w h_t (by omega) (by omega) (by omega) hg0 hg1 hg2 hg3
 ·rw [znY h];exact zq3 n w h_t h
theorem zeP (n:Nat) {lo_t hi_t:Nat} {a_t:Option Addr} {n_t c_t:Nat} {t:List Nod} (w:World) (h_t:Ms zK 274 lo_t hi_t w a_t n_t c_t t) (hp0:1≤n) (hp1:n≤4096) (hp2:n_t=tot n) (hp3:zbJ n t=0) (hg0:Gl 0 [vI 45,vI 33] w) (hg1:Gl 2 (w8C za2) w) (hg2:Gl 3 (zR kA) w) (hg3:Gl 1 [.iface 199 (.agg #[.pointer (some ⟨4,99,none⟩)])] w):
  Calls Tryz.prog 21 #[(vA [(vI n),(.slice a_t n_t c_t)])] w (Ret fun r w'=>r=(.tuple #[(vA (zw (zN (zM (t.getD (num n (hgt n)) Nod.zero))))),(vI 0)])∧Ext w w'):=by
 refine zL (n:=22) (σ:= [(0,(vA [(vI n),(.slice a_t n_t c_t)]))]) Tryz.func21 rfl ?_
 replace h_t:=h_t.now;have hle_t:=h_t.le
 have hgl0:=hg0.lt
 have hgl1:=hg1.lt
 have hgl2:=hg2.lt
 have hgl3:=hg3.lt
 have h5:=zaz n
 have hlt:=h_t.len_eq
 have hts:=zbN hp1
 have htt:=zfo hp0 hp1
 have hce:zd2 (n:Int) t=0:=by rw [zeV hp0 hp1 (by omega)];exact hp3
 have hcp:=zdH hp0 hp1
 have hchk:zar (t.getD (num n (hgt n)) Nod.zero)=0:=(zb9 (zc3 (zdr hp3 (Nat.le_refl _) (show 0<cnt n (hgt n) by omega))).2.2).1
 refine zf (ze (zb (zt (some 1) (Instr.box 50 (vA [(vI n),(.slice a_t n_t c_t)])) (vP w.heap.size 0) ([(vI n),(.slice a_t n_t c_t)]) 50 ?_)))
 intro w1 hBw1 hEw1
 have hzw1:=hEw1.size;have hlw1:=hBw1.lt
 refine zb (zt (some 2) (Instr.alloc 23 true (.tuple #[])) (vP w1.heap.size 0) (zw Dig.zero) 23 ?_)
 intro w2 hBw2 hEw2
 have hzw2:=hEw2.size;have hlw2:=hBw2.lt
 refine zd 1 [(3,(vI 0))] (zg (zc (zf (zf (ze (zb (zj (some 5) (Instr.loadAt 50 (vP w.heap.size 0)) (vA [(vI n),(.slice a_t n_t c_t)]) (zD (vs:= [(vI n),(.slice a_t n_t c_t)]) ((hBw1.ext hEw2).all)) ?_)))))))
 refine zb (zi (some 6) (zlZ ((n:Nat):Int) _ (((h_t.ext hEw1)).ext hEw2) (((hg0.ext hEw1)).ext hEw2) (((hg1.ext hEw1)).ext hEw2) (((hg2.ext hEw1)).ext hEw2) (((hg3.ext hEw1)).ext hEw2)) ?_)
 rintro _ w3 ⟨rfl,hEw3⟩
 have hzw3:=hEw3.size
 rw [show zd2 ((n:Nat):Int) t=0 from hce]
 refine zd 1 [(4,(vI 0))] (zg (zc (zf (ze (zd 1 [(7,(vI 0))] (zb (zat (some 8) (((0:Nat):Int) !=((0:Nat):Int)) false (zaL (by omega)) ?_)))))))
 refine zg (zc (zr (zy (zc (zf (ze (zd 1 [(11,(vP w.heap.size 1))] (zb (zj (some 12) (Instr.loadAt 24 (vP w.heap.size 1)) (.slice a_t n_t c_t) (zo ((((hBw1.ext hEw2)).ext hEw3).cell rfl)) ?_)))))))))
 refine zd 1 [(13,(vP w.heap.size 1))] (zb (zj (some 14) (Instr.loadAt 24 (vP w.heap.size 1)) (.slice a_t n_t c_t) (zo ((((hBw1.ext hEw2)).ext hEw3).cell rfl)) ?_))
 refine zd 1 [(15,(vI n_t))] (zb (zv (some 16) .i64 (IntKind.i64.wrap (((n_t:Nat):Int)-((1:Nat):Int))) (num n (hgt n)) (zG (by omega) (by omega) (by omega)) ?_))
 obtain ⟨b1,o1,rfl⟩:=h_t.addr (by omega) (by decide)
 refine zb (zj (some 17) (Instr.indexAt 24 (.slice (pA b1 o1) n_t c_t) (vI (num n (hgt n)))) (vP b1 (o1+(num n (hgt n))*274)) (zap (E:=47) (sz:=274) (by omega)) ?_)
 have hK1:=(((((h_t.ext hEw1)).ext hEw2)).ext hEw3)
 refine zb (zj (some 18) (Instr.loadAt 47 (vP b1 (o1+(num n (hgt n))*274))) (vA (zK (t.getD (num n (hgt n)) Nod.zero))) (zD (vs:=zK (t.getD (num n (hgt n)) Nod.zero)) (hK1.at Nod.zero (by omega)) (by rw [zW];kernel_rfl)) ?_)
 have hK2:=(((((hg0.ext hEw1)).ext hEw2)).ext hEw3)
 have hK3:=(((((hg1.ext hEw1)).ext hEw2)).ext hEw3)
 have hK4:=(((((hg2.ext hEw1)).ext hEw2)).ext hEw3)
 refine zb (zi (some 19) (zdA (t.getD (num n (hgt n)) Nod.zero) _ (by assumption) hK2 hK3 hK4) ?_)
 rintro _ w4 ⟨rfl,hEw4⟩
 have hzw4:=hEw4.size
 refine zd 2 [(21,(vI 0)),(20,(vA (zw (zN (zM (t.getD (num n (hgt n)) Nod.zero))))))] (zb (zz 23 w1.heap.size 0 23 (vA (zw (zN (zM (t.getD (num n (hgt n)) Nod.zero))))) (zw Dig.zero) (zw (zN (zM (t.getD (num n (hgt n)) Nod.zero)))) (((hBw2.ext hEw3)).ext hEw4) (by rw [zac];kernel_rfl) (by first |(simp;done)|(simp;omega)) (zaT _) ?_))
 intro w5 hBw5 hCw5
 have hzw5:=hCw5.size
 rw [zm _ _ (by simp)] at hBw5
 refine zd 1 [(3,(vI 0))] (zg (zc (zx (zas (show zab Tryz.prog 22 _ _ (.cell 2 23) (vA (zw (zN (zM (t.getD (num n (hgt n)) Nod.zero))))) from ⟨⟨w1.heap.size,0,none⟩,(by kernel_rfl),zP (T:=23) (vs:=zw (zN (zM (t.getD (num n (hgt n)) Nod.zero)))) (hBw5).all (by rw [zac];kernel_rfl)⟩) (show zab Tryz.prog 22 _ _ (.tmp 3) (vI 0) by (show _=_;kernel_rfl)) ?_))))
 have hX1:Ext w w5:=(Ext.own (((hEw1.trans hEw2).trans hEw3).trans hEw4) hCw5 (by omega))
 exact ⟨rfl,hX1⟩
end Go.Proofs.YtgdpdnokcnhgnaaGreatDoor
namespace Go.Proofs.YtgdpdnokcnhgnaaGreatDoor
open Go Go.RowKit Go.Cs
set_option maxRecDepth 100000
set_option maxHeartbeats 4000000 in
theorem zre (n:Nat) (root:Dig) (b:Nat) {lo_p hi_p:Nat} {a_p:Option Addr} {n_p c_p:Nat} {p:List Nod} {lo_q hi_q:Nat} {a_q:Option Addr} {n_q c_q:Nat} {q:List (Nat×Nat)} (w:World) (h_p:Ms zK 274 lo_p hi_p w a_p n_p c_p p) (h_q:Ms zbQ 2 lo_q hi_q w a_q n_q c_q q) (hp0:1≤n) (hp1:n≤4096) (hp2:b<n) (hp3:1≤n_p) (hp4:n_p≤hgt n+1) (hp5:q=zdd n b) (hg0:Gl 0 [vI 45,vI 33] w) (hg1:Gl 2 (w8C za2) w) (hg2:Gl 3 (zR kA) w):
  Calls Tryz.prog 40 #[(vI n),(vA (zw root)),(vA [(vI b),(.slice a_p n_p c_p)]),(.slice a_q n_q c_q)] w (Ret fun r w'=>∃(a0:Nat),r=(zi0 139 a0 (zaQ (zbB n root b p) n_p))∧Ext w w'):=by
 refine zL (n:=95) (σ:= [(0,(vI n)),(1,(vA (zw root))),(2,(vA [(vI b),(.slice a_p n_p c_p)])),(3,(.slice a_q n_q c_q))]) Tryz.func40 rfl ?_
 replace h_p:=h_p.now;have hle_p:=h_p.le
 replace h_q:=h_q.now;have hle_q:=h_q.le
 have hgl0:=hg0.lt
 have hgl1:=hg1.lt
 have hgl2:=hg2.lt
 have h5:=zaz n
 have hqe:=hp5
 have hlp:=h_p.len_eq
 have hlq:=h_q.len_eq;rw [hp5,zeH] at hlq
 have hlep:=h_p.le;have hleq:=h_q.le
 refine zf (ze (zb (zt (some 5) (Instr.box 23 (vA (zw root))) (vP w.heap.size 0) (zw root) 23 ?_)))
 intro w1 hBw1 hEw1
 have hzw1:=hEw1.size;have hlw1:=hBw1.lt
 refine zb (zt (some 6) (Instr.box 26 (vA [(vI b),(.slice a_p n_p c_p)])) (vP w1.heap.size 0) ([(vI b),(.slice a_p n_p c_p)]) 26 ?_)
 intro w2 hBw2 hEw2
 have hzw2:=hEw2.size;have hlw2:=hBw2.lt
 refine zd 1 [(8, .nilIface)] (zg (zc (zf (ze (zb (zj (some 15) (Instr.loadAt 23 (vP w.heap.size 0)) (vA (zw root)) (zD (vs:=zw root) ((hBw1.ext hEw2).all) (by rw [zac];kernel_rfl)) ?_))))))
 refine zb (zt (some 9) (Instr.alloc 23 true (.tuple #[])) (vP w2.heap.size 0) (zw Dig.zero) 23 ?_)
 intro w3 hBw3 hEw3
 have hzw3:=hEw3.size;have hlw3:=hBw3.lt
 refine zb (zz 23 w2.heap.size 0 23 (vA (zw root)) (zw Dig.zero) (zw root) hBw3 (by rw [zac];kernel_rfl) (by first |(simp;done)|(simp;omega)) (zaT _) ?_)
 intro w4 hBw4 hCw4
 have hzw4:=hCw4.size
 rw [zm _ _ (by simp)] at hBw4
 refine zg (zc (zf (zf (ze (zd 1 [(16,(vP w1.heap.size 1))] (zb (zj (some 17) (Instr.loadAt 24 (vP w1.heap.size 1)) (.slice a_p n_p c_p) (zo ((((hBw2.ext hEw3)).chg hCw4 (fun hs=>by have h:_=_:=hs;omega)).cell rfl)) ?_)))))))
 refine zd 2 [(19,(vI 0)),(18,(vI n_p))] (zg (zc (zI ?_)))
 have hX1:Ext w w4:=(Ext.own ((hEw1.trans hEw2).trans hEw3) hCw4 (by omega))
 refine zah (X:=Nat) (fun i=> [(19,(vI i))]) [8,10,11,12,13,14,20,21,22,23,24,25,26,27,28,29,30,31,32,33,34,35,36,37,38,39,40,41,42,43,44,45,46,47,48,49,50,51,52,53,54,55,56,57,58,59,60,61,62,63,64,65,66,67,68,69,70,71,72,73,74,75,76,77,78,79,80,81,82,83,84,85,86,87,88,89,90,91,92,93,94] (fun i w5=>i≤n_p∧zaQ (zbB n root b p) i=0∧Blk w5 w2.heap.size (zw (zdu n b root p i)) 23∧Blk w5 w1.heap.size ([(vI b),(.slice a_p n_p c_p)]) 26∧Ext w w5) (fun i=>n_p-i) 0 (by kernel_rfl) ⟨Nat.zero_le _,rfl,by rw [zmM];exact hBw4,(((hBw2.ext hEw3)).chg hCw4 (fun hs=>by have h:_=_:=hs;omega)),hX1⟩ ?_
 rintro i dw5 w5 ⟨hi,hen,hB9,hB6,hEl⟩
 have hzl:=hEl.size;have hl9:=hB9.lt;have hl6:=hB6.lt
 refine zf (ze (zb (zO (some 20) (decide (((i:Nat):Int)<((n_p:Nat):Int))) (fun hc20=> ?_) (fun hc20=> ?_))))
 ·replace hc20:i<n_p:=by have:=zak hc20;omega
  have hq1:(q.getD i (0,0)).1=hgt n-i:=by rw [hqe,zdz (by omega)]
  have hq2:(q.getD i (0,0)).2=idx b (hgt n-i):=by rw [hqe,zdz (by omega)]
  have hxl:=(p.getD i Nod.zero).hlv;have hxi:=(p.getD i Nod.zero).hix
  have hib:=zfV b (hgt n-i)
  refine zg (zc (zf (zF (zy (zc (zf (zI (zf (ze ?_)))))))))
  refine zd 1 [(21,(vI i))] ?_
  obtain ⟨b1,o1,rfl⟩:=h_p.addr (by omega) (by decide)
  refine zb (zj (some 22) (Instr.indexAt 24 (.slice (pA b1 o1) n_p c_p) (vI i)) (vP b1 (o1+i*274)) (zap (E:=47) (sz:=274) (by omega)) ?_)
  refine zb (zj (some 23) (Instr.loadAt 47 (vP b1 (o1+i*274))) (vA (zK (p.getD i Nod.zero))) (zD (vs:=zK (p.getD i Nod.zero)) ((h_p.ext hEl).at Nod.zero (by omega)) (by rw [zW];kernel_rfl)) ?_)
  refine zb (zt (some 11) (Instr.alloc 47 true (.tuple #[])) (vP w5.heap.size 0) (zK Nod.zero) 47 ?_)
  intro w6 hBw6 hEw6
  have hzw6:=hEw6.size;have hlw6:=hBw6.lt
  refine zd 1 [(10,(vI i))] (zb (zz 47 w5.heap.size 0 47 (vA (zK (p.getD i Nod.zero))) (zK Nod.zero) (zK (p.getD i Nod.zero)) hBw6 (by rw [zW];kernel_rfl) (by first |(simp;done)|(simp;omega)) (zcG _) ?_))
  intro w7 hBw7 hCw7
  have hzw7:=hCw7.size
  rw [zm _ _ (by simp)] at hBw7
  refine zg (zc (zf (zf (zag (Ext w7.drew) 26 [(25,2048,0),(26,16777216,1),(27,33554432,2),(28,8,0),(29,1024,0),(30,402653184,24),(31,536870912,32),(32,1073741824,64),(33,2214592512,132),(34,4294967296,256),(35,8589936640,512),(36,25769803776,1536),(37,42949672960,2560),(38,8589934600,512),(39,8589935616,512),(40,420906795008,25088),(41,558345748480,33280),(42,1108101562368,66048),(43,2276332666880,135680),(44,4406636445696,262656),(45,8796093022208,524800),(46,17592186044417,1048576),(47,17592186046464,1048576),(48,123145302310912,7340032),(49,158329674399744,9437184),(50,299067162755072,17825792)] (fun hT84=> ?_)))))
  have hEw8:Ext w7 w7.drew:=Ext.drew w7
  generalize w7.drew=w8 at hEw8⊢
  have hzw8:=hEw8.size
  refine zk hT84 [(0,24,(vP w5.heap.size 0))] 1 1 (zh hT84 1 3 (some 25) (vB ((p.getD i Nod.zero).lv)) (zl (Instr.loadAt 5 (vP w5.heap.size 0)) (fun w' hC=>zo (((hBw7.ext hEw8).ext hC).cell rfl))) (zh hT84 2 7 (some 26) (vI ((p.getD i Nod.zero).lv)) (zq .i64 (IntKind.i64.wrap (((p.getD i Nod.zero).lv:Nat):Int)) (zG rfl (by omega) (by omega))) (zk hT84 [(3,27,(.slice a_q n_q c_q)),(4,28,(vI i))] 2 31 ?_)))
  obtain ⟨b2,o2,rfl⟩:=h_q.addr (by omega) (by decide)
  refine zh hT84 5 63 (some 29) (vP b2 (o2+i*2)) (zl (Instr.indexAt 94 (.slice (pA b2 o2) n_q c_q) (vI i)) (fun w' hC=>zap (E:=70) (sz:=2) (by omega))) (zk hT84 [(6,30,(vP b2 (o2+i*2)))] 1 127 ?_)
  have hK1:=(((((((h_q.ext hEl)).ext hEw6)).chg hCw7 (fun k h1 h2 hs=>by have h:k=_:=hs;omega))).ext hEw8)
  refine zh hT84 7 255 (some 31) (vI ((q.getD i (0,0)).1)) (zl (Instr.loadAt 3 (vP b2 (o2+i*2))) (fun w' hC=>zo ((hK1.ext hC).cell (j:=0) (0,0) (by omega) rfl))) ?_
  rcases Classical.em ((p.getD i Nod.zero).lv=hgt n-i) with hf32 | hf32
  ·refine zh hT84 8 511 (some 32) vF (zaI ((((p.getD i Nod.zero).lv:Nat):Int) !=(((q.getD i (0,0)).1:Nat):Int)) (zaL (by omega))) (zk hT84 [(9,33,vF),(10,34,(vP w5.heap.size 1))] 2 2047 (zh hT84 11 4095 (some 35) (vW ((p.getD i Nod.zero).ix)) (zl (Instr.loadAt 28 (vP w5.heap.size 1)) (fun w' hC=>zo (((hBw7.ext hEw8).ext hC).cell rfl))) (zh hT84 12 8191 (some 36) (vI ((p.getD i Nod.zero).ix)) (zq .i64 (IntKind.i64.wrap (((p.getD i Nod.zero).ix:Nat):Int)) (zG rfl (by omega) (by omega))) (zk hT84 [(13,37,(.slice (pA b2 o2) n_q c_q)),(14,38,(vI i))] 2 32767 (zh hT84 15 65535 (some 39) (vP b2 (o2+i*2)) (zl (Instr.indexAt 94 (.slice (pA b2 o2) n_q c_q) (vI i)) (fun w' hC=>zap (E:=70) (sz:=2) (by omega))) (zk hT84 [(16,40,(vP b2 (o2+i*2+1)))] 1 131071 (zh hT84 17 262143 (some 41) (vI ((q.getD i (0,0)).2)) (zl (Instr.loadAt 3 (vP b2 (o2+i*2+1))) (fun w' hC=>zo ((hK1.ext hC).cell (j:=1) (0,0) (by omega) rfl))) ?_)))))))
   rcases Classical.em ((p.getD i Nod.zero).ix=idx b (hgt n-i)) with hf42 | hf42
   ·refine zh hT84 18 524287 (some 42) vF (zaI ((((p.getD i Nod.zero).ix:Nat):Int) !=(((q.getD i (0,0)).2:Nat):Int)) (zaL (by omega))) (zk hT84 [(19,43,vF),(20,44,vF),(21,45,(vI n))] 3 4194303 (zh hT84 22 8388607 (some 46) (vA (zK (p.getD i Nod.zero))) (zl (Instr.loadAt 47 (vP w5.heap.size 0)) (fun w' hC=>zD (vs:=zK (p.getD i Nod.zero)) (((hBw7.ext hEw8).ext hC).all) (by rw [zW];kernel_rfl))) (zn 23 16777215 (zi (some 47) (zkO n (p.getD i Nod.zero) _ (by omega) (by omega)) ?_))))
    rintro _ w9 ⟨rfl,hEw9⟩
    have hzw9:=hEw9.size
    refine ⟨.inr hEw9, ?_⟩
    rcases Classical.em (zbE n (p.getD i Nod.zero)=0) with hf48 | hf48
    ·have hnm:¬zb2 n (p.getD i Nod.zero) (hgt n-i) (idx b (hgt n-i)):=zjL hf32 hf42 hf48
     have hchk:zar (p.getD i Nod.zero)=0:=(zb9 hf48).1
     refine zh (hw:=hEw9) hT84 24 33554431 (some 48) vF (zaI (((zbE n (p.getD i Nod.zero):Nat):Int) !=((0:Nat):Int)) (zaL (by omega))) (zk (hw:=hEw9) hT84 [(25,49,vF)] 1 67108863 (zJ (zc (zr (zy (zc (zf (zf (ze ?_)))))))))
     refine zb (zj (some 54) (Instr.loadAt 47 (vP w5.heap.size 0)) (vA (zK (p.getD i Nod.zero))) (zD (vs:=zK (p.getD i Nod.zero)) ((((hBw7.ext hEw8)).ext hEw9).all) (by rw [zW];kernel_rfl)) ?_)
     have hK2:=(((((((((hg0.ext hEl)).ext hEw6)).chg hCw7 (fun hs=>by have h:_=_:=hs;omega))).ext hEw8)).ext hEw9)
     have hK3:=(((((((((hg1.ext hEl)).ext hEw6)).chg hCw7 (fun hs=>by have h:_=_:=hs;omega))).ext hEw8)).ext hEw9)
     have hK4:=(((((((((hg2.ext hEl)).ext hEw6)).chg hCw7 (fun hs=>by have h:_=_:=hs;omega))).ext hEw8)).ext hEw9)
     refine zb (zi (some 55) (zdA (p.getD i Nod.zero) _ (by assumption) hK2 hK3 hK4) ?_)
     rintro _ w10 ⟨rfl,hEw10⟩
     have hzw10:=hEw10.size
     refine zd 3 [(57,(vI 0)),(56,(vA (zw (zN (zM (p.getD i Nod.zero)))))),(53,(.tuple #[(vA (zw (zN (zM (p.getD i Nod.zero))))),(vI 0)]))] (zb (zt (some 12) (Instr.alloc 23 true (.tuple #[])) (vP w10.heap.size 0) (zw Dig.zero) 23 ?_))
     intro w11 hBw11 hEw11
     have hzw11:=hEw11.size;have hlw11:=hBw11.lt
     refine zb (zz 23 w10.heap.size 0 23 (vA (zw (zN (zM (p.getD i Nod.zero))))) (zw Dig.zero) (zw (zN (zM (p.getD i Nod.zero)))) hBw11 (by rw [zac];kernel_rfl) (by first |(simp;done)|(simp;omega)) (zaT _) ?_)
     intro w12 hBw12 hCw12
     have hzw12:=hCw12.size
     rw [zm _ _ (by simp)] at hBw12
     refine zd 1 [(13,(vI 0))] (zg (zc (zf (ze (zb (zj (some 58) (Instr.loadAt 23 (vP w10.heap.size 0)) (vA (zw (zN (zM (p.getD i Nod.zero))))) (zD (vs:=zw (zN (zM (p.getD i Nod.zero)))) (hBw12.all) (by rw [zac];kernel_rfl)) ?_))))))
     have hK5:=(((((((((((((hB9.ext hEw6)).chg hCw7 (fun hs=>by have h:_=_:=hs;omega))).ext hEw8)).ext hEw9)).ext hEw10)).ext hEw11)).chg hCw12 (fun hs=>by have h:_=_:=hs;omega))
     refine zb (zj (some 59) (Instr.loadAt 23 (vP w2.heap.size 0)) (vA (zw (zdu n b root p i))) (zD (vs:=zw (zdu n b root p i)) (hK5.all) (by rw [zac];kernel_rfl)) ?_)
     rcases Bool.eq_false_or_eq_true ((zN (zM (p.getD i Nod.zero))).l==(zdu n b root p i).l) with hf60 | hf60
     ·have hdg:(zN (zM (p.getD i Nod.zero))).l=(zcK root p i).l:=by rw [←zkq hnm];exact beq_iff_eq.1 hf60
      refine zb (zj (some 60) (bo .neq 23 (.tmp 58) (.tmp 59) (vA (zw (zN (zM (p.getD i Nod.zero))))) (vA (zw (zdu n b root p i)))) vF (zav (r:=true) (T:=23) ((zbj (dd:=9998) (t:=23) (e:=5) (zN (zM (p.getD i Nod.zero))) (zdu n b root p i)).trans (congrArg (fun b=>Result.ok b _) (show ((zN (zM (p.getD i Nod.zero))).l==(zdu n b root p i).l)=true from hf60)))) ?_)
      refine zg (zc (zr (zy (zc (zf (zf (ze (zd 1 [(64,(vI i))] (zb (zv (some 65) .i64 (IntKind.i64.wrap (((i:Nat):Int)+((1:Nat):Int))) (i+1) (zG (by omega) (by omega) (by omega)) ?_))))))))))
      refine zd 2 [(67,(vI n_q)),(66,(.slice (pA b2 o2) n_q c_q))] (zb (zO (some 68) ((((i+1:Nat):Int)==((n_q:Nat):Int))) (fun hc68=> ?_) (fun hc68=> ?_)))
      ·replace hc68:i+1=n_q:=by have:=zbL hc68;omega
       have hfin:zaQ (zbB n root b p) n_p=0:=by rw [show n_p=i+1 from by omega];exact zbo hen (ziD hnm hdg (by omega))
       refine zg (zc (zF (zaf (zH (zdK (by decide) (zH (zH (zT (zc ?_)))))))))
       refine zf (ze (zd 1 [(8, .nilIface)] (zg (zc (zx (zB .nilIface ?_))))))
       have hX2:Ext w w12:=(Ext.own (((((Ext.own (hEl.trans hEw6) hCw7 (by omega)).trans hEw8).trans hEw9).trans hEw10).trans hEw11) hCw12 (by omega))
       exact ⟨0,by rw [hfin];rfl,hX2⟩
      ·replace hc68:¬(i+1=n_q):=by have:=zbK hc68;omega
       have hq3:(q.getD (i+1) (0,0)).2=idx b (hgt n-i-1):=by rw [hqe,zdz (by omega)];rfl
       have hib2:=zfV b (hgt n-i-1)
       refine zg (zc (zr (zy (zc (zf (ze (zd 2 [(70,(vI i)),(69,(.slice (pA b2 o2) n_q c_q))] (zb (zv (some 71) .i64 (IntKind.i64.wrap (((i:Nat):Int)+((1:Nat):Int))) (i+1) (zG (by omega) (by omega) (by omega)) ?_)))))))))
       refine zb (zj (some 72) (Instr.indexAt 94 (.slice (pA b2 o2) n_q c_q) (vI (i+1))) (vP b2 (o2+(i+1)*2)) (zap (E:=70) (sz:=2) (by omega)) ?_)
       refine zd 1 [(73,(vP b2 (o2+(i+1)*2+1)))] ?_
       have hK6:=(((((((hK1.ext hEw9)).ext hEw10)).ext hEw11)).chg hCw12 (fun k h1 h2 hs=>by have h:k=_:=hs;omega))
       refine zb (zj (some 74) (Instr.loadAt 3 (vP b2 (o2+(i+1)*2+1))) (vI ((q.getD (i+1) (0,0)).2)) (zo (hK6.cell (j:=1) (0,0) (by omega) rfl)) ?_)
       refine zb (zv (some 75) .i64 ((((q.getD (i+1) (0,0)).2:Nat):Int).tmod ((4:Nat):Int)) (idx b (hgt n-i-1)%4) ((zcP _ _).trans (by rw [hq3])) ?_)
       refine zd 1 [(76,(vP w5.heap.size 142))] (zb (zj (some 77) (Instr.indexAt 45 (vP w5.heap.size 142) (vI (idx b (hgt n-i-1)%4))) (vP w5.heap.size (142+(idx b (hgt n-i-1)%4)*33)) (zX (E:=44) (sz:=33) (m:=4) (by omega)) ?_))
       have hK7:=(((((((((hBw7.ext hEw8)).ext hEw9)).ext hEw10)).ext hEw11)).chg hCw12 (fun hs=>by have h:_=_:=hs;omega))
       refine zb (zj (some 78) (Instr.loadAt 44 (vP w5.heap.size (142+(idx b (hgt n-i-1)%4)*33))) (vA (zai ((p.getD i Nod.zero).es.get (idx b (hgt n-i-1)%4)))) (zD (vs:=zai ((p.getD i Nod.zero).es.get (idx b (hgt n-i-1)%4))) (hK7.at (142+(idx b (hgt n-i-1)%4)*33) (zai ((p.getD i Nod.zero).es.get (idx b (hgt n-i-1)%4))) (nod_e (by omega))) (by rw [zaS];kernel_rfl)) ?_)
       refine zb (zt (some 14) (Instr.alloc 44 true (.tuple #[])) (vP w12.heap.size 0) (zai Ent.zero) 44 ?_)
       intro w13 hBw13 hEw13
       have hzw13:=hEw13.size;have hlw13:=hBw13.lt
       refine zb (zz 44 w12.heap.size 0 44 (vA (zai ((p.getD i Nod.zero).es.get (idx b (hgt n-i-1)%4)))) (zai Ent.zero) (zai ((p.getD i Nod.zero).es.get (idx b (hgt n-i-1)%4))) hBw13 (by rw [zaS];kernel_rfl) (by first |(simp;done)|(simp;omega)) (zdq _) ?_)
       intro w14 hBw14 hCw14
       have hzw14:=hCw14.size
       rw [zm _ _ (by simp)] at hBw14
       refine zg (zc (zf (zf (ze (zd 1 [(79,(vP w12.heap.size 0))] (zb (zj (some 80) (Instr.loadAt 5 (vP w12.heap.size 0)) (vB (((p.getD i Nod.zero).es.get (idx b (hgt n-i-1)%4)).st)) (zo (hBw14.cell rfl)) ?_)))))))
       refine zb (zO (some 81) ((((((p.getD i Nod.zero).es.get (idx b (hgt n-i-1)%4)).st:Nat):Int)==((0:Nat):Int))) (fun hc81=> ?_) (fun hc81=> ?_))
       ·replace hc81:((p.getD i Nod.zero).es.get (idx b (hgt n-i-1)%4)).st=0:=by have:=zbL hc81;omega
        refine zd 1 [(82,(vI i))] (zb (zv (some 83) .i64 (IntKind.i64.wrap (((i:Nat):Int)+((1:Nat):Int))) (i+1) (zG (by omega) (by omega) (by omega)) ?_))
        refine zd 1 [(84,(vP w1.heap.size 1))] ?_
        have hK8:=(((((((((((((((((hB6.ext hEw6)).chg hCw7 (fun hs=>by have h:_=_:=hs;omega))).ext hEw8)).ext hEw9)).ext hEw10)).ext hEw11)).chg hCw12 (fun hs=>by have h:_=_:=hs;omega))).ext hEw13)).chg hCw14 (fun hs=>by have h:_=_:=hs;omega))
        refine zb (zj (some 85) (Instr.loadAt 24 (vP w1.heap.size 1)) (.slice (pA b1 o1) n_p c_p) (zo (hK8.cell rfl)) ?_)
        refine zd 1 [(86,(vI n_p))] (zb (zO (some 87) ((((i+1:Nat):Int)==((n_p:Nat):Int))) (fun hc87=> ?_) (fun hc87=> ?_)))
        ·replace hc87:i+1=n_p:=by have:=zbL hc87;omega
         have hent:(zbU n b p i).st=0↔i+1=n_p:=by unfold zbU;constructor<;>intro<;>omega
         refine zd 1 [(88,vF)] (zg (zc (zr (zy (zc (ze (zd 1 [(92,(vP w12.heap.size 1))] (zb (zj (some 93) (Instr.loadAt 23 (vP w12.heap.size 1)) (vA (zw ((p.getD i Nod.zero).es.get (idx b (hgt n-i-1)%4)).dg)) (zD (vs:=zw ((p.getD i Nod.zero).es.get (idx b (hgt n-i-1)%4)).dg) (hBw14.at 1 (zw ((p.getD i Nod.zero).es.get (idx b (hgt n-i-1)%4)).dg) (zdR _)) (by rw [zac];kernel_rfl)) ?_)))))))))
         refine zb (zz 23 w2.heap.size 0 23 (vA (zw ((p.getD i Nod.zero).es.get (idx b (hgt n-i-1)%4)).dg)) (zw (zdu n b root p i)) (zw ((p.getD i Nod.zero).es.get (idx b (hgt n-i-1)%4)).dg) (((hK5.ext hEw13)).chg hCw14 (fun hs=>by have h:_=_:=hs;omega)) (by rw [zac];kernel_rfl) (by first |(simp;done)|(simp;omega)) (zaT _) ?_)
         intro w15 hBw15 hCw15
         have hzw15:=hCw15.size
         rw [zm _ _ (by simp)] at hBw15
         refine zg (zp (zc (ze (zb (zv (some 94) .i64 (IntKind.i64.wrap (((i:Nat):Int)+((1:Nat):Int))) (i+1) (zG (by omega) (by omega) (by omega)) ?_)))))
         refine zd 1 [(19,(vI (i+1)))] (zg (zC ?_))
         have hX3:Ext w w15:=(Ext.own (Ext.own ((Ext.own (((((Ext.own (hEl.trans hEw6) hCw7 (by omega)).trans hEw8).trans hEw9).trans hEw10).trans hEw11) hCw12 (by omega)).trans hEw13) hCw14 (by omega)) hCw15 (by omega))
         refine zS (i+1) ?_ ?_
         ·exact ⟨by omega,zbo hen (zgB hnm hdg (by omega) (show (zbU n b p i).st=0↔i+1=p.length by rw [←hlp];exact hent)),by rw [zfZ];exact hBw15,((hK8).chg hCw15 (fun hs=>by have h:_=_:=hs;omega)),hX3⟩
         ·first | omega |(dsimp only;omega)
        ·replace hc87:¬(i+1=n_p):=by have:=zbK hc87;omega
         have hent:¬((zbU n b p i).st=0↔i+1=n_p):=by unfold zbU;intro hh;omega
         refine zd 1 [(88,vT)] (zg (zc (zF (zf (ze (zd 4 [(8,(.iface 139 (vA [(vI i),(vI 9)]))),(91,(.iface 139 (vA [(vI i),(vI 9)]))),(90,(vA [(vI i),(vI 9)])),(89,(vI i))] (zg (zc (zx ?_)))))))))
         refine zu (zA (zu (zu (zA (zu (zB (.iface 139 (vA [(vI i),(vI 9)])) ?_))))))
         have hX4:Ext w w14:=(Ext.own ((Ext.own (((((Ext.own (hEl.trans hEw6) hCw7 (by omega)).trans hEw8).trans hEw9).trans hEw10).trans hEw11) hCw12 (by omega)).trans hEw13) hCw14 (by omega))
         exact ⟨_,by rw [zbq hen (zf7 hnm hdg (by omega) (by rw [←hlp];exact hent)) (by decide) _ (by omega),za4 (by decide)],hX4⟩
       ·replace hc81:¬(((p.getD i Nod.zero).es.get (idx b (hgt n-i-1)%4)).st=0):=by have:=zbK hc81;omega
        refine zd 1 [(82,(vI i))] (zb (zv (some 83) .i64 (IntKind.i64.wrap (((i:Nat):Int)+((1:Nat):Int))) (i+1) (zG (by omega) (by omega) (by omega)) ?_))
        refine zd 1 [(84,(vP w1.heap.size 1))] ?_
        have hK9:=(((((((((((((((((hB6.ext hEw6)).chg hCw7 (fun hs=>by have h:_=_:=hs;omega))).ext hEw8)).ext hEw9)).ext hEw10)).ext hEw11)).chg hCw12 (fun hs=>by have h:_=_:=hs;omega))).ext hEw13)).chg hCw14 (fun hs=>by have h:_=_:=hs;omega))
        refine zb (zj (some 85) (Instr.loadAt 24 (vP w1.heap.size 1)) (.slice (pA b1 o1) n_p c_p) (zo (hK9.cell rfl)) ?_)
        refine zd 1 [(86,(vI n_p))] (zb (zO (some 87) ((((i+1:Nat):Int)==((n_p:Nat):Int))) (fun hc87=> ?_) (fun hc87=> ?_)))
        ·replace hc87:i+1=n_p:=by have:=zbL hc87;omega
         have hent:¬((zbU n b p i).st=0↔i+1=n_p):=by unfold zbU;intro hh;omega
         refine zd 1 [(88,vT)] (zg (zc (zF (zf (ze (zd 4 [(8,(.iface 139 (vA [(vI i),(vI 9)]))),(91,(.iface 139 (vA [(vI i),(vI 9)]))),(90,(vA [(vI i),(vI 9)])),(89,(vI i))] (zg (zc (zx ?_)))))))))
         refine zu (zA (zu (zu (zA (zu (zB (.iface 139 (vA [(vI i),(vI 9)])) ?_))))))
         have hX5:Ext w w14:=(Ext.own ((Ext.own (((((Ext.own (hEl.trans hEw6) hCw7 (by omega)).trans hEw8).trans hEw9).trans hEw10).trans hEw11) hCw12 (by omega)).trans hEw13) hCw14 (by omega))
         exact ⟨_,by rw [zbq hen (zf7 hnm hdg (by omega) (by rw [←hlp];exact hent)) (by decide) _ (by omega),za4 (by decide)],hX5⟩
        ·replace hc87:¬(i+1=n_p):=by have:=zbK hc87;omega
         have hent:(zbU n b p i).st=0↔i+1=n_p:=by unfold zbU;constructor<;>intro<;>omega
         refine zd 1 [(88,vF)] (zg (zc (zr (zy (zc (ze (zd 1 [(92,(vP w12.heap.size 1))] (zb (zj (some 93) (Instr.loadAt 23 (vP w12.heap.size 1)) (vA (zw ((p.getD i Nod.zero).es.get (idx b (hgt n-i-1)%4)).dg)) (zD (vs:=zw ((p.getD i Nod.zero).es.get (idx b (hgt n-i-1)%4)).dg) (hBw14.at 1 (zw ((p.getD i Nod.zero).es.get (idx b (hgt n-i-1)%4)).dg) (zdR _)) (by rw [zac];kernel_rfl)) ?_)))))))))
         refine zb (zz 23 w2.heap.size 0 23 (vA (zw ((p.getD i Nod.zero).es.get (idx b (hgt n-i-1)%4)).dg)) (zw (zdu n b root p i)) (zw ((p.getD i Nod.zero).es.get (idx b (hgt n-i-1)%4)).dg) (((hK5.ext hEw13)).chg hCw14 (fun hs=>by have h:_=_:=hs;omega)) (by rw [zac];kernel_rfl) (by first |(simp;done)|(simp;omega)) (zaT _) ?_)
         intro w16 hBw16 hCw16
         have hzw16:=hCw16.size
         rw [zm _ _ (by simp)] at hBw16
         refine zg (zp (zc (ze (zb (zv (some 94) .i64 (IntKind.i64.wrap (((i:Nat):Int)+((1:Nat):Int))) (i+1) (zG (by omega) (by omega) (by omega)) ?_)))))
         refine zd 1 [(19,(vI (i+1)))] (zg (zC ?_))
         have hX6:Ext w w16:=(Ext.own (Ext.own ((Ext.own (((((Ext.own (hEl.trans hEw6) hCw7 (by omega)).trans hEw8).trans hEw9).trans hEw10).trans hEw11) hCw12 (by omega)).trans hEw13) hCw14 (by omega)) hCw16 (by omega))
         refine zS (i+1) ?_ ?_
         ·exact ⟨by omega,zbo hen (zgB hnm hdg (by omega) (show (zbU n b p i).st=0↔i+1=p.length by rw [←hlp];exact hent)),by rw [zfZ];exact hBw16,((hK9).chg hCw16 (fun hs=>by have h:_=_:=hs;omega)),hX6⟩
         ·first | omega |(dsimp only;omega)
     ·have hdg:¬(zN (zM (p.getD i Nod.zero))).l=(zcK root p i).l:=by rw [←zkq hnm,←beq_iff_eq,hf60];decide
      refine zb (zj (some 60) (bo .neq 23 (.tmp 58) (.tmp 59) (vA (zw (zN (zM (p.getD i Nod.zero))))) (vA (zw (zdu n b root p i)))) vT (zav (r:=false) (T:=23) ((zbj (dd:=9998) (t:=23) (e:=5) (zN (zM (p.getD i Nod.zero))) (zdu n b root p i)).trans (congrArg (fun b=>Result.ok b _) (show ((zN (zM (p.getD i Nod.zero))).l==(zdu n b root p i).l)=false from hf60)))) ?_)
      refine zg (zc (zF (zf (ze (zd 4 [(8,(.iface 139 (vA [(vI i),(vI 9)]))),(63,(.iface 139 (vA [(vI i),(vI 9)]))),(62,(vA [(vI i),(vI 9)])),(61,(vI i))] (zg (zc (zx (zu ?_)))))))))
      refine zA (zu (zu (zA (zu (zB (.iface 139 (vA [(vI i),(vI 9)])) ?_)))))
      have hX7:Ext w w12:=(Ext.own (((((Ext.own (hEl.trans hEw6) hCw7 (by omega)).trans hEw8).trans hEw9).trans hEw10).trans hEw11) hCw12 (by omega))
      exact ⟨_,by rw [zbq hen (zp3 hnm hdg) (by decide) _ (by omega),za4 (by decide)],hX7⟩
    ·refine zh (hw:=hEw9) hT84 24 33554431 (some 48) vT (zaI (((zbE n (p.getD i Nod.zero):Nat):Int) !=((0:Nat):Int)) (zcq (by omega))) (zk (hw:=hEw9) hT84 [(25,49,vT)] 1 67108863 (zJ (zc (zF (zf (ze (zd 4 [(8,(.iface 139 (vA [(vI i),(vI 17)]))),(52,(.iface 139 (vA [(vI i),(vI 17)]))),(51,(vA [(vI i),(vI 17)])),(50,(vI i))] (zg (zc ?_)))))))))
     refine zx (zu (zA (zu (zu (zA (zu (zB (.iface 139 (vA [(vI i),(vI 17)])) ?_)))))))
     have hX8:Ext w w9:=(((Ext.own (hEl.trans hEw6) hCw7 (by omega)).trans hEw8).trans hEw9)
     exact ⟨_,by rw [zbq hen (zih (fun hh=>hf48 hh.2.2)) (by decide) _ (by omega),za4 (by decide)],hX8⟩
   ·refine zh hT84 18 524287 (some 42) vT (zaI ((((p.getD i Nod.zero).ix:Nat):Int) !=(((q.getD i (0,0)).2:Nat):Int)) (zcq (by omega))) (zk hT84 [(19,43,vT),(20,44,vT),(21,45,undef),(22,46,undef),(23,47,undef),(24,48,undef),(25,49,vT)] 7 67108863 (zJ (zc (zF (zf (ze (zd 4 [(8,(.iface 139 (vA [(vI i),(vI 17)]))),(52,(.iface 139 (vA [(vI i),(vI 17)]))),(51,(vA [(vI i),(vI 17)])),(50,(vI i))] (zg (zc ?_)))))))))
    refine zx (zu (zA (zu (zu (zA (zu (zB (.iface 139 (vA [(vI i),(vI 17)])) ?_)))))))
    have hX9:Ext w w8:=((Ext.own (hEl.trans hEw6) hCw7 (by omega)).trans hEw8)
    exact ⟨_,by rw [zbq hen (zih (fun hh=>hf42 hh.2.1)) (by decide) _ (by omega),za4 (by decide)],hX9⟩
  ·refine zh hT84 8 511 (some 32) vT (zaI ((((p.getD i Nod.zero).lv:Nat):Int) !=(((q.getD i (0,0)).1:Nat):Int)) (zcq (by omega))) (zk hT84 [(9,33,vT),(10,34,undef),(11,35,undef),(12,36,undef),(13,37,undef),(14,38,undef),(15,39,undef),(16,40,undef),(17,41,undef),(18,42,undef),(19,43,vT),(20,44,vT),(21,45,undef),(22,46,undef),(23,47,undef),(24,48,undef),(25,49,vT)] 17 67108863 (zJ (zc (zF (zf (ze (zd 4 [(8,(.iface 139 (vA [(vI i),(vI 17)]))),(52,(.iface 139 (vA [(vI i),(vI 17)]))),(51,(vA [(vI i),(vI 17)])),(50,(vI i))] (zg (zc ?_)))))))))
   refine zx (zu (zA (zu (zu (zA (zu (zB (.iface 139 (vA [(vI i),(vI 17)])) ?_)))))))
   have hX10:Ext w w8:=((Ext.own (hEl.trans hEw6) hCw7 (by omega)).trans hEw8)
   exact ⟨_,by rw [zbq hen (zih (fun hh=>hf32 hh.1)) (by decide) _ (by omega),za4 (by decide)],hX10⟩
 ·replace hc20:¬(i<n_p):=by have:=zal hc20;omega
  have hfin:zaQ (zbB n root b p) n_p=0:=by rw [show n_p=i from by omega];exact hen
  refine zg (zc (zf (zr (zaf (zH (zH (zT (zc (zf ?_)))))))))
  exact ze (zd 1 [(8, .nilIface)] (zg (zc (zx (zB .nilIface (⟨0,by rw [hfin];rfl,hEl⟩))))))
end Go.Proofs.YtgdpdnokcnhgnaaGreatDoor
namespace Go.Proofs.YtgdpdnokcnhgnaaGreatDoor
open Go Go.RowKit Go.Cs
set_option maxRecDepth 100000
theorem zrh (n:Int) (root:Dig) (b:Int) {lo_p hi_p:Nat} {a_p:Option Addr} {n_p c_p:Nat} {p:List Nod} (w:World) (h_p:Ms zK 274 lo_p hi_p w a_p n_p c_p p) (hp0:¬(1≤n∧n≤4096∧0≤b∧b<n)):
  Calls Tryz.prog 12 #[(.int .i64 n),(vA (zw root)),(vA [(.int .i64 b),(.slice a_p n_p c_p)])] w (Ret fun r w'=>r=(.tuple #[(vA (zE Rec.zero)),(vI 1)])∧Ext w w'):=by
 refine zL (n:=65) (σ:= [(0,(.int .i64 n)),(1,(vA (zw root))),(2,(vA [(.int .i64 b),(.slice a_p n_p c_p)]))]) Tryz.func12 rfl ?_
 replace h_p:=h_p.now;have hle_p:=h_p.le
 refine zf (ze (zb (zt (some 4) (Instr.box 23 (vA (zw root))) (vP w.heap.size 0) (zw root) 23 ?_)))
 intro w1 hBw1 hEw1
 have hzw1:=hEw1.size;have hlw1:=hBw1.lt
 refine zb (zt (some 5) (Instr.box 26 (vA [(.int .i64 b),(.slice a_p n_p c_p)])) (vP w1.heap.size 0) ([(.int .i64 b),(.slice a_p n_p c_p)]) 26 ?_)
 intro w2 hBw2 hEw2
 have hzw2:=hEw2.size;have hlw2:=hBw2.lt
 refine zb (zt (some 6) (Instr.alloc 33 true (.tuple #[])) (vP w2.heap.size 0) (zE Rec.zero) 33 ?_)
 intro w3 hBw3 hEw3
 have hzw3:=hEw3.size;have hlw3:=hBw3.lt
 refine zd 1 [(7,(vI 0))] (zg (zc (zf (ze (zd 2 [(12,(vP w1.heap.size 0)),(11,(.int .i64 n))] (zb (zj (some 13) (Instr.loadAt 3 (vP w1.heap.size 0)) (.int .i64 b) (zo ((hBw2.ext hEw3).cell rfl)) ?_)))))))
 refine zb (zi (some 14) (zmG n b _ (by omega)) ?_)
 rintro _ w4 ⟨rfl,hEw4⟩
 have hzw4:=hEw4.size
 refine zd 5 [(9,(vI 1)),(8,(.slice none 0 0)),(16,(vI 1)),(15,(.slice none 0 0)),(10,(.tuple #[(.slice none 0 0),(vI 1)]))] (zg (zc (zf (zf (ze (zd 1 [(17,(vI 1))] (zb (zat (some 18) (((1:Nat):Int)==((0:Nat):Int)) false (zbW (by omega)) ?_))))))))
 refine zd 14 [(32,vF),(31,undef),(30,undef),(29,undef),(28,undef),(27,undef),(26,undef),(25,undef),(24,undef),(23,undef),(22,undef),(21,undef),(20,undef),(19,vF)] (zg (zc (zr (zy (zc (zf (zf (ze (zd 1 [(33,(vI 1))] ?_)))))))))
 refine zb (zat (some 34) (((1:Nat):Int)==((0:Nat):Int)) false (zbW (by omega)) ?_)
 refine zg (zc (zr (zy (zc (zf (zf (ze (zd 1 [(41,(vI 1))] (zb (zat (some 42) (((1:Nat):Int) !=((0:Nat):Int)) true (zcq (by omega)) ?_))))))))))
 refine zd 8 [(50,vT),(49,undef),(48,undef),(47,undef),(46,undef),(45,undef),(44,undef),(43,vT)] (zg (zc (zF (zf (ze (zd 2 [(52,(vI 1)),(51,(vA (zE Rec.zero)))] (zb (zz 33 w2.heap.size 0 33 (vA (zE Rec.zero)) (zE Rec.zero) (zE Rec.zero) (hBw3.ext hEw4) (by rw [zY];kernel_rfl) (by first |(simp;done)|(simp;omega)) (zaU _) ?_))))))))
 intro w5 hBw5 hCw5
 have hzw5:=hCw5.size
 rw [zm _ _ (by simp)] at hBw5
 refine zd 1 [(7,(vI 1))] (zg (zc (zx (zu (zas (show zab Tryz.prog 65 _ _ (.cell 6 33) (vA (zE Rec.zero)) from ⟨⟨w2.heap.size,0,none⟩,(by kernel_rfl),zP (T:=33) (vs:=zE Rec.zero) (hBw5).all (by rw [zY];kernel_rfl)⟩) (show zab Tryz.prog 65 _ _ (.tmp 7) (vI 1) by (show _=_;kernel_rfl)) ?_)))))
 have hX1:Ext w w5:=(Ext.own (((hEw1.trans hEw2).trans hEw3).trans hEw4) hCw5 (by omega))
 exact ⟨rfl,hX1⟩
theorem zpP (n:Nat) (root:Dig) (b:Nat) {lo_p hi_p:Nat} {a_p:Option Addr} {n_p c_p:Nat} {p:List Nod} (w:World) (h_p:Ms zK 274 lo_p hi_p w a_p n_p c_p p) (hp0:1≤n) (hp1:n≤4096) (hp2:b<n) (hp3:n_p=0):
  Calls Tryz.prog 12 #[(vI n),(vA (zw root)),(vA [(vI b),(.slice a_p n_p c_p)])] w (Ret fun r w'=>r=(.tuple #[(vA (zE Rec.zero)),(vI 1)])∧Ext w w'):=by
 refine zL (n:=65) (σ:= [(0,(vI n)),(1,(vA (zw root))),(2,(vA [(vI b),(.slice a_p n_p c_p)]))]) Tryz.func12 rfl ?_
 replace h_p:=h_p.now;have hle_p:=h_p.le
 have h5:=zaz n
 have hlp:=h_p.len_eq
 have hlep:=h_p.le
 refine zf (ze (zb (zt (some 4) (Instr.box 23 (vA (zw root))) (vP w.heap.size 0) (zw root) 23 ?_)))
 intro w1 hBw1 hEw1
 have hzw1:=hEw1.size;have hlw1:=hBw1.lt
 refine zb (zt (some 5) (Instr.box 26 (vA [(vI b),(.slice a_p n_p c_p)])) (vP w1.heap.size 0) ([(vI b),(.slice a_p n_p c_p)]) 26 ?_)
 intro w2 hBw2 hEw2
 have hzw2:=hEw2.size;have hlw2:=hBw2.lt
 refine zb (zt (some 6) (Instr.alloc 33 true (.tuple #[])) (vP w2.heap.size 0) (zE Rec.zero) 33 ?_)
 intro w3 hBw3 hEw3
 have hzw3:=hEw3.size;have hlw3:=hBw3.lt
 refine zd 1 [(7,(vI 0))] (zg (zc (zf (ze (zd 2 [(12,(vP w1.heap.size 0)),(11,(vI n))] (zb (zj (some 13) (Instr.loadAt 3 (vP w1.heap.size 0)) (vI b) (zo ((hBw2.ext hEw3).cell rfl)) ?_)))))))
 refine zb (zi (some 14) (zhn n b _ (by omega) (by omega) (by omega)) ?_)
 rintro _ w4 ⟨a1,rfl,hFz1_0,hEw4⟩
 have hzw4:=hEw4.size
 have hlea1:=hFz1_0.le
 refine zd 5 [(9,(vI 0)),(8,(.slice a1 (hgt n+1) (hgt n+1))),(16,(vI 0)),(15,(.slice a1 (hgt n+1) (hgt n+1))),(10,(.tuple #[(.slice a1 (hgt n+1) (hgt n+1)),(vI 0)]))] (zg (zc (zf (zf (ze (zd 1 [(17,(vI 0))] (zb (zat (some 18) (((0:Nat):Int)==((0:Nat):Int)) true (zbt (by omega)) ?_))))))))
 refine zd 2 [(20,(vP w1.heap.size 1)),(19,vT)] (zb (zj (some 21) (Instr.loadAt 24 (vP w1.heap.size 1)) (.slice a_p n_p c_p) (zo ((((hBw2.ext hEw3)).ext hEw4).cell rfl)) ?_))
 refine zd 1 [(22,(vI n_p))] (zb (zat (some 23) (((n_p:Nat):Int)==((0:Nat):Int)) true (zbt (by omega)) ?_))
 refine zd 9 [(32,vT),(31,vT),(30,undef),(29,undef),(28,undef),(27,undef),(26,undef),(25,undef),(24,vT)] (zg (zc (zF (ze (zd 1 [(9,(vI 1))] (zg (zc (zf (zf ?_)))))))))
 refine ze (zd 1 [(33,(vI 1))] (zb (zat (some 34) (((1:Nat):Int)==((0:Nat):Int)) false (zbW (by omega)) ?_)))
 refine zg (zc (zr (zy (zc (zf (zf (ze (zd 1 [(41,(vI 1))] (zb (zat (some 42) (((1:Nat):Int) !=((0:Nat):Int)) true (zcq (by omega)) ?_))))))))))
 refine zd 8 [(50,vT),(49,undef),(48,undef),(47,undef),(46,undef),(45,undef),(44,undef),(43,vT)] (zg (zc (zF (zf (ze (zd 2 [(52,(vI 1)),(51,(vA (zE Rec.zero)))] (zb (zz 33 w2.heap.size 0 33 (vA (zE Rec.zero)) (zE Rec.zero) (zE Rec.zero) (hBw3.ext hEw4) (by rw [zY];kernel_rfl) (by first |(simp;done)|(simp;omega)) (zaU _) ?_))))))))
 intro w5 hBw5 hCw5
 have hzw5:=hCw5.size
 rw [zm _ _ (by simp)] at hBw5
 refine zd 1 [(7,(vI 1))] (zg (zc (zx (zu (zas (show zab Tryz.prog 65 _ _ (.cell 6 33) (vA (zE Rec.zero)) from ⟨⟨w2.heap.size,0,none⟩,(by kernel_rfl),zP (T:=33) (vs:=zE Rec.zero) (hBw5).all (by rw [zY];kernel_rfl)⟩) (show zab Tryz.prog 65 _ _ (.tmp 7) (vI 1) by (show _=_;kernel_rfl)) ?_)))))
 have hX1:Ext w w5:=(Ext.own (((hEw1.trans hEw2).trans hEw3).trans hEw4) hCw5 (by omega))
 exact ⟨rfl,hX1⟩
theorem zoX (n:Nat) (root:Dig) (b:Nat) {lo_p hi_p:Nat} {a_p:Option Addr} {n_p c_p:Nat} {p:List Nod} (w:World) (h_p:Ms zK 274 lo_p hi_p w a_p n_p c_p p) (hp0:1≤n) (hp1:n≤4096) (hp2:b<n) (hp3:hgt n+1<n_p):
  Calls Tryz.prog 12 #[(vI n),(vA (zw root)),(vA [(vI b),(.slice a_p n_p c_p)])] w (Ret fun r w'=>r=(.tuple #[(vA (zE Rec.zero)),(vI 1)])∧Ext w w'):=by
 refine zL (n:=65) (σ:= [(0,(vI n)),(1,(vA (zw root))),(2,(vA [(vI b),(.slice a_p n_p c_p)]))]) Tryz.func12 rfl ?_
 replace h_p:=h_p.now;have hle_p:=h_p.le
 have h5:=zaz n
 have hlp:=h_p.len_eq
 have hlep:=h_p.le
 refine zf (ze (zb (zt (some 4) (Instr.box 23 (vA (zw root))) (vP w.heap.size 0) (zw root) 23 ?_)))
 intro w1 hBw1 hEw1
 have hzw1:=hEw1.size;have hlw1:=hBw1.lt
 refine zb (zt (some 5) (Instr.box 26 (vA [(vI b),(.slice a_p n_p c_p)])) (vP w1.heap.size 0) ([(vI b),(.slice a_p n_p c_p)]) 26 ?_)
 intro w2 hBw2 hEw2
 have hzw2:=hEw2.size;have hlw2:=hBw2.lt
 refine zb (zt (some 6) (Instr.alloc 33 true (.tuple #[])) (vP w2.heap.size 0) (zE Rec.zero) 33 ?_)
 intro w3 hBw3 hEw3
 have hzw3:=hEw3.size;have hlw3:=hBw3.lt
 refine zd 1 [(7,(vI 0))] (zg (zc (zf (ze (zd 2 [(12,(vP w1.heap.size 0)),(11,(vI n))] (zb (zj (some 13) (Instr.loadAt 3 (vP w1.heap.size 0)) (vI b) (zo ((hBw2.ext hEw3).cell rfl)) ?_)))))))
 refine zb (zi (some 14) (zhn n b _ (by omega) (by omega) (by omega)) ?_)
 rintro _ w4 ⟨a1,rfl,hFz1_0,hEw4⟩
 have hzw4:=hEw4.size
 have hlea1:=hFz1_0.le
 refine zd 5 [(9,(vI 0)),(8,(.slice a1 (hgt n+1) (hgt n+1))),(16,(vI 0)),(15,(.slice a1 (hgt n+1) (hgt n+1))),(10,(.tuple #[(.slice a1 (hgt n+1) (hgt n+1)),(vI 0)]))] (zg (zc (zf (zf (ze (zd 1 [(17,(vI 0))] (zb (zat (some 18) (((0:Nat):Int)==((0:Nat):Int)) true (zbt (by omega)) ?_))))))))
 refine zd 2 [(20,(vP w1.heap.size 1)),(19,vT)] (zb (zj (some 21) (Instr.loadAt 24 (vP w1.heap.size 1)) (.slice a_p n_p c_p) (zo ((((hBw2.ext hEw3)).ext hEw4).cell rfl)) ?_))
 refine zd 1 [(22,(vI n_p))] (zb (zat (some 23) (((n_p:Nat):Int)==((0:Nat):Int)) false (zbW (by omega)) ?_))
 refine zd 2 [(25,(vP w1.heap.size 1)),(24,vF)] (zb (zj (some 26) (Instr.loadAt 24 (vP w1.heap.size 1)) (.slice a_p n_p c_p) (zo ((((hBw2.ext hEw3)).ext hEw4).cell rfl)) ?_))
 refine zd 3 [(29,(vI (hgt n+1))),(28,(.slice a1 (hgt n+1) (hgt n+1))),(27,(vI n_p))] (zb (zat (some 30) (decide (((n_p:Nat):Int)>((hgt n+1:Nat):Int))) true (zeu (by omega)) ?_))
 refine zd 2 [(32,vT),(31,vT)] (zg (zc (zF (ze (zd 1 [(9,(vI 1))] (zg (zc (zf (zf ?_)))))))))
 refine ze (zd 1 [(33,(vI 1))] (zb (zat (some 34) (((1:Nat):Int)==((0:Nat):Int)) false (zbW (by omega)) ?_)))
 refine zg (zc (zr (zy (zc (zf (zf (ze (zd 1 [(41,(vI 1))] (zb (zat (some 42) (((1:Nat):Int) !=((0:Nat):Int)) true (zcq (by omega)) ?_))))))))))
 refine zd 8 [(50,vT),(49,undef),(48,undef),(47,undef),(46,undef),(45,undef),(44,undef),(43,vT)] (zg (zc (zF (zf (ze (zd 2 [(52,(vI 1)),(51,(vA (zE Rec.zero)))] (zb (zz 33 w2.heap.size 0 33 (vA (zE Rec.zero)) (zE Rec.zero) (zE Rec.zero) (hBw3.ext hEw4) (by rw [zY];kernel_rfl) (by first |(simp;done)|(simp;omega)) (zaU _) ?_))))))))
 intro w5 hBw5 hCw5
 have hzw5:=hCw5.size
 rw [zm _ _ (by simp)] at hBw5
 refine zd 1 [(7,(vI 1))] (zg (zc (zx (zu (zas (show zab Tryz.prog 65 _ _ (.cell 6 33) (vA (zE Rec.zero)) from ⟨⟨w2.heap.size,0,none⟩,(by kernel_rfl),zP (T:=33) (vs:=zE Rec.zero) (hBw5).all (by rw [zY];kernel_rfl)⟩) (show zab Tryz.prog 65 _ _ (.tmp 7) (vI 1) by (show _=_;kernel_rfl)) ?_)))))
 have hX1:Ext w w5:=(Ext.own (((hEw1.trans hEw2).trans hEw3).trans hEw4) hCw5 (by omega))
 exact ⟨rfl,hX1⟩
theorem zqe (n:Nat) (root:Dig) (b:Nat) {lo_p hi_p:Nat} {a_p:Option Addr} {n_p c_p:Nat} {p:List Nod} (w:World) (h_p:Ms zK 274 lo_p hi_p w a_p n_p c_p p) (hp0:1≤n) (hp1:n≤4096) (hp2:b<n) (hp3:1≤n_p) (hp4:n_p≤hgt n+1) (hg0:Gl 0 [vI 45,vI 33] w) (hg1:Gl 2 (w8C za2) w) (hg2:Gl 3 (zR kA) w) (hg3:Gl 1 [.iface 199 (.agg #[.pointer (some ⟨4,99,none⟩)])] w):
  Calls Tryz.prog 12 #[(vI n),(vA (zw root)),(vA [(vI b),(.slice a_p n_p c_p)])] w (Ret fun r w'=>r=(.tuple #[(vA (zE (zbs (n:Int) root (b:Int) p))),(vI (zbu (n:Int) root (b:Int) p))])∧Ext w w'):=by
 refine zL (n:=65) (σ:= [(0,(vI n)),(1,(vA (zw root))),(2,(vA [(vI b),(.slice a_p n_p c_p)]))]) Tryz.func12 rfl ?_
 replace h_p:=h_p.now;have hle_p:=h_p.le
 have hgl0:=hg0.lt
 have hgl1:=hg1.lt
 have hgl2:=hg2.lt
 have hgl3:=hg3.lt
 have h5:=zaz n
 have hlp:=h_p.len_eq
 have hlep:=h_p.le
 have hvt:zbu (n:Int) root (b:Int) p=zaQ (zbB n root b p) n_p:=by rw [zeU (zpp hp0 hp1 hp2 (by omega) (by omega)),hlp]
 refine zf (ze (zb (zt (some 4) (Instr.box 23 (vA (zw root))) (vP w.heap.size 0) (zw root) 23 ?_)))
 intro w1 hBw1 hEw1
 have hzw1:=hEw1.size;have hlw1:=hBw1.lt
 refine zb (zt (some 5) (Instr.box 26 (vA [(vI b),(.slice a_p n_p c_p)])) (vP w1.heap.size 0) ([(vI b),(.slice a_p n_p c_p)]) 26 ?_)
 intro w2 hBw2 hEw2
 have hzw2:=hEw2.size;have hlw2:=hBw2.lt
 refine zb (zt (some 6) (Instr.alloc 33 true (.tuple #[])) (vP w2.heap.size 0) (zE Rec.zero) 33 ?_)
 intro w3 hBw3 hEw3
 have hzw3:=hEw3.size;have hlw3:=hBw3.lt
 refine zd 1 [(7,(vI 0))] (zg (zc (zf (ze (zd 2 [(12,(vP w1.heap.size 0)),(11,(vI n))] (zb (zj (some 13) (Instr.loadAt 3 (vP w1.heap.size 0)) (vI b) (zo ((hBw2.ext hEw3).cell rfl)) ?_)))))))
 refine zb (zi (some 14) (zhn n b _ (by omega) (by omega) (by omega)) ?_)
 rintro _ w4 ⟨a1,rfl,hFz1_0,hEw4⟩
 have hzw4:=hEw4.size
 have hlea1:=hFz1_0.le
 refine zd 5 [(9,(vI 0)),(8,(.slice a1 (hgt n+1) (hgt n+1))),(16,(vI 0)),(15,(.slice a1 (hgt n+1) (hgt n+1))),(10,(.tuple #[(.slice a1 (hgt n+1) (hgt n+1)),(vI 0)]))] (zg (zc (zf (zf (ze (zd 1 [(17,(vI 0))] (zb (zat (some 18) (((0:Nat):Int)==((0:Nat):Int)) true (zbt (by omega)) ?_))))))))
 refine zd 2 [(20,(vP w1.heap.size 1)),(19,vT)] (zb (zj (some 21) (Instr.loadAt 24 (vP w1.heap.size 1)) (.slice a_p n_p c_p) (zo ((((hBw2.ext hEw3)).ext hEw4).cell rfl)) ?_))
 refine zd 1 [(22,(vI n_p))] (zb (zat (some 23) (((n_p:Nat):Int)==((0:Nat):Int)) false (zbW (by omega)) ?_))
 refine zd 2 [(25,(vP w1.heap.size 1)),(24,vF)] (zb (zj (some 26) (Instr.loadAt 24 (vP w1.heap.size 1)) (.slice a_p n_p c_p) (zo ((((hBw2.ext hEw3)).ext hEw4).cell rfl)) ?_))
 refine zd 3 [(29,(vI (hgt n+1))),(28,(.slice a1 (hgt n+1) (hgt n+1))),(27,(vI n_p))] (zb (zat (some 30) (decide (((n_p:Nat):Int)>((hgt n+1:Nat):Int))) false (zce (by omega)) ?_))
 refine zd 2 [(32,vF),(31,vF)] (zg (zc (zr (zy (zc (zf (zf (ze (zd 1 [(33,(vI 0))] ?_)))))))))
 refine zb (zat (some 34) (((0:Nat):Int)==((0:Nat):Int)) true (zbt (by omega)) ?_)
 refine zg (zc (zF (ze (zd 1 [(35,(vI n))] ?_))))
 have hK1:=(((((hBw1.ext hEw2)).ext hEw3)).ext hEw4)
 refine zb (zj (some 36) (Instr.loadAt 23 (vP w.heap.size 0)) (vA (zw root)) (zD (vs:=zw root) (hK1.all) (by rw [zac];kernel_rfl)) ?_)
 refine zb (zj (some 37) (Instr.loadAt 26 (vP w1.heap.size 0)) (vA [(vI b),(.slice a_p n_p c_p)]) (zD (vs:= [(vI b),(.slice a_p n_p c_p)]) ((((hBw2.ext hEw3)).ext hEw4).all)) ?_)
 refine zd 1 [(38,(.slice a1 (hgt n+1) (hgt n+1)))] ?_
 have hK2:=(((((((h_p.ext hEw1)).ext hEw2)).ext hEw3)).ext hEw4)
 have hK3:=(((((((hg0.ext hEw1)).ext hEw2)).ext hEw3)).ext hEw4)
 have hK4:=(((((((hg1.ext hEw1)).ext hEw2)).ext hEw3)).ext hEw4)
 have hK5:=(((((((hg2.ext hEw1)).ext hEw2)).ext hEw3)).ext hEw4)
 refine zb (zi (some 39) (zre n root b _ hK2 hFz1_0 (by omega) (by omega) (by omega) (by omega) (by omega) (by first | rfl | assumption) hK3 hK4 hK5) ?_)
 rintro _ w5 ⟨a2,rfl,hEw5⟩
 have hzw5:=hEw5.size
 have hK6:=(((((((((hg3.ext hEw1)).ext hEw2)).ext hEw3)).ext hEw4)).ext hEw5)
 refine zb (zi (some 40) (zml a2 (zaQ (zbB n root b p) n_p) _ hK6) ?_)
 rintro _ w6 ⟨rfl,hEw6⟩
 have hzw6:=hEw6.size
 refine zd 1 [(9,(vI (zaQ (zbB n root b p) n_p)))] (zg (zc (zf (zf (ze (zd 1 [(41,(vI (zaQ (zbB n root b p) n_p)))] (zb (zO (some 42) (((((zaQ (zbB n root b p) n_p):Nat):Int) !=((0:Nat):Int))) (fun hc42=> ?_) (fun hc42=> ?_)))))))))
 ·replace hc42:¬((zaQ (zbB n root b p) n_p)=0):=by have:=zbY hc42;omega
  refine zd 8 [(50,vT),(49,undef),(48,undef),(47,undef),(46,undef),(45,undef),(44,undef),(43,vT)] (zg (zc (zF (zf (ze (zd 2 [(52,(vI (zaQ (zbB n root b p) n_p))),(51,(vA (zE Rec.zero)))] ?_))))))
  have hK7:=(((((hBw3.ext hEw4)).ext hEw5)).ext hEw6)
  refine zb (zz 33 w2.heap.size 0 33 (vA (zE Rec.zero)) (zE Rec.zero) (zE Rec.zero) hK7 (by rw [zY];kernel_rfl) (by first |(simp;done)|(simp;omega)) (zaU _) ?_)
  have hK8:=(((((hBw3.ext hEw4)).ext hEw5)).ext hEw6)
  intro w7 hBw7 hCw7
  have hzw7:=hCw7.size
  rw [zm _ _ (by simp)] at hBw7
  refine zd 1 [(7,(vI (zaQ (zbB n root b p) n_p)))] (zg (zc (zx (zu (zas (show zab Tryz.prog 65 _ _ (.cell 6 33) (vA (zE Rec.zero)) from ⟨⟨w2.heap.size,0,none⟩,(by kernel_rfl),zP (T:=33) (vs:=zE Rec.zero) (hBw7).all (by rw [zY];kernel_rfl)⟩) (show zab Tryz.prog 65 _ _ (.tmp 7) (vI (zaQ (zbB n root b p) n_p)) by (show _=_;kernel_rfl)) ?_)))))
  have hX1:Ext w w7:=(Ext.own (((((hEw1.trans hEw2).trans hEw3).trans hEw4).trans hEw5).trans hEw6) hCw7 (by omega))
  exact ⟨by rw [hvt,zhh (by rw [hvt];exact hc42)],hX1⟩
 ·replace hc42:(zaQ (zbB n root b p) n_p)=0:=by have:=zbX hc42;omega
  refine zd 2 [(44,(vP w1.heap.size 1)),(43,vF)] ?_
  have hK9:=(((((((hBw2.ext hEw3)).ext hEw4)).ext hEw5)).ext hEw6)
  refine zb (zj (some 45) (Instr.loadAt 24 (vP w1.heap.size 1)) (.slice a_p n_p c_p) (zo (hK9.cell rfl)) ?_)
  refine zd 3 [(48,(vI (hgt n+1))),(47,(.slice a1 (hgt n+1) (hgt n+1))),(46,(vI n_p))] (zb (zO (some 49) (decide (((n_p:Nat):Int)<((hgt n+1:Nat):Int))) (fun hc49=> ?_) (fun hc49=> ?_)))
  ·replace hc49:n_p<hgt n+1:=by have:=zak hc49;omega
   refine zd 1 [(50,vT)] (zg (zc (zF (zf (ze (zd 2 [(52,(vI (zaQ (zbB n root b p) n_p))),(51,(vA (zE Rec.zero)))] ?_))))))
   have hK10:=(((((hBw3.ext hEw4)).ext hEw5)).ext hEw6)
   refine zb (zz 33 w2.heap.size 0 33 (vA (zE Rec.zero)) (zE Rec.zero) (zE Rec.zero) hK10 (by rw [zY];kernel_rfl) (by first |(simp;done)|(simp;omega)) (zaU _) ?_)
   have hK11:=(((((hBw3.ext hEw4)).ext hEw5)).ext hEw6)
   intro w8 hBw8 hCw8
   have hzw8:=hCw8.size
   rw [zm _ _ (by simp)] at hBw8
   refine zd 1 [(7,(vI (zaQ (zbB n root b p) n_p)))] (zg (zc (zx (zu (zas (show zab Tryz.prog 65 _ _ (.cell 6 33) (vA (zE Rec.zero)) from ⟨⟨w2.heap.size,0,none⟩,(by kernel_rfl),zP (T:=33) (vs:=zE Rec.zero) (hBw8).all (by rw [zY];kernel_rfl)⟩) (show zab Tryz.prog 65 _ _ (.tmp 7) (vI (zaQ (zbB n root b p) n_p)) by (show _=_;kernel_rfl)) ?_)))))
   have hX2:Ext w w8:=(Ext.own (((((hEw1.trans hEw2).trans hEw3).trans hEw4).trans hEw5).trans hEw6) hCw8 (by omega))
   exact ⟨by rw [hvt,zk7 (by omega)],hX2⟩
  ·replace hc49:¬(n_p<hgt n+1):=by have:=zal hc49;omega
   refine zd 1 [(50,vF)] (zg (zc (zr (zy (zc (zf (zag (Chg (fun k=>k=w2.heap.size) w6.drew) 14 [(54,32,0),(55,9007199254740992,1),(56,256,0),(57,36028797018963968,4),(58,72057594037927936,8),(59,32,0),(60,288230376151711744,32),(61,576460752303423488,64),(62,162129586585337856,18),(63,2305843009213693952,256),(64,5764607523034234880,640),(65,9223372036854775808,1024),(0,18446744073709551680,4095),(8,0,8191)] (fun hT248=> ?_))))))))
   have hEw9:Ext w6 w6.drew:=Ext.drew w6
   generalize w6.drew=w9 at hEw9⊢
   have hzw9:=hEw9.size
   have hX3:Chg (fun k=>k=w2.heap.size) w9 w9:=(Chg.refl (fun k=>k=w2.heap.size) w9)
   refine zk (hw:=hX3) hT248 [(0,53,(vP w1.heap.size 1))] 1 1 (zh (hw:=hX3) hT248 1 3 (some 54) (.slice a_p n_p c_p) (zl (Instr.loadAt 24 (vP w1.heap.size 1)) (fun w' hC=>zo (((hK9.ext hEw9).chg hC (fun hs=>by have h:_=_:=hs;omega)).cell rfl))) (zk (hw:=hX3) hT248 [(2,55,(.slice a1 (hgt n+1) (hgt n+1))),(3,56,(vI (hgt n+1)))] 2 15 (zh (hw:=hX3) hT248 4 31 (some 57) (vI (hgt n)) (zq .i64 (IntKind.i64.wrap (((hgt n+1:Nat):Int)-((1:Nat):Int))) (zG (by omega) (by omega) (by omega))) (zk (hw:=hX3) hT248 [(5,58,(vP w1.heap.size 0))] 1 63 (zh (hw:=hX3) hT248 6 127 (some 59) (vI b) (zl (Instr.loadAt 3 (vP w1.heap.size 0)) (fun w' hC=>zo (((hK9.ext hEw9).chg hC (fun hs=>by have h:_=_:=hs;omega)).cell rfl))) (zh (hw:=hX3) hT248 7 255 (some 60) (vI (b%4)) (zq .i64 (((b:Nat):Int).tmod ((4:Nat):Int)) (zcP _ _)) ?_))))))
   obtain ⟨b1,o1,rfl⟩:=hK2.addr (by omega) (by decide)
   refine zh (hw:=hX3) hT248 8 511 (some 61) (vP b1 (o1+(hgt n)*274)) (zl (Instr.indexAt 24 (.slice (pA b1 o1) n_p c_p) (vI (hgt n))) (fun w' hC=>zap (E:=47) (sz:=274) (by omega))) (zk (hw:=hX3) hT248 [(9,62,(vP b1 (o1+(hgt n)*274+2)))] 1 1023 (zh (hw:=hX3) hT248 10 2047 (some 63) (vP b1 (o1+(hgt n)*274+2+(b%4)*35)) (zl (Instr.indexAt 42 (vP b1 (o1+(hgt n)*274+2)) (vI (b%4))) (fun w' hC=>zX (E:=33) (sz:=35) (m:=4) (by omega))) ?_))
   have hK12:=(((((hK2.ext hEw5)).ext hEw6)).ext hEw9)
   refine zh (hw:=hX3) hT248 11 4095 (some 64) (vA (zE ((p.getD (hgt n) Nod.zero).rs.get (b%4)))) (zl (Instr.loadAt 33 (vP b1 (o1+(hgt n)*274+2+(b%4)*35))) (fun w' hC=>zD (vs:=zE ((p.getD (hgt n) Nod.zero).rs.get (b%4))) (((hK12.chg hC (fun k h1 h2 hs=>by have h:_=_:=hs;omega)).at Nod.zero (by omega)).sub2 2 _ (zE ((p.getD (hgt n) Nod.zero).rs.get (b%4))) (nod_r (by omega))) (by rw [zY];kernel_rfl))) ?_
   have hK13:=(((((((hBw3.ext hEw4)).ext hEw5)).ext hEw6)).ext hEw9)
   refine zn 12 8191 (zz 33 w2.heap.size 0 33 (vA (zE ((p.getD (hgt n) Nod.zero).rs.get (b%4)))) (zE Rec.zero) (zE ((p.getD (hgt n) Nod.zero).rs.get (b%4))) hK13 (by rw [zY];kernel_rfl) (by first |(simp;done)|(simp;omega)) (zaU _) ?_)
   have hK14:=(((((((hBw3.ext hEw4)).ext hEw5)).ext hEw6)).ext hEw9)
   intro w10 hBw10 hCw10
   have hzw10:=hCw10.size
   rw [zm _ _ (by simp)] at hBw10
   have hX4:Chg (fun k=>k=w2.heap.size) w9 w10:=(Chg.then (Chg.refl (fun k=>k=w2.heap.size) w9) hCw10 (fun k hk hs=>by have h:k=_:=hs;first | exact hs | exact .inl h | exact .inr h |(exfalso;omega)))
   refine ⟨.inr hX4, ?_⟩
   refine zk (hw:=hX4) hT248 [(13,7,(vI 0))] 1 16383 (zJ (zc (zx (zas (show zab Tryz.prog 65 _ _ (.cell 6 33) (vA (zE ((p.getD (hgt n) Nod.zero).rs.get (b%4)))) from ⟨⟨w2.heap.size,0,none⟩,(by kernel_rfl),zP (T:=33) (vs:=zE ((p.getD (hgt n) Nod.zero).rs.get (b%4))) (hBw10).all (by rw [zY];kernel_rfl)⟩) (show zab Tryz.prog 65 _ _ (.tmp 7) (vI 0) by (show _=_;kernel_rfl)) ?_))))
   have hX5:Ext w w10:=(Ext.own ((((((hEw1.trans hEw2).trans hEw3).trans hEw4).trans hEw5).trans hEw6).trans hEw9) hCw10 (by omega))
   have hv0:zbu (n:Int) root (b:Int) p=0:=by rw [hvt];exact hc42
   exact ⟨by rw [hv0,zns hv0 (by omega)],hX5⟩
theorem zcN (n:Int) (root:Dig) (b:Int) {lo_p hi_p:Nat} {a_p:Option Addr} {n_p c_p:Nat} {p:List Nod} (w:World) (h_p:Ms zK 274 lo_p hi_p w a_p n_p c_p p) (hg0:Gl 0 [vI 45,vI 33] w) (hg1:Gl 2 (w8C za2) w) (hg2:Gl 3 (zR kA) w) (hg3:Gl 1 [.iface 199 (.agg #[.pointer (some ⟨4,99,none⟩)])] w):
  Calls Tryz.prog 12 #[(.int .i64 n),(vA (zw root)),(vA [(.int .i64 b),(.slice a_p n_p c_p)])] w (Ret fun r w'=>r=(.tuple #[(vA (zE (zbs n root b p))),(vI (zbu n root b p))])∧Ext w w'):=by
 have hlp:=h_p.len_eq
 by_cases h:1≤n∧n≤4096∧0≤b∧b<n
 ·obtain ⟨n,rfl⟩:=Int.eq_ofNat_of_zero_le (show 0≤n by omega)
  obtain ⟨b,rfl⟩:=Int.eq_ofNat_of_zero_le (show 0≤b by omega)
  by_cases h2:1≤n_p∧n_p≤hgt n+1
  ·exact zqe n root b w h_p (by omega) (by omega) (by omega) h2.1 h2.2 hg0 hg1 hg2 hg3
  have hv:zbu (n:Int) root (b:Int) p=1:=zeF (fun hh=>h2 ⟨by have:=hh.2.2.2.2.1;omega,by have:=hh.2.2.2.2.2;rw [Int.toNat_natCast] at this;omega⟩)
  rw [hv,zhh (by rw [hv];decide)]
  by_cases h3:n_p=0
  ·exact zpP n root b w h_p (by omega) (by omega) (by omega) h3
  ·exact zoX n root b w h_p (by omega) (by omega) (by omega) (by omega)
 ·have hv:zbu n root b p=1:=zeF (fun hh=>h ⟨hh.1,hh.2.1,hh.2.2.1,hh.2.2.2.1⟩)
  rw [hv,zhh (by rw [hv];decide)]
  exact zrh n root b w h_p h
end Go.Proofs.YtgdpdnokcnhgnaaGreatDoor
namespace Go.Proofs.YtgdpdnokcnhgnaaGreatDoor
open Go Go.RowKit Go.Cs
set_option maxRecDepth 100000
end Go.Proofs.YtgdpdnokcnhgnaaGreatDoor
namespace Go.Proofs.YtgdpdnokcnhgnaaGreatDoor
open Go Go.RowKit Go.Cs
set_option maxRecDepth 100000
theorem znP (p:Nat) (w:World) (hp0:p≤1):
  Calls Tryz.prog 54 #[(vI p)] w (Ret fun r w'=>r=(.tuple #[(vB (p+1)),(vI 0)])∧Ext w w'):=by
 refine zL (n:=13) (σ:= [(0,(vI p))]) Tryz.func54 rfl ?_
 refine zf (ze (zd 2 [(3,(vI 0)),(2,(vB 0))] (zg (zc (zf (zf (ze (zd 1 [(4,(vI p))] (zb (zO (some 5) ((((p:Nat):Int) !=((0:Nat):Int))) (fun hc5=> ?_) (fun hc5=> ?_)))))))))))
 ·replace hc5:¬(p=0):=by have:=zbY hc5;omega
  refine zd 2 [(7,(vI p)),(6,vT)] (zb (zat (some 8) (((p:Nat):Int) !=((1:Nat):Int)) false (zaL (by omega)) ?_))
  refine zd 1 [(9,vF)] (zg (zc (zr (zy (zc (zf (ze (zd 1 [(10,(vI p))] (zb (zv (some 11) .u8 (IntKind.u8.wrap ((p:Nat):Int)) p (zba rfl rfl (by show _<2^8;omega)) ?_))))))))))
  refine zb (zv (some 12) .u8 (IntKind.u8.wrap (((p:Nat):Int)+((1:Nat):Int))) (p+1) (zba rfl rfl (by show _<2^8;omega)) ?_)
  exact zd 2 [(3,(vI 0)),(2,(vB (p+1)))] (zg (zc (zx (zB (.tuple #[(vB (p+1)),(vI 0)]) (⟨rfl,(Ext.refl _)⟩)))))
 ·replace hc5:p=0:=by have:=zbX hc5;omega
  refine zd 4 [(9,vF),(8,undef),(7,undef),(6,vF)] (zg (zc (zr (zy (zc (zf (ze (zd 1 [(10,(vI p))] (zb (zv (some 11) .u8 (IntKind.u8.wrap ((p:Nat):Int)) p (zba rfl rfl (by show _<2^8;omega)) ?_))))))))))
  refine zb (zv (some 12) .u8 (IntKind.u8.wrap (((p:Nat):Int)+((1:Nat):Int))) (p+1) (zba rfl rfl (by show _<2^8;omega)) ?_)
  exact zd 2 [(3,(vI 0)),(2,(vB (p+1)))] (zg (zc (zx (zB (.tuple #[(vB (p+1)),(vI 0)]) (⟨rfl,(Ext.refl _)⟩)))))
theorem zqy (x:Int) (w:World) (hp0:x=0∨x=1):
  Calls Tryz.prog 46 #[(.int .i64 x)] w (Ret fun r w'=>r=vF∧Ext w w'):=by
 refine zL (n:=9) (σ:= [(0,(.int .i64 x))]) Tryz.func46 rfl ?_
 refine zf (ze (zd 1 [(2,vF)] (zg (zc (zf (ze (zd 1 [(3,(.int .i64 x))] (zb (zO (some 4) ((x !=((0:Nat):Int))) (fun hc4=> ?_) (fun hc4=> ?_))))))))))
 ·replace hc4:¬(x=((0:Nat):Int)):=by have:=zbY hc4;omega
  refine zd 2 [(6,(.int .i64 x)),(5,vT)] (zb (zat (some 7) (x !=((1:Nat):Int)) false (zaL (by omega)) ?_))
  exact zd 2 [(2,vF),(8,vF)] (zg (zc (zx (zB vF (⟨rfl,(Ext.refl _)⟩)))))
 ·replace hc4:x=((0:Nat):Int):=by have:=zbX hc4;omega
  exact zd 5 [(2,vF),(8,vF),(7,undef),(6,undef),(5,vF)] (zg (zc (zx (zB vF (⟨rfl,(Ext.refl _)⟩)))))
theorem zqH {lo_z hi_z:Nat} {a_z:Option Addr} {n_z c_z:Nat} {z:List Int} (w:World) (h_z:Es (iv .i64) lo_z hi_z w a_z n_z c_z z) (hp0:∀i,z.getD i 0=0∨z.getD i 0=1):
  Calls Tryz.prog 72 #[(.slice a_z n_z c_z),(.func (.func 46) #[] #[])] w (Ret fun r w'=>r=(.int .i64 (-1))∧Ext w w'):=by
 refine zL (n:=19) (σ:= [(0,(.slice a_z n_z c_z)),(1,(.func (.func 46) #[] #[]))]) Tryz.func72 rfl ?_
 replace h_z:=h_z.now;have hle_z:=h_z.le
 have hlz:=h_z.len_eq
 refine zf (ze (zd 1 [(4,(vI 0))] (zg (zc (zf (zf (ze (zd 3 [(8,(vI 0)),(7,(vI n_z)),(6,(.slice a_z n_z c_z))] (zg ?_)))))))))
 refine zc (zI (zah (X:=Nat) (fun k=> [(8,(vI k))]) [4,5,9,10,11,12,13,14,15,16,17,18] (fun k w1=>k≤n_z∧Ext w w1) (fun k=>n_z-k) 0 (by kernel_rfl) ⟨Nat.zero_le _,(Ext.refl _)⟩ ?_))
 rintro k dw1 w1 ⟨hk,hEl⟩
 have hzl:=hEl.size
 refine zf (ze (zb (zO (some 9) (decide (((k:Nat):Int)<((n_z:Nat):Int))) (fun hc9=> ?_) (fun hc9=> ?_))))
 ·replace hc9:k<n_z:=by have:=zak hc9;omega
  refine zg (zc (zf (zF (zy (zc (zf (zI (zf (ze ?_)))))))))
  refine zd 2 [(5,(vI k)),(10,(vI k))] (zg (zc (zf (ze (zd 3 [(13,(vI k)),(12,(.slice a_z n_z c_z)),(11,(.func (.func 46) #[] #[]))] ?_)))))
  obtain ⟨b1,o1,rfl⟩:=h_z.addr (by omega)
  refine zb (zj (some 14) (Instr.indexAt 40 (.slice (pA b1 o1) n_z c_z) (vI k)) (vP b1 (o1+k*1)) (zap (E:=3) (sz:=1) (by omega)) ?_)
  refine zb (zj (some 15) (Instr.loadAt 3 (vP b1 (o1+k*1))) (.int .i64 (gz z k)) (zo ((h_z.ext hEl).celli (by omega))) ?_)
  refine zb (zi (some 16) (zqy (gz z k) _ (hp0 k)) ?_)
  rintro _ w2 ⟨rfl,hEw2⟩
  have hzw2:=hEw2.size
  refine zg (zc (zr (zy (zp (zc (ze (zb (zv (some 18) .i64 (IntKind.i64.wrap (((k:Nat):Int)+((1:Nat):Int))) (k+1) (zG (by omega) (by omega) (by omega)) ?_))))))))
  refine zd 1 [(8,(vI (k+1)))] (zg (zC (zS (k+1) ?_ ?_)))
  ·exact ⟨by omega,(hEl.trans hEw2)⟩
  ·first | omega |(dsimp only;omega)
 ·replace hc9:¬(k<n_z):=by have:=zal hc9;omega
  refine zg (zc (zf (zr (zaf (zH (zH (zT (zc (zf ?_)))))))))
  exact ze (zd 1 [(4,(.int .i64 (-1)))] (zg (zc (zx (zB (.int .i64 (-1)) (⟨rfl,hEl⟩))))))
theorem zqg {lo_z hi_z:Nat} {a_z:Option Addr} {n_z c_z:Nat} {z:List Int} (w:World) (h_z:Es (iv .i64) lo_z hi_z w a_z n_z c_z z) (hp0:∀i,z.getD i 0=0∨z.getD i 0=1):
  Calls Tryz.prog 48 #[(.slice a_z n_z c_z),(.func (.func 46) #[] #[])] w (Ret fun r w'=>r=vF∧Ext w w'):=by
 refine zL (n:=9) (σ:= [(0,(.slice a_z n_z c_z)),(1,(.func (.func 46) #[] #[]))]) Tryz.func48 rfl ?_
 replace h_z:=h_z.now;have hle_z:=h_z.le
 refine zf (ze (zd 1 [(4,vF)] (zg (zc (zf (ze (zd 2 [(6,(.func (.func 46) #[] #[])),(5,(.slice a_z n_z c_z))] (zb (zi (some 7) (zqH _ h_z (by assumption)) ?_)))))))))
 rintro _ w1 ⟨rfl,hEw1⟩
 have hzw1:=hEw1.size
 refine zb (zat (some 8) (decide (-1≥((0:Nat):Int))) false (zce (by omega)) ?_)
 exact zd 1 [(4,vF)] (zg (zc (zx (zB vF (⟨rfl,hEw1⟩)))))
end Go.Proofs.YtgdpdnokcnhgnaaGreatDoor
