/- Lemmas and walks: what each function does, by its own code. No condition beyond those of each statement. -/
import Derived.Test.YtkmhgepdhilllaaGreatDoorK2
import Derived.ProofKit
import Derived.OpenShut
import Derived.ChangeOld
import Derived.Deep.Slices
import Derived.LaidMore
import Derived.Stop.Joined
set_option linter.all false
set_option linter.unusedVariables false
namespace Go.Proofs.YtkmhgepdhilllaaGreatDoor
open Go Go.RowKit Go.Cs
set_option maxRecDepth 100000
theorem zcb (k:Nat) (w:World) (hp0:k<256):
  Calls Tryz.prog 20 #[(vB k)] w (Ret fun r w'=>r=(vA (zbf (za2 k)))∧Ext w w'):=by
 refine zD (n:=9) (σ:= [(0,(vB k))]) Tryz.func20 rfl ?_
 refine ze (zd (za (zaf (zbf Non.zero) 56 ?_)))
 intro w1 hBw1 hEw1 hzw1 hlw1
 refine zf (zb (ze (zd (zc 1 [(3,(vB k))] (za (zo (some 4) .u8 (((k:Nat):Int).tmod ((4:Nat):Int)) (k%256%4) ((zcZ _ _).trans (by rw [Nat.mod_eq_of_lt hp0])) ?_))))))
 refine za (zo (some 5) .u32 (IntKind.u32.wrap ((k%256%4:Nat):Int)) (k%256%4) (zbz rfl rfl (by show _<2^32;omega)) ?_)
 refine zc 1 [(6,(vB k))] (za (zo (some 7) .u64 (IntKind.u64.wrap ((k:Nat):Int)) (k%256) (zbz rfl (by rw [Nat.mod_eq_of_lt hp0]) (by show _<2^64;omega)) ?_))
 refine zc 1 [(8,(vA (zbf (za2 k))))] (za (zG 56 w.heap.size 0 56 (vA (zbf (za2 k))) (zbf Non.zero) (zbf (za2 k)) hBw1 (by rw [ze6];kernel_rfl) (by first |(simp;done)|(simp;omega)) (zq9 _) ?_))
 intro w2 hBw2 hCw2
 have hzw2:=hCw2.size
 rw [zy _ _ (by simp)] at hBw2
 exact zf (zb (zj (zaJ (show zX Tryz.prog 9 _ _ (.cell 2 56) (vA (zbf (za2 k))) from ⟨⟨w.heap.size,0,none⟩,(by kernel_rfl),zI (T:=56) (vs:=zbf (za2 k)) (hBw2).all (by rw [ze6];kernel_rfl)⟩) (⟨rfl,(Ext.own hEw1 hCw2 (by omega))⟩))))
set_option maxHeartbeats 4000000 in
theorem zzk (k:Nat) {lo_p hi_p:Nat} {a_p:Option Addr} {n_p c_p:Nat} {p:List (UInt8×UInt8)} {lo_s hi_s:Nat} {a_s:Option Addr} {n_s c_s:Nat} {s:List UInt8} {lo_q hi_q:Nat} {a_q:Option Addr} {n_q c_q:Nat} {q:List (UInt8×UInt8)} (w:World) (h_p:Ms b2C 2 lo_p hi_p w a_p n_p c_p p) (h_s:Bs lo_s hi_s w a_s n_s c_s s) (h_q:Ms b2C 2 lo_q hi_q w a_q n_q c_q q) (hp0:k<256):
  Calls Tryz.prog 25 #[(vA [(vB k),(.slice a_p n_p c_p),(.slice a_s n_s c_s),(.slice a_q n_q c_q)])] w (Ret fun r w'=>∃(a0L:List Rec) (a0C:List Bool) (a0S:List Nat) (a0a:Option Addr) (a0b:Nat) (a0c:Option Addr) (a0d:Nat) (a0e:Option Addr) (a0f:Nat),r=(vA [(.slice a0a (zt k) a0b),(.slice a0c (zt k) a0d),(.slice a0e (tot (zt k)) a0f)])∧OkW a0L a0C a0S∧a0L.length=(zt k)∧Ms zM 35 w.heap.size w'.heap.size w' a0a (zt k) a0b a0L∧Es Value.bool w.heap.size w'.heap.size w' a0c (zt k) a0d a0C∧Es (nv .i64) w.heap.size w'.heap.size w' a0e (tot (zt k)) a0f a0S∧Ext w w'):=by
 refine zD (n:=63) (σ:= [(0,(vA [(vB k),(.slice a_p n_p c_p),(.slice a_s n_s c_s),(.slice a_q n_q c_q)]))]) Tryz.func25 rfl ?_
 replace h_p:=h_p.now;have hle_p:=h_p.le
 replace h_s:=h_s.now;have hle_s:=h_s.le
 replace h_q:=h_q.now;have hle_q:=h_q.le
 have hbk:=zgJ k
 have hOM:=zrb p s k
 have hts:=zaB (n:=zt k) (by omega)
 have htp:=zcF (n:=zt k) (by omega) (by omega)
 have hlp:=h_p.len_eq;have hls:=h_s.len_eq;have hlq:=h_q.len_eq
 have hleq:=h_q.le
 refine ze (zd (za (zaa (Instr.box 27 (vA [(vB k),(.slice a_p n_p c_p),(.slice a_s n_s c_s),(.slice a_q n_q c_q)])) (vP w.heap.size 0) ([(vB k),(.slice a_p n_p c_p),(.slice a_s n_s c_s),(.slice a_q n_q c_q)]) 27 ?_)))
 intro w1 hBw1 hEw1 hzw1 hlw1
 refine za (zaf ([(.slice none 0 0),(.slice none 0 0),(.slice none 0 0)]) 34 ?_)
 intro w2 hBw2 hEw2 hzw2 hlw2
 refine zf (zb (ze (zd (zc 1 [(8,(vP w.heap.size 0))] (za (zO w.heap.size 0 ((hBw1.ext hEw2).at 0 [(vB k),(.slice a_p n_p c_p),(.slice a_s n_s c_s)] rfl) ?_))))))
 refine za (zp (zrg k _ ((h_p.ext hEw1).ext hEw2) ((h_s.ext hEw1).ext hEw2) (by omega)) ?_)
 rintro _ w3 ⟨a1,ca1,a2,ca2,rfl,hFz1_0,hFz1_1,hEw3⟩
 have hzw3:=hEw3.size
 have hma1:=hFz1_0.ms;have hlea1:=hma1.le
 have hlea2:=hFz1_1.le
 refine zc 5 [(4,(.slice a2 (tot (zt k)) ca2)),(3,(.slice a1 (zt k) ca1)),(12,(.slice a2 (tot (zt k)) ca2)),(11,(.slice a1 (zt k) ca1)),(7,(.tuple #[(.slice a1 (zt k) ca1),(.slice a2 (tot (zt k)) ca2)]))] (zf (zb (ze (zd (zc 2 [(14,(.slice a2 (tot (zt k)) ca2)),(13,(.slice a1 (zt k) ca1))] (za (zp (zhj _ hma1 hFz1_1 (by first | omega | decide) (by first | omega | decide)) ?_)))))))
 rintro _ w4 ⟨a3a,a3c,a3b,a3d,a3e,a3p,a3q,a3r,a3s,rfl,hFz2_0,hFz2_1,hFz2_2,hFz2_3,hEw4⟩
 have hzw4:=hEw4.size
 have hma3:=hFz2_1.ms;have hlea3:=hma3.le;have hla3:=hFz2_2.lt;have hna3:=hFz2_3.es;have hle2a3:=hna3.le
 have hba3:Es Value.bool a3b (a3b+1) w4 (pA a3b 0) (zt k) (zt k) (fls (zt k)):=Es.of_blk hFz2_2 rfl (by simp [fls]) (Nat.le_refl _) (by simp only [maxLen];omega) (Nat.le_refl _) (Nat.lt_succ_self _)
 refine zal ([(.slice a3a (zt k) a3c),(.slice (pA a3b 0) (zt k) (zt k)),(.slice a3d (tot (zt k)) a3e)]) 34 rfl (by simp [Value.oneCell']) ?_
 intro w5 hBw5 hEw5 hzw5 hlw5
 refine zf (zb (ze (ze (zd (zc 1 [(6,(vI 0))] (zf (zb (zr ?_))))))))
 refine zU (X:=Nat×List Rec×List Bool×List Nat×Option Addr×Nat×Option Addr×Nat×Option Addr×Nat) (fun ⟨i,L,cc,S,au1,cu1,au2,cu2,au3,cu3⟩=> [(6,(vI i))]) [16,17,18,19,20,21,22,23,24,25,26,27,28,29,30,31,32,33,34,35,36,37,38,39,40,41,42,43,44,45,46,47,48,49,50,51,52,53,54,55,56,57,58,59,60,61] (fun ⟨i,L,cc,S,au1,cu1,au2,cu2,au3,cu3⟩ w6=>i≤n_q∧OkW L cc S∧L.length=zt k∧(∃lo hi,Ms zM 35 lo hi w6 au1 (zt k) cu1 L∧w.heap.size≤lo∧¬(lo≤w4.heap.size∧w4.heap.size<hi)∧¬(lo≤w1.heap.size∧w1.heap.size<hi))∧(∃lo hi,Es Value.bool lo hi w6 au2 (zt k) cu2 cc∧w.heap.size≤lo∧¬(lo≤w4.heap.size∧w4.heap.size<hi)∧¬(lo≤w1.heap.size∧w1.heap.size<hi))∧(∃lo hi,Es (nv .i64) lo hi w6 au3 (tot (zt k)) cu3 S∧w.heap.size≤lo∧¬(lo≤w4.heap.size∧w4.heap.size<hi)∧¬(lo≤w1.heap.size∧w1.heap.size<hi))∧Blk w6 w4.heap.size ([(.slice au1 (zt k) cu1),(.slice au2 (zt k) cu2),(.slice au3 (tot (zt k)) cu3)]) 34∧Chg (fun k=>k=w4.heap.size) w5 w6) (fun ⟨i,L,cc,S,au1,cu1,au2,cu2,au3,cu3⟩=>n_q-i) (0,zeu p (zt k),fls (zt k),zdz s (tot (zt k)),a3a,a3c,(pA a3b 0),(zt k),a3d,a3e) (by kernel_rfl) ⟨Nat.zero_le _,zjS,zdn _ _,⟨a3p,a3q,(hma3.ext hEw5),by omega,by omega,by omega⟩,⟨a3b,(a3b+1),(hba3.ext hEw5),by omega,by omega,by omega⟩,⟨a3r,a3s,(hna3.ext hEw5),by omega,by omega,by omega⟩,hBw5,Chg.refl _ _⟩ ?_
 rintro ⟨i,L,cc,S,au1,cu1,au2,cu2,au3,cu3⟩ dw6 w6 ⟨hi,hOK,hLL,⟨lo1,hi1,hM1,hn1,hn1x,hn1xx⟩,⟨lo2,hi2,hM2,hn2,hn2x,hn2xx⟩,⟨lo3,hi3,hM3,hn3,hn3x,hn3xx⟩,hBU,hEl⟩
 have hzl:=hEl.size;have hl5:=hBU.lt
 have hlM:=hM1.len_eq;have hleM:=hM1.le;have hleM2:=hM2.le;have hleM3:=hM3.le;have hlM2:=hM2.len_eq;have hlM3:=hM3.len_eq
 have hx1:=(q.getD i (0,0)).1.toNat_lt;have hx2:=(q.getD i (0,0)).2.toNat_lt
 refine ze (ze (zd (zc 2 [(17,(vP w.heap.size 3)),(16,(vI i))] ?_)))
 have hK1:=(((((hBw1.ext hEw2).ext hEw3).ext hEw4).ext hEw5).chg hEl)
 refine za (zm w.heap.size 3 (hK1.cell rfl) ?_)
 refine zc 1 [(19,(vI n_q))] (za (zF (some 20) (decide (((i:Nat):Int)<((n_q:Nat):Int))) (fun hc20=> ?_) (fun hc20=> ?_)))
 ·replace hc20:i<n_q:=by have:=zac hc20;omega
  refine zc 2 [(22,(vI i)),(21,vT)] (za (zF (some 23) (decide (((i:Nat):Int)<((20:Nat):Int))) (fun hc23=> ?_) (fun hc23=> ?_)))
  ·replace hc23:i<20:=by have:=zac hc23;omega
   refine zc 1 [(24,vT)] (zf (zb (zv (zk (zb (ze (zr (ze (zd ?_)))))))))
   refine zc 1 [(27,(vP w.heap.size 3))] (za (zm w.heap.size 3 (hK1.cell rfl) ?_))
   refine zc 1 [(29,(vI i))] ?_
   obtain ⟨b1,o1,rfl⟩:=h_q.addr (by omega) (by decide)
   refine za (zah b1 o1 n_q c_q i 2 ?_)
   refine za (zbg b1 (o1+i*2) 0 2 1 ?_)
   have hK2:=((((((h_q.ext hEw1).ext hEw2).ext hEw3).ext hEw4).ext hEw5).chg hEl)
   refine za (zm b1 (o1+i*2) (hK2.cell (j:=0) (0,0) (by omega) rfl) ?_)
   refine za (zF (some 33) (decide ((((q.getD i (0,0)).1.toNat:Nat):Int)≥((250:Nat):Int))) (fun hc33=> ?_) (fun hc33=> ?_))
   ·replace hc33:(q.getD i (0,0)).1.toNat≥250:=by have:=zac hc33;omega
    refine zf (zb (zv (zd (za (zO w4.heap.size 0 (hBU.all) ?_)))))
    refine za (zp (ztb _ hM1 hM2 hM3 (by first | omega | decide) (by first | omega | decide) (by first | omega | decide) (by first | omega | decide) (hOK.m.sl)) ?_)
    rintro _ w7 ⟨a4,ca4,a5,ca5,a6,ca6,rfl,hFz3_0,hFz3_1,hFz3_2,hEw7⟩
    have hzw7:=hEw7.size
    have hlea4:=hFz3_0.le
    have hlea5:=hFz3_1.le
    have hlea6:=hFz3_2.le
    refine za (zG 34 w4.heap.size 0 34 (vA [(.slice a4 (zt k) ca4),(.slice a5 (zt k) ca5),(.slice a6 (tot (zt k)) ca6)]) ([(.slice au1 (zt k) cu1),(.slice au2 (zt k) cu2),(.slice au3 (tot (zt k)) cu3)]) ([(.slice a4 (zt k) ca4),(.slice a5 (zt k) ca5),(.slice a6 (tot (zt k)) ca6)]) (hBU.ext hEw7) (by kernel_rfl) (by first | decide |(simp;done)|(simp;omega)) (by simp [Value.oneCell']) ?_)
    intro w8 hBw8 hCw8
    have hzw8:=hCw8.size
    rw [zy _ _ (by kernel_rfl)] at hBw8
    refine zf (zi (zb (zd (zc 1 [(25,(vI i))] (za (zo (some 26) .i64 (IntKind.i64.wrap (((i:Nat):Int)+((1:Nat):Int))) (i+1) (zu) ?_))))))
    refine zc 1 [(6,(vI (i+1)))] (zf (zz (zL (i+1,L,fls (zt k),zcT (zt k) cc S,a4,ca4,a5,ca5,a6,ca6) ?_ ?_)))
    ·exact ⟨by omega,by have hz:=hOK.pubW;rw [hLL] at hz;exact hz,hLL,⟨w6.heap.size,w7.heap.size,(hFz3_0.chg hCw8),by omega,by omega,by omega⟩,⟨w6.heap.size,w7.heap.size,(hFz3_1.chg hCw8),by omega,by omega,by omega⟩,⟨w6.heap.size,w7.heap.size,(hFz3_2.chg hCw8),by omega,by omega,by omega⟩,hBw8,(Chg.then ((Chg.then (Chg.refl (fun k=>k=w4.heap.size) w5) hEl (fun k hk hs=>by have h:k=_:=hs;first | exact hs | exact .inl h | exact .inr h |(exfalso;omega))).trans hEw7.chg) hCw8 (fun k hk hs=>by have h:k=_:=hs;first | exact hs | exact .inl h | exact .inr h |(exfalso;omega)))⟩
    ·first | omega |(dsimp only;omega)
   ·replace hc33:¬((q.getD i (0,0)).1.toNat≥250):=by have:=zad hc33;omega
    refine zf (zb (zh (zab 27 (fun w9 hEw9 hzw9 hT181=> ?_))))
    refine zaO hT181 0 w4.heap.size 0 (fun w' hC=>(((hBU.ext hEw9).ext hC).all)) (zg hT181 [(1,37,(vP w.heap.size 3))] 1 (zA hT181 2 w.heap.size 3 (fun w' hC=>(((hK1.ext hEw9).ext hC).cell rfl)) (zg hT181 [(3,39,(vI i))] 1 (zas hT181 4 b1 o1 n_q c_q i 2 (zaP hT181 5 b1 (o1+i*2) 0 2 1 (zA hT181 6 b1 (o1+i*2) (fun w' hC=>(((hK2.ext hEw9).ext hC).cell (j:=0) (0,0) (by omega) rfl)) (zn hT181 7 (vI ((q.getD i (0,0)).1.toNat)) (zY .i64 (IntKind.i64.wrap (((q.getD i (0,0)).1.toNat:Nat):Int)) (zu rfl)) (zg hT181 [(8,44,(.slice a1 (zt k) ca1)),(9,45,(vI (zt k)))] 2 ?_))))))))
    have hbi:(q.getD i (0,0)).1.toNat%zt k<zt k:=Nat.mod_lt _ (by omega)
    have hst2:=hOK.st2 (b:=(q.getD i (0,0)).1.toNat%zt k) (by rw [hLL];exact hbi)
    refine zn hT181 10 (vI (((q.getD i (0,0)).1.toNat)%(zt k))) (zag (bo .rem 3 (.tmp 43) (.tmp 45) (vI ((q.getD i (0,0)).1.toNat)) (vI (zt k))) (fun w' hC=>zrY (by omega))) (zg hT181 [(11,47,(vP w.heap.size 3))] 1 (zA hT181 12 w.heap.size 3 (fun w' hC=>(((hK1.ext hEw9).ext hC).cell rfl)) (zg hT181 [(13,49,(vI i))] 1 (zas hT181 14 b1 o1 n_q c_q i 2 (zaP hT181 15 b1 (o1+i*2) 1 2 1 (zA hT181 16 b1 (o1+i*2+1) (fun w' hC=>(((hK2.ext hEw9).ext hC).cell (j:=1) (0,0) (by omega) rfl)) (zg hT181 [(18,54,(vP w.heap.size 3))] 1 (zA hT181 19 w.heap.size 3 (fun w' hC=>(((hK1.ext hEw9).ext hC).cell rfl)) (zg hT181 [(20,56,(vI i))] 1 ?_)))))))))
    refine zas hT181 21 b1 o1 n_q c_q i 2 (zaP hT181 22 b1 (o1+i*2) 1 2 1 (zA hT181 23 b1 (o1+i*2+1) (fun w' hC=>(((hK2.ext hEw9).ext hC).cell (j:=1) (0,0) (by omega) rfl)) (zx 17 (zp (zcb ((q.getD i (0,0)).2.toNat) _ (by first | omega | decide | exact UInt8.toNat_lt _)) ?_))))
    rintro _ w10 ⟨rfl,hEw10⟩
    have hzw10:=hEw10.size
    refine ⟨.inr hEw10, ?_⟩
    refine zx 24 (zp (zgI ((q.getD i (0,0)).2.toNat) _ (by omega)) ?_)
    rintro _ w11 ⟨rfl,hEw11⟩
    have hzw11:=hEw11.size
    have hX1:Ext w9 w11:=(hEw10.trans hEw11)
    refine ⟨.inr hX1, ?_⟩
    have hK3:=(((hM1.ext hEw9).ext hEw10).ext hEw11)
    have hK4:=(((hM2.ext hEw9).ext hEw10).ext hEw11)
    have hK5:=(((hM3.ext hEw9).ext hEw10).ext hEw11)
    refine zx 25 (zp (zs1 (((q.getD i (0,0)).1.toNat)%(zt k)) (za2 ((q.getD i (0,0)).2.toNat)) (mkD ((q.getD i (0,0)).2.toNat)) _ hK3 hK4 hK5 (by omega) (by omega) (hst2) (by omega) (by omega)) ?_)
    rintro _ w12 ⟨a7,ca7,a8,ca8,a9,ca9,rfl,hFz6_0,hFz6_1,hFz6_2,hEw12⟩
    have hzw12:=hEw12.size
    have hlea7:=hFz6_0.le
    have hlea8:=hFz6_1.le
    have hlea9:=hFz6_2.le
    have hX2:Ext w9 w12:=((hEw10.trans hEw11).trans hEw12)
    refine ⟨.inr hX2, ?_⟩
    have hK6:=((((hBU.ext hEw9).ext hEw10).ext hEw11).ext hEw12)
    refine zx 26 (zG 34 w4.heap.size 0 34 (vA [(.slice a7 (zt k) ca7),(.slice a8 (zt k) ca8),(.slice a9 (tot (zt k)) ca9)]) ([(.slice au1 (zt k) cu1),(.slice au2 (zt k) cu2),(.slice au3 (tot (zt k)) cu3)]) ([(.slice a7 (zt k) ca7),(.slice a8 (zt k) ca8),(.slice a9 (tot (zt k)) ca9)]) hK6 (by kernel_rfl) (by first | decide |(simp;done)|(simp;omega)) (by simp [Value.oneCell']) ?_)
    have hK7:=((((hBU.ext hEw9).ext hEw10).ext hEw11).ext hEw12)
    intro w13 hBw13 hCw13
    have hzw13:=hCw13.size
    rw [zy _ _ (by kernel_rfl)] at hBw13
    refine ⟨.inl (by kernel_rfl), ?_⟩
    refine zE (zi (zb (zd (zc 1 [(25,(vI i))] (za (zo (some 26) .i64 (IntKind.i64.wrap (((i:Nat):Int)+((1:Nat):Int))) (i+1) (zu) ?_))))))
    refine zc 1 [(6,(vI (i+1)))] (zf (zz (zL (i+1,L.set (((q.getD i (0,0)).1.toNat)%(zt k)) (zaH L cc (((q.getD i (0,0)).1.toNat)%(zt k)) (za2 ((q.getD i (0,0)).2.toNat)) (mkD ((q.getD i (0,0)).2.toNat))),cc.set (((q.getD i (0,0)).1.toNat)%(zt k)) true,S,a7,ca7,a8,ca8,a9,ca9) ?_ ?_)))
    ·exact ⟨by omega,hOK.set (by rw [hLL];omega),by rw [List.length_set];exact hLL,⟨w11.heap.size,w12.heap.size,(hFz6_0.chg hCw13),by omega,by omega,by omega⟩,⟨w11.heap.size,w12.heap.size,(hFz6_1.chg hCw13),by omega,by omega,by omega⟩,⟨w11.heap.size,w12.heap.size,(hFz6_2.chg hCw13),by omega,by omega,by omega⟩,hBw13,(Chg.then (((((Chg.then (Chg.refl (fun k=>k=w4.heap.size) w5) hEl (fun k hk hs=>by have h:k=_:=hs;first | exact hs | exact .inl h | exact .inr h |(exfalso;omega))).trans hEw9.chg).trans hEw10.chg).trans hEw11.chg).trans hEw12.chg) hCw13 (fun k hk hs=>by have h:k=_:=hs;first | exact hs | exact .inl h | exact .inr h |(exfalso;omega)))⟩
    ·first | omega |(dsimp only;omega)
  ·replace hc23:¬(i<20):=by have:=zad hc23;omega
   refine zc 1 [(24,vF)] (zf (zb (zh (zP (zq (zq (zH (zb (ze ?_)))))))))
   refine zd (za (zO w4.heap.size 0 (hBU.all) ?_))
   have hK8:=((((hBw2.ext hEw3).ext hEw4).ext hEw5).chg hEl)
   refine za (zG 34 w1.heap.size 0 34 (vA [(.slice au1 (zt k) cu1),(.slice au2 (zt k) cu2),(.slice au3 (tot (zt k)) cu3)]) ([(.slice none 0 0),(.slice none 0 0),(.slice none 0 0)]) ([(.slice au1 (zt k) cu1),(.slice au2 (zt k) cu2),(.slice au3 (tot (zt k)) cu3)]) hK8 (by kernel_rfl) (by first | decide |(simp;done)|(simp;omega)) (by simp [Value.oneCell']) ?_)
   have hK9:=((((hBw2.ext hEw3).ext hEw4).ext hEw5).chg hEl)
   intro w14 hBw14 hCw14
   have hzw14:=hCw14.size
   rw [zy _ _ (by kernel_rfl)] at hBw14
   refine zf (zb (zj (zaJ (show zX Tryz.prog 63 _ _ (.cell 2 34) (vA [(.slice au1 (zt k) cu1),(.slice au2 (zt k) cu2),(.slice au3 (tot (zt k)) cu3)]) from ⟨⟨w1.heap.size,0,none⟩,(by kernel_rfl),zI (T:=34) (vs:= [(.slice au1 (zt k) cu1),(.slice au2 (zt k) cu2),(.slice au3 (tot (zt k)) cu3)]) (hBw14).all (by kernel_rfl)⟩) ?_)))
   have hX3:Ext w w14:=(Ext.own (Ext.own ((((hEw1.trans hEw2).trans hEw3).trans hEw4).trans hEw5) hEl (by omega)) hCw14 (by omega))
   exact ⟨L,cc,S,_,_,_,_,_,_,rfl,hOK,hLL,((hM1.chg hCw14)).now.mono (by omega) (Nat.le_refl _),((hM2.chg hCw14)).now.mono (by omega) (Nat.le_refl _),((hM3.chg hCw14)).now.mono (by omega) (Nat.le_refl _),hX3⟩
 ·replace hc20:¬(i<n_q):=by have:=zad hc20;omega
  refine zc 4 [(24,vF),(23,undef),(22,undef),(21,vF)] (zf (zb (zh (zP (zq (zq (zH (zb (ze ?_)))))))))
  refine zd (za (zO w4.heap.size 0 (hBU.all) ?_))
  have hK10:=((((hBw2.ext hEw3).ext hEw4).ext hEw5).chg hEl)
  refine za (zG 34 w1.heap.size 0 34 (vA [(.slice au1 (zt k) cu1),(.slice au2 (zt k) cu2),(.slice au3 (tot (zt k)) cu3)]) ([(.slice none 0 0),(.slice none 0 0),(.slice none 0 0)]) ([(.slice au1 (zt k) cu1),(.slice au2 (zt k) cu2),(.slice au3 (tot (zt k)) cu3)]) hK10 (by kernel_rfl) (by first | decide |(simp;done)|(simp;omega)) (by simp [Value.oneCell']) ?_)
  have hK11:=((((hBw2.ext hEw3).ext hEw4).ext hEw5).chg hEl)
  intro w15 hBw15 hCw15
  have hzw15:=hCw15.size
  rw [zy _ _ (by kernel_rfl)] at hBw15
  refine zf (zb (zj (zaJ (show zX Tryz.prog 63 _ _ (.cell 2 34) (vA [(.slice au1 (zt k) cu1),(.slice au2 (zt k) cu2),(.slice au3 (tot (zt k)) cu3)]) from ⟨⟨w1.heap.size,0,none⟩,(by kernel_rfl),zI (T:=34) (vs:= [(.slice au1 (zt k) cu1),(.slice au2 (zt k) cu2),(.slice au3 (tot (zt k)) cu3)]) (hBw15).all (by kernel_rfl)⟩) ?_)))
  have hX4:Ext w w15:=(Ext.own (Ext.own ((((hEw1.trans hEw2).trans hEw3).trans hEw4).trans hEw5) hEl (by omega)) hCw15 (by omega))
  exact ⟨L,cc,S,_,_,_,_,_,_,rfl,hOK,hLL,((hM1.chg hCw15)).now.mono (by omega) (Nat.le_refl _),((hM2.chg hCw15)).now.mono (by omega) (Nat.le_refl _),((hM3.chg hCw15)).now.mono (by omega) (Nat.le_refl _),hX4⟩
end Go.Proofs.YtkmhgepdhilllaaGreatDoor
namespace Go.Proofs.YtkmhgepdhilllaaGreatDoor
open Go Go.RowKit Go.Cs
set_option maxRecDepth 100000
set_option maxHeartbeats 4000000 in
theorem zpJ (w:World) (hg0:Gl 0 [vI 45,vI 33] w) (hg1:Gl 1 (w8C zbp) w) (hg2:Gl 3 (zay kA) w) (hg3:Gl 2 [.iface 227 (.agg #[.pointer (some ⟨4,160,none⟩)])] w):
  Calls Tryz.prog 24 #[] w (Ret fun r w'=>r=vT∧Ext w w'):=by
 refine zD (n:=177) (σ:= []) Tryz.func24 rfl ?_
 have hgl0:=hg0.lt
 have hgl1:=hg1.lt
 have hgl2:=hg2.lt
 have hgl3:=hg3.lt
 have ht5:tot 5=3:=by decide
 have hw1:=zv6;have hw2:=zws
 refine ze (zd (zc 1 [(0,vF)] (zf (zb (ze (zd (za (zp (zgI 3 _ (by first | omega | decide)) ?_))))))))
 rintro _ w1 ⟨rfl,hEw1⟩
 have hzw1:=hEw1.size
 refine za (zp (zgI 4 _ (by first | omega | decide)) ?_)
 rintro _ w2 ⟨rfl,hEw2⟩
 have hzw2:=hEw2.size
 refine za (zaf (zR Dig.zero) 59 ?_)
 intro w3 hBw3 hEw3 hzw3 hlw3
 refine za (zaf (zR Dig.zero) 59 ?_)
 intro w4 hBw4 hEw4 hzw4 hlw4
 refine za (zG 59 w2.heap.size 0 59 (vA (zR (mkD 3))) (zR Dig.zero) (zR (mkD 3)) (hBw3.ext hEw4) (by rw [zam];kernel_rfl) (by first |(simp;done)|(simp;omega)) (zbW _) ?_)
 intro w5 hBw5 hCw5
 have hzw5:=hCw5.size
 rw [zy _ _ (by simp)] at hBw5
 refine za (zG 59 w3.heap.size 0 59 (vA (zR (mkD 4))) (zR Dig.zero) (zR (mkD 4)) (hBw4.chg hCw5) (by rw [zam];kernel_rfl) (by first |(simp;done)|(simp;omega)) (zbW _) ?_)
 intro w6 hBw6 hCw6
 have hzw6:=hCw6.size
 rw [zy _ _ (by simp)] at hBw6
 refine zf (zb (ze (zd (za (zcx (some 22) 28 68 35 56 5 5 .i64 .i64 (vA (zM Rec.zero)) (by omega) (by omega) (by omega) ?_)))))
 rw [zdT (f:=zM) (x:=Rec.zero) rfl (zZ _) (by decide)]
 intro w7 hBw7 hEw7
 have hzw7:=hEw7.size;have hlw7:=hBw7.lt
 have hmw7:Ms zM 35 w6.heap.size (w6.heap.size+1) w7 (pA w6.heap.size 0) 5 5 (List.replicate 5 Rec.zero):=Ms.of_pre (r:= []) (by rw [List.append_nil];exact hBw7) zZ (by simp) (Nat.le_refl _) (by simp only [maxLen];omega) (Nat.le_refl _) (Nat.lt_succ_self _)
 refine za (zaa (Instr.buildSlice 29 3 #[(0,(vI 1)),(1,(vI 1)),(2,(vI 0))]) (.slice (pA w7.heap.size 0) 3 3) [(vI 1),(vI 1),(vI 0)] 3 ?_)
 intro w8 hBw8 hEw8 hzw8 hlw8
 have hSw8:Es (nv .i64) w7.heap.size (w7.heap.size+1) w8 (pA w7.heap.size 0) 3 3 ([1,1,0]):=Es.of_blk hBw8 rfl rfl (Nat.le_refl _) (by decide) (Nat.le_refl _) (Nat.lt_succ_self _)
 have hK1:=((((((((hg0.ext hEw1).ext hEw2).ext hEw3).ext hEw4).chg hCw5).chg hCw6).ext hEw7).ext hEw8)
 have hK2:=((((((((hg1.ext hEw1).ext hEw2).ext hEw3).ext hEw4).chg hCw5).chg hCw6).ext hEw7).ext hEw8)
 have hK3:=((((((((hg2.ext hEw1).ext hEw2).ext hEw3).ext hEw4).chg hCw5).chg hCw6).ext hEw7).ext hEw8)
 refine za (zp (zsN 5 _ (hmw7.ext hEw8) hSw8 (wM0) (by first | omega | decide) hK1 hK2 hK3) ?_)
 rintro _ w9 ⟨a1,rfl,hFz3_0,hEw9⟩
 have hzw9:=hEw9.size
 have hma1:=hFz3_0.ms;have hlea1:=hma1.le
 refine zc 3 [(26,(vI 0)),(25,(vA [(vI 5),(.slice a1 (tot 5) (tot 5))])),(21,(.tuple #[(vA [(vI 5),(.slice a1 (tot 5) (tot 5))]),(vI 0)]))] (zal ([(vI 5),(.slice a1 (tot 5) (tot 5))]) 44 rfl (by simp [Value.oneCell']) ?_)
 intro w10 hBw10 hEw10 hzw10 hlw10
 refine zc 1 [(4,(vI 0))] (zf (zb (ze (zd (za (zO w9.heap.size 0 (hBw10.all) ?_))))))
 refine za (zaa (Instr.buildSlice 29 3 #[(0,(vI 1)),(1,(vI 1)),(2,(vI 0))]) (.slice (pA w10.heap.size 0) 3 3) [(vI 1),(vI 1),(vI 0)] 3 ?_)
 intro w11 hBw11 hEw11 hzw11 hlw11
 have hSw11:Es (nv .i64) w10.heap.size (w10.heap.size+1) w11 (pA w10.heap.size 0) 3 3 ([1,1,0]):=Es.of_blk hBw11 rfl rfl (Nat.le_refl _) (by decide) (Nat.le_refl _) (Nat.lt_succ_self _)
 have hI1:=(hSw11).ints
 have hK4:=(((hK1.ext hEw9).ext hEw10).ext hEw11)
 have hK5:=(((hK2.ext hEw9).ext hEw10).ext hEw11)
 have hK6:=(((hK3.ext hEw9).ext hEw10).ext hEw11)
 have hK7:=(((((((((((hg3.ext hEw1).ext hEw2).ext hEw3).ext hEw4).chg hCw5).chg hCw6).ext hEw7).ext hEw8).ext hEw9).ext hEw10).ext hEw11)
 refine za (zp (zrl 5 _ ((hma1.ext hEw10).ext hEw11) hI1 (by first | omega | decide) (by first | omega | decide) (by first | omega | decide) (zfx wM0) (by first | omega | decide) (zmM.1 (by decide)) (by rw [show ofT (tot 5) (zak (List.replicate 5 Rec.zero) ([1,1,0])) (([1,1,0]:List Nat).map fun (x:Nat)=>(x:Int))=wT0 from wOf];exact zkE (n:=5) wO0 rfl) hK4 hK5 hK6 hK7) ?_)
 rintro _ w12 ⟨a2,rfl,hFz4_0,hEw12⟩
 have hzw12:=hEw12.size
 have hlea2:=hFz4_0.le
 rw [show (ofT (tot 5) (zak (List.replicate 5 Rec.zero) ([1,1,0])) (([1,1,0]).map fun (x:Nat)=>(x:Int)))=wT0 from wOf] at hFz4_0
 refine zc 3 [(32,(vI 0)),(31,(vA [(vI 5),(.slice a2 (tot 5) (tot 5))])),(27,(.tuple #[(vA [(vI 5),(.slice a2 (tot 5) (tot 5))]),(vI 0)]))] (zal ([(vI 5),(.slice a2 (tot 5) (tot 5))]) 38 rfl (by simp [Value.oneCell']) ?_)
 intro w13 hBw13 hEw13 hzw13 hlw13
 refine zc 1 [(6,(vI 0))] (zf (zb (ze (zd (za (zO w12.heap.size 0 (hBw13.all) ?_))))))
 refine za (zp (zer 5 4 _ (hFz4_0.ext hEw13) (by first | omega | decide) (by first | omega | decide) (by first | omega | decide) (zba wO0) (zaV (n:=5) wO0 rfl) (by first | omega | decide) ((hK4.ext hEw12).ext hEw13) ((hK5.ext hEw12).ext hEw13) ((hK6.ext hEw12).ext hEw13)) ?_)
 rintro _ w14 ⟨rfl,hEw14⟩
 have hzw14:=hEw14.size
 rw [show zaZ (wT0.getD (4/4) Un.zero) (4%4)=0 from wG0]
 refine zc 5 [(8,(vI 0)),(7,(vI 0)),(37,(vI 0)),(36,(vI 0)),(33,(.tuple #[(vI 0),(vI 0)]))] (zf (zb (ze (zab 12 (fun w15 hEw15 hzw15 hT93=> ?_)))))
 refine zaO hT93 0 w12.heap.size 0 (fun w' hC=>((((hBw13.ext hEw14).ext hEw15).ext hC).all)) ?_
 have hK8:=((((((((((hBw5.chg hCw6).ext hEw7).ext hEw8).ext hEw9).ext hEw10).ext hEw11).ext hEw12).ext hEw13).ext hEw14).ext hEw15)
 refine zan hT93 2 w2.heap.size 0 (fun w' hC=>((hK8.ext hC).all)) (zam _) (zbt 1 8 ?_ ?_)
 ·refine zp (zcb 3 _ (by first | omega | decide | exact UInt8.toNat_lt _)) ?_
  rintro _ w16 ⟨rfl,hEw16⟩
  have hzw16:=hEw16.size
  refine ⟨.inr hEw16, ?_⟩
  refine zbt 3 8 ?_ ?_
  ·have hK9:=((((hFz4_0.ext hEw13).ext hEw14).ext hEw15).ext hEw16)
   have hK10:=(((((hK4.ext hEw12).ext hEw13).ext hEw14).ext hEw15).ext hEw16)
   have hK11:=(((((hK5.ext hEw12).ext hEw13).ext hEw14).ext hEw15).ext hEw16)
   have hK12:=(((((hK6.ext hEw12).ext hEw13).ext hEw14).ext hEw15).ext hEw16)
   refine zp (zcY 5 4 (za2 3) (mkD 3) _ hK9 (by first | omega | decide) (by first | omega | decide) (by first | omega | decide) (zba wO0) (zaV (n:=5) wO0 rfl) (by first | omega | decide) hK10 hK11 hK12) ?_
   rintro _ w17 ⟨a3,rfl,hFz7_0,hEw17⟩
   have hzw17:=hEw17.size
   have hlea3:=hFz7_0.le
   rw [show zc4 5 wT0 4 (za2 3) (mkD 3)=wT1 from wE0] at hFz7_0
   rw [show (zaZ (wT0.getD (4/4) Un.zero) (4%4))=0 from wG0]
   have hX1:Ext w15 w17:=(hEw16.trans hEw17)
   refine ⟨.inr hX1, ?_⟩
   refine zg (hw:=hX1) hT93 [(4,38,(.tuple #[(vA [(vI 5),(.slice a3 (tot 5) (tot 5))]),(vI 0),(vI 0)])),(5,43,(vA [(vI 5),(.slice a3 (tot 5) (tot 5))])),(6,44,(vI 0)),(7,45,(vI 0))] 4 (zx 8 (zaf ([(vI 0),(.slice none 0 0)]) 38 ?_))
   intro w18 hBw18 hEw18 hzw18 hlw18
   have hX2:Ext w15 w18:=((hEw16.trans hEw17).trans hEw18)
   refine ⟨.inr hX2, ?_⟩
   refine zx 9 (zG 38 w17.heap.size 0 38 (vA [(vI 5),(.slice a3 (tot 5) (tot 5))]) ([(vI 0),(.slice none 0 0)]) ([(vI 5),(.slice a3 (tot 5) (tot 5))]) hBw18 (by kernel_rfl) (by first | decide |(simp;done)|(simp;omega)) (by simp [Value.oneCell']) ?_)
   intro w19 hBw19 hCw19
   have hzw19:=hCw19.size
   rw [zy _ _ (by kernel_rfl)] at hBw19
   have hX3:Ext w15 w19:=(Ext.own ((hEw16.trans hEw17).trans hEw18) hCw19 (by omega))
   refine ⟨.inr hX3, ?_⟩
   refine zg (hw:=hX3) hT93 [(10,10,(vI 0)),(11,11,(vI 0))] 2 (zE (zb (ze (zd (za (zO w17.heap.size 0 (hBw19.all) ?_))))))
   have hK13:=(((hK10.ext hEw17).ext hEw18).chg hCw19)
   have hK14:=(((hK11.ext hEw17).ext hEw18).chg hCw19)
   have hK15:=(((hK12.ext hEw17).ext hEw18).chg hCw19)
   refine za (zp (zkM 5 _ ((hFz7_0.ext hEw18).chg hCw19) (by first | omega | decide) (by first | omega | decide) (by first | omega | decide) (zba wO1) (zaV (n:=5) wO1 rfl) hK13 hK14 hK15) ?_)
   rintro _ w20 ⟨a4,rfl,hFz8_0,hEw20⟩
   have hzw20:=hEw20.size
   have hlea4:=hFz8_0.le
   rw [wD1,show List.length [(0,1),(1,0)]=2 from rfl] at hFz8_0
   rw [show zbj 5 wT1 (tot 5)= [(0,1),(1,0)] from wD1]
   rw [show List.length ([(0,1),(1,0)])=2 from rfl]
   refine zc 5 [(13,(vI 0)),(12,(.slice a4 2 2)),(50,(vI 0)),(49,(.slice a4 2 2)),(46,(.tuple #[(.slice a4 2 2),(vI 0)]))] (zf (zb (ze (zd (za (zO w17.heap.size 0 ((hBw19.ext hEw20).all) ?_))))))
   have hK16:=(((hFz7_0.ext hEw18).chg hCw19).ext hEw20)
   refine za (zp (zl5 5 4 _ hK16 (by first | omega | decide) (by first | omega | decide) (by first | omega | decide) (zba wO1) (zaV (n:=5) wO1 rfl) (by first | omega | decide) (hK13.ext hEw20) (hK14.ext hEw20) (hK15.ext hEw20)) ?_)
   rintro _ w21 ⟨rfl,hEw21⟩
   have hzw21:=hEw21.size
   rw [show (wT1.getD (4/4) Un.zero).nd.rs.get (4%4)=wR1 from znx]
   refine zc 3 [(55,(vI 0)),(54,(vA (zM (wR1)))),(51,(.tuple #[(vA (zM (wR1))),(vI 0)]))] (zal (zM (wR1)) 68 (zZ _) (zbb _) ?_)
   intro w22 hBw22 hEw22 hzw22 hlw22
   refine zc 1 [(15,(vI 0))] (zf (zb (ze (ze (zab 52 (fun w23 hEw23 hzw23 hT161=> ?_))))))
   refine zg hT161 [(0,56,(vI 0)),(1,57,(vI 0))] 2 (zn hT161 2 (vI 0) (zY .i64 (IntKind.i64.wrap (((0:Nat):Int)+((0:Nat):Int))) (zu)) (zg hT161 [(3,59,(vI 0))] 1 (zn hT161 4 (vI 0) (zY .i64 (IntKind.i64.wrap (((0:Nat):Int)+((0:Nat):Int))) (zu)) (zg hT161 [(5,61,(vI 0))] 1 (zn hT161 6 (vI 0) (zY .i64 (IntKind.i64.wrap (((0:Nat):Int)+((0:Nat):Int))) (zu)) (zg hT161 [(7,63,(vI 0))] 1 (zn hT161 8 (vI 0) (zY .i64 (IntKind.i64.wrap (((0:Nat):Int)+((0:Nat):Int))) (zu)) (zg hT161 [(9,65,(vI 0))] 1 (zn hT161 10 (vI 0) (zY .i64 (IntKind.i64.wrap (((0:Nat):Int)+((0:Nat):Int))) (zu)) ?_)))))))))
   refine zg hT161 [(11,67,vF),(12,68,vF),(13,69,(vI 0))] 3 (zn hT161 14 vF (zaN (((0:Nat):Int) !=((0:Nat):Int)) (zax)) (zg hT161 [(15,71,vF),(16,72,vF),(17,73,(vI 0))] 3 (zn hT161 18 vF (zaN (((0:Nat):Int) !=((0:Nat):Int)) (zax)) (zg hT161 [(19,75,vF),(20,76,vF),(21,77,(.slice a4 2 2)),(22,78,(vI 2)),(23,79,vF),(24,80,vF),(25,81,vF),(26,82,(.slice a4 2 2))] 8 ?_))))
   obtain ⟨b1,o1,rfl⟩:=hFz8_0.addr (by omega) (by decide)
   refine zas hT161 27 b1 o1 2 2 0 2 ?_
   have hK17:=(((hFz8_0.ext hEw21).ext hEw22).ext hEw23)
   refine zaO hT161 28 b1 (o1+0*2) (fun w' hC=>((hK17.ext hC).at (0,0) (by omega))) (zg hT161 [(29,85,(vA [(vI 0),(vI 1)]))] 1 (zn hT161 30 vF (zag (bo .neq 89 (.tmp 84) (.tmp 85) (vA [(vI ((([(0,1),(1,0)]).getD 0 (0,0)).1)),(vI ((([(0,1),(1,0)]).getD 0 (0,0)).2))]) (vA [(vI 0),(vI 1)])) (fun w' hC=>zat (r:=true) (T:=89) ((zdL (dd:=9998) (t:=89) [(vI ((([(0,1),(1,0)]).getD 0 (0,0)).1)),(vI ((([(0,1),(1,0)]).getD 0 (0,0)).2))] [(vI 0),(vI 1)]).trans (congrArg (fun b=>Result.ok b _) (show (zgM [(vI ((([(0,1),(1,0)]).getD 0 (0,0)).1)),(vI ((([(0,1),(1,0)]).getD 0 (0,0)).2))] [(vI 0),(vI 1)])=true from rfl))))) (zg hT161 [(31,87,vF),(32,88,vF),(33,89,(.slice (pA b1 o1) 2 2))] 3 (zas hT161 34 b1 o1 2 2 1 2 (zaO hT161 35 b1 (o1+1*2) (fun w' hC=>((hK17.ext hC).at (0,0) (by omega))) (zg hT161 [(36,92,(vA [(vI 1),(vI 0)]))] 1 (zn hT161 37 vF (zag (bo .neq 89 (.tmp 91) (.tmp 92) (vA [(vI ((([(0,1),(1,0)]).getD 1 (0,0)).1)),(vI ((([(0,1),(1,0)]).getD 1 (0,0)).2))]) (vA [(vI 1),(vI 0)])) (fun w' hC=>zat (r:=true) (T:=89) ((zdL (dd:=9998) (t:=89) [(vI ((([(0,1),(1,0)]).getD 1 (0,0)).1)),(vI ((([(0,1),(1,0)]).getD 1 (0,0)).2))] [(vI 1),(vI 0)]).trans (congrArg (fun b=>Result.ok b _) (show (zgM [(vI ((([(0,1),(1,0)]).getD 1 (0,0)).1)),(vI ((([(0,1),(1,0)]).getD 1 (0,0)).2))] [(vI 1),(vI 0)])=true from rfl))))) (zg hT161 [(38,94,vF),(39,95,vF)] 2 ?_))))))))
   refine zan hT161 40 w21.heap.size 0 (fun w' hC=>(((hBw22.ext hEw23).ext hC).all)) (zZ _) ?_
   have hK18:=(((((hK8.ext hX3).ext hEw20).ext hEw21).ext hEw22).ext hEw23)
   refine zan hT161 42 w2.heap.size 0 (fun w' hC=>((hK18.ext hC).all)) (zam _) (zx 41 (zp (zcb 3 _ (by first | omega | decide | exact UInt8.toNat_lt _)) ?_))
   rintro _ w24 ⟨rfl,hEw24⟩
   have hzw24:=hEw24.size
   refine ⟨.inr hEw24, ?_⟩
   refine zn (hw:=hEw24) hT161 43 (vA (zM wR1)) (zag (Instr.build 68 #[(0,(vB 1)),(1,(vA (zbf (za2 3)))),(2,(vA (zR (mkD 3))))]) (fun w' hC=>(zdb 1 (za2 3) (mkD 3) (by decide)).trans (congrArg (fun z:Rec=>Result.ok (Value.agg (zM z).toArray) _) (show (⟨1,(za2 3),(mkD 3),by decide⟩:Rec)=wR1 from rfl)))) (zn (hw:=hEw24) hT161 44 vF (zag (bo .neq 68 (.tmp 96) (.tmp 99) (vA (zM (wR1))) (vA (zM wR1))) (fun w' hC=>zat (r:=true) (T:=68) ((zdj (dd:=9997) (t:=68) (t8:=5) (tn:=56) (td:=59) (e:=5) (t32:=53) (t64:=54) (wR1) wR1).trans (congrArg (fun b=>Result.ok b _) (show ((wR1).eqb wR1)=true from (Rec.eqb_iff _ _).2 rfl))))) (zg (hw:=hEw24) hT161 [(45,101,vF),(46,102,vF),(47,103,(vP w17.heap.size 1))] 3 ?_))
   have hK19:=((((hBw19.ext hEw20).ext hEw21).ext hEw22).ext hEw23)
   refine zA (hw:=hEw24) hT161 48 w17.heap.size 1 (fun w' hC=>((hK19.ext hC).cell rfl)) (zg (hw:=hEw24) hT161 [(49,105,(vI (tot 5)))] 1 (zn (hw:=hEw24) hT161 50 vF (zaN ((((tot 5):Nat):Int) !=((3:Nat):Int)) (zax)) (zg (hw:=hEw24) hT161 [(51,107,vF)] 1 (zE (zb (zh (zk (zb (ze ?_)))))))))
   refine zd (zc 1 [(108,(vA (zJ (Nod.mt 0 1))))] (zal (zJ (Nod.mt 0 1)) 74 (zQ _) (zb0 _) ?_))
   intro w25 hBw25 hEw25 hzw25 hlw25
   refine zf (zb (ze (zd ?_)))
   have hK20:=(((hBw22.ext hEw23).ext hEw24).ext hEw25)
   refine za (zT w21.heap.size 0 (hK20.all) (zZ _) ?_)
   refine zc 1 [(110,(vP w24.heap.size 2))] (za (zbg w24.heap.size 2 0 4 35 ?_))
   refine za (zG 68 w24.heap.size (2+0*35) 74 (vA (zM (wR1))) (zJ (Nod.mt 0 1)) (zM (wR1)) hBw25 (by rw [zZ];kernel_rfl) (by first |(simp;done)|(simp;omega)) (zbb _) ?_)
   intro w26 hBw26 hCw26
   have hzw26:=hCw26.size
   rw [show (zV (zJ (Nod.mt 0 1)) (2+0*35) (zM (wR1)):List Value)=zJ ((Nod.mt 0 1).setR 0 (wR1)) from nod_setR (by omega)] at hBw26
   refine zf (zb (ze (ze (zab 11 (fun w27 hEw27 hzw27 hT230=> ?_)))))
   refine zg hT230 [(0,112,(vP w17.heap.size 1))] 1 ?_
   have hK21:=((((hK19.ext hEw24).ext hEw25).chg hCw26).ext hEw27)
   refine zA hT230 1 w17.heap.size 1 (fun w' hC=>((hK21.ext hC).cell rfl)) ?_
   obtain ⟨b2,o2,rfl⟩:=hK16.addr (by omega) (by decide)
   refine zas hT230 2 b2 o2 (tot 5) (tot 5) 2 280 (zg hT230 [(3,115,(vP b2 (o2+2*280))),(4,116,(vP b2 (o2+2*280+142)))] 2 (zaP hT230 5 b2 (o2+2*280+142) 1 4 33 ?_))
   have hK22:=(((((((hK16.ext hEw21).ext hEw22).ext hEw23).ext hEw24).ext hEw25).chg hCw26).ext hEw27)
   refine zan hT230 6 b2 (o2+2*280+142+1*33) (fun w' hC=>(((hK22.ext hC).at Un.zero (by omega)).sub2 142 _ (zai ((wT1.getD 2 Un.zero).nd.es.get 1)) (znl (by omega)))) (zaK _) (zan hT230 7 w24.heap.size 0 (fun w' hC=>(((hBw26.ext hEw27).ext hC).all)) (zQ _) (zx 8 (zp (zfA ((Nod.mt 0 1).setR 0 (wR1)) _) ?_)))
   rintro _ w28 ⟨rfl,hEw28⟩
   have hzw28:=hEw28.size
   refine ⟨.inr hEw28, ?_⟩
   refine zn (hw:=hEw28) hT230 9 (vA (zai (⟨1,(zS (zN ((Nod.mt 0 1).setR 0 (wR1)))),by decide⟩))) (zag (Instr.build 71 #[(0,(vB 1)),(1,(vA (zR (zS (zN ((Nod.mt 0 1).setR 0 (wR1)))))))]) (fun w' hC=>zcA 1 (zS (zN ((Nod.mt 0 1).setR 0 (wR1)))) (by decide))) (zn (hw:=hEw28) hT230 10 vF (zag (bo .neq 71 (.tmp 118) (.tmp 121) (vA (zai ((wT1.getD 2 Un.zero).nd.es.get 1))) (vA (zai (⟨1,(zS (zN ((Nod.mt 0 1).setR 0 (wR1)))),by decide⟩)))) (fun w' hC=>zat (r:=true) (T:=71) ((zcs (dd:=9997) (t:=71) (t8:=5) (td:=59) (e:=5) ((wT1.getD 2 Un.zero).nd.es.get 1) (⟨1,(zS (zN ((Nod.mt 0 1).setR 0 (wR1)))),by decide⟩)).trans (congrArg (fun b=>Result.ok b _) (show (((wT1.getD 2 Un.zero).nd.es.get 1).eqb (⟨1,(zS (zN ((Nod.mt 0 1).setR 0 (wR1)))),by decide⟩))=true from (Ent.eqb_iff _ _).2 zqw))))) (zE (zb (zh (zk (zb (ze (zab 12 (fun w29 hEw29 hzw29 hT253=> ?_)))))))))
   refine zaO hT253 0 w17.heap.size 0 (fun w' hC=>((((hK21.ext hEw28).ext hEw29).ext hC).all)) ?_
   have hK23:=((((((((((((((((((((hBw6.ext hEw7).ext hEw8).ext hEw9).ext hEw10).ext hEw11).ext hEw12).ext hEw13).ext hEw14).ext hEw15).ext hX3).ext hEw20).ext hEw21).ext hEw22).ext hEw23).ext hEw24).ext hEw25).chg hCw26).ext hEw27).ext hEw28).ext hEw29)
   refine zan hT253 2 w3.heap.size 0 (fun w' hC=>((hK23.ext hC).all)) (zam _) (zbt 1 8 ?_ ?_)
   ·refine zp (zcb 4 _ (by first | omega | decide | exact UInt8.toNat_lt _)) ?_
    rintro _ w30 ⟨rfl,hEw30⟩
    have hzw30:=hEw30.size
    refine ⟨.inr hEw30, ?_⟩
    refine zbt 3 8 ?_ ?_
    ·have hK24:=(((hK22.ext hEw28).ext hEw29).ext hEw30)
     have hK25:=(((((((((((hK13.ext hEw20).ext hEw21).ext hEw22).ext hEw23).ext hEw24).ext hEw25).chg hCw26).ext hEw27).ext hEw28).ext hEw29).ext hEw30)
     have hK26:=(((((((((((hK14.ext hEw20).ext hEw21).ext hEw22).ext hEw23).ext hEw24).ext hEw25).chg hCw26).ext hEw27).ext hEw28).ext hEw29).ext hEw30)
     have hK27:=(((((((((((hK15.ext hEw20).ext hEw21).ext hEw22).ext hEw23).ext hEw24).ext hEw25).chg hCw26).ext hEw27).ext hEw28).ext hEw29).ext hEw30)
     refine zp (zcY 5 4 (za2 4) (mkD 4) _ hK24 (by first | omega | decide) (by first | omega | decide) (by first | omega | decide) (zba wO1) (zaV (n:=5) wO1 rfl) (by first | omega | decide) hK25 hK26 hK27) ?_
     rintro _ w31 ⟨a5,rfl,hFz13_0,hEw31⟩
     have hzw31:=hEw31.size
     have hlea5:=hFz13_0.le
     rw [show zc4 5 wT1 4 (za2 4) (mkD 4)=wT2 from wE1] at hFz13_0
     rw [show (zaZ (wT1.getD (4/4) Un.zero) (4%4))=0 from wG1]
     have hX4:Ext w29 w31:=(hEw30.trans hEw31)
     refine ⟨.inr hX4, ?_⟩
     refine zg (hw:=hX4) hT253 [(4,123,(.tuple #[(vA [(vI 5),(.slice a5 (tot 5) (tot 5))]),(vI 0),(vI 0)])),(5,128,(vA [(vI 5),(.slice a5 (tot 5) (tot 5))])),(6,129,(vI 0)),(7,130,(vI 0))] 4 (zx 8 (zaf ([(vI 0),(.slice none 0 0)]) 38 ?_))
     intro w32 hBw32 hEw32 hzw32 hlw32
     have hX5:Ext w29 w32:=((hEw30.trans hEw31).trans hEw32)
     refine ⟨.inr hX5, ?_⟩
     refine zx 9 (zG 38 w31.heap.size 0 38 (vA [(vI 5),(.slice a5 (tot 5) (tot 5))]) ([(vI 0),(.slice none 0 0)]) ([(vI 5),(.slice a5 (tot 5) (tot 5))]) hBw32 (by kernel_rfl) (by first | decide |(simp;done)|(simp;omega)) (by simp [Value.oneCell']) ?_)
     intro w33 hBw33 hCw33
     have hzw33:=hCw33.size
     rw [zy _ _ (by kernel_rfl)] at hBw33
     have hX6:Ext w29 w33:=(Ext.own ((hEw30.trans hEw31).trans hEw32) hCw33 (by omega))
     refine ⟨.inr hX6, ?_⟩
     refine zg (hw:=hX6) hT253 [(10,10,(vI 0)),(11,4,(vI 0))] 2 (zE (zb (ze (zd (za (zO w31.heap.size 0 (hBw33.all) ?_))))))
     have hK28:=(((hK25.ext hEw31).ext hEw32).chg hCw33)
     have hK29:=(((hK26.ext hEw31).ext hEw32).chg hCw33)
     have hK30:=(((hK27.ext hEw31).ext hEw32).chg hCw33)
     refine za (zp (zeo 5 _ ((hFz13_0.ext hEw32).chg hCw33) (by first | omega | decide) (by first | omega | decide) (by first | omega | decide) (zba wO2) (zaV (n:=5) wO2 rfl) hK28 hK29 hK30) ?_)
     rintro _ w34 ⟨a6,rfl,hFz14_0,hEw34⟩
     have hzw34:=hEw34.size
     have hlea6:=hFz14_0.le
     rw [show zc8 (tot 5) wT2=wT3 from wE2] at hFz14_0
     refine zc 3 [(135,(vI 0)),(134,(vA [(vI 5),(.slice a6 (tot 5) (tot 5))])),(131,(.tuple #[(vA [(vI 5),(.slice a6 (tot 5) (tot 5))]),(vI 0)]))] (zal ([(vI 5),(.slice a6 (tot 5) (tot 5))]) 38 rfl (by simp [Value.oneCell']) ?_)
     intro w35 hBw35 hEw35 hzw35 hlw35
     refine zc 1 [(6,(vI 0))] (zf (zb (ze (zd (za (zO w34.heap.size 0 (hBw35.all) ?_))))))
     refine za (zp (zer 5 4 _ (hFz14_0.ext hEw35) (by first | omega | decide) (by first | omega | decide) (by first | omega | decide) (zba wO3) (zaV (n:=5) wO3 rfl) (by first | omega | decide) ((hK28.ext hEw34).ext hEw35) ((hK29.ext hEw34).ext hEw35) ((hK30.ext hEw34).ext hEw35)) ?_)
     rintro _ w36 ⟨rfl,hEw36⟩
     have hzw36:=hEw36.size
     rw [show zaZ (wT3.getD (4/4) Un.zero) (4%4)=1 from wG3]
     refine zc 5 [(8,(vI 0)),(7,(vI 1)),(140,(vI 0)),(139,(vI 1)),(136,(.tuple #[(vI 1),(vI 0)]))] (zf (zb (ze (zd (zc 2 [(142,(vI 0)),(141,(vI 0))] (za (zo (some 143) .i64 (IntKind.i64.wrap (((0:Nat):Int)+((0:Nat):Int))) 0 (zu) ?_)))))))
     refine zc 1 [(144,(vI 0))] (za (zo (some 145) .i64 (IntKind.i64.wrap (((0:Nat):Int)+((0:Nat):Int))) 0 (zu) ?_))
     refine zc 3 [(148,(vI 0)),(147,vT),(146,vT)] (za (zae (some 149) (((0:Nat):Int)==((0:Nat):Int)) true (zaq) ?_))
     refine zc 3 [(152,(vI 1)),(151,vT),(150,vT)] (za (zae (some 153) (((1:Nat):Int)==((1:Nat):Int)) true (zaq) ?_))
     refine zc 3 [(156,(vP w34.heap.size 1)),(155,vT),(154,vT)] (za (zm w34.heap.size 1 ((hBw35.ext hEw36).cell rfl) ?_))
     refine zc 1 [(158,(vI (tot 5)))] (za (zae (some 159) ((((tot 5):Nat):Int)==((3:Nat):Int)) true (zaq) ?_))
     refine zc 3 [(162,(vP w34.heap.size 1)),(161,vT),(160,vT)] (za (zm w34.heap.size 1 ((hBw35.ext hEw36).cell rfl) ?_))
     obtain ⟨b3,o3,rfl⟩:=hFz14_0.addr (by omega) (by decide)
     refine za (zah b3 o3 (tot 5) (tot 5) 1 280 ?_)
     refine zc 1 [(165,(vP b3 (o3+1*280+274)))] (za (zm b3 (o3+1*280+274) (((hFz14_0.ext hEw35).ext hEw36).cell (j:=274) (i:=1) Un.zero (by omega) (zbU _)) ?_))
     refine za (zae (some 167) ((wT3.getD 1 Un.zero).sl==((0:Nat):Int)) true (zaq) ?_)
     refine zc 3 [(170,(vP w34.heap.size 1)),(169,vT),(168,vT)] (za (zm w34.heap.size 1 ((hBw35.ext hEw36).cell rfl) ?_))
     refine za (zah b3 o3 (tot 5) (tot 5) 2 280 ?_)
     refine zc 1 [(173,(vP b3 (o3+2*280+274)))] (za (zm b3 (o3+2*280+274) (((hFz14_0.ext hEw35).ext hEw36).cell (j:=274) (i:=2) Un.zero (by omega) (zbU _)) ?_))
     refine za (zae (some 175) ((wT3.getD 2 Un.zero).sl==((1:Nat):Int)) true (zaq) ?_)
     refine zc 2 [(0,vT),(176,vT)] (zf (zb (zj (zl vT ?_))))
     have hX7:Ext w w36:=((((((((Ext.own (((((((((((((((((Ext.own (Ext.own (((hEw1.trans hEw2).trans hEw3).trans hEw4) hCw5 (by omega)) hCw6 (by omega)).trans hEw7).trans hEw8).trans hEw9).trans hEw10).trans hEw11).trans hEw12).trans hEw13).trans hEw14).trans hEw15).trans hX3).trans hEw20).trans hEw21).trans hEw22).trans hEw23).trans hEw24).trans hEw25) hCw26 (by omega)).trans hEw27).trans hEw28).trans hEw29).trans hX6).trans hEw34).trans hEw35).trans hEw36)
     exact ⟨rfl,hX7⟩
    ·refine zaf ([(vI 0),(.slice none 0 0)]) 38 ?_
     intro w37 hBw37 hEw37 hzw37 hlw37
     have hX8:Ext w29 w37:=(hEw30.trans hEw37)
     refine ⟨.inr hX8, ?_⟩
     have hK31:=((((hK22.ext hEw28).ext hEw29).ext hEw30).ext hEw37)
     have hK32:=((((((((((((hK13.ext hEw20).ext hEw21).ext hEw22).ext hEw23).ext hEw24).ext hEw25).chg hCw26).ext hEw27).ext hEw28).ext hEw29).ext hEw30).ext hEw37)
     have hK33:=((((((((((((hK14.ext hEw20).ext hEw21).ext hEw22).ext hEw23).ext hEw24).ext hEw25).chg hCw26).ext hEw27).ext hEw28).ext hEw29).ext hEw30).ext hEw37)
     have hK34:=((((((((((((hK15.ext hEw20).ext hEw21).ext hEw22).ext hEw23).ext hEw24).ext hEw25).chg hCw26).ext hEw27).ext hEw28).ext hEw29).ext hEw30).ext hEw37)
     refine zx 3 (zp (zcY 5 4 (za2 4) (mkD 4) _ hK31 (by first | omega | decide) (by first | omega | decide) (by first | omega | decide) (zba wO1) (zaV (n:=5) wO1 rfl) (by first | omega | decide) hK32 hK33 hK34) ?_)
     rintro _ w38 ⟨a7,rfl,hFz16_0,hEw38⟩
     have hzw38:=hEw38.size
     have hlea7:=hFz16_0.le
     rw [show zc4 5 wT1 4 (za2 4) (mkD 4)=wT2 from wE1] at hFz16_0
     rw [show (zaZ (wT1.getD (4/4) Un.zero) (4%4))=0 from wG1]
     have hX9:Ext w29 w38:=((hEw30.trans hEw37).trans hEw38)
     refine ⟨.inr hX9, ?_⟩
     refine zg (hw:=hX9) hT253 [(4,123,(.tuple #[(vA [(vI 5),(.slice a7 (tot 5) (tot 5))]),(vI 0),(vI 0)])),(5,128,(vA [(vI 5),(.slice a7 (tot 5) (tot 5))])),(6,129,(vI 0)),(7,130,(vI 0))] 4 (zx 9 (zG 38 w30.heap.size 0 38 (vA [(vI 5),(.slice a7 (tot 5) (tot 5))]) ([(vI 0),(.slice none 0 0)]) ([(vI 5),(.slice a7 (tot 5) (tot 5))]) (hBw37.ext hEw38) (by kernel_rfl) (by first | decide |(simp;done)|(simp;omega)) (by simp [Value.oneCell']) ?_))
     intro w39 hBw39 hCw39
     have hzw39:=hCw39.size
     rw [zy _ _ (by kernel_rfl)] at hBw39
     have hX10:Ext w29 w39:=(Ext.own ((hEw30.trans hEw37).trans hEw38) hCw39 (by omega))
     refine ⟨.inr hX10, ?_⟩
     refine zg (hw:=hX10) hT253 [(10,10,(vI 0)),(11,4,(vI 0))] 2 (zE (zb (ze (zd (za (zO w30.heap.size 0 (hBw39.all) ?_))))))
     refine za (zp (zeo 5 _ (hFz16_0.chg hCw39) (by first | omega | decide) (by first | omega | decide) (by first | omega | decide) (zba wO2) (zaV (n:=5) wO2 rfl) ((hK32.ext hEw38).chg hCw39) ((hK33.ext hEw38).chg hCw39) ((hK34.ext hEw38).chg hCw39)) ?_)
     rintro _ w40 ⟨a8,rfl,hFz17_0,hEw40⟩
     have hzw40:=hEw40.size
     have hlea8:=hFz17_0.le
     rw [show zc8 (tot 5) wT2=wT3 from wE2] at hFz17_0
     refine zc 3 [(135,(vI 0)),(134,(vA [(vI 5),(.slice a8 (tot 5) (tot 5))])),(131,(.tuple #[(vA [(vI 5),(.slice a8 (tot 5) (tot 5))]),(vI 0)]))] (zal ([(vI 5),(.slice a8 (tot 5) (tot 5))]) 38 rfl (by simp [Value.oneCell']) ?_)
     intro w41 hBw41 hEw41 hzw41 hlw41
     refine zc 1 [(6,(vI 0))] (zf (zb (ze (zd (za (zO w40.heap.size 0 (hBw41.all) ?_))))))
     have hK35:=((((hK32.ext hEw38).chg hCw39).ext hEw40).ext hEw41)
     have hK36:=((((hK33.ext hEw38).chg hCw39).ext hEw40).ext hEw41)
     have hK37:=((((hK34.ext hEw38).chg hCw39).ext hEw40).ext hEw41)
     refine za (zp (zer 5 4 _ (hFz17_0.ext hEw41) (by first | omega | decide) (by first | omega | decide) (by first | omega | decide) (zba wO3) (zaV (n:=5) wO3 rfl) (by first | omega | decide) hK35 hK36 hK37) ?_)
     rintro _ w42 ⟨rfl,hEw42⟩
     have hzw42:=hEw42.size
     rw [show zaZ (wT3.getD (4/4) Un.zero) (4%4)=1 from wG3]
     refine zc 5 [(8,(vI 0)),(7,(vI 1)),(140,(vI 0)),(139,(vI 1)),(136,(.tuple #[(vI 1),(vI 0)]))] (zf (zb (ze (zd (zc 2 [(142,(vI 0)),(141,(vI 0))] (za (zo (some 143) .i64 (IntKind.i64.wrap (((0:Nat):Int)+((0:Nat):Int))) 0 (zu) ?_)))))))
     refine zc 1 [(144,(vI 0))] (za (zo (some 145) .i64 (IntKind.i64.wrap (((0:Nat):Int)+((0:Nat):Int))) 0 (zu) ?_))
     refine zc 3 [(148,(vI 0)),(147,vT),(146,vT)] (za (zae (some 149) (((0:Nat):Int)==((0:Nat):Int)) true (zaq) ?_))
     refine zc 3 [(152,(vI 1)),(151,vT),(150,vT)] (za (zae (some 153) (((1:Nat):Int)==((1:Nat):Int)) true (zaq) ?_))
     refine zc 3 [(156,(vP w40.heap.size 1)),(155,vT),(154,vT)] (za (zm w40.heap.size 1 ((hBw41.ext hEw42).cell rfl) ?_))
     refine zc 1 [(158,(vI (tot 5)))] (za (zae (some 159) ((((tot 5):Nat):Int)==((3:Nat):Int)) true (zaq) ?_))
     refine zc 3 [(162,(vP w40.heap.size 1)),(161,vT),(160,vT)] (za (zm w40.heap.size 1 ((hBw41.ext hEw42).cell rfl) ?_))
     obtain ⟨b4,o4,rfl⟩:=hFz17_0.addr (by omega) (by decide)
     refine za (zah b4 o4 (tot 5) (tot 5) 1 280 ?_)
     refine zc 1 [(165,(vP b4 (o4+1*280+274)))] (za (zm b4 (o4+1*280+274) (((hFz17_0.ext hEw41).ext hEw42).cell (j:=274) (i:=1) Un.zero (by omega) (zbU _)) ?_))
     refine za (zae (some 167) ((wT3.getD 1 Un.zero).sl==((0:Nat):Int)) true (zaq) ?_)
     refine zc 3 [(170,(vP w40.heap.size 1)),(169,vT),(168,vT)] (za (zm w40.heap.size 1 ((hBw41.ext hEw42).cell rfl) ?_))
     refine za (zah b4 o4 (tot 5) (tot 5) 2 280 ?_)
     refine zc 1 [(173,(vP b4 (o4+2*280+274)))] (za (zm b4 (o4+2*280+274) (((hFz17_0.ext hEw41).ext hEw42).cell (j:=274) (i:=2) Un.zero (by omega) (zbU _)) ?_))
     refine za (zae (some 175) ((wT3.getD 2 Un.zero).sl==((1:Nat):Int)) true (zaq) ?_)
     refine zc 2 [(0,vT),(176,vT)] (zf (zb (zj (zl vT ?_))))
     have hX11:Ext w w42:=((((((((Ext.own (((((((((((((((((Ext.own (Ext.own (((hEw1.trans hEw2).trans hEw3).trans hEw4) hCw5 (by omega)) hCw6 (by omega)).trans hEw7).trans hEw8).trans hEw9).trans hEw10).trans hEw11).trans hEw12).trans hEw13).trans hEw14).trans hEw15).trans hX3).trans hEw20).trans hEw21).trans hEw22).trans hEw23).trans hEw24).trans hEw25) hCw26 (by omega)).trans hEw27).trans hEw28).trans hEw29).trans hX10).trans hEw40).trans hEw41).trans hEw42)
     exact ⟨rfl,hX11⟩
   ·refine zaf ([(vI 0),(.slice none 0 0)]) 38 ?_
    intro w43 hBw43 hEw43 hzw43 hlw43
    refine ⟨.inr hEw43, ?_⟩
    refine zx 1 (zp (zcb 4 _ (by first | omega | decide | exact UInt8.toNat_lt _)) ?_)
    rintro _ w44 ⟨rfl,hEw44⟩
    have hzw44:=hEw44.size
    have hX12:Ext w29 w44:=(hEw43.trans hEw44)
    refine ⟨.inr hX12, ?_⟩
    have hK38:=((((hK22.ext hEw28).ext hEw29).ext hEw43).ext hEw44)
    have hK39:=((((((((((((hK13.ext hEw20).ext hEw21).ext hEw22).ext hEw23).ext hEw24).ext hEw25).chg hCw26).ext hEw27).ext hEw28).ext hEw29).ext hEw43).ext hEw44)
    have hK40:=((((((((((((hK14.ext hEw20).ext hEw21).ext hEw22).ext hEw23).ext hEw24).ext hEw25).chg hCw26).ext hEw27).ext hEw28).ext hEw29).ext hEw43).ext hEw44)
    have hK41:=((((((((((((hK15.ext hEw20).ext hEw21).ext hEw22).ext hEw23).ext hEw24).ext hEw25).chg hCw26).ext hEw27).ext hEw28).ext hEw29).ext hEw43).ext hEw44)
    refine zx 3 (zp (zcY 5 4 (za2 4) (mkD 4) _ hK38 (by first | omega | decide) (by first | omega | decide) (by first | omega | decide) (zba wO1) (zaV (n:=5) wO1 rfl) (by first | omega | decide) hK39 hK40 hK41) ?_)
    rintro _ w45 ⟨a9,rfl,hFz20_0,hEw45⟩
    have hzw45:=hEw45.size
    have hlea9:=hFz20_0.le
    rw [show zc4 5 wT1 4 (za2 4) (mkD 4)=wT2 from wE1] at hFz20_0
    rw [show (zaZ (wT1.getD (4/4) Un.zero) (4%4))=0 from wG1]
    have hX13:Ext w29 w45:=((hEw43.trans hEw44).trans hEw45)
    refine ⟨.inr hX13, ?_⟩
    refine zg (hw:=hX13) hT253 [(4,123,(.tuple #[(vA [(vI 5),(.slice a9 (tot 5) (tot 5))]),(vI 0),(vI 0)])),(5,128,(vA [(vI 5),(.slice a9 (tot 5) (tot 5))])),(6,129,(vI 0)),(7,130,(vI 0))] 4 (zx 9 (zG 38 w29.heap.size 0 38 (vA [(vI 5),(.slice a9 (tot 5) (tot 5))]) ([(vI 0),(.slice none 0 0)]) ([(vI 5),(.slice a9 (tot 5) (tot 5))]) ((hBw43.ext hEw44).ext hEw45) (by kernel_rfl) (by first | decide |(simp;done)|(simp;omega)) (by simp [Value.oneCell']) ?_))
    intro w46 hBw46 hCw46
    have hzw46:=hCw46.size
    rw [zy _ _ (by kernel_rfl)] at hBw46
    have hX14:Ext w29 w46:=(Ext.own ((hEw43.trans hEw44).trans hEw45) hCw46 (by omega))
    refine ⟨.inr hX14, ?_⟩
    refine zg (hw:=hX14) hT253 [(10,10,(vI 0)),(11,4,(vI 0))] 2 (zE (zb (ze (zd (za (zO w29.heap.size 0 (hBw46.all) ?_))))))
    refine za (zp (zeo 5 _ (hFz20_0.chg hCw46) (by first | omega | decide) (by first | omega | decide) (by first | omega | decide) (zba wO2) (zaV (n:=5) wO2 rfl) ((hK39.ext hEw45).chg hCw46) ((hK40.ext hEw45).chg hCw46) ((hK41.ext hEw45).chg hCw46)) ?_)
    rintro _ w47 ⟨a10,rfl,hFz21_0,hEw47⟩
    have hzw47:=hEw47.size
    have hlea10:=hFz21_0.le
    rw [show zc8 (tot 5) wT2=wT3 from wE2] at hFz21_0
    refine zc 3 [(135,(vI 0)),(134,(vA [(vI 5),(.slice a10 (tot 5) (tot 5))])),(131,(.tuple #[(vA [(vI 5),(.slice a10 (tot 5) (tot 5))]),(vI 0)]))] (zal ([(vI 5),(.slice a10 (tot 5) (tot 5))]) 38 rfl (by simp [Value.oneCell']) ?_)
    intro w48 hBw48 hEw48 hzw48 hlw48
    refine zc 1 [(6,(vI 0))] (zf (zb (ze (zd (za (zO w47.heap.size 0 (hBw48.all) ?_))))))
    have hK42:=((((hK39.ext hEw45).chg hCw46).ext hEw47).ext hEw48)
    have hK43:=((((hK40.ext hEw45).chg hCw46).ext hEw47).ext hEw48)
    have hK44:=((((hK41.ext hEw45).chg hCw46).ext hEw47).ext hEw48)
    refine za (zp (zer 5 4 _ (hFz21_0.ext hEw48) (by first | omega | decide) (by first | omega | decide) (by first | omega | decide) (zba wO3) (zaV (n:=5) wO3 rfl) (by first | omega | decide) hK42 hK43 hK44) ?_)
    rintro _ w49 ⟨rfl,hEw49⟩
    have hzw49:=hEw49.size
    rw [show zaZ (wT3.getD (4/4) Un.zero) (4%4)=1 from wG3]
    refine zc 5 [(8,(vI 0)),(7,(vI 1)),(140,(vI 0)),(139,(vI 1)),(136,(.tuple #[(vI 1),(vI 0)]))] (zf (zb (ze (zd (zc 2 [(142,(vI 0)),(141,(vI 0))] (za (zo (some 143) .i64 (IntKind.i64.wrap (((0:Nat):Int)+((0:Nat):Int))) 0 (zu) ?_)))))))
    refine zc 1 [(144,(vI 0))] (za (zo (some 145) .i64 (IntKind.i64.wrap (((0:Nat):Int)+((0:Nat):Int))) 0 (zu) ?_))
    refine zc 3 [(148,(vI 0)),(147,vT),(146,vT)] (za (zae (some 149) (((0:Nat):Int)==((0:Nat):Int)) true (zaq) ?_))
    refine zc 3 [(152,(vI 1)),(151,vT),(150,vT)] (za (zae (some 153) (((1:Nat):Int)==((1:Nat):Int)) true (zaq) ?_))
    refine zc 3 [(156,(vP w47.heap.size 1)),(155,vT),(154,vT)] (za (zm w47.heap.size 1 ((hBw48.ext hEw49).cell rfl) ?_))
    refine zc 1 [(158,(vI (tot 5)))] (za (zae (some 159) ((((tot 5):Nat):Int)==((3:Nat):Int)) true (zaq) ?_))
    refine zc 3 [(162,(vP w47.heap.size 1)),(161,vT),(160,vT)] (za (zm w47.heap.size 1 ((hBw48.ext hEw49).cell rfl) ?_))
    obtain ⟨b5,o5,rfl⟩:=hFz21_0.addr (by omega) (by decide)
    refine za (zah b5 o5 (tot 5) (tot 5) 1 280 ?_)
    refine zc 1 [(165,(vP b5 (o5+1*280+274)))] (za (zm b5 (o5+1*280+274) (((hFz21_0.ext hEw48).ext hEw49).cell (j:=274) (i:=1) Un.zero (by omega) (zbU _)) ?_))
    refine za (zae (some 167) ((wT3.getD 1 Un.zero).sl==((0:Nat):Int)) true (zaq) ?_)
    refine zc 3 [(170,(vP w47.heap.size 1)),(169,vT),(168,vT)] (za (zm w47.heap.size 1 ((hBw48.ext hEw49).cell rfl) ?_))
    refine za (zah b5 o5 (tot 5) (tot 5) 2 280 ?_)
    refine zc 1 [(173,(vP b5 (o5+2*280+274)))] (za (zm b5 (o5+2*280+274) (((hFz21_0.ext hEw48).ext hEw49).cell (j:=274) (i:=2) Un.zero (by omega) (zbU _)) ?_))
    refine za (zae (some 175) ((wT3.getD 2 Un.zero).sl==((1:Nat):Int)) true (zaq) ?_)
    refine zc 2 [(0,vT),(176,vT)] (zf (zb (zj (zl vT ?_))))
    have hX15:Ext w w49:=((((((((Ext.own (((((((((((((((((Ext.own (Ext.own (((hEw1.trans hEw2).trans hEw3).trans hEw4) hCw5 (by omega)) hCw6 (by omega)).trans hEw7).trans hEw8).trans hEw9).trans hEw10).trans hEw11).trans hEw12).trans hEw13).trans hEw14).trans hEw15).trans hX3).trans hEw20).trans hEw21).trans hEw22).trans hEw23).trans hEw24).trans hEw25) hCw26 (by omega)).trans hEw27).trans hEw28).trans hEw29).trans hX14).trans hEw47).trans hEw48).trans hEw49)
    exact ⟨rfl,hX15⟩
  ·refine zaf ([(vI 0),(.slice none 0 0)]) 38 ?_
   intro w50 hBw50 hEw50 hzw50 hlw50
   have hX16:Ext w15 w50:=(hEw16.trans hEw50)
   refine ⟨.inr hX16, ?_⟩
   have hK45:=(((((hFz4_0.ext hEw13).ext hEw14).ext hEw15).ext hEw16).ext hEw50)
   have hK46:=((((((hK4.ext hEw12).ext hEw13).ext hEw14).ext hEw15).ext hEw16).ext hEw50)
   have hK47:=((((((hK5.ext hEw12).ext hEw13).ext hEw14).ext hEw15).ext hEw16).ext hEw50)
   have hK48:=((((((hK6.ext hEw12).ext hEw13).ext hEw14).ext hEw15).ext hEw16).ext hEw50)
   refine zx 3 (zp (zcY 5 4 (za2 3) (mkD 3) _ hK45 (by first | omega | decide) (by first | omega | decide) (by first | omega | decide) (zba wO0) (zaV (n:=5) wO0 rfl) (by first | omega | decide) hK46 hK47 hK48) ?_)
   rintro _ w51 ⟨a11,rfl,hFz23_0,hEw51⟩
   have hzw51:=hEw51.size
   have hlea11:=hFz23_0.le
   rw [show zc4 5 wT0 4 (za2 3) (mkD 3)=wT1 from wE0] at hFz23_0
   rw [show (zaZ (wT0.getD (4/4) Un.zero) (4%4))=0 from wG0]
   have hX17:Ext w15 w51:=((hEw16.trans hEw50).trans hEw51)
   refine ⟨.inr hX17, ?_⟩
   refine zg (hw:=hX17) hT93 [(4,38,(.tuple #[(vA [(vI 5),(.slice a11 (tot 5) (tot 5))]),(vI 0),(vI 0)])),(5,43,(vA [(vI 5),(.slice a11 (tot 5) (tot 5))])),(6,44,(vI 0)),(7,45,(vI 0))] 4 (zx 9 (zG 38 w16.heap.size 0 38 (vA [(vI 5),(.slice a11 (tot 5) (tot 5))]) ([(vI 0),(.slice none 0 0)]) ([(vI 5),(.slice a11 (tot 5) (tot 5))]) (hBw50.ext hEw51) (by kernel_rfl) (by first | decide |(simp;done)|(simp;omega)) (by simp [Value.oneCell']) ?_))
   intro w52 hBw52 hCw52
   have hzw52:=hCw52.size
   rw [zy _ _ (by kernel_rfl)] at hBw52
   have hX18:Ext w15 w52:=(Ext.own ((hEw16.trans hEw50).trans hEw51) hCw52 (by omega))
   refine ⟨.inr hX18, ?_⟩
   refine zg (hw:=hX18) hT93 [(10,10,(vI 0)),(11,11,(vI 0))] 2 (zE (zb (ze (zd (za (zO w16.heap.size 0 (hBw52.all) ?_))))))
   refine za (zp (zkM 5 _ (hFz23_0.chg hCw52) (by first | omega | decide) (by first | omega | decide) (by first | omega | decide) (zba wO1) (zaV (n:=5) wO1 rfl) ((hK46.ext hEw51).chg hCw52) ((hK47.ext hEw51).chg hCw52) ((hK48.ext hEw51).chg hCw52)) ?_)
   rintro _ w53 ⟨a12,rfl,hFz24_0,hEw53⟩
   have hzw53:=hEw53.size
   have hlea12:=hFz24_0.le
   rw [wD1,show List.length [(0,1),(1,0)]=2 from rfl] at hFz24_0
   rw [show zbj 5 wT1 (tot 5)= [(0,1),(1,0)] from wD1]
   rw [show List.length ([(0,1),(1,0)])=2 from rfl]
   refine zc 5 [(13,(vI 0)),(12,(.slice a12 2 2)),(50,(vI 0)),(49,(.slice a12 2 2)),(46,(.tuple #[(.slice a12 2 2),(vI 0)]))] (zf (zb (ze (zd (za (zO w16.heap.size 0 ((hBw52.ext hEw53).all) ?_))))))
   have hK49:=(((hK46.ext hEw51).chg hCw52).ext hEw53)
   have hK50:=(((hK47.ext hEw51).chg hCw52).ext hEw53)
   have hK51:=(((hK48.ext hEw51).chg hCw52).ext hEw53)
   refine za (zp (zl5 5 4 _ ((hFz23_0.chg hCw52).ext hEw53) (by first | omega | decide) (by first | omega | decide) (by first | omega | decide) (zba wO1) (zaV (n:=5) wO1 rfl) (by first | omega | decide) hK49 hK50 hK51) ?_)
   rintro _ w54 ⟨rfl,hEw54⟩
   have hzw54:=hEw54.size
   rw [show (wT1.getD (4/4) Un.zero).nd.rs.get (4%4)=wR1 from znx]
   refine zc 3 [(55,(vI 0)),(54,(vA (zM (wR1)))),(51,(.tuple #[(vA (zM (wR1))),(vI 0)]))] (zal (zM (wR1)) 68 (zZ _) (zbb _) ?_)
   intro w55 hBw55 hEw55 hzw55 hlw55
   refine zc 1 [(15,(vI 0))] (zf (zb (ze (ze (zab 52 (fun w56 hEw56 hzw56 hT585=> ?_))))))
   refine zg hT585 [(0,56,(vI 0)),(1,57,(vI 0))] 2 (zn hT585 2 (vI 0) (zY .i64 (IntKind.i64.wrap (((0:Nat):Int)+((0:Nat):Int))) (zu)) (zg hT585 [(3,59,(vI 0))] 1 (zn hT585 4 (vI 0) (zY .i64 (IntKind.i64.wrap (((0:Nat):Int)+((0:Nat):Int))) (zu)) (zg hT585 [(5,61,(vI 0))] 1 (zn hT585 6 (vI 0) (zY .i64 (IntKind.i64.wrap (((0:Nat):Int)+((0:Nat):Int))) (zu)) (zg hT585 [(7,63,(vI 0))] 1 (zn hT585 8 (vI 0) (zY .i64 (IntKind.i64.wrap (((0:Nat):Int)+((0:Nat):Int))) (zu)) (zg hT585 [(9,65,(vI 0))] 1 (zn hT585 10 (vI 0) (zY .i64 (IntKind.i64.wrap (((0:Nat):Int)+((0:Nat):Int))) (zu)) ?_)))))))))
   refine zg hT585 [(11,67,vF),(12,68,vF),(13,69,(vI 0))] 3 (zn hT585 14 vF (zaN (((0:Nat):Int) !=((0:Nat):Int)) (zax)) (zg hT585 [(15,71,vF),(16,72,vF),(17,73,(vI 0))] 3 (zn hT585 18 vF (zaN (((0:Nat):Int) !=((0:Nat):Int)) (zax)) (zg hT585 [(19,75,vF),(20,76,vF),(21,77,(.slice a12 2 2)),(22,78,(vI 2)),(23,79,vF),(24,80,vF),(25,81,vF),(26,82,(.slice a12 2 2))] 8 ?_))))
   obtain ⟨b6,o6,rfl⟩:=hFz24_0.addr (by omega) (by decide)
   refine zas hT585 27 b6 o6 2 2 0 2 ?_
   have hK52:=(((hFz24_0.ext hEw54).ext hEw55).ext hEw56)
   refine zaO hT585 28 b6 (o6+0*2) (fun w' hC=>((hK52.ext hC).at (0,0) (by omega))) (zg hT585 [(29,85,(vA [(vI 0),(vI 1)]))] 1 (zn hT585 30 vF (zag (bo .neq 89 (.tmp 84) (.tmp 85) (vA [(vI ((([(0,1),(1,0)]).getD 0 (0,0)).1)),(vI ((([(0,1),(1,0)]).getD 0 (0,0)).2))]) (vA [(vI 0),(vI 1)])) (fun w' hC=>zat (r:=true) (T:=89) ((zdL (dd:=9998) (t:=89) [(vI ((([(0,1),(1,0)]).getD 0 (0,0)).1)),(vI ((([(0,1),(1,0)]).getD 0 (0,0)).2))] [(vI 0),(vI 1)]).trans (congrArg (fun b=>Result.ok b _) (show (zgM [(vI ((([(0,1),(1,0)]).getD 0 (0,0)).1)),(vI ((([(0,1),(1,0)]).getD 0 (0,0)).2))] [(vI 0),(vI 1)])=true from rfl))))) (zg hT585 [(31,87,vF),(32,88,vF),(33,89,(.slice (pA b6 o6) 2 2))] 3 (zas hT585 34 b6 o6 2 2 1 2 (zaO hT585 35 b6 (o6+1*2) (fun w' hC=>((hK52.ext hC).at (0,0) (by omega))) (zg hT585 [(36,92,(vA [(vI 1),(vI 0)]))] 1 (zn hT585 37 vF (zag (bo .neq 89 (.tmp 91) (.tmp 92) (vA [(vI ((([(0,1),(1,0)]).getD 1 (0,0)).1)),(vI ((([(0,1),(1,0)]).getD 1 (0,0)).2))]) (vA [(vI 1),(vI 0)])) (fun w' hC=>zat (r:=true) (T:=89) ((zdL (dd:=9998) (t:=89) [(vI ((([(0,1),(1,0)]).getD 1 (0,0)).1)),(vI ((([(0,1),(1,0)]).getD 1 (0,0)).2))] [(vI 1),(vI 0)]).trans (congrArg (fun b=>Result.ok b _) (show (zgM [(vI ((([(0,1),(1,0)]).getD 1 (0,0)).1)),(vI ((([(0,1),(1,0)]).getD 1 (0,0)).2))] [(vI 1),(vI 0)])=true from rfl))))) (zg hT585 [(38,94,vF),(39,95,vF)] 2 ?_))))))))
   refine zan hT585 40 w54.heap.size 0 (fun w' hC=>(((hBw55.ext hEw56).ext hC).all)) (zZ _) ?_
   have hK53:=(((((hK8.ext hX18).ext hEw53).ext hEw54).ext hEw55).ext hEw56)
   refine zan hT585 42 w2.heap.size 0 (fun w' hC=>((hK53.ext hC).all)) (zam _) (zx 41 (zp (zcb 3 _ (by first | omega | decide | exact UInt8.toNat_lt _)) ?_))
   rintro _ w57 ⟨rfl,hEw57⟩
   have hzw57:=hEw57.size
   refine ⟨.inr hEw57, ?_⟩
   refine zn (hw:=hEw57) hT585 43 (vA (zM wR1)) (zag (Instr.build 68 #[(0,(vB 1)),(1,(vA (zbf (za2 3)))),(2,(vA (zR (mkD 3))))]) (fun w' hC=>(zdb 1 (za2 3) (mkD 3) (by decide)).trans (congrArg (fun z:Rec=>Result.ok (Value.agg (zM z).toArray) _) (show (⟨1,(za2 3),(mkD 3),by decide⟩:Rec)=wR1 from rfl)))) (zn (hw:=hEw57) hT585 44 vF (zag (bo .neq 68 (.tmp 96) (.tmp 99) (vA (zM (wR1))) (vA (zM wR1))) (fun w' hC=>zat (r:=true) (T:=68) ((zdj (dd:=9997) (t:=68) (t8:=5) (tn:=56) (td:=59) (e:=5) (t32:=53) (t64:=54) (wR1) wR1).trans (congrArg (fun b=>Result.ok b _) (show ((wR1).eqb wR1)=true from (Rec.eqb_iff _ _).2 rfl))))) (zg (hw:=hEw57) hT585 [(45,101,vF),(46,102,vF),(47,103,(vP w16.heap.size 1))] 3 ?_))
   have hK54:=((((hBw52.ext hEw53).ext hEw54).ext hEw55).ext hEw56)
   refine zA (hw:=hEw57) hT585 48 w16.heap.size 1 (fun w' hC=>((hK54.ext hC).cell rfl)) (zg (hw:=hEw57) hT585 [(49,105,(vI (tot 5)))] 1 (zn (hw:=hEw57) hT585 50 vF (zaN ((((tot 5):Nat):Int) !=((3:Nat):Int)) (zax)) (zg (hw:=hEw57) hT585 [(51,107,vF)] 1 (zE (zb (zh (zk (zb (ze ?_)))))))))
   refine zd (zc 1 [(108,(vA (zJ (Nod.mt 0 1))))] (zal (zJ (Nod.mt 0 1)) 74 (zQ _) (zb0 _) ?_))
   intro w58 hBw58 hEw58 hzw58 hlw58
   refine zf (zb (ze (zd ?_)))
   have hK55:=(((hBw55.ext hEw56).ext hEw57).ext hEw58)
   refine za (zT w54.heap.size 0 (hK55.all) (zZ _) ?_)
   refine zc 1 [(110,(vP w57.heap.size 2))] (za (zbg w57.heap.size 2 0 4 35 ?_))
   refine za (zG 68 w57.heap.size (2+0*35) 74 (vA (zM (wR1))) (zJ (Nod.mt 0 1)) (zM (wR1)) hBw58 (by rw [zZ];kernel_rfl) (by first |(simp;done)|(simp;omega)) (zbb _) ?_)
   intro w59 hBw59 hCw59
   have hzw59:=hCw59.size
   rw [show (zV (zJ (Nod.mt 0 1)) (2+0*35) (zM (wR1)):List Value)=zJ ((Nod.mt 0 1).setR 0 (wR1)) from nod_setR (by omega)] at hBw59
   refine zf (zb (ze (ze (zab 11 (fun w60 hEw60 hzw60 hT654=> ?_)))))
   refine zg hT654 [(0,112,(vP w16.heap.size 1))] 1 ?_
   have hK56:=((((hK54.ext hEw57).ext hEw58).chg hCw59).ext hEw60)
   refine zA hT654 1 w16.heap.size 1 (fun w' hC=>((hK56.ext hC).cell rfl)) ?_
   obtain ⟨b7,o7,rfl⟩:=hFz23_0.addr (by omega) (by decide)
   refine zas hT654 2 b7 o7 (tot 5) (tot 5) 2 280 (zg hT654 [(3,115,(vP b7 (o7+2*280))),(4,116,(vP b7 (o7+2*280+142)))] 2 (zaP hT654 5 b7 (o7+2*280+142) 1 4 33 ?_))
   have hK57:=(((((((((hFz23_0.chg hCw52).ext hEw53).ext hEw54).ext hEw55).ext hEw56).ext hEw57).ext hEw58).chg hCw59).ext hEw60)
   refine zan hT654 6 b7 (o7+2*280+142+1*33) (fun w' hC=>(((hK57.ext hC).at Un.zero (by omega)).sub2 142 _ (zai ((wT1.getD 2 Un.zero).nd.es.get 1)) (znl (by omega)))) (zaK _) (zan hT654 7 w57.heap.size 0 (fun w' hC=>(((hBw59.ext hEw60).ext hC).all)) (zQ _) (zx 8 (zp (zfA ((Nod.mt 0 1).setR 0 (wR1)) _) ?_)))
   rintro _ w61 ⟨rfl,hEw61⟩
   have hzw61:=hEw61.size
   refine ⟨.inr hEw61, ?_⟩
   refine zn (hw:=hEw61) hT654 9 (vA (zai (⟨1,(zS (zN ((Nod.mt 0 1).setR 0 (wR1)))),by decide⟩))) (zag (Instr.build 71 #[(0,(vB 1)),(1,(vA (zR (zS (zN ((Nod.mt 0 1).setR 0 (wR1)))))))]) (fun w' hC=>zcA 1 (zS (zN ((Nod.mt 0 1).setR 0 (wR1)))) (by decide))) (zn (hw:=hEw61) hT654 10 vF (zag (bo .neq 71 (.tmp 118) (.tmp 121) (vA (zai ((wT1.getD 2 Un.zero).nd.es.get 1))) (vA (zai (⟨1,(zS (zN ((Nod.mt 0 1).setR 0 (wR1)))),by decide⟩)))) (fun w' hC=>zat (r:=true) (T:=71) ((zcs (dd:=9997) (t:=71) (t8:=5) (td:=59) (e:=5) ((wT1.getD 2 Un.zero).nd.es.get 1) (⟨1,(zS (zN ((Nod.mt 0 1).setR 0 (wR1)))),by decide⟩)).trans (congrArg (fun b=>Result.ok b _) (show (((wT1.getD 2 Un.zero).nd.es.get 1).eqb (⟨1,(zS (zN ((Nod.mt 0 1).setR 0 (wR1)))),by decide⟩))=true from (Ent.eqb_iff _ _).2 zqw))))) (zE (zb (zh (zk (zb (ze (zab 12 (fun w62 hEw62 hzw62 hT677=> ?_)))))))))
   refine zaO hT677 0 w16.heap.size 0 (fun w' hC=>((((hK56.ext hEw61).ext hEw62).ext hC).all)) ?_
   have hK58:=((((((((((((((((((((hBw6.ext hEw7).ext hEw8).ext hEw9).ext hEw10).ext hEw11).ext hEw12).ext hEw13).ext hEw14).ext hEw15).ext hX18).ext hEw53).ext hEw54).ext hEw55).ext hEw56).ext hEw57).ext hEw58).chg hCw59).ext hEw60).ext hEw61).ext hEw62)
   refine zan hT677 2 w3.heap.size 0 (fun w' hC=>((hK58.ext hC).all)) (zam _) (zbt 1 8 ?_ ?_)
   ·refine zp (zcb 4 _ (by first | omega | decide | exact UInt8.toNat_lt _)) ?_
    rintro _ w63 ⟨rfl,hEw63⟩
    have hzw63:=hEw63.size
    refine ⟨.inr hEw63, ?_⟩
    refine zbt 3 8 ?_ ?_
    ·have hK59:=(((hK57.ext hEw61).ext hEw62).ext hEw63)
     have hK60:=((((((((((hK49.ext hEw54).ext hEw55).ext hEw56).ext hEw57).ext hEw58).chg hCw59).ext hEw60).ext hEw61).ext hEw62).ext hEw63)
     have hK61:=((((((((((hK50.ext hEw54).ext hEw55).ext hEw56).ext hEw57).ext hEw58).chg hCw59).ext hEw60).ext hEw61).ext hEw62).ext hEw63)
     have hK62:=((((((((((hK51.ext hEw54).ext hEw55).ext hEw56).ext hEw57).ext hEw58).chg hCw59).ext hEw60).ext hEw61).ext hEw62).ext hEw63)
     refine zp (zcY 5 4 (za2 4) (mkD 4) _ hK59 (by first | omega | decide) (by first | omega | decide) (by first | omega | decide) (zba wO1) (zaV (n:=5) wO1 rfl) (by first | omega | decide) hK60 hK61 hK62) ?_
     rintro _ w64 ⟨a13,rfl,hFz29_0,hEw64⟩
     have hzw64:=hEw64.size
     have hlea13:=hFz29_0.le
     rw [show zc4 5 wT1 4 (za2 4) (mkD 4)=wT2 from wE1] at hFz29_0
     rw [show (zaZ (wT1.getD (4/4) Un.zero) (4%4))=0 from wG1]
     have hX19:Ext w62 w64:=(hEw63.trans hEw64)
     refine ⟨.inr hX19, ?_⟩
     refine zg (hw:=hX19) hT677 [(4,123,(.tuple #[(vA [(vI 5),(.slice a13 (tot 5) (tot 5))]),(vI 0),(vI 0)])),(5,128,(vA [(vI 5),(.slice a13 (tot 5) (tot 5))])),(6,129,(vI 0)),(7,130,(vI 0))] 4 (zx 8 (zaf ([(vI 0),(.slice none 0 0)]) 38 ?_))
     intro w65 hBw65 hEw65 hzw65 hlw65
     have hX20:Ext w62 w65:=((hEw63.trans hEw64).trans hEw65)
     refine ⟨.inr hX20, ?_⟩
     refine zx 9 (zG 38 w64.heap.size 0 38 (vA [(vI 5),(.slice a13 (tot 5) (tot 5))]) ([(vI 0),(.slice none 0 0)]) ([(vI 5),(.slice a13 (tot 5) (tot 5))]) hBw65 (by kernel_rfl) (by first | decide |(simp;done)|(simp;omega)) (by simp [Value.oneCell']) ?_)
     intro w66 hBw66 hCw66
     have hzw66:=hCw66.size
     rw [zy _ _ (by kernel_rfl)] at hBw66
     have hX21:Ext w62 w66:=(Ext.own ((hEw63.trans hEw64).trans hEw65) hCw66 (by omega))
     refine ⟨.inr hX21, ?_⟩
     refine zg (hw:=hX21) hT677 [(10,10,(vI 0)),(11,4,(vI 0))] 2 (zE (zb (ze (zd (za (zO w64.heap.size 0 (hBw66.all) ?_))))))
     have hK63:=(((hK60.ext hEw64).ext hEw65).chg hCw66)
     have hK64:=(((hK61.ext hEw64).ext hEw65).chg hCw66)
     have hK65:=(((hK62.ext hEw64).ext hEw65).chg hCw66)
     refine za (zp (zeo 5 _ ((hFz29_0.ext hEw65).chg hCw66) (by first | omega | decide) (by first | omega | decide) (by first | omega | decide) (zba wO2) (zaV (n:=5) wO2 rfl) hK63 hK64 hK65) ?_)
     rintro _ w67 ⟨a14,rfl,hFz30_0,hEw67⟩
     have hzw67:=hEw67.size
     have hlea14:=hFz30_0.le
     rw [show zc8 (tot 5) wT2=wT3 from wE2] at hFz30_0
     refine zc 3 [(135,(vI 0)),(134,(vA [(vI 5),(.slice a14 (tot 5) (tot 5))])),(131,(.tuple #[(vA [(vI 5),(.slice a14 (tot 5) (tot 5))]),(vI 0)]))] (zal ([(vI 5),(.slice a14 (tot 5) (tot 5))]) 38 rfl (by simp [Value.oneCell']) ?_)
     intro w68 hBw68 hEw68 hzw68 hlw68
     refine zc 1 [(6,(vI 0))] (zf (zb (ze (zd (za (zO w67.heap.size 0 (hBw68.all) ?_))))))
     refine za (zp (zer 5 4 _ (hFz30_0.ext hEw68) (by first | omega | decide) (by first | omega | decide) (by first | omega | decide) (zba wO3) (zaV (n:=5) wO3 rfl) (by first | omega | decide) ((hK63.ext hEw67).ext hEw68) ((hK64.ext hEw67).ext hEw68) ((hK65.ext hEw67).ext hEw68)) ?_)
     rintro _ w69 ⟨rfl,hEw69⟩
     have hzw69:=hEw69.size
     rw [show zaZ (wT3.getD (4/4) Un.zero) (4%4)=1 from wG3]
     refine zc 5 [(8,(vI 0)),(7,(vI 1)),(140,(vI 0)),(139,(vI 1)),(136,(.tuple #[(vI 1),(vI 0)]))] (zf (zb (ze (zd (zc 2 [(142,(vI 0)),(141,(vI 0))] (za (zo (some 143) .i64 (IntKind.i64.wrap (((0:Nat):Int)+((0:Nat):Int))) 0 (zu) ?_)))))))
     refine zc 1 [(144,(vI 0))] (za (zo (some 145) .i64 (IntKind.i64.wrap (((0:Nat):Int)+((0:Nat):Int))) 0 (zu) ?_))
     refine zc 3 [(148,(vI 0)),(147,vT),(146,vT)] (za (zae (some 149) (((0:Nat):Int)==((0:Nat):Int)) true (zaq) ?_))
     refine zc 3 [(152,(vI 1)),(151,vT),(150,vT)] (za (zae (some 153) (((1:Nat):Int)==((1:Nat):Int)) true (zaq) ?_))
     refine zc 3 [(156,(vP w67.heap.size 1)),(155,vT),(154,vT)] (za (zm w67.heap.size 1 ((hBw68.ext hEw69).cell rfl) ?_))
     refine zc 1 [(158,(vI (tot 5)))] (za (zae (some 159) ((((tot 5):Nat):Int)==((3:Nat):Int)) true (zaq) ?_))
     refine zc 3 [(162,(vP w67.heap.size 1)),(161,vT),(160,vT)] (za (zm w67.heap.size 1 ((hBw68.ext hEw69).cell rfl) ?_))
     obtain ⟨b8,o8,rfl⟩:=hFz30_0.addr (by omega) (by decide)
     refine za (zah b8 o8 (tot 5) (tot 5) 1 280 ?_)
     refine zc 1 [(165,(vP b8 (o8+1*280+274)))] (za (zm b8 (o8+1*280+274) (((hFz30_0.ext hEw68).ext hEw69).cell (j:=274) (i:=1) Un.zero (by omega) (zbU _)) ?_))
     refine za (zae (some 167) ((wT3.getD 1 Un.zero).sl==((0:Nat):Int)) true (zaq) ?_)
     refine zc 3 [(170,(vP w67.heap.size 1)),(169,vT),(168,vT)] (za (zm w67.heap.size 1 ((hBw68.ext hEw69).cell rfl) ?_))
     refine za (zah b8 o8 (tot 5) (tot 5) 2 280 ?_)
     refine zc 1 [(173,(vP b8 (o8+2*280+274)))] (za (zm b8 (o8+2*280+274) (((hFz30_0.ext hEw68).ext hEw69).cell (j:=274) (i:=2) Un.zero (by omega) (zbU _)) ?_))
     refine za (zae (some 175) ((wT3.getD 2 Un.zero).sl==((1:Nat):Int)) true (zaq) ?_)
     refine zc 2 [(0,vT),(176,vT)] (zf (zb (zj (zl vT ?_))))
     have hX22:Ext w w69:=((((((((Ext.own (((((((((((((((((Ext.own (Ext.own (((hEw1.trans hEw2).trans hEw3).trans hEw4) hCw5 (by omega)) hCw6 (by omega)).trans hEw7).trans hEw8).trans hEw9).trans hEw10).trans hEw11).trans hEw12).trans hEw13).trans hEw14).trans hEw15).trans hX18).trans hEw53).trans hEw54).trans hEw55).trans hEw56).trans hEw57).trans hEw58) hCw59 (by omega)).trans hEw60).trans hEw61).trans hEw62).trans hX21).trans hEw67).trans hEw68).trans hEw69)
     exact ⟨rfl,hX22⟩
    ·refine zaf ([(vI 0),(.slice none 0 0)]) 38 ?_
     intro w70 hBw70 hEw70 hzw70 hlw70
     have hX23:Ext w62 w70:=(hEw63.trans hEw70)
     refine ⟨.inr hX23, ?_⟩
     have hK66:=((((hK57.ext hEw61).ext hEw62).ext hEw63).ext hEw70)
     have hK67:=(((((((((((hK49.ext hEw54).ext hEw55).ext hEw56).ext hEw57).ext hEw58).chg hCw59).ext hEw60).ext hEw61).ext hEw62).ext hEw63).ext hEw70)
     have hK68:=(((((((((((hK50.ext hEw54).ext hEw55).ext hEw56).ext hEw57).ext hEw58).chg hCw59).ext hEw60).ext hEw61).ext hEw62).ext hEw63).ext hEw70)
     have hK69:=(((((((((((hK51.ext hEw54).ext hEw55).ext hEw56).ext hEw57).ext hEw58).chg hCw59).ext hEw60).ext hEw61).ext hEw62).ext hEw63).ext hEw70)
     refine zx 3 (zp (zcY 5 4 (za2 4) (mkD 4) _ hK66 (by first | omega | decide) (by first | omega | decide) (by first | omega | decide) (zba wO1) (zaV (n:=5) wO1 rfl) (by first | omega | decide) hK67 hK68 hK69) ?_)
     rintro _ w71 ⟨a15,rfl,hFz32_0,hEw71⟩
     have hzw71:=hEw71.size
     have hlea15:=hFz32_0.le
     rw [show zc4 5 wT1 4 (za2 4) (mkD 4)=wT2 from wE1] at hFz32_0
     rw [show (zaZ (wT1.getD (4/4) Un.zero) (4%4))=0 from wG1]
     have hX24:Ext w62 w71:=((hEw63.trans hEw70).trans hEw71)
     refine ⟨.inr hX24, ?_⟩
     refine zg (hw:=hX24) hT677 [(4,123,(.tuple #[(vA [(vI 5),(.slice a15 (tot 5) (tot 5))]),(vI 0),(vI 0)])),(5,128,(vA [(vI 5),(.slice a15 (tot 5) (tot 5))])),(6,129,(vI 0)),(7,130,(vI 0))] 4 (zx 9 (zG 38 w63.heap.size 0 38 (vA [(vI 5),(.slice a15 (tot 5) (tot 5))]) ([(vI 0),(.slice none 0 0)]) ([(vI 5),(.slice a15 (tot 5) (tot 5))]) (hBw70.ext hEw71) (by kernel_rfl) (by first | decide |(simp;done)|(simp;omega)) (by simp [Value.oneCell']) ?_))
     intro w72 hBw72 hCw72
     have hzw72:=hCw72.size
     rw [zy _ _ (by kernel_rfl)] at hBw72
     have hX25:Ext w62 w72:=(Ext.own ((hEw63.trans hEw70).trans hEw71) hCw72 (by omega))
     refine ⟨.inr hX25, ?_⟩
     refine zg (hw:=hX25) hT677 [(10,10,(vI 0)),(11,4,(vI 0))] 2 (zE (zb (ze (zd (za (zO w63.heap.size 0 (hBw72.all) ?_))))))
     refine za (zp (zeo 5 _ (hFz32_0.chg hCw72) (by first | omega | decide) (by first | omega | decide) (by first | omega | decide) (zba wO2) (zaV (n:=5) wO2 rfl) ((hK67.ext hEw71).chg hCw72) ((hK68.ext hEw71).chg hCw72) ((hK69.ext hEw71).chg hCw72)) ?_)
     rintro _ w73 ⟨a16,rfl,hFz33_0,hEw73⟩
     have hzw73:=hEw73.size
     have hlea16:=hFz33_0.le
     rw [show zc8 (tot 5) wT2=wT3 from wE2] at hFz33_0
     refine zc 3 [(135,(vI 0)),(134,(vA [(vI 5),(.slice a16 (tot 5) (tot 5))])),(131,(.tuple #[(vA [(vI 5),(.slice a16 (tot 5) (tot 5))]),(vI 0)]))] (zal ([(vI 5),(.slice a16 (tot 5) (tot 5))]) 38 rfl (by simp [Value.oneCell']) ?_)
     intro w74 hBw74 hEw74 hzw74 hlw74
     refine zc 1 [(6,(vI 0))] (zf (zb (ze (zd (za (zO w73.heap.size 0 (hBw74.all) ?_))))))
     have hK70:=((((hK67.ext hEw71).chg hCw72).ext hEw73).ext hEw74)
     have hK71:=((((hK68.ext hEw71).chg hCw72).ext hEw73).ext hEw74)
     have hK72:=((((hK69.ext hEw71).chg hCw72).ext hEw73).ext hEw74)
     refine za (zp (zer 5 4 _ (hFz33_0.ext hEw74) (by first | omega | decide) (by first | omega | decide) (by first | omega | decide) (zba wO3) (zaV (n:=5) wO3 rfl) (by first | omega | decide) hK70 hK71 hK72) ?_)
     rintro _ w75 ⟨rfl,hEw75⟩
     have hzw75:=hEw75.size
     rw [show zaZ (wT3.getD (4/4) Un.zero) (4%4)=1 from wG3]
     refine zc 5 [(8,(vI 0)),(7,(vI 1)),(140,(vI 0)),(139,(vI 1)),(136,(.tuple #[(vI 1),(vI 0)]))] (zf (zb (ze (zd (zc 2 [(142,(vI 0)),(141,(vI 0))] (za (zo (some 143) .i64 (IntKind.i64.wrap (((0:Nat):Int)+((0:Nat):Int))) 0 (zu) ?_)))))))
     refine zc 1 [(144,(vI 0))] (za (zo (some 145) .i64 (IntKind.i64.wrap (((0:Nat):Int)+((0:Nat):Int))) 0 (zu) ?_))
     refine zc 3 [(148,(vI 0)),(147,vT),(146,vT)] (za (zae (some 149) (((0:Nat):Int)==((0:Nat):Int)) true (zaq) ?_))
     refine zc 3 [(152,(vI 1)),(151,vT),(150,vT)] (za (zae (some 153) (((1:Nat):Int)==((1:Nat):Int)) true (zaq) ?_))
     refine zc 3 [(156,(vP w73.heap.size 1)),(155,vT),(154,vT)] (za (zm w73.heap.size 1 ((hBw74.ext hEw75).cell rfl) ?_))
     refine zc 1 [(158,(vI (tot 5)))] (za (zae (some 159) ((((tot 5):Nat):Int)==((3:Nat):Int)) true (zaq) ?_))
     refine zc 3 [(162,(vP w73.heap.size 1)),(161,vT),(160,vT)] (za (zm w73.heap.size 1 ((hBw74.ext hEw75).cell rfl) ?_))
     obtain ⟨b9,o9,rfl⟩:=hFz33_0.addr (by omega) (by decide)
     refine za (zah b9 o9 (tot 5) (tot 5) 1 280 ?_)
     refine zc 1 [(165,(vP b9 (o9+1*280+274)))] (za (zm b9 (o9+1*280+274) (((hFz33_0.ext hEw74).ext hEw75).cell (j:=274) (i:=1) Un.zero (by omega) (zbU _)) ?_))
     refine za (zae (some 167) ((wT3.getD 1 Un.zero).sl==((0:Nat):Int)) true (zaq) ?_)
     refine zc 3 [(170,(vP w73.heap.size 1)),(169,vT),(168,vT)] (za (zm w73.heap.size 1 ((hBw74.ext hEw75).cell rfl) ?_))
     refine za (zah b9 o9 (tot 5) (tot 5) 2 280 ?_)
     refine zc 1 [(173,(vP b9 (o9+2*280+274)))] (za (zm b9 (o9+2*280+274) (((hFz33_0.ext hEw74).ext hEw75).cell (j:=274) (i:=2) Un.zero (by omega) (zbU _)) ?_))
     refine za (zae (some 175) ((wT3.getD 2 Un.zero).sl==((1:Nat):Int)) true (zaq) ?_)
     refine zc 2 [(0,vT),(176,vT)] (zf (zb (zj (zl vT ?_))))
     have hX26:Ext w w75:=((((((((Ext.own (((((((((((((((((Ext.own (Ext.own (((hEw1.trans hEw2).trans hEw3).trans hEw4) hCw5 (by omega)) hCw6 (by omega)).trans hEw7).trans hEw8).trans hEw9).trans hEw10).trans hEw11).trans hEw12).trans hEw13).trans hEw14).trans hEw15).trans hX18).trans hEw53).trans hEw54).trans hEw55).trans hEw56).trans hEw57).trans hEw58) hCw59 (by omega)).trans hEw60).trans hEw61).trans hEw62).trans hX25).trans hEw73).trans hEw74).trans hEw75)
     exact ⟨rfl,hX26⟩
   ·refine zaf ([(vI 0),(.slice none 0 0)]) 38 ?_
    intro w76 hBw76 hEw76 hzw76 hlw76
    refine ⟨.inr hEw76, ?_⟩
    refine zx 1 (zp (zcb 4 _ (by first | omega | decide | exact UInt8.toNat_lt _)) ?_)
    rintro _ w77 ⟨rfl,hEw77⟩
    have hzw77:=hEw77.size
    have hX27:Ext w62 w77:=(hEw76.trans hEw77)
    refine ⟨.inr hX27, ?_⟩
    have hK73:=((((hK57.ext hEw61).ext hEw62).ext hEw76).ext hEw77)
    have hK74:=(((((((((((hK49.ext hEw54).ext hEw55).ext hEw56).ext hEw57).ext hEw58).chg hCw59).ext hEw60).ext hEw61).ext hEw62).ext hEw76).ext hEw77)
    have hK75:=(((((((((((hK50.ext hEw54).ext hEw55).ext hEw56).ext hEw57).ext hEw58).chg hCw59).ext hEw60).ext hEw61).ext hEw62).ext hEw76).ext hEw77)
    have hK76:=(((((((((((hK51.ext hEw54).ext hEw55).ext hEw56).ext hEw57).ext hEw58).chg hCw59).ext hEw60).ext hEw61).ext hEw62).ext hEw76).ext hEw77)
    refine zx 3 (zp (zcY 5 4 (za2 4) (mkD 4) _ hK73 (by first | omega | decide) (by first | omega | decide) (by first | omega | decide) (zba wO1) (zaV (n:=5) wO1 rfl) (by first | omega | decide) hK74 hK75 hK76) ?_)
    rintro _ w78 ⟨a17,rfl,hFz36_0,hEw78⟩
    have hzw78:=hEw78.size
    have hlea17:=hFz36_0.le
    rw [show zc4 5 wT1 4 (za2 4) (mkD 4)=wT2 from wE1] at hFz36_0
    rw [show (zaZ (wT1.getD (4/4) Un.zero) (4%4))=0 from wG1]
    have hX28:Ext w62 w78:=((hEw76.trans hEw77).trans hEw78)
    refine ⟨.inr hX28, ?_⟩
    refine zg (hw:=hX28) hT677 [(4,123,(.tuple #[(vA [(vI 5),(.slice a17 (tot 5) (tot 5))]),(vI 0),(vI 0)])),(5,128,(vA [(vI 5),(.slice a17 (tot 5) (tot 5))])),(6,129,(vI 0)),(7,130,(vI 0))] 4 (zx 9 (zG 38 w62.heap.size 0 38 (vA [(vI 5),(.slice a17 (tot 5) (tot 5))]) ([(vI 0),(.slice none 0 0)]) ([(vI 5),(.slice a17 (tot 5) (tot 5))]) ((hBw76.ext hEw77).ext hEw78) (by kernel_rfl) (by first | decide |(simp;done)|(simp;omega)) (by simp [Value.oneCell']) ?_))
    intro w79 hBw79 hCw79
    have hzw79:=hCw79.size
    rw [zy _ _ (by kernel_rfl)] at hBw79
    have hX29:Ext w62 w79:=(Ext.own ((hEw76.trans hEw77).trans hEw78) hCw79 (by omega))
    refine ⟨.inr hX29, ?_⟩
    refine zg (hw:=hX29) hT677 [(10,10,(vI 0)),(11,4,(vI 0))] 2 (zE (zb (ze (zd (za (zO w62.heap.size 0 (hBw79.all) ?_))))))
    refine za (zp (zeo 5 _ (hFz36_0.chg hCw79) (by first | omega | decide) (by first | omega | decide) (by first | omega | decide) (zba wO2) (zaV (n:=5) wO2 rfl) ((hK74.ext hEw78).chg hCw79) ((hK75.ext hEw78).chg hCw79) ((hK76.ext hEw78).chg hCw79)) ?_)
    rintro _ w80 ⟨a18,rfl,hFz37_0,hEw80⟩
    have hzw80:=hEw80.size
    have hlea18:=hFz37_0.le
    rw [show zc8 (tot 5) wT2=wT3 from wE2] at hFz37_0
    refine zc 3 [(135,(vI 0)),(134,(vA [(vI 5),(.slice a18 (tot 5) (tot 5))])),(131,(.tuple #[(vA [(vI 5),(.slice a18 (tot 5) (tot 5))]),(vI 0)]))] (zal ([(vI 5),(.slice a18 (tot 5) (tot 5))]) 38 rfl (by simp [Value.oneCell']) ?_)
    intro w81 hBw81 hEw81 hzw81 hlw81
    refine zc 1 [(6,(vI 0))] (zf (zb (ze (zd (za (zO w80.heap.size 0 (hBw81.all) ?_))))))
    have hK77:=((((hK74.ext hEw78).chg hCw79).ext hEw80).ext hEw81)
    have hK78:=((((hK75.ext hEw78).chg hCw79).ext hEw80).ext hEw81)
    have hK79:=((((hK76.ext hEw78).chg hCw79).ext hEw80).ext hEw81)
    refine za (zp (zer 5 4 _ (hFz37_0.ext hEw81) (by first | omega | decide) (by first | omega | decide) (by first | omega | decide) (zba wO3) (zaV (n:=5) wO3 rfl) (by first | omega | decide) hK77 hK78 hK79) ?_)
    rintro _ w82 ⟨rfl,hEw82⟩
    have hzw82:=hEw82.size
    rw [show zaZ (wT3.getD (4/4) Un.zero) (4%4)=1 from wG3]
    refine zc 5 [(8,(vI 0)),(7,(vI 1)),(140,(vI 0)),(139,(vI 1)),(136,(.tuple #[(vI 1),(vI 0)]))] (zf (zb (ze (zd (zc 2 [(142,(vI 0)),(141,(vI 0))] (za (zo (some 143) .i64 (IntKind.i64.wrap (((0:Nat):Int)+((0:Nat):Int))) 0 (zu) ?_)))))))
    refine zc 1 [(144,(vI 0))] (za (zo (some 145) .i64 (IntKind.i64.wrap (((0:Nat):Int)+((0:Nat):Int))) 0 (zu) ?_))
    refine zc 3 [(148,(vI 0)),(147,vT),(146,vT)] (za (zae (some 149) (((0:Nat):Int)==((0:Nat):Int)) true (zaq) ?_))
    refine zc 3 [(152,(vI 1)),(151,vT),(150,vT)] (za (zae (some 153) (((1:Nat):Int)==((1:Nat):Int)) true (zaq) ?_))
    refine zc 3 [(156,(vP w80.heap.size 1)),(155,vT),(154,vT)] (za (zm w80.heap.size 1 ((hBw81.ext hEw82).cell rfl) ?_))
    refine zc 1 [(158,(vI (tot 5)))] (za (zae (some 159) ((((tot 5):Nat):Int)==((3:Nat):Int)) true (zaq) ?_))
    refine zc 3 [(162,(vP w80.heap.size 1)),(161,vT),(160,vT)] (za (zm w80.heap.size 1 ((hBw81.ext hEw82).cell rfl) ?_))
    obtain ⟨b10,o10,rfl⟩:=hFz37_0.addr (by omega) (by decide)
    refine za (zah b10 o10 (tot 5) (tot 5) 1 280 ?_)
    refine zc 1 [(165,(vP b10 (o10+1*280+274)))] (za (zm b10 (o10+1*280+274) (((hFz37_0.ext hEw81).ext hEw82).cell (j:=274) (i:=1) Un.zero (by omega) (zbU _)) ?_))
    refine za (zae (some 167) ((wT3.getD 1 Un.zero).sl==((0:Nat):Int)) true (zaq) ?_)
    refine zc 3 [(170,(vP w80.heap.size 1)),(169,vT),(168,vT)] (za (zm w80.heap.size 1 ((hBw81.ext hEw82).cell rfl) ?_))
    refine za (zah b10 o10 (tot 5) (tot 5) 2 280 ?_)
    refine zc 1 [(173,(vP b10 (o10+2*280+274)))] (za (zm b10 (o10+2*280+274) (((hFz37_0.ext hEw81).ext hEw82).cell (j:=274) (i:=2) Un.zero (by omega) (zbU _)) ?_))
    refine za (zae (some 175) ((wT3.getD 2 Un.zero).sl==((1:Nat):Int)) true (zaq) ?_)
    refine zc 2 [(0,vT),(176,vT)] (zf (zb (zj (zl vT ?_))))
    have hX30:Ext w w82:=((((((((Ext.own (((((((((((((((((Ext.own (Ext.own (((hEw1.trans hEw2).trans hEw3).trans hEw4) hCw5 (by omega)) hCw6 (by omega)).trans hEw7).trans hEw8).trans hEw9).trans hEw10).trans hEw11).trans hEw12).trans hEw13).trans hEw14).trans hEw15).trans hX18).trans hEw53).trans hEw54).trans hEw55).trans hEw56).trans hEw57).trans hEw58) hCw59 (by omega)).trans hEw60).trans hEw61).trans hEw62).trans hX29).trans hEw80).trans hEw81).trans hEw82)
    exact ⟨rfl,hX30⟩
 ·refine zaf ([(vI 0),(.slice none 0 0)]) 38 ?_
  intro w83 hBw83 hEw83 hzw83 hlw83
  refine ⟨.inr hEw83, ?_⟩
  refine zx 1 (zp (zcb 3 _ (by first | omega | decide | exact UInt8.toNat_lt _)) ?_)
  rintro _ w84 ⟨rfl,hEw84⟩
  have hzw84:=hEw84.size
  have hX31:Ext w15 w84:=(hEw83.trans hEw84)
  refine ⟨.inr hX31, ?_⟩
  have hK80:=(((((hFz4_0.ext hEw13).ext hEw14).ext hEw15).ext hEw83).ext hEw84)
  have hK81:=((((((hK4.ext hEw12).ext hEw13).ext hEw14).ext hEw15).ext hEw83).ext hEw84)
  have hK82:=((((((hK5.ext hEw12).ext hEw13).ext hEw14).ext hEw15).ext hEw83).ext hEw84)
  have hK83:=((((((hK6.ext hEw12).ext hEw13).ext hEw14).ext hEw15).ext hEw83).ext hEw84)
  refine zx 3 (zp (zcY 5 4 (za2 3) (mkD 3) _ hK80 (by first | omega | decide) (by first | omega | decide) (by first | omega | decide) (zba wO0) (zaV (n:=5) wO0 rfl) (by first | omega | decide) hK81 hK82 hK83) ?_)
  rintro _ w85 ⟨a19,rfl,hFz40_0,hEw85⟩
  have hzw85:=hEw85.size
  have hlea19:=hFz40_0.le
  rw [show zc4 5 wT0 4 (za2 3) (mkD 3)=wT1 from wE0] at hFz40_0
  rw [show (zaZ (wT0.getD (4/4) Un.zero) (4%4))=0 from wG0]
  have hX32:Ext w15 w85:=((hEw83.trans hEw84).trans hEw85)
  refine ⟨.inr hX32, ?_⟩
  refine zg (hw:=hX32) hT93 [(4,38,(.tuple #[(vA [(vI 5),(.slice a19 (tot 5) (tot 5))]),(vI 0),(vI 0)])),(5,43,(vA [(vI 5),(.slice a19 (tot 5) (tot 5))])),(6,44,(vI 0)),(7,45,(vI 0))] 4 (zx 9 (zG 38 w15.heap.size 0 38 (vA [(vI 5),(.slice a19 (tot 5) (tot 5))]) ([(vI 0),(.slice none 0 0)]) ([(vI 5),(.slice a19 (tot 5) (tot 5))]) ((hBw83.ext hEw84).ext hEw85) (by kernel_rfl) (by first | decide |(simp;done)|(simp;omega)) (by simp [Value.oneCell']) ?_))
  intro w86 hBw86 hCw86
  have hzw86:=hCw86.size
  rw [zy _ _ (by kernel_rfl)] at hBw86
  have hX33:Ext w15 w86:=(Ext.own ((hEw83.trans hEw84).trans hEw85) hCw86 (by omega))
  refine ⟨.inr hX33, ?_⟩
  refine zg (hw:=hX33) hT93 [(10,10,(vI 0)),(11,11,(vI 0))] 2 (zE (zb (ze (zd (za (zO w15.heap.size 0 (hBw86.all) ?_))))))
  refine za (zp (zkM 5 _ (hFz40_0.chg hCw86) (by first | omega | decide) (by first | omega | decide) (by first | omega | decide) (zba wO1) (zaV (n:=5) wO1 rfl) ((hK81.ext hEw85).chg hCw86) ((hK82.ext hEw85).chg hCw86) ((hK83.ext hEw85).chg hCw86)) ?_)
  rintro _ w87 ⟨a20,rfl,hFz41_0,hEw87⟩
  have hzw87:=hEw87.size
  have hlea20:=hFz41_0.le
  rw [wD1,show List.length [(0,1),(1,0)]=2 from rfl] at hFz41_0
  rw [show zbj 5 wT1 (tot 5)= [(0,1),(1,0)] from wD1]
  rw [show List.length ([(0,1),(1,0)])=2 from rfl]
  refine zc 5 [(13,(vI 0)),(12,(.slice a20 2 2)),(50,(vI 0)),(49,(.slice a20 2 2)),(46,(.tuple #[(.slice a20 2 2),(vI 0)]))] (zf (zb (ze (zd (za (zO w15.heap.size 0 ((hBw86.ext hEw87).all) ?_))))))
  have hK84:=(((hK81.ext hEw85).chg hCw86).ext hEw87)
  have hK85:=(((hK82.ext hEw85).chg hCw86).ext hEw87)
  have hK86:=(((hK83.ext hEw85).chg hCw86).ext hEw87)
  refine za (zp (zl5 5 4 _ ((hFz40_0.chg hCw86).ext hEw87) (by first | omega | decide) (by first | omega | decide) (by first | omega | decide) (zba wO1) (zaV (n:=5) wO1 rfl) (by first | omega | decide) hK84 hK85 hK86) ?_)
  rintro _ w88 ⟨rfl,hEw88⟩
  have hzw88:=hEw88.size
  rw [show (wT1.getD (4/4) Un.zero).nd.rs.get (4%4)=wR1 from znx]
  refine zc 3 [(55,(vI 0)),(54,(vA (zM (wR1)))),(51,(.tuple #[(vA (zM (wR1))),(vI 0)]))] (zal (zM (wR1)) 68 (zZ _) (zbb _) ?_)
  intro w89 hBw89 hEw89 hzw89 hlw89
  refine zc 1 [(15,(vI 0))] (zf (zb (ze (ze (zab 52 (fun w90 hEw90 hzw90 hT1013=> ?_))))))
  refine zg hT1013 [(0,56,(vI 0)),(1,57,(vI 0))] 2 (zn hT1013 2 (vI 0) (zY .i64 (IntKind.i64.wrap (((0:Nat):Int)+((0:Nat):Int))) (zu)) (zg hT1013 [(3,59,(vI 0))] 1 (zn hT1013 4 (vI 0) (zY .i64 (IntKind.i64.wrap (((0:Nat):Int)+((0:Nat):Int))) (zu)) (zg hT1013 [(5,61,(vI 0))] 1 (zn hT1013 6 (vI 0) (zY .i64 (IntKind.i64.wrap (((0:Nat):Int)+((0:Nat):Int))) (zu)) (zg hT1013 [(7,63,(vI 0))] 1 (zn hT1013 8 (vI 0) (zY .i64 (IntKind.i64.wrap (((0:Nat):Int)+((0:Nat):Int))) (zu)) (zg hT1013 [(9,65,(vI 0))] 1 (zn hT1013 10 (vI 0) (zY .i64 (IntKind.i64.wrap (((0:Nat):Int)+((0:Nat):Int))) (zu)) ?_)))))))))
  refine zg hT1013 [(11,67,vF),(12,68,vF),(13,69,(vI 0))] 3 (zn hT1013 14 vF (zaN (((0:Nat):Int) !=((0:Nat):Int)) (zax)) (zg hT1013 [(15,71,vF),(16,72,vF),(17,73,(vI 0))] 3 (zn hT1013 18 vF (zaN (((0:Nat):Int) !=((0:Nat):Int)) (zax)) (zg hT1013 [(19,75,vF),(20,76,vF),(21,77,(.slice a20 2 2)),(22,78,(vI 2)),(23,79,vF),(24,80,vF),(25,81,vF),(26,82,(.slice a20 2 2))] 8 ?_))))
  obtain ⟨b11,o11,rfl⟩:=hFz41_0.addr (by omega) (by decide)
  refine zas hT1013 27 b11 o11 2 2 0 2 ?_
  have hK87:=(((hFz41_0.ext hEw88).ext hEw89).ext hEw90)
  refine zaO hT1013 28 b11 (o11+0*2) (fun w' hC=>((hK87.ext hC).at (0,0) (by omega))) (zg hT1013 [(29,85,(vA [(vI 0),(vI 1)]))] 1 (zn hT1013 30 vF (zag (bo .neq 89 (.tmp 84) (.tmp 85) (vA [(vI ((([(0,1),(1,0)]).getD 0 (0,0)).1)),(vI ((([(0,1),(1,0)]).getD 0 (0,0)).2))]) (vA [(vI 0),(vI 1)])) (fun w' hC=>zat (r:=true) (T:=89) ((zdL (dd:=9998) (t:=89) [(vI ((([(0,1),(1,0)]).getD 0 (0,0)).1)),(vI ((([(0,1),(1,0)]).getD 0 (0,0)).2))] [(vI 0),(vI 1)]).trans (congrArg (fun b=>Result.ok b _) (show (zgM [(vI ((([(0,1),(1,0)]).getD 0 (0,0)).1)),(vI ((([(0,1),(1,0)]).getD 0 (0,0)).2))] [(vI 0),(vI 1)])=true from rfl))))) (zg hT1013 [(31,87,vF),(32,88,vF),(33,89,(.slice (pA b11 o11) 2 2))] 3 (zas hT1013 34 b11 o11 2 2 1 2 (zaO hT1013 35 b11 (o11+1*2) (fun w' hC=>((hK87.ext hC).at (0,0) (by omega))) (zg hT1013 [(36,92,(vA [(vI 1),(vI 0)]))] 1 (zn hT1013 37 vF (zag (bo .neq 89 (.tmp 91) (.tmp 92) (vA [(vI ((([(0,1),(1,0)]).getD 1 (0,0)).1)),(vI ((([(0,1),(1,0)]).getD 1 (0,0)).2))]) (vA [(vI 1),(vI 0)])) (fun w' hC=>zat (r:=true) (T:=89) ((zdL (dd:=9998) (t:=89) [(vI ((([(0,1),(1,0)]).getD 1 (0,0)).1)),(vI ((([(0,1),(1,0)]).getD 1 (0,0)).2))] [(vI 1),(vI 0)]).trans (congrArg (fun b=>Result.ok b _) (show (zgM [(vI ((([(0,1),(1,0)]).getD 1 (0,0)).1)),(vI ((([(0,1),(1,0)]).getD 1 (0,0)).2))] [(vI 1),(vI 0)])=true from rfl))))) (zg hT1013 [(38,94,vF),(39,95,vF)] 2 ?_))))))))
  refine zan hT1013 40 w88.heap.size 0 (fun w' hC=>(((hBw89.ext hEw90).ext hC).all)) (zZ _) ?_
  have hK88:=(((((hK8.ext hX33).ext hEw87).ext hEw88).ext hEw89).ext hEw90)
  refine zan hT1013 42 w2.heap.size 0 (fun w' hC=>((hK88.ext hC).all)) (zam _) (zx 41 (zp (zcb 3 _ (by first | omega | decide | exact UInt8.toNat_lt _)) ?_))
  rintro _ w91 ⟨rfl,hEw91⟩
  have hzw91:=hEw91.size
  refine ⟨.inr hEw91, ?_⟩
  refine zn (hw:=hEw91) hT1013 43 (vA (zM wR1)) (zag (Instr.build 68 #[(0,(vB 1)),(1,(vA (zbf (za2 3)))),(2,(vA (zR (mkD 3))))]) (fun w' hC=>(zdb 1 (za2 3) (mkD 3) (by decide)).trans (congrArg (fun z:Rec=>Result.ok (Value.agg (zM z).toArray) _) (show (⟨1,(za2 3),(mkD 3),by decide⟩:Rec)=wR1 from rfl)))) (zn (hw:=hEw91) hT1013 44 vF (zag (bo .neq 68 (.tmp 96) (.tmp 99) (vA (zM (wR1))) (vA (zM wR1))) (fun w' hC=>zat (r:=true) (T:=68) ((zdj (dd:=9997) (t:=68) (t8:=5) (tn:=56) (td:=59) (e:=5) (t32:=53) (t64:=54) (wR1) wR1).trans (congrArg (fun b=>Result.ok b _) (show ((wR1).eqb wR1)=true from (Rec.eqb_iff _ _).2 rfl))))) (zg (hw:=hEw91) hT1013 [(45,101,vF),(46,102,vF),(47,103,(vP w15.heap.size 1))] 3 ?_))
  have hK89:=((((hBw86.ext hEw87).ext hEw88).ext hEw89).ext hEw90)
  refine zA (hw:=hEw91) hT1013 48 w15.heap.size 1 (fun w' hC=>((hK89.ext hC).cell rfl)) (zg (hw:=hEw91) hT1013 [(49,105,(vI (tot 5)))] 1 (zn (hw:=hEw91) hT1013 50 vF (zaN ((((tot 5):Nat):Int) !=((3:Nat):Int)) (zax)) (zg (hw:=hEw91) hT1013 [(51,107,vF)] 1 (zE (zb (zh (zk (zb (ze ?_)))))))))
  refine zd (zc 1 [(108,(vA (zJ (Nod.mt 0 1))))] (zal (zJ (Nod.mt 0 1)) 74 (zQ _) (zb0 _) ?_))
  intro w92 hBw92 hEw92 hzw92 hlw92
  refine zf (zb (ze (zd ?_)))
  have hK90:=(((hBw89.ext hEw90).ext hEw91).ext hEw92)
  refine za (zT w88.heap.size 0 (hK90.all) (zZ _) ?_)
  refine zc 1 [(110,(vP w91.heap.size 2))] (za (zbg w91.heap.size 2 0 4 35 ?_))
  refine za (zG 68 w91.heap.size (2+0*35) 74 (vA (zM (wR1))) (zJ (Nod.mt 0 1)) (zM (wR1)) hBw92 (by rw [zZ];kernel_rfl) (by first |(simp;done)|(simp;omega)) (zbb _) ?_)
  intro w93 hBw93 hCw93
  have hzw93:=hCw93.size
  rw [show (zV (zJ (Nod.mt 0 1)) (2+0*35) (zM (wR1)):List Value)=zJ ((Nod.mt 0 1).setR 0 (wR1)) from nod_setR (by omega)] at hBw93
  refine zf (zb (ze (ze (zab 11 (fun w94 hEw94 hzw94 hT1082=> ?_)))))
  refine zg hT1082 [(0,112,(vP w15.heap.size 1))] 1 ?_
  have hK91:=((((hK89.ext hEw91).ext hEw92).chg hCw93).ext hEw94)
  refine zA hT1082 1 w15.heap.size 1 (fun w' hC=>((hK91.ext hC).cell rfl)) ?_
  obtain ⟨b12,o12,rfl⟩:=hFz40_0.addr (by omega) (by decide)
  refine zas hT1082 2 b12 o12 (tot 5) (tot 5) 2 280 (zg hT1082 [(3,115,(vP b12 (o12+2*280))),(4,116,(vP b12 (o12+2*280+142)))] 2 (zaP hT1082 5 b12 (o12+2*280+142) 1 4 33 ?_))
  have hK92:=(((((((((hFz40_0.chg hCw86).ext hEw87).ext hEw88).ext hEw89).ext hEw90).ext hEw91).ext hEw92).chg hCw93).ext hEw94)
  refine zan hT1082 6 b12 (o12+2*280+142+1*33) (fun w' hC=>(((hK92.ext hC).at Un.zero (by omega)).sub2 142 _ (zai ((wT1.getD 2 Un.zero).nd.es.get 1)) (znl (by omega)))) (zaK _) (zan hT1082 7 w91.heap.size 0 (fun w' hC=>(((hBw93.ext hEw94).ext hC).all)) (zQ _) (zx 8 (zp (zfA ((Nod.mt 0 1).setR 0 (wR1)) _) ?_)))
  rintro _ w95 ⟨rfl,hEw95⟩
  have hzw95:=hEw95.size
  refine ⟨.inr hEw95, ?_⟩
  refine zn (hw:=hEw95) hT1082 9 (vA (zai (⟨1,(zS (zN ((Nod.mt 0 1).setR 0 (wR1)))),by decide⟩))) (zag (Instr.build 71 #[(0,(vB 1)),(1,(vA (zR (zS (zN ((Nod.mt 0 1).setR 0 (wR1)))))))]) (fun w' hC=>zcA 1 (zS (zN ((Nod.mt 0 1).setR 0 (wR1)))) (by decide))) (zn (hw:=hEw95) hT1082 10 vF (zag (bo .neq 71 (.tmp 118) (.tmp 121) (vA (zai ((wT1.getD 2 Un.zero).nd.es.get 1))) (vA (zai (⟨1,(zS (zN ((Nod.mt 0 1).setR 0 (wR1)))),by decide⟩)))) (fun w' hC=>zat (r:=true) (T:=71) ((zcs (dd:=9997) (t:=71) (t8:=5) (td:=59) (e:=5) ((wT1.getD 2 Un.zero).nd.es.get 1) (⟨1,(zS (zN ((Nod.mt 0 1).setR 0 (wR1)))),by decide⟩)).trans (congrArg (fun b=>Result.ok b _) (show (((wT1.getD 2 Un.zero).nd.es.get 1).eqb (⟨1,(zS (zN ((Nod.mt 0 1).setR 0 (wR1)))),by decide⟩))=true from (Ent.eqb_iff _ _).2 zqw))))) (zE (zb (zh (zk (zb (ze (zab 12 (fun w96 hEw96 hzw96 hT1105=> ?_)))))))))
  refine zaO hT1105 0 w15.heap.size 0 (fun w' hC=>((((hK91.ext hEw95).ext hEw96).ext hC).all)) ?_
  have hK93:=((((((((((((((((((((hBw6.ext hEw7).ext hEw8).ext hEw9).ext hEw10).ext hEw11).ext hEw12).ext hEw13).ext hEw14).ext hEw15).ext hX33).ext hEw87).ext hEw88).ext hEw89).ext hEw90).ext hEw91).ext hEw92).chg hCw93).ext hEw94).ext hEw95).ext hEw96)
  refine zan hT1105 2 w3.heap.size 0 (fun w' hC=>((hK93.ext hC).all)) (zam _) (zbt 1 8 ?_ ?_)
  ·refine zp (zcb 4 _ (by first | omega | decide | exact UInt8.toNat_lt _)) ?_
   rintro _ w97 ⟨rfl,hEw97⟩
   have hzw97:=hEw97.size
   refine ⟨.inr hEw97, ?_⟩
   refine zbt 3 8 ?_ ?_
   ·have hK94:=(((hK92.ext hEw95).ext hEw96).ext hEw97)
    have hK95:=((((((((((hK84.ext hEw88).ext hEw89).ext hEw90).ext hEw91).ext hEw92).chg hCw93).ext hEw94).ext hEw95).ext hEw96).ext hEw97)
    have hK96:=((((((((((hK85.ext hEw88).ext hEw89).ext hEw90).ext hEw91).ext hEw92).chg hCw93).ext hEw94).ext hEw95).ext hEw96).ext hEw97)
    have hK97:=((((((((((hK86.ext hEw88).ext hEw89).ext hEw90).ext hEw91).ext hEw92).chg hCw93).ext hEw94).ext hEw95).ext hEw96).ext hEw97)
    refine zp (zcY 5 4 (za2 4) (mkD 4) _ hK94 (by first | omega | decide) (by first | omega | decide) (by first | omega | decide) (zba wO1) (zaV (n:=5) wO1 rfl) (by first | omega | decide) hK95 hK96 hK97) ?_
    rintro _ w98 ⟨a21,rfl,hFz46_0,hEw98⟩
    have hzw98:=hEw98.size
    have hlea21:=hFz46_0.le
    rw [show zc4 5 wT1 4 (za2 4) (mkD 4)=wT2 from wE1] at hFz46_0
    rw [show (zaZ (wT1.getD (4/4) Un.zero) (4%4))=0 from wG1]
    have hX34:Ext w96 w98:=(hEw97.trans hEw98)
    refine ⟨.inr hX34, ?_⟩
    refine zg (hw:=hX34) hT1105 [(4,123,(.tuple #[(vA [(vI 5),(.slice a21 (tot 5) (tot 5))]),(vI 0),(vI 0)])),(5,128,(vA [(vI 5),(.slice a21 (tot 5) (tot 5))])),(6,129,(vI 0)),(7,130,(vI 0))] 4 (zx 8 (zaf ([(vI 0),(.slice none 0 0)]) 38 ?_))
    intro w99 hBw99 hEw99 hzw99 hlw99
    have hX35:Ext w96 w99:=((hEw97.trans hEw98).trans hEw99)
    refine ⟨.inr hX35, ?_⟩
    refine zx 9 (zG 38 w98.heap.size 0 38 (vA [(vI 5),(.slice a21 (tot 5) (tot 5))]) ([(vI 0),(.slice none 0 0)]) ([(vI 5),(.slice a21 (tot 5) (tot 5))]) hBw99 (by kernel_rfl) (by first | decide |(simp;done)|(simp;omega)) (by simp [Value.oneCell']) ?_)
    intro w100 hBw100 hCw100
    have hzw100:=hCw100.size
    rw [zy _ _ (by kernel_rfl)] at hBw100
    have hX36:Ext w96 w100:=(Ext.own ((hEw97.trans hEw98).trans hEw99) hCw100 (by omega))
    refine ⟨.inr hX36, ?_⟩
    refine zg (hw:=hX36) hT1105 [(10,10,(vI 0)),(11,4,(vI 0))] 2 (zE (zb (ze (zd (za (zO w98.heap.size 0 (hBw100.all) ?_))))))
    have hK98:=(((hK95.ext hEw98).ext hEw99).chg hCw100)
    have hK99:=(((hK96.ext hEw98).ext hEw99).chg hCw100)
    have hK100:=(((hK97.ext hEw98).ext hEw99).chg hCw100)
    refine za (zp (zeo 5 _ ((hFz46_0.ext hEw99).chg hCw100) (by first | omega | decide) (by first | omega | decide) (by first | omega | decide) (zba wO2) (zaV (n:=5) wO2 rfl) hK98 hK99 hK100) ?_)
    rintro _ w101 ⟨a22,rfl,hFz47_0,hEw101⟩
    have hzw101:=hEw101.size
    have hlea22:=hFz47_0.le
    rw [show zc8 (tot 5) wT2=wT3 from wE2] at hFz47_0
    refine zc 3 [(135,(vI 0)),(134,(vA [(vI 5),(.slice a22 (tot 5) (tot 5))])),(131,(.tuple #[(vA [(vI 5),(.slice a22 (tot 5) (tot 5))]),(vI 0)]))] (zal ([(vI 5),(.slice a22 (tot 5) (tot 5))]) 38 rfl (by simp [Value.oneCell']) ?_)
    intro w102 hBw102 hEw102 hzw102 hlw102
    refine zc 1 [(6,(vI 0))] (zf (zb (ze (zd (za (zO w101.heap.size 0 (hBw102.all) ?_))))))
    refine za (zp (zer 5 4 _ (hFz47_0.ext hEw102) (by first | omega | decide) (by first | omega | decide) (by first | omega | decide) (zba wO3) (zaV (n:=5) wO3 rfl) (by first | omega | decide) ((hK98.ext hEw101).ext hEw102) ((hK99.ext hEw101).ext hEw102) ((hK100.ext hEw101).ext hEw102)) ?_)
    rintro _ w103 ⟨rfl,hEw103⟩
    have hzw103:=hEw103.size
    rw [show zaZ (wT3.getD (4/4) Un.zero) (4%4)=1 from wG3]
    refine zc 5 [(8,(vI 0)),(7,(vI 1)),(140,(vI 0)),(139,(vI 1)),(136,(.tuple #[(vI 1),(vI 0)]))] (zf (zb (ze (zd (zc 2 [(142,(vI 0)),(141,(vI 0))] (za (zo (some 143) .i64 (IntKind.i64.wrap (((0:Nat):Int)+((0:Nat):Int))) 0 (zu) ?_)))))))
    refine zc 1 [(144,(vI 0))] (za (zo (some 145) .i64 (IntKind.i64.wrap (((0:Nat):Int)+((0:Nat):Int))) 0 (zu) ?_))
    refine zc 3 [(148,(vI 0)),(147,vT),(146,vT)] (za (zae (some 149) (((0:Nat):Int)==((0:Nat):Int)) true (zaq) ?_))
    refine zc 3 [(152,(vI 1)),(151,vT),(150,vT)] (za (zae (some 153) (((1:Nat):Int)==((1:Nat):Int)) true (zaq) ?_))
    refine zc 3 [(156,(vP w101.heap.size 1)),(155,vT),(154,vT)] (za (zm w101.heap.size 1 ((hBw102.ext hEw103).cell rfl) ?_))
    refine zc 1 [(158,(vI (tot 5)))] (za (zae (some 159) ((((tot 5):Nat):Int)==((3:Nat):Int)) true (zaq) ?_))
    refine zc 3 [(162,(vP w101.heap.size 1)),(161,vT),(160,vT)] (za (zm w101.heap.size 1 ((hBw102.ext hEw103).cell rfl) ?_))
    obtain ⟨b13,o13,rfl⟩:=hFz47_0.addr (by omega) (by decide)
    refine za (zah b13 o13 (tot 5) (tot 5) 1 280 ?_)
    refine zc 1 [(165,(vP b13 (o13+1*280+274)))] (za (zm b13 (o13+1*280+274) (((hFz47_0.ext hEw102).ext hEw103).cell (j:=274) (i:=1) Un.zero (by omega) (zbU _)) ?_))
    refine za (zae (some 167) ((wT3.getD 1 Un.zero).sl==((0:Nat):Int)) true (zaq) ?_)
    refine zc 3 [(170,(vP w101.heap.size 1)),(169,vT),(168,vT)] (za (zm w101.heap.size 1 ((hBw102.ext hEw103).cell rfl) ?_))
    refine za (zah b13 o13 (tot 5) (tot 5) 2 280 ?_)
    refine zc 1 [(173,(vP b13 (o13+2*280+274)))] (za (zm b13 (o13+2*280+274) (((hFz47_0.ext hEw102).ext hEw103).cell (j:=274) (i:=2) Un.zero (by omega) (zbU _)) ?_))
    refine za (zae (some 175) ((wT3.getD 2 Un.zero).sl==((1:Nat):Int)) true (zaq) ?_)
    refine zc 2 [(0,vT),(176,vT)] (zf (zb (zj (zl vT ?_))))
    have hX37:Ext w w103:=((((((((Ext.own (((((((((((((((((Ext.own (Ext.own (((hEw1.trans hEw2).trans hEw3).trans hEw4) hCw5 (by omega)) hCw6 (by omega)).trans hEw7).trans hEw8).trans hEw9).trans hEw10).trans hEw11).trans hEw12).trans hEw13).trans hEw14).trans hEw15).trans hX33).trans hEw87).trans hEw88).trans hEw89).trans hEw90).trans hEw91).trans hEw92) hCw93 (by omega)).trans hEw94).trans hEw95).trans hEw96).trans hX36).trans hEw101).trans hEw102).trans hEw103)
    exact ⟨rfl,hX37⟩
   ·refine zaf ([(vI 0),(.slice none 0 0)]) 38 ?_
    intro w104 hBw104 hEw104 hzw104 hlw104
    have hX38:Ext w96 w104:=(hEw97.trans hEw104)
    refine ⟨.inr hX38, ?_⟩
    have hK101:=((((hK92.ext hEw95).ext hEw96).ext hEw97).ext hEw104)
    have hK102:=(((((((((((hK84.ext hEw88).ext hEw89).ext hEw90).ext hEw91).ext hEw92).chg hCw93).ext hEw94).ext hEw95).ext hEw96).ext hEw97).ext hEw104)
    have hK103:=(((((((((((hK85.ext hEw88).ext hEw89).ext hEw90).ext hEw91).ext hEw92).chg hCw93).ext hEw94).ext hEw95).ext hEw96).ext hEw97).ext hEw104)
    have hK104:=(((((((((((hK86.ext hEw88).ext hEw89).ext hEw90).ext hEw91).ext hEw92).chg hCw93).ext hEw94).ext hEw95).ext hEw96).ext hEw97).ext hEw104)
    refine zx 3 (zp (zcY 5 4 (za2 4) (mkD 4) _ hK101 (by first | omega | decide) (by first | omega | decide) (by first | omega | decide) (zba wO1) (zaV (n:=5) wO1 rfl) (by first | omega | decide) hK102 hK103 hK104) ?_)
    rintro _ w105 ⟨a23,rfl,hFz49_0,hEw105⟩
    have hzw105:=hEw105.size
    have hlea23:=hFz49_0.le
    rw [show zc4 5 wT1 4 (za2 4) (mkD 4)=wT2 from wE1] at hFz49_0
    rw [show (zaZ (wT1.getD (4/4) Un.zero) (4%4))=0 from wG1]
    have hX39:Ext w96 w105:=((hEw97.trans hEw104).trans hEw105)
    refine ⟨.inr hX39, ?_⟩
    refine zg (hw:=hX39) hT1105 [(4,123,(.tuple #[(vA [(vI 5),(.slice a23 (tot 5) (tot 5))]),(vI 0),(vI 0)])),(5,128,(vA [(vI 5),(.slice a23 (tot 5) (tot 5))])),(6,129,(vI 0)),(7,130,(vI 0))] 4 (zx 9 (zG 38 w97.heap.size 0 38 (vA [(vI 5),(.slice a23 (tot 5) (tot 5))]) ([(vI 0),(.slice none 0 0)]) ([(vI 5),(.slice a23 (tot 5) (tot 5))]) (hBw104.ext hEw105) (by kernel_rfl) (by first | decide |(simp;done)|(simp;omega)) (by simp [Value.oneCell']) ?_))
    intro w106 hBw106 hCw106
    have hzw106:=hCw106.size
    rw [zy _ _ (by kernel_rfl)] at hBw106
    have hX40:Ext w96 w106:=(Ext.own ((hEw97.trans hEw104).trans hEw105) hCw106 (by omega))
    refine ⟨.inr hX40, ?_⟩
    refine zg (hw:=hX40) hT1105 [(10,10,(vI 0)),(11,4,(vI 0))] 2 (zE (zb (ze (zd (za (zO w97.heap.size 0 (hBw106.all) ?_))))))
    refine za (zp (zeo 5 _ (hFz49_0.chg hCw106) (by first | omega | decide) (by first | omega | decide) (by first | omega | decide) (zba wO2) (zaV (n:=5) wO2 rfl) ((hK102.ext hEw105).chg hCw106) ((hK103.ext hEw105).chg hCw106) ((hK104.ext hEw105).chg hCw106)) ?_)
    rintro _ w107 ⟨a24,rfl,hFz50_0,hEw107⟩
    have hzw107:=hEw107.size
    have hlea24:=hFz50_0.le
    rw [show zc8 (tot 5) wT2=wT3 from wE2] at hFz50_0
    refine zc 3 [(135,(vI 0)),(134,(vA [(vI 5),(.slice a24 (tot 5) (tot 5))])),(131,(.tuple #[(vA [(vI 5),(.slice a24 (tot 5) (tot 5))]),(vI 0)]))] (zal ([(vI 5),(.slice a24 (tot 5) (tot 5))]) 38 rfl (by simp [Value.oneCell']) ?_)
    intro w108 hBw108 hEw108 hzw108 hlw108
    refine zc 1 [(6,(vI 0))] (zf (zb (ze (zd (za (zO w107.heap.size 0 (hBw108.all) ?_))))))
    have hK105:=((((hK102.ext hEw105).chg hCw106).ext hEw107).ext hEw108)
    have hK106:=((((hK103.ext hEw105).chg hCw106).ext hEw107).ext hEw108)
    have hK107:=((((hK104.ext hEw105).chg hCw106).ext hEw107).ext hEw108)
    refine za (zp (zer 5 4 _ (hFz50_0.ext hEw108) (by first | omega | decide) (by first | omega | decide) (by first | omega | decide) (zba wO3) (zaV (n:=5) wO3 rfl) (by first | omega | decide) hK105 hK106 hK107) ?_)
    rintro _ w109 ⟨rfl,hEw109⟩
    have hzw109:=hEw109.size
    rw [show zaZ (wT3.getD (4/4) Un.zero) (4%4)=1 from wG3]
    refine zc 5 [(8,(vI 0)),(7,(vI 1)),(140,(vI 0)),(139,(vI 1)),(136,(.tuple #[(vI 1),(vI 0)]))] (zf (zb (ze (zd (zc 2 [(142,(vI 0)),(141,(vI 0))] (za (zo (some 143) .i64 (IntKind.i64.wrap (((0:Nat):Int)+((0:Nat):Int))) 0 (zu) ?_)))))))
    refine zc 1 [(144,(vI 0))] (za (zo (some 145) .i64 (IntKind.i64.wrap (((0:Nat):Int)+((0:Nat):Int))) 0 (zu) ?_))
    refine zc 3 [(148,(vI 0)),(147,vT),(146,vT)] (za (zae (some 149) (((0:Nat):Int)==((0:Nat):Int)) true (zaq) ?_))
    refine zc 3 [(152,(vI 1)),(151,vT),(150,vT)] (za (zae (some 153) (((1:Nat):Int)==((1:Nat):Int)) true (zaq) ?_))
    refine zc 3 [(156,(vP w107.heap.size 1)),(155,vT),(154,vT)] (za (zm w107.heap.size 1 ((hBw108.ext hEw109).cell rfl) ?_))
    refine zc 1 [(158,(vI (tot 5)))] (za (zae (some 159) ((((tot 5):Nat):Int)==((3:Nat):Int)) true (zaq) ?_))
    refine zc 3 [(162,(vP w107.heap.size 1)),(161,vT),(160,vT)] (za (zm w107.heap.size 1 ((hBw108.ext hEw109).cell rfl) ?_))
    obtain ⟨b14,o14,rfl⟩:=hFz50_0.addr (by omega) (by decide)
    refine za (zah b14 o14 (tot 5) (tot 5) 1 280 ?_)
    refine zc 1 [(165,(vP b14 (o14+1*280+274)))] (za (zm b14 (o14+1*280+274) (((hFz50_0.ext hEw108).ext hEw109).cell (j:=274) (i:=1) Un.zero (by omega) (zbU _)) ?_))
    refine za (zae (some 167) ((wT3.getD 1 Un.zero).sl==((0:Nat):Int)) true (zaq) ?_)
    refine zc 3 [(170,(vP w107.heap.size 1)),(169,vT),(168,vT)] (za (zm w107.heap.size 1 ((hBw108.ext hEw109).cell rfl) ?_))
    refine za (zah b14 o14 (tot 5) (tot 5) 2 280 ?_)
    refine zc 1 [(173,(vP b14 (o14+2*280+274)))] (za (zm b14 (o14+2*280+274) (((hFz50_0.ext hEw108).ext hEw109).cell (j:=274) (i:=2) Un.zero (by omega) (zbU _)) ?_))
    refine za (zae (some 175) ((wT3.getD 2 Un.zero).sl==((1:Nat):Int)) true (zaq) ?_)
    refine zc 2 [(0,vT),(176,vT)] (zf (zb (zj (zl vT ?_))))
    have hX41:Ext w w109:=((((((((Ext.own (((((((((((((((((Ext.own (Ext.own (((hEw1.trans hEw2).trans hEw3).trans hEw4) hCw5 (by omega)) hCw6 (by omega)).trans hEw7).trans hEw8).trans hEw9).trans hEw10).trans hEw11).trans hEw12).trans hEw13).trans hEw14).trans hEw15).trans hX33).trans hEw87).trans hEw88).trans hEw89).trans hEw90).trans hEw91).trans hEw92) hCw93 (by omega)).trans hEw94).trans hEw95).trans hEw96).trans hX40).trans hEw107).trans hEw108).trans hEw109)
    exact ⟨rfl,hX41⟩
  ·refine zaf ([(vI 0),(.slice none 0 0)]) 38 ?_
   intro w110 hBw110 hEw110 hzw110 hlw110
   refine ⟨.inr hEw110, ?_⟩
   refine zx 1 (zp (zcb 4 _ (by first | omega | decide | exact UInt8.toNat_lt _)) ?_)
   rintro _ w111 ⟨rfl,hEw111⟩
   have hzw111:=hEw111.size
   have hX42:Ext w96 w111:=(hEw110.trans hEw111)
   refine ⟨.inr hX42, ?_⟩
   have hK108:=((((hK92.ext hEw95).ext hEw96).ext hEw110).ext hEw111)
   have hK109:=(((((((((((hK84.ext hEw88).ext hEw89).ext hEw90).ext hEw91).ext hEw92).chg hCw93).ext hEw94).ext hEw95).ext hEw96).ext hEw110).ext hEw111)
   have hK110:=(((((((((((hK85.ext hEw88).ext hEw89).ext hEw90).ext hEw91).ext hEw92).chg hCw93).ext hEw94).ext hEw95).ext hEw96).ext hEw110).ext hEw111)
   have hK111:=(((((((((((hK86.ext hEw88).ext hEw89).ext hEw90).ext hEw91).ext hEw92).chg hCw93).ext hEw94).ext hEw95).ext hEw96).ext hEw110).ext hEw111)
   refine zx 3 (zp (zcY 5 4 (za2 4) (mkD 4) _ hK108 (by first | omega | decide) (by first | omega | decide) (by first | omega | decide) (zba wO1) (zaV (n:=5) wO1 rfl) (by first | omega | decide) hK109 hK110 hK111) ?_)
   rintro _ w112 ⟨a25,rfl,hFz53_0,hEw112⟩
   have hzw112:=hEw112.size
   have hlea25:=hFz53_0.le
   rw [show zc4 5 wT1 4 (za2 4) (mkD 4)=wT2 from wE1] at hFz53_0
   rw [show (zaZ (wT1.getD (4/4) Un.zero) (4%4))=0 from wG1]
   have hX43:Ext w96 w112:=((hEw110.trans hEw111).trans hEw112)
   refine ⟨.inr hX43, ?_⟩
   refine zg (hw:=hX43) hT1105 [(4,123,(.tuple #[(vA [(vI 5),(.slice a25 (tot 5) (tot 5))]),(vI 0),(vI 0)])),(5,128,(vA [(vI 5),(.slice a25 (tot 5) (tot 5))])),(6,129,(vI 0)),(7,130,(vI 0))] 4 (zx 9 (zG 38 w96.heap.size 0 38 (vA [(vI 5),(.slice a25 (tot 5) (tot 5))]) ([(vI 0),(.slice none 0 0)]) ([(vI 5),(.slice a25 (tot 5) (tot 5))]) ((hBw110.ext hEw111).ext hEw112) (by kernel_rfl) (by first | decide |(simp;done)|(simp;omega)) (by simp [Value.oneCell']) ?_))
   intro w113 hBw113 hCw113
   have hzw113:=hCw113.size
   rw [zy _ _ (by kernel_rfl)] at hBw113
   have hX44:Ext w96 w113:=(Ext.own ((hEw110.trans hEw111).trans hEw112) hCw113 (by omega))
   refine ⟨.inr hX44, ?_⟩
   refine zg (hw:=hX44) hT1105 [(10,10,(vI 0)),(11,4,(vI 0))] 2 (zE (zb (ze (zd (za (zO w96.heap.size 0 (hBw113.all) ?_))))))
   refine za (zp (zeo 5 _ (hFz53_0.chg hCw113) (by first | omega | decide) (by first | omega | decide) (by first | omega | decide) (zba wO2) (zaV (n:=5) wO2 rfl) ((hK109.ext hEw112).chg hCw113) ((hK110.ext hEw112).chg hCw113) ((hK111.ext hEw112).chg hCw113)) ?_)
   rintro _ w114 ⟨a26,rfl,hFz54_0,hEw114⟩
   have hzw114:=hEw114.size
   have hlea26:=hFz54_0.le
   rw [show zc8 (tot 5) wT2=wT3 from wE2] at hFz54_0
   refine zc 3 [(135,(vI 0)),(134,(vA [(vI 5),(.slice a26 (tot 5) (tot 5))])),(131,(.tuple #[(vA [(vI 5),(.slice a26 (tot 5) (tot 5))]),(vI 0)]))] (zal ([(vI 5),(.slice a26 (tot 5) (tot 5))]) 38 rfl (by simp [Value.oneCell']) ?_)
   intro w115 hBw115 hEw115 hzw115 hlw115
   refine zc 1 [(6,(vI 0))] (zf (zb (ze (zd (za (zO w114.heap.size 0 (hBw115.all) ?_))))))
   have hK112:=((((hK109.ext hEw112).chg hCw113).ext hEw114).ext hEw115)
   have hK113:=((((hK110.ext hEw112).chg hCw113).ext hEw114).ext hEw115)
   have hK114:=((((hK111.ext hEw112).chg hCw113).ext hEw114).ext hEw115)
   refine za (zp (zer 5 4 _ (hFz54_0.ext hEw115) (by first | omega | decide) (by first | omega | decide) (by first | omega | decide) (zba wO3) (zaV (n:=5) wO3 rfl) (by first | omega | decide) hK112 hK113 hK114) ?_)
   rintro _ w116 ⟨rfl,hEw116⟩
   have hzw116:=hEw116.size
   rw [show zaZ (wT3.getD (4/4) Un.zero) (4%4)=1 from wG3]
   refine zc 5 [(8,(vI 0)),(7,(vI 1)),(140,(vI 0)),(139,(vI 1)),(136,(.tuple #[(vI 1),(vI 0)]))] (zf (zb (ze (zd (zc 2 [(142,(vI 0)),(141,(vI 0))] (za (zo (some 143) .i64 (IntKind.i64.wrap (((0:Nat):Int)+((0:Nat):Int))) 0 (zu) ?_)))))))
   refine zc 1 [(144,(vI 0))] (za (zo (some 145) .i64 (IntKind.i64.wrap (((0:Nat):Int)+((0:Nat):Int))) 0 (zu) ?_))
   refine zc 3 [(148,(vI 0)),(147,vT),(146,vT)] (za (zae (some 149) (((0:Nat):Int)==((0:Nat):Int)) true (zaq) ?_))
   refine zc 3 [(152,(vI 1)),(151,vT),(150,vT)] (za (zae (some 153) (((1:Nat):Int)==((1:Nat):Int)) true (zaq) ?_))
   refine zc 3 [(156,(vP w114.heap.size 1)),(155,vT),(154,vT)] (za (zm w114.heap.size 1 ((hBw115.ext hEw116).cell rfl) ?_))
   refine zc 1 [(158,(vI (tot 5)))] (za (zae (some 159) ((((tot 5):Nat):Int)==((3:Nat):Int)) true (zaq) ?_))
   refine zc 3 [(162,(vP w114.heap.size 1)),(161,vT),(160,vT)] (za (zm w114.heap.size 1 ((hBw115.ext hEw116).cell rfl) ?_))
   obtain ⟨b15,o15,rfl⟩:=hFz54_0.addr (by omega) (by decide)
   refine za (zah b15 o15 (tot 5) (tot 5) 1 280 ?_)
   refine zc 1 [(165,(vP b15 (o15+1*280+274)))] (za (zm b15 (o15+1*280+274) (((hFz54_0.ext hEw115).ext hEw116).cell (j:=274) (i:=1) Un.zero (by omega) (zbU _)) ?_))
   refine za (zae (some 167) ((wT3.getD 1 Un.zero).sl==((0:Nat):Int)) true (zaq) ?_)
   refine zc 3 [(170,(vP w114.heap.size 1)),(169,vT),(168,vT)] (za (zm w114.heap.size 1 ((hBw115.ext hEw116).cell rfl) ?_))
   refine za (zah b15 o15 (tot 5) (tot 5) 2 280 ?_)
   refine zc 1 [(173,(vP b15 (o15+2*280+274)))] (za (zm b15 (o15+2*280+274) (((hFz54_0.ext hEw115).ext hEw116).cell (j:=274) (i:=2) Un.zero (by omega) (zbU _)) ?_))
   refine za (zae (some 175) ((wT3.getD 2 Un.zero).sl==((1:Nat):Int)) true (zaq) ?_)
   refine zc 2 [(0,vT),(176,vT)] (zf (zb (zj (zl vT ?_))))
   have hX45:Ext w w116:=((((((((Ext.own (((((((((((((((((Ext.own (Ext.own (((hEw1.trans hEw2).trans hEw3).trans hEw4) hCw5 (by omega)) hCw6 (by omega)).trans hEw7).trans hEw8).trans hEw9).trans hEw10).trans hEw11).trans hEw12).trans hEw13).trans hEw14).trans hEw15).trans hX33).trans hEw87).trans hEw88).trans hEw89).trans hEw90).trans hEw91).trans hEw92) hCw93 (by omega)).trans hEw94).trans hEw95).trans hEw96).trans hX44).trans hEw114).trans hEw115).trans hEw116)
   exact ⟨rfl,hX45⟩
end Go.Proofs.YtkmhgepdhilllaaGreatDoor
namespace Go.Proofs.YtkmhgepdhilllaaGreatDoor
open Go Go.RowKit Go.Cs
set_option maxRecDepth 100000
end Go.Proofs.YtkmhgepdhilllaaGreatDoor
namespace Go.Proofs.YtkmhgepdhilllaaGreatDoor
open Go Go.RowKit Go.Cs
set_option maxRecDepth 100000
end Go.Proofs.YtkmhgepdhilllaaGreatDoor
namespace Go.Proofs.YtkmhgepdhilllaaGreatDoor
open Go Go.RowKit Go.Cs
set_option maxRecDepth 100000
set_option maxHeartbeats 4000000 in
theorem zzs (k:Nat) {lo_p hi_p:Nat} {a_p:Option Addr} {n_p c_p:Nat} {p:List (UInt8×UInt8)} {lo_s hi_s:Nat} {a_s:Option Addr} {n_s c_s:Nat} {s:List UInt8} {lo_q hi_q:Nat} {a_q:Option Addr} {n_q c_q:Nat} {q:List (UInt8×UInt8)} (e:Nat) (w:World) (h_p:Ms b2C 2 lo_p hi_p w a_p n_p c_p p) (h_s:Bs lo_s hi_s w a_s n_s c_s s) (h_q:Ms b2C 2 lo_q hi_q w a_q n_q c_q q) (hp0:k<256) (hp1:e<256) (hg0:Gl 0 [vI 45,vI 33] w) (hg1:Gl 1 (w8C zbp) w) (hg2:Gl 3 (zay kA) w) (hg3:Gl 2 [.iface 227 (.agg #[.pointer (some ⟨4,160,none⟩)])] w):
  Calls Tryz.prog 8 #[(vA [(vB k),(.slice a_p n_p c_p),(.slice a_s n_s c_s),(.slice a_q n_q c_q)]),(vB e)] w (Ret fun r w'=>r=vT∧Ext w w'):=by
 refine zD (n:=214) (σ:= [(0,(vA [(vB k),(.slice a_p n_p c_p),(.slice a_s n_s c_s),(.slice a_q n_q c_q)])),(1,(vB e))]) Tryz.func8 rfl ?_
 replace h_p:=h_p.now;have hle_p:=h_p.le
 replace h_s:=h_s.now;have hle_s:=h_s.le
 replace h_q:=h_q.now;have hle_q:=h_q.le
 have hgl0:=hg0.lt
 have hgl1:=hg1.lt
 have hgl2:=hg2.lt
 have hgl3:=hg3.lt
 have hbk:=zgJ k
 have h5:=zar (zt k)
 have hts:=zaB (n:=zt k) (by omega)
 have htp:=zcF (n:=zt k) (by omega) (by omega)
 refine ze (zd (za (zaa (Instr.box 27 (vA [(vB k),(.slice a_p n_p c_p),(.slice a_s n_s c_s),(.slice a_q n_q c_q)])) (vP w.heap.size 0) ([(vB k),(.slice a_p n_p c_p),(.slice a_s n_s c_s),(.slice a_q n_q c_q)]) 27 ?_)))
 intro w1 hBw1 hEw1 hzw1 hlw1
 refine zc 1 [(4,vF)] (zf (zb (ze (zd (za (zO w.heap.size 0 (hBw1.all) ?_))))))
 refine za (zp (zzk k _ (h_p.ext hEw1) (h_s.ext hEw1) (h_q.ext hEw1) (by omega)) ?_)
 rintro _ w2 ⟨a1L,a1C,a1S,a1a,a1b,a1c,a1d,a1e,a1f,rfl,hFz1_0,hFz1_1,hFz1_2,hFz1_3,hFz1_4,hEw2⟩
 have hzw2:=hEw2.size
 have hO:=hFz1_0;have hLn:=hFz1_1;have hl1:=hFz1_2.le;have hl2:=hFz1_3.le;have hl3:=hFz1_4.le
 refine zal ([(.slice a1a (zt k) a1b),(.slice a1c (zt k) a1d),(.slice a1e (tot (zt k)) a1f)]) 34 rfl (by simp [Value.oneCell']) ?_
 intro w3 hBw3 hEw3 hzw3 hlw3
 refine zf (zb (ze (zd (za (zO w2.heap.size 0 (hBw3.all) ?_)))))
 refine za (zp (zic _ (hFz1_2.ext hEw3) (hFz1_3.ext hEw3) (hFz1_4.ext hEw3) (by first | omega | decide) (by first | omega | decide) (by first | omega | decide) (by first | omega | decide) (hO.m.sl)) ?_)
 rintro _ w4 ⟨a2,ca2,rfl,hFz2_0,hEw4⟩
 have hzw4:=hEw4.size
 have hma2:=hFz2_0.ms;have hlea2:=hma2.le
 refine zal ([(vI (zt k)),(.slice a2 (tot (zt k)) ca2)]) 38 rfl (by simp [Value.oneCell']) ?_
 intro w5 hBw5 hEw5 hzw5 hlw5
 refine zf (zb (ze (zd (zc 1 [(30,(vP w2.heap.size 0))] (za (zm w2.heap.size 0 (((hBw3.ext hEw4).ext hEw5).cell rfl) ?_))))))
 refine zc 2 [(7,(vI (zt k))),(32,(vI (zt k)))] (zf (zb (ze (zd (za (zO w4.heap.size 0 (hBw5.all) ?_))))))
 have hK1:=(((((hg0.ext hEw1).ext hEw2).ext hEw3).ext hEw4).ext hEw5)
 have hK2:=(((((hg1.ext hEw1).ext hEw2).ext hEw3).ext hEw4).ext hEw5)
 have hK3:=(((((hg2.ext hEw1).ext hEw2).ext hEw3).ext hEw4).ext hEw5)
 refine za (zp (zkM (zt k) _ (hma2.ext hEw5) (by omega) (by omega) (by omega) (zba hO) (zaV hO hLn) hK1 hK2 hK3) ?_)
 rintro _ w6 ⟨a3,rfl,hFz3_0,hEw6⟩
 have hzw6:=hEw6.size
 have hlea3:=hFz3_0.le
 refine zc 5 [(9,(vI 0)),(8,(.slice a3 (List.length (zbj (zt k) (zaw a1L a1C a1S) (tot (zt k)))) (List.length (zbj (zt k) (zaw a1L a1C a1S) (tot (zt k)))))),(37,(vI 0)),(36,(.slice a3 (List.length (zbj (zt k) (zaw a1L a1C a1S) (tot (zt k)))) (List.length (zbj (zt k) (zaw a1L a1C a1S) (tot (zt k)))))),(33,(.tuple #[(.slice a3 (List.length (zbj (zt k) (zaw a1L a1C a1S) (tot (zt k)))) (List.length (zbj (zt k) (zaw a1L a1C a1S) (tot (zt k))))),(vI 0)]))] (zf (zb (ze (ze (zd (zc 1 [(38,(vI 0))] (za (zae (some 39) (((0:Nat):Int) !=((0:Nat):Int)) false (zax) ?_))))))))
 refine zc 5 [(44,(vI (List.length (zbj (zt k) (zaw a1L a1C a1S) (tot (zt k)))))),(43,(.slice a3 (List.length (zbj (zt k) (zaw a1L a1C a1S) (tot (zt k)))) (List.length (zbj (zt k) (zaw a1L a1C a1S) (tot (zt k)))))),(42,(vI (List.length (zbj (zt k) (zaw a1L a1C a1S) (tot (zt k)))))),(41,(.slice a3 (List.length (zbj (zt k) (zaw a1L a1C a1S) (tot (zt k)))) (List.length (zbj (zt k) (zaw a1L a1C a1S) (tot (zt k)))))),(40,vF)] (za (zae (some 45) (((List.length (zbj (zt k) (zaw a1L a1C a1S) (tot (zt k))):Nat):Int) !=((List.length (zbj (zt k) (zaw a1L a1C a1S) (tot (zt k))):Nat):Int)) false (zax) ?_))
 refine zc 1 [(46,vF)] (zf (zb (zh (zk (zb (ze (zd (zc 1 [(10,(vI 0))] (zf ?_)))))))))
 refine zb (ze (ze (zd (zc 1 [(11,(vI 0))] (zf (zb (zr (zU (X:=Nat) (fun v=> [(10,(vI (List.length (zbj (zt k) (zaw a1L a1C a1S) (num (zt k) v))))),(11,(vI v))]) [4,12,47,48,49,50,51,52,53,54,55,56,57,58,59,60,61,62,63,64,65,66,67,68,69,70,71,72,73,74,75,76,77,78,79] (fun v w7=>v≤hgt (zt k)+1∧Ext w6 w7) (fun v=>hgt (zt k)+1-v) 0 (by kernel_rfl) ⟨by omega,Ext.refl _⟩ ?_))))))))
 rintro v dw7 w7 ⟨hv,hEl⟩
 have hzl:=hEl.size
 have hcnv:=zbq (zt k) v
 have hdv:=zmW (zt k) (zaw a1L a1C a1S) (num (zt k) v)
 have hnv:=zbP (n:=(zt k)) (l:=v) (by omega) (by omega)
 refine ze (ze (zd (zc 2 [(48,(vI (zt k))),(47,(vI v))] (za (zp (zgj (zt k) _ (by omega) (by omega)) ?_)))))
 rintro _ _ ⟨rfl,rfl⟩
 refine za (zF (some 50) (decide (((v:Nat):Int)≤((hgt (zt k):Nat):Int))) (fun hc50=> ?_) (fun hc50=> ?_))
 ·replace hc50:v≤hgt (zt k):=by have:=zac hc50;omega
  refine zf (zb (zv (zk (zb (ze (zr (ze (zd (zc 1 [(12,(vI 0))] ?_)))))))))
  refine zf (zb (zr (zU (X:=Nat) (fun j=> [(10,(vI (List.length (zbj (zt k) (zaw a1L a1C a1S) (num (zt k) v+j))))),(12,(vI j))]) [4,53,54,55,56,57,58,59,60,61,62,63,64,65,66,67,68,69,70,71,72,73,74,75,76,77,78,79] (fun j w8=>j≤cnt (zt k) v∧Ext w7 w8) (fun j=>cnt (zt k) v-j) 0 (by kernel_rfl) ⟨Nat.zero_le _,Ext.refl _⟩ ?_)))
  rintro j dw8 w8 ⟨hj,hEm⟩
  have hzm:=hEm.size
  have hdj:=zmW (zt k) (zaw a1L a1C a1S) (num (zt k) v+j)
  refine ze (ze (zd (zc 3 [(55,(vI v)),(54,(vI (zt k))),(53,(vI j))] (za (zp (zfb (zt k) v _ (by omega) (by omega) (by omega)) ?_)))))
  rintro _ _ ⟨rfl,rfl⟩
  refine za (zF (some 57) (decide (((j:Nat):Int)<((cnt (zt k) v:Nat):Int))) (fun hc57=> ?_) (fun hc57=> ?_))
  ·replace hc57:j<cnt (zt k) v:=by have:=zac hc57;omega
   have hjc:j<cnt (zt k) v:=by omega
   have hpl:=zaG (n:=(zt k)) (l:=v) (j:=j) (by omega) hjc
   refine zf (zb (zv (zk (zb (ze (zr (ze (zd ?_))))))))
   have hK4:=(((((hBw3.ext hEw4).ext hEw5).ext hEw6).ext hEl).ext hEm)
   refine za (zO w2.heap.size 0 (hK4.all) ?_)
   refine zc 2 [(62,(vI j)),(61,(vI v))] ?_
   rcases (show drt a1C v j=true∨drt a1C v j=false by cases drt a1C v j<;>simp) with he | he
   ·have hK5:=((((((hFz1_2.ext hEw3).ext hEw4).ext hEw5).ext hEw6).ext hEl).ext hEm)
    have hK6:=((((((hFz1_3.ext hEw3).ext hEw4).ext hEw5).ext hEw6).ext hEl).ext hEm)
    have hK7:=((((((hFz1_4.ext hEw3).ext hEw4).ext hEw5).ext hEw6).ext hEl).ext hEm)
    refine za (zp (zhu v j _ hK5 hK6 hK7 (by omega) (by omega) (by omega)) ?_)
    rintro _ w9 ⟨rfl,hEw9⟩
    have hzw9:=hEw9.size
    rw [show drt a1C v j=true from he]
    refine zf (zb (zv (ze (ze (zd (zc 3 [(66,(vI (List.length (zbj (zt k) (zaw a1L a1C a1S) (tot (zt k)))))),(65,(.slice a3 (List.length (zbj (zt k) (zaw a1L a1C a1S) (tot (zt k)))) (List.length (zbj (zt k) (zaw a1L a1C a1S) (tot (zt k)))))),(64,(vI (List.length (zbj (zt k) (zaw a1L a1C a1S) (num (zt k) v+j)))))] ?_))))))
    have hdl:=zwR (s:=a1S) hLn (by omega) hjc he
    refine za (zae (some 67) (decide ((((List.length (zbj (zt k) (zaw a1L a1C a1S) (num (zt k) v+j))):Nat):Int)≥((List.length (zbj (zt k) (zaw a1L a1C a1S) (tot (zt k))):Nat):Int))) false (zcH) ?_)
    refine zc 3 [(70,(vI (List.length (zbj (zt k) (zaw a1L a1C a1S) (num (zt k) v+j))))),(69,(.slice a3 (List.length (zbj (zt k) (zaw a1L a1C a1S) (tot (zt k)))) (List.length (zbj (zt k) (zaw a1L a1C a1S) (tot (zt k)))))),(68,vF)] ?_
    obtain ⟨b1,o1,rfl⟩:=hFz3_0.addr (by omega) (by decide)
    refine za (zah b1 o1 (List.length (zbj (zt k) (zaw a1L a1C a1S) (tot (zt k)))) (List.length (zbj (zt k) (zaw a1L a1C a1S) (tot (zt k)))) (List.length (zbj (zt k) (zaw a1L a1C a1S) (num (zt k) v+j))) 2 ?_)
    have hK8:=(((hFz3_0.ext hEl).ext hEm).ext hEw9)
    refine za (zO b1 (o1+(List.length (zbj (zt k) (zaw a1L a1C a1S) (num (zt k) v+j)))*2) (hK8.at (0,0) (by omega)) ?_)
    refine zc 3 [(75,(vA [(vI v),(vI j)])),(74,(vI j)),(73,(vI v))] (za (zaM (bo .neq 89 (.tmp 72) (.tmp 75) (vA [(vI (((zbj (zt k) (zaw a1L a1C a1S) (tot (zt k))).getD (List.length (zbj (zt k) (zaw a1L a1C a1S) (num (zt k) v+j))) (0,0)).1)),(vI (((zbj (zt k) (zaw a1L a1C a1S) (tot (zt k))).getD (List.length (zbj (zt k) (zaw a1L a1C a1S) (num (zt k) v+j))) (0,0)).2))]) (vA [(vI v),(vI j)])) vF (zat (r:=true) (T:=89) ((zdL (dd:=9998) (t:=89) [(vI (((zbj (zt k) (zaw a1L a1C a1S) (tot (zt k))).getD (List.length (zbj (zt k) (zaw a1L a1C a1S) (num (zt k) v+j))) (0,0)).1)),(vI (((zbj (zt k) (zaw a1L a1C a1S) (tot (zt k))).getD (List.length (zbj (zt k) (zaw a1L a1C a1S) (num (zt k) v+j))) (0,0)).2))] [(vI v),(vI j)]).trans (congrArg (fun b=>Result.ok b _) (show (zgM [(vI (((zbj (zt k) (zaw a1L a1C a1S) (tot (zt k))).getD (List.length (zbj (zt k) (zaw a1L a1C a1S) (num (zt k) v+j))) (0,0)).1)),(vI (((zbj (zt k) (zaw a1L a1C a1S) (tot (zt k))).getD (List.length (zbj (zt k) (zaw a1L a1C a1S) (num (zt k) v+j))) (0,0)).2))] [(vI v),(vI j)])=true from by rw [hdl.2.1];simp [zgM,eqv])))) ?_))
    refine zc 1 [(77,vF)] (zf (zb (zh (zk (zb (zd (zc 1 [(78,(vI (List.length (zbj (zt k) (zaw a1L a1C a1S) (num (zt k) v+j)))))] (za (zo (some 79) .i64 (IntKind.i64.wrap ((((List.length (zbj (zt k) (zaw a1L a1C a1S) (num (zt k) v+j))):Nat):Int)+((1:Nat):Int))) (List.length (zbj (zt k) (zaw a1L a1C a1S) (num (zt k) v+(j+1)))) (zu (by rw [hdl.2.2];omega)) ?_)))))))))
    refine zc 1 [(10,(vI (List.length (zbj (zt k) (zaw a1L a1C a1S) (num (zt k) v+(j+1))))))] (zf (zi (zb (zd (zc 1 [(58,(vI j))] (za (zo (some 59) .i64 (IntKind.i64.wrap (((j:Nat):Int)+((1:Nat):Int))) (j+1) (zu) ?_)))))))
    refine zc 1 [(12,(vI (j+1)))] (zf (zz (zL (j+1) ?_ ?_)))
    ·exact ⟨by omega,(hEm.trans hEw9)⟩
    ·first | omega |(dsimp only;omega)
   ·have hK9:=((((((hFz1_2.ext hEw3).ext hEw4).ext hEw5).ext hEw6).ext hEl).ext hEm)
    have hK10:=((((((hFz1_3.ext hEw3).ext hEw4).ext hEw5).ext hEw6).ext hEl).ext hEm)
    have hK11:=((((((hFz1_4.ext hEw3).ext hEw4).ext hEw5).ext hEw6).ext hEl).ext hEm)
    refine za (zp (zhu v j _ hK9 hK10 hK11 (by omega) (by omega) (by omega)) ?_)
    rintro _ w10 ⟨rfl,hEw10⟩
    have hzw10:=hEw10.size
    rw [show drt a1C v j=false from he]
    refine zf (zb (zh (zk (zi (zb (zd (zc 1 [(58,(vI j))] (za (zo (some 59) .i64 (IntKind.i64.wrap (((j:Nat):Int)+((1:Nat):Int))) (j+1) (zu) ?_)))))))))
    refine zc 1 [(12,(vI (j+1)))] (zf (zz ?_))
    rw [←zxl hLn (by omega) hjc he]
    refine zL (j+1) ?_ ?_
    ·exact ⟨by omega,(hEm.trans hEw10)⟩
    ·first | omega |(dsimp only;omega)
  ·replace hc57:¬(j<cnt (zt k) v):=by have:=zad hc57;omega
   obtain rfl:j=cnt (zt k) v:=by omega
   rw [←zfT (zt k) v]
   refine zf (zb (zh (zP (zq (zq (zH (zi (zb (zd ?_)))))))))
   refine zc 1 [(51,(vI v))] (za (zo (some 52) .i64 (IntKind.i64.wrap (((v:Nat):Int)+((1:Nat):Int))) (v+1) (zu) ?_))
   refine zc 1 [(11,(vI (v+1)))] (zf (zz (zL (v+1) ?_ ?_)))
   ·exact ⟨by omega,(hEl.trans hEm)⟩
   ·first | omega |(dsimp only;omega)
 ·replace hc50:¬(v≤hgt (zt k)):=by have:=zad hc50;omega
  obtain rfl:v=hgt (zt k)+1:=by omega
  rw [show num (zt k) (hgt (zt k)+1)=tot (zt k) from rfl]
  refine zf (zb (zh (zP (zq (zq (zH (zb (ze (zd ?_)))))))))
  refine zc 1 [(80,(vB e))] (za (zo (some 81) .i64 (IntKind.i64.wrap ((e:Nat):Int)) e (zu rfl) ?_))
  refine zc 1 [(82,(vI (zt k)))] (za (zaM (bo .rem 3 (.tmp 81) (.tmp 82) (vI e) (vI (zt k))) (vI (e%(zt k))) (zrY (by omega)) ?_))
  obtain ⟨i,hi⟩:∃z,z=e%(zt k):=⟨_,rfl⟩
  rw [←hi]
  have hib:i<zt k:=by rw [hi];exact Nat.mod_lt _ (by omega)
  refine zc 1 [(13,(vI i))] (zf (zb (ze (zd (za (zO w4.heap.size 0 (((hBw5.ext hEw6).ext hEl).all) ?_))))))
  refine zc 1 [(86,(vI i))] ?_
  have hK12:=(((hma2.ext hEw5).ext hEw6).ext hEl)
  refine za (zp (zer (zt k) i _ hK12 (by omega) (by omega) (by omega) (zba hO) (zaV hO hLn) (hib) ((hK1.ext hEw6).ext hEl) ((hK2.ext hEw6).ext hEl) ((hK3.ext hEw6).ext hEl)) ?_)
  rintro _ w11 ⟨rfl,hEw11⟩
  have hzw11:=hEw11.size
  rw [show zaZ ((zaw a1L a1C a1S).getD (i/4) Un.zero) (i%4)=za1 a1L a1C i from zf4 hO hLn hib]
  refine zc 5 [(15,(vI 0)),(14,(vI (za1 a1L a1C i))),(89,(vI 0)),(88,(vI (za1 a1L a1C i))),(84,(.tuple #[(vI (za1 a1L a1C i)),(vI 0)]))] (zf (zb (ze (zd ?_))))
  have hK13:=(((hBw5.ext hEw6).ext hEl).ext hEw11)
  refine za (zO w4.heap.size 0 (hK13.all) ?_)
  refine zc 1 [(92,(vI i))] ?_
  have hK14:=(((hK1.ext hEw6).ext hEl).ext hEw11)
  have hK15:=(((hK2.ext hEw6).ext hEl).ext hEw11)
  have hK16:=(((hK3.ext hEw6).ext hEl).ext hEw11)
  refine za (zp (zl5 (zt k) i _ (hK12.ext hEw11) (by omega) (by omega) (by omega) (zba hO) (zaV hO hLn) (hib) hK14 hK15 hK16) ?_)
  rintro _ w12 ⟨rfl,hEw12⟩
  have hzw12:=hEw12.size
  rw [show ((zaw a1L a1C a1S).getD (i/4) Un.zero).nd.rs.get (i%4)=a1L.getD i Rec.zero from ztF hO hLn hib]
  refine zc 3 [(95,(vI 0)),(94,(vA (zM (a1L.getD i Rec.zero)))),(90,(.tuple #[(vA (zM (a1L.getD i Rec.zero))),(vI 0)]))] (zal (zM (a1L.getD i Rec.zero)) 68 (zZ _) (zbb _) ?_)
  intro w13 hBw13 hEw13 hzw13 hlw13
  refine zc 1 [(17,(vI 0))] (zf (zb (ze (zd (za (zO w4.heap.size 0 (((hK13.ext hEw12).ext hEw13).all) ?_))))))
  have hK17:=(((hK12.ext hEw11).ext hEw12).ext hEw13)
  refine za (zp (zzt (zt k) _ hK17 (by omega) (by omega) (by omega) (zba hO) (zaV hO hLn) ((hK14.ext hEw12).ext hEw13) ((hK15.ext hEw12).ext hEw13) ((hK16.ext hEw12).ext hEw13)) ?_)
  rintro _ w14 ⟨rfl,hEw14⟩
  have hzw14:=hEw14.size
  rw [show zS (zN ((zaw a1L a1C a1S).getD (num (zt k) (hgt (zt k))) Un.zero).nd)=zc0 a1L (zaQ (zt k) a1C a1S) from zx3 hO hLn]
  refine zc 3 [(100,(vI 0)),(99,(vA (zR (zc0 a1L (zaQ (zt k) a1C a1S))))),(96,(.tuple #[(vA (zR (zc0 a1L (zaQ (zt k) a1C a1S)))),(vI 0)]))] (zal (zR (zc0 a1L (zaQ (zt k) a1C a1S))) 59 (zam _) (zbW _) ?_)
  intro w15 hBw15 hEw15 hzw15 hlw15
  refine zc 1 [(19,(vI 0))] (zf (zb (ze (zd ?_))))
  have hK18:=((((hK13.ext hEw12).ext hEw13).ext hEw14).ext hEw15)
  refine za (zO w4.heap.size 0 (hK18.all) ?_)
  have hK19:=((((hK14.ext hEw12).ext hEw13).ext hEw14).ext hEw15)
  have hK20:=((((hK15.ext hEw12).ext hEw13).ext hEw14).ext hEw15)
  have hK21:=((((hK16.ext hEw12).ext hEw13).ext hEw14).ext hEw15)
  refine za (zp (zzv (zt k) _ ((hK17.ext hEw14).ext hEw15) (by omega) (by omega) (by omega) (zba hO) (zaV hO hLn) hK19 hK20 hK21) ?_)
  rintro _ w16 ⟨a4,a5,rfl,hFz11_0,hFz11_1,hEw16⟩
  have hzw16:=hEw16.size
  have hlea4:=hFz11_0.le
  have hlea5:=hFz11_1.le
  refine zc 4 [(106,(vI 0)),(105,(.slice a5 (tot (zt k)) (tot (zt k)))),(104,(vA [(vI (zt k)),(.slice a4 (tot (zt k)) (tot (zt k)))])),(101,(.tuple #[(vA [(vI (zt k)),(.slice a4 (tot (zt k)) (tot (zt k)))]),(.slice a5 (tot (zt k)) (tot (zt k))),(vI 0)]))] (zal ([(vI (zt k)),(.slice a4 (tot (zt k)) (tot (zt k)))]) 44 rfl (by simp [Value.oneCell']) ?_)
  intro w17 hBw17 hEw17 hzw17 hlw17
  refine zc 2 [(22,(vI 0)),(21,(.slice a5 (tot (zt k)) (tot (zt k))))] (zf (zb (ze (zd ?_))))
  have hK22:=(((((((((((hBw3.ext hEw4).ext hEw5).ext hEw6).ext hEl).ext hEw11).ext hEw12).ext hEw13).ext hEw14).ext hEw15).ext hEw16).ext hEw17)
  refine za (zO w2.heap.size 0 (hK22.all) ?_)
  have hK23:=((((((((((((hFz1_2.ext hEw3).ext hEw4).ext hEw5).ext hEw6).ext hEl).ext hEw11).ext hEw12).ext hEw13).ext hEw14).ext hEw15).ext hEw16).ext hEw17)
  have hK24:=((((((((((((hFz1_3.ext hEw3).ext hEw4).ext hEw5).ext hEw6).ext hEl).ext hEw11).ext hEw12).ext hEw13).ext hEw14).ext hEw15).ext hEw16).ext hEw17)
  have hK25:=((((((((((((hFz1_4.ext hEw3).ext hEw4).ext hEw5).ext hEw6).ext hEl).ext hEw11).ext hEw12).ext hEw13).ext hEw14).ext hEw15).ext hEw16).ext hEw17)
  refine za (zp (zkQ _ hK23 hK24 hK25 (by first | omega | decide) (by first | omega | decide) (by first | omega | decide) (by first | omega | decide) (hO.m.sl)) ?_)
  rintro _ w18 ⟨a6,ca6,rfl,hFz12_0,hEw18⟩
  have hzw18:=hEw18.size
  have hma6:=hFz12_0.es;have hlea6:=hma6.le
  refine zc 1 [(23,(.slice a6 (tot (zt k)) ca6))] (zf (zb (ze (ze (zab 58 (fun w19 hEw19 hzw19 hT333=> ?_))))))
  refine zg hT333 [(0,109,(vI (List.length (zbj (zt k) (zaw a1L a1C a1S) (tot (zt k)))))),(1,110,(.slice a3 (List.length (zbj (zt k) (zaw a1L a1C a1S) (tot (zt k)))) (List.length (zbj (zt k) (zaw a1L a1C a1S) (tot (zt k)))))),(2,111,(vI (List.length (zbj (zt k) (zaw a1L a1C a1S) (tot (zt k))))))] 3 (zn hT333 3 vF (zaN ((((List.length (zbj (zt k) (zaw a1L a1C a1S) (tot (zt k)))):Nat):Int) !=((List.length (zbj (zt k) (zaw a1L a1C a1S) (tot (zt k))):Nat):Int)) (zax)) (zg hT333 [(4,113,vF),(5,114,(vI 0)),(6,115,(vI 0))] 3 (zn hT333 7 (vI 0) (zY .i64 (IntKind.i64.wrap (((0:Nat):Int)+((0:Nat):Int))) (zu)) (zg hT333 [(8,117,(vI 0))] 1 (zn hT333 9 (vI 0) (zY .i64 (IntKind.i64.wrap (((0:Nat):Int)+((0:Nat):Int))) (zu)) (zg hT333 [(10,119,(vI 0))] 1 (zn hT333 11 (vI 0) (zY .i64 (IntKind.i64.wrap (((0:Nat):Int)+((0:Nat):Int))) (zu)) (zn hT333 12 vF (zaN (((0:Nat):Int) !=((0:Nat):Int)) (zax)) (zg hT333 [(13,122,vF),(14,123,vF),(15,124,(vI (za1 a1L a1C i)))] 3 ?_)))))))))
  refine zaO hT333 16 w2.heap.size 0 (fun w' hC=>((((hK22.ext hEw18).ext hEw19).ext hC).all)) (zg hT333 [(17,126,(vI i))] 1 (zx 18 (zp (zoY i _ ((hK23.ext hEw18).ext hEw19) ((hK24.ext hEw18).ext hEw19) ((hK25.ext hEw18).ext hEw19) (hib) (by omega) (hO.st2 (by rw [hLn];exact hib))) ?_)))
  rintro _ w20 ⟨rfl,hEw20⟩
  have hzw20:=hEw20.size
  refine ⟨.inr hEw20, ?_⟩
  refine zn (hw:=hEw20) hT333 19 vF (zaN (((za1 a1L a1C i:Nat):Int) !=((za1 a1L a1C i:Nat):Int)) (zax)) (zg (hw:=hEw20) hT333 [(20,129,vF),(21,130,vF)] 2 ?_)
  have hK26:=((((((hBw13.ext hEw14).ext hEw15).ext hEw16).ext hEw17).ext hEw18).ext hEw19)
  refine zan (hw:=hEw20) hT333 22 w12.heap.size 0 (fun w' hC=>((hK26.ext hC).all)) (zZ _) (zg (hw:=hEw20) hT333 [(23,132,(vP w2.heap.size 0))] 1 (zA (hw:=hEw20) hT333 24 w2.heap.size 0 (fun w' hC=>((((hK22.ext hEw18).ext hEw19).ext hC).cell rfl)) (zg (hw:=hEw20) hT333 [(25,134,(vI i))] 1 ?_)))
  obtain ⟨b2,o2,rfl⟩:=hK23.addr (by omega) (by decide)
  refine zas (hw:=hEw20) hT333 26 b2 o2 (zt k) a1b i 35 (zan (hw:=hEw20) hT333 27 b2 (o2+i*35) (fun w' hC=>((((hK23.ext hEw18).ext hEw19).ext hC).at Rec.zero (by omega))) (zZ _) (zn (hw:=hEw20) hT333 28 vF (zag (bo .neq 68 (.tmp 131) (.tmp 136) (vA (zM (a1L.getD i Rec.zero))) (vA (zM (a1L.getD i Rec.zero)))) (fun w' hC=>zat (r:=true) (T:=68) ((zdj (dd:=9997) (t:=68) (t8:=5) (tn:=56) (td:=59) (e:=5) (t32:=53) (t64:=54) (a1L.getD i Rec.zero) (a1L.getD i Rec.zero)).trans (congrArg (fun b=>Result.ok b _) (show ((a1L.getD i Rec.zero).eqb (a1L.getD i Rec.zero))=true from (Rec.eqb_iff _ _).2 rfl))))) (zg (hw:=hEw20) hT333 [(29,138,vF),(30,139,vF)] 2 ?_)))
  have hK27:=((((hBw15.ext hEw16).ext hEw17).ext hEw18).ext hEw19)
  refine zan (hw:=hEw20) hT333 31 w14.heap.size 0 (fun w' hC=>((hK27.ext hC).all)) (zam _) (zg (hw:=hEw20) hT333 [(32,141,(vP w2.heap.size 0))] 1 (zA (hw:=hEw20) hT333 33 w2.heap.size 0 (fun w' hC=>((((hK22.ext hEw18).ext hEw19).ext hC).cell rfl)) (zg (hw:=hEw20) hT333 [(34,143,(.slice a6 (tot (zt k)) ca6))] 1 ?_)))
  have hK28:=(((hK23.ext hEw18).ext hEw19).ext hEw20)
  refine zx 35 (zp (zzu _ hK28 ((hma6.ext hEw19).ext hEw20) (by first | omega | decide) (by first | omega | decide) (by first | omega | decide) (fun i=>Nat.le_trans (zjp hO.m.sl i) (by decide))) ?_)
  rintro _ w21 ⟨rfl,hEw21⟩
  have hzw21:=hEw21.size
  have hX1:Ext w19 w21:=(hEw20.trans hEw21)
  refine ⟨.inr hX1, ?_⟩
  refine zn (hw:=hX1) hT333 36 vF (zag (bo .neq 59 (.tmp 140) (.tmp 144) (vA (zR (zc0 a1L (zaQ (zt k) a1C a1S)))) (vA (zR (zc0 a1L (zaQ (zt k) a1C a1S))))) (fun w' hC=>zat (r:=true) (T:=59) ((zcK (dd:=9998) (t:=59) (e:=5) (zc0 a1L (zaQ (zt k) a1C a1S)) (zc0 a1L (zaQ (zt k) a1C a1S))).trans (congrArg (fun b=>Result.ok b _) (show ((zc0 a1L (zaQ (zt k) a1C a1S)).l==(zc0 a1L (zaQ (zt k) a1C a1S)).l)=true from beq_iff_eq.2 rfl))))) (zg (hw:=hX1) hT333 [(37,146,vF),(38,147,vF),(39,148,(vP w16.heap.size 0))] 3 (zA (hw:=hX1) hT333 40 w16.heap.size 0 (fun w' hC=>((((hBw17.ext hEw18).ext hEw19).ext hC).cell rfl)) (zg (hw:=hX1) hT333 [(41,150,(vI (zt k)))] 1 (zn (hw:=hX1) hT333 42 vF (zaN ((((zt k):Nat):Int) !=(((zt k):Nat):Int)) (zax)) (zg (hw:=hX1) hT333 [(43,152,vF),(44,153,vF),(45,154,(.slice a5 (tot (zt k)) (tot (zt k)))),(46,155,(vI (tot (zt k)))),(47,156,(.slice a6 (tot (zt k)) ca6)),(48,157,(vI (tot (zt k))))] 6 (zn (hw:=hX1) hT333 49 vF (zaN ((((tot (zt k)):Nat):Int) !=((tot (zt k):Nat):Int)) (zax)) (zg (hw:=hX1) hT333 [(50,159,vF),(51,160,vF),(52,161,(.slice a5 (tot (zt k)) (tot (zt k)))),(53,162,(vI (tot (zt k)))),(54,163,(.slice a5 (tot (zt k)) (tot (zt k)))),(55,164,(vI (tot (zt k))))] 6 (zn (hw:=hX1) hT333 56 vF (zaN ((((tot (zt k)):Nat):Int) !=(((tot (zt k)):Nat):Int)) (zax)) ?_))))))))
  refine zg (hw:=hX1) hT333 [(57,166,vF)] 1 (zE (zb (zh (zk (zb (ze (zd (zc 1 [(167,(vP w2.heap.size 0))] ?_))))))))
  have hK29:=((((hK22.ext hEw18).ext hEw19).ext hEw20).ext hEw21)
  refine za (zm w2.heap.size 0 (hK29.cell rfl) ?_)
  refine zc 1 [(169,(.slice a6 (tot (zt k)) ca6))] ?_
  have hK30:=(((hma6.ext hEw19).ext hEw20).ext hEw21)
  refine za (zp (zrH _ (hK28.ext hEw21) hK30 (by first | omega | decide) (by first | omega | decide) (by first | omega | decide) (fun i=>Nat.le_trans (zjp hO.m.sl i) (by decide))) ?_)
  rintro _ w22 ⟨a7,ca7,rfl,hFz15_0,hEw22⟩
  have hzw22:=hEw22.size
  have hma7:=hFz15_0.ms;have hlea7:=hma7.le
  refine zc 1 [(24,(.slice a7 (tot (zt k)) ca7))] (zf (zb (ze (ze (zd (zc 1 [(171,(vP w16.heap.size 1))] ?_))))))
  have hK31:=(((((hBw17.ext hEw18).ext hEw19).ext hEw20).ext hEw21).ext hEw22)
  refine za (zm w16.heap.size 1 (hK31.cell rfl) ?_)
  refine zc 3 [(175,(vI (tot (zt k)))),(174,(.slice a7 (tot (zt k)) ca7)),(173,(vI (tot (zt k))))] (za (zae (some 176) ((((tot (zt k)):Nat):Int) !=((tot (zt k):Nat):Int)) false (zax) ?_))
  refine zc 2 [(178,(vP w16.heap.size 1)),(177,vF)] (za (zm w16.heap.size 1 (hK31.cell rfl) ?_))
  refine zc 2 [(181,(vP w16.heap.size 1)),(180,(vI (tot (zt k))))] (za (zm w16.heap.size 1 (hK31.cell rfl) ?_))
  refine zc 1 [(183,(vI (tot (zt k))))] (za (zae (some 184) ((((tot (zt k)):Nat):Int) !=(((tot (zt k)):Nat):Int)) false (zax) ?_))
  refine zc 1 [(185,vF)] (zf (zb (zh (zk (zb (ze (ze (zd (zc 1 [(25,(vI 0))] ?_)))))))))
  refine zf (zb (zr (zU (X:=Nat) (fun q_=> [(25,(vI q_))]) [4,186,187,188,189,190,191,192,193,194,195,196,197,198,199,200,201,202,203,204,205,206,207,208,209,210,211,212] (fun q_ w23=>q_≤tot (zt k)∧Ext w22 w23) (fun q_=>tot (zt k)-q_) 0 (by kernel_rfl) ⟨Nat.zero_le _,Ext.refl _⟩ ?_)))
  rintro q_ dw23 w23 ⟨hq_,hEn⟩
  have hzn:=hEn.size
  refine ze (ze (zd (zc 3 [(188,(vI (tot (zt k)))),(187,(.slice a7 (tot (zt k)) ca7)),(186,(vI q_))] (za (zF (some 189) (decide (((q_:Nat):Int)<((tot (zt k):Nat):Int))) (fun hc189=> ?_) (fun hc189=> ?_))))))
  ·replace hc189:q_<tot (zt k):=by have:=zac hc189;omega
   refine zf (zb (zv (zk (zb (ze (zr (ze (zab 21 (fun w24 hEw24 hzw24 hT446=> ?_)))))))))
   refine zg hT446 [(0,192,(vP w16.heap.size 1))] 1 (zA hT446 1 w16.heap.size 1 (fun w' hC=>((((hK31.ext hEn).ext hEw24).ext hC).cell rfl)) (zg hT446 [(2,194,(vI q_))] 1 ?_))
   obtain ⟨b3,o3,rfl⟩:=hFz11_0.addr (by omega) (by decide)
   refine zas hT446 3 b3 o3 (tot (zt k)) (tot (zt k)) q_ 274 ?_
   have hK32:=((((((((hFz11_0.ext hEw17).ext hEw18).ext hEw19).ext hEw20).ext hEw21).ext hEw22).ext hEn).ext hEw24)
   refine zan hT446 4 b3 (o3+q_*274) (fun w' hC=>((hK32.ext hC).at Nod.zero (by omega))) (zQ _) (zg hT446 [(5,197,(.slice a7 (tot (zt k)) ca7)),(6,198,(vI q_))] 2 ?_)
   obtain ⟨b4,o4,rfl⟩:=hma7.addr (by omega) (by decide)
   refine zas hT446 7 b4 o4 (tot (zt k)) ca7 q_ 274 (zan hT446 8 b4 (o4+q_*274) (fun w' hC=>((((hma7.ext hEn).ext hEw24).ext hC).at Nod.zero (by omega))) (zQ _) (zn hT446 9 vF (zag (bo .neq 74 (.tmp 196) (.tmp 200) (vA (zJ (((zaw a1L a1C a1S).map Un.nd).getD q_ Nod.zero))) (vA (zJ ((zak a1L (zaQ (zt k) a1C a1S)).getD q_ Nod.zero)))) (fun w' hC=>zat (r:=true) (T:=74) ((znm (dd:=9995) (N:=74) (R:=69) (E:=72) (r:=68) (en:=71) (t8:=5) (td:=59) (e:=5) (tn:=56) (t32:=53) (t64:=54) (((zaw a1L a1C a1S).map Un.nd).getD q_ Nod.zero) ((zak a1L (zaQ (zt k) a1C a1S)).getD q_ Nod.zero)).trans (congrArg (fun b=>Result.ok b _) (show ((((zaw a1L a1C a1S).map Un.nd).getD q_ Nod.zero).eqb ((zak a1L (zaQ (zt k) a1C a1S)).getD q_ Nod.zero))=true from (Nod.eqb_iff _ _).2 (by rw [zx2 hO hLn])))))) (zg hT446 [(10,202,vF),(11,203,(.slice a5 (tot (zt k)) (tot (zt k)))),(12,204,(vI q_))] 3 ?_)))
   obtain ⟨b5,o5,rfl⟩:=hFz11_1.addr (by omega)
   refine zas hT446 13 b5 o5 (tot (zt k)) (tot (zt k)) q_ 1 ?_
   have hK33:=((((((((hFz11_1.ext hEw17).ext hEw18).ext hEw19).ext hEw20).ext hEw21).ext hEw22).ext hEn).ext hEw24)
   refine zA hT446 14 b5 (o5+q_*1) (fun w' hC=>((hK33.ext hC).celli (by omega))) (zg hT446 [(15,207,(.slice a6 (tot (zt k)) ca6)),(16,208,(vI q_))] 2 ?_)
   obtain ⟨b6,o6,rfl⟩:=hK30.addr (by omega)
   refine zas hT446 17 b6 o6 (tot (zt k)) ca6 q_ 1 ?_
   have hK34:=(((hK30.ext hEw22).ext hEn).ext hEw24)
   refine zA hT446 18 b6 (o6+q_*1) (fun w' hC=>((hK34.ext hC).celln (by omega))) ?_
   have hgz:gz ((zaw a1L a1C a1S).map slU) q_=((gt (zaQ (zt k) a1C a1S) q_:Nat):Int):=by rw [zyz hO hLn];unfold gz gt;exact zpK (by rw [zcn];omega)
   refine zn hT446 19 vF (zaN (gz ((zaw a1L a1C a1S).map slU) q_ !=((gt (zaQ (zt k) a1C a1S) q_:Nat):Int)) (zax)) (zg hT446 [(20,212,vF)] 1 (zE (zb (zh (zk (zi (zb (zd (zc 1 [(190,(vI q_))] ?_)))))))))
   refine za (zo (some 191) .i64 (IntKind.i64.wrap (((q_:Nat):Int)+((1:Nat):Int))) (q_+1) (zu) ?_)
   refine zc 1 [(25,(vI (q_+1)))] (zf (zz (zL (q_+1) ?_ ?_)))
   ·exact ⟨by omega,(hEn.trans hEw24)⟩
   ·first | omega |(dsimp only;omega)
  ·replace hc189:¬(q_<tot (zt k)):=by have:=zad hc189;omega
   refine zf (zb (zh (zP (zq (zq (zH (zb (ze (zd ?_)))))))))
   have hK35:=((((((((hK19.ext hEw16).ext hEw17).ext hEw18).ext hEw19).ext hEw20).ext hEw21).ext hEw22).ext hEn)
   have hK36:=((((((((hK20.ext hEw16).ext hEw17).ext hEw18).ext hEw19).ext hEw20).ext hEw21).ext hEw22).ext hEn)
   have hK37:=((((((((hK21.ext hEw16).ext hEw17).ext hEw18).ext hEw19).ext hEw20).ext hEw21).ext hEw22).ext hEn)
   have hK38:=((((((((((((((((((((hg3.ext hEw1).ext hEw2).ext hEw3).ext hEw4).ext hEw5).ext hEw6).ext hEl).ext hEw11).ext hEw12).ext hEw13).ext hEw14).ext hEw15).ext hEw16).ext hEw17).ext hEw18).ext hEw19).ext hEw20).ext hEw21).ext hEw22).ext hEn)
   refine za (zp (zpJ _ hK35 hK36 hK37 hK38) ?_)
   rintro _ w25 ⟨rfl,hEw25⟩
   have hzw25:=hEw25.size
   refine zc 1 [(4,vT)] (zf (zb (zj (zl vT ?_))))
   have hX2:Ext w w25:=((((((((((((((((((((hEw1.trans hEw2).trans hEw3).trans hEw4).trans hEw5).trans hEw6).trans hEl).trans hEw11).trans hEw12).trans hEw13).trans hEw14).trans hEw15).trans hEw16).trans hEw17).trans hEw18).trans hEw19).trans hEw20).trans hEw21).trans hEw22).trans hEn).trans hEw25)
   exact ⟨rfl,hX2⟩
end Go.Proofs.YtkmhgepdhilllaaGreatDoor
namespace Go.Cs
open Go Go.ChangeShapes Go.WideShapes Go.ChangeAt Go.RowKit
section
variable {H:Type} {enc:TypeId×Value→H} {P:Program} {W:World} {base:Nat} {sp:Nat→Bool} {held:Bool}
def Rd (enc:TypeId×Value→H) (P:Program) (W:World) (base:Nat) (sp:Nat→Bool) (held:Bool) (t:TypeId) (cs:List Value):Prop:=∃fuel r,DataW.trod enc P W base sp held fuel t cs=some r
theorem zfq {α β:Type} {f:α→Option β}:∀{xs:List α} {ys:List β},xs.mapM f=some ys→∀x∈xs,∃y,f x=some y
 | [],_,_,x,hx=>by simp at hx
 | a::xs,ys,h,x,hx=>by
  simp only [List.mapM_cons,Option.bind_eq_bind,Option.bind_eq_some_iff] at h
  obtain ⟨y,hy,zs,hz,_⟩:=h
  rcases List.mem_cons.1 hx with rfl | hx
  ·exact ⟨y,hy⟩
  ·exact zfq hz x hx
theorem zds {t:TypeId} {k:IntKind} {cs:List Value} (h:Rd enc P W base sp held t cs) (ht:P.underlying t=some (.int k)):∃n,cs= [.int k n]∧(Lit.int k n).wf=true:=by
 obtain ⟨fuel,r,hf⟩:=h
 obtain ⟨n,h1,_,h3⟩:=DataW.trod_int ht hf
 exact ⟨n,h1,h3⟩
theorem zb6 {t:TypeId} {cs:List Value} {x:Bool×TypeId×Nat} {xs:List (Bool×TypeId×Nat)} (h:Rd enc P W base sp held t cs) (hF:zav P t=x::xs):
  cs.length=P.cellsOf t∧∀y∈x::xs,Rd enc P W base sp held y.2.1 ((cs.drop y.2.2).take (P.cellsOf y.2.1)):=by
 obtain ⟨fuel,r,hf⟩:=h
 have hu:=zcN ⟨x,xs,hF⟩
 cases fuel with
 | zero=>simp [DataW.trod] at hf
 | succ fuel=>
  rw [DataW.trod.eq_def] at hf
  simp only [hu] at hf
  split at hf
  ·next hl=>
   refine ⟨hl,fun y hy=> ?_⟩
   simp only [Option.map_eq_some_iff] at hf
   obtain ⟨zs,hz,_⟩:=hf
   rw [←hF,zav,List.mem_map] at hy
   obtain ⟨f,hf1,rfl⟩:=hy
   obtain ⟨z,hz2⟩:=zfq hz f hf1
   exact ⟨fuel,z,hz2⟩
  ·cases hf
theorem zd2 {t e:TypeId} {n:Nat} {cs:List Value} (h:Rd enc P W base sp held t cs) (hu:P.underlying t=some (.array n e)):
  cs.length=P.cellsOf t∧∀i,i<n→Rd enc P W base sp held e ((cs.drop (i*P.cellsOf e)).take (P.cellsOf e)):=by
 obtain ⟨fuel,r,hf⟩:=h
 cases fuel with
 | zero=>simp [DataW.trod] at hf
 | succ fuel=>
  rw [DataW.trod.eq_def] at hf
  simp only [hu] at hf
  split at hf
  ·next hl=>
   refine ⟨hl,fun i hi=> ?_⟩
   simp only [Option.map_eq_some_iff] at hf
   obtain ⟨zs,hz,_⟩:=hf
   obtain ⟨z,hz2⟩:=zfq hz i (List.mem_range.2 hi)
   exact ⟨fuel,z,hz2⟩
  ·cases hf
theorem zck {t:TypeId} {k:IntKind} {cs:List Value} (h:Rd enc P W base sp held t cs) (ht:P.underlying t=some (.int k)) (h0:∀n,(Lit.int k n).wf=true→0≤n∧n<2^k.bits):∃n:Nat,cs= [.int k (n:Int)]∧n<2^k.bits:=by
 obtain ⟨n,h1,h2⟩:=zds h ht
 obtain ⟨h3,h4⟩:=h0 n h2
 obtain ⟨m,rfl⟩:=Int.eq_ofNat_of_zero_le h3
 exact ⟨m,h1,by exact_mod_cast h4⟩
theorem zaz {α:Type} (cs:List α) (a b:Nat):(cs.drop a).take b++cs.drop (a+b)=cs.drop a:=by
 rw [←List.drop_drop,List.take_append_drop]
theorem w8 (n:Int) (h:(Lit.int .u8 n).wf=true):0≤n∧n<2^IntKind.u8.bits:=by have:=bounds_u8 h;exact ⟨by omega,by show n<2^8;omega⟩
theorem w32 (n:Int) (h:(Lit.int .u32 n).wf=true):0≤n∧n<2^IntKind.u32.bits:=by have:=bounds_u32 h;exact ⟨by omega,by show n<2^32;omega⟩
theorem w64 (n:Int) (h:(Lit.int .u64 n).wf=true):0≤n∧n<2^IntKind.u64.bits:=by have:=bounds_u64 h;exact ⟨by omega,by show n<2^64;omega⟩
theorem w16 (n:Int) (h:(Lit.int .u16 n).wf=true):0≤n∧n<2^IntKind.u16.bits:=by
 simp [Lit.wf,IntKind.min,IntKind.max,IntKind.signed,IntKind.bits] at h
 exact ⟨by omega,by show n<2^16;omega⟩
end
end Go.Cs
namespace Go.Cs
open Go Go.ChangeShapes Go.WideShapes Go.ChangeAt Go.RowKit
theorem zh5 {α:Type} {f:α→List Value} {sz:Nat} (hf:∀x,(f x).length=sz) (d:α):∀(l:List α) (k:Nat),0<sz→(l.flatMap f)[k]? =if k<l.length*sz then (f (l.getD (k/sz) d))[k%sz]? else none
 | [],k,hz=>by simp
 | x::l,k,hz=>by
  rw [List.flatMap_cons]
  rcases Nat.lt_or_ge k sz with h | h
  ·rw [List.getElem?_append_left (by rw [hf];exact h),Nat.div_eq_of_lt h,Nat.mod_eq_of_lt h,if_pos]
   ·simp
   ·rw [List.length_cons,Nat.add_mul,Nat.one_mul];omega
  ·rw [List.getElem?_append_right (by rw [hf];exact h),hf,zh5 hf d l (k-sz) hz]
   have e1:k/sz=(k-sz)/sz+1:=by rw [←Nat.add_div_right _ hz,Nat.sub_add_cancel h]
   have e2:k%sz=(k-sz)%sz:=by rw [←Nat.mod_eq_sub_mod h]
   rw [e1,e2,List.getD_cons_succ,List.length_cons,Nat.add_mul,Nat.one_mul]
   by_cases h2:k<l.length*sz+sz
   ·rw [if_pos (by omega),if_pos h2]
   ·rw [if_neg (by omega),if_neg h2]
section
variable {H:Type} {enc:TypeId×Value→H} {P:Program} {W:World} {base:Nat} {sp:Nat→Bool} {held:Bool}
theorem zeY {α:Type} {f:α→List Value} {t e:TypeId} {sz:Nat} {cs:List Value} (hx:∀us,Rd enc P W base sp held e us→∃x,us=f x) (hf:∀x,(f x).length=sz) (h:Rd enc P W base sp held t cs) (hu:P.underlying t=some (.slice e)) (he:P.cellsOf e=sz) (hz:0<sz):
  ∃a len cap l,cs= [.slice a len cap]∧Ms f sz 0 W.heap.size W a len cap l:=by
 obtain ⟨fuel,r,hr⟩:=h
 rcases Go.Deep.open_slice hu hr with ⟨rfl,_⟩|⟨a,len,cap,m,n,D,Pl,rfl,hb,hl,hm,hmm,_,hi⟩
 ·exact ⟨none,0,0, [],rfl,Ms.nil f _ _ _ hf⟩
 ·have hlm:len≤m:=by subst hmm;split<;>omega
  rw [he] at hi
  rcases Nat.eq_zero_or_pos len with h0 | h0
  ·subst h0
   exact ⟨some a,0,cap, [],rfl,⟨⟨hl,hm, .inl rfl⟩,rfl,hf⟩⟩
  ·have one:∀i,i<len→∃x,W.cells? base (a.add (i*sz)) sz=some (f x):=fun i hlt=>by
    obtain ⟨cs',h1,h2⟩:=hi i (by omega)
    obtain ⟨x,rfl⟩:=hx cs' ⟨n,_,h2⟩
    exact ⟨x,h1⟩
   obtain ⟨x0,hx0⟩:=one 0 h0
   haveI:Inhabited α:=⟨x0⟩
   obtain ⟨g,hg⟩:=Go.Deep.choose_lt one
   have hsp:a.spot=none∧a.block<W.heap.size:=by
    have h3:=(World.cells?_some hx0).2.2 0 hz
    rw [Nat.zero_mul] at h3
    have e0:(a.add 0).add 0=a:=by simp [Addr.add]
    rw [e0,List.getElem?_eq_getElem (by rw [hf];exact hz)] at h3
    refine ⟨?_,World.block_lt_of_cell? W a h3⟩
    cases hs:a.spot with
    | none=>rfl
    | some k=>
     exfalso
     have h4:=(World.cells?_some (hg 0 h0)).2.2
     simp only [World.cell?,hs] at h3
     split at h3<;>simp at h3
   obtain ⟨b,o,s⟩:=a
   simp only at hsp
   obtain ⟨rfl,hlt⟩:=hsp
   refine ⟨_,len,cap,(List.range len).map g,rfl,⟨hl,hm, .inr ⟨rfl,Nat.zero_le _,hlt,hlt,fun k v hk=> ?_⟩⟩,by simp,hf⟩
   rw [zh5 hf x0 _ k hz] at hk
   simp only [List.length_map,List.length_range] at hk
   split at hk
   ·next hks=>
    have hq:k/sz<len:=Nat.div_lt_of_lt_mul (by rw [Nat.mul_comm];exact hks)
    have hg1:((List.range len).map g).getD (k/sz) x0=g (k/sz):=by simp [List.getD,hq]
    rw [hg1] at hk
    have h5:=(World.cells?_some (hg (k/sz) hq)).2.2 (k%sz) (Nat.mod_lt _ hz)
    rw [hk,Addr.add_lit,Addr.add_lit] at h5
    rw [←h5]
    have:=Nat.div_add_mod k sz
    rw [Nat.mul_comm] at this
    simp only [Nat.add_assoc,this]
   ·cases hk
theorem zod {t e:TypeId} {cs:List Value} (h:Rd enc P W base sp held t cs) (hu:P.underlying t=some (.array 2 e)) (he:P.underlying e=some (.int .u8)) (ce:P.cellsOf e=1) (c:P.cellsOf t=2):∃x:UInt8×UInt8,cs=b2C x:=by
 obtain ⟨hl,hi⟩:=zd2 h hu
 obtain ⟨a,ha,ha2⟩:=zck (hi 0 (by omega)) he w8
 obtain ⟨b,hb,hb2⟩:=zck (hi 1 (by omega)) he w8
 simp only [ce,Nat.mul_one] at ha hb
 have ea:((UInt8.ofNat a).toNat:Nat)=a:=by rw [UInt8.toNat_ofNat',Nat.mod_eq_of_lt (show a<2^8 from ha2)]
 have eb:((UInt8.ofNat b).toNat:Nat)=b:=by rw [UInt8.toNat_ofNat',Nat.mod_eq_of_lt (show b<2^8 from hb2)]
 refine ⟨(UInt8.ofNat a,UInt8.ofNat b), ?_⟩
 have e1:=zaz cs 0 1
 have e2:=zaz cs 1 1
 rw [ha] at e1;rw [hb,List.drop_eq_nil_of_le (by omega)] at e2
 rw [List.drop_zero] at e1
 rw [←e1,←e2];simp [b2C,ea,eb]
end
end Go.Cs
namespace Go.Cs
open Go Go.ChangeShapes Go.WideShapes Go.ChangeAt Go.RowKit
section
variable {H:Type} {enc:TypeId×Value→H} {P:Program} {W:World} {base:Nat} {sp:Nat→Bool} {held:Bool}
theorem zgo {t e:TypeId} {k:IntKind} {fuel n:Nat} {cs:List Value} {p:List MemPlace} {ns:List Int} (h:DataW.trod enc P W base sp held fuel t cs=some (.agg (ns.map fun z=> .lit (.int k z)),p)) (hu:P.underlying t=some (.array n e)) (he:P.underlying e=some (.int k)) (ce:P.cellsOf e=1) (ct:P.cellsOf t=n):
  cs=ns.map fun z=> .int k z:=by
 obtain ⟨xs,m,rfl,hx,hl,hn,hi⟩:=DataW.trod_array hu h
 simp only [Prod.mk.injEq,DataW.agg.injEq] at hx
 have hlen:ns.length=n:=by rw [←hn,show xs.length=(xs.map fun x=>x.1).length from by simp,←hx.1,List.length_map]
 refine List.ext_getElem (by simp;omega) fun i h1 h2=> ?_
 have h3:i<xs.length:=by omega
 have h4:=hi i (by omega)
 rw [List.getElem?_eq_getElem h3,ce,Nat.mul_one] at h4
 obtain ⟨z,e1,e2,_⟩:=DataW.trod_int he h4
 have e3:cs[i]= .int k z:=by
  have:=congrArg (fun y=>y[0]?) e1
  simp [List.getElem?_take,List.getElem?_drop,h1] at this
  exact this
 have e4:=congrArg (fun y=>y[i]?) hx.1
 simp only [List.getElem?_map,List.getElem?_eq_getElem h3,e2,List.getElem?_eq_getElem (show i<ns.length by omega),Option.map_some,Option.some.injEq,DataW.lit.injEq,Lit.int.injEq,true_and] at e4
 rw [e3];simp [e4]
theorem zkl {name:String} {g:Nat} {cs:Array Value} {vs:List Value} (hg:P.globalNamed name=some g) (hv:W.var? P name=some cs) (hcs:cs.toList=vs):Gl g vs W:=by
 have hc:=fun i=>World.var?_cell hg hv i
 refine ⟨fun i v hi=> ?_, ?_⟩
 ·rw [Nat.zero_add,hc i,←hi,←hcs];simp
 ·simp only [World.var?,hg,Option.bind_some] at hv
  rcases Nat.lt_or_ge g W.heap.size with h | h
  ·exact h
  ·rw [Array.getElem?_eq_none h] at hv;simp at hv
end
end Go.Cs
namespace Go.Cs
open Go Go.ChangeShapes Go.WideShapes Go.ChangeAt Go.RowKit
theorem Es.of_ones {α:Type} {f:α→Value} {lo hi len cap:Nat} {w:World} {a:Option Addr} {l:List α} (h:Ms (fun x=> [f x]) 1 lo hi w a len cap l):Es f lo hi w a len cap l:=by
 have e:∀l:List α,(l.flatMap fun x=> [f x])=l.map f:=fun l=>by
  induction l with
  | nil=>rfl
  | cons x l ih=>rw [List.flatMap_cons,List.map_cons,ih];rfl
 exact ⟨by have:=h.sla;rwa [e l] at this,h.len_eq⟩
section
variable {H:Type} {enc:TypeId×Value→H} {P:Program} {W:World} {base:Nat} {sp:Nat→Bool} {held:Bool}
end
end Go.Cs
namespace Go.Cs
open Go Go.ChangeShapes Go.WideShapes Go.ChangeAt Go.RowKit
theorem zfV {cs p q:List Value} {o a:Nat} (h:(cs.drop o).take a=p) (h2:cs.drop (o+a)=q):cs.drop o=p++q:=by
 rw [←h,←h2,←List.drop_drop,List.take_append_drop]
theorem zm4 {cs:List Value} {o:Nat} (h:cs.length≤o):cs.drop o= []:=List.drop_eq_nil_of_le h
section
variable {H:Type} {enc:TypeId×Value→H} {P:Program} {W:World} {base:Nat} {sp:Nat→Bool} {held:Bool}
theorem zrx {t:TypeId} {cs:List Value} (h:Rd enc P W base sp held t cs) (hu:P.underlying t=some (.int .u8)):∃x:UInt8,cs= [u8v x]:=by
 obtain ⟨a,ha,ha2⟩:=zck h hu w8
 exact ⟨UInt8.ofNat a,by rw [ha,u8v,UInt8.toNat_ofNat',Nat.mod_eq_of_lt (show a<2^8 from ha2)]⟩
theorem zuM {t e:TypeId} {cs:List Value} (h:Rd enc P W base sp held t cs) (hu:P.underlying t=some (.slice e)) (he:P.underlying e=some (.int .u8)) (ce:P.cellsOf e=1):
  ∃a len cap l,cs= [.slice a len cap]∧Bs 0 W.heap.size W a len cap l:=by
 obtain ⟨a,len,cap,l,h1,h2⟩:=zeY (f:=fun x:UInt8=> [u8v x]) (sz:=1) (fun us hq=>zrx hq he) (fun _=>rfl) h hu ce (by decide)
 exact ⟨a,len,cap,l,h1,(Es.of_ones h2).bs⟩
end
end Go.Cs
