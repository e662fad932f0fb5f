/- Lemmas and walks: what each function does, by its own code. No condition beyond those of each statement. -/
import Derived.Test.YtbobhnldhpjdlaaGreatDoorP11
set_option linter.all false
set_option linter.unusedVariables false
namespace Go.Cz
open Go Go.RowKit Go.Cs
theorem o0 {α:Type} {K:α→List Value} {m:Nat} [hK:CL K m] {b o n c k c':Nat} {t:List α} {w:World} (h:Sl K (some ⟨b,o,none⟩) n c t w) (hk:k≤n) (hc:k≤c') (hm:c'≤9223372036854775807):Sl K (some ⟨b,o,none⟩) k c' (t.take k) w:=by
 have h1:n=t.length:=h.1
 have h2:=Sl.at_ h
 have h3:t.flatMap K=(t.take k).flatMap K++(t.drop k).flatMap K:=by rw [←List.flatMap_append,List.take_append_drop]
 rw [h3] at h2
 exact rk (At.sub h2 0 _ (by simp)) (by rw [List.length_take];omega) hc hm
instance (priority:=10) {α:Type} {K:α→List Value} {cs:List Value} {t:List α} {j:Nat} [h:Fb cs K t] [hK:CL K 1] [Inhabited α]:Sb cs j (K (t.getD j default)) (j<t.length):=⟨fun hj=>by
 have h1:=BT (K:=K) (t:=t) default hj
 rw [Nat.mul_one] at h1
 rw [h.fm];exact h1⟩
section
variable {P:Program} {G:Gc} {O:List It} {F:List Pt} {C:Value→Pt}
theorem L0 {α:Type} {K:α→List Value} {t:List α} {vs:List Value} {b A m:Nat} {p:Prop} [hb:Ab O F b A vs p] [hf:Fb vs K t] [hK:CL K m] [hi:Inhabited α]:Ab O F b A (K (t.getD 0 default)) (p∧0<t.length):=⟨fun hp=>by
 have h1:=hb.ab hp.1
 rw [hf.fm] at h1
 have h2:=LW h1 (BT (K:=K) (t:=t) default hp.2)
 rw [Nat.zero_mul] at h2
 exact h2⟩
theorem nk {α:Type} {K:α→List Value} {t:List α} {vs:List Value} {T b A:Nat} {v:Value} {p:Prop} [hs:Sz P T 1 false] [hb:Ab O F b A vs p] [hf:Fb vs K t] [hK:CL K 1] [hi:Inhabited α] [hv:Lv false (K (t.getD 0 default)) v] (h:Tr G O F (C v)) (hp:p∧0<t.length:=by (repeat' (first | exact True.intro | refine And.intro ?_ ?_))<;>first | omega |(simp only [List.length_append,List.length_take,List.length_drop,List.length_replicate,List.length_set,List.length_map,List.length_nil,List.length_cons];omega)|(simp;done)|(simp;omega)):Tr G O F (Rl P T (.pointer (some ⟨b,A,none⟩)) C):=
 sL (hb:=L0) h hp
theorem Bd {b A:Nat} {l:List UInt8} {p:Prop} [h:Lb O F cB (some ⟨b,A,none⟩) 32 32 l p] (hp:p):Az O F b A (ay (Dig.of l)):=fun w h1 h2=>by
 have h3:=h.lb hp w h1 h2
 have h4:l.length=32:=h3.1.symm
 have h5:=Sl.at_ h3
 rw [show l.flatMap cB=ay (Dig.of l) by rw [ay,Dig.of_l h4,bL]] at h5
 exact h5
theorem nh {T b A:Nat} {l:List UInt8} {p:Prop} [hs:Sz P T 32 true] [hb:Lb O F cB (some ⟨b,A,none⟩) 32 32 l p] (h:Tr G O F (C (vA (ay (Dig.of l))))) (hp:p:=by (repeat' (first | exact True.intro | refine And.intro ?_ ?_))<;>first | omega |(simp only [List.length_append,List.length_take,List.length_drop,List.length_replicate,List.length_set,List.length_map,List.length_nil,List.length_cons];omega)|(simp;done)|(simp;omega)):Tr G O F (Rl P T (.pointer (some ⟨b,A,none⟩)) C):=
 Kb ⟨fun w h1 h2=>kg (Bd hp w h1 h2) (by rw [hs.sz,c5]) hs.ag⟩ h
theorem fG {ops:Array Oper} {m i:Nat} {O0:List It} {F0:List Pt} {G0:Gc} {T b A:Nat} {l:List UInt8} {p:Prop} [hs:Sz P T 32 true] [hb:Lb O0 F0 cB (some ⟨b,A,none⟩) 32 32 l p] (h:Tr G O F (C (vA (ay (Dig.of l))))) (hp:p:=by (repeat' (first | exact True.intro | refine And.intro ?_ ?_))<;>first | omega |(simp only [List.length_append,List.length_take,List.length_drop,List.length_replicate,List.length_set,List.length_map,List.length_nil,List.length_cons];omega)|(simp;done)|(simp;omega)) (hc:gu (bw ops) m i=true:=by kernel_rfl):Tr G O F (Dt P ops (Hp G0 O0 F0) m i (fun C=>Rl P T (.pointer (some ⟨b,A,none⟩)) C) C):=
 AS h (I2 ⟨fun w h1 h2=>kg (Bd hp w h1 h2) (by rw [hs.sz,c5]) hs.ag⟩) hc
theorem MS {T b A m:Nat} {l:List UInt8} {p:Prop} [hs:Sz P T m true] [hb:Lb O F cB (some ⟨b,A,none⟩) m m l p] (h:Tr G O F (C (vA (bE l)))) (hp:p:=by (repeat' (first | exact True.intro | refine And.intro ?_ ?_))<;>first | omega |(simp only [List.length_append,List.length_take,List.length_drop,List.length_replicate,List.length_set,List.length_map,List.length_nil,List.length_cons];omega)|(simp;done)|(simp;omega)):Tr G O F (Rl P T (.pointer (some ⟨b,A,none⟩)) C):=
 Kb ⟨fun w h1 h2=>by
  have h3:=hb.lb hp w h1 h2
  have h4:m=l.length:=h3.1
  have h5:=Sl.at_ h3
  rw [←bL] at h5
  exact kg h5 (by rw [hs.sz];simp [h4]) hs.ag⟩ h
theorem Ls {T:TypeId} {zs:List Value} {a b c d:UInt8} [h:Bar P T 1 zs] (hl:zs.length=4:=by rfl):Yv P O F (Ak.bld T [(0,vb a),(1,vb b),(2,vb c),(3,vb d)]) (vA (bE [a,b,c,d])):=by
 match zs,hl,h with
 | [z0,z1,z2,z3],_,h=>
  have hb:Ba 1 [z0,z1,z2,z3] [(0,vb a),(1,vb b),(2,vb c),(3,vb d)] (bE [a,b,c,d]) True:=⟨fun _=>rfl⟩
  exact qF (hb:=hb) (hp:=trivial)
theorem dH (bs:List Nat) {O0:List It} {n N id:Nat} {ro:Option Nat} {ds:List Deferred} {σ:Fm} {ops:Array Oper} {K:Kt} [h:Wzs O bs O0] (hN:uj ops.toList 0=some N) (k:Tr G O F (ED P n ops (Hp G O0 F) N (K .nm ds) N [] 0 σ)) (hm:P.follows .mixedOrders=true:=by kernel_rfl) (hT:CT ops (bw ops) N=true:=by kernel_rfl):Tr G O F (Dw P ro n id ops ds σ K):=
 ⟨fun w hp=>gM O0 F h.wz (fun _ h=>h) hN k hm hT w hp⟩
end
theorem z5 {b o o' n c k q c':Nat} {t:List UInt8} {w:World} (h:Sl cB (some ⟨b,o,none⟩) n c t w) (ho:o'=o+k) (hk:k+q≤n) (hc:q≤c') (hq:c'≤9223372036854775807):Sl cB (some ⟨b,o',none⟩) q c' ((t.drop k).take q) w:=by
 have h1:n=t.length:=h.1
 have h2:=Sl.at_ h
 have h3:t.flatMap cB=bE (t.take k)++(bE ((t.drop k).take q)++bE ((t.drop k).drop q)):=by rw [bL,bL,bL,←List.flatMap_append,←List.flatMap_append,List.take_append_drop,List.take_append_drop]
 rw [h3] at h2
 have h4:(bE (t.take k)).length=k:=by simp;omega
 have h5:=At.sub h2 k (bE ((t.drop k).take q)) (by rw [List.drop_left' h4];exact List.take_left' rfl)
 rw [bL] at h5
 rw [ho]
 exact rk h5 (by simp;omega) hc hq
theorem o5 {b o o' n c k q:Nat} {t:List UInt8} {w:World} (h:Sl cB (some ⟨b,o,none⟩) n c t w) (ho:o'=o+k) (hk:k+q≤n) (hq:q≤9223372036854775807):Sl cB (some ⟨b,o',none⟩) q q ((t.drop k).take q) w:=z5 h ho hk (Nat.le_refl _) hq
end Go.Cz
