/- Lemmas and walks: what each function does, by its own code. No condition beyond those of each statement. -/
import Derived.Test.YtbobhnldhpjdlaaGreatDoorP1
set_option linter.all false
set_option linter.unusedVariables false
namespace Go.Cs
open Go Go.RowKit
theorem wW {l:List UInt8} {sz:Nat} (h:np l sz=0):l.length=sz:=by
 unfold np at h
 split at h
 ·cases h
 ·split at h
  ·cases h
  ·omega
end Go.Cs
namespace Go.Cs
open Go Go.RowKit
theorem Ir:∀(l:List UInt8),be (kV l) l.length=l:=by
 intro l
 have key:∀(n:Nat) (l:List UInt8),l.length=n→be (kV l) n=l:=by
  intro n
  induction n with
  | zero=>intro l h;rw [List.eq_nil_of_length_eq_zero h];rfl
  | succ n ih=>
   intro l h
   have hne:l≠ []:=by intro e;subst e;simp at h
   obtain ⟨m,c,rfl⟩:∃m c,l=m++ [c]:=⟨l.dropLast,l.getLast hne,(List.dropLast_concat_getLast hne).symm⟩
   rw [oD,Dh]
   have hc:=c.toNat_lt
   have h1:(kV m*256+c.toNat)/256=kV m:=by omega
   rw [h1,ih m (by simpa using h)]
   congr 2
   apply UInt8.toNat_inj.1
   simp
 exact key _ l rfl
theorem E7 {l:List UInt8} {n:Nat} (h:np l n=0):be (dz l n) n=l:=by
 have h1:=wW h
 rw [pP h1,←h1,Ir]
end Go.Cs
namespace Go.Cs
open Go
theorem rM {l:List UInt8} (h:0<l.length): [UInt8.ofNat (byt l 0)]=l.take 1:=by
 cases l with
 | nil=>simp at h
 | cons a r=>simp [byt]
theorem l7 {l:List UInt8} {n:Nat} (h:l.length=n):be (dz l n) n=l:=E7 (C8 h)
theorem Fw {l:List UInt8} (h:l.length=12):eA (Non.of l)=l:=by
 show be (dz (l.take 4) 4) 4++be (dz (l.drop 4) 8) 8=l
 rw [l7 (by simp;omega),l7 (by simp;omega),List.take_append_drop]
theorem FH {l:List UInt8} (h:l.length=45):ga (Rec.of l)=l:=by
 show [UInt8.ofNat (byt l 0)]++eA (Non.of ((l.drop 1).take 12))++(Dig.of ((l.drop 13).take 32)).l=l
 rw [rM (by omega),Fw (by simp;omega),Dig.of_l (by simp;omega),List.take_of_length_le (l:=l.drop 13) (by simp;omega),List.append_assoc,show l.drop 13=(l.drop 1).drop 12 by rw [List.drop_drop],List.take_append_drop,List.take_append_drop]
theorem DO {l:List UInt8} (h:l.length=33):gP (Ent.of l)=l:=by
 show [UInt8.ofNat (byt l 0)]++(Dig.of ((l.drop 1).take 32)).l=l
 rw [rM (by omega),Dig.of_l (by simp;omega),List.take_of_length_le (l:=l.drop 1) (by simp;omega),List.take_append_drop]
end Go.Cs
namespace Go.Cs
open Go Go.RowKit
theorem q8 (l:List UInt8):LT l 0=0:=by unfold LT;split<;>rfl
theorem M4 {l:List UInt8} {i:Nat} (h:LT l i=0) (h0:byt l 0=0) (hc:bS (Rec.of (eI l 45 i))=0):LT l (i+1)=0:=by
 unfold LT at*;rw [if_pos h0] at*;rw [jm,if_pos h,hc]
theorem L7 {l:List UInt8} {i:Nat} (h:LT l i=0) (h0:¬byt l 0=0) (hc:dK (Ent.of (eI l 33 i))=0):LT l (i+1)=0:=by
 unfold LT at*;rw [if_neg h0] at*;rw [jm,if_pos h,hc]
theorem yi {l:List UInt8} {i:Nat} (hi:i<4) (h0:byt l 0=0) (hc:bS (Rec.of (eI l 45 i))=1):LT l 4=1:=by
 unfold LT;rw [if_pos h0];exact iQ (g:=fun k=>Rec.of (eI l 45 k)) gK hi (by rw [hc];decide)
theorem yG {l:List UInt8} {i:Nat} (hi:i<4) (h0:¬byt l 0=0) (hc:dK (Ent.of (eI l 33 i))=1):LT l 4=1:=by
 unfold LT;rw [if_neg h0];exact iQ (g:=fun k=>Ent.of (eI l 33 k)) iW hi (by rw [hc];decide)
theorem wB {l:List UInt8} (h:l.length=0):nN l=6:=if_pos h
theorem yk {l:List UInt8} (h:¬l.length=0) (h1:5<byt l 0):nN l=1:=by unfold nN;rw [if_neg h,if_pos h1]
theorem ow {l:List UInt8} (h1:¬5<byt l 0) (h2:l.length<xX l):nN l=6:=by
 unfold nN;(repeat' split)<;>first | rfl | omega
theorem t4 {l:List UInt8} (h1:¬5<byt l 0) (h2:xX l<l.length):nN l=5:=by
 unfold nN;rw [if_neg (by omega),if_neg h1,if_neg (by omega),if_pos h2]
theorem mu {l:List UInt8} (h:nN l=0):byt l 0≤5∧l.length=xX l∧LT l 4=0:=by
 unfold nN at h
 repeat' (split at h)
 all_goals first | omega | exact ⟨by omega,by omega,h⟩
theorem lI {α:Type} {f:α→List UInt8} {g:Nat→α} {d:List UInt8} {sz:Nat}:∀{n:Nat},n*sz≤d.length→(∀i,i<n→f (g i)=(d.drop (i*sz)).take sz)→fV f g n=d.take (n*sz)
 | 0,_,_=>by simp [fV]
 | n+1,hl,h=>by
  rw [Nat.add_mul,Nat.one_mul] at hl⊢
  rw [fV,lI (by omega) (fun i hi=>h i (by omega)),h n (by omega),List.take_add]
theorem r6 {l:List UInt8} {sz i:Nat} (hi:i<4) (h:l.length=5+4*sz):(eI l sz i).length=sz:=by
 have:=Nat.mul_le_mul_right sz (show i+1≤4 from hi)
 rw [Nat.add_mul,Nat.one_mul] at this
 simp [eI];omega
theorem Ax {l:List UInt8} (h:5≤l.length):iZ (c9 l 4)=l.take 5:=by
 show UInt8.ofNat (byt l 0)::be (dz ((l.drop 1).take 4) 4) 4=l.take 5
 rw [l7 (by simp;omega)]
 match l,h with
 | a::r,_=>simp [byt]
theorem v7 {l:List UInt8} (h:nN l=0):aM (yw l)=l:=by
 obtain ⟨h5,hl,hc⟩:=mu h
 rw [pR h,if_pos rfl,aM]
 by_cases h0:byt l 0=0
 ·have hl2:l.length=185:=by rw [hl,xX,if_pos h0]
  rw [if_pos (show (c9 l 4).lv=0 from h0),Ax (by omega),lI (d:=l.drop 5) (sz:=45) (by simp;omega) (fun i hi=>by rw [j4 l 4 hi,if_pos ⟨hi,h0⟩,FH (r6 hi (by omega)),ou]),
   List.take_of_length_le (l:=l.drop 5) (by simp;omega),List.take_append_drop]
 ·have hl2:l.length=137:=by rw [hl,xX,if_neg h0]
  rw [if_neg (show ¬(c9 l 4).lv=0 from h0),Ax (by omega),lI (d:=l.drop 5) (sz:=33) (by simp;omega) (fun i hi=>by rw [kx l 4 hi,if_pos ⟨hi,h0⟩,DO (r6 hi (by omega)),ou]),
   List.take_of_length_le (l:=l.drop 5) (by simp;omega),List.take_append_drop]
theorem ji {l:List UInt8} (h:nN l=0):bA (yw l)=0:=by
 obtain ⟨h5,hl,hc⟩:=mu h
 rw [pR h,if_pos rfl,oR (x:=c9 l 4) h5 ⟨fun h0 k hk=>by rw [kx l 4 hk,if_neg (by intro hh;exact hh.2 h0)],fun h0 k hk=>by rw [j4 l 4 hk,if_neg (by intro hh;exact h0 hh.2)]⟩]
 unfold IN;unfold LT at hc
 by_cases h0:byt l 0=0
 ·rw [if_pos h0] at hc;rw [if_pos (show (c9 l 4).lv=0 from h0)]
  exact aZ.2 fun i hi=>by rw [j4 l 4 hi,if_pos ⟨hi,h0⟩];exact aZ.1 hc i hi
 ·rw [if_neg h0] at hc;rw [if_neg (show ¬(c9 l 4).lv=0 from h0)]
  exact aZ.2 fun i hi=>by rw [kx l 4 hi,if_pos ⟨hi,h0⟩];exact aZ.1 hc i hi
end Go.Cs
