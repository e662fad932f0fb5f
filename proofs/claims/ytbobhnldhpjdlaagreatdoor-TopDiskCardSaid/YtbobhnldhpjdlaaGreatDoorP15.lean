/- Lemmas and walks: what each function does, by its own code. No condition beyond those of each statement. -/
import Derived.Test.YtbobhnldhpjdlaaGreatDoorP4
import Derived.Test.YtbobhnldhpjdlaaGreatDoorP10
import Derived.Test.YtbobhnldhpjdlaaGreatDoorProg
set_option linter.all false
set_option linter.unusedVariables false
namespace Go.Cz
open Go Go.RowKit Go.Cs
section
variable {P:Program} {G:Gc} {O:List It} {F:List Pt} {C:Value→Pt} {D:Pt} {k:Ak} {A B E:Prop}
theorem Ld (h:A→Tr G O F (Rv P k C)):A→Tr G O F (Rv P k C):=h
theorem KN {T:TypeId} {a:Value} (h:A→Tr G O F (Rl P T a C)):A→Tr G O F (Rl P T a C):=h
theorem KG {k:Dk} (h:A→Tr G O F (Ru P k D)):A→Tr G O F (Ru P k D):=h
theorem Ko {ops:Array Oper} {n:Nat} {l:List Oper} {σ:Fm} {K:Fm→Pt} (h:A→Tr G O F (ER P ops n l σ K)):A→Tr G O F (ER P ops n l σ K):=h
theorem Ks {ro:Option Nat} {n:Nat} {c:Code} {ds:List Deferred} {σ:Fm} {K:Kt} (h:A→Tr G O F (EC P ro n c ds σ K)):A→Tr G O F (EC P ro n c ds σ K):=h
theorem J6 {ops:Array Oper} {Cc:Pt} {m i:Nat} {D:(Value→Pt)→Pt} (h:A→Tr G O F (Dt P ops Cc m i D C)):A→Tr G O F (Dt P ops Cc m i D C):=h
theorem Lg {ops:Array Oper} {m i:Nat} {D:(Value→Pt)→Pt} (h:A→Tr G O F (Dp P ops m i D C)):A→Tr G O F (Dp P ops m i D C):=h
theorem KX {Cc:Pt} {ops:Array Oper} {i:Nat} {dn:List Nat} (h:A→Tr G O F (Dx Cc ops i dn D)):A→Tr G O F (Dx Cc ops i dn D):=h
theorem KD {n:Nat} {ops:Array Oper} {Cc:Pt} {N:Nat} {K:Fm→Pt} {f:Nat} {dn:List Nat} {m:Nat} {σ:Fm} (h:A→Tr G O F (ED P n ops Cc N K f dn m σ)):A→Tr G O F (ED P n ops Cc N K f dn m σ):=h
theorem aw (a:A) (h:A→B:=by first | exact fun a=>gC a | exact fun a=>dO a):B:=h a
theorem az (a:A) (h:A→B:=by first |(apply Ko;first | exact fun a=>cu a | exact fun a=>bD a)|(apply Ks;first | exact fun a=>fD a | exact fun a=>fK a | exact fun a=>fx a | exact fun a=>fC a | exact fun a=>fA a | exact fun a=>fk a | exact fun a=>fI a | exact fun a=>ft a | exact fun a=>fF a | exact fun a=>fy a | exact fun a=>fE a | exact fun a=>fH a)|(apply KN;first | exact fun a=>sL a | exact fun a=>m9 a | exact fun a=>nk a | exact fun a=>nh a)|(apply KG;first | exact fun a=>sS a | exact fun a=>nj a)|(apply Ld;first | exact fun a=>ng a | exact fun a=>fO a | exact fun a=>dp a | exact fun a=>dq a)|(apply Lg;intro a;(conv=>arg 4;arg 5;ext C;whnf);first | exact m7 a | exact cR a | exact nc a)|(apply J6;intro a;(conv=>arg 4;arg 6;ext C;whnf);first | exact mc a | exact fJ a | exact m8 a | exact fG a)|(apply KD;first | exact fun a=>fh a | exact fun a=>dw a)|(apply J7;first | exact fun a=>A5 a | exact fun a=>q5 a)|(apply KX;first | exact fun a=>du a | exact fun a=>fu a (by (((repeat' (first | with_reducible exact ar _ | exact am _ | refine aE ?_ ?_ | refine aG inferInstance ?_ | refine aX ?_))<;>(try with_reducible rfl)))<;>fail) (by first | exact fun _ h=>h | exact fun _ h=> .tail _ h | exact fun _ h=> .tail _ (.tail _ h)| exact fun _ h=> .tail _ (.tail _ (.tail _ h))))| exact fun a=>bF rfl rfl a |(refine fun a=>bh ?_;(conv=>arg 4;whnf);exact bc rfl a)| exact fun a=>fa a | exact fun a=>dm (by assumption) a | exact fun a=>fB (st:= .ready) a | exact fun a=>dv a | exact fun a=>fg a | exact fun a=>fq a | exact fun a=>fP a | exact fun a=>fi a | exact fun a=>fN a):B:=h a
theorem aO (a:A) (h:A→B:=by first |(apply Ko;first | exact fun a=>cu a | exact fun a=>bD a)|(apply Ks;first | exact fun a=>fD a | exact fun a=>fK a | exact fun a=>fx a | exact fun a=>fC a | exact fun a=>fA a | exact fun a=>fk a | exact fun a=>fI a | exact fun a=>ft a | exact fun a=>fF a | exact fun a=>fy a | exact fun a=>fE a | exact fun a=>fH a)|(apply KN;first | exact fun a=>sL a | exact fun a=>m9 a | exact fun a=>nk a | exact fun a=>nh a)|(apply KG;first | exact fun a=>sS a | exact fun a=>nj a)|(apply Ld;first | exact fun a=>ng a | exact fun a=>fO a | exact fun a=>dp a | exact fun a=>dq a)|(apply Lg;intro a;(conv=>arg 4;arg 5;ext C;whnf);first | exact m7 a | exact cR a | exact nc a)|(apply J6;intro a;(conv=>arg 4;arg 6;ext C;whnf);first | exact mc a | exact fJ a | exact m8 a | exact fG a)|(apply KD;first | exact fun a=>fh a | exact fun a=>dw a)|(apply J7;first | exact fun a=>A5 a | exact fun a=>q5 a)|(apply KX;first | exact fun a=>du a | exact fun a=>fu a (by (((repeat' (first | with_reducible exact ar _ | exact am _ | refine aE ?_ ?_ | refine aG inferInstance ?_ | refine aX ?_))<;>(try with_reducible rfl)))<;>fail) (by first | exact fun _ h=>h | exact fun _ h=> .tail _ h | exact fun _ h=> .tail _ (.tail _ h)| exact fun _ h=> .tail _ (.tail _ (.tail _ h))))| exact fun a=>fa a | exact fun a=>dm (by assumption) a | exact fun a=>fB (st:= .ready) a | exact fun a=>dv a | exact fun a=>fg a | exact fun a=>fq a | exact fun a=>fP a | exact fun a=>fi a | exact fun a=>fN a):B:=h a
theorem yH (a:A) (h:A→B:=by first |(apply Ko;first | exact fun a=>cu a | exact fun a=>bD a)|(apply Ks;first | exact fun a=>fD a | exact fun a=>fK a | exact fun a=>fx a | exact fun a=>fC a | exact fun a=>fA a | exact fun a=>fk a | exact fun a=>fI a | exact fun a=>ft a | exact fun a=>fF a | exact fun a=>fy a | exact fun a=>fE a | exact fun a=>fH a)|(apply KN;first | exact fun a=>sL a | exact fun a=>m9 a | exact fun a=>nk a | exact fun a=>nh a)|(apply KG;first | exact fun a=>sS a | exact fun a=>nj a)|(apply Ld;first | exact fun a=>ng a | exact fun a=>fO a | exact fun a=>dp a | exact fun a=>dq a)|(apply Lg;intro a;(conv=>arg 4;arg 5;ext C;whnf);first | exact m7 a | exact cR a | exact nc a)|(apply J6;intro a;(conv=>arg 4;arg 6;ext C;whnf);first | exact mc a | exact fJ a | exact m8 a | exact fG a)|(apply KD;first | exact fun a=>fh a | exact fun a=>dw a)|(apply J7;first | exact fun a=>A5 a | exact fun a=>q5 a)|(apply KX;first | exact fun a=>du a | exact fun a=>fu a (by (((repeat' (first | with_reducible exact ar _ | exact am _ | refine aE ?_ ?_ | refine aG inferInstance ?_ | refine aX ?_))<;>(try with_reducible rfl)))<;>fail) (by (repeat' (first | exact fun _ h=>absurd h List.not_mem_nil | refine List.forall_mem_cons.2 ⟨?_, ?_⟩))<;>(try dsimp only)<;>(repeat (first | with_reducible exact List.mem_cons_self | with_reducible apply List.mem_cons_of_mem))))| exact fun a=>fa a | exact fun a=>dm (by assumption) a | exact fun a=>fB (st:= .ready) a | exact fun a=>dv a | exact fun a=>fg a | exact fun a=>fq a | exact fun a=>fP a | exact fun a=>fi a | exact fun a=>fN a):B:=h a
theorem au (a:A) (e:E) (h:A→E→B:=by first | exact fun a e=>dJ a e | exact fun a e=>dG a e | exact fun a e=>dW a e | exact fun a e=>dL a e):B:=h a e
theorem av (a:A) (h:A→B:=by intro a;(conv=>arg 4;whnf);first |((first | refine cu ?_ | refine bD ?_);(conv=>arg 4;whnf);exact a)| exact a):B:=h a
theorem ax (h:B:=by exact aD () True.intro rfl (am _)):B:=h
theorem bV {O':List It} {F':List Pt} (h:Tr G O' F' D) (e:O=O':=by first |(simp only [List.nil_append,List.cons_append];exact rfl)| exact rfl) (f:F=F':=by first |(simp only [List.nil_append,List.cons_append];exact rfl)| exact rfl):Tr G O F D:=by subst e f;exact h
theorem aH {O':List It} (h:Tr G O' F D) (e:O=O':=by first |(simp only [List.nil_append,List.cons_append];exact rfl)| exact rfl):Tr G O F D:=by subst e;exact h
theorem cD {O O':List It} (h:Wk O O':=by ((repeat' (first | with_reducible exact ar _ | exact am _ | refine aE ?_ ?_ | refine aG inferInstance ?_ | refine aX ?_))<;>(try with_reducible rfl))):Wk O O':=h
theorem bu {F F':List Pt} (h:∀f∈F',f∈F:=by (repeat' (first | exact fun _ h=>absurd h List.not_mem_nil | refine List.forall_mem_cons.2 ⟨?_, ?_⟩))<;>(try dsimp only)<;>(repeat (first | with_reducible exact List.mem_cons_self | with_reducible apply List.mem_cons_of_mem))):∀f∈F',f∈F:=h
end
end Go.Cz
namespace Go.Proofs.YtbobhnldhpjdlaaGreatDoor
open Go Go.RowKit Go.Cs Go.Cz
set_option maxRecDepth 100000
instance:Ik Tryz.prog 3 .i64:=⟨by kernel_rfl⟩
instance:Ik Tryz.prog 5 .u8:=⟨by kernel_rfl⟩
instance:Ik Tryz.prog 24 .u64:=⟨by kernel_rfl⟩
instance:Ik Tryz.prog 63 .u32:=⟨by kernel_rfl⟩
instance:Ik Tryz.prog 360 .u64:=⟨by kernel_rfl⟩
instance:Ni 0 0:=⟨rfl⟩
instance:Ni 1 1:=⟨rfl⟩
instance:Ni 2 2:=⟨rfl⟩
instance:Ni 3 3:=⟨rfl⟩
instance:Ni 4 4:=⟨rfl⟩
instance:Ni 5 5:=⟨rfl⟩
instance:Ni 6 6:=⟨rfl⟩
instance:Ni 7 7:=⟨rfl⟩
instance:Ni 8 8:=⟨rfl⟩
instance:Ni 10 10:=⟨rfl⟩
instance:Ni 12 12:=⟨rfl⟩
instance:Ni 15 15:=⟨rfl⟩
instance:Ni 16 16:=⟨rfl⟩
instance:Ni 17 17:=⟨rfl⟩
instance:Ni 20 20:=⟨rfl⟩
instance:Ni 27 27:=⟨rfl⟩
instance:Ni 31 31:=⟨rfl⟩
instance:Ni 32 32:=⟨rfl⟩
instance:Ni 64 64:=⟨rfl⟩
instance:Lu 97 97:=⟨rfl⟩
instance:Lu 99 99:=⟨rfl⟩
instance:Ni 99 99:=⟨rfl⟩
instance:Lu 101 101:=⟨rfl⟩
instance:Lu 105 105:=⟨rfl⟩
instance:Lu 109 109:=⟨rfl⟩
instance:Lu 110 110:=⟨rfl⟩
instance:Lu 111 111:=⟨rfl⟩
instance:Lu 112 112:=⟨rfl⟩
instance:Lu 114 114:=⟨rfl⟩
instance:Lu 115 115:=⟨rfl⟩
instance:Lu 116 116:=⟨rfl⟩
instance:Lu 121 121:=⟨rfl⟩
instance:Ni 255 255:=⟨rfl⟩
instance:Ni 1000 1000:=⟨rfl⟩
instance:Ni 1048576 1048576:=⟨rfl⟩
instance:Ni 4294967295 4294967295:=⟨rfl⟩
instance:Sz Tryz.prog 3 1 false:=⟨by kernel_rfl,by kernel_rfl⟩
instance:Sz Tryz.prog 4 1 false:=⟨by kernel_rfl,by kernel_rfl⟩
instance:Sz Tryz.prog 5 1 false:=⟨by kernel_rfl,by kernel_rfl⟩
instance:Sz Tryz.prog 24 1 false:=⟨by kernel_rfl,by kernel_rfl⟩
instance:Sz Tryz.prog 26 32 true:=⟨by kernel_rfl,by kernel_rfl⟩
instance:Sz Tryz.prog 30 1 false:=⟨by kernel_rfl,by kernel_rfl⟩
instance:Sz Tryz.prog 31 16 true:=⟨by kernel_rfl,by kernel_rfl⟩
instance:Sz Tryz.prog 33 48 true:=⟨by kernel_rfl,by kernel_rfl⟩
instance:Sz Tryz.prog 34 1 false:=⟨by kernel_rfl,by kernel_rfl⟩
instance:Sz Tryz.prog 36 3 true:=⟨by kernel_rfl,by kernel_rfl⟩
instance:Sz Tryz.prog 37 1 false:=⟨by kernel_rfl,by kernel_rfl⟩
instance:Sz Tryz.prog 38 1 false:=⟨by kernel_rfl,by kernel_rfl⟩
instance:Sz Tryz.prog 40 4 true:=⟨by kernel_rfl,by kernel_rfl⟩
instance:Sz Tryz.prog 41 1 false:=⟨by kernel_rfl,by kernel_rfl⟩
instance:Sz Tryz.prog 43 2 true:=⟨by kernel_rfl,by kernel_rfl⟩
instance:Sz Tryz.prog 44 1 false:=⟨by kernel_rfl,by kernel_rfl⟩
instance:Sz Tryz.prog 46 1 true:=⟨by kernel_rfl,by kernel_rfl⟩
instance:Sz Tryz.prog 48 61 true:=⟨by kernel_rfl,by kernel_rfl⟩
instance:Sz Tryz.prog 49 1 false:=⟨by kernel_rfl,by kernel_rfl⟩
instance:Sz Tryz.prog 52 32 true:=⟨by kernel_rfl,by kernel_rfl⟩
instance:Sz Tryz.prog 55 1 false:=⟨by kernel_rfl,by kernel_rfl⟩
instance:Sz Tryz.prog 63 1 false:=⟨by kernel_rfl,by kernel_rfl⟩
instance:Sz Tryz.prog 65 2 true:=⟨by kernel_rfl,by kernel_rfl⟩
instance:Sz Tryz.prog 66 32 true:=⟨by kernel_rfl,by kernel_rfl⟩
instance:Sz Tryz.prog 80 34 true:=⟨by kernel_rfl,by kernel_rfl⟩
instance:Sz Tryz.prog 81 1 false:=⟨by kernel_rfl,by kernel_rfl⟩
instance:Sz Tryz.prog 83 1 false:=⟨by kernel_rfl,by kernel_rfl⟩
instance:Sz Tryz.prog 103 1 false:=⟨by kernel_rfl,by kernel_rfl⟩
instance:Sz Tryz.prog 105 2 true:=⟨by kernel_rfl,by kernel_rfl⟩
instance:Sz Tryz.prog 107 1 false:=⟨by kernel_rfl,by kernel_rfl⟩
instance:Sz Tryz.prog 109 2 true:=⟨by kernel_rfl,by kernel_rfl⟩
instance:Sz Tryz.prog 111 2 true:=⟨by kernel_rfl,by kernel_rfl⟩
instance:Sz Tryz.prog 126 1 false:=⟨by kernel_rfl,by kernel_rfl⟩
instance:Sz Tryz.prog 128 2 true:=⟨by kernel_rfl,by kernel_rfl⟩
instance:Sz Tryz.prog 138 35 true:=⟨by kernel_rfl,by kernel_rfl⟩
instance:Sz Tryz.prog 142 2 true:=⟨by kernel_rfl,by kernel_rfl⟩
instance:Sz Tryz.prog 161 4 true:=⟨by kernel_rfl,by kernel_rfl⟩
instance:Sz Tryz.prog 163 20 true:=⟨by kernel_rfl,by kernel_rfl⟩
instance:Sz Tryz.prog 174 1 false:=⟨by kernel_rfl,by kernel_rfl⟩
instance:Sz Tryz.prog 176 1 false:=⟨by kernel_rfl,by kernel_rfl⟩
instance:Sz Tryz.prog 185 1 false:=⟨by kernel_rfl,by kernel_rfl⟩
instance:Sz Tryz.prog 197 1 false:=⟨by kernel_rfl,by kernel_rfl⟩
instance:Sz Tryz.prog 212 140 true:=⟨by kernel_rfl,by kernel_rfl⟩
instance:Sz Tryz.prog 214 33 true:=⟨by kernel_rfl,by kernel_rfl⟩
instance:Sz Tryz.prog 215 132 true:=⟨by kernel_rfl,by kernel_rfl⟩
instance:Sz Tryz.prog 217 274 true:=⟨by kernel_rfl,by kernel_rfl⟩
instance:Sz Tryz.prog 228 86 true:=⟨by kernel_rfl,by kernel_rfl⟩
instance:Sz Tryz.prog 242 33 true:=⟨by kernel_rfl,by kernel_rfl⟩
instance:Sz Tryz.prog 245 1 false:=⟨by kernel_rfl,by kernel_rfl⟩
instance:Sz Tryz.prog 247 3 true:=⟨by kernel_rfl,by kernel_rfl⟩
instance:Sz Tryz.prog 248 1 false:=⟨by kernel_rfl,by kernel_rfl⟩
instance:Sz Tryz.prog 262 4 true:=⟨by kernel_rfl,by kernel_rfl⟩
instance:Sz Tryz.prog 264 280 true:=⟨by kernel_rfl,by kernel_rfl⟩
instance:Sz Tryz.prog 266 2 true:=⟨by kernel_rfl,by kernel_rfl⟩
instance:Sz Tryz.prog 279 4 true:=⟨by kernel_rfl,by kernel_rfl⟩
instance:Sz Tryz.prog 282 1 false:=⟨by kernel_rfl,by kernel_rfl⟩
instance:Sz Tryz.prog 287 2 true:=⟨by kernel_rfl,by kernel_rfl⟩
instance:Sz Tryz.prog 293 3 true:=⟨by kernel_rfl,by kernel_rfl⟩
instance:Sz Tryz.prog 299 2 true:=⟨by kernel_rfl,by kernel_rfl⟩
instance:Sz Tryz.prog 317 18 true:=⟨by kernel_rfl,by kernel_rfl⟩
instance:Sz Tryz.prog 321 8 true:=⟨by kernel_rfl,by kernel_rfl⟩
instance:Sz Tryz.prog 322 64 true:=⟨by kernel_rfl,by kernel_rfl⟩
instance:Sz Tryz.prog 324 74 true:=⟨by kernel_rfl,by kernel_rfl⟩
instance:Sz Tryz.prog 351 1 false:=⟨by kernel_rfl,by kernel_rfl⟩
instance:Sz Tryz.prog 353 2 true:=⟨by kernel_rfl,by kernel_rfl⟩
instance:Sz Tryz.prog 366 64 true:=⟨by kernel_rfl,by kernel_rfl⟩
instance:Sz Tryz.prog 372 3 true:=⟨by kernel_rfl,by kernel_rfl⟩
instance:Sz Tryz.prog 390 2 true:=⟨by kernel_rfl,by kernel_rfl⟩
instance:Sz Tryz.prog 409 1 true:=⟨by kernel_rfl,by kernel_rfl⟩
instance:Sz Tryz.prog 417 1 false:=⟨by kernel_rfl,by kernel_rfl⟩
instance:Sz Tryz.prog 456 1 true:=⟨by kernel_rfl,by kernel_rfl⟩
instance:Sz Tryz.prog 457 4 true:=⟨by kernel_rfl,by kernel_rfl⟩
instance:Sz Tryz.prog 476 1 false:=⟨by kernel_rfl,by kernel_rfl⟩
instance:Sz Tryz.prog 479 64 true:=⟨by kernel_rfl,by kernel_rfl⟩
instance:Sz Tryz.prog 504 176 true:=⟨by kernel_rfl,by kernel_rfl⟩
instance:Sz Tryz.prog 527 4 true:=⟨by kernel_rfl,by kernel_rfl⟩
instance:Sz Tryz.prog 531 16 true:=⟨by kernel_rfl,by kernel_rfl⟩
instance:Ix Tryz.prog 26 5 1 (some 32):=⟨by kernel_rfl,by kernel_rfl⟩
instance:Ix Tryz.prog 31 5 1 (some 16):=⟨by kernel_rfl,by kernel_rfl⟩
instance:Ix Tryz.prog 34 351 1 none:=⟨by kernel_rfl,by kernel_rfl⟩
instance:Ix Tryz.prog 37 80 34 none:=⟨by kernel_rfl,by kernel_rfl⟩
instance:Ix Tryz.prog 38 24 1 none:=⟨by kernel_rfl,by kernel_rfl⟩
instance:Ix Tryz.prog 41 264 280 none:=⟨by kernel_rfl,by kernel_rfl⟩
instance:Ix Tryz.prog 44 163 20 none:=⟨by kernel_rfl,by kernel_rfl⟩
instance:Ix Tryz.prog 52 5 1 (some 32):=⟨by kernel_rfl,by kernel_rfl⟩
instance:Ix Tryz.prog 55 5 1 none:=⟨by kernel_rfl,by kernel_rfl⟩
instance:Ix Tryz.prog 66 5 1 (some 32):=⟨by kernel_rfl,by kernel_rfl⟩
instance:Ix Tryz.prog 81 52 32 none:=⟨by kernel_rfl,by kernel_rfl⟩
instance:Ix Tryz.prog 83 3 1 none:=⟨by kernel_rfl,by kernel_rfl⟩
instance:Ix Tryz.prog 107 372 3 none:=⟨by kernel_rfl,by kernel_rfl⟩
instance:Ix Tryz.prog 126 217 274 none:=⟨by kernel_rfl,by kernel_rfl⟩
instance:Ix Tryz.prog 212 138 35 (some 4):=⟨by kernel_rfl,by kernel_rfl⟩
instance:Ix Tryz.prog 215 214 33 (some 4):=⟨by kernel_rfl,by kernel_rfl⟩
instance:Ix Tryz.prog 236 247 3 none:=⟨by kernel_rfl,by kernel_rfl⟩
instance:Ix Tryz.prog 248 266 2 none:=⟨by kernel_rfl,by kernel_rfl⟩
instance:Ix Tryz.prog 262 4 1 (some 4):=⟨by kernel_rfl,by kernel_rfl⟩
instance:Ix Tryz.prog 282 287 2 none:=⟨by kernel_rfl,by kernel_rfl⟩
instance:Ix Tryz.prog 320 55 1 none:=⟨by kernel_rfl,by kernel_rfl⟩
instance:Ix Tryz.prog 321 63 1 (some 8):=⟨by kernel_rfl,by kernel_rfl⟩
instance:Ix Tryz.prog 322 5 1 (some 64):=⟨by kernel_rfl,by kernel_rfl⟩
instance:Ix Tryz.prog 334 176 1 none:=⟨by kernel_rfl,by kernel_rfl⟩
instance:Ix Tryz.prog 366 185 1 (some 64):=⟨by kernel_rfl,by kernel_rfl⟩
instance:Ix Tryz.prog 372 5 1 (some 3):=⟨by kernel_rfl,by kernel_rfl⟩
instance:Ix Tryz.prog 406 299 2 none:=⟨by kernel_rfl,by kernel_rfl⟩
instance:Ix Tryz.prog 416 3 1 (some 2):=⟨by kernel_rfl,by kernel_rfl⟩
instance:Ix Tryz.prog 457 456 1 (some 4):=⟨by kernel_rfl,by kernel_rfl⟩
instance:Ix Tryz.prog 471 197 1 none:=⟨by kernel_rfl,by kernel_rfl⟩
instance:Ix Tryz.prog 479 63 1 (some 64):=⟨by kernel_rfl,by kernel_rfl⟩
instance:Ix Tryz.prog 504 31 16 (some 11):=⟨by kernel_rfl,by kernel_rfl⟩
instance:Ix Tryz.prog 520 3 1 (some 6):=⟨by kernel_rfl,by kernel_rfl⟩
instance:Ix Tryz.prog 525 44 1 none:=⟨by kernel_rfl,by kernel_rfl⟩
instance:Ix Tryz.prog 527 5 1 (some 4):=⟨by kernel_rfl,by kernel_rfl⟩
instance:Zk Tryz.prog 3 Nat cI (0) 1 8:=⟨.int .i64 0,by kernel_rfl,by kernel_rfl⟩
instance:Zk Tryz.prog 5 UInt8 cB (0) 1 1:=⟨.int .u8 0,by kernel_rfl,by kernel_rfl⟩
instance:Zk Tryz.prog 24 UInt64 cQ (0) 1 8:=⟨.int .u64 0,by kernel_rfl,by kernel_rfl⟩
instance:Zk Tryz.prog 52 Dig ay (Dig.zero) 32 32:=⟨.agg (ay Dig.zero).toArray,by kernel_rfl,by kernel_rfl⟩
instance:Zk Tryz.prog 80 Cel aL (Cel.zero) 34 48:=⟨.agg (aL Cel.zero).toArray,by kernel_rfl,by kernel_rfl⟩
instance:Zk Tryz.prog 163 SUse bP (SUse.zero) 20 40:=⟨.agg (bP SUse.zero).toArray,by kernel_rfl,by kernel_rfl⟩
instance:Zk Tryz.prog 217 Nod aU (Nod.zero) 274 368:=⟨.agg (aU Nod.zero).toArray,by kernel_rfl,by kernel_rfl⟩
instance:Zk Tryz.prog 247 SOpn aN (SOpn.zero) 3 40:=⟨.agg (aN SOpn.zero).toArray,by kernel_rfl,by kernel_rfl⟩
instance:Zk Tryz.prog 264 Un a7 (Un.zero) 280 384:=⟨.agg (a7 Un.zero).toArray,by kernel_rfl,by kernel_rfl⟩
instance:Zk Tryz.prog 266 SWri cx (SWri.zero) 2 32:=⟨.agg (cx SWri.zero).toArray,by kernel_rfl,by kernel_rfl⟩
instance:Zk Tryz.prog 287 SPla co (SPla.zero) 2 16:=⟨.agg (co SPla.zero).toArray,by kernel_rfl,by kernel_rfl⟩
instance:Zk Tryz.prog 299 SDem gI (SDem.zero) 2 16:=⟨.agg (gI SDem.zero).toArray,by kernel_rfl,by kernel_rfl⟩
instance:Zk Tryz.prog 351 (Option Addr) cP (none) 1 8:=⟨.pointer none,by kernel_rfl,by kernel_rfl⟩
instance:Fo Tryz.prog 28 0 0 3:=⟨by kernel_rfl⟩
instance:Fo Tryz.prog 28 1 1 3:=⟨by kernel_rfl⟩
instance:Fo Tryz.prog 28 4 4 24:=⟨by kernel_rfl⟩
instance:Fo Tryz.prog 28 5 5 24:=⟨by kernel_rfl⟩
instance:Fo Tryz.prog 28 6 6 26:=⟨by kernel_rfl⟩
instance:Fo Tryz.prog 33 0 0 31:=⟨by kernel_rfl⟩
instance:Fo Tryz.prog 33 1 16 26:=⟨by kernel_rfl⟩
instance:Fo Tryz.prog 36 0 0 3:=⟨by kernel_rfl⟩
instance:Fo Tryz.prog 36 1 1 3:=⟨by kernel_rfl⟩
instance:Fo Tryz.prog 36 2 2 34:=⟨by kernel_rfl⟩
instance:Fo Tryz.prog 40 0 0 38:=⟨by kernel_rfl⟩
instance:Fo Tryz.prog 40 1 1 24:=⟨by kernel_rfl⟩
instance:Fo Tryz.prog 40 2 2 24:=⟨by kernel_rfl⟩
instance:Fo Tryz.prog 40 3 3 24:=⟨by kernel_rfl⟩
instance:Fo Tryz.prog 43 0 0 3:=⟨by kernel_rfl⟩
instance:Fo Tryz.prog 43 1 1 41:=⟨by kernel_rfl⟩
instance:Fo Tryz.prog 46 0 0 44:=⟨by kernel_rfl⟩
instance:Fo Tryz.prog 48 0 0 3:=⟨by kernel_rfl⟩
instance:Fo Tryz.prog 48 1 1 33:=⟨by kernel_rfl⟩
instance:Fo Tryz.prog 48 2 49 36:=⟨by kernel_rfl⟩
instance:Fo Tryz.prog 48 3 52 37:=⟨by kernel_rfl⟩
instance:Fo Tryz.prog 48 4 53 40:=⟨by kernel_rfl⟩
instance:Fo Tryz.prog 48 5 57 43:=⟨by kernel_rfl⟩
instance:Fo Tryz.prog 48 6 59 46:=⟨by kernel_rfl⟩
instance:Fo Tryz.prog 48 7 60 4:=⟨by kernel_rfl⟩
instance:Fo Tryz.prog 65 0 0 63:=⟨by kernel_rfl⟩
instance:Fo Tryz.prog 65 1 1 24:=⟨by kernel_rfl⟩
instance:Fo Tryz.prog 80 0 0 66:=⟨by kernel_rfl⟩
instance:Fo Tryz.prog 80 1 32 24:=⟨by kernel_rfl⟩
instance:Fo Tryz.prog 80 2 33 24:=⟨by kernel_rfl⟩
instance:Fo Tryz.prog 109 0 0 5:=⟨by kernel_rfl⟩
instance:Fo Tryz.prog 109 1 1 107:=⟨by kernel_rfl⟩
instance:Fo Tryz.prog 111 0 0 81:=⟨by kernel_rfl⟩
instance:Fo Tryz.prog 111 1 1 81:=⟨by kernel_rfl⟩
instance:Fo Tryz.prog 128 0 0 3:=⟨by kernel_rfl⟩
instance:Fo Tryz.prog 128 1 1 126:=⟨by kernel_rfl⟩
instance:Fo Tryz.prog 138 0 0 5:=⟨by kernel_rfl⟩
instance:Fo Tryz.prog 138 1 1 65:=⟨by kernel_rfl⟩
instance:Fo Tryz.prog 138 2 3 66:=⟨by kernel_rfl⟩
instance:Fo Tryz.prog 142 0 0 3:=⟨by kernel_rfl⟩
instance:Fo Tryz.prog 142 1 1 126:=⟨by kernel_rfl⟩
instance:Fo Tryz.prog 161 0 0 65:=⟨by kernel_rfl⟩
instance:Fo Tryz.prog 161 1 2 63:=⟨by kernel_rfl⟩
instance:Fo Tryz.prog 161 2 3 63:=⟨by kernel_rfl⟩
instance:Fo Tryz.prog 163 0 0 31:=⟨by kernel_rfl⟩
instance:Fo Tryz.prog 163 1 16 161:=⟨by kernel_rfl⟩
instance:Fo Tryz.prog 193 0 0 49:=⟨by kernel_rfl⟩
instance:Fo Tryz.prog 214 0 0 5:=⟨by kernel_rfl⟩
instance:Fo Tryz.prog 214 1 1 66:=⟨by kernel_rfl⟩
instance:Fo Tryz.prog 217 0 0 5:=⟨by kernel_rfl⟩
instance:Fo Tryz.prog 217 1 1 63:=⟨by kernel_rfl⟩
instance:Fo Tryz.prog 217 2 2 212:=⟨by kernel_rfl⟩
instance:Fo Tryz.prog 217 3 142 215:=⟨by kernel_rfl⟩
instance:Fo Tryz.prog 226 0 0 4:=⟨by kernel_rfl⟩
instance:Fo Tryz.prog 226 1 1 55:=⟨by kernel_rfl⟩
instance:Fo Tryz.prog 226 2 2 3:=⟨by kernel_rfl⟩
instance:Fo Tryz.prog 226 3 3 185:=⟨by kernel_rfl⟩
instance:Fo Tryz.prog 228 0 0 3:=⟨by kernel_rfl⟩
instance:Fo Tryz.prog 228 1 1 36:=⟨by kernel_rfl⟩
instance:Fo Tryz.prog 228 2 4 80:=⟨by kernel_rfl⟩
instance:Fo Tryz.prog 228 3 38 33:=⟨by kernel_rfl⟩
instance:Fo Tryz.prog 242 0 0 52:=⟨by kernel_rfl⟩
instance:Fo Tryz.prog 242 1 32 49:=⟨by kernel_rfl⟩
instance:Fo Tryz.prog 247 0 0 245:=⟨by kernel_rfl⟩
instance:Fo Tryz.prog 247 1 1 3:=⟨by kernel_rfl⟩
instance:Fo Tryz.prog 247 2 2 55:=⟨by kernel_rfl⟩
instance:Fo Tryz.prog 264 0 0 217:=⟨by kernel_rfl⟩
instance:Fo Tryz.prog 264 1 274 3:=⟨by kernel_rfl⟩
instance:Fo Tryz.prog 264 2 275 4:=⟨by kernel_rfl⟩
instance:Fo Tryz.prog 264 3 276 262:=⟨by kernel_rfl⟩
instance:Fo Tryz.prog 266 0 0 3:=⟨by kernel_rfl⟩
instance:Fo Tryz.prog 266 1 1 55:=⟨by kernel_rfl⟩
instance:Fo Tryz.prog 279 0 0 3:=⟨by kernel_rfl⟩
instance:Fo Tryz.prog 279 1 1 36:=⟨by kernel_rfl⟩
instance:Fo Tryz.prog 287 0 0 3:=⟨by kernel_rfl⟩
instance:Fo Tryz.prog 287 1 1 3:=⟨by kernel_rfl⟩
instance:Fo Tryz.prog 293 1 1 83:=⟨by kernel_rfl⟩
instance:Fo Tryz.prog 293 2 2 83:=⟨by kernel_rfl⟩
instance:Fo Tryz.prog 299 0 0 30:=⟨by kernel_rfl⟩
instance:Fo Tryz.prog 299 1 1 103:=⟨by kernel_rfl⟩
instance:Fo Tryz.prog 324 0 0 4:=⟨by kernel_rfl⟩
instance:Fo Tryz.prog 324 1 1 321:=⟨by kernel_rfl⟩
instance:Fo Tryz.prog 324 2 9 322:=⟨by kernel_rfl⟩
instance:Fo Tryz.prog 324 3 73 24:=⟨by kernel_rfl⟩
instance:Fo Tryz.prog 353 0 0 83:=⟨by kernel_rfl⟩
instance:Fo Tryz.prog 353 1 1 83:=⟨by kernel_rfl⟩
instance:Fo Tryz.prog 390 0 0 3:=⟨by kernel_rfl⟩
instance:Fo Tryz.prog 390 1 1 83:=⟨by kernel_rfl⟩
instance:Fo Tryz.prog 409 0 0 55:=⟨by kernel_rfl⟩
instance:Fo Tryz.prog 470 0 0 353:=⟨by kernel_rfl⟩
instance:Fo Tryz.prog 470 1 2 43:=⟨by kernel_rfl⟩
instance:Fo Tryz.prog 470 2 4 3:=⟨by kernel_rfl⟩
instance:Fo Tryz.prog 470 3 5 3:=⟨by kernel_rfl⟩
instance:Fo Tryz.prog 531 0 0 31:=⟨by kernel_rfl⟩
instance:Zc Tryz.prog 3 ([.int .i64 0]):=⟨by kernel_rfl,fun w=>by kernel_rfl⟩
instance:Zc Tryz.prog 31 (dE B16.zero):=⟨by kernel_rfl,fun w=>by kernel_rfl⟩
instance:Zc Tryz.prog 33 (bC Key.zero):=⟨by kernel_rfl,fun w=>by kernel_rfl⟩
instance:Zc Tryz.prog 36 (aJ SDsk.zero):=⟨by kernel_rfl,fun w=>by kernel_rfl⟩
instance:Zc Tryz.prog 40 (aW SAlo.zero):=⟨by kernel_rfl,fun w=>by kernel_rfl⟩
instance:Zc Tryz.prog 43 (aV SUtr.zero):=⟨by kernel_rfl,fun w=>by kernel_rfl⟩
instance:Zc Tryz.prog 46 (b0 SLdg.zero):=⟨by kernel_rfl,fun w=>by kernel_rfl⟩
instance:Zc Tryz.prog 48 (aB SSto.zero):=⟨by kernel_rfl,fun w=>by kernel_rfl⟩
instance:Zc Tryz.prog 49 ([.int .i64 0]):=⟨by kernel_rfl,fun w=>by kernel_rfl⟩
instance:Zc Tryz.prog 52 (ay Dig.zero):=⟨by kernel_rfl,fun w=>by kernel_rfl⟩
instance:Zc Tryz.prog 55 ([.slice none 0 0]):=⟨by kernel_rfl,fun w=>by kernel_rfl⟩
instance:Zc Tryz.prog 65 (br Non.zero):=⟨by kernel_rfl,fun w=>by kernel_rfl⟩
instance:Zc Tryz.prog 66 (ay Dig.zero):=⟨by kernel_rfl,fun w=>by kernel_rfl⟩
instance:Zc Tryz.prog 80 (aL Cel.zero):=⟨by kernel_rfl,fun w=>by kernel_rfl⟩
instance:Zc Tryz.prog 105 (bW SPrb.zero):=⟨by kernel_rfl,fun w=>by kernel_rfl⟩
instance:Zc Tryz.prog 111 (cf SAry.zero):=⟨by kernel_rfl,fun w=>by kernel_rfl⟩
instance:Zc Tryz.prog 128 (cy SMtr.zero):=⟨by kernel_rfl,fun w=>by kernel_rfl⟩
instance:Zc Tryz.prog 138 (bY Rec.zero):=⟨by kernel_rfl,fun w=>by kernel_rfl⟩
instance:Zc Tryz.prog 161 (b6 SRng.zero):=⟨by kernel_rfl,fun w=>by kernel_rfl⟩
instance:Zc Tryz.prog 163 (bP SUse.zero):=⟨by kernel_rfl,fun w=>by kernel_rfl⟩
instance:Zc Tryz.prog 193 ([.int .i64 0, .nilIface]):=⟨by kernel_rfl,fun w=>by kernel_rfl⟩
instance:Zc Tryz.prog 214 (c6 Ent.zero):=⟨by kernel_rfl,fun w=>by kernel_rfl⟩
instance:Zc Tryz.prog 217 (aU Nod.zero):=⟨by kernel_rfl,fun w=>by kernel_rfl⟩
instance:Zc Tryz.prog 228 (bO SRvo.zero):=⟨by kernel_rfl,fun w=>by kernel_rfl⟩
instance:Zc Tryz.prog 242 (ck SArs.zero):=⟨by kernel_rfl,fun w=>by kernel_rfl⟩
instance:Zc Tryz.prog 247 (aN SOpn.zero):=⟨by kernel_rfl,fun w=>by kernel_rfl⟩
instance:Zc Tryz.prog 264 (a7 Un.zero):=⟨by kernel_rfl,fun w=>by kernel_rfl⟩
instance:Zc Tryz.prog 266 (cx SWri.zero):=⟨by kernel_rfl,fun w=>by kernel_rfl⟩
instance:Zc Tryz.prog 279 (cO SLvo.zero):=⟨by kernel_rfl,fun w=>by kernel_rfl⟩
instance:Zc Tryz.prog 282 ([.slice none 0 0]):=⟨by kernel_rfl,fun w=>by kernel_rfl⟩
instance:Zc Tryz.prog 287 (co SPla.zero):=⟨by kernel_rfl,fun w=>by kernel_rfl⟩
instance:Zc Tryz.prog 293 (cd SMla.zero):=⟨by kernel_rfl,fun w=>by kernel_rfl⟩
instance:Zc Tryz.prog 299 (gI SDem.zero):=⟨by kernel_rfl,fun w=>by kernel_rfl⟩
instance:Zc Tryz.prog 317 (cM SLpl.zero):=⟨by kernel_rfl,fun w=>by kernel_rfl⟩
instance:Zc Tryz.prog 321 (fW (WA.zero 8)):=⟨by kernel_rfl,fun w=>by kernel_rfl⟩
instance:Zc Tryz.prog 322 (bE (List.replicate 64 0)):=⟨by kernel_rfl,fun w=>by kernel_rfl⟩
instance:Zc Tryz.prog 324 (jY false (WA.zero 8) (List.replicate 64 0) 0):=⟨by kernel_rfl,fun w=>by kernel_rfl⟩
instance:Zc Tryz.prog 353 (b7 SUla.zero):=⟨by kernel_rfl,fun w=>by kernel_rfl⟩
instance:Zc Tryz.prog 366 ((List.replicate 64 none).flatMap cP):=⟨by kernel_rfl,fun w=>by kernel_rfl⟩
instance:Zc Tryz.prog 390 (cL SShp.zero):=⟨by kernel_rfl,fun w=>by kernel_rfl⟩
instance:Zc Tryz.prog 402 (xP SFlt.zero):=⟨by kernel_rfl,fun w=>by kernel_rfl⟩
instance:Zc Tryz.prog 409 (gh SRdr.zero):=⟨by kernel_rfl,fun w=>by kernel_rfl⟩
instance:Zc Tryz.prog 417 ([.nilFunc]):=⟨by kernel_rfl,fun w=>by kernel_rfl⟩
instance:Zc Tryz.prog 457 ([.nilFunc, .nilFunc, .nilFunc, .nilFunc]):=⟨by kernel_rfl,fun w=>by kernel_rfl⟩
instance:Zc Tryz.prog 476 ([.nilFunc]):=⟨by kernel_rfl,fun w=>by kernel_rfl⟩
instance:Zc Tryz.prog 479 (fX (WA.zero 64)):=⟨by kernel_rfl,fun w=>by kernel_rfl⟩
instance:Zc Tryz.prog 504 ((List.replicate 11 B16.zero).flatMap dE):=⟨by kernel_rfl,fun w=>by kernel_rfl⟩
instance:Zc Tryz.prog 520 ([.int .i64 0, .int .i64 0, .int .i64 0, .int .i64 0, .int .i64 0, .int .i64 0]):=⟨by kernel_rfl,fun w=>by kernel_rfl⟩
instance:Zc Tryz.prog 527 (bE (List.replicate 4 0)):=⟨by kernel_rfl,fun w=>by kernel_rfl⟩
instance:Zc Tryz.prog 531 (i0 SCst.zero):=⟨by kernel_rfl,fun w=>by kernel_rfl⟩
instance:Ze Tryz.prog 3 1:=⟨.int .i64 0,by kernel_rfl⟩
instance:Ze Tryz.prog 5 1:=⟨.int .u8 0,by kernel_rfl⟩
instance:Ze Tryz.prog 44 1:=⟨.slice none 0 0,by kernel_rfl⟩
instance:Ze Tryz.prog 55 1:=⟨.slice none 0 0,by kernel_rfl⟩
instance:Ze Tryz.prog 176 1:=⟨.nilFunc,by kernel_rfl⟩
instance:Ze Tryz.prog 197 1:=⟨.nilFunc,by kernel_rfl⟩
instance:Ze Tryz.prog 351 1:=⟨.pointer none,by kernel_rfl⟩
instance:Bar Tryz.prog 26 1 (ay Dig.zero):=⟨⟨5,32,by kernel_rfl,by kernel_rfl⟩, .agg (ay Dig.zero).toArray,by kernel_rfl,rfl⟩
instance:Bst Tryz.prog 28 [(0,1),(1,1),(2,1),(3,1),(4,1),(5,1),(6,32),(38,1)] (bq SCfg.zero):=⟨by kernel_rfl, .agg (bq SCfg.zero).toArray,by kernel_rfl,rfl⟩
instance:Bst Tryz.prog 36 [(0,1),(1,1),(2,1)] (aJ SDsk.zero):=⟨by kernel_rfl, .agg (aJ SDsk.zero).toArray,by kernel_rfl,rfl⟩
instance:Bst Tryz.prog 40 [(0,1),(1,1),(2,1),(3,1)] (aW SAlo.zero):=⟨by kernel_rfl, .agg (aW SAlo.zero).toArray,by kernel_rfl,rfl⟩
instance:Bst Tryz.prog 43 [(0,1),(1,1)] (aV SUtr.zero):=⟨by kernel_rfl, .agg (aV SUtr.zero).toArray,by kernel_rfl,rfl⟩
instance:Bst Tryz.prog 46 [(0,1)] (b0 SLdg.zero):=⟨by kernel_rfl, .agg (b0 SLdg.zero).toArray,by kernel_rfl,rfl⟩
instance:Bst Tryz.prog 48 [(0,1),(1,48),(49,3),(52,1),(53,4),(57,2),(59,1),(60,1)] (aB SSto.zero):=⟨by kernel_rfl, .agg (aB SSto.zero).toArray,by kernel_rfl,rfl⟩
instance:Bar Tryz.prog 52 1 (ay Dig.zero):=⟨⟨5,32,by kernel_rfl,by kernel_rfl⟩, .agg (ay Dig.zero).toArray,by kernel_rfl,rfl⟩
instance:Bst Tryz.prog 65 [(0,1),(1,1)] (br Non.zero):=⟨by kernel_rfl, .agg (br Non.zero).toArray,by kernel_rfl,rfl⟩
instance:Bst Tryz.prog 80 [(0,32),(32,1),(33,1)] (aL Cel.zero):=⟨by kernel_rfl, .agg (aL Cel.zero).toArray,by kernel_rfl,rfl⟩
instance:Bst Tryz.prog 105 [(0,1),(1,1)] (bW SPrb.zero):=⟨by kernel_rfl, .agg (bW SPrb.zero).toArray,by kernel_rfl,rfl⟩
instance:Bst Tryz.prog 111 [(0,1),(1,1)] (cf SAry.zero):=⟨by kernel_rfl, .agg (cf SAry.zero).toArray,by kernel_rfl,rfl⟩
instance:Bst Tryz.prog 128 [(0,1),(1,1)] (cy SMtr.zero):=⟨by kernel_rfl, .agg (cy SMtr.zero).toArray,by kernel_rfl,rfl⟩
instance:Bst Tryz.prog 138 [(0,1),(1,2),(3,32)] (bY Rec.zero):=⟨by kernel_rfl, .agg (bY Rec.zero).toArray,by kernel_rfl,rfl⟩
instance:Bst Tryz.prog 142 [(0,1),(1,1)] (dy SMpr.zero):=⟨by kernel_rfl, .agg (dy SMpr.zero).toArray,by kernel_rfl,rfl⟩
instance:Bst Tryz.prog 161 [(0,2),(2,1),(3,1)] (b6 SRng.zero):=⟨by kernel_rfl, .agg (b6 SRng.zero).toArray,by kernel_rfl,rfl⟩
instance:Bst Tryz.prog 163 [(0,16),(16,4)] (bP SUse.zero):=⟨by kernel_rfl, .agg (bP SUse.zero).toArray,by kernel_rfl,rfl⟩
instance:Bst Tryz.prog 193 [(0,1),(1,1)] ([.int .i64 0, .nilIface]):=⟨by kernel_rfl, .agg ([.int .i64 0, .nilIface]).toArray,by kernel_rfl,rfl⟩
instance:Bar Tryz.prog 212 35 (kT R4.zero):=⟨⟨138,4,by kernel_rfl,by kernel_rfl⟩, .agg (kT R4.zero).toArray,by kernel_rfl,rfl⟩
instance:Bst Tryz.prog 214 [(0,1),(1,32)] (c6 Ent.zero):=⟨by kernel_rfl, .agg (c6 Ent.zero).toArray,by kernel_rfl,rfl⟩
instance:Bar Tryz.prog 215 33 (kO E4.zero):=⟨⟨214,4,by kernel_rfl,by kernel_rfl⟩, .agg (kO E4.zero).toArray,by kernel_rfl,rfl⟩
instance:Bst Tryz.prog 217 [(0,1),(1,1),(2,140),(142,132)] (aU Nod.zero):=⟨by kernel_rfl, .agg (aU Nod.zero).toArray,by kernel_rfl,rfl⟩
instance:Bst Tryz.prog 226 [(0,1),(1,1),(2,1),(3,1)] (bU SVer.zero):=⟨by kernel_rfl, .agg (bU SVer.zero).toArray,by kernel_rfl,rfl⟩
instance:Bst Tryz.prog 228 [(0,1),(1,3),(4,34),(38,48)] (bO SRvo.zero):=⟨by kernel_rfl, .agg (bO SRvo.zero).toArray,by kernel_rfl,rfl⟩
instance:Bst Tryz.prog 242 [(0,32),(32,1)] (ck SArs.zero):=⟨by kernel_rfl, .agg (ck SArs.zero).toArray,by kernel_rfl,rfl⟩
instance:Bst Tryz.prog 247 [(0,1),(1,1),(2,1)] (aN SOpn.zero):=⟨by kernel_rfl, .agg (aN SOpn.zero).toArray,by kernel_rfl,rfl⟩
instance:Bar Tryz.prog 262 1 (jj (List.replicate 4 false)):=⟨⟨4,4,by kernel_rfl,by kernel_rfl⟩, .agg (jj (List.replicate 4 false)).toArray,by kernel_rfl,rfl⟩
instance:Bst Tryz.prog 264 [(0,274),(274,1),(275,1),(276,4)] (a7 Un.zero):=⟨by kernel_rfl, .agg (a7 Un.zero).toArray,by kernel_rfl,rfl⟩
instance:Bst Tryz.prog 266 [(0,1),(1,1)] (cx SWri.zero):=⟨by kernel_rfl, .agg (cx SWri.zero).toArray,by kernel_rfl,rfl⟩
instance:Bst Tryz.prog 279 [(0,1),(1,3)] (cO SLvo.zero):=⟨by kernel_rfl, .agg (cO SLvo.zero).toArray,by kernel_rfl,rfl⟩
instance:Bst Tryz.prog 287 [(0,1),(1,1)] (co SPla.zero):=⟨by kernel_rfl, .agg (co SPla.zero).toArray,by kernel_rfl,rfl⟩
instance:Bst Tryz.prog 293 [(0,1),(1,1),(2,1)] (cd SMla.zero):=⟨by kernel_rfl, .agg (cd SMla.zero).toArray,by kernel_rfl,rfl⟩
instance:Bst Tryz.prog 299 [(0,1),(1,1)] (gI SDem.zero):=⟨by kernel_rfl, .agg (gI SDem.zero).toArray,by kernel_rfl,rfl⟩
instance:Bst Tryz.prog 317 [(0,16),(16,2)] (cM SLpl.zero):=⟨by kernel_rfl, .agg (cM SLpl.zero).toArray,by kernel_rfl,rfl⟩
instance:Bar Tryz.prog 321 1 (fW (WA.zero 8)):=⟨⟨63,8,by kernel_rfl,by kernel_rfl⟩, .agg (fW (WA.zero 8)).toArray,by kernel_rfl,rfl⟩
instance:Bst Tryz.prog 324 [(0,1),(1,8),(9,64),(73,1)] (jY false (WA.zero 8) (List.replicate 64 0) 0):=⟨by kernel_rfl, .agg (jY false (WA.zero 8) (List.replicate 64 0) 0).toArray,by kernel_rfl,rfl⟩
instance:Bar Tryz.prog 366 1 ((List.replicate 64 none).flatMap cP):=⟨⟨185,64,by kernel_rfl,by kernel_rfl⟩, .agg ((List.replicate 64 none).flatMap cP).toArray,by kernel_rfl,rfl⟩
instance:Bst Tryz.prog 390 [(0,1),(1,1)] (cL SShp.zero):=⟨by kernel_rfl, .agg (cL SShp.zero).toArray,by kernel_rfl,rfl⟩
instance:Bst Tryz.prog 409 [(0,1)] (gh SRdr.zero):=⟨by kernel_rfl, .agg (gh SRdr.zero).toArray,by kernel_rfl,rfl⟩
instance:Bst Tryz.prog 456 [(0,1)] ([.nilFunc]):=⟨by kernel_rfl, .agg ([.nilFunc]).toArray,by kernel_rfl,rfl⟩
instance:Bar Tryz.prog 457 1 ([.nilFunc, .nilFunc, .nilFunc, .nilFunc]):=⟨⟨456,4,by kernel_rfl,by kernel_rfl⟩, .agg ([.nilFunc, .nilFunc, .nilFunc, .nilFunc]).toArray,by kernel_rfl,rfl⟩
instance:Bst Tryz.prog 470 [(0,2),(2,2),(4,1),(5,1)] (bR SUck.zero):=⟨by kernel_rfl, .agg (bR SUck.zero).toArray,by kernel_rfl,rfl⟩
instance:Bar Tryz.prog 527 1 (bE (List.replicate 4 0)):=⟨⟨5,4,by kernel_rfl,by kernel_rfl⟩, .agg (bE (List.replicate 4 0)).toArray,by kernel_rfl,rfl⟩
instance:Bst Tryz.prog 531 [(0,16)] (i0 SCst.zero):=⟨by kernel_rfl, .agg (i0 SCst.zero).toArray,by kernel_rfl,rfl⟩
instance:Bp Tryz.prog 4:=⟨by kernel_rfl⟩
instance:Ip Tryz.prog 174:=⟨by kernel_rfl⟩
instance:Pi Tryz.prog 185:=⟨by kernel_rfl⟩
instance {x y:B16}:Eqc Tryz.prog 31 (dE x) (dE y) (x=y):=CQ (e:=5) (by kernel_rfl) (by kernel_rfl) (by kernel_rfl) (by kernel_rfl)
instance {x y:Dig}:Eqc Tryz.prog 52 (ay x) (ay y) (x=y):=vB (e:=5) (by kernel_rfl) (by kernel_rfl) (by kernel_rfl) (by kernel_rfl)
instance:Zt Tryz.prog 52 (ay Dig.zero):=⟨trivial⟩
instance {x y:Non}:Eqc Tryz.prog 65 (br x) (br y) (x=y):=C9 (t32:=63) (t64:=24) (by kernel_rfl) (by kernel_rfl) (by kernel_rfl) (by kernel_rfl) (by kernel_rfl)
instance:Zt Tryz.prog 65 (br Non.zero):=⟨trivial⟩
instance {x y:Dig}:Eqc Tryz.prog 66 (ay x) (ay y) (x=y):=vB (e:=5) (by kernel_rfl) (by kernel_rfl) (by kernel_rfl) (by kernel_rfl)
instance {x y:Cel}:Eqc Tryz.prog 80 (aL x) (aL y) (x=y):=Cy (td:=66) (t64:=24) (e:=5) (by kernel_rfl) (by kernel_rfl) (by kernel_rfl) (by kernel_rfl) (by kernel_rfl) (by kernel_rfl) (by kernel_rfl) (by kernel_rfl)
instance {x y:SPrb}:Eqc Tryz.prog 105 (bW x) (bW y) (x=y):=CC (ti:=3) (tb:=103) (by kernel_rfl) (by kernel_rfl) (by kernel_rfl) (by kernel_rfl) (by kernel_rfl)
instance:Zt Tryz.prog 105 (bW SPrb.zero):=⟨trivial⟩
instance {x y:Rec}:Eqc Tryz.prog 138 (bY x) (bY y) (x=y):=Cn (t8:=5) (tn:=65) (td:=66) (t32:=63) (t64:=24) (e:=5) (by kernel_rfl) (by kernel_rfl) (by kernel_rfl) (by kernel_rfl) (by kernel_rfl) (by kernel_rfl) (by kernel_rfl) (by kernel_rfl) (by kernel_rfl) (by kernel_rfl) (by kernel_rfl) (by kernel_rfl) (by kernel_rfl)
instance {x y:R4}:Eqc Tryz.prog 212 (kT x) (kT y) (x=y):=Fe (r:=138) (t8:=5) (tn:=65) (td:=66) (t32:=63) (t64:=24) (e:=5) (by kernel_rfl) (by kernel_rfl) (by kernel_rfl) (by kernel_rfl) (by kernel_rfl) (by kernel_rfl) (by kernel_rfl) (by kernel_rfl) (by kernel_rfl) (by kernel_rfl) (by kernel_rfl) (by kernel_rfl) (by kernel_rfl) (by kernel_rfl) (by kernel_rfl)
instance {x y:Ent}:Eqc Tryz.prog 214 (c6 x) (c6 y) (x=y):=DQ (t8:=5) (td:=66) (e:=5) (by kernel_rfl) (by kernel_rfl) (by kernel_rfl) (by kernel_rfl) (by kernel_rfl) (by kernel_rfl) (by kernel_rfl) (by kernel_rfl)
instance {x y:E4}:Eqc Tryz.prog 215 (kO x) (kO y) (x=y):=Ff (en:=214) (t8:=5) (td:=66) (e:=5) (by kernel_rfl) (by kernel_rfl) (by kernel_rfl) (by kernel_rfl) (by kernel_rfl) (by kernel_rfl) (by kernel_rfl) (by kernel_rfl) (by kernel_rfl) (by kernel_rfl)
instance {y:Un}:Eqc Tryz.prog 262 (jj y.ch) (jj (List.replicate 4 false)) (y.ch=List.replicate 4 false):=G1 y.hch rfl (e:=4) (by kernel_rfl) (by kernel_rfl) (by kernel_rfl) (by kernel_rfl)
instance:Fu Tryz.prog 7 Tryz.f7:=⟨Tryz.func7⟩
instance:Fu Tryz.prog 9 Tryz.f9:=⟨Tryz.func9⟩
instance:Fu Tryz.prog 10 Tryz.f10:=⟨Tryz.func10⟩
instance:Fu Tryz.prog 11 Tryz.f11:=⟨Tryz.func11⟩
instance:Fu Tryz.prog 12 Tryz.f12:=⟨Tryz.func12⟩
instance:Fu Tryz.prog 13 Tryz.f13:=⟨Tryz.func13⟩
instance:Fu Tryz.prog 14 Tryz.f14:=⟨Tryz.func14⟩
instance:Fu Tryz.prog 15 Tryz.f15:=⟨Tryz.func15⟩
instance:Fu Tryz.prog 16 Tryz.f16:=⟨Tryz.func16⟩
instance:Fu Tryz.prog 17 Tryz.f17:=⟨Tryz.func17⟩
instance:Fu Tryz.prog 18 Tryz.f18:=⟨Tryz.func18⟩
instance:Fu Tryz.prog 19 Tryz.f19:=⟨Tryz.func19⟩
instance:Fu Tryz.prog 20 Tryz.f20:=⟨Tryz.func20⟩
instance:Fu Tryz.prog 21 Tryz.f21:=⟨Tryz.func21⟩
instance:Fu Tryz.prog 24 Tryz.f24:=⟨Tryz.func24⟩
instance:Fu Tryz.prog 25 Tryz.f25:=⟨Tryz.func25⟩
instance:Fu Tryz.prog 26 Tryz.f26:=⟨Tryz.func26⟩
instance:Fu Tryz.prog 32 Tryz.f32:=⟨Tryz.func32⟩
instance:Fu Tryz.prog 33 Tryz.f33:=⟨Tryz.func33⟩
instance:Fu Tryz.prog 34 Tryz.f34:=⟨Tryz.func34⟩
instance:Fu Tryz.prog 35 Tryz.f35:=⟨Tryz.func35⟩
instance:Fu Tryz.prog 36 Tryz.f36:=⟨Tryz.func36⟩
instance:Fu Tryz.prog 38 Tryz.f38:=⟨Tryz.func38⟩
instance:Fu Tryz.prog 39 Tryz.f39:=⟨Tryz.func39⟩
instance:Fu Tryz.prog 41 Tryz.f41:=⟨Tryz.func41⟩
instance:Fu Tryz.prog 42 Tryz.f42:=⟨Tryz.func42⟩
instance:Fu Tryz.prog 43 Tryz.f43:=⟨Tryz.func43⟩
instance:Fu Tryz.prog 45 Tryz.f45:=⟨Tryz.func45⟩
instance:Fu Tryz.prog 46 Tryz.f46:=⟨Tryz.func46⟩
instance:Fu Tryz.prog 48 Tryz.f48:=⟨Tryz.func48⟩
instance:Fu Tryz.prog 49 Tryz.f49:=⟨Tryz.func49⟩
instance:Fu Tryz.prog 50 Tryz.f50:=⟨Tryz.func50⟩
instance:Fu Tryz.prog 51 Tryz.f51:=⟨Tryz.func51⟩
instance:Fu Tryz.prog 52 Tryz.f52:=⟨Tryz.func52⟩
instance:Fu Tryz.prog 53 Tryz.f53:=⟨Tryz.func53⟩
instance:Fu Tryz.prog 54 Tryz.f54:=⟨Tryz.func54⟩
instance:Fu Tryz.prog 55 Tryz.f55:=⟨Tryz.func55⟩
instance:Fu Tryz.prog 56 Tryz.f56:=⟨Tryz.func56⟩
instance:Fu Tryz.prog 57 Tryz.f57:=⟨Tryz.func57⟩
instance:Fu Tryz.prog 58 Tryz.f58:=⟨Tryz.func58⟩
instance:Fu Tryz.prog 59 Tryz.f59:=⟨Tryz.func59⟩
instance:Fu Tryz.prog 61 Tryz.f61:=⟨Tryz.func61⟩
instance:Fu Tryz.prog 62 Tryz.f62:=⟨Tryz.func62⟩
instance:Fu Tryz.prog 63 Tryz.f63:=⟨Tryz.func63⟩
instance:Fu Tryz.prog 64 Tryz.f64:=⟨Tryz.func64⟩
instance:Fu Tryz.prog 65 Tryz.f65:=⟨Tryz.func65⟩
instance:Fu Tryz.prog 66 Tryz.f66:=⟨Tryz.func66⟩
instance:Fu Tryz.prog 67 Tryz.f67:=⟨Tryz.func67⟩
instance:Fu Tryz.prog 68 Tryz.f68:=⟨Tryz.func68⟩
instance:Fu Tryz.prog 69 Tryz.f69:=⟨Tryz.func69⟩
instance:Fu Tryz.prog 70 Tryz.f70:=⟨Tryz.func70⟩
instance:Fu Tryz.prog 71 Tryz.f71:=⟨Tryz.func71⟩
instance:Fu Tryz.prog 72 Tryz.f72:=⟨Tryz.func72⟩
instance:Fu Tryz.prog 73 Tryz.f73:=⟨Tryz.func73⟩
instance:Fu Tryz.prog 74 Tryz.f74:=⟨Tryz.func74⟩
instance:Fu Tryz.prog 75 Tryz.f75:=⟨Tryz.func75⟩
instance:Fu Tryz.prog 76 Tryz.f76:=⟨Tryz.func76⟩
instance:Fu Tryz.prog 77 Tryz.f77:=⟨Tryz.func77⟩
instance:Fu Tryz.prog 78 Tryz.f78:=⟨Tryz.func78⟩
instance:Fu Tryz.prog 79 Tryz.f79:=⟨Tryz.func79⟩
instance:Fu Tryz.prog 80 Tryz.f80:=⟨Tryz.func80⟩
instance:Fu Tryz.prog 81 Tryz.f81:=⟨Tryz.func81⟩
instance:Fu Tryz.prog 82 Tryz.f82:=⟨Tryz.func82⟩
instance:Fu Tryz.prog 83 Tryz.f83:=⟨Tryz.func83⟩
instance:Fu Tryz.prog 84 Tryz.f84:=⟨Tryz.func84⟩
instance:Fu Tryz.prog 85 Tryz.f85:=⟨Tryz.func85⟩
instance:Fu Tryz.prog 86 Tryz.f86:=⟨Tryz.func86⟩
instance:Fu Tryz.prog 87 Tryz.f87:=⟨Tryz.func87⟩
instance:Fu Tryz.prog 88 Tryz.f88:=⟨Tryz.func88⟩
instance:Fu Tryz.prog 89 Tryz.f89:=⟨Tryz.func89⟩
instance:Fu Tryz.prog 90 Tryz.f90:=⟨Tryz.func90⟩
instance:Fu Tryz.prog 91 Tryz.f91:=⟨Tryz.func91⟩
instance:Fu Tryz.prog 92 Tryz.f92:=⟨Tryz.func92⟩
instance:Fu Tryz.prog 108 Tryz.f108:=⟨Tryz.func108⟩
instance:Fu Tryz.prog 110 Tryz.f110:=⟨Tryz.func110⟩
instance:Fu Tryz.prog 111 Tryz.f111:=⟨Tryz.func111⟩
instance:Fu Tryz.prog 112 Tryz.f112:=⟨Tryz.func112⟩
instance:Fu Tryz.prog 118 Tryz.f118:=⟨Tryz.func118⟩
instance:Fu Tryz.prog 119 Tryz.f119:=⟨Tryz.func119⟩
instance:Fu Tryz.prog 120 Tryz.f120:=⟨Tryz.func120⟩
instance:Fu Tryz.prog 121 Tryz.f121:=⟨Tryz.func121⟩
instance:Fu Tryz.prog 122 Tryz.f122:=⟨Tryz.func122⟩
instance:Fu Tryz.prog 123 Tryz.f123:=⟨Tryz.func123⟩
instance:Fu Tryz.prog 124 Tryz.f124:=⟨Tryz.func124⟩
instance:Fu Tryz.prog 125 Tryz.f125:=⟨Tryz.func125⟩
instance:Fu Tryz.prog 126 Tryz.f126:=⟨Tryz.func126⟩
instance:Fu Tryz.prog 127 Tryz.f127:=⟨Tryz.func127⟩
instance:Fu Tryz.prog 128 Tryz.f128:=⟨Tryz.func128⟩
instance:Fu Tryz.prog 129 Tryz.f129:=⟨Tryz.func129⟩
instance:Fu Tryz.prog 130 Tryz.f130:=⟨Tryz.func130⟩
instance:Fu Tryz.prog 131 Tryz.f131:=⟨Tryz.func131⟩
instance:Fu Tryz.prog 132 Tryz.f132:=⟨Tryz.func132⟩
instance:Fu Tryz.prog 133 Tryz.f133:=⟨Tryz.func133⟩
instance:Fu Tryz.prog 135 Tryz.f135:=⟨Tryz.func135⟩
instance:Fu Tryz.prog 136 Tryz.f136:=⟨Tryz.func136⟩
instance:Fu Tryz.prog 137 Tryz.f137:=⟨Tryz.func137⟩
instance:Fu Tryz.prog 138 Tryz.f138:=⟨Tryz.func138⟩
instance:Fu Tryz.prog 139 Tryz.f139:=⟨Tryz.func139⟩
instance:Fu Tryz.prog 140 Tryz.f140:=⟨Tryz.func140⟩
instance:Fu Tryz.prog 141 Tryz.f141:=⟨Tryz.func141⟩
instance:Fu Tryz.prog 142 Tryz.f142:=⟨Tryz.func142⟩
instance:Fu Tryz.prog 143 Tryz.f143:=⟨Tryz.func143⟩
instance:Fu Tryz.prog 144 Tryz.f144:=⟨Tryz.func144⟩
instance:Fu Tryz.prog 145 Tryz.f145:=⟨Tryz.func145⟩
instance:Fu Tryz.prog 146 Tryz.f146:=⟨Tryz.func146⟩
instance:Fu Tryz.prog 147 Tryz.f147:=⟨Tryz.func147⟩
instance:Fu Tryz.prog 148 Tryz.f148:=⟨Tryz.func148⟩
instance:Fu Tryz.prog 149 Tryz.f149:=⟨Tryz.func149⟩
instance:Fu Tryz.prog 150 Tryz.f150:=⟨Tryz.func150⟩
instance:Fu Tryz.prog 151 Tryz.f151:=⟨Tryz.func151⟩
instance:Fu Tryz.prog 152 Tryz.f152:=⟨Tryz.func152⟩
instance:Fu Tryz.prog 153 Tryz.f153:=⟨Tryz.func153⟩
instance:Fu Tryz.prog 154 Tryz.f154:=⟨Tryz.func154⟩
instance:Fu Tryz.prog 155 Tryz.f155:=⟨Tryz.func155⟩
instance:Fu Tryz.prog 156 Tryz.f156:=⟨Tryz.func156⟩
instance:Fu Tryz.prog 157 Tryz.f157:=⟨Tryz.func157⟩
instance:Fu Tryz.prog 158 Tryz.f158:=⟨Tryz.func158⟩
instance:Fu Tryz.prog 159 Tryz.f159:=⟨Tryz.func159⟩
instance:Fu Tryz.prog 160 Tryz.f160:=⟨Tryz.func160⟩
instance:Fu Tryz.prog 161 Tryz.f161:=⟨Tryz.func161⟩
instance:Fu Tryz.prog 162 Tryz.f162:=⟨Tryz.func162⟩
instance:Fu Tryz.prog 163 Tryz.f163:=⟨Tryz.func163⟩
instance:Fu Tryz.prog 164 Tryz.f164:=⟨Tryz.func164⟩
instance:Fu Tryz.prog 165 Tryz.f165:=⟨Tryz.func165⟩
instance:Fu Tryz.prog 166 Tryz.f166:=⟨Tryz.func166⟩
instance:Fu Tryz.prog 167 Tryz.f167:=⟨Tryz.func167⟩
instance:Fu Tryz.prog 168 Tryz.f168:=⟨Tryz.func168⟩
instance:Fu Tryz.prog 169 Tryz.f169:=⟨Tryz.func169⟩
instance:Fu Tryz.prog 170 Tryz.f170:=⟨Tryz.func170⟩
instance:Fu Tryz.prog 171 Tryz.f171:=⟨Tryz.func171⟩
instance:Fu Tryz.prog 172 Tryz.f172:=⟨Tryz.func172⟩
instance:Fu Tryz.prog 173 Tryz.f173:=⟨Tryz.func173⟩
instance:Fu Tryz.prog 174 Tryz.f174:=⟨Tryz.func174⟩
instance:Fu Tryz.prog 175 Tryz.f175:=⟨Tryz.func175⟩
instance:Fu Tryz.prog 176 Tryz.f176:=⟨Tryz.func176⟩
instance:Fu Tryz.prog 177 Tryz.f177:=⟨Tryz.func177⟩
instance:Fu Tryz.prog 178 Tryz.f178:=⟨Tryz.func178⟩
instance:Fu Tryz.prog 179 Tryz.f179:=⟨Tryz.func179⟩
instance:Fu Tryz.prog 180 Tryz.f180:=⟨Tryz.func180⟩
instance:Fu Tryz.prog 181 Tryz.f181:=⟨Tryz.func181⟩
instance:Fu Tryz.prog 182 Tryz.f182:=⟨Tryz.func182⟩
instance:Fu Tryz.prog 183 Tryz.f183:=⟨Tryz.func183⟩
instance:Fu Tryz.prog 184 Tryz.f184:=⟨Tryz.func184⟩
instance:Fu Tryz.prog 185 Tryz.f185:=⟨Tryz.func185⟩
instance:Fu Tryz.prog 186 Tryz.f186:=⟨Tryz.func186⟩
instance:Fu Tryz.prog 187 Tryz.f187:=⟨Tryz.func187⟩
instance:Fu Tryz.prog 188 Tryz.f188:=⟨Tryz.func188⟩
instance:Fu Tryz.prog 190 Tryz.f190:=⟨Tryz.func190⟩
instance:Fu Tryz.prog 191 Tryz.f191:=⟨Tryz.func191⟩
instance:Fu Tryz.prog 192 Tryz.f192:=⟨Tryz.func192⟩
instance:Fu Tryz.prog 193 Tryz.f193:=⟨Tryz.func193⟩
instance:Fu Tryz.prog 204 Tryz.f204:=⟨Tryz.func204⟩
instance:Fu Tryz.prog 205 Tryz.f205:=⟨Tryz.func205⟩
instance:Fu Tryz.prog 207 Tryz.f207:=⟨Tryz.func207⟩
instance:Fu Tryz.prog 208 Tryz.f208:=⟨Tryz.func208⟩
instance:Fu Tryz.prog 209 Tryz.f209:=⟨Tryz.func209⟩
instance:Fu Tryz.prog 210 Tryz.f210:=⟨Tryz.func210⟩
instance:Fu Tryz.prog 211 Tryz.f211:=⟨Tryz.func211⟩
instance:Fu Tryz.prog 212 Tryz.f212:=⟨Tryz.func212⟩
instance:Fu Tryz.prog 213 Tryz.f213:=⟨Tryz.func213⟩
instance:Fu Tryz.prog 214 Tryz.f214:=⟨Tryz.func214⟩
instance:Fu Tryz.prog 215 Tryz.f215:=⟨Tryz.func215⟩
instance:Fu Tryz.prog 216 Tryz.f216:=⟨Tryz.func216⟩
instance:Fu Tryz.prog 217 Tryz.f217:=⟨Tryz.func217⟩
instance:Fu Tryz.prog 218 Tryz.f218:=⟨Tryz.func218⟩
instance:Fu Tryz.prog 219 Tryz.f219:=⟨Tryz.func219⟩
instance:Fu Tryz.prog 220 Tryz.f220:=⟨Tryz.func220⟩
instance:Fu Tryz.prog 221 Tryz.f221:=⟨Tryz.func221⟩
instance:Fu Tryz.prog 222 Tryz.f222:=⟨Tryz.func222⟩
instance:Fu Tryz.prog 223 Tryz.f223:=⟨Tryz.func223⟩
instance:Fu Tryz.prog 224 Tryz.f224:=⟨Tryz.func224⟩
instance:Fu Tryz.prog 225 Tryz.f225:=⟨Tryz.func225⟩
instance:Fu Tryz.prog 226 Tryz.f226:=⟨Tryz.func226⟩
instance:Fu Tryz.prog 227 Tryz.f227:=⟨Tryz.func227⟩
instance:Fu Tryz.prog 228 Tryz.f228:=⟨Tryz.func228⟩
instance:Fu Tryz.prog 229 Tryz.f229:=⟨Tryz.func229⟩
instance:Fu Tryz.prog 230 Tryz.f230:=⟨Tryz.func230⟩
instance:Fu Tryz.prog 231 Tryz.f231:=⟨Tryz.func231⟩
instance:Fu Tryz.prog 232 Tryz.f232:=⟨Tryz.func232⟩
instance:Fu Tryz.prog 233 Tryz.f233:=⟨Tryz.func233⟩
instance:Fu Tryz.prog 234 Tryz.f234:=⟨Tryz.func234⟩
instance:Fu Tryz.prog 235 Tryz.f235:=⟨Tryz.func235⟩
instance:Fu Tryz.prog 236 Tryz.f236:=⟨Tryz.func236⟩
instance:Fu Tryz.prog 237 Tryz.f237:=⟨Tryz.func237⟩
instance:Fu Tryz.prog 238 Tryz.f238:=⟨Tryz.func238⟩
instance:Fu Tryz.prog 239 Tryz.f239:=⟨Tryz.func239⟩
instance:Fu Tryz.prog 240 Tryz.f240:=⟨Tryz.func240⟩
instance:Fu Tryz.prog 241 Tryz.f241:=⟨Tryz.func241⟩
instance:Fu Tryz.prog 242 Tryz.f242:=⟨Tryz.func242⟩
instance:Fu Tryz.prog 243 Tryz.f243:=⟨Tryz.func243⟩
instance:Fu Tryz.prog 244 Tryz.f244:=⟨Tryz.func244⟩
instance:Fu Tryz.prog 245 Tryz.f245:=⟨Tryz.func245⟩
instance:Fu Tryz.prog 246 Tryz.f246:=⟨Tryz.func246⟩
instance:Fu Tryz.prog 247 Tryz.f247:=⟨Tryz.func247⟩
instance:Fu Tryz.prog 248 Tryz.f248:=⟨Tryz.func248⟩
instance:Fu Tryz.prog 249 Tryz.f249:=⟨Tryz.func249⟩
instance:Fu Tryz.prog 250 Tryz.f250:=⟨Tryz.func250⟩
instance:Fu Tryz.prog 251 Tryz.f251:=⟨Tryz.func251⟩
instance:Fu Tryz.prog 252 Tryz.f252:=⟨Tryz.func252⟩
instance:Fu Tryz.prog 259 Tryz.f259:=⟨Tryz.func259⟩
instance:Fu Tryz.prog 260 Tryz.f260:=⟨Tryz.func260⟩
instance:Fu Tryz.prog 266 Tryz.f266:=⟨Tryz.func266⟩
instance:Fu Tryz.prog 267 Tryz.f267:=⟨Tryz.func267⟩
instance:Fu Tryz.prog 268 Tryz.f268:=⟨Tryz.func268⟩
instance:Fu Tryz.prog 269 Tryz.f269:=⟨Tryz.func269⟩
instance:Fu Tryz.prog 270 Tryz.f270:=⟨Tryz.func270⟩
instance:Fu Tryz.prog 271 Tryz.f271:=⟨Tryz.func271⟩
instance:Fu Tryz.prog 272 Tryz.f272:=⟨Tryz.func272⟩
instance:Fu Tryz.prog 273 Tryz.f273:=⟨Tryz.func273⟩
instance:Fu Tryz.prog 274 Tryz.f274:=⟨Tryz.func274⟩
instance:Fu Tryz.prog 275 Tryz.f275:=⟨Tryz.func275⟩
instance:Fu Tryz.prog 276 Tryz.f276:=⟨Tryz.func276⟩
instance:Fu Tryz.prog 277 Tryz.f277:=⟨Tryz.func277⟩
instance:Fu Tryz.prog 278 Tryz.f278:=⟨Tryz.func278⟩
instance:Fu Tryz.prog 279 Tryz.f279:=⟨Tryz.func279⟩
instance:Fu Tryz.prog 280 Tryz.f280:=⟨Tryz.func280⟩
instance:Fu Tryz.prog 281 Tryz.f281:=⟨Tryz.func281⟩
instance:Fu Tryz.prog 282 Tryz.f282:=⟨Tryz.func282⟩
instance:Fu Tryz.prog 283 Tryz.f283:=⟨Tryz.func283⟩
instance:Fu Tryz.prog 284 Tryz.f284:=⟨Tryz.func284⟩
instance:Fu Tryz.prog 285 Tryz.f285:=⟨Tryz.func285⟩
instance:Fu Tryz.prog 286 Tryz.f286:=⟨Tryz.func286⟩
instance:Fu Tryz.prog 287 Tryz.f287:=⟨Tryz.func287⟩
instance:Fu Tryz.prog 288 Tryz.f288:=⟨Tryz.func288⟩
instance:Fu Tryz.prog 289 Tryz.f289:=⟨Tryz.func289⟩
instance:Fu Tryz.prog 290 Tryz.f290:=⟨Tryz.func290⟩
instance:Fu Tryz.prog 291 Tryz.f291:=⟨Tryz.func291⟩
instance:Fu Tryz.prog 292 Tryz.f292:=⟨Tryz.func292⟩
instance:Fu Tryz.prog 293 Tryz.f293:=⟨Tryz.func293⟩
instance:Fu Tryz.prog 294 Tryz.f294:=⟨Tryz.func294⟩
instance:Fu Tryz.prog 295 Tryz.f295:=⟨Tryz.func295⟩
instance:Fu Tryz.prog 296 Tryz.f296:=⟨Tryz.func296⟩
instance:Fu Tryz.prog 297 Tryz.f297:=⟨Tryz.func297⟩
instance:Fu Tryz.prog 300 Tryz.f300:=⟨Tryz.func300⟩
instance:Fu Tryz.prog 301 Tryz.f301:=⟨Tryz.func301⟩
instance:Fu Tryz.prog 302 Tryz.f302:=⟨Tryz.func302⟩
instance:Fu Tryz.prog 303 Tryz.f303:=⟨Tryz.func303⟩
instance:Fu Tryz.prog 310 Tryz.f310:=⟨Tryz.func310⟩
instance:Fu Tryz.prog 311 Tryz.f311:=⟨Tryz.func311⟩
instance:Fu Tryz.prog 312 Tryz.f312:=⟨Tryz.func312⟩
instance:Fu Tryz.prog 313 Tryz.f313:=⟨Tryz.func313⟩
instance:Fu Tryz.prog 314 Tryz.f314:=⟨Tryz.func314⟩
instance:Fu Tryz.prog 315 Tryz.f315:=⟨Tryz.func315⟩
instance:Fu Tryz.prog 316 Tryz.f316:=⟨Tryz.func316⟩
instance:Fu Tryz.prog 317 Tryz.f317:=⟨Tryz.func317⟩
instance:Fu Tryz.prog 318 Tryz.f318:=⟨Tryz.func318⟩
instance:Fu Tryz.prog 319 Tryz.f319:=⟨Tryz.func319⟩
instance:Fu Tryz.prog 320 Tryz.f320:=⟨Tryz.func320⟩
instance:Fu Tryz.prog 321 Tryz.f321:=⟨Tryz.func321⟩
instance:Fu Tryz.prog 322 Tryz.f322:=⟨Tryz.func322⟩
instance:Fu Tryz.prog 323 Tryz.f323:=⟨Tryz.func323⟩
instance:Fu Tryz.prog 324 Tryz.f324:=⟨Tryz.func324⟩
instance:Fu Tryz.prog 325 Tryz.f325:=⟨Tryz.func325⟩
instance:Fu Tryz.prog 326 Tryz.f326:=⟨Tryz.func326⟩
instance:Fu Tryz.prog 327 Tryz.f327:=⟨Tryz.func327⟩
instance:Fu Tryz.prog 328 Tryz.f328:=⟨Tryz.func328⟩
instance:Fu Tryz.prog 329 Tryz.f329:=⟨Tryz.func329⟩
instance:Fu Tryz.prog 330 Tryz.f330:=⟨Tryz.func330⟩
instance:Fu Tryz.prog 331 Tryz.f331:=⟨Tryz.func331⟩
instance:Fu Tryz.prog 332 Tryz.f332:=⟨Tryz.func332⟩
instance:Fu Tryz.prog 333 Tryz.f333:=⟨Tryz.func333⟩
instance:Fu Tryz.prog 334 Tryz.f334:=⟨Tryz.func334⟩
instance:Fu Tryz.prog 338 Tryz.f338:=⟨Tryz.func338⟩
instance:Fu Tryz.prog 339 Tryz.f339:=⟨Tryz.func339⟩
instance:Fu Tryz.prog 340 Tryz.f340:=⟨Tryz.func340⟩
instance:Fu Tryz.prog 341 Tryz.f341:=⟨Tryz.func341⟩
instance:Fu Tryz.prog 344 Tryz.f344:=⟨Tryz.func344⟩
end Go.Proofs.YtbobhnldhpjdlaaGreatDoor
namespace Go.Proofs.YtbobhnldhpjdlaaGreatDoor
open Go Go.RowKit Go.Cs Go.Cz
set_option maxRecDepth 100000
theorem n5 (sz:Nat) (P Q:Nat→Bool) (g:Nat→UInt8) (i:Nat) (x:UInt8) (hi:i<sz) (hx:x=g i) (hq:∀j,j<sz→Q j=(P j || j==i)):(pick sz P g).set i x=pick sz Q g:=by
 apply List.ext_getElem (by simp)
 intro j h1 h2
 simp only [pick,List.length_map,List.length_range] at h2
 rw [List.getElem_set]
 by_cases hij:i=j
 ·subst hij;simp [pick,hq i hi,hx]
 ·have:(j==i)=false:=by simp;omega
  simp [hij,pick,hq j h2,this]
theorem D5 (v:Nat) (sz:Nat) (hp:sz≤8):Zp Tryz.prog 176 [vQ v,vI sz] [] [] Nat (fun _=>True) (fun b=> .slice (some ⟨b,0,none⟩) sz sz) (fun b=> [iB b (bE (be v sz)) 5]) (fun _=> []):=by
 refine ak fun G=> ?_
 (repeat' ((try refine aw ?_);(conv=>arg 4;whnf);first | refine az ?_ |(refine sN ?_;intro b)|(refine sC ?_ ?_<;>intro h)| fail));(all_goals refine av ?_)
 refine cN (X:=Nat) (fun i=> [(10,vI i)]) (fun i=>i≤sz) (fun i=> [iB b (bE (pick sz (fun j=>decide (sz-1-j<i)) fun j=>UInt8.ofNat (v/256^(sz-1-j)))) 5]) (fun i=>sz-i) 0 (by omega) rfl ?_ ?_
 ·rw [nT _ _ _ (by simp),bL];exact ar _
 intro i hi
 (repeat' ((try refine aw ?_);(conv=>arg 4;whnf);first | refine az ?_ |(refine sN ?_;intro b)|(refine sC ?_ ?_<;>intro h)| fail));(all_goals refine av ?_)
 ·refine a5 (i+1) rfl ?_ ?_ ?_
  ·omega
  ·rw [n5 sz (fun j=>decide (sz-1-j<i)) (fun j=>decide (sz-1-j<i+1)) (fun j=>UInt8.ofNat (v/256^(sz-1-j))) (sz-1-i) (UInt8.ofNat (v/2^(8*i))) (by omega) (by rw [oC];congr 3;omega) (by intro j hj;rw [Bool.eq_iff_iff];simp;omega)]
   exact ar _
  ·omega
 ·refine aD b True.intro rfl ?_
  rw [qt _ _ _ (by intro j hj;simp;omega)];exact ar _
theorem ET {a:Option Addr} {n c:Nat} {l:List UInt8} (sz:Nat) (hp:sz≤8):Zp Tryz.prog 234 [.slice a n c,vI sz] [] [Sl cB a n c l] Unit (fun _=>True) (fun _=> .tuple #[vQ (dz l sz),vI (np l sz)]) (fun _=> []) (fun _=> []):=by
 refine ak fun G=> ?_
 refine aS 0 ?_
 intro hn hc hm ha
 (repeat' ((try refine aw ?_);(conv=>arg 4;whnf);first | refine az ?_ |(refine sC ?_ ?_<;>intro h)| fail));(all_goals refine av ?_)
 ·exact aD () True.intro (by rw [uC (by omega),tH (by omega)];rfl) (am _)
 ·exact aD () True.intro (by rw [uC (by omega),xY (by omega)];rfl) (am _)
 ·refine cN (X:=Nat) (fun i=> [(6,vQ (kV (l.take i))),(21,vI i)]) (fun i=>i≤sz) (fun i=> []) (fun i=>sz-i) 0 (by omega) rfl (ar _) ?_
  intro i hi
  have hb:=(l.getD i default).toNat_lt
  by_cases h:i<n
  ·obtain ⟨b,o,rfl⟩:=ha (by omega) (by decide)
   have hn3:=oN (l:=l) (i:=i) (by omega)
   (repeat' ((try refine aw ?_);(conv=>arg 4;whnf);first | refine az ?_ |(refine sC ?_ ?_<;>intro h)| fail));(all_goals refine av ?_)
   refine a5 (i+1) ?_ ?_ (ar _) ?_
   ·show _=_
    rw [yC (by omega),show byt l i=(l.getD i default).toNat from rfl,←Cf _ _ hb];rfl
   ·omega
   ·omega
  ·(repeat' ((try refine aw ?_);(conv=>arg 4;whnf);first | refine az ?_ |(refine sC ?_ ?_<;>intro h)| fail));(all_goals refine av ?_)
   exact aD () True.intro (by rw [pP (by omega),C8 (by omega),List.take_of_length_le (by omega)];rfl) (am _)
end Go.Proofs.YtbobhnldhpjdlaaGreatDoor
namespace Go.Proofs.YtbobhnldhpjdlaaGreatDoor
open Go Go.RowKit Go.Cs Go.Cz
set_option maxRecDepth 100000
set_option maxHeartbeats 1000000
attribute [simp] i8
theorem kM {n:Nat} (h1:1≤n) (h2:n≤4096):Zp Tryz.prog 63 [vI n] [] [] Unit (fun _=>True) (fun _=>vI 0) (fun _=> []) (fun _=> []):=by
 refine ak fun G=> ?_
 (repeat' ((try refine aw ?_);(conv=>arg 4;whnf);first | refine az ?_ | exact ax | fail));(all_goals refine av ?_)
theorem El {n:Nat} (h2:n≤4096):Zp Tryz.prog 320 [vI n] [] [] Unit (fun _=>True) (fun _=>vI (jR n)) (fun _=> []) (fun _=> []):=by
 refine ak fun G=> ?_
 (repeat' ((try refine aw ?_);(conv=>arg 4;whnf);first | refine az ?_ | exact ax | fail));(all_goals refine av ?_)
theorem In {n:Nat} (h1:1≤n) (h2:n≤4096):Zp Tryz.prog 282 [vI n] [] [] Nat (fun _=>True) (fun x=> .slice (some ⟨x,0,none⟩) (hgt n+1) 6) (fun _=> []) (fun x=> [Sl cI (some ⟨x,0,none⟩) (hgt n+1) 6 (cts n)]):=by
 refine ak fun G=> ?_
 have hh:=a8 n
 (repeat' ((try refine aw ?_);(conv=>arg 4;whnf);first | refine az ?_ |(refine sN ?_;intro b)|(refine aA (El h2) ?_;intro x hx;refine aH ?_)| fail));(all_goals refine av ?_)
 refine fL b ((List.replicate 6 0).flatMap cI) rfl ?_
 refine cN (X:=Nat) (fun k=> [(2, .slice none 0 0),(4, .slice (some ⟨b,0,none⟩) k 6),(5,vI (cnt n k))]) (fun k=>k≤hgt n) (fun k=> [iB b (((cts n).take k++List.replicate (6-k) 0).flatMap cI) 520]) (fun k=>hgt n-k) 0 (Nat.zero_le _) rfl ?_ ?_
 ·rw [List.take_zero,List.nil_append];((repeat' (first | with_reducible exact ar _ | exact am _ | refine aE ?_ ?_ | fail))<;>(try with_reducible rfl))
 intro k hk
 have hck:=cH n k
 have htk:=nn hk
 have hlen:((cts n).take k).length=k:=by rw [List.length_take,i8];omega
 have e:spl ((cts n).take k++List.replicate (6-k) 0) k [cnt n k]=(cts n).take (k+1)++List.replicate (6-(k+1)) 0:=by
  rw [spl,List.take_append_of_le_length (by omega),List.take_of_length_le (by omega),htk,List.drop_append,List.drop_eq_nil_of_le (by simp;omega),List.nil_append,List.drop_replicate,hlen]
  simp only [List.length_singleton]
  rw [show 6-k-(k+1-k)=6-(k+1) by omega]
 by_cases h:k<hgt n
 ·have h9:=Ad h
  (repeat' ((try refine aw ?_);(conv=>arg 4;whnf);first | refine az ?_ |(refine sN ?_;intro b)|(refine aA (El (n:=cnt n k) (by omega)) ?_;intro x hx;refine aH ?_)| fail));(all_goals refine av ?_)
  refine a5 (k+1) rfl (by omega) ?_ (by omega)
  rw [e];exact aE (am _) rfl
 ·obtain rfl:k=hgt n:=by omega
  have h9:=eg h1 h2
  rw [h9] at e⊢
  (repeat' ((try refine aw ?_);(conv=>arg 4;whnf);first | refine az ?_ |(refine sN ?_;intro b)| fail));(all_goals refine av ?_)
  rename_i cb
  rw [e]
  refine eE (m:=1) (e:=520) cI (some ⟨cb,0,none⟩) (hgt n+1) 6 ?_
  rw [List.take_append_of_le_length (by simp),List.take_take,Nat.min_self,List.take_of_length_le (by simp)]
  exact aD cb True.intro rfl (am _) bu
theorem zR {n:Nat} (h1:1≤n) (h2:n≤4096):Zp Tryz.prog 223 [vI n] [] [] Nat (fun _=>True) (fun x=> .tuple #[vA (cL ⟨n,(some ⟨x,0,none⟩,hgt n+1,6)⟩),vI 0]) (fun _=> []) (fun x=> [Sl cI (some ⟨x,0,none⟩) (hgt n+1) 6 (cts n)]):=by
 refine ak fun G=> ?_
 (repeat' ((try refine aw ?_);(conv=>arg 4;whnf);first | refine az ?_ |(refine sN ?_;intro b)|(refine aA (kM h1 h2) ?_;intro x hx;refine aH ?_)|(refine cw (In h1 h2) ?_;intro x hx;refine bV ?_)| fail));(all_goals refine av ?_)
 exact aD x True.intro rfl (am _) bu
theorem C3 {n l j:Nat} (h1:1≤n) (h2:n≤4096) (hl:l≤hgt n) (hj:j<cnt n l):Zp Tryz.prog 224 [vI n,vA (co ⟨l,j⟩)] [] [] Nat (fun _=>True) (fun x=> .tuple #[vA (cL ⟨n,(some ⟨x,0,none⟩,hgt n+1,6)⟩),vI 0]) (fun _=> []) (fun x=> [Sl cI (some ⟨x,0,none⟩) (hgt n+1) 6 (cts n)]):=by
 refine ak fun G=> ?_
 have hg:(cts n).getD l default=cnt n l:=jD hl
 have hc:=cH n l
 (repeat' ((try refine aw ?_);(conv=>arg 4;whnf);first | refine az ?_ |(refine sN ?_;intro b)|(refine cw (zR h1 h2) ?_;intro x hx;refine bV ?_)| fail));(all_goals refine av ?_)
 exact aD x True.intro rfl (am _) bu
theorem Jy {n l x:Nat} (h1:1≤n) (h2:n≤4096) (hl:l≤hgt n):Zp Tryz.prog 321 [vA (cL ⟨n,(some ⟨x,0,none⟩,hgt n+1,6)⟩),vI l] [] [Sl cI (some ⟨x,0,none⟩) (hgt n+1) 6 (cts n)] Unit (fun _=>True) (fun _=>vI (und n l)) (fun _=> []) (fun _=> []):=by
 refine ak fun G=> ?_
 have hh:=a8 n
 cases l with
 | zero=>(repeat' ((try refine aw ?_);(conv=>arg 4;whnf);first | refine az ?_ |(refine sN ?_;intro b)| exact ax | fail));(all_goals refine av ?_)
 | succ l=>
  have hg:(cts n).getD (l+1-1) default=und n (l+1):=jD (by omega)
  (repeat' ((try refine aw ?_);(conv=>arg 4;whnf);first | refine az ?_ |(refine sN ?_;intro b)| exact ax | fail));(all_goals refine av ?_)
  exact aD () True.intro (by rw [hg];rfl) (am _)
theorem tF {n l x:Nat} (h1:1≤n) (h2:n≤4096) (hl:l≤hgt n+1):Zp Tryz.prog 238 [vA (cL ⟨n,(some ⟨x,0,none⟩,hgt n+1,6)⟩),vI l] [] [Sl cI (some ⟨x,0,none⟩) (hgt n+1) 6 (cts n)] Unit (fun _=>True) (fun _=>vI (bas n l)) (fun _=> []) (fun _=> []):=by
 refine ak fun G=> ?_
 have hh:=a8 n
 (repeat' ((try refine aw ?_);(conv=>arg 4;whnf);first | refine az ?_ |(refine sN ?_;intro b)| exact ax | fail));(all_goals refine av ?_)
 refine cN (X:=Nat) (fun i=> [(5,vI (bas n i)),(16,vI i)]) (fun i=>i≤l) (fun i=> []) (fun i=>l-i) 0 (Nat.zero_le _) rfl (am _) ?_
 intro i hi
 have hb:=oz (n:=n) (l:=i) h2 (by omega)
 by_cases h:i<l
 ·have hg:(cts n).getD i default=cnt n i:=jD (by omega)
  have hc:=cH n i
  (repeat' ((try refine aw ?_);(conv=>arg 4;whnf);first | refine az ?_ |(refine sN ?_;intro b)| exact ax | fail));(all_goals refine av ?_)
  exact a5 (i+1) (by rw [hg];rfl) (by omega) (am _) (by omega)
 ·obtain rfl:i=l:=by omega
  (repeat' ((try refine aw ?_);(conv=>arg 4;whnf);first | refine az ?_ |(refine sN ?_;intro b)| exact ax | fail));(all_goals refine av ?_)
theorem rB {n:Nat} (h1:1≤n) (h2:n≤4096):Zp Tryz.prog 179 [vI n] [] [] Unit (fun _=>True) (fun _=> .tuple #[vI (hgt n),vI 0]) (fun _=> []) (fun _=> []):=by
 refine ak fun G=> ?_
 have hh:=a8 n
 (repeat' ((try refine aw ?_);(conv=>arg 4;whnf);first | refine az ?_ |(refine sN ?_;intro b)|(refine cw (zR h1 h2) ?_;intro x hx;refine bV ?_)| exact ax | fail));(all_goals refine av ?_)
theorem B1 {n l:Nat} (h1:1≤n) (h2:n≤4096) (hl:l≤hgt n):Zp Tryz.prog 138 [vI n,vI l] [] [] Unit (fun _=>True) (fun _=> .tuple #[vI (cnt n l),vI 0]) (fun _=> []) (fun _=> []):=by
 refine ak fun G=> ?_
 have hh:=a8 n
 have hg:(cts n).getD l default=cnt n l:=jD hl
 (repeat' ((try refine aw ?_);(conv=>arg 4;whnf);first | refine az ?_ |(refine sN ?_;intro b)|(refine cw (C3 (j:=0) h1 h2 hl (dk h1 l)) ?_;intro x hx;refine bV ?_)| fail));(all_goals refine av ?_)
 exact aD () True.intro (by rw [hg];rfl) (am _)
end Go.Proofs.YtbobhnldhpjdlaaGreatDoor
namespace Go.Proofs.YtbobhnldhpjdlaaGreatDoor
open Go Go.RowKit Go.Cs Go.Cz
set_option maxRecDepth 100000
set_option maxHeartbeats 1000000
theorem Ii {n:Nat} (h1:1≤n) (h2:n≤4096):Zp Tryz.prog 136 [vI n] [] [] Unit (fun _=>True) (fun _=> .tuple #[vI (tot n),vI 0]) (fun _=> []) (fun _=> []):=by
 refine ak fun G=> ?_
 have hh:=a8 n
 (repeat' ((try refine aw ?_);(conv=>arg 4;whnf);first | refine az ?_ |(refine sN ?_;intro b)|(refine cw (zR h1 h2) ?_;intro x hx;refine bV ?_)| exact ax | fail));(all_goals refine av ?_)
 refine cN (X:=Nat) (fun i=> [(6,vI (num n i)),(20,vI i)]) (fun i=>i≤hgt n+1) (fun i=> []) (fun i=>hgt n+1-i) 0 (Nat.zero_le _) rfl (am _) ?_
 intro i hi
 have hb:=cz (n:=n) (l:=i) h2 (by omega)
 by_cases h:i<hgt n+1
 ·have hg:(cts n).getD i default=cnt n i:=jD (by omega)
  have hc:=cH n i
  (repeat' ((try refine aw ?_);(conv=>arg 4;whnf);first | refine az ?_ |(refine sN ?_;intro b)| exact ax | fail));(all_goals refine av ?_)
  exact a5 (i+1) (by rw [hg];rfl) (by omega) (am _) (by omega)
 ·obtain rfl:i=hgt n+1:=by omega
  (repeat' ((try refine aw ?_);(conv=>arg 4;whnf);first | refine az ?_ |(refine sN ?_;intro b)| exact ax | fail));(all_goals refine av ?_)
theorem JH {n l j:Nat} (h1:1≤n) (h2:n≤4096) (hl:l≤hgt n) (hj:j<cnt n l):Zp Tryz.prog 283 [vI n,vI l,vI j] [] [] Unit (fun _=>True) (fun _=> .tuple #[vI (prt n l j),vI 0]) (fun _=> []) (fun _=> []):=by
 refine ak fun G=> ?_
 have hu:=FY.1 hj
 have hun:=wp n l
 (repeat' ((try refine aw ?_);(conv=>arg 4;whnf);first | refine az ?_ |(refine sN ?_;intro b)|(refine cw (C3 h1 h2 hl hj) ?_;intro x hx;refine bV ?_)|(refine aA (Jy h1 h2 hl) ?_;intro x hx;refine aH ?_)| exact ax | fail));(all_goals refine av ?_)
theorem BL {n i:Nat} (h1:1≤n) (h2:n≤4096) (hi:i<n):Zp Tryz.prog 222 [vI n,vI i] [] [] Nat (fun _=>True) (fun x=> .tuple #[vA (cL ⟨n,(some ⟨x,0,none⟩,hgt n+1,6)⟩),vI 0]) (fun _=> []) (fun x=> [Sl cI (some ⟨x,0,none⟩) (hgt n+1) 6 (cts n)]):=by
 refine ak fun G=> ?_
 (repeat' ((try refine aw ?_);(conv=>arg 4;whnf);first | refine az ?_ |(refine sN ?_;intro b)|(refine cw (zR h1 h2) ?_;intro x hx;refine bV ?_)| fail));(all_goals refine av ?_)
 exact aD x True.intro rfl (am _) bu
theorem j9 {n i t:Nat} (h1:1≤n) (h2:n≤4096) (hi:i<n) (ht:t≤1):Zp Tryz.prog 132 [vI n,vI i,vI t] [] [] Unit (fun _=>True) (fun _=> .tuple #[vI (2*i+t),vI 0]) (fun _=> []) (fun _=> []):=by
 refine ak fun G=> ?_
 rcases (show t=0∨t=1 by omega) with rfl | rfl
 ·(repeat' ((try refine aw ?_);(conv=>arg 4;whnf);first | refine az ?_ |(refine sN ?_;intro b)|(refine cw (BL h1 h2 hi) ?_;intro x hx;refine bV ?_)| exact ax | fail));(all_goals refine av ?_)
 ·(repeat' ((try refine aw ?_);(conv=>arg 4;whnf);first | refine az ?_ |(refine sN ?_;intro b)|(refine cw (BL h1 h2 hi) ?_;intro x hx;refine bV ?_)| exact ax | fail));(all_goals refine av ?_)
theorem ue {n l j t:Nat} (h1:1≤n) (h2:n≤4096) (hl:l≤hgt n) (hj:j<cnt n l) (ht:t≤1):Zp Tryz.prog 180 [vI n,vI l,vI j,vI t] [] [] Unit (fun _=>True) (fun _=> .tuple #[vI (bas n l+2*j+t),vI 0]) (fun _=> []) (fun _=> []):=by
 refine ak fun G=> ?_
 have hh:=a8 n
 have hb:=oz (n:=n) (l:=l) h2 (by omega)
 have hc:=cH n l
 rcases (show t=0∨t=1 by omega) with rfl | rfl
 ·(repeat' ((try refine aw ?_);(conv=>arg 4;whnf);first | refine az ?_ |(refine sN ?_;intro b)|(refine cw (C3 h1 h2 hl hj) ?_;intro x hx;refine bV ?_)|(refine aA (tF h1 h2 (Nat.le_succ_of_le hl)) ?_;intro x hx;refine aH ?_)| exact ax | fail));(all_goals refine av ?_)
 ·(repeat' ((try refine aw ?_);(conv=>arg 4;whnf);first | refine az ?_ |(refine sN ?_;intro b)|(refine cw (C3 h1 h2 hl hj) ?_;intro x hx;refine bV ?_)|(refine aA (tF h1 h2 (Nat.le_succ_of_le hl)) ?_;intro x hx;refine aH ?_)| exact ax | fail));(all_goals refine av ?_)
theorem Am {n:Nat} (h1:1≤n) (h2:n≤4096):Zp Tryz.prog 178 [vI n] [] [] Unit (fun _=>True) (fun _=> .tuple #[vI (bas n (hgt n+1)),vI 0]) (fun _=> []) (fun _=> []):=by
 refine ak fun G=> ?_
 have hh:=a8 n
 (repeat' ((try refine aw ?_);(conv=>arg 4;whnf);first | refine az ?_ |(refine sN ?_;intro b)|(refine cw (zR h1 h2) ?_;intro x hx;refine bV ?_)|(refine aA (tF (l:=hgt n+1) h1 h2 (Nat.le_refl _)) ?_;intro x hx;refine aH ?_)| exact ax | fail));(all_goals refine av ?_)
end Go.Proofs.YtbobhnldhpjdlaaGreatDoor
namespace Go.Proofs.YtbobhnldhpjdlaaGreatDoor
open Go Go.RowKit Go.Cs Go.Cz
set_option maxRecDepth 100000
set_option maxHeartbeats 1000000
def sH (l:List SPla) (k:Nat):List SPla:=(List.range l.length).map fun p=>if p<k∨l.length≤p+k then l.getD (l.length-1-p) default else l.getD p default
theorem jF (l:List SPla) (k:Nat):(sH l k).length=l.length:=by simp [sH]
theorem iH (l:List SPla) (k:Nat) {p:Nat} (h:p<l.length):(sH l k)[p]? =some (if p<k∨l.length≤p+k then l.getD (l.length-1-p) default else l.getD p default):=by simp [sH,h]
theorem AW (l:List SPla):sH l 0=l:=by
 apply List.ext_getElem?
 intro i
 by_cases h:i<l.length
 ·rw [iH l 0 h,if_neg (by omega)];simp [List.getD,h]
 ·rw [List.getElem?_eq_none (by rw [jF];omega),List.getElem?_eq_none (by omega)]
theorem CV (l:List SPla) {k:Nat} (hk:l.length≤2*k+1):sH l k=l.reverse:=by
 apply List.ext_getElem?
 intro i
 by_cases h:i<l.length
 ·rw [iH l k h,List.getElem?_reverse h]
  by_cases h2:i<k∨l.length≤i+k
  ·rw [if_pos h2];simp [List.getD,show l.length-1-i<l.length by omega]
  ·rw [if_neg h2,show l.length-1-i=i by omega];simp [List.getD,h]
 ·rw [List.getElem?_eq_none (by rw [jF];omega),List.getElem?_eq_none (by simp;omega)]
theorem BG (l:List SPla) {k:Nat} (hk:2*k+1<l.length):((sH l k).set k ((sH l k).getD (l.length-1-k) default)).set (l.length-1-k) ((sH l k).getD k default)=sH l (k+1):=by
 apply List.ext_getElem?
 intro i
 have hl:=jF l k
 by_cases h:i<l.length
 ·rw [iH l (k+1) h]
  by_cases h1:i=l.length-1-k
  ·rw [h1,List.getElem?_set_self (by simp;omega),if_pos (by omega)]
   rw [List.getD_eq_getElem?_getD,iH l k (by omega),if_neg (by omega)]
   simp [show l.length-1-(l.length-1-k)=k by omega]
  ·rw [List.getElem?_set_ne (by omega)]
   by_cases h2:i=k
   ·subst h2
    rw [List.getElem?_set_self (by omega),if_pos (by omega),List.getD_eq_getElem?_getD,iH l i (by omega),if_neg (by omega)]
    rfl
   ·rw [List.getElem?_set_ne (by omega),iH l k h]
    by_cases h3:i<k∨l.length≤i+k
    ·rw [if_pos h3,if_pos (by omega)]
    ·rw [if_neg h3,if_neg (by omega)]
 ·rw [List.getElem?_eq_none (by simp;omega),List.getElem?_eq_none (by rw [jF];omega)]
theorem HJ {b n c e:Nat} {l:List SPla} (hl:l.length=n) (h1:1≤n) (h6:n≤6) (hc:n≤c) (hc2:c≤9223372036854775807):Zp Tryz.prog 227 [.slice (some ⟨b,0,none⟩) n c] [iB b (l.flatMap co) e] [] Unit (fun _=>True) (fun _=> .tuple #[]) (fun _=> [iB b (l.reverse.flatMap co) e]) (fun _=> []):=by
 refine ak fun G=> ?_
 (repeat' ((try refine aw ?_);(conv=>arg 4;whnf);first | refine az ?_ | fail));(all_goals refine av ?_)
 refine dh [b] (X:=Nat) (fun k=> [(2,vI k),(3,vI (n-1-k))]) (fun k=>2*k≤n) (fun k=> [iB b ((sH l k).flatMap co) e]) (fun k=>n-k) 0 (by omega) rfl ?_ ?_
 ·rw [AW];((repeat' (first | exact am _ | refine aE ?_ ?_ | fail))<;>(try with_reducible rfl))
 intro k hk
 (conv=>arg 2;simp only [List.cons_append,List.nil_append])
 have hlen:=jF l k
 by_cases h:2*k+1<n
 ·have e2:((sH l k).set k ((sH l k).getD (n-1-k) default)).set (n-1-k) ((sH l k).getD k default)=sH l (k+1):=by
   have:=BG l (k:=k) (by omega)
   rw [hl] at this;exact this
  (repeat' ((try refine aw ?_);(conv=>arg 4;whnf);first | refine az ?_ | fail));(all_goals refine av ?_)
  refine a5 (k+1) rfl (by omega) ?_ (by omega)
  rw [e2];((repeat' (first | exact am _ | refine aE ?_ ?_ | fail))<;>(try with_reducible rfl))
 ·(repeat' ((try refine aw ?_);(conv=>arg 4;whnf);first | refine az ?_ | fail));(all_goals refine av ?_)
  rw [CV l (by omega)]
  exact aD () True.intro rfl (aE (am _) rfl)
def jE (i k:Nat):List SPla:=(List.range k).map fun l=>⟨l,idx i l⟩
def ec (n i:Nat):List SPla:=(jE i (hgt n+1)).reverse
theorem jK (i k:Nat):(jE i k).length=k:=by simp [jE]
theorem yn (i k:Nat):jE i (k+1)=jE i k++ [⟨k,idx i k⟩]:=by simp [jE,List.range_succ]
theorem jr (n i:Nat):(ec n i).length=hgt n+1:=by simp [ec,jK]
theorem lR {n i k:Nat} (h:k≤hgt n):(ec n i).getD k default=⟨hgt n-k,idx i (hgt n-k)⟩:=by
 have h2:k<(jE i (hgt n+1)).length:=by rw [jK];omega
 rw [ec,List.getD_eq_getElem?_getD,List.getElem?_reverse h2,jK]
 rw [show hgt n+1-1-k=hgt n-k by omega]
 simp only [jE,List.getElem?_map]
 rw [List.getElem?_range (by omega)];rfl
theorem sy {n i:Nat} (h1:1≤n) (h2:n≤4096) (hi:i<n):Zp Tryz.prog 145 [vI n,vI i] [] [] Nat (fun _=>True) (fun x=> .tuple #[.slice (some ⟨x,0,none⟩) (hgt n+1) (hgt n+1),vI 0]) (fun _=> []) (fun x=> [Sl co (some ⟨x,0,none⟩) (hgt n+1) (hgt n+1) (ec n i)]):=by
 refine ak fun G=> ?_
 have hh:=a8 n
 (repeat' ((try refine aw ?_);(conv=>arg 4;whnf);first | refine az ?_ |(refine sN ?_;intro b)|(refine cw (BL h1 h2 hi) ?_;intro x hx;refine bV ?_)| refine ae ?_ | refine ai ?_ |(refine aj rfl ?_;intro D lL)| fail));(all_goals refine av ?_)
 rename_i sb mb cb kb
 refine dh [b,cb,mb] (X:=Nat) (fun k=> [(8,vI k)]) (fun k=>k≤hgt n+1) (fun k=> [iB b [vI (qs i k)] 3,iB cb [.slice (some ⟨mb,0,none⟩) k (hgt n+1)] 282,iB mb ((jE i k++List.replicate (hgt n+1-k) SPla.zero).flatMap co) 287]) (fun k=>hgt n+1-k) 0 (Nat.zero_le _) rfl ?_ ?_
 ·rw [show jE i 0= [] from rfl,List.nil_append,Nat.sub_zero];((repeat' (first | with_reducible exact ar _ | exact am _ | refine aE ?_ ?_ | refine aX ?_))<;>(try with_reducible rfl))
  all_goals rfl
 intro k hk
 (conv=>arg 2;simp only [List.cons_append,List.nil_append])
 have hqs:=Ed i k
 have hpl:=jK i k
 by_cases h:k<hgt n+1
 ·have e:spl (jE i k++List.replicate (hgt n+1-k) SPla.zero) k [⟨k,qs i k/4⟩]=jE i (k+1)++List.replicate (hgt n+1-(k+1)) SPla.zero:=by
   rw [spl,List.take_append_of_le_length (by omega),List.take_of_length_le (by omega),yn,Bl,List.drop_append,List.drop_eq_nil_of_le (by simp;omega),List.nil_append,List.drop_replicate,hpl]
   simp only [List.length_singleton]
   rw [show hgt n+1-k-(k+1-k)=hgt n+1-(k+1) by omega]
  (repeat' ((try refine aw ?_);(conv=>arg 4;whnf);first | refine az ?_ |(refine sN ?_;intro b)| refine ae ?_ | refine ai ?_ |(refine aj rfl ?_;intro D lL)| fail));(all_goals refine av ?_)
  refine a5 (k+1) rfl (by omega) ?_ (by omega)
  rw [e];((repeat' (first | with_reducible exact ar _ | exact am _ | refine aE ?_ ?_ | refine aX ?_))<;>(try with_reducible rfl))
  all_goals rfl
 ·obtain rfl:k=hgt n+1:=by omega
  rw [Nat.sub_self,List.replicate_zero,List.append_nil]
  (repeat' ((try refine aw ?_);(conv=>arg 4;whnf);first | refine az ?_ |(refine sN ?_;intro b)|(refine da (HJ (l:=jE i (hgt n+1)) hpl (by omega) (by omega) (Nat.le_refl _) (by omega)) ?_;intro x hx;refine bV ?_)| refine ae ?_ | refine ai ?_ |(refine aj rfl ?_;intro D lL)| fail));(all_goals refine av ?_)
  rw [show (jE i (hgt n+1)).reverse=ec n i from rfl]
  refine eK mb (hgt n+1) (hgt n+1) (K:=co) (l:=ec n i) ?_ ⟨(jr n i).symm,Nat.le_refl _,by omega⟩
  exact aD mb True.intro rfl (am _) bu
end Go.Proofs.YtbobhnldhpjdlaaGreatDoor
