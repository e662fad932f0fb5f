/- Lemmas and walks: what each function does, by its own code. No condition beyond those of each statement. -/
import Derived.Test.YtbobhnldhpjdlaaGreatDoorP7
import Derived.Test.YtbobhnldhpjdlaaGreatDoorP8
import Derived.Test.YtbobhnldhpjdlaaGreatDoorP9
import Derived.Scope
set_option linter.all false
set_option linter.unusedVariables false
namespace Go.Cz
open Go Go.RowKit Go.Cs
section
variable {P:Program} {G:Gc} {O O':List It} {F:List Pt} {C:Value→Pt} {D:Pt} {T E:TypeId} {x y:Operand} {m n c b e:Nat} {a:Option Addr} {cs:List Value} {α:Type} {K:α→List Value} {l:List α} {p:Prop}
instance [h:Ix P T E m none] [hz:Sz P E m false]:Nb P (.bls T 0 []) [] E (fun b=> .slice (some ⟨b,0,none⟩) 0 0) True:=⟨fun _ w=>by
 have h1:=h.ix
 have h2:=Cs.run_sizeOf (P:=P) (w:=w) h.sz
 simp [Ak.sem,Instr.buildSlice,run_underlying h1,h2,Instr.fill,newRow];congr 2;apply Array.ext';simp⟩
instance (priority:=high):Pn (iB b [] e::O) K m (some ⟨b,0,none⟩) 0 0 e [] O True:=⟨fun _=>tZ O (by simp [iN,iB]) (fun w hB=>by
 have hB':Blk w b [] e:=hB
 refine ⟨rfl,by simp, .inr ⟨b,0, #[],rfl,Nat.zero_le _,hB',Nat.le_refl _,by simp [maxLen],by simp,by simp⟩⟩)⟩
instance (priority:=high) {l t:List α} [hK:CL K m]:Ub (l.flatMap K) 0 (t.flatMap K) (t.flatMap K) (l.length=t.length):=⟨fun h=>Bh (by rw [cZ,cZ,h])⟩
instance {l:List (Option Addr)} {i:Nat}:Ub (l.flatMap cP) (i*1) [.pointer a] ((l.set i a).flatMap cP) (i<l.length):=⟨fun h=>k7 (K:=cP) a h⟩
instance {l:List Nat} {i y:Nat} {z:Int} [h:Ni z y]:Ub (l.flatMap cI) (i*1) [.int .i64 z] ((l.set i y).flatMap cI) (i<l.length):=⟨fun hi=>by rw [h.ni];exact k7 (K:=cI) y hi⟩
instance {l:List UInt64} {i:Nat} {y:UInt64}:Ub (l.flatMap cQ) (i*1) [.int .u64 (y.toNat:Int)] ((l.set i y).flatMap cQ) (i<l.length):=⟨fun h=>k7 (K:=cQ) y h⟩
instance {l:List UInt8} {i:Nat} {y:UInt8}:Ub (l.flatMap cB) (i*1) [.int .u8 (y.toNat:Int)] ((l.set i y).flatMap cB) (i<l.length):=⟨fun h=>k7 (K:=cB) y h⟩
def Bk (b:Nat) (cs:List Value):Pt:=fun w=>At w b 0 cs
instance:Ab O (Bk b cs::F) b 0 cs True:=⟨fun _ w _ h=>h _ (.head _)⟩
theorem gh (b n c:Nat) [hpb:Pb O b cs e O'] [hf:Fb cs K l] (k:Tr G O' (Sl K (some ⟨b,0,none⟩) n c l::F) D) (hn:n=l.length∧n≤c∧c≤9223372036854775807:=by (repeat' (first | exact True.intro | refine And.intro ?_ ?_))<;>first | omega |(simp only [List.length_append,List.length_take,List.length_drop,List.length_replicate,List.length_set,List.length_map,List.length_nil,List.length_cons];omega)|(simp;done)|(simp;omega)):Tr G O F D:=by
 refine z4 _ hpb.pb ?_
 refine u9 (L:= [iB b cs e]) [Sl K (some ⟨b,0,none⟩) n c l] ?_ k
 intro f hf'
 simp only [List.mem_singleton] at hf'
 subst hf'
 refine C3 ?_ hn.1 hn.2.1 hn.2.2
 rw [←hf.fm]
 exact KK
theorem c7 (b:Nat) [hpb:Pb O b cs e O'] (k:Tr G O' (Bk b cs::F) D):Tr G O F D:=by
 refine z4 _ hpb.pb ?_
 refine u9 (L:= [iB b cs e]) [Bk b cs] ?_ k
 intro f hf'
 simp only [List.mem_singleton] at hf'
 subst hf'
 exact KK
theorem ic {t:List α} (K:α→List Value) (a:Option Addr) (n c:Nat) [hpn:Pn O K m a n c e t O' p] (k:Tr G O' (Sl K a n c t::F) D) (hp:p:=by (repeat' (first | exact True.intro | refine And.intro ?_ ?_))<;>first | omega |(simp only [List.length_append,List.length_take,List.length_drop,List.length_replicate,List.length_set,List.length_map,List.length_nil,List.length_cons];omega)|(simp;done)|(simp;omega)):Tr G O F D:=by
 refine z4 _ (hpn.pn hp) ?_
 refine u9 (L:= [iN K m a n c e t]) [Sl K a n c t] ?_ k
 intro f hf'
 simp only [List.mem_singleton] at hf'
 subst hf'
 intro w h1 h2
 have hA:=h1 _ (.head _)
 obtain ⟨g2,g3,g4 |⟨g,c',cur,g4,g5,g6,g7,g8,g9,g10⟩⟩:=hA
 ·cases g4.1
  have ht:t= []:=List.eq_nil_of_length_eq_zero g2.symm
  subst ht
  exact ⟨rfl,rfl,rfl,rfl⟩
 ·cases g4
  refine C3 (O:= [iN K m (some ⟨g,0,none⟩) n c e t]) (F:=F) ((inferInstance:Ab [iN K m (some ⟨g,0,none⟩) n c e t] F g 0 (t.flatMap K) True).ab trivial) g2 g7 (by simpa [maxLen] using g8) w h1 h2
end
theorem uJ {α:Type} {K:α→List Value} {a:Option Addr} {n c:Nat} {t:List α} {w:World} (h:Sl K a n c t w):Sl K a n n t w:=by
 obtain ⟨h1,h2⟩:=h
 refine ⟨h1, ?_⟩
 cases a with
 | none=>exact ⟨h2.1,h2.1,h2.2.2⟩
 | some ad=>exact ⟨Nat.le_refl _,Nat.le_trans h2.1 h2.2.1,h2.2.2⟩
theorem kg {α:Type} {K:α→List Value} {G:Gc} {O:List It} {F:List Pt} {C:Pt} {a:Option Addr} {n c:Nat} {t:List α} (i:Nat) (k:Tr G O (Sl K a n n t::F) C) (hF:F[i]? =some (Sl K a n c t):=by rfl):Tr G O F C:=
 bq _ (fun w _ h=>uJ (h _ (List.mem_of_getElem? hF))) k
structure VN where
 blk:Nat
 sb:Sv
 th:Bool
 b:List UInt8
def vptr:List VN→Option Addr
 | []=>none
 | v::_=>some ⟨v.blk,0,none⟩
abbrev vcel (v:VN) (l:List VN):SVer:=⟨v.th,v.sb,l.length+1,vptr l⟩
def Vm:List VN→Pt
 | []=>fun _=>True
 | v::l=>fun w=>At w v.blk 0 (cH (vcel v l))∧Sl cB v.sb.1 v.sb.2.1 v.sb.2.2 v.b w∧Vm l w
theorem Vm.drop {w:World}:∀{l:List VN} (k:Nat),Vm l w→Vm (l.drop k) w
 | l,0,h=>h
 | [],k+1,h=>h
 | v::l,k+1,h=>Vm.drop (l:=l) k h.2.2
structure DI where
 size:Nat
 ch:List Nat
 vs:List (List VN)
def jl (b:Nat):Option Addr:=some ⟨b,0,none⟩
@[irreducible] def DI.cs (I:DI) (k:Nat):List (Option Addr):=((I.vs.drop (64*k)).take 64).map vptr
structure DI.Ok (I:DI):Prop where
 s1:1≤I.size
 s2:I.size≤10922
 cl:I.ch.length=(I.size+63)/64
 vl:I.vs.length=64*I.ch.length
def Dm (d:SDsk) (I:DI):Pt:=fun w=>d.size=I.size∧Sl cP d.chunks.1 d.chunks.2.1 d.chunks.2.2 (I.ch.map jl) w∧(∀k,k<I.ch.length→At w (I.ch.getD k 0) 0 ((I.cs k).flatMap cP))∧∀i,Vm (I.vs.getD i []) w
theorem DI.cs_get {I:DI} (h:I.Ok) {s:Nat} (hs:s<I.size):(I.cs (s/64)).getD (s%64) default=vptr (I.vs.getD s []):=by
 have h1:=h.vl
 have h2:=h.cl
 simp only [DI.cs,List.getD,List.getElem?_map,List.getElem?_take,List.getElem?_drop,if_pos (Nat.mod_lt s (show 0<64 by decide))]
 rw [show 64*(s/64)+s%64=s by omega,List.getElem?_eq_getElem (by omega)]
 rfl
theorem DI.ch_get {I:DI} (h:I.Ok) {s:Nat} (hs:s<I.size):(I.ch.map jl).getD (s/64) default=some ⟨I.ch.getD (s/64) 0,0,none⟩:=by
 have h2:=h.cl
 simp only [List.getD,List.getElem?_map]
 rw [List.getElem?_eq_getElem (by omega)]
 rfl
theorem DI.cs_len {I:DI} (h:I.Ok) {k:Nat} (hk:k<I.ch.length):(I.cs k).length=64:=by
 have h1:=h.vl
 simp only [DI.cs,List.length_map,List.length_take,List.length_drop];omega
def s7:List VN→Option (List UInt8)
 | []=>none
 | v::_=>if v.th then some v.b else none
abbrev DI.pv (I:DI) (i:Nat):Option (List UInt8):=s7 (I.vs.getD i [])
def DI.put (I:DI) (s nb:Nat) (v:VN):DI:={I with ch:=I.ch.set (s/64) nb,vs:=I.vs.set s (v::I.vs.getD s [])}
theorem DI.put_ok {I:DI} {s nb:Nat} {v:VN} (h:I.Ok):(I.put s nb v).Ok:=⟨h.s1,h.s2,by simp [DI.put,h.cl],by simp [DI.put,h.vl]⟩
theorem DI.put_get {I:DI} {s nb i:Nat} {v:VN} (h:I.Ok) (hs:s<I.size):(I.put s nb v).vs.getD i []=if i=s then v::I.vs.getD s [] else I.vs.getD i []:=by
 have h1:=h.vl
 have h2:=h.cl
 simp only [DI.put,List.getD,List.getElem?_set]
 by_cases e:i=s
 ·subst e;simp [show i<I.vs.length by omega]
 ·rw [if_neg (Ne.symm e),if_neg e]
theorem DI.put_cs {I:DI} {s nb k:Nat} {v:VN} (h:I.Ok) (hs:s<I.size):(I.put s nb v).cs k=if k=s/64 then (I.cs k).set (s%64) (jl v.blk) else I.cs k:=by
 have h1:=h.vl
 have h2:=h.cl
 apply List.ext_getElem?
 intro j
 have e:((I.put s nb v).cs k)[j]? =if j<64 then (if 64*k+j=s then some (jl v.blk) else (I.vs[64*k+j]?).map vptr) else none:=by
  simp only [DI.cs,DI.put,List.getElem?_map,List.getElem?_take,List.getElem?_drop]
  by_cases hj:j<64
  ·rw [if_pos hj,if_pos hj,List.getElem?_set]
   by_cases hs2:s=64*k+j
   ·rw [if_pos hs2,if_pos hs2.symm,if_pos (by omega)];rfl
   ·rw [if_neg hs2,if_neg (Ne.symm hs2)]
  ·rw [if_neg hj,if_neg hj];rfl
 have e2:(I.cs k)[j]? =if j<64 then (I.vs[64*k+j]?).map vptr else none:=by
  simp only [DI.cs,List.getElem?_map,List.getElem?_take,List.getElem?_drop]
  by_cases hj:j<64
  ·rw [if_pos hj,if_pos hj]
  ·rw [if_neg hj,if_neg hj];rfl
 rw [e]
 by_cases hk:k=s/64
 ·rw [if_pos hk,List.getElem?_set]
  have hl:s%64<(I.cs k).length:=by simp only [DI.cs,List.length_map,List.length_take,List.length_drop];omega
  by_cases hj:s%64=j
  ·rw [if_pos hj,if_pos hl,if_pos (by omega),if_pos (by omega)]
  ·rw [if_neg hj,e2]
   by_cases hj2:j<64
   ·rw [if_pos hj2,if_pos hj2,if_neg (by omega)]
   ·rw [if_neg hj2,if_neg hj2]
 ·rw [if_neg hk,e2]
  by_cases hj2:j<64
  ·rw [if_pos hj2,if_pos hj2,if_neg (by omega)]
  ·rw [if_neg hj2,if_neg hj2]
theorem Dm.put {d d':SDsk} {I:DI} {s nb vb:Nat} {th:Bool} {sv:Sv} {l:List UInt8} {w:World} (hI:I.Ok) (hs:s<I.size) (h:Dm d I w) (hd:d'.size=d.size) (h1:Sl cP d'.chunks.1 d'.chunks.2.1 d'.chunks.2.2 ((I.ch.map jl).set (s/64) (jl nb)) w)
  (h2:At w nb 0 (((I.cs (s/64)).set (s%64) (jl vb)).flatMap cP)) (h3:At w vb 0 (cH ⟨th,sv,(I.vs.getD s []).length+1,vptr (I.vs.getD s [])⟩)) (h4:Sl cB sv.1 sv.2.1 sv.2.2 l w):Dm d' (I.put s nb ⟨vb,sv,th,l⟩) w:=by
 obtain ⟨g1,g2,g3,g4⟩:=h
 have hcl:=hI.cl
 refine ⟨hd.trans g1, ?_, ?_, ?_⟩
 ·have e:((I.put s nb ⟨vb,sv,th,l⟩).ch.map jl)=(I.ch.map jl).set (s/64) (jl nb):=by simp [DI.put,List.map_set]
  rw [e];exact h1
 ·intro k hk
  rw [DI.put_cs hI hs]
  by_cases e:k=s/64
  ·subst e
   have e2:(I.put s nb ⟨vb,sv,th,l⟩).ch.getD (s/64) 0=nb:=by
    simp [DI.put,List.getD,List.getElem?_set,show s/64<I.ch.length by omega]
   rw [if_pos rfl,e2];exact h2
  ·have e2:(I.put s nb ⟨vb,sv,th,l⟩).ch.getD k 0=I.ch.getD k 0:=by
    simp only [DI.put,List.getD,List.getElem?_set];rw [if_neg (Ne.symm e)]
   rw [if_neg e,e2];exact g3 k (by simpa [DI.put] using hk)
 ·intro i
  rw [DI.put_get hI hs]
  by_cases e:i=s
  ·subst e;rw [if_pos rfl];exact ⟨h3,h4,g4 i⟩
  ·rw [if_neg e];exact g4 i
theorem r4 {α:Type} {K:α→List Value} {b A n c:Nat} {t:List α} {w:World} (h:At w b A (t.flatMap K)) (hn:n=t.length) (hc:n≤c) (hm:c≤9223372036854775807):Sl K (some ⟨b,A,none⟩) n c t w:=by
 refine ⟨hn,hc,by simpa [maxLen] using hm, ?_⟩
 cases hv:t.flatMap K with
 | nil=>exact .inl rfl
 | cons v vs=>
  rw [hv] at h
  have hb:=World.block_lt_of_cell? w _ (h 0 v rfl)
  exact .inr ⟨rfl,Nat.zero_le _,hb,hb,h⟩
theorem Ge {G:Gc} {O:List It} {F:List Pt} {C:Pt} (f:Pt) (hf:∀w,(∀o∈O,o.A w)→(∀f∈F,f w)→f w) (h:Tr G [] (f::F) C):Tr G O F C:=by
 have:=u9 (L:=O) (O:= []) (F:=F) [f] (fun g hg=>by simp only [List.mem_singleton] at hg;subst hg;exact hf) h
 simpa using this
theorem Gj {O:List It} {b e:Nat} {cs:List Value} {w:World} (h1:∀o∈O,o.A w) (hm:iB b cs e∈O):At w b 0 cs:=Blk.all (h1 _ hm)
end Go.Cz
namespace Go.Cz
open Go Go.RowKit Go.Cs
structure DwS (P:Program) (ro:Option Nat) (n:Nat) (id:Nat) (ops:Array Oper) (ds:List Deferred) (σ:Fm) (K:Kt) (bs:List Nat) (w:World):Prop where
 go:Dw P ro n id ops ds σ K w
def JA (C:Option Value→Pt) (t:Nat):Fm→Pt
 | []=>C none
 |(k,v)::r=>bif Nat.beq k t then C (some v) else JA C t r
def Lx (C:List Nat→Pt) (acc:List Nat):Option Value→Pt
 | some (.pointer (some a))=>C (a.block::acc)
 | _=>C acc
def Lz (o:Oper):Option Nat:=match o.op with
 | .store _ (.tmp t) _=>some t
 | _=>none
def HD (σ:Fm) (C:List Nat→Pt):List Oper→List Nat→Pt
 | [],acc=>C acc
 | [_],acc=>C acc
 | o::q::r,acc=>match Lz o with
  | some t=>JA (Lx (fun acc=>HD σ C (q::r) acc) acc) t σ
  | none=>HD σ C (q::r) acc
theorem y8 {C:Option Value→Pt} {t:Nat} {w:World}:∀{σ:Fm},JA C t σ w→∃v,C v w
 | [],h=>⟨_,h⟩
 |(k,v)::r,h=>by
  simp only [JA] at h
  cases hb:Nat.beq k t with
  | true=>simp only [hb,cond_true] at h;exact ⟨_,h⟩
  | false=>simp only [hb,cond_false] at h;exact y8 h
theorem qk {σ:Fm} {C:List Nat→Pt} {D:Pt} {w:World} (hC:∀l,C l w→D w):∀{l:List Oper} {acc:List Nat},HD σ C l acc w→D w
 | [],acc,h=>hC _ h
 | [_],acc,h=>hC _ h
 | o::q::r,acc,h=>by
  unfold HD at h
  cases ht:Lz o with
  | some t=>
   simp only [ht] at h
   obtain ⟨v,hv⟩:=y8 h
   unfold Lx at hv
   split at hv
   ·exact qk hC hv
   ·exact qk hC hv
  | none=>simp only [ht] at h;exact qk hC h
class Wz1 (O:List It) (b:Nat) (O':outParam (List It)):Prop where
 wz:Wk O O'
instance {b e:Nat} {cs:List Value} {O:List It}:Wz1 (iB b cs e::O) b (iU b::O):=⟨aD inferInstance (am _)⟩
instance (priority:=low) {u:It} {b:Nat} {O O':List It} [h:Wz1 O b O']:Wz1 (u::O) b (u::O'):=⟨gU u h.wz⟩
instance (priority:=low) {b:Nat}:Wz1 [] b []:=⟨am _⟩
class Wzs (O:List It) (bs:List Nat) (O':outParam (List It)):Prop where
 wz:Wk O O'
instance {O:List It}:Wzs O [] O:=⟨am _⟩
instance {O O1 O2:List It} {b:Nat} {bs:List Nat} [h:Wz1 O b O1] [g:Wzs O1 bs O2]:Wzs O (b::bs) O2:=⟨dH h.wz g.wz⟩
class Pit (O:List It) (u:It) (O':outParam (List It)):Prop where
 pit:Pk O u O'
instance {u:It} {O:List It}:Pit (u::O) u O:=⟨Cp _ _⟩
instance (priority:=low) {u v:It} {O O':List It} [h:Pit O u O']:Pit (v::O) u (v::O'):=⟨C1 h.pit⟩
theorem aI {O O1 O':List It} {u:It} [h:Pit O u O1] (hk:Wk O1 O'):Wk O (u::O'):=Ia h.pit hk
theorem Sl.at_ {α:Type} {K:α→List Value} {b o n c:Nat} {t:List α} {w:World} (h:Sl K (some ⟨b,o,none⟩) n c t w):At w b o (t.flatMap K):=fL.at h.2
def iS {α:Type} (K:α→List Value) (b o n c:Nat) (t:List α):It:=⟨[b],fun w=>Sl K (some ⟨b,o,none⟩) n c t w,fun w w' hk h=>by
 have hh:=hk b (by simp)
 obtain ⟨h1,h2,h3,h4⟩:=h
 refine ⟨h1,h2,h3, ?_⟩
 rcases h4 with h4 |⟨h4,h5,h6,h7,h8⟩
 ·exact .inl h4
 ·have hb:b<w'.heap.size:=by
   have:(w'.heap[b]?).isSome:=by rw [hh];simp [show b<w.heap.size from h6]
   simpa using this
  refine .inr ⟨h4,h5,hb,hb,fun i v hv=> ?_⟩
  have:=h8 i v hv
  unfold World.cell? at this⊢
  simp only at this⊢
  rw [hh];exact this⟩
instance {α:Type} {K:α→List Value} {b o n c:Nat} {t:List α} {O:List It} {F:List Pt}:Lb (iS K b o n c t::O) F K (some ⟨b,o,none⟩) n c t True:=⟨fun _ w h1 _=>h1 _ (.head _)⟩
instance (priority:=low) {α:Type} {K:α→List Value} {a:Option Addr} {n c:Nat} {t:List α} {u:It} {O:List It} {F:List Pt} {p:Prop} [h:Lb O F K a n c t p]:Lb (u::O) F K a n c t p:=⟨fun hp=>LE (h.lb hp)⟩
theorem Li {α:Type} {K:α→List Value} {b e n c:Nat} {cs:List Value} {t:List α} {O O1 O':List It} [h:Pb O b cs e O1] (hs:∀w,At w b 0 cs→Sl K (some ⟨b,0,none⟩) n c t w) (hk:Wk O1 O'):Wk O (iS K b 0 n c t::O'):=
 dH h.pb (dH (tZ (o:=iB b cs e) (o':=iS K b 0 n c t) O1 rfl (fun w hB=>hs w (Blk.all hB))) (gU _ hk))
theorem vi {P:Program} {O:List It} {F:List Pt} {T:TypeId} {x y:Operand} {i j:Int} {a:Nat} [hi:Ni i a] [hj:Ni j 1] (h:a≤9223372036854775807:=by omega):Yv P O F (Ak.bin .and T x y (.int .i64 i) (.int .i64 j)) (vI (a%2)):=aC fun w=>by
 cases hi.ni;cases hj.ni
 show Result.ok (Value.int .i64 (IntKind.i64.wrap ((BitVec.ofInt 64 (a:Int)&&&BitVec.ofInt 64 (1:Int)).toNat:Int))) w=_
 have e:(BitVec.ofInt 64 (a:Int)&&&BitVec.ofInt 64 (1:Int)).toNat=a%2:=by
  rw [BitVec.toNat_and,BitVec.toNat_ofInt,show (BitVec.ofInt 64 (1:Int)).toNat=1 from rfl]
  have h2:((a:Int)%((2^64:Nat):Int)).toNat=a:=by omega
  rw [h2,Nat.and_one_is_mod]
 rw [e,jO (y:=((a%2:Nat):Int)) rfl (by omega) (by omega)]
theorem vZ {P:Program} {O:List It} {F:List Pt} {T:TypeId} {x y:Operand} {i j:Int} {a:Nat} [hi:Ni i a] [hj:Ni j 7] (h:a<18446744073709551616:=by omega):Yv P O F (Ak.bin .and T x y (.int .u64 i) (.int .u64 j)) (.int .u64 ((a%8:Nat):Int)):=aC fun w=>by
 cases hi.ni;cases hj.ni
 show Result.ok (Value.int .u64 (IntKind.u64.wrap ((BitVec.ofInt IntKind.u64.bits (a:Int)&&&BitVec.ofInt IntKind.u64.bits ((7:Nat):Int)).toNat:Int))) w=_
 rw [Cf .u64 rfl h (by decide)]
 have:a&&&7=a%8:=Nat.and_two_pow_sub_one_eq_mod a 3
 rw [this]
theorem Mf {P:Program} {G:Gc} {O:List It} {F:List Pt} {C:Value→Pt} {v:Value} {k:Ak} (h:Tr G O F (C v)) (hy:Yv P O F k v:=by first | exact vi | exact vZ):Tr G O F (Rv P k C):=nK hy h
theorem eV {G:Gc} {O O':List It} {F:List Pt} {C:Pt} (b:Nat) {e:Nat} {cs:List Value} (cs':List Value) [h:Pb O b cs e O'] (he:cs=cs') (k:Tr G (iB b cs' e::O') F C):Tr G O F C:=by subst he;exact z4 _ h.pb k
instance (priority:=low) {bs ts:List UInt8} {j:Nat}:Ub (b8 bs) j (ts.flatMap cB) (b8 (spl bs j ts)) (j+ts.length≤bs.length):=⟨fun h=>by
 have:=kG (K:=cB) bs ts j h
 rw [cu,cu];simpa using this⟩
section
variable {P:Program} {G:Gc} {O O0:List It} {F:List Pt} {n N id:Nat} {ro:Option Nat} {ds:List Deferred} {σ:Fm} {ops:Array Oper} {K:Kt}
theorem dT (k:Tr G O F (HD σ (fun bs=>DwS P ro n id ops ds σ K bs) ops.toList [])):Tr G O F (Dw P ro n id ops ds σ K):=⟨fun w hp=>qk (fun _ h=>h.go) (k w hp)⟩
theorem d5 {bs:List Nat} [h:Wzs O bs O0] (hN:tV ops.toList 0=some N) (k:Tr G O F (ED P n ops (Hp G O0 F) N (K .nm ds) N [] 0 σ)) (hm:P.follows .mixedOrders=true:=by kernel_rfl) (hT:Dj ops (b7 ops) N=true:=by kernel_rfl):Tr G O F (DwS P ro n id ops ds σ K bs):=
 ⟨fun w hp=>⟨jf O0 F h.wz (fun _ h=>h) hN k hm hT w hp⟩⟩
theorem bR {l:Nat} (h:Tr G O F (K .nm ds σ)):Tr G O F (EC P ro n (.label l) ds σ K):=by
 rw [fi]
 refine ⟨fun w hp=>(?_:Wh P ro n (.label l) ds σ K w)⟩
 exact ⟨fun τ hk=>wpIn_label ⟨ds,σ,τ,rfl,hk,h w hp⟩⟩
theorem bK {c:Code} (h:Tr G O F (EC P none n c ds σ K)):Tr G O F (EC P none n (.scope c) ds σ K):=by
 rw [fi] at h
 rw [fi]
 refine ⟨fun w hp=>(?_:Wh P none n (.scope c) ds σ K w)⟩
 refine ⟨fun τ hk=> ?_⟩
 have h1:=ju c ds σ τ K w hk (h w hp)
 unfold jh at h1⊢
 refine wpIn_wide.2 (wp_scope_straight ?_)
 have h2:=wpIn_wide.1 h1
 intro b k cs
 obtain ⟨e,a,w1,hq,ha⟩:=h2 b k cs
 refine ⟨e,a,w1, ?_,ha⟩
 cases e with
 | goto l=>exact hq.elim
 | _=>exact hq
theorem ci {o:Oper} {r:List Oper} {L:Fm→Pt} {v:Value} {d:Nat} (h:Tr G O F (gd ops n ((d,v)::σ) o (B1 P n o ((d,v)::σ) (fun u=>pS (fun σ'=>ER P ops n r σ' L) ((d,v)::σ) u o.dst)) (pS (fun σ'=>ER P ops n r σ' L) ((d,v)::σ) undef o.dst))):Tr G O F (pS (fun σ'=>ER P ops n (o::r) σ' L) σ v (some d)):=by have:=aH (σ:=(d,v)::σ) h;exact this
theorem a5 {L:Fm→Pt} {v:Value} {d:Nat} (h:Tr G O F (L ((d,v)::σ))):Tr G O F (pS (fun σ'=>ER P ops n [] σ' L) σ v (some d)):=by have:=az (P:=P) (ops:=ops) (n:=n) (σ:=(d,v)::σ) (L:=L) h;exact this
end
end Go.Cz
namespace Go.Cz
open Go Go.RowKit Go.Cs
def DI.con (I:DI):Con:=fun i=>(I.vs.getD i []).map fun v=>if v.th=true then some v.b else none
theorem DI.con_top (I:DI) (i:Nat):I.con.top i=I.pv i:=by
 unfold Con.top DI.con DI.pv
 cases I.vs.getD i [] with
 | nil=>rfl
 | cons v l=>rfl
theorem DI.con_len (I:DI) (i:Nat):(I.con i).length=(I.vs.getD i []).length:=by simp [DI.con]
theorem DI.con_put {I:DI} {s nb:Nat} {v:VN} (h:I.Ok) (hs:s<I.size):(I.put s nb v).con=I.con.put s (if v.th=true then some v.b else none):=by
 funext i
 unfold Con.put DI.con
 rw [DI.put_get h hs]
 by_cases e:i=s
 ·subst e;simp
 ·rw [if_neg e,if_neg e]
theorem xY {I:DI} {i k:Nat}:s7 ((I.vs.getD i []).drop k)=((I.con i).drop k).headD none:=by
 unfold DI.con
 rw [←List.map_drop]
 cases (I.vs.getD i []).drop k with
 | nil=>rfl
 | cons v l=>rfl
structure DOk (d:SDsk) (I:DI) (sz B:Nat) (con:Con):Prop where
 ok:I.Ok
 size:I.size=sz
 cn:I.con=con
 chg:d.changes≤B
 vl:∀i,(con i).length≤B
 bl:∀i b,some b∈con i→b.length≤256
theorem Con.mem_top {con:Con} {s:Nat} {l:List UInt8} (h:con.top s=some l):some l∈con s:=by
 unfold Con.top at h
 cases hc:con s with
 | nil=>rw [hc] at h;cases h
 | cons x r=>rw [hc] at h;simp at h;subst h;exact .head _
theorem DOk.tl {d:SDsk} {I:DI} {sz B:Nat} {con:Con} (h:DOk d I sz B con) {s:Nat} {l:List UInt8} (hl:con.top s=some l):l.length≤256:=h.bl s l (Con.mem_top hl)
theorem DOk.put {d d':SDsk} {I:DI} {sz B s nb:Nat} {con:Con} {v:VN} (h:DOk d I sz B con) (hs:s<sz) (hc:d'.changes=d.changes+1) (hb:v.th=true→v.b.length≤256):
  DOk d' (I.put s nb v) sz (B+1) (con.put s (if v.th=true then some v.b else none)):=by
 refine ⟨DI.put_ok h.ok,h.size,by rw [DI.con_put h.ok (by rw [h.size];exact hs),h.cn],by have:=h.chg;omega,fun i=> ?_,fun i b hm=> ?_⟩
 ·have:=h.vl i
  unfold Con.put
  split
  ·simp;exact this
  ·omega
 ·unfold Con.put at hm
  split at hm
  ·rcases List.mem_cons.1 hm with g | g
   ·split at g
    ·rename_i ht;cases g;exact hb ht
    ·cases g
   ·exact h.bl i b g
  ·exact h.bl i b hm
end Go.Cz
namespace Go.Cz
open Go Go.RowKit Go.Cs
section
variable {P:Program} {G:Gc} {O O':List It} {F:List Pt} {C:Value→Pt} {T E ty:TypeId} {α:Type} {K:α→List Value} {z:α} {m bys n c n2 c2 b b2 A2:Nat} {t2:List α} {p q:Prop}
theorem aU {e:TypeId} {cs cs':List Value} [h:Ix P T E m none] [hz:Zk P E α K z m bys] [hK:CL K m] [hpb:Pb O b cs e O'] [hl:Lb O F K (some ⟨b2,A2,none⟩) n2 c2 t2 q] [hu:Ub cs (n*m) (t2.flatMap K) cs' p]
  (k:Tr G (iB b cs' e::O') F (C (.slice (some ⟨b,0,none⟩) (n+n2) c))) (hroom:n+n2≤c:=by omega) (hp:p:=by (repeat' (first | exact True.intro | refine And.intro ?_ ?_))<;>first | omega |(simp only [List.length_append,List.length_take,List.length_drop,List.length_replicate,List.length_set,List.length_map,List.length_nil,List.length_cons];omega)|(simp;done)|(simp;omega)) (hq:q:=by (repeat' (first | exact True.intro | refine And.intro ?_ ?_))<;>first | omega |(simp only [List.length_append,List.length_take,List.length_drop,List.length_replicate,List.length_set,List.length_map,List.length_nil,List.length_cons];omega)|(simp;done)|(simp;omega)):
  Tr G O F (Rv P (.bi .append #[T,T] ty [.slice (some ⟨b,0,none⟩) n c, .slice (some ⟨b2,A2,none⟩) n2 c2]) C):=by
 refine ⟨fun w hp0=> ?_⟩
 obtain ⟨hn2,hs2⟩:=hp0.en (hl.lb hq)
 have hp1:Hp G ([iB b cs e]++O') F w:=hp0.wk hpb.pb (fun _ h=>h)
 have hB:Blk w b cs e:=hp1.own _ (.head _)
 have hup:=hu.ub hp
 have hb:b<w.heap.size:=hB.lt
 obtain ⟨v,hE,hv⟩:=hz.zk
 obtain ⟨i,hi,hz1,hz2,hz3⟩:=info_parts hE
 subst hz2
 obtain ⟨w',h4,h5,h6⟩:=dv (P:=P) (t2.flatMap K) w b (n*i.size) 0 cs e hB (by simpa using hup.le) (fun u hu=>by
  obtain ⟨x,_,hx⟩:=List.mem_flatMap.1 hu
  exact hK.one x u hx)
 rw [Nat.add_zero,hup.sf] at h5
 have hfc:=run_firstCells_some (P:=P) w i.size n2 ⟨b2,A2,none⟩ n2 c2 (t2.flatMap K) (by rw [cZ,hn2]) (fun j u hu=>hs2.load_add hu)
 refine ⟨.slice (some ⟨b,0,none⟩) (n+n2) c,w', ?_,k w' ?_⟩
 ·simp [Ak.sem,Builtin.append_,run_underlying h.ix,sizeOf,typeInfo,hi,Builtin.lenOf,hroom,hfc,Addr.add_lit,h4]
 ·have:=Hp.step (L:= [iB b cs e]) (L':= [iB b cs' e]) (F':= []) (w':=w') hp1 (h6.mono fun k _ hk=>by subst hk;simp [iB]) (by
   intro o ho;simp only [List.mem_singleton] at ho;subst ho;exact h5) (by simp [iB]) (by
   intro k hk
   simp [iB] at hk;subst hk
   exact ⟨.inl (by simp [iB]),Nat.lt_of_lt_of_le hb h6.size⟩) (fun f hf=>by cases hf)
  simpa using this
end
end Go.Cz
namespace Go.Cz
open Go Go.RowKit Go.Cs
class Nu (b:Nat) (z:Int) (n:outParam Nat):Prop where
 nz:z=(n:Int)
 lt:n<b
instance {c:UInt8}:Nu 256 ((c.toNat:Nat):Int) c.toNat:=⟨rfl,c.toNat_lt⟩
instance {c:UInt64}:Nu 18446744073709551616 ((c.toNat:Nat):Int) c.toNat:=⟨rfl,c.toNat_lt⟩
instance {x:Cel}:Nu 18446744073709551616 ((x.ep:Nat):Int) x.ep:=⟨rfl,x.hep⟩
instance {x:Cel}:Nu 18446744073709551616 ((x.mark:Nat):Int) x.mark:=⟨rfl,x.hmk⟩
instance {l:List UInt8}:Nu 4294967296 ((d8 l 4:Nat):Int) (d8 l 4):=⟨rfl,eI l 4⟩
instance {l:List UInt8}:Nu 18446744073709551616 ((d8 l 8:Nat):Int) (d8 l 8):=⟨rfl,eI l 8⟩
section
variable {x:Rec} {e:Ent} {c:Cel} {n m:Non} {z:Nod} {y:Un} {d:Dig} {i:Int} {k:Nat}
instance [h:Nu 4294967296 i k]:Ub (cz n) 0 [.int .u32 i] (cz ⟨k,n.ct,h.lt,n.hct⟩) True:=⟨fun _=>by cases h.nz;exact ⟨[], [_], [_],rfl,rfl,rfl,rfl⟩⟩
instance [h:Nu 18446744073709551616 i k]:Ub (cz n) 1 [.int .u64 i] (cz ⟨n.sh,k,n.hsh,h.lt⟩) True:=⟨fun _=>by cases h.nz;exact ⟨[_], [_], [],rfl,rfl,rfl,rfl⟩⟩
instance [h:Nu 256 i k]:Ub (cL x) 0 [.int .u8 i] (cL ⟨k,x.non,x.tag,h.lt⟩) True:=⟨fun _=>by cases h.nz;exact ⟨[], [_],_,rfl,rfl,rfl,rfl⟩⟩
instance:Ub (cL x) 1 (cz m) (cL ⟨x.st,m,x.tag,x.hst⟩) True:=⟨fun _=>⟨[.int .u8 ((x.st:Nat):Int)],cz x.non,aE x.tag,rfl,rfl,rfl,rfl⟩⟩
instance:Ub (cL x) 3 (aE d) (cL ⟨x.st,x.non,d,x.hst⟩) True:=⟨fun _=>⟨[.int .u8 ((x.st:Nat):Int), .int .u32 ((x.non.sh:Nat):Int), .int .u64 ((x.non.ct:Nat):Int)],aE x.tag, [],(List.append_nil _).symm,rfl,by simp,(List.append_nil _).symm⟩⟩
instance [h:Nu 256 i k]:Ub (dN e) 0 [.int .u8 i] (dN ⟨k,e.dg,h.lt⟩) True:=⟨fun _=>by cases h.nz;exact ⟨[], [_],_,rfl,rfl,rfl,rfl⟩⟩
instance:Ub (dN e) 1 (aE d) (dN ⟨e.st,d,e.hst⟩) True:=⟨fun _=>⟨[.int .u8 ((e.st:Nat):Int)],aE e.dg, [],(List.append_nil _).symm,rfl,by simp,(List.append_nil _).symm⟩⟩
instance:Ub (aM c) 0 (aE d) (aM ⟨d,c.ep,c.mark,c.hep,c.hmk⟩) True:=⟨fun _=>⟨[],aE c.root,_,by simp only [aM,List.nil_append];first | rfl | simp,rfl,by simp,by simp [aM]⟩⟩
instance [h:Nu 18446744073709551616 i k]:Ub (aM c) 32 [.int .u64 i] (aM ⟨c.root,k,c.mark,h.lt,c.hmk⟩) True:=⟨fun _=>by cases h.nz;exact ⟨aE c.root, [.int .u64 ((c.ep:Nat):Int)], [.int .u64 ((c.mark:Nat):Int)],by simp [aM],by simp,rfl,by simp [aM]⟩⟩
instance [h:Nu 18446744073709551616 i k]:Ub (aM c) 33 [.int .u64 i] (aM ⟨c.root,c.ep,k,c.hep,h.lt⟩) True:=⟨fun _=>by cases h.nz;exact ⟨aE c.root++ [.int .u64 ((c.ep:Nat):Int)], [.int .u64 ((c.mark:Nat):Int)], [],by simp [aM],by simp,rfl,by simp [aM]⟩⟩
instance [h:Nu 256 i k]:Ub (a7 z) 0 [.int .u8 i] (a7 ⟨k,z.ix,z.rs,z.es,h.lt,z.hix⟩) True:=⟨fun _=>by cases h.nz;exact ⟨[], [_],_,rfl,rfl,rfl,rfl⟩⟩
instance [h:Nu 4294967296 i k]:Ub (a7 z) 1 [.int .u32 i] (a7 ⟨z.lv,k,z.rs,z.es,z.hlv,h.lt⟩) True:=⟨fun _=>by cases h.nz;exact ⟨[_], [_],_,rfl,rfl,rfl,rfl⟩⟩
end
section
variable {y:Un} {z:Nod} {i:Int} {b:Bool} {l:List Bool}
instance:Sb (br y) 0 (a7 y.nd) True:=⟨fun _=>⟨[],_,rfl,rfl⟩⟩
instance:Sb (br y) 274 [.int .i64 y.sl] True:=⟨fun _=>⟨a7 y.nd, .bool y.dt::jA y.ch,by simp [br],by simp⟩⟩
instance:Sb (br y) 275 [.bool y.dt] True:=⟨fun _=>⟨a7 y.nd++ [.int .i64 y.sl],jA y.ch,by simp [br],by simp⟩⟩
instance:Sb (br y) 276 (jA y.ch) True:=⟨fun _=>⟨a7 y.nd++ [.int .i64 y.sl, .bool y.dt], [],by simp [br],by simp⟩⟩
instance:Ub (br y) 0 (a7 z) (br ⟨z,y.sl,y.dt,y.ch,y.hch⟩) True:=⟨fun _=>⟨[],a7 y.nd,_,by simp only [br,List.nil_append];rfl,rfl,by simp,by simp [br]⟩⟩
instance:Ub (br y) 274 [.int .i64 i] (br ⟨y.nd,i,y.dt,y.ch,y.hch⟩) True:=⟨fun _=>⟨a7 y.nd, [.int .i64 y.sl], .bool y.dt::jA y.ch,by simp [br],by simp,rfl,by simp [br]⟩⟩
instance:Ub (br y) 275 [.bool b] (br ⟨y.nd,y.sl,b,y.ch,y.hch⟩) True:=⟨fun _=>⟨a7 y.nd++ [.int .i64 y.sl], [.bool y.dt],jA y.ch,by simp [br],by simp,rfl,by simp [br]⟩⟩
instance {w:Nat}:Ub (br y) (276+w*1) [.bool b] (br (y.setCh w b)) (w<4):=⟨fun h=>by
 have h1:Up (jA y.ch) (w*1) [.bool b] (jA (y.ch.set w b)):=by
  have h2:=k7 (K:=cT) (t:=y.ch) (i:=w) b (by rw [y.hch];exact h)
  have e:∀l:List Bool,l.flatMap cT=jA l:=fun l=>by induction l with | nil=>rfl | cons a l ih=>simp [cT,jA] at ih⊢;exact ih
  rw [e,e] at h2;exact h2
 have h3:Sub (br y) 276 (jA y.ch):=(inferInstance:Sb (br y) 276 (jA y.ch) True).sb trivial
 refine Gx h3 h1 ⟨a7 y.nd++ [.int .i64 y.sl, .bool y.dt],jA y.ch, [],by simp [br],by simp,by simp, ?_⟩
 simp [br,Un.setCh]⟩
end
abbrev FV:=Option (Fn×Array Value×Array Value)
def fv:FV→Value
 | none=> .nilFunc
 | some (f,a,b)=> .func f a b
theorem HC (g:FV):(fv g).cells= [fv g].toArray∧(fv g).oneCell'=true:=by
 cases g with
 | none=>exact ⟨rfl,rfl⟩
 | some p=>obtain ⟨f,a,b⟩:=p;exact ⟨rfl,rfl⟩
structure SDem where
 holds:FV
 fault:Nat
def gX (x:SDem):List Value:= [fv x.holds, .int .u8 ((x.fault:Nat):Int)]
abbrev SDem.zero:SDem:=⟨none,0⟩
instance:Inhabited SDem:=⟨SDem.zero⟩
instance:CL gX 2:=⟨fun x=>rfl,fun x u hu=>by
 simp only [gX,List.mem_cons,List.mem_nil_iff,or_false] at hu
 rcases hu with rfl | rfl
 ·exact (HC _).2
 ·rfl⟩
instance {x:SDem}:Sb (gX x) 0 [fv x.holds] True:=⟨fun _=>⟨[],_,rfl,rfl⟩⟩
instance {x:SDem}:Sb (gX x) 1 [.int .u8 ((x.fault:Nat):Int)] True:=⟨fun _=>⟨[_], [],rfl,rfl⟩⟩
instance {x:SDem} {f:Fn} {a b:Array Value}:Ub (gX x) 0 [.func f a b] (gX ⟨some (f,a,b),x.fault⟩) True:=⟨fun _=>⟨[], [_], [_],rfl,rfl,rfl,rfl⟩⟩
instance {x:SDem} {z:Int} {k:Nat} [h:Ni z k]:Ub (gX x) 1 [.int .u8 z] (gX ⟨x.holds,k⟩) True:=⟨fun _=>by cases h.ni;exact ⟨[_], [_], [],rfl,rfl,rfl,rfl⟩⟩
end Go.Cz
namespace Go.Cz
open Go Go.RowKit Go.Cs
section
variable {P:Program} {O:List It} {F:List Pt} {v:Value}
theorem y5 {a:Value} {i:Nat} (h:Yv P O F (.ext a i) v):Yv P O F (.ext a i) v:=h
theorem Ad {T:TypeId} {a:Value} {i:Nat} (h:Yv P O F (.fda T a i) v):Yv P O F (.fda T a i) v:=h
theorem Ax {T:TypeId} {a c:Value} (h:Yv P O F (.ixa T a c) v):Yv P O F (.ixa T a c) v:=h
theorem kn {T:TypeId} {x y:Operand} {a c:Value} (h:Yv P O F (.bin .add T x y a c) v):Yv P O F (.bin .add T x y a c) v:=h
theorem kJ {T:TypeId} {x y:Operand} {a c:Value} (h:Yv P O F (.bin .lss T x y a c) v):Yv P O F (.bin .lss T x y a c) v:=h
theorem mH {s:Array TypeId} {T:TypeId} {l:List Value} (h:Yv P O F (.bi .len s T l) v):Yv P O F (.bi .len s T l) v:=h
theorem kr {T:TypeId} {x y:Operand} {a c:Value} (h:Yv P O F (.bin .sub T x y a c) v):Yv P O F (.bin .sub T x y a c) v:=h
theorem j8 {T:TypeId} {x y:Operand} {a c:Value} (h:Yv P O F (.bin .eql T x y a c) v):Yv P O F (.bin .eql T x y a c) v:=h
theorem kl {T:TypeId} {x y:Operand} {a c:Value} (h:Yv P O F (.bin .neq T x y a c) v):Yv P O F (.bin .neq T x y a c) v:=h
theorem kt {T:TypeId} {x y:Operand} {a c:Value} (h:Yv P O F (.bin .geq T x y a c) v):Yv P O F (.bin .geq T x y a c) v:=h
theorem ki {T:TypeId} {x y:Operand} {a c:Value} (h:Yv P O F (.bin .leq T x y a c) v):Yv P O F (.bin .leq T x y a c) v:=h
theorem kI {T:TypeId} {x y:Operand} {a c:Value} (h:Yv P O F (.bin .gtr T x y a c) v):Yv P O F (.bin .gtr T x y a c) v:=h
theorem kw {T:TypeId} {x y:Operand} {a c:Value} (h:Yv P O F (.bin .mul T x y a c) v):Yv P O F (.bin .mul T x y a c) v:=h
theorem kM {T:TypeId} {x y:Operand} {a c:Value} (h:Yv P O F (.bin .quo T x y a c) v):Yv P O F (.bin .quo T x y a c) v:=h
theorem kK {T:TypeId} {x y:Operand} {a c:Value} (h:Yv P O F (.bin .rem T x y a c) v):Yv P O F (.bin .rem T x y a c) v:=h
theorem y0 {S T:TypeId} {a:Value} (h:Yv P O F (.cvt S T a) v):Yv P O F (.cvt S T a) v:=h
theorem mT {T:TypeId} {a:Value} (h:Yv P O F (.un .not T a) v):Yv P O F (.un .not T a) v:=h
theorem Bd {T:TypeId} {a:Value} {l r m:Option Value} (h:Yv P O F (.slc T a l r m) v):Yv P O F (.slc T a l r m) v:=h
theorem l9 {s:Array TypeId} {T:TypeId} {l:List Value} (h:Yv P O F (.bi .cap s T l) v):Yv P O F (.bi .cap s T l) v:=h
theorem mF {s:Array TypeId} {T:TypeId} {l:List Value} (h:Yv P O F (.bi .min s T l) v):Yv P O F (.bi .min s T l) v:=h
theorem zU {f:Fn} {l r:List Value} (h:Yv P O F (.mkf f l r) v):Yv P O F (.mkf f l r) v:=h
theorem AE {T:TypeId} {a:Value} (h:Yv P O F (.s2a T a) v):Yv P O F (.s2a T a) v:=h
theorem FQ {T:TypeId} {a c:Value} (h:Yv P O F (.ix T a c) v):Yv P O F (.ix T a c) v:=h
theorem BE {T:TypeId} {ps:List (Nat×Value)} (h:Yv P O F (.bld T ps) v):Yv P O F (.bld T ps) v:=h
theorem mC {T:TypeId} {a:Value} (h:Yv P O F (.un .neg T a) v):Yv P O F (.un .neg T a) v:=h
theorem kh {T:TypeId} {x y:Operand} {a c:Value} (h:Yv P O F (.bin .xor T x y a c) v):Yv P O F (.bin .xor T x y a c) v:=h
theorem kC {T:TypeId} {x y:Operand} {a c:Value} (h:Yv P O F (.bin .and T x y a c) v):Yv P O F (.bin .and T x y a c) v:=h
theorem m8 {T:TypeId} {x y:Operand} {a c:Value} (h:Yv P O F (.bin .or T x y a c) v):Yv P O F (.bin .or T x y a c) v:=h
theorem ky {T:TypeId} {x y:Operand} {a c:Value} (h:Yv P O F (.bin .shr T x y a c) v):Yv P O F (.bin .shr T x y a c) v:=h
theorem ko {T:TypeId} {x y:Operand} {a c:Value} (h:Yv P O F (.bin .shl T x y a c) v):Yv P O F (.bin .shl T x y a c) v:=h
theorem mS {T:TypeId} {a:Value} (h:Yv P O F (.un .xor T a) v):Yv P O F (.un .xor T a) v:=h
theorem ir {s:Array TypeId} {T:TypeId} {l:List Value} (h:Yv P O F (.bi .append s T l) v):Yv P O F (.bi .append s T l) v:=h
theorem zJ {op:BinOp} {T:TypeId} {x y:Operand} {a c:Value} (h:Yv P O F (.bin op T x y a c) v):Yv P O F (.bin op T x y a c) v:=h
end
section
variable {P:Program} {G:Gc} {O:List It} {F:List Pt} {C:Value→Pt} {D:Pt} {v:Value} {k:Ak}
theorem da (h:Tr G O F (C v)) (hy:Yv P O F k v:=by first |(apply y5;first | exact wt rfl)|(apply Ad;first | exact vR)|(apply Ax;first | exact qH | exact vK | exact qo (by assumption))|(apply mH;first | exact xg)|(apply y0;first | exact uO | exact w6 | exact oD | exact o9 | exact ry | exact vE | exact wx | exact vd | exact uZ)|(apply mT;first | exact wI _)|(apply Bd;first | exact vT | exact uV | exact wl | exact ux | exact wv)|(apply l9;first | exact w9)|(apply mF;first | exact uT)|(apply q_bi_max;first | exact vC)|(apply zU;first | exact vL)|(apply AE;first | exact vB)|(apply FQ;first | exact wy | exact vG)|(apply BE;first | exact xk | exact ss)|(apply mC;first | exact Dy)|(apply mS;first | exact xf | exact uq)|(apply ir;first | exact qn)|(apply zJ;first |(apply kn;first | exact zy | exact wi | exact wa | exact uE | exact rj)|(apply kJ;first | exact rH | exact qw)|(apply kr;first | exact B2 | exact vj | exact vk | exact uQ | exact vM)|(apply j8;first | exact qu | exact qy | exact wB | exact uv | exact oL | exact pE | exact uw | exact u7)|(apply kl;first | exact sk | exact sm | exact uD | exact ur | exact qg | exact qj | exact vn)|(apply kt;first | exact w7 | exact ut)|(apply ki;first | exact wA | exact vJ)|(apply kI;first | exact qq | exact qO)|(apply kw;first | exact CN | exact wC | exact uK | exact vX | exact uI)|(apply kM;first | exact CW)|(apply kK;first | exact C6 | exact DF)|(apply kh;first | exact wu | exact wO | exact v9)|(apply kC;first | exact uu | exact wg | exact qW | exact vi | exact vZ)|(apply m8;first | exact vY | exact wQ | exact we | exact uM)|(apply ky;first | exact oE | exact oY | exact pA | exact uz)|(apply ko;first | exact oP | exact pR | exact oQ | exact qf))):Tr G O F (Rv P k C):=nK hy h
theorem bU {ops:Array Oper} {m i:Nat} {O0:List It} {F0:List Pt} {G0:Gc} (h:Tr G O F (C v)) (hy:Yv P O0 F0 k v:=by first |(apply y5;first | exact wt rfl)|(apply Ad;first | exact vR)|(apply Ax;first | exact qH | exact vK | exact qo (by assumption))|(apply mH;first | exact xg)|(apply y0;first | exact uO | exact w6 | exact oD | exact o9 | exact ry | exact vE | exact wx | exact vd | exact uZ)|(apply mT;first | exact wI _)|(apply Bd;first | exact vT | exact uV | exact wl | exact ux | exact wv)|(apply l9;first | exact w9)|(apply mF;first | exact uT)|(apply q_bi_max;first | exact vC)|(apply zU;first | exact vL)|(apply AE;first | exact vB)|(apply FQ;first | exact wy | exact vG)|(apply BE;first | exact xk | exact ss)|(apply mC;first | exact Dy)|(apply mS;first | exact xf | exact uq)|(apply ir;first | exact qn)|(apply zJ;first |(apply kn;first | exact zy | exact wi | exact wa | exact uE | exact rj)|(apply kJ;first | exact rH | exact qw)|(apply kr;first | exact B2 | exact vj | exact vk | exact uQ | exact vM)|(apply j8;first | exact qu | exact qy | exact wB | exact uv | exact oL | exact pE | exact uw | exact u7)|(apply kl;first | exact sk | exact sm | exact uD | exact ur | exact qg | exact qj | exact vn)|(apply kt;first | exact w7 | exact ut)|(apply ki;first | exact wA | exact vJ)|(apply kI;first | exact qq | exact qO)|(apply kw;first | exact CN | exact wC | exact uK | exact vX | exact uI)|(apply kM;first | exact CW)|(apply kK;first | exact C6 | exact DF)|(apply kh;first | exact wu | exact wO | exact v9)|(apply kC;first | exact uu | exact wg | exact qW | exact vi | exact vZ)|(apply m8;first | exact vY | exact wQ | exact we | exact uM)|(apply ky;first | exact oE | exact oY | exact pA | exact uz)|(apply ko;first | exact oP | exact pR | exact oQ | exact qf))) (hc:gV (b7 ops) m i=true:=by kernel_rfl):Tr G O F (Dt P ops (Hp G0 O0 F0) m i (fun C=>Rv P k C) C):=AN h (An hy) hc
theorem em (h:Tr G O F (Rv P k C)):Tr G O F (Rv P k C):=h
theorem ey {T:TypeId} {a:Value} (h:Tr G O F (Rl P T a C)):Tr G O F (Rl P T a C):=h
theorem er {k:Dk} (h:Tr G O F (Ru P k D)):Tr G O F (Ru P k D):=h
theorem ck {f:Value} {l:List Value} (h:Tr G O F (Cal P f l C)):Tr G O F (Cal P f l C):=h
theorem ew {ops:Array Oper} {n:Nat} {l:List Oper} {σ:Fm} {K:Fm→Pt} (h:Tr G O F (ER P ops n l σ K)):Tr G O F (ER P ops n l σ K):=h
theorem ej {ro:Option Nat} {n:Nat} {c:Code} {ds:List Deferred} {σ:Fm} {K:Kt} (h:Tr G O F (EC P ro n c ds σ K)):Tr G O F (EC P ro n c ds σ K):=h
theorem ez {ops:Array Oper} {Cc:Pt} {m i:Nat} {D:(Value→Pt)→Pt} (h:Tr G O F (Dt P ops Cc m i D C)):Tr G O F (Dt P ops Cc m i D C):=h
theorem bw {ops:Array Oper} {m i:Nat} (h:Tr G O F (C v)) (hy:Yv P [] [] k v:=by first |(apply y5;first | exact wt rfl)|(apply Ad;first | exact vR)|(apply Ax;first | exact qH | exact vK | exact qo (by assumption))|(apply mH;first | exact xg)|(apply y0;first | exact uO | exact w6 | exact oD | exact o9 | exact ry | exact vE | exact wx | exact vd | exact uZ)|(apply mT;first | exact wI _)|(apply Bd;first | exact vT | exact uV | exact wl | exact ux | exact wv)|(apply l9;first | exact w9)|(apply mF;first | exact uT)|(apply q_bi_max;first | exact vC)|(apply zU;first | exact vL)|(apply AE;first | exact vB)|(apply FQ;first | exact wy | exact vG)|(apply BE;first | exact xk | exact ss)|(apply mC;first | exact Dy)|(apply mS;first | exact xf | exact uq)|(apply ir;first | exact qn)|(apply zJ;first |(apply kn;first | exact zy | exact wi | exact wa | exact uE | exact rj)|(apply kJ;first | exact rH | exact qw)|(apply kr;first | exact B2 | exact vj | exact vk | exact uQ | exact vM)|(apply j8;first | exact qu | exact qy | exact wB | exact uv | exact oL | exact pE | exact uw | exact u7)|(apply kl;first | exact sk | exact sm | exact uD | exact ur | exact qg | exact qj | exact vn)|(apply kt;first | exact w7 | exact ut)|(apply ki;first | exact wA | exact vJ)|(apply kI;first | exact qq | exact qO)|(apply kw;first | exact CN | exact wC | exact uK | exact vX | exact uI)|(apply kM;first | exact CW)|(apply kK;first | exact C6 | exact DF)|(apply kh;first | exact wu | exact wO | exact v9)|(apply kC;first | exact uu | exact wg | exact qW | exact vi | exact vZ)|(apply m8;first | exact vY | exact wQ | exact we | exact uM)|(apply ky;first | exact oE | exact oY | exact pA | exact uz)|(apply ko;first | exact oP | exact pR | exact oQ | exact qf))) (hc:gV (b7 ops) m i=true:=by kernel_rfl):Tr G O F (Dp P ops m i (fun C=>Rv P k C) C):=Ah h (An hy) hc
theorem ek {ops:Array Oper} {m i:Nat} {D:(Value→Pt)→Pt} (h:Tr G O F (Dp P ops m i D C)):Tr G O F (Dp P ops m i D C):=h
def vN (ops:Array Oper):Nat→List Oper→Bool
 | _, []=>true
 | k,o::r=>(iJ o || iD ops k)&&vN ops (k+1) r
theorem eY {n N id:Nat} {ro:Option Nat} {ds:List Deferred} {σ:Fm} {ops:Array Oper} {K:Kt} (hL:vN ops 0 ops.toList=true) (hN:tV ops.toList 0=some N) (k:Tr G O F (ED P n ops (Hp G O F) N (K .nm ds) N [] 0 σ)) (hm:P.follows .mixedOrders=true:=by kernel_rfl) (hT:Dj ops (b7 ops) N=true:=by kernel_rfl):Tr G O F (Dw P ro n id ops ds σ K):=GB hN k hm hT
theorem et {Cc:Pt} {ops:Array Oper} {i:Nat} {dn:List Nat} (h:Tr G O F (Dx Cc ops i dn D)):Tr G O F (Dx Cc ops i dn D):=h
theorem eo {n:Nat} {ops:Array Oper} {Cc:Pt} {N:Nat} {K:Fm→Pt} {f:Nat} {dn:List Nat} {m:Nat} {σ:Fm} (h:Tr G O F (ED P n ops Cc N K f dn m σ)):Tr G O F (ED P n ops Cc N K f dn m σ):=h
end
end Go.Cz
namespace Go.Cz
open Go Go.RowKit Go.Cs
class Rb (O:List It) (b:Nat) (R:outParam (List It)):Prop where
 rb:True
instance {b e:Nat} {cs:List Value} {O:List It}:Rb (iB b cs e::O) b O:=⟨trivial⟩
instance (priority:=low) {u:It} {b:Nat} {O R:List It} [h:Rb O b R]:Rb (u::O) b (u::R):=⟨trivial⟩
class Rbs (O:List It) (bs:List Nat) (R:outParam (List It)):Prop where
 rb:True
instance {O:List It}:Rbs O [] O:=⟨trivial⟩
instance {O R S:List It} {b:Nat} {bs:List Nat} [h:Rb O b R] [g:Rbs R bs S]:Rbs O (b::bs) S:=⟨trivial⟩
section
variable {P:Program} {ro:Option Nat} {n:Nat} {c:Code} {ds:List Deferred} {σ:Fm} {K:Kt} {G:Gc} {O R:List It} {F:List Pt} {X:Type}
theorem eA (bs:List Nat) (live:X→Fm) (q:X→Prop) (Os:X→List It) (μ:X→Nat) (x0:X) [hr:Rbs O bs R] (h0:q x0) (hl:Hs (live x0) σ) (hw:Wk O (Os x0++R))
  (round:∀x,q x→Tr G (Os x++R) F (Bl (fun fl=>Ci (fun σ'=>EC P ro n c ds σ' (fun e ds' σ''=>match e with | .nm=>Le live q (fun x=>Os x++R) μ x G F fl ds ds' σ'' | .ex i=>K (.ex i) ds' σ'' | .rt=>K .rt ds' σ'')) (live x) fl) (qx c []) [] [] σ)):
  Tr G O F (Lp P ro n c ds σ K):=dC live q (fun x=>Os x++R) μ x0 h0 hl hw round
end
instance (priority:=low) {P:Program} {T E n m bys:Nat} {α:Type} {K:α→List Value} {z:α} {xs:List α} {ps:List (Nat×Value)} [h:Ix P T E m none] [hk:Zk P E α K z m bys] [hK:CL K m] [hp:Pw K ps 0 m xs]:Nb P (.bls T n ps) (xs.flatMap K) E (fun b=> .slice (some ⟨b,0,none⟩) n n) (xs.length=n∧0<n∧0<m∧n*m≤16777216):=⟨fun ⟨h1,h2,h4,h3⟩ w=>by
 obtain ⟨v,h5,h6⟩:=hk.zk
 obtain ⟨ie,hie,he⟩:=Option.map_eq_some_iff.1 h5
 simp only [Prod.mk.injEq] at he
 exact wo h.ix ⟨v,by rw [hie];simp [he.1,he.2.1]⟩ hp.pw (by rw [cZ,h1]) (Nat.mul_pos h2 h4) h3⟩
theorem dJ {P:Program} {G:Gc} {O O':List It} {F:List Pt} {C:Value→Pt} {b e:Nat} {cs:List Value} {f:FuncId} {first cap:Array Value} {args:List Value} {X:Type} {q:X→Prop} {r:X→Value} {Oo:X→List It} {Fo:X→List Pt} {Fi:List Pt} (hs:Zp P f (first.toList++args++cap.toList) [iB b cs e] Fi X q r Oo Fo) [hpb:Pb O b cs e O'] (h:∀x,q x→Tr G (Oo x++O') (Fo x++F) (C (r x)))
  (hF:∀g∈Fi,En [] F g:=by (repeat' (first | exact oI | refine DA ?_ ?_))<;>first | exact Ef.ef | exact Gq.gq | exact Lb.lb (by (repeat' (first | exact True.intro | refine And.intro ?_ ?_))<;>first | omega |(simp only [List.length_append,List.length_take,List.length_drop,List.length_replicate,List.length_set,List.length_map,List.length_nil,List.length_cons];omega)|(simp;done)|(simp;omega))| exact Pb2.pb (by (repeat' (first | exact True.intro | refine And.intro ?_ ?_))<;>first | omega |(simp only [List.length_append,List.length_take,List.length_drop,List.length_replicate,List.length_set,List.length_map,List.length_nil,List.length_cons];omega)|(simp;done)|(simp;omega))):Tr G O F (Cal P (.func (.func f) first cap) args C):=
 z4 _ hpb.pb (wV (O:=O') (Oi:= [iB b cs e]) hs hF h rfl)
theorem aS {P:Program} {G:Gc} {O O':List It} {F:List Pt} {C:Value→Pt} {n D l:Nat} {σ:Fm} {ps:Array Tmp} {assign body:Code} [h:Pl O l (iL D l n σ ps assign body .busy none) O'] (k:Tr G (iL D l n σ ps assign body .ready none::O') F (C (.bool true))):Tr G O F (Er P l none C):=bE (j:=none) k
end Go.Cz
