/- Lemmas and walks: what each function does, by its own code. No condition beyond those of each statement. -/
import Derived.Test.YtbobhnldhpjdlaaGreatDoorP5
import Derived.Test.YtbobhnldhpjdlaaGreatDoorP6
import Derived.Scope
set_option linter.all false
set_option linter.unusedVariables false
namespace Go.Cz
open Go Go.RowKit Go.Cs
section
variable {P:Program} {G:Gc} {O O':List It} {F:List Pt} {C:Value→Pt} {D:Pt} {T E:TypeId} {x y:Operand} {m n c b e:Nat} {a:Option Addr} {cs:List Value} {α:Type} {K:α→List Value} {l:List α} {p:Prop}
instance [h:Ix P T E m none] [hz:Sz P E m false]:Nb P (.bls T 0 []) [] E (fun b=> .slice (some ⟨b,0,none⟩) 0 0) True:=⟨fun _ w=>by
 have h1:=h.ix
 have h2:=Cs.run_sizeOf (P:=P) (w:=w) h.sz
 simp [Ak.sem,Instr.buildSlice,run_underlying h1,h2,Instr.fill,newRow];congr 2;apply Array.ext';simp⟩
instance (priority:=high):Pn (iB b [] e::O) K m (some ⟨b,0,none⟩) 0 0 e [] O True:=⟨fun _=>r3 O (by simp [iN,iB]) (fun w hB=>by
 have hB':Blk w b [] e:=hB
 refine ⟨rfl,by simp, .inr ⟨b,0, #[],rfl,Nat.zero_le _,hB',Nat.le_refl _,by simp [maxLen],by simp,by simp⟩⟩)⟩
instance (priority:=high) {l t:List α} [hK:CL K m]:Ub (l.flatMap K) 0 (t.flatMap K) (t.flatMap K) (l.length=t.length):=⟨fun h=>Bq (by rw [b8,b8,h])⟩
instance {l:List (Option Addr)} {i:Nat}:Ub (l.flatMap cP) (i*1) [.pointer a] ((l.set i a).flatMap cP) (i<l.length):=⟨fun h=>j6 (K:=cP) a h⟩
instance {l:List Nat} {i y:Nat} {z:Int} [h:Ni z y]:Ub (l.flatMap cI) (i*1) [.int .i64 z] ((l.set i y).flatMap cI) (i<l.length):=⟨fun hi=>by rw [h.ni];exact j6 (K:=cI) y hi⟩
instance {l:List UInt64} {i:Nat} {y:UInt64}:Ub (l.flatMap cQ) (i*1) [.int .u64 (y.toNat:Int)] ((l.set i y).flatMap cQ) (i<l.length):=⟨fun h=>j6 (K:=cQ) y h⟩
instance {l:List UInt8} {i:Nat} {y:UInt8}:Ub (l.flatMap cB) (i*1) [.int .u8 (y.toNat:Int)] ((l.set i y).flatMap cB) (i<l.length):=⟨fun h=>j6 (K:=cB) y h⟩
def Bk (b:Nat) (cs:List Value):Pt:=fun w=>At w b 0 cs
instance:Ab O (Bk b cs::F) b 0 cs True:=⟨fun _ w _ h=>h _ (.head _)⟩
theorem eK (b n c:Nat) [hpb:Pb O b cs e O'] [hf:Fb cs K l] (k:Tr G O' (Sl K (some ⟨b,0,none⟩) n c l::F) D) (hn:n=l.length∧n≤c∧c≤9223372036854775807:=by (repeat' (first | exact True.intro | refine And.intro ?_ ?_))<;>first | omega |(simp only [List.length_append,List.length_take,List.length_drop,List.length_replicate,List.length_set,List.length_map,List.length_nil,List.length_cons];omega)|(simp;done)|(simp;omega)):Tr G O F D:=by
 refine qV _ hpb.pb ?_
 refine qc (L:= [iB b cs e]) [Sl K (some ⟨b,0,none⟩) n c l] ?_ k
 intro f hf'
 simp only [List.mem_singleton] at hf'
 subst hf'
 refine yY ?_ hn.1 hn.2.1 hn.2.2
 rw [←hf.fm]
 exact LN
theorem bG (b:Nat) [hpb:Pb O b cs e O'] (k:Tr G O' (Bk b cs::F) D):Tr G O F D:=by
 refine qV _ hpb.pb ?_
 refine qc (L:= [iB b cs e]) [Bk b cs] ?_ k
 intro f hf'
 simp only [List.mem_singleton] at hf'
 subst hf'
 exact LN
theorem eE {t:List α} (K:α→List Value) (a:Option Addr) (n c:Nat) [hpn:Pn O K m a n c e t O' p] (k:Tr G O' (Sl K a n c t::F) D) (hp:p:=by (repeat' (first | exact True.intro | refine And.intro ?_ ?_))<;>first | omega |(simp only [List.length_append,List.length_take,List.length_drop,List.length_replicate,List.length_set,List.length_map,List.length_nil,List.length_cons];omega)|(simp;done)|(simp;omega)):Tr G O F D:=by
 refine qV _ (hpn.pn hp) ?_
 refine qc (L:= [iN K m a n c e t]) [Sl K a n c t] ?_ k
 intro f hf'
 simp only [List.mem_singleton] at hf'
 subst hf'
 intro w h1 h2
 have hA:=h1 _ (.head _)
 obtain ⟨g2,g3,g4 |⟨g,c',cur,g4,g5,g6,g7,g8,g9,g10⟩⟩:=hA
 ·cases g4.1
  have ht:t= []:=List.eq_nil_of_length_eq_zero g2.symm
  subst ht
  exact ⟨rfl,rfl,rfl,rfl⟩
 ·cases g4
  refine yY (O:= [iN K m (some ⟨g,0,none⟩) n c e t]) (F:=F) ((inferInstance:Ab [iN K m (some ⟨g,0,none⟩) n c e t] F g 0 (t.flatMap K) True).ab trivial) g2 g7 (by simpa [maxLen] using g8) w h1 h2
end
theorem vO {α:Type} {K:α→List Value} {a:Option Addr} {n c:Nat} {t:List α} {w:World} (h:Sl K a n c t w):Sl K a n n t w:=by
 obtain ⟨h1,h2⟩:=h
 refine ⟨h1, ?_⟩
 cases a with
 | none=>exact ⟨h2.1,h2.1,h2.2.2⟩
 | some ad=>exact ⟨Nat.le_refl _,Nat.le_trans h2.1 h2.2.1,h2.2.2⟩
theorem je {α:Type} {K:α→List Value} {G:Gc} {O:List It} {F:List Pt} {C:Pt} {a:Option Addr} {n c:Nat} {t:List α} (i:Nat) (k:Tr G O (Sl K a n n t::F) C) (hF:F[i]? =some (Sl K a n c t):=by rfl):Tr G O F C:=
 aR _ (fun w _ h=>vO (h _ (List.mem_of_getElem? hF))) k
structure VN where
 blk:Nat
 sb:Sv
 th:Bool
 b:List UInt8
def vptr:List VN→Option Addr
 | []=>none
 | v::_=>some ⟨v.blk,0,none⟩
abbrev vcel (v:VN) (l:List VN):SVer:=⟨v.th,v.sb,l.length+1,vptr l⟩
def Vm:List VN→Pt
 | []=>fun _=>True
 | v::l=>fun w=>At w v.blk 0 (bU (vcel v l))∧Sl cB v.sb.1 v.sb.2.1 v.sb.2.2 v.b w∧Vm l w
theorem Vm.drop {w:World}:∀{l:List VN} (k:Nat),Vm l w→Vm (l.drop k) w
 | l,0,h=>h
 | [],k+1,h=>h
 | v::l,k+1,h=>Vm.drop (l:=l) k h.2.2
structure DI where
 size:Nat
 ch:List Nat
 vs:List (List VN)
def ja (b:Nat):Option Addr:=some ⟨b,0,none⟩
@[irreducible] def DI.cs (I:DI) (k:Nat):List (Option Addr):=((I.vs.drop (64*k)).take 64).map vptr
structure DI.Ok (I:DI):Prop where
 s1:1≤I.size
 s2:I.size≤10922
 cl:I.ch.length=(I.size+63)/64
 vl:I.vs.length=64*I.ch.length
def Dm (d:SDsk) (I:DI):Pt:=fun w=>d.size=I.size∧Sl cP d.chunks.1 d.chunks.2.1 d.chunks.2.2 (I.ch.map ja) w∧(∀k,k<I.ch.length→At w (I.ch.getD k 0) 0 ((I.cs k).flatMap cP))∧∀i,Vm (I.vs.getD i []) w
theorem DI.cs_get {I:DI} (h:I.Ok) {s:Nat} (hs:s<I.size):(I.cs (s/64)).getD (s%64) default=vptr (I.vs.getD s []):=by
 have h1:=h.vl
 have h2:=h.cl
 simp only [DI.cs,List.getD,List.getElem?_map,List.getElem?_take,List.getElem?_drop,if_pos (Nat.mod_lt s (show 0<64 by decide))]
 rw [show 64*(s/64)+s%64=s by omega,List.getElem?_eq_getElem (by omega)]
 rfl
theorem DI.ch_get {I:DI} (h:I.Ok) {s:Nat} (hs:s<I.size):(I.ch.map ja).getD (s/64) default=some ⟨I.ch.getD (s/64) 0,0,none⟩:=by
 have h2:=h.cl
 simp only [List.getD,List.getElem?_map]
 rw [List.getElem?_eq_getElem (by omega)]
 rfl
theorem DI.cs_len {I:DI} (h:I.Ok) {k:Nat} (hk:k<I.ch.length):(I.cs k).length=64:=by
 have h1:=h.vl
 simp only [DI.cs,List.length_map,List.length_take,List.length_drop];omega
def sw:List VN→Option (List UInt8)
 | []=>none
 | v::_=>if v.th then some v.b else none
abbrev DI.pv (I:DI) (i:Nat):Option (List UInt8):=sw (I.vs.getD i [])
def DI.put (I:DI) (s nb:Nat) (v:VN):DI:={I with ch:=I.ch.set (s/64) nb,vs:=I.vs.set s (v::I.vs.getD s [])}
theorem DI.put_ok {I:DI} {s nb:Nat} {v:VN} (h:I.Ok):(I.put s nb v).Ok:=⟨h.s1,h.s2,by simp [DI.put,h.cl],by simp [DI.put,h.vl]⟩
theorem DI.put_get {I:DI} {s nb i:Nat} {v:VN} (h:I.Ok) (hs:s<I.size):(I.put s nb v).vs.getD i []=if i=s then v::I.vs.getD s [] else I.vs.getD i []:=by
 have h1:=h.vl
 have h2:=h.cl
 simp only [DI.put,List.getD,List.getElem?_set]
 by_cases e:i=s
 ·subst e;simp [show i<I.vs.length by omega]
 ·rw [if_neg (Ne.symm e),if_neg e]
theorem DI.put_cs {I:DI} {s nb k:Nat} {v:VN} (h:I.Ok) (hs:s<I.size):(I.put s nb v).cs k=if k=s/64 then (I.cs k).set (s%64) (ja v.blk) else I.cs k:=by
 have h1:=h.vl
 have h2:=h.cl
 apply List.ext_getElem?
 intro j
 have e:((I.put s nb v).cs k)[j]? =if j<64 then (if 64*k+j=s then some (ja v.blk) else (I.vs[64*k+j]?).map vptr) else none:=by
  simp only [DI.cs,DI.put,List.getElem?_map,List.getElem?_take,List.getElem?_drop]
  by_cases hj:j<64
  ·rw [if_pos hj,if_pos hj,List.getElem?_set]
   by_cases hs2:s=64*k+j
   ·rw [if_pos hs2,if_pos hs2.symm,if_pos (by omega)];rfl
   ·rw [if_neg hs2,if_neg (Ne.symm hs2)]
  ·rw [if_neg hj,if_neg hj];rfl
 have e2:(I.cs k)[j]? =if j<64 then (I.vs[64*k+j]?).map vptr else none:=by
  simp only [DI.cs,List.getElem?_map,List.getElem?_take,List.getElem?_drop]
  by_cases hj:j<64
  ·rw [if_pos hj,if_pos hj]
  ·rw [if_neg hj,if_neg hj];rfl
 rw [e]
 by_cases hk:k=s/64
 ·rw [if_pos hk,List.getElem?_set]
  have hl:s%64<(I.cs k).length:=by simp only [DI.cs,List.length_map,List.length_take,List.length_drop];omega
  by_cases hj:s%64=j
  ·rw [if_pos hj,if_pos hl,if_pos (by omega),if_pos (by omega)]
  ·rw [if_neg hj,e2]
   by_cases hj2:j<64
   ·rw [if_pos hj2,if_pos hj2,if_neg (by omega)]
   ·rw [if_neg hj2,if_neg hj2]
 ·rw [if_neg hk,e2]
  by_cases hj2:j<64
  ·rw [if_pos hj2,if_pos hj2,if_neg (by omega)]
  ·rw [if_neg hj2,if_neg hj2]
theorem Dm.put {d d':SDsk} {I:DI} {s nb vb:Nat} {th:Bool} {sv:Sv} {l:List UInt8} {w:World} (hI:I.Ok) (hs:s<I.size) (h:Dm d I w) (hd:d'.size=d.size) (h1:Sl cP d'.chunks.1 d'.chunks.2.1 d'.chunks.2.2 ((I.ch.map ja).set (s/64) (ja nb)) w)
  (h2:At w nb 0 (((I.cs (s/64)).set (s%64) (ja vb)).flatMap cP)) (h3:At w vb 0 (bU ⟨th,sv,(I.vs.getD s []).length+1,vptr (I.vs.getD s [])⟩)) (h4:Sl cB sv.1 sv.2.1 sv.2.2 l w):Dm d' (I.put s nb ⟨vb,sv,th,l⟩) w:=by
 obtain ⟨g1,g2,g3,g4⟩:=h
 have hcl:=hI.cl
 refine ⟨hd.trans g1, ?_, ?_, ?_⟩
 ·have e:((I.put s nb ⟨vb,sv,th,l⟩).ch.map ja)=(I.ch.map ja).set (s/64) (ja nb):=by simp [DI.put,List.map_set]
  rw [e];exact h1
 ·intro k hk
  rw [DI.put_cs hI hs]
  by_cases e:k=s/64
  ·subst e
   have e2:(I.put s nb ⟨vb,sv,th,l⟩).ch.getD (s/64) 0=nb:=by
    simp [DI.put,List.getD,List.getElem?_set,show s/64<I.ch.length by omega]
   rw [if_pos rfl,e2];exact h2
  ·have e2:(I.put s nb ⟨vb,sv,th,l⟩).ch.getD k 0=I.ch.getD k 0:=by
    simp only [DI.put,List.getD,List.getElem?_set];rw [if_neg (Ne.symm e)]
   rw [if_neg e,e2];exact g3 k (by simpa [DI.put] using hk)
 ·intro i
  rw [DI.put_get hI hs]
  by_cases e:i=s
  ·subst e;rw [if_pos rfl];exact ⟨h3,h4,g4 i⟩
  ·rw [if_neg e];exact g4 i
theorem rk {α:Type} {K:α→List Value} {b A n c:Nat} {t:List α} {w:World} (h:At w b A (t.flatMap K)) (hn:n=t.length) (hc:n≤c) (hm:c≤9223372036854775807):Sl K (some ⟨b,A,none⟩) n c t w:=by
 refine ⟨hn,hc,by simpa [maxLen] using hm, ?_⟩
 cases hv:t.flatMap K with
 | nil=>exact .inl rfl
 | cons v vs=>
  rw [hv] at h
  have hb:=World.block_lt_of_cell? w _ (h 0 v rfl)
  exact .inr ⟨rfl,Nat.zero_le _,hb,hb,h⟩
theorem G8 {G:Gc} {O:List It} {F:List Pt} {C:Pt} (f:Pt) (hf:∀w,(∀o∈O,o.A w)→(∀f∈F,f w)→f w) (h:Tr G [] (f::F) C):Tr G O F C:=by
 have:=qc (L:=O) (O:= []) (F:=F) [f] (fun g hg=>by simp only [List.mem_singleton] at hg;subst hg;exact hf) h
 simpa using this
theorem GA {O:List It} {b e:Nat} {cs:List Value} {w:World} (h1:∀o∈O,o.A w) (hm:iB b cs e∈O):At w b 0 cs:=Blk.all (h1 _ hm)
end Go.Cz
namespace Go.Cz
open Go Go.RowKit Go.Cs
structure DwS (P:Program) (ro:Option Nat) (n:Nat) (id:Nat) (ops:Array Oper) (ds:List Deferred) (σ:Fm) (K:Kt) (bs:List Nat) (w:World):Prop where
 go:Dw P ro n id ops ds σ K w
def Ka (C:Option Value→Pt) (t:Nat):Fm→Pt
 | []=>C none
 |(k,v)::r=>bif Nat.beq k t then C (some v) else Ka C t r
def Mq (C:List Nat→Pt) (acc:List Nat):Option Value→Pt
 | some (.pointer (some a))=>C (a.block::acc)
 | _=>C acc
def Mo (o:Oper):Option Nat:=match o.op with
 | .store _ (.tmp t) _=>some t
 | _=>none
def J3 (σ:Fm) (C:List Nat→Pt):List Oper→List Nat→Pt
 | [],acc=>C acc
 | [_],acc=>C acc
 | o::q::r,acc=>match Mo o with
  | some t=>Ka (Mq (fun acc=>J3 σ C (q::r) acc) acc) t σ
  | none=>J3 σ C (q::r) acc
theorem BX {C:Option Value→Pt} {t:Nat} {w:World}:∀{σ:Fm},Ka C t σ w→∃v,C v w
 | [],h=>⟨_,h⟩
 |(k,v)::r,h=>by
  simp only [Ka] at h
  cases hb:Nat.beq k t with
  | true=>simp only [hb,cond_true] at h;exact ⟨_,h⟩
  | false=>simp only [hb,cond_false] at h;exact BX h
theorem oG {σ:Fm} {C:List Nat→Pt} {D:Pt} {w:World} (hC:∀l,C l w→D w):∀{l:List Oper} {acc:List Nat},J3 σ C l acc w→D w
 | [],acc,h=>hC _ h
 | [_],acc,h=>hC _ h
 | o::q::r,acc,h=>by
  unfold J3 at h
  cases ht:Mo o with
  | some t=>
   simp only [ht] at h
   obtain ⟨v,hv⟩:=BX h
   unfold Mq at hv
   split at hv
   ·exact oG hC hv
   ·exact oG hC hv
  | none=>simp only [ht] at h;exact oG hC h
class Wz1 (O:List It) (b:Nat) (O':outParam (List It)):Prop where
 wz:Wk O O'
instance {b e:Nat} {cs:List Value} {O:List It}:Wz1 (iB b cs e::O) b (iU b::O):=⟨aG inferInstance (ar _)⟩
instance (priority:=low) {u:It} {b:Nat} {O O':List It} [h:Wz1 O b O']:Wz1 (u::O) b (u::O'):=⟨gF u h.wz⟩
instance (priority:=low) {b:Nat}:Wz1 [] b []:=⟨ar _⟩
class Wzs (O:List It) (bs:List Nat) (O':outParam (List It)):Prop where
 wz:Wk O O'
instance {O:List It}:Wzs O [] O:=⟨ar _⟩
instance {O O1 O2:List It} {b:Nat} {bs:List Nat} [h:Wz1 O b O1] [g:Wzs O1 bs O2]:Wzs O (b::bs) O2:=⟨cZ h.wz g.wz⟩
class Pit (O:List It) (u:It) (O':outParam (List It)):Prop where
 pit:Pk O u O'
instance {u:It} {O:List It}:Pit (u::O) u O:=⟨CB _ _⟩
instance (priority:=low) {u v:It} {O O':List It} [h:Pit O u O']:Pit (v::O) u (v::O'):=⟨Cw h.pit⟩
theorem aX {O O1 O':List It} {u:It} [h:Pit O u O1] (hk:Wk O1 O'):Wk O (u::O'):=IQ h.pit hk
theorem Sl.at_ {α:Type} {K:α→List Value} {b o n c:Nat} {t:List α} {w:World} (h:Sl K (some ⟨b,o,none⟩) n c t w):At w b o (t.flatMap K):=eN.at h.2
def iS {α:Type} (K:α→List Value) (b o n c:Nat) (t:List α):It:=⟨[b],fun w=>Sl K (some ⟨b,o,none⟩) n c t w,fun w w' hk h=>by
 have hh:=hk b (by simp)
 obtain ⟨h1,h2,h3,h4⟩:=h
 refine ⟨h1,h2,h3, ?_⟩
 rcases h4 with h4 |⟨h4,h5,h6,h7,h8⟩
 ·exact .inl h4
 ·have hb:b<w'.heap.size:=by
   have:(w'.heap[b]?).isSome:=by rw [hh];simp [show b<w.heap.size from h6]
   simpa using this
  refine .inr ⟨h4,h5,hb,hb,fun i v hv=> ?_⟩
  have:=h8 i v hv
  unfold World.cell? at this⊢
  simp only at this⊢
  rw [hh];exact this⟩
instance {α:Type} {K:α→List Value} {b o n c:Nat} {t:List α} {O:List It} {F:List Pt}:Lb (iS K b o n c t::O) F K (some ⟨b,o,none⟩) n c t True:=⟨fun _ w h1 _=>h1 _ (.head _)⟩
instance (priority:=low) {α:Type} {K:α→List Value} {a:Option Addr} {n c:Nat} {t:List α} {u:It} {O:List It} {F:List Pt} {p:Prop} [h:Lb O F K a n c t p]:Lb (u::O) F K a n c t p:=⟨fun hp=>My (h.lb hp)⟩
theorem L4 {α:Type} {K:α→List Value} {b e n c:Nat} {cs:List Value} {t:List α} {O O1 O':List It} [h:Pb O b cs e O1] (hs:∀w,At w b 0 cs→Sl K (some ⟨b,0,none⟩) n c t w) (hk:Wk O1 O'):Wk O (iS K b 0 n c t::O'):=
 cZ h.pb (cZ (r3 (o:=iB b cs e) (o':=iS K b 0 n c t) O1 rfl (fun w hB=>hs w (Blk.all hB))) (gF _ hk))
theorem vo {P:Program} {O:List It} {F:List Pt} {T:TypeId} {x y:Operand} {i j:Int} {a:Nat} [hi:Ni i a] [hj:Ni j 1] (h:a≤9223372036854775807:=by omega):Yv P O F (Ak.bin .and T x y (.int .i64 i) (.int .i64 j)) (vI (a%2)):=aC fun w=>by
 cases hi.ni;cases hj.ni
 show Result.ok (Value.int .i64 (IntKind.i64.wrap ((BitVec.ofInt 64 (a:Int)&&&BitVec.ofInt 64 (1:Int)).toNat:Int))) w=_
 have e:(BitVec.ofInt 64 (a:Int)&&&BitVec.ofInt 64 (1:Int)).toNat=a%2:=by
  rw [BitVec.toNat_and,BitVec.toNat_ofInt,show (BitVec.ofInt 64 (1:Int)).toNat=1 from rfl]
  have h2:((a:Int)%((2^64:Nat):Int)).toNat=a:=by omega
  rw [h2,Nat.and_one_is_mod]
 rw [e,jz (y:=((a%2:Nat):Int)) rfl (by omega) (by omega)]
theorem vC {P:Program} {O:List It} {F:List Pt} {T:TypeId} {x y:Operand} {i j:Int} {a:Nat} [hi:Ni i a] [hj:Ni j 7] (h:a<18446744073709551616:=by omega):Yv P O F (Ak.bin .and T x y (.int .u64 i) (.int .u64 j)) (.int .u64 ((a%8:Nat):Int)):=aC fun w=>by
 cases hi.ni;cases hj.ni
 show Result.ok (Value.int .u64 (IntKind.u64.wrap ((BitVec.ofInt IntKind.u64.bits (a:Int)&&&BitVec.ofInt IntKind.u64.bits ((7:Nat):Int)).toNat:Int))) w=_
 rw [DJ .u64 rfl h (by decide)]
 have:a&&&7=a%8:=Nat.and_two_pow_sub_one_eq_mod a 3
 rw [this]
theorem fL {G:Gc} {O O':List It} {F:List Pt} {C:Pt} (b:Nat) {e:Nat} {cs:List Value} (cs':List Value) [h:Pb O b cs e O'] (he:cs=cs') (k:Tr G (iB b cs' e::O') F C):Tr G O F C:=by subst he;exact qV _ h.pb k
instance (priority:=low) {bs ts:List UInt8} {j:Nat}:Ub (bE bs) j (ts.flatMap cB) (bE (spl bs j ts)) (j+ts.length≤bs.length):=⟨fun h=>by
 have:=kn (K:=cB) bs ts j h
 rw [bL,bL];simpa using this⟩
section
variable {P:Program} {G:Gc} {O O0:List It} {F:List Pt} {n N id:Nat} {ro:Option Nat} {ds:List Deferred} {σ:Fm} {ops:Array Oper} {K:Kt}
theorem bh (k:Tr G O F (J3 σ (fun bs=>DwS P ro n id ops ds σ K bs) ops.toList [])):Tr G O F (Dw P ro n id ops ds σ K):=⟨fun w hp=>oG (fun _ h=>h.go) (k w hp)⟩
theorem bc {bs:List Nat} [h:Wzs O bs O0] (hN:uj ops.toList 0=some N) (k:Tr G O F (ED P n ops (Hp G O0 F) N (K .nm ds) N [] 0 σ)) (hm:P.follows .mixedOrders=true:=by kernel_rfl) (hT:CT ops (bw ops) N=true:=by kernel_rfl):Tr G O F (DwS P ro n id ops ds σ K bs):=
 ⟨fun w hp=>⟨gM O0 F h.wz (fun _ h=>h) hN k hm hT w hp⟩⟩
theorem fH {l:Nat} (h:Tr G O F (K .nm ds σ)):Tr G O F (EC P ro n (.label l) ds σ K):=by
 rw [et]
 refine ⟨fun w hp=>(?_:Wh P ro n (.label l) ds σ K w)⟩
 exact ⟨fun τ hk=>wpIn_label ⟨ds,σ,τ,rfl,hk,h w hp⟩⟩
theorem fE {c:Code} (h:Tr G O F (EC P none n c ds σ K)):Tr G O F (EC P none n (.scope c) ds σ K):=by
 rw [et] at h
 rw [et]
 refine ⟨fun w hp=>(?_:Wh P none n (.scope c) ds σ K w)⟩
 refine ⟨fun τ hk=> ?_⟩
 have h1:=jf c ds σ τ K w hk (h w hp)
 unfold i4 at h1⊢
 refine wpIn_wide.2 (wp_scope_straight ?_)
 have h2:=wpIn_wide.1 h1
 intro b k cs
 obtain ⟨e,a,w1,hq,ha⟩:=h2 b k cs
 refine ⟨e,a,w1, ?_,ha⟩
 cases e with
 | goto l=>exact hq.elim
 | _=>exact hq
theorem gC {o:Oper} {r:List Oper} {L:Fm→Pt} {v:Value} {d:Nat} (h:Tr G O F (gd ops n ((d,v)::σ) o (B8 P n o ((d,v)::σ) (fun u=>pD (fun σ'=>ER P ops n r σ' L) ((d,v)::σ) u o.dst)) (pD (fun σ'=>ER P ops n r σ' L) ((d,v)::σ) undef o.dst))):Tr G O F (pD (fun σ'=>ER P ops n (o::r) σ' L) σ v (some d)):=by have:=cu (σ:=(d,v)::σ) h;exact this
theorem dO {L:Fm→Pt} {v:Value} {d:Nat} (h:Tr G O F (L ((d,v)::σ))):Tr G O F (pD (fun σ'=>ER P ops n [] σ' L) σ v (some d)):=by have:=bD (P:=P) (ops:=ops) (n:=n) (σ:=(d,v)::σ) (L:=L) h;exact this
end
end Go.Cz
