/- Lemmas and walks: what each function does, by its own code. No condition beyond those of each statement. -/
import Derived.Test.YtbobhnldhpjdlaaGreatDoorP7
import Derived.Test.YtbobhnldhpjdlaaGreatDoorP9
set_option linter.all false
set_option linter.unusedVariables false
namespace Go.Cz
open Go Go.RowKit Go.Cs
def DI.con (I:DI):Con:=fun i=>(I.vs.getD i []).map fun v=>if v.th=true then some v.b else none
theorem DI.con_top (I:DI) (i:Nat):I.con.top i=I.pv i:=by
 unfold Con.top DI.con DI.pv
 cases I.vs.getD i [] with
 | nil=>rfl
 | cons v l=>rfl
theorem DI.con_len (I:DI) (i:Nat):(I.con i).length=(I.vs.getD i []).length:=by simp [DI.con]
theorem DI.con_put {I:DI} {s nb:Nat} {v:VN} (h:I.Ok) (hs:s<I.size):(I.put s nb v).con=I.con.put s (if v.th=true then some v.b else none):=by
 funext i
 unfold Con.put DI.con
 rw [DI.put_get h hs]
 by_cases e:i=s
 ·subst e;simp
 ·rw [if_neg e,if_neg e]
theorem Ho {I:DI} {i k:Nat}:sw ((I.vs.getD i []).drop k)=((I.con i).drop k).headD none:=by
 unfold DI.con
 rw [←List.map_drop]
 cases (I.vs.getD i []).drop k with
 | nil=>rfl
 | cons v l=>rfl
structure DOk (d:SDsk) (I:DI) (sz B:Nat) (con:Con):Prop where
 ok:I.Ok
 size:I.size=sz
 cn:I.con=con
 chg:d.changes≤B
 vl:∀i,(con i).length≤B
 bl:∀i b,some b∈con i→b.length≤256
theorem Con.mem_top {con:Con} {s:Nat} {l:List UInt8} (h:con.top s=some l):some l∈con s:=by
 unfold Con.top at h
 cases hc:con s with
 | nil=>rw [hc] at h;cases h
 | cons x r=>rw [hc] at h;simp at h;subst h;exact .head _
theorem DOk.tl {d:SDsk} {I:DI} {sz B:Nat} {con:Con} (h:DOk d I sz B con) {s:Nat} {l:List UInt8} (hl:con.top s=some l):l.length≤256:=h.bl s l (Con.mem_top hl)
theorem DOk.put {d d':SDsk} {I:DI} {sz B s nb:Nat} {con:Con} {v:VN} (h:DOk d I sz B con) (hs:s<sz) (hc:d'.changes=d.changes+1) (hb:v.th=true→v.b.length≤256):
  DOk d' (I.put s nb v) sz (B+1) (con.put s (if v.th=true then some v.b else none)):=by
 refine ⟨DI.put_ok h.ok,h.size,by rw [DI.con_put h.ok (by rw [h.size];exact hs),h.cn],by have:=h.chg;omega,fun i=> ?_,fun i b hm=> ?_⟩
 ·have:=h.vl i
  unfold Con.put
  split
  ·simp;exact this
  ·omega
 ·unfold Con.put at hm
  split at hm
  ·rcases List.mem_cons.1 hm with g | g
   ·split at g
    ·rename_i ht;cases g;exact hb ht
    ·cases g
   ·exact h.bl i b g
  ·exact h.bl i b hm
end Go.Cz
namespace Go.Cz
open Go Go.RowKit Go.Cs
section
variable {P:Program} {G:Gc} {O O':List It} {F:List Pt} {C:Value→Pt} {T E ty:TypeId} {α:Type} {K:α→List Value} {z:α} {m bys n c n2 c2 b b2 A2:Nat} {t2:List α} {p q:Prop}
theorem dp {e:TypeId} {cs cs':List Value} [h:Ix P T E m none] [hz:Zk P E α K z m bys] [hK:CL K m] [hpb:Pb O b cs e O'] [hl:Lb O F K (some ⟨b2,A2,none⟩) n2 c2 t2 q] [hu:Ub cs (n*m) (t2.flatMap K) cs' p]
  (k:Tr G (iB b cs' e::O') F (C (.slice (some ⟨b,0,none⟩) (n+n2) c))) (hroom:n+n2≤c:=by omega) (hp:p:=by (repeat' (first | exact True.intro | refine And.intro ?_ ?_))<;>first | omega |(simp only [List.length_append,List.length_take,List.length_drop,List.length_replicate,List.length_set,List.length_map,List.length_nil,List.length_cons];omega)|(simp;done)|(simp;omega)) (hq:q:=by (repeat' (first | exact True.intro | refine And.intro ?_ ?_))<;>first | omega |(simp only [List.length_append,List.length_take,List.length_drop,List.length_replicate,List.length_set,List.length_map,List.length_nil,List.length_cons];omega)|(simp;done)|(simp;omega)):
  Tr G O F (Rv P (.bi .append #[T,T] ty [.slice (some ⟨b,0,none⟩) n c, .slice (some ⟨b2,A2,none⟩) n2 c2]) C):=by
 refine ⟨fun w hp0=> ?_⟩
 obtain ⟨hn2,hs2⟩:=hp0.en (hl.lb hq)
 have hp1:Hp G ([iB b cs e]++O') F w:=hp0.wk hpb.pb (fun _ h=>h)
 have hB:Blk w b cs e:=hp1.own _ (.head _)
 have hup:=hu.ub hp
 have hb:b<w.heap.size:=hB.lt
 obtain ⟨v,hE,hv⟩:=hz.zk
 obtain ⟨i,hi,hz1,hz2,hz3⟩:=info_parts hE
 subst hz2
 obtain ⟨w',h4,h5,h6⟩:=cG (P:=P) (t2.flatMap K) w b (n*i.size) 0 cs e hB (by simpa using hup.le) (fun u hu=>by
  obtain ⟨x,_,hx⟩:=List.mem_flatMap.1 hu
  exact hK.one x u hx)
 rw [Nat.add_zero,hup.sf] at h5
 have hfc:=run_firstCells_some (P:=P) w i.size n2 ⟨b2,A2,none⟩ n2 c2 (t2.flatMap K) (by rw [b8,hn2]) (fun j u hu=>hs2.load_add hu)
 refine ⟨.slice (some ⟨b,0,none⟩) (n+n2) c,w', ?_,k w' ?_⟩
 ·simp [Ak.sem,Builtin.append_,run_underlying h.ix,sizeOf,typeInfo,hi,Builtin.lenOf,hroom,hfc,Addr.add_lit,h4]
 ·have:=Hp.step (L:= [iB b cs e]) (L':= [iB b cs' e]) (F':= []) (w':=w') hp1 (h6.mono fun k _ hk=>by subst hk;simp [iB]) (by
   intro o ho;simp only [List.mem_singleton] at ho;subst ho;exact h5) (by simp [iB]) (by
   intro k hk
   simp [iB] at hk;subst hk
   exact ⟨.inl (by simp [iB]),Nat.lt_of_lt_of_le hb h6.size⟩) (fun f hf=>by cases hf)
  simpa using this
end
end Go.Cz
namespace Go.Cz
open Go Go.RowKit Go.Cs
class Nu (b:Nat) (z:Int) (n:outParam Nat):Prop where
 nz:z=(n:Int)
 lt:n<b
instance {c:UInt8}:Nu 256 ((c.toNat:Nat):Int) c.toNat:=⟨rfl,c.toNat_lt⟩
instance {c:UInt64}:Nu 18446744073709551616 ((c.toNat:Nat):Int) c.toNat:=⟨rfl,c.toNat_lt⟩
instance {x:Cel}:Nu 18446744073709551616 ((x.ep:Nat):Int) x.ep:=⟨rfl,x.hep⟩
instance {x:Cel}:Nu 18446744073709551616 ((x.mark:Nat):Int) x.mark:=⟨rfl,x.hmk⟩
instance {l:List UInt8}:Nu 4294967296 ((dz l 4:Nat):Int) (dz l 4):=⟨rfl,d5 l 4⟩
instance {l:List UInt8}:Nu 18446744073709551616 ((dz l 8:Nat):Int) (dz l 8):=⟨rfl,d5 l 8⟩
section
variable {x:Rec} {e:Ent} {c:Cel} {n m:Non} {z:Nod} {y:Un} {d:Dig} {i:Int} {k:Nat}
instance [h:Nu 4294967296 i k]:Ub (br n) 0 [.int .u32 i] (br ⟨k,n.ct,h.lt,n.hct⟩) True:=⟨fun _=>by cases h.nz;exact ⟨[], [_], [_],rfl,rfl,rfl,rfl⟩⟩
instance [h:Nu 18446744073709551616 i k]:Ub (br n) 1 [.int .u64 i] (br ⟨n.sh,k,n.hsh,h.lt⟩) True:=⟨fun _=>by cases h.nz;exact ⟨[_], [_], [],rfl,rfl,rfl,rfl⟩⟩
instance [h:Nu 256 i k]:Ub (bY x) 0 [.int .u8 i] (bY ⟨k,x.non,x.tag,h.lt⟩) True:=⟨fun _=>by cases h.nz;exact ⟨[], [_],_,rfl,rfl,rfl,rfl⟩⟩
instance:Ub (bY x) 1 (br m) (bY ⟨x.st,m,x.tag,x.hst⟩) True:=⟨fun _=>⟨[.int .u8 ((x.st:Nat):Int)],br x.non,ay x.tag,rfl,rfl,rfl,rfl⟩⟩
instance:Ub (bY x) 3 (ay d) (bY ⟨x.st,x.non,d,x.hst⟩) True:=⟨fun _=>⟨[.int .u8 ((x.st:Nat):Int), .int .u32 ((x.non.sh:Nat):Int), .int .u64 ((x.non.ct:Nat):Int)],ay x.tag, [],(List.append_nil _).symm,rfl,by simp,(List.append_nil _).symm⟩⟩
instance [h:Nu 256 i k]:Ub (c6 e) 0 [.int .u8 i] (c6 ⟨k,e.dg,h.lt⟩) True:=⟨fun _=>by cases h.nz;exact ⟨[], [_],_,rfl,rfl,rfl,rfl⟩⟩
instance:Ub (c6 e) 1 (ay d) (c6 ⟨e.st,d,e.hst⟩) True:=⟨fun _=>⟨[.int .u8 ((e.st:Nat):Int)],ay e.dg, [],(List.append_nil _).symm,rfl,by simp,(List.append_nil _).symm⟩⟩
instance:Ub (aL c) 0 (ay d) (aL ⟨d,c.ep,c.mark,c.hep,c.hmk⟩) True:=⟨fun _=>⟨[],ay c.root,_,by simp only [aL,List.nil_append];first | rfl | simp,rfl,by simp,by simp [aL]⟩⟩
instance [h:Nu 18446744073709551616 i k]:Ub (aL c) 32 [.int .u64 i] (aL ⟨c.root,k,c.mark,h.lt,c.hmk⟩) True:=⟨fun _=>by cases h.nz;exact ⟨ay c.root, [.int .u64 ((c.ep:Nat):Int)], [.int .u64 ((c.mark:Nat):Int)],by simp [aL],by simp,rfl,by simp [aL]⟩⟩
instance [h:Nu 18446744073709551616 i k]:Ub (aL c) 33 [.int .u64 i] (aL ⟨c.root,c.ep,k,c.hep,h.lt⟩) True:=⟨fun _=>by cases h.nz;exact ⟨ay c.root++ [.int .u64 ((c.ep:Nat):Int)], [.int .u64 ((c.mark:Nat):Int)], [],by simp [aL],by simp,rfl,by simp [aL]⟩⟩
instance [h:Nu 256 i k]:Ub (aU z) 0 [.int .u8 i] (aU ⟨k,z.ix,z.rs,z.es,h.lt,z.hix⟩) True:=⟨fun _=>by cases h.nz;exact ⟨[], [_],_,rfl,rfl,rfl,rfl⟩⟩
instance [h:Nu 4294967296 i k]:Ub (aU z) 1 [.int .u32 i] (aU ⟨z.lv,k,z.rs,z.es,z.hlv,h.lt⟩) True:=⟨fun _=>by cases h.nz;exact ⟨[_], [_],_,rfl,rfl,rfl,rfl⟩⟩
end
section
variable {y:Un} {z:Nod} {i:Int} {b:Bool} {l:List Bool}
instance:Sb (a7 y) 0 (aU y.nd) True:=⟨fun _=>⟨[],_,rfl,rfl⟩⟩
instance:Sb (a7 y) 274 [.int .i64 y.sl] True:=⟨fun _=>⟨aU y.nd, .bool y.dt::jj y.ch,by simp [a7],by simp⟩⟩
instance:Sb (a7 y) 275 [.bool y.dt] True:=⟨fun _=>⟨aU y.nd++ [.int .i64 y.sl],jj y.ch,by simp [a7],by simp⟩⟩
instance:Sb (a7 y) 276 (jj y.ch) True:=⟨fun _=>⟨aU y.nd++ [.int .i64 y.sl, .bool y.dt], [],by simp [a7],by simp⟩⟩
instance:Ub (a7 y) 0 (aU z) (a7 ⟨z,y.sl,y.dt,y.ch,y.hch⟩) True:=⟨fun _=>⟨[],aU y.nd,_,by simp only [a7,List.nil_append];rfl,rfl,by simp,by simp [a7]⟩⟩
instance:Ub (a7 y) 274 [.int .i64 i] (a7 ⟨y.nd,i,y.dt,y.ch,y.hch⟩) True:=⟨fun _=>⟨aU y.nd, [.int .i64 y.sl], .bool y.dt::jj y.ch,by simp [a7],by simp,rfl,by simp [a7]⟩⟩
instance:Ub (a7 y) 275 [.bool b] (a7 ⟨y.nd,y.sl,b,y.ch,y.hch⟩) True:=⟨fun _=>⟨aU y.nd++ [.int .i64 y.sl], [.bool y.dt],jj y.ch,by simp [a7],by simp,rfl,by simp [a7]⟩⟩
instance {w:Nat}:Ub (a7 y) (276+w*1) [.bool b] (a7 (y.setCh w b)) (w<4):=⟨fun h=>by
 have h1:Up (jj y.ch) (w*1) [.bool b] (jj (y.ch.set w b)):=by
  have h2:=j6 (K:=cT) (t:=y.ch) (i:=w) b (by rw [y.hch];exact h)
  have e:∀l:List Bool,l.flatMap cT=jj l:=fun l=>by induction l with | nil=>rfl | cons a l ih=>simp [cT,jj] at ih⊢;exact ih
  rw [e,e] at h2;exact h2
 have h3:Sub (a7 y) 276 (jj y.ch):=(inferInstance:Sb (a7 y) 276 (jj y.ch) True).sb trivial
 refine GJ h3 h1 ⟨aU y.nd++ [.int .i64 y.sl, .bool y.dt],jj y.ch, [],by simp [a7],by simp,by simp, ?_⟩
 simp [a7,Un.setCh]⟩
end
abbrev FV:=Option (Fn×Array Value×Array Value)
def fv:FV→Value
 | none=> .nilFunc
 | some (f,a,b)=> .func f a b
theorem HK (g:FV):(fv g).cells= [fv g].toArray∧(fv g).oneCell'=true:=by
 cases g with
 | none=>exact ⟨rfl,rfl⟩
 | some p=>obtain ⟨f,a,b⟩:=p;exact ⟨rfl,rfl⟩
structure SDem where
 holds:FV
 fault:Nat
def gI (x:SDem):List Value:= [fv x.holds, .int .u8 ((x.fault:Nat):Int)]
abbrev SDem.zero:SDem:=⟨none,0⟩
instance:Inhabited SDem:=⟨SDem.zero⟩
instance:CL gI 2:=⟨fun x=>rfl,fun x u hu=>by
 simp only [gI,List.mem_cons,List.mem_nil_iff,or_false] at hu
 rcases hu with rfl | rfl
 ·exact (HK _).2
 ·rfl⟩
instance {x:SDem}:Sb (gI x) 0 [fv x.holds] True:=⟨fun _=>⟨[],_,rfl,rfl⟩⟩
instance {x:SDem}:Sb (gI x) 1 [.int .u8 ((x.fault:Nat):Int)] True:=⟨fun _=>⟨[_], [],rfl,rfl⟩⟩
instance {x:SDem} {f:Fn} {a b:Array Value}:Ub (gI x) 0 [.func f a b] (gI ⟨some (f,a,b),x.fault⟩) True:=⟨fun _=>⟨[], [_], [_],rfl,rfl,rfl,rfl⟩⟩
instance {x:SDem} {z:Int} {k:Nat} [h:Ni z k]:Ub (gI x) 1 [.int .u8 z] (gI ⟨x.holds,k⟩) True:=⟨fun _=>by cases h.ni;exact ⟨[_], [_], [],rfl,rfl,rfl,rfl⟩⟩
end Go.Cz
namespace Go.Cz
open Go Go.RowKit Go.Cs
section
variable {P:Program} {O:List It} {F:List Pt} {v:Value}
theorem AL {a:Value} {i:Nat} (h:Yv P O F (.ext a i) v):Yv P O F (.ext a i) v:=h
theorem z4 {T:TypeId} {a:Value} {i:Nat} (h:Yv P O F (.fda T a i) v):Yv P O F (.fda T a i) v:=h
theorem Ag {T:TypeId} {a c:Value} (h:Yv P O F (.ixa T a c) v):Yv P O F (.ixa T a c) v:=h
theorem kj {T:TypeId} {x y:Operand} {a c:Value} (h:Yv P O F (.bin .add T x y a c) v):Yv P O F (.bin .add T x y a c) v:=h
theorem jO {T:TypeId} {x y:Operand} {a c:Value} (h:Yv P O F (.bin .lss T x y a c) v):Yv P O F (.bin .lss T x y a c) v:=h
theorem lN {s:Array TypeId} {T:TypeId} {l:List Value} (h:Yv P O F (.bi .len s T l) v):Yv P O F (.bi .len s T l) v:=h
theorem kw {T:TypeId} {x y:Operand} {a c:Value} (h:Yv P O F (.bin .sub T x y a c) v):Yv P O F (.bin .sub T x y a c) v:=h
theorem j1 {T:TypeId} {x y:Operand} {a c:Value} (h:Yv P O F (.bin .eql T x y a c) v):Yv P O F (.bin .eql T x y a c) v:=h
theorem jW {T:TypeId} {x y:Operand} {a c:Value} (h:Yv P O F (.bin .neq T x y a c) v):Yv P O F (.bin .neq T x y a c) v:=h
theorem jP {T:TypeId} {x y:Operand} {a c:Value} (h:Yv P O F (.bin .geq T x y a c) v):Yv P O F (.bin .geq T x y a c) v:=h
theorem kh {T:TypeId} {x y:Operand} {a c:Value} (h:Yv P O F (.bin .leq T x y a c) v):Yv P O F (.bin .leq T x y a c) v:=h
theorem jX {T:TypeId} {x y:Operand} {a c:Value} (h:Yv P O F (.bin .gtr T x y a c) v):Yv P O F (.bin .gtr T x y a c) v:=h
theorem ko {T:TypeId} {x y:Operand} {a c:Value} (h:Yv P O F (.bin .mul T x y a c) v):Yv P O F (.bin .mul T x y a c) v:=h
theorem j7 {T:TypeId} {x y:Operand} {a c:Value} (h:Yv P O F (.bin .quo T x y a c) v):Yv P O F (.bin .quo T x y a c) v:=h
theorem j0 {T:TypeId} {x y:Operand} {a c:Value} (h:Yv P O F (.bin .rem T x y a c) v):Yv P O F (.bin .rem T x y a c) v:=h
theorem BY {S T:TypeId} {a:Value} (h:Yv P O F (.cvt S T a) v):Yv P O F (.cvt S T a) v:=h
theorem mw {T:TypeId} {a:Value} (h:Yv P O F (.un .not T a) v):Yv P O F (.un .not T a) v:=h
theorem zG {T:TypeId} {a:Value} {l r m:Option Value} (h:Yv P O F (.slc T a l r m) v):Yv P O F (.slc T a l r m) v:=h
theorem lM {s:Array TypeId} {T:TypeId} {l:List Value} (h:Yv P O F (.bi .cap s T l) v):Yv P O F (.bi .cap s T l) v:=h
theorem lX {s:Array TypeId} {T:TypeId} {l:List Value} (h:Yv P O F (.bi .min s T l) v):Yv P O F (.bi .min s T l) v:=h
theorem zK {f:Fn} {l r:List Value} (h:Yv P O F (.mkf f l r) v):Yv P O F (.mkf f l r) v:=h
theorem yS {T:TypeId} {a:Value} (h:Yv P O F (.s2a T a) v):Yv P O F (.s2a T a) v:=h
theorem GS {T:TypeId} {a c:Value} (h:Yv P O F (.ix T a c) v):Yv P O F (.ix T a c) v:=h
theorem Ay {T:TypeId} {ps:List (Nat×Value)} (h:Yv P O F (.bld T ps) v):Yv P O F (.bld T ps) v:=h
theorem lD {T:TypeId} {a:Value} (h:Yv P O F (.un .neg T a) v):Yv P O F (.un .neg T a) v:=h
theorem kv {T:TypeId} {x y:Operand} {a c:Value} (h:Yv P O F (.bin .xor T x y a c) v):Yv P O F (.bin .xor T x y a c) v:=h
theorem j8 {T:TypeId} {x y:Operand} {a c:Value} (h:Yv P O F (.bin .and T x y a c) v):Yv P O F (.bin .and T x y a c) v:=h
theorem mY {T:TypeId} {x y:Operand} {a c:Value} (h:Yv P O F (.bin .or T x y a c) v):Yv P O F (.bin .or T x y a c) v:=h
theorem ki {T:TypeId} {x y:Operand} {a c:Value} (h:Yv P O F (.bin .shr T x y a c) v):Yv P O F (.bin .shr T x y a c) v:=h
theorem ku {T:TypeId} {x y:Operand} {a c:Value} (h:Yv P O F (.bin .shl T x y a c) v):Yv P O F (.bin .shl T x y a c) v:=h
theorem lU {T:TypeId} {a:Value} (h:Yv P O F (.un .xor T a) v):Yv P O F (.un .xor T a) v:=h
theorem gR {s:Array TypeId} {T:TypeId} {l:List Value} (h:Yv P O F (.bi .append s T l) v):Yv P O F (.bi .append s T l) v:=h
theorem By {op:BinOp} {T:TypeId} {x y:Operand} {a c:Value} (h:Yv P O F (.bin op T x y a c) v):Yv P O F (.bin op T x y a c) v:=h
end
section
variable {P:Program} {G:Gc} {O:List It} {F:List Pt} {C:Value→Pt} {D:Pt} {v:Value} {k:Ak}
theorem ng (h:Tr G O F (C v)) (hy:Yv P O F k v:=by first |(apply AL;first | exact wt rfl)|(apply z4;first | exact v9)|(apply Ag;first | exact qm | exact wF | exact pg (by assumption))|(apply lN;first | exact wi)|(apply BY;first | exact wj | exact wG | exact nR | exact pE | exact qp | exact uw | exact wa | exact wK | exact vg)|(apply mw;first | exact wJ _)|(apply zG;first | exact xi | exact xv | exact uT | exact vZ | exact uo)|(apply lM;first | exact vL)|(apply lX;first | exact uv)|(apply q_bi_max;first | exact wu)|(apply zK;first | exact vj)|(apply yS;first | exact uZ)|(apply GS;first | exact uM | exact uL)|(apply Ay;first | exact wg | exact qF)|(apply lD;first | exact CP)|(apply lU;first | exact wU | exact uP)|(apply gR;first | exact pI)|(apply By;first |(apply kj;first | exact BS | exact uz | exact wE | exact xj | exact vu)|(apply jO;first | exact qC | exact rK)|(apply kw;first | exact DC | exact wr | exact vU | exact uI | exact wo)|(apply j1;first | exact rC | exact qw | exact uX | exact ur | exact pX | exact pB | exact vV | exact wY)|(apply jW;first | exact qg | exact qX | exact wR | exact vd | exact pS | exact oX | exact wn)|(apply jP;first | exact vX | exact uV)|(apply kh;first | exact wT | exact wN)|(apply jX;first | exact rP | exact qy)|(apply ko;first | exact CY | exact vH | exact wL | exact xp | exact wI)|(apply j7;first | exact CK)|(apply j0;first | exact DA | exact Db)|(apply kv;first | exact ve | exact wO | exact uQ)|(apply j8;first | exact vk | exact we | exact rf | exact vo | exact vC)|(apply mY;first | exact wl | exact wD | exact uq | exact xf)|(apply ki;first | exact oL | exact oI | exact oS | exact wM)|(apply ku;first | exact pj | exact pz | exact pV | exact pq))):Tr G O F (Rv P k C):=nF hy h
theorem p5 (h:Tr G O F (Rv P k C)):Tr G O F (Rv P k C):=h
theorem p8 {T:TypeId} {a:Value} (h:Tr G O F (Rl P T a C)):Tr G O F (Rl P T a C):=h
theorem p9 {k:Dk} (h:Tr G O F (Ru P k D)):Tr G O F (Ru P k D):=h
theorem gN {f:Value} {l:List Value} (h:Tr G O F (Cal P f l C)):Tr G O F (Cal P f l C):=h
theorem qa {ops:Array Oper} {n:Nat} {l:List Oper} {σ:Fm} {K:Fm→Pt} (h:Tr G O F (ER P ops n l σ K)):Tr G O F (ER P ops n l σ K):=h
theorem pZ {ro:Option Nat} {n:Nat} {c:Code} {ds:List Deferred} {σ:Fm} {K:Kt} (h:Tr G O F (EC P ro n c ds σ K)):Tr G O F (EC P ro n c ds σ K):=h
theorem p4 {ops:Array Oper} {Cc:Pt} {m i:Nat} {D:(Value→Pt)→Pt} (h:Tr G O F (Dt P ops Cc m i D C)):Tr G O F (Dt P ops Cc m i D C):=h
theorem cR {ops:Array Oper} {m i:Nat} (h:Tr G O F (C v)) (hy:Yv P [] [] k v:=by first |(apply AL;first | exact wt rfl)|(apply z4;first | exact v9)|(apply Ag;first | exact qm | exact wF | exact pg (by assumption))|(apply lN;first | exact wi)|(apply BY;first | exact wj | exact wG | exact nR | exact pE | exact qp | exact uw | exact wa | exact wK | exact vg)|(apply mw;first | exact wJ _)|(apply zG;first | exact xi | exact xv | exact uT | exact vZ | exact uo)|(apply lM;first | exact vL)|(apply lX;first | exact uv)|(apply q_bi_max;first | exact wu)|(apply zK;first | exact vj)|(apply yS;first | exact uZ)|(apply GS;first | exact uM | exact uL)|(apply Ay;first | exact wg | exact qF)|(apply lD;first | exact CP)|(apply lU;first | exact wU | exact uP)|(apply gR;first | exact pI)|(apply By;first |(apply kj;first | exact BS | exact uz | exact wE | exact xj | exact vu)|(apply jO;first | exact qC | exact rK)|(apply kw;first | exact DC | exact wr | exact vU | exact uI | exact wo)|(apply j1;first | exact rC | exact qw | exact uX | exact ur | exact pX | exact pB | exact vV | exact wY)|(apply jW;first | exact qg | exact qX | exact wR | exact vd | exact pS | exact oX | exact wn)|(apply jP;first | exact vX | exact uV)|(apply kh;first | exact wT | exact wN)|(apply jX;first | exact rP | exact qy)|(apply ko;first | exact CY | exact vH | exact wL | exact xp | exact wI)|(apply j7;first | exact CK)|(apply j0;first | exact DA | exact Db)|(apply kv;first | exact ve | exact wO | exact uQ)|(apply j8;first | exact vk | exact we | exact rf | exact vo | exact vC)|(apply mY;first | exact wl | exact wD | exact uq | exact xf)|(apply ki;first | exact oL | exact oI | exact oS | exact wM)|(apply ku;first | exact pj | exact pz | exact pV | exact pq))) (hc:gu (bw ops) m i=true:=by kernel_rfl):Tr G O F (Dp P ops m i (fun C=>Rv P k C) C):=zH h (zq hy) hc
theorem p3 {ops:Array Oper} {m i:Nat} {D:(Value→Pt)→Pt} (h:Tr G O F (Dp P ops m i D C)):Tr G O F (Dp P ops m i D C):=h
def xr (ops:Array Oper):Nat→List Oper→Bool
 | _, []=>true
 | k,o::r=>(ic o || iu ops k)&&xr ops (k+1) r
theorem bF {n N id:Nat} {ro:Option Nat} {ds:List Deferred} {σ:Fm} {ops:Array Oper} {K:Kt} (hL:xr ops 0 ops.toList=true) (hN:uj ops.toList 0=some N) (k:Tr G O F (ED P n ops (Hp G O F) N (K .nm ds) N [] 0 σ)) (hm:P.follows .mixedOrders=true:=by kernel_rfl) (hT:CT ops (bw ops) N=true:=by kernel_rfl):Tr G O F (Dw P ro n id ops ds σ K):=FP hN k hm hT
theorem p7 {Cc:Pt} {ops:Array Oper} {i:Nat} {dn:List Nat} (h:Tr G O F (Dx Cc ops i dn D)):Tr G O F (Dx Cc ops i dn D):=h
theorem p6 {n:Nat} {ops:Array Oper} {Cc:Pt} {N:Nat} {K:Fm→Pt} {f:Nat} {dn:List Nat} {m:Nat} {σ:Fm} (h:Tr G O F (ED P n ops Cc N K f dn m σ)):Tr G O F (ED P n ops Cc N K f dn m σ):=h
end
end Go.Cz
namespace Go.Cz
open Go Go.RowKit Go.Cs
class Rb (O:List It) (b:Nat) (R:outParam (List It)):Prop where
 rb:True
instance {b e:Nat} {cs:List Value} {O:List It}:Rb (iB b cs e::O) b O:=⟨trivial⟩
instance (priority:=low) {u:It} {b:Nat} {O R:List It} [h:Rb O b R]:Rb (u::O) b (u::R):=⟨trivial⟩
class Rbs (O:List It) (bs:List Nat) (R:outParam (List It)):Prop where
 rb:True
instance {O:List It}:Rbs O [] O:=⟨trivial⟩
instance {O R S:List It} {b:Nat} {bs:List Nat} [h:Rb O b R] [g:Rbs R bs S]:Rbs O (b::bs) S:=⟨trivial⟩
section
variable {P:Program} {ro:Option Nat} {n:Nat} {c:Code} {ds:List Deferred} {σ:Fm} {K:Kt} {G:Gc} {O R:List It} {F:List Pt} {X:Type}
theorem dh (bs:List Nat) (live:X→Fm) (q:X→Prop) (Os:X→List It) (μ:X→Nat) (x0:X) [hr:Rbs O bs R] (h0:q x0) (hl:Hs (live x0) σ) (hw:Wk O (Os x0++R))
  (round:∀x,q x→Tr G (Os x++R) F (zj (fun fl=>CX (fun σ'=>EC P ro n c ds σ' (fun e ds' σ''=>match e with | .nm=>Le live q (fun x=>Os x++R) μ x G F fl ds ds' σ'' | .ex i=>K (.ex i) ds' σ'' | .rt=>K .rt ds' σ'')) (live x) fl) (qR c []) [] [] σ)):
  Tr G O F (Lp P ro n c ds σ K):=cN live q (fun x=>Os x++R) μ x0 h0 hl hw round
end
instance (priority:=low) {P:Program} {T E n m bys:Nat} {α:Type} {K:α→List Value} {z:α} {xs:List α} {ps:List (Nat×Value)} [h:Ix P T E m none] [hk:Zk P E α K z m bys] [hK:CL K m] [hp:Pw K ps 0 m xs]:Nb P (.bls T n ps) (xs.flatMap K) E (fun b=> .slice (some ⟨b,0,none⟩) n n) (xs.length=n∧0<n∧0<m∧n*m≤16777216):=⟨fun ⟨h1,h2,h4,h3⟩ w=>by
 obtain ⟨v,h5,h6⟩:=hk.zk
 obtain ⟨ie,hie,he⟩:=Option.map_eq_some_iff.1 h5
 simp only [Prod.mk.injEq] at he
 exact uH h.ix ⟨v,by rw [hie];simp [he.1,he.2.1]⟩ hp.pw (by rw [b8,h1]) (Nat.mul_pos h2 h4) h3⟩
theorem da {P:Program} {G:Gc} {O O':List It} {F:List Pt} {C:Value→Pt} {b e:Nat} {cs:List Value} {f:FuncId} {first cap:Array Value} {args:List Value} {X:Type} {q:X→Prop} {r:X→Value} {Oo:X→List It} {Fo:X→List Pt} {Fi:List Pt} (hs:Zp P f (first.toList++args++cap.toList) [iB b cs e] Fi X q r Oo Fo) [hpb:Pb O b cs e O'] (h:∀x,q x→Tr G (Oo x++O') (Fo x++F) (C (r x)))
  (hF:∀g∈Fi,En [] F g:=by (repeat' (first | exact oK | refine Dv ?_ ?_))<;>first | exact Ef.ef | exact Gq.gq | exact Lb.lb (by (repeat' (first | exact True.intro | refine And.intro ?_ ?_))<;>first | omega |(simp only [List.length_append,List.length_take,List.length_drop,List.length_replicate,List.length_set,List.length_map,List.length_nil,List.length_cons];omega)|(simp;done)|(simp;omega))| exact Pb2.pb (by (repeat' (first | exact True.intro | refine And.intro ?_ ?_))<;>first | omega |(simp only [List.length_append,List.length_take,List.length_drop,List.length_replicate,List.length_set,List.length_map,List.length_nil,List.length_cons];omega)|(simp;done)|(simp;omega))):Tr G O F (Cal P (.func (.func f) first cap) args C):=
 qV _ hpb.pb (vY (O:=O') (Oi:= [iB b cs e]) hs hF h rfl)
theorem dv {P:Program} {G:Gc} {O O':List It} {F:List Pt} {C:Value→Pt} {n D l:Nat} {σ:Fm} {ps:Array Tmp} {assign body:Code} [h:Pl O l (iL D l n σ ps assign body .busy none) O'] (k:Tr G (iL D l n σ ps assign body .ready none::O') F (C (.bool true))):Tr G O F (Er P l none C):=fg (j:=none) k
end Go.Cz
