/- Lemmas and walks: what each function does, by its own code. No condition beyond those of each statement. -/
import Derived.Test.YtbobhnldhpjdlaaGreatDoorP1
import Derived.Test.YtbobhnldhpjdlaaGreatDoorP2
import Derived.Test.YtbobhnldhpjdlaaGreatDoorP3
import Derived.Deep.AppendLies
import Derived.Great.BuildSlice
import Derived.Laws.IdiomStrings
import Derived.Laws.BytesArg
import Derived.Laws.Pointers
import Derived.Stop.IfaceNil
set_option linter.all false
set_option linter.unusedVariables false
namespace Go.Cz
open Go Go.RowKit Go.Cs
instance:Inhabited Dig:=⟨Dig.zero⟩
instance:Inhabited Rec:=⟨Rec.zero⟩
instance:Inhabited Ent:=⟨Ent.zero⟩
instance:Inhabited Nod:=⟨Nod.zero⟩
instance:Inhabited Un:=⟨Un.zero⟩
instance:Inhabited Cel:=⟨Cel.zero⟩
instance:CL ay 32:=⟨c5,jM⟩
instance:CL br 2:=⟨qu,Ar⟩
instance:CL bY 35:=⟨hZ,mj⟩
instance:CL c6 33:=⟨jG,lK⟩
instance:CL aL 34:=⟨rW,Bm⟩
theorem k5 (x:R4):∀u∈kT x,u.oneCell'=true:=fun u hu=>by
 obtain ⟨y,_,h⟩:=List.mem_flatMap.1 hu
 exact mj y u h
theorem ly (x:E4):∀u∈kO x,u.oneCell'=true:=fun u hu=>by
 obtain ⟨y,_,h⟩:=List.mem_flatMap.1 hu
 exact lK y u h
theorem lS (x:R4):(kT x).length=140:=by rw [kT,cC hZ,x.h]
theorem sW (x:E4):(kO x).length=132:=by rw [kO,cC jG,x.h]
theorem mf (x:Nod):∀u∈aU x,u.oneCell'=true:=fun u hu=>by
 simp only [aU,List.mem_cons,List.mem_append] at hu
 rcases hu with rfl | rfl | h | h
 ·rfl
 ·rfl
 ·exact k5 _ u h
 ·exact ly _ u h
instance:CL kT 140:=⟨lS,k5⟩
instance:CL kO 132:=⟨sW,ly⟩
instance:CL aU 274:=⟨fun x=>by simp [aU,lS,sW],mf⟩
instance:CL a7 280:=⟨fun x=>by simp [a7,jj,x.hch,CL.len (K:=aU)],fun x u hu=>by
 simp only [a7,jj,List.mem_append,List.mem_cons,List.mem_map] at hu
 rcases hu with h | rfl | rfl |⟨b,_,rfl⟩
 ·exact mf _ u h
 ·rfl
 ·rfl
 ·rfl⟩
instance {d:Dig}:Fb (ay d) cB d.l:=⟨bL _⟩
instance {x:R4}:Fb (kT x) bY x.l:=⟨rfl⟩
instance {x:E4}:Fb (kO x) c6 x.l:=⟨rfl⟩
attribute [simp] Dig.h R4.h E4.h Un.hch
section
variable {x:Rec} {e:Ent} {c:Cel} {n:Non} {z:Nod} {y:Un} {d:Dig} {a:R4} {b:E4}
instance:Sb (br n) 0 [.int .u32 ((n.sh:Nat):Int)] True:=⟨fun _=>⟨[],_,rfl,rfl⟩⟩
instance:Sb (br n) 1 [.int .u64 ((n.ct:Nat):Int)] True:=⟨fun _=>⟨[_], [],rfl,rfl⟩⟩
instance:Sb (bY x) 0 [.int .u8 ((x.st:Nat):Int)] True:=⟨fun _=>⟨[],_,rfl,rfl⟩⟩
instance:Sb (bY x) 1 (br x.non) True:=⟨fun _=>⟨[_],ay x.tag,rfl,rfl⟩⟩
instance:Sb (bY x) 3 (ay x.tag) True:=⟨fun _=>⟨[_,_,_], [],(List.append_nil _).symm,rfl⟩⟩
instance:Sb (c6 e) 0 [.int .u8 ((e.st:Nat):Int)] True:=⟨fun _=>⟨[],_,rfl,rfl⟩⟩
instance:Sb (c6 e) 1 (ay e.dg) True:=⟨fun _=>⟨[_], [],(List.append_nil _).symm,rfl⟩⟩
instance:Sb (aL c) 0 (ay c.root) True:=⟨fun _=>⟨[],_,rfl,rfl⟩⟩
instance:Sb (aL c) 32 [.int .u64 ((c.ep:Nat):Int)] True:=⟨fun _=>⟨ay c.root, [.int .u64 ((c.mark:Nat):Int)],by simp [aL],by simp⟩⟩
instance:Sb (aL c) 33 [.int .u64 ((c.mark:Nat):Int)] True:=⟨fun _=>⟨ay c.root++ [.int .u64 ((c.ep:Nat):Int)], [],by simp [aL],by simp⟩⟩
instance:Sb (aU z) 0 [.int .u8 ((z.lv:Nat):Int)] True:=⟨fun _=>⟨[],_,rfl,rfl⟩⟩
instance:Sb (aU z) 1 [.int .u32 ((z.ix:Nat):Int)] True:=⟨fun _=>⟨[_],_,rfl,rfl⟩⟩
instance:Sb (aU z) 2 (kT z.rs) True:=⟨fun _=>⟨[_,_],kO z.es,rfl,rfl⟩⟩
instance:Sb (aU z) 142 (kO z.es) True:=⟨fun _=>⟨(.int .u8 ((z.lv:Nat):Int))::(.int .u32 ((z.ix:Nat):Int))::kT z.rs, [],by simp [aU],by simp [lS]⟩⟩
instance:Ub (aU z) 2 (kT a) (aU ⟨z.lv,z.ix,a,z.es,z.hlv,z.hix⟩) True:=⟨fun _=>⟨[_,_],kT z.rs,kO z.es,rfl,rfl,by simp [lS],rfl⟩⟩
instance:Ub (aU z) 142 (kO b) (aU ⟨z.lv,z.ix,z.rs,b,z.hlv,z.hix⟩) True:=⟨fun _=>⟨(.int .u8 ((z.lv:Nat):Int))::(.int .u32 ((z.ix:Nat):Int))::kT z.rs,kO z.es, [],by simp [aU],by simp [lS],by simp [sW],by simp [aU]⟩⟩
instance {i:Nat}:Ub (kT a) (i*35) (bY x) (kT (a.set i x)) (i<4):=⟨fun h=>j6 (K:=bY) x (by rw [a.h];exact h)⟩
instance {i:Nat}:Ub (kO b) (i*33) (c6 e) (kO (b.set i e)) (i<4):=⟨fun h=>j6 (K:=c6) e (by rw [b.h];exact h)⟩
end
end Go.Cz
namespace Go.Cz
open Go Go.RowKit Go.Cs
def iN {α:Type} (K:α→List Value) (m:Nat) (a:Option Addr) (n c:Nat) (e:TypeId) (t:List α):It:=
 ⟨(a.map (·.block)).toList,fun w=>n=t.length∧w.ownsRow 0 e m (.slice a n c) n (t.flatMap K),fun w w' hk h=>by
  obtain ⟨h1,h2,h3 |⟨g,c',cur,h3,h4,h5,h6⟩⟩:=h
  ·exact ⟨h1,h2, .inl h3⟩
  ·cases h3
   exact ⟨h1,h2, .inr ⟨g,c,cur,rfl,h4,by rw [hk g (by simp)];exact h5,h6⟩⟩⟩
class Pn {α:Type} (O:List It) (K:α→List Value) (m:Nat) (a:Option Addr) (n c:Nat) (e:TypeId) (t:outParam (List α)) (O':outParam (List It)) (p:outParam Prop):Prop where
 pn:p→Wk O (iN K m a n c e t::O')
section
variable {α:Type} {O O':List It} {F:List Pt} {K:α→List Value} {m n c b:Nat} {a:Option Addr} {e:TypeId} {t t2:List α} {u:It} {p:Prop} {cs:List Value}
instance:Pn (iN K m a n c e t::O) K m a n c e t O True:=⟨fun _=>ar _⟩
instance (priority:=low) [h:Pn O K m a n c e t O' p]:Pn (u::O) K m a n c e t (u::O') p:=⟨fun hp=>cZ (gF u (h.pn hp)) (uF u _ O')⟩
instance:Pn O K m none 0 0 e [] O True:=⟨fun _ w h1 h2=>⟨fun o ho=>by
 rcases List.mem_cons.1 ho with rfl | h9
 ·exact ⟨rfl,by simpa using World.ownsRow_nil w 0 e m⟩
 ·exact h1 o h9,by simpa [iN] using h2,fun k hk=>by simpa [iN] using hk⟩⟩
instance (priority:=low) [hf:Fb cs K t] [hK:CL K m]:Pn (iB b cs e::O) K m (some ⟨b,0,none⟩) n c e (t.take n) O (n≤c∧c=t.length∧c≤9223372036854775807):=⟨fun ⟨h1,h2,h3⟩=>r3 O (by simp [iN,iB]) (fun w hB=>by
 have hB':Blk w b cs e:=hB
 rw [hf.fm] at hB'
 refine ⟨by simp;omega,by rw [b8 (hK:=hK),List.length_take,Nat.min_eq_left (by omega)], .inr ⟨b,c,(t.flatMap K).toArray,rfl,Nat.zero_le _,hB',h1,by simpa [maxLen] using h3,by simp [b8 (hK:=hK),h2], ?_⟩⟩
 rw [eH hK.len])⟩
instance:Ab (iN K m (some ⟨b,0,none⟩) n c e t::O) F b 0 (t.flatMap K) True:=⟨fun _ w h1 _=>by
 obtain ⟨h2,h3,h4 |⟨g,c',cur,h4,_,h5,h6,h7,h8,h9⟩⟩:=h1 _ (.head _)
 ·cases h4.1
 ·cases h4
  have hB:Blk w b cur.toList e:=by simpa [Blk] using h5
  exact hB.at 0 (t.flatMap K) (by rw [h3];simpa using h9)⟩
end
section
variable {P:Program} {G:Gc} {O O':List It} {F:List Pt} {C:Value→Pt} {T E ty:TypeId} {α:Type} {K:α→List Value} {z:α} {m bys n c n2 c2 b A:Nat} {a:Option Addr} {t t2:List α} {p q:Prop}
theorem aa [h:Ix P T E m none] [hz:Zk P E α K z m bys] [hK:CL K m] [hpn:Pn O K m a n c E t O' p] [hl:Lb O F K (some ⟨b,A,none⟩) n2 c2 t2 q]
  (k:∀g c',Tr G (iN K m (some ⟨g,0,none⟩) (n+n2) c' E (t++t2)::O') F (C (.slice (some ⟨g,0,none⟩) (n+n2) c')))
  (hp:p:=by (repeat' (first | exact True.intro | refine And.intro ?_ ?_))<;>first | omega |(simp only [List.length_append,List.length_take,List.length_drop,List.length_replicate,List.length_set,List.length_map,List.length_nil,List.length_cons];omega)|(simp;done)|(simp;omega)) (hq:q:=by (repeat' (first | exact True.intro | refine And.intro ?_ ?_))<;>first | omega |(simp only [List.length_append,List.length_take,List.length_drop,List.length_replicate,List.length_set,List.length_map,List.length_nil,List.length_cons];omega)|(simp;done)|(simp;omega))
  (h2:0<n2:=by omega) (h63:n+n2≤9223372036854775807:=by omega) (hb:(n+n2)*bys≤140737488355328:=by omega) (hm:0<m:=by decide):Tr G O F (Rv P (.bi .append #[T,T] ty [.slice a n c, .slice (some ⟨b,A,none⟩) n2 c2]) C):=by
 refine ⟨fun w hp0=> ?_⟩
 obtain ⟨hn2,hs2⟩:=hp0.en (hl.lb hq)
 have hp1:=hp0.wk (hpn.pn hp) (fun _ h=>h)
 obtain ⟨hn,hrow⟩:=hp1.own _ (.head _)
 obtain ⟨v,hE,hv⟩:=hz.zk
 obtain ⟨i,hi,hz1,hz2,hz3⟩:=info_parts hE
 obtain ⟨g,c',w',hr,h5,h6,h7,h8⟩:=run_append_lies (P:=P) w T ty 0 E i v m bys h.ix hi hz1 hz2 hz3 (by rw [hv];simpa using hK.len z) hm _ n _ hrow ⟨b,A,none⟩ n2 c2 (t2.flatMap K) (by rw [b8,hn2]) (fun j u hu=>hs2.load_add hu) (by
   intro u hu
   obtain ⟨x,_,hx⟩:=List.mem_flatMap.1 hu
   exact hK.one x u hx) h2 (by simpa [maxLen] using h63) hb (Nat.zero_le _) _ rfl
 rw [←List.flatMap_append] at h5
 have hc:Chg (·∈fps [iN K m a n c E t]) w w':=(Chg.of_grown h6).mono (by
  rintro k _ ⟨ad,rfl,rfl⟩
  simp [iN])
 refine ⟨_,w',hr,k g c' w' ?_⟩
 have:=Hp.step (L:= [iN K m a n c E t]) (L':= [iN K m (some ⟨g,0,none⟩) (n+n2) c' E (t++t2)]) (F':= []) (w':=w') (by simpa using hp1) hc (by
  intro o ho;simp only [List.mem_singleton] at ho;subst ho
  exact ⟨by simp [hn,hn2],h5⟩) (by simp [iN]) (by
  intro k hk
  simp [iN] at hk;subst hk
  refine ⟨?_,h8⟩
  rcases h7 with h7 | h7
  ·left
   cases a with
   | none=>simp [Value.ownBlock] at h7
   | some ad=>simp [Value.ownBlock] at h7;simp [iN,h7]
  ·exact .inr (by omega)) (fun f hf=>by cases hf)
 simpa using this
def spl {α:Type} (l:List α) (i:Nat) (t:List α):List α:=l.take i++t++l.drop (i+t.length)
theorem tV {w:World} {k:Nat} (hs:eN 0 w.heap.size w a n c (t.flatMap K)) [hK:CL K m] (hn:n=t.length) (hk:k≤n):(Builtin.firstCells m k (.slice a n c)).run P w= .ok ((t.take k).flatMap K).toArray w:=by
 cases a with
 | none=>
  obtain ⟨h1,_,h3⟩:=hs
  have:t= []:=List.eq_nil_of_length_eq_zero (by omega)
  subst this
  simp [Builtin.firstCells]
 | some ad=>
  have h2:=run_loadCells_list (P:=P) w ad ((t.take k).flatMap K) (fun j v hj=>by
   refine hs.load_add (i:=j) (v:=v) ?_
   rw [←eH hK.len,List.getElem?_take] at hj
   split at hj
   ·exact hj
   ·cases hj)
  rw [b8,List.length_take,Nat.min_eq_left (by omega)] at h2
  simpa [Builtin.firstCells] using h2
theorem fO {T2:TypeId} {e:TypeId} {dl dc:Nat} {a2:Option Addr} {cs cs':List Value} [h:Ix P T E m none] [hz:Zk P E α K z m bys] [hK:CL K m] [hpb:Pb O b cs e O'] [hl:Lb O F K a2 n2 c2 t2 q] [hu:Ub cs A ((t2.take (min n2 dl)).flatMap K) cs' p]
  (k:Tr G (iB b cs' e::O') F (C (vI (min n2 dl)))) (hp:p:=by (repeat' (first | exact True.intro | refine And.intro ?_ ?_))<;>first | omega |(simp only [List.length_append,List.length_take,List.length_drop,List.length_replicate,List.length_set,List.length_map,List.length_nil,List.length_cons];omega)|(simp;done)|(simp;omega)) (hq:q:=by (repeat' (first | exact True.intro | refine And.intro ?_ ?_))<;>first | omega |(simp only [List.length_append,List.length_take,List.length_drop,List.length_replicate,List.length_set,List.length_map,List.length_nil,List.length_cons];omega)|(simp;done)|(simp;omega)):
  Tr G O F (Rv P (.bi .copy #[T,T2] ty [.slice (some ⟨b,A,none⟩) dl dc, .slice a2 n2 c2]) C):=by
 refine ⟨fun w hp0=> ?_⟩
 obtain ⟨hn2,hs2⟩:=hp0.en (hl.lb hq)
 have hp1:Hp G ([iB b cs e]++O') F w:=hp0.wk hpb.pb (fun _ h=>h)
 have hB:Blk w b cs e:=hp1.own _ (.head _)
 have hup:=hu.ub hp
 have h3:=tV (P:=P) (k:=min n2 dl) hs2 hn2 (Nat.min_le_left _ _)
 have h4:=Cs.run_sizeOf (P:=P) (w:=w) h.sz
 obtain ⟨w',h5,h6,h7⟩:=cG (P:=P) ((t2.take (min n2 dl)).flatMap K) w b A 0 cs e hB (by simpa using hup.le) (fun u hu=>by
  obtain ⟨x,_,hx⟩:=List.mem_flatMap.1 hu
  exact hK.one x u hx)
 rw [Nat.add_zero,hup.sf] at h6
 have hb:b<w.heap.size:=hB.lt
 refine ⟨vI (min n2 dl),w', ?_,k w' ?_⟩
 ·have hix:=h.ix
  have hmin:Nat.min n2 dl=min n2 dl:=rfl
  simp only [Ak.sem,Builtin.copy_,List.getElem?_toArray,List.getElem?_cons_zero,List.getElem?_cons_succ,Sem.run_bind,run_underlying hix,Result.andThen,Builtin.lenOf,Sem.run_pure,h4,hmin,h3,h5]
  rfl
 ·have:=Hp.step (L:= [iB b cs e]) (L':= [iB b cs' e]) (F':= []) (w':=w') hp1 (h7.mono fun k _ hk=>by subst hk;simp [iB]) (by
   intro o ho;simp only [List.mem_singleton] at ho;subst ho;exact h6) (by simp [iB]) (by
   intro k hk
   simp [iB] at hk;subst hk
   exact ⟨.inl (by simp [iB]),Nat.lt_of_lt_of_le hb h7.size⟩) (fun f hf=>by cases hf)
  simpa using this
end
theorem kn {α:Type} {K:α→List Value} {m:Nat} [hK:CL K m] (l t:List α) (i:Nat) (h:i+t.length≤l.length):Up (l.flatMap K) (i*m) (t.flatMap K) ((spl l i t).flatMap K):=by
 have e:l=l.take i++(l.drop i).take t.length++l.drop (i+t.length):=by
  conv=>lhs;rw [←List.take_append_drop i l,←List.take_append_drop t.length (l.drop i)]
  simp [List.append_assoc,List.drop_drop]
 refine ⟨(l.take i).flatMap K,((l.drop i).take t.length).flatMap K,(l.drop (i+t.length)).flatMap K, ?_, ?_, ?_, ?_⟩
 ·refine (congrArg (·.flatMap K) e).trans ?_
  simp only [List.flatMap_append]
 ·rw [b8,List.length_take,Nat.min_eq_left (by omega)]
 ·rw [b8,b8,List.length_take,List.length_drop,Nat.min_eq_left (by omega)]
 ·simp only [spl,List.flatMap_append]
@[simp] theorem k8 {α:Type} (l t:List α) (i:Nat) (h:i+t.length≤l.length):(spl l i t).length=l.length:=by simp [spl];omega
section
variable {α:Type} {K:α→List Value} {m i j:Nat} {l t:List α} {bs ts:List UInt8} {cs vs cs':List Value} {p:Prop}
instance (priority:=high) [h:Ub cs j vs cs' p]:Ub cs (0+j) vs cs' p:=⟨fun hp=>by rw [Nat.zero_add];exact h.ub hp⟩
instance [CL K m]:Ub (l.flatMap K) (i*m) (t.flatMap K) ((spl l i t).flatMap K) (i+t.length≤l.length):=⟨fun h=>kn l t i h⟩
instance:Ub (bE bs) (i*1) (ts.flatMap cB) (bE (spl bs i ts)) (i+ts.length≤bs.length):=⟨fun h=>by rw [bL,bL];exact kn (K:=cB) bs ts i h⟩
instance:Ub (bE bs) 0 (ts.flatMap cB) (bE (spl bs 0 ts)) (ts.length≤bs.length):=⟨fun h=>by rw [bL,bL];have:=kn (K:=cB) bs ts 0 (by omega);simpa using this⟩
abbrev Sv:=Option Addr×Nat×Nat
def cS (v:Sv):List Value:= [.slice v.1 v.2.1 v.2.2]
instance:CL cS 1:=⟨fun _=>rfl,fun x u hu=>by simp only [cS,List.mem_singleton] at hu;subst hu;rfl⟩
instance {v:Sv}:Lv false (cS v) (.slice v.1 v.2.1 v.2.2):=⟨.inl ⟨rfl,rfl⟩⟩
instance {a:Option Addr} {n c:Nat} {vs:List Sv} [h:Fb cs cS vs]:Fb (.slice a n c::cs) cS ((a,n,c)::vs):=⟨by rw [h.fm];rfl⟩
def Pr (vs:List Sv) (ls:List (List UInt8)):Pt:=fun w=>vs.length=ls.length∧∀i,i<ls.length→Sl cB (vs.getD i default).1 (vs.getD i default).2.1 (vs.getD i default).2.2 (ls.getD i []) w
class Pb2 (O:List It) (F:List Pt) (vs:List Sv) (ls:outParam (List (List UInt8))) (p:outParam Prop):Prop where
 pb:p→En O F (Pr vs ls)
instance {O:List It} {F:List Pt}:Pb2 O F [] [] True:=⟨fun _ w _ _=>⟨rfl,fun i hi=>by cases hi⟩⟩
instance {O:List It} {F:List Pt} {a:Option Addr} {n c:Nat} {x:List UInt8} {vs:List Sv} {ls:List (List UInt8)} {q:Prop} [h:Lb O F cB a n c x p] [g:Pb2 O F vs ls q]:Pb2 O F ((a,n,c)::vs) (x::ls) (p∧q):=⟨fun hp w h1 h2=>by
 obtain ⟨h3,h4⟩:=g.pb hp.2 w h1 h2
 refine ⟨by simp [h3],fun i hi=> ?_⟩
 cases i with
 | zero=>exact h.lb hp.1 w h1 h2
 | succ i=>exact h4 i (by simpa using hi)⟩
end
end Go.Cz
namespace Go.Cz
open Go Go.RowKit Go.Cs
instance (priority:=high) {cs vs:List Value} {j:Nat} {p:Prop} [h:Sb cs j vs p]:Sb cs (0+j) vs p:=⟨fun hp=>by rw [Nat.zero_add];exact h.sb hp⟩
class Bst (P:Program) (T:TypeId) (pl:outParam (List (Nat×Nat))) (zs:outParam (List Value)):Prop where
 bp:lf P T=some pl
 bz:∃z,(P.info? T).map (·.zero)=some (some z)∧z.cells=zs.toArray
class Bar (P:Program) (T:TypeId) (sz:outParam Nat) (zs:outParam (List Value)):Prop where
 bt:∃E m,P.underlying T=some (.array m E)∧(P.info? E).map (·.size)=some sz
 bz:∃z,(P.info? T).map (·.zero)=some (some z)∧z.cells=zs.toArray
class Gp (pl:List (Nat×Nat)) (i:Nat) (o m:outParam Nat):Prop where
 gp:pl[i]? =some (o,m)
instance {o m:Nat} {r:List (Nat×Nat)}:Gp ((o,m)::r) 0 o m:=⟨rfl⟩
instance {x:Nat×Nat} {r:List (Nat×Nat)} {i o m:Nat} [h:Gp r i o m]:Gp (x::r) (i+1) o m:=⟨h.gp⟩
class Bf (pl:List (Nat×Nat)) (cs:List Value) (ps:List (Nat×Value)) (cs':outParam (List Value)) (p:outParam Prop):Prop where
 bf:p→Instr.fill (pl.toArray[·]?) cs.toArray ps=some cs'.toArray
instance {pl:List (Nat×Nat)} {cs:List Value}:Bf pl cs [] cs True:=⟨fun _=>rfl⟩
instance {pl:List (Nat×Nat)} {cs cs1 cs2 vs:List Value} {i o m:Nat} {v:Value} {ps:List (Nat×Value)} {p q:Prop} [hg:Gp pl i o m] [hv:Cv v vs] [hu:Ub cs o vs cs1 p] [hr:Bf pl cs1 ps cs2 q]:Bf pl cs ((i,v)::ps) cs2 (vs.length=m∧p∧q):=⟨fun ⟨h1,h2,h3⟩=>by
 have h4:=hu.ub h2
 rw [eM (off:=o) (size:=m) (by simpa using hg.gp) hv.cv.1 h1 (by rw [←h1];exact h4.le),h4.sf]
 exact hr.bf h3⟩
class Ba (sz:Nat) (cs:List Value) (ps:List (Nat×Value)) (cs':outParam (List Value)) (p:outParam Prop):Prop where
 ba:p→Instr.fill (fun i=>some (i*sz,sz)) cs.toArray ps=some cs'.toArray
instance {sz:Nat} {cs:List Value}:Ba sz cs [] cs True:=⟨fun _=>rfl⟩
instance {sz:Nat} {cs cs1 cs2 vs:List Value} {i:Nat} {v:Value} {ps:List (Nat×Value)} {p q:Prop} [hv:Cv v vs] [hu:Ub cs (i*sz) vs cs1 p] [hr:Ba sz cs1 ps cs2 q]:Ba sz cs ((i,v)::ps) cs2 (vs.length=sz∧p∧q):=⟨fun ⟨h1,h2,h3⟩=>by
 have h4:=hu.ub h2
 rw [eM (off:=i*sz) (size:=sz) rfl hv.cv.1 h1 (by have h5:=h4.le;rwa [h1] at h5),h4.sf]
 exact hr.ba h3⟩
section
variable {P:Program} {O:List It} {F:List Pt} {T:TypeId} {cs cs' zs vs:List Value} {ps:List (Nat×Value)} {p:Prop} {kk:IntKind} {z:Int} {i k E m n:Nat} {v:Value}
theorem wg {pl:List (Nat×Nat)} [h:Bst P T pl zs] [hb:Bf pl zs ps cs' p] (hp:p:=by (repeat' (first | exact True.intro | refine And.intro ?_ ?_))<;>first | omega |(simp only [List.length_append,List.length_take,List.length_drop,List.length_replicate,List.length_set,List.length_map,List.length_nil,List.length_cons];omega)|(simp;done)|(simp;omega)):Yv P O F (Ak.bld T ps) (vA cs'):=aC fun w=>by
 obtain ⟨z,h1,h2⟩:=h.bz
 exact mp h.bp h1 h2 (hb.bf hp)
theorem qF {sz:Nat} [h:Bar P T sz zs] [hb:Ba sz zs ps cs' p] (hp:p:=by (repeat' (first | exact True.intro | refine And.intro ?_ ?_))<;>first | omega |(simp only [List.length_append,List.length_take,List.length_drop,List.length_replicate,List.length_set,List.length_map,List.length_nil,List.length_cons];omega)|(simp;done)|(simp;omega)):Yv P O F (Ak.bld T ps) (vA cs'):=aC fun w=>by
 obtain ⟨z,h1,h2⟩:=h.bz
 obtain ⟨E,m,h3,h4⟩:=h.bt
 exact tN h3 h4 h1 h2 (hb.ba hp)
theorem uM [h:Ix P T E 1 (some k)] [hE:Sz P E 1 false] [hz:Ni z i] [hs:Sb cs (i*1) vs p] [hv:Lv false vs v] (hp:p:=by (repeat' (first | exact True.intro | refine And.intro ?_ ?_))<;>first | omega |(simp only [List.length_append,List.length_take,List.length_drop,List.length_replicate,List.length_set,List.length_map,List.length_nil,List.length_cons];omega)|(simp;done)|(simp;omega)) (hi:i<k:=by omega):Yv P O F (Ak.ix T (vA cs) (.int kk z)) v:=aC fun w=>by
 cases hz.ni
 rcases hv.lv with ⟨_,rfl⟩|⟨h9,_⟩
 ·have h1:=(hs.sb hp).td
  have h2:cs[i]? =some v:=by
   have h3:=congrArg (·[0]?) h1
   simpa using h3
  exact C2 hi h2 h.ix h.sz hE.ag
 ·cases h9
theorem uL [h:Ix P T E m (some k)] [hE:Sz P E m true] [hz:Ni z i] [hs:Sb cs (i*m) vs p] (hp:p:=by (repeat' (first | exact True.intro | refine And.intro ?_ ?_))<;>first | omega |(simp only [List.length_append,List.length_take,List.length_drop,List.length_replicate,List.length_set,List.length_map,List.length_nil,List.length_cons];omega)|(simp;done)|(simp;omega)) (hi:i<k:=by omega) (hl:vs.length=m:=by first | exact CL.len _ | exact rfl |(simp;done)|(simp;omega)):Yv P O F (Ak.ix T (vA cs) (.int kk z)) (vA vs):=aC fun w=>by
 cases hz.ni
 have h1:=(hs.sb hp).td
 rw [hl] at h1
 have h2:=aT (P:=P) (w:=w) (o:=i*m) hE.ag hE.sz h1
 simp [Ak.sem,Instr.index,asIntOf,run_underlying h.ix,Cs.run_sizeOf h.sz,hi,h2]
theorem CP [hz:Ni z n] (hn:n≤9223372036854775807:=by omega):Yv P O F (Ak.un .neg T (.int .i64 z)) (.int .i64 (-(n:Int))):=aC fun w=>by
 cases hz.ni
 have e:(Ak.un .neg T (.int .i64 (n:Int))).sem.run P w=Result.ok (Value.int .i64 (IntKind.i64.wrap (0-(n:Int)))) w:=by rfl
 rw [e,jz (y:= -(n:Int)) (by omega) (by omega) (by omega)]
theorem Db [hz:Ni z n] {a:Nat} {x y:Operand} (h:0<n:=by omega):Yv P O F (Ak.bin .rem T x y (.int kk (-(a:Int))) (.int kk z)) (.int kk (-((a%n:Nat):Int))):=aC fun w=>by
 cases hz.ni
 have e:(Ak.bin .rem T x y (.int kk (-(a:Int))) (.int kk (n:Int))).sem.run P w=(if (n:Int)=0 then (runtimePanic (.error "integer divide by zero"):Sem Value) else pure (.int kk ((-(a:Int)).tmod (n:Int)))).run P w:=by cases kk<;>rfl
 rw [e,if_neg (by omega),Int.neg_tmod,E5];rfl
theorem vg {S:TypeId} {ks:IntKind} [gS:Ik P S ks] [gT:Ik P T .u64] {a:Nat} (h:0<a:=by omega) (h2:a≤18446744073709551616:=by omega):Yv P O F (Ak.cvt S T (.int kk (-(a:Int)))) (.int .u64 ((18446744073709551616-a:Nat):Int)):=aC fun w=>by
 have hu:=gS.ik
 have hT:=gT.ik
 have e:(Ak.cvt S T (.int kk (-(a:Int)))).sem.run P w=Result.ok (.int .u64 (IntKind.u64.wrap (-(a:Int)))) w:=by
  simp only [Ak.sem,convert,Sem.run_bind,run_underlying hu,run_underlying hT,Result.andThen];rfl
 rw [e]
 have e2:IntKind.u64.wrap (-(a:Int))=(-(a:Int))%18446744073709551616:=rfl
 rw [e2]
 congr 2
 omega
end
theorem t9 (x:WA 8):fW x=x.l.flatMap cW:=by
 unfold fW;induction x.l with
 | nil=>rfl
 | cons a l ih=>simp only [List.map_cons,List.flatMap_cons,←ih];rfl
theorem oJ (x:WA 64):fX x=x.l.flatMap cW:=by
 unfold fX;induction x.l with
 | nil=>rfl
 | cons a l ih=>simp only [List.map_cons,List.flatMap_cons,←ih];rfl
instance:CL fW 8:=⟨fun x=>by simp [fW,x.h],vM⟩
instance:CL fX 64:=⟨fun x=>by simp [fX,x.h],AJ⟩
instance {x:WA 8}:Fb (fW x) cW x.l:=⟨t9 x⟩
instance {x:WA 64}:Fb (fX x) cW x.l:=⟨oJ x⟩
instance {x:WA 8} {i:Nat} {y:UInt32}:Ub (fW x) (i*1) [.int .u32 (y.toNat:Int)] (fW (x.set i y)) (i<8):=⟨fun h=>by rw [t9,t9];exact j6 (K:=cW) y (by rw [x.h];exact h)⟩
instance {x:WA 64} {i:Nat} {y:UInt32}:Ub (fX x) (i*1) [.int .u32 (y.toNat:Int)] (fX (x.set i y)) (i<64):=⟨fun h=>by rw [oJ,oJ];exact j6 (K:=cW) y (by rw [x.h];exact h)⟩
attribute [simp] WA.h B64.h Sta.hr
instance (priority:=low) {α:Type} {K:α→List Value} {m:Nat} {x:α} [h:CL K m]:On (K x):=⟨h.one x⟩
def jY (b:Bool) (h:WA 8) (r:List UInt8) (m:Nat):List Value:= .bool b::(fW h++(bE r++ [.int .u64 ((m:Nat):Int)]))
@[simp] theorem Lk {b:Bool} {h:WA 8} {r:List UInt8} {m:Nat} (hr:r.length=64):(jY b h r m).length=74:=by simp [jY,fW,h.h,hr]
section
variable {b c:Bool} {h x:WA 8} {r r':List UInt8} {m k:Nat}
instance:On (jY b h r m):=⟨fun u hu=>by
 simp only [jY,List.mem_cons,List.mem_append] at hu
 rcases hu with rfl | hu | hu | rfl | hu
 ·rfl
 ·exact vM _ u hu
 ·exact iD _ u hu
 ·rfl
 ·cases hu⟩
instance:Sb (jY b h r m) 0 [.bool b] True:=⟨fun _=>⟨[],_,rfl,rfl⟩⟩
instance:Sb (jY b h r m) 1 (fW h) True:=⟨fun _=>⟨[.bool b],_,rfl,rfl⟩⟩
instance:Sb (jY b h r m) 9 (bE r) True:=⟨fun _=>⟨.bool b::fW h, [.int .u64 ((m:Nat):Int)],by simp [jY],by simp [fW]⟩⟩
instance:Sb (jY b h r m) 73 [.int .u64 ((m:Nat):Int)] (r.length=64):=⟨fun hr=>⟨.bool b::(fW h++bE r), [],by simp [jY],by simp [fW,hr]⟩⟩
instance:Ub (jY b h r m) 1 (fW x) (jY b x r m) True:=⟨fun _=>⟨[.bool b],fW h,_,rfl,rfl,by simp [fW],rfl⟩⟩
instance:Ub (jY b h r m) 9 (bE r') (jY b h r' m) (r'.length=r.length):=⟨fun hr=>⟨.bool b::fW h,bE r, [.int .u64 ((m:Nat):Int)],by simp [jY],by simp [fW],by simp [hr],by simp [jY]⟩⟩
instance:Ub (jY b h r m) 73 [.int .u64 ((k:Nat):Int)] (jY b h r k) (r.length=64):=⟨fun hr=>⟨.bool b::(fW h++bE r), [.int .u64 ((m:Nat):Int)], [],by simp [jY],by simp [fW,hr],rfl,by simp [jY]⟩⟩
instance:Ub (jY b h r m) 0 [.bool c] (jY c h r m) True:=⟨fun _=>⟨[], [.bool b],_,rfl,rfl,rfl,rfl⟩⟩
end
theorem aE {O O1 O':List It} {b e:Nat} {cs cs':List Value} [h:Pb O b cs e O1] (hk:Wk O1 O') (hc:cs=cs'):Wk O (iB b cs' e::O'):=by subst hc;exact IQ h.pb hk
def iU (b:Nat):It:=⟨[b],fun _=>True,fun w w' hk h=>h⟩
theorem aG {O O1 O':List It} {b e:Nat} {cs:List Value} (h:Pb O b cs e O1) (hk:Wk O1 O'):Wk O (iU b::O'):=
 cZ h.pb (cZ (fun w h1 h2=>⟨fun o ho=>by
  rcases List.mem_cons.1 ho with rfl | h9
  ·trivial
  ·exact h1 o (.tail _ h9),by simpa [iU,iB,dB] using h2,fun k hk=>by simpa [iU,iB,dB] using hk⟩) (gF (iU b) hk))
end Go.Cz
namespace Go.Cz
open Go Go.RowKit Go.Cs
class Pc (ps:List (Nat×Value)) (k m:Nat) (cs:outParam (List Value)):Prop where
 pc:∀pre post:List Value,pre.length=k*m→post.length=cs.length→Instr.fill (fun i=>some (i*m,m)) (pre++post).toArray ps=some (pre++cs).toArray
instance {k m:Nat}:Pc [] k m []:=⟨fun pre post _ h=>by
 have:post= []:=List.eq_nil_of_length_eq_zero h
 subst this;rfl⟩
theorem vn {k m:Nat} {v:Value} {vs cs:List Value} {ps:List (Nat×Value)} (hv:v.cells=vs.toArray) (hl:vs.length=m) (h:Pc ps (k+1) m cs) (pre post:List Value) (h1:pre.length=k*m) (h2:post.length=(vs++cs).length):
  Instr.fill (fun i=>some (i*m,m)) (pre++post).toArray ((k,v)::ps)=some (pre++(vs++cs)).toArray:=by
 have h3:post.length=m+cs.length:=by rw [h2,List.length_append,hl]
 rw [eM (off:=k*m) (size:=m) (vs:=vs) rfl hv hl (by rw [List.length_append];omega)]
 have h4:bX (pre++post) (k*m) vs=(pre++vs)++post.drop m:=by
  rw [e8 _ _ _ (by rw [List.length_append];omega),←h1,List.take_left,hl,List.drop_append]
  simp [show pre.length+m-pre.length=m by omega]
 rw [h4,←List.append_assoc]
 exact h.pc _ _ (by rw [List.length_append,h1,hl,Nat.add_mul,Nat.one_mul]) (by rw [List.length_drop];omega)
instance {k:Nat} {v u:Value} {cs:List Value} {ps:List (Nat×Value)} [hv:Cv v [u]] [h:Pc ps (k+1) 1 cs]:Pc ((k,v)::ps) k 1 (u::cs):=⟨fun pre post h1 h2=>vn hv.cv.1 rfl h pre post h1 h2⟩
class Pw {α:Type} (K:α→List Value) (ps:List (Nat×Value)) (k m:Nat) (xs:outParam (List α)):Prop where
 pw:Pc ps k m (xs.flatMap K)
instance {α:Type} {K:α→List Value} {k m:Nat}:Pw K [] k m []:=⟨by infer_instance⟩
instance {α:Type} {K:α→List Value} {k m:Nat} {x:α} {xs:List α} {ps:List (Nat×Value)} [hK:CL K m] [h:Pw K ps (k+1) m xs]:Pw K ((k,vA (K x))::ps) k m (x::xs):=⟨⟨fun pre post h1 h2=>by
 rw [List.flatMap_cons] at h2⊢
 exact vn (v:=vA (K x)) (vs:=K x) rfl (hK.len x) h.pw pre post h1 h2⟩⟩
class Ze (P:Program) (E:TypeId) (m:outParam Nat):Prop where
 ze:∃z,(P.info? E).map (fun i=>(i.zero,i.size))=some (some z,m)
theorem uH {P:Program} {w:World} {T E m n:Nat} {ps:List (Nat×Value)} {cs:List Value} (hT:P.underlying T=some (.slice E)) (hz:∃z,(P.info? E).map (fun i=>(i.zero,i.size))=some (some z,m)) (h:Pc ps 0 m cs) (hl:cs.length=n*m) (h0:0<n*m) (hs:n*m≤2^24):
  (Instr.buildSlice T n ps.toArray).run P w= .ok (.slice (some ⟨w.heap.size,0,none⟩) n n) (w.alloc (.cells cs.toArray E)):=by
 obtain ⟨z,hz⟩:=hz
 obtain ⟨ie,hie,he⟩:=Option.map_eq_some_iff.1 hz
 simp only [Prod.mk.injEq] at he
 obtain ⟨he1,rfl⟩:=he
 refine run_buildSlice w T E n ps.toArray _ ie z hT hie he1 (by omega) (by omega) ?_
 have h1:((Array.range (n*ie.size)).map (z.cells[· %z.cells.size]!))=([]++(List.range (n*ie.size)).map (z.cells[· %z.cells.size]!)).toArray:=by
  apply Array.ext'
  simp
 rw [h1]
 have:=h.pc [] ((List.range (n*ie.size)).map (z.cells[· %z.cells.size]!)) (by simp) (by simp [hl])
 simpa using this
instance {P:Program} {T E n:Nat} {ps:List (Nat×Value)} {cs:List Value} [h:Ix P T E 1 none] [hz:Ze P E 1] [hp:Pc ps 0 1 cs]:Nb P (.bls T n ps) cs E (fun b=> .slice (some ⟨b,0,none⟩) n n) (cs.length=n∧0<n∧n≤16777216):=⟨fun ⟨h1,h2,h3⟩ w=>uH h.ix hz.ze hp (by omega) (by omega) (by omega)⟩
instance {n:Nat} {cs:List Value} {t:List Nat} [h:Fb cs cI t]:Fb (.int .i64 (n:Int)::cs) cI (n::t):=⟨by rw [h.fm];rfl⟩
instance:Fb [.int .u8 0] cB [0]:=⟨rfl⟩
instance:Fb [.int .u8 128] cB [128]:=⟨rfl⟩
instance {n:Nat}:Fb [.int .i64 (n:Int)] cI [n]:=⟨rfl⟩
instance {a:Option Addr} {n c:Nat}:Fb [.slice a n c] cS [(a,n,c)]:=⟨rfl⟩
theorem wI {P:Program} {O:List It} {F:List Pt} {T:TypeId} {x y:Operand} {kk:IntKind} {i j:Int} {a b:Nat} [hi:Ni i a] [hj:Ni j b] (hk:kk.signed=false:=by rfl) (h:a*b<2^kk.bits:=by first |(show _<18446744073709551616;omega)|(show _<4294967296;omega)):Yv P O F (Ak.bin .mul T x y (.int kk i) (.int kk j)) (.int kk ((a*b:Nat):Int)):=aC fun w=>by
 cases hi.ni;cases hj.ni
 have e:(Ak.bin .mul T x y (.int kk (a:Int)) (.int kk (b:Int))).sem.run P w=Result.ok (Value.int kk (kk.wrap ((a:Int)*(b:Int)))) w:=by cases kk<;>rfl
 rw [e,mF hk (m:=a*b) (by simp) h]
end Go.Cz
namespace Go.Cz
open Go Go.RowKit Go.Cs
instance:Inhabited B16:=⟨B16.zero⟩
attribute [simp] B16.h
instance:CL dE 16:=⟨fun x=>by simp [dE],fun x=>iD _⟩
instance {x:B16}:Fb (dE x) cB x.l:=⟨bL _⟩
def cP (a:Option Addr):List Value:= [.pointer a]
instance:CL cP 1:=⟨fun _=>rfl,fun x u hu=>by simp only [cP,List.mem_singleton] at hu;subst hu;rfl⟩
instance {a:Option Addr}:Lv false (cP a) (.pointer a):=⟨.inl ⟨rfl,rfl⟩⟩
@[simp] theorem KV (x:B16):(dE x).length=16:=by simp [dE]
def bC (x:Key):List Value:=dE x.enc++ay x.mac
abbrev Key.zero:Key:=⟨B16.zero,Dig.zero⟩
@[simp] theorem JG (x:Key):(bC x).length=48:=by simp [bC]
instance:CL bC 48:=⟨fun x=>by simp,fun x u hu=>by have h:On (bC x):=(by unfold bC;infer_instance);exact h.on u hu⟩
instance {x:Key}:Sb (bC x) 0 (dE x.enc) True:=⟨fun _=>⟨[],ay x.mac,by simp [bC],rfl⟩⟩
instance {x:Key}:Sb (bC x) 16 (ay x.mac) True:=⟨fun _=>⟨dE x.enc, [],by simp [bC],by simp⟩⟩
@[simp] theorem Km (x:Non):(br x).length=2:=qu x
@[simp] theorem KW (x:Rec):(bY x).length=35:=hZ x
@[simp] theorem KJ (x:Cel):(aL x).length=34:=rW x
class Eqc (P:Program) (T:TypeId) (vs us:List Value) (b:outParam Prop):Prop where
 eq:∃r:Bool,(∀w,(Op.equalIn 10000 T (.agg vs.toArray) (.agg us.toArray)).run P w= .ok r w)∧(r=true↔b)
 gd:P.eqGuardType P.depth T=false
class Zt (P:Program) (T:TypeId) (zs:outParam (List Value)):Prop where
 zt:True
section
variable {P:Program} {G:Gc} {O:List It} {F:List Pt} {C:Value→Pt} {T:TypeId} {x y:Operand} {vs us zs:List Value} {b:Prop}
theorem dJ [h:Eqc P T vs us b] (ht:b→Tr G O F (C (.bool true))) (hf:¬b→Tr G O F (C (.bool false))):Tr G O F (Rv P (.bin .eql T x y (vA vs) (vA us)) C):=by
 obtain ⟨r,h1,h2⟩:=h.eq
 refine ⟨fun w hp=>⟨.bool r,w,se (h1 w) h.gd, ?_⟩⟩
 cases r with
 | true=>exact ht (h2.1 rfl) w hp
 | false=>exact hf (fun hb=>by have:=h2.2 hb;cases this) w hp
theorem dG [h:Eqc P T vs us b] (ht:¬b→Tr G O F (C (.bool true))) (hf:b→Tr G O F (C (.bool false))):Tr G O F (Rv P (.bin .neq T x y (vA vs) (vA us)) C):=by
 obtain ⟨r,h1,h2⟩:=h.eq
 refine ⟨fun w hp=>⟨.bool (!r),w,gE (h1 w) h.gd, ?_⟩⟩
 cases r with
 | true=>exact hf (h2.1 rfl) w hp
 | false=>exact ht (fun hb=>by have:=h2.2 hb;cases this) w hp
section
variable {t8 tn td e t32 t64 r en R E:TypeId}
theorem vB {x y:Dig} (ht:P.underlying T=some (.array 32 e)) (he:P.underlying e=some (.int .u8)) (hs:(P.info? e).map (·.size)=some 1) (hg:P.eqGuardType P.depth T=false):Eqc P T (ay x) (ay y) (x=y):=
 ⟨⟨x.l==y.l,fun w=>gB (dd:=9998) x y ht he hs,by simp only [beq_iff_eq];exact ⟨Dig.ext',fun h=>by rw [h]⟩⟩,hg⟩
theorem CQ {x y:B16} (ht:P.underlying T=some (.array 16 e)) (he:P.underlying e=some (.int .u8)) (hs:(P.info? e).map (·.size)=some 1) (hg:P.eqGuardType P.depth T=false):Eqc P T (dE x) (dE y) (x=y):=
 ⟨⟨x.l==y.l,fun w=>run_equalIn_bytes w 9998 T e 16 ht he (fun w=>Cs.run_sizeOf hs) x.l y.l x.h y.h,by simp only [beq_iff_eq];exact ⟨B16.ext',fun h=>by rw [h]⟩⟩,hg⟩
theorem C9 {x y:Non} (hF:bj P T= [(true,t32,0),(true,t64,1)]) (hp:P.stoodInHeld T=false) (h1:P.underlying t32=some (.int .u32)) (h2:P.underlying t64=some (.int .u64)) (hg:P.eqGuardType P.depth T=false):Eqc P T (br x) (br y) (x=y):=
 ⟨⟨x.eqb y,fun w=>i5 (dd:=9998) x y hF hp h1 h2,Non.eqb_iff x y⟩,hg⟩
theorem Cn {x y:Rec} (hF:bj P T= [(true,t8,0),(true,tn,1),(true,td,3)]) (hp:P.stoodInHeld T=false) (h8:P.underlying t8=some (.int .u8)) (hFn:bj P tn= [(true,t32,0),(true,t64,1)]) (hpn:P.stoodInHeld tn=false)
  (h1:P.underlying t32=some (.int .u32)) (h2:P.underlying t64=some (.int .u64)) (hsn:(P.info? tn).map (·.size)=some 2) (hd:P.underlying td=some (.array 32 e)) (he:P.underlying e=some (.int .u8)) (hse:(P.info? e).map (·.size)=some 1) (hsd:(P.info? td).map (·.size)=some 32) (hg:P.eqGuardType P.depth T=false):Eqc P T (bY x) (bY y) (x=y):=
 ⟨⟨x.eqb y,fun w=>mP (dd:=9997) x y hF hp h8 hFn hpn h1 h2 hsn hd he hse hsd,Rec.eqb_iff x y⟩,hg⟩
theorem DQ {x y:Ent} (hF:bj P T= [(true,t8,0),(true,td,1)]) (hp:P.stoodInHeld T=false) (h8:P.underlying t8=some (.int .u8)) (hd:P.underlying td=some (.array 32 e)) (he:P.underlying e=some (.int .u8)) (hse:(P.info? e).map (·.size)=some 1) (hsd:(P.info? td).map (·.size)=some 32) (hg:P.eqGuardType P.depth T=false):Eqc P T (c6 x) (c6 y) (x=y):=
 ⟨⟨x.eqb y,fun w=>mm (dd:=9997) x y hF hp h8 hd he hse hsd,Ent.eqb_iff x y⟩,hg⟩
theorem Cy {x y:Cel} (hF:bj P T= [(true,td,0),(true,t64,32),(true,t64,33)]) (hp:P.stoodInHeld T=false) (h2:P.underlying t64=some (.int .u64)) (hd:P.underlying td=some (.array 32 e)) (he:P.underlying e=some (.int .u8)) (hse:(P.info? e).map (·.size)=some 1) (hsd:(P.info? td).map (·.size)=some 32) (hg:P.eqGuardType P.depth T=false):Eqc P T (aL x) (aL y) (x=y):=
 ⟨⟨x.eqb y,fun w=>tq (dd:=9997) x y hF hp h2 hd he hse hsd,Cel.eqb_iff x y⟩,hg⟩
theorem Fe {x y:R4} (hT:P.underlying T=some (.array 4 r)) (hst:(P.info? r).map (·.size)=some 35) (hF:bj P r= [(true,t8,0),(true,tn,1),(true,td,3)]) (hp:P.stoodInHeld r=false) (h8:P.underlying t8=some (.int .u8)) (hFn:bj P tn= [(true,t32,0),(true,t64,1)]) (hpn:P.stoodInHeld tn=false)
  (h1:P.underlying t32=some (.int .u32)) (h2:P.underlying t64=some (.int .u64)) (hsn:(P.info? tn).map (·.size)=some 2) (hd:P.underlying td=some (.array 32 e)) (he:P.underlying e=some (.int .u8)) (hse:(P.info? e).map (·.size)=some 1) (hsd:(P.info? td).map (·.size)=some 32) (hg:P.eqGuardType P.depth T=false):Eqc P T (kT x) (kT y) (x=y):=
 ⟨⟨x.eqb y,fun w=>xW (dd:=9996) x y hT hst hF hp h8 hFn hpn h1 h2 hsn hd he hse hsd,R4.eqb_iff x y⟩,hg⟩
theorem Ff {x y:E4} (hT:P.underlying T=some (.array 4 en)) (hst:(P.info? en).map (·.size)=some 33) (hF:bj P en= [(true,t8,0),(true,td,1)]) (hp:P.stoodInHeld en=false) (h8:P.underlying t8=some (.int .u8)) (hd:P.underlying td=some (.array 32 e)) (he:P.underlying e=some (.int .u8)) (hse:(P.info? e).map (·.size)=some 1) (hsd:(P.info? td).map (·.size)=some 32) (hg:P.eqGuardType P.depth T=false):Eqc P T (kO x) (kO y) (x=y):=
 ⟨⟨x.eqb y,fun w=>xJ (dd:=9996) x y hT hst hF hp h8 hd he hse hsd,E4.eqb_iff x y⟩,hg⟩
theorem G1 {xs ys:List Bool} (hx:xs.length=4) (hy:ys.length=4) (ht:P.underlying T=some (.array 4 e)) (he:P.underlying e=some .bool) (hs:(P.info? e).map (·.size)=some 1) (hg:P.eqGuardType P.depth T=false):Eqc P T (jj xs) (jj ys) (xs=ys):=
 ⟨⟨_,fun w=>oO (dd:=9998) xs ys hx hy ht he hs,k4 (d:=false) (eqb:=fun a b:Bool=>a==b) (by simp) hx hy⟩,hg⟩
end
class Pi (P:Program) (T:TypeId):Prop where
 pi:P.underlying T=some (.pointer (P.pointee T))
class Ip (P:Program) (T:TypeId):Prop where
 ip:P.isIface T=true
theorem uX [h:Pi P T]:Yv P O F (Ak.bin .eql T x y (.pointer none) (.pointer none)) (.bool true):=aC fun w=>by
 have h1:=h.pi
 simp [Ak.sem,eqGuard,run_eql_pointer_nil w T none h1]
theorem ur [h:Pi P T] {a:Addr}:Yv P O F (Ak.bin .eql T x y (.pointer (some a)) (.pointer none)) (.bool false):=aC fun w=>by
 have h1:=h.pi
 simp [Ak.sem,eqGuard,run_eql_pointer_nil w T (some a) h1]
theorem oX [h:Ip P T] {c:Value}:Yv P O F (Ak.bin .neq T x (.const c) .nilIface .nilIface) (.bool false):=aC fun w=>by
 simp [Ak.sem,eqGuard,run_neq_nil_nil_at w T h.ip]
theorem pB [h:Ip P T] {c:Value}:Yv P O F (Ak.bin .eql T x (.const c) .nilIface .nilIface) (.bool true):=aC fun w=>by
 simp [Ak.sem,eqGuard,run_eql_nil_nil_at w T h.ip]
class Bp (P:Program) (T:TypeId):Prop where
 bp:P.underlying T=some .bool
theorem wn [h:Bp P T] {a c:Bool}:Yv P O F (Ak.bin .neq T x y (.bool a) (.bool c)) (.bool (!(a==c))):=aC fun w=>by
 simp [Ak.sem,eqGuard,binOp,Op.equal,Op.maxDepth,run_equalIn_bool w 9999 T a c h.bp]
end
end Go.Cz
namespace Go.Cz
open Go Go.RowKit Go.Cs
section
structure SLwc where
 Blocks:Nat
 Shards:Nat
 Limit:Nat
 Reserve:Nat
 Master:Nat
def BR (x:SLwc):List Value:= [.int .u8 ((x.Blocks:Nat):Int)]++([.int .u8 ((x.Shards:Nat):Int)]++([.int .u8 ((x.Limit:Nat):Int)]++([.int .u8 ((x.Reserve:Nat):Int)]++([.int .u8 ((x.Master:Nat):Int)]))))
abbrev SLwc.zero:SLwc:=⟨0,0,0,0,0⟩
instance:CL BR 5:=⟨fun x=>by simp [BR],fun x u hu=>(by unfold BR;infer_instance:On (BR x)).on u hu⟩
@[simp] theorem KU (x:SLwc):(BR x).length=5:=CL.len x
end
section
structure SCfg where
 Blocks:Nat
 Shards:Nat
 Frames:Nat
 Clients:Nat
 Limit:Nat
 Reserve:Nat
 Master:Dig
 Flaw:Nat
def bq (x:SCfg):List Value:= [.int .i64 ((x.Blocks:Nat):Int)]++([.int .i64 ((x.Shards:Nat):Int)]++([.int .i64 ((x.Frames:Nat):Int)]++([.int .i64 ((x.Clients:Nat):Int)]++([.int .u64 ((x.Limit:Nat):Int)]++([.int .u64 ((x.Reserve:Nat):Int)]++(ay x.Master++([.int .u8 ((x.Flaw:Nat):Int)])))))))
abbrev SCfg.zero:SCfg:=⟨0,0,0,0,0,0,Dig.zero,0⟩
instance:CL bq 39:=⟨fun x=>by simp [bq],fun x u hu=>(by unfold bq;infer_instance:On (bq x)).on u hu⟩
@[simp] theorem KH (x:SCfg):(bq x).length=39:=CL.len x
instance {x:SCfg}:Sb (bq x) 0 ([.int .i64 ((x.Blocks:Nat):Int)]) True:=⟨fun _=>⟨[], [.int .i64 ((x.Shards:Nat):Int)]++([.int .i64 ((x.Frames:Nat):Int)]++([.int .i64 ((x.Clients:Nat):Int)]++([.int .u64 ((x.Limit:Nat):Int)]++([.int .u64 ((x.Reserve:Nat):Int)]++(ay x.Master++([.int .u8 ((x.Flaw:Nat):Int)])))))),by simp [bq],by simp⟩⟩
instance {x:SCfg} {y:Nat} {z:Int} [h:Ni z y]:Ub (bq x) 0 ([.int .i64 z]) (bq {x with Blocks:=y}) True:=⟨fun _=>by cases h.ni;exact ⟨[], [.int .i64 ((x.Blocks:Nat):Int)], [.int .i64 ((x.Shards:Nat):Int)]++([.int .i64 ((x.Frames:Nat):Int)]++([.int .i64 ((x.Clients:Nat):Int)]++([.int .u64 ((x.Limit:Nat):Int)]++([.int .u64 ((x.Reserve:Nat):Int)]++(ay x.Master++([.int .u8 ((x.Flaw:Nat):Int)])))))),by simp [bq],by simp,by simp,by simp [bq]⟩⟩
instance {x:SCfg}:Sb (bq x) 1 ([.int .i64 ((x.Shards:Nat):Int)]) True:=⟨fun _=>⟨[.int .i64 ((x.Blocks:Nat):Int)], [.int .i64 ((x.Frames:Nat):Int)]++([.int .i64 ((x.Clients:Nat):Int)]++([.int .u64 ((x.Limit:Nat):Int)]++([.int .u64 ((x.Reserve:Nat):Int)]++(ay x.Master++([.int .u8 ((x.Flaw:Nat):Int)]))))),by simp [bq],by simp⟩⟩
instance {x:SCfg} {y:Nat} {z:Int} [h:Ni z y]:Ub (bq x) 1 ([.int .i64 z]) (bq {x with Shards:=y}) True:=⟨fun _=>by cases h.ni;exact ⟨[.int .i64 ((x.Blocks:Nat):Int)], [.int .i64 ((x.Shards:Nat):Int)], [.int .i64 ((x.Frames:Nat):Int)]++([.int .i64 ((x.Clients:Nat):Int)]++([.int .u64 ((x.Limit:Nat):Int)]++([.int .u64 ((x.Reserve:Nat):Int)]++(ay x.Master++([.int .u8 ((x.Flaw:Nat):Int)]))))),by simp [bq],by simp,by simp,by simp [bq]⟩⟩
instance {x:SCfg}:Sb (bq x) 4 ([.int .u64 ((x.Limit:Nat):Int)]) True:=⟨fun _=>⟨[.int .i64 ((x.Blocks:Nat):Int)]++([.int .i64 ((x.Shards:Nat):Int)]++([.int .i64 ((x.Frames:Nat):Int)]++([.int .i64 ((x.Clients:Nat):Int)]))), [.int .u64 ((x.Reserve:Nat):Int)]++(ay x.Master++([.int .u8 ((x.Flaw:Nat):Int)])),by simp [bq],by simp⟩⟩
instance {x:SCfg} {y:Nat} {z:Int} [h:Ni z y]:Ub (bq x) 4 ([.int .u64 z]) (bq {x with Limit:=y}) True:=⟨fun _=>by cases h.ni;exact ⟨[.int .i64 ((x.Blocks:Nat):Int)]++([.int .i64 ((x.Shards:Nat):Int)]++([.int .i64 ((x.Frames:Nat):Int)]++([.int .i64 ((x.Clients:Nat):Int)]))), [.int .u64 ((x.Limit:Nat):Int)], [.int .u64 ((x.Reserve:Nat):Int)]++(ay x.Master++([.int .u8 ((x.Flaw:Nat):Int)])),by simp [bq],by simp,by simp,by simp [bq]⟩⟩
instance {x:SCfg}:Sb (bq x) 5 ([.int .u64 ((x.Reserve:Nat):Int)]) True:=⟨fun _=>⟨[.int .i64 ((x.Blocks:Nat):Int)]++([.int .i64 ((x.Shards:Nat):Int)]++([.int .i64 ((x.Frames:Nat):Int)]++([.int .i64 ((x.Clients:Nat):Int)]++([.int .u64 ((x.Limit:Nat):Int)])))),ay x.Master++([.int .u8 ((x.Flaw:Nat):Int)]),by simp [bq],by simp⟩⟩
instance {x:SCfg} {y:Nat} {z:Int} [h:Ni z y]:Ub (bq x) 5 ([.int .u64 z]) (bq {x with Reserve:=y}) True:=⟨fun _=>by cases h.ni;exact ⟨[.int .i64 ((x.Blocks:Nat):Int)]++([.int .i64 ((x.Shards:Nat):Int)]++([.int .i64 ((x.Frames:Nat):Int)]++([.int .i64 ((x.Clients:Nat):Int)]++([.int .u64 ((x.Limit:Nat):Int)])))), [.int .u64 ((x.Reserve:Nat):Int)],ay x.Master++([.int .u8 ((x.Flaw:Nat):Int)]),by simp [bq],by simp,by simp,by simp [bq]⟩⟩
instance {x:SCfg}:Sb (bq x) 6 (ay x.Master) True:=⟨fun _=>⟨[.int .i64 ((x.Blocks:Nat):Int)]++([.int .i64 ((x.Shards:Nat):Int)]++([.int .i64 ((x.Frames:Nat):Int)]++([.int .i64 ((x.Clients:Nat):Int)]++([.int .u64 ((x.Limit:Nat):Int)]++([.int .u64 ((x.Reserve:Nat):Int)]))))), [.int .u8 ((x.Flaw:Nat):Int)],by simp [bq],by simp⟩⟩
instance {x:SCfg} {y:Dig}:Ub (bq x) 6 (ay y) (bq {x with Master:=y}) True:=⟨fun _=>⟨[.int .i64 ((x.Blocks:Nat):Int)]++([.int .i64 ((x.Shards:Nat):Int)]++([.int .i64 ((x.Frames:Nat):Int)]++([.int .i64 ((x.Clients:Nat):Int)]++([.int .u64 ((x.Limit:Nat):Int)]++([.int .u64 ((x.Reserve:Nat):Int)]))))),ay x.Master, [.int .u8 ((x.Flaw:Nat):Int)],by simp [bq],by simp,by simp,by simp [bq]⟩⟩
end
section
structure SDsk where
 size:Nat
 changes:Nat
 chunks:Sv
def aJ (x:SDsk):List Value:= [.int .i64 ((x.size:Nat):Int)]++([.int .i64 ((x.changes:Nat):Int)]++([.slice x.chunks.1 x.chunks.2.1 x.chunks.2.2]))
abbrev SDsk.zero:SDsk:=⟨0,0,(none,0,0)⟩
instance:CL aJ 3:=⟨fun x=>by simp [aJ],fun x u hu=>(by unfold aJ;infer_instance:On (aJ x)).on u hu⟩
@[simp] theorem J5 (x:SDsk):(aJ x).length=3:=CL.len x
instance {x:SDsk}:Sb (aJ x) 0 ([.int .i64 ((x.size:Nat):Int)]) True:=⟨fun _=>⟨[], [.int .i64 ((x.changes:Nat):Int)]++([.slice x.chunks.1 x.chunks.2.1 x.chunks.2.2]),by simp [aJ],by simp⟩⟩
instance {x:SDsk} {y:Nat} {z:Int} [h:Ni z y]:Ub (aJ x) 0 ([.int .i64 z]) (aJ {x with size:=y}) True:=⟨fun _=>by cases h.ni;exact ⟨[], [.int .i64 ((x.size:Nat):Int)], [.int .i64 ((x.changes:Nat):Int)]++([.slice x.chunks.1 x.chunks.2.1 x.chunks.2.2]),by simp [aJ],by simp,by simp,by simp [aJ]⟩⟩
instance {x:SDsk}:Sb (aJ x) 1 ([.int .i64 ((x.changes:Nat):Int)]) True:=⟨fun _=>⟨[.int .i64 ((x.size:Nat):Int)], [.slice x.chunks.1 x.chunks.2.1 x.chunks.2.2],by simp [aJ],by simp⟩⟩
instance {x:SDsk} {y:Nat} {z:Int} [h:Ni z y]:Ub (aJ x) 1 ([.int .i64 z]) (aJ {x with changes:=y}) True:=⟨fun _=>by cases h.ni;exact ⟨[.int .i64 ((x.size:Nat):Int)], [.int .i64 ((x.changes:Nat):Int)], [.slice x.chunks.1 x.chunks.2.1 x.chunks.2.2],by simp [aJ],by simp,by simp,by simp [aJ]⟩⟩
instance {x:SDsk}:Sb (aJ x) 2 ([.slice x.chunks.1 x.chunks.2.1 x.chunks.2.2]) True:=⟨fun _=>⟨[.int .i64 ((x.size:Nat):Int)]++([.int .i64 ((x.changes:Nat):Int)]), [],by simp [aJ],by simp⟩⟩
instance {x:SDsk} {a:Option Addr} {n c:Nat}:Ub (aJ x) 2 ([.slice a n c]) (aJ {x with chunks:=(a,n,c)}) True:=⟨fun _=>⟨[.int .i64 ((x.size:Nat):Int)]++([.int .i64 ((x.changes:Nat):Int)]), [.slice x.chunks.1 x.chunks.2.1 x.chunks.2.2], [],by simp [aJ],by simp,by simp,by simp [aJ]⟩⟩
end
section
structure SAlo where
 Counters:Sv
 Mark:Nat
 Limit:Nat
 Reserve:Nat
def aW (x:SAlo):List Value:= [.slice x.Counters.1 x.Counters.2.1 x.Counters.2.2]++([.int .u64 ((x.Mark:Nat):Int)]++([.int .u64 ((x.Limit:Nat):Int)]++([.int .u64 ((x.Reserve:Nat):Int)])))
abbrev SAlo.zero:SAlo:=⟨(none,0,0),0,0,0⟩
instance:CL aW 4:=⟨fun x=>by simp [aW],fun x u hu=>(by unfold aW;infer_instance:On (aW x)).on u hu⟩
@[simp] theorem Kz (x:SAlo):(aW x).length=4:=CL.len x
instance {x:SAlo}:Sb (aW x) 0 ([.slice x.Counters.1 x.Counters.2.1 x.Counters.2.2]) True:=⟨fun _=>⟨[], [.int .u64 ((x.Mark:Nat):Int)]++([.int .u64 ((x.Limit:Nat):Int)]++([.int .u64 ((x.Reserve:Nat):Int)])),by simp [aW],by simp⟩⟩
instance {x:SAlo} {a:Option Addr} {n c:Nat}:Ub (aW x) 0 ([.slice a n c]) (aW {x with Counters:=(a,n,c)}) True:=⟨fun _=>⟨[], [.slice x.Counters.1 x.Counters.2.1 x.Counters.2.2], [.int .u64 ((x.Mark:Nat):Int)]++([.int .u64 ((x.Limit:Nat):Int)]++([.int .u64 ((x.Reserve:Nat):Int)])),by simp [aW],by simp,by simp,by simp [aW]⟩⟩
instance {x:SAlo}:Sb (aW x) 1 ([.int .u64 ((x.Mark:Nat):Int)]) True:=⟨fun _=>⟨[.slice x.Counters.1 x.Counters.2.1 x.Counters.2.2], [.int .u64 ((x.Limit:Nat):Int)]++([.int .u64 ((x.Reserve:Nat):Int)]),by simp [aW],by simp⟩⟩
instance {x:SAlo} {y:Nat} {z:Int} [h:Ni z y]:Ub (aW x) 1 ([.int .u64 z]) (aW {x with Mark:=y}) True:=⟨fun _=>by cases h.ni;exact ⟨[.slice x.Counters.1 x.Counters.2.1 x.Counters.2.2], [.int .u64 ((x.Mark:Nat):Int)], [.int .u64 ((x.Limit:Nat):Int)]++([.int .u64 ((x.Reserve:Nat):Int)]),by simp [aW],by simp,by simp,by simp [aW]⟩⟩
instance {x:SAlo}:Sb (aW x) 2 ([.int .u64 ((x.Limit:Nat):Int)]) True:=⟨fun _=>⟨[.slice x.Counters.1 x.Counters.2.1 x.Counters.2.2]++([.int .u64 ((x.Mark:Nat):Int)]), [.int .u64 ((x.Reserve:Nat):Int)],by simp [aW],by simp⟩⟩
instance {x:SAlo} {y:Nat} {z:Int} [h:Ni z y]:Ub (aW x) 2 ([.int .u64 z]) (aW {x with Limit:=y}) True:=⟨fun _=>by cases h.ni;exact ⟨[.slice x.Counters.1 x.Counters.2.1 x.Counters.2.2]++([.int .u64 ((x.Mark:Nat):Int)]), [.int .u64 ((x.Limit:Nat):Int)], [.int .u64 ((x.Reserve:Nat):Int)],by simp [aW],by simp,by simp,by simp [aW]⟩⟩
instance {x:SAlo}:Sb (aW x) 3 ([.int .u64 ((x.Reserve:Nat):Int)]) True:=⟨fun _=>⟨[.slice x.Counters.1 x.Counters.2.1 x.Counters.2.2]++([.int .u64 ((x.Mark:Nat):Int)]++([.int .u64 ((x.Limit:Nat):Int)])), [],by simp [aW],by simp⟩⟩
instance {x:SAlo} {y:Nat} {z:Int} [h:Ni z y]:Ub (aW x) 3 ([.int .u64 z]) (aW {x with Reserve:=y}) True:=⟨fun _=>by cases h.ni;exact ⟨[.slice x.Counters.1 x.Counters.2.1 x.Counters.2.2]++([.int .u64 ((x.Mark:Nat):Int)]++([.int .u64 ((x.Limit:Nat):Int)])), [.int .u64 ((x.Reserve:Nat):Int)], [],by simp [aW],by simp,by simp,by simp [aW]⟩⟩
end
section
structure SUtr where
 Blocks:Nat
 Nodes:Sv
def aV (x:SUtr):List Value:= [.int .i64 ((x.Blocks:Nat):Int)]++([.slice x.Nodes.1 x.Nodes.2.1 x.Nodes.2.2])
abbrev SUtr.zero:SUtr:=⟨0,(none,0,0)⟩
instance:CL aV 2:=⟨fun x=>by simp [aV],fun x u hu=>(by unfold aV;infer_instance:On (aV x)).on u hu⟩
@[simp] theorem Kh (x:SUtr):(aV x).length=2:=CL.len x
instance {x:SUtr}:Sb (aV x) 0 ([.int .i64 ((x.Blocks:Nat):Int)]) True:=⟨fun _=>⟨[], [.slice x.Nodes.1 x.Nodes.2.1 x.Nodes.2.2],by simp [aV],by simp⟩⟩
instance {x:SUtr} {y:Nat} {z:Int} [h:Ni z y]:Ub (aV x) 0 ([.int .i64 z]) (aV {x with Blocks:=y}) True:=⟨fun _=>by cases h.ni;exact ⟨[], [.int .i64 ((x.Blocks:Nat):Int)], [.slice x.Nodes.1 x.Nodes.2.1 x.Nodes.2.2],by simp [aV],by simp,by simp,by simp [aV]⟩⟩
instance {x:SUtr}:Sb (aV x) 1 ([.slice x.Nodes.1 x.Nodes.2.1 x.Nodes.2.2]) True:=⟨fun _=>⟨[.int .i64 ((x.Blocks:Nat):Int)], [],by simp [aV],by simp⟩⟩
instance {x:SUtr} {a:Option Addr} {n c:Nat}:Ub (aV x) 1 ([.slice a n c]) (aV {x with Nodes:=(a,n,c)}) True:=⟨fun _=>⟨[.int .i64 ((x.Blocks:Nat):Int)], [.slice x.Nodes.1 x.Nodes.2.1 x.Nodes.2.2], [],by simp [aV],by simp,by simp,by simp [aV]⟩⟩
end
section
structure SLdg where
 Uses:Sv
def b0 (x:SLdg):List Value:= [.slice x.Uses.1 x.Uses.2.1 x.Uses.2.2]
abbrev SLdg.zero:SLdg:=⟨(none,0,0)⟩
instance:CL b0 1:=⟨fun x=>by simp [b0],fun x u hu=>(by unfold b0;infer_instance:On (b0 x)).on u hu⟩
@[simp] theorem Kw (x:SLdg):(b0 x).length=1:=CL.len x
instance {x:SLdg}:Sb (b0 x) 0 ([.slice x.Uses.1 x.Uses.2.1 x.Uses.2.2]) True:=⟨fun _=>⟨[], [],by simp [b0],by simp⟩⟩
instance {x:SLdg} {a:Option Addr} {n c:Nat}:Ub (b0 x) 0 ([.slice a n c]) (b0 {x with Uses:=(a,n,c)}) True:=⟨fun _=>⟨[], [.slice x.Uses.1 x.Uses.2.1 x.Uses.2.2], [],by simp [b0],by simp,by simp,by simp [b0]⟩⟩
end
section
structure SSto where
 n:Nat
 keys:Key
 disk:SDsk
 log:Sv
 alloc:SAlo
 tree:SUtr
 ledger:SLdg
 poisoned:Bool
def aB (x:SSto):List Value:= [.int .i64 ((x.n:Nat):Int)]++(bC x.keys++(aJ x.disk++([.slice x.log.1 x.log.2.1 x.log.2.2]++(aW x.alloc++(aV x.tree++(b0 x.ledger++([.bool x.poisoned])))))))
abbrev SSto.zero:SSto:=⟨0,Key.zero,SDsk.zero,(none,0,0),SAlo.zero,SUtr.zero,SLdg.zero,false⟩
instance:CL aB 61:=⟨fun x=>by simp [aB],fun x u hu=>(by unfold aB;infer_instance:On (aB x)).on u hu⟩
@[simp] theorem KY (x:SSto):(aB x).length=61:=CL.len x
instance {x:SSto}:Sb (aB x) 0 ([.int .i64 ((x.n:Nat):Int)]) True:=⟨fun _=>⟨[],bC x.keys++(aJ x.disk++([.slice x.log.1 x.log.2.1 x.log.2.2]++(aW x.alloc++(aV x.tree++(b0 x.ledger++([.bool x.poisoned])))))),by simp [aB],by simp⟩⟩
instance {x:SSto} {y:Nat} {z:Int} [h:Ni z y]:Ub (aB x) 0 ([.int .i64 z]) (aB {x with n:=y}) True:=⟨fun _=>by cases h.ni;exact ⟨[], [.int .i64 ((x.n:Nat):Int)],bC x.keys++(aJ x.disk++([.slice x.log.1 x.log.2.1 x.log.2.2]++(aW x.alloc++(aV x.tree++(b0 x.ledger++([.bool x.poisoned])))))),by simp [aB],by simp,by simp,by simp [aB]⟩⟩
instance {x:SSto}:Sb (aB x) 1 (bC x.keys) True:=⟨fun _=>⟨[.int .i64 ((x.n:Nat):Int)],aJ x.disk++([.slice x.log.1 x.log.2.1 x.log.2.2]++(aW x.alloc++(aV x.tree++(b0 x.ledger++([.bool x.poisoned]))))),by simp [aB],by simp⟩⟩
instance {x:SSto} {y:Key}:Ub (aB x) 1 (bC y) (aB {x with keys:=y}) True:=⟨fun _=>⟨[.int .i64 ((x.n:Nat):Int)],bC x.keys,aJ x.disk++([.slice x.log.1 x.log.2.1 x.log.2.2]++(aW x.alloc++(aV x.tree++(b0 x.ledger++([.bool x.poisoned]))))),by simp [aB],by simp,by simp,by simp [aB]⟩⟩
instance {x:SSto}:Sb (aB x) 49 (aJ x.disk) True:=⟨fun _=>⟨[.int .i64 ((x.n:Nat):Int)]++(bC x.keys), [.slice x.log.1 x.log.2.1 x.log.2.2]++(aW x.alloc++(aV x.tree++(b0 x.ledger++([.bool x.poisoned])))),by simp [aB],by simp⟩⟩
instance {x:SSto} {y:SDsk}:Ub (aB x) 49 (aJ y) (aB {x with disk:=y}) True:=⟨fun _=>⟨[.int .i64 ((x.n:Nat):Int)]++(bC x.keys),aJ x.disk, [.slice x.log.1 x.log.2.1 x.log.2.2]++(aW x.alloc++(aV x.tree++(b0 x.ledger++([.bool x.poisoned])))),by simp [aB],by simp,by simp,by simp [aB]⟩⟩
instance {x:SSto}:Sb (aB x) 52 ([.slice x.log.1 x.log.2.1 x.log.2.2]) True:=⟨fun _=>⟨[.int .i64 ((x.n:Nat):Int)]++(bC x.keys++(aJ x.disk)),aW x.alloc++(aV x.tree++(b0 x.ledger++([.bool x.poisoned]))),by simp [aB],by simp⟩⟩
instance {x:SSto} {a:Option Addr} {n c:Nat}:Ub (aB x) 52 ([.slice a n c]) (aB {x with log:=(a,n,c)}) True:=⟨fun _=>⟨[.int .i64 ((x.n:Nat):Int)]++(bC x.keys++(aJ x.disk)), [.slice x.log.1 x.log.2.1 x.log.2.2],aW x.alloc++(aV x.tree++(b0 x.ledger++([.bool x.poisoned]))),by simp [aB],by simp,by simp,by simp [aB]⟩⟩
instance {x:SSto}:Sb (aB x) 53 (aW x.alloc) True:=⟨fun _=>⟨[.int .i64 ((x.n:Nat):Int)]++(bC x.keys++(aJ x.disk++([.slice x.log.1 x.log.2.1 x.log.2.2]))),aV x.tree++(b0 x.ledger++([.bool x.poisoned])),by simp [aB],by simp⟩⟩
instance {x:SSto} {y:SAlo}:Ub (aB x) 53 (aW y) (aB {x with alloc:=y}) True:=⟨fun _=>⟨[.int .i64 ((x.n:Nat):Int)]++(bC x.keys++(aJ x.disk++([.slice x.log.1 x.log.2.1 x.log.2.2]))),aW x.alloc,aV x.tree++(b0 x.ledger++([.bool x.poisoned])),by simp [aB],by simp,by simp,by simp [aB]⟩⟩
instance {x:SSto}:Sb (aB x) 57 (aV x.tree) True:=⟨fun _=>⟨[.int .i64 ((x.n:Nat):Int)]++(bC x.keys++(aJ x.disk++([.slice x.log.1 x.log.2.1 x.log.2.2]++(aW x.alloc)))),b0 x.ledger++([.bool x.poisoned]),by simp [aB],by simp⟩⟩
instance {x:SSto} {y:SUtr}:Ub (aB x) 57 (aV y) (aB {x with tree:=y}) True:=⟨fun _=>⟨[.int .i64 ((x.n:Nat):Int)]++(bC x.keys++(aJ x.disk++([.slice x.log.1 x.log.2.1 x.log.2.2]++(aW x.alloc)))),aV x.tree,b0 x.ledger++([.bool x.poisoned]),by simp [aB],by simp,by simp,by simp [aB]⟩⟩
instance {x:SSto}:Sb (aB x) 59 (b0 x.ledger) True:=⟨fun _=>⟨[.int .i64 ((x.n:Nat):Int)]++(bC x.keys++(aJ x.disk++([.slice x.log.1 x.log.2.1 x.log.2.2]++(aW x.alloc++(aV x.tree))))), [.bool x.poisoned],by simp [aB],by simp⟩⟩
instance {x:SSto} {y:SLdg}:Ub (aB x) 59 (b0 y) (aB {x with ledger:=y}) True:=⟨fun _=>⟨[.int .i64 ((x.n:Nat):Int)]++(bC x.keys++(aJ x.disk++([.slice x.log.1 x.log.2.1 x.log.2.2]++(aW x.alloc++(aV x.tree))))),b0 x.ledger, [.bool x.poisoned],by simp [aB],by simp,by simp,by simp [aB]⟩⟩
instance {x:SSto}:Sb (aB x) 60 ([.bool x.poisoned]) True:=⟨fun _=>⟨[.int .i64 ((x.n:Nat):Int)]++(bC x.keys++(aJ x.disk++([.slice x.log.1 x.log.2.1 x.log.2.2]++(aW x.alloc++(aV x.tree++(b0 x.ledger)))))), [],by simp [aB],by simp⟩⟩
instance {x:SSto} {y:Bool}:Ub (aB x) 60 ([.bool y]) (aB {x with poisoned:=y}) True:=⟨fun _=>⟨[.int .i64 ((x.n:Nat):Int)]++(bC x.keys++(aJ x.disk++([.slice x.log.1 x.log.2.1 x.log.2.2]++(aW x.alloc++(aV x.tree++(b0 x.ledger)))))), [.bool x.poisoned], [],by simp [aB],by simp,by simp,by simp [aB]⟩⟩
end
section
structure SPrb where
 Sector:Nat
 Fault:Nat
def bW (x:SPrb):List Value:= [.int .i64 ((x.Sector:Nat):Int)]++([.int .u8 ((x.Fault:Nat):Int)])
abbrev SPrb.zero:SPrb:=⟨0,0⟩
instance:CL bW 2:=⟨fun x=>by simp [bW],fun x u hu=>(by unfold bW;infer_instance:On (bW x)).on u hu⟩
@[simp] theorem Kj (x:SPrb):(bW x).length=2:=CL.len x
instance {x:SPrb} {y:Nat} {z:Int} [h:Ni z y]:Ub (bW x) 0 ([.int .i64 z]) (bW {x with Sector:=y}) True:=⟨fun _=>by cases h.ni;exact ⟨[], [.int .i64 ((x.Sector:Nat):Int)], [.int .u8 ((x.Fault:Nat):Int)],by simp [bW],by simp,by simp,by simp [bW]⟩⟩
instance {x:SPrb} {y:Nat} {z:Int} [h:Ni z y]:Ub (bW x) 1 ([.int .u8 z]) (bW {x with Fault:=y}) True:=⟨fun _=>by cases h.ni;exact ⟨[.int .i64 ((x.Sector:Nat):Int)], [.int .u8 ((x.Fault:Nat):Int)], [],by simp [bW],by simp,by simp,by simp [bW]⟩⟩
end
section
structure SLwo where
 Blocks:Nat
 Ops:Sv
def iC (x:SLwo):List Value:= [.int .u8 ((x.Blocks:Nat):Int)]++([.slice x.Ops.1 x.Ops.2.1 x.Ops.2.2])
abbrev SLwo.zero:SLwo:=⟨0,(none,0,0)⟩
instance:CL iC 2:=⟨fun x=>by simp [iC],fun x u hu=>(by unfold iC;infer_instance:On (iC x)).on u hu⟩
@[simp] theorem Lj (x:SLwo):(iC x).length=2:=CL.len x
instance {x:SLwo}:Sb (iC x) 0 ([.int .u8 ((x.Blocks:Nat):Int)]) True:=⟨fun _=>⟨[], [.slice x.Ops.1 x.Ops.2.1 x.Ops.2.2],by simp [iC],by simp⟩⟩
instance {x:SLwo}:Sb (iC x) 1 ([.slice x.Ops.1 x.Ops.2.1 x.Ops.2.2]) True:=⟨fun _=>⟨[.int .u8 ((x.Blocks:Nat):Int)], [],by simp [iC],by simp⟩⟩
end
section
structure SAry where
 Now:Sv
 Durable:Sv
def cf (x:SAry):List Value:= [.slice x.Now.1 x.Now.2.1 x.Now.2.2]++([.slice x.Durable.1 x.Durable.2.1 x.Durable.2.2])
abbrev SAry.zero:SAry:=⟨(none,0,0),(none,0,0)⟩
instance:CL cf 2:=⟨fun x=>by simp [cf],fun x u hu=>(by unfold cf;infer_instance:On (cf x)).on u hu⟩
@[simp] theorem Lm (x:SAry):(cf x).length=2:=CL.len x
instance {x:SAry}:Sb (cf x) 0 ([.slice x.Now.1 x.Now.2.1 x.Now.2.2]) True:=⟨fun _=>⟨[], [.slice x.Durable.1 x.Durable.2.1 x.Durable.2.2],by simp [cf],by simp⟩⟩
instance {x:SAry} {a:Option Addr} {n c:Nat}:Ub (cf x) 0 ([.slice a n c]) (cf {x with Now:=(a,n,c)}) True:=⟨fun _=>⟨[], [.slice x.Now.1 x.Now.2.1 x.Now.2.2], [.slice x.Durable.1 x.Durable.2.1 x.Durable.2.2],by simp [cf],by simp,by simp,by simp [cf]⟩⟩
instance {x:SAry}:Sb (cf x) 1 ([.slice x.Durable.1 x.Durable.2.1 x.Durable.2.2]) True:=⟨fun _=>⟨[.slice x.Now.1 x.Now.2.1 x.Now.2.2], [],by simp [cf],by simp⟩⟩
instance {x:SAry} {a:Option Addr} {n c:Nat}:Ub (cf x) 1 ([.slice a n c]) (cf {x with Durable:=(a,n,c)}) True:=⟨fun _=>⟨[.slice x.Now.1 x.Now.2.1 x.Now.2.2], [.slice x.Durable.1 x.Durable.2.1 x.Durable.2.2], [],by simp [cf],by simp,by simp,by simp [cf]⟩⟩
end
section
structure SMtr where
 Blocks:Nat
 Nodes:Sv
def cy (x:SMtr):List Value:= [.int .i64 ((x.Blocks:Nat):Int)]++([.slice x.Nodes.1 x.Nodes.2.1 x.Nodes.2.2])
abbrev SMtr.zero:SMtr:=⟨0,(none,0,0)⟩
instance:CL cy 2:=⟨fun x=>by simp [cy],fun x u hu=>(by unfold cy;infer_instance:On (cy x)).on u hu⟩
@[simp] theorem K8 (x:SMtr):(cy x).length=2:=CL.len x
instance {x:SMtr}:Sb (cy x) 0 ([.int .i64 ((x.Blocks:Nat):Int)]) True:=⟨fun _=>⟨[], [.slice x.Nodes.1 x.Nodes.2.1 x.Nodes.2.2],by simp [cy],by simp⟩⟩
instance {x:SMtr} {y:Nat} {z:Int} [h:Ni z y]:Ub (cy x) 0 ([.int .i64 z]) (cy {x with Blocks:=y}) True:=⟨fun _=>by cases h.ni;exact ⟨[], [.int .i64 ((x.Blocks:Nat):Int)], [.slice x.Nodes.1 x.Nodes.2.1 x.Nodes.2.2],by simp [cy],by simp,by simp,by simp [cy]⟩⟩
instance {x:SMtr}:Sb (cy x) 1 ([.slice x.Nodes.1 x.Nodes.2.1 x.Nodes.2.2]) True:=⟨fun _=>⟨[.int .i64 ((x.Blocks:Nat):Int)], [],by simp [cy],by simp⟩⟩
instance {x:SMtr} {a:Option Addr} {n c:Nat}:Ub (cy x) 1 ([.slice a n c]) (cy {x with Nodes:=(a,n,c)}) True:=⟨fun _=>⟨[.int .i64 ((x.Blocks:Nat):Int)], [.slice x.Nodes.1 x.Nodes.2.1 x.Nodes.2.2], [],by simp [cy],by simp,by simp,by simp [cy]⟩⟩
end
section
structure SMpr where
 Block:Nat
 Nodes:Sv
def dy (x:SMpr):List Value:= [.int .i64 ((x.Block:Nat):Int)]++([.slice x.Nodes.1 x.Nodes.2.1 x.Nodes.2.2])
abbrev SMpr.zero:SMpr:=⟨0,(none,0,0)⟩
instance:CL dy 2:=⟨fun x=>by simp [dy],fun x u hu=>(by unfold dy;infer_instance:On (dy x)).on u hu⟩
@[simp] theorem Kd (x:SMpr):(dy x).length=2:=CL.len x
instance {x:SMpr}:Sb (dy x) 0 ([.int .i64 ((x.Block:Nat):Int)]) True:=⟨fun _=>⟨[], [.slice x.Nodes.1 x.Nodes.2.1 x.Nodes.2.2],by simp [dy],by simp⟩⟩
instance {x:SMpr} {y:Nat} {z:Int} [h:Ni z y]:Ub (dy x) 0 ([.int .i64 z]) (dy {x with Block:=y}) True:=⟨fun _=>by cases h.ni;exact ⟨[], [.int .i64 ((x.Block:Nat):Int)], [.slice x.Nodes.1 x.Nodes.2.1 x.Nodes.2.2],by simp [dy],by simp,by simp,by simp [dy]⟩⟩
instance {x:SMpr}:Sb (dy x) 1 ([.slice x.Nodes.1 x.Nodes.2.1 x.Nodes.2.2]) True:=⟨fun _=>⟨[.int .i64 ((x.Block:Nat):Int)], [],by simp [dy],by simp⟩⟩
instance {x:SMpr} {a:Option Addr} {n c:Nat}:Ub (dy x) 1 ([.slice a n c]) (dy {x with Nodes:=(a,n,c)}) True:=⟨fun _=>⟨[.int .i64 ((x.Block:Nat):Int)], [.slice x.Nodes.1 x.Nodes.2.1 x.Nodes.2.2], [],by simp [dy],by simp,by simp,by simp [dy]⟩⟩
end
section
structure SRng where
 Nonce:Non
 First:Nat
 Last:Nat
def b6 (x:SRng):List Value:=br x.Nonce++([.int .u32 ((x.First:Nat):Int)]++([.int .u32 ((x.Last:Nat):Int)]))
abbrev SRng.zero:SRng:=⟨Non.zero,0,0⟩
instance:CL b6 4:=⟨fun x=>by simp [b6],fun x u hu=>(by unfold b6;infer_instance:On (b6 x)).on u hu⟩
@[simp] theorem K6 (x:SRng):(b6 x).length=4:=CL.len x
instance {x:SRng}:Sb (b6 x) 0 (br x.Nonce) True:=⟨fun _=>⟨[], [.int .u32 ((x.First:Nat):Int)]++([.int .u32 ((x.Last:Nat):Int)]),by simp [b6],by simp⟩⟩
instance {x:SRng} {y:Non}:Ub (b6 x) 0 (br y) (b6 {x with Nonce:=y}) True:=⟨fun _=>⟨[],br x.Nonce, [.int .u32 ((x.First:Nat):Int)]++([.int .u32 ((x.Last:Nat):Int)]),by simp [b6],by simp,by simp,by simp [b6]⟩⟩
instance {x:SRng}:Sb (b6 x) 2 ([.int .u32 ((x.First:Nat):Int)]) True:=⟨fun _=>⟨br x.Nonce, [.int .u32 ((x.Last:Nat):Int)],by simp [b6],by simp⟩⟩
instance {x:SRng} {y:Nat} {z:Int} [h:Ni z y]:Ub (b6 x) 2 ([.int .u32 z]) (b6 {x with First:=y}) True:=⟨fun _=>by cases h.ni;exact ⟨br x.Nonce, [.int .u32 ((x.First:Nat):Int)], [.int .u32 ((x.Last:Nat):Int)],by simp [b6],by simp,by simp,by simp [b6]⟩⟩
instance {x:SRng}:Sb (b6 x) 3 ([.int .u32 ((x.Last:Nat):Int)]) True:=⟨fun _=>⟨br x.Nonce++([.int .u32 ((x.First:Nat):Int)]), [],by simp [b6],by simp⟩⟩
instance {x:SRng} {y:Nat} {z:Int} [h:Ni z y]:Ub (b6 x) 3 ([.int .u32 z]) (b6 {x with Last:=y}) True:=⟨fun _=>by cases h.ni;exact ⟨br x.Nonce++([.int .u32 ((x.First:Nat):Int)]), [.int .u32 ((x.Last:Nat):Int)], [],by simp [b6],by simp,by simp,by simp [b6]⟩⟩
end
section
structure SUse where
 Key:B16
 Range:SRng
def bP (x:SUse):List Value:=dE x.Key++(b6 x.Range)
abbrev SUse.zero:SUse:=⟨B16.zero,SRng.zero⟩
instance:Inhabited SUse:=⟨SUse.zero⟩
instance:CL bP 20:=⟨fun x=>by simp [bP],fun x u hu=>(by unfold bP;infer_instance:On (bP x)).on u hu⟩
@[simp] theorem La (x:SUse):(bP x).length=20:=CL.len x
instance {x:SUse}:Sb (bP x) 0 (dE x.Key) True:=⟨fun _=>⟨[],b6 x.Range,by simp [bP],by simp⟩⟩
instance {x:SUse} {y:B16}:Ub (bP x) 0 (dE y) (bP {x with Key:=y}) True:=⟨fun _=>⟨[],dE x.Key,b6 x.Range,by simp [bP],by simp,by simp,by simp [bP]⟩⟩
instance {x:SUse}:Sb (bP x) 16 (b6 x.Range) True:=⟨fun _=>⟨dE x.Key, [],by simp [bP],by simp⟩⟩
instance {x:SUse} {y:SRng}:Ub (bP x) 16 (b6 y) (bP {x with Range:=y}) True:=⟨fun _=>⟨dE x.Key,b6 x.Range, [],by simp [bP],by simp,by simp,by simp [bP]⟩⟩
end
section
structure SVer where
 there:Bool
 b:Sv
 number:Nat
 before_:Option Addr
def bU (x:SVer):List Value:= [.bool x.there]++([.slice x.b.1 x.b.2.1 x.b.2.2]++([.int .i64 ((x.number:Nat):Int)]++([.pointer x.before_])))
abbrev SVer.zero:SVer:=⟨false,(none,0,0),0,none⟩
instance:CL bU 4:=⟨fun x=>by simp [bU],fun x u hu=>(by unfold bU;infer_instance:On (bU x)).on u hu⟩
@[simp] theorem Ky (x:SVer):(bU x).length=4:=CL.len x
instance {x:SVer}:Sb (bU x) 0 ([.bool x.there]) True:=⟨fun _=>⟨[], [.slice x.b.1 x.b.2.1 x.b.2.2]++([.int .i64 ((x.number:Nat):Int)]++([.pointer x.before_])),by simp [bU],by simp⟩⟩
instance {x:SVer} {y:Bool}:Ub (bU x) 0 ([.bool y]) (bU {x with there:=y}) True:=⟨fun _=>⟨[], [.bool x.there], [.slice x.b.1 x.b.2.1 x.b.2.2]++([.int .i64 ((x.number:Nat):Int)]++([.pointer x.before_])),by simp [bU],by simp,by simp,by simp [bU]⟩⟩
instance {x:SVer}:Sb (bU x) 1 ([.slice x.b.1 x.b.2.1 x.b.2.2]) True:=⟨fun _=>⟨[.bool x.there], [.int .i64 ((x.number:Nat):Int)]++([.pointer x.before_]),by simp [bU],by simp⟩⟩
instance {x:SVer} {a:Option Addr} {n c:Nat}:Ub (bU x) 1 ([.slice a n c]) (bU {x with b:=(a,n,c)}) True:=⟨fun _=>⟨[.bool x.there], [.slice x.b.1 x.b.2.1 x.b.2.2], [.int .i64 ((x.number:Nat):Int)]++([.pointer x.before_]),by simp [bU],by simp,by simp,by simp [bU]⟩⟩
instance {x:SVer}:Sb (bU x) 2 ([.int .i64 ((x.number:Nat):Int)]) True:=⟨fun _=>⟨[.bool x.there]++([.slice x.b.1 x.b.2.1 x.b.2.2]), [.pointer x.before_],by simp [bU],by simp⟩⟩
instance {x:SVer} {y:Nat} {z:Int} [h:Ni z y]:Ub (bU x) 2 ([.int .i64 z]) (bU {x with number:=y}) True:=⟨fun _=>by cases h.ni;exact ⟨[.bool x.there]++([.slice x.b.1 x.b.2.1 x.b.2.2]), [.int .i64 ((x.number:Nat):Int)], [.pointer x.before_],by simp [bU],by simp,by simp,by simp [bU]⟩⟩
instance {x:SVer}:Sb (bU x) 3 ([.pointer x.before_]) True:=⟨fun _=>⟨[.bool x.there]++([.slice x.b.1 x.b.2.1 x.b.2.2]++([.int .i64 ((x.number:Nat):Int)])), [],by simp [bU],by simp⟩⟩
instance {x:SVer} {y:Option Addr}:Ub (bU x) 3 ([.pointer y]) (bU {x with before_:=y}) True:=⟨fun _=>⟨[.bool x.there]++([.slice x.b.1 x.b.2.1 x.b.2.2]++([.int .i64 ((x.number:Nat):Int)])), [.pointer x.before_], [],by simp [bU],by simp,by simp,by simp [bU]⟩⟩
end
section
structure SRvo where
 n:Nat
 d:SDsk
 c:Cel
 k:Key
def bO (x:SRvo):List Value:= [.int .i64 ((x.n:Nat):Int)]++(aJ x.d++(aL x.c++(bC x.k)))
abbrev SRvo.zero:SRvo:=⟨0,SDsk.zero,Cel.zero,Key.zero⟩
instance:CL bO 86:=⟨fun x=>by simp [bO],fun x u hu=>(by unfold bO;infer_instance:On (bO x)).on u hu⟩
@[simp] theorem KZ (x:SRvo):(bO x).length=86:=CL.len x
instance {x:SRvo}:Sb (bO x) 0 ([.int .i64 ((x.n:Nat):Int)]) True:=⟨fun _=>⟨[],aJ x.d++(aL x.c++(bC x.k)),by simp [bO],by simp⟩⟩
instance {x:SRvo} {y:Nat} {z:Int} [h:Ni z y]:Ub (bO x) 0 ([.int .i64 z]) (bO {x with n:=y}) True:=⟨fun _=>by cases h.ni;exact ⟨[], [.int .i64 ((x.n:Nat):Int)],aJ x.d++(aL x.c++(bC x.k)),by simp [bO],by simp,by simp,by simp [bO]⟩⟩
instance {x:SRvo}:Sb (bO x) 1 (aJ x.d) True:=⟨fun _=>⟨[.int .i64 ((x.n:Nat):Int)],aL x.c++(bC x.k),by simp [bO],by simp⟩⟩
instance {x:SRvo} {y:SDsk}:Ub (bO x) 1 (aJ y) (bO {x with d:=y}) True:=⟨fun _=>⟨[.int .i64 ((x.n:Nat):Int)],aJ x.d,aL x.c++(bC x.k),by simp [bO],by simp,by simp,by simp [bO]⟩⟩
instance {x:SRvo}:Sb (bO x) 4 (aL x.c) True:=⟨fun _=>⟨[.int .i64 ((x.n:Nat):Int)]++(aJ x.d),bC x.k,by simp [bO],by simp⟩⟩
instance {x:SRvo} {y:Cel}:Ub (bO x) 4 (aL y) (bO {x with c:=y}) True:=⟨fun _=>⟨[.int .i64 ((x.n:Nat):Int)]++(aJ x.d),aL x.c,bC x.k,by simp [bO],by simp,by simp,by simp [bO]⟩⟩
instance {x:SRvo}:Sb (bO x) 38 (bC x.k) True:=⟨fun _=>⟨[.int .i64 ((x.n:Nat):Int)]++(aJ x.d++(aL x.c)), [],by simp [bO],by simp⟩⟩
instance {x:SRvo} {y:Key}:Ub (bO x) 38 (bC y) (bO {x with k:=y}) True:=⟨fun _=>⟨[.int .i64 ((x.n:Nat):Int)]++(aJ x.d++(aL x.c)),bC x.k, [],by simp [bO],by simp,by simp,by simp [bO]⟩⟩
end
section
structure SArs where
 Value:Dig
 Err:Nat
def ck (x:SArs):List Value:=ay x.Value++([.int .i64 ((x.Err:Nat):Int)])
abbrev SArs.zero:SArs:=⟨Dig.zero,0⟩
instance:CL ck 33:=⟨fun x=>by simp [ck],fun x u hu=>(by unfold ck;infer_instance:On (ck x)).on u hu⟩
@[simp] theorem Kl (x:SArs):(ck x).length=33:=CL.len x
instance {x:SArs}:Sb (ck x) 0 (ay x.Value) True:=⟨fun _=>⟨[], [.int .i64 ((x.Err:Nat):Int)],by simp [ck],by simp⟩⟩
instance {x:SArs} {y:Dig}:Ub (ck x) 0 (ay y) (ck {x with Value:=y}) True:=⟨fun _=>⟨[],ay x.Value, [.int .i64 ((x.Err:Nat):Int)],by simp [ck],by simp,by simp,by simp [ck]⟩⟩
instance {x:SArs}:Sb (ck x) 32 ([.int .i64 ((x.Err:Nat):Int)]) True:=⟨fun _=>⟨ay x.Value, [],by simp [ck],by simp⟩⟩
instance {x:SArs} {y:Nat} {z:Int} [h:Ni z y]:Ub (ck x) 32 ([.int .i64 z]) (ck {x with Err:=y}) True:=⟨fun _=>by cases h.ni;exact ⟨ay x.Value, [.int .i64 ((x.Err:Nat):Int)], [],by simp [ck],by simp,by simp,by simp [ck]⟩⟩
end
section
structure SOpn where
 Kind:Nat
 Index:Int
 Data:Sv
def aN (x:SOpn):List Value:= [.int .u8 ((x.Kind:Nat):Int)]++([.int .i64 x.Index]++([.slice x.Data.1 x.Data.2.1 x.Data.2.2]))
abbrev SOpn.zero:SOpn:=⟨0,0,(none,0,0)⟩
instance:Inhabited SOpn:=⟨SOpn.zero⟩
instance:CL aN 3:=⟨fun x=>by simp [aN],fun x u hu=>(by unfold aN;infer_instance:On (aN x)).on u hu⟩
@[simp] theorem KE (x:SOpn):(aN x).length=3:=CL.len x
instance {x:SOpn}:Sb (aN x) 0 ([.int .u8 ((x.Kind:Nat):Int)]) True:=⟨fun _=>⟨[], [.int .i64 x.Index]++([.slice x.Data.1 x.Data.2.1 x.Data.2.2]),by simp [aN],by simp⟩⟩
instance {x:SOpn} {y:Nat} {z:Int} [h:Ni z y]:Ub (aN x) 0 ([.int .u8 z]) (aN {x with Kind:=y}) True:=⟨fun _=>by cases h.ni;exact ⟨[], [.int .u8 ((x.Kind:Nat):Int)], [.int .i64 x.Index]++([.slice x.Data.1 x.Data.2.1 x.Data.2.2]),by simp [aN],by simp,by simp,by simp [aN]⟩⟩
instance {x:SOpn}:Sb (aN x) 1 ([.int .i64 x.Index]) True:=⟨fun _=>⟨[.int .u8 ((x.Kind:Nat):Int)], [.slice x.Data.1 x.Data.2.1 x.Data.2.2],by simp [aN],by simp⟩⟩
instance {x:SOpn} {y:Int}:Ub (aN x) 1 ([.int .i64 y]) (aN {x with Index:=y}) True:=⟨fun _=>⟨[.int .u8 ((x.Kind:Nat):Int)], [.int .i64 x.Index], [.slice x.Data.1 x.Data.2.1 x.Data.2.2],by simp [aN],by simp,by simp,by simp [aN]⟩⟩
instance {x:SOpn}:Sb (aN x) 2 ([.slice x.Data.1 x.Data.2.1 x.Data.2.2]) True:=⟨fun _=>⟨[.int .u8 ((x.Kind:Nat):Int)]++([.int .i64 x.Index]), [],by simp [aN],by simp⟩⟩
instance {x:SOpn} {a:Option Addr} {n c:Nat}:Ub (aN x) 2 ([.slice a n c]) (aN {x with Data:=(a,n,c)}) True:=⟨fun _=>⟨[.int .u8 ((x.Kind:Nat):Int)]++([.int .i64 x.Index]), [.slice x.Data.1 x.Data.2.1 x.Data.2.2], [],by simp [aN],by simp,by simp,by simp [aN]⟩⟩
end
section
structure SWri where
 Sector:Nat
 Bytes:Sv
def cx (x:SWri):List Value:= [.int .i64 ((x.Sector:Nat):Int)]++([.slice x.Bytes.1 x.Bytes.2.1 x.Bytes.2.2])
abbrev SWri.zero:SWri:=⟨0,(none,0,0)⟩
instance:Inhabited SWri:=⟨SWri.zero⟩
instance:CL cx 2:=⟨fun x=>by simp [cx],fun x u hu=>(by unfold cx;infer_instance:On (cx x)).on u hu⟩
@[simp] theorem K1 (x:SWri):(cx x).length=2:=CL.len x
instance {x:SWri}:Sb (cx x) 0 ([.int .i64 ((x.Sector:Nat):Int)]) True:=⟨fun _=>⟨[], [.slice x.Bytes.1 x.Bytes.2.1 x.Bytes.2.2],by simp [cx],by simp⟩⟩
instance {x:SWri} {y:Nat} {z:Int} [h:Ni z y]:Ub (cx x) 0 ([.int .i64 z]) (cx {x with Sector:=y}) True:=⟨fun _=>by cases h.ni;exact ⟨[], [.int .i64 ((x.Sector:Nat):Int)], [.slice x.Bytes.1 x.Bytes.2.1 x.Bytes.2.2],by simp [cx],by simp,by simp,by simp [cx]⟩⟩
instance {x:SWri}:Sb (cx x) 1 ([.slice x.Bytes.1 x.Bytes.2.1 x.Bytes.2.2]) True:=⟨fun _=>⟨[.int .i64 ((x.Sector:Nat):Int)], [],by simp [cx],by simp⟩⟩
instance {x:SWri} {a:Option Addr} {n c:Nat}:Ub (cx x) 1 ([.slice a n c]) (cx {x with Bytes:=(a,n,c)}) True:=⟨fun _=>⟨[.int .i64 ((x.Sector:Nat):Int)], [.slice x.Bytes.1 x.Bytes.2.1 x.Bytes.2.2], [],by simp [cx],by simp,by simp,by simp [cx]⟩⟩
end
section
structure SLvo where
 n:Nat
 d:SDsk
def cO (x:SLvo):List Value:= [.int .i64 ((x.n:Nat):Int)]++(aJ x.d)
abbrev SLvo.zero:SLvo:=⟨0,SDsk.zero⟩
instance:CL cO 4:=⟨fun x=>by simp [cO],fun x u hu=>(by unfold cO;infer_instance:On (cO x)).on u hu⟩
@[simp] theorem K7 (x:SLvo):(cO x).length=4:=CL.len x
instance {x:SLvo}:Sb (cO x) 0 ([.int .i64 ((x.n:Nat):Int)]) True:=⟨fun _=>⟨[],aJ x.d,by simp [cO],by simp⟩⟩
instance {x:SLvo} {y:Nat} {z:Int} [h:Ni z y]:Ub (cO x) 0 ([.int .i64 z]) (cO {x with n:=y}) True:=⟨fun _=>by cases h.ni;exact ⟨[], [.int .i64 ((x.n:Nat):Int)],aJ x.d,by simp [cO],by simp,by simp,by simp [cO]⟩⟩
instance {x:SLvo}:Sb (cO x) 1 (aJ x.d) True:=⟨fun _=>⟨[.int .i64 ((x.n:Nat):Int)], [],by simp [cO],by simp⟩⟩
instance {x:SLvo} {y:SDsk}:Ub (cO x) 1 (aJ y) (cO {x with d:=y}) True:=⟨fun _=>⟨[.int .i64 ((x.n:Nat):Int)],aJ x.d, [],by simp [cO],by simp,by simp,by simp [cO]⟩⟩
end
section
structure SPla where
 Level:Nat
 Index:Nat
def co (x:SPla):List Value:= [.int .i64 ((x.Level:Nat):Int)]++([.int .i64 ((x.Index:Nat):Int)])
abbrev SPla.zero:SPla:=⟨0,0⟩
instance:Inhabited SPla:=⟨SPla.zero⟩
instance:CL co 2:=⟨fun x=>by simp [co],fun x u hu=>(by unfold co;infer_instance:On (co x)).on u hu⟩
@[simp] theorem Kc (x:SPla):(co x).length=2:=CL.len x
instance {x:SPla}:Sb (co x) 0 ([.int .i64 ((x.Level:Nat):Int)]) True:=⟨fun _=>⟨[], [.int .i64 ((x.Index:Nat):Int)],by simp [co],by simp⟩⟩
instance {x:SPla} {y:Nat} {z:Int} [h:Ni z y]:Ub (co x) 0 ([.int .i64 z]) (co {x with Level:=y}) True:=⟨fun _=>by cases h.ni;exact ⟨[], [.int .i64 ((x.Level:Nat):Int)], [.int .i64 ((x.Index:Nat):Int)],by simp [co],by simp,by simp,by simp [co]⟩⟩
instance {x:SPla}:Sb (co x) 1 ([.int .i64 ((x.Index:Nat):Int)]) True:=⟨fun _=>⟨[.int .i64 ((x.Level:Nat):Int)], [],by simp [co],by simp⟩⟩
instance {x:SPla} {y:Nat} {z:Int} [h:Ni z y]:Ub (co x) 1 ([.int .i64 z]) (co {x with Index:=y}) True:=⟨fun _=>by cases h.ni;exact ⟨[.int .i64 ((x.Level:Nat):Int)], [.int .i64 ((x.Index:Nat):Int)], [],by simp [co],by simp,by simp,by simp [co]⟩⟩
end
section
structure SMla where
 n:Nat
 counts:Sv
 first:Sv
def cd (x:SMla):List Value:= [.int .i64 ((x.n:Nat):Int)]++([.slice x.counts.1 x.counts.2.1 x.counts.2.2]++([.slice x.first.1 x.first.2.1 x.first.2.2]))
abbrev SMla.zero:SMla:=⟨0,(none,0,0),(none,0,0)⟩
instance:CL cd 3:=⟨fun x=>by simp [cd],fun x u hu=>(by unfold cd;infer_instance:On (cd x)).on u hu⟩
@[simp] theorem Lh (x:SMla):(cd x).length=3:=CL.len x
instance {x:SMla} {y:Nat} {z:Int} [h:Ni z y]:Ub (cd x) 0 ([.int .i64 z]) (cd {x with n:=y}) True:=⟨fun _=>by cases h.ni;exact ⟨[], [.int .i64 ((x.n:Nat):Int)], [.slice x.counts.1 x.counts.2.1 x.counts.2.2]++([.slice x.first.1 x.first.2.1 x.first.2.2]),by simp [cd],by simp,by simp,by simp [cd]⟩⟩
instance {x:SMla}:Sb (cd x) 1 ([.slice x.counts.1 x.counts.2.1 x.counts.2.2]) True:=⟨fun _=>⟨[.int .i64 ((x.n:Nat):Int)], [.slice x.first.1 x.first.2.1 x.first.2.2],by simp [cd],by simp⟩⟩
instance {x:SMla} {a:Option Addr} {n c:Nat}:Ub (cd x) 1 ([.slice a n c]) (cd {x with counts:=(a,n,c)}) True:=⟨fun _=>⟨[.int .i64 ((x.n:Nat):Int)], [.slice x.counts.1 x.counts.2.1 x.counts.2.2], [.slice x.first.1 x.first.2.1 x.first.2.2],by simp [cd],by simp,by simp,by simp [cd]⟩⟩
instance {x:SMla}:Sb (cd x) 2 ([.slice x.first.1 x.first.2.1 x.first.2.2]) True:=⟨fun _=>⟨[.int .i64 ((x.n:Nat):Int)]++([.slice x.counts.1 x.counts.2.1 x.counts.2.2]), [],by simp [cd],by simp⟩⟩
instance {x:SMla} {a:Option Addr} {n c:Nat}:Ub (cd x) 2 ([.slice a n c]) (cd {x with first:=(a,n,c)}) True:=⟨fun _=>⟨[.int .i64 ((x.n:Nat):Int)]++([.slice x.counts.1 x.counts.2.1 x.counts.2.2]), [.slice x.first.1 x.first.2.1 x.first.2.2], [],by simp [cd],by simp,by simp,by simp [cd]⟩⟩
end
section
structure SLpl where
 key:B16
 nonce:Non
def cM (x:SLpl):List Value:=dE x.key++(br x.nonce)
abbrev SLpl.zero:SLpl:=⟨B16.zero,Non.zero⟩
instance:CL cM 18:=⟨fun x=>by simp [cM],fun x u hu=>(by unfold cM;infer_instance:On (cM x)).on u hu⟩
@[simp] theorem Kq (x:SLpl):(cM x).length=18:=CL.len x
instance {x:SLpl} {y:B16}:Ub (cM x) 0 (dE y) (cM {x with key:=y}) True:=⟨fun _=>⟨[],dE x.key,br x.nonce,by simp [cM],by simp,by simp,by simp [cM]⟩⟩
instance {x:SLpl} {y:Non}:Ub (cM x) 16 (br y) (cM {x with nonce:=y}) True:=⟨fun _=>⟨dE x.key,br x.nonce, [],by simp [cM],by simp,by simp,by simp [cM]⟩⟩
end
section
structure SUla where
 counts:Sv
 first:Sv
def b7 (x:SUla):List Value:= [.slice x.counts.1 x.counts.2.1 x.counts.2.2]++([.slice x.first.1 x.first.2.1 x.first.2.2])
abbrev SUla.zero:SUla:=⟨(none,0,0),(none,0,0)⟩
instance:CL b7 2:=⟨fun x=>by simp [b7],fun x u hu=>(by unfold b7;infer_instance:On (b7 x)).on u hu⟩
@[simp] theorem KI (x:SUla):(b7 x).length=2:=CL.len x
instance {x:SUla}:Sb (b7 x) 0 ([.slice x.counts.1 x.counts.2.1 x.counts.2.2]) True:=⟨fun _=>⟨[], [.slice x.first.1 x.first.2.1 x.first.2.2],by simp [b7],by simp⟩⟩
instance {x:SUla} {a:Option Addr} {n c:Nat}:Ub (b7 x) 0 ([.slice a n c]) (b7 {x with counts:=(a,n,c)}) True:=⟨fun _=>⟨[], [.slice x.counts.1 x.counts.2.1 x.counts.2.2], [.slice x.first.1 x.first.2.1 x.first.2.2],by simp [b7],by simp,by simp,by simp [b7]⟩⟩
instance {x:SUla}:Sb (b7 x) 1 ([.slice x.first.1 x.first.2.1 x.first.2.2]) True:=⟨fun _=>⟨[.slice x.counts.1 x.counts.2.1 x.counts.2.2], [],by simp [b7],by simp⟩⟩
instance {x:SUla} {a:Option Addr} {n c:Nat}:Ub (b7 x) 1 ([.slice a n c]) (b7 {x with first:=(a,n,c)}) True:=⟨fun _=>⟨[.slice x.counts.1 x.counts.2.1 x.counts.2.2], [.slice x.first.1 x.first.2.1 x.first.2.2], [],by simp [b7],by simp,by simp,by simp [b7]⟩⟩
end
section
structure SShp where
 n:Nat
 c:Sv
def cL (x:SShp):List Value:= [.int .i64 ((x.n:Nat):Int)]++([.slice x.c.1 x.c.2.1 x.c.2.2])
abbrev SShp.zero:SShp:=⟨0,(none,0,0)⟩
instance:CL cL 2:=⟨fun x=>by simp [cL],fun x u hu=>(by unfold cL;infer_instance:On (cL x)).on u hu⟩
@[simp] theorem KK (x:SShp):(cL x).length=2:=CL.len x
instance {x:SShp}:Sb (cL x) 0 ([.int .i64 ((x.n:Nat):Int)]) True:=⟨fun _=>⟨[], [.slice x.c.1 x.c.2.1 x.c.2.2],by simp [cL],by simp⟩⟩
instance {x:SShp} {y:Nat} {z:Int} [h:Ni z y]:Ub (cL x) 0 ([.int .i64 z]) (cL {x with n:=y}) True:=⟨fun _=>by cases h.ni;exact ⟨[], [.int .i64 ((x.n:Nat):Int)], [.slice x.c.1 x.c.2.1 x.c.2.2],by simp [cL],by simp,by simp,by simp [cL]⟩⟩
instance {x:SShp}:Sb (cL x) 1 ([.slice x.c.1 x.c.2.1 x.c.2.2]) True:=⟨fun _=>⟨[.int .i64 ((x.n:Nat):Int)], [],by simp [cL],by simp⟩⟩
instance {x:SShp} {a:Option Addr} {n c:Nat}:Ub (cL x) 1 ([.slice a n c]) (cL {x with c:=(a,n,c)}) True:=⟨fun _=>⟨[.int .i64 ((x.n:Nat):Int)], [.slice x.c.1 x.c.2.1 x.c.2.2], [],by simp [cL],by simp,by simp,by simp [cL]⟩⟩
end
section
structure SFlt where
 at_:Nat
 e:Nat
def xP (x:SFlt):List Value:= [.int .i64 ((x.at_:Nat):Int)]++([.int .i64 ((x.e:Nat):Int)])
abbrev SFlt.zero:SFlt:=⟨0,0⟩
instance:CL xP 2:=⟨fun x=>by simp [xP],fun x u hu=>(by unfold xP;infer_instance:On (xP x)).on u hu⟩
@[simp] theorem KO (x:SFlt):(xP x).length=2:=CL.len x
end
section
structure SRdr where
 b:Sv
def gh (x:SRdr):List Value:= [.slice x.b.1 x.b.2.1 x.b.2.2]
abbrev SRdr.zero:SRdr:=⟨(none,0,0)⟩
instance:CL gh 1:=⟨fun x=>by simp [gh],fun x u hu=>(by unfold gh;infer_instance:On (gh x)).on u hu⟩
@[simp] theorem KS (x:SRdr):(gh x).length=1:=CL.len x
instance {x:SRdr}:Sb (gh x) 0 ([.slice x.b.1 x.b.2.1 x.b.2.2]) True:=⟨fun _=>⟨[], [],by simp [gh],by simp⟩⟩
instance {x:SRdr} {a:Option Addr} {n c:Nat}:Ub (gh x) 0 ([.slice a n c]) (gh {x with b:=(a,n,c)}) True:=⟨fun _=>⟨[], [.slice x.b.1 x.b.2.1 x.b.2.2], [],by simp [gh],by simp,by simp,by simp [gh]⟩⟩
end
section
structure SUck where
 l:SUla
 t:SUtr
 n:Nat
 i:Nat
def bR (x:SUck):List Value:=b7 x.l++(aV x.t++([.int .i64 ((x.n:Nat):Int)]++([.int .i64 ((x.i:Nat):Int)])))
abbrev SUck.zero:SUck:=⟨SUla.zero,SUtr.zero,0,0⟩
instance:CL bR 6:=⟨fun x=>by simp [bR],fun x u hu=>(by unfold bR;infer_instance:On (bR x)).on u hu⟩
@[simp] theorem Kv (x:SUck):(bR x).length=6:=CL.len x
instance {x:SUck}:Sb (bR x) 0 (b7 x.l) True:=⟨fun _=>⟨[],aV x.t++([.int .i64 ((x.n:Nat):Int)]++([.int .i64 ((x.i:Nat):Int)])),by simp [bR],by simp⟩⟩
instance {x:SUck} {y:SUla}:Ub (bR x) 0 (b7 y) (bR {x with l:=y}) True:=⟨fun _=>⟨[],b7 x.l,aV x.t++([.int .i64 ((x.n:Nat):Int)]++([.int .i64 ((x.i:Nat):Int)])),by simp [bR],by simp,by simp,by simp [bR]⟩⟩
instance {x:SUck}:Sb (bR x) 2 (aV x.t) True:=⟨fun _=>⟨b7 x.l, [.int .i64 ((x.n:Nat):Int)]++([.int .i64 ((x.i:Nat):Int)]),by simp [bR],by simp⟩⟩
instance {x:SUck} {y:SUtr}:Ub (bR x) 2 (aV y) (bR {x with t:=y}) True:=⟨fun _=>⟨b7 x.l,aV x.t, [.int .i64 ((x.n:Nat):Int)]++([.int .i64 ((x.i:Nat):Int)]),by simp [bR],by simp,by simp,by simp [bR]⟩⟩
instance {x:SUck}:Sb (bR x) 4 ([.int .i64 ((x.n:Nat):Int)]) True:=⟨fun _=>⟨b7 x.l++(aV x.t), [.int .i64 ((x.i:Nat):Int)],by simp [bR],by simp⟩⟩
instance {x:SUck} {y:Nat} {z:Int} [h:Ni z y]:Ub (bR x) 4 ([.int .i64 z]) (bR {x with n:=y}) True:=⟨fun _=>by cases h.ni;exact ⟨b7 x.l++(aV x.t), [.int .i64 ((x.n:Nat):Int)], [.int .i64 ((x.i:Nat):Int)],by simp [bR],by simp,by simp,by simp [bR]⟩⟩
instance {x:SUck}:Sb (bR x) 5 ([.int .i64 ((x.i:Nat):Int)]) True:=⟨fun _=>⟨b7 x.l++(aV x.t++([.int .i64 ((x.n:Nat):Int)])), [],by simp [bR],by simp⟩⟩
instance {x:SUck} {y:Nat} {z:Int} [h:Ni z y]:Ub (bR x) 5 ([.int .i64 z]) (bR {x with i:=y}) True:=⟨fun _=>by cases h.ni;exact ⟨b7 x.l++(aV x.t++([.int .i64 ((x.n:Nat):Int)])), [.int .i64 ((x.i:Nat):Int)], [],by simp [bR],by simp,by simp,by simp [bR]⟩⟩
end
section
structure SCst where
 b:B16
def i0 (x:SCst):List Value:=dE x.b
abbrev SCst.zero:SCst:=⟨B16.zero⟩
instance:CL i0 16:=⟨fun x=>by simp [i0],fun x u hu=>(by unfold i0;infer_instance:On (i0 x)).on u hu⟩
@[simp] theorem KF (x:SCst):(i0 x).length=16:=CL.len x
instance {x:SCst} {y:B16}:Ub (i0 x) 0 (dE y) (i0 {x with b:=y}) True:=⟨fun _=>⟨[],dE x.b, [],by simp [i0],by simp,by simp,by simp [i0]⟩⟩
end
end Go.Cz
