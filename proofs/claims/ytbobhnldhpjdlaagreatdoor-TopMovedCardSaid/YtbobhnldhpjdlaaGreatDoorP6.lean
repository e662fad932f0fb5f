/- Lemmas and walks: what each function does, by its own code. No condition beyond those of each statement. -/
import Derived.Test.YtbobhnldhpjdlaaGreatDoorP2
import Derived.Test.YtbobhnldhpjdlaaGreatDoorP3
import Derived.Test.YtbobhnldhpjdlaaGreatDoorP4
import Derived.Test.YtbobhnldhpjdlaaGreatDoorP5
import Derived.Deep.AppendLies
import Derived.Great.BuildSlice
import Derived.Laws.IdiomStrings
import Derived.Laws.BytesArg
import Derived.Laws.Pointers
import Derived.Stop.IfaceNil
set_option linter.all false
set_option linter.unusedVariables false
namespace Go.Cz
open Go Go.RowKit Go.Cs
instance:Inhabited Dig:=⟨Dig.zero⟩
instance:Inhabited Rec:=⟨Rec.zero⟩
instance:Inhabited Ent:=⟨Ent.zero⟩
instance:Inhabited Nod:=⟨Nod.zero⟩
instance:Inhabited Un:=⟨Un.zero⟩
instance:Inhabited Cel:=⟨Cel.zero⟩
instance:CL aE 32:=⟨dO,jM⟩
instance:CL cz 2:=⟨qS,yU⟩
instance:CL cL 35:=⟨iq,mZ⟩
instance:CL dN 33:=⟨jJ,lZ⟩
instance:CL aM 34:=⟨qL,AU⟩
theorem lP (x:R4):∀u∈ly x,u.oneCell'=true:=fun u hu=>by
 obtain ⟨y,_,h⟩:=List.mem_flatMap.1 hu
 exact mZ y u h
theorem lR (x:E4):∀u∈lg x,u.oneCell'=true:=fun u hu=>by
 obtain ⟨y,_,h⟩:=List.mem_flatMap.1 hu
 exact lZ y u h
theorem l6 (x:R4):(ly x).length=140:=by rw [ly,du iq,x.h]
theorem tI (x:E4):(lg x).length=132:=by rw [lg,du jJ,x.h]
theorem nq (x:Nod):∀u∈a7 x,u.oneCell'=true:=fun u hu=>by
 simp only [a7,List.mem_cons,List.mem_append] at hu
 rcases hu with rfl | rfl | h | h
 ·rfl
 ·rfl
 ·exact lP _ u h
 ·exact lR _ u h
instance:CL ly 140:=⟨l6,lP⟩
instance:CL lg 132:=⟨tI,lR⟩
instance:CL a7 274:=⟨fun x=>by simp [a7,l6,tI],nq⟩
instance:CL br 280:=⟨fun x=>by simp [br,jA,x.hch,CL.len (K:=a7)],fun x u hu=>by
 simp only [br,jA,List.mem_append,List.mem_cons,List.mem_map] at hu
 rcases hu with h | rfl | rfl |⟨b,_,rfl⟩
 ·exact nq _ u h
 ·rfl
 ·rfl
 ·rfl⟩
instance {d:Dig}:Fb (aE d) cB d.l:=⟨cu _⟩
instance {x:R4}:Fb (ly x) cL x.l:=⟨rfl⟩
instance {x:E4}:Fb (lg x) dN x.l:=⟨rfl⟩
attribute [simp] Dig.h R4.h E4.h Un.hch
section
variable {x:Rec} {e:Ent} {c:Cel} {n:Non} {z:Nod} {y:Un} {d:Dig} {a:R4} {b:E4}
instance:Sb (cz n) 0 [.int .u32 ((n.sh:Nat):Int)] True:=⟨fun _=>⟨[],_,rfl,rfl⟩⟩
instance:Sb (cz n) 1 [.int .u64 ((n.ct:Nat):Int)] True:=⟨fun _=>⟨[_], [],rfl,rfl⟩⟩
instance:Sb (cL x) 0 [.int .u8 ((x.st:Nat):Int)] True:=⟨fun _=>⟨[],_,rfl,rfl⟩⟩
instance:Sb (cL x) 1 (cz x.non) True:=⟨fun _=>⟨[_],aE x.tag,rfl,rfl⟩⟩
instance:Sb (cL x) 3 (aE x.tag) True:=⟨fun _=>⟨[_,_,_], [],(List.append_nil _).symm,rfl⟩⟩
instance:Sb (dN e) 0 [.int .u8 ((e.st:Nat):Int)] True:=⟨fun _=>⟨[],_,rfl,rfl⟩⟩
instance:Sb (dN e) 1 (aE e.dg) True:=⟨fun _=>⟨[_], [],(List.append_nil _).symm,rfl⟩⟩
instance:Sb (aM c) 0 (aE c.root) True:=⟨fun _=>⟨[],_,rfl,rfl⟩⟩
instance:Sb (aM c) 32 [.int .u64 ((c.ep:Nat):Int)] True:=⟨fun _=>⟨aE c.root, [.int .u64 ((c.mark:Nat):Int)],by simp [aM],by simp⟩⟩
instance:Sb (aM c) 33 [.int .u64 ((c.mark:Nat):Int)] True:=⟨fun _=>⟨aE c.root++ [.int .u64 ((c.ep:Nat):Int)], [],by simp [aM],by simp⟩⟩
instance:Sb (a7 z) 0 [.int .u8 ((z.lv:Nat):Int)] True:=⟨fun _=>⟨[],_,rfl,rfl⟩⟩
instance:Sb (a7 z) 1 [.int .u32 ((z.ix:Nat):Int)] True:=⟨fun _=>⟨[_],_,rfl,rfl⟩⟩
instance:Sb (a7 z) 2 (ly z.rs) True:=⟨fun _=>⟨[_,_],lg z.es,rfl,rfl⟩⟩
instance:Sb (a7 z) 142 (lg z.es) True:=⟨fun _=>⟨(.int .u8 ((z.lv:Nat):Int))::(.int .u32 ((z.ix:Nat):Int))::ly z.rs, [],by simp [a7],by simp [l6]⟩⟩
instance:Ub (a7 z) 2 (ly a) (a7 ⟨z.lv,z.ix,a,z.es,z.hlv,z.hix⟩) True:=⟨fun _=>⟨[_,_],ly z.rs,lg z.es,rfl,rfl,by simp [l6],rfl⟩⟩
instance:Ub (a7 z) 142 (lg b) (a7 ⟨z.lv,z.ix,z.rs,b,z.hlv,z.hix⟩) True:=⟨fun _=>⟨(.int .u8 ((z.lv:Nat):Int))::(.int .u32 ((z.ix:Nat):Int))::ly z.rs,lg z.es, [],by simp [a7],by simp [l6],by simp [tI],by simp [a7]⟩⟩
instance {i:Nat}:Ub (ly a) (i*35) (cL x) (ly (a.set i x)) (i<4):=⟨fun h=>k7 (K:=cL) x (by rw [a.h];exact h)⟩
instance {i:Nat}:Ub (lg b) (i*33) (dN e) (lg (b.set i e)) (i<4):=⟨fun h=>k7 (K:=dN) e (by rw [b.h];exact h)⟩
end
end Go.Cz
namespace Go.Cz
open Go Go.RowKit Go.Cs
def iN {α:Type} (K:α→List Value) (m:Nat) (a:Option Addr) (n c:Nat) (e:TypeId) (t:List α):It:=
 ⟨(a.map (·.block)).toList,fun w=>n=t.length∧w.ownsRow 0 e m (.slice a n c) n (t.flatMap K),fun w w' hk h=>by
  obtain ⟨h1,h2,h3 |⟨g,c',cur,h3,h4,h5,h6⟩⟩:=h
  ·exact ⟨h1,h2, .inl h3⟩
  ·cases h3
   exact ⟨h1,h2, .inr ⟨g,c,cur,rfl,h4,by rw [hk g (by simp)];exact h5,h6⟩⟩⟩
class Pn {α:Type} (O:List It) (K:α→List Value) (m:Nat) (a:Option Addr) (n c:Nat) (e:TypeId) (t:outParam (List α)) (O':outParam (List It)) (p:outParam Prop):Prop where
 pn:p→Wk O (iN K m a n c e t::O')
section
variable {α:Type} {O O':List It} {F:List Pt} {K:α→List Value} {m n c b:Nat} {a:Option Addr} {e:TypeId} {t t2:List α} {u:It} {p:Prop} {cs:List Value}
instance:Pn (iN K m a n c e t::O) K m a n c e t O True:=⟨fun _=>am _⟩
instance (priority:=low) [h:Pn O K m a n c e t O' p]:Pn (u::O) K m a n c e t (u::O') p:=⟨fun hp=>dH (gU u (h.pn hp)) (wN u _ O')⟩
instance:Pn O K m none 0 0 e [] O True:=⟨fun _ w h1 h2=>⟨fun o ho=>by
 rcases List.mem_cons.1 ho with rfl | h9
 ·exact ⟨rfl,by simpa using World.ownsRow_nil w 0 e m⟩
 ·exact h1 o h9,by simpa [iN] using h2,fun k hk=>by simpa [iN] using hk⟩⟩
instance (priority:=low) [hf:Fb cs K t] [hK:CL K m]:Pn (iB b cs e::O) K m (some ⟨b,0,none⟩) n c e (t.take n) O (n≤c∧c=t.length∧c≤9223372036854775807):=⟨fun ⟨h1,h2,h3⟩=>tZ O (by simp [iN,iB]) (fun w hB=>by
 have hB':Blk w b cs e:=hB
 rw [hf.fm] at hB'
 refine ⟨by simp;omega,by rw [cZ (hK:=hK),List.length_take,Nat.min_eq_left (by omega)], .inr ⟨b,c,(t.flatMap K).toArray,rfl,Nat.zero_le _,hB',h1,by simpa [maxLen] using h3,by simp [cZ (hK:=hK),h2], ?_⟩⟩
 rw [fH hK.len])⟩
instance:Ab (iN K m (some ⟨b,0,none⟩) n c e t::O) F b 0 (t.flatMap K) True:=⟨fun _ w h1 _=>by
 obtain ⟨h2,h3,h4 |⟨g,c',cur,h4,_,h5,h6,h7,h8,h9⟩⟩:=h1 _ (.head _)
 ·cases h4.1
 ·cases h4
  have hB:Blk w b cur.toList e:=by simpa [Blk] using h5
  exact hB.at 0 (t.flatMap K) (by rw [h3];simpa using h9)⟩
end
section
variable {P:Program} {G:Gc} {O O':List It} {F:List Pt} {C:Value→Pt} {T E ty:TypeId} {α:Type} {K:α→List Value} {z:α} {m bys n c n2 c2 b A:Nat} {a:Option Addr} {t t2:List α} {p q:Prop}
theorem aa [h:Ix P T E m none] [hz:Zk P E α K z m bys] [hK:CL K m] [hpn:Pn O K m a n c E t O' p] [hl:Lb O F K (some ⟨b,A,none⟩) n2 c2 t2 q]
  (k:∀g c',Tr G (iN K m (some ⟨g,0,none⟩) (n+n2) c' E (t++t2)::O') F (C (.slice (some ⟨g,0,none⟩) (n+n2) c')))
  (hp:p:=by (repeat' (first | exact True.intro | refine And.intro ?_ ?_))<;>first | omega |(simp only [List.length_append,List.length_take,List.length_drop,List.length_replicate,List.length_set,List.length_map,List.length_nil,List.length_cons];omega)|(simp;done)|(simp;omega)) (hq:q:=by (repeat' (first | exact True.intro | refine And.intro ?_ ?_))<;>first | omega |(simp only [List.length_append,List.length_take,List.length_drop,List.length_replicate,List.length_set,List.length_map,List.length_nil,List.length_cons];omega)|(simp;done)|(simp;omega))
  (h2:0<n2:=by omega) (h63:n+n2≤9223372036854775807:=by omega) (hb:(n+n2)*bys≤140737488355328:=by omega) (hm:0<m:=by decide):Tr G O F (Rv P (.bi .append #[T,T] ty [.slice a n c, .slice (some ⟨b,A,none⟩) n2 c2]) C):=by
 refine ⟨fun w hp0=> ?_⟩
 obtain ⟨hn2,hs2⟩:=hp0.en (hl.lb hq)
 have hp1:=hp0.wk (hpn.pn hp) (fun _ h=>h)
 obtain ⟨hn,hrow⟩:=hp1.own _ (.head _)
 obtain ⟨v,hE,hv⟩:=hz.zk
 obtain ⟨i,hi,hz1,hz2,hz3⟩:=info_parts hE
 obtain ⟨g,c',w',hr,h5,h6,h7,h8⟩:=run_append_lies (P:=P) w T ty 0 E i v m bys h.ix hi hz1 hz2 hz3 (by rw [hv];simpa using hK.len z) hm _ n _ hrow ⟨b,A,none⟩ n2 c2 (t2.flatMap K) (by rw [cZ,hn2]) (fun j u hu=>hs2.load_add hu) (by
   intro u hu
   obtain ⟨x,_,hx⟩:=List.mem_flatMap.1 hu
   exact hK.one x u hx) h2 (by simpa [maxLen] using h63) hb (Nat.zero_le _) _ rfl
 rw [←List.flatMap_append] at h5
 have hc:Chg (·∈fps [iN K m a n c E t]) w w':=(Chg.of_grown h6).mono (by
  rintro k _ ⟨ad,rfl,rfl⟩
  simp [iN])
 refine ⟨_,w',hr,k g c' w' ?_⟩
 have:=Hp.step (L:= [iN K m a n c E t]) (L':= [iN K m (some ⟨g,0,none⟩) (n+n2) c' E (t++t2)]) (F':= []) (w':=w') (by simpa using hp1) hc (by
  intro o ho;simp only [List.mem_singleton] at ho;subst ho
  exact ⟨by simp [hn,hn2],h5⟩) (by simp [iN]) (by
  intro k hk
  simp [iN] at hk;subst hk
  refine ⟨?_,h8⟩
  rcases h7 with h7 | h7
  ·left
   cases a with
   | none=>simp [Value.ownBlock] at h7
   | some ad=>simp [Value.ownBlock] at h7;simp [iN,h7]
  ·exact .inr (by omega)) (fun f hf=>by cases hf)
 simpa using this
def spl {α:Type} (l:List α) (i:Nat) (t:List α):List α:=l.take i++t++l.drop (i+t.length)
theorem s8 {w:World} {k:Nat} (hs:fL 0 w.heap.size w a n c (t.flatMap K)) [hK:CL K m] (hn:n=t.length) (hk:k≤n):(Builtin.firstCells m k (.slice a n c)).run P w= .ok ((t.take k).flatMap K).toArray w:=by
 cases a with
 | none=>
  obtain ⟨h1,_,h3⟩:=hs
  have:t= []:=List.eq_nil_of_length_eq_zero (by omega)
  subst this
  simp [Builtin.firstCells]
 | some ad=>
  have h2:=run_loadCells_list (P:=P) w ad ((t.take k).flatMap K) (fun j v hj=>by
   refine hs.load_add (i:=j) (v:=v) ?_
   rw [←fH hK.len,List.getElem?_take] at hj
   split at hj
   ·exact hj
   ·cases hj)
  rw [cZ,List.length_take,Nat.min_eq_left (by omega)] at h2
  simpa [Builtin.firstCells] using h2
theorem b6 {T2:TypeId} {e:TypeId} {dl dc:Nat} {a2:Option Addr} {cs cs':List Value} [h:Ix P T E m none] [hz:Zk P E α K z m bys] [hK:CL K m] [hpb:Pb O b cs e O'] [hl:Lb O F K a2 n2 c2 t2 q] [hu:Ub cs A ((t2.take (min n2 dl)).flatMap K) cs' p]
  (k:Tr G (iB b cs' e::O') F (C (vI (min n2 dl)))) (hp:p:=by (repeat' (first | exact True.intro | refine And.intro ?_ ?_))<;>first | omega |(simp only [List.length_append,List.length_take,List.length_drop,List.length_replicate,List.length_set,List.length_map,List.length_nil,List.length_cons];omega)|(simp;done)|(simp;omega)) (hq:q:=by (repeat' (first | exact True.intro | refine And.intro ?_ ?_))<;>first | omega |(simp only [List.length_append,List.length_take,List.length_drop,List.length_replicate,List.length_set,List.length_map,List.length_nil,List.length_cons];omega)|(simp;done)|(simp;omega)):
  Tr G O F (Rv P (.bi .copy #[T,T2] ty [.slice (some ⟨b,A,none⟩) dl dc, .slice a2 n2 c2]) C):=by
 refine ⟨fun w hp0=> ?_⟩
 obtain ⟨hn2,hs2⟩:=hp0.en (hl.lb hq)
 have hp1:Hp G ([iB b cs e]++O') F w:=hp0.wk hpb.pb (fun _ h=>h)
 have hB:Blk w b cs e:=hp1.own _ (.head _)
 have hup:=hu.ub hp
 have h3:=s8 (P:=P) (k:=min n2 dl) hs2 hn2 (Nat.min_le_left _ _)
 have h4:=Cs.run_sizeOf (P:=P) (w:=w) h.sz
 obtain ⟨w',h5,h6,h7⟩:=dv (P:=P) ((t2.take (min n2 dl)).flatMap K) w b A 0 cs e hB (by simpa using hup.le) (fun u hu=>by
  obtain ⟨x,_,hx⟩:=List.mem_flatMap.1 hu
  exact hK.one x u hx)
 rw [Nat.add_zero,hup.sf] at h6
 have hb:b<w.heap.size:=hB.lt
 refine ⟨vI (min n2 dl),w', ?_,k w' ?_⟩
 ·have hix:=h.ix
  have hmin:Nat.min n2 dl=min n2 dl:=rfl
  simp only [Ak.sem,Builtin.copy_,List.getElem?_toArray,List.getElem?_cons_zero,List.getElem?_cons_succ,Sem.run_bind,run_underlying hix,Result.andThen,Builtin.lenOf,Sem.run_pure,h4,hmin,h3,h5]
  rfl
 ·have:=Hp.step (L:= [iB b cs e]) (L':= [iB b cs' e]) (F':= []) (w':=w') hp1 (h7.mono fun k _ hk=>by subst hk;simp [iB]) (by
   intro o ho;simp only [List.mem_singleton] at ho;subst ho;exact h6) (by simp [iB]) (by
   intro k hk
   simp [iB] at hk;subst hk
   exact ⟨.inl (by simp [iB]),Nat.lt_of_lt_of_le hb h7.size⟩) (fun f hf=>by cases hf)
  simpa using this
end
theorem kG {α:Type} {K:α→List Value} {m:Nat} [hK:CL K m] (l t:List α) (i:Nat) (h:i+t.length≤l.length):Up (l.flatMap K) (i*m) (t.flatMap K) ((spl l i t).flatMap K):=by
 have e:l=l.take i++(l.drop i).take t.length++l.drop (i+t.length):=by
  conv=>lhs;rw [←List.take_append_drop i l,←List.take_append_drop t.length (l.drop i)]
  simp [List.append_assoc,List.drop_drop]
 refine ⟨(l.take i).flatMap K,((l.drop i).take t.length).flatMap K,(l.drop (i+t.length)).flatMap K, ?_, ?_, ?_, ?_⟩
 ·refine (congrArg (·.flatMap K) e).trans ?_
  simp only [List.flatMap_append]
 ·rw [cZ,List.length_take,Nat.min_eq_left (by omega)]
 ·rw [cZ,cZ,List.length_take,List.length_drop,Nat.min_eq_left (by omega)]
 ·simp only [spl,List.flatMap_append]
@[simp] theorem lG {α:Type} (l t:List α) (i:Nat) (h:i+t.length≤l.length):(spl l i t).length=l.length:=by simp [spl];omega
section
variable {α:Type} {K:α→List Value} {m i j:Nat} {l t:List α} {bs ts:List UInt8} {cs vs cs':List Value} {p:Prop}
instance (priority:=high) [h:Ub cs j vs cs' p]:Ub cs (0+j) vs cs' p:=⟨fun hp=>by rw [Nat.zero_add];exact h.ub hp⟩
instance [CL K m]:Ub (l.flatMap K) (i*m) (t.flatMap K) ((spl l i t).flatMap K) (i+t.length≤l.length):=⟨fun h=>kG l t i h⟩
instance:Ub (b8 bs) (i*1) (ts.flatMap cB) (b8 (spl bs i ts)) (i+ts.length≤bs.length):=⟨fun h=>by rw [cu,cu];exact kG (K:=cB) bs ts i h⟩
instance:Ub (b8 bs) 0 (ts.flatMap cB) (b8 (spl bs 0 ts)) (ts.length≤bs.length):=⟨fun h=>by rw [cu,cu];have:=kG (K:=cB) bs ts 0 (by omega);simpa using this⟩
abbrev Sv:=Option Addr×Nat×Nat
def cS (v:Sv):List Value:= [.slice v.1 v.2.1 v.2.2]
instance:CL cS 1:=⟨fun _=>rfl,fun x u hu=>by simp only [cS,List.mem_singleton] at hu;subst hu;rfl⟩
instance {v:Sv}:Lv false (cS v) (.slice v.1 v.2.1 v.2.2):=⟨.inl ⟨rfl,rfl⟩⟩
instance {a:Option Addr} {n c:Nat} {vs:List Sv} [h:Fb cs cS vs]:Fb (.slice a n c::cs) cS ((a,n,c)::vs):=⟨by rw [h.fm];rfl⟩
def Pr (vs:List Sv) (ls:List (List UInt8)):Pt:=fun w=>vs.length=ls.length∧∀i,i<ls.length→Sl cB (vs.getD i default).1 (vs.getD i default).2.1 (vs.getD i default).2.2 (ls.getD i []) w
class Pb2 (O:List It) (F:List Pt) (vs:List Sv) (ls:outParam (List (List UInt8))) (p:outParam Prop):Prop where
 pb:p→En O F (Pr vs ls)
instance {O:List It} {F:List Pt}:Pb2 O F [] [] True:=⟨fun _ w _ _=>⟨rfl,fun i hi=>by cases hi⟩⟩
instance {O:List It} {F:List Pt} {a:Option Addr} {n c:Nat} {x:List UInt8} {vs:List Sv} {ls:List (List UInt8)} {q:Prop} [h:Lb O F cB a n c x p] [g:Pb2 O F vs ls q]:Pb2 O F ((a,n,c)::vs) (x::ls) (p∧q):=⟨fun hp w h1 h2=>by
 obtain ⟨h3,h4⟩:=g.pb hp.2 w h1 h2
 refine ⟨by simp [h3],fun i hi=> ?_⟩
 cases i with
 | zero=>exact h.lb hp.1 w h1 h2
 | succ i=>exact h4 i (by simpa using hi)⟩
end
end Go.Cz
namespace Go.Cz
open Go Go.RowKit Go.Cs
instance (priority:=high) {cs vs:List Value} {j:Nat} {p:Prop} [h:Sb cs j vs p]:Sb cs (0+j) vs p:=⟨fun hp=>by rw [Nat.zero_add];exact h.sb hp⟩
class Bst (P:Program) (T:TypeId) (pl:outParam (List (Nat×Nat))) (zs:outParam (List Value)):Prop where
 bp:lI P T=some pl
 bz:∃z,(P.info? T).map (·.zero)=some (some z)∧z.cells=zs.toArray
class Bar (P:Program) (T:TypeId) (sz:outParam Nat) (zs:outParam (List Value)):Prop where
 bt:∃E m,P.underlying T=some (.array m E)∧(P.info? E).map (·.size)=some sz
 bz:∃z,(P.info? T).map (·.zero)=some (some z)∧z.cells=zs.toArray
class Gp (pl:List (Nat×Nat)) (i:Nat) (o m:outParam Nat):Prop where
 gp:pl[i]? =some (o,m)
instance {o m:Nat} {r:List (Nat×Nat)}:Gp ((o,m)::r) 0 o m:=⟨rfl⟩
instance {x:Nat×Nat} {r:List (Nat×Nat)} {i o m:Nat} [h:Gp r i o m]:Gp (x::r) (i+1) o m:=⟨h.gp⟩
class Bf (pl:List (Nat×Nat)) (cs:List Value) (ps:List (Nat×Value)) (cs':outParam (List Value)) (p:outParam Prop):Prop where
 bf:p→Instr.fill (pl.toArray[·]?) cs.toArray ps=some cs'.toArray
instance {pl:List (Nat×Nat)} {cs:List Value}:Bf pl cs [] cs True:=⟨fun _=>rfl⟩
instance {pl:List (Nat×Nat)} {cs cs1 cs2 vs:List Value} {i o m:Nat} {v:Value} {ps:List (Nat×Value)} {p q:Prop} [hg:Gp pl i o m] [hv:Cv v vs] [hu:Ub cs o vs cs1 p] [hr:Bf pl cs1 ps cs2 q]:Bf pl cs ((i,v)::ps) cs2 (vs.length=m∧p∧q):=⟨fun ⟨h1,h2,h3⟩=>by
 have h4:=hu.ub h2
 rw [fI (off:=o) (size:=m) (by simpa using hg.gp) hv.cv.1 h1 (by rw [←h1];exact h4.le),h4.sf]
 exact hr.bf h3⟩
class Ba (sz:Nat) (cs:List Value) (ps:List (Nat×Value)) (cs':outParam (List Value)) (p:outParam Prop):Prop where
 ba:p→Instr.fill (fun i=>some (i*sz,sz)) cs.toArray ps=some cs'.toArray
instance {sz:Nat} {cs:List Value}:Ba sz cs [] cs True:=⟨fun _=>rfl⟩
instance {sz:Nat} {cs cs1 cs2 vs:List Value} {i:Nat} {v:Value} {ps:List (Nat×Value)} {p q:Prop} [hv:Cv v vs] [hu:Ub cs (i*sz) vs cs1 p] [hr:Ba sz cs1 ps cs2 q]:Ba sz cs ((i,v)::ps) cs2 (vs.length=sz∧p∧q):=⟨fun ⟨h1,h2,h3⟩=>by
 have h4:=hu.ub h2
 rw [fI (off:=i*sz) (size:=sz) rfl hv.cv.1 h1 (by have h5:=h4.le;rwa [h1] at h5),h4.sf]
 exact hr.ba h3⟩
section
variable {P:Program} {O:List It} {F:List Pt} {T:TypeId} {cs cs' zs vs:List Value} {ps:List (Nat×Value)} {p:Prop} {kk:IntKind} {z:Int} {i k E m n:Nat} {v:Value}
theorem xk {pl:List (Nat×Nat)} [h:Bst P T pl zs] [hb:Bf pl zs ps cs' p] (hp:p:=by (repeat' (first | exact True.intro | refine And.intro ?_ ?_))<;>first | omega |(simp only [List.length_append,List.length_take,List.length_drop,List.length_replicate,List.length_set,List.length_map,List.length_nil,List.length_cons];omega)|(simp;done)|(simp;omega)):Yv P O F (Ak.bld T ps) (vA cs'):=aC fun w=>by
 obtain ⟨z,h1,h2⟩:=h.bz
 exact mG h.bp h1 h2 (hb.bf hp)
theorem ss {sz:Nat} [h:Bar P T sz zs] [hb:Ba sz zs ps cs' p] (hp:p:=by (repeat' (first | exact True.intro | refine And.intro ?_ ?_))<;>first | omega |(simp only [List.length_append,List.length_take,List.length_drop,List.length_replicate,List.length_set,List.length_map,List.length_nil,List.length_cons];omega)|(simp;done)|(simp;omega)):Yv P O F (Ak.bld T ps) (vA cs'):=aC fun w=>by
 obtain ⟨z,h1,h2⟩:=h.bz
 obtain ⟨E,m,h3,h4⟩:=h.bt
 exact sP h3 h4 h1 h2 (hb.ba hp)
theorem wy [h:Ix P T E 1 (some k)] [hE:Sz P E 1 false] [hz:Ni z i] [hs:Sb cs (i*1) vs p] [hv:Lv false vs v] (hp:p:=by (repeat' (first | exact True.intro | refine And.intro ?_ ?_))<;>first | omega |(simp only [List.length_append,List.length_take,List.length_drop,List.length_replicate,List.length_set,List.length_map,List.length_nil,List.length_cons];omega)|(simp;done)|(simp;omega)) (hi:i<k:=by omega):Yv P O F (Ak.ix T (vA cs) (.int kk z)) v:=aC fun w=>by
 cases hz.ni
 rcases hv.lv with ⟨_,rfl⟩|⟨h9,_⟩
 ·have h1:=(hs.sb hp).td
  have h2:cs[i]? =some v:=by
   have h3:=congrArg (·[0]?) h1
   simpa using h3
  exact CX hi h2 h.ix h.sz hE.ag
 ·cases h9
theorem vG [h:Ix P T E m (some k)] [hE:Sz P E m true] [hz:Ni z i] [hs:Sb cs (i*m) vs p] (hp:p:=by (repeat' (first | exact True.intro | refine And.intro ?_ ?_))<;>first | omega |(simp only [List.length_append,List.length_take,List.length_drop,List.length_replicate,List.length_set,List.length_map,List.length_nil,List.length_cons];omega)|(simp;done)|(simp;omega)) (hi:i<k:=by omega) (hl:vs.length=m:=by first | exact CL.len _ | exact rfl |(simp;done)|(simp;omega)):Yv P O F (Ak.ix T (vA cs) (.int kk z)) (vA vs):=aC fun w=>by
 cases hz.ni
 have h1:=(hs.sb hp).td
 rw [hl] at h1
 have h2:=cj (P:=P) (w:=w) (o:=i*m) hE.ag hE.sz h1
 simp [Ak.sem,Instr.index,asIntOf,run_underlying h.ix,Cs.run_sizeOf h.sz,hi,h2]
theorem Dy [hz:Ni z n] (hn:n≤9223372036854775807:=by omega):Yv P O F (Ak.un .neg T (.int .i64 z)) (.int .i64 (-(n:Int))):=aC fun w=>by
 cases hz.ni
 have e:(Ak.un .neg T (.int .i64 (n:Int))).sem.run P w=Result.ok (Value.int .i64 (IntKind.i64.wrap (0-(n:Int)))) w:=by rfl
 rw [e,jO (y:= -(n:Int)) (by omega) (by omega) (by omega)]
theorem DF [hz:Ni z n] {a:Nat} {x y:Operand} (h:0<n:=by omega):Yv P O F (Ak.bin .rem T x y (.int kk (-(a:Int))) (.int kk z)) (.int kk (-((a%n:Nat):Int))):=aC fun w=>by
 cases hz.ni
 have e:(Ak.bin .rem T x y (.int kk (-(a:Int))) (.int kk (n:Int))).sem.run P w=(if (n:Int)=0 then (runtimePanic (.error "integer divide by zero"):Sem Value) else pure (.int kk ((-(a:Int)).tmod (n:Int)))).run P w:=by cases kk<;>rfl
 rw [e,if_neg (by omega),Int.neg_tmod,Eo];rfl
theorem uZ {S:TypeId} {ks:IntKind} [gS:Ik P S ks] [gT:Ik P T .u64] {a:Nat} (h:0<a:=by omega) (h2:a≤18446744073709551616:=by omega):Yv P O F (Ak.cvt S T (.int kk (-(a:Int)))) (.int .u64 ((18446744073709551616-a:Nat):Int)):=aC fun w=>by
 have hu:=gS.ik
 have hT:=gT.ik
 have e:(Ak.cvt S T (.int kk (-(a:Int)))).sem.run P w=Result.ok (.int .u64 (IntKind.u64.wrap (-(a:Int)))) w:=by
  simp only [Ak.sem,convert,Sem.run_bind,run_underlying hu,run_underlying hT,Result.andThen];rfl
 rw [e]
 have e2:IntKind.u64.wrap (-(a:Int))=(-(a:Int))%18446744073709551616:=rfl
 rw [e2]
 congr 2
 omega
end
theorem sY (x:WA 8):gw x=x.l.flatMap cW:=by
 unfold gw;induction x.l with
 | nil=>rfl
 | cons a l ih=>simp only [List.map_cons,List.flatMap_cons,←ih];rfl
theorem pO (x:WA 64):gv x=x.l.flatMap cW:=by
 unfold gv;induction x.l with
 | nil=>rfl
 | cons a l ih=>simp only [List.map_cons,List.flatMap_cons,←ih];rfl
instance:CL gw 8:=⟨fun x=>by simp [gw,x.h],wq⟩
instance:CL gv 64:=⟨fun x=>by simp [gv,x.h],yT⟩
instance {x:WA 8}:Fb (gw x) cW x.l:=⟨sY x⟩
instance {x:WA 64}:Fb (gv x) cW x.l:=⟨pO x⟩
instance {x:WA 8} {i:Nat} {y:UInt32}:Ub (gw x) (i*1) [.int .u32 (y.toNat:Int)] (gw (x.set i y)) (i<8):=⟨fun h=>by rw [sY,sY];exact k7 (K:=cW) y (by rw [x.h];exact h)⟩
instance {x:WA 64} {i:Nat} {y:UInt32}:Ub (gv x) (i*1) [.int .u32 (y.toNat:Int)] (gv (x.set i y)) (i<64):=⟨fun h=>by rw [pO,pO];exact k7 (K:=cW) y (by rw [x.h];exact h)⟩
attribute [simp] WA.h B64.h Sta.hr
instance (priority:=low) {α:Type} {K:α→List Value} {m:Nat} {x:α} [h:CL K m]:On (K x):=⟨h.one x⟩
def kS (b:Bool) (h:WA 8) (r:List UInt8) (m:Nat):List Value:= .bool b::(gw h++(b8 r++ [.int .u64 ((m:Nat):Int)]))
@[simp] theorem J7 {b:Bool} {h:WA 8} {r:List UInt8} {m:Nat} (hr:r.length=64):(kS b h r m).length=74:=by simp [kS,gw,h.h,hr]
section
variable {b c:Bool} {h x:WA 8} {r r':List UInt8} {m k:Nat}
instance:On (kS b h r m):=⟨fun u hu=>by
 simp only [kS,List.mem_cons,List.mem_append] at hu
 rcases hu with rfl | hu | hu | rfl | hu
 ·rfl
 ·exact wq _ u hu
 ·exact iW _ u hu
 ·rfl
 ·cases hu⟩
instance:Sb (kS b h r m) 0 [.bool b] True:=⟨fun _=>⟨[],_,rfl,rfl⟩⟩
instance:Sb (kS b h r m) 1 (gw h) True:=⟨fun _=>⟨[.bool b],_,rfl,rfl⟩⟩
instance:Sb (kS b h r m) 9 (b8 r) True:=⟨fun _=>⟨.bool b::gw h, [.int .u64 ((m:Nat):Int)],by simp [kS],by simp [gw]⟩⟩
instance:Sb (kS b h r m) 73 [.int .u64 ((m:Nat):Int)] (r.length=64):=⟨fun hr=>⟨.bool b::(gw h++b8 r), [],by simp [kS],by simp [gw,hr]⟩⟩
instance:Ub (kS b h r m) 1 (gw x) (kS b x r m) True:=⟨fun _=>⟨[.bool b],gw h,_,rfl,rfl,by simp [gw],rfl⟩⟩
instance:Ub (kS b h r m) 9 (b8 r') (kS b h r' m) (r'.length=r.length):=⟨fun hr=>⟨.bool b::gw h,b8 r, [.int .u64 ((m:Nat):Int)],by simp [kS],by simp [gw],by simp [hr],by simp [kS]⟩⟩
instance:Ub (kS b h r m) 73 [.int .u64 ((k:Nat):Int)] (kS b h r k) (r.length=64):=⟨fun hr=>⟨.bool b::(gw h++b8 r), [.int .u64 ((m:Nat):Int)], [],by simp [kS],by simp [gw,hr],rfl,by simp [kS]⟩⟩
instance:Ub (kS b h r m) 0 [.bool c] (kS c h r m) True:=⟨fun _=>⟨[], [.bool b],_,rfl,rfl,rfl,rfl⟩⟩
end
theorem aB {O O1 O':List It} {b e:Nat} {cs cs':List Value} [h:Pb O b cs e O1] (hk:Wk O1 O') (hc:cs=cs'):Wk O (iB b cs' e::O'):=by subst hc;exact Ia h.pb hk
def iU (b:Nat):It:=⟨[b],fun _=>True,fun w w' hk h=>h⟩
theorem aD {O O1 O':List It} {b e:Nat} {cs:List Value} (h:Pb O b cs e O1) (hk:Wk O1 O'):Wk O (iU b::O'):=
 dH h.pb (dH (fun w h1 h2=>⟨fun o ho=>by
  rcases List.mem_cons.1 ho with rfl | h9
  ·trivial
  ·exact h1 o (.tail _ h9),by simpa [iU,iB,ei] using h2,fun k hk=>by simpa [iU,iB,ei] using hk⟩) (gU (iU b) hk))
end Go.Cz
namespace Go.Cz
open Go Go.RowKit Go.Cs
class Pc (ps:List (Nat×Value)) (k m:Nat) (cs:outParam (List Value)):Prop where
 pc:∀pre post:List Value,pre.length=k*m→post.length=cs.length→Instr.fill (fun i=>some (i*m,m)) (pre++post).toArray ps=some (pre++cs).toArray
instance {k m:Nat}:Pc [] k m []:=⟨fun pre post _ h=>by
 have:post= []:=List.eq_nil_of_length_eq_zero h
 subst this;rfl⟩
theorem vO {k m:Nat} {v:Value} {vs cs:List Value} {ps:List (Nat×Value)} (hv:v.cells=vs.toArray) (hl:vs.length=m) (h:Pc ps (k+1) m cs) (pre post:List Value) (h1:pre.length=k*m) (h2:post.length=(vs++cs).length):
  Instr.fill (fun i=>some (i*m,m)) (pre++post).toArray ((k,v)::ps)=some (pre++(vs++cs)).toArray:=by
 have h3:post.length=m+cs.length:=by rw [h2,List.length_append,hl]
 rw [fI (off:=k*m) (size:=m) (vs:=vs) rfl hv hl (by rw [List.length_append];omega)]
 have h4:cK (pre++post) (k*m) vs=(pre++vs)++post.drop m:=by
  rw [fQ _ _ _ (by rw [List.length_append];omega),←h1,List.take_left,hl,List.drop_append]
  simp [show pre.length+m-pre.length=m by omega]
 rw [h4,←List.append_assoc]
 exact h.pc _ _ (by rw [List.length_append,h1,hl,Nat.add_mul,Nat.one_mul]) (by rw [List.length_drop];omega)
instance {k:Nat} {v u:Value} {cs:List Value} {ps:List (Nat×Value)} [hv:Cv v [u]] [h:Pc ps (k+1) 1 cs]:Pc ((k,v)::ps) k 1 (u::cs):=⟨fun pre post h1 h2=>vO hv.cv.1 rfl h pre post h1 h2⟩
class Pw {α:Type} (K:α→List Value) (ps:List (Nat×Value)) (k m:Nat) (xs:outParam (List α)):Prop where
 pw:Pc ps k m (xs.flatMap K)
instance {α:Type} {K:α→List Value} {k m:Nat}:Pw K [] k m []:=⟨by infer_instance⟩
instance {α:Type} {K:α→List Value} {k m:Nat} {x:α} {xs:List α} {ps:List (Nat×Value)} [hK:CL K m] [h:Pw K ps (k+1) m xs]:Pw K ((k,vA (K x))::ps) k m (x::xs):=⟨⟨fun pre post h1 h2=>by
 rw [List.flatMap_cons] at h2⊢
 exact vO (v:=vA (K x)) (vs:=K x) rfl (hK.len x) h.pw pre post h1 h2⟩⟩
class Ze (P:Program) (E:TypeId) (m:outParam Nat):Prop where
 ze:∃z,(P.info? E).map (fun i=>(i.zero,i.size))=some (some z,m)
theorem wo {P:Program} {w:World} {T E m n:Nat} {ps:List (Nat×Value)} {cs:List Value} (hT:P.underlying T=some (.slice E)) (hz:∃z,(P.info? E).map (fun i=>(i.zero,i.size))=some (some z,m)) (h:Pc ps 0 m cs) (hl:cs.length=n*m) (h0:0<n*m) (hs:n*m≤2^24):
  (Instr.buildSlice T n ps.toArray).run P w= .ok (.slice (some ⟨w.heap.size,0,none⟩) n n) (w.alloc (.cells cs.toArray E)):=by
 obtain ⟨z,hz⟩:=hz
 obtain ⟨ie,hie,he⟩:=Option.map_eq_some_iff.1 hz
 simp only [Prod.mk.injEq] at he
 obtain ⟨he1,rfl⟩:=he
 refine run_buildSlice w T E n ps.toArray _ ie z hT hie he1 (by omega) (by omega) ?_
 have h1:((Array.range (n*ie.size)).map (z.cells[· %z.cells.size]!))=([]++(List.range (n*ie.size)).map (z.cells[· %z.cells.size]!)).toArray:=by
  apply Array.ext'
  simp
 rw [h1]
 have:=h.pc [] ((List.range (n*ie.size)).map (z.cells[· %z.cells.size]!)) (by simp) (by simp [hl])
 simpa using this
instance {P:Program} {T E n:Nat} {ps:List (Nat×Value)} {cs:List Value} [h:Ix P T E 1 none] [hz:Ze P E 1] [hp:Pc ps 0 1 cs]:Nb P (.bls T n ps) cs E (fun b=> .slice (some ⟨b,0,none⟩) n n) (cs.length=n∧0<n∧n≤16777216):=⟨fun ⟨h1,h2,h3⟩ w=>wo h.ix hz.ze hp (by omega) (by omega) (by omega)⟩
instance {n:Nat} {cs:List Value} {t:List Nat} [h:Fb cs cI t]:Fb (.int .i64 (n:Int)::cs) cI (n::t):=⟨by rw [h.fm];rfl⟩
instance:Fb [.int .u8 0] cB [0]:=⟨rfl⟩
instance:Fb [.int .u8 128] cB [128]:=⟨rfl⟩
instance {n:Nat}:Fb [.int .i64 (n:Int)] cI [n]:=⟨rfl⟩
instance {a:Option Addr} {n c:Nat}:Fb [.slice a n c] cS [(a,n,c)]:=⟨rfl⟩
theorem uI {P:Program} {O:List It} {F:List Pt} {T:TypeId} {x y:Operand} {kk:IntKind} {i j:Int} {a b:Nat} [hi:Ni i a] [hj:Ni j b] (hk:kk.signed=false:=by rfl) (h:a*b<2^kk.bits:=by first |(show _<18446744073709551616;omega)|(show _<4294967296;omega)):Yv P O F (Ak.bin .mul T x y (.int kk i) (.int kk j)) (.int kk ((a*b:Nat):Int)):=aC fun w=>by
 cases hi.ni;cases hj.ni
 have e:(Ak.bin .mul T x y (.int kk (a:Int)) (.int kk (b:Int))).sem.run P w=Result.ok (Value.int kk (kk.wrap ((a:Int)*(b:Int)))) w:=by cases kk<;>rfl
 rw [e,mr hk (m:=a*b) (by simp) h]
end Go.Cz
namespace Go.Cz
open Go Go.RowKit Go.Cs
instance:Inhabited B16:=⟨B16.zero⟩
attribute [simp] B16.h
instance:CL fz 16:=⟨fun x=>by simp [fz],fun x=>iW _⟩
instance {x:B16}:Fb (fz x) cB x.l:=⟨cu _⟩
def cP (a:Option Addr):List Value:= [.pointer a]
instance:CL cP 1:=⟨fun _=>rfl,fun x u hu=>by simp only [cP,List.mem_singleton] at hu;subst hu;rfl⟩
instance {a:Option Addr}:Lv false (cP a) (.pointer a):=⟨.inl ⟨rfl,rfl⟩⟩
@[simp] theorem Km (x:B16):(fz x).length=16:=by simp [fz]
def cf (x:Key):List Value:=fz x.enc++aE x.mac
abbrev Key.zero:Key:=⟨B16.zero,Dig.zero⟩
@[simp] theorem Ht (x:Key):(cf x).length=48:=by simp [cf]
instance:CL cf 48:=⟨fun x=>by simp,fun x u hu=>by have h:On (cf x):=(by unfold cf;infer_instance);exact h.on u hu⟩
instance {x:Key}:Sb (cf x) 0 (fz x.enc) True:=⟨fun _=>⟨[],aE x.mac,by simp [cf],rfl⟩⟩
instance {x:Key}:Sb (cf x) 16 (aE x.mac) True:=⟨fun _=>⟨fz x.enc, [],by simp [cf],by simp⟩⟩
@[simp] theorem JT (x:Non):(cz x).length=2:=qS x
@[simp] theorem KE (x:Rec):(cL x).length=35:=iq x
@[simp] theorem Kk (x:Cel):(aM x).length=34:=qL x
class Eqc (P:Program) (T:TypeId) (vs us:List Value) (b:outParam Prop):Prop where
 eq:∃r:Bool,(∀w,(Op.equalIn 10000 T (.agg vs.toArray) (.agg us.toArray)).run P w= .ok r w)∧(r=true↔b)
 gd:P.eqGuardType P.depth T=false
class Zt (P:Program) (T:TypeId) (zs:outParam (List Value)):Prop where
 zt:True
section
variable {P:Program} {G:Gc} {O:List It} {F:List Pt} {C:Value→Pt} {T:TypeId} {x y:Operand} {vs us zs:List Value} {b:Prop}
theorem aY [h:Eqc P T vs us b] (ht:b→Tr G O F (C (.bool true))) (hf:¬b→Tr G O F (C (.bool false))):Tr G O F (Rv P (.bin .eql T x y (vA vs) (vA us)) C):=by
 obtain ⟨r,h1,h2⟩:=h.eq
 refine ⟨fun w hp=>⟨.bool r,w,tY (h1 w) h.gd, ?_⟩⟩
 cases r with
 | true=>exact ht (h2.1 rfl) w hp
 | false=>exact hf (fun hb=>by have:=h2.2 hb;cases this) w hp
theorem aX [h:Eqc P T vs us b] (ht:¬b→Tr G O F (C (.bool true))) (hf:b→Tr G O F (C (.bool false))):Tr G O F (Rv P (.bin .neq T x y (vA vs) (vA us)) C):=by
 obtain ⟨r,h1,h2⟩:=h.eq
 refine ⟨fun w hp=>⟨.bool (!r),w,hZ (h1 w) h.gd, ?_⟩⟩
 cases r with
 | true=>exact hf (h2.1 rfl) w hp
 | false=>exact ht (fun hb=>by have:=h2.2 hb;cases this) w hp
theorem aZ [hz:Zt P T zs] [h:Eqc P T vs zs b] (ht:b→Tr G O F (C (.bool true))) (hf:¬b→Tr G O F (C (.bool false))) (hu:us=zs:=by rfl):Tr G O F (Rv P (.bin .eql T x y (vA vs) (vA us)) C):=by
 subst hu;exact aY ht hf
theorem a6 [hz:Zt P T zs] [h:Eqc P T vs zs b] (ht:¬b→Tr G O F (C (.bool true))) (hf:b→Tr G O F (C (.bool false))) (hu:us=zs:=by rfl):Tr G O F (Rv P (.bin .neq T x y (vA vs) (vA us)) C):=by
 subst hu;exact aX ht hf
section
variable {t8 tn td e t32 t64 r en R E:TypeId}
theorem wJ {x y:Dig} (ht:P.underlying T=some (.array 32 e)) (he:P.underlying e=some (.int .u8)) (hs:(P.info? e).map (·.size)=some 1) (hg:P.eqGuardType P.depth T=false):Eqc P T (aE x) (aE y) (x=y):=
 ⟨⟨x.l==y.l,fun w=>gK (dd:=9998) x y ht he hs,by simp only [beq_iff_eq];exact ⟨Dig.ext',fun h=>by rw [h]⟩⟩,hg⟩
theorem Co {x y:Non} (hF:b9 P T= [(true,t32,0),(true,t64,1)]) (hp:P.stoodInHeld T=false) (h1:P.underlying t32=some (.int .u32)) (h2:P.underlying t64=some (.int .u64)) (hg:P.eqGuardType P.depth T=false):Eqc P T (cz x) (cz y) (x=y):=
 ⟨⟨x.eqb y,fun w=>mh (dd:=9998) x y hF hp h1 h2,Non.eqb_iff x y⟩,hg⟩
theorem Cg {x y:Rec} (hF:b9 P T= [(true,t8,0),(true,tn,1),(true,td,3)]) (hp:P.stoodInHeld T=false) (h8:P.underlying t8=some (.int .u8)) (hFn:b9 P tn= [(true,t32,0),(true,t64,1)]) (hpn:P.stoodInHeld tn=false)
  (h1:P.underlying t32=some (.int .u32)) (h2:P.underlying t64=some (.int .u64)) (hsn:(P.info? tn).map (·.size)=some 2) (hd:P.underlying td=some (.array 32 e)) (he:P.underlying e=some (.int .u8)) (hse:(P.info? e).map (·.size)=some 1) (hsd:(P.info? td).map (·.size)=some 32) (hg:P.eqGuardType P.depth T=false):Eqc P T (cL x) (cL y) (x=y):=
 ⟨⟨x.eqb y,fun w=>m5 (dd:=9997) x y hF hp h8 hFn hpn h1 h2 hsn hd he hse hsd,Rec.eqb_iff x y⟩,hg⟩
theorem DH {x y:Ent} (hF:b9 P T= [(true,t8,0),(true,td,1)]) (hp:P.stoodInHeld T=false) (h8:P.underlying t8=some (.int .u8)) (hd:P.underlying td=some (.array 32 e)) (he:P.underlying e=some (.int .u8)) (hse:(P.info? e).map (·.size)=some 1) (hsd:(P.info? td).map (·.size)=some 32) (hg:P.eqGuardType P.depth T=false):Eqc P T (dN x) (dN y) (x=y):=
 ⟨⟨x.eqb y,fun w=>nk (dd:=9997) x y hF hp h8 hd he hse hsd,Ent.eqb_iff x y⟩,hg⟩
theorem Dv {x y:Cel} (hF:b9 P T= [(true,td,0),(true,t64,32),(true,t64,33)]) (hp:P.stoodInHeld T=false) (h2:P.underlying t64=some (.int .u64)) (hd:P.underlying td=some (.array 32 e)) (he:P.underlying e=some (.int .u8)) (hse:(P.info? e).map (·.size)=some 1) (hsd:(P.info? td).map (·.size)=some 32) (hg:P.eqGuardType P.depth T=false):Eqc P T (aM x) (aM y) (x=y):=
 ⟨⟨x.eqb y,fun w=>tA (dd:=9997) x y hF hp h2 hd he hse hsd,Cel.eqb_iff x y⟩,hg⟩
theorem Gn {x y:R4} (hT:P.underlying T=some (.array 4 r)) (hst:(P.info? r).map (·.size)=some 35) (hF:b9 P r= [(true,t8,0),(true,tn,1),(true,td,3)]) (hp:P.stoodInHeld r=false) (h8:P.underlying t8=some (.int .u8)) (hFn:b9 P tn= [(true,t32,0),(true,t64,1)]) (hpn:P.stoodInHeld tn=false)
  (h1:P.underlying t32=some (.int .u32)) (h2:P.underlying t64=some (.int .u64)) (hsn:(P.info? tn).map (·.size)=some 2) (hd:P.underlying td=some (.array 32 e)) (he:P.underlying e=some (.int .u8)) (hse:(P.info? e).map (·.size)=some 1) (hsd:(P.info? td).map (·.size)=some 32) (hg:P.eqGuardType P.depth T=false):Eqc P T (ly x) (ly y) (x=y):=
 ⟨⟨x.eqb y,fun w=>yp (dd:=9996) x y hT hst hF hp h8 hFn hpn h1 h2 hsn hd he hse hsd,R4.eqb_iff x y⟩,hg⟩
theorem Gf {x y:E4} (hT:P.underlying T=some (.array 4 en)) (hst:(P.info? en).map (·.size)=some 33) (hF:b9 P en= [(true,t8,0),(true,td,1)]) (hp:P.stoodInHeld en=false) (h8:P.underlying t8=some (.int .u8)) (hd:P.underlying td=some (.array 32 e)) (he:P.underlying e=some (.int .u8)) (hse:(P.info? e).map (·.size)=some 1) (hsd:(P.info? td).map (·.size)=some 32) (hg:P.eqGuardType P.depth T=false):Eqc P T (lg x) (lg y) (x=y):=
 ⟨⟨x.eqb y,fun w=>yo (dd:=9996) x y hT hst hF hp h8 hd he hse hsd,E4.eqb_iff x y⟩,hg⟩
theorem GO {xs ys:List Bool} (hx:xs.length=4) (hy:ys.length=4) (ht:P.underlying T=some (.array 4 e)) (he:P.underlying e=some .bool) (hs:(P.info? e).map (·.size)=some 1) (hg:P.eqGuardType P.depth T=false):Eqc P T (jA xs) (jA ys) (xs=ys):=
 ⟨⟨_,fun w=>p6 (dd:=9998) xs ys hx hy ht he hs,lS (d:=false) (eqb:=fun a b:Bool=>a==b) (by simp) hx hy⟩,hg⟩
end
class Pi (P:Program) (T:TypeId):Prop where
 pi:P.underlying T=some (.pointer (P.pointee T))
class Ip (P:Program) (T:TypeId):Prop where
 ip:P.isIface T=true
theorem wB [h:Pi P T]:Yv P O F (Ak.bin .eql T x y (.pointer none) (.pointer none)) (.bool true):=aC fun w=>by
 have h1:=h.pi
 simp [Ak.sem,eqGuard,run_eql_pointer_nil w T none h1]
theorem uv [h:Pi P T] {a:Addr}:Yv P O F (Ak.bin .eql T x y (.pointer (some a)) (.pointer none)) (.bool false):=aC fun w=>by
 have h1:=h.pi
 simp [Ak.sem,eqGuard,run_eql_pointer_nil w T (some a) h1]
theorem uD [h:Pi P T] {a:Addr}:Yv P O F (Ak.bin .neq T x y (.pointer (some a)) (.pointer none)) (.bool true):=aC fun w=>by
 have h1:=run_equal_pointer_nil (P:=P) w T (some a) h.pi
 simp [Ak.sem,eqGuard,binOp,h1]
theorem ur [h:Pi P T]:Yv P O F (Ak.bin .neq T x y (.pointer none) (.pointer none)) (.bool false):=aC fun w=>by
 have h1:=run_equal_pointer_nil (P:=P) w T none h.pi
 simp [Ak.sem,eqGuard,binOp,h1]
theorem qg [h:Ip P T] {t:TypeId} {v:Value}:Yv P O F (Ak.bin .neq T x y (.iface t v) .nilIface) (.bool true):=aC fun w=>by
 simp [Ak.sem,eqGuard,run_neq_iface_nil w T h.ip t v]
theorem qj [h:Ip P T] {c:Value}:Yv P O F (Ak.bin .neq T x (.const c) .nilIface .nilIface) (.bool false):=aC fun w=>by
 simp [Ak.sem,eqGuard,run_neq_nil_nil_at w T h.ip]
theorem oL [h:Ip P T] {t:TypeId} {v:Value}:Yv P O F (Ak.bin .eql T x y (.iface t v) .nilIface) (.bool false):=aC fun w=>by
 simp [Ak.sem,eqGuard,run_eql_iface_nil w T h.ip t v]
theorem pE [h:Ip P T] {c:Value}:Yv P O F (Ak.bin .eql T x (.const c) .nilIface .nilIface) (.bool true):=aC fun w=>by
 simp [Ak.sem,eqGuard,run_eql_nil_nil_at w T h.ip]
class Bp (P:Program) (T:TypeId):Prop where
 bp:P.underlying T=some .bool
theorem uw [h:Bp P T] {a c:Bool}:Yv P O F (Ak.bin .eql T x y (.bool a) (.bool c)) (.bool (a==c)):=aC fun w=>by
 simp [Ak.sem,eqGuard,binOp,Op.equal,Op.maxDepth,run_equalIn_bool w 9999 T a c h.bp]
theorem vn [h:Bp P T] {a c:Bool}:Yv P O F (Ak.bin .neq T x y (.bool a) (.bool c)) (.bool (!(a==c))):=aC fun w=>by
 simp [Ak.sem,eqGuard,binOp,Op.equal,Op.maxDepth,run_equalIn_bool w 9999 T a c h.bp]
class Su (P:Program) (T:TypeId):Prop where
 su:P.underlying T=some .string
def sZ (l:List UInt8):Value:= .string ⟨l.toArray⟩
end
end Go.Cz
namespace Go.Cz
open Go Go.RowKit Go.Cs
section
structure SLwc where
 Blocks:Nat
 Shards:Nat
 Limit:Nat
 Reserve:Nat
 Master:Nat
def Ap (x:SLwc):List Value:= [.int .u8 ((x.Blocks:Nat):Int)]++([.int .u8 ((x.Shards:Nat):Int)]++([.int .u8 ((x.Limit:Nat):Int)]++([.int .u8 ((x.Reserve:Nat):Int)]++([.int .u8 ((x.Master:Nat):Int)]))))
abbrev SLwc.zero:SLwc:=⟨0,0,0,0,0⟩
instance:CL Ap 5:=⟨fun x=>by simp [Ap],fun x u hu=>(by unfold Ap;infer_instance:On (Ap x)).on u hu⟩
@[simp] theorem Ko (x:SLwc):(Ap x).length=5:=CL.len x
end
section
structure SCfg where
 Blocks:Nat
 Shards:Nat
 Frames:Nat
 Clients:Nat
 Limit:Nat
 Reserve:Nat
 Master:Dig
 Flaw:Nat
def bA (x:SCfg):List Value:= [.int .i64 ((x.Blocks:Nat):Int)]++([.int .i64 ((x.Shards:Nat):Int)]++([.int .i64 ((x.Frames:Nat):Int)]++([.int .i64 ((x.Clients:Nat):Int)]++([.int .u64 ((x.Limit:Nat):Int)]++([.int .u64 ((x.Reserve:Nat):Int)]++(aE x.Master++([.int .u8 ((x.Flaw:Nat):Int)])))))))
abbrev SCfg.zero:SCfg:=⟨0,0,0,0,0,0,Dig.zero,0⟩
instance:CL bA 39:=⟨fun x=>by simp [bA],fun x u hu=>(by unfold bA;infer_instance:On (bA x)).on u hu⟩
@[simp] theorem KA (x:SCfg):(bA x).length=39:=CL.len x
instance {x:SCfg}:Sb (bA x) 0 ([.int .i64 ((x.Blocks:Nat):Int)]) True:=⟨fun _=>⟨[], [.int .i64 ((x.Shards:Nat):Int)]++([.int .i64 ((x.Frames:Nat):Int)]++([.int .i64 ((x.Clients:Nat):Int)]++([.int .u64 ((x.Limit:Nat):Int)]++([.int .u64 ((x.Reserve:Nat):Int)]++(aE x.Master++([.int .u8 ((x.Flaw:Nat):Int)])))))),by simp [bA],by simp⟩⟩
instance {x:SCfg} {y:Nat} {z:Int} [h:Ni z y]:Ub (bA x) 0 ([.int .i64 z]) (bA {x with Blocks:=y}) True:=⟨fun _=>by cases h.ni;exact ⟨[], [.int .i64 ((x.Blocks:Nat):Int)], [.int .i64 ((x.Shards:Nat):Int)]++([.int .i64 ((x.Frames:Nat):Int)]++([.int .i64 ((x.Clients:Nat):Int)]++([.int .u64 ((x.Limit:Nat):Int)]++([.int .u64 ((x.Reserve:Nat):Int)]++(aE x.Master++([.int .u8 ((x.Flaw:Nat):Int)])))))),by simp [bA],by simp,by simp,by simp [bA]⟩⟩
instance {x:SCfg}:Sb (bA x) 1 ([.int .i64 ((x.Shards:Nat):Int)]) True:=⟨fun _=>⟨[.int .i64 ((x.Blocks:Nat):Int)], [.int .i64 ((x.Frames:Nat):Int)]++([.int .i64 ((x.Clients:Nat):Int)]++([.int .u64 ((x.Limit:Nat):Int)]++([.int .u64 ((x.Reserve:Nat):Int)]++(aE x.Master++([.int .u8 ((x.Flaw:Nat):Int)]))))),by simp [bA],by simp⟩⟩
instance {x:SCfg} {y:Nat} {z:Int} [h:Ni z y]:Ub (bA x) 1 ([.int .i64 z]) (bA {x with Shards:=y}) True:=⟨fun _=>by cases h.ni;exact ⟨[.int .i64 ((x.Blocks:Nat):Int)], [.int .i64 ((x.Shards:Nat):Int)], [.int .i64 ((x.Frames:Nat):Int)]++([.int .i64 ((x.Clients:Nat):Int)]++([.int .u64 ((x.Limit:Nat):Int)]++([.int .u64 ((x.Reserve:Nat):Int)]++(aE x.Master++([.int .u8 ((x.Flaw:Nat):Int)]))))),by simp [bA],by simp,by simp,by simp [bA]⟩⟩
instance {x:SCfg}:Sb (bA x) 4 ([.int .u64 ((x.Limit:Nat):Int)]) True:=⟨fun _=>⟨[.int .i64 ((x.Blocks:Nat):Int)]++([.int .i64 ((x.Shards:Nat):Int)]++([.int .i64 ((x.Frames:Nat):Int)]++([.int .i64 ((x.Clients:Nat):Int)]))), [.int .u64 ((x.Reserve:Nat):Int)]++(aE x.Master++([.int .u8 ((x.Flaw:Nat):Int)])),by simp [bA],by simp⟩⟩
instance {x:SCfg} {y:Nat} {z:Int} [h:Ni z y]:Ub (bA x) 4 ([.int .u64 z]) (bA {x with Limit:=y}) True:=⟨fun _=>by cases h.ni;exact ⟨[.int .i64 ((x.Blocks:Nat):Int)]++([.int .i64 ((x.Shards:Nat):Int)]++([.int .i64 ((x.Frames:Nat):Int)]++([.int .i64 ((x.Clients:Nat):Int)]))), [.int .u64 ((x.Limit:Nat):Int)], [.int .u64 ((x.Reserve:Nat):Int)]++(aE x.Master++([.int .u8 ((x.Flaw:Nat):Int)])),by simp [bA],by simp,by simp,by simp [bA]⟩⟩
instance {x:SCfg}:Sb (bA x) 5 ([.int .u64 ((x.Reserve:Nat):Int)]) True:=⟨fun _=>⟨[.int .i64 ((x.Blocks:Nat):Int)]++([.int .i64 ((x.Shards:Nat):Int)]++([.int .i64 ((x.Frames:Nat):Int)]++([.int .i64 ((x.Clients:Nat):Int)]++([.int .u64 ((x.Limit:Nat):Int)])))),aE x.Master++([.int .u8 ((x.Flaw:Nat):Int)]),by simp [bA],by simp⟩⟩
instance {x:SCfg} {y:Nat} {z:Int} [h:Ni z y]:Ub (bA x) 5 ([.int .u64 z]) (bA {x with Reserve:=y}) True:=⟨fun _=>by cases h.ni;exact ⟨[.int .i64 ((x.Blocks:Nat):Int)]++([.int .i64 ((x.Shards:Nat):Int)]++([.int .i64 ((x.Frames:Nat):Int)]++([.int .i64 ((x.Clients:Nat):Int)]++([.int .u64 ((x.Limit:Nat):Int)])))), [.int .u64 ((x.Reserve:Nat):Int)],aE x.Master++([.int .u8 ((x.Flaw:Nat):Int)]),by simp [bA],by simp,by simp,by simp [bA]⟩⟩
instance {x:SCfg}:Sb (bA x) 6 (aE x.Master) True:=⟨fun _=>⟨[.int .i64 ((x.Blocks:Nat):Int)]++([.int .i64 ((x.Shards:Nat):Int)]++([.int .i64 ((x.Frames:Nat):Int)]++([.int .i64 ((x.Clients:Nat):Int)]++([.int .u64 ((x.Limit:Nat):Int)]++([.int .u64 ((x.Reserve:Nat):Int)]))))), [.int .u8 ((x.Flaw:Nat):Int)],by simp [bA],by simp⟩⟩
instance {x:SCfg} {y:Dig}:Ub (bA x) 6 (aE y) (bA {x with Master:=y}) True:=⟨fun _=>⟨[.int .i64 ((x.Blocks:Nat):Int)]++([.int .i64 ((x.Shards:Nat):Int)]++([.int .i64 ((x.Frames:Nat):Int)]++([.int .i64 ((x.Clients:Nat):Int)]++([.int .u64 ((x.Limit:Nat):Int)]++([.int .u64 ((x.Reserve:Nat):Int)]))))),aE x.Master, [.int .u8 ((x.Flaw:Nat):Int)],by simp [bA],by simp,by simp,by simp [bA]⟩⟩
end
section
structure SDsk where
 size:Nat
 changes:Nat
 chunks:Sv
def aJ (x:SDsk):List Value:= [.int .i64 ((x.size:Nat):Int)]++([.int .i64 ((x.changes:Nat):Int)]++([.slice x.chunks.1 x.chunks.2.1 x.chunks.2.2]))
abbrev SDsk.zero:SDsk:=⟨0,0,(none,0,0)⟩
instance:CL aJ 3:=⟨fun x=>by simp [aJ],fun x u hu=>(by unfold aJ;infer_instance:On (aJ x)).on u hu⟩
@[simp] theorem JK (x:SDsk):(aJ x).length=3:=CL.len x
instance {x:SDsk}:Sb (aJ x) 0 ([.int .i64 ((x.size:Nat):Int)]) True:=⟨fun _=>⟨[], [.int .i64 ((x.changes:Nat):Int)]++([.slice x.chunks.1 x.chunks.2.1 x.chunks.2.2]),by simp [aJ],by simp⟩⟩
instance {x:SDsk} {y:Nat} {z:Int} [h:Ni z y]:Ub (aJ x) 0 ([.int .i64 z]) (aJ {x with size:=y}) True:=⟨fun _=>by cases h.ni;exact ⟨[], [.int .i64 ((x.size:Nat):Int)], [.int .i64 ((x.changes:Nat):Int)]++([.slice x.chunks.1 x.chunks.2.1 x.chunks.2.2]),by simp [aJ],by simp,by simp,by simp [aJ]⟩⟩
instance {x:SDsk}:Sb (aJ x) 1 ([.int .i64 ((x.changes:Nat):Int)]) True:=⟨fun _=>⟨[.int .i64 ((x.size:Nat):Int)], [.slice x.chunks.1 x.chunks.2.1 x.chunks.2.2],by simp [aJ],by simp⟩⟩
instance {x:SDsk} {y:Nat} {z:Int} [h:Ni z y]:Ub (aJ x) 1 ([.int .i64 z]) (aJ {x with changes:=y}) True:=⟨fun _=>by cases h.ni;exact ⟨[.int .i64 ((x.size:Nat):Int)], [.int .i64 ((x.changes:Nat):Int)], [.slice x.chunks.1 x.chunks.2.1 x.chunks.2.2],by simp [aJ],by simp,by simp,by simp [aJ]⟩⟩
instance {x:SDsk}:Sb (aJ x) 2 ([.slice x.chunks.1 x.chunks.2.1 x.chunks.2.2]) True:=⟨fun _=>⟨[.int .i64 ((x.size:Nat):Int)]++([.int .i64 ((x.changes:Nat):Int)]), [],by simp [aJ],by simp⟩⟩
instance {x:SDsk} {a:Option Addr} {n c:Nat}:Ub (aJ x) 2 ([.slice a n c]) (aJ {x with chunks:=(a,n,c)}) True:=⟨fun _=>⟨[.int .i64 ((x.size:Nat):Int)]++([.int .i64 ((x.changes:Nat):Int)]), [.slice x.chunks.1 x.chunks.2.1 x.chunks.2.2], [],by simp [aJ],by simp,by simp,by simp [aJ]⟩⟩
end
section
structure SAlo where
 Counters:Sv
 Mark:Nat
 Limit:Nat
 Reserve:Nat
def a8 (x:SAlo):List Value:= [.slice x.Counters.1 x.Counters.2.1 x.Counters.2.2]++([.int .u64 ((x.Mark:Nat):Int)]++([.int .u64 ((x.Limit:Nat):Int)]++([.int .u64 ((x.Reserve:Nat):Int)])))
abbrev SAlo.zero:SAlo:=⟨(none,0,0),0,0,0⟩
instance:CL a8 4:=⟨fun x=>by simp [a8],fun x u hu=>(by unfold a8;infer_instance:On (a8 x)).on u hu⟩
@[simp] theorem JF (x:SAlo):(a8 x).length=4:=CL.len x
instance {x:SAlo}:Sb (a8 x) 0 ([.slice x.Counters.1 x.Counters.2.1 x.Counters.2.2]) True:=⟨fun _=>⟨[], [.int .u64 ((x.Mark:Nat):Int)]++([.int .u64 ((x.Limit:Nat):Int)]++([.int .u64 ((x.Reserve:Nat):Int)])),by simp [a8],by simp⟩⟩
instance {x:SAlo} {a:Option Addr} {n c:Nat}:Ub (a8 x) 0 ([.slice a n c]) (a8 {x with Counters:=(a,n,c)}) True:=⟨fun _=>⟨[], [.slice x.Counters.1 x.Counters.2.1 x.Counters.2.2], [.int .u64 ((x.Mark:Nat):Int)]++([.int .u64 ((x.Limit:Nat):Int)]++([.int .u64 ((x.Reserve:Nat):Int)])),by simp [a8],by simp,by simp,by simp [a8]⟩⟩
instance {x:SAlo}:Sb (a8 x) 1 ([.int .u64 ((x.Mark:Nat):Int)]) True:=⟨fun _=>⟨[.slice x.Counters.1 x.Counters.2.1 x.Counters.2.2], [.int .u64 ((x.Limit:Nat):Int)]++([.int .u64 ((x.Reserve:Nat):Int)]),by simp [a8],by simp⟩⟩
instance {x:SAlo} {y:Nat} {z:Int} [h:Ni z y]:Ub (a8 x) 1 ([.int .u64 z]) (a8 {x with Mark:=y}) True:=⟨fun _=>by cases h.ni;exact ⟨[.slice x.Counters.1 x.Counters.2.1 x.Counters.2.2], [.int .u64 ((x.Mark:Nat):Int)], [.int .u64 ((x.Limit:Nat):Int)]++([.int .u64 ((x.Reserve:Nat):Int)]),by simp [a8],by simp,by simp,by simp [a8]⟩⟩
instance {x:SAlo}:Sb (a8 x) 2 ([.int .u64 ((x.Limit:Nat):Int)]) True:=⟨fun _=>⟨[.slice x.Counters.1 x.Counters.2.1 x.Counters.2.2]++([.int .u64 ((x.Mark:Nat):Int)]), [.int .u64 ((x.Reserve:Nat):Int)],by simp [a8],by simp⟩⟩
instance {x:SAlo} {y:Nat} {z:Int} [h:Ni z y]:Ub (a8 x) 2 ([.int .u64 z]) (a8 {x with Limit:=y}) True:=⟨fun _=>by cases h.ni;exact ⟨[.slice x.Counters.1 x.Counters.2.1 x.Counters.2.2]++([.int .u64 ((x.Mark:Nat):Int)]), [.int .u64 ((x.Limit:Nat):Int)], [.int .u64 ((x.Reserve:Nat):Int)],by simp [a8],by simp,by simp,by simp [a8]⟩⟩
instance {x:SAlo}:Sb (a8 x) 3 ([.int .u64 ((x.Reserve:Nat):Int)]) True:=⟨fun _=>⟨[.slice x.Counters.1 x.Counters.2.1 x.Counters.2.2]++([.int .u64 ((x.Mark:Nat):Int)]++([.int .u64 ((x.Limit:Nat):Int)])), [],by simp [a8],by simp⟩⟩
instance {x:SAlo} {y:Nat} {z:Int} [h:Ni z y]:Ub (a8 x) 3 ([.int .u64 z]) (a8 {x with Reserve:=y}) True:=⟨fun _=>by cases h.ni;exact ⟨[.slice x.Counters.1 x.Counters.2.1 x.Counters.2.2]++([.int .u64 ((x.Mark:Nat):Int)]++([.int .u64 ((x.Limit:Nat):Int)])), [.int .u64 ((x.Reserve:Nat):Int)], [],by simp [a8],by simp,by simp,by simp [a8]⟩⟩
end
section
structure SUtr where
 Blocks:Nat
 Nodes:Sv
def a9 (x:SUtr):List Value:= [.int .i64 ((x.Blocks:Nat):Int)]++([.slice x.Nodes.1 x.Nodes.2.1 x.Nodes.2.2])
abbrev SUtr.zero:SUtr:=⟨0,(none,0,0)⟩
instance:CL a9 2:=⟨fun x=>by simp [a9],fun x u hu=>(by unfold a9;infer_instance:On (a9 x)).on u hu⟩
@[simp] theorem JG (x:SUtr):(a9 x).length=2:=CL.len x
instance {x:SUtr}:Sb (a9 x) 0 ([.int .i64 ((x.Blocks:Nat):Int)]) True:=⟨fun _=>⟨[], [.slice x.Nodes.1 x.Nodes.2.1 x.Nodes.2.2],by simp [a9],by simp⟩⟩
instance {x:SUtr} {y:Nat} {z:Int} [h:Ni z y]:Ub (a9 x) 0 ([.int .i64 z]) (a9 {x with Blocks:=y}) True:=⟨fun _=>by cases h.ni;exact ⟨[], [.int .i64 ((x.Blocks:Nat):Int)], [.slice x.Nodes.1 x.Nodes.2.1 x.Nodes.2.2],by simp [a9],by simp,by simp,by simp [a9]⟩⟩
instance {x:SUtr}:Sb (a9 x) 1 ([.slice x.Nodes.1 x.Nodes.2.1 x.Nodes.2.2]) True:=⟨fun _=>⟨[.int .i64 ((x.Blocks:Nat):Int)], [],by simp [a9],by simp⟩⟩
instance {x:SUtr} {a:Option Addr} {n c:Nat}:Ub (a9 x) 1 ([.slice a n c]) (a9 {x with Nodes:=(a,n,c)}) True:=⟨fun _=>⟨[.int .i64 ((x.Blocks:Nat):Int)], [.slice x.Nodes.1 x.Nodes.2.1 x.Nodes.2.2], [],by simp [a9],by simp,by simp,by simp [a9]⟩⟩
end
section
structure SLdg where
 Uses:Sv
def cX (x:SLdg):List Value:= [.slice x.Uses.1 x.Uses.2.1 x.Uses.2.2]
abbrev SLdg.zero:SLdg:=⟨(none,0,0)⟩
instance:CL cX 1:=⟨fun x=>by simp [cX],fun x u hu=>(by unfold cX;infer_instance:On (cX x)).on u hu⟩
@[simp] theorem Kb (x:SLdg):(cX x).length=1:=CL.len x
instance {x:SLdg}:Sb (cX x) 0 ([.slice x.Uses.1 x.Uses.2.1 x.Uses.2.2]) True:=⟨fun _=>⟨[], [],by simp [cX],by simp⟩⟩
instance {x:SLdg} {a:Option Addr} {n c:Nat}:Ub (cX x) 0 ([.slice a n c]) (cX {x with Uses:=(a,n,c)}) True:=⟨fun _=>⟨[], [.slice x.Uses.1 x.Uses.2.1 x.Uses.2.2], [],by simp [cX],by simp,by simp,by simp [cX]⟩⟩
end
section
structure SSto where
 n:Nat
 keys:Key
 disk:SDsk
 log:Sv
 alloc:SAlo
 tree:SUtr
 ledger:SLdg
 poisoned:Bool
def aA (x:SSto):List Value:= [.int .i64 ((x.n:Nat):Int)]++(cf x.keys++(aJ x.disk++([.slice x.log.1 x.log.2.1 x.log.2.2]++(a8 x.alloc++(a9 x.tree++(cX x.ledger++([.bool x.poisoned])))))))
abbrev SSto.zero:SSto:=⟨0,Key.zero,SDsk.zero,(none,0,0),SAlo.zero,SUtr.zero,SLdg.zero,false⟩
instance:CL aA 61:=⟨fun x=>by simp [aA],fun x u hu=>(by unfold aA;infer_instance:On (aA x)).on u hu⟩
@[simp] theorem J6 (x:SSto):(aA x).length=61:=CL.len x
instance {x:SSto}:Sb (aA x) 0 ([.int .i64 ((x.n:Nat):Int)]) True:=⟨fun _=>⟨[],cf x.keys++(aJ x.disk++([.slice x.log.1 x.log.2.1 x.log.2.2]++(a8 x.alloc++(a9 x.tree++(cX x.ledger++([.bool x.poisoned])))))),by simp [aA],by simp⟩⟩
instance {x:SSto} {y:Nat} {z:Int} [h:Ni z y]:Ub (aA x) 0 ([.int .i64 z]) (aA {x with n:=y}) True:=⟨fun _=>by cases h.ni;exact ⟨[], [.int .i64 ((x.n:Nat):Int)],cf x.keys++(aJ x.disk++([.slice x.log.1 x.log.2.1 x.log.2.2]++(a8 x.alloc++(a9 x.tree++(cX x.ledger++([.bool x.poisoned])))))),by simp [aA],by simp,by simp,by simp [aA]⟩⟩
instance {x:SSto}:Sb (aA x) 1 (cf x.keys) True:=⟨fun _=>⟨[.int .i64 ((x.n:Nat):Int)],aJ x.disk++([.slice x.log.1 x.log.2.1 x.log.2.2]++(a8 x.alloc++(a9 x.tree++(cX x.ledger++([.bool x.poisoned]))))),by simp [aA],by simp⟩⟩
instance {x:SSto} {y:Key}:Ub (aA x) 1 (cf y) (aA {x with keys:=y}) True:=⟨fun _=>⟨[.int .i64 ((x.n:Nat):Int)],cf x.keys,aJ x.disk++([.slice x.log.1 x.log.2.1 x.log.2.2]++(a8 x.alloc++(a9 x.tree++(cX x.ledger++([.bool x.poisoned]))))),by simp [aA],by simp,by simp,by simp [aA]⟩⟩
instance {x:SSto}:Sb (aA x) 49 (aJ x.disk) True:=⟨fun _=>⟨[.int .i64 ((x.n:Nat):Int)]++(cf x.keys), [.slice x.log.1 x.log.2.1 x.log.2.2]++(a8 x.alloc++(a9 x.tree++(cX x.ledger++([.bool x.poisoned])))),by simp [aA],by simp⟩⟩
instance {x:SSto} {y:SDsk}:Ub (aA x) 49 (aJ y) (aA {x with disk:=y}) True:=⟨fun _=>⟨[.int .i64 ((x.n:Nat):Int)]++(cf x.keys),aJ x.disk, [.slice x.log.1 x.log.2.1 x.log.2.2]++(a8 x.alloc++(a9 x.tree++(cX x.ledger++([.bool x.poisoned])))),by simp [aA],by simp,by simp,by simp [aA]⟩⟩
instance {x:SSto}:Sb (aA x) 52 ([.slice x.log.1 x.log.2.1 x.log.2.2]) True:=⟨fun _=>⟨[.int .i64 ((x.n:Nat):Int)]++(cf x.keys++(aJ x.disk)),a8 x.alloc++(a9 x.tree++(cX x.ledger++([.bool x.poisoned]))),by simp [aA],by simp⟩⟩
instance {x:SSto} {a:Option Addr} {n c:Nat}:Ub (aA x) 52 ([.slice a n c]) (aA {x with log:=(a,n,c)}) True:=⟨fun _=>⟨[.int .i64 ((x.n:Nat):Int)]++(cf x.keys++(aJ x.disk)), [.slice x.log.1 x.log.2.1 x.log.2.2],a8 x.alloc++(a9 x.tree++(cX x.ledger++([.bool x.poisoned]))),by simp [aA],by simp,by simp,by simp [aA]⟩⟩
instance {x:SSto}:Sb (aA x) 53 (a8 x.alloc) True:=⟨fun _=>⟨[.int .i64 ((x.n:Nat):Int)]++(cf x.keys++(aJ x.disk++([.slice x.log.1 x.log.2.1 x.log.2.2]))),a9 x.tree++(cX x.ledger++([.bool x.poisoned])),by simp [aA],by simp⟩⟩
instance {x:SSto} {y:SAlo}:Ub (aA x) 53 (a8 y) (aA {x with alloc:=y}) True:=⟨fun _=>⟨[.int .i64 ((x.n:Nat):Int)]++(cf x.keys++(aJ x.disk++([.slice x.log.1 x.log.2.1 x.log.2.2]))),a8 x.alloc,a9 x.tree++(cX x.ledger++([.bool x.poisoned])),by simp [aA],by simp,by simp,by simp [aA]⟩⟩
instance {x:SSto}:Sb (aA x) 57 (a9 x.tree) True:=⟨fun _=>⟨[.int .i64 ((x.n:Nat):Int)]++(cf x.keys++(aJ x.disk++([.slice x.log.1 x.log.2.1 x.log.2.2]++(a8 x.alloc)))),cX x.ledger++([.bool x.poisoned]),by simp [aA],by simp⟩⟩
instance {x:SSto} {y:SUtr}:Ub (aA x) 57 (a9 y) (aA {x with tree:=y}) True:=⟨fun _=>⟨[.int .i64 ((x.n:Nat):Int)]++(cf x.keys++(aJ x.disk++([.slice x.log.1 x.log.2.1 x.log.2.2]++(a8 x.alloc)))),a9 x.tree,cX x.ledger++([.bool x.poisoned]),by simp [aA],by simp,by simp,by simp [aA]⟩⟩
instance {x:SSto}:Sb (aA x) 59 (cX x.ledger) True:=⟨fun _=>⟨[.int .i64 ((x.n:Nat):Int)]++(cf x.keys++(aJ x.disk++([.slice x.log.1 x.log.2.1 x.log.2.2]++(a8 x.alloc++(a9 x.tree))))), [.bool x.poisoned],by simp [aA],by simp⟩⟩
instance {x:SSto} {y:SLdg}:Ub (aA x) 59 (cX y) (aA {x with ledger:=y}) True:=⟨fun _=>⟨[.int .i64 ((x.n:Nat):Int)]++(cf x.keys++(aJ x.disk++([.slice x.log.1 x.log.2.1 x.log.2.2]++(a8 x.alloc++(a9 x.tree))))),cX x.ledger, [.bool x.poisoned],by simp [aA],by simp,by simp,by simp [aA]⟩⟩
instance {x:SSto}:Sb (aA x) 60 ([.bool x.poisoned]) True:=⟨fun _=>⟨[.int .i64 ((x.n:Nat):Int)]++(cf x.keys++(aJ x.disk++([.slice x.log.1 x.log.2.1 x.log.2.2]++(a8 x.alloc++(a9 x.tree++(cX x.ledger)))))), [],by simp [aA],by simp⟩⟩
instance {x:SSto} {y:Bool}:Ub (aA x) 60 ([.bool y]) (aA {x with poisoned:=y}) True:=⟨fun _=>⟨[.int .i64 ((x.n:Nat):Int)]++(cf x.keys++(aJ x.disk++([.slice x.log.1 x.log.2.1 x.log.2.2]++(a8 x.alloc++(a9 x.tree++(cX x.ledger)))))), [.bool x.poisoned], [],by simp [aA],by simp,by simp,by simp [aA]⟩⟩
end
section
structure SPrb where
 Sector:Nat
 Fault:Nat
def cJ (x:SPrb):List Value:= [.int .i64 ((x.Sector:Nat):Int)]++([.int .u8 ((x.Fault:Nat):Int)])
abbrev SPrb.zero:SPrb:=⟨0,0⟩
instance:CL cJ 2:=⟨fun x=>by simp [cJ],fun x u hu=>(by unfold cJ;infer_instance:On (cJ x)).on u hu⟩
@[simp] theorem JI (x:SPrb):(cJ x).length=2:=CL.len x
instance {x:SPrb} {y:Nat} {z:Int} [h:Ni z y]:Ub (cJ x) 0 ([.int .i64 z]) (cJ {x with Sector:=y}) True:=⟨fun _=>by cases h.ni;exact ⟨[], [.int .i64 ((x.Sector:Nat):Int)], [.int .u8 ((x.Fault:Nat):Int)],by simp [cJ],by simp,by simp,by simp [cJ]⟩⟩
instance {x:SPrb} {y:Nat} {z:Int} [h:Ni z y]:Ub (cJ x) 1 ([.int .u8 z]) (cJ {x with Fault:=y}) True:=⟨fun _=>by cases h.ni;exact ⟨[.int .i64 ((x.Sector:Nat):Int)], [.int .u8 ((x.Fault:Nat):Int)], [],by simp [cJ],by simp,by simp,by simp [cJ]⟩⟩
end
section
structure SLwo where
 Blocks:Nat
 Ops:Sv
def AV (x:SLwo):List Value:= [.int .u8 ((x.Blocks:Nat):Int)]++([.slice x.Ops.1 x.Ops.2.1 x.Ops.2.2])
abbrev SLwo.zero:SLwo:=⟨0,(none,0,0)⟩
instance:CL AV 2:=⟨fun x=>by simp [AV],fun x u hu=>(by unfold AV;infer_instance:On (AV x)).on u hu⟩
@[simp] theorem J4 (x:SLwo):(AV x).length=2:=CL.len x
end
section
structure SAry where
 Now:Sv
 Durable:Sv
def zv (x:SAry):List Value:= [.slice x.Now.1 x.Now.2.1 x.Now.2.2]++([.slice x.Durable.1 x.Durable.2.1 x.Durable.2.2])
abbrev SAry.zero:SAry:=⟨(none,0,0),(none,0,0)⟩
instance:CL zv 2:=⟨fun x=>by simp [zv],fun x u hu=>(by unfold zv;infer_instance:On (zv x)).on u hu⟩
@[simp] theorem JN (x:SAry):(zv x).length=2:=CL.len x
end
section
structure SMtr where
 Blocks:Nat
 Nodes:Sv
def di (x:SMtr):List Value:= [.int .i64 ((x.Blocks:Nat):Int)]++([.slice x.Nodes.1 x.Nodes.2.1 x.Nodes.2.2])
abbrev SMtr.zero:SMtr:=⟨0,(none,0,0)⟩
instance:CL di 2:=⟨fun x=>by simp [di],fun x u hu=>(by unfold di;infer_instance:On (di x)).on u hu⟩
@[simp] theorem J8 (x:SMtr):(di x).length=2:=CL.len x
instance {x:SMtr}:Sb (di x) 0 ([.int .i64 ((x.Blocks:Nat):Int)]) True:=⟨fun _=>⟨[], [.slice x.Nodes.1 x.Nodes.2.1 x.Nodes.2.2],by simp [di],by simp⟩⟩
instance {x:SMtr} {y:Nat} {z:Int} [h:Ni z y]:Ub (di x) 0 ([.int .i64 z]) (di {x with Blocks:=y}) True:=⟨fun _=>by cases h.ni;exact ⟨[], [.int .i64 ((x.Blocks:Nat):Int)], [.slice x.Nodes.1 x.Nodes.2.1 x.Nodes.2.2],by simp [di],by simp,by simp,by simp [di]⟩⟩
instance {x:SMtr}:Sb (di x) 1 ([.slice x.Nodes.1 x.Nodes.2.1 x.Nodes.2.2]) True:=⟨fun _=>⟨[.int .i64 ((x.Blocks:Nat):Int)], [],by simp [di],by simp⟩⟩
instance {x:SMtr} {a:Option Addr} {n c:Nat}:Ub (di x) 1 ([.slice a n c]) (di {x with Nodes:=(a,n,c)}) True:=⟨fun _=>⟨[.int .i64 ((x.Blocks:Nat):Int)], [.slice x.Nodes.1 x.Nodes.2.1 x.Nodes.2.2], [],by simp [di],by simp,by simp,by simp [di]⟩⟩
end
section
structure SMpr where
 Block:Nat
 Nodes:Sv
def d9 (x:SMpr):List Value:= [.int .i64 ((x.Block:Nat):Int)]++([.slice x.Nodes.1 x.Nodes.2.1 x.Nodes.2.2])
abbrev SMpr.zero:SMpr:=⟨0,(none,0,0)⟩
instance:CL d9 2:=⟨fun x=>by simp [d9],fun x u hu=>(by unfold d9;infer_instance:On (d9 x)).on u hu⟩
@[simp] theorem Kj (x:SMpr):(d9 x).length=2:=CL.len x
instance {x:SMpr}:Sb (d9 x) 0 ([.int .i64 ((x.Block:Nat):Int)]) True:=⟨fun _=>⟨[], [.slice x.Nodes.1 x.Nodes.2.1 x.Nodes.2.2],by simp [d9],by simp⟩⟩
instance {x:SMpr} {y:Nat} {z:Int} [h:Ni z y]:Ub (d9 x) 0 ([.int .i64 z]) (d9 {x with Block:=y}) True:=⟨fun _=>by cases h.ni;exact ⟨[], [.int .i64 ((x.Block:Nat):Int)], [.slice x.Nodes.1 x.Nodes.2.1 x.Nodes.2.2],by simp [d9],by simp,by simp,by simp [d9]⟩⟩
instance {x:SMpr}:Sb (d9 x) 1 ([.slice x.Nodes.1 x.Nodes.2.1 x.Nodes.2.2]) True:=⟨fun _=>⟨[.int .i64 ((x.Block:Nat):Int)], [],by simp [d9],by simp⟩⟩
instance {x:SMpr} {a:Option Addr} {n c:Nat}:Ub (d9 x) 1 ([.slice a n c]) (d9 {x with Nodes:=(a,n,c)}) True:=⟨fun _=>⟨[.int .i64 ((x.Block:Nat):Int)], [.slice x.Nodes.1 x.Nodes.2.1 x.Nodes.2.2], [],by simp [d9],by simp,by simp,by simp [d9]⟩⟩
end
section
structure SRng where
 Nonce:Non
 First:Nat
 Last:Nat
def c8 (x:SRng):List Value:=cz x.Nonce++([.int .u32 ((x.First:Nat):Int)]++([.int .u32 ((x.Last:Nat):Int)]))
abbrev SRng.zero:SRng:=⟨Non.zero,0,0⟩
instance:CL c8 4:=⟨fun x=>by simp [c8],fun x u hu=>(by unfold c8;infer_instance:On (c8 x)).on u hu⟩
@[simp] theorem Kv (x:SRng):(c8 x).length=4:=CL.len x
instance {x:SRng} {y:Non}:Ub (c8 x) 0 (cz y) (c8 {x with Nonce:=y}) True:=⟨fun _=>⟨[],cz x.Nonce, [.int .u32 ((x.First:Nat):Int)]++([.int .u32 ((x.Last:Nat):Int)]),by simp [c8],by simp,by simp,by simp [c8]⟩⟩
instance {x:SRng}:Sb (c8 x) 2 ([.int .u32 ((x.First:Nat):Int)]) True:=⟨fun _=>⟨cz x.Nonce, [.int .u32 ((x.Last:Nat):Int)],by simp [c8],by simp⟩⟩
instance {x:SRng} {y:Nat} {z:Int} [h:Ni z y]:Ub (c8 x) 2 ([.int .u32 z]) (c8 {x with First:=y}) True:=⟨fun _=>by cases h.ni;exact ⟨cz x.Nonce, [.int .u32 ((x.First:Nat):Int)], [.int .u32 ((x.Last:Nat):Int)],by simp [c8],by simp,by simp,by simp [c8]⟩⟩
instance {x:SRng}:Sb (c8 x) 3 ([.int .u32 ((x.Last:Nat):Int)]) True:=⟨fun _=>⟨cz x.Nonce++([.int .u32 ((x.First:Nat):Int)]), [],by simp [c8],by simp⟩⟩
instance {x:SRng} {y:Nat} {z:Int} [h:Ni z y]:Ub (c8 x) 3 ([.int .u32 z]) (c8 {x with Last:=y}) True:=⟨fun _=>by cases h.ni;exact ⟨cz x.Nonce++([.int .u32 ((x.First:Nat):Int)]), [.int .u32 ((x.Last:Nat):Int)], [],by simp [c8],by simp,by simp,by simp [c8]⟩⟩
end
section
structure SUse where
 Key:B16
 Range:SRng
def cY (x:SUse):List Value:=fz x.Key++(c8 x.Range)
abbrev SUse.zero:SUse:=⟨B16.zero,SRng.zero⟩
instance:Inhabited SUse:=⟨SUse.zero⟩
instance:CL cY 20:=⟨fun x=>by simp [cY],fun x u hu=>(by unfold cY;infer_instance:On (cY x)).on u hu⟩
@[simp] theorem KD (x:SUse):(cY x).length=20:=CL.len x
instance {x:SUse} {y:B16}:Ub (cY x) 0 (fz y) (cY {x with Key:=y}) True:=⟨fun _=>⟨[],fz x.Key,c8 x.Range,by simp [cY],by simp,by simp,by simp [cY]⟩⟩
instance {x:SUse}:Sb (cY x) 16 (c8 x.Range) True:=⟨fun _=>⟨fz x.Key, [],by simp [cY],by simp⟩⟩
instance {x:SUse} {y:SRng}:Ub (cY x) 16 (c8 y) (cY {x with Range:=y}) True:=⟨fun _=>⟨fz x.Key,c8 x.Range, [],by simp [cY],by simp,by simp,by simp [cY]⟩⟩
end
section
structure SVer where
 there:Bool
 b:Sv
 number:Nat
 before_:Option Addr
def cH (x:SVer):List Value:= [.bool x.there]++([.slice x.b.1 x.b.2.1 x.b.2.2]++([.int .i64 ((x.number:Nat):Int)]++([.pointer x.before_])))
abbrev SVer.zero:SVer:=⟨false,(none,0,0),0,none⟩
instance:CL cH 4:=⟨fun x=>by simp [cH],fun x u hu=>(by unfold cH;infer_instance:On (cH x)).on u hu⟩
@[simp] theorem KG (x:SVer):(cH x).length=4:=CL.len x
instance {x:SVer}:Sb (cH x) 0 ([.bool x.there]) True:=⟨fun _=>⟨[], [.slice x.b.1 x.b.2.1 x.b.2.2]++([.int .i64 ((x.number:Nat):Int)]++([.pointer x.before_])),by simp [cH],by simp⟩⟩
instance {x:SVer} {y:Bool}:Ub (cH x) 0 ([.bool y]) (cH {x with there:=y}) True:=⟨fun _=>⟨[], [.bool x.there], [.slice x.b.1 x.b.2.1 x.b.2.2]++([.int .i64 ((x.number:Nat):Int)]++([.pointer x.before_])),by simp [cH],by simp,by simp,by simp [cH]⟩⟩
instance {x:SVer}:Sb (cH x) 1 ([.slice x.b.1 x.b.2.1 x.b.2.2]) True:=⟨fun _=>⟨[.bool x.there], [.int .i64 ((x.number:Nat):Int)]++([.pointer x.before_]),by simp [cH],by simp⟩⟩
instance {x:SVer} {a:Option Addr} {n c:Nat}:Ub (cH x) 1 ([.slice a n c]) (cH {x with b:=(a,n,c)}) True:=⟨fun _=>⟨[.bool x.there], [.slice x.b.1 x.b.2.1 x.b.2.2], [.int .i64 ((x.number:Nat):Int)]++([.pointer x.before_]),by simp [cH],by simp,by simp,by simp [cH]⟩⟩
instance {x:SVer}:Sb (cH x) 2 ([.int .i64 ((x.number:Nat):Int)]) True:=⟨fun _=>⟨[.bool x.there]++([.slice x.b.1 x.b.2.1 x.b.2.2]), [.pointer x.before_],by simp [cH],by simp⟩⟩
instance {x:SVer} {y:Nat} {z:Int} [h:Ni z y]:Ub (cH x) 2 ([.int .i64 z]) (cH {x with number:=y}) True:=⟨fun _=>by cases h.ni;exact ⟨[.bool x.there]++([.slice x.b.1 x.b.2.1 x.b.2.2]), [.int .i64 ((x.number:Nat):Int)], [.pointer x.before_],by simp [cH],by simp,by simp,by simp [cH]⟩⟩
instance {x:SVer}:Sb (cH x) 3 ([.pointer x.before_]) True:=⟨fun _=>⟨[.bool x.there]++([.slice x.b.1 x.b.2.1 x.b.2.2]++([.int .i64 ((x.number:Nat):Int)])), [],by simp [cH],by simp⟩⟩
instance {x:SVer} {y:Option Addr}:Ub (cH x) 3 ([.pointer y]) (cH {x with before_:=y}) True:=⟨fun _=>⟨[.bool x.there]++([.slice x.b.1 x.b.2.1 x.b.2.2]++([.int .i64 ((x.number:Nat):Int)])), [.pointer x.before_], [],by simp [cH],by simp,by simp,by simp [cH]⟩⟩
end
section
structure SRvo where
 n:Nat
 d:SDsk
 c:Cel
 k:Key
def cA (x:SRvo):List Value:= [.int .i64 ((x.n:Nat):Int)]++(aJ x.d++(aM x.c++(cf x.k)))
abbrev SRvo.zero:SRvo:=⟨0,SDsk.zero,Cel.zero,Key.zero⟩
instance:CL cA 86:=⟨fun x=>by simp [cA],fun x u hu=>(by unfold cA;infer_instance:On (cA x)).on u hu⟩
@[simp] theorem Kq (x:SRvo):(cA x).length=86:=CL.len x
instance {x:SRvo}:Sb (cA x) 0 ([.int .i64 ((x.n:Nat):Int)]) True:=⟨fun _=>⟨[],aJ x.d++(aM x.c++(cf x.k)),by simp [cA],by simp⟩⟩
instance {x:SRvo} {y:Nat} {z:Int} [h:Ni z y]:Ub (cA x) 0 ([.int .i64 z]) (cA {x with n:=y}) True:=⟨fun _=>by cases h.ni;exact ⟨[], [.int .i64 ((x.n:Nat):Int)],aJ x.d++(aM x.c++(cf x.k)),by simp [cA],by simp,by simp,by simp [cA]⟩⟩
instance {x:SRvo}:Sb (cA x) 1 (aJ x.d) True:=⟨fun _=>⟨[.int .i64 ((x.n:Nat):Int)],aM x.c++(cf x.k),by simp [cA],by simp⟩⟩
instance {x:SRvo} {y:SDsk}:Ub (cA x) 1 (aJ y) (cA {x with d:=y}) True:=⟨fun _=>⟨[.int .i64 ((x.n:Nat):Int)],aJ x.d,aM x.c++(cf x.k),by simp [cA],by simp,by simp,by simp [cA]⟩⟩
instance {x:SRvo}:Sb (cA x) 4 (aM x.c) True:=⟨fun _=>⟨[.int .i64 ((x.n:Nat):Int)]++(aJ x.d),cf x.k,by simp [cA],by simp⟩⟩
instance {x:SRvo} {y:Cel}:Ub (cA x) 4 (aM y) (cA {x with c:=y}) True:=⟨fun _=>⟨[.int .i64 ((x.n:Nat):Int)]++(aJ x.d),aM x.c,cf x.k,by simp [cA],by simp,by simp,by simp [cA]⟩⟩
instance {x:SRvo}:Sb (cA x) 38 (cf x.k) True:=⟨fun _=>⟨[.int .i64 ((x.n:Nat):Int)]++(aJ x.d++(aM x.c)), [],by simp [cA],by simp⟩⟩
instance {x:SRvo} {y:Key}:Ub (cA x) 38 (cf y) (cA {x with k:=y}) True:=⟨fun _=>⟨[.int .i64 ((x.n:Nat):Int)]++(aJ x.d++(aM x.c)),cf x.k, [],by simp [cA],by simp,by simp,by simp [cA]⟩⟩
end
section
structure SArs where
 Value:Dig
 Err:Nat
def zr (x:SArs):List Value:=aE x.Value++([.int .i64 ((x.Err:Nat):Int)])
abbrev SArs.zero:SArs:=⟨Dig.zero,0⟩
instance:CL zr 33:=⟨fun x=>by simp [zr],fun x u hu=>(by unfold zr;infer_instance:On (zr x)).on u hu⟩
@[simp] theorem JZ (x:SArs):(zr x).length=33:=CL.len x
end
section
structure SOpn where
 Kind:Nat
 Index:Int
 Data:Sv
def Bu (x:SOpn):List Value:= [.int .u8 ((x.Kind:Nat):Int)]++([.int .i64 x.Index]++([.slice x.Data.1 x.Data.2.1 x.Data.2.2]))
abbrev SOpn.zero:SOpn:=⟨0,0,(none,0,0)⟩
instance:CL Bu 3:=⟨fun x=>by simp [Bu],fun x u hu=>(by unfold Bu;infer_instance:On (Bu x)).on u hu⟩
@[simp] theorem Ki (x:SOpn):(Bu x).length=3:=CL.len x
end
section
structure SWri where
 Sector:Nat
 Bytes:Sv
def dh (x:SWri):List Value:= [.int .i64 ((x.Sector:Nat):Int)]++([.slice x.Bytes.1 x.Bytes.2.1 x.Bytes.2.2])
abbrev SWri.zero:SWri:=⟨0,(none,0,0)⟩
instance:Inhabited SWri:=⟨SWri.zero⟩
instance:CL dh 2:=⟨fun x=>by simp [dh],fun x u hu=>(by unfold dh;infer_instance:On (dh x)).on u hu⟩
@[simp] theorem JP (x:SWri):(dh x).length=2:=CL.len x
instance {x:SWri}:Sb (dh x) 0 ([.int .i64 ((x.Sector:Nat):Int)]) True:=⟨fun _=>⟨[], [.slice x.Bytes.1 x.Bytes.2.1 x.Bytes.2.2],by simp [dh],by simp⟩⟩
instance {x:SWri} {y:Nat} {z:Int} [h:Ni z y]:Ub (dh x) 0 ([.int .i64 z]) (dh {x with Sector:=y}) True:=⟨fun _=>by cases h.ni;exact ⟨[], [.int .i64 ((x.Sector:Nat):Int)], [.slice x.Bytes.1 x.Bytes.2.1 x.Bytes.2.2],by simp [dh],by simp,by simp,by simp [dh]⟩⟩
instance {x:SWri}:Sb (dh x) 1 ([.slice x.Bytes.1 x.Bytes.2.1 x.Bytes.2.2]) True:=⟨fun _=>⟨[.int .i64 ((x.Sector:Nat):Int)], [],by simp [dh],by simp⟩⟩
instance {x:SWri} {a:Option Addr} {n c:Nat}:Ub (dh x) 1 ([.slice a n c]) (dh {x with Bytes:=(a,n,c)}) True:=⟨fun _=>⟨[.int .i64 ((x.Sector:Nat):Int)], [.slice x.Bytes.1 x.Bytes.2.1 x.Bytes.2.2], [],by simp [dh],by simp,by simp,by simp [dh]⟩⟩
end
section
structure SLvo where
 n:Nat
 d:SDsk
def dA (x:SLvo):List Value:= [.int .i64 ((x.n:Nat):Int)]++(aJ x.d)
abbrev SLvo.zero:SLvo:=⟨0,SDsk.zero⟩
instance:CL dA 4:=⟨fun x=>by simp [dA],fun x u hu=>(by unfold dA;infer_instance:On (dA x)).on u hu⟩
@[simp] theorem JC (x:SLvo):(dA x).length=4:=CL.len x
instance {x:SLvo}:Sb (dA x) 0 ([.int .i64 ((x.n:Nat):Int)]) True:=⟨fun _=>⟨[],aJ x.d,by simp [dA],by simp⟩⟩
instance {x:SLvo} {y:Nat} {z:Int} [h:Ni z y]:Ub (dA x) 0 ([.int .i64 z]) (dA {x with n:=y}) True:=⟨fun _=>by cases h.ni;exact ⟨[], [.int .i64 ((x.n:Nat):Int)],aJ x.d,by simp [dA],by simp,by simp,by simp [dA]⟩⟩
instance {x:SLvo}:Sb (dA x) 1 (aJ x.d) True:=⟨fun _=>⟨[.int .i64 ((x.n:Nat):Int)], [],by simp [dA],by simp⟩⟩
instance {x:SLvo} {y:SDsk}:Ub (dA x) 1 (aJ y) (dA {x with d:=y}) True:=⟨fun _=>⟨[.int .i64 ((x.n:Nat):Int)],aJ x.d, [],by simp [dA],by simp,by simp,by simp [dA]⟩⟩
end
section
structure SPla where
 Level:Nat
 Index:Nat
def de (x:SPla):List Value:= [.int .i64 ((x.Level:Nat):Int)]++([.int .i64 ((x.Index:Nat):Int)])
abbrev SPla.zero:SPla:=⟨0,0⟩
instance:Inhabited SPla:=⟨SPla.zero⟩
instance:CL de 2:=⟨fun x=>by simp [de],fun x u hu=>(by unfold de;infer_instance:On (de x)).on u hu⟩
@[simp] theorem KB (x:SPla):(de x).length=2:=CL.len x
instance {x:SPla}:Sb (de x) 0 ([.int .i64 ((x.Level:Nat):Int)]) True:=⟨fun _=>⟨[], [.int .i64 ((x.Index:Nat):Int)],by simp [de],by simp⟩⟩
instance {x:SPla} {y:Nat} {z:Int} [h:Ni z y]:Ub (de x) 0 ([.int .i64 z]) (de {x with Level:=y}) True:=⟨fun _=>by cases h.ni;exact ⟨[], [.int .i64 ((x.Level:Nat):Int)], [.int .i64 ((x.Index:Nat):Int)],by simp [de],by simp,by simp,by simp [de]⟩⟩
instance {x:SPla}:Sb (de x) 1 ([.int .i64 ((x.Index:Nat):Int)]) True:=⟨fun _=>⟨[.int .i64 ((x.Level:Nat):Int)], [],by simp [de],by simp⟩⟩
instance {x:SPla} {y:Nat} {z:Int} [h:Ni z y]:Ub (de x) 1 ([.int .i64 z]) (de {x with Index:=y}) True:=⟨fun _=>by cases h.ni;exact ⟨[.int .i64 ((x.Level:Nat):Int)], [.int .i64 ((x.Index:Nat):Int)], [],by simp [de],by simp,by simp,by simp [de]⟩⟩
end
section
structure SMla where
 n:Nat
 counts:Sv
 first:Sv
def cU (x:SMla):List Value:= [.int .i64 ((x.n:Nat):Int)]++([.slice x.counts.1 x.counts.2.1 x.counts.2.2]++([.slice x.first.1 x.first.2.1 x.first.2.2]))
abbrev SMla.zero:SMla:=⟨0,(none,0,0),(none,0,0)⟩
instance:CL cU 3:=⟨fun x=>by simp [cU],fun x u hu=>(by unfold cU;infer_instance:On (cU x)).on u hu⟩
@[simp] theorem Kx (x:SMla):(cU x).length=3:=CL.len x
instance {x:SMla} {y:Nat} {z:Int} [h:Ni z y]:Ub (cU x) 0 ([.int .i64 z]) (cU {x with n:=y}) True:=⟨fun _=>by cases h.ni;exact ⟨[], [.int .i64 ((x.n:Nat):Int)], [.slice x.counts.1 x.counts.2.1 x.counts.2.2]++([.slice x.first.1 x.first.2.1 x.first.2.2]),by simp [cU],by simp,by simp,by simp [cU]⟩⟩
instance {x:SMla}:Sb (cU x) 1 ([.slice x.counts.1 x.counts.2.1 x.counts.2.2]) True:=⟨fun _=>⟨[.int .i64 ((x.n:Nat):Int)], [.slice x.first.1 x.first.2.1 x.first.2.2],by simp [cU],by simp⟩⟩
instance {x:SMla} {a:Option Addr} {n c:Nat}:Ub (cU x) 1 ([.slice a n c]) (cU {x with counts:=(a,n,c)}) True:=⟨fun _=>⟨[.int .i64 ((x.n:Nat):Int)], [.slice x.counts.1 x.counts.2.1 x.counts.2.2], [.slice x.first.1 x.first.2.1 x.first.2.2],by simp [cU],by simp,by simp,by simp [cU]⟩⟩
instance {x:SMla}:Sb (cU x) 2 ([.slice x.first.1 x.first.2.1 x.first.2.2]) True:=⟨fun _=>⟨[.int .i64 ((x.n:Nat):Int)]++([.slice x.counts.1 x.counts.2.1 x.counts.2.2]), [],by simp [cU],by simp⟩⟩
instance {x:SMla} {a:Option Addr} {n c:Nat}:Ub (cU x) 2 ([.slice a n c]) (cU {x with first:=(a,n,c)}) True:=⟨fun _=>⟨[.int .i64 ((x.n:Nat):Int)]++([.slice x.counts.1 x.counts.2.1 x.counts.2.2]), [.slice x.first.1 x.first.2.1 x.first.2.2], [],by simp [cU],by simp,by simp,by simp [cU]⟩⟩
end
section
structure SLpl where
 key:B16
 nonce:Non
def AR (x:SLpl):List Value:=fz x.key++(cz x.nonce)
abbrev SLpl.zero:SLpl:=⟨B16.zero,Non.zero⟩
instance:CL AR 18:=⟨fun x=>by simp [AR],fun x u hu=>(by unfold AR;infer_instance:On (AR x)).on u hu⟩
@[simp] theorem JV (x:SLpl):(AR x).length=18:=CL.len x
end
section
structure SUla where
 counts:Sv
 first:Sv
def cO (x:SUla):List Value:= [.slice x.counts.1 x.counts.2.1 x.counts.2.2]++([.slice x.first.1 x.first.2.1 x.first.2.2])
abbrev SUla.zero:SUla:=⟨(none,0,0),(none,0,0)⟩
instance:CL cO 2:=⟨fun x=>by simp [cO],fun x u hu=>(by unfold cO;infer_instance:On (cO x)).on u hu⟩
@[simp] theorem Ka (x:SUla):(cO x).length=2:=CL.len x
instance {x:SUla}:Sb (cO x) 0 ([.slice x.counts.1 x.counts.2.1 x.counts.2.2]) True:=⟨fun _=>⟨[], [.slice x.first.1 x.first.2.1 x.first.2.2],by simp [cO],by simp⟩⟩
instance {x:SUla} {a:Option Addr} {n c:Nat}:Ub (cO x) 0 ([.slice a n c]) (cO {x with counts:=(a,n,c)}) True:=⟨fun _=>⟨[], [.slice x.counts.1 x.counts.2.1 x.counts.2.2], [.slice x.first.1 x.first.2.1 x.first.2.2],by simp [cO],by simp,by simp,by simp [cO]⟩⟩
instance {x:SUla}:Sb (cO x) 1 ([.slice x.first.1 x.first.2.1 x.first.2.2]) True:=⟨fun _=>⟨[.slice x.counts.1 x.counts.2.1 x.counts.2.2], [],by simp [cO],by simp⟩⟩
instance {x:SUla} {a:Option Addr} {n c:Nat}:Ub (cO x) 1 ([.slice a n c]) (cO {x with first:=(a,n,c)}) True:=⟨fun _=>⟨[.slice x.counts.1 x.counts.2.1 x.counts.2.2], [.slice x.first.1 x.first.2.1 x.first.2.2], [],by simp [cO],by simp,by simp,by simp [cO]⟩⟩
end
section
structure SShp where
 n:Nat
 c:Sv
def dB (x:SShp):List Value:= [.int .i64 ((x.n:Nat):Int)]++([.slice x.c.1 x.c.2.1 x.c.2.2])
abbrev SShp.zero:SShp:=⟨0,(none,0,0)⟩
instance:CL dB 2:=⟨fun x=>by simp [dB],fun x u hu=>(by unfold dB;infer_instance:On (dB x)).on u hu⟩
@[simp] theorem Kh (x:SShp):(dB x).length=2:=CL.len x
instance {x:SShp}:Sb (dB x) 0 ([.int .i64 ((x.n:Nat):Int)]) True:=⟨fun _=>⟨[], [.slice x.c.1 x.c.2.1 x.c.2.2],by simp [dB],by simp⟩⟩
instance {x:SShp} {y:Nat} {z:Int} [h:Ni z y]:Ub (dB x) 0 ([.int .i64 z]) (dB {x with n:=y}) True:=⟨fun _=>by cases h.ni;exact ⟨[], [.int .i64 ((x.n:Nat):Int)], [.slice x.c.1 x.c.2.1 x.c.2.2],by simp [dB],by simp,by simp,by simp [dB]⟩⟩
instance {x:SShp}:Sb (dB x) 1 ([.slice x.c.1 x.c.2.1 x.c.2.2]) True:=⟨fun _=>⟨[.int .i64 ((x.n:Nat):Int)], [],by simp [dB],by simp⟩⟩
instance {x:SShp} {a:Option Addr} {n c:Nat}:Ub (dB x) 1 ([.slice a n c]) (dB {x with c:=(a,n,c)}) True:=⟨fun _=>⟨[.int .i64 ((x.n:Nat):Int)], [.slice x.c.1 x.c.2.1 x.c.2.2], [],by simp [dB],by simp,by simp,by simp [dB]⟩⟩
end
section
structure SFlt where
 at_:Nat
 e:Nat
def yn (x:SFlt):List Value:= [.int .i64 ((x.at_:Nat):Int)]++([.int .i64 ((x.e:Nat):Int)])
abbrev SFlt.zero:SFlt:=⟨0,0⟩
instance:CL yn 2:=⟨fun x=>by simp [yn],fun x u hu=>(by unfold yn;infer_instance:On (yn x)).on u hu⟩
@[simp] theorem Kp (x:SFlt):(yn x).length=2:=CL.len x
end
section
structure SRdr where
 b:Sv
def gJ (x:SRdr):List Value:= [.slice x.b.1 x.b.2.1 x.b.2.2]
abbrev SRdr.zero:SRdr:=⟨(none,0,0)⟩
instance:CL gJ 1:=⟨fun x=>by simp [gJ],fun x u hu=>(by unfold gJ;infer_instance:On (gJ x)).on u hu⟩
@[simp] theorem J3 (x:SRdr):(gJ x).length=1:=CL.len x
instance {x:SRdr}:Sb (gJ x) 0 ([.slice x.b.1 x.b.2.1 x.b.2.2]) True:=⟨fun _=>⟨[], [],by simp [gJ],by simp⟩⟩
instance {x:SRdr} {a:Option Addr} {n c:Nat}:Ub (gJ x) 0 ([.slice a n c]) (gJ {x with b:=(a,n,c)}) True:=⟨fun _=>⟨[], [.slice x.b.1 x.b.2.1 x.b.2.2], [],by simp [gJ],by simp,by simp,by simp [gJ]⟩⟩
end
section
structure SUck where
 l:SUla
 t:SUtr
 n:Nat
 i:Nat
def cE (x:SUck):List Value:=cO x.l++(a9 x.t++([.int .i64 ((x.n:Nat):Int)]++([.int .i64 ((x.i:Nat):Int)])))
abbrev SUck.zero:SUck:=⟨SUla.zero,SUtr.zero,0,0⟩
instance:CL cE 6:=⟨fun x=>by simp [cE],fun x u hu=>(by unfold cE;infer_instance:On (cE x)).on u hu⟩
@[simp] theorem KI (x:SUck):(cE x).length=6:=CL.len x
instance {x:SUck}:Sb (cE x) 0 (cO x.l) True:=⟨fun _=>⟨[],a9 x.t++([.int .i64 ((x.n:Nat):Int)]++([.int .i64 ((x.i:Nat):Int)])),by simp [cE],by simp⟩⟩
instance {x:SUck} {y:SUla}:Ub (cE x) 0 (cO y) (cE {x with l:=y}) True:=⟨fun _=>⟨[],cO x.l,a9 x.t++([.int .i64 ((x.n:Nat):Int)]++([.int .i64 ((x.i:Nat):Int)])),by simp [cE],by simp,by simp,by simp [cE]⟩⟩
instance {x:SUck}:Sb (cE x) 2 (a9 x.t) True:=⟨fun _=>⟨cO x.l, [.int .i64 ((x.n:Nat):Int)]++([.int .i64 ((x.i:Nat):Int)]),by simp [cE],by simp⟩⟩
instance {x:SUck} {y:SUtr}:Ub (cE x) 2 (a9 y) (cE {x with t:=y}) True:=⟨fun _=>⟨cO x.l,a9 x.t, [.int .i64 ((x.n:Nat):Int)]++([.int .i64 ((x.i:Nat):Int)]),by simp [cE],by simp,by simp,by simp [cE]⟩⟩
instance {x:SUck}:Sb (cE x) 4 ([.int .i64 ((x.n:Nat):Int)]) True:=⟨fun _=>⟨cO x.l++(a9 x.t), [.int .i64 ((x.i:Nat):Int)],by simp [cE],by simp⟩⟩
instance {x:SUck} {y:Nat} {z:Int} [h:Ni z y]:Ub (cE x) 4 ([.int .i64 z]) (cE {x with n:=y}) True:=⟨fun _=>by cases h.ni;exact ⟨cO x.l++(a9 x.t), [.int .i64 ((x.n:Nat):Int)], [.int .i64 ((x.i:Nat):Int)],by simp [cE],by simp,by simp,by simp [cE]⟩⟩
instance {x:SUck}:Sb (cE x) 5 ([.int .i64 ((x.i:Nat):Int)]) True:=⟨fun _=>⟨cO x.l++(a9 x.t++([.int .i64 ((x.n:Nat):Int)])), [],by simp [cE],by simp⟩⟩
instance {x:SUck} {y:Nat} {z:Int} [h:Ni z y]:Ub (cE x) 5 ([.int .i64 z]) (cE {x with i:=y}) True:=⟨fun _=>by cases h.ni;exact ⟨cO x.l++(a9 x.t++([.int .i64 ((x.n:Nat):Int)])), [.int .i64 ((x.i:Nat):Int)], [],by simp [cE],by simp,by simp,by simp [cE]⟩⟩
end
section
structure SCst where
 b:B16
def je (x:SCst):List Value:=fz x.b
abbrev SCst.zero:SCst:=⟨B16.zero⟩
instance:CL je 16:=⟨fun x=>by simp [je],fun x u hu=>(by unfold je;infer_instance:On (je x)).on u hu⟩
@[simp] theorem Ks (x:SCst):(je x).length=16:=CL.len x
instance {x:SCst} {y:B16}:Ub (je x) 0 (fz y) (je {x with b:=y}) True:=⟨fun _=>⟨[],fz x.b, [],by simp [je],by simp,by simp,by simp [je]⟩⟩
end
end Go.Cz
