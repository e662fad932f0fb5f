/- Lemmas and walks: what each function does, by its own code. No condition beyond those of each statement. -/
import Derived.Test.YtbobhnldhpjdlaaGreatDoorP1
import Derived.Great.BuildSlice
import Derived.Deep.AppendLies
import Derived.Laws.Small
set_option linter.all false
set_option linter.unusedVariables false
namespace Go.Cs
open Go Go.RowKit
structure OwM {α:Type} (f:α→List Value) (sz lo hi:Nat) (w:World) (a:Option Addr) (len cap:Nat) (e:TypeId) (l:List α):Prop where
 row:w.ownsRow lo e sz (.slice a len cap) len (l.flatMap f)
 len_eq:len=l.length
 below:∀ad,a=some ad→ad.block<hi
 each:∀x,(f x).length=sz
section
variable {α:Type} {f:α→List Value} {sz lo hi:Nat} {w w':World} {a:Option Addr} {len cap:Nat} {e:TypeId} {l:List α}
theorem OwM.nil (f:α→List Value) (sz lo hi:Nat) (w:World) (e:TypeId) (hf:∀x,(f x).length=sz):OwM f sz lo hi w none 0 0 e []:=⟨by simpa using World.ownsRow_nil w lo e sz,rfl,by (intro ad h;cases h),hf⟩
theorem OwM.ne {k:Nat} (h:OwM f sz lo hi w a len cap e l) (hk:ov a k):lo≤k∧k<hi:=by
 obtain ⟨ad,rfl,rfl⟩:=hk
 refine ⟨?_,h.below ad rfl⟩
 have:=h.row.lt ad.block rfl
 exact this.1
theorem OwM.blk (h:OwM f sz lo hi w a len cap e l):(a=none∧len=0∧cap=0)∨∃b cs,a=some ⟨b,0,none⟩∧Blk w b cs e∧lo≤b∧b<hi∧len≤cap∧cap≤maxLen∧cs.length=cap*sz∧cs.take (len*sz)=l.flatMap f:=by
 rcases h.row.2 with ⟨h1,h2⟩|⟨g,c,cur,h1,h2,h3,h4,h5,h6,h7⟩
 ·cases h1;exact .inl ⟨rfl,rfl,rfl⟩
 ·cases h1
  refine .inr ⟨g,cur.toList,rfl,by simpa [Blk] using h3,h2,h.below _ rfl,h4,h5,by simpa using h6,by simpa using h7⟩
theorem OwM.chg {S:Nat→Prop} (h:OwM f sz lo hi w a len cap e l) (hc:Chg S w w') (hs:∀k,lo≤k→k<hi→¬S k:=by intro k h1 h2 hs;first |(have h:k=_:=hs;omega)|(rcases hs with hs | hs<;>omega)):OwM f sz lo hi w' a len cap e l:=by
 refine ⟨⟨h.row.1, ?_⟩,h.len_eq,h.below,h.each⟩
 rcases h.row.2 with h1 |⟨g,c,cur,h1,h2,h3,h4⟩
 ·exact .inl h1
 ·cases h1
  have hlt:g<w.heap.size:=(Array.getElem?_eq_some_iff.1 h3).1
  exact .inr ⟨g,cap,cur,rfl,h2,by rw [hc.block g hlt (hs g h2 (h.below _ rfl))];exact h3,h4⟩
theorem OwM.ext (h:OwM f sz lo hi w a len cap e l) (hc:Ext w w'):OwM f sz lo hi w' a len cap e l:=h.chg hc (fun _ _ _ hf=>hf)
theorem OwM.mono {lo' hi':Nat} (h:OwM f sz lo hi w a len cap e l) (h1:lo'≤lo) (h2:hi≤hi'):OwM f sz lo' hi' w a len cap e l:=by
 refine ⟨⟨h.row.1, ?_⟩,h.len_eq,fun ad ha=>Nat.lt_of_lt_of_le (h.below ad ha) h2,h.each⟩
 rcases h.row.2 with h3 |⟨g,c,cur,h3,h4,h5⟩
 ·exact .inl h3
 ·exact .inr ⟨g,c,cur,h3,by omega,h5⟩
theorem OwM.now (h:OwM f sz lo hi w a len cap e l):OwM f sz lo w.heap.size w a len cap e l:=
 ⟨h.row,h.len_eq,by (rintro ad rfl;exact (h.row.lt ad.block rfl).2),h.each⟩
theorem OwM.ms (h:OwM f sz lo hi w a len cap e l):Ms f sz lo hi w a len cap l:=by
 refine ⟨?_,h.len_eq,h.each⟩
 rcases h.blk with ⟨rfl,rfl,rfl⟩|⟨b,cs,rfl,hB,h1,h2,h3,h4,h5,h6⟩
 ·have:l= []:=List.eq_nil_of_length_eq_zero h.len_eq.symm
  subst this
  exact eN.nil _ _ _
 ·refine ⟨h3,h4, .inr ⟨rfl,h1,h2,hB.lt,fun i v hv=> ?_⟩⟩
  rw [←h6,List.getElem?_take] at hv
  split at hv
  ·simpa using hB.cell hv
  ·cases hv
end
end Go.Cs
namespace Go.Cs
open Go Go.RowKit
def jq (f:Nat→Nat):Nat→Nat
 | 0=>0
 | k+1=>if jq f k=0 then f k else jq f k
theorem bB {f:Nat→Nat}:∀{k:Nat},jq f k=0↔∀i,i<k→f i=0
 | 0=>⟨fun _ i h=>absurd h (Nat.not_lt_zero _),fun _=>rfl⟩
 | k+1=>by
  rw [jq]
  split
  ·next h=>exact ⟨fun h2 i hi=>by rcases Nat.lt_succ_iff_lt_or_eq.1 hi with h3 | rfl;exact bB.1 h i h3;exact h2,fun h2=>h2 k (Nat.lt_succ_self k)⟩
  ·next h=>exact ⟨fun h2=>absurd h2 h,fun h2=>absurd (bB.2 fun i hi=>h2 i (Nat.lt_succ_of_lt hi)) h⟩
section
variable {α:Type}
def TXp (n:Nat) (f:Nat→Nat→α) (m:Nat):List α:=(List.range m).flatMap fun l=>(List.range (cnt n l)).map (f l)
def TX (n:Nat) (f:Nat→Nat→α):List α:=TXp n f (hgt n+1)
theorem rG (n:Nat) (f:Nat→Nat→α) (m:Nat):TXp n f (m+1)=TXp n f m++(List.range (cnt n m)).map (f m):=by
 simp [TXp,List.range_succ]
theorem jJ (n:Nat) (f:Nat→Nat→α):∀m,(TXp n f m).length=num n m
 | 0=>rfl
 | m+1=>by rw [rG,List.length_append,jJ n f m];simp [num]
theorem fT (n:Nat) (f:Nat→Nat→α):(TX n f).length=tot n:=jJ n f _
theorem u7 {n:Nat} {f:Nat→Nat→α} {l j:Nat} (hj:j<cnt n l):∀{m:Nat},l<m→(TXp n f m)[num n l+j]? =some (f l j)
 | 0,h=>absurd h (Nat.not_lt_zero _)
 | m+1,h=>by
  rw [rG]
  rcases Nat.lt_succ_iff_lt_or_eq.1 h with h1 | rfl
  ·have hlt:num n l+j<(TXp n f m).length:=by
    rw [jJ]
    have:=c7 n (show l+1≤m from h1)
    rw [num] at this;omega
   rw [List.getElem?_append_left hlt];exact u7 hj h1
  ·rw [List.getElem?_append_right (by rw [jJ];omega),jJ,Nat.add_sub_cancel_left]
   simp [hj]
theorem Dz {n:Nat} {f:Nat→Nat→α} {l j:Nat} (hl:l≤hgt n) (hj:j<cnt n l):(TX n f)[num n l+j]? =some (f l j):=u7 hj (Nat.lt_succ_of_le hl)
theorem e7 {n:Nat} {f:Nat→Nat→α} {l j:Nat} (d:α) (hl:l≤hgt n) (hj:j<cnt n l):(TX n f).getD (num n l+j) d=f l j:=by
 rw [List.getD_eq_getElem?_getD,Dz hl hj];rfl
theorem rv {n:Nat}:∀{m k:Nat},k<num n m→∃l j,l<m∧j<cnt n l∧k=num n l+j
 | 0,k,h=>absurd h (Nat.not_lt_zero _)
 | m+1,k,h=>by
  rw [num] at h
  rcases Nat.lt_or_ge k (num n m) with h1 | h1
  ·obtain ⟨l,j,h2,h3,h4⟩:=rv h1
   exact ⟨l,j,Nat.lt_succ_of_lt h2,h3,h4⟩
  ·exact ⟨m,k-num n m,Nat.lt_succ_self m,by omega,by omega⟩
theorem dI {n k:Nat} (h:k<tot n):∃l j,l≤hgt n∧j<cnt n l∧k=num n l+j:=by
 obtain ⟨l,j,h1,h2,h3⟩:=rv h
 exact ⟨l,j,Nat.le_of_lt_succ h1,h2,h3⟩
theorem dV {n l j:Nat} (hl:l≤hgt n) (hj:j<cnt n l):num n l+j<tot n:=by
 have:=c7 n (show l+1≤hgt n+1 from Nat.succ_le_succ hl)
 rw [num] at this;unfold tot;omega
theorem j3 {n l j a b:Nat} (hj:j<cnt n l) (hb:b<cnt n a) (h:num n l+j=num n a+b):l=a∧j=b:=by
 rcases Nat.lt_trichotomy l a with h1 | h1 | h1
 ·have:=c7 n (show l+1≤a from h1);rw [num] at this;omega
 ·subst h1;exact ⟨rfl,by omega⟩
 ·have:=c7 n (show a+1≤l from h1);rw [num] at this;omega
theorem i6 {n:Nat} {f:Nat→Nat→α} {ts:List α} (d:α) (hl:ts.length=tot n) (h:∀l j,l≤hgt n→j<cnt n l→ts.getD (num n l+j) d=f l j):ts=TX n f:=by
 refine List.ext_getElem (by rw [hl,fT]) fun k h1 h2=> ?_
 obtain ⟨l,j,h3,h4,rfl⟩:=dI (by rw [←hl];exact h1)
 have e1:=h l j h3 h4
 have e2:=e7 (f:=f) d h3 h4
 simp only [List.getD,List.getElem?_eq_getElem h1,Option.getD_some] at e1
 simp only [List.getD,List.getElem?_eq_getElem h2,Option.getD_some] at e2
 rw [e1,e2]
theorem eu {n:Nat} {f g:Nat→Nat→α} (d:α) (h:∀l j,l≤hgt n→j<cnt n l→f l j=g l j):TX n f=TX n g:=
 i6 d (fT n f) fun l j hl hj=>by rw [e7 d hl hj,h l j hl hj]
theorem o3 {n:Nat} {f:Nat→Nat→α} {l j:Nat} (d x:α) (hl:l≤hgt n) (hj:j<cnt n l):(TX n f).set (num n l+j) x=TX n (fun a b=>if a=l∧b=j then x else f a b):=
 i6 d (by rw [List.length_set,fT]) fun a b ha hb=>by
  simp only [List.getD,List.getElem?_set]
  by_cases h:num n l+j=num n a+b
  ·obtain ⟨rfl,rfl⟩:=j3 hj hb h
   rw [if_pos rfl,if_pos (show num n l+j<(TX n f).length by rw [fT];exact dV hl hj),if_pos ⟨rfl,rfl⟩];rfl
  ·rw [if_neg h,if_neg (by rintro ⟨rfl,rfl⟩;exact h rfl)]
   exact e7 d ha hb
end
theorem eR {n:Nat} (h1:1≤n) (h:n≤4096):tot n=num n (hgt n)+1:=by
 unfold tot;rw [num,eg h1 h]
theorem b9 {n:Nat} (h:n≤4096):tot n≤24576:=cz h (by have:=a8 n;omega)
def lx (n:Nat) (ts:List Nod) (l j:Nat):Nod:=ts.getD (num n l+j) Nod.zero
def bK (L:List Rec) (l j:Nat):Bool:=(List.range L.length).all fun i=> !(idx i l==j&&(L.getD i Rec.zero).st !=0)
theorem a9 {L:List Rec} {l j:Nat}:bK L l j=true↔∀i,i<L.length→idx i l=j→(L.getD i Rec.zero).st=0:=by
 simp only [bK,List.all_eq_true,List.mem_range,Bool.not_eq_true',Bool.and_eq_false_iff,beq_eq_false_iff_ne,bne_eq_false_iff_eq]
 exact ⟨fun h i hi he=>(h i hi).resolve_left (fun hn=>hn he),fun h i hi=>by
  by_cases he:idx i l=j
  ·exact .inr (h i hi he)
  ·exact .inl he⟩
def i3 (n:Nat) (ts:List Nod):List Rec:=(List.range n).map fun i=>(ts.getD (i/4) Nod.zero).rs.get (i%4)
theorem eO (n:Nat) (ts:List Nod):(i3 n ts).length=n:=by simp [i3]
theorem yc {n:Nat} {ts:List Nod} {i:Nat} (h:i<n):(i3 n ts).getD i Rec.zero=(ts.getD (i/4) Nod.zero).rs.get (i%4):=by simp [i3,List.getD,h]
theorem jA {n:Nat} {ts:List Nod} {i:Nat} (h:i<n):(i3 n ts).getD i Rec.zero=(lx n ts 0 (idx i 0)).rs.get (i%4):=by
 rw [yc h,lx];show _=(ts.getD (0+i/4) Nod.zero).rs.get (i%4);rw [Nat.zero_add]
def yO (n:Nat) (ts:List Nod) (l j w:Nat):Nat:=
 let e:=(lx n ts l j).es.get w
 if (bK (i3 n ts) (l-1) (4*j+w)=true↔e.st=0)∧(e.st=0∨e.dg.l=(bI (aM (lx n ts (l-1) (4*j+w)))).l) then 0 else 9
def kZ (n:Nat) (x:Nod) (l j:Nat):Prop:=¬(x.lv=l∧x.ix=j∧fj n x=0)
instance {n:Nat} {x:Nod} {l j:Nat}:Decidable (kZ n x l j):=inferInstanceAs (Decidable (¬_))
def gY (n:Nat) (ts:List Nod) (l j:Nat):Nat:=if kZ n (lx n ts l j) l j then 17 else if l=0 then 0 else jq (yO n ts l j) (prt n l j)
def JM (n:Nat) (ts:List Nod) (l:Nat):Nat:=jq (gY n ts l) (cnt n l)
def l6 (n:Nat) (ts:List Nod):Nat:=jq (JM n ts) (hgt n+1)
theorem Fv {n:Nat} {ts:List Nod} {l j:Nat} (h:¬kZ n (lx n ts l j) l j) (hl:¬l=0):gY n ts l j=jq (yO n ts l j) (prt n l j):=by unfold gY;rw [if_neg h,if_neg hl]
theorem dR {n:Nat} {ts:List Nod} {l j:Nat} (h:gY n ts l j=0):(lx n ts l j).lv=l∧(lx n ts l j).ix=j∧fj n (lx n ts l j)=0:=by
 unfold gY at h
 split at h
 ·cases h
 ·next hm=>exact Classical.not_not.1 hm
theorem e9 {n:Nat} {ts:List Nod} (h:l6 n ts=0) {l j:Nat} (hl:l≤hgt n) (hj:j<cnt n l):gY n ts l j=0:=
 bB.1 (bB.1 h l (Nat.lt_succ_of_le hl)) j hj
theorem mH {x:Nod} (h0:x.lv=0):∀{k:Nat},usd x k=0↔∀w,w<k→(x.rs.get w).st=0
 | 0=>⟨fun _ w h=>absurd h (Nat.not_lt_zero _),fun _=>rfl⟩
 | k+1=>by
  have ih:=mH h0 (k:=k)
  rw [usd,if_pos h0]
  by_cases hk:(x.rs.get k).st=0
  ·rw [if_pos hk,Nat.add_zero,ih]
   exact ⟨fun h w hw=>by rcases Nat.lt_succ_iff_lt_or_eq.1 hw with h1 | rfl;exact h w h1;exact hk,fun h w hw=>h w (Nat.lt_succ_of_lt hw)⟩
  ·rw [if_neg hk]
   exact ⟨fun h=>by omega,fun h=>absurd (h k (Nat.lt_succ_self k)) hk⟩
theorem nM {x:Nod} (h0:¬x.lv=0):∀{k:Nat},usd x k=0↔∀w,w<k→(x.es.get w).st=0
 | 0=>⟨fun _ w h=>absurd h (Nat.not_lt_zero _),fun _=>rfl⟩
 | k+1=>by
  have ih:=nM h0 (k:=k)
  rw [usd,if_neg h0]
  by_cases hk:(x.es.get k).st=0
  ·rw [if_pos hk,Nat.add_zero,ih]
   exact ⟨fun h w hw=>by rcases Nat.lt_succ_iff_lt_or_eq.1 hw with h1 | rfl;exact h w h1;exact hk,fun h w hw=>h w (Nat.lt_succ_of_lt hw)⟩
  ·rw [if_neg hk]
   exact ⟨fun h=>by omega,fun h=>absurd (h k (Nat.lt_succ_self k)) hk⟩
theorem cA {n:Nat} {x:Nod} (h:fj n x=0):bA x=0∧x.lv≤hgt n∧x.ix<cnt n x.lv∧∀k,prt n x.lv x.ix≤k→k<4→x.rs.get k=Rec.zero∧x.es.get k=Ent.zero:=by
 unfold fj at h
 split at h
 ·next h1=>
  split at h
  ·next h2=>
   split at h
   ·next h3=>exact ⟨h1,h2.1,h2.2,fun k hk hk4=>by
     have:=o9.1 h3 k hk hk4
     exact ⟨(Rec.eqb_iff _ _).1 this.1,(Ent.eqb_iff _ _).1 this.2⟩⟩
   ·cases h
  ·cases h
 ·cases h
theorem Fd {n:Nat} {x:Nod} (h1:bA x=0) (h2:x.lv≤hgt n) (h3:x.ix<cnt n x.lv) (h:∀k,prt n x.lv x.ix≤k→k<4→x.rs.get k=Rec.zero∧x.es.get k=Ent.zero):fj n x=0:=by
 rw [CI h1 ⟨h2,h3⟩,if_pos]
 exact o9.2 fun k hk hk4=>⟨(Rec.eqb_iff _ _).2 (h k hk hk4).1,(Ent.eqb_iff _ _).2 (h k hk hk4).2⟩
def mQ (n:Nat) (ts:List Nod):Nat→Nat→Bool
 | 0,j=>usd (lx n ts 0 j) 4==0
 | l+1,j=>(List.range (prt n (l+1) j)).all fun w=>mQ n ts l (4*j+w)
theorem sg {n:Nat} {ts:List Nod} (h0:∀j,j<cnt n 0→gY n ts 0 j=0):∀{l j:Nat},j<cnt n l→mQ n ts l j=bK (i3 n ts) l j
 | 0,j,hj=>by
  obtain ⟨e1,e2,e3⟩:=dR (h0 j hj)
  obtain ⟨f1,f2,f3,f4⟩:=cA e3
  rw [e1,e2] at f4
  rw [Bool.eq_iff_iff,a9,mQ,beq_iff_eq,mH e1,eO]
  constructor
  ·intro h i hi he
   rw [jA hi,he]
   exact h _ (Nat.mod_lt _ (by decide))
  ·intro h w hw
   rcases Nat.lt_or_ge w (prt n 0 j) with h2 | h2
   ·have hi:4*j+w<n:=(bM hw).1 h2
    have:=h (4*j+w) hi (show (4*j+w)/4=j by omega)
    rw [jA hi,show idx (4*j+w) 0=j from (show (4*j+w)/4=j by omega),show (4*j+w)%4=w by omega] at this
    exact this
   ·rw [(f4 w h2 hw).1];rfl
 | l+1,j,hj=>by
  rw [Bool.eq_iff_iff,a9,mQ,List.all_eq_true,eO]
  constructor
  ·intro h i hi he
   have hlt:=bm hi l
   have hq:idx i l/4=j:=he
   have hw:idx i l%4<prt n (l+1) j:=(bM (Nat.mod_lt _ (by decide))).2 (by rw [gn];omega)
   have h1:=h (idx i l%4) (List.mem_range.2 hw)
   rw [show 4*j+idx i l%4=idx i l by omega,sg h0 hlt,a9,eO] at h1
   exact h1 i hi rfl
  ·intro h w hw
   have hw:=List.mem_range.1 hw
   have hw4:w<4:=Nat.lt_of_lt_of_le hw (m3 _ _ _)
   have hk:=(bM hw4).1 hw
   rw [gn] at hk
   rw [sg h0 hk,a9,eO]
   intro i hi he
   exact h i hi (show idx i l/4=j by omega)
theorem rH {n:Nat} {ts:List Nod} {l j:Nat}:mQ n ts (l+1) j=true↔∀w,w<prt n (l+1) j→mQ n ts l (4*j+w)=true:=by
 rw [mQ,List.all_eq_true];exact ⟨fun h w hw=>h w (List.mem_range.2 hw),fun h w hw=>h w (List.mem_range.1 hw)⟩
end Go.Cs
namespace Go.Cs
open Go Go.RowKit
def rZ (lv ix:Nat) (r:Nat→Rec) (e:Nat→Ent):Nod:=⟨lv%256,ix%2^32,⟨(List.range 4).map r,by simp⟩,⟨(List.range 4).map e,by simp⟩,Nat.mod_lt _ (by decide),Nat.mod_lt _ (by decide)⟩
theorem oo {lv ix:Nat} {r:Nat→Rec} {e:Nat→Ent} {i:Nat} (h:i<4):(rZ lv ix r e).rs.get i=r i:=by simp [rZ,R4.get,List.getD,h]
theorem n9 {lv ix:Nat} {r:Nat→Rec} {e:Nat→Ent} {i:Nat} (h:i<4):(rZ lv ix r e).es.get i=e i:=by simp [rZ,E4.get,List.getD,h]
theorem cg {lv ix:Nat} {r r':Nat→Rec} {e e':Nat→Ent} (h1:∀i,i<4→r i=r' i) (h2:∀i,i<4→e i=e' i):rZ lv ix r e=rZ lv ix r' e':=
 Nod.ext' rfl rfl (R4.ext_get fun i hi=>by rw [oo hi,oo hi,h1 i hi]) (E4.ext_get fun i hi=>by rw [n9 hi,n9 hi,h2 i hi])
theorem zJ {lv ix:Nat} {r:Nat→Rec} {e:Nat→Ent} (h1:∀i,i<4→r i=Rec.zero) (h2:∀i,i<4→e i=Ent.zero):rZ lv ix r e=Nod.mt lv ix:=
 Nod.ext' rfl rfl (R4.ext_get fun i hi=>by rw [oo hi,h1 i hi];exact (R4.get_zero i).symm) (E4.ext_get fun i hi=>by rw [n9 hi,h2 i hi];exact (E4.get_zero i).symm)
theorem AC {lv ix p:Nat} {r:Nat→Rec} {e:Nat→Ent} (x:Rec) (h:p<4):(rZ lv ix r e).setR p x=rZ lv ix (fun i=>if i=p then x else r i) e:=by
 refine Nod.ext' rfl rfl (R4.ext_get fun i hi=> ?_) rfl
 show ((rZ lv ix r e).rs.set p x).get i=_
 rw [R4.get_set h,oo hi,oo hi]
theorem y9 {lv ix p:Nat} {r:Nat→Rec} {e:Nat→Ent} (x:Ent) (h:p<4):(rZ lv ix r e).setE p x=rZ lv ix r (fun i=>if i=p then x else e i):=by
 refine Nod.ext' rfl rfl rfl (E4.ext_get fun i hi=> ?_)
 show ((rZ lv ix r e).es.set p x).get i=_
 rw [E4.get_set h,n9 hi,n9 hi]
def aK (L:List Rec) (S:List Nat):Nat→Nat→Nod
 | 0,j=>rZ 0 j (fun w=>if w<prt L.length 0 j then L.getD (4*j+w) Rec.zero else Rec.zero) (fun _=>Ent.zero)
 | l+1,j=>rZ (l+1) j (fun _=>Rec.zero) (fun w=>if w<prt L.length (l+1) j then (if bK L l (4*j+w)=true then Ent.zero else ⟨(S.getD (num L.length l+(4*j+w)) 0+1)%2^8,bI (aM (aK L S l (4*j+w))),Nat.mod_lt _ (by decide)⟩) else Ent.zero)
def cX (L:List Rec) (S:List Nat) (l k:Nat):Ent:=if bK L l k=true then Ent.zero else ⟨(S.getD (num L.length l+k) 0+1)%2^8,bI (aM (aK L S l k)),Nat.mod_lt _ (by decide)⟩
def A3 (L:List Rec) (S:List Nat) (l j v:Nat):Nod:=rZ l j (fun w=>if w<v∧l=0 then L.getD (4*j+w) Rec.zero else Rec.zero) (fun w=>if w<v∧l≠0 then cX L S (l-1) (4*j+w) else Ent.zero)
theorem aP (L:List Rec) (S:List Nat):∀l j,aK L S l j=A3 L S l j (prt L.length l j)
 | 0,j=>cg (fun i _=>by by_cases h:i<prt L.length 0 j<;>simp [h]) (fun i _=>by simp)
 | l+1,j=>cg (fun i _=>by simp) (fun i _=>by by_cases h:i<prt L.length (l+1) j<;>simp [h,cX])
theorem fc (L:List Rec) (S:List Nat) (l j v:Nat) {i:Nat} (h:i<4):(A3 L S l j v).rs.get i=if i<v∧l=0 then L.getD (4*j+i) Rec.zero else Rec.zero:=oo h
theorem io (L:List Rec) (S:List Nat) (l j v:Nat) {i:Nat} (h:i<4):(A3 L S l j v).es.get i=if i<v∧l≠0 then cX L S (l-1) (4*j+i) else Ent.zero:=n9 h
theorem DL (L:List Rec) (S:List Nat) (l j:Nat):(aK L S l j).lv=l%256:=by rw [aP];rfl
theorem Dq (L:List Rec) (S:List Nat) (l j:Nat):(aK L S l j).ix=j%2^32:=by rw [aP];rfl
def bJ (L:List Rec) (S:List Nat):List Nod:=TX L.length (aK L S)
structure OkM (L:List Rec) (S:List Nat):Prop where
 n1:1≤L.length
 n2:L.length≤4096
 rc:∀i,i<L.length→bS (L.getD i Rec.zero)=0
 len:S.length=tot L.length
 sl:∀i,S.getD i 0≤1
theorem mV {n l j:Nat} (h:n≤4096) (hl:l≤hgt n) (hj:j<cnt n l):l%256=l∧j%2^32=j:=by
 have:=a8 n
 have:=cH n l
 omega
theorem dD {L:List Rec} {S:List Nat} {l j:Nat} (h:L.length≤4096) (hl:l≤hgt L.length) (hj:j<cnt L.length l):(aK L S l j).lv=l:=by rw [DL];exact (mV h hl hj).1
theorem dQ {L:List Rec} {S:List Nat} {l j:Nat} (h:L.length≤4096) (hl:l≤hgt L.length) (hj:j<cnt L.length l):(aK L S l j).ix=j:=by rw [Dq];exact (mV h hl hj).2
theorem eh {L:List Rec} {S:List Nat} (h:∀i,S.getD i 0≤1) (l k:Nat):(cX L S l k).st=0↔bK L l k=true:=by
 unfold cX
 split
 ·next h1=>exact ⟨fun _=>h1,fun _=>rfl⟩
 ·next h1=>
  have:=h (num L.length l+k)
  exact ⟨fun h2=>absurd (show (S.getD (num L.length l+k) 0+1)%2^8=0 from h2) (by omega),fun h2=>absurd h2 h1⟩
theorem yf {L:List Rec} {S:List Nat} (h:∀i,S.getD i 0≤1) (l k:Nat):dK (cX L S l k)=0:=by
 by_cases h1:bK L l k=true
 ·rw [cX,if_pos h1];rfl
 ·have h2:¬(cX L S l k).st=0:=fun hs=>h1 ((eh h l k).1 hs)
  have h3:¬2<(cX L S l k).st:=by
   rw [cX,if_neg h1]
   have:=h (num L.length l+k)
   show ¬2<(S.getD (num L.length l+k) 0+1)%2^8
   omega
  unfold dK;rw [if_neg h3,if_neg h2]
theorem nS {L:List Rec} {l j:Nat}:bK L (l+1) j=true↔∀w,w<4→bK L l (4*j+w)=true:=by
 constructor
 ·intro h w hw
  exact a9.2 fun i hi he=>a9.1 h i hi (show idx i l/4=j by omega)
 ·intro h
  refine a9.2 fun i hi he=> ?_
  have hq:idx i l/4=j:=he
  exact a9.1 (h (idx i l%4) (Nat.mod_lt _ (by decide))) i hi (by omega)
theorem Cg {L:List Rec} {l k:Nat} (h:cnt L.length l≤k):bK L l k=true:=a9.2 fun i hi he=>by
 have:=bm hi l;omega
theorem A9 {L:List Rec} {S:List Nat} (hS:∀i,S.getD i 0≤1) (h2:L.length≤4096) {l j:Nat} (hl:l≤hgt L.length) (hj:j<cnt L.length l):usd (aK L S l j) 4=0↔bK L l j=true:=by
 have hlv:=dD (S:=S) h2 hl hj
 cases l with
 | zero=>
  rw [mH hlv,a9]
  constructor
  ·intro h i hi he
   have hq:i/4=j:=he
   have:=h (i%4) (Nat.mod_lt _ (by decide))
   rw [aP,fc _ _ _ _ _ (Nat.mod_lt _ (by decide)),if_pos ⟨(bM (Nat.mod_lt _ (by decide))).2 (show 4*j+i%4<L.length by omega),rfl⟩,show 4*j+i%4=i by omega] at this
   exact this
  ·intro h w hw
   rw [aP,fc _ _ _ _ _ hw]
   split
   ·next h1=>exact h _ ((bM hw).1 h1.1) (show (4*j+w)/4=j by omega)
   ·rfl
 | succ l=>
  rw [nM (by omega),nS]
  constructor
  ·intro h w hw
   rcases Nat.lt_or_ge w (prt L.length (l+1) j) with h1 | h1
   ·have:=h w hw
    rw [aP,io _ _ _ _ _ hw,if_pos ⟨h1,by omega⟩] at this
    exact (eh hS _ _).1 this
   ·exact Cg (by have:¬w<prt L.length (l+1) j:=(by omega);rw [bM hw,gn] at this;omega)
  ·intro h w hw
   rw [aP,io _ _ _ _ _ hw]
   split
   ·exact (eh hS _ _).2 (h w hw)
   ·rfl
theorem mg {L:List Rec} {S:List Nat} (hO:OkM L S) {l j:Nat} (hl:l≤hgt L.length) (hj:j<cnt L.length l):bA (aK L S l j)=0:=by
 have hlv:=dD (S:=S) hO.n2 hl hj
 have h5:=a8 L.length
 rw [oR (by omega) ⟨fun h0 k hk=>by rw [aP,io _ _ _ _ _ hk,if_neg (by omega)],fun h0 k hk=>by rw [aP,fc _ _ _ _ _ hk,if_neg (by omega)]⟩]
 unfold IN
 split
 ·refine aZ.2 fun i hi=> ?_
  rw [aP,fc _ _ _ _ _ hi]
  split
  ·next h1=>exact hO.rc _ (by have:=(bM hi).1 h1.1;have:=wp L.length l;omega)
  ·decide
 ·refine aZ.2 fun i hi=> ?_
  rw [aP,io _ _ _ _ _ hi]
  split
  ·exact yf hO.sl _ _
  ·decide
theorem ig {L:List Rec} {S:List Nat} (hO:OkM L S) {l j:Nat} (hl:l≤hgt L.length) (hj:j<cnt L.length l):fj L.length (aK L S l j)=0:=by
 have e1:=dD (S:=S) hO.n2 hl hj
 have e2:=dQ (S:=S) hO.n2 hl hj
 refine Fd (mg hO hl hj) (by omega) (by rw [e1,e2];exact hj) fun k hk hk4=> ?_
 rw [e1,e2] at hk
 rw [aP,fc _ _ _ _ _ hk4,io _ _ _ _ _ hk4,if_neg (by omega),if_neg (by omega)]
 exact ⟨rfl,rfl⟩
theorem nZ (L:List Rec) (S:List Nat):(bJ L S).length=tot L.length:=fT _ _
theorem gi {L:List Rec} {S:List Nat} {l j:Nat} (hl:l≤hgt L.length) (hj:j<cnt L.length l):lx L.length (bJ L S) l j=aK L S l j:=e7 _ hl hj
theorem s6 {L:List Rec} {S:List Nat}:i3 L.length (bJ L S)=L:=by
 refine List.ext_getElem (eO _ _) fun i h1 h2=> ?_
 have h3:=jA (ts:=bJ L S) h2
 rw [gi (Nat.zero_le _) (bm h2 0),aP,fc _ _ _ _ _ (Nat.mod_lt _ (by decide)),if_pos ⟨(bM (Nat.mod_lt _ (by decide))).2 (show 4*(i/4)+i%4<L.length by omega),rfl⟩,show 4*idx i 0+i%4=i from (show 4*(i/4)+i%4=i by omega)] at h3
 simpa [List.getD,h1,h2] using h3
theorem tg {L:List Rec} {S:List Nat} (hO:OkM L S) {l j:Nat} (hl:l≤hgt L.length) (hj:j<cnt L.length l):gY L.length (bJ L S) l j=0:=by
 unfold gY
 rw [if_neg]
 ·split
  ·rfl
  ·next h0=>
   refine bB.2 fun w hw=> ?_
   have hw4:w<4:=Nat.lt_of_lt_of_le hw (m3 _ _ _)
   have hee:(aK L S l j).es.get w=cX L S (l-1) (4*j+w):=by rw [aP L S l j,io _ _ _ _ _ hw4,if_pos ⟨hw,h0⟩]
   unfold yO
   rw [s6,gi hl hj,hee,if_pos]
   refine ⟨(eh hO.sl _ _).symm, ?_⟩
   have hk:4*j+w<cnt L.length (l-1):=by
    have:=(bM hw4).1 hw
    rwa [mW (by omega)] at this
   rw [gi (by omega) hk]
   by_cases he:bK L (l-1) (4*j+w)=true
   ·exact .inl ((eh hO.sl _ _).2 he)
   ·right;unfold cX;rw [if_neg he]
 ·intro hm
  exact hm (by rw [gi hl hj];exact ⟨dD hO.n2 hl hj,dQ hO.n2 hl hj,ig hO hl hj⟩)
theorem mS {L:List Rec} {S:List Nat} (hO:OkM L S):l6 L.length (bJ L S)=0:=
 bB.2 fun l hl=>bB.2 fun j hj=>tg hO (Nat.le_of_lt_succ hl) hj
end Go.Cs
namespace Go.Cs
open Go Go.RowKit
def r7 (n b:Int) (p:List Nod):Prop:=1≤n∧n≤4096∧0≤b∧b<n∧1≤p.length∧p.length≤hgt n.toNat+1
instance {n b:Int} {p:List Nod}:Decidable (r7 n b p):=inferInstanceAs (Decidable (_∧_))
def qO (n:Nat) (ts:List Nod) (b i:Nat):Nod:=lx n ts (hgt n-i) (idx b (hgt n-i))
def nC (n:Nat) (ts:List Nod) (b i:Nat):Prop:=i=hgt n∨((qO n ts b i).es.get (idx b (hgt n-i-1)%4)).st=0
instance {n:Nat} {ts:List Nod} {b i:Nat}:Decidable (nC n ts b i):=inferInstanceAs (Decidable (_∨_))
def cq (L:List Rec) (S:List Nat):Dig:=bI (aM (aK L S (hgt L.length) 0))
section
variable {L:List Rec} {S:List Nat} {b:Nat}
theorem wh (h1:1≤L.length) (h2:L.length≤4096) (hb:b<L.length):idx b (hgt L.length)=0:=by
 have:=bm hb (hgt L.length)
 rw [eg h1 h2] at this;omega
end
end Go.Cs
namespace Go.Cs
open Go Go.RowKit
end Go.Cs
namespace Go.Cs
open Go Go.RowKit
end Go.Cs
namespace Go.Cs
open Go Go.RowKit
def eW (n v:Nat):List Nat:=(List.range v).map (cnt n)
def dC (n v:Nat):List Nat:=(List.range v).map (num n)
theorem oh (n v:Nat):eW n (v+1)=eW n v++ [cnt n v]:=by simp [eW,List.range_succ]
theorem od (n v:Nat):dC n (v+1)=dC n v++ [num n v]:=by simp [dC,List.range_succ]
theorem dA (n v:Nat):(eW n v).length=v:=by simp [eW]
theorem cj (n v:Nat):(dC n v).length=v:=by simp [dC]
theorem ia {n v i:Nat} (h:i<v):(eW n v).getD i 0=cnt n i:=by simp [eW,List.getD,h]
theorem er {n v i:Nat} (h:i<v):(dC n v).getD i 0=num n i:=by simp [dC,List.getD,h]
theorem CA {n:Nat} {ts:List Nod} {l j w:Nat} (hw:w<prt n (l+1) j) (h:mQ n ts l (4*j+w)=false):mQ n ts (l+1) j=false:=by
 rcases (show mQ n ts (l+1) j=true∨mQ n ts (l+1) j=false by cases mQ n ts (l+1) j<;>simp) with h1 | h1
 ·have:=rH.1 h1 w hw;rw [h] at this;cases this
 ·exact h1
end Go.Cs
namespace Go.Cs
open Go Go.RowKit
end Go.Cs
namespace Go.Cs
open Go Go.RowKit
section
variable {L:List Rec} {S:List Nat}
theorem rz {l k:Nat} (h:bK L l k=true):cX L S l k=Ent.zero:=if_pos h
end
theorem nU (s:List Nat) (i:Nat):(s.map fun (x:Nat)=>(x:Int)).getD i 0=((s.getD i 0:Nat):Int):=by
 simp only [List.getD_eq_getElem?_getD,List.getElem?_map]
 cases s[i]? <;>rfl
end Go.Cs
namespace Go.Cs
open Go Go.RowKit
section
variable {P:Program} {w:World}
theorem tN {T E m sz:Nat} {parts:Array (Nat×Value)} {z:Value} {cs vs:List Value} (hT:P.underlying T=some (.array m E)) (hE:(P.info? E).map (·.size)=some sz) (hz:(P.info? T).map (·.zero)=some (some z)) (hzc:z.cells=cs.toArray)
  (hf:Instr.fill (fun i=>some (i*sz,sz)) cs.toArray parts.toList=some vs.toArray):(Instr.build T parts).run P w= .ok (.agg vs.toArray) w:=by
 refine run_build w T parts _ ?_
 unfold Program.built
 obtain ⟨it,hit,hz2⟩:=Option.map_eq_some_iff.1 hz
 obtain ⟨ie,hie,hse⟩:=Option.map_eq_some_iff.1 hE
 subst hse
 simp only [hT,hit,hie,hz2,hzc,hf]
end
end Go.Cs
namespace Go.Cs
open Go Go.RowKit
structure Un where
 nd:Nod
 sl:Int
 dt:Bool
 ch:List Bool
 hch:ch.length=4
theorem Un.ext' {a b:Un} (h1:a.nd=b.nd) (h2:a.sl=b.sl) (h3:a.dt=b.dt) (h4:a.ch=b.ch):a=b:=by
 cases a;cases b;cases h1;cases h2;cases h3;cases h4;rfl
def Un.zero:Un:=⟨Nod.zero,0,false,List.replicate 4 false,rfl⟩
def jj (l:List Bool):List Value:=l.map Value.bool
def a7 (x:Un):List Value:=aU x.nd++(.int .i64 x.sl:: .bool x.dt::jj x.ch)
def Un.g (x:Un) (i:Nat):Bool:=x.ch.getD i false
def Un.setR (x:Un) (i:Nat) (r:Rec):Un:=⟨x.nd.setR i r,x.sl,x.dt,x.ch,x.hch⟩
def Un.setE (x:Un) (i:Nat) (r:Ent):Un:=⟨x.nd.setE i r,x.sl,x.dt,x.ch,x.hch⟩
def Un.setDt (x:Un) (b:Bool):Un:=⟨x.nd,x.sl,b,x.ch,x.hch⟩
def Un.setCh (x:Un) (i:Nat) (b:Bool):Un:=⟨x.nd,x.sl,x.dt,x.ch.set i b,by rw [List.length_set];exact x.hch⟩
@[simp] theorem Ke (l:List Bool):(jj l).length=l.length:=by simp [jj]
@[simp] theorem K5 (x:Un):(a7 x).length=280:=by simp [a7,x.hch]
def Un.eqb (x y:Un):Bool:=x.nd.eqb y.nd&&(x.sl==y.sl&&(x.dt==y.dt&&(yU false (fun a b:Bool=>a==b) 4 x.ch y.ch&&true)))
theorem Ci {x y:List Bool} (hx:x.length=4) (hy:y.length=4):yU false (fun a b:Bool=>a==b) 4 x y=true↔x=y:=k4 (fun a b=>beq_iff_eq) hx hy
theorem Un.eqb_iff (x y:Un):x.eqb y=true↔x=y:=by
 unfold Un.eqb
 simp only [Bool.and_eq_true,Nod.eqb_iff,beq_iff_eq,and_true,Ci x.hch y.hch]
 exact ⟨fun h=>Un.ext' h.1 h.2.1 h.2.2.1 h.2.2.2,fun h=>by subst h;exact ⟨rfl,rfl,rfl,rfl⟩⟩
end Go.Cs
namespace Go.Cs
open Go Go.RowKit
def F2 (n:Nat) (f:Nat→Nat→Nat):Nat:=jq (fun l=>jq (f l) (cnt n l)) (hgt n+1)
section
variable {n:Nat} {f:Nat→Nat→Nat}
theorem BZ (h:F2 n f=0) {l j:Nat} (hl:l≤hgt n) (hj:j<cnt n l):f l j=0:=bB.1 (bB.1 h l (Nat.lt_succ_of_le hl)) j hj
theorem oc (h:∀l j,l≤hgt n→j<cnt n l→f l j=0):F2 n f=0:=bB.2 fun l hl=>bB.2 fun j hj=>h l j (Nat.le_of_lt_succ hl) hj
def B7 (n k:Nat):Nat:=if k<num n 1 then 0 else if k<num n 2 then 1 else if k<num n 3 then 2 else if k<num n 4 then 3 else if k<num n 5 then 4 else 5
theorem F9 {l j:Nat} (hl:l≤5) (hj:j<cnt n l):B7 n (num n l+j)=l:=by
 have h1:=c7 n (show 1≤2 by decide);have h2:=c7 n (show 2≤3 by decide);have h3:=c7 n (show 3≤4 by decide);have h4:=c7 n (show 4≤5 by decide);have h5:=c7 n (show 5≤6 by decide);have h0:=c7 n (show 0≤1 by decide)
 have s0:num n 1=num n 0+cnt n 0:=rfl
 have s1:num n 2=num n 1+cnt n 1:=rfl
 have s2:num n 3=num n 2+cnt n 2:=rfl
 have s3:num n 4=num n 3+cnt n 3:=rfl
 have s4:num n 5=num n 4+cnt n 4:=rfl
 have hc:l=0∨l=1∨l=2∨l=3∨l=4∨l=5:=by omega
 unfold B7
 rcases hc with rfl | rfl | rfl | rfl | rfl | rfl
 ·rw [if_pos (by omega)]
 ·rw [if_neg (by omega),if_pos (by omega)]
 ·rw [if_neg (by omega),if_neg (by omega),if_pos (by omega)]
 ·rw [if_neg (by omega),if_neg (by omega),if_neg (by omega),if_pos (by omega)]
 ·rw [if_neg (by omega),if_neg (by omega),if_neg (by omega),if_neg (by omega),if_pos (by omega)]
 ·rw [if_neg (by omega),if_neg (by omega),if_neg (by omega),if_neg (by omega),if_neg (by omega)]
theorem rT {k:Nat} (h:k<tot n):B7 n k≤hgt n∧num n (B7 n k)≤k∧k-num n (B7 n k)<cnt n (B7 n k):=by
 obtain ⟨l,j,h1,h2,rfl⟩:=dI h
 have:=a8 n
 rw [F9 (by omega) h2];exact ⟨h1,by omega,by omega⟩
end
def d6 (n:Nat) (ts:List Un) (l j:Nat):Un:=ts.getD (num n l+j) Un.zero
def kB (x:Un):Int:=if x.dt=true then 1-x.sl else x.sl
def rX (x:Un):Ent:=if usd x.nd 4=0 then Ent.zero else ⟨(kB x+1).toNat%2^8,bI (aM x.nd),Nat.mod_lt _ (by decide)⟩
def Br (x:Un) (l:Nat):Bool:=(List.range 4).all fun w=> !(x.g w)||(l==0&&(x.nd.rs.get w).st !=0)
def xF (n:Nat) (ts:List Un) (l j:Nat):Bool:=if l=0 then (List.range 4).any (d6 n ts l j).g else (List.range (prt n l j)).any fun w=>(d6 n ts (l-1) (4*j+w)).dt
def Bx (n:Nat) (ts:List Un) (l j:Nat):Bool:=l==0 ||(List.range (prt n l j)).all fun w=>((d6 n ts l j).nd.es.get w).eqb (rX (d6 n ts (l-1) (4*j+w)))
def sm (n:Nat) (ts:List Un) (l j:Nat):Nat:=
 if kZ n (d6 n ts l j).nd l j then 17 else if Br (d6 n ts l j) l=true∧(d6 n ts l j).dt=xF n ts l j∧Bx n ts l j=true then 0 else 9
def DH (ts:List Un):Bool:=ts.all fun x=>x.sl==0 || x.sl==1
theorem jw {ts:List Un}:DH ts=true↔∀i,i<ts.length→(ts.getD i Un.zero).sl=0∨(ts.getD i Un.zero).sl=1:=by
 unfold DH
 rw [List.all_eq_true]
 simp only [Bool.or_eq_true,beq_iff_eq]
 constructor
 ·intro h i hi
  rw [List.getD_eq_getElem?_getD,List.getElem?_eq_getElem hi];exact h _ (List.getElem_mem hi)
 ·intro h x hx
  obtain ⟨i,hi,rfl⟩:=List.getElem_of_mem hx
  have:=h i hi
  rwa [List.getD_eq_getElem?_getD,List.getElem?_eq_getElem hi] at this
theorem Fz {n l j:Nat} {ts:List Un} (h:¬kZ n (d6 n ts l j).nd l j) (h1:Br (d6 n ts l j) l=true) (h2:(d6 n ts l j).dt=xF n ts l j) (h3:Bx n ts l j=true):sm n ts l j=0:=by
 unfold sm;rw [if_neg h,if_pos ⟨h1,h2,h3⟩]
theorem fR {n l j:Nat} {ts:List Un} (h:sm n ts l j=0):((d6 n ts l j).nd.lv=l∧(d6 n ts l j).nd.ix=j∧fj n (d6 n ts l j).nd=0)∧Br (d6 n ts l j) l=true∧(d6 n ts l j).dt=xF n ts l j∧Bx n ts l j=true:=by
 unfold sm at h
 split at h
 ·cases h
 ·next hm=>
  split at h
  ·next h1=>exact ⟨Classical.not_not.1 hm,h1⟩
  ·cases h
theorem m5 {x:Un} {l:Nat}:Br x l=true↔∀w,w<4→x.g w=true→l=0∧(x.nd.rs.get w).st≠0:=by
 unfold Br
 simp only [List.all_eq_true,List.mem_range,Bool.or_eq_true,Bool.not_eq_true',Bool.and_eq_true,beq_iff_eq,bne_iff_ne,ne_eq]
 exact ⟨fun h w hw hg=>(h w hw).resolve_left (by rw [hg];decide),fun h w hw=>by
  cases hg:x.g w with
  | false=>exact .inl rfl
  | true=>exact .inr (h w hw hg)⟩
theorem qQ {n l j:Nat} {ts:List Un}:Bx n ts l j=true↔l=0∨∀w,w<prt n l j→(d6 n ts l j).nd.es.get w=rX (d6 n ts (l-1) (4*j+w)):=by
 unfold Bx
 simp only [List.all_eq_true,List.mem_range,Bool.or_eq_true,beq_iff_eq,Ent.eqb_iff]
def drt (c:List Bool) (l j:Nat):Bool:=(List.range c.length).any fun i=>c.getD i false&&(idx i l==j)
theorem eJ {c:List Bool} {l j:Nat}:drt c l j=true↔∃i,i<c.length∧c.getD i false=true∧idx i l=j:=by
 simp only [drt,List.any_eq_true,List.mem_range,Bool.and_eq_true,beq_iff_eq]
def gH (n:Nat) (c:List Bool) (s:List Nat) (l j:Nat):Nat:=if drt c l j=true then 1-s.getD (num n l+j) 0 else s.getD (num n l+j) 0
def bZ (n:Nat) (c:List Bool) (s:List Nat):List Nat:=TX n (gH n c s)
def qh (n:Nat) (c:List Bool) (l j:Nat):List Bool:=(List.range 4).map fun w=>decide (l=0∧4*j+w<n)&&c.getD (4*j+w) false
def cF (L:List Rec) (c:List Bool) (s:List Nat) (l j:Nat):Un:=
 ⟨aK L (bZ L.length c s) l j,((s.getD (num L.length l+j) 0:Nat):Int),drt c l j,qh L.length c l j,by simp [qh]⟩
def treW (L:List Rec) (c:List Bool) (s:List Nat):List Un:=TX L.length (cF L c s)
structure OkW (L:List Rec) (c:List Bool) (s:List Nat):Prop where
 m:OkM L s
 hc:c.length=L.length
 cr:∀i,c.getD i false=true→(L.getD i Rec.zero).st≠0
theorem rJ (n:Nat) (c:List Bool) (s:List Nat):(bZ n c s).length=tot n:=fT _ _
theorem eY {n l j:Nat} {c:List Bool} {s:List Nat} (hl:l≤hgt n) (hj:j<cnt n l):(bZ n c s).getD (num n l+j) 0=gH n c s l j:=e7 0 hl hj
theorem uR {n l j:Nat} {c:List Bool} {s:List Nat} (h:∀i,s.getD i 0≤1):gH n c s l j≤1:=by
 have:=h (num n l+j);unfold gH;split<;>omega
theorem C4 {n:Nat} {c:List Bool} {s:List Nat} (h:∀i,s.getD i 0≤1) (i:Nat):(bZ n c s).getD i 0≤1:=by
 rcases Nat.lt_or_ge i (tot n) with hi | hi
 ·obtain ⟨l,j,h1,h2,rfl⟩:=dI hi
  rw [eY h1 h2];exact uR h
 ·rw [List.getD_eq_getElem?_getD,List.getElem?_eq_none (by rw [rJ];exact hi)];exact Nat.zero_le _
theorem OkW.now {L:List Rec} {c:List Bool} {s:List Nat} (h:OkW L c s):OkM L (bZ L.length c s):=⟨h.m.n1,h.m.n2,h.m.rc,rJ _ _ _,C4 h.m.sl⟩
theorem jt (L:List Rec) (c:List Bool) (s:List Nat):(treW L c s).length=tot L.length:=fT _ _
theorem eL {L:List Rec} {c:List Bool} {s:List Nat} {l j:Nat} (hl:l≤hgt L.length) (hj:j<cnt L.length l):d6 L.length (treW L c s) l j=cF L c s l j:=e7 _ hl hj
theorem pd {L:List Rec} {c:List Bool} {s:List Nat} {l j w:Nat} (hw:w<4):(cF L c s l j).g w=(decide (l=0∧4*j+w<L.length)&&c.getD (4*j+w) false):=by
 simp [Un.g,cF,qh,List.getD,hw]
theorem zv {c:List Bool} {l j:Nat}:drt c (l+1) j=true↔∃w,w<4∧drt c l (4*j+w)=true:=by
 simp only [eJ]
 constructor
 ·rintro ⟨i,h1,h2,h3⟩
  have h3:idx i l/4=j:=h3
  exact ⟨idx i l%4,Nat.mod_lt _ (by decide),i,h1,h2,by omega⟩
 ·rintro ⟨w,h0,i,h1,h2,h3⟩
  exact ⟨i,h1,h2,show idx i l/4=j by omega⟩
theorem Dd {c:List Bool} {n l k:Nat} (hc:c.length=n) (h:cnt n l≤k):drt c l k=false:=by
 cases h1:drt c l k with
 | false=>rfl
 | true=>
  obtain ⟨i,h2,_,h3⟩:=eJ.1 h1
  have:=bm (show i<n by omega) l;omega
theorem fQ {a b:Bool} (h:a=true↔b=true):a=b:=by cases a<;>cases b<;>simp_all
theorem vE {L:List Rec} {c:List Bool} {s:List Nat} {l j:Nat} (hs:∀i,s.getD i 0≤1):kB (cF L c s l j)=((gH L.length c s l j:Nat):Int):=by
 have:=hs (num L.length l+j)
 unfold kB gH
 show (if drt c l j=true then 1-((s.getD (num L.length l+j) 0:Nat):Int) else ((s.getD (num L.length l+j) 0:Nat):Int))=_
 split
 ·omega
 ·rfl
theorem uu {L:List Rec} {c:List Bool} {s:List Nat} {l j:Nat} (hO:OkW L c s) (hl:l≤hgt L.length) (hj:j<cnt L.length l):rX (cF L c s l j)=cX L (bZ L.length c s) l j:=by
 have hu:=A9 (S:=bZ L.length c s) hO.now.sl hO.m.n2 hl hj
 unfold rX cX
 show (if usd (aK L (bZ L.length c s) l j) 4=0 then _ else _)=_
 by_cases he:bK L l j=true
 ·rw [if_pos (hu.2 he),if_pos he]
 ·rw [if_neg (fun hh=>he (hu.1 hh)),if_neg he]
  refine Ent.ext' ?_ rfl
  show (kB (cF L c s l j)+1).toNat%2^8=((bZ L.length c s).getD (num L.length l+j) 0+1)%2^8
  rw [vE hO.m.sl,eY hl hj,show (((gH L.length c s l j:Nat):Int)+1).toNat=gH L.length c s l j+1 by omega]
theorem lB {L:List Rec} {S:List Nat} {l j w:Nat} (h0:l≠0) (hw:w<prt L.length l j):(aK L S l j).es.get w=cX L S (l-1) (4*j+w):=by
 have:=m3 L.length l j
 rw [aP,io _ _ _ _ _ (by omega),if_pos ⟨hw,h0⟩]
theorem yu {L:List Rec} {c:List Bool} {s:List Nat} (hO:OkW L c s) {l j:Nat} (hl:l≤hgt L.length) (hj:j<cnt L.length l):sm L.length (treW L c s) l j=0:=by
 have hM:=hO.now
 have hn:d6 L.length (treW L c s) l j=cF L c s l j:=eL hl hj
 have hch:∀w,w<prt L.length l j→l≠0→d6 L.length (treW L c s) (l-1) (4*j+w)=cF L c s (l-1) (4*j+w)∧4*j+w<cnt L.length (l-1):=fun w hw h0=>by
  have h4:=m3 L.length l j
  have h1:=(bM (show w<4 by omega)).1 hw
  rw [mW (by omega)] at h1
  exact ⟨eL (by omega) h1,h1⟩
 refine Fz (fun hm=>hm ?_) ?_ ?_ ?_
 ·rw [hn];exact ⟨dD hO.m.n2 hl hj,dQ hO.m.n2 hl hj,ig hM hl hj⟩
 ·rw [hn,m5]
  intro w hw hg
  rw [pd hw] at hg
  simp only [Bool.and_eq_true,decide_eq_true_eq] at hg
  obtain ⟨⟨rfl,h2⟩,h3⟩:=hg
  refine ⟨rfl, ?_⟩
  show ((aK L (bZ L.length c s) 0 j).rs.get w).st≠0
  rw [aP,fc _ _ _ _ _ hw,if_pos ⟨(bM hw).2 h2,rfl⟩]
  exact hO.cr _ h3
 ·rw [hn]
  show drt c l j=_
  unfold xF
  refine fQ ?_
  by_cases h0:l=0
  ·subst h0
   rw [if_pos rfl,hn,eJ,List.any_eq_true]
   constructor
   ·rintro ⟨i,h1,h2,h3⟩
    have h3:i/4=j:=h3
    refine ⟨i%4,List.mem_range.2 (Nat.mod_lt _ (by decide)), ?_⟩
    rw [pd (Nat.mod_lt _ (by decide)),show 4*j+i%4=i by omega,h2]
    simp;have:=hO.hc;omega
   ·rintro ⟨w,hw,hg⟩
    have hw:=List.mem_range.1 hw
    rw [pd hw] at hg
    simp only [Bool.and_eq_true,decide_eq_true_eq] at hg
    have:=hO.hc
    exact ⟨4*j+w,by omega,hg.2,show (4*j+w)/4=j by omega⟩
  ·rw [if_neg h0,List.any_eq_true]
   obtain ⟨m,rfl⟩:∃m,l=m+1:=⟨l-1,by omega⟩
   rw [zv]
   constructor
   ·rintro ⟨w,hw,hd⟩
    have hwp:w<prt L.length (m+1) j:=by
     refine (bM hw).2 ?_
     rcases Nat.lt_or_ge (4*j+w) (und L.length (m+1)) with h5 | h5
     ·exact h5
     ·rw [Dd (n:=L.length) hO.hc (by rw [←gn];exact h5)] at hd;cases hd
    refine ⟨w,List.mem_range.2 hwp, ?_⟩
    rw [(hch w hwp h0).1];exact hd
   ·rintro ⟨w,hw,hd⟩
    have hw:=List.mem_range.1 hw
    rw [(hch w hw h0).1] at hd
    have:=m3 L.length (m+1) j
    exact ⟨w,by omega,hd⟩
 ·rw [qQ]
  by_cases h0:l=0
  ·exact .inl h0
  ·refine .inr fun w hw=> ?_
   obtain ⟨h1,h2⟩:=hch w hw h0
   rw [hn,h1,uu hO (by omega) h2]
   exact lB h0 hw
theorem zV {L:List Rec} {c:List Bool} {s:List Nat} (hO:OkW L c s):DH (treW L c s)=true:=by
 rw [jw]
 intro i hi
 rw [jt] at hi
 obtain ⟨l,j,h1,h2,rfl⟩:=dI hi
 have h3:(treW L c s).getD (num L.length l+j) Un.zero=cF L c s l j:=eL h1 h2
 rw [h3]
 have:=hO.m.sl (num L.length l+j)
 show ((s.getD (num L.length l+j) 0:Nat):Int)=0∨((s.getD (num L.length l+j) 0:Nat):Int)=1
 omega
end Go.Cs
namespace Go.Cs
open Go Go.RowKit
def fM (x:Un) (w:Nat):Nat:=if (x.nd.rs.get w).st=0∨2<(x.nd.rs.get w).st then 0 else if x.g w=true then (x.nd.rs.get w).st-1 else 2-(x.nd.rs.get w).st
theorem lj (x:Un) (w:Nat):fM x w≤1:=by unfold fM;split;omega;split<;>omega
def rm (x:Un) (w:Nat) (n:Non) (t:Dig):Rec:=⟨fM x w+1,n,t,by have:=lj x w;omega⟩
def set1 (ts:List Un) (b:Nat) (n:Non) (t:Dig):List Un:=ts.set (b/4) ((((ts.getD (b/4) Un.zero).setR (b%4) (rm (ts.getD (b/4) Un.zero) (b%4) n t)).setCh (b%4) true).setDt true)
def lV (n b m:Nat) (ts:List Un):List Un:=ts.set (num n (m+1)+idx b (m+1)) (((d6 n ts (m+1) (idx b (m+1))).setE ((d6 n ts m (idx b m)).nd.ix%4) (rX (d6 n ts m (idx b m)))).setDt true)
def d8 (n b:Nat) (ts:List Un):Nat→List Un
 | 0=>ts
 | m+1=>lV n b m (d8 n b ts m)
def qL (n:Nat) (ts:List Un) (b:Nat) (x:Non) (t:Dig):List Un:=d8 n b (set1 ts b x t) (hgt n)
structure GoodT (n:Nat) (ts:List Un):Prop where
 len:ts.length=tot n
 pl:∀l j,l≤hgt n→j<cnt n l→bA (d6 n ts l j).nd=0∧(d6 n ts l j).nd.lv=l∧(d6 n ts l j).nd.ix=j
theorem GoodT.of {n:Nat} {ts:List Un} (hl:ts.length=tot n) (h:F2 n (sm n ts)=0):GoodT n ts:=⟨hl,fun l j h1 h2=>by
 have h3:=(fR (BZ h h1 h2)).1
 exact ⟨(cA h3.2.2).1,h3.1,h3.2.1⟩⟩
theorem uD {n l j a b:Nat} {ts:List Un} {x:Un} (hl:ts.length=tot n) (h1:l≤hgt n) (h2:j<cnt n l) (h3:a≤hgt n) (h4:b<cnt n a):d6 n (ts.set (num n l+j) x) a b=if a=l∧b=j then x else d6 n ts a b:=by
 have hlt:=dV h1 h2
 unfold d6
 rw [List.getD_eq_getElem?_getD,List.getElem?_set]
 by_cases h:num n l+j=num n a+b
 ·obtain ⟨rfl,rfl⟩:=j3 h2 h4 h
  rw [if_pos rfl,if_pos (by omega),if_pos ⟨rfl,rfl⟩];rfl
 ·rw [if_neg h,if_neg (by rintro ⟨rfl,rfl⟩;exact h rfl),←List.getD_eq_getElem?_getD]
theorem GoodT.set {n l j:Nat} {ts:List Un} {x:Un} (h:GoodT n ts) (h1:l≤hgt n) (h2:j<cnt n l) (hc:bA x.nd=0) (hv:x.nd.lv=l) (hx:x.nd.ix=j):GoodT n (ts.set (num n l+j) x):=
 ⟨by rw [List.length_set];exact h.len,fun a b h3 h4=>by
  rw [uD h.len h1 h2 h3 h4]
  split
  ·next he=>obtain ⟨rfl,rfl⟩:=he;exact ⟨hc,hv,hx⟩
  ·exact h.pl a b h3 h4⟩
theorem yx (x:Un) (w:Nat) (n:Non) (t:Dig):bS (rm x w n t)=0:=by
 have:=lj x w
 unfold bS
 show (if 2<fM x w+1 then 1 else if fM x w+1=0 then _ else 0)=0
 rw [if_neg (by omega),if_neg (by omega)]
theorem GoodT.set1 {n b:Nat} {ts:List Un} {x:Non} {t:Dig} (h:GoodT n ts) (hb:b<n):GoodT n (set1 ts b x t):=by
 have hg:b/4<cnt n 0:=bm hb 0
 have h0:num n 0+b/4=b/4:=Nat.zero_add _
 have hp:=h.pl 0 (b/4) (Nat.zero_le _) hg
 unfold d6 at hp
 rw [h0] at hp
 have:=h.set (l:=0) (j:=b/4) (x:=(((ts.getD (b/4) Un.zero).setR (b%4) (rm (ts.getD (b/4) Un.zero) (b%4) x t)).setCh (b%4) true).setDt true) (Nat.zero_le _) hg
  ((xL (Nat.mod_lt _ (by decide)) hp.1 hp.2.1).trans (yx _ _ _ _)) hp.2.1 hp.2.2
 rwa [h0] at this
theorem AU {x:Un} (h:kB x=0∨kB x=1):dK (rX x)=0:=by
 unfold rX
 split
 ·decide
 ·have h2:(kB x+1).toNat%2^8=1∨(kB x+1).toNat%2^8=2:=by rcases h with h | h<;>rw [h]<;>decide
  unfold dK
  rw [if_neg (show ¬2<(kB x+1).toNat%2^8 by omega),if_neg (show ¬(kB x+1).toNat%2^8=0 by omega)]
def Slt (n:Nat) (ts:List Un):Prop:=∀l j,l≤hgt n→j<cnt n l→(d6 n ts l j).sl=0∨(d6 n ts l j).sl=1
theorem Slt.of {n:Nat} {ts:List Un} (hl:ts.length=tot n) (h:DH ts=true):Slt n ts:=fun l j h1 h2=>jw.1 h _ (by rw [hl];exact dV h1 h2)
theorem F6 {x:Un} (h:x.sl=0∨x.sl=1):kB x=0∨kB x=1:=by unfold kB;split<;>omega
theorem Slt.set {n l j:Nat} {ts:List Un} {x:Un} (h:Slt n ts) (hl:ts.length=tot n) (h1:l≤hgt n) (h2:j<cnt n l) (hx:x.sl=(d6 n ts l j).sl):Slt n (ts.set (num n l+j) x):=fun a b h3 h4=>by
 rw [uD hl h1 h2 h3 h4]
 split
 ·rw [hx];exact h l j h1 h2
 ·exact h a b h3 h4
theorem Slt.set1 {n b:Nat} {ts:List Un} {x:Non} {t:Dig} (h:Slt n ts) (hl:ts.length=tot n) (hb:b<n):Slt n (Cs.set1 ts b x t):=by
 have h0:num n 0+b/4=b/4:=Nat.zero_add _
 have:=h.set (l:=0) (j:=b/4) (x:=(((ts.getD (b/4) Un.zero).setR (b%4) (rm (ts.getD (b/4) Un.zero) (b%4) x t)).setCh (b%4) true).setDt true) hl (Nat.zero_le _) (bm hb 0) (by unfold d6;rw [h0];rfl)
 rwa [h0] at this
theorem AE {n b m:Nat} {ts:List Un} (h:GoodT n ts) (hs:Slt n ts) (hb:b<n) (hm:m<hgt n):GoodT n (lV n b m ts)∧Slt n (lV n b m ts):=by
 have hj:=bm hb (m+1)
 have hp:=h.pl (m+1) (idx b (m+1)) hm hj
 exact ⟨h.set hm hj ((yh (Nat.mod_lt _ (by decide)) hp.1 (by omega)).trans (AU (F6 (hs m (idx b m) (by omega) (bm hb m))))) hp.2.1 hp.2.2,hs.set h.len hm hj rfl⟩
theorem rI {n b:Nat} {ts:List Un} (h:GoodT n ts) (hs:Slt n ts) (hb:b<n):∀{m:Nat},m≤hgt n→GoodT n (d8 n b ts m)∧Slt n (d8 n b ts m)
 | 0,_=>⟨h,hs⟩
 | m+1,hm=>by
  have ih:=rI h hs hb (m:=m) (by omega)
  exact AE ih.1 ih.2 hb hm
def dX (L:List Rec) (c:List Bool) (b:Nat):Nat:=if (L.getD b Rec.zero).st=0 then 0 else if c.getD b false=true then (L.getD b Rec.zero).st-1 else 2-(L.getD b Rec.zero).st
theorem Ch (L:List Rec) (c:List Bool) (b:Nat):dX L c b+1<256:=by have:=(L.getD b Rec.zero).hst;unfold dX;split;omega;split<;>omega
def cE (L:List Rec) (c:List Bool) (b:Nat) (x:Non) (t:Dig):Rec:=⟨dX L c b+1,x,t,Ch L c b⟩
theorem ma {r:Rec} (h:bS r=0):r.st≤2:=by unfold bS at h;split at h;cases h;omega
section
variable {L:List Rec} {c:List Bool} {s:List Nat} {b:Nat} {x:Non} {t:Dig}
theorem pM (hO:OkW L c s) (hb:b<L.length):dX L c b≤1:=by have:=ma (hO.m.rc b hb);unfold dX;split;omega;split<;>omega
theorem yg (hO:OkW L c s) (hb:b<L.length):bS (cE L c b x t)=0:=by
 have:=pM hO hb
 unfold bS
 show (if 2<dX L c b+1 then 1 else if dX L c b+1=0 then _ else 0)=0
 rw [if_neg (by omega),if_neg (by omega)]
theorem bH {α:Type} {l:List α} {i j:Nat} {y d:α} (h:i<l.length):(l.set i y).getD j d=if j=i then y else l.getD j d:=by
 simp only [List.getD_eq_getElem?_getD,List.getElem?_set]
 by_cases h1:i=j
 ·subst h1;simp [h]
 ·rw [if_neg h1,if_neg (fun hh=>h1 hh.symm)]
theorem OkW.set (hO:OkW L c s) (hb:b<L.length):OkW (L.set b (cE L c b x t)) (c.set b true) s:=by
 have hl:(L.set b (cE L c b x t)).length=L.length:=List.length_set
 have hcb:b<c.length:=by rw [hO.hc];exact hb
 refine ⟨⟨by rw [hl];exact hO.m.n1,by rw [hl];exact hO.m.n2,fun i hi=> ?_,by rw [hl];exact hO.m.len,hO.m.sl⟩,by rw [List.length_set,hl];exact hO.hc,fun i hi=> ?_⟩
 ·rw [bH hb];split
  ·exact yg hO hb
  ·exact hO.m.rc i (by rw [hl] at hi;exact hi)
 ·rw [bH hb];rw [bH hcb] at hi
  split
  ·exact Nat.succ_ne_zero _
  ·next h1=>rw [if_neg h1] at hi;exact hO.cr i hi
theorem Bb {l k:Nat} {r:Rec} (hb:b<L.length) (h:k≠idx b l):bK (L.set b r) l k=bK L l k:=by
 refine fQ ?_
 rw [a9,a9,List.length_set]
 constructor
 ·intro h1 i hi he
  have:=h1 i hi he
  rwa [bH hb,if_neg (by rintro rfl;exact h he.symm)] at this
 ·intro h1 i hi he
  rw [bH hb,if_neg (by rintro rfl;exact h he.symm)];exact h1 i hi he
theorem wA {l k:Nat} (hb:b<c.length) (h:k≠idx b l):drt (c.set b true) l k=drt c l k:=by
 refine fQ ?_
 rw [eJ,eJ,List.length_set]
 constructor
 ·rintro ⟨i,hi,h1,he⟩
  rw [bH hb,if_neg (by rintro rfl;exact h he.symm)] at h1;exact ⟨i,hi,h1,he⟩
 ·rintro ⟨i,hi,h1,he⟩
  exact ⟨i,hi,by rw [bH hb,if_neg (by rintro rfl;exact h he.symm)];exact h1,he⟩
theorem Aq {l:Nat} (hb:b<c.length):drt (c.set b true) l (idx b l)=true:=eJ.2 ⟨b,by rw [List.length_set];exact hb,by rw [bH hb,if_pos rfl],rfl⟩
theorem xe {n l k:Nat} (hb:b<c.length) (h:k≠idx b l) (hl:l≤hgt n) (hk:k<cnt n l):(bZ n (c.set b true) s).getD (num n l+k) 0=(bZ n c s).getD (num n l+k) 0:=by
 rw [eY hl hk,eY hl hk];unfold gH;rw [wA hb h]
theorem wv {l k:Nat} {r:Rec} {S S':List Nat} (hb:b<L.length) (h:k≠idx b l) (hS:S'.getD (num L.length l+k) 0=S.getD (num L.length l+k) 0) (hn:aK (L.set b r) S' l k=aK L S l k):cX (L.set b r) S' l k=cX L S l k:=by
 unfold cX
 rw [Bb hb h]
 by_cases he:bK L l k=true
 ·rw [if_pos he,if_pos he]
 ·rw [if_neg he,if_neg he]
  refine Ent.ext' ?_ ?_
  ·show (S'.getD (num (L.set b r).length l+k) 0+1)%2^8=(S.getD (num L.length l+k) 0+1)%2^8
   rw [List.length_set,hS]
  ·show bI (aM (aK (L.set b r) S' l k))=bI (aM (aK L S l k))
   rw [hn]
theorem pH {r:Rec} (hb:b<L.length) (hbc:b<c.length):∀{l k:Nat},l≤hgt L.length→k≠idx b l→k<cnt L.length l→aK (L.set b r) (bZ L.length (c.set b true) s) l k=aK L (bZ L.length c s) l k
 | 0,k,hl,h,hk=>by
  have h:k≠b/4:=h
  rw [aP,aP,List.length_set]
  refine cg (fun i hi=> ?_) (fun i hi=>by simp)
  rw [bH hb,if_neg (show ¬4*k+i=b by omega)]
 | l+1,k,hl,h,hk=>by
  have h:k≠idx b l/4:=h
  rw [aP,aP,List.length_set]
  refine cg (fun i hi=>by simp) (fun i hi=> ?_)
  by_cases hp:i<prt L.length (l+1) k
  ·have hc:4*k+i<cnt L.length l:=(bM hi).1 hp
   rw [if_pos ⟨hp,by omega⟩,if_pos ⟨hp,by omega⟩,Nat.add_sub_cancel]
   exact wv hb (by omega) (xe hbc (by omega) (by omega) hc) (pH hb hbc (by omega) (by omega) hc)
  ·rw [if_neg (fun hh=>hp hh.1),if_neg (fun hh=>hp hh.1)]
theorem wy {n l k:Nat} (hb:b<c.length) (h:k≠idx b l∨l≠0):qh n (c.set b true) l k=qh n c l k:=by
 unfold qh
 refine List.map_congr_left fun w hw=> ?_
 have hw:=List.mem_range.1 hw
 by_cases h0:l=0
 ·subst h0
  have h:k≠b/4:=h.resolve_right (fun hh=>hh rfl)
  rw [bH hb,if_neg (show ¬4*k+w=b by omega)]
 ·simp [h0]
theorem DP {l k:Nat} (hO:OkW L c s) (hb:b<L.length) (hl:l≤hgt L.length) (h:k≠idx b l) (hk:k<cnt L.length l):cF (L.set b (cE L c b x t)) (c.set b true) s l k=cF L c s l k:=by
 have hbc:b<c.length:=by rw [hO.hc];exact hb
 refine Un.ext' ?_ ?_ (wA hbc h) ?_
 ·show aK (L.set b (cE L c b x t)) (bZ (L.set b (cE L c b x t)).length (c.set b true) s) l k=aK L (bZ L.length c s) l k
  rw [List.length_set];exact pH hb hbc hl h hk
 ·show (((s.getD (num (L.set b (cE L c b x t)).length l+k) 0:Nat):Int))=((s.getD (num L.length l+k) 0:Nat):Int)
  rw [List.length_set]
 ·show qh (L.set b (cE L c b x t)).length (c.set b true) l k=qh L.length c l k
  rw [List.length_set];exact wy hbc (.inl h)
theorem qo (hO:OkW L c s) (hb:b<L.length):rm (cF L c s 0 (b/4)) (b%4) x t=cE L c b x t:=by
 have h1:((cF L c s 0 (b/4)).nd.rs.get (b%4))=L.getD b Rec.zero:=by
  show (aK L (bZ L.length c s) 0 (b/4)).rs.get (b%4)=_
  have hm:b%4<4:=Nat.mod_lt _ (by decide)
  rw [aP,fc _ _ _ _ _ hm,if_pos ⟨(bM hm).2 (show 4*(b/4)+b%4<L.length by omega),rfl⟩,show 4*(b/4)+b%4=b by omega]
 have h2:(cF L c s 0 (b/4)).g (b%4)=c.getD b false:=by
  rw [pd (Nat.mod_lt _ (by decide)),show 4*(b/4)+b%4=b by omega];simp [hb]
 have h3:=ma (hO.m.rc b hb)
 refine Rec.ext' ?_ rfl rfl
 show fM (cF L c s 0 (b/4)) (b%4)+1=dX L c b+1
 unfold fM dX
 rw [h1,h2]
 by_cases h4:(L.getD b Rec.zero).st=0
 ·rw [if_pos (.inl h4),if_pos h4]
 ·rw [if_neg (by omega),if_neg h4]
theorem CZ (hO:OkW L c s) (hb:b<L.length):(((cF L c s 0 (b/4)).setR (b%4) (cE L c b x t)).setCh (b%4) true).setDt true=cF (L.set b (cE L c b x t)) (c.set b true) s 0 (b/4):=by
 have hbc:b<c.length:=by rw [hO.hc];exact hb
 have hm:b%4<4:=Nat.mod_lt _ (by decide)
 refine Un.ext' ?_ ?_ (Aq (l:=0) hbc).symm ?_
 ·show (aK L (bZ L.length c s) 0 (b/4)).setR (b%4) (cE L c b x t)=aK (L.set b (cE L c b x t)) (bZ (L.set b (cE L c b x t)).length (c.set b true) s) 0 (b/4)
  rw [aP,aP,List.length_set]
  unfold A3
  rw [AC _ hm]
  refine cg (fun i hi=> ?_) (fun i hi=>by simp)
  rw [bH hb]
  by_cases h1:i=b%4
  ·subst h1
   rw [if_pos rfl,if_pos ⟨(bM hm).2 (show 4*(b/4)+b%4<L.length by omega),rfl⟩,if_pos (by omega)]
  ·rw [if_neg h1,if_neg (show ¬4*(b/4)+i=b by omega)]
 ·show ((s.getD (num L.length 0+b/4) 0:Nat):Int)=((s.getD (num (L.set b (cE L c b x t)).length 0+b/4) 0:Nat):Int)
  rw [List.length_set]
 ·show (qh L.length c 0 (b/4)).set (b%4) true=qh (L.set b (cE L c b x t)).length (c.set b true) 0 (b/4)
  rw [List.length_set]
  refine List.ext_getElem (by simp [qh]) fun i h1 h2=> ?_
  have hi:i<4:=by simpa [qh] using h2
  rw [List.getElem_set]
  simp only [qh,List.getElem_map,List.getElem_range]
  rw [bH hbc]
  by_cases h3:i=b%4
  ·subst h3
   rw [if_pos rfl,if_pos (by omega)];simp;omega
  ·rw [if_neg (fun hh=>h3 hh.symm),if_neg (by omega)]
theorem Ds {m:Nat} (hO:OkW L c s) (hb:b<L.length) (hm:m<hgt L.length):
  ((cF L c s (m+1) (idx b (m+1))).setE (idx b m%4) (cX (L.set b (cE L c b x t)) (bZ (L.set b (cE L c b x t)).length (c.set b true) s) m (idx b m))).setDt true=cF (L.set b (cE L c b x t)) (c.set b true) s (m+1) (idx b (m+1)):=by
 have hbc:b<c.length:=by rw [hO.hc];exact hb
 have hw:idx b m%4<4:=Nat.mod_lt _ (by decide)
 have hlt:=bm hb m
 have hj:idx b (m+1)=idx b m/4:=rfl
 refine Un.ext' ?_ ?_ (Aq (l:=m+1) hbc).symm ?_
 ·show (aK L (bZ L.length c s) (m+1) (idx b (m+1))).setE (idx b m%4) (cX (L.set b (cE L c b x t)) (bZ (L.set b (cE L c b x t)).length (c.set b true) s) m (idx b m))=aK (L.set b (cE L c b x t)) (bZ (L.set b (cE L c b x t)).length (c.set b true) s) (m+1) (idx b (m+1))
  rw [List.length_set,aP,aP,List.length_set]
  unfold A3
  rw [y9 _ hw]
  refine cg (fun i hi=>by simp) (fun i hi=> ?_)
  by_cases h1:i=idx b m%4
  ·subst h1
   rw [if_pos rfl,if_pos ⟨(bM hi).2 (by rw [gn,hj];omega),by omega⟩,Nat.add_sub_cancel,hj,show 4*(idx b m/4)+idx b m%4=idx b m by omega]
  ·rw [if_neg h1]
   by_cases hp:i<prt L.length (m+1) (idx b (m+1))
   ·have hc2:4*idx b (m+1)+i<cnt L.length m:=(bM hi).1 hp
    rw [if_pos ⟨hp,by omega⟩,if_pos ⟨hp,by omega⟩,Nat.add_sub_cancel]
    exact (wv hb (by omega) (xe hbc (by omega) (by omega) hc2) (pH hb hbc (by omega) (by omega) hc2)).symm
   ·rw [if_neg (fun hh=>hp hh.1),if_neg (fun hh=>hp hh.1)]
 ·show ((s.getD (num L.length (m+1)+idx b (m+1)) 0:Nat):Int)=((s.getD (num (L.set b (cE L c b x t)).length (m+1)+idx b (m+1)) 0:Nat):Int)
  rw [List.length_set]
 ·show qh L.length c (m+1) (idx b (m+1))=qh (L.set b (cE L c b x t)).length (c.set b true) (m+1) (idx b (m+1))
  rw [List.length_set];exact (wy hbc (.inr (by omega))).symm
def rL (L:List Rec) (c:List Bool) (s:List Nat) (b:Nat) (L':List Rec) (c':List Bool) (m l j:Nat):Un:=if l≤m∧j=idx b l then cF L' c' s l j else cF L c s l j
theorem wC (hO:OkW L c s) (hb:b<L.length):∀{m:Nat},m≤hgt L.length→d8 L.length b (set1 (treW L c s) b x t) m=TX L.length (rL L c s b (L.set b (cE L c b x t)) (c.set b true) m)
 | 0,_=>by
  have hg:b/4<cnt L.length 0:=bm hb 0
  have h0:num L.length 0+b/4=b/4:=Nat.zero_add _
  have hx:(treW L c s).getD (b/4) Un.zero=cF L c s 0 (b/4):=by
   have:=eL (L:=L) (c:=c) (s:=s) (Nat.zero_le _) hg
   unfold d6 at this;rwa [h0] at this
  show set1 (treW L c s) b x t=_
  unfold set1
  rw [hx,qo hO hb,CZ hO hb]
  have h1:=o3 (f:=cF L c s) Un.zero (cF (L.set b (cE L c b x t)) (c.set b true) s 0 (b/4)) (Nat.zero_le _) hg
  rw [h0] at h1
  refine h1.trans (eu Un.zero fun l j hl hj=> ?_)
  unfold rL
  by_cases h2:l=0∧j=b/4
  ·obtain ⟨rfl,rfl⟩:=h2
   rw [if_pos ⟨rfl,rfl⟩,if_pos ⟨Nat.le_refl _,rfl⟩]
  ·rw [if_neg h2,if_neg (fun h3=>h2 ⟨Nat.le_zero.1 h3.1,by have h4:=h3.2;rwa [Nat.le_zero.1 h3.1] at h4⟩)]
 | m+1,hm=>by
  have hO':=hO.set (x:=x) (t:=t) hb
  have hl':(L.set b (cE L c b x t)).length=L.length:=List.length_set
  show lV L.length b m (d8 L.length b (set1 (treW L c s) b x t) m)=_
  rw [wC hO hb (m:=m) (by omega)]
  have hj:=bm hb (m+1)
  have hjm:=bm hb m
  have e1:d6 L.length (TX L.length (rL L c s b (L.set b (cE L c b x t)) (c.set b true) m)) (m+1) (idx b (m+1))=cF L c s (m+1) (idx b (m+1)):=by
   unfold d6;rw [e7 Un.zero hm hj];unfold rL;rw [if_neg (by omega)]
  have e2:d6 L.length (TX L.length (rL L c s b (L.set b (cE L c b x t)) (c.set b true) m)) m (idx b m)=cF (L.set b (cE L c b x t)) (c.set b true) s m (idx b m):=by
   unfold d6;rw [e7 Un.zero (by omega) hjm];unfold rL;rw [if_pos ⟨Nat.le_refl _,rfl⟩]
  have e3:(cF (L.set b (cE L c b x t)) (c.set b true) s m (idx b m)).nd.ix=idx b m:=dQ (by rw [hl'];exact hO.m.n2) (by rw [hl'];omega) (by rw [hl'];exact hjm)
  unfold lV
  rw [e1,e2,e3,uu hO' (by rw [hl'];omega) (by rw [hl'];exact hjm),Ds hO hb hm,o3 Un.zero _ hm hj]
  refine eu Un.zero fun l j h1 h2=> ?_
  unfold rL
  by_cases h3:l=m+1∧j=idx b (m+1)
  ·obtain ⟨rfl,rfl⟩:=h3
   rw [if_pos ⟨rfl,rfl⟩,if_pos ⟨Nat.le_refl _,rfl⟩]
  ·rw [if_neg h3]
   by_cases h4:l≤m∧j=idx b l
   ·rw [if_pos h4,if_pos ⟨by omega,h4.2⟩]
   ·rw [if_neg h4,if_neg (by
     rintro ⟨h5,h6⟩
     rcases Nat.lt_succ_iff_lt_or_eq.1 (Nat.lt_succ_of_le h5) with h7 | h7
     ·exact h4 ⟨by omega,h6⟩
     ·subst h7;exact h3 ⟨rfl,h6⟩)]
theorem xx (hO:OkW L c s) (hb:b<L.length):qL L.length (treW L c s) b x t=treW (L.set b (cE L c b x t)) (c.set b true) s:=by
 unfold qL
 rw [wC hO hb (Nat.le_refl _)]
 unfold treW
 rw [List.length_set]
 refine eu Un.zero fun l j h1 h2=> ?_
 unfold rL
 by_cases h3:j=idx b l
 ·rw [if_pos ⟨h1,h3⟩]
 ·rw [if_neg (fun hh=>h3 hh.2)];exact (DP hO hb h1 h3 h2).symm
theorem B3 (hO:OkW L c s) (hb:b<L.length):fM ((treW L c s).getD (b/4) Un.zero) (b%4)=dX L c b:=by
 have hg:b/4<cnt L.length 0:=bm hb 0
 have hx:(treW L c s).getD (b/4) Un.zero=cF L c s 0 (b/4):=by
  have:=eL (L:=L) (c:=c) (s:=s) (Nat.zero_le _) hg
  unfold d6 at this;rwa [show num L.length 0+b/4=b/4 from Nat.zero_add _] at this
 rw [hx]
 have:=congrArg Rec.st (qo (x:=Non.zero) (t:=Dig.zero) hO hb)
 exact Nat.succ.inj this
end
def fls (n:Nat):List Bool:=List.replicate n false
theorem jl (n i:Nat):(fls n).getD i false=false:=by simp only [fls,List.getD_eq_getElem?_getD,List.getElem?_replicate];split<;>rfl
theorem oY (n l j:Nat):drt (fls n) l j=false:=by
 cases h:drt (fls n) l j with
 | false=>rfl
 | true=>obtain ⟨i,_,h2,_⟩:=eJ.1 h;rw [jl] at h2;cases h2
theorem vJ (n m l j:Nat):qh n (fls m) l j=List.replicate 4 false:=by
 unfold qh
 simp only [jl,Bool.and_false]
 rfl
theorem OkW.fls {L:List Rec} {s:List Nat} (h:OkM L s):OkW L (fls L.length) s:=⟨h,by simp [Cs.fls],fun i hi=>by rw [jl] at hi;cases hi⟩
theorem um {n m:Nat} {s:List Nat} (h:s.length=tot n):bZ n (fls m) s=s:=by
 refine (i6 0 h fun l j hl hj=> ?_).symm
 unfold gH;rw [oY];rfl
def lA (N:Nat) (ts:List Un) (k:Nat):Un:=⟨(ts.getD k Un.zero).nd,if k=N-1 then 1-(ts.getD k Un.zero).sl else kB (ts.getD k Un.zero),false,List.replicate 4 false,rfl⟩
def AD (N:Nat) (ts:List Un):List Un:=(List.range N).map (lA N ts)
def E2 (t:List Nod) (z:List Int) (k:Nat):Un:=⟨t.getD k Nod.zero,z.getD k 0,false,List.replicate 4 false,rfl⟩
def Ei (N:Nat) (t:List Nod) (z:List Int):List Un:=(List.range N).map (E2 t z)
def gL (n:Nat) (c:List Bool) (s:List Nat):List Nat:=TX n fun l j=>if l=hgt n then 1-s.getD (num n l+j) 0 else gH n c s l j
theorem j2 {α:Type} {f:Nat→α} {N k:Nat} (d:α) (h:k<N):((List.range N).map f).getD k d=f k:=by simp [List.getD,h]
theorem jd {L:List Rec} {S S':List Nat}:∀{v j:Nat},(∀l k,l<v→k<cnt L.length l→S.getD (num L.length l+k) 0=S'.getD (num L.length l+k) 0)→aK L S v j=aK L S' v j
 | 0,j,h=>by rw [aP,aP];exact cg (fun i hi=>rfl) (fun i hi=>by simp)
 | v+1,j,h=>by
  rw [aP,aP]
  refine cg (fun i hi=>by simp) (fun i hi=> ?_)
  by_cases hp:i<prt L.length (v+1) j
  ·have hc:4*j+i<cnt L.length v:=(bM hi).1 hp
   rw [if_pos ⟨hp,by omega⟩,if_pos ⟨hp,by omega⟩,Nat.add_sub_cancel]
   unfold cX
   by_cases he:bK L v (4*j+i)=true
   ·rw [if_pos he,if_pos he]
   ·rw [if_neg he,if_neg he]
    refine Ent.ext' ?_ ?_
    ·show (S.getD (num L.length v+(4*j+i)) 0+1)%2^8=(S'.getD (num L.length v+(4*j+i)) 0+1)%2^8
     rw [h v _ (Nat.lt_succ_self v) hc]
    ·show bI (aM (aK L S v (4*j+i)))=bI (aM (aK L S' v (4*j+i)))
     rw [jd (fun l k h1 h2=>h l k (by omega) h2)]
  ·rw [if_neg (fun hh=>hp hh.1),if_neg (fun hh=>hp hh.1)]
section
variable {L:List Rec} {c:List Bool} {s:List Nat}
theorem ff {n l j:Nat} (hl:l≤hgt n) (hj:j<cnt n l):(gL n c s).getD (num n l+j) 0=if l=hgt n then 1-s.getD (num n l+j) 0 else gH n c s l j:=e7 0 hl hj
theorem mr (n:Nat):(gL n c s).length=tot n:=fT _ _
theorem OkW.pub (hO:OkW L c s):OkM L (gL L.length c s):=⟨hO.m.n1,hO.m.n2,hO.m.rc,mr _,fun i=>by
 rcases Nat.lt_or_ge i (tot L.length) with hi | hi
 ·obtain ⟨l,j,h1,h2,rfl⟩:=dI hi
  have:=hO.m.sl (num L.length l+j)
  have:=uR (n:=L.length) (l:=l) (j:=j) (c:=c) hO.m.sl
  rw [ff h1 h2];split<;>omega
 ·rw [List.getD_eq_getElem?_getD,List.getElem?_eq_none (by rw [mr];exact hi)];exact Nat.zero_le _⟩
theorem i9 {n l j:Nat} (h1:1≤n) (h2:n≤4096) (hl:l≤hgt n) (hj:j<cnt n l):num n l+j=tot n-1↔l=hgt n:=by
 have ht:=eR h1 h2
 have hc:=eg h1 h2
 constructor
 ·intro h
  exact (j3 hj (show 0<cnt n (hgt n) by omega) (by omega)).1
 ·rintro rfl;omega
theorem DN (hO:OkW L c s) {l j:Nat} (hl:l≤hgt L.length) (hj:j<cnt L.length l):cF L (fls L.length) (gL L.length c s) l j=⟨aK L (bZ L.length c s) l j,if num L.length l+j=tot L.length-1 then 1-(cF L c s l j).sl else kB (cF L c s l j),false,List.replicate 4 false,rfl⟩:=by
 refine Un.ext' ?_ ?_ (oY _ _ _) (vJ _ _ _ _)
 ·show aK L (bZ L.length (fls L.length) (gL L.length c s)) l j=_
  rw [um (mr _)]
  refine jd fun a k h1 h2=> ?_
  rw [ff (by omega) h2,if_neg (by omega),eY (by omega) h2]
 ·show (((gL L.length c s).getD (num L.length l+j) 0:Nat):Int)=_
  have:=hO.m.sl (num L.length l+j)
  rw [ff hl hj,vE hO.m.sl]
  by_cases h:l=hgt L.length
  ·rw [if_pos h,if_pos ((i9 hO.m.n1 hO.m.n2 hl hj).2 h)]
   show _=1-((s.getD (num L.length l+j) 0:Nat):Int)
   omega
  ·rw [if_neg h,if_neg (fun hh=>h ((i9 hO.m.n1 hO.m.n2 hl hj).1 hh))]
theorem yy (hO:OkW L c s):AD (tot L.length) (treW L c s)=treW L (fls L.length) (gL L.length c s):=by
 refine i6 Un.zero (by simp [AD]) fun l j hl hj=> ?_
 have h3:(treW L c s).getD (num L.length l+j) Un.zero=cF L c s l j:=eL hl hj
 unfold AD
 rw [j2 _ (dV hl hj),DN hO hl hj]
 unfold lA
 rw [h3];rfl
theorem ya (hO:OkM L s):Ei (tot L.length) (bJ L s) (s.map fun (x:Nat)=>(x:Int))=treW L (fls L.length) s:=by
 refine i6 Un.zero (by simp [Ei]) fun l j hl hj=> ?_
 have h3:(bJ L s).getD (num L.length l+j) Nod.zero=aK L s l j:=gi hl hj
 unfold Ei
 rw [j2 _ (dV hl hj)]
 refine Un.ext' ?_ ?_ (oY _ _ _).symm (vJ _ _ _ _).symm
 ·show (bJ L s).getD _ _=aK L (bZ L.length (fls L.length) s) l j
  rw [h3,um hO.len]
 ·show (s.map fun (x:Nat)=>(x:Int)).getD _ 0=((s.getD _ 0:Nat):Int)
  exact nU _ _
end
end Go.Cs
namespace Go.Cs
open Go Go.RowKit
section
variable {P:Program} {w:World}
theorem oM {α:Type} {f:α→Value} {eqb:α→α→Bool} {dd t e n:Nat} (d:α) (he:∀x y:α,(Op.equalIn dd e (f x) (f y)).run P w= .ok (eqb x y) w)
  (xs ys:List α) (hx:xs.length=n) (hy:ys.length=n) (ht:P.underlying t=some (.array n e)) (hsz:(P.info? e).map (·.size)=some 1) (ha:(P.underlying e).map jb=some false):
  (Op.equalIn (dd+1) t (.agg (xs.map f).toArray) (.agg (ys.map f).toArray)).run P w= .ok (yU d eqb n xs ys) w:=by
 rw [yU,List.range_eq_range',Op.equalIn]
 simp only [Sem.run_bind,run_underlying ht,Result.andThen_ok,run_sizeOf hsz,Std.Legacy.Range.forIn_eq_forIn_range',Std.Legacy.Range.size,Nat.sub_zero,Nat.add_sub_cancel,Nat.div_one]
 have hl:∀i∈List.range' 0 n 1,i<n:=fun i hi=>by simpa using (List.mem_range'_1.1 hi).2
 generalize List.range' 0 n 1=l at hl⊢
 induction l with
 | nil=>simp
 | cons i l ih=>
  have hi:i<n:=hl i (by simp)
  have px:=aI (P:=P) (w:=w) (o:=i*1) (vs:=xs.map f) (v:=f (xs.getD i d)) ha (by rw [Nat.mul_one,List.getElem?_map,List.getElem?_eq_getElem (by omega)];simp [List.getD,hx,hi])
  have py:=aI (P:=P) (w:=w) (o:=i*1) (vs:=ys.map f) (v:=f (ys.getD i d)) ha (by rw [Nat.mul_one,List.getElem?_map,List.getElem?_eq_getElem (by omega)];simp [List.getD,hy,hi])
  have pe:=he (xs.getD i d) (ys.getD i d)
  simp only [List.forIn_cons,Sem.run_bind,px,py,pe,Result.andThen_ok,List.all_cons]
  cases hb:eqb (xs.getD i d) (ys.getD i d)
  ·simp
  ·simp only [Bool.not_true,Bool.false_eq_true,if_false,Sem.run_pure,Result.andThen_ok,Bool.true_and]
   exact ih fun j hj=>hl j (by simp [hj])
theorem oO {dd t e:Nat} (xs ys:List Bool) (hx:xs.length=4) (hy:ys.length=4) (ht:P.underlying t=some (.array 4 e):=by kernel_rfl) (he:P.underlying e=some .bool:=by kernel_rfl) (hsz:(P.info? e).map (·.size)=some 1:=by kernel_rfl):
  (Op.equalIn (dd+2) t (.agg (jj xs).toArray) (.agg (jj ys).toArray)).run P w= .ok (yU false (fun a b:Bool=>a==b) 4 xs ys) w:=
 oM false (fun a b=>run_equalIn_bool w dd e a b he) xs ys hx hy ht hsz (by rw [he];rfl)
end
end Go.Cs
namespace Go.Cs
open Go Go.RowKit
structure ZZ where
 nd:Nod
 ot:Nat
 bz:Int
 hot:ot<256
def ZZ.zero:ZZ:=⟨Nod.zero,0,0,by decide⟩
def Mh (x:ZZ):List Value:=aU x.nd++ [.int .u8 ((x.ot:Nat):Int), .int .i64 x.bz]
@[simp] theorem KT (x:ZZ):(Mh x).length=276:=by simp [Mh]
end Go.Cs
namespace Go.Cs
open Go Go.RowKit
theorem pt {l:List Un} {i:Nat} {x:Un} {f:Un→Un} (h:i<l.length):(l.set i x).set i (f ((l.set i x).getD i Un.zero))=l.set i (f x):=by
 rw [bH h,if_pos rfl,List.set_set]
theorem C0 {t:List Un} {b:Nat} {x:Non} {y:Dig} (h:b/4<t.length) {A B:List Un} (hA:A=t.set (b/4) ((t.getD (b/4) Un.zero).setR (b%4) (rm (t.getD (b/4) Un.zero) (b%4) x y))) (hB:B=A.set (b/4) ((A.getD (b/4) Un.zero).setCh (b%4) true)):B.set (b/4) ((B.getD (b/4) Un.zero).setDt true)=set1 t b x y:=by
 rw [hA,pt (f:=fun z=>z.setCh (b%4) true) h] at hB
 rw [hB,pt (f:=fun z=>z.setDt true) h];rfl
theorem GG {n b k:Nat} {t A:List Un} (hk:0<k) (h:num n k+idx b k<t.length) (hA:A=t.set (num n k+idx b k) ((t.getD (num n k+idx b k) Un.zero).setE ((d6 n t (k-1) (idx b (k-1))).nd.ix%4) (rX (d6 n t (k-1) (idx b (k-1)))))):A.set (num n k+idx b k) ((A.getD (num n k+idx b k) Un.zero).setDt true)=lV n b (k-1) t:=by
 obtain ⟨m,rfl⟩:∃m,k=m+1:=⟨k-1,by omega⟩
 rw [hA,pt (f:=fun z=>z.setDt true) h];rfl
theorem zF {n b k:Nat} {t:List Un} (hk:0<k):lV n b (k-1) (d8 n b t (k-1))=d8 n b t (k+1-1):=by
 obtain ⟨m,rfl⟩:∃m,k=m+1:=⟨k-1,by omega⟩
 rfl
theorem Fk {n b k:Nat} {t:List Un}:(lV n b k t).length=t.length:=by unfold lV;rw [List.length_set]
theorem oQ {n b:Nat} {t:List Un}:∀{m:Nat},(d8 n b t m).length=t.length
 | 0=>rfl
 | m+1=>by rw [show d8 n b t (m+1)=lV n b m (d8 n b t m) from rfl,Fk,oQ]
def eo {α:Type} (N:Nat) (f g:Nat→α) (k:Nat):List α:=(List.range N).map fun i=>if i<k then f i else g i
theorem rS {α:Type} {N k:Nat} {f g:Nat→α}:(eo N f g k).length=N:=by simp [eo]
theorem y8 {α:Type} {N k i:Nat} {f g:Nat→α} (d:α) (h:i<N) (hk:k≤i):(eo N f g k).getD i d=g i:=by
 unfold eo;rw [j2 _ h,if_neg (by omega)]
theorem n6 {α:Type} {N:Nat} {f g:Nat→α}:eo N f g N=(List.range N).map f:=by
 unfold eo;exact List.map_congr_left fun i hi=>if_pos (List.mem_range.1 hi)
theorem qZ {α:Type} {N k:Nat} {f g:Nat→α} (h:k<N):(eo N f g k).set k (f k)=eo N f g (k+1):=by
 refine List.ext_getElem (by simp [eo]) fun i h1 h2=> ?_
 rw [List.getElem_set]
 simp only [eo,List.getElem_map,List.getElem_range]
 by_cases h3:k=i
 ·subst h3;rw [if_pos rfl,if_pos (Nat.lt_succ_self _)]
 ·rw [if_neg h3]
  by_cases h4:i<k
  ·rw [if_pos h4,if_pos (by omega)]
  ·rw [if_neg h4,if_neg (by omega)]
theorem xU {α β:Type} (d:α) (h:α→β) (l:List α) {N:Nat} (hN:N=l.length):(List.range N).map (fun i=>h (l.getD i d))=l.map h:=by
 subst hN
 refine List.ext_getElem (by simp) fun i h1 h2=> ?_
 have h3:i<l.length:=by simpa using h2
 simp [List.getD,h3]
theorem yI {α:Type} (d:α) {N:Nat} {f:Nat→α} {l:List α} (hN:N=l.length):eo N f (fun i=>l.getD i d) 0=l:=by
 have:=xU d id l hN
 rw [List.map_id] at this
 refine Eq.trans ?_ this
 unfold eo;exact List.map_congr_left fun i _=>if_neg (Nat.not_lt_zero i)
theorem zY {α:Type} {N:Nat} {f:Nat→α} {z:α}:eo N f (fun _=>z) 0=List.replicate N z:=by
 refine List.ext_getElem (by simp [eo]) fun i h1 h2=> ?_
 simp [eo]
end Go.Cs
