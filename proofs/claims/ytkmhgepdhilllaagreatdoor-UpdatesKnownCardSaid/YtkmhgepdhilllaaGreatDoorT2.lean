/- Lemmas and walks: what each function does, by its own code. No condition beyond those of each statement. -/
import Derived.Test.YtkmhgepdhilllaaGreatDoorT1
import Derived.Laws.Small
set_option linter.all false
set_option linter.unusedVariables false
namespace Go.Cs
open Go Go.RowKit
theorem zkP (x:Un):((unC x).drop 276).take (blC x.ch).length=blC x.ch:=by
 rw [unC,List.drop_append,List.drop_eq_nil_of_le (by rw [zV];omega),zV,List.nil_append]
 show (blC x.ch).take _=_
 exact List.take_of_length_le (Nat.le_refl _)
theorem zrQ {l:List Bool} {i:Nat} (h:l.length=4) (hi:i<4):(blC l)[0+i*1]? =some (.bool (l.getD i false)):=by
 rw [Nat.zero_add,Nat.mul_one,blC,List.getElem?_map,List.getElem?_eq_getElem (by omega)];simp [List.getD,h,hi]
theorem zjF {l:List Bool} {i:Nat} (h:l.length=4) (hi:i<4):(blC l)[i]? =some (.bool (l.getD i false)):=by have:=zrQ h hi;rwa [Nat.zero_add,Nat.mul_one] at this
section
variable {P:Program} {w:World}
theorem zkC {x:Un} {y:Nod}:zac (unC x) 0 (zH y)=unC ⟨y,x.sl,x.dt,x.ch,x.hch⟩:=by
 rw [unC,zb0 _ _ _ _ (by rw [zV,zV];omega),zm _ _ (by rw [zV,zV])];rfl
theorem zkq {x:Un} {s:Int}:zac (unC x) 274 [.int .i64 s]=unC ⟨x.nd,s,x.dt,x.ch,x.hch⟩:=by
 show (unC x).set 274 _=_
 rw [unC,List.set_append_right _ _ (by rw [zV];omega),zV];rfl
def zmO (P:Program) (T k:Nat):Option (TypeId×Nat):=match P.underlying T with | some (.struct fs)=>(fs[k]?).map fun f=>(f.type,f.offset)| _=>none
theorem zji {T k F o:Nat} (h:zmO P T k=some (F,o)):∃fs f,P.underlying T=some (.struct fs)∧fs[k]? =some f∧f.type=F∧f.offset=o:=by
 unfold zmO at h
 split at h
 ·next fs hu=>
  cases hf:fs[k]? with
  | none=>rw [hf] at h;cases h
  | some f=>rw [hf] at h;simp at h;exact ⟨fs,f,hu,hf,h.1,h.2⟩
 ·cases h
theorem zj3 {T k F o sz:Nat} {vs us:List Value} (hv:(vs.drop o).take us.length=us) (hl:us.length=sz) (hT:zmO P T k=some (F,o):=by kernel_rfl) (hsz:(P.info? F).map (·.size)=some sz:=by kernel_rfl) (ha:(P.underlying F).map zdv=some true:=by kernel_rfl):
  (Instr.field T (.agg vs.toArray) k).run P w= .ok (.agg us.toArray) w:=by
 obtain ⟨fs,f,hu,hf,rfl,rfl⟩:=zji hT
 subst hl
 simp [Instr.field,asAgg,run_underlying hu,hf,zaK (w:=w) ha hsz hv]
theorem zeq {T:TypeId} (x:Nod) (s:Int) (hp:zcM P T=some [(0,274),(274,1),(275,1),(276,4)]:=by kernel_rfl) (hz:(P.info? T).map (·.zero)=some (some (.agg (unC Un.zero).toArray)):=by kernel_rfl):
  (Instr.build T #[(0, .agg (zH x).toArray),(1, .int .i64 s)]).run P w= .ok (.agg (unC ⟨x,s,false,List.replicate 4 false,rfl⟩).toArray) w:=by
 refine zb9 hp hz rfl ?_
 rw [zaY (off:=0) (size:=274) (vs:=zH x) rfl rfl (by simp) (by simp),zkC,zaY (off:=274) (size:=1) (vs:= [.int .i64 s]) rfl rfl rfl (by simp),zkq]
 rfl
theorem zjZ {α:Type} {f:α→Value} {eqb:α→α→Bool} {dd t e n:Nat} (d:α) (he:∀x y:α,(Op.equalIn dd e (f x) (f y)).run P w= .ok (eqb x y) w)
  (xs ys:List α) (hx:xs.length=n) (hy:ys.length=n) (ht:P.underlying t=some (.array n e)) (hsz:(P.info? e).map (·.size)=some 1) (ha:(P.underlying e).map zdv=some false):
  (Op.equalIn (dd+1) t (.agg (xs.map f).toArray) (.agg (ys.map f).toArray)).run P w= .ok (eqL d eqb n xs ys) w:=by
 rw [eqL,List.range_eq_range',Op.equalIn]
 simp only [Sem.run_bind,run_underlying ht,Result.andThen_ok,zbj hsz,Std.Legacy.Range.forIn_eq_forIn_range',Std.Legacy.Range.size,Nat.sub_zero,Nat.add_sub_cancel,Nat.div_one]
 have hl:∀i∈List.range' 0 n 1,i<n:=fun i hi=>by simpa using (List.mem_range'_1.1 hi).2
 generalize List.range' 0 n 1=l at hl⊢
 induction l with
 | nil=>simp
 | cons i l ih=>
  have hi:i<n:=hl i (by simp)
  have px:=zax (P:=P) (w:=w) (o:=i*1) (vs:=xs.map f) (v:=f (xs.getD i d)) ha (by rw [Nat.mul_one,List.getElem?_map,List.getElem?_eq_getElem (by omega)];simp [List.getD,hx,hi])
  have py:=zax (P:=P) (w:=w) (o:=i*1) (vs:=ys.map f) (v:=f (ys.getD i d)) ha (by rw [Nat.mul_one,List.getElem?_map,List.getElem?_eq_getElem (by omega)];simp [List.getD,hy,hi])
  have pe:=he (xs.getD i d) (ys.getD i d)
  simp only [List.forIn_cons,Sem.run_bind,px,py,pe,Result.andThen_ok,List.all_cons]
  cases hb:eqb (xs.getD i d) (ys.getD i d)
  ·simp
  ·simp only [Bool.not_true,Bool.false_eq_true,if_false,Sem.run_pure,Result.andThen_ok,Bool.true_and]
   exact ih fun j hj=>hl j (by simp [hj])
theorem zdy {dd t e:Nat} (xs ys:List Bool) (hx:xs.length=4) (hy:ys.length=4) (ht:P.underlying t=some (.array 4 e):=by kernel_rfl) (he:P.underlying e=some .bool:=by kernel_rfl) (hsz:(P.info? e).map (·.size)=some 1:=by kernel_rfl):
  (Op.equalIn (dd+2) t (.agg (blC xs).toArray) (.agg (blC ys).toArray)).run P w= .ok (eqL false (fun a b:Bool=>a==b) 4 xs ys) w:=
 zjZ false (fun a b=>run_equalIn_bool w dd e a b he) xs ys hx hy ht hsz (by rw [he];rfl)
end
def zbv (n:Nat) (ts:List Un):Nat→List (Nat×Nat)
 | 0=> []
 | k+1=>if (ts.getD k Un.zero).dt=true then zbv n ts k++ [(lvK n k,k-num n (lvK n k))] else zbv n ts k
theorem zjT {n k:Nat} {ts:List Un} (h:(ts.getD k Un.zero).dt=true):zbv n ts (k+1)=zbv n ts k++ [(lvK n k,k-num n (lvK n k))]:=if_pos h
theorem zrS {n k:Nat} {ts:List Un} (h:(ts.getD k Un.zero).dt=false):zbv n ts (k+1)=zbv n ts k:=if_neg (by rw [h];decide)
theorem zme (n:Nat) (ts:List Un):∀k,(zbv n ts k).length≤k
 | 0=>Nat.le_refl _
 | k+1=>by
  have:=zme n ts k
  rw [zbv];split
  ·rw [List.length_append];simp only [List.length_cons,List.length_nil];omega
  ·omega
end Go.Cs
namespace Go.Cs
open Go Go.RowKit
def mnW (L:List Rec) (b h:Nat):Nat→Nat
 | 0=>h+1
 | k+1=>if zaE L k (idx b k)=true then h-k else mnW L b h k
section
variable {L:List Rec} {S:List Nat} {b:Nat}
end
section
variable {L:List Rec} {S:List Nat} {b n:Nat}
end
structure ZZ where
 nd:Nod
 ot:Nat
 bz:Int
 hot:ot<256
def ZZ.zero:ZZ:=⟨Nod.zero,0,0,by decide⟩
def zzC (x:ZZ):List Value:=zH x.nd++ [.int .u8 ((x.ot:Nat):Int), .int .i64 x.bz]
@[simp] theorem zwg (x:ZZ):(zzC x).length=276:=by simp [zzC]
theorem Gl.book {B b:Nat} {vs:List Value} {w w':World} (h:Gl b vs w) (g:Book B w w'):Gl b vs w':=⟨fun i v hi=>g.cell (h.all i v hi),Nat.lt_of_lt_of_le h.lt g.size⟩
def knL:List Rec:=(List.replicate 257 Rec.zero).set 256 (mkR 2 3)
end Go.Cs
namespace Go.Cs
open Go Go.RowKit
theorem zfs {g:Nat→Bool} {k:Nat}:(List.range (k+1)).any g=((List.range k).any g || g k):=by rw [List.range_succ,List.any_append];simp
theorem bnT {a b:Bool} (h:¬a=b):(!(a==b))=true:=by cases a<;>cases b<;>simp_all
theorem bnF {a b:Bool} (h:a=b):(!(a==b))=false:=by cases a<;>cases b<;>simp_all
def chs (n l j:Nat) (t:List Un):List Un:=(t.drop (4*j+num n (l-1))).take (min (4*j+4) (cnt n (l-1))+num n (l-1)-(4*j+num n (l-1)))
theorem zkR {n k:Nat} (h:k<tot n):∃l j,l≤hgt n∧j<cnt n l∧lvK n (num n l+j)=l∧k=num n l+j:=by
 obtain ⟨l,j,h1,h2,rfl⟩:=zdK h
 have:=zat n
 exact ⟨l,j,h1,h2,ziu (by omega) h2,rfl⟩
section
variable {n l j:Nat} {t:List Un}
theorem zhi (h0:l≠0) (hj:j<cnt n l):prt n l j=min (4*j+4) (cnt n (l-1))-4*j∧4*j<cnt n (l-1):=by
 have h1:=zcn (n:=n) (l:=l) (by omega)
 have h2:=(zix (n:=n) (l:=l) (j:=j)).1 hj
 rw [h1] at h2
 unfold prt
 rw [h1]
 omega
theorem ziC (h0:l≠0) (hl:l≤hgt n) (hj:j<cnt n l) {w:Nat} (hw:w<prt n l j):4*j+w<cnt n (l-1)∧num n (l-1)+(4*j+w)<tot n∧w<4:=by
 have h4:=zdl n l j
 have h1:=(za7 (show w<4 by omega)).1 hw
 rw [zcn (by omega)] at h1
 exact ⟨h1,zaC (by omega) h1,by omega⟩
theorem ziV (ht:t.length=tot n) (h0:l≠0) (hl:l≤hgt n) (hj:j<cnt n l):(chs n l j t).length=prt n l j:=by
 have h1:=zhi h0 hj
 have h2:=zaC (n:=n) (l:=l-1) (j:=min (4*j+4) (cnt n (l-1))-1) (by omega) (by omega)
 rw [chs,List.length_take,List.length_drop,ht];omega
theorem ziG (ht:t.length=tot n) (h0:l≠0) (hl:l≤hgt n) (hj:j<cnt n l) {w:Nat} (hw:w<prt n l j):(chs n l j t).getD w Un.zero=t.getD (num n (l-1)+(4*j+w)) Un.zero:=by
 have h1:=zhi h0 hj
 rw [List.getD_eq_getElem?_getD,List.getD_eq_getElem?_getD,chs,List.getElem?_take,if_pos (by omega),List.getElem?_drop]
 congr 2;omega
theorem zgb (ht:t.length=tot n) (h0:l≠0) (hl:l≤hgt n) (hj:j<cnt n l):zc4 n t l j=false↔∀i,i<(chs n l j t).length→((chs n l j t).getD i Un.zero).dt=false:=by
 unfold zc4
 rw [if_neg h0,List.any_eq_false,ziV ht h0 hl hj]
 constructor
 ·intro h i hi
  rw [ziG ht h0 hl hj hi]
  have:=h i (List.mem_range.2 hi)
  exact Bool.eq_false_iff.2 this
 ·intro h i hi
  have hi:=List.mem_range.1 hi
  have:=h i hi
  rw [ziG ht h0 hl hj hi] at this
  exact Bool.eq_false_iff.1 this
theorem zib {x:Un} (h0:l≠0):zeJ x l=true↔x.ch=List.replicate 4 false:=by
 rw [zfA]
 constructor
 ·intro h
  refine zm3 false (by rw [x.hch];simp) fun i hi=> ?_
  rw [x.hch] at hi
  have h1:x.g i=false:=by
   cases hg:x.g i with
   | false=>rfl
   | true=>exact absurd (h i hi hg).1 h0
  rw [show x.ch.getD i false=x.g i from rfl,h1,List.getD_eq_getElem?_getD,List.getElem?_replicate]
  split<;>rfl
 ·intro h w hw hg
  unfold Un.g at hg
  rw [h,List.getD_eq_getElem?_getD,List.getElem?_replicate] at hg
  split at hg<;>cases hg
theorem zmV {a b:List Bool} (ha:a.length=4) (hb:b.length=4):eqL false (fun x y:Bool=>x==y) 4 a b=true↔a=b:=zho (fun x y=>by simp) ha hb
theorem zql {a b:List Bool} (ha:a.length=4) (hb:b.length=4) (h:a≠b):eqL false (fun x y:Bool=>x==y) 4 a b=false:=Bool.eq_false_iff.2 fun hh=>h ((zmV ha hb).1 hh)
def zdM (n:Nat) (t:List Un) (l j:Nat):Nat:=if zeJ (ndU n t l j) l=true∧(ndU n t l j).dt=zc4 n t l j then 0 else 9
def zdV (n:Nat) (t:List Un) (l j:Nat):Nat:=if zgw n t l j=true then 0 else 9
def zdz (n:Nat) (t:List Un) (l j:Nat):Nat:=if zbV n (ndU n t l j).nd l j then 17 else 0
theorem zpt (h:zdz n t l j≠0):zbz n t l j=zdz n t l j:=by
 unfold zdz at h⊢
 split at h
 ·next hm=>rw [if_pos hm];exact zq0 hm
 ·exact absurd rfl h
theorem zk9 (h:zdz n t l j=0):¬zbV n (ndU n t l j).nd l j:=by
 unfold zdz at h
 split at h
 ·cases h
 ·assumption
theorem zpP (hf:zdz n t l j=0) (h:zdM n t l j≠0):zbz n t l j=zdM n t l j:=by
 have hm:¬(zeJ (ndU n t l j) l=true∧(ndU n t l j).dt=zc4 n t l j):=fun hh=>h (if_pos hh)
 rw [znG (zk9 hf) (fun hh=>hm ⟨hh.1,hh.2.1⟩),zdM,if_neg hm]
theorem znq (h:zdM n t l j=0):zeJ (ndU n t l j) l=true∧(ndU n t l j).dt=zc4 n t l j:=by
 unfold zdM at h
 split at h
 ·assumption
 ·cases h
theorem zpe (hf:zdz n t l j=0) (h:zdV n t l j≠0):zbz n t l j=zdV n t l j:=by
 have he:¬zgw n t l j=true:=fun hh=>h (if_pos hh)
 rw [znG (zk9 hf) (fun hh=>he hh.2.2),zdV,if_neg he]
theorem zp8 (hf:zdz n t l j=0) (hm:zdM n t l j=0) (h:zdV n t l j=0):zbz n t l j=0:=by
 have he:zgw n t l j=true:=by
  unfold zdV at h
  split at h
  ·assumption
  ·cases h
 exact zoY (zk9 hf) (znq hm).1 (znq hm).2 he
theorem zqC {f:Nat→Nat→Nat} (hk:okK n f (num n l+j)) (h0:l≠0) (hl:l≤hgt n) (hj:j<cnt n l) {w:Nat} (hw:w<prt n l j):f (l-1) (4*j+w)=0:=by
 obtain ⟨h1,h2,h3⟩:=ziC h0 hl hj hw
 refine hk (l-1) (4*j+w) (by omega) h1 ?_
 have h4:=zgf n (l-1)
 rw [show l-1+1=l by omega] at h4
 omega
end
theorem ziY {l:List Un} {i:Nat} {x:Un} {f:Un→Un} (h:i<l.length):(l.set i x).set i (f ((l.set i x).getD i Un.zero))=l.set i (f x):=by
 rw [zbs h,if_pos rfl,List.set_set]
theorem zrr {t:List Un} {b:Nat} {x:Non} {y:Dig} (h:b/4<t.length) {A B:List Un} (hA:A=t.set (b/4) ((t.getD (b/4) Un.zero).setR (b%4) (za8 (t.getD (b/4) Un.zero) (b%4) x y))) (hB:B=A.set (b/4) ((A.getD (b/4) Un.zero).setCh (b%4) true)):B.set (b/4) ((B.getD (b/4) Un.zero).setDt true)=set1 t b x y:=by
 rw [hA,ziY (f:=fun z=>z.setCh (b%4) true) h] at hB
 rw [hB,ziY (f:=fun z=>z.setDt true) h];rfl
theorem zs0 {n b k:Nat} {t A:List Un} (hk:0<k) (h:num n k+idx b k<t.length) (hA:A=t.set (num n k+idx b k) ((t.getD (num n k+idx b k) Un.zero).setE ((ndU n t (k-1) (idx b (k-1))).nd.ix%4) (enU (ndU n t (k-1) (idx b (k-1)))))):A.set (num n k+idx b k) ((A.getD (num n k+idx b k) Un.zero).setDt true)=zdW n b (k-1) t:=by
 obtain ⟨m,rfl⟩:∃m,k=m+1:=⟨k-1,by omega⟩
 rw [hA,ziY (f:=fun z=>z.setDt true) h];rfl
theorem zk4 {n b k:Nat} {t:List Un} (hk:0<k):zdW n b (k-1) (zam n b t (k-1))=zam n b t (k+1-1):=by
 obtain ⟨m,rfl⟩:∃m,k=m+1:=⟨k-1,by omega⟩
 rfl
theorem zoH {n b k:Nat} {t:List Un}:(zdW n b k t).length=t.length:=by unfold zdW;rw [List.length_set]
theorem zc5 {n b:Nat} {t:List Un}:∀{m:Nat},(zam n b t m).length=t.length
 | 0=>rfl
 | m+1=>by rw [show zam n b t (m+1)=zdW n b m (zam n b t m) from rfl,zoH,zc5]
theorem zcz {t:List Un} {b:Nat} {x:Non} {y:Dig}:(set1 t b x y).length=t.length:=by unfold set1;rw [List.length_set]
def zaR {α:Type} (N:Nat) (f g:Nat→α) (k:Nat):List α:=(List.range N).map fun i=>if i<k then f i else g i
theorem zbN {α:Type} {N k:Nat} {f g:Nat→α}:(zaR N f g k).length=N:=by simp [zaR]
theorem zp0 {α:Type} {N k i:Nat} {f g:Nat→α} (d:α) (h:i<N) (hk:k≤i):(zaR N f g k).getD i d=g i:=by
 unfold zaR;rw [zfI _ h,if_neg (by omega)]
theorem zgV {α:Type} {N:Nat} {f g:Nat→α}:zaR N f g N=(List.range N).map f:=by
 unfold zaR;exact List.map_congr_left fun i hi=>if_pos (List.mem_range.1 hi)
theorem zgt {α:Type} {N k:Nat} {f g:Nat→α} (h:k<N):(zaR N f g k).set k (f k)=zaR N f g (k+1):=by
 refine List.ext_getElem (by simp [zaR]) fun i h1 h2=> ?_
 rw [List.getElem_set]
 simp only [zaR,List.getElem_map,List.getElem_range]
 by_cases h3:k=i
 ·subst h3;rw [if_pos rfl,if_pos (Nat.lt_succ_self _)]
 ·rw [if_neg h3]
  by_cases h4:i<k
  ·rw [if_pos h4,if_pos (by omega)]
  ·rw [if_neg h4,if_neg (by omega)]
theorem zoE {α β:Type} (d:α) (h:α→β) (l:List α) {N:Nat} (hN:N=l.length):(List.range N).map (fun i=>h (l.getD i d))=l.map h:=by
 subst hN
 refine List.ext_getElem (by simp) fun i h1 h2=> ?_
 have h3:i<l.length:=by simpa using h2
 simp [List.getD,h3]
theorem zn9 {α:Type} (d:α) {N:Nat} {f:Nat→α} {l:List α} (hN:N=l.length):zaR N f (fun i=>l.getD i d) 0=l:=by
 have:=zoE d id l hN
 rw [List.map_id] at this
 refine Eq.trans ?_ this
 unfold zaR;exact List.map_congr_left fun i _=>if_neg (Nat.not_lt_zero i)
theorem zj2 {α:Type} {N:Nat} {f:Nat→α} {z:α}:zaR N f (fun _=>z) 0=List.replicate N z:=by
 refine List.ext_getElem (by simp [zaR]) fun i h1 h2=> ?_
 simp [zaR]
def slI (z:List Int):Bool:=z.all fun x=>x==0 || x==1
theorem zq4 {z:List Int}:slI z=true↔∀i,z.getD i 0=0∨z.getD i 0=1:=by
 unfold slI
 rw [List.all_eq_true]
 simp only [Bool.or_eq_true,beq_iff_eq]
 constructor
 ·intro h i
  rcases Nat.lt_or_ge i z.length with hi | hi
  ·rw [List.getD_eq_getElem?_getD,List.getElem?_eq_getElem hi];exact h _ (List.getElem_mem hi)
  ·left;rw [List.getD_eq_getElem?_getD,List.getElem?_eq_none hi];rfl
 ·intro h x hx
  obtain ⟨i,hi,rfl⟩:=List.getElem_of_mem hx
  have:=h i
  rwa [List.getD_eq_getElem?_getD,List.getElem?_eq_getElem hi] at this
def zxf (n:Int) (t:List Nod) (z:List Int):Nat:=if zfD n t≠0 then zfD n t else if z.length=t.length∧slI z=true then zeX n (ofT t.length t z) else 1
theorem zk5 {P:Program} {n k:Nat} {σ:List (Nat×Value)} {w:World} {ops:Array Oper} {K:List (Nat×Value)→World→Prop} {α:Type} {f:α→List Value} {sz lo hi:Nat} {l:List α} {cs:List Value} {e:TypeId} (d:Option Tmp) (T T2 ty E b:Nat) {dl dc:Nat} {a2:Option Addr} {sc:Nat}
  (hB:Blk w b cs e) (hS:Ms f sz lo hi w a2 dl sc l) (hfit:cs.length=dl*sz) (h1:∀x,∀u∈f x,u.oneCell'=true) (hp:0<dl)
  (h:∀w',Blk w' b (l.flatMap f) e→Chg (· =b) w w'→K (zaS σ d (.int .i64 ((dl:Nat):Int))) w')
  (hsz:0<sz) (hT:P.underlying T=some (.slice E):=by kernel_rfl) (hE:(P.info? E).map (·.size)=some sz:=by kernel_rfl)
  (he:zcf ops n σ k=some (d,vS (Builtin.copy_ #[T,T2] ty #[.slice (some ⟨b,0,none⟩) dl dc, .slice a2 dl sc])):=by kernel_rfl):zbd P ops n k σ w K:=by
 have h2:=zbj (w:=w) hE
 have hl:(l.flatMap f).length=dl*sz:=by rw [zaz hS.each,hS.len_eq]
 obtain ⟨b2,o2,rfl⟩:=hS.addr hp hsz
 have h3:=run_loadCells_list (P:=P) w ⟨b2,o2,none⟩ (l.flatMap f) (fun j v hj=>hS.sla.load_add hj)
 rw [hl] at h3
 obtain ⟨w',h4,h5,h6⟩:=zcg (P:=P) (l.flatMap f) w b 0 0 cs e hB (by rw [hl];omega) (by
  intro u hu
  obtain ⟨x,_,hx⟩:=List.mem_flatMap.1 hu
  exact h1 x u hx)
 rw [Nat.zero_add,zm _ _ (by rw [hl,hfit])] at h5
 refine zj d _ _ (w':=w') ?_ (h w' h5 h6) he
 have hm:Nat.min dl dl=dl:=Nat.min_self dl
 simp [Builtin.copy_,run_underlying hT,h2,Builtin.lenOf,goInt,Builtin.firstCells,hm,h3,h4]
end Go.Cs
namespace Go.Cs
open Go Go.RowKit
def chW (n:Nat) (c:List Bool) (v j w:Nat):List Bool:=(List.range 4).map fun i=>if i<w then decide (v=0∧4*j+i<n)&&c.getD (4*j+i) false else false
def unW (l:List Rec) (c:List Bool) (s:List Nat) (v j w:Nat):Un:=⟨zaq l (zaL l.length c s) v j,((s.getD (num l.length v+j) 0:Nat):Int),drt c v j,chW l.length c v j w,by simp [chW]⟩
section
variable {l:List Rec} {c:List Bool} {s:List Nat} {v j w:Nat}
end
def za5 (k:Nat):Non:=⟨k%256%4,k%256,by omega,by omega⟩
theorem OkW.pubW {l:List Rec} {c:List Bool} {s:List Nat} (h:OkW l c s):OkW l (Cs.fls l.length) (zdD l.length c s):=OkW.fls h.pub
def zla (y:Nod) (i:Nat):Bool:=(List.range i).any fun q=>(y.rs.get q).st !=0 ||(y.es.get q).st !=0
end Go.Cs
namespace Go.Cs
open Go Go.RowKit
theorem zaQ {L:List Rec} {c:List Bool} {s:List Nat} {n:Nat} (h:OkW L c s) (hn:L.length=n):zbY n (zbz n (zao L c s))=0:=by subst hn;exact zjf h
theorem zsi {L:List Rec} {c:List Bool} {s:List Nat} {n:Nat} (h:OkW L c s) (hn:L.length=n):zeX ((n:Nat):Int) (zao L c s)=0:=by subst hn;exact zoS h
theorem za1 {L:List Rec} {c:List Bool} {s:List Nat} (h:OkW L c s):∀i,i<(zao L c s).length→((zao L c s).getD i Un.zero).sl=0∨((zao L c s).getD i Un.zero).sl=1:=zeg.1 (zkK h)
theorem zoP {L:List Rec} {c:List Bool} {s:List Nat} {n b:Nat} {x:Non} {t:Dig} (h:OkW L c s) (hn:L.length=n) (hb:b<n):zdt n (zao L c s) b x t=zao (L.set b (zaH L c b x t)) (c.set b true) s:=by subst hn;exact znE h hb
theorem znw {L:List Rec} {c:List Bool} {s:List Nat} {n:Nat} (h:OkW L c s) (hn:L.length=n):zba (tot n) (zao L c s)=zao L (fls n) (zdD n c s):=by subst hn;exact zoC h
theorem zjS {L:List Rec} {c:List Bool} {s:List Nat} {n b:Nat} (h:OkW L c s) (hn:L.length=n) (hb:b<n):zaT ((zao L c s).getD (b/4) Un.zero) (b%4)=zbS L c b:=by subst hn;exact zp7 h hb
theorem ztc {L:List Rec} {c:List Bool} {s:List Nat} {n b:Nat} (h:OkW L c s) (hn:L.length=n) (hb:b<n):((zao L c s).getD (b/4) Un.zero).nd.rs.get (b%4)=L.getD b Rec.zero:=by
 subst hn
 have hg:b/4<cnt L.length 0:=zbh hb 0
 have hx:(zao L c s).getD (b/4) Un.zero=zap L c s 0 (b/4):=by
  have:=zc2 (L:=L) (c:=c) (s:=s) (Nat.zero_le _) hg
  unfold ndU at this;rwa [show num L.length 0+b/4=b/4 from Nat.zero_add _] at this
 have hm:b%4<4:=Nat.mod_lt _ (by decide)
 rw [hx]
 show (zaq L (zaL L.length c s) 0 (b/4)).rs.get (b%4)=_
 rw [zaJ,zd1 _ _ _ _ _ hm,if_pos ⟨(za7 hm).2 (show 4*(b/4)+b%4<L.length by omega),rfl⟩,show 4*(b/4)+b%4=b by omega]
theorem ztI {L:List Rec} {s:List Nat} {n:Nat} (h:OkM L s) (hn:L.length=n):ofT (tot n) (zaj L s) (s.map fun (x:Nat)=>(x:Int))=zao L (fls n) s:=by subst hn;exact znJ h
def wL0:List Rec:=List.replicate 5 Rec.zero
def wS0:List Nat:= [1,1,0]
def wR1:Rec:=⟨1,za5 3,mkD 3,by decide⟩
def wL1:List Rec:=wL0.set 4 (zaH wL0 (fls 5) 4 (za5 3) (mkD 3))
def wC1:List Bool:=(fls 5).set 4 true
def wL2:List Rec:=wL1.set 4 (zaH wL1 wC1 4 (za5 4) (mkD 4))
def wC2:List Bool:=wC1.set 4 true
def wS2:List Nat:=zdD 5 wC2 wS0
def wT0:List Un:=zao wL0 (fls 5) wS0
def wT1:List Un:=zao wL1 wC1 wS0
def wT2:List Un:=zao wL2 wC2 wS0
def wT3:List Un:=zao wL2 (fls 5) wS2
theorem wM0:OkM wL0 wS0:=by
 refine ⟨by decide,by decide,fun i hi=> ?_,by decide,fun i=> ?_⟩
 ·have hi:i<5:=hi
  have hz:wL0.getD i Rec.zero=Rec.zero:=by
   unfold wL0
   rw [List.getD_eq_getElem?_getD,List.getElem?_replicate];split<;>rfl
  rw [hz];decide
 ·cases i with
  | zero=>decide
  | succ i=>cases i with
   | zero=>decide
   | succ i=>cases i with
    | zero=>decide
    | succ i=>exact Nat.zero_le _
theorem wO0:OkW wL0 (fls 5) wS0:=OkW.fls wM0
theorem wO1:OkW wL1 wC1 wS0:=wO0.set (b:=4) (by decide)
theorem wO2:OkW wL2 wC2 wS0:=wO1.set (b:=4) (by decide)
theorem wO3:OkW wL2 (fls 5) wS2:=wO2.pubW
theorem wOf:ofT (tot 5) (zaj wL0 wS0) (wS0.map fun (x:Nat)=>(x:Int))=wT0:=ztI wM0 rfl
theorem wG0:zaT (wT0.getD (4/4) Un.zero) (4%4)=0:=(zjS (n:=5) (b:=4) wO0 rfl (by decide)).trans (by kernel_rfl)
theorem wG1:zaT (wT1.getD (4/4) Un.zero) (4%4)=0:=(zjS (n:=5) (b:=4) wO1 rfl (by decide)).trans (by kernel_rfl)
theorem wG3:zaT (wT3.getD (4/4) Un.zero) (4%4)=1:=(zjS (n:=5) (b:=4) wO3 rfl (by decide)).trans (by kernel_rfl)
theorem wE0:zdt 5 wT0 4 (za5 3) (mkD 3)=wT1:=zoP (n:=5) wO0 rfl (by decide)
theorem wE1:zdt 5 wT1 4 (za5 4) (mkD 4)=wT2:=zoP (n:=5) wO1 rfl (by decide)
theorem wE2:zba (tot 5) wT2=wT3:=znw (n:=5) wO2 rfl
theorem wD1:zbv 5 wT1 (tot 5)= [(0,1),(1,0)]:=by kernel_rfl
theorem zna:(wT1.getD (4/4) Un.zero).nd.rs.get (4%4)=wR1:=(ztc (n:=5) (b:=4) wO1 rfl (by decide)).trans (by kernel_rfl)
theorem zuR:zaq wL1 (zaL wL1.length wC1 wS0) 0 1=(Nod.mt 0 1).setR 0 wR1:=by kernel_rfl
theorem zo2:(wT1.getD 2 Un.zero).nd.es.get 1=⟨1,zU (zS ((Nod.mt 0 1).setR 0 wR1)),by decide⟩:=by
 have h1:wT1.getD 2 Un.zero=zap wL1 wC1 wS0 1 0:=zc2 (L:=wL1) (c:=wC1) (s:=wS0) (l:=1) (j:=0) (by decide) (by decide)
 rw [h1,show (zap wL1 wC1 wS0 1 0).nd=zaq wL1 (zaL wL1.length wC1 wS0) 1 0 from rfl,zlb (by decide) (show 1<prt wL1.length 1 0 by decide)]
 unfold zbr
 rw [if_neg (show ¬zaE wL1 (1-1) (4*0+1)=true by decide)]
 have h2:(⟨((zaL wL1.length wC1 wS0).getD (num wL1.length 0+1) 0+1)%2^8,zU (zS (zaq wL1 (zaL wL1.length wC1 wS0) 0 1)),Nat.mod_lt _ (by decide)⟩:Ent)=⟨1,zU (zS ((Nod.mt 0 1).setR 0 wR1)),by decide⟩:=Ent.ext' (by decide) (congrArg (fun z=>zU (zS z)) zuR)
 exact h2
theorem zvL:(wT3.getD 1 Un.zero).sl=((0:Nat):Int):=by
 rw [show wT3.getD 1 Un.zero=zap wL2 (fls 5) wS2 0 1 from zc2 (L:=wL2) (c:=fls 5) (s:=wS2) (l:=0) (j:=1) (by decide) (by decide)];decide
theorem zu3:(wT3.getD 2 Un.zero).sl=((1:Nat):Int):=by
 rw [show wT3.getD 2 Un.zero=zap wL2 (fls 5) wS2 1 0 from zc2 (L:=wL2) (c:=fls 5) (s:=wS2) (l:=1) (j:=0) (by decide) (by decide)];decide
end Go.Cs
namespace Go.Cs
open Go Go.RowKit
theorem OkW.pubN {L:List Rec} {c:List Bool} {s:List Nat} {n:Nat} (h:OkW L c s) (hn:L.length=n):OkW L (Cs.fls n) (zdD n c s):=by subst hn;exact h.pubW
section
variable {L:List Rec} {c:List Bool} {s:List Nat} {n l j:Nat}
theorem zxN (hn:L.length=n) (hl:l≤hgt n) (hj:j<cnt n l):(zao L c s).getD (num n l+j) Un.zero=zap L c s l j:=by subst hn;exact zc2 hl hj
end
section
variable {L:List Rec} {c:List Bool} {s:List Nat} {n i j:Nat} {x y:Non} {t u:Dig}
theorem zpU (hb:j<L.length) (hc:j<c.length):zbS (L.set j (zaH L c j x t)) (c.set j true) i=zbS L c i:=by
 by_cases h:i=j
 ·subst h
  show (if ((L.set i (zaH L c i x t)).getD i Rec.zero).st=0 then 0 else if (c.set i true).getD i false=true then ((L.set i (zaH L c i x t)).getD i Rec.zero).st-1 else 2-((L.set i (zaH L c i x t)).getD i Rec.zero).st)=_
  rw [zbs hb,if_pos rfl,zbs hc,if_pos rfl]
  rw [if_neg (show ¬(zaH L c i x t).st=0 from Nat.succ_ne_zero _),if_pos rfl];rfl
 ·unfold zbS
  rw [zbs hb,if_neg h,zbs hc,if_neg h]
end
structure ZU where
 nd:Un
 bz:Int
 ot:Nat
 bk:Int
 hot:ot<256
def ZU.zero:ZU:=⟨Un.zero,0,0,0,by decide⟩
def zuC (x:ZU):List Value:=unC x.nd++ [.int .i64 x.bz, .int .u8 ((x.ot:Nat):Int), .int .i64 x.bk]
@[simp] theorem zyu (x:ZU):(zuC x).length=283:=by simp [zuC]
def zxP (n:Int) (t:List Un) (b:Int):Nat:=if zeX n t≠0 then zeX n t else if 0≤b∧b<n then 0 else 1
end Go.Cs
namespace Go.Cs
open Go Go.RowKit
def kL0:List Rec:=List.replicate 65 Rec.zero
def kS0:List Nat:=List.replicate 25 0
theorem kM0:OkM kL0 kS0:=by
 refine ⟨by decide,by decide,fun i hi=> ?_,by decide,fun i=> ?_⟩
 ·have hz:kL0.getD i Rec.zero=Rec.zero:=by
   unfold kL0
   rw [List.getD_eq_getElem?_getD,List.getElem?_replicate];split<;>rfl
  rw [hz];decide
 ·unfold kS0
  rw [List.getD_eq_getElem?_getD,List.getElem?_replicate];split<;>decide
theorem kO0:OkW kL0 (fls 65) kS0:=OkW.fls kM0
theorem kOf:ofT (tot 65) (zaj kL0 kS0) (kS0.map fun (x:Nat)=>(x:Int))=zao kL0 (fls 65) kS0:=ztI kM0 rfl
def kC (m:Nat):List Bool:=(List.range 65).map fun i=>decide (i%8=0∧i<8*m)
theorem zx5 (m:Nat):(kC m).length=65:=by simp [kC]
theorem zx1:kC 0=fls 65:=by
 refine List.ext_getElem (by rw [zx5];exact (List.length_replicate).symm) fun i h1 h2=> ?_
 simp only [kC,fls,List.getElem_map,List.getElem_range,List.getElem_replicate]
 exact decide_eq_false (by omega)
theorem zxY {m:Nat} (h:m<9):(kC m).set (8*m) true=kC (m+1):=by
 refine List.ext_getElem (by simp [kC]) fun i h1 h2=> ?_
 have hi:i<65:=by simpa [kC] using h2
 rw [List.getElem_set]
 by_cases h3:8*m=i
 ·rw [if_pos h3];simp [kC];omega
 ·rw [if_neg h3];simp only [kC,List.getElem_map,List.getElem_range]
  exact decide_eq_decide.2 (by omega)
structure KI (r m:Nat) (L:List Rec) (s:List Nat):Prop where
 ok:OkW L (kC m) s
 len:L.length=65
 tg:∀i,i<65→i%8=0→8*m≤i→zbS L (kC m) i=r%2
 st:∀i,i<65→i%8=0→i<8*m→(L.getD i Rec.zero).st=r%2+1
 s24:s.getD 24 0=r%2
 s1:s.getD 1 0=0
 s0:s.getD 0 0=r%2
section
variable {r m:Nat} {L:List Rec} {s:List Nat}
theorem kI0:KI 0 0 kL0 kS0:=by
 refine ⟨by rw [zx1];exact kO0,rfl,fun i hi h1 h2=> ?_,fun i _ _ h=>absurd h (by omega),by decide,by decide,by decide⟩
 have hz:kL0.getD i Rec.zero=Rec.zero:=by
  unfold kL0
  rw [List.getD_eq_getElem?_getD,List.getElem?_replicate];split<;>rfl
 unfold zbS;rw [hz];rfl
theorem KI.step {x:Non} {t:Dig} (h:KI r m L s) (hm:m<9):KI r (m+1) (L.set (8*m) (zaH L (kC m) (8*m) x t)) s:=by
 have hb:8*m<L.length:=by rw [h.len];omega
 have hc:8*m<(kC m).length:=by rw [zx5];omega
 have htg:=h.tg (8*m) (by omega) (by omega) (Nat.le_refl _)
 refine ⟨by rw [←zxY hm];exact h.ok.set hb,by rw [List.length_set];exact h.len,fun i hi h1 h2=> ?_,fun i hi h1 h2=> ?_,h.s24,h.s1,h.s0⟩
 ·rw [←zxY hm,zpU hb hc];exact h.tg i hi h1 (by omega)
 ·rw [zbs hb]
  by_cases h3:i=8*m
  ·rw [if_pos h3];show zbS L (kC m) (8*m)+1=_;rw [htg]
  ·rw [if_neg h3];exact h.st i hi h1 (by omega)
theorem KI.tree {x:Non} {t:Dig} (h:KI r m L s) (hm:m<9):zdt 65 (zao L (kC m) s) (8*m) x t=zao (L.set (8*m) (zaH L (kC m) (8*m) x t)) (kC (m+1)) s:=by
 rw [←zxY hm];exact zoP h.ok h.len (by omega)
theorem KI.tgt (h:KI r m L s) (hm:m<9):zaT ((zao L (kC m) s).getD (8*m/4) Un.zero) (8*m%4)=r%2:=(zjS h.ok h.len (by omega)).trans (h.tg _ (by omega) (by omega) (Nat.le_refl _))
theorem KI.pub (h:KI r 9 L s):zba (tot 65) (zao L (kC 9) s)=zao L (kC 0) (zdD 65 (kC 9) s):=by rw [zx1];exact znw h.ok h.len
theorem zyg:(zdD 65 (kC 9) s).getD 24 0=1-s.getD 24 0:=zh2 (n:=65) (l:=3) (j:=0) (by decide) (by decide)
theorem zym:(zdD 65 (kC 9) s).getD 0 0=1-s.getD 0 0:=by
 have h:=zh2 (n:=65) (l:=0) (j:=0) (c:=kC 9) (s:=s) (by decide) (by decide)
 rw [if_neg (by decide)] at h
 refine h.trans ?_
 unfold zdY;rw [if_pos (by decide)];rfl
theorem zyo:(zdD 65 (kC 9) s).getD 1 0=s.getD 1 0:=by
 have h:=zh2 (n:=65) (l:=0) (j:=1) (c:=kC 9) (s:=s) (by decide) (by decide)
 rw [if_neg (by decide)] at h
 refine h.trans ?_
 unfold zdY;rw [if_neg (by decide)];rfl
theorem KI.done (h:KI r 9 L s):KI (r+1) 0 L (zdD 65 (kC 9) s):=by
 have ho:=h.ok.pubN h.len
 refine ⟨by rw [zx1];exact ho,h.len,fun i hi h1 h2=> ?_,fun i _ _ h3=>absurd h3 (by omega), ?_, ?_, ?_⟩
 ·have hs:=h.st i hi h1 (by omega)
  rw [zx1];unfold zbS
  rw [hs,if_neg (Nat.succ_ne_zero _),zha,if_neg (by decide)];omega
 ·rw [zyg,h.s24];omega
 ·rw [zyo,h.s1]
 ·rw [zym,h.s0];omega
theorem kSl {k:Nat} (hl:L.length=65) (hk:k<25):((zao L (kC 0) s).getD k Un.zero).sl=((s.getD k 0:Nat):Int):=by
 obtain ⟨l,j,h1,h2,_,rfl⟩:=zkR (n:=65) (k:=k) (by rw [show tot 65=25 from by decide];exact hk)
 rw [zxN hl h1 h2]
 show (((s.getD (num L.length l+j) 0:Nat):Int))=_
 rw [hl]
def zx0 (n:Nat) (c:List Bool):Nat→List (Nat×Nat)
 | 0=> []
 | k+1=>if drt c (lvK n k) (k-num n (lvK n k))=true then zx0 n c k++ [(lvK n k,k-num n (lvK n k))] else zx0 n c k
theorem zxR {n:Nat} {c:List Bool} (hn:L.length=n):∀{k:Nat},k≤tot n→zbv n (zao L c s) k=zx0 n c k
 | 0,_=>rfl
 | k+1,hk=>by
  obtain ⟨l,j,h1,h2,h3,rfl⟩:=zkR (n:=n) (k:=k) hk
  have ih:=zxR hn (c:=c) (k:=num n l+j) (Nat.le_of_lt hk)
  have hd:((zao L c s).getD (num n l+j) Un.zero).dt=drt c l j:=by rw [zxN hn h1 h2];rfl
  rw [zx0,h3,Nat.add_sub_cancel_left]
  by_cases he:drt c l j=true
  ·rw [if_pos he,zjT (hd.trans he),ih,h3,Nat.add_sub_cancel_left]
  ·rw [if_neg he,zrS (hd.trans (Bool.eq_false_iff.2 he)),ih]
def kD:List (Nat×Nat):= [(0,0),(0,2),(0,4),(0,6),(0,8),(0,10),(0,12),(0,14),(0,16),(1,0),(1,1),(1,2),(1,3),(1,4),(2,0),(2,1),(3,0)]
theorem zyL (h:KI r 9 L s):zbv 65 (zao L (kC 9) s) (tot 65)=kD:=(zxR h.len (Nat.le_refl _)).trans (by kernel_rfl)
end
end Go.Cs
