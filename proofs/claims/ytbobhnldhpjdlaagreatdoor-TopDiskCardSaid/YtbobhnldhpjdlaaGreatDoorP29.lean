/- Lemmas and walks: what each function does, by its own code. No condition beyond those of each statement. -/
import Derived.Test.YtbobhnldhpjdlaaGreatDoorP1
set_option linter.all false
set_option linter.unusedVariables false
namespace Go.Cs
open Go Go.RowKit
def Je (v i:Nat):Nat→Nat
 | 0=>99/2^i
 | k+1=>Je v i k+v/2^((i+(4+k))%8)
def Em (v:Nat):Nat→Nat
 | 0=>0
 | t+1=>2*Em v t+Je v (7-t) 5%2
theorem yA (v:Nat):∀t,Em v t<2^t
 | 0=>by simp [Em]
 | t+1=>by have:=yA v t;simp only [Em,Nat.pow_succ];omega
def Jg (v:UInt8):UInt8:=UInt8.ofNat (Em v.toNat 8)
def Ia (x:Nat):Nat:=if 255<2*x then (2*x)^^^283 else 2*x
def n8:Nat→UInt8
 | 0=>1
 | k+1=>UInt8.ofNat (Ia (n8 k).toNat)^^^n8 k
def B2 (k:Nat):List UInt8:=(List.range 256).map fun j=>if j≤k then n8 j else 0
def GR:Nat→List UInt8
 | 0=>List.replicate 256 0
 | k+1=>(GR k).set (n8 k).toNat (Jg (n8 (255-k)))
theorem nI:∀k,(GR k).length=256
 | 0=>List.length_replicate ..
 | k+1=>by simp [GR,nI k]
def sF:List UInt8:=(GR 255).set 0 (Jg 0)
@[simp] theorem sc:sF.length=256:=by simp [sF,nI]
@[simp] theorem M9 (k:Nat):(B2 k).length=256:=by simp [B2]
theorem s8 {k j:Nat} (hj:j≤k) (h:j<256):(B2 k).getD j default=n8 j:=by
 simp [B2,List.getD_eq_getElem?_getD,h,hj]
theorem yF:(List.replicate 256 (0:UInt8)).set 0 1=B2 0:=by decide+kernel
theorem vF {k:Nat} {x:UInt8} (h:k+1<256) (hx:x=n8 (k+1)):(B2 k).set (k+1) x=B2 (k+1):=by
 subst hx
 apply List.ext_getElem (by simp)
 intro j h1 h2
 simp only [B2,List.getElem_set,List.getElem_map,List.getElem_range]
 by_cases e:k+1=j
 ·subst e;simp
 ·rw [if_neg e]
  by_cases h3:j≤k
  ·rw [if_pos h3,if_pos (by omega)]
  ·rw [if_neg h3,if_neg (by omega)]
theorem ME:∀a:Fin 512,IntKind.i64.wrap ((BitVec.ofInt IntKind.i64.bits ((a.val:Nat):Int)^^^BitVec.ofInt IntKind.i64.bits ((283:Nat):Int)).toNat:Int)=((a.val^^^283:Nat):Int):=by decide+kernel
def tw:Nat→UInt8→Nat→UInt8→UInt8
 | 0,_,_,o=>o
 | f+1,a,k,o=>if k=0 then o else tw f (tI a a) (k/2) (if k%2=1 then tI o a else o)
theorem t5:∀(f k:Nat) (a o:UInt8),k<2^f→Al a k o=tw f a k o
 | 0,k,a,o,h=>by
  have h0:k=0:=by simpa using h
  subst h0
  rw [Al,if_pos rfl];rfl
 | f+1,k,a,o,h=>by
  rw [Al,tw]
  by_cases h0:k=0
  ·rw [if_pos h0,if_pos h0]
  ·rw [if_neg h0,if_neg h0,t5 f (k/2) _ _ (by rw [Nat.pow_succ] at h;omega)]
def I3 (a:UInt8):UInt8:=Gj (if a=0 then 0 else tw 8 a 254 1) 4^^^99
theorem Iu (a:UInt8):fU a=I3 a:=by
 unfold fU I3 rj
 by_cases h:a=0
 ·rw [if_pos h,if_pos h,if_neg (by decide)]
 ·rw [if_neg h,if_neg h,t5 8 (254%255) _ _ (by decide)]
theorem B5:(sF==(List.range 256).map fun i=>I3 (UInt8.ofNat i))=true:=by decide+kernel
theorem Cr (x:UInt8):sF.getD x.toNat default=fU x:=by
 have h:=eq_of_beq B5
 have hx:=x.toNat_lt
 rw [h,Iu,List.getD_eq_getElem?_getD,List.getElem?_map,List.getElem?_range (by simpa using hx)]
 simp
theorem kH {b w:List UInt8} {i r:Nat} (h:i%4≠r):(qH b w (i+1)).getD r default=(qH b w i).getD r default:=by
 simp only [qH,List.getD_eq_getElem?_getD,List.getElem?_set_ne h]
theorem vp {b w:List UInt8} {i:Nat} (hw:w.length=4):(qH b w (i+1)).getD (i%4) default=(qH b w i).getD (i%4) default^^^b.getD i default:=by
 have h:i%4<(qH b w i).length:=by rw [qY,hw];omega
 simp only [qH,List.getD_eq_getElem?_getD,List.getElem?_set_self h,Option.getD_some]
theorem m6 {b w:List UInt8} {j:Nat} (h:j<16):(Df b w).getD j default=(qH b w (j+1)).getD (j%4) default:=by
 simp [Df,List.getD_eq_getElem?_getD,h]
theorem ul {b w:List UInt8}:∀{i j:Nat},i≤j→j<4→(qH b w i).getD j default=w.getD j default
 | 0,j,_,_=>rfl
 | i+1,j,h1,h2=>by rw [kH (by omega)];exact ul (by omega) h2
theorem DK {b w:List UInt8} {j:Nat} (hw:w.length=4) (h:j<4):(Df b w).getD j default=w.getD j default^^^b.getD j default:=by
 rw [m6 (by omega),vp hw,show j%4=j by omega,ul (Nat.le_refl _) h]
theorem Dr {b w:List UInt8} {j:Nat} (hw:w.length=4) (h:j+4<16):(Df b w).getD (j+4) default=(Df b w).getD j default^^^b.getD (j+4) default:=by
 rw [m6 h,m6 (j:=j) (by omega),vp hw,kH (i:=j+3) (by omega),kH (i:=j+2) (by omega),kH (i:=j+1) (by omega),show (j+4)%4=j%4 by omega]
def kb (key:B16) (i k:Nat):UInt8:=(dT key (i/4)).l.getD (4*(i%4)+k) default
theorem JE (b:List UInt8) (k:Nat):(tC b k).length=4:=rfl
theorem Nl {key:B16} {q k:Nat} (hk:k<4):kb key (4*(q+1)) k=(tC (dT key q).l q).getD k default^^^kb key (4*q) k:=by
 unfold kb
 rw [show 4*(q+1)/4=q+1 by omega,show 4*(q+1)%4=0 by omega,show 4*q/4=q by omega,show 4*q%4=0 by omega]
 simp only [Nat.mul_zero,Nat.zero_add]
 exact DK (JE _ _) hk
theorem Nt {key:B16} {i k:Nat} (h4:4≤i) (hm:i%4≠0) (hk:k<4):kb key i k=kb key (i-4) k^^^kb key (i-1) k:=by
 unfold kb
 obtain ⟨q,hq⟩:∃q,i/4=q+1:=⟨i/4-1,by omega⟩
 rw [show (i-4)/4=q by omega,show (i-4)%4=i%4 by omega,show (i-1)/4=q+1 by omega,show (i-1)%4=i%4-1 by omega,hq,UInt8.xor_comm]
 have h:=Dr (b:=(dT key q).l) (w:=tC (dT key q).l q) (j:=4*(i%4-1)+k) (JE _ _) (by omega)
 rw [show 4*(i%4-1)+k+4=4*(i%4)+k by omega] at h
 exact h
theorem Nm {key:B16} {i k:Nat} (h:i<4):kb key i k=key.l.getD (4*i+k) default:=by
 unfold kb
 rw [show i/4=0 by omega,show i%4=i by omega];rfl
theorem JJ {key:B16} {i k:Nat} (h4:4≤i) (hm:i%4=0) (hk:k<4):kb key (i-4) k^^^ [fU (kb key (i-1) 1)^^^rj 2 ((i-1)/4),fU (kb key (i-1) 2),fU (kb key (i-1) 3),fU (kb key (i-1) 0)].getD k default=kb key i k:=by
 obtain ⟨q,rfl⟩:∃q,i=4*(q+1):=⟨i/4-1,by omega⟩
 rw [Nl hk,show 4*(q+1)-4=4*q by omega,UInt8.xor_comm]
 congr 1
 have e:∀m,kb key (4*(q+1)-1) m=(dT key q).l.getD (12+m) default:=fun m=>by
  unfold kb
  rw [show (4*(q+1)-1)/4=q by omega,show 4*((4*(q+1)-1)%4)=12 by omega]
 rw [e,e,e,e,show (4*(q+1)-1)/4=q by omega]
 rfl
theorem JP {key:B16} {i k:Nat} (h4:4≤i) (hm:i%4≠0) (hk:k<4):kb key (i-4) k^^^ [kb key (i-1) 0,kb key (i-1) 1,kb key (i-1) 2,kb key (i-1) 3].getD k default=kb key i k:=by
 rw [Nt h4 hm hk]
 congr 1
 rcases (by omega:k=0∨k=1∨k=2∨k=3) with rfl | rfl | rfl | rfl<;>rfl
def mo (key:B16) (m:Nat):List UInt8:=(List.range 176).map fun j=>if j<m then kb key (j/4) (j%4) else 0
@[simp] theorem iG (key:B16) (m:Nat):(mo key m).length=176:=by simp [mo]
theorem BW (key:B16):mo key 0=List.replicate 176 0:=by
 apply List.ext_getElem (by rw [iG,List.length_replicate])
 intro j h1 h2
 simp only [mo,List.getElem_map,List.getElem_range,List.getElem_replicate,Nat.not_lt_zero,if_false]
theorem nA {key:B16} {m:Nat} {x:UInt8} (h:m<176) (hx:x=kb key (m/4) (m%4)):(mo key m).set m x=mo key (m+1):=by
 subst hx
 apply List.ext_getElem (by simp)
 intro j h1 h2
 simp only [mo,List.getElem_set,List.getElem_map,List.getElem_range]
 by_cases e:m=j
 ·subst e;simp
 ·rw [if_neg e]
  by_cases h3:j<m
  ·rw [if_pos h3,if_pos (by omega)]
  ·rw [if_neg h3,if_neg (by omega)]
theorem jH {key:B16} {m i k:Nat} (h:4*i+k<m) (hk:k<4) (h2:4*i+k<176):(mo key m).getD (4*i+k) default=kb key i k:=by
 simp [mo,List.getD_eq_getElem?_getD,h2,h,show (4*i+k)/4=i by omega,show (4*i+k)%4=k by omega]
def lT (a:UInt8):UInt8:=if 127<a.toNat then a<<<1^^^27 else a<<<1
def Ny (s:List UInt8):List UInt8:=(List.range 16).map fun j=>s.getD (4*(j%4)+j/4) default
@[simp] theorem Nd (s:List UInt8):(Ny s).length=16:=by simp [Ny]
def Nz (s:List UInt8) (i:Nat):List UInt8:=(List.range 16).map fun j=>if 4*(j%4)+j/4<i then s.getD (4*(j%4)+j/4) default else 0
@[simp] theorem Ng (s:List UInt8) (i:Nat):(Nz s i).length=16:=by simp [Nz]
def Nx (m:List UInt8) (t:Nat):List UInt8:=(List.range 16).map fun j=>if j<t then fU (m.getD (4*(j/4)+(j%4+j/4)%4) default) else 0
@[simp] theorem Na (m:List UInt8) (t:Nat):(Nx m t).length=16:=by simp [Nx]
def Nr (rdn:Nat) (x:List UInt8) (j:Nat):UInt8:=
 if rdn<10 then
  (if j/4=0 then lT (x.getD (j%4) default)^^^lT (x.getD (4+j%4) default)^^^x.getD (4+j%4) default^^^x.getD (8+j%4) default^^^x.getD (12+j%4) default
  else if j/4=1 then x.getD (j%4) default^^^lT (x.getD (4+j%4) default)^^^lT (x.getD (8+j%4) default)^^^x.getD (8+j%4) default^^^x.getD (12+j%4) default
  else if j/4=2 then x.getD (j%4) default^^^x.getD (4+j%4) default^^^lT (x.getD (8+j%4) default)^^^lT (x.getD (12+j%4) default)^^^x.getD (12+j%4) default
  else lT (x.getD (j%4) default)^^^x.getD (j%4) default^^^x.getD (4+j%4) default^^^x.getD (8+j%4) default^^^lT (x.getD (12+j%4) default))
 else x.getD j default
def NA (rdn:Nat) (x:List UInt8) (c:Nat):List UInt8:=(List.range 16).map fun j=>if j%4<c then Nr rdn x j else x.getD j default
@[simp] theorem M8 (rdn:Nat) (x:List UInt8) (c:Nat):(NA rdn x c).length=16:=by simp [NA]
end Go.Cs
namespace Go.Cs
open Go Go.RowKit
def sQ (x:UInt8):List Nat:=(List.range 8).map fun i=>x.toNat/2^i%2
@[simp] theorem ui (x:UInt8):(sQ x).length=8:=by simp [sQ]
theorem y1 (x:UInt8) (i:Nat):(sQ x).getD i default≤1:=by
 simp only [sQ,List.getD_eq_getElem?_getD,List.getElem?_map]
 by_cases h:i<8
 ·rw [List.getElem?_range h];simp only [Option.map_some,Option.getD_some];omega
 ·rw [List.getElem?_eq_none (by simpa using h)];exact Nat.zero_le 1
def xN (x y:List Nat) (i:Nat) (p:List Nat):Nat→List Nat
 | 0=>p
 | k+1=>(xN x y i p k).set (i+k) (((xN x y i p k).getD (i+k) default+x.getD i default*y.getD k default)%2)
def uY (x y:List Nat):Nat→List Nat
 | 0=>List.replicate 15 0
 | i+1=>xN x y i (uY x y i) 8
def mK (p:List Nat) (i:Nat):List Nat:=p.set i (1-p.getD i default)
def mI (p:List Nat):Nat→List Nat
 | 0=>p
 | t+1=>if (mI p t).getD (14-t) default=1 then mK (mK (mK (mK (mI p t) (14-t-4)) (14-t-5)) (14-t-7)) (14-t-8) else mI p t
def xG (p:List Nat):Nat→Nat
 | 0=>0
 | t+1=>2*xG p t+p.getD (7-t) default
def z8 (a b:UInt8):UInt8:=UInt8.ofNat (xG (mI (uY (sQ a) (sQ b) 8) 7) 8)
def sY (p:List Nat):Prop:=∀i,p.getD i default≤1
theorem sY.set {p:List Nat} (h:sY p) {i v:Nat} (hv:v≤1):sY (p.set i v):=fun j=>by
 simp only [List.getD_eq_getElem?_getD]
 by_cases e:i=j
 ·subst e
  by_cases hl:i<p.length
  ·rw [List.getElem?_set_self hl];exact hv
  ·rw [List.getElem?_eq_none (by simpa using hl)];exact Nat.zero_le 1
 ·rw [List.getElem?_set_ne e];have:=h j;rwa [List.getD_eq_getElem?_getD] at this
theorem sY.fl {p:List Nat} (h:sY p) (i:Nat):sY (mK p i):=h.set (by omega)
theorem sY.zero (n:Nat):sY (List.replicate n 0):=fun i=>by
 simp only [List.getD_eq_getElem?_getD,List.getElem?_replicate];split<;>exact Nat.zero_le 1
theorem om (x y:List Nat) (i:Nat) (p:List Nat):∀k,(xN x y i p k).length=p.length
 | 0=>rfl
 | k+1=>by simp [xN,om x y i p k]
theorem A7 {x y:List Nat} {i:Nat} {p:List Nat} (h:sY p):∀k,sY (xN x y i p k)
 | 0=>h
 | k+1=>(A7 h k).set (by omega)
theorem oa (x y:List Nat):∀i,(uY x y i).length=15
 | 0=>List.length_replicate ..
 | i+1=>by rw [uY,om,oa x y i]
theorem yr (x y:List Nat):∀i,sY (uY x y i)
 | 0=>sY.zero 15
 | i+1=>A7 (yr x y i) 8
theorem kS (p:List Nat) (i:Nat):(mK p i).length=p.length:=by simp [mK]
theorem uh (p:List Nat):∀t,(mI p t).length=p.length
 | 0=>rfl
 | t+1=>by rw [mI];split<;>simp [kS,uh p t]
theorem ym {p:List Nat} (h:sY p):∀t,sY (mI p t)
 | 0=>h
 | t+1=>by rw [mI];split<;>first | exact ((((ym h t).fl _).fl _).fl _).fl _ | exact ym h t
theorem AI {p:List Nat} (h:sY p):∀t,xG p t<2^t
 | 0=>by simp [xG]
 | t+1=>by have:=AI h t;have:=h (7-t);simp only [xG,Nat.pow_succ];omega
theorem Gn:((List.range 11).all fun k=>z8 (tw 8 2 k 1) 2==tw 8 2 (k+1) 1)=true:=by decide+kernel
theorem zg {k:Nat} (h:k<255):rj 2 k=tw 8 2 k 1:=by
 unfold rj
 rw [if_neg (by decide),Nat.mod_eq_of_lt h,t5 8 k _ _ (by omega)]
theorem An {k:Nat} (h:k<11):z8 (rj 2 k) 2=rj 2 (k+1):=by
 rw [zg (by omega),zg (by omega)]
 exact eq_of_beq (List.all_eq_true.1 Gn k (List.mem_range.2 h))
theorem Mp:rj 2 0=1:=by rw [zg (by decide)];rfl
end Go.Cs
