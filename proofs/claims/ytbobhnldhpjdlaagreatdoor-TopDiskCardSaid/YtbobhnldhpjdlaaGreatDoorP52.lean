/- Lemmas and walks: what each function does, by its own code. No condition beyond those of each statement. -/
import Derived.Test.YtbobhnldhpjdlaaGreatDoorP1
import Derived.ProofKit
import Derived.OpenShut
import Derived.ChangeOld
import Derived.Deep.Slices
import Derived.LaidMore
import Derived.Stop.Joined
set_option linter.all false
set_option linter.unusedVariables false
namespace Go.Cs
open Go Go.ChangeShapes Go.WideShapes Go.ChangeAt Go.RowKit
section
variable {H:Type} {enc:TypeId×Value→H} {P:Program} {W:World} {base:Nat} {sp:Nat→Bool} {held:Bool}
def Rd (enc:TypeId×Value→H) (P:Program) (W:World) (base:Nat) (sp:Nat→Bool) (held:Bool) (t:TypeId) (cs:List Value):Prop:=∃fuel r,DataW.trod enc P W base sp held fuel t cs=some r
theorem f8 {α β:Type} {f:α→Option β}:∀{xs:List α} {ys:List β},xs.mapM f=some ys→∀x∈xs,∃y,f x=some y
 | [],_,_,x,hx=>by simp at hx
 | a::xs,ys,h,x,hx=>by
  simp only [List.mapM_cons,Option.bind_eq_bind,Option.bind_eq_some_iff] at h
  obtain ⟨y,hy,zs,hz,_⟩:=h
  rcases List.mem_cons.1 hx with rfl | hx
  ·exact ⟨y,hy⟩
  ·exact f8 hz x hx
theorem tu {t:TypeId} {k:IntKind} {cs:List Value} (h:Rd enc P W base sp held t cs) (ht:P.underlying t=some (.int k)):∃n,cs= [.int k n]∧(Lit.int k n).wf=true:=by
 obtain ⟨fuel,r,hf⟩:=h
 obtain ⟨n,h1,_,h3⟩:=DataW.trod_int ht hf
 exact ⟨n,h1,h3⟩
theorem xM {t:TypeId} {cs:List Value} {x:Bool×TypeId×Nat} {xs:List (Bool×TypeId×Nat)} (h:Rd enc P W base sp held t cs) (hF:bj P t=x::xs):
  cs.length=P.cellsOf t∧∀y∈x::xs,Rd enc P W base sp held y.2.1 ((cs.drop y.2.2).take (P.cellsOf y.2.1)):=by
 obtain ⟨fuel,r,hf⟩:=h
 have hu:=ci ⟨x,xs,hF⟩
 cases fuel with
 | zero=>simp [DataW.trod] at hf
 | succ fuel=>
  rw [DataW.trod.eq_def] at hf
  simp only [hu] at hf
  split at hf
  ·next hl=>
   refine ⟨hl,fun y hy=> ?_⟩
   simp only [Option.map_eq_some_iff] at hf
   obtain ⟨zs,hz,_⟩:=hf
   rw [←hF,bj,List.mem_map] at hy
   obtain ⟨f,hf1,rfl⟩:=hy
   obtain ⟨z,hz2⟩:=f8 hz f hf1
   exact ⟨fuel,z,hz2⟩
  ·cases hf
theorem mh {t e:TypeId} {n:Nat} {cs:List Value} (h:Rd enc P W base sp held t cs) (hu:P.underlying t=some (.array n e)):
  cs.length=P.cellsOf t∧∀i,i<n→Rd enc P W base sp held e ((cs.drop (i*P.cellsOf e)).take (P.cellsOf e)):=by
 obtain ⟨fuel,r,hf⟩:=h
 cases fuel with
 | zero=>simp [DataW.trod] at hf
 | succ fuel=>
  rw [DataW.trod.eq_def] at hf
  simp only [hu] at hf
  split at hf
  ·next hl=>
   refine ⟨hl,fun i hi=> ?_⟩
   simp only [Option.map_eq_some_iff] at hf
   obtain ⟨zs,hz,_⟩:=hf
   obtain ⟨z,hz2⟩:=f8 hz i (List.mem_range.2 hi)
   exact ⟨fuel,z,hz2⟩
  ·cases hf
theorem m4 {t:TypeId} {k:IntKind} {cs:List Value} (h:Rd enc P W base sp held t cs) (ht:P.underlying t=some (.int k)) (h0:∀n,(Lit.int k n).wf=true→0≤n∧n<2^k.bits):∃n:Nat,cs= [.int k (n:Int)]∧n<2^k.bits:=by
 obtain ⟨n,h1,h2⟩:=tu h ht
 obtain ⟨h3,h4⟩:=h0 n h2
 obtain ⟨m,rfl⟩:=Int.eq_ofNat_of_zero_le h3
 exact ⟨m,h1,by exact_mod_cast h4⟩
theorem im {α:Type} (cs:List α) (a b:Nat):(cs.drop a).take b++cs.drop (a+b)=cs.drop a:=by
 rw [←List.drop_drop,List.take_append_drop]
theorem w8 (n:Int) (h:(Lit.int .u8 n).wf=true):0≤n∧n<2^IntKind.u8.bits:=by have:=bounds_u8 h;exact ⟨by omega,by show n<2^8;omega⟩
end
end Go.Cs
namespace Go.Cs
open Go Go.ChangeShapes Go.WideShapes Go.ChangeAt Go.RowKit
theorem kJ {α:Type} {f:α→List Value} {sz:Nat} (hf:∀x,(f x).length=sz) (d:α):∀(l:List α) (k:Nat),0<sz→(l.flatMap f)[k]? =if k<l.length*sz then (f (l.getD (k/sz) d))[k%sz]? else none
 | [],k,hz=>by simp
 | x::l,k,hz=>by
  rw [List.flatMap_cons]
  rcases Nat.lt_or_ge k sz with h | h
  ·rw [List.getElem?_append_left (by rw [hf];exact h),Nat.div_eq_of_lt h,Nat.mod_eq_of_lt h,if_pos]
   ·simp
   ·rw [List.length_cons,Nat.add_mul,Nat.one_mul];omega
  ·rw [List.getElem?_append_right (by rw [hf];exact h),hf,kJ hf d l (k-sz) hz]
   have e1:k/sz=(k-sz)/sz+1:=by rw [←Nat.add_div_right _ hz,Nat.sub_add_cancel h]
   have e2:k%sz=(k-sz)%sz:=by rw [←Nat.mod_eq_sub_mod h]
   rw [e1,e2,List.getD_cons_succ,List.length_cons,Nat.add_mul,Nat.one_mul]
   by_cases h2:k<l.length*sz+sz
   ·rw [if_pos (by omega),if_pos h2]
   ·rw [if_neg (by omega),if_neg h2]
section
variable {H:Type} {enc:TypeId×Value→H} {P:Program} {W:World} {base:Nat} {sp:Nat→Bool} {held:Bool}
theorem zO {α:Type} {f:α→List Value} {t e:TypeId} {sz:Nat} {cs:List Value} (hx:∀us,Rd enc P W base sp held e us→∃x,us=f x) (hf:∀x,(f x).length=sz) (h:Rd enc P W base sp held t cs) (hu:P.underlying t=some (.slice e)) (he:P.cellsOf e=sz) (hz:0<sz):
  ∃a len cap l,cs= [.slice a len cap]∧Ms f sz 0 W.heap.size W a len cap l:=by
 obtain ⟨fuel,r,hr⟩:=h
 rcases Go.Deep.open_slice hu hr with ⟨rfl,_⟩|⟨a,len,cap,m,n,D,Pl,rfl,hb,hl,hm,hmm,_,hi⟩
 ·exact ⟨none,0,0, [],rfl,Ms.nil f _ _ _ hf⟩
 ·have hlm:len≤m:=by subst hmm;split<;>omega
  rw [he] at hi
  rcases Nat.eq_zero_or_pos len with h0 | h0
  ·subst h0
   exact ⟨some a,0,cap, [],rfl,⟨⟨hl,hm, .inl rfl⟩,rfl,hf⟩⟩
  ·have one:∀i,i<len→∃x,W.cells? base (a.add (i*sz)) sz=some (f x):=fun i hlt=>by
    obtain ⟨cs',h1,h2⟩:=hi i (by omega)
    obtain ⟨x,rfl⟩:=hx cs' ⟨n,_,h2⟩
    exact ⟨x,h1⟩
   obtain ⟨x0,hx0⟩:=one 0 h0
   haveI:Inhabited α:=⟨x0⟩
   obtain ⟨g,hg⟩:=Go.Deep.choose_lt one
   have hsp:a.spot=none∧a.block<W.heap.size:=by
    have h3:=(World.cells?_some hx0).2.2 0 hz
    rw [Nat.zero_mul] at h3
    have e0:(a.add 0).add 0=a:=by simp [Addr.add]
    rw [e0,List.getElem?_eq_getElem (by rw [hf];exact hz)] at h3
    refine ⟨?_,World.block_lt_of_cell? W a h3⟩
    cases hs:a.spot with
    | none=>rfl
    | some k=>
     exfalso
     have h4:=(World.cells?_some (hg 0 h0)).2.2
     simp only [World.cell?,hs] at h3
     split at h3<;>simp at h3
   obtain ⟨b,o,s⟩:=a
   simp only at hsp
   obtain ⟨rfl,hlt⟩:=hsp
   refine ⟨_,len,cap,(List.range len).map g,rfl,⟨hl,hm, .inr ⟨rfl,Nat.zero_le _,hlt,hlt,fun k v hk=> ?_⟩⟩,by simp,hf⟩
   rw [kJ hf x0 _ k hz] at hk
   simp only [List.length_map,List.length_range] at hk
   split at hk
   ·next hks=>
    have hq:k/sz<len:=Nat.div_lt_of_lt_mul (by rw [Nat.mul_comm];exact hks)
    have hg1:((List.range len).map g).getD (k/sz) x0=g (k/sz):=by simp [List.getD,hq]
    rw [hg1] at hk
    have h5:=(World.cells?_some (hg (k/sz) hq)).2.2 (k%sz) (Nat.mod_lt _ hz)
    rw [hk,Addr.add_lit,Addr.add_lit] at h5
    rw [←h5]
    have:=Nat.div_add_mod k sz
    rw [Nat.mul_comm] at this
    simp only [Nat.add_assoc,this]
   ·cases hk
theorem Ml {t e:TypeId} {cs:List Value} (h:Rd enc P W base sp held t cs) (hu:P.underlying t=some (.array 2 e)) (he:P.underlying e=some (.int .u8)) (ce:P.cellsOf e=1) (c:P.cellsOf t=2):∃x:UInt8×UInt8,cs=Lz x:=by
 obtain ⟨hl,hi⟩:=mh h hu
 obtain ⟨a,ha,ha2⟩:=m4 (hi 0 (by omega)) he w8
 obtain ⟨b,hb,hb2⟩:=m4 (hi 1 (by omega)) he w8
 simp only [ce,Nat.mul_one] at ha hb
 have ea:((UInt8.ofNat a).toNat:Nat)=a:=by rw [UInt8.toNat_ofNat',Nat.mod_eq_of_lt (show a<2^8 from ha2)]
 have eb:((UInt8.ofNat b).toNat:Nat)=b:=by rw [UInt8.toNat_ofNat',Nat.mod_eq_of_lt (show b<2^8 from hb2)]
 refine ⟨(UInt8.ofNat a,UInt8.ofNat b), ?_⟩
 have e1:=im cs 0 1
 have e2:=im cs 1 1
 rw [ha] at e1;rw [hb,List.drop_eq_nil_of_le (by omega)] at e2
 rw [List.drop_zero] at e1
 rw [←e1,←e2];simp [Lz,ea,eb]
end
end Go.Cs
namespace Go.Cs
open Go Go.ChangeShapes Go.WideShapes Go.ChangeAt Go.RowKit
section
variable {H:Type} {enc:TypeId×Value→H} {P:Program} {W:World} {base:Nat} {sp:Nat→Bool} {held:Bool}
theorem iv {t e:TypeId} {k:IntKind} {fuel n:Nat} {cs:List Value} {p:List MemPlace} {ns:List Int} (h:DataW.trod enc P W base sp held fuel t cs=some (.agg (ns.map fun z=> .lit (.int k z)),p)) (hu:P.underlying t=some (.array n e)) (he:P.underlying e=some (.int k)) (ce:P.cellsOf e=1) (ct:P.cellsOf t=n):
  cs=ns.map fun z=> .int k z:=by
 obtain ⟨xs,m,rfl,hx,hl,hn,hi⟩:=DataW.trod_array hu h
 simp only [Prod.mk.injEq,DataW.agg.injEq] at hx
 have hlen:ns.length=n:=by rw [←hn,show xs.length=(xs.map fun x=>x.1).length from by simp,←hx.1,List.length_map]
 refine List.ext_getElem (by simp;omega) fun i h1 h2=> ?_
 have h3:i<xs.length:=by omega
 have h4:=hi i (by omega)
 rw [List.getElem?_eq_getElem h3,ce,Nat.mul_one] at h4
 obtain ⟨z,e1,e2,_⟩:=DataW.trod_int he h4
 have e3:cs[i]= .int k z:=by
  have:=congrArg (fun y=>y[0]?) e1
  simp [List.getElem?_take,List.getElem?_drop,h1] at this
  exact this
 have e4:=congrArg (fun y=>y[i]?) hx.1
 simp only [List.getElem?_map,List.getElem?_eq_getElem h3,e2,List.getElem?_eq_getElem (show i<ns.length by omega),Option.map_some,Option.some.injEq,DataW.lit.injEq,Lit.int.injEq,true_and] at e4
 rw [e3];simp [e4]
theorem q3 {name:String} {g:Nat} {cs:Array Value} {vs:List Value} (hg:P.globalNamed name=some g) (hv:W.var? P name=some cs) (hcs:cs.toList=vs):Gl g vs W:=by
 have hc:=fun i=>World.var?_cell hg hv i
 refine ⟨fun i v hi=> ?_, ?_⟩
 ·rw [Nat.zero_add,hc i,←hi,←hcs];simp
 ·simp only [World.var?,hg,Option.bind_some] at hv
  rcases Nat.lt_or_ge g W.heap.size with h | h
  ·exact h
  ·rw [Array.getElem?_eq_none h] at hv;simp at hv
end
end Go.Cs
namespace Go.Cs
open Go Go.ChangeShapes Go.WideShapes Go.ChangeAt Go.RowKit
end Go.Cs
namespace Go.Cs
open Go Go.ChangeShapes Go.WideShapes Go.ChangeAt Go.RowKit
theorem qe {cs p q:List Value} {o a:Nat} (h:(cs.drop o).take a=p) (h2:cs.drop (o+a)=q):cs.drop o=p++q:=by
 rw [←h,←h2,←List.drop_drop,List.take_append_drop]
theorem CS {cs:List Value} {o:Nat} (h:cs.length≤o):cs.drop o= []:=List.drop_eq_nil_of_le h
end Go.Cs
