/- Lemmas and walks: what each function does, by its own code. No condition beyond those of each statement. -/
import Derived.Test.YtbobhnldhpjdlaaGreatDoorP1
import Derived.Test.YtbobhnldhpjdlaaGreatDoorP3
import Derived.ProofKit
import Derived.OpenShut
import Derived.ChangeOld
import Derived.LaidMore
import Derived.Stop.Joined
import Derived.Deep.Slices
set_option linter.all false
set_option linter.unusedVariables false
namespace Go.Cs
open Go Go.ChangeShapes Go.WideShapes Go.ChangeAt Go.RowKit
section
variable {H:Type} {enc:TypeId×Value→H} {P:Program} {W:World} {base:Nat} {sp:Nat→Bool} {held:Bool}
def Rd (enc:TypeId×Value→H) (P:Program) (W:World) (base:Nat) (sp:Nat→Bool) (held:Bool) (t:TypeId) (cs:List Value):Prop:=∃fuel r,DataW.trod enc P W base sp held fuel t cs=some r
theorem gB {α β:Type} {f:α→Option β}:∀{xs:List α} {ys:List β},xs.mapM f=some ys→∀x∈xs,∃y,f x=some y
 | [],_,_,x,hx=>by simp at hx
 | a::xs,ys,h,x,hx=>by
  simp only [List.mapM_cons,Option.bind_eq_bind,Option.bind_eq_some_iff] at h
  obtain ⟨y,hy,zs,hz,_⟩:=h
  rcases List.mem_cons.1 hx with rfl | hx
  ·exact ⟨y,hy⟩
  ·exact gB hz x hx
theorem DC {t e:TypeId} {n:Nat} {r:Reach} {b:Nat} {v:Value} (hu:P.underlying t=some (.array n e)) (h:Value.okWide P W r b t v):∃cs,v= .agg cs∧True:=by
 simp only [Value.okWide,hu] at h
 obtain ⟨cs,h1,_⟩:=h
 exact ⟨cs,h1,trivial⟩
theorem kj {t:TypeId} {k:IntKind} {cs:List Value} (h:Rd enc P W base sp held t cs) (ht:P.underlying t=some (.int k)):∃n,cs= [.int k n]∧(Lit.int k n).wf=true:=by
 obtain ⟨fuel,r,hf⟩:=h
 obtain ⟨n,h1,_,h3⟩:=DataW.trod_int ht hf
 exact ⟨n,h1,h3⟩
theorem ym {t:TypeId} {cs:List Value} {x:Bool×TypeId×Nat} {xs:List (Bool×TypeId×Nat)} (h:Rd enc P W base sp held t cs) (hF:b9 P t=x::xs):
  cs.length=P.cellsOf t∧∀y∈x::xs,Rd enc P W base sp held y.2.1 ((cs.drop y.2.2).take (P.cellsOf y.2.1)):=by
 obtain ⟨fuel,r,hf⟩:=h
 have hu:=eB ⟨x,xs,hF⟩
 cases fuel with
 | zero=>simp [DataW.trod] at hf
 | succ fuel=>
  rw [DataW.trod.eq_def] at hf
  simp only [hu] at hf
  split at hf
  ·next hl=>
   refine ⟨hl,fun y hy=> ?_⟩
   simp only [Option.map_eq_some_iff] at hf
   obtain ⟨zs,hz,_⟩:=hf
   rw [←hF,b9,List.mem_map] at hy
   obtain ⟨f,hf1,rfl⟩:=hy
   obtain ⟨z,hz2⟩:=gB hz f hf1
   exact ⟨fuel,z,hz2⟩
  ·cases hf
theorem Ay {t e:TypeId} {n:Nat} {cs:List Value} (h:Rd enc P W base sp held t cs) (hu:P.underlying t=some (.array n e)):
  cs.length=P.cellsOf t∧∀i,i<n→Rd enc P W base sp held e ((cs.drop (i*P.cellsOf e)).take (P.cellsOf e)):=by
 obtain ⟨fuel,r,hf⟩:=h
 cases fuel with
 | zero=>simp [DataW.trod] at hf
 | succ fuel=>
  rw [DataW.trod.eq_def] at hf
  simp only [hu] at hf
  split at hf
  ·next hl=>
   refine ⟨hl,fun i hi=> ?_⟩
   simp only [Option.map_eq_some_iff] at hf
   obtain ⟨zs,hz,_⟩:=hf
   obtain ⟨z,hz2⟩:=gB hz i (List.mem_range.2 hi)
   exact ⟨fuel,z,hz2⟩
  ·cases hf
end
end Go.Cs
namespace Go.Cs
open Go Go.ChangeShapes Go.WideShapes Go.ChangeAt Go.RowKit
section
variable {H:Type} {enc:TypeId×Value→H} {P:Program} {W:World} {base:Nat} {sp:Nat→Bool} {held:Bool}
theorem Ll {t e:TypeId} {n:Nat} {cs:List Value} (h:Rd enc P W base sp held t cs) (hu:P.underlying t=some (.array n e)) (he:P.underlying e=some (.int .u8)) (h1:P.cellsOf e=1) (hn:P.cellsOf t=n):∃l:List UInt8,cs=b8 l∧l.length=n:=by
 obtain ⟨hl,hi⟩:=Ay h hu
 rw [hn] at hl
 refine ⟨cs.map (fun v=>match v with | .int _ n=>UInt8.ofNat n.toNat | _=>0), ?_,by simp [hl]⟩
 refine List.ext_getElem (by simp [hl]) (fun i h2 h3=> ?_)
 obtain ⟨n,hn,hw⟩:=kj (hi i (by omega)) he
 rw [h1,Nat.mul_one] at hn
 have hg:cs[i]= .int .u8 n:=by
  have:=congrArg (fun z=>z[0]?) hn
  simp [List.getElem?_take,List.getElem?_drop,h2] at this
  exact this
 have hb:=bounds_u8 hw
 simp only [b8,List.getElem_map,hg]
 rw [UInt8.toNat_ofNat',Nat.mod_eq_of_lt (by omega)]
 congr 1;omega
theorem il {t e:TypeId} {k:IntKind} {fuel n:Nat} {cs:List Value} {p:List MemPlace} {ns:List Int} (h:DataW.trod enc P W base sp held fuel t cs=some (.agg (ns.map fun z=> .lit (.int k z)),p)) (hu:P.underlying t=some (.array n e)) (he:P.underlying e=some (.int k)) (ce:P.cellsOf e=1) (ct:P.cellsOf t=n):
  cs=ns.map fun z=> .int k z:=by
 obtain ⟨xs,m,rfl,hx,hl,hn,hi⟩:=DataW.trod_array hu h
 simp only [Prod.mk.injEq,DataW.agg.injEq] at hx
 have hlen:ns.length=n:=by rw [←hn,show xs.length=(xs.map fun x=>x.1).length from by simp,←hx.1,List.length_map]
 refine List.ext_getElem (by simp;omega) fun i h1 h2=> ?_
 have h3:i<xs.length:=by omega
 have h4:=hi i (by omega)
 rw [List.getElem?_eq_getElem h3,ce,Nat.mul_one] at h4
 obtain ⟨z,e1,e2,_⟩:=DataW.trod_int he h4
 have e3:cs[i]= .int k z:=by
  have:=congrArg (fun y=>y[0]?) e1
  simp [List.getElem?_take,List.getElem?_drop,h1] at this
  exact this
 have e4:=congrArg (fun y=>y[i]?) hx.1
 simp only [List.getElem?_map,List.getElem?_eq_getElem h3,e2,List.getElem?_eq_getElem (show i<ns.length by omega),Option.map_some,Option.some.injEq,DataW.lit.injEq,Lit.int.injEq,true_and] at e4
 rw [e3];simp [e4]
theorem rm {name:String} {g:Nat} {cs:Array Value} {vs:List Value} (hg:P.globalNamed name=some g) (hv:W.var? P name=some cs) (hcs:cs.toList=vs):Gl g vs W:=by
 have hc:=fun i=>World.var?_cell hg hv i
 refine ⟨fun i v hi=> ?_, ?_⟩
 ·rw [Nat.zero_add,hc i,←hi,←hcs];simp
 ·simp only [World.var?,hg,Option.bind_some] at hv
  rcases Nat.lt_or_ge g W.heap.size with h | h
  ·exact h
  ·rw [Array.getElem?_eq_none h] at hv;simp at hv
end
end Go.Cs
namespace Go.Cs
open Go Go.ChangeShapes Go.WideShapes Go.ChangeAt Go.RowKit
section
variable {H:Type} {enc:TypeId×Value→H} {P:Program} {W:World} {base:Nat} {sp:Nat→Bool} {held:Bool}
end
end Go.Cs
namespace Go.Cs
open Go Go.ChangeShapes Go.WideShapes Go.ChangeAt Go.RowKit
end Go.Cs
namespace Go.Cs
open Go Go.ChangeShapes Go.WideShapes Go.ChangeAt Go.RowKit
theorem iu {cs p q:List Value} {o a:Nat} (h:(cs.drop o).take a=p) (h2:cs.drop (o+a)=q):cs.drop o=p++q:=by
 rw [←h,←h2,←List.drop_drop,List.take_append_drop]
theorem C2 {cs:List Value} {o:Nat} (h:cs.length≤o):cs.drop o= []:=List.drop_eq_nil_of_le h
end Go.Cs
