/- Lemmas and walks: what each function does, by its own code. No condition beyond those of each statement. -/
import Derived.Test.YtbobhnldhpjdlaaGreatDoorP3
import Derived.LaidEql
import Derived.Stop.Asserts
import Derived.RowKitTokens
import Derived.Laws.Tables
set_option linter.all false
set_option linter.unusedVariables false
namespace Go.Cs
open Go Go.RowKit Go.Extern.Stop Go.Stop Go.Extern
theorem nO (z:Sem Value) (f:TypeId→Addr→Nat→Nat→Sem Value) (v:Value):
  ReflectliteValue.method z f #[v]=(do match←ReflectliteValue.parts v with | none=>z | some (t,a,fl)=>f t a fl (fl%32)):=rfl
theorem GR (v x:Value):ReflectliteValue.set #[v,x]=(do
  let (some (dst,a,fl),some (src,b,_)):=(←ReflectliteValue.parts v,←ReflectliteValue.parts x)
   | unsupported (.noEntry "extern/(internal/reflectlite.Value).Set.zeroValue")
  if fl/ReflectliteValue.flagAddr%2==0 then unsupported (.noEntry "extern/(internal/reflectlite.Value).Set.unaddressable")
  let val←loadVar src b
  if←Rtype.directlyAssignable dst src then storeVar dst a val
  else if←Rtype.implements dst src then
   if (←Rtype.kind src)==20 then
    match val with
    | .nilIface=>unsupported (.noEntry "extern/reflectlite: a nil value of one interface type handed on as a value of another")
    | _=>storeVar dst a val
   else storeVar dst a (.iface src val)
  else panicString ("reflectlite.Set: value of type " ++(←Rtype.spelt src)++ " is not assignable to type " ++(←Rtype.spelt dst))
  pure (.tuple #[])):=rfl
theorem ka {P:Program} {T b e:Nat} {w:World} {cs vs:List Value} (hB:Blk w b cs e) (hsz:(P.info? T).map (·.size)=some vs.length) (hl:cs.length=vs.length) (h1:∀u∈vs,u.oneCell'=true):
  ∃w',(storeVar T ⟨b,0,none⟩ (.agg vs.toArray)).run P w= .ok () w'∧Blk w' b vs e∧Chg (· =b) w w':=by
 obtain ⟨w',h2,h3,h4⟩:=cG (P:=P) vs w b 0 0 cs e hB (by omega) h1
 refine ⟨w', ?_, ?_,h4⟩
 ·have h5:=run_sizeOf (w:=w) hsz
  simp [storeVar,Value.cells,h5,h2]
 ·have:bX cs 0 vs=vs:=qN _ _ hl.symm
  rw [←this];simpa using h3
end Go.Cs
