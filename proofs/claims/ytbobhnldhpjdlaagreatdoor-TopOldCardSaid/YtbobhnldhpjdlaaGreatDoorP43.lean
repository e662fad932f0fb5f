/- Lemmas and walks: what each function does, by its own code. No condition beyond those of each statement. -/
import Derived.Test.YtbobhnldhpjdlaaGreatDoorP18
import Derived.Test.YtbobhnldhpjdlaaGreatDoorP42
set_option linter.all false
set_option linter.unusedVariables false
namespace Go.Proofs.YtbobhnldhpjdlaaGreatDoor
open Go Go.RowKit Go.Cs Go.Cz
set_option maxRecDepth 100000
set_option maxHeartbeats 4000000
open Go.Extern.Stop Go.Stop Go.Extern
theorem nG (t:Addr) (w:World):(ReflectliteValue.unpack (.iface 346 (.pointer (some t)))).run Tryz.prog w= .ok (.agg #[.pointer (some ⟨5,346,none⟩), .pointer (some ⟨w.heap.size,0,none⟩), .int .u64 150]) (w.alloc (.cells #[.pointer (some t)] 346)):=by kernel_rfl
theorem sM (a:Addr) (w:World):(ReflectliteValue.methodAny (ReflectliteValue.valueError "reflectlite.Value.Type" 0) (fun t _ _ _=>ReflectliteType.toType t) #[.agg #[.pointer (some ⟨5,346,none⟩), .pointer (some a), .int .u64 150]]).run Tryz.prog w= .ok (.iface 488 (.agg #[.pointer (some ⟨5,346,none⟩)])) w:=by kernel_rfl
theorem tG (h:Value) (w:World):(Go.method 681 488 (.agg #[h]) "Kind").run Tryz.prog w= .ok (364,h) w:=by kernel_rfl
theorem tz (w:World):((ReflectliteType.abiMethod fun t=>(fun a:Nat=>Value.int IntKind.u8 (a:Int))<$>Rtype.kind t) #[.pointer (some ⟨5,346,none⟩)]).run Tryz.prog w= .ok (.int .u8 22) w:=by kernel_rfl
theorem tw (w:World):((ReflectliteType.abiMethod fun t=>(fun a:Nat=>Value.int IntKind.u8 (a:Int))<$>Rtype.kind t) #[.pointer (some ⟨5,193,none⟩)]).run Tryz.prog w= .ok (.int .u8 25) w:=by kernel_rfl
theorem kD (a:Addr) (w:World):(ReflectliteValue.parts (.agg #[.pointer (some ⟨5,346,none⟩), .pointer (some a), .int .u64 150])).run Tryz.prog w= .ok (some (346,a,150)) w:=by kernel_rfl
theorem qJ (a p:Addr) (W:World) (ha:W.cell? a=some (.pointer (some p))):
  (ReflectliteValue.method (ReflectliteValue.valueError "reflectlite.Value.IsNil" 0) ReflectliteValue.isNil #[.agg #[.pointer (some ⟨5,346,none⟩), .pointer (some a), .int .u64 150]]).run Tryz.prog W= .ok (.bool false) W:=by
 rw [nO]
 simp only [Sem.run_bind,kD,Result.andThen]
 simp [ReflectliteValue.isNil,loadVar,isAgg,underlying,Tryz.underlying346,ha,Result.andThen]
theorem sI (h:Value) (w:World):(Go.method 681 488 (.agg #[h]) "Elem").run Tryz.prog w= .ok (378, .agg #[h]) w:=by kernel_rfl
theorem t5 (h:Value) (w:World):(Go.method 681 488 (.agg #[h]) "Implements").run Tryz.prog w= .ok (379, .agg #[h]) w:=by kernel_rfl
theorem xy (h:Value) (w:World):(Go.method 681 488 (.agg #[h]) "AssignableTo").run Tryz.prog w= .ok (376, .agg #[h]) w:=by kernel_rfl
theorem tB (w:World):(ReflectliteType.method ReflectliteType.elem #[.agg #[.pointer (some ⟨5,346,none⟩)]]).run Tryz.prog w= .ok (.iface 488 (.agg #[.pointer (some ⟨5,193,none⟩)])) w:=by kernel_rfl
theorem uh (w:World):(ReflectliteType.relation "Implements" ReflectliteType.implements_ #[.agg #[.pointer (some ⟨5,193,none⟩)], .iface 488 (.agg #[.pointer (some ⟨5,174,none⟩)])]).run Tryz.prog w= .ok (.bool true) w:=by kernel_rfl
theorem pO (v:Value) (w:World):(ReflectliteType.typeOf #[.iface 193 v]).run Tryz.prog w= .ok (.iface 488 (.agg #[.pointer (some ⟨5,193,none⟩)])) w:=by kernel_rfl
theorem yB (w:World):(ReflectliteType.relation "AssignableTo" ReflectliteType.assignableTo #[.agg #[.pointer (some ⟨5,193,none⟩)], .iface 488 (.agg #[.pointer (some ⟨5,193,none⟩)])]).run Tryz.prog w= .ok (.bool true) w:=by kernel_rfl
theorem nI (x y:Value) (w:World):(ReflectliteValue.unpack (.iface 193 (.agg #[x,y]))).run Tryz.prog w= .ok (.agg #[.pointer (some ⟨5,193,none⟩), .pointer (some ⟨w.heap.size,0,none⟩), .int .u64 153]) (w.alloc (.cells #[x,y] 193)):=by kernel_rfl
theorem qW (w:World):(Rtype.elem? 346).run Tryz.prog w= .ok (some 193) w:=by kernel_rfl
theorem BW (p:Addr) (w:World):(ReflectliteValue.mk 193 p ReflectliteValue.flagAddr).run Tryz.prog w= .ok (.agg #[.pointer (some ⟨5,193,none⟩), .pointer (some p), .int .u64 409]) w:=by kernel_rfl
theorem s7 (a p:Addr) (W:World) (ha:W.cell? a=some (.pointer (some p))):
  (ReflectliteValue.method (ReflectliteValue.valueError "reflectlite.Value.Elem" 0) ReflectliteValue.elem #[.agg #[.pointer (some ⟨5,346,none⟩), .pointer (some a), .int .u64 150]]).run Tryz.prog W= .ok (.agg #[.pointer (some ⟨5,193,none⟩), .pointer (some p), .int .u64 409]) W:=by
 rw [nO]
 simp only [Sem.run_bind,kD,Result.andThen]
 simp [ReflectliteValue.elem,loadVar,isAgg,underlying,Tryz.underlying346,ha,Result.andThen,qW,BW]
theorem qf (a:Addr) (w:World):(ReflectliteValue.parts (.agg #[.pointer (some ⟨5,193,none⟩), .pointer (some a), .int .u64 409])).run Tryz.prog w= .ok (some (193,a,409)) w:=by kernel_rfl
theorem qG (a:Addr) (w:World):(ReflectliteValue.parts (.agg #[.pointer (some ⟨5,193,none⟩), .pointer (some a), .int .u64 153])).run Tryz.prog w= .ok (some (193,a,153)) w:=by kernel_rfl
theorem ql (w:World):(Rtype.directlyAssignable 193 193).run Tryz.prog w= .ok true w:=by kernel_rfl
theorem Ax {b s:Nat} {x y u v:Value} {W:World} (hs:Blk W s [x,y] 193) (hb:Blk W b [u,v] 193) (h1:x.oneCell'=true) (h2:y.oneCell'=true):
  ∃w',(ReflectliteValue.set #[.agg #[.pointer (some ⟨5,193,none⟩), .pointer (some ⟨b,0,none⟩), .int .u64 409], .agg #[.pointer (some ⟨5,193,none⟩), .pointer (some ⟨s,0,none⟩), .int .u64 153]]).run Tryz.prog W= .ok (.tuple #[]) w'∧Blk w' b [x,y] 193∧Chg (· =b) W w':=by
 obtain ⟨w',h3,h4,h5⟩:=ka (P:=Tryz.prog) (T:=193) (vs:= [x,y]) hb (by kernel_rfl) rfl (by
  intro u hu;simp only [List.mem_cons,List.mem_nil_iff,or_false] at hu;rcases hu with rfl | rfl;exact h1;exact h2)
 refine ⟨w', ?_,h4,h5⟩
 have hl:=kS (P:=Tryz.prog) (T:=193) (hs.at 0 [x,y] rfl) (by kernel_rfl) (by kernel_rfl)
 rw [GR]
 simp only [Sem.run_bind,qf,qG,Result.andThen]
 simp [ReflectliteValue.flagAddr,hl,Result.andThen,ql,h3]
set_option maxHeartbeats 4000000 in
theorem B2 {b:Nat} {x y u v:Value} {w:World} (hg:Gl 3 [.iface 488 (.agg #[.pointer (some ⟨5,174,none⟩)])] w) (hb:Blk w b [u,v] 193) (h1:x.oneCell'=true) (h2:y.oneCell'=true):
  Calls Tryz.prog 188 #[.iface 193 (.agg #[x,y]), .iface 346 (.pointer (some ⟨b,0,none⟩))] w fun ev w'=>ev= .returned (.bool true)∧Blk w' b [x,y] 193∧Chg (· =b) w w':=by
 have h6:= @run_callFunc_extern Tryz.prog 253 _ (fun args=>ReflectliteValue.unpack (args.getD 0 (.tuple #[]))) Tryz.func253 (by kernel_rfl) (by kernel_rfl) (by kernel_rfl) (by kernel_rfl)
 have h7:= @run_callFunc_extern Tryz.prog 254 _ (ReflectliteValue.methodAny (ReflectliteValue.valueError "reflectlite.Value.Type" 0) (fun t _ _ _=>ReflectliteType.toType t)) Tryz.func254 (by kernel_rfl) (by kernel_rfl) (by kernel_rfl) (by kernel_rfl)
 have h8:= @run_callFunc_extern Tryz.prog 255 _ (ReflectliteValue.method (ReflectliteValue.valueError "reflectlite.Value.IsNil" 0) ReflectliteValue.isNil) Tryz.func255 (by kernel_rfl) (by kernel_rfl) (by kernel_rfl) (by kernel_rfl)
 have h27:= @run_callFunc_extern Tryz.prog 364 _ (ReflectliteType.abiMethod fun t=>do pure (.int .u8 (←Rtype.kind t))) Tryz.func364 (by kernel_rfl) (by kernel_rfl) (by kernel_rfl) (by kernel_rfl)
 have h37:= @run_callFunc_extern Tryz.prog 378 _ (ReflectliteType.method ReflectliteType.elem) Tryz.func378 (by kernel_rfl) (by kernel_rfl) (by kernel_rfl) (by kernel_rfl)
 have h38:= @run_callFunc_extern Tryz.prog 379 _ (ReflectliteType.relation "Implements" ReflectliteType.implements_) Tryz.func379 (by kernel_rfl) (by kernel_rfl) (by kernel_rfl) (by kernel_rfl)
 have h10:= @run_callFunc_extern Tryz.prog 257 _ ReflectliteType.typeOf Tryz.func257 (by kernel_rfl) (by kernel_rfl) (by kernel_rfl) (by kernel_rfl)
 have h35:= @run_callFunc_extern Tryz.prog 376 _ (ReflectliteType.relation "AssignableTo" ReflectliteType.assignableTo) Tryz.func376 (by kernel_rfl) (by kernel_rfl) (by kernel_rfl) (by kernel_rfl)
 have h11:= @run_callFunc_extern Tryz.prog 298 _ (ReflectliteValue.method (ReflectliteValue.valueError "reflectlite.Value.Elem" 0) ReflectliteValue.elem) Tryz.func298 (by kernel_rfl) (by kernel_rfl) (by kernel_rfl) (by kernel_rfl)
 have h12:= @run_callFunc_extern Tryz.prog 299 _ ReflectliteValue.set Tryz.func299 (by kernel_rfl) (by kernel_rfl) (by kernel_rfl) (by kernel_rfl)
 have tO:=pO
 have mA:=xy
 have aF:=yB
 have vF:=nI
 have f6:=nG
 have f7:=sM
 have mK:=tG
 have mE:=sI
 have mI:=t5
 have kP:=tz
 have kF:=tw
 have eP:=tB
 have iF:=uh
 have hbl:=hb.lt
 have hgl:=hg.lt
 have n8:=qJ ⟨w.heap.size,0,none⟩ ⟨b,0,none⟩ ((w.alloc (.cells #[.pointer (some ⟨b,0,none⟩)] 346)).alloc (.cells #[.pointer (some ⟨5,346,none⟩), .pointer (some ⟨w.heap.size,0,none⟩), .int .u64 150] 432)) (by simp)
 have hg0:w.cell? ⟨3,0,none⟩=some (.iface 488 (.agg #[.pointer (some ⟨5,174,none⟩)])):=hg.all 0 _ rfl
 have hg2:((w.alloc (.cells #[.pointer (some ⟨b,0,none⟩)] 346)).alloc (.cells #[.pointer (some ⟨5,346,none⟩), .pointer (some ⟨w.heap.size,0,none⟩), .int .u64 150] 432)).cell? ⟨3,0,none⟩=some (.iface 488 (.agg #[.pointer (some ⟨5,174,none⟩)])):=by
  rw [World.cell?_alloc_lt _ _ ⟨3,0,none⟩ (by simp;omega),World.cell?_alloc_lt _ _ ⟨3,0,none⟩ hgl];exact hg0
 have el:=s7 ⟨w.heap.size,0,none⟩ ⟨b,0,none⟩ (((w.alloc (.cells #[.pointer (some ⟨b,0,none⟩)] 346)).alloc (.cells #[.pointer (some ⟨5,346,none⟩), .pointer (some ⟨w.heap.size,0,none⟩), .int .u64 150] 432)).alloc (.cells #[.pointer (some ⟨5,346,none⟩), .pointer (some ⟨w.heap.size,0,none⟩), .int .u64 150] 432)) (by rw [World.cell?_alloc_lt _ _ ⟨w.heap.size,0,none⟩ (by simp;omega)];simp)
 have e1:=Ext.alloc w (.cells #[.pointer (some ⟨b,0,none⟩)] 346)
 have e2:=e1.trans (Ext.alloc _ (.cells #[.pointer (some ⟨5,346,none⟩), .pointer (some ⟨w.heap.size,0,none⟩), .int .u64 150] 432))
 have e3:=e2.trans (Ext.alloc _ (.cells #[.pointer (some ⟨5,346,none⟩), .pointer (some ⟨w.heap.size,0,none⟩), .int .u64 150] 432))
 have e4:=e3.trans (Ext.alloc _ (.cells #[x,y] 193))
 obtain ⟨wS,st,hBS,hCS⟩:=Ax (s:=w.heap.size+1+1+1) (by have hz:=Blk.new (((w.alloc (.cells #[.pointer (some ⟨b,0,none⟩)] 346)).alloc (.cells #[.pointer (some ⟨5,346,none⟩), .pointer (some ⟨w.heap.size,0,none⟩), .int .u64 150] 432)).alloc (.cells #[.pointer (some ⟨5,346,none⟩), .pointer (some ⟨w.heap.size,0,none⟩), .int .u64 150] 432)) [x,y] 193;simpa using hz) (hb.ext e4) h1 h2
 go_enter Tryz.func188,Tryz.ntmps188
 go_wp2
 refine wp_loop_rounds 1 ?_
 rw [rounds_succ]
 go_wp2
 go_ret
 exact ⟨rfl,hBS,(Ext.chg e4).trans hCS⟩
theorem xE {b:Nat} {x y u v:Value} {w:World} (hg:Gl 3 [.iface 488 (.agg #[.pointer (some ⟨5,174,none⟩)])] w) (hb:Blk w b [u,v] 193) (h1:x.oneCell'=true) (h2:y.oneCell'=true):
  Calls Tryz.prog 188 #[.iface 193 (.agg #[x,y]), .iface 346 (.pointer (some ⟨b,0,none⟩))] w (Ret fun r w'=>r= .bool true∧Blk w' b [x,y] 193∧Chg (· =b) w w'):=
 (B2 hg hb h1 h2).mono fun e w' h=>⟨_,h.1,rfl,h.2⟩
theorem kH (v:Value) (w:World):(Extern.ReflectliteType.typeOf #[.iface 548 v]).run Tryz.prog w= .ok (.iface 488 (.agg #[.pointer (some ⟨5,548,none⟩)])) w:=by kernel_rfl
def F8:Array Value→Sem Value:=Extern.ReflectliteType.method fun t=>do Extern.Rtype.noPackHeld "Comparable" t;pure (.bool (←typeInfo t).comparable)
theorem qr (w:World):(F8 #[.agg #[.pointer (some ⟨5,548,none⟩)]]).run Tryz.prog w= .ok (.bool true) w:=by kernel_rfl
theorem ow (v:Value) (w:World):(Go.method 681 488 v "Comparable").run Tryz.prog w= .ok (377,v) w:=by kernel_rfl
theorem yr:(Tryz.prog.info? 548).map (·.comparable)=some true:=by kernel_rfl
theorem yt:(Tryz.prog.info? 569).map (·.size)=some 1:=by kernel_rfl
theorem om (v:Value) (xT:TypeId) (w:World):(Instr.typeAssert (.iface 193 v) xT 499 true).run Tryz.prog w= .ok (.tuple #[.nilIface, .bool false]) w:=run_typeAssert_lacksB Tryz.underlying499 (by kernel_rfl) (by kernel_rfl) v xT w
theorem rg (v:Value) (xT:TypeId) (w:World):(Instr.typeAssert (.iface 193 v) xT 495 true).run Tryz.prog w= .ok (.tuple #[.iface 193 v, .bool true]) w:=run_typeAssert_hasB Tryz.underlying495 (by kernel_rfl) v xT w
theorem nV (v:Value) (w:World):(Go.method 681 193 v "Unwrap").run Tryz.prog w= .ok (370,v) w:=by kernel_rfl
theorem MA {x y:Value} {w:World} (h1:x.oneCell'=true) (h2:y.oneCell'=true):Calls Tryz.prog 370 #[.agg #[x,y]] w fun e w'=>e= .returned y∧Ext w w':=by
 go_enter Tryz.func370,Tryz.ntmps370
 go_wp2
 go_ret
 exact ⟨rfl,Ext.alloc _ _⟩
theorem An {a:Addr} {x:Value} {w:World} (h1:x.oneCell'=true):
  Calls Tryz.prog 189 #[.iface 193 (.agg #[x, .iface 548 (.pointer (some a))]), .iface 548 (.pointer (some a))] w fun e w'=>e= .returned (.bool true)∧Ext w w':=by
 obtain ⟨i,hi,hcmp⟩:=Option.map_eq_some_iff.1 yr
 obtain ⟨j,hj,hjs⟩:=Option.map_eq_some_iff.1 yt
 have h8:= @run_callFunc_extern Tryz.prog 257 _ Extern.ReflectliteType.typeOf Tryz.func257 (by kernel_rfl) (by kernel_rfl) (by kernel_rfl) (by kernel_rfl)
 have h32:= @run_callFunc_extern Tryz.prog 377 _ F8 Tryz.func377 (by kernel_rfl) (by kernel_rfl) (by kernel_rfl) (by kernel_rfl)
 have tT:=kH
 have cT:=qr
 have mR:=ow
 have nW:=om
 have uW:=rg
 have mU:=nV
 have hty:=run_eql_iface_types (P:=Tryz.prog) 193 548 (.agg #[x, .iface 548 (.pointer (some a))]) (.pointer (some a)) Tryz.underlying174 (by decide) w
 have heq:=run_eql_iface_ptr_same (P:=Tryz.prog) (w.alloc (.cells #[x, .iface 548 (.pointer (some a))] 193)) a Tryz.underlying174 Tryz.underlying548 hi hcmp hj
 go_enter Tryz.func189,Tryz.ntmps189
 go_wp2
 refine wp_loop_rounds 2 ?_
 rw [rounds_succ]
 go_wp2
 rw [rounds_succ]
 go_wp2
 go_ret
 exact ⟨rfl,Ext.alloc _ _⟩
theorem Da {a:Addr} {x:Value} {w:World} (h1:x.oneCell'=true):
  Calls Tryz.prog 189 #[.iface 193 (.agg #[x, .nilIface]), .iface 548 (.pointer (some a))] w fun e w'=>e= .returned (.bool false)∧Ext w w':=by
 have h8:= @run_callFunc_extern Tryz.prog 257 _ Extern.ReflectliteType.typeOf Tryz.func257 (by kernel_rfl) (by kernel_rfl) (by kernel_rfl) (by kernel_rfl)
 have h32:= @run_callFunc_extern Tryz.prog 377 _ F8 Tryz.func377 (by kernel_rfl) (by kernel_rfl) (by kernel_rfl) (by kernel_rfl)
 have tT:=kH
 have cT:=qr
 have mR:=ow
 have nW:=om
 have uW:=rg
 have mU:=nV
 have hty:=run_eql_iface_types (P:=Tryz.prog) 193 548 (.agg #[x, .nilIface]) (.pointer (some a)) Tryz.underlying174 (by decide) w
 go_enter Tryz.func189,Tryz.ntmps189
 go_wp2
 refine wp_loop_rounds 1 ?_
 rw [rounds_succ]
 go_wp2
 go_ret
 exact ⟨rfl,Ext.alloc _ _⟩
theorem A7 {Oi Oo:List It} {Fi:List Pt} {w w':World} {B:List Nat} (hp:Hp ⟨w,fps Oi,B⟩ Oi Fi w) (hc:Chg (·∈fps Oi) w w') (ho:∀o∈Oo,o.A w') (hf:fps Oo=fps Oi):Hp ⟨w,fps Oi,B⟩ Oo [] w':=
 ⟨hc,ho,by rw [hf];exact hp.nd,fun k hk=>by
  rw [hf] at hk
  obtain ⟨h1,h2,h3⟩:=hp.fr k hk
  exact ⟨.inl hk,Nat.lt_of_lt_of_le h2 hc.size,h3⟩,hp.bb,fun f h=>by cases h⟩
abbrev I5:Value:= .iface 488 (.agg #[.pointer (some ⟨5,174,none⟩)])
theorem Is {b:Nat} {x y u v q:Value} (h1:x.oneCell'=true) (h2:y.oneCell'=true):Zp Tryz.prog 188 [.iface 193 (vA [x,y]), .iface 346 (vP b 0)] [iB b [u,v] 193] [Gs (q,I5)] Unit (fun _=>True) (fun _=> .bool true) (fun _=> [iB b [x,y] 193]) (fun _=> []):=
 ⟨nY (f:=188) Tryz.func188 rfl (by kernel_rfl),fun w B hp=>by
  have hb:Blk w b [u,v] 193:=hp.own _ (.head _)
  have hg1:At w 3 0 [I5]:=(hp.facts _ (.head _)).2.2.2.2
  have hg:Gl 3 [I5] w:=⟨hg1,by
   have h9:=hg1 0 _ rfl
   refine Classical.byContradiction fun hn=> ?_
   have h8:w.heap[3]? =none:=by rw [Array.getElem?_eq_none_iff];omega
   simp [World.cell?,h8] at h9⟩
  exact (xE hg hb h1 h2).mono fun e w' h=>by
   obtain ⟨r,h3,h4,h5,h6⟩:=h
   exact ⟨r,h3,(),True.intro,h4,A7 hp (h6.mono fun k _ hk=>by simp [hk,iB]) (by simp [iB];exact h5) rfl⟩⟩
theorem IR {a:Addr} {x:Value} (h1:x.oneCell'=true):Zp Tryz.prog 189 [.iface 193 (vA [x, .iface 548 (.pointer (some a))]), .iface 548 (.pointer (some a))] [] [] Unit (fun _=>True) (fun _=> .bool true) (fun _=> []) (fun _=> []):=
 ⟨nY (f:=189) Tryz.func189 rfl (by kernel_rfl),fun w B hp=>(An h1).mono fun e w' h=>⟨_,h.1,(),True.intro,rfl,A7 hp (Ext.chg h.2) (fun o ho=>by cases ho) rfl⟩⟩
theorem Iv {a:Addr} {x:Value} (h1:x.oneCell'=true):Zp Tryz.prog 189 [.iface 193 (vA [x, .nilIface]), .iface 548 (.pointer (some a))] [] [] Unit (fun _=>True) (fun _=> .bool false) (fun _=> []) (fun _=> []):=
 ⟨nY (f:=189) Tryz.func189 rfl (by kernel_rfl),fun w B hp=>(Da h1).mono fun e w' h=>⟨_,h.1,(),True.intro,rfl,A7 hp (Ext.chg h.2) (fun o ho=>by cases ho) rfl⟩⟩
end Go.Proofs.YtbobhnldhpjdlaaGreatDoor
