import Derived.Test.YtfbcemhoeecepaaGreatDoorB
import Derived.Test.YtfbcemhoeecepaaGreatDoorC
import Derived.WalkKit
import Derived.LaidEql
import Derived.Stop.Asserts
import Derived.RowKitTokens
set_option linter.all false
set_option maxRecDepth 100000
set_option maxHeartbeats 4000000
namespace Go.Lf
open Go Go.Proofs Go.RowKit Go.Extern.Stop Go.Stop Go.Extern
theorem zpf (v:Value) (w:World):(Extern.ReflectliteType.typeOf #[.iface 285 v]).run Tryz.prog w=.ok (.iface 160 (.agg #[.pointer (some ⟨8,285,none⟩)])) w:=by kernel_rfl
theorem zlq (w:World):((Extern.ReflectliteType.method fun t=>do Rtype.noPackHeld "Comparable" t;Functor.map (fun a=>Value.bool a.comparable) (typeInfo t)) #[.agg #[.pointer (some ⟨8,285,none⟩)]]).run Tryz.prog w=.ok (.bool true) w:=by kernel_rfl
theorem zhE (v:Value) (w:World):(Go.method 442 160 v "Comparable").run Tryz.prog w=.ok (247,v) w:=by kernel_rfl
theorem zsh:(Tryz.prog.info? 285).map (·.comparable)=some true:=by kernel_rfl
theorem zse:(Tryz.prog.info? 287).map (·.size)=some 1:=by kernel_rfl
theorem zuc (v:Value) (xT:TypeId) (w:World):(Instr.typeAssert (.iface 73 v) xT 162 true).run Tryz.prog w=.ok (.tuple #[.nilIface,.bool false]) w:=run_typeAssert_lacksB Tryz.underlying162 (by kernel_rfl) (by kernel_rfl) v xT w
theorem zq5 (v:Value) (xT:TypeId) (w:World):(Instr.typeAssert (.iface 73 v) xT 165 true).run Tryz.prog w=.ok (.tuple #[.nilIface,.bool false]) w:=run_typeAssert_lacksB Tryz.underlying165 (by kernel_rfl) (by kernel_rfl) v xT w
theorem zpR (v:Value) (xT:TypeId) (w:World):(Instr.typeAssert (.iface 73 v) xT 167 true).run Tryz.prog w=.ok (.tuple #[.nilIface,.bool false]) w:=run_typeAssert_lacksB Tryz.underlying167 (by kernel_rfl) (by kernel_rfl) v xT w
theorem zs7 (a:Addr) (w:World) :
  Calls Tryz.prog 36 #[.iface 285 (.pointer (some a)),.iface 285 (.pointer (some a))] w fun e w'=>e=.returned (.bool true)∧w'=w:=by
 obtain ⟨i,hi,hcmp⟩:=Option.map_eq_some_iff.1 zsh
 obtain ⟨j,hj,hjs⟩:=Option.map_eq_some_iff.1 zse
 have h8 := @run_callFunc_extern Tryz.prog 70 _ Extern.ReflectliteType.typeOf Tryz.func70 (by kernel_rfl) (by kernel_rfl) (by kernel_rfl) (by kernel_rfl)
 have h32 := @run_callFunc_extern Tryz.prog 247 _ (Extern.ReflectliteType.method fun t=>do Rtype.noPackHeld "Comparable" t;pure (.bool (←typeInfo t).comparable)) Tryz.func247 (by kernel_rfl) (by kernel_rfl) (by kernel_rfl) (by kernel_rfl)
 have tT:=zpf
 have cT:=zlq
 have mR:=zhE
 have heq:=run_eql_iface_ptr_same (P:=Tryz.prog) w a Tryz.underlying42 Tryz.underlying285 hi hcmp hj
 go_enter Tryz.func36,Tryz.ntmps36
 go_wp2
 refine wp_loop_rounds 1 ?_
 rw [rounds_succ]
 go_wp2
 go_ret
 exact ⟨rfl,rfl⟩
theorem ztT (b:Addr) (w:World) :
  Calls Tryz.prog 36 #[.nilIface,.iface 285 (.pointer (some b))] w fun e w'=>e=.returned (.bool false)∧w'=w:=by
 have hn:=run_eql_iface_nil_left (P:=Tryz.prog) w 285 (.pointer (some b)) Tryz.underlying42
 go_enter Tryz.func36,Tryz.ntmps36
 go_wp2
 go_ret
 exact ⟨rfl,rfl⟩
theorem zs8 (a b:Addr) (w:World) :
  Calls Tryz.prog 36 #[.iface 73 (.pointer (some a)),.iface 285 (.pointer (some b))] w fun e w'=>e=.returned (.bool false)∧w'=w:=by
 obtain ⟨i,hi,hcmp⟩:=Option.map_eq_some_iff.1 zsh
 obtain ⟨j,hj,hjs⟩:=Option.map_eq_some_iff.1 zse
 have h8 := @run_callFunc_extern Tryz.prog 70 _ Extern.ReflectliteType.typeOf Tryz.func70 (by kernel_rfl) (by kernel_rfl) (by kernel_rfl) (by kernel_rfl)
 have h32 := @run_callFunc_extern Tryz.prog 247 _ (Extern.ReflectliteType.method fun t=>do Rtype.noPackHeld "Comparable" t;pure (.bool (←typeInfo t).comparable)) Tryz.func247 (by kernel_rfl) (by kernel_rfl) (by kernel_rfl) (by kernel_rfl)
 have tT:=zpf
 have cT:=zlq
 have mR:=zhE
 have nE:=zuc
 have uE:=zq5
 have vE:=zpR
 have hty:=run_eql_iface_types (P:=Tryz.prog) 73 285 (.pointer (some a)) (.pointer (some b)) Tryz.underlying42 (by decide) w
 go_enter Tryz.func36,Tryz.ntmps36
 go_wp2
 refine wp_loop_rounds 1 ?_
 rw [rounds_succ]
 go_wp2
 go_ret
 exact ⟨rfl,rfl⟩
theorem ztX (t:Value) (w:World) :
  Calls Tryz.prog 72 #[.nilIface,t] w fun e w'=>e=.returned (.bool false)∧w'=w:=by
 go_enter Tryz.func72,Tryz.ntmps72
 go_wp2
 go_ret
 exact ⟨rfl,rfl⟩
theorem zpG (t:Addr) (w:World):(ReflectliteValue.unpack (.iface 124 (.pointer (some t)))).run Tryz.prog w
  = .ok (.agg #[.pointer (some ⟨8,124,none⟩),.pointer (some ⟨w.heap.size,0,none⟩),.int .u64 150]) (w.alloc (.cells #[.pointer (some t)] 124)):=by kernel_rfl
theorem zsF (a:Addr) (w:World):(ReflectliteValue.methodAny (ReflectliteValue.valueError "reflectlite.Value.Type" 0) (fun t _ _ _=>ReflectliteType.toType t) #[.agg #[.pointer (some ⟨8,124,none⟩),.pointer (some a),.int .u64 150]]).run Tryz.prog w
  = .ok (.iface 160 (.agg #[.pointer (some ⟨8,124,none⟩)])) w:=by kernel_rfl
theorem zs6 (w:World):((ReflectliteType.abiMethod fun t=>Functor.map (fun a:Nat=>Value.int IntKind.u8 (a:Int)) (Rtype.kind t)) #[.pointer (some ⟨8,124,none⟩)]).run Tryz.prog w=.ok (.int .u8 22) w:=by kernel_rfl
theorem ztS (w:World):((ReflectliteType.abiMethod fun t=>Functor.map (fun a:Nat=>Value.int IntKind.u8 (a:Int)) (Rtype.kind t)) #[.pointer (some ⟨8,73,none⟩)]).run Tryz.prog w=.ok (.int .u8 22) w:=by kernel_rfl
theorem zpV (h:Value) (w:World):(Go.method 442 160 (.agg #[h]) "Kind").run Tryz.prog w=.ok (239,h) w:=by kernel_rfl
theorem rlm (z:Sem Value) (f:TypeId→Addr→Nat→Nat→Sem Value) (v:Value) :
  ReflectliteValue.method z f #[v]=(do match ←ReflectliteValue.parts v with | none=>z | some (t,a,fl)=>f t a fl (fl % 32)):=rfl
theorem zoZ (a:Addr) (w:World):(ReflectliteValue.parts (.agg #[.pointer (some ⟨8,124,none⟩),.pointer (some a),.int .u64 150])).run Tryz.prog w=.ok (some (124,a,150)) w:=by kernel_rfl
theorem zsg (a p:Addr) (W:World) (ha:W.cell? a=some (.pointer (some p))) :
  (ReflectliteValue.method (ReflectliteValue.valueError "reflectlite.Value.IsNil" 0) ReflectliteValue.isNil #[.agg #[.pointer (some ⟨8,124,none⟩),.pointer (some a),.int .u64 150]]).run Tryz.prog W=.ok (.bool false) W:=by
 rw [rlm]
 simp only [Sem.run_bind,zoZ,Result.andThen]
 simp [ReflectliteValue.isNil,loadVar,isAgg,underlying,Tryz.underlying124,ha,Result.andThen]
theorem zpW (h:Value) (w:World):(Go.method 442 160 (.agg #[h]) "Elem").run Tryz.prog w=.ok (248,.agg #[h]) w:=by kernel_rfl
theorem zlO (h:Value) (w:World):(Go.method 442 160 (.agg #[h]) "Implements").run Tryz.prog w=.ok (249,.agg #[h]) w:=by kernel_rfl
theorem zkC (h:Value) (w:World):(Go.method 442 160 (.agg #[h]) "AssignableTo").run Tryz.prog w=.ok (246,.agg #[h]) w:=by kernel_rfl
theorem ztf (w:World):(ReflectliteType.method ReflectliteType.elem #[.agg #[.pointer (some ⟨8,124,none⟩)]]).run Tryz.prog w=.ok (.iface 160 (.agg #[.pointer (some ⟨8,73,none⟩)])) w:=by kernel_rfl
theorem zoj (w:World):(ReflectliteType.relation "Implements" ReflectliteType.implements_ #[.agg #[.pointer (some ⟨8,73,none⟩)],.iface 160 (.agg #[.pointer (some ⟨8,42,none⟩)])]).run Tryz.prog w=.ok (.bool true) w:=by kernel_rfl
theorem zrD (v:Value) (w:World):(ReflectliteType.typeOf #[.iface 73 v]).run Tryz.prog w=.ok (.iface 160 (.agg #[.pointer (some ⟨8,73,none⟩)])) w:=by kernel_rfl
theorem zoz (w:World):(ReflectliteType.relation "AssignableTo" ReflectliteType.assignableTo #[.agg #[.pointer (some ⟨8,73,none⟩)],.iface 160 (.agg #[.pointer (some ⟨8,73,none⟩)])]).run Tryz.prog w=.ok (.bool true) w:=by kernel_rfl
theorem zqO (e:Addr) (w:World):(ReflectliteValue.unpack (.iface 73 (.pointer (some e)))).run Tryz.prog w
  = .ok (.agg #[.pointer (some ⟨8,73,none⟩),.pointer (some ⟨w.heap.size,0,none⟩),.int .u64 150]) (w.alloc (.cells #[.pointer (some e)] 73)):=by kernel_rfl
theorem zrq (w:World):(Rtype.elem? 124).run Tryz.prog w=.ok (some 73) w:=by kernel_rfl
theorem zuu (p:Addr) (w:World):(ReflectliteValue.mk 73 p ReflectliteValue.flagAddr).run Tryz.prog w=.ok (.agg #[.pointer (some ⟨8,73,none⟩),.pointer (some p),.int .u64 406]) w:=by kernel_rfl
theorem zsn (a p:Addr) (W:World) (ha:W.cell? a=some (.pointer (some p))) :
  (ReflectliteValue.method (ReflectliteValue.valueError "reflectlite.Value.Elem" 0) ReflectliteValue.elem #[.agg #[.pointer (some ⟨8,124,none⟩),.pointer (some a),.int .u64 150]]).run Tryz.prog W
   = .ok (.agg #[.pointer (some ⟨8,73,none⟩),.pointer (some p),.int .u64 406]) W:=by
 rw [rlm]
 simp only [Sem.run_bind,zoZ,Result.andThen]
 simp [ReflectliteValue.elem,loadVar,isAgg,underlying,Tryz.underlying124,ha,Result.andThen,zrq,zuu]
theorem rls (v x:Value):ReflectliteValue.set #[v,x]=(do
  let (some (dst,a,fl),some (src,b,_)):=(←ReflectliteValue.parts v,←ReflectliteValue.parts x)
   | unsupported (.noEntry "extern/(internal/reflectlite.Value).Set.zeroValue")
  if fl / ReflectliteValue.flagAddr % 2 == 0 then unsupported (.noEntry "extern/(internal/reflectlite.Value).Set.unaddressable")
  let val ←loadVar src b
  if ←Rtype.directlyAssignable dst src then storeVar dst a val
  else if ←Rtype.implements dst src then
   if (←Rtype.kind src) == 20 then
    match val with
    | .nilIface=>unsupported (.noEntry "extern/reflectlite: a nil value of one interface type handed on as a value of another")
    | _=>storeVar dst a val
   else storeVar dst a (.iface src val)
  else panicString ("reflectlite.Set: value of type " ++ (←Rtype.spelt src) ++ " is not assignable to type " ++ (←Rtype.spelt dst))
  pure (.tuple #[])):=rfl
theorem zr3 (a:Addr) (w:World):(ReflectliteValue.parts (.agg #[.pointer (some ⟨8,73,none⟩),.pointer (some a),.int .u64 406])).run Tryz.prog w=.ok (some (73,a,406)) w:=by kernel_rfl
theorem zsX (a:Addr) (w:World):(ReflectliteValue.parts (.agg #[.pointer (some ⟨8,73,none⟩),.pointer (some a),.int .u64 150])).run Tryz.prog w=.ok (some (73,a,150)) w:=by kernel_rfl
theorem zsp (w:World):(Rtype.directlyAssignable 73 73).run Tryz.prog w=.ok true w:=by kernel_rfl
theorem zt7 (ta b e:Addr) (old:Value) (W:World) (hb:W.cell? b=some (.pointer (some e))) (ht:W.cell? ta=some old) (hf:W.frozen? ta=false) :
  (ReflectliteValue.set #[.agg #[.pointer (some ⟨8,73,none⟩),.pointer (some ta),.int .u64 406],.agg #[.pointer (some ⟨8,73,none⟩),.pointer (some b),.int .u64 150]]).run Tryz.prog W
   = .ok (.tuple #[]) (W.setCell ta (.pointer (some e))):=by
 rw [rls]
 simp only [Sem.run_bind,zr3,zsX,Result.andThen]
 simp [ReflectliteValue.flagAddr,loadVar,isAgg,underlying,Tryz.underlying73,hb,Result.andThen,zsp,storeVar,Value.cells,storeCells,Addr.add]
 rw [run_store Tryz.prog W ta _ _ (by rfl)]
 simp [ht,hf]
def asW (w:World) (t e:Addr) (V:TypeId):World:=
 ((((w.alloc (.cells #[.pointer (some t)] 124)).alloc (.cells #[.pointer (some ⟨8,124,none⟩),.pointer (some ⟨w.heap.size,0,none⟩),.int .u64 150] V)).alloc (.cells #[.pointer (some ⟨8,124,none⟩),.pointer (some ⟨w.heap.size,0,none⟩),.int .u64 150] V)).alloc (.cells #[.pointer (some e)] 73)).setCell t (.pointer (some e))
set_option maxHeartbeats 4000000 in
theorem ztY (e t:Addr) (old:Value) (w:World) (hg:w.cell? ⟨1,0,none⟩=some (.iface 160 (.agg #[.pointer (some ⟨8,42,none⟩)]))) (ht0:w.cell? t=some old) (hf0:w.frozen? t=false) :
  Calls Tryz.prog 72 #[.iface 73 (.pointer (some e)),.iface 124 (.pointer (some t))] w fun ev w'=>ev=.returned (.bool true)∧w'=asW w t e 173:=by
 unfold asW
 have h6 := @run_callFunc_extern Tryz.prog 106 _ (fun args=>ReflectliteValue.unpack (args.getD 0 (.tuple #[]))) Tryz.func106 (by kernel_rfl) (by kernel_rfl) (by kernel_rfl) (by kernel_rfl)
 have h7 := @run_callFunc_extern Tryz.prog 107 _ (ReflectliteValue.methodAny (ReflectliteValue.valueError "reflectlite.Value.Type" 0) (fun t _ _ _=>ReflectliteType.toType t)) Tryz.func107 (by kernel_rfl) (by kernel_rfl) (by kernel_rfl) (by kernel_rfl)
 have h8 := @run_callFunc_extern Tryz.prog 108 _ (ReflectliteValue.method (ReflectliteValue.valueError "reflectlite.Value.IsNil" 0) ReflectliteValue.isNil) Tryz.func108 (by kernel_rfl) (by kernel_rfl) (by kernel_rfl) (by kernel_rfl)
 have h27 := @run_callFunc_extern Tryz.prog 239 _ (ReflectliteType.abiMethod fun t=>do pure (.int .u8 (←Rtype.kind t))) Tryz.func239 (by kernel_rfl) (by kernel_rfl) (by kernel_rfl) (by kernel_rfl)
 have h37 := @run_callFunc_extern Tryz.prog 248 _ (ReflectliteType.method ReflectliteType.elem) Tryz.func248 (by kernel_rfl) (by kernel_rfl) (by kernel_rfl) (by kernel_rfl)
 have h38 := @run_callFunc_extern Tryz.prog 249 _ (ReflectliteType.relation "Implements" ReflectliteType.implements_) Tryz.func249 (by kernel_rfl) (by kernel_rfl) (by kernel_rfl) (by kernel_rfl)
 have h10 := @run_callFunc_extern Tryz.prog 70 _ ReflectliteType.typeOf Tryz.func70 (by kernel_rfl) (by kernel_rfl) (by kernel_rfl) (by kernel_rfl)
 have h35 := @run_callFunc_extern Tryz.prog 246 _ (ReflectliteType.relation "AssignableTo" ReflectliteType.assignableTo) Tryz.func246 (by kernel_rfl) (by kernel_rfl) (by kernel_rfl) (by kernel_rfl)
 have h11 := @run_callFunc_extern Tryz.prog 139 _ (ReflectliteValue.method (ReflectliteValue.valueError "reflectlite.Value.Elem" 0) ReflectliteValue.elem) Tryz.func139 (by kernel_rfl) (by kernel_rfl) (by kernel_rfl) (by kernel_rfl)
 have h12 := @run_callFunc_extern Tryz.prog 140 _ ReflectliteValue.set Tryz.func140 (by kernel_rfl) (by kernel_rfl) (by kernel_rfl) (by kernel_rfl)
 have tO:=zrD
 have mA:=zkC
 have a25:=zoz
 have v25:=zqO
 have f6:=zpG
 have f7:=zsF
 have mK:=zpV
 have mE:=zpW
 have mI:=zlO
 have k27:=zs6
 have k25:=ztS
 have e27:=ztf
 have i25:=zoj
 have n8:=zsg ⟨w.heap.size,0,none⟩ t ((w.alloc (.cells #[.pointer (some t)] 124)).alloc (.cells #[.pointer (some ⟨8,124,none⟩),.pointer (some ⟨w.heap.size,0,none⟩),.int .u64 150] 173)) (by simp)
 have hlt:1<w.heap.size:=by
  rcases Nat.lt_or_ge 1 w.heap.size with h | h
  ·exact h
  ·simp [World.cell?,Array.getElem?_eq_none h] at hg
 have hg2:((w.alloc (.cells #[.pointer (some t)] 124)).alloc (.cells #[.pointer (some ⟨8,124,none⟩),.pointer (some ⟨w.heap.size,0,none⟩),.int .u64 150] 173)).cell? ⟨1,0,none⟩=some (.iface 160 (.agg #[.pointer (some ⟨8,42,none⟩)])):=by
  rw [World.cell?_alloc_lt _ _ ⟨1,0,none⟩ (by simp;omega),World.cell?_alloc_lt _ _ ⟨1,0,none⟩ hlt];exact hg
 have htl:t.block<w.heap.size:=by
  rcases Nat.lt_or_ge t.block w.heap.size with h | h
  ·exact h
  ·simp [World.cell?,Array.getElem?_eq_none h] at ht0
 have el:=zsn ⟨w.heap.size,0,none⟩ t (((w.alloc (.cells #[.pointer (some t)] 124)).alloc (.cells #[.pointer (some ⟨8,124,none⟩),.pointer (some ⟨w.heap.size,0,none⟩),.int .u64 150] 173)).alloc (.cells #[.pointer (some ⟨8,124,none⟩),.pointer (some ⟨w.heap.size,0,none⟩),.int .u64 150] 173)) (by rw [World.cell?_alloc_lt _ _ ⟨w.heap.size,0,none⟩ (by simp;omega)];simp)
 have st:=zt7 t ⟨w.heap.size+1+1+1,0,none⟩ e old ((((w.alloc (.cells #[.pointer (some t)] 124)).alloc (.cells #[.pointer (some ⟨8,124,none⟩),.pointer (some ⟨w.heap.size,0,none⟩),.int .u64 150] 173)).alloc (.cells #[.pointer (some ⟨8,124,none⟩),.pointer (some ⟨w.heap.size,0,none⟩),.int .u64 150] 173)).alloc (.cells #[.pointer (some e)] 73))
  (by rw [World.cell?_alloc_at _ _ _ _ (by simp)];rfl)
  (by rw [World.cell?_alloc_lt _ _ t (by simp;omega),World.cell?_alloc_lt _ _ t (by simp;omega),World.cell?_alloc_lt _ _ t (by simp;omega),World.cell?_alloc_lt _ _ t htl];exact ht0)
  (by rw [World.frozen?_alloc_old _ _ t (by simp;omega),World.frozen?_alloc_old _ _ t (by simp;omega),World.frozen?_alloc_old _ _ t (by simp;omega),World.frozen?_alloc_old _ _ t (Nat.ne_of_lt htl)];exact hf0)
 go_enter Tryz.func72,Tryz.ntmps72
 go_wp2
 refine wp_loop_rounds 1 ?_
 rw [rounds_succ]
 go_wp2
 go_ret
 exact ⟨rfl,rfl⟩
end Go.Lf
namespace Go.Lf
open Go Go.Proofs
theorem zqJ {κ:K} {b:Nat} {v:Value} (h:κ.cell b 0=some v) (C:Cx) (d:Nat):(W C κ d).cell? ⟨b,0,none⟩=some v:=by
 unfold K.cell at h
 unfold World.cell?
 show (match κ.H[b]? with | some (.cells c _ _)=>(if (none:Option _).isSome then none else c[0]?) | _=>none)=some v
 split at h
 ·rename_i hH;rw [hH];exact h
 ·cases h
theorem zmG (C:Cx) (κ:K) (d:Nat) (o:Obj) (τ:Tag):(W C κ d).alloc o=W C (κ.push o 0 τ) d:=rfl
theorem zl1 {κ:K} (v:Value):Fn Tryz.prog 72 #[.nilIface,v] κ (fun r κ'=>κ=κ'∧r=.bool false):=
 Fn.same (fun w=>ztX v w) ⟨rfl,rfl⟩
theorem zor {κ:K} {τ:Tag} {e t:Nat} {old:Value} (G0:Glob κ) (B:Box τ κ t [old] 73) :
  Fn Tryz.prog 72 #[.iface 73 (pt e 0),.iface 124 (pt t 0)] κ (fun v κ'=>Step [t] κ κ'∧v=.bool true∧Box τ κ' t [pt e 0] 73):=by
 intro C d
 have hty:=zqJ ((Globg.ety G0).2.2 0 _ rfl) C d
 have ht0:=zqJ (B.at.one (o:=0) rfl) C d
 have hf0:(W C κ d).frozen? ⟨t,0,none⟩=false:=by
  unfold World.frozen? W
  have:=B.obj
  simp [this]
 refine (ztY ⟨e,0,none⟩ ⟨t,0,none⟩ old (W C κ d) hty ht0 hf0).mono ?_
 rintro ev w' ⟨rfl,rfl⟩
 unfold asW
 obtain ⟨κ1,h1⟩:∃ z,z=κ.push (.cells #[pt t 0] 124) 0 (0,0):=⟨_,rfl⟩
 obtain ⟨κ2,h2⟩:∃ z,z=κ1.push (.cells #[pt 8 124,pt ((W C κ d).heap.size) 0,.int .u64 150] 173) 0 (0,0):=⟨_,rfl⟩
 obtain ⟨κ3,h3⟩:∃ z,z=κ2.push (.cells #[pt 8 124,pt ((W C κ d).heap.size) 0,.int .u64 150] 173) 0 (0,0):=⟨_,rfl⟩
 obtain ⟨κ4,h4⟩:∃ z,z=κ3.push (.cells #[pt e 0] 73) 0 (0,0):=⟨_,rfl⟩
 have s1:Step [] κ κ1:=h1▸zaZ _ _ _ _
 have s2:Step [] κ1 κ2:=h2▸zaZ _ _ _ _
 have s3:Step [] κ2 κ3:=h3▸zaZ _ _ _ _
 have s4:Step [] κ3 κ4:=h4▸zaZ _ _ _ _
 have s:Step [] κ κ4:=((s1.trans s2).trans s3).trans s4
 have B4:=B.step0 s
 rw [zmG (τ:=(0,0)),←h1,zmG (τ:=(0,0)),←h2,zmG (τ:=(0,0)),←h3,zmG (τ:=(0,0)),←h4,zn2 B4]
 exact ⟨_,_,_,rfl,rfl,(s.mono (by simp)).trans (zgi B4),rfl,zgY B4⟩
theorem znC {κ:K}:Fn Tryz.prog 37 #[.nilIface] κ (fun v κ'=>Step [] κ κ'∧v=.tuple #[iv 0,iv 0]):=by
 refine fnc 16 [] Tryz.func37 Tryz.ntmps37 fun hs=>?_
 refine csr ?_
 refine op 2 (iv 0) ?_
 refine op 3 (iv 0) ?_
 refine otx ?_
 refine zz (d:=4) (T:=73) (κ.H.size,37001) (Nat.le_refl _) [.pointer none] kr kr kr fun b κ1 s1 B=>?_
 refine ot ?_
 refine cs ?_
 refine csr ?_
 refine op 5 .nilIface ?_
 refine op 6 (.iface 124 (pt b 0)) ?_
 refine ocl 7 (zl1 (.iface 124 (pt b 0))) ?_
 rintro _ _ ⟨rfl,rfl⟩
 refine ot ?_
 refine cf ?_
 refine ckt ?_
 refine csr ?_
 refine op 2 (iv 0) ?_
 refine op 3 (iv 0) ?_
 refine ot ?_
 refine crt ?_
 refine rt [.tmp 2,.tmp 3] [iv 0,iv 0] ⟨rfl,rfl,trivial⟩ ?_
 exact ⟨s1,rfl⟩
theorem zm5 {κ:K} {e:Nat} {l c:Int} (G0:Glob κ) (hp:PubAt κ e 0 [iv l,iv c]) :
  Fn Tryz.prog 37 #[.iface 73 (pt e 0)] κ (fun v κ'=>Step [] κ κ'∧v=.tuple #[iv l,iv c]):=by
 refine fnc 16 [] Tryz.func37 Tryz.ntmps37 fun hs=>?_
 refine csr ?_
 refine op 2 (iv 0) ?_
 refine op 3 (iv 0) ?_
 refine otx ?_
 refine zz (d:=4) (T:=73) (κ.H.size,37001) (Nat.le_refl _) [.pointer none] kr kr kr fun b κ1 s1 B=>?_
 refine ot ?_
 refine cs ?_
 refine csr ?_
 refine op 5 (.iface 73 (pt e 0)) ?_
 refine op 6 (.iface 124 (pt b 0)) ?_
 refine ocl 7 (zor (e:=e) (G0.step s1) B) ?_
 rintro _ κ2 ⟨s2,rfl,B2⟩
 have hp2:=(hp.step s1).step s2
 have hs2:Step [] κ κ2:=s1.trB B.ge s2
 refine ot ?_
 refine ct ?_
 refine cs ?_
 refine cd 9 ?_
 refine d1 8 73 (pt e 0) (B2.at.one (o:=0) rfl) ?_
 refine dp 9 (pt e 0) ?_
 refine dp 10 (pt e 0) ?_
 refine d1 11 3 (iv l) (hp2.at.one (o:=0) rfl) ?_
 refine d1 12 73 (pt e 0) (B2.at.one (o:=0) rfl) ?_
 refine dp 13 (pt e 0) ?_
 refine dp 14 (pt e 1) ?_
 refine d1 15 2 (iv c) (hp2.at.one (o:=1) rfl) ?_
 refine dp 2 (iv l) ?_
 refine de ?_
 refine op 3 (iv c) ?_
 refine ot ?_
 refine crt ?_
 refine zb ?_
 refine rt [.tmp 2,.tmp 3] [iv l,iv c] ⟨rfl,rfl,trivial⟩ ?_
 exact ⟨hs2,rfl⟩
theorem znc {κ:K} {p0:Er} {v1:Value} {p1:Int} (f2:ErV κ v1 p0) (hb3:I64 p1) (G0:Glob κ) {r:Int×Int} (hr:zjO p0 p1=some r) :
  Fn Tryz.prog 15 #[v1,iv p1] κ (fun v κ'=>Step [] κ κ'∧v=.tuple #[iv r.1,iv r.2]∧I64 r.1∧I64 r.2):=by
 obtain ⟨bw,hw⟩:=Globg.whole G0
 refine fnc 14 [] Tryz.func15 Tryz.ntmps15 fun hs=>?_
 refine csr ?_
 refine op 4 (iv 0) ?_
 refine op 5 (iv 0) ?_
 refine ot ?_
 refine cs ?_
 refine csr ?_
 refine op 6 v1 ?_
 refine o1 7 42 (.iface 285 (.pointer (some bw))) (hw.at.one (o:=0) rfl) ?_
 have hi0:I64 0:=by unfold I64;omega
 cases p0 with
 | nil=>
  obtain rfl:=sj hr
  have hv:v1=.nilIface:=f2
  subst hv
  refine ocl 8 (Fn.same (R:=fun v κ'=>κ=κ'∧v=.bool false) (fun w=>ztT bw w) ⟨rfl,rfl⟩) ?_
  rintro _ _ ⟨rfl,rfl⟩
  refine ot ?_
  refine cf ?_
  refine ckt ?_
  refine csr ?_
  refine op 10 .nilIface ?_
  refine ocl 11 znC ?_
  rintro _ κ1 ⟨s1,rfl⟩
  refine op 12 (iv 0) ?_
  refine op 13 (iv 0) ?_
  refine op 4 (iv 0) ?_
  refine op 5 (iv 0) ?_
  refine ot ?_
  refine crt ?_
  refine rt [.tmp 4,.tmp 5] [iv 0,iv 0] ⟨rfl,rfl,trivial⟩ ?_
  exact ⟨s1,rfl,hi0,hi0⟩
 | line l c=>
  obtain rfl:=sj hr
  obtain ⟨b,rfl,hp,h1,h2⟩:=f2
  refine ocl 8 (Fn.same (R:=fun v κ'=>κ=κ'∧v=.bool false) (fun w=>zs8 ⟨b,0,none⟩ bw w) ⟨rfl,rfl⟩) ?_
  rintro _ _ ⟨rfl,rfl⟩
  refine ot ?_
  refine cf ?_
  refine ckt ?_
  refine csr ?_
  refine op 10 (.iface 73 (pt b 0)) ?_
  refine ocl 11 (zm5 G0 hp) ?_
  rintro _ κ1 ⟨s1,rfl⟩
  refine op 12 (iv l) ?_
  refine op 13 (iv c) ?_
  refine op 4 (iv l) ?_
  refine op 5 (iv c) ?_
  refine ot ?_
  refine crt ?_
  refine rt [.tmp 4,.tmp 5] [iv l,iv c] ⟨rfl,rfl,trivial⟩ ?_
  exact ⟨s1,rfl,h1,h2⟩
 | whole=>
  obtain rfl:=sj hr
  have h0:=ErV.cell f2
  have hw0:=hw.2.2 0 _ rfl
  have hv:v1=.iface 285 (.pointer (some bw)):=by
   have hw0:κ.cell 0 0=some (.iface 285 (.pointer (some bw))):=hw0
   rw [h0] at hw0
   injection hw0
  subst hv
  refine ocl 8 (Fn.same (R:=fun v κ'=>κ=κ'∧v=.bool true) (fun w=>zs7 bw w) ⟨rfl,rfl⟩) ?_
  rintro _ _ ⟨rfl,rfl⟩
  refine ot ?_
  refine ct ?_
  refine csr ?_
  refine op 9 (iv p1) ?_
  refine op 4 (iv 0) ?_
  refine op 5 (iv p1) ?_
  refine ot ?_
  refine crt ?_
  refine zb ?_
  refine rt [.tmp 4,.tmp 5] [iv 0,iv p1] ⟨rfl,rfl,trivial⟩ ?_
  exact ⟨hs,rfl,hi0,hb3⟩
 | other=>cases hr
theorem zeS {κ:K} {τ:Tag} {eP eG:TypeId} {a:OA} {n:Nat} {bs:List Nat} {L:LI} {ix r:Int} (F:Fst τ κ eP eG a n bs L) (hn:0≤ix∧ix.toNat<bs.length) (hr:iter (gstep L) ix=some r) :
 Fn Tryz.prog 195 #[pt (nb bs ix) 0] κ (fun v κ'=>κ=κ'∧v=pt (nb bs r) 0):=by
 refine fnc 13 [] Tryz.func195 Tryz.ntmps195 fun hs=>csr (op 2 (.pointer none) (ot (cs (cb 0 ?_))))
 refine zj 0 (fun Z=>∀ (E0:Env),Z (upd E0 0 (pt (nb bs r) 0)) κ) ?_ fun J1=>?_
 ·intro E0
  refine zg (za (csr (op 12 (pt (nb bs r) 0) (op 2 (pt (nb bs r) 0) (ot (crt (rt [.tmp 2] [pt (nb bs r) 0] ⟨rfl,trivial⟩ ?_)))))))
  exact ⟨rfl,rfl⟩
 refine zo (F:=gstep L) (J:=fun (s:Int) (E':Env) (κ':K)=>(∃ E0,E'=upd E0 0 (pt (nb bs s) 0))∧κ=κ'∧(0≤s∧s.toNat<bs.length)) (s0:=ix) (x:=r) kr hr ⟨⟨_,(eA 0 rfl)⟩,rfl,hn⟩ ?_
 rintro s _ _ ⟨⟨E0,rfl⟩,rfl,hb⟩ yy hy hd
 unfold gstep at hy
 obtain ⟨p,hp,hy⟩:=bind_some hy
 have hl:=F.lead hp
 refine cs (csr (op 3 (pt (nb bs s) 0) (op 4 (pt (nb bs s) 0) (op 5 (pt (nb bs s) 0) ?_))))
 by_cases hz:p<0
 ·rw [if_pos hz] at hy
  have hl':κ.cell (nb bs s) 0=some (.pointer none):=by rw [hl];unfold ldr;rw [if_pos hz]
  refine o1 6 272 (.pointer none) hl' (op 7 (.bool false) (ot (cf (cx 0 (zh ?_)))))
  have hx:=hd _ (sj hy).symm
  subst hx
  refine zi ?_
  exact zr (eA 0 rfl) (J1 _)
 rw [if_neg hz] at hy
 have hl':κ.cell (nb bs s) 0=some (pt (nb bs p) 0):=by rw [hl];unfold ldr;rw [if_neg hz]
 refine o1 6 272 (pt (nb bs p) 0) hl' (op 7 (.bool true) (ot (ct (ckt (cb 1 (cr (op 8 (pt (nb bs s) 0) (op 9 (pt (nb bs s) 0) (op 10 (pt (nb bs s) 0) ?_)))))))))
 refine o1 11 272 (pt (nb bs p) 0) hl' (op 0 (pt (nb bs p) 0) (oe (zd ?_)))
 exact ze (sj hy).symm ⟨⟨_,(eA 0 rfl)⟩,rfl,Int.not_lt.1 hz,F.rng s.toNat p (ze2 hp).2.2⟩
theorem zim {κ:K} {p0:BS} {p1:Int} (hb1:p0.length≤9223372036854775807) (hb2:0≤p1∧p1≤255) {r:LW} (hr:zcE p0 p1=some r) :
 Fn Tryz.prog 22 #[strV p0,.int .u8 p1] κ (fun v κ'=>Step [] κ κ'∧∃ (a3:OA) (c4:Nat),v=sl a3 r.length c4∧Sl tStr κ' a3 c4 r):=by
 refine fnc 35 [] Tryz.func22 Tryz.ntmps22 fun hs=>csr (op 4 (sl none 0 0) (otx (zO (d:=8) (T:=36) (e:=9) (t:=tStr) (pub:=true) (τ:=(κ.H.size,22001)) (len:=0) (l:=[]) (parts:=#[]) (cs:=[]) kr kr kr kr hs.1 rfl rfl kr fun a8 κ6 s7 f9=>?_)))
 replace hs:=hs.tr0 s7
 refine op 5 (sl a8 0 0) (otx (op 6 (iv 0) (ot (cs (csr (op 7 (iv 0) (ot (cb 0 ?_))))))))
 refine zj 0 (fun Z=>∀ (y19:LW) (y23:Int) (a21:OA) (c22:Nat) (E0:Env) (κ25:K) (hs:Step [] κ κ25) (f20:Gr tStr true (κ.H.size,22001) κ25 9 a21 c22 y19) (hb24:I64 y23),zgn p0 y19 y23=some r→Z (upd (upd (upd (E0) 0 (strV p0)) 5 (sl a21 y19.length c22)) 6 (iv y23)) κ25) ?_ fun J1=>?_
 ·intro y19 y23 a21 c22 E0 κ25 hs f20 hb24 hr
  refine zg (za (csr (op 29 (sl a21 y19.length c22) (op 30 (strV p0) (op 31 (iv y23) ?_)))))
  obtain ⟨x26,hx26,hr⟩:=bind_some hr
  refine oq 32 (strV x26) (fun _=>zdn (T:=9) (s:=p0) (lo:=(some y23)) (hi:=none) kr kr hx26) (zO (d:=33) (T:=36) (e:=9) (t:=tStr) (pub:=true) (τ:=(κ.H.size,22003)) (len:=1) (l:=[x26]) (parts:=#[(0,strV x26)]) (cs:=[strV x26]) kr kr kr kr hs.1 rfl ⟨_,_,rfl,⟨rfl,(zd3 hx26 hb1)⟩,rfl⟩ kr fun a29 κ27 s28 f30=>?_)
  replace hs:=hs.tr0 s28
  replace f20:=f20.step0 s28
  obtain ⟨x32,hx32,hr⟩:=bind_some hr
  refine zM (d:=34) (T:=36) (e:=9) (t:=tStr) (pub:=true) (τ:=(κ.H.size,22001)) (bytes:=16) (a:=a21) (cp:=c22) (l:=y19) (a2:=a29) (c2:=1) (l2:=[x26]) kr kr f20 f30.sl hs.1 kr hx32 fun a35 c36 κ33 s34 f37 hw=>?_
  clear hw
  replace hs:=hs.trG (f20.own (Nat.le_refl _)) s34
  refine op 4 (sl a35 x32.length c36) (ot (crt ?_))
  obtain rfl:=sj hr
  refine rt [.tmp 4] [sl a35 x32.length c36] ⟨rfl,trivial⟩ ?_
  exact ⟨hs,_,_,rfl,f37.sl⟩
 obtain ⟨x38,hx38,hrx38⟩:=bind_some hr
 refine zo (F:=zan p0 p1) (J:=fun (sx38:LW×Int×Int) (E':Env) (κ':K)=>∃ (a13:OA) (c14:Nat),(∃ E0,E'=upd (upd (upd (upd (upd (E0) 0 (strV p0)) 1 (.int .u8 p1)) 5 (sl a13 sx38.1.length c14)) 6 (iv sx38.2.1)) 7 (iv sx38.2.2))∧Step [] κ κ'∧Gr tStr true (κ.H.size,22001) κ' 9 a13 c14 sx38.1∧I64 sx38.2.1∧I64 sx38.2.2) (s0:=([],0,0)) (x:=x38) kr hx38 ⟨_,_,⟨_,(eA 7 (eA 6 (eA 5 (eA 1 (eA 0 rfl)))))⟩,hs,f9,(show I64 0 by unfold I64;omega),(show I64 0 by unfold I64;omega)⟩ ?_
 rintro sx38 _ κ39 ⟨a13,c14,⟨E0,rfl⟩,hs,f12,hb16,hb18⟩ yyx38 hr hdx38
 refine cs (csr (op 9 (iv sx38.2.2) (op 10 (strV p0) (op 11 (iv (p0.length:Int)) (op 12 (bW (sx38.2.2<(p0.length:Int))) (ot ?_))))))
 refine cc (decide (sx38.2.2<(p0.length:Int))) hr ?_ ?_
 ·intro hc hr
  refine ckt ?_
  refine zl (fun Z=>∀ (y40:LW) (y44:Int) (a42:OA) (c43:Nat) (E0:Env) (κ46:K) (hs:Step [] κ κ46) (f41:Gr tStr true (κ.H.size,22001) κ46 9 a42 c43 y40) (hb45:I64 y44),zcZ sx38 y40 y44=some yyx38→cwp Tryz.prog 35 (sub (zC Tryz.f22) [1,1,0,0,1,0,1,1,1]) Z (upd (upd (upd (upd (upd (E0) 0 (strV p0)) 1 (.int .u8 p1)) 5 (sl a42 y40.length c43)) 6 (iv y44)) 7 (iv sx38.2.2)) κ46) ?_ fun J2=>?_
  ·intro y40 y44 a42 c43 E0 κ46 hs f41 hb45 hr
   refine cr (op 13 (iv sx38.2.2) (op 14 (iv (w64 (sx38.2.2+1))) (op 7 (iv (w64 (sx38.2.2+1))) (oe ?_))))
   exact ze (sj hr).symm ⟨_,_,⟨_,(eA 7 (eA 6 (eA 5 (eA 1 (eA 0 rfl)))))⟩,hs,f41,hb45,(zq _)⟩
  refine cs (cb 1 (csr (op 15 (strV p0) (op 16 (iv sx38.2.2) ?_))))
  obtain ⟨x47,hx47,hr⟩:=bind_some hr
  refine oq 17 (.int .u8 (x47.toNat:Int)) (fun _=>zaN 9 .i64 kr kr hx47) (op 18 (.int .u8 p1) (op 19 (bW ((x47.toNat:Int)=p1)) (ot ?_)))
  refine cc (decide ((x47.toNat:Int)=p1)) hr ?_ ?_
  ·intro hc hr
   refine csr (op 20 (sl a13 sx38.1.length c14) (op 21 (strV p0) (op 22 (iv sx38.2.1) (op 23 (iv sx38.2.2) ?_))))
   obtain ⟨x48,hx48,hr⟩:=bind_some hr
   refine oq 24 (strV x48) (fun _=>zdn (T:=9) (s:=p0) (lo:=(some sx38.2.1)) (hi:=(some sx38.2.2)) kr kr hx48) (zO (d:=25) (T:=36) (e:=9) (t:=tStr) (pub:=true) (τ:=(κ.H.size,22002)) (len:=1) (l:=[x48]) (parts:=#[(0,strV x48)]) (cs:=[strV x48]) kr kr kr kr hs.1 rfl ⟨_,_,rfl,⟨rfl,(zd3 hx48 hb1)⟩,rfl⟩ kr fun a51 κ49 s50 f52=>?_)
   replace hs:=hs.tr0 s50
   replace f12:=f12.step0 s50
   obtain ⟨x54,hx54,hr⟩:=bind_some hr
   refine zM (d:=26) (T:=36) (e:=9) (t:=tStr) (pub:=true) (τ:=(κ.H.size,22001)) (bytes:=16) (a:=a13) (cp:=c14) (l:=sx38.1) (a2:=a51) (c2:=1) (l2:=[x48]) kr kr f12 f52.sl hs.1 kr hx54 fun a57 c58 κ55 s56 f59 hw=>?_
   clear hw
   replace hs:=hs.trG (f12.own (Nat.le_refl _)) s56
   refine op 5 (sl a57 x54.length c58) (otr (op 27 (iv sx38.2.2) (op 28 (iv (w64 (sx38.2.2+1))) (op 6 (iv (w64 (sx38.2.2+1))) (oe (zd (za ?_)))))))
   exact zk (eA 7 (eA 6 (eA 5 (eA 1 (eA 0 rfl))))) (J2 x54 (w64 (sx38.2.2+1)) _ _ _ _ hs f59 (zq _) hr)
  intro hc hr
  refine ck (zd (za ?_))
  exact zk (eA 7 (eA 6 (eA 5 (eA 1 (eA 0 rfl))))) (J2 sx38.1 sx38.2.1 _ _ _ _ hs f12 hb16 hr)
 intro hc hr
 refine cx 0 (zh ?_)
 have hx:=hdx38 _ (sj hr).symm
 subst hx
 replace hr:=hrx38
 refine zi ?_
 exact zr (eA 6 (eA 5 (eA 0 rfl))) (J1 sx38.1 sx38.2.1 _ _ _ _ hs f12 hb16 hr)
theorem zlG {κ:K} {p0:BS} (hb1:p0.length≤9223372036854775807) {r:LW} (hr:zgE p0=some r) :
 Fn Tryz.prog 9 #[strV p0] κ (fun v κ'=>Step [] κ κ'∧∃ (a2:OA) (c3:Nat),v=sl a2 r.length c3∧Sl tStr κ' a2 c3 r):=by
 refine fnc 22 [] Tryz.func9 Tryz.ntmps9 fun hs=>csr (op 2 (sl none 0 0) (ot (cs (csr (op 4 (strV p0) (oq 5 (bW (p0=([]:BS))) (fun _=>zci kr) (ot ?_)))))))
 refine cc (decide (p0=([]:BS))) hr ?_ ?_
 ·intro hc hr
  refine csr (zO (d:=6) (T:=36) (e:=9) (t:=tStr) (pub:=true) (τ:=(κ.H.size,9001)) (len:=0) (l:=[]) (parts:=#[]) (cs:=[]) kr kr kr kr hs.1 rfl rfl kr fun a7 κ5 s6 f8=>?_)
  replace hs:=hs.tr0 s6
  refine op 2 (sl a7 0 0) (ot (crt (zb ?_)))
  obtain rfl:=sj hr
  refine rt [.tmp 2] [sl a7 0 0] ⟨rfl,trivial⟩ ?_
  exact ⟨hs,_,_,rfl,f8.sl⟩
 intro hc hr
 refine ckt (csr (op 7 (strV p0) ?_))
 obtain ⟨x10,hx10,hr⟩:=bind_some hr
 refine ocl 8 (zim hb1 (show (0:Int)≤10∧(10:Int)≤255 by omega) hx10) ?_
 rintro _ κ14 ⟨s15,a11,c12,rfl,f13⟩
 replace hs:=hs.tr0 s15
 refine op 3 (sl a11 x10.length c12) (ot ?_)
 refine zl (fun Z=>∀ (y16:LW) (a17:OA) (c18:Nat) (E0:Env) (f19:Sl tStr κ14 a17 c18 y16),zeu y16=some r→cwp Tryz.prog 22 (sub (zC Tryz.f9) [1,1,1,1]) Z (upd (E0) 3 (sl a17 y16.length c18)) κ14) ?_ fun J1=>?_
 ·intro y16 a17 c18 E0 f19 hr
  refine csr (op 21 (sl a17 y16.length c18) (op 2 (sl a17 y16.length c18) (ot (crt ?_))))
  obtain rfl:=sj hr
  refine rt [.tmp 2] [sl a17 y16.length c18] ⟨rfl,trivial⟩ ?_
  exact ⟨hs,_,_,rfl,f19⟩
 refine cs (csr (op 9 (sl a11 x10.length c12) (op 10 (sl a11 x10.length c12) (op 11 (iv (x10.length:Int)) (op 12 (iv (w64 ((x10.length:Int) - 1))) ?_)))))
 obtain ⟨x20,hx20,hr⟩:=bind_some hr
 obtain ⟨b21,o22,eab21,i0x20,i1x20,csx20,p_b21,owx20⟩:=f13.idx hx20
 obtain ⟨rfl,hb23⟩:=owx20
 replace p_b21:PubAt κ14 b21 (o22+(w64 ((x10.length:Int) - 1)).toNat*1) [strV x20]:=p_b21
 refine oi 13 36 9 1 x10.length c12 .i64 (w64 ((x10.length:Int) - 1)) eab21 i0x20 i1x20 (o1 14 9 (strV x20) (p_b21.at.one (o:=0) rfl) (oq 15 (bW (x20=([]:BS))) (fun _=>zci kr) (ot ?_)))
 refine cc (decide (x20=([]:BS))) hr ?_ ?_
 ·intro hc hr
  refine cr (op 16 (sl a11 x10.length c12) (op 17 (sl a11 x10.length c12) (op 18 (iv (x10.length:Int)) (op 19 (iv (w64 ((x10.length:Int) - 1))) ?_))))
  obtain ⟨x24,hx24,hr⟩:=bind_some hr
  refine zo0 (d:=20) (T:=36) (e:=9) (t:=tStr) (lo:=none) (hi:=(some (w64 ((x10.length:Int) - 1)))) kr kr kr kr f13 hx24 fun a25 c26 f27=>op 3 (sl a25 x24.length c26) (ot ?_)
  exact zk (eA 3 rfl) (J1 x24 _ _ _ f27 hr)
 intro hc hr
 refine ckt ?_
 exact zk (eA 3 rfl) (J1 x10 _ _ _ f13 hr)
theorem zio {κ:K} {p0:Int} (hb1:0≤p0∧p0≤255) {r:Bool} (hr:zeY p0=some r) :
 Fn Tryz.prog 47 #[.int .u8 p0] κ (fun v κ'=>κ=κ'∧v=.bool r):=by
 refine fnc 9 [] Tryz.func47 Tryz.ntmps47 fun hs=>csr (op 2 (.bool false) (otx (op 3 (.int .u8 p0) (op 4 (bW (p0≥48)) ?_))))
 refine osp 5 (decide (p0≥48)) hr ?_ ?_
 ·intro hg hr
  refine os 6 (os 7 (op 8 (.bool false) (op 2 (.bool false) (ot (crt ?_)))))
  obtain rfl:=sj hr
  refine rt [.tmp 2] [.bool false] ⟨rfl,trivial⟩ ?_
  exact ⟨rfl,rfl⟩
 intro hg hr
 refine op 6 (.int .u8 p0) (op 7 (bW (p0≤57)) (op 8 (bW (p0≤57)) (op 2 (bW (p0≤57)) (ot (crt ?_)))))
 obtain rfl:=sj hr
 refine rt [.tmp 2] [bW (p0≤57)] ⟨rfl,trivial⟩ ?_
 exact ⟨rfl,rfl⟩
theorem za8 {κ:K} {p0:Int} {p1:Int} {p2:Int} (hb1:I64 p0) (hb2:I64 p1) (hb3:I64 p2) {r:Bool} (hr:zbz p0 p1 p2=some r) :
 Fn Tryz.prog 48 #[iv p0,iv p1,iv p2] κ (fun v κ'=>κ=κ'∧v=.bool r):=by
 refine fnc 15 [] Tryz.func48 Tryz.ntmps48 fun hs=>csr (op 6 (.bool false) (otx (op 7 (iv p0) (op 8 (iv p1) (op 9 (bW (p0≥p1)) ?_)))))
 refine osp 10 (decide (p0≥p1)) hr ?_ ?_
 ·intro hg hr
  refine os 11 (os 12 (os 13 (op 14 (.bool false) (op 6 (.bool false) (ot (crt ?_))))))
  obtain rfl:=sj hr
  refine rt [.tmp 6] [.bool false] ⟨rfl,trivial⟩ ?_
  exact ⟨rfl,rfl⟩
 intro hg hr
 refine op 11 (iv p0) (op 12 (iv p2) (op 13 (bW (p0≤p2)) (op 14 (bW (p0≤p2)) (op 6 (bW (p0≤p2)) (ot (crt ?_))))))
 obtain rfl:=sj hr
 refine rt [.tmp 6] [bW (p0≤p2)] ⟨rfl,trivial⟩ ?_
 exact ⟨rfl,rfl⟩
theorem zmq {κ:K} {p0:Int} (hb1:I64 p0) {r:BS} (hr:zhk p0=some r) :
 Fn Tryz.prog 49 #[iv p0] κ (fun v κ'=>Step [] κ κ'∧v=strV r∧r.length≤9223372036854775807):=by
 refine fnc 31 [] Tryz.func49 Tryz.ntmps49 fun hs=>csr (op 2 (strV ([]:BS)) (otx (op 3 (strV ([]:BS)) (otx (op 6 (iv p0) (op 4 (iv p0) (ot (cs ?_))))))))
 refine cb 0 ?_
 refine zj 0 (fun Z=>∀ (y7:BS) (E0:Env) (κ9:K) (hs:Step [] κ κ9) (hb8:y7.length≤9223372036854775807),zg4 p0 y7=some r→Z (upd (upd (E0) 0 (iv p0)) 3 (strV y7)) κ9) ?_ fun J1=>?_
 ·intro y7 E0 κ9 hs hb8 hr
  refine zg (za (cs (csr (op 24 (iv p0) (op 25 (bW (p0=0)) (ot ?_))))))
  refine cc (decide (p0=0)) hr ?_ ?_
  ·intro hc hr
   refine csr (op 2 (strV ([48]:BS)) (ot (crt (zb ?_))))
   obtain rfl:=sj hr
   refine rt [.tmp 2] [strV ([48]:BS)] ⟨rfl,trivial⟩ ?_
   exact ⟨hs,rfl,(by simp)⟩
  intro hc hr
  refine ckt (cs (csr (op 26 (iv p0) (op 27 (bW (p0<0)) (ot ?_)))))
  refine cc (decide (p0<0)) hr ?_ ?_
  ·intro hc hr
   refine csr (op 28 (strV y7) ?_)
   obtain ⟨x10,hx10,hr⟩:=bind_some hr
   refine oq 29 (strV x10) (fun _=>zgp kr hx10) (op 2 (strV x10) (ot (crt (zb ?_))))
   obtain rfl:=sj hr
   refine rt [.tmp 2] [strV x10] ⟨rfl,trivial⟩ ?_
   exact ⟨hs,rfl,(zjz hx10)⟩
  intro hc hr
  refine ckt (csr (op 30 (strV y7) (op 2 (strV y7) (ot (crt ?_)))))
  obtain rfl:=sj hr
  refine rt [.tmp 2] [strV y7] ⟨rfl,trivial⟩ ?_
  exact ⟨hs,rfl,hb8⟩
 obtain ⟨x11,hx11,hrx11⟩:=bind_some hr
 refine zo (F:=zcg) (J:=fun (sx11:BS×Int) (E':Env) (κ':K)=>(∃ E0,E'=upd (upd (upd (E0) 0 (iv p0)) 3 (strV sx11.1)) 4 (iv sx11.2))∧Step [] κ κ'∧sx11.1.length≤9223372036854775807∧I64 sx11.2) (s0:=(([]:BS),p0)) (x:=x11) kr hx11 ⟨⟨_,(eA 4 (eA 3 (eA 0 rfl)))⟩,hs,(by simp),hb1⟩ ?_
 rintro sx11 _ κ12 ⟨⟨E0,rfl⟩,hs,hb4,hb6⟩ yyx11 hr hdx11
 refine cs (csr (op 7 (iv sx11.2) (op 8 (.bool (!decide (sx11.2=0))) (ot ?_))))
 refine cc (!decide (sx11.2=0)) hr ?_ ?_
 ·intro hc hr
  refine ckt (cb 1 (csr (op 9 (iv sx11.2) (op 10 (iv (Int.tmod sx11.2 10)) (op 5 (iv (Int.tmod sx11.2 10)) (ot ?_))))))
  refine zl (fun Z=>∀ (y13:Int) (E0:Env) (hb14:I64 y13),ze9 sx11 y13=some yyx11→cwp Tryz.prog 31 (sub (zC Tryz.f49) [1,1,0,1,0,0,0,1,1,1]) Z (upd (upd (upd (upd (E0) 0 (iv p0)) 3 (strV sx11.1)) 4 (iv sx11.2)) 5 (iv y13)) κ12) ?_ fun J2=>?_
  ·intro y13 E0 hb14 hr
   refine csr (op 15 (iv y13) (op 16 (iv (w64 (48+y13))) (op 17 (.int .u8 (IntKind.wrap .u8 (w64 (48+y13)))) (zO (d:=18) (T:=130) (e:=5) (t:=tU8) (pub:=true) (τ:=(κ.H.size,49001)) (len:=1) (l:=[IntKind.wrap .u8 (w64 (48+y13))]) (parts:=#[(0,.int .u8 (IntKind.wrap .u8 (w64 (48+y13))))]) (cs:=[.int .u8 (IntKind.wrap .u8 (w64 (48+y13)))]) kr kr kr kr hs.1 rfl ⟨_,_,rfl,⟨rfl,(zrC _)⟩,rfl⟩ kr fun a17 κ15 s16 f18=>?_))))
   replace hs:=hs.tr0 s16
   refine obs 19 130 9 5 f18.sl (op 20 (strV sx11.1) ?_)
   obtain ⟨x20,hx20,hr⟩:=bind_some hr
   refine oq 21 (strV x20) (fun _=>zgp kr hx20) (op 3 (strV x20) (otr (op 22 (iv sx11.2) (op 23 (iv (w64 (Int.tdiv sx11.2 10))) (op 4 (iv (w64 (Int.tdiv sx11.2 10))) (oe (zd ?_)))))))
   exact ze (sj hr).symm ⟨⟨_,(eA 4 (eA 3 (eA 0 rfl)))⟩,hs,(zjz hx20),(zq _)⟩
  refine cs (csr (op 11 (iv (Int.tmod sx11.2 10)) (op 12 (bW ((Int.tmod sx11.2 10)<0)) (ot ?_))))
  refine cc (decide ((Int.tmod sx11.2 10)<0)) hr ?_ ?_
  ·intro hc hr
   refine cr (op 13 (iv (Int.tmod sx11.2 10)) (op 14 (iv (w64 (0 - (Int.tmod sx11.2 10)))) (op 5 (iv (w64 (0 - (Int.tmod sx11.2 10)))) (ot ?_))))
   exact zk (eA 5 (eA 4 (eA 3 (eA 0 rfl)))) (J2 (w64 (0 - (Int.tmod sx11.2 10)))  _ (zq _) hr)
  intro hc hr
  refine ckt ?_
  exact zk (eA 5 (eA 4 (eA 3 (eA 0 rfl)))) (J2 (Int.tmod sx11.2 10)  _ (zn4 (by decide) hb6) hr)
 intro hc hr
 refine cx 0 (zh ?_)
 have hx:=hdx11 _ (sj hr).symm
 subst hx
 replace hr:=hrx11
 refine zi ?_
 exact zr (eA 3 (eA 0 rfl)) (J1 sx11.1  _ _ hs hb4 hr)
theorem zcL {κ:K} {p0:BS} (hb1:p0.length≤9223372036854775807) {r:Int×Bool} (hr:zaH p0=some r) :
 Fn Tryz.prog 23 #[strV p0] κ (fun v κ'=>Step [] κ κ'∧v=.tuple #[iv r.1,.bool r.2]∧I64 r.1):=by
 refine fnc 56 [] Tryz.func23 Tryz.ntmps23 fun hs=>csr (op 2 (iv 0) (op 3 (.bool false) (ot (cs ?_))))
 refine zl (fun Z=>∀ (y3:Bool) (E0:Env),zcO p0 y3=some r→cwp Tryz.prog 56 (sub (zC Tryz.f23) [1,0,1]) Z (upd (upd (E0) 0 (strV p0)) 13 (.bool y3)) κ) ?_ fun J1=>?_
 ·intro y3 E0 hr
  refine cc (y3) hr ?_ ?_
  ·intro hc hr
   refine csr (op 2 (iv 0) (op 3 (.bool false) (ot (crt (zb ?_)))))
   obtain rfl:=sj hr
   refine rt [.tmp 2,.tmp 3] [iv 0,.bool false] ⟨rfl,rfl,trivial⟩ ?_
   exact ⟨hs,rfl,(show I64 0 by unfold I64;omega)⟩
  intro hc hr
  refine ckt (csr (op 4 (iv 0) (ot (cs (csr (op 5 (iv 0) (ot (cb 0 ?_))))))))
  refine zj 0 (fun Z=>∀ (y8:Int) (E0:Env) (hb9:I64 y8),zcN p0 y8=some r→Z (upd (upd (E0) 0 (strV p0)) 4 (iv y8)) κ) ?_ fun J2=>?_
  ·intro y8 E0 hb9 hr
   refine zg (za ?_)
   refine zl (fun Z=>∀ (y10:Int) (E0:Env) (hb11:I64 y10),zbH p0 y10=some r→cwp Tryz.prog 56 (sub (zC Tryz.f23) [1,1,1,1,1]) Z (upd (upd (E0) 0 (strV p0)) 4 (iv y10)) κ) ?_ fun J3=>?_
   ·intro y10 E0 hb11 hr
    refine cs ?_
    refine zl (fun Z=>∀ (y12:Bool) (E0:Env) (κ13:K) (hs:Step [] κ κ13),zcM y10 y12=some r→cwp Tryz.prog 56 (sub (zC Tryz.f23) [1,0,1,1,1,1,1]) Z (upd (upd (E0) 4 (iv y10)) 54 (.bool y12)) κ13) ?_ fun J4=>?_
    ·intro y12 E0 κ13 hs hr
     refine cc (y12) hr ?_ ?_
     ·intro hc hr
      refine csr (op 2 (iv 0) (op 3 (.bool false) (ot (crt (zb ?_)))))
      obtain rfl:=sj hr
      refine rt [.tmp 2,.tmp 3] [iv 0,.bool false] ⟨rfl,rfl,trivial⟩ ?_
      exact ⟨hs,rfl,(show I64 0 by unfold I64;omega)⟩
     intro hc hr
     refine ckt (csr (op 55 (iv y10) (op 2 (iv y10) (op 3 (.bool true) (ot (crt ?_))))))
     obtain rfl:=sj hr
     refine rt [.tmp 2,.tmp 3] [iv y10,.bool true] ⟨rfl,rfl,trivial⟩ ?_
     exact ⟨hs,rfl,hb11⟩
    refine csr (op 46 (iv y10) ?_)
    obtain ⟨x14,hx14,hr⟩:=bind_some hr
    refine ocl 47 (za8 hb11 (show I64 (-1000000000) by unfold I64;omega) (show I64 1000000000 by unfold I64;omega) hx14) ?_
    rintro _ _ ⟨rfl,rfl⟩
    refine op 48 (.bool (!x14)) ?_
    refine osp 49 (!x14) hr ?_ ?_
    ·intro hg hr
     refine op 50 (iv y10) ?_
     obtain ⟨x16,hx16,hr⟩:=bind_some hr
     refine ocl 51 (zmq hb11 hx16) ?_
     rintro _ κ18 ⟨s19,rfl,hb17⟩
     replace hs:=hs.tr0 s19
     refine op 52 (strV p0) (oq 53 (.bool (!decide (x16=p0))) (fun _=>zch kr) (op 54 (.bool (!decide (x16=p0))) (ot ?_)))
     exact zk (eA 54 (eA 4 rfl)) (J4 (!decide (x16=p0))  _ _ hs  hr)
    intro hg hr
    refine os 50 (os 51 (os 52 (os 53 (op 54 (.bool true) (ot ?_)))))
    exact zk (eA 54 (eA 4 rfl)) (J4 true  _ _ hs  hr)
   refine cs (csr (op 41 (strV p0) ?_))
   obtain ⟨x20,hx20,hr⟩:=bind_some hr
   refine oq 42 (.int .u8 (x20.toNat:Int)) (fun _=>zaN 9 .i64 kr kr hx20) (op 43 (bW ((x20.toNat:Int)=45)) (ot ?_))
   refine cc (decide ((x20.toNat:Int)=45)) hr ?_ ?_
   ·intro hc hr
    refine cr (op 44 (iv y8) (op 45 (iv (w64 (0 - y8))) (op 4 (iv (w64 (0 - y8))) (ot ?_))))
    exact zk (eA 4 (eA 0 rfl)) (J3 (w64 (0 - y8))  _ (zq _) hr)
   intro hc hr
   refine ckt ?_
   exact zk (eA 4 (eA 0 rfl)) (J3 y8  _ hb9 hr)
  obtain ⟨x21,hx21,hrx21⟩:=bind_some hr
  refine zo (F:=zX p0) (J:=fun (sx21:Int×Int) (E':Env) (κ':K)=>(∃ E0,E'=upd (upd (upd (E0) 0 (strV p0)) 4 (iv sx21.1)) 5 (iv sx21.2))∧κ=κ'∧I64 sx21.1∧I64 sx21.2) (s0:=(0,0)) (x:=x21) kr hx21 ⟨⟨_,(eA 5 (eA 4 (eA 0 rfl)))⟩,rfl,(show I64 0 by unfold I64;omega),(show I64 0 by unfold I64;omega)⟩ ?_
  rintro sx21 _ _ ⟨⟨E0,rfl⟩,rfl,hb5,hb7⟩ yyx21 hr hdx21
  refine cs (csr (op 14 (iv sx21.2) (op 15 (strV p0) (op 16 (iv (p0.length:Int)) (op 17 (bW (sx21.2<(p0.length:Int))) (ot ?_))))))
  refine cc (decide (sx21.2<(p0.length:Int))) hr ?_ ?_
  ·intro hc hr
   refine ckt ?_
   refine zl (fun Z=>∀ (y22:Int) (E0:Env) (hb23:I64 y22),zbG sx21 y22=some yyx21→cwp Tryz.prog 56 (sub (zC Tryz.f23) [1,1,0,0,1,0,1,1,1]) Z (upd (upd (upd (E0) 0 (strV p0)) 4 (iv y22)) 5 (iv sx21.2)) κ) ?_ fun J5=>?_
   ·intro y22 E0 hb23 hr
    refine cr (op 18 (iv sx21.2) (op 19 (iv (w64 (sx21.2+1))) (op 5 (iv (w64 (sx21.2+1))) (oe ?_))))
    exact ze (sj hr).symm ⟨⟨_,(eA 5 (eA 4 (eA 0 rfl)))⟩,rfl,hb23,(zq _)⟩
   refine cs (cb 1 (cs ?_))
   refine zl (fun Z=>∀ (y24:Bool) (E0:Env),zau p0 sx21 y24=some yyx21→cwp Tryz.prog 56 (sub (zC Tryz.f23) [1,0,0,0,1,0,0,1,0,1,1,1]) Z (upd (upd (upd (upd (E0) 0 (strV p0)) 4 (iv sx21.1)) 5 (iv sx21.2)) 27 (.bool y24)) κ) ?_ fun J6=>?_
   ·intro y24 E0 hr
    refine cc (y24) hr ?_ ?_
    ·intro hc hr
     refine cx 1 (zh (zg (za ?_)))
     exact zk (eA 5 (eA 4 (eA 0 rfl))) (J5 sx21.1  _ hb5 hr)
    intro hc hr
    refine ckt (cs (csr (op 28 (strV p0) (op 29 (iv sx21.2) ?_))))
    obtain ⟨x25,hx25,hr⟩:=bind_some hr
    refine oq 30 (.int .u8 (x25.toNat:Int)) (fun _=>zaN 9 .i64 kr kr hx25) ?_
    obtain ⟨x26,hx26,hr⟩:=bind_some hr
    refine ocl 31 (zio (zqs _) hx26) ?_
    rintro _ _ ⟨rfl,rfl⟩
    refine op 32 (.bool (!x26)) (ot ?_)
    refine cc (!x26) hr ?_ ?_
    ·intro hc hr
     refine csr (op 2 (iv 0) (op 3 (.bool false) (ot (crt (zb (zf (zb ?_)))))))
     have hx:=hdx21 _ (sj hr).symm
     subst hx
     replace hr:=hrx21
     refine zt (zf (zb ?_))
     obtain rfl:=sj hr
     refine rt [.tmp 2,.tmp 3] [iv 0,.bool false] ⟨rfl,rfl,trivial⟩ ?_
     exact ⟨hs,rfl,(show I64 0 by unfold I64;omega)⟩
    intro hc hr
    refine ckt (cr (op 33 (iv sx21.1) (op 34 (iv (w64 (10*sx21.1))) (op 35 (strV p0) (op 36 (iv sx21.2) ?_)))))
    obtain ⟨x28,hx28,hr⟩:=bind_some hr
    refine oq 37 (.int .u8 (x28.toNat:Int)) (fun _=>zaN 9 .i64 kr kr hx28) (op 38 (.int .u8 (IntKind.wrap .u8 ((x28.toNat:Int) - 48))) (op 39 (iv (w64 (IntKind.wrap .u8 ((x28.toNat:Int) - 48)))) (op 40 (iv (w64 ((w64 (10*sx21.1))+(w64 (IntKind.wrap .u8 ((x28.toNat:Int) - 48)))))) (op 4 (iv (w64 ((w64 (10*sx21.1))+(w64 (IntKind.wrap .u8 ((x28.toNat:Int) - 48)))))) (oe (zd (za ?_)))))))
    exact zk (eA 5 (eA 4 (eA 0 rfl))) (J5 (w64 ((w64 (10*sx21.1))+(w64 (IntKind.wrap .u8 ((x28.toNat:Int) - 48)))))  _ (zq _) hr)
   refine csr (op 20 (iv sx21.2) (op 21 (bW (sx21.2=0)) ?_))
   refine osp 22 (decide (sx21.2=0)) hr ?_ ?_
   ·intro hg hr
    refine os 23 (os 24 (os 25 (os 26 (op 27 (.bool false) (ot ?_)))))
    exact zk (eA 27 (eA 5 (eA 4 (eA 0 rfl)))) (J6 false  _  hr)
   intro hg hr
   refine op 23 (strV p0) (op 24 (iv sx21.2) ?_)
   obtain ⟨x29,hx29,hr⟩:=bind_some hr
   refine oq 25 (.int .u8 (x29.toNat:Int)) (fun _=>zaN 9 .i64 kr kr hx29) (op 26 (bW ((x29.toNat:Int)=45)) (op 27 (bW ((x29.toNat:Int)=45)) (ot ?_)))
   exact zk (eA 27 (eA 5 (eA 4 (eA 0 rfl)))) (J6 (decide ((x29.toNat:Int)=45))  _  hr)
  intro hc hr
  refine cx 0 (zh ?_)
  have hx:=hdx21 _ (sj hr).symm
  subst hx
  replace hr:=hrx21
  refine zi ?_
  exact zr (eA 4 (eA 0 rfl)) (J2 sx21.1  _ hb5 hr)
 refine csr (op 6 (strV p0) (op 7 (iv (p0.length:Int)) (op 8 (bW ((p0.length:Int)<1)) ?_)))
 refine osp 9 (decide ((p0.length:Int)<1)) hr ?_ ?_
 ·intro hg hr
  refine op 10 (strV p0) (op 11 (iv (p0.length:Int)) (op 12 (bW ((p0.length:Int)>11)) (op 13 (bW ((p0.length:Int)>11)) (ot ?_))))
  exact zk (eA 13 (eA 0 rfl)) (J1 (decide ((p0.length:Int)>11))  _  hr)
 intro hg hr
 refine os 10 (os 11 (os 12 (op 13 (.bool true) (ot ?_))))
 exact zk (eA 13 (eA 0 rfl)) (J1 true  _  hr)
theorem zi9 {κ:K} {p0:LG×LT} {pb0 po0:Nat} {a1:OA} {c2:Nat} {a4:OA} {c5:Nat} {p1:BS} (m0:At κ pb0 po0 [sl a1 p0.1.length c2,sl a4 p0.2.length c5]) (f3:Sl tGlue κ a1 c2 p0.1) (f6:Sl zQ κ a4 c5 p0.2) (hb7:p1.length≤9223372036854775807) {r:Int} (hr:zaz p0 p1=some r) :
 Fn Tryz.prog 50 #[pt pb0 po0,strV p1] κ (fun v κ'=>κ=κ'∧v=iv r∧I64 r):=by
 refine fnc 27 [] Tryz.func50 Tryz.ntmps50 fun hs=>csr (op 4 (iv 0) (ot (cs (csr (op 5 (iv 0) (ot (cb 0 ?_)))))))
 refine zj 0 (fun Z=>∀ (E0:Env),zg3=some r→Z (E0) κ) ?_ fun J1=>?_
 ·intro E0 hr
  refine zg (za (csr (op 4 (iv 0) (ot (crt ?_)))))
  obtain rfl:=sj hr
  refine rt [.tmp 4] [iv 0] ⟨rfl,trivial⟩ ?_
  exact ⟨rfl,rfl,(show I64 0 by unfold I64;omega)⟩
 obtain ⟨x11,hx11,hrx11⟩:=bind_some hr
 refine zo (F:=ze7 p0 p1) (J:=fun (sx11:Int) (E':Env) (κ':K)=>(∃ E0,E'=upd (upd (upd (E0) 0 (pt pb0 po0)) 1 (strV p1)) 5 (iv sx11))∧κ=κ'∧I64 sx11) (s0:=0) (x:=x11) kr hx11 ⟨⟨_,(eA 5 (eA 1 (eA 0 rfl)))⟩,rfl,(show I64 0 by unfold I64;omega)⟩ ?_
 rintro sx11 _ _ ⟨⟨E0,rfl⟩,rfl,hb10⟩ yyx11 hr hdx11
 refine cs (csr (op 6 (iv sx11) (op 7 (pt pb0 po0) (op 8 (pt pb0 po0) (op 9 (pt pb0 po0) (o1 10 22 (sl a1 p0.1.length c2) ((m0.step0 hs).one (o:=0) rfl) (op 11 (iv (p0.1.length:Int)) (op 12 (bW (sx11<(p0.1.length:Int))) (ot ?_)))))))))
 refine cc (decide (sx11<(p0.1.length:Int))) hr ?_ ?_
 ·intro hc hr
  refine ckt (cs (cb 1 (csr (op 15 (pt pb0 po0) (op 16 (pt pb0 po0) (op 17 (pt pb0 po0) (o1 18 22 (sl a1 p0.1.length c2) ((m0.step0 hs).one (o:=0) rfl) (op 19 (iv sx11) ?_))))))))
  obtain ⟨x12,hx12,hr⟩:=bind_some hr
  obtain ⟨b13,o14,eab13,i0x12,i1x12,csx12,p_b13,owx12⟩:=f3.idx hx12
  obtain ⟨_,_,rfl,⟨rfl,hb15⟩,⟨rfl,hb16⟩⟩:=owx12
  replace p_b13:PubAt κ b13 (o14+sx11.toNat*2) [strV x12.1,iv x12.2]:=p_b13
  refine oi 20 22 94 2 p0.1.length c2 .i64 sx11 eab13 i0x12 i1x12 (op 21 (pt b13 (o14+sx11.toNat*2)) (o1 22 9 (strV x12.1) (p_b13.at.one (o:=0) rfl) (op 23 (strV p1) (oq 24 (bW (x12.1=p1)) (fun _=>zci kr) (ot ?_)))))
  refine cc (decide (x12.1=p1)) hr ?_ ?_
  ·intro hc hr
   refine csr (op 25 (iv sx11) (op 26 (iv (w64 (sx11+1))) (op 4 (iv (w64 (sx11+1))) (ot (crt (zf (zb ?_)))))))
   have hx:=hdx11 _ (sj hr).symm
   subst hx
   replace hr:=hrx11
   refine zt (zf (zb ?_))
   obtain rfl:=sj hr
   refine rt [.tmp 4] [iv (w64 (sx11+1))] ⟨rfl,trivial⟩ ?_
   exact ⟨rfl,rfl,(zq _)⟩
  intro hc hr
  refine ck (zd (za (cr (op 13 (iv sx11) (op 14 (iv (w64 (sx11+1))) (op 5 (iv (w64 (sx11+1))) (oe ?_)))))))
  exact ze (sj hr).symm ⟨⟨_,(eA 5 (eA 1 (eA 0 rfl)))⟩,rfl,(zq _)⟩
 intro hc hr
 refine cx 0 (zh ?_)
 have hx:=hdx11 _ (sj hr).symm
 subst hx
 replace hr:=hrx11
 refine zi ?_
 exact zr rfl (J1   _  hr)
theorem zin {κ:K} {p0:Int×Int} (hb1:I64 p0.1) (hb2:I64 p0.2) {r:Bool} (hr:zeX p0=some r) :
 Fn Tryz.prog 79 #[.agg #[iv p0.1,iv p0.2]] κ (fun v κ'=>Step [] κ κ'∧v=.bool r):=by
 refine fnc 11 [] Tryz.func79 Tryz.ntmps79 fun hs=>csr (zv (d:=1) (T:=100) (κ.H.size,79001) hs.1 (.agg #[iv p0.1,iv p0.2]) [iv p0.1,iv p0.2] kr kr rfl fun b3 κ4 s5 B_b3=>?_)
 replace hs:=hs.tr0 s5
 refine op 2 (.bool false) (otx (op 3 (pt b3 0) (o1 4 2 (iv p0.1) (B_b3.at.one (o:=0) rfl) ?_)))
 obtain ⟨x6,hx6,hr⟩:=bind_some hr
 refine ocl 5 (za8 hb1 (show I64 (-60) by unfold I64;omega) (show I64 60 by unfold I64;omega) hx6) ?_
 rintro _ _ ⟨rfl,rfl⟩
 refine osp 6 (x6) hr ?_ ?_
 ·intro hg hr
  refine os 7 (os 8 (os 9 (op 10 (.bool false) (op 2 (.bool false) (ot (crt ?_))))))
  obtain rfl:=sj hr
  refine rt [.tmp 2] [.bool false] ⟨rfl,trivial⟩ ?_
  exact ⟨hs,rfl⟩
 intro hg hr
 refine op 7 (pt b3 1) (o1 8 2 (iv p0.2) (B_b3.at.one (o:=1) rfl) ?_)
 obtain ⟨x8,hx8,hr⟩:=bind_some hr
 refine ocl 9 (za8 hb2 (show I64 (-60) by unfold I64;omega) (show I64 60 by unfold I64;omega) hx8) ?_
 rintro _ _ ⟨rfl,rfl⟩
 refine op 10 (.bool x8) (op 2 (.bool x8) (ot (crt ?_)))
 obtain rfl:=sj hr
 refine rt [.tmp 2] [.bool x8] ⟨rfl,trivial⟩ ?_
 exact ⟨hs,rfl⟩
theorem zlc {κ:K} {p0:BS} (hb1:p0.length≤9223372036854775807) {r:(Int×Int)×Bool} (hr:zfT p0=some r) :
 Fn Tryz.prog 51 #[strV p0] κ (fun v κ'=>Step [] κ κ'∧v=.tuple #[.agg #[iv r.1.1,iv r.1.2],.bool r.2]∧I64 r.1.1∧I64 r.1.2):=by
 refine fnc 46 [] Tryz.func51 Tryz.ntmps51 fun hs=>csr (zz (d:=2) (T:=100) (κ.H.size,51001) hs.1 [iv 0,iv 0] kr kr kr fun b4 κ5 s6 B_b4=>?_)
 replace hs:=hs.tr0 s6
 refine op 3 (.bool false) (otx (op 10 (strV p0) ?_))
 obtain ⟨x7,hx7,hr⟩:=bind_some hr
 refine ocl 11 (zim hb1 (show (0:Int)≤44∧(44:Int)≤255 by omega) hx7) ?_
 rintro _ κ11 ⟨s12,a8,c9,rfl,f10⟩
 replace hs:=hs.tr0 s12
 replace B_b4:=B_b4.step0 s12
 refine op 4 (sl a8 x7.length c9) (ot (cs (csr (op 12 (sl a8 x7.length c9) (op 13 (iv (x7.length:Int)) (op 14 (.bool (!decide ((x7.length:Int)=2))) (ot ?_)))))))
 refine cc (!decide ((x7.length:Int)=2)) hr ?_ ?_
 ·intro hc hr
  refine csr (op 15 (.agg #[iv 0,iv 0]) (zn (b:=b4) (off:=0) (T:=100) (.agg #[iv 0,iv 0]) [iv 0,iv 0] [iv 0,iv 0] kr kr B_b4 rfl kr kr kr rfl fun κ13 s14 _ NB_b4=>?_))
  replace hs:=hs.trB B_b4.ge s14
  replace B_b4:=NB_b4
  refine op 3 (.bool false) (ot (crt (zb ?_)))
  obtain rfl:=sj hr
  refine rt [.cell 2 100,.tmp 3] [.agg #[iv 0,iv 0],.bool false] ⟨⟨b4,0,[iv 0,iv 0],rfl,rfl,kr,kr,(B_b4.at.part 0 2).2⟩,rfl,trivial⟩ ?_
  exact ⟨hs,rfl,(show I64 0 by unfold I64;omega),(show I64 0 by unfold I64;omega)⟩
 intro hc hr
 refine ckt (csr (op 17 (sl a8 x7.length c9) ?_))
 obtain ⟨x15,hx15,hr⟩:=bind_some hr
 obtain ⟨b16,o17,eab16,i0x15,i1x15,csx15,p_b16,owx15⟩:=f10.idx hx15
 obtain ⟨rfl,hb18⟩:=owx15
 replace p_b16:PubAt κ11 b16 (o17+(0:Int).toNat*1) [strV x15]:=p_b16
 refine oi 18 36 9 1 x7.length c9 .i64 0 eab16 i0x15 i1x15 (o1 19 9 (strV x15) (p_b16.at.one (o:=0) rfl) ?_)
 obtain ⟨x19,hx19,hr⟩:=bind_some hr
 refine ocl 20 (zcL hb18 hx19) ?_
 rintro _ κ21 ⟨s22,rfl,hb20⟩
 replace hs:=hs.tr0 s22
 replace f10:=f10.step s22
 replace B_b4:=B_b4.step0 s22
 refine op 16 (.tuple #[iv x19.1,.bool x19.2]) (op 21 (iv x19.1) (op 22 (.bool x19.2) (op 5 (iv x19.1) (op 6 (.bool x19.2) (otx (op 24 (sl a8 x7.length c9) ?_))))))
 obtain ⟨x23,hx23,hr⟩:=bind_some hr
 obtain ⟨b24,o25,eab24,i0x23,i1x23,csx23,p_b24,owx23⟩:=f10.idx hx23
 obtain ⟨rfl,hb26⟩:=owx23
 replace p_b24:PubAt κ21 b24 (o25+(1:Int).toNat*1) [strV x23]:=p_b24
 refine oi 25 36 9 1 x7.length c9 .i64 1 eab24 i0x23 i1x23 (o1 26 9 (strV x23) (p_b24.at.one (o:=0) rfl) ?_)
 obtain ⟨x27,hx27,hr⟩:=bind_some hr
 refine ocl 27 (zcL hb26 hx27) ?_
 rintro _ κ29 ⟨s30,rfl,hb28⟩
 replace hs:=hs.tr0 s30
 replace B_b4:=B_b4.step0 s30
 refine op 23 (.tuple #[iv x27.1,.bool x27.2]) (op 28 (iv x27.1) (op 29 (.bool x27.2) (op 7 (iv x27.1) (op 8 (.bool x27.2) (otx (op 30 (iv x19.1) (op 31 (iv x27.1) (op 32 (.agg #[iv x19.1,iv x27.1]) (zz (d:=9) (T:=100) (κ.H.size,51002) hs.1 [iv 0,iv 0] kr kr kr fun b31 κ32 s33 B_b31=>?_)))))))))
 replace hs:=hs.tr0 s33
 replace B_b4:=B_b4.step0 s33
 refine zn (b:=b31) (off:=0) (T:=100) (.agg #[iv x19.1,iv x27.1]) [iv x19.1,iv x27.1] [iv x19.1,iv x27.1] kr kr B_b31 rfl kr kr kr rfl fun κ34 s35 _ NB_b31=>?_
 replace hs:=hs.trB B_b31.ge s35
 replace B_b4:=B_b4.step s35 (nm1 (B_b4.ne B_b31 (zm (N:=κ.H.size) (M:=κ.H.size) (i:=51001) (j:=51002) kr)))
 replace B_b31:=NB_b31
 refine ot (cs ?_)
 refine zl (fun Z=>∀ (y36:Bool) (E0:Env) (κ37:K) (hs:Step [] κ κ37) (B_b4:Box (κ.H.size,51001) κ37 b4 [iv 0,iv 0] 100) (B_b31:Box (κ.H.size,51002) κ37 b31 [iv x19.1,iv x27.1] 100),zcv x19 x27 y36=some r→cwp Tryz.prog 46 (sub (zC Tryz.f51) [1,0,1,1,1,1,1,1]) Z (upd (upd (upd (E0) 2 (pt b4 0)) 9 (pt b31 0)) 43 (.bool y36)) κ37) ?_ fun J1=>?_
 ·intro y36 E0 κ37 hs B_b4 B_b31 hr
  refine cc (y36) hr ?_ ?_
  ·intro hc hr
   refine csr (op 44 (.agg #[iv 0,iv 0]) (zn (b:=b4) (off:=0) (T:=100) (.agg #[iv 0,iv 0]) [iv 0,iv 0] [iv 0,iv 0] kr kr B_b4 rfl kr kr kr rfl fun κ38 s39 _ NB_b4=>?_))
   replace hs:=hs.trB B_b4.ge s39
   replace B_b4:=NB_b4
   refine op 3 (.bool false) (ot (crt (zb ?_)))
   obtain rfl:=sj hr
   refine rt [.cell 2 100,.tmp 3] [.agg #[iv 0,iv 0],.bool false] ⟨⟨b4,0,[iv 0,iv 0],rfl,rfl,kr,kr,(B_b4.at.part 0 2).2⟩,rfl,trivial⟩ ?_
   exact ⟨hs,rfl,(show I64 0 by unfold I64;omega),(show I64 0 by unfold I64;omega)⟩
  intro hc hr
  refine ckt (csr (oN 45 100 [iv x19.1,iv x27.1] (B_b31.at.part 0 2).2 (zn (b:=b4) (off:=0) (T:=100) (.agg #[iv x19.1,iv x27.1]) [iv x19.1,iv x27.1] [iv x19.1,iv x27.1] kr kr B_b4 rfl kr kr kr rfl fun κ40 s41 _ NB_b4=>?_)))
  replace hs:=hs.trB B_b4.ge s41
  replace B_b4:=NB_b4
  refine op 3 (.bool true) (ot (crt ?_))
  obtain rfl:=sj hr
  refine rt [.cell 2 100,.tmp 3] [.agg #[iv x19.1,iv x27.1],.bool true] ⟨⟨b4,0,[iv x19.1,iv x27.1],rfl,rfl,kr,kr,(B_b4.at.part 0 2).2⟩,rfl,trivial⟩ ?_
  exact ⟨hs,rfl,hb20,hb28⟩
 refine csr (op 33 (.bool x19.2) (op 34 (.bool (!x19.2)) ?_))
 refine osp 35 (!x19.2) hr ?_ ?_
 ·intro hg hr
  refine op 36 (.bool x27.2) (op 37 (.bool (!x27.2)) (op 38 (.bool (!x27.2)) ?_))
  refine osp 39 (!x27.2) hr ?_ ?_
  ·intro hg hr
   refine oN 40 100 [iv x19.1,iv x27.1] (B_b31.at.part 0 2).2 ?_
   obtain ⟨x42,hx42,hr⟩:=bind_some hr
   refine ocl 41 (zin hb20 hb28 hx42) ?_
   rintro _ κ43 ⟨s44,rfl⟩
   replace hs:=hs.tr0 s44
   replace B_b4:=B_b4.step0 s44
   replace B_b31:=B_b31.step0 s44
   refine op 42 (.bool (!x42)) (op 43 (.bool (!x42)) (ot ?_))
   exact zk (eA 43 (eA 9 (eA 2 rfl))) (J1 (!x42)  _ _ hs B_b4 B_b31 hr)
  intro hg hr
  refine os 40 (os 41 (os 42 (op 43 (.bool true) (ot ?_))))
  exact zk (eA 43 (eA 9 (eA 2 rfl))) (J1 true  _ _ hs B_b4 B_b31 hr)
 intro hg hr
 refine os 36 (os 37 (op 38 (.bool true) (op 39 (.bool true) (os 40 (os 41 (os 42 (op 43 (.bool true) (ot ?_))))))))
 exact zk (eA 43 (eA 9 (eA 2 rfl))) (J1 true  _ _ hs B_b4 B_b31 hr)
theorem zi8 {κ:K} {p0:LG×LT} {pb0 po0:Nat} {a1:OA} {c2:Nat} {a4:OA} {c5:Nat} {p1:BS} (m0:At κ pb0 po0 [sl a1 p0.1.length c2,sl a4 p0.2.length c5]) (f3:Sl tGlue κ a1 c2 p0.1) (f6:Sl zQ κ a4 c5 p0.2) (hb7:p1.length≤9223372036854775807) {r:Int} (hr:zay p0 p1=some r) :
 Fn Tryz.prog 52 #[pt pb0 po0,strV p1] κ (fun v κ'=>κ=κ'∧v=iv r∧I64 r):=by
 refine fnc 26 [] Tryz.func52 Tryz.ntmps52 fun hs=>csr (op 4 (iv 0) (ot (cs (csr (op 5 (iv 0) (ot (cb 0 ?_)))))))
 refine zj 0 (fun Z=>∀ (E0:Env),ze6=some r→Z (E0) κ) ?_ fun J1=>?_
 ·intro E0 hr
  refine zg (za (csr (op 4 (iv (-1)) (ot (crt ?_)))))
  obtain rfl:=sj hr
  refine rt [.tmp 4] [iv (-1)] ⟨rfl,trivial⟩ ?_
  exact ⟨rfl,rfl,(show I64 (-1) by unfold I64;omega)⟩
 obtain ⟨x11,hx11,hrx11⟩:=bind_some hr
 refine zo (F:=zdx p0 p1) (J:=fun (sx11:Int) (E':Env) (κ':K)=>(∃ E0,E'=upd (upd (upd (E0) 0 (pt pb0 po0)) 1 (strV p1)) 5 (iv sx11))∧κ=κ'∧I64 sx11) (s0:=0) (x:=x11) kr hx11 ⟨⟨_,(eA 5 (eA 1 (eA 0 rfl)))⟩,rfl,(show I64 0 by unfold I64;omega)⟩ ?_
 rintro sx11 _ _ ⟨⟨E0,rfl⟩,rfl,hb10⟩ yyx11 hr hdx11
 refine cs (csr (op 6 (iv sx11) (op 7 (pt pb0 po0) (op 8 (pt pb0 po0) (op 9 (pt pb0 (po0+1)) (o1 10 23 (sl a4 p0.2.length c5) ((m0.step0 hs).one (o:=1) rfl) (op 11 (iv (p0.2.length:Int)) (op 12 (bW (sx11<(p0.2.length:Int))) (ot ?_)))))))))
 refine cc (decide (sx11<(p0.2.length:Int))) hr ?_ ?_
 ·intro hc hr
  refine ckt (cs (cb 1 (csr (op 15 (pt pb0 po0) (op 16 (pt pb0 po0) (op 17 (pt pb0 (po0+1)) (o1 18 23 (sl a4 p0.2.length c5) ((m0.step0 hs).one (o:=1) rfl) (op 19 (iv sx11) ?_))))))))
  obtain ⟨x12,hx12,hr⟩:=bind_some hr
  obtain ⟨b13,o14,eab13,i0x12,i1x12,csx12,p_b13,owx12⟩:=f6.idx hx12
  obtain ⟨_,_,rfl,⟨rfl,hb15⟩,⟨a16,c17,rfl,f18⟩⟩:=owx12
  replace p_b13:PubAt κ b13 (o14+sx11.toNat*2) [strV x12.1,sl a16 x12.2.length c17]:=p_b13
  refine oi 20 23 97 2 p0.2.length c5 .i64 sx11 eab13 i0x12 i1x12 (op 21 (pt b13 (o14+sx11.toNat*2)) (o1 22 9 (strV x12.1) (p_b13.at.one (o:=0) rfl) (op 23 (strV p1) (oq 24 (bW (x12.1=p1)) (fun _=>zci kr) (ot ?_)))))
  refine cc (decide (x12.1=p1)) hr ?_ ?_
  ·intro hc hr
   refine csr (op 25 (iv sx11) (op 4 (iv sx11) (ot (crt (zf (zb ?_))))))
   have hx:=hdx11 _ (sj hr).symm
   subst hx
   replace hr:=hrx11
   refine zt (zf (zb ?_))
   obtain rfl:=sj hr
   refine rt [.tmp 4] [iv sx11] ⟨rfl,trivial⟩ ?_
   exact ⟨rfl,rfl,hb10⟩
  intro hc hr
  refine ck (zd (za (cr (op 13 (iv sx11) (op 14 (iv (w64 (sx11+1))) (op 5 (iv (w64 (sx11+1))) (oe ?_)))))))
  exact ze (sj hr).symm ⟨⟨_,(eA 5 (eA 1 (eA 0 rfl)))⟩,rfl,(zq _)⟩
 intro hc hr
 refine cx 0 (zh ?_)
 have hx:=hdx11 _ (sj hr).symm
 subst hx
 replace hr:=hrx11
 refine zi ?_
 exact zr rfl (J1   _  hr)
theorem zfU {κ:K} {p0:Int×Int} {p1:Int×Int} (hb1:I64 p0.1) (hb2:I64 p0.2) (hb3:I64 p1.1) (hb4:I64 p1.2) {r:Bool} (hr:zc0 p0 p1=some r) :
 Fn Tryz.prog 80 #[.agg #[iv p0.1,iv p0.2],.agg #[iv p1.1,iv p1.2]] κ (fun v κ'=>Step [] κ κ'∧v=.bool r):=by
 refine fnc 24 [] Tryz.func80 Tryz.ntmps80 fun hs=>csr (zv (d:=2) (T:=100) (κ.H.size,80001) hs.1 (.agg #[iv p0.1,iv p0.2]) [iv p0.1,iv p0.2] kr kr rfl fun b5 κ6 s7 B_b5=>?_)
 replace hs:=hs.tr0 s7
 refine zv (d:=3) (T:=100) (κ.H.size,80002) hs.1 (.agg #[iv p1.1,iv p1.2]) [iv p1.1,iv p1.2] kr kr rfl fun b8 κ9 s10 B_b8=>?_
 replace hs:=hs.tr0 s10
 replace B_b5:=B_b5.step0 s10
 refine op 4 (.bool false) (otx (op 5 (pt b5 1) (o1 6 2 (iv p0.2) (B_b5.at.one (o:=1) rfl) (op 7 (pt b8 1) (o1 8 2 (iv p1.2) (B_b8.at.one (o:=1) rfl) (op 9 (bW (p0.2<p1.2)) ?_))))))
 refine osp 10 (decide (p0.2<p1.2)) hr ?_ ?_
 ·intro hg hr
  refine op 11 (pt b5 1) (o1 12 2 (iv p0.2) (B_b5.at.one (o:=1) rfl) (op 13 (pt b8 1) (o1 14 2 (iv p1.2) (B_b8.at.one (o:=1) rfl) (op 15 (bW (p0.2=p1.2)) ?_))))
  refine osp 16 (decide (p0.2=p1.2)) hr ?_ ?_
  ·intro hg hr
   refine os 17 (os 18 (os 19 (os 20 (os 21 (op 22 (.bool false) (op 23 (.bool false) (op 4 (.bool false) (ot (crt ?_)))))))))
   obtain rfl:=sj hr
   refine rt [.tmp 4] [.bool false] ⟨rfl,trivial⟩ ?_
   exact ⟨hs,rfl⟩
  intro hg hr
  refine op 17 (pt b5 0) (o1 18 2 (iv p0.1) (B_b5.at.one (o:=0) rfl) (op 19 (pt b8 0) (o1 20 2 (iv p1.1) (B_b8.at.one (o:=0) rfl) (op 21 (bW (p0.1<p1.1)) (op 22 (bW (p0.1<p1.1)) (op 23 (bW (p0.1<p1.1)) (op 4 (bW (p0.1<p1.1)) (ot (crt ?_)))))))))
  obtain rfl:=sj hr
  refine rt [.tmp 4] [bW (p0.1<p1.1)] ⟨rfl,trivial⟩ ?_
  exact ⟨hs,rfl⟩
 intro hg hr
 refine os 11 (os 12 (os 13 (os 14 (os 15 (os 16 (os 17 (os 18 (os 19 (os 20 ?_)))))))))
 refine os 21 (os 22 (op 23 (.bool true) (op 4 (.bool true) (ot (crt ?_)))))
 obtain rfl:=sj hr
 refine rt [.tmp 4] [.bool true] ⟨rfl,trivial⟩ ?_
 exact ⟨hs,rfl⟩
theorem zil {κ:K} {p0:LP} {pb0 po0:Nat} {a1:OA} {c2:Nat} {p1:Int×Int} (m0:At κ pb0 po0 [sl a1 p0.length c2]) (f3:Sl tPlaced κ a1 c2 p0) (hb4:I64 p1.1) (hb5:I64 p1.2) {r:Int} (hr:zeV p0 p1=some r) :
 Fn Tryz.prog 53 #[pt pb0 po0,.agg #[iv p1.1,iv p1.2]] κ (fun v κ'=>Step [] κ κ'∧v=iv r∧I64 r):=by
 refine fnc 53 [] Tryz.func53 Tryz.ntmps53 fun hs=>csr (zv (d:=3) (T:=100) (κ.H.size,53001) hs.1 (.agg #[iv p1.1,iv p1.2]) [iv p1.1,iv p1.2] kr kr rfl fun b7 κ8 s9 B_b7=>?_)
 replace hs:=hs.tr0 s9
 refine op 4 (iv 0) (otx (op 5 (iv 0) (otx (op 8 (pt pb0 po0) (op 9 (pt pb0 po0) (op 10 (pt pb0 po0) (o1 11 26 (sl a1 p0.length c2) ((m0.step0 hs).one (o:=0) rfl) (op 12 (iv (p0.length:Int)) (op 6 (iv (p0.length:Int)) ?_)))))))))
 refine ot (cs (cb 0 ?_))
 refine zj 0 (fun Z=>∀ (y14:Int) (E0:Env) (κ16:K) (hs:Step [] κ κ16) (hb15:I64 y14) (B_b7:Box (κ.H.size,53001) κ16 b7 [iv p1.1,iv p1.2] 100),zgm p0 p1 y14=some r→Z (upd (upd (upd (E0) 0 (pt pb0 po0)) 3 (pt b7 0)) 5 (iv y14)) κ16) ?_ fun J1=>?_
 ·intro y14 E0 κ16 hs hb15 B_b7 hr
  refine zg (za (cs ?_))
  refine zl (fun Z=>∀ (y17:Bool) (E0:Env),zev y14 y17=some r→cwp Tryz.prog 53 (sub (zC Tryz.f53) [1,0,1,1,1,1]) Z (upd (upd (E0) 5 (iv y14)) 51 (.bool y17)) κ16) ?_ fun J2=>?_
  ·intro y17 E0 hr
   refine cc (y17) hr ?_ ?_
   ·intro hc hr
    refine csr (op 52 (iv y14) (op 4 (iv y14) (ot (crt (zb ?_)))))
    obtain rfl:=sj hr
    refine rt [.tmp 4] [iv y14] ⟨rfl,trivial⟩ ?_
    exact ⟨hs,rfl,hb15⟩
   intro hc hr
   refine ckt (csr (op 4 (iv (-1)) (ot (crt ?_))))
   obtain rfl:=sj hr
   refine rt [.tmp 4] [iv (-1)] ⟨rfl,trivial⟩ ?_
   exact ⟨hs,rfl,(show I64 (-1) by unfold I64;omega)⟩
  refine cs (cd 17 (dp 33 (iv y14) (dp 34 (pt pb0 po0) (dp 35 (pt pb0 po0) (dp 36 (pt pb0 po0) (d1 37 26 (sl a1 p0.length c2) ((m0.step0 hs).one (o:=0) rfl) (dp 38 (iv (p0.length:Int)) (dp 39 (bW (y14<(p0.length:Int))) ?_))))))))
  refine dsp 40 (decide (y14<(p0.length:Int))) hr ?_ ?_
  ·intro hg hr
   refine ds 41 (ds 42 (ds 43 (ds 44 (ds 45 (ds 46 (ds 47 (ds 48 (ds 49 (de ?_)))))))))
   refine os 50 (op 51 (.bool false) (ot ?_))
   exact zk (eA 51 (eA 5 rfl)) (J2 false  _  hr)
  intro hg hr
  refine dp 41 (pt pb0 po0) (dp 42 (pt pb0 po0) (dp 43 (pt pb0 po0) (d1 44 26 (sl a1 p0.length c2) ((m0.step0 hs).one (o:=0) rfl) (dp 45 (iv y14) ?_))))
  obtain ⟨x18,hx18,hr⟩:=bind_some hr
  obtain ⟨b19,o20,eab19,i0x18,i1x18,csx18,p_b19,owx18⟩:=(f3.step hs).idx hx18
  obtain ⟨_,_,rfl,⟨_,_,rfl,⟨rfl,hb21⟩,⟨rfl,hb22⟩⟩,⟨rfl,hb23⟩⟩:=owx18
  replace p_b19:PubAt κ16 b19 (o20+y14.toNat*3) [iv x18.1.1,iv x18.1.2,iv x18.2]:=p_b19
  refine di 46 26 108 3 p0.length c2 .i64 y14 eab19 i0x18 i1x18 (dp 47 (pt b19 (o20+y14.toNat*3)) (dN 48 100 [iv x18.1.1,iv x18.1.2] (p_b19.at.part 0 2).2 (dN 49 100 [iv p1.1,iv p1.2] (B_b7.at.part 0 2).2 (de (oq 50 (.bool (decide (x18.1.1=p1.1)&&decide (x18.1.2=p1.2))) (fun _=>zmV (T:=100) (k1:=.i64) (k2:=.i64) kr kr) (op 51 (.bool (decide (x18.1.1=p1.1)&&decide (x18.1.2=p1.2))) (ot ?_)))))))
  exact zk (eA 51 (eA 5 rfl)) (J2 (decide (x18.1.1=p1.1)&&decide (x18.1.2=p1.2))  _  hr)
 obtain ⟨x24,hx24,hrx24⟩:=bind_some hr
 refine zo (F:=zcY p0 p1) (J:=fun (sx24:Int×Int) (E':Env) (κ':K)=>(∃ E0,E'=upd (upd (upd (upd (E0) 0 (pt pb0 po0)) 3 (pt b7 0)) 5 (iv sx24.1)) 6 (iv sx24.2))∧Step [] κ κ'∧I64 sx24.1∧I64 sx24.2∧Box (κ.H.size,53001) κ' b7 [iv p1.1,iv p1.2] 100) (s0:=(0,(p0.length:Int))) (x:=x24) kr hx24 ⟨⟨_,(eA 6 (eA 5 (eA 3 (eA 0 rfl))))⟩,hs,(show I64 0 by unfold I64;omega),(zg5 (f3.step hs).most),B_b7⟩ ?_
 rintro sx24 _ κ25 ⟨⟨E0,rfl⟩,hs,hb11,hb13,B_b7⟩ yyx24 hr hdx24
 refine cs (csr (op 13 (iv sx24.1) (op 14 (iv sx24.2) (op 15 (bW (sx24.1<sx24.2)) (ot ?_)))))
 refine cc (decide (sx24.1<sx24.2)) hr ?_ ?_
 ·intro hc hr
  refine ckt (cb 1 (csr (op 16 (iv sx24.1) (op 17 (iv sx24.2) (op 18 (iv (w64 (sx24.1+sx24.2))) (op 19 (iv (w64 (Int.tdiv (w64 (sx24.1+sx24.2)) 2))) (op 7 (iv (w64 (Int.tdiv (w64 (sx24.1+sx24.2)) 2))) (ot (cs ?_)))))))))
  refine cd 9 (dp 20 (pt pb0 po0) (dp 21 (pt pb0 po0) (dp 22 (pt pb0 po0) (d1 23 26 (sl a1 p0.length c2) ((m0.step0 hs).one (o:=0) rfl) (dp 24 (iv (w64 (Int.tdiv (w64 (sx24.1+sx24.2)) 2))) ?_)))))
  obtain ⟨x26,hx26,hr⟩:=bind_some hr
  obtain ⟨b27,o28,eab27,i0x26,i1x26,csx26,p_b27,owx26⟩:=(f3.step hs).idx hx26
  obtain ⟨_,_,rfl,⟨_,_,rfl,⟨rfl,hb29⟩,⟨rfl,hb30⟩⟩,⟨rfl,hb31⟩⟩:=owx26
  replace p_b27:PubAt κ25 b27 (o28+(w64 (Int.tdiv (w64 (sx24.1+sx24.2)) 2)).toNat*3) [iv x26.1.1,iv x26.1.2,iv x26.2]:=p_b27
  refine di 25 26 108 3 p0.length c2 .i64 (w64 (Int.tdiv (w64 (sx24.1+sx24.2)) 2)) eab27 i0x26 i1x26 (dp 26 (pt b27 (o28+(w64 (Int.tdiv (w64 (sx24.1+sx24.2)) 2)).toNat*3)) (dN 27 100 [iv x26.1.1,iv x26.1.2] (p_b27.at.part 0 2).2 (dN 28 100 [iv p1.1,iv p1.2] (B_b7.at.part 0 2).2 (de ?_))))
  obtain ⟨x32,hx32,hr⟩:=bind_some hr
  refine ocl 29 (zfU hb29 hb30 hb4 hb5 hx32) ?_
  rintro _ κ33 ⟨s34,rfl⟩
  replace hs:=hs.tr0 s34
  replace B_b7:=B_b7.step0 s34
  refine ot ?_
  refine cc (x32) hr ?_ ?_
  ·intro hc hr
   refine cr (op 30 (iv (w64 (Int.tdiv (w64 (sx24.1+sx24.2)) 2))) (op 31 (iv (w64 ((w64 (Int.tdiv (w64 (sx24.1+sx24.2)) 2))+1))) (op 5 (iv (w64 ((w64 (Int.tdiv (w64 (sx24.1+sx24.2)) 2))+1))) (oe (zd ?_)))))
   exact ze (sj hr).symm ⟨⟨_,(eA 6 (eA 5 (eA 3 (eA 0 rfl))))⟩,hs,(zq _),hb13,B_b7⟩
  intro hc hr
  refine cr (op 32 (iv (w64 (Int.tdiv (w64 (sx24.1+sx24.2)) 2))) (op 6 (iv (w64 (Int.tdiv (w64 (sx24.1+sx24.2)) 2))) (oe (zd ?_))))
  exact ze (sj hr).symm ⟨⟨_,(eA 6 (eA 5 (eA 3 (eA 0 rfl))))⟩,hs,hb11,(zq _),B_b7⟩
 intro hc hr
 refine cx 0 (zh ?_)
 have hx:=hdx24 _ (sj hr).symm
 subst hx
 replace hr:=hrx24
 refine zi ?_
 exact zr (eA 5 (eA 3 (eA 0 rfl))) (J1 sx24.1  _ _ hs hb11 B_b7 hr)
theorem zmQ {κ:K} {p0:LP} {pb0 po0:Nat} {a1:OA} {c2:Nat} {p1:Int×Int} {p2:Int} (m0:At κ pb0 po0 [sl a1 p0.length c2]) (f3:Sl tPlaced κ a1 c2 p0) (hb4:I64 p1.1) (hb5:I64 p1.2) (hb6:I64 p2) {r:(LP)} (hr:zhY p0 p1 p2=some r) :
 Fn Tryz.prog 54 #[pt pb0 po0,.agg #[iv p1.1,iv p1.2],iv p2] κ (fun v κ'=>Step [] κ κ'∧∃ (a7:OA) (c8:Nat),v=.agg #[sl a7 r.length c8]∧Sl tPlaced κ' a7 c8 r):=by
 refine fnc 65 [] Tryz.func54 Tryz.ntmps54 fun hs=>csr (zv (d:=4) (T:=100) (κ.H.size,54001) hs.1 (.agg #[iv p1.1,iv p1.2]) [iv p1.1,iv p1.2] kr kr rfl fun b10 κ11 s12 B_b10=>?_)
 replace hs:=hs.tr0 s12
 refine zz (d:=6) (T:=28) (κ.H.size,54002) hs.1 [sl none 0 0] kr kr kr fun b13 κ14 s15 B_b13=>?_
 replace hs:=hs.tr0 s15
 replace B_b10:=B_b10.step0 s15
 refine otx (op 10 (.agg #[sl none 0 0]) (zz (d:=7) (T:=28) (κ.H.size,54003) hs.1 [sl none 0 0] kr kr kr fun b16 κ17 s18 B_b16=>?_))
 replace hs:=hs.tr0 s18
 replace B_b10:=B_b10.step0 s18
 replace B_b13:=B_b13.step0 s18
 refine zn (b:=b16) (off:=0) (T:=28) (.agg #[sl none 0 0]) [sl none 0 0] [sl none 0 0] kr kr B_b16 rfl kr kr kr rfl fun κ19 s20 _ NB_b16=>?_
 replace hs:=hs.trB B_b16.ge s20
 replace B_b10:=B_b10.step s20 (nm1 (B_b10.ne B_b16 (zm (N:=κ.H.size) (M:=κ.H.size) (i:=54001) (j:=54003) kr)))
 replace B_b13:=B_b13.step s20 (nm1 (B_b13.ne B_b16 (zm (N:=κ.H.size) (M:=κ.H.size) (i:=54002) (j:=54003) kr)))
 replace B_b16:=NB_b16
 refine otx (op 8 (.bool false) (ot (cs (csr (op 9 (iv 0) (ot (cb 0 ?_)))))))
 refine zj 0 (fun Z=>∀ (y28:Bool) (y29:LP) (a31:OA) (c32:Nat) (E0:Env) (κ33:K) (hs:Step [] κ κ33) (f30:Gr tPlaced true (κ.H.size,54005) κ33 108 a31 c32 y29) (B_b10:Box (κ.H.size,54001) κ33 b10 [iv p1.1,iv p1.2] 100) (B_b13:Box (κ.H.size,54002) κ33 b13 [sl none 0 0] 28) (B_b16:Box (κ.H.size,54003) κ33 b16 [sl a31 y29.length c32] 28),zd7 p1 p2 y28 y29=some r→Z (upd (upd (upd (upd (upd (E0) 2 (iv p2)) 4 (pt b10 0)) 6 (pt b13 0)) 7 (pt b16 0)) 8 (.bool y28)) κ33) ?_ fun J1=>?_
 ·intro y28 y29 a31 c32 E0 κ33 hs f30 B_b10 B_b13 B_b16 hr
  refine zg (za ?_)
  refine zl (fun Z=>∀ (y34:LP) (a36:OA) (c37:Nat) (E0:Env) (κ38:K) (hs:Step [] κ κ38) (f35:Gr tPlaced true (κ.H.size,54005) κ38 108 a36 c37 y34) (B_b13:Box (κ.H.size,54002) κ38 b13 [sl none 0 0] 28) (B_b16:Box (κ.H.size,54003) κ38 b16 [sl a36 y34.length c37] 28),zd6 y34=some r→cwp Tryz.prog 65 (sub (zC Tryz.f54) [1,1,1,1,1]) Z (upd (upd (E0) 6 (pt b13 0)) 7 (pt b16 0)) κ38) ?_ fun J2=>?_
  ·intro y34 a36 c37 E0 κ38 hs f35 B_b13 B_b16 hr
   refine csr (oN 64 28 [sl a36 y34.length c37] (B_b16.at.part 0 1).2 (zn (b:=b13) (off:=0) (T:=28) (.agg #[sl a36 y34.length c37]) [sl a36 y34.length c37] [sl a36 y34.length c37] kr kr B_b13 rfl kr kr kr rfl fun κ39 s40 _ NB_b13=>?_))
   replace hs:=hs.trB B_b13.ge s40
   replace f35:=f35.step s40 (f35.nb B_b13 (zm (N:=κ.H.size) (M:=κ.H.size) (i:=54005) (j:=54002) kr))
   replace B_b13:=NB_b13
   refine ot (crt ?_)
   obtain rfl:=sj hr
   refine rt [.cell 6 28] [.agg #[sl a36 y34.length c37]] ⟨⟨b13,0,[sl a36 y34.length c37],rfl,rfl,kr,kr,(B_b13.at.part 0 1).2⟩,trivial⟩ ?_
   exact ⟨hs,_,_,rfl,f35.sl⟩
  refine cs (csr (op 54 (.bool y28) (op 55 (.bool (!y28)) (ot ?_))))
  refine cc (!y28) hr ?_ ?_
  ·intro hc hr
   refine cr (op 56 (pt b16 0) (o1 57 26 (sl a31 y29.length c32) (B_b16.at.one (o:=0) rfl) (oN 58 100 [iv p1.1,iv p1.2] (B_b10.at.part 0 2).2 (op 59 (iv p2) (op 60 (.agg #[iv p1.1,iv p1.2,iv p2]) (zO (d:=61) (T:=26) (e:=108) (t:=tPlaced) (pub:=true) (τ:=(κ.H.size,54007)) (len:=1) (l:=[(p1,p2)]) (parts:=#[(0,.agg #[iv p1.1,iv p1.2,iv p2])]) (cs:=[iv p1.1,iv p1.2,iv p2]) kr kr kr kr hs.1 rfl ⟨_,_,rfl,⟨_,_,rfl,⟨_,_,rfl,⟨rfl,hb4⟩,⟨rfl,hb5⟩⟩,⟨rfl,hb6⟩⟩,rfl⟩ kr fun a43 κ41 s42 f44=>?_))))))
   replace hs:=hs.tr0 s42
   replace f30:=f30.step0 s42
   replace B_b13:=B_b13.step0 s42
   replace B_b16:=B_b16.step0 s42
   obtain ⟨x46,hx46,hr⟩:=bind_some hr
   have f30q:=f30.sl
   refine zM (d:=62) (T:=26) (e:=108) (t:=tPlaced) (pub:=true) (τ:=(κ.H.size,54005)) (bytes:=24) (a:=a31) (cp:=c32) (l:=y29) (a2:=a43) (c2:=1) (l2:=[(p1,p2)]) kr kr f30 f44.sl hs.1 kr hx46 fun a49 c50 κ47 s48 f51 hw=>?_
   clear hw
   replace hs:=hs.trG (f30.own (Nat.le_refl _)) s48
   replace f30q:=f30q.step s48
   replace B_b13:=B_b13.step s48 (f30.bn B_b13 (zm (N:=κ.H.size) (M:=κ.H.size) (i:=54002) (j:=54005) kr))
   replace B_b16:=B_b16.step s48 (f30.bn B_b16 (zm (N:=κ.H.size) (M:=κ.H.size) (i:=54003) (j:=54005) kr))
   refine op 63 (pt b16 0) (zn (b:=b16) (off:=0) (T:=26) (sl a49 x46.length c50) [sl a49 x46.length c50] [sl a49 x46.length c50] kr kr B_b16 rfl kr kr kr rfl fun κ52 s53 _ NB_b16=>?_)
   replace hs:=hs.trB B_b16.ge s53
   replace f30q:=f30q.step s53
   replace f51:=f51.step s53 (f51.nb B_b16 (zm (N:=κ.H.size) (M:=κ.H.size) (i:=54005) (j:=54003) kr))
   replace B_b13:=B_b13.step s53 (nm1 (B_b13.ne B_b16 (zm (N:=κ.H.size) (M:=κ.H.size) (i:=54002) (j:=54003) kr)))
   replace B_b16:=NB_b16
   refine ot ?_
   exact zk (eA 7 (eA 6 rfl)) (J2 x46 _ _ _ _ hs f51 B_b13 B_b16 hr)
  intro hc hr
  refine ckt ?_
  exact zk (eA 7 (eA 6 rfl)) (J2 y29 _ _ _ _ hs f30 B_b13 B_b16 hr)
 obtain ⟨x54,hx54,hrx54⟩:=bind_some hr
 refine zo (F:=zY p0 p1 p2) (J:=fun (sx54:Bool×Int×LP) (E':Env) (κ':K)=>∃ (a26:OA) (c27:Nat),(∃ E0,E'=upd (upd (upd (upd (upd (upd (upd (E0) 0 (pt pb0 po0)) 2 (iv p2)) 4 (pt b10 0)) 6 (pt b13 0)) 7 (pt b16 0)) 8 (.bool sx54.1)) 9 (iv sx54.2.1))∧Step [] κ κ'∧I64 sx54.2.1∧Gr tPlaced true (κ.H.size,54005) κ' 108 a26 c27 sx54.2.2∧Box (κ.H.size,54001) κ' b10 [iv p1.1,iv p1.2] 100∧Box (κ.H.size,54002) κ' b13 [sl none 0 0] 28∧Box (κ.H.size,54003) κ' b16 [sl a26 sx54.2.2.length c27] 28) (s0:=(false,0,[])) (x:=x54) kr hx54 ⟨_,_,⟨_,(eA 9 (eA 8 (eA 7 (eA 6 (eA 4 (eA 2 (eA 0 rfl)))))))⟩,hs,(show I64 0 by unfold I64;omega),Gr.nil,B_b10,B_b13,B_b16⟩ ?_
 rintro sx54 _ κ55 ⟨a26,c27,⟨E0,rfl⟩,hs,hb23,f25,B_b10,B_b13,B_b16⟩ yyx54 hr hdx54
 refine cs (csr (op 11 (iv sx54.2.1) (op 12 (pt pb0 po0) (op 13 (pt pb0 po0) (op 14 (pt pb0 po0) (o1 15 26 (sl a1 p0.length c2) ((m0.step0 hs).one (o:=0) rfl) (op 16 (iv (p0.length:Int)) (op 17 (bW (sx54.2.1<(p0.length:Int))) (ot ?_)))))))))
 refine cc (decide (sx54.2.1<(p0.length:Int))) hr ?_ ?_
 ·intro hc hr
  refine ckt (cs (cb 1 ?_))
  refine zl (fun Z=>∀ (y56:Bool) (y57:LP) (a59:OA) (c60:Nat) (E0:Env) (κ61:K) (hs:Step [] κ κ61) (f58:Gr tPlaced true (κ.H.size,54005) κ61 108 a59 c60 y57) (B_b10:Box (κ.H.size,54001) κ61 b10 [iv p1.1,iv p1.2] 100) (B_b13:Box (κ.H.size,54002) κ61 b13 [sl none 0 0] 28) (B_b16:Box (κ.H.size,54003) κ61 b16 [sl a59 y57.length c60] 28),zcX p0 sx54 y56 y57=some yyx54→cwp Tryz.prog 65 (sub (zC Tryz.f54) [1,0,0,1,0,0,1,0,1,1,1]) Z (upd (upd (upd (upd (upd (upd (upd (E0) 0 (pt pb0 po0)) 2 (iv p2)) 4 (pt b10 0)) 6 (pt b13 0)) 7 (pt b16 0)) 8 (.bool y56)) 9 (iv sx54.2.1)) κ61) ?_ fun J3=>?_
  ·intro y56 y57 a59 c60 E0 κ61 hs f58 B_b10 B_b13 B_b16 hr
   refine cx_ 10 [0,1,2,3,4,5,6,7,8,9] [9] 10 [] (xp 42 (pt b16 0) (x1 43 26 (sl a59 y57.length c60) B_b16.at 0 rfl (xp 44 (pt pb0 po0) (xp 45 (pt pb0 po0) (xp 46 (pt pb0 po0) (x1 47 26 (sl a1 p0.length c2) (m0.step0 hs) 0 rfl (xp 48 (iv sx54.2.1) ?_)))))))
   obtain ⟨x62,hx62,hr⟩:=bind_some hr
   obtain ⟨b63,o64,eab63,i0x62,i1x62,csx62,p_b63,owx62⟩:=(f3.step hs).idx hx62
   obtain ⟨_,_,rfl,⟨_,_,rfl,⟨rfl,hb65⟩,⟨rfl,hb66⟩⟩,⟨rfl,hb67⟩⟩:=owx62
   replace p_b63:PubAt κ61 b63 (o64+sx54.2.1.toNat*3) [iv x62.1.1,iv x62.1.2,iv x62.2]:=p_b63
   refine xi 49 26 108 3 p0.length c2 .i64 sx54.2.1 eab63 i0x62 i1x62 (xN 50 108 [iv x62.1.1,iv x62.1.2,iv x62.2] p_b63.at 0 3 rfl (zem (d:=51) (T:=26) (e:=108) (t:=tPlaced) (pub:=true) (τ:=(κ.H.size,54006)) (len:=1) (l:=[x62]) (parts:=#[(0,.agg #[iv x62.1.1,iv x62.1.2,iv x62.2])]) (cs:=[iv x62.1.1,iv x62.1.2,iv x62.2]) kr kr kr kr hs.1 rfl ⟨_,_,rfl,⟨_,_,rfl,⟨_,_,rfl,⟨rfl,hb65⟩,⟨rfl,hb66⟩⟩,⟨rfl,hb67⟩⟩,rfl⟩ kr fun a70 κ68 s69 f71=>?_))
   replace hs:=hs.tr0 s69
   replace f58:=f58.step0 s69
   replace B_b10:=B_b10.step0 s69
   replace B_b13:=B_b13.step0 s69
   replace B_b16:=B_b16.step0 s69
   refine xe ?_
   obtain ⟨x73,hx73,hr⟩:=bind_some hr
   have f58q:=f58.sl
   refine zM (d:=52) (T:=26) (e:=108) (t:=tPlaced) (pub:=true) (τ:=(κ.H.size,54005)) (bytes:=24) (a:=a59) (cp:=c60) (l:=y57) (a2:=a70) (c2:=1) (l2:=[x62]) kr kr f58 f71.sl hs.1 kr hx73 fun a76 c77 κ74 s75 f78 hw=>?_
   clear hw
   replace hs:=hs.trG (f58.own (Nat.le_refl _)) s75
   replace f58q:=f58q.step s75
   replace B_b10:=B_b10.step s75 (f58.bn B_b10 (zm (N:=κ.H.size) (M:=κ.H.size) (i:=54001) (j:=54005) kr))
   replace B_b13:=B_b13.step s75 (f58.bn B_b13 (zm (N:=κ.H.size) (M:=κ.H.size) (i:=54002) (j:=54005) kr))
   replace B_b16:=B_b16.step s75 (f58.bn B_b16 (zm (N:=κ.H.size) (M:=κ.H.size) (i:=54003) (j:=54005) kr))
   refine op 53 (pt b16 0) (zn (b:=b16) (off:=0) (T:=26) (sl a76 x73.length c77) [sl a76 x73.length c77] [sl a76 x73.length c77] kr kr B_b16 rfl kr kr kr rfl fun κ79 s80 _ NB_b16=>?_)
   replace hs:=hs.trB B_b16.ge s80
   replace f58q:=f58q.step s80
   replace f78:=f78.step s80 (f78.nb B_b16 (zm (N:=κ.H.size) (M:=κ.H.size) (i:=54005) (j:=54003) kr))
   replace B_b10:=B_b10.step s80 (nm1 (B_b10.ne B_b16 (zm (N:=κ.H.size) (M:=κ.H.size) (i:=54001) (j:=54003) kr)))
   replace B_b13:=B_b13.step s80 (nm1 (B_b13.ne B_b16 (zm (N:=κ.H.size) (M:=κ.H.size) (i:=54002) (j:=54003) kr)))
   replace B_b16:=NB_b16
   refine oe (zd (za (cr (op 18 (iv sx54.2.1) (op 19 (iv (w64 (sx54.2.1+1))) (op 9 (iv (w64 (sx54.2.1+1))) (oe ?_)))))))
   exact ze (sj hr).symm ⟨_,_,⟨_,(eA 9 (eA 8 (eA 7 (eA 6 (eA 4 (eA 2 (eA 0 rfl)))))))⟩,hs,(zq _),f78,B_b10,B_b13,B_b16⟩
  refine cs ?_
  refine zl (fun Z=>∀ (y81:Bool) (E0:Env) (κ82:K) (hs:Step [] κ κ82) (f25:Gr tPlaced true (κ.H.size,54005) κ82 108 a26 c27 sx54.2.2) (B_b10:Box (κ.H.size,54001) κ82 b10 [iv p1.1,iv p1.2] 100) (B_b13:Box (κ.H.size,54002) κ82 b13 [sl none 0 0] 28) (B_b16:Box (κ.H.size,54003) κ82 b16 [sl a26 sx54.2.2.length c27] 28),zcW p0 p1 p2 sx54 y81=some yyx54→cwp Tryz.prog 65 (sub (zC Tryz.f54) [1,0,0,0,1,0,0,1,0,1,1,1]) Z (upd (upd (upd (upd (upd (upd (upd (upd (E0) 0 (pt pb0 po0)) 2 (iv p2)) 4 (pt b10 0)) 6 (pt b13 0)) 7 (pt b16 0)) 8 (.bool sx54.1)) 9 (iv sx54.2.1)) 33 (.bool y81)) κ82) ?_ fun J4=>?_
  ·intro y81 E0 κ82 hs f25 B_b10 B_b13 B_b16 hr
   refine cc (y81) hr ?_ ?_
   ·intro hc hr
    refine csr (op 8 (.bool true) (otr (op 34 (pt b16 0) (o1 35 26 (sl a26 sx54.2.2.length c27) (B_b16.at.one (o:=0) rfl) (oN 36 100 [iv p1.1,iv p1.2] (B_b10.at.part 0 2).2 (op 37 (iv p2) (op 38 (.agg #[iv p1.1,iv p1.2,iv p2]) (zO (d:=39) (T:=26) (e:=108) (t:=tPlaced) (pub:=true) (τ:=(κ.H.size,54004)) (len:=1) (l:=[(p1,p2)]) (parts:=#[(0,.agg #[iv p1.1,iv p1.2,iv p2])]) (cs:=[iv p1.1,iv p1.2,iv p2]) kr kr kr kr hs.1 rfl ⟨_,_,rfl,⟨_,_,rfl,⟨_,_,rfl,⟨rfl,hb4⟩,⟨rfl,hb5⟩⟩,⟨rfl,hb6⟩⟩,rfl⟩ kr fun a85 κ83 s84 f86=>?_))))))))
    replace hs:=hs.tr0 s84
    replace f25:=f25.step0 s84
    replace B_b10:=B_b10.step0 s84
    replace B_b13:=B_b13.step0 s84
    replace B_b16:=B_b16.step0 s84
    obtain ⟨x88,hx88,hr⟩:=bind_some hr
    have f25q:=f25.sl
    refine zM (d:=40) (T:=26) (e:=108) (t:=tPlaced) (pub:=true) (τ:=(κ.H.size,54005)) (bytes:=24) (a:=a26) (cp:=c27) (l:=sx54.2.2) (a2:=a85) (c2:=1) (l2:=[(p1,p2)]) kr kr f25 f86.sl hs.1 kr hx88 fun a91 c92 κ89 s90 f93 hw=>?_
    clear hw
    replace hs:=hs.trG (f25.own (Nat.le_refl _)) s90
    replace f25q:=f25q.step s90
    replace B_b10:=B_b10.step s90 (f25.bn B_b10 (zm (N:=κ.H.size) (M:=κ.H.size) (i:=54001) (j:=54005) kr))
    replace B_b13:=B_b13.step s90 (f25.bn B_b13 (zm (N:=κ.H.size) (M:=κ.H.size) (i:=54002) (j:=54005) kr))
    replace B_b16:=B_b16.step s90 (f25.bn B_b16 (zm (N:=κ.H.size) (M:=κ.H.size) (i:=54003) (j:=54005) kr))
    refine op 41 (pt b16 0) (zn (b:=b16) (off:=0) (T:=26) (sl a91 x88.length c92) [sl a91 x88.length c92] [sl a91 x88.length c92] kr kr B_b16 rfl kr kr kr rfl fun κ94 s95 _ NB_b16=>?_)
    replace hs:=hs.trB B_b16.ge s95
    replace f25q:=f25q.step s95
    replace f93:=f93.step s95 (f93.nb B_b16 (zm (N:=κ.H.size) (M:=κ.H.size) (i:=54005) (j:=54003) kr))
    replace B_b10:=B_b10.step s95 (nm1 (B_b10.ne B_b16 (zm (N:=κ.H.size) (M:=κ.H.size) (i:=54001) (j:=54003) kr)))
    replace B_b13:=B_b13.step s95 (nm1 (B_b13.ne B_b16 (zm (N:=κ.H.size) (M:=κ.H.size) (i:=54002) (j:=54003) kr)))
    replace B_b16:=NB_b16
    refine ot ?_
    exact zk (eA 9 (eA 8 (eA 7 (eA 6 (eA 4 (eA 2 (eA 0 rfl))))))) (J3 true x88 _ _ _ _ hs f93 B_b10 B_b13 B_b16 hr)
   intro hc hr
   refine ckt ?_
   exact zk (eA 9 (eA 8 (eA 7 (eA 6 (eA 4 (eA 2 (eA 0 rfl))))))) (J3 sx54.1 sx54.2.2 _ _ _ _ hs f25 B_b10 B_b13 B_b16 hr)
  refine cs (cd 12 (dp 20 (.bool sx54.1) (dp 21 (.bool (!sx54.1)) ?_)))
  refine dsp 22 (!sx54.1) hr ?_ ?_
  ·intro hg hr
   refine ds 23 (ds 24 (ds 25 (ds 26 (ds 27 (ds 28 (ds 29 (ds 30 (ds 31 (de ?_)))))))))
   refine os 32 (op 33 (.bool false) (ot ?_))
   exact zk (eA 33 (eA 9 (eA 8 (eA 7 (eA 6 (eA 4 (eA 2 (eA 0 rfl)))))))) (J4 false  _ _ hs f25 B_b10 B_b13 B_b16 hr)
  intro hg hr
  refine dN 23 100 [iv p1.1,iv p1.2] (B_b10.at.part 0 2).2 (dp 24 (pt pb0 po0) (dp 25 (pt pb0 po0) (dp 26 (pt pb0 po0) (d1 27 26 (sl a1 p0.length c2) ((m0.step0 hs).one (o:=0) rfl) (dp 28 (iv sx54.2.1) ?_)))))
  obtain ⟨x96,hx96,hr⟩:=bind_some hr
  obtain ⟨b97,o98,eab97,i0x96,i1x96,csx96,p_b97,owx96⟩:=(f3.step hs).idx hx96
  obtain ⟨_,_,rfl,⟨_,_,rfl,⟨rfl,hb99⟩,⟨rfl,hb100⟩⟩,⟨rfl,hb101⟩⟩:=owx96
  replace p_b97:PubAt κ55 b97 (o98+sx54.2.1.toNat*3) [iv x96.1.1,iv x96.1.2,iv x96.2]:=p_b97
  refine di 29 26 108 3 p0.length c2 .i64 sx54.2.1 eab97 i0x96 i1x96 (dp 30 (pt b97 (o98+sx54.2.1.toNat*3)) (dN 31 100 [iv x96.1.1,iv x96.1.2] (p_b97.at.part 0 2).2 (de ?_)))
  obtain ⟨x102,hx102,hr⟩:=bind_some hr
  refine ocl 32 (zfU hb4 hb5 hb99 hb100 hx102) ?_
  rintro _ κ103 ⟨s104,rfl⟩
  replace hs:=hs.tr0 s104
  replace f25:=f25.step0 s104
  replace B_b10:=B_b10.step0 s104
  replace B_b13:=B_b13.step0 s104
  replace B_b16:=B_b16.step0 s104
  refine op 33 (.bool x102) (ot ?_)
  exact zk (eA 33 (eA 9 (eA 8 (eA 7 (eA 6 (eA 4 (eA 2 (eA 0 rfl)))))))) (J4 x102  _ _ hs f25 B_b10 B_b13 B_b16 hr)
 intro hc hr
 refine cx 0 (zh ?_)
 have hx:=hdx54 _ (sj hr).symm
 subst hx
 replace hr:=hrx54
 refine zi ?_
 exact zr (eA 8 (eA 7 (eA 6 (eA 4 (eA 2 rfl))))) (J1 sx54.1 sx54.2.2 _ _ _ _ hs f25 B_b10 B_b13 B_b16 hr)
theorem zkv {κ:K} {p0:TS×(LP)×Int} {pb0:Nat} {τ0:Tag} {a1:OA} {c2:Nat} {a4:OA} {c5:Nat} {a7:OA} {c8:Nat} {τ0_0:Tag} {p1:LW} {a11:OA} {c12:Nat} (B_m0:Box τ0 κ pb0 [sl a1 p0.1.1.length c2,sl a4 p0.1.2.length c5,sl a7 p0.2.1.length c8,iv p0.2.2] 30) (f3:Gr tGlue true τ0_0 κ 94 a1 c2 p0.1.1) (lt_τ0_0:τ0_0.1<κ.H.size) (f6:Sl zQ κ a4 c5 p0.1.2) (f9:Sl tPlaced κ a7 c8 p0.2.1) (hb10:I64 p0.2.2) (f13:Sl tStr κ a11 c12 p1) (ne_τ0_τ0_0:τ0≠τ0_0) {r:Int×(TS×(LP)×Int)} (hr:zg1 p0 p1=some r) :
 Fn Tryz.prog 24 #[pt pb0 0,sl a11 p1.length c12] κ (fun v κ'=>Step ([pb0]++blk a1 c2) κ κ'∧∃ (a15:OA) (c16:Nat),v=iv r.1∧I64 r.1∧Box τ0 κ' pb0 [sl a15 r.2.1.1.length c16,sl a4 p0.1.2.length c5,sl a7 p0.2.1.length c8,iv p0.2.2] 30∧Gr tGlue true τ0_0 κ' 94 a15 c16 r.2.1.1∧(∀ g∈blk a15 c16,g∈([pb0]++blk a1 c2)∨κ.H.size≤g)):=by
 refine fnc 41 ([pb0]++blk a1 c2) Tryz.func24 Tryz.ntmps24 fun hs=>?_
 have lt_τ0:=B_m0.tlt
 have ne_τ0_0_τ0:=ne_τ0_τ0_0.symm
 have ow_f3:∀ g∈blk a1 c2,g∈([pb0]++blk a1 c2)∨κ.H.size≤g:=fun g hg=>.inl (by simp [hg])
 refine csr (op 4 (iv 0) (ot (cs ?_)))
 refine zl (fun Z=>∀ (y18:Bool) (E0:Env),zdl p0 p1 y18=some r→cwp Tryz.prog 41 (sub (zC Tryz.f24) [1,0,1]) Z (upd (upd (upd (E0) 0 (pt pb0 0)) 1 (sl a11 p1.length c12)) 17 (.bool y18)) κ) ?_ fun J1=>?_
 ·intro y18 E0 hr
  refine cc (y18) hr ?_ ?_
  ·intro hc hr
   refine csr (op 4 (iv 6) (ot (crt (zb ?_))))
   obtain rfl:=sj hr
   refine rt [.tmp 4] [iv 6] ⟨rfl,trivial⟩ ?_
   exact ⟨hs,_,_,rfl,(show I64 6 by unfold I64;omega),B_m0,f3,ow_f3⟩
  intro hc hr
  refine ckt (csr (op 19 (sl a11 p1.length c12) ?_))
  obtain ⟨x19,hx19,hr⟩:=bind_some hr
  obtain ⟨b20,o21,eab20,i0x19,i1x19,csx19,p_b20,owx19⟩:=f13.idx hx19
  obtain ⟨rfl,hb22⟩:=owx19
  replace p_b20:PubAt κ b20 (o21+(2:Int).toNat*1) [strV x19]:=p_b20
  refine oi 20 36 9 1 p1.length c12 .i64 2 eab20 i0x19 i1x19 (o1 21 9 (strV x19) (p_b20.at.one (o:=0) rfl) ?_)
  obtain ⟨x23,hx23,hr⟩:=bind_some hr
  refine ocl 22 (zcL hb22 hx23) ?_
  rintro _ κ25 ⟨s26,rfl,hb24⟩
  replace hs:=hs.tr0 s26
  replace f3:=f3.step0 s26
  replace B_m0:=B_m0.step0 s26
  refine op 18 (.tuple #[iv x23.1,.bool x23.2]) (op 23 (iv x23.1) (op 24 (.bool x23.2) (op 5 (iv x23.1) (op 6 (.bool x23.2) (ot (cs (csr (op 25 (.bool x23.2) (op 26 (.bool (!x23.2)) ?_)))))))))
  refine ot ?_
  refine cc (!x23.2) hr ?_ ?_
  ·intro hc hr
   refine csr (op 4 (iv 6) (ot (crt (zb ?_))))
   obtain rfl:=sj hr
   refine rt [.tmp 4] [iv 6] ⟨rfl,trivial⟩ ?_
   exact ⟨hs,_,_,rfl,(show I64 6 by unfold I64;omega),B_m0,f3,ow_f3⟩
  intro hc hr
  refine ckt (cs (cx_ 12 [0,1,2,3,4,5,6,7,8,9,10,11] [10,11] 11 (blk a1 c2) (xp 27 (pt pb0 0) (xp 28 (pt pb0 0) (xp 29 (pt pb0 0) (xp 30 (pt pb0 0) (x1 31 22 (sl a1 p0.1.1.length c2) B_m0.at 0 rfl (xp 32 (sl a11 p1.length c12) ?_))))))))
  obtain ⟨x27,hx27,hr⟩:=bind_some hr
  obtain ⟨b28,o29,eab28,i0x27,i1x27,csx27,p_b28,owx27⟩:=(f13.step hs).idx hx27
  obtain ⟨rfl,hb30⟩:=owx27
  replace p_b28:PubAt κ25 b28 (o29+(1:Int).toNat*1) [strV x27]:=p_b28
  refine xi 33 36 9 1 p1.length c12 .i64 1 eab28 i0x27 i1x27 (x1 34 9 (strV x27) p_b28.at 0 rfl (xp 35 (iv x23.1) (xp 36 (.agg #[strV x27,iv x23.1]) (zem (d:=37) (T:=22) (e:=94) (t:=tGlue) (pub:=true) (τ:=(κ.H.size,24001)) (len:=1) (l:=[(x27,x23.1)]) (parts:=#[(0,.agg #[strV x27,iv x23.1])]) (cs:=[strV x27,iv x23.1]) kr kr kr kr hs.1 rfl ⟨_,_,rfl,⟨_,_,rfl,⟨rfl,hb30⟩,⟨rfl,hb24⟩⟩,rfl⟩ kr fun a33 κ31 s32 f34=>?_))))
  replace hs:=hs.tr0 s32
  replace f3:=f3.step0 s32
  replace B_m0:=B_m0.step0 s32
  obtain ⟨x36,hx36,hr⟩:=bind_some hr
  have f3q:=f3.sl
  refine zgf (d:=38) (T:=22) (e:=94) (t:=tGlue) (pub:=true) (τ:=τ0_0) (bytes:=24) (a:=a1) (cp:=c2) (l:=p0.1.1) (a2:=a33) (c2:=1) (l2:=[(x27,x23.1)]) kr kr f3 f34.sl (Nat.le_trans (Nat.le_of_lt lt_τ0_0) hs.1) kr hx36 kr fun a39 c40 κ37 s38 f41 hw=>?_
  have ow_f41:∀ g∈blk a39 c40,g∈([pb0]++blk a1 c2)∨κ.H.size≤g:=fun g hg=>(hw g hg).elim (ow_f3 g) (fun h=>.inr (Nat.le_trans hs.1 h))
  replace hs:=hs.trM ow_f3 s38
  replace f3q:=f3q.step s38
  replace B_m0:=B_m0.step s38 (f3.bn B_m0 (ne_τ0_τ0_0))
  refine xe (op 39 (pt pb0 0) (op 40 (pt pb0 0) (zn (b:=pb0) (off:=0) (T:=22) (sl a39 x36.length c40) [sl a39 x36.length c40] [sl a39 x36.length c40,sl a4 p0.1.2.length c5,sl a7 p0.2.1.length c8,iv p0.2.2] kr kr B_m0 rfl kr kr kr rfl fun κ42 s43 _ NB_m0=>?_)))
  replace hs:=hs.trP (by simp) s43
  replace f3q:=f3q.step s43
  replace f41:=f41.step s43 (f41.nb B_m0 (ne_τ0_0_τ0))
  replace B_m0:=NB_m0
  refine otx (op 4 (iv 0) (ot (crt ?_)))
  obtain rfl:=sj hr
  refine rt [.tmp 4] [iv 0] ⟨rfl,trivial⟩ ?_
  exact ⟨hs,_,_,rfl,(show I64 0 by unfold I64;omega),B_m0,f41,ow_f41⟩
 refine csr (op 7 (sl a11 p1.length c12) (op 8 (iv (p1.length:Int)) (op 9 (.bool (!decide ((p1.length:Int)=3))) ?_)))
 refine osp 10 (!decide ((p1.length:Int)=3)) hr ?_ ?_
 ·intro hg hr
  refine op 11 (pt pb0 0) (op 12 (pt pb0 0) (op 13 (pt pb0 1) (o1 14 23 (sl a4 p0.1.2.length c5) (B_m0.at.one (o:=1) rfl) (op 15 (iv (p0.1.2.length:Int)) (op 16 (bW ((p0.1.2.length:Int)>0)) (op 17 (bW ((p0.1.2.length:Int)>0)) (ot ?_)))))))
  exact zk (eA 17 (eA 1 (eA 0 rfl))) (J1 (decide ((p0.1.2.length:Int)>0))  _  hr)
 intro hg hr
 refine os 11 (os 12 (os 13 (os 14 (os 15 (os 16 (op 17 (.bool true) (ot ?_)))))))
 exact zk (eA 17 (eA 1 (eA 0 rfl))) (J1 true  _  hr)
theorem zku {κ:K} {p0:TS×(LP)×Int} {pb0:Nat} {τ0:Tag} {a1:OA} {c2:Nat} {a4:OA} {c5:Nat} {a7:OA} {c8:Nat} {τ0_1:Tag} {p1:LW} {a11:OA} {c12:Nat} (B_m0:Box τ0 κ pb0 [sl a1 p0.1.1.length c2,sl a4 p0.1.2.length c5,sl a7 p0.2.1.length c8,iv p0.2.2] 30) (f3:Sl tGlue κ a1 c2 p0.1.1) (f6:Gr zQ true τ0_1 κ 97 a4 c5 p0.1.2) (lt_τ0_1:τ0_1.1<κ.H.size) (f9:Sl tPlaced κ a7 c8 p0.2.1) (hb10:I64 p0.2.2) (f13:Sl tStr κ a11 c12 p1) (ne_τ0_τ0_1:τ0≠τ0_1) {r:Int×(TS×(LP)×Int)} (hr:zg0 p0 p1=some r) :
 Fn Tryz.prog 25 #[pt pb0 0,sl a11 p1.length c12] κ (fun v κ'=>Step ([pb0]++blk a4 c5) κ κ'∧∃ (a15:OA) (c16:Nat),v=iv r.1∧I64 r.1∧Box τ0 κ' pb0 [sl a1 p0.1.1.length c2,sl a15 r.2.1.2.length c16,sl a7 p0.2.1.length c8,iv p0.2.2] 30∧Gr zQ true τ0_1 κ' 97 a15 c16 r.2.1.2∧(∀ g∈blk a15 c16,g∈([pb0]++blk a4 c5)∨κ.H.size≤g)):=by
 refine fnc 50 ([pb0]++blk a4 c5) Tryz.func25 Tryz.ntmps25 fun hs=>?_
 have lt_τ0:=B_m0.tlt
 have ne_τ0_1_τ0:=ne_τ0_τ0_1.symm
 have ow_f6:∀ g∈blk a4 c5,g∈([pb0]++blk a4 c5)∨κ.H.size≤g:=fun g hg=>.inl (by simp [hg])
 refine csr (op 4 (iv 0) (ot (cs (csr (op 8 (sl a11 p1.length c12) (op 9 (iv (p1.length:Int)) (op 10 (.bool (!decide ((p1.length:Int)=6))) (ot ?_))))))))
 refine cc (!decide ((p1.length:Int)=6)) hr ?_ ?_
 ·intro hc hr
  refine csr (op 4 (iv 6) (ot (crt (zb ?_))))
  obtain rfl:=sj hr
  refine rt [.tmp 4] [iv 6] ⟨rfl,trivial⟩ ?_
  exact ⟨hs,_,_,rfl,(show I64 6 by unfold I64;omega),B_m0,f6,ow_f6⟩
 intro hc hr
 refine ckt (csr (op 11 (sl a11 p1.length c12) ?_))
 obtain ⟨x18,hx18,hr⟩:=bind_some hr
 obtain ⟨b19,o20,eab19,i0x18,i1x18,csx18,p_b19,owx18⟩:=f13.idx hx18
 obtain ⟨rfl,hb21⟩:=owx18
 replace p_b19:PubAt κ b19 (o20+(1:Int).toNat*1) [strV x18]:=p_b19
 refine oi 12 36 9 1 p1.length c12 .i64 1 eab19 i0x18 i1x18 (o1 13 9 (strV x18) (p_b19.at.one (o:=0) rfl) (op 14 (.agg #[strV x18,sl none 0 0]) (zz (d:=5) (T:=97) (κ.H.size,25001) hs.1 [strV ([]:BS),sl none 0 0] kr kr kr fun b22 κ23 s24 B_b22=>?_)))
 replace hs:=hs.tr0 s24
 replace f6:=f6.step0 s24
 replace B_m0:=B_m0.step0 s24
 refine zn (b:=b22) (off:=0) (T:=97) (.agg #[strV x18,sl none 0 0]) [strV x18,sl none 0 0] [strV x18,sl none 0 0] kr kr B_b22 rfl kr kr kr rfl fun κ25 s26 _ NB_b22=>?_
 replace hs:=hs.trB B_b22.ge s26
 replace f6:=f6.step s26 (f6.nb B_b22 (zai (i:=25001) lt_τ0_1))
 replace B_m0:=B_m0.step s26 (nm1 (B_m0.ne B_b22 (zai (i:=25001) lt_τ0)))
 replace B_b22:=NB_b22
 refine ot (cs (csr (op 6 (iv 2) (ot (cb 0 ?_)))))
 refine zj 0 (fun Z=>∀ (y33:LI) (a35:OA) (c36:Nat) (E0:Env) (κ37:K) (hs:Step ([pb0]++blk a4 c5) κ κ37) (f34:Gr tI64 true (κ.H.size,25003) κ37 2 a35 c36 y33) (f6:Gr zQ true τ0_1 κ37 97 a4 c5 p0.1.2) (B_m0:Box τ0 κ37 pb0 [sl a1 p0.1.1.length c2,sl a4 p0.1.2.length c5,sl a7 p0.2.1.length c8,iv p0.2.2] 30) (B_b22:Box (κ.H.size,25001) κ37 b22 [strV x18,sl a35 y33.length c36] 97),zfk p0 x18 y33=some r→Z (upd (upd (E0) 0 (pt pb0 0)) 5 (pt b22 0)) κ37) ?_ fun J1=>?_
 ·intro y33 a35 c36 E0 κ37 hs f34 f6 B_m0 B_b22 hr
  refine zg (za (cs (cx_ 8 [0,1,2,3,4,5,6,7] [6,7] 7 (blk a4 c5) (xp 40 (pt pb0 0) (xp 41 (pt pb0 0) (xp 42 (pt pb0 0) (xp 43 (pt pb0 1) (x1 44 23 (sl a4 p0.1.2.length c5) B_m0.at 1 rfl (xN 45 97 [strV x18,sl a35 y33.length c36] B_b22.at 0 2 rfl ?_)))))))))
  refine zem (d:=46) (T:=23) (e:=97) (t:=zQ) (pub:=true) (τ:=(κ.H.size,25004)) (len:=1) (l:=[(x18,y33)]) (parts:=#[(0,.agg #[strV x18,sl a35 y33.length c36])]) (cs:=[strV x18,sl a35 y33.length c36]) kr kr kr kr hs.1 rfl ⟨_,_,rfl,⟨_,_,rfl,⟨rfl,hb21⟩,⟨_,_,rfl,f34.sl⟩⟩,rfl⟩ kr fun a40 κ38 s39 f41=>?_
  replace hs:=hs.tr0 s39
  replace f6:=f6.step0 s39
  replace B_m0:=B_m0.step0 s39
  obtain ⟨x43,hx43,hr⟩:=bind_some hr
  have f6q:=f6.sl
  refine zgf (d:=47) (T:=23) (e:=97) (t:=zQ) (pub:=true) (τ:=τ0_1) (bytes:=40) (a:=a4) (cp:=c5) (l:=p0.1.2) (a2:=a40) (c2:=1) (l2:=[(x18,y33)]) kr kr f6 f41.sl (Nat.le_trans (Nat.le_of_lt lt_τ0_1) hs.1) kr hx43 kr fun a46 c47 κ44 s45 f48 hw=>?_
  have ow_f48:∀ g∈blk a46 c47,g∈([pb0]++blk a4 c5)∨κ.H.size≤g:=fun g hg=>(hw g hg).elim (ow_f6 g) (fun h=>.inr (Nat.le_trans hs.1 h))
  replace hs:=hs.trM ow_f6 s45
  replace f6q:=f6q.step s45
  replace B_m0:=B_m0.step s45 (f6.bn B_m0 (ne_τ0_τ0_1))
  refine xe (op 48 (pt pb0 0) (op 49 (pt pb0 1) (zn (b:=pb0) (off:=1) (T:=23) (sl a46 x43.length c47) [sl a46 x43.length c47] [sl a1 p0.1.1.length c2,sl a46 x43.length c47,sl a7 p0.2.1.length c8,iv p0.2.2] kr kr B_m0 rfl kr kr kr rfl fun κ49 s50 _ NB_m0=>?_)))
  replace hs:=hs.trP (by simp) s50
  replace f6q:=f6q.step s50
  replace f48:=f48.step s50 (f48.nb B_m0 (ne_τ0_1_τ0))
  replace B_m0:=NB_m0
  refine otx (op 4 (iv 0) (ot (crt ?_)))
  obtain rfl:=sj hr
  refine rt [.tmp 4] [iv 0] ⟨rfl,trivial⟩ ?_
  exact ⟨hs,_,_,rfl,(show I64 0 by unfold I64;omega),B_m0,f48,ow_f48⟩
 obtain ⟨x51,hx51,hrx51⟩:=bind_some hr
 refine zo (F:=za2 p0 p1) (J:=fun (sx51:Int×LI) (E':Env) (κ':K)=>∃ (a31:OA) (c32:Nat),(∃ E0,E'=upd (upd (upd (upd (E0) 0 (pt pb0 0)) 1 (sl a11 p1.length c12)) 5 (pt b22 0)) 6 (iv sx51.1))∧Step ([pb0]++blk a4 c5) κ κ'∧I64 sx51.1∧Gr tI64 true (κ.H.size,25003) κ' 2 a31 c32 sx51.2∧Gr zQ true τ0_1 κ' 97 a4 c5 p0.1.2∧Box τ0 κ' pb0 [sl a1 p0.1.1.length c2,sl a4 p0.1.2.length c5,sl a7 p0.2.1.length c8,iv p0.2.2] 30∧Box (κ.H.size,25001) κ' b22 [strV x18,sl a31 sx51.2.length c32] 97) (s0:=(2,[])) (x:=x51) kr hx51 ⟨_,_,⟨_,(eA 6 (eA 5 (eA 1 (eA 0 rfl))))⟩,hs,(show I64 2 by unfold I64;omega),Gr.nil,f6,B_m0,B_b22⟩ ?_
 rintro sx51 _ κ52 ⟨a31,c32,⟨E0,rfl⟩,hs,hb28,f30,f6,B_m0,B_b22⟩ yyx51 hr hdx51
 refine cs (csr (op 15 (iv sx51.1) (op 16 (bW (sx51.1<6)) (ot ?_))))
 refine cc (decide (sx51.1<6)) hr ?_ ?_
 ·intro hc hr
  refine ckt (cs (cb 1 (csr (op 19 (pt pb0 0) (op 20 (sl a11 p1.length c12) (op 21 (iv sx51.1) ?_))))))
  obtain ⟨x53,hx53,hr⟩:=bind_some hr
  obtain ⟨b54,o55,eab54,i0x53,i1x53,csx53,p_b54,owx53⟩:=(f13.step hs).idx hx53
  obtain ⟨rfl,hb56⟩:=owx53
  replace p_b54:PubAt κ52 b54 (o55+sx51.1.toNat*1) [strV x53]:=p_b54
  refine oi 22 36 9 1 p1.length c12 .i64 sx51.1 eab54 i0x53 i1x53 (o1 23 9 (strV x53) (p_b54.at.one (o:=0) rfl) ?_)
  obtain ⟨x57,hx57,hr⟩:=bind_some hr
  refine ocl 24 (zi9 (B_m0.at.part 0 2) (f3.step hs) f6.sl hb56 hx57) ?_
  rintro _ _ ⟨rfl,rfl,hb58⟩
  refine op 7 (iv x57) (ot (cs ?_))
  refine zl (fun Z=>∀ (y60:Bool) (E0:Env),zdk p0 sx51 x57 y60=some yyx51→cwp Tryz.prog 50 (sub (zC Tryz.f25) [1,0,1,0,0,1,0,0,1,0,1,1,1]) Z (upd (upd (upd (upd (upd (upd (E0) 0 (pt pb0 0)) 1 (sl a11 p1.length c12)) 5 (pt b22 0)) 6 (iv sx51.1)) 7 (iv x57)) 33 (.bool y60)) κ52) ?_ fun J2=>?_
  ·intro y60 E0 hr
   refine cc (y60) hr ?_ ?_
   ·intro hc hr
    refine csr (op 4 (iv 3) (ot (crt (zb (zf (zb ?_))))))
    have hx:=hdx51 _ (sj hr).symm
    subst hx
    replace hr:=hrx51
    refine zt (zf (zb ?_))
    obtain rfl:=sj hr
    refine rt [.tmp 4] [iv 3] ⟨rfl,trivial⟩ ?_
    exact ⟨hs,_,_,rfl,(show I64 3 by unfold I64;omega),B_m0,f6,ow_f6⟩
   intro hc hr
   refine ckt (cr (op 34 (pt b22 1) (o1 35 95 (sl a31 sx51.2.length c32) (B_b22.at.one (o:=1) rfl) (op 36 (iv x57) (zO (d:=37) (T:=95) (e:=2) (t:=tI64) (pub:=true) (τ:=(κ.H.size,25002)) (len:=1) (l:=[x57]) (parts:=#[(0,iv x57)]) (cs:=[iv x57]) kr kr kr kr hs.1 rfl ⟨_,_,rfl,⟨rfl,hb58⟩,rfl⟩ kr fun a63 κ61 s62 f64=>?_)))))
   replace hs:=hs.tr0 s62
   replace f6:=f6.step0 s62
   replace f30:=f30.step0 s62
   replace B_m0:=B_m0.step0 s62
   replace B_b22:=B_b22.step0 s62
   obtain ⟨x66,hx66,hr⟩:=bind_some hr
   have f30q:=f30.sl
   refine zM (d:=38) (T:=95) (e:=2) (t:=tI64) (pub:=true) (τ:=(κ.H.size,25003)) (bytes:=8) (a:=a31) (cp:=c32) (l:=sx51.2) (a2:=a63) (c2:=1) (l2:=[x57]) kr kr f30 f64.sl hs.1 kr hx66 fun a69 c70 κ67 s68 f71 hw=>?_
   clear hw
   replace hs:=hs.trG (f30.own (Nat.le_refl _)) s68
   replace f30q:=f30q.step s68
   replace f6:=f6.step s68 (f6.ng f30 (zai (i:=25003) lt_τ0_1))
   replace B_m0:=B_m0.step s68 (f30.bn B_m0 (zai (i:=25003) lt_τ0))
   replace B_b22:=B_b22.step s68 (f30.bn B_b22 (zm (N:=κ.H.size) (M:=κ.H.size) (i:=25001) (j:=25003) kr))
   refine op 39 (pt b22 1) (zn (b:=b22) (off:=1) (T:=95) (sl a69 x66.length c70) [sl a69 x66.length c70] [strV x18,sl a69 x66.length c70] kr kr B_b22 rfl kr kr kr rfl fun κ72 s73 _ NB_b22=>?_)
   replace hs:=hs.trB B_b22.ge s73
   replace f30q:=f30q.step s73
   replace f6:=f6.step s73 (f6.nb B_b22 (zai (i:=25001) lt_τ0_1))
   replace f71:=f71.step s73 (f71.nb B_b22 (zm (N:=κ.H.size) (M:=κ.H.size) (i:=25003) (j:=25001) kr))
   replace B_m0:=B_m0.step s73 (nm1 (B_m0.ne B_b22 (zai (i:=25001) lt_τ0)))
   replace B_b22:=NB_b22
   refine oe (zd (za (cr (op 17 (iv sx51.1) (op 18 (iv (w64 (sx51.1+1))) (op 6 (iv (w64 (sx51.1+1))) (oe ?_)))))))
   exact ze (sj hr).symm ⟨_,_,⟨_,(eA 6 (eA 5 (eA 1 (eA 0 rfl))))⟩,hs,(zq _),f71,f6,B_m0,B_b22⟩
  refine csr (op 25 (iv x57) (op 26 (bW (x57=0)) ?_))
  refine osp 27 (decide (x57=0)) hr ?_ ?_
  ·intro hg hr
   refine os 28 (os 29 (os 30 (os 31 (os 32 (op 33 (.bool false) (ot ?_))))))
   exact zk (eA 33 (eA 7 (eA 6 (eA 5 (eA 1 (eA 0 rfl)))))) (J2 false  _  hr)
  intro hg hr
  refine op 28 (sl a11 p1.length c12) (op 29 (iv sx51.1) ?_)
  obtain ⟨x74,hx74,hr⟩:=bind_some hr
  have eqx74:x53=x74:=sj (hx53.symm.trans hx74);subst eqx74
  have hx74q:=hx74
  obtain ⟨b75,o76,eab75,i0x74,i1x74,csx74,p_b75,owx74⟩:=(f13.step hs).idx hx74
  obtain ⟨rfl,hb77⟩:=owx74
  replace p_b75:PubAt κ52 b75 (o76+sx51.1.toNat*1) [strV x53]:=p_b75
  refine oi 30 36 9 1 p1.length c12 .i64 sx51.1 eab75 i0x74 i1x74 (o1 31 9 (strV x53) (p_b75.at.one (o:=0) rfl) (oq 32 (.bool (!decide (x53=([45]:BS)))) (fun _=>zch kr) (op 33 (.bool (!decide (x53=([45]:BS)))) (ot ?_))))
  exact zk (eA 33 (eA 7 (eA 6 (eA 5 (eA 1 (eA 0 rfl)))))) (J2 (!decide (x53=([45]:BS)))  _  hr)
 intro hc hr
 refine cx 0 (zh ?_)
 have hx:=hdx51 _ (sj hr).symm
 subst hx
 replace hr:=hrx51
 refine zi ?_
 exact zr (eA 5 (eA 0 rfl)) (J1 sx51.2 _ _ _ _ hs f30 f6 B_m0 B_b22 hr)
theorem zjs {κ:K} {p0:TS×(LP)×Int} {pb0:Nat} {τ0:Tag} {a1:OA} {c2:Nat} {a4:OA} {c5:Nat} {a7:OA} {c8:Nat} {p2:BS} {p3:BS} (B_m0:Box τ0 κ pb0 [sl a1 p0.1.1.length c2,sl a4 p0.1.2.length c5,sl a7 p0.2.1.length c8,iv p0.2.2] 30) (f3:Sl tGlue κ a1 c2 p0.1.1) (f6:Sl zQ κ a4 c5 p0.1.2) (f9:Sl tPlaced κ a7 c8 p0.2.1) (hb10:I64 p0.2.2) (hb11:p2.length≤9223372036854775807) (hb12:p3.length≤9223372036854775807) {r:Int×(TS×(LP)×Int)} (hr:zdU p0 p2 p3=some r) :
 Fn Tryz.prog 26 #[pt pb0 0,pt pb0 2,strV p2,strV p3] κ (fun v κ'=>Step ([pb0]) κ κ'∧∃ (a14:OA) (c15:Nat),v=iv r.1∧I64 r.1∧Box τ0 κ' pb0 [sl a1 p0.1.1.length c2,sl a4 p0.1.2.length c5,sl a14 r.2.2.1.length c15,iv p0.2.2] 30∧Sl tPlaced κ' a14 c15 r.2.2.1):=by
 refine fnc 40 ([pb0]) Tryz.func26 Tryz.ntmps26 fun hs=>?_
 have lt_τ0:=B_m0.tlt
 refine csr (op 8 (iv 0) (otx (op 13 (strV p3) ?_)))
 obtain ⟨x17,hx17,hr⟩:=bind_some hr
 refine ocl 14 (zlc hb12 hx17) ?_
 rintro _ κ20 ⟨s21,rfl,hb18,hb19⟩
 replace hs:=hs.tr0 s21
 replace B_m0:=B_m0.step0 s21
 refine op 12 (.tuple #[.agg #[iv x17.1.1,iv x17.1.2],.bool x17.2]) (op 15 (.agg #[iv x17.1.1,iv x17.1.2]) (op 16 (.bool x17.2) (zz (d:=9) (T:=100) (κ.H.size,26001) hs.1 [iv 0,iv 0] kr kr kr fun b22 κ23 s24 B_b22=>?_)))
 replace hs:=hs.tr0 s24
 replace B_m0:=B_m0.step0 s24
 refine zn (b:=b22) (off:=0) (T:=100) (.agg #[iv x17.1.1,iv x17.1.2]) [iv x17.1.1,iv x17.1.2] [iv x17.1.1,iv x17.1.2] kr kr B_b22 rfl kr kr kr rfl fun κ25 s26 _ NB_b22=>?_
 replace hs:=hs.trB B_b22.ge s26
 replace B_m0:=B_m0.step s26 (nm1 (B_m0.ne B_b22 (zai (i:=26001) lt_τ0)))
 replace B_b22:=NB_b22
 refine op 10 (.bool x17.2) (ot (cs (csr (op 17 (.bool x17.2) (op 18 (.bool (!x17.2)) (ot ?_))))))
 refine cc (!x17.2) hr ?_ ?_
 ·intro hc hr
  refine csr (op 8 (iv 6) (ot (crt (zb ?_))))
  obtain rfl:=sj hr
  refine rt [.tmp 8] [iv 6] ⟨rfl,trivial⟩ ?_
  exact ⟨hs,_,_,rfl,(show I64 6 by unfold I64;omega),B_m0,(f9.step hs)⟩
 intro hc hr
 refine ckt (csr (op 19 (pt pb0 0) (op 20 (strV p2) ?_)))
 obtain ⟨x27,hx27,hr⟩:=bind_some hr
 refine ocl 21 (zi8 (B_m0.at.part 0 2) (f3.step hs) (f6.step hs) hb11 hx27) ?_
 rintro _ _ ⟨rfl,rfl,hb28⟩
 refine op 11 (iv x27) (ot (cs (csr (op 22 (iv x27) (op 23 (bW (x27<0)) (ot ?_))))))
 refine cc (decide (x27<0)) hr ?_ ?_
 ·intro hc hr
  refine csr (op 8 (iv 3) (ot (crt (zb ?_))))
  obtain rfl:=sj hr
  refine rt [.tmp 8] [iv 3] ⟨rfl,trivial⟩ ?_
  exact ⟨hs,_,_,rfl,(show I64 3 by unfold I64;omega),B_m0,(f9.step hs)⟩
 intro hc hr
 refine ckt (cs (csr (op 24 (pt pb0 2) (oN 25 100 [iv x17.1.1,iv x17.1.2] (B_b22.at.part 0 2).2 ?_))))
 obtain ⟨x30,hx30,hr⟩:=bind_some hr
 refine ocl 26 (zil (B_m0.at.part 2 1) (f9.step hs) hb18 hb19 hx30) ?_
 rintro _ κ32 ⟨s33,rfl,hb31⟩
 replace hs:=hs.tr0 s33
 replace B_m0:=B_m0.step0 s33
 replace B_b22:=B_b22.step0 s33
 refine op 27 (bW (x30≥0)) (ot ?_)
 refine cc (decide (x30≥0)) hr ?_ ?_
 ·intro hc hr
  refine csr (op 8 (iv 7) (ot (crt (zb ?_))))
  obtain rfl:=sj hr
  refine rt [.tmp 8] [iv 7] ⟨rfl,trivial⟩ ?_
  exact ⟨hs,_,_,rfl,(show I64 7 by unfold I64;omega),B_m0,(f9.step hs)⟩
 intro hc hr
 refine ckt (cs (csr (op 28 (pt pb0 2) (op 29 (pt pb0 2) (op 30 (pt pb0 2) (o1 31 26 (sl a7 p0.2.1.length c8) (B_m0.at.one (o:=2) rfl) (op 32 (iv (p0.2.1.length:Int)) (op 33 (bW ((p0.2.1.length:Int)=500)) (ot ?_)))))))))
 refine cc (decide ((p0.2.1.length:Int)=500)) hr ?_ ?_
 ·intro hc hr
  refine csr (op 8 (iv 4) (ot (crt (zb ?_))))
  obtain rfl:=sj hr
  refine rt [.tmp 8] [iv 4] ⟨rfl,trivial⟩ ?_
  exact ⟨hs,_,_,rfl,(show I64 4 by unfold I64;omega),B_m0,(f9.step hs)⟩
 intro hc hr
 refine ckt (csr (op 34 (pt pb0 2) (op 35 (pt pb0 2) (oN 36 100 [iv x17.1.1,iv x17.1.2] (B_b22.at.part 0 2).2 (op 37 (iv x27) ?_)))))
 obtain ⟨x34,hx34,hr⟩:=bind_some hr
 refine ocl 38 (zmQ (B_m0.at.part 2 1) (f9.step hs) hb18 hb19 hb28 hx34) ?_
 rintro _ κ38 ⟨s39,a35,c36,rfl,f37⟩
 replace hs:=hs.tr0 s39
 replace B_m0:=B_m0.step0 s39
 refine op 39 (pt pb0 2) (zn (b:=pb0) (off:=2) (T:=28) (.agg #[sl a35 x34.length c36]) [sl a35 x34.length c36] [sl a1 p0.1.1.length c2,sl a4 p0.1.2.length c5,sl a35 x34.length c36,iv p0.2.2] kr kr B_m0 rfl kr kr kr rfl fun κ40 s41 _ NB_m0=>?_)
 replace hs:=hs.trP (by simp) s41
 replace f37:=f37.step s41
 replace B_m0:=NB_m0
 refine otx (op 8 (iv 0) (ot (crt ?_)))
 obtain rfl:=sj hr
 refine rt [.tmp 8] [iv 0] ⟨rfl,trivial⟩ ?_
 exact ⟨hs,_,_,rfl,(show I64 0 by unfold I64;omega),B_m0,f37⟩
theorem zmk {κ:K} {p0:TS×(LP)×Int} {pb0:Nat} {τ0:Tag} {a1:OA} {c2:Nat} {a4:OA} {c5:Nat} {a7:OA} {c8:Nat} {τ0_0:Tag} {τ0_1:Tag} {p1:LW} {a11:OA} {c12:Nat} {p2:Bool} (B_m0:Box τ0 κ pb0 [sl a1 p0.1.1.length c2,sl a4 p0.1.2.length c5,sl a7 p0.2.1.length c8,iv p0.2.2] 30) (f3:Gr tGlue true τ0_0 κ 94 a1 c2 p0.1.1) (lt_τ0_0:τ0_0.1<κ.H.size) (f6:Gr zQ true τ0_1 κ 97 a4 c5 p0.1.2) (lt_τ0_1:τ0_1.1<κ.H.size) (f9:Sl tPlaced κ a7 c8 p0.2.1) (hb10:I64 p0.2.2) (f13:Sl tStr κ a11 c12 p1) (ne_τ0_τ0_0:τ0≠τ0_0) (ne_τ0_τ0_1:τ0≠τ0_1) (ne_τ0_0_τ0_1:τ0_0≠τ0_1) {r:Int×(TS×(LP)×Int)} (hr:zaa p0 p1 p2=some r) :
 Fn Tryz.prog 10 #[pt pb0 0,sl a11 p1.length c12,.bool p2] κ (fun v κ'=>Step ([pb0]++blk a1 c2++blk a4 c5) κ κ'∧∃ (a15:OA) (c16:Nat) (a18:OA) (c19:Nat) (a21:OA) (c22:Nat),v=iv r.1∧I64 r.1∧Box τ0 κ' pb0 [sl a15 r.2.1.1.length c16,sl a18 r.2.1.2.length c19,sl a21 r.2.2.1.length c22,iv r.2.2.2] 30∧Gr tGlue true τ0_0 κ' 94 a15 c16 r.2.1.1∧(∀ g∈blk a15 c16,g∈([pb0]++blk a1 c2++blk a4 c5)∨κ.H.size≤g)∧Gr zQ true τ0_1 κ' 97 a18 c19 r.2.1.2∧(∀ g∈blk a18 c19,g∈([pb0]++blk a1 c2++blk a4 c5)∨κ.H.size≤g)∧Sl tPlaced κ' a21 c22 r.2.2.1∧I64 r.2.2.2):=by
 refine fnc 84 ([pb0]++blk a1 c2++blk a4 c5) Tryz.func10 Tryz.ntmps10 fun hs=>?_
 have lt_τ0:=B_m0.tlt
 have ne_τ0_0_τ0:=ne_τ0_τ0_0.symm
 have ne_τ0_1_τ0:=ne_τ0_τ0_1.symm
 have ne_τ0_1_τ0_0:=ne_τ0_0_τ0_1.symm
 have ow_f3:∀ g∈blk a1 c2,g∈([pb0]++blk a1 c2++blk a4 c5)∨κ.H.size≤g:=fun g hg=>.inl (by simp [hg])
 have ow_f6:∀ g∈blk a4 c5,g∈([pb0]++blk a1 c2++blk a4 c5)∨κ.H.size≤g:=fun g hg=>.inl (by simp [hg])
 refine csr (op 6 (iv 0) (ot (cs (csr (op 9 (.bool p2) (ot ?_))))))
 refine cc (p2) hr ?_ ?_
 ·intro hc hr
  refine cs ?_
  refine zl (fun Z=>∀ (y25:Bool) (E0:Env),zdv p0 p1 y25=some r→cwp Tryz.prog 84 (sub (zC Tryz.f10) [1,0,0,1,0,1]) Z (upd (upd (upd (E0) 0 (pt pb0 0)) 1 (sl a11 p1.length c12)) 18 (.bool y25)) κ) ?_ fun J1=>?_
  ·intro y25 E0 hr
   refine cc (y25) hr ?_ ?_
   ·intro hc hr
    refine csr (op 6 (iv 6) (ot (crt (zb (zb ?_)))))
    obtain rfl:=sj hr
    refine rt [.tmp 6] [iv 6] ⟨rfl,trivial⟩ ?_
    exact ⟨hs,_,_,_,_,_,_,rfl,(show I64 6 by unfold I64;omega),B_m0,f3,ow_f3,f6,ow_f6,f9,hb10⟩
   intro hc hr
   refine ckt (csr (op 20 (sl a11 p1.length c12) ?_))
   obtain ⟨x26,hx26,hr⟩:=bind_some hr
   obtain ⟨b27,o28,eab27,i0x26,i1x26,csx26,p_b27,owx26⟩:=f13.idx hx26
   obtain ⟨rfl,hb29⟩:=owx26
   replace p_b27:PubAt κ b27 (o28+(1:Int).toNat*1) [strV x26]:=p_b27
   refine oi 21 36 9 1 p1.length c12 .i64 1 eab27 i0x26 i1x26 (o1 22 9 (strV x26) (p_b27.at.one (o:=0) rfl) ?_)
   obtain ⟨x30,hx30,hr⟩:=bind_some hr
   refine ocl 23 (zcL hb29 hx30) ?_
   rintro _ κ32 ⟨s33,rfl,hb31⟩
   replace hs:=hs.tr0 s33
   replace f3:=f3.step0 s33
   replace f6:=f6.step0 s33
   replace B_m0:=B_m0.step0 s33
   refine op 19 (.tuple #[iv x30.1,.bool x30.2]) (op 24 (iv x30.1) (op 25 (.bool x30.2) (op 7 (iv x30.1) (op 8 (.bool x30.2) (ot (cs (csr (op 26 (.bool x30.2) (op 27 (.bool (!x30.2)) ?_)))))))))
   refine ot ?_
   refine cc (!x30.2) hr ?_ ?_
   ·intro hc hr
    refine csr (op 6 (iv 6) (ot (crt (zb (zb ?_)))))
    obtain rfl:=sj hr
    refine rt [.tmp 6] [iv 6] ⟨rfl,trivial⟩ ?_
    exact ⟨hs,_,_,_,_,_,_,rfl,(show I64 6 by unfold I64;omega),B_m0,f3,ow_f3,f6,ow_f6,(f9.step hs),hb10⟩
   intro hc hr
   refine ckt (csr (op 28 (pt pb0 0) (op 29 (iv x30.1) (op 30 (pt pb0 0) (op 31 (pt pb0 3) (zn (b:=pb0) (off:=3) (T:=2) (iv x30.1) [iv x30.1] [sl a1 p0.1.1.length c2,sl a4 p0.1.2.length c5,sl a7 p0.2.1.length c8,iv x30.1] kr kr B_m0 rfl kr kr kr rfl fun κ34 s35 _ NB_m0=>?_))))))
   replace hs:=hs.trP (by simp) s35
   replace f3:=f3.step s35 (f3.nb B_m0 (ne_τ0_0_τ0))
   replace f6:=f6.step s35 (f6.nb B_m0 (ne_τ0_1_τ0))
   replace B_m0:=NB_m0
   refine otx (op 6 (iv 0) (ot (crt (zb ?_))))
   obtain rfl:=sj hr
   refine rt [.tmp 6] [iv 0] ⟨rfl,trivial⟩ ?_
   exact ⟨hs,_,_,_,_,_,_,rfl,(show I64 0 by unfold I64;omega),B_m0,f3,ow_f3,f6,ow_f6,(f9.step hs),hb31⟩
  refine csr (op 10 (sl a11 p1.length c12) (op 11 (iv (p1.length:Int)) (op 12 (.bool (!decide ((p1.length:Int)=2))) ?_)))
  refine osp 13 (!decide ((p1.length:Int)=2)) hr ?_ ?_
  ·intro hg hr
   refine op 14 (sl a11 p1.length c12) ?_
   obtain ⟨x36,hx36,hr⟩:=bind_some hr
   obtain ⟨b37,o38,eab37,i0x36,i1x36,csx36,p_b37,owx36⟩:=f13.idx hx36
   obtain ⟨rfl,hb39⟩:=owx36
   replace p_b37:PubAt κ b37 (o38+(0:Int).toNat*1) [strV x36]:=p_b37
   refine oi 15 36 9 1 p1.length c12 .i64 0 eab37 i0x36 i1x36 (o1 16 9 (strV x36) (p_b37.at.one (o:=0) rfl) (oq 17 (.bool (!decide (x36=([116,101,109,112,101,114,97,116,117,114,101]:BS)))) (fun _=>zch kr) (op 18 (.bool (!decide (x36=([116,101,109,112,101,114,97,116,117,114,101]:BS)))) (ot ?_))))
   exact zk (eA 18 (eA 1 (eA 0 rfl))) (J1 (!decide (x36=([116,101,109,112,101,114,97,116,117,114,101]:BS)))  _  hr)
  intro hg hr
  refine os 14 (os 15 (os 16 (os 17 (op 18 (.bool true) (ot ?_)))))
  exact zk (eA 18 (eA 1 (eA 0 rfl))) (J1 true  _  hr)
 intro hc hr
 refine ckt (cs (csr (op 32 (sl a11 p1.length c12) (op 33 (iv (p1.length:Int)) (op 34 (bW ((p1.length:Int)=0)) (ot ?_))))))
 refine cc (decide ((p1.length:Int)=0)) hr ?_ ?_
 ·intro hc hr
  refine csr (op 6 (iv 6) (ot (crt (zb ?_))))
  obtain rfl:=sj hr
  refine rt [.tmp 6] [iv 6] ⟨rfl,trivial⟩ ?_
  exact ⟨hs,_,_,_,_,_,_,rfl,(show I64 6 by unfold I64;omega),B_m0,f3,ow_f3,f6,ow_f6,f9,hb10⟩
 intro hc hr
 refine ckt (cs (csr (op 35 (sl a11 p1.length c12) ?_)))
 obtain ⟨x40,hx40,hr⟩:=bind_some hr
 obtain ⟨b41,o42,eab41,i0x40,i1x40,csx40,p_b41,owx40⟩:=f13.idx hx40
 obtain ⟨rfl,hb43⟩:=owx40
 replace p_b41:PubAt κ b41 (o42+(0:Int).toNat*1) [strV x40]:=p_b41
 refine oi 36 36 9 1 p1.length c12 .i64 0 eab41 i0x40 i1x40 (o1 37 9 (strV x40) (p_b41.at.one (o:=0) rfl) (ot (cb 0 (csr (oq 39 (bW (x40=([103,108,117,101]:BS))) (fun _=>zci kr) (op 38 (bW (x40=([103,108,117,101]:BS))) (ot ?_)))))))
 refine cc (decide (x40=([103,108,117,101]:BS))) hr ?_ ?_
 ·intro hc hr
  refine cs (csr (op 40 (pt pb0 0) (op 41 (pt pb0 0) (op 42 (pt pb0 2) (op 43 (pt pb0 2) (o1 44 26 (sl a7 p0.2.1.length c8) (B_m0.at.one (o:=2) rfl) (op 45 (iv (p0.2.1.length:Int)) (op 46 (bW ((p0.2.1.length:Int)>0)) (ot ?_)))))))))
  refine cc (decide ((p0.2.1.length:Int)>0)) hr ?_ ?_
  ·intro hc hr
   refine csr (op 6 (iv 6) (ot (crt (zb (zf (zb ?_))))))
   obtain rfl:=sj hr
   refine rt [.tmp 6] [iv 6] ⟨rfl,trivial⟩ ?_
   exact ⟨hs,_,_,_,_,_,_,rfl,(show I64 6 by unfold I64;omega),B_m0,f3,ow_f3,f6,ow_f6,f9,hb10⟩
  intro hc hr
  refine ckt (csr (op 47 (pt pb0 0) (op 48 (pt pb0 0) (op 49 (pt pb0 0) (op 50 (sl a11 p1.length c12) ?_)))))
  obtain ⟨x44,hx44,hr⟩:=bind_some hr
  refine ocl 51 (zkv (p0:=p0) B_m0 f3 (Nat.lt_of_lt_of_le lt_τ0_0 hs.1) f6.sl f9 hb10 f13 (ne_τ0_τ0_0) hx44) ?_
  rintro _ κ49 ⟨s50,a46,c47,rfl,hb45,NB_m0,f48,ow_f48⟩
  replace ow_f48:∀ g∈blk a46 c47,g∈([pb0]++blk a1 c2++blk a4 c5)∨κ.H.size≤g:=fun g hg=>(ow_f48 g hg).elim ((zeZ (zhQ (by simp)) ow_f3) g) (fun h=>.inr (Nat.le_trans hs.1 h))
  replace hs:=hs.trM (zeZ (zhQ (by simp)) ow_f3) s50
  replace f6:=f6.step s50 (zlz (f6.nb B_m0 (ne_τ0_1_τ0)) (f6.ng f3 (ne_τ0_1_τ0_0)))
  replace B_m0:=NB_m0
  refine op 6 (iv x44.1) (ot (crt (zf (zb ?_))))
  obtain rfl:=sj hr
  refine rt [.tmp 6] [iv x44.1] ⟨rfl,trivial⟩ ?_
  exact ⟨hs,_,_,_,_,_,_,rfl,hb45,B_m0,f48,ow_f48,f6,ow_f6,(f9.step hs),hb10⟩
 intro hc hr
 refine csr (oq 53 (bW (x40=([116,105,108,101]:BS))) (fun _=>zci kr) (op 52 (bW (x40=([116,105,108,101]:BS))) (ot ?_)))
 refine cc (decide (x40=([116,105,108,101]:BS))) hr ?_ ?_
 ·intro hc hr
  refine cs (csr (op 54 (pt pb0 0) (op 55 (pt pb0 0) (op 56 (pt pb0 2) (op 57 (pt pb0 2) (o1 58 26 (sl a7 p0.2.1.length c8) (B_m0.at.one (o:=2) rfl) (op 59 (iv (p0.2.1.length:Int)) (op 60 (bW ((p0.2.1.length:Int)>0)) (ot ?_)))))))))
  refine cc (decide ((p0.2.1.length:Int)>0)) hr ?_ ?_
  ·intro hc hr
   refine csr (op 6 (iv 6) (ot (crt (zb (zf (zb ?_))))))
   obtain rfl:=sj hr
   refine rt [.tmp 6] [iv 6] ⟨rfl,trivial⟩ ?_
   exact ⟨hs,_,_,_,_,_,_,rfl,(show I64 6 by unfold I64;omega),B_m0,f3,ow_f3,f6,ow_f6,f9,hb10⟩
  intro hc hr
  refine ckt (csr (op 61 (pt pb0 0) (op 62 (pt pb0 0) (op 63 (pt pb0 0) (op 64 (sl a11 p1.length c12) ?_)))))
  obtain ⟨x51,hx51,hr⟩:=bind_some hr
  refine ocl 65 (zku (p0:=p0) B_m0 f3.sl f6 (Nat.lt_of_lt_of_le lt_τ0_1 hs.1) f9 hb10 f13 (ne_τ0_τ0_1) hx51) ?_
  rintro _ κ56 ⟨s57,a53,c54,rfl,hb52,NB_m0,f55,ow_f55⟩
  replace ow_f55:∀ g∈blk a53 c54,g∈([pb0]++blk a1 c2++blk a4 c5)∨κ.H.size≤g:=fun g hg=>(ow_f55 g hg).elim ((zeZ (zhQ (by simp)) ow_f6) g) (fun h=>.inr (Nat.le_trans hs.1 h))
  replace hs:=hs.trM (zeZ (zhQ (by simp)) ow_f6) s57
  replace f3:=f3.step s57 (zlz (f3.nb B_m0 (ne_τ0_0_τ0)) (f3.ng f6 (ne_τ0_0_τ0_1)))
  replace B_m0:=NB_m0
  refine op 6 (iv x51.1) (ot (crt (zf (zb ?_))))
  obtain rfl:=sj hr
  refine rt [.tmp 6] [iv x51.1] ⟨rfl,trivial⟩ ?_
  exact ⟨hs,_,_,_,_,_,_,rfl,hb52,B_m0,f3,ow_f3,f55,ow_f55,(f9.step hs),hb10⟩
 intro hc hr
 refine csr (oq 67 (bW (x40=([115,101,101,100]:BS))) (fun _=>zci kr) (op 66 (bW (x40=([115,101,101,100]:BS))) (ot ?_)))
 refine cc (decide (x40=([115,101,101,100]:BS))) hr ?_ ?_
 ·intro hc hr
  refine cs (csr (op 68 (sl a11 p1.length c12) (op 69 (iv (p1.length:Int)) (op 70 (.bool (!decide ((p1.length:Int)=3))) (ot ?_)))))
  refine cc (!decide ((p1.length:Int)=3)) hr ?_ ?_
  ·intro hc hr
   refine csr (op 6 (iv 6) (ot (crt (zb (zf (zb ?_))))))
   obtain rfl:=sj hr
   refine rt [.tmp 6] [iv 6] ⟨rfl,trivial⟩ ?_
   exact ⟨hs,_,_,_,_,_,_,rfl,(show I64 6 by unfold I64;omega),B_m0,f3,ow_f3,f6,ow_f6,f9,hb10⟩
  intro hc hr
  refine ckt (cs (cd 12 (dp 71 (pt pb0 0) (dp 72 (pt pb0 0) (dp 73 (pt pb0 0) (dp 74 (pt pb0 0) (dp 75 (pt pb0 0) (dp 76 (pt pb0 2) (dp 77 (sl a11 p1.length c12) ?_)))))))))
  obtain ⟨x58,hx58,hr⟩:=bind_some hr
  obtain ⟨b59,o60,eab59,i0x58,i1x58,csx58,p_b59,owx58⟩:=f13.idx hx58
  obtain ⟨rfl,hb61⟩:=owx58
  replace p_b59:PubAt κ b59 (o60+(1:Int).toNat*1) [strV x58]:=p_b59
  refine di 78 36 9 1 p1.length c12 .i64 1 eab59 i0x58 i1x58 (d1 79 9 (strV x58) (p_b59.at.one (o:=0) rfl) (dp 80 (sl a11 p1.length c12) ?_))
  obtain ⟨x62,hx62,hr⟩:=bind_some hr
  obtain ⟨b63,o64,eab63,i0x62,i1x62,csx62,p_b63,owx62⟩:=f13.idx hx62
  obtain ⟨rfl,hb65⟩:=owx62
  replace p_b63:PubAt κ b63 (o64+(2:Int).toNat*1) [strV x62]:=p_b63
  refine di 81 36 9 1 p1.length c12 .i64 2 eab63 i0x62 i1x62 (d1 82 9 (strV x62) (p_b63.at.one (o:=0) rfl) (de ?_))
  obtain ⟨x66,hx66,hr⟩:=bind_some hr
  refine ocl 83 (zjs (p0:=p0) B_m0 f3.sl f6.sl f9 hb10 hb61 hb65 hx66) ?_
  rintro _ κ71 ⟨s72,a68,c69,rfl,hb67,NB_m0,f70⟩
  replace hs:=hs.trM (zhQ (by simp)) s72
  replace f3:=f3.step s72 (f3.nb B_m0 (ne_τ0_0_τ0))
  replace f6:=f6.step s72 (f6.nb B_m0 (ne_τ0_1_τ0))
  replace B_m0:=NB_m0
  refine op 6 (iv x66.1) (ot (crt (zf (zb ?_))))
  obtain rfl:=sj hr
  refine rt [.tmp 6] [iv x66.1] ⟨rfl,trivial⟩ ?_
  exact ⟨hs,_,_,_,_,_,_,rfl,hb67,B_m0,f3,ow_f3,f6,ow_f6,f70,hb10⟩
 intro hc hr
 refine ck (zd (za (csr (op 6 (iv 6) (ot (crt ?_))))))
 obtain rfl:=sj hr
 refine rt [.tmp 6] [iv 6] ⟨rfl,trivial⟩ ?_
 exact ⟨hs,_,_,_,_,_,_,rfl,(show I64 6 by unfold I64;omega),B_m0,f3,ow_f3,f6,ow_f6,f9,hb10⟩
theorem zlF {κ:K} {p0:BS} (hb1:p0.length≤9223372036854775807) {r:LW} (hr:zgD p0=some r) :
 Fn Tryz.prog 11 #[strV p0] κ (fun v κ'=>Step [] κ κ'∧∃ (a2:OA) (c3:Nat),v=sl a2 r.length c3∧Sl tStr κ' a2 c3 r):=by
 refine fnc 36 [] Tryz.func11 Tryz.ntmps11 fun hs=>csr (op 2 (sl none 0 0) (otx (zO (d:=6) (T:=36) (e:=9) (t:=tStr) (pub:=true) (τ:=(κ.H.size,11001)) (len:=0) (l:=[]) (parts:=#[]) (cs:=[]) kr kr kr kr hs.1 rfl rfl kr fun a7 κ5 s6 f8=>?_)))
 replace hs:=hs.tr0 s6
 refine op 3 (sl a7 0 0) (otx (op 4 (iv 0) (ot (cs (csr (op 5 (iv 0) (ot (cb 0 ?_))))))))
 refine zj 0 (fun Z=>∀ (y18:LW) (a20:OA) (c21:Nat) (E0:Env) (κ22:K) (hs:Step [] κ κ22) (f19:Gr tStr true (κ.H.size,11001) κ22 9 a20 c21 y18),zgl y18=some r→Z (upd (E0) 3 (sl a20 y18.length c21)) κ22) ?_ fun J1=>?_
 ·intro y18 a20 c21 E0 κ22 hs f19 hr
  refine zg (za (csr (op 35 (sl a20 y18.length c21) (op 2 (sl a20 y18.length c21) (ot (crt ?_))))))
  obtain rfl:=sj hr
  refine rt [.tmp 2] [sl a20 y18.length c21] ⟨rfl,trivial⟩ ?_
  exact ⟨hs,_,_,rfl,f19.sl⟩
 obtain ⟨x23,hx23,hrx23⟩:=bind_some hr
 refine zo (F:=zal p0) (J:=fun (sx23:LW×Int×Int) (E':Env) (κ':K)=>∃ (a12:OA) (c13:Nat),(∃ E0,E'=upd (upd (upd (upd (E0) 0 (strV p0)) 3 (sl a12 sx23.1.length c13)) 4 (iv sx23.2.1)) 5 (iv sx23.2.2))∧Step [] κ κ'∧Gr tStr true (κ.H.size,11001) κ' 9 a12 c13 sx23.1∧I64 sx23.2.1∧I64 sx23.2.2) (s0:=([],0,0)) (x:=x23) kr hx23 ⟨_,_,⟨_,(eA 5 (eA 4 (eA 3 (eA 0 rfl))))⟩,hs,f8,(show I64 0 by unfold I64;omega),(show I64 0 by unfold I64;omega)⟩ ?_
 rintro sx23 _ κ24 ⟨a12,c13,⟨E0,rfl⟩,hs,f11,hb15,hb17⟩ yyx23 hr hdx23
 refine cs (csr (op 7 (iv sx23.2.2) (op 8 (strV p0) (op 9 (iv (p0.length:Int)) (op 10 (bW (sx23.2.2≤(p0.length:Int))) (ot ?_))))))
 refine cc (decide (sx23.2.2≤(p0.length:Int))) hr ?_ ?_
 ·intro hc hr
  refine ckt ?_
  refine zl (fun Z=>∀ (y25:LW) (y29:Int) (a27:OA) (c28:Nat) (E0:Env) (κ31:K) (hs:Step [] κ κ31) (f26:Gr tStr true (κ.H.size,11001) κ31 9 a27 c28 y25) (hb30:I64 y29),zcV sx23 y25 y29=some yyx23→cwp Tryz.prog 36 (sub (zC Tryz.f11) [1,1,0,0,1,0,1,1,1]) Z (upd (upd (upd (upd (E0) 0 (strV p0)) 3 (sl a27 y25.length c28)) 4 (iv y29)) 5 (iv sx23.2.2)) κ31) ?_ fun J2=>?_
  ·intro y25 y29 a27 c28 E0 κ31 hs f26 hb30 hr
   refine cr (op 11 (iv sx23.2.2) (op 12 (iv (w64 (sx23.2.2+1))) (op 5 (iv (w64 (sx23.2.2+1))) (oe ?_))))
   exact ze (sj hr).symm ⟨_,_,⟨_,(eA 5 (eA 4 (eA 3 (eA 0 rfl))))⟩,hs,f26,hb30,(zq _)⟩
  refine cs (cb 1 ?_)
  refine zl (fun Z=>∀ (y32:Bool) (E0:Env),zam p0 sx23 y32=some yyx23→cwp Tryz.prog 36 (sub (zC Tryz.f11) [1,0,0,1,0,0,1,0,1,1,1]) Z (upd (upd (upd (upd (upd (E0) 0 (strV p0)) 3 (sl a12 sx23.1.length c13)) 4 (iv sx23.2.1)) 5 (iv sx23.2.2)) 22 (.bool y32)) κ24) ?_ fun J3=>?_
  ·intro y32 E0 hr
   refine cc (y32) hr ?_ ?_
   ·intro hc hr
    refine zl (fun Z=>∀ (y33:LW) (a35:OA) (c36:Nat) (E0:Env) (κ37:K) (hs:Step [] κ κ37) (f34:Gr tStr true (κ.H.size,11001) κ37 9 a35 c36 y33),zet sx23 y33=some yyx23→cwp Tryz.prog 36 (sub (zC Tryz.f11) [1,0,1,0,0,1,0,0,1,0,1,1,1]) Z (upd (upd (upd (E0) 0 (strV p0)) 3 (sl a35 y33.length c36)) 5 (iv sx23.2.2)) κ37) ?_ fun J4=>?_
    ·intro y33 a35 c36 E0 κ37 hs f34 hr
     refine cr (op 33 (iv sx23.2.2) (op 34 (iv (w64 (sx23.2.2+1))) (op 4 (iv (w64 (sx23.2.2+1))) (oe (zd (za ?_))))))
     exact zk (eA 5 (eA 4 (eA 3 (eA 0 rfl)))) (J2 y33 (w64 (sx23.2.2+1)) _ _ _ _ hs f34 (zq _) hr)
    refine cs (csr (op 23 (iv sx23.2.2) (op 24 (iv sx23.2.1) (op 25 (bW (sx23.2.2>sx23.2.1)) (ot ?_)))))
    refine cc (decide (sx23.2.2>sx23.2.1)) hr ?_ ?_
    ·intro hc hr
     refine cr (op 26 (sl a12 sx23.1.length c13) (op 27 (strV p0) (op 28 (iv sx23.2.1) (op 29 (iv sx23.2.2) ?_))))
     obtain ⟨x38,hx38,hr⟩:=bind_some hr
     refine oq 30 (strV x38) (fun _=>zdn (T:=9) (s:=p0) (lo:=(some sx23.2.1)) (hi:=(some sx23.2.2)) kr kr hx38) (zO (d:=31) (T:=36) (e:=9) (t:=tStr) (pub:=true) (τ:=(κ.H.size,11002)) (len:=1) (l:=[x38]) (parts:=#[(0,strV x38)]) (cs:=[strV x38]) kr kr kr kr hs.1 rfl ⟨_,_,rfl,⟨rfl,(zd3 hx38 hb1)⟩,rfl⟩ kr fun a41 κ39 s40 f42=>?_)
     replace hs:=hs.tr0 s40
     replace f11:=f11.step0 s40
     obtain ⟨x44,hx44,hr⟩:=bind_some hr
     refine zM (d:=32) (T:=36) (e:=9) (t:=tStr) (pub:=true) (τ:=(κ.H.size,11001)) (bytes:=16) (a:=a12) (cp:=c13) (l:=sx23.1) (a2:=a41) (c2:=1) (l2:=[x38]) kr kr f11 f42.sl hs.1 kr hx44 fun a47 c48 κ45 s46 f49 hw=>?_
     clear hw
     replace hs:=hs.trG (f11.own (Nat.le_refl _)) s46
     refine op 3 (sl a47 x44.length c48) (ot ?_)
     exact zk (eA 5 (eA 3 (eA 0 rfl))) (J4 x44 _ _ _ _ hs f49 hr)
    intro hc hr
    refine ckt ?_
    exact zk (eA 5 (eA 3 (eA 0 rfl))) (J4 sx23.1 _ _ _ _ hs f11 hr)
   intro hc hr
   refine ck (zd (za ?_))
   exact zk (eA 5 (eA 4 (eA 3 (eA 0 rfl)))) (J2 sx23.1 sx23.2.1 _ _ _ _ hs f11 hb15 hr)
  refine csr (op 13 (iv sx23.2.2) (op 14 (strV p0) (op 15 (iv (p0.length:Int)) (op 16 (bW (sx23.2.2=(p0.length:Int))) ?_))))
  refine osp 17 (decide (sx23.2.2=(p0.length:Int))) hr ?_ ?_
  ·intro hg hr
   refine op 18 (strV p0) (op 19 (iv sx23.2.2) ?_)
   obtain ⟨x50,hx50,hr⟩:=bind_some hr
   refine oq 20 (.int .u8 (x50.toNat:Int)) (fun _=>zaN 9 .i64 kr kr hx50) (op 21 (bW ((x50.toNat:Int)=32)) (op 22 (bW ((x50.toNat:Int)=32)) (ot ?_)))
   exact zk (eA 22 (eA 5 (eA 4 (eA 3 (eA 0 rfl))))) (J3 (decide ((x50.toNat:Int)=32))  _  hr)
  intro hg hr
  refine os 18 (os 19 (os 20 (os 21 (op 22 (.bool true) (ot ?_)))))
  exact zk (eA 22 (eA 5 (eA 4 (eA 3 (eA 0 rfl))))) (J3 true  _  hr)
 intro hc hr
 refine cx 0 (zh ?_)
 have hx:=hdx23 _ (sj hr).symm
 subst hx
 replace hr:=hrx23
 refine zi ?_
 exact zr (eA 3 rfl) (J1 sx23.1 _ _ _ _ hs f11 hr)
theorem zhZ {κ:K} {p0:Int} (hb1:0≤p0∧p0≤255) {r:Bool} (hr:zd8 p0=some r) :
 Fn Tryz.prog 81 #[.int .u8 p0] κ (fun v κ'=>κ=κ'∧v=.bool r):=by
 refine fnc 17 [] Tryz.func81 Tryz.ntmps81 fun hs=>csr (op 2 (.bool false) (otx (op 3 (.int .u8 p0) (op 4 (bW (p0≥97)) ?_))))
 refine osp 5 (decide (p0≥97)) hr ?_ ?_
 ·intro hg hr
  refine os 6 (os 7 (op 8 (.bool false) (op 9 (.bool false) (op 10 (.int .u8 p0) (op 11 (bW (p0≥65)) ?_)))))
  refine osp 12 (decide (p0≥65)) hr ?_ ?_
  ·intro hg hr
   refine os 13 (os 14 (op 15 (.bool false) (op 16 (.bool false) (op 2 (.bool false) (ot (crt ?_))))))
   obtain rfl:=sj hr
   refine rt [.tmp 2] [.bool false] ⟨rfl,trivial⟩ ?_
   exact ⟨rfl,rfl⟩
  intro hg hr
  refine op 13 (.int .u8 p0) (op 14 (bW (p0≤90)) (op 15 (bW (p0≤90)) (op 16 (bW (p0≤90)) (op 2 (bW (p0≤90)) (ot (crt ?_))))))
  obtain rfl:=sj hr
  refine rt [.tmp 2] [bW (p0≤90)] ⟨rfl,trivial⟩ ?_
  exact ⟨rfl,rfl⟩
 intro hg hr
 refine op 6 (.int .u8 p0) (op 7 (bW (p0≤122)) (op 8 (bW (p0≤122)) ?_))
 refine osp 9 (decide (p0≤122)) hr ?_ ?_
 ·intro hg hr
  refine op 10 (.int .u8 p0) (op 11 (bW (p0≥65)) ?_)
  refine osp 12 (decide (p0≥65)) hr ?_ ?_
  ·intro hg hr
   refine os 13 (os 14 (op 15 (.bool false) (op 16 (.bool false) (op 2 (.bool false) (ot (crt ?_))))))
   obtain rfl:=sj hr
   refine rt [.tmp 2] [.bool false] ⟨rfl,trivial⟩ ?_
   exact ⟨rfl,rfl⟩
  intro hg hr
  refine op 13 (.int .u8 p0) (op 14 (bW (p0≤90)) (op 15 (bW (p0≤90)) (op 16 (bW (p0≤90)) (op 2 (bW (p0≤90)) (ot (crt ?_))))))
  obtain rfl:=sj hr
  refine rt [.tmp 2] [bW (p0≤90)] ⟨rfl,trivial⟩ ?_
  exact ⟨rfl,rfl⟩
 intro hg hr
 refine os 10 (os 11 (os 12 (os 13 (os 14 (os 15 (op 16 (.bool true) (op 2 (.bool true) (ot (crt ?_)))))))))
 obtain rfl:=sj hr
 refine rt [.tmp 2] [.bool true] ⟨rfl,trivial⟩ ?_
 exact ⟨rfl,rfl⟩
theorem zjv {κ:K} {p0:BS} (hb1:p0.length≤9223372036854775807) {r:Bool} (hr:zfv p0=some r) :
 Fn Tryz.prog 55 #[strV p0] κ (fun v κ'=>κ=κ'∧v=.bool r):=by
 refine fnc 42 [] Tryz.func55 Tryz.ntmps55 fun hs=>csr (op 2 (.bool false) (ot (cs ?_)))
 refine zl (fun Z=>∀ (y2:Bool) (E0:Env),zeb p0 y2=some r→cwp Tryz.prog 42 (sub (zC Tryz.f55) [1,0,1]) Z (upd (upd (E0) 0 (strV p0)) 17 (.bool y2)) κ) ?_ fun J1=>?_
 ·intro y2 E0 hr
  refine cc (y2) hr ?_ ?_
  ·intro hc hr
   refine csr (op 2 (.bool false) (ot (crt (zb ?_))))
   obtain rfl:=sj hr
   refine rt [.tmp 2] [.bool false] ⟨rfl,trivial⟩ ?_
   exact ⟨rfl,rfl⟩
  intro hc hr
  refine ckt (cs (csr (op 3 (iv 1) (ot (cb 0 ?_)))))
  refine zj 0 (fun Z=>∀ (E0:Env),zjw=some r→Z (E0) κ) ?_ fun J2=>?_
  ·intro E0 hr
   refine zg (za (csr (op 2 (.bool true) (ot (crt ?_)))))
   obtain rfl:=sj hr
   refine rt [.tmp 2] [.bool true] ⟨rfl,trivial⟩ ?_
   exact ⟨rfl,rfl⟩
  obtain ⟨x5,hx5,hrx5⟩:=bind_some hr
  refine zo (F:=zbg p0) (J:=fun (sx5:Int) (E':Env) (κ':K)=>(∃ E0,E'=upd (upd (E0) 0 (strV p0)) 3 (iv sx5))∧κ=κ'∧I64 sx5) (s0:=1) (x:=x5) kr hx5 ⟨⟨_,(eA 3 (eA 0 rfl))⟩,rfl,(show I64 1 by unfold I64;omega)⟩ ?_
  rintro sx5 _ _ ⟨⟨E0,rfl⟩,rfl,hb4⟩ yyx5 hr hdx5
  refine cs (csr (op 18 (iv sx5) (op 19 (strV p0) (op 20 (iv (p0.length:Int)) (op 21 (bW (sx5<(p0.length:Int))) (ot ?_))))))
  refine cc (decide (sx5<(p0.length:Int))) hr ?_ ?_
  ·intro hc hr
   refine ckt (cs (cb 1 ?_))
   refine zl (fun Z=>∀ (y6:Bool) (E0:Env),zc1 sx5 y6=some yyx5→cwp Tryz.prog 42 (sub (zC Tryz.f55) [1,0,0,1,0,0,1,0,1,1]) Z (upd (upd (upd (E0) 0 (strV p0)) 3 (iv sx5)) 41 (.bool y6)) κ) ?_ fun J3=>?_
   ·intro y6 E0 hr
    refine cc (y6) hr ?_ ?_
    ·intro hc hr
     refine csr (op 2 (.bool false) (ot (crt (zf (zb ?_)))))
     have hx:=hdx5 _ (sj hr).symm
     subst hx
     replace hr:=hrx5
     refine zt (zf (zb ?_))
     obtain rfl:=sj hr
     refine rt [.tmp 2] [.bool false] ⟨rfl,trivial⟩ ?_
     exact ⟨rfl,rfl⟩
    intro hc hr
    refine ck (zd (za (cr (op 22 (iv sx5) (op 23 (iv (w64 (sx5+1))) (op 3 (iv (w64 (sx5+1))) (oe ?_)))))))
    exact ze (sj hr).symm ⟨⟨_,(eA 3 (eA 0 rfl))⟩,rfl,(zq _)⟩
   refine csr (op 24 (strV p0) (op 25 (iv sx5) ?_))
   obtain ⟨x7,hx7,hr⟩:=bind_some hr
   refine oq 26 (.int .u8 (x7.toNat:Int)) (fun _=>zaN 9 .i64 kr kr hx7) ?_
   obtain ⟨x8,hx8,hr⟩:=bind_some hr
   refine ocl 27 (zhZ (zqs _) hx8) ?_
   rintro _ _ ⟨rfl,rfl⟩
   refine op 28 (.bool (!x8)) ?_
   refine osp 29 (!x8) hr ?_ ?_
   ·intro hg hr
    refine os 30 (os 31 (os 32 (os 33 (os 34 (op 35 (.bool false) (op 36 (.bool false) (os 37 (os 38 (os 39 ?_)))))))))
    refine os 40 (op 41 (.bool false) (ot ?_))
    exact zk (eA 41 (eA 3 (eA 0 rfl))) (J3 false  _  hr)
   intro hg hr
   refine op 30 (strV p0) (op 31 (iv sx5) ?_)
   obtain ⟨x10,hx10,hr⟩:=bind_some hr
   refine oq 32 (.int .u8 (x10.toNat:Int)) (fun _=>zaN 9 .i64 kr kr hx10) ?_
   obtain ⟨x11,hx11,hr⟩:=bind_some hr
   refine ocl 33 (zio (zqs _) hx11) ?_
   rintro _ _ ⟨rfl,rfl⟩
   refine op 34 (.bool (!x11)) (op 35 (.bool (!x11)) ?_)
   refine osp 36 (!x11) hr ?_ ?_
   ·intro hg hr
    refine os 37 (os 38 (os 39 (os 40 (op 41 (.bool false) (ot ?_)))))
    exact zk (eA 41 (eA 3 (eA 0 rfl))) (J3 false  _  hr)
   intro hg hr
   refine op 37 (strV p0) (op 38 (iv sx5) ?_)
   obtain ⟨x13,hx13,hr⟩:=bind_some hr
   refine oq 39 (.int .u8 (x13.toNat:Int)) (fun _=>zaN 9 .i64 kr kr hx13) (op 40 (.bool (!decide ((x13.toNat:Int)=95))) (op 41 (.bool (!decide ((x13.toNat:Int)=95))) (ot ?_)))
   exact zk (eA 41 (eA 3 (eA 0 rfl))) (J3 (!decide ((x13.toNat:Int)=95))  _  hr)
  intro hc hr
  refine cx 0 (zh ?_)
  have hx:=hdx5 _ (sj hr).symm
  subst hx
  replace hr:=hrx5
  refine zi ?_
  exact zr rfl (J2   _  hr)
 refine csr (op 4 (strV p0) (op 5 (iv (p0.length:Int)) (op 6 (bW ((p0.length:Int)<1)) ?_)))
 refine osp 7 (decide ((p0.length:Int)<1)) hr ?_ ?_
 ·intro hg hr
  refine op 8 (strV p0) (op 9 (iv (p0.length:Int)) (op 10 (bW ((p0.length:Int)>12)) (op 11 (bW ((p0.length:Int)>12)) ?_)))
  refine osp 12 (decide ((p0.length:Int)>12)) hr ?_ ?_
  ·intro hg hr
   refine op 13 (strV p0) ?_
   obtain ⟨x14,hx14,hr⟩:=bind_some hr
   refine oq 14 (.int .u8 (x14.toNat:Int)) (fun _=>zaN 9 .i64 kr kr hx14) ?_
   obtain ⟨x15,hx15,hr⟩:=bind_some hr
   refine ocl 15 (zhZ (zqs _) hx15) ?_
   rintro _ _ ⟨rfl,rfl⟩
   refine op 16 (.bool (!x15)) (op 17 (.bool (!x15)) (ot ?_))
   exact zk (eA 17 (eA 0 rfl)) (J1 (!x15)  _  hr)
  intro hg hr
  refine os 13 (os 14 (os 15 (os 16 (op 17 (.bool true) (ot ?_)))))
  exact zk (eA 17 (eA 0 rfl)) (J1 true  _  hr)
 intro hg hr
 refine os 8 (os 9 (os 10 (op 11 (.bool true) (op 12 (.bool true) (os 13 (os 14 (os 15 (os 16 (op 17 (.bool true) ?_)))))))))
 refine ot ?_
 exact zk (eA 17 (eA 0 rfl)) (J1 true  _  hr)
theorem znx {κ:K} {p0:LG×LT} {pb0 po0:Nat} {a1:OA} {c2:Nat} {a4:OA} {c5:Nat} (m0:At κ pb0 po0 [sl a1 p0.1.length c2,sl a4 p0.2.length c5]) (f3:Sl tGlue κ a1 c2 p0.1) (f6:Sl zQ κ a4 c5 p0.2) {r:Bool} (hr:zhy p0=some r) :
 Fn Tryz.prog 27 #[pt pb0 po0] κ (fun v κ'=>Step [] κ κ'∧v=.bool r):=by
 refine fnc 115 [] Tryz.func27 Tryz.ntmps27 fun hs=>csr (op 2 (.bool false) (ot (cs ?_)))
 refine zl (fun Z=>∀ (y7:Bool) (E0:Env),zeW p0 y7=some r→cwp Tryz.prog 115 (sub (zC Tryz.f27) [1,0,1]) Z (upd (upd (E0) 0 (pt pb0 po0)) 29 (.bool y7)) κ) ?_ fun J1=>?_
 ·intro y7 E0 hr
  refine cc (y7) hr ?_ ?_
  ·intro hc hr
   refine csr (op 2 (.bool false) (ot (crt (zb ?_))))
   obtain rfl:=sj hr
   refine rt [.tmp 2] [.bool false] ⟨rfl,trivial⟩ ?_
   exact ⟨hs,rfl⟩
  intro hc hr
  refine ckt (cs (csr (op 3 (iv 0) (ot (cb 0 ?_)))))
  refine zj 0 (fun Z=>∀ (E0:Env) (κ10:K) (hs:Step [] κ κ10),zh8 p0=some r→Z (upd (E0) 0 (pt pb0 po0)) κ10) ?_ fun J2=>?_
  ·intro E0 κ10 hs hr
   refine zg (za (cs (csr (op 5 (iv 0) (ot (cb 2 ?_))))))
   refine zj 2 (fun Z=>∀ (E0:Env) (κ13:K) (hs:Step [] κ κ13),zh7=some r→Z (E0) κ13) ?_ fun J3=>?_
   ·intro E0 κ13 hs hr
    refine zg (za (csr (op 2 (.bool true) (ot (crt ?_)))))
    obtain rfl:=sj hr
    refine rt [.tmp 2] [.bool true] ⟨rfl,trivial⟩ ?_
    exact ⟨hs,rfl⟩
   obtain ⟨x14,hx14,hrx14⟩:=bind_some hr
   refine zo (F:=zbU p0) (J:=fun (sx14:Int) (E':Env) (κ':K)=>(∃ E0,E'=upd (upd (E0) 0 (pt pb0 po0)) 5 (iv sx14))∧Step [] κ κ'∧I64 sx14) (s0:=0) (x:=x14) kr hx14 ⟨⟨_,(eA 5 (eA 0 rfl))⟩,hs,(show I64 0 by unfold I64;omega)⟩ ?_
   rintro sx14 _ κ15 ⟨⟨E0,rfl⟩,hs,hb12⟩ yyx14 hr hdx14
   refine cs (csr (op 65 (iv sx14) (op 66 (pt pb0 po0) (op 67 (pt pb0 po0) (op 68 (pt pb0 (po0+1)) (o1 69 23 (sl a4 p0.2.length c5) ((m0.step0 hs).one (o:=1) rfl) (op 70 (iv (p0.2.length:Int)) (op 71 (bW (sx14<(p0.2.length:Int))) (ot ?_)))))))))
   refine cc (decide (sx14<(p0.2.length:Int))) hr ?_ ?_
   ·intro hc hr
    refine ckt (cs (cb 3 (csr (op 74 (pt pb0 po0) (op 75 (pt pb0 po0) (op 76 (pt pb0 (po0+1)) (o1 77 23 (sl a4 p0.2.length c5) ((m0.step0 hs).one (o:=1) rfl) (op 78 (iv sx14) ?_))))))))
    obtain ⟨x16,hx16,hr⟩:=bind_some hr
    obtain ⟨b17,o18,eab17,i0x16,i1x16,csx16,p_b17,owx16⟩:=(f6.step hs).idx hx16
    obtain ⟨_,_,rfl,⟨rfl,hb19⟩,⟨a20,c21,rfl,f22⟩⟩:=owx16
    replace p_b17:PubAt κ15 b17 (o18+sx14.toNat*2) [strV x16.1,sl a20 x16.2.length c21]:=p_b17
    refine oi 79 23 97 2 p0.2.length c5 .i64 sx14 eab17 i0x16 i1x16 (oN 80 97 [strV x16.1,sl a20 x16.2.length c21] (p_b17.at.part 0 2).2 (zz (d:=6) (T:=97) (κ.H.size,27002) hs.1 [strV ([]:BS),sl none 0 0] kr kr kr fun b23 κ24 s25 B_b23=>?_))
    replace hs:=hs.tr0 s25
    replace f22:=f22.step s25
    refine zn (b:=b23) (off:=0) (T:=97) (.agg #[strV x16.1,sl a20 x16.2.length c21]) [strV x16.1,sl a20 x16.2.length c21] [strV x16.1,sl a20 x16.2.length c21] kr kr B_b23 rfl kr kr kr rfl fun κ26 s27 _ NB_b23=>?_
    replace hs:=hs.trB B_b23.ge s27
    replace f22:=f22.step s27
    replace B_b23:=NB_b23
    refine ot (cs ?_)
    refine zl (fun Z=>∀ (y28:Bool) (E0:Env),zdI p0 sx14 x16 y28=some yyx14→cwp Tryz.prog 115 (sub (zC Tryz.f27) [1,0,1,0,0,1,0,0,1,0,1,1,1]) Z (upd (upd (upd (upd (E0) 0 (pt pb0 po0)) 5 (iv sx14)) 6 (pt b23 0)) 98 (.bool y28)) κ26) ?_ fun J4=>?_
    ·intro y28 E0 hr
     refine cc (y28) hr ?_ ?_
     ·intro hc hr
      refine csr (op 2 (.bool false) (ot (crt (zb (zf (zb ?_))))))
      have hx:=hdx14 _ (sj hr).symm
      subst hx
      replace hr:=hrx14
      refine zt (zf (zb ?_))
      obtain rfl:=sj hr
      refine rt [.tmp 2] [.bool false] ⟨rfl,trivial⟩ ?_
      exact ⟨hs,rfl⟩
     intro hc hr
     refine ckt (csr (op 7 (iv 0) (ot (cb 4 ?_))))
     refine zj 4 (fun Z=>∀ (E0:Env),zgF sx14=some yyx14→Z (upd (upd (E0) 0 (pt pb0 po0)) 5 (iv sx14)) κ26) ?_ fun J5=>?_
     ·intro E0 hr
      refine zg (zd (za (cr (op 72 (iv sx14) (op 73 (iv (w64 (sx14+1))) (op 5 (iv (w64 (sx14+1))) (oe ?_)))))))
      exact ze (sj hr).symm ⟨⟨_,(eA 5 (eA 0 rfl))⟩,hs,(zq _)⟩
     obtain ⟨x31,hx31,hrx31⟩:=bind_some hr
     refine zo (F:=zdG p0 x16) (J:=fun (sx31:Int) (E':Env) (κ':K)=>(∃ E0,E'=upd (upd (upd (upd (E0) 0 (pt pb0 po0)) 5 (iv sx14)) 6 (pt b23 0)) 7 (iv sx31))∧κ26=κ'∧I64 sx31) (s0:=0) (x:=x31) kr hx31 ⟨⟨_,(eA 7 (eA 6 (eA 5 (eA 0 rfl))))⟩,rfl,(show I64 0 by unfold I64;omega)⟩ ?_
     rintro sx31 _ _ ⟨⟨E0,rfl⟩,rfl,hb30⟩ yyx31 hr hdx31
     refine cs (csr (op 99 (iv sx31) (op 100 (bW (sx31<4)) (ot ?_))))
     refine cc (decide (sx31<4)) hr ?_ ?_
     ·intro hc hr
      refine ckt (cs (cb 5 (cs (cd 10 (dp 103 (pt b23 1) (d1 104 95 (sl a20 x16.2.length c21) (B_b23.at.one (o:=1) rfl) (dp 105 (iv sx31) ?_)))))))
      obtain ⟨x32,hx32,hr⟩:=bind_some hr
      obtain ⟨b33,o34,eab33,i0x32,i1x32,csx32,p_b33,owx32⟩:=f22.idx hx32
      obtain ⟨rfl,hb35⟩:=owx32
      replace p_b33:PubAt κ26 b33 (o34+sx31.toNat*1) [iv x32]:=p_b33
      refine di 106 95 2 1 x16.2.length c21 .i64 sx31 eab33 i0x32 i1x32 (d1 107 2 (iv x32) (p_b33.at.one (o:=0) rfl) (dp 108 (pt pb0 po0) (dp 109 (pt pb0 po0) (dp 110 (pt pb0 po0) (d1 111 22 (sl a1 p0.1.length c2) ((m0.step0 hs).one (o:=0) rfl) (dp 112 (iv (p0.1.length:Int)) (de ?_)))))))
      obtain ⟨x36,hx36,hr⟩:=bind_some hr
      refine ocl 113 (za8 hb35 (show I64 0 by unfold I64;omega) (zg5 (f3.step hs).most) hx36) ?_
      rintro _ _ ⟨rfl,rfl⟩
      refine op 114 (.bool (!x36)) (ot ?_)
      refine cc (!x36) hr ?_ ?_
      ·intro hc hr
       refine csr (op 2 (.bool false) (ot (crt (zf (zb ?_)))))
       have hx:=hdx31 _ (sj hr).symm
       subst hx
       replace hr:=hrx31
       refine zt (zf (zf (zb ?_)))
       have hx:=hdx14 _ (sj hr).symm
       subst hx
       replace hr:=hrx14
       refine zt (zf (zb ?_))
       obtain rfl:=sj hr
       refine rt [.tmp 2] [.bool false] ⟨rfl,trivial⟩ ?_
       exact ⟨hs,rfl⟩
      intro hc hr
      refine ck (zd (za (cr (op 101 (iv sx31) (op 102 (iv (w64 (sx31+1))) (op 7 (iv (w64 (sx31+1))) (oe ?_)))))))
      exact ze (sj hr).symm ⟨⟨_,(eA 7 (eA 6 (eA 5 (eA 0 rfl))))⟩,rfl,(zq _)⟩
     intro hc hr
     refine cx 4 (zh ?_)
     have hx:=hdx31 _ (sj hr).symm
     subst hx
     replace hr:=hrx31
     refine zi ?_
     exact zr (eA 5 (eA 0 rfl)) (J5   _  hr)
    refine csr (op 81 (pt b23 0) (o1 82 9 (strV x16.1) (B_b23.at.one (o:=0) rfl) ?_))
    obtain ⟨x38,hx38,hr⟩:=bind_some hr
    refine ocl 83 (zjv hb19 hx38) ?_
    rintro _ _ ⟨rfl,rfl⟩
    refine op 84 (.bool (!x38)) ?_
    refine osp 85 (!x38) hr ?_ ?_
    ·intro hg hr
     refine op 86 (pt b23 1) (o1 87 95 (sl a20 x16.2.length c21) (B_b23.at.one (o:=1) rfl) (op 88 (iv (x16.2.length:Int)) (op 89 (.bool (!decide ((x16.2.length:Int)=4))) (op 90 (.bool (!decide ((x16.2.length:Int)=4))) ?_))))
     refine osp 91 (!decide ((x16.2.length:Int)=4)) hr ?_ ?_
     ·intro hg hr
      refine op 92 (pt pb0 po0) (op 93 (pt b23 0) (o1 94 9 (strV x16.1) (B_b23.at.one (o:=0) rfl) ?_))
      obtain ⟨x40,hx40,hr⟩:=bind_some hr
      refine ocl 95 (zi8 ((m0.step0 hs).part 0 2) (f3.step hs) (f6.step hs) hb19 hx40) ?_
      rintro _ _ ⟨rfl,rfl,hb41⟩
      refine op 96 (iv sx14) (op 97 (.bool (!decide (x40=sx14))) (op 98 (.bool (!decide (x40=sx14))) (ot ?_)))
      exact zk (eA 98 (eA 6 (eA 5 (eA 0 rfl)))) (J4 (!decide (x40=sx14))  _  hr)
     intro hg hr
     refine os 92 (os 93 (os 94 (os 95 (os 96 (os 97 (op 98 (.bool true) (ot ?_)))))))
     exact zk (eA 98 (eA 6 (eA 5 (eA 0 rfl)))) (J4 true  _  hr)
    intro hg hr
    refine os 86 (os 87 (os 88 (os 89 (op 90 (.bool true) (op 91 (.bool true) (os 92 (os 93 (os 94 (os 95 ?_)))))))))
    refine os 96 (os 97 (op 98 (.bool true) (ot ?_)))
    exact zk (eA 98 (eA 6 (eA 5 (eA 0 rfl)))) (J4 true  _  hr)
   intro hc hr
   refine cx 2 (zh ?_)
   have hx:=hdx14 _ (sj hr).symm
   subst hx
   replace hr:=hrx14
   refine zi ?_
   exact zr rfl (J3   _ _ hs  hr)
  obtain ⟨x43,hx43,hrx43⟩:=bind_some hr
  refine zo (F:=zbV p0) (J:=fun (sx43:Int) (E':Env) (κ':K)=>(∃ E0,E'=upd (upd (E0) 0 (pt pb0 po0)) 3 (iv sx43))∧Step [] κ κ'∧I64 sx43) (s0:=0) (x:=x43) kr hx43 ⟨⟨_,(eA 3 (eA 0 rfl))⟩,hs,(show I64 0 by unfold I64;omega)⟩ ?_
  rintro sx43 _ κ44 ⟨⟨E0,rfl⟩,hs,hb9⟩ yyx43 hr hdx43
  refine cs (csr (op 30 (iv sx43) (op 31 (pt pb0 po0) (op 32 (pt pb0 po0) (op 33 (pt pb0 po0) (o1 34 22 (sl a1 p0.1.length c2) ((m0.step0 hs).one (o:=0) rfl) (op 35 (iv (p0.1.length:Int)) (op 36 (bW (sx43<(p0.1.length:Int))) (ot ?_)))))))))
  refine cc (decide (sx43<(p0.1.length:Int))) hr ?_ ?_
  ·intro hc hr
   refine ckt (cs (cb 1 (csr (op 39 (pt pb0 po0) (op 40 (pt pb0 po0) (op 41 (pt pb0 po0) (o1 42 22 (sl a1 p0.1.length c2) ((m0.step0 hs).one (o:=0) rfl) (op 43 (iv sx43) ?_))))))))
   obtain ⟨x45,hx45,hr⟩:=bind_some hr
   obtain ⟨b46,o47,eab46,i0x45,i1x45,csx45,p_b46,owx45⟩:=(f3.step hs).idx hx45
   obtain ⟨_,_,rfl,⟨rfl,hb48⟩,⟨rfl,hb49⟩⟩:=owx45
   replace p_b46:PubAt κ44 b46 (o47+sx43.toNat*2) [strV x45.1,iv x45.2]:=p_b46
   refine oi 44 22 94 2 p0.1.length c2 .i64 sx43 eab46 i0x45 i1x45 (oN 45 94 [strV x45.1,iv x45.2] (p_b46.at.part 0 2).2 (zz (d:=4) (T:=94) (κ.H.size,27001) hs.1 [strV ([]:BS),iv 0] kr kr kr fun b50 κ51 s52 B_b50=>?_))
   replace hs:=hs.tr0 s52
   refine zn (b:=b50) (off:=0) (T:=94) (.agg #[strV x45.1,iv x45.2]) [strV x45.1,iv x45.2] [strV x45.1,iv x45.2] kr kr B_b50 rfl kr kr kr rfl fun κ53 s54 _ NB_b50=>?_
   replace hs:=hs.trB B_b50.ge s54
   replace B_b50:=NB_b50
   refine ot ?_
   refine zl (fun Z=>∀ (y55:Bool) (E0:Env),zdH sx43 y55=some yyx43→cwp Tryz.prog 115 (sub (zC Tryz.f27) [1,1,0,0,1,0,0,1,0,1,1]) Z (upd (upd (upd (E0) 0 (pt pb0 po0)) 3 (iv sx43)) 64 (.bool y55)) κ53) ?_ fun J6=>?_
   ·intro y55 E0 hr
    refine cc (y55) hr ?_ ?_
    ·intro hc hr
     refine csr (op 2 (.bool false) (ot (crt (zf (zb ?_)))))
     have hx:=hdx43 _ (sj hr).symm
     subst hx
     replace hr:=hrx43
     refine zt (zf (zb ?_))
     obtain rfl:=sj hr
     refine rt [.tmp 2] [.bool false] ⟨rfl,trivial⟩ ?_
     exact ⟨hs,rfl⟩
    intro hc hr
    refine ck (zd (za (cr (op 37 (iv sx43) (op 38 (iv (w64 (sx43+1))) (op 3 (iv (w64 (sx43+1))) (oe ?_)))))))
    exact ze (sj hr).symm ⟨⟨_,(eA 3 (eA 0 rfl))⟩,hs,(zq _)⟩
   refine csr (op 46 (pt b50 0) (o1 47 9 (strV x45.1) (B_b50.at.one (o:=0) rfl) ?_))
   obtain ⟨x56,hx56,hr⟩:=bind_some hr
   refine ocl 48 (zjv hb48 hx56) ?_
   rintro _ _ ⟨rfl,rfl⟩
   refine op 49 (.bool (!x56)) ?_
   refine osp 50 (!x56) hr ?_ ?_
   ·intro hg hr
    refine op 51 (pt b50 1) (o1 52 2 (iv x45.2) (B_b50.at.one (o:=1) rfl) ?_)
    obtain ⟨x58,hx58,hr⟩:=bind_some hr
    refine ocl 53 (za8 hb49 (show I64 1 by unfold I64;omega) (show I64 4 by unfold I64;omega) hx58) ?_
    rintro _ _ ⟨rfl,rfl⟩
    refine op 54 (.bool (!x58)) (op 55 (.bool (!x58)) ?_)
    refine osp 56 (!x58) hr ?_ ?_
    ·intro hg hr
     refine op 57 (pt pb0 po0) (op 58 (pt b50 0) (o1 59 9 (strV x45.1) (B_b50.at.one (o:=0) rfl) ?_))
     obtain ⟨x60,hx60,hr⟩:=bind_some hr
     refine ocl 60 (zi9 ((m0.step0 hs).part 0 2) (f3.step hs) (f6.step hs) hb48 hx60) ?_
     rintro _ _ ⟨rfl,rfl,hb61⟩
     refine op 61 (iv sx43) (op 62 (iv (w64 (sx43+1))) (op 63 (.bool (!decide (x60=(w64 (sx43+1))))) (op 64 (.bool (!decide (x60=(w64 (sx43+1))))) (ot ?_))))
     exact zk (eA 64 (eA 3 (eA 0 rfl))) (J6 (!decide (x60=(w64 (sx43+1))))  _  hr)
    intro hg hr
    refine os 57 (os 58 (os 59 (os 60 (os 61 (os 62 (os 63 (op 64 (.bool true) (ot ?_))))))))
    exact zk (eA 64 (eA 3 (eA 0 rfl))) (J6 true  _  hr)
   intro hg hr
   refine os 51 (os 52 (os 53 (os 54 (op 55 (.bool true) (op 56 (.bool true) (os 57 (os 58 (os 59 (os 60 ?_)))))))))
   refine os 61 (os 62 (os 63 (op 64 (.bool true) (ot ?_))))
   exact zk (eA 64 (eA 3 (eA 0 rfl))) (J6 true  _  hr)
  intro hc hr
  refine cx 0 (zh ?_)
  have hx:=hdx43 _ (sj hr).symm
  subst hx
  replace hr:=hrx43
  refine zi ?_
  exact zr (eA 0 rfl) (J2   _ _ hs  hr)
 refine csr (op 8 (pt pb0 po0) (op 9 (pt pb0 po0) (op 10 (pt pb0 po0) (o1 11 22 (sl a1 p0.1.length c2) ((m0.step0 hs).one (o:=0) rfl) (op 12 (iv (p0.1.length:Int)) (op 13 (bW ((p0.1.length:Int)>200)) ?_))))))
 refine osp 14 (decide ((p0.1.length:Int)>200)) hr ?_ ?_
 ·intro hg hr
  refine op 15 (pt pb0 po0) (op 16 (pt pb0 po0) (op 17 (pt pb0 (po0+1)) (o1 18 23 (sl a4 p0.2.length c5) ((m0.step0 hs).one (o:=1) rfl) (op 19 (iv (p0.2.length:Int)) (op 20 (bW ((p0.2.length:Int)<1)) (op 21 (bW ((p0.2.length:Int)<1)) ?_))))))
  refine osp 22 (decide ((p0.2.length:Int)<1)) hr ?_ ?_
  ·intro hg hr
   refine op 23 (pt pb0 po0) (op 24 (pt pb0 po0) (op 25 (pt pb0 (po0+1)) (o1 26 23 (sl a4 p0.2.length c5) ((m0.step0 hs).one (o:=1) rfl) (op 27 (iv (p0.2.length:Int)) (op 28 (bW ((p0.2.length:Int)>160)) (op 29 (bW ((p0.2.length:Int)>160)) (ot ?_)))))))
   exact zk (eA 29 (eA 0 rfl)) (J1 (decide ((p0.2.length:Int)>160))  _  hr)
  intro hg hr
  refine os 23 (os 24 (os 25 (os 26 (os 27 (os 28 (op 29 (.bool true) (ot ?_)))))))
  exact zk (eA 29 (eA 0 rfl)) (J1 true  _  hr)
 intro hg hr
 refine os 15 (os 16 (os 17 (os 18 (os 19 (os 20 (op 21 (.bool true) (op 22 (.bool true) (os 23 (os 24 ?_)))))))))
 refine os 25 (os 26 (os 27 (os 28 (op 29 (.bool true) (ot ?_)))))
 exact zk (eA 29 (eA 0 rfl)) (J1 true  _  hr)
theorem zmm {κ:K} {p0:LP} {pb0 po0:Nat} {a1:OA} {c2:Nat} (m0:At κ pb0 po0 [sl a1 p0.length c2]) (f3:Sl tPlaced κ a1 c2 p0) {r:Bool} (hr:zhi p0=some r) :
 Fn Tryz.prog 56 #[pt pb0 po0] κ (fun v κ'=>Step [] κ κ'∧v=.bool r):=by
 refine fnc 56 [] Tryz.func56 Tryz.ntmps56 fun hs=>csr (op 2 (.bool false) (ot (cs (csr (op 5 (pt pb0 po0) (op 6 (pt pb0 po0) (op 7 (pt pb0 po0) (o1 8 26 (sl a1 p0.length c2) ((m0.step0 hs).one (o:=0) rfl) ?_))))))))
 refine op 9 (iv (p0.length:Int)) (op 10 (bW ((p0.length:Int)>500)) (ot ?_))
 refine cc (decide ((p0.length:Int)>500)) hr ?_ ?_
 ·intro hc hr
  refine csr (op 2 (.bool false) (ot (crt (zb ?_))))
  obtain rfl:=sj hr
  refine rt [.tmp 2] [.bool false] ⟨rfl,trivial⟩ ?_
  exact ⟨hs,rfl⟩
 intro hc hr
 refine ckt (cs (csr (op 3 (iv 0) (ot (cb 0 ?_)))))
 refine zj 0 (fun Z=>∀ (E0:Env) (κ6:K) (hs:Step [] κ κ6),zg2=some r→Z (E0) κ6) ?_ fun J1=>?_
 ·intro E0 κ6 hs hr
  refine zg (za (csr (op 2 (.bool true) (ot (crt ?_)))))
  obtain rfl:=sj hr
  refine rt [.tmp 2] [.bool true] ⟨rfl,trivial⟩ ?_
  exact ⟨hs,rfl⟩
 obtain ⟨x7,hx7,hrx7⟩:=bind_some hr
 refine zo (F:=zaU p0) (J:=fun (sx7:Int) (E':Env) (κ':K)=>(∃ E0,E'=upd (upd (E0) 0 (pt pb0 po0)) 3 (iv sx7))∧Step [] κ κ'∧I64 sx7) (s0:=0) (x:=x7) kr hx7 ⟨⟨_,(eA 3 (eA 0 rfl))⟩,hs,(show I64 0 by unfold I64;omega)⟩ ?_
 rintro sx7 _ κ8 ⟨⟨E0,rfl⟩,hs,hb5⟩ yyx7 hr hdx7
 refine cs (csr (op 11 (iv sx7) (op 12 (pt pb0 po0) (op 13 (pt pb0 po0) (op 14 (pt pb0 po0) (o1 15 26 (sl a1 p0.length c2) ((m0.step0 hs).one (o:=0) rfl) (op 16 (iv (p0.length:Int)) (op 17 (bW (sx7<(p0.length:Int))) (ot ?_)))))))))
 refine cc (decide (sx7<(p0.length:Int))) hr ?_ ?_
 ·intro hc hr
  refine ckt (cs (cb 1 (csr (op 20 (pt pb0 po0) (op 21 (pt pb0 po0) (op 22 (pt pb0 po0) (o1 23 26 (sl a1 p0.length c2) ((m0.step0 hs).one (o:=0) rfl) (op 24 (iv sx7) ?_))))))))
  obtain ⟨x9,hx9,hr⟩:=bind_some hr
  obtain ⟨b10,o11,eab10,i0x9,i1x9,csx9,p_b10,owx9⟩:=(f3.step hs).idx hx9
  obtain ⟨_,_,rfl,⟨_,_,rfl,⟨rfl,hb12⟩,⟨rfl,hb13⟩⟩,⟨rfl,hb14⟩⟩:=owx9
  replace p_b10:PubAt κ8 b10 (o11+sx7.toNat*3) [iv x9.1.1,iv x9.1.2,iv x9.2]:=p_b10
  refine oi 25 26 108 3 p0.length c2 .i64 sx7 eab10 i0x9 i1x9 (oN 26 108 [iv x9.1.1,iv x9.1.2,iv x9.2] (p_b10.at.part 0 3).2 (zz (d:=4) (T:=108) (κ.H.size,56001) hs.1 [iv 0,iv 0,iv 0] kr kr kr fun b15 κ16 s17 B_b15=>?_))
  replace hs:=hs.tr0 s17
  refine zn (b:=b15) (off:=0) (T:=108) (.agg #[iv x9.1.1,iv x9.1.2,iv x9.2]) [iv x9.1.1,iv x9.1.2,iv x9.2] [iv x9.1.1,iv x9.1.2,iv x9.2] kr kr B_b15 rfl kr kr kr rfl fun κ18 s19 _ NB_b15=>?_
  replace hs:=hs.trB B_b15.ge s19
  replace B_b15:=NB_b15
  refine ot ?_
  refine zl (fun Z=>∀ (y20:Bool) (E0:Env) (κ21:K) (hs:Step [] κ κ21),zby sx7 y20=some yyx7→cwp Tryz.prog 56 (sub (zC Tryz.f56) [1,1,0,0,1,0,0,1,0,1,1]) Z (upd (upd (upd (E0) 0 (pt pb0 po0)) 3 (iv sx7)) 55 (.bool y20)) κ21) ?_ fun J2=>?_
  ·intro y20 E0 κ21 hs hr
   refine cc (y20) hr ?_ ?_
   ·intro hc hr
    refine csr (op 2 (.bool false) (ot (crt (zf (zb ?_)))))
    have hx:=hdx7 _ (sj hr).symm
    subst hx
    replace hr:=hrx7
    refine zt (zf (zb ?_))
    obtain rfl:=sj hr
    refine rt [.tmp 2] [.bool false] ⟨rfl,trivial⟩ ?_
    exact ⟨hs,rfl⟩
   intro hc hr
   refine ck (zd (za (cr (op 18 (iv sx7) (op 19 (iv (w64 (sx7+1))) (op 3 (iv (w64 (sx7+1))) (oe ?_)))))))
   exact ze (sj hr).symm ⟨⟨_,(eA 3 (eA 0 rfl))⟩,hs,(zq _)⟩
  refine cs (cx_ 25 [0,1,2,3,4,5,6,7,8,9,10,11,12,13,14,15,16,17,18,19,20,21,22,23,24] [2,7] 25 [] (xp 27 (pt b15 0) (xN 28 100 [iv x9.1.1,iv x9.1.2] B_b15.at 0 2 rfl ?_)))
  obtain ⟨x22,hx22,hr⟩:=bind_some hr
  refine xcl 29 (zin hb12 hb13 hx22) ?_
  rintro _ κ23 ⟨s24,rfl⟩
  refine ⟨s24,?_⟩
  replace hs:=hs.tr0 s24
  replace B_b15:=B_b15.step0 s24
  refine xp 30 (.bool (!x22)) ?_
  refine xsp 31 (!x22) hr ?_ ?_
  ·intro hg hr
   refine xp 32 (pt b15 2) (x1 33 2 (iv x9.2) B_b15.at 2 rfl ?_)
   obtain ⟨x25,hx25,hr⟩:=bind_some hr
   refine xcl 34 (za8 hb14 (show I64 0 by unfold I64;omega) (show I64 159 by unfold I64;omega) hx25) ?_
   rintro _ _ ⟨rfl,rfl⟩
   refine ⟨Step.refl _ _,?_⟩
   refine xp 35 (.bool (!x25)) (xp 36 (.bool (!x25)) ?_)
   refine xsp 37 (!x25) hr ?_ ?_
   ·intro hg hr
    refine xp 38 (iv sx7) (xp 39 (bW (sx7>0)) ?_)
    refine xsp 40 (decide (sx7>0)) hr ?_ ?_
    ·intro hg hr
     refine xs 41 (xs 42 (xs 43 (xs 44 (xs 45 (xs 46 (xs 47 (xs 48 (xs 49 (xs 50 ?_)))))))))
     refine xs 51 (xe (os 52 (os 53 (op 54 (.bool false) (op 55 (.bool false) (ot ?_))))))
     exact zk (eA 55 (eA 3 (eA 0 rfl))) (J2 false  _ _ hs  hr)
    intro hg hr
    refine xp 41 (pt pb0 po0) (xp 42 (pt pb0 po0) (xp 43 (pt pb0 po0) (x1 44 26 (sl a1 p0.length c2) (m0.step0 hs) 0 rfl (xp 45 (iv sx7) (xp 46 (iv (w64 (sx7 - 1))) ?_)))))
    obtain ⟨x27,hx27,hr⟩:=bind_some hr
    obtain ⟨b28,o29,eab28,i0x27,i1x27,csx27,p_b28,owx27⟩:=(f3.step hs).idx hx27
    obtain ⟨_,_,rfl,⟨_,_,rfl,⟨rfl,hb30⟩,⟨rfl,hb31⟩⟩,⟨rfl,hb32⟩⟩:=owx27
    replace p_b28:PubAt κ23 b28 (o29+(w64 (sx7 - 1)).toNat*3) [iv x27.1.1,iv x27.1.2,iv x27.2]:=p_b28
    refine xi 47 26 108 3 p0.length c2 .i64 (w64 (sx7 - 1)) eab28 i0x27 i1x27 (xp 48 (pt b28 (o29+(w64 (sx7 - 1)).toNat*3)) (xN 49 100 [iv x27.1.1,iv x27.1.2] p_b28.at 0 2 rfl (xp 50 (pt b15 0) (xN 51 100 [iv x9.1.1,iv x9.1.2] B_b15.at 0 2 rfl (xe ?_)))))
    obtain ⟨x33,hx33,hr⟩:=bind_some hr
    refine ocl 52 (zfU hb30 hb31 hb12 hb13 hx33) ?_
    rintro _ κ34 ⟨s35,rfl⟩
    replace hs:=hs.tr0 s35
    refine op 53 (.bool (!x33)) (op 54 (.bool (!x33)) (op 55 (.bool (!x33)) (ot ?_)))
    exact zk (eA 55 (eA 3 (eA 0 rfl))) (J2 (!x33)  _ _ hs  hr)
   intro hg hr
   refine xs 38 (xs 39 (xs 40 (xs 41 (xs 42 (xs 43 (xs 44 (xs 45 (xs 46 (xs 47 ?_)))))))))
   refine xs 48 (xs 49 (xs 50 (xs 51 (xe (os 52 (os 53 (os 54 (op 55 (.bool true) (ot ?_)))))))))
   exact zk (eA 55 (eA 3 (eA 0 rfl))) (J2 true  _ _ hs  hr)
  intro hg hr
  refine xs 32 (xs 33 (xs 34 (xs 35 (xp 36 (.bool true) (xp 37 (.bool true) (xs 38 (xs 39 (xs 40 (xs 41 ?_)))))))))
  refine xs 42 (xs 43 (xs 44 (xs 45 (xs 46 (xs 47 (xs 48 (xs 49 (xs 50 (xs 51 ?_)))))))))
  refine xe (os 52 (os 53 (os 54 (op 55 (.bool true) (ot ?_)))))
  exact zk (eA 55 (eA 3 (eA 0 rfl))) (J2 true  _ _ hs  hr)
 intro hc hr
 refine cx 0 (zh ?_)
 have hx:=hdx7 _ (sj hr).symm
 subst hx
 replace hr:=hrx7
 refine zi ?_
 exact zr rfl (J1   _ _ hs  hr)
theorem zlH {κ:K} {p0:LG×LT} {pb0 po0:Nat} {a1:OA} {c2:Nat} {a4:OA} {c5:Nat} {p1:Int} (m0:At κ pb0 po0 [sl a1 p0.1.length c2,sl a4 p0.2.length c5]) (f3:Sl tGlue κ a1 c2 p0.1) (f6:Sl zQ κ a4 c5 p0.2) (hb7:I64 p1) {r:Bool} (hr:zgG p0 p1=some r) :
 Fn Tryz.prog 57 #[pt pb0 po0,iv p1] κ (fun v κ'=>κ=κ'∧v=.bool r):=by
 refine fnc 13 [] Tryz.func57 Tryz.ntmps57 fun hs=>csr (op 4 (.bool false) (otx (op 5 (iv p1) (op 6 (pt pb0 po0) (op 7 (pt pb0 po0) (op 8 (pt pb0 (po0+1)) (o1 9 23 (sl a4 p0.2.length c5) ((m0.step0 hs).one (o:=1) rfl) (op 10 (iv (p0.2.length:Int)) ?_))))))))
 refine op 11 (iv (w64 ((p0.2.length:Int) - 1))) ?_
 obtain ⟨x8,hx8,hr⟩:=bind_some hr
 refine ocl 12 (za8 hb7 (show I64 0 by unfold I64;omega) (zq _) hx8) ?_
 rintro _ _ ⟨rfl,rfl⟩
 refine op 4 (.bool x8) (ot (crt ?_))
 obtain rfl:=sj hr
 refine rt [.tmp 4] [.bool x8] ⟨rfl,trivial⟩ ?_
 exact ⟨rfl,rfl⟩
theorem znw {κ:K} {p0:LG×LT} {pb0 po0:Nat} {a1:OA} {c2:Nat} {a4:OA} {c5:Nat} {p1:LP} {pb1 po1:Nat} {a7:OA} {c8:Nat} (m0:At κ pb0 po0 [sl a1 p0.1.length c2,sl a4 p0.2.length c5]) (f3:Sl tGlue κ a1 c2 p0.1) (f6:Sl zQ κ a4 c5 p0.2) (m1:At κ pb1 po1 [sl a7 p1.length c8]) (f9:Sl tPlaced κ a7 c8 p1) {r:Bool} (hr:ziI p0 p1=some r) :
 Fn Tryz.prog 28 #[pt pb0 po0,pt pb1 po1] κ (fun v κ'=>Step [] κ κ'∧v=.bool r):=by
 refine fnc 29 [] Tryz.func28 Tryz.ntmps28 fun hs=>csr (op 4 (.bool false) (ot (cs (csr (op 6 (pt pb1 po1) ?_)))))
 obtain ⟨x10,hx10,hr⟩:=bind_some hr
 refine ocl 7 (zmm ((m1.step0 hs).part 0 1) f9 hx10) ?_
 rintro _ κ11 ⟨s12,rfl⟩
 replace hs:=hs.tr0 s12
 refine op 8 (.bool (!x10)) (ot ?_)
 refine cc (!x10) hr ?_ ?_
 ·intro hc hr
  refine csr (op 4 (.bool false) (ot (crt (zb ?_))))
  obtain rfl:=sj hr
  refine rt [.tmp 4] [.bool false] ⟨rfl,trivial⟩ ?_
  exact ⟨hs,rfl⟩
 intro hc hr
 refine ckt (cs (csr (op 5 (iv 0) (ot (cb 0 ?_)))))
 refine zj 0 (fun Z=>∀ (E0:Env),zh6=some r→Z (E0) κ11) ?_ fun J1=>?_
 ·intro E0 hr
  refine zg (za (csr (op 4 (.bool true) (ot (crt ?_)))))
  obtain rfl:=sj hr
  refine rt [.tmp 4] [.bool true] ⟨rfl,trivial⟩ ?_
  exact ⟨hs,rfl⟩
 obtain ⟨x15,hx15,hrx15⟩:=bind_some hr
 refine zo (F:=zbT p0 p1) (J:=fun (sx15:Int) (E':Env) (κ':K)=>(∃ E0,E'=upd (upd (upd (E0) 0 (pt pb0 po0)) 1 (pt pb1 po1)) 5 (iv sx15))∧κ11=κ'∧I64 sx15) (s0:=0) (x:=x15) kr hx15 ⟨⟨_,(eA 5 (eA 1 (eA 0 rfl)))⟩,rfl,(show I64 0 by unfold I64;omega)⟩ ?_
 rintro sx15 _ _ ⟨⟨E0,rfl⟩,rfl,hb14⟩ yyx15 hr hdx15
 refine cs (csr (op 9 (iv sx15) (op 10 (pt pb1 po1) (op 11 (pt pb1 po1) (op 12 (pt pb1 po1) (o1 13 26 (sl a7 p1.length c8) ((m1.step0 hs).one (o:=0) rfl) (op 14 (iv (p1.length:Int)) (op 15 (bW (sx15<(p1.length:Int))) (ot ?_)))))))))
 refine cc (decide (sx15<(p1.length:Int))) hr ?_ ?_
 ·intro hc hr
  refine ckt (cs (cb 1 (csr (op 18 (pt pb0 po0) (op 19 (pt pb1 po1) (op 20 (pt pb1 po1) (op 21 (pt pb1 po1) (o1 22 26 (sl a7 p1.length c8) ((m1.step0 hs).one (o:=0) rfl) (op 23 (iv sx15) ?_)))))))))
  obtain ⟨x16,hx16,hr⟩:=bind_some hr
  obtain ⟨b17,o18,eab17,i0x16,i1x16,csx16,p_b17,owx16⟩:=(f9.step hs).idx hx16
  obtain ⟨_,_,rfl,⟨_,_,rfl,⟨rfl,hb19⟩,⟨rfl,hb20⟩⟩,⟨rfl,hb21⟩⟩:=owx16
  replace p_b17:PubAt κ11 b17 (o18+sx15.toNat*3) [iv x16.1.1,iv x16.1.2,iv x16.2]:=p_b17
  refine oi 24 26 108 3 p1.length c8 .i64 sx15 eab17 i0x16 i1x16 (op 25 (pt b17 (o18+sx15.toNat*3+2)) (o1 26 2 (iv x16.2) (p_b17.at.one (o:=2) rfl) ?_))
  obtain ⟨x22,hx22,hr⟩:=bind_some hr
  refine ocl 27 (zlH ((m0.step0 hs).part 0 2) (f3.step hs) (f6.step hs) hb21 hx22) ?_
  rintro _ _ ⟨rfl,rfl⟩
  refine op 28 (.bool (!x22)) (ot ?_)
  refine cc (!x22) hr ?_ ?_
  ·intro hc hr
   refine csr (op 4 (.bool false) (ot (crt (zf (zb ?_)))))
   have hx:=hdx15 _ (sj hr).symm
   subst hx
   replace hr:=hrx15
   refine zt (zf (zb ?_))
   obtain rfl:=sj hr
   refine rt [.tmp 4] [.bool false] ⟨rfl,trivial⟩ ?_
   exact ⟨hs,rfl⟩
  intro hc hr
  refine ck (zd (za (cr (op 16 (iv sx15) (op 17 (iv (w64 (sx15+1))) (op 5 (iv (w64 (sx15+1))) (oe ?_)))))))
  exact ze (sj hr).symm ⟨⟨_,(eA 5 (eA 1 (eA 0 rfl)))⟩,rfl,(zq _)⟩
 intro hc hr
 refine cx 0 (zh ?_)
 have hx:=hdx15 _ (sj hr).symm
 subst hx
 replace hr:=hrx15
 refine zi ?_
 exact zr rfl (J1   _  hr)
theorem ziH {κ:K} {p0:Int} (hb1:I64 p0) {r:Bool} (hr:zcI p0=some r) :
 Fn Tryz.prog 29 #[iv p0] κ (fun v κ'=>κ=κ'∧v=.bool r):=by
 refine fnc 5 [] Tryz.func29 Tryz.ntmps29 fun hs=>csr (op 2 (.bool false) (otx (op 3 (iv p0) ?_)))
 obtain ⟨x2,hx2,hr⟩:=bind_some hr
 refine ocl 4 (za8 hb1 (show I64 1 by unfold I64;omega) (show I64 16 by unfold I64;omega) hx2) ?_
 rintro _ _ ⟨rfl,rfl⟩
 refine op 2 (.bool x2) (ot (crt ?_))
 obtain rfl:=sj hr
 refine rt [.tmp 2] [.bool x2] ⟨rfl,trivial⟩ ?_
 exact ⟨rfl,rfl⟩
theorem zjt {κ:K} {p0:Int} {p1:Int} (hb1:I64 p0) (hb2:I64 p1) {r:Int} (hr:zd9 p0 p1=some r) :
 Fn Tryz.prog 83 #[iv p0,iv p1] κ (fun v κ'=>κ=κ'∧v=iv r∧I64 r):=by
 refine fnc 10 [] Tryz.func83 Tryz.ntmps83 fun hs=>csr (op 4 (iv 0) (ot (cs (csr (op 5 (iv p0) (op 6 (iv p1) (op 7 (bW (p0<p1)) (ot ?_))))))))
 refine cc (decide (p0<p1)) hr ?_ ?_
 ·intro hc hr
  refine csr (op 8 (iv p0) (op 4 (iv p0) (ot (crt (zb ?_)))))
  obtain rfl:=sj hr
  refine rt [.tmp 4] [iv p0] ⟨rfl,trivial⟩ ?_
  exact ⟨rfl,rfl,hb1⟩
 intro hc hr
 refine ckt (csr (op 9 (iv p1) (op 4 (iv p1) (ot (crt ?_)))))
 obtain rfl:=sj hr
 refine rt [.tmp 4] [iv p1] ⟨rfl,trivial⟩ ?_
 exact ⟨rfl,rfl,hb2⟩
theorem zju {κ:K} {p0:Int} {p1:Int} (hb1:I64 p0) (hb2:I64 p1) {r:Int} (hr:zea p0 p1=some r) :
 Fn Tryz.prog 84 #[iv p0,iv p1] κ (fun v κ'=>κ=κ'∧v=iv r∧I64 r):=by
 refine fnc 10 [] Tryz.func84 Tryz.ntmps84 fun hs=>csr (op 4 (iv 0) (ot (cs (csr (op 5 (iv p0) (op 6 (iv p1) (op 7 (bW (p0>p1)) (ot ?_))))))))
 refine cc (decide (p0>p1)) hr ?_ ?_
 ·intro hc hr
  refine csr (op 8 (iv p0) (op 4 (iv p0) (ot (crt (zb ?_)))))
  obtain rfl:=sj hr
  refine rt [.tmp 4] [iv p0] ⟨rfl,trivial⟩ ?_
  exact ⟨rfl,rfl,hb1⟩
 intro hc hr
 refine ckt (csr (op 9 (iv p1) (op 4 (iv p1) (ot (crt ?_)))))
 obtain rfl:=sj hr
 refine rt [.tmp 4] [iv p1] ⟨rfl,trivial⟩ ?_
 exact ⟨rfl,rfl,hb2⟩
theorem zlb {κ:K} {p0:Int} {p1:LB} {a2:OA} {c3:Nat} (hb1:I64 p0) (f4:Sl zR κ a2 c3 p1) {r:LM} (hr:zfR p0 p1=some r) :
 Fn Tryz.prog 82 #[iv p0,sl a2 p1.length c3] κ (fun v κ'=>Step [] κ κ'∧∃ (a5:OA) (c6:Nat),v=sl a5 r.length c6∧Sl (tSl tI64) κ' a5 c6 r):=by
 refine fnc 101 [] Tryz.func82 Tryz.ntmps82 fun hs=>csr (op 4 (sl none 0 0) (otx (zO (d:=15) (T:=95) (e:=2) (t:=tI64) (pub:=false) (τ:=(κ.H.size,82001)) (len:=0) (l:=[]) (parts:=#[]) (cs:=[]) kr kr kr kr hs.1 rfl rfl kr fun a10 κ8 s9 f11=>?_)))
 replace hs:=hs.tr0 s9
 refine op 5 (sl a10 0 0) (ot (cs (csr (op 6 (iv 0) (ot (cb 0 ?_))))))
 refine zj 0 (fun Z=>∀ (y19:LI) (a21:OA) (c22:Nat) (E0:Env) (κ23:K) (hs:Step [] κ κ23) (f20:Gr tI64 false (κ.H.size,82001) κ23 2 a21 c22 y19),zfQ p0 p1 y19=some r→Z (upd (upd (upd (E0) 0 (iv p0)) 1 (sl a2 p1.length c3)) 5 (sl a21 y19.length c22)) κ23) ?_ fun J1=>?_
 ·intro y19 a21 c22 E0 κ23 hs f20 hr
  refine zg (za (cs (csr (op 7 (iv 0) (ot (cb 2 ?_))))))
  refine zj 2 (fun Z=>∀ (y30:LI) (a32:OA) (c33:Nat) (E0:Env) (κ34:K) (hs:Step [] κ κ34) (f31:Gr tI64 false (κ.H.size,82001) κ34 2 a32 c33 y30),zfP p0 y30=some r→Z (upd (upd (E0) 0 (iv p0)) 5 (sl a32 y30.length c33)) κ34) ?_ fun J2=>?_
  ·intro y30 a32 c33 E0 κ34 hs f31 hr
   refine zg (za (csr (zO (d:=67) (T:=135) (e:=95) (t:=(tSl tI64)) (pub:=true) (τ:=(κ.H.size,82003)) (len:=0) (l:=[]) (parts:=#[]) (cs:=[]) kr kr kr kr hs.1 rfl rfl kr fun a37 κ35 s36 f38=>?_)))
   replace hs:=hs.tr0 s36
   replace f31:=f31.step0 s36
   refine op 11 (sl a37 0 0) (ot (cs (csr (op 12 (iv 0) (ot (cb 6 ?_))))))
   refine zj 6 (fun Z=>∀ (y46:LM) (a48:OA) (c49:Nat) (E0:Env) (κ50:K) (hs:Step [] κ κ50) (f47:Gr (tSl tI64) true (κ.H.size,82003) κ50 95 a48 c49 y46),zfO y46=some r→Z (upd (E0) 11 (sl a48 y46.length c49)) κ50) ?_ fun J3=>?_
   ·intro y46 a48 c49 E0 κ50 hs f47 hr
    refine zg (za (csr (op 100 (sl a48 y46.length c49) (op 4 (sl a48 y46.length c49) (ot (crt ?_))))))
    obtain rfl:=sj hr
    refine rt [.tmp 4] [sl a48 y46.length c49] ⟨rfl,trivial⟩ ?_
    exact ⟨hs,_,_,rfl,f47.sl⟩
   obtain ⟨x51,hx51,hrx51⟩:=bind_some hr
   refine zo (F:=zcr p0 y30) (J:=fun (sx51:LM×Int) (E':Env) (κ':K)=>∃ (a42:OA) (c43:Nat),(∃ E0,E'=upd (upd (upd (upd (E0) 0 (iv p0)) 5 (sl a32 y30.length c33)) 11 (sl a42 sx51.1.length c43)) 12 (iv sx51.2))∧Step [] κ κ'∧Gr (tSl tI64) true (κ.H.size,82003) κ' 95 a42 c43 sx51.1∧I64 sx51.2∧Gr tI64 false (κ.H.size,82001) κ' 2 a32 c33 y30) (s0:=([],0)) (x:=x51) kr hx51 ⟨_,_,⟨_,(eA 12 (eA 11 (eA 5 (eA 0 rfl))))⟩,hs,f38,(show I64 0 by unfold I64;omega),f31⟩ ?_
   rintro sx51 _ κ52 ⟨a42,c43,⟨E0,rfl⟩,hs,f41,hb45,f31⟩ yyx51 hr hdx51
   refine cs (csr (op 68 (iv sx51.2) (op 69 (iv p0) (op 70 (bW (sx51.2<p0)) (ot ?_)))))
   refine cc (decide (sx51.2<p0)) hr ?_ ?_
   ·intro hc hr
    refine ckt ?_
    refine zl (fun Z=>∀ (y53:LM) (a55:OA) (c56:Nat) (E0:Env) (κ57:K) (hs:Step [] κ κ57) (f54:Gr (tSl tI64) true (κ.H.size,82003) κ57 95 a55 c56 y53) (f31:Gr tI64 false (κ.H.size,82001) κ57 2 a32 c33 y30),zcu sx51 y53=some yyx51→cwp Tryz.prog 101 (sub (zC Tryz.f82) [1,1,0,0,1,0,1,1,1,1,1]) Z (upd (upd (upd (upd (E0) 0 (iv p0)) 5 (sl a32 y30.length c33)) 11 (sl a55 y53.length c56)) 12 (iv sx51.2)) κ57) ?_ fun J4=>?_
    ·intro y53 a55 c56 E0 κ57 hs f54 f31 hr
     refine cr (op 71 (iv sx51.2) (op 72 (iv (w64 (sx51.2+1))) (op 12 (iv (w64 (sx51.2+1))) (oe ?_))))
     exact ze (sj hr).symm ⟨_,_,⟨_,(eA 12 (eA 11 (eA 5 (eA 0 rfl))))⟩,hs,f54,(zq _),f31⟩
    refine cs (cb 7 (cs (csr (op 73 (sl a32 y30.length c33) (op 74 (iv sx51.2) ?_)))))
    obtain ⟨x58,hx58,hr⟩:=bind_some hr
    obtain ⟨b59,eab59,i0x58,i1x58,csx58,p_b59,owx58⟩:=f31.idx hx58
    obtain ⟨rfl,hb60⟩:=owx58
    replace p_b59:At κ52 b59 (0+sx51.2.toNat*1) [iv x58]:=p_b59
    refine oi 75 95 2 1 y30.length c33 .i64 sx51.2 (off:=0) eab59 i0x58 i1x58 (o1 76 2 (iv x58) (p_b59.one (o:=0) rfl) (op 77 (iv sx51.2) (op 78 (.bool (!decide (x58=sx51.2))) (ot ?_))))
    refine cc (!decide (x58=sx51.2)) hr ?_ ?_
    ·intro hc hr
     refine cx 7 (zh (zg (za ?_)))
     exact zk (eA 12 (eA 11 (eA 5 (eA 0 rfl)))) (J4 sx51.1 _ _ _ _ hs f41 f31 hr)
    intro hc hr
    refine ckt (csr (zO (d:=79) (T:=95) (e:=2) (t:=tI64) (pub:=true) (τ:=(κ.H.size,82004)) (len:=0) (l:=[]) (parts:=#[]) (cs:=[]) kr kr kr kr hs.1 rfl rfl kr fun a63 κ61 s62 f64=>?_))
    replace hs:=hs.tr0 s62
    replace f31:=f31.step0 s62
    replace f41:=f41.step0 s62
    refine op 13 (sl a63 0 0) (ot (cs (csr (op 80 (iv sx51.2) (op 14 (iv sx51.2) (ot (cb 8 ?_)))))))
    refine zj 8 (fun Z=>∀ (y72:LI) (a74:OA) (c75:Nat) (E0:Env) (κ76:K) (hs:Step [] κ κ76) (f73:Gr tI64 true (κ.H.size,82004) κ76 2 a74 c75 y72) (f31:Gr tI64 false (κ.H.size,82001) κ76 2 a32 c33 y30) (f41:Gr (tSl tI64) true (κ.H.size,82003) κ76 95 a42 c43 sx51.1),zfN sx51 y72=some yyx51→Z (upd (upd (upd (upd (upd (E0) 0 (iv p0)) 5 (sl a32 y30.length c33)) 11 (sl a42 sx51.1.length c43)) 12 (iv sx51.2)) 13 (sl a74 y72.length c75)) κ76) ?_ fun J5=>?_
    ·intro y72 a74 c75 E0 κ76 hs f73 f31 f41 hr
     refine zg (za (cr (op 96 (sl a42 sx51.1.length c43) (op 97 (sl a74 y72.length c75) (zO (d:=98) (T:=135) (e:=95) (t:=(tSl tI64)) (pub:=true) (τ:=(κ.H.size,82006)) (len:=1) (l:=[y72]) (parts:=#[(0,sl a74 y72.length c75)]) (cs:=[sl a74 y72.length c75]) kr kr kr kr hs.1 rfl ⟨_,_,rfl,⟨_,_,rfl,f73.sl⟩,rfl⟩ kr fun a79 κ77 s78 f80=>?_)))))
     replace hs:=hs.tr0 s78
     replace f31:=f31.step0 s78
     replace f41:=f41.step0 s78
     obtain ⟨x82,hx82,hr⟩:=bind_some hr
     refine zM (d:=99) (T:=135) (e:=95) (t:=(tSl tI64)) (pub:=true) (τ:=(κ.H.size,82003)) (bytes:=24) (a:=a42) (cp:=c43) (l:=sx51.1) (a2:=a79) (c2:=1) (l2:=[y72]) kr kr f41 f80.sl hs.1 kr hx82 fun a85 c86 κ83 s84 f87 hw=>?_
     clear hw
     replace hs:=hs.trG (f41.own (Nat.le_refl _)) s84
     replace f31:=f31.step s84 (f31.ng f41 (zm (N:=κ.H.size) (M:=κ.H.size) (i:=82001) (j:=82003) kr))
     refine op 11 (sl a85 x82.length c86) (oe (zd (za ?_)))
     exact zk (eA 12 (eA 11 (eA 5 (eA 0 rfl)))) (J4 x82 _ _ _ _ hs f87 f31 hr)
    obtain ⟨x88,hx88,hrx88⟩:=bind_some hr
    refine zo (F:=zcq p0 y30 sx51) (J:=fun (sx88:LI×Int) (E':Env) (κ':K)=>∃ (a68:OA) (c69:Nat),(∃ E0,E'=upd (upd (upd (upd (upd (upd (E0) 0 (iv p0)) 5 (sl a32 y30.length c33)) 11 (sl a42 sx51.1.length c43)) 12 (iv sx51.2)) 13 (sl a68 sx88.1.length c69)) 14 (iv sx88.2))∧Step [] κ κ'∧Gr tI64 true (κ.H.size,82004) κ' 2 a68 c69 sx88.1∧I64 sx88.2∧Gr tI64 false (κ.H.size,82001) κ' 2 a32 c33 y30∧Gr (tSl tI64) true (κ.H.size,82003) κ' 95 a42 c43 sx51.1) (s0:=([],sx51.2)) (x:=x88) kr hx88 ⟨_,_,⟨_,(eA 14 (eA 13 (eA 12 (eA 11 (eA 5 (eA 0 rfl))))))⟩,hs,f64,hb45,f31,f41⟩ ?_
    rintro sx88 _ κ89 ⟨a68,c69,⟨E0,rfl⟩,hs,f67,hb71,f31,f41⟩ yyx88 hr hdx88
    refine cs (csr (op 81 (iv sx88.2) (op 82 (iv p0) (op 83 (bW (sx88.2<p0)) (ot ?_)))))
    refine cc (decide (sx88.2<p0)) hr ?_ ?_
    ·intro hc hr
     refine ckt ?_
     refine zl (fun Z=>∀ (y90:LI) (a92:OA) (c93:Nat) (E0:Env) (κ94:K) (hs:Step [] κ κ94) (f91:Gr tI64 true (κ.H.size,82004) κ94 2 a92 c93 y90) (f31:Gr tI64 false (κ.H.size,82001) κ94 2 a32 c33 y30) (f41:Gr (tSl tI64) true (κ.H.size,82003) κ94 95 a42 c43 sx51.1),zdT sx88 y90=some yyx88→cwp Tryz.prog 101 (sub (zC Tryz.f82) [1,1,0,0,1,0,1,1,0,0,1,0,0,1,0,1,1,1,1,1]) Z (upd (upd (upd (upd (upd (upd (E0) 0 (iv p0)) 5 (sl a32 y30.length c33)) 11 (sl a42 sx51.1.length c43)) 12 (iv sx51.2)) 13 (sl a92 y90.length c93)) 14 (iv sx88.2)) κ94) ?_ fun J6=>?_
     ·intro y90 a92 c93 E0 κ94 hs f91 f31 f41 hr
      refine cr (op 84 (iv sx88.2) (op 85 (iv (w64 (sx88.2+1))) (op 14 (iv (w64 (sx88.2+1))) (oe ?_))))
      exact ze (sj hr).symm ⟨_,_,⟨_,(eA 14 (eA 13 (eA 12 (eA 11 (eA 5 (eA 0 rfl))))))⟩,hs,f91,(zq _),f31,f41⟩
     refine cs (cb 9 (csr (op 86 (sl a32 y30.length c33) (op 87 (iv sx88.2) ?_))))
     obtain ⟨x95,hx95,hr⟩:=bind_some hr
     obtain ⟨b96,eab96,i0x95,i1x95,csx95,p_b96,owx95⟩:=f31.idx hx95
     obtain ⟨rfl,hb97⟩:=owx95
     replace p_b96:At κ89 b96 (0+sx88.2.toNat*1) [iv x95]:=p_b96
     refine oi 88 95 2 1 y30.length c33 .i64 sx88.2 (off:=0) eab96 i0x95 i1x95 (o1 89 2 (iv x95) (p_b96.one (o:=0) rfl) (op 90 (iv sx51.2) (op 91 (bW (x95=sx51.2)) (ot ?_))))
     refine cc (decide (x95=sx51.2)) hr ?_ ?_
     ·intro hc hr
      refine cr (op 92 (sl a68 sx88.1.length c69) (op 93 (iv sx88.2) (zO (d:=94) (T:=95) (e:=2) (t:=tI64) (pub:=true) (τ:=(κ.H.size,82005)) (len:=1) (l:=[sx88.2]) (parts:=#[(0,iv sx88.2)]) (cs:=[iv sx88.2]) kr kr kr kr hs.1 rfl ⟨_,_,rfl,⟨rfl,hb71⟩,rfl⟩ kr fun a100 κ98 s99 f101=>?_)))
      replace hs:=hs.tr0 s99
      replace f31:=f31.step0 s99
      replace f41:=f41.step0 s99
      replace f67:=f67.step0 s99
      obtain ⟨x103,hx103,hr⟩:=bind_some hr
      refine zM (d:=95) (T:=95) (e:=2) (t:=tI64) (pub:=true) (τ:=(κ.H.size,82004)) (bytes:=8) (a:=a68) (cp:=c69) (l:=sx88.1) (a2:=a100) (c2:=1) (l2:=[sx88.2]) kr kr f67 f101.sl hs.1 kr hx103 fun a106 c107 κ104 s105 f108 hw=>?_
      clear hw
      replace hs:=hs.trG (f67.own (Nat.le_refl _)) s105
      replace f31:=f31.step s105 (f31.ng f67 (zm (N:=κ.H.size) (M:=κ.H.size) (i:=82001) (j:=82004) kr))
      replace f41:=f41.step s105 (f41.ng f67 (zm (N:=κ.H.size) (M:=κ.H.size) (i:=82003) (j:=82004) kr))
      refine op 13 (sl a106 x103.length c107) (oe (zd (za ?_)))
      exact zk (eA 14 (eA 13 (eA 12 (eA 11 (eA 5 (eA 0 rfl)))))) (J6 x103 _ _ _ _ hs f108 f31 f41 hr)
     intro hc hr
     refine ck (zd (za ?_))
     exact zk (eA 14 (eA 13 (eA 12 (eA 11 (eA 5 (eA 0 rfl)))))) (J6 sx88.1 _ _ _ _ hs f67 f31 f41 hr)
    intro hc hr
    refine cx 8 (zh ?_)
    have hx:=hdx88 _ (sj hr).symm
    subst hx
    replace hr:=hrx88
    refine zi ?_
    exact zr (eA 13 (eA 12 (eA 11 (eA 5 (eA 0 rfl))))) (J5 sx88.1 _ _ _ _ hs f67 f31 f41 hr)
   intro hc hr
   refine cx 6 (zh ?_)
   have hx:=hdx51 _ (sj hr).symm
   subst hx
   replace hr:=hrx51
   refine zi ?_
   exact zr (eA 11 rfl) (J3 sx51.1 _ _ _ _ hs f41 hr)
  obtain ⟨x109,hx109,hrx109⟩:=bind_some hr
  refine zo (F:=zcs p1) (J:=fun (sx109:LI×Int) (E':Env) (κ':K)=>∃ (a26:OA) (c27:Nat),(∃ E0,E'=upd (upd (upd (upd (E0) 0 (iv p0)) 1 (sl a2 p1.length c3)) 5 (sl a26 sx109.1.length c27)) 7 (iv sx109.2))∧Step [] κ κ'∧Gr tI64 false (κ.H.size,82001) κ' 2 a26 c27 sx109.1∧I64 sx109.2) (s0:=(y19,0)) (x:=x109) kr hx109 ⟨_,_,⟨_,(eA 7 (eA 5 (eA 1 (eA 0 rfl))))⟩,hs,f20,(show I64 0 by unfold I64;omega)⟩ ?_
  rintro sx109 _ κ110 ⟨a26,c27,⟨E0,rfl⟩,hs,f25,hb29⟩ yyx109 hr hdx109
  refine cs (csr (op 25 (iv sx109.2) (op 26 (sl a2 p1.length c3) (op 27 (iv (p1.length:Int)) (op 28 (bW (sx109.2<(p1.length:Int))) (ot ?_))))))
  refine cc (decide (sx109.2<(p1.length:Int))) hr ?_ ?_
  ·intro hc hr
   refine ckt (cs (cb 3 (csr (op 31 (sl a26 sx109.1.length c27) (op 32 (sl a2 p1.length c3) (op 33 (iv sx109.2) ?_))))))
   obtain ⟨x111,hx111,hr⟩:=bind_some hr
   obtain ⟨b112,o113,eab112,i0x111,i1x111,csx111,p_b112,owx111⟩:=(f4.step hs).idx hx111
   obtain ⟨_,_,rfl,⟨rfl,hb114⟩,⟨_,_,rfl,⟨rfl,hb115⟩,⟨rfl,hb116⟩⟩⟩:=owx111
   replace p_b112:PubAt κ110 b112 (o113+sx109.2.toNat*3) [iv x111.1,iv x111.2.1,iv x111.2.2]:=p_b112
   refine oi 34 109 134 3 p1.length c3 .i64 sx109.2 eab112 i0x111 i1x111 (op 35 (pt b112 (o113+sx109.2.toNat*3)) (o1 36 2 (iv x111.1) (p_b112.at.one (o:=0) rfl) ?_))
   obtain ⟨x117,hx117,hr⟩:=bind_some hr
   obtain ⟨b118,eab118,i0x117,i1x117,csx117,p_b118,owx117⟩:=f25.idx hx117
   obtain ⟨rfl,hb119⟩:=owx117
   replace p_b118:At κ110 b118 (0+x111.1.toNat*1) [iv x117]:=p_b118
   refine oi 37 95 2 1 sx109.1.length c27 .i64 x111.1 (off:=0) eab118 i0x117 i1x117 (o1 38 2 (iv x117) (p_b118.one (o:=0) rfl) (op 8 (iv x117) (otx (op 39 (sl a26 sx109.1.length c27) (op 40 (sl a2 p1.length c3) (op 41 (iv sx109.2) ?_))))))
   obtain ⟨x120,hx120,hr⟩:=bind_some hr
   have eqx120:x111=x120:=sj (hx111.symm.trans hx120);subst eqx120
   have hx120q:=hx120
   obtain ⟨b121,o122,eab121,i0x120,i1x120,csx120,p_b121,owx120⟩:=(f4.step hs).idx hx120
   obtain ⟨_,_,rfl,⟨rfl,hb123⟩,⟨_,_,rfl,⟨rfl,hb124⟩,⟨rfl,hb125⟩⟩⟩:=owx120
   replace p_b121:PubAt κ110 b121 (o122+sx109.2.toNat*3) [iv x111.1,iv x111.2.1,iv x111.2.2]:=p_b121
   refine oi 42 109 134 3 p1.length c3 .i64 sx109.2 eab121 i0x120 i1x120 (op 43 (pt b121 (o122+sx109.2.toNat*3+1)) (o1 44 2 (iv x111.2.1) (p_b121.at.one (o:=1) rfl) ?_))
   obtain ⟨x126,hx126,hr⟩:=bind_some hr
   obtain ⟨b127,eab127,i0x126,i1x126,csx126,p_b127,owx126⟩:=f25.idx hx126
   obtain ⟨rfl,hb128⟩:=owx126
   replace p_b127:At κ110 b127 (0+x111.2.1.toNat*1) [iv x126]:=p_b127
   refine oi 45 95 2 1 sx109.1.length c27 .i64 x111.2.1 (off:=0) eab127 i0x126 i1x126 (o1 46 2 (iv x126) (p_b127.one (o:=0) rfl) (op 9 (iv x126) (otx (op 10 (iv 0) (ot (cb 4 ?_))))))
   refine zj 4 (fun Z=>∀ (y135:LI) (a137:OA) (c138:Nat) (E0:Env) (κ139:K) (hs:Step [] κ κ139) (f136:Gr tI64 false (κ.H.size,82001) κ139 2 a137 c138 y135),zfM sx109 y135=some yyx109→Z (upd (upd (upd (upd (E0) 0 (iv p0)) 1 (sl a2 p1.length c3)) 5 (sl a137 y135.length c138)) 7 (iv sx109.2)) κ139) ?_ fun J7=>?_
   ·intro y135 a137 c138 E0 κ139 hs f136 hr
    refine zg (zd (za (cr (op 29 (iv sx109.2) (op 30 (iv (w64 (sx109.2+1))) (op 7 (iv (w64 (sx109.2+1))) (oe ?_)))))))
    exact ze (sj hr).symm ⟨_,_,⟨_,(eA 7 (eA 5 (eA 1 (eA 0 rfl))))⟩,hs,f136,(zq _)⟩
   obtain ⟨x140,hx140,hrx140⟩:=bind_some hr
   refine zo (F:=zcp x117 x126) (J:=fun (sx140:LI×Int) (E':Env) (κ':K)=>∃ (a131:OA) (c132:Nat),(∃ E0,E'=upd (upd (upd (upd (upd (upd (upd (E0) 0 (iv p0)) 1 (sl a2 p1.length c3)) 5 (sl a131 sx140.1.length c132)) 7 (iv sx109.2)) 8 (iv x117)) 9 (iv x126)) 10 (iv sx140.2))∧Step [] κ κ'∧Gr tI64 false (κ.H.size,82001) κ' 2 a131 c132 sx140.1∧I64 sx140.2) (s0:=(sx109.1,0)) (x:=x140) kr hx140 ⟨_,_,⟨_,(eA 10 (eA 9 (eA 8 (eA 7 (eA 5 (eA 1 (eA 0 rfl)))))))⟩,hs,f25,(show I64 0 by unfold I64;omega)⟩ ?_
   rintro sx140 _ κ141 ⟨a131,c132,⟨E0,rfl⟩,hs,f130,hb134⟩ yyx140 hr hdx140
   refine cs (csr (op 47 (iv sx140.2) (op 48 (sl a131 sx140.1.length c132) (op 49 (iv (sx140.1.length:Int)) (op 50 (bW (sx140.2<(sx140.1.length:Int))) (ot ?_))))))
   refine cc (decide (sx140.2<(sx140.1.length:Int))) hr ?_ ?_
   ·intro hc hr
    refine ckt ?_
    refine zl (fun Z=>∀ (y142:LI) (a144:OA) (c145:Nat) (E0:Env) (κ146:K) (hs:Step [] κ κ146) (f143:Gr tI64 false (κ.H.size,82001) κ146 2 a144 c145 y142),zdS sx140 y142=some yyx140→cwp Tryz.prog 101 (sub (zC Tryz.f82) [1,1,0,0,1,1,1,0,0,1,0,0,1,0,1,1,1]) Z (upd (upd (upd (upd (upd (upd (upd (E0) 0 (iv p0)) 1 (sl a2 p1.length c3)) 5 (sl a144 y142.length c145)) 7 (iv sx109.2)) 8 (iv x117)) 9 (iv x126)) 10 (iv sx140.2)) κ146) ?_ fun J8=>?_
    ·intro y142 a144 c145 E0 κ146 hs f143 hr
     refine cr (op 51 (iv sx140.2) (op 52 (iv (w64 (sx140.2+1))) (op 10 (iv (w64 (sx140.2+1))) (oe ?_))))
     exact ze (sj hr).symm ⟨_,_,⟨_,(eA 10 (eA 9 (eA 8 (eA 7 (eA 5 (eA 1 (eA 0 rfl)))))))⟩,hs,f143,(zq _)⟩
    refine cs (cb 5 (cs (cd 7 (dp 53 (sl a131 sx140.1.length c132) (dp 54 (iv sx140.2) ?_)))))
    obtain ⟨x147,hx147,hr⟩:=bind_some hr
    obtain ⟨b148,eab148,i0x147,i1x147,csx147,p_b148,owx147⟩:=f130.idx hx147
    obtain ⟨rfl,hb149⟩:=owx147
    replace p_b148:At κ141 b148 (0+sx140.2.toNat*1) [iv x147]:=p_b148
    refine di 55 95 2 1 sx140.1.length c132 .i64 sx140.2 (off:=0) eab148 i0x147 i1x147 (d1 56 2 (iv x147) (p_b148.one (o:=0) rfl) (dp 57 (iv x117) (dp 58 (iv x126) ?_)))
    obtain ⟨x150,hx150,hr⟩:=bind_some hr
    refine dc 59 (zju hb119 hb128 hx150) fun hb151=>de (op 60 (bW (x147=x150)) (ot ?_))
    refine cc (decide (x147=x150)) hr ?_ ?_
    ·intro hc hr
     refine cr (op 61 (sl a131 sx140.1.length c132) (op 62 (iv sx140.2) (op 63 (iv x117) (op 64 (iv x126) ?_))))
     obtain ⟨x152,hx152,hr⟩:=bind_some hr
     refine ocl 65 (zjt hb119 hb128 hx152) ?_
     rintro _ _ ⟨rfl,rfl,hb153⟩
     obtain ⟨x155,hx155,hr⟩:=bind_some hr
     obtain ⟨b156,eab156,i0x155,i1x155,csx155,p_b156,owx155⟩:=f130.idx hx155
     obtain ⟨rfl,hb157⟩:=owx155
     replace p_b156:At κ141 b156 (0+sx140.2.toNat*1) [iv x155]:=p_b156
     refine oi 66 95 2 1 sx140.1.length c132 .i64 sx140.2 (off:=0) eab156 i0x155 i1x155 ?_
     obtain ⟨x158,hx158,hr⟩:=bind_some hr
     refine zbu (T:=2) (t:=tI64) (τ:=(κ.H.size,82001)) (e:=2) (ix:=sx140.2) (x':=x152) (b:=b156) (δ:=0) (cp:=c132) (l:=sx140.1) (vs:=[iv x152]) (iv x152) kr kr eab156 f130 i0x155 i1x155 kr kr kr kr (fun cs hx=>by obtain ⟨x,_,ho⟩:=hx;rw [zat ((tI64.len ho).trans kr)];exact ⟨rfl,hb153⟩) fun κ159 s160 Nf130=>?_
     replace hs:=hs.trG (f130.own (Nat.le_refl _)) s160
     replace f130:=Nf130
     replace f130:=zeM hx158 f130
     have len_x158:=zS hx158
     refine zca (eA 10 (v:=iv sx140.2) (eA 9 (v:=iv x126) (eA 8 (v:=iv x117) (eA 7 (v:=iv sx109.2) (zc (t:=5) (v:=sl a131 x158.length c132) (eA 1 (v:=sl a2 p1.length c3) (eA 0 (v:=iv p0) rfl)) (by rw [len_x158];kernel_rfl)))))) (oe (zd (za ?_)))
     exact zk (eA 10 (eA 9 (eA 8 (eA 7 (eA 5 (eA 1 (eA 0 rfl))))))) (J8 x158 _ _ _ _ hs f130 hr)
    intro hc hr
    refine ck (zd (za ?_))
    exact zk (eA 10 (eA 9 (eA 8 (eA 7 (eA 5 (eA 1 (eA 0 rfl))))))) (J8 sx140.1 _ _ _ _ hs f130 hr)
   intro hc hr
   refine cx 4 (zh ?_)
   have hx:=hdx140 _ (sj hr).symm
   subst hx
   replace hr:=hrx140
   refine zi ?_
   exact zr (eA 7 (eA 5 (eA 1 (eA 0 rfl)))) (J7 sx140.1 _ _ _ _ hs f130 hr)
  intro hc hr
  refine cx 2 (zh ?_)
  have hx:=hdx109 _ (sj hr).symm
  subst hx
  replace hr:=hrx109
  refine zi ?_
  exact zr (eA 5 (eA 0 rfl)) (J2 sx109.1 _ _ _ _ hs f25 hr)
 obtain ⟨x161,hx161,hrx161⟩:=bind_some hr
 refine zo (F:=zct p0) (J:=fun (sx161:LI×Int) (E':Env) (κ':K)=>∃ (a15:OA) (c16:Nat),(∃ E0,E'=upd (upd (upd (upd (E0) 0 (iv p0)) 1 (sl a2 p1.length c3)) 5 (sl a15 sx161.1.length c16)) 6 (iv sx161.2))∧Step [] κ κ'∧Gr tI64 false (κ.H.size,82001) κ' 2 a15 c16 sx161.1∧I64 sx161.2) (s0:=([],0)) (x:=x161) kr hx161 ⟨_,_,⟨_,(eA 6 (eA 5 (eA 1 (eA 0 rfl))))⟩,hs,f11,(show I64 0 by unfold I64;omega)⟩ ?_
 rintro sx161 _ κ162 ⟨a15,c16,⟨E0,rfl⟩,hs,f14,hb18⟩ yyx161 hr hdx161
 refine cs (csr (op 16 (iv sx161.2) (op 17 (iv p0) (op 18 (bW (sx161.2<p0)) (ot ?_)))))
 refine cc (decide (sx161.2<p0)) hr ?_ ?_
 ·intro hc hr
  refine ckt (cs (cb 1 (cr (op 21 (sl a15 sx161.1.length c16) (op 22 (iv sx161.2) (zO (d:=23) (T:=95) (e:=2) (t:=tI64) (pub:=true) (τ:=(κ.H.size,82002)) (len:=1) (l:=[sx161.2]) (parts:=#[(0,iv sx161.2)]) (cs:=[iv sx161.2]) kr kr kr kr hs.1 rfl ⟨_,_,rfl,⟨rfl,hb18⟩,rfl⟩ kr fun a165 κ163 s164 f166=>?_))))))
  replace hs:=hs.tr0 s164
  replace f14:=f14.step0 s164
  obtain ⟨x168,hx168,hr⟩:=bind_some hr
  refine zM (d:=24) (T:=95) (e:=2) (t:=tI64) (pub:=false) (τ:=(κ.H.size,82001)) (bytes:=8) (a:=a15) (cp:=c16) (l:=sx161.1) (a2:=a165) (c2:=1) (l2:=[sx161.2]) kr kr f14 f166.sl hs.1 kr hx168 fun a171 c172 κ169 s170 f173 hw=>?_
  clear hw
  replace hs:=hs.trG (f14.own (Nat.le_refl _)) s170
  refine op 5 (sl a171 x168.length c172) (oe (zd (za (cr (op 19 (iv sx161.2) (op 20 (iv (w64 (sx161.2+1))) (op 6 (iv (w64 (sx161.2+1))) (oe ?_))))))))
  exact ze (sj hr).symm ⟨_,_,⟨_,(eA 6 (eA 5 (eA 1 (eA 0 rfl))))⟩,hs,f173,(zq _)⟩
 intro hc hr
 refine cx 0 (zh ?_)
 have hx:=hdx161 _ (sj hr).symm
 subst hx
 replace hr:=hrx161
 refine zi ?_
 exact zr (eA 5 (eA 1 (eA 0 rfl))) (J1 sx161.1 _ _ _ _ hs f14 hr)
theorem zk9 {κ:K} {p0:Int} {p1:LB} {a2:OA} {c3:Nat} {p2:Int} (hb1:I64 p0) (f4:Sl zR κ a2 c3 p1) (hb5:I64 p2) {r:Int×LB} (hr:zfK p0 p1 p2=some r) :
 Fn Tryz.prog 58 #[iv p0,sl a2 p1.length c3,iv p2] κ (fun v κ'=>Step [] κ κ'∧∃ (a7:OA) (c8:Nat),v=.tuple #[iv r.1,sl a7 r.2.length c8]∧I64 r.1∧Sl zR κ' a7 c8 r.2):=by
 refine fnc 113 [] Tryz.func58 Tryz.ntmps58 fun hs=>csr (op 6 (iv 0) (op 7 (sl none 0 0) (otx (zO (d:=18) (T:=109) (e:=134) (t:=zR) (pub:=true) (τ:=(κ.H.size,58001)) (len:=0) (l:=[]) (parts:=#[]) (cs:=[]) kr kr kr kr hs.1 rfl rfl kr fun a12 κ10 s11 f13=>?_))))
 replace hs:=hs.tr0 s11
 refine op 8 (sl a12 0 0) (ot (cs (csr (op 9 (iv 0) (ot (cb 0 ?_))))))
 refine zj 0 (fun Z=>∀ (y21:LB) (a23:OA) (c24:Nat) (E0:Env) (κ25:K) (hs:Step [] κ κ25) (f22:Gr zR true (κ.H.size,58001) κ25 134 a23 c24 y21),zfJ p0 p1 y21=some r→Z (upd (upd (upd (E0) 0 (iv p0)) 1 (sl a2 p1.length c3)) 8 (sl a23 y21.length c24)) κ25) ?_ fun J1=>?_
 ·intro y21 a23 c24 E0 κ25 hs f22 hr
  refine zg (za (csr (op 39 (iv p0) (op 40 (sl a23 y21.length c24) ?_))))
  obtain ⟨x26,hx26,hr⟩:=bind_some hr
  refine ocl 41 (zlb hb1 f22.sl hx26) ?_
  rintro _ κ30 ⟨s31,a27,c28,rfl,f29⟩
  replace hs:=hs.tr0 s31
  refine op 10 (sl a27 x26.length c28) (otx (op 42 (iv p0) ?_))
  obtain ⟨x36,hx36,hr⟩:=bind_some hr
  refine ziw (d:=43) (T:=95) (e:=2) (t:=tI64) (pub:=false) (τ:=(κ.H.size,58003)) (bytes:=8) (k1:=.i64) (k2:=.i64) (m:=p0) (zs:=[iv 0]) (z:=0) kr kr kr kr ⟨rfl,(show I64 0 by unfold I64;omega)⟩ hx36 hs.1 fun a34 κ32 s33 f35=>?_
  replace hs:=hs.tr0 s33
  replace f29:=f29.step s33
  refine op 11 (sl a34 x36.length x36.length) (ot (cs (csr (op 12 (iv 0) (ot (cb 2 ?_))))))
  refine zj 2 (fun Z=>∀ (y43:LI) (a45:OA) (c46:Nat) (E0:Env) (κ47:K) (hs:Step [] κ κ47) (f44:Gr tI64 false (κ.H.size,58003) κ47 2 a45 c46 y43) (f29:Sl (tSl tI64) κ47 a27 c28 x26),zfI p1 x26 y43=some r→Z (upd (upd (upd (E0) 1 (sl a2 p1.length c3)) 10 (sl a27 x26.length c28)) 11 (sl a45 y43.length c46)) κ47) ?_ fun J2=>?_
  ·intro y43 a45 c46 E0 κ47 hs f44 f29 hr
   refine zg (za (csr (zO (d:=69) (T:=109) (e:=134) (t:=zR) (pub:=true) (τ:=(κ.H.size,58004)) (len:=0) (l:=[]) (parts:=#[]) (cs:=[]) kr kr kr kr hs.1 rfl rfl kr fun a50 κ48 s49 f51=>?_)))
   replace hs:=hs.tr0 s49
   replace f29:=f29.step s49
   replace f44:=f44.step0 s49
   refine op 14 (sl a50 0 0) (ot (cs (csr (op 15 (iv 0) (ot (cb 6 ?_))))))
   refine zj 6 (fun Z=>∀ (y59:LB) (a61:OA) (c62:Nat) (E0:Env) (κ63:K) (hs:Step [] κ κ63) (f60:Gr zR true (κ.H.size,58004) κ63 134 a61 c62 y59) (f29:Sl (tSl tI64) κ63 a27 c28 x26),zfH x26 y59=some r→Z (upd (upd (E0) 10 (sl a27 x26.length c28)) 14 (sl a61 y59.length c62)) κ63) ?_ fun J3=>?_
   ·intro y59 a61 c62 E0 κ63 hs f60 f29 hr
    refine zg (za (csr (op 110 (sl a27 x26.length c28) (op 111 (iv (x26.length:Int)) (op 112 (sl a61 y59.length c62) (op 6 (iv (x26.length:Int)) (op 7 (sl a61 y59.length c62) (ot (crt ?_)))))))))
    obtain rfl:=sj hr
    refine rt [.tmp 6,.tmp 7] [iv (x26.length:Int),sl a61 y59.length c62] ⟨rfl,rfl,trivial⟩ ?_
    exact ⟨hs,_,_,rfl,(zg5 f29.most),f60.sl⟩
   obtain ⟨x64,hx64,hrx64⟩:=bind_some hr
   refine zo (F:=zcm p1 y43) (J:=fun (sx64:LB×Int) (E':Env) (κ':K)=>∃ (a55:OA) (c56:Nat),(∃ E0,E'=upd (upd (upd (upd (upd (E0) 1 (sl a2 p1.length c3)) 10 (sl a27 x26.length c28)) 11 (sl a45 y43.length c46)) 14 (sl a55 sx64.1.length c56)) 15 (iv sx64.2))∧Step [] κ κ'∧Gr zR true (κ.H.size,58004) κ' 134 a55 c56 sx64.1∧I64 sx64.2∧Sl (tSl tI64) κ' a27 c28 x26∧Gr tI64 false (κ.H.size,58003) κ' 2 a45 c46 y43) (s0:=([],0)) (x:=x64) kr hx64 ⟨_,_,⟨_,(eA 15 (eA 14 (eA 11 (eA 10 (eA 1 rfl)))))⟩,hs,f51,(show I64 0 by unfold I64;omega),f29,f44⟩ ?_
   rintro sx64 _ κ65 ⟨a55,c56,⟨E0,rfl⟩,hs,f54,hb58,f29,f44⟩ yyx64 hr hdx64
   refine cs (csr (op 70 (iv sx64.2) (op 71 (sl a2 p1.length c3) (op 72 (iv (p1.length:Int)) (op 73 (bW (sx64.2<(p1.length:Int))) (ot ?_))))))
   refine cc (decide (sx64.2<(p1.length:Int))) hr ?_ ?_
   ·intro hc hr
    refine ckt ?_
    refine zl (fun Z=>∀ (y66:LB) (a68:OA) (c69:Nat) (E0:Env) (κ70:K) (hs:Step [] κ κ70) (f67:Gr zR true (κ.H.size,58004) κ70 134 a68 c69 y66) (f29:Sl (tSl tI64) κ70 a27 c28 x26) (f44:Gr tI64 false (κ.H.size,58003) κ70 2 a45 c46 y43),zdQ sx64 y66=some yyx64→cwp Tryz.prog 113 (sub (zC Tryz.f58) [1,1,0,0,1,0,1,1,1,1,1,1,1]) Z (upd (upd (upd (upd (upd (E0) 1 (sl a2 p1.length c3)) 10 (sl a27 x26.length c28)) 11 (sl a45 y43.length c46)) 14 (sl a68 y66.length c69)) 15 (iv sx64.2)) κ70) ?_ fun J4=>?_
    ·intro y66 a68 c69 E0 κ70 hs f67 f29 f44 hr
     refine cr (op 74 (iv sx64.2) (op 75 (iv (w64 (sx64.2+1))) (op 15 (iv (w64 (sx64.2+1))) (oe ?_))))
     exact ze (sj hr).symm ⟨_,_,⟨_,(eA 15 (eA 14 (eA 11 (eA 10 (eA 1 rfl)))))⟩,hs,f67,(zq _),f29,f44⟩
    refine cs (cb 7 (csr (op 76 (sl a45 y43.length c46) (op 77 (sl a2 p1.length c3) (op 78 (iv sx64.2) ?_)))))
    obtain ⟨x71,hx71,hr⟩:=bind_some hr
    obtain ⟨b72,o73,eab72,i0x71,i1x71,csx71,p_b72,owx71⟩:=(f4.step hs).idx hx71
    obtain ⟨_,_,rfl,⟨rfl,hb74⟩,⟨_,_,rfl,⟨rfl,hb75⟩,⟨rfl,hb76⟩⟩⟩:=owx71
    replace p_b72:PubAt κ65 b72 (o73+sx64.2.toNat*3) [iv x71.1,iv x71.2.1,iv x71.2.2]:=p_b72
    refine oi 79 109 134 3 p1.length c3 .i64 sx64.2 eab72 i0x71 i1x71 (op 80 (pt b72 (o73+sx64.2.toNat*3)) (o1 81 2 (iv x71.1) (p_b72.at.one (o:=0) rfl) ?_))
    obtain ⟨x77,hx77,hr⟩:=bind_some hr
    obtain ⟨b78,eab78,i0x77,i1x77,csx77,p_b78,owx77⟩:=f44.idx hx77
    obtain ⟨rfl,hb79⟩:=owx77
    replace p_b78:At κ65 b78 (0+x71.1.toNat*1) [iv x77]:=p_b78
    refine oi 82 95 2 1 y43.length c46 .i64 x71.1 (off:=0) eab78 i0x77 i1x77 (o1 83 2 (iv x77) (p_b78.one (o:=0) rfl) (op 16 (iv x77) (otx (op 84 (sl a45 y43.length c46) (op 85 (sl a2 p1.length c3) (op 86 (iv sx64.2) ?_))))))
    obtain ⟨x80,hx80,hr⟩:=bind_some hr
    have eqx80:x71=x80:=sj (hx71.symm.trans hx80);subst eqx80
    have hx80q:=hx80
    obtain ⟨b81,o82,eab81,i0x80,i1x80,csx80,p_b81,owx80⟩:=(f4.step hs).idx hx80
    obtain ⟨_,_,rfl,⟨rfl,hb83⟩,⟨_,_,rfl,⟨rfl,hb84⟩,⟨rfl,hb85⟩⟩⟩:=owx80
    replace p_b81:PubAt κ65 b81 (o82+sx64.2.toNat*3) [iv x71.1,iv x71.2.1,iv x71.2.2]:=p_b81
    refine oi 87 109 134 3 p1.length c3 .i64 sx64.2 eab81 i0x80 i1x80 (op 88 (pt b81 (o82+sx64.2.toNat*3+1)) (o1 89 2 (iv x71.2.1) (p_b81.at.one (o:=1) rfl) ?_))
    obtain ⟨x86,hx86,hr⟩:=bind_some hr
    obtain ⟨b87,eab87,i0x86,i1x86,csx86,p_b87,owx86⟩:=f44.idx hx86
    obtain ⟨rfl,hb88⟩:=owx86
    replace p_b87:At κ65 b87 (0+x71.2.1.toNat*1) [iv x86]:=p_b87
    refine oi 90 95 2 1 y43.length c46 .i64 x71.2.1 (off:=0) eab87 i0x86 i1x86 (o1 91 2 (iv x86) (p_b87.one (o:=0) rfl) (op 17 (iv x86) (otx (op 92 (iv x77) (op 93 (iv x86) (op 94 (.bool (!decide (x77=x86))) (ot ?_)))))))
    refine cc (!decide (x77=x86)) hr ?_ ?_
    ·intro hc hr
     refine cx_ 14 [0,1,2,4,5,7,8,9,10,11,3,6,12,13] [3,6,13] 14 [] (xp 95 (sl a55 sx64.1.length c56) (xp 96 (iv x77) (xp 97 (iv x86) (xp 99 (iv x77) (xp 100 (iv x86) (xp 102 (sl a2 p1.length c3) (xp 103 (iv sx64.2) ?_)))))))
     obtain ⟨x89,hx89,hr⟩:=bind_some hr
     have eqx89:x71=x89:=sj (hx71.symm.trans hx89);subst eqx89
     have hx89q:=hx89
     obtain ⟨b90,o91,eab90,i0x89,i1x89,csx89,p_b90,owx89⟩:=(f4.step hs).idx hx89
     obtain ⟨_,_,rfl,⟨rfl,hb92⟩,⟨_,_,rfl,⟨rfl,hb93⟩,⟨rfl,hb94⟩⟩⟩:=owx89
     replace p_b90:PubAt κ65 b90 (o91+sx64.2.toNat*3) [iv x71.1,iv x71.2.1,iv x71.2.2]:=p_b90
     refine xi 104 109 134 3 p1.length c3 .i64 sx64.2 eab90 i0x89 i1x89 (xp 105 (pt b90 (o91+sx64.2.toNat*3+2)) (x1 106 2 (iv x71.2.2) p_b90.at 2 rfl ?_))
     obtain ⟨x95,hx95,hr⟩:=bind_some hr
     refine xcl 98 (zjt hb79 hb88 hx95) ?_
     rintro _ _ ⟨rfl,rfl,hb96⟩
     refine ⟨Step.refl _ _,?_⟩
     obtain ⟨x98,hx98,hr⟩:=bind_some hr
     refine xcl 101 (zju hb79 hb88 hx98) ?_
     rintro _ _ ⟨rfl,rfl,hb99⟩
     refine ⟨Step.refl _ _,?_⟩
     refine xp 107 (.agg #[iv x95,iv x98,iv x71.2.2]) (zem (d:=108) (T:=109) (e:=134) (t:=zR) (pub:=true) (τ:=(κ.H.size,58005)) (len:=1) (l:=[(x95,(x98,x71.2.2))]) (parts:=#[(0,.agg #[iv x95,iv x98,iv x71.2.2])]) (cs:=[iv x95,iv x98,iv x71.2.2]) kr kr kr kr hs.1 rfl ⟨_,_,rfl,⟨_,_,rfl,⟨rfl,hb96⟩,⟨_,_,rfl,⟨rfl,hb99⟩,⟨rfl,hb94⟩⟩⟩,rfl⟩ kr fun a103 κ101 s102 f104=>?_)
     replace hs:=hs.tr0 s102
     replace f29:=f29.step s102
     replace f44:=f44.step0 s102
     replace f54:=f54.step0 s102
     refine xe ?_
     obtain ⟨x106,hx106,hr⟩:=bind_some hr
     refine zM (d:=109) (T:=109) (e:=134) (t:=zR) (pub:=true) (τ:=(κ.H.size,58004)) (bytes:=24) (a:=a55) (cp:=c56) (l:=sx64.1) (a2:=a103) (c2:=1) (l2:=[(x95,(x98,x71.2.2))]) kr kr f54 f104.sl hs.1 kr hx106 fun a109 c110 κ107 s108 f111 hw=>?_
     clear hw
     replace hs:=hs.trG (f54.own (Nat.le_refl _)) s108
     replace f29:=f29.step s108
     replace f44:=f44.step s108 (f44.ng f54 (zm (N:=κ.H.size) (M:=κ.H.size) (i:=58003) (j:=58004) kr))
     refine op 14 (sl a109 x106.length c110) (oe (zd (za ?_)))
     exact zk (eA 15 (eA 14 (eA 11 (eA 10 (eA 1 rfl))))) (J4 x106 _ _ _ _ hs f111 f29 f44 hr)
    intro hc hr
    refine ck (zd (za ?_))
    exact zk (eA 15 (eA 14 (eA 11 (eA 10 (eA 1 rfl))))) (J4 sx64.1 _ _ _ _ hs f54 f29 f44 hr)
   intro hc hr
   refine cx 6 (zh ?_)
   have hx:=hdx64 _ (sj hr).symm
   subst hx
   replace hr:=hrx64
   refine zi ?_
   exact zr (eA 14 (eA 10 rfl)) (J3 sx64.1 _ _ _ _ hs f54 f29 hr)
  obtain ⟨x112,hx112,hrx112⟩:=bind_some hr
  refine zo (F:=zdO x26) (J:=fun (sx112:LI×Int) (E':Env) (κ':K)=>∃ (a39:OA) (c40:Nat),(∃ E0,E'=upd (upd (upd (upd (E0) 1 (sl a2 p1.length c3)) 10 (sl a27 x26.length c28)) 11 (sl a39 sx112.1.length c40)) 12 (iv sx112.2))∧Step [] κ κ'∧Gr tI64 false (κ.H.size,58003) κ' 2 a39 c40 sx112.1∧I64 sx112.2∧Sl (tSl tI64) κ' a27 c28 x26) (s0:=(x36,0)) (x:=x112) kr hx112 ⟨_,_,⟨_,(eA 12 (eA 11 (eA 10 (eA 1 rfl))))⟩,hs,f35,(show I64 0 by unfold I64;omega),f29⟩ ?_
  rintro sx112 _ κ113 ⟨a39,c40,⟨E0,rfl⟩,hs,f38,hb42,f29⟩ yyx112 hr hdx112
  refine cs (csr (op 44 (iv sx112.2) (op 45 (sl a27 x26.length c28) (op 46 (iv (x26.length:Int)) (op 47 (bW (sx112.2<(x26.length:Int))) (ot ?_))))))
  refine cc (decide (sx112.2<(x26.length:Int))) hr ?_ ?_
  ·intro hc hr
   refine ckt (cs (cb 3 (csr (op 13 (iv 0) (ot (cb 4 ?_))))))
   refine zj 4 (fun Z=>∀ (y120:LI) (a122:OA) (c123:Nat) (E0:Env) (κ124:K) (hs:Step [] κ κ124) (f121:Gr tI64 false (κ.H.size,58003) κ124 2 a122 c123 y120) (f29:Sl (tSl tI64) κ124 a27 c28 x26),zhV sx112 y120=some yyx112→Z (upd (upd (upd (upd (E0) 1 (sl a2 p1.length c3)) 10 (sl a27 x26.length c28)) 11 (sl a122 y120.length c123)) 12 (iv sx112.2)) κ124) ?_ fun J5=>?_
   ·intro y120 a122 c123 E0 κ124 hs f121 f29 hr
    refine zg (zd (za (cr (op 48 (iv sx112.2) (op 49 (iv (w64 (sx112.2+1))) (op 12 (iv (w64 (sx112.2+1))) (oe ?_)))))))
    exact ze (sj hr).symm ⟨_,_,⟨_,(eA 12 (eA 11 (eA 10 (eA 1 rfl))))⟩,hs,f121,(zq _),f29⟩
   obtain ⟨x125,hx125,hrx125⟩:=bind_some hr
   refine zo (F:=zbp x26 sx112) (J:=fun (sx125:LI×Int) (E':Env) (κ':K)=>∃ (a116:OA) (c117:Nat),(∃ E0,E'=upd (upd (upd (upd (upd (E0) 1 (sl a2 p1.length c3)) 10 (sl a27 x26.length c28)) 11 (sl a116 sx125.1.length c117)) 12 (iv sx112.2)) 13 (iv sx125.2))∧Step [] κ κ'∧Gr tI64 false (κ.H.size,58003) κ' 2 a116 c117 sx125.1∧I64 sx125.2∧Sl (tSl tI64) κ' a27 c28 x26) (s0:=(sx112.1,0)) (x:=x125) kr hx125 ⟨_,_,⟨_,(eA 13 (eA 12 (eA 11 (eA 10 (eA 1 rfl)))))⟩,hs,f38,(show I64 0 by unfold I64;omega),f29⟩ ?_
   rintro sx125 _ κ126 ⟨a116,c117,⟨E0,rfl⟩,hs,f115,hb119,f29⟩ yyx125 hr hdx125
   refine cs (csr (op 50 (iv sx125.2) (op 51 (sl a27 x26.length c28) (op 52 (iv sx112.2) ?_))))
   obtain ⟨x127,hx127,hr⟩:=bind_some hr
   obtain ⟨b128,o129,eab128,i0x127,i1x127,csx127,p_b128,owx127⟩:=f29.idx hx127
   obtain ⟨a130,c131,rfl,f132⟩:=owx127
   replace p_b128:PubAt κ126 b128 (o129+sx112.2.toNat*1) [sl a130 x127.length c131]:=p_b128
   refine oi 53 135 95 1 x26.length c28 .i64 sx112.2 eab128 i0x127 i1x127 (o1 54 95 (sl a130 x127.length c131) (p_b128.at.one (o:=0) rfl) (op 55 (iv (x127.length:Int)) (op 56 (bW (sx125.2<(x127.length:Int))) (ot ?_))))
   refine cc (decide (sx125.2<(x127.length:Int))) hr ?_ ?_
   ·intro hc hr
    refine ckt (cs (cb 5 (cr (op 59 (sl a116 sx125.1.length c117) (op 60 (sl a27 x26.length c28) (op 61 (iv sx112.2) ?_))))))
    obtain ⟨x133,hx133,hr⟩:=bind_some hr
    have eqx133:x127=x133:=sj (hx127.symm.trans hx133);subst eqx133
    have hx133q:=hx133
    obtain ⟨b134,o135,eab134,i0x133,i1x133,csx133,p_b134,owx133⟩:=f29.idx hx133
    obtain ⟨a136,c137,rfl,f138⟩:=owx133
    replace p_b134:PubAt κ126 b134 (o135+sx112.2.toNat*1) [sl a136 x127.length c137]:=p_b134
    refine oi 62 135 95 1 x26.length c28 .i64 sx112.2 eab134 i0x133 i1x133 (o1 63 95 (sl a136 x127.length c137) (p_b134.at.one (o:=0) rfl) (op 64 (iv sx125.2) ?_))
    obtain ⟨x139,hx139,hr⟩:=bind_some hr
    obtain ⟨b140,o141,eab140,i0x139,i1x139,csx139,p_b140,owx139⟩:=f138.idx hx139
    obtain ⟨rfl,hb142⟩:=owx139
    replace p_b140:PubAt κ126 b140 (o141+sx125.2.toNat*1) [iv x139]:=p_b140
    refine oi 65 95 2 1 x127.length c137 .i64 sx125.2 eab140 i0x139 i1x139 (o1 66 2 (iv x139) (p_b140.at.one (o:=0) rfl) (op 67 (iv sx112.2) ?_))
    obtain ⟨x143,hx143,hr⟩:=bind_some hr
    obtain ⟨b144,eab144,i0x143,i1x143,csx143,p_b144,owx143⟩:=f115.idx hx143
    obtain ⟨rfl,hb145⟩:=owx143
    replace p_b144:At κ126 b144 (0+x139.toNat*1) [iv x143]:=p_b144
    refine oi 68 95 2 1 sx125.1.length c117 .i64 x139 (off:=0) eab144 i0x143 i1x143 ?_
    obtain ⟨x146,hx146,hr⟩:=bind_some hr
    refine zbu (T:=2) (t:=tI64) (τ:=(κ.H.size,58003)) (e:=2) (ix:=x139) (x':=sx112.2) (b:=b144) (δ:=0) (cp:=c117) (l:=sx125.1) (vs:=[iv sx112.2]) (iv sx112.2) kr kr eab144 f115 i0x143 i1x143 kr kr kr kr (fun cs hx=>by obtain ⟨x,_,ho⟩:=hx;rw [zat ((tI64.len ho).trans kr)];exact ⟨rfl,hb42⟩) fun κ147 s148 Nf115=>?_
    replace hs:=hs.trG (f115.own (Nat.le_refl _)) s148
    replace f29:=f29.step s148
    replace f115:=Nf115
    replace f115:=zeM hx146 f115
    have len_x146:=zS hx146
    refine zca (eA 13 (v:=iv sx125.2) (eA 12 (v:=iv sx112.2) (zc (t:=11) (v:=sl a116 x146.length c117) (eA 10 (v:=sl a27 x26.length c28) (eA 1 (v:=sl a2 p1.length c3) rfl)) (by rw [len_x146];kernel_rfl)))) (oe (zd (za (cr (op 57 (iv sx125.2) (op 58 (iv (w64 (sx125.2+1))) (op 13 (iv (w64 (sx125.2+1))) (oe ?_))))))))
    exact ze (sj hr).symm ⟨_,_,⟨_,(eA 13 (eA 12 (eA 11 (eA 10 (eA 1 rfl)))))⟩,hs,f115,(zq _),f29⟩
   intro hc hr
   refine cx 4 (zh ?_)
   have hx:=hdx125 _ (sj hr).symm
   subst hx
   replace hr:=hrx125
   refine zi ?_
   exact zr (eA 12 (eA 11 (eA 10 (eA 1 rfl)))) (J5 sx125.1 _ _ _ _ hs f115 f29 hr)
  intro hc hr
  refine cx 2 (zh ?_)
  have hx:=hdx112 _ (sj hr).symm
  subst hx
  replace hr:=hrx112
  refine zi ?_
  exact zr (eA 11 (eA 10 (eA 1 rfl))) (J2 sx112.1 _ _ _ _ hs f38 f29 hr)
 obtain ⟨x149,hx149,hrx149⟩:=bind_some hr
 refine zo (F:=zcn p1 p2) (J:=fun (sx149:LB×Int) (E':Env) (κ':K)=>∃ (a17:OA) (c18:Nat),(∃ E0,E'=upd (upd (upd (upd (upd (E0) 0 (iv p0)) 1 (sl a2 p1.length c3)) 2 (iv p2)) 8 (sl a17 sx149.1.length c18)) 9 (iv sx149.2))∧Step [] κ κ'∧Gr zR true (κ.H.size,58001) κ' 134 a17 c18 sx149.1∧I64 sx149.2) (s0:=([],0)) (x:=x149) kr hx149 ⟨_,_,⟨_,(eA 9 (eA 8 (eA 2 (eA 1 (eA 0 rfl)))))⟩,hs,f13,(show I64 0 by unfold I64;omega)⟩ ?_
 rintro sx149 _ κ150 ⟨a17,c18,⟨E0,rfl⟩,hs,f16,hb20⟩ yyx149 hr hdx149
 refine cs (csr (op 19 (iv sx149.2) (op 20 (sl a2 p1.length c3) (op 21 (iv (p1.length:Int)) (op 22 (bW (sx149.2<(p1.length:Int))) (ot ?_))))))
 refine cc (decide (sx149.2<(p1.length:Int))) hr ?_ ?_
 ·intro hc hr
  refine ckt ?_
  refine zl (fun Z=>∀ (y151:LB) (a153:OA) (c154:Nat) (E0:Env) (κ155:K) (hs:Step [] κ κ155) (f152:Gr zR true (κ.H.size,58001) κ155 134 a153 c154 y151),zdP sx149 y151=some yyx149→cwp Tryz.prog 113 (sub (zC Tryz.f58) [1,1,0,0,1,0,1,1]) Z (upd (upd (upd (upd (upd (E0) 0 (iv p0)) 1 (sl a2 p1.length c3)) 2 (iv p2)) 8 (sl a153 y151.length c154)) 9 (iv sx149.2)) κ155) ?_ fun J6=>?_
  ·intro y151 a153 c154 E0 κ155 hs f152 hr
   refine cr (op 23 (iv sx149.2) (op 24 (iv (w64 (sx149.2+1))) (op 9 (iv (w64 (sx149.2+1))) (oe ?_))))
   exact ze (sj hr).symm ⟨_,_,⟨_,(eA 9 (eA 8 (eA 2 (eA 1 (eA 0 rfl)))))⟩,hs,f152,(zq _)⟩
  refine cs (cb 1 (csr (op 25 (sl a2 p1.length c3) (op 26 (iv sx149.2) ?_))))
  obtain ⟨x156,hx156,hr⟩:=bind_some hr
  obtain ⟨b157,o158,eab157,i0x156,i1x156,csx156,p_b157,owx156⟩:=(f4.step hs).idx hx156
  obtain ⟨_,_,rfl,⟨rfl,hb159⟩,⟨_,_,rfl,⟨rfl,hb160⟩,⟨rfl,hb161⟩⟩⟩:=owx156
  replace p_b157:PubAt κ150 b157 (o158+sx149.2.toNat*3) [iv x156.1,iv x156.2.1,iv x156.2.2]:=p_b157
  refine oi 27 109 134 3 p1.length c3 .i64 sx149.2 eab157 i0x156 i1x156 (op 28 (pt b157 (o158+sx149.2.toNat*3+2)) (o1 29 2 (iv x156.2.2) (p_b157.at.one (o:=2) rfl) (op 30 (iv p2) (op 31 (bW (x156.2.2≥p2)) (ot ?_)))))
  refine cc (decide (x156.2.2≥p2)) hr ?_ ?_
  ·intro hc hr
   refine cr (op 32 (sl a17 sx149.1.length c18) (op 33 (sl a2 p1.length c3) (op 34 (iv sx149.2) ?_)))
   obtain ⟨x162,hx162,hr⟩:=bind_some hr
   have eqx162:x156=x162:=sj (hx156.symm.trans hx162);subst eqx162
   have hx162q:=hx162
   obtain ⟨b163,o164,eab163,i0x162,i1x162,csx162,p_b163,owx162⟩:=(f4.step hs).idx hx162
   obtain ⟨_,_,rfl,⟨rfl,hb165⟩,⟨_,_,rfl,⟨rfl,hb166⟩,⟨rfl,hb167⟩⟩⟩:=owx162
   replace p_b163:PubAt κ150 b163 (o164+sx149.2.toNat*3) [iv x156.1,iv x156.2.1,iv x156.2.2]:=p_b163
   refine oi 35 109 134 3 p1.length c3 .i64 sx149.2 eab163 i0x162 i1x162 (oN 36 134 [iv x156.1,iv x156.2.1,iv x156.2.2] (p_b163.at.part 0 3).2 (zO (d:=37) (T:=109) (e:=134) (t:=zR) (pub:=true) (τ:=(κ.H.size,58002)) (len:=1) (l:=[x156]) (parts:=#[(0,.agg #[iv x156.1,iv x156.2.1,iv x156.2.2])]) (cs:=[iv x156.1,iv x156.2.1,iv x156.2.2]) kr kr kr kr hs.1 rfl ⟨_,_,rfl,⟨_,_,rfl,⟨rfl,hb165⟩,⟨_,_,rfl,⟨rfl,hb166⟩,⟨rfl,hb167⟩⟩⟩,rfl⟩ kr fun a170 κ168 s169 f171=>?_))
   replace hs:=hs.tr0 s169
   replace f16:=f16.step0 s169
   obtain ⟨x173,hx173,hr⟩:=bind_some hr
   refine zM (d:=38) (T:=109) (e:=134) (t:=zR) (pub:=true) (τ:=(κ.H.size,58001)) (bytes:=24) (a:=a17) (cp:=c18) (l:=sx149.1) (a2:=a170) (c2:=1) (l2:=[x156]) kr kr f16 f171.sl hs.1 kr hx173 fun a176 c177 κ174 s175 f178 hw=>?_
   clear hw
   replace hs:=hs.trG (f16.own (Nat.le_refl _)) s175
   refine op 8 (sl a176 x173.length c177) (oe (zd (za ?_)))
   exact zk (eA 9 (eA 8 (eA 2 (eA 1 (eA 0 rfl))))) (J6 x173 _ _ _ _ hs f178 hr)
  intro hc hr
  refine ck (zd (za ?_))
  exact zk (eA 9 (eA 8 (eA 2 (eA 1 (eA 0 rfl))))) (J6 sx149.1 _ _ _ _ hs f16 hr)
 intro hc hr
 refine cx 0 (zh ?_)
 have hx:=hdx149 _ (sj hr).symm
 subst hx
 replace hr:=hrx149
 refine zi ?_
 exact zr (eA 8 (eA 1 (eA 0 rfl))) (J1 sx149.1 _ _ _ _ hs f16 hr)
end Go.Lf
