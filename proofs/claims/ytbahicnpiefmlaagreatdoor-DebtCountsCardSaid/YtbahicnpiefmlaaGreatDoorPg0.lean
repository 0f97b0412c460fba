/- What the package-level variables hold that the law reads, and errors.As, errors.Is answered as a whole, by contracts. Conditions: the premises of each theorem. -/
import Derived.Test.YtbahicnpiefmlaaGreatDoorPl4
import Derived.Test.YtbahicnpiefmlaaGreatDoorRows
import Derived.WalkKit
import Derived.LaidEql
import Derived.Stop.Asserts
import Derived.RowKitTokens
set_option linter.all false
open List renaming any_cons->ym, any_nil->yn
open Nat renaming beq->nn, eq_of_beq_eq_true->cP, lt_or_ge->xa
open Array renaming getElem?_eq_none->pg
open Option renaming map_eq_some_iff->tT
open Bool renaming or_false->yj
namespace Go.Proofs.YtbahicnpiefmlaaGreatDoor.Pr
open Go.RowKit Go.Extern.Stop Go.Stop Go.Extern
abbrev hd (t:Nat):Value:=.pointer (some ⟨3,t,none⟩)
theorem cJ (t:Addr) (w:World):(ReflectliteValue.unpack (.iface 157 (.pointer (some t)))).run Tryz.prog w
  = .ok (.agg #[hd 157,.pointer (some ⟨w.heap.size,0,none⟩),.int .u64 150]) (w.alloc (.cells #[.pointer (some t)] 157)):=by kernel_rfl
theorem qY (a : Addr) (w : World) : (ReflectliteValue.methodAny (ReflectliteValue.valueError "reflectlite.Value.Type" 0) (fun t _ _ _ => ReflectliteType.toType t) #[.agg #[hd 157, .pointer (some a), .int .u64 150]]).run Tryz.prog w
  = .ok (.iface 271 (.agg #[hd 157])) w:=by kernel_rfl
theorem Z7 (h : Value) (w : World) : (Go.method 492 271 (.agg #[h]) "Kind").run Tryz.prog w = .ok (339, h) w := by kernel_rfl
theorem oA (w:World):((ReflectliteType.abiMethod λt=>(λa:Nat=>Value.int IntKind.u8 (a:Int)) <$> Rtype.kind t) #[hd 157]).run Tryz.prog w = .ok (.int .u8 22) w:=by kernel_rfl
theorem nz (w:World):((ReflectliteType.abiMethod λt=>(λa:Nat=>Value.int IntKind.u8 (a:Int)) <$> Rtype.kind t) #[hd 155]).run Tryz.prog w = .ok (.int .u8 25) w:=by kernel_rfl
theorem xN (z:Sem Value) (f:TypeId->Addr->Nat->Nat->Sem Value) (v:Value) :
  ReflectliteValue.method z f #[v]=(do match <- ReflectliteValue.parts v with | none=>z | some (t,a,fl)=>f t a fl (fl % 32)):=rfl
theorem iU (a:Addr) (w:World):(ReflectliteValue.parts (.agg #[hd 157,.pointer (some a),.int .u64 150])).run Tryz.prog w = .ok (some (157,a,150)) w:=by kernel_rfl
theorem iE (a p:Addr) (W:World) (ha:W.cell? a=some (.pointer (some p))) :
  (ReflectliteValue.method (ReflectliteValue.valueError "reflectlite.Value.IsNil" 0) ReflectliteValue.isNil #[.agg #[hd 157, .pointer (some a), .int .u64 150]]).run Tryz.prog W = .ok (.bool false) W := by
 rw [xN];simp only [Sem.run_bind,iU,Result.andThen];simp [ReflectliteValue.isNil,loadVar,isAgg,underlying,Tryz.underlying157,ha,Result.andThen]
theorem Z6 (h : Value) (w : World) : (Go.method 492 271 (.agg #[h]) "Elem").run Tryz.prog w = .ok (349, .agg #[h]) w := by kernel_rfl
theorem X3 (h : Value) (w : World) : (Go.method 492 271 (.agg #[h]) "Implements").run Tryz.prog w = .ok (350, .agg #[h]) w := by kernel_rfl
theorem Xc (h : Value) (w : World) : (Go.method 492 271 (.agg #[h]) "AssignableTo").run Tryz.prog w = .ok (347, .agg #[h]) w := by kernel_rfl
theorem nv (w:World):(ReflectliteType.method ReflectliteType.elem #[.agg #[hd 157]]).run Tryz.prog w = .ok (.iface 271 (.agg #[hd 155])) w:=by kernel_rfl
theorem Ze (w : World) : (ReflectliteType.relation "Implements" ReflectliteType.implements_ #[.agg #[hd 155], .iface 271 (.agg #[hd 149])]).run Tryz.prog w = .ok (.bool true) w := by kernel_rfl
theorem nl (v:Value) (w:World):(ReflectliteType.typeOf #[.iface 155 v]).run Tryz.prog w = .ok (.iface 271 (.agg #[hd 155])) w:=by kernel_rfl
theorem nk (v:Value) (w:World):(ReflectliteType.typeOf #[.iface 360 v]).run Tryz.prog w = .ok (.iface 271 (.agg #[hd 360])) w:=by kernel_rfl
theorem bL (w : World) : (ReflectliteType.relation "AssignableTo" ReflectliteType.assignableTo #[.agg #[hd 155], .iface 271 (.agg #[hd 155])]).run Tryz.prog w = .ok (.bool true) w := by kernel_rfl
theorem bK (w : World) : (ReflectliteType.relation "AssignableTo" ReflectliteType.assignableTo #[.agg #[hd 360], .iface 271 (.agg #[hd 155])]).run Tryz.prog w = .ok (.bool false) w := by kernel_rfl
theorem mw (v:Value) (w:World):(ReflectliteValue.unpack (.iface 155 (.agg #[v]))).run Tryz.prog w
  = .ok (.agg #[hd 155,.pointer (some ⟨w.heap.size,0,none⟩),.int .u64 153]) (w.alloc (.cells #[v] 155)):=by kernel_rfl
theorem nD (w:World):(Rtype.elem? 157).run Tryz.prog w = .ok (some 155) w:=by kernel_rfl
theorem yf (p:Addr) (w:World):(ReflectliteValue.mk 155 p ReflectliteValue.flagAddr).run Tryz.prog w = .ok (.agg #[hd 155,.pointer (some p),.int .u64 409]) w:=by kernel_rfl
theorem sq (a p:Addr) (W:World) (ha:W.cell? a=some (.pointer (some p))) :
  (ReflectliteValue.method (ReflectliteValue.valueError "reflectlite.Value.Elem" 0) ReflectliteValue.elem #[.agg #[hd 157, .pointer (some a), .int .u64 150]]).run Tryz.prog W
   = .ok (.agg #[hd 155,.pointer (some p),.int .u64 409]) W:=by
 rw [xN];simp only [Sem.run_bind,iU,Result.andThen];simp [ReflectliteValue.elem,loadVar,isAgg,underlying,Tryz.underlying157,ha,Result.andThen,nD,yf]
theorem yh (v x:Value):ReflectliteValue.set #[v,x]=(do
  let (some (dst,a,fl),some (src,b,_)):=(<- ReflectliteValue.parts v,<- ReflectliteValue.parts x)
   | unsupported (.noEntry "extern/(internal/reflectlite.Value).Set.zeroValue")
  if fl / ReflectliteValue.flagAddr % 2 == 0 then unsupported (.noEntry "extern/(internal/reflectlite.Value).Set.unaddressable")
  let val <- loadVar src b
  if <- Rtype.directlyAssignable dst src then storeVar dst a val
  else if <- Rtype.implements dst src then
   if (<- Rtype.kind src) == 20 then
    match val with
    | .nilIface => unsupported (.noEntry "extern/reflectlite: a nil value of one interface type handed on as a value of another")
    | _=>storeVar dst a val
   else storeVar dst a (.iface src val)
  else panicString ("reflectlite.Set: value of type " ++ (← Rtype.spelt src) ++ " is not assignable to type " ++ (← Rtype.spelt dst))
  pure (.tuple #[])):=rfl
theorem qo (a:Addr) (w:World):(ReflectliteValue.parts (.agg #[hd 155,.pointer (some a),.int .u64 409])).run Tryz.prog w = .ok (some (155,a,409)) w:=by kernel_rfl
theorem qp (a:Addr) (w:World):(ReflectliteValue.parts (.agg #[hd 155,.pointer (some a),.int .u64 153])).run Tryz.prog w = .ok (some (155,a,153)) w:=by kernel_rfl
theorem nC (w:World):(Rtype.directlyAssignable 155 155).run Tryz.prog w = .ok true w:=by kernel_rfl
theorem sizeF (w:World):(sizeOf 155).run Tryz.prog w = .ok 1 w:=by kernel_rfl
theorem xJ (a b:Addr) (v d:Value) (W:World) (e:v.oneCell'=true) (hs:a.spot=none) (f:W.cell? b=some v) (c:b.spot=none) (h:W.cell? a=some d) (g:W.frozen? a=false) :
  (ReflectliteValue.set #[.agg #[hd 155,.pointer (some a),.int .u64 409],.agg #[hd 155,.pointer (some b),.int .u64 153]]).run Tryz.prog W
   = .ok (.tuple #[]) (W.setCell a v):=by
 rw [yh];simp only [Sem.run_bind,qo,qp,Result.andThen];obtain ⟨l,m,n⟩:=a;obtain ⟨i,j,k⟩:=b;simp only at hs c;subst hs;subst c;simp [ReflectliteValue.flagAddr,loadVar,isAgg,underlying,Tryz.underlying155,Result.andThen,nC,storeVar,Value.cells,sizeF,loadCells,loadCellsFrom,Addr.add,f];simp [storeCells,Addr.add];rw [run_store Tryz.prog W _ _ _ e];simp [h,g]
theorem tD (v:Value) (a:TypeId) (w:World):(Instr.typeAssert (.iface 360 v) a 275 true).run Tryz.prog w = .ok (.tuple #[.nilIface,.bool false]) w:=run_typeAssert_lacksB Tryz.underlying275 (by kernel_rfl) (by kernel_rfl) v a w
theorem fY (v:Value) (a:TypeId) (w:World):(Instr.typeAssert (.iface 360 v) a 278 true).run Tryz.prog w = .ok (.tuple #[.nilIface,.bool false]) w:=run_typeAssert_lacksB Tryz.underlying278 (by kernel_rfl) (by kernel_rfl) v a w
theorem cp (v:Value) (a:TypeId) (w:World):(Instr.typeAssert (.iface 360 v) a 280 true).run Tryz.prog w = .ok (.tuple #[.nilIface,.bool false]) w:=run_typeAssert_lacksB Tryz.underlying280 (by kernel_rfl) (by kernel_rfl) v a w
theorem as_nil (t:Value) (w:World):Calls Tryz.prog 139 #[.nilIface,t] w λe w'=>e = .returned (.bool false)/\w'=w:=by
 go_enter Tryz.func139,Tryz.ntmps139
 go_wp2
 go_ret
 exact ⟨rfl,rfl⟩
def w3 (w:World) (t:Addr):World:=((w.alloc (.cells #[.pointer (some t)] 157)).alloc (.cells #[hd 157,.pointer (some ⟨w.heap.size,0,none⟩),.int .u64 150] 229)).alloc (.cells #[hd 157,.pointer (some ⟨w.heap.size,0,none⟩),.int .u64 150] 229)
set_option maxHeartbeats 4000000 in
theorem as_hit (v:Value) (t:Addr) (old:Value) (w:World) (h1:v.oneCell'=true) (hg:w.cell? ⟨1,0,none⟩=some (.iface 271 (.agg #[hd 149]))) (hsp:t.spot=none) (ht0:w.cell? t=some old) (hf0:w.frozen? t=false) :
  Calls Tryz.prog 139 #[.iface 155 (.agg #[v]),.iface 157 (.pointer (some t))] w λev w'=>ev = .returned (.bool true)/\w'=((w3 w t).alloc (.cells #[v] 155)).setCell t v:=by
 have h6 := @run_callFunc_extern Tryz.prog 208 _ (λargs=>ReflectliteValue.unpack (args.getD 0 (.tuple #[]))) Tryz.func208 (by kernel_rfl) (by kernel_rfl) (by kernel_rfl) (by kernel_rfl)
 have h7 := @run_callFunc_extern Tryz.prog 209 _ (ReflectliteValue.methodAny (ReflectliteValue.valueError "reflectlite.Value.Type" 0) (fun t _ _ _ => ReflectliteType.toType t)) Tryz.func209 (by kernel_rfl) (by kernel_rfl) (by kernel_rfl) (by kernel_rfl)
 have h8 := @run_callFunc_extern Tryz.prog 210 _ (ReflectliteValue.method (ReflectliteValue.valueError "reflectlite.Value.IsNil" 0) ReflectliteValue.isNil) Tryz.func210 (by kernel_rfl) (by kernel_rfl) (by kernel_rfl) (by kernel_rfl)
 have h27 := @run_callFunc_extern Tryz.prog 339 _ (ReflectliteType.abiMethod λt=>do pure (.int .u8 (<- Rtype.kind t))) Tryz.func339 (by kernel_rfl) (by kernel_rfl) (by kernel_rfl) (by kernel_rfl)
 have h37 := @run_callFunc_extern Tryz.prog 349 _ (ReflectliteType.method ReflectliteType.elem) Tryz.func349 (by kernel_rfl) (by kernel_rfl) (by kernel_rfl) (by kernel_rfl)
 have h38 := @run_callFunc_extern Tryz.prog 350 _ (ReflectliteType.relation "Implements" ReflectliteType.implements_) Tryz.func350 (by kernel_rfl) (by kernel_rfl) (by kernel_rfl) (by kernel_rfl)
 have h10 := @run_callFunc_extern Tryz.prog 212 _ ReflectliteType.typeOf Tryz.func212 (by kernel_rfl) (by kernel_rfl) (by kernel_rfl) (by kernel_rfl)
 have h35 := @run_callFunc_extern Tryz.prog 347 _ (ReflectliteType.relation "AssignableTo" ReflectliteType.assignableTo) Tryz.func347 (by kernel_rfl) (by kernel_rfl) (by kernel_rfl) (by kernel_rfl)
 have h11 := @run_callFunc_extern Tryz.prog 255 _ (ReflectliteValue.method (ReflectliteValue.valueError "reflectlite.Value.Elem" 0) ReflectliteValue.elem) Tryz.func255 (by kernel_rfl) (by kernel_rfl) (by kernel_rfl) (by kernel_rfl)
 have h12 := @run_callFunc_extern Tryz.prog 256 _ ReflectliteValue.set Tryz.func256 (by kernel_rfl) (by kernel_rfl) (by kernel_rfl) (by kernel_rfl);have tO:=nl;have mA:=Xc;have a25:=bL;have v25:=mw;have f6:=cJ;have f7:=qY;have mK:=Z7;have mE:=Z6;have mI:=X3;have k27:=oA;have k25:=nz;have e27:=nv;have i25:=Ze;have n8:=iE ⟨w.heap.size,0,none⟩ t ((w.alloc (.cells #[.pointer (some t)] 157)).alloc (.cells #[hd 157,.pointer (some ⟨w.heap.size,0,none⟩),.int .u64 150] 229)) (by simp)
 have hlt:1<w.heap.size:=by
  rcases xa 1 w.heap.size with h | h
  ·exact h
  ·simp [World.cell?,pg h] at hg
 have hg2:((w.alloc (.cells #[.pointer (some t)] 157)).alloc (.cells #[hd 157,.pointer (some ⟨w.heap.size,0,none⟩),.int .u64 150] 229)).cell? ⟨1,0,none⟩=some (.iface 271 (.agg #[hd 149])):=by
  rw [World.cell?_alloc_lt _ _ ⟨1,0,none⟩ (by simp;omega),World.cell?_alloc_lt _ _ ⟨1,0,none⟩ hlt];exact hg
 have htl:t.block<w.heap.size:=by
  rcases xa t.block w.heap.size with h | h
  ·exact h
  ·simp [World.cell?,pg h] at ht0
 have el:=sq ⟨w.heap.size,0,none⟩ t (w3 w t) (by unfold w3;rw [World.cell?_alloc_lt _ _ ⟨w.heap.size,0,none⟩ (by simp;omega)];simp)
 have st:=xJ t ⟨w.heap.size+1+1+1,0,none⟩ v old ((w3 w t).alloc (.cells #[v] 155)) h1 hsp
  (by unfold w3;rw [World.cell?_alloc_at _ _ _ _ (by simp)];rfl) rfl
  (by unfold w3;rw [World.cell?_alloc_lt _ _ t (by simp;omega),World.cell?_alloc_lt _ _ t (by simp;omega),World.cell?_alloc_lt _ _ t (by simp;omega),World.cell?_alloc_lt _ _ t htl];exact ht0)
  (by unfold w3;rw [World.frozen?_alloc_old _ _ t (by simp;omega),World.frozen?_alloc_old _ _ t (by simp;omega),World.frozen?_alloc_old _ _ t (by simp;omega),World.frozen?_alloc_old _ _ t (Nat.ne_of_lt htl)];exact hf0)
 unfold w3 at el st ⊢
 go_enter Tryz.func139,Tryz.ntmps139
 go_wp2
 refine wp_loop_rounds 1 ?_;rw [rounds_succ]
 go_wp2
 go_ret
 exact ⟨rfl,rfl⟩
set_option maxHeartbeats 4000000 in
theorem as_plain (a:Value) (t:Addr) (w:World) (hg:w.cell? ⟨1,0,none⟩=some (.iface 271 (.agg #[hd 149]))) :
  Calls Tryz.prog 139 #[.iface 360 a,.iface 157 (.pointer (some t))] w λev w'=>ev = .returned (.bool false)/\w'=w3 w t:=by
 have h6 := @run_callFunc_extern Tryz.prog 208 _ (λargs=>ReflectliteValue.unpack (args.getD 0 (.tuple #[]))) Tryz.func208 (by kernel_rfl) (by kernel_rfl) (by kernel_rfl) (by kernel_rfl)
 have h7 := @run_callFunc_extern Tryz.prog 209 _ (ReflectliteValue.methodAny (ReflectliteValue.valueError "reflectlite.Value.Type" 0) (fun t _ _ _ => ReflectliteType.toType t)) Tryz.func209 (by kernel_rfl) (by kernel_rfl) (by kernel_rfl) (by kernel_rfl)
 have h8 := @run_callFunc_extern Tryz.prog 210 _ (ReflectliteValue.method (ReflectliteValue.valueError "reflectlite.Value.IsNil" 0) ReflectliteValue.isNil) Tryz.func210 (by kernel_rfl) (by kernel_rfl) (by kernel_rfl) (by kernel_rfl)
 have h27 := @run_callFunc_extern Tryz.prog 339 _ (ReflectliteType.abiMethod λt=>do pure (.int .u8 (<- Rtype.kind t))) Tryz.func339 (by kernel_rfl) (by kernel_rfl) (by kernel_rfl) (by kernel_rfl)
 have h37 := @run_callFunc_extern Tryz.prog 349 _ (ReflectliteType.method ReflectliteType.elem) Tryz.func349 (by kernel_rfl) (by kernel_rfl) (by kernel_rfl) (by kernel_rfl)
 have h38 := @run_callFunc_extern Tryz.prog 350 _ (ReflectliteType.relation "Implements" ReflectliteType.implements_) Tryz.func350 (by kernel_rfl) (by kernel_rfl) (by kernel_rfl) (by kernel_rfl)
 have h10 := @run_callFunc_extern Tryz.prog 212 _ ReflectliteType.typeOf Tryz.func212 (by kernel_rfl) (by kernel_rfl) (by kernel_rfl) (by kernel_rfl)
 have h35 := @run_callFunc_extern Tryz.prog 347 _ (ReflectliteType.relation "AssignableTo" ReflectliteType.assignableTo) Tryz.func347 (by kernel_rfl) (by kernel_rfl) (by kernel_rfl) (by kernel_rfl)
 have tO:=nk;have mA:=Xc;have a25:=bK;have f6:=cJ;have f7:=qY;have mK:=Z7;have mE:=Z6;have mI:=X3;have k27:=oA;have k25:=nz;have e27:=nv;have i25:=Ze;have nE:=tD;have uE:=fY;have vE:=cp;have n8:=iE ⟨w.heap.size,0,none⟩ t ((w.alloc (.cells #[.pointer (some t)] 157)).alloc (.cells #[hd 157,.pointer (some ⟨w.heap.size,0,none⟩),.int .u64 150] 229)) (by simp)
 have hlt:1<w.heap.size:=by
  rcases xa 1 w.heap.size with h | h
  ·exact h
  ·simp [World.cell?,pg h] at hg
 have hg2:((w.alloc (.cells #[.pointer (some t)] 157)).alloc (.cells #[hd 157,.pointer (some ⟨w.heap.size,0,none⟩),.int .u64 150] 229)).cell? ⟨1,0,none⟩=some (.iface 271 (.agg #[hd 149])):=by
  rw [World.cell?_alloc_lt _ _ ⟨1,0,none⟩ (by simp;omega),World.cell?_alloc_lt _ _ ⟨1,0,none⟩ hlt];exact hg
 unfold w3
 go_enter Tryz.func139,Tryz.ntmps139
 go_wp2
 refine wp_loop_rounds 1 ?_;rw [rounds_succ]
 go_wp2
 go_ret
 exact ⟨rfl,rfl⟩
theorem iF (v:Value) (w:World):(ReflectliteType.typeOf #[.iface 360 v]).run Tryz.prog w = .ok (.iface 271 (.agg #[hd 360])) w:=by kernel_rfl
def si : TypeId → Sem Value := fun t => do Rtype.noPackHeld "Comparable" t; pure (.bool (← typeInfo t).comparable)
theorem ay (w:World):((ReflectliteType.method si) #[.agg #[hd 360]]).run Tryz.prog w = .ok (.bool true) w:=by kernel_rfl
theorem Yy (v : Value) (w : World) : (Go.method 492 271 v "Comparable").run Tryz.prog w = .ok (348, v) w := by kernel_rfl
theorem qg:(Tryz.prog.info? 360).map (·.comparable)=some true:=by kernel_rfl
theorem qh:(Tryz.prog.info? 380).map (·.size)=some 1:=by kernel_rfl
theorem is_same (a:Addr) (w:World) :
  Calls Tryz.prog 140 #[.iface 360 (.pointer (some a)),.iface 360 (.pointer (some a))] w λe w'=>e = .returned (.bool true)/\w'=w:=by
 obtain ⟨i,hi,b⟩:=tT.1 qg;obtain ⟨j,f,g⟩:=tT.1 qh;have k := @run_callFunc_extern Tryz.prog 212 _ ReflectliteType.typeOf Tryz.func212 (by kernel_rfl) (by kernel_rfl) (by kernel_rfl) (by kernel_rfl);have c := @run_callFunc_extern Tryz.prog 348 _ (ReflectliteType.method si) Tryz.func348 (by kernel_rfl) (by kernel_rfl) (by kernel_rfl) (by kernel_rfl);have m:=iF;have h:=ay;have l:=Yy;have d:=run_eql_iface_ptr_same (P:=Tryz.prog) w a Tryz.underlying149 Tryz.underlying360 hi b f
 go_enter Tryz.func140,Tryz.ntmps140
 go_wp2
 refine wp_loop_rounds 1 ?_;rw [rounds_succ]
 go_wp2
 go_ret
 exact ⟨rfl,rfl⟩
end Go.Proofs.YtbahicnpiefmlaaGreatDoor.Pr
namespace Go.Proofs.YtbahicnpiefmlaaGreatDoor.Gv
open Go Pi Go.RowKit
set_option maxRecDepth 100000
instance gl:Gl where
 g n:=bif nn n 0 then some [.ifc 360 (.gk 0)] else bif nn n 1 then some [.ifc 271 (.agg [.adr 3 149])] else none
 pr f:=bif nn f 139 then some (.as [(157,155)] [360]) else bif nn f 140 then some (.is [360]) else bif nn f 273 then some .cmp else none
theorem ss:Gl.g 1=some [.ifc 271 (.agg [.adr 3 149])]:=rfl
theorem cz (t:Addr) (v a:Value) (W:World) (b:v.oneCell'=true) (hs:t.spot=none) (d:W.cell? t=some a) (c:W.frozen? t=false) :
  (Instr.storeAt 155 (.pointer (some t)) (.agg #[v])).run Tryz.prog W = .ok () (W.setCell t v):=by
 obtain ⟨e,f,g⟩:=t;simp only at hs;subst hs;simp [Instr.storeAt,Instr.sureAddr,asAddr,isAgg,underlying,Tryz.underlying155,Result.andThen,storeVar,Value.cells,Pr.sizeF,Addr.add];simp [storeCells,Addr.add];rw [run_store Tryz.prog W _ _ _ b];simp [d,c]
theorem qf (a b:ByteArray) (w:World):Calls Tryz.prog 273 #[.string a,.string b] w λe w'=>e = .returned (.int .i64 (Lib.compareBytes a.data.toList b.data.toList))/\w'=w:=by
 have c : ∀ w,Calls Tryz.prog 300 #[.string a,.string b] w λe w'=>e = .returned (.int .i64 (Lib.compareBytes a.data.toList b.data.toList))/\w'=w:=by
  intro w
  go_enter Tryz.func300,Tryz.ntmps300
  go_wp2
  rw [run_callFunc_extern Tryz.func314 (by kernel_rfl) (by kernel_rfl) (by kernel_rfl) (e:=Extern.BytealgCompare.compare) (by kernel_rfl),Lib.run_compareString];simp only [Result.andThen];rw [Oper.upon_value]
  go_wp2
  go_ret
  exact ⟨rfl,rfl⟩
 go_enter Tryz.func273,Tryz.ntmps273
 go_wp2_with (go_at_call 300;refine (c _).mono ?_;rintro e w' ⟨rfl,rfl⟩)
 go_ret
 exact ⟨rfl,rfl⟩
theorem two {M:Ap} {μ:Mu} {p q:PV} {vs:List Value} (b:RepL M μ [p,q] vs) : ∃ x y,vs=[x,y]/\Rep M μ p x/\Rep M μ q y:=by
 obtain ⟨x,l,rfl,c,a⟩:=b.cons_inv;obtain ⟨y,l,rfl,d,a⟩:=a.cons_inv;cases a.nil_inv;exact ⟨x,y,rfl,c,d⟩
theorem dB {M:Ap} {μ:Mu} {h:Hp} {w:World} (s:Sim M μ h w) {f:FuncId} {vs:List Value} {b:PV} {v:Value} (i:Rep M μ b v) (hc:Calls Tryz.prog f vs.toArray w λe w'=>e = .returned v/\w'=w) (cs:List Frame) :
  ∃ a μ' w' fr x,Sim a μ' h w'/\Grow M μ w a μ' w'/\Steps Tryz.prog (lone (Frame.enter Tryz.prog f vs.toArray .normal) cs w) (lone fr cs w')/\fr.fn=f/\Rep a μ' b x/\fr.leaving Tryz.prog w' (.returned x):=by
 obtain ⟨w',fr,rfl,c,d,g⟩:=Sk hc cs;exact ⟨M,μ,w',fr,v,s,.refl _ _ _,c,d,i,g⟩
theorem prim:L1 Tryz.prog:=by
 intro f p i args h v h' hd M μ w vs s O cs;simp only [Gl.pr,gl] at i;cases e1:nn f 139 with
 | true =>
  have:=cP e1;subst this;rw [e1] at i;cases i;rcases args with _ | ⟨e,_ | ⟨t,_ | ⟨_,_⟩⟩⟩<;>try (cases hd;done)
  replace hd:(Rh Tryz.prog [(157,155)] [360] e t h).map (λ(b,h)=>(PV.bool b,h))=some (v,h'):=hd;obtain ⟨x,y,rfl,q,E⟩:=two O;obtain ⟨⟨b,h1⟩,d,e0⟩:=AA hd;clear hd;have hd:=d;clear d;cases e0;have hg:=s.mem _ _ (Gl.handle s.glb ss);unfold Rh at hd;split at hd
  ·cases hd;cases q;exact dB s (.bool _ _) (Pr.as_nil y w) cs
  ·rename_i u a;split at hd
   ·rename_i pt id off;split at hd
    ·rename_i T r
     obtain ⟨rfl,rfl⟩:pt=157/\T=155:=by
      unfold Ri at r;cases e3:nn 157 pt with
      | true=>rw [e3] at r;cases r;exact ⟨(cP e3).symm,rfl⟩
      | false=>rw [e3] at r;cases r
     cases q with
     | ifc _ _ _ xv hxv =>
      cases E with
      | ifc _ _ _ yv hyv =>
       cases I:nn u 155 with
       | true =>
        have:=cP I;subst this;rw [I] at hd;simp only [cond_true] at hd;split at hd
        ·rename_i c h2 o;cases hd;obtain ⟨z,rfl,F,hz⟩:=SS hxv;obtain ⟨k,to,U,rfl,B,S⟩:=SW s o hyv;obtain ⟨w',fr,rfl,W,X,Y⟩:=Sk (Pr.as_hit z ⟨k,to,none⟩ U w F hg.2 rfl B S) cs;obtain ⟨M1,s1,K⟩:=s.junk #[.pointer (some ⟨k,to,none⟩)] 157;obtain ⟨M2,s2,L⟩:=s1.junk #[Pr.hd 157,.pointer (some ⟨w.heap.size,0,none⟩),.int .u64 150] 229;obtain ⟨M3,Z,N⟩:=s2.junk #[Pr.hd 157,.pointer (some ⟨w.heap.size,0,none⟩),.int .u64 150] 229;obtain ⟨M4,s4,g4⟩:=Z.junk #[z] 155;have g:=(K.trans L).trans (N.trans g4);have hS:=P7 (P:=Tryz.prog) s4 (hyv.mono g.m g.u) (hxv.mono g.m g.u) o;obtain ⟨b',o',G,J,l,A⟩:=SW s4 o (hyv.mono g.m g.u);cases J;have D:=cz ⟨k,to,none⟩ z G _ F rfl l A;obtain ⟨M5,μ5,w5,j,s5,g5⟩:=hS;simp only [Sem.run_bind,D,Result.andThen,Sem.run_pure,Result.ok.injEq,true_and] at j;subst j;exact ⟨M5,μ5,_,fr,.bool true,s5,g.trans g5,W,X,.bool _ _,Y⟩
        ·cases hd
       | false =>
        rw [I] at hd;simp only [cond_false] at hd;replace hd:=Ac hd;obtain ⟨C,hd⟩:=hd;cases hd
        have hu:u=360:=by
         simp only [ym,yn,yj] at C;exact cP C
        subst hu;obtain ⟨k,rfl⟩ : ∃ k,yv = .pointer (some k):=by cases hyv;exact ⟨_,rfl⟩
        obtain ⟨w',fr,rfl,W,X,Y⟩:=Sk (Pr.as_plain xv k w hg.2) cs;obtain ⟨M1,s1,K⟩:=s.junk #[.pointer (some k)] 157;obtain ⟨M2,s2,L⟩:=s1.junk #[Pr.hd 157,.pointer (some ⟨w.heap.size,0,none⟩),.int .u64 150] 229;obtain ⟨M3,Z,N⟩:=s2.junk #[Pr.hd 157,.pointer (some ⟨w.heap.size,0,none⟩),.int .u64 150] 229;exact ⟨M3,μ,_,fr,.bool false,Z,(K.trans L).trans N,W,X,.bool _ _,Y⟩
    ·cases hd
   ·cases hd
  ·cases hd
 | false =>
  rw [e1] at i;simp only [cond_false] at i;cases e2:nn f 140 with
  | true =>
   have:=cP e2;subst this;rw [e2] at i;cases i;rcases args with _ | ⟨e,_ | ⟨t,_ | ⟨_,_⟩⟩⟩<;>try (cases hd;done)
   replace hd:(SQ [360] e t).map (λb=>(PV.bool b,h))=some (v,h'):=hd;obtain ⟨x,y,rfl,q,E⟩:=two O;obtain ⟨b,d,hh⟩:=AA hd;clear hd;have hd:=d;clear d;cases hh;unfold SQ at hd;split at hd<;>try (cases hd;done)
   rename_i u a v b;replace hd:=Ac hd;obtain ⟨hc,hd⟩:=hd;cases hd;simp only [Bool.and_eq_true,ym,yn,yj] at hc;obtain ⟨⟨J,e6⟩,e7⟩:=hc;cases cP J;cases cP e6;cases cP e7;cases q with
   | ifc _ _ _ xv hxv=>cases E with
    | ifc _ _ _ yv hyv=>cases hxv with
     | gk _ _ t1 a1 k1=>cases hyv with
      | gk _ _ t2 a2 k2 =>
       rw [k1] at k2;cases k2;exact dB s (.bool _ _) (Pr.is_same a1 w) cs
  | false =>
   rw [e2] at i;simp only [cond_false] at i;cases e3:nn f 273 with
   | true =>
    have:=cP e3;subst this;rw [e3] at i;cases i;rcases args with _ | ⟨e,_ | ⟨t,_ | ⟨_,_⟩⟩⟩<;>try (cases hd;done)
    replace hd:(SP e t).map (λn=>(PV.int .i64 n,h))=some (v,h'):=hd;obtain ⟨n,d,hh⟩:=AA hd;clear hd;cases hh;unfold SP at d;split at d<;>try (cases d;done)
    cases d;obtain ⟨x,y,rfl,q,E⟩:=two O;cases q with
    | str _ x=>cases E with
     | str _ y=>exact dB s (by rw [Hh];exact .int _ _ _) (qf x y w) cs
   | false=>rw [e3] at i;cases i
theorem glw {w:World} {a:Addr} (f:w.cell? ⟨0,0,none⟩=some (.iface 360 (.pointer (some a)))) (h:w.cell? ⟨1,0,none⟩=some (.iface 271 (.agg #[.pointer (some ⟨3,149,none⟩)]))):GlW w:=by
 refine S3 λg cs e j c d => ?_;simp only [Gl.g,gl] at e;cases e1:nn g 0 with
 | true =>
  have:=cP e1;subst this;rw [e1] at e;cases e
  match j,d with
  | 0,d =>
   cases d;exact ⟨_,f,rfl,.ifc _ _ _ _ (.gk _ _ _ a (by unfold D1;simpa using f))⟩
 | false =>
  rw [e1] at e;simp only [cond_false] at e;cases e2:nn g 1 with
  | true =>
   have:=cP e2;subst this;rw [e2] at e;cases e
   match j,d with
   | 0,d =>
    cases d;refine ⟨_,h,rfl,.ifc _ _ _ _ (.agg _ _ _ rfl ?_ ?_)⟩
    ·intro i v b
     match i,b with
     | 0,b=>cases b;rfl
    ·intro i c v hc b
     match i,hc,b with
     | 0,hc,b=>cases hc;cases b;exact .adr _ _ _
  | false=>rw [e2] at e;cases e
end Go.Proofs.YtbahicnpiefmlaaGreatDoor.Gv
