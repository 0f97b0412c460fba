/- What the package-level variables hold that the law reads, and errors.As, errors.Is answered as a whole, by contracts. Conditions: the premises of each theorem. -/
import Derived.Test.YtfipnhjfbebeiaaGreatDoorPp2
import Derived.Test.YtfipnhjfbebeiaaGreatDoorRows
import Derived.WalkKit
import Derived.LaidEql
import Derived.Stop.Asserts
import Derived.RowKitTokens
set_option linter.all false
open List renaming any_cons->FF, any_nil->Tf
open Nat renaming beq->sa, eq_of_beq_eq_true->en, lt_or_ge->xr
open Array renaming getElem?_eq_none->sp
open Option renaming map_eq_some_iff->xl
open Bool renaming or_false->zr
namespace Go.Proofs.YtfipnhjfbebeiaaGreatDoor.Pr
open Go.RowKit Go.Extern.Stop Go.Stop Go.Extern
abbrev hd (t:Nat):Value:=.pointer (some ⟨2,t,none⟩)
theorem dx (t:Addr) (w:World):(ReflectliteValue.unpack (.iface 104 (.pointer (some t)))).run Tryz.prog w
  = .ok (.agg #[hd 104,.pointer (some ⟨w.heap.size,0,none⟩),.int .u64 150]) (w.alloc (.cells #[.pointer (some t)] 104)):=by kernel_rfl
theorem sR (a : Addr) (w : World) : (ReflectliteValue.methodAny (ReflectliteValue.valueError "reflectlite.Value.Type" 0) (fun t _ _ _ => ReflectliteType.toType t) #[.agg #[hd 104, .pointer (some a), .int .u64 150]]).run Tryz.prog w
  = .ok (.iface 178 (.agg #[hd 104])) w:=by kernel_rfl
theorem az (h : Value) (w : World) : (Go.method 398 178 (.agg #[h]) "Kind").run Tryz.prog w = .ok (221, h) w := by kernel_rfl
theorem qT (w:World):((ReflectliteType.abiMethod λt=>(λa:Nat=>Value.int IntKind.u8 (a:Int)) <$> Rtype.kind t) #[hd 104]).run Tryz.prog w = .ok (.int .u8 22) w:=by kernel_rfl
theorem qR (w:World):((ReflectliteType.abiMethod λt=>(λa:Nat=>Value.int IntKind.u8 (a:Int)) <$> Rtype.kind t) #[hd 102]).run Tryz.prog w = .ok (.int .u8 25) w:=by kernel_rfl
theorem zK (z:Sem Value) (f:TypeId->Addr->Nat->Nat->Sem Value) (v:Value) :
  ReflectliteValue.method z f #[v]=(do match <- ReflectliteValue.parts v with | none=>z | some (t,a,fl)=>f t a fl (fl % 32)):=rfl
theorem jz (a:Addr) (w:World):(ReflectliteValue.parts (.agg #[hd 104,.pointer (some a),.int .u64 150])).run Tryz.prog w = .ok (some (104,a,150)) w:=by kernel_rfl
theorem ji (a p:Addr) (W:World) (ha:W.cell? a=some (.pointer (some p))) :
  (ReflectliteValue.method (ReflectliteValue.valueError "reflectlite.Value.IsNil" 0) ReflectliteValue.isNil #[.agg #[hd 104, .pointer (some a), .int .u64 150]]).run Tryz.prog W = .ok (.bool false) W := by
 rw [zK];simp only [Sem.run_bind,jz,Result.andThen];simp [ReflectliteValue.isNil,loadVar,isAgg,underlying,Tryz.underlying104,ha,Result.andThen]
theorem ay (h : Value) (w : World) : (Go.method 398 178 (.agg #[h]) "Elem").run Tryz.prog w = .ok (231, .agg #[h]) w := by kernel_rfl
theorem YY (h : Value) (w : World) : (Go.method 398 178 (.agg #[h]) "Implements").run Tryz.prog w = .ok (232, .agg #[h]) w := by kernel_rfl
theorem X8 (h : Value) (w : World) : (Go.method 398 178 (.agg #[h]) "AssignableTo").run Tryz.prog w = .ok (229, .agg #[h]) w := by kernel_rfl
theorem qP (w:World):(ReflectliteType.method ReflectliteType.elem #[.agg #[hd 104]]).run Tryz.prog w = .ok (.iface 178 (.agg #[hd 102])) w:=by kernel_rfl
theorem aN (w : World) : (ReflectliteType.relation "Implements" ReflectliteType.implements_ #[.agg #[hd 102], .iface 178 (.agg #[hd 96])]).run Tryz.prog w = .ok (.bool true) w := by kernel_rfl
theorem qH (v:Value) (w:World):(ReflectliteType.typeOf #[.iface 102 v]).run Tryz.prog w = .ok (.iface 178 (.agg #[hd 102])) w:=by kernel_rfl
theorem qG (v:Value) (w:World):(ReflectliteType.typeOf #[.iface 264 v]).run Tryz.prog w = .ok (.iface 178 (.agg #[hd 264])) w:=by kernel_rfl
theorem cm (w : World) : (ReflectliteType.relation "AssignableTo" ReflectliteType.assignableTo #[.agg #[hd 102], .iface 178 (.agg #[hd 102])]).run Tryz.prog w = .ok (.bool true) w := by kernel_rfl
theorem ck (w : World) : (ReflectliteType.relation "AssignableTo" ReflectliteType.assignableTo #[.agg #[hd 264], .iface 178 (.agg #[hd 102])]).run Tryz.prog w = .ok (.bool false) w := by kernel_rfl
theorem o7 (v:Value) (w:World):(ReflectliteValue.unpack (.iface 102 (.agg #[v]))).run Tryz.prog w
  = .ok (.agg #[hd 102,.pointer (some ⟨w.heap.size,0,none⟩),.int .u64 153]) (w.alloc (.cells #[v] 102)):=by kernel_rfl
theorem pM (w:World):(Rtype.elem? 104).run Tryz.prog w = .ok (some 102) w:=by kernel_rfl
theorem mkF (p:Addr) (w:World):(ReflectliteValue.mk 102 p ReflectliteValue.flagAddr).run Tryz.prog w = .ok (.agg #[hd 102,.pointer (some p),.int .u64 409]) w:=by kernel_rfl
theorem uR (a p:Addr) (W:World) (ha:W.cell? a=some (.pointer (some p))) :
  (ReflectliteValue.method (ReflectliteValue.valueError "reflectlite.Value.Elem" 0) ReflectliteValue.elem #[.agg #[hd 104, .pointer (some a), .int .u64 150]]).run Tryz.prog W
   = .ok (.agg #[hd 102,.pointer (some p),.int .u64 409]) W:=by
 rw [zK];simp only [Sem.run_bind,jz,Result.andThen];simp [ReflectliteValue.elem,loadVar,isAgg,underlying,Tryz.underlying104,ha,Result.andThen,pM,mkF]
theorem rls (v x:Value):ReflectliteValue.set #[v,x]=(do
  let (some (dst,a,fl),some (src,b,_)):=(<- ReflectliteValue.parts v,<- ReflectliteValue.parts x)
   | unsupported (.noEntry "extern/(internal/reflectlite.Value).Set.zeroValue")
  if fl / ReflectliteValue.flagAddr % 2 == 0 then unsupported (.noEntry "extern/(internal/reflectlite.Value).Set.unaddressable")
  let val <- loadVar src b
  if <- Rtype.directlyAssignable dst src then storeVar dst a val
  else if <- Rtype.implements dst src then
   if (<- Rtype.kind src) == 20 then
    match val with
    | .nilIface => unsupported (.noEntry "extern/reflectlite: a nil value of one interface type handed on as a value of another")
    | _=>storeVar dst a val
   else storeVar dst a (.iface src val)
  else panicString ("reflectlite.Set: value of type " ++ (← Rtype.spelt src) ++ " is not assignable to type " ++ (← Rtype.spelt dst))
  pure (.tuple #[])):=rfl
theorem su (a:Addr) (w:World):(ReflectliteValue.parts (.agg #[hd 102,.pointer (some a),.int .u64 409])).run Tryz.prog w = .ok (some (102,a,409)) w:=by kernel_rfl
theorem sv (a:Addr) (w:World):(ReflectliteValue.parts (.agg #[hd 102,.pointer (some a),.int .u64 153])).run Tryz.prog w = .ok (some (102,a,153)) w:=by kernel_rfl
theorem pK (w:World):(Rtype.directlyAssignable 102 102).run Tryz.prog w = .ok true w:=by kernel_rfl
theorem sizeF (w:World):(sizeOf 102).run Tryz.prog w = .ok 1 w:=by kernel_rfl
theorem zG (a b:Addr) (v d:Value) (W:World) (e:v.oneCell'=true) (hs:a.spot=none) (f:W.cell? b=some v) (c:b.spot=none) (h:W.cell? a=some d) (g:W.frozen? a=false) :
  (ReflectliteValue.set #[.agg #[hd 102,.pointer (some a),.int .u64 409],.agg #[hd 102,.pointer (some b),.int .u64 153]]).run Tryz.prog W
   = .ok (.tuple #[]) (W.setCell a v):=by
 rw [rls];simp only [Sem.run_bind,su,sv,Result.andThen];obtain ⟨l,m,n⟩:=a;obtain ⟨i,j,k⟩:=b;simp only at hs c;subst hs;subst c;simp [ReflectliteValue.flagAddr,loadVar,isAgg,underlying,Tryz.underlying102,Result.andThen,pK,storeVar,Value.cells,sizeF,loadCells,loadCellsFrom,Addr.add,f];simp [storeCells,Addr.add];rw [run_store Tryz.prog W _ _ _ e];simp [h,g]
theorem ua (v:Value) (a:TypeId) (w:World):(Instr.typeAssert (.iface 264 v) a 182 true).run Tryz.prog w = .ok (.tuple #[.nilIface,.bool false]) w:=run_typeAssert_lacksB Tryz.underlying182 (by kernel_rfl) (by kernel_rfl) v a w
theorem iD (v:Value) (a:TypeId) (w:World):(Instr.typeAssert (.iface 264 v) a 185 true).run Tryz.prog w = .ok (.tuple #[.nilIface,.bool false]) w:=run_typeAssert_lacksB Tryz.underlying185 (by kernel_rfl) (by kernel_rfl) v a w
theorem eU (v:Value) (a:TypeId) (w:World):(Instr.typeAssert (.iface 264 v) a 187 true).run Tryz.prog w = .ok (.tuple #[.nilIface,.bool false]) w:=run_typeAssert_lacksB Tryz.underlying187 (by kernel_rfl) (by kernel_rfl) v a w
theorem as_nil (t:Value) (w:World):Calls Tryz.prog 58 #[.nilIface,t] w λe w'=>e = .returned (.bool false)/\w'=w:=by
 go_enter Tryz.func58,Tryz.ntmps58
 go_wp2
 go_ret
 exact ⟨rfl,rfl⟩
def w3 (w:World) (t:Addr):World:=((w.alloc (.cells #[.pointer (some t)] 104)).alloc (.cells #[hd 104,.pointer (some ⟨w.heap.size,0,none⟩),.int .u64 150] 143)).alloc (.cells #[hd 104,.pointer (some ⟨w.heap.size,0,none⟩),.int .u64 150] 143)
set_option maxHeartbeats 4000000 in
theorem as_hit (v:Value) (t:Addr) (old:Value) (w:World) (h1:v.oneCell'=true) (hg:w.cell? ⟨1,0,none⟩=some (.iface 178 (.agg #[hd 96]))) (hsp:t.spot=none) (ht0:w.cell? t=some old) (hf0:w.frozen? t=false) :
  Calls Tryz.prog 58 #[.iface 102 (.agg #[v]),.iface 104 (.pointer (some t))] w λev w'=>ev = .returned (.bool true)/\w'=((w3 w t).alloc (.cells #[v] 102)).setCell t v:=by
 have h6 := @run_callFunc_extern Tryz.prog 98 _ (λargs=>ReflectliteValue.unpack (args.getD 0 (.tuple #[]))) Tryz.func98 (by kernel_rfl) (by kernel_rfl) (by kernel_rfl) (by kernel_rfl)
 have h7 := @run_callFunc_extern Tryz.prog 99 _ (ReflectliteValue.methodAny (ReflectliteValue.valueError "reflectlite.Value.Type" 0) (fun t _ _ _ => ReflectliteType.toType t)) Tryz.func99 (by kernel_rfl) (by kernel_rfl) (by kernel_rfl) (by kernel_rfl)
 have h8 := @run_callFunc_extern Tryz.prog 100 _ (ReflectliteValue.method (ReflectliteValue.valueError "reflectlite.Value.IsNil" 0) ReflectliteValue.isNil) Tryz.func100 (by kernel_rfl) (by kernel_rfl) (by kernel_rfl) (by kernel_rfl)
 have h27 := @run_callFunc_extern Tryz.prog 221 _ (ReflectliteType.abiMethod λt=>do pure (.int .u8 (<- Rtype.kind t))) Tryz.func221 (by kernel_rfl) (by kernel_rfl) (by kernel_rfl) (by kernel_rfl)
 have h37 := @run_callFunc_extern Tryz.prog 231 _ (ReflectliteType.method ReflectliteType.elem) Tryz.func231 (by kernel_rfl) (by kernel_rfl) (by kernel_rfl) (by kernel_rfl)
 have h38 := @run_callFunc_extern Tryz.prog 232 _ (ReflectliteType.relation "Implements" ReflectliteType.implements_) Tryz.func232 (by kernel_rfl) (by kernel_rfl) (by kernel_rfl) (by kernel_rfl)
 have h10 := @run_callFunc_extern Tryz.prog 102 _ ReflectliteType.typeOf Tryz.func102 (by kernel_rfl) (by kernel_rfl) (by kernel_rfl) (by kernel_rfl)
 have h35 := @run_callFunc_extern Tryz.prog 229 _ (ReflectliteType.relation "AssignableTo" ReflectliteType.assignableTo) Tryz.func229 (by kernel_rfl) (by kernel_rfl) (by kernel_rfl) (by kernel_rfl)
 have h11 := @run_callFunc_extern Tryz.prog 137 _ (ReflectliteValue.method (ReflectliteValue.valueError "reflectlite.Value.Elem" 0) ReflectliteValue.elem) Tryz.func137 (by kernel_rfl) (by kernel_rfl) (by kernel_rfl) (by kernel_rfl)
 have h12 := @run_callFunc_extern Tryz.prog 138 _ ReflectliteValue.set Tryz.func138 (by kernel_rfl) (by kernel_rfl) (by kernel_rfl) (by kernel_rfl);have tO:=qH;have mA:=X8;have a25:=cm;have v25:=o7;have f6:=dx;have f7:=sR;have mK:=az;have mE:=ay;have mI:=YY;have k27:=qT;have k25:=qR;have e27:=qP;have i25:=aN;have n8:=ji ⟨w.heap.size,0,none⟩ t ((w.alloc (.cells #[.pointer (some t)] 104)).alloc (.cells #[hd 104,.pointer (some ⟨w.heap.size,0,none⟩),.int .u64 150] 143)) (by simp)
 have hlt:1<w.heap.size:=by
  rcases xr 1 w.heap.size with h | h
  ·exact h
  ·simp [World.cell?,sp h] at hg
 have hg2:((w.alloc (.cells #[.pointer (some t)] 104)).alloc (.cells #[hd 104,.pointer (some ⟨w.heap.size,0,none⟩),.int .u64 150] 143)).cell? ⟨1,0,none⟩=some (.iface 178 (.agg #[hd 96])):=by
  rw [World.cell?_alloc_lt _ _ ⟨1,0,none⟩ (by simp;omega),World.cell?_alloc_lt _ _ ⟨1,0,none⟩ hlt];exact hg
 have htl:t.block<w.heap.size:=by
  rcases xr t.block w.heap.size with h | h
  ·exact h
  ·simp [World.cell?,sp h] at ht0
 have el:=uR ⟨w.heap.size,0,none⟩ t (w3 w t) (by unfold w3;rw [World.cell?_alloc_lt _ _ ⟨w.heap.size,0,none⟩ (by simp;omega)];simp)
 have st:=zG t ⟨w.heap.size+1+1+1,0,none⟩ v old ((w3 w t).alloc (.cells #[v] 102)) h1 hsp
  (by unfold w3;rw [World.cell?_alloc_at _ _ _ _ (by simp)];rfl) rfl
  (by unfold w3;rw [World.cell?_alloc_lt _ _ t (by simp;omega),World.cell?_alloc_lt _ _ t (by simp;omega),World.cell?_alloc_lt _ _ t (by simp;omega),World.cell?_alloc_lt _ _ t htl];exact ht0)
  (by unfold w3;rw [World.frozen?_alloc_old _ _ t (by simp;omega),World.frozen?_alloc_old _ _ t (by simp;omega),World.frozen?_alloc_old _ _ t (by simp;omega),World.frozen?_alloc_old _ _ t (Nat.ne_of_lt htl)];exact hf0)
 unfold w3 at el st ⊢
 go_enter Tryz.func58,Tryz.ntmps58
 go_wp2
 refine wp_loop_rounds 1 ?_;rw [rounds_succ]
 go_wp2
 go_ret
 exact ⟨rfl,rfl⟩
set_option maxHeartbeats 4000000 in
theorem as_plain (a:Value) (t:Addr) (w:World) (hg:w.cell? ⟨1,0,none⟩=some (.iface 178 (.agg #[hd 96]))) :
  Calls Tryz.prog 58 #[.iface 264 a,.iface 104 (.pointer (some t))] w λev w'=>ev = .returned (.bool false)/\w'=w3 w t:=by
 have h6 := @run_callFunc_extern Tryz.prog 98 _ (λargs=>ReflectliteValue.unpack (args.getD 0 (.tuple #[]))) Tryz.func98 (by kernel_rfl) (by kernel_rfl) (by kernel_rfl) (by kernel_rfl)
 have h7 := @run_callFunc_extern Tryz.prog 99 _ (ReflectliteValue.methodAny (ReflectliteValue.valueError "reflectlite.Value.Type" 0) (fun t _ _ _ => ReflectliteType.toType t)) Tryz.func99 (by kernel_rfl) (by kernel_rfl) (by kernel_rfl) (by kernel_rfl)
 have h8 := @run_callFunc_extern Tryz.prog 100 _ (ReflectliteValue.method (ReflectliteValue.valueError "reflectlite.Value.IsNil" 0) ReflectliteValue.isNil) Tryz.func100 (by kernel_rfl) (by kernel_rfl) (by kernel_rfl) (by kernel_rfl)
 have h27 := @run_callFunc_extern Tryz.prog 221 _ (ReflectliteType.abiMethod λt=>do pure (.int .u8 (<- Rtype.kind t))) Tryz.func221 (by kernel_rfl) (by kernel_rfl) (by kernel_rfl) (by kernel_rfl)
 have h37 := @run_callFunc_extern Tryz.prog 231 _ (ReflectliteType.method ReflectliteType.elem) Tryz.func231 (by kernel_rfl) (by kernel_rfl) (by kernel_rfl) (by kernel_rfl)
 have h38 := @run_callFunc_extern Tryz.prog 232 _ (ReflectliteType.relation "Implements" ReflectliteType.implements_) Tryz.func232 (by kernel_rfl) (by kernel_rfl) (by kernel_rfl) (by kernel_rfl)
 have h10 := @run_callFunc_extern Tryz.prog 102 _ ReflectliteType.typeOf Tryz.func102 (by kernel_rfl) (by kernel_rfl) (by kernel_rfl) (by kernel_rfl)
 have h35 := @run_callFunc_extern Tryz.prog 229 _ (ReflectliteType.relation "AssignableTo" ReflectliteType.assignableTo) Tryz.func229 (by kernel_rfl) (by kernel_rfl) (by kernel_rfl) (by kernel_rfl)
 have tO:=qG;have mA:=X8;have a25:=ck;have f6:=dx;have f7:=sR;have mK:=az;have mE:=ay;have mI:=YY;have k27:=qT;have k25:=qR;have e27:=qP;have i25:=aN;have nE:=ua;have uE:=iD;have vE:=eU;have n8:=ji ⟨w.heap.size,0,none⟩ t ((w.alloc (.cells #[.pointer (some t)] 104)).alloc (.cells #[hd 104,.pointer (some ⟨w.heap.size,0,none⟩),.int .u64 150] 143)) (by simp)
 have hlt:1<w.heap.size:=by
  rcases xr 1 w.heap.size with h | h
  ·exact h
  ·simp [World.cell?,sp h] at hg
 have hg2:((w.alloc (.cells #[.pointer (some t)] 104)).alloc (.cells #[hd 104,.pointer (some ⟨w.heap.size,0,none⟩),.int .u64 150] 143)).cell? ⟨1,0,none⟩=some (.iface 178 (.agg #[hd 96])):=by
  rw [World.cell?_alloc_lt _ _ ⟨1,0,none⟩ (by simp;omega),World.cell?_alloc_lt _ _ ⟨1,0,none⟩ hlt];exact hg
 unfold w3
 go_enter Tryz.func58,Tryz.ntmps58
 go_wp2
 refine wp_loop_rounds 1 ?_;rw [rounds_succ]
 go_wp2
 go_ret
 exact ⟨rfl,rfl⟩
theorem jj (v:Value) (w:World):(ReflectliteType.typeOf #[.iface 264 v]).run Tryz.prog w = .ok (.iface 178 (.agg #[hd 264])) w:=by kernel_rfl
def uO : TypeId → Sem Value := fun t => do Rtype.noPackHeld "Comparable" t; pure (.bool (← typeInfo t).comparable)
theorem cS (w:World):((ReflectliteType.method uO) #[.agg #[hd 264]]).run Tryz.prog w = .ok (.bool true) w:=by kernel_rfl
theorem Zb (v : Value) (w : World) : (Go.method 398 178 v "Comparable").run Tryz.prog w = .ok (230, v) w := by kernel_rfl
theorem sY:(Tryz.prog.info? 264).map (·.comparable)=some true:=by kernel_rfl
theorem sZ:(Tryz.prog.info? 286).map (·.size)=some 1:=by kernel_rfl
theorem is_same (a:Addr) (w:World) :
  Calls Tryz.prog 59 #[.iface 264 (.pointer (some a)),.iface 264 (.pointer (some a))] w λe w'=>e = .returned (.bool true)/\w'=w:=by
 obtain ⟨i,hi,b⟩:=xl.1 sY;obtain ⟨j,f,g⟩:=xl.1 sZ;have k := @run_callFunc_extern Tryz.prog 102 _ ReflectliteType.typeOf Tryz.func102 (by kernel_rfl) (by kernel_rfl) (by kernel_rfl) (by kernel_rfl);have c := @run_callFunc_extern Tryz.prog 230 _ (ReflectliteType.method uO) Tryz.func230 (by kernel_rfl) (by kernel_rfl) (by kernel_rfl) (by kernel_rfl);have m:=jj;have h:=cS;have l:=Zb;have d:=run_eql_iface_ptr_same (P:=Tryz.prog) w a Tryz.underlying96 Tryz.underlying264 hi b f
 go_enter Tryz.func59,Tryz.ntmps59
 go_wp2
 refine wp_loop_rounds 1 ?_;rw [rounds_succ]
 go_wp2
 go_ret
 exact ⟨rfl,rfl⟩
end Go.Proofs.YtfipnhjfbebeiaaGreatDoor.Pr
namespace Go.Proofs.YtfipnhjfbebeiaaGreatDoor.Gv
open Go Pi Go.RowKit
set_option maxRecDepth 100000
instance gl:Gl where
 g n:=bif sa n 0 then some [.ifc 264 (.gk 0)] else bif sa n 1 then some [.ifc 178 (.agg [.adr 2 96])] else none
 pr f:=bif sa f 58 then some (.as [(104,102)] [264]) else bif sa f 59 then some (.is [264]) else none
theorem uS:Gl.g 1=some [.ifc 178 (.agg [.adr 2 96])]:=rfl
theorem ei (t:Addr) (v a:Value) (W:World) (b:v.oneCell'=true) (hs:t.spot=none) (d:W.cell? t=some a) (c:W.frozen? t=false) :
  (Instr.storeAt 102 (.pointer (some t)) (.agg #[v])).run Tryz.prog W = .ok () (W.setCell t v):=by
 obtain ⟨e,f,g⟩:=t;simp only at hs;subst hs;simp [Instr.storeAt,Instr.sureAddr,asAddr,isAgg,underlying,Tryz.underlying102,Result.andThen,storeVar,Value.cells,Pr.sizeF,Addr.add];simp [storeCells,Addr.add];rw [run_store Tryz.prog W _ _ _ b];simp [d,c]
theorem two {M:Ap} {μ:Mu} {p q:PV} {vs:List Value} (b:RepL M μ [p,q] vs) : ∃ x y,vs=[x,y]/\Rep M μ p x/\Rep M μ q y:=by
 obtain ⟨x,l,rfl,c,a⟩:=b.cons_inv;obtain ⟨y,l,rfl,d,a⟩:=a.cons_inv;cases a.nil_inv;exact ⟨x,y,rfl,c,d⟩
theorem iL {M:Ap} {μ:Mu} {h:Hp} {w:World} (s:Sim M μ h w) {f:FuncId} {vs:List Value} {b:PV} {v:Value} (i:Rep M μ b v) (hc:Calls Tryz.prog f vs.toArray w λe w'=>e = .returned v/\w'=w) (cs:List Frame) :
  ∃ a μ' w' fr x,Sim a μ' h w'/\Grow M μ w a μ' w'/\Steps Tryz.prog (lone (Frame.enter Tryz.prog f vs.toArray .normal) cs w) (lone fr cs w')/\fr.fn=f/\Rep a μ' b x/\fr.leaving Tryz.prog w' (.returned x):=by
 obtain ⟨w',fr,rfl,c,d,g⟩:=Sl hc cs;exact ⟨M,μ,w',fr,v,s,.refl _ _ _,c,d,i,g⟩
theorem prim:L1 Tryz.prog:=by
 intro f p i args h v h' hd M μ w vs s Y cs;simp only [Gl.pr,gl] at i;cases e1:sa f 58 with
 | true =>
  have:=en e1;subst this;rw [e1] at i;cases i;rcases args with _ | ⟨e,_ | ⟨t,_ | ⟨_,_⟩⟩⟩<;>try (cases hd;done)
  replace hd:(Ri Tryz.prog [(104,102)] [264] e t h).map (λ(b,h)=>(PV.bool b,h))=some (v,h'):=hd;obtain ⟨x,y,rfl,E,K⟩:=two Y;obtain ⟨⟨b,h1⟩,d,e0⟩:=AA hd;clear hd;have hd:=d;clear d;cases e0;have Z:=s.mem _ _ (Gl.handle s.glb uS);unfold Ri at hd;split at hd
  ·cases hd;cases E;exact iL s (.bool _ _) (Pr.as_nil y w) cs
  ·rename_i u a;split at hd
   ·rename_i pt id off;split at hd
    ·rename_i T o
     obtain ⟨rfl,rfl⟩:pt=104/\T=102:=by
      unfold Rj at o;cases e3:sa 104 pt with
      | true=>rw [e3] at o;cases o;exact ⟨(en e3).symm,rfl⟩
      | false=>rw [e3] at o;cases o
     cases E with
     | ifc _ _ _ xv hxv =>
      cases K with
      | ifc _ _ _ yv hyv =>
       cases e4:sa u 102 with
       | true =>
        have:=en e4;subst this;rw [e4] at hd;simp only [cond_true] at hd;split at hd
        ·rename_i c h2 n;cases hd;obtain ⟨z,rfl,C,hz⟩:=SU hxv;obtain ⟨k,W,L,rfl,r,J⟩:=SX s n hyv;obtain ⟨w',fr,rfl,N,O,S⟩:=Sl (Pr.as_hit z ⟨k,W,none⟩ L w C Z.2 rfl r J) cs;obtain ⟨M1,s1,F⟩:=s.junk #[.pointer (some ⟨k,W,none⟩)] 104;obtain ⟨M2,s2,G⟩:=s1.junk #[Pr.hd 104,.pointer (some ⟨w.heap.size,0,none⟩),.int .u64 150] 143;obtain ⟨X,U,I⟩:=s2.junk #[Pr.hd 104,.pointer (some ⟨w.heap.size,0,none⟩),.int .u64 150] 143;obtain ⟨M4,s4,g4⟩:=U.junk #[z] 102;have g:=(F.trans G).trans (I.trans g4);have hS:=P7 (P:=Tryz.prog) s4 (hyv.mono g.m g.u) (hxv.mono g.m g.u) n;obtain ⟨b',o',D,e5,l,q⟩:=SX s4 n (hyv.mono g.m g.u);cases e5;have B:=ei ⟨k,W,none⟩ z D _ C rfl l q;obtain ⟨M5,μ5,w5,j,s5,g5⟩:=hS;simp only [Sem.run_bind,B,Result.andThen,Sem.run_pure,Result.ok.injEq,true_and] at j;subst j;exact ⟨M5,μ5,_,fr,.bool true,s5,g.trans g5,N,O,.bool _ _,S⟩
        ·cases hd
       | false =>
        rw [e4] at hd;simp only [cond_false] at hd;replace hd:=Ac hd;obtain ⟨A,hd⟩:=hd;cases hd
        have hu:u=264:=by
         simp only [FF,Tf,zr] at A;exact en A
        subst hu;obtain ⟨k,rfl⟩ : ∃ k,yv = .pointer (some k):=by cases hyv;exact ⟨_,rfl⟩
        obtain ⟨w',fr,rfl,N,O,S⟩:=Sl (Pr.as_plain xv k w Z.2) cs;obtain ⟨M1,s1,F⟩:=s.junk #[.pointer (some k)] 104;obtain ⟨M2,s2,G⟩:=s1.junk #[Pr.hd 104,.pointer (some ⟨w.heap.size,0,none⟩),.int .u64 150] 143;obtain ⟨X,U,I⟩:=s2.junk #[Pr.hd 104,.pointer (some ⟨w.heap.size,0,none⟩),.int .u64 150] 143;exact ⟨X,μ,_,fr,.bool false,U,(F.trans G).trans I,N,O,.bool _ _,S⟩
    ·cases hd
   ·cases hd
  ·cases hd
 | false =>
  rw [e1] at i;simp only [cond_false] at i;cases e2:sa f 59 with
  | true =>
   have:=en e2;subst this;rw [e2] at i;cases i;rcases args with _ | ⟨e,_ | ⟨t,_ | ⟨_,_⟩⟩⟩<;>try (cases hd;done)
   replace hd:(SR [264] e t).map (λb=>(PV.bool b,h))=some (v,h'):=hd;obtain ⟨x,y,rfl,E,K⟩:=two Y;obtain ⟨b,d,hh⟩:=AA hd;clear hd;have hd:=d;clear d;cases hh;unfold SR at hd;split at hd<;>try (cases hd;done)
   rename_i u a v b;replace hd:=Ac hd;obtain ⟨hc,hd⟩:=hd;cases hd;simp only [Bool.and_eq_true,FF,Tf,zr] at hc;obtain ⟨⟨e5,e6⟩,e7⟩:=hc;cases en e5;cases en e6;cases en e7;cases E with
   | ifc _ _ _ xv hxv=>cases K with
    | ifc _ _ _ yv hyv=>cases hxv with
     | gk _ _ t1 a1 k1=>cases hyv with
      | gk _ _ t2 a2 k2 =>
       rw [k1] at k2;cases k2;exact iL s (.bool _ _) (Pr.is_same a1 w) cs
  | false =>
   rw [e2] at i;simp only [cond_false] at i;cases i
theorem glw {w:World} {a:Addr} (f:w.cell? ⟨0,0,none⟩=some (.iface 264 (.pointer (some a)))) (h:w.cell? ⟨1,0,none⟩=some (.iface 178 (.agg #[.pointer (some ⟨2,96,none⟩)]))):GlW w:=by
 refine S4 λg cs e j c d => ?_;simp only [Gl.g,gl] at e;cases e1:sa g 0 with
 | true =>
  have:=en e1;subst this;rw [e1] at e;cases e
  match j,d with
  | 0,d =>
   cases d;exact ⟨_,f,rfl,.ifc _ _ _ _ (.gk _ _ _ a (by unfold D1;simpa using f))⟩
 | false =>
  rw [e1] at e;simp only [cond_false] at e;cases e2:sa g 1 with
  | true =>
   have:=en e2;subst this;rw [e2] at e;cases e
   match j,d with
   | 0,d =>
    cases d;refine ⟨_,h,rfl,.ifc _ _ _ _ (.agg _ _ _ rfl ?_ ?_)⟩
    ·intro i v b
     match i,b with
     | 0,b=>cases b;rfl
    ·intro i c v hc b
     match i,hc,b with
     | 0,hc,b=>cases hc;cases b;exact .adr _ _ _
  | false=>rw [e2] at e;cases e
end Go.Proofs.YtfipnhjfbebeiaaGreatDoor.Gv
