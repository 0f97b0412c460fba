/- What the package-level variables hold that the law reads, and errors.As, errors.Is answered as a whole, by contracts. Conditions: the premises of each theorem. -/
import Derived.Test.YtoefnfbpoabinaaGreatDoorPp2
import Derived.Test.YtoefnfbpoabinaaGreatDoorRows
import Derived.WalkKit
import Derived.LaidEql
import Derived.Stop.Asserts
import Derived.RowKitTokens
set_option linter.all false
open List renaming any_cons->vL, any_nil->yw
open Nat renaming beq->l6, eq_of_beq_eq_true->cP, lt_or_ge->xb
open Array renaming getElem?_eq_none->nP
open Option renaming map_eq_some_iff->tg
open Bool renaming or_false->yn
open Option renaming some->zo, none->zn
open Bool renaming true->zt, false->zf
namespace Go.Proofs.YtoefnfbpoabinaaGreatDoor.Pr
open Go.RowKit Go.Extern.Stop Go.Stop Go.Extern
abbrev hd(t:Nat):Value:=.pointer (zo ⟨3,t,zn⟩)
theorem gK(t:Addr)(w:World):(ReflectliteValue.unpack (.iface 195 (.pointer (zo t)))).run Tryz.prog w
  = .ok (.agg #[hd 195,.pointer (zo ⟨w.heap.size,0,zn⟩),.int .u64 150]) (w.alloc (.cells #[.pointer (zo t)] 195)):=by kernel_rfl
theorem uU(a : Addr)(w : World) : (ReflectliteValue.methodAny (ReflectliteValue.valueError "reflectlite.Value.Type" 0) (fun t _ _ _ => ReflectliteType.toType t) #[.agg #[hd 195, .pointer (some a), .int .u64 150]]).run Tryz.prog w
  = .ok (.iface 255 (.agg #[hd 195])) w:=by kernel_rfl
theorem cv(h : Value)(w : World) : (Go.method 468 255 (.agg #[h]) "Kind").run Tryz.prog w = .ok (287, h) w := by kernel_rfl
theorem sI(w:World):((ReflectliteType.abiMethod λt=>(λa:Nat=>Value.int IntKind.u8 (a:Int)) <$> Rtype.kind t) #[hd 195]).run Tryz.prog w=.ok (.int .u8 22) w:=by kernel_rfl
theorem sH(w:World):((ReflectliteType.abiMethod λt=>(λa:Nat=>Value.int IntKind.u8 (a:Int)) <$> Rtype.kind t) #[hd 193]).run Tryz.prog w=.ok (.int .u8 25) w:=by kernel_rfl
theorem rlm(z:Sem Value)(f:TypeId->Addr->Nat->Nat->Sem Value)(v:Value) :
  ReflectliteValue.method z f #[v]=(do match <- ReflectliteValue.parts v with|none=>z|some (t,a,fl)=>f t a fl (fl % 32)):=rfl
theorem lh(a:Addr)(w:World):(ReflectliteValue.parts (.agg #[hd 195,.pointer (zo a),.int .u64 150])).run Tryz.prog w=.ok (zo (195,a,150)) w:=by kernel_rfl
theorem lI(a p:Addr)(W:World)(ha:W.cell? a=zo (.pointer (zo p))) :
  (ReflectliteValue.method (ReflectliteValue.valueError "reflectlite.Value.IsNil" 0) ReflectliteValue.isNil #[.agg #[hd 195, .pointer (some a), .int .u64 150]]).run Tryz.prog W = .ok (.bool false) W := by
 rw[rlm];simp only[Sem.run_bind,lh,Result.andThen];simp[ReflectliteValue.isNil,loadVar,isAgg,underlying,Tryz.underlying195,ha,Result.andThen]
theorem cu(h : Value)(w : World) : (Go.method 468 255 (.agg #[h]) "Elem").run Tryz.prog w = .ok (297, .agg #[h]) w := by kernel_rfl
theorem Zf(h : Value)(w : World) : (Go.method 468 255 (.agg #[h]) "Implements").run Tryz.prog w = .ok (298, .agg #[h]) w := by kernel_rfl
theorem ZD(h : Value)(w : World) : (Go.method 468 255 (.agg #[h]) "AssignableTo").run Tryz.prog w = .ok (295, .agg #[h]) w := by kernel_rfl
theorem sE(w:World):(ReflectliteType.method ReflectliteType.elem #[.agg #[hd 195]]).run Tryz.prog w=.ok (.iface 255 (.agg #[hd 193])) w:=by kernel_rfl
theorem bq(w : World) : (ReflectliteType.relation "Implements" ReflectliteType.implements_ #[.agg #[hd 193], .iface 255 (.agg #[hd 187])]).run Tryz.prog w = .ok (.bool true) w := by kernel_rfl
theorem ru(v:Value)(w:World):(ReflectliteType.typeOf #[.iface 193 v]).run Tryz.prog w=.ok (.iface 255 (.agg #[hd 193])) w:=by kernel_rfl
theorem rq(v:Value)(w:World):(ReflectliteType.typeOf #[.iface 336 v]).run Tryz.prog w=.ok (.iface 255 (.agg #[hd 336])) w:=by kernel_rfl
theorem fE(w : World) : (ReflectliteType.relation "AssignableTo" ReflectliteType.assignableTo #[.agg #[hd 193], .iface 255 (.agg #[hd 193])]).run Tryz.prog w = .ok (.bool true) w := by kernel_rfl
theorem fD(w : World) : (ReflectliteType.relation "AssignableTo" ReflectliteType.assignableTo #[.agg #[hd 336], .iface 255 (.agg #[hd 193])]).run Tryz.prog w = .ok (.bool false) w := by kernel_rfl
theorem qm(v:Value)(w:World):(ReflectliteValue.unpack (.iface 193 (.agg #[v]))).run Tryz.prog w
  = .ok (.agg #[hd 193,.pointer (zo ⟨w.heap.size,0,zn⟩),.int .u64 153]) (w.alloc (.cells #[v] 193)):=by kernel_rfl
theorem rI(w:World):(Rtype.elem? 195).run Tryz.prog w=.ok (zo 193) w:=by kernel_rfl
theorem mkF(p:Addr)(w:World):(ReflectliteValue.mk 193 p ReflectliteValue.flagAddr).run Tryz.prog w=.ok (.agg #[hd 193,.pointer (zo p),.int .u64 409]) w:=by kernel_rfl
theorem ww(a p:Addr)(W:World)(ha:W.cell? a=zo (.pointer (zo p))) :
  (ReflectliteValue.method (ReflectliteValue.valueError "reflectlite.Value.Elem" 0) ReflectliteValue.elem #[.agg #[hd 195, .pointer (some a), .int .u64 150]]).run Tryz.prog W
   = .ok (.agg #[hd 193,.pointer (zo p),.int .u64 409]) W:=by
 rw[rlm];simp only[Sem.run_bind,lh,Result.andThen];simp[ReflectliteValue.elem,loadVar,isAgg,underlying,Tryz.underlying195,ha,Result.andThen,rI,mkF]
theorem rls(v x:Value):ReflectliteValue.set #[v,x]=(do
  let (zo (dst,a,fl),zo (src,b,_)):=(<- ReflectliteValue.parts v,<- ReflectliteValue.parts x)
   | unsupported (.noEntry "extern/(internal/reflectlite.Value).Set.zeroValue")
  if fl / ReflectliteValue.flagAddr % 2 == 0 then unsupported (.noEntry "extern/(internal/reflectlite.Value).Set.unaddressable")
  let val <- loadVar src b
  if <- Rtype.directlyAssignable dst src then storeVar dst a val
  else if <- Rtype.implements dst src then
   if(<- Rtype.kind src) == 20 then
    match val with
    | .nilIface => unsupported (.noEntry "extern/reflectlite: a nil value of one interface type handed on as a value of another")
    |_=>storeVar dst a val
   else storeVar dst a (.iface src val)
  else panicString ("reflectlite.Set: value of type " ++ (← Rtype.spelt src) ++ " is not assignable to type " ++ (← Rtype.spelt dst))
  pure (.tuple #[])):=rfl
theorem vj(a:Addr)(w:World):(ReflectliteValue.parts (.agg #[hd 193,.pointer (zo a),.int .u64 409])).run Tryz.prog w=.ok (zo (193,a,409)) w:=by kernel_rfl
theorem vk(a:Addr)(w:World):(ReflectliteValue.parts (.agg #[hd 193,.pointer (zo a),.int .u64 153])).run Tryz.prog w=.ok (zo (193,a,153)) w:=by kernel_rfl
theorem rH(w:World):(Rtype.directlyAssignable 193 193).run Tryz.prog w=.ok zt w:=by kernel_rfl
theorem sizeF(w:World):(sizeOf 193).run Tryz.prog w=.ok 1 w:=by kernel_rfl
theorem AB8(a b:Addr)(v d:Value)(W:World)(e:v.oneCell'=zt)(hs:a.spot=zn)(f:W.cell? b=zo v)(c:b.spot=zn)(h:W.cell? a=zo d)(g:W.frozen? a=zf) :
  (ReflectliteValue.set #[.agg #[hd 193,.pointer (zo a),.int .u64 409],.agg #[hd 193,.pointer (zo b),.int .u64 153]]).run Tryz.prog W
   = .ok (.tuple #[]) (W.setCell a v):=by
 rw[rls];simp only[Sem.run_bind,vj,vk,Result.andThen];obtain⟨l,m,n⟩:=a;obtain⟨i,j,k⟩:=b;simp only at hs c;subst hs;subst c;simp[ReflectliteValue.flagAddr,loadVar,isAgg,underlying,Tryz.underlying193,Result.andThen,rH,storeVar,Value.cells,sizeF,loadCells,loadCellsFrom,Addr.add,f];simp[storeCells,Addr.add];rw[run_store Tryz.prog W _ _ _ e];simp[h,g]
theorem xq(v:Value)(a:TypeId)(w:World):(Instr.typeAssert (.iface 336 v) a 259 zt).run Tryz.prog w=.ok (.tuple #[.nilIface,.bool zf]) w:=run_typeAssert_lacksB Tryz.underlying259 (by kernel_rfl) (by kernel_rfl) v a w
theorem jt(v:Value)(a:TypeId)(w:World):(Instr.typeAssert (.iface 336 v) a 262 zt).run Tryz.prog w=.ok (.tuple #[.nilIface,.bool zf]) w:=run_typeAssert_lacksB Tryz.underlying262 (by kernel_rfl) (by kernel_rfl) v a w
theorem gp(v:Value)(a:TypeId)(w:World):(Instr.typeAssert (.iface 336 v) a 264 zt).run Tryz.prog w=.ok (.tuple #[.nilIface,.bool zf]) w:=run_typeAssert_lacksB Tryz.underlying264 (by kernel_rfl) (by kernel_rfl) v a w
theorem as_nil(t:Value)(w:World):Calls Tryz.prog 142 #[.nilIface,t] w λe w'=>e=.returned (.bool zf)/\w'=w:=by
 go_enter Tryz.func142,Tryz.ntmps142
 go_wp2
 go_ret
 exact⟨rfl,rfl⟩
def w3(w:World)(t:Addr):World:=((w.alloc (.cells #[.pointer (zo t)] 195)).alloc (.cells #[hd 195,.pointer (zo ⟨w.heap.size,0,zn⟩),.int .u64 150] 232)).alloc (.cells #[hd 195,.pointer (zo ⟨w.heap.size,0,zn⟩),.int .u64 150] 232)
set_option maxHeartbeats 4000000 in
theorem as_hit(v:Value)(t:Addr)(old:Value)(w:World)(h1:v.oneCell'=zt)(hg:w.cell? ⟨1,0,zn⟩=zo (.iface 255 (.agg #[hd 187])))(hsp:t.spot=zn)(ht0:w.cell? t=zo old)(hf0:w.frozen? t=zf) :
  Calls Tryz.prog 142 #[.iface 193 (.agg #[v]),.iface 195 (.pointer (zo t))] w λev w'=>ev=.returned (.bool zt)/\w'=((w3 w t).alloc (.cells #[v] 193)).setCell t v:=by
 have h6:=@run_callFunc_extern Tryz.prog 181 _ (λargs=>ReflectliteValue.unpack (args.getD 0 (.tuple #[]))) Tryz.func181 (by kernel_rfl) (by kernel_rfl) (by kernel_rfl) (by kernel_rfl)
 have h7 := @run_callFunc_extern Tryz.prog 182 _ (ReflectliteValue.methodAny (ReflectliteValue.valueError "reflectlite.Value.Type" 0) (fun t _ _ _ => ReflectliteType.toType t)) Tryz.func182 (by kernel_rfl) (by kernel_rfl) (by kernel_rfl) (by kernel_rfl)
 have h8 := @run_callFunc_extern Tryz.prog 183 _ (ReflectliteValue.method (ReflectliteValue.valueError "reflectlite.Value.IsNil" 0) ReflectliteValue.isNil) Tryz.func183 (by kernel_rfl) (by kernel_rfl) (by kernel_rfl) (by kernel_rfl)
 have h27:=@run_callFunc_extern Tryz.prog 287 _ (ReflectliteType.abiMethod λt=>do pure (.int .u8 (<- Rtype.kind t))) Tryz.func287 (by kernel_rfl) (by kernel_rfl) (by kernel_rfl) (by kernel_rfl)
 have h37:=@run_callFunc_extern Tryz.prog 297 _ (ReflectliteType.method ReflectliteType.elem) Tryz.func297 (by kernel_rfl) (by kernel_rfl) (by kernel_rfl) (by kernel_rfl)
 have h38 := @run_callFunc_extern Tryz.prog 298 _ (ReflectliteType.relation "Implements" ReflectliteType.implements_) Tryz.func298 (by kernel_rfl) (by kernel_rfl) (by kernel_rfl) (by kernel_rfl)
 have h10:=@run_callFunc_extern Tryz.prog 185 _ ReflectliteType.typeOf Tryz.func185 (by kernel_rfl) (by kernel_rfl) (by kernel_rfl) (by kernel_rfl)
 have h35 := @run_callFunc_extern Tryz.prog 295 _ (ReflectliteType.relation "AssignableTo" ReflectliteType.assignableTo) Tryz.func295 (by kernel_rfl) (by kernel_rfl) (by kernel_rfl) (by kernel_rfl)
 have h11 := @run_callFunc_extern Tryz.prog 207 _ (ReflectliteValue.method (ReflectliteValue.valueError "reflectlite.Value.Elem" 0) ReflectliteValue.elem) Tryz.func207 (by kernel_rfl) (by kernel_rfl) (by kernel_rfl) (by kernel_rfl)
 have h12:=@run_callFunc_extern Tryz.prog 208 _ ReflectliteValue.set Tryz.func208 (by kernel_rfl) (by kernel_rfl) (by kernel_rfl) (by kernel_rfl);have tO:=ru;have mA:=ZD;have a25:=fE;have v25:=qm;have f6:=gK;have f7:=uU;have mK:=cv;have mE:=cu;have mI:=Zf;have k27:=sI;have k25:=sH;have e27:=sE;have i25:=bq;have n8:=lI ⟨w.heap.size,0,zn⟩ t ((w.alloc (.cells #[.pointer (zo t)] 195)).alloc (.cells #[hd 195,.pointer (zo ⟨w.heap.size,0,zn⟩),.int .u64 150] 232)) (by simp)
 have hlt:1<w.heap.size:=by
  rcases xb 1 w.heap.size with h|h
  ·exact h
  ·simp[World.cell?,nP h]at hg
 have hg2:((w.alloc (.cells #[.pointer (zo t)] 195)).alloc (.cells #[hd 195,.pointer (zo ⟨w.heap.size,0,zn⟩),.int .u64 150] 232)).cell? ⟨1,0,zn⟩=zo (.iface 255 (.agg #[hd 187])):=by
  rw[World.cell?_alloc_lt _ _ ⟨1,0,zn⟩ (by simp;omega),World.cell?_alloc_lt _ _ ⟨1,0,zn⟩ hlt];exact hg
 have htl:t.block<w.heap.size:=by
  rcases xb t.block w.heap.size with h|h
  ·exact h
  ·simp[World.cell?,nP h]at ht0
 have el:=ww ⟨w.heap.size,0,zn⟩ t (w3 w t) (by unfold w3;rw[World.cell?_alloc_lt _ _ ⟨w.heap.size,0,zn⟩ (by simp;omega)];simp)
 have st:=AB8 t ⟨w.heap.size+1+1+1,0,zn⟩ v old ((w3 w t).alloc (.cells #[v] 193)) h1 hsp
  (by unfold w3;rw[World.cell?_alloc_at _ _ _ _ (by simp)];rfl) rfl
  (by unfold w3;rw[World.cell?_alloc_lt _ _ t (by simp;omega),World.cell?_alloc_lt _ _ t (by simp;omega),World.cell?_alloc_lt _ _ t (by simp;omega),World.cell?_alloc_lt _ _ t htl];exact ht0)
  (by unfold w3;rw[World.frozen?_alloc_old _ _ t (by simp;omega),World.frozen?_alloc_old _ _ t (by simp;omega),World.frozen?_alloc_old _ _ t (by simp;omega),World.frozen?_alloc_old _ _ t (Nat.ne_of_lt htl)];exact hf0)
 unfold w3 at el st ⊢
 go_enter Tryz.func142,Tryz.ntmps142
 go_wp2
 refine wp_loop_rounds 1 ?_;rw[rounds_succ]
 go_wp2
 go_ret
 exact⟨rfl,rfl⟩
set_option maxHeartbeats 4000000 in
theorem as_plain(a:Value)(t:Addr)(w:World)(hg:w.cell? ⟨1,0,zn⟩=zo (.iface 255 (.agg #[hd 187]))) :
  Calls Tryz.prog 142 #[.iface 336 a,.iface 195 (.pointer (zo t))] w λev w'=>ev=.returned (.bool zf)/\w'=w3 w t:=by
 have h6:=@run_callFunc_extern Tryz.prog 181 _ (λargs=>ReflectliteValue.unpack (args.getD 0 (.tuple #[]))) Tryz.func181 (by kernel_rfl) (by kernel_rfl) (by kernel_rfl) (by kernel_rfl)
 have h7 := @run_callFunc_extern Tryz.prog 182 _ (ReflectliteValue.methodAny (ReflectliteValue.valueError "reflectlite.Value.Type" 0) (fun t _ _ _ => ReflectliteType.toType t)) Tryz.func182 (by kernel_rfl) (by kernel_rfl) (by kernel_rfl) (by kernel_rfl)
 have h8 := @run_callFunc_extern Tryz.prog 183 _ (ReflectliteValue.method (ReflectliteValue.valueError "reflectlite.Value.IsNil" 0) ReflectliteValue.isNil) Tryz.func183 (by kernel_rfl) (by kernel_rfl) (by kernel_rfl) (by kernel_rfl)
 have h27:=@run_callFunc_extern Tryz.prog 287 _ (ReflectliteType.abiMethod λt=>do pure (.int .u8 (<- Rtype.kind t))) Tryz.func287 (by kernel_rfl) (by kernel_rfl) (by kernel_rfl) (by kernel_rfl)
 have h37:=@run_callFunc_extern Tryz.prog 297 _ (ReflectliteType.method ReflectliteType.elem) Tryz.func297 (by kernel_rfl) (by kernel_rfl) (by kernel_rfl) (by kernel_rfl)
 have h38 := @run_callFunc_extern Tryz.prog 298 _ (ReflectliteType.relation "Implements" ReflectliteType.implements_) Tryz.func298 (by kernel_rfl) (by kernel_rfl) (by kernel_rfl) (by kernel_rfl)
 have h10:=@run_callFunc_extern Tryz.prog 185 _ ReflectliteType.typeOf Tryz.func185 (by kernel_rfl) (by kernel_rfl) (by kernel_rfl) (by kernel_rfl)
 have h35 := @run_callFunc_extern Tryz.prog 295 _ (ReflectliteType.relation "AssignableTo" ReflectliteType.assignableTo) Tryz.func295 (by kernel_rfl) (by kernel_rfl) (by kernel_rfl) (by kernel_rfl)
 have tO:=rq;have mA:=ZD;have a25:=fD;have f6:=gK;have f7:=uU;have mK:=cv;have mE:=cu;have mI:=Zf;have k27:=sI;have k25:=sH;have e27:=sE;have i25:=bq;have nE:=xq;have uE:=jt;have vE:=gp;have n8:=lI ⟨w.heap.size,0,zn⟩ t ((w.alloc (.cells #[.pointer (zo t)] 195)).alloc (.cells #[hd 195,.pointer (zo ⟨w.heap.size,0,zn⟩),.int .u64 150] 232)) (by simp)
 have hlt:1<w.heap.size:=by
  rcases xb 1 w.heap.size with h|h
  ·exact h
  ·simp[World.cell?,nP h]at hg
 have hg2:((w.alloc (.cells #[.pointer (zo t)] 195)).alloc (.cells #[hd 195,.pointer (zo ⟨w.heap.size,0,zn⟩),.int .u64 150] 232)).cell? ⟨1,0,zn⟩=zo (.iface 255 (.agg #[hd 187])):=by
  rw[World.cell?_alloc_lt _ _ ⟨1,0,zn⟩ (by simp;omega),World.cell?_alloc_lt _ _ ⟨1,0,zn⟩ hlt];exact hg
 unfold w3
 go_enter Tryz.func142,Tryz.ntmps142
 go_wp2
 refine wp_loop_rounds 1 ?_;rw[rounds_succ]
 go_wp2
 go_ret
 exact⟨rfl,rfl⟩
theorem lJ(v:Value)(w:World):(ReflectliteType.typeOf #[.iface 336 v]).run Tryz.prog w=.ok (.iface 255 (.agg #[hd 336])) w:=by kernel_rfl
def wu : TypeId → Sem Value := fun t => do Rtype.noPackHeld "Comparable" t; pure (.bool (← typeInfo t).comparable)
theorem eI(w:World):((ReflectliteType.method wu) #[.agg #[hd 336]]).run Tryz.prog w=.ok (.bool zt) w:=by kernel_rfl
theorem ao(v : Value)(w : World) : (Go.method 468 255 v "Comparable").run Tryz.prog w = .ok (296, v) w := by kernel_rfl
theorem ut:(Tryz.prog.info? 336).map (·.comparable)=zo zt:=by kernel_rfl
theorem uu:(Tryz.prog.info? 356).map (·.size)=zo 1:=by kernel_rfl
theorem is_same(a:Addr)(w:World) :
  Calls Tryz.prog 143 #[.iface 336 (.pointer (zo a)),.iface 336 (.pointer (zo a))] w λe w'=>e=.returned (.bool zt)/\w'=w:=by
 obtain⟨i,hi,b⟩:=tg.1 ut;obtain⟨j,f,g⟩:=tg.1 uu;have k:=@run_callFunc_extern Tryz.prog 185 _ ReflectliteType.typeOf Tryz.func185 (by kernel_rfl) (by kernel_rfl) (by kernel_rfl) (by kernel_rfl);have c:=@run_callFunc_extern Tryz.prog 296 _ (ReflectliteType.method wu) Tryz.func296 (by kernel_rfl) (by kernel_rfl) (by kernel_rfl) (by kernel_rfl);have m:=lJ;have h:=eI;have l:=ao;have d:=run_eql_iface_ptr_same (P:=Tryz.prog) w a Tryz.underlying187 Tryz.underlying336 hi b f
 go_enter Tryz.func143,Tryz.ntmps143
 go_wp2
 refine wp_loop_rounds 1 ?_;rw[rounds_succ]
 go_wp2
 go_ret
 exact⟨rfl,rfl⟩
end Go.Proofs.YtoefnfbpoabinaaGreatDoor.Pr
namespace Go.Proofs.YtoefnfbpoabinaaGreatDoor.Gv
open Go Pi Go.RowKit
set_option maxRecDepth 100000
instance gl:Gl where
 g n:=bif l6 n 0 then zo [.ifc 336 (.gk 0)]else bif l6 n 1 then zo [.ifc 255 (.agg [.adr 3 187])]else zn
 pr f:=bif l6 f 142 then zo (.as [(195,193)] [336])else bif l6 f 143 then zo (.is [336])else bif l6 f 129 then zo .cmp else zn
theorem wz:Gl.g 1=zo [.ifc 255 (.agg [.adr 3 187])]:=rfl
theorem hG(t:Addr)(v a:Value)(W:World)(b:v.oneCell'=zt)(hs:t.spot=zn)(d:W.cell? t=zo a)(c:W.frozen? t=zf) :
  (Instr.storeAt 193 (.pointer (zo t)) (.agg #[v])).run Tryz.prog W=.ok () (W.setCell t v):=by
 obtain⟨e,f,g⟩:=t;simp only at hs;subst hs;simp[Instr.storeAt,Instr.sureAddr,asAddr,isAgg,underlying,Tryz.underlying193,Result.andThen,storeVar,Value.cells,Pr.sizeF,Addr.add];simp[storeCells,Addr.add];rw[run_store Tryz.prog W _ _ _ b];simp[d,c]
theorem cmp_ok(a b:ByteArray)(w:World):Calls Tryz.prog 129 #[.string a,.string b] w λe w'=>e=.returned (.int .i64 (Lib.compareBytes a.data.toList b.data.toList))/\w'=w:=by
 have c:∀ w,Calls Tryz.prog 168 #[.string a,.string b] w λe w'=>e=.returned (.int .i64 (Lib.compareBytes a.data.toList b.data.toList))/\w'=w:=by
  intro w
  go_enter Tryz.func168,Tryz.ntmps168
  go_wp2
  rw[run_callFunc_extern Tryz.func202 (by kernel_rfl) (by kernel_rfl) (by kernel_rfl) (e:=Extern.BytealgCompare.compare) (by kernel_rfl),Lib.run_compareString];simp only[Result.andThen];rw[Oper.upon_value]
  go_wp2
  go_ret
  exact⟨rfl,rfl⟩
 go_enter Tryz.func129,Tryz.ntmps129
 go_wp2_with (go_at_call 168;refine(c _).mono ?_;rintro e w' ⟨rfl,rfl⟩)
 go_ret
 exact⟨rfl,rfl⟩
theorem two{M:Al}{μ:Mu}{p q:PV}{vs:List Value}(b:RepL M μ [p,q] vs):∃ x y,vs=[x,y]/\Rep M μ p x/\Rep M μ q y:=by
 obtain⟨x,l,rfl,c,a⟩:=b.cons_inv;obtain⟨y,l,rfl,d,a⟩:=a.cons_inv;cases a.nil_inv;exact⟨x,y,rfl,c,d⟩
theorem stay{M:Al}{μ:Mu}{h:Hp}{w:World}(s:Sim M μ h w){f:FuncId}{vs:List Value}{b:PV}{v:Value}(i:Rep M μ b v)(hc:Calls Tryz.prog f vs.toArray w λe w'=>e=.returned v/\w'=w)(cs:List Frame) :
  ∃ a μ' w' fr x,Sim a μ' h w'/\Grow M μ w a μ' w'/\Steps Tryz.prog (lone (Frame.enter Tryz.prog f vs.toArray .normal) cs w) (lone fr cs w')/\fr.fn=f/\Rep a μ' b x/\fr.leaving Tryz.prog w' (.returned x):=by
 obtain⟨w',fr,rfl,c,d,g⟩:=Tw hc cs;exact⟨M,μ,w',fr,v,s,.refl _ _ _,c,d,i,g⟩
theorem prim:Cz Tryz.prog:=by
 intro f p i args h v h' hd M μ w vs s O cs;simp only[Gl.pr,gl]at i;cases e1:l6 f 142 with
 |true=>
  have:=cP e1;subst this;rw[e1]at i;cases i;rcases args with _|⟨e,_|⟨t,_|⟨_,_⟩⟩⟩<;>try (cases hd;done)
  replace hd:(SV Tryz.prog [(195,193)] [336] e t h).map (λ(b,h)=>(PV.bool b,h))=zo (v,h'):=hd;obtain⟨x,y,rfl,q,E⟩:=two O;obtain⟨⟨b,h1⟩,d,e0⟩:=AA hd;clear hd;have hd:=d;clear d;cases e0;have hg:=s.mem _ _ (Gl.handle s.glb wz);unfold SV at hd;split at hd
  ·cases hd;cases q;exact stay s (.bool _ _) (Pr.as_nil y w) cs
  ·rename_i u a;split at hd
   ·rename_i pt id off;split at hd
    ·rename_i T r
     obtain⟨rfl,rfl⟩:pt=195/\T=193:=by
      unfold SW at r;cases e3:l6 195 pt with
      |true=>rw[e3]at r;cases r;exact⟨(cP e3).symm,rfl⟩
      |false=>rw[e3]at r;cases r
     cases q with
     |ifc _ _ _ xv hxv=>
      cases E with
      |ifc _ _ _ yv hyv=>
       cases I:l6 u 193 with
       |true=>
        have:=cP I;subst this;rw[I]at hd;simp only[zb]at hd;split at hd
        ·rename_i c h2 o;cases hd;obtain⟨z,rfl,F,hz⟩:=TY hxv;obtain⟨k,to,U,rfl,B,S⟩:=Ta s o hyv;obtain⟨w',fr,rfl,W,X,Y⟩:=Tw (Pr.as_hit z ⟨k,to,zn⟩ U w F hg.2 rfl B S) cs;obtain⟨M1,s1,K⟩:=s.junk #[.pointer (zo ⟨k,to,zn⟩)] 195;obtain⟨M2,s2,L⟩:=s1.junk #[Pr.hd 195,.pointer (zo ⟨w.heap.size,0,zn⟩),.int .u64 150] 232;obtain⟨M3,Z,N⟩:=s2.junk #[Pr.hd 195,.pointer (zo ⟨w.heap.size,0,zn⟩),.int .u64 150] 232;obtain⟨M4,s4,g4⟩:=Z.junk #[z] 193;have g:=(K.trans L).trans (N.trans g4);have hS:=Qk (P:=Tryz.prog) s4 (hyv.mono g.m g.u) (hxv.mono g.m g.u) o;obtain⟨b',o',G,J,l,A⟩:=Ta s4 o (hyv.mono g.m g.u);cases J;have D:=hG ⟨k,to,zn⟩ z G _ F rfl l A;obtain⟨M5,μ5,w5,j,s5,g5⟩:=hS;simp only[Sem.run_bind,D,Result.andThen,Sem.run_pure,Result.ok.injEq,true_and]at j;subst j;exact⟨M5,μ5,_,fr,.bool zt,s5,g.trans g5,W,X,.bool _ _,Y⟩
        ·cases hd
       |false=>
        rw[I]at hd;simp only[zj]at hd;replace hd:=Ad hd;obtain⟨C,hd⟩:=hd;cases hd
        have hu:u=336:=by
         simp only[vL,yw,yn]at C;exact cP C
        subst hu;obtain⟨k,rfl⟩:∃ k,yv=.pointer (zo k):=by cases hyv;exact⟨_,rfl⟩
        obtain⟨w',fr,rfl,W,X,Y⟩:=Tw (Pr.as_plain xv k w hg.2) cs;obtain⟨M1,s1,K⟩:=s.junk #[.pointer (zo k)] 195;obtain⟨M2,s2,L⟩:=s1.junk #[Pr.hd 195,.pointer (zo ⟨w.heap.size,0,zn⟩),.int .u64 150] 232;obtain⟨M3,Z,N⟩:=s2.junk #[Pr.hd 195,.pointer (zo ⟨w.heap.size,0,zn⟩),.int .u64 150] 232;exact⟨M3,μ,_,fr,.bool zf,Z,(K.trans L).trans N,W,X,.bool _ _,Y⟩
    ·cases hd
   ·cases hd
  ·cases hd
 |false=>
  rw[e1]at i;simp only[zj]at i;cases e2:l6 f 143 with
  |true=>
   have:=cP e2;subst this;rw[e2]at i;cases i;rcases args with _|⟨e,_|⟨t,_|⟨_,_⟩⟩⟩<;>try (cases hd;done)
   replace hd:(TW [336] e t).map (λb=>(PV.bool b,h))=zo (v,h'):=hd;obtain⟨x,y,rfl,q,E⟩:=two O;obtain⟨b,d,hh⟩:=AA hd;clear hd;have hd:=d;clear d;cases hh;unfold TW at hd;split at hd<;>try (cases hd;done)
   rename_i u a v b;replace hd:=Ad hd;obtain⟨hc,hd⟩:=hd;cases hd;simp only[Bool.and_eq_true,vL,yw,yn]at hc;obtain⟨⟨J,e6⟩,e7⟩:=hc;cases cP J;cases cP e6;cases cP e7;cases q with
   |ifc _ _ _ xv hxv=>cases E with
    |ifc _ _ _ yv hyv=>cases hxv with
     |gk _ _ t1 a1 k1=>cases hyv with
      |gk _ _ t2 a2 k2=>
       rw[k1]at k2;cases k2;exact stay s (.bool _ _) (Pr.is_same a1 w) cs
  |false=>
   rw[e2]at i;simp only[zj]at i;cases e3:l6 f 129 with
   |true=>
    have:=cP e3;subst this;rw[e3]at i;cases i;rcases args with _|⟨e,_|⟨t,_|⟨_,_⟩⟩⟩<;>try (cases hd;done)
    replace hd:(TV e t).map (λn=>(PV.int .i64 n,h))=zo (v,h'):=hd;obtain⟨n,d,hh⟩:=AA hd;clear hd;cases hh;unfold TV at d;split at d<;>try (cases d;done)
    cases d;obtain⟨x,y,rfl,q,E⟩:=two O;cases q with
    |str _ x=>cases E with
     |str _ y=>exact stay s (by rw[Hw];exact .int _ _ _) (cmp_ok x y w) cs
   |false=>rw[e3]at i;cases i
theorem glw{w:World}{a:Addr}(f:w.cell? ⟨0,0,zn⟩=zo (.iface 336 (.pointer (zo a))))(h:w.cell? ⟨1,0,zn⟩=zo (.iface 255 (.agg #[.pointer (zo ⟨3,187,zn⟩)]))):GlW w:=by
 refine UR λg cs e j c d=> ?_;simp only[Gl.g,gl]at e;cases e1:l6 g 0 with
 |true=>
  have:=cP e1;subst this;rw[e1]at e;cases e
  match j,d with
  |0,d=>
   cases d;exact⟨_,f,rfl,.ifc _ _ _ _ (.gk _ _ _ a (by unfold D6;simpa using f))⟩
 |false=>
  rw[e1]at e;simp only[zj]at e;cases e2:l6 g 1 with
  |true=>
   have:=cP e2;subst this;rw[e2]at e;cases e
   match j,d with
   |0,d=>
    cases d;refine⟨_,h,rfl,.ifc _ _ _ _ (.agg _ _ _ rfl ?_ ?_)⟩
    ·intro i v b
     match i,b with
     |0,b=>cases b;rfl
    ·intro i c v hc b
     match i,hc,b with
     |0,hc,b=>cases hc;cases b;exact .adr _ _ _
  |false=>rw[e2]at e;cases e
end Go.Proofs.YtoefnfbpoabinaaGreatDoor.Gv
