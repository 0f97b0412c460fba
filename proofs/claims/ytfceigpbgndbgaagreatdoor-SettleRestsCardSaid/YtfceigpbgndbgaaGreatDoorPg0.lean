/- What the package-level variables hold that the law reads, and errors.As, errors.Is answered as a whole, by contracts. Conditions: the premises of each theorem. -/
import Derived.Test.YtfceigpbgndbgaaGreatDoorPp2
import Derived.Test.YtfceigpbgndbgaaGreatDoorRows
import Derived.WalkKit
import Derived.LaidEql
import Derived.Stop.Asserts
import Derived.RowKitTokens
set_option linter.all false
open List renaming any_cons->yo, any_nil->yr
open Nat renaming beq->ns, eq_of_beq_eq_true->eb, lt_or_ge->xa
open Array renaming getElem?_eq_none->rz
open Option renaming map_eq_some_iff->ul
open Bool renaming or_false->ym
open Option renaming some->zo, none->zn
open Bool renaming true->zt, false->zf
namespace Go.Proofs.YtfceigpbgndbgaaGreatDoor.Pr
open Go.RowKit Go.Extern.Stop Go.Stop Go.Extern
abbrev hd(t:Nat):Value:=.pointer (zo ⟨3,t,zn⟩)
theorem fa(t:Addr)(w:World):(ReflectliteValue.unpack (.iface 167 (.pointer (zo t)))).run Tryz.prog w
  = .ok (.agg #[hd 167,.pointer (zo ⟨w.heap.size,0,zn⟩),.int .u64 150]) (w.alloc (.cells #[.pointer (zo t)] 167)):=by kernel_rfl
theorem uc(a : Addr)(w : World) : (ReflectliteValue.methodAny (ReflectliteValue.valueError "reflectlite.Value.Type" 0) (fun t _ _ _ => ReflectliteType.toType t) #[.agg #[hd 167, .pointer (some a), .int .u64 150]]).run Tryz.prog w
  = .ok (.iface 252 (.agg #[hd 167])) w:=by kernel_rfl
theorem cL(h : Value)(w : World) : (Go.method 462 252 (.agg #[h]) "Kind").run Tryz.prog w = .ok (276, h) w := by kernel_rfl
theorem sJ(w:World):((ReflectliteType.abiMethod λt=>(λa:Nat=>Value.int IntKind.u8 (a:Int)) <$> Rtype.kind t) #[hd 167]).run Tryz.prog w=.ok (.int .u8 22) w:=by kernel_rfl
theorem sI(w:World):((ReflectliteType.abiMethod λt=>(λa:Nat=>Value.int IntKind.u8 (a:Int)) <$> Rtype.kind t) #[hd 165]).run Tryz.prog w=.ok (.int .u8 25) w:=by kernel_rfl
theorem rlm(z:Sem Value)(f:TypeId->Addr->Nat->Nat->Sem Value)(v:Value) :
  ReflectliteValue.method z f #[v]=(do match <- ReflectliteValue.parts v with|none=>z|some (t,a,fl)=>f t a fl (fl % 32)):=rfl
theorem lS(a:Addr)(w:World):(ReflectliteValue.parts (.agg #[hd 167,.pointer (zo a),.int .u64 150])).run Tryz.prog w=.ok (zo (167,a,150)) w:=by kernel_rfl
theorem lF(a p:Addr)(W:World)(ha:W.cell? a=zo (.pointer (zo p))) :
  (ReflectliteValue.method (ReflectliteValue.valueError "reflectlite.Value.IsNil" 0) ReflectliteValue.isNil #[.agg #[hd 167, .pointer (some a), .int .u64 150]]).run Tryz.prog W = .ok (.bool false) W := by
 rw[rlm];simp only[Sem.run_bind,lS,Result.andThen];simp[ReflectliteValue.isNil,loadVar,isAgg,underlying,Tryz.underlying167,ha,Result.andThen]
theorem cK(h : Value)(w : World) : (Go.method 462 252 (.agg #[h]) "Elem").run Tryz.prog w = .ok (286, .agg #[h]) w := by kernel_rfl
theorem ZN(h : Value)(w : World) : (Go.method 462 252 (.agg #[h]) "Implements").run Tryz.prog w = .ok (287, .agg #[h]) w := by kernel_rfl
theorem Yt(h : Value)(w : World) : (Go.method 462 252 (.agg #[h]) "AssignableTo").run Tryz.prog w = .ok (284, .agg #[h]) w := by kernel_rfl
theorem sG(w:World):(ReflectliteType.method ReflectliteType.elem #[.agg #[hd 167]]).run Tryz.prog w=.ok (.iface 252 (.agg #[hd 165])) w:=by kernel_rfl
theorem bU(w : World) : (ReflectliteType.relation "Implements" ReflectliteType.implements_ #[.agg #[hd 165], .iface 252 (.agg #[hd 159])]).run Tryz.prog w = .ok (.bool true) w := by kernel_rfl
theorem rx(v:Value)(w:World):(ReflectliteType.typeOf #[.iface 165 v]).run Tryz.prog w=.ok (.iface 252 (.agg #[hd 165])) w:=by kernel_rfl
theorem ru(v:Value)(w:World):(ReflectliteType.typeOf #[.iface 330 v]).run Tryz.prog w=.ok (.iface 252 (.agg #[hd 330])) w:=by kernel_rfl
theorem d9(w : World) : (ReflectliteType.relation "AssignableTo" ReflectliteType.assignableTo #[.agg #[hd 165], .iface 252 (.agg #[hd 165])]).run Tryz.prog w = .ok (.bool true) w := by kernel_rfl
theorem d8(w : World) : (ReflectliteType.relation "AssignableTo" ReflectliteType.assignableTo #[.agg #[hd 330], .iface 252 (.agg #[hd 165])]).run Tryz.prog w = .ok (.bool false) w := by kernel_rfl
theorem qi(v:Value)(w:World):(ReflectliteValue.unpack (.iface 165 (.agg #[v]))).run Tryz.prog w
  = .ok (.agg #[hd 165,.pointer (zo ⟨w.heap.size,0,zn⟩),.int .u64 153]) (w.alloc (.cells #[v] 165)):=by kernel_rfl
theorem qy(w:World):(Rtype.elem? 167).run Tryz.prog w=.ok (zo 165) w:=by kernel_rfl
theorem mkF(p:Addr)(w:World):(ReflectliteValue.mk 165 p ReflectliteValue.flagAddr).run Tryz.prog w=.ok (.agg #[hd 165,.pointer (zo p),.int .u64 409]) w:=by kernel_rfl
theorem wu(a p:Addr)(W:World)(ha:W.cell? a=zo (.pointer (zo p))) :
  (ReflectliteValue.method (ReflectliteValue.valueError "reflectlite.Value.Elem" 0) ReflectliteValue.elem #[.agg #[hd 167, .pointer (some a), .int .u64 150]]).run Tryz.prog W
   = .ok (.agg #[hd 165,.pointer (zo p),.int .u64 409]) W:=by
 rw[rlm];simp only[Sem.run_bind,lS,Result.andThen];simp[ReflectliteValue.elem,loadVar,isAgg,underlying,Tryz.underlying167,ha,Result.andThen,qy,mkF]
theorem rls(v x:Value):ReflectliteValue.set #[v,x]=(do
  let (zo (dst,a,fl),zo (src,b,_)):=(<- ReflectliteValue.parts v,<- ReflectliteValue.parts x)
   | unsupported (.noEntry "extern/(internal/reflectlite.Value).Set.zeroValue")
  if fl / ReflectliteValue.flagAddr % 2 == 0 then unsupported (.noEntry "extern/(internal/reflectlite.Value).Set.unaddressable")
  let val <- loadVar src b
  if <- Rtype.directlyAssignable dst src then storeVar dst a val
  else if <- Rtype.implements dst src then
   if(<- Rtype.kind src) == 20 then
    match val with
    | .nilIface => unsupported (.noEntry "extern/reflectlite: a nil value of one interface type handed on as a value of another")
    |_=>storeVar dst a val
   else storeVar dst a (.iface src val)
  else panicString ("reflectlite.Set: value of type " ++ (← Rtype.spelt src) ++ " is not assignable to type " ++ (← Rtype.spelt dst))
  pure (.tuple #[])):=rfl
theorem vN(a:Addr)(w:World):(ReflectliteValue.parts (.agg #[hd 165,.pointer (zo a),.int .u64 409])).run Tryz.prog w=.ok (zo (165,a,409)) w:=by kernel_rfl
theorem vO(a:Addr)(w:World):(ReflectliteValue.parts (.agg #[hd 165,.pointer (zo a),.int .u64 153])).run Tryz.prog w=.ok (zo (165,a,153)) w:=by kernel_rfl
theorem qx(w:World):(Rtype.directlyAssignable 165 165).run Tryz.prog w=.ok zt w:=by kernel_rfl
theorem sizeF(w:World):(sizeOf 165).run Tryz.prog w=.ok 1 w:=by kernel_rfl
theorem ACI(a b:Addr)(v d:Value)(W:World)(e:v.oneCell'=zt)(hs:a.spot=zn)(f:W.cell? b=zo v)(c:b.spot=zn)(h:W.cell? a=zo d)(g:W.frozen? a=zf) :
  (ReflectliteValue.set #[.agg #[hd 165,.pointer (zo a),.int .u64 409],.agg #[hd 165,.pointer (zo b),.int .u64 153]]).run Tryz.prog W
   = .ok (.tuple #[]) (W.setCell a v):=by
 rw[rls];simp only[Sem.run_bind,vN,vO,Result.andThen];obtain⟨l,m,n⟩:=a;obtain⟨i,j,k⟩:=b;simp only at hs c;subst hs;subst c;simp[ReflectliteValue.flagAddr,loadVar,isAgg,underlying,Tryz.underlying165,Result.andThen,qx,storeVar,Value.cells,sizeF,loadCells,loadCellsFrom,Addr.add,f];simp[storeCells,Addr.add];rw[run_store Tryz.prog W _ _ _ e];simp[h,g]
theorem xX(v:Value)(a:TypeId)(w:World):(Instr.typeAssert (.iface 330 v) a 256 zt).run Tryz.prog w=.ok (.tuple #[.nilIface,.bool zf]) w:=run_typeAssert_lacksB Tryz.underlying256 (by kernel_rfl) (by kernel_rfl) v a w
theorem jT(v:Value)(a:TypeId)(w:World):(Instr.typeAssert (.iface 330 v) a 259 zt).run Tryz.prog w=.ok (.tuple #[.nilIface,.bool zf]) w:=run_typeAssert_lacksB Tryz.underlying259 (by kernel_rfl) (by kernel_rfl) v a w
theorem gF(v:Value)(a:TypeId)(w:World):(Instr.typeAssert (.iface 330 v) a 261 zt).run Tryz.prog w=.ok (.tuple #[.nilIface,.bool zf]) w:=run_typeAssert_lacksB Tryz.underlying261 (by kernel_rfl) (by kernel_rfl) v a w
theorem as_nil(t:Value)(w:World):Calls Tryz.prog 112 #[.nilIface,t] w λe w'=>e=.returned (.bool zf)/\w'=w:=by
 go_enter Tryz.func112,Tryz.ntmps112
 go_wp2
 go_ret
 exact⟨rfl,rfl⟩
def w3(w:World)(t:Addr):World:=((w.alloc (.cells #[.pointer (zo t)] 167)).alloc (.cells #[hd 167,.pointer (zo ⟨w.heap.size,0,zn⟩),.int .u64 150] 217)).alloc (.cells #[hd 167,.pointer (zo ⟨w.heap.size,0,zn⟩),.int .u64 150] 217)
set_option maxHeartbeats 4000000 in
theorem as_hit(v:Value)(t:Addr)(old:Value)(w:World)(h1:v.oneCell'=zt)(hg:w.cell? ⟨1,0,zn⟩=zo (.iface 252 (.agg #[hd 159])))(hsp:t.spot=zn)(ht0:w.cell? t=zo old)(hf0:w.frozen? t=zf) :
  Calls Tryz.prog 112 #[.iface 165 (.agg #[v]),.iface 167 (.pointer (zo t))] w λev w'=>ev=.returned (.bool zt)/\w'=((w3 w t).alloc (.cells #[v] 165)).setCell t v:=by
 have h6:=@run_callFunc_extern Tryz.prog 162 _ (λargs=>ReflectliteValue.unpack (args.getD 0 (.tuple #[]))) Tryz.func162 (by kernel_rfl) (by kernel_rfl) (by kernel_rfl) (by kernel_rfl)
 have h7 := @run_callFunc_extern Tryz.prog 163 _ (ReflectliteValue.methodAny (ReflectliteValue.valueError "reflectlite.Value.Type" 0) (fun t _ _ _ => ReflectliteType.toType t)) Tryz.func163 (by kernel_rfl) (by kernel_rfl) (by kernel_rfl) (by kernel_rfl)
 have h8 := @run_callFunc_extern Tryz.prog 164 _ (ReflectliteValue.method (ReflectliteValue.valueError "reflectlite.Value.IsNil" 0) ReflectliteValue.isNil) Tryz.func164 (by kernel_rfl) (by kernel_rfl) (by kernel_rfl) (by kernel_rfl)
 have h27:=@run_callFunc_extern Tryz.prog 276 _ (ReflectliteType.abiMethod λt=>do pure (.int .u8 (<- Rtype.kind t))) Tryz.func276 (by kernel_rfl) (by kernel_rfl) (by kernel_rfl) (by kernel_rfl)
 have h37:=@run_callFunc_extern Tryz.prog 286 _ (ReflectliteType.method ReflectliteType.elem) Tryz.func286 (by kernel_rfl) (by kernel_rfl) (by kernel_rfl) (by kernel_rfl)
 have h38 := @run_callFunc_extern Tryz.prog 287 _ (ReflectliteType.relation "Implements" ReflectliteType.implements_) Tryz.func287 (by kernel_rfl) (by kernel_rfl) (by kernel_rfl) (by kernel_rfl)
 have h10:=@run_callFunc_extern Tryz.prog 166 _ ReflectliteType.typeOf Tryz.func166 (by kernel_rfl) (by kernel_rfl) (by kernel_rfl) (by kernel_rfl)
 have h35 := @run_callFunc_extern Tryz.prog 284 _ (ReflectliteType.relation "AssignableTo" ReflectliteType.assignableTo) Tryz.func284 (by kernel_rfl) (by kernel_rfl) (by kernel_rfl) (by kernel_rfl)
 have h11 := @run_callFunc_extern Tryz.prog 200 _ (ReflectliteValue.method (ReflectliteValue.valueError "reflectlite.Value.Elem" 0) ReflectliteValue.elem) Tryz.func200 (by kernel_rfl) (by kernel_rfl) (by kernel_rfl) (by kernel_rfl)
 have h12:=@run_callFunc_extern Tryz.prog 201 _ ReflectliteValue.set Tryz.func201 (by kernel_rfl) (by kernel_rfl) (by kernel_rfl) (by kernel_rfl);have tO:=rx;have mA:=Yt;have a25:=d9;have v25:=qi;have f6:=fa;have f7:=uc;have mK:=cL;have mE:=cK;have mI:=ZN;have k27:=sJ;have k25:=sI;have e27:=sG;have i25:=bU;have n8:=lF ⟨w.heap.size,0,zn⟩ t ((w.alloc (.cells #[.pointer (zo t)] 167)).alloc (.cells #[hd 167,.pointer (zo ⟨w.heap.size,0,zn⟩),.int .u64 150] 217)) (by simp)
 have hlt:1<w.heap.size:=by
  rcases xa 1 w.heap.size with h|h
  ·exact h
  ·simp[World.cell?,rz h]at hg
 have hg2:((w.alloc (.cells #[.pointer (zo t)] 167)).alloc (.cells #[hd 167,.pointer (zo ⟨w.heap.size,0,zn⟩),.int .u64 150] 217)).cell? ⟨1,0,zn⟩=zo (.iface 252 (.agg #[hd 159])):=by
  rw[World.cell?_alloc_lt _ _ ⟨1,0,zn⟩ (by simp;omega),World.cell?_alloc_lt _ _ ⟨1,0,zn⟩ hlt];exact hg
 have htl:t.block<w.heap.size:=by
  rcases xa t.block w.heap.size with h|h
  ·exact h
  ·simp[World.cell?,rz h]at ht0
 have el:=wu ⟨w.heap.size,0,zn⟩ t (w3 w t) (by unfold w3;rw[World.cell?_alloc_lt _ _ ⟨w.heap.size,0,zn⟩ (by simp;omega)];simp)
 have st:=ACI t ⟨w.heap.size+1+1+1,0,zn⟩ v old ((w3 w t).alloc (.cells #[v] 165)) h1 hsp
  (by unfold w3;rw[World.cell?_alloc_at _ _ _ _ (by simp)];rfl) rfl
  (by unfold w3;rw[World.cell?_alloc_lt _ _ t (by simp;omega),World.cell?_alloc_lt _ _ t (by simp;omega),World.cell?_alloc_lt _ _ t (by simp;omega),World.cell?_alloc_lt _ _ t htl];exact ht0)
  (by unfold w3;rw[World.frozen?_alloc_old _ _ t (by simp;omega),World.frozen?_alloc_old _ _ t (by simp;omega),World.frozen?_alloc_old _ _ t (by simp;omega),World.frozen?_alloc_old _ _ t (Nat.ne_of_lt htl)];exact hf0)
 unfold w3 at el st ⊢
 go_enter Tryz.func112,Tryz.ntmps112
 go_wp2
 refine wp_loop_rounds 1 ?_;rw[rounds_succ]
 go_wp2
 go_ret
 exact⟨rfl,rfl⟩
set_option maxHeartbeats 4000000 in
theorem as_plain(a:Value)(t:Addr)(w:World)(hg:w.cell? ⟨1,0,zn⟩=zo (.iface 252 (.agg #[hd 159]))) :
  Calls Tryz.prog 112 #[.iface 330 a,.iface 167 (.pointer (zo t))] w λev w'=>ev=.returned (.bool zf)/\w'=w3 w t:=by
 have h6:=@run_callFunc_extern Tryz.prog 162 _ (λargs=>ReflectliteValue.unpack (args.getD 0 (.tuple #[]))) Tryz.func162 (by kernel_rfl) (by kernel_rfl) (by kernel_rfl) (by kernel_rfl)
 have h7 := @run_callFunc_extern Tryz.prog 163 _ (ReflectliteValue.methodAny (ReflectliteValue.valueError "reflectlite.Value.Type" 0) (fun t _ _ _ => ReflectliteType.toType t)) Tryz.func163 (by kernel_rfl) (by kernel_rfl) (by kernel_rfl) (by kernel_rfl)
 have h8 := @run_callFunc_extern Tryz.prog 164 _ (ReflectliteValue.method (ReflectliteValue.valueError "reflectlite.Value.IsNil" 0) ReflectliteValue.isNil) Tryz.func164 (by kernel_rfl) (by kernel_rfl) (by kernel_rfl) (by kernel_rfl)
 have h27:=@run_callFunc_extern Tryz.prog 276 _ (ReflectliteType.abiMethod λt=>do pure (.int .u8 (<- Rtype.kind t))) Tryz.func276 (by kernel_rfl) (by kernel_rfl) (by kernel_rfl) (by kernel_rfl)
 have h37:=@run_callFunc_extern Tryz.prog 286 _ (ReflectliteType.method ReflectliteType.elem) Tryz.func286 (by kernel_rfl) (by kernel_rfl) (by kernel_rfl) (by kernel_rfl)
 have h38 := @run_callFunc_extern Tryz.prog 287 _ (ReflectliteType.relation "Implements" ReflectliteType.implements_) Tryz.func287 (by kernel_rfl) (by kernel_rfl) (by kernel_rfl) (by kernel_rfl)
 have h10:=@run_callFunc_extern Tryz.prog 166 _ ReflectliteType.typeOf Tryz.func166 (by kernel_rfl) (by kernel_rfl) (by kernel_rfl) (by kernel_rfl)
 have h35 := @run_callFunc_extern Tryz.prog 284 _ (ReflectliteType.relation "AssignableTo" ReflectliteType.assignableTo) Tryz.func284 (by kernel_rfl) (by kernel_rfl) (by kernel_rfl) (by kernel_rfl)
 have tO:=ru;have mA:=Yt;have a25:=d8;have f6:=fa;have f7:=uc;have mK:=cL;have mE:=cK;have mI:=ZN;have k27:=sJ;have k25:=sI;have e27:=sG;have i25:=bU;have nE:=xX;have uE:=jT;have vE:=gF;have n8:=lF ⟨w.heap.size,0,zn⟩ t ((w.alloc (.cells #[.pointer (zo t)] 167)).alloc (.cells #[hd 167,.pointer (zo ⟨w.heap.size,0,zn⟩),.int .u64 150] 217)) (by simp)
 have hlt:1<w.heap.size:=by
  rcases xa 1 w.heap.size with h|h
  ·exact h
  ·simp[World.cell?,rz h]at hg
 have hg2:((w.alloc (.cells #[.pointer (zo t)] 167)).alloc (.cells #[hd 167,.pointer (zo ⟨w.heap.size,0,zn⟩),.int .u64 150] 217)).cell? ⟨1,0,zn⟩=zo (.iface 252 (.agg #[hd 159])):=by
  rw[World.cell?_alloc_lt _ _ ⟨1,0,zn⟩ (by simp;omega),World.cell?_alloc_lt _ _ ⟨1,0,zn⟩ hlt];exact hg
 unfold w3
 go_enter Tryz.func112,Tryz.ntmps112
 go_wp2
 refine wp_loop_rounds 1 ?_;rw[rounds_succ]
 go_wp2
 go_ret
 exact⟨rfl,rfl⟩
theorem lG(v:Value)(w:World):(ReflectliteType.typeOf #[.iface 330 v]).run Tryz.prog w=.ok (.iface 252 (.agg #[hd 330])) w:=by kernel_rfl
def wq : TypeId → Sem Value := fun t => do Rtype.noPackHeld "Comparable" t; pure (.bool (← typeInfo t).comparable)
theorem dg(w:World):((ReflectliteType.method wq) #[.agg #[hd 330]]).run Tryz.prog w=.ok (.bool zt) w:=by kernel_rfl
theorem aM(v : Value)(w : World) : (Go.method 462 252 v "Comparable").run Tryz.prog w = .ok (285, v) w := by kernel_rfl
theorem uo:(Tryz.prog.info? 330).map (·.comparable)=zo zt:=by kernel_rfl
theorem uq:(Tryz.prog.info? 350).map (·.size)=zo 1:=by kernel_rfl
theorem is_same(a:Addr)(w:World) :
  Calls Tryz.prog 113 #[.iface 330 (.pointer (zo a)),.iface 330 (.pointer (zo a))] w λe w'=>e=.returned (.bool zt)/\w'=w:=by
 obtain⟨i,hi,b⟩:=ul.1 uo;obtain⟨j,f,g⟩:=ul.1 uq;have k:=@run_callFunc_extern Tryz.prog 166 _ ReflectliteType.typeOf Tryz.func166 (by kernel_rfl) (by kernel_rfl) (by kernel_rfl) (by kernel_rfl);have c:=@run_callFunc_extern Tryz.prog 285 _ (ReflectliteType.method wq) Tryz.func285 (by kernel_rfl) (by kernel_rfl) (by kernel_rfl) (by kernel_rfl);have m:=lG;have h:=dg;have l:=aM;have d:=run_eql_iface_ptr_same (P:=Tryz.prog) w a Tryz.underlying159 Tryz.underlying330 hi b f
 go_enter Tryz.func113,Tryz.ntmps113
 go_wp2
 refine wp_loop_rounds 1 ?_;rw[rounds_succ]
 go_wp2
 go_ret
 exact⟨rfl,rfl⟩
end Go.Proofs.YtfceigpbgndbgaaGreatDoor.Pr
namespace Go.Proofs.YtfceigpbgndbgaaGreatDoor.Gv
open Go Pi Go.RowKit
set_option maxRecDepth 100000
instance gl:Gl where
 g n:=bif ns n 0 then zo [.ifc 330 (.gk 0)]else bif ns n 1 then zo [.ifc 252 (.agg [.adr 3 159])]else zn
 pr f:=bif ns f 112 then zo (.as [(167,165)] [330])else bif ns f 113 then zo (.is [330])else bif ns f 146 then zo .cmp else zn
theorem wx:Gl.g 1=zo [.ifc 252 (.agg [.adr 3 159])]:=rfl
theorem gO(t:Addr)(v a:Value)(W:World)(b:v.oneCell'=zt)(hs:t.spot=zn)(d:W.cell? t=zo a)(c:W.frozen? t=zf) :
  (Instr.storeAt 165 (.pointer (zo t)) (.agg #[v])).run Tryz.prog W=.ok () (W.setCell t v):=by
 obtain⟨e,f,g⟩:=t;simp only at hs;subst hs;simp[Instr.storeAt,Instr.sureAddr,asAddr,isAgg,underlying,Tryz.underlying165,Result.andThen,storeVar,Value.cells,Pr.sizeF,Addr.add];simp[storeCells,Addr.add];rw[run_store Tryz.prog W _ _ _ b];simp[d,c]
theorem uk(a b:ByteArray)(w:World):Calls Tryz.prog 146 #[.string a,.string b] w λe w'=>e=.returned (.int .i64 (Lib.compareBytes a.data.toList b.data.toList))/\w'=w:=by
 have c:∀ w,Calls Tryz.prog 187 #[.string a,.string b] w λe w'=>e=.returned (.int .i64 (Lib.compareBytes a.data.toList b.data.toList))/\w'=w:=by
  intro w
  go_enter Tryz.func187,Tryz.ntmps187
  go_wp2
  rw[run_callFunc_extern Tryz.func212 (by kernel_rfl) (by kernel_rfl) (by kernel_rfl) (e:=Extern.BytealgCompare.compare) (by kernel_rfl),Lib.run_compareString];simp only[Result.andThen];rw[Oper.upon_value]
  go_wp2
  go_ret
  exact⟨rfl,rfl⟩
 go_enter Tryz.func146,Tryz.ntmps146
 go_wp2_with (go_at_call 187;refine(c _).mono ?_;rintro e w' ⟨rfl,rfl⟩)
 go_ret
 exact⟨rfl,rfl⟩
theorem two{M:Ak}{μ:Mu}{p q:PV}{vs:List Value}(b:RepL M μ [p,q] vs):∃ x y,vs=[x,y]/\Rep M μ p x/\Rep M μ q y:=by
 obtain⟨x,l,rfl,c,a⟩:=b.cons_inv;obtain⟨y,l,rfl,d,a⟩:=a.cons_inv;cases a.nil_inv;exact⟨x,y,rfl,c,d⟩
theorem stay{M:Ak}{μ:Mu}{h:Hp}{w:World}(s:Sim M μ h w){f:FuncId}{vs:List Value}{b:PV}{v:Value}(i:Rep M μ b v)(hc:Calls Tryz.prog f vs.toArray w λe w'=>e=.returned v/\w'=w)(cs:List Frame) :
  ∃ a μ' w' fr x,Sim a μ' h w'/\Grow M μ w a μ' w'/\Steps Tryz.prog (lone (Frame.enter Tryz.prog f vs.toArray .normal) cs w) (lone fr cs w')/\fr.fn=f/\Rep a μ' b x/\fr.leaving Tryz.prog w' (.returned x):=by
 obtain⟨w',fr,rfl,c,d,g⟩:=TK hc cs;exact⟨M,μ,w',fr,v,s,.refl _ _ _,c,d,i,g⟩
theorem prim:Eg Tryz.prog:=by
 intro f p i args h v h' hd M μ w vs s L cs;simp only[Gl.pr,gl]at i;cases e1:ns f 112 with
 |true=>
  have:=eb e1;subst this;rw[e1]at i;cases i;rcases args with _|⟨e,_|⟨t,_|⟨_,_⟩⟩⟩<;>try (cases hd;done)
  replace hd:(SA Tryz.prog [(167,165)] [330] e t h).map (λ(b,h)=>(PV.bool b,h))=zo (v,h'):=hd;obtain⟨x,y,rfl,q,E⟩:=two L;obtain⟨⟨b,h1⟩,d,e0⟩:=AA hd;clear hd;have hd:=d;clear d;cases e0;have hg:=s.mem _ _ (Gl.handle s.glb wx);unfold SA at hd;split at hd
  ·cases hd;cases q;exact stay s (.bool _ _) (Pr.as_nil y w) cs
  ·rename_i u a;split at hd
   ·rename_i pt id off;split at hd
    ·rename_i T r
     obtain⟨rfl,rfl⟩:pt=167/\T=165:=by
      unfold SB at r;cases e3:ns 167 pt with
      |true=>rw[e3]at r;cases r;exact⟨(eb e3).symm,rfl⟩
      |false=>rw[e3]at r;cases r
     cases q with
     |ifc _ _ _ xv hxv=>
      cases E with
      |ifc _ _ _ yv hyv=>
       cases e4:ns u 165 with
       |true=>
        have:=eb e4;subst this;rw[e4]at hd;simp only[zb]at hd;split at hd
        ·rename_i c h2 o;cases hd;obtain⟨z,rfl,F,hz⟩:=S3 hxv;obtain⟨k,Y,O,rfl,B,N⟩:=S5 s o hyv;obtain⟨w',fr,rfl,S,U,W⟩:=TK (Pr.as_hit z ⟨k,Y,zn⟩ O w F hg.2 rfl B N) cs;obtain⟨M1,s1,I⟩:=s.junk #[.pointer (zo ⟨k,Y,zn⟩)] 167;obtain⟨M2,s2,J⟩:=s1.junk #[Pr.hd 167,.pointer (zo ⟨w.heap.size,0,zn⟩),.int .u64 150] 217;obtain⟨Z,X,K⟩:=s2.junk #[Pr.hd 167,.pointer (zo ⟨w.heap.size,0,zn⟩),.int .u64 150] 217;obtain⟨M4,s4,g4⟩:=X.junk #[z] 165;have g:=(I.trans J).trans (K.trans g4);have hS:=QX (P:=Tryz.prog) s4 (hyv.mono g.m g.u) (hxv.mono g.m g.u) o;obtain⟨b',o',G,e5,l,A⟩:=S5 s4 o (hyv.mono g.m g.u);cases e5;have D:=gO ⟨k,Y,zn⟩ z G _ F rfl l A;obtain⟨M5,μ5,w5,j,s5,g5⟩:=hS;simp only[Sem.run_bind,D,Result.andThen,Sem.run_pure,Result.ok.injEq,true_and]at j;subst j;exact⟨M5,μ5,_,fr,.bool zt,s5,g.trans g5,S,U,.bool _ _,W⟩
        ·cases hd
       |false=>
        rw[e4]at hd;simp only[zj]at hd;replace hd:=Aa hd;obtain⟨C,hd⟩:=hd;cases hd
        have hu:u=330:=by
         simp only[yo,yr,ym]at C;exact eb C
        subst hu;obtain⟨k,rfl⟩:∃ k,yv=.pointer (zo k):=by cases hyv;exact⟨_,rfl⟩
        obtain⟨w',fr,rfl,S,U,W⟩:=TK (Pr.as_plain xv k w hg.2) cs;obtain⟨M1,s1,I⟩:=s.junk #[.pointer (zo k)] 167;obtain⟨M2,s2,J⟩:=s1.junk #[Pr.hd 167,.pointer (zo ⟨w.heap.size,0,zn⟩),.int .u64 150] 217;obtain⟨Z,X,K⟩:=s2.junk #[Pr.hd 167,.pointer (zo ⟨w.heap.size,0,zn⟩),.int .u64 150] 217;exact⟨Z,μ,_,fr,.bool zf,X,(I.trans J).trans K,S,U,.bool _ _,W⟩
    ·cases hd
   ·cases hd
  ·cases hd
 |false=>
  rw[e1]at i;simp only[zj]at i;cases e2:ns f 113 with
  |true=>
   have:=eb e2;subst this;rw[e2]at i;cases i;rcases args with _|⟨e,_|⟨t,_|⟨_,_⟩⟩⟩<;>try (cases hd;done)
   replace hd:(S1 [330] e t).map (λb=>(PV.bool b,h))=zo (v,h'):=hd;obtain⟨x,y,rfl,q,E⟩:=two L;obtain⟨b,d,hh⟩:=AA hd;clear hd;have hd:=d;clear d;cases hh;unfold S1 at hd;split at hd<;>try (cases hd;done)
   rename_i u a v b;replace hd:=Aa hd;obtain⟨hc,hd⟩:=hd;cases hd;simp only[Bool.and_eq_true,yo,yr,ym]at hc;obtain⟨⟨e5,e6⟩,e7⟩:=hc;cases eb e5;cases eb e6;cases eb e7;cases q with
   |ifc _ _ _ xv hxv=>cases E with
    |ifc _ _ _ yv hyv=>cases hxv with
     |gk _ _ t1 a1 k1=>cases hyv with
      |gk _ _ t2 a2 k2=>
       rw[k1]at k2;cases k2;exact stay s (.bool _ _) (Pr.is_same a1 w) cs
  |false=>
   rw[e2]at i;simp only[zj]at i;cases e3:ns f 146 with
   |true=>
    have:=eb e3;subst this;rw[e3]at i;cases i;rcases args with _|⟨e,_|⟨t,_|⟨_,_⟩⟩⟩<;>try (cases hd;done)
    replace hd:(S0 e t).map (λn=>(PV.int .i64 n,h))=zo (v,h'):=hd;obtain⟨n,d,hh⟩:=AA hd;clear hd;cases hh;unfold S0 at d;split at d<;>try (cases d;done)
    cases d;obtain⟨x,y,rfl,q,E⟩:=two L;cases q with
    |str _ x=>cases E with
     |str _ y=>exact stay s (by rw[Hm];exact .int _ _ _) (uk x y w) cs
   |false=>rw[e3]at i;cases i
theorem glw{w:World}{a:Addr}(f:w.cell? ⟨0,0,zn⟩=zo (.iface 330 (.pointer (zo a))))(h:w.cell? ⟨1,0,zn⟩=zo (.iface 252 (.agg #[.pointer (zo ⟨3,159,zn⟩)]))):GlW w:=by
 refine Tf λg cs e j c d=> ?_;simp only[Gl.g,gl]at e;cases e1:ns g 0 with
 |true=>
  have:=eb e1;subst this;rw[e1]at e;cases e
  match j,d with
  |0,d=>
   cases d;exact⟨_,f,rfl,.ifc _ _ _ _ (.gk _ _ _ a (by unfold D7;simpa using f))⟩
 |false=>
  rw[e1]at e;simp only[zj]at e;cases e2:ns g 1 with
  |true=>
   have:=eb e2;subst this;rw[e2]at e;cases e
   match j,d with
   |0,d=>
    cases d;refine⟨_,h,rfl,.ifc _ _ _ _ (.agg _ _ _ rfl ?_ ?_)⟩
    ·intro i v b
     match i,b with
     |0,b=>cases b;rfl
    ·intro i c v hc b
     match i,hc,b with
     |0,hc,b=>cases hc;cases b;exact .adr _ _ _
  |false=>rw[e2]at e;cases e
end Go.Proofs.YtfceigpbgndbgaaGreatDoor.Gv
