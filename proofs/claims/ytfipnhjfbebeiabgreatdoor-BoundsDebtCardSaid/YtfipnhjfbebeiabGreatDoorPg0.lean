/- What the package-level variables hold that the law reads, and errors.As, errors.Is answered as a whole, by contracts. Conditions: the premises of each theorem. -/
import Derived.Test.YtfipnhjfbebeiabGreatDoorPp2
import Derived.Test.YtfipnhjfbebeiabGreatDoorRows
import Derived.WalkKit
import Derived.LaidEql
import Derived.Stop.Asserts
import Derived.RowKitTokens
set_option linter.all false
open List renaming any_cons->TT, any_nil->aaa
open Nat renaming beq->sa, eq_of_beq_eq_true->ed, lt_or_ge->xn
open Array renaming getElem?_eq_none->sk
open Option renaming map_eq_some_iff->xa
open Bool renaming or_false->F2
namespace Go.Proofs.YtfipnhjfbebeiabGreatDoor.Pr
open Go.RowKit Go.Extern.Stop Go.Stop Go.Extern
abbrev hd (t:Nat):Value:=.pointer (some ⟨2,t,none⟩)
theorem dj (t:Addr) (w:World):(ReflectliteValue.unpack (.iface 152 (.pointer (some t)))).run Tryz.prog w
  = .ok (.agg #[hd 152,.pointer (some ⟨w.heap.size,0,none⟩),.int .u64 150]) (w.alloc (.cells #[.pointer (some t)] 152)):=by kernel_rfl
theorem se (a : Addr) (w : World) : (ReflectliteValue.methodAny (ReflectliteValue.valueError "reflectlite.Value.Type" 0) (fun t _ _ _ => ReflectliteType.toType t) #[.agg #[hd 152, .pointer (some a), .int .u64 150]]).run Tryz.prog w
  = .ok (.iface 235 (.agg #[hd 152])) w:=by kernel_rfl
theorem am (h : Value) (w : World) : (Go.method 439 235 (.agg #[h]) "Kind").run Tryz.prog w = .ok (235, h) w := by kernel_rfl
theorem qd (w:World):((ReflectliteType.abiMethod λt=>(λa:Nat=>Value.int IntKind.u8 (a:Int)) <$> Rtype.kind t) #[hd 152]).run Tryz.prog w = .ok (.int .u8 22) w:=by kernel_rfl
theorem qc (w:World):((ReflectliteType.abiMethod λt=>(λa:Nat=>Value.int IntKind.u8 (a:Int)) <$> Rtype.kind t) #[hd 150]).run Tryz.prog w = .ok (.int .u8 25) w:=by kernel_rfl
theorem zX (z:Sem Value) (f:TypeId->Addr->Nat->Nat->Sem Value) (v:Value) :
  ReflectliteValue.method z f #[v]=(do match <- ReflectliteValue.parts v with | none=>z | some (t,a,fl)=>f t a fl (fl % 32)):=rfl
theorem kF (a:Addr) (w:World):(ReflectliteValue.parts (.agg #[hd 152,.pointer (some a),.int .u64 150])).run Tryz.prog w = .ok (some (152,a,150)) w:=by kernel_rfl
theorem ju (a p:Addr) (W:World) (ha:W.cell? a=some (.pointer (some p))) :
  (ReflectliteValue.method (ReflectliteValue.valueError "reflectlite.Value.IsNil" 0) ReflectliteValue.isNil #[.agg #[hd 152, .pointer (some a), .int .u64 150]]).run Tryz.prog W = .ok (.bool false) W := by
 rw [zX];simp only [Sem.run_bind,kF,Result.andThen];simp [ReflectliteValue.isNil,loadVar,isAgg,underlying,Tryz.underlying152,ha,Result.andThen]
theorem al (h : Value) (w : World) : (Go.method 439 235 (.agg #[h]) "Elem").run Tryz.prog w = .ok (246, .agg #[h]) w := by kernel_rfl
theorem YV (h : Value) (w : World) : (Go.method 439 235 (.agg #[h]) "Implements").run Tryz.prog w = .ok (247, .agg #[h]) w := by kernel_rfl
theorem X2 (h : Value) (w : World) : (Go.method 439 235 (.agg #[h]) "AssignableTo").run Tryz.prog w = .ok (244, .agg #[h]) w := by kernel_rfl
theorem qX (w:World):(ReflectliteType.method ReflectliteType.elem #[.agg #[hd 152]]).run Tryz.prog w = .ok (.iface 235 (.agg #[hd 150])) w:=by kernel_rfl
theorem aH (w : World) : (ReflectliteType.relation "Implements" ReflectliteType.implements_ #[.agg #[hd 150], .iface 235 (.agg #[hd 144])]).run Tryz.prog w = .ok (.bool true) w := by kernel_rfl
theorem qQ (v:Value) (w:World):(ReflectliteType.typeOf #[.iface 150 v]).run Tryz.prog w = .ok (.iface 235 (.agg #[hd 150])) w:=by kernel_rfl
theorem qP (v:Value) (w:World):(ReflectliteType.typeOf #[.iface 306 v]).run Tryz.prog w = .ok (.iface 235 (.agg #[hd 306])) w:=by kernel_rfl
theorem cc (w : World) : (ReflectliteType.relation "AssignableTo" ReflectliteType.assignableTo #[.agg #[hd 150], .iface 235 (.agg #[hd 150])]).run Tryz.prog w = .ok (.bool true) w := by kernel_rfl
theorem cb (w : World) : (ReflectliteType.relation "AssignableTo" ReflectliteType.assignableTo #[.agg #[hd 306], .iface 235 (.agg #[hd 150])]).run Tryz.prog w = .ok (.bool false) w := by kernel_rfl
theorem pJ (v:Value) (w:World):(ReflectliteValue.unpack (.iface 150 (.agg #[v]))).run Tryz.prog w
  = .ok (.agg #[hd 150,.pointer (some ⟨w.heap.size,0,none⟩),.int .u64 153]) (w.alloc (.cells #[v] 150)):=by kernel_rfl
theorem pX (w:World):(Rtype.elem? 152).run Tryz.prog w = .ok (some 150) w:=by kernel_rfl
theorem mkF (p:Addr) (w:World):(ReflectliteValue.mk 150 p ReflectliteValue.flagAddr).run Tryz.prog w = .ok (.agg #[hd 150,.pointer (some p),.int .u64 409]) w:=by kernel_rfl
theorem ud (a p:Addr) (W:World) (ha:W.cell? a=some (.pointer (some p))) :
  (ReflectliteValue.method (ReflectliteValue.valueError "reflectlite.Value.Elem" 0) ReflectliteValue.elem #[.agg #[hd 152, .pointer (some a), .int .u64 150]]).run Tryz.prog W
   = .ok (.agg #[hd 150,.pointer (some p),.int .u64 409]) W:=by
 rw [zX];simp only [Sem.run_bind,kF,Result.andThen];simp [ReflectliteValue.elem,loadVar,isAgg,underlying,Tryz.underlying152,ha,Result.andThen,pX,mkF]
theorem rls (v x:Value):ReflectliteValue.set #[v,x]=(do
  let (some (dst,a,fl),some (src,b,_)):=(<- ReflectliteValue.parts v,<- ReflectliteValue.parts x)
   | unsupported (.noEntry "extern/(internal/reflectlite.Value).Set.zeroValue")
  if fl / ReflectliteValue.flagAddr % 2 == 0 then unsupported (.noEntry "extern/(internal/reflectlite.Value).Set.unaddressable")
  let val <- loadVar src b
  if <- Rtype.directlyAssignable dst src then storeVar dst a val
  else if <- Rtype.implements dst src then
   if (<- Rtype.kind src) == 20 then
    match val with
    | .nilIface => unsupported (.noEntry "extern/reflectlite: a nil value of one interface type handed on as a value of another")
    | _=>storeVar dst a val
   else storeVar dst a (.iface src val)
  else panicString ("reflectlite.Set: value of type " ++ (← Rtype.spelt src) ++ " is not assignable to type " ++ (← Rtype.spelt dst))
  pure (.tuple #[])):=rfl
theorem tD (a:Addr) (w:World):(ReflectliteValue.parts (.agg #[hd 150,.pointer (some a),.int .u64 409])).run Tryz.prog w = .ok (some (150,a,409)) w:=by kernel_rfl
theorem tG (a:Addr) (w:World):(ReflectliteValue.parts (.agg #[hd 150,.pointer (some a),.int .u64 153])).run Tryz.prog w = .ok (some (150,a,153)) w:=by kernel_rfl
theorem pW (w:World):(Rtype.directlyAssignable 150 150).run Tryz.prog w = .ok true w:=by kernel_rfl
theorem sizeF (w:World):(sizeOf 150).run Tryz.prog w = .ok 1 w:=by kernel_rfl
theorem zV (a b:Addr) (v d:Value) (W:World) (e:v.oneCell'=true) (hs:a.spot=none) (f:W.cell? b=some v) (c:b.spot=none) (h:W.cell? a=some d) (g:W.frozen? a=false) :
  (ReflectliteValue.set #[.agg #[hd 150,.pointer (some a),.int .u64 409],.agg #[hd 150,.pointer (some b),.int .u64 153]]).run Tryz.prog W
   = .ok (.tuple #[]) (W.setCell a v):=by
 rw [rls];simp only [Sem.run_bind,tD,tG,Result.andThen];obtain ⟨l,m,n⟩:=a;obtain ⟨i,j,k⟩:=b;simp only at hs c;subst hs;subst c;simp [ReflectliteValue.flagAddr,loadVar,isAgg,underlying,Tryz.underlying150,Result.andThen,pW,storeVar,Value.cells,sizeF,loadCells,loadCellsFrom,Addr.add,f];simp [storeCells,Addr.add];rw [run_store Tryz.prog W _ _ _ e];simp [h,g]
theorem um (v:Value) (a:TypeId) (w:World):(Instr.typeAssert (.iface 306 v) a 239 true).run Tryz.prog w = .ok (.tuple #[.nilIface,.bool false]) w:=run_typeAssert_lacksB Tryz.underlying239 (by kernel_rfl) (by kernel_rfl) v a w
theorem iF (v:Value) (a:TypeId) (w:World):(Instr.typeAssert (.iface 306 v) a 242 true).run Tryz.prog w = .ok (.tuple #[.nilIface,.bool false]) w:=run_typeAssert_lacksB Tryz.underlying242 (by kernel_rfl) (by kernel_rfl) v a w
theorem eK (v:Value) (a:TypeId) (w:World):(Instr.typeAssert (.iface 306 v) a 244 true).run Tryz.prog w = .ok (.tuple #[.nilIface,.bool false]) w:=run_typeAssert_lacksB Tryz.underlying244 (by kernel_rfl) (by kernel_rfl) v a w
theorem as_nil (t:Value) (w:World):Calls Tryz.prog 90 #[.nilIface,t] w λe w'=>e = .returned (.bool false)/\w'=w:=by
 go_enter Tryz.func90,Tryz.ntmps90
 go_wp2
 go_ret
 exact ⟨rfl,rfl⟩
def w3 (w:World) (t:Addr):World:=((w.alloc (.cells #[.pointer (some t)] 152)).alloc (.cells #[hd 152,.pointer (some ⟨w.heap.size,0,none⟩),.int .u64 150] 199)).alloc (.cells #[hd 152,.pointer (some ⟨w.heap.size,0,none⟩),.int .u64 150] 199)
set_option maxHeartbeats 4000000 in
theorem as_hit (v:Value) (t:Addr) (old:Value) (w:World) (h1:v.oneCell'=true) (hg:w.cell? ⟨1,0,none⟩=some (.iface 235 (.agg #[hd 144]))) (hsp:t.spot=none) (ht0:w.cell? t=some old) (hf0:w.frozen? t=false) :
  Calls Tryz.prog 90 #[.iface 150 (.agg #[v]),.iface 152 (.pointer (some t))] w λev w'=>ev = .returned (.bool true)/\w'=((w3 w t).alloc (.cells #[v] 150)).setCell t v:=by
 have h6 := @run_callFunc_extern Tryz.prog 138 _ (λargs=>ReflectliteValue.unpack (args.getD 0 (.tuple #[]))) Tryz.func138 (by kernel_rfl) (by kernel_rfl) (by kernel_rfl) (by kernel_rfl)
 have h7 := @run_callFunc_extern Tryz.prog 139 _ (ReflectliteValue.methodAny (ReflectliteValue.valueError "reflectlite.Value.Type" 0) (fun t _ _ _ => ReflectliteType.toType t)) Tryz.func139 (by kernel_rfl) (by kernel_rfl) (by kernel_rfl) (by kernel_rfl)
 have h8 := @run_callFunc_extern Tryz.prog 140 _ (ReflectliteValue.method (ReflectliteValue.valueError "reflectlite.Value.IsNil" 0) ReflectliteValue.isNil) Tryz.func140 (by kernel_rfl) (by kernel_rfl) (by kernel_rfl) (by kernel_rfl)
 have h27 := @run_callFunc_extern Tryz.prog 235 _ (ReflectliteType.abiMethod λt=>do pure (.int .u8 (<- Rtype.kind t))) Tryz.func235 (by kernel_rfl) (by kernel_rfl) (by kernel_rfl) (by kernel_rfl)
 have h37 := @run_callFunc_extern Tryz.prog 246 _ (ReflectliteType.method ReflectliteType.elem) Tryz.func246 (by kernel_rfl) (by kernel_rfl) (by kernel_rfl) (by kernel_rfl)
 have h38 := @run_callFunc_extern Tryz.prog 247 _ (ReflectliteType.relation "Implements" ReflectliteType.implements_) Tryz.func247 (by kernel_rfl) (by kernel_rfl) (by kernel_rfl) (by kernel_rfl)
 have h10 := @run_callFunc_extern Tryz.prog 142 _ ReflectliteType.typeOf Tryz.func142 (by kernel_rfl) (by kernel_rfl) (by kernel_rfl) (by kernel_rfl)
 have h35 := @run_callFunc_extern Tryz.prog 244 _ (ReflectliteType.relation "AssignableTo" ReflectliteType.assignableTo) Tryz.func244 (by kernel_rfl) (by kernel_rfl) (by kernel_rfl) (by kernel_rfl)
 have h11 := @run_callFunc_extern Tryz.prog 170 _ (ReflectliteValue.method (ReflectliteValue.valueError "reflectlite.Value.Elem" 0) ReflectliteValue.elem) Tryz.func170 (by kernel_rfl) (by kernel_rfl) (by kernel_rfl) (by kernel_rfl)
 have h12 := @run_callFunc_extern Tryz.prog 171 _ ReflectliteValue.set Tryz.func171 (by kernel_rfl) (by kernel_rfl) (by kernel_rfl) (by kernel_rfl);have tO:=qQ;have mA:=X2;have a25:=cc;have v25:=pJ;have f6:=dj;have f7:=se;have mK:=am;have mE:=al;have mI:=YV;have k27:=qd;have k25:=qc;have zE:=qX;have i25:=aH;have n8:=ju ⟨w.heap.size,0,none⟩ t ((w.alloc (.cells #[.pointer (some t)] 152)).alloc (.cells #[hd 152,.pointer (some ⟨w.heap.size,0,none⟩),.int .u64 150] 199)) (by simp)
 have hlt:1<w.heap.size:=by
  rcases xn 1 w.heap.size with h | h
  ·exact h
  ·simp [World.cell?,sk h] at hg
 have hg2:((w.alloc (.cells #[.pointer (some t)] 152)).alloc (.cells #[hd 152,.pointer (some ⟨w.heap.size,0,none⟩),.int .u64 150] 199)).cell? ⟨1,0,none⟩=some (.iface 235 (.agg #[hd 144])):=by
  rw [World.cell?_alloc_lt _ _ ⟨1,0,none⟩ (by simp;omega),World.cell?_alloc_lt _ _ ⟨1,0,none⟩ hlt];exact hg
 have htl:t.block<w.heap.size:=by
  rcases xn t.block w.heap.size with h | h
  ·exact h
  ·simp [World.cell?,sk h] at ht0
 have el:=ud ⟨w.heap.size,0,none⟩ t (w3 w t) (by unfold w3;rw [World.cell?_alloc_lt _ _ ⟨w.heap.size,0,none⟩ (by simp;omega)];simp)
 have st:=zV t ⟨w.heap.size+1+1+1,0,none⟩ v old ((w3 w t).alloc (.cells #[v] 150)) h1 hsp
  (by unfold w3;rw [World.cell?_alloc_at _ _ _ _ (by simp)];rfl) rfl
  (by unfold w3;rw [World.cell?_alloc_lt _ _ t (by simp;omega),World.cell?_alloc_lt _ _ t (by simp;omega),World.cell?_alloc_lt _ _ t (by simp;omega),World.cell?_alloc_lt _ _ t htl];exact ht0)
  (by unfold w3;rw [World.frozen?_alloc_old _ _ t (by simp;omega),World.frozen?_alloc_old _ _ t (by simp;omega),World.frozen?_alloc_old _ _ t (by simp;omega),World.frozen?_alloc_old _ _ t (Nat.ne_of_lt htl)];exact hf0)
 unfold w3 at el st ⊢
 go_enter Tryz.func90,Tryz.ntmps90
 go_wp2
 refine wp_loop_rounds 1 ?_;rw [rounds_succ]
 go_wp2
 go_ret
 exact ⟨rfl,rfl⟩
set_option maxHeartbeats 4000000 in
theorem as_plain (a:Value) (t:Addr) (w:World) (hg:w.cell? ⟨1,0,none⟩=some (.iface 235 (.agg #[hd 144]))) :
  Calls Tryz.prog 90 #[.iface 306 a,.iface 152 (.pointer (some t))] w λev w'=>ev = .returned (.bool false)/\w'=w3 w t:=by
 have h6 := @run_callFunc_extern Tryz.prog 138 _ (λargs=>ReflectliteValue.unpack (args.getD 0 (.tuple #[]))) Tryz.func138 (by kernel_rfl) (by kernel_rfl) (by kernel_rfl) (by kernel_rfl)
 have h7 := @run_callFunc_extern Tryz.prog 139 _ (ReflectliteValue.methodAny (ReflectliteValue.valueError "reflectlite.Value.Type" 0) (fun t _ _ _ => ReflectliteType.toType t)) Tryz.func139 (by kernel_rfl) (by kernel_rfl) (by kernel_rfl) (by kernel_rfl)
 have h8 := @run_callFunc_extern Tryz.prog 140 _ (ReflectliteValue.method (ReflectliteValue.valueError "reflectlite.Value.IsNil" 0) ReflectliteValue.isNil) Tryz.func140 (by kernel_rfl) (by kernel_rfl) (by kernel_rfl) (by kernel_rfl)
 have h27 := @run_callFunc_extern Tryz.prog 235 _ (ReflectliteType.abiMethod λt=>do pure (.int .u8 (<- Rtype.kind t))) Tryz.func235 (by kernel_rfl) (by kernel_rfl) (by kernel_rfl) (by kernel_rfl)
 have h37 := @run_callFunc_extern Tryz.prog 246 _ (ReflectliteType.method ReflectliteType.elem) Tryz.func246 (by kernel_rfl) (by kernel_rfl) (by kernel_rfl) (by kernel_rfl)
 have h38 := @run_callFunc_extern Tryz.prog 247 _ (ReflectliteType.relation "Implements" ReflectliteType.implements_) Tryz.func247 (by kernel_rfl) (by kernel_rfl) (by kernel_rfl) (by kernel_rfl)
 have h10 := @run_callFunc_extern Tryz.prog 142 _ ReflectliteType.typeOf Tryz.func142 (by kernel_rfl) (by kernel_rfl) (by kernel_rfl) (by kernel_rfl)
 have h35 := @run_callFunc_extern Tryz.prog 244 _ (ReflectliteType.relation "AssignableTo" ReflectliteType.assignableTo) Tryz.func244 (by kernel_rfl) (by kernel_rfl) (by kernel_rfl) (by kernel_rfl)
 have tO:=qP;have mA:=X2;have a25:=cb;have f6:=dj;have f7:=se;have mK:=am;have mE:=al;have mI:=YV;have k27:=qd;have k25:=qc;have zE:=qX;have i25:=aH;have nE:=um;have uE:=iF;have vE:=eK;have n8:=ju ⟨w.heap.size,0,none⟩ t ((w.alloc (.cells #[.pointer (some t)] 152)).alloc (.cells #[hd 152,.pointer (some ⟨w.heap.size,0,none⟩),.int .u64 150] 199)) (by simp)
 have hlt:1<w.heap.size:=by
  rcases xn 1 w.heap.size with h | h
  ·exact h
  ·simp [World.cell?,sk h] at hg
 have hg2:((w.alloc (.cells #[.pointer (some t)] 152)).alloc (.cells #[hd 152,.pointer (some ⟨w.heap.size,0,none⟩),.int .u64 150] 199)).cell? ⟨1,0,none⟩=some (.iface 235 (.agg #[hd 144])):=by
  rw [World.cell?_alloc_lt _ _ ⟨1,0,none⟩ (by simp;omega),World.cell?_alloc_lt _ _ ⟨1,0,none⟩ hlt];exact hg
 unfold w3
 go_enter Tryz.func90,Tryz.ntmps90
 go_wp2
 refine wp_loop_rounds 1 ?_;rw [rounds_succ]
 go_wp2
 go_ret
 exact ⟨rfl,rfl⟩
theorem jv (v:Value) (w:World):(ReflectliteType.typeOf #[.iface 306 v]).run Tryz.prog w = .ok (.iface 235 (.agg #[hd 306])) w:=by kernel_rfl
def ub : TypeId → Sem Value := fun t => do Rtype.noPackHeld "Comparable" t; pure (.bool (← typeInfo t).comparable)
theorem cK (w:World):((ReflectliteType.method ub) #[.agg #[hd 306]]).run Tryz.prog w = .ok (.bool true) w:=by kernel_rfl
theorem Za (v : Value) (w : World) : (Go.method 439 235 v "Comparable").run Tryz.prog w = .ok (245, v) w := by kernel_rfl
theorem sj:(Tryz.prog.info? 306).map (·.comparable)=some true:=by kernel_rfl
theorem sq:(Tryz.prog.info? 327).map (·.size)=some 1:=by kernel_rfl
theorem is_same (a:Addr) (w:World) :
  Calls Tryz.prog 91 #[.iface 306 (.pointer (some a)),.iface 306 (.pointer (some a))] w λe w'=>e = .returned (.bool true)/\w'=w:=by
 obtain ⟨i,hi,b⟩:=xa.1 sj;obtain ⟨j,f,g⟩:=xa.1 sq;have k := @run_callFunc_extern Tryz.prog 142 _ ReflectliteType.typeOf Tryz.func142 (by kernel_rfl) (by kernel_rfl) (by kernel_rfl) (by kernel_rfl);have c := @run_callFunc_extern Tryz.prog 245 _ (ReflectliteType.method ub) Tryz.func245 (by kernel_rfl) (by kernel_rfl) (by kernel_rfl) (by kernel_rfl);have m:=jv;have h:=cK;have l:=Za;have d:=run_eql_iface_ptr_same (P:=Tryz.prog) w a Tryz.underlying144 Tryz.underlying306 hi b f
 go_enter Tryz.func91,Tryz.ntmps91
 go_wp2
 refine wp_loop_rounds 1 ?_;rw [rounds_succ]
 go_wp2
 go_ret
 exact ⟨rfl,rfl⟩
end Go.Proofs.YtfipnhjfbebeiabGreatDoor.Pr
namespace Go.Proofs.YtfipnhjfbebeiabGreatDoor.Gv
open Go Pi Go.RowKit
set_option maxRecDepth 100000
instance gl:Gl where
 g n:=bif sa n 0 then some [.ifc 306 (.gk 0)] else bif sa n 1 then some [.ifc 235 (.agg [.adr 2 144])] else none
 pr f:=bif sa f 90 then some (.as [(152,150)] [306]) else bif sa f 91 then some (.is [306]) else none
theorem ue:Gl.g 1=some [.ifc 235 (.agg [.adr 2 144])]:=rfl
theorem eV (t:Addr) (v a:Value) (W:World) (b:v.oneCell'=true) (hs:t.spot=none) (d:W.cell? t=some a) (c:W.frozen? t=false) :
  (Instr.storeAt 150 (.pointer (some t)) (.agg #[v])).run Tryz.prog W = .ok () (W.setCell t v):=by
 obtain ⟨e,f,g⟩:=t;simp only at hs;subst hs;simp [Instr.storeAt,Instr.sureAddr,asAddr,isAgg,underlying,Tryz.underlying150,Result.andThen,storeVar,Value.cells,Pr.sizeF,Addr.add];simp [storeCells,Addr.add];rw [run_store Tryz.prog W _ _ _ b];simp [d,c]
theorem two {M:Ap} {μ:Mu} {p q:PV} {vs:List Value} (b:RepL M μ [p,q] vs) : ∃ x y,vs=[x,y]/\Rep M μ p x/\Rep M μ q y:=by
 obtain ⟨x,l,rfl,c,a⟩:=b.cons_inv;obtain ⟨y,l,rfl,d,a⟩:=a.cons_inv;cases a.nil_inv;exact ⟨x,y,rfl,c,d⟩
theorem iQ {M:Ap} {μ:Mu} {h:Hp} {w:World} (s:Sim M μ h w) {f:FuncId} {vs:List Value} {b:PV} {v:Value} (i:Rep M μ b v) (hc:Calls Tryz.prog f vs.toArray w λe w'=>e = .returned v/\w'=w) (cs:List Frame) :
  ∃ a μ' w' fr x,Sim a μ' h w'/\Grow M μ w a μ' w'/\Steps Tryz.prog (lone (Frame.enter Tryz.prog f vs.toArray .normal) cs w) (lone fr cs w')/\fr.fn=f/\Rep a μ' b x/\fr.leaving Tryz.prog w' (.returned x):=by
 obtain ⟨w',fr,rfl,c,d,g⟩:=Sl hc cs;exact ⟨M,μ,w',fr,v,s,.refl _ _ _,c,d,i,g⟩
theorem prim:L1 Tryz.prog:=by
 intro f p i args h v h' hd M μ w vs s Y cs;simp only [Gl.pr,gl] at i;cases e1:sa f 90 with
 | true =>
  have:=ed e1;subst this;rw [e1] at i;cases i;rcases args with _ | ⟨e,_ | ⟨t,_ | ⟨_,_⟩⟩⟩<;>try (cases hd;done)
  replace hd:(Ri Tryz.prog [(152,150)] [306] e t h).map (λ(b,h)=>(PV.bool b,h))=some (v,h'):=hd;obtain ⟨x,y,rfl,E,K⟩:=two Y;obtain ⟨⟨b,h1⟩,d,e0⟩:=AA hd;clear hd;have hd:=d;clear d;cases e0;have Z:=s.mem _ _ (Gl.handle s.glb ue);unfold Ri at hd;split at hd
  ·cases hd;cases E;exact iQ s (.bool _ _) (Pr.as_nil y w) cs
  ·rename_i u a;split at hd
   ·rename_i pt id off;split at hd
    ·rename_i T o
     obtain ⟨rfl,rfl⟩:pt=152/\T=150:=by
      unfold Rj at o;cases e3:sa 152 pt with
      | true=>rw [e3] at o;cases o;exact ⟨(ed e3).symm,rfl⟩
      | false=>rw [e3] at o;cases o
     cases E with
     | ifc _ _ _ xv hxv =>
      cases K with
      | ifc _ _ _ yv hyv =>
       cases e4:sa u 150 with
       | true =>
        have:=ed e4;subst this;rw [e4] at hd;simp only [cond_true] at hd;split at hd
        ·rename_i c h2 n;cases hd;obtain ⟨z,rfl,C,hz⟩:=SU hxv;obtain ⟨k,W,L,rfl,r,J⟩:=SX s n hyv;obtain ⟨w',fr,rfl,N,O,S⟩:=Sl (Pr.as_hit z ⟨k,W,none⟩ L w C Z.2 rfl r J) cs;obtain ⟨M1,s1,F⟩:=s.junk #[.pointer (some ⟨k,W,none⟩)] 152;obtain ⟨M2,s2,G⟩:=s1.junk #[Pr.hd 152,.pointer (some ⟨w.heap.size,0,none⟩),.int .u64 150] 199;obtain ⟨X,U,I⟩:=s2.junk #[Pr.hd 152,.pointer (some ⟨w.heap.size,0,none⟩),.int .u64 150] 199;obtain ⟨M4,s4,g4⟩:=U.junk #[z] 150;have g:=(F.trans G).trans (I.trans g4);have hS:=P7 (P:=Tryz.prog) s4 (hyv.mono g.m g.u) (hxv.mono g.m g.u) n;obtain ⟨b',o',D,e5,l,q⟩:=SX s4 n (hyv.mono g.m g.u);cases e5;have B:=eV ⟨k,W,none⟩ z D _ C rfl l q;obtain ⟨M5,μ5,w5,j,s5,g5⟩:=hS;simp only [Sem.run_bind,B,Result.andThen,Sem.run_pure,Result.ok.injEq,true_and] at j;subst j;exact ⟨M5,μ5,_,fr,.bool true,s5,g.trans g5,N,O,.bool _ _,S⟩
        ·cases hd
       | false =>
        rw [e4] at hd;simp only [cond_false] at hd;replace hd:=Ac hd;obtain ⟨A,hd⟩:=hd;cases hd
        have hu:u=306:=by
         simp only [TT,aaa,F2] at A;exact ed A
        subst hu;obtain ⟨k,rfl⟩ : ∃ k,yv = .pointer (some k):=by cases hyv;exact ⟨_,rfl⟩
        obtain ⟨w',fr,rfl,N,O,S⟩:=Sl (Pr.as_plain xv k w Z.2) cs;obtain ⟨M1,s1,F⟩:=s.junk #[.pointer (some k)] 152;obtain ⟨M2,s2,G⟩:=s1.junk #[Pr.hd 152,.pointer (some ⟨w.heap.size,0,none⟩),.int .u64 150] 199;obtain ⟨X,U,I⟩:=s2.junk #[Pr.hd 152,.pointer (some ⟨w.heap.size,0,none⟩),.int .u64 150] 199;exact ⟨X,μ,_,fr,.bool false,U,(F.trans G).trans I,N,O,.bool _ _,S⟩
    ·cases hd
   ·cases hd
  ·cases hd
 | false =>
  rw [e1] at i;simp only [cond_false] at i;cases e2:sa f 91 with
  | true =>
   have:=ed e2;subst this;rw [e2] at i;cases i;rcases args with _ | ⟨e,_ | ⟨t,_ | ⟨_,_⟩⟩⟩<;>try (cases hd;done)
   replace hd:(SR [306] e t).map (λb=>(PV.bool b,h))=some (v,h'):=hd;obtain ⟨x,y,rfl,E,K⟩:=two Y;obtain ⟨b,d,hh⟩:=AA hd;clear hd;have hd:=d;clear d;cases hh;unfold SR at hd;split at hd<;>try (cases hd;done)
   rename_i u a v b;replace hd:=Ac hd;obtain ⟨hc,hd⟩:=hd;cases hd;simp only [Bool.and_eq_true,TT,aaa,F2] at hc;obtain ⟨⟨e5,e6⟩,e7⟩:=hc;cases ed e5;cases ed e6;cases ed e7;cases E with
   | ifc _ _ _ xv hxv=>cases K with
    | ifc _ _ _ yv hyv=>cases hxv with
     | gk _ _ t1 a1 k1=>cases hyv with
      | gk _ _ t2 a2 k2 =>
       rw [k1] at k2;cases k2;exact iQ s (.bool _ _) (Pr.is_same a1 w) cs
  | false =>
   rw [e2] at i;simp only [cond_false] at i;cases i
theorem glw {w:World} {a:Addr} (f:w.cell? ⟨0,0,none⟩=some (.iface 306 (.pointer (some a)))) (h:w.cell? ⟨1,0,none⟩=some (.iface 235 (.agg #[.pointer (some ⟨2,144,none⟩)]))):GlW w:=by
 refine S4 λg cs e j c d => ?_;simp only [Gl.g,gl] at e;cases e1:sa g 0 with
 | true =>
  have:=ed e1;subst this;rw [e1] at e;cases e
  match j,d with
  | 0,d =>
   cases d;exact ⟨_,f,rfl,.ifc _ _ _ _ (.gk _ _ _ a (by unfold D1;simpa using f))⟩
 | false =>
  rw [e1] at e;simp only [cond_false] at e;cases e2:sa g 1 with
  | true =>
   have:=ed e2;subst this;rw [e2] at e;cases e
   match j,d with
   | 0,d =>
    cases d;refine ⟨_,h,rfl,.ifc _ _ _ _ (.agg _ _ _ rfl ?_ ?_)⟩
    ·intro i v b
     match i,b with
     | 0,b=>cases b;rfl
    ·intro i c v hc b
     match i,hc,b with
     | 0,hc,b=>cases hc;cases b;exact .adr _ _ _
  | false=>rw [e2] at e;cases e
end Go.Proofs.YtfipnhjfbebeiabGreatDoor.Gv
