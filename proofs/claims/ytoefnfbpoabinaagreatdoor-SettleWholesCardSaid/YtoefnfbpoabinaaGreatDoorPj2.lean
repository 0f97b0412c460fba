/- The evaluator comes to each of the plain functions. No condition. -/
import Derived.Test.YtoefnfbpoabinaaGreatDoorPj1
import Derived.Test.YtoefnfbpoabinaaGreatDoorCards
import Derived.Test.YtoefnfbpoabinaaGreatDoorTie
import Derived.LaidLaws
import Derived.LaidHandle
import Derived.Stop.ErrReads
import Derived.Conc.Holds
import Derived.Leaving
import Derived.SevenTiedAt
set_option linter.all false
open Option renaming some->zo, none->zn
open Bool renaming true->zt, false->zf
namespace Go.Proofs.YtoefnfbpoabinaaGreatDoor.Pt
open Go Sv Pl Go.Proofs Go.Proofs.YtoefnfbpoabinaaGreatDoor
open Go.ChangeShapes Go.WideShapes Go.ChangeAt Go.RowKit
set_option linter.all false
set_option maxRecDepth 100000
theorem own:ownKnob Tryz.prog.godebug=zn:=by kernel_rfl
theorem gEt : Tryz.prog.globalNamed "errors.errorType" = some 1 := by kernel_rfl
theorem gEs : Tryz.prog.globalNamed "bookend/debt.errSettled" = some 0 := by kernel_rfl
theorem tEs:(Tryz.prog.globals[0]?).map (·.type)=zo 187:=by kernel_rfl
theorem rt : (Tryz.prog.cutTypes.find? (·.1 == "internal/reflectlite.rtype")).map (·.2) = some 255 := by kernel_rfl
theorem ve:((List.range 368).filter λt=>Tryz.prog.rowNamed t [101,114,114,111,114])=[187]:=by kernel_rfl
theorem size:Tryz.prog.types.size=368:=by kernel_rfl
theorem rB:Tryz.prog.cellsOf 356=1:=by kernel_rfl
theorem ks:Tryz.prog.cellsOf 9=1:=by kernel_rfl
theorem yy : "*" ++ "errors.errorString" = "*errors.errorString" := by decide
theorem xz(u : TypeId)(h : Tryz.prog.typeName? 3 u = some "*errors.errorString") : u = 336 :=
 typeName_ptr_named (nm := "errors.errorString") (by rw [yy]; kernel_rfl) (by kernel_rfl) (by decide) u (by rw [yy]; exact h)
def xj : List (String × DataW Unit) := [("bookend/debt.errSettled", Rows.laid_bookend_debt_errSettled)]
def xp : List (String × DataW Unit) := [("errors.errorType", Rows.laid_errors_errorType)]
theorem rS{W:World}(h:laidMetH Tryz.prog Rows.settleWholesRow.laid W):Pi.GlW W:=by
 have h':laidMet Tryz.prog xj W/\handlesMet Tryz.prog xp W:=h
 have r:W.cell? ⟨1,0,zn⟩=zo (.iface 255 (.agg #[.pointer (zo ⟨3,187,zn⟩)])):=by
  obtain⟨g,u,ty,e1,e2,e3,p,m⟩:=h'.2 _ (List.mem_singleton.2 rfl);have q:g=[101,114,114,111,114]:=(Option.some.inj e1).symm;subst q;obtain rfl:=Option.some.inj (rt.symm.trans e2);have n:ty∈(List.range 368).filter λt=>Tryz.prog.rowNamed t [101,114,114,111,114]:=List.mem_filter.2 ⟨List.mem_range.2 (by rw[<- size];exact e3),p⟩;rw[ve]at n;obtain rfl:=List.mem_singleton.1 n;have hh:typeHandle Tryz.prog 187=.pointer (zo ⟨3,187,zn⟩):=by kernel_rfl
  rw[hh]at m;simpa using World.var?_cell gEt m 0
 obtain⟨ps,⟨C,E,i,B,D,A,b,l,f,j,k,o⟩,w,c⟩:=h'.1;obtain rfl:=Option.some.inj (gEs.symm.trans b);obtain rfl:=Option.some.inj (tEs.symm.trans l);have d:A=[]:=k;subst d;subst o;obtain⟨z⟩:=i
 have ok0:∀ u v,z=[.iface u v]->Value.okWide Tryz.prog W .any 0 u v:=λu v e=>by
  subst e;exact(c 0 0 (by simp[MemPlace.row])).2 u v (by simpa using World.var?_cell b f 0)
 obtain⟨a0,s0,rfl,s,x,y,rfl⟩:=errorString_of_trod Tryz.underlying187 xz Tryz.underlying336 Tryz.underlying356 rfl rfl Tryz.underlying9 rB ks j ok0;exact Gv.glw (a:=a0) (by simpa using World.var?_cell b f 0) r
abbrev gF:ByteArray:={ data:=#[115,101,116,116,108,101,100] }
noncomputable def low:Nat:=(World.holding Tryz.prog default ⟨#[],#[],[]⟩).heap.size
noncomputable def dZ(os:Os):World:=
 let w0:=World.holding Tryz.prog os ⟨#[.cells #[.string gF] 356],#[],[]⟩
 { w0 with heap:=(w0.heap.modify 0 fun
   |.cells _ t frozen=>.cells #[.iface 336 (.pointer (zo ⟨low,0,zn⟩))] t frozen
   |o=>o).modify 1 fun
   |.cells _ t frozen=>.cells #[.iface 255 (.agg #[.pointer (zo ⟨3,187,zn⟩)])] t frozen
   |o=>o }
theorem dK(os:Os)(args:Array Value):laidMetH Tryz.prog Rows.settleWholesRow.laid ((dZ os).forCall (λ_ _=>0) ⟨#[],args,[]⟩).memory:=
 laidMetH_of_parts (laidMet_of_run (ps:=[.cell 0 0,.cell low 0]) 8 (by kernel_rfl) (by kernel_rfl) (by kernel_rfl)) (by kernel_rfl)
theorem glm{w:World}(h:Pi.GlW w):Pi.GlOK (D6 w):=by
 obtain⟨M0,b,c⟩:=h;refine b.mono λa v e=> ?_;obtain⟨d,f⟩:=c a v e;unfold D6;rw[zy d,f]
theorem vY(os:Os)(a:os.Started)(H:Type)(NV:TypeId×Value->H) :
  ReturnsInHanded {} Tryz.checked os 3 .any (λw args=>(Rows.settleWholesSpec.pre NV Tryz.prog Tryz.f3 Rows.settleWholesRow.domain zf w args/\laidMetH Tryz.prog Rows.settleWholesRow.laid w)/\sizedMet NV Tryz.prog Tryz.f3 (OpenSpec.ofChange Rows.settleWholesSpec) zf w args)
   (Rows.settleWholesSpec.post NV Tryz.prog Tryz.f3 zf zt zf zf):=by
 refine returnsInHanded_of_change_and (C:=Tryz.checked) (X:=λw _=>laidMetH Tryz.prog Rows.settleWholesRow.laid w) (λ_ _ _ hh h=>h.of_heap hh) own a (by kernel_rfl) Tryz.func3
  (ChangeSpec.witness_at (enc:=NV) (C:=Tryz.checked) (os:=os) (X:=λw _=>laidMetH Tryz.prog Rows.settleWholesRow.laid w) zf (dZ os) #[.agg #[.int .i64 0,.slice zn 0 0,.int .i64 0,.slice zn 0 0,.slice zn 0 0,.int .i64 0]] 8 rfl (by kernel_rfl) (by kernel_rfl) (by kernel_rfl) (by kernel_rfl) (by kernel_rfl) (dK os _)) ?_
 intro W base args s P i d m _ _ E _;have b:∀ (j:Nat) t v,Tryz.f3.params[j]?=zo t->args[j]?=zo v->Value.okWide Tryz.prog W .any base t v:=d;have f:=m;have g:=m.lt;obtain⟨p,q,c,F,rfl,J,K⟩:=m;have l:DataW.TrodAll NV Tryz.prog W 0 (λ_=>zt) zt Tryz.f3.params.toList args.toList s p:=c;rw[Tryz.params3]at l b;obtain⟨rfl,rfl⟩:=trodVars_none F;obtain⟨x,ps,G,n,L⟩:=Ox (D:=12) (dom:=[(zt,iy)]) w9 (by kernel_rfl) (r:=.any) (b0:=base) (vs:=args.toList) (λj t v A B=>b j t v (by simpa using A) (by simpa using B)) l
 have hc:Calls Tryz.prog 3 args W λe w'=>e=.returned (.bool zt)/\Pi.WStays W w':=by
  have:=ZS (iA n) G (glm (rS E)) (TQ W) L;simpa using this
 refine hc.mono λe O ⟨I,u⟩=> ?_;subst I
 have two:∃ k,s=[k]:=by
  obtain⟨v0,N,k,z,U,Y,_,rfl,_,S,M⟩:=trodAll_cons l;obtain⟨_,rfl,_⟩:=trodAll_nil M;exact⟨_,rfl⟩
 obtain⟨k,rfl⟩:=two;simp only[List.append_nil]at f g;have hs:=aj c
 exact⟨_,rfl,Pi.gr (pa:=p) (pv:=[]) f (λ_ _ _=>(trodAll_cons_mk (shut_bool Tryz.underlying4 _) trodAll_mk0))
  (λZ o=>OJ w9 yA (by rw[Tryz.params3];decide +kernel) c (λp y=>gX u (g p y) (hs p y)) o)
  (λ_ _=>rfl) (by simp) u (ok_one (by kernel_rfl) rfl (okWide_bool_mk Tryz.underlying4 _))⟩
theorem leaving{a:Assume}{C:Checked}{os:Os}{f:FuncId}{r:Reach}{c:World->Array Value->Prop}{b:World->Array Value->Value->World->Prop}(h:ReturnsInHanded a C os f r c b):ReturnsInLeavingWide a C os f r c b:=
 λe=>ReturnsInOpen.mono (λ_ _ _ x=>⟨x.2.1,onlyLeaving_of_quiet x.1,x.2.2⟩) (λ_ x=>x) (h e)
end Go.Proofs.YtoefnfbpoabinaaGreatDoor.Pt
