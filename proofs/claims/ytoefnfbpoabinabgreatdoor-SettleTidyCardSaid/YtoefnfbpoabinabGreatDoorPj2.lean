/- The evaluator comes to each of the plain functions. No condition. -/
import Derived.Test.YtoefnfbpoabinabGreatDoorPj1
import Derived.Test.YtoefnfbpoabinabGreatDoorCards
import Derived.Test.YtoefnfbpoabinabGreatDoorTie
import Derived.LaidLaws
import Derived.LaidHandle
import Derived.Stop.ErrReads
import Derived.Conc.Holds
import Derived.Leaving
import Derived.SevenTiedAt
set_option linter.all false
open Option renaming some->zo, none->zn
open Bool renaming true->zt, false->zf
namespace Go.Proofs.YtoefnfbpoabinabGreatDoor.Pt
open Go Sv Pl Go.Proofs Go.Proofs.YtoefnfbpoabinabGreatDoor
open Go.ChangeShapes Go.WideShapes Go.ChangeAt Go.RowKit
set_option linter.all false
set_option maxRecDepth 100000
theorem own:ownKnob Tryz.prog.godebug=zn:=by kernel_rfl
theorem gEt : Tryz.prog.globalNamed "errors.errorType" = some 1 := by kernel_rfl
theorem gEs : Tryz.prog.globalNamed "bookend/debt.errSettled" = some 0 := by kernel_rfl
theorem tEs:(Tryz.prog.globals[0]?).map (·.type)=zo 181:=by kernel_rfl
theorem rt : (Tryz.prog.cutTypes.find? (·.1 == "internal/reflectlite.rtype")).map (·.2) = some 251 := by kernel_rfl
theorem yJ:((List.range 363).filter λt=>Tryz.prog.rowNamed t [101,114,114,111,114])=[181]:=by kernel_rfl
theorem size:Tryz.prog.types.size=363:=by kernel_rfl
theorem uK:Tryz.prog.cellsOf 351=1:=by kernel_rfl
theorem nI:Tryz.prog.cellsOf 9=1:=by kernel_rfl
theorem ABU : "*" ++ "errors.errorString" = "*errors.errorString" := by decide
theorem AAl(u : TypeId)(h : Tryz.prog.typeName? 3 u = some "*errors.errorString") : u = 331 :=
 typeName_ptr_named (nm := "errors.errorString") (by rw [ABU]; kernel_rfl) (by kernel_rfl) (by decide) u (by rw [ABU]; exact h)
def AAe : List (String × DataW Unit) := [("bookend/debt.errSettled", Rows.laid_bookend_debt_errSettled)]
def AAf : List (String × DataW Unit) := [("errors.errorType", Rows.laid_errors_errorType)]
theorem ua{W:World}(h:laidMetH Tryz.prog Rows.settleTidyRow.laid W):Pi.GlW W:=by
 have h':laidMet Tryz.prog AAe W/\handlesMet Tryz.prog AAf W:=h
 have p:W.cell? ⟨1,0,zn⟩=zo (.iface 251 (.agg #[.pointer (zo ⟨3,181,zn⟩)])):=by
  obtain⟨g,u,ty,e1,e2,e3,e4,e5⟩:=h'.2 _ (List.mem_singleton.2 rfl);have o:g=[101,114,114,111,114]:=(Option.some.inj e1).symm;subst o;obtain rfl:=Option.some.inj (rt.symm.trans e2);have m:ty∈(List.range 363).filter λt=>Tryz.prog.rowNamed t [101,114,114,111,114]:=List.mem_filter.2 ⟨List.mem_range.2 (by rw[<- size];exact e3),e4⟩;rw[yJ]at m;obtain rfl:=List.mem_singleton.1 m;have hh:typeHandle Tryz.prog 181=.pointer (zo ⟨3,181,zn⟩):=by kernel_rfl
  rw[hh]at e5;simpa using World.var?_cell gEt e5 0
 obtain⟨ps,⟨A,C,i,z,B,y,b,l,f,j,k,n⟩,r,c⟩:=h'.1;obtain rfl:=Option.some.inj (gEs.symm.trans b);obtain rfl:=Option.some.inj (tEs.symm.trans l);have d:y=[]:=k;subst d;subst n;obtain⟨x⟩:=i
 have ok0:∀ u v,x=[.iface u v]->Value.okWide Tryz.prog W .any 0 u v:=λu v e=>by
  subst e;exact(c 0 0 (by simp[MemPlace.row])).2 u v (by simpa using World.var?_cell b f 0)
 obtain⟨a0,s0,rfl,q,s,w,rfl⟩:=errorString_of_trod Tryz.underlying181 AAl Tryz.underlying331 Tryz.underlying351 rfl rfl Tryz.underlying9 uK nI j ok0;exact Gv.glw (a:=a0) (by simpa using World.var?_cell b f 0) p
abbrev jD:ByteArray:={ data:=#[115,101,116,116,108,101,100] }
noncomputable def low:Nat:=(World.holding Tryz.prog default ⟨#[],#[],[]⟩).heap.size
noncomputable def fS(os:Os):World:=
 let w0:=World.holding Tryz.prog os ⟨#[.cells #[.string jD] 351],#[],[]⟩
 { w0 with heap:=(w0.heap.modify 0 fun
   |.cells _ t frozen=>.cells #[.iface 331 (.pointer (zo ⟨low,0,zn⟩))] t frozen
   |o=>o).modify 1 fun
   |.cells _ t frozen=>.cells #[.iface 251 (.agg #[.pointer (zo ⟨3,181,zn⟩)])] t frozen
   |o=>o }
theorem fE(os:Os)(args:Array Value):laidMetH Tryz.prog Rows.settleTidyRow.laid ((fS os).forCall (λ_ _=>0) ⟨#[],args,[]⟩).memory:=
 laidMetH_of_parts (laidMet_of_run (ps:=[.cell 0 0,.cell low 0]) 8 (by kernel_rfl) (by kernel_rfl) (by kernel_rfl)) (by kernel_rfl)
theorem glm{w:World}(h:Pi.GlW w):Pi.GlOK (D6 w):=by
 obtain⟨M0,b,c⟩:=h;refine b.mono λa v e=> ?_;obtain⟨d,f⟩:=c a v e;unfold D6;rw[zy d,f]
theorem yI(os:Os)(a:os.Started)(H:Type)(NV:TypeId×Value->H) :
  ReturnsInHanded {} Tryz.checked os 4 .any (λw args=>(Rows.settleTidySpec.pre NV Tryz.prog Tryz.f4 Rows.settleTidyRow.domain zf w args/\laidMetH Tryz.prog Rows.settleTidyRow.laid w)/\sizedMet NV Tryz.prog Tryz.f4 (OpenSpec.ofChange Rows.settleTidySpec) zf w args)
   (Rows.settleTidySpec.post NV Tryz.prog Tryz.f4 zf zt zf zf):=by
 refine returnsInHanded_of_change_and (C:=Tryz.checked) (X:=λw _=>laidMetH Tryz.prog Rows.settleTidyRow.laid w) (λ_ _ _ hh h=>h.of_heap hh) own a (by kernel_rfl) Tryz.func4
  (ChangeSpec.witness_at (enc:=NV) (C:=Tryz.checked) (os:=os) (X:=λw _=>laidMetH Tryz.prog Rows.settleTidyRow.laid w) zf (fS os) #[.agg #[.int .i64 0,.slice zn 0 0,.int .i64 0,.slice zn 0 0,.slice zn 0 0,.int .i64 0]] 8 rfl (by kernel_rfl) (by kernel_rfl) (by kernel_rfl) (by kernel_rfl) (by kernel_rfl) (fE os _)) ?_
 intro W base args s P i d m _ _ E _;have b:∀ (j:Nat) t v,Tryz.f4.params[j]?=zo t->args[j]?=zo v->Value.okWide Tryz.prog W .any base t v:=d;have f:=m;have g:=m.lt;obtain⟨p,q,c,F,rfl,J,K⟩:=m;have l:DataW.TrodAll NV Tryz.prog W 0 (λ_=>zt) zt Tryz.f4.params.toList args.toList s p:=c;rw[Tryz.params4]at l b;obtain⟨rfl,rfl⟩:=trodVars_none F;obtain⟨x,ps,G,n,L⟩:=Ox (D:=12) (dom:=[(zt,gm)]) zh (by kernel_rfl) (r:=.any) (b0:=base) (vs:=args.toList) (λj t v A B=>b j t v (by simpa using A) (by simpa using B)) l
 have hc:Calls Tryz.prog 4 args W λe w'=>e=.returned (.bool zt)/\Pi.WStays W w':=by
  have:=aQ (jt n) G (glm (ua E)) (TQ W) L;simpa using this
 refine hc.mono λe O ⟨I,u⟩=> ?_;subst I
 have two:∃ k,s=[k]:=by
  obtain⟨v0,N,k,z,U,Y,_,rfl,_,S,M⟩:=trodAll_cons l;obtain⟨_,rfl,_⟩:=trodAll_nil M;exact⟨_,rfl⟩
 obtain⟨k,rfl⟩:=two;simp only[List.append_nil]at f g;have hs:=bj c
 exact⟨_,rfl,Pi.ji (pa:=p) (pv:=[]) f (λ_ _ _=>(trodAll_cons_mk (shut_bool Tryz.underlying4 _) trodAll_mk0))
  (λZ o=>OJ zh AAm (by rw[Tryz.params4];decide +kernel) c (λp y=>jV u (g p y) (hs p y)) o)
  (λ_ _=>rfl) (by simp) u (ok_one (by kernel_rfl) rfl (okWide_bool_mk Tryz.underlying4 _))⟩
theorem leaving{a:Assume}{C:Checked}{os:Os}{f:FuncId}{r:Reach}{c:World->Array Value->Prop}{b:World->Array Value->Value->World->Prop}(h:ReturnsInHanded a C os f r c b):ReturnsInLeavingWide a C os f r c b:=
 λe=>ReturnsInOpen.mono (λ_ _ _ x=>⟨x.2.1,onlyLeaving_of_quiet x.1,x.2.2⟩) (λ_ x=>x) (h e)
end Go.Proofs.YtoefnfbpoabinabGreatDoor.Pt
