/- The evaluator comes to each of the plain functions. No condition. -/
import Derived.Test.YtfceigpbgndbgaaGreatDoorPj1
import Derived.Test.YtfceigpbgndbgaaGreatDoorCards
import Derived.Test.YtfceigpbgndbgaaGreatDoorTie
import Derived.LaidLaws
import Derived.LaidHandle
import Derived.Stop.ErrReads
import Derived.Conc.Holds
import Derived.Leaving
import Derived.SevenTiedAt
set_option linter.all false
open Option renaming some->zo, none->zn
open Bool renaming true->zt, false->zf
namespace Go.Proofs.YtfceigpbgndbgaaGreatDoor.Pt
open Go Sv Pl Go.Proofs Go.Proofs.YtfceigpbgndbgaaGreatDoor
open Go.ChangeShapes Go.WideShapes Go.ChangeAt Go.RowKit
set_option linter.all false
set_option maxRecDepth 100000
theorem own:ownKnob Tryz.prog.godebug=zn:=by kernel_rfl
theorem gEt : Tryz.prog.globalNamed "errors.errorType" = some 1 := by kernel_rfl
theorem gEs : Tryz.prog.globalNamed "bookend/debt.errSettled" = some 0 := by kernel_rfl
theorem tEs:(Tryz.prog.globals[0]?).map (·.type)=zo 159:=by kernel_rfl
theorem rt : (Tryz.prog.cutTypes.find? (·.1 == "internal/reflectlite.rtype")).map (·.2) = some 252 := by kernel_rfl
theorem vJ:((List.range 362).filter λt=>Tryz.prog.rowNamed t [101,114,114,111,114])=[159]:=by kernel_rfl
theorem size:Tryz.prog.types.size=362:=by kernel_rfl
theorem qv:Tryz.prog.cellsOf 350=1:=by kernel_rfl
theorem ku:Tryz.prog.cellsOf 9=1:=by kernel_rfl
theorem y9 : "*" ++ "errors.errorString" = "*errors.errorString" := by decide
theorem xf(u : TypeId)(h : Tryz.prog.typeName? 3 u = some "*errors.errorString") : u = 330 :=
 typeName_ptr_named (nm := "errors.errorString") (by rw [y9]; kernel_rfl) (by kernel_rfl) (by decide) u (by rw [y9]; exact h)
def xV : List (String × DataW Unit) := [("bookend/debt.errSettled", Rows.laid_bookend_debt_errSettled)]
def xW : List (String × DataW Unit) := [("errors.errorType", Rows.laid_errors_errorType)]
theorem rH{W:World}(h:laidMetH Tryz.prog Rows.settleRestsRow.laid W):Pi.GlW W:=by
 have h':laidMet Tryz.prog xV W/\handlesMet Tryz.prog xW W:=h
 have p:W.cell? ⟨1,0,zn⟩=zo (.iface 252 (.agg #[.pointer (zo ⟨3,159,zn⟩)])):=by
  obtain⟨g,u,ty,e1,e2,e3,e4,e5⟩:=h'.2 _ (List.mem_singleton.2 rfl);have o:g=[101,114,114,111,114]:=(Option.some.inj e1).symm;subst o;obtain rfl:=Option.some.inj (rt.symm.trans e2);have m:ty∈(List.range 362).filter λt=>Tryz.prog.rowNamed t [101,114,114,111,114]:=List.mem_filter.2 ⟨List.mem_range.2 (by rw[<- size];exact e3),e4⟩;rw[vJ]at m;obtain rfl:=List.mem_singleton.1 m;have hh:typeHandle Tryz.prog 159=.pointer (zo ⟨3,159,zn⟩):=by kernel_rfl
  rw[hh]at e5;simpa using World.var?_cell gEt e5 0
 obtain⟨ps,⟨A,C,i,z,B,y,b,l,f,j,k,n⟩,r,c⟩:=h'.1;obtain rfl:=Option.some.inj (gEs.symm.trans b);obtain rfl:=Option.some.inj (tEs.symm.trans l);have d:y=[]:=k;subst d;subst n;obtain⟨x⟩:=i
 have ok0:∀ u v,x=[.iface u v]->Value.okWide Tryz.prog W .any 0 u v:=λu v e=>by
  subst e;exact(c 0 0 (by simp[MemPlace.row])).2 u v (by simpa using World.var?_cell b f 0)
 obtain⟨a0,s0,rfl,q,s,w,rfl⟩:=errorString_of_trod Tryz.underlying159 xf Tryz.underlying330 Tryz.underlying350 rfl rfl Tryz.underlying9 qv ku j ok0;exact Gv.glw (a:=a0) (by simpa using World.var?_cell b f 0) p
abbrev fV:ByteArray:={ data:=#[115,101,116,116,108,101,100] }
noncomputable def low:Nat:=(World.holding Tryz.prog default ⟨#[],#[],[]⟩).heap.size
noncomputable def cx(os:Os):World:=
 let w0:=World.holding Tryz.prog os ⟨#[.cells #[.string fV] 350],#[],[]⟩
 { w0 with heap:=(w0.heap.modify 0 fun
   |.cells _ t frozen=>.cells #[.iface 330 (.pointer (zo ⟨low,0,zn⟩))] t frozen
   |o=>o).modify 1 fun
   |.cells _ t frozen=>.cells #[.iface 252 (.agg #[.pointer (zo ⟨3,159,zn⟩)])] t frozen
   |o=>o }
theorem cj(os:Os)(args:Array Value):laidMetH Tryz.prog Rows.settleRestsRow.laid ((cx os).forCall (λ_ _=>0) ⟨#[],args,[]⟩).memory:=
 laidMetH_of_parts (laidMet_of_run (ps:=[.cell 0 0,.cell low 0]) 8 (by kernel_rfl) (by kernel_rfl) (by kernel_rfl)) (by kernel_rfl)
theorem glm{w:World}(h:Pi.GlW w):Pi.GlOK (D7 w):=by
 obtain⟨M0,b,c⟩:=h;refine b.mono λa v e=> ?_;obtain⟨d,f⟩:=c a v e;unfold D7;rw[zy d,f]
theorem vI(os:Os)(a:os.Started)(H:Type)(enc:TypeId×Value->H) :
  ReturnsInHanded {} Tryz.checked os 4 .any (λw args=>(Rows.settleRestsSpec.pre enc Tryz.prog Tryz.f4 Rows.settleRestsRow.domain zf w args/\laidMetH Tryz.prog Rows.settleRestsRow.laid w)/\sizedMet enc Tryz.prog Tryz.f4 (OpenSpec.ofChange Rows.settleRestsSpec) zf w args)
   (Rows.settleRestsSpec.post enc Tryz.prog Tryz.f4 zf zt zf zf):=by
 refine returnsInHanded_of_change_and (C:=Tryz.checked) (X:=λw _=>laidMetH Tryz.prog Rows.settleRestsRow.laid w) (λ_ _ _ hh h=>h.of_heap hh) own a (by kernel_rfl) Tryz.func4
  (ChangeSpec.witness_at (enc:=enc) (C:=Tryz.checked) (os:=os) (X:=λw _=>laidMetH Tryz.prog Rows.settleRestsRow.laid w) zf (cx os) #[.agg #[.int .i64 0,.slice zn 0 0,.int .i64 0,.slice zn 0 0,.slice zn 0 0,.int .i64 0]] 8 rfl (by kernel_rfl) (by kernel_rfl) (by kernel_rfl) (by kernel_rfl) (by kernel_rfl) (cj os _)) ?_
 intro W base args u P i d m _ _ E _;have b:∀ (j:Nat) t v,Tryz.f4.params[j]?=zo t->args[j]?=zo v->Value.okWide Tryz.prog W .any base t v:=d;have f:=m;have g:=m.lt;obtain⟨p,q,c,F,rfl,J,K⟩:=m;have l:DataW.TrodAll enc Tryz.prog W 0 (λ_=>zt) zt Tryz.f4.params.toList args.toList u p:=c;rw[Tryz.params4]at l b;obtain⟨rfl,rfl⟩:=trodVars_none F;obtain⟨x,ps,G,o,L⟩:=Oj (D:=12) (dom:=[(zt,dx)]) w8 (by kernel_rfl) (r:=.any) (b0:=base) (vs:=args.toList) (λj t v A B=>b j t v (by simpa using A) (by simpa using B)) l
 have hc:Calls Tryz.prog 4 args W λe w'=>e=.returned (.bool zt)/\Grown W w':=by
  have:=ZE (gQ o) G (glm (rH E)) (Sx W) L;simpa using this
 refine hc.mono λe O ⟨I,n⟩=> ?_;subst I
 have two:∃ k,u=[k]:=by
  obtain⟨v0,N,k,z,U,Y,_,rfl,_,S,M⟩:=trodAll_cons l;obtain⟨_,rfl,_⟩:=trodAll_nil M;exact⟨_,rfl⟩
 obtain⟨k,rfl⟩:=two;simp only[List.append_nil]at f g;have hs:=aI c
 exact⟨_,rfl,post_of_same (pa:=p) (pv:=[]) f (λ_ _ _=>(trodAll_cons_mk (shut_bool Tryz.underlying4 _) trodAll_mk0))
  (λZ s=>OD w8 xg (by rw[Tryz.params4];decide +kernel) c (λp y=>f8 n (g p y) (hs p y)) s)
  (λ_ _=>rfl) (by simp) (n.frame _) n.2.1 (ok_one (by kernel_rfl) rfl (okWide_bool_mk Tryz.underlying4 _))⟩
theorem leaving{a:Assume}{C:Checked}{os:Os}{f:FuncId}{r:Reach}{c:World->Array Value->Prop}{b:World->Array Value->Value->World->Prop}(h:ReturnsInHanded a C os f r c b):ReturnsInLeavingWide a C os f r c b:=
 λe=>ReturnsInOpen.mono (λ_ _ _ x=>⟨x.2.1,onlyLeaving_of_quiet x.1,x.2.2⟩) (λ_ x=>x) (h e)
end Go.Proofs.YtfceigpbgndbgaaGreatDoor.Pt
