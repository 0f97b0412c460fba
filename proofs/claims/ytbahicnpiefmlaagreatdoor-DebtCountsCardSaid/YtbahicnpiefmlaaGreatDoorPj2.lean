/- The evaluator comes to each of the plain functions. No condition. -/
import Derived.Test.YtbahicnpiefmlaaGreatDoorPj1
import Derived.Test.YtbahicnpiefmlaaGreatDoorCards
import Derived.Test.YtbahicnpiefmlaaGreatDoorTie
import Derived.LaidLaws
import Derived.LaidHandle
import Derived.Stop.ErrReads
import Derived.Conc.Holds
import Derived.Leaving
import Derived.SevenTiedAt
set_option linter.all false
namespace Go.Proofs.YtbahicnpiefmlaaGreatDoor.Pt
open Go Sv Pl Go.Proofs Go.Proofs.YtbahicnpiefmlaaGreatDoor
open Go.ChangeShapes Go.WideShapes Go.ChangeAt Go.RowKit
set_option linter.all false
set_option maxRecDepth 100000
theorem own:ownKnob Tryz.prog.godebug=none:=by kernel_rfl
theorem yd : Tryz.prog.globalNamed "errors.errorType" = some 1 := by kernel_rfl
theorem gEs : Tryz.prog.globalNamed "bookend/debt.errSettled" = some 0 := by kernel_rfl
theorem tEs:(Tryz.prog.globals[0]?).map (·.type)=some 149:=by kernel_rfl
theorem rt : (Tryz.prog.cutTypes.find? (·.1 == "internal/reflectlite.rtype")).map (·.2) = some 271 := by kernel_rfl
theorem qm:((List.range 392).filter λt=>Tryz.prog.rowNamed t [101,114,114,111,114])=[149]:=by kernel_rfl
theorem size:Tryz.prog.types.size=392:=by kernel_rfl
theorem m8:Tryz.prog.cellsOf 380=1:=by kernel_rfl
theorem hC:Tryz.prog.cellsOf 9=1:=by kernel_rfl
theorem uR : "*" ++ "errors.errorString" = "*errors.errorString" := by decide
theorem tG (u : TypeId) (h : Tryz.prog.typeName? 3 u = some "*errors.errorString") : u = 360 :=
 typeName_ptr_named (nm := "errors.errorString") (by rw [uR]; kernel_rfl) (by kernel_rfl) (by decide) u (by rw [uR]; exact h)
def tB : List (String × DataW Unit) := [("bookend/debt.errSettled", Rows.laid_bookend_debt_errSettled)]
def tC : List (String × DataW Unit) := [("errors.errorType", Rows.laid_errors_errorType)]
theorem nM {W:World} (h:laidMetH Tryz.prog Rows.debtCountsRow.laid W):Pi.GlW W:=by
 have h':laidMet Tryz.prog tB W/\handlesMet Tryz.prog tC W:=h
 have s:W.cell? ⟨1,0,none⟩=some (.iface 271 (.agg #[.pointer (some ⟨3,149,none⟩)])):=by
  obtain ⟨g,u,ty,e1,e2,e3,q,n⟩:=h'.2 _ (List.mem_singleton.2 rfl);have r:g=[101,114,114,111,114]:=(Option.some.inj e1).symm;subst r;obtain rfl:=Option.some.inj (rt.symm.trans e2);have o:ty∈(List.range 392).filter λt=>Tryz.prog.rowNamed t [101,114,114,111,114]:=List.mem_filter.2 ⟨List.mem_range.2 (by rw [<- size];exact e3),q⟩;rw [qm] at o;obtain rfl:=List.mem_singleton.1 o;have hh:typeHandle Tryz.prog 149 = .pointer (some ⟨3,149,none⟩):=by kernel_rfl
  rw [hh] at n;simpa using World.var?_cell yd n 0
 obtain ⟨ps,⟨D,F,i,C,E,B,b,l,f,j,k,p⟩,x,c⟩:=h'.1;obtain rfl:=Option.some.inj (gEs.symm.trans b);obtain rfl:=Option.some.inj (tEs.symm.trans l);have d:B=[]:=k;subst d;subst p;obtain ⟨A⟩:=i
 have m : ∀ u v,A=[.iface u v]->Value.okWide Tryz.prog W .any 0 u v:=λu v e=>by
  subst e;exact (c 0 0 (by simp [MemPlace.row])).2 u v (by simpa using World.var?_cell b f 0)
 obtain ⟨a0,s0,rfl,w,y,z,rfl⟩:=errorString_of_trod Tryz.underlying149 tG Tryz.underlying360 Tryz.underlying380 rfl rfl Tryz.underlying9 m8 hC j m;exact Gv.glw (a:=a0) (by simpa using World.var?_cell b f 0) s
abbrev X8:ByteArray:={ data := #[115,101,116,116,108,101,100] }
noncomputable def low:Nat:=(World.holding Tryz.prog default ⟨#[],#[],[]⟩).heap.size
noncomputable def aX (os:Os):World :=
 let w0:=World.holding Tryz.prog os ⟨#[.cells #[.string X8] 380],#[],[]⟩
 { w0 with heap:=(w0.heap.modify 0 fun
   | .cells _ t frozen => .cells #[.iface 360 (.pointer (some ⟨low,0,none⟩))] t frozen
   | o=>o).modify 1 fun
   | .cells _ t frozen => .cells #[.iface 271 (.agg #[.pointer (some ⟨3,149,none⟩)])] t frozen
   | o=>o }
theorem aL (os:Os) (args:Array Value):laidMetH Tryz.prog Rows.debtCountsRow.laid ((aX os).forCall (λ_ _=>0) ⟨#[],args,[]⟩).memory :=
 laidMetH_of_parts (laidMet_of_run (ps:=[.cell 0 0,.cell low 0]) 8 (by kernel_rfl) (by kernel_rfl) (by kernel_rfl)) (by kernel_rfl)
theorem ye {w:World} (h:Pi.GlW w):Pi.GlOK (D1 w):=by
 obtain ⟨M0,b,c⟩:=h;refine b.mono λa v e => ?_;obtain ⟨d,f⟩:=c a v e;unfold D1;rw [if_pos d,f]
theorem qk (os:Os) (a:os.Started) (H:Type) (enc:TypeId×Value->H) :
  ReturnsInHanded {} Tryz.checked os 3 .any (λw args=>(Rows.debtCountsSpec.pre enc Tryz.prog Tryz.f3 Rows.debtCountsRow.domain false w args/\laidMetH Tryz.prog Rows.debtCountsRow.laid w)/\sizedMet enc Tryz.prog Tryz.f3 (OpenSpec.ofChange Rows.debtCountsSpec) false w args)
   (Rows.debtCountsSpec.post enc Tryz.prog Tryz.f3 false true false false):=by
 refine returnsInHanded_of_change_and (C:=Tryz.checked) (X:=λw _=>laidMetH Tryz.prog Rows.debtCountsRow.laid w) (λ_ _ _ hh h=>h.of_heap hh) own a (by kernel_rfl) Tryz.func3
  (ChangeSpec.witness_at (enc:=enc) (C:=Tryz.checked) (os:=os) (X:=λw _=>laidMetH Tryz.prog Rows.debtCountsRow.laid w) false (aX os) #[.agg #[.int .i64 0,.slice none 0 0,.slice none 0 0,.int .i64 0],.int .i64 0] 8 rfl (by kernel_rfl) (by kernel_rfl) (by kernel_rfl) (by kernel_rfl) (by kernel_rfl) (aL os _)) ?_
 intro W base args y Z i d n _ _ G _;have b : ∀ (j:Nat) t v,Tryz.f3.params[j]? = some t->args[j]? = some v->Value.okWide Tryz.prog W .any base t v:=d;have f:=n;have g:=n.lt;obtain ⟨p,q,c,I,rfl,L,M⟩:=n;have m:DataW.TrodAll enc Tryz.prog W 0 (λ_=>true) true Tryz.f3.params.toList args.toList y p:=c;rw [Tryz.params3] at m b;obtain ⟨rfl,rfl⟩:=trodVars_none I;obtain ⟨x,ps,J,s,N⟩:=OL (D:=12) (dom:=[(true,Xq),zI]) sy (by kernel_rfl) (r:=.any) (b0:=base) (vs:=args.toList) (λj t v z F=>b j t v (by simpa using z) (by simpa using F)) m
 have hc:Calls Tryz.prog 3 args W λe w'=>e = .returned (.bool true)/\Grown W w':=by
  have:=YB ((λ_=>debtCounts _) s) J (ye (nM G)) (SM W) N;simpa using this
 refine hc.mono λe Y ⟨K,o⟩ => ?_;subst K
 have two : ∃ k l,y=[k,l]:=by
  obtain ⟨v0,S,k,B,p0,q0,_,rfl,_,h0,O⟩:=trodAll_cons m;obtain ⟨v1,U,l,E,p1,q1,_,rfl,_,z,P⟩:=trodAll_cons O;obtain ⟨_,rfl,_⟩:=trodAll_nil P;exact ⟨_,_,rfl⟩
 obtain ⟨k,l,rfl⟩:=two;simp only [List.append_nil] at f g;have hs:=Yr c
 exact ⟨_,rfl,post_of_same (pa:=p) (pv:=[]) f (λ_ _ _=>(trodAll_cons_mk (shut_bool Tryz.underlying4 _) trodAll_mk0))
  (λsp u=>Nj sy tH (by rw [Tryz.params3];decide +kernel) c (λp A=>ca o (g p A) (hs p A)) u)
  (λ_ _=>rfl) (by simp) (o.frame _) o.2.1 (ok_one (by kernel_rfl) rfl (okWide_bool_mk Tryz.underlying4 _))⟩
theorem leaving {a:Assume} {C:Checked} {os:Os} {f:FuncId} {r:Reach} {c:World->Array Value->Prop} {b:World->Array Value->Value->World->Prop} (h:ReturnsInHanded a C os f r c b):ReturnsInLeavingWide a C os f r c b :=
 λe=>ReturnsInOpen.mono (λ_ _ _ x=>⟨x.2.1,onlyLeaving_of_quiet x.1,x.2.2⟩) (λ_ x=>x) (h e)
end Go.Proofs.YtbahicnpiefmlaaGreatDoor.Pt
