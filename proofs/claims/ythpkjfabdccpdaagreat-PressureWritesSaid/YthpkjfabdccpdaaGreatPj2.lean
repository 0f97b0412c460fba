/- The evaluator comes to each of the plain functions. No condition. -/
import Derived.Test.YthpkjfabdccpdaaGreatPj1
set_option linter.all false
namespace Go.Proofs.YthpkjfabdccpdaaGreat.Pt
open Go Go.Proofs.YthpkjfabdccpdaaGreat.Sv Go.Proofs.YthpkjfabdccpdaaGreat.Pl Go.Proofs Go.Proofs.YthpkjfabdccpdaaGreat
open Go.ChangeShapes Go.WideShapes Go.ChangeAt Go.RowKit
set_option maxRecDepth 100000
set_option linter.unusedVariables false
theorem lJ (os:Os) (started:os.Started) (H:Type) (enc:TypeId×Value->H) :
  ReturnsInHanded {} Tryz.checked os 10 .any (Rows.pressureWritesSpec.pre6 enc Tryz.prog Tryz.f10 Rows.pressureWritesRow.domain false) (Rows.pressureWritesSpec.post enc Tryz.prog Tryz.f10 false true false false):=by
 refine returnsInHanded_of_change (C:=Tryz.checked) (by kernel_rfl) started (by kernel_rfl) Tryz.func10
  (ChangeSpec.witness6 (enc:=enc) (C:=Tryz.checked) false ⟨#[],#[.agg #[.int .i64 0,.slice none 0 0,.int .i64 0,.slice none 0 0,.slice none 0 0,.int .i64 0],.slice none 0 0],[]⟩ 8 (by kernel_rfl) (by kernel_rfl) (by kernel_rfl) (by kernel_rfl)) ?_
 intro W base args ds gs before hval0 hW hcnd _;have hval : ∀ (j:Nat) t v,Tryz.f10.params[j]? = some t->args[j]? = some v->Value.okWide Tryz.prog W .any base t v:=hval0;have hW':=hW;have hlt:=hW.lt;obtain ⟨p,q,hA0,hV,rfl,hfz,hnd⟩:=hW;have hA:DataW.TrodAll enc Tryz.prog W 0 (λ_=>true) true Tryz.f10.params.toList args.toList ds p:=hA0;rw [Tryz.params10] at hA hval;obtain ⟨rfl,rfl⟩:=trodVars_none hV;obtain ⟨x,ps,ha,_,hr⟩:=Qt (D:=12) (dom:=[(true,GC),(false,(.sl true T2))]) nL (by kernel_rfl) (r:=.any) (b0:=base) (vs:=args.toList) (λj t v h1 h2=>hval j t v (by simpa using h1) (by simpa using h2)) hA
 have hc:Calls Tryz.prog 10 args W λe w'=>e = .returned (.bool true)/\Grown W w':=by
  have:=H9 (pressureWrites x) ha (bW W) hr;simpa using this
 refine hc.mono λe W' ⟨he,hg⟩ => ?_;subst he
 have two : ∃ d0 d1,ds=[d0,d1]:=by
  obtain ⟨v0,vs0,d0,ds0,p0,q0,_,rfl,_,h0,r0⟩:=trodAll_cons hA;obtain ⟨v1,vs1,d1,ds1,p1,q1,_,rfl,_,h1,r1⟩:=trodAll_cons r0;obtain ⟨_,rfl,_⟩:=trodAll_nil r1;exact ⟨_,_,rfl⟩
 obtain ⟨d0,d1,rfl⟩:=two;simp only [List.append_nil] at hW' hlt;have hs:=LK hA0
 exact ⟨_,rfl,post_of_same (pa:=p) (pv:=[]) hW' (λ_ _ _=>(trodAll_cons_mk (shut_bool Tryz.underlying4 _) trodAll_mk0))
  (λsp hsp=>Qu nL nM (by rw [Tryz.params10];decide +kernel) hA0 (λp hp=>Wn hg (hlt p hp) (hs p hp)) hsp)
  (λ_ _=>rfl) (by simp) (hg.frame _) hg.2.1 (ok_one (by kernel_rfl) rfl (okWide_bool_mk Tryz.underlying4 _))⟩
end Go.Proofs.YthpkjfabdccpdaaGreat.Pt
