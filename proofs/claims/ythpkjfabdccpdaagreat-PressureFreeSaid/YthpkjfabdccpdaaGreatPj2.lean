/- The evaluator comes to each of the plain functions. No condition. -/
import Derived.Test.YthpkjfabdccpdaaGreatPj1
set_option linter.all false
namespace Go.Proofs.YthpkjfabdccpdaaGreat.Pt
open Go Go.Proofs.YthpkjfabdccpdaaGreat.Sv Go.Proofs.YthpkjfabdccpdaaGreat.Pl Go.Proofs Go.Proofs.YthpkjfabdccpdaaGreat
open Go.ChangeShapes Go.WideShapes Go.ChangeAt Go.RowKit
set_option maxRecDepth 100000
set_option linter.unusedVariables false
theorem jI (os:Os) (started:os.Started) (H:Type) (enc:TypeId×Value->H) :
  ReturnsInHanded {} Tryz.checked os 11 .any (Rows.pressureFreeSpec.pre6 enc Tryz.prog Tryz.f11 Rows.pressureFreeRow.domain false) (Rows.pressureFreeSpec.post enc Tryz.prog Tryz.f11 false true false false):=by
 refine returnsInHanded_of_change (C:=Tryz.checked) (by kernel_rfl) started (by kernel_rfl) Tryz.func11
  (ChangeSpec.witness6 (enc:=enc) (C:=Tryz.checked) false ⟨#[],#[.agg #[.int .i64 0,.slice none 0 0,.int .i64 0,.slice none 0 0,.slice none 0 0,.int .i64 0]],[]⟩ 8 (by kernel_rfl) (by kernel_rfl) (by kernel_rfl) (by kernel_rfl)) ?_
 intro W base args ds gs before hval0 hW hcnd _;have hval : ∀ (j:Nat) t v,Tryz.f11.params[j]? = some t->args[j]? = some v->Value.okWide Tryz.prog W .any base t v:=hval0;have hW':=hW;have hlt:=hW.lt;obtain ⟨p,q,hA0,hV,rfl,hfz,hnd⟩:=hW;have hA:DataW.TrodAll enc Tryz.prog W 0 (λ_=>true) true Tryz.f11.params.toList args.toList ds p:=hA0;rw [Tryz.params11] at hA hval;obtain ⟨rfl,rfl⟩:=trodVars_none hV;obtain ⟨x,ps,ha,_,hr⟩:=P9 (D:=12) (dom:=[(true,Kh)]) ky (by kernel_rfl) (r:=.any) (b0:=base) (vs:=args.toList) (λj t v h1 h2=>hval j t v (by simpa using h1) (by simpa using h2)) hA
 have hc:Calls Tryz.prog 11 args W λe w'=>e = .returned (.bool true)/\Grown W w':=by
  have:=H4 (pressureFree x) ha (ZV W) hr;simpa using this
 refine hc.mono λe W' ⟨he,hg⟩ => ?_;subst he
 have one : ∃ d0,ds=[d0]:=by
  obtain ⟨v0,vs0,d0,ds0,p0,q0,_,rfl,_,h0,r0⟩:=trodAll_cons hA;obtain ⟨_,rfl,_⟩:=trodAll_nil r0;exact ⟨_,rfl⟩
 obtain ⟨d0,rfl⟩:=one;simp only [List.append_nil] at hW' hlt;have hs:=Ki hA0
 exact ⟨_,rfl,post_of_same (pa:=p) (pv:=[]) hW' (λ_ _ _=>(trodAll_cons_mk (shut_bool Tryz.underlying4 _) trodAll_mk0))
  (λsp hsp=>QA ky kz (by rw [Tryz.params11];decide +kernel) hA0 (λp hp=>VV hg (hlt p hp) (hs p hp)) hsp)
  (λ_ _=>rfl) (by simp) (hg.frame _) hg.2.1 (ok_one (by kernel_rfl) rfl (okWide_bool_mk Tryz.underlying4 _))⟩
end Go.Proofs.YthpkjfabdccpdaaGreat.Pt
