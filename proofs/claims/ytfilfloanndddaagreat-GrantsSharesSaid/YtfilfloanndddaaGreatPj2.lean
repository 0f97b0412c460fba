/- The evaluator comes to each of the plain functions. No condition. -/
import Derived.Test.YtfilfloanndddaaGreatPj1
set_option linter.all false
namespace Go.Proofs.YtfilfloanndddaaGreat.Pt
open Go Go.Proofs.YtfilfloanndddaaGreat.Sv Go.Proofs.YtfilfloanndddaaGreat.Pl Go.Proofs Go.Proofs.YtfilfloanndddaaGreat
open Go.ChangeShapes Go.WideShapes Go.ChangeAt Go.RowKit
set_option maxRecDepth 100000
set_option linter.unusedVariables false
theorem nG (u:Os) (a:u.Started) (H:Type) (enc:TypeId×Value->H) :
  ReturnsInHanded {} Tryz.checked u 3 .any (Rows.grantsSharesSpec.pre6 enc Tryz.prog Tryz.f3 Rows.grantsSharesRow.domain false) (Rows.grantsSharesSpec.post enc Tryz.prog Tryz.f3 false true false false):=by
 refine returnsInHanded_of_change (C:=Tryz.checked) (by kernel_rfl) a (by kernel_rfl) Tryz.func3
  (ChangeSpec.witness6 (enc:=enc) (C:=Tryz.checked) false ⟨#[],#[.agg #[.int .i64 0,.slice none 0 0,.slice none 0 0,.int .i64 0],.int .i64 0],[]⟩ 8 (by kernel_rfl) (by kernel_rfl) (by kernel_rfl) (by kernel_rfl)) ?_
 intro W base args z Y h c l w _;have b : ∀ (j:Nat) t v,Tryz.f3.params[j]? = some t->args[j]? = some v->Value.okWide Tryz.prog W .any base t v:=c;have f:=l;have g:=l.lt;obtain ⟨p,q,d,L,rfl,G,J⟩:=l;have o:DataW.TrodAll enc Tryz.prog W 0 (λ_=>true) true Tryz.f3.params.toList args.toList z p:=d;rw [Tryz.params3] at o b;obtain ⟨rfl,rfl⟩:=trodVars_none L;obtain ⟨x,U,E,i,F⟩:=Rn (D:=12) (dom:=[(true,CG),zI]) pH (by kernel_rfl) (r:=.any) (b0:=base) (vs:=args.toList) (λj t v y B=>b j t v (by simpa using y) (by simpa using B)) o
 have hc:Calls Tryz.prog 3 args W λe w'=>e = .returned (.bool true)/\Grown W w':=by
  have:=I5 (aQ i) E (dS W) F;simpa using this
 refine hc.mono λe W' ⟨O,m⟩ => ?_;subst O
 have two : ∃ k n,z=[k,n]:=by
  obtain ⟨v0,P,k,S,Z,q0,_,rfl,_,h0,K⟩:=trodAll_cons o;obtain ⟨v1,M,n,N,p1,q1,_,rfl,_,y,I⟩:=trodAll_cons K;obtain ⟨_,rfl,_⟩:=trodAll_nil I;exact ⟨_,_,rfl⟩
 obtain ⟨k,n,rfl⟩:=two;simp only [List.append_nil] at f g;have hs:=Ls d
 exact ⟨_,rfl,post_of_same (pa:=p) (pv:=[]) f (λ_ _ _=>(trodAll_cons_mk (shut_bool Tryz.underlying4 _) trodAll_mk0))
  (λX s=>Ro pH pI (by rw [Tryz.params3];decide +kernel) d (λp A=>Xs m (g p A) (hs p A)) s)
  (λ_ _=>rfl) (by simp) (m.frame _) m.2.1 (ok_one (by kernel_rfl) rfl (okWide_bool_mk Tryz.underlying4 _))⟩
end Go.Proofs.YtfilfloanndddaaGreat.Pt
