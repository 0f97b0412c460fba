/- The evaluator comes to each of the plain functions. No condition. -/
import Derived.Test.YtiehjicadcamiaaGreatPj1
set_option linter.all false
open Option renaming some->zo, none->zn
open Bool renaming true->zt, false->zf
namespace Go.Proofs.YtiehjicadcamiaaGreat.Pt
open Go Sv Pl Go.Proofs Go.Proofs.YtiehjicadcamiaaGreat
open Go.ChangeShapes Go.WideShapes Go.ChangeAt Go.RowKit
set_option maxRecDepth 100000
theorem sW(E:Os)(a:E.Started)(H:Type)(enc:TypeId×Value->H) :
  ReturnsInHanded {} Tryz.checked E 4 .any (Rows.grantsManySpec.pre6 enc Tryz.prog Tryz.f4 Rows.grantsManyRow.domain zf) (Rows.grantsManySpec.post enc Tryz.prog Tryz.f4 zf zt zf zf):=by
 refine returnsInHanded_of_change (C:=Tryz.checked) (by kernel_rfl) a (by kernel_rfl) Tryz.func4
  (ChangeSpec.witness6 (enc:=enc) (C:=Tryz.checked) zf ⟨#[],#[.agg #[.int .i64 0,.slice zn 0 0,.slice zn 0 0,.int .i64 0],.slice zn 0 0,.slice zn 0 0],[]⟩ 8 (by kernel_rfl) (by kernel_rfl) (by kernel_rfl) (by kernel_rfl)) ?_
 intro W base args w gs h d n A _;have b:∀ (j:Nat) t v,Tryz.f4.params[j]?=zo t->args[j]?=zo v->Value.okWide Tryz.prog W .any base t v:=d;have f:=n;have g:=n.lt;obtain⟨p,q,c,J,rfl,M,N⟩:=n;have m:DataW.TrodAll enc Tryz.prog W 0 (λ_=>zt) zt Tryz.f4.params.toList args.toList w p:=c;rw[Tryz.params4]at m b;obtain⟨rfl,rfl⟩:=trodVars_none J;obtain⟨x,ps,K,s,O⟩:=OQ (D:=12) (dom:=[(zt,Xx),(zf,(.sl zf zJ)),(zf,(.sl zt bV))]) uO (by kernel_rfl) (r:=.any) (b0:=base) (vs:=args.toList) (λj t v y z=>b j t v (by simpa using y) (by simpa using z)) m
 have hc:Calls Tryz.prog 4 args W λe w'=>e=.returned (.bool zt)/\Grown W w':=by
  have:=Yu (kI s) K (Sb W) O;simpa using this
 refine hc.mono λe W' ⟨L,o⟩=> ?_;subst L
 have two:∃ i k l,w=[i,k,l]:=by
  obtain⟨v0,X,i,F,p0,q0,_,rfl,_,h0,P⟩:=trodAll_cons m;obtain⟨v1,Y,k,G,p1,q1,_,rfl,_,y,S⟩:=trodAll_cons P;obtain⟨v2,Z,l,I,p2,q2,_,rfl,_,z,U⟩:=trodAll_cons S;obtain⟨_,rfl,_⟩:=trodAll_nil U;exact⟨_,_,_,rfl⟩
 obtain⟨i,k,l,rfl⟩:=two;simp only[List.append_nil]at f g;have hs:=Zh c
 exact⟨_,rfl,post_of_same (pa:=p) (pv:=[]) f (λ_ _ _=>(trodAll_cons_mk (shut_bool Tryz.underlying4 _) trodAll_mk0))
  (λsp u=>Nn uO uV (by rw[Tryz.params4];decide +kernel) c (λp B=>eQ o (g p B) (hs p B)) u)
  (λ_ _=>rfl) (by simp) (o.frame _) o.2.1 (ok_one (by kernel_rfl) rfl (okWide_bool_mk Tryz.underlying4 _))⟩
end Go.Proofs.YtiehjicadcamiaaGreat.Pt
