/- The evaluator comes to each of the plain functions. No condition. -/
import Derived.Test.YtggceepiljjadaaGreatPj1
set_option linter.all false
namespace Go.Proofs.YtggceepiljjadaaGreat.Pt
open Go Sv Pl Go.Proofs Go.Proofs.YtggceepiljjadaaGreat
open Go.ChangeShapes Go.WideShapes Go.ChangeAt Go.RowKit
set_option maxRecDepth 100000
theorem sZ(A:Os)(a:A.Started)(H:Type)(enc:TypeId×Value->H) :
  ReturnsInHanded {} Tryz.checked A 3 .any (Rows.pressureFindsSpec.pre6 enc Tryz.prog Tryz.f3 Rows.pressureFindsRow.domain false) (Rows.pressureFindsSpec.post enc Tryz.prog Tryz.f3 false true false false):=by
 refine returnsInHanded_of_change (C:=Tryz.checked) (by kernel_rfl) a (by kernel_rfl) Tryz.func3
  (ChangeSpec.witness6 (enc:=enc) (C:=Tryz.checked) false ⟨#[],#[.agg #[.int .i64 0,.slice none 0 0,.int .i64 0,.slice none 0 0,.slice none 0 0,.int .i64 0],.slice none 0 0],[]⟩ 8 (by kernel_rfl) (by kernel_rfl) (by kernel_rfl) (by kernel_rfl)) ?_
 intro W base args u X h d m y _;have b:∀ (j:Nat) t v,Tryz.f3.params[j]?=some t->args[j]?=some v->Value.okWide Tryz.prog W .any base t v:=d;have f:=m;have g:=m.lt;obtain⟨p,q,c,G,rfl,K,L⟩:=m;have l:DataW.TrodAll enc Tryz.prog W 0 (λ_=>true) true Tryz.f3.params.toList args.toList u p:=c;rw[Tryz.params3]at l b;obtain⟨rfl,rfl⟩:=trodVars_none G;obtain⟨x,ps,I,o,M⟩:=OI (D:=12) (dom:=[(true,eA),(false,(.sl true T2))]) uN (by kernel_rfl) (r:=.any) (b0:=base) (vs:=args.toList) (λj t v w F=>b j t v (by simpa using w) (by simpa using F)) l
 have hc:Calls Tryz.prog 3 args W λe w'=>e=.returned (.bool true)/\Grown W w':=by
  have:=YD (j0 o) I (SJ W) M;simpa using this
 refine hc.mono λe U ⟨J,n⟩=> ?_;subst J
 have two:∃ i k,u=[i,k]:=by
  obtain⟨v0,P,i,B,Z,q0,_,rfl,_,Y,N⟩:=trodAll_cons l;obtain⟨v1,S,k,E,p1,q1,_,rfl,_,w,O⟩:=trodAll_cons N;obtain⟨_,rfl,_⟩:=trodAll_nil O;exact⟨_,_,rfl⟩
 obtain⟨i,k,rfl⟩:=two;simp only[List.append_nil]at f g;have hs:=Zi c
 exact⟨_,rfl,post_of_same (pa:=p) (pv:=[]) f (λ_ _ _=>(trodAll_cons_mk (shut_bool Tryz.underlying4 _) trodAll_mk0))
  (λsp s=>Nf uN uS (by rw[Tryz.params3];decide +kernel) c (λp z=>eM n (g p z) (hs p z)) s)
  (λ_ _=>rfl) (by simp) (n.frame _) n.2.1 (ok_one (by kernel_rfl) rfl (okWide_bool_mk Tryz.underlying4 _))⟩
end Go.Proofs.YtggceepiljjadaaGreat.Pt
