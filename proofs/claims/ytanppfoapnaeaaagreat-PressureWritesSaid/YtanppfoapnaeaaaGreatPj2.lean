/- The evaluator comes to each of the plain functions. No condition. -/
import Derived.Test.YtanppfoapnaeaaaGreatPj1
set_option linter.all false
namespace Go.Proofs.YtanppfoapnaeaaaGreat.Pt
open Go Sv Pl Go.Proofs Go.Proofs.YtanppfoapnaeaaaGreat
open Go.ChangeShapes Go.WideShapes Go.ChangeAt Go.RowKit
set_option maxRecDepth 100000
theorem o4(z:Os)(a:z.Started)(H:Type)(enc:TypeId×Value->H) :
  ReturnsInHanded {} Tryz.checked z 3 .any (Rows.pressureWritesSpec.pre6 enc Tryz.prog Tryz.f3 Rows.pressureWritesRow.domain false) (Rows.pressureWritesSpec.post enc Tryz.prog Tryz.f3 false true false false):=by
 refine returnsInHanded_of_change (C:=Tryz.checked) (by kernel_rfl) a (by kernel_rfl) Tryz.func3
  (ChangeSpec.witness6 (enc:=enc) (C:=Tryz.checked) false ⟨#[],#[.agg #[.int .i64 0,.slice none 0 0,.int .i64 0,.slice none 0 0,.slice none 0 0,.int .i64 0],.slice none 0 0],[]⟩ 8 (by kernel_rfl) (by kernel_rfl) (by kernel_rfl) (by kernel_rfl)) ?_
 intro W base args s U h d m w _;have b:∀ (j:Nat) t v,Tryz.f3.params[j]?=some t->args[j]?=some v->Value.okWide Tryz.prog W .any base t v:=d;have f:=m;have g:=m.lt;obtain⟨p,q,c,F,rfl,J,K⟩:=m;have l:DataW.TrodAll enc Tryz.prog W 0 (λ_=>true) true Tryz.f3.params.toList args.toList s p:=c;rw[Tryz.params3]at l b;obtain⟨rfl,rfl⟩:=trodVars_none F;obtain⟨x,ps,G,_,L⟩:=OJ (D:=12) (dom:=[(true,ZM),(false,(.sl true T2))]) qO (by kernel_rfl) (r:=.any) (b0:=base) (vs:=args.toList) (λj t v u E=>b j t v (by simpa using u) (by simpa using E)) l
 have hc:Calls Tryz.prog 3 args W λe w'=>e=.returned (.bool true)/\Grown W w':=by
  have:=Xa (pressureWrites x) G (SK W) L;simpa using this
 refine hc.mono λe S ⟨I,n⟩=> ?_;subst I
 have two:∃ i k,s=[i,k]:=by
  obtain⟨v0,O,i,A,Y,q0,_,rfl,_,X,M⟩:=trodAll_cons l;obtain⟨v1,P,k,B,Z,q1,_,rfl,_,u,N⟩:=trodAll_cons M;obtain⟨_,rfl,_⟩:=trodAll_nil N;exact⟨_,_,rfl⟩
 obtain⟨i,k,rfl⟩:=two;simp only[List.append_nil]at f g;have hs:=Yd c
 exact⟨_,rfl,post_of_same (pa:=p) (pv:=[]) f (λ_ _ _=>(trodAll_cons_mk (shut_bool Tryz.underlying4 _) trodAll_mk0))
  (λsp o=>Nh qO qT (by rw[Tryz.params3];decide +kernel) c (λp y=>bc n (g p y) (hs p y)) o)
  (λ_ _=>rfl) (by simp) (n.frame _) n.2.1 (ok_one (by kernel_rfl) rfl (okWide_bool_mk Tryz.underlying4 _))⟩
end Go.Proofs.YtanppfoapnaeaaaGreat.Pt
