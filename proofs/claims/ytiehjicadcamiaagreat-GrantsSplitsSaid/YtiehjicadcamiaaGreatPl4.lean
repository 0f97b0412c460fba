/- Functions of the program and of the specification as plain functions, and laws about them. No condition. -/
import Derived.Test.YtiehjicadcamiaaGreatPl3
import Derived.KernelRfl
set_option linter.all false
open List renaming all_cons->s5, cons_append->ol, length_append->hV, length_cons->ae, mem_cons->bl, nil_append->hU, not_mem_nil->ox
open Int renaming le_refl->tk, toNat_natCast->ab
open Prod renaming ext->rY
open Option renaming some->zo, none->zn
open Bool renaming true->zt, false->zf
namespace Go.Proofs.YtiehjicadcamiaaGreat.Pl
section
open Go Sv
theorem fo{α β γ:Type}{f:α->Option (LR α β)}{K:β->Option γ}{R:Option γ}(Inv:α->Prop)(Q:β->Prop)(m:α->Nat){s:α}(hs:Inv s)(b:m s<18446744073709551616)
  (step:∀ s,Inv s->(∃ s',f s=zo (.nx s')/\Inv s'/\m s'<m s)\/(∃ x,f s=zo (.dn x)/\Q x)) (a:∀ x,Q x->K x=R):bd (loop f s) K=R:=by
 obtain⟨x,e,q⟩:=Sa Inv Q m hs b step;rw[e];exact a x q
theorem ft{β:Type}(n:Nat)(x y:Unit->Option β):br (neq n 0) x y=if n=0 then x ()else y ():=by
 rw[TB]
def zU:W8:=(0,(0,(0,(0,(0,(0,(0,(0,(0,(0,(0,(0,(0,(0,0))))))))))))))
def aE(g:Int)(u:W8):W8:=(u.1,(SY .i64 g u.1,u.2.2))
def Xt(s:UC)(g:Int):Int:=if(UE s).2≠0 then(UE s).2 else if g<0\/g>1000000 then 7 else 0
def V4(s:UC)(g:Int):UC×(W8×Int):=if Xt s g≠0 then(zS,(zU,Xt s g))else if(UL g.toNat s).2.2≠0 then(zS,(zU,(UL g.toNat s).2.2))else((UL g.toNat s).1,(aE g (VO zU (UL g.toNat s).2.1),0))
def gm(s:UC)(e:Int)(u:W8):(Int×(List (List Ua)×(List Job×(Int×Int))))×W8:=((s.1.1,(s.1.2,(s.2.1,(s.2.2,e)))),u)
theorem pN{s0 s:UC}(g:Gd s0 s):Vx s=4/\(U0 s).2=4\/Vx s≠4/\Vx s≠0/\(U0 s).2≠4/\((U0 s).2=Vx s\/(U0 s).2=0/\(Vm s (U0 s).1).2.2=Vx s)\/Vx s=0/\(U0 s).2=0/\(Vm s (U0 s).1).2.2=0:=by
 by_cases a:Vx s=4
 ·exact .inl ⟨a,(c0 g a).1⟩
 ·by_cases b:Vx s=0
  ·have:=cz g b;omega
  ·refine .inr (.inl ⟨a,b,?_⟩);unfold Vx at a b ⊢;omega
theorem u5{u:W8}{x:Int×Bool}(h:0<=u.1/\u.1<=1000000):(Yw u x).1=u.1+1:=by
 show SV .i64 u.1 1=_;exact Su (by omega)
def At(s0:UC)(g:Int)(T:UC×((List Int×W8)×Int))(k:Nat)(s:UC)(l:List Int)(u:W8):Prop:=Gd s0 s/\0<=u.1/\u.1+k=g/\g<=1000000/\(l.length:Int)=u.1/\T=((UL k s).1,((l++(UL k s).2.1.map (·.1),VO u (UL k s).2.1),(UL k s).2.2))
theorem At.step{s0 s:UC}{g:Int}{T:UC×((List Int×W8)×Int)}{k:Nat}{l:List Int}{u:W8}(a:At s0 g T (k+1) s l u)(e:Vx s=0):At s0 g T k (XY s) (l++[(YZ s).1]) (Yw u (YZ s)):=by
 obtain⟨c,h,i,d,j,f⟩:=a;obtain⟨_,_,_,_,_,_,_,b⟩:=W6 c e;have m:=u5 (x:=YZ s) (show 0<=u.1/\u.1<=1000000 by omega);refine⟨b,by omega,by omega,d,by simp;omega,?_⟩;rw[f];simp only[UL,e,ne_eq,not_true_eq_false,if_false,List.map_cons,List.append_assoc,ol,hU];rfl
theorem At.none{s0 s:UC}{g:Int}{T:UC×((List Int×W8)×Int)}{k:Nat}{l:List Int}{u:W8}(a:At s0 g T k s l u)(e:Vx s=4):T=(s,((l,u),0)):=by
 rw[a.2.2.2.2.2];cases k<;>simp[UL,e,VO]
theorem At.fail{s0 s:UC}{g:Int}{T:UC×((List Int×W8)×Int)}{k:Nat}{l:List Int}{u:W8}(a:At s0 g T (k+1) s l u)(c:Vx s≠4)(b:Vx s≠0):T=(s,((l,u),Vx s)):=by
 rw[a.2.2.2.2.2];simp[UL,c,b,VO]
theorem At.last{s0 s:UC}{g:Int}{T:UC×((List Int×W8)×Int)}{l:List Int}{u:W8}(a:At s0 g T 0 s l u):T=(s,((l,u),0)):=by
 rw[a.2.2.2.2.2];simp[UL,VO]
theorem oc{s0 s:UC}(g:Gd s0 s)(e:Vx s=0):∃ n:Nat,(U0 s).1=(n:Int)/\n<12/\(U0 s).1.toNat=n:=by
 obtain⟨n,_,a,b,_⟩:=W6 g e;exact⟨n,a,b,by rw[show(U0 s).1=(n:Int)from a];simp⟩
theorem jM{β:Type}{a b:Nat}(h:a<b)(k:Unit->Option β):gd (Iq a b) k=k ():=by
 have:Iq a b=zt:=by unfold Iq;simpa using h
 rw[this];rfl
theorem sC{u:W8}{s:UC}{n:Nat}(h:(U0 s).1.toNat=n)(a:(Vm s (U0 s).1).2.1=zt):Yw u (YZ s)=(SV .i64 u.1 1,(u.2.1,(SV .i64 u.2.2.1 1,Z6 u.2.2.2 n n))):=by
 unfold Yw YZ;simp_all
theorem sB{u:W8}{s:UC}{n:Nat}(h:(U0 s).1.toNat=n)(a:(Vm s (U0 s).1).2.1=zf):Yw u (YZ s)=(SV .i64 u.1 1,(u.2.1,(u.2.2.1,Z6 u.2.2.2 n n))):=by
 simp_all[Yw,YZ,zx]
theorem eE{γ:Type}{t:UC}{u:W8}{g:Int}{n:Nat}(b:0<=u.1/\u.1<=1000000)(e3:(Vm t (U0 t).1).2.2=0)(n3:(U0 t).1.toNat=n)(D N:Int->W8->Option γ) :
  (br (Vm t (U0 t).1).2.1 (λ_=>br (Og (SV .i64 u.1 1) g) (λ_=>D (Vm t (U0 t).1).2.2 (SV .i64 u.1 1,(u.2.1,(SV .i64 u.2.2.1 1,Z6 u.2.2.2 n n)))) λ_=>N (Vm t (U0 t).1).2.2 (SV .i64 u.1 1,(u.2.1,(SV .i64 u.2.2.1 1,Z6 u.2.2.2 n n)))) λ_=>br (Og (SV .i64 u.1 1) g) (λ_=>D (Vm t (U0 t).1).2.2 (SV .i64 u.1 1,(u.2.1,(u.2.2.1,Z6 u.2.2.2 n n)))) λ_=>N (Vm t (U0 t).1).2.2 (SV .i64 u.1 1,(u.2.1,(u.2.2.1,Z6 u.2.2.2 n n))))=if u.1+1=g then D 0 (Yw u (YZ t))else N 0 (Yw u (YZ t)):=by
 have hi:SV .i64 u.1 1=u.1+1:=Su (by omega);rw[Tn,Tc,Tc,hi,e3];by_cases a:(Vm t (U0 t).1).2.1=zt
 ·rw[zy a,sC n3 a,hi]
 simp_all[zx,sB]
theorem Zl{s:UC}{g:Int}(h:(UE s).2≠0):Xt s g=(UE s).2:=zy h
theorem Zm{s:UC}{g:Int}(a:(UE s).2=0)(h:g<0\/g>1000000):Xt s g=7:=by simp_all[Xt,zx,zy]
theorem Y5{s:UC}{g:Int}(a:(UE s).2=0)(h:¬ (g<0\/g>1000000)):Xt s g=0:=by simp_all[Xt,zx]
def shB(g:Int):((Int×(List (List Ua)×(List Job×(Int×Int))))×W8)->Option (LR ((Int×(List (List Ua)×(List Job×(Int×Int))))×W8) (Nat×(((Int×(List (List Ua)×(List Job×(Int×Int))))×W8)×Unit))):=
 (λ(a:((Int×((List (List Ua))×((List qJ)×(Int×Int))))×W8))=>bd (Uw (((a.1.1,a.1.2.1),(a.1.2.2.1,a.1.2.2.2.1)))) λc=>br (Og c.2 4) (λ_=>zo (.dn ((0,(a,()))))) λ_=>br (Og c.2 0) (λ_=>bd (Un ((((a.1.1,a.1.2.1),(a.1.2.2.1,a.1.2.2.2.1)),c.1))) λb=>br (SD b.2.2 0) (λ_=>zo (.dn ((0,(((a.1.1,(a.1.2.1,(a.1.2.2.1,(a.1.2.2.2.1,b.2.2)))),a.2),()))))) λ_=>bd (WY (c.1,b.2.1)) λi=>SG c.1 λf=>gd (Iq f 12) λ_=>SG c.1 λh=>gd (Iq h 12) λ_=>br b.2.1 (λ_=>br (Og (SV .i64 a.2.1 1) g) (λ_=>zo (.dn ((1,(((b.1.1.1,(b.1.1.2,(b.1.2.1,(b.1.2.2,b.2.2)))),(SV .i64 a.2.1 1,(a.2.2.1,(SV .i64 a.2.2.2.1 1,(Z6 a.2.2.2.2 f h))))),()))))) λ_=>zo (.nx (((b.1.1.1,(b.1.1.2,(b.1.2.1,(b.1.2.2,b.2.2)))),(SV .i64 a.2.1 1,(a.2.2.1,(SV .i64 a.2.2.2.1 1,(Z6 a.2.2.2.2 f h)))))))) λ_=>br (Og (SV .i64 a.2.1 1) g) (λ_=>zo (.dn ((1,(((b.1.1.1,(b.1.1.2,(b.1.2.1,(b.1.2.2,b.2.2)))),(SV .i64 a.2.1 1,(a.2.2.1,(a.2.2.2.1,(Z6 a.2.2.2.2 f h))))),()))))) λ_=>zo (.nx (((b.1.1.1,(b.1.1.2,(b.1.2.1,(b.1.2.2,b.2.2)))),(SV .i64 a.2.1 1,(a.2.2.1,(a.2.2.2.1,(Z6 a.2.2.2.2 f h)))))))) λ_=>br (SD c.2 0) (λ_=>zo (.dn ((0,(((a.1.1,(a.1.2.1,(a.1.2.2.1,(a.1.2.2.2.1,c.2)))),a.2),()))))) λ_=>bd (WY (c.1,zf)) λj=>SG c.1 λd=>gd (Iq d 12) λ_=>SG c.1 λe=>gd (Iq e 12) λ_=>br (Og (SV .i64 a.2.1 1) g) (λ_=>zo (.dn ((1,(((0,([],([],(0,c.2)))),(SV .i64 a.2.1 1,(a.2.2.1,(a.2.2.2.1,(Z6 a.2.2.2.2 d e))))),()))))) λ_=>zo (.nx (((0,([],([],(0,c.2)))),(SV .i64 a.2.1 1,(a.2.2.1,(a.2.2.2.1,(Z6 a.2.2.2.2 d e))))))))
theorem dV{s0 s:UC}(G:Gd s0 s){g:Int}(D:g>0)(C:g<=1000000){γ:Type}{K:(Nat×(((Int×(List (List Ua)×(List Job×(Int×Int))))×W8)×Unit))->Option γ}{R:Option γ}(h:∀ r:(Nat×(((Int×(List (List Ua)×(List Job×(Int×Int))))×W8)×Unit)),r.2.1=gm (UL g.toNat s).1 (UL g.toNat s).2.2 (VO zU (UL g.toNat s).2.1)->K r=R):bd (loop (shB g) (gm s 0 zU)) K=R:=by
 obtain⟨n0,j⟩:∃ n0:Nat,n0=g.toNat:=⟨_,rfl⟩;rw[<- j]at h;obtain⟨T,E⟩:∃ T,T=((UL n0 s).1,(((UL n0 s).2.1.map (·.1),VO zU (UL n0 s).2.1),(UL n0 s).2.2)):=⟨_,rfl⟩;refine fo (λf=>∃ k t l u,f=gm t 0 u/\At s0 g T (k+1) t l u) (λr=>r.2.1=gm T.1 T.2.2 T.2.1.2) (λf=>(g-f.2.1).toNat) ⟨n0-1,s,[],zU,rfl,G,by decide,?_,by omega,rfl,?_⟩ ?_ ?_ ?_
 ·show(0:Int)+_=g;omega
 ·grind
 ·show(g-0).toNat<_;omega
 ·rintro f ⟨k,t,l,u,rfl,a⟩;obtain⟨b,q,y,z,A,B⟩:=id a;rcases pN b with⟨e1,e2⟩|⟨e1,e2,e3,c⟩|⟨e1,e2,e3⟩
  ·refine .inr ⟨(0,(gm t 0 u,())),?_,by rw[a.none e1]⟩;show bd (Uw t) _=_;rw[(YG b).1,TA,Tc,zy e2]
  ·have w:=a.fail e1 e2;refine .inr ⟨(0,(gm t (Vx t) u,())),?_,by rw[w]⟩;show bd (Uw t) _=_;rw[(YG b).1,TA,Tc,zx e3,Tc];rcases c with c|⟨c,e5⟩
   ·rw[zx (by omega),Ti,zx (by omega),c];rfl
   ·rw[zy c];show bd (Un (t,(U0 t).1)) _=_;rw[(Z1 b _).1,TA,Ti,zx (by omega),e5];rfl
  ·obtain⟨n,n1,n2,n3⟩:=oc b e1;have F:=u5 (x:=YZ t) (show 0<=u.1/\u.1<=1000000 by omega);have o:=a.step e1
   have fin:∀ {R},(if u.1+1=g then zo (LR.dn (1,(gm (XY t) 0 (Yw u (YZ t)),())))else zo (LR.nx (gm (XY t) 0 (Yw u (YZ t)))))=R->(∃ s',R=zo (.nx s')/\(∃ k t l u,s'=gm t 0 u/\At s0 g T (k+1) t l u)/\(g-s'.2.1).toNat<(g-(gm t 0 u).2.1).toNat)\/(∃ x,R=zo (.dn x)/\x.2.1=gm T.1 T.2.2 T.2.1.2):=fun {R} d=>by
    by_cases p:u.1+1=g
    ·rw[zy p]at d;have h:k=0:=by omega
     subst h;exact .inr ⟨_,d.symm,by rw[o.last]⟩
    ·rw[zx p]at d;obtain⟨m,i⟩:∃ m,k=m+1:=⟨k-1,by omega⟩;refine .inl ⟨_,d.symm,⟨m,_,_,_,rfl,by rw[<- i];exact o⟩,?_⟩;show(g-(Yw u (YZ t)).1).toNat<(g-u.1).toNat;omega
   refine fin ?_;symm;show bd (Uw t) _=_;rw[(YG b).1,TA,Tc,zx (by omega),Tc,zy e2];show bd (Un (t,(U0 t).1)) _=_;rw[(Z1 b _).1,TA,Ti,zy e3];show bd (zo ()) _=_;rw[TA,n1,UB,jM n2,UB,jM n2,<- n1];exact eE (u:=u) ⟨q,by omega⟩ e3 n3 (λe u=>zo (LR.dn (1,(gm (XY t) e u,())))) (λe u=>zo (LR.nx (gm (XY t) e u)))
 grind
theorem aB{s:UC}(m:Sm s)(hc:VSt s->VE s.1.2.flatten<=2000)(g:Int):Vg (s,g)=zo (V4 s g):=by
 unfold Vg V4;rw[u9 m,TA,Ti];by_cases a:(UE s).2=0;rotate_left
 ·rw[zx a,Zl a,zy a,Ti,zx a];rfl
 rw[zy a,Th,Te];by_cases b:g<0
 ·rw[zy b,Zm a (.inl b),zy (by decide)];rfl
 by_cases c:g>1000000
 ·rw[zx b,zy c,Zm a (.inr c),zy (by decide)];rfl
 rw[zx b,zx c,Y5 a (by omega),zx (by decide),Te];have v:=UO.1 a;have G:Gd s s:=⟨v,rfl,hc v⟩;by_cases d:g>0;rotate_left
 ·have:g=0:=by omega
  subst this;rfl
 rw[zy d];refine dV G d (by omega) λr e=> ?_
 have key:(br (SD r.2.1.1.2.2.2.2 0) (λ_=>zo (((((0:Int),([]:List (List Ua))),(([]:List Job),(0:Int))),(zU,r.2.1.1.2.2.2.2)))) λ_=>zo ((((r.2.1.1.1,r.2.1.1.2.1),(r.2.1.1.2.2.1,r.2.1.1.2.2.2.1)),((r.2.1.2.1,(SY .i64 g r.2.1.2.1,r.2.1.2.2.2)),(0:Int)))))=zo (if(UL g.toNat s).2.2≠0 then(zS,(zU,(UL g.toNat s).2.2))else((UL g.toNat s).1,(aE g (VO zU (UL g.toNat s).2.1),0))):=by
  rw[e,Ti];show(if(UL g.toNat s).2.2=0 then _ else _)=_
  by_cases h:(UL g.toNat s).2.2=0
  ·rw[zy h,zx (by simp[h])];rfl
  ·rw[zx h,zy h];rfl
 rw[ft];split
 ·exact key
 ·exact key
end
section
open Go Sv
def rL(s:UC):Int×(List (List Ua)×(List Job×Int)):=(s.1.1,(s.1.2,s.2))
end
section
open Go Sv
theorem tM{s t:UC}{n:Nat}{j:Job}{b:Bool}(v:VSt s)(F:StepF s n j t b){i:Nat}(a:i≠n)(f:(UI s.1.2 i).length=2):UI t.1.2 i=UI s.1.2 i/\U4 t.2.1 (i:Int)=U4 s.2.1 (i:Int):=by
 by_cases h:0<UY s.1 j
 ·obtain⟨_,e1,_,e2⟩:=F.read h;exact⟨by rw[e1],by rw[e2,zx a]⟩
 ·obtain⟨_,e1,_,e2,e3,g⟩:=F.inst (by omega)
  have e:¬ (U8 j≠[]/\i=Yl s j):=λ⟨c,hi⟩=>by
   rcases e3 with e3|⟨e3,_,e5⟩
   ·exact a (by rw[hi,e3])
   ·have:=e5 c;rw[<- e3,<- hi]at this;omega
  have c:UI t.1.2 i=UI s.1.2 i:=by rw[e2,zx e,zx a]
  refine⟨c,?_⟩;obtain⟨j',d⟩:=v.hasJob f;rw[g,c,zy f,zx a,d];rfl
theorem tN{s0 s:UC}(g:Gd s0 s)(e:Vx s=0){i:Nat}(b:(UI s.1.2 i).length=2)(f:YZ s≠((i:Int),zt)):(UI (XY s).1.2 i).length=2:=by
 obtain⟨n,j,d,k,h,hc,F,_⟩:=W6 g e;by_cases a:i=n
 ·subst a;by_cases c:0<UY s.1 j
  ·rw[(F.read c).2.1];exact b
  ·exact absurd (rY d (F.inst (by omega)).1) f
 ·rw[(tM g.1 F a b).1];exact b
def cy(a:Int):Nat->Nat->UC->Int×Int
 |0,_,_=>(0,0)
 |k+1,n,s=>if Vx s≠0 then(0,Vx s)else if YZ s=(a,zt)then(((n+1:Nat):Int),0)else cy a k (n+1) (XY s)
def NAt(s0:UC)(a:Int)(T:Int×Int)(k n:Nat)(s:UC):Prop:=Gd s0 s/\oL 2000 s<k/\n+k<=60000/\T=cy a k n s /\ ∃ i:Nat,a=(i:Int)/\(UI s.1.2 i).length=2
theorem NAt.fail{s0 s:UC}{d:Int}{T:Int×Int}{k n:Nat}(a:NAt s0 d T k n s)(e:Vx s≠0):T=(0,Vx s):=by
 obtain⟨_,f,_,c,_⟩:=a;obtain⟨b,rfl⟩:∃ b,k=b+1:=⟨k-1,by omega⟩;rw[c];simp[cy,e]
theorem NAt.hit{s0 s:UC}{c:Int}{T:Int×Int}{k n:Nat}(a:NAt s0 c T k n s)(e:Vx s=0)(h:YZ s=(c,zt)):T=(((n+1:Nat):Int),0):=by
 obtain⟨_,f,_,d,_⟩:=a;obtain⟨b,rfl⟩:∃ b,k=b+1:=⟨k-1,by omega⟩;rw[d];simp[cy,e,h]
theorem NAt.next{s0 s:UC}{d:Int}{T:Int×Int}{k n:Nat}(a:NAt s0 d T k n s)(e:Vx s=0)(h:YZ s≠(d,zt)):∃ b,k=b+1/\NAt s0 d T b (n+1) (XY s)/\oL 2000 (XY s)<oL 2000 s:=by
 obtain⟨c,m,o,j,i,f,l⟩:=a;obtain⟨b,rfl⟩:∃ b,k=b+1:=⟨k-1,by omega⟩;obtain⟨_,_,_,_,_,_,_,g⟩:=W6 c e;have p:=(cG c c.2.2 e).1;refine⟨b,rfl,⟨g,by omega,by omega,?_,i,f,tN c e l (by rw[<- f];exact h)⟩,by omega⟩;rw[j];simp[cy,e,h]
end
section
open Go Sv
set_option maxRecDepth 1000000
theorem Zj:WH ()=zo zt:=by kernel_rfl
theorem oU(a:Xo):vA a a=zt:=by
 unfold vA;simp only[Vj,decide_true];rfl
theorem pI(u:W8):Nr (Og u.1 u.1) (Nr (Og u.2.1 u.2.1) (Nr (Og u.2.2.1 u.2.2.1) (Nr (vA u.2.2.2 u.2.2.2) zt)))=zt:=by
 rw[oU];simp only[Vj,decide_true];rfl
theorem dR{t:UC}(h:t=zS\/VSt t):WA (t,t)=zo zt:=by
 rcases h with rfl|h
 ·exact tZ
 ·exact eC h
theorem rR{s:UC}(f:∀ rs∈s.1.2,∀ r∈rs,r.2.length<=9223372036854775807){K:Bool->Option Bool}(c:K zt=zo zt)(d:Sm s->(VSt s->VE s.1.2.flatten<=40)->K zf=zo zt):bd (Xq s) K=zo zt:=by
 obtain⟨b,e,a⟩:=jK s f;rw[e,TA];cases b with
 |true=>exact c
 |false=>exact d (a rfl).1 λv=>(a rfl).2 v.lev
theorem sE{s:UC}(h:VSt s->VE s.1.2.flatten<=40):VSt s->VE s.1.2.flatten<=2000:=λv=>by grind
end
section
open Go Sv
end
section
open Go Sv
set_option maxRecDepth 100000
end
section
open Go Sv
end
section
open Go Sv
set_option maxRecDepth 100000
end
section
open Go Sv
set_option maxRecDepth 100000
end
section
open Go Sv
@[reducible] def tE:Ty:=.pair .str (.pair .str (.pair .bool (.int .i64)))
@[reducible] def yJ:Ty:=.pair (.pair (.int .i64) (.sl zt (.sl zt (.pair (.int .i64) (.sl zt tE))))) (.pair (.sl zt (.pair (.int .i64) (.pair (.pair (.sl zf (.sl zt tE)) (.pair (.sl zf (.int .i64)) (.pair (.sl zt (.pair .str .bool)) (.pair (.sl zf (.int .i64)) (.int .i64))))) (.pair (.pair .bool (.pair .str .bool)) (.pair (.sl zt tE) (.int .i64)))))) (.int .i64))
theorem tK{s:UC}(h:RO yJ s):∀ rs∈s.1.2,∀ r∈rs,r.2.length<=9223372036854775807:=by
 obtain⟨⟨_,d,c⟩,_⟩:=h;exact λrs b r a=>((c rs b).2 r a).2.1
theorem rG{b:Int}(h:RO (.int .u8) b):0<=b/\b<=255:=by
 have a:(decide (IntKind.min .u8<=b)&&decide (b<=IntKind.max .u8))=zt:=h;rw[Bool.and_eq_true,decide_eq_true_eq,decide_eq_true_eq]at a;exact a
end
section
open Go Sv
set_option maxRecDepth 100000
end
section
open Go Sv
end
section
open Go Sv
end
section
open Go Sv
end
section
open Go Sv
theorem tH{α β γ σ S:Type}{l:List α}(mk:Nat->σ->S)(I:List α->Nat->σ->Prop)(Q:β->Prop){f:S->Option (LR S β)}{s:S}{K:β->Option γ}{R:Option γ}(a:σ)(c:s=mk 0 a)(g:l.length<=9223372036854775807)(hi:I l 0 a)
  (h:∀ a,I [] l.length a -> ∃ r,f (mk l.length a)=zo (.dn r)/\Q r)
  (hc:∀ k x m a,l.drop k=x::m->l[k]?=zo x->k<l.length->I (x::m) k a->(∃ b,f (mk k a)=zo (.nx (mk (k+1) b))/\I m (k+1) b) \/ ∃ r,f (mk k a)=zo (.dn r)/\Q r) (d:∀ r,Q r->K r=R):bd (loop f s) K=R:=by
 obtain⟨r,e,q⟩:=Wp mk I Q a c g hi h hc;rw[e];exact d r q
end
section
open Go Sv
structure Srt (R T:List UD):Prop where
 len:T.length=R.length
 asc:Asc zn T
 mem:∀ y,y∈T<->y∈R
def cu(o:List UD)(y:UD):Prop:=∀ z,o.getLast?=zo z->Si z.1 y.1=zt
structure Best (R o:List UD) (c:Nat) (y:UD):Prop where
 at':R[c]?=zo y
 lt:cu o y
def BInv(R o:List UD)(i:Nat)(b:Int):Prop:=
 (b = -1 /\ ∀ j<i,∀ y,R[j]?=zo y -> ¬ cu o y) \/ ∃ (c:Nat) (y:UD),b=(c:Int)/\c<i/\R[c]?=zo y/\cu o y /\ ∀ j<i,∀ z,R[j]?=zo z->cu o z->Si z.1 y.1=zf
theorem BInv.first{R o:List UD}{i:Nat}{x:UD}(h:BInv R o i (-1))(d:R[i]?=zo x)(g:cu o x):BInv R o (i+1) (i:Int):=by
 rcases h with⟨_,f⟩|⟨c,y,k,_⟩
 ·refine .inr ⟨i,x,rfl,by omega,d,g,λj l z b a=> ?_⟩;by_cases e:j=i
  ·subst e;rw[d]at b;cases b;exact W3 _
  ·exact absurd a (f j (by omega) z b)
 ·omega
end
section
open Go Sv
end
section
open Go Sv
end
section
open Go Sv
def oK(n:Int):Bool:=decide (0<=n/\n<=1000000)
def i7(u:W8):List Int:=[u.1,u.2.1,u.2.2.1]++Xs u.2.2.2
def jB(u:W8):Bool:=(i7 u).all oK
def bm(n:Nat)(a b:Xo):Xo:=
 (if 0<n then SV .i64 a.1 b.1 else a.1,(if 1<n then SV .i64 a.2.1 b.2.1 else a.2.1,(if 2<n then SV .i64 a.2.2.1 b.2.2.1 else a.2.2.1,(if 3<n then SV .i64 a.2.2.2.1 b.2.2.2.1 else a.2.2.2.1,(if 4<n then SV .i64 a.2.2.2.2.1 b.2.2.2.2.1 else a.2.2.2.2.1,(if 5<n then SV .i64 a.2.2.2.2.2.1 b.2.2.2.2.2.1 else a.2.2.2.2.2.1,(if 6<n then SV .i64 a.2.2.2.2.2.2.1 b.2.2.2.2.2.2.1 else a.2.2.2.2.2.2.1,(if 7<n then SV .i64 a.2.2.2.2.2.2.2.1 b.2.2.2.2.2.2.2.1 else a.2.2.2.2.2.2.2.1,(if 8<n then SV .i64 a.2.2.2.2.2.2.2.2.1 b.2.2.2.2.2.2.2.2.1 else a.2.2.2.2.2.2.2.2.1,(if 9<n then SV .i64 a.2.2.2.2.2.2.2.2.2.1 b.2.2.2.2.2.2.2.2.2.1 else a.2.2.2.2.2.2.2.2.2.1,(if 10<n then SV .i64 a.2.2.2.2.2.2.2.2.2.2.1 b.2.2.2.2.2.2.2.2.2.2.1 else a.2.2.2.2.2.2.2.2.2.2.1,if 11<n then SV .i64 a.2.2.2.2.2.2.2.2.2.2.2 b.2.2.2.2.2.2.2.2.2.2.2 else a.2.2.2.2.2.2.2.2.2.2.2)))))))))))
theorem od{k:Nat}(h:k<12):k=0\/k=1\/k=2\/k=3\/k=4\/k=5\/k=6\/k=7\/k=8\/k=9\/k=10\/k=11:=by omega
def cW(u v:W8):W8:=(SV .i64 u.1 v.1,(SV .i64 u.2.1 v.2.1,(SV .i64 u.2.2.1 v.2.2.1,bm 12 u.2.2.2 v.2.2.2)))
def XT:W8->List W8->W8×Int
 |u,[]=>(u,0)
 |u,x::l=>if jB x=zt then XT (cW u x) l else(zU,7)
def o7(l:List W8):W8×Int:=if l.length>200 then(zU,3)else XT zU l
def Bd(n:Nat)(u:W8):Prop:=∀ e∈i7 u,0<=e/\e<=n*1000000
theorem gF{u:W8}:jB u=zt <-> ∀ e∈i7 u,0<=e/\e<=1000000:=by
 unfold jB oK;simp
theorem rK{n:Nat}{u v:W8}(K:n<=200)(c:Bd n u)(a:jB v=zt):Bd (n+1) (cW u v):=by
 rw[gF]at a;unfold Bd i7 Xs at c ⊢;unfold i7 Xs at a;simp only[ol,hU,bl,ox,or_false,forall_eq_or_imp,forall_eq]at c a ⊢;unfold cW bm;simp only[Nat.zero_lt_succ,if_true,show(1:Nat)<12 by decide,show(2:Nat)<12 by decide,show(3:Nat)<12 by decide,show(4:Nat)<12 by decide,show(5:Nat)<12 by decide,show(6:Nat)<12 by decide,show(7:Nat)<12 by decide,show(8:Nat)<12 by decide,show(9:Nat)<12 by decide,show(10:Nat)<12 by decide,show(11:Nat)<12 by decide];obtain⟨a0,d,e,f,g,h,i,j,k,l,m,o,p,q,r⟩:=c;obtain⟨b0,s,t,w,z,A,B,C,D,E,F,G,I,b,J⟩:=a
 have key:∀ {x y:Int},(0<=x/\x<=n*1000000)->(0<=y/\y<=1000000)->0<=SV .i64 x y/\SV .i64 x y<=((n+1:Nat):Int)*1000000:=by
  intro x y L M;rw[Su (by omega)];omega
 exact⟨key a0 b0,key d s,key e t,key f w,key g z,key h A,key i B,key j C,key k D,key l E,key m F,key o G,key p I,key q b,key r J⟩
theorem tG{a b:Bool}:Nr a b=zt<->a=zt/\b=zt:=by
 cases a<;>cases b<;>simp[Nr]
theorem oV{n:Nat}{u:W8}(E:n<=200)(a:Bd n u){b:Xo}(c:vB b=zt):bm 12 u.2.2.2 b=u.2.2.2:=by
 unfold Bd i7 Xs at a;simp only[ol,hU,bl,ox,or_false,forall_eq_or_imp,forall_eq]at a;obtain⟨_,_,_,d,e,f,g,h,i,j,k,l,m,o,p⟩:=a;obtain⟨b0,q,r,s,t,w,y,z,A,B,C,D⟩:=b;unfold vB at c;simp only[tG,Vj,decide_eq_true_eq,and_true]at c;obtain⟨rfl,rfl,rfl,rfl,rfl,rfl,rfl,rfl,rfl,rfl,rfl,rfl⟩:=c
 have key:∀ {x:Int},(0<=x/\x<=n*1000000)->SV .i64 x 0=x:=by
  intro x F;rw[Su (by omega)];omega
 unfold bm;simp only[Nat.zero_lt_succ,if_true,show(1:Nat)<12 by decide,show(2:Nat)<12 by decide,show(3:Nat)<12 by decide,show(4:Nat)<12 by decide,show(5:Nat)<12 by decide,show(6:Nat)<12 by decide,show(7:Nat)<12 by decide,show(8:Nat)<12 by decide,show(9:Nat)<12 by decide,show(10:Nat)<12 by decide,show(11:Nat)<12 by decide];rw[key d,key e,key f,key g,key h,key i,key j,key k,key l,key m,key o,key p]
end
section
open Go Sv
abbrev S7:=Int×(Int×(Int×(Int×Xo)))
theorem xu(g:W8)(d e f:Int)(a:Xo){γ:Type}{K:Nat×(S7×Unit)->Option γ}:bd (PU (β:=Nat×(S7×Unit)) (λb=>br (TK b.1 12) (λ_=>SG b.1 λh=>gd (Iq h 12) λ_=>SG b.1 λi=>gd (Iq i 12) λ_=>SG b.1 λc=>gd (Iq c 12) λ_=>zo (.nx ((SV .i64 b.1 1,(b.2.1,(b.2.2.1,(b.2.2.2.1,(yD b.2.2.2.2 i c (Hz (Xs g.2.2.2) h))))))))) λ_=>zo (.dn ((0,(b,()))))) ((0,(d,(e,(f,a)))))) K=K (0,(((12:Int),(d,(e,(f,bm 12 a g.2.2.2)))),())):=by
 rw[PW];refine UZ (Xr (λk=>((k:Int),(d,(e,(f,bm k a g.2.2.2))))) 12 rfl (by decide) (λk j=> ?_) rfl) rfl;rcases od j with rfl|rfl|rfl|rfl|rfl|rfl|rfl|rfl|rfl|rfl|rfl|rfl<;>kernel_rfl
theorem xy(a:W8){γ:Type}{K:Nat×((Bool×Int)×Unit)->Option γ}{A B:Option γ}(j:∀ i,K (0,((zf,i),()))=A)(n:∀ i,K (1,((zf,i),()))=B) :
  bd (loop (β:=Nat×((Bool×Int)×Unit)) (λb=>br (TK b.2 (Ko (AQ (IN ([a.1,a.2.1,a.2.2.1]) (Xs a.2.2.2))))) (λ_=>SG b.2 λf=>gd (Iq f (AQ (IN ([a.1,a.2.1,a.2.2.1]) (Xs a.2.2.2)))) λ_=>ix (IN ([a.1,a.2.1,a.2.2.1]) (Xs a.2.2.2)) f λg=>br (TK g 0) (λ_=>zo (.dn ((0,((zf,b.2),()))))) λ_=>br (TI g 1000000) (λ_=>zo (.dn ((0,((zf,b.2),()))))) λ_=>zo (.nx (b.1,SV .i64 b.2 1))) λ_=>zo (.dn ((1,(b,()))))) (zf,0)) K=if jB a=zt then B else A:=by
 have o:IN ([a.1,a.2.1,a.2.2.1]) (Xs a.2.2.2)=i7 a:=rfl;rw[o];have t:(i7 a).length=15:=rfl;simp only[UH,UG];refine tH (l:=i7 a) (σ:=Unit) (λk _=>(zf,(k:Int))) (λq _ _=>(i7 a).all oK=q.all oK) (λr=>(∃ i,r=(0,((zf,i),()))/\jB a=zf) \/ ∃ i,r=(1,((zf,i),()))/\jB a=zt) () rfl (by omega) rfl ?_ ?_ ?_
 ·intro _ h;exact⟨_,by simp only;rw[re];rfl,.inr ⟨_,rfl,by unfold jB;rw[h];rfl⟩⟩
 ·intro k x m _ s p e h;simp only;rw[rl e,Sp,UB,jM e,TS p,Th];by_cases c:x<0
  ·rw[zy c];exact .inr ⟨_,rfl,.inl ⟨_,rfl,by unfold jB;rw[h,s5,show oK x=zf by unfold oK;simp;omega];rfl⟩⟩
  ·rw[zx c,Te];by_cases d:x>1000000
   ·rw[zy d];exact .inr ⟨_,rfl,.inl ⟨_,rfl,by unfold jB;rw[h,s5,show oK x=zf by unfold oK;simp;omega];rfl⟩⟩
   ·rw[zx d,UK (by omega)];exact .inl ⟨(),rfl,by rw[h,s5,show oK x=zt by unfold oK;simp;omega];rfl⟩
 ·rintro r (⟨i,rfl,h⟩|⟨i,rfl,h⟩)
  ·rw[j,zx (by simp[h])]
  ·rw[n,zy h]
abbrev S0:=Int×(Int×(W8×W8))
theorem oX{l:List W8}(o:l.length<=9223372036854775807):Xx l=zo (o7 l):=by
 unfold Xx o7;simp only[UH,UG];rw[Te];by_cases f:l.length>200
 ·rw[zy (by omega),zy f];rfl
 rw[zx (by omega),zx f];refine tH (l:=l) (σ:=W8) (λk u=>((0:Int),((k:Int),(zU,u)))) (λt k u=>XT u t=XT zU l/\Bd k u) (λ(r:Nat×(S0×Unit))=>(r.1=0/\(r.2.1.2.2.2,(0:Int))=XT zU l)\/(r.1=1/\(r.2.1.2.2.1,r.2.1.1)=XT zU l)) zU rfl o ⟨rfl,?_⟩ ?_ ?_ ?_
 ·intro e g;unfold i7 Xs zU at g;simp only[ol,hU,bl,ox,or_false,or_self]at g;omega
 ·intro u ⟨h,_⟩;exact⟨_,by simp only;rw[re];rfl,.inl ⟨rfl,h⟩⟩
 ·intro k x m u w q n ⟨h,hb⟩;simp only;rw[rl n,Sp,UB,TS q,Ur (show BC [x.1,x.2.1,x.2.2.1].length (Xs x.2.2.2).length<=1048576 from(by decide:BC 3 12<=1048576))];rw[UK (by omega)];refine(fun {P:Prop} {R c:Option (LR S0 (Nat×(S0×Unit)))} (e:R=c) (p:(∃ a,c=zo (.nx ((0:Int),(((k+1:Nat):Int),(zU,a))))/\XT a m=XT zU l/\Bd (k+1) a) \/ ∃ r:Nat×(S0×Unit),c=zo (.dn r)/\((r.1=0/\(r.2.1.2.2.2,(0:Int))=XT zU l)\/(r.1=1/\(r.2.1.2.2.1,r.2.1.1)=XT zU l)))=>((by rw[e];exact p):(∃ a,R=zo (.nx ((0:Int),(((k+1:Nat):Int),(zU,a))))/\XT a m=XT zU l/\Bd (k+1) a) \/ ∃ r:Nat×(S0×Unit),R=zo (.dn r)/\((r.1=0/\(r.2.1.2.2.2,(0:Int))=XT zU l)\/(r.1=1/\(r.2.1.2.2.1,r.2.1.1)=XT zU l)))) (P:=True) (xy x (A:=some (.dn ((1,((7,((k:Int),(zU,u))),()))))) (B:=some (.nx ((0:Int),(((k+1:Nat):Int),(zU,cW u x))))) (λi=>rfl) (λi=> ?_)) ?_
  ·show br (neq 1 0) _ _=_;rw[TB,zx (by decide),Uv];cases s:vB x.2.2.2 with
   |true=>
    rw[Sp];have:=oV (by omega) hb s;show zo (LR.nx ((0:Int),(((k+1:Nat):Int),(zU,(SV .i64 u.1 x.1,(SV .i64 u.2.1 x.2.1,(SV .i64 u.2.2.1 x.2.2.1,u.2.2.2)))))))=_;unfold cW;rw[this]
   |false=>
    rw[SM];exact xu x (SV .i64 u.1 x.1) (SV .i64 u.2.1 x.2.1) (SV .i64 u.2.2.1 x.2.2.1) u.2.2.2
  ·by_cases b:jB x=zt
   ·rw[zy b];refine .inl ⟨cW u x,rfl,?_,rK (by omega) hb b⟩;rw[<- h]
    conv=>rhs;unfold XT
    rw[zy b]
   ·rw[zx b];refine .inr ⟨_,rfl,.inr ⟨rfl,?_⟩⟩;rw[<- h]
    conv=>rhs;unfold XT
    rw[zx b]
 ·rintro r (⟨j,d⟩|⟨j,d⟩)
  ·rw[TB,zy j,d]
  ·rw[TB,zx (by omega),d]
end
section
open Go Sv
end
section
open Go Sv
end
section
open Go Sv
def rZ(n:Nat)(s:UC):UC×(Int×Int):=if(UL n s).2.2≠0 then(zS,(0,(UL n s).2.2))else((UL n s).1,(((UL n s).2.1.length:Int),0))
abbrev u7:=Int×(List (List Ua)×(List Job×Int))
abbrev yC:=u7×((Int×Int)×(Int×(u7×Int)))
def DAt(s0:UC)(T:UC×(Nat×Int))(k n:Nat)(m:Int)(s:UC):Prop:=
 Gd s0 s/\n+k<=1100000/\T=((UL k s).1,(n+(UL k s).2.1.length,(UL k s).2.2))/\((m=(k:Int)/\0<k)\/(m = -1-(n:Int)/\oL 2000 s<k))
theorem DAt.pos{s0 s:UC}{T:UC×(Nat×Int)}{k n:Nat}{m:Int}(a:DAt s0 T k n m s):∃ b,k=b+1:=by
 obtain⟨_,_,_,h⟩:=a;exact⟨k-1,by omega⟩
theorem DAt.none{s0 s:UC}{T:UC×(Nat×Int)}{k n:Nat}{m:Int}(a:DAt s0 T k n m s)(e:Vx s=4):T=(s,(n,0)):=by
 obtain⟨b,rfl⟩:=a.pos;rw[a.2.2.1];simp[UL,e]
theorem DAt.fail{s0 s:UC}{T:UC×(Nat×Int)}{k n:Nat}{m:Int}(a:DAt s0 T k n m s)(c:Vx s≠4)(b:Vx s≠0):T=(s,(n,Vx s)):=by
 obtain⟨d,rfl⟩:=a.pos;rw[a.2.2.1];simp[UL,c,b]
theorem DAt.step{s0 s:UC}{T:UC×(Nat×Int)}{k n:Nat}{m:Int}(a:DAt s0 T k n m s)(e:Vx s=0) :
  (m-1=0/\T=(XY s,(n+1,0)))\/(m-1≠0 /\ ∃ b,DAt s0 T b (n+1) (m-1) (XY s)):=by
 obtain⟨b,rfl⟩:=a.pos;obtain⟨g,o,i,c⟩:=a;obtain⟨_,_,_,_,_,_,_,h⟩:=W6 g e;have p:=(cG g g.2.2 e).1
 have d:T=((UL b (XY s)).1,(n+1+(UL b (XY s)).2.1.length,(UL b (XY s)).2.2)):=by
  rw[i];simp[UL,e];omega
 by_cases f:m-1=0
 ·refine .inl ⟨f,?_⟩;have l:b=0:=by omega
  rw[d,l];rfl
 ·refine .inr ⟨f,b,h,by omega,d,?_⟩;rcases c with⟨c,j⟩|⟨c,j⟩
  ·exact .inl ⟨by omega,by omega⟩
  ·exact .inr ⟨by omega,by omega⟩
def DEnd(T:UC×(Nat×Int))(r:Nat×(yC×Unit)):Prop:=
 (T.2.2=0/\(r.2.1.2.1.1=0\/r.2.1.2.1.1=1)/\r.2.1.2.2.1=(T.2.1:Int)/\r.2.1.2.2.2.1=rL T.1)\/(T.2.2≠0/\r.2.1.2.1=(2,T.2.2))
theorem DEnd.fin{T:UC×(Nat×Int)}{r:Nat×(yC×Unit)}(h:DEnd T r) :
  (br (Og r.2.1.2.1.1 0) (λ_=>zo ((((r.2.1.2.2.2.1.1,r.2.1.2.2.2.1.2.1),r.2.1.2.2.2.1.2.2),(r.2.1.2.2.1,(0:Int))))) λ_=>br (Og r.2.1.2.1.1 1) (λ_=>zo ((((r.2.1.2.2.2.1.1,r.2.1.2.2.2.1.2.1),r.2.1.2.2.2.1.2.2),(r.2.1.2.2.1,0)))) λ_=>zo ((((0,[]),([],0)),(0,r.2.1.2.1.2))))=zo (if T.2.2≠0 then(zS,(0,T.2.2))else(T.1,((T.2.1:Int),0))):=by
 rcases h with⟨a,h2,b,c⟩|⟨a,h2⟩
 ·rw[zx (by simp[a]),c,b,Tc,Tc];rcases h2 with h2|h2
  ·rw[zy h2];rfl
  ·rw[zx (by rw[h2];decide),zy h2];rfl
 ·rw[zy a,h2,Tc,zx (show ¬ ((2:Int)=0) by decide),Tc,zx (show ¬ ((2:Int)=1) by decide)];rfl
def o6(s:UC)(most:Int):UC×(Int×Int):=if Xt s most≠0 then(zS,(0,Xt s most))else rZ most.toNat s
end
section
open Go Sv
abbrev rI:=Int×(Int×(Int×(u7×u7)))
def tU(s:UC)(n:Nat):rI:=(0,((n:Int),(0,(rL zS,rL s))))
theorem eB{s0 s:UC}(g:Gd s0 s){n0:Nat}(q:n0<=1000000){γ:Type}{K:Nat×(rI×Unit)->Option γ}{f:rI->Option (LR rI (Nat×(rI×Unit)))}
  (e:∀ s1:rI,f s1=br (TK s1.2.1 (n0:Int)) (λ_=>bd (VI (((s1.2.2.2.2.1,s1.2.2.2.2.2.1),s1.2.2.2.2.2.2))) λi=>br (Og i.2 4) (λ_=>zo (.dn ((1,((s1.2.1,(s1.2.1,(0,(s1.2.2.2.2,s1.2.2.2.2)))),()))))) λ_=>br (SD i.2 0) (λ_=>zo (.dn ((1,((0,(s1.2.1,(i.2,((0,([],([],0))),s1.2.2.2.2)))),()))))) λ_=>bd (Vc ((((s1.2.2.2.2.1,s1.2.2.2.2.2.1),s1.2.2.2.2.2.2),i.1))) λc=>br (SD c.2.2 0) (λ_=>zo (.dn ((1,((0,(s1.2.1,(c.2.2,((0,([],([],0))),s1.2.2.2.2)))),()))))) λ_=>zo (.nx ((s1.1,(SV .i64 s1.2.1 1,(s1.2.2.1,(s1.2.2.2.1,(c.1.1.1,(c.1.1.2,c.1.2))))))))) λ_=>zo (.dn ((0,(s1,())))))
  {R:Option γ} (m:∀ r:Nat×(rI×Unit),((r.1=0/\rZ n0 s=(((r.2.1.2.2.2.2.1,r.2.1.2.2.2.2.2.1),r.2.1.2.2.2.2.2.2),((n0:Int),0)))\/(r.1≠0/\rZ n0 s=(((r.2.1.2.2.2.1.1,r.2.1.2.2.2.1.2.1),r.2.1.2.2.2.1.2.2),(r.2.1.1,r.2.1.2.2.1))))->K r=R):bd (loop f (tU s 0)) K=R:=by
 refine fo (λj=>∃ k t n,j=tU t n/\Gd s0 t/\n+k=n0/\rZ n0 s=(if(UL k t).2.2≠0 then(zS,(0,(UL k t).2.2))else((UL k t).1,(((n+(UL k t).2.1.length:Nat):Int),0))))
  (λr=>(r.1=0/\rZ n0 s=(((r.2.1.2.2.2.2.1,r.2.1.2.2.2.2.2.1),r.2.1.2.2.2.2.2.2),((n0:Int),0)))\/(r.1≠0/\rZ n0 s=(((r.2.1.2.2.2.1.1,r.2.1.2.2.2.1.2.1),r.2.1.2.2.2.1.2.2),(r.2.1.1,r.2.1.2.2.1)))) (λj=>((n0:Int)-j.2.1).toNat) ⟨n0,s,0,rfl,g,by omega,by simp only[Nat.zero_add];rfl⟩ ?_ ?_ m
 ·show((n0:Int)-((0:Nat):Int)).toNat<_;omega
 ·rintro j ⟨k,t,n,rfl,a,u,d⟩;cases k with
  |zero=>
   refine .inr ⟨(0,(tU t n,())),?_,.inl ⟨rfl,?_⟩⟩
   ·rw[e];show br (TK (n:Int) (n0:Int)) _ _=_;rw[Th,zx (by omega)]
   ·rw[d];show(if(0:Int)≠0 then _ else(t,(((n+0:Nat):Int),(0:Int))))=_
    rw[zx (by decide),show n+0=n0 by omega];rfl
  |succ k=>
   rcases pN a with⟨e1,e2⟩|⟨e1,e2,e3,b⟩|⟨e1,e2,e3⟩
   ·refine .inr ⟨(1,(((n:Int),((n:Int),(0,(rL t,rL t)))),())),?_,.inr ⟨λh=>absurd h (by simp),?_⟩⟩
    ·rw[e];show br (TK (n:Int) (n0:Int)) (λ_=>bd (VI t) _) _=_;rw[Th,zy (by omega),(YG a).2,TA,Tc,zy e2];rfl
    ·rw[d];simp[UL,e1];rfl
   ·refine .inr ⟨(1,((0,((n:Int),(Vx t,(rL zS,rL t)))),())),?_,.inr ⟨λh=>absurd h (by simp),?_⟩⟩
    ·rw[e];show br (TK (n:Int) (n0:Int)) (λ_=>bd (VI t) _) _=_;rw[Th,zy (by omega),(YG a).2,TA,Tc,zx e3,Ti];rcases b with b|⟨b,e5⟩
     ·rw[zx (by rw[b];exact e2),b];rfl
     ·rw[zy b];show bd (Vc (t,(U0 t).1)) _=_;rw[(Z1 a _).2,TA,Ti,zx (by rw[e5];exact e2),e5];rfl
    ·rw[d];simp[UL,e1,e2];rfl
   ·obtain⟨_,_,_,_,_,_,_,l⟩:=W6 a e1;have p:SV .i64 (n:Int) 1=((n+1:Nat):Int):=UK (by omega);refine .inl ⟨tU (XY t) (n+1),?_,⟨k,XY t,n+1,rfl,l,by omega,?_⟩,?_⟩
    ·rw[e];show br (TK (n:Int) (n0:Int)) (λ_=>bd (VI t) _) _=_;rw[Th,zy (by omega),(YG a).2,TA,Tc,zx (by rw[e2];decide),Ti,zy e2];show bd (Vc (t,(U0 t).1)) _=_;rw[(Z1 a _).2,TA,Ti,zy e3];unfold tU;rw[<- p];rfl
    ·rw[d];have o:((n+1+(UL k (XY t)).2.1.length:Nat):Int)=((n+(YZ t::(UL k (XY t)).2.1).length:Nat):Int):=by simp only[ae];omega
     rw[o];simp only[UL,e1,ne_eq,not_true_eq_false,if_false,show ¬ ((0:Int)=4) by decide]
    ·show((n0:Int)-((n+1:Nat):Int)).toNat<((n0:Int)-(n:Int)).toNat;omega
theorem ou{s:UC}(m:Sm s)(hc:VSt s->VE s.1.2.flatten<=2000)(most:Int):YQ (s,most)=zo (o6 s most):=by
 unfold YQ o6;rw[rU m,TA,Tc];by_cases a:(UE s).2=0;rotate_left
 ·rw[zx a,Ti,zx a,Zl a,zy a];rfl
 rw[zy a,Th,Te];by_cases b:most<0
 ·rw[zy b,Zm a (.inl b),zy (by decide)];rfl
 by_cases c:most>1000000
 ·rw[zx b,zy c,Zm a (.inr c),zy (by decide)];rfl
 rw[zx b,zx c,Ti,zy a,Y5 a (by omega),zx (by decide)];have v:=UO.1 a;obtain⟨n0,rfl⟩:∃ n0:Nat,most=(n0:Int):=⟨most.toNat,by omega⟩;rw[ab];refine eB (s0:=s) ⟨v,rfl,hc v⟩ (n0:=n0) (by omega) (λs1=>rfl) λr f=> ?_;rw[ft];rcases f with⟨d,e⟩|⟨d,e⟩
 ·rw[zy d,e]
 ·rw[zx d,e]
end
section
open Go Sv
theorem oO{a b:Xo}(h:∀ i,i<12->Hz (Xs a) i=Hz (Xs b) i):a=b:=by
 obtain⟨a0,c,d,e,f,g,j,k,l,m,n,o⟩:=a;obtain⟨b0,p,q,r,s,t,u,w,x,y,z,A⟩:=b;have B:a0=b0:=h 0 (by decide);have C:c=p:=h 1 (by decide);have D:d=q:=h 2 (by decide);have E:e=r:=h 3 (by decide);have F:f=s:=h 4 (by decide);have G:g=t:=h 5 (by decide);have I:j=u:=h 6 (by decide);have J:k=w:=h 7 (by decide);have K:l=x:=h 8 (by decide);have L:m=y:=h 9 (by decide);have M:n=z:=h 10 (by decide);have N:o=A:=h 11 (by decide);subst B;subst C;subst D;subst E;subst F;subst G;subst I;subst J;subst K;subst L;subst M;subst N;rfl
theorem tb{k i:Nat}{x y:Int}{f:Nat->Int}(h:f i=x):Tl (neq k i) (f k) y=if k=i then x else y:=by
 unfold Tl neq;by_cases e:k=i
 ·subst e;rw[zy rfl,<- h];simp
 ·rw[zx e,show Nat.beq k i=zf by
   cases a:Nat.beq k i with
   |false=>rfl
   |true=>exact absurd (Nat.eq_of_beq_eq_true a) e]
  rfl
theorem oQ{a:Xo}{k i:Nat}(hi:i<12):Hz (Xs (Z6 a k k)) i=if k=i then SV .i64 (Hz (Xs a) i) 1 else Hz (Xs a) i:=by
 rcases od hi with rfl|rfl|rfl|rfl|rfl|rfl|rfl|rfl|rfl|rfl|rfl|rfl<;>exact tb (f:=λk=>SV .i64 (Hz (Xs a) k) 1) rfl
theorem fj{a b:Xo}{i:Nat}(hi:i<12):Hz (Xs (bm 12 a b)) i=SV .i64 (Hz (Xs a) i) (Hz (Xs b) i):=by
 rcases od hi with rfl|rfl|rfl|rfl|rfl|rfl|rfl|rfl|rfl|rfl|rfl|rfl<;>rfl
def cI(l:List (Int×Bool)):Nat:=l.countP (λx=>x.2)
def cL(l:List (Int×Bool))(i:Nat):Nat:=l.countP (λx=>x.1.toNat == i)
theorem gO:∀ (l:List (Int×Bool)) (u:W8) (B:Nat),B+l.length<=2000000->0<=u.2.2.1->u.2.2.1<=B->(∀ i,i<12->0<=Hz (Xs u.2.2.2) i/\Hz (Xs u.2.2.2) i<=B) ->
  (VO u l).2.2.1=u.2.2.1+cI l /\ ∀ i,i<12->Hz (Xs (VO u l).2.2.2) i=Hz (Xs u.2.2.2) i+cL l i
 |[],u,B,_,_,_,_=>⟨by simp[VO,cI],λi _=>by simp[VO,cL]⟩
 |x::l,u,B,hB,h0,h1,h2=>by
  simp only[ae]at hB;have hi:∀ {y:Int},0<=y/\y<=B->SV .i64 y 1=y+1:=λh=>Su (by omega);have c:VO u (x::l)=VO (Yw u x) l:=rfl
  have e1:(Yw u x).2.2.1=u.2.2.1+(if x.2=zt then 1 else 0):=by
   show(if x.2=zt then SV .i64 u.2.2.1 1 else u.2.2.1)=_
   by_cases b:x.2=zt
   ·rw[zy b,zy b,hi ⟨h0,h1⟩]
   ·rw[zx b,zx b];omega
  have e2:∀ i,i<12->Hz (Xs (Yw u x).2.2.2) i=Hz (Xs u.2.2.2) i+(if x.1.toNat=i then 1 else 0):=λi a=>by
   show Hz (Xs (Z6 u.2.2.2 x.1.toNat x.1.toNat)) i=_;rw[oQ a];by_cases b:x.1.toNat=i
   ·rw[zy b,zy b,hi (h2 i a)]
   ·rw[zx b,zx b];omega
  obtain⟨d,e⟩:=gO l (Yw u x) (B+1) (by omega) (by rw[e1];split<;>omega) (by rw[e1];split<;>omega) λi a=>by
   have:=h2 i a;rw[e2 i a];split<;>omega
  rw[c];refine⟨?_,λi a=> ?_⟩
  ·rw[d,e1];unfold cI;rw[List.countP_cons];split<;>omega
  ·rw[e i a,e2 i a];unfold cL;rw[List.countP_cons];by_cases b:x.1.toNat=i
   ·rw[zy b,zy (by simpa using b)];omega
   ·rw[zx b,zx (by simpa using b)];omega
theorem cS{i:Nat}(hi:i<12):Hz (Xs zU.2.2.2) i=0:=by
 rcases od hi with rfl|rfl|rfl|rfl|rfl|rfl|rfl|rfl|rfl|rfl|rfl|rfl<;>rfl
theorem dZ{l:List (Int×Bool)}(h:l.length<=1000000):(VO zU l).1=(l.length:Int)/\(VO zU l).2.1=0/\(VO zU l).2.2.1=(cI l:Int) /\ ∀ i,i<12->Hz (Xs (VO zU l).2.2.2) i=(cL l i:Int):=by
 obtain⟨a,b⟩:=dY l zU (tk 0) (by show(0:Int)+l.length<=2000000;omega);obtain⟨c,d⟩:=gO l zU 0 (by omega) (tk 0) (tk 0) λi hi=>by rw[cS hi];omega
 refine⟨by rw[a];show(0:Int)+_=_;omega,by rw[b];rfl,by rw[c];show(0:Int)+_=_;omega,λi hi=>by rw[d i hi,cS hi];omega⟩
theorem oi{u:W8}{e:Int}(h:e∈i7 u):e=u.1\/e=u.2.1\/e=u.2.2.1 \/ ∃ i,i<12/\e=Hz (Xs u.2.2.2) i:=by
 unfold i7 at h;rcases List.mem_append.1 h with h|h
 ·simp only[bl,ox,or_false]at h;rcases h with h|h|h
  ·exact .inl h
  ·exact .inr (.inl h)
  ·exact .inr (.inr (.inl h))
 ·obtain⟨i,hi⟩:=List.mem_iff_getElem?.1 h;exact .inr (.inr (.inr ⟨i,(List.getElem?_eq_some_iff.1 hi).1,by unfold Hz;rw[hi];rfl⟩))
theorem gD{n:Nat}{l:List (Int×Bool)}(k:n<=1000)(j:l.length<=n):jB (aE (n:Int) (VO zU l))=zt:=by
 obtain⟨a,b,c,d⟩:=dZ (l:=l) (by omega);have g:cI l<=l.length:=List.countP_le_length;rw[gF];intro e f;rcases oi f with rfl|rfl|rfl|⟨i,hi,rfl⟩
 ·show 0<=(VO zU l).1/\(VO zU l).1<=1000000;rw[a];omega
 ·show 0<=SY .i64 (n:Int) (VO zU l).1/\SY .i64 (n:Int) (VO zU l).1<=_;rw[a,Sx (by omega)];omega
 ·show 0<=(VO zU l).2.2.1/\(VO zU l).2.2.1<=1000000;rw[c];omega
 ·show 0<=Hz (Xs (VO zU l).2.2.2) i/\Hz (Xs (VO zU l).2.2.2) i<=_;have h:cL l i<=l.length:=List.countP_le_length;rw[d i hi];omega
theorem jS{n m:Nat}{l k:List (Int×Bool)}(E:n<=1000)(D:m<=1000)(C:l.length<=n)(B:k.length<=m) :
  cW (cW zU (aE (n:Int) (VO zU l))) (aE (m:Int) (VO zU k))=aE ((n+m:Nat):Int) (VO zU (l++k)):=by
 obtain⟨c,r,f,j⟩:=dZ (l:=l) (by omega);obtain⟨d,s,g,o⟩:=dZ (l:=k) (by omega);obtain⟨e,t,h,p⟩:=dZ (l:=l++k) (by simp;omega);have u:cI l<=l.length:=List.countP_le_length;have w:cI k<=k.length:=List.countP_le_length;have hc:cI (l++k)=cI l+cI k:=by unfold cI;rw[List.countP_append]
 have q:∀ i,cL (l++k) i=cL l i+cL k i:=λi=>by unfold cL;rw[List.countP_append]
 have b:∀ {x y:Nat},x<=100000->y<=100000->SV .i64 (SV .i64 0 (x:Int)) (y:Int)=((x+y:Nat):Int):=λF G=>by
  rw[Su (a:=0) (by omega),Su (by omega)];omega
 refine rY ?_ (rY ?_ (rY ?_ ?_))
 ·show SV .i64 (SV .i64 0 (VO zU l).1) (VO zU k).1=(VO zU (l++k)).1;rw[c,d,e,b (by omega) (by omega),hV]
 ·show SV .i64 (SV .i64 0 (SY .i64 (n:Int) (VO zU l).1)) (SY .i64 (m:Int) (VO zU k).1)=SY .i64 ((n+m:Nat):Int) (VO zU (l++k)).1;rw[c,d,e,hV,Sx (by omega),Sx (by omega),Sx (by omega),Su (a:=0) (by omega),Su (by omega)];omega
 ·show SV .i64 (SV .i64 0 (VO zU l).2.2.1) (VO zU k).2.2.1=(VO zU (l++k)).2.2.1;rw[f,g,h,b (by omega) (by omega),hc]
 ·refine oO λi hi=> ?_;show Hz (Xs (bm 12 (bm 12 zU.2.2.2 (VO zU l).2.2.2) (VO zU k).2.2.2)) i=Hz (Xs (VO zU (l++k)).2.2.2) i;have z:cL l i<=l.length:=List.countP_le_length;have A:cL k i<=k.length:=List.countP_le_length;rw[fj hi,fj hi,cS hi,j i hi,o i hi,p i hi,b (by omega) (by omega),q]
theorem tW{b:Int}(h:0<=b/\b<=255):∃ k:Nat,k<=255/\Tj .i64 b=(k:Int):=
 ⟨b.toNat,by omega,by rw[rM (by omega)];omega⟩
theorem grantsSplits{x:UC×(Int×Int)}(y:∀ rs∈x.1.1.2,∀ r∈rs,r.2.length<=9223372036854775807)(A:0<=x.2.1/\x.2.1<=255)(B:0<=x.2.2/\x.2.2<=255):VM x=zo zt:=by
 obtain⟨s,E,F⟩:=x;unfold VM;refine rR y ?_ λm hc=> ?_
 ·rw[Sp,Zj];rfl
 have hc:=sE hc;obtain⟨n,I,e1⟩:=tW A;obtain⟨p,J,e2⟩:=tW B;simp only at e1 e2;have e3:SV .i64 (n:Int) (p:Int)=((n+p:Nat):Int):=by rw[Su (by omega)];omega
 rw[SM,e1,e2,e3,aB m hc,TA,aB m hc,TA,Ti];by_cases b:(UE s).2=0;rotate_left
 ·have f:V4 s (n:Int)=(zS,(zU,(UE s).2)):=by unfold V4;rw[Zl b,zy b]
  have c:V4 s ((n+p:Nat):Int)=(zS,(zU,(UE s).2)):=by unfold V4;rw[Zl b,zy b]
  rw[f,c,zx b,Tc,zy rfl,Zj];rfl
 have v:=UO.1 b;have G:Gd s s:=⟨v,rfl,hc v⟩;have u:Xt s (n:Int)=0:=Y5 b (by omega);have k:Xt s ((n+p:Nat):Int)=0:=Y5 b (by omega);have a:=dQ n p s;have i:=bC (n:=n) (N:=2000) G (hc v);by_cases d:(UL n s).2.2=0;rotate_left
 ·have f:V4 s (n:Int)=(zS,(zU,(UL n s).2.2)):=by unfold V4;rw[zx (by simp[u]),ab,zy d]
  have c:V4 s ((n+p:Nat):Int)=(zS,(zU,(UL n s).2.2)):=by
   unfold V4;rw[zx (λh=>h k),ab,show UL (n+p) s=UL n s by rw[a,zy d],zy d]
  rw[f,c,zx d,Tc,zy rfl,Zj];rfl
 rw[zx (by simp[d])]at a;have f:V4 s (n:Int)=((UL n s).1,(aE (n:Int) (VO zU (UL n s).2.1),0)):=by unfold V4;rw[zx (by simp[u]),ab,zx (by simp[d])]
 have g:=i.2.2.1;have t:=g.1;have o:VSt (UL n s).1->VE (UL n s).1.1.2.flatten<=2000:=λ_=>g.2.2;have w:Xt (UL n s).1 (p:Int)=0:=Y5 (UO.2 t) (by omega);have j:=bC (n:=p) (N:=2000) g g.2.2;rw[f];simp only;rw[zy trivial,aB t.sm o,TA,Ti];by_cases e:(UL p (UL n s).1).2.2=0;rotate_left
 ·have c:V4 (UL n s).1 (p:Int)=(zS,(zU,(UL p (UL n s).1).2.2)):=by unfold V4;rw[zx (by simp[w]),ab,zy e]
  have q:V4 s ((n+p:Nat):Int)=(zS,(zU,(UL p (UL n s).1).2.2)):=by
   unfold V4;rw[zx (λh=>h k),ab,a,zy e]
  rw[c,q,zx e,Tc,zy rfl,Zj];rfl
 have c:V4 (UL n s).1 (p:Int)=((UL p (UL n s).1).1,(aE (p:Int) (VO zU (UL p (UL n s).1).2.1),0)):=by unfold V4;rw[zx (by simp[w]),ab,zx (by simp[e])]
 have q:V4 s ((n+p:Nat):Int)=((UL p (UL n s).1).1,(aE ((n+p:Nat):Int) (VO zU ((UL n s).2.1++(UL p (UL n s).1).2.1)),0)):=by
  unfold V4;rw[zx (λh=>h k),ab,a,zx (by simp[e])]
 have C:o6 s ((n+p:Nat):Int)=((UL p (UL n s).1).1,((((UL n s).2.1++(UL p (UL n s).1).2.1).length:Int),0)):=by
  unfold o6 rZ;rw[zx (λh=>h k),ab,a,zx (by simp[e])]
 have hS:o7 [aE (n:Int) (VO zU (UL n s).2.1),aE (p:Int) (VO zU (UL p (UL n s).1).2.1)]=(aE ((n+p:Nat):Int) (VO zU ((UL n s).2.1++(UL p (UL n s).1).2.1)),0):=by
  unfold o7;rw[zx (by simp)];unfold XT;rw[zy (gD (by omega) i.1)];unfold XT;rw[zy (gD (by omega) j.1)];unfold XT;rw[jS (by omega) (by omega) i.1 j.1]
 have z:=(dZ (l:=(UL n s).2.1++(UL p (UL n s).1).2.1) (by have:=i.1;have:=j.1;simp;omega)).1;have D:=j.2.2.1.1;rw[c,q];simp only;rw[zy trivial,oX (by simp),TA,hS,ou m hc,TA,C];simp only;rw[Tc,zy rfl,Tc,zy rfl,Tc,zy rfl,dR (.inr D),TA,Sp,pI,Sp,TA,Sp,Tc];rw[zy (show((((UL n s).2.1++(UL p (UL n s).1).2.1).length:Nat):Int)=(aE ((n+p:Nat):Int) (VO zU ((UL n s).2.1++(UL p (UL n s).1).2.1))).1 from z.symm),Zj];rfl
theorem gx{x:UC×(Int×Int)}(h:RP [(zt,yJ),(zf,.int .u8),(zf,.int .u8)] x):VM x=zo zt:=grantsSplits (tK h.1) (rG h.2.1) (rG h.2.2)
end
end Go.Proofs.YtiehjicadcamiaaGreat.Pl
