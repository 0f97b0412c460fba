/- Functions of the program and of the specification as plain functions, and laws about them. No condition. -/
import Derived.Test.YtiehjicadcamiaaGreatPl3
import Derived.KernelRfl
set_option linter.all false
open List renaming all_cons->eb, all_eq_true->rY, cons_append->nP, getElem?_eq_some_iff->aa, length_cons->ae, length_nil->a8, mem_cons->bl, mem_of_getElem?->ad, nil_append->ee, not_mem_nil->sa
open Nat renaming zero_le->en
open Option renaming some->zo, none->zn
open Bool renaming true->zt, false->zf
namespace Go.Proofs.YtiehjicadcamiaaGreat.Pl
section
open Go Sv
theorem cM{α β γ:Type}{f:α->Option (LR α β)}{K:β->Option γ}{R:Option γ}(Inv:α->Prop)(Q:β->Prop)(m:α->Nat){s:α}(hs:Inv s)(b:m s<18446744073709551616)
  (step:∀ s,Inv s->(∃ s',f s=zo (.nx s')/\Inv s'/\m s'<m s)\/(∃ x,f s=zo (.dn x)/\Q x)) (a:∀ x,Q x->K x=R):bd (loop f s) K=R:=by
 obtain⟨x,e,q⟩:=Sa Inv Q m hs b step;rw[e];exact a x q
theorem Xg{β:Type}(n:Nat)(x y:Unit->Option β):br (neq n 0) x y=if n=0 then x ()else y ():=by
 rw[TB]
def zU:VI:=(0,(0,(0,(0,(0,(0,(0,(0,(0,(0,(0,(0,(0,(0,0))))))))))))))
def aY(g:Int)(u:VI):VI:=(u.1,(SY .i64 g u.1,u.2.2))
def aF(s:UC)(g:Int):Int:=if(UE s).2≠0 then(UE s).2 else if g<0\/g>1000000 then 7 else 0
def gv(s:UC)(e:Int)(u:VI):(Int×(List (List UX)×(List Job×(Int×Int))))×VI:=((s.1.1,(s.1.2,(s.2.1,(s.2.2,e)))),u)
theorem qT{s0 s:UC}(g:Gd s0 s):V7 s=4/\(Uo s).2=4\/V7 s≠4/\V7 s≠0/\(Uo s).2≠4/\((Uo s).2=V7 s\/(Uo s).2=0/\(VJ s (Uo s).1).2.2=V7 s)\/V7 s=0/\(Uo s).2=0/\(VJ s (Uo s).1).2.2=0:=by
 by_cases a:V7 s=4
 ·exact .inl ⟨a,(dZ g a).1⟩
 ·by_cases b:V7 s=0
  ·have:=dY g b;omega
  ·refine .inr (.inl ⟨a,b,?_⟩);unfold V7 at a b ⊢;omega
theorem tG{u:VI}{x:Int×Bool}(h:0<=u.1/\u.1<=1000000):(ZP u x).1=u.1+1:=by
 show SV .i64 u.1 1=_;exact Su (by omega)
def At(s0:UC)(g:Int)(T:UC×((List Int×VI)×Int))(k:Nat)(s:UC)(l:List Int)(u:VI):Prop:=Gd s0 s/\0<=u.1/\u.1+k=g/\g<=1000000/\(l.length:Int)=u.1/\T=((UY k s).1,((l++(UY k s).2.1.map (·.1),YK u (UY k s).2.1),(UY k s).2.2))
theorem At.step{s0 s:UC}{g:Int}{T:UC×((List Int×VI)×Int)}{k:Nat}{l:List Int}{u:VI}(a:At s0 g T (k+1) s l u)(e:V7 s=0):At s0 g T k (X2 s) (l++[(YJ s).1]) (ZP u (YJ s)):=by
 obtain⟨c,h,i,d,j,f⟩:=a;obtain⟨_,_,_,_,_,_,_,b⟩:=Xd c e;have m:=tG (x:=YJ s) (show 0<=u.1/\u.1<=1000000 by omega);refine⟨b,by omega,by omega,d,by simp;omega,?_⟩;rw[f];simp only[UY,e,ne_eq,not_true_eq_false,if_false,List.map_cons,List.append_assoc,nP,ee];rfl
theorem At.none{s0 s:UC}{g:Int}{T:UC×((List Int×VI)×Int)}{k:Nat}{l:List Int}{u:VI}(a:At s0 g T k s l u)(e:V7 s=4):T=(s,((l,u),0)):=by
 rw[a.2.2.2.2.2];cases k<;>simp[UY,e,YK]
theorem At.fail{s0 s:UC}{g:Int}{T:UC×((List Int×VI)×Int)}{k:Nat}{l:List Int}{u:VI}(a:At s0 g T (k+1) s l u)(c:V7 s≠4)(b:V7 s≠0):T=(s,((l,u),V7 s)):=by
 rw[a.2.2.2.2.2];simp[UY,c,b,YK]
theorem At.last{s0 s:UC}{g:Int}{T:UC×((List Int×VI)×Int)}{l:List Int}{u:VI}(a:At s0 g T 0 s l u):T=(s,((l,u),0)):=by
 rw[a.2.2.2.2.2];simp[UY,YK]
theorem gr{s0 s:UC}(g:Gd s0 s)(e:V7 s=0):∃ n:Nat,(Uo s).1=(n:Int)/\n<12/\(Uo s).1.toNat=n:=by
 obtain⟨n,_,a,b,_⟩:=Xd g e;exact⟨n,a,b,by rw[show(Uo s).1=(n:Int)from a];simp⟩
theorem Zz{β:Type}{a b:Nat}(h:a<b)(k:Unit->Option β):gd (Iq a b) k=k ():=by
 have:Iq a b=zt:=by unfold Iq;simpa using h
 rw[this];rfl
theorem pF{u:VI}{s:UC}{n:Nat}(h:(Uo s).1.toNat=n)(a:(VJ s (Uo s).1).2.1=zt):ZP u (YJ s)=(SV .i64 u.1 1,(u.2.1,(SV .i64 u.2.2.1 1,ZZ u.2.2.2 n n))):=by
 unfold ZP YJ;simp_all
theorem pE{u:VI}{s:UC}{n:Nat}(h:(Uo s).1.toNat=n)(a:(VJ s (Uo s).1).2.1=zf):ZP u (YJ s)=(SV .i64 u.1 1,(u.2.1,(u.2.2.1,ZZ u.2.2.2 n n))):=by
 simp_all[ZP,YJ,zx]
theorem fD{γ:Type}{t:UC}{u:VI}{g:Int}{n:Nat}(b:0<=u.1/\u.1<=1000000)(e3:(VJ t (Uo t).1).2.2=0)(n3:(Uo t).1.toNat=n)(D N:Int->VI->Option γ) :
  (br (VJ t (Uo t).1).2.1 (λ_=>br (Og (SV .i64 u.1 1) g) (λ_=>D (VJ t (Uo t).1).2.2 (SV .i64 u.1 1,(u.2.1,(SV .i64 u.2.2.1 1,ZZ u.2.2.2 n n)))) λ_=>N (VJ t (Uo t).1).2.2 (SV .i64 u.1 1,(u.2.1,(SV .i64 u.2.2.1 1,ZZ u.2.2.2 n n)))) λ_=>br (Og (SV .i64 u.1 1) g) (λ_=>D (VJ t (Uo t).1).2.2 (SV .i64 u.1 1,(u.2.1,(u.2.2.1,ZZ u.2.2.2 n n)))) λ_=>N (VJ t (Uo t).1).2.2 (SV .i64 u.1 1,(u.2.1,(u.2.2.1,ZZ u.2.2.2 n n))))=if u.1+1=g then D 0 (ZP u (YJ t))else N 0 (ZP u (YJ t)):=by
 have hi:SV .i64 u.1 1=u.1+1:=Su (by omega);rw[Tn,Tc,Tc,hi,e3];by_cases a:(VJ t (Uo t).1).2.1=zt
 ·rw[zy a,pF n3 a,hi]
 simp_all[zx,pE]
theorem jv{s:UC}{g:Int}(h:(UE s).2≠0):aF s g=(UE s).2:=zy h
theorem ao{s:UC}{g:Int}(a:(UE s).2=0)(h:g<0\/g>1000000):aF s g=7:=by simp_all[aF,zx,zy]
theorem dB{s:UC}{g:Int}(a:(UE s).2=0)(h:¬ (g<0\/g>1000000)):aF s g=0:=by simp_all[aF,zx]
def zW(g:Int):((Int×(List (List UX)×(List Job×(Int×Int))))×VI)->Option (LR ((Int×(List (List UX)×(List Job×(Int×Int))))×VI) (Nat×(((Int×(List (List UX)×(List Job×(Int×Int))))×VI)×Unit))):=
 (λ(a:((Int×((List (List UX))×((List qJ)×(Int×Int))))×VI))=>bd (Ut (((a.1.1,a.1.2.1),(a.1.2.2.1,a.1.2.2.2.1)))) λc=>br (Og c.2 4) (λ_=>zo (.dn ((0,(a,()))))) λ_=>br (Og c.2 0) (λ_=>bd (Uj ((((a.1.1,a.1.2.1),(a.1.2.2.1,a.1.2.2.2.1)),c.1))) λb=>br (SD b.2.2 0) (λ_=>zo (.dn ((0,(((a.1.1,(a.1.2.1,(a.1.2.2.1,(a.1.2.2.2.1,b.2.2)))),a.2),()))))) λ_=>bd (Vi (c.1,b.2.1)) λi=>SG c.1 λf=>gd (Iq f 12) λ_=>SG c.1 λh=>gd (Iq h 12) λ_=>br b.2.1 (λ_=>br (Og (SV .i64 a.2.1 1) g) (λ_=>zo (.dn ((1,(((b.1.1.1,(b.1.1.2,(b.1.2.1,(b.1.2.2,b.2.2)))),(SV .i64 a.2.1 1,(a.2.2.1,(SV .i64 a.2.2.2.1 1,(ZZ a.2.2.2.2 f h))))),()))))) λ_=>zo (.nx (((b.1.1.1,(b.1.1.2,(b.1.2.1,(b.1.2.2,b.2.2)))),(SV .i64 a.2.1 1,(a.2.2.1,(SV .i64 a.2.2.2.1 1,(ZZ a.2.2.2.2 f h)))))))) λ_=>br (Og (SV .i64 a.2.1 1) g) (λ_=>zo (.dn ((1,(((b.1.1.1,(b.1.1.2,(b.1.2.1,(b.1.2.2,b.2.2)))),(SV .i64 a.2.1 1,(a.2.2.1,(a.2.2.2.1,(ZZ a.2.2.2.2 f h))))),()))))) λ_=>zo (.nx (((b.1.1.1,(b.1.1.2,(b.1.2.1,(b.1.2.2,b.2.2)))),(SV .i64 a.2.1 1,(a.2.2.1,(a.2.2.2.1,(ZZ a.2.2.2.2 f h)))))))) λ_=>br (SD c.2 0) (λ_=>zo (.dn ((0,(((a.1.1,(a.1.2.1,(a.1.2.2.1,(a.1.2.2.2.1,c.2)))),a.2),()))))) λ_=>bd (Vi (c.1,zf)) λj=>SG c.1 λd=>gd (Iq d 12) λ_=>SG c.1 λe=>gd (Iq e 12) λ_=>br (Og (SV .i64 a.2.1 1) g) (λ_=>zo (.dn ((1,(((0,([],([],(0,c.2)))),(SV .i64 a.2.1 1,(a.2.2.1,(a.2.2.2.1,(ZZ a.2.2.2.2 d e))))),()))))) λ_=>zo (.nx (((0,([],([],(0,c.2)))),(SV .i64 a.2.1 1,(a.2.2.1,(a.2.2.2.1,(ZZ a.2.2.2.2 d e))))))))
theorem d7{s0 s:UC}(G:Gd s0 s){g:Int}(C:g>0)(B:g<=1000000){γ:Type}{K:(Nat×(((Int×(List (List UX)×(List Job×(Int×Int))))×VI)×Unit))->Option γ}{R:Option γ}(f:∀ r:(Nat×(((Int×(List (List UX)×(List Job×(Int×Int))))×VI)×Unit)),r.2.1=gv (UY g.toNat s).1 (UY g.toNat s).2.2 (YK zU (UY g.toNat s).2.1)->K r=R):bd (loop (zW g) (gv s 0 zU)) K=R:=by
 obtain⟨n0,i⟩:∃ n0:Nat,n0=g.toNat:=⟨_,rfl⟩;rw[<- i]at f;obtain⟨T,D⟩:∃ T,T=((UY n0 s).1,(((UY n0 s).2.1.map (·.1),YK zU (UY n0 s).2.1),(UY n0 s).2.2)):=⟨_,rfl⟩;refine cM (λd=>∃ k t l u,d=gv t 0 u/\At s0 g T (k+1) t l u) (λr=>r.2.1=gv T.1 T.2.2 T.2.1.2) (λd=>(g-d.2.1).toNat) ⟨n0-1,s,[],zU,rfl,G,by decide,?_,by omega,rfl,?_⟩ ?_ ?_ ?_
 ·show(0:Int)+_=g;omega
 ·grind
 ·show(g-0).toNat<_;omega
 ·rintro d ⟨k,t,l,u,rfl,a⟩;obtain⟨b,p,w,y,z,A⟩:=id a;rcases qT b with⟨e1,e2⟩|⟨e1,e2,e3,e4⟩|⟨e1,e2,e3⟩
  ·refine .inr ⟨(0,(gv t 0 u,())),?_,by rw[a.none e1]⟩;show bd (Ut t) _=_;rw[(ZW b).1,TA,Tc,zy e2]
  ·have q:=a.fail e1 e2;refine .inr ⟨(0,(gv t (V7 t) u,())),?_,by rw[q]⟩;show bd (Ut t) _=_;rw[(ZW b).1,TA,Tc,zx e3,Tc];rcases e4 with e4|⟨e4,e5⟩
   ·rw[zx (by omega),Ti,zx (by omega),e4];rfl
   ·rw[zy e4];show bd (Uj (t,(Uo t).1)) _=_;rw[(bT b _).1,TA,Ti,zx (by omega),e5];rfl
  ·obtain⟨n,n1,n2,n3⟩:=gr b e1;have E:=tG (x:=YJ t) (show 0<=u.1/\u.1<=1000000 by omega);have m:=a.step e1
   have fin:∀ {R},(if u.1+1=g then zo (LR.dn (1,(gv (X2 t) 0 (ZP u (YJ t)),())))else zo (LR.nx (gv (X2 t) 0 (ZP u (YJ t)))))=R->(∃ s',R=zo (.nx s')/\(∃ k t l u,s'=gv t 0 u/\At s0 g T (k+1) t l u)/\(g-s'.2.1).toNat<(g-(gv t 0 u).2.1).toNat)\/(∃ x,R=zo (.dn x)/\x.2.1=gv T.1 T.2.2 T.2.1.2):=fun {R} c=>by
    by_cases o:u.1+1=g
    ·rw[zy o]at c;have f:k=0:=by omega
     subst f;exact .inr ⟨_,c.symm,by rw[m.last]⟩
    ·rw[zx o]at c;obtain⟨j,h⟩:∃ j,k=j+1:=⟨k-1,by omega⟩;refine .inl ⟨_,c.symm,⟨j,_,_,_,rfl,by rw[<- h];exact m⟩,?_⟩;show(g-(ZP u (YJ t)).1).toNat<(g-u.1).toNat;omega
   refine fin ?_;symm;show bd (Ut t) _=_;rw[(ZW b).1,TA,Tc,zx (by omega),Tc,zy e2];show bd (Uj (t,(Uo t).1)) _=_;rw[(bT b _).1,TA,Ti,zy e3];show bd (zo ()) _=_;rw[TA,n1,UB,Zz n2,UB,Zz n2,<- n1];exact fD (u:=u) ⟨p,by omega⟩ e3 n3 (λe u=>zo (LR.dn (1,(gv (X2 t) e u,())))) (λe u=>zo (LR.nx (gv (X2 t) e u)))
 grind
end
section
open Go Sv
theorem eJ{s:UC}(m:Sm s)(g:Int):Vz (s,g)=zo (aF s g):=by
 unfold Vz;rw[pw m,TA,Tc];by_cases a:(UE s).2=0;rotate_left
 ·rw[zx a,jv a]
 rw[zy a,Th,Te];by_cases b:g<0
 ·rw[zy b,ao a (.inl b)]
 by_cases c:g>1000000
 ·rw[zx b,zy c,ao a (.inr c)]
 rw[zx b,zx c,dB a (by omega),a]
theorem fB{s0 s:UC}(g:Gd s0 s):WE s=zo (if(Uo s).2≠0 then(s,(0,(zf,(Uo s).2)))else(X2 s,((Uo s).1,((VJ s (Uo s).1).2.1,(VJ s (Uo s).1).2.2)))):=by
 unfold WE;rw[(ZW g).2,TA,Ti];by_cases h:(Uo s).2=0
 ·rw[zy h,zx (by simp[h])];show bd (Wp (s,(Uo s).1)) _=_;rw[(bT g _).2,TA];rfl
 ·rw[zx h,zy h]
abbrev zM:=Int×(List Int×(List Int×((Int×(List (List UX)×(List Job×Int)))×((Int×(List (List UX)×(List Job×Int)))×(VI×VI)))))
def cu(s:UC):Int×(List (List UX)×(List Job×Int)):=(s.1.1,(s.1.2,s.2))
def sX(s:UC)(l:List Int)(u:VI):zM:=(0,(l,([],(cu zS,(cu s,(zU,u))))))
def uS(e:Int)(s:UC)(l:List Int)(u:VI):zM:=(e,(l,([],(cu zS,(cu s,(zU,u))))))
def aj(s:UC)(g:Int):UC×(VI×(List Int×Int)):=if(UY g.toNat s).2.2≠0 then(zS,(zU,([],(UY g.toNat s).2.2)))else((UY g.toNat s).1,(aY g (YK zU (UY g.toNat s).2.1),((UY g.toNat s).2.1.map (·.1),0)))
theorem d8{s0 s:UC}(G:Gd s0 s){g:Int}(C:0<=g)(D:g<=1000000):VS (s,g)=zo (aj s g):=by
 unfold VS aj;obtain⟨n0,j⟩:∃ n0:Nat,n0=g.toNat:=⟨_,rfl⟩;rw[<- j];obtain⟨T,c⟩:∃ T,T=((UY n0 s).1,(((UY n0 s).2.1.map (·.1),YK zU (UY n0 s).2.1),(UY n0 s).2.2)):=⟨_,rfl⟩;refine cM (λf=>∃ k t l u,f=sX t l u/\At s0 g T k t l u) (λr=>(r.1=0/\T.2.2=0/\r.2.1=sX T.1 T.2.1.1 T.2.1.2)\/(r.1=1/\T.2.2≠0 /\ ∃ t l u,r.2.1=uS T.2.2 t l u)) (λf=>(g-f.2.2.2.2.2.2.1).toNat) ⟨n0,s,[],zU,rfl,G,by decide,?_,by omega,rfl,?_⟩ ?_ ?_ ?_
 ·show(0:Int)+_=g;omega
 ·rw[c];rfl
 ·show(g-0).toNat<_;omega
 ·rintro f ⟨k,t,l,u,rfl,a⟩;obtain⟨i,w,y,z,A,B⟩:=id a;cases k with
  |zero=>
   refine .inr ⟨(0,(sX t l u,())),?_,.inl ⟨rfl,by rw[a.last],by rw[a.last]⟩⟩;show br (TK u.1 g) _ _=_;rw[Th,zx (by omega)]
  |succ k=>
   have m:=fB i;rcases qT i with⟨e1,e2⟩|⟨e1,e2,e3,e4⟩|⟨e1,e2,e3⟩
   ·refine .inr ⟨(0,(sX t l u,())),?_,.inl ⟨rfl,by rw[a.none e1],by rw[a.none e1]⟩⟩;show br (TK u.1 g) (λ_=>bd (WE t) _) _=_;rw[Th,zy (by omega),m,TA,zy (by rw[e2];decide),Tc,zy e2]
   ·have b:=a.fail e1 e2;refine .inr ⟨(1,(uS (V7 t) t l u,())),?_,.inr ⟨rfl,by rw[b];exact e2,t,l,u,by rw[b]⟩⟩;show br (TK u.1 g) (λ_=>bd (WE t) _) _=_;rw[Th,zy (by omega),m,TA];rcases e4 with e4|⟨e4,e5⟩
    ·rw[zy (by rw[e4];exact e2),Tc,zx e3,Ti,zx (by rw[e4];exact e2),e4];rfl
    ·rw[zx (by simp[e4]),Tc,zx (by rw[e5];exact e1),Ti,zx (by rw[e5];exact e2),e5];rfl
   ·obtain⟨n,n1,n2,n3⟩:=gr i e1;have E:=tG (x:=YJ t) (show 0<=u.1/\u.1<=1000000 by omega);refine .inl ⟨sX (X2 t) (l++[(YJ t).1]) (ZP u (YJ t)),?_,⟨k,_,_,_,rfl,a.step e1⟩,?_⟩;rotate_left
    ·show(g-(ZP u (YJ t)).1).toNat<(g-u.1).toNat;omega
    show br (TK u.1 g) (λ_=>bd (WE t) _) _=_;rw[Th,zy (by omega),m,TA,zx (by simp[e2]),Tc,zx (by rw[e3];decide),Ti,zy e3,n1,UB,Zz n2,UB,Zz n2,Tn];have d:∀ {γ:Type} (x:Unit->Option γ),gd (CF (BC (AQ l) (AQ [(n:Int)])) 1048576) x=x ():=λx=>Un (by simp only[BC,UG,ae,a8];omega) x;by_cases b:(VJ t (n:Int)).2.1=zt
    ·rw[pF n3 (by rw[n1];exact b)];show(if(VJ t (n:Int)).2.1=zt then gd (CF (BC (AQ l) (AQ [(n:Int)])) 1048576) _ else _)=_
     rw[zy b,d];show _=zo (LR.nx (sX (X2 t) (l++[(Uo t).1]) _));rw[n1];rfl
    ·have o:(VJ t (n:Int)).2.1=zf:=by simpa using b
     rw[pE n3 (by rw[n1];exact o)];show(if(VJ t (n:Int)).2.1=zt then _ else gd (CF (BC (AQ l) (AQ [(n:Int)])) 1048576) _)=_
     rw[zx b,d];show _=zo (LR.nx (sX (X2 t) (l++[(Uo t).1]) _));rw[n1];rfl
 ·rintro r (⟨q,e,p⟩|⟨q,e,t,l,u,p⟩)
  ·have h:(UY n0 s).2.2=0:=by rw[c]at e;exact e
   rw[Xg,zy q,p,c,zx (by simp[h])];rfl
  ·have h:(UY n0 s).2.2≠0:=by rw[c]at e;exact e
   rw[Xg,zx (by omega),p,c,zy h];rfl
end
section
open Go Sv
theorem uM{s t:UC}{n:Nat}{j:Job}{b:Bool}(v:VSt s)(F:StepF s n j t b){i:Nat}(a:i≠n)(f:(UJ s.1.2 i).length=2):UJ t.1.2 i=UJ s.1.2 i/\U5 t.2.1 (i:Int)=U5 s.2.1 (i:Int):=by
 by_cases g:0<Ua s.1 j
 ·obtain⟨_,e1,_,e2⟩:=F.read g;exact⟨by rw[e1],by rw[e2,zx a]⟩
 ·obtain⟨_,e1,_,e2,e3,e4⟩:=F.inst (by omega)
  have e:¬ (VA j≠[]/\i=Ys s j):=λ⟨c,hi⟩=>by
   rcases e3 with e3|⟨e3,_,e5⟩
   ·exact a (by rw[hi,e3])
   ·have:=e5 c;rw[<- e3,<- hi]at this;omega
  have c:UJ t.1.2 i=UJ s.1.2 i:=by rw[e2,zx e,zx a]
  refine⟨c,?_⟩;obtain⟨j',d⟩:=v.hasJob f;rw[e4,c,zy f,zx a,d];rfl
theorem uN{s0 s:UC}(g:Gd s0 s)(e:V7 s=0){i:Nat}(b:(UJ s.1.2 i).length=2)(f:YJ s≠((i:Int),zt)):(UJ (X2 s).1.2 i).length=2:=by
 obtain⟨n,j,d,k,h,hc,F,_⟩:=Xd g e;by_cases a:i=n
 ·subst a;by_cases c:0<Ua s.1 j
  ·rw[(F.read c).2.1];exact b
  ·exact absurd (Prod.ext d (F.inst (by omega)).1) f
 ·rw[(uM g.1 F a b).1];exact b
def dX(a:Int):Nat->Nat->UC->Int×Int
 |0,_,_=>(0,0)
 |k+1,n,s=>if V7 s≠0 then(0,V7 s)else if YJ s=(a,zt)then(((n+1:Nat):Int),0)else dX a k (n+1) (X2 s)
def NAt(s0:UC)(a:Int)(T:Int×Int)(k n:Nat)(s:UC):Prop:=Gd s0 s/\pJ 2000 s<k/\n+k<=60000/\T=dX a k n s /\ ∃ i:Nat,a=(i:Int)/\(UJ s.1.2 i).length=2
theorem NAt.fail{s0 s:UC}{d:Int}{T:Int×Int}{k n:Nat}(a:NAt s0 d T k n s)(e:V7 s≠0):T=(0,V7 s):=by
 obtain⟨_,f,_,c,_⟩:=a;obtain⟨b,rfl⟩:∃ b,k=b+1:=⟨k-1,by omega⟩;rw[c];simp[dX,e]
theorem NAt.hit{s0 s:UC}{c:Int}{T:Int×Int}{k n:Nat}(a:NAt s0 c T k n s)(e:V7 s=0)(h:YJ s=(c,zt)):T=(((n+1:Nat):Int),0):=by
 obtain⟨_,f,_,d,_⟩:=a;obtain⟨b,rfl⟩:∃ b,k=b+1:=⟨k-1,by omega⟩;rw[d];simp[dX,e,h]
theorem NAt.next{s0 s:UC}{d:Int}{T:Int×Int}{k n:Nat}(a:NAt s0 d T k n s)(e:V7 s=0)(h:YJ s≠(d,zt)):∃ b,k=b+1/\NAt s0 d T b (n+1) (X2 s)/\pJ 2000 (X2 s)<pJ 2000 s:=by
 obtain⟨c,m,o,j,i,f,l⟩:=a;obtain⟨b,rfl⟩:∃ b,k=b+1:=⟨k-1,by omega⟩;obtain⟨_,_,_,_,_,_,_,g⟩:=Xd c e;have p:=(cc c c.2.2 e).1;refine⟨b,rfl,⟨g,by omega,by omega,?_,i,f,uN c e l (by rw[<- f];exact h)⟩,by omega⟩;rw[j];simp[dX,e,h]
end
section
open Go Sv
set_option maxRecDepth 1000000
theorem cK:WL ()=zo zt:=by kernel_rfl
theorem pP(a:X3):tM a a=zt:=by
 unfold tM;simp only[Vm,decide_true];rfl
theorem iC(u:VI):Nr (Og u.1 u.1) (Nr (Og u.2.1 u.2.1) (Nr (Og u.2.2.1 u.2.2.1) (Nr (tM u.2.2.2 u.2.2.2) zt)))=zt:=by
 rw[pP];simp only[Vm,decide_true];rfl
theorem dx{t:UC}(h:t=zS\/VSt t):WD (t,t)=zo zt:=by
 rcases h with rfl|h
 ·exact uX
 ·exact fC h
theorem tI{s:UC}(h:VSt s->VC s.1.2.flatten<=40):VSt s->VC s.1.2.flatten<=2000:=λv=>by grind
end
section
open Go Sv
theorem fE{s:UC}{n:Nat}(l:List (Int×Bool))(g:Int)(h:l.length<=1000000):(aY g (YK zU l)).1=(l.length:Int):=by
 have:=(eB l zU (by decide) (by show(0:Int)+_<=_;omega)).1;show(YK zU l).1=_;rw[this];show(0:Int)+_=_;omega
end
section
open Go Sv
set_option maxRecDepth 100000
def Ur:List Int->UC->UC×(List VI×Int)
 |[],s=>(s,([],0))
 |g::l,s=>if(UY g.toNat s).2.2≠0 then(zS,([],(UY g.toNat s).2.2))else if(Ur l (UY g.toNat s).1).2.2≠0 then(zS,([],(Ur l (UY g.toNat s).1).2.2))else((Ur l (UY g.toNat s).1).1,(aY g (YK zU (UY g.toNat s).2.1)::(Ur l (UY g.toNat s).1).2.1,0))
def cq(s:UC)(l:List Int):UC×(List VI×Int):=if(UE s).2≠0 then(zS,([],(UE s).2))else Ur l s
def Xy(a:List VI)(r:UC×(List VI×Int)):UC×(List VI×Int):=if r.2.2≠0 then(zS,([],r.2.2))else(r.1,(a++r.2.1,0))
theorem bZ{a:List VI}{g:Int}{l:List Int}{s:UC}(h:(UY g.toNat s).2.2≠0):Xy a (Ur (g::l) s)=(zS,([],(UY g.toNat s).2.2)):=by
 unfold Ur Xy;rw[zy h,zy h]
theorem cy{b:List VI}{g:Int}{l:List Int}{s:UC}(h:(UY g.toNat s).2.2=0):Xy b (Ur (g::l) s)=Xy (b++[aY g (YK zU (UY g.toNat s).2.1)]) (Ur l (UY g.toNat s).1):=by
 have e:Ur (g::l) s=if(UY g.toNat s).2.2≠0 then(zS,([],(UY g.toNat s).2.2))else if(Ur l (UY g.toNat s).1).2.2≠0 then(zS,([],(Ur l (UY g.toNat s).1).2.2))else((Ur l (UY g.toNat s).1).1,(aY g (YK zU (UY g.toNat s).2.1)::(Ur l (UY g.toNat s).1).2.1,0)):=rfl
 rw[e,zx (by simp[h])];unfold Xy;by_cases a:(Ur l (UY g.toNat s).1).2.2=0
 ·simp[a]
 ·simp[a]
def tN(s:UC)(e:Int):Int×(List (List UX)×(List Job×(Int×Int))):=(s.1.1,(s.1.2,(s.2.1,(s.2.2,e))))
abbrev wG:=List VI×(Int×(Int×((Int×(List (List UX)×(List Job×(Int×Int))))×(Int×(List (List UX)×(List Job×Int))))))
def qR(a:List VI)(k:Nat)(t:UC):wG:=(a,(0,((k:Int),(tN t 0,(0,([],([],0)))))))
theorem eP{s:UC}(m:Sm s)(hc:VSt s->VC s.1.2.flatten<=2000){l:List Int}(Z:l.length<=200)(z:∀ g∈l,0<=g/\g<=1000000):U7 (s,l)=zo (cq s l):=by
 unfold U7 cq;rw[sS m,TA,Ti];by_cases d:(UE s).2=0;rotate_left
 ·rw[zx d,zy d,Ti,zx d];rfl
 rw[zy d,zx (show ¬ (UE s).2≠0 by simp[d]),Te,zx (by simp only[Ko,AQ];omega)];have v:=UL.1 d;have G:Gd s s:=⟨v,rfl,hc v⟩;refine UZ (x:=(1,(((l.length:Int),((0:Int),())),()))) (YO (λq=>((q:Int),((0:Int),()))) 0 l.length rfl (en _) (by omega) (λq _ U=> ?_) ?_) ?_
 ·obtain⟨g,f⟩:∃ g,l[q]?=zo g:=⟨l[q],by simp[U]⟩;have j:=z g (ad f);show br (TK (q:Int) (Ko (AQ l))) (λ_=>SG (q:Int) λX=>ix l X λO=>br (TK O 0) _ λ_=>br (TI O 1000000) _ _) _=_;rw[Th,zy (by simp only[Ko,AQ];omega),UB,TS f,Th,zx (by omega),Te,zx (by omega)];show zo (LR.nx (SV .i64 (q:Int) 1,_))=_;rw[UI (by omega)]
 ·show br (TK (l.length:Int) (Ko (AQ l))) _ _=_;rw[Th,zx (by simp[Ko,AQ])]
 rw[Xg,zx (by simp)];obtain⟨T,L⟩:∃ T,T=Ur l s:=⟨_,rfl⟩;rw[<- L];refine cM (λA=>∃ a k t,A=qR a k t/\Gd s t/\k<=l.length/\a.length=k/\T=Xy a (Ur (l.drop k) t)) (λr=>(r.1=0 /\ ∃ a k t,r.2.1=qR a k t/\T=(t,(a,0)))\/(r.1=1 /\ ∃ k t e w,r.2.1=([],(e,((k:Int),(tN t w,(0,([],([],0)))))))/\T=(zS,([],e)))) (λA=>l.length-A.2.2.1.toNat) ⟨[],0,s,rfl,G,en _,rfl,?_⟩ (by show l.length-0<_;omega) ?_ ?_
 ·rw[L,List.drop_zero];unfold Xy;by_cases b:(Ur l s).2.2=0
  ·rw[zx (by simp[b])];have:(Ur l s).2.2=0:=b;rw[ee,<- this]
  ·rw[zy b];cases l with
   |nil=>exact absurd rfl b
   |cons g l=>
    unfold Ur at b ⊢;split
    ·rfl
    ·rename_i C;rw[zx C]at b;split
     ·rfl
     ·rename_i h;rw[zx h]at b;exact absurd rfl b
 ·rintro A ⟨a,k,t,rfl,B,Y,W,i⟩;by_cases F:k=l.length
  ·subst F;rw[List.drop_length]at i;have D:T=(t,(a,0)):=by rw[i];simp[Xy,Ur]
   refine .inr ⟨(0,(qR a l.length t,())),?_,.inl ⟨rfl,a,_,t,rfl,D⟩⟩;show br (TK (l.length:Int) (Ko (AQ l))) _ _=_;rw[Th,zx (by simp[Ko,AQ])]
  ·have c:k<l.length:=by omega
   obtain⟨g,f⟩:∃ g,l[k]?=zo g:=⟨l[k],by simp[c]⟩;have j:=z g (ad f)
   have S:l.drop k=g::l.drop (k+1):=by
    have C:=(aa.1 f).2;rw[List.drop_eq_getElem_cons c,C]
   rw[S]at i;have o:∀ {γ:Type} (u:VI) (x:Unit->Option γ),gd (CF (BC (AQ a) (AQ [u])) 1048576) x=x ():=λu x=>Un (by simp only[BC,AQ,ae,a8];omega) x;have j8:=(aA (N:=2000) (n:=g.toNat) B B.2.2).2.2.1
   have P:∀ {R:Option (LR wG (Nat×(wG×Unit)))},(if(UY g.toNat t).2.2=0 then zo (LR.nx (qR (a++[aY g (YK zU (UY g.toNat t).2.1)]) (k+1) (UY g.toNat t).1))else zo (LR.dn (1,(([],((UY g.toNat t).2.2,((k:Int),(tN (UY g.toNat t).1 (UY g.toNat t).2.2,(0,([],([],0))))))),()))))=R ->
     (∃ s',R=zo (.nx s')/\(∃ a k t,s'=qR a k t/\Gd s t/\k<=l.length/\a.length=k/\T=Xy a (Ur (l.drop k) t))/\l.length-s'.2.2.1.toNat<l.length-(qR a k t).2.2.1.toNat)\/(∃ x,R=zo (.dn x)/\((x.1=0 /\ ∃ a k t,x.2.1=qR a k t/\T=(t,(a,0)))\/(x.1=1 /\ ∃ k t e w,x.2.1=([],(e,((k:Int),(tN t w,(0,([],([],0)))))))/\T=(zS,([],e))))):=fun {R} y=>by
    by_cases b:(UY g.toNat t).2.2=0
    ·rw[zy b]at y;refine .inl ⟨_,y.symm,⟨_,_,_,rfl,j8,c,by simp[W],by rw[i,cy b]⟩,?_⟩;show l.length-((k+1:Nat):Int).toNat<l.length-(k:Int).toNat;omega
    ·rw[zx b]at y;exact .inr ⟨_,y.symm,.inr ⟨rfl,_,_,_,_,rfl,by rw[i,bZ b]⟩⟩
   refine P ?_;symm;show br (TK (k:Int) (Ko (AQ l))) (λ_=>SG (k:Int) λI=>ix l I λp=>br (TI p 0) (λ_=>bd (loop (zW p) (gv t 0 zU)) _) _) _=_;rw[Th,zy (by simp only[Ko,AQ];omega),UB,TS f,Te];by_cases h:g>0
   ·rw[zy h];refine d7 B h j.2 λr z=> ?_
    have key:(gd (CF (BC (AQ a) (AQ [((r.2.1.2.1,(SY .i64 g r.2.1.2.1,r.2.1.2.2.2)):VI)])) 1048576) λ_=>br (SD r.2.1.1.2.2.2.2 0) (λ_=>zo (LR.dn (1,((([]:List VI),(r.2.1.1.2.2.2.2,((k:Int),(r.2.1.1,((0:Int),(([]:List (List UX)),(([]:List Job),(0:Int)))))))),())))) λ_=>zo (LR.nx (IN a [((r.2.1.2.1,(SY .i64 g r.2.1.2.1,r.2.1.2.2.2)):VI)],((0:Int),(SV .i64 (k:Int) 1,(r.2.1.1,((0:Int),(([]:List (List UX)),(([]:List Job),(0:Int))))))))))=(if(UY g.toNat t).2.2=0 then zo (LR.nx (qR (a++[aY g (YK zU (UY g.toNat t).2.1)]) (k+1) (UY g.toNat t).1))else zo (LR.dn (1,(([],((UY g.toNat t).2.2,((k:Int),(tN (UY g.toNat t).1 (UY g.toNat t).2.2,(0,([],([],0))))))),())))):=by
     rw[o,z,Ti,UI (by omega)];show(if(UY g.toNat t).2.2=0 then _ else _)=_
     by_cases b:(UY g.toNat t).2.2=0
     ·rw[zy b,zy b,b];rfl
     ·rw[zx b,zx b];rfl
    rw[Xg];split
    ·exact key
    ·exact key
   ·have E:g=0:=by omega
    subst E;rw[zx h,zy (show(UY (0:Int).toNat t).2.2=0 from rfl)];show gd (CF (BC (AQ a) (AQ [(aY 0 zU:VI)])) 1048576) _=_;rw[o];show br (SD 0 0) _ (λ_=>zo (LR.nx (a++[aY 0 zU],((0:Int),(SV .i64 (k:Int) 1,(tN t 0,((0:Int),(([]:List (List UX)),(([]:List Job),(0:Int))))))))))=_;rw[Ti,zy rfl,UI (by omega)];rfl
 ·rintro r (⟨M,a,k,t,J,K⟩|⟨M,k,t,e,w,J,K⟩)
  ·rw[Xg,zy M,J,K];rfl
  ·rw[Xg,zx (by omega),J,K];rfl
end
section
open Go Sv
end
section
open Go Sv
set_option maxRecDepth 100000
end
section
open Go Sv
set_option maxRecDepth 100000
end
section
open Go Sv
@[reducible] def tE:Ty:=.pair .str (.pair .str (.pair .bool (.int .i64)))
@[reducible] def zX:Ty:=.pair (.pair (.int .i64) (.sl zt (.sl zt (.pair (.int .i64) (.sl zt tE))))) (.pair (.sl zt (.pair (.int .i64) (.pair (.pair (.sl zf (.sl zt tE)) (.pair (.sl zf (.int .i64)) (.pair (.sl zt (.pair .str .bool)) (.pair (.sl zf (.int .i64)) (.int .i64))))) (.pair (.pair .bool (.pair .str .bool)) (.pair (.sl zt tE) (.int .i64)))))) (.int .i64))
theorem uK{s:UC}(h:RO zX s):∀ rs∈s.1.2,∀ r∈rs,r.2.length<=9223372036854775807:=by
 obtain⟨⟨_,d,c⟩,_⟩:=h;exact λrs b r a=>((c rs b).2 r a).2.1
end
section
open Go Sv
set_option maxRecDepth 100000
theorem bu{s0:UC}:∀ {l:List Int} {s:UC},Gd s0 s->(∀ g∈l,0<=g/\g<=1000000)->(Ur l s).2.2=0->Gd s0 (Ur l s).1/\(Ur l s).2.1.length=l.length /\ ∀ (i:Nat) u g,(Ur l s).2.1[i]?=zo u->l[i]?=zo g->SV .i64 u.1 u.2.1=g
 |[],s,G,_,_=>⟨G,rfl,λi u g h=>by simp[Ur]at h⟩
 |g::l,s,G,hr,h=>by
  have e:Ur (g::l) s=if(UY g.toNat s).2.2≠0 then(zS,([],(UY g.toNat s).2.2))else if(Ur l (UY g.toNat s).1).2.2≠0 then(zS,([],(Ur l (UY g.toNat s).1).2.2))else((Ur l (UY g.toNat s).1).1,(aY g (YK zU (UY g.toNat s).2.1)::(Ur l (UY g.toNat s).1).2.1,0)):=rfl
  by_cases d:(UY g.toNat s).2.2=0;rotate_left
  ·rw[e,zy d]at h;exact absurd h d
  rw[zx (by simp[d])]at e;by_cases a:(Ur l (UY g.toNat s).1).2.2=0;rotate_left
  ·rw[e,zy a]at h;exact absurd h a
  rw[zx (by simp[a])]at e;obtain⟨w,_,q,_,_⟩:=aA (N:=2000) (n:=g.toNat) G G.2.2;have t:=hr g (by simp);obtain⟨m,o,p⟩:=bu q (λx k=>hr x (by simp[k])) a;rw[e];refine⟨m,by simp[o],λi u j b c=> ?_⟩;cases i with
  |zero=>
   simp only[List.getElem?_cons_zero,Option.some.injEq]at b c;subst b;subst c;have f:=fE (s:=s) (n:=g.toNat) (UY g.toNat s).2.1 g (by omega)
   have r:(aY g (YK zU (UY g.toNat s).2.1)).2.1=g-((UY g.toNat s).2.1.length:Int):=by
    show SY .i64 g (YK zU (UY g.toNat s).2.1).1=_;rw[show(YK zU (UY g.toNat s).2.1).1=_ from f];exact Sx (by omega)
   rw[f,r,Su (by omega)];omega
  |succ i=>
   simp only[List.getElem?_cons_succ]at b c;exact p i u j b c
end
section
open Go Sv
end
section
open Go Sv
end
section
open Go Sv
end
section
open Go Sv
theorem eK{α β γ σ S:Type}{l:List α}(mk:Nat->σ->S)(I:List α->Nat->σ->Prop)(Q:β->Prop){f:S->Option (LR S β)}{s:S}{K:β->Option γ}{R:Option γ}(a:σ)(c:s=mk 0 a)(g:l.length<=9223372036854775807)(hi:I l 0 a)
  (h:∀ a,I [] l.length a -> ∃ r,f (mk l.length a)=zo (.dn r)/\Q r)
  (hc:∀ k x m a,l.drop k=x::m->l[k]?=zo x->k<l.length->I (x::m) k a->(∃ b,f (mk k a)=zo (.nx (mk (k+1) b))/\I m (k+1) b) \/ ∃ r,f (mk k a)=zo (.dn r)/\Q r) (d:∀ r,Q r->K r=R):bd (loop f s) K=R:=by
 obtain⟨r,e,q⟩:=Wh mk I Q a c g hi h hc;rw[e];exact d r q
end
section
open Go Sv
structure Srt (R T:List UD):Prop where
 len:T.length=R.length
 asc:Asc zn T
 mem:∀ y,y∈T<->y∈R
def dT(o:List UD)(y:UD):Prop:=∀ z,o.getLast?=zo z->Si z.1 y.1=zt
structure Best (R o:List UD) (c:Nat) (y:UD):Prop where
 at':R[c]?=zo y
 lt:dT o y
def BInv(R o:List UD)(i:Nat)(b:Int):Prop:=
 (b = -1 /\ ∀ j<i,∀ y,R[j]?=zo y -> ¬ dT o y) \/ ∃ (c:Nat) (y:UD),b=(c:Int)/\c<i/\R[c]?=zo y/\dT o y /\ ∀ j<i,∀ z,R[j]?=zo z->dT o z->Si z.1 y.1=zf
theorem BInv.first{R o:List UD}{i:Nat}{x:UD}(h:BInv R o i (-1))(d:R[i]?=zo x)(g:dT o x):BInv R o (i+1) (i:Int):=by
 rcases h with⟨_,f⟩|⟨c,y,k,_⟩
 ·refine .inr ⟨i,x,rfl,by omega,d,g,λj l z b a=> ?_⟩;by_cases e:j=i
  ·subst e;rw[d]at b;cases b;exact W8 _
  ·exact absurd a (f j (by omega) z b)
 ·omega
end
section
open Go Sv
end
section
open Go Sv
end
section
open Go Sv
def Yz(n:Int):Bool:=decide (0<=n/\n<=1000000)
def jp(u:VI):List Int:=[u.1,u.2.1,u.2.2.1]++YU u.2.2.2
def ec(u:VI):Bool:=(jp u).all Yz
def aX(n:Nat)(a b:X3):X3:=
 (if 0<n then SV .i64 a.1 b.1 else a.1,(if 1<n then SV .i64 a.2.1 b.2.1 else a.2.1,(if 2<n then SV .i64 a.2.2.1 b.2.2.1 else a.2.2.1,(if 3<n then SV .i64 a.2.2.2.1 b.2.2.2.1 else a.2.2.2.1,(if 4<n then SV .i64 a.2.2.2.2.1 b.2.2.2.2.1 else a.2.2.2.2.1,(if 5<n then SV .i64 a.2.2.2.2.2.1 b.2.2.2.2.2.1 else a.2.2.2.2.2.1,(if 6<n then SV .i64 a.2.2.2.2.2.2.1 b.2.2.2.2.2.2.1 else a.2.2.2.2.2.2.1,(if 7<n then SV .i64 a.2.2.2.2.2.2.2.1 b.2.2.2.2.2.2.2.1 else a.2.2.2.2.2.2.2.1,(if 8<n then SV .i64 a.2.2.2.2.2.2.2.2.1 b.2.2.2.2.2.2.2.2.1 else a.2.2.2.2.2.2.2.2.1,(if 9<n then SV .i64 a.2.2.2.2.2.2.2.2.2.1 b.2.2.2.2.2.2.2.2.2.1 else a.2.2.2.2.2.2.2.2.2.1,(if 10<n then SV .i64 a.2.2.2.2.2.2.2.2.2.2.1 b.2.2.2.2.2.2.2.2.2.2.1 else a.2.2.2.2.2.2.2.2.2.2.1,if 11<n then SV .i64 a.2.2.2.2.2.2.2.2.2.2.2 b.2.2.2.2.2.2.2.2.2.2.2 else a.2.2.2.2.2.2.2.2.2.2.2)))))))))))
theorem uR{k:Nat}(h:k<12):k=0\/k=1\/k=2\/k=3\/k=4\/k=5\/k=6\/k=7\/k=8\/k=9\/k=10\/k=11:=by omega
theorem tT{a b:X3}{k:Nat}{x:Int}(h:(YU b)[k]?=zo x):tK (aX k a b) k k x=aX (k+1) a b:=by
 have c:k<12:=(aa.1 h).1;rcases uR c with rfl|rfl|rfl|rfl|rfl|rfl|rfl|rfl|rfl|rfl|rfl|rfl<;>(cases h;rfl)
def cx(u v:VI):VI:=(SV .i64 u.1 v.1,(SV .i64 u.2.1 v.2.1,(SV .i64 u.2.2.1 v.2.2.1,aX 12 u.2.2.2 v.2.2.2)))
def Vu:VI->List VI->VI×Int
 |u,[]=>(u,0)
 |u,x::l=>if ec x=zt then Vu (cx u x) l else(zU,7)
def p8(l:List VI):VI×Int:=if l.length>200 then(zU,3)else Vu zU l
def Bd(n:Nat)(u:VI):Prop:=∀ e∈jp u,0<=e/\e<=n*1000000
theorem pj{u:VI}:ec u=zt <-> ∀ e∈jp u,0<=e/\e<=1000000:=by
 unfold ec Yz;simp
theorem sR{n:Nat}{u v:VI}(K:n<=200)(c:Bd n u)(a:ec v=zt):Bd (n+1) (cx u v):=by
 rw[pj]at a;unfold Bd jp YU at c ⊢;unfold jp YU at a;simp only[nP,ee,bl,sa,or_false,forall_eq_or_imp,forall_eq]at c a ⊢;unfold cx aX;simp only[Nat.zero_lt_succ,if_true,show(1:Nat)<12 by decide,show(2:Nat)<12 by decide,show(3:Nat)<12 by decide,show(4:Nat)<12 by decide,show(5:Nat)<12 by decide,show(6:Nat)<12 by decide,show(7:Nat)<12 by decide,show(8:Nat)<12 by decide,show(9:Nat)<12 by decide,show(10:Nat)<12 by decide,show(11:Nat)<12 by decide];obtain⟨a0,d,e,f,g,h,i,j,k,l,m,o,p,q,r⟩:=c;obtain⟨b0,s,t,w,z,A,B,C,D,E,F,G,I,b,J⟩:=a
 have key:∀ {x y:Int},(0<=x/\x<=n*1000000)->(0<=y/\y<=1000000)->0<=SV .i64 x y/\SV .i64 x y<=((n+1:Nat):Int)*1000000:=by
  intro x y L M;rw[Su (by omega)];omega
 exact⟨key a0 b0,key d s,key e t,key f w,key g z,key h A,key i B,key j C,key k D,key l E,key m F,key o G,key p I,key q b,key r J⟩
theorem uH{a b:Bool}:Nr a b=zt<->a=zt/\b=zt:=by
 cases a<;>cases b<;>simp[Nr]
theorem pQ{n:Nat}{u:VI}(E:n<=200)(a:Bd n u){b:X3}(c:wE b=zt):aX 12 u.2.2.2 b=u.2.2.2:=by
 unfold Bd jp YU at a;simp only[nP,ee,bl,sa,or_false,forall_eq_or_imp,forall_eq]at a;obtain⟨_,_,_,d,e,f,g,h,i,j,k,l,m,o,p⟩:=a;obtain⟨b0,q,r,s,t,w,y,z,A,B,C,D⟩:=b;unfold wE at c;simp only[uH,Vm,decide_eq_true_eq,and_true]at c;obtain⟨rfl,rfl,rfl,rfl,rfl,rfl,rfl,rfl,rfl,rfl,rfl,rfl⟩:=c
 have key:∀ {x:Int},(0<=x/\x<=n*1000000)->SV .i64 x 0=x:=by
  intro x F;rw[Su (by omega)];omega
 unfold aX;simp only[Nat.zero_lt_succ,if_true,show(1:Nat)<12 by decide,show(2:Nat)<12 by decide,show(3:Nat)<12 by decide,show(4:Nat)<12 by decide,show(5:Nat)<12 by decide,show(6:Nat)<12 by decide,show(7:Nat)<12 by decide,show(8:Nat)<12 by decide,show(9:Nat)<12 by decide,show(10:Nat)<12 by decide,show(11:Nat)<12 by decide];rw[key d,key e,key f,key g,key h,key i,key j,key k,key l,key m,key o,key p]
theorem cg(x:Int):VO x=zo (Yz x):=by
 unfold VO Yz;rw[Td];by_cases h:x>=0
 ·rw[zy h];simp[TJ];omega
 ·rw[zx h];simp;omega
end
section
open Go Sv
abbrev S7:=Int×(Int×(Int×(Int×X3)))
theorem zA(g:VI)(d e f:Int)(a:X3){γ:Type}{K:Nat×(S7×Unit)->Option γ}:bd (PU (β:=Nat×(S7×Unit)) (λb=>br (TK b.1 12) (λ_=>SG b.1 λh=>gd (Iq h 12) λ_=>SG b.1 λi=>gd (Iq i 12) λ_=>SG b.1 λc=>gd (Iq c 12) λ_=>zo (.nx ((SV .i64 b.1 1,(b.2.1,(b.2.2.1,(b.2.2.2.1,(tK b.2.2.2.2 i c (Hz (YU g.2.2.2) h))))))))) λ_=>zo (.dn ((0,(b,()))))) ((0,(d,(e,(f,a)))))) K=K (0,(((12:Int),(d,(e,(f,aX 12 a g.2.2.2)))),())):=by
 rw[PW];refine UZ (Xw (λk=>((k:Int),(d,(e,(f,aX k a g.2.2.2))))) 12 rfl (by decide) (λk j=> ?_) rfl) rfl;rcases uR j with rfl|rfl|rfl|rfl|rfl|rfl|rfl|rfl|rfl|rfl|rfl|rfl<;>kernel_rfl
theorem zB(a:VI){γ:Type}{K:Nat×((Bool×Int)×Unit)->Option γ}{A B:Option γ}(j:∀ i,K (0,((zf,i),()))=A)(n:∀ i,K (1,((zf,i),()))=B) :
  bd (loop (β:=Nat×((Bool×Int)×Unit)) (λb=>br (TK b.2 (Ko (AQ (IN ([a.1,a.2.1,a.2.2.1]) (YU a.2.2.2))))) (λ_=>SG b.2 λf=>gd (Iq f (AQ (IN ([a.1,a.2.1,a.2.2.1]) (YU a.2.2.2)))) λ_=>ix (IN ([a.1,a.2.1,a.2.2.1]) (YU a.2.2.2)) f λg=>br (TK g 0) (λ_=>zo (.dn ((0,((zf,b.2),()))))) λ_=>br (TI g 1000000) (λ_=>zo (.dn ((0,((zf,b.2),()))))) λ_=>zo (.nx (b.1,SV .i64 b.2 1))) λ_=>zo (.dn ((1,(b,()))))) (zf,0)) K=if ec a=zt then B else A:=by
 have o:IN ([a.1,a.2.1,a.2.2.1]) (YU a.2.2.2)=jp a:=rfl;rw[o];have t:(jp a).length=15:=rfl;simp only[UH,UG];refine eK (l:=jp a) (σ:=Unit) (λk _=>(zf,(k:Int))) (λq _ _=>(jp a).all Yz=q.all Yz) (λr=>(∃ i,r=(0,((zf,i),()))/\ec a=zf) \/ ∃ i,r=(1,((zf,i),()))/\ec a=zt) () rfl (by omega) rfl ?_ ?_ ?_
 ·intro _ h;exact⟨_,by simp only;rw[re];rfl,.inr ⟨_,rfl,by unfold ec;rw[h];rfl⟩⟩
 ·intro k x m _ s p e h;simp only;rw[rl e,Sp,UB,Zz e,TS p,Th];by_cases c:x<0
  ·rw[zy c];exact .inr ⟨_,rfl,.inl ⟨_,rfl,by unfold ec;rw[h,eb,show Yz x=zf by unfold Yz;simp;omega];rfl⟩⟩
  ·rw[zx c,Te];by_cases d:x>1000000
   ·rw[zy d];exact .inr ⟨_,rfl,.inl ⟨_,rfl,by unfold ec;rw[h,eb,show Yz x=zf by unfold Yz;simp;omega];rfl⟩⟩
   ·rw[zx d,UI (by omega)];exact .inl ⟨(),rfl,by rw[h,eb,show Yz x=zt by unfold Yz;simp;omega];rfl⟩
 ·rintro r (⟨i,rfl,h⟩|⟨i,rfl,h⟩)
  ·rw[j,zx (by simp[h])]
  ·rw[n,zy h]
abbrev S0:=Int×(Int×(VI×VI))
theorem pT{l:List VI}(o:l.length<=9223372036854775807):XF l=zo (p8 l):=by
 unfold XF p8;simp only[UH,UG];rw[Te];by_cases f:l.length>200
 ·rw[zy (by omega),zy f];rfl
 rw[zx (by omega),zx f];refine eK (l:=l) (σ:=VI) (λk u=>((0:Int),((k:Int),(zU,u)))) (λt k u=>Vu u t=Vu zU l/\Bd k u) (λ(r:Nat×(S0×Unit))=>(r.1=0/\(r.2.1.2.2.2,(0:Int))=Vu zU l)\/(r.1=1/\(r.2.1.2.2.1,r.2.1.1)=Vu zU l)) zU rfl o ⟨rfl,?_⟩ ?_ ?_ ?_
 ·intro e g;unfold jp YU zU at g;simp only[nP,ee,bl,sa,or_false,or_self]at g;omega
 ·intro u ⟨h,_⟩;exact⟨_,by simp only;rw[re];rfl,.inl ⟨rfl,h⟩⟩
 ·intro k x m u w q n ⟨h,hb⟩;simp only;rw[rl n,Sp,UB,TS q,Un (show BC [x.1,x.2.1,x.2.2.1].length (YU x.2.2.2).length<=1048576 from(by decide:BC 3 12<=1048576))];rw[UI (by omega)];refine(fun {P:Prop} {R c:Option (LR S0 (Nat×(S0×Unit)))} (e:R=c) (p:(∃ a,c=zo (.nx ((0:Int),(((k+1:Nat):Int),(zU,a))))/\Vu a m=Vu zU l/\Bd (k+1) a) \/ ∃ r:Nat×(S0×Unit),c=zo (.dn r)/\((r.1=0/\(r.2.1.2.2.2,(0:Int))=Vu zU l)\/(r.1=1/\(r.2.1.2.2.1,r.2.1.1)=Vu zU l)))=>((by rw[e];exact p):(∃ a,R=zo (.nx ((0:Int),(((k+1:Nat):Int),(zU,a))))/\Vu a m=Vu zU l/\Bd (k+1) a) \/ ∃ r:Nat×(S0×Unit),R=zo (.dn r)/\((r.1=0/\(r.2.1.2.2.2,(0:Int))=Vu zU l)\/(r.1=1/\(r.2.1.2.2.1,r.2.1.1)=Vu zU l)))) (P:=True) (zB x (A:=some (.dn ((1,((7,((k:Int),(zU,u))),()))))) (B:=some (.nx ((0:Int),(((k+1:Nat):Int),(zU,cx u x))))) (λi=>rfl) (λi=> ?_)) ?_
  ·show br (neq 1 0) _ _=_;rw[TB,zx (by decide),Ug];cases s:wE x.2.2.2 with
   |true=>
    rw[Sp];have:=pQ (by omega) hb s;show zo (LR.nx ((0:Int),(((k+1:Nat):Int),(zU,(SV .i64 u.1 x.1,(SV .i64 u.2.1 x.2.1,(SV .i64 u.2.2.1 x.2.2.1,u.2.2.2)))))))=_;unfold cx;rw[this]
   |false=>
    rw[SM];exact zA x (SV .i64 u.1 x.1) (SV .i64 u.2.1 x.2.1) (SV .i64 u.2.2.1 x.2.2.1) u.2.2.2
  ·by_cases b:ec x=zt
   ·rw[zy b];refine .inl ⟨cx u x,rfl,?_,sR (by omega) hb b⟩;rw[<- h]
    conv=>rhs;unfold Vu
    rw[zy b]
   ·rw[zx b];refine .inr ⟨_,rfl,.inr ⟨rfl,?_⟩⟩;rw[<- h]
    conv=>rhs;unfold Vu
    rw[zx b]
 ·rintro r (⟨j,d⟩|⟨j,d⟩)
  ·rw[TB,zy j,d]
  ·rw[TB,zx (by omega),d]
end
section
open Go Sv
abbrev S6:=Int×(Int×(VI×VI))
theorem zH(d:VI)(n:Int)(o p s:Int)(a:X3){γ:Type}{K:Nat×(S6×Unit)->Option γ}{P:Option γ->Prop}(E:(YU d.2.2.2).all Yz=zt->P (K (0,((n,((12:Int),(zU,(o,(p,(s,aX 12 a d.2.2.2)))))),()))))(D:(YU d.2.2.2).all Yz=zf -> ∀ i w,P (K (1,(((7:Int),(i,(zU,w))),())))) :
  P (bd (loop (β:=Nat×(S6×Unit)) (λb=>br (TK b.2.1 12) (λ_=>SG b.2.1 λu=>gd (Iq u 12) λ_=>bd (VO (Hz (YU d.2.2.2) u)) λA=>br (H2 A) (λ_=>zo (.dn ((1,((7,(b.2.1,((0,(0,(0,(0,(0,(0,(0,(0,(0,(0,(0,(0,(0,(0,0)))))))))))))),b.2.2.2))),()))))) λ_=>SG b.2.1 λy=>gd (Iq y 12) λ_=>SG b.2.1 λg=>gd (Iq g 12) λ_=>SG b.2.1 λj=>gd (Iq j 12) λ_=>zo (.nx ((b.1,(SV .i64 b.2.1 1,(b.2.2.1,(b.2.2.2.1,(b.2.2.2.2.1,(b.2.2.2.2.2.1,(tK b.2.2.2.2.2.2 y j (Hz (YU d.2.2.2) g))))))))))) λ_=>zo (.dn ((0,(b,()))))) ((n,(0,(zU,(o,(p,(s,a)))))))) K):=by
 have J:(YU d.2.2.2).length=12:=rfl
 have hh:∃ r:Nat×(S6×Unit),loop (λb=>br (TK b.2.1 12) (λ_=>SG b.2.1 λu=>gd (Iq u 12) λ_=>bd (VO (Hz (YU d.2.2.2) u)) λA=>br (H2 A) (λ_=>zo (.dn ((1,((7,(b.2.1,((0,(0,(0,(0,(0,(0,(0,(0,(0,(0,(0,(0,(0,(0,0)))))))))))))),b.2.2.2))),()))))) λ_=>SG b.2.1 λy=>gd (Iq y 12) λ_=>SG b.2.1 λg=>gd (Iq g 12) λ_=>SG b.2.1 λj=>gd (Iq j 12) λ_=>zo (.nx ((b.1,(SV .i64 b.2.1 1,(b.2.2.1,(b.2.2.2.1,(b.2.2.2.2.1,(b.2.2.2.2.2.1,(tK b.2.2.2.2.2.2 y j (Hz (YU d.2.2.2) g))))))))))) λ_=>zo (.dn ((0,(b,()))))) (n,(0,(zU,(o,(p,(s,a))))))=zo r/\(λr=>(r=(0,((n,((12:Int),(zU,(o,(p,(s,aX 12 a d.2.2.2)))))),()))/\(YU d.2.2.2).all Yz=zt) \/ ∃ i w,r=(1,(((7:Int),(i,(zU,w))),()))/\(YU d.2.2.2).all Yz=zf) r:=by
  refine Wh (l:=YU d.2.2.2) (σ:=Unit) (λk _=>(n,((k:Int),(zU,(o,(p,(s,aX k a d.2.2.2))))))) (λG _ _=>(YU d.2.2.2).all Yz=G.all Yz) (λr=>(r=(0,((n,((12:Int),(zU,(o,(p,(s,aX 12 a d.2.2.2)))))),()))/\(YU d.2.2.2).all Yz=zt) \/ ∃ i w,r=(1,(((7:Int),(i,(zU,w))),()))/\(YU d.2.2.2).all Yz=zf) () rfl (by omega) rfl ?_ ?_
  ·intro _ h;exact⟨_,rfl,.inl ⟨rfl,by rw[h];rfl⟩⟩
  ·intro k x m _ I C F h;have f:k<12:=F;have t:Hz (YU d.2.2.2) k=x:=by unfold Hz;rw[C];rfl
   have z:TK (k:Int) 12=zt:=dR (c:=12) f;simp only;rw[z,Sp,UB,Zz f,t,cg,TA,Ug];cases B:Yz x with
   |false=>
    rw[SM];exact .inr ⟨_,rfl,.inr ⟨_,_,rfl,by rw[h,eb,B];rfl⟩⟩
   |true=>
    rw[Sp,UB,Zz f,UB,Zz f,UB,Zz f,UI (by omega),t,tT C];exact .inl ⟨(),rfl,by rw[h,eb,B];rfl⟩
 obtain⟨r,e,q⟩:=hh;rw[e,TA];rcases q with⟨rfl,h⟩|⟨i,w,rfl,h⟩
 ·exact E h
 ·exact D h i w
theorem sY(u:VI):ec u=(Yz u.1&&(Yz u.2.1&&(Yz u.2.2.1&&(YU u.2.2.2).all Yz))):=by
 unfold ec jp;rw[List.all_append];simp[eb,Bool.and_assoc]
theorem pq{l:List VI}(s:l.length<=9223372036854775807):Xv l=zo (p8 l):=by
 unfold Xv p8;simp only[UH,UG];rw[Te];by_cases b:l.length>200
 ·rw[zy (by omega),zy b];rfl
 rw[zx (by omega),zx b];refine eK (l:=l) (σ:=VI) (λk u=>((0:Int),((k:Int),(zU,u)))) (λy k u=>Vu u y=Vu zU l) (λ(r:Nat×(S0×Unit))=>(r.1=0/\(r.2.1.2.2.2,(0:Int))=Vu zU l)\/(r.1=1/\(r.2.1.2.2.1,r.2.1.1)=Vu zU l)) zU rfl s rfl ?_ ?_ ?_
 ·intro u h;exact⟨_,by simp only;rw[re];rfl,.inl ⟨rfl,h⟩⟩
 ·intro k x m u z t q h
  have a:ec x=zf->(zU,(7:Int))=Vu zU l:=λn=>by
   rw[<- h]
   conv=>rhs;unfold Vu
   rw[zx (by simp[n])]
  have c:ec x=zt->Vu (cx u x) m=Vu zU l:=λn=>by
   rw[<- h]
   conv=>rhs;unfold Vu
   rw[zy n]
  have e:=sY x;simp only;rw[rl q,Sp,UB,TS t,cg,TA,Ug];cases d:Yz x.1 with
  |false=>
   rw[SM];exact .inr ⟨_,rfl,.inr ⟨rfl,a (by rw[e,d];rfl)⟩⟩
  |true=>
   rw[Sp,cg,TA,Ug];cases g:Yz x.2.1 with
   |false=>
    rw[SM];exact .inr ⟨_,rfl,.inr ⟨rfl,a (by rw[e,d,g];rfl)⟩⟩
   |true=>
    rw[Sp,cg,TA,Ug];cases b:Yz x.2.2.1 with
    |false=>
     rw[SM];exact .inr ⟨_,rfl,.inr ⟨rfl,a (by rw[e,d,g,b];rfl)⟩⟩
    |true=>
     rw[Sp];refine zH x 0 (SV .i64 u.1 x.1) (SV .i64 u.2.1 x.2.1) (SV .i64 u.2.2.1 x.2.2.1) u.2.2.2 (P:=λR=>(∃ f,R=zo (LR.nx ((0:Int),(((k+1:Nat):Int),(zU,f))))/\Vu f m=Vu zU l) \/ ∃ r:Nat×(S0×Unit),R=zo (.dn r)/\((r.1=0/\(r.2.1.2.2.2,(0:Int))=Vu zU l)\/(r.1=1/\(r.2.1.2.2.1,r.2.1.1)=Vu zU l))) (λj=> ?_) λj i w=> ?_
     ·rw[UI (by omega)];exact .inl ⟨cx u x,rfl,c (by rw[e,d,g,b,j];rfl)⟩
     ·exact .inr ⟨_,rfl,.inr ⟨rfl,a (by rw[e,d,g,b,j];rfl)⟩⟩
 ·rintro r (⟨p,o⟩|⟨p,o⟩)
  ·rw[TB,zy p,o]
  ·rw[TB,zx (by omega),o]
end
section
open Go Sv
end
section
open Go Sv
abbrev zL:=Int×(List (List UX)×(List Job×Int))
abbrev zK:=zL×((Int×Int)×(Int×(zL×Int)))
def DAt(s0:UC)(T:UC×(Nat×Int))(k n:Nat)(m:Int)(s:UC):Prop:=
 Gd s0 s/\n+k<=1100000/\T=((UY k s).1,(n+(UY k s).2.1.length,(UY k s).2.2))/\((m=(k:Int)/\0<k)\/(m = -1-(n:Int)/\pJ 2000 s<k))
theorem DAt.pos{s0 s:UC}{T:UC×(Nat×Int)}{k n:Nat}{m:Int}(a:DAt s0 T k n m s):∃ b,k=b+1:=by
 obtain⟨_,_,_,h⟩:=a;exact⟨k-1,by omega⟩
theorem DAt.none{s0 s:UC}{T:UC×(Nat×Int)}{k n:Nat}{m:Int}(a:DAt s0 T k n m s)(e:V7 s=4):T=(s,(n,0)):=by
 obtain⟨b,rfl⟩:=a.pos;rw[a.2.2.1];simp[UY,e]
theorem DAt.fail{s0 s:UC}{T:UC×(Nat×Int)}{k n:Nat}{m:Int}(a:DAt s0 T k n m s)(c:V7 s≠4)(b:V7 s≠0):T=(s,(n,V7 s)):=by
 obtain⟨d,rfl⟩:=a.pos;rw[a.2.2.1];simp[UY,c,b]
theorem DAt.step{s0 s:UC}{T:UC×(Nat×Int)}{k n:Nat}{m:Int}(a:DAt s0 T k n m s)(e:V7 s=0) :
  (m-1=0/\T=(X2 s,(n+1,0)))\/(m-1≠0 /\ ∃ b,DAt s0 T b (n+1) (m-1) (X2 s)):=by
 obtain⟨b,rfl⟩:=a.pos;obtain⟨g,o,i,c⟩:=a;obtain⟨_,_,_,_,_,_,_,h⟩:=Xd g e;have p:=(cc g g.2.2 e).1
 have d:T=((UY b (X2 s)).1,(n+1+(UY b (X2 s)).2.1.length,(UY b (X2 s)).2.2)):=by
  rw[i];simp[UY,e];omega
 by_cases f:m-1=0
 ·refine .inl ⟨f,?_⟩;have l:b=0:=by omega
  rw[d,l];rfl
 ·refine .inr ⟨f,b,h,by omega,d,?_⟩;rcases c with⟨c,j⟩|⟨c,j⟩
  ·exact .inl ⟨by omega,by omega⟩
  ·exact .inr ⟨by omega,by omega⟩
def DEnd(T:UC×(Nat×Int))(r:Nat×(zK×Unit)):Prop:=
 (T.2.2=0/\(r.2.1.2.1.1=0\/r.2.1.2.1.1=1)/\r.2.1.2.2.1=(T.2.1:Int)/\r.2.1.2.2.2.1=cu T.1)\/(T.2.2≠0/\r.2.1.2.1=(2,T.2.2))
theorem DEnd.fin{T:UC×(Nat×Int)}{r:Nat×(zK×Unit)}(h:DEnd T r) :
  (br (Og r.2.1.2.1.1 0) (λ_=>zo ((((r.2.1.2.2.2.1.1,r.2.1.2.2.2.1.2.1),r.2.1.2.2.2.1.2.2),(r.2.1.2.2.1,(0:Int))))) λ_=>br (Og r.2.1.2.1.1 1) (λ_=>zo ((((r.2.1.2.2.2.1.1,r.2.1.2.2.2.1.2.1),r.2.1.2.2.2.1.2.2),(r.2.1.2.2.1,0)))) λ_=>zo ((((0,[]),([],0)),(0,r.2.1.2.1.2))))=zo (if T.2.2≠0 then(zS,(0,T.2.2))else(T.1,((T.2.1:Int),0))):=by
 rcases h with⟨a,h2,b,c⟩|⟨a,h2⟩
 ·rw[zx (by simp[a]),c,b,Tc,Tc];rcases h2 with h2|h2
  ·rw[zy h2];rfl
  ·rw[zx (by rw[h2];decide),zy h2];rfl
 ·rw[zy a,h2,Tc,zx (show ¬ ((2:Int)=0) by decide),Tc,zx (show ¬ ((2:Int)=1) by decide)];rfl
end
section
open Go Sv
end
section
open Go Sv
end
section
open Go Sv
set_option maxRecDepth 100000
def Yc(s:UC)(l:List Int):UC×(List VI×Int):=if(UE s).2≠0 then(zS,([],(UE s).2))else if l.length>200 then(zS,([],3))else if l.all Yz=zt then Ur l s else(zS,([],7))
theorem ZX{x:Int}:Yz x=zt<->0<=x/\x<=1000000:=by unfold Yz;simp
theorem dL{s:UC}(m:Sm s)(hc:VSt s->VC s.1.2.flatten<=2000){l:List Int}(n:l.length<=9223372036854775807):U7 (s,l)=zo (Yc s l):=by
 unfold Yc;by_cases a:(UE s).2=0;rotate_left
 ·rw[zy a];unfold U7;rw[sS m,TA,Ti,zx a,Ti,zx a];rfl
 rw[zx (by simp[a])];by_cases d:l.length>200
 ·rw[zy d];unfold U7;rw[sS m,TA,Ti,zy a,Te,zy (by simp only[Ko,AQ];omega)];rfl
 rw[zx d];cases e:l.all Yz with
 |true=>
  rw[zy rfl,eP m hc (by omega) (λg i=>ZX.1 (rY.1 e g i))];unfold cq;rw[zx (by simp[a])]
 |false=>
  rw[zx (by simp)];unfold U7;rw[sS m,TA,Ti,zy a,Te,zx (by simp only[Ko,AQ];omega)];simp only[UH,UG];refine eK (l:=l) (σ:=Unit) (λk _=>((k:Int),((0:Int),()))) (λf _ _=>f.all Yz=zf) (λr=>∃ k:Nat,r=(0,(((k:Int),((7:Int),())),()))) () rfl n e ?_ ?_ ?_
  ·intro _ h;simp at h
  ·intro k x f _ p o j h;simp only;rw[rl j,Sp,UB,TS o,Th];by_cases b:x<0
   ·rw[zy b];exact .inr ⟨_,rfl,_,rfl⟩
   rw[zx b,Te];by_cases c:x>1000000
   ·rw[zy c];exact .inr ⟨_,rfl,_,rfl⟩
   rw[zx c,UI (by omega)];refine .inl ⟨(),rfl,?_⟩;rw[eb,ZX.2 (by omega)]at h;simpa using h
  ·rintro r ⟨k,rfl⟩;rw[Xg,zy rfl,Ti,zx (show ¬ ((7:Int)=0) by decide)];rfl
theorem ei{s:UC}(m:Sm s){l:List Int}(p:l.length<=9223372036854775807){c:Int}(h:(UE s).2=0\/c≠0){γ:Type}{K:Nat×((Int×Int)×Unit)->Option γ}{R:Option γ}
  (i:∀ k:Nat,K (0,(((k:Int),if c≠0 then c else if l.all Yz=zt then 0 else 7),()))=R) :
  bd (loop (β:=Nat×((Int×Int)×Unit)) (λs1=>br (TK s1.1 (l.length:Int)) (λ_=>br (Og s1.2 0) (λ_=>SG s1.1 λt=>ix l t λw=>bd (Vz (s,w)) λu=>zo (.nx (SV .i64 s1.1 1,u))) λ_=>zo (.dn ((0,(s1,()))))) λ_=>zo (.dn ((0,(s1,()))))) (0,c)) K=R:=by
 obtain⟨F,f⟩:∃ F,F=if c≠0 then c else if l.all Yz=zt then 0 else 7:=⟨_,rfl⟩
 rw[<- f]at i;refine eK (l:=l) (σ:=Int) (λk e=>((k:Int),e)) (λn _ e=>(e≠0->F=e)/\(e=0->(UE s).2=0/\F=if n.all Yz=zt then 0 else 7)) (λr=>∃ k:Nat,r=(0,(((k:Int),F),()))) c rfl p ⟨λa=> ?_,λa=>⟨?_,?_⟩⟩ ?_ ?_ ?_
 ·rw[f,zy a]
 ·rcases h with h|h
  ·exact h
  ·exact absurd a h
 ·rw[f,zx (by simp[a])]
 ·intro e ⟨a,h2⟩;refine⟨_,by simp only;rw[re];rfl,l.length,?_⟩;by_cases b:e=0
  ·have:=(h2 b).2;rw[this,b];rfl
  ·rw[a b]
 ·intro k x n e y q o ⟨a,h2⟩;simp only;rw[rl o,Sp,Tc];by_cases b:e=0
  ·obtain⟨d,g⟩:=h2 b;rw[zy b,UB,TS q,eJ m,TA,UI (by omega)];refine .inl ⟨_,rfl,?_⟩;by_cases j:x<0\/x>1000000
   ·rw[ao d j];refine⟨λ_=> ?_,λh=>absurd h (by decide)⟩
    rw[g,eb,show Yz x=zf by
     cases hh:Yz x with
     |false=>rfl
     |true=>have:=ZX.1 hh;omega]
    rfl
   ·rw[dB d j];refine⟨λh=>absurd rfl h,λ_=>⟨d,?_⟩⟩;rw[g,eb,ZX.2 (by omega),Bool.true_and]
  ·rw[zx b,<- a b];exact .inr ⟨_,rfl,k,rfl⟩
 ·rintro r ⟨k,rfl⟩;exact i k
abbrev zN:=Int×(List VI×(Int×(List VI×((Int×(List (List UX)×(List Job×Int)))×(Int×(List (List UX)×(List Job×Int)))))))
theorem bD{l:List Int}{s:UC}(h:(Ur l s).2.2≠0):Ur l s=(zS,([],(Ur l s).2.2)):=by
 cases l with
 |nil=>exact absurd rfl h
 |cons g l=>
  unfold Ur at h ⊢;split
  ·rfl
  ·rename_i a;rw[zx a]at h;split
   ·rfl
   ·rename_i b;rw[zx b]at h;exact absurd rfl h
theorem uU{s:UC}(G:Gd s s){l:List Int}(B:l.length<=200)(w:∀ g∈l,0<=g/\g<=1000000){γ:Type}{K:Nat×(zN×Unit)->Option γ}{R:Option γ}
  (i:(Ur l s).2.2=0 -> ∀ k:Nat,K (0,(((k:Int),(([]:List VI),((0:Int),((Ur l s).2.1,(cu zS,cu (Ur l s).1))))),()))=R)
  (j:(Ur l s).2.2≠0 -> ∀ (k:Nat) b t,K (1,(((k:Int),(([]:List VI),((Ur l s).2.2,(b,(cu zS,t))))),()))=R) :
  bd (loop (β:=Nat×(zN×Unit)) (λa=>br (TK a.1 (l.length:Int)) (λ_=>SG a.1 λy=>ix l y λz=>bd (VS ((((a.2.2.2.2.2.1,a.2.2.2.2.2.2.1),a.2.2.2.2.2.2.2),z))) λd=>br (SD d.2.2.2 0) (λ_=>zo (.dn ((1,((a.1,([],(d.2.2.2,(a.2.2.2.1,((0,([],([],0))),a.2.2.2.2.2))))),()))))) λ_=>gd (CF (BC (AQ a.2.2.2.1) (AQ [d.2.1])) 1048576) λ_=>zo (.nx ((SV .i64 a.1 1,(a.2.1,(a.2.2.1,(IN a.2.2.2.1 [d.2.1],(a.2.2.2.2.1,(d.1.1.1,(d.1.1.2,d.1.2)))))))))) λ_=>zo (.dn ((0,(a,()))))) ((0,([],(0,([],(cu zS,cu s))))))) K=R:=by
 obtain⟨T,m⟩:∃ T,T=Ur l s:=⟨_,rfl⟩;rw[<- m]at i j;refine eK (l:=l) (σ:=List VI×UC) (λk e=>((k:Int),(([]:List VI),((0:Int),(e.1,(cu zS,cu e.2)))))) (λq k e=>Gd s e.2/\e.1.length=k/\T=Xy e.1 (Ur q e.2)) (λr=>(T.2.2=0 /\ ∃ k:Nat,r=(0,(((k:Int),(([]:List VI),((0:Int),(T.2.1,(cu zS,cu T.1))))),())))\/(T.2.2≠0 /\ ∃ k:Nat,∃ b t,r=(1,(((k:Int),(([]:List VI),(T.2.2,(b,(cu zS,t))))),())))) ([],s) rfl (by omega) ⟨G,rfl,?_⟩ ?_ ?_ ?_
 ·rw[m];unfold Xy;split
  ·rename_i h;exact bD h
  ·rename_i h;have h:(Ur l s).2.2=0:=Classical.not_not.1 h;rw[ee,<- h]
 ·rintro⟨b,t⟩ ⟨_,_,h⟩;have h':T=(t,(b,0)):=by rw[h];simp[Xy,Ur]
  refine⟨_,by simp only;rw[re];rfl,.inl ⟨by rw[h'],l.length,by rw[h']⟩⟩
 ·rintro k x q ⟨b,t⟩ A p u ⟨g,o,h⟩;have f:=w x (ad p);have hs:VS ((((cu t).1,(cu t).2.1),(cu t).2.2),x)=zo (aj t x):=d8 g f.1 f.2;have j8:=(aA (N:=2000) (n:=x.toNat) g g.2.2).2.2.1;simp only;rw[rl u,Sp,UB,TS p,hs,TA,Ti];unfold aj;by_cases c:(UY x.toNat t).2.2=0
  ·rw[zx (show ¬ (UY x.toNat t).2.2≠0 by simp[c])];simp only;rw[zy trivial,Un (by simp only[BC,AQ,ae,a8];simp only at o;omega),UI (by omega)];exact .inl ⟨(b++[aY x (YK zU (UY x.toNat t).2.1)],(UY x.toNat t).1),rfl,j8,by simp[<- o],by rw[h,cy c]⟩
  ·rw[zy c];simp only;rw[zx c];have h':T=(zS,([],(UY x.toNat t).2.2)):=by rw[h,bZ c]
   exact .inr ⟨_,rfl,.inr ⟨by rw[h'];exact c,k,b,_,by rw[h'];rfl⟩⟩
 ·rintro r (⟨c,k,rfl⟩|⟨c,k,b,t,rfl⟩)
  ·exact i c k
  ·exact j c k b t
end
section
open Go Sv
set_option maxRecDepth 100000
theorem dh{s:UC}(m:Sm s)(hc:VSt s->VC s.1.2.flatten<=2000){l:List Int}(b:l.length<=9223372036854775807):We (s,l)=zo (Yc s l):=by
 unfold We Yc;rw[pw m,TA];simp only[UH,UG];by_cases a:(UE s).2=0;rotate_left
 ·rw[Tc,zx a,zy a];refine ei m b (.inr a) λk=> ?_;rw[zy a,Ti,zx a];rfl
 rw[Tc,zy a,zx (by simp[a]),Te];by_cases d:l.length>200
 ·rw[zy (by omega),zy d];refine ei m b (.inr (by decide)) λk=> ?_;rw[zy (by decide),Ti,zx (show ¬ ((3:Int)=0) by decide)];rfl
 rw[zx (by omega),zx d];refine ei m b (.inl a) λk=> ?_;rw[zx (by simp[a])];cases e:l.all Yz with
 |false=>
  rw[zx (by simp),Ti,zx (show ¬ ((7:Int)=0) by decide)];rfl
 |true=>
  rw[zy rfl,zy rfl,Ti,zy (by rfl)];have G:Gd s s:=⟨UL.1 a,rfl,hc (UL.1 a)⟩;refine uU G (by omega) (λg f=>ZX.1 (rY.1 e g f)) (λc k=> ?_) λc k h t=> ?_
  ·rw[Xg,zy rfl,<- c];rfl
  ·rw[Xg,zx (by simp)]
   conv=>rhs;rw[bD c]
   rfl
theorem tH{u:List VI}(c:u.length<=9223372036854775807):XI (u,u)=zo zt:=by
 unfold XI;simp only[UH,UG];rw[Ti,zy rfl];refine eK (l:=u) (σ:=Unit) (λk _=>((k:Int),zf)) (λ_ _ _=>True) (λr=>∃ s0,r=(1,(s0,()))) () rfl c trivial ?_ ?_ ?_
 ·intro _ _;exact⟨_,by simp only;rw[re];rfl,_,rfl⟩
 ·intro k x e _ d a b _;simp only;rw[rl b,Sp,UB,TS a,UB,TS a,iC,Ug,Sp,UI (by omega)];exact .inl ⟨(),rfl,trivial⟩
 ·rintro r ⟨s0,rfl⟩;rw[Xg,zx (by simp)]
theorem pf{s0 s:UC}(G:Gd s0 s){l:List Int}(a:∀ g∈l,0<=g/\g<=1000000):(Ur l s).1=zS\/VSt (Ur l s).1:=by
 by_cases h:(Ur l s).2.2=0
 ·exact .inr (bu G a h).1.1
 ·rw[bD h];exact .inl rfl
theorem kJ{l:List Int}:∀ {s:UC},(Ur l s).2.1.length<=l.length:=by
 induction l with
 |nil=>intro s;simp[Ur]
 |cons g l a=>
  intro s;unfold Ur;split
  ·simp
  ·split
   ·simp
   ·simp only[ae];have:=a (s:=(UY g.toNat s).1);omega
theorem fF{s:UC}(hc:VSt s->VC s.1.2.flatten<=2000)(l:List Int):((Yc s l).1=zS\/VSt (Yc s l).1)/\(Yc s l).2.1.length<=l.length:=by
 unfold Yc;by_cases a:(UE s).2=0;rotate_left
 ·rw[zy a];exact⟨.inl rfl,by simp⟩
 rw[zx (by simp[a])];split
 ·exact⟨.inl rfl,by simp⟩
 split
 ·rename_i b;have G:Gd s s:=⟨UL.1 a,rfl,hc (UL.1 a)⟩;exact⟨pf G (λg c=>ZX.1 (rY.1 b g c)),kJ⟩
 ·exact⟨.inl rfl,by simp⟩
theorem sT{β γ:Type}{f:Unit->Option (LR Bool γ)}{k:Bool->Option β}{d:γ->Option β}{R:Option β}(h:∃ b,f ()=zo (.nx b)/\k b=R):jn f () k d=R:=by
 obtain⟨b,a,c⟩:=h;rw[uL a,c]
theorem grantsMany{x:UC×(List Int×List VI)}(p:∀ rs∈x.1.1.2,∀ r∈rs,r.2.length<=9223372036854775807)(g:x.2.1.length<=9223372036854775807)(i:x.2.2.length<=9223372036854775807):Vj x=zo zt:=by
 obtain⟨s,l,u⟩:=x;simp only at g i
 have fin:Sm s->(VSt s->VC s.1.2.flatten<=40) -> ∀ b,(λs2:Bool=>br s2 (λ_=>bd (WL ()) λw=>zo w) λ_=>bd (U7 (s,l)) λk=>bd (We (s,l)) λn=>jn (γ:=(Nat×(Bool×Unit))) (λC=>bd (WD (k.1,n.1)) λy=>br (H2 y) (λ_=>zo (.nx zt)) λ_=>bd (XI (k.2.1,n.2.1)) λz=>br (H2 z) (λ_=>zo (.nx zt)) λ_=>zo (.nx (SD k.2.2 n.2.2))) () (λA=>br A (λ_=>zo zf) λ_=>bd (XF u) λa=>bd (Xv u) λc=>br (Nr (Og a.1.1 c.1.1) (Nr (Og a.1.2.1 c.1.2.1) (Nr (Og a.1.2.2.1 c.1.2.2.1) (Nr (tM a.1.2.2.2 c.1.2.2.2) zt)))) (λ_=>br (Og a.2 c.2) (λ_=>bd (WL ()) λj=>zo j) λ_=>zo zf) λ_=>zo zf) λt=>zn) b=zo zt:=λm hc b=>by
  cases b with
  |true=>simp only;rw[Sp,cK];rfl
  |false=>
   simp only;have hc:=tI hc;obtain⟨q,B⟩:=fF hc l;rw[SM,dL m hc g,TA,dh m hc g,TA];refine sT ⟨zf,?_,?_⟩
   ·rw[dx q,TA,Ug,Sp,tH (by omega),TA,Ug,Sp];simp[SD]
   ·rw[SM,pT i,TA,pq i,TA,iC,Sp,Tc,zy rfl,cK];rfl
 unfold Vj;obtain⟨o,e,f⟩:=j0 s p;have d:o=zf->Sm s/\(VSt s->VC s.1.2.flatten<=40):=λh=>⟨(f h).1,λv=>(f h).2 v.lev⟩;cases o with
 |true=>
  refine sT ⟨zt,?_,?_⟩
  ·simp only;rw[e,TA,Sp]
  ·simp only;rw[Sp,cK];rfl
 |false=>
  obtain⟨m,hc⟩:=d rfl
  have:∃ b,(br (TI (Ko (AQ l)) 12) (λ_=>br (TJ (Ko (AQ l)) 200) (λ_=>zo (.nx zt)) λ_=>br (TI (Ko (AQ l)) 205) (λ_=>zo (.nx zt)) λ_=>br (TI (Ko (AQ u)) 30) (λ_=>br (TJ (Ko (AQ u)) 200) (λ_=>zo (.nx zt)) λ_=>zo (.nx (TI (Ko (AQ u)) 205))) λ_=>zo (.nx (TI (Ko (AQ u)) 205))) λ_=>br (TI (Ko (AQ l)) 205) (λ_=>zo (.nx zt)) λ_=>br (TI (Ko (AQ u)) 30) (λ_=>br (TJ (Ko (AQ u)) 200) (λ_=>zo (.nx zt)) λ_=>zo (.nx (TI (Ko (AQ u)) 205))) λ_=>zo (.nx (TI (Ko (AQ u)) 205)):Option (LR Bool (Nat×(Bool×Unit))))=zo (.nx b):=by
   simp only[Te,Tf];split<;>split<;>(try split)<;>(try split)<;>(try split)<;>exact⟨_,rfl⟩
  obtain⟨b,f⟩:=this;refine sT ⟨b,?_,fin m hc b⟩;simp only;rw[e,TA,SM];exact f
def tUs:Ty:=(.pair (.int .i64) (.pair (.int .i64) (.pair (.int .i64) (.pair (.int .i64) (.pair (.int .i64) (.pair (.int .i64) (.pair (.int .i64) (.pair (.int .i64) (.pair (.int .i64) (.pair (.int .i64) (.pair (.int .i64) (.pair (.int .i64) (.pair (.int .i64) (.pair (.int .i64) (.int .i64)))))))))))))))
theorem kI{x:UC×(List Int×List VI)}(h:RP [(zt,zX),(zf,.sl zf (.int .i64)),(zf,.sl zt tUs)] x):Vj x=zo zt:=grantsMany (uK h.1) h.2.1.1 h.2.2.1
end
end Go.Proofs.YtiehjicadcamiaaGreat.Pl
