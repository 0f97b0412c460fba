/- Functions of the program and of the specification as plain functions, and laws about them. No condition. -/
import Derived.Test.YtfceigpbgndbgaaGreatDoorPl3
import Derived.KernelRfl
set_option linter.all false
open List renaming length_cons->ci
open Nat renaming le_refl->dc, mul_le_mul->yw, zero_add->eg, zero_le->iP
open Int renaming natCast_mul->yk, toNat_natCast->bl
open UInt8 renaming ofNat->F2
open Option renaming some->zo, none->zn
open Bool renaming true->zt, false->zf
namespace Go.Proofs.YtfceigpbgndbgaaGreatDoor.Pl
section
open Go Sv
def cy(n:Nat)(s:UX):UX×(Int×Int):=if(VA n s).2.2≠0 then(zS,(0,(VA n s).2.2))else((VA n s).1,(((VA n s).2.1.length:Int),0))
abbrev xu:=Int×(List (List Uy)×(List Job×Int))
abbrev DbS:=xu×((Int×Int)×(Int×(xu×Int)))
def xp(s:UX)(n m:Int):DbS:=(su s,((0,0),(n,(su s,m))))
def DAt(s0:UX)(T:UX×(Nat×Int))(k n:Nat)(m:Int)(s:UX):Prop:=
 Gd s0 s/\n+k<=1100000/\T=((VA k s).1,(n+(VA k s).2.1.length,(VA k s).2.2))/\((m=(k:Int)/\0<k)\/(m = -1-(n:Int)/\Yf 2000 s<k))
theorem DAt.pos{s0 s:UX}{T:UX×(Nat×Int)}{k n:Nat}{m:Int}(a:DAt s0 T k n m s):∃ b,k=b+1:=by
 obtain⟨_,_,_,h⟩:=a;exact⟨k-1,by omega⟩
theorem DAt.none{s0 s:UX}{T:UX×(Nat×Int)}{k n:Nat}{m:Int}(a:DAt s0 T k n m s)(e:WE s=4):T=(s,(n,0)):=by
 obtain⟨b,rfl⟩:=a.pos;rw[a.2.2.1];simp[VA,e]
theorem DAt.fail{s0 s:UX}{T:UX×(Nat×Int)}{k n:Nat}{m:Int}(a:DAt s0 T k n m s)(c:WE s≠4)(b:WE s≠0):T=(s,(n,WE s)):=by
 obtain⟨d,rfl⟩:=a.pos;rw[a.2.2.1];simp[VA,c,b]
theorem DAt.step{s0 s:UX}{T:UX×(Nat×Int)}{k n:Nat}{m:Int}(a:DAt s0 T k n m s)(e:WE s=0) :
  (m-1=0/\T=(YL s,(n+1,0)))\/(m-1≠0 /\ ∃ b,DAt s0 T b (n+1) (m-1) (YL s)):=by
 obtain⟨b,rfl⟩:=a.pos;obtain⟨g,o,i,c⟩:=a;obtain⟨_,_,_,_,_,_,_,h⟩:=W3 g e;have p:=(cI g g.2.2 e).1
 have d:T=((VA b (YL s)).1,(n+1+(VA b (YL s)).2.1.length,(VA b (YL s)).2.2)):=by
  rw[i];simp[VA,e];omega
 by_cases f:m-1=0
 ·refine .inl ⟨f,?_⟩;have l:b=0:=by omega
  rw[d,l];rfl
 ·refine .inr ⟨f,b,h,by omega,d,?_⟩;rcases c with⟨c,j⟩|⟨c,j⟩
  ·exact .inl ⟨by omega,by omega⟩
  ·exact .inr ⟨by omega,by omega⟩
def DEnd(T:UX×(Nat×Int))(r:Nat×(DbS×Unit)):Prop:=
 (T.2.2=0/\(r.2.1.2.1.1=0\/r.2.1.2.1.1=1)/\r.2.1.2.2.1=(T.2.1:Int)/\r.2.1.2.2.2.1=su T.1)\/(T.2.2≠0/\r.2.1.2.1=(2,T.2.2))
theorem DEnd.fin{T:UX×(Nat×Int)}{r:Nat×(DbS×Unit)}(h:DEnd T r) :
  (br (O3 r.2.1.2.1.1 0) (λ_=>zo ((((r.2.1.2.2.2.1.1,r.2.1.2.2.2.1.2.1),r.2.1.2.2.2.1.2.2),(r.2.1.2.2.1,(0:Int))))) λ_=>br (O3 r.2.1.2.1.1 1) (λ_=>zo ((((r.2.1.2.2.2.1.1,r.2.1.2.2.2.1.2.1),r.2.1.2.2.2.1.2.2),(r.2.1.2.2.1,0)))) λ_=>zo ((((0,[]),([],0)),(0,r.2.1.2.1.2))))=zo (if T.2.2≠0 then(zS,(0,T.2.2))else(T.1,((T.2.1:Int),0))):=by
 rcases h with⟨a,h2,b,c⟩|⟨a,h2⟩
 ·rw[zx (by simp[a]),c,b,UD,UD];rcases h2 with h2|h2
  ·rw[zy h2];rfl
  ·rw[zx (by rw[h2];decide),zy h2];rfl
 ·rw[zy a,h2,UD,zx (show ¬ ((2:Int)=0) by decide),UD,zx (show ¬ ((2:Int)=1) by decide)];rfl
theorem xU{s0 s:UX}{T:UX×(Nat×Int)}{k:Nat}{m:Int}(j:m≠0)(a:DAt s0 T k 0 m s):Y7 (s,m)=zo (if T.2.2≠0 then(zS,(0,T.2.2))else(T.1,((T.2.1:Int),0))):=by
 unfold Y7;rw[UD,zx j];refine jX (λd=>∃ k t n m,d=xp t (n:Nat) m/\DAt s0 T k n m t) (DEnd T) (λd=>Yf 2000 ((d.1.1,d.1.2.1),d.1.2.2)) ⟨k,s,0,m,rfl,a⟩ ?_ ?_ ?_
 ·show Yf 2000 s<_;have:=bg a.1.1;omega
 ·rintro d ⟨k,t,n,m,rfl,a⟩;have b:=a.1;have l:So .i64 (n:Int) 1=((n+1:Nat):Int):=Uh (by have:=a.2.1;omega);have hs:Ss .i64 m 1=m-1:=TG (by have:=a.2.1;have:=a.2.2.2;omega);rcases uT b with⟨e1,e2⟩|⟨e1,e2,e3,c⟩|⟨e1,e2,e3⟩
  ·refine .inr ⟨(0,((su t,((1,0),(xp t n m).2.2)),())),?_,.inl ⟨by rw[a.none e1],.inr rfl,by rw[a.none e1];rfl,by rw[a.none e1];rfl⟩⟩;show bd (Vw t) _=_;rw[(Yy b).1,TW,UD,zy e2];rfl
  ·refine .inr ⟨(0,((((0,([],([],0))):xu),((2,WE t),(xp t n m).2.2)),())),?_,.inr ⟨by rw[a.fail e1 e2];exact e2,by rw[a.fail e1 e2]⟩⟩;show bd (Vw t) _=_;rw[(Yy b).1,TW,UD,zx e3,UD];rcases c with c|⟨c,e5⟩
   ·rw[zx (by rw[c];exact e2),UI,zx (by rw[c];exact e2),c]
   ·rw[zy c];show bd (Vh (t,(Vq t).1)) _=_;rw[(bN b _).1,TW,UI,zx (by rw[e5];exact e2),e5]
  ·have p:=(cI b b.2.2 e1).1;have i:∀ {γ:Type} (x y:Unit->Option γ),br (O3 (Ss .i64 m 1) 0) x y=if m-1=0 then x ()else y ():=λx y=>by rw[hs,UD]
   have key:∀ {R},R=(if m-1=0 then zo (LR.dn (1,(xp (YL t) ((n+1:Nat):Int) (m-1),())))else zo (LR.nx (xp (YL t) ((n+1:Nat):Int) (m-1))))->(∃ s',R=zo (.nx s')/\(∃ k t n m,s'=xp t (n:Nat) m/\DAt s0 T k n m t)/\Yf 2000 ((s'.1.1,s'.1.2.1),s'.1.2.2)<Yf 2000 t)\/(∃ x,R=zo (.dn x)/\DEnd T x):=fun {R} f=>by
    rcases a.step e1 with⟨g,e⟩|⟨g,o,e⟩
    ·rw[zy g]at f;exact .inr ⟨_,f,.inl ⟨by rw[e],.inl rfl,by rw[e];rfl,by rw[e];rfl⟩⟩
    ·rw[zx g]at f;exact .inl ⟨_,f,⟨o,_,_,_,rfl,e⟩,by show Yf 2000 (YL t)<_;omega⟩
   refine key ?_;show bd (Vw t) _=_;rw[(Yy b).1,TW,UD,zx (by rw[e2];decide),UD,zy e2];show bd (Vh (t,(Vq t).1)) _=_;rw[(bN b _).1,TW,UI,zy e3];refine(i _ _).trans ?_;rw[<- l,<- hs];rfl
 ·intro r h;rw[jY];split
  ·exact h.fin
  ·exact h.fin
theorem tx{s0 s:UX}(g:Gd s0 s):Y7 (s,-1)=zo (cy (Yf 2000 s+1) s):=by
 have a:=bg g.1;have:=xU (s0:=s0) (s:=s) (T:=((VA (Yf 2000 s+1) s).1,(0+(VA (Yf 2000 s+1) s).2.1.length,(VA (Yf 2000 s+1) s).2.2))) (k:=Yf 2000 s+1) (m:=-1) (by omega) ⟨g,by omega,rfl,.inr ⟨by omega,by omega⟩⟩;rw[this];simp only[eg];rfl
theorem fc{s0 s:UX}{N R Q:Nat}(g:Gd s0 s)(a:Uj s.1.2.flatten<=N)(c:Yf N s<=R)(b:Yf N s<=Q):cy R s=cy Q s:=by
 have h:∀ k,VA (Yf N s+k) s=VA (Yf N s) s:=kZ g a (dc _);unfold cy;rw[show R=Yf N s+(R-Yf N s) by omega,show Q=Yf N s+(Q-Yf N s) by omega,h,h]
def xS(s:UX)(most:Int):UX×(Int×Int):=if aa s most≠0 then(zS,(0,aa s most))else cy most.toNat s
def VB(s:UX):UX×(Int×Int):=if(Ua s).2≠0 then(zS,(0,(Ua s).2))else cy (Yf 2000 s+1) s
theorem bS{s:UX}(m:Sm s)(hc:VSt s->Uj s.1.2.flatten<=2000):Vs s=zo (VB s):=by
 unfold Vs VB;rw[uL m,TW,UI];by_cases a:(Ua s).2=0;rotate_left
 ·rw[zx a,zy a];rfl
 rw[zy a,zx (by simp[a])];have v:=Ue.1 a;rw[tx (s0:=s) ⟨v,rfl,hc v⟩];rfl
end
section
open Go Sv
abbrev wb:=Int×(Int×(Int×(xu×xu)))
def zu(s:UX)(n:Nat):wb:=(0,((n:Int),(0,(su zS,su s))))
theorem gq{s0 s:UX}(g:Gd s0 s){n0:Nat}(q:n0<=1000000){γ:Type}{K:Nat×(wb×Unit)->Option γ}{f:wb->Option (LR wb (Nat×(wb×Unit)))}
  (e:∀ s1:wb,f s1=br (Tk s1.2.1 (n0:Int)) (λ_=>bd (Vu (((s1.2.2.2.2.1,s1.2.2.2.2.2.1),s1.2.2.2.2.2.2))) λi=>br (O3 i.2 4) (λ_=>zo (.dn ((1,((s1.2.1,(s1.2.1,(0,(s1.2.2.2.2,s1.2.2.2.2)))),()))))) λ_=>br (SS i.2 0) (λ_=>zo (.dn ((1,((0,(s1.2.1,(i.2,((0,([],([],0))),s1.2.2.2.2)))),()))))) λ_=>bd (WA ((((s1.2.2.2.2.1,s1.2.2.2.2.2.1),s1.2.2.2.2.2.2),i.1))) λc=>br (SS c.2.2 0) (λ_=>zo (.dn ((1,((0,(s1.2.1,(c.2.2,((0,([],([],0))),s1.2.2.2.2)))),()))))) λ_=>zo (.nx ((s1.1,(So .i64 s1.2.1 1,(s1.2.2.1,(s1.2.2.2.1,(c.1.1.1,(c.1.1.2,c.1.2))))))))) λ_=>zo (.dn ((0,(s1,())))))
  {R:Option γ} (m:∀ r:Nat×(wb×Unit),((r.1=0/\cy n0 s=(((r.2.1.2.2.2.2.1,r.2.1.2.2.2.2.2.1),r.2.1.2.2.2.2.2.2),((n0:Int),0)))\/(r.1≠0/\cy n0 s=(((r.2.1.2.2.2.1.1,r.2.1.2.2.2.1.2.1),r.2.1.2.2.2.1.2.2),(r.2.1.1,r.2.1.2.2.1))))->K r=R):bd (loop f (zu s 0)) K=R:=by
 refine jX (λj=>∃ k t n,j=zu t n/\Gd s0 t/\n+k=n0/\cy n0 s=(if(VA k t).2.2≠0 then(zS,(0,(VA k t).2.2))else((VA k t).1,(((n+(VA k t).2.1.length:Nat):Int),0))))
  (λr=>(r.1=0/\cy n0 s=(((r.2.1.2.2.2.2.1,r.2.1.2.2.2.2.2.1),r.2.1.2.2.2.2.2.2),((n0:Int),0)))\/(r.1≠0/\cy n0 s=(((r.2.1.2.2.2.1.1,r.2.1.2.2.2.1.2.1),r.2.1.2.2.2.1.2.2),(r.2.1.1,r.2.1.2.2.1)))) (λj=>((n0:Int)-j.2.1).toNat) ⟨n0,s,0,rfl,g,by omega,by simp only[eg];rfl⟩ ?_ ?_ m
 ·show((n0:Int)-((0:Nat):Int)).toNat<_;omega
 ·rintro j ⟨k,t,n,rfl,a,u,d⟩;cases k with
  |zero=>
   refine .inr ⟨(0,(zu t n,())),?_,.inl ⟨rfl,?_⟩⟩
   ·rw[e];show br (Tk (n:Int) (n0:Int)) _ _=_;rw[UH,zx (by omega)]
   ·rw[d];show(if(0:Int)≠0 then _ else(t,(((n+0:Nat):Int),(0:Int))))=_
    rw[zx (by decide),show n+0=n0 by omega];rfl
  |succ k=>
   rcases uT a with⟨e1,e2⟩|⟨e1,e2,e3,b⟩|⟨e1,e2,e3⟩
   ·refine .inr ⟨(1,(((n:Int),((n:Int),(0,(su t,su t)))),())),?_,.inr ⟨λh=>absurd h (by simp),?_⟩⟩
    ·rw[e];show br (Tk (n:Int) (n0:Int)) (λ_=>bd (Vu t) _) _=_;rw[UH,zy (by omega),(Yy a).2,TW,UD,zy e2];rfl
    ·rw[d];simp[VA,e1];rfl
   ·refine .inr ⟨(1,((0,((n:Int),(WE t,(su zS,su t)))),())),?_,.inr ⟨λh=>absurd h (by simp),?_⟩⟩
    ·rw[e];show br (Tk (n:Int) (n0:Int)) (λ_=>bd (Vu t) _) _=_;rw[UH,zy (by omega),(Yy a).2,TW,UD,zx e3,UI];rcases b with b|⟨b,e5⟩
     ·rw[zx (by rw[b];exact e2),b];rfl
     ·rw[zy b];show bd (WA (t,(Vq t).1)) _=_;rw[(bN a _).2,TW,UI,zx (by rw[e5];exact e2),e5];rfl
    ·rw[d];simp[VA,e1,e2];rfl
   ·obtain⟨_,_,_,_,_,_,_,l⟩:=W3 a e1;have p:So .i64 (n:Int) 1=((n+1:Nat):Int):=Uh (by omega);refine .inl ⟨zu (YL t) (n+1),?_,⟨k,YL t,n+1,rfl,l,by omega,?_⟩,?_⟩
    ·rw[e];show br (Tk (n:Int) (n0:Int)) (λ_=>bd (Vu t) _) _=_;rw[UH,zy (by omega),(Yy a).2,TW,UD,zx (by rw[e2];decide),UI,zy e2];show bd (WA (t,(Vq t).1)) _=_;rw[(bN a _).2,TW,UI,zy e3];unfold zu;rw[<- p];rfl
    ·rw[d];have o:((n+1+(VA k (YL t)).2.1.length:Nat):Int)=((n+(cm t::(VA k (YL t)).2.1).length:Nat):Int):=by simp only[ci];omega
     rw[o];simp only[VA,e1,ne_eq,not_true_eq_false,if_false,show ¬ ((0:Int)=4) by decide]
    ·show((n0:Int)-((n+1:Nat):Int)).toNat<((n0:Int)-(n:Int)).toNat;omega
theorem tn{s:UX}(m:Sm s)(hc:VSt s->Uj s.1.2.flatten<=2000)(most:Int):ZN (s,most)=zo (xS s most):=by
 unfold ZN xS;rw[kW m,TW,UD];by_cases a:(Ua s).2=0;rotate_left
 ·rw[zx a,UI,zx a,mf a,zy a];rfl
 rw[zy a,UH,UF];by_cases b:most<0
 ·rw[zy b,eY a (.inl b),zy (by decide)];rfl
 by_cases c:most>1000000
 ·rw[zx b,zy c,eY a (.inr c),zy (by decide)];rfl
 rw[zx b,zx c,UI,zy a,eX a (by omega),zx (by decide)];have v:=Ue.1 a;obtain⟨n0,rfl⟩:∃ n0:Nat,most=(n0:Int):=⟨most.toNat,by omega⟩;rw[bl];refine gq (s0:=s) ⟨v,rfl,hc v⟩ (n0:=n0) (by omega) (λs1=>rfl) λr f=> ?_;rw[jY];rcases f with⟨d,e⟩|⟨d,e⟩
 ·rw[zy d,e]
 ·rw[zx d,e]
def fX(s:UX):Int×Int:=if(Ua s).2≠0 then(0,(Ua s).2)else(((s.1.2.flatten.length*(Uj s.1.2.flatten+1):Nat):Int),0)
def fx(s:UX):Bool×Int:=if(Ua s).2≠0 then(zf,(Ua s).2)else(decide (Ug 0 s.1.2=[]),0)
theorem gJ{s:UX}(m:Sm s):Y6 s=zo (if(Ua s).2≠0 then(0,(0,(Ua s).2))else((Uj s.1.2.flatten:Int),((s.1.2.flatten.length:Int),0))):=by
 unfold Y6;rw[uL m,TW,UI];by_cases a:(Ua s).2=0;rotate_left
 ·rw[zx a,zy a]
 have v:=Ue.1 a;rw[zy a,zx (by simp[a]),mZ _ m.lv m.rs,TW];unfold gI;rw[zx (by simp[XO v.lev])]
theorem fY{n c:Nat}(a:n<=24)(hc:c<=1000000):Sp .i64 (n:Int) (So .i64 (c:Int) 1)=((n*(c+1):Nat):Int):=by
 have h:n*(c+1)<=24*1000001:=yw a (by omega);rw[Uh (by omega),TF]
 ·exact(yk _ _).symm
 ·rw[<- yk];omega
theorem wc{s:UX}(m:Sm s):Z5 s=zo (fX s):=by
 unfold Z5 fX;rw[gJ m,TW,UI];by_cases a:(Ua s).2=0;rotate_left
 ·rw[zy a,zx a,zy a]
 have v:=Ue.1 a;have b:=bB v.lev;have c:=(Zo v.lev).2;rw[zx (show ¬ (Ua s).2≠0 by simp[a]),zx (show ¬ (Ua s).2≠0 by simp[a]),zy rfl,fY b (by omega)]
theorem fT{s:UX}(m:Sm s):Xg s=zo (fX s):=by
 unfold Xg fX;rw[kW m,TW,UI];by_cases a:(Ua s).2=0;rotate_left
 ·rw[zx a,zy a]
 have v:=Ue.1 a;have b:=bB v.lev;have c:=(Zo v.lev).2;rw[zy a,zx (show ¬ (Ua s).2≠0 by simp[a]),kQ v.lev,TW,fY b (by omega)]
end
section
open Go Sv
theorem gf{s:UX}(m:Sm s)(hc:VSt s->Uj s.1.2.flatten<=2000):X7 s=zo (VB s):=by
 unfold X7;rw[fT m,TW,UI];unfold fX VB;by_cases a:(Ua s).2=0;rotate_left
 ·rw[zy a,zy a,zx a];rfl
 have v:=Ue.1 a;have c:=bB v.lev;have b:=hc v;rw[zx (show ¬ (Ua s).2≠0 by simp[a]),zx (show ¬ (Ua s).2≠0 by simp[a]),zy rfl,tn m hc,TW];have h:s.1.2.flatten.length*(Uj s.1.2.flatten+1)<=24*2001:=yw c (by omega);have d:¬ ((((s.1.2.flatten.length*(Uj s.1.2.flatten+1):Nat):Int))<0\/(((s.1.2.flatten.length*(Uj s.1.2.flatten+1):Nat):Int))>1000000):=by omega
 unfold xS;rw[eX a d,zx (by decide),bl];have G:Gd s s:=⟨v,rfl,b⟩;have e:=gZ (Uj s.1.2.flatten) v;have f:cy (s.1.2.flatten.length*(Uj s.1.2.flatten+1)) s=cy (s.1.2.flatten.length*(Uj s.1.2.flatten+1)+Yf 2000 s+1) s:=fc G (dc _) e (by omega);have g:cy (Yf 2000 s+1) s=cy (s.1.2.flatten.length*(Uj s.1.2.flatten+1)+Yf 2000 s+1) s:=fc (N:=2000) G b (by omega) (by omega);show zo (cy (s.1.2.flatten.length*(Uj s.1.2.flatten+1)) s)=_;rw[f,g]
theorem ng{s0 s:UX}(g:Gd s0 s)(n:Nat):(cy n s).1=zS\/VSt (cy n s).1:=by
 unfold cy;split
 ·exact .inl rfl
 ·exact .inr (ZC (n:=n) g g.2.2).2.2.1.1
theorem bL{s:UX}(hc:VSt s->Uj s.1.2.flatten<=2000):(VB s).1=zS\/VSt (VB s).1:=by
 unfold VB;by_cases h:(Ua s).2=0
 ·rw[zx (by simp[h])];have v:=Ue.1 h;exact ng (s0:=s) ⟨v,rfl,hc v⟩ _
 ·rw[zy h];exact .inl rfl
end
section
open Go Sv
theorem tK{s:UX}(v:VSt s)(h:s.2.1=[]):Ug 0 s.1.2=[]:=by rw[<- v.due,h];rfl
end
section
open Go Sv
theorem HZ{f:VT}(h:Ui f=0):(Ua f.2).2=0:=by
 unfold Ui at h;by_cases a:(Vg f.1).2=0
 ·rw[zx (show ¬ (Vg f.1).2≠0 by simp[a])]at h;by_cases b:(Ua f.2).2=0
  ·exact b
  ·rw[zy b]at h;exact absurd h b
 ·rw[zy a]at h;exact absurd h a
end
section
open Go Sv
theorem tN(f:VT)(a:∀ rs∈f.2.1.2,∀ r∈rs,r.2.length<=9223372036854775807):∃ b,Z8 f=zo b/\(b=zf->Sm f.2/\(VLev f.2.1->Uj f.2.1.2.flatten<=40)/\f.1.2.length<=20):=by
 unfold Z8;simp only[Uf,Uc]
 obtain⟨r,o,d⟩:=aD (l:=f.1.2) (σ:=Unit) (s:=((0:Int),zf)) 25 (by omega) (λk _=>((k:Int),zf)) (λ_ _=>True) (λ(r:Nat×((Int×Bool)×Unit))=>r.1=1\/(r.1=0/\r.2.1.2=zt))
  (f:=λs0=>br (Tk s0.1 (f.1.2.length:Int)) (λ_=>br (Tk s0.1 25) (λ_=>SW s0.1 λm=>ix f.1.2 m λq=>br (Ti (NA q.1:Int) 100) (λ_=>zo (.dn ((0,((s0.1,zt),()))))) λ_=>SW s0.1 λn=>ix f.1.2 n λt=>br (Ti (NA t.2.1:Int) 100) (λ_=>zo (.dn ((0,((s0.1,zt),()))))) λ_=>zo (.nx (So .i64 s0.1 1,s0.2))) λ_=>zo (.dn ((1,(s0,()))))) λ_=>zo (.dn ((1,(s0,())))))
  () rfl trivial (λk _ h g _=>⟨_,(mv (c:=25) h g _ _ _ rfl),.inl rfl⟩) (λk x _ a g _=>by
   simp only;have i:=(List.getElem?_eq_some_iff.1 a).1;rw[rl i,TB,show Tk (k:Int) 25=zt from fH g,TB,UY,Tq a,UF,UY,Tq a,UF,Uh (by omega)]
   repeat' split
   all_goals first|exact .inr ⟨_,rfl,.inr ⟨rfl,rfl⟩⟩|exact .inl ⟨(),rfl,trivial⟩)
 rw[o,TW,TX];rcases d with d|⟨d,p⟩
 ·rw[zx (show ¬ r.1=0 by omega)];obtain⟨b,e,j⟩:=my f.2 a;rw[e,TW];cases b with
  |true=>exact⟨_,rfl,λh=>by cases h⟩
  |false=>
   refine⟨_,rfl,λh=>⟨(j rfl).1,(j rfl).2,?_⟩⟩;unfold Ti at h;simp at h;omega
 ·rw[zy d,p];exact⟨_,rfl,λh=>by cases h⟩
theorem mz:Z7=Z8:=rfl
theorem hC{f g:Nat->Nat}{n:Nat}(a:f n<=g n+1):∀ {m:Nat},(∀ i,i<m->i≠n->f i<=g i)->Vm f m<=Vm g m+1
 |0,_=>iP _
 |m+1,h=>by
  show Vm f m+f m<=Vm g m+g m+1;by_cases e:n=m
  ·subst e;have:=bn (f:=g) (g:=f) (m:=n) λi hi=>h i (by omega) (by omega);omega
  ·have:=hC a (m:=m) λi hi=>h i (by omega);have:=h m (by omega) (λx=>e x.symm);omega
theorem mw{s t:UX}{n:Nat}{j:Job}{b:Bool}(v:VSt s)(z:VSt t)(q:JobAt s.1 n j)(F:StepF s n j t b):ay s<=ay t+1:=by
 obtain⟨x,y,w,C,B,a⟩:=q.rd;have hc:Uj (Ud s.1.2 n)=x.2.length+y.2.length:=by rw[w,Vz,Vz];simp[Uj]
 rw[ej v,ej z];by_cases g:0<Uo s.1 j
 ·obtain⟨_,h,_,k⟩:=F.read g;refine hC (n:=n) ?_ λi _ hi=> ?_
  ·unfold dA;rw[k n,zy rfl,F.job,h];simp only;rw[a g,hc];omega
  ·unfold dA;rw[k i,zx hi,h];exact dc _
 ·obtain⟨A,_,_,m,o,p⟩:=F.inst (by omega)
  have u:dA s n=1:=by
   unfold dA;rw[F.job];simp only;rw[hc];omega
  refine hC (n:=n) (by omega) λi _ hi=> ?_;by_cases d:(Ud s.1.2 i).length=2
  ·have r:Ud t.1.2 i=Ud s.1.2 i:=by
    rw[m,zx hi];by_cases c:Vc j≠[]/\i=Zk s j
    ·exfalso;have l:=o.resolve_left (λe=>hi (by rw[c.2,e]));have:=l.2.2 c.1;rw[<- l.1,<- c.2]at this;omega
    ·rw[zx c]
   refine Nat.le_of_eq ?_;unfold dA;rw[p i,r,zy d,zx hi];obtain⟨j',f⟩:=v.hasJob d;rw[f];rfl
  ·unfold dA;rw[v.noJob d];exact iP _
theorem db{s0:UX}:∀ {n:Nat} {s:UX},Gd s0 s->ay s<=(VA n s).2.1.length+ay (VA n s).1
 |0,s,g=>by simp[VA]
 |n+1,s,g=>by
  unfold VA;by_cases c:WE s=4
  ·rw[zy c];simp
  ·rw[zx c];by_cases a:WE s=0
   ·rw[zx (by simp[a])];obtain⟨_,_,_,_,d,_,F,b⟩:=W3 g a;have e:=mw g.1 b.1 d F;have f:=db (n:=n) b;simp only[ci];omega
   ·rw[zy a];simp
theorem z8{s0 s:UX}(g:Gd s0 s)(e:WE s=0):(YL s).1.1=s.1.1:=by
 obtain⟨_,_,_,_,c,_,F,b⟩:=W3 g e;rename_i n j _ _ _;by_cases a:0<Uo s.1 j
 ·rw[(F.read a).2.1]
 ·rw[(F.inst (by omega)).2.1];unfold WT;split<;>rfl
theorem nk{s0:UX}:∀ {n:Nat} {s:UX},Gd s0 s->(VA n s).1.1.1=s.1.1
 |0,s,g=>rfl
 |n+1,s,g=>by
  unfold VA;by_cases b:WE s=4
  ·rw[zy b]
  ·rw[zx b];by_cases a:WE s=0
   ·rw[zx (by simp[a])];obtain⟨_,_,_,_,_,_,_,c⟩:=W3 g a;exact(nk (n:=n) c).trans (z8 g a)
   ·rw[zy a]
def dl:VT:=((0,[]),zS)
def eu(f:VT):VT×(Int×Int):=if(VB f.2).2.2≠0 then(dl,(0,(VB f.2).2.2))else((f.1,(VB f.2).1),((VB f.2).2.1,0))
def V5(f:VT):VT×(Int×Int):=if Ui f≠0 then(dl,(0,Ui f))else eu f
theorem dC{s:UX}(hc:VSt s->Uj s.1.2.flatten<=2000):∃ n:Nat,(VB s).2.1=(n:Int)/\n<=60000:=by
 unfold VB;by_cases h:(Ua s).2=0
 ·rw[zx (by simp[h])];have v:=Ue.1 h;have l:=(ZC (n:=Yf 2000 s+1) (N:=2000) (s0:=s) ⟨v,rfl,hc v⟩ (hc v)).1;have:=bg v;unfold cy;split
  ·exact⟨0,rfl,by omega⟩
  ·exact⟨_,rfl,by omega⟩
 ·rw[zy h];exact⟨0,rfl,by omega⟩
theorem ma{f:VT}(m:Sm f.2)(hc:VSt f.2->Uj f.2.1.2.flatten<=2000):YA f=zo (V5 f):=by
 unfold YA V5 eu;rw[cU m,TW,UI];by_cases a:Ui f=0;rotate_left
 ·rw[zx a,zy a];rfl
 obtain⟨n,c,d⟩:=dC hc;rw[zy a,zx (show ¬ Ui f≠0 by simp[a]),bS m hc,TW,UD,UD,UI,UI,UD];have hi:So .i64 0 (VB f.2).2.1=(VB f.2).2.1:=by rw[c,TE (by omega)];omega
 by_cases b:(VB f.2).2.2=0
 ·simp only[b,if_true,hi,ne_eq,not_true_eq_false,if_false]
 ·simp only[b,if_false,ne_eq,not_false_eq_true,if_true];rfl
theorem cS{f:VT}(m:Sm f.2)(hc:VSt f.2->Uj f.2.1.2.flatten<=2000):Wt f=zo (eu f):=by
 unfold Wt eu;rw[gf m hc,TW,UI];by_cases a:(VB f.2).2.2=0
 ·rw[zy a,zx (by simp[a])]
 ·rw[zx a,zy a];rfl
theorem dY{f:VT}(m:Sm f.2)(hc:VSt f.2->Uj f.2.1.2.flatten<=2000):Xa f=zo (V5 f):=by
 unfold Xa V5;rw[cA m,TW,UI];by_cases a:Ui f=0
 ·rw[zy a,zx (by simp[a]),cS m hc,TW]
 ·rw[zx a,zy a];rfl
theorem gK{f:VT}(a:Ui f=0)(l:Uj f.2.1.2.flatten<=60)(c:(VB f.2).2.2=0) :
  ∃ (t:UX) (n:Nat),VB f.2=(t,((n:Int),0))/\Gd f.2 t/\Uj t.1.2.flatten<=60/\t.2.1=[]/\n<=f.2.1.2.flatten.length*(Uj f.2.1.2.flatten+1)/\ay f.2<=n/\Ui (f.1,t)=0/\t.1.1=f.2.1.1/\VB t=(t,(0,0)):=by
 have e:=HZ a;have v:=Ue.1 e;have G:Gd f.2 f.2:=⟨v,rfl,by omega⟩
 have i:(VA (Yf 2000 f.2+1) f.2).2.2=0:=by
  unfold VB cy at c;rw[zx (by simp[e])]at c;by_cases h:(VA (Yf 2000 f.2+1) f.2).2.2=0
  ·exact h
  ·rw[zy h]at c;exact absurd c h
 have p:=gZ (Uj f.2.1.2.flatten) v;have o:=ZC (n:=Yf 2000 f.2+1) (N:=Uj f.2.1.2.flatten) G (dc _);have g:=ZC (n:=Yf 2000 f.2+1) (N:=60) G l;have hd:=de (N:=2000) (R:=Yf 2000 f.2+1) G (by omega) (by omega) i;have j:=nk (n:=Yf 2000 f.2+1) G;have m:=db (n:=Yf 2000 f.2+1) G;have b:=g.2.2.1.1
 have k:ay (VA (Yf 2000 f.2+1) f.2).1=0:=by
  unfold ay;rw[tK b hd];rfl
 refine⟨(VA (Yf 2000 f.2+1) f.2).1,(VA (Yf 2000 f.2+1) f.2).2.1.length,?_,g.2.2.1,g.2.2.2.1,hd,by omega,by omega,?_,j,?_⟩
 ·unfold VB cy;rw[zx (by simp[e]),zx (by simp[i])]
 ·unfold Ui at a ⊢;by_cases d:(Vg f.1).2=0;rotate_left
  ·rw[zy d]at a;exact absurd a d
  rw[zx (by simp[d]),zx (by simp[e])]at a;rw[zx (by simp[d]),zx (by simp[Ue.2 b])];show(if f.1.1≠(VA (Yf 2000 f.2+1) f.2).1.1.1 then(6:Int)else 0)=0
  rw[j];exact a
 ·unfold VB cy;rw[zx (by simp[Ue.2 b]),fo b hd,zx (by simp)];rfl
end
section
open Go Sv
end
section
open Go Sv
structure WrI (most:Nat) (l:List UZ) (R:List UZ):Prop where
 asc:Asc zn l
 le:l.length<=most
 len:R.length=most+1
 row:R.take l.length=l
end
section
open Go Sv
structure Bf (b:Uy):Prop where
 m1:1<=b.1
 m2:b.1<=16
 len:(b.2.length:Int)<=b.1
 ok:∀ x∈b.2,kE x=0
 asc:Asc zn b.2
theorem mj{b:Uy}(h:(Vg b).2=0):Bf b:=by
 unfold Vg at h;by_cases a:b.1<1\/b.1>16
 ·rw[zy a]at h;cases h
 rw[zx a]at h;by_cases c:(b.2.length:Int)>b.1
 ·rw[zy c]at h;cases h
 rw[zx c]at h;obtain⟨d,e⟩:=ax.1 h;exact⟨by omega,by omega,by omega,d,e⟩
end
section
open Go Sv
end
section
open Go Sv
theorem ZK{f:VT}(h:Ui f=0):(Vg f.1).2=0/\VSt f.2/\f.1.1=f.2.1.1:=by
 have c:=HZ h;unfold Ui at h;by_cases a:(Vg f.1).2=0;rotate_left
 ·rw[zy a]at h;exact absurd h a
 rw[zx (by simp[a]),zx (by simp[c])]at h;refine⟨a,Ue.1 c,?_⟩;by_cases b:f.1.1=f.2.1.1
 ·exact b
 ·rw[zy b]at h;cases h
def zF:VT:=((0,[]),zS)
def aT(f:VT):Bool:=decide (2<=(Ud f.2.1.2 0).length)
theorem tR{f:VT}(v:VLev f.2.1):Yu f=zo (aT f):=by
 have a:=(v.own 0).1;unfold Yu aT;simp only[Uf,Uc];rw[UE];by_cases h:0<f.2.1.2.length
 ·rw[zx (by omega),Tq (WN h)]
  congr 1
  rw[V7];exact decide_eq_decide.2 (by omega)
 ·rw[zy (by omega)]
  congr 1
  have:Ud f.2.1.2 0=[]:=by unfold Ud;rw[List.getElem?_eq_none (by omega)];rfl
  rw[this];rfl
theorem tv{f:VT}(v:VLev f.2.1):WB (f.2.1,(0:Int))=zo (Hl (aT f),0):=by
 have b:=(v.own 0).1;have h:=ba v (n:=0) (by omega);rw[zx (by omega)]at h;refine h.trans ?_
 congr 2
 unfold Zi aT;rw[Vr];have a:((f.2.1.2[0]?).getD []).length=(Ud f.2.1.2 0).length:=rfl;rw[a];exact decide_eq_decide.2 (by omega)
theorem wo{γ:Type}{f:VT}(m:Sm f.2)(Z:Int->Option γ)(C:Option γ) :
  (bd (WF f.1) λd=>br (SS d.2 0) (λ_=>Z d.2) λ_=>bd (VV f.2) λg=>br (SS g.2 0) (λ_=>Z g.2) λ_=>br (SS f.1.1 f.2.1.1) (λ_=>Z 6) λ_=>C)=if Ui f≠0 then Z (Ui f)else C:=by
 rw[ac,TW,UI];by_cases a:(Vg f.1).2=0;rotate_left
 ·have e:Ui f=(Vg f.1).2:=by unfold Ui;rw[zy a]
  rw[zx a,e,zy a]
 rw[zy a,uL m,TW,UI];by_cases b:(Ua f.2).2=0;rotate_left
 ·have e:Ui f=(Ua f.2).2:=by unfold Ui;rw[zx (show ¬ (Vg f.1).2≠0 by simp[a]),zy b]
  rw[zx b,e,zy b]
 rw[zy b,UI];by_cases c:f.1.1=f.2.1.1;rotate_left
 ·have e:Ui f=6:=by unfold Ui;rw[zx (show ¬ (Vg f.1).2≠0 by simp[a]),zx (show ¬ (Ua f.2).2≠0 by simp[b]),zy c]
  rw[zx c,e,zy (by decide)]
 have e:Ui f=0:=by unfold Ui;rw[zx (show ¬ (Vg f.1).2≠0 by simp[a]),zx (show ¬ (Ua f.2).2≠0 by simp[b]),zx (show ¬ f.1.1≠f.2.1.1 by simp[c])]
 rw[zy c,e,zx (by simp)]
theorem al{f:VT}(b:f.1.2.length<=1000000)(a:f.2=zS\/VSt f.2):Wn (f,f)=zo zt:=by
 unfold Wn Zp;rw[UD,zy rfl,bK f.1.2 (by omega),TW,TW,TB,kc a];rfl
end
section
open Go Sv
def WK(f:VT):VT×Int:=
 if Ui f≠0 then(zF,Ui f)
 else if f.1.2.length=0 then(f,0)
 else if aT f=zt then(zF,10)
 else if(bU f.2 f.1.2).2≠0 then(zF,(bU f.2 f.1.2).2)
 else(((f.1.1,[]),(bU f.2 f.1.2).1),0)
theorem d7{f:VT}(h:Ui f=0):f.1.2.length<=16:=by
 have a:=mj (ZK h).1;have:=a.len;have:=a.m2;omega
theorem tC{f:VT}(m:Sm f.2):Wq f=zo (WK f):=by
 unfold Wq WK;refine(wo m (λe=>zo (zF,e)) _).trans ?_;by_cases h:Ui f=0;rotate_left
 ·rw[zy h,zy h]
 rw[zx (by simp[h]),zx (by simp[h])];have v:=(ZK h).2.1;have d:=d7 h;simp only[Uf,Uc];rw[UD];by_cases b:f.1.2.length=0
 ·rw[zy (by omega),zy b];rfl
 rw[zx (by omega),zx b,tv v.lev,TW];simp only;rw[UI,zy rfl];cases c:aT f with
 |true=>rw[Zm,mo,TB,zy rfl];rfl
 |false=>
  rw[mo,Zm,Sd,zx (show ¬ zf=zt by decide),j0 m (by omega),TW,UI];by_cases a:(bU f.2 f.1.2).2=0
  ·rw[zy a,zx (by simp[a])];rfl
  ·rw[zx a,zy a];rfl
theorem nT{f:VT}(m:Sm f.2):Yt f=zo (WK f):=by
 unfold Yt WK;rw[cA m,TW,UI];by_cases h:Ui f=0;rotate_left
 ·rw[zx h,zy h];rfl
 rw[zy h,zx (by simp[h])];have v:=(ZK h).2.1;have d:=d7 h;simp only[Uf,Uc];rw[UD];by_cases b:f.1.2.length=0
 ·rw[zy (by omega),zy b]
 rw[zx (by omega),zx b,tR v.lev,TW];cases c:aT f with
 |true=>rw[TB,zy rfl];rfl
 |false=>
  rw[Sd,zx (show ¬ zf=zt by decide),ga m (by omega),TW,UI];by_cases a:(bU f.2 f.1.2).2=0
  ·rw[zy a,zx (by simp[a])]
  ·rw[zx a,zy a];rfl
end
section
open Go Sv
def kN(k:Nat):YH:=[126,110,101,119,F2 (97+k / 26),F2 (97+k % 26)]
def zz(k:YH):Prop:=¬ (4<=k.length/\Tz k 0 4=[126,110,101,119])
def zD(f:VT):Int:=f.1.1-(f.1.2.length:Int)+f.1.1*(2-((Ud f.2.1.2 0).length:Int))
structure FI (n k:Nat) (f:VT):Prop where
 fr:Ui f=0
 nx:f.2.2.2<=900000+(k:Int)
 key:∀ y∈f.1.2,zz y.1 \/ ∃ j<k,y.1=kN j
 val:(k:Int)+zD f=(n:Int)
theorem y8{b:Uy}(h:Bf b):(Vg b).2=0:=by
 unfold Vg;have:=h.m1;have:=h.m2;have:=h.len;rw[zx (by omega),zx (by omega)];exact ax.2 ⟨h.ok,h.asc⟩
theorem zC{f:VT}(a:Bf f.1)(b:VSt f.2)(c:f.1.1=f.2.1.1):Ui f=0:=by
 unfold Ui;rw[zx (by simp[y8 a]),zx (by simp[Ue.2 b]),zx (by simp[c])]
end
section
open Go Sv
abbrev FrS:=(Int×(Bool×(Int×((List UZ)×(Int×((List (List Uy))×((List Job)×Int)))))))
def mkF(k:Nat)(f:VT):FrS:=((k:Int),(zf,(f.1.1,(f.1.2,(f.2.1.1,(f.2.1.2,f.2.2))))))
end
section
open Go Sv
end
section
open Go Sv
end
section
open Go Sv
structure Srt (R T:List UZ):Prop where
 len:T.length=R.length
 asc:Asc zn T
 mem:∀ y,y∈T<->y∈R
def later(o:List UZ)(y:UZ):Prop:=∀ z,o.getLast?=zo z->S4 z.1 y.1=zt
structure Best (R o:List UZ) (c:Nat) (y:UZ):Prop where
 at':R[c]?=zo y
 lt:later o y
def BInv(R o:List UZ)(i:Nat)(b:Int):Prop:=
 (b = -1 /\ ∀ j<i,∀ y,R[j]?=zo y -> ¬ later o y) \/ ∃ (c:Nat) (y:UZ),b=(c:Int)/\c<i/\R[c]?=zo y/\later o y /\ ∀ j<i,∀ z,R[j]?=zo z->later o z->S4 z.1 y.1=zf
theorem BInv.first{R o:List UZ}{i:Nat}{x:UZ}(h:BInv R o i (-1))(d:R[i]?=zo x)(g:later o x):BInv R o (i+1) (i:Int):=by
 rcases h with⟨_,f⟩|⟨c,y,k,_⟩
 ·refine .inr ⟨i,x,rfl,by omega,d,g,λj l z b a=> ?_⟩;by_cases e:j=i
  ·subst e;rw[d]at b;cases b;exact Xm _
  ·exact absurd a (f j (by omega) z b)
 ·omega
theorem BInv.stay{R o:List UZ}{i c:Nat}{x y:UZ}(h:BInv R o i (c:Int))(n:R[i]?=zo x)(f:R[c]?=zo y)(hs:S4 x.1 y.1=zf):BInv R o (i+1) (c:Int):=by
 rcases h with⟨k,_⟩|⟨g,r,k,p,d,l,m⟩
 ·omega
 ·obtain rfl:c=g:=by omega
  rw[f]at d;cases d;refine .inr ⟨c,y,rfl,by omega,f,l,λj q z b a=> ?_⟩;by_cases e:j=i
  ·subst e;rw[n]at b;cases b;exact hs
  ·exact m j (by omega) z b a
end
section
open Go Sv
end
section
open Go Sv
end
section
open Go Sv
def bQ(f:VT):VT×(Int×Int):=
 if(V5 f).2.2≠0 then(dl,(0,(V5 f).2.2))else if(WK (V5 f).1).2≠0 then(dl,(0,(WK (V5 f).1).2))else((WK (V5 f).1).1,((V5 f).2.1,0))
def ZS(f:VT):VT×(Int×Int):=
 if(bQ f).2.2≠0 then(dl,(0,(bQ f).2.2))else if(eu (bQ f).1).2.2≠0 then(dl,(0,(eu (bQ f).1).2.2))else((eu (bQ f).1).1,(So .i64 (bQ f).2.1 (eu (bQ f).1).2.1,0))
theorem gv{f:VT}(k:Ui f=0) :
  (f.1.2=[]/\WK f=(f,0))\/(f.1.2≠[]/\(Ud f.2.1.2 0).length=2/\(WK f).2=10)\/(f.1.2≠[]/\(Ud f.2.1.2 0).length<2/\f.2.2.2>1000000/\(WK f).2=5) \/
  (f.1.2≠[]/\(Ud f.2.1.2 0).length<2/\f.2.2.2<=1000000/\kR [] (VD f.2.1.1 0) (f.2.2.2,f.1.2)=0/\WK f=(((f.1.1,[]),ZG f.2 (cC f.2 f.1.2) (f.2.2.2+1) (-1)),0)):=by
 obtain⟨m,v,n⟩:=ZK k;have g:=mj m;have p:=g.m1;have q:=g.len;have o:=(v.lev.own 0).1;unfold WK;rw[zx (by simp[k])];by_cases d:f.1.2.length=0
 ·rw[zy d];exact .inl ⟨List.length_eq_zero_iff.1 d,rfl⟩
 have b:f.1.2≠[]:=λe=>d (by rw[e];rfl);rw[zx d];by_cases c:aT f=zt
 ·rw[zy c];refine .inr (.inl ⟨b,?_,rfl⟩);unfold aT at c;simp at c;omega
 rw[zx c]
 have i:(Ud f.2.1.2 0).length<2:=by
  unfold aT at c;simpa using c
 by_cases l:f.2.2.2>1000000
 ·refine .inr (.inr (.inl ⟨b,i,l,?_⟩))
  have a:bU f.2 f.1.2=(zS,5):=by
   unfold bU;rw[zx (by simp[Ue.2 v]),zy (.inl l)]
  rw[a,zy (by simp)]
 have j:VL f.1.2:=⟨by have:=g.m2;omega,g.ok,g.asc⟩
 have h:kR [] (VD f.2.1.1 0) (f.2.2.2,f.1.2)=0:=by
  rw[uO v (by omega),zx (by simp[ZW.2 j]),zx d,zx (by unfold VD;rw[<- n];simp;omega)]
 have a:bU f.2 f.1.2=(ZG f.2 (cC f.2 f.1.2) (f.2.2.2+1) (-1),0):=by
  unfold bU;rw[zx (by simp[Ue.2 v]),zx (by omega),zx (by simp[ZW.2 j]),zx (by simp[h])]
 refine .inr (.inr (.inr ⟨b,i,by omega,h,?_⟩));rw[a,zx (by simp)]
theorem dg{f:VT}(c:Ui f=0)(h:(WK f).2=0) :
  Ui (WK f).1=0/\(WK f).1.1=(f.1.1,[])/\Uj (WK f).1.2.1.2.flatten<=Uj f.2.1.2.flatten+f.1.2.length:=by
 obtain⟨r,v,s⟩:=ZK c;have i:=mj r;have n:=i.m1;have o:=i.m2;rcases gv c with⟨l,a⟩|⟨_,_,a⟩|⟨_,_,_,a⟩|⟨_,g,m,e,a⟩
 ·rw[a];refine⟨c,?_,by simp⟩;show f.1=(f.1.1,[]);rw[<- l]
 ·rw[a]at h;cases h
 ·rw[a]at h;cases h
 ·rw[a];have d:Bf (f.1.1,([]:List UZ)):=⟨n,o,by simp only[List.length_nil];omega,by simp,trivial⟩;refine⟨zC d (tD v g e m) s,rfl,?_⟩;show Uj (cC f.2 f.1.2).2.flatten<=_;obtain⟨p,q,j,k⟩:=YJ f.2.1 0 (Ud f.2.1.2 0++[(f.2.2.2,f.1.2)]);have b:(cC f.2 f.1.2).2.flatten=p++(Ud f.2.1.2 0++[(f.2.2.2,f.1.2)]++q):=k;rw[j,b,VY,VY,VY,VY,VY,Vz];simp only[Uj,List.map_nil,List.sum_nil];omega
theorem cR{f:VT}(b:Ui f=0)(e:VSt f.2->Uj f.2.1.2.flatten<=60) :
  ((VB f.2).2.2≠0/\V5 f=(dl,(0,(VB f.2).2.2))) \/
  ∃ (t:UX) (n:Nat),VB f.2=(t,((n:Int),0))/\V5 f=((f.1,t),((n:Int),0))/\VSt t/\Uj t.1.2.flatten<=60/\t.2.1=[]/\n<=f.2.1.2.flatten.length*(Uj f.2.1.2.flatten+1)/\n<=60000/\Ui (f.1,t)=0/\VB t=(t,(0,0)):=by
 have v:=(ZK b).2.1;have hc:VSt f.2->Uj f.2.1.2.flatten<=2000:=λv=>by have:=e v;omega
 obtain⟨n0,a,g⟩:=dC hc;by_cases c:(VB f.2).2.2=0;rotate_left
 ·refine .inl ⟨c,?_⟩;unfold V5 eu;rw[zx (by simp[b]),zy c]
 ·obtain⟨t,n,d,h,i,j,k,o,l,p,m⟩:=gK b (e v) c;refine .inr ⟨t,n,d,?_,h.1,i,j,k,?_,l,m⟩
  ·unfold V5 eu;rw[zx (by simp[b]),zx (by simp[c]),d]
  ·rw[d]at a;have:(n:Int)=n0:=a;omega
theorem fw{f:VT}(a:Ui f=0)(e:VSt f.2->Uj f.2.1.2.flatten<=60) :
  ((bQ f).2.2≠0) \/ ∃ (g:VT) (n:Nat),bQ f=(g,((n:Int),0))/\Ui g=0/\g.1=(f.1.1,[])/\Uj g.2.1.2.flatten<=76/\n<=60000:=by
 rcases cR a e with⟨b,d⟩|⟨t,n,l,c,m,o,p,q,h,i,r⟩
 ·left;unfold bQ;rw[d,zy b];exact b
 ·have k:=d7 a;by_cases hs:(WK (f.1,t)).2=0
  ·obtain⟨s1,s2,j⟩:=dg i hs;refine .inr ⟨(WK (f.1,t)).1,n,?_,s1,s2,?_,h⟩
   ·unfold bQ;rw[c];simp only;rw[zx (by simp),zx (by simp[hs])]
   ·simp only at j;omega
  ·left;unfold bQ;rw[c];simp only;rw[zx (by simp),zy hs];exact hs
theorem md{f:VT}(m:Sm f.2)(g:VSt f.2->Uj f.2.1.2.flatten<=60):YB f=zo (ZS f):=by
 have hc:VSt f.2->Uj f.2.1.2.flatten<=2000:=λv=>by have:=g v;omega
 unfold YB;rw[cU m,TW,UI];by_cases b:Ui f=0;rotate_left
 ·rw[zx b];have hd:V5 f=(dl,(0,Ui f)):=by unfold V5;rw[zy b]
  have hs:bQ f=(dl,(0,Ui f)):=by unfold bQ;rw[hd,zy b]
  unfold ZS;rw[hs,zy b];rfl
 rw[zy b,bS m hc,TW];rcases cR b g with⟨d,i⟩|⟨t,n,j,h,k,r,s,u,w,l,x⟩
 ·have hs:bQ f=(dl,(0,(VB f.2).2.2)):=by unfold bQ;rw[i,zy d]
  rw[UD,zx d,UD,zx d,UI,zx d];unfold ZS;rw[hs,zy d];rfl
 ·rw[j];simp only;have hi:So .i64 0 (n:Int)=(n:Int):=by rw[TE (by omega)];omega
  rw[UD,zy rfl,UD,zy rfl,tC k.sm,TW,UD];by_cases hs:(WK (f.1,t)).2=0;rotate_left
  ·have c:bQ f=(dl,(0,(WK (f.1,t)).2)):=by
    unfold bQ;rw[h];simp only;rw[zx (by simp),zy hs]
   rw[zx hs,UD,zx hs,UI,zx hs];unfold ZS;rw[c,zy hs];rfl
  ·obtain⟨s1,s2,o⟩:=dg l hs;have q:=d7 b;simp only at o
   have c:bQ f=((WK (f.1,t)).1,((n:Int),0)):=by
    unfold bQ;rw[h];simp only;rw[zx (by simp),zx (by simp[hs])]
   have p:=(ZK s1).2.1;have e:VSt (WK (f.1,t)).1.2->Uj (WK (f.1,t)).1.2.1.2.flatten<=2000:=λ_=>by omega
   rw[zy hs,UD,zy hs,bS p.sm e,TW];unfold ZS;rw[c];simp only;rw[zx (show ¬ (0:Int)≠0 by simp)];by_cases a:(VB (WK (f.1,t)).1.2).2.2=0
   ·have hd:eu (WK (f.1,t)).1=(((WK (f.1,t)).1.1,(VB (WK (f.1,t)).1.2).1),((VB (WK (f.1,t)).1.2).2.1,0)):=by
     unfold eu;rw[zx (by simp[a])]
    rw[UD,zy a,UD,zy a,UI,zy a,hd,zx (by simp),hi]
   ·have hd:eu (WK (f.1,t)).1=(dl,(0,(VB (WK (f.1,t)).1.2).2.2)):=by
     unfold eu;rw[zy a]
    rw[UD,zx a,UD,zx a,UI,zx a,hd,zy a];rfl
theorem gn{f:VT}(m:Sm f.2)(c:VSt f.2->Uj f.2.1.2.flatten<=60):X8 f=zo (bQ f):=by
 have hc:VSt f.2->Uj f.2.1.2.flatten<=2000:=λv=>by have:=c v;omega
 unfold X8;rw[dY m hc,TW,UI];by_cases a:Ui f=0;rotate_left
 ·have hd:V5 f=(dl,(0,Ui f)):=by unfold V5;rw[zy a]
  unfold bQ;rw[hd,zx a,zy a];rfl
 rcases cR a c with⟨b,d⟩|⟨t,n,h,e,g,i,j,k,l,o,p⟩
 ·unfold bQ;rw[d,zx b,zy b];rfl
 ·unfold bQ;rw[e];simp only;rw[zy trivial,nT g.sm,TW,UI,zx (show ¬ (0:Int)≠0 by simp)];by_cases hs:(WK (f.1,t)).2=0
  ·rw[zy hs,zx (by simp[hs])]
  ·rw[zx hs,zy hs];rfl
theorem kS{f:VT}(m:Sm f.2)(d:VSt f.2->Uj f.2.1.2.flatten<=60):YY f=zo (ZS f):=by
 unfold YY ZS;rw[gn m d,TW,UI];by_cases a:(bQ f).2.2=0;rotate_left
 ·rw[zx a,zy a];rfl
 rw[zy a,zx (by simp[a])]
 have b:Ui f=0:=by
  by_cases b:Ui f=0
  ·exact b
  ·exfalso;have hd:V5 f=(dl,(0,Ui f)):=by unfold V5;rw[zy b]
   unfold bQ at a;rw[hd,zy b]at a;exact b a
 rcases fw b d with h|⟨g,n,s0,s1,s2,i,j⟩
 ·exact absurd a h
 ·rw[s0];have e:=(ZK s1).2.1;rw[cS e.sm (λ_=>by omega),TW,UI];by_cases c:(eu g).2.2=0
  ·rw[zy c,zx (by simp[c])]
  ·rw[zx c,zy c];rfl
theorem gL{f:VT}(a:f.1.2.length<=20)(hc:VSt f.2->Uj f.2.1.2.flatten<=2000):Wn ((V5 f).1,(V5 f).1)=zo zt:=by
 unfold V5;split
 ·exact al (by simp[dl]) (.inl rfl)
 ·unfold eu;split
  ·exact al (by simp[dl]) (.inl rfl)
  ·exact al (by simp only;omega) (bL hc)
theorem gP{f:VT}(c:VSt f.2->Uj f.2.1.2.flatten<=60):Wn ((ZS f).1,(ZS f).1)=zo zt:=by
 unfold ZS;by_cases b:(bQ f).2.2=0;rotate_left
 ·rw[zy b];exact al (by simp[dl]) (.inl rfl)
 rw[zx (by simp[b])]
 have a:Ui f=0:=by
  by_cases a:Ui f=0
  ·exact a
  ·exfalso;have hd:V5 f=(dl,(0,Ui f)):=by unfold V5;rw[zy a]
   unfold bQ at b;rw[hd,zy a]at b;exact a b
 rcases fw a c with h|⟨g,n,s0,s1,s2,d,e⟩
 ·exact absurd b h
 rw[s0];simp only;split
 ·exact al (by simp[dl]) (.inl rfl)
 ·unfold eu;split
  ·exact al (by simp[dl]) (.inl rfl)
  ·exact al (by simp only;rw[s2];simp) (bL λ_=>by omega)
theorem tG(u:Unit):YP u=zo zt:=rfl
theorem settleDrains{f:VT}(h:∀ rs∈f.2.1.2,∀ r∈rs,r.2.length<=9223372036854775807):Vx f=zo zt:=by
 unfold Vx;rw[mz];obtain⟨b,e,d⟩:=tN f h;rw[e,TW,tG];cases b with
 |true=>rfl
 |false=>
  obtain⟨m,a,g⟩:=d rfl;have hc:VSt f.2->Uj f.2.1.2.flatten<=2000:=λv=>by have:=a v.lev;omega
  have c:VSt f.2->Uj f.2.1.2.flatten<=60:=λv=>by have:=a v.lev;omega
  rw[Sd,ma m hc,TW,dY m hc,TW,gL g hc,TW,U4,TB,UI,zy rfl,UI,zy rfl,md m c,TW,kS m c,TW,gP c,TW,TB,UD,zy rfl,UD,zy rfl];rfl
theorem gx{x:VT}(h:Rj [(zt,.pair (.pair (.int .i64) (.sl zt tE)) tJb)] x):Vx x=zo zt:=settleDrains (zG h.2)
end
end Go.Proofs.YtfceigpbgndbgaaGreatDoor.Pl
