/- Functions of the program and of the specification as plain functions, and laws about them. No condition. -/
import Derived.Test.YtfceigpbgndbgaaGreatDoorPl3
import Derived.KernelRfl
set_option linter.all false
open Option renaming some->zo, none->zn
open Bool renaming true->zt, false->zf
namespace Go.Proofs.YtfceigpbgndbgaaGreatDoor.Pl
section
open Go Sv
def sL(n:Nat)(s:UX):UX×(Int×Int):=if(Vg n s).2.2≠0 then(zS,(0,(Vg n s).2.2))else((Vg n s).1,(((Vg n s).2.1.length:Int),0))
abbrev zO:=Int×(List (List Uy)×(List Job×Int))
abbrev zN:=zO×((Int×Int)×(Int×(zO×Int)))
def vp(s:UX)(n m:Int):zN:=(zC s,((0,0),(n,(zC s,m))))
def DAt(s0:UX)(T:UX×(Nat×Int))(k n:Nat)(m:Int)(s:UX):Prop:=
 Gd s0 s/\n+k<=1100000/\T=((Vg k s).1,(n+(Vg k s).2.1.length,(Vg k s).2.2))/\((m=(k:Int)/\0<k)\/(m = -1-(n:Int)/\ZD 2000 s<k))
theorem DAt.pos{s0 s:UX}{T:UX×(Nat×Int)}{k n:Nat}{m:Int}(a:DAt s0 T k n m s):∃ b,k=b+1:=by
 obtain⟨_,_,_,h⟩:=a;exact⟨k-1,by omega⟩
theorem DAt.none{s0 s:UX}{T:UX×(Nat×Int)}{k n:Nat}{m:Int}(a:DAt s0 T k n m s)(e:Vz s=4):T=(s,(n,0)):=by
 obtain⟨b,rfl⟩:=a.pos;rw[a.2.2.1];simp[Vg,e]
theorem DAt.fail{s0 s:UX}{T:UX×(Nat×Int)}{k n:Nat}{m:Int}(a:DAt s0 T k n m s)(c:Vz s≠4)(b:Vz s≠0):T=(s,(n,Vz s)):=by
 obtain⟨d,rfl⟩:=a.pos;rw[a.2.2.1];simp[Vg,c,b]
theorem DAt.step{s0 s:UX}{T:UX×(Nat×Int)}{k n:Nat}{m:Int}(a:DAt s0 T k n m s)(e:Vz s=0) :
  (m-1=0/\T=(ZC s,(n+1,0)))\/(m-1≠0 /\ ∃ b,DAt s0 T b (n+1) (m-1) (ZC s)):=by
 obtain⟨b,rfl⟩:=a.pos;obtain⟨g,o,i,c⟩:=a;obtain⟨_,_,_,_,_,_,_,h⟩:=Ww g e;have p:=(bc g g.2.2 e).1
 have d:T=((Vg b (ZC s)).1,(n+1+(Vg b (ZC s)).2.1.length,(Vg b (ZC s)).2.2)):=by
  rw[i];simp[Vg,e];omega
 by_cases f:m-1=0
 ·refine .inl ⟨f,?_⟩;have l:b=0:=by omega
  rw[d,l];rfl
 ·refine .inr ⟨f,b,h,by omega,d,?_⟩;rcases c with⟨c,j⟩|⟨c,j⟩
  ·exact .inl ⟨by omega,by omega⟩
  ·exact .inr ⟨by omega,by omega⟩
def DEnd(T:UX×(Nat×Int))(r:Nat×(zN×Unit)):Prop:=
 (T.2.2=0/\(r.2.1.2.1.1=0\/r.2.1.2.1.1=1)/\r.2.1.2.2.1=(T.2.1:Int)/\r.2.1.2.2.2.1=zC T.1)\/(T.2.2≠0/\r.2.1.2.1=(2,T.2.2))
theorem DEnd.fin{T:UX×(Nat×Int)}{r:Nat×(zN×Unit)}(h:DEnd T r) :
  (br (O3 r.2.1.2.1.1 0) (λ_=>zo ((((r.2.1.2.2.2.1.1,r.2.1.2.2.2.1.2.1),r.2.1.2.2.2.1.2.2),(r.2.1.2.2.1,(0:Int))))) λ_=>br (O3 r.2.1.2.1.1 1) (λ_=>zo ((((r.2.1.2.2.2.1.1,r.2.1.2.2.2.1.2.1),r.2.1.2.2.2.1.2.2),(r.2.1.2.2.1,0)))) λ_=>zo ((((0,[]),([],0)),(0,r.2.1.2.1.2))))=zo (if T.2.2≠0 then(zS,(0,T.2.2))else(T.1,((T.2.1:Int),0))):=by
 rcases h with⟨a,h2,b,c⟩|⟨a,h2⟩
 ·rw[zx (by simp[a]),c,b,UD,UD];rcases h2 with h2|h2
  ·rw[zy h2];rfl
  ·rw[zx (by rw[h2];decide),zy h2];rfl
 ·rw[zy a,h2,UD,zx (show ¬ ((2:Int)=0) by decide),UD,zx (show ¬ ((2:Int)=1) by decide)];rfl
theorem vU{s0 s:UX}{T:UX×(Nat×Int)}{k:Nat}{m:Int}(i:m≠0)(a:DAt s0 T k 0 m s):Yq (s,m)=zo (if T.2.2≠0 then(zS,(0,T.2.2))else(T.1,((T.2.1:Int),0))):=by
 unfold Yq;rw[UD,zx i];refine qt (λc=>∃ k t n m,c=vp t (n:Nat) m/\DAt s0 T k n m t) (DEnd T) (λc=>ZD 2000 ((c.1.1,c.1.2.1),c.1.2.2)) ⟨k,s,0,m,rfl,a⟩ ?_ ?_ ?_
 ·show ZD 2000 s<_;have:=bI a.1.1;omega
 ·rintro c ⟨k,t,n,m,rfl,a⟩;have b:=a.1;have j:So .i64 (n:Int) 1=((n+1:Nat):Int):=Uh (by have:=a.2.1;omega);have hs:Ss .i64 m 1=m-1:=TG (by have:=a.2.1;have:=a.2.2.2;omega);rcases xd b with⟨e1,e2⟩|⟨e1,e2,e3,e4⟩|⟨e1,e2,e3⟩
  ·refine .inr ⟨(0,((zC t,((1,0),(vp t n m).2.2)),())),?_,.inl ⟨by rw[a.none e1],.inr rfl,by rw[a.none e1];rfl,by rw[a.none e1];rfl⟩⟩;show bd (Vp t) _=_;rw[(bH b).1,TW,UD,zy e2];rfl
  ·refine .inr ⟨(0,((((0,([],([],0))):zO),((2,Vz t),(vp t n m).2.2)),())),?_,.inr ⟨by rw[a.fail e1 e2];exact e2,by rw[a.fail e1 e2]⟩⟩;show bd (Vp t) _=_;rw[(bH b).1,TW,UD,zx e3,UD];rcases e4 with e4|⟨e4,e5⟩
   ·rw[zx (by rw[e4];exact e2),UI,zx (by rw[e4];exact e2),e4]
   ·rw[zy e4];show bd (Vd (t,(Va t).1)) _=_;rw[(fY b _).1,TW,UI,zx (by rw[e5];exact e2),e5]
  ·have o:=(bc b b.2.2 e1).1;have h:∀ {γ:Type} (x y:Unit->Option γ),br (O3 (Ss .i64 m 1) 0) x y=if m-1=0 then x ()else y ():=λx y=>by rw[hs,UD]
   have key:∀ {R},R=(if m-1=0 then zo (LR.dn (1,(vp (ZC t) ((n+1:Nat):Int) (m-1),())))else zo (LR.nx (vp (ZC t) ((n+1:Nat):Int) (m-1))))->(∃ s',R=zo (.nx s')/\(∃ k t n m,s'=vp t (n:Nat) m/\DAt s0 T k n m t)/\ZD 2000 ((s'.1.1,s'.1.2.1),s'.1.2.2)<ZD 2000 t)\/(∃ x,R=zo (.dn x)/\DEnd T x):=fun {R} e=>by
    rcases a.step e1 with⟨f,d⟩|⟨f,l,d⟩
    ·rw[zy f]at e;exact .inr ⟨_,e,.inl ⟨by rw[d],.inl rfl,by rw[d];rfl,by rw[d];rfl⟩⟩
    ·rw[zx f]at e;exact .inl ⟨_,e,⟨l,_,_,_,rfl,d⟩,by show ZD 2000 (ZC t)<_;omega⟩
   refine key ?_;show bd (Vp t) _=_;rw[(bH b).1,TW,UD,zx (by rw[e2];decide),UD,zy e2];show bd (Vd (t,(Va t).1)) _=_;rw[(fY b _).1,TW,UI,zy e3];refine(h _ _).trans ?_;rw[<- j,<- hs];rfl
 ·intro r g;rw[qu];split
  ·exact g.fin
  ·exact g.fin
theorem rT{s0 s:UX}(g:Gd s0 s):Yq (s,-1)=zo (sL (ZD 2000 s+1) s):=by
 have a:=bI g.1;have:=vU (s0:=s0) (s:=s) (T:=((Vg (ZD 2000 s+1) s).1,(0+(Vg (ZD 2000 s+1) s).2.1.length,(Vg (ZD 2000 s+1) s).2.2))) (k:=ZD 2000 s+1) (m:=-1) (by omega) ⟨g,by omega,rfl,.inr ⟨by omega,by omega⟩⟩;rw[this];simp only[Nat.zero_add];rfl
def U4(s:UX):UX×(Int×Int):=if(Ua s).2≠0 then(zS,(0,(Ua s).2))else sL (ZD 2000 s+1) s
theorem aw{s:UX}(m:Sm s)(hc:VSt s->Uj s.1.2.flatten<=2000):Vn s=zo (U4 s):=by
 unfold Vn U4;rw[sE m,TW,UI];by_cases a:(Ua s).2=0;rotate_left
 ·rw[zx a,zy a];rfl
 rw[zy a,zx (by simp[a])];have v:=Ue.1 a;rw[rT (s0:=s) ⟨v,rfl,hc v⟩];rfl
end
section
open Go Sv
def fH(s:UX):Int×Int:=if(Ua s).2≠0 then(0,(Ua s).2)else(((s.1.2.flatten.length*(Uj s.1.2.flatten+1):Nat):Int),0)
def fV(s:UX):Bool×Int:=if(Ua s).2≠0 then(zf,(Ua s).2)else(decide (Uf 0 s.1.2=[]),0)
theorem fq{s:UX}(m:Sm s):Yp s=zo (if(Ua s).2≠0 then(0,(0,(Ua s).2))else((Uj s.1.2.flatten:Int),((s.1.2.flatten.length:Int),0))):=by
 unfold Yp;rw[sE m,TW,UI];by_cases a:(Ua s).2=0;rotate_left
 ·rw[zx a,zy a]
 have v:=Ue.1 a;rw[zy a,zx (by simp[a]),ki _ m.lv m.rs,TW];unfold fo;rw[zx (by simp[XK v.lev])]
theorem fI{n c:Nat}(a:n<=24)(hc:c<=1000000):Sp .i64 (n:Int) (So .i64 (c:Int) 1)=((n*(c+1):Nat):Int):=by
 have h:n*(c+1)<=24*1000001:=Nat.mul_le_mul a (by omega);rw[Uh (by omega),TF]
 ·exact(Int.natCast_mul _ _).symm
 ·rw[<- Int.natCast_mul];omega
theorem ud{s:UX}(m:Sm s):Zq s=zo (fH s):=by
 unfold Zq fH;rw[fq m,TW,UI];by_cases a:(Ua s).2=0;rotate_left
 ·rw[zy a,zx a,zy a]
 have v:=Ue.1 a;have b:=ae v.lev;have c:=(ZY v.lev).2;rw[zx (show ¬ (Ua s).2≠0 by simp[a]),zx (show ¬ (Ua s).2≠0 by simp[a]),zy rfl,fI b (by omega)]
theorem fB{s:UX}(m:Sm s):Xc s=zo (fH s):=by
 unfold Xc fH;rw[vR m,TW,UI];by_cases a:(Ua s).2=0;rotate_left
 ·rw[zx a,zy a]
 have v:=Ue.1 a;have b:=ae v.lev;have c:=(ZY v.lev).2;rw[zy a,zx (show ¬ (Ua s).2≠0 by simp[a]),jU v.lev,TW,fI b (by omega)]
end
section
open Go Sv
end
section
open Go Sv
theorem ij{s:UX}(v:VSt s)(h:s.2.1=[]):Uf 0 s.1.2=[]:=by rw[<- v.due,h];rfl
theorem iw{s:UX}(v:VSt s)(h:s.2.1=[]){i:Nat}{rs:List Uy}(hi:s.1.2[i]?=zo rs):rs.length<=1:=by
 have c:=(v.lev.lev i rs hi).1;by_cases b:rs.length=2
 ·have a:=ad (ls:=s.1.2) (i:=0) (n:=i) (by unfold Ud;rw[hi];exact b);rw[ij v h]at a;cases a
 ·omega
end
section
open Go Sv
theorem HZ{f:VZ}(h:Uo f=0):(Ua f.2).2=0:=by
 unfold Uo at h;by_cases a:(Vs f.1).2=0
 ·rw[zx (show ¬ (Vs f.1).2≠0 by simp[a])]at h;by_cases b:(Ua f.2).2=0
  ·exact b
  ·rw[zy b]at h;exact absurd h b
 ·rw[zy a]at h;exact absurd h a
end
section
open Go Sv
theorem qz(f:VZ)(a:∀ rs∈f.2.1.2,∀ r∈rs,r.2.length<=9223372036854775807):∃ b,Zt f=zo b/\(b=zf->Sm f.2/\(VLev f.2.1->Uj f.2.1.2.flatten<=40)/\f.1.2.length<=20):=by
 unfold Zt;simp only[Ug,Uc]
 obtain⟨r,o,d⟩:=Zz (l:=f.1.2) (σ:=Unit) (s:=((0:Int),zf)) 25 (by omega) (λk _=>((k:Int),zf)) (λ_ _=>True) (λ(r:Nat×((Int×Bool)×Unit))=>r.1=1\/(r.1=0/\r.2.1.2=zt))
  (f:=λs0=>br (Tk s0.1 (f.1.2.length:Int)) (λ_=>br (Tk s0.1 25) (λ_=>SW s0.1 λm=>ix f.1.2 m λq=>br (Ti (NA q.1:Int) 100) (λ_=>zo (.dn ((0,((s0.1,zt),()))))) λ_=>SW s0.1 λn=>ix f.1.2 n λt=>br (Ti (NA t.2.1:Int) 100) (λ_=>zo (.dn ((0,((s0.1,zt),()))))) λ_=>zo (.nx (So .i64 s0.1 1,s0.2))) λ_=>zo (.dn ((1,(s0,()))))) λ_=>zo (.dn ((1,(s0,())))))
  () rfl trivial (λk _ h g _=>⟨_,(kz (c:=25) h g _ _ _ rfl),.inl rfl⟩) (λk x _ a g _=>by
   simp only;have i:=(List.getElem?_eq_some_iff.1 a).1;rw[rl i,TB,show Tk (k:Int) 25=zt from eY g,TB,UY,Tq a,UF,UY,Tq a,UF,Uh (by omega)]
   repeat' split
   all_goals first|exact .inr ⟨_,rfl,.inr ⟨rfl,rfl⟩⟩|exact .inl ⟨(),rfl,trivial⟩)
 rw[o,TW,TX];rcases d with d|⟨d,p⟩
 ·rw[zx (show ¬ r.1=0 by omega)];obtain⟨b,e,j⟩:=lB f.2 a;rw[e,TW];cases b with
  |true=>exact⟨_,rfl,λh=>by cases h⟩
  |false=>
   refine⟨_,rfl,λh=>⟨(j rfl).1,(j rfl).2,?_⟩⟩;unfold Ti at h;simp at h;omega
 ·rw[zy d,p];exact⟨_,rfl,λh=>by cases h⟩
theorem lC:Zs=Zt:=rfl
theorem gW{f g:Nat->Nat}{n:Nat}(a:f n<=g n+1):∀ {m:Nat},(∀ i,i<m->i≠n->f i<=g i)->Vj f m<=Vj g m+1
 |0,_=>Nat.zero_le _
 |m+1,h=>by
  show Vj f m+f m<=Vj g m+g m+1;by_cases e:n=m
  ·subst e;have:=bM (f:=g) (g:=f) (m:=n) λi hi=>h i (by omega) (by omega);omega
  ·have:=gW a (m:=m) λi hi=>h i (by omega);have:=h m (by omega) (λx=>e x.symm);omega
theorem lA{s t:UX}{n:Nat}{j:Job}{b:Bool}(v:VSt s)(z:VSt t)(q:JobAt s.1 n j)(F:StepF s n j t b):ab s<=ab t+1:=by
 obtain⟨x,y,w,C,B,a⟩:=q.rd;have hc:Uj (Ud s.1.2 n)=x.2.length+y.2.length:=by rw[w,Vt,Vt];simp[Uj]
 rw[eG v,eG z];by_cases g:0<Un s.1 j
 ·obtain⟨_,h,_,k⟩:=F.read g;refine gW (n:=n) ?_ λi _ hi=> ?_
  ·unfold dA;rw[k n,zy rfl,F.job,h];simp only;rw[a g,hc];omega
  ·unfold dA;rw[k i,zx hi,h];exact Nat.le_refl _
 ·obtain⟨A,_,_,m,o,p⟩:=F.inst (by omega)
  have u:dA s n=1:=by
   unfold dA;rw[F.job];simp only;rw[hc];omega
  refine gW (n:=n) (by omega) λi _ hi=> ?_;by_cases d:(Ud s.1.2 i).length=2
  ·have r:Ud t.1.2 i=Ud s.1.2 i:=by
    rw[m,zx hi];by_cases c:VU j≠[]/\i=ZT s j
    ·exfalso;have l:=o.resolve_left (λe=>hi (by rw[c.2,e]));have:=l.2.2 c.1;rw[<- l.1,<- c.2]at this;omega
    ·rw[zx c]
   refine Nat.le_of_eq ?_;unfold dA;rw[p i,r,zy d,zx hi];obtain⟨j',f⟩:=v.hasJob d;rw[f];rfl
  ·unfold dA;rw[v.noJob d];exact Nat.zero_le _
theorem dG{s0:UX}:∀ {n:Nat} {s:UX},Gd s0 s->ab s<=(Vg n s).2.1.length+ab (Vg n s).1
 |0,s,g=>by simp[Vg]
 |n+1,s,g=>by
  unfold Vg;by_cases c:Vz s=4
  ·rw[zy c];simp
  ·rw[zx c];by_cases a:Vz s=0
   ·rw[zx (by simp[a])];obtain⟨_,_,_,_,d,_,F,b⟩:=Ww g a;have e:=lA g.1 b.1 d F;have f:=dG (n:=n) b;simp only[List.length_cons];omega
   ·rw[zy a];simp
theorem xc{s0 s:UX}(g:Gd s0 s)(e:Vz s=0):(ZC s).1.1=s.1.1:=by
 obtain⟨_,_,_,_,c,_,F,b⟩:=Ww g e;rename_i n j _ _ _;by_cases a:0<Un s.1 j
 ·rw[(F.read a).2.1]
 ·rw[(F.inst (by omega)).2.1];unfold WN;split<;>rfl
theorem lu{s0:UX}:∀ {n:Nat} {s:UX},Gd s0 s->(Vg n s).1.1.1=s.1.1
 |0,s,g=>rfl
 |n+1,s,g=>by
  unfold Vg;by_cases b:Vz s=4
  ·rw[zy b]
  ·rw[zx b];by_cases a:Vz s=0
   ·rw[zx (by simp[a])];obtain⟨_,_,_,_,_,_,_,c⟩:=Ww g a;exact(lu (n:=n) c).trans (xc g a)
   ·rw[zy a]
def iZ:VZ:=((0,[]),zS)
def dV(f:VZ):VZ×(Int×Int):=if(U4 f.2).2.2≠0 then(iZ,(0,(U4 f.2).2.2))else((f.1,(U4 f.2).1),((U4 f.2).2.1,0))
def Wg(f:VZ):VZ×(Int×Int):=if Uo f≠0 then(iZ,(0,Uo f))else dV f
theorem cZ{s:UX}(hc:VSt s->Uj s.1.2.flatten<=2000):∃ n:Nat,(U4 s).2.1=(n:Int)/\n<=60000:=by
 unfold U4;by_cases h:(Ua s).2=0
 ·rw[zx (by simp[h])];have v:=Ue.1 h;have l:=(ZR (n:=ZD 2000 s+1) (N:=2000) (s0:=s) ⟨v,rfl,hc v⟩ (hc v)).1;have:=bI v;unfold sL;split
  ·exact⟨0,rfl,by omega⟩
  ·exact⟨_,rfl,by omega⟩
 ·rw[zy h];exact⟨0,rfl,by omega⟩
theorem dy{f:VZ}(m:Sm f.2)(hc:VSt f.2->Uj f.2.1.2.flatten<=2000):W4 f=zo (Wg f):=by
 unfold W4 Wg dV;rw[bz m,TW,UI];by_cases a:Uo f=0;rotate_left
 ·rw[zx a,zy a];rfl
 obtain⟨n,c,d⟩:=cZ hc;rw[zy a,zx (show ¬ Uo f≠0 by simp[a]),aw m hc,TW,UD,UD,UI,UI,UD];have hi:So .i64 0 (U4 f.2).2.1=(U4 f.2).2.1:=by rw[c,TE (by omega)];omega
 by_cases b:(U4 f.2).2.2=0
 ·simp only[b,if_true,hi,ne_eq,not_true_eq_false,if_false]
 ·simp only[b,if_false,ne_eq,not_false_eq_true,if_true];rfl
theorem ft{f:VZ}(a:Uo f=0)(l:Uj f.2.1.2.flatten<=60)(c:(U4 f.2).2.2=0) :
  ∃ (t:UX) (n:Nat),U4 f.2=(t,((n:Int),0))/\Gd f.2 t/\Uj t.1.2.flatten<=60/\t.2.1=[]/\n<=f.2.1.2.flatten.length*(Uj f.2.1.2.flatten+1)/\ab f.2<=n/\Uo (f.1,t)=0/\t.1.1=f.2.1.1/\U4 t=(t,(0,0)):=by
 have e:=HZ a;have v:=Ue.1 e;have G:Gd f.2 f.2:=⟨v,rfl,by omega⟩
 have i:(Vg (ZD 2000 f.2+1) f.2).2.2=0:=by
  unfold U4 sL at c;rw[zx (by simp[e])]at c;by_cases h:(Vg (ZD 2000 f.2+1) f.2).2.2=0
  ·exact h
  ·rw[zy h]at c;exact absurd c h
 have p:=lT (Uj f.2.1.2.flatten) v;have o:=ZR (n:=ZD 2000 f.2+1) (N:=Uj f.2.1.2.flatten) G (Nat.le_refl _);have g:=ZR (n:=ZD 2000 f.2+1) (N:=60) G l;have hd:=ja (N:=2000) (R:=ZD 2000 f.2+1) G (by omega) (by omega) i;have j:=lu (n:=ZD 2000 f.2+1) G;have m:=dG (n:=ZD 2000 f.2+1) G;have b:=g.2.2.1.1
 have k:ab (Vg (ZD 2000 f.2+1) f.2).1=0:=by
  unfold ab;rw[ij b hd];rfl
 refine⟨(Vg (ZD 2000 f.2+1) f.2).1,(Vg (ZD 2000 f.2+1) f.2).2.1.length,?_,g.2.2.1,g.2.2.2.1,hd,by omega,by omega,?_,j,?_⟩
 ·unfold U4 sL;rw[zx (by simp[e]),zx (by simp[i])]
 ·unfold Uo at a ⊢;by_cases d:(Vs f.1).2=0;rotate_left
  ·rw[zy d]at a;exact absurd a d
  rw[zx (by simp[d]),zx (by simp[e])]at a;rw[zx (by simp[d]),zx (by simp[Ue.2 b])];show(if f.1.1≠(Vg (ZD 2000 f.2+1) f.2).1.1.1 then(6:Int)else 0)=0
  rw[j];exact a
 ·unfold U4 sL;rw[zx (by simp[Ue.2 b]),lw b hd,zx (by simp)];rfl
end
section
open Go Sv
end
section
open Go Sv
structure WrI (most:Nat) (l:List UZ) (R:List UZ):Prop where
 asc:Asc zn l
 le:l.length<=most
 len:R.length=most+1
 row:R.take l.length=l
end
section
open Go Sv
structure Bf (b:Uy):Prop where
 m1:1<=b.1
 m2:b.1<=16
 len:(b.2.length:Int)<=b.1
 ok:∀ x∈b.2,kE x=0
 asc:Asc zn b.2
theorem kr{b:Uy}(h:(Vs b).2=0):Bf b:=by
 unfold Vs at h;by_cases a:b.1<1\/b.1>16
 ·rw[zy a]at h;cases h
 rw[zx a]at h;by_cases c:(b.2.length:Int)>b.1
 ·rw[zy c]at h;cases h
 rw[zx c]at h;obtain⟨d,e⟩:=aa.1 h;exact⟨by omega,by omega,by omega,d,e⟩
end
section
open Go Sv
end
section
open Go Sv
theorem YI{f:VZ}(h:Uo f=0):(Vs f.1).2=0/\VSt f.2/\f.1.1=f.2.1.1:=by
 have c:=HZ h;unfold Uo at h;by_cases a:(Vs f.1).2=0;rotate_left
 ·rw[zy a]at h;exact absurd h a
 rw[zx (by simp[a]),zx (by simp[c])]at h;refine⟨a,Ue.1 c,?_⟩;by_cases b:f.1.1=f.2.1.1
 ·exact b
 ·rw[zy b]at h;cases h
def zF:VZ:=((0,[]),zS)
def cA(f:VZ):Bool:=decide (2<=(Ud f.2.1.2 0).length)
theorem rR{f:VZ}(v:VLev f.2.1):V5 (f.2.1,(0:Int))=zo (Hl (cA f),0):=by
 have b:=(v.own 0).1;have h:=bE v (n:=0) (by omega);rw[zx (by omega)]at h;refine h.trans ?_
 congr 2
 unfold Yu cA;rw[Vm];have a:((f.2.1.2[0]?).getD []).length=(Ud f.2.1.2 0).length:=rfl;rw[a];exact decide_eq_decide.2 (by omega)
theorem un{γ:Type}{f:VZ}(m:Sm f.2)(Z:Int->Option γ)(C:Option γ) :
  (bd (WV f.1) λd=>br (SS d.2 0) (λ_=>Z d.2) λ_=>bd (VP f.2) λg=>br (SS g.2 0) (λ_=>Z g.2) λ_=>br (SS f.1.1 f.2.1.1) (λ_=>Z 6) λ_=>C)=if Uo f≠0 then Z (Uo f)else C:=by
 rw[bu,TW,UI];by_cases a:(Vs f.1).2=0;rotate_left
 ·have e:Uo f=(Vs f.1).2:=by unfold Uo;rw[zy a]
  rw[zx a,e,zy a]
 rw[zy a,sE m,TW,UI];by_cases b:(Ua f.2).2=0;rotate_left
 ·have e:Uo f=(Ua f.2).2:=by unfold Uo;rw[zx (show ¬ (Vs f.1).2≠0 by simp[a]),zy b]
  rw[zx b,e,zy b]
 rw[zy b,UI];by_cases c:f.1.1=f.2.1.1;rotate_left
 ·have e:Uo f=6:=by unfold Uo;rw[zx (show ¬ (Vs f.1).2≠0 by simp[a]),zx (show ¬ (Ua f.2).2≠0 by simp[b]),zy c]
  rw[zx c,e,zy (by decide)]
 have e:Uo f=0:=by unfold Uo;rw[zx (show ¬ (Vs f.1).2≠0 by simp[a]),zx (show ¬ (Ua f.2).2≠0 by simp[b]),zx (show ¬ f.1.1≠f.2.1.1 by simp[c])]
 rw[zy c,e,zx (by simp)]
theorem ly{f:VZ}(b:f.1.2.length<=1000000)(a:f.2=zS\/VSt f.2):X2 (f,f)=zo zt:=by
 unfold X2 ZZ;rw[UD,zy rfl,ao f.1.2 (by omega),TW,TW,TB,jf a];rfl
end
section
open Go Sv
def V9(f:VZ):VZ×Int:=
 if Uo f≠0 then(zF,Uo f)
 else if f.1.2.length=0 then(f,0)
 else if cA f=zt then(zF,10)
 else if(cf f.2 f.1.2).2≠0 then(zF,(cf f.2 f.1.2).2)
 else(((f.1.1,[]),(cf f.2 f.1.2).1),0)
theorem fy{f:VZ}(h:Uo f=0):f.1.2.length<=16:=by
 have a:=kr (YI h).1;have:=a.len;have:=a.m2;omega
theorem qo{f:VZ}(m:Sm f.2):Wl f=zo (V9 f):=by
 unfold Wl V9;refine(un m (λe=>zo (zF,e)) _).trans ?_;by_cases h:Uo f=0;rotate_left
 ·rw[zy h,zy h]
 rw[zx (by simp[h]),zx (by simp[h])];have v:=(YI h).2.1;have d:=fy h;simp only[Ug,Uc];rw[UD];by_cases b:f.1.2.length=0
 ·rw[zy (by omega),zy b];rfl
 rw[zx (by omega),zx b,rR v.lev,TW];simp only;rw[UI,zy rfl];cases c:cA f with
 |true=>rw[ZV,ks,TB,zy rfl];rfl
 |false=>
  rw[ks,ZV,Sd,zx (show ¬ zf=zt by decide),jB m (by omega),TW,UI];by_cases a:(cf f.2 f.1.2).2=0
  ·rw[zy a,zx (by simp[a])];rfl
  ·rw[zx a,zy a];rfl
end
section
open Go Sv
def kN(k:Nat):YA:=[126,110,101,119,UInt8.ofNat (97+k / 26),UInt8.ofNat (97+k % 26)]
def xY(k:YA):Prop:=¬ (4<=k.length/\Tz k 0 4=[126,110,101,119])
def ww(f:VZ):Int:=f.1.1-(f.1.2.length:Int)+f.1.1*(2-((Ud f.2.1.2 0).length:Int))
structure FI (n k:Nat) (f:VZ):Prop where
 fr:Uo f=0
 nx:f.2.2.2<=900000+(k:Int)
 key:∀ y∈f.1.2,xY y.1 \/ ∃ j<k,y.1=kN j
 val:(k:Int)+ww f=(n:Int)
theorem wo{b:Uy}(h:Bf b):(Vs b).2=0:=by
 unfold Vs;have:=h.m1;have:=h.m2;have:=h.len;rw[zx (by omega),zx (by omega)];exact aa.2 ⟨h.ok,h.asc⟩
theorem wv{f:VZ}(a:Bf f.1)(b:VSt f.2)(c:f.1.1=f.2.1.1):Uo f=0:=by
 unfold Uo;rw[zx (by simp[wo a]),zx (by simp[Ue.2 b]),zx (by simp[c])]
end
section
open Go Sv
abbrev FrS:=(Int×(Bool×(Int×((List UZ)×(Int×((List (List Uy))×((List Job)×Int)))))))
def mkF(k:Nat)(f:VZ):FrS:=((k:Int),(zf,(f.1.1,(f.1.2,(f.2.1.1,(f.2.1.2,f.2.2))))))
end
section
open Go Sv
end
section
open Go Sv
end
section
open Go Sv
structure Srt (R T:List UZ):Prop where
 len:T.length=R.length
 asc:Asc zn T
 mem:∀ y,y∈T<->y∈R
def later(o:List UZ)(y:UZ):Prop:=∀ z,o.getLast?=zo z->S4 z.1 y.1=zt
structure Best (R o:List UZ) (c:Nat) (y:UZ):Prop where
 at':R[c]?=zo y
 lt:later o y
def BInv(R o:List UZ)(i:Nat)(b:Int):Prop:=
 (b = -1 /\ ∀ j<i,∀ y,R[j]?=zo y -> ¬ later o y) \/ ∃ (c:Nat) (y:UZ),b=(c:Int)/\c<i/\R[c]?=zo y/\later o y /\ ∀ j<i,∀ z,R[j]?=zo z->later o z->S4 z.1 y.1=zf
theorem BInv.first{R o:List UZ}{i:Nat}{x:UZ}(h:BInv R o i (-1))(d:R[i]?=zo x)(g:later o x):BInv R o (i+1) (i:Int):=by
 rcases h with⟨_,f⟩|⟨c,y,k,_⟩
 ·refine .inr ⟨i,x,rfl,by omega,d,g,λj l z b a=> ?_⟩;by_cases e:j=i
  ·subst e;rw[d]at b;cases b;exact Xj _
  ·exact absurd a (f j (by omega) z b)
 ·omega
theorem BInv.stay{R o:List UZ}{i c:Nat}{x y:UZ}(h:BInv R o i (c:Int))(n:R[i]?=zo x)(f:R[c]?=zo y)(hs:S4 x.1 y.1=zf):BInv R o (i+1) (c:Int):=by
 rcases h with⟨k,_⟩|⟨g,r,k,p,d,l,m⟩
 ·omega
 ·obtain rfl:c=g:=by omega
  rw[f]at d;cases d;refine .inr ⟨c,y,rfl,by omega,f,l,λj q z b a=> ?_⟩;by_cases e:j=i
  ·subst e;rw[n]at b;cases b;exact hs
  ·exact m j (by omega) z b a
end
section
open Go Sv
end
section
open Go Sv
end
section
open Go Sv
def cp(f:VZ):VZ×(Int×Int):=
 if(Wg f).2.2≠0 then(iZ,(0,(Wg f).2.2))else if(V9 (Wg f).1).2≠0 then(iZ,(0,(V9 (Wg f).1).2))else((V9 (Wg f).1).1,((Wg f).2.1,0))
def Xe(f:VZ):VZ×(Int×Int):=
 if(cp f).2.2≠0 then(iZ,(0,(cp f).2.2))else if(dV (cp f).1).2.2≠0 then(iZ,(0,(dV (cp f).1).2.2))else((dV (cp f).1).1,(So .i64 (cp f).2.1 (dV (cp f).1).2.1,0))
theorem cY{f:VZ}(k:Uo f=0) :
  (f.1.2=[]/\V9 f=(f,0))\/(f.1.2≠[]/\(Ud f.2.1.2 0).length=2/\(V9 f).2=10)\/(f.1.2≠[]/\(Ud f.2.1.2 0).length<2/\f.2.2.2>1000000/\(V9 f).2=5) \/
  (f.1.2≠[]/\(Ud f.2.1.2 0).length<2/\f.2.2.2<=1000000/\kR [] (VJ f.2.1.1 0) (f.2.2.2,f.1.2)=0/\V9 f=(((f.1.1,[]),Yy f.2 (bp f.2 f.1.2) (f.2.2.2+1) (-1)),0)):=by
 obtain⟨m,v,n⟩:=YI k;have g:=kr m;have p:=g.m1;have q:=g.len;have o:=(v.lev.own 0).1;unfold V9;rw[zx (by simp[k])];by_cases d:f.1.2.length=0
 ·rw[zy d];exact .inl ⟨List.length_eq_zero_iff.1 d,rfl⟩
 have b:f.1.2≠[]:=λe=>d (by rw[e];rfl);rw[zx d];by_cases c:cA f=zt
 ·rw[zy c];refine .inr (.inl ⟨b,?_,rfl⟩);unfold cA at c;simp at c;omega
 rw[zx c]
 have i:(Ud f.2.1.2 0).length<2:=by
  unfold cA at c;simpa using c
 by_cases l:f.2.2.2>1000000
 ·refine .inr (.inr (.inl ⟨b,i,l,?_⟩))
  have a:cf f.2 f.1.2=(zS,5):=by
   unfold cf;rw[zx (by simp[Ue.2 v]),zy (.inl l)]
  rw[a,zy (by simp)]
 have j:VL f.1.2:=⟨by have:=g.m2;omega,g.ok,g.asc⟩
 have h:kR [] (VJ f.2.1.1 0) (f.2.2.2,f.1.2)=0:=by
  rw[wz v (by omega),zx (by simp[ZF.2 j]),zx d,zx (by unfold VJ;rw[<- n];simp;omega)]
 have a:cf f.2 f.1.2=(Yy f.2 (bp f.2 f.1.2) (f.2.2.2+1) (-1),0):=by
  unfold cf;rw[zx (by simp[Ue.2 v]),zx (by omega),zx (by simp[ZF.2 j]),zx (by simp[h])]
 refine .inr (.inr (.inr ⟨b,i,by omega,h,?_⟩));rw[a,zx (by simp)]
theorem dH{f:VZ}(c:Uo f=0)(h:(V9 f).2=0) :
  Uo (V9 f).1=0/\(V9 f).1.1=(f.1.1,[])/\Uj (V9 f).1.2.1.2.flatten<=Uj f.2.1.2.flatten+f.1.2.length:=by
 obtain⟨r,v,s⟩:=YI c;have i:=kr r;have n:=i.m1;have o:=i.m2;rcases cY c with⟨l,a⟩|⟨_,_,a⟩|⟨_,_,_,a⟩|⟨_,g,m,e,a⟩
 ·rw[a];refine⟨c,?_,by simp⟩;show f.1=(f.1.1,[]);rw[<- l]
 ·rw[a]at h;cases h
 ·rw[a]at h;cases h
 ·rw[a];have d:Bf (f.1.1,([]:List UZ)):=⟨n,o,by simp only[List.length_nil];omega,by simp,trivial⟩;refine⟨wv d (qp v g e m) s,rfl,?_⟩;show Uj (bp f.2 f.1.2).2.flatten<=_;obtain⟨p,q,j,k⟩:=YE f.2.1 0 (Ud f.2.1.2 0++[(f.2.2.2,f.1.2)]);have b:(bp f.2 f.1.2).2.flatten=p++(Ud f.2.1.2 0++[(f.2.2.2,f.1.2)]++q):=k;rw[j,b,VT,VT,VT,VT,VT,Vt];simp only[Uj,List.map_nil,List.sum_nil];omega
theorem ac{f:VZ}(b:Uo f=0)(e:VSt f.2->Uj f.2.1.2.flatten<=60) :
  ((U4 f.2).2.2≠0/\Wg f=(iZ,(0,(U4 f.2).2.2))) \/
  ∃ (t:UX) (n:Nat),U4 f.2=(t,((n:Int),0))/\Wg f=((f.1,t),((n:Int),0))/\VSt t/\Uj t.1.2.flatten<=60/\t.2.1=[]/\n<=f.2.1.2.flatten.length*(Uj f.2.1.2.flatten+1)/\n<=60000/\Uo (f.1,t)=0/\U4 t=(t,(0,0)):=by
 have v:=(YI b).2.1;have hc:VSt f.2->Uj f.2.1.2.flatten<=2000:=λv=>by have:=e v;omega
 obtain⟨n0,a,g⟩:=cZ hc;by_cases c:(U4 f.2).2.2=0;rotate_left
 ·refine .inl ⟨c,?_⟩;unfold Wg dV;rw[zx (by simp[b]),zy c]
 ·obtain⟨t,n,d,h,i,j,k,o,l,p,m⟩:=ft b (e v) c;refine .inr ⟨t,n,d,?_,h.1,i,j,k,?_,l,m⟩
  ·unfold Wg dV;rw[zx (by simp[b]),zx (by simp[c]),d]
  ·rw[d]at a;have:(n:Int)=n0:=a;omega
theorem dz{f:VZ}(m:Sm f.2)(g:VSt f.2->Uj f.2.1.2.flatten<=60):W5 f=zo (Xe f):=by
 have hc:VSt f.2->Uj f.2.1.2.flatten<=2000:=λv=>by have:=g v;omega
 unfold W5;rw[bz m,TW,UI];by_cases b:Uo f=0;rotate_left
 ·rw[zx b];have hd:Wg f=(iZ,(0,Uo f)):=by unfold Wg;rw[zy b]
  have hs:cp f=(iZ,(0,Uo f)):=by unfold cp;rw[hd,zy b]
  unfold Xe;rw[hs,zy b];rfl
 rw[zy b,aw m hc,TW];rcases ac b g with⟨d,i⟩|⟨t,n,j,h,k,r,s,u,w,l,x⟩
 ·have hs:cp f=(iZ,(0,(U4 f.2).2.2)):=by unfold cp;rw[i,zy d]
  rw[UD,zx d,UD,zx d,UI,zx d];unfold Xe;rw[hs,zy d];rfl
 ·rw[j];simp only;have hi:So .i64 0 (n:Int)=(n:Int):=by rw[TE (by omega)];omega
  rw[UD,zy rfl,UD,zy rfl,qo k.sm,TW,UD];by_cases hs:(V9 (f.1,t)).2=0;rotate_left
  ·have c:cp f=(iZ,(0,(V9 (f.1,t)).2)):=by
    unfold cp;rw[h];simp only;rw[zx (by simp),zy hs]
   rw[zx hs,UD,zx hs,UI,zx hs];unfold Xe;rw[c,zy hs];rfl
  ·obtain⟨s1,s2,o⟩:=dH l hs;have q:=fy b;simp only at o
   have c:cp f=((V9 (f.1,t)).1,((n:Int),0)):=by
    unfold cp;rw[h];simp only;rw[zx (by simp),zx (by simp[hs])]
   have p:=(YI s1).2.1;have e:VSt (V9 (f.1,t)).1.2->Uj (V9 (f.1,t)).1.2.1.2.flatten<=2000:=λ_=>by omega
   rw[zy hs,UD,zy hs,aw p.sm e,TW];unfold Xe;rw[c];simp only;rw[zx (show ¬ (0:Int)≠0 by simp)];by_cases a:(U4 (V9 (f.1,t)).1.2).2.2=0
   ·have hd:dV (V9 (f.1,t)).1=(((V9 (f.1,t)).1.1,(U4 (V9 (f.1,t)).1.2).1),((U4 (V9 (f.1,t)).1.2).2.1,0)):=by
     unfold dV;rw[zx (by simp[a])]
    rw[UD,zy a,UD,zy a,UI,zy a,hd,zx (by simp),hi]
   ·have hd:dV (V9 (f.1,t)).1=(iZ,(0,(U4 (V9 (f.1,t)).1.2).2.2)):=by
     unfold dV;rw[zy a]
    rw[UD,zx a,UD,zx a,UI,zx a,hd,zy a];rfl
theorem qq(u:Unit):Wn u=zo zt:=rfl
end
end Go.Proofs.YtfceigpbgndbgaaGreatDoor.Pl
