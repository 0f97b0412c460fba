/- Functions of the program and of the specification as plain functions, and laws about them. No condition. -/
import Derived.Test.YtiehjicadcamiaaGreatPl2
import Derived.KernelRfl
set_option linter.all false
open List renaming find?_cons->ed, getElem?_eq_some_iff->aa, getElem?_of_mem->bf, length_cons->ae, map_cons->oj, mem_cons->bl, mem_map_of_mem->hG, mem_of_getElem?->ad, mem_of_mem_take->hU, nodup_cons->ll, take_add_one->hV
open Nat renaming add_comm->xw, le_refl->a9, le_trans->x6, zero_add->cP
open Int renaming toNat_natCast->ac
open Option renaming filter->ns, none_or->xa, or_assoc->ey
open UInt8 renaming ofNat->xr
open Option renaming some->zo, none->zn
open Bool renaming true->zt, false->zf
namespace Go.Proofs.YtiehjicadcamiaaGreat.Pl
section
open Go Sv
def Z5(f:Nat->Option UD):Nat->Nat->Option UD
 |_,0=>zn
 |i,m+1=>(f i).or (Z5 f (i+1) m)
theorem gu(f:Nat->Option UD):∀ (m i:Nat),Z5 f (i+1) m=Z5 (λj=>f (j+1)) i m
 |0,_=>rfl
 |m+1,i=>by
  show(f (i+1)).or (Z5 f (i+1+1) m)=(f (i+1)).or (Z5 (λj=>f (j+1)) (i+1) m);rw[gu f m (i+1)]
theorem Yn{f g:Nat->Option UD}:∀ (m i:Nat),(∀ j,i<=j->j<i+m->f j=g j)->Z5 f i m=Z5 g i m
 |0,_,_=>rfl
 |m+1,i,h=>by
  show(f i).or (Z5 f (i+1) m)=(g i).or (Z5 g (i+1) m);rw[h i (by omega) (by omega),Yn m (i+1) λj a b=>h j (by omega) (by omega)]
theorem cY:∀ (m i:Nat),Z5 (λ_=>zn) i m=zn
 |0,_=>rfl
 |m+1,i=>by show(zn:Option UD).or _=_;rw[xa];exact cY m (i+1)
theorem bB(f:Nat->Option UD):∀ (p i q:Nat),Z5 f i (p+q)=(Z5 f i p).or (Z5 f (i+p) q)
 |0,i,q=>by rw[cP];rfl
 |p+1,i,q=>by
  rw[show p+1+q=(p+q)+1 by omega];show(f i).or (Z5 f (i+1) (p+q))=((f i).or (Z5 f (i+1) p)).or (Z5 f (i+(p+1)) q);rw[bB f p (i+1) q,ey,show i+1+p=i+(p+1) by omega]
theorem aN(k:XZ):∀ (ls:List (List UX)) (K:Nat),ls.length<=K->Vn (VQ ls) k=Z5 (λj=>Vn (UJ ls j).reverse k) 0 K
 |[],K,_=>by
  have:(λj=>Vn (UJ [] j).reverse k)=λ_=>zn:=by
   funext j;have:UJ [] j=[]:=rfl
   rw[this];rfl
  rw[this,cY];rfl
 |rs::ls,0,h=>by simp at h
 |rs::ls,K+1,h=>by
  have e:VQ (rs::ls)=rs.reverse++VQ ls:=rfl;rw[e,dU,aN k ls K (by simpa using h)];show _=(Vn (UJ (rs::ls) 0).reverse k).or (Z5 (λj=>Vn (UJ (rs::ls) j).reverse k) (0+1) K);rw[gu];rfl
theorem iO{s:UC}(v:VSt s)(C:jq s.1){n:Nat}{j:Job}(r:JobAt s.1 n j)(E:¬ 0<Ua s.1 j)(hc:WV s.1 j=zt)(G:VA j≠[]->s.2.2<=1000000):LK (V0 s j)=LK s.1:=by
 have F:=gq v C r E hc G;obtain⟨W,X,L,Y,Z⟩:=r.out v.lev (C n);have d:j.1.toNat=n:=by rw[L];simp
 obtain⟨b,c,q,m,B,f,P,t,M,N⟩:=r;have K:=Ya.1 B
 have O:Ua s.1 j=c.2.length+b.2.length-m:=by
  rw[f];unfold Ua;simp only[ac,B];show c.2.length+b.2.length-((m:Int)).toNat=_;rw[ac]
 have u:m=c.2.length+b.2.length:=by omega
 subst u
 have p:∀ k,Uy (VA j) k=((Uy c.2 k).or (Uy b.2 k)).filter λx=> !(q&&x.2.2.1):=λk=>by
  rw[f];exact pn N M q k
 refine kD λk=> ?_;have S:=F.lev.len;have U:=v.lev.len;rw[aN k _ 14 (by omega),aN k _ 14 (by omega)];rw[show 14=n+(1+(13-n)) by omega,bB,bB _ n 0];have w:Ys s j=n\/Ys s j=n+1:=by unfold Ys;rw[d];split<;>omega
 have l:Z5 (λi=>Vn (UJ (V0 s j).2 i).reverse k) 0 n=Z5 (λi=>Vn (UJ s.1.2 i).reverse k) 0 n:=Yn _ _ λi _ hi=>by
  rw[WK d,zx (by rintro⟨_,h⟩;omega),zx (by omega)]
 rw[l];generalize Z5 (λi=>Vn (UJ s.1.2 i).reverse k) 0 n=A
 have y:Z5 (λi=>Vn (UJ (V0 s j).2 i).reverse k) (0+n) (1+(13-n))=(Uy (VA j) k).or (Z5 (λi=>Vn (UJ s.1.2 i).reverse k) (n+1) (13-n)):=by
  rw[cP,xw 1];show(Vn (UJ (V0 s j).2 n).reverse k).or (Z5 (λi=>Vn (UJ (V0 s j).2 i).reverse k) (n+1) (13-n))=_;by_cases a:VA j=[]
  ·rw[WK d,zx (by simp[a]),zy rfl,a];refine congrArg _ (Yn _ _ λi hi _=> ?_);rw[WK d,zx (by simp[a]),zx (by omega)]
  ·rcases w with ht|ht
   ·rw[WK d,zy ⟨a,ht.symm⟩,zy rfl]
    have e:Vn (([]:List UX)++[(s.2.2,VA j)]).reverse k=Uy (VA j) k:=by
     show(Uy (VA j) k).or zn=_;cases Uy (VA j) k<;>rfl
    rw[e];refine congrArg _ (Yn _ _ λi hi _=> ?_);rw[WK d,zx (by rintro⟨_,h⟩;omega),zx (by omega)]
   ·rw[WK d,zx (by rintro⟨_,h⟩;omega),zy rfl];have D:=F.to12 a;rw[show 13-n=(12-n)+1 by omega];show(zn:Option UD).or ((Vn (UJ (V0 s j).2 (n+1)).reverse k).or (Z5 _ (n+1+1) (12-n)))=(Uy (VA j) k).or ((Vn (UJ s.1.2 (n+1)).reverse k).or (Z5 _ (n+1+1) (12-n)));rw[WK d,zy ⟨a,ht.symm⟩,zx (by omega),List.reverse_append,xa];have e:Vn ([(s.2.2,VA j)].reverse++(UJ s.1.2 (n+1)).reverse) k=(Uy (VA j) k).or (Vn (UJ s.1.2 (n+1)).reverse k):=rfl;rw[e,ey];refine congrArg _ (congrArg _ (Yn _ _ λi hi _=> ?_));rw[WK d,zx (by rintro⟨_,h⟩;omega),zx (by omega)]
 have o:Z5 (λi=>Vn (UJ s.1.2 i).reverse k) (0+n) (1+(13-n))=((Uy c.2 k).or (Uy b.2 k)).or (Z5 (λi=>Vn (UJ s.1.2 i).reverse k) (n+1) (13-n)):=by
  rw[cP,xw 1];show(Vn (UJ s.1.2 n).reverse k).or _=_;rw[K];refine congrArg (λz=>Option.or z _) ?_;show(Uy c.2 k).or ((Uy b.2 k).or zn)=_;cases Uy b.2 k<;>rfl
 rw[y,o,p k];cases q with
 |false=>
  have:((Uy c.2 k).or (Uy b.2 k)).filter (λx=> !(zf&&x.2.2.1))=(Uy c.2 k).or (Uy b.2 k):=by
   cases(Uy c.2 k).or (Uy b.2 k)<;>simp[ns]
  rw[this]
 |true=>
  have I:Z5 (λi=>Vn (UJ s.1.2 i).reverse k) (n+1) (13-n)=zn:=by
   rw[Yn (g:=λ_=>zn) _ _ λi hi _=> ?_,cY];have:UJ s.1.2 i=[]:=by unfold UJ;rw[List.getElem?_eq_none (by have:=t rfl;omega)];rfl
   rw[this];rfl
  rw[I];cases A with
  |some x=>rfl
  |none=>
   cases(Uy c.2 k).or (Uy b.2 k)with
   |none=>rfl
   |some x=>
    cases J:x.2.2.1<;>simp[ns,Xs,J]
end
section
open Go Sv
end
section
open Go Sv
end
section
open Go Sv
def VC(l:List UX):Nat:=(l.map λr=>r.2.length).sum
theorem Xa(r:UX)(l:List UX):VC (r::l)=r.2.length+VC l:=by simp[VC]
theorem V1(l m:List UX):VC (l++m)=VC l+VC m:=by simp[VC]
theorem gh{l:List UX}(h:∀ r∈l,r.2.length<=5000):VC l<=l.length*5000:=by
 induction l with
 |nil=>simp[VC]
 |cons r l a=>
  grind [Xa,ae]
def ga(b:UX):Int×Int:=if b.1<1\/b.1>16 then(0,7)else if(b.2.length:Int)>b.1 then(0,3)else ZC zn 0 b.2
def pR(f:jt):Int:=if(ga f.1).2≠0 then(ga f.1).2 else if(UE f.2).2≠0 then(UE f.2).2 else if f.1.1≠f.2.1.1 then 6 else 0
end
section
open Go Sv
end
section
open Go Sv
end
section
open Go Sv
theorem uL{α β γ δ:Type}{f:α->Option (LR δ γ)}{s:α}{k:δ->Option β}{a:γ->Option β}{x:δ}(h:f s=zo (.nx x)):jn f s k a=k x:=by
 unfold jn;rw[h]
end
section
open Go Sv
end
section
open Go Sv
end
section
open Go Sv
def Gd(s0 s:UC):Prop:=VSt s/\LK s.1=LK s0.1/\VC s.1.2.flatten<=2000
theorem pM{l:List UX}{r:UX}(h:r∈l):r.2.length<=VC l:=by
 induction l with
 |nil=>cases h
 |cons x l a=>
  rw[Xa];rcases bl.1 h with e|h
  ·rw[e];omega
  ·have:=a h;omega
theorem Zw{L:UF}(h:VC L.2.flatten<=2000):jq L:=λi r a=>by
 have:=pM (bE.2 ⟨i,a⟩);omega
theorem dD{s:UC}(v:VSt s)(h:jq s.1){n:Nat}{j:Job}(g:JobAt s.1 n j)(E:¬ 0<Ua s.1 j):VC (V0 s j).2.flatten<=VC s.1.2.flatten:=by
 obtain⟨G,I,y,J,K⟩:=g.out v.lev (h n);have w:j.1.toNat=n:=by rw[y];simp
 have a:=h n;obtain⟨d,e,m,k,u,c,x,F,B,C⟩:=g;have i:=Ya.1 u;rw[i]at a;have D:=a d (by simp);have f:=a e (by simp)
 have l:(VA j).length<=e.2.length+d.2.length:=by
  rw[c];exact(kP C B m x (by omega)).2
 obtain⟨p,q,f,o⟩:=YM s.1 n []
 have e1:VC s.1.2.flatten=VC p+((d.2.length+e.2.length)+VC q):=by
  rw[f,i,V1,V1,Xa,Xa];simp[VC]
 have e2:VC (VB s.1 n []).2.flatten=VC p+VC q:=by rw[o,V1,V1];simp[VC]
 unfold V0;rw[w];by_cases b:VA j=[]
 ·rw[zy b];omega
 ·rw[zx b];obtain⟨z,A,r,t⟩:=YM (VB s.1 n []) (Ys s j) (UJ (VB s.1 n []).2 (Ys s j)++[(s.2.2,VA j)]);have e3:VC (VB s.1 n []).2.flatten=VC z+(VC (UJ (VB s.1 n []).2 (Ys s j))+VC A):=by rw[r,V1,V1]
  rw[t,V1,V1,V1,Xa];simp only[VC,List.map_nil,List.sum_nil];simp only[VC]at e3 e2 e1;omega
theorem gj{s:UC}(v:VSt s){d:Int}(h:d∈UK 0 s.1.2):∃ (i:Nat) (j:Job) (n:Nat),Zy d 0 (UK 0 s.1.2)=zo i/\s.2.1[i]?=zo j/\d=(n:Int)/\j.1=(n:Int)/\JobAt s.1 n j:=by
 obtain⟨i,hi⟩:=cS (k:=0) h;obtain⟨j,n,a,b,c,d,_⟩:=v.at hi;exact⟨i,j,n,hi,a,b,c,d⟩
theorem iM{s0 s:UC}(g:Gd s0 s){d:Int}(h:d∈UK 0 s.1.2):∃ (c:Bool) (t:UC) (b:Bool) (e:Int),Xi (s,d)=zo (c,0)/\Uj (s,d)=zo (t,(b,e))/\(s.2.2<=1000000->c=decide (e=0))/\(e=0->Gd s0 t):=by
 obtain⟨v,z,hc⟩:=g;have r:=Zw hc;have m:=v.sm;obtain⟨i,j,n,hi,y,C,w,q⟩:=gj v h;have A:(UE s).2=0:=UL.2 v;have o:bW s d=zo j:=by unfold bW;rw[hi];exact y
 have p:Xi (s,d)=zo (WV s.1 j,0):=by
  rw[sO m];unfold XD;rw[zx (by simp[A]),o]
 have k:Uj (s,d)=zo (Yd s j):=by
  rw[cG m r];unfold VJ;rw[zx (by simp[A]),o]
 refine⟨WV s.1 j,(Yd s j).1,(Yd s j).2.1,(Yd s j).2.2,p,k,?_⟩;unfold Yd;by_cases l:WV s.1 j=zf
 ·rw[zy l,l];exact⟨λ_=>by simp,λh=>by cases h⟩
 have a:WV s.1 j=zt:=by simpa using l
 rw[zx l];by_cases f:0<Ua s.1 j
 ·rw[zy f];refine⟨λ_=>by simp[a],λ_=>⟨kW v (by rw[w,<- C];exact hi) y q f,z,hc⟩⟩
 rw[zx f];unfold Ze;rw[zx (λh=>h.elim f l)];by_cases u:s.2.2>1000000/\VA j≠[]
 ·rw[zy u];exact⟨λh=>by omega,λh=>by cases h⟩
 rw[zx u]
 have x:VA j≠[]->s.2.2<=1000000:=λD=>by
  by_cases B:s.2.2>1000000
  ·exact absurd ⟨B,D⟩ u
  ·omega
 refine⟨λ_=>by simp[a],λ_=>⟨j9 v r q f a x,?_,?_⟩⟩
 ·exact(iO v r q f a x).trans z
 ·have:=dD v r q f;show VC (V0 s j).2.flatten<=2000;omega
theorem cR:∀ {ls:List (List UX)} {i n:Nat},(UJ ls n).length=2->((i+n:Nat):Int)∈UK i ls
 |[],i,n,h=>by simp[UJ]at h
 |rs::ls,i,0,h=>by
  have h':rs.length=2:=h;rw[Yw,zy h'];simp
 |rs::ls,i,n+1,h=>by
  rw[Yw];refine List.mem_append_right _ ?_;have:=cR (ls:=ls) (i:=i+1) (n:=n) h
  rwa [show i+1+n=i+(n+1) by omega]at this
end
section
open Go Sv
end
section
open Go Sv
end
section
open Go Sv
structure WrI (most:Nat) (l:List UD) (R:List UD):Prop where
 asc:Asc zn l
 le:l.length<=most
 len:R.length=most+1
 row:R.take l.length=l
end
section
open Go Sv
structure Bf (b:UX):Prop where
 m1:1<=b.1
 m2:b.1<=16
 len:(b.2.length:Int)<=b.1
 ok:∀ x∈b.2,kE x=0
 asc:Asc zn b.2
end
section
open Go Sv
def zO(b w:Int):Nat->Nat
 |0=>0
 |k+1=>zO b w k+if b*2 ^ k<w then 1 else 0
end
section
open Go Sv
theorem gX(l:List UD)(b:Bool)(m:b=zf):∃ r,loop (β:=Nat×((Int×Bool)×Unit)) (λa=>br (TK a.1 (l.length:Int)) (λ_=>br (TK a.1 50) (λ_=>SG a.1 λn=>ix l n λi=>br (TI (Mo i.1:Int) 100) (λ_=>zo (.dn ((0,((a.1,zt),()))))) λ_=>SG a.1 λg=>ix l g λj=>br (TI (Mo j.2.1:Int) 100) (λ_=>zo (.dn ((0,((a.1,zt),()))))) λ_=>zo (.nx (SV .i64 a.1 1,a.2))) λ_=>zo (.dn ((1,(a,()))))) λ_=>zo (.dn ((1,(a,()))))) ((0:Int),b)=zo r/\((r.1=1/\r.2.1.2=zf)\/(r.1=0/\r.2.1.2=zt)):=by
 subst m
 exact Z6 (l:=l) (σ:=Unit) 50 (by omega) (λk _=>((k:Int),zf)) (λ_ _=>True) (λ(r:Nat×((Int×Bool)×Unit))=>(r.1=1/\r.2.1.2=zf)\/(r.1=0/\r.2.1.2=zt)) () rfl trivial (λk _ h d _=>⟨_,(pO (c:=50) h d _ _ _ rfl),.inl ⟨rfl,rfl⟩⟩) (λk x _ f d _=>by
  simp only;have e:=(aa.1 f).1;rw[rl e,Sp,show TK (k:Int) 50=zt from dR d,Sp,UB,TS f,Te,UB,TS f,Te,UI (by omega)]
  repeat' split
  all_goals simp_all)
def wD(n:Int)(rs:List UX):Prop:=0<=n/\n<=1000000000 /\ ∀ r∈rs,r.2.length<=5000
theorem dE{rs:List UX}{k:Nat}(h:∀ r∈rs,r.2.length<=5000)(c:k<=20):VC (rs.take k)<=100000:=by
 have b:=gh (l:=rs.take k) λr a=>h r (hU a)
 grind
theorem ib{L:List (List UX)}{i:Nat}{rs:List UX}(hi:L[i]?=zo rs)(n:Int)(b:Bool)(y:b=zf):∃ r,loop (β:=Nat×((Int×(Int×Bool))×Unit)) (λs1=>SG (i:Int) λz=>ix L z λE=>br (TK s1.2.1 (E.length:Int)) (λ_=>br (TK s1.2.1 9) (λ_=>SG (i:Int) λA=>ix L A λF=>SG s1.2.1 λB=>ix F B λf=>bd (loop (λa=>br (TK a.1 (f.2.length:Int)) (λ_=>br (TK a.1 50) (λ_=>SG a.1 λC=>ix f.2 C λs=>br (TI (Mo s.1:Int) 100) (λ_=>zo (.dn (((0:Nat),((a.1,zt),()))))) λ_=>SG a.1 λp=>ix f.2 p λt=>br (TI (Mo t.2.1:Int) 100) (λ_=>zo (.dn ((0,((a.1,zt),()))))) λ_=>zo (.nx (SV .i64 a.1 1,a.2))) λ_=>zo (.dn ((1,(a,()))))) λ_=>zo (.dn ((1,(a,()))))) ((0:Int),s1.2.2)) λd=>br (neq d.1 0) (λ_=>zo (.dn ((1,((SV .i64 s1.1 (f.2.length:Int),(s1.2.1,d.2.1.2)),()))))) λ_=>zo (.nx ((SV .i64 s1.1 (f.2.length:Int),(SV .i64 s1.2.1 1,d.2.1.2))))) λ_=>zo (.dn ((0,(s1,()))))) λ_=>zo (.dn ((0,(s1,()))))) (n,((0:Int),b))=zo r/\((r.1=0/\r.2.1.2.2=zf/\(rs.length<=8->wD n rs->r.2.1.1=n+(VC rs:Int)))\/(r.1=1/\r.2.1.2.2=zt)):=by
 subst y
 exact Z6 (l:=rs) (σ:=Int) 9 (by omega) (λk m=>(m,((k:Int),zf))) (λk m=>wD n rs->m=n+(VC (rs.take k):Int)) (λ(r:Nat×((Int×(Int×Bool))×Unit))=>(r.1=0/\r.2.1.2.2=zf/\(rs.length<=8->wD n rs->r.2.1.1=n+(VC rs:Int)))\/(r.1=1/\r.2.1.2.2=zt)) n rfl (λ_=>by simp[VC]) (λk m h g u=>⟨_,by
  rw[UB,TS hi];exact(pO (c:=9) h g _ _ _ rfl),.inl ⟨rfl,rfl,λO e=>by
   grind⟩⟩) (λk x m o g u=>by
  simp only;have j:=(aa.1 o).1;obtain⟨r,D,q⟩:=gX x.2 zf rfl;rw[UB,TS hi,rl j,Sp,show TK (k:Int) 9=zt from dR g,Sp,UB,TS hi,UB,TS o,D,TA,TB,UI (by omega)];rcases q with⟨q,w⟩|⟨q,w⟩
  ·rw[zx (by omega),w];refine .inl ⟨_,rfl,λe=> ?_⟩;have G:=u e
   have I:VC (rs.take (k+1))=VC (rs.take k)+x.2.length:=by
    grind [hV,V1,VC]
   have J:=e.2.2 x (ad o);have K:=dE (k:=k) e.2.2 (by omega);have M:=e.1;have N:=e.2.1
   grind [Su]
  simp_all)
theorem j0(s:UC)(p:∀ rs∈s.1.2,∀ r∈rs,r.2.length<=9223372036854775807):∃ b,YX s=zo b/\(b=zf->Sm s/\(VLev s.1->VC s.1.2.flatten<=40)):=by
 unfold YX;simp only[UH,UG]
 obtain⟨r,U,t⟩:=Z6 (l:=s.1.2) (σ:=Int) (s:=((0:Int),(zf,(0:Int)))) 20 (by omega) (λk n=>(n,(zf,(k:Int)))) (λk n=>(∀ i rs,i<k->s.1.2[i]?=zo rs->rs.length<=8)/\(VLev s.1->n=(VC (s.1.2.take k).flatten:Int))) (λ(r:Nat×((Int×(Bool×Int))×Unit))=>(r.1=0/\r.2.1.2.1=zf/\(∀ i rs,i<20->s.1.2[i]?=zo rs->rs.length<=8)/\(VLev s.1->s.1.2.length<=15->r.2.1.1=(VC s.1.2.flatten:Int)))\/(r.1=1/\r.2.1.2.1=zt))
  (f:=λs0=>br (TK s0.2.2 (s.1.2.length:Int)) (λ_=>br (TK s0.2.2 20) (λ_=>bd (loop (λs1=>SG s0.2.2 λk2=>ix s.1.2 k2 λx3=>br (TK s1.2.1 (x3.length:Int)) (λ_=>br (TK s1.2.1 9) (λ_=>SG s0.2.2 λk4=>ix s.1.2 k4 λx5=>SG s1.2.1 λk6=>ix x5 k6 λG=>bd (loop (λq=>br (TK q.1 (G.2.length:Int)) (λ_=>br (TK q.1 50) (λ_=>SG q.1 λk9=>ix G.2 k9 λY=>br (TI (Mo Y.1:Int) 100) (λ_=>zo (.dn (((0:Nat),((q.1,zt),()))))) λ_=>SG q.1 λN=>ix G.2 N λZ=>br (TI (Mo Z.2.1:Int) 100) (λ_=>zo (.dn ((0,((q.1,zt),()))))) λ_=>zo (.nx (SV .i64 q.1 1,q.2))) λ_=>zo (.dn ((1,(q,()))))) λ_=>zo (.dn ((1,(q,()))))) ((0:Int),s1.2.2)) λB=>br (neq B.1 0) (λ_=>zo (.dn (((1:Nat),((SV .i64 s1.1 (G.2.length:Int),(s1.2.1,B.2.1.2)),()))))) λ_=>zo (.nx ((SV .i64 s1.1 (G.2.length:Int),(SV .i64 s1.2.1 1,B.2.1.2))))) λ_=>zo (.dn ((0,(s1,()))))) λ_=>zo (.dn ((0,(s1,()))))) ((s0.1,((0:Int),s0.2.1)))) λo=>br (neq o.1 0) (λ_=>SG s0.2.2 λO=>ix s.1.2 O λx16=>br (TI (x16.length:Int) 8) (λ_=>zo (.dn (((1:Nat),((o.2.1.1,(zt,s0.2.2)),()))))) λ_=>zo (.nx ((o.2.1.1,(o.2.1.2.2,SV .i64 s0.2.2 1))))) λ_=>zo (.dn ((1,((o.2.1.1,(o.2.1.2.2,s0.2.2)),()))))) λ_=>zo (.dn ((0,(s0,()))))) λ_=>zo (.dn ((0,(s0,())))))
  0 rfl ⟨λi rs h=>by omega,λ_=>by simp[VC]⟩ (λk n h u M=>⟨_,(pO (c:=20) h u _ _ _ rfl),.inl ⟨rfl,rfl,λi rs hi p=>M.1 i rs (by grind) p,λD h15=>by
   grind⟩⟩) (λk rs n p u M=>by
   simp only;have w:=(aa.1 p).1;obtain⟨r,U,t⟩:=ib p n zf rfl;rw[rl w,Sp,show TK (k:Int) 20=zt from dR u,Sp,U,TA,TB,UB,TS p,Te,UI (by omega)];rcases t with⟨t,F,q4⟩|⟨t,F⟩
   ·rw[zy t];by_cases h8:(rs.length:Int)>8
    ·simp_all
    ·rw[zx h8,F];refine .inl ⟨_,rfl,λi rs' hi hy=> ?_,λD=> ?_⟩
     ·grind
     ·have I:=M.2 D
      have z:∀ l:List (List UX),(∀ rs∈l,rs∈s.1.2) -> ∀ r∈l.flatten,r.2.length<=5000:=λl hl r hr=>by
       obtain⟨X,h3,h4⟩:=List.mem_flatten.1 hr;obtain⟨i,hi⟩:=bf (hl X h3);have J:r∈UJ s.1.2 i:=by unfold UJ;simp_all
       exact((D.own i).2 r J).vl.len
      have L:VC (s.1.2.take (k+1)).flatten=VC (s.1.2.take k).flatten+VC rs:=by
       grind [hV,List.flatten_append,V1]
      have h3:=dE (k:=20) (rs:=(s.1.2.take k).flatten) (z _ λrs h=>hU h)
      have h4:(s.1.2.take k).flatten.length<=1000:=by
       have J:∀ l:List (List UX),(∀ rs∈l,rs.length<=2)->l.flatten.length<=2*l.length:=by
        intro l
        induction l<;>grind
       have:=J (s.1.2.take k) λrs h=>D.two rs (hU h)
       grind
      have J:=gh (z (s.1.2.take k) λrs h=>hU h);have h6:wD n rs:=⟨by omega,by omega,λr hr=>z [rs] (λx hx'=>by grind) r (by grind)⟩
      grind
   simp_all)
 refine(λh=>h) ?_;have fin:∀ {K:(Nat×((Int×(Bool×Int))×Unit))->Option Bool},(∃ b,K r=zo b/\(b=zf->Sm s/\(VLev s.1->VC s.1.2.flatten<=40))) -> ∀ {m:Option (Nat×((Int×(Bool×Int))×Unit))},m=zo r -> ∃ b,bd m K=zo b/\(b=zf->Sm s/\(VLev s.1->VC s.1.2.flatten<=40)):=λh _ e=>by subst e;exact h
 refine fin ?_ U;rw[TB];rcases t with⟨t,F,q4,q5⟩|⟨t,F⟩
 rotate_left
 ·simp_all
 rw[zy t,F]
 obtain⟨r2,p1,S⟩:=Z6 (l:=s.2.1) (σ:=Unit) (s:=(zf,(0:Int))) 20 (by omega) (λk _=>(zf,(k:Int))) (λ_ _=>True) (λ(r:Nat×((Bool×Int)×Unit))=>r.1=1\/(r.1=0/\r.2.1.1=zt))
  (f:=λa=>br (TK a.2 (s.2.1.length:Int)) (λ_=>br (TK a.2 20) (λ_=>SG a.2 λP=>ix s.2.1 P λg=>br (TI (g.2.1.1.length:Int) 20) (λ_=>zo (.dn ((0,((zt,a.2),()))))) λ_=>br (TI (g.2.1.2.1.length:Int) 100) (λ_=>zo (.dn ((0,((zt,a.2),()))))) λ_=>br (TI (g.2.1.2.2.1.length:Int) 100) (λ_=>zo (.dn ((0,((zt,a.2),()))))) λ_=>br (TI (g.2.1.2.2.2.1.length:Int) 100) (λ_=>zo (.dn ((0,((zt,a.2),()))))) λ_=>bd (loop (λd=>br (TK d.1 (g.2.1.1.length:Int)) (λ_=>SG d.1 λA=>ix g.2.1.1 A λC=>zo (.nx ((SV .i64 d.1 1,SV .i64 d.2 (C.length:Int))))) λ_=>zo (.dn (((0:Nat),(d,()))))) (((0:Int),(g.2.2.2.1.length:Int)))) λW=>br (TI W.2.1.2 200) (λ_=>zo (.dn ((0,((zt,a.2),()))))) λ_=>zo (.nx (a.1,SV .i64 a.2 1))) λ_=>zo (.dn ((1,(a,()))))) λ_=>zo (.dn ((1,(a,())))))
  () rfl trivial (λk _ h u _=>⟨_,(pO (c:=20) h u _ _ _ rfl),.inl rfl⟩) (λk j _ p u _=>by
   simp only;have w:=(aa.1 p).1;rw[rl w,Sp,show TK (k:Int) 20=zt from dR u,Sp,UB,TS p,Te];by_cases I:(j.2.1.1.length:Int)>20
   ·simp_all
   rw[zx I]
   obtain⟨r3,t1,_⟩:=Wh (l:=j.2.1.1) (σ:=Int) (s:=((0:Int),(j.2.2.2.1.length:Int))) (λk n=>((k:Int),n)) (λ_ _ _=>True) (λ(_:Nat×((Int×Int)×Unit))=>True)
    (f:=λd=>br (TK d.1 (j.2.1.1.length:Int)) (λ_=>SG d.1 λA=>ix j.2.1.1 A λC=>zo (.nx ((SV .i64 d.1 1,SV .i64 d.2 (C.length:Int))))) λ_=>zo (.dn (((0:Nat),(d,())))))
    (j.2.2.2.1.length:Int) rfl (by omega) trivial (λn _=>⟨_,by rw[re];rfl,trivial⟩) (λk y m n hd hy u _=>.inl ⟨SV .i64 n (y.length:Int),by grind [rl,Sp,UB,TS,UI],trivial⟩)
   rw[t1,TA,Te,Te,Te,Te,UI (by omega)]
   repeat' split
   all_goals first|exact .inr ⟨_,rfl,.inr ⟨rfl,rfl⟩⟩|exact .inl ⟨(),rfl,trivial⟩)
 rw[p1,TA,TB];rcases S with S|⟨S,p3⟩
 rotate_left
 ·simp_all
 rw[zx (by omega),Te,Te];by_cases I:r.2.1.1>40
 ·simp_all
 rw[zx I];by_cases L:(s.1.2.length:Int)>15
 ·rw[zy L];exact⟨_,rfl,λh=>by cases h⟩
 rw[zx L];refine⟨_,rfl,λh=>⟨⟨by omega,λrs E=>⟨?_,p rs E⟩,?_⟩,λD=>by have:=q5 D (by omega);omega⟩⟩
 ·obtain⟨i,hi⟩:=bf E;have:=q4 i rs (by have:=(aa.1 hi).1;omega) hi;omega
 grind [TI]
end
section
open Go Sv
def j8(B w:Int):Int:=if w=0 then 0 else(zO B w 11:Int)+1
end
section
open Go Sv
end
section
open Go Sv
end
section
open Go Sv
end
section
open Go Sv
def kN(k:Nat):XZ:=[126,110,101,119,xr (97+k / 26),xr (97+k % 26)]
def uT(k:XZ):Prop:=¬ (4<=k.length/\TY k 0 4=[126,110,101,119])
def uJ(f:jt):Int:=f.1.1-(f.1.2.length:Int)+f.1.1*(2-((UJ f.2.1.2 0).length:Int))
structure FI (n k:Nat) (f:jt):Prop where
 fr:pR f=0
 nx:f.2.2.2<=900000+(k:Int)
 key:∀ y∈f.1.2,uT y.1 \/ ∃ j<k,y.1=kN j
 val:(k:Int)+uJ f=(n:Int)
end
section
open Go Sv
end
section
open Go Sv
def ZO(f:Nat->Nat):Nat->Nat
 |0=>0
 |m+1=>ZO f m+f m
theorem fI{f g:Nat->Nat}:∀ {m:Nat},(∀ i,i<m->g i<=f i)->ZO g m<=ZO f m
 |0,_=>a9 _
 |m+1,h=>Nat.add_le_add (fI λi hi=>h i (by omega)) (h m (by omega))
theorem bU{f g:Nat->Nat}{n:Nat}(a:g n+1<=f n):∀ {m:Nat},n<m->(∀ i,i<m->i≠n->g i<=f i)->ZO g m+1<=ZO f m
 |0,h,_=>absurd h (by omega)
 |m+1,h,ho=>by
  unfold ZO;by_cases e:n=m
  ·subst e;have:=fI (f:=f) (g:=g) (m:=n) λi hi=>ho i (by omega) (by omega);omega
  ·have:=bU a (m:=m) (by omega) λi hi=>ho i (by omega);have:=ho m (by omega) (λh=>e h.symm);omega
theorem cF{f g:Nat->Nat}{n:Nat}(a:g n+g (n+1)+1<=f n+f (n+1)):∀ {m:Nat},n+1<m->(∀ i,i<m->i≠n->i≠n+1->g i<=f i)->ZO g m+1<=ZO f m
 |0,h,_=>absurd h (by omega)
 |m+1,h,ho=>by
  unfold ZO;by_cases e:n+1=m
  ·subst e;have:=fI (f:=f) (g:=g) (m:=n) λi hi=>ho i (by omega) (by omega) (by omega);unfold ZO;omega
  ·have:=cF a (m:=m) (by omega) λi hi=>ho i (by omega);have:=ho m (by omega) (by omega) (by omega);omega
theorem ZS:∀ {js:List Job} {j:Job},(js.map (·.1)).Nodup->j∈js->U5 js j.1=zo j
 |[],_,_,h=>by cases h
 |i::js,j,hn,h=>by
  rw[oj,ll]at hn;unfold U5;rw[ed];unfold cW;rw[Vm];rcases bl.1 h with e|h
  ·subst e;simp
  ·have a:¬ j.1=i.1:=λe=>hn.1 (by rw[<- e];exact hG h);rw[decide_eq_false a];exact ZS hn.2 h
theorem bo:∀ {js:List Job} {i:Nat} {j:Job} (w:X4) (d:Int),(js.map (·.1)).Nodup->js[i]?=zo j->U5 (js.set i (j.1,w)) d=if d=j.1 then zo (j.1,w)else U5 js d
 |[],i,j,w,d,_,h=>by simp at h
 |x::js,0,j,w,d,hn,h=>by
  have e:x=j:=by simpa using h
  subst e;unfold U5;rw[List.set_cons_zero,ed,ed];unfold cW;rw[Vm];by_cases e:d=x.1<;>simp[e]
 |x::js,i+1,j,w,d,hn,h=>by
  rw[oj,ll]at hn;have h':js[i]?=zo j:=by simpa using h
  have b:=bo w d hn.2 h';unfold U5 at b ⊢;rw[List.set_cons_succ,ed,ed,b];have c:cW d x=decide (d=x.1):=Vm _ _;rw[c];by_cases e:d=x.1
  ·have a:¬ d=j.1:=λe2=>hn.1 (by rw[<- e,e2];exact hG (ad h'));rw[decide_eq_true e];simp only[a,if_false]
  ·rw[decide_eq_false e]
theorem VSt.noJob{s:UC}(v:VSt s){i:Nat}(h:(UJ s.1.2 i).length≠2):U5 s.2.1 (i:Int)=zn:=by
 refine Yy λa=>h ?_;rw[v.due]at a;obtain⟨n,c,d,e,b⟩:=cb a;have:i=n:=by omega
 rw[this,Ya.1 b];rfl
theorem VSt.hasJob{s:UC}(v:VSt s){i:Nat}(h:(UJ s.1.2 i).length=2):∃ j,U5 s.2.1 (i:Int)=zo j:=by
 have a:=cR (i:=0) h;rw[cP,<- v.due]at a;obtain⟨j,b,e⟩:=List.mem_map.1 a;exact⟨j,by rw[<- e];exact ZS v.nodup b⟩
theorem sQ{s:UC}(v:VSt s)(d:Int):bW s d=U5 s.2.1 d:=by
 by_cases h:d∈UK 0 s.1.2
 ·obtain⟨j,n,a,b,c,_⟩:=v.atDue h;rw[a,b,<- c];refine(ZS v.nodup ?_).symm;unfold bW at a;split at a
  ·exact ad a
  ·cases a
 ·rw[Yy (by rw[v.due];exact h)];unfold bW;split
  ·rename_i i hi;have:=(eO hi).2;exact absurd (ad this) h
  ·rfl
def qU(j:Job):Nat:=j.2.2.2.2.toNat
theorem JobAt.rd{L:UF}{n:Nat}{j:Job}(h:JobAt L n j):∃ a b,UJ L.2 n=[a,b]/\qU j<=b.2.length+a.2.length/\Ua L j=b.2.length+a.2.length-qU j/\(0<Ua L j->qU (j.1,ZB L j)=qU j+1):=by
 obtain⟨a,b,c,k,d,rfl,f,g,i,l⟩:=h;have e:=Ya.1 d;have e1:(Vq b.2 a.2 c k).2.1.2.2=c:=al _ _ _ _;have e2:(Vq b.2 a.2 c k).2.2.2.toNat=k:=by show((k:Int)).toNat=k;rw[ac]
 refine⟨a,b,e,?_,?_,λ_=> ?_⟩
 ·show(Vq b.2 a.2 c k).2.2.2.toNat<=_;rw[e2];exact f
 ·unfold Ua qU;simp only[ac,d]
 ·show(ZB L ((n:Int),Vq b.2 a.2 c k)).2.2.2.toNat=(Vq b.2 a.2 c k).2.2.2.toNat+1;unfold ZB;simp only[ac,e];rw[e1,e2];show(((k+1:Nat):Int)).toNat=_;rw[ac]
structure StepF (s:UC) (n:Nat) (j:Job) (t:UC) (b:Bool):Prop where
 job:U5 s.2.1 (n:Int)=zo j
 read:0<Ua s.1 j->b=zf/\t.1=s.1/\t.2.2=s.2.2 /\ ∀ i:Nat,U5 t.2.1 (i:Int)=if i=n then zo (j.1,ZB s.1 j)else U5 s.2.1 (i:Int)
 inst:Ua s.1 j=0->b=zt/\t.1=V0 s j/\t.2.2=Yg s j/\(∀ i,(UJ t.1.2 i)=if VA j≠[]/\i=Ys s j then(if i=n then[]else UJ s.1.2 i)++[(s.2.2,VA j)]else if i=n then[]else UJ s.1.2 i)/\(Ys s j=n\/Ys s j=n+1/\n+1<12/\(VA j≠[]->(UJ s.1.2 (n+1)).length<2)) /\
  ∀ i:Nat,U5 t.2.1 (i:Int)=if(UJ t.1.2 i).length=2 then zo ((if i=n then zn else U5 s.2.1 (i:Int)).getD (Wt t.1 (i:Int)))else zn
theorem fH{s0 s:UC}(g:Gd s0 s){d:Int}(h:d∈UK 0 s.1.2)(e:(VJ s d).2.2=0):∃ (n:Nat) (j:Job),d=(n:Int)/\n<12/\JobAt s.1 n j/\WV s.1 j=zt/\StepF s n j (VJ s d).1 (VJ s d).2.1/\Gd s0 (VJ s d).1:=by
 obtain⟨v,Z,hc⟩:=g;have X:=Zw hc;have m:=v.sm;obtain⟨c,t,b,er,_,K,_,Y⟩:=iM ⟨v,Z,hc⟩ h;rw[cG m X]at K;have w:=Option.some.inj K;obtain⟨i,j,n,hi,U,D,u,S⟩:=gj v h;have hz:(UE s).2=0:=UL.2 v;have C:bW s d=zo j:=by unfold bW;rw[hi];exact U
 have hn:n<12:=by
  have:=v.lev.len;obtain⟨_,_,_,_,W,_⟩:=S;have:=(aa.1 W).1;omega
 have F:U5 s.2.1 (n:Int)=zo j:=by rw[<- D,<- sQ v,C]
 have hS:VJ s d=Yd s j:=by unfold VJ;rw[zx (by simp[hz]),C]
 have A:Gd s0 (VJ s d).1:=by rw[w];exact Y (by rw[<- e,w])
 have k:=A.1;rw[hS]at e k A ⊢;refine⟨n,j,D,hn,S,?_,⟨F,λO=> ?_,λO=> ?_⟩,A⟩
 ·unfold Yd at e;by_cases a:WV s.1 j=zf
  ·rw[zy a]at e;cases e
  ·simpa using a
 ·unfold Yd at e ⊢;have a:¬ WV s.1 j=zf:=λa=>by rw[zy a]at e;cases e
  rw[zx a,zy O];refine⟨rfl,rfl,rfl,λo=> ?_⟩;show U5 (Z8 s j).2.1 _=_;unfold Z8;rw[u,<- D,hi,Option.getD_some];show U5 (s.2.1.set i (d,ZB s.1 j)) _=_;have:=bo (ZB s.1 j) (o:Int) v.nodup U;rw[u,<- D]at this;rw[this,D];by_cases p:o=n
  ·rw[zy (by rw[p]),zy p]
  ·rw[zx (by omega),zx p]
 ·unfold Yd at e k ⊢;have a:¬ WV s.1 j=zf:=λa=>by rw[zy a]at e;cases e
  have q:WV s.1 j=zt:=by simpa using a
  have z:¬ 0<Ua s.1 j:=by omega
  rw[zx a,zx z]at e k ⊢;unfold Ze at e k ⊢;rw[zx (λh=>h.elim z a)]at e k ⊢;by_cases P:s.2.2>1000000/\VA j≠[]
  ·rw[zy P]at e;cases e
  rw[zx P]at e k ⊢;have B:j.1.toNat=n:=by rw[u];simp
  have I:∀ i,UJ (V0 s j).2 i=_:=λi=>WK (s:=s) (j:=j) B i;refine⟨rfl,rfl,rfl,I,?_,λo=> ?_⟩
  ·unfold Ys;rw[B];by_cases hs:WG s.1 j=zt
   ·rw[zy hs];exact .inl rfl
   ·rw[zx hs]
    have hr:Zg s.1 (n+1)=zt:=by
     unfold WV at q;rw[B]at q;simpa[hs,z]using q
    have J:=of_decide_eq_true hr;exact .inr ⟨rfl,J.1,λ_=>J.2⟩
  ·have r:VSt (ZQ s (V0 s j) (Yg s j) j.1):=k;show U5 (ZQ s (V0 s j) (Yg s j) j.1).2.1 (o:Int)=if(UJ (V0 s j).2 o).length=2 then zo ((if o=n then zn else U5 s.2.1 (o:Int)).getD (Wt (V0 s j) (o:Int)))else zn
   have ho:(UJ (ZQ s (V0 s j) (Yg s j) j.1).1.2 o)=UJ (V0 s j).2 o:=rfl;by_cases L:(UJ (V0 s j).2 o).length=2
   ·rw[zy L];have N:=cR (i:=0) L;rw[cP]at N;have G:Wy s (V0 s j) j.1 (o:Int)∈(ZQ s (V0 s j) (Yg s j) j.1).2.1:=hG N
    have E:(Wy s (V0 s j) j.1 (o:Int)).1=(o:Int):=by
     have M:(UK 0 (V0 s j).2).map (λd=>(Wy s (V0 s j) j.1 d).1)=UK 0 (V0 s j).2:=by
      have:=r.due;simpa[ZQ,List.map_map,Function.comp_def]using this
     have key:∀ {l:List Int} {f:Int->Int},l.map f=l -> ∀ x∈l,f x=x:=by
      intro l f
      induction l with
      |nil=>intro _ x hx;cases hx
      |cons y l ih=>
       intro h x hx;rw[oj]at h;obtain⟨k1,k2⟩:=List.cons.inj h;rcases bl.1 hx with rfl|hx
       ·exact k1
       ·exact ih k2 x hx
     exact key M _ N
    have:=ZS r.nodup G;rw[E]at this;rw[this];unfold Wy;rw[u];by_cases p:o=n
    ·rw[zy (by omega),zy p]
    ·rw[zx (by omega),zx p]
   ·rw[zx L];exact r.noJob (by rw[ho];exact L)
end
section
open Go Sv
def pK(s:UC)(i:Nat):Nat:=match U5 s.2.1 (i:Int)with
 |some j=>qU j
 |none=>0
def eE(N:Nat)(s:UC)(i:Nat):Nat:=(UJ s.1.2 i).length*(N+1)-pK s i
def pJ(N:Nat)(s:UC):Nat:=ZO (eE N s) 12
theorem pN{L:UF}{n:Nat}{a b:UX}(h:UJ L.2 n=[a,b]):a.2.length+b.2.length<=VC L.2.flatten:=by
 obtain⟨p,q,c,_⟩:=YM L n [];rw[c,h,V1,V1,Xa,Xa];omega
theorem VSt.rd0{s:UC}(v:VSt s){i:Nat}(h:(UJ s.1.2 i).length≠2):pK s i=0:=by
 unfold pK;rw[v.noJob h]
theorem kQ{N:Nat}{s t:UC}{n:Nat}{j:Job}{b:Bool}(v:VSt s)(A:VC s.1.2.flatten<=N)(q:n<12)(x:JobAt s.1 n j)(F:StepF s n j t b):pJ N t+1<=pJ N s:=by
 obtain⟨D,E,l,B,C,y⟩:=x.rd;have hc:=pN l
 have hs:eE N s n=2*(N+1)-qU j:=by
  unfold eE pK;rw[F.job,l];rfl
 by_cases o:0<Ua s.1 j
 ·obtain⟨_,e1,_,e2⟩:=F.read o;refine bU (n:=n) ?_ q λi _ a=> ?_
  ·have m:eE N t n=2*(N+1)-(qU j+1):=by
    unfold eE pK;rw[e2,zy rfl,e1,l,<- y o];rfl
   omega
  ·unfold eE pK;rw[e2,zx a,e1];exact a9 _
 ·obtain⟨_,e1,_,e2,e3,e4⟩:=F.inst (by omega)
  have d:∀ i,i≠n -> ¬ (VA j≠[]/\i=Ys s j)->eE N t i<=eE N s i:=λi a hit=>by
   have e:UJ t.1.2 i=UJ s.1.2 i:=by rw[e2,zx hit,zx a]
   have c:pK t i=pK s i:=by
    by_cases c:(UJ s.1.2 i).length=2
    ·obtain⟨j',k⟩:=v.hasJob c;unfold pK;rw[e4,e,zy c,zx a,k];rfl
    ·rw[v.rd0 c];unfold pK;rw[e4,e,zx c]
   unfold eE;rw[e,c];exact a9 _
  by_cases m:VA j≠[]/\Ys s j≠n
  ·obtain⟨p,r⟩:=m;rcases e3 with e3|⟨e3,f,c⟩
   ·exact absurd e3 r
   have c:=c p;refine cF (n:=n) ?_ f λi _ a g=>d i a (by rw[e3];exact λh=>g h.2)
   have u:eE N t n=0:=by
    unfold eE;rw[e2,zx (by rw[e3];omega),zy rfl];simp
   have w:eE N t (n+1)<=((UJ s.1.2 (n+1)).length+1)*(N+1):=by
    unfold eE;rw[e2,zy ⟨p,e3.symm⟩,zx (by omega),List.length_append];exact Nat.sub_le _ _
   have z:eE N s (n+1)=(UJ s.1.2 (n+1)).length*(N+1):=by
    unfold eE;rw[v.rd0 (by omega)];rfl
   rw[Nat.add_mul]at w;omega
  ·refine bU (n:=n) ?_ q λi _ a=>d i a (λh=>m ⟨h.1,by rw[<- h.2];exact a⟩)
   have u:eE N t n<=1*(N+1):=by
    refine x6 (Nat.sub_le _ _) (Nat.mul_le_mul_right _ ?_);rw[e2,zy rfl];split<;>simp
   omega
end
section
open Go Sv
def V7(s:UC):Int:=if(Uo s).2≠0 then(Uo s).2 else(VJ s (Uo s).1).2.2
def X2(s:UC):UC:=(VJ s (Uo s).1).1
def YJ(s:UC):Int×Bool:=((Uo s).1,(VJ s (Uo s).1).2.1)
def UY:Nat->UC->UC×(List (Int×Bool)×Int)
 |0,s=>(s,([],0))
 |n+1,s=>if V7 s=4 then(s,([],0))else if V7 s≠0 then(s,([],V7 s))else((UY n (X2 s)).1,(YJ s::(UY n (X2 s)).2.1,(UY n (X2 s)).2.2))
theorem Zx{s:UC}:∀ {l:List Int} {d:Int},Wb s l=zo d -> ∃ p q,l=p++d::q/\(XD zf (λs j=>(WV s.1 j,0)) s d).1=zt /\ ∀ x∈p,¬ (XD zf (λs j=>(WV s.1 j,0)) s x).1=zt
 |[],_,h=>by cases h
 |x::l,d,h=>by
  unfold Wb at h;split at h
  ·rename_i a;cases h;exact⟨[],l,rfl,a,λ_ h=>by cases h⟩
  ·rename_i a;obtain⟨p,q,rfl,b,c⟩:=Zx h
   exact⟨x::p,q,rfl,b,λy hy=>by
    rcases bl.1 hy with rfl|hy
    ·exact a
    ·exact c y hy⟩
theorem bG{s:UC}(v:VSt s):((Uo s).2=4/\s.2.1=[])\/(Uo s).2=9\/((Uo s).2=0/\(Uo s).1∈UK 0 s.1.2):=by
 have a:(UE s).2=0:=UL.2 v;unfold Uo;rw[zx (by simp[a])];by_cases h:UK 0 s.1.2=[]
 ·rw[zy h];refine .inl ⟨rfl,?_⟩;have:=v.due;rw[h]at this;simpa using this
 ·rw[zx h];cases hc:Wb s (UK 0 s.1.2)with
  |none=>exact .inr (.inl rfl)
  |some d=>
   obtain⟨p,q,e,_⟩:=Zx hc;exact .inr (.inr ⟨rfl,by rw[e];simp⟩)
theorem ie(s:UC)(j:Job):(Yd s j).2.2≠4:=by
 unfold Yd;split
 ·simp
 ·split
  ·simp
  ·unfold Ze;split
   ·simp
   ·split<;>simp
theorem kg{s:UC}(v:VSt s){d:Int}(h:d∈UK 0 s.1.2):(VJ s d).2.2≠4:=by
 have b:(UE s).2=0:=UL.2 v;obtain⟨j,n,a,_⟩:=v.atDue h;unfold VJ;rw[zx (by simp[b]),a];exact ie s j
theorem ZW{s0 s:UC}(g:Gd s0 s):Ut s=zo (Uo s)/\XS s=zo (Uo s):=⟨pL g.1.sm,iV g.1.sm⟩
theorem bT{s0 s:UC}(g:Gd s0 s)(d:Int):Uj (s,d)=zo (VJ s d)/\Wp (s,d)=zo (VJ s d):=
 ⟨cG g.1.sm (Zw g.2.2) d,iW g.1.sm (Zw g.2.2) d⟩
theorem dY{s0 s:UC}(g:Gd s0 s)(e:V7 s=0):(Uo s).2=0/\(Uo s).1∈UK 0 s.1.2/\(VJ s (Uo s).1).2.2=0:=by
 unfold V7 at e;rcases bG g.1 with h|h|h
 ·rw[zy (by rw[h.1];decide),h.1]at e;cases e
 ·rw[zy (by rw[h];decide),h]at e;cases e
 ·rw[zx (by simp[h.1])]at e;exact⟨h.1,h.2,e⟩
theorem Xd{s0 s:UC}(g:Gd s0 s)(e:V7 s=0):∃ (n:Nat) (j:Job),(YJ s).1=(n:Int)/\n<12/\JobAt s.1 n j/\WV s.1 j=zt/\StepF s n j (X2 s) (YJ s).2/\Gd s0 (X2 s):=by
 obtain⟨_,a,b⟩:=dY g e;exact fH g a b
theorem dZ{s0 s:UC}(g:Gd s0 s)(e:V7 s=4):(Uo s).2=4/\s.2.1=[]:=by
 unfold V7 at e;rcases bG g.1 with h|h|h
 ·exact h
 ·rw[zy (by rw[h];decide),h]at e;cases e
 ·rw[zx (by simp[h.1])]at e;exact absurd e (kg g.1 h.2)
theorem cc{s0 s:UC}{N:Nat}(g:Gd s0 s)(a:VC s.1.2.flatten<=N)(e:V7 s=0):pJ N (X2 s)+1<=pJ N s/\VC (X2 s).1.2.flatten<=N:=by
 obtain⟨n,j,_,d,c,_,F,_⟩:=Xd g e;refine⟨kQ g.1 a d c F,?_⟩;by_cases b:0<Ua s.1 j
 ·rw[(F.read b).2.1];exact a
 ·rw[(F.inst (by omega)).2.1];exact x6 (dD g.1 (Zw g.2.2) c b) a
theorem aA{s0:UC}{N:Nat}:∀ {n:Nat} {s:UC},Gd s0 s->VC s.1.2.flatten<=N->(UY n s).2.1.length<=n/\(UY n s).2.1.length+pJ N (UY n s).1<=pJ N s/\Gd s0 (UY n s).1/\VC (UY n s).1.1.2.flatten<=N/\((UY n s).2.2=0->(UY n s).2.1.length<n->(UY n s).1.2.1=[])
 |0,s,g,hN=>⟨a9 _,by simp[UY],g,hN,λ_ h=>absurd h (by simp[UY])⟩
 |n+1,s,g,hN=>by
  unfold UY;by_cases b:V7 s=4
  ·rw[zy b];exact⟨by simp,by simp,g,hN,λ_ _=>(dZ g b).2⟩
  ·rw[zx b];by_cases a:V7 s=0
   ·rw[zx (by simp[a])];obtain⟨_,_,_,_,_,_,_,d⟩:=Xd g a;obtain⟨m,f⟩:=cc g hN a;obtain⟨i,o,j,k,l⟩:=aA (n:=n) d f;refine⟨by simpa using i,?_,j,k,λc e=>l c (by simpa using e)⟩;simp only[ae];omega
   ·rw[zy a];exact⟨by simp,by simp,g,hN,λc=>absurd c a⟩
def ZP(u:VI)(x:Int×Bool):VI:=(SV .i64 u.1 1,(u.2.1,(if x.2=zt then SV .i64 u.2.2.1 1 else u.2.2.1,ZZ u.2.2.2 x.1.toNat x.1.toNat)))
def YK(u:VI)(l:List (Int×Bool)):VI:=l.foldl ZP u
theorem eB:∀ (l:List (Int×Bool)) (u:VI),0<=u.1->u.1+l.length<=2000000->(YK u l).1=u.1+l.length/\(YK u l).2.1=u.2.1
 |[],u,_,_=>by simp[YK]
 |x::l,u,h0,h=>by
  have a:((x::l).length:Int)=(l.length:Int)+1:=by simp
  rw[a]at h ⊢
  have e:(ZP u x).1=u.1+1:=by
   show SV .i64 u.1 1=_;exact Su (by omega)
  obtain⟨b,c⟩:=eB l (ZP u x) (by omega) (by omega);exact⟨by show(YK (ZP u x) l).1=_;rw[b,e];omega,c⟩
end
end Go.Proofs.YtiehjicadcamiaaGreat.Pl
