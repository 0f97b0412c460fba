/- Functions of the program and of the specification as plain functions, and laws about them. No condition. -/
import Derived.Test.YtoefnfbpoabinabGreatDoorPl2
import Derived.KernelRfl
set_option linter.all false
open List renaming find?_cons->s8, flatten_append->ol, flatten_cons->sw, getElem?_eq_none->a9, getElem?_eq_some_iff->a8, getElem?_of_mem->ee, length_append->s6, map_cons->hI, mem_flatten->kd, mem_of_getElem?->bo, mem_of_mem_take->nl, nodup_cons->li, take_add_one->gs, take_of_length_le->ey
open Nat renaming add_comm->U5, add_mul->sp, le_refl->eb, le_trans->U6, sub_le->x6, zero_add->hM
open Int renaming toNat_natCast->bl
open Option renaming filter->sk, none_or->tb, or_assoc->l4
open UInt8 renaming ofNat->F2
open Option renaming some->zo, none->zn
open Bool renaming true->zt, false->zf
namespace Go.Proofs.YtoefnfbpoabinabGreatDoor.Pl
section
open Go Sv
def cK(f:Nat->Option U7):Nat->Nat->Option U7
 |_,0=>zn
 |i,m+1=>(f i).or (cK f (i+1) m)
theorem lE(f:Nat->Option U7):∀ (m i:Nat),cK f (i+1) m=cK (λj=>f (j+1)) i m
 |0,_=>rfl
 |m+1,i=>by
  show(f (i+1)).or (cK f (i+1+1) m)=(f (i+1)).or (cK (λj=>f (j+1)) (i+1) m);rw[lE f m (i+1)]
theorem Zj{f g:Nat->Option U7}:∀ (m i:Nat),(∀ j,i<=j->j<i+m->f j=g j)->cK f i m=cK g i m
 |0,_,_=>rfl
 |m+1,i,h=>by
  show(f i).or (cK f (i+1) m)=(g i).or (cK g (i+1) m);rw[h i (by omega) (by omega),Zj m (i+1) λj a b=>h j (by omega) (by omega)]
theorem gK:∀ (m i:Nat),cK (λ_=>zn) i m=zn
 |0,_=>rfl
 |m+1,i=>by show(zn:Option U7).or _=_;rw[tb];exact gK m (i+1)
theorem eL(f:Nat->Option U7):∀ (p i q:Nat),cK f i (p+q)=(cK f i p).or (cK f (i+p) q)
 |0,i,q=>by rw[hM];rfl
 |p+1,i,q=>by
  rw[show p+1+q=(p+q)+1 by omega];show(f i).or (cK f (i+1) (p+q))=((f i).or (cK f (i+1) p)).or (cK f (i+(p+1)) q);rw[eL f p (i+1) q,l4,show i+1+p=i+(p+1) by omega]
theorem aK(k:YF):∀ (ls:List (List VU)) (K:Nat),ls.length<=K->WJ (VT ls) k=cK (λj=>WJ (VD ls j).reverse k) 0 K
 |[],K,_=>by
  have:(λj=>WJ (VD [] j).reverse k)=λ_=>zn:=by
   rfl
  rw[this,gK];rfl
 |rs::ls,0,h=>by simp at h
 |rs::ls,K+1,h=>by
  have e:VT (rs::ls)=rs.reverse++VT ls:=rfl;rw[e,iW,aK k ls K (by simpa using h)];show _=(WJ (VD (rs::ls) 0).reverse k).or (cK (λj=>WJ (VD (rs::ls) j).reverse k) (0+1) K);rw[lE];rfl
theorem l9{s:U8}(v:VSt s)(B:m8 s.1){n:Nat}{j:Job}(q:JobAt s.1 n j)(D:¬ 0<VW s.1 j)(hc:Xo s.1 j=zt)(E:WC j≠[]->s.2.2<=1000000):Le (W6 s j)=Le s.1:=by
 have F:=lA v B q D hc E;obtain⟨N,O,P,S,U⟩:=q.out v.lev (B n);have d:j.1.toNat=n:=by omega
 obtain⟨b,c,p,m,y,f,K,r,v0,v1⟩:=q;have I:=ZH.1 y
 have J:VW s.1 j=c.2.length+b.2.length-m:=by
  rw[f];unfold VW;simp only[bl,y];rfl
 have t:m=c.2.length+b.2.length:=by omega
 subst t
 have o:∀ k,Ve (WC j) k=((Ve c.2 k).or (Ve b.2 k)).filter λx=> !(p&&x.2.2.1):=λk=>by
  rw[f];exact ue v1 v0 p k
 refine nq λk=> ?_;have L:=F.lev.len;have M:=v.lev.len;rw[aK k _ 14 (by omega),aK k _ 14 (by omega)];rw[show 14=n+(1+(13-n)) by omega,eL,eL _ n 0];have u:an s j=n\/an s j=n+1:=by unfold an;simp_all
 have h:cK (λi=>WJ (VD (W6 s j).2 i).reverse k) 0 n=cK (λi=>WJ (VD s.1.2 i).reverse k) 0 n:=Zj _ _ λi _ hi=>by
  rw[XZ d,zx (by omega),zx (by omega)]
 rw[h];generalize cK (λi=>WJ (VD s.1.2 i).reverse k) 0 n=A
 have w:cK (λi=>WJ (VD (W6 s j).2 i).reverse k) (0+n) (1+(13-n))=(Ve (WC j) k).or (cK (λi=>WJ (VD s.1.2 i).reverse k) (n+1) (13-n)):=by
  rw[hM,U5 1];show(WJ (VD (W6 s j).2 n).reverse k).or (cK (λi=>WJ (VD (W6 s j).2 i).reverse k) (n+1) (13-n))=_;by_cases a:WC j=[]
  ·rw[XZ d,zx (by simp[a]),zy rfl,a];refine congrArg _ (Zj _ _ λi hi _=> ?_);rw[XZ d,zx (by simp[a]),zx (by omega)]
  ·rcases u with ht|ht
   ·rw[XZ d,zy ⟨a,ht.symm⟩,zy rfl]
    have e:WJ (([]:List VU)++[(s.2.2,WC j)]).reverse k=Ve (WC j) k:=by
     show(Ve (WC j) k).or zn=_
     simp_all
    rw[e];refine congrArg _ (Zj _ _ λi hi _=> ?_);rw[XZ d,zx (by omega),zx (by omega)]
   ·rw[XZ d,zx (by omega),zy rfl];have C:=F.to12 a;rw[show 13-n=(12-n)+1 by omega];show(zn:Option U7).or ((WJ (VD (W6 s j).2 (n+1)).reverse k).or (cK _ (n+1+1) (12-n)))=(Ve (WC j) k).or ((WJ (VD s.1.2 (n+1)).reverse k).or (cK _ (n+1+1) (12-n)));rw[XZ d,zy ⟨a,ht.symm⟩,zx (by omega),List.reverse_append,tb];have e:WJ ([(s.2.2,WC j)].reverse++(VD s.1.2 (n+1)).reverse) k=(Ve (WC j) k).or (WJ (VD s.1.2 (n+1)).reverse k):=rfl;rw[e,l4];refine congrArg _ (congrArg _ (Zj _ _ λi hi _=> ?_));rw[XZ d,zx (by omega),zx (by omega)]
 have l:cK (λi=>WJ (VD s.1.2 i).reverse k) (0+n) (1+(13-n))=((Ve c.2 k).or (Ve b.2 k)).or (cK (λi=>WJ (VD s.1.2 i).reverse k) (n+1) (13-n)):=by
  rw[hM,U5 1];show(WJ (VD s.1.2 n).reverse k).or _=_;rw[I];refine congrArg (λz=>Option.or z _) ?_;show(Ve c.2 k).or ((Ve b.2 k).or zn)=_
  simp_all
 rw[w,l,o k];cases p with
 |false=>
  have:((Ve c.2 k).or (Ve b.2 k)).filter (λx=> !(zf&&x.2.2.1))=(Ve c.2 k).or (Ve b.2 k):=by
   cases(Ve c.2 k).or (Ve b.2 k)<;>simp[sk]
  rw[this]
 |true=>
  have G:cK (λi=>WJ (VD s.1.2 i).reverse k) (n+1) (13-n)=zn:=by
   rw[Zj (g:=λ_=>zn) _ _ λi hi _=> ?_,gK];have:VD s.1.2 i=[]:=by unfold VD;rw[a9 (by have:=r rfl;omega)];rfl
   rw[this];rfl
  rw[G];cases A with
  |some x=>rfl
  |none=>
   cases(Ve c.2 k).or (Ve b.2 k)with
   |none=>rfl
   |some x=>
    grind [sk,VO]
end
section
open Go Sv
theorem mV{t:U8}(h:t=zS\/VSt t):YA (t,t)=zo zt:=by
 rcases h with h|h
 ·rw[h];exact AAo
 ·exact jr h
end
section
open Go Sv
end
section
open Go Sv
def VM(l:List VU):Nat:=(l.map λr=>r.2.length).sum
theorem Wl(r:VU)(l:List VU):VM (r::l)=r.2.length+VM l:=by simp[VM]
theorem Xs(l m:List VU):VM (l++m)=VM l+VM m:=by simp[VM]
theorem nM(l:List VU):VM l.reverse=VM l:=by simp[VM]
theorem fw{l:List VU}(h:∀ r∈l,r.2.length<=5000):VM l<=l.length*5000:=by
 induction l with
 |nil=>simp[VM]
 |cons r l a=>
  grind [Wl,List.length_cons]
theorem Zm:∀ ls:List (List VU),VM (VT ls)=VM ls.flatten/\(VT ls).length=ls.flatten.length
 |[]=>⟨rfl,rfl⟩
 |rs::ls=>by
  obtain⟨a,b⟩:=Zm ls;have e:VT (rs::ls)=rs.reverse++VT ls:=rfl
  simp_all[sw,Xs,nM]
theorem lF{S β:Type}{f:S->Option (LR S β)}{r:β}(mk:Int->Nat->S)(n:Nat){s:S}(b:s=mk ((n:Int)-1) n)(d:n<1000000000)(hs:∀ k,k<n->f (mk (k:Int) (k+1))=zo (.nx (mk ((k:Int)-1) k)))(c:f (mk (-1) 0)=zo (.dn r)):loop f s=zo r:=by
 subst b
 have a:∀ k,k<=n->Ih (k+1) f (mk ((k:Int)-1) k)=zo r:=by
  intro k
  induction k with
  |zero=>intro _;exact Vm c
  |succ k e=>
   grind [Vf]
 exact WK (by omega) (a n (eb _))
theorem jT{L:VB}(v:VLev L):L.2.flatten.length<=24/\VM L.2.flatten<=24*5000:=by
 have b:L.2.flatten.length<=24:=by
  have h:=Zv L.2 v.two;have:=v.len;rw[(Zm L.2).2]at h;omega
 refine⟨b,?_⟩
 have:=fw (l:=L.2.flatten) λr a=>by
  obtain⟨rs,c,d⟩:=kd.1 a;obtain⟨i,hi⟩:=ee c;exact((v.lev i rs hi).2 r d).vl.len
 grind
def fy(L:VB):Int×(Int×Int):=if(Wt L).2.2≠0 then(0,(0,(Wt L).2.2))else((VM L.2.flatten:Int),((L.2.flatten.length:Int),0))
theorem gn(L:VB)(g:L.2.length<=1048576)(n:∀ rs∈L.2,rs.length<=1048576 /\ ∀ r∈rs,r.2.length<=9223372036854775807):WW L=zo (fy L):=by
 unfold WW fy;simp only[VE,VC];rw[Zk _ g n,UG,Uq];by_cases b:(Wt L).2.2=0;rotate_left
 ·simp_all
 rw[zy b,zx (by simp[b])];have v:=Xz.1 b;have p:=v.len;obtain⟨s1,s2⟩:=jT v
 rw[WL (l:=L.2) (σ:=Nat×Nat) (s:=((0:Int),((0:Int),(0:Int)))) (λi a=>((i:Int),((a.1:Int),(a.2:Int)))) (λls i a=>a.1+VM ls.flatten=VM L.2.flatten/\a.2+ls.flatten.length=L.2.flatten.length) (λ_ _ _=>(0,(((L.2.length:Int),((VM L.2.flatten:Int),(L.2.flatten.length:Int))),()))) (0,0) rfl (by omega) ⟨by simp,by simp⟩ (λa h=>by
  simp_all[re,TA,VM]) (λi rs ls a hd hi c h=>by
   obtain⟨e,f⟩:=h;rw[sw,Xs]at e;rw[sw,s6]at f;have o:=v.two rs (bo hi);refine⟨(a.1+VM rs,a.2+rs.length),?_,⟨by omega,by omega⟩,rfl⟩;simp only;rw[rl c,Tj,U9,Ua hi,Tq (by omega)]
   rw[lF (λk m=>(k,(((a.1+VM (rs.drop m):Nat):Int),((a.2+(rs.length-m):Nat):Int)))) rs.length (by simp[VM]) (by omega) (λk d=>by
    have j:rs[k]?=zo rs[k]:=List.getElem?_eq_getElem d;have hd:VM (rs.drop k)=rs[k].2.length+VM (rs.drop (k+1)):=by rw[List.drop_eq_getElem_cons d,Wl]
    have hc:VM (rs.drop k)<=VM rs:=by
     have:=Xs (rs.take k) (rs.drop k)
     simp_all
    simp only;rw[Ul,zy (by omega),U9,Ua j,Tq (by omega),To (by omega),To (by omega),hd]
    grind) (r:=(0,(((-1:Int),(((a.1+VM rs:Nat):Int),((a.2+rs.length:Nat):Int))),()))) rfl,UG]
   rw[VJ hi (by omega)]),UG]
theorem uC{s:U8}(m:Sm s)(a:Int):ax (s,a)=zo (YG 0 (λs j=>((VW s.1 j:Int),0)) s a):=by
 unfold ax;rw[gB m,UG];unfold YG dZ Zr;by_cases b:(VA s).2=0;rotate_left
 ·simp_all[zy,Uq,zx]
 rw[zx (show ¬ (VA s).2≠0 by simp[b]),zx (show ¬ (VA s).2≠0 by simp[b])];have v:=VH.1 b;cases e:cJ a 0 (VF 0 s.1.2)with
 |none=>rfl
 |some i=>
  obtain⟨j,n,c,g,f,d,h⟩:=v.at e;simp only[c];rw[Uq,zy rfl,U9,Ua c,(JobAt.left d).1,UG]
def dN(s:U8)(d:Int):Nat:=match dZ s d with
 |some j=>VW s.1 j+1
 |none=>0
def cU(s:U8):Nat:=((VF 0 s.1.2).map (dN s)).sum
theorem VSt.debt{s:U8}(v:VSt s){d:Int}(h:d∈VF 0 s.1.2)(m:Sm s):eB (s,d)=zo ((dN s d:Int),0)/\dR (s,d)=zo ((dN s d:Int),0)/\dN s d<=10001:=by
 obtain⟨j,n,b,e,f,c,i⟩:=v.atDue h;have k:(VA s).2=0:=VH.2 v;have hd:dN s d=VW s.1 j+1:=by unfold dN;rw[b]
 have g:=(JobAt.left c).2.2
 have a:YG (0:Int) (λs j=>((VW s.1 j:Int),0)) s d=((VW s.1 j:Int),0):=by
  simp_all[YG,zx,VA]
 unfold eB dR;rw[uC m,aL m,a,hd,UG];simp only[UG];rw[Uq,zy rfl,To (by omega)]
 simp_all
def Wz(b:VU):Int×Int:=if b.1<1\/b.1>16 then(0,7)else if(b.2.length:Int)>b.1 then(0,3)else ao zn 0 b.2
theorem du(b:VU):XG b=zo (Wz b):=by
 unfold XG Wz;rw[Uo,Um,Um];by_cases c:b.1<1
 ·simp_all
 rw[zx c];by_cases d:b.1>16
 ·simp_all
 rw[zx d,zx (show ¬ (b.1<1\/b.1>16) by omega),VE,VC];by_cases a:(b.2.length:Int)>b.1
 ·simp_all
 rw[zx a,zx a];have e:=Xt b.2 (by omega)
 grind [Vq,Wu,Um,VE,VC]
def VI(f:VV):Int:=if(Wz f.1).2≠0 then(Wz f.1).2 else if(VA f.2).2≠0 then(VA f.2).2 else if f.1.1≠f.2.1.1 then 6 else 0
theorem bu{f:VV}(m:Sm f.2):WP f=zo (VI f):=by
 unfold WP VI;rw[du,UG,Uq];by_cases a:(Wz f.1).2=0;rotate_left
 ·simp_all
 rw[zy a,zx (show ¬ (Wz f.1).2≠0 by simp[a]),wy m,UG,Uq];by_cases b:(VA f.2).2=0;rotate_left
 ·simp_all
 rw[zy b,zx (show ¬ (VA f.2).2≠0 by simp[b]),Uq]
 grind
end
section
open Go Sv
end
section
open Go Sv
def cO(s:U8)(l:List U7):VB:=V1 s.1 0 (VD s.1.2 0++[(s.2.2,l)])
def fC(s:U8)(l:List U7):U8×Int:=
 if(VA s).2≠0 then(zS,(VA s).2)else if s.2.2>1000000\/2<=(VD s.1.2 0).length then(zS,5)else if(Wu l).2≠0 then(zS,(Wu l).2)
 else if kR [] (Vn s.1.1 0) (s.2.2,l)≠0 then(zS,kR [] (Vn s.1.1 0) (s.2.2,l))else(Zp s (cO s l) (s.2.2+1) (-1),0)
theorem iK{s:U8}(v:VSt s):∀ y∈s.1.2.flatten,y.1≠s.2.2:=λy a=>by
 have:=ZX a;have:=v.n3;omega
theorem dX{s:U8}(v:VSt s){l:List U7}(a:(VD s.1.2 0).length<2)(b:kR [] (Vn s.1.1 0) (s.2.2,l)=0):VLev (cO s l):=
 v.lev.arrive (by omega) a (iS.1 b).1 (iK v)
theorem dY(s:U8)(l:List U7)(i:Nat):VD (cO s l).2 i=if i=0 then VD s.1.2 0++[(s.2.2,l)]else VD s.1.2 i:=by
 unfold cO;rw[ZA]
theorem uG{s:U8}(v:VSt s){l:List U7}(d:(VD s.1.2 0).length<2)(f:kR [] (Vn s.1.1 0) (s.2.2,l)=0)(r:s.2.2<=1000000):VSt (Zp s (cO s l) (s.2.2+1) (-1)):=by
 have j:=v.n1;refine jL v (dX v d f) (by omega) (by omega) (λx m=> ?_) (λn p q h _ _=> ?_)
 ·obtain⟨i,hi⟩:=bF.1 m
  have g:∀ {y:VU} {k:Nat},y∈VD s.1.2 k->y.1<s.2.2+1:=fun {y k} o=>by
   have:=ZX (bF.2 ⟨k,o⟩);have:=v.n3;omega
  rw[dY]at hi
  grind
 ·have b:=ZH.1 h;have c:n≠0:=λe=>by simp_all
  have a:VD (cO s l).2 n=[p,q]:=by rw[dY,zx c,b]
  refine⟨ZH.2 a,λt=>(lC (dX v d f).last (by simp_all) λi hi=> ?_).symm⟩;rw[dY,zx (by omega)];unfold VD;grind
theorem zd{s:U8}(v:VSt s)(h:s.2.2<=1000000)(l:List U7):kR [] (Vn s.1.1 0) (s.2.2,l)=if(Wu l).2≠0 then(Wu l).2 else if l.length=0 then 4 else if(l.length:Int)>Vn s.1.1 0 then 3 else 0:=by
 have:=v.n1
 simp_all[kR,zx]
theorem lT{s:U8}(m:Sm s){l:List U7}(o:l.length<=1000):X7 (s,l)=zo (fC s l):=by
 unfold X7 fC;rw[wy m,UG,Uq];by_cases b:(VA s).2=0;rotate_left
 ·rw[zx b,zy b];rfl
 have v:=VH.1 b;have j:=v.n1;have k:=dC v.lev (n:=0) (by omega);rw[zy b,zx (by simp[b])];show(bd (Wi (s.1,((0:Nat):Int))) λp=>_)=_;rw[k,UG];simp only;rw[zx (show ¬ (0>=12) by omega),Uq,zy rfl,Um];by_cases d:s.2.2>1000000
 ·rw[zy d,zy (.inl d)];rfl
 have e:aM s.1 0=decide ((VD s.1.2 0).length<2):=by unfold aM VD;simp
 rw[zx d,Vp,e,Wa];by_cases f:2<=(VD s.1.2 0).length
 ·rw[zx (by omega),zy (.inr f)];rfl
 rw[zy (by omega),zx (show ¬ (s.2.2>1000000\/2<=(VD s.1.2 0).length) by omega)];rw[Vo (by simp only[AQ];omega),cg _ (by grind),UG,zx (show ¬ (s.2.2<1\/s.2.2>1000000) by omega),Uq];by_cases c:(Wu l).2=0;rotate_left
 ·rw[zx c,zy c];rfl
 rw[zy c,zx (by simp[c])];have g:=bE v.lev (n:=0) (by omega) (x:=(s.2.2,l)) (by grind) (iK v) (by omega);show(bd (VY (s.1,(((0:Nat):Int),(s.2.2,l)))) λq=>_)=_;rw[g,UG];by_cases a:kR [] (Vn s.1.1 0) (s.2.2,l)=0;rotate_left
 ·rw[zy a,zy a,Uq,zx a];rfl
 rw[zx (by simp[a]),zx (by simp[a]),Uq,zy rfl];have i:=v.jsmall;have h:=bA v.nodup (by omega) (dX v (by omega) a) (s.2.2+1) (-1);rw[To (by omega)];show(bd (Vb (s,(cO s l,(s.2.2+1,(-1))))) λr=>_)=_;rw[h];rfl
end
section
open Go Sv
theorem nh{α β γ δ:Type}{f:α->Option (LR δ γ)}{s:α}{k:δ->Option β}{a:γ->Option β}{x:δ}(h:f s=zo (.nx x)):jn f s k a=k x:=by
 unfold jn;rw[h]
end
section
open Go Sv
end
section
open Go Sv
end
section
open Go Sv
def Gd(s0 s:U8):Prop:=VSt s/\Le s.1=Le s0.1/\VM s.1.2.flatten<=2000
theorem uN{l:List VU}{r:VU}(h:r∈l):r.2.length<=VM l:=by
 induction l with
 |nil=>cases h
 |cons x l a=>
  grind [Wl]
theorem cV{L:VB}(h:VM L.2.flatten<=2000):m8 L:=λi r a=>by
 have:=uN (bF.2 ⟨i,a⟩);omega
theorem g9{s:U8}(v:VSt s)(g:m8 s.1){n:Nat}{j:Job}(f:JobAt s.1 n j)(z:¬ 0<VW s.1 j):VM (W6 s j).2.flatten<=VM s.1.2.flatten:=by
 obtain⟨B,C,D,E,F⟩:=f.out v.lev (g n);have r:j.1.toNat=n:=by omega
 have a:=g n;obtain⟨d,e,i,k,o,b,t,A,v0,v1⟩:=f;have u:=ZH.1 o;rw[u]at a;have w:=a d (by simp);have l:=a e (by simp)
 have h:(WC j).length<=e.2.length+d.2.length:=by
  rw[b];exact(oJ v1 v0 i t (by omega)).2
 obtain⟨p,q,l,m⟩:=Y5 s.1 n []
 have e1:VM s.1.2.flatten=VM p+((d.2.length+e.2.length)+VM q):=by
  grind [Xs,Wl,VM]
 have e2:VM (V1 s.1 n []).2.flatten=VM p+VM q:=by rw[m,Xs,Xs];simp[VM]
 unfold W6;rw[r];by_cases c:WC j=[]
 ·simp_all
 ·rw[zx c];obtain⟨G,I,x,y⟩:=Y5 (V1 s.1 n []) (an s j) (VD (V1 s.1 n []).2 (an s j)++[(s.2.2,WC j)])
  grind [Xs,Wl,VM]
theorem ku{s:U8}(v:VSt s){d:Int}(h:d∈VF 0 s.1.2):∃ (i:Nat) (j:Job) (n:Nat),cJ d 0 (VF 0 s.1.2)=zo i/\s.2.1[i]?=zo j/\d=(n:Int)/\j.1=(n:Int)/\JobAt s.1 n j:=by
 obtain⟨i,hi⟩:=gC (k:=0) h;obtain⟨j,n,a,b,c,d,_⟩:=v.at hi
 grind
theorem ly{s0 s:U8}(g:Gd s0 s){d:Int}(h:d∈VF 0 s.1.2):∃ (c:Bool) (t:U8) (b:Bool) (e:Int),ZC (s,d)=zo (c,0)/\WG (s,d)=zo (t,(b,e))/\(s.2.2<=1000000->c=decide (e=0))/\(e=0->Gd s0 t):=by
 obtain⟨v,u,hc⟩:=g;have p:=cV hc;have m:=v.sm;obtain⟨i,j,n,hi,y,hd,z,o⟩:=ku v h;have B:(VA s).2=0:=VH.2 v;have x:dZ s d=zo j:=by unfold dZ;simp_all
 have l:ZC (s,d)=zo (Xo s.1 j,0):=by
  simp_all[YG,zx,we]
 have k:WG (s,d)=zo (Zx s j):=by
  simp_all[YE,zx,ft]
 refine⟨Xo s.1 j,(Zx s j).1,(Zx s j).2.1,(Zx s j).2.2,l,k,?_⟩;unfold Zx;by_cases q:Xo s.1 j=zf
 ·simp_all
 have a:Xo s.1 j=zt:=by grind
 rw[zx q];by_cases f:0<VW s.1 j
 ·rw[zy f];refine⟨λ_=>by simp[a],λ_=>⟨oT v (by simp_all) y o f,u,hc⟩⟩
 rw[zx f];unfold bf;rw[zx (λh=>h.elim f q)];by_cases w:s.2.2>1000000/\WC j≠[]
 ·simp_all
 rw[zx w]
 have r:WC j≠[]->s.2.2<=1000000:=λA=>by
  simp_all
 refine⟨λ_=>by simp[a],λ_=>⟨na v p o f a r,?_,?_⟩⟩
 ·exact(l9 v p o f a r).trans u
 ·have:=g9 v p o f;show VM (W6 s j).2.flatten<=2000;omega
theorem f9:∀ {ls:List (List VU)} {i n:Nat},(VD ls n).length=2->((i+n:Nat):Int)∈VF i ls
 |[],i,n,h=>by simp[VD]at h
 |rs::ls,i,0,h=>by
  have h':rs.length=2:=h;rw[Zd,zy h'];simp
 |rs::ls,i,n+1,h=>by
  rw[Zd];refine List.mem_append_right _ ?_;have:=f9 (ls:=ls) (i:=i+1) (n:=n) h
  grind
end
section
open Go Sv
end
section
open Go Sv
end
section
open Go Sv
structure WrI (most:Nat) (l:List U7) (R:List U7):Prop where
 asc:Asc zn l
 le:l.length<=most
 len:R.length=most+1
 row:R.take l.length=l
end
section
open Go Sv
structure Bf (b:VU):Prop where
 m1:1<=b.1
 m2:b.1<=16
 len:(b.2.length:Int)<=b.1
 ok:∀ x∈b.2,kE x=0
 asc:Asc zn b.2
theorem dv{b:VU}(h:(Wz b).2=0):Bf b:=by
 unfold Wz at h;by_cases a:b.1<1\/b.1>16
 ·simp_all
 rw[zx a]at h;by_cases c:(b.2.length:Int)>b.1
 ·simp_all
 rw[zx c]at h;obtain⟨d,e⟩:=cS.1 h;exact⟨by omega,by omega,by omega,d,e⟩
end
section
open Go Sv
end
section
open Go Sv
theorem ke(l:List U7)(b:Bool)(m:b=zf):∃ r,loop (β:=Nat×((Int×Bool)×Unit)) (λa=>br (UV a.1 (l.length:Int)) (λ_=>br (UV a.1 50) (λ_=>S1 a.1 λn=>ix l n λi=>br (UT (NH i.1:Int) 100) (λ_=>zo (.dn ((0,((a.1,zt),()))))) λ_=>S1 a.1 λg=>ix l g λj=>br (UT (NH j.2.1:Int) 100) (λ_=>zo (.dn ((0,((a.1,zt),()))))) λ_=>zo (.nx (TI .i64 a.1 1,a.2))) λ_=>zo (.dn ((1,(a,()))))) λ_=>zo (.dn ((1,(a,()))))) ((0:Int),b)=zo r/\((r.1=1/\r.2.1.2=zf)\/(r.1=0/\r.2.1.2=zt)):=by
 subst m
 exact bD (l:=l) (σ:=Unit) 50 (by omega) (λk _=>((k:Int),zf)) (λ_ _=>True) (λ(r:Nat×((Int×Bool)×Unit))=>(r.1=1/\r.2.1.2=zf)\/(r.1=0/\r.2.1.2=zt)) () rfl trivial (λk _ h d _=>⟨_,(nO (c:=50) h d _ _ _ rfl),.inl ⟨rfl,rfl⟩⟩) (λk x _ f d _=>by
  simp only;have e:=(a8.1 f).1;rw[rl e,Tj,show UV (k:Int) 50=zt from eF d,Tj,U9,Ua f,Um,U9,Ua f,Um,VG (by omega)]
  repeat' split
  all_goals simp_all)
def Bnd(n:Int)(rs:List VU):Prop:=0<=n/\n<=1000000000 /\ ∀ r∈rs,r.2.length<=5000
theorem hC{rs:List VU}{k:Nat}(h:∀ r∈rs,r.2.length<=5000)(c:k<=20):VM (rs.take k)<=100000:=by
 have b:=fw (l:=rs.take k) λr a=>h r (nl a)
 grind
theorem mT{L:List (List VU)}{i:Nat}{rs:List VU}(hi:L[i]?=zo rs)(n:Int)(b:Bool)(y:b=zf):∃ r,loop (β:=Nat×((Int×(Int×Bool))×Unit)) (λs1=>S1 (i:Int) λz=>ix L z λE=>br (UV s1.2.1 (E.length:Int)) (λ_=>br (UV s1.2.1 9) (λ_=>S1 (i:Int) λA=>ix L A λF=>S1 s1.2.1 λB=>ix F B λf=>bd (loop (λa=>br (UV a.1 (f.2.length:Int)) (λ_=>br (UV a.1 50) (λ_=>S1 a.1 λC=>ix f.2 C λs=>br (UT (NH s.1:Int) 100) (λ_=>zo (.dn (((0:Nat),((a.1,zt),()))))) λ_=>S1 a.1 λp=>ix f.2 p λt=>br (UT (NH t.2.1:Int) 100) (λ_=>zo (.dn ((0,((a.1,zt),()))))) λ_=>zo (.nx (TI .i64 a.1 1,a.2))) λ_=>zo (.dn ((1,(a,()))))) λ_=>zo (.dn ((1,(a,()))))) ((0:Int),s1.2.2)) λd=>br (neq d.1 0) (λ_=>zo (.dn ((1,((TI .i64 s1.1 (f.2.length:Int),(s1.2.1,d.2.1.2)),()))))) λ_=>zo (.nx ((TI .i64 s1.1 (f.2.length:Int),(TI .i64 s1.2.1 1,d.2.1.2))))) λ_=>zo (.dn ((0,(s1,()))))) λ_=>zo (.dn ((0,(s1,()))))) (n,((0:Int),b))=zo r/\((r.1=0/\r.2.1.2.2=zf/\(rs.length<=8->Bnd n rs->r.2.1.1=n+(VM rs:Int)))\/(r.1=1/\r.2.1.2.2=zt)):=by
 subst y
 exact bD (l:=rs) (σ:=Int) 9 (by omega) (λk m=>(m,((k:Int),zf))) (λk m=>Bnd n rs->m=n+(VM (rs.take k):Int)) (λ(r:Nat×((Int×(Int×Bool))×Unit))=>(r.1=0/\r.2.1.2.2=zf/\(rs.length<=8->Bnd n rs->r.2.1.1=n+(VM rs:Int)))\/(r.1=1/\r.2.1.2.2=zt)) n rfl (λ_=>by simp[VM]) (λk m h g u=>⟨_,by
  rw[U9,Ua hi];exact(nO (c:=9) h g _ _ _ rfl),.inl ⟨rfl,rfl,λO e=>by
   grind⟩⟩) (λk x m o g u=>by
  simp only;have j:=(a8.1 o).1;obtain⟨r,D,q⟩:=ke x.2 zf rfl;rw[U9,Ua hi,rl j,Tj,show UV (k:Int) 9=zt from eF g,Tj,U9,Ua hi,U9,Ua o,D,UG,UH,VG (by omega)];rcases q with⟨q,w⟩|⟨q,w⟩
  ·rw[zx (by omega),w];refine .inl ⟨_,rfl,λe=> ?_⟩;have G:=u e
   have I:VM (rs.take (k+1))=VM (rs.take k)+x.2.length:=by
    grind [gs,Xs,VM]
   have J:=e.2.2 x (bo o);have K:=hC (k:=k) e.2.2 (by omega);have M:=e.1;have N:=e.2.1
   grind [To]
  simp_all)
theorem nS(s:U8)(p:∀ rs∈s.1.2,∀ r∈rs,r.2.length<=9223372036854775807):∃ b,ZJ s=zo b/\(b=zf->Sm s/\(VLev s.1->VM s.1.2.flatten<=40)):=by
 unfold ZJ;simp only[VE,VC]
 obtain⟨r,U,t⟩:=bD (l:=s.1.2) (σ:=Int) (s:=((0:Int),(zf,(0:Int)))) 20 (by omega) (λk n=>(n,(zf,(k:Int)))) (λk n=>(∀ i rs,i<k->s.1.2[i]?=zo rs->rs.length<=8)/\(VLev s.1->n=(VM (s.1.2.take k).flatten:Int))) (λ(r:Nat×((Int×(Bool×Int))×Unit))=>(r.1=0/\r.2.1.2.1=zf/\(∀ i rs,i<20->s.1.2[i]?=zo rs->rs.length<=8)/\(VLev s.1->s.1.2.length<=15->r.2.1.1=(VM s.1.2.flatten:Int)))\/(r.1=1/\r.2.1.2.1=zt))
  (f:=λs0=>br (UV s0.2.2 (s.1.2.length:Int)) (λ_=>br (UV s0.2.2 20) (λ_=>bd (loop (λs1=>S1 s0.2.2 λk2=>ix s.1.2 k2 λx3=>br (UV s1.2.1 (x3.length:Int)) (λ_=>br (UV s1.2.1 9) (λ_=>S1 s0.2.2 λk4=>ix s.1.2 k4 λx5=>S1 s1.2.1 λk6=>ix x5 k6 λG=>bd (loop (λq=>br (UV q.1 (G.2.length:Int)) (λ_=>br (UV q.1 50) (λ_=>S1 q.1 λk9=>ix G.2 k9 λY=>br (UT (NH Y.1:Int) 100) (λ_=>zo (.dn (((0:Nat),((q.1,zt),()))))) λ_=>S1 q.1 λN=>ix G.2 N λZ=>br (UT (NH Z.2.1:Int) 100) (λ_=>zo (.dn ((0,((q.1,zt),()))))) λ_=>zo (.nx (TI .i64 q.1 1,q.2))) λ_=>zo (.dn ((1,(q,()))))) λ_=>zo (.dn ((1,(q,()))))) ((0:Int),s1.2.2)) λB=>br (neq B.1 0) (λ_=>zo (.dn (((1:Nat),((TI .i64 s1.1 (G.2.length:Int),(s1.2.1,B.2.1.2)),()))))) λ_=>zo (.nx ((TI .i64 s1.1 (G.2.length:Int),(TI .i64 s1.2.1 1,B.2.1.2))))) λ_=>zo (.dn ((0,(s1,()))))) λ_=>zo (.dn ((0,(s1,()))))) ((s0.1,((0:Int),s0.2.1)))) λo=>br (neq o.1 0) (λ_=>S1 s0.2.2 λO=>ix s.1.2 O λx16=>br (UT (x16.length:Int) 8) (λ_=>zo (.dn (((1:Nat),((o.2.1.1,(zt,s0.2.2)),()))))) λ_=>zo (.nx ((o.2.1.1,(o.2.1.2.2,TI .i64 s0.2.2 1))))) λ_=>zo (.dn ((1,((o.2.1.1,(o.2.1.2.2,s0.2.2)),()))))) λ_=>zo (.dn ((0,(s0,()))))) λ_=>zo (.dn ((0,(s0,())))))
  0 rfl ⟨λi rs h=>by omega,λ_=>by simp[VM]⟩ (λk n h u M=>⟨_,(nO (c:=20) h u _ _ _ rfl),.inl ⟨rfl,rfl,λi rs hi p=>M.1 i rs (by grind) p,λD h15=>by
   grind⟩⟩) (λk rs n p u M=>by
   simp only;have w:=(a8.1 p).1;obtain⟨r,U,t⟩:=mT p n zf rfl;rw[rl w,Tj,show UV (k:Int) 20=zt from eF u,Tj,U,UG,UH,U9,Ua p,Um,VG (by omega)];rcases t with⟨t,F,q4⟩|⟨t,F⟩
   ·rw[zy t];by_cases h8:(rs.length:Int)>8
    ·simp_all
    ·rw[zx h8,F];refine .inl ⟨_,rfl,λi rs' hi hy=> ?_,λD=> ?_⟩
     ·grind
     ·have I:=M.2 D
      have z:∀ l:List (List VU),(∀ rs∈l,rs∈s.1.2) -> ∀ r∈l.flatten,r.2.length<=5000:=λl hl r hr=>by
       obtain⟨X,h3,h4⟩:=kd.1 hr;obtain⟨i,hi⟩:=ee (hl X h3);have J:r∈VD s.1.2 i:=by unfold VD;simp_all
       exact((D.own i).2 r J).vl.len
      have L:VM (s.1.2.take (k+1)).flatten=VM (s.1.2.take k).flatten+VM rs:=by
       grind [gs,ol,Xs]
      have h3:=hC (k:=20) (rs:=(s.1.2.take k).flatten) (z _ λrs h=>nl h)
      have h4:(s.1.2.take k).flatten.length<=1000:=by
       have J:∀ l:List (List VU),(∀ rs∈l,rs.length<=2)->l.flatten.length<=2*l.length:=by
        intro l
        induction l<;>grind
       have:=J (s.1.2.take k) λrs h=>D.two rs (nl h)
       grind
      have J:=fw (z (s.1.2.take k) λrs h=>nl h);have h6:Bnd n rs:=⟨by omega,by omega,λr hr=>z [rs] (λx hx'=>by grind) r (by grind)⟩
      grind
   simp_all)
 refine(λh=>h) ?_;have fin:∀ {K:(Nat×((Int×(Bool×Int))×Unit))->Option Bool},(∃ b,K r=zo b/\(b=zf->Sm s/\(VLev s.1->VM s.1.2.flatten<=40))) -> ∀ {m:Option (Nat×((Int×(Bool×Int))×Unit))},m=zo r -> ∃ b,bd m K=zo b/\(b=zf->Sm s/\(VLev s.1->VM s.1.2.flatten<=40)):=λh _ e=>by subst e;exact h
 refine fin ?_ U;rw[UH];rcases t with⟨t,F,q4,q5⟩|⟨t,F⟩
 rotate_left
 ·simp_all
 rw[zy t,F]
 obtain⟨r2,p1,S⟩:=bD (l:=s.2.1) (σ:=Unit) (s:=(zf,(0:Int))) 20 (by omega) (λk _=>(zf,(k:Int))) (λ_ _=>True) (λ(r:Nat×((Bool×Int)×Unit))=>r.1=1\/(r.1=0/\r.2.1.1=zt))
  (f:=λa=>br (UV a.2 (s.2.1.length:Int)) (λ_=>br (UV a.2 20) (λ_=>S1 a.2 λP=>ix s.2.1 P λg=>br (UT (g.2.1.1.length:Int) 20) (λ_=>zo (.dn ((0,((zt,a.2),()))))) λ_=>br (UT (g.2.1.2.1.length:Int) 100) (λ_=>zo (.dn ((0,((zt,a.2),()))))) λ_=>br (UT (g.2.1.2.2.1.length:Int) 100) (λ_=>zo (.dn ((0,((zt,a.2),()))))) λ_=>br (UT (g.2.1.2.2.2.1.length:Int) 100) (λ_=>zo (.dn ((0,((zt,a.2),()))))) λ_=>bd (loop (λd=>br (UV d.1 (g.2.1.1.length:Int)) (λ_=>S1 d.1 λA=>ix g.2.1.1 A λC=>zo (.nx ((TI .i64 d.1 1,TI .i64 d.2 (C.length:Int))))) λ_=>zo (.dn (((0:Nat),(d,()))))) (((0:Int),(g.2.2.2.1.length:Int)))) λW=>br (UT W.2.1.2 200) (λ_=>zo (.dn ((0,((zt,a.2),()))))) λ_=>zo (.nx (a.1,TI .i64 a.2 1))) λ_=>zo (.dn ((1,(a,()))))) λ_=>zo (.dn ((1,(a,())))))
  () rfl trivial (λk _ h u _=>⟨_,(nO (c:=20) h u _ _ _ rfl),.inl rfl⟩) (λk j _ p u _=>by
   simp only;have w:=(a8.1 p).1;rw[rl w,Tj,show UV (k:Int) 20=zt from eF u,Tj,U9,Ua p,Um];by_cases I:(j.2.1.1.length:Int)>20
   ·simp_all
   rw[zx I]
   obtain⟨r3,t1,_⟩:=Xi (l:=j.2.1.1) (σ:=Int) (s:=((0:Int),(j.2.2.2.1.length:Int))) (λk n=>((k:Int),n)) (λ_ _ _=>True) (λ(_:Nat×((Int×Int)×Unit))=>True)
    (f:=λd=>br (UV d.1 (j.2.1.1.length:Int)) (λ_=>S1 d.1 λA=>ix j.2.1.1 A λC=>zo (.nx ((TI .i64 d.1 1,TI .i64 d.2 (C.length:Int))))) λ_=>zo (.dn (((0:Nat),(d,())))))
    (j.2.2.2.1.length:Int) rfl (by omega) trivial (λn _=>⟨_,by rw[re];rfl,trivial⟩) (λk y m n hd hy u _=>.inl ⟨TI .i64 n (y.length:Int),by grind [rl,Tj,U9,Ua,VG],trivial⟩)
   rw[t1,UG,Um,Um,Um,Um,VG (by omega)]
   repeat' split
   all_goals first|exact .inr ⟨_,rfl,.inr ⟨rfl,rfl⟩⟩|exact .inl ⟨(),rfl,trivial⟩)
 rw[p1,UG,UH];rcases S with S|⟨S,p3⟩
 rotate_left
 ·simp_all
 rw[zx (by omega),Um,Um];by_cases I:r.2.1.1>40
 ·simp_all
 rw[zx I];by_cases L:(s.1.2.length:Int)>15
 ·rw[zy L];exact⟨_,rfl,λh=>by cases h⟩
 rw[zx L];refine⟨_,rfl,λh=>⟨⟨by omega,λrs E=>⟨?_,p rs E⟩,?_⟩,λD=>by have:=q5 D (by omega);omega⟩⟩
 ·obtain⟨i,hi⟩:=ee E;have:=q4 i rs (by have:=(a8.1 hi).1;omega) hi;omega
 grind [UT]
end
section
open Go Sv
theorem Hj{f:VV}(h:VI f=0):(VA f.2).2=0:=by
 unfold VI at h;omega
end
section
open Go Sv
end
section
open Go Sv
theorem WF{f:VV}(h:VI f=0):(Wz f.1).2=0/\VSt f.2/\f.1.1=f.2.1.1:=by
 have b:=Hj h;unfold VI at h;by_cases a:(Wz f.1).2=0;rotate_left
 ·omega
 rw[zx (by simp[a]),zx (by simp[b])]at h;refine⟨a,VH.1 b,?_⟩<;>simp_all
def zF:VV:=((0,[]),zS)
def eA(f:VV):Bool:=decide (2<=(VD f.2.1.2 0).length)
theorem um{f:VV}(v:VLev f.2.1):Wi (f.2.1,(0:Int))=zo (IG (eA f),0):=by
 have a:=(v.own 0).1;have h:=dC v (n:=0) (by omega);rw[zx (by omega)]at h;refine h.trans ?_
 congr 2
 unfold aM eA;rw[WS];have b:((f.2.1.2[0]?).getD []).length=(VD f.2.1.2 0).length:=rfl
 simp_all
theorem w9{γ:Type}{f:VV}(m:Sm f.2)(Z:Int->Option γ)(C:Option γ) :
  (bd (XG f.1) λa=>br (Sx a.2 0) (λ_=>Z a.2) λ_=>bd (V6 f.2) λb=>br (Sx b.2 0) (λ_=>Z b.2) λ_=>br (Sx f.1.1 f.2.1.1) (λ_=>Z 6) λ_=>C)=if VI f≠0 then Z (VI f)else C:=by
 rw[du,UG,Uq];by_cases c:(Wz f.1).2=0;rotate_left
 ·simp_all[VI,zy,zx]
 rw[zy c,wy m,UG,Uq];by_cases d:(VA f.2).2=0;rotate_left
 ·simp_all[VI,zx,Wz,zy]
 rw[zy d,Uq];by_cases g:f.1.1=f.2.1.1;rotate_left
 ·simp_all[VI,zx,Wz,VA,zy]
 have e:VI f=0:=by simp_all[VI,zx,Wz,VA]
 simp_all
theorem yT{f:VV}(b:f.1.2.length<=1000000)(a:f.2=zS\/VSt f.2):ZW (f,f)=zo zt:=by
 unfold ZW aW;rw[Uk,zy rfl,cj f.1.2 (by omega),UG,UG,Tj,mV a];rfl
end
section
open Go Sv
def XN(f:VV):VV×Int:=
 if VI f≠0 then(zF,VI f)
 else if f.1.2.length=0 then(f,0)
 else if eA f=zt then(zF,10)
 else if(fC f.2 f.1.2).2≠0 then(zF,(fC f.2 f.1.2).2)
 else(((f.1.1,[]),(fC f.2 f.1.2).1),0)
theorem cy{f:VV}(h:VI f=0):f.1.2.length<=16:=by
 have a:=dv (WF h).1;have:=a.len;have:=a.m2;omega
theorem ki{f:VV}(m:Sm f.2):Wx f=zo (XN f):=by
 unfold Wx XN;refine(w9 m (λe=>zo (zF,e)) _).trans ?_;by_cases h:VI f=0;rotate_left
 ·simp_all
 rw[zx (by simp[h]),zx (by simp[h])];have v:=(WF h).2.1;have d:=cy h;simp only[VE,VC];rw[Uk];by_cases b:f.1.2.length=0
 ·rw[zy (by omega),zy b];rfl
 rw[zx (by omega),zx b,um v.lev,UG];simp only;rw[Uq,zy rfl];cases c:eA f with
 |true=>rfl
 |false=>
  rw[wx,aq,TA,zx (show ¬ zf=zt by decide),lT m (by omega),UG,Uq];by_cases a:(fC f.2 f.1.2).2=0
  ·rw[zy a,zx (by simp[a])];rfl
  ·rw[zx a,zy a];rfl
end
section
open Go Sv
def kN(k:Nat):YF:=[126,110,101,119,F2 (97+k / 26),F2 (97+k % 26)]
def AAh(k:YF):Prop:=¬ (4<=k.length/\Ug k 0 4=[126,110,101,119])
def zX(f:VV):Int:=f.1.1-(f.1.2.length:Int)+f.1.1*(2-((VD f.2.1.2 0).length:Int))
structure FI (n k:Nat) (f:VV):Prop where
 fr:VI f=0
 nx:f.2.2.2<=900000+(k:Int)
 key:∀ y∈f.1.2,AAh y.1 \/ ∃ j<k,y.1=kN j
 val:(k:Int)+zX f=(n:Int)
theorem zR{b:VU}(h:Bf b):(Wz b).2=0:=by
 unfold Wz;have:=h.m1;have:=h.m2;have:=h.len;rw[zx (by omega),zx (by omega)];exact cS.2 ⟨h.ok,h.asc⟩
theorem nX{f:VV}(a:Bf f.1)(b:VSt f.2)(c:f.1.1=f.2.1.1):VI f=0:=by
 unfold VI;rw[zx (by simp[zR a]),zx (by simp[VH.2 b]),zx (by simp[c])]
end
section
open Go Sv
abbrev FrS:=(Int×(Bool×(Int×((List U7)×(Int×((List (List VU))×((List Job)×Int)))))))
def mkF(k:Nat)(f:VV):FrS:=((k:Int),(zf,(f.1.1,(f.1.2,(f.2.1.1,(f.2.1.2,f.2.2))))))
end
section
open Go Sv
def WO(f:Nat->Nat):Nat->Nat
 |0=>0
 |m+1=>WO f m+f m
theorem dL{f g:Nat->Nat}:∀ {m:Nat},(∀ i,i<m->g i<=f i)->WO g m<=WO f m
 |0,_=>eb _
 |m+1,h=>Nat.add_le_add (dL λi hi=>h i (by omega)) (h m (by omega))
theorem fB{f g:Nat->Nat}{n:Nat}(a:g n+1<=f n):∀ {m:Nat},n<m->(∀ i,i<m->i≠n->g i<=f i)->WO g m+1<=WO f m
 |0,h,_=>absurd h (by omega)
 |m+1,h,ho=>by
  unfold WO;by_cases e:n=m
  ·subst e;have:=dL (f:=f) (g:=g) (m:=n) λi hi=>ho i (by omega) (by omega);omega
  ·have:=fB a (m:=m) (by omega) λi hi=>ho i (by omega)
   grind
theorem fm{f g:Nat->Nat}{n:Nat}(a:g n+g (n+1)+1<=f n+f (n+1)):∀ {m:Nat},n+1<m->(∀ i,i<m->i≠n->i≠n+1->g i<=f i)->WO g m+1<=WO f m
 |0,h,_=>absurd h (by omega)
 |m+1,h,ho=>by
  unfold WO;by_cases e:n+1=m
  ·subst e;have:=dL (f:=f) (g:=g) (m:=n) λi hi=>ho i (by omega) (by omega) (by omega);unfold WO;omega
  ·have:=fm a (m:=m) (by omega) λi hi=>ho i (by omega)
   grind
theorem bQ:∀ {js:List Job} {j:Job},(js.map (·.1)).Nodup->j∈js->V5 js j.1=zo j
 |[],_,_,h=>by cases h
 |i::js,j,hn,h=>by
  rw[hI,li]at hn;unfold V5;rw[s8];unfold gG;rw[XL];rcases List.mem_cons.1 h with e|h
  ·grind
  ·have a:¬ j.1=i.1:=λe=>hn.1 (by grind);rw[decide_eq_false a];exact bQ hn.2 h
theorem fR:∀ {js:List Job} {i:Nat} {j:Job} (w:ZP) (d:Int),(js.map (·.1)).Nodup->js[i]?=zo j->V5 (js.set i (j.1,w)) d=if d=j.1 then zo (j.1,w)else V5 js d
 |[],i,j,w,d,_,h=>by simp at h
 |x::js,0,j,w,d,hn,h=>by
  grind [V5,gG,XL]
 |x::js,i+1,j,w,d,hn,h=>by
  rw[hI,li]at hn;have h':js[i]?=zo j:=by grind
  have a:=fR w d hn.2 h';unfold V5 at a ⊢;rw[List.set_cons_succ,s8,s8,a];have b:gG d x=decide (d=x.1):=XL _ _
  grind
theorem VSt.noJob{s:U8}(v:VSt s){i:Nat}(h:(VD s.1.2 i).length≠2):V5 s.2.1 (i:Int)=zn:=by
 refine aa λa=>h ?_;rw[v.due]at a;obtain⟨n,c,d,e,b⟩:=gO a;have:i=n:=by omega
 rw[this,ZH.1 b];rfl
theorem VSt.hasJob{s:U8}(v:VSt s){i:Nat}(h:(VD s.1.2 i).length=2):∃ j,V5 s.2.1 (i:Int)=zo j:=by
 have a:=f9 (i:=0) h;rw[hM,<- v.due]at a;obtain⟨j,b,e⟩:=List.mem_map.1 a;exact⟨j,by rw[<- e];exact bQ v.nodup b⟩
theorem VSt.jobAt{s:U8}(v:VSt s){i:Nat}{j:Job}(h:V5 s.2.1 (i:Int)=zo j):JobAt s.1 i j:=by
 obtain⟨b,e⟩:=eI h;obtain⟨n,a⟩:=v.job j b
 have:n=i:=by
  obtain⟨_,_,_,_,_,rfl,_⟩:=a;omega
 simp_all
theorem jQ{s:U8}(v:VSt s)(d:Int):dZ s d=V5 s.2.1 d:=by
 by_cases h:d∈VF 0 s.1.2
 ·obtain⟨j,n,a,hd,b,_⟩:=v.atDue h;rw[a,hd,<- b];refine(bQ v.nodup ?_).symm
  grind [dZ]
 ·rw[aa (by rw[v.due];exact h)];unfold dZ;split
  ·rename_i i hi;have:=(jU hi).2
   grind
  ·rfl
def ui(j:Job):Nat:=j.2.2.2.2.toNat
theorem JobAt.rd{L:VB}{n:Nat}{j:Job}(h:JobAt L n j):∃ a b,VD L.2 n=[a,b]/\ui j<=b.2.length+a.2.length/\VW L j=b.2.length+a.2.length-ui j/\(0<VW L j->ui (j.1,am L j)=ui j+1):=by
 obtain⟨a,b,c,k,e,rfl,g,f,v0,v1⟩:=h;have d:=ZH.1 e;have e1:(Ww b.2 a.2 c k).2.1.2.2=c:=di _ _ _ _;have e2:(Ww b.2 a.2 c k).2.2.2.toNat=k:=by rfl
 refine⟨a,b,d,?_,?_,λ_=> ?_⟩
 ·show(Ww b.2 a.2 c k).2.2.2.toNat<=_;omega
 ·simp_all[VW,ui,bl]
 ·show(am L ((n:Int),Ww b.2 a.2 c k)).2.2.2.toNat=(Ww b.2 a.2 c k).2.2.2.toNat+1;unfold am;simp only[bl,d];rfl
structure StepF (s:U8) (n:Nat) (j:Job) (t:U8) (b:Bool):Prop where
 job:V5 s.2.1 (n:Int)=zo j
 read:0<VW s.1 j->b=zf/\t.1=s.1/\t.2.2=s.2.2 /\ ∀ i:Nat,V5 t.2.1 (i:Int)=if i=n then zo (j.1,am s.1 j)else V5 s.2.1 (i:Int)
 inst:VW s.1 j=0->b=zt/\t.1=W6 s j/\t.2.2=Z5 s j/\(∀ i,(VD t.1.2 i)=if WC j≠[]/\i=an s j then(if i=n then[]else VD s.1.2 i)++[(s.2.2,WC j)]else if i=n then[]else VD s.1.2 i)/\(an s j=n\/an s j=n+1/\n+1<12/\(WC j≠[]->(VD s.1.2 (n+1)).length<2)) /\
  ∀ i:Nat,V5 t.2.1 (i:Int)=if(VD t.1.2 i).length=2 then zo ((if i=n then zn else V5 s.2.1 (i:Int)).getD (YH t.1 (i:Int)))else zn
theorem jx{s0 s:U8}(g:Gd s0 s){d:Int}(h:d∈VF 0 s.1.2)(e:(YE s d).2.2=0):∃ (n:Nat) (j:Job),d=(n:Int)/\n<12/\JobAt s.1 n j/\Xo s.1 j=zt/\StepF s n j (YE s d).1 (YE s d).2.1/\Gd s0 (YE s d).1:=by
 obtain⟨v,S,hc⟩:=g;have O:=cV hc;have m:=v.sm;obtain⟨c,t,b,Y,_,B,_,hg⟩:=ly ⟨v,S,hc⟩ h;rw[ft m O]at B;have L:=Option.some.inj B;obtain⟨i,j,n,hi,P,hd,F,I⟩:=ku v h;have hz:(VA s).2=0:=VH.2 v;have E:dZ s d=zo j:=by unfold dZ;simp_all
 have U:n<12:=by
  have:=v.lev.len;obtain⟨_,_,_,_,Z,_⟩:=I
  grind
 have w:V5 s.2.1 (n:Int)=zo j:=by rw[<- hd,<- jQ v,E]
 have hS:YE s d=Zx s j:=by simp_all[YE,zx]
 have q:Gd s0 (YE s d).1:=by grind
 have a:=q.1;rw[hS]at e a q ⊢;refine⟨n,j,hd,U,I,?_,⟨w,λG=> ?_,λG=> ?_⟩,q⟩
 ·unfold Zx at e
  grind
 ·unfold Zx at e ⊢;have k:¬ Xo s.1 j=zf:=λk=>by simp_all
  rw[zx k,zy G];refine⟨rfl,rfl,rfl,λo=> ?_⟩;show V5 (cc s j).2.1 _=_;unfold cc;rw[F,<- hd,hi,Option.getD_some];show V5 (s.2.1.set i (d,am s.1 j)) _=_;have:=fR (am s.1 j) (o:Int) v.nodup P
  grind
 ·unfold Zx at e a ⊢;have k:¬ Xo s.1 j=zf:=λk=>by simp_all
  have J:Xo s.1 j=zt:=by simp_all
  have r:¬ 0<VW s.1 j:=by omega
  rw[zx k,zx r]at e a ⊢;unfold bf at e a ⊢;rw[zx (λh=>h.elim r k)]at e a ⊢;by_cases M:s.2.2>1000000/\WC j≠[]
  ·simp_all
  rw[zx M]at e a ⊢;have C:j.1.toNat=n:=by omega
  have z:∀ i,VD (W6 s j).2 i=_:=λi=>XZ (s:=s) (j:=j) C i;refine⟨rfl,rfl,rfl,z,?_,λo=> ?_⟩
  ·unfold an;rw[C];by_cases hs:YJ s.1 j=zt
   ·simp_all
   ·rw[zx hs]
    have X:aM s.1 (n+1)=zt:=by
     simp_all[Xo]
    have A:=of_decide_eq_true X;exact .inr ⟨rfl,A.1,λ_=>A.2⟩
  ·have p:VSt (Zp s (W6 s j) (Z5 s j) j.1):=a;show V5 (Zp s (W6 s j) (Z5 s j) j.1).2.1 (o:Int)=if(VD (W6 s j).2 o).length=2 then zo ((if o=n then zn else V5 s.2.1 (o:Int)).getD (YH (W6 s j) (o:Int)))else zn
   have W:(VD (Zp s (W6 s j) (Z5 s j) j.1).1.2 o)=VD (W6 s j).2 o:=rfl;by_cases D:(VD (W6 s j).2 o).length=2
   ·rw[zy D];have K:=f9 (i:=0) D;rw[hM]at K;have y:YS s (W6 s j) j.1 (o:Int)∈(Zp s (W6 s j) (Z5 s j) j.1).2.1:=List.mem_map_of_mem K
    have u:(YS s (W6 s j) j.1 (o:Int)).1=(o:Int):=by
     have N:(VF 0 (W6 s j).2).map (λd=>(YS s (W6 s j) j.1 d).1)=VF 0 (W6 s j).2:=by
      have:=p.due
      simp_all[Zp,List.map_map,Function.comp_def]
     have key:∀ {l:List Int} {f:Int->Int},l.map f=l -> ∀ x∈l,f x=x:=by
      intro l f
      induction l<;>simp_all
     grind
    have:=bQ p.nodup y;rw[u]at this;rw[this];unfold YS
    grind
   ·rw[zx D];exact p.noJob (by rw[W];exact D)
end
section
open Go Sv
def oR(s:U8)(i:Nat):Nat:=match V5 s.2.1 (i:Int)with
 |some j=>ui j
 |none=>0
def gP(N:Nat)(s:U8)(i:Nat):Nat:=(VD s.1.2 i).length*(N+1)-oR s i
def al(N:Nat)(s:U8):Nat:=WO (gP N s) 12
theorem ko{L:VB}{n:Nat}{a b:VU}(h:VD L.2 n=[a,b]):a.2.length+b.2.length<=VM L.2.flatten:=by
 obtain⟨p,q,c,_⟩:=Y5 L n []
 grind [Xs,Wl]
theorem VSt.rd0{s:U8}(v:VSt s){i:Nat}(h:(VD s.1.2 i).length≠2):oR s i=0:=by
 unfold oR;rw[v.noJob h]
theorem oM{N:Nat}{s t:U8}{n:Nat}{j:Job}{b:Bool}(v:VSt s)(A:VM s.1.2.flatten<=N)(l:n<12)(q:JobAt s.1 n j)(F:StepF s n j t b):al N t+1<=al N s:=by
 obtain⟨D,E,f,B,C,w⟩:=q.rd;have hc:=ko f
 have hs:gP N s n=2*(N+1)-ui j:=by
  unfold gP oR;rw[F.job,f];rfl
 by_cases k:0<VW s.1 j
 ·obtain⟨_,e1,_,e2⟩:=F.read k;refine fB (n:=n) ?_ l λi _ a=> ?_
  ·have g:gP N t n=2*(N+1)-(ui j+1):=by
    unfold gP oR;rw[e2,zy rfl,e1,f,<- w k];rfl
   omega
  simp_all[gP,oR,zx,eb]
 ·obtain⟨_,e1,_,e2,e3,e4⟩:=F.inst (by omega)
  have d:∀ i,i≠n -> ¬ (WC j≠[]/\i=an s j)->gP N t i<=gP N s i:=λi a hit=>by
   have x:VD t.1.2 i=VD s.1.2 i:=by simp_all
   have c:oR t i=oR s i:=by
    by_cases c:(VD s.1.2 i).length=2
    ·obtain⟨j',u⟩:=v.hasJob c
     simp_all[oR,zy,zx]
    ·rw[v.rd0 c]
     simp_all[oR,zx]
   unfold gP;grind
  by_cases g:WC j≠[]/\an s j≠n
  ·obtain⟨m,y⟩:=g;rcases e3 with e3|⟨e3,e,c⟩
   ·omega
   have c:=c m;refine fm (n:=n) ?_ e λi _ a r=>d i a (by omega)
   have o:gP N t n=0:=by
    unfold gP;rw[e2,zx (by rw[e3];omega),zy rfl];simp
   have p:gP N t (n+1)<=((VD s.1.2 (n+1)).length+1)*(N+1):=by
    simp_all[gP,zy,zx,s6,x6]
   have z:gP N s (n+1)=(VD s.1.2 (n+1)).length*(N+1):=by
    unfold gP;rw[v.rd0 (by omega)];rfl
   rw[sp]at p;omega
  ·refine fB (n:=n) ?_ l λi _ a=>d i a (λh=>g ⟨h.1,by omega⟩)
   have o:gP N t n<=1*(N+1):=by
    refine U6 (x6 _ _) (Nat.mul_le_mul_right _ ?_);rw[e2,zy rfl]
    grind
   omega
theorem gV(L:List (List VU)):∀ m,WO (λi=>(VD L i).length) m=(L.take m).flatten.length
 |0=>by simp[WO]
 |m+1=>by
  unfold WO;rw[gV L m];by_cases h:m<L.length
  ·grind [VD,gs,Xn,ol]
  ·have:VD L m=[]:=by unfold VD;rw[a9 (by omega)];rfl
   grind [ey]
theorem lR(f:Nat->Nat)(c:Nat):∀ m,WO (λi=>f i*c) m=WO f m*c
 |0=>by simp[WO]
 |m+1=>by simp_all[WO,lR,sp]
theorem oL(N:Nat){s:U8}(v:VSt s):al N s<=s.1.2.flatten.length*(N+1):=by
 have a:al N s<=WO (λi=>(VD s.1.2 i).length*(N+1)) 12:=dL λi _=>x6 _ _;have:=v.lev.len
 simp_all[lR,gV,ey]
theorem nU{L:VB}(v:VLev L):L.2.flatten.length<=24:=by
 have h:=gV L.2 12;have:=v.len;rw[ey (by omega)]at h;rw[<- h];exact dL (f:=λ_=>2) λi _=>(v.own i).1
end
section
open Go Sv
def Wv(s:U8):Int:=if(Wr s).2≠0 then(Wr s).2 else(YE s (Wr s).1).2.2
def Z6(s:U8):U8:=(YE s (Wr s).1).1
def fH(s:U8):Int×Bool:=((Wr s).1,(YE s (Wr s).1).2.1)
def WX:Nat->U8->U8×(List (Int×Bool)×Int)
 |0,s=>(s,([],0))
 |n+1,s=>if Wv s=4 then(s,([],0))else if Wv s≠0 then(s,([],Wv s))else((WX n (Z6 s)).1,(fH s::(WX n (Z6 s)).2.1,(WX n (Z6 s)).2.2))
theorem cW{s:U8}:∀ {l:List Int} {d:Int},Xu s l=zo d -> ∃ p q,l=p++d::q/\(YG zf (λs j=>(Xo s.1 j,0)) s d).1=zt /\ ∀ x∈p,¬ (YG zf (λs j=>(Xo s.1 j,0)) s x).1=zt
 |[],_,h=>by cases h
 |x::l,d,h=>by
  unfold Xu at h;split at h
  ·rename_i a;cases h;exact⟨[],l,rfl,a,λ_ h=>by cases h⟩
  ·rename_i a;obtain⟨p,q,rfl,b,c⟩:=cW h
   grind
theorem eR{s:U8}(v:VSt s):((Wr s).2=4/\s.2.1=[])\/(Wr s).2=9\/((Wr s).2=0/\(Wr s).1∈VF 0 s.1.2):=by
 have a:(VA s).2=0:=VH.2 v;unfold Wr;rw[zx (by simp[a])];by_cases h:VF 0 s.1.2=[]
 ·rw[zy h];refine .inl ⟨rfl,?_⟩;have:=v.due
  simp_all
 ·rw[zx h];cases hc:Xu s (VF 0 s.1.2)with
  |none=>simp_all
  |some d=>
   obtain⟨p,q,e,_⟩:=cW hc
   simp_all
theorem mY(s:U8)(j:Job):(Zx s j).2.2≠4:=by
 grind [Zx,bf]
theorem od{s:U8}(v:VSt s){d:Int}(h:d∈VF 0 s.1.2):(YE s d).2.2≠4:=by
 have b:(VA s).2=0:=VH.2 v;obtain⟨j,n,a,_⟩:=v.atDue h;unfold YE;rw[zx (by simp[b]),a];exact mY s j
theorem dF{s0 s:U8}(g:Gd s0 s):WU s=zo (Wr s)/\aX s=zo (Wr s):=⟨uD g.1.sm,mL g.1.sm⟩
theorem jG{s0 s:U8}(g:Gd s0 s)(d:Int):WG (s,d)=zo (YE s d)/\aY (s,d)=zo (YE s d):=
 ⟨ft g.1.sm (cV g.2.2) d,mM g.1.sm (cV g.2.2) d⟩
theorem iZ{s0 s:U8}(g:Gd s0 s)(e:Wv s=0):(Wr s).2=0/\(Wr s).1∈VF 0 s.1.2/\(YE s (Wr s).1).2.2=0:=by
 unfold Wv at e;rcases eR g.1 with h|h|h<;>simp_all
theorem YD{s0 s:U8}(g:Gd s0 s)(e:Wv s=0):∃ (n:Nat) (j:Job),(fH s).1=(n:Int)/\n<12/\JobAt s.1 n j/\Xo s.1 j=zt/\StepF s n j (Z6 s) (fH s).2/\Gd s0 (Z6 s):=by
 obtain⟨_,a,b⟩:=iZ g e;exact jx g a b
theorem ib{s0 s:U8}(g:Gd s0 s)(e:Wv s=4):(Wr s).2=4/\s.2.1=[]:=by
 unfold Wv at e;rcases eR g.1 with h|h|h
 ·exact h
 ·omega
 ·rw[zx (by simp[h.1])]at e;exact absurd e (od g.1 h.2)
theorem de{s0 s:U8}{N:Nat}(g:Gd s0 s)(a:VM s.1.2.flatten<=N)(e:Wv s=0):al N (Z6 s)+1<=al N s/\VM (Z6 s).1.2.flatten<=N:=by
 obtain⟨n,j,_,d,c,_,F,_⟩:=YD g e;refine⟨oM g.1 a d c F,?_⟩;by_cases b:0<VW s.1 j
 ·rw[(F.read b).2.1];exact a
 ·rw[(F.inst (by omega)).2.1];exact U6 (g9 g.1 (cV g.2.2) c b) a
theorem bK{s0:U8}{N:Nat}:∀ {n:Nat} {s:U8},Gd s0 s->VM s.1.2.flatten<=N->(WX n s).2.1.length<=n/\(WX n s).2.1.length+al N (WX n s).1<=al N s/\Gd s0 (WX n s).1/\VM (WX n s).1.1.2.flatten<=N/\((WX n s).2.2=0->(WX n s).2.1.length<n->(WX n s).1.2.1=[])
 |0,s,g,hN=>⟨eb _,by simp[WX],g,hN,λ_ h=>absurd h (by simp[WX])⟩
 |n+1,s,g,hN=>by
  unfold WX;by_cases b:Wv s=4
  ·rw[zy b];exact⟨by simp,by simp,g,hN,λ_ _=>(ib g b).2⟩
  ·rw[zx b];by_cases a:Wv s=0
   ·rw[zx (by simp[a])];obtain⟨_,_,_,_,_,_,_,c⟩:=YD g a;obtain⟨e,d⟩:=de g hN a;obtain⟨f,i,j,k,l⟩:=bK (n:=n) c d
    grind
   simp_all
def yV(u:jP)(x:Int×Bool):jP:=(TI .i64 u.1 1,(u.2.1,(if x.2=zt then TI .i64 u.2.2.1 1 else u.2.2.1,bmp u.2.2.2 x.1.toNat x.1.toNat)))
def uu(u:jP)(l:List (Int×Bool)):jP:=l.foldl yV u
end
end Go.Proofs.YtoefnfbpoabinabGreatDoor.Pl
