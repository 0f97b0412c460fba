/- Functions of the program and of the specification as plain functions, and laws about them. No condition. -/
import Derived.Test.YtiehjicadcamiaaGreatPl2
import Derived.KernelRfl
set_option linter.all false
open List renaming find?_cons->ee, getElem?_eq_some_iff->aa, getElem?_of_mem->ci, length_cons->ae, map_cons->oy, mem_cons->bl, mem_map_of_mem->hI, mem_of_getElem?->ad, mem_of_mem_take->iP, nodup_cons->l6, take_add_one->kd
open Nat renaming add_comm->x8, le_refl->a9, le_trans->x9, zero_add->dc
open Int renaming toNat_natCast->ab
open Option renaming filter->oj, none_or->xk, or_assoc->ey
open UInt8 renaming ofNat->x6
open Option renaming some->zo, none->zn
open Bool renaming true->zt, false->zf
namespace Go.Proofs.YtiehjicadcamiaaGreat.Pl
section
open Go Sv
def Zv(f:Nat->Option UD):Nat->Nat->Option UD
 |_,0=>zn
 |i,m+1=>(f i).or (Zv f (i+1) m)
theorem gC(f:Nat->Option UD):∀ (m i:Nat),Zv f (i+1) m=Zv (λj=>f (j+1)) i m
 |0,_=>rfl
 |m+1,i=>by
  show(f (i+1)).or (Zv f (i+1+1) m)=(f (i+1)).or (Zv (λj=>f (j+1)) (i+1) m);rw[gC f m (i+1)]
theorem Yf{f g:Nat->Option UD}:∀ (m i:Nat),(∀ j,i<=j->j<i+m->f j=g j)->Zv f i m=Zv g i m
 |0,_,_=>rfl
 |m+1,i,h=>by
  show(f i).or (Zv f (i+1) m)=(g i).or (Zv g (i+1) m);rw[h i (by omega) (by omega),Yf m (i+1) λj a b=>h j (by omega) (by omega)]
theorem cC:∀ (m i:Nat),Zv (λ_=>zn) i m=zn
 |0,_=>rfl
 |m+1,i=>by show(zn:Option UD).or _=_;rw[xk];exact cC m (i+1)
theorem am(f:Nat->Option UD):∀ (p i q:Nat),Zv f i (p+q)=(Zv f i p).or (Zv f (i+p) q)
 |0,i,q=>by rw[dc];rfl
 |p+1,i,q=>by
  rw[show p+1+q=(p+q)+1 by omega];show(f i).or (Zv f (i+1) (p+q))=((f i).or (Zv f (i+1) p)).or (Zv f (i+(p+1)) q);rw[am f p (i+1) q,ey,show i+1+p=i+(p+1) by omega]
theorem aG(k:XU):∀ (ls:List (List Ua)) (K:Nat),ls.length<=K->Vk (VK ls) k=Zv (λj=>Vk (UI ls j).reverse k) 0 K
 |[],K,_=>by
  have:(λj=>Vk (UI [] j).reverse k)=λ_=>zn:=by
   funext j;have:UI [] j=[]:=rfl
   rw[this];rfl
  rw[this,cC];rfl
 |rs::ls,0,h=>by simp at h
 |rs::ls,K+1,h=>by
  have e:VK (rs::ls)=rs.reverse++VK ls:=rfl;rw[e,cv,aG k ls K (by simpa using h)];show _=(Vk (UI (rs::ls) 0).reverse k).or (Zv (λj=>Vk (UI (rs::ls) j).reverse k) (0+1) K);rw[gC];rfl
theorem ga{s:UC}(v:VSt s)(C:jC s.1){n:Nat}{j:Job}(r:JobAt s.1 n j)(E:¬ 0<UY s.1 j)(hc:WR s.1 j=zt)(G:U8 j≠[]->s.2.2<=1000000):LK (Vw s j)=LK s.1:=by
 have F:=gB v C r E hc G;obtain⟨W,X,L,Y,Z⟩:=r.out v.lev (C n);have d:j.1.toNat=n:=by rw[L];simp
 obtain⟨b,c,q,m,B,f,P,t,M,N⟩:=r;have K:=YS.1 B
 have O:UY s.1 j=c.2.length+b.2.length-m:=by
  rw[f];unfold UY;simp only[ab,B];show c.2.length+b.2.length-((m:Int)).toNat=_;rw[ab]
 have u:m=c.2.length+b.2.length:=by omega
 subst u
 have p:∀ k,Uu (U8 j) k=((Uu c.2 k).or (Uu b.2 k)).filter λx=> !(q&&x.2.2.1):=λk=>by
  rw[f];exact oq N M q k
 refine jR λk=> ?_;have S:=F.lev.len;have U:=v.lev.len;rw[aG k _ 14 (by omega),aG k _ 14 (by omega)];rw[show 14=n+(1+(13-n)) by omega,am,am _ n 0];have w:Yl s j=n\/Yl s j=n+1:=by unfold Yl;rw[d];split<;>omega
 have l:Zv (λi=>Vk (UI (Vw s j).2 i).reverse k) 0 n=Zv (λi=>Vk (UI s.1.2 i).reverse k) 0 n:=Yf _ _ λi _ hi=>by
  rw[WG d,zx (by rintro⟨_,h⟩;omega),zx (by omega)]
 rw[l];generalize Zv (λi=>Vk (UI s.1.2 i).reverse k) 0 n=A
 have y:Zv (λi=>Vk (UI (Vw s j).2 i).reverse k) (0+n) (1+(13-n))=(Uu (U8 j) k).or (Zv (λi=>Vk (UI s.1.2 i).reverse k) (n+1) (13-n)):=by
  rw[dc,x8 1];show(Vk (UI (Vw s j).2 n).reverse k).or (Zv (λi=>Vk (UI (Vw s j).2 i).reverse k) (n+1) (13-n))=_;by_cases a:U8 j=[]
  ·rw[WG d,zx (by simp[a]),zy rfl,a];refine congrArg _ (Yf _ _ λi hi _=> ?_);rw[WG d,zx (by simp[a]),zx (by omega)]
  ·rcases w with ht|ht
   ·rw[WG d,zy ⟨a,ht.symm⟩,zy rfl]
    have e:Vk (([]:List Ua)++[(s.2.2,U8 j)]).reverse k=Uu (U8 j) k:=by
     show(Uu (U8 j) k).or zn=_;cases Uu (U8 j) k<;>rfl
    rw[e];refine congrArg _ (Yf _ _ λi hi _=> ?_);rw[WG d,zx (by rintro⟨_,h⟩;omega),zx (by omega)]
   ·rw[WG d,zx (by rintro⟨_,h⟩;omega),zy rfl];have D:=F.to12 a;rw[show 13-n=(12-n)+1 by omega];show(zn:Option UD).or ((Vk (UI (Vw s j).2 (n+1)).reverse k).or (Zv _ (n+1+1) (12-n)))=(Uu (U8 j) k).or ((Vk (UI s.1.2 (n+1)).reverse k).or (Zv _ (n+1+1) (12-n)));rw[WG d,zy ⟨a,ht.symm⟩,zx (by omega),List.reverse_append,xk];have e:Vk ([(s.2.2,U8 j)].reverse++(UI s.1.2 (n+1)).reverse) k=(Uu (U8 j) k).or (Vk (UI s.1.2 (n+1)).reverse k):=rfl;rw[e,ey];refine congrArg _ (congrArg _ (Yf _ _ λi hi _=> ?_));rw[WG d,zx (by rintro⟨_,h⟩;omega),zx (by omega)]
 have o:Zv (λi=>Vk (UI s.1.2 i).reverse k) (0+n) (1+(13-n))=((Uu c.2 k).or (Uu b.2 k)).or (Zv (λi=>Vk (UI s.1.2 i).reverse k) (n+1) (13-n)):=by
  rw[dc,x8 1];show(Vk (UI s.1.2 n).reverse k).or _=_;rw[K];refine congrArg (λz=>Option.or z _) ?_;show(Uu c.2 k).or ((Uu b.2 k).or zn)=_;cases Uu b.2 k<;>rfl
 rw[y,o,p k];cases q with
 |false=>
  have:((Uu c.2 k).or (Uu b.2 k)).filter (λx=> !(zf&&x.2.2.1))=(Uu c.2 k).or (Uu b.2 k):=by
   cases(Uu c.2 k).or (Uu b.2 k)<;>simp[oj]
  rw[this]
 |true=>
  have I:Zv (λi=>Vk (UI s.1.2 i).reverse k) (n+1) (13-n)=zn:=by
   rw[Yf (g:=λ_=>zn) _ _ λi hi _=> ?_,cC];have:UI s.1.2 i=[]:=by unfold UI;rw[List.getElem?_eq_none (by have:=t rfl;omega)];rfl
   rw[this];rfl
  rw[I];cases A with
  |some x=>rfl
  |none=>
   cases(Uu c.2 k).or (Uu b.2 k)with
   |none=>rfl
   |some x=>
    cases J:x.2.2.1<;>simp[oj,Xm,J]
end
section
open Go Sv
end
section
open Go Sv
end
section
open Go Sv
def VE(l:List Ua):Nat:=(l.map λr=>r.2.length).sum
theorem XV(r:Ua)(l:List Ua):VE (r::l)=r.2.length+VE l:=by simp[VE]
theorem Vy(l m:List Ua):VE (l++m)=VE l+VE m:=by simp[VE]
theorem fx{l:List Ua}(h:∀ r∈l,r.2.length<=5000):VE l<=l.length*5000:=by
 induction l with
 |nil=>simp[VE]
 |cons r l a=>
  grind [XV,ae]
def fq(b:Ua):Int×Int:=if b.1<1\/b.1>16 then(0,7)else if(b.2.length:Int)>b.1 then(0,3)else Yz zn 0 b.2
def oW(f:jE):Int:=if(fq f.1).2≠0 then(fq f.1).2 else if(UE f.2).2≠0 then(UE f.2).2 else if f.1.1≠f.2.1.1 then 6 else 0
end
section
open Go Sv
end
section
open Go Sv
end
section
open Go Sv
end
section
open Go Sv
end
section
open Go Sv
end
section
open Go Sv
def Gd(s0 s:UC):Prop:=VSt s/\LK s.1=LK s0.1/\VE s.1.2.flatten<=2000
theorem oR{l:List Ua}{r:Ua}(h:r∈l):r.2.length<=VE l:=by
 induction l with
 |nil=>cases h
 |cons x l a=>
  rw[XV];rcases bl.1 h with e|h
  ·rw[e];omega
  ·have:=a h;omega
theorem Zo{L:UF}(h:VE L.2.flatten<=2000):jC L:=λi r a=>by
 have:=oR (ao.2 ⟨i,a⟩);omega
theorem cZ{s:UC}(v:VSt s)(h:jC s.1){n:Nat}{j:Job}(g:JobAt s.1 n j)(E:¬ 0<UY s.1 j):VE (Vw s j).2.flatten<=VE s.1.2.flatten:=by
 obtain⟨G,I,y,J,K⟩:=g.out v.lev (h n);have w:j.1.toNat=n:=by rw[y];simp
 have a:=h n;obtain⟨d,e,m,k,u,c,x,F,B,C⟩:=g;have i:=YS.1 u;rw[i]at a;have D:=a d (by simp);have f:=a e (by simp)
 have l:(U8 j).length<=e.2.length+d.2.length:=by
  rw[c];exact(ja C B m x (by omega)).2
 obtain⟨p,q,f,o⟩:=YE s.1 n []
 have e1:VE s.1.2.flatten=VE p+((d.2.length+e.2.length)+VE q):=by
  rw[f,i,Vy,Vy,XV,XV];simp[VE]
 have e2:VE (U9 s.1 n []).2.flatten=VE p+VE q:=by rw[o,Vy,Vy];simp[VE]
 unfold Vw;rw[w];by_cases b:U8 j=[]
 ·rw[zy b];omega
 ·rw[zx b];obtain⟨z,A,r,t⟩:=YE (U9 s.1 n []) (Yl s j) (UI (U9 s.1 n []).2 (Yl s j)++[(s.2.2,U8 j)]);have e3:VE (U9 s.1 n []).2.flatten=VE z+(VE (UI (U9 s.1 n []).2 (Yl s j))+VE A):=by rw[r,Vy,Vy]
  rw[t,Vy,Vy,Vy,XV];simp only[VE,List.map_nil,List.sum_nil];simp only[VE]at e3 e2 e1;omega
theorem f6{s:UC}(v:VSt s){d:Int}(h:d∈UJ 0 s.1.2):∃ (i:Nat) (j:Job) (n:Nat),Zq d 0 (UJ 0 s.1.2)=zo i/\s.2.1[i]?=zo j/\d=(n:Int)/\j.1=(n:Int)/\JobAt s.1 n j:=by
 obtain⟨i,hi⟩:=bw (k:=0) h;obtain⟨j,n,a,b,c,d,_⟩:=v.at hi;exact⟨i,j,n,hi,a,b,c,d⟩
theorem gY{s0 s:UC}(g:Gd s0 s){d:Int}(h:d∈UJ 0 s.1.2):∃ (c:Bool) (t:UC) (b:Bool) (e:Int),Xc (s,d)=zo (c,0)/\Un (s,d)=zo (t,(b,e))/\(s.2.2<=1000000->c=decide (e=0))/\(e=0->Gd s0 t):=by
 obtain⟨v,z,hc⟩:=g;have r:=Zo hc;have m:=v.sm;obtain⟨i,j,n,hi,y,C,w,q⟩:=f6 v h;have A:(UE s).2=0:=UO.2 v;have o:bI s d=zo j:=by unfold bI;rw[hi];exact y
 have p:Xc (s,d)=zo (WR s.1 j,0):=by
  rw[rH m];unfold W9;rw[zx (by simp[A]),o]
 have k:Un (s,d)=zo (YU s j):=by
  rw[bj m r];unfold Vm;rw[zx (by simp[A]),o]
 refine⟨WR s.1 j,(YU s j).1,(YU s j).2.1,(YU s j).2.2,p,k,?_⟩;unfold YU;by_cases l:WR s.1 j=zf
 ·rw[zy l,l];exact⟨λ_=>by simp,λh=>by cases h⟩
 have a:WR s.1 j=zt:=by simpa using l
 rw[zx l];by_cases f:0<UY s.1 j
 ·rw[zy f];refine⟨λ_=>by simp[a],λ_=>⟨jh v (by rw[w,<- C];exact hi) y q f,z,hc⟩⟩
 rw[zx f];unfold ZT;rw[zx (λh=>h.elim f l)];by_cases u:s.2.2>1000000/\U8 j≠[]
 ·rw[zy u];exact⟨λh=>by omega,λh=>by cases h⟩
 rw[zx u]
 have x:U8 j≠[]->s.2.2<=1000000:=λD=>by
  by_cases B:s.2.2>1000000
  ·exact absurd ⟨B,D⟩ u
  ·omega
 refine⟨λ_=>by simp[a],λ_=>⟨jN v r q f a x,?_,?_⟩⟩
 ·exact(ga v r q f a x).trans z
 ·have:=cZ v r q f;show VE (Vw s j).2.flatten<=2000;omega
theorem bu:∀ {ls:List (List Ua)} {i n:Nat},(UI ls n).length=2->((i+n:Nat):Int)∈UJ i ls
 |[],i,n,h=>by simp[UI]at h
 |rs::ls,i,0,h=>by
  have h':rs.length=2:=h;rw[Yo,zy h'];simp
 |rs::ls,i,n+1,h=>by
  rw[Yo];refine List.mem_append_right _ ?_;have:=bu (ls:=ls) (i:=i+1) (n:=n) h
  rwa [show i+1+n=i+(n+1) by omega]at this
end
section
open Go Sv
theorem rM{a:Int}(h : -9223372036854775808<=a/\a<=9223372036854775807):Tj .i64 a=a:=by
 have:=Su (a:=a) (b:=0) (by omega);unfold SV at this;rw[Int.add_zero]at this;exact this
end
section
open Go Sv
end
section
open Go Sv
structure WrI (most:Nat) (l:List UD) (R:List UD):Prop where
 asc:Asc zn l
 le:l.length<=most
 len:R.length=most+1
 row:R.take l.length=l
end
section
open Go Sv
structure Bf (b:Ua):Prop where
 m1:1<=b.1
 m2:b.1<=16
 len:(b.2.length:Int)<=b.1
 ok:∀ x∈b.2,kE x=0
 asc:Asc zn b.2
end
section
open Go Sv
end
section
open Go Sv
theorem fh(l:List UD)(b:Bool)(m:b=zf):∃ r,loop (β:=Nat×((Int×Bool)×Unit)) (λa=>br (TK a.1 (l.length:Int)) (λ_=>br (TK a.1 50) (λ_=>SG a.1 λn=>ix l n λi=>br (TI (Mo i.1:Int) 100) (λ_=>zo (.dn ((0,((a.1,zt),()))))) λ_=>SG a.1 λg=>ix l g λj=>br (TI (Mo j.2.1:Int) 100) (λ_=>zo (.dn ((0,((a.1,zt),()))))) λ_=>zo (.nx (SV .i64 a.1 1,a.2))) λ_=>zo (.dn ((1,(a,()))))) λ_=>zo (.dn ((1,(a,()))))) ((0:Int),b)=zo r/\((r.1=1/\r.2.1.2=zf)\/(r.1=0/\r.2.1.2=zt)):=by
 subst m
 exact Zw (l:=l) (σ:=Unit) 50 (by omega) (λk _=>((k:Int),zf)) (λ_ _=>True) (λ(r:Nat×((Int×Bool)×Unit))=>(r.1=1/\r.2.1.2=zf)\/(r.1=0/\r.2.1.2=zt)) () rfl trivial (λk _ h d _=>⟨_,(oT (c:=50) h d _ _ _ rfl),.inl ⟨rfl,rfl⟩⟩) (λk x _ f d _=>by
  simp only;have e:=(aa.1 f).1;rw[rl e,Sp,show TK (k:Int) 50=zt from gA d,Sp,UB,TS f,Te,UB,TS f,Te,UK (by omega)]
  repeat' split
  all_goals simp_all)
def u6(n:Int)(rs:List Ua):Prop:=0<=n/\n<=1000000000 /\ ∀ r∈rs,r.2.length<=5000
theorem ca{rs:List Ua}{k:Nat}(h:∀ r∈rs,r.2.length<=5000)(c:k<=20):VE (rs.take k)<=100000:=by
 have b:=fx (l:=rs.take k) λr a=>h r (iP a)
 grind
theorem gv{L:List (List Ua)}{i:Nat}{rs:List Ua}(hi:L[i]?=zo rs)(n:Int)(b:Bool)(y:b=zf):∃ r,loop (β:=Nat×((Int×(Int×Bool))×Unit)) (λs1=>SG (i:Int) λz=>ix L z λE=>br (TK s1.2.1 (E.length:Int)) (λ_=>br (TK s1.2.1 9) (λ_=>SG (i:Int) λA=>ix L A λF=>SG s1.2.1 λB=>ix F B λf=>bd (loop (λa=>br (TK a.1 (f.2.length:Int)) (λ_=>br (TK a.1 50) (λ_=>SG a.1 λC=>ix f.2 C λs=>br (TI (Mo s.1:Int) 100) (λ_=>zo (.dn (((0:Nat),((a.1,zt),()))))) λ_=>SG a.1 λp=>ix f.2 p λt=>br (TI (Mo t.2.1:Int) 100) (λ_=>zo (.dn ((0,((a.1,zt),()))))) λ_=>zo (.nx (SV .i64 a.1 1,a.2))) λ_=>zo (.dn ((1,(a,()))))) λ_=>zo (.dn ((1,(a,()))))) ((0:Int),s1.2.2)) λd=>br (neq d.1 0) (λ_=>zo (.dn ((1,((SV .i64 s1.1 (f.2.length:Int),(s1.2.1,d.2.1.2)),()))))) λ_=>zo (.nx ((SV .i64 s1.1 (f.2.length:Int),(SV .i64 s1.2.1 1,d.2.1.2))))) λ_=>zo (.dn ((0,(s1,()))))) λ_=>zo (.dn ((0,(s1,()))))) (n,((0:Int),b))=zo r/\((r.1=0/\r.2.1.2.2=zf/\(rs.length<=8->u6 n rs->r.2.1.1=n+(VE rs:Int)))\/(r.1=1/\r.2.1.2.2=zt)):=by
 subst y
 exact Zw (l:=rs) (σ:=Int) 9 (by omega) (λk m=>(m,((k:Int),zf))) (λk m=>u6 n rs->m=n+(VE (rs.take k):Int)) (λ(r:Nat×((Int×(Int×Bool))×Unit))=>(r.1=0/\r.2.1.2.2=zf/\(rs.length<=8->u6 n rs->r.2.1.1=n+(VE rs:Int)))\/(r.1=1/\r.2.1.2.2=zt)) n rfl (λ_=>by simp[VE]) (λk m h g u=>⟨_,by
  rw[UB,TS hi];exact(oT (c:=9) h g _ _ _ rfl),.inl ⟨rfl,rfl,λO e=>by
   grind⟩⟩) (λk x m o g u=>by
  simp only;have j:=(aa.1 o).1;obtain⟨r,D,q⟩:=fh x.2 zf rfl;rw[UB,TS hi,rl j,Sp,show TK (k:Int) 9=zt from gA g,Sp,UB,TS hi,UB,TS o,D,TA,TB,UK (by omega)];rcases q with⟨q,w⟩|⟨q,w⟩
  ·rw[zx (by omega),w];refine .inl ⟨_,rfl,λe=> ?_⟩;have G:=u e
   have I:VE (rs.take (k+1))=VE (rs.take k)+x.2.length:=by
    grind [kd,Vy,VE]
   have J:=e.2.2 x (ad o);have K:=ca (k:=k) e.2.2 (by omega);have M:=e.1;have N:=e.2.1
   grind [Su]
  simp_all)
theorem jK(s:UC)(p:∀ rs∈s.1.2,∀ r∈rs,r.2.length<=9223372036854775807):∃ b,Xq s=zo b/\(b=zf->Sm s/\(VLev s.1->VE s.1.2.flatten<=40)):=by
 unfold Xq;simp only[UH,UG]
 obtain⟨r,U,t⟩:=Zw (l:=s.1.2) (σ:=Int) (s:=((0:Int),(zf,(0:Int)))) 20 (by omega) (λk n=>(n,(zf,(k:Int)))) (λk n=>(∀ i rs,i<k->s.1.2[i]?=zo rs->rs.length<=8)/\(VLev s.1->n=(VE (s.1.2.take k).flatten:Int))) (λ(r:Nat×((Int×(Bool×Int))×Unit))=>(r.1=0/\r.2.1.2.1=zf/\(∀ i rs,i<20->s.1.2[i]?=zo rs->rs.length<=8)/\(VLev s.1->s.1.2.length<=15->r.2.1.1=(VE s.1.2.flatten:Int)))\/(r.1=1/\r.2.1.2.1=zt))
  (f:=λs0=>br (TK s0.2.2 (s.1.2.length:Int)) (λ_=>br (TK s0.2.2 20) (λ_=>bd (loop (λs1=>SG s0.2.2 λk2=>ix s.1.2 k2 λx3=>br (TK s1.2.1 (x3.length:Int)) (λ_=>br (TK s1.2.1 9) (λ_=>SG s0.2.2 λk4=>ix s.1.2 k4 λx5=>SG s1.2.1 λk6=>ix x5 k6 λG=>bd (loop (λq=>br (TK q.1 (G.2.length:Int)) (λ_=>br (TK q.1 50) (λ_=>SG q.1 λk9=>ix G.2 k9 λY=>br (TI (Mo Y.1:Int) 100) (λ_=>zo (.dn (((0:Nat),((q.1,zt),()))))) λ_=>SG q.1 λN=>ix G.2 N λZ=>br (TI (Mo Z.2.1:Int) 100) (λ_=>zo (.dn ((0,((q.1,zt),()))))) λ_=>zo (.nx (SV .i64 q.1 1,q.2))) λ_=>zo (.dn ((1,(q,()))))) λ_=>zo (.dn ((1,(q,()))))) ((0:Int),s1.2.2)) λB=>br (neq B.1 0) (λ_=>zo (.dn (((1:Nat),((SV .i64 s1.1 (G.2.length:Int),(s1.2.1,B.2.1.2)),()))))) λ_=>zo (.nx ((SV .i64 s1.1 (G.2.length:Int),(SV .i64 s1.2.1 1,B.2.1.2))))) λ_=>zo (.dn ((0,(s1,()))))) λ_=>zo (.dn ((0,(s1,()))))) ((s0.1,((0:Int),s0.2.1)))) λo=>br (neq o.1 0) (λ_=>SG s0.2.2 λO=>ix s.1.2 O λx16=>br (TI (x16.length:Int) 8) (λ_=>zo (.dn (((1:Nat),((o.2.1.1,(zt,s0.2.2)),()))))) λ_=>zo (.nx ((o.2.1.1,(o.2.1.2.2,SV .i64 s0.2.2 1))))) λ_=>zo (.dn ((1,((o.2.1.1,(o.2.1.2.2,s0.2.2)),()))))) λ_=>zo (.dn ((0,(s0,()))))) λ_=>zo (.dn ((0,(s0,())))))
  0 rfl ⟨λi rs h=>by omega,λ_=>by simp[VE]⟩ (λk n h u M=>⟨_,(oT (c:=20) h u _ _ _ rfl),.inl ⟨rfl,rfl,λi rs hi p=>M.1 i rs (by grind) p,λD h15=>by
   grind⟩⟩) (λk rs n p u M=>by
   simp only;have w:=(aa.1 p).1;obtain⟨r,U,t⟩:=gv p n zf rfl;rw[rl w,Sp,show TK (k:Int) 20=zt from gA u,Sp,U,TA,TB,UB,TS p,Te,UK (by omega)];rcases t with⟨t,F,q4⟩|⟨t,F⟩
   ·rw[zy t];by_cases h8:(rs.length:Int)>8
    ·simp_all
    ·rw[zx h8,F];refine .inl ⟨_,rfl,λi rs' hi hy=> ?_,λD=> ?_⟩
     ·grind
     ·have I:=M.2 D
      have z:∀ l:List (List Ua),(∀ rs∈l,rs∈s.1.2) -> ∀ r∈l.flatten,r.2.length<=5000:=λl hl r hr=>by
       obtain⟨X,h3,h4⟩:=List.mem_flatten.1 hr;obtain⟨i,hi⟩:=ci (hl X h3);have J:r∈UI s.1.2 i:=by unfold UI;simp_all
       exact((D.own i).2 r J).vl.len
      have L:VE (s.1.2.take (k+1)).flatten=VE (s.1.2.take k).flatten+VE rs:=by
       grind [kd,List.flatten_append,Vy]
      have h3:=ca (k:=20) (rs:=(s.1.2.take k).flatten) (z _ λrs h=>iP h)
      have h4:(s.1.2.take k).flatten.length<=1000:=by
       have J:∀ l:List (List Ua),(∀ rs∈l,rs.length<=2)->l.flatten.length<=2*l.length:=by
        intro l
        induction l<;>grind
       have:=J (s.1.2.take k) λrs h=>D.two rs (iP h)
       grind
      have J:=fx (z (s.1.2.take k) λrs h=>iP h);have h6:u6 n rs:=⟨by omega,by omega,λr hr=>z [rs] (λx hx'=>by grind) r (by grind)⟩
      grind
   simp_all)
 refine(λh=>h) ?_;have fin:∀ {K:(Nat×((Int×(Bool×Int))×Unit))->Option Bool},(∃ b,K r=zo b/\(b=zf->Sm s/\(VLev s.1->VE s.1.2.flatten<=40))) -> ∀ {m:Option (Nat×((Int×(Bool×Int))×Unit))},m=zo r -> ∃ b,bd m K=zo b/\(b=zf->Sm s/\(VLev s.1->VE s.1.2.flatten<=40)):=λh _ e=>by subst e;exact h
 refine fin ?_ U;rw[TB];rcases t with⟨t,F,q4,q5⟩|⟨t,F⟩
 rotate_left
 ·simp_all
 rw[zy t,F]
 obtain⟨r2,p1,S⟩:=Zw (l:=s.2.1) (σ:=Unit) (s:=(zf,(0:Int))) 20 (by omega) (λk _=>(zf,(k:Int))) (λ_ _=>True) (λ(r:Nat×((Bool×Int)×Unit))=>r.1=1\/(r.1=0/\r.2.1.1=zt))
  (f:=λa=>br (TK a.2 (s.2.1.length:Int)) (λ_=>br (TK a.2 20) (λ_=>SG a.2 λP=>ix s.2.1 P λg=>br (TI (g.2.1.1.length:Int) 20) (λ_=>zo (.dn ((0,((zt,a.2),()))))) λ_=>br (TI (g.2.1.2.1.length:Int) 100) (λ_=>zo (.dn ((0,((zt,a.2),()))))) λ_=>br (TI (g.2.1.2.2.1.length:Int) 100) (λ_=>zo (.dn ((0,((zt,a.2),()))))) λ_=>br (TI (g.2.1.2.2.2.1.length:Int) 100) (λ_=>zo (.dn ((0,((zt,a.2),()))))) λ_=>bd (loop (λd=>br (TK d.1 (g.2.1.1.length:Int)) (λ_=>SG d.1 λA=>ix g.2.1.1 A λC=>zo (.nx ((SV .i64 d.1 1,SV .i64 d.2 (C.length:Int))))) λ_=>zo (.dn (((0:Nat),(d,()))))) (((0:Int),(g.2.2.2.1.length:Int)))) λW=>br (TI W.2.1.2 200) (λ_=>zo (.dn ((0,((zt,a.2),()))))) λ_=>zo (.nx (a.1,SV .i64 a.2 1))) λ_=>zo (.dn ((1,(a,()))))) λ_=>zo (.dn ((1,(a,())))))
  () rfl trivial (λk _ h u _=>⟨_,(oT (c:=20) h u _ _ _ rfl),.inl rfl⟩) (λk j _ p u _=>by
   simp only;have w:=(aa.1 p).1;rw[rl w,Sp,show TK (k:Int) 20=zt from gA u,Sp,UB,TS p,Te];by_cases I:(j.2.1.1.length:Int)>20
   ·simp_all
   rw[zx I]
   obtain⟨r3,t1,_⟩:=Wp (l:=j.2.1.1) (σ:=Int) (s:=((0:Int),(j.2.2.2.1.length:Int))) (λk n=>((k:Int),n)) (λ_ _ _=>True) (λ(_:Nat×((Int×Int)×Unit))=>True)
    (f:=λd=>br (TK d.1 (j.2.1.1.length:Int)) (λ_=>SG d.1 λA=>ix j.2.1.1 A λC=>zo (.nx ((SV .i64 d.1 1,SV .i64 d.2 (C.length:Int))))) λ_=>zo (.dn (((0:Nat),(d,())))))
    (j.2.2.2.1.length:Int) rfl (by omega) trivial (λn _=>⟨_,by rw[re];rfl,trivial⟩) (λk y m n hd hy u _=>.inl ⟨SV .i64 n (y.length:Int),by grind [rl,Sp,UB,TS,UK],trivial⟩)
   rw[t1,TA,Te,Te,Te,Te,UK (by omega)]
   repeat' split
   all_goals first|exact .inr ⟨_,rfl,.inr ⟨rfl,rfl⟩⟩|exact .inl ⟨(),rfl,trivial⟩)
 rw[p1,TA,TB];rcases S with S|⟨S,p3⟩
 rotate_left
 ·simp_all
 rw[zx (by omega),Te,Te];by_cases I:r.2.1.1>40
 ·simp_all
 rw[zx I];by_cases L:(s.1.2.length:Int)>15
 ·rw[zy L];exact⟨_,rfl,λh=>by cases h⟩
 rw[zx L];refine⟨_,rfl,λh=>⟨⟨by omega,λrs E=>⟨?_,p rs E⟩,?_⟩,λD=>by have:=q5 D (by omega);omega⟩⟩
 ·obtain⟨i,hi⟩:=ci E;have:=q4 i rs (by have:=(aa.1 hi).1;omega) hi;omega
 grind [TI]
end
section
open Go Sv
end
section
open Go Sv
end
section
open Go Sv
end
section
open Go Sv
end
section
open Go Sv
def kN(k:Nat):XU:=[126,110,101,119,x6 (97+k / 26),x6 (97+k % 26)]
def tV(k:XU):Prop:=¬ (4<=k.length/\TY k 0 4=[126,110,101,119])
def tJ(f:jE):Int:=f.1.1-(f.1.2.length:Int)+f.1.1*(2-((UI f.2.1.2 0).length:Int))
structure FI (n k:Nat) (f:jE):Prop where
 fr:oW f=0
 nx:f.2.2.2<=900000+(k:Int)
 key:∀ y∈f.1.2,tV y.1 \/ ∃ j<k,y.1=kN j
 val:(k:Int)+tJ f=(n:Int)
end
section
open Go Sv
end
section
open Go Sv
def ZG(f:Nat->Nat):Nat->Nat
 |0=>0
 |m+1=>ZG f m+f m
theorem eI{f g:Nat->Nat}:∀ {m:Nat},(∀ i,i<m->g i<=f i)->ZG g m<=ZG f m
 |0,_=>a9 _
 |m+1,h=>Nat.add_le_add (eI λi hi=>h i (by omega)) (h m (by omega))
theorem bH{f g:Nat->Nat}{n:Nat}(a:g n+1<=f n):∀ {m:Nat},n<m->(∀ i,i<m->i≠n->g i<=f i)->ZG g m+1<=ZG f m
 |0,h,_=>absurd h (by omega)
 |m+1,h,ho=>by
  unfold ZG;by_cases e:n=m
  ·subst e;have:=eI (f:=f) (g:=g) (m:=n) λi hi=>ho i (by omega) (by omega);omega
  ·have:=bH a (m:=m) (by omega) λi hi=>ho i (by omega);have:=ho m (by omega) (λh=>e h.symm);omega
theorem bh{f g:Nat->Nat}{n:Nat}(a:g n+g (n+1)+1<=f n+f (n+1)):∀ {m:Nat},n+1<m->(∀ i,i<m->i≠n->i≠n+1->g i<=f i)->ZG g m+1<=ZG f m
 |0,h,_=>absurd h (by omega)
 |m+1,h,ho=>by
  unfold ZG;by_cases e:n+1=m
  ·subst e;have:=eI (f:=f) (g:=g) (m:=n) λi hi=>ho i (by omega) (by omega) (by omega);unfold ZG;omega
  ·have:=bh a (m:=m) (by omega) λi hi=>ho i (by omega);have:=ho m (by omega) (by omega) (by omega);omega
theorem ZK:∀ {js:List Job} {j:Job},(js.map (·.1)).Nodup->j∈js->U4 js j.1=zo j
 |[],_,_,h=>by cases h
 |i::js,j,hn,h=>by
  rw[oy,l6]at hn;unfold U4;rw[ee];unfold cA;rw[Vj];rcases bl.1 h with e|h
  ·subst e;simp
  ·have a:¬ j.1=i.1:=λe=>hn.1 (by rw[<- e];exact hI h);rw[decide_eq_false a];exact ZK hn.2 h
theorem bR:∀ {js:List Job} {i:Nat} {j:Job} (w:Xv) (d:Int),(js.map (·.1)).Nodup->js[i]?=zo j->U4 (js.set i (j.1,w)) d=if d=j.1 then zo (j.1,w)else U4 js d
 |[],i,j,w,d,_,h=>by simp at h
 |x::js,0,j,w,d,hn,h=>by
  have e:x=j:=by simpa using h
  subst e;unfold U4;rw[List.set_cons_zero,ee,ee];unfold cA;rw[Vj];by_cases e:d=x.1<;>simp[e]
 |x::js,i+1,j,w,d,hn,h=>by
  rw[oy,l6]at hn;have h':js[i]?=zo j:=by simpa using h
  have b:=bR w d hn.2 h';unfold U4 at b ⊢;rw[List.set_cons_succ,ee,ee,b];have c:cA d x=decide (d=x.1):=Vj _ _;rw[c];by_cases e:d=x.1
  ·have a:¬ d=j.1:=λe2=>hn.1 (by rw[<- e,e2];exact hI (ad h'));rw[decide_eq_true e];simp only[a,if_false]
  ·rw[decide_eq_false e]
theorem VSt.noJob{s:UC}(v:VSt s){i:Nat}(h:(UI s.1.2 i).length≠2):U4 s.2.1 (i:Int)=zn:=by
 refine Yq λa=>h ?_;rw[v.due]at a;obtain⟨n,c,d,e,b⟩:=cF a;have:i=n:=by omega
 rw[this,YS.1 b];rfl
theorem VSt.hasJob{s:UC}(v:VSt s){i:Nat}(h:(UI s.1.2 i).length=2):∃ j,U4 s.2.1 (i:Int)=zo j:=by
 have a:=bu (i:=0) h;rw[dc,<- v.due]at a;obtain⟨j,b,e⟩:=List.mem_map.1 a;exact⟨j,by rw[<- e];exact ZK v.nodup b⟩
theorem rJ{s:UC}(v:VSt s)(d:Int):bI s d=U4 s.2.1 d:=by
 by_cases h:d∈UJ 0 s.1.2
 ·obtain⟨j,n,a,b,c,_⟩:=v.atDue h;rw[a,b,<- c];refine(ZK v.nodup ?_).symm;unfold bI at a;split at a
  ·exact ad a
  ·cases a
 ·rw[Yq (by rw[v.due];exact h)];unfold bI;split
  ·rename_i i hi;have:=(dk hi).2;exact absurd (ad this) h
  ·rfl
def pO(j:Job):Nat:=j.2.2.2.2.toNat
theorem JobAt.rd{L:UF}{n:Nat}{j:Job}(h:JobAt L n j):∃ a b,UI L.2 n=[a,b]/\pO j<=b.2.length+a.2.length/\UY L j=b.2.length+a.2.length-pO j/\(0<UY L j->pO (j.1,Yy L j)=pO j+1):=by
 obtain⟨a,b,c,k,d,rfl,f,g,i,l⟩:=h;have e:=YS.1 d;have e1:(Vo b.2 a.2 c k).2.1.2.2=c:=aV _ _ _ _;have e2:(Vo b.2 a.2 c k).2.2.2.toNat=k:=by show((k:Int)).toNat=k;rw[ab]
 refine⟨a,b,e,?_,?_,λ_=> ?_⟩
 ·show(Vo b.2 a.2 c k).2.2.2.toNat<=_;rw[e2];exact f
 ·unfold UY pO;simp only[ab,d]
 ·show(Yy L ((n:Int),Vo b.2 a.2 c k)).2.2.2.toNat=(Vo b.2 a.2 c k).2.2.2.toNat+1;unfold Yy;simp only[ab,e];rw[e1,e2];show(((k+1:Nat):Int)).toNat=_;rw[ab]
structure StepF (s:UC) (n:Nat) (j:Job) (t:UC) (b:Bool):Prop where
 job:U4 s.2.1 (n:Int)=zo j
 read:0<UY s.1 j->b=zf/\t.1=s.1/\t.2.2=s.2.2 /\ ∀ i:Nat,U4 t.2.1 (i:Int)=if i=n then zo (j.1,Yy s.1 j)else U4 s.2.1 (i:Int)
 inst:UY s.1 j=0->b=zt/\t.1=Vw s j/\t.2.2=YY s j/\(∀ i,(UI t.1.2 i)=if U8 j≠[]/\i=Yl s j then(if i=n then[]else UI s.1.2 i)++[(s.2.2,U8 j)]else if i=n then[]else UI s.1.2 i)/\(Yl s j=n\/Yl s j=n+1/\n+1<12/\(U8 j≠[]->(UI s.1.2 (n+1)).length<2)) /\
  ∀ i:Nat,U4 t.2.1 (i:Int)=if(UI t.1.2 i).length=2 then zo ((if i=n then zn else U4 s.2.1 (i:Int)).getD (Wn t.1 (i:Int)))else zn
theorem eG{s0 s:UC}(g:Gd s0 s){d:Int}(h:d∈UJ 0 s.1.2)(e:(Vm s d).2.2=0):∃ (n:Nat) (j:Job),d=(n:Int)/\n<12/\JobAt s.1 n j/\WR s.1 j=zt/\StepF s n j (Vm s d).1 (Vm s d).2.1/\Gd s0 (Vm s d).1:=by
 obtain⟨v,Z,hc⟩:=g;have X:=Zo hc;have m:=v.sm;obtain⟨c,t,b,er,_,K,_,Y⟩:=gY ⟨v,Z,hc⟩ h;rw[bj m X]at K;have w:=Option.some.inj K;obtain⟨i,j,n,hi,U,D,u,S⟩:=f6 v h;have hz:(UE s).2=0:=UO.2 v;have C:bI s d=zo j:=by unfold bI;rw[hi];exact U
 have hn:n<12:=by
  have:=v.lev.len;obtain⟨_,_,_,_,W,_⟩:=S;have:=(aa.1 W).1;omega
 have F:U4 s.2.1 (n:Int)=zo j:=by rw[<- D,<- rJ v,C]
 have hS:Vm s d=YU s j:=by unfold Vm;rw[zx (by simp[hz]),C]
 have A:Gd s0 (Vm s d).1:=by rw[w];exact Y (by rw[<- e,w])
 have k:=A.1;rw[hS]at e k A ⊢;refine⟨n,j,D,hn,S,?_,⟨F,λO=> ?_,λO=> ?_⟩,A⟩
 ·unfold YU at e;by_cases a:WR s.1 j=zf
  ·rw[zy a]at e;cases e
  ·simpa using a
 ·unfold YU at e ⊢;have a:¬ WR s.1 j=zf:=λa=>by rw[zy a]at e;cases e
  rw[zx a,zy O];refine⟨rfl,rfl,rfl,λo=> ?_⟩;show U4 (Zy s j).2.1 _=_;unfold Zy;rw[u,<- D,hi,Option.getD_some];show U4 (s.2.1.set i (d,Yy s.1 j)) _=_;have:=bR (Yy s.1 j) (o:Int) v.nodup U;rw[u,<- D]at this;rw[this,D];by_cases p:o=n
  ·rw[zy (by rw[p]),zy p]
  ·rw[zx (by omega),zx p]
 ·unfold YU at e k ⊢;have a:¬ WR s.1 j=zf:=λa=>by rw[zy a]at e;cases e
  have q:WR s.1 j=zt:=by simpa using a
  have z:¬ 0<UY s.1 j:=by omega
  rw[zx a,zx z]at e k ⊢;unfold ZT at e k ⊢;rw[zx (λh=>h.elim z a)]at e k ⊢;by_cases P:s.2.2>1000000/\U8 j≠[]
  ·rw[zy P]at e;cases e
  rw[zx P]at e k ⊢;have B:j.1.toNat=n:=by rw[u];simp
  have I:∀ i,UI (Vw s j).2 i=_:=λi=>WG (s:=s) (j:=j) B i;refine⟨rfl,rfl,rfl,I,?_,λo=> ?_⟩
  ·unfold Yl;rw[B];by_cases hs:WC s.1 j=zt
   ·rw[zy hs];exact .inl rfl
   ·rw[zx hs]
    have hr:ZV s.1 (n+1)=zt:=by
     unfold WR at q;rw[B]at q;simpa[hs,z]using q
    have J:=of_decide_eq_true hr;exact .inr ⟨rfl,J.1,λ_=>J.2⟩
  ·have r:VSt (ZH s (Vw s j) (YY s j) j.1):=k;show U4 (ZH s (Vw s j) (YY s j) j.1).2.1 (o:Int)=if(UI (Vw s j).2 o).length=2 then zo ((if o=n then zn else U4 s.2.1 (o:Int)).getD (Wn (Vw s j) (o:Int)))else zn
   have ho:(UI (ZH s (Vw s j) (YY s j) j.1).1.2 o)=UI (Vw s j).2 o:=rfl;by_cases L:(UI (Vw s j).2 o).length=2
   ·rw[zy L];have N:=bu (i:=0) L;rw[dc]at N;have G:Wt s (Vw s j) j.1 (o:Int)∈(ZH s (Vw s j) (YY s j) j.1).2.1:=hI N
    have E:(Wt s (Vw s j) j.1 (o:Int)).1=(o:Int):=by
     have M:(UJ 0 (Vw s j).2).map (λd=>(Wt s (Vw s j) j.1 d).1)=UJ 0 (Vw s j).2:=by
      have:=r.due;simpa[ZH,List.map_map,Function.comp_def]using this
     have key:∀ {l:List Int} {f:Int->Int},l.map f=l -> ∀ x∈l,f x=x:=by
      intro l f
      induction l with
      |nil=>intro _ x hx;cases hx
      |cons y l ih=>
       intro h x hx;rw[oy]at h;obtain⟨k1,k2⟩:=List.cons.inj h;rcases bl.1 hx with rfl|hx
       ·exact k1
       ·exact ih k2 x hx
     exact key M _ N
    have:=ZK r.nodup G;rw[E]at this;rw[this];unfold Wt;rw[u];by_cases p:o=n
    ·rw[zy (by omega),zy p]
    ·rw[zx (by omega),zx p]
   ·rw[zx L];exact r.noJob (by rw[ho];exact L)
end
section
open Go Sv
def oM(s:UC)(i:Nat):Nat:=match U4 s.2.1 (i:Int)with
 |some j=>pO j
 |none=>0
def db(N:Nat)(s:UC)(i:Nat):Nat:=(UI s.1.2 i).length*(N+1)-oM s i
def oL(N:Nat)(s:UC):Nat:=ZG (db N s) 12
theorem oS{L:UF}{n:Nat}{a b:Ua}(h:UI L.2 n=[a,b]):a.2.length+b.2.length<=VE L.2.flatten:=by
 obtain⟨p,q,c,_⟩:=YE L n [];rw[c,h,Vy,Vy,XV,XV];omega
theorem VSt.rd0{s:UC}(v:VSt s){i:Nat}(h:(UI s.1.2 i).length≠2):oM s i=0:=by
 unfold oM;rw[v.noJob h]
theorem jc{N:Nat}{s t:UC}{n:Nat}{j:Job}{b:Bool}(v:VSt s)(B:VE s.1.2.flatten<=N)(r:n<12)(y:JobAt s.1 n j)(F:StepF s n j t b):oL N t+1<=oL N s:=by
 obtain⟨E,G,l,C,D,z⟩:=y.rd;have hc:=oS l
 have hs:db N s n=2*(N+1)-pO j:=by
  unfold db oM;rw[F.job,l];rfl
 by_cases p:0<UY s.1 j
 ·obtain⟨_,e1,_,e2⟩:=F.read p;refine bH (n:=n) ?_ r λi _ a=> ?_
  ·have m:db N t n=2*(N+1)-(pO j+1):=by
    unfold db oM;rw[e2,zy rfl,e1,l,<- z p];rfl
   omega
  ·unfold db oM;rw[e2,zx a,e1];exact a9 _
 ·obtain⟨_,e1,_,e2,e3,o⟩:=F.inst (by omega)
  have d:∀ i,i≠n -> ¬ (U8 j≠[]/\i=Yl s j)->db N t i<=db N s i:=λi a hit=>by
   have e:UI t.1.2 i=UI s.1.2 i:=by rw[e2,zx hit,zx a]
   have c:oM t i=oM s i:=by
    by_cases c:(UI s.1.2 i).length=2
    ·obtain⟨j',k⟩:=v.hasJob c;unfold oM;rw[o,e,zy c,zx a,k];rfl
    ·rw[v.rd0 c];unfold oM;rw[o,e,zx c]
   unfold db;rw[e,c];exact a9 _
  by_cases m:U8 j≠[]/\Yl s j≠n
  ·obtain⟨q,u⟩:=m;rcases e3 with e3|⟨e3,f,c⟩
   ·exact absurd e3 u
   have c:=c q;refine bh (n:=n) ?_ f λi _ a g=>d i a (by rw[e3];exact λh=>g h.2)
   have w:db N t n=0:=by
    unfold db;rw[e2,zx (by rw[e3];omega),zy rfl];simp
   have x:db N t (n+1)<=((UI s.1.2 (n+1)).length+1)*(N+1):=by
    unfold db;rw[e2,zy ⟨q,e3.symm⟩,zx (by omega),List.length_append];exact Nat.sub_le _ _
   have A:db N s (n+1)=(UI s.1.2 (n+1)).length*(N+1):=by
    unfold db;rw[v.rd0 (by omega)];rfl
   rw[Nat.add_mul]at x;omega
  ·refine bH (n:=n) ?_ r λi _ a=>d i a (λh=>m ⟨h.1,by rw[<- h.2];exact a⟩)
   have w:db N t n<=1*(N+1):=by
    refine x9 (Nat.sub_le _ _) (Nat.mul_le_mul_right _ ?_);rw[e2,zy rfl];split<;>simp
   omega
end
section
open Go Sv
def Vx(s:UC):Int:=if(U0 s).2≠0 then(U0 s).2 else(Vm s (U0 s).1).2.2
def XY(s:UC):UC:=(Vm s (U0 s).1).1
def YZ(s:UC):Int×Bool:=((U0 s).1,(Vm s (U0 s).1).2.1)
def UL:Nat->UC->UC×(List (Int×Bool)×Int)
 |0,s=>(s,([],0))
 |n+1,s=>if Vx s=4 then(s,([],0))else if Vx s≠0 then(s,([],Vx s))else((UL n (XY s)).1,(YZ s::(UL n (XY s)).2.1,(UL n (XY s)).2.2))
theorem Zp{s:UC}:∀ {l:List Int} {d:Int},WX s l=zo d -> ∃ p q,l=p++d::q/\(W9 zf (λs j=>(WR s.1 j,0)) s d).1=zt /\ ∀ x∈p,¬ (W9 zf (λs j=>(WR s.1 j,0)) s x).1=zt
 |[],_,h=>by cases h
 |x::l,d,h=>by
  unfold WX at h;split at h
  ·rename_i a;cases h;exact⟨[],l,rfl,a,λ_ h=>by cases h⟩
  ·rename_i a;obtain⟨p,q,rfl,b,c⟩:=Zp h
   exact⟨x::p,q,rfl,b,λy hy=>by
    rcases bl.1 hy with rfl|hy
    ·exact a
    ·exact c y hy⟩
theorem aq{s:UC}(v:VSt s):((U0 s).2=4/\s.2.1=[])\/(U0 s).2=9\/((U0 s).2=0/\(U0 s).1∈UJ 0 s.1.2):=by
 have a:(UE s).2=0:=UO.2 v;unfold U0;rw[zx (by simp[a])];by_cases h:UJ 0 s.1.2=[]
 ·rw[zy h];refine .inl ⟨rfl,?_⟩;have:=v.due;rw[h]at this;simpa using this
 ·rw[zx h];cases hc:WX s (UJ 0 s.1.2)with
  |none=>exact .inr (.inl rfl)
  |some d=>
   obtain⟨p,q,e,_⟩:=Zp hc;exact .inr (.inr ⟨rfl,by rw[e];simp⟩)
theorem gy(s:UC)(j:Job):(YU s j).2.2≠4:=by
 unfold YU;split
 ·simp
 ·split
  ·simp
  ·unfold ZT;split
   ·simp
   ·split<;>simp
theorem jp{s:UC}(v:VSt s){d:Int}(h:d∈UJ 0 s.1.2):(Vm s d).2.2≠4:=by
 have b:(UE s).2=0:=UO.2 v;obtain⟨j,n,a,_⟩:=v.atDue h;unfold Vm;rw[zx (by simp[b]),a];exact gy s j
theorem YG{s0 s:UC}(g:Gd s0 s):Uw s=zo (U0 s)/\VI s=zo (U0 s):=⟨oN g.1.sm,gn g.1.sm⟩
theorem Z1{s0 s:UC}(g:Gd s0 s)(d:Int):Un (s,d)=zo (Vm s d)/\Vc (s,d)=zo (Vm s d):=
 ⟨bj g.1.sm (Zo g.2.2) d,gp g.1.sm (Zo g.2.2) d⟩
theorem cz{s0 s:UC}(g:Gd s0 s)(e:Vx s=0):(U0 s).2=0/\(U0 s).1∈UJ 0 s.1.2/\(Vm s (U0 s).1).2.2=0:=by
 unfold Vx at e;rcases aq g.1 with h|h|h
 ·rw[zy (by rw[h.1];decide),h.1]at e;cases e
 ·rw[zy (by rw[h];decide),h]at e;cases e
 ·rw[zx (by simp[h.1])]at e;exact⟨h.1,h.2,e⟩
theorem W6{s0 s:UC}(g:Gd s0 s)(e:Vx s=0):∃ (n:Nat) (j:Job),(YZ s).1=(n:Int)/\n<12/\JobAt s.1 n j/\WR s.1 j=zt/\StepF s n j (XY s) (YZ s).2/\Gd s0 (XY s):=by
 obtain⟨_,a,b⟩:=cz g e;exact eG g a b
theorem c0{s0 s:UC}(g:Gd s0 s)(e:Vx s=4):(U0 s).2=4/\s.2.1=[]:=by
 unfold Vx at e;rcases aq g.1 with h|h|h
 ·exact h
 ·rw[zy (by rw[h];decide),h]at e;cases e
 ·rw[zx (by simp[h.1])]at e;exact absurd e (jp g.1 h.2)
theorem cG{s0 s:UC}{N:Nat}(g:Gd s0 s)(a:VE s.1.2.flatten<=N)(e:Vx s=0):oL N (XY s)+1<=oL N s/\VE (XY s).1.2.flatten<=N:=by
 obtain⟨n,j,_,d,c,_,F,_⟩:=W6 g e;refine⟨jc g.1 a d c F,?_⟩;by_cases b:0<UY s.1 j
 ·rw[(F.read b).2.1];exact a
 ·rw[(F.inst (by omega)).2.1];exact x9 (cZ g.1 (Zo g.2.2) c b) a
theorem bC{s0:UC}{N:Nat}:∀ {n:Nat} {s:UC},Gd s0 s->VE s.1.2.flatten<=N->(UL n s).2.1.length<=n/\(UL n s).2.1.length+oL N (UL n s).1<=oL N s/\Gd s0 (UL n s).1/\VE (UL n s).1.1.2.flatten<=N/\((UL n s).2.2=0->(UL n s).2.1.length<n->(UL n s).1.2.1=[])
 |0,s,g,hN=>⟨a9 _,by simp[UL],g,hN,λ_ h=>absurd h (by simp[UL])⟩
 |n+1,s,g,hN=>by
  unfold UL;by_cases b:Vx s=4
  ·rw[zy b];exact⟨by simp,by simp,g,hN,λ_ _=>(c0 g b).2⟩
  ·rw[zx b];by_cases a:Vx s=0
   ·rw[zx (by simp[a])];obtain⟨_,_,_,_,_,_,_,d⟩:=W6 g a;obtain⟨m,f⟩:=cG g hN a;obtain⟨i,o,j,k,l⟩:=bC (n:=n) d f;refine⟨by simpa using i,?_,j,k,λc e=>l c (by simpa using e)⟩;simp only[ae];omega
   ·rw[zy a];exact⟨by simp,by simp,g,hN,λc=>absurd c a⟩
theorem dQ:∀ (n m:Nat) (s:UC),UL (n+m) s=if(UL n s).2.2≠0 then UL n s else((UL m (UL n s).1).1,((UL n s).2.1++(UL m (UL n s).1).2.1,(UL m (UL n s).1).2.2))
 |0,m,s=>by rw[dc];simp[UL]
 |n+1,m,s=>by
  rw[show n+1+m=(n+m)+1 by omega];have d:=dQ n m (XY s);simp only[UL];by_cases a:Vx s=4
  ·simp only[a,if_true];cases m with
   |zero=>simp[UL]
   |succ m=>simp[UL,a]
  ·simp only[a,if_false];by_cases b:Vx s=0
   ·simp only[b,ne_eq,not_true_eq_false,if_false];rw[d];by_cases c:(UL n (XY s)).2.2=0
    ·simp[c]
    ·simp[c]
   ·simp[b]
def Yw(u:W8)(x:Int×Bool):W8:=(SV .i64 u.1 1,(u.2.1,(if x.2=zt then SV .i64 u.2.2.1 1 else u.2.2.1,Z6 u.2.2.2 x.1.toNat x.1.toNat)))
def VO(u:W8)(l:List (Int×Bool)):W8:=l.foldl Yw u
theorem dY:∀ (l:List (Int×Bool)) (u:W8),0<=u.1->u.1+l.length<=2000000->(VO u l).1=u.1+l.length/\(VO u l).2.1=u.2.1
 |[],u,_,_=>by simp[VO]
 |x::l,u,h0,h=>by
  have a:((x::l).length:Int)=(l.length:Int)+1:=by simp
  rw[a]at h ⊢
  have e:(Yw u x).1=u.1+1:=by
   show SV .i64 u.1 1=_;exact Su (by omega)
  obtain⟨b,c⟩:=dY l (Yw u x) (by omega) (by omega);exact⟨by show(VO (Yw u x) l).1=_;rw[b,e];omega,c⟩
end
end Go.Proofs.YtiehjicadcamiaaGreat.Pl
