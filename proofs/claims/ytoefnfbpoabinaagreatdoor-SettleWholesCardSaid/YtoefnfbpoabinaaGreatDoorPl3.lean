/- Functions of the program and of the specification as plain functions, and laws about them. No condition. -/
import Derived.Test.YtoefnfbpoabinaaGreatDoorPl2
import Derived.KernelRfl
set_option linter.all false
open List renaming drop_eq_getElem_cons->ta, find?_cons->sp, flatten_cons->r7, getElem?_eq_getElem->ci, getElem?_eq_some_iff->a8, getElem?_of_mem->co, length_append->xr, length_cons->dc, map_cons->en, mem_flatten->iz, mem_of_getElem?->bl, mem_of_mem_take->ml, nodup_cons->gw, take_add_one->gs
open Nat renaming add_comm->Ds, le_refl->ee, le_trans->F2, zero_add->gM
open Int renaming toNat_natCast->bo
open Option renaming filter->rY, none_or->s9, or_assoc->li
open UInt8 renaming ofNat->zr
open Option renaming some->zo, none->zn
open Bool renaming true->zt, false->zf
namespace Go.Proofs.YtoefnfbpoabinaaGreatDoor.Pl
section
open Go Sv
def bK(f:Nat->Option U7):Nat->Nat->Option U7
 |_,0=>zn
 |i,m+1=>(f i).or (bK f (i+1) m)
theorem jE(f:Nat->Option U7):∀ (m i:Nat),bK f (i+1) m=bK (λj=>f (j+1)) i m
 |0,_=>rfl
 |m+1,i=>by
  show(f (i+1)).or (bK f (i+1+1) m)=(f (i+1)).or (bK (λj=>f (j+1)) (i+1) m);rw[jE f m (i+1)]
theorem Zc{f g:Nat->Option U7}:∀ (m i:Nat),(∀ j,i<=j->j<i+m->f j=g j)->bK f i m=bK g i m
 |0,_,_=>rfl
 |m+1,i,h=>by
  show(f i).or (bK f (i+1) m)=(g i).or (bK g (i+1) m);rw[h i (by omega) (by omega),Zc m (i+1) λj a b=>h j (by omega) (by omega)]
theorem eJ:∀ (m i:Nat),bK (λ_=>zn) i m=zn
 |0,_=>rfl
 |m+1,i=>by show(zn:Option U7).or _=_;rw[s9];exact eJ m (i+1)
theorem cp(f:Nat->Option U7):∀ (p i q:Nat),bK f i (p+q)=(bK f i p).or (bK f (i+p) q)
 |0,i,q=>by rw[gM];rfl
 |p+1,i,q=>by
  rw[show p+1+q=(p+q)+1 by omega];show(f i).or (bK f (i+1) (p+q))=((f i).or (bK f (i+1) p)).or (bK f (i+(p+1)) q);rw[cp f p (i+1) q,li,show i+1+p=i+(p+1) by omega]
theorem bc(k:XN):∀ (ls:List (List VU)) (K:Nat),ls.length<=K->WE (VJ ls) k=bK (λj=>WE (VG ls j).reverse k) 0 K
 |[],K,_=>by
  have:(λj=>WE (VG [] j).reverse k)=λ_=>zn:=by
   rfl
  rw[this,eJ];rfl
 |rs::ls,0,h=>by simp at h
 |rs::ls,K+1,h=>by
  have e:VJ (rs::ls)=rs.reverse++VJ ls:=rfl;rw[e,fe,bc k ls K (by simpa using h)];show _=(WE (VG (rs::ls) 0).reverse k).or (bK (λj=>WE (VG (rs::ls) j).reverse k) (0+1) K);rw[jE];rfl
theorem jl{s:U9}(v:VSt s)(B:sC s.1){n:Nat}{j:Job}(q:JobAt s.1 n j)(D:¬ 0<Vk s.1 j)(hc:Yh s.1 j=zt)(E:WA j≠[]->s.2.2<=1000000):Le (XF s j)=Le s.1:=by
 have F:=lG v B q D hc E;obtain⟨N,O,P,S,U⟩:=q.out v.lev (B n);have d:j.1.toNat=n:=by omega
 obtain⟨b,c,p,m,y,f,K,r,v0,v1⟩:=q;have I:=Zt.1 y
 have J:Vk s.1 j=c.2.length+b.2.length-m:=by
  rw[f];unfold Vk;simp only[bo,y];rfl
 have t:m=c.2.length+b.2.length:=by omega
 subst t
 have o:∀ k,VW (WA j) k=((VW c.2 k).or (VW b.2 k)).filter λx=> !(p&&x.2.2.1):=λk=>by
  rw[f];exact rV v1 v0 p k
 refine lN λk=> ?_;have L:=F.lev.len;have M:=v.lev.len;rw[bc k _ 14 (by omega),bc k _ 14 (by omega)];rw[show 14=n+(1+(13-n)) by omega,cp,cp _ n 0];have u:az s j=n\/az s j=n+1:=by unfold az;simp_all
 have h:bK (λi=>WE (VG (XF s j).2 i).reverse k) 0 n=bK (λi=>WE (VG s.1.2 i).reverse k) 0 n:=Zc _ _ λi _ hi=>by
  rw[W6 d,zx (by omega),zx (by omega)]
 rw[h];generalize bK (λi=>WE (VG s.1.2 i).reverse k) 0 n=A
 have w:bK (λi=>WE (VG (XF s j).2 i).reverse k) (0+n) (1+(13-n))=(VW (WA j) k).or (bK (λi=>WE (VG s.1.2 i).reverse k) (n+1) (13-n)):=by
  rw[gM,Ds 1];show(WE (VG (XF s j).2 n).reverse k).or (bK (λi=>WE (VG (XF s j).2 i).reverse k) (n+1) (13-n))=_;by_cases a:WA j=[]
  ·rw[W6 d,zx (by simp[a]),zy rfl,a];refine congrArg _ (Zc _ _ λi hi _=> ?_);rw[W6 d,zx (by simp[a]),zx (by omega)]
  ·rcases u with ht|ht
   ·rw[W6 d,zy ⟨a,ht.symm⟩,zy rfl]
    have e:WE (([]:List VU)++[(s.2.2,WA j)]).reverse k=VW (WA j) k:=by
     show(VW (WA j) k).or zn=_
     simp_all
    rw[e];refine congrArg _ (Zc _ _ λi hi _=> ?_);rw[W6 d,zx (by omega),zx (by omega)]
   ·rw[W6 d,zx (by omega),zy rfl];have C:=F.to12 a;rw[show 13-n=(12-n)+1 by omega];show(zn:Option U7).or ((WE (VG (XF s j).2 (n+1)).reverse k).or (bK _ (n+1+1) (12-n)))=(VW (WA j) k).or ((WE (VG s.1.2 (n+1)).reverse k).or (bK _ (n+1+1) (12-n)));rw[W6 d,zy ⟨a,ht.symm⟩,zx (by omega),List.reverse_append,s9];have e:WE ([(s.2.2,WA j)].reverse++(VG s.1.2 (n+1)).reverse) k=(VW (WA j) k).or (WE (VG s.1.2 (n+1)).reverse k):=rfl;rw[e,li];refine congrArg _ (congrArg _ (Zc _ _ λi hi _=> ?_));rw[W6 d,zx (by omega),zx (by omega)]
 have l:bK (λi=>WE (VG s.1.2 i).reverse k) (0+n) (1+(13-n))=((VW c.2 k).or (VW b.2 k)).or (bK (λi=>WE (VG s.1.2 i).reverse k) (n+1) (13-n)):=by
  rw[gM,Ds 1];show(WE (VG s.1.2 n).reverse k).or _=_;rw[I];refine congrArg (λz=>Option.or z _) ?_;show(VW c.2 k).or ((VW b.2 k).or zn)=_
  simp_all
 rw[w,l,o k];cases p with
 |false=>
  have:((VW c.2 k).or (VW b.2 k)).filter (λx=> !(zf&&x.2.2.1))=(VW c.2 k).or (VW b.2 k):=by
   cases(VW c.2 k).or (VW b.2 k)<;>simp[rY]
  rw[this]
 |true=>
  have G:bK (λi=>WE (VG s.1.2 i).reverse k) (n+1) (13-n)=zn:=by
   rw[Zc (g:=λ_=>zn) _ _ λi hi _=> ?_,eJ];have:VG s.1.2 i=[]:=by unfold VG;rw[List.getElem?_eq_none (by have:=r rfl;omega)];rfl
   rw[this];rfl
  rw[G];cases A with
  |some x=>rfl
  |none=>
   cases(VW c.2 k).or (VW b.2 k)with
   |none=>rfl
   |some x=>
    grind [rY,VE]
end
section
open Go Sv
end
section
open Go Sv
end
section
open Go Sv
def VX(l:List VU):Nat:=(l.map λr=>r.2.length).sum
theorem Wo(r:VU)(l:List VU):VX (r::l)=r.2.length+VX l:=by simp[VX]
theorem Xi(l m:List VU):VX (l++m)=VX l+VX m:=by simp[VX]
theorem kz(l:List VU):VX l.reverse=VX l:=by simp[VX]
theorem d7{l:List VU}(h:∀ r∈l,r.2.length<=5000):VX l<=l.length*5000:=by
 induction l with
 |nil=>simp[VX]
 |cons r l a=>
  grind [Wo,dc]
theorem XZ:∀ ls:List (List VU),VX (VJ ls)=VX ls.flatten/\(VJ ls).length=ls.flatten.length
 |[]=>⟨rfl,rfl⟩
 |rs::ls=>by
  obtain⟨a,b⟩:=XZ ls;have e:VJ (rs::ls)=rs.reverse++VJ ls:=rfl
  simp_all[r7,Xi,kz]
theorem jF{S β:Type}{f:S->Option (LR S β)}{r:β}(mk:Int->Nat->S)(n:Nat){s:S}(b:s=mk ((n:Int)-1) n)(d:n<1000000000)(hs:∀ k,k<n->f (mk (k:Int) (k+1))=zo (.nx (mk ((k:Int)-1) k)))(c:f (mk (-1) 0)=zo (.dn r)):loop f s=zo r:=by
 subst b
 have a:∀ k,k<=n->Ih (k+1) f (mk ((k:Int)-1) k)=zo r:=by
  intro k
  induction k with
  |zero=>intro _;exact Vr c
  |succ k e=>
   grind [Vi]
 exact WY (by omega) (a n (ee _))
theorem am{L:VA}(v:VLev L):L.2.flatten.length<=24/\VX L.2.flatten<=24*5000:=by
 have b:L.2.flatten.length<=24:=by
  have h:=ZK L.2 v.two;have:=v.len;rw[(XZ L.2).2]at h;omega
 refine⟨b,?_⟩
 have:=d7 (l:=L.2.flatten) λr a=>by
  obtain⟨rs,c,d⟩:=iz.1 a;obtain⟨i,hi⟩:=co c;exact((v.lev i rs hi).2 r d).vl.len
 grind
def gT(L:VA):Int×(Int×Int):=if(WZ L).2.2≠0 then(0,(0,(WZ L).2.2))else((VX L.2.flatten:Int),((L.2.flatten.length:Int),0))
theorem ke(L:VA)(g:L.2.length<=1048576)(n:∀ rs∈L.2,rs.length<=1048576 /\ ∀ r∈rs,r.2.length<=9223372036854775807):XS L=zo (gT L):=by
 unfold XS gT;simp only[VC,VB];rw[ZC _ g n,UG,Uq];by_cases b:(WZ L).2.2=0;rotate_left
 ·simp_all
 rw[zy b,zx (by simp[b])];have v:=Xz.1 b;have p:=v.len;obtain⟨s1,s2⟩:=am v
 rw[V1 (l:=L.2) (σ:=Nat×Nat) (s:=((0:Int),((0:Int),(0:Int)))) (λi a=>((i:Int),((a.1:Int),(a.2:Int)))) (λls i a=>a.1+VX ls.flatten=VX L.2.flatten/\a.2+ls.flatten.length=L.2.flatten.length) (λ_ _ _=>(0,(((L.2.length:Int),((VX L.2.flatten:Int),(L.2.flatten.length:Int))),()))) (0,0) rfl (by omega) ⟨by simp,by simp⟩ (λa h=>by
  simp_all[re,TA,VX]) (λi rs ls a hd hi c h=>by
   obtain⟨e,f⟩:=h;rw[r7,Xi]at e;rw[r7,xr]at f;have o:=v.two rs (bl hi);refine⟨(a.1+VX rs,a.2+rs.length),?_,⟨by omega,by omega⟩,rfl⟩;simp only;rw[rl c,Tj,U8,Ua hi,Tq (by omega)]
   rw[jF (λk m=>(k,(((a.1+VX (rs.drop m):Nat):Int),((a.2+(rs.length-m):Nat):Int)))) rs.length (by simp[VX]) (by omega) (λk d=>by
    have j:rs[k]?=zo rs[k]:=ci d;have hd:VX (rs.drop k)=rs[k].2.length+VX (rs.drop (k+1)):=by rw[ta d,Wo]
    have hc:VX (rs.drop k)<=VX rs:=by
     have:=Xi (rs.take k) (rs.drop k)
     simp_all
    simp only;rw[Ul,zy (by omega),U8,Ua j,Tq (by omega),To (by omega),To (by omega),hd]
    grind) (r:=(0,(((-1:Int),(((a.1+VX rs:Nat):Int),((a.2+rs.length:Nat):Int))),()))) rfl,UG]
   rw[VH hi (by omega)]),UG]
theorem ju{L:VA}(v:VLev L):Yc L=zo ((VX L.2.flatten:Int),((L.2.flatten.length:Int),0)):=by
 unfold Yc;simp only[VC,VB];rw[aw v,UG];simp only;rw[Uq,zy rfl];obtain⟨s1,s2⟩:=am v;obtain⟨n1,n2⟩:=XZ L.2
 rw[V1 (l:=VJ L.2) (σ:=Nat) (s:=((0:Int),(0:Int))) (λi a=>((a:Int),(i:Int))) (λls i a=>a+VX ls=VX L.2.flatten) (λ_ _ _=>(0,(((VX L.2.flatten:Int),((VJ L.2).length:Int)),()))) 0 rfl (by omega) (by omega) (λa h=>by
  grind [re,TA,VX]) (λi r ls a hd hi b h=>by
   rw[Wo]at h;refine⟨a+r.2.length,?_,by omega,rfl⟩
   grind [rl,Tj,U8,Ua,To]),UG,n2]
theorem qw{s:U9}(m:Sm s)(a:Int):aD (s,a)=zo (Z7 0 (λs j=>((Vk s.1 j:Int),0)) s a):=by
 unfold aD;rw[eC m,UG];unfold Z7 eu bE;by_cases b:(VF s).2=0;rotate_left
 ·simp_all[zy,Uq,zx]
 rw[zx (show ¬ (VF s).2≠0 by simp[b]),zx (show ¬ (VF s).2≠0 by simp[b])];have v:=Vu.1 b;cases e:cG a 0 (VS 0 s.1.2)with
 |none=>rfl
 |some i=>
  obtain⟨j,n,c,g,f,d,h⟩:=v.at e;simp only[c];rw[Uq,zy rfl,U8,Ua c,(JobAt.left d).1,UG]
def fK(s:U9)(d:Int):Nat:=match eu s d with
 |some j=>Vk s.1 j+1
 |none=>0
theorem VSt.debt{s:U9}(v:VSt s){d:Int}(h:d∈VS 0 s.1.2)(m:Sm s):cZ (s,d)=zo ((fK s d:Int),0)/\bp (s,d)=zo ((fK s d:Int),0)/\fK s d<=10001:=by
 obtain⟨j,n,b,e,f,c,i⟩:=v.atDue h;have k:(VF s).2=0:=Vu.2 v;have hd:fK s d=Vk s.1 j+1:=by unfold fK;rw[b]
 have g:=(JobAt.left c).2.2
 have a:Z7 (0:Int) (λs j=>((Vk s.1 j:Int),0)) s d=((Vk s.1 j:Int),0):=by
  simp_all[Z7,zx,VF]
 unfold cZ bp;rw[qw m,jw m,a,hd,UG];simp only[UG];rw[Uq,zy rfl,To (by omega)]
 simp_all
def Xc(b:VU):Int×Int:=if b.1<1\/b.1>16 then(0,7)else if(b.2.length:Int)>b.1 then(0,3)else Z5 zn 0 b.2
theorem cS(b:VU):XQ b=zo (Xc b):=by
 unfold XQ Xc;rw[Uo,Um,Um];by_cases c:b.1<1
 ·simp_all
 rw[zx c];by_cases d:b.1>16
 ·simp_all
 rw[zx d,zx (show ¬ (b.1<1\/b.1>16) by omega),VC,VB];by_cases a:(b.2.length:Int)>b.1
 ·simp_all
 rw[zx a,zx a];have e:=XP b.2 (by omega)
 grind [Vd,XO,Um,VC,VB]
theorem ft(b:VU):Yb b=zo (Xc b):=by
 rw[<- cS];unfold Yb XQ
 congr 1
 funext _
 congr 1
 funext _
 congr 1
 funext _
 congr 2
 funext s0
 by_cases h:0<=s0.2.2
 ·simp only[Tu h];cases a:b.2[s0.2.2.toNat]? with
  |none=>unfold ix;grind
  |some x=>grind [Ua,Zu,WP,UG]
 grind [S1]
def Vj(f:WN):Int:=if(Xc f.1).2≠0 then(Xc f.1).2 else if(VF f.2).2≠0 then(VF f.2).2 else if f.1.1≠f.2.1.1 then 6 else 0
theorem cY{f:WN}(m:Sm f.2):WQ f=zo (Vj f):=by
 unfold WQ Vj;rw[cS,UG,Uq];by_cases a:(Xc f.1).2=0;rotate_left
 ·simp_all
 rw[zy a,zx (show ¬ (Xc f.1).2≠0 by simp[a]),chk m,UG,Uq];by_cases b:(VF f.2).2=0;rotate_left
 ·simp_all
 rw[zy b,zx (show ¬ (VF f.2).2≠0 by simp[b]),Uq]
 grind
theorem cA{f:WN}(m:Sm f.2):Xp f=zo (Vj f):=by
 unfold Xp Vj;rw[ft,UG,Uk];by_cases a:(Xc f.1).2=0;rotate_left
 ·simp_all[zx,Uk,zy]
 rw[zy a,zx (show ¬ (Xc f.1).2≠0 by simp[a]),xy m,UG,Uk];by_cases b:(VF f.2).2=0;rotate_left
 ·simp_all
 rw[zy b,zx (show ¬ (VF f.2).2≠0 by simp[b]),Uq]
 grind
end
section
open Go Sv
theorem cO(x:U7):∀ l:List U7,(Wa l x).length<=l.length+1
 |[]=>by unfold Wa;simp
 |y::l=>by
  unfold Wa;have:=cO x l
  grind
theorem dg{α:Type}(l:List α)(k:Nat):DV l 0 k=l.take k:=by rfl
theorem de{α:Type}(l:List α)(k:Nat):DV l k l.length=l.drop k:=by
 simp_all[DV,List.take_of_length_le]
theorem uY(l:List U7)(x:U7)(B:l.length<=1000000):Yl (l,x)=zo (Wa l x):=by
 unfold Yl;simp only[VC,VB]
 obtain⟨r,w,z⟩:=XG (l:=l) (σ:=Unit) (λk _=>(k:Int)) (λm k _=>Wa l x=l.take k++Wa m x) (λ(r:Nat×(Int×Unit))=>∃ k:Nat,r.2.1=(k:Int)/\k<=l.length/\Wa l x=l.take k++Wa (l.drop k) x /\ ∀ y,l[k]?=zo y->TZ y.1 x.1=zf)
  (f:=λs0=>br (UV s0 (l.length:Int)) (λ_=>S1 s0 λu=>ix l u λA=>br (TZ A.1 x.1) (λ_=>zo (.nx (TI .i64 s0 1))) λ_=>zo (.dn ((0,(s0,()))))) λ_=>zo (.dn ((0,(s0,())))))
  (s:=(0:Int)) () rfl (by omega) rfl (λ_ h=>by
   refine⟨(0,((l.length:Int),())),by rw[re];rfl,l.length,rfl,ee _,by rw[h];simp,λy j=>by simp at j⟩) (λk y m _ hd d a h=>by
   rw[rl a,Tj,U8,Ua d,YM];unfold Wa at h;by_cases hs:TZ y.1 x.1=zt
   ·rw[zy hs,VD (by omega)];rw[zy hs]at h;refine .inl ⟨(),rfl,?_⟩
    grind [Wa,gs]
   ·rw[zx hs]
    grind [Wa])
 rw[w,UG];obtain⟨k,e,a,q,j⟩:=z;have n:∀ {β:Type} (c:Unit->Option β),gd (B2 (l.take k).length 1048576) c=c ():=λc=>Va (by simp;omega) c;have o:∀ {β:Type} (c:Unit->Option β),gd (B2 (A0 (l.take k).length [x].length) 1048576) c=c ():=λc=>Va (by simp[A0];omega) c;have p:∀ {β:Type} (c:Unit->Option β),gd (B2 (A0 (If (l.take k) [x]).length (l.drop k).length) 1048576) c=c ():=λc=>Va (by simp[A0,If];omega) c;rw[e];by_cases h:k<l.length
 ·have d:l[k]?=zo l[k]:=ci h;have hs:=j _ d;have g:l.drop k=l[k]::l.drop (k+1):=ta h
  have t:Wa (l.drop k) x=if l[k].1=x.1 then l.drop k else x::l.drop k:=by
   rw[g]
   conv=>lhs;unfold Wa
   grind
  rw[rl h,Tj,U8,Ua d,XE,q,t];by_cases b:l[k].1=x.1
  ·rw[zy b,zy b,List.take_append_drop]
  ·rw[zx b,zx b,U8,Va a,Va (by omega),dg,n,o,U8,Va (by omega),Va a,de,p];unfold If;simp
 ·have i:k=l.length:=by omega
  subst i;rw[re,TA,q,U8,Va a,Va (by omega),dg,n,o,U8,Va (by omega),Va a,de,p];simp[If,Wa]
theorem bU:∀ (m l:List U7),(m.foldl Wa l).length<=l.length+m.length
 |[],l=>by simp
 |x::m,l=>by
  have a:=bU m (Wa l x);have b:=cO x l
  grind
theorem cR:∀ (rs:List VU) (l:List U7),(cC rs l).length<=l.length+VX rs
 |[],l=>by simp[cC,VX]
 |r::rs,l=>by
  have a:=cR rs (r.2.foldl Wa l);have b:=bU r.2 l;rw[Wo];show(cC rs (r.2.foldl Wa l)).length<=_;omega
theorem ua{R:List VU}{i:Nat}{r:VU}(hi:R[i]?=zo r){out:List U7}(b:out.length+r.2.length<=500000):loop (λ(s2:VU)=>S1 (i:Int) λd=>ix R d λj=>br (UV s2.1 (j.2.length:Int)) (λ_=>S1 (i:Int) λe=>ix R e λm=>S1 s2.1 λf=>ix m.2 f λn=>bd (Yl (s2.2,n)) λg=>zo (.nx (TI .i64 s2.1 1,g))) λ_=>zo (.dn (((0:Nat),(s2,()))))) ((0:Int),out)=zo (0,(((r.2.length:Int),r.2.foldl Wa out),())):=by
 refine V1 (l:=r.2) (σ:=List U7) (λk o=>((k:Int),o)) (λls _ o=>o.length+ls.length<=500000) (λls _ o=>(0,(((r.2.length:Int),ls.foldl Wa o),()))) out rfl (by omega) b (λo h=> ?_) (λk x ls o hd c a h=> ?_)
 ·simp only;rw[U8,Ua hi,re];rfl
 ·have:=cO x o;simp only[dc]at h;refine⟨Wa o x,?_,by omega,rfl⟩;simp only;rw[U8,Ua hi,rl a,Tj,U8,Ua hi,U8,Ua c,uY _ _ (by omega),UG,VD (by omega)]
theorem ub{L:VA}(v:VLev L):ZI L=zo (Le L):=by
 obtain⟨n,p⟩:=am v;obtain⟨j,m⟩:=XZ L.2;unfold ZI;simp only[VC,VB];rw[aw v,UG];refine VY (V1 (l:=VJ L.2) (σ:=List U7) (s:=(([]:List U7),(0:Int))) (λi o=>(o,(i:Int))) (λls _ o=>o.length+VX ls<=500000) (λls _ o=>(0,((cC ls o,((VJ L.2).length:Int)),()))) [] rfl (by omega) (by simp;omega) (λo h=> ?_) (λi r ls o hd hi c h=> ?_)) ?_
 ·simp only;rw[re];rfl
 ·rw[Wo]at h;have b:=bU r.2 o;refine⟨r.2.foldl Wa o,?_,by omega,rfl⟩;simp only;rw[rl c,Tj];refine VY (ua hi (by omega)) ?_;rw[VD (by omega)]
 ·have a:=cR (VJ L.2) [];simp only[List.length_nil,gM]at a;dsimp only;generalize f:cC (VJ L.2) []=A at a;have g:Le L=A.filter VE:=by unfold Le;rw[f]
  rw[g];refine VY (V1 (l:=A) (σ:=List U7) (s:=((0:Int),([]:List U7))) (λk o=>((k:Int),o)) (λls k o=>o.length<=k/\o++ls.filter VE=A.filter VE) (λ_ _ _=>(0,(((A.length:Int),A.filter VE),()))) [] rfl (by omega) ⟨by simp,rfl⟩ (λo h=> ?_) (λk x ls o hd e c h=> ?_)) rfl
  ·simp_all[re,TA]
  ·obtain⟨q,b⟩:=h;rw[List.filter_cons]at b;simp only;rw[rl c,Tj,U8,Ua e];cases d:x.2.2.1 with
   |true=>
    have:VE x=zf:=by unfold VE;rw[d];rfl
    grind [d6,TA,VD]
   |false=>
    have:VE x=zt:=by unfold VE;rw[d];rfl
    rw[this]at b;refine⟨o++[x],?_,⟨by simp;omega,by grind⟩,trivial⟩;rw[un,Tj,U8,Ua e,Va (by simp[A0];omega),VD (by omega)];rfl
end
section
open Go Sv
end
section
open Go Sv
end
section
open Go Sv
end
section
open Go Sv
end
section
open Go Sv
def Gd(s0 s:U9):Prop:=VSt s/\Le s.1=Le s0.1/\VX s.1.2.flatten<=2000
theorem rE{l:List VU}{r:VU}(h:r∈l):r.2.length<=VX l:=by
 induction l with
 |nil=>cases h
 |cons x l a=>
  grind [Wo]
theorem eB{L:VA}(h:VX L.2.flatten<=2000):sC L:=λi r a=>by
 have:=rE (cr.2 ⟨i,a⟩);omega
theorem fH{s:U9}(v:VSt s)(g:sC s.1){n:Nat}{j:Job}(f:JobAt s.1 n j)(z:¬ 0<Vk s.1 j):VX (XF s j).2.flatten<=VX s.1.2.flatten:=by
 obtain⟨B,C,D,E,F⟩:=f.out v.lev (g n);have r:j.1.toNat=n:=by omega
 have a:=g n;obtain⟨d,e,i,k,o,b,t,A,v0,v1⟩:=f;have u:=Zt.1 o;rw[u]at a;have w:=a d (by simp);have l:=a e (by simp)
 have h:(WA j).length<=e.2.length+d.2.length:=by
  rw[b];exact(lg v1 v0 i t (by omega)).2
 obtain⟨p,q,l,m⟩:=Y7 s.1 n []
 have e1:VX s.1.2.flatten=VX p+((d.2.length+e.2.length)+VX q):=by
  grind [Xi,Wo,VX]
 have e2:VX (WW s.1 n []).2.flatten=VX p+VX q:=by rw[m,Xi,Xi];simp[VX]
 unfold XF;rw[r];by_cases c:WA j=[]
 ·simp_all
 ·rw[zx c];obtain⟨G,I,x,y⟩:=Y7 (WW s.1 n []) (az s j) (VG (WW s.1 n []).2 (az s j)++[(s.2.2,WA j)])
  grind [Xi,Wo,VX]
theorem i8{s:U9}(v:VSt s){d:Int}(h:d∈VS 0 s.1.2):∃ (i:Nat) (j:Job) (n:Nat),cG d 0 (VS 0 s.1.2)=zo i/\s.2.1[i]?=zo j/\d=(n:Int)/\j.1=(n:Int)/\JobAt s.1 n j:=by
 obtain⟨i,hi⟩:=eE (k:=0) h;obtain⟨j,n,a,b,c,d,_⟩:=v.at hi
 grind
theorem jg{s0 s:U9}(g:Gd s0 s){d:Int}(h:d∈VS 0 s.1.2):∃ (c:Bool) (t:U9) (b:Bool) (e:Int),YT (s,d)=zo (c,0)/\X4 (s,d)=zo (t,(b,e))/\(s.2.2<=1000000->c=decide (e=0))/\(e=0->Gd s0 t):=by
 obtain⟨v,u,hc⟩:=g;have p:=eB hc;have m:=v.sm;obtain⟨i,j,n,hi,y,hd,z,o⟩:=i8 v h;have B:(VF s).2=0:=Vu.2 v;have x:eu s d=zo j:=by unfold eu;simp_all
 have l:YT (s,d)=zo (Yh s.1 j,0):=by
  simp_all[Z7,zx,uX]
 have k:X4 (s,d)=zo (aN s j):=by
  simp_all[ZP,zx,iw]
 refine⟨Yh s.1 j,(aN s j).1,(aN s j).2.1,(aN s j).2.2,l,k,?_⟩;unfold aN;by_cases q:Yh s.1 j=zf
 ·simp_all
 have a:Yh s.1 j=zt:=by grind
 rw[zx q];by_cases f:0<Vk s.1 j
 ·rw[zy f];refine⟨λ_=>by simp[a],λ_=>⟨lw v (by simp_all) y o f,u,hc⟩⟩
 rw[zx f];unfold cd;rw[zx (λh=>h.elim f q)];by_cases w:s.2.2>1000000/\WA j≠[]
 ·simp_all
 rw[zx w]
 have r:WA j≠[]->s.2.2<=1000000:=λA=>by
  simp_all
 refine⟨λ_=>by simp[a],λ_=>⟨lH v p o f a r,?_,?_⟩⟩
 ·exact(jl v p o f a r).trans u
 ·have:=fH v p o f;show VX (XF s j).2.flatten<=2000;omega
theorem d9:∀ {ls:List (List VU)} {i n:Nat},(VG ls n).length=2->((i+n:Nat):Int)∈VS i ls
 |[],i,n,h=>by simp[VG]at h
 |rs::ls,i,0,h=>by
  have h':rs.length=2:=h;rw[Zm,zy h'];simp
 |rs::ls,i,n+1,h=>by
  rw[Zm];refine List.mem_append_right _ ?_;have:=d9 (ls:=ls) (i:=i+1) (n:=n) h
  grind
end
section
open Go Sv
end
section
open Go Sv
def loI:List U7->XN->Nat
 |[],_=>0
 |y::l,k=>if TZ y.1 k=zt then loI l k+1 else 0
theorem vZ:∀ {l:List U7} {p:Option XN},Asc p l -> ∀ {k:XN} {i:Nat} {y:U7},l[i]?=zo y->loI l k<=i->TZ y.1 k=zf
 |[],_,_,_,_,_,h,_=>by simp at h
 |x::l,p,⟨c,a⟩,k,i,y,h,hi=>by
  unfold loI at hi;cases i with
  |zero=>
   simp_all
  |succ i=>
   have b:l[i]?=zo y:=by grind
   split at hi
   ·exact vZ a b (by omega)
   ·rename_i hs;have hs:TZ x.1 k=zf:=by grind
    have:=ZR a y (bl b)
    grind [WR]
theorem dz:∀ {l:List U7} {p:Option XN},Asc p l -> ∀ {a b:Nat} {x y:U7},a<b->l[a]?=zo x->l[b]?=zo y->TZ x.1 y.1=zt
 |[],_,_,_,_,_,_,_,h,_=>by simp at h
 |z::l,p,⟨_,d⟩,a,b,x,y,f,e,h2=>by
  cases b with
  |zero=>omega
  |succ b=>
   have c:l[b]?=zo y:=by grind
   cases a with
   |zero=>cases e;exact ZR d y (bl c)
   |succ a=>exact dz d (a:=a) (b:=b) (by omega) (by grind) c
end
section
open Go Sv
structure WrI (most:Nat) (l:List U7) (R:List U7):Prop where
 asc:Asc zn l
 le:l.length<=most
 len:R.length=most+1
 row:R.take l.length=l
end
section
open Go Sv
structure Bf (b:VU):Prop where
 m1:1<=b.1
 m2:b.1<=16
 len:(b.2.length:Int)<=b.1
 ok:∀ x∈b.2,kE x=0
 asc:Asc zn b.2
theorem kr{b:VU}(h:(Xc b).2=0):Bf b:=by
 unfold Xc at h;by_cases a:b.1<1\/b.1>16
 ·simp_all
 rw[zx a]at h;by_cases c:(b.2.length:Int)>b.1
 ·simp_all
 rw[zx c]at h;obtain⟨d,e⟩:=cE.1 h;exact⟨by omega,by omega,by omega,d,e⟩
end
section
open Go Sv
end
section
open Go Sv
theorem iu(l:List U7)(b:Bool)(m:b=zf):∃ r,loop (β:=Nat×((Int×Bool)×Unit)) (λa=>br (UV a.1 (l.length:Int)) (λ_=>br (UV a.1 50) (λ_=>S1 a.1 λn=>ix l n λi=>br (UT (NH i.1:Int) 100) (λ_=>zo (.dn ((0,((a.1,zt),()))))) λ_=>S1 a.1 λg=>ix l g λj=>br (UT (NH j.2.1:Int) 100) (λ_=>zo (.dn ((0,((a.1,zt),()))))) λ_=>zo (.nx (TI .i64 a.1 1,a.2))) λ_=>zo (.dn ((1,(a,()))))) λ_=>zo (.dn ((1,(a,()))))) ((0:Int),b)=zo r/\((r.1=1/\r.2.1.2=zf)\/(r.1=0/\r.2.1.2=zt)):=by
 subst m
 exact aK (l:=l) (σ:=Unit) 50 (by omega) (λk _=>((k:Int),zf)) (λ_ _=>True) (λ(r:Nat×((Int×Bool)×Unit))=>(r.1=1/\r.2.1.2=zf)\/(r.1=0/\r.2.1.2=zt)) () rfl trivial (λk _ h d _=>⟨_,(lA (c:=50) h d _ _ _ rfl),.inl ⟨rfl,rfl⟩⟩) (λk x _ f d _=>by
  simp only;have e:=(a8.1 f).1;rw[rl e,Tj,show UV (k:Int) 50=zt from bH d,Tj,U8,Ua f,Um,U8,Ua f,Um,VD (by omega)]
  repeat' split
  all_goals simp_all)
def y0(n:Int)(rs:List VU):Prop:=0<=n/\n<=1000000000 /\ ∀ r∈rs,r.2.length<=5000
theorem fI{rs:List VU}{k:Nat}(h:∀ r∈rs,r.2.length<=5000)(c:k<=20):VX (rs.take k)<=100000:=by
 have b:=d7 (l:=rs.take k) λr a=>h r (ml a)
 grind
theorem j0{L:List (List VU)}{i:Nat}{rs:List VU}(hi:L[i]?=zo rs)(n:Int)(b:Bool)(y:b=zf):∃ r,loop (β:=Nat×((Int×(Int×Bool))×Unit)) (λs1=>S1 (i:Int) λz=>ix L z λE=>br (UV s1.2.1 (E.length:Int)) (λ_=>br (UV s1.2.1 9) (λ_=>S1 (i:Int) λA=>ix L A λF=>S1 s1.2.1 λB=>ix F B λf=>bd (loop (λa=>br (UV a.1 (f.2.length:Int)) (λ_=>br (UV a.1 50) (λ_=>S1 a.1 λC=>ix f.2 C λs=>br (UT (NH s.1:Int) 100) (λ_=>zo (.dn (((0:Nat),((a.1,zt),()))))) λ_=>S1 a.1 λp=>ix f.2 p λt=>br (UT (NH t.2.1:Int) 100) (λ_=>zo (.dn ((0,((a.1,zt),()))))) λ_=>zo (.nx (TI .i64 a.1 1,a.2))) λ_=>zo (.dn ((1,(a,()))))) λ_=>zo (.dn ((1,(a,()))))) ((0:Int),s1.2.2)) λd=>br (neq d.1 0) (λ_=>zo (.dn ((1,((TI .i64 s1.1 (f.2.length:Int),(s1.2.1,d.2.1.2)),()))))) λ_=>zo (.nx ((TI .i64 s1.1 (f.2.length:Int),(TI .i64 s1.2.1 1,d.2.1.2))))) λ_=>zo (.dn ((0,(s1,()))))) λ_=>zo (.dn ((0,(s1,()))))) (n,((0:Int),b))=zo r/\((r.1=0/\r.2.1.2.2=zf/\(rs.length<=8->y0 n rs->r.2.1.1=n+(VX rs:Int)))\/(r.1=1/\r.2.1.2.2=zt)):=by
 subst y
 exact aK (l:=rs) (σ:=Int) 9 (by omega) (λk m=>(m,((k:Int),zf))) (λk m=>y0 n rs->m=n+(VX (rs.take k):Int)) (λ(r:Nat×((Int×(Int×Bool))×Unit))=>(r.1=0/\r.2.1.2.2=zf/\(rs.length<=8->y0 n rs->r.2.1.1=n+(VX rs:Int)))\/(r.1=1/\r.2.1.2.2=zt)) n rfl (λ_=>by simp[VX]) (λk m h g u=>⟨_,by
  rw[U8,Ua hi];exact(lA (c:=9) h g _ _ _ rfl),.inl ⟨rfl,rfl,λO e=>by
   grind⟩⟩) (λk x m o g u=>by
  simp only;have j:=(a8.1 o).1;obtain⟨r,D,q⟩:=iu x.2 zf rfl;rw[U8,Ua hi,rl j,Tj,show UV (k:Int) 9=zt from bH g,Tj,U8,Ua hi,U8,Ua o,D,UG,UH,VD (by omega)];rcases q with⟨q,w⟩|⟨q,w⟩
  ·rw[zx (by omega),w];refine .inl ⟨_,rfl,λe=> ?_⟩;have G:=u e
   have I:VX (rs.take (k+1))=VX (rs.take k)+x.2.length:=by
    grind [gs,Xi,VX]
   have J:=e.2.2 x (bl o);have K:=fI (k:=k) e.2.2 (by omega);have M:=e.1;have N:=e.2.1
   grind [To]
  simp_all)
theorem lC(s:U9)(p:∀ rs∈s.1.2,∀ r∈rs,r.2.length<=9223372036854775807):∃ b,Yj s=zo b/\(b=zf->Sm s/\(VLev s.1->VX s.1.2.flatten<=40)):=by
 unfold Yj;simp only[VC,VB]
 obtain⟨r,U,t⟩:=aK (l:=s.1.2) (σ:=Int) (s:=((0:Int),(zf,(0:Int)))) 20 (by omega) (λk n=>(n,(zf,(k:Int)))) (λk n=>(∀ i rs,i<k->s.1.2[i]?=zo rs->rs.length<=8)/\(VLev s.1->n=(VX (s.1.2.take k).flatten:Int))) (λ(r:Nat×((Int×(Bool×Int))×Unit))=>(r.1=0/\r.2.1.2.1=zf/\(∀ i rs,i<20->s.1.2[i]?=zo rs->rs.length<=8)/\(VLev s.1->s.1.2.length<=15->r.2.1.1=(VX s.1.2.flatten:Int)))\/(r.1=1/\r.2.1.2.1=zt))
  (f:=λs0=>br (UV s0.2.2 (s.1.2.length:Int)) (λ_=>br (UV s0.2.2 20) (λ_=>bd (loop (λs1=>S1 s0.2.2 λk2=>ix s.1.2 k2 λx3=>br (UV s1.2.1 (x3.length:Int)) (λ_=>br (UV s1.2.1 9) (λ_=>S1 s0.2.2 λk4=>ix s.1.2 k4 λx5=>S1 s1.2.1 λk6=>ix x5 k6 λG=>bd (loop (λq=>br (UV q.1 (G.2.length:Int)) (λ_=>br (UV q.1 50) (λ_=>S1 q.1 λk9=>ix G.2 k9 λY=>br (UT (NH Y.1:Int) 100) (λ_=>zo (.dn (((0:Nat),((q.1,zt),()))))) λ_=>S1 q.1 λN=>ix G.2 N λZ=>br (UT (NH Z.2.1:Int) 100) (λ_=>zo (.dn ((0,((q.1,zt),()))))) λ_=>zo (.nx (TI .i64 q.1 1,q.2))) λ_=>zo (.dn ((1,(q,()))))) λ_=>zo (.dn ((1,(q,()))))) ((0:Int),s1.2.2)) λB=>br (neq B.1 0) (λ_=>zo (.dn (((1:Nat),((TI .i64 s1.1 (G.2.length:Int),(s1.2.1,B.2.1.2)),()))))) λ_=>zo (.nx ((TI .i64 s1.1 (G.2.length:Int),(TI .i64 s1.2.1 1,B.2.1.2))))) λ_=>zo (.dn ((0,(s1,()))))) λ_=>zo (.dn ((0,(s1,()))))) ((s0.1,((0:Int),s0.2.1)))) λo=>br (neq o.1 0) (λ_=>S1 s0.2.2 λO=>ix s.1.2 O λx16=>br (UT (x16.length:Int) 8) (λ_=>zo (.dn (((1:Nat),((o.2.1.1,(zt,s0.2.2)),()))))) λ_=>zo (.nx ((o.2.1.1,(o.2.1.2.2,TI .i64 s0.2.2 1))))) λ_=>zo (.dn ((1,((o.2.1.1,(o.2.1.2.2,s0.2.2)),()))))) λ_=>zo (.dn ((0,(s0,()))))) λ_=>zo (.dn ((0,(s0,())))))
  0 rfl ⟨λi rs h=>by omega,λ_=>by simp[VX]⟩ (λk n h u M=>⟨_,(lA (c:=20) h u _ _ _ rfl),.inl ⟨rfl,rfl,λi rs hi p=>M.1 i rs (by grind) p,λD h15=>by
   grind⟩⟩) (λk rs n p u M=>by
   simp only;have w:=(a8.1 p).1;obtain⟨r,U,t⟩:=j0 p n zf rfl;rw[rl w,Tj,show UV (k:Int) 20=zt from bH u,Tj,U,UG,UH,U8,Ua p,Um,VD (by omega)];rcases t with⟨t,F,q4⟩|⟨t,F⟩
   ·rw[zy t];by_cases h8:(rs.length:Int)>8
    ·simp_all
    ·rw[zx h8,F];refine .inl ⟨_,rfl,λi rs' hi hy=> ?_,λD=> ?_⟩
     ·grind
     ·have I:=M.2 D
      have z:∀ l:List (List VU),(∀ rs∈l,rs∈s.1.2) -> ∀ r∈l.flatten,r.2.length<=5000:=λl hl r hr=>by
       obtain⟨X,h3,h4⟩:=iz.1 hr;obtain⟨i,hi⟩:=co (hl X h3);have J:r∈VG s.1.2 i:=by unfold VG;simp_all
       exact((D.own i).2 r J).vl.len
      have L:VX (s.1.2.take (k+1)).flatten=VX (s.1.2.take k).flatten+VX rs:=by
       grind [gs,List.flatten_append,Xi]
      have h3:=fI (k:=20) (rs:=(s.1.2.take k).flatten) (z _ λrs h=>ml h)
      have h4:(s.1.2.take k).flatten.length<=1000:=by
       have J:∀ l:List (List VU),(∀ rs∈l,rs.length<=2)->l.flatten.length<=2*l.length:=by
        intro l
        induction l<;>grind
       have:=J (s.1.2.take k) λrs h=>D.two rs (ml h)
       grind
      have J:=d7 (z (s.1.2.take k) λrs h=>ml h);have h6:y0 n rs:=⟨by omega,by omega,λr hr=>z [rs] (λx hx'=>by grind) r (by grind)⟩
      grind
   simp_all)
 refine(λh=>h) ?_;have fin:∀ {K:(Nat×((Int×(Bool×Int))×Unit))->Option Bool},(∃ b,K r=zo b/\(b=zf->Sm s/\(VLev s.1->VX s.1.2.flatten<=40))) -> ∀ {m:Option (Nat×((Int×(Bool×Int))×Unit))},m=zo r -> ∃ b,bd m K=zo b/\(b=zf->Sm s/\(VLev s.1->VX s.1.2.flatten<=40)):=λh _ e=>by subst e;exact h
 refine fin ?_ U;rw[UH];rcases t with⟨t,F,q4,q5⟩|⟨t,F⟩
 rotate_left
 ·simp_all
 rw[zy t,F]
 obtain⟨r2,p1,S⟩:=aK (l:=s.2.1) (σ:=Unit) (s:=(zf,(0:Int))) 20 (by omega) (λk _=>(zf,(k:Int))) (λ_ _=>True) (λ(r:Nat×((Bool×Int)×Unit))=>r.1=1\/(r.1=0/\r.2.1.1=zt))
  (f:=λa=>br (UV a.2 (s.2.1.length:Int)) (λ_=>br (UV a.2 20) (λ_=>S1 a.2 λP=>ix s.2.1 P λg=>br (UT (g.2.1.1.length:Int) 20) (λ_=>zo (.dn ((0,((zt,a.2),()))))) λ_=>br (UT (g.2.1.2.1.length:Int) 100) (λ_=>zo (.dn ((0,((zt,a.2),()))))) λ_=>br (UT (g.2.1.2.2.1.length:Int) 100) (λ_=>zo (.dn ((0,((zt,a.2),()))))) λ_=>br (UT (g.2.1.2.2.2.1.length:Int) 100) (λ_=>zo (.dn ((0,((zt,a.2),()))))) λ_=>bd (loop (λd=>br (UV d.1 (g.2.1.1.length:Int)) (λ_=>S1 d.1 λA=>ix g.2.1.1 A λC=>zo (.nx ((TI .i64 d.1 1,TI .i64 d.2 (C.length:Int))))) λ_=>zo (.dn (((0:Nat),(d,()))))) (((0:Int),(g.2.2.2.1.length:Int)))) λW=>br (UT W.2.1.2 200) (λ_=>zo (.dn ((0,((zt,a.2),()))))) λ_=>zo (.nx (a.1,TI .i64 a.2 1))) λ_=>zo (.dn ((1,(a,()))))) λ_=>zo (.dn ((1,(a,())))))
  () rfl trivial (λk _ h u _=>⟨_,(lA (c:=20) h u _ _ _ rfl),.inl rfl⟩) (λk j _ p u _=>by
   simp only;have w:=(a8.1 p).1;rw[rl w,Tj,show UV (k:Int) 20=zt from bH u,Tj,U8,Ua p,Um];by_cases I:(j.2.1.1.length:Int)>20
   ·simp_all
   rw[zx I]
   obtain⟨r3,t1,_⟩:=XG (l:=j.2.1.1) (σ:=Int) (s:=((0:Int),(j.2.2.2.1.length:Int))) (λk n=>((k:Int),n)) (λ_ _ _=>True) (λ(_:Nat×((Int×Int)×Unit))=>True)
    (f:=λd=>br (UV d.1 (j.2.1.1.length:Int)) (λ_=>S1 d.1 λA=>ix j.2.1.1 A λC=>zo (.nx ((TI .i64 d.1 1,TI .i64 d.2 (C.length:Int))))) λ_=>zo (.dn (((0:Nat),(d,())))))
    (j.2.2.2.1.length:Int) rfl (by omega) trivial (λn _=>⟨_,by rw[re];rfl,trivial⟩) (λk y m n hd hy u _=>.inl ⟨TI .i64 n (y.length:Int),by grind [rl,Tj,U8,Ua,VD],trivial⟩)
   rw[t1,UG,Um,Um,Um,Um,VD (by omega)]
   repeat' split
   all_goals first|exact .inr ⟨_,rfl,.inr ⟨rfl,rfl⟩⟩|exact .inl ⟨(),rfl,trivial⟩)
 rw[p1,UG,UH];rcases S with S|⟨S,p3⟩
 rotate_left
 ·simp_all
 rw[zx (by omega),Um,Um];by_cases I:r.2.1.1>40
 ·simp_all
 rw[zx I];by_cases L:(s.1.2.length:Int)>15
 ·rw[zy L];exact⟨_,rfl,λh=>by cases h⟩
 rw[zx L];refine⟨_,rfl,λh=>⟨⟨by omega,λrs E=>⟨?_,p rs E⟩,?_⟩,λD=>by have:=q5 D (by omega);omega⟩⟩
 ·obtain⟨i,hi⟩:=co E;have:=q4 i rs (by have:=(a8.1 hi).1;omega) hi;omega
 grind [UT]
end
section
open Go Sv
theorem Hj{f:WN}(h:Vj f=0):(VF f.2).2=0:=by
 unfold Vj at h;omega
end
section
open Go Sv
end
section
open Go Sv
theorem X2{f:WN}(h:Vj f=0):(Xc f.1).2=0/\VSt f.2/\f.1.1=f.2.1.1:=by
 have b:=Hj h;unfold Vj at h;by_cases a:(Xc f.1).2=0;rotate_left
 ·omega
 rw[zx (by simp[a]),zx (by simp[b])]at h;refine⟨a,Vu.1 b,?_⟩<;>simp_all
end
section
open Go Sv
end
section
open Go Sv
def kN(k:Nat):XN:=[126,110,101,119,zr (97+k / 26),zr (97+k % 26)]
def xu(k:XN):Prop:=¬ (4<=k.length/\Ug k 0 4=[126,110,101,119])
def wx(f:WN):Int:=f.1.1-(f.1.2.length:Int)+f.1.1*(2-((VG f.2.1.2 0).length:Int))
structure FI (n k:Nat) (f:WN):Prop where
 fr:Vj f=0
 nx:f.2.2.2<=900000+(k:Int)
 key:∀ y∈f.1.2,xu y.1 \/ ∃ j<k,y.1=kN j
 val:(k:Int)+wx f=(n:Int)
end
section
open Go Sv
abbrev FrS:=(Int×(Bool×(Int×((List U7)×(Int×((List (List VU))×((List Job)×Int)))))))
def mkF(k:Nat)(f:WN):FrS:=((k:Int),(zf,(f.1.1,(f.1.2,(f.2.1.1,(f.2.1.2,f.2.2))))))
end
section
open Go Sv
def aQ(f:Nat->Nat):Nat->Nat
 |0=>0
 |m+1=>aQ f m+f m
theorem iE{f g:Nat->Nat}:∀ {m:Nat},(∀ i,i<m->g i<=f i)->aQ g m<=aQ f m
 |0,_=>ee _
 |m+1,h=>Nat.add_le_add (iE λi hi=>h i (by omega)) (h m (by omega))
theorem dH{f g:Nat->Nat}{n:Nat}(a:g n+1<=f n):∀ {m:Nat},n<m->(∀ i,i<m->i≠n->g i<=f i)->aQ g m+1<=aQ f m
 |0,h,_=>absurd h (by omega)
 |m+1,h,ho=>by
  unfold aQ;by_cases e:n=m
  ·subst e;have:=iE (f:=f) (g:=g) (m:=n) λi hi=>ho i (by omega) (by omega);omega
  ·have:=dH a (m:=m) (by omega) λi hi=>ho i (by omega)
   grind
theorem dv{f g:Nat->Nat}{n:Nat}(a:g n+g (n+1)+1<=f n+f (n+1)):∀ {m:Nat},n+1<m->(∀ i,i<m->i≠n->i≠n+1->g i<=f i)->aQ g m+1<=aQ f m
 |0,h,_=>absurd h (by omega)
 |m+1,h,ho=>by
  unfold aQ;by_cases e:n+1=m
  ·subst e;have:=iE (f:=f) (g:=g) (m:=n) λi hi=>ho i (by omega) (by omega) (by omega);unfold aQ;omega
  ·have:=dv a (m:=m) (by omega) λi hi=>ho i (by omega)
   grind
theorem aU:∀ {js:List Job} {j:Job},(js.map (·.1)).Nodup->j∈js->V7 js j.1=zo j
 |[],_,_,h=>by cases h
 |i::js,j,hn,h=>by
  rw[en,gw]at hn;unfold V7;rw[sp];unfold fY;rw[W3];rcases List.mem_cons.1 h with e|h
  ·grind
  ·have a:¬ j.1=i.1:=λe=>hn.1 (by grind);rw[decide_eq_false a];exact aU hn.2 h
theorem dY:∀ {js:List Job} {i:Nat} {j:Job} (w:Yq) (d:Int),(js.map (·.1)).Nodup->js[i]?=zo j->V7 (js.set i (j.1,w)) d=if d=j.1 then zo (j.1,w)else V7 js d
 |[],i,j,w,d,_,h=>by simp at h
 |x::js,0,j,w,d,hn,h=>by
  grind [V7,fY,W3]
 |x::js,i+1,j,w,d,hn,h=>by
  rw[en,gw]at hn;have h':js[i]?=zo j:=by grind
  have a:=dY w d hn.2 h';unfold V7 at a ⊢;rw[List.set_cons_succ,sp,sp,a];have b:fY d x=decide (d=x.1):=W3 _ _
  grind
theorem VSt.noJob{s:U9}(v:VSt s){i:Nat}(h:(VG s.1.2 i).length≠2):V7 s.2.1 (i:Int)=zn:=by
 refine ap λa=>h ?_;rw[v.due]at a;obtain⟨n,c,d,e,b⟩:=jG a;have:i=n:=by omega
 rw[this,Zt.1 b];rfl
theorem VSt.hasJob{s:U9}(v:VSt s){i:Nat}(h:(VG s.1.2 i).length=2):∃ j,V7 s.2.1 (i:Int)=zo j:=by
 have a:=d9 (i:=0) h;rw[gM,<- v.due]at a;obtain⟨j,b,e⟩:=List.mem_map.1 a;exact⟨j,by rw[<- e];exact aU v.nodup b⟩
theorem um{s:U9}(v:VSt s)(d:Int):eu s d=V7 s.2.1 d:=by
 by_cases h:d∈VS 0 s.1.2
 ·obtain⟨j,n,a,hd,b,_⟩:=v.atDue h;rw[a,hd,<- b];refine(aU v.nodup ?_).symm
  grind [eu]
 ·rw[ap (by rw[v.due];exact h)];unfold eu;split
  ·rename_i i hi;have:=(gW hi).2
   grind
  ·rfl
def sK(j:Job):Nat:=j.2.2.2.2.toNat
theorem JobAt.rd{L:VA}{n:Nat}{j:Job}(h:JobAt L n j):∃ a b,VG L.2 n=[a,b]/\sK j<=b.2.length+a.2.length/\Vk L j=b.2.length+a.2.length-sK j/\(0<Vk L j->sK (j.1,aO L j)=sK j+1):=by
 obtain⟨a,b,c,k,e,rfl,g,f,v0,v1⟩:=h;have d:=Zt.1 e;have e1:(Wm b.2 a.2 c k).2.1.2.2=c:=dy _ _ _ _;have e2:(Wm b.2 a.2 c k).2.2.2.toNat=k:=by rfl
 refine⟨a,b,d,?_,?_,λ_=> ?_⟩
 ·show(Wm b.2 a.2 c k).2.2.2.toNat<=_;omega
 ·simp_all[Vk,sK,bo]
 ·show(aO L ((n:Int),Wm b.2 a.2 c k)).2.2.2.toNat=(Wm b.2 a.2 c k).2.2.2.toNat+1;unfold aO;simp only[bo,d];rfl
structure StepF (s:U9) (n:Nat) (j:Job) (t:U9) (b:Bool):Prop where
 job:V7 s.2.1 (n:Int)=zo j
 read:0<Vk s.1 j->b=zf/\t.1=s.1/\t.2.2=s.2.2 /\ ∀ i:Nat,V7 t.2.1 (i:Int)=if i=n then zo (j.1,aO s.1 j)else V7 s.2.1 (i:Int)
 inst:Vk s.1 j=0->b=zt/\t.1=XF s j/\t.2.2=ab s j/\(∀ i,(VG t.1.2 i)=if WA j≠[]/\i=az s j then(if i=n then[]else VG s.1.2 i)++[(s.2.2,WA j)]else if i=n then[]else VG s.1.2 i)/\(az s j=n\/az s j=n+1/\n+1<12/\(WA j≠[]->(VG s.1.2 (n+1)).length<2)) /\
  ∀ i:Nat,V7 t.2.1 (i:Int)=if(VG t.1.2 i).length=2 then zo ((if i=n then zn else V7 s.2.1 (i:Int)).getD (Z8 t.1 (i:Int)))else zn
theorem iD{s0 s:U9}(g:Gd s0 s){d:Int}(h:d∈VS 0 s.1.2)(e:(ZP s d).2.2=0):∃ (n:Nat) (j:Job),d=(n:Int)/\n<12/\JobAt s.1 n j/\Yh s.1 j=zt/\StepF s n j (ZP s d).1 (ZP s d).2.1/\Gd s0 (ZP s d).1:=by
 obtain⟨v,S,hc⟩:=g;have O:=eB hc;have m:=v.sm;obtain⟨c,t,b,Y,_,B,_,hg⟩:=jg ⟨v,S,hc⟩ h;rw[iw m O]at B;have L:=Option.some.inj B;obtain⟨i,j,n,hi,P,hd,F,I⟩:=i8 v h;have hz:(VF s).2=0:=Vu.2 v;have E:eu s d=zo j:=by unfold eu;simp_all
 have U:n<12:=by
  have:=v.lev.len;obtain⟨_,_,_,_,Z,_⟩:=I
  grind
 have w:V7 s.2.1 (n:Int)=zo j:=by rw[<- hd,<- um v,E]
 have hS:ZP s d=aN s j:=by simp_all[ZP,zx]
 have q:Gd s0 (ZP s d).1:=by grind
 have a:=q.1;rw[hS]at e a q ⊢;refine⟨n,j,hd,U,I,?_,⟨w,λG=> ?_,λG=> ?_⟩,q⟩
 ·unfold aN at e
  grind
 ·unfold aN at e ⊢;have k:¬ Yh s.1 j=zf:=λk=>by simp_all
  rw[zx k,zy G];refine⟨rfl,rfl,rfl,λo=> ?_⟩;show V7 (cy s j).2.1 _=_;unfold cy;rw[F,<- hd,hi,Option.getD_some];show V7 (s.2.1.set i (d,aO s.1 j)) _=_;have:=dY (aO s.1 j) (o:Int) v.nodup P
  grind
 ·unfold aN at e a ⊢;have k:¬ Yh s.1 j=zf:=λk=>by simp_all
  have J:Yh s.1 j=zt:=by simp_all
  have r:¬ 0<Vk s.1 j:=by omega
  rw[zx k,zx r]at e a ⊢;unfold cd at e a ⊢;rw[zx (λh=>h.elim r k)]at e a ⊢;by_cases M:s.2.2>1000000/\WA j≠[]
  ·simp_all
  rw[zx M]at e a ⊢;have C:j.1.toNat=n:=by omega
  have z:∀ i,VG (XF s j).2 i=_:=λi=>W6 (s:=s) (j:=j) C i;refine⟨rfl,rfl,rfl,z,?_,λo=> ?_⟩
  ·unfold az;rw[C];by_cases hs:ZF s.1 j=zt
   ·simp_all
   ·rw[zx hs]
    have X:cB s.1 (n+1)=zt:=by
     simp_all[Yh]
    have A:=of_decide_eq_true X;exact .inr ⟨rfl,A.1,λ_=>A.2⟩
  ·have p:VSt (ak s (XF s j) (ab s j) j.1):=a;show V7 (ak s (XF s j) (ab s j) j.1).2.1 (o:Int)=if(VG (XF s j).2 o).length=2 then zo ((if o=n then zn else V7 s.2.1 (o:Int)).getD (Z8 (XF s j) (o:Int)))else zn
   have W:(VG (ak s (XF s j) (ab s j) j.1).1.2 o)=VG (XF s j).2 o:=rfl;by_cases D:(VG (XF s j).2 o).length=2
   ·rw[zy D];have K:=d9 (i:=0) D;rw[gM]at K;have y:ZL s (XF s j) j.1 (o:Int)∈(ak s (XF s j) (ab s j) j.1).2.1:=List.mem_map_of_mem K
    have u:(ZL s (XF s j) j.1 (o:Int)).1=(o:Int):=by
     have N:(VS 0 (XF s j).2).map (λd=>(ZL s (XF s j) j.1 d).1)=VS 0 (XF s j).2:=by
      have:=p.due
      simp_all[ak,List.map_map,Function.comp_def]
     have key:∀ {l:List Int} {f:Int->Int},l.map f=l -> ∀ x∈l,f x=x:=by
      intro l f
      induction l<;>simp_all
     grind
    have:=aU p.nodup y;rw[u]at this;rw[this];unfold ZL
    grind
   ·rw[zx D];exact p.noJob (by rw[W];exact D)
end
section
open Go Sv
def qv(s:U9)(i:Nat):Nat:=match V7 s.2.1 (i:Int)with
 |some j=>sK j
 |none=>0
def gN(N:Nat)(s:U9)(i:Nat):Nat:=(VG s.1.2 i).length*(N+1)-qv s i
def sJ(N:Nat)(s:U9):Nat:=aQ (gN N s) 12
theorem rF{L:VA}{n:Nat}{a b:VU}(h:VG L.2 n=[a,b]):a.2.length+b.2.length<=VX L.2.flatten:=by
 obtain⟨p,q,c,_⟩:=Y7 L n []
 grind [Xi,Wo]
theorem VSt.rd0{s:U9}(v:VSt s){i:Nat}(h:(VG s.1.2 i).length≠2):qv s i=0:=by
 unfold qv;rw[v.noJob h]
theorem lj{N:Nat}{s t:U9}{n:Nat}{j:Job}{b:Bool}(v:VSt s)(B:VX s.1.2.flatten<=N)(l:n<12)(q:JobAt s.1 n j)(F:StepF s n j t b):sJ N t+1<=sJ N s:=by
 obtain⟨E,G,f,C,D,w⟩:=q.rd;have hc:=rF f
 have hs:gN N s n=2*(N+1)-sK j:=by
  unfold gN qv;rw[F.job,f];rfl
 by_cases k:0<Vk s.1 j
 ·obtain⟨_,e1,_,e2⟩:=F.read k;refine dH (n:=n) ?_ l λi _ a=> ?_
  ·have g:gN N t n=2*(N+1)-(sK j+1):=by
    unfold gN qv;rw[e2,zy rfl,e1,f,<- w k];rfl
   omega
  simp_all[gN,qv,zx,ee]
 ·obtain⟨_,e1,_,e2,e3,x⟩:=F.inst (by omega)
  have d:∀ i,i≠n -> ¬ (WA j≠[]/\i=az s j)->gN N t i<=gN N s i:=λi a hit=>by
   have y:VG t.1.2 i=VG s.1.2 i:=by simp_all
   have c:qv t i=qv s i:=by
    by_cases c:(VG s.1.2 i).length=2
    ·obtain⟨j',u⟩:=v.hasJob c
     simp_all[qv,zy,zx]
    ·rw[v.rd0 c]
     simp_all[qv,zx]
   unfold gN;grind
  by_cases g:WA j≠[]/\az s j≠n
  ·obtain⟨m,z⟩:=g;rcases e3 with e3|⟨e3,e,c⟩
   ·omega
   have c:=c m;refine dv (n:=n) ?_ e λi _ a r=>d i a (by omega)
   have o:gN N t n=0:=by
    unfold gN;rw[e2,zx (by rw[e3];omega),zy rfl];simp
   have p:gN N t (n+1)<=((VG s.1.2 (n+1)).length+1)*(N+1):=by
    simp_all[gN,zy,zx,xr,Nat.sub_le]
   have A:gN N s (n+1)=(VG s.1.2 (n+1)).length*(N+1):=by
    unfold gN;rw[v.rd0 (by omega)];rfl
   rw[Nat.add_mul]at p;omega
  ·refine dH (n:=n) ?_ l λi _ a=>d i a (λh=>g ⟨h.1,by omega⟩)
   have o:gN N t n<=1*(N+1):=by
    refine F2 (Nat.sub_le _ _) (Nat.mul_le_mul_right _ ?_);rw[e2,zy rfl]
    grind
   omega
end
section
open Go Sv
def Y5(s:U9):Int:=if(ZM s).2≠0 then(ZM s).2 else(ZP s (ZM s).1).2.2
def aM(s:U9):U9:=(ZP s (ZM s).1).1
def dM(s:U9):Int×Bool:=((ZM s).1,(ZP s (ZM s).1).2.1)
def Zj:Nat->U9->U9×(List (Int×Bool)×Int)
 |0,s=>(s,([],0))
 |n+1,s=>if Y5 s=4 then(s,([],0))else if Y5 s≠0 then(s,([],Y5 s))else((Zj n (aM s)).1,(dM s::(Zj n (aM s)).2.1,(Zj n (aM s)).2.2))
theorem bF{s:U9}:∀ {l:List Int} {d:Int},aC s l=zo d -> ∃ p q,l=p++d::q/\(Z7 zf (λs j=>(Yh s.1 j,0)) s d).1=zt /\ ∀ x∈p,¬ (Z7 zf (λs j=>(Yh s.1 j,0)) s x).1=zt
 |[],_,h=>by cases h
 |x::l,d,h=>by
  unfold aC at h;split at h
  ·rename_i a;cases h;exact⟨[],l,rfl,a,λ_ h=>by cases h⟩
  ·rename_i a;obtain⟨p,q,rfl,b,c⟩:=bF h
   grind
theorem gn{s:U9}(v:VSt s):((ZM s).2=4/\s.2.1=[])\/(ZM s).2=9\/((ZM s).2=0/\(ZM s).1∈VS 0 s.1.2):=by
 have a:(VF s).2=0:=Vu.2 v;unfold ZM;rw[zx (by simp[a])];by_cases h:VS 0 s.1.2=[]
 ·rw[zy h];refine .inl ⟨rfl,?_⟩;have:=v.due
  simp_all
 ·rw[zx h];cases hc:aC s (VS 0 s.1.2)with
  |none=>simp_all
  |some d=>
   obtain⟨p,q,e,_⟩:=bF hc
   simp_all
theorem lZ{s0 s:U9}(g:Gd s0 s)(e:Y5 s=0):(ZM s).2=0/\(ZM s).1∈VS 0 s.1.2/\(ZP s (ZM s).1).2.2=0:=by
 unfold Y5 at e;rcases gn g.1 with h|h|h<;>simp_all
theorem Zh{s0 s:U9}(g:Gd s0 s)(e:Y5 s=0):∃ (n:Nat) (j:Job),(dM s).1=(n:Int)/\n<12/\JobAt s.1 n j/\Yh s.1 j=zt/\StepF s n j (aM s) (dM s).2/\Gd s0 (aM s):=by
 obtain⟨_,a,b⟩:=lZ g e;exact iD g a b
theorem jJ{s0 s:U9}{N:Nat}(g:Gd s0 s)(a:VX s.1.2.flatten<=N)(e:Y5 s=0):sJ N (aM s)+1<=sJ N s/\VX (aM s).1.2.flatten<=N:=by
 obtain⟨n,j,_,d,c,_,F,_⟩:=Zh g e;refine⟨lj g.1 a d c F,?_⟩;by_cases b:0<Vk s.1 j
 ·rw[(F.read b).2.1];exact a
 ·rw[(F.inst (by omega)).2.1];exact F2 (fH g.1 (eB g.2.2) c b) a
def vw(u:gR)(x:Int×Bool):gR:=(TI .i64 u.1 1,(u.2.1,(if x.2=zt then TI .i64 u.2.2.1 1 else u.2.2.1,bmp u.2.2.2 x.1.toNat x.1.toNat)))
def rx(u:gR)(l:List (Int×Bool)):gR:=l.foldl vw u
end
end Go.Proofs.YtoefnfbpoabinaaGreatDoor.Pl
