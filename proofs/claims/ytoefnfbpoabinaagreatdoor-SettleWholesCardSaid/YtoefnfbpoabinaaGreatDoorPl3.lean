/- Functions of the program and of the specification as plain functions, and laws about them. No condition. -/
import Derived.Test.YtoefnfbpoabinaaGreatDoorPl2
import Derived.KernelRfl
set_option linter.all false
open List renaming drop_eq_getElem_cons->sa, find?_cons->o5, flatten_cons->o3, getElem?_eq_getElem->ci, getElem?_eq_some_iff->a8, getElem?_of_mem->co, length_append->tT, length_cons->dc, map_cons->ee, mem_flatten->hM, mem_of_getElem?->bl, mem_of_mem_take->l4, nodup_cons->gs, take_add_one->ey
open Nat renaming add_comm->ya, le_refl->ed, le_trans->yb, zero_add->gw
open Int renaming toNat_natCast->bo
open Option renaming filter->oy, none_or->r7, or_assoc->kd
open UInt8 renaming ofNat->x9
open Option renaming some->zo, none->zn
open Bool renaming true->zt, false->zf
namespace Go.Proofs.YtoefnfbpoabinaaGreatDoor.Pl
section
open Go Sv
def bj(f:Nat->Option VY):Nat->Nat->Option VY
 |_,0=>zn
 |i,m+1=>(f i).or (bj f (i+1) m)
theorem jP(f:Nat->Option VY):∀ (m i:Nat),bj f (i+1) m=bj (λj=>f (j+1)) i m
 |0,_=>rfl
 |m+1,i=>by
  show(f (i+1)).or (bj f (i+1+1) m)=(f (i+1)).or (bj (λj=>f (j+1)) (i+1) m);rw[jP f m (i+1)]
theorem Zw{f g:Nat->Option VY}:∀ (m i:Nat),(∀ j,i<=j->j<i+m->f j=g j)->bj f i m=bj g i m
 |0,_,_=>rfl
 |m+1,i,h=>by
  show(f i).or (bj f (i+1) m)=(g i).or (bj g (i+1) m);rw[h i (by omega) (by omega),Zw m (i+1) λj a b=>h j (by omega) (by omega)]
theorem ej:∀ (m i:Nat),bj (λ_=>zn) i m=zn
 |0,_=>rfl
 |m+1,i=>by show(zn:Option VY).or _=_;rw[r7];exact ej m (i+1)
theorem dK(f:Nat->Option VY):∀ (p i q:Nat),bj f i (p+q)=(bj f i p).or (bj f (i+p) q)
 |0,i,q=>by rw[gw];rfl
 |p+1,i,q=>by
  rw[show p+1+q=(p+q)+1 by omega];show(f i).or (bj f (i+1) (p+q))=((f i).or (bj f (i+1) p)).or (bj f (i+(p+1)) q);rw[dK f p (i+1) q,kd,show i+1+p=i+(p+1) by omega]
theorem cJ(k:Xk):∀ (ls:List (List Vt)) (K:Nat),ls.length<=K->Wd (Vk ls) k=bj (λj=>Wd (Vh ls j).reverse k) 0 K
 |[],K,_=>by
  have:(λj=>Wd (Vh [] j).reverse k)=λ_=>zn:=by
   rfl
  rw[this,ej];rfl
 |rs::ls,0,h=>by simp at h
 |rs::ls,K+1,h=>by
  have e:Vk (rs::ls)=rs.reverse++Vk ls:=rfl;rw[e,gB,cJ k ls K (by simpa using h)];show _=(Wd (Vh (rs::ls) 0).reverse k).or (bj (λj=>Wd (Vh (rs::ls) j).reverse k) (0+1) K);rw[jP];rfl
theorem jx{s:Va}(v:VSt s)(B:sF s.1){n:Nat}{j:Job}(q:JobAt s.1 n j)(D:¬ 0<V9 s.1 j)(hc:Y8 s.1 j=zt)(E:WZ j≠[]->s.2.2<=1000000):Lw (Xc s j)=Lw s.1:=by
 have F:=lQ v B q D hc E;obtain⟨N,O,P,S,U⟩:=q.out v.lev (B n);have d:j.1.toNat=n:=by omega
 obtain⟨b,c,p,m,y,f,K,r,v0,v1⟩:=q;have I:=aF.1 y
 have J:V9 s.1 j=c.2.length+b.2.length-m:=by
  rw[f];unfold V9;simp only[bo,y];rfl
 have t:m=c.2.length+b.2.length:=by omega
 subst t
 have o:∀ k,Vv (WZ j) k=((Vv c.2 k).or (Vv b.2 k)).filter λx=> !(p&&x.2.2.1):=λk=>by
  rw[f];exact rn v1 v0 p k
 refine lX λk=> ?_;have L:=F.lev.len;have M:=v.lev.len;rw[cJ k _ 14 (by omega),cJ k _ 14 (by omega)];rw[show 14=n+(1+(13-n)) by omega,dK,dK _ n 0];have u:bU s j=n\/bU s j=n+1:=by unfold bU;simp_all
 have h:bj (λi=>Wd (Vh (Xc s j).2 i).reverse k) 0 n=bj (λi=>Wd (Vh s.1.2 i).reverse k) 0 n:=Zw _ _ λi _ hi=>by
  rw[XU d,zx (by omega),zx (by omega)]
 rw[h];generalize bj (λi=>Wd (Vh s.1.2 i).reverse k) 0 n=A
 have w:bj (λi=>Wd (Vh (Xc s j).2 i).reverse k) (0+n) (1+(13-n))=(Vv (WZ j) k).or (bj (λi=>Wd (Vh s.1.2 i).reverse k) (n+1) (13-n)):=by
  rw[gw,ya 1];show(Wd (Vh (Xc s j).2 n).reverse k).or (bj (λi=>Wd (Vh (Xc s j).2 i).reverse k) (n+1) (13-n))=_;by_cases a:WZ j=[]
  ·rw[XU d,zx (by simp[a]),zy rfl,a];refine congrArg _ (Zw _ _ λi hi _=> ?_);rw[XU d,zx (by simp[a]),zx (by omega)]
  ·rcases u with ht|ht
   ·rw[XU d,zy ⟨a,ht.symm⟩,zy rfl]
    have e:Wd (([]:List Vt)++[(s.2.2,WZ j)]).reverse k=Vv (WZ j) k:=by
     show(Vv (WZ j) k).or zn=_
     simp_all
    rw[e];refine congrArg _ (Zw _ _ λi hi _=> ?_);rw[XU d,zx (by omega),zx (by omega)]
   ·rw[XU d,zx (by omega),zy rfl];have C:=F.to12 a;rw[show 13-n=(12-n)+1 by omega];show(zn:Option VY).or ((Wd (Vh (Xc s j).2 (n+1)).reverse k).or (bj _ (n+1+1) (12-n)))=(Vv (WZ j) k).or ((Wd (Vh s.1.2 (n+1)).reverse k).or (bj _ (n+1+1) (12-n)));rw[XU d,zy ⟨a,ht.symm⟩,zx (by omega),List.reverse_append,r7];have e:Wd ([(s.2.2,WZ j)].reverse++(Vh s.1.2 (n+1)).reverse) k=(Vv (WZ j) k).or (Wd (Vh s.1.2 (n+1)).reverse k):=rfl;rw[e,kd];refine congrArg _ (congrArg _ (Zw _ _ λi hi _=> ?_));rw[XU d,zx (by omega),zx (by omega)]
 have l:bj (λi=>Wd (Vh s.1.2 i).reverse k) (0+n) (1+(13-n))=((Vv c.2 k).or (Vv b.2 k)).or (bj (λi=>Wd (Vh s.1.2 i).reverse k) (n+1) (13-n)):=by
  rw[gw,ya 1];show(Wd (Vh s.1.2 n).reverse k).or _=_;rw[I];refine congrArg (λz=>Option.or z _) ?_;show(Vv c.2 k).or ((Vv b.2 k).or zn)=_
  simp_all
 rw[w,l,o k];cases p with
 |false=>
  have:((Vv c.2 k).or (Vv b.2 k)).filter (λx=> !(zf&&x.2.2.1))=(Vv c.2 k).or (Vv b.2 k):=by
   cases(Vv c.2 k).or (Vv b.2 k)<;>simp[oy]
  rw[this]
 |true=>
  have G:bj (λi=>Wd (Vh s.1.2 i).reverse k) (n+1) (13-n)=zn:=by
   rw[Zw (g:=λ_=>zn) _ _ λi hi _=> ?_,ej];have:Vh s.1.2 i=[]:=by unfold Vh;rw[List.getElem?_eq_none (by have:=r rfl;omega)];rfl
   rw[this];rfl
  rw[G];cases A with
  |some x=>rfl
  |none=>
   cases(Vv c.2 k).or (Vv b.2 k)with
   |none=>rfl
   |some x=>
    grind [oy,Vf]
end
section
open Go Sv
end
section
open Go Sv
end
section
open Go Sv
def Vw(l:List Vt):Nat:=(l.map λr=>r.2.length).sum
theorem XD(r:Vt)(l:List Vt):Vw (r::l)=r.2.length+Vw l:=by simp[Vw]
theorem X7(l m:List Vt):Vw (l++m)=Vw l+Vw m:=by simp[Vw]
theorem lI(l:List Vt):Vw l.reverse=Vw l:=by simp[Vw]
theorem eU{l:List Vt}(h:∀ r∈l,r.2.length<=5000):Vw l<=l.length*5000:=by
 induction l with
 |nil=>simp[Vw]
 |cons r l a=>
  grind [XD,dc]
theorem Xw:∀ ls:List (List Vt),Vw (Vk ls)=Vw ls.flatten/\(Vk ls).length=ls.flatten.length
 |[]=>⟨rfl,rfl⟩
 |rs::ls=>by
  obtain⟨a,b⟩:=Xw ls;have e:Vk (rs::ls)=rs.reverse++Vk ls:=rfl
  simp_all[o3,X7,lI]
theorem jQ{S β:Type}{f:S->Option (LR S β)}{r:β}(mk:Int->Nat->S)(n:Nat){s:S}(b:s=mk ((n:Int)-1) n)(d:n<1000000000)(hs:∀ k,k<n->f (mk (k:Int) (k+1))=zo (.nx (mk ((k:Int)-1) k)))(c:f (mk (-1) 0)=zo (.dn r)):loop f s=zo r:=by
 subst b
 have a:∀ k,k<=n->Iu (k+1) f (mk ((k:Int)-1) k)=zo r:=by
  intro k
  induction k with
  |zero=>intro _;exact WG c
  |succ k e=>
   grind [V7]
 exact Wx (by omega) (a n (ed _))
theorem bK{L:Vb}(v:VLev L):L.2.flatten.length<=24/\Vw L.2.flatten<=24*5000:=by
 have b:L.2.flatten.length<=24:=by
  have h:=Zg L.2 v.two;have:=v.len;rw[(Xw L.2).2]at h;omega
 refine⟨b,?_⟩
 have:=eU (l:=L.2.flatten) λr a=>by
  obtain⟨rs,c,d⟩:=hM.1 a;obtain⟨i,hi⟩:=co c;exact((v.lev i rs hi).2 r d).vl.len
 grind
def gq(L:Vb):Int×(Int×Int):=if(Wy L).2.2≠0 then(0,(0,(Wy L).2.2))else((Vw L.2.flatten:Int),((L.2.flatten.length:Int),0))
theorem ks(L:Vb)(g:L.2.length<=1048576)(n:∀ rs∈L.2,rs.length<=1048576 /\ ∀ r∈rs,r.2.length<=9223372036854775807):Xp L=zo (gq L):=by
 unfold Xp gq;simp only[Vd,Vc];rw[ZY _ g n,Ug,VF];by_cases b:(Wy L).2.2=0;rotate_left
 ·simp_all
 rw[zy b,zx (by simp[b])];have v:=YN.1 b;have p:=v.len;obtain⟨s1,s2⟩:=bK v
 rw[WQ (l:=L.2) (σ:=Nat×Nat) (s:=((0:Int),((0:Int),(0:Int)))) (λi a=>((i:Int),((a.1:Int),(a.2:Int)))) (λls i a=>a.1+Vw ls.flatten=Vw L.2.flatten/\a.2+ls.flatten.length=L.2.flatten.length) (λ_ _ _=>(0,(((L.2.length:Int),((Vw L.2.flatten:Int),(L.2.flatten.length:Int))),()))) (0,0) rfl (by omega) ⟨by simp,by simp⟩ (λa h=>by
  simp_all[re,Ta,Vw]) (λi rs ls a hd hi c h=>by
   obtain⟨e,f⟩:=h;rw[o3,X7]at e;rw[o3,tT]at f;have o:=v.two rs (bl hi);refine⟨(a.1+Vw rs,a.2+rs.length),?_,⟨by omega,by omega⟩,rfl⟩;simp only;rw[rl c,UN,VZ,U0 hi,UU (by omega)]
   rw[jQ (λk m=>(k,(((a.1+Vw (rs.drop m):Nat):Int),((a.2+(rs.length-m):Nat):Int)))) rs.length (by simp[Vw]) (by omega) (λk d=>by
    have j:rs[k]?=zo rs[k]:=ci d;have hd:Vw (rs.drop k)=rs[k].2.length+Vw (rs.drop (k+1)):=by rw[sa d,XD]
    have hc:Vw (rs.drop k)<=Vw rs:=by
     have:=X7 (rs.take k) (rs.drop k)
     simp_all
    simp only;rw[VB,zy (by omega),VZ,U0 j,UU (by omega),US (by omega),US (by omega),hd]
    grind) (r:=(0,(((-1:Int),(((a.1+Vw rs:Nat):Int),((a.2+rs.length:Nat):Int))),()))) rfl,Ug]
   rw[Vi hi (by omega)]),Ug]
theorem kA{L:Vb}(v:VLev L):Yy L=zo ((Vw L.2.flatten:Int),((L.2.flatten.length:Int),0)):=by
 unfold Yy;simp only[Vd,Vc];rw[bR v,Ug];simp only;rw[VF,zy rfl];obtain⟨s1,s2⟩:=bK v;obtain⟨n1,n2⟩:=Xw L.2
 rw[WQ (l:=Vk L.2) (σ:=Nat) (s:=((0:Int),(0:Int))) (λi a=>((a:Int),(i:Int))) (λls i a=>a+Vw ls=Vw L.2.flatten) (λ_ _ _=>(0,(((Vw L.2.flatten:Int),((Vk L.2).length:Int)),()))) 0 rfl (by omega) (by omega) (λa h=>by
  grind [re,Ta,Vw]) (λi r ls a hd hi b h=>by
   rw[XD]at h;refine⟨a+r.2.length,?_,by omega,rfl⟩
   grind [rl,UN,VZ,U0,US]),Ug,n2]
theorem rD{s:Va}(m:Sm s)(a:Int):aZ (s,a)=zo (aT 0 (λs j=>((V9 s.1 j:Int),0)) s a):=by
 unfold aZ;rw[eY m,Ug];unfold aT fO bZ;by_cases b:(Vg s).2=0;rotate_left
 ·simp_all[zy,VF,zx]
 rw[zx (show ¬ (Vg s).2≠0 by simp[b]),zx (show ¬ (Vg s).2≠0 by simp[b])];have v:=WJ.1 b;cases e:cg a 0 (Vr 0 s.1.2)with
 |none=>rfl
 |some i=>
  obtain⟨j,n,c,g,f,d,h⟩:=v.at e;simp only[c];rw[VF,zy rfl,VZ,U0 c,(JobAt.left d).1,Ug]
def fc(s:Va)(d:Int):Nat:=match fO s d with
 |some j=>V9 s.1 j+1
 |none=>0
theorem VSt.debt{s:Va}(v:VSt s){d:Int}(h:d∈Vr 0 s.1.2)(m:Sm s):dB (s,d)=zo ((fc s d:Int),0)/\cS (s,d)=zo ((fc s d:Int),0)/\fc s d<=10001:=by
 obtain⟨j,n,b,e,f,c,i⟩:=v.atDue h;have k:(Vg s).2=0:=WJ.2 v;have hd:fc s d=V9 s.1 j+1:=by unfold fc;rw[b]
 have g:=(JobAt.left c).2.2
 have a:aT (0:Int) (λs j=>((V9 s.1 j:Int),0)) s d=((V9 s.1 j:Int),0):=by
  simp_all[aT,zx,Vg]
 unfold dB cS;rw[rD m,kC m,a,hd,Ug];simp only[Ug];rw[VF,zy rfl,US (by omega)]
 simp_all
def Xz(b:Vt):Int×Int:=if b.1<1\/b.1>16 then(0,7)else if(b.2.length:Int)>b.1 then(0,3)else aR zn 0 b.2
theorem cv(b:Vt):Xn b=zo (Xz b):=by
 unfold Xn Xz;rw[VE,VC,VC];by_cases c:b.1<1
 ·simp_all
 rw[zx c];by_cases d:b.1>16
 ·simp_all
 rw[zx d,zx (show ¬ (b.1<1\/b.1>16) by omega),Vd,Vc];by_cases a:(b.2.length:Int)>b.1
 ·simp_all
 rw[zx a,zx a];have e:=Xm b.2 (by omega)
 grind [V2,Xl,VC,Vd,Vc]
theorem gJ(b:Vt):Yx b=zo (Xz b):=by
 rw[<- cv];unfold Yx Xn
 congr 1
 funext _
 congr 1
 funext _
 congr 1
 funext _
 congr 2
 funext s0
 by_cases h:0<=s0.2.2
 ·simp only[UW h];cases a:b.2[s0.2.2.toNat]? with
  |none=>unfold ix;grind
  |some x=>grind [U0,aG,Wo,Ug]
 grind [TS]
def V8(f:Wm):Int:=if(Xz f.1).2≠0 then(Xz f.1).2 else if(Vg f.2).2≠0 then(Vg f.2).2 else if f.1.1≠f.2.1.1 then 6 else 0
theorem c0{f:Wm}(m:Sm f.2):Wp f=zo (V8 f):=by
 unfold Wp V8;rw[cv,Ug,VF];by_cases a:(Xz f.1).2=0;rotate_left
 ·simp_all
 rw[zy a,zx (show ¬ (Xz f.1).2≠0 by simp[a]),chk m,Ug,VF];by_cases b:(Vg f.2).2=0;rotate_left
 ·simp_all
 rw[zy b,zx (show ¬ (Vg f.2).2≠0 by simp[b]),VF]
 grind
theorem cZ{f:Wm}(m:Sm f.2):YE f=zo (V8 f):=by
 unfold YE V8;rw[gJ,Ug,VA];by_cases a:(Xz f.1).2=0;rotate_left
 ·simp_all[zx,VA,zy]
 rw[zy a,zx (show ¬ (Xz f.1).2≠0 by simp[a]),xz m,Ug,VA];by_cases b:(Vg f.2).2=0;rotate_left
 ·simp_all
 rw[zy b,zx (show ¬ (Vg f.2).2≠0 by simp[b]),VF]
 grind
end
section
open Go Sv
theorem cq(x:VY):∀ l:List VY,(Wz l x).length<=l.length+1
 |[]=>by unfold Wz;simp
 |y::l=>by
  unfold Wz;have:=cq x l
  grind
theorem eB{α:Type}(l:List α)(k:Nat):Db l 0 k=l.take k:=by rfl
theorem eA{α:Type}(l:List α)(k:Nat):Db l k l.length=l.drop k:=by
 simp_all[Db,List.take_of_length_le]
theorem ub(l:List VY)(x:VY)(B:l.length<=1000000):ZC (l,x)=zo (Wz l x):=by
 unfold ZC;simp only[Vd,Vc]
 obtain⟨r,w,z⟩:=Xd (l:=l) (σ:=Unit) (λk _=>(k:Int)) (λm k _=>Wz l x=l.take k++Wz m x) (λ(r:Nat×(Int×Unit))=>∃ k:Nat,r.2.1=(k:Int)/\k<=l.length/\Wz l x=l.take k++Wz (l.drop k) x /\ ∀ y,l[k]?=zo y->UB y.1 x.1=zf)
  (f:=λs0=>br (Uv s0 (l.length:Int)) (λ_=>TS s0 λu=>ix l u λA=>br (UB A.1 x.1) (λ_=>zo (.nx (Tk .i64 s0 1))) λ_=>zo (.dn ((0,(s0,()))))) λ_=>zo (.dn ((0,(s0,())))))
  (s:=(0:Int)) () rfl (by omega) rfl (λ_ h=>by
   refine⟨(0,((l.length:Int),())),by rw[re];rfl,l.length,rfl,ed _,by rw[h];simp,λy j=>by simp at j⟩) (λk y m _ hd d a h=>by
   rw[rl a,UN,VZ,U0 d,Yi];unfold Wz at h;by_cases hs:UB y.1 x.1=zt
   ·rw[zy hs,Ve (by omega)];rw[zy hs]at h;refine .inl ⟨(),rfl,?_⟩
    grind [Wz,ey]
   ·rw[zx hs]
    grind [Wz])
 rw[w,Ug];obtain⟨k,e,a,q,j⟩:=z;have n:∀ {β:Type} (c:Unit->Option β),gd (B5 (l.take k).length 1048576) c=c ():=λc=>Vz (by simp;omega) c;have o:∀ {β:Type} (c:Unit->Option β),gd (B5 (A0 (l.take k).length [x].length) 1048576) c=c ():=λc=>Vz (by simp[A0];omega) c;have p:∀ {β:Type} (c:Unit->Option β),gd (B5 (A0 (Ir (l.take k) [x]).length (l.drop k).length) 1048576) c=c ():=λc=>Vz (by simp[A0,Ir];omega) c;rw[e];by_cases h:k<l.length
 ·have d:l[k]?=zo l[k]:=ci h;have hs:=j _ d;have g:l.drop k=l[k]::l.drop (k+1):=sa h
  have t:Wz (l.drop k) x=if l[k].1=x.1 then l.drop k else x::l.drop k:=by
   rw[g]
   conv=>lhs;unfold Wz
   grind
  rw[rl h,UN,VZ,U0 d,Xb,q,t];by_cases b:l[k].1=x.1
  ·rw[zy b,zy b,List.take_append_drop]
  ·rw[zx b,zx b,VZ,Vz a,Vz (by omega),eB,n,o,VZ,Vz (by omega),Vz a,eA,p];unfold Ir;simp
 ·have i:k=l.length:=by omega
  subst i;rw[re,Ta,q,VZ,Vz a,Vz (by omega),eB,n,o,VZ,Vz (by omega),Vz a,eA,p];simp[Ir,Wz]
theorem cA:∀ (m l:List VY),(m.foldl Wz l).length<=l.length+m.length
 |[],l=>by simp
 |x::m,l=>by
  have a:=cA m (Wz l x);have b:=cq x l
  grind
theorem cu:∀ (rs:List Vt) (l:List VY),(cb rs l).length<=l.length+Vw rs
 |[],l=>by simp[cb,Vw]
 |r::rs,l=>by
  have a:=cu rs (r.2.foldl Wz l);have b:=cA r.2 l;rw[XD];show(cb rs (r.2.foldl Wz l)).length<=_;omega
theorem uc{R:List Vt}{i:Nat}{r:Vt}(hi:R[i]?=zo r){out:List VY}(b:out.length+r.2.length<=500000):loop (λ(s2:Vt)=>TS (i:Int) λd=>ix R d λj=>br (Uv s2.1 (j.2.length:Int)) (λ_=>TS (i:Int) λe=>ix R e λm=>TS s2.1 λf=>ix m.2 f λn=>bd (ZC (s2.2,n)) λg=>zo (.nx (Tk .i64 s2.1 1,g))) λ_=>zo (.dn (((0:Nat),(s2,()))))) ((0:Int),out)=zo (0,(((r.2.length:Int),r.2.foldl Wz out),())):=by
 refine WQ (l:=r.2) (σ:=List VY) (λk o=>((k:Int),o)) (λls _ o=>o.length+ls.length<=500000) (λls _ o=>(0,(((r.2.length:Int),ls.foldl Wz o),()))) out rfl (by omega) b (λo h=> ?_) (λk x ls o hd c a h=> ?_)
 ·simp only;rw[VZ,U0 hi,re];rfl
 ·have:=cq x o;simp only[dc]at h;refine⟨Wz o x,?_,by omega,rfl⟩;simp only;rw[VZ,U0 hi,rl a,UN,VZ,U0 hi,VZ,U0 c,ub _ _ (by omega),Ug,Ve (by omega)]
theorem ud{L:Vb}(v:VLev L):Ze L=zo (Lw L):=by
 obtain⟨n,p⟩:=bK v;obtain⟨j,m⟩:=Xw L.2;unfold Ze;simp only[Vd,Vc];rw[bR v,Ug];refine Vx (WQ (l:=Vk L.2) (σ:=List VY) (s:=(([]:List VY),(0:Int))) (λi o=>(o,(i:Int))) (λls _ o=>o.length+Vw ls<=500000) (λls _ o=>(0,((cb ls o,((Vk L.2).length:Int)),()))) [] rfl (by omega) (by simp;omega) (λo h=> ?_) (λi r ls o hd hi c h=> ?_)) ?_
 ·simp only;rw[re];rfl
 ·rw[XD]at h;have b:=cA r.2 o;refine⟨r.2.foldl Wz o,?_,by omega,rfl⟩;simp only;rw[rl c,UN];refine Vx (uc hi (by omega)) ?_;rw[Ve (by omega)]
 ·have a:=cu (Vk L.2) [];simp only[List.length_nil,gw]at a;dsimp only;generalize f:cb (Vk L.2) []=A at a;have g:Lw L=A.filter Vf:=by unfold Lw;rw[f]
  rw[g];refine Vx (WQ (l:=A) (σ:=List VY) (s:=((0:Int),([]:List VY))) (λk o=>((k:Int),o)) (λls k o=>o.length<=k/\o++ls.filter Vf=A.filter Vf) (λ_ _ _=>(0,(((A.length:Int),A.filter Vf),()))) [] rfl (by omega) ⟨by simp,rfl⟩ (λo h=> ?_) (λk x ls o hd e c h=> ?_)) rfl
  ·simp_all[re,Ta]
  ·obtain⟨q,b⟩:=h;rw[List.filter_cons]at b;simp only;rw[rl c,UN,VZ,U0 e];cases d:x.2.2.1 with
   |true=>
    have:Vf x=zf:=by unfold Vf;rw[d];rfl
    grind [eR,Ta,Ve]
   |false=>
    have:Vf x=zt:=by unfold Vf;rw[d];rfl
    rw[this]at b;refine⟨o++[x],?_,⟨by simp;omega,by grind⟩,trivial⟩;rw[uq,UN,VZ,U0 e,Vz (by simp[A0];omega),Ve (by omega)];rfl
end
section
open Go Sv
end
section
open Go Sv
end
section
open Go Sv
end
section
open Go Sv
end
section
open Go Sv
def Gd(s0 s:Va):Prop:=VSt s/\Lw s.1=Lw s0.1/\Vw s.1.2.flatten<=2000
theorem rL{l:List Vt}{r:Vt}(h:r∈l):r.2.length<=Vw l:=by
 induction l with
 |nil=>cases h
 |cons x l a=>
  grind [XD]
theorem eX{L:Vb}(h:Vw L.2.flatten<=2000):sF L:=λi r a=>by
 have:=rL (dM.2 ⟨i,a⟩);omega
theorem fZ{s:Va}(v:VSt s)(g:sF s.1){n:Nat}{j:Job}(f:JobAt s.1 n j)(z:¬ 0<V9 s.1 j):Vw (Xc s j).2.flatten<=Vw s.1.2.flatten:=by
 obtain⟨B,C,D,E,F⟩:=f.out v.lev (g n);have r:j.1.toNat=n:=by omega
 have a:=g n;obtain⟨d,e,i,k,o,b,t,A,v0,v1⟩:=f;have u:=aF.1 o;rw[u]at a;have w:=a d (by simp);have l:=a e (by simp)
 have h:(WZ j).length<=e.2.length+d.2.length:=by
  rw[b];exact(lz v1 v0 i t (by omega)).2
 obtain⟨p,q,l,m⟩:=ZT s.1 n []
 have e1:Vw s.1.2.flatten=Vw p+((d.2.length+e.2.length)+Vw q):=by
  grind [X7,XD,Vw]
 have e2:Vw (Wv s.1 n []).2.flatten=Vw p+Vw q:=by rw[m,X7,X7];simp[Vw]
 unfold Xc;rw[r];by_cases c:WZ j=[]
 ·simp_all
 ·rw[zx c];obtain⟨G,I,x,y⟩:=ZT (Wv s.1 n []) (bU s j) (Vh (Wv s.1 n []).2 (bU s j)++[(s.2.2,WZ j)])
  grind [X7,XD,Vw]
theorem jK{s:Va}(v:VSt s){d:Int}(h:d∈Vr 0 s.1.2):∃ (i:Nat) (j:Job) (n:Nat),cg d 0 (Vr 0 s.1.2)=zo i/\s.2.1[i]?=zo j/\d=(n:Int)/\j.1=(n:Int)/\JobAt s.1 n j:=by
 obtain⟨i,hi⟩:=eZ (k:=0) h;obtain⟨j,n,a,b,c,d,_⟩:=v.at hi
 grind
theorem jt{s0 s:Va}(g:Gd s0 s){d:Int}(h:d∈Vr 0 s.1.2):∃ (c:Bool) (t:Va) (b:Bool) (e:Int),Yp (s,d)=zo (c,0)/\YQ (s,d)=zo (t,(b,e))/\(s.2.2<=1000000->c=decide (e=0))/\(e=0->Gd s0 t):=by
 obtain⟨v,u,hc⟩:=g;have p:=eX hc;have m:=v.sm;obtain⟨i,j,n,hi,y,hd,z,o⟩:=jK v h;have B:(Vg s).2=0:=WJ.2 v;have x:fO s d=zo j:=by unfold fO;simp_all
 have l:Yp (s,d)=zo (Y8 s.1 j,0):=by
  simp_all[aT,zx,ua]
 have k:YQ (s,d)=zo (aj s j):=by
  simp_all[Zl,zx,jF]
 refine⟨Y8 s.1 j,(aj s j).1,(aj s j).2.1,(aj s j).2.2,l,k,?_⟩;unfold aj;by_cases q:Y8 s.1 j=zf
 ·simp_all
 have a:Y8 s.1 j=zt:=by grind
 rw[zx q];by_cases f:0<V9 s.1 j
 ·rw[zy f];refine⟨λ_=>by simp[a],λ_=>⟨mF v (by simp_all) y o f,u,hc⟩⟩
 rw[zx f];unfold dF;rw[zx (λh=>h.elim f q)];by_cases w:s.2.2>1000000/\WZ j≠[]
 ·simp_all
 rw[zx w]
 have r:WZ j≠[]->s.2.2<=1000000:=λA=>by
  simp_all
 refine⟨λ_=>by simp[a],λ_=>⟨lR v p o f a r,?_,?_⟩⟩
 ·exact(jx v p o f a r).trans u
 ·have:=fZ v p o f;show Vw (Xc s j).2.flatten<=2000;omega
theorem eW:∀ {ls:List (List Vt)} {i n:Nat},(Vh ls n).length=2->((i+n:Nat):Int)∈Vr i ls
 |[],i,n,h=>by simp[Vh]at h
 |rs::ls,i,0,h=>by
  have h':rs.length=2:=h;rw[Z7,zy h'];simp
 |rs::ls,i,n+1,h=>by
  rw[Z7];refine List.mem_append_right _ ?_;have:=eW (ls:=ls) (i:=i+1) (n:=n) h
  grind
end
section
open Go Sv
end
section
open Go Sv
def loI:List VY->Xk->Nat
 |[],_=>0
 |y::l,k=>if UB y.1 k=zt then loI l k+1 else 0
theorem ve:∀ {l:List VY} {p:Option Xk},Asc p l -> ∀ {k:Xk} {i:Nat} {y:VY},l[i]?=zo y->loI l k<=i->UB y.1 k=zf
 |[],_,_,_,_,_,h,_=>by simp at h
 |x::l,p,⟨c,a⟩,k,i,y,h,hi=>by
  unfold loI at hi;cases i with
  |zero=>
   simp_all
  |succ i=>
   have b:l[i]?=zo y:=by grind
   split at hi
   ·exact ve a b (by omega)
   ·rename_i hs;have hs:UB x.1 k=zf:=by grind
    have:=Zn a y (bl b)
    grind [Wq]
theorem eQ:∀ {l:List VY} {p:Option Xk},Asc p l -> ∀ {a b:Nat} {x y:VY},a<b->l[a]?=zo x->l[b]?=zo y->UB x.1 y.1=zt
 |[],_,_,_,_,_,_,_,h,_=>by simp at h
 |z::l,p,⟨_,d⟩,a,b,x,y,f,e,h2=>by
  cases b with
  |zero=>omega
  |succ b=>
   have c:l[b]?=zo y:=by grind
   cases a with
   |zero=>cases e;exact Zn d y (bl c)
   |succ a=>exact eQ d (a:=a) (b:=b) (by omega) (by grind) c
end
section
open Go Sv
structure WrI (most:Nat) (l:List VY) (R:List VY):Prop where
 asc:Asc zn l
 le:l.length<=most
 len:R.length=most+1
 row:R.take l.length=l
end
section
open Go Sv
structure Bf (b:Vt):Prop where
 m1:1<=b.1
 m2:b.1<=16
 len:(b.2.length:Int)<=b.1
 ok:∀ x∈b.2,kE x=0
 asc:Asc zn b.2
theorem lE{b:Vt}(h:(Xz b).2=0):Bf b:=by
 unfold Xz at h;by_cases a:b.1<1\/b.1>16
 ·simp_all
 rw[zx a]at h;by_cases c:(b.2.length:Int)>b.1
 ·simp_all
 rw[zx c]at h;obtain⟨d,e⟩:=cd.1 h;exact⟨by omega,by omega,by omega,d,e⟩
end
section
open Go Sv
end
section
open Go Sv
theorem jD(l:List VY)(b:Bool)(m:b=zf):∃ r,loop (β:=Nat×((Int×Bool)×Unit)) (λa=>br (Uv a.1 (l.length:Int)) (λ_=>br (Uv a.1 50) (λ_=>TS a.1 λn=>ix l n λi=>br (Ut (NZ i.1:Int) 100) (λ_=>zo (.dn ((0,((a.1,zt),()))))) λ_=>TS a.1 λg=>ix l g λj=>br (Ut (NZ j.2.1:Int) 100) (λ_=>zo (.dn ((0,((a.1,zt),()))))) λ_=>zo (.nx (Tk .i64 a.1 1,a.2))) λ_=>zo (.dn ((1,(a,()))))) λ_=>zo (.dn ((1,(a,()))))) ((0:Int),b)=zo r/\((r.1=1/\r.2.1.2=zf)\/(r.1=0/\r.2.1.2=zt)):=by
 subst m
 exact af (l:=l) (σ:=Unit) 50 (by omega) (λk _=>((k:Int),zf)) (λ_ _=>True) (λ(r:Nat×((Int×Bool)×Unit))=>(r.1=1/\r.2.1.2=zf)\/(r.1=0/\r.2.1.2=zt)) () rfl trivial (λk _ h d _=>⟨_,(lJ (c:=50) h d _ _ _ rfl),.inl ⟨rfl,rfl⟩⟩) (λk x _ f d _=>by
  simp only;have e:=(a8.1 f).1;rw[rl e,UN,show Uv (k:Int) 50=zt from bf d,UN,VZ,U0 f,VC,VZ,U0 f,VC,Ve (by omega)]
  repeat' split
  all_goals simp_all)
def y8(n:Int)(rs:List Vt):Prop:=0<=n/\n<=1000000000 /\ ∀ r∈rs,r.2.length<=5000
theorem fa{rs:List Vt}{k:Nat}(h:∀ r∈rs,r.2.length<=5000)(c:k<=20):Vw (rs.take k)<=100000:=by
 have b:=eU (l:=rs.take k) λr a=>h r (l4 a)
 grind
theorem kH{L:List (List Vt)}{i:Nat}{rs:List Vt}(hi:L[i]?=zo rs)(n:Int)(b:Bool)(y:b=zf):∃ r,loop (β:=Nat×((Int×(Int×Bool))×Unit)) (λs1=>TS (i:Int) λz=>ix L z λE=>br (Uv s1.2.1 (E.length:Int)) (λ_=>br (Uv s1.2.1 9) (λ_=>TS (i:Int) λA=>ix L A λF=>TS s1.2.1 λB=>ix F B λf=>bd (loop (λa=>br (Uv a.1 (f.2.length:Int)) (λ_=>br (Uv a.1 50) (λ_=>TS a.1 λC=>ix f.2 C λs=>br (Ut (NZ s.1:Int) 100) (λ_=>zo (.dn (((0:Nat),((a.1,zt),()))))) λ_=>TS a.1 λp=>ix f.2 p λt=>br (Ut (NZ t.2.1:Int) 100) (λ_=>zo (.dn ((0,((a.1,zt),()))))) λ_=>zo (.nx (Tk .i64 a.1 1,a.2))) λ_=>zo (.dn ((1,(a,()))))) λ_=>zo (.dn ((1,(a,()))))) ((0:Int),s1.2.2)) λd=>br (neq d.1 0) (λ_=>zo (.dn ((1,((Tk .i64 s1.1 (f.2.length:Int),(s1.2.1,d.2.1.2)),()))))) λ_=>zo (.nx ((Tk .i64 s1.1 (f.2.length:Int),(Tk .i64 s1.2.1 1,d.2.1.2))))) λ_=>zo (.dn ((0,(s1,()))))) λ_=>zo (.dn ((0,(s1,()))))) (n,((0:Int),b))=zo r/\((r.1=0/\r.2.1.2.2=zf/\(rs.length<=8->y8 n rs->r.2.1.1=n+(Vw rs:Int)))\/(r.1=1/\r.2.1.2.2=zt)):=by
 subst y
 exact af (l:=rs) (σ:=Int) 9 (by omega) (λk m=>(m,((k:Int),zf))) (λk m=>y8 n rs->m=n+(Vw (rs.take k):Int)) (λ(r:Nat×((Int×(Int×Bool))×Unit))=>(r.1=0/\r.2.1.2.2=zf/\(rs.length<=8->y8 n rs->r.2.1.1=n+(Vw rs:Int)))\/(r.1=1/\r.2.1.2.2=zt)) n rfl (λ_=>by simp[Vw]) (λk m h g u=>⟨_,by
  rw[VZ,U0 hi];exact(lJ (c:=9) h g _ _ _ rfl),.inl ⟨rfl,rfl,λO e=>by
   grind⟩⟩) (λk x m o g u=>by
  simp only;have j:=(a8.1 o).1;obtain⟨r,D,q⟩:=jD x.2 zf rfl;rw[VZ,U0 hi,rl j,UN,show Uv (k:Int) 9=zt from bf g,UN,VZ,U0 hi,VZ,U0 o,D,Ug,Uh,Ve (by omega)];rcases q with⟨q,w⟩|⟨q,w⟩
  ·rw[zx (by omega),w];refine .inl ⟨_,rfl,λe=> ?_⟩;have G:=u e
   have I:Vw (rs.take (k+1))=Vw (rs.take k)+x.2.length:=by
    grind [ey,X7,Vw]
   have J:=e.2.2 x (bl o);have K:=fa (k:=k) e.2.2 (by omega);have M:=e.1;have N:=e.2.1
   grind [US]
  simp_all)
theorem lL(s:Va)(p:∀ rs∈s.1.2,∀ r∈rs,r.2.length<=9223372036854775807):∃ b,ZA s=zo b/\(b=zf->Sm s/\(VLev s.1->Vw s.1.2.flatten<=40)):=by
 unfold ZA;simp only[Vd,Vc]
 obtain⟨r,U,t⟩:=af (l:=s.1.2) (σ:=Int) (s:=((0:Int),(zf,(0:Int)))) 20 (by omega) (λk n=>(n,(zf,(k:Int)))) (λk n=>(∀ i rs,i<k->s.1.2[i]?=zo rs->rs.length<=8)/\(VLev s.1->n=(Vw (s.1.2.take k).flatten:Int))) (λ(r:Nat×((Int×(Bool×Int))×Unit))=>(r.1=0/\r.2.1.2.1=zf/\(∀ i rs,i<20->s.1.2[i]?=zo rs->rs.length<=8)/\(VLev s.1->s.1.2.length<=15->r.2.1.1=(Vw s.1.2.flatten:Int)))\/(r.1=1/\r.2.1.2.1=zt))
  (f:=λs0=>br (Uv s0.2.2 (s.1.2.length:Int)) (λ_=>br (Uv s0.2.2 20) (λ_=>bd (loop (λs1=>TS s0.2.2 λk2=>ix s.1.2 k2 λx3=>br (Uv s1.2.1 (x3.length:Int)) (λ_=>br (Uv s1.2.1 9) (λ_=>TS s0.2.2 λk4=>ix s.1.2 k4 λx5=>TS s1.2.1 λk6=>ix x5 k6 λG=>bd (loop (λq=>br (Uv q.1 (G.2.length:Int)) (λ_=>br (Uv q.1 50) (λ_=>TS q.1 λk9=>ix G.2 k9 λY=>br (Ut (NZ Y.1:Int) 100) (λ_=>zo (.dn (((0:Nat),((q.1,zt),()))))) λ_=>TS q.1 λN=>ix G.2 N λZ=>br (Ut (NZ Z.2.1:Int) 100) (λ_=>zo (.dn ((0,((q.1,zt),()))))) λ_=>zo (.nx (Tk .i64 q.1 1,q.2))) λ_=>zo (.dn ((1,(q,()))))) λ_=>zo (.dn ((1,(q,()))))) ((0:Int),s1.2.2)) λB=>br (neq B.1 0) (λ_=>zo (.dn (((1:Nat),((Tk .i64 s1.1 (G.2.length:Int),(s1.2.1,B.2.1.2)),()))))) λ_=>zo (.nx ((Tk .i64 s1.1 (G.2.length:Int),(Tk .i64 s1.2.1 1,B.2.1.2))))) λ_=>zo (.dn ((0,(s1,()))))) λ_=>zo (.dn ((0,(s1,()))))) ((s0.1,((0:Int),s0.2.1)))) λo=>br (neq o.1 0) (λ_=>TS s0.2.2 λO=>ix s.1.2 O λx16=>br (Ut (x16.length:Int) 8) (λ_=>zo (.dn (((1:Nat),((o.2.1.1,(zt,s0.2.2)),()))))) λ_=>zo (.nx ((o.2.1.1,(o.2.1.2.2,Tk .i64 s0.2.2 1))))) λ_=>zo (.dn ((1,((o.2.1.1,(o.2.1.2.2,s0.2.2)),()))))) λ_=>zo (.dn ((0,(s0,()))))) λ_=>zo (.dn ((0,(s0,())))))
  0 rfl ⟨λi rs h=>by omega,λ_=>by simp[Vw]⟩ (λk n h u M=>⟨_,(lJ (c:=20) h u _ _ _ rfl),.inl ⟨rfl,rfl,λi rs hi p=>M.1 i rs (by grind) p,λD h15=>by
   grind⟩⟩) (λk rs n p u M=>by
   simp only;have w:=(a8.1 p).1;obtain⟨r,U,t⟩:=kH p n zf rfl;rw[rl w,UN,show Uv (k:Int) 20=zt from bf u,UN,U,Ug,Uh,VZ,U0 p,VC,Ve (by omega)];rcases t with⟨t,F,q4⟩|⟨t,F⟩
   ·rw[zy t];by_cases h8:(rs.length:Int)>8
    ·simp_all
    ·rw[zx h8,F];refine .inl ⟨_,rfl,λi rs' hi hy=> ?_,λD=> ?_⟩
     ·grind
     ·have I:=M.2 D
      have z:∀ l:List (List Vt),(∀ rs∈l,rs∈s.1.2) -> ∀ r∈l.flatten,r.2.length<=5000:=λl hl r hr=>by
       obtain⟨X,h3,h4⟩:=hM.1 hr;obtain⟨i,hi⟩:=co (hl X h3);have J:r∈Vh s.1.2 i:=by unfold Vh;simp_all
       exact((D.own i).2 r J).vl.len
      have L:Vw (s.1.2.take (k+1)).flatten=Vw (s.1.2.take k).flatten+Vw rs:=by
       grind [ey,List.flatten_append,X7]
      have h3:=fa (k:=20) (rs:=(s.1.2.take k).flatten) (z _ λrs h=>l4 h)
      have h4:(s.1.2.take k).flatten.length<=1000:=by
       have J:∀ l:List (List Vt),(∀ rs∈l,rs.length<=2)->l.flatten.length<=2*l.length:=by
        intro l
        induction l<;>grind
       have:=J (s.1.2.take k) λrs h=>D.two rs (l4 h)
       grind
      have J:=eU (z (s.1.2.take k) λrs h=>l4 h);have h6:y8 n rs:=⟨by omega,by omega,λr hr=>z [rs] (λx hx'=>by grind) r (by grind)⟩
      grind
   simp_all)
 refine(λh=>h) ?_;have fin:∀ {K:(Nat×((Int×(Bool×Int))×Unit))->Option Bool},(∃ b,K r=zo b/\(b=zf->Sm s/\(VLev s.1->Vw s.1.2.flatten<=40))) -> ∀ {m:Option (Nat×((Int×(Bool×Int))×Unit))},m=zo r -> ∃ b,bd m K=zo b/\(b=zf->Sm s/\(VLev s.1->Vw s.1.2.flatten<=40)):=λh _ e=>by subst e;exact h
 refine fin ?_ U;rw[Uh];rcases t with⟨t,F,q4,q5⟩|⟨t,F⟩
 rotate_left
 ·simp_all
 rw[zy t,F]
 obtain⟨r2,p1,S⟩:=af (l:=s.2.1) (σ:=Unit) (s:=(zf,(0:Int))) 20 (by omega) (λk _=>(zf,(k:Int))) (λ_ _=>True) (λ(r:Nat×((Bool×Int)×Unit))=>r.1=1\/(r.1=0/\r.2.1.1=zt))
  (f:=λa=>br (Uv a.2 (s.2.1.length:Int)) (λ_=>br (Uv a.2 20) (λ_=>TS a.2 λP=>ix s.2.1 P λg=>br (Ut (g.2.1.1.length:Int) 20) (λ_=>zo (.dn ((0,((zt,a.2),()))))) λ_=>br (Ut (g.2.1.2.1.length:Int) 100) (λ_=>zo (.dn ((0,((zt,a.2),()))))) λ_=>br (Ut (g.2.1.2.2.1.length:Int) 100) (λ_=>zo (.dn ((0,((zt,a.2),()))))) λ_=>br (Ut (g.2.1.2.2.2.1.length:Int) 100) (λ_=>zo (.dn ((0,((zt,a.2),()))))) λ_=>bd (loop (λd=>br (Uv d.1 (g.2.1.1.length:Int)) (λ_=>TS d.1 λA=>ix g.2.1.1 A λC=>zo (.nx ((Tk .i64 d.1 1,Tk .i64 d.2 (C.length:Int))))) λ_=>zo (.dn (((0:Nat),(d,()))))) (((0:Int),(g.2.2.2.1.length:Int)))) λW=>br (Ut W.2.1.2 200) (λ_=>zo (.dn ((0,((zt,a.2),()))))) λ_=>zo (.nx (a.1,Tk .i64 a.2 1))) λ_=>zo (.dn ((1,(a,()))))) λ_=>zo (.dn ((1,(a,())))))
  () rfl trivial (λk _ h u _=>⟨_,(lJ (c:=20) h u _ _ _ rfl),.inl rfl⟩) (λk j _ p u _=>by
   simp only;have w:=(a8.1 p).1;rw[rl w,UN,show Uv (k:Int) 20=zt from bf u,UN,VZ,U0 p,VC];by_cases I:(j.2.1.1.length:Int)>20
   ·simp_all
   rw[zx I]
   obtain⟨r3,t1,_⟩:=Xd (l:=j.2.1.1) (σ:=Int) (s:=((0:Int),(j.2.2.2.1.length:Int))) (λk n=>((k:Int),n)) (λ_ _ _=>True) (λ(_:Nat×((Int×Int)×Unit))=>True)
    (f:=λd=>br (Uv d.1 (j.2.1.1.length:Int)) (λ_=>TS d.1 λA=>ix j.2.1.1 A λC=>zo (.nx ((Tk .i64 d.1 1,Tk .i64 d.2 (C.length:Int))))) λ_=>zo (.dn (((0:Nat),(d,())))))
    (j.2.2.2.1.length:Int) rfl (by omega) trivial (λn _=>⟨_,by rw[re];rfl,trivial⟩) (λk y m n hd hy u _=>.inl ⟨Tk .i64 n (y.length:Int),by grind [rl,UN,VZ,U0,Ve],trivial⟩)
   rw[t1,Ug,VC,VC,VC,VC,Ve (by omega)]
   repeat' split
   all_goals first|exact .inr ⟨_,rfl,.inr ⟨rfl,rfl⟩⟩|exact .inl ⟨(),rfl,trivial⟩)
 rw[p1,Ug,Uh];rcases S with S|⟨S,p3⟩
 rotate_left
 ·simp_all
 rw[zx (by omega),VC,VC];by_cases I:r.2.1.1>40
 ·simp_all
 rw[zx I];by_cases L:(s.1.2.length:Int)>15
 ·rw[zy L];exact⟨_,rfl,λh=>by cases h⟩
 rw[zx L];refine⟨_,rfl,λh=>⟨⟨by omega,λrs E=>⟨?_,p rs E⟩,?_⟩,λD=>by have:=q5 D (by omega);omega⟩⟩
 ·obtain⟨i,hi⟩:=co E;have:=q4 i rs (by have:=(a8.1 hi).1;omega) hi;omega
 grind [Ut]
end
section
open Go Sv
theorem Ht{f:Wm}(h:V8 f=0):(Vg f.2).2=0:=by
 unfold V8 at h;omega
end
section
open Go Sv
end
section
open Go Sv
theorem YO{f:Wm}(h:V8 f=0):(Xz f.1).2=0/\VSt f.2/\f.1.1=f.2.1.1:=by
 have b:=Ht h;unfold V8 at h;by_cases a:(Xz f.1).2=0;rotate_left
 ·omega
 rw[zx (by simp[a]),zx (by simp[b])]at h;refine⟨a,WJ.1 b,?_⟩<;>simp_all
end
section
open Go Sv
end
section
open Go Sv
def kN(k:Nat):Xk:=[126,110,101,119,x9 (97+k / 26),x9 (97+k % 26)]
def xy(k:Xk):Prop:=¬ (4<=k.length/\U6 k 0 4=[126,110,101,119])
def wz(f:Wm):Int:=f.1.1-(f.1.2.length:Int)+f.1.1*(2-((Vh f.2.1.2 0).length:Int))
structure FI (n k:Nat) (f:Wm):Prop where
 fr:V8 f=0
 nx:f.2.2.2<=900000+(k:Int)
 key:∀ y∈f.1.2,xy y.1 \/ ∃ j<k,y.1=kN j
 val:(k:Int)+wz f=(n:Int)
end
section
open Go Sv
abbrev FrS:=(Int×(Bool×(Int×((List VY)×(Int×((List (List Vt))×((List Job)×Int)))))))
def mkF(k:Nat)(f:Wm):FrS:=((k:Int),(zf,(f.1.1,(f.1.2,(f.2.1.1,(f.2.1.2,f.2.2))))))
end
section
open Go Sv
def al(f:Nat->Nat):Nat->Nat
 |0=>0
 |m+1=>al f m+f m
theorem iT{f g:Nat->Nat}:∀ {m:Nat},(∀ i,i<m->g i<=f i)->al g m<=al f m
 |0,_=>ed _
 |m+1,h=>Nat.add_le_add (iT λi hi=>h i (by omega)) (h m (by omega))
theorem db{f g:Nat->Nat}{n:Nat}(a:g n+1<=f n):∀ {m:Nat},n<m->(∀ i,i<m->i≠n->g i<=f i)->al g m+1<=al f m
 |0,h,_=>absurd h (by omega)
 |m+1,h,ho=>by
  unfold al;by_cases e:n=m
  ·subst e;have:=iT (f:=f) (g:=g) (m:=n) λi hi=>ho i (by omega) (by omega);omega
  ·have:=db a (m:=m) (by omega) λi hi=>ho i (by omega)
   grind
theorem eL{f g:Nat->Nat}{n:Nat}(a:g n+g (n+1)+1<=f n+f (n+1)):∀ {m:Nat},n+1<m->(∀ i,i<m->i≠n->i≠n+1->g i<=f i)->al g m+1<=al f m
 |0,h,_=>absurd h (by omega)
 |m+1,h,ho=>by
  unfold al;by_cases e:n+1=m
  ·subst e;have:=iT (f:=f) (g:=g) (m:=n) λi hi=>ho i (by omega) (by omega) (by omega);unfold al;omega
  ·have:=eL a (m:=m) (by omega) λi hi=>ho i (by omega)
   grind
theorem ap:∀ {js:List Job} {j:Job},(js.map (·.1)).Nodup->j∈js->WW js j.1=zo j
 |[],_,_,h=>by cases h
 |i::js,j,hn,h=>by
  rw[ee,gs]at hn;unfold WW;rw[o5];unfold fy;rw[XS];rcases List.mem_cons.1 h with e|h
  ·grind
  ·have a:¬ j.1=i.1:=λe=>hn.1 (by grind);rw[decide_eq_false a];exact ap hn.2 h
theorem d7:∀ {js:List Job} {i:Nat} {j:Job} (w:ZH) (d:Int),(js.map (·.1)).Nodup->js[i]?=zo j->WW (js.set i (j.1,w)) d=if d=j.1 then zo (j.1,w)else WW js d
 |[],i,j,w,d,_,h=>by simp at h
 |x::js,0,j,w,d,hn,h=>by
  grind [WW,fy,XS]
 |x::js,i+1,j,w,d,hn,h=>by
  rw[ee,gs]at hn;have h':js[i]?=zo j:=by grind
  have a:=d7 w d hn.2 h';unfold WW at a ⊢;rw[List.set_cons_succ,o5,o5,a];have b:fy d x=decide (d=x.1):=XS _ _
  grind
theorem VSt.noJob{s:Va}(v:VSt s){i:Nat}(h:(Vh s.1.2 i).length≠2):WW s.2.1 (i:Int)=zn:=by
 refine bN λa=>h ?_;rw[v.due]at a;obtain⟨n,c,d,e,b⟩:=jR a;have:i=n:=by omega
 rw[this,aF.1 b];rfl
theorem VSt.hasJob{s:Va}(v:VSt s){i:Nat}(h:(Vh s.1.2 i).length=2):∃ j,WW s.2.1 (i:Int)=zo j:=by
 have a:=eW (i:=0) h;rw[gw,<- v.due]at a;obtain⟨j,b,e⟩:=List.mem_map.1 a;exact⟨j,by rw[<- e];exact ap v.nodup b⟩
theorem uo{s:Va}(v:VSt s)(d:Int):fO s d=WW s.2.1 d:=by
 by_cases h:d∈Vr 0 s.1.2
 ·obtain⟨j,n,a,hd,b,_⟩:=v.atDue h;rw[a,hd,<- b];refine(ap v.nodup ?_).symm
  grind [fO]
 ·rw[bN (by rw[v.due];exact h)];unfold fO;split
  ·rename_i i hi;have:=(gv hi).2
   grind
  ·rfl
def sN(j:Job):Nat:=j.2.2.2.2.toNat
theorem JobAt.rd{L:Vb}{n:Nat}{j:Job}(h:JobAt L n j):∃ a b,Vh L.2 n=[a,b]/\sN j<=b.2.length+a.2.length/\V9 L j=b.2.length+a.2.length-sN j/\(0<V9 L j->sN (j.1,ak L j)=sN j+1):=by
 obtain⟨a,b,c,k,e,rfl,g,f,v0,v1⟩:=h;have d:=aF.1 e;have e1:(XC b.2 a.2 c k).2.1.2.2=c:=eP _ _ _ _;have e2:(XC b.2 a.2 c k).2.2.2.toNat=k:=by rfl
 refine⟨a,b,d,?_,?_,λ_=> ?_⟩
 ·show(XC b.2 a.2 c k).2.2.2.toNat<=_;omega
 ·simp_all[V9,sN,bo]
 ·show(ak L ((n:Int),XC b.2 a.2 c k)).2.2.2.toNat=(XC b.2 a.2 c k).2.2.2.toNat+1;unfold ak;simp only[bo,d];rfl
structure StepF (s:Va) (n:Nat) (j:Job) (t:Va) (b:Bool):Prop where
 job:WW s.2.1 (n:Int)=zo j
 read:0<V9 s.1 j->b=zf/\t.1=s.1/\t.2.2=s.2.2 /\ ∀ i:Nat,WW t.2.1 (i:Int)=if i=n then zo (j.1,ak s.1 j)else WW s.2.1 (i:Int)
 inst:V9 s.1 j=0->b=zt/\t.1=Xc s j/\t.2.2=bA s j/\(∀ i,(Vh t.1.2 i)=if WZ j≠[]/\i=bU s j then(if i=n then[]else Vh s.1.2 i)++[(s.2.2,WZ j)]else if i=n then[]else Vh s.1.2 i)/\(bU s j=n\/bU s j=n+1/\n+1<12/\(WZ j≠[]->(Vh s.1.2 (n+1)).length<2)) /\
  ∀ i:Nat,WW t.2.1 (i:Int)=if(Vh t.1.2 i).length=2 then zo ((if i=n then zn else WW s.2.1 (i:Int)).getD (aU t.1 (i:Int)))else zn
theorem iS{s0 s:Va}(g:Gd s0 s){d:Int}(h:d∈Vr 0 s.1.2)(e:(Zl s d).2.2=0):∃ (n:Nat) (j:Job),d=(n:Int)/\n<12/\JobAt s.1 n j/\Y8 s.1 j=zt/\StepF s n j (Zl s d).1 (Zl s d).2.1/\Gd s0 (Zl s d).1:=by
 obtain⟨v,S,hc⟩:=g;have O:=eX hc;have m:=v.sm;obtain⟨c,t,b,Y,_,B,_,hg⟩:=jt ⟨v,S,hc⟩ h;rw[jF m O]at B;have L:=Option.some.inj B;obtain⟨i,j,n,hi,P,hd,F,I⟩:=jK v h;have hz:(Vg s).2=0:=WJ.2 v;have E:fO s d=zo j:=by unfold fO;simp_all
 have U:n<12:=by
  have:=v.lev.len;obtain⟨_,_,_,_,Z,_⟩:=I
  grind
 have w:WW s.2.1 (n:Int)=zo j:=by rw[<- hd,<- uo v,E]
 have hS:Zl s d=aj s j:=by simp_all[Zl,zx]
 have q:Gd s0 (Zl s d).1:=by grind
 have a:=q.1;rw[hS]at e a q ⊢;refine⟨n,j,hd,U,I,?_,⟨w,λG=> ?_,λG=> ?_⟩,q⟩
 ·unfold aj at e
  grind
 ·unfold aj at e ⊢;have k:¬ Y8 s.1 j=zf:=λk=>by simp_all
  rw[zx k,zy G];refine⟨rfl,rfl,rfl,λo=> ?_⟩;show WW (dS s j).2.1 _=_;unfold dS;rw[F,<- hd,hi,Option.getD_some];show WW (s.2.1.set i (d,ak s.1 j)) _=_;have:=d7 (ak s.1 j) (o:Int) v.nodup P
  grind
 ·unfold aj at e a ⊢;have k:¬ Y8 s.1 j=zf:=λk=>by simp_all
  have J:Y8 s.1 j=zt:=by simp_all
  have r:¬ 0<V9 s.1 j:=by omega
  rw[zx k,zx r]at e a ⊢;unfold dF at e a ⊢;rw[zx (λh=>h.elim r k)]at e a ⊢;by_cases M:s.2.2>1000000/\WZ j≠[]
  ·simp_all
  rw[zx M]at e a ⊢;have C:j.1.toNat=n:=by omega
  have z:∀ i,Vh (Xc s j).2 i=_:=λi=>XU (s:=s) (j:=j) C i;refine⟨rfl,rfl,rfl,z,?_,λo=> ?_⟩
  ·unfold bU;rw[C];by_cases hs:Zb s.1 j=zt
   ·simp_all
   ·rw[zx hs]
    have X:ca s.1 (n+1)=zt:=by
     simp_all[Y8]
    have A:=of_decide_eq_true X;exact .inr ⟨rfl,A.1,λ_=>A.2⟩
  ·have p:VSt (bI s (Xc s j) (bA s j) j.1):=a;show WW (bI s (Xc s j) (bA s j) j.1).2.1 (o:Int)=if(Vh (Xc s j).2 o).length=2 then zo ((if o=n then zn else WW s.2.1 (o:Int)).getD (aU (Xc s j) (o:Int)))else zn
   have W:(Vh (bI s (Xc s j) (bA s j) j.1).1.2 o)=Vh (Xc s j).2 o:=rfl;by_cases D:(Vh (Xc s j).2 o).length=2
   ·rw[zy D];have K:=eW (i:=0) D;rw[gw]at K;have y:Zh s (Xc s j) j.1 (o:Int)∈(bI s (Xc s j) (bA s j) j.1).2.1:=List.mem_map_of_mem K
    have u:(Zh s (Xc s j) j.1 (o:Int)).1=(o:Int):=by
     have N:(Vr 0 (Xc s j).2).map (λd=>(Zh s (Xc s j) j.1 d).1)=Vr 0 (Xc s j).2:=by
      have:=p.due
      simp_all[bI,List.map_map,Function.comp_def]
     have key:∀ {l:List Int} {f:Int->Int},l.map f=l -> ∀ x∈l,f x=x:=by
      intro l f
      induction l<;>simp_all
     grind
    have:=ap p.nodup y;rw[u]at this;rw[this];unfold Zh
    grind
   ·rw[zx D];exact p.noJob (by rw[W];exact D)
end
section
open Go Sv
def rC(s:Va)(i:Nat):Nat:=match WW s.2.1 (i:Int)with
 |some j=>sN j
 |none=>0
def gh(N:Nat)(s:Va)(i:Nat):Nat:=(Vh s.1.2 i).length*(N+1)-rC s i
def sL(N:Nat)(s:Va):Nat:=al (gh N s) 12
theorem rM{L:Vb}{n:Nat}{a b:Vt}(h:Vh L.2 n=[a,b]):a.2.length+b.2.length<=Vw L.2.flatten:=by
 obtain⟨p,q,c,_⟩:=ZT L n []
 grind [X7,XD]
theorem VSt.rd0{s:Va}(v:VSt s){i:Nat}(h:(Vh s.1.2 i).length≠2):rC s i=0:=by
 unfold rC;rw[v.noJob h]
theorem l8{N:Nat}{s t:Va}{n:Nat}{j:Job}{b:Bool}(v:VSt s)(B:Vw s.1.2.flatten<=N)(l:n<12)(q:JobAt s.1 n j)(F:StepF s n j t b):sL N t+1<=sL N s:=by
 obtain⟨E,G,f,C,D,w⟩:=q.rd;have hc:=rM f
 have hs:gh N s n=2*(N+1)-sN j:=by
  unfold gh rC;rw[F.job,f];rfl
 by_cases k:0<V9 s.1 j
 ·obtain⟨_,e1,_,e2⟩:=F.read k;refine db (n:=n) ?_ l λi _ a=> ?_
  ·have g:gh N t n=2*(N+1)-(sN j+1):=by
    unfold gh rC;rw[e2,zy rfl,e1,f,<- w k];rfl
   omega
  simp_all[gh,rC,zx,ed]
 ·obtain⟨_,e1,_,e2,e3,x⟩:=F.inst (by omega)
  have d:∀ i,i≠n -> ¬ (WZ j≠[]/\i=bU s j)->gh N t i<=gh N s i:=λi a hit=>by
   have y:Vh t.1.2 i=Vh s.1.2 i:=by simp_all
   have c:rC t i=rC s i:=by
    by_cases c:(Vh s.1.2 i).length=2
    ·obtain⟨j',u⟩:=v.hasJob c
     simp_all[rC,zy,zx]
    ·rw[v.rd0 c]
     simp_all[rC,zx]
   unfold gh;grind
  by_cases g:WZ j≠[]/\bU s j≠n
  ·obtain⟨m,z⟩:=g;rcases e3 with e3|⟨e3,e,c⟩
   ·omega
   have c:=c m;refine eL (n:=n) ?_ e λi _ a r=>d i a (by omega)
   have o:gh N t n=0:=by
    unfold gh;rw[e2,zx (by rw[e3];omega),zy rfl];simp
   have p:gh N t (n+1)<=((Vh s.1.2 (n+1)).length+1)*(N+1):=by
    simp_all[gh,zy,zx,tT,Nat.sub_le]
   have A:gh N s (n+1)=(Vh s.1.2 (n+1)).length*(N+1):=by
    unfold gh;rw[v.rd0 (by omega)];rfl
   rw[Nat.add_mul]at p;omega
  ·refine db (n:=n) ?_ l λi _ a=>d i a (λh=>g ⟨h.1,by omega⟩)
   have o:gh N t n<=1*(N+1):=by
    refine yb (Nat.sub_le _ _) (Nat.mul_le_mul_right _ ?_);rw[e2,zy rfl]
    grind
   omega
end
section
open Go Sv
def ZR(s:Va):Int:=if(Zi s).2≠0 then(Zi s).2 else(Zl s (Zi s).1).2.2
def ai(s:Va):Va:=(Zl s (Zi s).1).1
def dj(s:Va):Int×Bool:=((Zi s).1,(Zl s (Zi s).1).2.1)
def Z4:Nat->Va->Va×(List (Int×Bool)×Int)
 |0,s=>(s,([],0))
 |n+1,s=>if ZR s=4 then(s,([],0))else if ZR s≠0 then(s,([],ZR s))else((Z4 n (ai s)).1,(dj s::(Z4 n (ai s)).2.1,(Z4 n (ai s)).2.2))
theorem ba{s:Va}:∀ {l:List Int} {d:Int},aY s l=zo d -> ∃ p q,l=p++d::q/\(aT zf (λs j=>(Y8 s.1 j,0)) s d).1=zt /\ ∀ x∈p,¬ (aT zf (λs j=>(Y8 s.1 j,0)) s x).1=zt
 |[],_,h=>by cases h
 |x::l,d,h=>by
  unfold aY at h;split at h
  ·rename_i a;cases h;exact⟨[],l,rfl,a,λ_ h=>by cases h⟩
  ·rename_i a;obtain⟨p,q,rfl,b,c⟩:=ba h
   grind
theorem iE{s:Va}(v:VSt s):((Zi s).2=4/\s.2.1=[])\/(Zi s).2=9\/((Zi s).2=0/\(Zi s).1∈Vr 0 s.1.2):=by
 have a:(Vg s).2=0:=WJ.2 v;unfold Zi;rw[zx (by simp[a])];by_cases h:Vr 0 s.1.2=[]
 ·rw[zy h];refine .inl ⟨rfl,?_⟩;have:=v.due
  simp_all
 ·rw[zx h];cases hc:aY s (Vr 0 s.1.2)with
  |none=>simp_all
  |some d=>
   obtain⟨p,q,e,_⟩:=ba hc
   simp_all
theorem lw{s0 s:Va}(g:Gd s0 s)(e:ZR s=0):(Zi s).2=0/\(Zi s).1∈Vr 0 s.1.2/\(Zl s (Zi s).1).2.2=0:=by
 unfold ZR at e;rcases iE g.1 with h|h|h<;>simp_all
theorem Z1{s0 s:Va}(g:Gd s0 s)(e:ZR s=0):∃ (n:Nat) (j:Job),(dj s).1=(n:Int)/\n<12/\JobAt s.1 n j/\Y8 s.1 j=zt/\StepF s n j (ai s) (dj s).2/\Gd s0 (ai s):=by
 obtain⟨_,a,b⟩:=lw g e;exact iS g a b
theorem jU{s0 s:Va}{N:Nat}(g:Gd s0 s)(a:Vw s.1.2.flatten<=N)(e:ZR s=0):sL N (ai s)+1<=sL N s/\Vw (ai s).1.2.flatten<=N:=by
 obtain⟨n,j,_,d,c,_,F,_⟩:=Z1 g e;refine⟨l8 g.1 a d c F,?_⟩;by_cases b:0<V9 s.1 j
 ·rw[(F.read b).2.1];exact a
 ·rw[(F.inst (by omega)).2.1];exact yb (fZ g.1 (eX g.2.2) c b) a
def wA(u:gn)(x:Int×Bool):gn:=(Tk .i64 u.1 1,(u.2.1,(if x.2=zt then Tk .i64 u.2.2.1 1 else u.2.2.1,bmp u.2.2.2 x.1.toNat x.1.toNat)))
def sB(u:gn)(l:List (Int×Bool)):gn:=l.foldl wA u
end
end Go.Proofs.YtoefnfbpoabinaaGreatDoor.Pl
