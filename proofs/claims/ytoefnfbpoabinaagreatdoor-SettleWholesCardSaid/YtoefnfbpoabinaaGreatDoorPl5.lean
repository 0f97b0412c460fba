/- Functions of the program and of the specification as plain functions, and laws about them. No condition. -/
import Derived.Test.YtoefnfbpoabinaaGreatDoorPl4
set_option linter.all false
open List renaming getLast?_eq_getElem?->i0, length_eq_one_iff->sw, length_pos_iff->en, map_cons->ee, mem_map->eo, nodup_cons->gs, range->xr
open Bool renaming and_eq_true->nP, not_eq_true'->vL
open Option renaming some->zo, none->zn
open Bool renaming true->zt, false->zf
namespace Go.Proofs.YtoefnfbpoabinaaGreatDoor.Pl
section
open Go Sv
end
section
open Go Sv
def eu(B:Int)(n:Nat):Nat:=((xr 12).find? λi=>decide ((n:Int)<=WM B i)).getD 0
theorem gE{B:Int}{n:Nat}(f:1<=B)(g:n<=2000):eu B n<12/\(n:Int)<=WM B (eu B n) /\ ∀ j,j<eu B n -> ¬ (n:Int)<=WM B j:=by
 unfold eu;cases h:(xr 12).find? λi=>decide ((n:Int)<=WM B i)with
 |none=>
  have a:=List.find?_eq_none.1 h 11 (by simp);rw[show WM B 11=B*2048 from rfl]at a;have:=of_decide_eq_false (Bool.eq_false_iff.2 a);omega
 |some i=>
  obtain⟨b,c,d⟩:=List.find?_range_eq_some.1 h;exact⟨by simpa using c,by simpa using b,λj e=>by simpa using d j e⟩
theorem uY{B:Int}(a:1<=B)(b:B<=16):VLev (B,[]):=⟨a,b,by simp,λi rs h=>by simp at h,by simp,by simp⟩
theorem ku{B:Int}(a:1<=B)(d:B<=16){n:Nat}(h:n<=2000):YS (B,(n:Int))=zo ((eu B n:Int),0):=by
 obtain⟨b,e,f⟩:=gE a h;unfold YS;rw[VE,zx (by simp only;omega)];refine Vx (x:=(0,(((0:Int),((eu B n:Int),(eu B n:Int))),()))) (bm (λk=>((0:Int),(((k-1:Nat):Int),(k:Int)))) (eu B n) rfl (by omega) (λk g=> ?_) ?_) ?_
 ·have:=cF (uY a d) (n:=k) (by omega);simp only at this ⊢;rw[show Uv (k:Int) 12=zt from bf (c:=12) (by omega),UN,this,Ug,VF,zy rfl,VD,zx (f k g),Ve (by omega)];rfl
 ·have:=cF (uY a d) (n:=eu B n) b;simp only at this ⊢;rw[show Uv (eu B n:Int) 12=zt from bf (c:=12) b,UN,this,Ug,VF,zy rfl,VD,zy e]
 ·rfl
theorem kB{B:Int}(a:1<=B)(b:B<=16){n:Nat}(h:n<=2000):Yz (B,(n:Int))=zo ((eu B n:Int),0):=by
 obtain⟨d,e,f⟩:=gE a h;unfold Yz;rw[VE,zx (by simp only;omega),VC,zx (by simp only;omega),VE,zx (by simp only;omega)];refine Vx (x:=(0,(((0:Int),((eu B n:Int),(eu B n:Int))),()))) (bm (λk=>((0:Int),((0:Int),(k:Int)))) (eu B n) rfl (by omega) (λk g=> ?_) ?_) ?_
 ·simp only;rw[show Uv (k:Int) 12=zt from bf (c:=12) (by omega),UN,dV a b (by omega),Ug,VD,zx (f k g),Ve (by omega)]
 ·simp only;rw[show Uv (eu B n:Int) 12=zt from bf (c:=12) d,UN,dV a b (by omega),Ug,VD,zy e]
 ·rfl
theorem jw{f:Wm}(a:V8 f=0)(hc:Vw f.2.1.2.flatten<=2000):VL (XK f)/\(XK f).length<=f.1.2.length+Vw f.2.1.2.flatten:=by
 obtain⟨i,j⟩:=jT a hc;have d:=dX (Vk f.2.1.2) (f.1.2.foldl Xy []);have c:=Zu f.1.2 [];have e:=(Xw f.2.1.2).1;have g:(XK f).length<=(aS f).length:=by rw[<- au,Ic];exact List.length_filter_le _ _
 have h:(aS f).length<=f.1.2.length+Vw f.2.1.2.flatten:=by unfold aS;simp only[List.length_nil]at c;omega
 refine⟨⟨by omega,λx b=> ?_,cD f⟩,by omega⟩;rw[<- au,Z8]at b;exact lr a x (List.mem_filter.1 b).1
end
section
open Go Sv
end
section
open Go Sv
end
section
open Go Sv
theorem cW:∀ ls:List (List Vt),(Vk ls).Perm ls.flatten
 |[]=>.refl _
 |rs::ls=>by
  show(rs.reverse++Vk ls).Perm (rs++ls.flatten);exact(List.reverse_perm rs).append (cW ls)
theorem iD{ls:List (List Vt)}{r:Vt}(h:ls.flatten=[r]):Vk ls=[r]:=List.perm_singleton.1 (h ▸ cW ls)
theorem dI{L:Vb}(v:VLev L){r:Vt}(h:L.2.flatten=[r]):0<L.2.length/\L.2[L.2.length-1]?=zo [r]:=by
 cases a:L.2.getLast? with
 |none=>rw[List.getLast?_eq_none_iff.1 a]at h;cases h
 |some rs=>
  have c:=List.mem_of_getLast? a;rw[i0]at a;have f:0<L.2.length:=List.length_pos_of_mem c;refine⟨f,a.trans (congrArg zo ?_)⟩;have d:rs≠[]:=λe=>v.last (by rw[i0,a,e])
  have hs:∀ x∈rs,x=r:=λx g=>by
   have:x∈L.2.flatten:=List.mem_flatten.2 ⟨rs,c,g⟩;rw[h]at this;simpa using this
  have b:rs.length<=1:=by
   have:rs.Sublist L.2.flatten:=by
    obtain⟨p,q,e⟩:=List.append_of_mem c;rw[e,List.flatten_append,List.flatten_cons];exact(List.sublist_append_left _ _).trans (List.sublist_append_right _ _)
   have:=this.length_le;rw[h]at this;simpa using this
  match rs,d,b,hs with
  |[x],_,_,hs=>rw[hs x (by simp)]
theorem lY{f:Wm}(b:V8 f=0)(c:f.1.2=[]){r:Vt}(h:f.2.1.2.flatten=[r]):XK f=r.2.filter Vf:=by
 obtain⟨g,v,i⟩:=YO b;obtain⟨e,d⟩:=dI v.lev h;have a:=((v.lev.lev _ _ d).2 r (by simp)).vl;refine cc (cD f) (YJ Vf a.asc) λk=> ?_;rw[dD,c,iD h,Xu Vf k a.asc];show(((zn:Option VY).or ((Vv r.2 k).or zn))).filter Vf=_;simp
def rN(f:Wm):Bool×Int:=
 if V8 f≠0 then(zf,V8 f)else if f.1.2≠[]then(zf,0)else if f.2.2.1≠[]then(zf,0)else if f.2.1.2.flatten.length≠1 then(decide (f.2.1.2.flatten.length=0),0)
 else(decide (eu f.2.1.1 (Vw f.2.1.2.flatten)=f.2.1.2.length-1)&&decide ((XK f).length=Vw f.2.1.2.flatten),0)
theorem f8{n:Nat}(h:0<n)(a:n<=1000):Tp .i64 (n:Int) 1=((n-1:Nat):Int):=by
 simp[Tp,IntKind.wrap,IntKind.bits,IntKind.signed];omega
theorem jl(l:List VY)(d:l.length<=1000000){f:Int×Int->Option (LR (Int×Int) (Nat×(Int×Int)×Unit))}
  (c:∀ s:Int×Int,f s=br (Uv s.2 (l.length:Int)) (λ_=>TS s.2 λk=>ix l k λx=>bd (W3 x) λr=>br r (λ_=>zo (.dn ((0,((s.2,s.2),()))))) λ_=>zo (.nx (s.1,Tk .i64 s.2 1))) λ_=>zo (.dn ((1,(s,()))))) :
  ∃ r,loop f ((0:Int),(0:Int))=zo r/\((∃ i:Nat,r=(0,(((i:Int),(i:Int)),()))/\(l.filter Vf).length≠l.length)\/((∃ s,r=(1,(s,())))/\(l.filter Vf).length=l.length)):=
 Xd (l:=l) (σ:=Unit) (λk _=>((0:Int),(k:Int))) (λ_ k _=>(l.take k).filter Vf=l.take k) _
  () rfl (by omega) (by simp) (λ_ h=>by
   rw[c];exact⟨(1,(((0:Int),(l.length:Int)),())),by simp only[re,Ta],.inr ⟨⟨_,rfl⟩,by rw[List.take_length]at h;rw[h]⟩⟩) (λk x m g hd b hi h=>by
   rw[c];simp only;rw[rl hi,UN,VZ,U0 b];unfold W3;rw[Ug];cases a:x.2.2.1 with
   |true=>
    refine .inr ⟨_,rfl,.inl ⟨k,rfl,λe=> ?_⟩⟩;have:=List.length_filter_eq_length_iff.1 e x (List.mem_of_getElem? b);simp[Vf,a]at this
   |false=>
    refine .inl ⟨(),by rw[Ta,Vi b (by omega)],?_⟩;rw[List.take_add_one,b]
    simp[List.filter_append,h,Vf,a])
theorem eO{f:Wm}(m:Sm f.2)(hc:VSt f.2->Vw f.2.1.2.flatten<=2000):XR f=zo (rN f):=by
 unfold XR rN;rw[c0 m,Ug,VF];by_cases b:V8 f=0;rotate_left
 ·rw[zx b,zy b]
 obtain⟨w,v,y⟩:=YO b;have j:=hc v;rw[zy b,zx (by simp[b]),VC];by_cases c:f.1.2=[];rotate_left
 ·have:=en.2 c;rw[zy (by simp only[Vd,Vc];omega),zy c]
 rw[zx (by simp[c,LN,AQ]),zx (by simp[c]),VC];by_cases g:f.2.2.1=[];rotate_left
 ·have:=en.2 g;rw[zy (by simp only[Vd,Vc];omega),zy g]
 have d:Xp f.2.1=zo ((Vw f.2.1.2.flatten:Int),((f.2.1.2.flatten.length:Int),0)):=by
  rw[ks f.2.1 v.lev.small.1 v.lev.small.2,gq,zx (by simp[YN.2 v.lev])]
 rw[zx (by simp[g,LN,AQ]),zx (by simp[g]),d,Ug,VF,zy rfl,VF];dsimp only;by_cases l:f.2.1.2.flatten.length=1;rotate_left
 ·rw[zx (by omega),zy l,VA,zy rfl];unfold PW;by_cases n:f.2.1.2.flatten.length=0
  ·rw[n];rfl
  ·rw[beq_eq_false_iff_ne.2 (show ¬ (f.2.1.2.flatten.length:Int)=0 by omega),decide_eq_false n]
 rw[zy (by omega),zx (by simp[l])];obtain⟨r,a⟩:=sw.1 l;obtain⟨t,o⟩:=dI v.lev a;have p:=v.lev.len;have h:Vw f.2.1.2.flatten=r.2.length:=by rw[a];simp[Vw]
 have k:=lY b c a;rw[ku v.lev.B1 v.lev.B2 j,Ug,Vd,Vc,f8 t (by omega),VZ,U0 o,U0 (x:=r) rfl];refine lB (jl r.2 (by omega) λ_=>rfl) λq u=> ?_;rw[k,h];rcases u with⟨i,rfl,hd⟩|⟨⟨s,rfl⟩,hd⟩
 ·dsimp only;rw[show neq 0 0=zt from rfl,UN,VA,zy rfl,VA,TM,IR];by_cases e:eu f.2.1.1 r.2.length=f.2.1.2.length-1
  ·rw[zy (by rw[e])];simp[hd]
  ·rw[zx (by omega)];simp[e]
 ·dsimp only;rw[show neq 1 0=zf from rfl,Ta,VA,zy rfl,VA];by_cases e:eu f.2.1.1 r.2.length=f.2.1.2.length-1
  ·rw[zy (by rw[e])];simp[hd,e,TM,IR]
  ·rw[zx (by omega)];simp[e]
theorem dm{f:Wm}(m:Sm f.2)(hc:VSt f.2->Vw f.2.1.2.flatten<=2000):Xf f=zo (rN f):=by
 unfold Xf rN;rw[cZ m,Ug,VF];by_cases a:V8 f=0;rotate_left
 ·rw[zx a,zy a]
 obtain⟨n,v,o⟩:=YO a;have b:=hc v;rw[zy a,zx (by simp[a]),VC];by_cases c:f.1.2=[];rotate_left
 ·have:=en.2 c;rw[zy (by simp only[Vd,Vc];omega),zy c]
 rw[zx (by simp[c,LN,AQ]),zx (by simp[c]),VC];by_cases d:f.2.2.1=[];rotate_left
 ·have:=en.2 d;rw[zy (by simp only[Vd,Vc];omega),zy d]
 rw[zx (by simp[d,LN,AQ]),zx (by simp[d]),kA v.lev,Ug,VA];dsimp only;by_cases i:f.2.1.2.flatten.length=0
 ·rw[zy (by omega),zy (by omega)];simp[i]
 rw[zx (by omega),kB v.lev.B1 v.lev.B2 b,Ug,VA];by_cases g:f.2.1.2.flatten.length=1;rotate_left
 ·rw[zx (by omega),zy g,decide_eq_false i]
 rw[zy (by omega),zx (by simp[g]),VA,zy rfl,VA,Vd,Vc];obtain⟨r,h⟩:=sw.1 g;obtain⟨k,l⟩:=dI v.lev h;have j:=v.lev.len;rw[f8 k (by omega)];by_cases e:eu f.2.1.1 (Vw f.2.1.2.flatten)=f.2.1.2.length-1
 ·rw[zy (by rw[e]),fQ a b,Ug,PW,Vd,Vc];simp only[e,decide_true,Bool.true_and];by_cases e2:(XK f).length=Vw f.2.1.2.flatten
  ·simp[e2]
  ·have:¬ ((XK f).length:Int)=(Vw f.2.1.2.flatten:Int):=by omega
   simp[e2,this]
 ·rw[zx (by omega)];simp[e]
theorem kD{f:Wm}(m:Sm f.2)(hc:VSt f.2->Vw f.2.1.2.flatten<=2000):Y5 f=zo (if V8 f=0 then(XK f,0)else([],V8 f)):=by
 unfold Y5;rw[cZ m,Ug,VF];by_cases h:V8 f=0
 ·rw[zy h,fQ h (hc (YO h).2.1),Ug,zy h]
 ·rw[zx h,zx h]
theorem settleWholes{f:Wm}(h:∀ rs∈f.2.1.2,∀ r∈rs,r.2.length<=9223372036854775807):Wa f=zo zt:=by
 unfold Wa;rw[lM];obtain⟨b,e,g⟩:=rR f h;rw[e,Ug,rF];cases b with
 |true=>rfl
 |false=>
  obtain⟨m,d,i⟩:=g rfl;have hc:VSt f.2->Vw f.2.1.2.flatten<=2000:=λv=>by have:=d v.lev;omega
  have a:YX ((if V8 f=0 then(XK f,(0:Int))else([],V8 f)).1,(if V8 f=0 then(XK f,(0:Int))else([],V8 f)).1)=zo zt:=by
   refine kJ _ ?_;split
   ·rename_i c;have:=(jw c (hc (YO c).2.1)).2;have:=hc (YO c).2.1;simp only;omega
   ·simp
  rw[Ta,ky (c0 m) (λc=>hc (YO c).2.1),Ug,kD m hc,Ug,eO m hc,Ug,dm m hc,Ug,a,Ug,UN,VA,zy rfl,ZI,UN,VA,zy rfl];rfl
theorem iQ{x:Wm}(h:SK [(zt,.pair (.pair (.int .i64) (.sl zt tE)) tJb)] x):Wa x=zo zt:=settleWholes (w7 h.2)
end
section
open Go Sv
def X8(x:(List VY)):Option Int:=
 bd (loop (λs0=>br (Uv s0.2 (LN (AQ x))) (λ_=>TS s0.2 λc=>ix x c λd=>bd (WA d) λa=>br (TN a 0) (λ_=>zo (.dn ((0,((a,s0.2),()))))) λ_=>zo (.nx (s0.1,Tk .i64 s0.2 1))) λ_=>zo (.dn ((1,(s0,()))))) (0,0)) λb=>br (neq b.1 0) (λ_=>zo b.2.1.1) λ_=>zo 0
def Xg(x:((List UInt8)×(List UInt8))):Option Int:=
 zo (VJ x.1 x.2)
def W1(x:Int):Option Bool:=
 zo (TN x x)
def Wi(x:(Int×Int)):Option Int:=
 bd (W1 x.1) λb=>bd (W1 x.2) λa=>br b (λ_=>br a (λ_=>zo 0) λ_=>zo (-1)) λ_=>br a (λ_=>zo 1) λ_=>br (Uv x.1 x.2) (λ_=>zo (-1)) λ_=>br (Ut x.1 x.2) (λ_=>zo 1) λ_=>zo 0
def XN(x:(Unit×(VY×VY))):Option Int:=
 bd (Xg (x.2.1.1,x.2.2.1)) λa=>bd (Wi (x.2.2.2.2.2,x.2.1.2.2.2)) λb=>bd (Wk ([a,b])) λc=>zo c
def Xe(x:(VY×VY)):Option (Int×Int):=
 bd (X8 ([x.1,x.2])) λa=>br (TN a 0) (λ_=>zo (0,a)) λ_=>bd (XN (((),x))) λb=>zo (b,0)
def Yk(x:(VY×VY)):Option Int:=
 bd (Xe x) λa=>zo a.1
end
section
open Go Sv
def rJ(x y:VY):Int:=if VJ x.1 y.1=0 then(if y.2.2.2<x.2.2.2 then -1 else if y.2.2.2>x.2.2.2 then 1 else 0)else VJ x.1 y.1
theorem sH{x:VY}(h:VG x=zt):kE x=0:=by
 unfold VG at h;simp only[nP,decide_eq_true_eq,vL,Bool.and_eq_false_iff,Bool.not_eq_false']at h;unfold kE;obtain⟨d,e,h3,f,g⟩:=h
 have b:¬ (x.2.2.1=zt/\x.2.1≠[]):=by
  rintro⟨a,c⟩;rcases h3 with h3|h3
  ·rw[h3]at a;cases a
  ·exact c (by simpa using h3)
 repeat' split
 all_goals first|rfl|omega|(exfalso;exact b (by assumption))
theorem vu(a b:Xk):VJ a b<0<->UB a b=zt:=by
 unfold VJ UB;cases Op.bytesLess a b with
 |true=>simp
 |false=>cases a == b<;>simp
theorem gU(a b:Xk):VJ a b=0<->a=b:=by
 unfold VJ;cases h:Op.bytesLess a b with
 |true=>exact⟨λe=>by simp at e,λe=>absurd e (Zs h)⟩
 |false=>
  cases c:a == b with
  |true=>simpa using c
  |false=>simpa using c
theorem lG(x y:VY):rJ x y<0<->UB x.1 y.1=zt\/(x.1=y.1/\y.2.2.2<x.2.2.2):=by
 unfold rJ;by_cases h:VJ x.1 y.1=0
 ·rw[zy h];have a:=(gU _ _).1 h;have c:UB x.1 y.1=zf:=by rw[a];exact Wu _
  rw[c];by_cases b:y.2.2.2<x.2.2.2
  ·rw[zy b];exact⟨λ_=>.inr ⟨a,b⟩,λ_=>by decide⟩
  ·rw[zx b];refine⟨λh=> ?_,λh=> ?_⟩
   ·split at h<;>omega
   ·rcases h with h|h
    ·cases h
    ·exact absurd h.2 b
 ·rw[zx h,vu];have a:¬ x.1=y.1:=λe=>h ((gU _ _).2 e);simp[a]
theorem rE{x y:VY}(a:VG x=zt)(b:VG y=zt):X8 [x,y]=zo 0:=by
 unfold X8;refine Vx (x:=(1,((0,2),()))) (WU (s1:=(0,1)) (s2:=(0,2)) ?_ ?_ ?_) rfl
 ·exact(bG 0 rfl rfl rfl).trans (by rw[Wo,sH a,Ug];rfl)
 ·exact(bG 1 rfl rfl rfl).trans (by rw[Wo,sH b,Ug];rfl)
 ·rfl
theorem vj(a b:Int):Wk [a,b]=zo (if a=0 then b else a):=by
 unfold Wk;by_cases c:a=0
 ·rw[zy c];by_cases d:b=0
  ·refine Vx (x:=(1,((0,2),()))) (WU (s1:=(0,1)) (s2:=(0,2)) ?_ ?_ ?_) (by subst d;rfl)
   ·exact(bG 0 rfl rfl rfl).trans (by subst c;rfl)
   ·exact(bG 1 rfl rfl rfl).trans (by subst d;rfl)
   ·rfl
  ·refine Vx (x:=(0,((b,1),()))) (Wx (n:=2) (by omega) ((V7 (s':=(0,1)) ?_).trans (WG ?_))) rfl
   ·exact(bG 0 rfl rfl rfl).trans (by subst c;rfl)
   ·refine(bG 1 rfl rfl rfl).trans ?_;rw[VF,zx d]
 ·rw[zx c];refine Vx (x:=(0,((a,0),()))) (Wx (n:=1) (by omega) (WG ?_)) rfl;refine(bG 0 rfl rfl rfl).trans ?_;rw[VF,zx c]
theorem cmp_ok(a b:Int):Wi (a,b)=zo (if a<b then -1 else if a>b then 1 else 0):=by
 unfold Wi W1;simp only[Ug];rw[VF,zy rfl,VF,zy rfl,VE,VC];split
 ·rfl
 ·split<;>rfl
theorem kq{x y:VY}(a:VG x=zt)(b:VG y=zt):Yk (x,y)=zo (rJ x y):=by
 unfold Yk Xe XN Xg;simp only[Ug];rw[rE a b,Ug,VF,zy rfl,cmp_ok,Ug,vj,Ug,Ug,Ug];rfl
theorem dx(a:VY):∀ l,(RQ a l).Perm (a::l)
 |[]=>.refl _
 |b::l=>by
  unfold RQ;cases Op.bytesLess a.1 b.1 with
  |true=>exact .refl _
  |false=>exact((dx a l).cons b).trans (.swap a b l)
theorem cR:∀ l,(KM l).Perm l
 |[]=>.refl _
 |a::l=>(dx a _).trans ((cR l).cons a)
theorem fe:∀ {l:List VY},SX l=zt->(l.map (·.1)).Nodup
 |[],_=>.nil
 |a::l,h=>by
  simp only[SX,nP,vL]at h;rw[ee,gs];refine⟨λd=> ?_,fe h.2⟩;obtain⟨b,c,e⟩:=eo.1 d;have:=(List.any_eq_false.1 h.1) b c;simp[e]at this
theorem cQ(a:VY):∀ {l:List VY},(∀ x∈l,x.1≠a.1)->(l.Pairwise λx y=>UB x.1 y.1=zt)->(RQ a l).Pairwise λx y=>UB x.1 y.1=zt
 |[],_,_=>.cons (λ_ h=>by cases h) .nil
 |b::l,h1,h2=>by
  unfold RQ;obtain⟨d,f⟩:=List.pairwise_cons.1 h2;cases c:Op.bytesLess a.1 b.1 with
  |true=>
   refine .cons (λx hx=> ?_) h2;rcases List.mem_cons.1 hx with rfl|hx
   ·exact c
   ·exact Wq c (d x hx)
  |false=>
   refine .cons (λx hx=> ?_) (cQ a (λx hx=>h1 x (.tail _ hx)) f);rcases(cx a x).1 hx with rfl|hx
   ·exact aN c λe=>h1 b (.head _) e.symm
   ·exact d x hx
theorem bD:∀ {l:List VY},(l.map (·.1)).Nodup->(KM l).Pairwise λx y=>UB x.1 y.1=zt
 |[],_=>.nil
 |a::l,h=>by
  rw[ee,gs]at h;exact cQ a (λx b e=>h.1 (eo.2 ⟨x,(Z8 x).1 b,e⟩)) (bD h.2)
theorem jo(l l':List VY)(h:SD l=zo l'):l.length<4611686018427387904/\(∀ x∈l,VG x=zt) /\ ∀ m:List VY,m.Perm l->(m.Pairwise λa b=>¬ rJ b a<0)->m=l':=by
 unfold SD at h;cases c:(l.all VG&&SX l)&&Nat.ble l.length 1048576 with
 |false=>rw[c]at h;cases h
 |true=>
  rw[c]at h;cases h;simp only[nP]at c;have j:=fe c.1.2;refine⟨by have:=Nat.le_of_ble_eq_true c.2;omega,List.all_eq_true.1 c.1.1,λm k n=> ?_⟩;have d:(m.map (·.1)).Nodup:=((k.map (λx:VY=>x.1)).nodup_iff).2 j
  have i:m.Pairwise λa b=>a.1≠b.1:=by
   unfold List.Nodup at d
   rwa [List.pairwise_map]at d
  have g:m.Pairwise λx y=>UB x.1 y.1=zt:=(n.and i).imp fun {a b} ⟨e,f⟩=>by
   rw[lG]at e;rcases aO a.1 b.1 with h|h|h
   ·exact h
   ·exact absurd h f
   ·exact absurd (.inl h) e
  exact List.Perm.eq_of_pairwise (λa b _ _ e f=>by rw[WR e]at f;cases f) g (bD j) (k.trans (cR l).symm)
end
section
open Go Sv Go.Sort Go.Proofs
theorem rK:SWO (ltOf λ(x y:{x:IL // VG x=zt})=>rJ x.1 y.1):=by
 refine⟨λx=> ?_,λx y z b a=> ?_,λx y z b a=> ?_⟩
 all_goals simp only[ltOf,decide_eq_true_eq,decide_eq_false_iff_not,lG]at *
 ·rintro (h|h)
  ·rw[Wu]at h;cases h
  ·omega
 ·rcases b with b|⟨b,f⟩
  ·rcases a with a|⟨a,g⟩
   ·exact .inl (Wq b a)
   ·rw[<- a];exact .inl b
  ·rw[b];rcases a with a|⟨a,g⟩
   ·exact .inl a
   ·exact .inr ⟨a,by omega⟩
 ·intro h
  have d:UB x.1.1 y.1.1=zf:=by
   cases e:UB x.1.1 y.1.1 with
   |false=>rfl
   |true=>exact absurd (.inl e) b
  have c:UB y.1.1 z.1.1=zf:=by
   cases e:UB y.1.1 z.1.1 with
   |false=>rfl
   |true=>exact absurd (.inl e) a
  rcases h with h|⟨h,f⟩
  ·rw[da d h]at c;cases c
  ·rcases aO x.1.1 y.1.1 with e|e|e
   ·rw[d]at e;cases e
   ·have i:¬ y.1.2.2.2<x.1.2.2.2:=λe2=>b (.inr ⟨e,e2⟩);have j:¬ z.1.2.2.2<y.1.2.2.2:=λe2=>a (.inr ⟨e.symm.trans h,e2⟩);omega
   ·rw[<- h,e]at c;cases c
end
end Go.Proofs.YtoefnfbpoabinaaGreatDoor.Pl
