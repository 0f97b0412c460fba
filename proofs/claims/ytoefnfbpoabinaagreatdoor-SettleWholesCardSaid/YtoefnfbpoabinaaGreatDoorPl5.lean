/- Functions of the program and of the specification as plain functions, and laws about them. No condition. -/
import Derived.Test.YtoefnfbpoabinaaGreatDoorPl4
set_option linter.all false
open List renaming getLast?_eq_getElem?->lc, length_eq_one_iff->ul, length_pos_iff->eo, map_cons->en, mem_map->ey, nodup_cons->gw, range->q0
open Bool renaming and_eq_true->ox, not_eq_true'->x6
open Option renaming some->zo, none->zn
open Bool renaming true->zt, false->zf
namespace Go.Proofs.YtoefnfbpoabinaaGreatDoor.Pl
section
open Go Sv
end
section
open Go Sv
def eK(B:Int)(n:Nat):Nat:=((q0 12).find? λi=>decide ((n:Int)<=Vx B i)).getD 0
theorem fi{B:Int}{n:Nat}(f:1<=B)(g:n<=2000):eK B n<12/\(n:Int)<=Vx B (eK B n) /\ ∀ j,j<eK B n -> ¬ (n:Int)<=Vx B j:=by
 unfold eK;cases h:(q0 12).find? λi=>decide ((n:Int)<=Vx B i)with
 |none=>
  have a:=List.find?_eq_none.1 h 11 (by simp);rw[show Vx B 11=B*2048 from rfl]at a;have:=of_decide_eq_false (Bool.eq_false_iff.2 a);omega
 |some i=>
  obtain⟨b,c,d⟩:=List.find?_range_eq_some.1 h;exact⟨by simpa using c,by simpa using b,λj e=>by simpa using d j e⟩
theorem uW{B:Int}(a:1<=B)(b:B<=16):VLev (B,[]):=⟨a,b,by simp,λi rs h=>by simp at h,by simp,by simp⟩
theorem kg{B:Int}(a:1<=B)(d:B<=16){n:Nat}(h:n<=2000):X6 (B,(n:Int))=zo ((eK B n:Int),0):=by
 obtain⟨b,e,f⟩:=fi a h;unfold X6;rw[Uo,zx (by simp only;omega)];refine VY (x:=(0,(((0:Int),((eK B n:Int),(eK B n:Int))),()))) (bL (λk=>((0:Int),(((k-1:Nat):Int),(k:Int)))) (eK B n) rfl (by omega) (λk g=> ?_) ?_) ?_
 ·have:=bZ (uW a d) (n:=k) (by omega);simp only at this ⊢;rw[show UV (k:Int) 12=zt from bH (c:=12) (by omega),Tj,this,UG,Uq,zy rfl,Un,zx (f k g),VD (by omega)];rfl
 ·have:=bZ (uW a d) (n:=eK B n) b;simp only at this ⊢;rw[show UV (eK B n:Int) 12=zt from bH (c:=12) b,Tj,this,UG,Uq,zy rfl,Un,zy e]
 ·rfl
theorem jv{B:Int}(a:1<=B)(b:B<=16){n:Nat}(h:n<=2000):Yd (B,(n:Int))=zo ((eK B n:Int),0):=by
 obtain⟨d,e,f⟩:=fi a h;unfold Yd;rw[Uo,zx (by simp only;omega),Um,zx (by simp only;omega),Uo,zx (by simp only;omega)];refine VY (x:=(0,(((0:Int),((eK B n:Int),(eK B n:Int))),()))) (bL (λk=>((0:Int),((0:Int),(k:Int)))) (eK B n) rfl (by omega) (λk g=> ?_) ?_) ?_
 ·simp only;rw[show UV (k:Int) 12=zt from bH (c:=12) (by omega),Tj,dB a b (by omega),UG,Un,zx (f k g),VD (by omega)]
 ·simp only;rw[show UV (eK B n:Int) 12=zt from bH (c:=12) d,Tj,dB a b (by omega),UG,Un,zy e]
 ·rfl
theorem jk{f:WN}(a:Vj f=0)(hc:VX f.2.1.2.flatten<=2000):VL (Wv f)/\(Wv f).length<=f.1.2.length+VX f.2.1.2.flatten:=by
 obtain⟨i,j⟩:=jI a hc;have d:=dD (VJ f.2.1.2) (f.1.2.foldl Xb []);have c:=Za f.1.2 [];have e:=(XZ f.2.1.2).1;have g:(Wv f).length<=(Z6 f).length:=by rw[<- aW,IS];exact List.length_filter_le _ _
 have h:(Z6 f).length<=f.1.2.length+VX f.2.1.2.flatten:=by unfold Z6;simp only[List.length_nil]at c;omega
 refine⟨⟨by omega,λx b=> ?_,bX f⟩,by omega⟩;rw[<- aW,Zn]at b;exact lX a x (List.mem_filter.1 b).1
end
section
open Go Sv
end
section
open Go Sv
end
section
open Go Sv
theorem bw:∀ ls:List (List VU),(VJ ls).Perm ls.flatten
 |[]=>.refl _
 |rs::ls=>by
  show(rs.reverse++VJ ls).Perm (rs++ls.flatten);exact(List.reverse_perm rs).append (bw ls)
theorem gm{ls:List (List VU)}{r:VU}(h:ls.flatten=[r]):VJ ls=[r]:=List.perm_singleton.1 (h ▸ bw ls)
theorem ck{L:VA}(v:VLev L){r:VU}(h:L.2.flatten=[r]):0<L.2.length/\L.2[L.2.length-1]?=zo [r]:=by
 cases a:L.2.getLast? with
 |none=>rw[List.getLast?_eq_none_iff.1 a]at h;cases h
 |some rs=>
  have c:=List.mem_of_getLast? a;rw[lc]at a;have f:0<L.2.length:=List.length_pos_of_mem c;refine⟨f,a.trans (congrArg zo ?_)⟩;have d:rs≠[]:=λe=>v.last (by rw[lc,a,e])
  have hs:∀ x∈rs,x=r:=λx g=>by
   have:x∈L.2.flatten:=List.mem_flatten.2 ⟨rs,c,g⟩;rw[h]at this;simpa using this
  have b:rs.length<=1:=by
   have:rs.Sublist L.2.flatten:=by
    obtain⟨p,q,e⟩:=List.append_of_mem c;rw[e,List.flatten_append,List.flatten_cons];exact(List.sublist_append_left _ _).trans (List.sublist_append_right _ _)
   have:=this.length_le;rw[h]at this;simpa using this
  match rs,d,b,hs with
  |[x],_,_,hs=>rw[hs x (by simp)]
theorem lO{f:WN}(b:Vj f=0)(c:f.1.2=[]){r:VU}(h:f.2.1.2.flatten=[r]):Wv f=r.2.filter VE:=by
 obtain⟨g,v,i⟩:=X2 b;obtain⟨e,d⟩:=ck v.lev h;have a:=((v.lev.lev _ _ d).2 r (by simp)).vl;refine cD (bX f) (Xv VE a.asc) λk=> ?_;rw[cb,c,gm h,XX VE k a.asc];show(((zn:Option U7).or ((VW r.2 k).or zn))).filter VE=_;simp
def rG(f:WN):Bool×Int:=
 if Vj f≠0 then(zf,Vj f)else if f.1.2≠[]then(zf,0)else if f.2.2.1≠[]then(zf,0)else if f.2.1.2.flatten.length≠1 then(decide (f.2.1.2.flatten.length=0),0)
 else(decide (eK f.2.1.1 (VX f.2.1.2.flatten)=f.2.1.2.length-1)&&decide ((Wv f).length=VX f.2.1.2.flatten),0)
theorem fa{n:Nat}(h:0<n)(a:n<=1000):TM .i64 (n:Int) 1=((n-1:Nat):Int):=by
 simp[TM,IntKind.wrap,IntKind.bits,IntKind.signed];omega
theorem jZ(l:List U7)(d:l.length<=1000000){f:Int×Int->Option (LR (Int×Int) (Nat×(Int×Int)×Unit))}
  (c:∀ s:Int×Int,f s=br (UV s.2 (l.length:Int)) (λ_=>S1 s.2 λk=>ix l k λx=>bd (We x) λr=>br r (λ_=>zo (.dn ((0,((s.2,s.2),()))))) λ_=>zo (.nx (s.1,TI .i64 s.2 1))) λ_=>zo (.dn ((1,(s,()))))) :
  ∃ r,loop f ((0:Int),(0:Int))=zo r/\((∃ i:Nat,r=(0,(((i:Int),(i:Int)),()))/\(l.filter VE).length≠l.length)\/((∃ s,r=(1,(s,())))/\(l.filter VE).length=l.length)):=
 XG (l:=l) (σ:=Unit) (λk _=>((0:Int),(k:Int))) (λ_ k _=>(l.take k).filter VE=l.take k) _
  () rfl (by omega) (by simp) (λ_ h=>by
   rw[c];exact⟨(1,(((0:Int),(l.length:Int)),())),by simp only[re,TA],.inr ⟨⟨_,rfl⟩,by rw[List.take_length]at h;rw[h]⟩⟩) (λk x m g hd b hi h=>by
   rw[c];simp only;rw[rl hi,Tj,U8,Ua b];unfold We;rw[UG];cases a:x.2.2.1 with
   |true=>
    refine .inr ⟨_,rfl,.inl ⟨k,rfl,λe=> ?_⟩⟩;have:=List.length_filter_eq_length_iff.1 e x (List.mem_of_getElem? b);simp[VE,a]at this
   |false=>
    refine .inl ⟨(),by rw[TA,VH b (by omega)],?_⟩;rw[List.take_add_one,b]
    simp[List.filter_append,h,VE,a])
theorem dx{f:WN}(m:Sm f.2)(hc:VSt f.2->VX f.2.1.2.flatten<=2000):W2 f=zo (rG f):=by
 unfold W2 rG;rw[cY m,UG,Uq];by_cases b:Vj f=0;rotate_left
 ·rw[zx b,zy b]
 obtain⟨w,v,y⟩:=X2 b;have j:=hc v;rw[zy b,zx (by simp[b]),Um];by_cases c:f.1.2=[];rotate_left
 ·have:=eo.2 c;rw[zy (by simp only[VC,VB];omega),zy c]
 rw[zx (by simp[c,K7,AQ]),zx (by simp[c]),Um];by_cases g:f.2.2.1=[];rotate_left
 ·have:=eo.2 g;rw[zy (by simp only[VC,VB];omega),zy g]
 have d:XS f.2.1=zo ((VX f.2.1.2.flatten:Int),((f.2.1.2.flatten.length:Int),0)):=by
  rw[ke f.2.1 v.lev.small.1 v.lev.small.2,gT,zx (by simp[Xz.2 v.lev])]
 rw[zx (by simp[g,K7,AQ]),zx (by simp[g]),d,UG,Uq,zy rfl,Uq];dsimp only;by_cases l:f.2.1.2.flatten.length=1;rotate_left
 ·rw[zx (by omega),zy l,Uk,zy rfl];unfold PC;by_cases n:f.2.1.2.flatten.length=0
  ·rw[n];rfl
  ·rw[beq_eq_false_iff_ne.2 (show ¬ (f.2.1.2.flatten.length:Int)=0 by omega),decide_eq_false n]
 rw[zy (by omega),zx (by simp[l])];obtain⟨r,a⟩:=ul.1 l;obtain⟨t,o⟩:=ck v.lev a;have p:=v.lev.len;have h:VX f.2.1.2.flatten=r.2.length:=by rw[a];simp[VX]
 have k:=lO b c a;rw[kg v.lev.B1 v.lev.B2 j,UG,VC,VB,fa t (by omega),U8,Ua o,Ua (x:=r) rfl];refine km (jZ r.2 (by omega) λ_=>rfl) λq u=> ?_;rw[k,h];rcases u with⟨i,rfl,hd⟩|⟨⟨s,rfl⟩,hd⟩
 ·dsimp only;rw[show neq 0 0=zt from rfl,Tj,Uk,zy rfl,Uk,Sw,IG];by_cases e:eK f.2.1.1 r.2.length=f.2.1.2.length-1
  ·rw[zy (by rw[e])];simp[hd]
  ·rw[zx (by omega)];simp[e]
 ·dsimp only;rw[show neq 1 0=zf from rfl,TA,Uk,zy rfl,Uk];by_cases e:eK f.2.1.1 r.2.length=f.2.1.2.length-1
  ·rw[zy (by rw[e])];simp[hd,e,Sw,IG]
  ·rw[zx (by omega)];simp[e]
theorem dN{f:WN}(m:Sm f.2)(hc:VSt f.2->VX f.2.1.2.flatten<=2000):XI f=zo (rG f):=by
 unfold XI rG;rw[cA m,UG,Uq];by_cases a:Vj f=0;rotate_left
 ·rw[zx a,zy a]
 obtain⟨n,v,o⟩:=X2 a;have b:=hc v;rw[zy a,zx (by simp[a]),Um];by_cases c:f.1.2=[];rotate_left
 ·have:=eo.2 c;rw[zy (by simp only[VC,VB];omega),zy c]
 rw[zx (by simp[c,K7,AQ]),zx (by simp[c]),Um];by_cases d:f.2.2.1=[];rotate_left
 ·have:=eo.2 d;rw[zy (by simp only[VC,VB];omega),zy d]
 rw[zx (by simp[d,K7,AQ]),zx (by simp[d]),ju v.lev,UG,Uk];dsimp only;by_cases i:f.2.1.2.flatten.length=0
 ·rw[zy (by omega),zy (by omega)];simp[i]
 rw[zx (by omega),jv v.lev.B1 v.lev.B2 b,UG,Uk];by_cases g:f.2.1.2.flatten.length=1;rotate_left
 ·rw[zx (by omega),zy g,decide_eq_false i]
 rw[zy (by omega),zx (by simp[g]),Uk,zy rfl,Uk,VC,VB];obtain⟨r,h⟩:=ul.1 g;obtain⟨k,l⟩:=ck v.lev h;have j:=v.lev.len;rw[fa k (by omega)];by_cases e:eK f.2.1.1 (VX f.2.1.2.flatten)=f.2.1.2.length-1
 ·rw[zy (by rw[e]),ew a b,UG,PC,VC,VB];simp only[e,decide_true,Bool.true_and];by_cases e2:(Wv f).length=VX f.2.1.2.flatten
  ·simp[e2]
  ·have:¬ ((Wv f).length:Int)=(VX f.2.1.2.flatten:Int):=by omega
   simp[e2,this]
 ·rw[zx (by omega)];simp[e]
theorem jx{f:WN}(m:Sm f.2)(hc:VSt f.2->VX f.2.1.2.flatten<=2000):Ye f=zo (if Vj f=0 then(Wv f,0)else([],Vj f)):=by
 unfold Ye;rw[cA m,UG,Uq];by_cases h:Vj f=0
 ·rw[zy h,ew h (hc (X2 h).2.1),UG,zy h]
 ·rw[zx h,zx h]
theorem settleWholes{f:WN}(h:∀ rs∈f.2.1.2,∀ r∈rs,r.2.length<=9223372036854775807):WB f=zo zt:=by
 unfold WB;rw[lD];obtain⟨b,e,g⟩:=rJ f h;rw[e,UG,qy];cases b with
 |true=>rfl
 |false=>
  obtain⟨m,d,i⟩:=g rfl;have hc:VSt f.2->VX f.2.1.2.flatten<=2000:=λv=>by have:=d v.lev;omega
  have a:YB ((if Vj f=0 then(Wv f,(0:Int))else([],Vj f)).1,(if Vj f=0 then(Wv f,(0:Int))else([],Vj f)).1)=zo zt:=by
   refine j8 _ ?_;split
   ·rename_i c;have:=(jk c (hc (X2 c).2.1)).2;have:=hc (X2 c).2.1;simp only;omega
   ·simp
  rw[TA,ki (cY m) (λc=>hc (X2 c).2.1),UG,jx m hc,UG,dx m hc,UG,dN m hc,UG,a,UG,Tj,Uk,zy rfl,Yr,Tj,Uk,zy rfl];rfl
theorem iA{x:WN}(h:Ry [(zt,.pair (.pair (.int .i64) (.sl zt tE)) tJb)] x):WB x=zo zt:=settleWholes (w6 h.2)
end
section
open Go Sv
def Xj(x:(List U7)):Option Int:=
 bd (loop (λs0=>br (UV s0.2 (K7 (AQ x))) (λ_=>S1 s0.2 λc=>ix x c λd=>bd (Vl d) λa=>br (Sx a 0) (λ_=>zo (.dn ((0,((a,s0.2),()))))) λ_=>zo (.nx (s0.1,TI .i64 s0.2 1))) λ_=>zo (.dn ((1,(s0,()))))) (0,0)) λb=>br (neq b.1 0) (λ_=>zo b.2.1.1) λ_=>zo 0
def XJ(x:((List UInt8)×(List UInt8))):Option Int:=
 zo (Uu x.1 x.2)
def Wc(x:Int):Option Bool:=
 zo (Sx x x)
def WJ(x:(Int×Int)):Option Int:=
 bd (Wc x.1) λb=>bd (Wc x.2) λa=>br b (λ_=>br a (λ_=>zo 0) λ_=>zo (-1)) λ_=>br a (λ_=>zo 1) λ_=>br (UV x.1 x.2) (λ_=>zo (-1)) λ_=>br (UT x.1 x.2) (λ_=>zo 1) λ_=>zo 0
def Wy(x:(Unit×(U7×U7))):Option Int:=
 bd (XJ (x.2.1.1,x.2.2.1)) λa=>bd (WJ (x.2.2.2.2.2,x.2.1.2.2.2)) λb=>bd (WL ([a,b])) λc=>zo c
def XH(x:(U7×U7)):Option (Int×Int):=
 bd (Xj ([x.1,x.2])) λa=>br (Sx a 0) (λ_=>zo (0,a)) λ_=>bd (Wy (((),x))) λb=>zo (b,0)
def YO(x:(U7×U7)):Option Int:=
 bd (XH x) λa=>zo a.1
end
section
open Go Sv
def rC(x y:U7):Int:=if Uu x.1 y.1=0 then(if y.2.2.2<x.2.2.2 then -1 else if y.2.2.2>x.2.2.2 then 1 else 0)else Uu x.1 y.1
theorem sF{x:U7}(h:Ur x=zt):kE x=0:=by
 unfold Ur at h;simp only[ox,decide_eq_true_eq,x6,Bool.and_eq_false_iff,Bool.not_eq_false']at h;unfold kE;obtain⟨d,e,h3,f,g⟩:=h
 have b:¬ (x.2.2.1=zt/\x.2.1≠[]):=by
  rintro⟨a,c⟩;rcases h3 with h3|h3
  ·rw[h3]at a;cases a
  ·exact c (by simpa using h3)
 repeat' split
 all_goals first|rfl|omega|(exfalso;exact b (by assumption))
theorem vq(a b:XN):Uu a b<0<->TZ a b=zt:=by
 unfold Uu TZ;cases Op.bytesLess a b with
 |true=>simp
 |false=>cases a == b<;>simp
theorem gD(a b:XN):Uu a b=0<->a=b:=by
 unfold Uu;cases h:Op.bytesLess a b with
 |true=>exact⟨λe=>by simp at e,λe=>absurd e (ZW h)⟩
 |false=>
  cases c:a == b with
  |true=>simpa using c
  |false=>simpa using c
theorem ku(x y:U7):rC x y<0<->TZ x.1 y.1=zt\/(x.1=y.1/\y.2.2.2<x.2.2.2):=by
 unfold rC;by_cases h:Uu x.1 y.1=0
 ·rw[zy h];have a:=(gD _ _).1 h;have c:TZ x.1 y.1=zf:=by rw[a];exact WV _
  rw[c];by_cases b:y.2.2.2<x.2.2.2
  ·rw[zy b];exact⟨λ_=>.inr ⟨a,b⟩,λ_=>by decide⟩
  ·rw[zx b];refine⟨λh=> ?_,λh=> ?_⟩
   ·split at h<;>omega
   ·rcases h with h|h
    ·cases h
    ·exact absurd h.2 b
 ·rw[zx h,vq];have a:¬ x.1=y.1:=λe=>h ((gD _ _).2 e);simp[a]
theorem qx{x y:U7}(a:Ur x=zt)(b:Ur y=zt):Xj [x,y]=zo 0:=by
 unfold Xj;refine VY (x:=(1,((0,2),()))) (V5 (s1:=(0,1)) (s2:=(0,2)) ?_ ?_ ?_) rfl
 ·exact(ai 0 rfl rfl rfl).trans (by rw[WP,sF a,UG];rfl)
 ·exact(ai 1 rfl rfl rfl).trans (by rw[WP,sF b,UG];rfl)
 ·rfl
theorem vg(a b:Int):WL [a,b]=zo (if a=0 then b else a):=by
 unfold WL;by_cases c:a=0
 ·rw[zy c];by_cases d:b=0
  ·refine VY (x:=(1,((0,2),()))) (V5 (s1:=(0,1)) (s2:=(0,2)) ?_ ?_ ?_) (by subst d;rfl)
   ·exact(ai 0 rfl rfl rfl).trans (by subst c;rfl)
   ·exact(ai 1 rfl rfl rfl).trans (by subst d;rfl)
   ·rfl
  ·refine VY (x:=(0,((b,1),()))) (WY (n:=2) (by omega) ((Vi (s':=(0,1)) ?_).trans (Vr ?_))) rfl
   ·exact(ai 0 rfl rfl rfl).trans (by subst c;rfl)
   ·refine(ai 1 rfl rfl rfl).trans ?_;rw[Uq,zx d]
 ·rw[zx c];refine VY (x:=(0,((a,0),()))) (WY (n:=1) (by omega) (Vr ?_)) rfl;refine(ai 0 rfl rfl rfl).trans ?_;rw[Uq,zx c]
theorem cmp_ok(a b:Int):WJ (a,b)=zo (if a<b then -1 else if a>b then 1 else 0):=by
 unfold WJ Wc;simp only[UG];rw[Uq,zy rfl,Uq,zy rfl,Uo,Um];split
 ·rfl
 ·split<;>rfl
theorem ka{x y:U7}(a:Ur x=zt)(b:Ur y=zt):YO (x,y)=zo (rC x y):=by
 unfold YO XH Wy XJ;simp only[UG];rw[qx a b,UG,Uq,zy rfl,cmp_ok,UG,vg,UG,UG,UG];rfl
theorem dU(a:U7):∀ l,(Q7 a l).Perm (a::l)
 |[]=>.refl _
 |b::l=>by
  unfold Q7;cases Op.bytesLess a.1 b.1 with
  |true=>exact .refl _
  |false=>exact((dU a l).cons b).trans (.swap a b l)
theorem bn:∀ l,(J5 l).Perm l
 |[]=>.refl _
 |a::l=>(dU a _).trans ((bn l).cons a)
theorem fL:∀ {l:List U7},SB l=zt->(l.map (·.1)).Nodup
 |[],_=>.nil
 |a::l,h=>by
  simp only[SB,ox,x6]at h;rw[en,gw];refine⟨λd=> ?_,fL h.2⟩;obtain⟨b,c,e⟩:=ey.1 d;have:=(List.any_eq_false.1 h.1) b c;simp[e]at this
theorem bm(a:U7):∀ {l:List U7},(∀ x∈l,x.1≠a.1)->(l.Pairwise λx y=>TZ x.1 y.1=zt)->(Q7 a l).Pairwise λx y=>TZ x.1 y.1=zt
 |[],_,_=>.cons (λ_ h=>by cases h) .nil
 |b::l,h1,h2=>by
  unfold Q7;obtain⟨d,f⟩:=List.pairwise_cons.1 h2;cases c:Op.bytesLess a.1 b.1 with
  |true=>
   refine .cons (λx hx=> ?_) h2;rcases List.mem_cons.1 hx with rfl|hx
   ·exact c
   ·exact WR c (d x hx)
  |false=>
   refine .cons (λx hx=> ?_) (bm a (λx hx=>h1 x (.tail _ hx)) f);rcases(cV a x).1 hx with rfl|hx
   ·exact Z1 c λe=>h1 b (.head _) e.symm
   ·exact d x hx
theorem ae:∀ {l:List U7},(l.map (·.1)).Nodup->(J5 l).Pairwise λx y=>TZ x.1 y.1=zt
 |[],_=>.nil
 |a::l,h=>by
  rw[en,gw]at h;exact bm a (λx b e=>h.1 (ey.2 ⟨x,(Zn x).1 b,e⟩)) (ae h.2)
theorem jc(l l':List U7)(h:Rr l=zo l'):l.length<4611686018427387904/\(∀ x∈l,Ur x=zt) /\ ∀ m:List U7,m.Perm l->(m.Pairwise λa b=>¬ rC b a<0)->m=l':=by
 unfold Rr at h;cases c:(l.all Ur&&SB l)&&Nat.ble l.length 1048576 with
 |false=>rw[c]at h;cases h
 |true=>
  rw[c]at h;cases h;simp only[ox]at c;have j:=fL c.1.2;refine⟨by have:=Nat.le_of_ble_eq_true c.2;omega,List.all_eq_true.1 c.1.1,λm k n=> ?_⟩;have d:(m.map (·.1)).Nodup:=((k.map (λx:U7=>x.1)).nodup_iff).2 j
  have i:m.Pairwise λa b=>a.1≠b.1:=by
   unfold List.Nodup at d
   rwa [List.pairwise_map]at d
  have g:m.Pairwise λx y=>TZ x.1 y.1=zt:=(n.and i).imp fun {a b} ⟨e,f⟩=>by
   rw[ku]at e;rcases Z3 a.1 b.1 with h|h|h
   ·exact h
   ·exact absurd h f
   ·exact absurd (.inl h) e
  exact List.Perm.eq_of_pairwise (λa b _ _ e f=>by rw[V2 e]at f;cases f) g (ae j) (k.trans (bn l).symm)
end
end Go.Proofs.YtoefnfbpoabinaaGreatDoor.Pl
