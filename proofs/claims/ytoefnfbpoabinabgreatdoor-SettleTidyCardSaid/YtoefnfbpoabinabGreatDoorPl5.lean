/- Functions of the program and of the specification as plain functions, and laws about them. No condition. -/
import Derived.Test.YtoefnfbpoabinabGreatDoorPl4
set_option linter.all false
open List renaming flatten_append->ol, getLast?_eq_getElem?->ll, length_nil->co, length_pos_iff->dc, map_cons->hI, mem_map->i0, nodup_cons->li, range->sa, replicate->en
open Nat renaming zero_le->iz
open Bool renaming and_eq_true->q0, not_eq_true'->xo
open Option renaming some->zo, none->zn
open Bool renaming true->zt, false->zf
namespace Go.Proofs.YtoefnfbpoabinabGreatDoor.Pl
section
open Go Sv
theorem iB{f:VV}(a:VI f=0)(h:V7 f.2=(f.2,(0,0))):Wd f=(f,(0,0)):=by
 simp_all[Wd,drF,zx]
end
section
open Go Sv
def ca(B:Int)(n:Nat):Nat:=((sa 12).find? λi=>decide ((n:Int)<=Vn B i)).getD 0
theorem cb{B:Int}{n:Nat}(f:1<=B)(g:n<=2000):ca B n<12/\(n:Int)<=Vn B (ca B n) /\ ∀ j,j<ca B n -> ¬ (n:Int)<=Vn B j:=by
 unfold ca;cases h:(sa 12).find? λi=>decide ((n:Int)<=Vn B i)with
 |none=>
  have a:=List.find?_eq_none.1 h 11 (by simp);rw[show Vn B 11=B*2048 from rfl]at a;have:=of_decide_eq_false (Bool.eq_false_iff.2 a);omega
 |some i=>
  obtain⟨b,c,d⟩:=List.find?_range_eq_some.1 h;exact⟨by simpa using c,by simpa using b,λj e=>by simpa using d j e⟩
theorem jJ{B:Int}(a:1<=B)(b:B<=16):VLev (B,[]):=⟨a,b,by simp,λi rs h=>by simp at h,by simp,by simp⟩
theorem gp{B:Int}(a:1<=B)(d:B<=16){n:Nat}(h:n<=2000):Wn (B,(n:Int))=zo ((ca B n:Int),0):=by
 obtain⟨b,e,f⟩:=cb a h;unfold Wn;rw[Uo,zx (by simp only;omega)];refine Va (x:=(0,(((0:Int),((ca B n:Int),(ca B n:Int))),()))) (ZM (λk=>((0:Int),(((k-1:Nat):Int),(k:Int)))) (ca B n) rfl (by omega) (λk g=> ?_) ?_) ?_
 ·have:=dD (jJ a d) (n:=k) (by omega);simp only at this ⊢;rw[show UV (k:Int) 12=zt from eF (c:=12) (by omega),Tj,this,UG,Uq,zy rfl,Un,zx (f k g),VG (by omega)];rfl
 ·have:=dD (jJ a d) (n:=ca B n) b;simp only at this ⊢;rw[show UV (ca B n:Int) 12=zt from eF (c:=12) b,Tj,this,UG,Uq,zy rfl,Un,zy e]
 ·rfl
theorem Zc{f:VV}(a:VI f=0)(hc:VM f.2.1.2.flatten<=2000):VL (VK f)/\(VK f).length<=f.1.2.length+VM f.2.1.2.flatten:=by
 obtain⟨i,j⟩:=lH a hc;have d:=eu (VT f.2.1.2) (f.1.2.foldl X5 []);have c:=aC f.1.2 [];have e:=(Zm f.2.1.2).1;have g:(VK f).length<=(ap f).length:=by rw[<- bS,IS];exact List.length_filter_le _ _
 have h:(ap f).length<=f.1.2.length+VM f.2.1.2.flatten:=by unfold ap;simp only[co]at c;omega
 refine⟨⟨by omega,λx b=> ?_,Zb f⟩,by omega⟩;rw[<- bS,aR]at b;exact oF a x (List.mem_filter.1 b).1
end
section
open Go Sv
def XC(g:VV)(n:Int):VV×(Int×Int):=
 if g.2.1.2.flatten=[]then(g,(n,0))else if VK g=[]then((g.1,((g.2.1.1,[]),([],g.2.2.2))),(n+(VM g.2.1.2.flatten:Int)+1,0))else if g.2.2.2>1000000 then(kg,(0,5))
 else((g.1,(V1 (g.2.1.1,[]) (ca g.2.1.1 (VK g).length) [(g.2.2.2,VK g)],([],g.2.2.2+1))),(n+(VM g.2.1.2.flatten:Int)+1,0))
def V8(f:VV):VV×(Int×Int):=if(ck f).2.2≠0 then(kg,(0,(ck f).2.2))else XC (ck f).1 (ck f).2.1
abbrev CS:=Int×(Int×(Int×(List U7×(Int×(List (List VU)×(List Job×(Int×Int)))))))
def fG(i e:Int)(g:VV)(n:Int):CS:=(i,(e,(g.1.1,(g.1.2,(g.2.1.1,(g.2.1.2,(g.2.2.1,(g.2.2.2,n))))))))
theorem dq{B:Int}(b:1<=B)(f:B<=16){l:List U7}(h:VL l)(g:l.length<=2000)(a:l≠[]){id:Int}(i:1<=id)(j:id<=1000000) :
  VR (Vn B (ca B l.length)) (id,l)/\VY ((B,[]),((ca B l.length:Int),(id,l)))=zo (V1 (B,[]) (ca B l.length) [(id,l)],0):=by
 obtain⟨d,e,k⟩:=cb b g;have c:VR (Vn B (ca B l.length)) (id,l):=⟨i,j,h,a,e⟩;refine⟨c,?_⟩;have:=bE (jJ b f) (n:=ca B l.length) d (x:=(id,l)) (by simp only;omega) (by simp) (by simp[VD]);rw[this,show kR [] (Vn B (ca B l.length)) (id,l)=0 from iS.2 ⟨c,by simp⟩];simp[VD]
def ny(s1:CS):Option (LR CS (Nat×(CS×Unit))):=
 bd (WW (s1.2.2.2.2.1,s1.2.2.2.2.2.1)) λa=>br (Sx a.2.2 0) (λ_=>br (PC a.2.2 0) (λ_=>zo (.nx ((TI .i64 s1.1 1,(a.2.2,s1.2.2))))) λ_=>zo (.dn ((0,((s1.1,(a.2.2,s1.2.2)),()))))) λ_=>br (PC a.2.1 0) (λ_=>br (PC a.2.2 0) (λ_=>zo (.nx ((TI .i64 s1.1 1,(a.2.2,s1.2.2))))) λ_=>zo (.dn ((0,((s1.1,(a.2.2,s1.2.2)),()))))) λ_=>bd (Wp (((s1.2.2.1,s1.2.2.2.1),((s1.2.2.2.2.1,s1.2.2.2.2.2.1),(s1.2.2.2.2.2.2.1,s1.2.2.2.2.2.2.2.1))))) λb=>br (Sx b.2 0) (λ_=>br (PC b.2 0) (λ_=>zo (.nx ((TI .i64 s1.1 1,(b.2,(s1.2.2.1,(s1.2.2.2.1,(s1.2.2.2.2.1,(s1.2.2.2.2.2.1,(s1.2.2.2.2.2.2.1,(s1.2.2.2.2.2.2.2.1,TI .i64 s1.2.2.2.2.2.2.2.2 (TI .i64 a.1 1)))))))))))) λ_=>zo (.dn ((0,((s1.1,(b.2,(s1.2.2.1,(s1.2.2.2.1,(s1.2.2.2.2.1,(s1.2.2.2.2.2.1,(s1.2.2.2.2.2.2.1,(s1.2.2.2.2.2.2.2.1,TI .i64 s1.2.2.2.2.2.2.2.2 (TI .i64 a.1 1))))))))),()))))) λ_=>br (UT (K7 (AQ b.1)) 0) (λ_=>bd (Wn ((s1.2.2.2.2.1,K7 (AQ b.1)))) λd=>br (Sx d.2 0) (λ_=>zo (.dn ((0,((s1.1,(3,(s1.2.2.1,(s1.2.2.2.1,(s1.2.2.2.2.1,(s1.2.2.2.2.2.1,(s1.2.2.2.2.2.2.1,(s1.2.2.2.2.2.2.2.1,TI .i64 s1.2.2.2.2.2.2.2.2 (TI .i64 a.1 1))))))))),()))))) λ_=>br (UT (K7 (AQ b.1)) 5000) (λ_=>zo (.dn ((0,((s1.1,(3,(s1.2.2.1,(s1.2.2.2.1,(s1.2.2.2.2.1,(s1.2.2.2.2.2.1,(s1.2.2.2.2.2.2.1,(s1.2.2.2.2.2.2.2.1,TI .i64 s1.2.2.2.2.2.2.2.2 (TI .i64 a.1 1))))))))),()))))) λ_=>br (UT s1.2.2.2.2.2.2.2.1 1000000) (λ_=>zo (.dn ((0,((s1.1,(5,(s1.2.2.1,(s1.2.2.2.1,(s1.2.2.2.2.1,(s1.2.2.2.2.2.1,(s1.2.2.2.2.2.2.1,(s1.2.2.2.2.2.2.2.1,TI .i64 s1.2.2.2.2.2.2.2.2 (TI .i64 a.1 1))))))))),()))))) λ_=>bd (VY (((s1.2.2.2.2.1,[]),(d.1,(s1.2.2.2.2.2.2.2.1,b.1))))) λc=>br (Sx c.2 0) (λ_=>br (PC c.2 0) (λ_=>zo (.nx ((TI .i64 s1.1 1,(c.2,(s1.2.2.1,(s1.2.2.2.1,(s1.2.2.2.2.1,(s1.2.2.2.2.2.1,(s1.2.2.2.2.2.2.1,(s1.2.2.2.2.2.2.2.1,TI .i64 s1.2.2.2.2.2.2.2.2 (TI .i64 a.1 1)))))))))))) λ_=>zo (.dn ((0,((s1.1,(c.2,(s1.2.2.1,(s1.2.2.2.1,(s1.2.2.2.2.1,(s1.2.2.2.2.2.1,(s1.2.2.2.2.2.2.1,(s1.2.2.2.2.2.2.2.1,TI .i64 s1.2.2.2.2.2.2.2.2 (TI .i64 a.1 1))))))))),()))))) λ_=>zo (.nx ((TI .i64 s1.1 1,(0,(s1.2.2.1,(s1.2.2.2.1,(c.1.1,(c.1.2,([],(TI .i64 s1.2.2.2.2.2.2.2.1 1,TI .i64 s1.2.2.2.2.2.2.2.2 (TI .i64 a.1 1)))))))))))) λ_=>zo (.nx ((TI .i64 s1.1 1,(0,(s1.2.2.1,(s1.2.2.2.1,(s1.2.2.2.2.1,([],([],(s1.2.2.2.2.2.2.2.1,TI .i64 s1.2.2.2.2.2.2.2.2 (TI .i64 a.1 1)))))))))))
theorem je{g:VV}(k:VI g=0)(hc:VM g.2.1.2.flatten<=76){n:Nat}(x:n<=60000) :
  (∃ j m,XC g n=(j,(m,0))/\ny (fG 2 0 g n)=zo (.nx (fG 3 0 j m)))\/(XC g n=(kg,(0,5)) /\ ∃ j m,ny (fG 2 0 g n)=zo (.dn (0,(fG 2 5 j m,())))):=by
 obtain⟨y,v,z⟩:=WF k;obtain⟨q,s⟩:=Zc k (by omega);have w:=cy k;have t:=v.n2;have o:=v.n1;have e:=v.lev.B1;have h:=v.lev.B2
 have i:WW (g.2.1.1,g.2.1.2)=zo ((VM g.2.1.2.flatten:Int),((g.2.1.2.flatten.length:Int),0)):=by
  have:=gn g.2.1 v.lev.small.1 v.lev.small.2;rw[fy,zx (by simp[Xz.2 v.lev])]at this;exact this
 have u:Wp ((g.1.1,g.1.2),((g.2.1.1,g.2.1.2),(g.2.2.1,g.2.2.2)))=zo (VK g,0):=jK (f:=g) k (by omega)
 have hi:TI .i64 (n:Int) (TI .i64 (VM g.2.1.2.flatten:Int) 1)=(n:Int)+(VM g.2.1.2.flatten:Int)+1:=by
  rw[To (a:=(VM g.2.1.2.flatten:Int)) (by omega),To (by omega)];omega
 unfold ny fG;dsimp only;rw[i,UG,Uq,zy rfl,Uk];dsimp only;by_cases d:g.2.1.2.flatten=[]
 ·rw[zy (by simp[d]),Uk,zy rfl];exact .inl ⟨_,_,by unfold XC;rw[zy d],rfl⟩
 have p:¬ (g.2.1.2.flatten.length:Int)=0:=by have:=dc.2 d;omega
 rw[zx p,u,UG,Uq,zy rfl,Um,hi];dsimp only;by_cases c:VK g=[]
 ·rw[zx (by simp[c,K7,AQ])];exact .inl ⟨_,_,by unfold XC;rw[zx d,zy c],rfl⟩
 have r:0<(VK g).length:=dc.2 c;have l:Wn (g.2.1.1,K7 (AQ (VK g)))=zo ((ca g.2.1.1 (VK g).length:Int),0):=gp e h (n:=(VK g).length) (by omega);rw[zy (by simp only[VE,VC];omega),l,UG,Uq,zy rfl,Um,zx (by simp only[VE,VC];omega),Um];dsimp only;by_cases b:g.2.2.2>1000000
 ·rw[zy b];exact .inr ⟨by unfold XC;rw[zx d,zx c,zy b],_,_,rfl⟩
 rw[zx b,(dq e h q (by omega) c o (by omega)).2,UG,Uq,zy rfl,To (a:=g.2.2.2) (by omega)];exact .inl ⟨_,_,by unfold XC;rw[zx d,zx c,zx b],rfl⟩
theorem fx{F:CS->Option (LR CS (Nat×(CS×Unit)))}{f g:VV}{t:U8}{n:Int}(a:F (fG 0 0 f 0)=zo (.nx (fG 1 0 (f.1,t) n)))(b:F (fG 1 0 (f.1,t) n)=zo (.nx (fG 2 0 g n)))
  (c:(∃ e m,XC g n=(e,(m,0))/\F (fG 2 0 g n)=zo (.nx (fG 3 0 e m)))\/(XC g n=(kg,(0,5)) /\ ∃ e m,F (fG 2 0 g n)=zo (.dn (0,(fG 2 5 e m,()))))) (d:∀ e m,F (fG 3 0 e m)=zo (.dn (0,(fG 3 0 e m,())))) :
  (bd (loop F (fG 0 0 f 0)) λh=>br (Sx h.2.1.2.1 0) (λ_=>zo ((((0,[]),((0,[]),([],0))),(0,h.2.1.2.1)))) λ_=>zo ((((h.2.1.2.2.1,h.2.1.2.2.2.1),((h.2.1.2.2.2.2.1,h.2.1.2.2.2.2.2.1),(h.2.1.2.2.2.2.2.2.1,h.2.1.2.2.2.2.2.2.2.1))),(h.2.1.2.2.2.2.2.2.2.2,0))))=zo (XC g n):=by
 rcases c with⟨e,k,e1,e2⟩|⟨e1,e,k,e2⟩
 ·rw[e1,WK (n:=4) (by omega) ((Vf a).trans ((Vf b).trans ((Vf e2).trans (Vm (d e k)))))];rfl
 ·rw[e1,WK (n:=3) (by omega) ((Vf a).trans ((Vf b).trans (Vm e2)))];rfl
theorem bm{f:VV}(m:Sm f.2)(e:VSt f.2->VM f.2.1.2.flatten<=60):XK f=zo (V8 f):=by
 have hc:VSt f.2->VM f.2.1.2.flatten<=2000:=λv=>by have:=e v;omega
 unfold XK;rw[bu m,UG,Uq];by_cases c:VI f=0;rotate_left
 ·rw[zx c];have hd:Wd f=(kg,(0,VI f)):=by unfold Wd;grind
  have hs:ck f=(kg,(0,VI f)):=by unfold ck;simp_all
  unfold V8;rw[hs,zy c];rfl
 rw[zy c];rcases dz c e with⟨d,o⟩|⟨t,n,g,q,h,r,s,u,w,j,y⟩
 ·have hs:ck f=(kg,(0,(V7 f.2).2.2)):=by unfold ck;simp_all
  refine Va (x:=(0,(fG 0 (V7 f.2).2.2 f 0,()))) (WK (n:=1) (by omega) (Vm ?_)) ?_
  ·show(bd (W7 f.2) λi=>_)=_;rw[cr m hc,UG,Uk,zx d,Uk,zx d];rfl
  ·unfold V8;rw[hs,zy d];show br (Sx (V7 f.2).2.2 0) _ _=_;rw[Uq,zx d];rfl
 have hi:TI .i64 0 (n:Int)=(n:Int):=by rw[To (by omega)];omega
 by_cases hs:(XN (f.1,t)).2=0;rotate_left
 ·have b:ck f=(kg,(0,(XN (f.1,t)).2)):=by
   simp_all[ck,zx,zy]
  refine Va (x:=(0,(fG 1 (XN (f.1,t)).2 (f.1,t) n,()))) (WK (n:=2) (by omega) ((Vf (s':=fG 1 0 (f.1,t) n) ?_).trans (Vm ?_))) ?_
  ·show(bd (W7 f.2) λi=>_)=_;rw[cr m hc,UG,g,Uk,zy rfl,Uk,zy rfl];simp only[fG,hi];rfl
  ·show(bd (Wx (f.1,t)) λk=>_)=_;rw[ki h.sm,UG,Uk,zx hs,Uk,zx hs];rfl
  ·unfold V8;rw[b,zy hs];show br (Sx (XN (f.1,t)).2 0) _ _=_;rw[Uq,zx hs];rfl
 obtain⟨s1,s2,l⟩:=fh j hs;have p:=cy c;simp only at l
 have b:ck f=((XN (f.1,t)).1,((n:Int),0)):=by
  simp_all[ck,zx]
 have a:V8 f=XC (XN (f.1,t)).1 n:=by unfold V8;rw[b];rfl
 rw[a];refine fx (f:=f) (t:=t) ?_ ?_ (je s1 (n:=n) (by omega) (by omega)) λ_ _=>rfl
 ·show(bd (W7 f.2) λi=>_)=_;rw[cr m hc,UG,g,Uk,zy rfl,Uk,zy rfl];simp only[fG,hi];rfl
 ·show(bd (Wx (f.1,t)) λk=>_)=_;rw[ki h.sm,UG,Uk,zy hs,Uk,zy hs,hs];rfl
end
section
open Go Sv
theorem nk{s:U8}(v:VSt s)(h:s.1.2.flatten=[]):s=((s.1.1,[]),([],s.2.2)):=by
 have a:s.1.2=[]:=by
  cases b:s.1.2.getLast? with
  |none=>exact List.getLast?_eq_none_iff.1 b
  |some rs=>
   have d:=List.mem_of_getLast? b;have:rs=[]:=List.flatten_eq_nil_iff.1 h rs d;subst this;exact absurd b v.lev.last
 have c:s.2.1=[]:=by
  have:=v.due;rw[a]at this;exact List.map_eq_nil_iff.1 this
 obtain⟨⟨B,ls⟩,js,nx⟩:=s;simp only at a c;subst a;subst c;rfl
theorem lQ{f:VV}(h:(ck f).2.2=0):VI f=0:=by
 by_cases a:VI f=0
 ·exact a
 simp_all[Wd,zy,ck]
theorem dx{f:VV}(b:VSt f.2->VM f.2.1.2.flatten<=60)(h:(V8 f).2.2=0):VI f=0 /\ ∃ (g:VV) (n:Nat),ck f=(g,((n:Int),0))/\VI g=0/\g.1=(f.1.1,[])/\VM g.2.1.2.flatten<=76/\n<=60000/\V8 f=XC g n/\(XC g n).2.2=0:=by
 unfold V8 at h ⊢;by_cases a:(ck f).2.2=0;rotate_left
 ·rw[zy a]at h;exact absurd h a
 rw[zx (by simp[a])]at h ⊢;rcases jA (lQ a) b with e|⟨g,n,s0,s1,s2,c,d⟩
 ·omega
 rw[s0]at h ⊢;exact⟨lQ a,g,n,rfl,s1,s2,c,d,rfl,h⟩
theorem bG{g:VV}(e:VI g=0)(f:g.1.2=[])(hc:VM g.2.1.2.flatten<=76)(n:Int) :
  (VK g=[] /\ ∃ k,XC g n=((g.1,((g.2.1.1,[]),([],g.2.2.2))),(k,0))/\(k=if g.2.1.2.flatten=[]then n else n+(VM g.2.1.2.flatten:Int)+1)) \/
  (VK g≠[]/\g.2.1.2.flatten≠[]/\g.2.2.2>1000000/\XC g n=(kg,(0,5))) \/
  (VK g≠[]/\g.2.1.2.flatten≠[]/\g.2.2.2<=1000000/\XC g n=((g.1,(V1 (g.2.1.1,[]) (ca g.2.1.1 (VK g).length) [(g.2.2.2,VK g)],([],g.2.2.2+1))),(n+(VM g.2.1.2.flatten:Int)+1,0))):=by
 obtain⟨i,v,j⟩:=WF e;obtain⟨h,d⟩:=Zc e (by omega);unfold XC;by_cases a:g.2.1.2.flatten=[]
 ·have c:VK g=[]:=List.length_eq_zero_iff.1 (by rw[f,a]at d;simpa[VM]using d);refine .inl ⟨c,n,?_,by rw[zy a]⟩;rw[zy a,<- nk v a]
 rw[zx a];by_cases c:VK g=[]
 ·exact .inl ⟨c,_,by rw[zy c],by rw[zx a]⟩
 rw[zx c];by_cases b:g.2.2.2>1000000
 ·exact .inr (.inl ⟨c,a,b,by rw[zy b]⟩)
 ·exact .inr (.inr ⟨c,a,by omega,by rw[zx b]⟩)
end
section
open Go Sv
theorem dT:∀ ls:List (List VU),(VT ls).Perm ls.flatten
 |[]=>.refl _
 |rs::ls=>by
  show(rs.reverse++VT ls).Perm (rs++ls.flatten);exact(List.reverse_perm rs).append (dT ls)
theorem cA{ls:List (List VU)}{r:VU}(h:ls.flatten=[r]):VT ls=[r]:=List.perm_singleton.1 (h ▸ dT ls)
theorem iT{L:VB}(v:VLev L){r:VU}(h:L.2.flatten=[r]):0<L.2.length/\L.2[L.2.length-1]?=zo [r]:=by
 cases a:L.2.getLast? with
 |none=>rw[List.getLast?_eq_none_iff.1 a]at h;cases h
 |some rs=>
  have c:=List.mem_of_getLast? a;rw[ll]at a;have f:0<L.2.length:=List.length_pos_of_mem c;refine⟨f,a.trans (congrArg zo ?_)⟩;have d:rs≠[]:=λe=>v.last (by rw[ll,a,e])
  have hs:∀ x∈rs,x=r:=λx g=>by
   have:x∈L.2.flatten:=List.mem_flatten.2 ⟨rs,c,g⟩;rw[h]at this;simpa using this
  have b:rs.length<=1:=by
   have:rs.Sublist L.2.flatten:=by
    obtain⟨p,q,e⟩:=List.append_of_mem c;rw[e,ol,List.flatten_cons];exact(List.sublist_append_left _ _).trans (List.sublist_append_right _ _)
   have:=this.length_le;rw[h]at this;simpa using this
  match rs,d,b,hs with
  |[x],_,_,hs=>rw[hs x (by simp)]
theorem iV{f:VV}(b:VI f=0)(c:f.1.2=[]){r:VU}(h:f.2.1.2.flatten=[r]):VK f=r.2.filter VO:=by
 obtain⟨g,v,i⟩:=WF b;obtain⟨e,d⟩:=iT v.lev h;have a:=((v.lev.lev _ _ d).2 r (by simp)).vl;refine bM (Zb f) (Yz VO a.asc) λk=> ?_;rw[Zi,c,cA h,Xy VO k a.asc];show(((zn:Option U7).or ((Ve r.2 k).or zn))).filter VO=_;simp
def lh(f:VV):Bool×Int:=
 if VI f≠0 then(zf,VI f)else if f.1.2≠[]then(zf,0)else if f.2.2.1≠[]then(zf,0)else if f.2.1.2.flatten.length≠1 then(decide (f.2.1.2.flatten.length=0),0)
 else(decide (ca f.2.1.1 (VM f.2.1.2.flatten)=f.2.1.2.length-1)&&decide ((VK f).length=VM f.2.1.2.flatten),0)
theorem iQ{n:Nat}(h:0<n)(a:n<=1000):TM .i64 (n:Int) 1=((n-1:Nat):Int):=by
 simp[TM,IntKind.wrap,IntKind.bits,IntKind.signed];omega
theorem lj(l:List U7)(d:l.length<=1000000){f:Int×Int->Option (LR (Int×Int) (Nat×(Int×Int)×Unit))}
  (c:∀ s:Int×Int,f s=br (UV s.2 (l.length:Int)) (λ_=>S1 s.2 λk=>ix l k λx=>bd (W5 x) λr=>br r (λ_=>zo (.dn ((0,((s.2,s.2),()))))) λ_=>zo (.nx (s.1,TI .i64 s.2 1))) λ_=>zo (.dn ((1,(s,()))))) :
  ∃ r,loop f ((0:Int),(0:Int))=zo r/\((∃ i:Nat,r=(0,(((i:Int),(i:Int)),()))/\(l.filter VO).length≠l.length)\/((∃ s,r=(1,(s,())))/\(l.filter VO).length=l.length)):=
 Xi (l:=l) (σ:=Unit) (λk _=>((0:Int),(k:Int))) (λ_ k _=>(l.take k).filter VO=l.take k) _
  () rfl (by omega) (by simp) (λ_ h=>by
   rw[c];exact⟨(1,(((0:Int),(l.length:Int)),())),by simp only[re,TA],.inr ⟨⟨_,rfl⟩,by rw[List.take_length]at h;rw[h]⟩⟩) (λk x m g hd b hi h=>by
   rw[c];simp only;rw[rl hi,Tj,U9,Ua b];unfold W5;rw[UG];cases a:x.2.2.1 with
   |true=>
    refine .inr ⟨_,rfl,.inl ⟨k,rfl,λe=> ?_⟩⟩;have:=List.length_filter_eq_length_iff.1 e x (List.mem_of_getElem? b);simp[VO,a]at this
   |false=>
    refine .inl ⟨(),by rw[TA,VJ b (by omega)],?_⟩;rw[List.take_add_one,b]
    simp[List.filter_append,h,VO,a])
theorem fq{f:VV}(m:Sm f.2)(hc:VSt f.2->VM f.2.1.2.flatten<=2000):XW f=zo (lh f):=by
 unfold XW lh;rw[bu m,UG,Uq];by_cases b:VI f=0;rotate_left
 ·rw[zx b,zy b]
 obtain⟨w,v,y⟩:=WF b;have j:=hc v;rw[zy b,zx (by simp[b]),Um];by_cases c:f.1.2=[];rotate_left
 ·have:=dc.2 c;rw[zy (by simp only[VE,VC];omega),zy c]
 rw[zx (by simp[c,K7,AQ]),zx (by simp[c]),Um];by_cases g:f.2.2.1=[];rotate_left
 ·have:=dc.2 g;rw[zy (by simp only[VE,VC];omega),zy g]
 have d:WW f.2.1=zo ((VM f.2.1.2.flatten:Int),((f.2.1.2.flatten.length:Int),0)):=by
  rw[gn f.2.1 v.lev.small.1 v.lev.small.2,fy,zx (by simp[Xz.2 v.lev])]
 rw[zx (by simp[g,K7,AQ]),zx (by simp[g]),d,UG,Uq,zy rfl,Uq];dsimp only;by_cases l:f.2.1.2.flatten.length=1;rotate_left
 ·rw[zx (by omega),zy l,Uk,zy rfl];unfold PC;by_cases n:f.2.1.2.flatten.length=0
  ·rw[n];rfl
  ·rw[beq_eq_false_iff_ne.2 (show ¬ (f.2.1.2.flatten.length:Int)=0 by omega),decide_eq_false n]
 rw[zy (by omega),zx (by simp[l])];obtain⟨r,a⟩:=List.length_eq_one_iff.1 l;obtain⟨t,o⟩:=iT v.lev a;have p:=v.lev.len;have h:VM f.2.1.2.flatten=r.2.length:=by rw[a];simp[VM]
 have k:=iV b c a;rw[gp v.lev.B1 v.lev.B2 j,UG,VE,VC,iQ t (by omega),U9,Ua o,Ua (x:=r) rfl];refine nD (lj r.2 (by omega) λ_=>rfl) λq u=> ?_;rw[k,h];rcases u with⟨i,rfl,hd⟩|⟨⟨s,rfl⟩,hd⟩
 ·dsimp only;rw[show neq 0 0=zt from rfl,Tj,Uk,zy rfl,Uk,Sw,IG];by_cases e:ca f.2.1.1 r.2.length=f.2.1.2.length-1
  ·rw[zy (by rw[e])];simp[hd]
  ·rw[zx (by omega)];simp[e]
 ·dsimp only;rw[show neq 1 0=zf from rfl,TA,Uk,zy rfl,Uk];by_cases e:ca f.2.1.1 r.2.length=f.2.1.2.length-1
  ·rw[zy (by rw[e])];simp[hd,e,Sw,IG]
  ·rw[zx (by omega)];simp[e]
end
section
open Go Sv
theorem bL(B:Int)(n:Nat)(x:VU):V1 (B,[]) n [x]=(B,en n []++[[x]]):=by
 have a:YI [] n [x]=en n []++[[x]]:=by
  unfold YI Z7;rw[List.nil_append,show n+1-([]:List (List VU)).length=n+1 from rfl,List.replicate_succ',List.set_append_right _ _ (by simp)];simp
 have b:Zz (en n []++[[x]]) (n+1)=n+1:=by
  unfold Zz;rw[zx (by unfold VD;rw[List.getElem?_append_right (by simp)];simp)]
 show(B,ZO (YI [] n [x]))=_;rw[a];unfold ZO;rw[show(en n ([]:List VU)++[[x]]).length=n+1 from by simp,b,List.take_of_length_le (by simp)]
theorem gF(n:Nat)(x:VU)(h:1<=x.1):Wy (en n []++[[x]])=x.1:=by
 unfold Wy;rw[List.foldl_append]
 have:∀ n:Nat,(en n ([]:List VU)).foldl (λm rs=>rs.foldl (λm r=>Uz m r.1) m) (0:Int)=0:=by
  intro n
  induction n with
  |zero=>rfl
  |succ n a=>rw[List.replicate_succ];exact a
 rw[this];simp[Uz];omega
theorem kq(x:VU):∀ (n i:Nat),VF i (en n []++[[x]])=[]
 |0,i=>rfl
 |n+1,i=>by
  rw[List.replicate_succ,List.cons_append];show(if([]:List VU).length=2 then[(i:Int)]else[])++VF (i+1) _=_
  rw[kq x n];rfl
theorem eU(n:Nat)(x:VU):(en n ([]:List VU)++[[x]]).flatten=[x]:=by
 rw[ol];have:∀ n:Nat,(en n ([]:List VU)).flatten=[]:=λn=>by simp
 rw[this];rfl
theorem mJ{g:VV}(a:VI g=0):VI (g.1,((g.2.1.1,[]),([],g.2.2.2)))=0:=by
 obtain⟨b,v,c⟩:=WF a;exact nX (dv b) ⟨jJ v.lev.B1 v.lev.B2,v.n1,v.n2,by show(0:Int)<g.2.2.2;have:=v.n1;omega,rfl,λj h=>by cases h⟩ c
theorem oH{g:VV}(b:VI g=0)(hc:VM g.2.1.2.flatten<=2000-16)(f:VK g≠[])(c:g.2.2.2<=1000000) :
  VSt (V1 (g.2.1.1,[]) (ca g.2.1.1 (VK g).length) [(g.2.2.2,VK g)],(([]:List Job),g.2.2.2+1))/\VI (g.1,(V1 (g.2.1.1,[]) (ca g.2.1.1 (VK g).length) [(g.2.2.2,VK g)],([],g.2.2.2+1)))=0:=by
 obtain⟨l,v,m⟩:=WF b;obtain⟨e,i⟩:=Zc b (by omega);have o:=cy b;have a:=v.n1;obtain⟨k,_⟩:=dq v.lev.B1 v.lev.B2 e (by omega) f a c;have d:=(cb v.lev.B1 (n:=(VK g).length) (by omega)).1;have vl:=(jJ v.lev.B1 v.lev.B2).arrive d (x:=(g.2.2.2,VK g)) (by simp[VD]) k (by simp);have vl':VLev (V1 (g.2.1.1,[]) (ca g.2.1.1 (VK g).length) [(g.2.2.2,VK g)]):=by simpa[VD]using vl
 have vs:VSt (V1 (g.2.1.1,[]) (ca g.2.1.1 (VK g).length) [(g.2.2.2,VK g)],(([]:List Job),g.2.2.2+1)):=by
  refine⟨vl',by show 1<=g.2.2.2+1;omega,by show g.2.2.2+1<=1000001;omega,?_,?_,λj h=>by cases h⟩
  ·rw[bL];show Wy (en _ []++[[(g.2.2.2,VK g)]])<g.2.2.2+1;rw[gF _ _ a];simp only;omega
  ·rw[bL];exact(kq _ _ _).symm
 exact⟨vs,nX (dv l) vs m⟩
end
section
open Go Sv
theorem iU{f g:VV}(a:g.1.2=f.1.2)(b:Le g.2.1=Le f.2.1):VK g=VK f:=by
 unfold VK ej;rw[a,b]
theorem ja{f:VV}(b:VI f=0)(d:VM f.2.1.2.flatten<=60)(c:(Wd f).2.2=0):VI (Wd f).1=0/\VM (Wd f).1.2.1.2.flatten<=60/\(Wd f).1.1=f.1/\VK (Wd f).1=VK f:=by
 rcases dz b (λ_=>d)with⟨h,i⟩|⟨t,n,e,j,p,k,q,r,s,l,u⟩
 ·rw[i]at c;exact absurd c h
 obtain⟨m,o,a,g,_⟩:=d6 b d (by rw[e]);rw[e]at a;have:m=t:=(congrArg (·.1) a).symm;subst this;rw[j];exact⟨l,k,rfl,iU rfl g.2.1⟩
theorem mB{f:VV}(d:VI f=0)(h:(XN f).2=0):VK (XN f).1=VK f:=by
 obtain⟨i,v,j⟩:=WF d;rcases cF d with⟨e,a⟩|⟨_,_,a⟩|⟨_,_,_,a⟩|⟨_,c,g,b,a⟩
 ·rw[a]
 ·omega
 ·omega
 ·rw[a];refine bM (Zb _) (Zb _) λk=> ?_;rw[Zi,Zi];show((Ve [] k).or (WJ (VT (cO f.2 f.1.2).2) k)).filter VO=_;rw[nr v c b k];rfl
theorem lD{f:VV}(g:VSt f.2->VM f.2.1.2.flatten<=60)(h:(ck f).2.2=0):VK (ck f).1=VK f:=by
 have c:=lQ h
 have a:(Wd f).2.2=0:=by
  by_cases a:(Wd f).2.2=0
  ·exact a
  ·unfold ck at h;rw[zy a]at h;exact h
 have b:(XN (Wd f).1).2=0:=by
  by_cases b:(XN (Wd f).1).2=0
  ·exact b
  ·unfold ck at h;rw[zx (by simp[a]),zy b]at h;exact h
 obtain⟨d,i,j,e⟩:=ja c (g (WF c).2.1) a;unfold ck;rw[zx (by simp[a]),zx (by simp[b])];exact(mB d b).trans e
theorem fV{f:VV}(i:VSt f.2->VM f.2.1.2.flatten<=60)(h:(V8 f).2.2=0):VI (V8 f).1=0/\VM (V8 f).1.2.1.2.flatten<=76/\VK (V8 f).1=VK f/\(V8 f).1.1=(f.1.1,[]):=by
 obtain⟨o,g,n,s0,s1,s2,r,t,e1,e2⟩:=dx i h;have d:=lD i (by rw[s0]);rw[s0]at d;have b:g.1.2=[]:=by rw[s2]
 have e:=(Zc s1 (by omega)).2;rw[e1];rcases bG s1 b r n with⟨c,k,e3,_⟩|⟨_,_,_,e3⟩|⟨c,s,p,e3⟩
 ·rw[e3];refine⟨mJ s1,iz _,?_,s2⟩;rw[<- d,c];refine bM (Zb _) (l:=_) (m:=[]) (q:=none) trivial λk=> ?_;rw[Zi];show((Ve g.1.2 k).or zn).filter VO=zn;rw[b];rfl
 ·rw[e3]at e2;exact absurd e2 (by simp)
 ·have a:=(oH s1 (by omega) c p).2;rw[e3];have j:(V1 (g.2.1.1,[]) (ca g.2.1.1 (VK g).length) [(g.2.2.2,VK g)]).2.flatten=[(g.2.2.2,VK g)]:=by rw[bL];exact eU _ _
  refine⟨a,?_,?_,s2⟩
  ·show VM (V1 _ _ _).2.flatten<=76;have o:VM []=0:=rfl;rw[b,co]at e;rw[j,Wl];simp only;omega
  ·rw[iV a b j,<- d];unfold VK;rw[List.filter_filter];simp
end
section
open Go Sv
end
section
open Go Sv
end
section
open Go Sv
end
section
open Go Sv
end
section
open Go Sv
set_option maxRecDepth 100000
end
section
open Go Sv
set_option maxRecDepth 100000
end
section
open Go Sv
theorem nN{f:VV}(c:VSt f.2->VM f.2.1.2.flatten<=60)(h:(V8 f).2.2≠0):(V8 f).2.1=0:=by
 unfold V8 at h ⊢;by_cases a:(ck f).2.2=0
 ·rw[zx (by simp[a])]at h ⊢;rcases jA (lQ a) c with b|⟨g,n,s0,s1,s2,d,i⟩
  ·omega
  rw[s0]at h ⊢;rcases bG s1 (by rw[s2]) d n with⟨_,k,e2,_⟩|⟨_,_,_,e2⟩|⟨a,b,e,e2⟩
  ·rw[show((g,((n:Int),(0:Int))):VV×(Int×Int)).1=g from rfl,e2]at h;exact absurd rfl h
  ·rw[show((g,((n:Int),(0:Int))):VV×(Int×Int)).1=g from rfl,e2]
  ·rw[show((g,((n:Int),(0:Int))):VV×(Int×Int)).1=g from rfl,e2]at h;exact absurd rfl h
 ·rw[zy a]
theorem jC{s:U8}(v:VSt s)(h:s.2.1=[]):V7 s=(s,(0,0)):=by
 unfold V7;rw[zx (by simp[VH.2 v])];unfold yQ;rw[iy v h];rfl
theorem bN{g:VV}(a:VI g=0)(f:g.2.2.1=[])(e:g.1.2=[]):V8 g=XC g 0:=by
 have hs:=jC (WF a).2.1 f;have hd:=iB a hs
 have c:XN g=(g,0):=by
  rcases cF a with⟨_,d⟩|⟨b,_⟩|⟨b,_⟩|⟨b,_⟩
  ·exact d
  all_goals exact absurd e b
 have:ck g=(g,(0,0)):=by
  unfold ck;rw[hd];simp only;rw[zx (by simp),c];simp
 unfold V8;rw[this];simp
theorem mX(B:Int)(n:Nat)(h:0<n):Vn B n=2*Vn B (n-1):=by
 obtain⟨m,rfl⟩:∃ m,n=m+1:=⟨n-1,by omega⟩;simp only[Vn,Nat.add_sub_cancel,Int.pow_succ];rw[<- Int.mul_assoc,Int.mul_comm]
theorem settleTidy{f:VV}(hx:∀ rs∈f.2.1.2,∀ r∈rs,r.2.length<=9223372036854775807):Wm f=zo zt:=by
 unfold Wm;rw[nT];obtain⟨b,e,hb⟩:=uS f hx;rw[e,UG,uH];cases b with
 |true=>rfl
 |false=>
  obtain⟨m,j,hl⟩:=hb rfl;have hc:VSt f.2->VM f.2.1.2.flatten<=2000:=λv=>by have:=j v.lev;omega
  have A:VSt f.2->VM f.2.1.2.flatten<=60:=λv=>by have:=j v.lev;omega
  rw[TA,bm m A,UG,Uq];by_cases E:(V8 f).2.2=0;rotate_left
  ·rw[zx E,Uk,zy (nN A E)];rfl
  obtain⟨y,g,n,s0,s1,s2,s3,s4,e1,e2⟩:=dx A E;obtain⟨w,c2,c3,c4⟩:=fV A E;have h:=lD A (by rw[s0]);rw[s0]at h;have h:VK g=VK f:=h;have C:g.1.2=[]:=by rw[s2]
  have Y:=(WF s1).2.1;have hlg:=(Zc s1 (by omega));have i:=(WF w).2.1;have S:VSt (V8 f).1.2->VM (V8 f).1.2.1.2.flatten<=2000:=λ_=>by omega
  have c:(V8 f).1.1.2=[]:=by rw[c4]
  have hlen:(VK f).length<=56:=by
   have:=(Zc y (hc (WF y).2.1)).2;have:=cy y;have:=j (WF y).2.1.lev;omega
  rw[zy E,nB (bu m) (λy=>hc (WF y).2.1),zy y,UG,fq i.sm S,UG,cC i.lev,UG];rcases bG s1 C s3 n with⟨N,k,e3,_⟩|⟨_,_,_,e3⟩|⟨N,h2,h3,e3⟩
  ·
   have d:(V8 f).1=(g.1,((g.2.1.1,[]),([],g.2.2.2))):=by rw[e1,e3]
   have F:VK f=[]:=by rw[<- h,N]
   have z:lh (V8 f).1=(zt,0):=by
    unfold lh;rw[zx (by simp[w]),zx (by simp[c]),zx (by rw[d];simp),zy (by rw[d];simp),d];rfl
   refine(nh (x:=false) ?_).trans ?_
   ·rw[z,d,F];simp only;rw[Uq,zy rfl,Uq,zy rfl,Uq,zy rfl,Vp,Tj,Uq,zy (by rw[C];rfl),Uq,zy (by rfl)];rfl
   have P:V8 (V8 f).1=((V8 f).1,(0,0)):=by
    rw[bN w (by rw[d]) c];unfold XC;rw[zy (by rw[d];rfl)]
   rw[TA,bm i.sm (λ_=>by rw[d];exact iz _),UG,P,Uk,zx (by simp),Uk,zy (by rw[d];rfl),Uk,zy rfl,Uk,zy rfl,Uk,zy (by rw[d];rfl),yT (by rw[c];simp) (.inr i),UG,Tj];rfl
  ·rw[e3]at e2;exact absurd e2 (by simp)
  ·
   have t:VK f≠[]:=by rw[<- h];exact N
   have hpos:0<(VK f).length:=dc.2 t;have O:=Y.lev.B1;have hB2:=Y.lev.B2;have hn1:=Y.n1;obtain⟨v1,v2,v3⟩:=cb O (n:=(VK f).length) (by omega);rw[h]at e3;have d:(V8 f).1=(g.1,((g.2.1.1,en (ca g.2.1.1 (VK f).length) []++[[(g.2.2.2,VK f)]]),([],g.2.2.2+1))):=by rw[e1,e3,bL]
   generalize I:ca g.2.1.1 (VK f).length=u at *;have p:(V8 f).1.2.1.2.flatten=[(g.2.2.2,VK f)]:=by rw[d];exact eU _ _
   have J:VT (V8 f).1.2.1.2=[(g.2.2.2,VK f)]:=cA p;have D:VM (V8 f).1.2.1.2.flatten=(VK f).length:=by rw[p,Wl];rfl
   have G:(V8 f).1.2.1.2.length=u+1:=by rw[d];simp
   have M:(V8 f).1.2.1.1=g.2.1.1:=by rw[d]
   have l:(V8 f).1.2.2.1=[]:=by rw[d]
   have L:(V8 f).1.2.2.2=g.2.2.2+1:=by rw[d]
   have z:lh (V8 f).1=(zt,0):=by
    unfold lh;rw[zx (by simp[w]),zx (by simp[c]),zx (by simp[l]),zx (by rw[p];simp),D,M,I,G,c3];simp
   refine(nh (x:=false) ?_).trans ?_
   ·rw[z,J,c,l];simp only;rw[Uq,zy rfl,Uq,zy rfl,Uq,zy rfl,Vp,Tj,Uq,zy (by rfl),Uq,zy (by rfl)]
    have:Sv.beq (PC (K7 (AQ [(g.2.2.2,VK f)])) 1) (UT (K7 (AQ (VK f))) 0)=zt:=by
     rw[show UT (K7 (AQ (VK f))) 0=zt from by unfold UT;simp only[VE,VC];simp;omega];rfl
    rw[this];rfl
   have B:VSt (V8 f).1.2->VM (V8 f).1.2.1.2.flatten<=60:=λ_=>by omega
   have a:XC (V8 f).1 0=if g.2.2.2+1>1000000 then(kg,(0,5))else(((V8 f).1.1,((g.2.1.1,en u []++[[(g.2.2.2+1,VK f)]]),([],g.2.2.2+1+1))),(((VK f).length:Int)+1,0)):=by
    unfold XC;rw[zx (by rw[p];simp),c3,zx t,L];split
    ·rfl
    ·rw[M,I,bL,D];simp
   rw[TA,bm i.sm B,UG,Uk,bN w l c,a];by_cases q:g.2.2.2+1>1000000
   ·rw[zy q,zy rfl];rfl
   have Z:=(fV B (by rw[bN w l c,a,zx q])).1;rw[bN w l c,a,zx q]at Z;have X:VLev (g.2.1.1,en u []++[[(g.2.2.2+1,VK f)]]):=(WF Z).2.1.lev;have K:VT (en u []++[[(g.2.2.2+1,VK f)]])=[(g.2.2.2+1,VK f)]:=cA (eU _ _)
   have W:TM .i64 ((u+1:Nat):Int) 1=(u:Int):=by
    have:=iQ (n:=u+1) (by omega) (by omega);simpa using this
   have hS:=ij i.lev v1;rw[M]at hS;have o:(VK f).length<=1000000:=by omega
   rw[zx q,zx (by simp),J,Uk,zx (by simp[K7,AQ])];simp only[VE,VC,G,W,M];rw[hS,UG];refine(nh (x:=false) ?_).trans ?_
   ·dsimp only;rw[Uq,zy rfl,Uq,zy rfl,Uq,VG (by omega),zy (by simp),Ua (x:=(g.2.2.2,VK f)) rfl,ff _ o,UG,Vp,Tj,Um,zx (by omega),Um]
    have s:Sx g.2.2.2 (TM .i64 (V8 f).1.2.2.2 1)=zf:=by
     rw[L];have:TM .i64 (g.2.2.2+1) 1=g.2.2.2:=by simp[TM,IntKind.wrap,IntKind.bits,IntKind.signed];omega
     rw[this];simp[Sx]
    split
    ·rename_i hn0
     have U:TJ .i64 2 ((VK f).length:Int)=2*((VK f).length:Int):=by
      simp[TJ,IntKind.wrap,IntKind.bits,IntKind.signed];omega
     have:=v3 (u-1) (by omega);rw[Un,U,zx (by rw[mX _ _ (by omega)];omega),Ua (x:=(g.2.2.2,VK f)) rfl,s]
    ·rw[Ua (x:=(g.2.2.2,VK f)) rfl,s]
   ·rw[TA,cC X,UG,Uk,zy rfl,K,Uk,zy (by rfl),Ua (x:=(g.2.2.2+1,VK f)) rfl,ff _ o,UG,Tj,Ua (x:=(g.2.2.2+1,VK f)) rfl,Ua (x:=(g.2.2.2,VK f)) rfl,Uk,zy (by rw[To (by omega)]),Uk,zy ?_]
    ·rfl
    ·rw[VG (by omega)];simp
theorem jt{x:VV}(h:Ry [(zt,.pair (.pair (.int .i64) (.sl zt tE)) tJb)] x):Wm x=zo zt:=settleTidy (za h.2)
end
section
open Go Sv
def YK(x:(List U7)):Option Int:=
 bd (loop (λs0=>br (UV s0.2 (K7 (AQ x))) (λ_=>S1 s0.2 λc=>ix x c λd=>bd (Vx d) λa=>br (Sx a 0) (λ_=>zo (.dn ((0,((a,s0.2),()))))) λ_=>zo (.nx (s0.1,TI .i64 s0.2 1))) λ_=>zo (.dn ((1,(s0,()))))) (0,0)) λb=>br (neq b.1 0) (λ_=>zo b.2.1.1) λ_=>zo 0
def Xl(x:((List UInt8)×(List UInt8))):Option Int:=
 zo (Uu x.1 x.2)
def W1(x:Int):Option Bool:=
 zo (Sx x x)
def Wc(x:(Int×Int)):Option Int:=
 bd (W1 x.1) λb=>bd (W1 x.2) λa=>br b (λ_=>br a (λ_=>zo 0) λ_=>zo (-1)) λ_=>br a (λ_=>zo 1) λ_=>br (UV x.1 x.2) (λ_=>zo (-1)) λ_=>br (UT x.1 x.2) (λ_=>zo 1) λ_=>zo 0
def XS(x:(Unit×(U7×U7))):Option Int:=
 bd (Xl (x.2.1.1,x.2.2.1)) λa=>bd (Wc (x.2.2.2.2.2,x.2.1.2.2.2)) λb=>bd (We ([a,b])) λc=>zo c
def Xj(x:(U7×U7)):Option (Int×Int):=
 bd (YK ([x.1,x.2])) λa=>br (Sx a 0) (λ_=>zo (0,a)) λ_=>bd (XS (((),x))) λb=>zo (b,0)
def Y6(x:(U7×U7)):Option Int:=
 bd (Xj x) λa=>zo a.1
end
section
open Go Sv
def uL(x y:U7):Int:=if Uu x.1 y.1=0 then(if y.2.2.2<x.2.2.2 then -1 else if y.2.2.2>x.2.2.2 then 1 else 0)else Uu x.1 y.1
theorem uz{x:U7}(h:Ur x=zt):kE x=0:=by
 unfold Ur at h;simp only[q0,decide_eq_true_eq,xo,Bool.and_eq_false_iff,Bool.not_eq_false']at h;unfold kE;obtain⟨d,e,h3,f,g⟩:=h
 have b:¬ (x.2.2.1=zt/\x.2.1≠[]):=by
  rintro⟨a,c⟩;rcases h3 with h3|h3
  ·rw[h3]at a;cases a
  ·exact c (by simpa using h3)
 repeat' split
 all_goals first|rfl|omega|(exfalso;exact b (by assumption))
theorem yU(a b:YF):Uu a b<0<->TZ a b=zt:=by
 unfold Uu TZ;cases Op.bytesLess a b with
 |true=>simp
 |false=>cases a == b<;>simp
theorem i9(a b:YF):Uu a b=0<->a=b:=by
 unfold Uu;cases h:Op.bytesLess a b with
 |true=>exact⟨λe=>by simp at e,λe=>absurd e (ai h)⟩
 |false=>
  cases c:a == b with
  |true=>simpa using c
  |false=>simpa using c
theorem nJ(x y:U7):uL x y<0<->TZ x.1 y.1=zt\/(x.1=y.1/\y.2.2.2<x.2.2.2):=by
 unfold uL;by_cases h:Uu x.1 y.1=0
 ·rw[zy h];have a:=(i9 _ _).1 h;have c:TZ x.1 y.1=zf:=by rw[a];exact X4 _
  rw[c];by_cases b:y.2.2.2<x.2.2.2
  ·rw[zy b];exact⟨λ_=>.inr ⟨a,b⟩,λ_=>by decide⟩
  ·rw[zx b];refine⟨λh=> ?_,λh=> ?_⟩
   ·split at h<;>omega
   ·rcases h with h|h
    ·cases h
    ·exact absurd h.2 b
 ·rw[zx h,yU];have a:¬ x.1=y.1:=λe=>h ((i9 _ _).2 e);simp[a]
theorem uF{x y:U7}(a:Ur x=zt)(b:Ur y=zt):YK [x,y]=zo 0:=by
 unfold YK;refine Va (x:=(1,((0,2),()))) (WM (s1:=(0,1)) (s2:=(0,2)) ?_ ?_ ?_) rfl
 ·exact(bh 0 rfl rfl rfl).trans (by rw[XF,uz a,UG];rfl)
 ·exact(bh 1 rfl rfl rfl).trans (by rw[XF,uz b,UG];rfl)
 ·rfl
theorem yK(a b:Int):We [a,b]=zo (if a=0 then b else a):=by
 unfold We;by_cases c:a=0
 ·rw[zy c];by_cases d:b=0
  ·refine Va (x:=(1,((0,2),()))) (WM (s1:=(0,1)) (s2:=(0,2)) ?_ ?_ ?_) (by subst d;rfl)
   ·exact(bh 0 rfl rfl rfl).trans (by subst c;rfl)
   ·exact(bh 1 rfl rfl rfl).trans (by subst d;rfl)
   ·rfl
  ·refine Va (x:=(0,((b,1),()))) (WK (n:=2) (by omega) ((Vf (s':=(0,1)) ?_).trans (Vm ?_))) rfl
   ·exact(bh 0 rfl rfl rfl).trans (by subst c;rfl)
   ·refine(bh 1 rfl rfl rfl).trans ?_;rw[Uq,zx d]
 ·rw[zx c];refine Va (x:=(0,((a,0),()))) (WK (n:=1) (by omega) (Vm ?_)) rfl;refine(bh 0 rfl rfl rfl).trans ?_;rw[Uq,zx c]
theorem cmp_ok(a b:Int):Wc (a,b)=zo (if a<b then -1 else if a>b then 1 else 0):=by
 unfold Wc W1;simp only[UG];rw[Uq,zy rfl,Uq,zy rfl,Uo,Um];split
 ·rfl
 ·split<;>rfl
theorem m6{x y:U7}(a:Ur x=zt)(b:Ur y=zt):Y6 (x,y)=zo (uL x y):=by
 unfold Y6 Xj XS Xl;simp only[UG];rw[uF a b,UG,Uq,zy rfl,cmp_ok,UG,yK,UG,UG,UG];rfl
theorem fM(a:U7):∀ l,(Q7 a l).Perm (a::l)
 |[]=>.refl _
 |b::l=>by
  unfold Q7;cases Op.bytesLess a.1 b.1 with
  |true=>exact .refl _
  |false=>exact((fM a l).cons b).trans (.swap a b l)
theorem dQ:∀ l,(J5 l).Perm l
 |[]=>.refl _
 |a::l=>(fM a _).trans ((dQ l).cons a)
theorem iC:∀ {l:List U7},SB l=zt->(l.map (·.1)).Nodup
 |[],_=>.nil
 |a::l,h=>by
  simp only[SB,q0,xo]at h;rw[hI,li];refine⟨λd=> ?_,iC h.2⟩;obtain⟨b,c,e⟩:=i0.1 d;have:=(List.any_eq_false.1 h.1) b c;simp[e]at this
theorem dO(a:U7):∀ {l:List U7},(∀ x∈l,x.1≠a.1)->(l.Pairwise λx y=>TZ x.1 y.1=zt)->(Q7 a l).Pairwise λx y=>TZ x.1 y.1=zt
 |[],_,_=>.cons (λ_ h=>by cases h) .nil
 |b::l,h1,h2=>by
  unfold Q7;obtain⟨d,f⟩:=List.pairwise_cons.1 h2;cases c:Op.bytesLess a.1 b.1 with
  |true=>
   refine .cons (λx hx=> ?_) h2;rcases List.mem_cons.1 hx with rfl|hx
   ·exact c
   ·exact XO c (d x hx)
  |false=>
   refine .cons (λx hx=> ?_) (dO a (λx hx=>h1 x (.tail _ hx)) f);rcases(d7 a x).1 hx with rfl|hx
   ·exact aj c λe=>h1 b (.head _) e.symm
   ·exact d x hx
theorem bZ:∀ {l:List U7},(l.map (·.1)).Nodup->(J5 l).Pairwise λx y=>TZ x.1 y.1=zt
 |[],_=>.nil
 |a::l,h=>by
  rw[hI,li]at h;exact dO a (λx b e=>h.1 (i0.2 ⟨x,(aR x).1 b,e⟩)) (bZ h.2)
theorem lq(l l':List U7)(h:Rr l=zo l'):l.length<4611686018427387904/\(∀ x∈l,Ur x=zt) /\ ∀ m:List U7,m.Perm l->(m.Pairwise λa b=>¬ uL b a<0)->m=l':=by
 unfold Rr at h;cases c:(l.all Ur&&SB l)&&Nat.ble l.length 1048576 with
 |false=>rw[c]at h;cases h
 |true=>
  rw[c]at h;cases h;simp only[q0]at c;have j:=iC c.1.2;refine⟨by have:=Nat.le_of_ble_eq_true c.2;omega,List.all_eq_true.1 c.1.1,λm k n=> ?_⟩;have d:(m.map (·.1)).Nodup:=((k.map (λx:U7=>x.1)).nodup_iff).2 j
  have i:m.Pairwise λa b=>a.1≠b.1:=by
   unfold List.Nodup at d
   rwa [List.pairwise_map]at d
  have g:m.Pairwise λx y=>TZ x.1 y.1=zt:=(n.and i).imp fun {a b} ⟨e,f⟩=>by
   rw[nJ]at e;rcases bV a.1 b.1 with h|h|h
   ·exact h
   ·exact absurd h f
   ·exact absurd (.inl h) e
  exact List.Perm.eq_of_pairwise (λa b _ _ e f=>by rw[WQ e]at f;cases f) g (bZ j) (k.trans (dQ l).symm)
end
end Go.Proofs.YtoefnfbpoabinabGreatDoor.Pl
