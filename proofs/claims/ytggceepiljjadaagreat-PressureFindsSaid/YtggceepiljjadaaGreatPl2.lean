/- Functions of the program and of the specification as plain functions, and laws about them. No condition. -/
import Derived.Test.YtggceepiljjadaaGreatPl1
import Derived.KernelRfl
set_option linter.all false
open List renaming Sublist->s9, append_assoc->ed, append_nil->fl, drop_eq_getElem_cons->ml, filter_cons->sp, find?_append->xn, find?_cons->iz, find?_eq_none->xk, find?_some->yk, flatten_append->rz, flatten_cons->sa, flatten_eq_nil_iff->vL, foldl_cons->gq, getElem?_eq_getElem->ci, getElem?_eq_none->a9, getElem?_eq_some_iff->a8, getElem?_map->tk, getElem?_of_mem->en, getElem?_take->lc, getLast?_eq_getElem?->nb, length->kd, length_append->gl, length_cons->cP, length_drop->x6, length_map->o3, length_nil->dc, length_pos_iff->eb, length_set->pg, length_take->hM, map_append->s5, mem_append->nm, mem_append_right->sr, mem_cons->ee, mem_flatten->l6, mem_map->ox, mem_of_find?_eq_some->vv, mem_of_getElem?->co, mem_singleton->rY, nil_append->gs, nodup_append->sk, nodup_cons->oj, replicate->yo, set_eq_take_append_cons_drop->s8, take_add_one->iP, take_append->x8, take_append_drop->li, take_left->yr, take_left'->ym, take_of_length_le->eo, take_zero->yv
open Nat renaming add_comm->F2, add_sub_cancel_left->wl, beq->TT, blt->ya, le_refl->eg, sub_zero->mg, zero_add->ey, zero_le->ll
open Int renaming toNat_natCast->bl
open Option renaming filter->ol, getD_none->xl, getD_some->gM, none_or->l4, or_assoc->hV, toList_some->xb
namespace Go.Proofs.YtggceepiljjadaaGreat.Pl
section
open Go Sv
def UD(L:Te)(j:Job):Nat:=match L.2[j.1.toNat]? with
 |some [r0,r1]=>r1.2.length+r0.2.length-j.2.2.2.2.toNat
 |_=>0
def V7(L:Te)(j:Job):Bool:=decide ((j.2.2.2.1.length:Int)<=Uf L.1 j.1.toNat)
def Yj(L:Te)(n:Nat):Bool:=decide (n<12/\((L.2[n]?).getD []).length<2)
def V9(L:Te)(j:Job):Bool:=decide (0<UD L j)||(V7 L j||Yj L (j.1.toNat+1))
def bZ(s:Tb)(a:Int):Option Job:=match Z3 a 0 (Tj 0 s.1.2)with
 |some i=>s.2.1[i]?
 |none=>none
theorem VSt.at{s:Tb}(v:VSt s){a:Int}{i:Nat}(h:Z3 a 0 (Tj 0 s.1.2)=some i):∃ (j:Job) (n:Nat),s.2.1[i]?=some j/\a=(n:Int)/\j.1=(n:Int)/\JobAt s.1 n j/\n<s.1.2.length:=by
 obtain⟨_,b⟩:=eL h;rw[mg]at b;rw[<- v.due,tk]at b;cases c:s.2.1[i]? with
 |none=>rw[c]at b;cases b
 |some j=>
  rw[c]at b;simp only[Option.map_some,Option.some.injEq]at b;obtain⟨n,g⟩:=v.job j (co c);have d:=g;obtain⟨o,p,m,k,l,e,_⟩:=g;have f:j.1=(n:Int):=by rw[e]
  exact⟨j,n,rfl,by rw[<- b,f],f,d,(a8.1 l).1⟩
theorem JobAt.left{L:Te}{n:Nat}{j:Job}(h:JobAt L n j):Ug j.2=some ((UD L j:Int),0)/\US j.2=some ((UD L j:Int),0)/\UD L j<=10000:=by
 obtain⟨b,c,a,k,i,rfl,g,_,d,f⟩:=h;have l:=d.len;have m:=f.len
 have e:UD L ((n:Int),VU c.2 b.2 a k)=c.2.length+b.2.length-k:=by
  unfold UD;simp only[bl,i];show c.2.length+b.2.length-((k:Int)).toNat=_;rw[bl]
 rw[e];exact⟨aY f d a g,Zs f d a g,by omega⟩
theorem iT{L:Te}(v:VLev L){n:Nat}(c:n<12):XV (L.1,(n:Int))=some (Uf L.1 n,0):=by
 have a:=v.B1;have b:=v.B2;unfold XV;rw[TH,if_neg (by omega),TF,if_neg (by omega),TH,if_neg (by omega),TE,if_neg (by omega),aN a b (by omega)];have:Rv (n:Int) 0=true:=by unfold Rv;simp
 rw[this];rfl
theorem kZ{L:Te}(v:VLev L){n:Nat}(c:n<12):Yr (L.1,(n:Int))=some (Uf L.1 n,0):=by
 have a:=v.B1;have b:=v.B2;unfold Yr;rw[TH,if_neg (by omega),TF,if_neg (by omega),TH,if_neg (by omega),TE,if_neg (by omega),dw a b (by omega),Sn]
theorem cj{L:Te}(v:VLev L)(k:Int):Wy (L,k)=some (if k<0\/k>=12 then 7 else 0):=by
 obtain⟨c,d⟩:=v.small;unfold Wy;rw[Zo _ c d,XN v,Sn,TI,if_pos rfl,TH,TE];by_cases a:k<0
 ·rw[if_pos a,if_pos (.inl a)]
 ·rw[if_neg a];by_cases b:k>=12
  ·rw[if_pos b,if_pos (.inr b)]
  ·rw[if_neg b,if_neg (by omega)]
theorem kL(l:List UA):Sz (l.length:Int) 2=decide (l.length<2):=by
 unfold Sz;rw[decide_eq_decide];omega
theorem aU{L:Te}(v:VLev L){n:Nat}(d:n<=12):U7 (L,(n:Int))=some (Yj L n,if n>=12 then 7 else 0):=by
 unfold U7 Yj;simp only[Tf,Td];rw[cj v,Sn,TI];by_cases h:n>=12
 ·rw[if_pos (show(n:Int)<0\/(n:Int)>=12 by omega),if_neg (by decide),if_pos h];simp;omega
 ·rw[if_neg (show ¬ ((n:Int)<0\/(n:Int)>=12) by omega),if_pos rfl,if_neg h,TH];have a:n<12:=by omega
  by_cases c:n<L.2.length
  ·have b:L.2[n]?=some (L.2[n]'c):=by simp
   rw[if_pos (by omega),Ta,S4 b,b,kL,gM];simp[a]
  ·rw[if_neg (by omega),a9 (by omega)];simp[a]
theorem kj{s:Tb}(v:VLev s.1){n:Nat}(c:n<12):Yv (s,(n:Int))=some (Yj s.1 (n+1)):=by
 unfold Yv Yj;simp only[Tf,Td];rw[Ti (by omega),TH];by_cases h:n+1<12
 ·rw[if_pos (by omega),TE];by_cases b:n+1<s.1.2.length
  ·have a:s.1.2[n+1]?=some (s.1.2[n+1]'b):=by simp
   rw[if_neg (by omega),Ta,S4 a,a,kL,gM];simp[h]
  ·rw[if_pos (by omega),a9 (by omega)];simp[h]
 ·rw[if_neg (by omega)];simp;omega
abbrev wA:=Tb×(Job×Int)
theorem bX{s:Tb}(v:VLev s.1){n:Nat}{j:Job}(a:j.1=(n:Int))(b:n<12)(l:Int):UX (s,(j,l))=some (V7 s.1 j):=by
 unfold UX V7;simp only[Tf,Td];rw[a,iT v b,Sn,TD,if_pos rfl,bl];rfl
theorem cN{s:Tb}(v:VLev s.1){n:Nat}{j:Job}(a:j.1=(n:Int))(b:n<12):Wm (s,j)=some (V7 s.1 j):=by
 unfold Wm V7;simp only[Tf,Td];rw[a,kZ v b,Sn,bl];rfl
theorem kg{s:Tb}(v:VLev s.1){n:Nat}{j:Job}(a:j.1=(n:Int))(b:n<12)(l:Int):VW (s,(j,l))=some (Yj s.1 (n+1)):=by
 unfold VW;simp only;rw[a,Ti (by omega),aU v (by omega),Sn,TD];by_cases h:n+1>=12
 ·rw[if_pos h,if_neg (show ¬ (7:Int)=0 by decide)];unfold Yj;simp;omega
 ·rw[if_neg h,if_pos rfl]
theorem cW{s:Tb}(v:VLev s.1){n:Nat}{j:Job}(a:j.1=(n:Int))(b:n<12)(l:Nat)(d:l=UD s.1 j):Ud (s,(j,(l:Int)))=some (V9 s.1 j):=by
 have c:UO (s,(j,(l:Int)))=some (decide (0<UD s.1 j)):=by
  unfold UO Sx;rw[d];simp
 have e1:=bX v a b (l:Int);have e2:=kg v a b (l:Int);unfold Ud V9;rw[c,e1,e2,a,bl];simp only[Sn];cases e:decide (0<UD s.1 j)with
 |true=>exact Tv (x:=(0,((0,true),()))) (U1 (n:=1) (by omega) (UT rfl)) rfl
 |false=>
  cases f:V7 s.1 j with
  |true=>exact Tv (x:=(0,((1,true),()))) (U1 (n:=2) (by omega) ((UL (s':=(1,false)) rfl).trans (UT rfl))) rfl
  |false=>
   cases g:Yj s.1 (n+1)with
   |true=>exact Tv (x:=(0,((2,true),()))) (U1 (n:=3) (by omega) ((UL (s':=(1,false)) rfl).trans ((UL (s':=(2,false)) rfl).trans (UT rfl)))) rfl
   |false=>exact Tv (x:=(1,((3,false),()))) (U1 (n:=4) (by omega) ((UL (s':=(1,false)) rfl).trans ((UL (s':=(2,false)) rfl).trans ((UL (s':=(3,false)) rfl).trans (UT rfl))))) rfl
end
section
open Go Sv
def W3{α:Type}(z:α)(f:Tb->Job->α×Int)(s:Tb)(a:Int):α×Int:=if(Tc s).2≠0 then(z,(Tc s).2)else match bZ s a with
 |some j=>f s j
 |none=>(z,4)
def z0:wA:=(((0,[]),([],0)),((0,(([],([],([],([],0)))),((false,([],false)),([],0)))),0))
theorem dB{s:Tb}(m:Sm s)(a:Int):VG (s,a)=some (W3 z0 (λs j=>((s,(j,(UD s.1 j:Int))),0)) s a):=by
 unfold VG;rw[gJ m,Sn];unfold W3 bZ YY;by_cases b:(Tc s).2=0;rotate_left
 ·rw[if_pos b,TI,if_neg b,if_pos b];rfl
 rw[if_neg (show ¬ (Tc s).2≠0 by simp[b]),if_neg (show ¬ (Tc s).2≠0 by simp[b])];have v:=Tl.1 b;cases e:Z3 a 0 (Tj 0 s.1.2)with
 |none=>rfl
 |some i=>
  obtain⟨j,n,c,g,f,d,h⟩:=v.at e;simp only;rw[TI,if_pos rfl,Ta,S4 c,c,(JobAt.left d).1,Sn]
theorem sQ{s:Tb}(m:Sm s)(a:Int):XU (s,a)=some (W3 false (λs j=>(V9 s.1 j,0)) s a):=by
 unfold XU;rw[dB m,Sn];unfold W3;by_cases b:(Tc s).2=0;rotate_left
 ·rw[if_pos b,TI,if_neg b,if_pos b]
 rw[if_neg (show ¬ (Tc s).2≠0 by simp[b]),if_neg (show ¬ (Tc s).2≠0 by simp[b])];have v:=Tl.1 b;unfold bZ;cases d:Z3 a 0 (Tj 0 s.1.2)with
 |none=>rfl
 |some i=>
  obtain⟨j,n,e,g,c,f,h⟩:=v.at d;have:=v.lev.len;simp only[e];rw[TI,if_pos rfl,cW v.lev c (by omega) _ rfl,Sn]
theorem Zb{s:Tb}(m:Sm s)(a:Int):Va (s,a)=some (W3 0 (λs j=>((UD s.1 j:Int),0)) s a):=by
 unfold Va;rw[ZT m,Sn];unfold W3 bZ YY;by_cases b:(Tc s).2=0;rotate_left
 ·rw[if_pos b,TI,if_neg b,if_pos b]
 rw[if_neg (show ¬ (Tc s).2≠0 by simp[b]),if_neg (show ¬ (Tc s).2≠0 by simp[b])];have v:=Tl.1 b;cases e:Z3 a 0 (Tj 0 s.1.2)with
 |none=>rfl
 |some i=>
  obtain⟨j,n,c,g,f,d,h⟩:=v.at e;simp only[c];rw[TI,if_pos rfl,Ta,S4 c,(JobAt.left d).2.1,Sn]
theorem cm{s:Tb}(m:Sm s)(a:Int):W0 (s,a)=some (W3 false (λs j=>(V9 s.1 j,0)) s a):=by
 unfold W0;rw[Zb m,Sn,ZT m,Sn];unfold W3;by_cases b:(Tc s).2=0;rotate_left
 ·rw[if_pos b,TI,if_neg b,if_pos b]
 rw[if_neg (show ¬ (Tc s).2≠0 by simp[b]),if_neg (show ¬ (Tc s).2≠0 by simp[b])];have v:=Tl.1 b;unfold bZ YY;cases f:Z3 a 0 (Tj 0 s.1.2)with
 |none=>rfl
 |some i=>
  obtain⟨j,n,e,g,c,h,k⟩:=v.at f;have:=v.lev.len;rw[if_neg (show ¬ (Tc s).2≠0 by simp[b])];simp only[e];rw[TI,if_pos rfl,TF,Ta,S4 e,cN v.lev c (by omega),Sn,g,kj v.lev (by omega),Sn];unfold V9;rw[c,bl];by_cases d:0<UD s.1 j
  ·rw[if_pos (by omega)];simp[d]
  ·rw[if_neg (by omega)];cases V7 s.1 j<;>simp[d,SW,R5]
def aF(s:Tb)(j:Job):Int×Int:=if 0<UD s.1 j then(0,9)else if V7 s.1 j=true then(j.1,0)else(j.1+1,0)
theorem tT{s:Tb}(m:Sm s)(a:Int):Ya (s,a)=some (W3 0 aF s a):=by
 unfold Ya;rw[dB m,Sn];unfold W3;by_cases b:(Tc s).2=0;rotate_left
 ·rw[if_pos b,TI,if_neg b,if_pos b]
 rw[if_neg (show ¬ (Tc s).2≠0 by simp[b]),if_neg (show ¬ (Tc s).2≠0 by simp[b])];have v:=Tl.1 b;unfold bZ;cases f:Z3 a 0 (Tj 0 s.1.2)with
 |none=>rfl
 |some i=>
  obtain⟨j,n,g,h,c,k,l⟩:=v.at f;have:=v.lev.len;simp only[g];unfold UO aF;rw[TI,if_pos rfl,Sn,TF,bX v.lev c (by omega),Sn,h,Ti (by omega),c];by_cases e:0<UD s.1 j
  ·rw[if_pos (show((UD s.1 j:Int))>0 by omega),if_pos e]
  ·rw[if_neg (show ¬ ((UD s.1 j:Int))>0 by omega),if_neg e,TL];by_cases d:V7 s.1 j=true
   ·rw[if_pos d,if_pos d]
   ·rw[if_neg d,if_neg d];rfl
theorem eY{s:Tb}(m:Sm s)(a:Int):X8 (s,a)=some (W3 0 aF s a):=by
 unfold X8;rw[Zb m,Sn,ZT m];unfold W3;by_cases b:(Tc s).2=0;rotate_left
 ·rw[if_pos b,TD,if_neg b,TI,if_neg b,if_pos b]
 rw[if_neg (show ¬ (Tc s).2≠0 by simp[b]),if_neg (show ¬ (Tc s).2≠0 by simp[b])];have v:=Tl.1 b;unfold bZ YY;cases g:Z3 a 0 (Tj 0 s.1.2)with
 |none=>rfl
 |some i=>
  obtain⟨j,n,f,h,c,k,l⟩:=v.at g;have:=v.lev.len;rw[if_neg (show ¬ (Tc s).2≠0 by simp[b])];simp only[f];unfold aF;rw[TD,if_pos rfl,TF];by_cases e:0<UD s.1 j
  ·rw[if_pos (show((UD s.1 j:Int))>0 by omega),if_pos e]
  ·rw[if_neg (show ¬ ((UD s.1 j:Int))>0 by omega),if_neg e,TI,if_pos rfl,Sn,Ta,S4 f,cN v.lev c (by omega),Sn,TL,h,Ti (by omega),c];by_cases d:V7 s.1 j=true
   ·rw[if_pos d,if_pos d]
   ·rw[if_neg d,if_neg d];rfl
theorem qA{s:Tb}(m:Sm s):W5 s=some (if(Tc s).2≠0 then([],(Tc s).2)else(Tj 0 s.1.2,0)):=by
 unfold W5;simp only[Tf,Td];rw[uI m,Sn,TI];by_cases a:(Tc s).2=0;rotate_left
 ·rw[if_neg a,if_pos a]
 rw[if_pos a,if_neg (show ¬ (Tc s).2≠0 by simp[a])];have f:=(Tl.1 a).lev.len
 rw[U4 (l:=s.1.2) (σ:=List Int) (s:=((0:Int),([]:List Int))) (λi m=>((i:Int),m)) (λls i m=>m++Tj i ls=Tj 0 s.1.2) (λ_ _ _=>(0,(((s.1.2.length:Int),Tj 0 s.1.2),()))) [] rfl (by omega) rfl (λm h=>by
  simp only;rw[re,R5,<- h];simp[Tj]) (λi rs ls m e c hi h=>by
   refine⟨m++(if rs.length=2 then[(i:Int)]else[]),?_,?_,rfl⟩
   ·simp only;rw[rl hi,SW,Ta,S4 c,TD]
    have g:m.length<=1000:=by
     have b:=congrArg kd h;have d:=Vn s.1.2 0;rw[gl]at b;omega
    by_cases b:rs.length=2
    ·rw[if_pos (by omega),if_pos b,Tk (by simp only[BF,cP,dc];omega),Tn c (by omega)];rfl
    ·rw[if_neg (by omega),if_neg b,fl,Tn c (by omega)]
   ·rw[ed];exact h),Sn]
def Vo(s:Tb):List Int->Option Int
 |[]=>none
 |d::l=>if(W3 false (λs j=>(V9 s.1 j,0)) s d).1=true then some d else Vo s l
def Vc(s:Tb):Int×Int:=if(Tc s).2≠0 then(0,(Tc s).2)else if Tj 0 s.1.2=[]then(0,4)else match Vo s (Tj 0 s.1.2)with
 |some d=>(d,0)
 |none=>(0,9)
theorem VSt.atDue{s:Tb}(v:VSt s){d:Int}(h:d∈Tj 0 s.1.2):∃ (j:Job) (n:Nat),bZ s d=some j/\d=(n:Int)/\j.1=(n:Int)/\JobAt s.1 n j/\n<s.1.2.length:=by
 obtain⟨i,b⟩:=cZ (k:=0) h;obtain⟨j,n,e,f,a,c,g⟩:=v.at b;exact⟨j,n,by unfold bZ;rw[b];exact e,f,a,c,g⟩
theorem pU{s:Tb}(m:Sm s):VP s=some (Vc s):=by
 unfold VP Vc;rw[qA m,Sn];by_cases a:(Tc s).2=0;rotate_left
 ·rw[if_pos a,TI,if_neg a,if_pos a]
 rw[if_neg (show ¬ (Tc s).2≠0 by simp[a]),if_neg (show ¬ (Tc s).2≠0 by simp[a]),TI,if_pos rfl];have v:=Tl.1 a;have z:(Tj 0 s.1.2).length<=12:=by have:=Vn s.1.2 0;have:=v.lev.len;omega
 simp only[Tf,Td];rw[TD];by_cases b:Tj 0 s.1.2=[]
 ·rw[if_pos (by rw[b];rfl),if_pos b]
 rw[if_neg (by have:=eb.2 b;omega),if_neg b];obtain⟨T,q⟩:∃ T,T=Vo s (Tj 0 s.1.2):=⟨_,rfl⟩;rw[<- q]
 obtain⟨r,C,u⟩:=Vy (l:=Tj 0 s.1.2) (σ:=Unit) (s:=((0:Int),(false,((0:Int),(0:Int))))) (λk _=>((0:Int),(false,((k:Int),(0:Int))))) (λl k _=>Vo s l=T) (λ(r:Nat×((Int×(Bool×(Int×Int)))×Unit))=>r.1=1/\((T=none/\r.2.1.2.1=false)\/(∃ d,T=some d/\r.2.1.2.1=true/\r.2.1.2.2.2=d)))
  (f:=λs1=>br (Sz s1.2.2.1 ((Tj 0 s.1.2).length:Int)) (λ_=>Rz s1.2.2.1 λB=>ix (Tj 0 s.1.2) B λw=>bd (VG (s,w)) λp=>br (Rw p.2 0) (λ_=>some (.dn ((0,((p.2,(s1.2.1,(s1.2.2.1,0))),()))))) λ_=>bd (Ud p.1) λE=>br E (λ_=>some (.dn ((1,((s1.1,(true,(s1.2.2.1,w))),()))))) λ_=>some (.nx ((s1.1,(s1.2.1,(SC .i64 s1.2.2.1 1,s1.2.2.2)))))) λ_=>some (.dn ((1,(s1,())))))
  () rfl (by omega) q.symm (λ_ h=>⟨_,by simp only;rw[re];rfl,rfl,.inl ⟨by rw[<- h];rfl,rfl⟩⟩) (λk d l _ G i A h=>by
   simp only;obtain⟨j,n,t,I,g,F,b⟩:=v.atDue (co i);have:=v.lev.len;unfold Vo at h;have x:W3 false (λs j=>(V9 s.1 j,0)) s d=(V9 s.1 j,0):=by unfold W3;rw[if_neg (show ¬ (Tc s).2≠0 by simp[a]),t]
   have y:W3 z0 (λs j=>((s,(j,(UD s.1 j:Int))),0)) s d=((s,(j,(UD s.1 j:Int))),0):=by unfold W3;rw[if_neg (show ¬ (Tc s).2≠0 by simp[a]),t]
   rw[x]at h;rw[rl A,SW,Ta,S4 i,dB m,y,Sn,TI,if_pos rfl,cW v.lev g (by omega) _ rfl,Sn,TL];by_cases e:V9 s.1 j=true
   ·rw[if_pos e];rw[if_pos e]at h;exact .inr ⟨_,rfl,rfl,.inr ⟨d,h.symm,rfl,rfl⟩⟩
   ·rw[if_neg e];rw[if_neg e]at h
    exact .inl ⟨(),by rw[Tn i (by omega)],h⟩)
 refine Tv C ?_;obtain⟨u,c⟩:=u;rw[So,if_neg (show ¬ r.1=0 by omega),UI,TL];rcases c with⟨c,o⟩|⟨d,c,o,D⟩
 ·rw[if_neg (by simp[o]),c]
 ·rw[if_pos o,c,D]
theorem iW{s:Tb}(m:Sm s):Yt s=some (Vc s):=by
 unfold Yt Vc;rw[dt m,Sn];by_cases a:(Tc s).2=0;rotate_left
 ·rw[if_pos a,TI,if_neg a,if_pos a]
 rw[if_neg (show ¬ (Tc s).2≠0 by simp[a]),if_neg (show ¬ (Tc s).2≠0 by simp[a]),TI,if_pos rfl];have v:=Tl.1 a;have o:(Tj 0 s.1.2).length<=12:=by have:=Vn s.1.2 0;have:=v.lev.len;omega
 simp only[Tf,Td];rw[TD];by_cases b:Tj 0 s.1.2=[]
 ·rw[if_pos (by rw[b];rfl),if_pos b]
 rw[if_neg (by have:=eb.2 b;omega),if_neg b];obtain⟨T,n⟩:∃ T,T=Vo s (Tj 0 s.1.2):=⟨_,rfl⟩;rw[<- n]
 obtain⟨r,u,c⟩:=Vy (l:=Tj 0 s.1.2) (σ:=Unit) (s:=((0:Int),((0:Int),(0:Int)))) (λk _=>((0:Int),((0:Int),(k:Int)))) (λl k _=>Vo s l=T) (λ(r:Nat×((Int×(Int×Int))×Unit))=>(r.1=1/\T=none)\/(r.1=0 /\ ∃ d,T=some d/\r.2.1.2.1=d/\r.2.1.1=0))
  (f:=λs1=>br (Sz s1.2.2 ((Tj 0 s.1.2).length:Int)) (λ_=>Rz s1.2.2 λq=>ix (Tj 0 s.1.2) q λz=>bd (W0 (s,z)) λy=>br y.1 (λ_=>Rz s1.2.2 λt=>ix (Tj 0 s.1.2) t λA=>some (.dn ((0,((0,(A,s1.2.2)),()))))) λ_=>some (.nx ((s1.1,(s1.2.1,SC .i64 s1.2.2 1))))) λ_=>some (.dn ((1,(s1,())))))
  () rfl (by omega) n.symm (λ_ h=>⟨_,by simp only;rw[re];rfl,.inl ⟨rfl,by rw[<- h];rfl⟩⟩) (λk d l _ B g p h=>by
   simp only;unfold Vo at h;rw[rl p,SW,Ta,S4 g,cm m,Sn,TL,Ta,S4 g];by_cases e:(W3 false (λs j=>(V9 s.1 j,0)) s d).1=true
   ·rw[if_pos e];rw[if_pos e]at h;exact .inr ⟨_,rfl,.inr ⟨rfl,d,h.symm,rfl,rfl⟩⟩
   ·rw[if_neg e];rw[if_neg e]at h
    exact .inl ⟨(),by rw[Tn g (by omega)],h⟩)
 refine Tv u ?_;rw[So];rcases c with⟨c,i⟩|⟨c,d,i,w,x⟩
 ·rw[if_neg (show ¬ r.1=0 by omega),i]
 ·rw[if_pos c,i,w,x]
end
section
open Go Sv
theorem pk{β:Type}(k:Unit->Option β):gd true k=k ():=rfl
def Th(l:List (List UA))(i:Nat):List UA:=(l[i]?).getD []
def Yo(l:List (List UA)):Nat->Nat
 |0=>0
 |k+1=>if Th l k=[]then Yo l k else k+1
def Yi(l:List (List UA))(n:Nat):List (List UA):=l++yo (n+1-l.length) []
def Wx(l:List (List UA))(n:Nat)(r:List UA):List (List UA):=(Yi l n).set n r
def YB(l:List (List UA)):List (List UA):=l.take (Yo l l.length)
def Us(L:Te)(n:Nat)(r:List UA):Te:=(L.1,YB (Wx L.2 n r))
theorem cX(l:List (List UA)):∀ k,Yo l k<=k
 |0=>eg _
 |k+1=>by
  unfold Yo;split
  ·exact Nat.le_succ_of_le (cX l k)
  ·exact eg _
theorem ax(l:List (List UA)):∀ {k i:Nat},Yo l k<=i->i<k->Th l i=[]
 |0,_,_,h=>by omega
 |k+1,i,h1,h2=>by
  unfold Yo at h1;split at h1
  ·rename_i a;by_cases hi:i=k
   ·rw[hi];exact a
   ·exact ax l h1 (by omega)
  ·omega
theorem bq(l:List (List UA)):∀ {k m:Nat},Yo l k=m+1->Th l m≠[]
 |0,m,h=>by cases h
 |k+1,m,h=>by
  unfold Yo at h;split at h
  ·exact bq l h
  ·rename_i a;have:m=k:=by omega
   rw[this];exact a
theorem cK(l:List (List UA))(i:Nat):Th (YB l) i=Th l i:=by
 unfold YB;by_cases h:i<Yo l l.length
 ·unfold Th;rw[lc,if_pos h]
 ·have a:Th (l.take (Yo l l.length)) i=[]:=by
   unfold Th;rw[lc,if_neg h];rfl
  rw[a];by_cases b:i<l.length
  ·exact(ax l (by omega) b).symm
  ·unfold Th;rw[a9 (by omega)];rfl
theorem gD(l:List (List UA)):(YB l).getLast? ≠ some []:=by
 have c:(YB l).length=Yo l l.length:=by
  have:=cX l l.length;unfold YB;rw[hM];omega
 cases a:Yo l l.length with
 |zero=>
  have:YB l=[]:=List.length_eq_zero_iff.1 (by rw[c,a]);rw[this];simp
 |succ m=>
  have d:=bq l a;rw[nb,c,a];intro e;have b:Th (YB l) m=[]:=by unfold Th;rw[show m=m+1-1 by omega,e];rfl
  rw[cK]at b;exact d b
theorem ZR(l:List (List UA))(n:Nat):(Yi l n).length=max l.length (n+1):=by
 unfold Yi;simp;omega
theorem da(l:List (List UA))(n i:Nat):Th (Yi l n) i=Th l i:=by
 unfold Th Yi;by_cases h:i<l.length
 ·rw[List.getElem?_append_left h]
 ·rw[List.getElem?_append_right (by omega),List.getElem?_replicate,a9 (l:=l) (by omega)];split<;>rfl
theorem dj(l:List (List UA))(n i:Nat)(r:List UA):Th (Wx l n r) i=if i=n then r else Th l i:=by
 unfold Wx;by_cases h:i=n
 ·rw[if_pos h,h];have:=ZR l n;unfold Th;rw[List.getElem?_set_self (by omega)];rfl
 ·rw[if_neg h];unfold Th;rw[List.getElem?_set_ne (λe=>h e.symm)];exact da l n i
theorem We(L:Te)(n i:Nat)(r:List UA):Th (Us L n r).2 i=if i=n then r else Th L.2 i:=by
 show Th (YB _) i=_;rw[cK,dj]
theorem gE(L:Te)(n:Nat)(r:List UA):(Us L n r).2.getLast? ≠ some []:=gD _
theorem je(L:Te)(n:Nat)(r:List UA):(Us L n r).2.length<=max L.2.length (n+1):=by
 show(YB _).length<=_;unfold YB;rw[hM];have:(Wx L.2 n r).length=max L.2.length (n+1):=by unfold Wx;rw[pg,ZR]
 omega
theorem iF(l:List (List UA)):(YB l).flatten=l.flatten:=by
 have h:l=YB l++l.drop (Yo l l.length):=(li _ _).symm
 have a:(l.drop (Yo l l.length)).flatten=[]:=by
  rw[vL];intro x c;obtain⟨i,hi⟩:=en c;rw[List.getElem?_drop]at hi;have b:=(a8.1 hi).1;have:=ax l (k:=l.length) (i:=Yo l l.length+i) (by omega) b;unfold Th at this;rw[hi]at this;exact this
 conv=>rhs;rw[h,rz,a,fl]
theorem j8(l:List (List UA))(n:Nat):(Yi l n).flatten=l.flatten:=by
 unfold Yi;rw[rz]
 have:(yo (n+1-l.length) ([]:List UA)).flatten=[]:=by
  rw[vL];intro x a;exact(List.mem_replicate.1 a).2
 rw[this,fl]
theorem XQ(L:Te)(n:Nat)(r:List UA):∃ p q,L.2.flatten=p++(Th L.2 n++q)/\(Us L n r).2.flatten=p++(r++q):=by
 have a:n<(Yi L.2 n).length:=by rw[ZR];omega
 refine⟨((Yi L.2 n).take n).flatten,((Yi L.2 n).drop (n+1)).flatten,?_,?_⟩
 ·rw[<- da L.2 n n,<- j8 L.2 n]
  have:Yi L.2 n=(Yi L.2 n).take n++((Yi L.2 n)[n]::(Yi L.2 n).drop (n+1)):=by
   rw[<- ml a,li]
  have b:Th (Yi L.2 n) n=(Yi L.2 n)[n]:=by unfold Th;rw[ci a];rfl
  rw[b]
  conv=>lhs;rw[this]
  rw[rz,sa]
 ·show(YB (Wx L.2 n r)).flatten=_;rw[iF];unfold Wx;rw[s8,if_pos a,rz,sa]
theorem VLev.own{L:Te}(v:VLev L)(i:Nat):(Th L.2 i).length<=2 /\ ∀ r∈Th L.2 i,VR (Uf L.1 i) r:=by
 unfold Th;cases h:L.2[i]? with
 |none=>exact⟨by simp,λr a=>by cases a⟩
 |some rs=>exact v.lev i rs h
theorem VLev.with'{L:Te}(v:VLev L){n:Nat}(f:n<12){r:List UA}(d:r.length<=2)(e:∀ x∈r,VR (Uf L.1 n) x)(b:((Us L n r).2.flatten.map qi).Nodup):VLev (Us L n r):=by
 refine⟨v.B1,v.B2,?_,λi rs hi=> ?_,b,gE L n r⟩
 ·have:=je L n r;have:=v.len;omega
 ·have a:=We L n i r;unfold Th at a;rw[hi]at a;simp only[gM]at a;rw[a];split
  ·rename_i c;rw[c];exact⟨d,e⟩
  ·exact v.own i
theorem VLev.leave{L:Te}(v:VLev L){n:Nat}(c:n<12):VLev (Us L n []):=by
 refine v.with' c (by simp) (λ_ h=>by cases h) ?_
 obtain⟨p,q,a,b⟩:=XQ L n [];have:=v.ids;rw[a]at this;rw[b,gs];refine s9.nodup (s9.map _ ?_) this;exact s9.append (s9.refl _) (List.sublist_append_right _ _)
theorem VLev.arrive{L:Te}(v:VLev L){n:Nat}(g:n<12){x:UA}(j:(Th L.2 n).length<2)(i:VR (Uf L.1 n) x)(b:∀ y∈L.2.flatten,y.1≠x.1):VLev (Us L n (Th L.2 n++[x])):=by
 refine v.with' g (by simp;omega) (λy hy=> ?_) ?_
 ·rcases nm.1 hy with hy|hy
  ·exact(v.own n).2 y hy
  ·rw[rY.1 hy];exact i
 ·obtain⟨p,q,c,d⟩:=XQ L n (Th L.2 n++[x])
  have h:(Us L n (Th L.2 n++[x])).2.flatten.Perm (x::L.2.flatten):=by
   rw[c,d,ed];refine List.Perm.trans ?_ (List.perm_middle (l₁:=p++Th L.2 n) (l₂:=q) (a:=x) |>.trans (by rw[ed]));rw[ed];exact List.Perm.refl _
  refine(h.map qi).nodup_iff.2 (oj.2 ⟨λf=> ?_,v.ids⟩);obtain⟨y,hy,e⟩:=ox.1 f;exact b y hy e
theorem ZO{l:List (List UA)}{x:UA}:x∈l.flatten <-> ∃ i,x∈Th l i:=by
 rw[l6];constructor
 ·rintro⟨rs,a,b⟩;obtain⟨i,hi⟩:=en a;exact⟨i,by unfold Th;rw[hi];exact b⟩
 ·rintro⟨i,h⟩;unfold Th at h;cases hi:l[i]? with
  |none=>rw[hi]at h;cases h
  |some rs=>rw[hi]at h;exact⟨rs,co hi,h⟩
theorem X2{l:List (List UA)}{x:UA}(h:x∈l.flatten):x.1<=Wd l:=by
 have d:∀ (rs:List UA) (m:Int),m<=rs.foldl (λm r=>TP m r.1) m /\ ∀ x∈rs,x.1<=rs.foldl (λm r=>TP m r.1) m:=by
  intro rs
  induction rs with
  |nil=>intro m;exact⟨by simp,λx hx=>by cases hx⟩
  |cons r rs c=>
   intro m;obtain⟨b,a⟩:=c (TP m r.1);rw[XK]at b a;simp only[gq,XK]at b a ⊢;refine⟨by omega,λx hx=> ?_⟩;rcases ee.1 hx with e|hx
   ·rw[e];omega
   ·exact a x hx
 have two:∀ (ls:List (List UA)) (m:Int),m<=ls.foldl (λm rs=>rs.foldl (λm r=>TP m r.1) m) m /\ ∀ rs∈ls,∀ x∈rs,x.1<=ls.foldl (λm rs=>rs.foldl (λm r=>TP m r.1) m) m:=by
  intro ls
  induction ls with
  |nil=>intro m;exact⟨by simp,λx hx=>by cases hx⟩
  |cons rs ls c=>
   intro m;obtain⟨b,a⟩:=c (rs.foldl (λm r=>TP m r.1) m);obtain⟨i,g⟩:=d rs m;simp only[gq];refine⟨by omega,λf hrs x hx=> ?_⟩;rcases ee.1 hrs with e|hrs
   ·subst e;have:=g x hx;omega
   ·exact a f hrs x hx
 obtain⟨rs,b,a⟩:=l6.1 h;exact(two l 0).2 rs b x a
end
section
open Go Sv
theorem bu{M:List (List UA)}{f:Int->Option (LR Int (Nat×(Int×Unit)))}(a:f 0=some (.dn (0,(0,()))))(hs:∀ k,k<M.length->f ((k+1:Nat):Int)=if Th M k=[]then some (.nx (k:Int))else some (.dn (0,(((k+1:Nat):Int),())))):∀ k,k<=M.length->IH (k+1) f (k:Int)=some (0,((Yo M k:Nat):Int),())
 |0,_=>UT a
 |k+1,hk=>by
  have h:=hs k (by omega);unfold Yo;by_cases b:Th M k=[]
  ·rw[if_pos b]at h ⊢;rw[UL h];exact bu a hs k (by omega)
  ·rw[if_neg b]at h ⊢;exact UT h
theorem se(L:List (List UA))(n:Nat):LB (Ra (max L.length (n+1)) ([]:List UA)) 0 L (AS (Ra (max L.length (n+1)) ([]:List UA)))=Yi L n:=by
 have a:AS (Ra (max L.length (n+1)) ([]:List UA))=max L.length (n+1):=by unfold AS Ra;simp
 rw[a];unfold LB Yi Ra;rw[eo (by omega:L.length<=max L.length (n+1))];simp only[yv,gs,List.drop_replicate,ey]
 congr 2
 omega
theorem kK(l:List (List UA))(n:Nat)(r:List UA):lset (Yi l n) n r=Wx l n r:=rfl
theorem WN{l:List (List UA)}{i:Nat}(h:i<l.length):l[i]?=some (Th l i):=by
 unfold Th;rw[ci h];rfl
theorem cd{β:Type}(l:List UA)(x y:Unit->Option β):br (OX (l.length:Int) 0) x y=if l=[]then x ()else y ():=by
 rw[TD];by_cases h:l=[]
 ·rw[if_pos h,if_pos (by rw[h];rfl)]
 ·rw[if_neg h,if_neg (by have:=eb.2 h;omega)]
theorem aV{L:Te}(i:L.2.length<=1000){n:Nat}(j:n<1000)(r:List UA):WE (L,((n:Int),r))=some (Us L n r):=by
 have b:TP (Kh (AS L.2)) (SC .i64 (n:Int) 1)=((max L.2.length (n+1):Nat):Int):=by
  rw[Ti (by omega),XK,Tf,Td];omega
 unfold WE;simp only[b,Ta,se,kK];have d:(Yi L.2 n).length=max L.2.length (n+1):=ZR _ _;have l:(Wx L.2 n r).length=max L.2.length (n+1):=by unfold Wx;rw[pg,d]
 rw[Tk (by omega),Su,if_pos (by rw[Td,d];omega),S4 (WN (by omega))]
 have c:=bu (M:=Wx L.2 n r) (f:=λa=>br (Sx a 0) (λ_=>Rz (SG .i64 a 1) λe=>gd (KI e (AS (Wx L.2 n r))) λ_=>ix (Wx L.2 n r) e λh=>br (OX (Kh (AS h)) 0) (λ_=>some (.nx (SG .i64 a 1))) λ_=>some (.dn ((0,(a,()))))) λ_=>some (.dn ((0,(a,()))))) rfl (λk b=>by
  have hi:SG .i64 ((k+1:Nat):Int) 1=(k:Int):=by rw[Sd (by omega)];omega
  simp only[hi,Ta];rw[TF,if_pos (by omega),Su,if_pos (by rw[Td];omega),S4 (WN b)]
  exact cd _ _ _) _ (eg _)
 rw[Tf,show AS (Wx L.2 n r)=(Wx L.2 n r).length from rfl];refine Tv (U1 (by omega) c) ?_;have g:=cX (Wx L.2 n r) (Wx L.2 n r).length;simp only[Ta];rw[Tk g,Ss,if_pos (by omega),Sp,if_pos (by omega),Ss,if_pos (by unfold BF PW;omega)];unfold Us YB Dz BF PW;simp
end
section
open Go Sv
def cc(d:Int)(j:Job):Bool:=OX d j.1
def Ul(js:List Job)(d:Int):Option Job:=js.find? (cc d)
def Z6(js:List Job):List (Int×Job):=js.map λj=>(j.1,j)
def zJ:Job:=(0,(([],([],([],([],0)))),((false,([],false)),([],0))))
def Wh(L:Te)(d:Int):Job:=match Th L.2 d.toNat with
 |[r0,r1]=>(d,VU r1.2 r0.2 (decide (d=(L.2.length:Int)-1)) 0)
 |_=>zJ
def Wn(s:Tb)(L:Te)(a d:Int):Job:=(if d=a then none else Ul s.2.1 d).getD (Wh L d)
def YP(s:Tb)(L:Te)(next a:Int):Tb:=(L,((Tj 0 L.2).map (Wn s L a),next))
theorem cI(d:Int):∀ js:List Job,MS (λa b=>OX a b) (Z6 js) d=Ul js d
 |[]=>rfl
 |j::js=>by
  show(bif OX d j.1 then some j else MS (λa b=>OX a b) (Z6 js) d)=(j::js).find? (cc d)
  rw[iz,cI d js];show _=match OX d j.1 with|true=>some j|false=>Ul js d
  cases OX d j.1<;>rfl
theorem cJ{j:Job}:∀ {js:List Job},j.1 ∉ js.map (·.1)->IP (λa b=>OX a b) (Z6 js) j.1 j=Z6 (js++[j])
 |[],_=>rfl
 |i::js,h=>by
  show(bif OX j.1 i.1 then(j.1,j)::Z6 js else(i.1,i)::IP (λa b=>OX a b) (Z6 js) j.1 j)=(i.1,i)::Z6 (js++[j])
  have d:OX j.1 i.1=false:=by rw[Vx];simp;intro e;exact h (by simp[e])
  rw[d,cond_false,cJ (λc=>h (by simp at c ⊢;exact .inr c))]
theorem Yx{js:List Job}{d:Int}(h:d ∉ js.map (·.1)):Ul js d=none:=by
 unfold Ul;rw[xk];intro j a;unfold cc;rw[Vx];simp only[decide_eq_true_eq];intro e;exact h (by rw[e];exact List.mem_map_of_mem a)
theorem cG{x d:Int}:∀ {js:List Job},(js.map (·.1)).Nodup->MS (λa b=>OX a b) (IN (λa b=>OX a b) (Z6 js) x) d=if d=x then none else Ul js d
 |[],_=>by split<;>rfl
 |j::js,h=>by
  rw[List.map_cons,oj]at h;show MS (λa b=>OX a b) (bif OX x j.1 then Z6 js else(j.1,j)::IN (λa b=>OX a b) (Z6 js) x) d=_
  have g:Ul (j::js) d=if d=j.1 then some j else Ul js d:=by
   unfold Ul;rw[iz];unfold cc;rw[Vx];by_cases e:d=j.1<;>simp[e]
  rw[Vx,g];by_cases f:x=j.1
  ·rw[show decide (x=j.1)=true by simp[f],cond_true,cI];by_cases c:d=x
   ·rw[if_pos c];exact Yx (by rw[c,f];exact h.1)
   ·rw[if_neg c,if_neg (by rw[<- f];exact c)]
  ·rw[show decide (x=j.1)=false by simp[f],cond_false];show(bif OX d j.1 then some j else MS (λa b=>OX a b) (IN (λa b=>OX a b) (Z6 js) x) d)=_
   rw[cG h.2,Vx];by_cases c:d=j.1
   ·rw[show decide (d=j.1)=true by simp[c],cond_true,if_pos c,if_neg (by rw[c];exact λe=>f e.symm)]
   ·rw[show decide (d=j.1)=false by simp[c],cond_false,if_neg c]
theorem VR.vl'{L:Te}(v:VLev L){n:Nat}{r:UA}(h:r∈Th L.2 n):VL r.2:=((v.own n).2 r h).vl
theorem iS(L:Te)(a:L.2.length<=1000)(n:Nat):Ve (L,(n:Int))=some (decide ((n:Int)=(L.2.length:Int)-1)):=by
 unfold Ve;simp only[Tf,Td];rw[Sd (by omega),Vx]
theorem jt{L:Te}(v:VLev L){n:Nat}(h:(Th L.2 n).length=2):Xo (L,(n:Int))=some (Wh L n,0):=by
 have d:n<L.2.length:=by
  by_cases e:n<L.2.length
  ·exact e
  ·unfold Th at h;rw[a9 (by omega)]at h;cases h
 have i:=v.len;obtain⟨f,g⟩:=v.small;unfold Xo;simp only[Tf,Td];rw[Zo _ f g,XN v,Sn,TI,if_pos rfl,TH,if_neg (by omega),TE,if_neg (by omega),TE,if_neg (by omega),Ta,S4 (WN d),TH,if_neg (by omega),iS L (by omega) n,Sn]
 obtain⟨b,c,a⟩:∃ b c,Th L.2 n=[b,c]:=by
  match hq:Th L.2 n with
  |[b,c]=>exact⟨b,c,rfl⟩
  |[]=>rw[hq]at h;cases h
  |[_]=>rw[hq]at h;cases h
  |_::_::_::_=>rw[hq]at h;simp at h
 rw[dD _ (by rw[WN d,a]) (VR.vl' v (n:=n) (by rw[a];simp)) (VR.vl' v (n:=n) (by rw[a];simp)),Sn];unfold Wh;rw[bl,a]
theorem Yp(i:Nat)(rs:List UA)(ls:List (List UA)):Tj i (rs::ls)=(if rs.length=2 then[(i:Int)]else[])++Tj (i+1) ls:=rfl
theorem ZL{s:Tb}(f:(s.2.1.map (·.1)).Nodup)(t:s.2.1.length<=1000){L:Te}(v:VLev L)(next a:Int):UB (s,(L,(next,a)))=some (YP s L next a,0):=by
 have u:=v.len;unfold UB;simp only[Tf,Td]
 rw[U4 (l:=s.2.1) (σ:=List (Int×Job)) (s:=((0:Int),([]:List (Int×Job)))) (λi m=>((i:Int),m)) (λls i m=>∃ p,s.2.1=p++ls/\m=Z6 p) (λ_ _ _=>(0,(((s.2.1.length:Int),Z6 s.2.1),()))) [] rfl (by omega) ⟨[],rfl,rfl⟩ (λm h=>by
  obtain⟨p,d,rfl⟩:=h
  simp only;rw[re,R5,d,fl]) (λi x ls m q b hi h=>by
   obtain⟨p,d,rfl⟩:=h;refine⟨Z6 (p++[x]),?_,⟨p++[x],by rw[d];simp,rfl⟩,rfl⟩;simp only;rw[rl hi,SW,Ta,S4 b,Tn b (by omega),cJ];intro g;rw[d,s5,sk]at f
   exact f.2.2 _ g x.1 (by simp) rfl),Sn]
 simp only
 rw[U4 (l:=L.2) (σ:=List Job) (s:=((0:Int),((0:Int),(((0:Int),(([]:List (List UA)),(([]:List Job),(0:Int)))),(L.1,(L.2,(([]:List Job),next))))))) (λi js=>((0:Int),((i:Int),(((0:Int),(([]:List (List UA)),(([]:List Job),(0:Int)))),(L.1,(L.2,(js,next))))))) (λls i js=>js++(Tj i ls).map (Wn s L a)=(Tj 0 L.2).map (Wn s L a)) (λ_ _ _=>(0,(((0:Int),((L.2.length:Int),(((0:Int),(([]:List (List UA)),(([]:List Job),(0:Int)))),(L.1,(L.2,((Tj 0 L.2).map (Wn s L a),next)))))),()))) [] rfl (by omega) rfl (λm h=>by
  simp only;rw[re,R5,<- h];simp[Tj]) (λi rs ls m q b hi h=>by
   have k:Th L.2 i=rs:=by unfold Th;rw[b];rfl
   have o:=(v.own i).1;rw[k]at o;refine⟨m++(if rs.length=2 then[Wn s L a i]else[]),?_,?_,rfl⟩
   ·simp only;rw[rl hi,SW,Ta,S4 b,TH]
    have g:m.length<=1000:=by
     have c:=congrArg kd h;have r:=Vn L.2 0;rw[gl,o3,o3]at c;omega
    by_cases c:rs.length=2;rotate_left
    ·rw[if_pos (by omega),if_neg c,fl,Tn b (by omega)]
    rw[if_neg (by omega),if_pos c,cG f];have e:Wn s L a i=(if(i:Int)=a then none else Ul s.2.1 i).getD (Wh L i):=rfl
    cases n:(if(i:Int)=a then none else Ul s.2.1 (i:Int))with
    |none=>
     rw[n,xl]at e;rw[e,jt v (by rw[k];exact c),UI,TL,if_neg (show ¬ TU (none:Option Job)=true by simp[TU]),Sn];simp only;rw[TI,if_pos rfl,Tk (by simp only[BF,cP,dc];omega),Tn b (by omega)];rfl
    |some j=>
     rw[n,gM]at e;rw[e,UI,TL,if_pos (show TU (some j)=true from rfl),Tk (by simp only[BF,cP,dc];omega),Tn b (by omega)];rfl
   ·rw[ed,<- h,Yp,s5]
    congr 2
    split<;>rfl),Sn]
 rfl
end
section
open Go Sv
def pS(s:Uh):Option V8:=if s.1=true then some s.2.1 else none
theorem Asc.weak:∀ {l:List TZ} {p c:Option V8},(∀ a,c=some a -> ∃ q,p=some q/\SP q a=false)->Asc p l->Asc c l
 |[],_,_,_,_=>trivial
 |x::l,p,c,h,⟨g,i⟩=>⟨λa b=>by
  obtain⟨q,e,j⟩:=h a b;have d:=g q e;by_cases f:a=q
  ·rw[f];exact d
  ·exact VD (ZA j (λe=>f e.symm)) d,i⟩
theorem dI:∀ (l:List TZ) (s:Uh),aG s l->Asc (pS s) (WO s l)
 |[],_,_=>trivial
 |x::l,s,⟨_,g,h⟩=>by
  have i:=dI l _ h;have f:Asc (some x.1) (WO (true,(x.1,s.2.2)) l):=i;unfold WO;by_cases c:keep s x=true
  ·rw[if_pos c];refine⟨λq d=> ?_,f⟩;unfold pS at d;by_cases b:s.1=true
   ·rw[if_pos b]at d;cases d;refine ZA (g b) λe=> ?_;unfold keep at c;rw[b,e]at c;simp at c
   ·rw[if_neg b]at d;cases d
  ·rw[if_neg c,gs];refine f.weak λj a=>⟨x.1,rfl,?_⟩;unfold pS at a;by_cases b:s.1=true
   ·rw[if_pos b]at a;cases a;exact g b
   ·rw[if_neg b]at a;cases a
theorem dK:∀ {l:List TZ} {s:Uh} {x:TZ},x∈WO s l->x∈l
 |y::l,s,x,h=>by
  unfold WO at h;rcases nm.1 h with h|h
  ·split at h
   ·rw[rY.1 h];simp
   ·cases h
  ·exact List.mem_cons_of_mem _ (dK h)
theorem gb:∀ {l:List TZ} {s:Uh},aG s l -> ∀ x∈l,kE x=0
 |y::l,s,⟨a,_,b⟩,x,h=>by
  rcases ee.1 h with e|h
  ·rw[e];exact a
  ·exact gb b x h
theorem kV{a b:List TZ}(va:VL a)(f:VL b)(c:Bool){k:Nat}(d:k<=a.length+b.length)(j:a.length+b.length<=5000):VL (VU a b c k).2.2.1/\(VU a b c k).2.2.1.length<=a.length+b.length:=by
 have e:=XT va f c d
 have i:(WO (s0 c) (Tw a b k)).length<=k:=by
  have:=YX (s0 c) (Tw a b k);rw[VC va f d]at this;exact this
 have g:(VU a b c k).2.2.1=WO (s0 c) (Tw a b k):=rfl;rw[g];exact⟨⟨by omega,λx h=>gb e x (dK h),dI _ _ e⟩,by omega⟩
theorem eV{L:Te}(v:VLev L){n:Nat}(h:Th L.2 n≠[]):Vt (L,(n:Int))=some (Us L n [],(Th L.2 n,0)):=by
 have b:n<L.2.length:=by
  by_cases a:n<L.2.length
  ·exact a
  ·unfold Th at h;rw[a9 (by omega)]at h;exact absurd rfl h
 have d:=v.len;have c:=(v.own n).1;unfold Vt;simp only[Tf,Td];rw[cj v,Sn,if_neg (by omega),TI,if_pos rfl,TH,if_pos (by omega),Ta,S4 (WN b),cd,if_neg h,aV (by omega) (by omega),Sn,Tk (by omega)]
theorem iQ{S β:Type}{f:S->Option (LR S β)}{r:β}(mk:Int->S)(n:Nat){s:S}(b:s=mk ((n:Int)-1))(g:n<1000000)(hs:∀ k,k<n->f (mk (k:Int))=some (.nx (mk ((k:Int)-1))))(c:f (mk (-1))=some (.dn r)):loop f s=some r:=by
 subst b
 have a:∀ k,k<=n->IH (k+1) f (mk ((k:Int)-1))=some r:=by
  intro k
  induction k with
  |zero=>intro _;exact UT c
  |succ k d=>
   intro e;have:=hs k (by omega);rw[show((k+1:Nat):Int)-1=(k:Int) by omega,UL this];exact d (by omega)
 exact U1 (by omega) (a n (eg _))
theorem aa{L:Te}(v:VLev L){n:Nat}(o:n<12){x:UA}(q:x.2.length<=1048576)(b:∀ y∈L.2.flatten,y.1≠x.1)(m:(Th L.2 n).length<2) :
  UQ (L,((n:Int),x))=some (if kR [] (Uf L.1 n) x≠0 then((0,[]),kR [] (Uf L.1 n) x)else(Us L n (Th L.2 n++[x]),0)):=by
 have p:=v.len;unfold UQ;simp only[Tf,Td];rw[cj v,Sn,if_neg (by omega),TI,if_pos rfl,aN v.B1 v.B2 (by omega),cF x _ (by omega),show Rv (n:Int) 0=true by unfold Rv;simp];rw[pk,Sn,TI];by_cases a:kR [] (Uf L.1 n) x=0;rotate_left
 ·rw[if_neg a,if_pos a]
 rw[if_pos a,if_neg (by simp[a])]
 rw[U4 (l:=L.2) (σ:=Unit) (s:=((0:Int),(((0:Int),([]:List (List UA))),(0:Int)))) (λi _=>((i:Int),(((0:Int),([]:List (List UA))),(0:Int)))) (λ_ _ _=>True) (λ_ _ _=>(0,(((L.2.length:Int),(((0:Int),([]:List (List UA))),(0:Int))),()))) () rfl (by omega) trivial (λ_ _=>by
  simp only;rw[re];rfl) (λi rs ls _ j hi c _=>by
   refine⟨(),?_,trivial,rfl⟩;have e:Th L.2 i=rs:=by unfold Th;rw[hi];rfl
   have f:=(v.own i).1;rw[e]at f;simp only;rw[rl c,SW,Ta,S4 hi,Sd (by omega)]
   rw[iQ (λk=>(k,(((0:Int),([]:List (List UA))),(0:Int)))) rs.length rfl (by omega) (λk a=>by
    have h:rs[k]?=some rs[k]:=ci a;have d:rs[k].1≠x.1:=b _ (l6.2 ⟨rs,co hi,List.getElem_mem a⟩);simp only
    rw[TE,if_pos (by omega),Ta,S4 h,TD,if_neg d,Sd (by omega)]) (r:=(0,(((-1:Int),(((0:Int),([]:List (List UA))),(0:Int))),()))) rfl,Sn]
   rw[Tn hi (by omega)]
   rfl),Sn]
 rw[So,if_pos rfl,TH];by_cases g:n<L.2.length
 ·rw[if_pos (by omega),Ta,S4 (WN g),TD,if_neg (by omega),Ta,Ta,Tk (eg _),Sr,if_pos rfl,Tk (ll _)];have hs:Dz (Th L.2 n) 0 (Th L.2 n).length=Th L.2 n:=by unfold Dz;simp
  rw[hs,Tk (by simp only[BF,cP,dc];omega),aV (by omega) (by omega),Sn];rfl
 ·rw[if_neg (by omega)];have e:Th L.2 n=[]:=by unfold Th;rw[a9 (by omega)];rfl
  rw[Tk (by simp),aV (by omega) (by omega),Sn,e];rfl
end
section
open Go Sv
def zS:Tb:=((0,[]),([],0))
def Uq(j:Job):List TZ:=j.2.2.2.1
def Ym(s:Tb)(j:Job):Nat:=if V7 s.1 j=true then j.1.toNat else j.1.toNat+1
def Vb(s:Tb)(j:Job):Te:=if Uq j=[]then Us s.1 j.1.toNat []else Us (Us s.1 j.1.toNat []) (Ym s j) (Th (Us s.1 j.1.toNat []).2 (Ym s j)++[(s.2.2,Uq j)])
def YE(s:Tb)(j:Job):Int:=if Uq j=[]then s.2.2 else s.2.2+1
def Zg(s:Tb)(j:Job):Tb×Int:=
 if 0<UD s.1 j\/V9 s.1 j=false then(zS,9)else if s.2.2>1000000/\Uq j≠[]then(zS,5)else(YP s (Vb s j) (YE s j) j.1,0)
theorem bw:∀ (ls:List (List UA)) (i:Nat),(Tj i ls).Nodup /\ ∀ d∈Tj i ls,(i:Int)<=d
 |[],_=>⟨.nil,λ_ h=>by cases h⟩
 |rs::ls,i=>by
  obtain⟨b,a⟩:=bw ls (i+1);rw[Yp];by_cases h:rs.length=2
  ·rw[if_pos h];refine⟨oj.2 ⟨λc=> ?_,b⟩,λd hd=> ?_⟩
   ·have:=a _ c;omega
   ·rcases ee.1 hd with e|hd
    ·omega
    ·have:=a d hd;omega
  ·rw[if_neg h];exact⟨b,λd hd=>by have:=a d hd;omega⟩
theorem VSt.nodup{s:Tb}(v:VSt s):(s.2.1.map (·.1)).Nodup:=by rw[v.due];exact(bw _ _).1
theorem JobAt.out{L:Te}{n:Nat}{j:Job}(h:JobAt L n j)(v:VLev L)(hs:(∀ r∈Th L.2 n,r.2.length<=2000)):VL (Uq j)/\((Uq j).length:Int)<=2*Uf L.1 n/\j.1=(n:Int)/\n<12/\Th L.2 n≠[]:=by
 obtain⟨a,b,d,k,e,rfl,i,_,l,m⟩:=h;have c:Th L.2 n=[a,b]:=by unfold Th;rw[e];rfl
 have s:=hs a (by rw[c];simp);have t:=hs b (by rw[c];simp);have u:=((v.own n).2 a (by rw[c];simp)).le;have w:=((v.own n).2 b (by rw[c];simp)).le;obtain⟨f,g⟩:=kV m l d i (by omega);have p:=(a8.1 e).1;have q:=v.len;refine⟨f,?_,rfl,by omega,by rw[c];simp⟩
 have o:((Uq ((n:Int),VU b.2 a.2 d k)).length:Int)<=(b.2.length:Int)+(a.2.length:Int):=by
  have:(Uq ((n:Int),VU b.2 a.2 d k)).length<=b.2.length+a.2.length:=g;omega
 omega
def jl(L:Te):Prop:=∀ i,∀ r∈Th L.2 i,r.2.length<=2000
structure InstF (s:Tb) (n:Nat) (j:Job):Prop where
 l1:VLev (Us s.1 n [])
 to12:Uq j≠[]->Ym s j<12
 vr:Uq j≠[]->VR (Uf s.1.1 (Ym s j)) (s.2.2,Uq j)
 id:∀ y∈(Us s.1 n []).2.flatten,y.1≠s.2.2
 room:Uq j≠[]->(Th (Us s.1 n []).2 (Ym s j)).length<2
 lev:VLev (Vb s j)
theorem gR{s:Tb}(v:VSt s)(A:jl s.1){n:Nat}{j:Job}(z:JobAt s.1 n j)(G:¬ 0<UD s.1 j)(hc:V9 s.1 j=true)(x:Uq j≠[]->s.2.2<=1000000):InstF s n j:=by
 obtain⟨C,D,E,t,I⟩:=z.out v.lev (A n);have a:=v.lev.leave (n:=n) t;have e:j.1.toNat=n:=by rw[E];simp
 have b:V7 s.1 j≠true->n+1<12/\(Th s.1.2 (n+1)).length<2:=λhs=>by
  unfold V9 at hc;rw[show decide (0<UD s.1 j)=false by simp;omega,e]at hc;cases o:V7 s.1 j with
  |true=>exact absurd o hs
  |false=>
   rw[o]at hc;simpa[Yj,Th]using hc
 have d:∀ y∈(Us s.1 n []).2.flatten,y.1≠s.2.2:=λy r=>by
  obtain⟨p,q,i,k⟩:=XQ s.1 n [];rw[k,gs]at r
  have B:y∈s.1.2.flatten:=by
   rw[i];rcases nm.1 r with h|h
   ·exact List.mem_append_left _ h
   ·exact sr _ (sr _ h)
  have:=X2 B;have:=v.n3;omega
 have m:Ym s j<12/\(Th (Us s.1 n []).2 (Ym s j)).length<2/\((Uq j).length:Int)<=Uf s.1.1 (Ym s j):=by
  unfold Ym;by_cases hs:V7 s.1 j=true
  ·rw[if_pos hs,e];refine⟨t,by rw[We,if_pos rfl];simp,?_⟩;have c:=hs;unfold V7 at c;rw[e]at c;exact of_decide_eq_true c
  ·rw[if_neg hs,e];obtain⟨i,k⟩:=b hs;refine⟨i,by rw[We,if_neg (by omega)];exact k,?_⟩;rw[cO];exact D
 obtain⟨u,w,F⟩:=m;have g:Uq j≠[]->VR (Uf s.1.1 (Ym s j)) (s.2.2,Uq j):=λf=>⟨v.n1,x f,C,f,F⟩;refine⟨a,λ_=>u,g,d,λ_=>w,?_⟩;unfold Vb;rw[e];by_cases l:Uq j=[]
 ·rw[if_pos l];exact a
 ·rw[if_neg l];exact a.arrive u w (g l) d
theorem cA{s:Tb}(v:VSt s)(u:jl s.1){n:Nat}{j:Job}(t:JobAt s.1 n j)(w:¬ 0<UD s.1 j)(hc:V9 s.1 j=true)(y:Uq j≠[]->s.2.2<=1000000)(l:Int) :
  (bd (Vt (s.1,(n:Int))) λd=>br (OX d.2.2 0) (λ_=>br (Sx (Kh (AS j.2.2.2.1)) 0) (λ_=>bd (UX (s,(j,l))) λK=>br (He K) (λ_=>bd (UQ ((d.1,(SC .i64 (n:Int) 1,(s.2.2,j.2.2.2.1))))) λm=>br (Rw m.2 0) (λ_=>some ((((0,[]),([],0)),m.2))) λ_=>bd (UB ((s,(m.1,(SC .i64 s.2.2 1,(n:Int)))))) λL=>some L) λ_=>bd (UQ ((d.1,((n:Int),(s.2.2,j.2.2.2.1))))) λo=>br (Rw o.2 0) (λ_=>some ((((0,[]),([],0)),o.2))) λ_=>bd (UB ((s,(o.1,(SC .i64 s.2.2 1,(n:Int)))))) λM=>some M) λ_=>br (Rw d.2.2 0) (λ_=>some ((((0,[]),([],0)),d.2.2))) λ_=>bd (UB ((s,(d.1,(s.2.2,(n:Int)))))) λN=>some N) λ_=>br (Rw d.2.2 0) (λ_=>some ((((0,[]),([],0)),d.2.2))) λ_=>bd (UB ((s,(d.1,(s.2.2,(n:Int)))))) λk=>some k)
  = some (YP s (Vb s j) (YE s j) j.1,0):=by
 have F:=gR v u t w hc y;obtain⟨G,O,g,I,J⟩:=t.out v.lev (u n);have i:j.1.toNat=n:=by rw[g];simp
 have D:=v.n2;have C:=v.n1;have A:=v.jsmall;have a:=F.lev;rw[eV v.lev J,Sn];show(br (OX 0 0) _ _)=_;rw[TD,if_pos rfl,Tf,Td,TF];by_cases b:Uq j=[]
 ·rw[if_neg (show ¬ ((j.2.2.2.1.length:Int)>0) by rw[show j.2.2.2.1=[]from b];simp),TI,if_pos rfl];unfold Vb at a ⊢;rw[if_pos b,i]at a;rw[if_pos b,i,ZL v.nodup (by omega) a,Sn];unfold YE;rw[if_pos b,g]
 ·rw[if_pos (show((j.2.2.2.1.length:Int)>0) by have:=eb.2 b;have h:(Uq j).length=j.2.2.2.1.length:=rfl;omega),bX v.lev g I,Sn,UI];have E:(Uq j).length<=1048576:=by have:=G.len;omega
  have B:kR [] (Uf (Us s.1 n []).1 (Ym s j)) (s.2.2,Uq j)=0:=gS.2 ⟨F.vr b,by simp⟩;have f:=aa F.l1 (F.to12 b) (x:=(s.2.2,Uq j)) E F.id (F.room b);rw[if_neg (by simp[B])]at f
  have z:Vb s j=Us (Us s.1 n []) (Ym s j) (Th (Us s.1 n []).2 (Ym s j)++[(s.2.2,Uq j)]):=by
   unfold Vb;rw[if_neg b,i]
  have q:YE s j=s.2.2+1:=by unfold YE;rw[if_neg b]
  rw[<- z]at f;have p:SC .i64 s.2.2 1=s.2.2+1:=Sb (by omega);have r:=ZL v.nodup (by omega) a (s.2.2+1) (n:Int);rw[TL];have c:Ym s j=if V7 s.1 j=true then n else n+1:=by unfold Ym;rw[i]
  by_cases hs:V7 s.1 j=true
  ·rw[if_pos hs]at c ⊢;rw[c]at f;have e:UQ (Us s.1 n [],((n:Int),(s.2.2,j.2.2.2.1)))=some (Vb s j,0):=f;rw[e,Sn,TI,if_pos rfl,p,r,Sn,q,g]
  ·rw[if_neg hs]at c ⊢;rw[c]at f;rw[Ti (by omega)];have e:UQ (Us s.1 n [],(((n+1:Nat):Int),(s.2.2,j.2.2.2.1)))=some (Vb s j,0):=f;rw[e,Sn,TI,if_pos rfl,p,r,Sn,q,g]
theorem eC{s:Tb}(m:Sm s)(k:jl s.1)(a:Int):WL (s,a)=some (W3 zS Zg s a):=by
 unfold WL;rw[dB m,Sn];unfold W3;by_cases b:(Tc s).2=0;rotate_left
 ·rw[if_pos b,TI,if_neg b,if_pos b];rfl
 rw[if_neg (show ¬ (Tc s).2≠0 by simp[b]),if_neg (show ¬ (Tc s).2≠0 by simp[b])];have v:=Tl.1 b;unfold bZ;cases p:Z3 a 0 (Tj 0 s.1.2)with
 |none=>rfl
 |some i=>
  obtain⟨j,n,l,o,f,g,q⟩:=v.at p;have:=v.lev.len;subst o;simp only[l];unfold UO Zg;rw[TI,if_pos rfl,Sn,TF];by_cases e:0<UD s.1 j
  ·rw[if_pos (show((UD s.1 j:Int))>0 by omega),if_pos (.inl e)];rfl
  rw[if_neg (show ¬ ((UD s.1 j:Int))>0 by omega),cW v.lev f (by omega) _ rfl,Sn,UI,TL];by_cases hc:V9 s.1 j=true;rotate_left
  ·rw[if_neg hc,if_pos (.inr (by simpa using hc))];rfl
  rw[if_pos hc,if_neg (show ¬ (0<UD s.1 j\/V9 s.1 j=false) by rw[hc];simp;omega),TF];by_cases d:s.2.2>1000000
  ·rw[if_pos d,Tf,Td,TF];by_cases c:Uq j=[]
   ·rw[if_neg (show ¬ ((j.2.2.2.1.length:Int)>0) by rw[show j.2.2.2.1=[]from c];simp),if_neg (by simp[c])];exact cA v k g e hc (λh=>absurd c h) _
   ·rw[if_pos (show((j.2.2.2.1.length:Int)>0) by have:=eb.2 c;have h:(Uq j).length=j.2.2.2.1.length:=rfl;omega),if_pos ⟨d,c⟩];rfl
  ·rw[if_neg d,if_neg (by simp[d])];exact cA v k g e hc (λh=>by omega) _
end
section
open Go Sv
def ZE(L:Te)(j:Job):Xl:=match Th L.2 j.1.toNat with
 |[r0,r1]=>VU r1.2 r0.2 j.2.2.1.2.2 (j.2.2.2.2.toNat+1)
 |_=>j.2
def aB(s:Tb)(j:Job):Tb:=(s.1,(lset s.2.1 ((Z3 j.1 0 (Tj 0 s.1.2)).getD 0) (j.1,ZE s.1 j),s.2.2))
theorem ka{s:Tb}(m:Sm s)(v:VSt s){a:Int}{i:Nat}(h:Z3 a 0 (Tj 0 s.1.2)=some i){j:Job}(e:s.2.1[i]?=some j)(t:0<UD s.1 j):YH (s,(a,1))=some (aB s j,(1,0)):=by
 obtain⟨j',n,f,y,u,q,D⟩:=v.at h;rw[e]at f;cases f;subst y;have r:(Tc s).2=0:=Tl.2 v
 have l:YY s (n:Int)=((i:Int),0):=by
  unfold YY;rw[if_neg (show ¬ (Tc s).2≠0 by simp[r]),h]
 have w:=v.jsmall;have hi:=(a8.1 e).1;unfold YH;rw[uI m,Sn,TI,if_pos r,TH,if_neg (show ¬ ((1:Int)<0) by omega),gJ m,Sn,l,TI,if_pos rfl,Ta,S4 e,(JobAt.left q).1,Sn,TD,if_neg (show ¬ ((UD s.1 j:Int)=0) by omega),Ta,S4 e];obtain⟨b,c,d,k,p,rfl,x,C,A,B⟩:=q;have z:Th s.1.2 n=[b,c]:=by unfold Th;rw[p];rfl
 have o:UD s.1 ((n:Int),VU c.2 b.2 d k)=c.2.length+b.2.length-k:=by
  unfold UD;simp only[bl,p];show c.2.length+b.2.length-((k:Int)).toNat=_;rw[bl]
 rw[o]at t;have g:=cQ B A d x (k:=1);rw[show min 1 (c.2.length+b.2.length-k)=1 by omega]at g;show(bd (Uv (VU c.2 b.2 d k,((1:Nat):Int))) λE=>_)=_;rw[g,Sn];simp only;rw[TI,if_pos rfl];unfold UW;rw[Tk (by simp only[AS];omega),Sn,Ta,Su,if_pos (by simp only[AS];exact hi),S4 e];unfold aB ZE;simp only[bl,z,h,gM];have e1:(VU c.2 b.2 d k).2.1.2.2=d:=am _ _ _ _;have e2:(VU c.2 b.2 d k).2.2.2.toNat=k:=by show((k:Int)).toNat=k;rw[bl]
 rw[e1,e2];rfl
def YN(s:Tb)(j:Job):Tb×(Bool×Int):=if V9 s.1 j=false then(zS,(false,9))else if 0<UD s.1 j then(aB s j,(false,0))else((Zg s j).1,(OX (Zg s j).2 0,(Zg s j).2))
def Wo(s:Tb)(a:Int):Tb×(Bool×Int):=if(Tc s).2≠0 then(zS,(false,(Tc s).2))else match bZ s a with
 |some j=>YN s j
 |none=>(zS,(false,4))
theorem cS{s:Tb}(m:Sm s)(g:jl s.1)(a:Int):Ux (s,a)=some (Wo s a):=by
 unfold Ux;rw[dB m,Sn,eC m g];unfold W3 Wo;by_cases b:(Tc s).2=0;rotate_left
 ·rw[if_pos b,TI,if_neg b,if_pos b];rfl
 rw[if_neg (show ¬ (Tc s).2≠0 by simp[b]),if_neg (show ¬ (Tc s).2≠0 by simp[b]),if_neg (show ¬ (Tc s).2≠0 by simp[b])];have v:=Tl.1 b;unfold bZ;cases f:Z3 a 0 (Tj 0 s.1.2)with
 |none=>rfl
 |some i=>
  obtain⟨j,n,e,k,d,h,l⟩:=v.at f;have:=v.lev.len;simp only[e];unfold YN UO;rw[TI,if_pos rfl,cW v.lev d (by omega) _ rfl,Sn,UI,TL];cases hc:V9 s.1 j with
  |false=>rw[if_neg (by simp),if_pos rfl];rfl
  |true=>
   rw[if_pos rfl,if_neg (by simp),Sn,TF];by_cases c:0<UD s.1 j
   ·rw[if_pos (show((UD s.1 j:Int))>0 by omega),if_pos c,ka m v f e c];rfl
   ·rw[if_neg (show ¬ ((UD s.1 j:Int))>0 by omega),if_neg c];rfl
end
section
open Go Sv
theorem ck{ls:List (List UA)}{d:Int}(h:d∈Tj 0 ls):∃ (n:Nat) (a b:UA),d=(n:Int)/\ls[n]?=some [a,b]:=by
 obtain⟨k,f⟩:=en h;obtain⟨n,c,a,b,e⟩:=X3 f;exact⟨n,a,b,by rw[c,ey],e⟩
theorem dR{l:List (List UA)}{n:Int}(i:0<n)(h:∀ x∈l.flatten,x.1<n):Wd l<n:=by
 have f:∀ (rs:List UA) (m:Int),m<n->(∀ x∈rs,x.1<n)->rs.foldl (λm r=>TP m r.1) m<n:=by
  intro rs
  induction rs with
  |nil=>intro m b _;exact b
  |cons r rs e=>
   intro m b c;rw[gq];refine e _ ?_ λx d=>c x (by simp[d]);rw[XK];have:=c r (by simp);omega
 have two:∀ (ls:List (List UA)) (m:Int),m<n->(∀ rs∈ls,∀ x∈rs,x.1<n)->ls.foldl (λm rs=>rs.foldl (λm r=>TP m r.1) m) m<n:=by
  intro ls
  induction ls with
  |nil=>intro m b _;exact b
  |cons rs ls e=>
   intro m b c;rw[gq];exact e _ (f rs m b (c rs (by simp))) λg a=>c g (by simp[a])
 exact two l 0 i λrs a x d=>h x (l6.2 ⟨rs,a,d⟩)
theorem gT{l:List (List UA)}(e:l.getLast? ≠ some []){n:Nat}(a:Th l n≠[])(b:∀ i,n<i->Th l i=[]):l.length=n+1:=by
 have f:n<l.length:=by
  by_cases h:n<l.length
  ·exact h
  ·unfold Th at a;rw[a9 (by omega)]at a;exact absurd rfl a
 by_cases c:l.length=n+1
 ·exact c
 ·exfalso;have d:=b (l.length-1) (by omega);refine e ?_;rw[nb,WN (by omega),d]
theorem eP{js:List Job}{d:Int}{j:Job}(h:Ul js d=some j):j∈js/\j.1=d:=by
 unfold Ul at h;have a:=yk h;unfold cc at a;rw[Vx]at a;exact⟨vv h,(of_decide_eq_true a).symm⟩
theorem jr{L:Te}(v:VLev L){n:Nat}{b c:UA}(h:L.2[n]?=some [b,c]):JobAt L n (Wh L (n:Int)):=by
 have a:Th L.2 n=[b,c]:=by unfold Th;rw[h];rfl
 refine⟨b,c,decide ((n:Int)=(L.2.length:Int)-1),0,h,?_,ll _,λd=> ?_,VR.vl' v (n:=n) (by rw[a];simp),VR.vl' v (n:=n) (by rw[a];simp)⟩
 ·unfold Wh;rw[bl,a]
 ·have:=of_decide_eq_true d;have:=(a8.1 h).1;omega
theorem d8{s:Tb}(v:VSt s){L:Te}(u:VLev L){next a:Int}(F:1<=next)(G:next<=1000001)(I:∀ x∈L.2.flatten,x.1<next)
  (J:∀ (n:Nat) (g h:UA),s.1.2[n]?=some [g,h]->(n:Int)≠a->(∃ q r,L.2[n]?=some [q,r])->L.2[n]?=some [g,h]/\(n+1=s.1.2.length->n+1=L.2.length)):VSt (YP s L next a):=by
 have b:∀ d∈Tj 0 L.2,(Wn s L a d).1=d /\ ∃ n,JobAt L n (Wn s L a d):=λd c=>by
  obtain⟨n,q,r,rfl,t⟩:=ck c;unfold Wn;cases l:(if(n:Int)=a then none else Ul s.2.1 (n:Int))with
  |none=>
   rw[xl];have i:=jr u t;refine⟨?_,n,i⟩;obtain⟨_,_,_,_,_,e,_⟩:=i;rw[e]
  |some j=>
   rw[gM];by_cases o:(n:Int)=a
   ·rw[if_pos o]at l;cases l
   rw[if_neg o]at l;obtain⟨p,f⟩:=eP l;refine⟨f,n,?_⟩;obtain⟨m,g,h,E,k,w,rfl,y,z,A,B⟩:=v.job j p;have K:m=n:=by have:(m:Int)=(n:Int):=f;omega
   subst K;obtain⟨C,D⟩:=J m g h w o ⟨q,r,t⟩;exact⟨g,h,E,k,C,rfl,y,λi=>D (z i),A,B⟩
 refine⟨u,F,G,dR (by show 0<next;omega) I,?_,λj p=> ?_⟩
 ·show((Tj 0 L.2).map (Wn s L a)).map (·.1)=Tj 0 L.2;rw[List.map_map]
  conv=>rhs;rw[<- List.map_id (Tj 0 L.2)]
  exact List.map_congr_left λd c=>(b d c).1
 ·obtain⟨d,c,rfl⟩:=ox.1 p;exact(b d c).2
theorem Xe{l:List (List UA)}{n:Nat}{b c:UA}:l[n]?=some [b,c]<->Th l n=[b,c]:=by
 unfold Th;constructor
 ·intro h;rw[h];rfl
 ·intro h;cases a:l[n]? with
  |none=>rw[a]at h;cases h
  |some rs=>rw[a]at h;exact congrArg some h
theorem WB{s:Tb}{j:Job}{n:Nat}(b:j.1.toNat=n)(i:Nat):Th (Vb s j).2 i=if Uq j≠[]/\i=Ym s j then(if i=n then[]else Th s.1.2 i)++[(s.2.2,Uq j)]else if i=n then[]else Th s.1.2 i:=by
 unfold Vb;rw[b];by_cases a:Uq j=[]
 ·rw[if_pos a,if_neg (by simp[a]),We]
 ·rw[if_neg a,We];by_cases hi:i=Ym s j
  ·rw[if_pos hi,if_pos ⟨a,hi⟩,We,<- hi]
  ·rw[if_neg hi,if_neg (by simp[hi]),We]
theorem kC{s:Tb}(v:VSt s)(u:jl s.1){n:Nat}{j:Job}(t:JobAt s.1 n j)(B:¬ 0<UD s.1 j)(hc:V9 s.1 j=true)(r:Uq j≠[]->s.2.2<=1000000):VSt (YP s (Vb s j) (YE s j) j.1):=by
 have F:=gR v u t B hc r;obtain⟨O,P,w,S,q⟩:=t.out v.lev (u n);have l:j.1.toNat=n:=by rw[w];simp
 have E:=v.n1;have G:=v.n2
 have k:s.2.2<=YE s j/\YE s j<=1000001/\(Uq j≠[]->s.2.2<YE s j):=by
  unfold YE;by_cases d:Uq j=[]
  ·rw[if_pos d];exact⟨by omega,by omega,λh=>absurd d h⟩
  ·rw[if_neg d];have:=r d;exact⟨by omega,by omega,λ_=>by omega⟩
 refine d8 v F.lev (by omega) k.2.1 (λx L=> ?_) (λm z A D C N=> ?_)
 ·obtain⟨i,hi⟩:=ZO.1 L;rw[WB l]at hi
  have b:∀ {y:UA},y∈(if i=n then[]else Th s.1.2 i)->y.1<YE s j:=fun {y} o=>by
   by_cases a:i=n
   ·rw[if_pos a]at o;cases o
   ·rw[if_neg a]at o;have:=X2 (ZO.2 ⟨i,o⟩);have:=v.n3;omega
  split at hi
  ·rename_i hh;rcases nm.1 hi with hi|hi
   ·exact b hi
   ·rw[rY.1 hi];exact k.2.2 hh.1
  ·exact b hi
 ·have f:m≠n:=λe=>C (by rw[w,e]);have g:Th s.1.2 m=[z,A]:=Xe.1 D
  have p:¬ (Uq j≠[]/\m=Ym s j):=λ⟨d,J⟩=>by
   have:=F.room d;rw[We,<- J,if_neg f,g]at this;simp at this
  have c:Th (Vb s j).2 m=[z,A]:=by rw[WB l,if_neg p,if_neg f,g]
  refine⟨Xe.2 c,λM=>(gT F.lev.last (by rw[c];simp) λi hi=> ?_).symm⟩;have a:Th s.1.2 i=[]:=by unfold Th;rw[a9 (by omega)];rfl
  have I:n<s.1.2.length:=by
   by_cases h:n<s.1.2.length
   ·exact h
   ·unfold Th at q;rw[a9 (by omega)]at q;exact absurd rfl q
  have K:Ym s j<=n+1:=by unfold Ym;rw[l];split<;>omega
  rw[WB l,if_neg (by rintro⟨_,h⟩;omega),a];split<;>rfl
theorem Job.steps{L:Te}{n:Nat}{j:Job}(f:JobAt L n j)(h:0<UD L j):JobAt L n (j.1,ZE L j):=by
 obtain⟨a,b,c,k,d,rfl,o,g,l,m⟩:=f;have i:=Xe.1 d
 have e:UD L ((n:Int),VU b.2 a.2 c k)=b.2.length+a.2.length-k:=by
  unfold UD;simp only[bl,d];show b.2.length+a.2.length-((k:Int)).toNat=_;rw[bl]
 rw[e]at h;refine⟨a,b,c,k+1,d,?_,by omega,g,l,m⟩;unfold ZE;simp only[bl,i];have e1:(VU b.2 a.2 c k).2.1.2.2=c:=am _ _ _ _;have e2:(VU b.2 a.2 c k).2.2.2.toNat=k:=by show((k:Int)).toNat=k;rw[bl]
 rw[e1,e2]
theorem kc{s:Tb}(v:VSt s){j:Job}{i n:Nat}(e:Z3 j.1 0 (Tj 0 s.1.2)=some i)(a:s.2.1[i]?=some j)(d:JobAt s.1 n j)(c:0<UD s.1 j):VSt (aB s j):=by
 unfold aB;rw[e,gM];refine⟨v.lev,v.n1,v.n2,v.n3,?_,λx hx=> ?_⟩
 ·show(s.2.1.set i (j.1,ZE s.1 j)).map (·.1)=_;rw[<- v.due,List.map_set];refine List.ext_getElem? λk=> ?_;rw[List.getElem?_set];by_cases b:i=k
  ·subst b;have hi:=(a8.1 a).1;rw[if_pos rfl,o3,if_pos hi,tk,a];rfl
  ·rw[if_neg b]
 ·rcases List.mem_or_eq_of_mem_set hx with hx|hx
  ·exact v.job x hx
  ·rw[hx];exact⟨n,Job.steps d c⟩
end
section
open Go Sv
theorem qd{B:Int}{M:List (List UA)}{f:(Int×List (List UA))->Option (LR (Int×List (List UA)) (Nat×((Int×List (List UA))×Unit)))}(a:f (B,[])=some (.dn (0,((B,[]),()))))(hs:∀ k,k<M.length->f (B,M.take (k+1))=if Th M k=[]then some (.nx (B,M.take k))else some (.dn (0,((B,M.take (k+1)),())))):∀ k,k<=M.length->IH (k+1) f (B,M.take k)=some (0,((B,M.take (Yo M k)),()))
 |0,_=>by rw[yv];exact UT a
 |k+1,hk=>by
  have h:=hs k (by omega);unfold Yo;by_cases b:Th M k=[]
  ·rw[if_pos b]at h ⊢;rw[UL h];exact qd a hs k (by omega)
  ·rw[if_neg b]at h ⊢;exact UT h
theorem pI{M:List (List UA)}{k:Nat}(h:k<M.length):M.take (k+1)=M.take k++[Th M k]:=by
 rw[iP,WN h];rfl
theorem di{L:Te}(s:L.2.length<=1000){n:Nat}(u:n<1000){r:List UA}(l:r.length<=1048576)(o:∀ i,(Th L.2 i).length<=1048576):VZ (L,((n:Int),r))=some (Us L n r):=by
 have t:(Wx L.2 n r).length=max L.2.length (n+1):=by unfold Wx;rw[pg,ZR]
 unfold VZ;simp only[Tf,Td];refine Tv (Z8 (r:=(0,((((max L.2.length (n+1):Nat):Int),(L.1,Wx L.2 n r)),()))) (λk=>((k:Int),(L.1,(Wx L.2 n r).take k))) (max L.2.length (n+1)) (by simp) (by omega) (λk j=> ?_) ?_) ?_
 ·have c:((Wx L.2 n r).take k).length=k:=by rw[hM];omega
  simp only[c];rw[pI (by omega),dj,Ti (by omega),TH];by_cases g:k<L.2.length
  ·rw[if_pos (by omega),TE,if_neg (by omega),Ta,S4 (WN g),TD];by_cases a:k=n
   ·rw[if_pos (by omega),if_pos a,Tk l,Tk (by simp only[BF,cP,dc];omega)];rfl
   ·rw[if_neg (by omega),if_neg a,Tk (o k),Tk (by simp only[BF,cP,dc];omega)];rfl
  ·rw[if_neg (by omega),TG,if_pos (by omega),TE,if_pos (by omega),TD];by_cases a:k=n
   ·rw[if_pos (by omega),if_pos a,Tk l,Tk (by simp only[BF,cP,dc];omega)];rfl
   ·rw[if_neg (by omega),if_neg a,Tk (by simp only[BF,cP,dc];omega)];have:Th L.2 k=[]:=by unfold Th;rw[a9 (by omega)];rfl
    rw[this];rfl
 ·have c:(Wx L.2 n r).take (max L.2.length (n+1))=Wx L.2 n r:=eo (by omega);simp only;rw[TH,if_neg (by omega),TG,if_neg (by omega),c]
 ·have d:=qd (B:=L.1) (M:=Wx L.2 n r) (f:=λb=>br (Sx (b.2.length:Int) 0) (λ_=>Rz (SG .i64 (b.2.length:Int) 1) λp=>ix b.2 p λq=>br (OX (q.length:Int) 0) (λ_=>Rz (SG .i64 (b.2.length:Int) 1) λh=>gd (CF h b.2.length) λ_=>gd (CF 0 h) λ_=>some (.nx (b.1,Dz b.2 0 h))) λ_=>some (.dn ((0,(b,()))))) λ_=>some (.dn ((0,(b,()))))) rfl (λk j=>by
   have c:((Wx L.2 n r).take (k+1)).length=k+1:=by rw[hM];omega
   have hi:SG .i64 ((k+1:Nat):Int) 1=(k:Int):=by rw[Sd (by omega)];omega
   have m:((Wx L.2 n r).take (k+1))[k]?=some (Th (Wx L.2 n r) k):=by rw[lc,if_pos (by omega),WN j]
   simp only[c,hi];rw[TF,if_pos (by omega),Ta,S4 m,cd];by_cases e:Th (Wx L.2 n r) k=[]
   ·rw[if_pos e,if_pos e,Ta,Tk (by omega),Tk (by omega)]
    have:Dz ((Wx L.2 n r).take (k+1)) 0 k=(Wx L.2 n r).take k:=by
     unfold Dz;rw[List.drop_zero,mg,List.take_take];congr 1;omega
    rw[this]
   ·rw[if_neg e,if_neg e]) _ (eg _)
  rw[eo (eg _)]at d;exact Tv (U1 (by omega) d) rfl
end
section
open Go Sv
theorem ib{s:Tb}(m:Sm s)(v:VSt s){a:Int}{i:Nat}(h:Z3 a 0 (Tj 0 s.1.2)=some i){j:Job}(e:s.2.1[i]?=some j)(t:0<UD s.1 j):Xz (s,(a,1))=some (aB s j,(1,0)):=by
 obtain⟨j',n,f,z,w,u,E⟩:=v.at h;rw[e]at f;cases f;subst z;have l:(Tc s).2=0:=Tl.2 v
 have o:YY s (n:Int)=((i:Int),0):=by
  unfold YY;rw[if_neg (show ¬ (Tc s).2≠0 by simp[l]),h]
 have q:W3 (0:Int) (λs j=>((UD s.1 j:Int),0)) s (n:Int)=((UD s.1 j:Int),0):=by
  unfold W3 bZ;rw[if_neg (show ¬ (Tc s).2≠0 by simp[l]),h];simp only[e]
 have x:=v.jsmall;have hi:=(a8.1 e).1;unfold Xz;rw[sj m,Sn,TD,if_pos l,TH,if_neg (show ¬ ((1:Int)<0) by omega),TI,if_pos l,Zb m,q,Sn,TD,if_pos rfl,TD,if_neg (show ¬ ((UD s.1 j:Int)=0) by omega),TI,if_pos rfl,ZT m,o,Sn,Ta,S4 e];obtain⟨b,c,d,k,r,rfl,y,D,B,C⟩:=u;have A:Th s.1.2 n=[b,c]:=by unfold Th;rw[r];rfl
 have p:UD s.1 ((n:Int),VU c.2 b.2 d k)=c.2.length+b.2.length-k:=by
  unfold UD;simp only[bl,r];show c.2.length+b.2.length-((k:Int)).toNat=_;rw[bl]
 rw[p]at t;have g:=bS C B d y (k:=1);rw[show min 1 (c.2.length+b.2.length-k)=1 by omega]at g;show(bd (UN (VU c.2 b.2 d k,((1:Nat):Int))) λF=>_)=_;rw[g,Sn];simp only;rw[Tk (by simp only[AS];omega),Ta,Su,if_pos (by simp only[AS];exact hi),S4 e];unfold aB ZE;simp only[bl,A,h,gM];have e1:(VU c.2 b.2 d k).2.1.2.2=d:=am _ _ _ _;have e2:(VU c.2 b.2 d k).2.2.2.toNat=k:=by show((k:Int)).toNat=k;rw[bl]
 rw[e1,e2];rfl
theorem iY{L:Te}(v:VLev L){n:Nat}(h:(Th L.2 n).length=2):Uu (L,(n:Int))=some (Wh L n,0):=by
 have d:n<L.2.length:=by
  by_cases e:n<L.2.length
  ·exact e
  ·unfold Th at h;rw[a9 (by omega)]at h;cases h
 have i:=v.len;obtain⟨f,g⟩:=v.small;unfold Uu;simp only[Tf,Td];rw[ei _ f g,XN v,Sn,TD,if_pos rfl,TH,if_neg (by omega),TE,if_neg (by omega),TD,if_pos rfl,TE,if_neg (by omega),Ta,S4 (WN d),TH,if_neg (by omega),TI,if_pos rfl,bQ v d,Sn]
 obtain⟨b,c,a⟩:∃ b c,Th L.2 n=[b,c]:=by
  match hq:Th L.2 n with
  |[b,c]=>exact⟨b,c,rfl⟩
  |[]=>rw[hq]at h;cases h
  |[_]=>rw[hq]at h;cases h
  |_::_::_::_=>rw[hq]at h;simp at h
 rw[cM _ (by rw[WN d,a]) (VR.vl' v (n:=n) (by rw[a];simp)) (VR.vl' v (n:=n) (by rw[a];simp)),Sn];unfold Wh;rw[bl,a]
theorem cr(l:List TZ)(c:l.length<=9223372036854775807):Vv (l,l)=some true:=by
 unfold Vv;simp only[Tf,Td];refine Tv (Z8 (r:=(1,(((l.length:Int),false),()))) (λk=>((k:Int),false)) l.length rfl (by omega) (λk a=> ?_) (by simp only;rw[re];rfl)) ?_
 ·have b:l[k]?=some l[k]:=ci a;simp only;rw[rl a,SW,SW,Ta,S4 b,Ta,S4 b,aw,if_pos rfl,Ti (by omega)]
 ·rw[So,if_neg (show ¬ (1=0) by omega)];unfold OX;simp
end
section
open Go Sv
abbrev jm:=(Int×qM)
def dL(j:Job):jm:=(j.1,(j.2.1.1,(j.2.1.2.1,(j.2.1.2.2.1,(j.2.1.2.2.2.1,(j.2.1.2.2.2.2,(j.2.2.1.1,(j.2.2.1.2.1,(j.2.2.1.2.2,(j.2.2.2.1,j.2.2.2.2))))))))))
theorem iK(p:List Job)(x:Job)(d:Int):Ul (p++[x]) d=(Ul p d).or (if x.1=d then some x else none):=by
 unfold Ul;rw[xn]
 congr 1
 rw[iz];unfold cc;rw[Vx];by_cases h:x.1=d
 ·rw[if_pos h,show decide (d=x.1)=true by simp[h]]
 ·rw[if_neg h,show decide (d=x.1)=false by simp;exact λe=>h e.symm];rfl
theorem ju{s:Tb}(w:(s.2.1.map (·.1)).Nodup)(E:s.2.1.length<=1000)(L:Te)(a:Int){D:List Int}{i:Nat}{d:Int}(hi:D[i]?=some d):(loop (λ(c:Int×jm)=>br (Sz c.1 (s.2.1.length:Int)) (λ_=>Rz c.1 λm=>ix s.2.1 m λr=>Rz (i:Int) λn=>ix D n λt=>br (OX r.1 t) (λ_=>Rz (i:Int) λo=>ix D o λu=>br (Rw u a) (λ_=>Rz c.1 λq=>ix s.2.1 q λb=>some (.nx ((SC .i64 c.1 1,(b.1,(b.2.1.1,(b.2.1.2.1,(b.2.1.2.2.1,(b.2.1.2.2.2.1,(b.2.1.2.2.2.2,(b.2.2.1.1,(b.2.2.1.2.1,(b.2.2.1.2.2,b.2.2.2))))))))))))) λ_=>some (.nx (SC .i64 c.1 1,c.2))) λ_=>some (.nx (SC .i64 c.1 1,c.2))) λ_=>some (.dn (((0:Nat),(c,()))))) ((0:Int),dL (Wh L d)))=some (0,(((s.2.1.length:Int),dL (Wn s L a d)),())):=by
 refine U4 (l:=s.2.1) (σ:=Job) (s:=((0:Int),dL (Wh L d))) (λk j=>((k:Int),dL j)) (λls k j=>∃ p,s.2.1=p++ls/\j=(if d=a then none else Ul p d).getD (Wh L d)) (λ_ _ _=>(0,(((s.2.1.length:Int),dL (Wn s L a d)),()))) (Wh L d) rfl (by omega) ⟨[],rfl,by split<;>rfl⟩ (λj h=> ?_) (λk x ls j C y z h=> ?_)
 ·obtain⟨p,e,rfl⟩:=h;rw[fl]at e;simp only;rw[re,R5,<- e];rfl
 ·obtain⟨p,e,rfl⟩:=h
  have B:x.1 ∉ p.map (·.1):=λA=>by
   rw[e,s5,sk]at w;exact w.2.2 _ A x.1 (by simp) rfl
  refine⟨(if d=a then none else Ul (p++[x]) d).getD (Wh L d),?_,⟨p++[x],by rw[e];simp,rfl⟩,rfl⟩
  simp only;rw[rl z,SW,Ta,S4 y,Ta,S4 hi,TD,Ti (by omega),iK];by_cases f:x.1=d
  ·rw[if_pos f,Ta,S4 hi,TI,Ta,S4 y,if_pos f];by_cases g:d=a
   ·rw[if_pos g,if_pos g,if_pos g]
   ·rw[if_neg g,if_neg g,Yx (by rw[<- f];exact B)];rfl
  ·rw[if_neg f,if_neg f];have:(Ul p d).or none=Ul p d:=by cases Ul p d<;>rfl
   rw[this]
theorem au{s:Tb}(B:(s.2.1.map (·.1)).Nodup)(D:s.2.1.length<=1000){L:Te}(v:VLev L)(next b:Int):loop (λ(g:(Int×(Int×((List (List UA))×((List Job)×Int)))))=>br (Sz g.1 ((Tj 0 L.2).length:Int)) (λ_=>Rz g.1 λm=>ix (Tj 0 L.2) m λt=>bd (Uu (((g.2.1,g.2.2.1),t))) λc=>bd (loop (λ(f:Int×jm)=>br (Sz f.1 (s.2.1.length:Int)) (λ_=>Rz f.1 λo=>ix s.2.1 o λu=>Rz g.1 λp=>ix (Tj 0 L.2) p λw=>br (OX u.1 w) (λ_=>Rz g.1 λq=>ix (Tj 0 L.2) q λx=>br (Rw x b) (λ_=>Rz f.1 λr=>ix s.2.1 r λe=>some (.nx ((SC .i64 f.1 1,(e.1,(e.2.1.1,(e.2.1.2.1,(e.2.1.2.2.1,(e.2.1.2.2.2.1,(e.2.1.2.2.2.2,(e.2.2.1.1,(e.2.2.1.2.1,(e.2.2.1.2.2,e.2.2.2))))))))))))) λ_=>some (.nx (SC .i64 f.1 1,f.2))) λ_=>some (.nx (SC .i64 f.1 1,f.2))) λ_=>some (.dn (((0:Nat),(f,()))))) (((0:Int),(c.1.1,(c.1.2.1.1,(c.1.2.1.2.1,(c.1.2.1.2.2.1,(c.1.2.1.2.2.2.1,(c.1.2.1.2.2.2.2,(c.1.2.2.1.1,(c.1.2.2.1.2.1,(c.1.2.2.1.2.2,c.1.2.2.2)))))))))))) λa=>gd (CF (BF g.2.2.2.1.length [((a.2.1.2.1,((a.2.1.2.2.1,(a.2.1.2.2.2.1,(a.2.1.2.2.2.2.1,(a.2.1.2.2.2.2.2.1,a.2.1.2.2.2.2.2.2.1)))),((a.2.1.2.2.2.2.2.2.2.1,(a.2.1.2.2.2.2.2.2.2.2.1,a.2.1.2.2.2.2.2.2.2.2.2.1)),a.2.1.2.2.2.2.2.2.2.2.2.2))):Job)].length) 1048576) λ_=>some (.nx ((SC .i64 g.1 1,(g.2.1,(g.2.2.1,(Ig g.2.2.2.1 ([(a.2.1.2.1,((a.2.1.2.2.1,(a.2.1.2.2.2.1,(a.2.1.2.2.2.2.1,(a.2.1.2.2.2.2.2.1,a.2.1.2.2.2.2.2.2.1)))),((a.2.1.2.2.2.2.2.2.2.1,(a.2.1.2.2.2.2.2.2.2.2.1,a.2.1.2.2.2.2.2.2.2.2.2.1)),a.2.1.2.2.2.2.2.2.2.2.2.2)))]),g.2.2.2.2))))))) λ_=>some (.dn (((0:Nat),(g,()))))) (((0:Int),(L.1,(L.2,(([]:List Job),next)))))=some (0,((((Tj 0 L.2).length:Int),(L.1,(L.2,((Tj 0 L.2).map (Wn s L b),next)))),())):=by
 have I:=v.len;have F:=Vn L.2 0;refine U4 (l:=Tj 0 L.2) (σ:=List Job) (λi js=>((i:Int),(L.1,(L.2,(js,next))))) (λls i js=>js++ls.map (Wn s L b)=(Tj 0 L.2).map (Wn s L b)) (λ_ _ _=>(0,((((Tj 0 L.2).length:Int),(L.1,(L.2,((Tj 0 L.2).map (Wn s L b),next)))),()))) [] rfl (by omega) rfl (λjs h=> ?_) (λi d ls js A hi C h=> ?_)
 ·simp only;rw[re,R5,<- h];simp
 ·refine⟨js++[Wn s L b d],?_,by rw[<- h];simp,rfl⟩;obtain⟨n,J,K,k,E⟩:=ck (co hi);have y:=iY v (n:=n) (by rw[Xe.1 E];rfl);rw[<- k]at y
  have G:js.length<=1000:=by
   have z:=congrArg kd h;rw[gl,o3,o3]at z;omega
  simp only;rw[rl C,SW,Ta,S4 hi];have j:Uu ((L.1,L.2),d)=some (Wh L d,0):=y;rw[j,Sn];refine Tv (ju B D L b hi) ?_;rw[Tk (by simp only[BF,cP,dc];omega),Ti (by omega)];rfl
end
section
open Go Sv
theorem Yc{α β σ S:Type}{l:List α}(c:Nat)(n:c<=1000)(mk:Nat->σ->S)(I:Nat->σ->Prop)(Q:β->Prop){f:S->Option (LR S β)}{s:S}(a:σ)(i:s=mk 0 a)(hi:I 0 a)
  (p:∀ k a,(k=l.length\/k=c)->k<=l.length->I k a -> ∃ r,f (mk k a)=some (.dn r)/\Q r)
  (hc:∀ k x a,l[k]?=some x->k<c->I k a->(∃ b,f (mk k a)=some (.nx (mk (k+1) b))/\I (k+1) b) \/ ∃ r,f (mk k a)=some (.dn r)/\Q r):∃ r,loop f s=some r/\Q r:=by
 refine Vy (l:=l.take c) mk (λ_ k a=>I k a/\k<=(l.take c).length) Q a i (by simp;omega) ⟨hi,by omega⟩ (λa h=>p _ a (by simp;omega) (by simp;omega) h.1) (λk x m a q e o h=> ?_);have d:k<c:=by simp at o;omega
 have g:l[k]?=some x:=by rw[lc]at e;rw[if_pos d]at e;exact e
 rcases hc k x a g d h.1 with⟨b,h1,j⟩|h1
 ·exact .inl ⟨b,h1,j,by omega⟩
 ·exact .inr h1
theorem bz{k c:Nat}(h:k<c):Sz (k:Int) (c:Int)=true:=by unfold Sz;simp;omega
theorem iD{α β:Type}{l:List α}{k c:Nat}(h:k=l.length\/k=c)(b:k<=l.length)(A B C:Option β)(e:B=C):br (Sz (k:Int) (l.length:Int)) (λ_=>br (Sz (k:Int) (c:Int)) (λ_=>A) λ_=>B) (λ_=>C)=C:=by
 rw[TH];by_cases a:(k:Int)<(l.length:Int)
 ·rw[if_pos a,TH,if_neg (by omega),e]
 ·rw[if_neg a]
theorem aR(l:List TZ):∃ b,V4 l=some b/\(b=false->l.length<=30):=by
 unfold V4;simp only[Tf,Td]
 obtain⟨r,m,a⟩:=Yc (l:=l) (σ:=Unit) (s:=((0:Int),false)) 40 (by omega) (λk _=>((k:Int),false)) (λ_ _=>True) (λ(r:Nat×((Int×Bool)×Unit))=>r.1=1\/(r.1=0/\r.2.1.2=true))
  (f:=λs0=>br (Sz s0.1 (l.length:Int)) (λ_=>br (Sz s0.1 40) (λ_=>Rz s0.1 λi=>ix l i λo=>br (Sx (Mg o.1:Int) 100) (λ_=>some (.dn ((0,((s0.1,true),()))))) λ_=>Rz s0.1 λj=>ix l j λp=>br (Sx (Mg p.2.1:Int) 100) (λ_=>some (.dn ((0,((s0.1,true),()))))) λ_=>some (.nx (SC .i64 s0.1 1,s0.2))) λ_=>some (.dn ((1,(s0,()))))) λ_=>some (.dn ((1,(s0,())))))
  () rfl trivial (λk _ h d _=>⟨_,(iD (c:=40) h d _ _ _ rfl),.inl rfl⟩) (λk x _ g d _=>by
   simp only;have e:=(a8.1 g).1;rw[rl e,SW,show Sz (k:Int) 40=true from bz d,SW,Ta,S4 g,TF,Ta,S4 g,TF,Ti (by omega)]
   repeat' split
   all_goals first|exact .inr ⟨_,rfl,.inr ⟨rfl,rfl⟩⟩|exact .inl ⟨(),rfl,trivial⟩)
 rw[m,Sn,So];rcases a with a|⟨a,n⟩
 ·rw[if_neg (show ¬ r.1=0 by omega)];exact⟨_,rfl,λh=>by unfold Sx at h;simp at h;omega⟩
 ·rw[if_pos a,n];exact⟨_,rfl,λh=>by cases h⟩
theorem dV(l:List UA):∃ b,Vr l=some b/\(b=false->l.length<=6 /\ ∀ r∈l,r.2.length<=30):=by
 unfold Vr;simp only[Tf,Td]
 obtain⟨r,w,d⟩:=Yc (l:=l) (σ:=Unit) (s:=((0:Int),false)) 10 (by omega) (λk _=>((k:Int),false)) (λk _=>∀ i x,i<k->l[i]?=some x->x.2.length<=30) (λ(r:Nat×((Int×Bool)×Unit))=>(r.1=1 /\ ∀ i x,i<10->l[i]?=some x->x.2.length<=30)\/(r.1=0/\r.2.1.2=true))
  (f:=λs0=>br (Sz s0.1 (l.length:Int)) (λ_=>br (Sz s0.1 10) (λ_=>Rz s0.1 λu=>ix l u λA=>bd (V4 A.2) λz=>br z (λ_=>some (.dn ((0,((s0.1,true),()))))) λ_=>some (.nx (SC .i64 s0.1 1,s0.2))) λ_=>some (.dn ((1,(s0,()))))) λ_=>some (.dn ((1,(s0,())))))
  () rfl (λi x h=>by omega) (λk _ h j g=>⟨_,(iD (c:=10) h j _ _ _ rfl),.inl ⟨rfl,λi x hi a=>g i x (by have:=(a8.1 a).1;omega) a⟩⟩) (λk x _ a j g=>by
   simp only;have m:=(a8.1 a).1;obtain⟨b,e,p⟩:=aR x.2;rw[rl m,SW,show Sz (k:Int) 10=true from bz j,SW,Ta,S4 a,e,Sn,Ti (by omega)];cases b with
   |true=>exact .inr ⟨_,rfl,.inr ⟨rfl,rfl⟩⟩
   |false=>
    refine .inl ⟨(),rfl,λi y hi n=> ?_⟩;by_cases h:i=k
    ·subst h;rw[a]at n;cases n;exact p rfl
    ·exact g i y (by omega) n)
 rw[w,Sn,So];rcases d with⟨d,o⟩|⟨d,o⟩
 ·rw[if_neg (show ¬ r.1=0 by omega)];refine⟨_,rfl,λh=> ?_⟩;have q:l.length<=6:=by unfold Sx at h;simp at h;omega
  exact⟨q,λr t=>by
   obtain⟨i,hi⟩:=en t
   exact o i r (by have:=(a8.1 hi).1;omega) hi⟩
 ·rw[if_pos d,o];exact⟨_,rfl,λh=>by cases h⟩
theorem iM(L:Te):∃ b,Xp L=some b/\(b=false->L.2.length<=14 /\ ∀ rs∈L.2,rs.length<=6 /\ ∀ r∈rs,r.2.length<=30):=by
 unfold Xp;simp only[Tf,Td]
 obtain⟨r,w,d⟩:=Yc (l:=L.2) (σ:=Unit) (s:=((0:Int),false)) 20 (by omega) (λk _=>((k:Int),false)) (λk _=>∀ i x,i<k->L.2[i]?=some x->x.length<=6 /\ ∀ r∈x,r.2.length<=30) (λ(r:Nat×((Int×Bool)×Unit))=>(r.1=1 /\ ∀ i x,i<20->L.2[i]?=some x->x.length<=6 /\ ∀ r∈x,r.2.length<=30)\/(r.1=0/\r.2.1.2=true))
  (f:=λs0=>br (Sz s0.1 (L.2.length:Int)) (λ_=>br (Sz s0.1 20) (λ_=>Rz s0.1 λu=>ix L.2 u λA=>bd (Vr A) λz=>br z (λ_=>some (.dn ((0,((s0.1,true),()))))) λ_=>some (.nx (SC .i64 s0.1 1,s0.2))) λ_=>some (.dn ((1,(s0,()))))) λ_=>some (.dn ((1,(s0,())))))
  () rfl (λi x h=>by omega) (λk _ h j g=>⟨_,(iD (c:=20) h j _ _ _ rfl),.inl ⟨rfl,λi x hi a=>g i x (by have:=(a8.1 a).1;omega) a⟩⟩) (λk x _ a j g=>by
   simp only;have m:=(a8.1 a).1;obtain⟨b,e,p⟩:=dV x;rw[rl m,SW,show Sz (k:Int) 20=true from bz j,SW,Ta,S4 a,e,Sn,Ti (by omega)];cases b with
   |true=>exact .inr ⟨_,rfl,.inr ⟨rfl,rfl⟩⟩
   |false=>
    refine .inl ⟨(),rfl,λi y hi n=> ?_⟩;by_cases h:i=k
    ·subst h;rw[a]at n;cases n;exact p rfl
    ·exact g i y (by omega) n)
 rw[w,Sn,So];rcases d with⟨d,o⟩|⟨d,o⟩
 ·rw[if_neg (show ¬ r.1=0 by omega)];refine⟨_,rfl,λh=> ?_⟩;have q:L.2.length<=14:=by unfold Sx at h;simp at h;omega
  exact⟨q,λr t=>by
   obtain⟨i,hi⟩:=en t
   exact o i r (by have:=(a8.1 hi).1;omega) hi⟩
 ·rw[if_pos d,o];exact⟨_,rfl,λh=>by cases h⟩
theorem gn(l:List TZ):∃ b,VX l=some b:=by
 unfold VX;simp only[Tf,Td]
 obtain⟨r,j,o⟩:=Yc (l:=l) (σ:=Unit) (s:=((0:Int),false)) 80 (by omega) (λk _=>((k:Int),false)) (λ_ _=>True) (λ(r:Nat×((Int×Bool)×Unit))=>True)
  (f:=λs0=>br (Sz s0.1 (l.length:Int)) (λ_=>br (Sz s0.1 80) (λ_=>Rz s0.1 λg=>ix l g λm=>br (Sx (Mg m.1:Int) 100) (λ_=>some (.dn ((0,((s0.1,true),()))))) λ_=>Rz s0.1 λi=>ix l i λn=>br (Sx (Mg n.2.1:Int) 100) (λ_=>some (.dn ((0,((s0.1,true),()))))) λ_=>some (.nx (SC .i64 s0.1 1,s0.2))) λ_=>some (.dn ((1,(s0,()))))) λ_=>some (.dn ((1,(s0,())))))
  () rfl trivial (λk _ h a _=>⟨_,(iD (c:=80) h a _ _ _ rfl),trivial⟩) (λk x _ e a _=>by
   simp only;have d:=(a8.1 e).1;rw[rl d,SW,show Sz (k:Int) 80=true from bz a,SW,Ta,S4 e,TF,Ta,S4 e,TF,Ti (by omega)]
   repeat' split
   all_goals first|exact .inr ⟨_,rfl,trivial⟩|exact .inl ⟨(),rfl,trivial⟩)
 rw[j,Sn,So];split<;>exact⟨_,rfl⟩
theorem iN(s:Tb):∃ b,Xq s=some b/\(b=false->Sm s /\ ∀ rs∈s.1.2,∀ r∈rs,r.2.length<=30):=by
 unfold Xq;simp only[Tf,Td]
 obtain⟨r,q,g⟩:=Yc (l:=s.2.1) (σ:=Unit) (s:=((0:Int),false)) 20 (by omega) (λk _=>((k:Int),false)) (λ_ _=>True) (λ(r:Nat×((Int×Bool)×Unit))=>r.1=0\/(r.1=1/\r.2.1.2=true))
  (f:=λs0=>br (Sz s0.1 (s.2.1.length:Int)) (λ_=>br (Sz s0.1 20) (λ_=>Rz s0.1 λE=>ix s.2.1 E λi=>bd (loop (λa=>br (Sz a.1 (i.2.1.1.length:Int)) (λ_=>br (Sz a.1 10) (λ_=>Rz a.1 λp=>ix i.2.1.1 p λw=>bd (VX w) λt=>br t (λ_=>some (.dn ((0,((a.1,true),()))))) λ_=>some (.nx (SC .i64 a.1 1,a.2))) λ_=>some (.dn ((1,(a,()))))) λ_=>some (.dn ((1,(a,()))))) (0,s0.2)) λu=>br (neq u.1 0) (λ_=>some (.dn ((1,((s0.1,u.2.1.2),()))))) λ_=>bd (VX i.2.2.2.1) λF=>br F (λ_=>some (.dn ((1,((s0.1,true),()))))) λ_=>br (Sx (i.2.1.1.length:Int) 6) (λ_=>some (.dn ((1,((s0.1,true),()))))) λ_=>br (Sx (i.2.1.2.1.length:Int) 40) (λ_=>some (.dn ((1,((s0.1,true),()))))) λ_=>br (Sx (i.2.1.2.2.1.length:Int) 40) (λ_=>some (.dn ((1,((s0.1,true),()))))) λ_=>br (Sx (i.2.1.2.2.2.1.length:Int) 40) (λ_=>some (.dn ((1,((s0.1,true),()))))) λ_=>br (Sx (Mg i.2.2.1.2.1:Int) 200) (λ_=>some (.dn ((1,((s0.1,true),()))))) λ_=>some (.nx (SC .i64 s0.1 1,u.2.1.2))) λ_=>some (.dn ((0,(s0,()))))) λ_=>some (.dn ((0,(s0,())))))
  () rfl trivial (λk _ h j _=>⟨_,(iD (c:=20) h j _ _ _ rfl),.inl rfl⟩) (λk x _ z j _=>by
   simp only;have m:=(a8.1 z).1;rw[rl m,SW,show Sz (k:Int) 20=true from bz j,SW,Ta,S4 z]
   obtain⟨r,q,g⟩:=Yc (l:=x.2.1.1) (σ:=Unit) (s:=((0:Int),false)) 10 (by omega) (λk _=>((k:Int),false)) (λ_ _=>True) (λ(r:Nat×((Int×Bool)×Unit))=>(r.1=1/\r.2.1.2=false)\/(r.1=0/\r.2.1.2=true))
    (f:=λa=>br (Sz a.1 (x.2.1.1.length:Int)) (λ_=>br (Sz a.1 10) (λ_=>Rz a.1 λp=>ix x.2.1.1 p λw=>bd (VX w) λt=>br t (λ_=>some (.dn ((0,((a.1,true),()))))) λ_=>some (.nx (SC .i64 a.1 1,a.2))) λ_=>some (.dn ((1,(a,()))))) λ_=>some (.dn ((1,(a,())))))
    () rfl trivial (λk _ h j _=>⟨_,(iD (c:=10) h j _ _ _ rfl),.inl ⟨rfl,rfl⟩⟩) (λk y _ A j _=>by
     simp only;have m:=(a8.1 A).1;obtain⟨b,e⟩:=gn y;rw[rl m,SW,show Sz (k:Int) 10=true from bz j,SW,Ta,S4 A,e,Sn,Ti (by omega)];cases b with
     |true=>exact .inr ⟨_,rfl,.inr ⟨rfl,rfl⟩⟩
     |false=>exact .inl ⟨(),rfl,trivial⟩)
   obtain⟨b,e⟩:=gn x.2.2.2.1;rw[q,Sn,So,e];rcases g with⟨g,n⟩|⟨g,n⟩
   ·rw[if_neg (show ¬ r.1=0 by omega),Sn,TL,TF,TF,TF,TF,TF,n,Ti (by omega)]
    repeat' split
    all_goals first|exact .inr ⟨_,rfl,.inr ⟨rfl,rfl⟩⟩|exact .inl ⟨(),rfl,trivial⟩
   ·rw[if_pos g,n]
    exact .inr ⟨_,rfl,.inr ⟨rfl,rfl⟩⟩)
 rw[q,Sn,So];rcases g with g|⟨g,n⟩
 ·rw[if_pos g,TF];by_cases h:(s.2.1.length:Int)>14
  ·rw[if_pos h];exact⟨_,rfl,λh=>by cases h⟩
  ·rw[if_neg h];obtain⟨b,e,C⟩:=iM s.1;rw[e];refine⟨b,rfl,λB=> ?_⟩;obtain⟨G,o⟩:=C B;exact⟨⟨by omega,λrs d=>⟨by have:=(o rs d).1;omega,λr D=>by have:=(o rs d).2 r D;omega⟩,by omega⟩,λrs d=>(o rs d).2⟩
 ·rw[if_neg (show ¬ r.1=0 by omega),n];exact⟨_,rfl,λh=>by cases h⟩
end
section
open Go Sv
end
section
open Go Sv
theorem kl(L:Te)(n:Nat):XG (L,(n:Int))=some (Th L.2 n):=by
 unfold XG;simp only[Tf,Td];rw[TE];by_cases h:n<L.2.length
 ·rw[if_neg (by omega),Ta,S4 (WN h)]
 ·rw[if_pos (by omega)];unfold Th;rw[a9 (by omega)];rfl
theorem bO{s:Tb}(v:VSt s)(hf:jl s.1){n:Nat}{j:Job}(ha:JobAt s.1 n j)(h0:¬ 0<UD s.1 j)(hc:V9 s.1 j=true)(h5:Uq j≠[]->s.2.2<=1000000){X:Int}(D:X=(Ym s j:Int)) :
  (bd (VZ ((s.1,((n:Int),[])))) λp=>br (Sx (Kh (AS j.2.2.2.1)) 0) (λ_=>bd (XG (p,X)) λw=>gd (CF (AS w) 1048576) λ_=>gd (CF (BF (AS w) (AS ([(s.2.2,j.2.2.2.1)]))) 1048576) λ_=>bd (VZ ((p,(X,Ig w ([(s.2.2,j.2.2.2.1)]))))) λy=>bd (Uk y) λq=>bd (loop (λ(c:(Int×qL))=>br (Sz c.1 (Kh (AS q))) (λ_=>Rz c.1 λE=>ix q E λY=>bd (Uu (((c.2.1,c.2.2.1),Y))) λe=>bd (loop (λ(l:(Int×(Int×qM)))=>br (Sz l.1 (Kh (AS s.2.1))) (λ_=>Rz l.1 λG=>ix s.2.1 G λZ=>Rz c.1 λI=>ix q I λx52=>br (OX Z.1 x52) (λ_=>Rz c.1 λJ=>ix q J λx54=>br (Rw x54 (n:Int)) (λ_=>Rz l.1 λK=>ix s.2.1 K λg=>some (.nx ((SC .i64 l.1 1,(g.1,(g.2.1.1,(g.2.1.2.1,(g.2.1.2.2.1,(g.2.1.2.2.2.1,(g.2.1.2.2.2.2,(g.2.2.1.1,(g.2.2.1.2.1,(g.2.2.1.2.2,g.2.2.2))))))))))))) λ_=>some (.nx (SC .i64 l.1 1,l.2))) λ_=>some (.nx (SC .i64 l.1 1,l.2))) λ_=>some (.dn ((0,(l,()))))) ((0,(e.1.1,(e.1.2.1.1,(e.1.2.1.2.1,(e.1.2.1.2.2.1,(e.1.2.1.2.2.2.1,(e.1.2.1.2.2.2.2,(e.1.2.2.1.1,(e.1.2.2.1.2.1,(e.1.2.2.1.2.2,e.1.2.2.2)))))))))))) λa=>gd (CF (BF (AS c.2.2.2.1) (AS ([(a.2.1.2.1,((a.2.1.2.2.1,(a.2.1.2.2.2.1,(a.2.1.2.2.2.2.1,(a.2.1.2.2.2.2.2.1,a.2.1.2.2.2.2.2.2.1)))),((a.2.1.2.2.2.2.2.2.2.1,(a.2.1.2.2.2.2.2.2.2.2.1,a.2.1.2.2.2.2.2.2.2.2.2.1)),a.2.1.2.2.2.2.2.2.2.2.2.2)))]))) 1048576) λ_=>some (.nx ((SC .i64 c.1 1,(c.2.1,(c.2.2.1,(Ig c.2.2.2.1 ([(a.2.1.2.1,((a.2.1.2.2.1,(a.2.1.2.2.2.1,(a.2.1.2.2.2.2.1,(a.2.1.2.2.2.2.2.1,a.2.1.2.2.2.2.2.2.1)))),((a.2.1.2.2.2.2.2.2.2.1,(a.2.1.2.2.2.2.2.2.2.2.1,a.2.1.2.2.2.2.2.2.2.2.2.1)),a.2.1.2.2.2.2.2.2.2.2.2.2)))]),c.2.2.2.2))))))) λ_=>some (.dn ((0,(c,()))))) ((0,(y.1,(y.2,([],SC .i64 s.2.2 1)))))) λz=>some ((((z.2.1.2.1,z.2.1.2.2.1),z.2.1.2.2.2),0))) λ_=>bd (Uk p) λt=>bd (loop (λ(d:(Int×qL))=>br (Sz d.1 (Kh (AS t))) (λ_=>Rz d.1 λN=>ix t N λx62=>bd (Uu (((d.2.1,d.2.2.1),x62))) λf=>bd (loop (λ(m:(Int×(Int×qM)))=>br (Sz m.1 (Kh (AS s.2.1))) (λ_=>Rz m.1 λO=>ix s.2.1 O λx66=>Rz d.1 λP=>ix t P λx68=>br (OX x66.1 x68) (λ_=>Rz d.1 λS=>ix t S λx70=>br (Rw x70 (n:Int)) (λ_=>Rz m.1 λU=>ix s.2.1 U λk=>some (.nx ((SC .i64 m.1 1,(k.1,(k.2.1.1,(k.2.1.2.1,(k.2.1.2.2.1,(k.2.1.2.2.2.1,(k.2.1.2.2.2.2,(k.2.2.1.1,(k.2.2.1.2.1,(k.2.2.1.2.2,k.2.2.2))))))))))))) λ_=>some (.nx (SC .i64 m.1 1,m.2))) λ_=>some (.nx (SC .i64 m.1 1,m.2))) λ_=>some (.dn ((0,(m,()))))) ((0,(f.1.1,(f.1.2.1.1,(f.1.2.1.2.1,(f.1.2.1.2.2.1,(f.1.2.1.2.2.2.1,(f.1.2.1.2.2.2.2,(f.1.2.2.1.1,(f.1.2.2.1.2.1,(f.1.2.2.1.2.2,f.1.2.2.2)))))))))))) λb=>gd (CF (BF (AS d.2.2.2.1) (AS ([(b.2.1.2.1,((b.2.1.2.2.1,(b.2.1.2.2.2.1,(b.2.1.2.2.2.2.1,(b.2.1.2.2.2.2.2.1,b.2.1.2.2.2.2.2.2.1)))),((b.2.1.2.2.2.2.2.2.2.1,(b.2.1.2.2.2.2.2.2.2.2.1,b.2.1.2.2.2.2.2.2.2.2.2.1)),b.2.1.2.2.2.2.2.2.2.2.2.2)))]))) 1048576) λ_=>some (.nx ((SC .i64 d.1 1,(d.2.1,(d.2.2.1,(Ig d.2.2.2.1 ([(b.2.1.2.1,((b.2.1.2.2.1,(b.2.1.2.2.2.1,(b.2.1.2.2.2.2.1,(b.2.1.2.2.2.2.2.1,b.2.1.2.2.2.2.2.2.1)))),((b.2.1.2.2.2.2.2.2.2.1,(b.2.1.2.2.2.2.2.2.2.2.1,b.2.1.2.2.2.2.2.2.2.2.2.1)),b.2.1.2.2.2.2.2.2.2.2.2.2)))]),d.2.2.2.2))))))) λ_=>some (.dn ((0,(d,()))))) ((0,(p.1,(p.2,([],s.2.2)))))) λA=>some ((((A.2.1.2.1,A.2.1.2.2.1),A.2.1.2.2.2),0)):Option (Tb×Int))=some (YP s (Vb s j) (YE s j) j.1,0):=by
 have F:=gR v hf ha h0 hc h5;obtain⟨o1,o2,W,o4,o5⟩:=ha.out v.lev (hf n);have hj:j.1.toNat=n:=by rw[W];simp
 have hn2:=v.n2;have hn1:=v.n1;have hjs:=v.jsmall;have o:=F.lev;have hl:=v.lev.len;have hl1:=F.l1.len;have small:∀ {M:Te},VLev M -> ∀ i,(Th M.2 i).length<=1048576:=λvM i=>by have:=(vM.own i).1;omega
 rw[di (by omega) (by omega) (by simp) (small v.lev),Sn];simp only[Tf,Td];rw[TF];by_cases u:Uq j=[]
 ·rw[if_neg (show ¬ ((j.2.2.2.1.length:Int)>0) by rw[show j.2.2.2.1=[]from u];simp)];have B:Vb s j=Us s.1 n []:=by unfold Vb;rw[if_pos u,hj]
  have C:YE s j=s.2.2:=by unfold YE;rw[if_pos u]
  rw[<- B,al (by have:=o.len;omega),Sn];refine Tv (au v.nodup (by omega) o s.2.2 (n:Int)) ?_;rw[C,W];rfl
 ·rw[if_pos (show((j.2.2.2.1.length:Int)>0) by have:=eb.2 u;have h:(Uq j).length=j.2.2.2.1.length:=rfl;omega),D,kl,Sn];have hro:=F.room u;have ht:=F.to12 u
  have B:Vb s j=Us (Us s.1 n []) (Ym s j) (Th (Us s.1 n []).2 (Ym s j)++[(s.2.2,Uq j)]):=by
   unfold Vb;rw[if_neg u,hj]
  have C:YE s j=s.2.2+1:=by unfold YE;rw[if_neg u]
  rw[Tk (by omega),Tk (by simp only[BF,cP,dc];omega)];have hW:=di (L:=Us s.1 n []) (n:=Ym s j) (r:=Th (Us s.1 n []).2 (Ym s j)++[(s.2.2,Uq j)]) (by omega) (by omega) (by simp;omega) (small F.l1);rw[<- B]at hW;refine Tv (x:=Vb s j) hW ?_;rw[al (by have:=o.len;omega),Sn,Sb (by omega)];refine Tv (au v.nodup (by omega) o (s.2.2+1) (n:Int)) ?_;rw[C,W];rfl
theorem dh{s:Tb}(m:Sm s)(l:jl s.1)(a:Int):Ws (s,a)=some (W3 zS Zg s a):=by
 unfold Ws;rw[eY m,Sn,ZT m,cm m];unfold W3;by_cases b:(Tc s).2=0;rotate_left
 ·rw[if_pos b,TI,if_neg b,if_pos b];rfl
 rw[if_neg (show ¬ (Tc s).2≠0 by simp[b]),if_neg (show ¬ (Tc s).2≠0 by simp[b]),if_neg (show ¬ (Tc s).2≠0 by simp[b])];have v:=Tl.1 b;unfold bZ YY;rw[if_neg (show ¬ (Tc s).2≠0 by simp[b])];cases q:Z3 a 0 (Tj 0 s.1.2)with
 |none=>rfl
 |some i=>
  obtain⟨j,n,o,p,f,k,r⟩:=v.at q;have:=v.lev.len;subst p;simp only[o];unfold Zg aF;by_cases c:0<UD s.1 j
  ·rw[if_pos c,if_pos (.inl c)];rfl
  rw[if_neg c]
  have g:(if V7 s.1 j=true then(j.1,(0:Int))else(j.1+1,0))=((Ym s j:Int),0):=by
   unfold Ym;split<;>rw[f]<;>simp
  rw[g,TI,if_pos rfl,Sn,Ta,S4 o,Sn,UI,TL];by_cases hc:V9 s.1 j=true;rotate_left
  ·rw[if_neg hc,if_pos (.inr (by simpa using hc))];rfl
  rw[if_pos hc,if_neg (show ¬ (0<UD s.1 j\/V9 s.1 j=false) by rw[hc];simp;omega),TF];by_cases e:s.2.2>1000000
  ·rw[if_pos e,TF];by_cases d:Uq j=[]
   ·rw[if_neg (show ¬ (Kh (AS j.2.2.2.1)>0) by rw[show j.2.2.2.1=[]from d];simp[Tf,Td]),if_neg (by simp[d])];dsimp only;exact bO v l k c hc (λh=>absurd d h) rfl
   ·rw[if_pos (show Kh (AS j.2.2.2.1)>0 by have:=eb.2 d;have h:(Uq j).length=j.2.2.2.1.length:=rfl;rw[Tf,Td];omega),if_pos ⟨e,d⟩];rfl
  ·rw[if_neg e,if_neg (by simp[e])];dsimp only;exact bO v l k c hc (λh=>by omega) rfl
theorem iX{s:Tb}(m:Sm s)(f:jl s.1)(a:Int):Yu (s,a)=some (Wo s a):=by
 unfold Yu;rw[cm m,Sn,Zb m,dh m f];unfold W3 Wo;by_cases b:(Tc s).2=0;rotate_left
 ·rw[if_pos b,if_pos b,TD,if_neg b];rw[TI,if_neg b,if_pos b];rfl
 rw[if_neg (show ¬ (Tc s).2≠0 by simp[b]),if_neg (show ¬ (Tc s).2≠0 by simp[b]),if_neg (show ¬ (Tc s).2≠0 by simp[b]),if_neg (show ¬ (Tc s).2≠0 by simp[b])];have v:=Tl.1 b;unfold bZ;cases e:Z3 a 0 (Tj 0 s.1.2)with
 |none=>
  simp only;rw[TD,if_neg (by omega),TI,if_neg (by omega)];rfl
 |some i=>
  obtain⟨j,n,d,k,g,h,l⟩:=v.at e;simp only[d];unfold YN;rw[TD,if_pos rfl,UI,TL];by_cases hc:V9 s.1 j=true;rotate_left
  ·rw[if_neg hc,if_pos (by simpa using hc)];rfl
  rw[if_pos hc,if_neg (by simp[hc]),TI,if_pos rfl,Sn,TF];by_cases c:0<UD s.1 j
  ·rw[if_pos (show((UD s.1 j:Int))>0 by omega),if_pos c,ib m v e d c];rfl
  ·rw[if_neg (show ¬ ((UD s.1 j:Int))>0 by omega),if_neg c];rfl
end
section
open Go Sv
def UK(l:List TZ)(k:V8):Option TZ:=l.find? λx=>decide (x.1=k)
theorem Tu(x:TZ)(l:List TZ)(k:V8):UK (x::l) k=if x.1=k then some x else UK l k:=by
 unfold UK;rw[iz];by_cases h:x.1=k<;>simp[h]
theorem ZK(l m:List TZ)(k:V8):UK (l++m) k=(UK l k).or (UK m k):=by
 unfold UK;rw[xn]
theorem Xi(x:TZ)(k:V8):UK [x] k=if x.1=k then some x else none:=by rw[Tu];rfl
theorem bA{l:List TZ}{k:V8}{x:TZ}(h:UK l k=some x):x.1=k/\x∈l:=by
 unfold UK at h;exact⟨by simpa using yk h,vv h⟩
theorem X4{l:List TZ}{k:V8}(h:∀ x∈l,x.1≠k):UK l k=none:=by
 unfold UK;rw[xk];intro x a;simpa using h x a
theorem X6:∀ {l:List TZ} {q:V8},Asc (some q) l -> ∀ x∈l,SP q x.1=true
 |x::l,q,⟨a,b⟩,y,hy=>by
  rcases ee.1 hy with e|hy
  ·rw[e];exact a q rfl
  ·exact VD (a q rfl) (X6 b y hy)
theorem cU:∀ {l m:List TZ} {p q:Option V8},Asc p l->Asc q m->(∀ k,UK l k=UK m k)->l=m
 |[],[],_,_,_,_,_=>rfl
 |[],y::m,_,_,_,_,h=>by
  have:=h y.1;rw[Tu,if_pos rfl]at this;cases this
 |x::l,[],_,_,_,_,h=>by
  have:=h x.1;rw[Tu,if_pos rfl]at this;cases this
 |x::l,y::m,p,q,⟨t,f⟩,⟨s,d⟩,h=>by
  have e1:=h x.1;have e2:=h y.1;rw[Tu,if_pos rfl,Tu]at e1;rw[Tu,Tu,if_pos rfl]at e2
  have g:x.1=y.1:=by
   by_cases b:y.1=x.1
   ·exact b.symm
   ·rw[if_neg b]at e1;rw[if_neg (λe=>b e.symm)]at e2;have n:=X6 d x (bA e1.symm).2;have j:=X6 f y (bA e2).2;rw[Ur n]at j;cases j
  rw[if_pos g.symm]at e1;have c:x=y:=Option.some.inj e1;subst c;refine congrArg (x::·) (cU f d λk=> ?_);have b:=h k;rw[Tu,Tu]at b;by_cases a:x.1=k
  ·have o:UK l k=none:=X4 λz i=>by
    have:=X6 f z i;rw[a]at this;exact λe=>Xk this e.symm
   have r:UK m k=none:=X4 λz i=>by
    have:=X6 d z i;rw[a]at this;exact λe=>Xk this e.symm
   rw[o,r]
  ·rw[if_neg a,if_neg a]at b;exact b
theorem XP(P:TZ->Bool):∀ {l:List TZ} {p:Option V8},Asc p l->Asc p (l.filter P)
 |[],_,_=>trivial
 |x::l,p,⟨b,d⟩=>by
  have c:=XP P d;rw[sp];cases P x with
  |true=>exact⟨b,c⟩
  |false=>
   refine c.weak λe a=>⟨x.1,rfl,?_⟩;exact Ur (b e a)
theorem W2(P:TZ->Bool)(k:V8):∀ {l:List TZ} {p:Option V8},Asc p l->UK (l.filter P) k=(UK l k).filter P
 |[],_,_=>rfl
 |x::l,p,⟨h,c⟩=>by
  have d:=W2 P k c;rw[sp,Tu];by_cases a:x.1=k
  ·rw[if_pos a]
   have f:UK (l.filter P) k=none:=X4 λz g=>by
    have:=X6 c z (List.mem_filter.1 g).1;rw[a]at this;exact λe=>Xk this e.symm
   cases b:P x with
   |true=>rw[if_pos rfl,Tu,if_pos a];simp[ol,b]
   |false=>rw[if_neg (by simp),f];simp[ol,b]
  ·rw[if_neg a];cases b:P x with
   |true=>rw[if_pos rfl,Tu,if_neg a];exact d
   |false=>simpa using d
def VN:List TZ->TZ->List TZ
 |[],x=>[x]
 |y::l,x=>if SP y.1 x.1=true then y::VN l x else if y.1=x.1 then y::l else x::y::l
theorem cx(x:TZ):∀ {l:List TZ} {p:Option V8},Asc p l->(∀ q,p=some q->SP q x.1=true)->Asc p (VN l x)
 |[],p,_,hp=>⟨hp,trivial⟩
 |y::l,p,⟨d,a⟩,hp=>by
  unfold VN;by_cases h:SP y.1 x.1=true
  ·rw[if_pos h];exact⟨d,cx x a λq c=>by cases c;exact h⟩
  ·rw[if_neg h];by_cases b:y.1=x.1
   ·rw[if_pos b];exact⟨d,a⟩
   ·rw[if_neg b];exact⟨hp,λq c=>by cases c;exact ZA (by simpa using h) b,a⟩
theorem cy(x:TZ)(k:V8):∀ {l:List TZ} {p:Option V8},Asc p l->UK (VN l x) k=(UK l k).or (if x.1=k then some x else none)
 |[],_,_=>by unfold VN;rw[Xi];rfl
 |y::l,p,⟨f,d⟩=>by
  unfold VN;by_cases h:SP y.1 x.1=true
  ·rw[if_pos h,Tu,Tu,cy x k d];split<;>rfl
  ·rw[if_neg h];by_cases b:y.1=x.1
   ·rw[if_pos b,Tu,<- b];by_cases a:y.1=k
    ·rw[if_pos a];rfl
    ·rw[if_neg a,if_neg a];cases UK l k<;>rfl
   ·rw[if_neg b,Tu];have c:SP x.1 y.1=true:=ZA (by simpa using h) b;by_cases a:x.1=k
    ·rw[if_pos a]
     have:UK (y::l) k=none:=X4 λz hz=>by
      rw[<- a];rcases ee.1 hz with e|hz
      ·rw[e];exact b
      ·exact λe=>Xk (VD c (X6 d z hz)) e.symm
     rw[this,if_pos a];rfl
    ·rw[if_neg a,if_neg a];cases UK (y::l) k<;>rfl
theorem ZU(k:V8):∀ (r l:List TZ),Asc none l->Asc none (r.foldl VN l)/\UK (r.foldl VN l) k=(UK l k).or (UK r k)
 |[],l,h=>⟨h,by show UK l k=_;cases UK l k<;>rfl⟩
 |x::r,l,h=>by
  obtain⟨a,b⟩:=ZU k r (VN l x) (cx x h λ_ h=>by cases h);refine⟨a,?_⟩;rw[gq,b,cy x k h,Tu,hV]
  congr 1
  split<;>rfl
def ae(rs:List UA)(l:List TZ):List TZ:=rs.foldl (λout r=>r.2.foldl VN out) l
def Un:List UA->V8->Option TZ
 |[],_=>none
 |r::rs,k=>(UK r.2 k).or (Un rs k)
theorem Zw(k:V8):∀ (rs:List UA) (l:List TZ),Asc none l->Asc none (ae rs l)/\UK (ae rs l) k=(UK l k).or (Un rs k)
 |[],l,h=>⟨h,by show UK l k=_;cases UK l k<;>rfl⟩
 |r::rs,l,h=>by
  obtain⟨a,b⟩:=ZU k r.2 l h;obtain⟨c,d⟩:=Zw k rs (r.2.foldl VN l) a;refine⟨c,?_⟩;show UK (ae rs (r.2.foldl VN l)) k=_;rw[d,b,hV];rfl
def UF(x:TZ):Bool:=!x.2.2.1
def LD(L:Te):List TZ:=(ae (UJ L.2) []).filter UF
theorem kG{L M:Te}(h:∀ k,(Un (UJ L.2) k).filter UF=(Un (UJ M.2) k).filter UF):LD L=LD M:=by
 have a:=λk=>Zw k (UJ L.2) [] trivial;have b:=λk=>Zw k (UJ M.2) [] trivial;refine cU (XP UF (a []).1) (XP UF (b []).1) λk=> ?_;show UK ((ae (UJ L.2) []).filter UF) k=UK ((ae (UJ M.2) []).filter UF) k;rw[W2 UF k (a []).1,W2 UF k (b []).1,(a k).2,(b k).2];exact h k
theorem dW:∀ (a b:List UA) (k:V8),Un (a++b) k=(Un a k).or (Un b k)
 |[],b,k=>rfl
 |r::a,b,k=>by
  show(UK r.2 k).or (Un (a++b) k)=((UK r.2 k).or (Un a k)).or (Un b k);rw[dW a b k,hV]
theorem gf:∀ {l:List TZ} {s:Uh} {k:V8},aG s l->s.1=true->SP k s.2.1=true->UK l k=none
 |[],_,_,_,_,_=>rfl
 |x::l,s,k,⟨_,c,d⟩,b,hk=>by
  have a:SP k x.1=true:=d6 hk (c b);rw[Tu,if_neg (λe=>Xk a e.symm)];exact gf d rfl a
theorem dJ(k:V8):∀ {l:List TZ} {s:Uh},aG s l->UK (WO s l) k=if s.1=true/\s.2.1=k then none else(UK l k).filter λx=> !(s.2.2&&x.2.2.1)
 |[],s,_=>by unfold WO;split<;>rfl
 |x::l,s,⟨_,g,c⟩=>by
  have f:=dJ k c;simp only[true_and]at f;unfold WO;rw[ZK,f,Tu];by_cases a:x.1=k
  ·rw[if_pos a,if_pos a];by_cases hs:s.1=true/\s.2.1=k
   ·rw[if_pos hs];have:keep s x=false:=by unfold keep;rw[hs.1,hs.2,a];simp
    rw[this];rfl
   ·rw[if_neg hs]
    have:keep s x = !(s.2.2&&x.2.2.1):=by
     unfold keep
     have:(s.1&&decide (x.1=s.2.1))=false:=by
      cases b:s.1 with
      |false=>rfl
      |true=>
       simp only[Bool.true_and,decide_eq_false_iff_not];intro e;exact hs ⟨b,by rw[<- e];exact a⟩
     rw[this];rfl
    rw[this];cases d:(!(s.2.2&&x.2.2.1))with
    |true=>rw[if_pos rfl,Xi,if_pos a];simp[ol,d]
    |false=>rw[if_neg (by simp)];simp[ol,d,UK]
  ·rw[if_neg a,if_neg a]
   have b:UK (if keep s x=true then[x]else[]) k=none:=by
    split
    ·rw[Xi,if_neg a]
    ·rfl
   rw[b,l4];by_cases hs:s.1=true/\s.2.1=k
   ·rw[if_pos hs]
    have h:SP k x.1=true:=by
     rw[<- hs.2];refine ZA (g hs.1) λe=>a ?_;rw[e];exact hs.2
    rw[gf c rfl h];rfl
   ·rw[if_neg hs]
theorem bH{a b:List TZ}(va:VL a)(l:VL b)(k:V8):∀ {n:Nat},n<=a.length+b.length->UK (Tw a b n) k=(UK (a.take (To a b n).1) k).or (UK (b.take (To a b n).2) k)
 |0,_=>rfl
 |n+1,h=>by
  have G:=bH va l k (n:=n) (by omega);obtain⟨q,hs⟩:=WX va l (n:=n) (by omega);obtain⟨x,c,_⟩:=Vz va l (n:=n) (by omega);rw[Wv va l c,ZK,G,Xi];unfold ab at c;rw[show To a b (n+1)=if X5 a b (To a b n).1 (To a b n).2=true then((To a b n).1+1,(To a b n).2)else((To a b n).1,(To a b n).2+1)from rfl]
  revert c q;generalize (To a b n).1=i;generalize (To a b n).2=j;intro q c;cases g:X5 a b i j with
  |true=>
   rw[if_pos g]at c;rw[if_pos rfl];simp only;rw[iP,c,xb,ZK,Xi,hV,hV]
   congr 1
   by_cases r:x.1=k
   ·rw[if_pos r]
    have:UK (b.take j) k=none:=X4 λy F=>by
     obtain⟨m,o⟩:=en F;rw[lc]at o;split at o
     ·rename_i E;have D:=q.jb;have f:b[j-1]?=some b[j-1]:=ci (by omega);have B:=q.pb (j-1) (by omega) _ x f c
      have C:SP b[j-1].1 y.1=false:=by
       by_cases s:m=j-1
       ·subst s;rw[f]at o;cases o;exact Vk _
       ·have A:=l.asc
        have:∀ d,m+d+1<=j-1 -> ∀ z,b[m+d+1]?=some z->SP y.1 z.1=true:=by
         intro d
         induction d with
         |zero=>intro _ z t;exact l.lt o t
         |succ d u=>
          intro I z t;have p:b[m+d+1]?=some b[m+d+1]:=ci (by omega);exact VD (u (by omega) _ p) (l.lt p t)
        exact Ur (this (j-1-m-1) (by omega) _ (by rw[show m+(j-1-m-1)+1=j-1 by omega];exact f))
      intro e;have w:SP y.1 x.1=true:=bW C B;rw[e,r,Vk]at w;cases w
     ·cases o
    rw[this];rfl
   ·rw[if_neg r];cases UK (b.take j) k<;>rfl
  |false=>
   rw[if_neg (show ¬ X5 a b i j=true by rw[g];decide)]at c;rw[if_neg (show ¬ (false=true) by decide)];simp only;rw[iP,c,xb,ZK,Xi,hV]
theorem p8{a b:List TZ}(va:VL a)(e:VL b)(c:Bool)(k:V8):UK (VU a b c (a.length+b.length)).2.2.1 k=((UK a k).or (UK b k)).filter λx=> !(c&&x.2.2.1):=by
 have f:=XT va e c (eg (a.length+b.length));obtain⟨d,hs⟩:=WX va e (eg (a.length+b.length));show UK (WO (s0 c) (Tw a b (a.length+b.length))) k=_;rw[dJ k f,if_neg (by simp),bH va e k (eg _)];rw[eo (by have:=d.ia;have:=d.jb;omega),eo (by have:=d.ia;have:=d.jb;omega)]
end
section
open Go Sv
def Zv(f:Nat->Option TZ):Nat->Nat->Option TZ
 |_,0=>none
 |i,m+1=>(f i).or (Zv f (i+1) m)
theorem gU(f:Nat->Option TZ):∀ (m i:Nat),Zv f (i+1) m=Zv (λj=>f (j+1)) i m
 |0,_=>rfl
 |m+1,i=>by
  show(f (i+1)).or (Zv f (i+1+1) m)=(f (i+1)).or (Zv (λj=>f (j+1)) (i+1) m);rw[gU f m (i+1)]
theorem X9{f g:Nat->Option TZ}:∀ (m i:Nat),(∀ j,i<=j->j<i+m->f j=g j)->Zv f i m=Zv g i m
 |0,_,_=>rfl
 |m+1,i,h=>by
  show(f i).or (Zv f (i+1) m)=(g i).or (Zv g (i+1) m);rw[h i (by omega) (by omega),X9 m (i+1) λj a b=>h j (by omega) (by omega)]
theorem cf:∀ (m i:Nat),Zv (λ_=>none) i m=none
 |0,_=>rfl
 |m+1,i=>by show(none:Option TZ).or _=_;rw[l4];exact cf m (i+1)
theorem bF(f:Nat->Option TZ):∀ (p i q:Nat),Zv f i (p+q)=(Zv f i p).or (Zv f (i+p) q)
 |0,i,q=>by rw[ey];rfl
 |p+1,i,q=>by
  rw[show p+1+q=(p+q)+1 by omega];show(f i).or (Zv f (i+1) (p+q))=((f i).or (Zv f (i+1) p)).or (Zv f (i+(p+1)) q);rw[bF f p (i+1) q,hV,show i+1+p=i+(p+1) by omega]
theorem Yg(k:V8):∀ (ls:List (List UA)) (K:Nat),ls.length<=K->Un (UJ ls) k=Zv (λj=>Un (Th ls j).reverse k) 0 K
 |[],K,_=>by
  have:(λj=>Un (Th [] j).reverse k)=λ_=>none:=by
   funext j;have:Th [] j=[]:=rfl
   rw[this];rfl
  rw[this,cf];rfl
 |rs::ls,0,h=>by simp at h
 |rs::ls,K+1,h=>by
  have e:UJ (rs::ls)=rs.reverse++UJ ls:=rfl;rw[e,dW,Yg k ls K (by simpa using h)];show _=(Un (Th (rs::ls) 0).reverse k).or (Zv (λj=>Un (Th (rs::ls) j).reverse k) (0+1) K);rw[gU];rfl
theorem iL{s:Tb}(v:VSt s)(C:jl s.1){n:Nat}{j:Job}(r:JobAt s.1 n j)(E:¬ 0<UD s.1 j)(hc:V9 s.1 j=true)(G:Uq j≠[]->s.2.2<=1000000):LD (Vb s j)=LD s.1:=by
 have F:=gR v C r E hc G;obtain⟨W,X,L,Y,Z⟩:=r.out v.lev (C n);have d:j.1.toNat=n:=by rw[L];simp
 obtain⟨b,c,q,m,B,f,P,t,M,N⟩:=r;have K:=Xe.1 B
 have O:UD s.1 j=c.2.length+b.2.length-m:=by
  rw[f];unfold UD;simp only[bl,B];show c.2.length+b.2.length-((m:Int)).toNat=_;rw[bl]
 have u:m=c.2.length+b.2.length:=by omega
 subst u
 have p:∀ k,UK (Uq j) k=((UK c.2 k).or (UK b.2 k)).filter λx=> !(q&&x.2.2.1):=λk=>by
  rw[f];exact p8 N M q k
 refine kG λk=> ?_;have S:=F.lev.len;have U:=v.lev.len;rw[Yg k _ 14 (by omega),Yg k _ 14 (by omega)];rw[show 14=n+(1+(13-n)) by omega,bF,bF _ n 0];have w:Ym s j=n\/Ym s j=n+1:=by unfold Ym;rw[d];split<;>omega
 have l:Zv (λi=>Un (Th (Vb s j).2 i).reverse k) 0 n=Zv (λi=>Un (Th s.1.2 i).reverse k) 0 n:=X9 _ _ λi _ hi=>by
  rw[WB d,if_neg (by rintro⟨_,h⟩;omega),if_neg (by omega)]
 rw[l];generalize Zv (λi=>Un (Th s.1.2 i).reverse k) 0 n=A
 have y:Zv (λi=>Un (Th (Vb s j).2 i).reverse k) (0+n) (1+(13-n))=(UK (Uq j) k).or (Zv (λi=>Un (Th s.1.2 i).reverse k) (n+1) (13-n)):=by
  rw[ey,F2 1];show(Un (Th (Vb s j).2 n).reverse k).or (Zv (λi=>Un (Th (Vb s j).2 i).reverse k) (n+1) (13-n))=_;by_cases a:Uq j=[]
  ·rw[WB d,if_neg (by simp[a]),if_pos rfl,a];refine congrArg _ (X9 _ _ λi hi _=> ?_);rw[WB d,if_neg (by simp[a]),if_neg (by omega)]
  ·rcases w with ht|ht
   ·rw[WB d,if_pos ⟨a,ht.symm⟩,if_pos rfl]
    have e:Un (([]:List UA)++[(s.2.2,Uq j)]).reverse k=UK (Uq j) k:=by
     show(UK (Uq j) k).or none=_;cases UK (Uq j) k<;>rfl
    rw[e];refine congrArg _ (X9 _ _ λi hi _=> ?_);rw[WB d,if_neg (by rintro⟨_,h⟩;omega),if_neg (by omega)]
   ·rw[WB d,if_neg (by rintro⟨_,h⟩;omega),if_pos rfl];have D:=F.to12 a;rw[show 13-n=(12-n)+1 by omega];show(none:Option TZ).or ((Un (Th (Vb s j).2 (n+1)).reverse k).or (Zv _ (n+1+1) (12-n)))=(UK (Uq j) k).or ((Un (Th s.1.2 (n+1)).reverse k).or (Zv _ (n+1+1) (12-n)));rw[WB d,if_pos ⟨a,ht.symm⟩,if_neg (by omega),List.reverse_append,l4];have e:Un ([(s.2.2,Uq j)].reverse++(Th s.1.2 (n+1)).reverse) k=(UK (Uq j) k).or (Un (Th s.1.2 (n+1)).reverse k):=rfl;rw[e,hV];refine congrArg _ (congrArg _ (X9 _ _ λi hi _=> ?_));rw[WB d,if_neg (by rintro⟨_,h⟩;omega),if_neg (by omega)]
 have o:Zv (λi=>Un (Th s.1.2 i).reverse k) (0+n) (1+(13-n))=((UK c.2 k).or (UK b.2 k)).or (Zv (λi=>Un (Th s.1.2 i).reverse k) (n+1) (13-n)):=by
  rw[ey,F2 1];show(Un (Th s.1.2 n).reverse k).or _=_;rw[K];refine congrArg (λz=>Option.or z _) ?_;show(UK c.2 k).or ((UK b.2 k).or none)=_;cases UK b.2 k<;>rfl
 rw[y,o,p k];cases q with
 |false=>
  have:((UK c.2 k).or (UK b.2 k)).filter (λx=> !(false&&x.2.2.1))=(UK c.2 k).or (UK b.2 k):=by
   cases(UK c.2 k).or (UK b.2 k)<;>simp[ol]
  rw[this]
 |true=>
  have I:Zv (λi=>Un (Th s.1.2 i).reverse k) (n+1) (13-n)=none:=by
   rw[X9 (g:=λ_=>none) _ _ λi hi _=> ?_,cf];have:Th s.1.2 i=[]:=by unfold Th;rw[a9 (by have:=t rfl;omega)];rfl
   rw[this];rfl
  rw[I];cases A with
  |some x=>rfl
  |none=>
   cases(UK c.2 k).or (UK b.2 k)with
   |none=>rfl
   |some x=>
    cases J:x.2.2.1<;>simp[ol,UF,J]
end
section
open Go Sv
end
section
open Go Sv
end
section
open Go Sv
def Uw(l:List UA):Nat:=(l.map λr=>r.2.length).sum
theorem Vm(r:UA)(l:List UA):Uw (r::l)=r.2.length+Uw l:=by simp[Uw]
theorem U2(l m:List UA):Uw (l++m)=Uw l+Uw m:=by simp[Uw]
theorem jy(l:List UA):Uw l.reverse=Uw l:=by simp[Uw]
theorem pZ{l:List UA}(h:∀ r∈l,r.2.length<=5000):Uw l<=l.length*5000:=by
 induction l with
 |nil=>simp[Uw]
 |cons r l b=>
  rw[Vm,cP];have:=h r (by simp);have:=b λx a=>h x (by simp[a]);omega
theorem Yy:∀ ls:List (List UA),Uw (UJ ls)=Uw ls.flatten/\(UJ ls).length=ls.flatten.length
 |[]=>⟨rfl,rfl⟩
 |rs::ls=>by
  obtain⟨a,b⟩:=Yy ls;have e:UJ (rs::ls)=rs.reverse++UJ ls:=rfl;rw[e,sa,U2,U2,jy,a];simp[b]
theorem eK{L:Te}(v:VLev L):L.2.flatten.length<=24/\Uw L.2.flatten<=24*5000:=by
 have b:L.2.flatten.length<=24:=by
  have h:=ZP L.2 v.two;have:=v.len;rw[(Yy L.2).2]at h;omega
 refine⟨b,?_⟩
 have:=pZ (l:=L.2.flatten) λr a=>by
  obtain⟨rs,c,d⟩:=l6.1 a;obtain⟨i,hi⟩:=en c;exact((v.lev i rs hi).2 r d).vl.len
 exact Nat.le_trans this (Nat.mul_le_mul_right _ b)
def Uj(b:UA):Int×Int:=if b.1<1\/b.1>16 then(0,7)else if(b.2.length:Int)>b.1 then(0,3)else ZF none 0 b.2
theorem Zm(b:UA):Um b=some (Uj b):=by
 unfold Um Uj;rw[TH,TF,TF];by_cases c:b.1<1
 ·rw[if_pos c,if_pos (.inl c)]
 rw[if_neg c];by_cases d:b.1>16
 ·rw[if_pos d,if_pos (.inr d)]
 rw[if_neg d,if_neg (show ¬ (b.1<1\/b.1>16) by omega),Tf,Td];by_cases a:(b.2.length:Int)>b.1
 ·rw[if_pos a,if_pos a]
 rw[if_neg a,if_neg a];have e:=WQ b.2 (by omega);unfold UU Vl at e;rw[TF,Tf,Td,if_neg (show ¬ (b.2.length:Int)>5000 by omega),if_neg (show ¬ b.2.length>5000 by omega)]at e;exact e
theorem dk(b:UA):Xc b=some (Uj b):=by
 rw[<- Zm];unfold Xc Um
 congr 1
 funext _
 congr 1
 funext _
 congr 1
 funext _
 congr 2
 funext s0
 by_cases h:0<=s0.2.2
 ·simp only[Se h];cases a:b.2[s0.2.2.toNat]? with
  |none=>unfold ix;simp only[a]
  |some x=>simp only[S4 a,Yz,VO,Sn]
 ·have c:∀ {β:Type} (k:Nat->Option β),Rz s0.2.2 k=none:=λk=>by unfold Rz;simp[h]
  simp only[c]
def UY(f:Ut):Int:=if(Uj f.1).2≠0 then(Uj f.1).2 else if(Tc f.2).2≠0 then(Tc f.2).2 else if f.1.1≠f.2.1.1 then 6 else 0
theorem ad{f:Ut}(m:Sm f.2):Vj f=some (UY f):=by
 unfold Vj UY;rw[dk,Sn,TD];by_cases a:(Uj f.1).2=0;rotate_left
 ·rw[if_neg a,TD,if_neg a,if_pos a]
 rw[if_pos a,if_neg (show ¬ (Uj f.1).2≠0 by simp[a]),sj m,Sn,TD];by_cases b:(Tc f.2).2=0;rotate_left
 ·rw[if_neg b,if_pos b]
 rw[if_pos b,if_neg (show ¬ (Tc f.2).2≠0 by simp[b]),TI];by_cases c:f.1.1=f.2.1.1
 ·rw[if_pos c,if_neg (show ¬ f.1.1≠f.2.1.1 by simp[c]),b]
 ·rw[if_neg c,if_pos c]
end
section
open Go Sv
theorem ao(x:TZ):∀ l:List TZ,(VN l x).length<=l.length+1
 |[]=>by unfold VN;simp
 |y::l=>by
  unfold VN;have:=ao x l;split
  ·simp;omega
  ·split<;>simp
theorem aT{α:Type}(l:List α)(k:Nat):Dz l 0 k=l.take k:=by unfold Dz;simp
theorem cE{α:Type}(l:List α)(k:Nat):Dz l k l.length=l.drop k:=by
 unfold Dz;rw[eo (by simp)]
theorem sR(l:List TZ)(x:TZ)(E:l.length<=1000000):Xh (l,x)=some (VN l x):=by
 unfold Xh;simp only[Tf,Td]
 obtain⟨r,B,C⟩:=Vy (l:=l) (σ:=Unit) (λk _=>(k:Int)) (λm k _=>VN l x=l.take k++VN m x) (λ(r:Nat×(Int×Unit))=>∃ k:Nat,r.2.1=(k:Int)/\k<=l.length/\VN l x=l.take k++VN (l.drop k) x /\ ∀ y,l[k]?=some y->SP y.1 x.1=false)
  (f:=λs0=>br (Sz s0 (l.length:Int)) (λ_=>Rz s0 λA=>ix l A λD=>br (SP D.1 x.1) (λ_=>some (.nx (SC .i64 s0 1))) λ_=>some (.dn ((0,(s0,()))))) λ_=>some (.dn ((0,(s0,())))))
  (s:=(0:Int)) () rfl (by omega) rfl (λ_ h=>by
   refine⟨(0,((l.length:Int),())),by rw[re];rfl,l.length,rfl,eg _,by rw[h];simp,λy j=>by simp at j⟩) (λk y m _ w b a h=>by
   rw[rl a,SW,Ta,S4 b,WP];unfold VN at h;by_cases hs:SP y.1 x.1=true
   ·rw[if_pos hs,Ti (by omega)];rw[if_pos hs]at h;refine .inl ⟨(),rfl,?_⟩
    conv=>lhs;unfold VN
    rw[h,iP,b];simp
   ·rw[if_neg hs];refine .inr ⟨_,rfl,k,rfl,by omega,?_,λz t=>by rw[b]at t;cases t;simpa using hs⟩;rw[w]
    conv=>lhs;unfold VN
    conv=>rhs;unfold VN
    exact h)
 rw[B,Sn];obtain⟨k,e,a,q,j⟩:=C;have n:∀ {β:Type} (c:Unit->Option β),gd (CF (l.take k).length 1048576) c=c ():=λc=>Tk (by simp;omega) c;have o:∀ {β:Type} (c:Unit->Option β),gd (CF (BF (l.take k).length [x].length) 1048576) c=c ():=λc=>Tk (by simp[BF];omega) c;have p:∀ {β:Type} (c:Unit->Option β),gd (CF (BF (Ig (l.take k) [x]).length (l.drop k).length) 1048576) c=c ():=λc=>Tk (by simp[BF,Ig];omega) c;rw[e];by_cases h:k<l.length
 ·have b:l[k]?=some l[k]:=ci h;have hs:=j _ b;have g:l.drop k=l[k]::l.drop (k+1):=ml h
  have u:VN (l.drop k) x=if l[k].1=x.1 then l.drop k else x::l.drop k:=by
   rw[g]
   conv=>lhs;unfold VN
   rw[if_neg (by rw[hs];simp)]
  rw[rl h,SW,Ta,S4 b,V2,q,u];by_cases d:l[k].1=x.1
  ·rw[if_pos d,if_pos d,li]
  ·rw[if_neg d,if_neg d,Ta,Tk a,Tk (by omega),aT,n,o,Ta,Tk (by omega),Tk a,cE,p];unfold Ig;simp
 ·have i:k=l.length:=by omega
  subst i;rw[re,R5,q,Ta,Tk a,Tk (by omega),aT,n,o,Ta,Tk (by omega),Tk a,cE,p];simp[Ig,VN]
theorem YZ:∀ (m l:List TZ),(m.foldl VN l).length<=l.length+m.length
 |[],l=>by simp
 |x::m,l=>by
  have a:=YZ m (VN l x);have b:=ao x l;simp only[gq,cP];omega
theorem aq:∀ (rs:List UA) (l:List TZ),(ae rs l).length<=l.length+Uw rs
 |[],l=>by simp[ae,Uw]
 |r::rs,l=>by
  have a:=aq rs (r.2.foldl VN l);have b:=YZ r.2 l;rw[Vm];show(ae rs (r.2.foldl VN l)).length<=_;omega
theorem sS{R:List UA}{i:Nat}{r:UA}(hi:R[i]?=some r){out:List TZ}(b:out.length+r.2.length<=500000):loop (λ(s2:UA)=>Rz (i:Int) λd=>ix R d λj=>br (Sz s2.1 (j.2.length:Int)) (λ_=>Rz (i:Int) λe=>ix R e λm=>Rz s2.1 λf=>ix m.2 f λn=>bd (Xh (s2.2,n)) λg=>some (.nx (SC .i64 s2.1 1,g))) λ_=>some (.dn (((0:Nat),(s2,()))))) ((0:Int),out)=some (0,(((r.2.length:Int),r.2.foldl VN out),())):=by
 refine U4 (l:=r.2) (σ:=List TZ) (λk o=>((k:Int),o)) (λls _ o=>o.length+ls.length<=500000) (λls _ o=>(0,(((r.2.length:Int),ls.foldl VN o),()))) out rfl (by omega) b (λo h=> ?_) (λk x ls o p c a h=> ?_)
 ·simp only;rw[Ta,S4 hi,re];rfl
 ·have:=ao x o;simp only[cP]at h;refine⟨VN o x,?_,by omega,rfl⟩;simp only;rw[Ta,S4 hi,rl a,SW,Ta,S4 hi,Ta,S4 c,sR _ _ (by omega),Sn,Ti (by omega)]
theorem sT{L:Te}(v:VLev L):YJ L=some (LD L):=by
 obtain⟨p,q⟩:=eK v;obtain⟨m,n⟩:=Yy L.2;unfold YJ;simp only[Tf,Td];rw[bR v,Sn];refine Tv (U4 (l:=UJ L.2) (σ:=List TZ) (s:=(([]:List TZ),(0:Int))) (λi o=>(o,(i:Int))) (λls _ o=>o.length+Uw ls<=500000) (λls _ o=>(0,((ae ls o,((UJ L.2).length:Int)),()))) [] rfl (by omega) (by simp;omega) (λo h=> ?_) (λi r ls o j hi c h=> ?_)) ?_
 ·simp only;rw[re];rfl
 ·rw[Vm]at h;have b:=YZ r.2 o;refine⟨r.2.foldl VN o,?_,by omega,rfl⟩;simp only;rw[rl c,SW];refine Tv (sS hi (by omega)) ?_;rw[Ti (by omega)]
 ·have a:=aq (UJ L.2) [];simp only[dc,ey]at a;dsimp only;generalize f:ae (UJ L.2) []=A at a;have g:LD L=A.filter UF:=by unfold LD;rw[f]
  rw[g];refine Tv (U4 (l:=A) (σ:=List TZ) (s:=((0:Int),([]:List TZ))) (λk o=>((k:Int),o)) (λls k o=>o.length<=k/\o++ls.filter UF=A.filter UF) (λ_ _ _=>(0,(((A.length:Int),A.filter UF),()))) [] rfl (by omega) ⟨by simp,rfl⟩ (λo h=> ?_) (λk x ls o j e c h=> ?_)) rfl
  ·simp only;rw[re,R5,<- h.2];simp
  ·obtain⟨t,b⟩:=h;rw[sp]at b;simp only;rw[rl c,SW,Ta,S4 e];cases d:x.2.2.1 with
   |true=>
    have:UF x=false:=by unfold UF;rw[d];rfl
    rw[this]at b;refine⟨o,?_,⟨by omega,by simpa using b⟩,trivial⟩;rw[YQ,R5,Ti (by omega)]
   |false=>
    have:UF x=true:=by unfold UF;rw[d];rfl
    rw[this]at b;refine⟨o++[x],?_,⟨by simp;omega,by simpa using b⟩,trivial⟩;rw[Zn,SW,Ta,S4 e,Tk (by simp[BF];omega),Ti (by omega)];rfl
end
section
open Go Sv
def Zk(s:Tb)(l:List TZ):Te:=Us s.1 0 (Th s.1.2 0++[(s.2.2,l)])
def bc(s:Tb)(l:List TZ):Tb×Int:=
 if(Tc s).2≠0 then(zS,(Tc s).2)else if s.2.2>1000000\/2<=(Th s.1.2 0).length then(zS,5)else if(Vl l).2≠0 then(zS,(Vl l).2)
 else if kR [] (Uf s.1.1 0) (s.2.2,l)≠0 then(zS,kR [] (Uf s.1.1 0) (s.2.2,l))else(YP s (Zk s l) (s.2.2+1) (-1),0)
theorem dN{s:Tb}(v:VSt s):∀ y∈s.1.2.flatten,y.1≠s.2.2:=λy a=>by
 have:=X2 a;have:=v.n3;omega
theorem ai{s:Tb}(v:VSt s){l:List TZ}(a:(Th s.1.2 0).length<2)(b:kR [] (Uf s.1.1 0) (s.2.2,l)=0):VLev (Zk s l):=
 v.lev.arrive (by omega) a (gS.1 b).1 (dN v)
theorem Zx(s:Tb)(l:List TZ)(i:Nat):Th (Zk s l).2 i=if i=0 then Th s.1.2 0++[(s.2.2,l)]else Th s.1.2 i:=by
 unfold Zk;rw[We]
theorem pV{s:Tb}(v:VSt s){l:List TZ}(d:(Th s.1.2 0).length<2)(h:kR [] (Uf s.1.1 0) (s.2.2,l)=0)(t:s.2.2<=1000000):VSt (YP s (Zk s l) (s.2.2+1) (-1)):=by
 have m:=v.n1;refine d8 v (ai v d h) (by omega) (by omega) (λx o=> ?_) (λn q r j _ _=> ?_)
 ·obtain⟨i,hi⟩:=ZO.1 o
  have a:∀ {y:UA} {k:Nat},y∈Th s.1.2 k->y.1<s.2.2+1:=fun {y k} p=>by
   have:=X2 (ZO.2 ⟨k,p⟩);have:=v.n3;omega
  rw[Zx]at hi;by_cases g:i=0
  ·rw[if_pos g]at hi;rcases nm.1 hi with hi|hi
   ·exact a hi
   ·rw[rY.1 hi];show s.2.2<s.2.2+1;omega
  ·rw[if_neg g]at hi;exact a hi
 ·have c:=Xe.1 j;have f:n≠0:=λe=>by rw[e]at c;rw[c]at d;simp at d
  have b:Th (Zk s l).2 n=[q,r]:=by rw[Zx,if_neg f,c]
  refine⟨Xe.2 b,λu=>(gT (ai v d h).last (by rw[b];simp) λi hi=> ?_).symm⟩;rw[Zx,if_neg (by omega)];unfold Th;rw[a9 (by omega)];rfl
theorem gu{s:Tb}(m:Sm s){l:List TZ}(o:l.length<=1000):WZ (s,l)=some (bc s l):=by
 unfold WZ bc;rw[uI m,Sn,TI];by_cases b:(Tc s).2=0;rotate_left
 ·rw[if_neg b,if_pos b];rfl
 have v:=Tl.1 b;have j:=v.n1;have k:=aU v.lev (n:=0) (by omega);rw[if_pos b,if_neg (by simp[b])];show(bd (U7 (s.1,((0:Nat):Int))) λp=>_)=_;rw[k,Sn];simp only;rw[if_neg (show ¬ (0>=12) by omega),TI,if_pos rfl,TF];by_cases d:s.2.2>1000000
 ·rw[if_pos d,if_pos (.inl d)];rfl
 have e:Yj s.1 0=decide ((Th s.1.2 0).length<2):=by unfold Yj Th;simp
 rw[if_neg d,UI,e,VE];by_cases f:2<=(Th s.1.2 0).length
 ·rw[if_neg (by omega),if_pos (.inr f)];rfl
 rw[if_pos (by omega),if_neg (show ¬ (s.2.2>1000000\/2<=(Th s.1.2 0).length) by omega)];rw[Tk (by simp only[AS];omega),aC _ (by simp only;omega),Sn,if_neg (show ¬ (s.2.2<1\/s.2.2>1000000) by omega),TI];by_cases c:(Vl l).2=0;rotate_left
 ·rw[if_neg c,if_pos c];rfl
 rw[if_pos c,if_neg (by simp[c])];have g:=aa v.lev (n:=0) (by omega) (x:=(s.2.2,l)) (by simp only;omega) (dN v) (by omega);show(bd (UQ (s.1,(((0:Nat):Int),(s.2.2,l)))) λq=>_)=_;rw[g,Sn];by_cases a:kR [] (Uf s.1.1 0) (s.2.2,l)=0;rotate_left
 ·rw[if_pos a,if_pos a,TI,if_neg a];rfl
 rw[if_neg (by simp[a]),if_neg (by simp[a]),TI,if_pos rfl];have i:=v.jsmall;have h:=ZL v.nodup (by omega) (ai v (by omega) a) (s.2.2+1) (-1);rw[Sb (by omega)];show(bd (UB (s,(Zk s l,(s.2.2+1,(-1))))) λr=>_)=_;rw[h];rfl
end
section
open Go Sv
end
section
open Go Sv
end
section
open Go Sv
end
section
open Go Sv
def Gd(s0 s:Tb):Prop:=VSt s/\LD s.1=LD s0.1/\Uw s.1.2.flatten<=2000
theorem pf{l:List UA}{r:UA}(h:r∈l):r.2.length<=Uw l:=by
 induction l with
 |nil=>cases h
 |cons x l a=>
  rw[Vm];rcases ee.1 h with e|h
  ·rw[e];omega
  ·have:=a h;omega
theorem Z1{L:Te}(h:Uw L.2.flatten<=2000):jl L:=λi r a=>by
 have:=pf (ZO.2 ⟨i,a⟩);omega
theorem dF{s:Tb}(v:VSt s)(h:jl s.1){n:Nat}{j:Job}(g:JobAt s.1 n j)(E:¬ 0<UD s.1 j):Uw (Vb s j).2.flatten<=Uw s.1.2.flatten:=by
 obtain⟨G,I,y,J,K⟩:=g.out v.lev (h n);have w:j.1.toNat=n:=by rw[y];simp
 have a:=h n;obtain⟨d,e,m,k,u,c,x,F,B,C⟩:=g;have i:=Xe.1 u;rw[i]at a;have D:=a d (by simp);have f:=a e (by simp)
 have l:(Uq j).length<=e.2.length+d.2.length:=by
  rw[c];exact(kV C B m x (by omega)).2
 obtain⟨p,q,f,o⟩:=XQ s.1 n []
 have e1:Uw s.1.2.flatten=Uw p+((d.2.length+e.2.length)+Uw q):=by
  rw[f,i,U2,U2,Vm,Vm];simp[Uw]
 have e2:Uw (Us s.1 n []).2.flatten=Uw p+Uw q:=by rw[o,U2,U2];simp[Uw]
 unfold Vb;rw[w];by_cases b:Uq j=[]
 ·rw[if_pos b];omega
 ·rw[if_neg b];obtain⟨z,A,r,t⟩:=XQ (Us s.1 n []) (Ym s j) (Th (Us s.1 n []).2 (Ym s j)++[(s.2.2,Uq j)]);have e3:Uw (Us s.1 n []).2.flatten=Uw z+(Uw (Th (Us s.1 n []).2 (Ym s j))+Uw A):=by rw[r,U2,U2]
  rw[t,U2,U2,U2,Vm];simp only[Uw,List.map_nil,List.sum_nil];simp only[Uw]at e3 e2 e1;omega
theorem gK{s:Tb}(v:VSt s){d:Int}(h:d∈Tj 0 s.1.2):∃ (i:Nat) (j:Job) (n:Nat),Z3 d 0 (Tj 0 s.1.2)=some i/\s.2.1[i]?=some j/\d=(n:Int)/\j.1=(n:Int)/\JobAt s.1 n j:=by
 obtain⟨i,hi⟩:=cZ (k:=0) h;obtain⟨j,n,a,b,c,d,_⟩:=v.at hi;exact⟨i,j,n,hi,a,b,c,d⟩
theorem iI{s0 s:Tb}(g:Gd s0 s){d:Int}(h:d∈Tj 0 s.1.2):∃ (c:Bool) (t:Tb) (b:Bool) (e:Int),XU (s,d)=some (c,0)/\Ux (s,d)=some (t,(b,e))/\(s.2.2<=1000000->c=decide (e=0))/\(e=0->Gd s0 t):=by
 obtain⟨v,z,hc⟩:=g;have r:=Z1 hc;have m:=v.sm;obtain⟨i,j,n,hi,y,C,w,q⟩:=gK v h;have A:(Tc s).2=0:=Tl.2 v;have o:bZ s d=some j:=by unfold bZ;rw[hi];exact y
 have p:XU (s,d)=some (V9 s.1 j,0):=by
  rw[sQ m];unfold W3;rw[if_neg (by simp[A]),o]
 have k:Ux (s,d)=some (YN s j):=by
  rw[cS m r];unfold Wo;rw[if_neg (by simp[A]),o]
 refine⟨V9 s.1 j,(YN s j).1,(YN s j).2.1,(YN s j).2.2,p,k,?_⟩;unfold YN;by_cases l:V9 s.1 j=false
 ·rw[if_pos l,l];exact⟨λ_=>by simp,λh=>by cases h⟩
 have a:V9 s.1 j=true:=by simpa using l
 rw[if_neg l];by_cases f:0<UD s.1 j
 ·rw[if_pos f];refine⟨λ_=>by simp[a],λ_=>⟨kc v (by rw[w,<- C];exact hi) y q f,z,hc⟩⟩
 rw[if_neg f];unfold Zg;rw[if_neg (λh=>h.elim f l)];by_cases u:s.2.2>1000000/\Uq j≠[]
 ·rw[if_pos u];exact⟨λh=>by omega,λh=>by cases h⟩
 rw[if_neg u]
 have x:Uq j≠[]->s.2.2<=1000000:=λD=>by
  by_cases B:s.2.2>1000000
  ·exact absurd ⟨B,D⟩ u
  ·omega
 refine⟨λ_=>by simp[a],λ_=>⟨kC v r q f a x,?_,?_⟩⟩
 ·exact(iL v r q f a x).trans z
 ·have:=dF v r q f;show Uw (Vb s j).2.flatten<=2000;omega
theorem cY:∀ {ls:List (List UA)} {i n:Nat},(Th ls n).length=2->((i+n:Nat):Int)∈Tj i ls
 |[],i,n,h=>by simp[Th]at h
 |rs::ls,i,0,h=>by
  have h':rs.length=2:=h;rw[Yp,if_pos h'];simp
 |rs::ls,i,n+1,h=>by
  rw[Yp];refine sr _ ?_;have:=cY (ls:=ls) (i:=i+1) (n:=n) h
  rwa [show i+1+n=i+(n+1) by omega]at this
end
section
open Go Sv
theorem sW{a:Int}(h : -9223372036854775808<=a/\a<=9223372036854775807):TJ .i64 a=a:=by
 have:=Sb (a:=a) (b:=0) (by omega);unfold SC at this;rw[Int.add_zero]at this;exact this
theorem iB{l:List UA}(h:∀ r∈l,r.2.length<=30):Uw l<=l.length*30:=by
 induction l with
 |nil=>simp[Uw]
 |cons x l b=>
  rw[Vm,cP];have:=h x (by simp);have:=b λr a=>h r (by simp[a]);omega
end
section
open Go Sv
def Wg:List TZ->V8->Nat
 |[],_=>0
 |y::l,k=>if SP y.1 k=true then Wg l k+1 else 0
def YT(l:List TZ)(k:V8):Bool:=match l[Wg l k]? with
 |some y=>decide (y.1=k)
 |none=>false
theorem aQ:∀ (l:List TZ) (k:V8),Wg l k<=l.length
 |[],_=>by simp[Wg]
 |y::l,k=>by
  have:=aQ l k;unfold Wg;split<;>simp<;>omega
theorem kI:∀ {l:List TZ} {k:V8} {i:Nat} {y:TZ},l[i]?=some y->i<Wg l k->SP y.1 k=true
 |[],_,_,_,h,_=>by simp at h
 |x::l,k,0,y,h,hi=>by
  cases h;unfold Wg at hi;split at hi
  ·assumption
  ·omega
 |x::l,k,i+1,y,h,hi=>by
  unfold Wg at hi;split at hi
  ·exact kI (l:=l) (by simpa using h) (by omega)
  ·omega
theorem kH:∀ {l:List TZ} {p:Option V8},Asc p l -> ∀ {k:V8} {i:Nat} {y:TZ},l[i]?=some y->Wg l k<=i->SP y.1 k=false
 |[],_,_,_,_,_,h,_=>by simp at h
 |x::l,p,⟨d,a⟩,k,i,y,h,hi=>by
  unfold Wg at hi;cases i with
  |zero=>
   cases h;split at hi
   ·omega
   ·rename_i hs;simpa using hs
  |succ i=>
   have b:l[i]?=some y:=by simpa using h
   split at hi
   ·exact kH a b (by omega)
   ·rename_i hs;have hs:SP x.1 k=false:=by simpa using hs
    have:=X6 a y (co b);cases c:SP y.1 k with
    |false=>rfl
    |true=>rw[VD this c]at hs;cases hs
theorem sc{l:List TZ}{p:Option V8}(e:Asc p l){k:V8}{i:Nat}(g:i<=l.length)(c:∀ j y,j<i->l[j]?=some y->SP y.1 k=true)(d:∀ j y,i<=j->l[j]?=some y->SP y.1 k=false):i=Wg l k:=by
 have f:=aQ l k;rcases Nat.lt_trichotomy i (Wg l k)with h|h|h
 ·have b:l[i]?=some l[i]:=ci (by omega);have a:=kI b h;rw[d i _ (eg _) b]at a;cases a
 ·exact h
 ·have b:l[Wg l k]?=some l[Wg l k]:=ci (by omega);have a:=kH e b (eg _);rw[c _ _ h b]at a;cases a
theorem gP{a b:Nat}(h:a+b<=1000000):TJ .i64 (S3 .u64 (TJ .u64 (SC .i64 (a:Int) (b:Int))) 1)=(((a+b) / 2:Nat):Int):=by
 rw[Sb (by omega)]
 have e1:TJ .u64 ((a:Int)+(b:Int))=((a+b:Nat):Int):=by
  show(let m:=((a:Int)+(b:Int)) % (2 ^ 64:Int);if false&&decide (m>=(2 ^ 63:Int))then m-(2 ^ 64:Int)else m)=_
  simp;omega
 rw[e1]
 have e2:S3 .u64 ((a+b:Nat):Int) 1=(((a+b) / 2:Nat):Int):=by
  show Int.fdiv ((a+b:Nat):Int) (2 ^ 1)=_;rw[Int.fdiv_eq_ediv_of_nonneg _ (by decide)];omega
 rw[e2];exact sW (by omega)
theorem aH:∀ {l:List TZ} {p:Option V8},Asc p l -> ∀ {a b:Nat} {x y:TZ},a<b->l[a]?=some x->l[b]?=some y->SP x.1 y.1=true
 |[],_,_,_,_,_,_,_,h,_=>by simp at h
 |z::l,p,⟨_,d⟩,a,b,x,y,f,e,h2=>by
  cases b with
  |zero=>omega
  |succ b=>
   have c:l[b]?=some y:=by simpa using h2
   cases a with
   |zero=>cases e;exact X6 d y (co c)
   |succ a=>exact aH d (a:=a) (b:=b) (by omega) (by simpa using e) c
theorem aL{l:List TZ}{p:Option V8}(e:Asc p l)(k:V8)(g:l.length<=100000):∀ (n i j:Nat),i<=j->j<=l.length->j-i<n->(∀ q y,q<i->l[q]?=some y->SP y.1 k=true)->(∀ q y,j<=q->l[q]?=some y->SP y.1 k=false) ->
  IH n (λs0=>br (Sz s0.1 s0.2) (λ_=>Rz (TJ .i64 (S3 .u64 (TJ .u64 (SC .i64 s0.1 s0.2)) 1)) λr=>ix l r λs=>br (He (He (SP s.1 k))) (λ_=>some (.nx ((SC .i64 (TJ .i64 (S3 .u64 (TJ .u64 (SC .i64 s0.1 s0.2)) 1)) 1,s0.2)))) λ_=>some (.nx ((s0.1,TJ .i64 (S3 .u64 (TJ .u64 (SC .i64 s0.1 s0.2)) 1))))) λ_=>some (.dn (((0:Nat),(s0,()))))) ((i:Int),(j:Int))=some (0,(((Wg l k:Int),(Wg l k:Int)),()))
 |0,_,_,_,_,h,_,_=>by omega
 |n+1,i,j,hij,hj,hn,h1,h2=>by
  by_cases h:i<j
  ·have m:(i+j) / 2<l.length:=by omega
   have d:l[(i+j) / 2]?=some l[(i+j) / 2]:=ci m;cases hs:SP l[(i+j) / 2].1 k with
   |true=>
    rw[UL (s':=((((i+j) / 2+1:Nat):Int),(j:Int))) (by
     simp only
     rw[TH,if_pos (by omega),gP (by omega),Ta,S4 d,hs,YQ,Zn,SW,Ti (by omega)])]
    refine aL e k g n _ j (by omega) hj (by omega) (λq y o c=> ?_) h2;by_cases b:q=(i+j) / 2
    ·subst b;rw[d]at c;cases c;exact hs
    ·have a:q<(i+j) / 2:=by omega
     have f:SP y.1 l[(i+j) / 2].1=true:=aH e a c d;exact VD f hs
   |false=>
    rw[UL (s':=((i:Int),(((i+j) / 2:Nat):Int))) (by
     simp only
     rw[TH,if_pos (by omega),gP (by omega),Ta,S4 d,hs,Zn,YQ,R5])]
    refine aL e k g n i _ (by omega) (by omega) (by omega) h1 (λq y o c=> ?_);cases a:SP y.1 k with
    |false=>rfl
    |true=>
     by_cases b:q=(i+j) / 2
     ·subst b;rw[d]at c;cases c;rw[hs]at a;cases a
     ·have:=aH e (show(i+j) / 2<q by omega) d c;rw[VD this a]at hs;cases hs
  ·have:i=j:=by omega
   subst this;have:=sc e hj h1 h2
   rw[UT (x:=(0,(((Wg l k:Int),(Wg l k:Int)),()))) (by
    simp only
    rw[TH,if_neg (by omega),this])]
theorem jw{l:List TZ}{p:Option V8}(f:Asc p l)(k:V8)(g:l.length<=100000):WD (l,k)=some ((Wg l k:Int),YT l k):=by
 unfold WD;simp only[Tf,Td];have h:=aL f k g (l.length+1) 0 l.length (by omega) (eg _) (by omega) (λq y h=>by omega) (λq y h c=>by rw[a9 h]at c;cases c);refine Tv (U1 (by omega) h) ?_;dsimp only;have i:=aQ l k;unfold YT;rw[TH];by_cases d:Wg l k<l.length
 ·have b:l[Wg l k]?=some l[Wg l k]:=ci d;rw[if_pos (by omega),Ta,S4 b,b];simp only
  congr 2
  cases a:seq l[Wg l k].1 k with
  |true=>exact(decide_eq_true (Zc.1 a)).symm
  |false=>
   refine(decide_eq_false λe=> ?_).symm;rw[Zc.2 e]at a;cases a
 ·rw[if_neg (by omega),a9 (by omega)]
end
section
open Go Sv
abbrev wC:=(Int×(((List TZ)×Nat)×(Int×Bool)))
def sN(most:Int)(ls:List TZ):wC->Option (LR wC (Nat×(wC×Unit))):=
 (λ(s1:(Int×(((List TZ)×Nat)×(Int×Bool))))=>br (Sz s1.2.2.1 (Kh (AS ls))) (λ_=>Rz s1.2.2.1 λk=>ix ls k λi=>gd (CF (BF 0 s1.2.1.2) (AS s1.2.1.1)) λ_=>bd (WD ((Dz s1.2.1.1 0 (BF 0 s1.2.1.2),i.1))) λd=>br d.2 (λ_=>Rz d.1 λh=>gd (KI h s1.2.1.2) λ_=>gd (KI (BF 0 h) (AS s1.2.1.1)) λ_=>ix s1.2.1.1 (BF 0 h) λn=>some (.nx ((SG .i64 (SC .i64 s1.1 (SC .i64 (SG .i64 (Kh s1.2.1.2) d.1) 1)) 1,((lset s1.2.1.1 (BF 0 h) i,s1.2.1.2),(SC .i64 s1.2.2.1 1,s1.2.2.2)))))) λ_=>br (OX (Kh s1.2.1.2) most) (λ_=>some (.dn ((0,((SC .i64 s1.1 (SC .i64 (SG .i64 (Kh s1.2.1.2) d.1) 1),(s1.2.1,(s1.2.2.1,false))),()))))) λ_=>Rz (SC .i64 (Kh s1.2.1.2) 1) λb=>Rz (Kh (PW (AS s1.2.1.1) 0)) λj=>gd (CF b j) λ_=>gd (neq (BF 0 j) (AS s1.2.1.1)) λ_=>gd (KI 0 (AS s1.2.1.1)) λ_=>Rz (SC .i64 d.1 1) λc=>gd (CF (BF 0 b) (AS s1.2.1.1)) λ_=>gd (CF c b) λ_=>br (KI (BF 0 c) (AS s1.2.1.1)) (λ_=>Rz d.1 λa=>gd (CF (BF 0 b) (AS s1.2.1.1)) λ_=>gd (CF a b) λ_=>br (KI (BF 0 a) (AS s1.2.1.1)) (λ_=>gd (CF (BF (BF 0 a) (PW b a)) (AS s1.2.1.1)) λ_=>gd (CF (BF (BF 0 c) (PW b c)) (AS s1.2.1.1)) λ_=>Rz d.1 λe=>gd (KI e b) λ_=>gd (KI (BF 0 e) (AS (LB s1.2.1.1 (BF 0 c) (Dz s1.2.1.1 (BF 0 a) (BF (BF 0 a) (PW b a))) (PW b c)))) λ_=>ix (LB s1.2.1.1 (BF 0 c) (Dz s1.2.1.1 (BF 0 a) (BF (BF 0 a) (PW b a))) (PW b c)) (BF 0 e) λl=>some (.nx ((SC .i64 s1.1 (SC .i64 (SG .i64 (Kh s1.2.1.2) d.1) 1),((lset (LB s1.2.1.1 (BF 0 c) (Dz s1.2.1.1 (BF 0 a) (BF (BF 0 a) (PW b a))) (PW b c)) (BF 0 e) i,b),(SC .i64 s1.2.2.1 1,s1.2.2.2)))))) λ_=>gd (CF (BF (BF 0 c) (PW b c)) (AS s1.2.1.1)) λ_=>Rz d.1 λf=>gd (KI f b) λ_=>gd (KI (BF 0 f) (AS (LB s1.2.1.1 (BF 0 c) [] (PW b c)))) λ_=>ix (LB s1.2.1.1 (BF 0 c) [] (PW b c)) (BF 0 f) λm=>some (.nx ((SC .i64 s1.1 (SC .i64 (SG .i64 (Kh s1.2.1.2) d.1) 1),((lset (LB s1.2.1.1 (BF 0 c) [] (PW b c)) (BF 0 f) i,b),(SC .i64 s1.2.2.1 1,s1.2.2.2)))))) λ_=>Rz d.1 λg=>gd (CF (BF 0 b) (AS s1.2.1.1)) λ_=>gd (CF g b) λ_=>br (KI (BF 0 g) (AS s1.2.1.1)) (λ_=>gd (CF (BF (BF 0 g) (PW b g)) (AS s1.2.1.1)) λ_=>none) λ_=>none) λ_=>some (.dn ((0,(s1,())))))
theorem pO(x:UA×List TZ):Vq x =
 (Rz (SC .i64 x.1.1 1) λc=>gd (CF 0 c) λ_=>gd (CF c 1048576) λ_=>gd (CF (BF 0 (AS x.1.2)) 1048576) λ_=>gd (CF (BF 0 0) (AS (Ra c ((([],([],(false,0))):TZ))))) λ_=>br (neq (AS x.1.2) 0) (λ_=>bd (loop (sN x.1.1 x.2) ((0,((Ra c ((([],([],(false,0))):TZ)),0),(0,true))))) λa=>gd (CF (BF 0 a.2.1.2.1.2) (AS a.2.1.2.1.1)) λ_=>some ((Dz a.2.1.2.1.1 0 (BF 0 a.2.1.2.1.2),(a.2.1.1,a.2.1.2.2.2)))) λ_=>br (CF (BF (BF 0 0) (AS x.1.2)) (AS (Ra c ((([],([],(false,0))):TZ))))) (λ_=>bd (loop (sN x.1.1 x.2) ((0,((LB (Ra c ((([],([],(false,0))):TZ))) (BF 0 0) x.1.2 (AS x.1.2),BF 0 (AS x.1.2)),(0,true))))) λb=>gd (CF (BF 0 b.2.1.2.1.2) (AS b.2.1.2.1.1)) λ_=>some ((Dz b.2.1.2.1.1 0 (BF 0 b.2.1.2.1.2),(b.2.1.1,b.2.1.2.2.2)))) λ_=>none):=rfl
theorem qg(n:Nat):BF 0 n=n:=by unfold BF;omega
theorem uR(n:Nat):PW n 0=n:=rfl
def Ww(l:List TZ)(x:TZ):List TZ:=l.take (Wg l x.1)++x::l.drop (Wg l x.1+if YT l x.1=true then 1 else 0)
theorem iJ(y:TZ)(l:List TZ)(k:V8):YT (y::l) k=if SP y.1 k=true then YT l k else decide (y.1=k):=by
 unfold YT;by_cases h:SP y.1 k=true
 ·rw[if_pos h];have:Wg (y::l) k=Wg l k+1:=by conv=>lhs;unfold Wg;rw[if_pos h]
  rw[this];rfl
 ·rw[if_neg h];have:Wg (y::l) k=0:=by conv=>lhs;unfold Wg;rw[if_neg h]
  rw[this];rfl
theorem cL(y:TZ)(l:List TZ)(x:TZ):Ww (y::l) x=if SP y.1 x.1=true then y::Ww l x else if y.1=x.1 then x::l else x::y::l:=by
 unfold Ww;rw[iJ];by_cases h:SP y.1 x.1=true
 ·rw[if_pos h,if_pos h];have:Wg (y::l) x.1=Wg l x.1+1:=by conv=>lhs;unfold Wg;rw[if_pos h]
  rw[this,Nat.add_right_comm,List.take_succ_cons,List.drop_succ_cons];rfl
 ·rw[if_neg h,if_neg h];have:Wg (y::l) x.1=0:=by conv=>lhs;unfold Wg;rw[if_neg h]
  rw[this];by_cases a:y.1=x.1
  ·rw[if_pos a,if_pos (decide_eq_true a)];rfl
  ·rw[if_neg a,if_neg (by simp[a])];rfl
theorem dg(x:TZ):Ww [] x=[x]:=by unfold Ww;simp[Wg]
theorem ZS(x:TZ):∀ {l:List TZ} {p:Option V8},Asc p l->(∀ q,p=some q->SP q x.1=true)->Asc p (Ww l x)
 |[],p,_,hp=>by rw[dg];exact⟨hp,trivial⟩
 |y::l,p,⟨d,b⟩,hp=>by
  rw[cL];by_cases h:SP y.1 x.1=true
  ·rw[if_pos h];exact⟨d,ZS x b λq c=>by cases c;exact h⟩
  ·rw[if_neg h];by_cases a:y.1=x.1
   ·rw[if_pos a];exact⟨hp,by rw[<- a];exact b⟩
   ·rw[if_neg a];exact⟨hp,λq c=>by cases c;exact ZA (by simpa using h) a,b⟩
theorem aA(l:List TZ)(x:TZ):(Ww l x).length=l.length+if YT l x.1=true then 0 else 1:=by
 have b:=aQ l x.1;unfold Ww;by_cases h:YT l x.1=true
 ·have:Wg l x.1<l.length:=by
   by_cases a:Wg l x.1<l.length
   ·exact a
   ·unfold YT at h;rw[a9 (by omega)]at h;cases h
  rw[if_pos h,if_pos h];simp;omega
 ·rw[if_neg h,if_neg h];simp;omega
def bj(most:Nat):List TZ->List TZ->Int->List TZ×(Int×Bool)
 |l,[],w=>(l,(w,true))
 |l,x::ls,w=>if YT l x.1=true then bj most (Ww l x) ls (w+((l.length:Int)-(Wg l x.1:Int)+1)-1)
  else if l.length=most then(l,(w+((l.length:Int)-(Wg l x.1:Int)+1),false))else bj most (Ww l x) ls (w+((l.length:Int)-(Wg l x.1:Int)+1))
theorem pn{a b t:List TZ}{z x:TZ}:lset (LB (a++(b++z::t)) (a.length+1) (Dz (a++(b++z::t)) a.length (a.length+(a.length+b.length+1-a.length))) (a.length+b.length+1-(a.length+1))) a.length x=a++x::(b++t):=by
 obtain⟨y,r,c⟩:∃ y r,b++z::t=y::r:=by cases b<;>exact⟨_,_,rfl⟩
 have e1:(a++(b++z::t)).take (a.length+1)=a++[y]:=by rw[c,x8,eo (by omega),wl];rfl
 have e2:Dz (a++(b++z::t)) a.length (a.length+(a.length+b.length+1-a.length))=b++[z]:=by
  unfold Dz;rw[List.drop_left,show a.length+(a.length+b.length+1-a.length)-a.length=b.length+1 by omega,x8,eo (by omega),wl];rfl
 have e3:(b++[z]).take (a.length+b.length+1-(a.length+1))=b:=by
  rw[show a.length+b.length+1-(a.length+1)=b.length by omega,yr]
 have e4:(a++(b++z::t)).drop (a.length+1+b.length)=t:=by
  rw[show a++(b++z::t)=(a++b++[z])++t by simp,List.drop_left' (by simp;omega)]
 unfold lset LB;rw[e2,e3,e1,e4,ed,List.set_append_right _ _ (eg _),Nat.sub_self];rfl
structure WrI (most:Nat) (l:List TZ) (R:List TZ):Prop where
 asc:Asc none l
 le:l.length<=most
 len:R.length=most+1
 row:R.take l.length=l
theorem WrI.sub{most:Nat}{l R:List TZ}(h:WrI most l R):Dz R 0 l.length=l:=by rw[aT];exact h.row
theorem qZ{most:Nat}(hm:most<=16){ls l R:List TZ}(I:WrI most l R){k:Nat}{x:TZ}(F:ls[k]?=some x)(Z:ls.length<=1000){w:Int}(hw:0<=w/\w<=1000000) :
  (YT l x.1=true /\ ∃ o,WrI most (Ww l x) o/\sN most ls (w,((R,l.length),((k:Int),true)))=some (.nx (w+((l.length:Int)-(Wg l x.1:Int)+1)-1,((o,(Ww l x).length),(((k+1:Nat):Int),true))))) \/
  (¬ YT l x.1=true/\l.length=most/\sN most ls (w,((R,l.length),((k:Int),true)))=some (.dn (0,((w+((l.length:Int)-(Wg l x.1:Int)+1),((R,l.length),((k:Int),false))),())))) \/
  (¬ YT l x.1=true/\l.length≠most /\ ∃ o,WrI most (Ww l x) o/\sN most ls (w,((R,l.length),((k:Int),true)))=some (.nx (w+((l.length:Int)-(Wg l x.1:Int)+1),((o,(Ww l x).length),(((k+1:Nat):Int),true))))):=by
 have B:=(a8.1 F).1;have D:=aQ l x.1;have N:=I.le;have y:=I.len;have A:=I.row;obtain⟨t,s⟩:∃ t,R=l++t:=⟨R.drop l.length,by conv=>lhs;rw[<- li l.length R,A]⟩
 have q:t.length=most+1-l.length:=by
  have:=congrArg kd s;simp at this;omega
 obtain⟨z,g,rfl⟩:∃ z g,t=z::g:=by
  cases t with
  |nil=>simp at q;omega
  |cons z g=>exact⟨z,g,rfl⟩
 unfold sN;simp only[Tf,Td,qg,uR];rw[rl B,SW,Ta,S4 F,Tk (by omega),I.sub,jw I.asc x.1 (by omega),Sn];dsimp only;have O:SG .i64 (l.length:Int) (Wg l x.1:Int)=(l.length:Int)-(Wg l x.1:Int):=Sd (by omega);have P:SC .i64 ((l.length:Int)-(Wg l x.1:Int)) 1=(l.length:Int)-(Wg l x.1:Int)+1:=Sb (by omega);have S:SC .i64 w ((l.length:Int)-(Wg l x.1:Int)+1)=w+((l.length:Int)-(Wg l x.1:Int)+1):=Sb (by omega);have U:SG .i64 (w+((l.length:Int)-(Wg l x.1:Int)+1)) 1=w+((l.length:Int)-(Wg l x.1:Int)+1)-1:=Sd (by omega);have W:SC .i64 (k:Int) 1=((k+1:Nat):Int):=Ti (by omega);have X:SC .i64 (l.length:Int) 1=((l.length+1:Nat):Int):=Ti (by omega);have Y:SC .i64 (Wg l x.1:Int) 1=((Wg l x.1+1:Nat):Int):=Ti (by omega);simp only[O,P,S,U,W,X,Y];by_cases hh:YT l x.1=true
 ·refine .inl ⟨hh,?_⟩
  have n:Wg l x.1<l.length:=by
   by_cases L:Wg l x.1<l.length
   ·exact L
   ·unfold YT at hh;rw[a9 (by omega)]at hh;cases hh
  have e:(Ww l x).length=l.length:=by rw[aA,if_pos hh];rfl
  have j:Ww l x=l.set (Wg l x.1) x:=by
   unfold Ww;rw[if_pos hh,s8,if_pos n]
  refine⟨lset R (Wg l x.1) x,⟨ZS x I.asc (λ_ h=>by cases h),by omega,by unfold lset;simp;exact y,?_⟩,?_⟩
  ·rw[e,j,s];unfold lset;rw[List.set_append_left _ _ n,ym (by simp)]
  ·rw[hh,SW,Ta]
   have G:∀ {β:Type} (c:Unit->Option β),gd (KI (Wg l x.1) l.length) c=c ():=λc=>by
    unfold KI;rw[show ya (Wg l x.1) l.length=true by simpa using n];rfl
   have J:∀ {β:Type} (c:Unit->Option β),gd (KI (Wg l x.1) R.length) c=c ():=λc=>by
    unfold KI;rw[show ya (Wg l x.1) R.length=true by simp;omega];rfl
   rw[G,J,S4 (ci (by omega:Wg l x.1<R.length)),e]
 ·refine .inr ?_;have M:YT l x.1=false:=by simpa using hh
  rw[M,R5,TD];by_cases p:l.length=most
  ·exact .inl ⟨by simp,p,by rw[if_pos (by omega)]⟩
  ·refine .inr ⟨by simp,p,?_⟩;rw[if_neg (by omega),Ta,Ta]
   have r:∀ {β:Type} {a b:Nat} (h:a<b) (c:Unit->Option β),gd (KI a b) c=c ():=λh c=>by
    unfold KI;rw[show ya _ _=true by simpa using h];rfl
   have E:∀ {β:Type} {a b:Nat} (h:a<b) (c d:Unit->Option β),br (KI a b) c d=c ():=λh c d=>by
    unfold KI;rw[show ya _ _=true by simpa using h];rfl
   have K:∀ {β:Type} {a:Nat} (c:Unit->Option β),gd (neq a a) c=c ():=λc=>by
    unfold neq;rw[show TT _ _=true by simp];rfl
   have e:(Ww l x).length=l.length+1:=by rw[aA,if_neg hh]
   have j:Ww l x=l.take (Wg l x.1)++x::l.drop (Wg l x.1):=by unfold Ww;rw[if_neg hh];rfl
   obtain⟨i,hi⟩:∃ i,i=Wg l x.1:=⟨_,rfl⟩;rw[<- hi]at j D ⊢;have C:(l.take i).length=i:=by simp;omega
   have u:R=l.take i++(l.drop i++z::g):=by rw[<- ed,li];exact s
   have f:lset (LB R (i+1) (Dz R i (BF i (PW (l.length+1) i))) (PW (l.length+1) (i+1))) i x=l.take i++x::(l.drop i++g):=by
    have:=pn (a:=l.take i) (b:=l.drop i) (t:=g) (z:=z) (x:=x);rw[<- u,C,show i+(l.drop i).length=l.length by simp;omega]at this;exact this
   have m:(LB R (i+1) (Dz R i (BF i (PW (l.length+1) i))) (PW (l.length+1) (i+1))).length=most+1:=by
    have:=congrArg kd f;unfold lset at this;rw[pg]at this;rw[this];simp only[gl,cP,x6,hM];simp at q;omega
   refine⟨l.take i++x::(l.drop i++g),⟨ZS x I.asc (λ_ h=>by cases h),by omega,?_,?_⟩,?_⟩
   ·rw[<- f];unfold lset;rw[pg];exact m
   ·rw[e,j,show l.take i++x::(l.drop i++g)=(l.take i++x::l.drop i)++g by simp,ym (by simp;omega)]
   ·rw[Tk (by omega),K,r (by omega),Ta,Tk (by omega),Tk (by omega),E (by omega),Ta,Tk (by omega),Tk (by omega),E (by omega),Tk (by unfold BF PW;omega),Tk (by unfold BF PW;omega),Ta,r (by omega),r (by rw[m];omega),S4 (ci (by rw[m];omega)),f,e]
theorem gr{most:Nat}(u:most<=16){ls l R:List TZ}(I:WrI most l R)(p:ls.length<=1000):∃ r,loop (sN most ls) (0,((R,l.length),((0:Int),true)))=some r/\r.2.1.2.1.2<=r.2.1.2.1.1.length/\(Dz r.2.1.2.1.1 0 r.2.1.2.1.2,(r.2.1.1,r.2.1.2.2.2))=bj most l ls 0:=by
 obtain⟨T,i⟩:∃ T,T=bj most l ls 0:=⟨_,rfl⟩;rw[<- i];refine Vy (l:=ls) (σ:=(List TZ×List TZ)×Int) (λk s=>(s.2,((s.1.1,s.1.2.length),((k:Int),true)))) (λm k s=>WrI most s.1.2 s.1.1/\bj most s.1.2 m s.2=T/\0<=s.2/\s.2<=20*k) _ ((R,l),0) rfl (by omega) ⟨I,i.symm,by simp,by simp⟩ (λs h=> ?_) (λk x m s A y hi h=> ?_)
 ·obtain⟨⟨c,l'⟩,w⟩:=s;obtain⟨b,a,_⟩:=h;refine⟨(0,((w,((c,l'.length),((ls.length:Int),true))),())),?_,?_,?_⟩
  ·unfold sN;simp only[Tf,Td];rw[re,R5]
  ·have n:c.length=most+1:=b.len;have z:l'.length<=most:=b.le;show l'.length<=c.length;omega
  ·simp only at a ⊢;have o:Dz c 0 l'.length=l':=b.sub;rw[o,<- a];rfl
 ·obtain⟨⟨c,l'⟩,w⟩:=s;obtain⟨b,a,g,j⟩:=h;simp only at a g j b ⊢;have q:=aQ l' x.1;have t:=b.le;unfold bj at a;rcases qZ u b y p (w:=w) ⟨g,by omega⟩with⟨d,R2,I2,e⟩|⟨d,f,e⟩|⟨d,f,R2,I2,e⟩
  ·rw[if_pos d]at a;exact .inl ⟨((R2,Ww l' x),_),e,I2,a,by simp only;omega,by simp only;omega⟩
  ·rw[if_neg d,if_pos f]at a;refine .inr ⟨_,e,?_,?_⟩
   ·have n:c.length=most+1:=b.len;show l'.length<=c.length;omega
   ·simp only;rw[b.sub,<- a]
  ·rw[if_neg d,if_neg f]at a;exact .inl ⟨((R2,Ww l' x),_),e,I2,a,by simp only;omega,by simp only;omega⟩
theorem pP{most:Nat}(q:1<=most)(m:most<=16){es ls:List TZ}(n:Asc none es)(o:es.length<=most)(k:ls.length<=1000):Vq ((((most:Nat):Int),es),ls)=some (bj most es ls 0):=by
 rw[pO];simp only[Tf,Td,qg];rw[Ti (by omega),Ta,Tk (by omega),Tk (by omega),Tk (by omega),Tk (by omega)];have a:(Ra (most+1) ((([],([],(false,0))):TZ))).length=most+1:=by unfold Ra;simp
 by_cases i:es=[]
 ·subst i;have b:∀ {β:Type} (c d:Unit->Option β),br (neq ([]:List TZ).length 0) c d=c ():=λc d=>rfl;rw[b];obtain⟨r,f,g,h⟩:=gr m (ls:=ls) (l:=[]) (R:=Ra (most+1) ((([],([],(false,0))):TZ))) ⟨trivial,by simp,a,rfl⟩ k;rw[<- h];refine Tv f ?_;rw[Tk g]
 ·have s:=eb.2 i
  have b:∀ {β:Type} (c d:Unit->Option β),br (neq es.length 0) c d=d ():=λc d=>by
   unfold neq
   rw[show TT es.length 0=false by
    cases p:TT es.length 0 with
    |false=>rfl
    |true=>have:=Nat.eq_of_beq_eq_true p;omega];rfl
  have e:∀ {β:Type} (c d:Unit->Option β),br (CF es.length (Ra (most+1) ((([],([],(false,0))):TZ))).length) c d=c ():=λc d=>by
   rw[a];unfold CF;rw[show Nat.ble es.length (most+1)=true by simp;omega];rfl
  rw[b,e]
  have j:LB (Ra (most+1) ((([],([],(false,0))):TZ))) 0 es es.length=es++(Ra (most+1) ((([],([],(false,0))):TZ))).drop es.length:=by
   unfold LB;simp
  obtain⟨r,f,g,h⟩:=gr m (ls:=ls) (l:=es) (R:=LB (Ra (most+1) ((([],([],(false,0))):TZ))) 0 es es.length) ⟨n,o,by rw[j,gl,x6,a];omega,by rw[j,yr]⟩ k;rw[<- h];refine Tv f ?_;rw[Tk g]
end
end Go.Proofs.YtggceepiljjadaaGreat.Pl
