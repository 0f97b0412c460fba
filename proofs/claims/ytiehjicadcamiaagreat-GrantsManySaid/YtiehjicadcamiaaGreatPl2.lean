/- Functions of the program and of the specification as plain functions, and laws about them. No condition. -/
import Derived.Test.YtiehjicadcamiaaGreatPl1
import Derived.KernelRfl
set_option linter.all false
open List renaming Sublist->pg, append_assoc->bc, append_nil->ci, drop_eq_getElem_cons->sk, drop_zero->sr, ext_getElem?->tw, filter_cons->vv, find?_append->ul, find?_cons->ed, find?_eq_none->ta, find?_some->xk, flatten_append->kd, flatten_cons->rz, flatten_eq_nil_iff->sw, foldl_cons->dc, getElem?_eq_getElem->ba, getElem?_eq_none->ab, getElem?_eq_some_iff->aa, getElem?_map->nb, getElem?_of_mem->bf, getElem?_take->hI, getElem_mem->iz, getLast?_eq_getElem?->l6, length->oy, length_append->l4, length_cons->ae, length_map->iP, length_nil->a8, length_pos_iff->co, length_set->xl, length_take->vL, map_append->ox, map_cons->oj, mem_append->gM, mem_append_right->s6, mem_cons->bl, mem_flatten->gl, mem_map->li, mem_map_of_mem->hG, mem_of_find?_eq_some->sp, mem_of_getElem?->ad, mem_singleton->o3, nil_append->ee, nodup_append->nm, nodup_cons->ll, replicate->xm, take_add_one->hV, take_append_drop->s7, take_of_length_le->eo
open Nat renaming le_refl->a9, lt_of_not_le->lc, min_eq_left->xn, sub_zero->hM, zero_add->cP, zero_le->en
open Int renaming toNat_natCast->ac, zero_add->tk
open Option renaming filter->ns, getD_none->tg, getD_some->c0, map_some->us, or_assoc->ey, toList_some->s8
open Bool renaming false_eq_true->fl
open UInt8 renaming lt_iff_toNat_lt->s5
open Option renaming some->zo, none->zn
open Bool renaming true->zt, false->zf
namespace Go.Proofs.YtiehjicadcamiaaGreat.Pl
section
open Go Sv
structure VR (most:Int) (r:UX):Prop where
 id1:1<=r.1
 id2:r.1<=1000000
 vl:VL r.2
 ne:r.2≠[]
 le:(r.2.length:Int)<=most
theorem kC{a:List Int}{most:Int}{r:UX}:kR a most r=0<->VR most r/\r.1 ∉ a:=by
 unfold kR;constructor
 ·intro h;by_cases c:r.1<1\/r.1>1000000
  ·omega
  rw[zx c]at h;by_cases d:(Wu r.2).2≠0
  ·omega
  rw[zx d]at h;by_cases e:r.2.length=0
  ·omega
  rw[zx e]at h;by_cases f:(r.2.length:Int)>most
  ·omega
  rw[zx f]at h;by_cases b:r.1∈a
  ·simp_all
  exact⟨⟨by omega,by omega,aI.1 (by omega),by simp_all,by omega⟩,b⟩
 ·rintro⟨h,b⟩;rw[zx (by have:=h.id1;have:=h.id2;omega),zx (by simp[aI.2 h.vl]),zx (by have:=co.2 h.ne;omega),zx (by have:=h.le;omega),zx b]
def qV(r:UX):Int:=r.1
theorem aQ{most:Int}:∀ {rs:List UX} {k:Nat} {a:List Int},Zc most k a rs=zn<->(∀ r∈rs,VR most r/\r.1 ∉ a)/\(rs.map qV).Nodup
 |[],k,a=>by simp[Zc]
 |r::rs,k,a=>by
  unfold Zc;by_cases h:kR a most r=0
  ·rw[zx (by simp[h]),aQ (rs:=rs)];have f:=kC.1 h;simp only[bl,forall_eq_or_imp,oj,ll,gM,List.not_mem_nil,or_false,li,not_exists,not_and,not_or];constructor
   ·rintro⟨b,d⟩;exact⟨⟨f,λx c=>⟨(b x c).1,(b x c).2.1⟩⟩,λx c e=>(b x c).2.2 e,d⟩
   ·rintro⟨⟨_,b⟩,d,g⟩;exact⟨λx c=>⟨(b x c).1,(b x c).2,d x c⟩,g⟩
  ·rw[zy h];simp only[reduceCtorEq,false_iff,not_and];intro b;exact absurd (kC.2 (b r (by simp))) h
theorem ZU{B:Int}:∀ {ls:List (List UX)} {i:Nat} {c:List Int},Zb B i c ls=zn<->(∀ k rs,ls[k]?=zo rs->rs.length<=2 /\ ∀ r∈rs,VR (VG B (i+k)) r/\r.1 ∉ c)/\(ls.flatten.map qV).Nodup
 |[],i,c=>by simp[Zb]
 |rs::ls,i,c=>by
  unfold Zb;by_cases h:rs.length>2
  ·rw[zy h];simp only[reduceCtorEq,false_iff,not_and];intro g;have:=(g 0 rs rfl).1;omega
  ·rw[zx h];cases l:Zc (VG B i) 0 c rs with
   |some x=>
    simp only[reduceCtorEq,false_iff,not_and];intro g j
    have n:Zc (VG B i) 0 c rs=zn:=aQ.2 ⟨(g 0 rs rfl).2,by
     grind⟩
    simp_all
   |none=>
    have q:=aQ.1 l;simp only;rw[ZU (ls:=ls)];simp only[rz,ox,gM,not_or,li];constructor
    ·rintro⟨g,j⟩;refine⟨λk f m=> ?_,?_⟩
     ·cases k with
      |zero=>grind
      |succ k=>
       grind
     ·rw[nm];refine⟨q.2,j,?_⟩;intro a s b t e;subst e;obtain⟨r,l,e1⟩:=li.1 s;obtain⟨p,d,e2⟩:=li.1 t;obtain⟨f,o,d⟩:=gl.1 d;obtain⟨k,m⟩:=bf o
      grind [qV]
    ·rintro⟨g,j⟩;rw[nm]at j;refine⟨λk f m=> ?_,j.2.1⟩;have n:=g (k+1) f m;refine⟨n.1,λr l=> ?_⟩;have:=n.2 r l;rw[show i+(k+1)=i+1+k by omega]at this;refine⟨this.1,this.2,?_⟩;rintro⟨p,d,e⟩;exact j.2.2 (qV p) (hG d) (qV r) (hG (gl.2 ⟨f,ad m,l⟩)) e
structure VLev (L:UF):Prop where
 B1:1<=L.1
 B2:L.1<=16
 len:L.2.length<=12
 lev:∀ i rs,L.2[i]?=zo rs->rs.length<=2 /\ ∀ r∈rs,VR (VG L.1 i) r
 ids:(L.2.flatten.map qV).Nodup
 last:L.2.getLast? ≠ zo []
theorem YZ{L:UF}:(WF L).2.2=0<->VLev L:=by
 unfold WF;constructor
 ·intro h;by_cases b:L.1<1\/L.1>16
  ·simp_all
  rw[zx b]at h;by_cases c:L.2.length>12
  ·simp_all
  rw[zx c]at h;cases a:Zb L.1 0 [] L.2 with
  |some x=>
   obtain⟨i,k,e⟩:=x;rw[a]at h;exact absurd h (cZ a)
  |none=>
   rw[a]at h;simp only at h;by_cases d:L.2.getLast?=zo []
   ·simp_all
   ·have f:=ZU.1 a
    exact⟨by omega,by omega,by omega,λi rs hi=>by
     grind,f.2,d⟩
 ·intro h
  have a:Zb L.1 0 [] L.2=zn:=ZU.2 ⟨λk rs g=>by
   have:=h.lev k rs g
   simp_all,h.ids⟩
  rw[zx (by have:=h.B1;have:=h.B2;omega),zx (by have:=h.len;omega),a];simp only;rw[zx h.last]
theorem XY{L:UF}(h:VLev L):WF L=(0,(0,0)):=by
 have a:Zb L.1 0 [] L.2=zn:=ZU.2 ⟨λk rs b=>by
  have:=h.lev k rs b
  simp_all,h.ids⟩
 unfold WF;rw[zx (by have:=h.B1;have:=h.B2;omega),zx (by have:=h.len;omega),a];simp only;rw[zx h.last]
def Wq(l:List (List UX)):Int:=l.foldl (λm rs=>rs.foldl (λm r=>Tq m r.1) m) 0
def UK:Nat->List (List UX)->List Int
 |_,[]=>[]
 |i,rs::ls=>(if rs.length=2 then[(i:Int)]else[])++UK (i+1) ls
theorem dQ(L:UF)(e:L.2.length<=1048576)(c:∀ rs∈L.2,rs.length<=1048576):W0 L=zo (Wq L.2):=by
 unfold W0;simp only[UH,UG]
 rw[Vo (l:=L.2) (σ:=Int) (s:=((0:Int),(0:Int))) (λi m=>(m,(i:Int))) (λ_ _ _=>True) (λls _ m=>(0,((ls.foldl (λm rs=>rs.foldl (λm r=>Tq m r.1) m) m,(L.2.length:Int)),()))) 0 rfl (by omega) trivial (λm _=>by
  simp only;rw[re];rfl) (λi rs ls m b a hi _=>by
   refine⟨rs.foldl (λm r=>Tq m r.1) m,?_,trivial,rfl⟩;have d:=c rs (ad a);simp only
   rw[rl hi,Sp,UB,TS a,Vo (l:=rs) (σ:=Int) (s:=((0:Int),m)) (λi m=>((i:Int),m)) (λ_ _ _=>True) (λl _ m=>(0,(((rs.length:Int),l.foldl (λm r=>Tq m r.1) m),()))) m rfl (by omega) trivial (λm _=>by
    simp only;rw[re];rfl) (λk r l m b a f _=>by
     refine⟨Tq m r.1,?_,trivial,rfl⟩
     grind [rl,Sp,UB,TS,UN]),TA,UN a (by omega)]),TA]
 rfl
def Za(L:UF)(a:List Int)(i:Nat)(j:Job):Bool:=match a[i]? with
 |none=>zt
 |some d=>if j.1≠d then zt else if j.2.2.1.2.2=zt/\j.1≠(L.2.length:Int)-1 then zt else match L.2[d.toNat]? with
  |some [r0,r1]=>if j.2.2.2.2<0\/j.2.2.2.2>((r1.2.length+r0.2.length:Nat):Int)then zt else decide (Vq r1.2 r0.2 j.2.2.1.2.2 j.2.2.2.2.toNat≠j.2)
  |_=>zt
def W5(L:UF)(a:List Int):Nat->List Job->Option Nat
 |_,[]=>zn
 |i,j::js=>if Za L a i j=zt then zo i else W5 L a (i+1) js
def UE(s:UC):Int×Int:=
 if(WF s.1).2.2≠0 then(-1,(WF s.1).2.2)else if s.2.2<1\/s.2.2>1000001 then(-1,7)else if s.2.2<=Wq s.1.2 then(-1,6)else match W5 s.1 (UK 0 s.1.2) 0 s.2.1 with
  |some i=>((i:Int),6)
  |none=>if s.2.1.length<(UK 0 s.1.2).length then(-1,4)else(0,0)
theorem YL:∀ {ls:List (List UX)} {i k:Nat} {d:Int},(UK i ls)[k]?=zo d -> ∃ n:Nat,d=((i+n:Nat):Int) /\ ∃ c e,ls[n]?=zo [c,e]
 |[],i,k,d,h=>by cases h
 |rs::ls,i,k,d,h=>by
  unfold UK at h;by_cases a:rs.length=2
  ·rw[zy a]at h;cases k with
   |zero=>
    simp at h;refine⟨0,by simp[<- h],?_⟩
    match rs,a with
    |[c,e],_=>simp_all
   |succ k=>
    simp at h;obtain⟨n,f,b⟩:=YL h;exact⟨n+1,by omega,b⟩
  ·rw[zx a]at h;simp at h;obtain⟨n,f,b⟩:=YL h;exact⟨n+1,by omega,b⟩
theorem V2:∀ (ls:List (List UX)) (i:Nat),(UK i ls).length<=ls.length
 |[],i=>a9 _
 |rs::ls,i=>by
  have:=V2 ls (i+1)
  grind [UK]
theorem dC{L:UF}{n:Nat}{a b:UX}(c:Bool)(h:L.2[n]?=zo [a,b])(d:VL a.2)(e:VL b.2):Vd (L,((n:Int),c))=zo ((n:Int),Vq b.2 a.2 c 0):=by
 unfold Vd;simp only;rw[UB,TS h,TS (x:=b) rfl,TS (x:=a) rfl,iH e d];rfl
theorem aE{a b:List UD}(va:VL a)(d:VL b)(c:Bool){n:Nat}(h:n<=a.length+b.length):(Vq a b c n).1.1.length<=1000/\(∀ l∈(Vq a b c n).1.1,l.length<=1000000)/\(Vq a b c n).1.2.1.length<=1000/\(Vq a b c n).1.2.2.1.length<=1000/\(Vq a b c n).1.2.2.2.1.length<=1000/\(Vq a b c n).2.2.1.length<=1000000:=by
 have i:=va.len;have j:=d.len;refine⟨show 2<=1000 by omega,λl g=> ?_,show 2<=1000 by omega,show 2<=1000 by omega,show 2<=1000 by omega,?_⟩
 ·grind [Vq,Zi,Zt]
 ·have e:=Yi (s0 c) (UR a b n);have f:=VX va d h;show(WZ (s0 c) (UR a b n)).length<=_;omega
theorem sU{L:UF}{n:Nat}{a b:UX}{j:Job}(h:L.2[n]?=zo [a,b])(d:VL a.2)(e:VL b.2){β:Type}(A B:Option β) :
  (bd (Vd (L,((n:Int),j.2.2.1.2.2))) λc=>bd (U2 c.2) λf=>br (TK j.2.2.2.2 0) (λ_=>A) λ_=>br (TI j.2.2.2.2 f.1) (λ_=>A) λ_=>bd (VD (c.2,j.2.2.2.2)) λg=>bd (V8 (g.1,j.2)) λi=>br (H2 i) (λ_=>A) λ_=>B)
  = if j.2.2.2.2<0\/j.2.2.2.2>((b.2.length+a.2.length:Nat):Int)then A else if Vq b.2 a.2 j.2.2.1.2.2 j.2.2.2.2.toNat=j.2 then B else A:=by
 rw[dC _ h d e,TA,aR e d _ (en _),TA,Th,Te,hM];by_cases l:j.2.2.2.2<0
 ·simp_all
 rw[zx l];by_cases m:j.2.2.2.2>((b.2.length+a.2.length:Nat):Int)
 ·simp_all
 rw[zx m,zx (show ¬ (j.2.2.2.2<0\/j.2.2.2.2>((b.2.length+a.2.length:Nat):Int)) by omega)];obtain⟨k,o⟩:∃ k:Nat,j.2.2.2.2=(k:Int):=⟨j.2.2.2.2.toNat,by omega⟩;rw[o,cE e d _ (en _),TA,hM,cP,xn (by omega),ac];obtain⟨s1,s2,p,q,r,s⟩:=aE e d j.2.2.1.2.2 (n:=k) (by omega);rw[dS _ _ s1 s2 p q r s,TA,VU,Vb]
 simp_all
theorem eR(s:UC)(J:s.1.2.length<=1048576)(hr:∀ rs∈s.1.2,rs.length<=1048576 /\ ∀ r∈rs,r.2.length<=9223372036854775807)(hj:s.2.1.length<=1048576):VE s=zo (UE s):=by
 unfold VE UE;simp only[UH,UG];rw[Zm _ J hr,TA,Ti];by_cases C:(WF s.1).2.2=0;rotate_left
 ·simp_all
 rw[zy C,zx (by simp[C]),Th,Te,dQ _ J (λrs h=>(hr rs h).1),TA];have v:=YZ.1 C;by_cases D:s.2.2<1
 ·simp_all
 rw[zx D];by_cases g:s.2.2>1000001
 ·simp_all
 rw[zx g,zx (show ¬ (s.2.2<1\/s.2.2>1000001) by omega),Tf];by_cases E:s.2.2<=Wq s.1.2
 ·simp_all
 rw[zx E,zx E]
 rw[Vo (l:=s.1.2) (σ:=List Int) (s:=((0:Int),([]:List Int))) (λi m=>((i:Int),m)) (λls i m=>m++UK i ls=UK 0 s.1.2) (λ_ _ _=>(0,(((s.1.2.length:Int),UK 0 s.1.2),()))) [] rfl (by omega) rfl (λm h=>by
  simp_all[re,SM,UK]) (λi rs ls m hd e hi h=>by
   refine⟨m++(if rs.length=2 then[(i:Int)]else[]),?_,?_,rfl⟩
   ·simp only;rw[rl hi,Sp,UB,TS e,Tc]
    have hm:m.length<=1048575:=by
     have o:=congrArg oy h;have I:=V2 s.1.2 0;have h6:=v.len
     grind
    by_cases o:rs.length=2
    ·rw[zy (by omega),zy o,Un (by simp_all[BC,AQ,ae,a8]),UN e (by omega)];rfl
    ·rw[zx (by omega),zx o,ci,UN e (by omega)]
   ·rw[bc];exact h),TA]
 simp only;obtain⟨a,p⟩:∃ a,a=UK 0 s.1.2:=⟨_,rfl⟩;have hdl:a.length<=12:=by have:=V2 s.1.2 0;have:=v.len;grind
 rw[<- p];obtain⟨T,Y⟩:∃ T,T=W5 s.1 a 0 s.2.1:=⟨_,rfl⟩;rw[<- Y]
 obtain⟨r,q1,G⟩:=Wh (l:=s.2.1) (σ:=Unit) (λi _=>((0:Int),((0:Int),(i:Int)))) (λjs i _=>W5 s.1 a i js=T) (λ(r:Nat×((Int×(Int×Int))×Unit))=>(T=zn/\r.1=1)\/(∃ i:Nat,T=zo i/\r.1=0/\r.2.1.1=6/\r.2.1.2.1=(i:Int)))
  (f:=λb=>br (TK b.2.2 (s.2.1.length:Int)) (λ_=>SG b.2.2 λk7=>ix s.2.1 k7 λc=>br (SC b.2.2 (a.length:Int)) (λ_=>zo (.dn ((0,((6,(b.2.2,b.2.2)),()))))) λ_=>SG b.2.2 λk9=>gd (Iq k9 a.length) λ_=>ix a k9 λX=>br (SD c.1 X) (λ_=>zo (.dn ((0,((6,(b.2.2,b.2.2)),()))))) λ_=>br c.2.2.1.2.2 (λ_=>bd (Vv (s.1,c.1)) λM=>br (H2 M) (λ_=>zo (.dn ((0,((6,(b.2.2,b.2.2)),()))))) λ_=>bd (Vd ((s.1,(c.1,c.2.2.1.2.2)))) λy=>bd (U2 y.2) λN=>br (TK c.2.2.2.2 0) (λ_=>zo (.dn ((0,((6,(b.2.2,b.2.2)),()))))) λ_=>br (TI c.2.2.2.2 N.1) (λ_=>zo (.dn ((0,((6,(b.2.2,b.2.2)),()))))) λ_=>bd (VD (y.2,c.2.2.2.2)) λO=>bd (V8 (O.1,c.2)) λP=>br (H2 P) (λ_=>zo (.dn ((0,((6,(b.2.2,b.2.2)),()))))) λ_=>zo (.nx ((b.1,(b.2.1,SV .i64 b.2.2 1))))) λ_=>bd (Vd ((s.1,(c.1,c.2.2.1.2.2)))) λz=>bd (U2 z.2) λS=>br (TK c.2.2.2.2 0) (λ_=>zo (.dn ((0,((6,(b.2.2,b.2.2)),()))))) λ_=>br (TI c.2.2.2.2 S.1) (λ_=>zo (.dn ((0,((6,(b.2.2,b.2.2)),()))))) λ_=>bd (VD (z.2,c.2.2.2.2)) λU=>bd (V8 (U.1,c.2)) λW=>br (H2 W) (λ_=>zo (.dn ((0,((6,(b.2.2,b.2.2)),()))))) λ_=>zo (.nx ((b.1,(b.2.1,SV .i64 b.2.2 1))))) λ_=>zo (.dn ((1,(b,())))))
  (s:=(0,(0,0))) () rfl (by omega) Y.symm (λ_ h=>by
   refine⟨_,by simp only;rw[re];rfl,.inl ⟨by rw[<- h];rfl,rfl⟩⟩) (λi j js _ hd e hi h=>by
   simp only;rw[rl hi,Sp,UB,TS e,Td];unfold W5 at h
   have Z:Za s.1 a i j=zt -> ∃ r:Nat×((Int×(Int×Int))×Unit),(zo (LR.dn ((0,((6,((i:Int),(i:Int))),()))):LR (Int×(Int×Int)) _))=zo (.dn r)/\((T=zn/\r.1=1)\/(∃ i:Nat,T=zo i/\r.1=0/\r.2.1.1=6/\r.2.1.2.1=(i:Int))):=λJ=>by
    grind
   have L:Za s.1 a i j=zf -> ∃ st':Unit,(zo (LR.nx ((0:Int),((0:Int),SV .i64 (i:Int) 1))):Option (LR _ (Nat×((Int×(Int×Int))×Unit))))=zo (.nx ((0:Int),((0:Int),((i+1:Nat):Int))))/\W5 s.1 a (i+1) js=T:=λhg=>by
    rw[zx (by simp[hg])]at h;exact⟨(),by rw[UN e (by omega)],h⟩
   by_cases D:(i:Int)>=(a.length:Int)
   ·rw[zy D]
    grind [Za,ab]
   rw[zx D,UB,TG,zy (by omega)];have K:a[i]?=zo (a[i]'(by omega)):=by simp
   rw[TS K,Ti];obtain⟨n,hn,w,x,u⟩:=YL (ls:=s.1.2) (i:=0) (k:=i) (d:=a[i]'(by omega)) (by simp_all);rw[cP]at hn
   have F:Za s.1 a i j=(if j.1≠(a[i]'(by omega))then zt else if j.2.2.1.2.2=zt/\j.1≠(s.1.2.length:Int)-1 then zt else if j.2.2.2.2<0\/j.2.2.2.2>((x.2.length+w.2.length:Nat):Int)then zt else decide (Vq x.2 w.2 j.2.2.1.2.2 j.2.2.2.2.toNat≠j.2)):=by
    grind [Za,ac]
   by_cases g:j.1=(a[i]'(by omega));rotate_left
   ·simp_all
   rw[zy g];rw[zx (by simp[g])]at F;have q:j.1=(n:Int):=by rw[g,hn]
   have hv:=(v.lev n _ u).2;have v0:=(hv w (by simp)).vl;have v1:=(hv x (by simp)).vl;have t:SY .i64 (s.1.2.length:Int) 1=(s.1.2.length:Int)-1:=Sx (by omega);unfold Vv;simp only[UH,UG];rw[TA,t,Vm,VU,Vb,q,sU u v0 v1,Tn];rw[q]at F;by_cases E:j.2.2.1.2.2=zt/\(n:Int)≠(s.1.2.length:Int)-1
   ·simp_all
   rw[zx E]at F
   have o:∀ {γ:Type} (A B:γ),(if j.2.2.1.2.2=zt then if ¬(n:Int)=(s.1.2.length:Int)-1 then A else B else B)=B:=by
    simp_all
   rw[o];by_cases I:j.2.2.2.2<0\/j.2.2.2.2>((x.2.length+w.2.length:Nat):Int)
   ·simp_all
   rw[zx I];rw[zx I]at F;by_cases h6:Vq x.2 w.2 j.2.2.1.2.2 j.2.2.2.2.toNat=j.2
   all_goals simp_all)
 rw[C];refine UZ q1 ?_;rw[TB];rcases G with⟨G,q3⟩|⟨i,G,q3,q4,q5⟩
 ·rw[zx (show ¬ r.1=0 by omega),G,Th]
  grind
 grind
end
section
open Go Sv
theorem Z9(x:UD):WQ x=zo (kE x):=by
 unfold WQ kE;rw[Te,UH,Y9];by_cases c:x.1.length>32
 ·grind
 rw[zx (by omega),Te,UH,Y9];by_cases d:x.2.1.length>64
 ·grind
 rw[zx (by omega:¬ (x.2.1.length:Int)>64),zx (by omega),Tn];by_cases a:x.2.2.1=zt
 ·rw[zy a,Ug,Wa];by_cases b:x.2.1=[]
  ·rw[zy b,zx (by simp[b]),Th,Te]
   grind
  simp_all
 ·rw[zx a,zx (by simp[a]),Th,Te]
  grind
def WY:List UInt8->List UInt8->Nat
 |x::a,y::b=>if x=y then WY a b+1 else 0
 |_,_=>0
theorem pD(x y:UInt8):Og (Tw x) (Tw y)=decide (x=y):=by
 rw[Vm];unfold Tw;by_cases h:x=y
 ·simp[h]
 ·have:¬ ((x.toNat:Int)=(y.toNat:Int)):=λe=>h (UInt8.toNat_inj.1 (by omega))
  grind
theorem iJ(a b:List UInt8)(y:a.length<=9223372036854775806):XM (a,b)=zo (WY a b:Int):=by
 unfold XM;simp only[UH,Y9]
 have key:∀ (m:List UInt8) (k n:Nat),a.drop k=m->k<=a.length->k<=b.length->m.length<n->IQ n (λs0=>br (TK s0 (a.length:Int)) (λ_=>br (TK s0 (b.length:Int)) (λ_=>SG s0 λs=>ix a s λu=>SG s0 λt=>ix b t λw=>br (Og (Tw u) (Tw w)) (λ_=>zo (LR.nx (SV .i64 s0 1))) λ_=>zo (.dn ((0,(s0,()))))) λ_=>zo (.dn ((0,(s0,()))))) λ_=>zo (.dn ((0,(s0,()))))) (k:Int)=zo ((0:Nat),(((k+WY m (b.drop k):Nat):Int),())):=by
  intro m
  induction m with
  |nil=>
   intro k n p o g r;obtain⟨n,rfl⟩:∃ j,n=j+1:=⟨n-1,by omega⟩
   have h:k=a.length:=by
    grind
   subst h;refine Um ?_;rw[re];rfl
  |cons x m z=>
   intro k n p o g r;obtain⟨n,rfl⟩:∃ j,n=j+1:=⟨n-1,by omega⟩
   have i:a[k]?=zo x:=by
    grind [List.head?_drop]
   have c:k<a.length:=(aa.1 i).1
   have q:a.drop (k+1)=m:=by
    grind [List.tail_drop]
   by_cases d:k<b.length
   ·have l:b[k]?=zo b[k]:=by simp[d]
    rw[sk d];unfold WY;by_cases e:x=b[k]
    ·rw[zy e];refine(Ue (s':=((k+1:Nat):Int)) ?_).trans ?_
     ·rw[rl c,Sp,rl d,Sp,UB,TS i,UB,TS l,pD,Vb,zy e,UI (by omega)]
     grind
    ·rw[zx e];refine Um ?_;rw[rl c,Sp,rl d,Sp,UB,TS i,UB,TS l,pD,Vb,zx e];simp
   ·have f:k=b.length:=by omega
    refine Um ?_;rw[rl c,Sp,f,re,SM,List.drop_length];simp[WY]
 refine UZ (VW (n:=a.length+1) (by omega) (key a 0 (a.length+1) (by simp) (by omega) (by omega) (by omega))) ?_;simp
def Zo(a b:XZ):Int:=if Si a b=zt then -1 else if a=b then 0 else 1
theorem dF:∀ (a b:XZ),(WY a b<=a.length/\WY a b<=b.length)/\(WY a b=a.length->WY a b=b.length->Zo a b=0)/\(WY a b=a.length->WY a b≠b.length->Zo a b = -1)/\(WY a b≠a.length->WY a b=b.length->Zo a b=1)/\(∀ x y,a[WY a b]?=zo x->b[WY a b]?=zo y->Zo a b=if x.toNat<y.toNat then -1 else 1)
 |[],[]=>by simp[WY,Zo,aB]
 |[],y::b=>by simp[WY,Zo,cr]
 |x::a,[]=>by simp[WY,Zo,aB]
 |x::a,y::b=>by
  obtain⟨⟨j,g⟩,k,l,m,n⟩:=dF a b;by_cases e:x=y
  ·subst e
   have o:Zo (x::a) (x::b)=Zo a b:=by
    simp_all[Zo,Yr]
   grind [WY]
  ·have hc:WY (x::a) (y::b)=0:=by simp[WY,e]
   rw[hc];refine⟨⟨by omega,by omega⟩,λu=>by simp at u,λu=>by simp at u,λ_ u=>by simp at u,λp q d f=> ?_⟩;simp at d f;subst d f;unfold Zo;rw[Yr];have i:¬ (x::a=y::b):=λh=>e (by injection h);by_cases c:x.toNat<y.toNat
   ·have:x<y:=s5.2 c
    simp_all
   ·have:¬ x<y:=λh=>c (s5.1 h)
    grind
theorem ju(a b:XZ)(p:a.length<=1000000000)(q:b.length<=1000000000):Ww (a,b)=zo (Zo a b):=by
 obtain⟨⟨m,i⟩,n,j,o,k⟩:=dF a b;unfold Ww;simp only[UH,Y9];rw[iJ a b (by omega),TA,Tc]
 have l:(if(WY a b:Int)<(b.length:Int)then(SG (WY a b:Int) λc=>ix a c λe=>SG (WY a b:Int) λd=>ix b d λf=>br (TK (Tw e) (Tw f)) (λ_=>zo (-1:Int)) λ_=>zo 1)else zo 1)=(if WY a b=a.length then(if(WY a b:Int)<(b.length:Int)then(SG (WY a b:Int) λc=>ix a c λe=>SG (WY a b:Int) λd=>ix b d λf=>br (TK (Tw e) (Tw f)) (λ_=>zo (-1:Int)) λ_=>zo 1)else zo 1)else zo (Zo a b)):=by
  by_cases u:WY a b=a.length
  ·grind
  ·rw[zx u];by_cases v:WY a b=b.length
   ·simp_all
   ·rw[zy (by omega),UB];have g:a[WY a b]?=zo (a[WY a b]'(by omega)):=by simp
    have h:b[WY a b]?=zo (b[WY a b]'(by omega)):=by simp
    rw[TS g,UB,TS h,Th,k _ _ g h];unfold Tw
    grind
 by_cases u:WY a b=a.length
 ·rw[zy (by omega),Tc];by_cases v:WY a b=b.length
  ·simp_all
  ·rw[zx (by omega),Tc,zy (by omega),j u v]
 ·rw[zx (by omega),Tc,zx (by omega),Th,l,zx u]
theorem gx(a b:XZ):Zo a b>=0<->Si a b=zf:=by
 grind [Zo]
theorem Xe(l:List UD)(C:l.length<=9223372036854775807):Vt l=zo (Wu l):=by
 unfold Vt Wu;simp only[UH,UG];rw[Te];by_cases h:l.length>5000
 ·grind
 rw[zx (by omega),zx h];obtain⟨T,j⟩:∃ T,T=ZC zn 0 l:=⟨_,rfl⟩;rw[<- j]
 obtain⟨r,t,D⟩:=Wh (l:=l) (σ:=Unit) (s:=((0:Int),((0:Int),(0:Int)))) (λk _=>((0:Int),((0:Int),(k:Int)))) (λm k _=>ZC (if k=0 then zn else(l[k-1]?).map (·.1)) k m=T/\(∀ y,k≠0->l[k-1]?=zo y->kE y=0)) (λ(r:Nat×((Int×(Int×Int))×Unit))=>(r.1=1/\T=(0,0))\/(r.1=0/\T=(r.2.1.2.1,r.2.1.1)))
  (f:=λs0=>br (TK s0.2.2 (l.length:Int)) (λ_=>SG s0.2.2 λo=>ix l o λw=>bd (WQ w) λd=>br (Og d 0) (λ_=>br (TI s0.2.2 0) (λ_=>SG (SY .i64 s0.2.2 1) λp=>ix l p λz=>SG s0.2.2 λq=>ix l q λA=>bd (Ww (z.1,A.1)) λu=>br (SC u 0) (λ_=>zo (.dn ((0,((6,(s0.2.2,s0.2.2)),()))))) λ_=>br (SD d 0) (λ_=>zo (.dn ((0,((d,(s0.2.2,s0.2.2)),()))))) λ_=>zo (.nx ((s0.1,(s0.2.1,SV .i64 s0.2.2 1))))) λ_=>br (SD d 0) (λ_=>zo (.dn ((0,((d,(s0.2.2,s0.2.2)),()))))) λ_=>zo (.nx ((s0.1,(s0.2.1,SV .i64 s0.2.2 1))))) λ_=>br (SD d 0) (λ_=>zo (.dn ((0,((d,(s0.2.2,s0.2.2)),()))))) λ_=>zo (.nx ((s0.1,(s0.2.1,SV .i64 s0.2.2 1))))) λ_=>zo (.dn ((1,(s0,())))))
  () rfl (by omega) ⟨j.symm,λ_ h=>absurd rfl h⟩ (λ_ h=>by
   refine⟨_,by simp only;rw[re];rfl,.inl ⟨rfl,?_⟩⟩;rw[<- h.1];simp[ZC]) (λk x m _ B g n h=>by
   simp only;obtain⟨h,c⟩:=h;rw[rl n,Sp,UB,TS g,Z9,TA,Tc];unfold ZC at h
   have next:kE x=0->(T=ZC (zo x.1) (k+1) m)->ZC (if k+1=0 then zn else(l[k+1-1]?).map (·.1)) (k+1) m=T/\(∀ y,k+1≠0->l[k+1-1]?=zo y->kE y=0):=λa e=>by
    simp_all
   by_cases a:kE x=0
   ·rw[zy a,Te];rw[zx (by simp[a])]at h;by_cases b:k=0
    ·rw[zx (by omega),Ti,zy a];rw[zy b]at h;exact .inl ⟨(),by rw[UN g (by omega)],next a h.symm⟩
    ·have i:l[k-1]?=zo (l[k-1]'(by omega)):=by simp_all
     rw[zy (by omega),show SY .i64 (k:Int) 1=((k-1:Nat):Int) by rw[Sx (by omega)];omega,UB,TS i,UB,TS g];rw[zx b,i]at h;simp only[us]at h;rw[ju _ _ (by have:=az (c _ b i);omega) (by have:=az a;omega),TA,Td];by_cases hs:Si (l[k-1]'(by omega)).1 x.1=zt
     ·rw[zx (λe=>by rw[gx,hs]at e;cases e),Ti,zy a];rw[zy hs]at h;exact .inl ⟨(),by rw[UN g (by omega)],next a h.symm⟩
     simp_all[zy,gx,zx]
   ·rw[zx a,Ti,zx a]
    grind)
 refine UZ t ?_;rw[TB]
 grind
theorem pG(p q:UW)(d:WX p)(e:WX q):YA ([p,q],(0,1))=zo (w0 p q):=by
 unfold YA w0;refine(Wi 0 rfl (x:=p) rfl).trans ((Wi 1 rfl (x:=q) rfl).trans ?_);rw[beq_eq,VU,Vb,Ug,Tn];by_cases b:p.2=q.2
 ·rw[zx (show ¬ ¬ p.2=q.2 by simp[b]),zx (show ¬ p.2≠q.2 by simp[b])];by_cases a:p.2=zt
  ·rw[zy a,d a,e (b ▸ a)];rfl
  ·rw[zx a,Ug,Wa];by_cases c:p.1=q.1
   ·rw[zy c,zx (by simp[c])];rfl
   simp_all
 simp_all
theorem aV(p q:UW)(n:Nat)(k:Int)(h:2<=k)(a:k<=100):NG US (n+1) ([p,q],k)=zo (k-2,0):=by
 show US (NG US n) ([p,q],k)=_;unfold US;show br (SC k 2) (λ_=>zo (SY .i64 k 2,0)) _=_;rw[Td,zy h,Sx (by omega)]
theorem bH(p q:UW)(a:WX p)(b:WX q):XO ([p,q],1)=zo (if w0 p q=zt then(0,1)else(1,0)):=by
 show US (NG US 99) ([p,q],1)=_;unfold US;show br (SC (1:Int) 2) (λ_=>zo (SY .i64 (1:Int) 2,0)) (λ_=>bd (NG US (98+1) ([p,q],2)) λc=>bd (NG US (98+1) ([p,q],3)) _)=_;rw[Td,zx (by omega),aV p q 98 2 (by omega) (by omega),TA,aV p q 98 3 (by omega) (by omega),TA]
 grind [pG,TA,Tn]
theorem pB(p q:UW)(a:WX p)(c:WX q):X9 [p,q]=zo (Tt p q):=by
 unfold X9;refine Eq.trans (b:=bd (loop _ (1,([p,q],([0,0],0)))) _) rfl ?_;refine UZ (x:=(0,((2,([p,q],([0,if w0 p q=zt then 1 else 0],0))),()))) (VW (n:=2) (by omega) ((Ue (s':=(2,([p,q],([0,if w0 p q=zt then 1 else 0],0)))) ?_).trans (Um rfl))) ?_
 ·show bd (XO ([p,q],1)) _=_;rw[bH p q a c,TA];refine(ZK 1 rfl (x:=(0:Int)) rfl).trans ?_;cases h:w0 p q<;>rfl
 grind [Tt,bH,TA]
theorem iY{l:List UW}(h:∀ k∈l,WX k)(e:l≠[])(f:l.length<=32):Xn l=zo 0:=by
 unfold Xn;simp only[UH,UG];rw[Tc,Te,zx (by simp_all),zx (by omega)]
 rw[Vo (l:=l) (σ:=Unit) (s:=((0:Int),(0:Int))) (λk _=>((k:Int),(0:Int))) (λ_ _ _=>True) (λ_ _ _=>(1,(((l.length:Int),0),()))) () rfl (by omega) trivial (λd _=>by
  simp only;rw[re];rfl) (λk x m d _ a c _=>⟨(),by
   simp only;rw[rl c,Sp,UB,TS a,Tn,UN a (by omega)];by_cases b:x.2=zt
   ·rw[zy b,UB,TS a,Ug,Wa,zy (h x (ad a) b)]
   simp_all,trivial,rfl⟩),TA]
 rfl
theorem iI(p q:UW)(a:WX p)(b:WX q):Wx [p,q]=zo (Tt p q,0):=by
 unfold Wx;rw[iY (by grind) (by simp) (by simp),TA,Ti,zy rfl,pB p q a b,TA]
end
section
open Go Sv
theorem Xt:VH=U1:=rfl
theorem bI:X8=UQ:=rfl
theorem ew(l m:List UW)(d:l.length<=9223372036854775806)(h:l.length=m.length):∃ r,loop (λs1=>br (TK s1.1 (l.length:Int)) (λ_=>SG s1.1 λj=>ix l j λb=>SG s1.1 λn=>ix m n λc=>br (H2 (Nr (seq b.1 c.1) (Nr (Sv.beq b.2 c.2) zt))) (λ_=>zo (LR.dn ((0:Nat),((s1.1,zf),())))) λ_=>zo (.nx (SV .i64 s1.1 1,s1.2))) λ_=>zo (.dn ((1,(s1,()))))) ((0:Int),zf)=zo r/\((l=m/\r.1=1)\/(l≠m/\r.1=0/\r.2.1.2=zf)):=by
 refine Yo l m h d (λk x y a i=> ?_) (by simp only;rw[re];rfl);have g:=(aa.1 a).1
 have f:∀ {β:Type} (u v:Unit->Option β),br (H2 (Nr (seq x.1 y.1) (Nr (Sv.beq x.2 y.2) zt))) u v=if x=y then v ()else u ():=by
  intro β u v;rw[Zu,Zr,beq_eq,Yt,VU,Vb]
  grind
 constructor
 ·intro e;simp only;rw[rl g,Sp,UB,TS a,UB,TS i,f,zy e,UI (by omega)]
 simp_all[rl,Sp,UB,TS,zx]
theorem bK(s t:V9)(g:s.1.length<=1000)(h:s.2.1.length<=1000):XN (s,t)=zo (decide (s=t)):=by
 obtain⟨b,d,j⟩:=s;obtain⟨c,f,k⟩:=t;simp only at g h;unfold XN;simp only[UH,UG];rw[Ti];by_cases e1:(b.length:Int)=(c.length:Int);rotate_left
 ·rw[zx e1];have:¬ b=c:=λe=>e1 (by rw[e]);simp[this]
 rw[zy e1,Ti];by_cases e2:j=k;rotate_left
 ·simp_all
 rw[zy e2,bI,ZR _ _ (by omega),TA,VU,Vb];by_cases e3:d=f;rotate_left
 ·simp_all
 rw[zx (show ¬ ¬ d=f by simp[e3])];obtain⟨r,i,a⟩:=ew b c (by omega) (by omega);refine UZ i ?_;rw[TB];rcases a with⟨e,a⟩|⟨e,a,l⟩<;>simp_all
theorem dk(s t:Vp)(u:s.1.length<=1000)(g:∀ l∈s.1,l.length<=1000000)(w:s.2.1.length<=1000)(h:s.2.2.1.length<=1000)(i:s.2.2.2.1.length<=1000):YC (s,t)=zo (decide (s=t)):=by
 obtain⟨a,n,o⟩:=s;obtain⟨c,p,q⟩:=t;simp only at u g w h i;unfold YC;simp only[UH,UG];rw[Ti];by_cases e1:(a.length:Int)=(c.length:Int);rotate_left
 ·rw[zx e1];have:¬ a=c:=λe=>e1 (by rw[e]);simp[this]
 rw[zy e1,bI,ZR _ _ (by omega),TA,VU,Vb];by_cases e2:n=p;rotate_left
 ·simp_all
 rw[zx (show ¬ ¬ n=p by simp[e2]),bK _ _ h i,TA,VU,Vb];by_cases e3:o=q;rotate_left
 ·simp_all
 rw[zx (show ¬ ¬ o=q by simp[e3])]
 obtain⟨r,C,d⟩:=Yo a c (by omega) (by omega) (f:=λs2=>br (TK s2.1 (a.length:Int)) (λ_=>SG s2.1 λA=>ix a A λE=>SG s2.1 λB=>ix c B λF=>bd (VH (E,F)) λD=>br (H2 D) (λ_=>zo (.dn ((0,((s2.1,zf),()))))) λ_=>zo (.nx (SV .i64 s2.1 1,s2.2))) λ_=>zo (.dn ((1,(s2,()))))) (λk x y b m=>by
   have j:=(aa.1 b).1;have z:=g x (ad b);constructor
   ·intro e;simp only;rw[rl j,Sp,UB,TS b,UB,TS m,Xt,XE _ _ (by omega),TA,VU,Vb,zx (by simp[e]),UI (by omega)]
   ·intro e;simp only
    rw[rl j,Sp,UB,TS b,UB,TS m,Xt,XE _ _ (by omega),TA,VU,Vb,zy e]) (by simp only;rw[re];rfl)
 refine UZ C ?_;rw[TB];rcases d with⟨e,d⟩|⟨e,d,G⟩<;>simp_all
theorem bJ(x y:X4)(a:x.1.1.length<=1000)(b:∀ l∈x.1.1,l.length<=1000000)(c:x.1.2.1.length<=1000)(d:x.1.2.2.1.length<=1000)(e:x.1.2.2.2.1.length<=1000)(f:x.2.2.1.length<=1000000):Us (x,y)=zo (decide (x=y)):=by
 obtain⟨i,⟨xs,k,h⟩,g,j⟩:=x;obtain⟨n,⟨q,r,m⟩,p,o⟩:=y;simp only at a b c d e f;unfold Us;simp only[dk _ _ a b c d e,Xt,XE _ _ (show g.length<=9223372036854775806 by omega),TA,Vb,Vm,Zr,beq_eq,Zu,Yt]
 repeat' split
 all_goals simp_all
section
variable{a b:List UD}(va:VL a)(vb:VL b)
include va vb
theorem Zp:WT [a,b]=zo (0,0):=by
 have c:=va.len;have d:=vb.len;unfold WT;refine Eq.trans (b:=bd (loop _ (0,(0,0))) _) rfl ?_;refine UZ (x:=(1,((0,(0,2)),()))) (VT (s1:=(0,(0,1))) (s2:=(0,(0,2))) ?_ ?_ rfl) rfl
 ·refine(aZ 0 rfl rfl (x:=a) rfl).trans ?_;rw[Xe _ (by omega),ZD va,TA];rfl
 ·refine(aZ 1 rfl rfl (x:=b) rfl).trans ?_;rw[Xe _ (by omega),ZD vb,TA];rfl
theorem Y5{i j:Nat}(hi:i<=a.length)(g:j<=b.length):WS ([a,b],[(i:Int),(j:Int)])=zo (if i=a.length/\j=b.length then -1 else if YN a b i j=zt then 0 else 1):=by
 have k:=va.len;have l:=vb.len;unfold WS;simp only[UH,UG];refine UZ (x:=(0,((if i=a.length/\j=b.length then -1 else if YN a b i j=zt then 0 else 1,2),()))) (VT (s1:=(if i=a.length then -1 else 0,1)) (s2:=(if i=a.length/\j=b.length then -1 else if YN a b i j=zt then 0 else 1,2)) ?_ ?_ rfl) rfl
 ·refine(aZ 0 rfl rfl (x:=(i:Int)) rfl).trans ((Wi 0 rfl (x:=a) rfl).trans ?_);rw[Th];by_cases h:i=a.length
  ·rw[zx (by omega),zy h];rfl
  ·rw[zy (by omega),zx h];rfl
 ·refine(aZ 1 rfl rfl (x:=(j:Int)) rfl).trans ((Wi 1 rfl (x:=b) rfl).trans ?_);rw[Th];by_cases h:j=b.length
  ·rw[zx (by omega)];by_cases c:i=a.length
   ·rw[zy c,zy ⟨c,h⟩];rfl
   ·rw[zx c,zx (λe=>c e.1)];have d:a[i]?=zo (a[i]'(by omega)):=by simp
    rw[gn d (ab (by omega))];rfl
  ·have f:b[j]?=zo (b[j]'(by omega)):=by simp
   rw[zy (by omega),Th,zx (λe:i=a.length/\j=b.length=>h e.2)];by_cases c:i=a.length
   ·rw[zy c,zy (by omega),gp (ab (by omega)) f];rfl
   ·rw[zx c,zx (by omega)];have d:a[i]?=zo (a[i]'(by omega)):=by simp
    refine(Wi 1 rfl (x:=b) rfl).trans ((Wi 1 rfl (x:=(j:Int)) rfl).trans ((Wi j rfl f).trans ((Wi 0 rfl (x:=a) rfl).trans ((Wi 0 rfl (x:=(i:Int)) rfl).trans ((Wi i rfl d).trans ?_)))));rw[YP,ax d f];cases hs:Si (b[j]'(by omega)).1 (a[i]'(by omega)).1<;>rfl
theorem Y6{i j:Nat}(hi:i<=a.length)(e:j<=b.length):Vx ([a,b],[(i:Int),(j:Int)])=zo (Zt a b i j):=by
 have f:=va.len;have g:=vb.len;unfold Vx;simp only[UH,UG];rw[Un (show[a,b].length<=1048576 from(show 2<=1048576 by omega)),Un (show[(i:Int),(j:Int)].length<=1048576 from(show 2<=1048576 by omega))];refine UZ (x:=(0,((2,[kx a i,kx b j]),()))) (VT (s1:=(1,[kx a i])) (s2:=(2,[kx a i,kx b j])) ?_ ?_ rfl) ?_
 ·refine(aZ 0 rfl rfl (x:=(i:Int)) rfl).trans ((Wi 0 rfl (x:=a) rfl).trans ?_);rw[Vm,VU,Vb];by_cases h:i=a.length
  ·have c:((i:Int)=(a.length:Int)):=by omega
   rw[zx (show ¬ ¬ ((i:Int)=(a.length:Int)) by simp[c]),Z4 (ab (by omega))];simp only[c,decide_true];rfl
  ·have d:a[i]?=zo (a[i]'(by omega)):=by simp
   have c:¬ ((i:Int)=(a.length:Int)):=by omega
   rw[zy c];refine(Wi 0 rfl (x:=a) rfl).trans ((Wi 0 rfl (x:=(i:Int)) rfl).trans ((Wi i rfl d).trans ?_));rw[XW d];simp only[c,decide_false];rfl
 ·refine(aZ 1 rfl rfl (x:=(j:Int)) rfl).trans ((Wi 1 rfl (x:=b) rfl).trans ?_);rw[Vm,VU,Vb];by_cases h:j=b.length
  ·have c:((j:Int)=(b.length:Int)):=by omega
   rw[zx (show ¬ ¬ ((j:Int)=(b.length:Int)) by simp[c]),Z4 (l:=b) (i:=j) (ab (by omega))];simp only[c,decide_true];rfl
  ·have d:b[j]?=zo (b[j]'(by omega)):=by simp
   have c:¬ ((j:Int)=(b.length:Int)):=by omega
   rw[zy c];refine(Wi 1 rfl (x:=b) rfl).trans ((Wi 1 rfl (x:=(j:Int)) rfl).trans ((Wi j rfl d).trans ?_));rw[XW (l:=b) (i:=j) d];simp only[c,decide_false];rfl
 ·show bd (Wx [kx a i,kx b j]) _=_;rw[iI _ _ (Uw _ _) (Uw _ _)];rfl
theorem hC{i:Nat}{l:List UD}(h:i≠0)(hi:i<=l.length):∃ x,l[i-1]?=zo x:=⟨l[i-1]'(by omega),by simp⟩
theorem aO{i j:Nat}(I:Inv a b i j):WR (Zt a b i j)=zo (0,0):=by
 have s:=va.len;have t:=vb.len;have hi:=I.ia;have k:=I.jb;unfold WR;rw[show(Zt a b i j).1=[a,b]from rfl,Zp va vb,TA,Ti,zy rfl];rw[show(Zt a b i j).2.1=[(i:Int),(j:Int)]from rfl,Ti,zy (show Ko (AQ [(i:Int),(j:Int)])=Ko (AQ [a,b])from rfl)];refine UZ (x:=(1,((0,(0,2)),()))) (VT (s1:=(0,(0,1))) (s2:=(0,(0,2))) ?_ ?_ rfl) ?_
 ·refine(aZ 0 rfl rfl (x:=(i:Int)) rfl).trans ?_;rw[Th,zx (by omega)];refine(Wi 0 rfl (x:=(i:Int)) rfl).trans ((Wi 0 rfl (x:=a) rfl).trans ?_);rw[Te,zx (by simp only[UH,UG];omega)];rfl
 ·refine(aZ 1 rfl rfl (x:=(j:Int)) rfl).trans ?_;rw[Th,zx (by omega)];refine(Wi 1 rfl (x:=(j:Int)) rfl).trans ((Wi 1 rfl (x:=b) rfl).trans ?_);rw[Te,zx (by simp only[UH,UG];omega)];rfl
 rw[show neq ((1:Nat),(((0:Int),((0:Int),(2:Int))),())).1 0=zf from rfl,SM,Y6 va vb hi k,TA,bK (Zt a b i j).2.2 (Zt a b i j).2.2 (show 2<=1000 by omega) (show 2<=1000 by omega),TA,VU,Vb,zx (show ¬ ¬ (Zt a b i j).2.2=(Zt a b i j).2.2 by simp),Y5 va vb hi k,TA];by_cases n:i=a.length/\j=b.length
 ·rw[zy n];rfl
 rw[zx n];cases g:YN a b i j with
 |true=>
  rw[zy rfl]
  have m:i<a.length:=by
   refine lc λh'=> ?_;have q:j<b.length:=by omega
   simp_all[gp,ab]
  have e:a[i]?=zo (a[i]'m):=by simp
  refine UZ (x:=(1,((0,(0,2)),()))) (VT (s1:=(0,(0,1))) (s2:=(0,(0,2))) ?_ ?_ rfl) rfl
  ·show br (TK (0:Int) 2) _ _=_;rw[Th,zy (by omega),Td,zy (by omega)];refine(Wi 0 rfl (x:=(i:Int)) rfl).trans ?_;rw[Tc];by_cases f:i=0
   ·rw[zy (by omega)];rfl
   ·rw[zx (by omega)];obtain⟨y,d⟩:=hC va vb (l:=a) f hi;refine(Wi 0 rfl (x:=a) rfl).trans ((Wi 0 rfl (x:=(i:Int)) rfl).trans ?_);rw[show SY .i64 (i:Int) 1=((i-1:Nat):Int) by rw[Sx (by omega)];omega,UB,TS d];refine(Wi 0 rfl (x:=a) rfl).trans ((Wi 0 rfl (x:=(i:Int)) rfl).trans ((Wi i rfl e).trans ?_));have c:=va.lt d (show a[i-1+1]?=zo _ by rw[show i-1+1=i by omega];exact e);rw[YP,zx (by rw[VY c];simp),Wa,zx (ZN c)];rfl
  ·show br (TK (1:Int) 2) _ _=_;rw[Th,zy (by omega),Td,zy (by omega)];refine(Wi 1 rfl (x:=(j:Int)) rfl).trans ?_;rw[Tc];by_cases f:j=0
   ·rw[zy (by omega)];rfl
   ·rw[zx (by omega)];obtain⟨y,d⟩:=hC va vb (l:=b) f k;refine(Wi 1 rfl (x:=b) rfl).trans ((Wi 1 rfl (x:=(j:Int)) rfl).trans ?_);rw[show SY .i64 (j:Int) 1=((j-1:Nat):Int) by rw[Sx (by omega)];omega,UB,TS d];refine(Wi 0 rfl (x:=a) rfl).trans ((Wi 0 rfl (x:=(i:Int)) rfl).trans ((Wi i rfl e).trans ?_));have c:=I.pb (j-1) (by omega) y _ d e;rw[YP,zx (by rw[VY c];simp),Wa,zx (ZN c)];rfl
 |false=>
  rw[zx (by simp)]
  have h:j<b.length:=by
   refine lc λh'=> ?_;have p:i<a.length:=by omega
   simp_all[gn]
  have e:b[j]?=zo (b[j]'h):=by simp
  refine UZ (x:=(1,((0,(0,2)),()))) (VT (s1:=(0,(0,1))) (s2:=(0,(0,2))) ?_ ?_ rfl) rfl
  ·show br (TK (0:Int) 2) _ _=_;rw[Th,zy (by omega),Td,zy (by omega)];refine(Wi 0 rfl (x:=(i:Int)) rfl).trans ?_;rw[Tc];by_cases f:i=0
   ·rw[zy (by omega)];rfl
   ·rw[zx (by omega)];obtain⟨y,d⟩:=hC va vb (l:=a) f hi;refine(Wi 0 rfl (x:=a) rfl).trans ((Wi 0 rfl (x:=(i:Int)) rfl).trans ?_);rw[show SY .i64 (i:Int) 1=((i-1:Nat):Int) by rw[Sx (by omega)];omega,UB,TS d];refine(Wi 1 rfl (x:=b) rfl).trans ((Wi 1 rfl (x:=(j:Int)) rfl).trans ((Wi j rfl e).trans ?_));have r:=I.pa (i-1) (by omega) y _ d e;rw[YP,zx (by grind),Wa];by_cases o:y.1=(b[j]'h).1
    ·rw[zy o];rfl
    ·rw[zx o];rfl
  ·show br (TK (1:Int) 2) _ _=_;rw[Th,zy (by omega),Td,zy (by omega)];refine(Wi 1 rfl (x:=(j:Int)) rfl).trans ?_;rw[Tc];by_cases f:j=0
   ·rw[zy (by omega)];rfl
   ·rw[zx (by omega)];obtain⟨y,d⟩:=hC va vb (l:=b) f k;refine(Wi 1 rfl (x:=b) rfl).trans ((Wi 1 rfl (x:=(j:Int)) rfl).trans ?_);rw[show SY .i64 (j:Int) 1=((j-1:Nat):Int) by rw[Sx (by omega)];omega,UB,TS d];refine(Wi 1 rfl (x:=b) rfl).trans ((Wi 1 rfl (x:=(j:Int)) rfl).trans ((Wi j rfl e).trans ?_));have c:=vb.lt d (show b[j-1+1]?=zo _ by rw[show j-1+1=j by omega];exact e);rw[YP,zx (by rw[VY c];simp),Wa,zx (ZN c)];rfl
end
end
section
open Go Sv
section
variable{a b:List UD}(va:VL a)(vb:VL b)
include va vb
theorem kT{n:Nat}{x:UD}(h:n<a.length+b.length)(d:aU a b n=zo x):Wk (Zi a b n)=zo (x,((bO a b n:Int),(Zi a b (n+1),0))):=by
 obtain⟨i,hs⟩:=Wj va vb (n:=n) (by omega);obtain⟨j,k⟩:=Wj va vb (n:=n+1) (by omega);have l:=va.len;have m:=vb.len;have e:=i.ia;have f:=i.jb;unfold Wk;rw[show Zi a b n=Zt a b (pos a b n).1 (pos a b n).2 from rfl,aO va vb i,TA,Ti,zy rfl,show(Zt a b (pos a b n).1 (pos a b n).2).1=[a,b]from rfl,show(Zt a b (pos a b n).1 (pos a b n).2).2.1=[((pos a b n).1:Int),((pos a b n).2:Int)]from rfl,Y5 va vb e f,TA,zx (λhh:(pos a b n).1=a.length/\(pos a b n).2=b.length=>by omega)];unfold aU at d;have c:pos a b (n+1)=if YN a b (pos a b n).1 (pos a b n).2=zt then((pos a b n).1+1,(pos a b n).2)else((pos a b n).1,(pos a b n).2+1):=rfl
 unfold Zi bO;cases g:YN a b (pos a b n).1 (pos a b n).2 with
 |true=>
  rw[g,zy rfl]at c;rw[g,zy rfl]at d;have hi:=(aa.1 d).1;rw[zy rfl,Th,zx (by omega),Un (show AQ [((pos a b n).1:Int),((pos a b n).2:Int)]<=1048576 from(show 2<=1048576 by omega))];refine(ZK 0 rfl (x:=((pos a b n).1:Int)) rfl).trans ((ZK 0 rfl (x:=((pos a b n).1:Int)) rfl).trans ((Wi 0 rfl (x:=a) rfl).trans ((Wi 0 rfl (x:=((pos a b n).1:Int)) rfl).trans ((Wi _ rfl d).trans ?_))));rw[UI (by omega),show lset [((pos a b n).1:Int),((pos a b n).2:Int)] 0 (((pos a b n).1+1:Nat):Int)=[(((pos a b n).1+1:Nat):Int),((pos a b n).2:Int)]from rfl,Y6 va vb (by omega) f,TA,c];rfl
 |false=>
  rw[g,zx (by simp)]at c;rw[g,zx (by simp)]at d;have hi:=(aa.1 d).1;rw[zx (by simp),Th,zx (by omega),Un (show AQ [((pos a b n).1:Int),((pos a b n).2:Int)]<=1048576 from(show 2<=1048576 by omega))];refine(ZK 1 rfl (x:=((pos a b n).2:Int)) rfl).trans ((ZK 1 rfl (x:=((pos a b n).2:Int)) rfl).trans ((Wi 1 rfl (x:=b) rfl).trans ((Wi 1 rfl (x:=((pos a b n).2:Int)) rfl).trans ((Wi _ rfl d).trans ?_))));rw[UI (by omega),show lset [((pos a b n).1:Int),((pos a b n).2:Int)] 1 (((pos a b n).2+1:Nat):Int)=[((pos a b n).1:Int),(((pos a b n).2+1:Nat):Int)]from rfl,Y6 va vb e (by omega),TA,c];rfl
theorem kS{n:Nat}(h:n<=a.length+b.length):YB (Zi a b n)=zo (((a.length+b.length-n:Nat):Int),0):=by
 obtain⟨c,hs⟩:=Wj va vb (n:=n) h;have f:=va.len;have g:=vb.len;have d:=c.ia;have e:=c.jb;unfold YB;rw[show Zi a b n=Zt a b (pos a b n).1 (pos a b n).2 from rfl,aO va vb c,TA,Ti,zy rfl];refine UZ (x:=(0,((2,((a.length+b.length-n:Nat):Int)),()))) (VT (s1:=(1,(a.length:Int)-((pos a b n).1:Int))) (s2:=(2,((a.length+b.length-n:Nat):Int))) ?_ ?_ rfl) rfl
 ·refine(aZ 0 rfl rfl (x:=a) rfl).trans ((Wi 0 rfl (x:=((pos a b n).1:Int)) rfl).trans ?_);simp only[UH,UG];rw[show SV .i64 (0:Int) (a.length:Int)=(a.length:Int) by rw[Su (by omega),tk],Sx (by omega)];rfl
 ·refine(aZ 1 rfl rfl (x:=b) rfl).trans ((Wi 1 rfl (x:=((pos a b n).2:Int)) rfl).trans ?_)
  grind [UH,UG,Su,Sx,pos]
theorem gy:XB [a,b]=zo (UR a b (a.length+b.length),(YQ a b (a.length+b.length),0)):=by
 have l:=va.len;have m:=vb.len;unfold XB;rw[Zp va vb,TA,Ti,zy rfl];refine Eq.trans (b:=bd (loop _ ([],([],([],(0,([],[0,0])))))) _) rfl ?_
 refine UZ (x:=(0,((YQ a b (a.length+b.length),(UR a b (a.length+b.length),0)),())))
  (YO (λk=>([],(UR a b k,([],(0,(YQ a b k,[((pos a b k).1:Int),((pos a b k).2:Int)])))))) 0 (a.length+b.length) rfl (by omega) (by omega) (λk _ h=> ?_) ?_) rfl
 ·obtain⟨x,c,_⟩:=V6 va vb (n:=k) h;obtain⟨d,hs⟩:=Wj va vb (n:=k) (by omega);have i:(UR a b k).length=k:=VX va vb (by omega);have j:=aJ a b k;simp only;rw[Y5 va vb d.ia d.jb,TA,zx (λhh:(pos a b k).1=a.length/\(pos a b k).2=b.length=>by omega)];rw[W6 va vb c];unfold aU at c;rw[show YQ a b (k+1)=YQ a b k++[(bO a b k:Int)]from rfl];unfold bO;rw[show pos a b (k+1)=if YN a b (pos a b k).1 (pos a b k).2=zt then((pos a b k).1+1,(pos a b k).2)else((pos a b k).1,(pos a b k).2+1)from rfl]
  have e:∀ {β:Type} (y:UD) (q:Unit->Option β),gd (CF (BC (AQ (UR a b k)) (AQ [y])) 1048576) q=q ():=λy q=>Un (by grind [BC,AQ,ae,a8]) q;have f:∀ {β:Type} (y:Int) (q:Unit->Option β),gd (CF (BC (AQ (YQ a b k)) (AQ [y])) 1048576) q=q ():=λy q=>Un (by grind [BC,AQ,ae,a8]) q;cases g:YN a b (pos a b k).1 (pos a b k).2 with
  |true=>
   rw[g,zy rfl]at c;have hi:=(aa.1 c).1;simp only[if_true];rw[Th,zx (by omega)];refine(Wi 0 rfl (x:=a) rfl).trans ((ZK 0 rfl (x:=((pos a b k).1:Int)) rfl).trans ((Wi _ rfl c).trans ?_));rw[e,f];refine(ZK 0 rfl (x:=((pos a b k).1:Int)) rfl).trans ((ZK 0 rfl (x:=((pos a b k).1:Int)) rfl).trans ?_);rw[UI (by omega)];rfl
  |false=>
   rw[g,zx (by simp)]at c;have hi:=(aa.1 c).1;simp only[fl,if_false];rw[Th,zx (by omega)];refine(Wi 1 rfl (x:=b) rfl).trans ((ZK 1 rfl (x:=((pos a b k).2:Int)) rfl).trans ((Wi _ rfl c).trans ?_));rw[e,f];refine(ZK 1 rfl (x:=((pos a b k).2:Int)) rfl).trans ((ZK 1 rfl (x:=((pos a b k).2:Int)) rfl).trans ?_);rw[UI (by omega)];rfl
 ·obtain⟨d,hs⟩:=Wj va vb (n:=a.length+b.length) (a9 _);simp only;rw[Y5 va vb d.ia d.jb,TA,zy (show(pos a b (a.length+b.length)).1=a.length/\(pos a b (a.length+b.length)).2=b.length by have:=d.ia;have:=d.jb;omega),Th,zy (by omega)]
end
theorem du{s:U3}(a:s.2.1.length<=32)(b:s.1=zf->s.2.1=[]):Xo s=zo 0:=by
 unfold Xo;rw[Te,zx (by simp only[UH,Y9];omega),Ug,Tn]
 simp_all[zx,Ug,Wa,zy]
theorem fA{s:U3}{x:UD}(e:s.2.1.length<=32)(f:s.1=zf->s.2.1=[])(g:kE x=0)(a:s.1=zt->Si x.1 s.2.1=zf):YD (s,x)=zo (keep s x,((zt,(x.1,s.2.2)),0)):=by
 unfold YD keep;rw[du e f,TA,Tc,zy rfl,Z9,g,TA,Tc,zy rfl];obtain⟨s1,s2,c⟩:=s;obtain⟨h,i,d,j⟩:=x;simp only at a ⊢;cases s1 with
 |true=>
  have:=a rfl;simp only[Sp,YP,this,fl,if_false,Ti,if_true,Ug,Wa];by_cases b:h=s2
  ·simp[b,SM]
  ·simp only[b,if_false,decide_false];cases c<;>cases d<;>rfl
 |false=>
  simp only[SM,Ti,if_true,Ug];cases c<;>cases d<;>rfl
theorem eh{l:List UD}{b:Bool}(r:l.length<=20000)(o:aD (zf,([],b)) l):XP (l,b)=zo (WZ (zf,([],b)) l,(0,0)):=by
 unfold XP Vy;simp only[UH,UG];rw[Te,zx (by omega),TA]
 rw[Vo (l:=l) (σ:=U3×List UD) (s:=(0,(0,([],([],(0,(zf,([],b)))))))) (λk a=>((0:Int),((k:Int),(([]:List UD),(a.2,((0:Int),a.1))))))
  (λm k a=>aD a.1 m/\a.1.2.1.length<=32/\(a.1.1=zf->a.1.2.1=[])/\a.2.length<=k/\k+m.length=l.length)
  (λm k a=>(1,((0,((l.length:Int),([],(a.2++WZ a.1 m,(0,VK a.1 m))))),()))) ((zf,([],b)),[]) rfl (by omega) ⟨o,by simp,λ_=>rfl,by simp,by simp⟩ ?_ ?_,TA]
 ·simp;rfl
 ·simp_all[re,SM,VK,WZ]
 ·rintro k x m ⟨s,out⟩ t j n ⟨⟨c,d,e⟩,f,g,i,p⟩;simp only at c d e f g i ⊢;refine⟨((zt,(x.1,s.2.2)),out++if keep s x=zt then[x]else[]),?_,⟨e,az c,(λh=>by cases h),?_,by grind⟩,?_⟩
  ·rw[rl n,Sp,UB,TS j,fA f g c d,TA,Ti,zy rfl,Tn,UB,TS j];have q:∀ {β:Type} (k:Unit->Option β),gd (CF (BC out.length [x].length) 1048576) k=k ():=λk=>gm i (by omega) x k
   grind [UN,IN]
  ·grind
  grind [VK,WZ,bc]
section
variable{a b:List UD}(va:VL a)(vb:VL b)
include va vb
theorem bg(c:Bool){n:Nat}(h:n<=a.length+b.length):V5 (UR a b n,c)=zo (WZ (s0 c) (UR a b n),VK (s0 c) (UR a b n)):=by
 have f:=va.len;have g:=vb.len;have d:(UR a b n).length=n:=VX va vb h;unfold V5;simp only[UH,UG];rw[eh (by omega) (Xf va vb c h),TA];unfold Vy;rw[TA,Te,d];cases n with
 |zero=>rfl
 |succ m=>
  obtain⟨x,e,_⟩:=V6 va vb (n:=m) (by omega);rw[zy (by omega),show SY .i64 ((m+1:Nat):Int) 1=(m:Int) by rw[Sx (by omega)];omega,UB,TS (x:=x) (by grind [Yp]),ZJ va vb c e]
theorem dt(c:Bool){n:Nat}(h:n<=a.length+b.length):Wl (Vq a b c n)=zo (n:Int):=by
 obtain⟨d,hs⟩:=Wj va vb (n:=n) h;have e:=va.len;have f:=vb.len;unfold Wl;refine UZ (x:=(0,(((n:Int),2),()))) (VT (s1:=(((pos a b n).1:Int),1)) (s2:=((n:Int),2)) ?_ ?_ rfl) rfl
 ·refine(aZ 0 rfl rfl (x:=((pos a b n).1:Int)) rfl).trans ?_;show zo (LR.nx (SV .i64 0 ((pos a b n).1:Int),(1:Int)))=_;rw[Su (by omega),tk]
 ·refine(aZ 1 rfl rfl (x:=((pos a b n).2:Int)) rfl).trans ?_
  grind [Su,pos]
theorem dw(c:Bool){n:Nat}(h:n<=a.length+b.length):Xq (Vq a b c n)=zo 0:=by
 obtain⟨d,hs⟩:=Wj va vb (n:=n) h;have g:=va.len;have i:=vb.len;have e:=Yi (s0 c) (UR a b n);have f:(UR a b n).length=n:=VX va vb h;unfold Xq;rw[show(Vq a b c n).1=Zt a b (pos a b n).1 (pos a b n).2 from rfl,aO va vb d,TA,Ti,zy rfl,dt va vb c h,TA];simp only[UH,UG];rw[show(Vq a b c n).2.2.1=WZ (s0 c) (UR a b n)from rfl,show(Vq a b c n).2.2.2=(n:Int)from rfl,show(Vq a b c n).2.1=VK (s0 c) (UR a b n)from rfl,Te,zx (by omega),Te,zx (by omega),Ti,zy rfl];rw[show(Zt a b (pos a b n).1 (pos a b n).2).1=[a,b]from rfl,gy va vb,TA,UB];rw[Un (by simp_all[VX,a9]),Un (en _)];rw[show Dy (UR a b (a.length+b.length)) 0 n=UR a b n from by simp_all[Dy,sr,hM,Xz],XX];rw[show(s0 c).2.2=c from rfl,bg va vb c h,TA,Xt,XE _ _ (by omega),TA,VU,Vb,zx (by simp),XX,YV,YV,Y7];rfl
theorem Zq(c:Bool){n:Nat}(h:n<=a.length+b.length):Uh (Vq a b c n)=zo (((a.length+b.length-n:Nat):Int),0):=by
 unfold Uh;rw[dw va vb c h,TA,Ti,zy rfl,show(Vq a b c n).1=Zi a b n from rfl,kS va vb h];rfl
theorem bN(c:Bool){n:Nat}(h:n<=a.length+b.length){k:Nat}:Ub (Vq a b c n,(k:Int))=zo (Vq a b c (n+min k (a.length+b.length-n)),(((min k (a.length+b.length-n):Nat):Int),0)):=by
 have i:=va.len;have l:=vb.len;obtain⟨u,e⟩:∃ u,u=min k (a.length+b.length-n):=⟨_,rfl⟩
 have d:Tp (k:Int) ((a.length+b.length-n:Nat):Int)=(u:Int):=by
  unfold Tp;omega
 rw[<- e];unfold Ub;rw[Zq va vb c h,TA,Tc,zy rfl];simp only[d,UH,UG];rw[Th,zx (by omega),Ti,zy rfl,dt va vb c h,TA,Su (by omega),Te,zx (by omega)]
 refine UZ (x:=(0,(((u:Int),((Zi a b (n+u)).1,((Zi a b (n+u)).2.1,((Zi a b (n+u)).2.2.1,((Zi a b (n+u)).2.2.2.1,((Zi a b (n+u)).2.2.2.2,((Vq a b c n).2.1.1,((Vq a b c n).2.1.2.1,((Vq a b c n).2.1.2.2,(Vq a b c n).2.2))))))))),())))
  (YO (λj=>((j:Int),((Zi a b (n+j)).1,((Zi a b (n+j)).2.1,((Zi a b (n+j)).2.2.1,((Zi a b (n+j)).2.2.2.1,((Zi a b (n+j)).2.2.2.2,((Vq a b c n).2.1.1,((Vq a b c n).2.1.2.1,((Vq a b c n).2.1.2.2,(Vq a b c n).2.2)))))))))) 0 u rfl (by omega) (by omega) (λj _ g=> ?_) ?_) ?_
 ·obtain⟨y,f,_⟩:=V6 va vb (n:=n+j) (by omega);show br (TK (j:Int) (u:Int)) _ _=_;rw[Th,zy (by omega)];show bd (Wk (Zi a b (n+j))) _=_;rw[kT va vb (by omega) f,TA,UI (by omega)];rfl
 ·simp_all[Th,zx]
 ·rw[show(Vq a b c n).1.1=[a,b]from rfl,gy va vb,TA,show(Vq a b c n).2.2.2=(n:Int)from rfl,show SV .i64 (n:Int) (u:Int)=((n+u:Nat):Int) by rw[Su (by omega)];omega,UB];rw[Un (by rw[VX va vb (a9 _)];omega),Un (en _)];rw[show Dy (UR a b (a.length+b.length)) 0 (n+u)=UR a b (n+u)from by unfold Dy;rw[sr,hM];exact Xz va vb (by omega),show(Vq a b c n).2.1.2.2=c from XX _ _,bg va vb c (by omega),TA];rfl
end
end
section
open Go Sv
theorem cD(B:Int)(i:Nat):VG B (i+1)=2*VG B i:=by
 grind [VG,Int.pow_succ,Int.mul_assoc,Int.mul_comm]
theorem dv{B:Int}{i:Nat}(a:1<=B)(b:B<=16)(hi:i<=12):WC (B,(i:Int))=zo (VG B i):=by
 unfold WC;refine UZ (x:=(0,((VG B i,(i:Int)),()))) (Xw (λk=>(VG B k,(k:Int))) i (by simp[VG]) (by omega) (λk d=> ?_) ?_) rfl
 ·have c:=d9 a b (show k<=12 by omega);simp only;rw[Th,zy (by omega),Sw (by omega),UI (by omega),cD]
 simp_all[Th,zx]
theorem pz(r:UX)(a:r.2.length<=9223372036854775807):Xm r=zo (if r.1<1\/r.1>1000000 then(-1,7)else Wu r.2):=by
 grind [Xm,Th,Te,Xe,TA]
theorem kX(r:UX)(most:Int)(a:List Int)(t:r.2.length<=9223372036854775807)(hi:a.length<=1048576):Wo (r,(most,a))=zo (kR a most r):=by
 unfold Wo kR;rw[pz r (by omega),TA];simp only[UH,UG];by_cases h:r.1<1\/r.1>1000000
 ·rw[zy h,zy h];rfl
 rw[zx h,zx h,Ti];by_cases b:(Wu r.2).2=0;rotate_left
 ·simp_all
 rw[zy b,zx (show ¬ (Wu r.2).2≠0 by simp[b]),Tc,Te];by_cases g:r.2.length=0
 ·simp_all
 rw[zx (by omega),zx g];by_cases c:(r.2.length:Int)>most
 ·simp_all
 rw[zx c,zx c]
 obtain⟨q,n,u⟩:=Wh (l:=a) (σ:=Unit) (s:=((0:Int),(0:Int))) (λk _=>((k:Int),(0:Int))) (λm k _=>r.1∈a<->r.1∈m) (λ(q:Nat×((Int×Int)×Unit))=>(q.1=1/\r.1 ∉ a)\/(q.1=0/\r.1∈a/\q.2.1.2=8))
  (f:=λs1=>br (TK s1.1 (a.length:Int)) (λ_=>SG s1.1 λj=>ix a j λo=>br (Og o r.1) (λ_=>zo (.dn ((0,((s1.1,8),()))))) λ_=>zo (.nx (SV .i64 s1.1 1,s1.2))) λ_=>zo (.dn ((1,(s1,())))))
  () rfl (by omega) Iff.rfl (λ_ h=>⟨_,by simp only;rw[re];rfl,.inl ⟨rfl,by grind⟩⟩) (λk x m _ p d i h=>by
   simp only;rw[rl i,Sp,UB,TS d,Tc];by_cases e:x=r.1
   ·simp_all
   ·rw[zx e];exact .inl ⟨(),by rw[UN d (by omega)],by grind⟩)
 refine UZ n ?_;rw[TB]
 grind
theorem iA(L:UF)(hb:L.2.length<=9223372036854775807)(hr:∀ rs∈L.2,rs.length<=9223372036854775807 /\ ∀ r∈rs,r.2.length<=9223372036854775807):VM L=zo (WF L):=by
 unfold VM WF;simp only[UH,UG];rw[Th,Te,Te];by_cases w:L.1<1
 ·simp_all
 rw[zx w];by_cases x:L.1>16
 ·simp_all
 rw[zx x,zx (show ¬ (L.1<1\/L.1>16) by omega)];by_cases Z:(L.2.length:Int)>12
 ·grind
 rw[zx Z,zx (by omega)];have hl2:L.2.length<=12:=by omega
 obtain⟨T,M⟩:∃ T,T=Zb L.1 0 [] L.2:=⟨_,rfl⟩;rw[<- M]
 have z:T=zn->(br (TI (L.2.length:Int) 0) (λ_=>SG (SY .i64 (L.2.length:Int) 1) λB=>ix L.2 B λG=>br (Og (G.length:Int) 0) (λ_=>zo ((SY .i64 (L.2.length:Int) 1,((0:Int),(6:Int))))) λ_=>zo ((0,(0,0)))) λ_=>zo ((0,(0,0))))=zo (if L.2.getLast?=zo []then(((L.2.length-1:Nat):Int),(0,6))else(0,(0,0))):=by
  intro _;rw[Te];by_cases S:L.2=[]
  ·rw[S];rfl
  ·have hp:=co.2 S;rw[zy (by omega),show SY .i64 (L.2.length:Int) 1=((L.2.length-1:Nat):Int) by rw[Sx (by omega)];omega,UB,l6];have d:L.2[L.2.length-1]?=zo (L.2[L.2.length-1]'(by omega)):=by simp
   rw[TS d,d,Tc];by_cases he:L.2[L.2.length-1]'(by omega)=[]<;>simp_all
 obtain⟨r,E,g⟩:=Wh (l:=L.2) (σ:=List Int) (s:=((0:Int),(([]:List Int),((0:Int),((0:Int),(0:Int)))))) (λi a=>((0:Int),(a,((0:Int),((0:Int),(i:Int))))))
  (λm i a=>Zb L.1 i a m=T/\a.length<=2*i) (λ(r:Nat×((Int×(List Int×(Int×(Int×Int))))×Unit))=>(r.1=1/\T=zn)\/(r.1=0/\Q1 T r.2.1.1 r.2.1.2.2.1 r.2.1.2.2.2.1/\T≠zn))
  (f:=λ(s0:(Int×((List Int)×(Int×(Int×Int)))))=>br (TK s0.2.2.2.2 (L.2.length:Int)) (λ_=>SG s0.2.2.2.2 λk1=>ix L.2 k1 λu=>br (TI (u.length:Int) 2) (λ_=>zo (.dn ((0,((0,(s0.2.1,(s0.2.2.2.2,(3,s0.2.2.2.2)))),()))))) λ_=>bd (loop (λ(b:(Int×((List Int)×(Int×(Int×Int)))))=>br (TK b.2.2.2.2 (u.length:Int)) (λ_=>SG b.2.2.2.2 λC=>ix u C λI=>bd (WC (L.1,s0.2.2.2.2)) λF=>bd (Wo ((I,(F,b.2.1)))) λo=>br (SD o 0) (λ_=>zo (.dn ((0,((b.2.2.2.2,(b.2.1,(s0.2.2.2.2,(o,b.2.2.2.2)))),()))))) λ_=>SG b.2.2.2.2 λD=>ix u D λp=>gd (CF (BC b.2.1.length [p.1].length) 1048576) λ_=>zo (.nx ((b.1,(IN b.2.1 [p.1],(b.2.2.1,(b.2.2.2.1,SV .i64 b.2.2.2.2 1))))))) λ_=>zo (.dn ((1,(b,()))))) ((s0.1,(s0.2.1,(s0.2.2.1,(s0.2.2.2.1,0)))))) λc=>br (neq c.1 0) (λ_=>zo (.dn ((0,((c.2.1.1,(c.2.1.2.1,(c.2.1.2.2.1,(c.2.1.2.2.2.1,s0.2.2.2.2)))),()))))) λ_=>zo (.nx ((c.2.1.1,(c.2.1.2.1,(c.2.1.2.2.1,(c.2.1.2.2.2.1,SV .i64 s0.2.2.2.2 1))))))) λ_=>zo (.dn ((1,(s0,())))))
  [] rfl (by omega) ⟨M.symm,by simp⟩ (λa h=>by
   refine⟨_,by simp only;rw[re];rfl,.inl ⟨rfl,?_⟩⟩;rw[<- h.1];rfl) (λi rs m a X d hi h=>by
   obtain⟨h,O⟩:=h;simp only;obtain⟨W,n⟩:=hr rs (ad d);rw[rl hi,Sp,UB,TS d,Te];unfold Zb at h;by_cases K:rs.length>2
   ·rw[zy (by omega)];rw[zy K]at h;refine .inr ⟨_,rfl,.inr ⟨rfl,?_,by grind⟩⟩;rw[<- h];exact⟨rfl,rfl,rfl⟩
   rw[zx (by omega)];rw[zx K]at h;obtain⟨U,N⟩:∃ U,U=Zc (VG L.1 i) 0 a rs:=⟨_,rfl⟩;rw[<- N]at h
   obtain⟨r,E,g⟩:=Wh (l:=rs) (σ:=Unit) (s:=((0:Int),(a,((0:Int),((0:Int),(0:Int)))))) (λk _=>((0:Int),(a++(rs.take k).map (·.1),((0:Int),((0:Int),(k:Int))))))
    (λm k _=>Zc (VG L.1 i) k (a++(rs.take k).map (·.1)) m=U) (λ(r:Nat×((Int×(List Int×(Int×(Int×Int))))×Unit))=>(r.1=1/\U=zn/\r.2.1=(0,(a++rs.map (·.1),(0,(0,(rs.length:Int))))))\/(r.1=0 /\ ∃ k e,U=zo (k,e)/\r.2.1.1=(k:Int)/\r.2.1.2.2.1=(i:Int)/\r.2.1.2.2.2.1=e))
    (f:=λ(b:(Int×((List Int)×(Int×(Int×Int)))))=>br (TK b.2.2.2.2 (rs.length:Int)) (λ_=>SG b.2.2.2.2 λC=>ix rs C λI=>bd (WC (L.1,(i:Int))) λF=>bd (Wo ((I,(F,b.2.1)))) λo=>br (SD o 0) (λ_=>zo (.dn ((0,((b.2.2.2.2,(b.2.1,((i:Int),(o,b.2.2.2.2)))),()))))) λ_=>SG b.2.2.2.2 λD=>ix rs D λp=>gd (CF (BC b.2.1.length [p.1].length) 1048576) λ_=>zo (.nx ((b.1,(IN b.2.1 [p.1],(b.2.2.1,(b.2.2.2.1,SV .i64 b.2.2.2.2 1))))))) λ_=>zo (.dn ((1,(b,())))))
    () (by simp) (by omega) (by simp[N]) (λ_ h=>by
     refine⟨_,by simp only;rw[re];rfl,.inl ⟨rfl,by rw[<- h];rfl,by simp⟩⟩) (λk r m _ X d Y h=>by
     simp only;have hr2:=n r (ad d);have A:(rs.take (k+1)).map (·.1)=(rs.take k).map (·.1)++[r.1]:=by grind
     have P:(a++(rs.take k).map (·.1)).length<=100:=by simp;omega
     rw[rl Y,Sp,UB,TS d,dv (by omega) (by omega) (by omega),TA,kX _ _ _ (by omega) (by omega),TA,Ti];unfold Zc at h;by_cases J:kR (a++(rs.take k).map (·.1)) (VG L.1 i) r=0
     ·rw[zx (λhh:kR (a++(rs.take k).map (·.1)) (VG L.1 i) r≠0=>hh J)]at h;rw[zy J,UB,TS d,Un (by grind [BC,ae,a8])];refine .inl ⟨(),?_,?_⟩
      ·rw[UN d (by omega),A,<- bc];rfl
      simp_all
     grind)
   rw[E,TA,TB];rcases g with⟨g,j,q⟩|⟨g,k,e,j,q,q5,q6⟩
   ·rw[zx (show ¬ r.1=0 by omega),q,UN d (by omega)]
    grind
   ·rw[zy g];rw[j]at h;refine .inr ⟨_,rfl,.inr ⟨rfl,?_,by grind⟩⟩;rw[<- h]
    exact⟨q,q5,q6⟩)
 refine UZ E ?_;rw[TB];rcases g with⟨g,j⟩|⟨g,j,q⟩
 ·grind
 ·rw[zy g];cases y:T with
  |none=>simp_all
  |some t=>
   obtain⟨i,k,e⟩:=t;rw[y]at j;rw[j.1,j.2.1,j.2.2]
theorem ez(L:UF)(b:L.2.length<=1048576)(a:∀ rs∈L.2,rs.length<=1048576 /\ ∀ r∈rs,r.2.length<=9223372036854775807):VM L=zo (WF L):=iA L (by omega) λrs h=>⟨by grind,(a rs h).2⟩
def VQ(ls:List (List UX)):List UX:=ls.flatMap List.reverse
theorem VLev.small{L:UF}(v:VLev L):L.2.length<=1048576 /\ ∀ rs∈L.2,rs.length<=1048576 /\ ∀ r∈rs,r.2.length<=9223372036854775807:=by
 refine⟨by have:=v.len;omega,λrs a=> ?_⟩;obtain⟨i,hi⟩:=bf a;obtain⟨d,b⟩:=v.lev i rs hi;exact⟨by omega,λr c=>by have:=(b r c).vl.len;omega⟩
theorem aT:∀ (ls:List (List UX)),(∀ rs∈ls,rs.length<=2)->(VQ ls).length<=2*ls.length
 |[],_=>by simp[VQ]
 |rs::ls,h=>by
  have b:=aT ls λr a=>h r (by simp[a])
  grind [VQ,l4,List.length_reverse,ae]
theorem VLev.two{L:UF}(v:VLev L):∀ rs∈L.2,rs.length<=2:=λrs a=>by
 obtain⟨i,hi⟩:=bf a;exact(v.lev i rs hi).1
theorem e9{L:UF}(v:VLev L):XQ L=zo (VQ L.2,0):=by
 obtain⟨d,b⟩:=v.small;have f:=v.len;unfold XQ;simp only[UH,UG];rw[ez _ d b,XY v,TA,Ti,zy rfl]
 rw[Vo (l:=L.2) (σ:=List UX) (s:=(([]:List UX),(0:Int))) (λi m=>(m,(i:Int))) (λls i m=>(∀ rs∈ls,rs.length<=2)/\m.length<=2*i) (λls _ m=>(0,((m++VQ ls,(L.2.length:Int)),()))) [] rfl (by omega) ⟨v.two,by simp⟩ (λm _=>by
  simp_all[re,SM,VQ]) (λi rs ls m e a hi h=>by
   refine⟨m++rs.reverse,?_,⟨λr b=>h.1 r (by simp[b]),by grind⟩,by simp[VQ]⟩;have c:=h.1 rs (by simp);have g:m.length<=24:=by omega
   simp only;rw[rl hi,Sp,UB,TS a];have gg:∀ {β:Type} (z:List UX) (x:UX) (k:Unit->Option β),z.length<=100->gd (CF (BC z.length [x].length) 1048576) k=k ():=λz x k j=>Un (by grind [BC,ae,a8]) k
   match rs,c,a with
   |[],_,a=>
    refine UZ (x:=(0,((m,-1),()))) (VW (n:=1) (by omega) (Um rfl)) ?_;rw[UN a (by omega)];simp
   |[r0],_,a=>
    refine UZ (x:=(0,((m++[r0],-1),()))) (VW (n:=2) (by omega) ((Ue (s':=(m++[r0],-1)) ?_).trans (Um rfl))) ?_
    ·show br (SC (0:Int) 0) _ _=_;rw[Td,zy (by omega),UB,TS a];refine(Wi 0 rfl (x:=r0) rfl).trans ?_;rw[gg m _ _ (by omega)];rfl
    ·rw[UN a (by omega)];simp
   |[r0,r1],_,a=>
    refine UZ (x:=(0,((m++[r1]++[r0],-1),()))) (VW (n:=3) (by omega) ((Ue (s':=(m++[r1],0)) ?_).trans ((Ue (s':=(m++[r1]++[r0],-1)) ?_).trans (Um rfl)))) ?_
    ·show br (SC (1:Int) 0) _ _=_;rw[Td,zy (by omega),UB,TS a];refine(Wi 1 rfl (x:=r1) rfl).trans ?_;rw[gg m _ _ (by omega)];rfl
    ·show br (SC (0:Int) 0) _ _=_;rw[Td,zy (by omega),UB,TS a];refine(Wi 0 rfl (x:=r0) rfl).trans ?_;rw[gg (m++[r1]) _ _ (by simp;omega)];rfl
    ·rw[UN a (by omega)];simp),TA]
 simp
theorem YI(a b:Int):Tq a b=max a b:=by unfold Tq;omega
theorem Xh:∀ (l:List UX) (m:Int),0<=m->l.foldl (λm r=>Tq m r.1) m=max m (l.foldl (λm r=>Tq m r.1) 0)
 |[],m,h=>by simp;omega
 |r::l,m,h=>by
  have a:=Xh l (Tq m r.1) (by rw[YI];omega);have b:=Xh l (Tq 0 r.1) (by rw[YI];omega);simp only[dc];rw[a,b,YI,YI];omega
theorem bX(l:List UX)(m:Int)(h:0<=m):l.reverse.foldl (λm r=>Tq m r.1) m=l.foldl (λm r=>Tq m r.1) m:=by
 induction l generalizing m with
 |nil=>rfl
 |cons r l a=>
  rw[List.reverse_cons,List.foldl_append,a m h,dc];simp only[dc,List.foldl_nil]
  grind [Xh,Tq,YI]
theorem cU(l:List UX)(m:Int)(h:0<=m):0<=l.foldl (λm r=>Tq m r.1) m:=by
 rw[Xh l m h];omega
theorem ZA:∀ (ls:List (List UX)) (m:Int),0<=m->(VQ ls).foldl (λm r=>Tq m r.1) m=ls.foldl (λm rs=>rs.foldl (λm r=>Tq m r.1) m) m
 |[],m,_=>rfl
 |rs::ls,m,h=>by
  have a:=ZA ls (rs.foldl (λm r=>Tq m r.1) m) (cU _ _ h)
  grind [VQ,bX]
theorem cf{L:UF}(v:VLev L):Vh L=zo (Wq L.2):=by
 have c:=v.len;have d:=aT L.2 v.two;unfold Vh;simp only[UH,UG];rw[e9 v,TA]
 rw[Vo (l:=VQ L.2) (σ:=Int) (s:=((0:Int),(0:Int))) (λi m=>(m,(i:Int))) (λ_ _ _=>True) (λl _ m=>(0,((l.foldl (λm r=>Tq m r.1) m,((VQ L.2).length:Int)),()))) 0 rfl (by omega) trivial (λm _=>by
  simp only;rw[re,SM];rfl) (λk r l m a e b _=>⟨Tq m r.1,by
   grind [rl,Sp,UB,TS,UN],trivial,rfl⟩),TA]
 rw[ZA _ _ (by omega)];rfl
theorem ah{L:UF}(e:L.2.length<=1000):U0 L=zo (UK 0 L.2):=by
 unfold U0;simp only[UH,UG]
 rw[Vo (l:=L.2) (σ:=List Int) (s:=(([]:List Int),(0:Int))) (λi m=>(m,(i:Int))) (λls i m=>m++UK i ls=UK 0 L.2) (λ_ _ _=>(0,((UK 0 L.2,(L.2.length:Int)),()))) [] rfl (by omega) rfl (λm h=>by
  simp_all[re,SM,UK]) (λi rs ls m d b hi h=>by
   refine⟨m++(if rs.length=2 then[(i:Int)]else[]),?_,?_,rfl⟩
   ·simp only;rw[rl hi,Sp,UB,TS b,Tc]
    have f:m.length<=1000:=by
     have a:=congrArg oy h;have c:=V2 L.2 0
     grind
    by_cases a:rs.length=2
    ·rw[zy (by omega),zy a,Un (by grind [BC,ae,a8]),UN b (by omega)];rfl
    ·rw[zx (by omega),zx a,ci,UN b (by omega)]
   ·rw[bc];exact h),TA]
theorem se{L:UF}(v:VLev L)(k:Int):Yx (L,k)=zo (if k<0\/k>=12 then 7 else 0):=by
 obtain⟨a,b⟩:=v.small;unfold Yx;rw[ez _ a b,XY v,TA,Tc,zy rfl,Th,Td]
 grind
theorem bM{L:UF}(v:VLev L){n:Nat}(b:n<L.2.length):Uk (L,(n:Int))=zo (decide ((n:Int)=(L.2.length:Int)-1)):=by
 have a:=v.len;unfold Uk Yf;simp only[UH,UG];rw[se v,TA,zx (by omega),Ti,zy rfl,TA,UI (by omega)];unfold TI
 grind [VU]
theorem eu{a b:List UD}(va:VL a)(d:VL b)(c:Bool):Xp ([a,b],c)=zo (Vq a b c 0,(0,0)):=by
 unfold Xp Ye Vy;rw[Zp va d,TA,Ti,zy rfl];refine Eq.trans (b:=bd (bd (Vx ([a,b],[((0:Nat):Int),((0:Nat):Int)])) _) _) rfl ?_;rw[Y6 va d (en _) (en _)];rfl
theorem cB{L:UF}{n:Nat}{a b:UX}(c:Bool)(h:L.2[n]?=zo [a,b])(d:VL a.2)(e:VL b.2):UT (L,((n:Int),c))=zo ((n:Int),Vq b.2 a.2 c 0):=by
 have f:=(aa.1 h).1;unfold UT;simp only[UH,UG];rw[Td,zx (by omega),UB,TS h,TS (x:=b) rfl,TS (x:=a) rfl,eu e d];rfl
theorem px{L:UF}{n:Nat}{a b:UX}{j:Job}(h:L.2[n]?=zo [a,b])(d:VL a.2)(e:VL b.2){β:Type}(A B:Option β) :
  (bd (UT (L,((n:Int),j.2.2.1.2.2))) λc=>bd (Uh c.2) λf=>br (TK j.2.2.2.2 0) (λ_=>A) λ_=>br (TI j.2.2.2.2 f.1) (λ_=>A) λ_=>bd (Ub (c.2,j.2.2.2.2)) λg=>bd (Us (g.1,j.2)) λi=>br (H2 i) (λ_=>A) λ_=>B)
  = if j.2.2.2.2<0\/j.2.2.2.2>((b.2.length+a.2.length:Nat):Int)then A else if Vq b.2 a.2 j.2.2.1.2.2 j.2.2.2.2.toNat=j.2 then B else A:=by
 rw[cB _ h d e,TA,Zq e d _ (en _),TA,Th,Te,hM];by_cases l:j.2.2.2.2<0
 ·simp_all
 rw[zx l];by_cases m:j.2.2.2.2>((b.2.length+a.2.length:Nat):Int)
 ·simp_all
 rw[zx m,zx (show ¬ (j.2.2.2.2<0\/j.2.2.2.2>((b.2.length+a.2.length:Nat):Int)) by omega)];obtain⟨k,o⟩:∃ k:Nat,j.2.2.2.2=(k:Int):=⟨j.2.2.2.2.toNat,by omega⟩;rw[o,bN e d _ (en _),TA,hM,cP,xn (by omega),ac];obtain⟨s1,s2,p,q,r,s⟩:=aE e d j.2.2.1.2.2 (n:=k) (by omega);rw[bJ _ _ s1 s2 p q r s,TA,VU,Vb]
 simp_all
end
section
open Go Sv
theorem cj(s:UC)(J:s.1.2.length<=9223372036854775807)(hr:∀ rs∈s.1.2,rs.length<=9223372036854775807 /\ ∀ r∈rs,r.2.length<=9223372036854775807)(hj:s.2.1.length<=9223372036854775807):VN s=zo (UE s):=by
 unfold VN UE;simp only[UH,UG];rw[iA _ J hr,TA,Tc];by_cases o:(WF s.1).2.2=0;rotate_left
 ·rw[zx o,zy o,Tc,zx o,Ti,zx o]
 rw[zy o,zx (show ¬ (WF s.1).2.2≠0 by simp[o]),Th,Te];have v:=YZ.1 o;by_cases y:s.2.2<1
 ·rw[zy y,zy (.inl y)]
 rw[zx y];by_cases p:s.2.2>1000001
 ·rw[zy p,zy (.inr p)]
 rw[zx p,zx (show ¬ (s.2.2<1\/s.2.2>1000001) by omega),Tc,zy o,cf v,TA,Tf];by_cases m:s.2.2<=Wq s.1.2
 ·rw[zy m,zy m]
 rw[zx m,zx m,Ti,zy o,ah (by have:=v.len;omega),TA];obtain⟨a,g⟩:∃ a,a=UK 0 s.1.2:=⟨_,rfl⟩;have hdl:a.length<=12:=by have:=V2 s.1.2 0;have:=v.len;rw[g];omega
 rw[<- g];obtain⟨T,Z⟩:∃ T,T=W5 s.1 a 0 s.2.1:=⟨_,rfl⟩;rw[<- Z]
 obtain⟨r,q1,D⟩:=Wh (l:=s.2.1) (σ:=Unit) (λi _=>((0:Int),((0:Int),(i:Int)))) (λjs i _=>W5 s.1 a i js=T) (λ(r:Nat×((Int×(Int×Int))×Unit))=>(T=zn/\r.1=1)\/(∃ i:Nat,T=zo i/\r.1=0/\r.2.1.1=6/\r.2.1.2.1=(i:Int)))
  (f:=λb=>br (TK b.2.2 (s.2.1.length:Int)) (λ_=>SG b.2.2 λk7=>ix s.2.1 k7 λe=>br (SC b.2.2 (a.length:Int)) (λ_=>zo (.dn ((0,((6,(b.2.2,b.2.2)),()))))) λ_=>SG b.2.2 λk9=>ix a k9 λX=>br (SD e.1 X) (λ_=>zo (.dn ((0,((6,(b.2.2,b.2.2)),()))))) λ_=>br e.2.2.1.2.2 (λ_=>bd (Uk (s.1,e.1)) λM=>br (H2 M) (λ_=>zo (.dn ((0,((6,(b.2.2,b.2.2)),()))))) λ_=>bd (UT ((s.1,(e.1,e.2.2.1.2.2)))) λG=>bd (Uh G.2) λN=>br (TK e.2.2.2.2 0) (λ_=>zo (.dn ((0,((6,(b.2.2,b.2.2)),()))))) λ_=>br (TI e.2.2.2.2 N.1) (λ_=>zo (.dn ((0,((6,(b.2.2,b.2.2)),()))))) λ_=>bd (Ub (G.2,e.2.2.2.2)) λO=>bd (Us (O.1,e.2)) λP=>br (H2 P) (λ_=>zo (.dn ((0,((6,(b.2.2,b.2.2)),()))))) λ_=>zo (.nx ((b.1,(b.2.1,SV .i64 b.2.2 1))))) λ_=>bd (UT ((s.1,(e.1,e.2.2.1.2.2)))) λI=>bd (Uh I.2) λS=>br (TK e.2.2.2.2 0) (λ_=>zo (.dn ((0,((6,(b.2.2,b.2.2)),()))))) λ_=>br (TI e.2.2.2.2 S.1) (λ_=>zo (.dn ((0,((6,(b.2.2,b.2.2)),()))))) λ_=>bd (Ub (I.2,e.2.2.2.2)) λU=>bd (Us (U.1,e.2)) λW=>br (H2 W) (λ_=>zo (.dn ((0,((6,(b.2.2,b.2.2)),()))))) λ_=>zo (.nx ((b.1,(b.2.1,SV .i64 b.2.2 1))))) λ_=>zo (.dn ((1,(b,())))))
  (s:=(0,(0,0))) () rfl (by omega) Z.symm (λ_ h=>by
   refine⟨_,by simp only;rw[re];rfl,.inl ⟨by rw[<- h];rfl,rfl⟩⟩) (λi j js _ hd hx hi h=>by
   simp only;rw[rl hi,Sp,UB,TS hx,Td];unfold W5 at h
   have c:Za s.1 a i j=zt -> ∃ r:Nat×((Int×(Int×Int))×Unit),(zo (LR.dn ((0,((6,((i:Int),(i:Int))),()))):LR (Int×(Int×Int)) _))=zo (.dn r)/\((T=zn/\r.1=1)\/(∃ i:Nat,T=zo i/\r.1=0/\r.2.1.1=6/\r.2.1.2.1=(i:Int))):=λJ=>by
    rw[zy J]at h;exact⟨_,rfl,.inr ⟨i,h.symm,rfl,rfl,rfl⟩⟩
   have x:Za s.1 a i j=zf -> ∃ st':Unit,(zo (LR.nx ((0:Int),((0:Int),SV .i64 (i:Int) 1))):Option (LR _ (Nat×((Int×(Int×Int))×Unit))))=zo (.nx ((0:Int),((0:Int),((i+1:Nat):Int))))/\W5 s.1 a (i+1) js=T:=λhg=>by
    rw[zx (by simp[hg])]at h;exact⟨(),by rw[UN hx (by omega)],h⟩
   by_cases y:(i:Int)>=(a.length:Int)
   ·rw[zy y];exact .inr (c (by unfold Za;rw[ab (by omega)]))
   rw[zx y,UB];have w:a[i]?=zo (a[i]'(by omega)):=by simp
   rw[TS w,Ti];obtain⟨n,K,E,F,t⟩:=YL (ls:=s.1.2) (i:=0) (k:=i) (d:=a[i]'(by omega)) (by rw[<- g];exact w);rw[cP]at K
   have q:Za s.1 a i j=(if j.1≠(a[i]'(by omega))then zt else if j.2.2.1.2.2=zt/\j.1≠(s.1.2.length:Int)-1 then zt else if j.2.2.2.2<0\/j.2.2.2.2>((F.2.length+E.2.length:Nat):Int)then zt else decide (Vq F.2 E.2 j.2.2.1.2.2 j.2.2.2.2.toNat≠j.2)):=by
    unfold Za;rw[w];simp only;rw[K,ac,t]
   by_cases p:j.1=(a[i]'(by omega));rotate_left
   ·rw[zx p];exact .inr (c (by rw[q,zy p]))
   rw[zy p];rw[zx (by simp[p])]at q;have C:j.1=(n:Int):=by rw[p,K]
   have hv:=(v.lev n _ t).2;have v0:=(hv E (by simp)).vl;have v1:=(hv F (by simp)).vl;have L:=(aa.1 t).1;rw[C,bM v L,TA,VU,Vb,px t v0 v1,Tn];rw[C]at q;by_cases m:j.2.2.1.2.2=zt/\(n:Int)≠(s.1.2.length:Int)-1
   ·rw[zy m.1,zy m.2];exact .inr (c (by rw[q,zy m]))
   rw[zx m]at q
   have h4:∀ {γ:Type} (A B:γ),(if j.2.2.1.2.2=zt then if ¬(n:Int)=(s.1.2.length:Int)-1 then A else B else B)=B:=by
    intro γ A B;by_cases u:j.2.2.1.2.2=zt
    ·rw[zy u,zx (λz=>m ⟨u,z⟩)]
    ·rw[zx u]
   rw[h4];by_cases u:j.2.2.2.2<0\/j.2.2.2.2>((F.2.length+E.2.length:Nat):Int)
   ·rw[zy u];exact .inr (c (by rw[q,zy u]))
   rw[zx u];rw[zx u]at q;by_cases z:Vq F.2 E.2 j.2.2.1.2.2 j.2.2.2.2.toNat=j.2
   ·rw[zy z];exact .inl (x (by rw[q];simp[z]))
   ·rw[zx z]
    exact .inr (c (by rw[q];simp[z])))
 refine UZ q1 ?_;rw[TB];rcases D with⟨D,q3⟩|⟨i,D,q3,q4,q5⟩
 ·rw[zx (show ¬ r.1=0 by omega),D,Th];simp only;by_cases Y:s.2.1.length<a.length
  ·rw[zy (by omega),zy Y]
  ·rw[zx (by omega),zx Y]
 ·rw[zy q3,D,q4,q5]
theorem dm(s:UC)(b:s.1.2.length<=1048576)(a:∀ rs∈s.1.2,rs.length<=1048576 /\ ∀ r∈rs,r.2.length<=9223372036854775807)(c:s.2.1.length<=1048576):VN s=zo (UE s):=cj s (by omega) (λrs h=>⟨by have:=(a rs h).1;omega,(a rs h).2⟩) (by omega)
end
section
open Go Sv
def JobAt(L:UF)(n:Nat)(j:Job):Prop:=∃ a b c k,L.2[n]?=zo [a,b]/\j=((n:Int),Vq b.2 a.2 c k)/\k<=b.2.length+a.2.length/\(c=zt->n+1=L.2.length)/\VL a.2/\VL b.2
structure VSt (s:UC):Prop where
 lev:VLev s.1
 n1:1<=s.2.2
 n2:s.2.2<=1000001
 n3:Wq s.1.2<s.2.2
 due:s.2.1.map (·.1)=UK 0 s.1.2
 job:∀ j∈s.2.1,∃ n,JobAt s.1 n j
theorem al(a b:List UD)(c:Bool)(k:Nat):(Vq a b c k).2.1.2.2=c:=by
 show(VK (s0 c) (UR a b k)).2.2=c;rw[XX]
theorem ay{L:UF}(v:VLev L){i:Nat}{j:Job}:Za L (UK 0 L.2) i j=zf <-> ∃ n,(UK 0 L.2)[i]?=zo j.1/\JobAt L n j:=by
 constructor
 ·intro h;unfold Za at h;cases c:(UK 0 L.2)[i]? with
  |none=>rw[c]at h;cases h
  |some d=>
   rw[c]at h;simp only at h;by_cases f:j.1=d;rotate_left
   ·rw[zy f]at h;cases h
   rw[zx (by simp[f])]at h;by_cases g:j.2.2.1.2.2=zt/\j.1≠(L.2.length:Int)-1
   ·rw[zy g]at h;cases h
   rw[zx g]at h;obtain⟨n,m,a,b,e⟩:=YL c;rw[cP]at m;rw[m,ac,e]at h;simp only at h;by_cases p:j.2.2.2.2<0\/j.2.2.2.2>((b.2.length+a.2.length:Nat):Int)
   ·rw[zy p]at h;cases h
   rw[zx p]at h;have s:Vq b.2 a.2 j.2.2.1.2.2 j.2.2.2.2.toNat=j.2:=by simpa using h
   have r:=(v.lev n _ e).2;refine⟨n,by rw[f],a,b,j.2.2.1.2.2,j.2.2.2.2.toNat,e,Prod.ext (by rw[f,m]) s.symm,by omega,λl=> ?_,(r a (by simp)).vl,(r b (by simp)).vl⟩
   have t:j.1=(L.2.length:Int)-1:=by
    by_cases q:j.1=(L.2.length:Int)-1
    ·exact q
    ·exact absurd ⟨l,q⟩ g
   omega
 ·rintro⟨n,c,a,b,o,k,e,rfl,u,l,w,x⟩;unfold Za;rw[c];simp only;rw[zx (by simp),al,zx (λh:o=zt/\(n:Int)≠(L.2.length:Int)-1=>h.2 (by have:=l h.1;omega)),ac,e];simp only;rw[show(Vq b.2 a.2 o k).2.2.2=(k:Int)from rfl,zx (by omega),ac];simp
theorem ZI{L:UF}{a:List Int}:∀ {js:List Job} {i:Nat},W5 L a i js=zn <-> ∀ k j,js[k]?=zo j->Za L a (i+k) j=zf
 |[],i=>by simp[W5]
 |j::js,i=>by
  unfold W5;by_cases h:Za L a i j=zt
  ·rw[zy h];simp only[reduceCtorEq,false_iff];intro b;have:=b 0 j rfl;rw[Nat.add_zero,h]at this;cases this
  ·rw[zx h,ZI (js:=js)];constructor
   ·intro b k j' c;cases k with
    |zero=>cases c;simpa using h
    |succ k=>rw[show i+(k+1)=i+1+k by omega];exact b k j' c
   ·intro b k j' c;rw[show i+1+k=i+(k+1) by omega];exact b (k+1) j' c
theorem UL{s:UC}:(UE s).2=0<->VSt s:=by
 unfold UE;constructor
 ·intro h;by_cases d:(WF s.1).2.2≠0
  ·rw[zy d]at h;exact absurd h d
  rw[zx d]at h;have v:=YZ.1 (Decidable.not_not.1 d);by_cases f:s.2.2<1\/s.2.2>1000001
  ·rw[zy f]at h;cases h
  rw[zx f]at h;by_cases g:s.2.2<=Wq s.1.2
  ·rw[zy g]at h;cases h
  rw[zx g]at h;cases b:W5 s.1 (UK 0 s.1.2) 0 s.2.1 with
  |some i=>rw[b]at h;cases h
  |none=>
   rw[b]at h;simp only at h;by_cases l:s.2.1.length<(UK 0 s.1.2).length
   ·rw[zy l]at h;cases h
   have m:=ZI.1 b
   have c:∀ k j,s.2.1[k]?=zo j -> ∃ n,(UK 0 s.1.2)[k]?=zo j.1/\JobAt s.1 n j:=λk j a=>by
    have:=m k j a;rw[cP]at this;exact(ay v).1 this
   refine⟨v,by omega,by omega,by omega,?_,λj o=> ?_⟩
   ·apply tw;intro k;rw[nb];cases a:s.2.1[k]? with
    |some j=>obtain⟨n,e,_⟩:=c k j a;rw[e];rfl
    |none=>
     have:=List.getElem?_eq_none_iff.1 a;rw[ab (by omega)];rfl
   ·obtain⟨k,a⟩:=bf o;obtain⟨n,_,h⟩:=c k j a;exact⟨n,h⟩
 ·intro v;rw[zx (by simp[YZ.2 v.lev]),zx (by have:=v.n1;have:=v.n2;omega),zx (by have:=v.n3;omega)]
  have b:W5 s.1 (UK 0 s.1.2) 0 s.2.1=zn:=ZI.2 λk j a=>by
   rw[cP];obtain⟨n,p⟩:=v.job j (ad a);exact(ay v.lev).2 ⟨n,by rw[<- v.due,nb,a];rfl,p⟩
  rw[b];simp only;rw[zx (by rw[<- v.due];simp)]
structure Sm (s:UC):Prop where
 lv:s.1.2.length<=1048576
 rs:∀ rs∈s.1.2,rs.length<=1048576 /\ ∀ r∈rs,r.2.length<=9223372036854775807
 js:s.2.1.length<=1048576
theorem sS{s:UC}(m:Sm s):VE s=zo (UE s):=eR s m.lv m.rs m.js
theorem pw{s:UC}(m:Sm s):VN s=zo (UE s):=dm s m.lv m.rs m.js
theorem VSt.jlen{s:UC}(v:VSt s):s.2.1.length=(UK 0 s.1.2).length:=by rw[<- v.due];simp
theorem VSt.jsmall{s:UC}(v:VSt s):s.2.1.length<=12:=by
 have:=v.jlen;have:=V2 s.1.2 0;have:=v.lev.len;omega
theorem VSt.sm{s:UC}(v:VSt s):Sm s:=⟨v.lev.small.1,v.lev.small.2,by have:=v.jsmall;omega⟩
def Zy(x:Int):Nat->List Int->Option Nat
 |_,[]=>zn
 |k,y::l=>if y=x then zo k else Zy x (k+1) l
theorem eO{x:Int}:∀ {l:List Int} {k i:Nat},Zy x k l=zo i->k<=i/\l[i-k]?=zo x
 |[],_,_,h=>by cases h
 |y::l,k,i,h=>by
  unfold Zy at h;by_cases e:y=x
  ·rw[zy e]at h;cases h;simp[e]
  ·rw[zx e]at h;obtain⟨b,a⟩:=eO h;exact⟨by omega,by rw[show i-k=(i-(k+1))+1 by omega];simpa using a⟩
theorem cS{x:Int}:∀ {l:List Int} {k:Nat},x∈l -> ∃ i,Zy x k l=zo i
 |[],_,h=>by cases h
 |y::l,k,h=>by
  unfold Zy;by_cases e:y=x
  ·rw[zy e];exact⟨k,rfl⟩
  ·rw[zx e];exact cS (by rcases bl.1 h with h|h;exact absurd h.symm e;exact h)
def Yj(s:UC)(a:Int):Int×Int:=if(UE s).2≠0 then(0,(UE s).2)else match Zy a 0 (UK 0 s.1.2)with
 |some i=>((i:Int),0)
 |none=>(0,4)
theorem gi{s:UC}(m:Sm s)(a:Int):Wc (s,a)=zo (Yj s a):=by
 unfold Wc Yj;simp only[UH,UG];rw[sS m,TA,Ti];by_cases b:(UE s).2=0;rotate_left
 ·rw[zx b,zy b]
 rw[zy b,zx (show ¬ (UE s).2≠0 by simp[b])];have v:=UL.1 b;have x:=v.jsmall;rw[<- v.due];obtain⟨T,g⟩:∃ T,T=Zy a 0 (s.2.1.map (·.1)):=⟨_,rfl⟩;rw[<- g]
 obtain⟨r,q,c⟩:=Wh (l:=s.2.1) (σ:=Unit) (s:=((0:Int),(0:Int))) (λk _=>((0:Int),(k:Int))) (λjs k _=>Zy a k (js.map (·.1))=T) (λ(r:Nat×((Int×Int)×Unit))=>(r.1=1/\T=zn)\/(r.1=0 /\ ∃ i:Nat,T=zo i/\r.2.1.1=(i:Int)))
  (f:=λs1=>br (TK s1.2 (s.2.1.length:Int)) (λ_=>SG s1.2 λp=>ix s.2.1 p λu=>br (Og u.1 a) (λ_=>zo (.dn ((0,((s1.2,s1.2),()))))) λ_=>zo (.nx (s1.1,SV .i64 s1.2 1))) λ_=>zo (.dn ((1,(s1,())))))
  () rfl (by omega) g.symm (λ_ h=>⟨_,by simp only;rw[re];rfl,.inl ⟨rfl,by rw[<- h];rfl⟩⟩) (λk j js _ w n o h=>by
   simp only;rw[rl o,Sp,UB,TS n,Tc];unfold Zy at h;simp only[oj]at h;by_cases e:j.1=a
   ·rw[zy e];rw[zy e]at h;exact .inr ⟨_,rfl,.inr ⟨rfl,k,h.symm,rfl⟩⟩
   ·rw[zx e];rw[zx e]at h
    exact .inl ⟨(),by rw[UN n (by omega)],h⟩)
 refine UZ q ?_;rw[TB];rcases c with⟨c,d⟩|⟨c,i,d,t⟩
 ·rw[zx (show ¬ r.1=0 by omega),d];rfl
 ·rw[zy c,d,t,Th,zx (by omega)]
theorem dq{s:UC}(m:Sm s):WI s=zo (if(UE s).2≠0 then([],(UE s).2)else(UK 0 s.1.2,0)):=by
 unfold WI;rw[pw m,TA,Ti];by_cases a:(UE s).2=0
 ·rw[zy a,zx (show ¬ (UE s).2≠0 by simp[a]),ah (by have:=(UL.1 a).lev.len;omega),TA]
 ·rw[zx a,zy a]
theorem ZM{s:UC}(m:Sm s)(a:Int):U8 (s,a)=zo (Yj s a):=by
 unfold U8 Yj;simp only[UH,UG];rw[dq m,TA,Ti];by_cases c:(UE s).2=0;rotate_left
 ·rw[zy c,zx c,zy c]
 rw[zx (show ¬ (UE s).2≠0 by simp[c]),zy rfl,zx (show ¬ (UE s).2≠0 by simp[c])];have v:=UL.1 c;have A:=v.jsmall;have p:=v.jlen;obtain⟨b,d⟩:∃ b,b=UK 0 s.1.2:=⟨_,rfl⟩;rw[<- d]at p ⊢;obtain⟨T,o⟩:∃ T,T=Zy a 0 b:=⟨_,rfl⟩;rw[<- o];simp only
 obtain⟨r,w,g⟩:=Wh (l:=b) (σ:=Unit) (s:=((0:Int),((0:Int),(0:Int)))) (λk _=>((0:Int),((0:Int),(k:Int)))) (λjs k _=>Zy a k js=T) (λ(r:Nat×((Int×(Int×Int))×Unit))=>(r.1=1/\T=zn)\/(r.1=0 /\ ∃ i:Nat,T=zo i/\r.2.1.2.1=(i:Int)/\r.2.1.1=0))
  (f:=λs1=>br (TK s1.2.2 (b.length:Int)) (λ_=>SG s1.2.2 λu=>ix b u λz=>br (Og z a) (λ_=>zo (.dn ((0,((0,(s1.2.2,s1.2.2)),()))))) λ_=>zo (.nx ((s1.1,(s1.2.1,SV .i64 s1.2.2 1))))) λ_=>zo (.dn ((1,(s1,())))))
  () rfl (by omega) o.symm (λ_ h=>⟨_,by simp only;rw[re];rfl,.inl ⟨rfl,by rw[<- h];rfl⟩⟩) (λk j js _ p q t h=>by
   simp only;rw[rl t,Sp,UB,TS q,Tc];unfold Zy at h;by_cases e:j=a
   ·rw[zy e];rw[zy e]at h;exact .inr ⟨_,rfl,.inr ⟨rfl,k,h.symm,rfl,rfl⟩⟩
   ·rw[zx e];rw[zx e]at h
    exact .inl ⟨(),by rw[UN q (by omega)],h⟩)
 refine UZ w ?_;rw[TB];rcases g with⟨g,n⟩|⟨g,i,n,x,y⟩
 ·rw[zx (show ¬ r.1=0 by omega),n]
 ·rw[zy g,n,x,y]
end
section
open Go Sv
def Ua(L:UF)(j:Job):Nat:=match L.2[j.1.toNat]? with
 |some [r0,r1]=>r1.2.length+r0.2.length-j.2.2.2.2.toNat
 |_=>0
def WG(L:UF)(j:Job):Bool:=decide ((j.2.2.2.1.length:Int)<=VG L.1 j.1.toNat)
def Zg(L:UF)(n:Nat):Bool:=decide (n<12/\((L.2[n]?).getD []).length<2)
def WV(L:UF)(j:Job):Bool:=decide (0<Ua L j)||(WG L j||Zg L (j.1.toNat+1))
def bW(s:UC)(a:Int):Option Job:=match Zy a 0 (UK 0 s.1.2)with
 |some i=>s.2.1[i]?
 |none=>zn
theorem VSt.at{s:UC}(v:VSt s){a:Int}{i:Nat}(h:Zy a 0 (UK 0 s.1.2)=zo i):∃ (j:Job) (n:Nat),s.2.1[i]?=zo j/\a=(n:Int)/\j.1=(n:Int)/\JobAt s.1 n j/\n<s.1.2.length:=by
 obtain⟨_,b⟩:=eO h;rw[hM]at b;rw[<- v.due,nb]at b;cases c:s.2.1[i]? with
 |none=>rw[c]at b;cases b
 |some j=>
  rw[c]at b;simp only[us,Option.some.injEq]at b;obtain⟨n,g⟩:=v.job j (ad c);have d:=g;obtain⟨o,p,m,k,l,e,_⟩:=g;have f:j.1=(n:Int):=by rw[e]
  exact⟨j,n,rfl,by rw[<- b,f],f,d,(aa.1 l).1⟩
theorem JobAt.left{L:UF}{n:Nat}{j:Job}(h:JobAt L n j):U2 j.2=zo ((Ua L j:Int),0)/\Uh j.2=zo ((Ua L j:Int),0)/\Ua L j<=10000:=by
 obtain⟨b,c,a,k,i,rfl,g,_,d,f⟩:=h;have l:=d.len;have m:=f.len
 have e:Ua L ((n:Int),Vq c.2 b.2 a k)=c.2.length+b.2.length-k:=by
  unfold Ua;simp only[ac,i];show c.2.length+b.2.length-((k:Int)).toNat=_;rw[ac]
 rw[e];exact⟨aR f d a g,Zq f d a g,by omega⟩
theorem iU{L:UF}(v:VLev L){n:Nat}(c:n<12):Xk (L.1,(n:Int))=zo (VG L.1 n,0):=by
 have a:=v.B1;have b:=v.B2;unfold Xk;rw[Th,zx (by omega),Te,zx (by omega),Th,zx (by omega),Td,zx (by omega),aK a b (by omega)];have:SC (n:Int) 0=zt:=by unfold SC;simp
 rw[this];rfl
theorem kU{L:UF}(v:VLev L){n:Nat}(c:n<12):YF (L.1,(n:Int))=zo (VG L.1 n,0):=by
 have a:=v.B1;have b:=v.B2;unfold YF;rw[Th,zx (by omega),Te,zx (by omega),Th,zx (by omega),Td,zx (by omega),dv a b (by omega),TA]
theorem ca{L:UF}(v:VLev L)(k:Int):W9 (L,k)=zo (if k<0\/k>=12 then 7 else 0):=by
 obtain⟨c,d⟩:=v.small;unfold W9;rw[Zm _ c d,XY v,TA,Ti,zy rfl,Th,Td];by_cases a:k<0
 ·rw[zy a,zy (.inl a)]
 ·rw[zx a];by_cases b:k>=12
  ·rw[zy b,zy (.inr b)]
  ·rw[zx b,zx (by omega)]
theorem kG(l:List UX):TK (l.length:Int) 2=decide (l.length<2):=by
 unfold TK;rw[decide_eq_decide];omega
theorem iT{L:UF}(v:VLev L){n:Nat}(d:n<=12):Xj (L,(n:Int))=zo (Zg L n,if n>=12 then 7 else 0):=by
 unfold Xj Zg;simp only[UH,UG];rw[ca v,TA,Ti];by_cases h:n>=12
 ·rw[zy (show(n:Int)<0\/(n:Int)>=12 by omega),zx (by decide),zy h];simp;omega
 ·rw[zx (show ¬ ((n:Int)<0\/(n:Int)>=12) by omega),zy rfl,zx h,Th];have a:n<12:=by omega
  by_cases c:n<L.2.length
  ·have b:L.2[n]?=zo (L.2[n]'c):=by simp
   rw[zy (by omega),UB,TS b,b,kG,c0];simp[a]
  ·rw[zx (by omega),ab (by omega)];simp[a]
theorem kc{s:UC}(v:VLev s.1){n:Nat}(c:n<12):YG (s,(n:Int))=zo (Zg s.1 (n+1)):=by
 unfold YG Zg;simp only[UH,UG];rw[UI (by omega),Th];by_cases h:n+1<12
 ·rw[zy (by omega),Td];by_cases b:n+1<s.1.2.length
  ·have a:s.1.2[n+1]?=zo (s.1.2[n+1]'b):=by simp
   rw[zx (by omega),UB,TS a,a,kG,c0];simp[h]
  ·rw[zy (by omega),ab (by omega)];simp[h]
 ·rw[zx (by omega)];simp;omega
abbrev wF:=UC×(Job×Int)
theorem bS{s:UC}(v:VLev s.1){n:Nat}{j:Job}(a:j.1=(n:Int))(b:n<12)(l:Int):Uq (s,(j,l))=zo (WG s.1 j):=by
 unfold Uq WG;simp only[UH,UG];rw[a,iU v b,TA,Tc,zy rfl,ac];rfl
theorem cC{s:UC}(v:VLev s.1){n:Nat}{j:Job}(a:j.1=(n:Int))(b:n<12):WU (s,j)=zo (WG s.1 j):=by
 unfold WU WG;simp only[UH,UG];rw[a,kU v b,TA,ac];rfl
theorem kY{s:UC}(v:VLev s.1){n:Nat}{j:Job}(a:j.1=(n:Int))(b:n<12)(l:Int):Vs (s,(j,l))=zo (Zg s.1 (n+1)):=by
 unfold Vs;simp only;rw[a,UI (by omega),iT v (by omega),TA,Tc];by_cases h:n+1>=12
 ·rw[zy h,zx (show ¬ (7:Int)=0 by decide)];unfold Zg;simp;omega
 ·rw[zx h,zy rfl]
theorem cN{s:UC}(v:VLev s.1){n:Nat}{j:Job}(a:j.1=(n:Int))(b:n<12)(l:Nat)(d:l=Ua s.1 j):Uz (s,(j,(l:Int)))=zo (WV s.1 j):=by
 have c:Uc (s,(j,(l:Int)))=zo (decide (0<Ua s.1 j)):=by
  unfold Uc TI;rw[d];simp
 have e1:=bS v a b (l:Int);have e2:=kY v a b (l:Int);unfold Uz WV;rw[c,e1,e2,a,ac];simp only[TA];cases e:decide (0<Ua s.1 j)with
 |true=>exact UZ (x:=(0,((0,zt),()))) (VW (n:=1) (by omega) (Um rfl)) rfl
 |false=>
  cases f:WG s.1 j with
  |true=>exact UZ (x:=(0,((1,zt),()))) (VW (n:=2) (by omega) ((Ue (s':=(1,zf)) rfl).trans (Um rfl))) rfl
  |false=>
   cases g:Zg s.1 (n+1)with
   |true=>exact UZ (x:=(0,((2,zt),()))) (VW (n:=3) (by omega) ((Ue (s':=(1,zf)) rfl).trans ((Ue (s':=(2,zf)) rfl).trans (Um rfl)))) rfl
   |false=>exact UZ (x:=(1,((3,zf),()))) (VW (n:=4) (by omega) ((Ue (s':=(1,zf)) rfl).trans ((Ue (s':=(2,zf)) rfl).trans ((Ue (s':=(3,zf)) rfl).trans (Um rfl))))) rfl
end
section
open Go Sv
def XD{α:Type}(z:α)(f:UC->Job->α×Int)(s:UC)(a:Int):α×Int:=if(UE s).2≠0 then(z,(UE s).2)else match bW s a with
 |some j=>f s j
 |none=>(z,4)
def z0:wF:=(((0,[]),([],0)),((0,(([],([],([],([],0)))),((zf,([],zf)),([],0)))),0))
theorem cz{s:UC}(m:Sm s)(a:Int):Vc (s,a)=zo (XD z0 (λs j=>((s,(j,(Ua s.1 j:Int))),0)) s a):=by
 unfold Vc;rw[gi m,TA];unfold XD bW Yj;by_cases b:(UE s).2=0;rotate_left
 ·rw[zy b,Ti,zx b,zy b];rfl
 rw[zx (show ¬ (UE s).2≠0 by simp[b]),zx (show ¬ (UE s).2≠0 by simp[b])];have v:=UL.1 b;cases e:Zy a 0 (UK 0 s.1.2)with
 |none=>rfl
 |some i=>
  obtain⟨j,n,c,g,f,d,h⟩:=v.at e;simp only;rw[Ti,zy rfl,UB,TS c,c,(JobAt.left d).1,TA]
theorem sO{s:UC}(m:Sm s)(a:Int):Xi (s,a)=zo (XD zf (λs j=>(WV s.1 j,0)) s a):=by
 unfold Xi;rw[cz m,TA];unfold XD;by_cases b:(UE s).2=0;rotate_left
 ·rw[zy b,Ti,zx b,zy b]
 rw[zx (show ¬ (UE s).2≠0 by simp[b]),zx (show ¬ (UE s).2≠0 by simp[b])];have v:=UL.1 b;unfold bW;cases d:Zy a 0 (UK 0 s.1.2)with
 |none=>rfl
 |some i=>
  obtain⟨j,n,e,g,c,f,h⟩:=v.at d;have:=v.lev.len;simp only[e];rw[Ti,zy rfl,cN v.lev c (by omega) _ rfl,TA]
theorem ZY{s:UC}(m:Sm s)(a:Int):Vf (s,a)=zo (XD 0 (λs j=>((Ua s.1 j:Int),0)) s a):=by
 unfold Vf;rw[ZM m,TA];unfold XD bW Yj;by_cases b:(UE s).2=0;rotate_left
 ·rw[zy b,Ti,zx b,zy b]
 rw[zx (show ¬ (UE s).2≠0 by simp[b]),zx (show ¬ (UE s).2≠0 by simp[b])];have v:=UL.1 b;cases e:Zy a 0 (UK 0 s.1.2)with
 |none=>rfl
 |some i=>
  obtain⟨j,n,c,g,f,d,h⟩:=v.at e;simp only[c];rw[Ti,zy rfl,UB,TS c,(JobAt.left d).2.1,TA]
theorem cd{s:UC}(m:Sm s)(a:Int):Wd (s,a)=zo (XD zf (λs j=>(WV s.1 j,0)) s a):=by
 unfold Wd;rw[ZY m,TA,ZM m,TA];unfold XD;by_cases b:(UE s).2=0;rotate_left
 ·rw[zy b,Ti,zx b,zy b]
 rw[zx (show ¬ (UE s).2≠0 by simp[b]),zx (show ¬ (UE s).2≠0 by simp[b])];have v:=UL.1 b;unfold bW Yj;cases f:Zy a 0 (UK 0 s.1.2)with
 |none=>rfl
 |some i=>
  obtain⟨j,n,e,g,c,h,k⟩:=v.at f;have:=v.lev.len;rw[zx (show ¬ (UE s).2≠0 by simp[b])];simp only[e];rw[Ti,zy rfl,Te,UB,TS e,cC v.lev c (by omega),TA,g,kc v.lev (by omega),TA];unfold WV;rw[c,ac];by_cases d:0<Ua s.1 j
  ·rw[zy (by omega)];simp[d]
  ·rw[zx (by omega)];cases WG s.1 j<;>simp[d,Sp,SM]
def aC(s:UC)(j:Job):Int×Int:=if 0<Ua s.1 j then(0,9)else if WG s.1 j=zt then(j.1,0)else(j.1+1,0)
theorem tJ{s:UC}(m:Sm s)(a:Int):Yk (s,a)=zo (XD 0 aC s a):=by
 unfold Yk;rw[cz m,TA];unfold XD;by_cases b:(UE s).2=0;rotate_left
 ·rw[zy b,Ti,zx b,zy b]
 rw[zx (show ¬ (UE s).2≠0 by simp[b]),zx (show ¬ (UE s).2≠0 by simp[b])];have v:=UL.1 b;unfold bW;cases f:Zy a 0 (UK 0 s.1.2)with
 |none=>rfl
 |some i=>
  obtain⟨j,n,g,h,c,k,l⟩:=v.at f;have:=v.lev.len;simp only[g];unfold Uc aC;rw[Ti,zy rfl,TA,Te,bS v.lev c (by omega),TA,h,UI (by omega),c];by_cases e:0<Ua s.1 j
  ·rw[zy (show((Ua s.1 j:Int))>0 by omega),zy e]
  ·rw[zx (show ¬ ((Ua s.1 j:Int))>0 by omega),zx e,Tn];by_cases d:WG s.1 j=zt
   ·rw[zy d,zy d]
   ·rw[zx d,zx d];rfl
theorem ej{s:UC}(m:Sm s)(a:Int):XT (s,a)=zo (XD 0 aC s a):=by
 unfold XT;rw[ZY m,TA,ZM m];unfold XD;by_cases b:(UE s).2=0;rotate_left
 ·rw[zy b,Tc,zx b,Ti,zx b,zy b]
 rw[zx (show ¬ (UE s).2≠0 by simp[b]),zx (show ¬ (UE s).2≠0 by simp[b])];have v:=UL.1 b;unfold bW Yj;cases g:Zy a 0 (UK 0 s.1.2)with
 |none=>rfl
 |some i=>
  obtain⟨j,n,f,h,c,k,l⟩:=v.at g;have:=v.lev.len;rw[zx (show ¬ (UE s).2≠0 by simp[b])];simp only[f];unfold aC;rw[Tc,zy rfl,Te];by_cases e:0<Ua s.1 j
  ·rw[zy (show((Ua s.1 j:Int))>0 by omega),zy e]
  ·rw[zx (show ¬ ((Ua s.1 j:Int))>0 by omega),zx e,Ti,zy rfl,TA,UB,TS f,cC v.lev c (by omega),TA,Tn,h,UI (by omega),c];by_cases d:WG s.1 j=zt
   ·rw[zy d,zy d]
   ·rw[zx d,zx d];rfl
theorem po{s:UC}(m:Sm s):XG s=zo (if(UE s).2≠0 then([],(UE s).2)else(UK 0 s.1.2,0)):=by
 unfold XG;simp only[UH,UG];rw[sS m,TA,Ti];by_cases a:(UE s).2=0;rotate_left
 ·rw[zx a,zy a]
 rw[zy a,zx (show ¬ (UE s).2≠0 by simp[a])];have f:=(UL.1 a).lev.len
 rw[Vo (l:=s.1.2) (σ:=List Int) (s:=((0:Int),([]:List Int))) (λi m=>((i:Int),m)) (λls i m=>m++UK i ls=UK 0 s.1.2) (λ_ _ _=>(0,(((s.1.2.length:Int),UK 0 s.1.2),()))) [] rfl (by omega) rfl (λm h=>by
  simp only;rw[re,SM,<- h];simp[UK]) (λi rs ls m e c hi h=>by
   refine⟨m++(if rs.length=2 then[(i:Int)]else[]),?_,?_,rfl⟩
   ·simp only;rw[rl hi,Sp,UB,TS c,Tc]
    have g:m.length<=1000:=by
     have b:=congrArg oy h;have d:=V2 s.1.2 0;rw[l4]at b;omega
    by_cases b:rs.length=2
    ·rw[zy (by omega),zy b,Un (by simp only[BC,ae,a8];omega),UN c (by omega)];rfl
    ·rw[zx (by omega),zx b,ci,UN c (by omega)]
   ·rw[bc];exact h),TA]
def Wb(s:UC):List Int->Option Int
 |[]=>zn
 |d::l=>if(XD zf (λs j=>(WV s.1 j,0)) s d).1=zt then zo d else Wb s l
def Uo(s:UC):Int×Int:=if(UE s).2≠0 then(0,(UE s).2)else if UK 0 s.1.2=[]then(0,4)else match Wb s (UK 0 s.1.2)with
 |some d=>(d,0)
 |none=>(0,9)
theorem VSt.atDue{s:UC}(v:VSt s){d:Int}(h:d∈UK 0 s.1.2):∃ (j:Job) (n:Nat),bW s d=zo j/\d=(n:Int)/\j.1=(n:Int)/\JobAt s.1 n j/\n<s.1.2.length:=by
 obtain⟨i,b⟩:=cS (k:=0) h;obtain⟨j,n,e,f,a,c,g⟩:=v.at b;exact⟨j,n,by unfold bW;rw[b];exact e,f,a,c,g⟩
theorem pL{s:UC}(m:Sm s):Ut s=zo (Uo s):=by
 unfold Ut Uo;rw[po m,TA];by_cases a:(UE s).2=0;rotate_left
 ·rw[zy a,Ti,zx a,zy a]
 rw[zx (show ¬ (UE s).2≠0 by simp[a]),zx (show ¬ (UE s).2≠0 by simp[a]),Ti,zy rfl];have v:=UL.1 a;have z:(UK 0 s.1.2).length<=12:=by have:=V2 s.1.2 0;have:=v.lev.len;omega
 simp only[UH,UG];rw[Tc];by_cases b:UK 0 s.1.2=[]
 ·rw[zy (by rw[b];rfl),zy b]
 rw[zx (by have:=co.2 b;omega),zx b];obtain⟨T,q⟩:∃ T,T=Wb s (UK 0 s.1.2):=⟨_,rfl⟩;rw[<- q]
 obtain⟨r,C,u⟩:=Wh (l:=UK 0 s.1.2) (σ:=Unit) (s:=((0:Int),(zf,((0:Int),(0:Int))))) (λk _=>((0:Int),(zf,((k:Int),(0:Int))))) (λl k _=>Wb s l=T) (λ(r:Nat×((Int×(Bool×(Int×Int)))×Unit))=>r.1=1/\((T=zn/\r.2.1.2.1=zf)\/(∃ d,T=zo d/\r.2.1.2.1=zt/\r.2.1.2.2.2=d)))
  (f:=λs1=>br (TK s1.2.2.1 ((UK 0 s.1.2).length:Int)) (λ_=>SG s1.2.2.1 λB=>ix (UK 0 s.1.2) B λw=>bd (Vc (s,w)) λp=>br (SD p.2 0) (λ_=>zo (.dn ((0,((p.2,(s1.2.1,(s1.2.2.1,0))),()))))) λ_=>bd (Uz p.1) λE=>br E (λ_=>zo (.dn ((1,((s1.1,(zt,(s1.2.2.1,w))),()))))) λ_=>zo (.nx ((s1.1,(s1.2.1,(SV .i64 s1.2.2.1 1,s1.2.2.2)))))) λ_=>zo (.dn ((1,(s1,())))))
  () rfl (by omega) q.symm (λ_ h=>⟨_,by simp only;rw[re];rfl,rfl,.inl ⟨by rw[<- h];rfl,rfl⟩⟩) (λk d l _ G i A h=>by
   simp only;obtain⟨j,n,t,I,g,F,b⟩:=v.atDue (ad i);have:=v.lev.len;unfold Wb at h;have x:XD zf (λs j=>(WV s.1 j,0)) s d=(WV s.1 j,0):=by unfold XD;rw[zx (show ¬ (UE s).2≠0 by simp[a]),t]
   have y:XD z0 (λs j=>((s,(j,(Ua s.1 j:Int))),0)) s d=((s,(j,(Ua s.1 j:Int))),0):=by unfold XD;rw[zx (show ¬ (UE s).2≠0 by simp[a]),t]
   rw[x]at h;rw[rl A,Sp,UB,TS i,cz m,y,TA,Ti,zy rfl,cN v.lev g (by omega) _ rfl,TA,Tn];by_cases e:WV s.1 j=zt
   ·rw[zy e];rw[zy e]at h;exact .inr ⟨_,rfl,rfl,.inr ⟨d,h.symm,rfl,rfl⟩⟩
   ·rw[zx e];rw[zx e]at h
    exact .inl ⟨(),by rw[UN i (by omega)],h⟩)
 refine UZ C ?_;obtain⟨u,c⟩:=u;rw[TB,zx (show ¬ r.1=0 by omega),Ug,Tn];rcases c with⟨c,o⟩|⟨d,c,o,D⟩
 ·rw[zx (by simp[o]),c]
 ·rw[zy o,c,D]
theorem iV{s:UC}(m:Sm s):XS s=zo (Uo s):=by
 unfold XS Uo;rw[dq m,TA];by_cases a:(UE s).2=0;rotate_left
 ·rw[zy a,Ti,zx a,zy a]
 rw[zx (show ¬ (UE s).2≠0 by simp[a]),zx (show ¬ (UE s).2≠0 by simp[a]),Ti,zy rfl];have v:=UL.1 a;have o:(UK 0 s.1.2).length<=12:=by have:=V2 s.1.2 0;have:=v.lev.len;omega
 simp only[UH,UG];rw[Tc];by_cases b:UK 0 s.1.2=[]
 ·rw[zy (by rw[b];rfl),zy b]
 rw[zx (by have:=co.2 b;omega),zx b];obtain⟨T,n⟩:∃ T,T=Wb s (UK 0 s.1.2):=⟨_,rfl⟩;rw[<- n]
 obtain⟨r,u,c⟩:=Wh (l:=UK 0 s.1.2) (σ:=Unit) (s:=((0:Int),((0:Int),(0:Int)))) (λk _=>((0:Int),((0:Int),(k:Int)))) (λl k _=>Wb s l=T) (λ(r:Nat×((Int×(Int×Int))×Unit))=>(r.1=1/\T=zn)\/(r.1=0 /\ ∃ d,T=zo d/\r.2.1.2.1=d/\r.2.1.1=0))
  (f:=λs1=>br (TK s1.2.2 ((UK 0 s.1.2).length:Int)) (λ_=>SG s1.2.2 λq=>ix (UK 0 s.1.2) q λz=>bd (Wd (s,z)) λy=>br y.1 (λ_=>SG s1.2.2 λt=>ix (UK 0 s.1.2) t λA=>zo (.dn ((0,((0,(A,s1.2.2)),()))))) λ_=>zo (.nx ((s1.1,(s1.2.1,SV .i64 s1.2.2 1))))) λ_=>zo (.dn ((1,(s1,())))))
  () rfl (by omega) n.symm (λ_ h=>⟨_,by simp only;rw[re];rfl,.inl ⟨rfl,by rw[<- h];rfl⟩⟩) (λk d l _ B g p h=>by
   simp only;unfold Wb at h;rw[rl p,Sp,UB,TS g,cd m,TA,Tn,UB,TS g];by_cases e:(XD zf (λs j=>(WV s.1 j,0)) s d).1=zt
   ·rw[zy e];rw[zy e]at h;exact .inr ⟨_,rfl,.inr ⟨rfl,d,h.symm,rfl,rfl⟩⟩
   ·rw[zx e];rw[zx e]at h
    exact .inl ⟨(),by rw[UN g (by omega)],h⟩)
 refine UZ u ?_;rw[TB];rcases c with⟨c,i⟩|⟨c,d,i,w,x⟩
 ·rw[zx (show ¬ r.1=0 by omega),i]
 ·rw[zy c,i,w,x]
end
section
open Go Sv
theorem pU{β:Type}(k:Unit->Option β):gd zt k=k ():=rfl
def UJ(l:List (List UX))(i:Nat):List UX:=(l[i]?).getD []
def Yv(l:List (List UX)):Nat->Nat
 |0=>0
 |k+1=>if UJ l k=[]then Yv l k else k+1
def Yq(l:List (List UX))(n:Nat):List (List UX):=l++xm (n+1-l.length) []
def W7(l:List (List UX))(n:Nat)(r:List UX):List (List UX):=(Yq l n).set n r
def YS(l:List (List UX)):List (List UX):=l.take (Yv l l.length)
def VB(L:UF)(n:Nat)(r:List UX):UF:=(L.1,YS (W7 L.2 n r))
theorem cQ(l:List (List UX)):∀ k,Yv l k<=k
 |0=>a9 _
 |k+1=>by
  unfold Yv;split
  ·exact Nat.le_succ_of_le (cQ l k)
  ·exact a9 _
theorem au(l:List (List UX)):∀ {k i:Nat},Yv l k<=i->i<k->UJ l i=[]
 |0,_,_,h=>by omega
 |k+1,i,h1,h2=>by
  unfold Yv at h1;split at h1
  ·rename_i a;by_cases hi:i=k
   ·rw[hi];exact a
   ·exact au l h1 (by omega)
  ·omega
theorem bh(l:List (List UX)):∀ {k m:Nat},Yv l k=m+1->UJ l m≠[]
 |0,m,h=>by cases h
 |k+1,m,h=>by
  unfold Yv at h;split at h
  ·exact bh l h
  ·rename_i a;have:m=k:=by omega
   rw[this];exact a
theorem cA(l:List (List UX))(i:Nat):UJ (YS l) i=UJ l i:=by
 unfold YS;by_cases h:i<Yv l l.length
 ·unfold UJ;rw[hI,zy h]
 ·have a:UJ (l.take (Yv l l.length)) i=[]:=by
   unfold UJ;rw[hI,zx h];rfl
  rw[a];by_cases b:i<l.length
  ·exact(au l (by omega) b).symm
  ·unfold UJ;rw[ab (by omega)];rfl
theorem gV(l:List (List UX)):(YS l).getLast? ≠ zo []:=by
 have c:(YS l).length=Yv l l.length:=by
  have:=cQ l l.length;unfold YS;rw[vL];omega
 cases a:Yv l l.length with
 |zero=>
  have:YS l=[]:=List.length_eq_zero_iff.1 (by rw[c,a]);rw[this];simp
 |succ m=>
  have d:=bh l a;rw[l6,c,a];intro e;have b:UJ (YS l) m=[]:=by unfold UJ;rw[show m=m+1-1 by omega,e];rfl
  rw[cA]at b;exact d b
theorem ZL(l:List (List UX))(n:Nat):(Yq l n).length=max l.length (n+1):=by
 unfold Yq;simp;omega
theorem db(l:List (List UX))(n i:Nat):UJ (Yq l n) i=UJ l i:=by
 unfold UJ Yq;by_cases h:i<l.length
 ·rw[List.getElem?_append_left h]
 ·rw[List.getElem?_append_right (by omega),List.getElem?_replicate,ab (l:=l) (by omega)];split<;>rfl
theorem dj(l:List (List UX))(n i:Nat)(r:List UX):UJ (W7 l n r) i=if i=n then r else UJ l i:=by
 unfold W7;by_cases h:i=n
 ·rw[zy h,h];have:=ZL l n;unfold UJ;rw[List.getElem?_set_self (by omega)];rfl
 ·rw[zx h];unfold UJ;rw[List.getElem?_set_ne (λe=>h e.symm)];exact db l n i
theorem XC(L:UF)(n i:Nat)(r:List UX):UJ (VB L n r).2 i=if i=n then r else UJ L.2 i:=by
 show UJ (YS _) i=_;rw[cA,dj]
theorem gW(L:UF)(n:Nat)(r:List UX):(VB L n r).2.getLast? ≠ zo []:=gV _
theorem jl(L:UF)(n:Nat)(r:List UX):(VB L n r).2.length<=max L.2.length (n+1):=by
 show(YS _).length<=_;unfold YS;rw[vL];have:(W7 L.2 n r).length=max L.2.length (n+1):=by unfold W7;rw[xl,ZL]
 omega
theorem iL(l:List (List UX)):(YS l).flatten=l.flatten:=by
 have h:l=YS l++l.drop (Yv l l.length):=(s7 _ _).symm
 have a:(l.drop (Yv l l.length)).flatten=[]:=by
  rw[sw];intro x c;obtain⟨i,hi⟩:=bf c;rw[List.getElem?_drop]at hi;have b:=(aa.1 hi).1;have:=au l (k:=l.length) (i:=Yv l l.length+i) (by omega) b;unfold UJ at this;rw[hi]at this;exact this
 conv=>rhs;rw[h,kd,a,ci]
theorem j7(l:List (List UX))(n:Nat):(Yq l n).flatten=l.flatten:=by
 unfold Yq;rw[kd]
 have:(xm (n+1-l.length) ([]:List UX)).flatten=[]:=by
  rw[sw];intro x a;exact(List.mem_replicate.1 a).2
 rw[this,ci]
theorem YM(L:UF)(n:Nat)(r:List UX):∃ p q,L.2.flatten=p++(UJ L.2 n++q)/\(VB L n r).2.flatten=p++(r++q):=by
 have a:n<(Yq L.2 n).length:=by rw[ZL];omega
 refine⟨((Yq L.2 n).take n).flatten,((Yq L.2 n).drop (n+1)).flatten,?_,?_⟩
 ·rw[<- db L.2 n n,<- j7 L.2 n]
  have:Yq L.2 n=(Yq L.2 n).take n++((Yq L.2 n)[n]::(Yq L.2 n).drop (n+1)):=by
   rw[<- sk a,s7]
  have b:UJ (Yq L.2 n) n=(Yq L.2 n)[n]:=by unfold UJ;rw[ba a];rfl
  rw[b]
  conv=>lhs;rw[this]
  rw[kd,rz]
 ·show(YS (W7 L.2 n r)).flatten=_;rw[iL];unfold W7;rw[List.set_eq_take_append_cons_drop,zy a,kd,rz]
theorem VLev.own{L:UF}(v:VLev L)(i:Nat):(UJ L.2 i).length<=2 /\ ∀ r∈UJ L.2 i,VR (VG L.1 i) r:=by
 unfold UJ;cases h:L.2[i]? with
 |none=>exact⟨by simp,λr a=>by cases a⟩
 |some rs=>exact v.lev i rs h
theorem VLev.with'{L:UF}(v:VLev L){n:Nat}(f:n<12){r:List UX}(d:r.length<=2)(e:∀ x∈r,VR (VG L.1 n) x)(b:((VB L n r).2.flatten.map qV).Nodup):VLev (VB L n r):=by
 refine⟨v.B1,v.B2,?_,λi rs hi=> ?_,b,gW L n r⟩
 ·have:=jl L n r;have:=v.len;omega
 ·have a:=XC L n i r;unfold UJ at a;rw[hi]at a;simp only[c0]at a;rw[a];split
  ·rename_i c;rw[c];exact⟨d,e⟩
  ·exact v.own i
theorem VLev.leave{L:UF}(v:VLev L){n:Nat}(c:n<12):VLev (VB L n []):=by
 refine v.with' c (by simp) (λ_ h=>by cases h) ?_
 obtain⟨p,q,a,b⟩:=YM L n [];have:=v.ids;rw[a]at this;rw[b,ee];refine pg.nodup (pg.map _ ?_) this;exact pg.append (pg.refl _) (List.sublist_append_right _ _)
theorem VLev.arrive{L:UF}(v:VLev L){n:Nat}(g:n<12){x:UX}(j:(UJ L.2 n).length<2)(i:VR (VG L.1 n) x)(b:∀ y∈L.2.flatten,y.1≠x.1):VLev (VB L n (UJ L.2 n++[x])):=by
 refine v.with' g (by simp;omega) (λy hy=> ?_) ?_
 ·rcases gM.1 hy with hy|hy
  ·exact(v.own n).2 y hy
  ·rw[o3.1 hy];exact i
 ·obtain⟨p,q,c,d⟩:=YM L n (UJ L.2 n++[x])
  have h:(VB L n (UJ L.2 n++[x])).2.flatten.Perm (x::L.2.flatten):=by
   rw[c,d,bc];refine List.Perm.trans ?_ (List.perm_middle (l₁:=p++UJ L.2 n) (l₂:=q) (a:=x) |>.trans (by rw[bc]));rw[bc];exact List.Perm.refl _
  refine(h.map qV).nodup_iff.2 (ll.2 ⟨λf=> ?_,v.ids⟩);obtain⟨y,hy,e⟩:=li.1 f;exact b y hy e
theorem bE{l:List (List UX)}{x:UX}:x∈l.flatten <-> ∃ i,x∈UJ l i:=by
 rw[gl];constructor
 ·rintro⟨rs,a,b⟩;obtain⟨i,hi⟩:=bf a;exact⟨i,by unfold UJ;rw[hi];exact b⟩
 ·rintro⟨i,h⟩;unfold UJ at h;cases hi:l[i]? with
  |none=>rw[hi]at h;cases h
  |some rs=>rw[hi]at h;exact⟨rs,ad hi,h⟩
theorem Z1{l:List (List UX)}{x:UX}(h:x∈l.flatten):x.1<=Wq l:=by
 have d:∀ (rs:List UX) (m:Int),m<=rs.foldl (λm r=>Tq m r.1) m /\ ∀ x∈rs,x.1<=rs.foldl (λm r=>Tq m r.1) m:=by
  intro rs
  induction rs with
  |nil=>intro m;exact⟨by simp,λx hx=>by cases hx⟩
  |cons r rs c=>
   intro m;obtain⟨b,a⟩:=c (Tq m r.1);rw[YI]at b a;simp only[dc,YI]at b a ⊢;refine⟨by omega,λx hx=> ?_⟩;rcases bl.1 hx with e|hx
   ·rw[e];omega
   ·exact a x hx
 have two:∀ (ls:List (List UX)) (m:Int),m<=ls.foldl (λm rs=>rs.foldl (λm r=>Tq m r.1) m) m /\ ∀ rs∈ls,∀ x∈rs,x.1<=ls.foldl (λm rs=>rs.foldl (λm r=>Tq m r.1) m) m:=by
  intro ls
  induction ls with
  |nil=>intro m;exact⟨by simp,λx hx=>by cases hx⟩
  |cons rs ls c=>
   intro m;obtain⟨b,a⟩:=c (rs.foldl (λm r=>Tq m r.1) m);obtain⟨i,g⟩:=d rs m;simp only[dc];refine⟨by omega,λf hrs x hx=> ?_⟩;rcases bl.1 hrs with e|hrs
   ·subst e;have:=g x hx;omega
   ·exact a f hrs x hx
 obtain⟨rs,b,a⟩:=gl.1 h;exact(two l 0).2 rs b x a
end
section
open Go Sv
theorem bj{M:List (List UX)}{f:Int->Option (LR Int (Nat×(Int×Unit)))}(a:f 0=zo (.dn (0,(0,()))))(hs:∀ k,k<M.length->f ((k+1:Nat):Int)=if UJ M k=[]then zo (.nx (k:Int))else zo (.dn (0,(((k+1:Nat):Int),())))):∀ k,k<=M.length->IQ (k+1) f (k:Int)=zo (0,((Yv M k:Nat):Int),())
 |0,_=>Um a
 |k+1,hk=>by
  have h:=hs k (by omega);unfold Yv;by_cases b:UJ M k=[]
  ·rw[zy b]at h ⊢;rw[Ue h];exact bj a hs k (by omega)
  ·rw[zx b]at h ⊢;exact Um h
theorem sZ(L:List (List UX))(n:Nat):LI (Rn (max L.length (n+1)) ([]:List UX)) 0 L (AQ (Rn (max L.length (n+1)) ([]:List UX)))=Yq L n:=by
 have a:AQ (Rn (max L.length (n+1)) ([]:List UX))=max L.length (n+1):=by unfold AQ Rn;simp
 rw[a];unfold LI Yq Rn;rw[eo (by omega:L.length<=max L.length (n+1))]
 grind
theorem kF(l:List (List UX))(n:Nat)(r:List UX):lset (Yq l n) n r=W7 l n r:=rfl
theorem Wr{l:List (List UX)}{i:Nat}(h:i<l.length):l[i]?=zo (UJ l i):=by
 unfold UJ;simp_all
theorem cX{β:Type}(l:List UX)(x y:Unit->Option β):br (Og (l.length:Int) 0) x y=if l=[]then x ()else y ():=by
 simp_all[Tc,zy,zx]
theorem aM{L:UF}(i:L.2.length<=1000){n:Nat}(j:n<1000)(r:List UX):WM (L,((n:Int),r))=zo (VB L n r):=by
 have b:Tq (Ko (AQ L.2)) (SV .i64 (n:Int) 1)=((max L.2.length (n+1):Nat):Int):=by
  grind [UI,YI,UH,UG]
 unfold WM;simp only[b,UB,sZ,kF];have g:(Yq L.2 n).length=max L.2.length (n+1):=ZL _ _;have l:(W7 L.2 n r).length=max L.2.length (n+1):=by unfold W7;simp_all
 rw[Un (by omega),TG,zy (by rw[UG,g];omega),TS (Wr (by omega))]
 have c:=bj (M:=W7 L.2 n r) (f:=λa=>br (TI a 0) (λ_=>SG (SY .i64 a 1) λd=>gd (Iq d (AQ (W7 L.2 n r))) λ_=>ix (W7 L.2 n r) d λh=>br (Og (Ko (AQ h)) 0) (λ_=>zo (.nx (SY .i64 a 1))) λ_=>zo (.dn ((0,(a,()))))) λ_=>zo (.dn ((0,(a,()))))) rfl (λk b=>by
  have hi:SY .i64 ((k+1:Nat):Int) 1=(k:Int):=by rw[Sx (by omega)];omega
  simp only[hi,UB];rw[Te,zy (by omega),TG,zy (by rw[UG];omega),TS (Wr b)]
  exact cX _ _ _) _ (a9 _)
 rw[UH,show AQ (W7 L.2 n r)=(W7 L.2 n r).length from rfl];refine UZ (VW (by omega) c) ?_;have e:=cQ (W7 L.2 n r) (W7 L.2 n r).length;simp only[UB];rw[Un e,TF,zy (by omega),TC,zy (by omega),TF,zy (by unfold BC Pg;omega)];unfold VB YS Dy BC Pg;simp
end
section
open Go Sv
def cW(d:Int)(j:Job):Bool:=Og d j.1
def U5(js:List Job)(d:Int):Option Job:=js.find? (cW d)
def Z3(js:List Job):List (Int×Job):=js.map λj=>(j.1,j)
def zJ:Job:=(0,(([],([],([],([],0)))),((zf,([],zf)),([],0))))
def Wt(L:UF)(d:Int):Job:=match UJ L.2 d.toNat with
 |[r0,r1]=>(d,Vq r1.2 r0.2 (decide (d=(L.2.length:Int)-1)) 0)
 |_=>zJ
def Wy(s:UC)(L:UF)(a d:Int):Job:=(if d=a then zn else U5 s.2.1 d).getD (Wt L d)
def ZQ(s:UC)(L:UF)(next a:Int):UC:=(L,((UK 0 L.2).map (Wy s L a),next))
theorem bx(d:Int):∀ js:List Job,MY (λa b=>Og a b) (Z3 js) d=U5 js d
 |[]=>rfl
 |j::js=>by
  show(bif Og d j.1 then zo j else MY (λa b=>Og a b) (Z3 js) d)=(j::js).find? (cW d)
  rw[ed,bx d js];show _=match Og d j.1 with|true=>zo j|false=>U5 js d
  cases Og d j.1<;>rfl
theorem bz{j:Job}:∀ {js:List Job},j.1 ∉ js.map (·.1)->IX (λa b=>Og a b) (Z3 js) j.1 j=Z3 (js++[j])
 |[],_=>rfl
 |i::js,h=>by
  show(bif Og j.1 i.1 then(j.1,j)::Z3 js else(i.1,i)::IX (λa b=>Og a b) (Z3 js) j.1 j)=(i.1,i)::Z3 (js++[j])
  have d:Og j.1 i.1=zf:=by rw[Vm];simp;intro e;exact h (by simp[e])
  rw[d,zj,bz (λc=>h (by simp at c ⊢;exact .inr c))]
theorem Yy{js:List Job}{d:Int}(h:d ∉ js.map (·.1)):U5 js d=zn:=by
 unfold U5;rw[ta];intro j a;unfold cW;rw[Vm];simp only[decide_eq_true_eq];intro e;exact h (by rw[e];exact hG a)
theorem bw{x d:Int}:∀ {js:List Job},(js.map (·.1)).Nodup->MY (λa b=>Og a b) (IW (λa b=>Og a b) (Z3 js) x) d=if d=x then zn else U5 js d
 |[],_=>by split<;>rfl
 |j::js,h=>by
  rw[oj,ll]at h;show MY (λa b=>Og a b) (bif Og x j.1 then Z3 js else(j.1,j)::IW (λa b=>Og a b) (Z3 js) x) d=_
  have g:U5 (j::js) d=if d=j.1 then zo j else U5 js d:=by
   unfold U5;rw[ed];unfold cW;rw[Vm];by_cases e:d=j.1<;>simp[e]
  rw[Vm,g];by_cases f:x=j.1
  ·rw[show decide (x=j.1)=zt by simp[f],zb,bx];by_cases c:d=x
   ·rw[zy c];exact Yy (by rw[c,f];exact h.1)
   ·rw[zx c,zx (by rw[<- f];exact c)]
  ·rw[show decide (x=j.1)=zf by simp[f],zj];show(bif Og d j.1 then zo j else MY (λa b=>Og a b) (IW (λa b=>Og a b) (Z3 js) x) d)=_
   rw[bw h.2,Vm];by_cases c:d=j.1
   ·rw[show decide (d=j.1)=zt by simp[c],zb,zy c,zx (by rw[c];exact λe=>f e.symm)]
   ·rw[show decide (d=j.1)=zf by simp[c],zj,zx c]
theorem VR.vl'{L:UF}(v:VLev L){n:Nat}{r:UX}(h:r∈UJ L.2 n):VL r.2:=((v.own n).2 r h).vl
theorem iS(L:UF)(a:L.2.length<=1000)(n:Nat):Vv (L,(n:Int))=zo (decide ((n:Int)=(L.2.length:Int)-1)):=by
 unfold Vv;simp only[UH,UG];rw[Sx (by omega),Vm]
theorem jx{L:UF}(v:VLev L){n:Nat}(h:(UJ L.2 n).length=2):X6 (L,(n:Int))=zo (Wt L n,0):=by
 have d:n<L.2.length:=by
  by_cases e:n<L.2.length
  ·exact e
  ·unfold UJ at h;rw[ab (by omega)]at h;cases h
 have i:=v.len;obtain⟨f,g⟩:=v.small;unfold X6;simp only[UH,UG];rw[Zm _ f g,XY v,TA,Ti,zy rfl,Th,zx (by omega),Td,zx (by omega),Td,zx (by omega),UB,TS (Wr d),Th,zx (by omega),iS L (by omega) n,TA]
 obtain⟨b,c,a⟩:∃ b c,UJ L.2 n=[b,c]:=by
  match hq:UJ L.2 n with
  |[b,c]=>exact⟨b,c,rfl⟩
  |[]=>rw[hq]at h;cases h
  |[_]=>rw[hq]at h;cases h
  |_::_::_::_=>rw[hq]at h;simp at h
 rw[dC _ (by rw[Wr d,a]) (VR.vl' v (n:=n) (by rw[a];simp)) (VR.vl' v (n:=n) (by rw[a];simp)),TA];unfold Wt;rw[ac,a]
theorem Yw(i:Nat)(rs:List UX)(ls:List (List UX)):UK i (rs::ls)=(if rs.length=2 then[(i:Int)]else[])++UK (i+1) ls:=rfl
theorem aS{s:UC}(f:(s.2.1.map (·.1)).Nodup)(t:s.2.1.length<=1000){L:UF}(v:VLev L)(next a:Int):Ud (s,(L,(next,a)))=zo (ZQ s L next a,0):=by
 have u:=v.len;unfold Ud;simp only[UH,UG]
 rw[Vo (l:=s.2.1) (σ:=List (Int×Job)) (s:=((0:Int),([]:List (Int×Job)))) (λi m=>((i:Int),m)) (λls i m=>∃ p,s.2.1=p++ls/\m=Z3 p) (λ_ _ _=>(0,(((s.2.1.length:Int),Z3 s.2.1),()))) [] rfl (by omega) ⟨[],rfl,rfl⟩ (λm h=>by
  obtain⟨p,d,rfl⟩:=h
  simp only;rw[re,SM,d,ci]) (λi x ls m q b hi h=>by
   obtain⟨p,d,rfl⟩:=h;refine⟨Z3 (p++[x]),?_,⟨p++[x],by rw[d];simp,rfl⟩,rfl⟩;simp only;rw[rl hi,Sp,UB,TS b,UN b (by omega),bz];intro g;rw[d,ox,nm]at f
   exact f.2.2 _ g x.1 (by simp) rfl),TA]
 simp only
 rw[Vo (l:=L.2) (σ:=List Job) (s:=((0:Int),((0:Int),(((0:Int),(([]:List (List UX)),(([]:List Job),(0:Int)))),(L.1,(L.2,(([]:List Job),next))))))) (λi js=>((0:Int),((i:Int),(((0:Int),(([]:List (List UX)),(([]:List Job),(0:Int)))),(L.1,(L.2,(js,next))))))) (λls i js=>js++(UK i ls).map (Wy s L a)=(UK 0 L.2).map (Wy s L a)) (λ_ _ _=>(0,(((0:Int),((L.2.length:Int),(((0:Int),(([]:List (List UX)),(([]:List Job),(0:Int)))),(L.1,(L.2,((UK 0 L.2).map (Wy s L a),next)))))),()))) [] rfl (by omega) rfl (λm h=>by
  simp only;rw[re,SM,<- h];simp[UK]) (λi rs ls m q b hi h=>by
   have k:UJ L.2 i=rs:=by unfold UJ;rw[b];rfl
   have o:=(v.own i).1;rw[k]at o;refine⟨m++(if rs.length=2 then[Wy s L a i]else[]),?_,?_,rfl⟩
   ·simp only;rw[rl hi,Sp,UB,TS b,Th]
    have g:m.length<=1000:=by
     have c:=congrArg oy h;have r:=V2 L.2 0;rw[l4,iP,iP]at c;omega
    by_cases c:rs.length=2;rotate_left
    ·rw[zy (by omega),zx c,ci,UN b (by omega)]
    rw[zx (by omega),zy c,bw f];have e:Wy s L a i=(if(i:Int)=a then zn else U5 s.2.1 i).getD (Wt L i):=rfl
    cases n:(if(i:Int)=a then zn else U5 s.2.1 (i:Int))with
    |none=>
     rw[n,tg]at e;rw[e,jx v (by rw[k];exact c),Ug,Tn,zx (show ¬ Tv (zn:Option Job)=zt by simp[Tv]),TA];simp only;rw[Ti,zy rfl,Un (by simp only[BC,ae,a8];omega),UN b (by omega)];rfl
    |some j=>
     rw[n,c0]at e;rw[e,Ug,Tn,zy (show Tv (zo j)=zt from rfl),Un (by simp only[BC,ae,a8];omega),UN b (by omega)];rfl
   ·rw[bc,<- h,Yw,ox]
    congr 2
    split<;>rfl),TA]
 rfl
end
section
open Go Sv
def pS(s:U3):Option XZ:=if s.1=zt then zo s.2.1 else zn
theorem Asc.weak:∀ {l:List UD} {p c:Option XZ},(∀ a,c=zo a -> ∃ q,p=zo q/\Si q a=zf)->Asc p l->Asc c l
 |[],_,_,_,_=>trivial
 |x::l,p,c,h,⟨g,i⟩=>⟨λa b=>by
  obtain⟨q,e,j⟩:=h a b;have d:=g q e;by_cases f:a=q
  ·rw[f];exact d
  ·exact Ws (Zs j (λe=>f e.symm)) d,i⟩
theorem dH:∀ (l:List UD) (s:U3),aD s l->Asc (pS s) (WZ s l)
 |[],_,_=>trivial
 |x::l,s,⟨_,g,h⟩=>by
  have i:=dH l _ h;have f:Asc (zo x.1) (WZ (zt,(x.1,s.2.2)) l):=i;unfold WZ;by_cases c:keep s x=zt
  ·rw[zy c];refine⟨λq d=> ?_,f⟩;unfold pS at d;by_cases b:s.1=zt
   ·rw[zy b]at d;cases d;refine Zs (g b) λe=> ?_;unfold keep at c;rw[b,e]at c;simp at c
   ·rw[zx b]at d;cases d
  ·rw[zx c,ee];refine f.weak λj a=>⟨x.1,rfl,?_⟩;unfold pS at a;by_cases b:s.1=zt
   ·rw[zy b]at a;cases a;exact g b
   ·rw[zx b]at a;cases a
theorem dJ:∀ {l:List UD} {s:U3} {x:UD},x∈WZ s l->x∈l
 |y::l,s,x,h=>by
  unfold WZ at h;rcases gM.1 h with h|h
  ·split at h
   ·rw[o3.1 h];simp
   ·cases h
  ·exact List.mem_cons_of_mem _ (dJ h)
theorem gz:∀ {l:List UD} {s:U3},aD s l -> ∀ x∈l,kE x=0
 |y::l,s,⟨a,_,b⟩,x,h=>by
  rcases bl.1 h with e|h
  ·rw[e];exact a
  ·exact gz b x h
theorem kP{a b:List UD}(va:VL a)(f:VL b)(c:Bool){k:Nat}(d:k<=a.length+b.length)(j:a.length+b.length<=5000):VL (Vq a b c k).2.2.1/\(Vq a b c k).2.2.1.length<=a.length+b.length:=by
 have e:=Xf va f c d
 have i:(WZ (s0 c) (UR a b k)).length<=k:=by
  have:=Yi (s0 c) (UR a b k);rw[VX va f d]at this;exact this
 have g:(Vq a b c k).2.2.1=WZ (s0 c) (UR a b k):=rfl;rw[g];exact⟨⟨by omega,λx h=>gz e x (dJ h),dH _ _ e⟩,by omega⟩
theorem eY{L:UF}(v:VLev L){n:Nat}(h:UJ L.2 n≠[]):V4 (L,(n:Int))=zo (VB L n [],(UJ L.2 n,0)):=by
 have b:n<L.2.length:=by
  by_cases a:n<L.2.length
  ·exact a
  ·unfold UJ at h;rw[ab (by omega)]at h;exact absurd rfl h
 have d:=v.len;have c:=(v.own n).1;unfold V4;simp only[UH,UG];rw[ca v,TA,zx (by omega),Ti,zy rfl,Th,zy (by omega),UB,TS (Wr b),cX,zx h,aM (by omega) (by omega),TA,Un (by omega)]
theorem iQ{S β:Type}{f:S->Option (LR S β)}{r:β}(mk:Int->S)(n:Nat){s:S}(b:s=mk ((n:Int)-1))(g:n<1000000)(hs:∀ k,k<n->f (mk (k:Int))=zo (.nx (mk ((k:Int)-1))))(c:f (mk (-1))=zo (.dn r)):loop f s=zo r:=by
 subst b
 have a:∀ k,k<=n->IQ (k+1) f (mk ((k:Int)-1))=zo r:=by
  intro k
  induction k with
  |zero=>intro _;exact Um c
  |succ k d=>
   intro e;have:=hs k (by omega);rw[show((k+1:Nat):Int)-1=(k:Int) by omega,Ue this];exact d (by omega)
 exact VW (by omega) (a n (a9 _))
theorem dW{L:UF}(v:VLev L){n:Nat}(o:n<12){x:UX}(q:x.2.length<=1048576)(b:∀ y∈L.2.flatten,y.1≠x.1)(m:(UJ L.2 n).length<2) :
  Uu (L,((n:Int),x))=zo (if kR [] (VG L.1 n) x≠0 then((0,[]),kR [] (VG L.1 n) x)else(VB L n (UJ L.2 n++[x]),0)):=by
 have p:=v.len;unfold Uu;simp only[UH,UG];rw[ca v,TA,zx (by omega),Ti,zy rfl,aK v.B1 v.B2 (by omega),bq x _ (by omega),show SC (n:Int) 0=zt by unfold SC;simp];rw[pU,TA,Ti];by_cases a:kR [] (VG L.1 n) x=0;rotate_left
 ·rw[zx a,zy a]
 rw[zy a,zx (by simp[a])]
 rw[Vo (l:=L.2) (σ:=Unit) (s:=((0:Int),(((0:Int),([]:List (List UX))),(0:Int)))) (λi _=>((i:Int),(((0:Int),([]:List (List UX))),(0:Int)))) (λ_ _ _=>True) (λ_ _ _=>(0,(((L.2.length:Int),(((0:Int),([]:List (List UX))),(0:Int))),()))) () rfl (by omega) trivial (λ_ _=>by
  simp only;rw[re];rfl) (λi rs ls _ j hi c _=>by
   refine⟨(),?_,trivial,rfl⟩;have e:UJ L.2 i=rs:=by unfold UJ;rw[hi];rfl
   have f:=(v.own i).1;rw[e]at f;simp only;rw[rl c,Sp,UB,TS hi,Sx (by omega)]
   rw[iQ (λk=>(k,(((0:Int),([]:List (List UX))),(0:Int)))) rs.length rfl (by omega) (λk a=>by
    have h:rs[k]?=zo rs[k]:=ba a;have d:rs[k].1≠x.1:=b _ (gl.2 ⟨rs,ad hi,iz a⟩);simp only
    rw[Td,zy (by omega),UB,TS h,Tc,zx d,Sx (by omega)]) (r:=(0,(((-1:Int),(((0:Int),([]:List (List UX))),(0:Int))),()))) rfl,TA]
   rw[UN hi (by omega)]
   rfl),TA]
 rw[TB,zy rfl,Th];by_cases g:n<L.2.length
 ·rw[zy (by omega),UB,TS (Wr g),Tc,zx (by omega),UB,UB,Un (a9 _),TE,zy rfl,Un (en _)];have hs:Dy (UJ L.2 n) 0 (UJ L.2 n).length=UJ L.2 n:=by unfold Dy;simp
  rw[hs,Un (by simp only[BC,ae,a8];omega),aM (by omega) (by omega),TA];rfl
 ·rw[zx (by omega)];have e:UJ L.2 n=[]:=by unfold UJ;rw[ab (by omega)];rfl
  rw[Un (by simp),aM (by omega) (by omega),TA,e];rfl
end
section
open Go Sv
def zS:UC:=((0,[]),([],0))
def VA(j:Job):List UD:=j.2.2.2.1
def Ys(s:UC)(j:Job):Nat:=if WG s.1 j=zt then j.1.toNat else j.1.toNat+1
def V0(s:UC)(j:Job):UF:=if VA j=[]then VB s.1 j.1.toNat []else VB (VB s.1 j.1.toNat []) (Ys s j) (UJ (VB s.1 j.1.toNat []).2 (Ys s j)++[(s.2.2,VA j)])
def Yg(s:UC)(j:Job):Int:=if VA j=[]then s.2.2 else s.2.2+1
def Ze(s:UC)(j:Job):UC×Int:=
 if 0<Ua s.1 j\/WV s.1 j=zf then(zS,9)else if s.2.2>1000000/\VA j≠[]then(zS,5)else(ZQ s (V0 s j) (Yg s j) j.1,0)
theorem bm:∀ (ls:List (List UX)) (i:Nat),(UK i ls).Nodup /\ ∀ d∈UK i ls,(i:Int)<=d
 |[],_=>⟨.nil,λ_ h=>by cases h⟩
 |rs::ls,i=>by
  obtain⟨b,a⟩:=bm ls (i+1);rw[Yw];by_cases h:rs.length=2
  ·rw[zy h];refine⟨ll.2 ⟨λc=> ?_,b⟩,λd hd=> ?_⟩
   ·have:=a _ c;omega
   ·rcases bl.1 hd with e|hd
    ·omega
    ·have:=a d hd;omega
  ·rw[zx h];exact⟨b,λd hd=>by have:=a d hd;omega⟩
theorem VSt.nodup{s:UC}(v:VSt s):(s.2.1.map (·.1)).Nodup:=by rw[v.due];exact(bm _ _).1
theorem JobAt.out{L:UF}{n:Nat}{j:Job}(h:JobAt L n j)(v:VLev L)(hs:(∀ r∈UJ L.2 n,r.2.length<=2000)):VL (VA j)/\((VA j).length:Int)<=2*VG L.1 n/\j.1=(n:Int)/\n<12/\UJ L.2 n≠[]:=by
 obtain⟨a,b,d,k,e,rfl,i,_,l,m⟩:=h;have c:UJ L.2 n=[a,b]:=by unfold UJ;rw[e];rfl
 have s:=hs a (by rw[c];simp);have t:=hs b (by rw[c];simp);have u:=((v.own n).2 a (by rw[c];simp)).le;have w:=((v.own n).2 b (by rw[c];simp)).le;obtain⟨f,g⟩:=kP m l d i (by omega);have p:=(aa.1 e).1;have q:=v.len;refine⟨f,?_,rfl,by omega,by rw[c];simp⟩
 have o:((VA ((n:Int),Vq b.2 a.2 d k)).length:Int)<=(b.2.length:Int)+(a.2.length:Int):=by
  have:(VA ((n:Int),Vq b.2 a.2 d k)).length<=b.2.length+a.2.length:=g;omega
 omega
def jq(L:UF):Prop:=∀ i,∀ r∈UJ L.2 i,r.2.length<=2000
structure InstF (s:UC) (n:Nat) (j:Job):Prop where
 l1:VLev (VB s.1 n [])
 to12:VA j≠[]->Ys s j<12
 vr:VA j≠[]->VR (VG s.1.1 (Ys s j)) (s.2.2,VA j)
 id:∀ y∈(VB s.1 n []).2.flatten,y.1≠s.2.2
 room:VA j≠[]->(UJ (VB s.1 n []).2 (Ys s j)).length<2
 lev:VLev (V0 s j)
theorem gq{s:UC}(v:VSt s)(A:jq s.1){n:Nat}{j:Job}(z:JobAt s.1 n j)(G:¬ 0<Ua s.1 j)(hc:WV s.1 j=zt)(x:VA j≠[]->s.2.2<=1000000):InstF s n j:=by
 obtain⟨C,D,E,t,I⟩:=z.out v.lev (A n);have a:=v.lev.leave (n:=n) t;have e:j.1.toNat=n:=by rw[E];simp
 have b:WG s.1 j≠zt->n+1<12/\(UJ s.1.2 (n+1)).length<2:=λhs=>by
  unfold WV at hc;rw[show decide (0<Ua s.1 j)=zf by simp;omega,e]at hc;cases o:WG s.1 j with
  |true=>exact absurd o hs
  |false=>
   rw[o]at hc;simpa[Zg,UJ]using hc
 have d:∀ y∈(VB s.1 n []).2.flatten,y.1≠s.2.2:=λy r=>by
  obtain⟨p,q,i,k⟩:=YM s.1 n [];rw[k,ee]at r
  have B:y∈s.1.2.flatten:=by
   rw[i];rcases gM.1 r with h|h
   ·exact List.mem_append_left _ h
   ·exact s6 _ (s6 _ h)
  have:=Z1 B;have:=v.n3;omega
 have m:Ys s j<12/\(UJ (VB s.1 n []).2 (Ys s j)).length<2/\((VA j).length:Int)<=VG s.1.1 (Ys s j):=by
  unfold Ys;by_cases hs:WG s.1 j=zt
  ·rw[zy hs,e];refine⟨t,by rw[XC,zy rfl];simp,?_⟩;have c:=hs;unfold WG at c;rw[e]at c;exact of_decide_eq_true c
  ·rw[zx hs,e];obtain⟨i,k⟩:=b hs;refine⟨i,by rw[XC,zx (by omega)];exact k,?_⟩;rw[cD];exact D
 obtain⟨u,w,F⟩:=m;have g:VA j≠[]->VR (VG s.1.1 (Ys s j)) (s.2.2,VA j):=λf=>⟨v.n1,x f,C,f,F⟩;refine⟨a,λ_=>u,g,d,λ_=>w,?_⟩;unfold V0;rw[e];by_cases l:VA j=[]
 ·rw[zy l];exact a
 ·rw[zx l];exact a.arrive u w (g l) d
theorem bn{s:UC}(v:VSt s)(u:jq s.1){n:Nat}{j:Job}(t:JobAt s.1 n j)(w:¬ 0<Ua s.1 j)(hc:WV s.1 j=zt)(y:VA j≠[]->s.2.2<=1000000)(l:Int) :
  (bd (V4 (s.1,(n:Int))) λd=>br (Og d.2.2 0) (λ_=>br (TI (Ko (AQ j.2.2.2.1)) 0) (λ_=>bd (Uq (s,(j,l))) λK=>br (H2 K) (λ_=>bd (Uu ((d.1,(SV .i64 (n:Int) 1,(s.2.2,j.2.2.2.1))))) λm=>br (SD m.2 0) (λ_=>zo ((((0,[]),([],0)),m.2))) λ_=>bd (Ud ((s,(m.1,(SV .i64 s.2.2 1,(n:Int)))))) λL=>zo L) λ_=>bd (Uu ((d.1,((n:Int),(s.2.2,j.2.2.2.1))))) λo=>br (SD o.2 0) (λ_=>zo ((((0,[]),([],0)),o.2))) λ_=>bd (Ud ((s,(o.1,(SV .i64 s.2.2 1,(n:Int)))))) λM=>zo M) λ_=>br (SD d.2.2 0) (λ_=>zo ((((0,[]),([],0)),d.2.2))) λ_=>bd (Ud ((s,(d.1,(s.2.2,(n:Int)))))) λN=>zo N) λ_=>br (SD d.2.2 0) (λ_=>zo ((((0,[]),([],0)),d.2.2))) λ_=>bd (Ud ((s,(d.1,(s.2.2,(n:Int)))))) λk=>zo k)
  = zo (ZQ s (V0 s j) (Yg s j) j.1,0):=by
 have F:=gq v u t w hc y;obtain⟨G,O,g,I,J⟩:=t.out v.lev (u n);have i:j.1.toNat=n:=by rw[g];simp
 have D:=v.n2;have C:=v.n1;have A:=v.jsmall;have a:=F.lev;rw[eY v.lev J,TA];show(br (Og 0 0) _ _)=_;rw[Tc,zy rfl,UH,UG,Te];by_cases b:VA j=[]
 ·rw[zx (show ¬ ((j.2.2.2.1.length:Int)>0) by rw[show j.2.2.2.1=[]from b];simp),Ti,zy rfl];unfold V0 at a ⊢;rw[zy b,i]at a;rw[zy b,i,aS v.nodup (by omega) a,TA];unfold Yg;rw[zy b,g]
 ·rw[zy (show((j.2.2.2.1.length:Int)>0) by have:=co.2 b;have h:(VA j).length=j.2.2.2.1.length:=rfl;omega),bS v.lev g I,TA,Ug];have E:(VA j).length<=1048576:=by have:=G.len;omega
  have B:kR [] (VG (VB s.1 n []).1 (Ys s j)) (s.2.2,VA j)=0:=kC.2 ⟨F.vr b,by simp⟩;have f:=dW F.l1 (F.to12 b) (x:=(s.2.2,VA j)) E F.id (F.room b);rw[zx (by simp[B])]at f
  have z:V0 s j=VB (VB s.1 n []) (Ys s j) (UJ (VB s.1 n []).2 (Ys s j)++[(s.2.2,VA j)]):=by
   unfold V0;rw[zx b,i]
  have q:Yg s j=s.2.2+1:=by unfold Yg;rw[zx b]
  rw[<- z]at f;have p:SV .i64 s.2.2 1=s.2.2+1:=Su (by omega);have r:=aS v.nodup (by omega) a (s.2.2+1) (n:Int);rw[Tn];have c:Ys s j=if WG s.1 j=zt then n else n+1:=by unfold Ys;rw[i]
  by_cases hs:WG s.1 j=zt
  ·rw[zy hs]at c ⊢;rw[c]at f;have e:Uu (VB s.1 n [],((n:Int),(s.2.2,j.2.2.2.1)))=zo (V0 s j,0):=f;rw[e,TA,Ti,zy rfl,p,r,TA,q,g]
  ·rw[zx hs]at c ⊢;rw[c]at f;rw[UI (by omega)];have e:Uu (VB s.1 n [],(((n+1:Nat):Int),(s.2.2,j.2.2.2.1)))=zo (V0 s j,0):=f;rw[e,TA,Ti,zy rfl,p,r,TA,q,g]
theorem eF{s:UC}(m:Sm s)(k:jq s.1)(a:Int):WW (s,a)=zo (XD zS Ze s a):=by
 unfold WW;rw[cz m,TA];unfold XD;by_cases b:(UE s).2=0;rotate_left
 ·rw[zy b,Ti,zx b,zy b];rfl
 rw[zx (show ¬ (UE s).2≠0 by simp[b]),zx (show ¬ (UE s).2≠0 by simp[b])];have v:=UL.1 b;unfold bW;cases p:Zy a 0 (UK 0 s.1.2)with
 |none=>rfl
 |some i=>
  obtain⟨j,n,l,o,f,g,q⟩:=v.at p;have:=v.lev.len;subst o;simp only[l];unfold Uc Ze;rw[Ti,zy rfl,TA,Te];by_cases e:0<Ua s.1 j
  ·rw[zy (show((Ua s.1 j:Int))>0 by omega),zy (.inl e)];rfl
  rw[zx (show ¬ ((Ua s.1 j:Int))>0 by omega),cN v.lev f (by omega) _ rfl,TA,Ug,Tn];by_cases hc:WV s.1 j=zt;rotate_left
  ·rw[zx hc,zy (.inr (by simpa using hc))];rfl
  rw[zy hc,zx (show ¬ (0<Ua s.1 j\/WV s.1 j=zf) by rw[hc];simp;omega),Te];by_cases d:s.2.2>1000000
  ·rw[zy d,UH,UG,Te];by_cases c:VA j=[]
   ·rw[zx (show ¬ ((j.2.2.2.1.length:Int)>0) by rw[show j.2.2.2.1=[]from c];simp),zx (by simp[c])];exact bn v k g e hc (λh=>absurd c h) _
   ·rw[zy (show((j.2.2.2.1.length:Int)>0) by have:=co.2 c;have h:(VA j).length=j.2.2.2.1.length:=rfl;omega),zy ⟨d,c⟩];rfl
  ·rw[zx d,zx (by simp[d])];exact bn v k g e hc (λh=>by omega) _
end
section
open Go Sv
def ZB(L:UF)(j:Job):X4:=match UJ L.2 j.1.toNat with
 |[r0,r1]=>Vq r1.2 r0.2 j.2.2.1.2.2 (j.2.2.2.2.toNat+1)
 |_=>j.2
def Z8(s:UC)(j:Job):UC:=(s.1,(lset s.2.1 ((Zy j.1 0 (UK 0 s.1.2)).getD 0) (j.1,ZB s.1 j),s.2.2))
theorem kV{s:UC}(m:Sm s)(v:VSt s){a:Int}{i:Nat}(q:Zy a 0 (UK 0 s.1.2)=zo i){j:Job}(e:s.2.1[i]?=zo j)(r:0<Ua s.1 j):YW (s,(a,1))=zo (Z8 s j,(1,0)):=by
 obtain⟨j',n,f,x,t,p,D⟩:=v.at q;rw[e]at f;cases f;subst x;have z:(UE s).2=0:=UL.2 v
 have h:Yj s (n:Int)=((i:Int),0):=by
  simp_all[Yj,zx,UE]
 have u:=v.jsmall;have hi:=(aa.1 e).1;unfold YW;rw[sS m,TA,Ti,zy z,Th,zx (show ¬ ((1:Int)<0) by omega),gi m,TA,h,Ti,zy rfl,UB,TS e,(JobAt.left p).1,TA,Tc,zx (show ¬ ((Ua s.1 j:Int)=0) by omega),UB,TS e];obtain⟨b,c,d,k,o,rfl,w,C,A,B⟩:=p;have y:UJ s.1.2 n=[b,c]:=by unfold UJ;rw[o];rfl
 have l:Ua s.1 ((n:Int),Vq c.2 b.2 d k)=c.2.length+b.2.length-k:=by
  unfold Ua;simp only[ac,o];rfl
 rw[l]at r;have g:=cE B A d w (k:=1);rw[show min 1 (c.2.length+b.2.length-k)=1 by omega]at g;show(bd (VD (Vq c.2 b.2 d k,((1:Nat):Int))) λE=>_)=_;rw[g,TA];simp only;rw[Ti,zy rfl];unfold Ul;rw[Un (by simp only[AQ];omega),TA,UB,TG,zy (by simp only[AQ];exact hi),TS e];unfold Z8 ZB;simp only[ac,y,q,c0];have e1:(Vq c.2 b.2 d k).2.1.2.2=d:=al _ _ _ _;have e2:(Vq c.2 b.2 d k).2.2.2.toNat=k:=by rfl
 simp_all
def Yd(s:UC)(j:Job):UC×(Bool×Int):=if WV s.1 j=zf then(zS,(zf,9))else if 0<Ua s.1 j then(Z8 s j,(zf,0))else((Ze s j).1,(Og (Ze s j).2 0,(Ze s j).2))
def VJ(s:UC)(a:Int):UC×(Bool×Int):=if(UE s).2≠0 then(zS,(zf,(UE s).2))else match bW s a with
 |some j=>Yd s j
 |none=>(zS,(zf,4))
theorem cG{s:UC}(m:Sm s)(g:jq s.1)(a:Int):Uj (s,a)=zo (VJ s a):=by
 unfold Uj;rw[cz m,TA,eF m g];unfold XD VJ;by_cases b:(UE s).2=0;rotate_left
 ·rw[zy b,Ti,zx b,zy b];rfl
 rw[zx (show ¬ (UE s).2≠0 by simp[b]),zx (show ¬ (UE s).2≠0 by simp[b]),zx (show ¬ (UE s).2≠0 by simp[b])];have v:=UL.1 b;unfold bW;cases f:Zy a 0 (UK 0 s.1.2)with
 |none=>rfl
 |some i=>
  obtain⟨j,n,e,k,d,h,l⟩:=v.at f;have:=v.lev.len;simp only[e];unfold Yd Uc;rw[Ti,zy rfl,cN v.lev d (by omega) _ rfl,TA,Ug,Tn];cases hc:WV s.1 j with
  |false=>rfl
  |true=>
   rw[zy rfl,zx (by simp),TA,Te];by_cases c:0<Ua s.1 j
   ·rw[zy (show((Ua s.1 j:Int))>0 by omega),zy c,kV m v f e c];rfl
   ·rw[zx (show ¬ ((Ua s.1 j:Int))>0 by omega),zx c];rfl
end
section
open Go Sv
theorem cb{ls:List (List UX)}{d:Int}(h:d∈UK 0 ls):∃ (n:Nat) (a b:UX),d=(n:Int)/\ls[n]?=zo [a,b]:=by
 obtain⟨k,f⟩:=bf h;obtain⟨n,c,a,b,e⟩:=YL f;exact⟨n,a,b,by rw[c,cP],e⟩
theorem dO{l:List (List UX)}{n:Int}(i:0<n)(h:∀ x∈l.flatten,x.1<n):Wq l<n:=by
 have f:∀ (rs:List UX) (m:Int),m<n->(∀ x∈rs,x.1<n)->rs.foldl (λm r=>Tq m r.1) m<n:=by
  intro rs
  induction rs with
  |nil=>intro m b _;exact b
  |cons r rs e=>
   intro m b c;rw[dc];refine e _ ?_ λx d=>c x (by simp[d]);rw[YI];have:=c r (by simp);omega
 have two:∀ (ls:List (List UX)) (m:Int),m<n->(∀ rs∈ls,∀ x∈rs,x.1<n)->ls.foldl (λm rs=>rs.foldl (λm r=>Tq m r.1) m) m<n:=by
  intro ls
  induction ls with
  |nil=>intro m b _;exact b
  |cons rs ls e=>
   intro m b c;rw[dc];exact e _ (f rs m b (c rs (by simp))) λg a=>c g (by simp[a])
 exact two l 0 i λrs a x d=>h x (gl.2 ⟨rs,a,d⟩)
theorem pW{l:List (List UX)}(e:l.getLast? ≠ zo []){n:Nat}(a:UJ l n≠[])(b:∀ i,n<i->UJ l i=[]):l.length=n+1:=by
 have f:n<l.length:=by
  by_cases h:n<l.length
  ·exact h
  ·unfold UJ at a;rw[ab (by omega)]at a;exact absurd rfl a
 by_cases c:l.length=n+1
 ·exact c
 ·exfalso;have d:=b (l.length-1) (by omega);refine e ?_;rw[l6,Wr (by omega),d]
theorem eU{js:List Job}{d:Int}{j:Job}(h:U5 js d=zo j):j∈js/\j.1=d:=by
 unfold U5 at h;have a:=xk h;unfold cW at a;rw[Vm]at a;exact⟨sp h,(of_decide_eq_true a).symm⟩
theorem jw{L:UF}(v:VLev L){n:Nat}{b c:UX}(h:L.2[n]?=zo [b,c]):JobAt L n (Wt L (n:Int)):=by
 have a:UJ L.2 n=[b,c]:=by unfold UJ;rw[h];rfl
 refine⟨b,c,decide ((n:Int)=(L.2.length:Int)-1),0,h,?_,en _,λd=> ?_,VR.vl' v (n:=n) (by rw[a];simp),VR.vl' v (n:=n) (by rw[a];simp)⟩
 ·unfold Wt;rw[ac,a]
 ·have:=of_decide_eq_true d;have:=(aa.1 h).1;omega
theorem pH{s:UC}(v:VSt s){L:UF}(u:VLev L){next a:Int}(F:1<=next)(G:next<=1000001)(I:∀ x∈L.2.flatten,x.1<next)
  (J:∀ (n:Nat) (g h:UX),s.1.2[n]?=zo [g,h]->(n:Int)≠a->(∃ q r,L.2[n]?=zo [q,r])->L.2[n]?=zo [g,h]/\(n+1=s.1.2.length->n+1=L.2.length)):VSt (ZQ s L next a):=by
 have b:∀ d∈UK 0 L.2,(Wy s L a d).1=d /\ ∃ n,JobAt L n (Wy s L a d):=λd c=>by
  obtain⟨n,q,r,rfl,t⟩:=cb c;unfold Wy;cases l:(if(n:Int)=a then zn else U5 s.2.1 (n:Int))with
  |none=>
   rw[tg];have i:=jw u t;refine⟨?_,n,i⟩;obtain⟨_,_,_,_,_,e,_⟩:=i;rw[e]
  |some j=>
   rw[c0];by_cases o:(n:Int)=a
   ·rw[zy o]at l;cases l
   rw[zx o]at l;obtain⟨p,f⟩:=eU l;refine⟨f,n,?_⟩;obtain⟨m,g,h,E,k,w,rfl,y,z,A,B⟩:=v.job j p;have K:m=n:=by have:(m:Int)=(n:Int):=f;omega
   subst K;obtain⟨C,D⟩:=J m g h w o ⟨q,r,t⟩;exact⟨g,h,E,k,C,rfl,y,λi=>D (z i),A,B⟩
 refine⟨u,F,G,dO (by show 0<next;omega) I,?_,λj p=> ?_⟩
 ·show((UK 0 L.2).map (Wy s L a)).map (·.1)=UK 0 L.2;rw[List.map_map]
  conv=>rhs;rw[<- List.map_id (UK 0 L.2)]
  exact List.map_congr_left λd c=>(b d c).1
 ·obtain⟨d,c,rfl⟩:=li.1 p;exact(b d c).2
theorem Ya{l:List (List UX)}{n:Nat}{b c:UX}:l[n]?=zo [b,c]<->UJ l n=[b,c]:=by
 unfold UJ;constructor
 ·intro h;rw[h];rfl
 ·intro h;cases a:l[n]? with
  |none=>rw[a]at h;cases h
  |some rs=>rw[a]at h;exact congrArg zo h
theorem WK{s:UC}{j:Job}{n:Nat}(b:j.1.toNat=n)(i:Nat):UJ (V0 s j).2 i=if VA j≠[]/\i=Ys s j then(if i=n then[]else UJ s.1.2 i)++[(s.2.2,VA j)]else if i=n then[]else UJ s.1.2 i:=by
 unfold V0;rw[b];by_cases a:VA j=[]
 ·rw[zy a,zx (by simp[a]),XC]
 ·rw[zx a,XC];by_cases hi:i=Ys s j
  ·rw[zy hi,zy ⟨a,hi⟩,XC,<- hi]
  ·rw[zx hi,zx (by simp[hi]),XC]
theorem j9{s:UC}(v:VSt s)(u:jq s.1){n:Nat}{j:Job}(t:JobAt s.1 n j)(B:¬ 0<Ua s.1 j)(hc:WV s.1 j=zt)(r:VA j≠[]->s.2.2<=1000000):VSt (ZQ s (V0 s j) (Yg s j) j.1):=by
 have F:=gq v u t B hc r;obtain⟨O,P,w,S,q⟩:=t.out v.lev (u n);have l:j.1.toNat=n:=by rw[w];simp
 have E:=v.n1;have G:=v.n2
 have k:s.2.2<=Yg s j/\Yg s j<=1000001/\(VA j≠[]->s.2.2<Yg s j):=by
  unfold Yg;by_cases d:VA j=[]
  ·rw[zy d];exact⟨by omega,by omega,λh=>absurd d h⟩
  ·rw[zx d];have:=r d;exact⟨by omega,by omega,λ_=>by omega⟩
 refine pH v F.lev (by omega) k.2.1 (λx L=> ?_) (λm z A D C N=> ?_)
 ·obtain⟨i,hi⟩:=bE.1 L;rw[WK l]at hi
  have b:∀ {y:UX},y∈(if i=n then[]else UJ s.1.2 i)->y.1<Yg s j:=fun {y} o=>by
   by_cases a:i=n
   ·rw[zy a]at o;cases o
   ·rw[zx a]at o;have:=Z1 (bE.2 ⟨i,o⟩);have:=v.n3;omega
  split at hi
  ·rename_i hh;rcases gM.1 hi with hi|hi
   ·exact b hi
   ·rw[o3.1 hi];exact k.2.2 hh.1
  ·exact b hi
 ·have f:m≠n:=λe=>C (by rw[w,e]);have g:UJ s.1.2 m=[z,A]:=Ya.1 D
  have p:¬ (VA j≠[]/\m=Ys s j):=λ⟨d,J⟩=>by
   have:=F.room d;rw[XC,<- J,zx f,g]at this;simp at this
  have c:UJ (V0 s j).2 m=[z,A]:=by rw[WK l,zx p,zx f,g]
  refine⟨Ya.2 c,λM=>(pW F.lev.last (by rw[c];simp) λi hi=> ?_).symm⟩;have a:UJ s.1.2 i=[]:=by unfold UJ;rw[ab (by omega)];rfl
  have I:n<s.1.2.length:=by
   by_cases h:n<s.1.2.length
   ·exact h
   ·unfold UJ at q;rw[ab (by omega)]at q;exact absurd rfl q
  have K:Ys s j<=n+1:=by unfold Ys;rw[l];split<;>omega
  rw[WK l,zx (by rintro⟨_,h⟩;omega),a];split<;>rfl
theorem Job.steps{L:UF}{n:Nat}{j:Job}(f:JobAt L n j)(h:0<Ua L j):JobAt L n (j.1,ZB L j):=by
 obtain⟨a,b,c,k,d,rfl,o,g,l,m⟩:=f;have i:=Ya.1 d
 have e:Ua L ((n:Int),Vq b.2 a.2 c k)=b.2.length+a.2.length-k:=by
  unfold Ua;simp only[ac,d];show b.2.length+a.2.length-((k:Int)).toNat=_;rw[ac]
 rw[e]at h;refine⟨a,b,c,k+1,d,?_,by omega,g,l,m⟩;unfold ZB;simp only[ac,i];have e1:(Vq b.2 a.2 c k).2.1.2.2=c:=al _ _ _ _;have e2:(Vq b.2 a.2 c k).2.2.2.toNat=k:=by show((k:Int)).toNat=k;rw[ac]
 rw[e1,e2]
theorem kW{s:UC}(v:VSt s){j:Job}{i n:Nat}(e:Zy j.1 0 (UK 0 s.1.2)=zo i)(a:s.2.1[i]?=zo j)(d:JobAt s.1 n j)(c:0<Ua s.1 j):VSt (Z8 s j):=by
 unfold Z8;rw[e,c0];refine⟨v.lev,v.n1,v.n2,v.n3,?_,λx hx=> ?_⟩
 ·show(s.2.1.set i (j.1,ZB s.1 j)).map (·.1)=_;rw[<- v.due,List.map_set];refine tw λk=> ?_;rw[List.getElem?_set];by_cases b:i=k
  ·subst b;have hi:=(aa.1 a).1;rw[zy rfl,iP,zy hi,nb,a];rfl
  ·rw[zx b]
 ·rcases List.mem_or_eq_of_mem_set hx with hx|hx
  ·exact v.job x hx
  ·rw[hx];exact⟨n,Job.steps d c⟩
end
section
open Go Sv
theorem qP{B:Int}{M:List (List UX)}{f:(Int×List (List UX))->Option (LR (Int×List (List UX)) (Nat×((Int×List (List UX))×Unit)))}(a:f (B,[])=zo (.dn (0,((B,[]),()))))(hs:∀ k,k<M.length->f (B,M.take (k+1))=if UJ M k=[]then zo (.nx (B,M.take k))else zo (.dn (0,((B,M.take (k+1)),())))):∀ k,k<=M.length->IQ (k+1) f (B,M.take k)=zo (0,((B,M.take (Yv M k)),()))
 |0,_=>by rw[List.take_zero];exact Um a
 |k+1,hk=>by
  have h:=hs k (by omega);unfold Yv;by_cases b:UJ M k=[]
  ·rw[zy b]at h ⊢;rw[Ue h];exact qP a hs k (by omega)
  ·rw[zx b]at h ⊢;exact Um h
theorem pA{M:List (List UX)}{k:Nat}(h:k<M.length):M.take (k+1)=M.take k++[UJ M k]:=by
 rw[hV,Wr h];rfl
theorem di{L:UF}(s:L.2.length<=1000){n:Nat}(u:n<1000){r:List UX}(l:r.length<=1048576)(o:∀ i,(UJ L.2 i).length<=1048576):Ve (L,((n:Int),r))=zo (VB L n r):=by
 have t:(W7 L.2 n r).length=max L.2.length (n+1):=by unfold W7;rw[xl,ZL]
 unfold Ve;simp only[UH,UG];refine UZ (Xw (r:=(0,((((max L.2.length (n+1):Nat):Int),(L.1,W7 L.2 n r)),()))) (λk=>((k:Int),(L.1,(W7 L.2 n r).take k))) (max L.2.length (n+1)) (by simp) (by omega) (λk j=> ?_) ?_) ?_
 ·have c:((W7 L.2 n r).take k).length=k:=by grind
  simp only[c];rw[pA (by omega),dj,UI (by omega),Th];by_cases e:k<L.2.length
  ·rw[zy (by omega),Td,zx (by omega),UB,TS (Wr e),Tc];by_cases a:k=n
   ·rw[zy (by omega),zy a,Un l,Un (by grind [BC,ae,a8])];rfl
   ·rw[zx (by omega),zx a,Un (o k),Un (by grind [BC,ae,a8])];rfl
  ·rw[zx (by omega),Tf,zy (by omega),Td,zy (by omega),Tc];by_cases a:k=n
   ·rw[zy (by omega),zy a,Un l,Un (by grind [BC,ae,a8])];rfl
   ·rw[zx (by omega),zx a,Un (by grind [BC,ae,a8])];have:UJ L.2 k=[]:=by unfold UJ;rw[ab (by omega)];rfl
    rw[this];rfl
 ·have c:(W7 L.2 n r).take (max L.2.length (n+1))=W7 L.2 n r:=eo (by omega);simp only;rw[Th,zx (by omega),Tf,zx (by omega),c]
 ·have d:=qP (B:=L.1) (M:=W7 L.2 n r) (f:=λb=>br (TI (b.2.length:Int) 0) (λ_=>SG (SY .i64 (b.2.length:Int) 1) λp=>ix b.2 p λq=>br (Og (q.length:Int) 0) (λ_=>SG (SY .i64 (b.2.length:Int) 1) λg=>gd (CF g b.2.length) λ_=>gd (CF 0 g) λ_=>zo (.nx (b.1,Dy b.2 0 g))) λ_=>zo (.dn ((0,(b,()))))) λ_=>zo (.dn ((0,(b,()))))) rfl (λk j=>by
   have c:((W7 L.2 n r).take (k+1)).length=k+1:=by grind
   have hi:SY .i64 ((k+1:Nat):Int) 1=(k:Int):=by rw[Sx (by omega)];omega
   have m:((W7 L.2 n r).take (k+1))[k]?=zo (UJ (W7 L.2 n r) k):=by rw[hI,zy (by omega),Wr j]
   simp only[c,hi];rw[Te,zy (by omega),UB,TS m,cX];by_cases h:UJ (W7 L.2 n r) k=[]
   ·rw[zy h,zy h,UB,Un (by omega),Un (by omega)]
    have:Dy ((W7 L.2 n r).take (k+1)) 0 k=(W7 L.2 n r).take k:=by
     unfold Dy;grind
    rw[this]
   simp_all) _ (a9 _)
  rw[eo (a9 _)]at d;exact UZ (VW (by omega) d) rfl
end
section
open Go Sv
theorem iZ{s:UC}(m:Sm s)(v:VSt s){a:Int}{i:Nat}(h:Zy a 0 (UK 0 s.1.2)=zo i){j:Job}(e:s.2.1[i]?=zo j)(t:0<Ua s.1 j):XR (s,(a,1))=zo (Z8 s j,(1,0)):=by
 obtain⟨j',n,f,z,w,u,E⟩:=v.at h;rw[e]at f;cases f;subst z;have l:(UE s).2=0:=UL.2 v
 have o:Yj s (n:Int)=((i:Int),0):=by
  unfold Yj;rw[zx (show ¬ (UE s).2≠0 by simp[l]),h]
 have q:XD (0:Int) (λs j=>((Ua s.1 j:Int),0)) s (n:Int)=((Ua s.1 j:Int),0):=by
  unfold XD bW;rw[zx (show ¬ (UE s).2≠0 by simp[l]),h];simp only[e]
 have x:=v.jsmall;have hi:=(aa.1 e).1;unfold XR;rw[pw m,TA,Tc,zy l,Th,zx (show ¬ ((1:Int)<0) by omega),Ti,zy l,ZY m,q,TA,Tc,zy rfl,Tc,zx (show ¬ ((Ua s.1 j:Int)=0) by omega),Ti,zy rfl,ZM m,o,TA,UB,TS e];obtain⟨b,c,d,k,r,rfl,y,D,B,C⟩:=u;have A:UJ s.1.2 n=[b,c]:=by unfold UJ;rw[r];rfl
 have p:Ua s.1 ((n:Int),Vq c.2 b.2 d k)=c.2.length+b.2.length-k:=by
  unfold Ua;simp only[ac,r];show c.2.length+b.2.length-((k:Int)).toNat=_;rw[ac]
 rw[p]at t;have g:=bN C B d y (k:=1);rw[show min 1 (c.2.length+b.2.length-k)=1 by omega]at g;show(bd (Ub (Vq c.2 b.2 d k,((1:Nat):Int))) λF=>_)=_;rw[g,TA];simp only;rw[Un (by simp only[AQ];omega),UB,TG,zy (by simp only[AQ];exact hi),TS e];unfold Z8 ZB;simp only[ac,A,h,c0];have e1:(Vq c.2 b.2 d k).2.1.2.2=d:=al _ _ _ _;have e2:(Vq c.2 b.2 d k).2.2.2.toNat=k:=by show((k:Int)).toNat=k;rw[ac]
 rw[e1,e2];rfl
theorem iX{L:UF}(v:VLev L){n:Nat}(h:(UJ L.2 n).length=2):U6 (L,(n:Int))=zo (Wt L n,0):=by
 have d:n<L.2.length:=by
  by_cases e:n<L.2.length
  ·exact e
  ·unfold UJ at h;rw[ab (by omega)]at h;cases h
 have i:=v.len;obtain⟨f,g⟩:=v.small;unfold U6;simp only[UH,UG];rw[ez _ f g,XY v,TA,Tc,zy rfl,Th,zx (by omega),Td,zx (by omega),Tc,zy rfl,Td,zx (by omega),UB,TS (Wr d),Th,zx (by omega),Ti,zy rfl,bM v d,TA]
 obtain⟨b,c,a⟩:∃ b c,UJ L.2 n=[b,c]:=by
  match hq:UJ L.2 n with
  |[b,c]=>exact⟨b,c,rfl⟩
  |[]=>rw[hq]at h;cases h
  |[_]=>rw[hq]at h;cases h
  |_::_::_::_=>rw[hq]at h;simp at h
 rw[cB _ (by rw[Wr d,a]) (VR.vl' v (n:=n) (by rw[a];simp)) (VR.vl' v (n:=n) (by rw[a];simp)),TA];unfold Wt;rw[ac,a]
theorem cm(l:List UD)(c:l.length<=9223372036854775807):Wm (l,l)=zo zt:=by
 unfold Wm;simp only[UH,UG];refine UZ (Xw (r:=(1,(((l.length:Int),zf),()))) (λk=>((k:Int),zf)) l.length rfl (by omega) (λk a=> ?_) (by simp only;rw[re];rfl)) ?_
 ·have b:l[k]?=zo l[k]:=ba a;simp only;rw[rl a,Sp,Sp,UB,TS b,UB,TS b,aq,zy rfl,UI (by omega)]
 ·rw[TB,zx (show ¬ (1=0) by omega)];unfold Og;simp
theorem d6(r:UX)(a:r.2.length<=9223372036854775807):W2 (r,r)=zo zt:=by
 unfold W2;rw[Tc,zy rfl,cm _ a];rfl
theorem cp(l:List UX)(c:l.length<=1048576)(h:∀ r∈l,r.2.length<=9223372036854775807):Wn (l,l)=zo zt:=by
 unfold Wn;simp only[UH,UG];rw[Ti,zy rfl];refine UZ (Xw (r:=(1,(((l.length:Int),zf),()))) (λk=>((k:Int),zf)) l.length rfl (by omega) (λk a=> ?_) (by simp only;rw[re];rfl)) rfl;have b:l[k]?=zo l[k]:=ba a;simp only;rw[rl a,Sp,UB,TS b,UB,TS b,d6 _ (h _ (iz a)),TA,Zl,SM,UI (by omega)]
theorem dz(L:UF)(e:L.2.length<=1048576)(d:∀ rs∈L.2,rs.length<=1048576 /\ ∀ r∈rs,r.2.length<=9223372036854775807):YE (L,L)=zo zt:=by
 unfold YE;simp only[UH,UG];rw[Ti,zy rfl,Ti,zy rfl];refine UZ (Xw (r:=(1,(((L.2.length:Int),zf),()))) (λk=>((k:Int),zf)) L.2.length rfl (by omega) (λk b=> ?_) (by simp only;rw[re];rfl)) rfl;have c:L.2[k]?=zo L.2[k]:=ba b;have a:=d _ (iz b);simp only;rw[rl b,Sp,UB,TS c,UB,TS c,cp _ a.1 a.2,TA,Zl,SM,UI (by omega)]
theorem dy{L:UF}{n:Nat}{j:Job}(h:JobAt L n j):W3 (j,j)=zo zt:=by
 obtain⟨l,m,a,k,_,rfl,b,_,g,i⟩:=h;obtain⟨s1,s2,c,d,e,f⟩:=aE i g a b;unfold W3;rw[Tc,zy rfl,bJ _ _ s1 s2 c d e f];simp[TA]
theorem fC{t:UC}(v:VSt t):WD (t,t)=zo zt:=by
 have m:=v.sm;have d:=v.jsmall;unfold WD;simp only[UH,UG];rw[dz _ m.lv m.rs,TA,Zl,SM,Ti,zy rfl,Ti,zy rfl];refine UZ (Xw (r:=(1,(((t.2.1.length:Int),zf),()))) (λk=>((k:Int),zf)) t.2.1.length rfl (by omega) (λk a=> ?_) (by simp only;rw[re];rfl)) rfl;have b:t.2.1[k]?=zo t.2.1[k]:=ba a;obtain⟨n,c⟩:=v.job _ (iz a);simp only;rw[rl a,Sp,UB,TS b,UB,TS b,dy c,TA,Zl,SM,UI (by omega)]
theorem uX:WD (zS,zS)=zo zt:=by decide +kernel
end
section
open Go Sv
abbrev jr:=(Int×qM)
def dK(j:Job):jr:=(j.1,(j.2.1.1,(j.2.1.2.1,(j.2.1.2.2.1,(j.2.1.2.2.2.1,(j.2.1.2.2.2.2,(j.2.2.1.1,(j.2.2.1.2.1,(j.2.2.1.2.2,(j.2.2.2.1,j.2.2.2.2))))))))))
theorem iN(p:List Job)(x:Job)(d:Int):U5 (p++[x]) d=(U5 p d).or (if x.1=d then zo x else zn):=by
 unfold U5;rw[ul]
 congr 1
 rw[ed];unfold cW;rw[Vm];by_cases h:x.1=d
 ·rw[zy h,show decide (d=x.1)=zt by simp[h]]
 ·rw[zx h,show decide (d=x.1)=zf by simp;exact λe=>h e.symm];rfl
theorem jy{s:UC}(w:(s.2.1.map (·.1)).Nodup)(E:s.2.1.length<=1000)(L:UF)(a:Int){D:List Int}{i:Nat}{d:Int}(hi:D[i]?=zo d):(loop (λ(c:Int×jr)=>br (TK c.1 (s.2.1.length:Int)) (λ_=>SG c.1 λm=>ix s.2.1 m λr=>SG (i:Int) λn=>ix D n λt=>br (Og r.1 t) (λ_=>SG (i:Int) λo=>ix D o λu=>br (SD u a) (λ_=>SG c.1 λq=>ix s.2.1 q λb=>zo (.nx ((SV .i64 c.1 1,(b.1,(b.2.1.1,(b.2.1.2.1,(b.2.1.2.2.1,(b.2.1.2.2.2.1,(b.2.1.2.2.2.2,(b.2.2.1.1,(b.2.2.1.2.1,(b.2.2.1.2.2,b.2.2.2))))))))))))) λ_=>zo (.nx (SV .i64 c.1 1,c.2))) λ_=>zo (.nx (SV .i64 c.1 1,c.2))) λ_=>zo (.dn (((0:Nat),(c,()))))) ((0:Int),dK (Wt L d)))=zo (0,(((s.2.1.length:Int),dK (Wy s L a d)),())):=by
 refine Vo (l:=s.2.1) (σ:=Job) (s:=((0:Int),dK (Wt L d))) (λk j=>((k:Int),dK j)) (λls k j=>∃ p,s.2.1=p++ls/\j=(if d=a then zn else U5 p d).getD (Wt L d)) (λ_ _ _=>(0,(((s.2.1.length:Int),dK (Wy s L a d)),()))) (Wt L d) rfl (by omega) ⟨[],rfl,by split<;>rfl⟩ (λj h=> ?_) (λk x ls j C y z h=> ?_)
 ·obtain⟨p,e,rfl⟩:=h;rw[ci]at e;simp only;rw[re,SM,<- e];rfl
 ·obtain⟨p,e,rfl⟩:=h
  have B:x.1 ∉ p.map (·.1):=λA=>by
   rw[e,ox,nm]at w;exact w.2.2 _ A x.1 (by simp) rfl
  refine⟨(if d=a then zn else U5 (p++[x]) d).getD (Wt L d),?_,⟨p++[x],by rw[e];simp,rfl⟩,rfl⟩
  simp only;rw[rl z,Sp,UB,TS y,UB,TS hi,Tc,UI (by omega),iN];by_cases f:x.1=d
  ·rw[zy f,UB,TS hi,Ti,UB,TS y,zy f];by_cases g:d=a
   ·rw[zy g,zy g,zy g]
   ·rw[zx g,zx g,Yy (by rw[<- f];exact B)];rfl
  ·rw[zx f,zx f];have:(U5 p d).or zn=U5 p d:=by cases U5 p d<;>rfl
   rw[this]
theorem ap{s:UC}(B:(s.2.1.map (·.1)).Nodup)(D:s.2.1.length<=1000){L:UF}(v:VLev L)(next b:Int):loop (λ(g:(Int×(Int×((List (List UX))×((List Job)×Int)))))=>br (TK g.1 ((UK 0 L.2).length:Int)) (λ_=>SG g.1 λm=>ix (UK 0 L.2) m λt=>bd (U6 (((g.2.1,g.2.2.1),t))) λc=>bd (loop (λ(f:Int×jr)=>br (TK f.1 (s.2.1.length:Int)) (λ_=>SG f.1 λo=>ix s.2.1 o λu=>SG g.1 λp=>ix (UK 0 L.2) p λw=>br (Og u.1 w) (λ_=>SG g.1 λq=>ix (UK 0 L.2) q λx=>br (SD x b) (λ_=>SG f.1 λr=>ix s.2.1 r λe=>zo (.nx ((SV .i64 f.1 1,(e.1,(e.2.1.1,(e.2.1.2.1,(e.2.1.2.2.1,(e.2.1.2.2.2.1,(e.2.1.2.2.2.2,(e.2.2.1.1,(e.2.2.1.2.1,(e.2.2.1.2.2,e.2.2.2))))))))))))) λ_=>zo (.nx (SV .i64 f.1 1,f.2))) λ_=>zo (.nx (SV .i64 f.1 1,f.2))) λ_=>zo (.dn (((0:Nat),(f,()))))) (((0:Int),(c.1.1,(c.1.2.1.1,(c.1.2.1.2.1,(c.1.2.1.2.2.1,(c.1.2.1.2.2.2.1,(c.1.2.1.2.2.2.2,(c.1.2.2.1.1,(c.1.2.2.1.2.1,(c.1.2.2.1.2.2,c.1.2.2.2)))))))))))) λa=>gd (CF (BC g.2.2.2.1.length [((a.2.1.2.1,((a.2.1.2.2.1,(a.2.1.2.2.2.1,(a.2.1.2.2.2.2.1,(a.2.1.2.2.2.2.2.1,a.2.1.2.2.2.2.2.2.1)))),((a.2.1.2.2.2.2.2.2.2.1,(a.2.1.2.2.2.2.2.2.2.2.1,a.2.1.2.2.2.2.2.2.2.2.2.1)),a.2.1.2.2.2.2.2.2.2.2.2.2))):Job)].length) 1048576) λ_=>zo (.nx ((SV .i64 g.1 1,(g.2.1,(g.2.2.1,(IN g.2.2.2.1 ([(a.2.1.2.1,((a.2.1.2.2.1,(a.2.1.2.2.2.1,(a.2.1.2.2.2.2.1,(a.2.1.2.2.2.2.2.1,a.2.1.2.2.2.2.2.2.1)))),((a.2.1.2.2.2.2.2.2.2.1,(a.2.1.2.2.2.2.2.2.2.2.1,a.2.1.2.2.2.2.2.2.2.2.2.1)),a.2.1.2.2.2.2.2.2.2.2.2.2)))]),g.2.2.2.2))))))) λ_=>zo (.dn (((0:Nat),(g,()))))) (((0:Int),(L.1,(L.2,(([]:List Job),next)))))=zo (0,((((UK 0 L.2).length:Int),(L.1,(L.2,((UK 0 L.2).map (Wy s L b),next)))),())):=by
 have I:=v.len;have F:=V2 L.2 0;refine Vo (l:=UK 0 L.2) (σ:=List Job) (λi js=>((i:Int),(L.1,(L.2,(js,next))))) (λls i js=>js++ls.map (Wy s L b)=(UK 0 L.2).map (Wy s L b)) (λ_ _ _=>(0,((((UK 0 L.2).length:Int),(L.1,(L.2,((UK 0 L.2).map (Wy s L b),next)))),()))) [] rfl (by omega) rfl (λjs h=> ?_) (λi d ls js A hi C h=> ?_)
 ·simp only;rw[re,SM,<- h];simp
 ·refine⟨js++[Wy s L b d],?_,by rw[<- h];simp,rfl⟩;obtain⟨n,J,K,k,E⟩:=cb (ad hi);have y:=iX v (n:=n) (by rw[Ya.1 E];rfl);rw[<- k]at y
  have G:js.length<=1000:=by
   have z:=congrArg oy h;rw[l4,iP,iP]at z;omega
  simp only;rw[rl C,Sp,UB,TS hi];have j:U6 ((L.1,L.2),d)=zo (Wt L d,0):=y;rw[j,TA];refine UZ (jy B D L b hi) ?_;rw[Un (by simp only[BC,ae,a8];omega),UI (by omega)];rfl
end
section
open Go Sv
theorem Z6{α β σ S:Type}{l:List α}(c:Nat)(n:c<=1000)(mk:Nat->σ->S)(I:Nat->σ->Prop)(Q:β->Prop){f:S->Option (LR S β)}{s:S}(a:σ)(i:s=mk 0 a)(hi:I 0 a)
  (p:∀ k a,(k=l.length\/k=c)->k<=l.length->I k a -> ∃ r,f (mk k a)=zo (.dn r)/\Q r)
  (hc:∀ k x a,l[k]?=zo x->k<c->I k a->(∃ b,f (mk k a)=zo (.nx (mk (k+1) b))/\I (k+1) b) \/ ∃ r,f (mk k a)=zo (.dn r)/\Q r):∃ r,loop f s=zo r/\Q r:=by
 refine Wh (l:=l.take c) mk (λ_ k a=>I k a/\k<=(l.take c).length) Q a i (by simp;omega) ⟨hi,by omega⟩ (λa h=>p _ a (by simp;omega) (by simp;omega) h.1) (λk x m a q e o h=> ?_);have d:k<c:=by simp at o;omega
 have g:l[k]?=zo x:=by rw[hI]at e;rw[zy d]at e;exact e
 rcases hc k x a g d h.1 with⟨b,h1,j⟩|h1
 ·exact .inl ⟨b,h1,j,by omega⟩
 ·exact .inr h1
theorem dR{k c:Nat}(h:k<c):TK (k:Int) (c:Int)=zt:=by unfold TK;simp;omega
theorem pO{α β:Type}{l:List α}{k c:Nat}(h:k=l.length\/k=c)(b:k<=l.length)(A B C:Option β)(e:B=C):br (TK (k:Int) (l.length:Int)) (λ_=>br (TK (k:Int) (c:Int)) (λ_=>A) λ_=>B) (λ_=>C)=C:=by
 rw[Th];by_cases a:(k:Int)<(l.length:Int)
 ·rw[zy a,Th,zx (by omega),e]
 ·rw[zx a]
end
section
open Go Sv
end
section
open Go Sv
theorem ke(L:UF)(n:Nat):WB (L,(n:Int))=zo (UJ L.2 n):=by
 unfold WB;simp only[UH,UG];rw[Td];by_cases h:n<L.2.length
 ·rw[zx (by omega),UB,TS (Wr h)]
 ·rw[zy (by omega)];unfold UJ;rw[ab (by omega)];rfl
theorem bL{s:UC}(v:VSt s)(hf:jq s.1){n:Nat}{j:Job}(ha:JobAt s.1 n j)(h0:¬ 0<Ua s.1 j)(hc:WV s.1 j=zt)(h5:VA j≠[]->s.2.2<=1000000){X:Int}(D:X=(Ys s j:Int)) :
  (bd (Ve ((s.1,((n:Int),[])))) λp=>br (TI (Ko (AQ j.2.2.2.1)) 0) (λ_=>bd (WB (p,X)) λw=>gd (CF (AQ w) 1048576) λ_=>gd (CF (BC (AQ w) (AQ ([(s.2.2,j.2.2.2.1)]))) 1048576) λ_=>bd (Ve ((p,(X,IN w ([(s.2.2,j.2.2.2.1)]))))) λy=>bd (U0 y) λq=>bd (loop (λ(c:(Int×qL))=>br (TK c.1 (Ko (AQ q))) (λ_=>SG c.1 λE=>ix q E λY=>bd (U6 (((c.2.1,c.2.2.1),Y))) λe=>bd (loop (λ(l:(Int×(Int×qM)))=>br (TK l.1 (Ko (AQ s.2.1))) (λ_=>SG l.1 λG=>ix s.2.1 G λZ=>SG c.1 λI=>ix q I λx52=>br (Og Z.1 x52) (λ_=>SG c.1 λJ=>ix q J λx54=>br (SD x54 (n:Int)) (λ_=>SG l.1 λK=>ix s.2.1 K λg=>zo (.nx ((SV .i64 l.1 1,(g.1,(g.2.1.1,(g.2.1.2.1,(g.2.1.2.2.1,(g.2.1.2.2.2.1,(g.2.1.2.2.2.2,(g.2.2.1.1,(g.2.2.1.2.1,(g.2.2.1.2.2,g.2.2.2))))))))))))) λ_=>zo (.nx (SV .i64 l.1 1,l.2))) λ_=>zo (.nx (SV .i64 l.1 1,l.2))) λ_=>zo (.dn ((0,(l,()))))) ((0,(e.1.1,(e.1.2.1.1,(e.1.2.1.2.1,(e.1.2.1.2.2.1,(e.1.2.1.2.2.2.1,(e.1.2.1.2.2.2.2,(e.1.2.2.1.1,(e.1.2.2.1.2.1,(e.1.2.2.1.2.2,e.1.2.2.2)))))))))))) λa=>gd (CF (BC (AQ c.2.2.2.1) (AQ ([(a.2.1.2.1,((a.2.1.2.2.1,(a.2.1.2.2.2.1,(a.2.1.2.2.2.2.1,(a.2.1.2.2.2.2.2.1,a.2.1.2.2.2.2.2.2.1)))),((a.2.1.2.2.2.2.2.2.2.1,(a.2.1.2.2.2.2.2.2.2.2.1,a.2.1.2.2.2.2.2.2.2.2.2.1)),a.2.1.2.2.2.2.2.2.2.2.2.2)))]))) 1048576) λ_=>zo (.nx ((SV .i64 c.1 1,(c.2.1,(c.2.2.1,(IN c.2.2.2.1 ([(a.2.1.2.1,((a.2.1.2.2.1,(a.2.1.2.2.2.1,(a.2.1.2.2.2.2.1,(a.2.1.2.2.2.2.2.1,a.2.1.2.2.2.2.2.2.1)))),((a.2.1.2.2.2.2.2.2.2.1,(a.2.1.2.2.2.2.2.2.2.2.1,a.2.1.2.2.2.2.2.2.2.2.2.1)),a.2.1.2.2.2.2.2.2.2.2.2.2)))]),c.2.2.2.2))))))) λ_=>zo (.dn ((0,(c,()))))) ((0,(y.1,(y.2,([],SV .i64 s.2.2 1)))))) λz=>zo ((((z.2.1.2.1,z.2.1.2.2.1),z.2.1.2.2.2),0))) λ_=>bd (U0 p) λt=>bd (loop (λ(d:(Int×qL))=>br (TK d.1 (Ko (AQ t))) (λ_=>SG d.1 λN=>ix t N λx62=>bd (U6 (((d.2.1,d.2.2.1),x62))) λf=>bd (loop (λ(m:(Int×(Int×qM)))=>br (TK m.1 (Ko (AQ s.2.1))) (λ_=>SG m.1 λO=>ix s.2.1 O λx66=>SG d.1 λP=>ix t P λx68=>br (Og x66.1 x68) (λ_=>SG d.1 λS=>ix t S λx70=>br (SD x70 (n:Int)) (λ_=>SG m.1 λU=>ix s.2.1 U λk=>zo (.nx ((SV .i64 m.1 1,(k.1,(k.2.1.1,(k.2.1.2.1,(k.2.1.2.2.1,(k.2.1.2.2.2.1,(k.2.1.2.2.2.2,(k.2.2.1.1,(k.2.2.1.2.1,(k.2.2.1.2.2,k.2.2.2))))))))))))) λ_=>zo (.nx (SV .i64 m.1 1,m.2))) λ_=>zo (.nx (SV .i64 m.1 1,m.2))) λ_=>zo (.dn ((0,(m,()))))) ((0,(f.1.1,(f.1.2.1.1,(f.1.2.1.2.1,(f.1.2.1.2.2.1,(f.1.2.1.2.2.2.1,(f.1.2.1.2.2.2.2,(f.1.2.2.1.1,(f.1.2.2.1.2.1,(f.1.2.2.1.2.2,f.1.2.2.2)))))))))))) λb=>gd (CF (BC (AQ d.2.2.2.1) (AQ ([(b.2.1.2.1,((b.2.1.2.2.1,(b.2.1.2.2.2.1,(b.2.1.2.2.2.2.1,(b.2.1.2.2.2.2.2.1,b.2.1.2.2.2.2.2.2.1)))),((b.2.1.2.2.2.2.2.2.2.1,(b.2.1.2.2.2.2.2.2.2.2.1,b.2.1.2.2.2.2.2.2.2.2.2.1)),b.2.1.2.2.2.2.2.2.2.2.2.2)))]))) 1048576) λ_=>zo (.nx ((SV .i64 d.1 1,(d.2.1,(d.2.2.1,(IN d.2.2.2.1 ([(b.2.1.2.1,((b.2.1.2.2.1,(b.2.1.2.2.2.1,(b.2.1.2.2.2.2.1,(b.2.1.2.2.2.2.2.1,b.2.1.2.2.2.2.2.2.1)))),((b.2.1.2.2.2.2.2.2.2.1,(b.2.1.2.2.2.2.2.2.2.2.1,b.2.1.2.2.2.2.2.2.2.2.2.1)),b.2.1.2.2.2.2.2.2.2.2.2.2)))]),d.2.2.2.2))))))) λ_=>zo (.dn ((0,(d,()))))) ((0,(p.1,(p.2,([],s.2.2)))))) λA=>zo ((((A.2.1.2.1,A.2.1.2.2.1),A.2.1.2.2.2),0)):Option (UC×Int))=zo (ZQ s (V0 s j) (Yg s j) j.1,0):=by
 have F:=gq v hf ha h0 hc h5;obtain⟨o1,o2,W,o4,o5⟩:=ha.out v.lev (hf n);have hj:j.1.toNat=n:=by rw[W];simp
 have hn2:=v.n2;have hn1:=v.n1;have hjs:=v.jsmall;have o:=F.lev;have hl:=v.lev.len;have hl1:=F.l1.len;have small:∀ {M:UF},VLev M -> ∀ i,(UJ M.2 i).length<=1048576:=λvM i=>by have:=(vM.own i).1;omega
 rw[di (by omega) (by omega) (by simp) (small v.lev),TA];simp only[UH,UG];rw[Te];by_cases u:VA j=[]
 ·rw[zx (show ¬ ((j.2.2.2.1.length:Int)>0) by rw[show j.2.2.2.1=[]from u];simp)];have B:V0 s j=VB s.1 n []:=by unfold V0;rw[zy u,hj]
  have C:Yg s j=s.2.2:=by unfold Yg;rw[zy u]
  rw[<- B,ah (by have:=o.len;omega),TA];refine UZ (ap v.nodup (by omega) o s.2.2 (n:Int)) ?_;rw[C,W];rfl
 ·rw[zy (show((j.2.2.2.1.length:Int)>0) by have:=co.2 u;have h:(VA j).length=j.2.2.2.1.length:=rfl;omega),D,ke,TA];have hro:=F.room u;have ht:=F.to12 u
  have B:V0 s j=VB (VB s.1 n []) (Ys s j) (UJ (VB s.1 n []).2 (Ys s j)++[(s.2.2,VA j)]):=by
   unfold V0;rw[zx u,hj]
  have C:Yg s j=s.2.2+1:=by unfold Yg;rw[zx u]
  rw[Un (by omega),Un (by simp only[BC,ae,a8];omega)];have hW:=di (L:=VB s.1 n []) (n:=Ys s j) (r:=UJ (VB s.1 n []).2 (Ys s j)++[(s.2.2,VA j)]) (by omega) (by omega) (by simp;omega) (small F.l1);rw[<- B]at hW;refine UZ (x:=V0 s j) hW ?_;rw[ah (by have:=o.len;omega),TA,Su (by omega)];refine UZ (ap v.nodup (by omega) o (s.2.2+1) (n:Int)) ?_;rw[C,W];rfl
theorem dg{s:UC}(m:Sm s)(l:jq s.1)(a:Int):WJ (s,a)=zo (XD zS Ze s a):=by
 unfold WJ;rw[ej m,TA,ZM m,cd m];unfold XD;by_cases b:(UE s).2=0;rotate_left
 ·rw[zy b,Ti,zx b,zy b];rfl
 rw[zx (show ¬ (UE s).2≠0 by simp[b]),zx (show ¬ (UE s).2≠0 by simp[b]),zx (show ¬ (UE s).2≠0 by simp[b])];have v:=UL.1 b;unfold bW Yj;rw[zx (show ¬ (UE s).2≠0 by simp[b])];cases q:Zy a 0 (UK 0 s.1.2)with
 |none=>rfl
 |some i=>
  obtain⟨j,n,o,p,f,k,r⟩:=v.at q;have:=v.lev.len;subst p;simp only[o];unfold Ze aC;by_cases c:0<Ua s.1 j
  ·rw[zy c,zy (.inl c)];rfl
  rw[zx c]
  have g:(if WG s.1 j=zt then(j.1,(0:Int))else(j.1+1,0))=((Ys s j:Int),0):=by
   unfold Ys;split<;>rw[f]<;>simp
  rw[g,Ti,zy rfl,TA,UB,TS o,TA,Ug,Tn];by_cases hc:WV s.1 j=zt;rotate_left
  ·rw[zx hc,zy (.inr (by simpa using hc))];rfl
  rw[zy hc,zx (show ¬ (0<Ua s.1 j\/WV s.1 j=zf) by rw[hc];simp;omega),Te];by_cases e:s.2.2>1000000
  ·rw[zy e,Te];by_cases d:VA j=[]
   ·rw[zx (show ¬ (Ko (AQ j.2.2.2.1)>0) by rw[show j.2.2.2.1=[]from d];simp[UH,UG]),zx (by simp[d])];dsimp only;exact bL v l k c hc (λh=>absurd d h) rfl
   ·rw[zy (show Ko (AQ j.2.2.2.1)>0 by have:=co.2 d;have h:(VA j).length=j.2.2.2.1.length:=rfl;rw[UH,UG];omega),zy ⟨e,d⟩];rfl
  ·rw[zx e,zx (by simp[e])];dsimp only;exact bL v l k c hc (λh=>by omega) rfl
theorem iW{s:UC}(m:Sm s)(f:jq s.1)(a:Int):Wp (s,a)=zo (VJ s a):=by
 unfold Wp;rw[cd m,TA,ZY m,dg m f];unfold XD VJ;by_cases b:(UE s).2=0;rotate_left
 ·rw[zy b,zy b,Tc,zx b];rw[Ti,zx b,zy b];rfl
 rw[zx (show ¬ (UE s).2≠0 by simp[b]),zx (show ¬ (UE s).2≠0 by simp[b]),zx (show ¬ (UE s).2≠0 by simp[b]),zx (show ¬ (UE s).2≠0 by simp[b])];have v:=UL.1 b;unfold bW;cases e:Zy a 0 (UK 0 s.1.2)with
 |none=>
  simp only;rw[Tc,zx (by omega),Ti,zx (by omega)];rfl
 |some i=>
  obtain⟨j,n,d,k,g,h,l⟩:=v.at e;simp only[d];unfold Yd;rw[Tc,zy rfl,Ug,Tn];by_cases hc:WV s.1 j=zt;rotate_left
  ·rw[zx hc,zy (by simpa using hc)];rfl
  rw[zy hc,zx (by simp[hc]),Ti,zy rfl,TA,Te];by_cases c:0<Ua s.1 j
  ·rw[zy (show((Ua s.1 j:Int))>0 by omega),zy c,iZ m v e d c];rfl
  ·rw[zx (show ¬ ((Ua s.1 j:Int))>0 by omega),zx c];rfl
end
section
open Go Sv
def Uy(l:List UD)(k:XZ):Option UD:=l.find? λx=>decide (x.1=k)
theorem U4(x:UD)(l:List UD)(k:XZ):Uy (x::l) k=if x.1=k then zo x else Uy l k:=by
 unfold Uy;rw[ed];by_cases h:x.1=k<;>simp[h]
theorem Z0(l m:List UD)(k:XZ):Uy (l++m) k=(Uy l k).or (Uy m k):=by
 unfold Uy;rw[ul]
theorem Ym(x:UD)(k:XZ):Uy [x] k=if x.1=k then zo x else zn:=by rw[U4];rfl
theorem dM{l:List UD}{k:XZ}{x:UD}(h:Uy l k=zo x):x.1=k/\x∈l:=by
 unfold Uy at h;exact⟨by simpa using xk h,sp h⟩
theorem Yl{l:List UD}{k:XZ}(h:∀ x∈l,x.1≠k):Uy l k=zn:=by
 unfold Uy;rw[ta];intro x a;simpa using h x a
theorem Zk:∀ {l:List UD} {q:XZ},Asc (zo q) l -> ∀ x∈l,Si q x.1=zt
 |x::l,q,⟨a,b⟩,y,hy=>by
  rcases bl.1 hy with e|hy
  ·rw[e];exact a q rfl
  ·exact Ws (a q rfl) (Zk b y hy)
theorem gZ:∀ {l m:List UD} {p q:Option XZ},Asc p l->Asc q m->(∀ k,Uy l k=Uy m k)->l=m
 |[],[],_,_,_,_,_=>rfl
 |[],y::m,_,_,_,_,h=>by
  have:=h y.1;rw[U4,zy rfl]at this;cases this
 |x::l,[],_,_,_,_,h=>by
  have:=h x.1;rw[U4,zy rfl]at this;cases this
 |x::l,y::m,p,q,⟨t,f⟩,⟨s,d⟩,h=>by
  have e1:=h x.1;have e2:=h y.1;rw[U4,zy rfl,U4]at e1;rw[U4,U4,zy rfl]at e2
  have g:x.1=y.1:=by
   by_cases b:y.1=x.1
   ·exact b.symm
   ·rw[zx b]at e1;rw[zx (λe=>b e.symm)]at e2;have n:=Zk d x (dM e1.symm).2;have j:=Zk f y (dM e2).2;rw[VY n]at j;cases j
  rw[zy g.symm]at e1;have c:x=y:=Option.some.inj e1;subst c;refine congrArg (x::·) (gZ f d λk=> ?_);have b:=h k;rw[U4,U4]at b;by_cases a:x.1=k
  ·have o:Uy l k=zn:=Yl λz i=>by
    have:=Zk f z i;rw[a]at this;exact λe=>ZN this e.symm
   have r:Uy m k=zn:=Yl λz i=>by
    have:=Zk d z i;rw[a]at this;exact λe=>ZN this e.symm
   rw[o,r]
  ·rw[zx a,zx a]at b;exact b
theorem Zj(P:UD->Bool):∀ {l:List UD} {p:Option XZ},Asc p l->Asc p (l.filter P)
 |[],_,_=>trivial
 |x::l,p,⟨b,d⟩=>by
  have c:=Zj P d;rw[vv];cases P x with
  |true=>exact⟨b,c⟩
  |false=>
   refine c.weak λe a=>⟨x.1,rfl,?_⟩;exact VY (b e a)
theorem ZH(P:UD->Bool)(k:XZ):∀ {l:List UD} {p:Option XZ},Asc p l->Uy (l.filter P) k=(Uy l k).filter P
 |[],_,_=>rfl
 |x::l,p,⟨h,c⟩=>by
  have d:=ZH P k c;rw[vv,U4];by_cases a:x.1=k
  ·rw[zy a]
   have f:Uy (l.filter P) k=zn:=Yl λz g=>by
    have:=Zk c z (List.mem_filter.1 g).1;rw[a]at this;exact λe=>ZN this e.symm
   cases b:P x with
   |true=>rw[zy rfl,U4,zy a];simp[ns,b]
   |false=>rw[zx (by simp),f];simp[ns,b]
  ·rw[zx a];cases b:P x with
   |true=>rw[zy rfl,U4,zx a];exact d
   |false=>simpa using d
def aW:List UD->UD->List UD
 |[],x=>[x]
 |y::l,x=>if Si y.1 x.1=zt then y::aW l x else if y.1=x.1 then y::l else x::y::l
theorem cv(x:UD):∀ {l:List UD} {p:Option XZ},Asc p l->(∀ q,p=zo q->Si q x.1=zt)->Asc p (aW l x)
 |[],p,_,hp=>⟨hp,trivial⟩
 |y::l,p,⟨d,a⟩,hp=>by
  unfold aW;by_cases h:Si y.1 x.1=zt
  ·rw[zy h];exact⟨d,cv x a λq c=>by cases c;exact h⟩
  ·rw[zx h];by_cases b:y.1=x.1
   ·rw[zy b];exact⟨d,a⟩
   ·rw[zx b];exact⟨hp,λq c=>by cases c;exact Zs (by simpa using h) b,a⟩
theorem cw(x:UD)(k:XZ):∀ {l:List UD} {p:Option XZ},Asc p l->Uy (aW l x) k=(Uy l k).or (if x.1=k then zo x else zn)
 |[],_,_=>by unfold aW;rw[Ym];rfl
 |y::l,p,⟨f,d⟩=>by
  unfold aW;by_cases h:Si y.1 x.1=zt
  ·rw[zy h,U4,U4,cw x k d];split<;>rfl
  ·rw[zx h];by_cases b:y.1=x.1
   ·rw[zy b,U4,<- b];by_cases a:y.1=k
    ·rw[zy a];rfl
    ·rw[zx a,zx a];cases Uy l k<;>rfl
   ·rw[zx b,U4];have c:Si x.1 y.1=zt:=Zs (by simpa using h) b;by_cases a:x.1=k
    ·rw[zy a]
     have:Uy (y::l) k=zn:=Yl λz hz=>by
      rw[<- a];rcases bl.1 hz with e|hz
      ·rw[e];exact b
      ·exact λe=>ZN (Ws c (Zk d z hz)) e.symm
     rw[this,zy a];rfl
    ·rw[zx a,zx a];cases Uy (y::l) k<;>rfl
theorem gY(k:XZ):∀ (r l:List UD),Asc zn l->Asc zn (r.foldl aW l)/\Uy (r.foldl aW l) k=(Uy l k).or (Uy r k)
 |[],l,h=>⟨h,by show Uy l k=_;cases Uy l k<;>rfl⟩
 |x::r,l,h=>by
  obtain⟨a,b⟩:=gY k r (aW l x) (cv x h λ_ h=>by cases h);refine⟨a,?_⟩;rw[dc,b,cw x k h,U4,ey]
  congr 1
  split<;>rfl
def iG(rs:List UX)(l:List UD):List UD:=rs.foldl (λout r=>r.2.foldl aW out) l
def Vn:List UX->XZ->Option UD
 |[],_=>zn
 |r::rs,k=>(Uy r.2 k).or (Vn rs k)
theorem cJ(k:XZ):∀ (rs:List UX) (l:List UD),Asc zn l->Asc zn (iG rs l)/\Uy (iG rs l) k=(Uy l k).or (Vn rs k)
 |[],l,h=>⟨h,by show Uy l k=_;cases Uy l k<;>rfl⟩
 |r::rs,l,h=>by
  obtain⟨a,b⟩:=gY k r.2 l h;obtain⟨c,d⟩:=cJ k rs (r.2.foldl aW l) a;refine⟨c,?_⟩;show Uy (iG rs (r.2.foldl aW l)) k=_;rw[d,b,ey];rfl
def Xs(x:UD):Bool:=!x.2.2.1
def LK(L:UF):List UD:=(iG (VQ L.2) []).filter Xs
theorem kD{L M:UF}(h:∀ k,(Vn (VQ L.2) k).filter Xs=(Vn (VQ M.2) k).filter Xs):LK L=LK M:=by
 have a:=λk=>cJ k (VQ L.2) [] trivial;have b:=λk=>cJ k (VQ M.2) [] trivial;refine gZ (Zj Xs (a []).1) (Zj Xs (b []).1) λk=> ?_;show Uy ((iG (VQ L.2) []).filter Xs) k=Uy ((iG (VQ M.2) []).filter Xs) k;rw[ZH Xs k (a []).1,ZH Xs k (b []).1,(a k).2,(b k).2];exact h k
theorem dU:∀ (a b:List UX) (k:XZ),Vn (a++b) k=(Vn a k).or (Vn b k)
 |[],b,k=>rfl
 |r::a,b,k=>by
  show(Uy r.2 k).or (Vn (a++b) k)=((Uy r.2 k).or (Vn a k)).or (Vn b k);rw[dU a b k,ey]
theorem g9:∀ {l:List UD} {s:U3} {k:XZ},aD s l->s.1=zt->Si k s.2.1=zt->Uy l k=zn
 |[],_,_,_,_,_=>rfl
 |x::l,s,k,⟨_,c,d⟩,b,hk=>by
  have a:Si k x.1=zt:=eA hk (c b);rw[U4,zx (λe=>ZN a e.symm)];exact g9 d rfl a
theorem dI(k:XZ):∀ {l:List UD} {s:U3},aD s l->Uy (WZ s l) k=if s.1=zt/\s.2.1=k then zn else(Uy l k).filter λx=> !(s.2.2&&x.2.2.1)
 |[],s,_=>by unfold WZ;split<;>rfl
 |x::l,s,⟨_,g,c⟩=>by
  have f:=dI k c;simp only[true_and]at f;unfold WZ;rw[Z0,f,U4];by_cases a:x.1=k
  ·rw[zy a,zy a];by_cases hs:s.1=zt/\s.2.1=k
   ·rw[zy hs];have:keep s x=zf:=by unfold keep;rw[hs.1,hs.2,a];simp
    rw[this];rfl
   ·rw[zx hs]
    have:keep s x = !(s.2.2&&x.2.2.1):=by
     unfold keep
     have:(s.1&&decide (x.1=s.2.1))=zf:=by
      cases b:s.1 with
      |false=>rfl
      |true=>
       simp only[Bool.true_and,decide_eq_false_iff_not];intro e;exact hs ⟨b,by rw[<- e];exact a⟩
     rw[this];rfl
    rw[this];cases d:(!(s.2.2&&x.2.2.1))with
    |true=>rw[zy rfl,Ym,zy a];simp[ns,d]
    |false=>rw[zx (by simp)];simp[ns,d,Uy]
  ·rw[zx a,zx a]
   have b:Uy (if keep s x=zt then[x]else[]) k=zn:=by
    split
    ·rw[Ym,zx a]
    ·rfl
   rw[b,Option.none_or];by_cases hs:s.1=zt/\s.2.1=k
   ·rw[zy hs]
    have h:Si k x.1=zt:=by
     rw[<- hs.2];refine Zs (g hs.1) λe=>a ?_;rw[e];exact hs.2
    rw[g9 c rfl h];rfl
   ·rw[zx hs]
theorem bF{a b:List UD}(va:VL a)(l:VL b)(k:XZ):∀ {n:Nat},n<=a.length+b.length->Uy (UR a b n) k=(Uy (a.take (pos a b n).1) k).or (Uy (b.take (pos a b n).2) k)
 |0,_=>rfl
 |n+1,h=>by
  have G:=bF va l k (n:=n) (by omega);obtain⟨q,hs⟩:=Wj va l (n:=n) (by omega);obtain⟨x,c,_⟩:=V6 va l (n:=n) (by omega);rw[W6 va l c,Z0,G,Ym];unfold aU at c;rw[show pos a b (n+1)=if YN a b (pos a b n).1 (pos a b n).2=zt then((pos a b n).1+1,(pos a b n).2)else((pos a b n).1,(pos a b n).2+1)from rfl]
  revert c q;generalize (pos a b n).1=i;generalize (pos a b n).2=j;intro q c;cases g:YN a b i j with
  |true=>
   rw[zy g]at c;rw[zy rfl];simp only;rw[hV,c,s8,Z0,Ym,ey,ey]
   congr 1
   by_cases r:x.1=k
   ·rw[zy r]
    have:Uy (b.take j) k=zn:=Yl λy F=>by
     obtain⟨m,o⟩:=bf F;rw[hI]at o;split at o
     ·rename_i E;have D:=q.jb;have f:b[j-1]?=zo b[j-1]:=ba (by omega);have B:=q.pb (j-1) (by omega) _ x f c
      have C:Si b[j-1].1 y.1=zf:=by
       by_cases s:m=j-1
       ·subst s;rw[f]at o;cases o;exact W8 _
       ·have A:=l.asc
        have:∀ d,m+d+1<=j-1 -> ∀ z,b[m+d+1]?=zo z->Si y.1 z.1=zt:=by
         intro d
         induction d with
         |zero=>intro _ z t;exact l.lt o t
         |succ d u=>
          intro I z t;have p:b[m+d+1]?=zo b[m+d+1]:=ba (by omega);exact Ws (u (by omega) _ p) (l.lt p t)
        exact VY (this (j-1-m-1) (by omega) _ (by rw[show m+(j-1-m-1)+1=j-1 by omega];exact f))
      intro e;have w:Si y.1 x.1=zt:=bR C B;rw[e,r,W8]at w;cases w
     ·cases o
    rw[this];rfl
   ·rw[zx r];cases Uy (b.take j) k<;>rfl
  |false=>
   rw[zx (show ¬ YN a b i j=zt by rw[g];decide)]at c;rw[zx (show ¬ (zf=zt) by decide)];simp only;rw[hV,c,s8,Z0,Ym,ey]
theorem pn{a b:List UD}(va:VL a)(e:VL b)(c:Bool)(k:XZ):Uy (Vq a b c (a.length+b.length)).2.2.1 k=((Uy a k).or (Uy b k)).filter λx=> !(c&&x.2.2.1):=by
 have f:=Xf va e c (a9 (a.length+b.length));obtain⟨d,hs⟩:=Wj va e (a9 (a.length+b.length));show Uy (WZ (s0 c) (UR a b (a.length+b.length))) k=_;rw[dI k f,zx (by simp),bF va e k (a9 _)];rw[eo (by have:=d.ia;have:=d.jb;omega),eo (by have:=d.ia;have:=d.jb;omega)]
end
end Go.Proofs.YtiehjicadcamiaaGreat.Pl
